/- That Go functions compute their models. Printed by gen2.py. -/
import Derived.Test.YteoihjfnojgnnaaWc
set_option linter.unusedVariables false
namespace Go.Proofs.Yteoihjfnojgnnaa
attribute [local irreducible] wpList wpQuiet Code.wp

set_option maxRecDepth 100000 in
set_option maxHeartbeats 1000000 in
theorem alloc_desk_step_sim {g : World} {T0 : Nat → Prop} {w0 : World} {R : Assn} {p0 : AllocDesk} {b_p0 o_p0 : Nat} {H_p0 : List Value → Assn} {a1 : Option Addr} {n1 : Nat} {c1 : Nat} {p1 : AllocReach} {r : AllocDesk} (hS : Sep g T0 w0 [R, segH (H_p0) enAllocHolder' p0.hold [.int .i64 p0.regs, .slice a1 n1 c1, .int .i64 p0.slots, .int .i64 p0.came], ownA rSeat 37 (.slice a1 n1 c1) p0.seats]) (hL_p0 : Ln b_p0 o_p0 H_p0) (hm : alloc_desk_step p0 p1 = some r) :
    Calls Try.prog 23 #[.pointer (some ⟨b_p0, o_p0, none⟩), .agg (cAllocReach p1).toArray] w0 (RetS T0 w0 fun T w v => ∃ (a7 : Option Addr) (n7 : Nat) (c7 : Nat), v = .tuple #[] ∧ Sep g T w [R, segH (H_p0) enAllocHolder' r.hold [.int .i64 r.regs, .slice a7 n7 c7, .int .i64 r.slots, .int .i64 r.came], ownA rSeat 37 (.slice a7 n7 c7) r.seats] ∧ True) := by
  refine enter (args := [.pointer (some ⟨b_p0, o_p0, none⟩), .agg (cAllocReach p1).toArray]) Try.func23 rfl Try.ntmps23 rfl fun J => ?_
  unfold alloc_desk_step at hm
  refine sq2 (rg (wl rfl (bxS (cs := (cAllocReach p1)) rfl rfl hS fun w1 b1 im1 hS1 => ?_)))
  refine nil (t_then ?_)
  refine sq2 ?_
  obtain ⟨z_1, hln1, hm⟩ := bindS hm
  refine rg (pv (r_mp rfl) (pv (r_nc rfl) (pv (r_fa rfl Try.underlying65 rfl Try.sizeOf3 rfl) (pv (r_ld rfl Try.isAgg3 (hS1.cellB (i := 2) ⟨rfl, rfl⟩ (lnSeg (k := 72) hL_p0 (lenOk_some hln1) enAllocHolder'_len rfl) (j := 3) rfl)) (pv (r_ib rfl rfl rfl) (pv (r_nc rfl) (pv (r_fa rfl Try.underlying65 rfl Try.sizeOf3 rfl) (wl rfl (stB (q := 2) (j := 3) hS1 ⟨rfl, rfl⟩ (lnSeg (k := 72) hL_p0 (lenOk_some hln1) enAllocHolder'_len rfl) rfl rfl rfl Try.sizeOf3 rfl rfl rfl fun w2 im2 hS2 => ?_)))))))))
  have hS2 : Sep g T0 w2 [boxA b1 (cAllocReach p1), R, segH (H_p0) enAllocHolder' p0.hold [.int .i64 p0.regs, .slice a1 n1 c1, .int .i64 p0.slots, .int .i64 (IntKind.wrap .i64 (p0.came + 1))], ownA rSeat 37 (.slice a1 n1 c1) p0.seats] := hS2
  refine nil (t_then ?_)
  refine sq2 (sq2 ?_)
  obtain ⟨u1, hx1, hm⟩ := bindS hm
  refine rq mix (by kernel_rfl) hS2.lt (qv (fun _ hq => r_mp rfl) (qv (fun _ hq => r_nc rfl) (qv (fun _ hq => r_fa rfl Try.underlying65 rfl Try.sizeOf63 rfl) (qv (fun _ hq => r_mp rfl) (qv (fun _ hq => r_nc rfl) (qv (fun _ hq => r_fa rfl Try.underlying65 rfl Try.sizeOf3 rfl) (qv (fun _ hq => r_ld rfl Try.isAgg3 (hq.cell (hS2.cellB (i := 2) ⟨rfl, rfl⟩ (lnSeg (k := 72) hL_p0 (lenOk_some hln1) enAllocHolder'_len rfl) (j := 0) rfl))) (qv (fun _ hq => r_slP rfl (lenOk_some hln1) ⟨_, rfl⟩ hx1 Try.underlying63 Try.sizeOf62) (qv (fun _ hq => r_lnV rfl (hS2.view (i := 2) ⟨rfl, rfl⟩ (vwSeg (m := 12) hL_p0 (lenOk_some hln1) enAllocHolder'_len enAllocHolder'_rp (by decide) hx1)) Try.underlying88) (qv (fun _ hq => r_mi rfl) (qn fun w3 T1 i1 => ?_)))))))))))
  have im3 := i1.imm
  have hS3 := hS2.keep i1 (fun _ h => h)
  refine t_then ?_
  obtain ⟨o1, ho1, hq1⟩ := bindS hm
  obtain ⟨bd1, hbd1, ho1⟩ := loop_open ho1
  refine blk (wp_loop_ghost (fun m a w4 => ∃ (J : Nat → Value) (T2 : Nat → Prop) (x3 : AllocDesk) (x2 : Int), a = env (nf 93) J [(0, .pointer (some ⟨b_p0, o_p0, none⟩)), (3, .pointer (some ⟨b1, 0, none⟩)), (23, .int .i64 (List.length u1 : Int)), (24, .int .i64 x2)] ∧ Im T1 w3 T2 w4 ∧ Sep g T2 w4 [boxA b1 (cAllocReach p1), R, segH (H_p0) enAllocHolder' x3.hold [.int .i64 x3.regs, .slice a1 n1 c1, .int .i64 x3.slots, .int .i64 x3.came], ownA rSeat 37 (.slice a1 n1 c1) x3.seats] ∧ loopM bd1 m (x2, x3) = some o1) NN ⟨_, _, ({ p0 with came := IntKind.wrap .i64 (p0.came + 1) }), 0, env_has ⟨rfl, rfl, rfl, rfl, trivial⟩, Im.refl, hS3.sel [0, 1, 2, 3] rfl, ho1⟩ ?_)
  rintro m _ w4 ⟨J, T2, x3, x2, rfl, im4, hS4, ho1⟩
  obtain ⟨m1, z1, rfl, hm, hn1⟩ := loop_round ho1
  rw [hbd1] at hm
  refine sq2 (rg (pv (r_ib rfl rfl rfl) (nil (t_then ?_))))
  refine sq2 (cnd rfl (fun hb1 => ?_) (fun hb1 => ?_))
  · have hm := ctrue hb1 hm
    refine skp (t_then ?_)
    obtain ⟨kk1, hkk1, hm⟩ := jn_open hm
    refine cut (fun a w5 => ∃ (J : Nat → Value) (T3 : Nat → Prop) (x5 : AllocDesk), a = env (nf 93) J [(0, .pointer (some ⟨b_p0, o_p0, none⟩)), (3, .pointer (some ⟨b1, 0, none⟩)), (23, .int .i64 (List.length u1 : Int)), (24, .int .i64 x2)] ∧ Im T2 w4 T3 w5 ∧ Sep g T3 w5 [boxA b1 (cAllocReach p1), R, segH (H_p0) enAllocHolder' x5.hold [.int .i64 x5.regs, .slice a1 n1 c1, .int .i64 x5.slots, .int .i64 x5.came], ownA rSeat 37 (.slice a1 n1 c1) x5.seats] ∧ kk1 x5 = some z1) ?_ ?_
    · refine blk (sq2 (rg (pv (r_mi rfl) (pv (r_zi rfl) (nil (t_then ?_))))))
      refine sq2 ?_
      obtain ⟨z_2, hln2, hm⟩ := bindS hm
      obtain ⟨u2, hx2, hm⟩ := bindS hm
      obtain ⟨of1, he1⟩ : ∃ z : Nat, z = (o_p0 + 0) + (Int.toNat x2) * 6 := ⟨_, rfl⟩
      refine rg (pv (r_mp rfl) (pv (r_mi rfl) (pv (r_nc rfl) (pv (r_fa rfl Try.underlying65 rfl Try.sizeOf63 rfl) (pv (r_ixA rfl rfl (lenOk_some hln2) hx2 Try.underlying63 Try.sizeOf62 he1) (pv (r_zp rfl) (nil (t_then ?_))))))))
      refine sq2 (rq mix (by kernel_rfl) hS4.lt (qv (fun _ hq => r_mp rfl) (qv (fun _ hq => r_nc rfl) (qv (fun _ hq => r_fa rfl Try.underlying62 rfl Try.sizeOf4 rfl) (qv (fun _ hq => r_ld rfl Try.isAgg4 (hq.cell ((Sep.segEl hS4 (q := 2) ⟨rfl, rfl⟩ hL_p0 enAllocHolder'_len hx2 he1).get (j := 5) rfl))) (qv (fun _ hq => r_mb rfl) (?_)))))))
      rcases Bool.eq_false_or_eq_true u2.held with hb2 | hb2
      · have hm := ctrue hb2 hm
        refine qgT (d0 := 36) rfl rfl hb2 (qv (fun _ hq => r_mp rfl) (qgT (d0 := 36) rfl rfl hb2 (qv (fun _ hq => r_nc rfl) (qgT (d0 := 36) rfl rfl hb2 (qv (fun _ hq => r_fa rfl Try.underlying62 rfl Try.sizeOf60 rfl) (qgT (d0 := 36) rfl rfl hb2 (qv (fun _ hq => r_fa rfl Try.underlying60 rfl Try.sizeOf3 rfl) (qgT (d0 := 36) rfl rfl hb2 (qv (fun _ hq => r_ld rfl Try.isAgg3 (hq.cell ((Sep.segEl hS4 (q := 2) ⟨rfl, rfl⟩ hL_p0 enAllocHolder'_len hx2 he1).get (j := 2) rfl))) (qgT (d0 := 36) rfl rfl hb2 (qv (fun _ hq => r_fa rfl Try.underlying60 rfl Try.sizeOf3 rfl) (qgT (d0 := 36) rfl rfl hb2 (qv (fun _ hq => r_ld rfl Try.isAgg3 (hq.cell (hS4.cell0 (i := 0) ⟨rfl, rfl⟩ (j := 1) rfl))) (qgT (d0 := 36) rfl rfl hb2 (qv (fun _ hq => r_ib rfl rfl rfl) (qv (fun _ hq => r_pkt rfl hb2 rfl) (qn fun w6 T4 i2 => ?_)))))))))))))))))
        have im6 := i2.imm
        have hS5 := hS4.keep i2 (fun _ h => h)
        refine t_then ?_
        refine cnd rfl (fun hb3 => ?_) (fun hb3 => ?_)
        · have hm := ctrue hb3 hm
          obtain ⟨u3, hx3, hm⟩ := bindS hm
          refine rg (pv (r_mp rfl) (pv (r_nc rfl) (pv (r_fa rfl Try.underlying62 rfl Try.sizeOf4 rfl) (wl rfl (stSeg (q := 2) (i := x2) (j := 5) (u := u3) (u' := { u3 with held := false }) hS5 ⟨rfl, rfl⟩ hL_p0 enAllocHolder'_len hx3 he1 rfl rfl rfl Try.sizeOf4 rfl rfl rfl rfl fun w7 im7 hS6 => ?_)))))
          have hS6 : Sep g T4 w7 [boxA b1 (cAllocReach p1), R, segH (H_p0) enAllocHolder' (List.set x3.hold (Int.toNat x2) ({ u3 with held := false })) [.int .i64 x3.regs, .slice a1 n1 c1, .int .i64 x3.slots, .int .i64 x3.came], ownA rSeat 37 (.slice a1 n1 c1) x3.seats] := hS6
          exact nil (t_blk (t_then ⟨_, _, ({ x3 with hold := List.set x3.hold (Int.toNat x2) ({ u3 with held := false }) }), env_has ⟨rfl, rfl, rfl, rfl, trivial⟩, (iT im6 im7), hS6.sel [0, 1, 2, 3] rfl, hm⟩))
        have hm := cfalse hb3 hm
        exact skp (t_blk (t_then ⟨_, _, x3, env_has ⟨rfl, rfl, rfl, rfl, trivial⟩, im6, hS5.sel [0, 1, 2, 3] rfl, hm⟩))
      have hm := cfalse hb2 hm
      refine qgF (d0 := 36) rfl rfl (by rw [hb2]; rfl) (qgF (d0 := 36) rfl rfl (by rw [hb2]; rfl) (qgF (d0 := 36) rfl rfl (by rw [hb2]; rfl) (qgF (d0 := 36) rfl rfl (by rw [hb2]; rfl) (qgF (d0 := 36) rfl rfl (by rw [hb2]; rfl) (qgF (d0 := 36) rfl rfl (by rw [hb2]; rfl) (qgF (d0 := 36) rfl rfl (by rw [hb2]; rfl) (qgF (d0 := 36) rfl rfl (by rw [hb2]; rfl) (qv (fun _ hq => r_pkf rfl hb2 rfl) (qn fun w8 T5 i3 => ?_)))))))))
      have im8 := i3.imm
      have hS7 := hS4.keep i3 (fun _ h => h)
      refine t_then ?_
      refine cnd (b := false) rfl (fun h => nomatch h) (fun _ => ?_)
      exact skp (t_blk (t_then ⟨_, _, x3, env_has ⟨rfl, rfl, rfl, rfl, trivial⟩, im8, hS7.sel [0, 1, 2, 3] rfl, hm⟩))
    rintro _ w5 ⟨J, T3, x5, rfl, im5, hS8, hm⟩
    rw [hkk1] at hm
    have hm := oI hm; subst hm
    exact rg (pv (r_ib rfl rfl rfl) (pv (r_mi rfl) (nil (t_then ⟨m1, Nat.lt_succ_self _, _, _, x5, (IntKind.wrap .i64 (x2 + 1)), env_has ⟨rfl, rfl, rfl, rfl, trivial⟩, (iT im4 im5), hS8.sel [0, 1, 2, 3] rfl, hn1⟩))))
  have hm := cfalse hb1 hm
  have hm := oI hm; subst hm
  have hn1 : _ = Lp.brk _ := hn1
  subst hn1
  have hm := thn_brk hq1
  refine xt (x_then (x_then (x_eq (t_then ?_))))
  refine sq2 (sq2 ?_)
  obtain ⟨y1, hx4, hm⟩ := bindS hm
  refine rg (pv (r_mp rfl) (wl rfl (calS cf38 rfl (alloc_desk_free_sim (p0 := x3) (H_p0 := H_p0) (hS4.bun [0, 1] [2, 3] rfl) hL_p0 hx4) rfl fun v1 T6 w9 im9 rv1 => ?_)))
  obtain ⟨rfl, hS9, _⟩ := rv1
  have hS9 : Sep g T6 w9 [boxA b1 (cAllocReach p1), R, segH (H_p0) enAllocHolder' x3.hold [.int .i64 x3.regs, .slice a1 n1 c1, .int .i64 x3.slots, .int .i64 x3.came], ownA rSeat 37 (.slice a1 n1 c1) x3.seats] := hS9.unb
  refine pv (r_zi rfl) (nil (t_then ?_))
  refine sq2 (rg (pv (r_mi rfl) (pv (r_ib rfl rfl rfl) (nil (t_then ?_)))))
  refine cnd rfl (fun hb5 => ?_) (fun hb5 => ?_)
  · have hm := ctrue hb5 hm
    refine sq2 ?_
    obtain ⟨y2, hx5, hm⟩ := bindS hm
    refine rg (pv (r_mp rfl) (pv (r_mi rfl) (pv (r_ldS rfl Try.isAgg60 Try.sizeOf60 rfl (hS9.cells0 (i := 0) ⟨rfl, rfl⟩ (o := 0) rfl) (cs := (cAllocReach p1))) (wl rfl (calS cf39 rfl (alloc_desk_take_sim (p0 := x3) (H_p0 := H_p0) (p1 := y1) (p2 := p1) (hS9.bun [1] [2, 3] rfl) hL_p0 hx5) rfl fun v2 T7 w10 im10 rv2 => ?_)))))
    obtain ⟨a2, n2, c2, rfl, hS10, _⟩ := rv2
    have hS10 : Sep g T7 w10 [R, segH (H_p0) enAllocHolder' y2.hold [.int .i64 y2.regs, .slice a2 n2 c2, .int .i64 y2.slots, .int .i64 y2.came], ownA rSeat 37 (.slice a2 n2 c2) y2.seats] := hS10.unb
    refine nil (t_then ?_)
    have hm := oI hm; subst hm
    exact rtn (r_then (ret0 rfl ⟨_, rfl, _, (iT im1 (iT im2 (iT im3 (iT im4 (iT im9 im10))))), ⟨_, _, _, rfl, hS10.sel [0, 1, 2] rfl, trivial⟩⟩))
  have hm := cfalse hb5 hm
  refine skp (t_then ?_)
  refine sq2 ?_
  obtain ⟨y3, hx6, hm⟩ := bindS hm
  refine rg (pv (r_mp rfl) (wl rfl (calS cf40 rfl (alloc_desk_last_sim (p0 := x3) (H_p0 := H_p0) (hS9.bun [0, 1] [2, 3] rfl) hL_p0 hx6) rfl fun v3 T8 w11 im11 rv3 => ?_)))
  obtain ⟨rfl, hS11, _⟩ := rv3
  have hS11 : Sep g T8 w11 [boxA b1 (cAllocReach p1), R, segH (H_p0) enAllocHolder' x3.hold [.int .i64 x3.regs, .slice a1 n1 c1, .int .i64 x3.slots, .int .i64 x3.came], ownA rSeat 37 (.slice a1 n1 c1) x3.seats] := hS11.unb
  refine pv (r_zi rfl) (nil (t_then ?_))
  refine sq2 (sq2 (rq mix (by kernel_rfl) hS11.lt (qv (fun _ hq => r_mi rfl) (qv (fun _ hq => r_ib rfl rfl rfl) (qv (fun _ hq => r_mb rfl) (?_))))))
  rcases Bool.eq_false_or_eq_true (decide (y3 < 0)) with hb6 | hb6
  · have hm := ctrue hb6 hm
    refine qgF (d0 := 62) rfl rfl (by rw [hb6]; rfl) (qgF (d0 := 62) rfl rfl (by rw [hb6]; rfl) (qgF (d0 := 62) rfl rfl (by rw [hb6]; rfl) (qgF (d0 := 62) rfl rfl (by rw [hb6]; rfl) (qgF (d0 := 62) rfl rfl (by rw [hb6]; rfl) (qgF (d0 := 62) rfl rfl (by rw [hb6]; rfl) (qgF (d0 := 62) rfl rfl (by rw [hb6]; rfl) (qgF (d0 := 62) rfl rfl (by rw [hb6]; rfl) (qgF (d0 := 62) rfl rfl (by rw [hb6]; rfl) (qgF (d0 := 62) rfl rfl (by rw [hb6]; rfl) (qgF (d0 := 62) rfl rfl (by rw [hb6]; rfl) (qv (fun _ hq => r_pkt rfl hb6 rfl) (qn fun w16 T13 i5 => ?_))))))))))))
    have im16 := i5.imm
    have hS16 := hS11.keep i5 (fun _ h => h)
    refine t_then ?_
    refine cnd (b := true) rfl (fun _ => ?_) (fun h => nomatch h)
    refine sq2 ?_
    obtain ⟨y7, hx12, hm⟩ := bindS hm
    refine rg (pv (r_mp rfl) (pv (r_fa rfl Try.underlying60 rfl Try.sizeOf3 rfl) (pv (r_ld rfl Try.isAgg3 (hS16.cell0 (i := 0) ⟨rfl, rfl⟩ (j := 0) rfl)) (wl rfl (calS cf41 rfl (alloc_desk_slot_sim (p0 := x3) (H_p0 := H_p0) (p1 := p1.r) (hS16.bun [1] [2, 3] rfl) hL_p0 hx12) rfl fun v7 T14 w17 im17 rv7 => ?_)))))
    obtain ⟨a6, n6, c6, rfl, hS17, _⟩ := rv7
    have hS17 : Sep g T14 w17 [R, segH (H_p0) enAllocHolder' y7.hold [.int .i64 y7.regs, .slice a6 n6 c6, .int .i64 y7.slots, .int .i64 y7.came], ownA rSeat 37 (.slice a6 n6 c6) y7.seats] := hS17.unb
    refine nil (t_thenR [] trivial fun J => ?_)
    have hm := oI hm; subst hm
    exact rtn (r_then (ret0 rfl ⟨_, rfl, _, (iT im1 (iT im2 (iT im3 (iT im4 (iT im9 (iT im11 (iT im16 im17))))))), ⟨_, _, _, rfl, hS17.sel [0, 1, 2] rfl, trivial⟩⟩))
  have hm := cfalse hb6 hm
  obtain ⟨z_3, hln3, hm⟩ := bindS hm
  obtain ⟨u4, hx7, hm⟩ := bindS hm
  obtain ⟨of2, he2⟩ : ∃ z : Nat, z = (o_p0 + 0) + (Int.toNat y3) * 6 := ⟨_, rfl⟩
  refine qgT (d0 := 62) rfl rfl hb6 (qv (fun _ hq => r_mp rfl) (qgT (d0 := 62) rfl rfl hb6 (qv (fun _ hq => r_mi rfl) (qgT (d0 := 62) rfl rfl hb6 (qv (fun _ hq => r_nc rfl) (qgT (d0 := 62) rfl rfl hb6 (qv (fun _ hq => r_fa rfl Try.underlying65 rfl Try.sizeOf63 rfl) (qgT (d0 := 62) rfl rfl hb6 (qv (fun _ hq => r_ixA rfl rfl (lenOk_some hln3) hx7 Try.underlying63 Try.sizeOf62 he2) (qgT (d0 := 62) rfl rfl hb6 (qv (fun _ hq => r_fa rfl Try.underlying62 rfl Try.sizeOf60 rfl) (qgT (d0 := 62) rfl rfl hb6 (qv (fun _ hq => r_fa rfl Try.underlying60 rfl Try.sizeOf3 rfl) (qgT (d0 := 62) rfl rfl hb6 (qv (fun _ hq => r_ld rfl Try.isAgg3 (hq.cell ((Sep.segEl hS11 (q := 2) ⟨rfl, rfl⟩ hL_p0 enAllocHolder'_len hx7 he2).get (j := 2) rfl))) (qgT (d0 := 62) rfl rfl hb6 (qv (fun _ hq => r_fa rfl Try.underlying60 rfl Try.sizeOf3 rfl) (qgT (d0 := 62) rfl rfl hb6 (qv (fun _ hq => r_ld rfl Try.isAgg3 (hq.cell (hS11.cell0 (i := 0) ⟨rfl, rfl⟩ (j := 2) rfl))) (qgT (d0 := 62) rfl rfl hb6 (qv (fun _ hq => r_ib rfl rfl rfl) (qv (fun _ hq => r_pkf rfl hb6 rfl) (qn fun w12 T9 i4 => ?_)))))))))))))))))))))))
  have im12 := i4.imm
  have hS12 := hS11.keep i4 (fun _ h => h)
  refine t_then ?_
  refine cnd rfl (fun hb7 => ?_) (fun hb7 => ?_)
  · have hm := ctrue hb7 hm
    refine sq2 ?_
    obtain ⟨y4, hx8, hm⟩ := bindS hm
    refine rg (pv (r_mp rfl) (pv (r_fa rfl Try.underlying60 rfl Try.sizeOf3 rfl) (pv (r_ld rfl Try.isAgg3 (hS12.cell0 (i := 0) ⟨rfl, rfl⟩ (j := 0) rfl)) (wl rfl (calS cf41 rfl (alloc_desk_slot_sim (p0 := x3) (H_p0 := H_p0) (p1 := p1.r) (hS12.bun [1] [2, 3] rfl) hL_p0 hx8) rfl fun v4 T10 w13 im13 rv4 => ?_)))))
    obtain ⟨a3, n3, c3, rfl, hS13, _⟩ := rv4
    have hS13 : Sep g T10 w13 [R, segH (H_p0) enAllocHolder' y4.hold [.int .i64 y4.regs, .slice a3 n3 c3, .int .i64 y4.slots, .int .i64 y4.came], ownA rSeat 37 (.slice a3 n3 c3) y4.seats] := hS13.unb
    refine nil (t_thenR [] trivial fun J => ?_)
    have hm := oI hm; subst hm
    exact rtn (r_then (ret0 rfl ⟨_, rfl, _, (iT im1 (iT im2 (iT im3 (iT im4 (iT im9 (iT im11 (iT im12 im13))))))), ⟨_, _, _, rfl, hS13.sel [0, 1, 2] rfl, trivial⟩⟩))
  have hm := cfalse hb7 hm
  refine skp (t_thenR [(0, .pointer (some ⟨b_p0, o_p0, none⟩)), (3, .pointer (some ⟨b1, 0, none⟩)), (7, .int .i64 y3)] ⟨rfl, rfl, rfl, trivial⟩ fun J => ?_)
  refine sq2 ?_
  obtain ⟨u5, hx9, hm⟩ := bindS hm
  obtain ⟨of3, he3⟩ : ∃ z : Nat, z = (o_p0 + 0) + (Int.toNat y3) * 6 := ⟨_, rfl⟩
  obtain ⟨y5, hx10, hm⟩ := bindS hm
  refine rg (pv (r_mp rfl) (pv (r_mp rfl) (pv (r_mi rfl) (pv (r_nc rfl) (pv (r_fa rfl Try.underlying65 rfl Try.sizeOf63 rfl) (pv (r_ixA rfl rfl (lenOk_some hln3) hx9 Try.underlying63 Try.sizeOf62 he3) (pv (r_fa rfl Try.underlying62 rfl Try.sizeOf60 rfl) (pv (r_fa rfl Try.underlying60 rfl Try.sizeOf3 rfl) (pv (r_ld rfl Try.isAgg3 ((Sep.segEl hS12 (q := 2) ⟨rfl, rfl⟩ hL_p0 enAllocHolder'_len hx9 he3).get (j := 0) rfl)) (wl rfl (calS cf41 rfl (alloc_desk_slot_sim (p0 := x3) (H_p0 := H_p0) (p1 := u5.reach.r) (hS12.bun [0, 1] [2, 3] rfl) hL_p0 hx10) rfl fun v5 T11 w14 im14 rv5 => ?_)))))))))))
  obtain ⟨a4, n4, c4, rfl, hS14, _⟩ := rv5
  have hS14 : Sep g T11 w14 [boxA b1 (cAllocReach p1), R, segH (H_p0) enAllocHolder' y5.hold [.int .i64 y5.regs, .slice a4 n4 c4, .int .i64 y5.slots, .int .i64 y5.came], ownA rSeat 37 (.slice a4 n4 c4) y5.seats] := hS14.unb
  refine nil (t_then ?_)
  obtain ⟨y6, hx11, hm⟩ := bindS hm
  refine rg (pv (r_mp rfl) (pv (r_mi rfl) (pv (r_ldS rfl Try.isAgg60 Try.sizeOf60 rfl (hS14.cells0 (i := 0) ⟨rfl, rfl⟩ (o := 0) rfl) (cs := (cAllocReach p1))) (wl rfl (calS cf39 rfl (alloc_desk_take_sim (p0 := y5) (H_p0 := H_p0) (p1 := y3) (p2 := p1) (hS14.bun [1] [2, 3] rfl) hL_p0 hx11) rfl fun v6 T12 w15 im15 rv6 => ?_)))))
  obtain ⟨a5, n5, c5, rfl, hS15, _⟩ := rv6
  have hS15 : Sep g T12 w15 [R, segH (H_p0) enAllocHolder' y6.hold [.int .i64 y6.regs, .slice a5 n5 c5, .int .i64 y6.slots, .int .i64 y6.came], ownA rSeat 37 (.slice a5 n5 c5) y6.seats] := hS15.unb
  have hm := oI hm; subst hm
  exact nil (end0 rfl ⟨_, rfl, _, (iT im1 (iT im2 (iT im3 (iT im4 (iT im9 (iT im11 (iT im12 (iT im14 im15)))))))), ⟨_, _, _, rfl, hS15.sel [0, 1, 2] rfl, trivial⟩⟩)

set_option maxRecDepth 100000 in
set_option maxHeartbeats 1000000 in
theorem alloc_Assign_sim {g : World} {T0 : Nat → Prop} {w0 : World} {R : Assn} {p0 : Proc} {a1 : Option Addr} {c1 : Nat} {a2 : Option Addr} {c2 : Nat} {p1 : Int} {r : (List Seat) × Int × Int} (hS : Sep g T0 w0 [R]) (h1 : SlR rGSlot T0 w0 (.slice a1 (List.length p0.Objects) c1) p0.Objects) (h2 : SlR rGBlock T0 w0 (.slice a2 (List.length p0.Blocks) c2) p0.Blocks) (hm : alloc_Assign p0 p1 = some r) :
    Calls Try.prog 8 #[.agg (cProc p0 a1 c1 a2 c2).toArray, .int .i64 p1] w0 (RetS T0 w0 fun T w v => ∃ (a10 : Option Addr) (n8 : Nat) (c10 : Nat), v = .tuple #[.slice a10 n8 c10, .int .i64 r.2.1, .int .i64 r.2.2] ∧ Sep g T w [R, ownA rSeat 37 (.slice a10 n8 c10) r.1] ∧ True) := by
  refine enter (args := [.agg (cProc p0 a1 c1 a2 c2).toArray, .int .i64 p1]) Try.func8 rfl Try.ntmps8 rfl fun J => ?_
  unfold alloc_Assign at hm
  refine sq2 (rg (wl rfl (bxS (cs := (cProc p0 a1 c1 a2 c2)) rfl rfl hS fun w1 b1 im1 hS1 => ?_)))
  refine pv (r_zs rfl) (pv (r_zi rfl) (pv (r_zi rfl) (nil (t_then ?_))))
  refine sq2 (sq2 (rg (pv (r_mi rfl) (pv (r_ib rfl rfl rfl) (pv (r_mb rfl) (?_))))))
  rcases Bool.eq_false_or_eq_true (decide (p1 < 0)) with hb1 | hb1
  · have hm := ctrue hb1 hm
    refine gF (d0 := 13) rfl rfl (by rw [hb1]; rfl) (gF (d0 := 13) rfl rfl (by rw [hb1]; rfl) (pv (r_pkt rfl hb1 rfl) (nil (t_then ?_))))
    refine cnd (b := true) rfl (fun _ => ?_) (fun h => nomatch h)
    refine sq2 (rg (pv (r_zs rfl) (pv (r_zi rfl) (pv (r_zi rfl) (nil (t_then ?_))))))
    have hS17 := hS1.nilO rSeat 37
    have hm := oI hm; subst hm
    exact rtn (r_then (retN (vs := [.slice none 0 0, .int .i64 0, .int .i64 1]) rfl ⟨rfl, rfl, rfl, trivial⟩ rfl ⟨_, rfl, _, im1, ⟨_, _, _, rfl, hS17.sel [2, 0] rfl, trivial⟩⟩))
  have hm := cfalse hb1 hm
  refine gT (d0 := 13) rfl rfl hb1 (pv (r_mi rfl) (gT (d0 := 13) rfl rfl hb1 (pv (r_ib rfl rfl rfl) (pv (r_pkf rfl hb1 rfl) (nil (t_then ?_))))))
  refine cnd rfl (fun hb2 => ?_) (fun hb2 => ?_)
  · have hm := ctrue hb2 hm
    refine sq2 (rg (pv (r_zs rfl) (pv (r_zi rfl) (pv (r_zi rfl) (nil (t_then ?_))))))
    have hS2 := hS1.nilO rSeat 37
    have hm := oI hm; subst hm
    exact rtn (r_then (retN (vs := [.slice none 0 0, .int .i64 0, .int .i64 1]) rfl ⟨rfl, rfl, rfl, trivial⟩ rfl ⟨_, rfl, _, im1, ⟨_, _, _, rfl, hS2.sel [2, 0] rfl, trivial⟩⟩))
  have hm := cfalse hb2 hm
  refine skp (t_then ?_)
  refine sq2 ?_
  obtain ⟨y1, hx1, hm⟩ := bindS hm
  refine rg (pv (r_ldS rfl Try.isAgg31 Try.sizeOf31 rfl (hS1.cells0 (i := 0) ⟨rfl, rfl⟩ (o := 0) rfl) (cs := (cProc p0 a1 c1 a2 c2))) (wl rfl (calS cf16 rfl (alloc_ranges_sim (p0 := p0) (hS1.bun [1] [] rfl) (h1.mono im1) (h2.mono im1) hx1) rfl fun v1 T1 w2 im2 rv1 => ?_)))
  obtain ⟨a3, n1, c3, rfl, hS3, _⟩ := rv1
  have hS3 : Sep g T1 w2 [R, ownA rAllocReach 60 (.slice a3 n1 c3) y1] := hS3.unb
  refine pv (r_zs rfl) (nil (t_then ?_))
  refine sq2 (rg (pv (r_mi rfl) (pv (r_bd (by kernel_rfl) rfl (u := .agg #[.int .i64 0, .int .i64 0, .int .i64 0, .bool false, .int .i64 0, .bool false, .int .i64 0, .int .i64 0, .int .i64 0, .bool false, .int .i64 0, .bool false, .int .i64 0, .int .i64 0, .int .i64 0, .bool false, .int .i64 0, .bool false, .int .i64 0, .int .i64 0, .int .i64 0, .bool false, .int .i64 0, .bool false, .int .i64 0, .int .i64 0, .int .i64 0, .bool false, .int .i64 0, .bool false, .int .i64 0, .int .i64 0, .int .i64 0, .bool false, .int .i64 0, .bool false, .int .i64 0, .int .i64 0, .int .i64 0, .bool false, .int .i64 0, .bool false, .int .i64 0, .int .i64 0, .int .i64 0, .bool false, .int .i64 0, .bool false, .int .i64 0, .int .i64 0, .int .i64 0, .bool false, .int .i64 0, .bool false, .int .i64 0, .int .i64 0, .int .i64 0, .bool false, .int .i64 0, .bool false, .int .i64 0, .int .i64 0, .int .i64 0, .bool false, .int .i64 0, .bool false, .int .i64 0, .int .i64 0, .int .i64 0, .bool false, .int .i64 0, .bool false, .int .i64 p1, .slice none 0 0, .int .i64 0, .int .i64 0])) (wl rfl (bxS (cs := [.int .i64 0, .int .i64 0, .int .i64 0, .bool false, .int .i64 0, .bool false, .int .i64 0, .int .i64 0, .int .i64 0, .bool false, .int .i64 0, .bool false, .int .i64 0, .int .i64 0, .int .i64 0, .bool false, .int .i64 0, .bool false, .int .i64 0, .int .i64 0, .int .i64 0, .bool false, .int .i64 0, .bool false, .int .i64 0, .int .i64 0, .int .i64 0, .bool false, .int .i64 0, .bool false, .int .i64 0, .int .i64 0, .int .i64 0, .bool false, .int .i64 0, .bool false, .int .i64 0, .int .i64 0, .int .i64 0, .bool false, .int .i64 0, .bool false, .int .i64 0, .int .i64 0, .int .i64 0, .bool false, .int .i64 0, .bool false, .int .i64 0, .int .i64 0, .int .i64 0, .bool false, .int .i64 0, .bool false, .int .i64 0, .int .i64 0, .int .i64 0, .bool false, .int .i64 0, .bool false, .int .i64 0, .int .i64 0, .int .i64 0, .bool false, .int .i64 0, .bool false, .int .i64 0, .int .i64 0, .int .i64 0, .bool false, .int .i64 0, .bool false, .int .i64 p1, .slice none 0 0, .int .i64 0, .int .i64 0]) rfl rfl hS3 fun w3 b2 im3 hS4 => ?_)))))
  have hS4 : Sep g T1 w3 [segH (boxA b2) enAllocHolder' (List.replicate 12 (⟨(⟨0, 0, 0, false⟩ : AllocReach), 0, false⟩ : AllocHolder)) [.int .i64 p1, .slice none 0 0, .int .i64 0, .int .i64 0], R, ownA rAllocReach 60 (.slice a3 n1 c3) y1] := hS4
  refine pv (r_zp rfl) (nil (t_then ?_))
  refine sq2 (sq2 (rg (pv (r_ms rfl) (pv (r_lnV rfl (hS4.own (i := 2) ⟨rfl, rfl⟩).v Try.underlying56) (pv (r_mi rfl) (nil (t_then ?_)))))))
  obtain ⟨o1, ho1, hq1⟩ := bindS hm
  obtain ⟨bd1, hbd1, ho1⟩ := loop_open ho1
  have hS5 := hS4.nilO rSeat 37
  refine blk (wp_loop_ghost (fun m a w4 => ∃ (J : Nat → Value) (T2 : Nat → Prop) (x3 : AllocDesk) (a4 : Option Addr) (n2 : Nat) (c4 : Nat) (x2 : Int), a = env (nf 59) J [(7, .slice a3 n1 c3), (8, .pointer (some ⟨b2, 0, none⟩)), (23, .int .i64 (List.length y1 : Int)), (24, .int .i64 x2)] ∧ Im T1 w3 T2 w4 ∧ Sep g T2 w4 [ownA rSeat 37 (.slice a4 n2 c4) x3.seats, segH (boxA b2) enAllocHolder' x3.hold [.int .i64 x3.regs, .slice a4 n2 c4, .int .i64 x3.slots, .int .i64 x3.came], R, ownA rAllocReach 60 (.slice a3 n1 c3) y1] ∧ loopM bd1 m (x2, x3) = some o1) NN ⟨_, _, (⟨List.replicate 12 (⟨(⟨0, 0, 0, false⟩ : AllocReach), 0, false⟩ : AllocHolder), p1, [], 0, 0⟩ : AllocDesk), _, _, _, 0, env_has ⟨rfl, rfl, rfl, rfl, trivial⟩, Im.refl, hS5.sel [0, 1, 2, 3] rfl, ho1⟩ ?_)
  rintro m _ w4 ⟨J, T2, x3, a4, n2, c4, x2, rfl, im4, hS6, ho1⟩
  obtain ⟨m1, z1, rfl, hm, hn1⟩ := loop_round ho1
  rw [hbd1] at hm
  refine sq2 (rg (pv (r_ib rfl rfl rfl) (nil (t_then ?_))))
  refine sq2 (cnd rfl (fun hb3 => ?_) (fun hb3 => ?_))
  · have hm := ctrue hb3 hm
    refine skp (t_then ?_)
    refine sq2 (blk ?_)
    obtain ⟨z_1, hln1, hm⟩ := bindS hm
    refine rg (pv (r_mp rfl) (pv (r_mp rfl) (pv (r_nc rfl) (pv (r_fa rfl Try.underlying65 rfl Try.sizeOf32 rfl) (pv (r_ld rfl Try.isAgg32 (hS6.cellB (i := 1) ⟨rfl, rfl⟩ (lnSeg (k := 72) (lnBox b2) (lenOk_some hln1) enAllocHolder'_len rfl) (j := 1) rfl)) (pv (r_bd (by kernel_rfl) rfl (u := .agg #[.int .i64 0, .int .i64 (-1)])) (wl rfl (bsS (r := rSeat) (l := ([(⟨0, (-1)⟩ : Seat)] : List Seat)) (css := [[.int .i64 0, .int .i64 (-1)]]) hS6 Try.underlying32 Try.sizeOf37 Try.zeroValue37 rfl rfl (by kernel_rfl) rfl ⟨(rSeat_mk (x := (⟨0, (-1)⟩ : Seat))  : rSeat.rp _ _ _ _), trivial⟩ rfl rfl fun w5 a5 n3 c5 im5 hS7 => ?_))))))))
    obtain ⟨z_2, hro1, hm⟩ := bindS hm
    refine wl rfl (apO (q := 1) (l := x3.seats) (us := ([(⟨0, (-1)⟩ : Seat)] : List Seat)) hS7 ⟨rfl, rfl⟩ rfl rfl (hS7.own (i := 0) ⟨rfl, rfl⟩).v Try.underlying32 el37 (room_some hro1) fun w6 a6 n4 c6 im6 hS8 => ?_)
    have hS8 : Sep g T2 w6 [ownA rSeat 37 (.slice a5 n3 c5) ([(⟨0, (-1)⟩ : Seat)] : List Seat), ownA rSeat 37 (.slice a6 n4 c6) (x3.seats ++ ([(⟨0, (-1)⟩ : Seat)] : List Seat)), segH (boxA b2) enAllocHolder' x3.hold [.int .i64 x3.regs, .slice a4 n2 c4, .int .i64 x3.slots, .int .i64 x3.came], R, ownA rAllocReach 60 (.slice a3 n1 c3) y1] := hS8
    refine pv (r_nc rfl) (pv (r_fa rfl Try.underlying65 rfl Try.sizeOf32 rfl) (wl rfl (stB (q := 2) (j := 1) hS8 ⟨rfl, rfl⟩ (lnSeg (k := 72) (lnBox b2) (lenOk_some hln1) enAllocHolder'_len rfl) rfl rfl rfl Try.sizeOf32 rfl rfl rfl fun w7 im7 hS9 => ?_)))
    have hS9 : Sep g T2 w7 [ownA rSeat 37 (.slice a5 n3 c5) ([(⟨0, (-1)⟩ : Seat)] : List Seat), ownA rSeat 37 (.slice a6 n4 c6) (x3.seats ++ ([(⟨0, (-1)⟩ : Seat)] : List Seat)), segH (boxA b2) enAllocHolder' x3.hold [.int .i64 x3.regs, .slice a6 n4 c6, .int .i64 x3.slots, .int .i64 x3.came], R, ownA rAllocReach 60 (.slice a3 n1 c3) y1] := hS9
    refine nil (t_blk (t_then ?_))
    have hm := oI hm; subst hm
    exact rg (pv (r_ib rfl rfl rfl) (pv (r_mi rfl) (nil (t_then ⟨m1, Nat.lt_succ_self _, _, _, ({ x3 with seats := x3.seats ++ ([(⟨0, (-1)⟩ : Seat)] : List Seat) }), _, _, _, (IntKind.wrap .i64 (x2 + 1)), env_has ⟨rfl, rfl, rfl, rfl, trivial⟩, (iT im4 (iT im5 (iT im6 im7))), hS9.sel [1, 2, 3, 4] rfl, hn1⟩))))
  have hm := cfalse hb3 hm
  have hm := oI hm; subst hm
  have hn1 : _ = Lp.brk _ := hn1
  subst hn1
  have hm := thn_brk hq1
  refine xt (x_then (x_then (x_eq (t_then ?_))))
  refine sq2 ?_
  obtain ⟨y2, hx2, hm⟩ := bindS hm
  refine rg (pv (r_ms rfl) (wl rfl (calS cf17 rfl (slices_DeleteFunc_2_sim (p0 := y1) (hS6.bun [0, 1, 2] [3] rfl)  hx2) rfl fun v2 T3 w8 im8 rv2 => ?_)))
  obtain ⟨a7, n5, c7, rfl, hS10, _⟩ := rv2
  have hS10 : Sep g T3 w8 [ownA rSeat 37 (.slice a4 n2 c4) x3.seats, segH (boxA b2) enAllocHolder' x3.hold [.int .i64 x3.regs, .slice a4 n2 c4, .int .i64 x3.slots, .int .i64 x3.came], R, ownA rAllocReach 60 (.slice a7 n5 c7) y2] := hS10.unb
  refine pv (r_zs rfl) (nil (t_then ?_))
  refine sq2 ?_
  obtain ⟨y3, hx3, hm⟩ := bindS hm
  refine rg (pv (r_ms rfl) (wl rfl (calS cf19 rfl (slices_SortFunc_sim (p0 := y2) (hS10.bun [0, 1, 2] [3] rfl)  hx3) rfl fun v3 T4 w9 im9 rv3 => ?_)))
  obtain ⟨rfl, hS11, _⟩ := rv3
  have hS11 : Sep g T4 w9 [ownA rSeat 37 (.slice a4 n2 c4) x3.seats, segH (boxA b2) enAllocHolder' x3.hold [.int .i64 x3.regs, .slice a4 n2 c4, .int .i64 x3.slots, .int .i64 x3.came], R, ownA rAllocReach 60 (.slice a7 n5 c7) y3] := hS11.unb
  refine nil (t_then ?_)
  refine sq2 (sq2 (rg (pv (r_ms rfl) (pv (r_lnV rfl (hS11.own (i := 3) ⟨rfl, rfl⟩).v Try.underlying56) (pv (r_mi rfl) (nil (t_then ?_)))))))
  obtain ⟨o1, ho1, hq1⟩ := bindS hm
  obtain ⟨bd1, hbd1, ho1⟩ := loop_open ho1
  refine blk (wp_loop_ghost (fun m a w10 => ∃ (J : Nat → Value) (T5 : Nat → Prop) (x6 : AllocDesk) (a8 : Option Addr) (n6 : Nat) (c8 : Nat) (x5 : Int), a = env (nf 59) J [(8, .pointer (some ⟨b2, 0, none⟩)), (41, .slice a7 n5 c7), (42, .int .i64 (List.length y3 : Int)), (43, .int .i64 x5)] ∧ Im T4 w9 T5 w10 ∧ Sep g T5 w10 [ownA rSeat 37 (.slice a8 n6 c8) x6.seats, segH (boxA b2) enAllocHolder' x6.hold [.int .i64 x6.regs, .slice a8 n6 c8, .int .i64 x6.slots, .int .i64 x6.came], R, ownA rAllocReach 60 (.slice a7 n5 c7) y3] ∧ loopM bd1 m (x5, x6) = some o1) NN ⟨_, _, x3, _, _, _, 0, env_has ⟨rfl, rfl, rfl, rfl, trivial⟩, Im.refl, hS11.sel [0, 1, 2, 3] rfl, ho1⟩ ?_)
  rintro m _ w10 ⟨J, T5, x6, a8, n6, c8, x5, rfl, im10, hS12, ho1⟩
  obtain ⟨m1, z1, rfl, hm, hn1⟩ := loop_round ho1
  rw [hbd1] at hm
  refine sq2 (rg (pv (r_ib rfl rfl rfl) (nil (t_then ?_))))
  refine sq2 (cnd rfl (fun hb4 => ?_) (fun hb4 => ?_))
  · have hm := ctrue hb4 hm
    refine skp (t_then ?_)
    refine sq2 (blk (sq2 ?_))
    obtain ⟨u1, hx4, hm⟩ := bindS hm
    obtain ⟨b3, of1, cs1, k1, cp1, hv1, hp1, hl1, he1, hr1, hc1⟩ := (hS12.own (i := 3) ⟨rfl, rfl⟩).v.ixq hx4 rfl
    cases rAllocReach_open hr1
    refine rg (pv (r_ixe hv1 rfl Try.underlying56 Try.sizeOf60 hp1 hl1 he1) (pv (r_ldS rfl Try.isAgg60 Try.sizeOf60 rfl hc1 (cs := (cAllocReach u1))) (wl rfl (alS (zs := [.int .i64 0, .int .i64 0, .int .i64 0, .bool false]) Try.zeroValue60 rfl hS12 fun w11 b4 im11 hS13 => ?_))))
    refine wl rfl (st0B (q := 0) hS13 ⟨rfl, rfl⟩ rfl rfl rfl Try.sizeOf60 rfl rfl rfl fun w12 im12 hS14 => ?_)
    have hS14 : Sep g T5 w12 [boxA b4 (cAllocReach u1), ownA rSeat 37 (.slice a8 n6 c8) x6.seats, segH (boxA b2) enAllocHolder' x6.hold [.int .i64 x6.regs, .slice a8 n6 c8, .int .i64 x6.slots, .int .i64 x6.came], R, ownA rAllocReach 60 (.slice a7 n5 c7) y3] := hS14
    refine nil (t_then ?_)
    obtain ⟨y4, hx5, hm⟩ := bindS hm
    refine rg (pv (r_mp rfl) (pv (r_ldS rfl Try.isAgg60 Try.sizeOf60 rfl (hS14.cells0 (i := 0) ⟨rfl, rfl⟩ (o := 0) rfl) (cs := (cAllocReach u1))) (wl rfl (calS cf23 rfl (alloc_desk_step_sim (p0 := x6) (H_p0 := boxA b2) (p1 := u1) (hS14.bun [3, 4] [2, 1] rfl) (lnBox b2) hx5) rfl fun v4 T6 w13 im13 rv4 => ?_))))
    obtain ⟨a9, n7, c9, rfl, hS15, _⟩ := rv4
    have hS15 : Sep g T6 w13 [R, ownA rAllocReach 60 (.slice a7 n5 c7) y3, segH (boxA b2) enAllocHolder' y4.hold [.int .i64 y4.regs, .slice a9 n7 c9, .int .i64 y4.slots, .int .i64 y4.came], ownA rSeat 37 (.slice a9 n7 c9) y4.seats] := hS15.unb
    refine nil (t_blk (t_then ?_))
    have hm := oI hm; subst hm
    exact rg (pv (r_ib rfl rfl rfl) (pv (r_mi rfl) (nil (t_then ⟨m1, Nat.lt_succ_self _, _, _, y4, _, _, _, (IntKind.wrap .i64 (x5 + 1)), env_has ⟨rfl, rfl, rfl, rfl, trivial⟩, (iT im10 (iT im11 (iT im12 im13))), hS15.sel [3, 2, 0, 1] rfl, hn1⟩))))
  have hm := cfalse hb4 hm
  have hm := oI hm; subst hm
  have hn1 : _ = Lp.brk _ := hn1
  subst hn1
  have hm := thn_brk hq1
  refine xt (x_then (x_then (x_eq (t_then ?_))))
  refine sq2 ?_
  obtain ⟨z_3, hln2, hm⟩ := bindS hm
  refine rq mix (by kernel_rfl) hS12.lt (qv (fun _ hq => r_mp rfl) (qv (fun _ hq => r_nc rfl) (qv (fun _ hq => r_fa rfl Try.underlying65 rfl Try.sizeOf32 rfl) (qv (fun _ hq => r_ld rfl Try.isAgg32 (hq.cell (hS12.cellB (i := 1) ⟨rfl, rfl⟩ (lnSeg (k := 72) (lnBox b2) (lenOk_some hln2) enAllocHolder'_len rfl) (j := 1) rfl))) (qv (fun _ hq => r_mp rfl) (qv (fun _ hq => r_nc rfl) (qv (fun _ hq => r_fa rfl Try.underlying65 rfl Try.sizeOf3 rfl) (qv (fun _ hq => r_ld rfl Try.isAgg3 (hq.cell (hS12.cellB (i := 1) ⟨rfl, rfl⟩ (lnSeg (k := 72) (lnBox b2) (lenOk_some hln2) enAllocHolder'_len rfl) (j := 2) rfl))) (qv (fun _ hq => r_zs rfl) (qv (fun _ hq => r_zi rfl) (qv (fun _ hq => r_zi rfl) (qn fun w14 T7 i1 => ?_))))))))))))
  have im14 := i1.imm
  have hS16 := hS12.keep i1 (fun _ h => h)
  refine t_then ?_
  have hm := oI hm; subst hm
  exact rtn (retN (vs := [.slice a8 n6 c8, .int .i64 x6.slots, .int .i64 0]) rfl ⟨rfl, rfl, rfl, trivial⟩ rfl ⟨_, rfl, _, (iT im1 (iT im2 (iT im3 (iT im4 (iT im8 (iT im9 (iT im10 im14))))))), ⟨_, _, _, rfl, hS16.sel [2, 0] rfl, trivial⟩⟩)

set_option maxRecDepth 100000 in
set_option maxHeartbeats 1000000 in
theorem law24_awake_sim {g : World} {T0 : Nat → Prop} {w0 : World} {R : Assn}  {r : Bool} (hS : Sep g T0 w0 [R])  (hm : law24_awake = some r) :
    Calls Try.prog 7 #[] w0 (RetS T0 w0 fun T w v => v = .bool r ∧ Sep g T w [R] ∧ True) := by
  refine enter (args := []) Try.func7 rfl Try.ntmps7 rfl fun J => ?_
  unfold law24_awake at hm
  refine sq2 (rg (pv (r_zb rfl) (nil (t_then ?_))))
  refine sq2 (rg (pv (r_bd (by kernel_rfl) rfl (u := .agg #[.int .i64 11, .int .i64 0, .int .i64 (-1), .int .i64 (-1), .int .i64 0, .int .i64 0, .int .i64 0, .int .i64 0, .int .u32 0, .slice none 0 0, .bool false])) (pv (r_bd (by kernel_rfl) rfl (u := .agg #[.int .i64 11, .int .i64 1, .int .i64 (-1), .int .i64 (-1), .int .i64 0, .int .i64 0, .int .i64 0, .int .i64 0, .int .u32 0, .slice none 0 0, .bool false])) (pv (r_bd (by kernel_rfl) rfl (u := .agg #[.int .i64 3, .int .i64 2, .int .i64 0, .int .i64 1, .int .i64 1, .int .i64 0, .int .i64 0, .int .i64 0, .int .u32 0, .slice none 0 0, .bool false])) (pv (r_bd (by kernel_rfl) rfl (u := .agg #[.int .i64 10, .int .i64 (-1), .int .i64 2, .int .i64 (-1), .int .i64 0, .int .i64 0, .int .i64 0, .int .i64 0, .int .u32 0, .slice none 0 0, .bool false])) (wl rfl (bsS (r := rIns) (l := ([(⟨11, 0, (-1), (-1), 0, 0, 0, 0, 0, [], false⟩ : Ins), (⟨11, 1, (-1), (-1), 0, 0, 0, 0, 0, [], false⟩ : Ins), (⟨3, 2, 0, 1, 1, 0, 0, 0, 0, [], false⟩ : Ins), (⟨10, (-1), 2, (-1), 0, 0, 0, 0, 0, [], false⟩ : Ins)] : List Ins)) (css := [[.int .i64 11, .int .i64 0, .int .i64 (-1), .int .i64 (-1), .int .i64 0, .int .i64 0, .int .i64 0, .int .i64 0, .int .u32 0, .slice none 0 0, .bool false], [.int .i64 11, .int .i64 1, .int .i64 (-1), .int .i64 (-1), .int .i64 0, .int .i64 0, .int .i64 0, .int .i64 0, .int .u32 0, .slice none 0 0, .bool false], [.int .i64 3, .int .i64 2, .int .i64 0, .int .i64 1, .int .i64 1, .int .i64 0, .int .i64 0, .int .i64 0, .int .u32 0, .slice none 0 0, .bool false], [.int .i64 10, .int .i64 (-1), .int .i64 2, .int .i64 (-1), .int .i64 0, .int .i64 0, .int .i64 0, .int .i64 0, .int .u32 0, .slice none 0 0, .bool false]]) hS Try.underlying40 Try.sizeOf46 Try.zeroValue46 rfl rfl (by kernel_rfl) rfl ⟨(rIns_mk (x := (⟨11, 0, (-1), (-1), 0, 0, 0, 0, 0, [], false⟩ : Ins)) SlR_nil : rIns.rp _ _ _ _), (rIns_mk (x := (⟨11, 1, (-1), (-1), 0, 0, 0, 0, 0, [], false⟩ : Ins)) SlR_nil : rIns.rp _ _ _ _), (rIns_mk (x := (⟨3, 2, 0, 1, 1, 0, 0, 0, 0, [], false⟩ : Ins)) SlR_nil : rIns.rp _ _ _ _), (rIns_mk (x := (⟨10, (-1), 2, (-1), 0, 0, 0, 0, 0, [], false⟩ : Ins)) SlR_nil : rIns.rp _ _ _ _), trivial⟩ rfl rfl fun w1 a1 n1 c1 im1 hS1 => ?_)))))))
  refine pv (r_zs rfl) (nil (t_then ?_))
  refine sq2 (rg (pv (r_ms rfl) (pv (r_bd (by kernel_rfl) rfl (u := .agg #[.slice a1 n1 c1, .int .i64 3, .int .i64 (-1), .int .i64 0, .int .i64 0])) (?_))))
  obtain ⟨T1, im2, hS2, h1⟩ := hS1.seal 0 ⟨rfl, rfl⟩
  have hsh := h1.len
  subst hsh
  have hS2 : Sep g T1 w1 [empA, R] := hS2
  refine wl rfl (bsS (r := rGBlock) (l := ([(⟨([(⟨11, 0, (-1), (-1), 0, 0, 0, 0, 0, [], false⟩ : Ins), (⟨11, 1, (-1), (-1), 0, 0, 0, 0, 0, [], false⟩ : Ins), (⟨3, 2, 0, 1, 1, 0, 0, 0, 0, [], false⟩ : Ins), (⟨10, (-1), 2, (-1), 0, 0, 0, 0, 0, [], false⟩ : Ins)] : List Ins), 3, (-1), 0, 0⟩ : GBlock)] : List GBlock)) (css := [[.slice a1 (List.length ([(⟨11, 0, (-1), (-1), 0, 0, 0, 0, 0, [], false⟩ : Ins), (⟨11, 1, (-1), (-1), 0, 0, 0, 0, 0, [], false⟩ : Ins), (⟨3, 2, 0, 1, 1, 0, 0, 0, 0, [], false⟩ : Ins), (⟨10, (-1), 2, (-1), 0, 0, 0, 0, 0, [], false⟩ : Ins)] : List Ins)) c1, .int .i64 3, .int .i64 (-1), .int .i64 0, .int .i64 0]]) hS2 Try.underlying29 Try.sizeOf42 Try.zeroValue42 rfl rfl (by kernel_rfl) rfl ⟨(rGBlock_mk (x := (⟨([(⟨11, 0, (-1), (-1), 0, 0, 0, 0, 0, [], false⟩ : Ins), (⟨11, 1, (-1), (-1), 0, 0, 0, 0, 0, [], false⟩ : Ins), (⟨3, 2, 0, 1, 1, 0, 0, 0, 0, [], false⟩ : Ins), (⟨10, (-1), 2, (-1), 0, 0, 0, 0, 0, [], false⟩ : Ins)] : List Ins), 3, (-1), 0, 0⟩ : GBlock)) h1 : rGBlock.rp _ _ _ _), trivial⟩ rfl rfl fun w2 a2 n2 c2 im3 hS3 => ?_)
  refine pv (r_bd (by kernel_rfl) rfl (u := .agg #[.string ⟨([] : List UInt8).toArray⟩, .bool true, .int .i64 0, .int .i64 3, .slice none 0 0, .slice a2 n2 c2])) (?_)
  obtain ⟨T2, im4, hS4, h2⟩ := hS3.seal 0 ⟨rfl, rfl⟩
  have hsh := h2.len
  subst hsh
  have hS4 : Sep g T2 w2 [empA, empA, R] := hS4
  obtain ⟨y1, hx1, hm⟩ := bindS hm
  refine wl rfl (calS cf8 rfl (alloc_Assign_sim (p0 := (⟨([] : List UInt8), true, 0, 3, [], ([(⟨([(⟨11, 0, (-1), (-1), 0, 0, 0, 0, 0, [], false⟩ : Ins), (⟨11, 1, (-1), (-1), 0, 0, 0, 0, 0, [], false⟩ : Ins), (⟨3, 2, 0, 1, 1, 0, 0, 0, 0, [], false⟩ : Ins), (⟨10, (-1), 2, (-1), 0, 0, 0, 0, 0, [], false⟩ : Ins)] : List Ins), 3, (-1), 0, 0⟩ : GBlock)] : List GBlock)⟩ : Proc)) (p1 := 12) (hS4.bun [2] [] rfl) SlR_nil h2 hx1) rfl fun v1 T3 w3 im5 rv1 => ?_)
  obtain ⟨a3, n3, c3, rfl, hS5, _⟩ := rv1
  have hS5 : Sep g T3 w3 [R, ownA rSeat 37 (.slice a3 n3 c3) y1.1] := hS5.unb
  refine pv (r_mv rfl) (pv (r_ex (v := .slice a3 n3 c3) rfl rfl) (pv (r_ex (v := .int .i64 y1.2.1) rfl rfl) (pv (r_ex (v := .int .i64 y1.2.2) rfl rfl) (pv (r_zs rfl) (pv (r_zi rfl) (pv (r_zi rfl) (nil (t_then ?_))))))))
  refine sq2 (rg (pv (r_mi rfl) (pv (r_ib rfl rfl rfl) (pv (r_mb rfl) (?_)))))
  rcases Bool.eq_false_or_eq_true (y1.2.2 == 0) with hb1 | hb1
  · have hm := ctrue hb1 hm
    refine gT (d0 := 21) rfl rfl hb1 (pv (r_mi rfl) (gT (d0 := 21) rfl rfl hb1 (pv (r_ib rfl rfl rfl) (pv (r_pkt rfl hb1 rfl) (pv (r_mb rfl) (?_))))))
    rcases Bool.eq_false_or_eq_true (y1.2.1 == 0) with hb2 | hb2
    · have hm := ctrue hb2 hm
      refine gT (d0 := 25) rfl rfl hb2 (pv (r_ms rfl) (gT (d0 := 25) rfl rfl hb2 (pv (r_lnV rfl (hS5.own (i := 1) ⟨rfl, rfl⟩).v Try.underlying32) (gT (d0 := 25) rfl rfl hb2 (pv (r_ib rfl rfl rfl) (pv (r_pkt rfl hb2 rfl) (pv (r_mb rfl) (?_))))))))
      rcases Bool.eq_false_or_eq_true ((List.length y1.1 : Int) == 3) with hb3 | hb3
      · have hm := ctrue hb3 hm
        obtain ⟨u1, hx2, hm⟩ := bindS hm
        obtain ⟨b1, of1, cs1, k1, cp1, hv1, hp1, hl1, he1, hr1, hc1⟩ := (hS5.own (i := 1) ⟨rfl, rfl⟩).v.ixq hx2 rfl
        cases rSeat_open hr1
        refine gT (d0 := 30) rfl rfl hb3 (pv (r_ms rfl) (gT (d0 := 30) rfl rfl hb3 (pv (r_ixe hv1 rfl Try.underlying32 Try.sizeOf37 hp1 hl1 he1) (gT (d0 := 30) rfl rfl hb3 (pv (r_fa rfl Try.underlying37 rfl Try.sizeOf3 rfl) (gT (d0 := 30) rfl rfl hb3 (pv (r_ld rfl Try.isAgg3 (hc1.get (j := 0) rfl)) (gT (d0 := 30) rfl rfl hb3 (pv (r_ib rfl rfl rfl) (pv (r_pkt rfl hb3 rfl) (pv (r_mb rfl) (?_))))))))))))
        rcases Bool.eq_false_or_eq_true (u1.Reg == 8) with hb4 | hb4
        · have hm := ctrue hb4 hm
          obtain ⟨u2, hx3, hm⟩ := bindS hm
          obtain ⟨b2, of2, cs2, k2, cp2, hv2, hp2, hl2, he2, hr2, hc2⟩ := (hS5.own (i := 1) ⟨rfl, rfl⟩).v.ixq hx3 rfl
          cases rSeat_open hr2
          refine gT (d0 := 37) rfl rfl hb4 (pv (r_ms rfl) (gT (d0 := 37) rfl rfl hb4 (pv (r_ixe hv2 rfl Try.underlying32 Try.sizeOf37 hp2 hl2 he2) (gT (d0 := 37) rfl rfl hb4 (pv (r_fa rfl Try.underlying37 rfl Try.sizeOf3 rfl) (gT (d0 := 37) rfl rfl hb4 (pv (r_ld rfl Try.isAgg3 (hc2.get (j := 0) rfl)) (gT (d0 := 37) rfl rfl hb4 (pv (r_ib rfl rfl rfl) (pv (r_pkt rfl hb4 rfl) (pv (r_mb rfl) (?_))))))))))))
          rcases Bool.eq_false_or_eq_true (u2.Reg == 9) with hb5 | hb5
          · have hm := ctrue hb5 hm
            obtain ⟨u3, hx4, hm⟩ := bindS hm
            obtain ⟨b3, of3, cs3, k3, cp3, hv3, hp3, hl3, he3, hr3, hc3⟩ := (hS5.own (i := 1) ⟨rfl, rfl⟩).v.ixq hx4 rfl
            cases rSeat_open hr3
            refine gT (d0 := 44) rfl rfl hb5 (pv (r_ms rfl) (gT (d0 := 44) rfl rfl hb5 (pv (r_ixe hv3 rfl Try.underlying32 Try.sizeOf37 hp3 hl3 he3) (gT (d0 := 44) rfl rfl hb5 (pv (r_fa rfl Try.underlying37 rfl Try.sizeOf3 rfl) (gT (d0 := 44) rfl rfl hb5 (pv (r_ld rfl Try.isAgg3 (hc3.get (j := 0) rfl)) (gT (d0 := 44) rfl rfl hb5 (pv (r_ib rfl rfl rfl) (pv (r_pkt rfl hb5 rfl) (pv (r_zb rfl) (nil (t_thenR [(0, .bool (u3.Reg == 8))] ⟨rfl, trivial⟩ fun J => ?_)))))))))))))
            have hm := oI hm; subst hm
            exact rtn (ret1 rfl rfl ⟨_, rfl, _, (iT im1 (iT im2 (iT im3 (iT im4 im5)))), ⟨rfl, hS5.sel [0] rfl, trivial⟩⟩)
          have hm := cfalse hb5 hm
          refine gF (d0 := 44) rfl rfl (by rw [hb5]; rfl) (gF (d0 := 44) rfl rfl (by rw [hb5]; rfl) (gF (d0 := 44) rfl rfl (by rw [hb5]; rfl) (gF (d0 := 44) rfl rfl (by rw [hb5]; rfl) (gF (d0 := 44) rfl rfl (by rw [hb5]; rfl) (pv (r_pkf rfl hb5 rfl) (pv (r_zb rfl) (nil (t_thenR [(0, .bool false)] ⟨rfl, trivial⟩ fun J => ?_))))))))
          have hm := oI hm; subst hm
          exact rtn (ret1 rfl rfl ⟨_, rfl, _, (iT im1 (iT im2 (iT im3 (iT im4 im5)))), ⟨rfl, hS5.sel [0] rfl, trivial⟩⟩)
        have hm := cfalse hb4 hm
        refine gF (d0 := 37) rfl rfl (by rw [hb4]; rfl) (gF (d0 := 37) rfl rfl (by rw [hb4]; rfl) (gF (d0 := 37) rfl rfl (by rw [hb4]; rfl) (gF (d0 := 37) rfl rfl (by rw [hb4]; rfl) (gF (d0 := 37) rfl rfl (by rw [hb4]; rfl) (pv (r_pkf rfl hb4 rfl) (pv (r_mb rfl) (gF (d0 := 44) rfl rfl rfl (gF (d0 := 44) rfl rfl rfl (gF (d0 := 44) rfl rfl rfl (gF (d0 := 44) rfl rfl rfl (gF (d0 := 44) rfl rfl rfl (pv (r_pkf rfl rfl rfl) (pv (r_zb rfl) (nil (t_thenR [(0, .bool false)] ⟨rfl, trivial⟩ fun J => ?_)))))))))))))))
        have hm := oI hm; subst hm
        exact rtn (ret1 rfl rfl ⟨_, rfl, _, (iT im1 (iT im2 (iT im3 (iT im4 im5)))), ⟨rfl, hS5.sel [0] rfl, trivial⟩⟩)
      have hm := cfalse hb3 hm
      refine gF (d0 := 30) rfl rfl (by rw [hb3]; rfl) (gF (d0 := 30) rfl rfl (by rw [hb3]; rfl) (gF (d0 := 30) rfl rfl (by rw [hb3]; rfl) (gF (d0 := 30) rfl rfl (by rw [hb3]; rfl) (gF (d0 := 30) rfl rfl (by rw [hb3]; rfl) (pv (r_pkf rfl hb3 rfl) (pv (r_mb rfl) (gF (d0 := 37) rfl rfl rfl (gF (d0 := 37) rfl rfl rfl (gF (d0 := 37) rfl rfl rfl (gF (d0 := 37) rfl rfl rfl (gF (d0 := 37) rfl rfl rfl (pv (r_pkf rfl rfl rfl) (pv (r_mb rfl) (gF (d0 := 44) rfl rfl rfl (gF (d0 := 44) rfl rfl rfl (gF (d0 := 44) rfl rfl rfl (gF (d0 := 44) rfl rfl rfl (gF (d0 := 44) rfl rfl rfl (pv (r_pkf rfl rfl rfl) (pv (r_zb rfl) (nil (t_thenR [(0, .bool false)] ⟨rfl, trivial⟩ fun J => ?_))))))))))))))))))))))
      have hm := oI hm; subst hm
      exact rtn (ret1 rfl rfl ⟨_, rfl, _, (iT im1 (iT im2 (iT im3 (iT im4 im5)))), ⟨rfl, hS5.sel [0] rfl, trivial⟩⟩)
    have hm := cfalse hb2 hm
    refine gF (d0 := 25) rfl rfl (by rw [hb2]; rfl) (gF (d0 := 25) rfl rfl (by rw [hb2]; rfl) (gF (d0 := 25) rfl rfl (by rw [hb2]; rfl) (pv (r_pkf rfl hb2 rfl) (pv (r_mb rfl) (gF (d0 := 30) rfl rfl rfl (gF (d0 := 30) rfl rfl rfl (gF (d0 := 30) rfl rfl rfl (gF (d0 := 30) rfl rfl rfl (gF (d0 := 30) rfl rfl rfl (pv (r_pkf rfl rfl rfl) (pv (r_mb rfl) (gF (d0 := 37) rfl rfl rfl (gF (d0 := 37) rfl rfl rfl (gF (d0 := 37) rfl rfl rfl (gF (d0 := 37) rfl rfl rfl (gF (d0 := 37) rfl rfl rfl (pv (r_pkf rfl rfl rfl) (pv (r_mb rfl) (gF (d0 := 44) rfl rfl rfl (gF (d0 := 44) rfl rfl rfl (gF (d0 := 44) rfl rfl rfl (gF (d0 := 44) rfl rfl rfl (gF (d0 := 44) rfl rfl rfl (pv (r_pkf rfl rfl rfl) (pv (r_zb rfl) (nil (t_thenR [(0, .bool false)] ⟨rfl, trivial⟩ fun J => ?_)))))))))))))))))))))))))))
    have hm := oI hm; subst hm
    exact rtn (ret1 rfl rfl ⟨_, rfl, _, (iT im1 (iT im2 (iT im3 (iT im4 im5)))), ⟨rfl, hS5.sel [0] rfl, trivial⟩⟩)
  have hm := cfalse hb1 hm
  refine gF (d0 := 21) rfl rfl (by rw [hb1]; rfl) (gF (d0 := 21) rfl rfl (by rw [hb1]; rfl) (pv (r_pkf rfl hb1 rfl) (pv (r_mb rfl) (gF (d0 := 25) rfl rfl rfl (gF (d0 := 25) rfl rfl rfl (gF (d0 := 25) rfl rfl rfl (pv (r_pkf rfl rfl rfl) (pv (r_mb rfl) (gF (d0 := 30) rfl rfl rfl (gF (d0 := 30) rfl rfl rfl (gF (d0 := 30) rfl rfl rfl (gF (d0 := 30) rfl rfl rfl (gF (d0 := 30) rfl rfl rfl (pv (r_pkf rfl rfl rfl) (pv (r_mb rfl) (gF (d0 := 37) rfl rfl rfl (gF (d0 := 37) rfl rfl rfl (gF (d0 := 37) rfl rfl rfl (gF (d0 := 37) rfl rfl rfl (gF (d0 := 37) rfl rfl rfl (pv (r_pkf rfl rfl rfl) (pv (r_mb rfl) (gF (d0 := 44) rfl rfl rfl (gF (d0 := 44) rfl rfl rfl (gF (d0 := 44) rfl rfl rfl (gF (d0 := 44) rfl rfl rfl (gF (d0 := 44) rfl rfl rfl (pv (r_pkf rfl rfl rfl) (pv (r_zb rfl) (nil (t_thenR [(0, .bool false)] ⟨rfl, trivial⟩ fun J => ?_)))))))))))))))))))))))))))))))
  have hm := oI hm; subst hm
  exact rtn (ret1 rfl rfl ⟨_, rfl, _, (iT im1 (iT im2 (iT im3 (iT im4 im5)))), ⟨rfl, hS5.sel [0] rfl, trivial⟩⟩)

set_option maxRecDepth 100000 in
set_option maxHeartbeats 1000000 in
theorem ref13_fields_sim {g : World} {T0 : Nat → Prop} {w0 : World} {R : Assn} {p0 : Int} {r : (List Bool)} (hS : Sep g T0 w0 [R])  (hm : ref13_fields p0 = some r) :
    Calls Try.prog 26 #[.int .i64 p0] w0 (RetS T0 w0 fun T w v => ∃ (a15 : Option Addr) (c15 : Nat), v = .slice a15 (List.length r) c15 ∧ Sep g T w [R] ∧ SlR rBool T w (.slice a15 (List.length r) c15) r ∧ True) := by
  refine enter (args := [.int .i64 p0]) Try.func26 rfl Try.ntmps26 rfl fun J => ?_
  unfold ref13_fields at hm
  refine sq2 (rg (pv (r_zs rfl) (nil (t_then ?_))))
  refine sq2 (rg (wl rfl (bsS (r := rBool) (l := ([true, false, false, false, false, false, false, true, false, true] : List Bool)) (css := [[.bool true], [.bool false], [.bool false], [.bool false], [.bool false], [.bool false], [.bool false], [.bool true], [.bool false], [.bool true]]) hS Try.underlying50 Try.sizeOf4 Try.zeroValue4 rfl rfl (by kernel_rfl) rfl ⟨rfl, rfl, rfl, rfl, rfl, rfl, rfl, rfl, rfl, rfl, trivial⟩ rfl rfl fun w1 a1 n1 c1 im1 hS1 => ?_)))
  refine wl rfl (bsS (r := rBool) (l := ([true, true, false, false, false, false, false, false, false, true] : List Bool)) (css := [[.bool true], [.bool true], [.bool false], [.bool false], [.bool false], [.bool false], [.bool false], [.bool false], [.bool false], [.bool true]]) hS1 Try.underlying50 Try.sizeOf4 Try.zeroValue4 rfl rfl (by kernel_rfl) rfl ⟨rfl, rfl, rfl, rfl, rfl, rfl, rfl, rfl, rfl, rfl, trivial⟩ rfl rfl fun w2 a2 n2 c2 im2 hS2 => ?_)
  refine wl rfl (bsS (r := rBool) (l := ([true, true, true, true, false, false, false, false, false, true] : List Bool)) (css := [[.bool true], [.bool true], [.bool true], [.bool true], [.bool false], [.bool false], [.bool false], [.bool false], [.bool false], [.bool true]]) hS2 Try.underlying50 Try.sizeOf4 Try.zeroValue4 rfl rfl (by kernel_rfl) rfl ⟨rfl, rfl, rfl, rfl, rfl, rfl, rfl, rfl, rfl, rfl, trivial⟩ rfl rfl fun w3 a3 n3 c3 im3 hS3 => ?_)
  refine wl rfl (bsS (r := rBool) (l := ([true, true, false, true, false, false, false, false, false, true] : List Bool)) (css := [[.bool true], [.bool true], [.bool false], [.bool true], [.bool false], [.bool false], [.bool false], [.bool false], [.bool false], [.bool true]]) hS3 Try.underlying50 Try.sizeOf4 Try.zeroValue4 rfl rfl (by kernel_rfl) rfl ⟨rfl, rfl, rfl, rfl, rfl, rfl, rfl, rfl, rfl, rfl, trivial⟩ rfl rfl fun w4 a4 n4 c4 im4 hS4 => ?_)
  refine wl rfl (bsS (r := rBool) (l := ([true, true, false, false, false, true, true, false, false, true] : List Bool)) (css := [[.bool true], [.bool true], [.bool false], [.bool false], [.bool false], [.bool true], [.bool true], [.bool false], [.bool false], [.bool true]]) hS4 Try.underlying50 Try.sizeOf4 Try.zeroValue4 rfl rfl (by kernel_rfl) rfl ⟨rfl, rfl, rfl, rfl, rfl, rfl, rfl, rfl, rfl, rfl, trivial⟩ rfl rfl fun w5 a5 n5 c5 im5 hS5 => ?_)
  refine wl rfl (bsS (r := rBool) (l := ([false, true, true, false, false, true, true, false, false, true] : List Bool)) (css := [[.bool false], [.bool true], [.bool true], [.bool false], [.bool false], [.bool true], [.bool true], [.bool false], [.bool false], [.bool true]]) hS5 Try.underlying50 Try.sizeOf4 Try.zeroValue4 rfl rfl (by kernel_rfl) rfl ⟨rfl, rfl, rfl, rfl, rfl, rfl, rfl, rfl, rfl, rfl, trivial⟩ rfl rfl fun w6 a6 n6 c6 im6 hS6 => ?_)
  refine wl rfl (bsS (r := rBool) (l := ([true, false, false, false, true, true, false, false, false, true] : List Bool)) (css := [[.bool true], [.bool false], [.bool false], [.bool false], [.bool true], [.bool true], [.bool false], [.bool false], [.bool false], [.bool true]]) hS6 Try.underlying50 Try.sizeOf4 Try.zeroValue4 rfl rfl (by kernel_rfl) rfl ⟨rfl, rfl, rfl, rfl, rfl, rfl, rfl, rfl, rfl, rfl, trivial⟩ rfl rfl fun w7 a7 n7 c7 im7 hS7 => ?_)
  refine wl rfl (bsS (r := rBool) (l := ([true, false, false, false, true, true, false, false, false, true] : List Bool)) (css := [[.bool true], [.bool false], [.bool false], [.bool false], [.bool true], [.bool true], [.bool false], [.bool false], [.bool false], [.bool true]]) hS7 Try.underlying50 Try.sizeOf4 Try.zeroValue4 rfl rfl (by kernel_rfl) rfl ⟨rfl, rfl, rfl, rfl, rfl, rfl, rfl, rfl, rfl, rfl, trivial⟩ rfl rfl fun w8 a8 n8 c8 im8 hS8 => ?_)
  refine wl rfl (bsS (r := rBool) (l := ([true, false, false, false, true, false, false, false, true, true] : List Bool)) (css := [[.bool true], [.bool false], [.bool false], [.bool false], [.bool true], [.bool false], [.bool false], [.bool false], [.bool true], [.bool true]]) hS8 Try.underlying50 Try.sizeOf4 Try.zeroValue4 rfl rfl (by kernel_rfl) rfl ⟨rfl, rfl, rfl, rfl, rfl, rfl, rfl, rfl, rfl, rfl, trivial⟩ rfl rfl fun w9 a9 n9 c9 im9 hS9 => ?_)
  refine wl rfl (bsS (r := rBool) (l := ([false, true, false, false, false, false, false, false, false, false] : List Bool)) (css := [[.bool false], [.bool true], [.bool false], [.bool false], [.bool false], [.bool false], [.bool false], [.bool false], [.bool false], [.bool false]]) hS9 Try.underlying50 Try.sizeOf4 Try.zeroValue4 rfl rfl (by kernel_rfl) rfl ⟨rfl, rfl, rfl, rfl, rfl, rfl, rfl, rfl, rfl, rfl, trivial⟩ rfl rfl fun w10 a10 n10 c10 im10 hS10 => ?_)
  refine wl rfl (bsS (r := rBool) (l := ([true, false, false, false, false, false, false, false, false, true] : List Bool)) (css := [[.bool true], [.bool false], [.bool false], [.bool false], [.bool false], [.bool false], [.bool false], [.bool false], [.bool false], [.bool true]]) hS10 Try.underlying50 Try.sizeOf4 Try.zeroValue4 rfl rfl (by kernel_rfl) rfl ⟨rfl, rfl, rfl, rfl, rfl, rfl, rfl, rfl, rfl, rfl, trivial⟩ rfl rfl fun w11 a11 n11 c11 im11 hS11 => ?_)
  refine wl rfl (bsS (r := rBool) (l := ([false, false, false, false, false, false, false, false, false, false] : List Bool)) (css := [[.bool false], [.bool false], [.bool false], [.bool false], [.bool false], [.bool false], [.bool false], [.bool false], [.bool false], [.bool false]]) hS11 Try.underlying50 Try.sizeOf4 Try.zeroValue4 rfl rfl (by kernel_rfl) rfl ⟨rfl, rfl, rfl, rfl, rfl, rfl, rfl, rfl, rfl, rfl, trivial⟩ rfl rfl fun w12 a12 n12 c12 im12 hS12 => ?_)
  obtain ⟨T1, im13, hS13, h1⟩ := hS12.seal 11 ⟨rfl, rfl⟩
  have hsh := h1.len
  subst hsh
  have hS13 : Sep g T1 w12 [ownA rBool 4 (.slice a12 n12 c12) ([false, false, false, false, false, false, false, false, false, false] : List Bool), ownA rBool 4 (.slice a11 n11 c11) ([true, false, false, false, false, false, false, false, false, true] : List Bool), ownA rBool 4 (.slice a10 n10 c10) ([false, true, false, false, false, false, false, false, false, false] : List Bool), ownA rBool 4 (.slice a9 n9 c9) ([true, false, false, false, true, false, false, false, true, true] : List Bool), ownA rBool 4 (.slice a8 n8 c8) ([true, false, false, false, true, true, false, false, false, true] : List Bool), ownA rBool 4 (.slice a7 n7 c7) ([true, false, false, false, true, true, false, false, false, true] : List Bool), ownA rBool 4 (.slice a6 n6 c6) ([false, true, true, false, false, true, true, false, false, true] : List Bool), ownA rBool 4 (.slice a5 n5 c5) ([true, true, false, false, false, true, true, false, false, true] : List Bool), ownA rBool 4 (.slice a4 n4 c4) ([true, true, false, true, false, false, false, false, false, true] : List Bool), ownA rBool 4 (.slice a3 n3 c3) ([true, true, true, true, false, false, false, false, false, true] : List Bool), ownA rBool 4 (.slice a2 n2 c2) ([true, true, false, false, false, false, false, false, false, true] : List Bool), empA, R] := hS13
  obtain ⟨T2, im14, hS14, h2⟩ := hS13.seal 10 ⟨rfl, rfl⟩
  have hsh := h2.len
  subst hsh
  have hS14 : Sep g T2 w12 [ownA rBool 4 (.slice a12 n12 c12) ([false, false, false, false, false, false, false, false, false, false] : List Bool), ownA rBool 4 (.slice a11 n11 c11) ([true, false, false, false, false, false, false, false, false, true] : List Bool), ownA rBool 4 (.slice a10 n10 c10) ([false, true, false, false, false, false, false, false, false, false] : List Bool), ownA rBool 4 (.slice a9 n9 c9) ([true, false, false, false, true, false, false, false, true, true] : List Bool), ownA rBool 4 (.slice a8 n8 c8) ([true, false, false, false, true, true, false, false, false, true] : List Bool), ownA rBool 4 (.slice a7 n7 c7) ([true, false, false, false, true, true, false, false, false, true] : List Bool), ownA rBool 4 (.slice a6 n6 c6) ([false, true, true, false, false, true, true, false, false, true] : List Bool), ownA rBool 4 (.slice a5 n5 c5) ([true, true, false, false, false, true, true, false, false, true] : List Bool), ownA rBool 4 (.slice a4 n4 c4) ([true, true, false, true, false, false, false, false, false, true] : List Bool), ownA rBool 4 (.slice a3 n3 c3) ([true, true, true, true, false, false, false, false, false, true] : List Bool), empA, empA, R] := hS14
  obtain ⟨T3, im15, hS15, h3⟩ := hS14.seal 9 ⟨rfl, rfl⟩
  have hsh := h3.len
  subst hsh
  have hS15 : Sep g T3 w12 [ownA rBool 4 (.slice a12 n12 c12) ([false, false, false, false, false, false, false, false, false, false] : List Bool), ownA rBool 4 (.slice a11 n11 c11) ([true, false, false, false, false, false, false, false, false, true] : List Bool), ownA rBool 4 (.slice a10 n10 c10) ([false, true, false, false, false, false, false, false, false, false] : List Bool), ownA rBool 4 (.slice a9 n9 c9) ([true, false, false, false, true, false, false, false, true, true] : List Bool), ownA rBool 4 (.slice a8 n8 c8) ([true, false, false, false, true, true, false, false, false, true] : List Bool), ownA rBool 4 (.slice a7 n7 c7) ([true, false, false, false, true, true, false, false, false, true] : List Bool), ownA rBool 4 (.slice a6 n6 c6) ([false, true, true, false, false, true, true, false, false, true] : List Bool), ownA rBool 4 (.slice a5 n5 c5) ([true, true, false, false, false, true, true, false, false, true] : List Bool), ownA rBool 4 (.slice a4 n4 c4) ([true, true, false, true, false, false, false, false, false, true] : List Bool), empA, empA, empA, R] := hS15
  obtain ⟨T4, im16, hS16, h4⟩ := hS15.seal 8 ⟨rfl, rfl⟩
  have hsh := h4.len
  subst hsh
  have hS16 : Sep g T4 w12 [ownA rBool 4 (.slice a12 n12 c12) ([false, false, false, false, false, false, false, false, false, false] : List Bool), ownA rBool 4 (.slice a11 n11 c11) ([true, false, false, false, false, false, false, false, false, true] : List Bool), ownA rBool 4 (.slice a10 n10 c10) ([false, true, false, false, false, false, false, false, false, false] : List Bool), ownA rBool 4 (.slice a9 n9 c9) ([true, false, false, false, true, false, false, false, true, true] : List Bool), ownA rBool 4 (.slice a8 n8 c8) ([true, false, false, false, true, true, false, false, false, true] : List Bool), ownA rBool 4 (.slice a7 n7 c7) ([true, false, false, false, true, true, false, false, false, true] : List Bool), ownA rBool 4 (.slice a6 n6 c6) ([false, true, true, false, false, true, true, false, false, true] : List Bool), ownA rBool 4 (.slice a5 n5 c5) ([true, true, false, false, false, true, true, false, false, true] : List Bool), empA, empA, empA, empA, R] := hS16
  obtain ⟨T5, im17, hS17, h5⟩ := hS16.seal 7 ⟨rfl, rfl⟩
  have hsh := h5.len
  subst hsh
  have hS17 : Sep g T5 w12 [ownA rBool 4 (.slice a12 n12 c12) ([false, false, false, false, false, false, false, false, false, false] : List Bool), ownA rBool 4 (.slice a11 n11 c11) ([true, false, false, false, false, false, false, false, false, true] : List Bool), ownA rBool 4 (.slice a10 n10 c10) ([false, true, false, false, false, false, false, false, false, false] : List Bool), ownA rBool 4 (.slice a9 n9 c9) ([true, false, false, false, true, false, false, false, true, true] : List Bool), ownA rBool 4 (.slice a8 n8 c8) ([true, false, false, false, true, true, false, false, false, true] : List Bool), ownA rBool 4 (.slice a7 n7 c7) ([true, false, false, false, true, true, false, false, false, true] : List Bool), ownA rBool 4 (.slice a6 n6 c6) ([false, true, true, false, false, true, true, false, false, true] : List Bool), empA, empA, empA, empA, empA, R] := hS17
  obtain ⟨T6, im18, hS18, h6⟩ := hS17.seal 6 ⟨rfl, rfl⟩
  have hsh := h6.len
  subst hsh
  have hS18 : Sep g T6 w12 [ownA rBool 4 (.slice a12 n12 c12) ([false, false, false, false, false, false, false, false, false, false] : List Bool), ownA rBool 4 (.slice a11 n11 c11) ([true, false, false, false, false, false, false, false, false, true] : List Bool), ownA rBool 4 (.slice a10 n10 c10) ([false, true, false, false, false, false, false, false, false, false] : List Bool), ownA rBool 4 (.slice a9 n9 c9) ([true, false, false, false, true, false, false, false, true, true] : List Bool), ownA rBool 4 (.slice a8 n8 c8) ([true, false, false, false, true, true, false, false, false, true] : List Bool), ownA rBool 4 (.slice a7 n7 c7) ([true, false, false, false, true, true, false, false, false, true] : List Bool), empA, empA, empA, empA, empA, empA, R] := hS18
  obtain ⟨T7, im19, hS19, h7⟩ := hS18.seal 5 ⟨rfl, rfl⟩
  have hsh := h7.len
  subst hsh
  have hS19 : Sep g T7 w12 [ownA rBool 4 (.slice a12 n12 c12) ([false, false, false, false, false, false, false, false, false, false] : List Bool), ownA rBool 4 (.slice a11 n11 c11) ([true, false, false, false, false, false, false, false, false, true] : List Bool), ownA rBool 4 (.slice a10 n10 c10) ([false, true, false, false, false, false, false, false, false, false] : List Bool), ownA rBool 4 (.slice a9 n9 c9) ([true, false, false, false, true, false, false, false, true, true] : List Bool), ownA rBool 4 (.slice a8 n8 c8) ([true, false, false, false, true, true, false, false, false, true] : List Bool), empA, empA, empA, empA, empA, empA, empA, R] := hS19
  obtain ⟨T8, im20, hS20, h8⟩ := hS19.seal 4 ⟨rfl, rfl⟩
  have hsh := h8.len
  subst hsh
  have hS20 : Sep g T8 w12 [ownA rBool 4 (.slice a12 n12 c12) ([false, false, false, false, false, false, false, false, false, false] : List Bool), ownA rBool 4 (.slice a11 n11 c11) ([true, false, false, false, false, false, false, false, false, true] : List Bool), ownA rBool 4 (.slice a10 n10 c10) ([false, true, false, false, false, false, false, false, false, false] : List Bool), ownA rBool 4 (.slice a9 n9 c9) ([true, false, false, false, true, false, false, false, true, true] : List Bool), empA, empA, empA, empA, empA, empA, empA, empA, R] := hS20
  obtain ⟨T9, im21, hS21, h9⟩ := hS20.seal 3 ⟨rfl, rfl⟩
  have hsh := h9.len
  subst hsh
  have hS21 : Sep g T9 w12 [ownA rBool 4 (.slice a12 n12 c12) ([false, false, false, false, false, false, false, false, false, false] : List Bool), ownA rBool 4 (.slice a11 n11 c11) ([true, false, false, false, false, false, false, false, false, true] : List Bool), ownA rBool 4 (.slice a10 n10 c10) ([false, true, false, false, false, false, false, false, false, false] : List Bool), empA, empA, empA, empA, empA, empA, empA, empA, empA, R] := hS21
  obtain ⟨T10, im22, hS22, h10⟩ := hS21.seal 2 ⟨rfl, rfl⟩
  have hsh := h10.len
  subst hsh
  have hS22 : Sep g T10 w12 [ownA rBool 4 (.slice a12 n12 c12) ([false, false, false, false, false, false, false, false, false, false] : List Bool), ownA rBool 4 (.slice a11 n11 c11) ([true, false, false, false, false, false, false, false, false, true] : List Bool), empA, empA, empA, empA, empA, empA, empA, empA, empA, empA, R] := hS22
  obtain ⟨T11, im23, hS23, h11⟩ := hS22.seal 1 ⟨rfl, rfl⟩
  have hsh := h11.len
  subst hsh
  have hS23 : Sep g T11 w12 [ownA rBool 4 (.slice a12 n12 c12) ([false, false, false, false, false, false, false, false, false, false] : List Bool), empA, empA, empA, empA, empA, empA, empA, empA, empA, empA, empA, R] := hS23
  obtain ⟨T12, im24, hS24, h12⟩ := hS23.seal 0 ⟨rfl, rfl⟩
  have hsh := h12.len
  subst hsh
  have hS24 : Sep g T12 w12 [empA, empA, empA, empA, empA, empA, empA, empA, empA, empA, empA, empA, R] := hS24
  refine wl rfl (bsS (r := (rSl rBool)) (l := ([[], ([true, false, false, false, false, false, false, true, false, true] : List Bool), ([true, true, false, false, false, false, false, false, false, true] : List Bool), ([true, true, true, true, false, false, false, false, false, true] : List Bool), ([true, true, false, true, false, false, false, false, false, true] : List Bool), ([true, true, false, false, false, true, true, false, false, true] : List Bool), ([false, true, true, false, false, true, true, false, false, true] : List Bool), ([true, false, false, false, true, true, false, false, false, true] : List Bool), ([true, false, false, false, true, true, false, false, false, true] : List Bool), ([true, false, false, false, true, false, false, false, true, true] : List Bool), ([false, true, false, false, false, false, false, false, false, false] : List Bool), ([true, false, false, false, false, false, false, false, false, true] : List Bool), ([false, false, false, false, false, false, false, false, false, false] : List Bool)] : List (List Bool))) (css := [[.slice none 0 0], [.slice a1 (List.length ([true, false, false, false, false, false, false, true, false, true] : List Bool)) c1], [.slice a2 (List.length ([true, true, false, false, false, false, false, false, false, true] : List Bool)) c2], [.slice a3 (List.length ([true, true, true, true, false, false, false, false, false, true] : List Bool)) c3], [.slice a4 (List.length ([true, true, false, true, false, false, false, false, false, true] : List Bool)) c4], [.slice a5 (List.length ([true, true, false, false, false, true, true, false, false, true] : List Bool)) c5], [.slice a6 (List.length ([false, true, true, false, false, true, true, false, false, true] : List Bool)) c6], [.slice a7 (List.length ([true, false, false, false, true, true, false, false, false, true] : List Bool)) c7], [.slice a8 (List.length ([true, false, false, false, true, true, false, false, false, true] : List Bool)) c8], [.slice a9 (List.length ([true, false, false, false, true, false, false, false, true, true] : List Bool)) c9], [.slice a10 (List.length ([false, true, false, false, false, false, false, false, false, false] : List Bool)) c10], [.slice a11 (List.length ([true, false, false, false, false, false, false, false, false, true] : List Bool)) c11], [.slice a12 (List.length ([false, false, false, false, false, false, false, false, false, false] : List Bool)) c12]]) hS24 Try.underlying80 Try.sizeOf50 Try.zeroValue50 rfl rfl (by kernel_rfl) rfl ⟨⟨_, rfl, SlR_nil⟩, ⟨_, rfl, (h1.mono (iT im14 (iT im15 (iT im16 (iT im17 (iT im18 (iT im19 (iT im20 (iT im21 (iT im22 (iT im23 im24)))))))))))⟩, ⟨_, rfl, (h2.mono (iT im15 (iT im16 (iT im17 (iT im18 (iT im19 (iT im20 (iT im21 (iT im22 (iT im23 im24))))))))))⟩, ⟨_, rfl, (h3.mono (iT im16 (iT im17 (iT im18 (iT im19 (iT im20 (iT im21 (iT im22 (iT im23 im24)))))))))⟩, ⟨_, rfl, (h4.mono (iT im17 (iT im18 (iT im19 (iT im20 (iT im21 (iT im22 (iT im23 im24))))))))⟩, ⟨_, rfl, (h5.mono (iT im18 (iT im19 (iT im20 (iT im21 (iT im22 (iT im23 im24)))))))⟩, ⟨_, rfl, (h6.mono (iT im19 (iT im20 (iT im21 (iT im22 (iT im23 im24))))))⟩, ⟨_, rfl, (h7.mono (iT im20 (iT im21 (iT im22 (iT im23 im24)))))⟩, ⟨_, rfl, (h8.mono (iT im21 (iT im22 (iT im23 im24))))⟩, ⟨_, rfl, (h9.mono (iT im22 (iT im23 im24)))⟩, ⟨_, rfl, (h10.mono (iT im23 im24))⟩, ⟨_, rfl, (h11.mono im24)⟩, ⟨_, rfl, h12⟩, trivial⟩ rfl rfl fun w13 a13 n13 c13 im25 hS25 => ?_)
  refine pv (r_zs rfl) (nil (t_then ?_))
  refine sq2 (sq2 (rg (pv (r_mi rfl) (pv (r_ib rfl rfl rfl) (pv (r_mb rfl) (?_))))))
  rcases Bool.eq_false_or_eq_true (decide (p0 < 1)) with hb1 | hb1
  · have hm := ctrue hb1 hm
    refine gF (d0 := 19) rfl rfl (by rw [hb1]; rfl) (gF (d0 := 19) rfl rfl (by rw [hb1]; rfl) (pv (r_pkt rfl hb1 rfl) (nil (t_then ?_))))
    refine cnd (b := true) rfl (fun _ => ?_) (fun h => nomatch h)
    refine sq2 (rg (pv (r_zs rfl) (nil (t_then ?_))))
    have hm := oI hm; subst hm
    exact rtn (r_then (ret1 rfl rfl ⟨_, rfl, _, (iT im1 (iT im2 (iT im3 (iT im4 (iT im5 (iT im6 (iT im7 (iT im8 (iT im9 (iT im10 (iT im11 (iT im12 (iT im13 (iT im14 (iT im15 (iT im16 (iT im17 (iT im18 (iT im19 (iT im20 (iT im21 (iT im22 (iT im23 (iT im24 im25)))))))))))))))))))))))), ⟨_, _, rfl, hS25.sel [13] rfl, SlR_nil, trivial⟩⟩))
  have hm := cfalse hb1 hm
  refine gT (d0 := 19) rfl rfl hb1 (pv (r_mi rfl) (gT (d0 := 19) rfl rfl hb1 (pv (r_ib rfl rfl rfl) (pv (r_pkf rfl hb1 rfl) (nil (t_then ?_))))))
  refine cnd rfl (fun hb2 => ?_) (fun hb2 => ?_)
  · have hm := ctrue hb2 hm
    refine sq2 (rg (pv (r_zs rfl) (nil (t_then ?_))))
    have hm := oI hm; subst hm
    exact rtn (r_then (ret1 rfl rfl ⟨_, rfl, _, (iT im1 (iT im2 (iT im3 (iT im4 (iT im5 (iT im6 (iT im7 (iT im8 (iT im9 (iT im10 (iT im11 (iT im12 (iT im13 (iT im14 (iT im15 (iT im16 (iT im17 (iT im18 (iT im19 (iT im20 (iT im21 (iT im22 (iT im23 (iT im24 im25)))))))))))))))))))))))), ⟨_, _, rfl, hS25.sel [13] rfl, SlR_nil, trivial⟩⟩))
  have hm := cfalse hb2 hm
  refine skp (t_then ?_)
  refine sq2 ?_
  obtain ⟨u1, hx1, hm⟩ := bindS hm
  obtain ⟨b1, of1, cs1, k1, cp1, hv1, hp1, hl1, he1, hr1, hc1⟩ := (hS25.own (i := 0) ⟨rfl, rfl⟩).v.ixq hx1 rfl
  obtain ⟨a14, c14, rfl, h13⟩ := rSl_open hr1
  refine rg (pv (r_ms rfl) (pv (r_mi rfl) (pv (r_ixe hv1 rfl Try.underlying80 Try.sizeOf50 hp1 hl1 he1) (pv (r_ld rfl Try.isAgg50 (hc1.get (j := 0) rfl)) (pv (r_zs rfl) (nil (t_thenR [(2, .slice a14 (List.length u1) c14)] ⟨rfl, trivial⟩ fun J => ?_)))))))
  have hm := oI hm; subst hm
  exact rtn (ret1 rfl rfl ⟨_, rfl, _, (iT im1 (iT im2 (iT im3 (iT im4 (iT im5 (iT im6 (iT im7 (iT im8 (iT im9 (iT im10 (iT im11 (iT im12 (iT im13 (iT im14 (iT im15 (iT im16 (iT im17 (iT im18 (iT im19 (iT im20 (iT im21 (iT im22 (iT im23 (iT im24 im25)))))))))))))))))))))))), ⟨_, _, rfl, hS25.sel [13] rfl, h13, trivial⟩⟩)

set_option maxRecDepth 100000 in
set_option maxHeartbeats 1000000 in
theorem ref13_Uses_sim {g : World} {T0 : Nat → Prop} {w0 : World} {R : Assn} {p0 : Ins} {a1 : Option Addr} {c1 : Nat} {r : (List Int)} (hS : Sep g T0 w0 [R]) (h1 : SlR (rInt .i64) T0 w0 (.slice a1 (List.length p0.Args) c1) p0.Args) (hm : ref13_Uses p0 = some r) :
    Calls Try.prog 11 #[.agg (cIns p0 a1 c1).toArray] w0 (RetS T0 w0 fun T w v => ∃ (a13 : Option Addr) (n11 : Nat) (c13 : Nat), v = .slice a13 n11 c13 ∧ Sep g T w [R, ownA (rInt .i64) 3 (.slice a13 n11 c13) r] ∧ True) := by
  refine enter (args := [.agg (cIns p0 a1 c1).toArray]) Try.func11 rfl Try.ntmps11 rfl fun J => ?_
  unfold ref13_Uses at hm
  refine sq2 (rg (wl rfl (bxS (cs := (cIns p0 a1 c1)) rfl rfl hS fun w1 b1 im1 hS1 => ?_)))
  refine pv (r_zs rfl) (nil (t_then ?_))
  refine sq2 (rg (pv (r_zs rfl) (nil (t_then ?_))))
  refine sq2 ?_
  obtain ⟨y1, hx1, hm⟩ := bindS hm
  refine rg (pv (r_fa rfl Try.underlying46 rfl Try.sizeOf3 rfl) (pv (r_ld rfl Try.isAgg3 (hS1.cell0 (i := 0) ⟨rfl, rfl⟩ (j := 0) rfl)) (wl rfl (calS cf26 rfl (ref13_fields_sim (p0 := p0.Op) (hS1.bun [0, 1] [] rfl)  hx1) rfl fun v1 T1 w2 im2 rv1 => ?_))))
  obtain ⟨a2, c2, rfl, hS2, h2, _⟩ := rv1
  have hS2 : Sep g T1 w2 [boxA b1 (cIns p0 a1 c1), R] := hS2.unb
  refine pv (r_zs rfl) (nil (t_then ?_))
  obtain ⟨kk1, hkk1, hm⟩ := jn_open hm
  have hS3 := hS2.nilO (rInt .i64) 3
  refine cut (fun a w3 => ∃ (J : Nat → Value) (T2 : Nat → Prop) (x1 : List Int) (a3 : Option Addr) (n1 : Nat) (c3 : Nat), a = env (nf 77) J [(1, .pointer (some ⟨b1, 0, none⟩)), (3, .slice a3 n1 c3), (4, .slice a2 (List.length y1) c2)] ∧ Im T1 w2 T2 w3 ∧ Sep g T2 w3 [ownA (rInt .i64) 3 (.slice a3 n1 c3) x1, boxA b1 (cIns p0 a1 c1), R] ∧ kk1 x1 = some r) ?_ ?_
  · refine sq2 (rg (pv (r_ms rfl) (pv (r_ln rfl Try.underlying50) (pv (r_ib rfl rfl rfl) (pv (r_mb rfl) (?_))))))
    rcases Bool.eq_false_or_eq_true (decide (0 < (List.length y1 : Int))) with hb1 | hb1
    · have hm := ctrue hb1 hm
      obtain ⟨u1, hx2, hm⟩ := bindS hm
      obtain ⟨b2, of1, cs1, k1, cp1, hv1, hp1, hl1, he1, hr1, hc1, hT1⟩ := h2.ixT hx2 rfl
      cases hr1
      refine gT (d0 := 12) rfl rfl hb1 (pv (r_ms rfl) (gT (d0 := 12) rfl rfl hb1 (pv (r_ixe hv1 rfl Try.underlying50 Try.sizeOf4 hp1 hl1 he1) (gT (d0 := 12) rfl rfl hb1 (pv (r_ld rfl Try.isAgg4 (hc1.get (j := 0) rfl)) (pv (r_pkt rfl hb1 rfl) (pv (r_mb rfl) (?_))))))))
      rcases Bool.eq_false_or_eq_true u1 with hb2 | hb2
      · have hm := ctrue hb2 hm
        refine gT (d0 := 17) rfl rfl hb2 (pv (r_fa rfl Try.underlying46 rfl Try.sizeOf3 rfl) (gT (d0 := 17) rfl rfl hb2 (pv (r_ld rfl Try.isAgg3 (hS3.cell0 (i := 1) ⟨rfl, rfl⟩ (j := 2) rfl)) (gT (d0 := 17) rfl rfl hb2 (pv (r_ib rfl rfl rfl) (pv (r_pkt rfl hb2 rfl) (nil (t_then ?_))))))))
        refine cnd rfl (fun hb3 => ?_) (fun hb3 => ?_)
        · have hm := ctrue hb3 hm
          refine rg (pv (r_ms rfl) (pv (r_fa rfl Try.underlying46 rfl Try.sizeOf3 rfl) (pv (r_ld rfl Try.isAgg3 (hS3.cell0 (i := 1) ⟨rfl, rfl⟩ (j := 2) rfl)) (wl rfl (bsS (r := (rInt .i64)) (l := ([p0.A] : List Int)) (css := [[.int .i64 p0.A]]) hS3 Try.underlying44 Try.sizeOf3 Try.zeroValue3 rfl rfl (by kernel_rfl) rfl ⟨rfl, trivial⟩ rfl rfl fun w4 a4 n2 c4 im4 hS4 => ?_)))))
          obtain ⟨z_1, hro1, hm⟩ := bindS hm
          refine wl rfl (apO (q := 1) (l := ([] : List Int)) (us := ([p0.A] : List Int)) hS4 ⟨rfl, rfl⟩ rfl rfl (hS4.own (i := 0) ⟨rfl, rfl⟩).v Try.underlying44 el3 (room_some hro1) fun w5 a5 n3 c5 im5 hS5 => ?_)
          have hS5 : Sep g T1 w5 [ownA (rInt .i64) 3 (.slice a4 n2 c4) ([p0.A] : List Int), ownA (rInt .i64) 3 (.slice a5 n3 c5) (([] : List Int) ++ ([p0.A] : List Int)), boxA b1 (cIns p0 a1 c1), R] := hS5
          exact pv (r_zs rfl) (nil (t_then ⟨_, _, (([] : List Int) ++ ([p0.A] : List Int)), _, _, _, env_has ⟨rfl, rfl, rfl, trivial⟩, (iT im4 im5), hS5.sel [1, 2, 3] rfl, hm⟩))
        have hm := cfalse hb3 hm
        exact skp (t_then ⟨_, _, [], _, _, _, env_has ⟨rfl, rfl, rfl, trivial⟩, Im.refl, hS3.sel [0, 1, 2] rfl, hm⟩)
      have hm := cfalse hb2 hm
      refine gF (d0 := 17) rfl rfl (by rw [hb2]; rfl) (gF (d0 := 17) rfl rfl (by rw [hb2]; rfl) (gF (d0 := 17) rfl rfl (by rw [hb2]; rfl) (pv (r_pkf rfl hb2 rfl) (nil (t_then ?_)))))
      refine cnd (b := false) rfl (fun h => nomatch h) (fun _ => ?_)
      exact skp (t_then ⟨_, _, [], _, _, _, env_has ⟨rfl, rfl, rfl, trivial⟩, Im.refl, hS3.sel [0, 1, 2] rfl, hm⟩)
    have hm := cfalse hb1 hm
    refine gF (d0 := 12) rfl rfl (by rw [hb1]; rfl) (gF (d0 := 12) rfl rfl (by rw [hb1]; rfl) (gF (d0 := 12) rfl rfl (by rw [hb1]; rfl) (pv (r_pkf rfl hb1 rfl) (pv (r_mb rfl) (gF (d0 := 17) rfl rfl rfl (gF (d0 := 17) rfl rfl rfl (gF (d0 := 17) rfl rfl rfl (pv (r_pkf rfl rfl rfl) (nil (t_then ?_))))))))))
    refine cnd (b := false) rfl (fun h => nomatch h) (fun _ => ?_)
    exact skp (t_then ⟨_, _, [], _, _, _, env_has ⟨rfl, rfl, rfl, trivial⟩, Im.refl, hS3.sel [0, 1, 2] rfl, hm⟩)
  rintro _ w3 ⟨J, T2, x1, a3, n1, c3, rfl, im3, hS6, hm⟩
  rw [hkk1] at hm
  obtain ⟨kk2, hkk2, hm⟩ := jn_open hm
  refine cut (fun a w6 => ∃ (J : Nat → Value) (T3 : Nat → Prop) (x2 : List Int) (a6 : Option Addr) (n4 : Nat) (c6 : Nat), a = env (nf 77) J [(1, .pointer (some ⟨b1, 0, none⟩)), (3, .slice a6 n4 c6), (4, .slice a2 (List.length y1) c2)] ∧ Im T2 w3 T3 w6 ∧ Sep g T3 w6 [ownA (rInt .i64) 3 (.slice a6 n4 c6) x2, boxA b1 (cIns p0 a1 c1), R] ∧ kk2 x2 = some r) ?_ ?_
  · refine sq2 (rg (pv (r_ms rfl) (pv (r_ln rfl Try.underlying50) (pv (r_ib rfl rfl rfl) (pv (r_mb rfl) (?_))))))
    rcases Bool.eq_false_or_eq_true (decide (0 < (List.length y1 : Int))) with hb6 | hb6
    · have hm := ctrue hb6 hm
      obtain ⟨u2, hx3, hm⟩ := bindS hm
      obtain ⟨b3, of2, cs2, k2, cp2, hv2, hp2, hl2, he2, hr2, hc2, hT2⟩ := (h2.mono im3).ixT hx3 rfl
      cases hr2
      refine gT (d0 := 30) rfl rfl hb6 (pv (r_ms rfl) (gT (d0 := 30) rfl rfl hb6 (pv (r_ixe hv2 rfl Try.underlying50 Try.sizeOf4 hp2 hl2 he2) (gT (d0 := 30) rfl rfl hb6 (pv (r_ld rfl Try.isAgg4 (hc2.get (j := 0) rfl)) (pv (r_pkt rfl hb6 rfl) (pv (r_mb rfl) (?_))))))))
      rcases Bool.eq_false_or_eq_true u2 with hb7 | hb7
      · have hm := ctrue hb7 hm
        refine gT (d0 := 35) rfl rfl hb7 (pv (r_fa rfl Try.underlying46 rfl Try.sizeOf3 rfl) (gT (d0 := 35) rfl rfl hb7 (pv (r_ld rfl Try.isAgg3 (hS6.cell0 (i := 1) ⟨rfl, rfl⟩ (j := 3) rfl)) (gT (d0 := 35) rfl rfl hb7 (pv (r_ib rfl rfl rfl) (pv (r_pkt rfl hb7 rfl) (nil (t_then ?_))))))))
        refine cnd rfl (fun hb8 => ?_) (fun hb8 => ?_)
        · have hm := ctrue hb8 hm
          refine rg (pv (r_ms rfl) (pv (r_fa rfl Try.underlying46 rfl Try.sizeOf3 rfl) (pv (r_ld rfl Try.isAgg3 (hS6.cell0 (i := 1) ⟨rfl, rfl⟩ (j := 3) rfl)) (wl rfl (bsS (r := (rInt .i64)) (l := ([p0.B] : List Int)) (css := [[.int .i64 p0.B]]) hS6 Try.underlying44 Try.sizeOf3 Try.zeroValue3 rfl rfl (by kernel_rfl) rfl ⟨rfl, trivial⟩ rfl rfl fun w7 a7 n5 c7 im7 hS7 => ?_)))))
          obtain ⟨z_2, hro2, hm⟩ := bindS hm
          refine wl rfl (apO (q := 1) (l := x1) (us := ([p0.B] : List Int)) hS7 ⟨rfl, rfl⟩ rfl rfl (hS7.own (i := 0) ⟨rfl, rfl⟩).v Try.underlying44 el3 (room_some hro2) fun w8 a8 n6 c8 im8 hS8 => ?_)
          have hS8 : Sep g T2 w8 [ownA (rInt .i64) 3 (.slice a7 n5 c7) ([p0.B] : List Int), ownA (rInt .i64) 3 (.slice a8 n6 c8) (x1 ++ ([p0.B] : List Int)), boxA b1 (cIns p0 a1 c1), R] := hS8
          exact pv (r_zs rfl) (nil (t_then ⟨_, _, (x1 ++ ([p0.B] : List Int)), _, _, _, env_has ⟨rfl, rfl, rfl, trivial⟩, (iT im7 im8), hS8.sel [1, 2, 3] rfl, hm⟩))
        have hm := cfalse hb8 hm
        exact skp (t_then ⟨_, _, x1, _, _, _, env_has ⟨rfl, rfl, rfl, trivial⟩, Im.refl, hS6.sel [0, 1, 2] rfl, hm⟩)
      have hm := cfalse hb7 hm
      refine gF (d0 := 35) rfl rfl (by rw [hb7]; rfl) (gF (d0 := 35) rfl rfl (by rw [hb7]; rfl) (gF (d0 := 35) rfl rfl (by rw [hb7]; rfl) (pv (r_pkf rfl hb7 rfl) (nil (t_then ?_)))))
      refine cnd (b := false) rfl (fun h => nomatch h) (fun _ => ?_)
      exact skp (t_then ⟨_, _, x1, _, _, _, env_has ⟨rfl, rfl, rfl, trivial⟩, Im.refl, hS6.sel [0, 1, 2] rfl, hm⟩)
    have hm := cfalse hb6 hm
    refine gF (d0 := 30) rfl rfl (by rw [hb6]; rfl) (gF (d0 := 30) rfl rfl (by rw [hb6]; rfl) (gF (d0 := 30) rfl rfl (by rw [hb6]; rfl) (pv (r_pkf rfl hb6 rfl) (pv (r_mb rfl) (gF (d0 := 35) rfl rfl rfl (gF (d0 := 35) rfl rfl rfl (gF (d0 := 35) rfl rfl rfl (pv (r_pkf rfl rfl rfl) (nil (t_then ?_))))))))))
    refine cnd (b := false) rfl (fun h => nomatch h) (fun _ => ?_)
    exact skp (t_then ⟨_, _, x1, _, _, _, env_has ⟨rfl, rfl, rfl, trivial⟩, Im.refl, hS6.sel [0, 1, 2] rfl, hm⟩)
  rintro _ w6 ⟨J, T3, x2, a6, n4, c6, rfl, im6, hS9, hm⟩
  rw [hkk2] at hm
  refine sq2 (sq2 (rg (pv (r_zi rfl) (nil (t_then ?_)))))
  obtain ⟨o1, ho1, hq1⟩ := bindS hm
  obtain ⟨bd1, hbd1, ho1⟩ := loop_open ho1
  refine blk (wp_loop_ghost (fun m a w9 => ∃ (J : Nat → Value) (T4 : Nat → Prop) (x3 : List Int) (a9 : Option Addr) (n7 : Nat) (c9 : Nat) (x4 : Int), a = env (nf 77) J [(1, .pointer (some ⟨b1, 0, none⟩)), (3, .slice a9 n7 c9), (4, .slice a2 (List.length y1) c2), (5, .int .i64 x4)] ∧ Im T3 w6 T4 w9 ∧ Sep g T4 w9 [ownA (rInt .i64) 3 (.slice a9 n7 c9) x3, boxA b1 (cIns p0 a1 c1), R] ∧ loopM bd1 m (x3, x4) = some o1) NN ⟨_, _, x2, _, _, _, 0, env_has ⟨rfl, rfl, rfl, rfl, trivial⟩, Im.refl, hS9.sel [0, 1, 2] rfl, ho1⟩ ?_)
  rintro m _ w9 ⟨J, T4, x3, a9, n7, c9, x4, rfl, im9, hS10, ho1⟩
  obtain ⟨m1, z1, rfl, hm, hn1⟩ := loop_round ho1
  rw [hbd1] at hm
  refine sq2 (sq2 (rg (pv (r_ms rfl) (pv (r_ln rfl Try.underlying50) (pv (r_ib rfl rfl rfl) (pv (r_mb rfl) (?_)))))))
  rcases Bool.eq_false_or_eq_true (decide (0 < (List.length y1 : Int))) with hb11 | hb11
  · have hm := ctrue hb11 hm
    obtain ⟨u3, hx4, hm⟩ := bindS hm
    obtain ⟨b4, of3, cs3, k3, cp3, hv3, hp3, hl3, he3, hr3, hc3, hT3⟩ := (h2.mono (iT im3 (iT im6 im9))).ixT hx4 rfl
    cases hr3
    refine gT (d0 := 48) rfl rfl hb11 (pv (r_ms rfl) (gT (d0 := 48) rfl rfl hb11 (pv (r_ixe hv3 rfl Try.underlying50 Try.sizeOf4 hp3 hl3 he3) (gT (d0 := 48) rfl rfl hb11 (pv (r_ld rfl Try.isAgg4 (hc3.get (j := 0) rfl)) (pv (r_pkt rfl hb11 rfl) (pv (r_mb rfl) (?_))))))))
    rcases Bool.eq_false_or_eq_true u3 with hb12 | hb12
    · have hm := ctrue hb12 hm
      refine gT (d0 := 53) rfl rfl hb12 (pv (r_mi rfl) (gT (d0 := 53) rfl rfl hb12 (pv (r_fa rfl Try.underlying46 rfl Try.sizeOf44 rfl) (gT (d0 := 53) rfl rfl hb12 (pv (r_ld rfl Try.isAgg44 (hS10.cell0 (i := 1) ⟨rfl, rfl⟩ (j := 9) rfl)) (gT (d0 := 53) rfl rfl hb12 (pv (r_ln rfl Try.underlying44) (gT (d0 := 53) rfl rfl hb12 (pv (r_ib rfl rfl rfl) (pv (r_pkt rfl hb12 rfl) (nil (t_then ?_))))))))))))
      refine cnd rfl (fun hb13 => ?_) (fun hb13 => ?_)
      · have hm := ctrue hb13 hm
        refine skp (t_then ?_)
        obtain ⟨kk3, hkk3, hm⟩ := jn_open hm
        refine cut (fun a w10 => ∃ (J : Nat → Value) (T5 : Nat → Prop) (x5 : List Int) (a10 : Option Addr) (n8 : Nat) (c10 : Nat), a = env (nf 77) J [(1, .pointer (some ⟨b1, 0, none⟩)), (3, .slice a10 n8 c10), (4, .slice a2 (List.length y1) c2), (5, .int .i64 x4)] ∧ Im T4 w9 T5 w10 ∧ Sep g T5 w10 [ownA (rInt .i64) 3 (.slice a10 n8 c10) x5, boxA b1 (cIns p0 a1 c1), R] ∧ kk3 x5 = some z1) ?_ ?_
        · refine blk (sq2 ?_)
          obtain ⟨u4, hx5, hm⟩ := bindS hm
          obtain ⟨b5, of4, cs4, k4, cp4, hv4, hp4, hl4, he4, hr4, hc4, hT4⟩ := (h1.mono (iT im1 (iT im2 (iT im3 (iT im6 im9))))).ixT hx5 rfl
          cases hr4
          refine rg (pv (r_fa rfl Try.underlying46 rfl Try.sizeOf44 rfl) (pv (r_ld rfl Try.isAgg44 (hS10.cell0 (i := 1) ⟨rfl, rfl⟩ (j := 9) rfl)) (pv (r_mi rfl) (pv (r_ixe hv4 rfl Try.underlying44 Try.sizeOf3 hp4 hl4 he4) (pv (r_ld rfl Try.isAgg3 (hc4.get (j := 0) rfl)) (pv (r_ib rfl rfl rfl) (nil (t_then ?_))))))))
          refine cnd rfl (fun hb14 => ?_) (fun hb14 => ?_)
          · have hm := ctrue hb14 hm
            obtain ⟨u5, hx6, hm⟩ := bindS hm
            obtain ⟨b6, of5, cs5, k5, cp5, hv5, hp5, hl5, he5, hr5, hc5, hT5⟩ := (h1.mono (iT im1 (iT im2 (iT im3 (iT im6 im9))))).ixT hx6 rfl
            cases hr5
            refine rg (pv (r_ms rfl) (pv (r_fa rfl Try.underlying46 rfl Try.sizeOf44 rfl) (pv (r_ld rfl Try.isAgg44 (hS10.cell0 (i := 1) ⟨rfl, rfl⟩ (j := 9) rfl)) (pv (r_mi rfl) (pv (r_ixe hv5 rfl Try.underlying44 Try.sizeOf3 hp5 hl5 he5) (pv (r_ld rfl Try.isAgg3 (hc5.get (j := 0) rfl)) (wl rfl (bsS (r := (rInt .i64)) (l := ([u5] : List Int)) (css := [[.int .i64 u5]]) hS10 Try.underlying44 Try.sizeOf3 Try.zeroValue3 rfl rfl (by kernel_rfl) rfl ⟨rfl, trivial⟩ rfl rfl fun w11 a11 n9 c11 im11 hS11 => ?_))))))))
            obtain ⟨z_3, hro3, hm⟩ := bindS hm
            refine wl rfl (apO (q := 1) (l := x3) (us := ([u5] : List Int)) hS11 ⟨rfl, rfl⟩ rfl rfl (hS11.own (i := 0) ⟨rfl, rfl⟩).v Try.underlying44 el3 (room_some hro3) fun w12 a12 n10 c12 im12 hS12 => ?_)
            have hS12 : Sep g T4 w12 [ownA (rInt .i64) 3 (.slice a11 n9 c11) ([u5] : List Int), ownA (rInt .i64) 3 (.slice a12 n10 c12) (x3 ++ ([u5] : List Int)), boxA b1 (cIns p0 a1 c1), R] := hS12
            exact pv (r_zs rfl) (nil (t_blk (t_then ⟨_, _, (x3 ++ ([u5] : List Int)), _, _, _, env_has ⟨rfl, rfl, rfl, rfl, trivial⟩, (iT im11 im12), hS12.sel [1, 2, 3] rfl, hm⟩)))
          have hm := cfalse hb14 hm
          exact skp (t_blk (t_then ⟨_, _, x3, _, _, _, env_has ⟨rfl, rfl, rfl, rfl, trivial⟩, Im.refl, hS10.sel [0, 1, 2] rfl, hm⟩))
        rintro _ w10 ⟨J, T5, x5, a10, n8, c10, rfl, im10, hS13, hm⟩
        rw [hkk3] at hm
        have hm := oI hm; subst hm
        exact rg (pv (r_mi rfl) (pv (r_ib rfl rfl rfl) (pv (r_zi rfl) (nil (t_then ⟨m1, Nat.lt_succ_self _, _, _, x5, _, _, _, (IntKind.wrap .i64 (x4 + 1)), env_has ⟨rfl, rfl, rfl, rfl, trivial⟩, (iT im9 im10), hS13.sel [0, 1, 2] rfl, hn1⟩)))))
      have hm := cfalse hb13 hm
      have hm := oI hm; subst hm
      have hn1 : _ = Lp.brk _ := hn1
      subst hn1
      have hm := thn_brk hq1
      refine xt (x_then (x_then (x_eq (t_then ?_))))
      refine sq2 (rg (pv (r_ms rfl) (pv (r_zs rfl) (nil (t_then ?_)))))
      have hm := oI hm; subst hm
      exact rtn (ret1 rfl rfl ⟨_, rfl, _, (iT im1 (iT im2 (iT im3 (iT im6 im9)))), ⟨_, _, _, rfl, hS10.sel [2, 0] rfl, trivial⟩⟩)
    have hm := cfalse hb12 hm
    refine gF (d0 := 53) rfl rfl (by rw [hb12]; rfl) (gF (d0 := 53) rfl rfl (by rw [hb12]; rfl) (gF (d0 := 53) rfl rfl (by rw [hb12]; rfl) (gF (d0 := 53) rfl rfl (by rw [hb12]; rfl) (gF (d0 := 53) rfl rfl (by rw [hb12]; rfl) (pv (r_pkf rfl hb12 rfl) (nil (t_then ?_)))))))
    refine cnd (b := false) rfl (fun h => nomatch h) (fun _ => ?_)
    have hm := oI hm; subst hm
    have hn1 : _ = Lp.brk _ := hn1
    subst hn1
    have hm := thn_brk hq1
    refine xt (x_then (x_then (x_eq (t_then ?_))))
    refine sq2 (rg (pv (r_ms rfl) (pv (r_zs rfl) (nil (t_then ?_)))))
    have hm := oI hm; subst hm
    exact rtn (ret1 rfl rfl ⟨_, rfl, _, (iT im1 (iT im2 (iT im3 (iT im6 im9)))), ⟨_, _, _, rfl, hS10.sel [2, 0] rfl, trivial⟩⟩)
  have hm := cfalse hb11 hm
  refine gF (d0 := 48) rfl rfl (by rw [hb11]; rfl) (gF (d0 := 48) rfl rfl (by rw [hb11]; rfl) (gF (d0 := 48) rfl rfl (by rw [hb11]; rfl) (pv (r_pkf rfl hb11 rfl) (pv (r_mb rfl) (gF (d0 := 53) rfl rfl rfl (gF (d0 := 53) rfl rfl rfl (gF (d0 := 53) rfl rfl rfl (gF (d0 := 53) rfl rfl rfl (gF (d0 := 53) rfl rfl rfl (pv (r_pkf rfl rfl rfl) (nil (t_then ?_))))))))))))
  refine cnd (b := false) rfl (fun h => nomatch h) (fun _ => ?_)
  have hm := oI hm; subst hm
  have hn1 : _ = Lp.brk _ := hn1
  subst hn1
  have hm := thn_brk hq1
  refine xt (x_then (x_then (x_eq (t_then ?_))))
  refine sq2 (rg (pv (r_ms rfl) (pv (r_zs rfl) (nil (t_then ?_)))))
  have hm := oI hm; subst hm
  exact rtn (ret1 rfl rfl ⟨_, rfl, _, (iT im1 (iT im2 (iT im3 (iT im6 im9)))), ⟨_, _, _, rfl, hS10.sel [2, 0] rfl, trivial⟩⟩)

set_option maxRecDepth 100000 in
set_option maxHeartbeats 1000000 in
theorem ref16_has_sim {g : World} {T0 : Nat → Prop} {w0 : World} {R : Assn} {p0 : List Int} {a1 : Option Addr} {c1 : Nat} {p1 : Int} {r : Bool} (hS : Sep g T0 w0 [R]) (h1 : SlR (rInt .i64) T0 w0 (.slice a1 (List.length p0) c1) p0) (hm : ref16_has p0 p1 = some r) :
    Calls Try.prog 42 #[.slice a1 (List.length p0) c1, .int .i64 p1] w0 (RetS T0 w0 fun T w v => v = .bool r ∧ Sep g T w [R] ∧ True) := by
  refine enter (args := [.slice a1 (List.length p0) c1, .int .i64 p1]) Try.func42 rfl Try.ntmps42 rfl fun J => ?_
  unfold ref16_has at hm
  refine sq2 (rg (pv (r_zb rfl) (nil (t_then ?_))))
  refine sq2 (sq2 (rg (pv (r_zi rfl) (nil (t_then ?_)))))
  obtain ⟨o1, ho1, hq1⟩ := bindS hm
  obtain ⟨bd1, hbd1, ho1⟩ := loop_open ho1
  refine blk (wp_loop_ghost (fun m a w1 => ∃ (J : Nat → Value) (T1 : Nat → Prop) (x1 : Int), a = env (nf 18) J [(0, .slice a1 (List.length p0) c1), (1, .int .i64 p1), (5, .int .i64 x1)] ∧ Im T0 w0 T1 w1 ∧ Sep g T1 w1 [R] ∧ loopM bd1 m x1 = some o1) NN ⟨_, _, 0, env_has ⟨rfl, rfl, rfl, trivial⟩, Im.refl, hS.sel [0] rfl, ho1⟩ ?_)
  rintro m _ w1 ⟨J, T1, x1, rfl, im1, hS1, ho1⟩
  obtain ⟨m1, z1, rfl, hm, hn1⟩ := loop_round ho1
  rw [hbd1] at hm
  refine sq2 (sq2 (rg (pv (r_mi rfl) (pv (r_ms rfl) (pv (r_ln rfl Try.underlying44) (pv (r_ib rfl rfl rfl) (nil (t_then ?_))))))))
  refine cnd rfl (fun hb1 => ?_) (fun hb1 => ?_)
  · have hm := ctrue hb1 hm
    refine skp (t_then ?_)
    refine sq2 (blk (sq2 ?_))
    obtain ⟨u1, hx1, hm⟩ := bindS hm
    obtain ⟨b1, of1, cs1, k1, cp1, hv1, hp1, hl1, he1, hr1, hc1, hT1⟩ := (h1.mono im1).ixT hx1 rfl
    cases hr1
    refine rg (pv (r_ms rfl) (pv (r_mi rfl) (pv (r_ixe hv1 rfl Try.underlying44 Try.sizeOf3 hp1 hl1 he1) (pv (r_ld rfl Try.isAgg3 (hc1.get (j := 0) rfl)) (pv (r_mi rfl) (pv (r_ib rfl rfl rfl) (nil (t_then ?_))))))))
    refine cnd rfl (fun hb2 => ?_) (fun hb2 => ?_)
    · have hm := ctrue hb2 hm
      refine sq2 (rg (pv (r_zb rfl) (nil (t_then ?_))))
      have hm := oI hm; subst hm
      have hn1 : _ = Lp.ret _ := hn1
      subst hn1
      have hm := thn_ret hq1
      have hm := oI hm; subst hm
      exact rtn (r_blk (r_then (r_then (r_blk (r_then (ret1 rfl rfl ⟨_, rfl, _, im1, ⟨rfl, hS1.sel [0] rfl, trivial⟩⟩))))))
    have hm := cfalse hb2 hm
    refine skp (t_blk (t_then ?_))
    have hm := oI hm; subst hm
    exact rg (pv (r_mi rfl) (pv (r_ib rfl rfl rfl) (pv (r_zi rfl) (nil (t_then ⟨m1, Nat.lt_succ_self _, _, _, (IntKind.wrap .i64 (x1 + 1)), env_has ⟨rfl, rfl, rfl, trivial⟩, im1, hS1.sel [0] rfl, hn1⟩)))))
  have hm := cfalse hb1 hm
  have hm := oI hm; subst hm
  have hn1 : _ = Lp.brk _ := hn1
  subst hn1
  have hm := thn_brk hq1
  refine xt (x_then (x_then (x_eq (t_then ?_))))
  refine sq2 (rg (pv (r_zb rfl) (nil (t_then ?_))))
  have hm := oI hm; subst hm
  exact rtn (ret1 rfl rfl ⟨_, rfl, _, im1, ⟨rfl, hS1.sel [0] rfl, trivial⟩⟩)

set_option maxRecDepth 100000 in
set_option maxHeartbeats 1000000 in
theorem ref13_Def_sim {g : World} {T0 : Nat → Prop} {w0 : World} {R : Assn} {p0 : Ins} {a1 : Option Addr} {c1 : Nat} {r : Int} (hS : Sep g T0 w0 [R]) (h1 : SlR (rInt .i64) T0 w0 (.slice a1 (List.length p0.Args) c1) p0.Args) (hm : ref13_Def p0 = some r) :
    Calls Try.prog 12 #[.agg (cIns p0 a1 c1).toArray] w0 (RetS T0 w0 fun T w v => v = .int .i64 r ∧ Sep g T w [R] ∧ True) := by
  refine enter (args := [.agg (cIns p0 a1 c1).toArray]) Try.func12 rfl Try.ntmps12 rfl fun J => ?_
  unfold ref13_Def at hm
  refine sq2 (rg (wl rfl (bxS (cs := (cIns p0 a1 c1)) rfl rfl hS fun w1 b1 im1 hS1 => ?_)))
  refine pv (r_zi rfl) (nil (t_then ?_))
  refine sq2 ?_
  obtain ⟨y1, hx1, hm⟩ := bindS hm
  refine rg (pv (r_fa rfl Try.underlying46 rfl Try.sizeOf3 rfl) (pv (r_ld rfl Try.isAgg3 (hS1.cell0 (i := 0) ⟨rfl, rfl⟩ (j := 0) rfl)) (wl rfl (calS cf26 rfl (ref13_fields_sim (p0 := p0.Op) (hS1.bun [0, 1] [] rfl)  hx1) rfl fun v1 T1 w2 im2 rv1 => ?_))))
  obtain ⟨a2, c2, rfl, hS2, h2, _⟩ := rv1
  have hS2 : Sep g T1 w2 [boxA b1 (cIns p0 a1 c1), R] := hS2.unb
  refine pv (r_zs rfl) (nil (t_then ?_))
  refine sq2 (sq2 (rg (pv (r_ms rfl) (pv (r_ln rfl Try.underlying50) (pv (r_ib rfl rfl rfl) (pv (r_mb rfl) (?_)))))))
  rcases Bool.eq_false_or_eq_true ((List.length y1 : Int) == 0) with hb1 | hb1
  · have hm := ctrue hb1 hm
    refine gF (d0 := 10) rfl rfl (by rw [hb1]; rfl) (gF (d0 := 10) rfl rfl (by rw [hb1]; rfl) (gF (d0 := 10) rfl rfl (by rw [hb1]; rfl) (gF (d0 := 10) rfl rfl (by rw [hb1]; rfl) (pv (r_pkt rfl hb1 rfl) (nil (t_then ?_))))))
    refine cnd (b := true) rfl (fun _ => ?_) (fun h => nomatch h)
    refine sq2 (rg (pv (r_zi rfl) (nil (t_then ?_))))
    have hm := oI hm; subst hm
    exact rtn (r_then (ret1 rfl rfl ⟨_, rfl, _, (iT im1 im2), ⟨rfl, hS2.sel [1] rfl, trivial⟩⟩))
  have hm := cfalse hb1 hm
  obtain ⟨u1, hx2, hm⟩ := bindS hm
  obtain ⟨b2, of1, cs1, k1, cp1, hv1, hp1, hl1, he1, hr1, hc1, hT1⟩ := h2.ixT hx2 rfl
  cases hr1
  refine gT (d0 := 10) rfl rfl hb1 (pv (r_ms rfl) (gT (d0 := 10) rfl rfl hb1 (pv (r_ixe hv1 rfl Try.underlying50 Try.sizeOf4 hp1 hl1 he1) (gT (d0 := 10) rfl rfl hb1 (pv (r_ld rfl Try.isAgg4 (hc1.get (j := 0) rfl)) (gT (d0 := 10) rfl rfl hb1 (pv (r_nt rfl) (pv (r_pkf rfl hb1 rfl) (nil (t_then ?_))))))))))
  refine cnd rfl (fun hb2 => ?_) (fun hb2 => ?_)
  · have hm := ctrue hb2 hm
    refine sq2 (rg (pv (r_zi rfl) (nil (t_then ?_))))
    have hm := oI hm; subst hm
    exact rtn (r_then (ret1 rfl rfl ⟨_, rfl, _, (iT im1 im2), ⟨rfl, hS2.sel [1] rfl, trivial⟩⟩))
  have hm := cfalse hb2 hm
  refine skp (t_then ?_)
  refine sq2 (rg (pv (r_fa rfl Try.underlying46 rfl Try.sizeOf3 rfl) (pv (r_ld rfl Try.isAgg3 (hS2.cell0 (i := 0) ⟨rfl, rfl⟩ (j := 1) rfl)) (pv (r_zi rfl) (nil (t_then ?_))))))
  have hm := oI hm; subst hm
  exact rtn (ret1 rfl rfl ⟨_, rfl, _, (iT im1 im2), ⟨rfl, hS2.sel [1] rfl, trivial⟩⟩)

set_option maxRecDepth 100000 in
set_option maxHeartbeats 1000000 in
theorem ref16_within_sim {g : World} {T0 : Nat → Prop} {w0 : World} {R : Assn} {p0 : GBlock} {a1 : Option Addr} {c1 : Nat} {p1 : Int} {p2 : Int} {r : Int} (hS : Sep g T0 w0 [R]) (h1 : SlR rIns T0 w0 (.slice a1 (List.length p0.Ins) c1) p0.Ins) (hm : ref16_within p0 p1 p2 = some r) :
    Calls Try.prog 24 #[.agg #[.slice a1 (List.length p0.Ins) c1, .int .i64 p0.End, .int .i64 p0.A, .int .i64 p0.To, .int .i64 p0.Else], .int .i64 p1, .int .i64 p2] w0 (RetS T0 w0 fun T w v => v = .int .i64 r ∧ Sep g T w [R] ∧ True) := by
  refine enter (args := [.agg #[.slice a1 (List.length p0.Ins) c1, .int .i64 p0.End, .int .i64 p0.A, .int .i64 p0.To, .int .i64 p0.Else], .int .i64 p1, .int .i64 p2]) Try.func24 rfl Try.ntmps24 rfl fun J => ?_
  unfold ref16_within at hm
  refine sq2 (rg (wl rfl (bxS (cs := [.slice a1 (List.length p0.Ins) c1, .int .i64 p0.End, .int .i64 p0.A, .int .i64 p0.To, .int .i64 p0.Else]) rfl rfl hS fun w1 b1 im1 hS1 => ?_)))
  refine pv (r_zi rfl) (nil (t_then ?_))
  refine sq2 (sq2 (rg (pv (r_mi rfl) (pv (r_zi rfl) (nil (t_then ?_))))))
  obtain ⟨o1, ho1, hq1⟩ := bindS hm
  obtain ⟨bd1, hbd1, ho1⟩ := loop_open ho1
  refine blk (wp_loop_ghost (fun m a w2 => ∃ (J : Nat → Value) (T1 : Nat → Prop) (x1 : Int), a = env (nf 46) J [(2, .int .i64 p2), (3, .pointer (some ⟨b1, 0, none⟩)), (7, .int .i64 x1)] ∧ Im T0 w1 T1 w2 ∧ Sep g T1 w2 [boxA b1 [.slice a1 (List.length p0.Ins) c1, .int .i64 p0.End, .int .i64 p0.A, .int .i64 p0.To, .int .i64 p0.Else], R] ∧ loopM bd1 m x1 = some o1) NN ⟨_, _, p1, env_has ⟨rfl, rfl, rfl, trivial⟩, Im.refl, hS1.sel [0, 1] rfl, ho1⟩ ?_)
  rintro m _ w2 ⟨J, T1, x1, rfl, im2, hS2, ho1⟩
  obtain ⟨m1, z1, rfl, hm, hn1⟩ := loop_round ho1
  rw [hbd1] at hm
  refine sq2 (sq2 (rg (pv (r_mi rfl) (pv (r_fa rfl Try.underlying42 rfl Try.sizeOf40 rfl) (pv (r_ld rfl Try.isAgg40 (hS2.cell0 (i := 0) ⟨rfl, rfl⟩ (j := 0) rfl)) (pv (r_ln rfl Try.underlying40) (pv (r_ib rfl rfl rfl) (nil (t_then ?_)))))))))
  refine cnd rfl (fun hb1 => ?_) (fun hb1 => ?_)
  · have hm := ctrue hb1 hm
    refine skp (t_then ?_)
    refine sq2 (blk (sq2 (sq2 ?_)))
    obtain ⟨u1, hx1, hm⟩ := bindS hm
    obtain ⟨b2, of1, cs1, k1, cp1, hv1, hp1, hl1, he1, hr1, hc1, hT1⟩ := (h1.mono (iT im1 im2)).ixT hx1 rfl
    obtain ⟨a2, c2, rfl, h2⟩ := rIns_open hr1
    obtain ⟨y1, hx2, hm⟩ := bindS hm
    refine rg (pv (r_fa rfl Try.underlying42 rfl Try.sizeOf40 rfl) (pv (r_ld rfl Try.isAgg40 (hS2.cell0 (i := 0) ⟨rfl, rfl⟩ (j := 0) rfl)) (pv (r_mi rfl) (pv (r_ixe hv1 rfl Try.underlying40 Try.sizeOf46 hp1 hl1 he1) (pv (r_ldS rfl Try.isAgg46 Try.sizeOf46 rfl hc1 (cs := (cIns u1 a2 c2))) (wl rfl (calS cf11 rfl (ref13_Uses_sim (p0 := u1) (hS2.bun [0, 1] [] rfl) h2 hx2) rfl fun v1 T2 w3 im3 rv1 => ?_)))))))
    obtain ⟨a3, n1, c3, rfl, hS3, _⟩ := rv1
    have hS3 : Sep g T2 w3 [boxA b1 [.slice a1 (List.length p0.Ins) c1, .int .i64 p0.End, .int .i64 p0.A, .int .i64 p0.To, .int .i64 p0.Else], R, ownA (rInt .i64) 3 (.slice a3 n1 c3) y1] := hS3.unb
    refine pv (r_mi rfl) (?_)
    obtain ⟨T3, im4, hS4, h3⟩ := hS3.seal 2 ⟨rfl, rfl⟩
    have hsh := h3.len
    subst hsh
    have hS4 : Sep g T3 w3 [boxA b1 [.slice a1 (List.length p0.Ins) c1, .int .i64 p0.End, .int .i64 p0.A, .int .i64 p0.To, .int .i64 p0.Else], R, empA] := hS4
    obtain ⟨y2, hx3, hm⟩ := bindS hm
    refine wl rfl (calS cf42 rfl (ref16_has_sim (p0 := y1) (p1 := p2) (hS4.bun [0, 1] [] rfl) h3 hx3) rfl fun v2 T4 w4 im5 rv2 => ?_)
    obtain ⟨rfl, hS5, _⟩ := rv2
    have hS5 : Sep g T4 w4 [boxA b1 [.slice a1 (List.length p0.Ins) c1, .int .i64 p0.End, .int .i64 p0.A, .int .i64 p0.To, .int .i64 p0.Else], R] := hS5.unb
    refine nil (t_then ?_)
    refine cnd rfl (fun hb2 => ?_) (fun hb2 => ?_)
    · have hm := ctrue hb2 hm
      refine sq2 (rg (pv (r_zi rfl) (nil (t_then ?_))))
      have hm := oI hm; subst hm
      have hn1 : _ = Lp.ret _ := hn1
      subst hn1
      have hm := thn_ret hq1
      have hm := oI hm; subst hm
      exact rtn (r_then (r_blk (r_then (r_then (r_blk (r_then (ret1 rfl rfl ⟨_, rfl, _, (iT im1 (iT im2 (iT im3 (iT im4 im5)))), ⟨rfl, hS5.sel [1] rfl, trivial⟩⟩)))))))
    have hm := cfalse hb2 hm
    refine skp (t_then ?_)
    refine sq2 ?_
    obtain ⟨u2, hx4, hm⟩ := bindS hm
    obtain ⟨b3, of2, cs2, k2, cp2, hv2, hp2, hl2, he2, hr2, hc2, hT2⟩ := (h1.mono (iT im1 (iT im2 (iT im3 (iT im4 im5))))).ixT hx4 rfl
    obtain ⟨a4, c4, rfl, h4⟩ := rIns_open hr2
    obtain ⟨y3, hx5, hm⟩ := bindS hm
    refine rg (pv (r_fa rfl Try.underlying42 rfl Try.sizeOf40 rfl) (pv (r_ld rfl Try.isAgg40 (hS5.cell0 (i := 0) ⟨rfl, rfl⟩ (j := 0) rfl)) (pv (r_mi rfl) (pv (r_ixe hv2 rfl Try.underlying40 Try.sizeOf46 hp2 hl2 he2) (pv (r_ldS rfl Try.isAgg46 Try.sizeOf46 rfl hc2 (cs := (cIns u2 a4 c4))) (wl rfl (calS cf12 rfl (ref13_Def_sim (p0 := u2) (hS5.bun [0, 1] [] rfl) h4 hx5) rfl fun v3 T5 w5 im6 rv3 => ?_)))))))
    obtain ⟨rfl, hS6, _⟩ := rv3
    have hS6 : Sep g T5 w5 [boxA b1 [.slice a1 (List.length p0.Ins) c1, .int .i64 p0.End, .int .i64 p0.A, .int .i64 p0.To, .int .i64 p0.Else], R] := hS6.unb
    refine pv (r_mi rfl) (pv (r_ib rfl rfl rfl) (nil (t_then ?_)))
    refine cnd rfl (fun hb3 => ?_) (fun hb3 => ?_)
    · have hm := ctrue hb3 hm
      refine sq2 (rg (pv (r_zi rfl) (nil (t_then ?_))))
      have hm := oI hm; subst hm
      have hn1 : _ = Lp.ret _ := hn1
      subst hn1
      have hm := thn_ret hq1
      have hm := oI hm; subst hm
      exact rtn (r_blk (r_then (r_then (r_blk (r_then (ret1 rfl rfl ⟨_, rfl, _, (iT im1 (iT im2 (iT im3 (iT im4 (iT im5 im6))))), ⟨rfl, hS6.sel [1] rfl, trivial⟩⟩))))))
    have hm := cfalse hb3 hm
    refine skp (t_blk (t_then ?_))
    have hm := oI hm; subst hm
    exact rg (pv (r_mi rfl) (pv (r_ib rfl rfl rfl) (pv (r_zi rfl) (nil (t_then ⟨m1, Nat.lt_succ_self _, _, _, (IntKind.wrap .i64 (x1 + 1)), env_has ⟨rfl, rfl, rfl, trivial⟩, (iT im2 (iT im3 (iT im4 (iT im5 im6)))), hS6.sel [0, 1] rfl, hn1⟩)))))
  have hm := cfalse hb1 hm
  have hm := oI hm; subst hm
  have hn1 : _ = Lp.brk _ := hn1
  subst hn1
  have hm := thn_brk hq1
  refine xt (x_then (x_then (x_eq (t_then ?_))))
  refine sq2 (sq2 (rg (pv (r_fa rfl Try.underlying42 rfl Try.sizeOf3 rfl) (pv (r_ld rfl Try.isAgg3 (hS2.cell0 (i := 0) ⟨rfl, rfl⟩ (j := 1) rfl)) (pv (r_ib rfl rfl rfl) (pv (r_mb rfl) (?_)))))))
  rcases Bool.eq_false_or_eq_true (p0.End == 2) with hb4 | hb4
  · have hm := ctrue hb4 hm
    refine gF (d0 := 35) rfl rfl (by rw [hb4]; rfl) (gF (d0 := 35) rfl rfl (by rw [hb4]; rfl) (gF (d0 := 35) rfl rfl (by rw [hb4]; rfl) (pv (r_pkt rfl hb4 rfl) (pv (r_mb rfl) (gT (d0 := 40) rfl rfl rfl (pv (r_fa rfl Try.underlying42 rfl Try.sizeOf3 rfl) (gT (d0 := 40) rfl rfl rfl (pv (r_ld rfl Try.isAgg3 (hS2.cell0 (i := 0) ⟨rfl, rfl⟩ (j := 2) rfl)) (gT (d0 := 40) rfl rfl rfl (pv (r_mi rfl) (gT (d0 := 40) rfl rfl rfl (pv (r_ib rfl rfl rfl) (pv (r_pkt rfl rfl rfl) (nil (t_then ?_)))))))))))))))
    refine cnd rfl (fun hb8 => ?_) (fun hb8 => ?_)
    · have hm := ctrue hb8 hm
      refine sq2 (rg (pv (r_zi rfl) (nil (t_then ?_))))
      have hm := oI hm; subst hm
      exact rtn (r_then (ret1 rfl rfl ⟨_, rfl, _, (iT im1 im2), ⟨rfl, hS2.sel [1] rfl, trivial⟩⟩))
    have hm := cfalse hb8 hm
    refine skp (t_then ?_)
    refine sq2 (rg (pv (r_zi rfl) (nil (t_then ?_))))
    have hm := oI hm; subst hm
    exact rtn (ret1 rfl rfl ⟨_, rfl, _, (iT im1 im2), ⟨rfl, hS2.sel [1] rfl, trivial⟩⟩)
  have hm := cfalse hb4 hm
  refine gT (d0 := 35) rfl rfl hb4 (pv (r_fa rfl Try.underlying42 rfl Try.sizeOf3 rfl) (gT (d0 := 35) rfl rfl hb4 (pv (r_ld rfl Try.isAgg3 (hS2.cell0 (i := 0) ⟨rfl, rfl⟩ (j := 1) rfl)) (gT (d0 := 35) rfl rfl hb4 (pv (r_ib rfl rfl rfl) (pv (r_pkf rfl hb4 rfl) (pv (r_mb rfl) (?_))))))))
  rcases Bool.eq_false_or_eq_true (p0.End == 3) with hb5 | hb5
  · have hm := ctrue hb5 hm
    refine gT (d0 := 40) rfl rfl hb5 (pv (r_fa rfl Try.underlying42 rfl Try.sizeOf3 rfl) (gT (d0 := 40) rfl rfl hb5 (pv (r_ld rfl Try.isAgg3 (hS2.cell0 (i := 0) ⟨rfl, rfl⟩ (j := 2) rfl)) (gT (d0 := 40) rfl rfl hb5 (pv (r_mi rfl) (gT (d0 := 40) rfl rfl hb5 (pv (r_ib rfl rfl rfl) (pv (r_pkt rfl hb5 rfl) (nil (t_then ?_))))))))))
    refine cnd rfl (fun hb6 => ?_) (fun hb6 => ?_)
    · have hm := ctrue hb6 hm
      refine sq2 (rg (pv (r_zi rfl) (nil (t_then ?_))))
      have hm := oI hm; subst hm
      exact rtn (r_then (ret1 rfl rfl ⟨_, rfl, _, (iT im1 im2), ⟨rfl, hS2.sel [1] rfl, trivial⟩⟩))
    have hm := cfalse hb6 hm
    refine skp (t_then ?_)
    refine sq2 (rg (pv (r_zi rfl) (nil (t_then ?_))))
    have hm := oI hm; subst hm
    exact rtn (ret1 rfl rfl ⟨_, rfl, _, (iT im1 im2), ⟨rfl, hS2.sel [1] rfl, trivial⟩⟩)
  have hm := cfalse hb5 hm
  refine gF (d0 := 40) rfl rfl (by rw [hb5]; rfl) (gF (d0 := 40) rfl rfl (by rw [hb5]; rfl) (gF (d0 := 40) rfl rfl (by rw [hb5]; rfl) (gF (d0 := 40) rfl rfl (by rw [hb5]; rfl) (pv (r_pkf rfl hb5 rfl) (nil (t_then ?_))))))
  refine cnd (b := false) rfl (fun h => nomatch h) (fun _ => ?_)
  refine skp (t_then ?_)
  refine sq2 (rg (pv (r_zi rfl) (nil (t_then ?_))))
  have hm := oI hm; subst hm
  exact rtn (ret1 rfl rfl ⟨_, rfl, _, (iT im1 im2), ⟨rfl, hS2.sel [1] rfl, trivial⟩⟩)

set_option maxRecDepth 100000 in
set_option maxHeartbeats 1000000 in
theorem ref13_Outs_sim {g : World} {T0 : Nat → Prop} {w0 : World} {R : Assn} {p0 : GBlock} {a1 : Option Addr} {c1 : Nat} {r : (List Int)} (hS : Sep g T0 w0 [R]) (h1 : SlR rIns T0 w0 (.slice a1 (List.length p0.Ins) c1) p0.Ins) (hm : ref13_Outs p0 = some r) :
    Calls Try.prog 43 #[.agg #[.slice a1 (List.length p0.Ins) c1, .int .i64 p0.End, .int .i64 p0.A, .int .i64 p0.To, .int .i64 p0.Else]] w0 (RetS T0 w0 fun T w v => ∃ (a10 : Option Addr) (n9 : Nat) (c10 : Nat), v = .slice a10 n9 c10 ∧ Sep g T w [R, ownA (rInt .i64) 3 (.slice a10 n9 c10) r] ∧ True) := by
  refine enter (args := [.agg #[.slice a1 (List.length p0.Ins) c1, .int .i64 p0.End, .int .i64 p0.A, .int .i64 p0.To, .int .i64 p0.Else]]) Try.func43 rfl Try.ntmps43 rfl fun J => ?_
  unfold ref13_Outs at hm
  refine sq2 (rg (wl rfl (bxS (cs := [.slice a1 (List.length p0.Ins) c1, .int .i64 p0.End, .int .i64 p0.A, .int .i64 p0.To, .int .i64 p0.Else]) rfl rfl hS fun w1 b1 im1 hS1 => ?_)))
  refine pv (r_zs rfl) (nil (t_then ?_))
  refine sq2 (rg (pv (r_zs rfl) (nil (t_then ?_))))
  obtain ⟨kk1, hkk1, hm⟩ := jn_open hm
  have hS2 := hS1.nilO (rInt .i64) 3
  refine cut (fun a w2 => ∃ (J : Nat → Value) (T1 : Nat → Prop) (x1 : List Int) (a2 : Option Addr) (n1 : Nat) (c2 : Nat), a = env (nf 33) J [(1, .pointer (some ⟨b1, 0, none⟩)), (3, .slice a2 n1 c2)] ∧ Im T0 w1 T1 w2 ∧ Sep g T1 w2 [ownA (rInt .i64) 3 (.slice a2 n1 c2) x1, boxA b1 [.slice a1 (List.length p0.Ins) c1, .int .i64 p0.End, .int .i64 p0.A, .int .i64 p0.To, .int .i64 p0.Else], R] ∧ kk1 x1 = some r) ?_ ?_
  · refine sq2 (rg (pv (r_fa rfl Try.underlying42 rfl Try.sizeOf3 rfl) (pv (r_ld rfl Try.isAgg3 (hS2.cell0 (i := 1) ⟨rfl, rfl⟩ (j := 1) rfl)) (pv (r_ib rfl rfl rfl) (pv (r_mb rfl) (?_))))))
    rcases Bool.eq_false_or_eq_true (p0.End == 1) with hb1 | hb1
    · have hm := ctrue hb1 hm
      refine gF (d0 := 7) rfl rfl (by rw [hb1]; rfl) (gF (d0 := 7) rfl rfl (by rw [hb1]; rfl) (gF (d0 := 7) rfl rfl (by rw [hb1]; rfl) (pv (r_pkt rfl hb1 rfl) (nil (t_then ?_)))))
      refine cnd (b := true) rfl (fun _ => ?_) (fun h => nomatch h)
      refine rg (pv (r_ms rfl) (pv (r_fa rfl Try.underlying42 rfl Try.sizeOf3 rfl) (pv (r_ld rfl Try.isAgg3 (hS2.cell0 (i := 1) ⟨rfl, rfl⟩ (j := 3) rfl)) (wl rfl (bsS (r := (rInt .i64)) (l := ([p0.To] : List Int)) (css := [[.int .i64 p0.To]]) hS2 Try.underlying44 Try.sizeOf3 Try.zeroValue3 rfl rfl (by kernel_rfl) rfl ⟨rfl, trivial⟩ rfl rfl fun w5 a5 n4 c5 im5 hS5 => ?_)))))
      obtain ⟨z_2, hro2, hm⟩ := bindS hm
      refine wl rfl (apO (q := 1) (l := ([] : List Int)) (us := ([p0.To] : List Int)) hS5 ⟨rfl, rfl⟩ rfl rfl (hS5.own (i := 0) ⟨rfl, rfl⟩).v Try.underlying44 el3 (room_some hro2) fun w6 a6 n5 c6 im6 hS6 => ?_)
      have hS6 : Sep g T0 w6 [ownA (rInt .i64) 3 (.slice a5 n4 c5) ([p0.To] : List Int), ownA (rInt .i64) 3 (.slice a6 n5 c6) (([] : List Int) ++ ([p0.To] : List Int)), boxA b1 [.slice a1 (List.length p0.Ins) c1, .int .i64 p0.End, .int .i64 p0.A, .int .i64 p0.To, .int .i64 p0.Else], R] := hS6
      exact pv (r_zs rfl) (nil (t_then ⟨_, _, (([] : List Int) ++ ([p0.To] : List Int)), _, _, _, env_has ⟨rfl, rfl, trivial⟩, (iT im5 im6), hS6.sel [1, 2, 3] rfl, hm⟩))
    have hm := cfalse hb1 hm
    refine gT (d0 := 7) rfl rfl hb1 (pv (r_fa rfl Try.underlying42 rfl Try.sizeOf3 rfl) (gT (d0 := 7) rfl rfl hb1 (pv (r_ld rfl Try.isAgg3 (hS2.cell0 (i := 1) ⟨rfl, rfl⟩ (j := 1) rfl)) (gT (d0 := 7) rfl rfl hb1 (pv (r_ib rfl rfl rfl) (pv (r_pkf rfl hb1 rfl) (nil (t_then ?_))))))))
    refine cnd rfl (fun hb2 => ?_) (fun hb2 => ?_)
    · have hm := ctrue hb2 hm
      refine rg (pv (r_ms rfl) (pv (r_fa rfl Try.underlying42 rfl Try.sizeOf3 rfl) (pv (r_ld rfl Try.isAgg3 (hS2.cell0 (i := 1) ⟨rfl, rfl⟩ (j := 3) rfl)) (wl rfl (bsS (r := (rInt .i64)) (l := ([p0.To] : List Int)) (css := [[.int .i64 p0.To]]) hS2 Try.underlying44 Try.sizeOf3 Try.zeroValue3 rfl rfl (by kernel_rfl) rfl ⟨rfl, trivial⟩ rfl rfl fun w3 a3 n2 c3 im3 hS3 => ?_)))))
      obtain ⟨z_1, hro1, hm⟩ := bindS hm
      refine wl rfl (apO (q := 1) (l := ([] : List Int)) (us := ([p0.To] : List Int)) hS3 ⟨rfl, rfl⟩ rfl rfl (hS3.own (i := 0) ⟨rfl, rfl⟩).v Try.underlying44 el3 (room_some hro1) fun w4 a4 n3 c4 im4 hS4 => ?_)
      have hS4 : Sep g T0 w4 [ownA (rInt .i64) 3 (.slice a3 n2 c3) ([p0.To] : List Int), ownA (rInt .i64) 3 (.slice a4 n3 c4) (([] : List Int) ++ ([p0.To] : List Int)), boxA b1 [.slice a1 (List.length p0.Ins) c1, .int .i64 p0.End, .int .i64 p0.A, .int .i64 p0.To, .int .i64 p0.Else], R] := hS4
      exact pv (r_zs rfl) (nil (t_then ⟨_, _, (([] : List Int) ++ ([p0.To] : List Int)), _, _, _, env_has ⟨rfl, rfl, trivial⟩, (iT im3 im4), hS4.sel [1, 2, 3] rfl, hm⟩))
    have hm := cfalse hb2 hm
    exact skp (t_then ⟨_, _, [], _, _, _, env_has ⟨rfl, rfl, trivial⟩, Im.refl, hS2.sel [0, 1, 2] rfl, hm⟩)
  rintro _ w2 ⟨J, T1, x1, a2, n1, c2, rfl, im2, hS7, hm⟩
  rw [hkk1] at hm
  obtain ⟨kk2, hkk2, hm⟩ := jn_open hm
  refine cut (fun a w7 => ∃ (J : Nat → Value) (T2 : Nat → Prop) (x2 : List Int) (a7 : Option Addr) (n6 : Nat) (c7 : Nat), a = env (nf 33) J [(3, .slice a7 n6 c7)] ∧ Im T1 w2 T2 w7 ∧ Sep g T2 w7 [ownA (rInt .i64) 3 (.slice a7 n6 c7) x2, R] ∧ kk2 x2 = some r) ?_ ?_
  · refine sq2 (rg (pv (r_fa rfl Try.underlying42 rfl Try.sizeOf3 rfl) (pv (r_ld rfl Try.isAgg3 (hS7.cell0 (i := 1) ⟨rfl, rfl⟩ (j := 1) rfl)) (pv (r_ib rfl rfl rfl) (pv (r_mb rfl) (?_))))))
    rcases Bool.eq_false_or_eq_true (p0.End == 2) with hb4 | hb4
    · have hm := ctrue hb4 hm
      refine gT (d0 := 20) rfl rfl hb4 (pv (r_fa rfl Try.underlying42 rfl Try.sizeOf3 rfl) (gT (d0 := 20) rfl rfl hb4 (pv (r_ld rfl Try.isAgg3 (hS7.cell0 (i := 1) ⟨rfl, rfl⟩ (j := 4) rfl)) (gT (d0 := 20) rfl rfl hb4 (pv (r_fa rfl Try.underlying42 rfl Try.sizeOf3 rfl) (gT (d0 := 20) rfl rfl hb4 (pv (r_ld rfl Try.isAgg3 (hS7.cell0 (i := 1) ⟨rfl, rfl⟩ (j := 3) rfl)) (gT (d0 := 20) rfl rfl hb4 (pv (r_ib rfl rfl rfl) (pv (r_pkt rfl hb4 rfl) (nil (t_then ?_))))))))))))
      refine cnd rfl (fun hb5 => ?_) (fun hb5 => ?_)
      · have hm := ctrue hb5 hm
        refine rg (pv (r_ms rfl) (pv (r_fa rfl Try.underlying42 rfl Try.sizeOf3 rfl) (pv (r_ld rfl Try.isAgg3 (hS7.cell0 (i := 1) ⟨rfl, rfl⟩ (j := 4) rfl)) (wl rfl (bsS (r := (rInt .i64)) (l := ([p0.Else] : List Int)) (css := [[.int .i64 p0.Else]]) hS7 Try.underlying44 Try.sizeOf3 Try.zeroValue3 rfl rfl (by kernel_rfl) rfl ⟨rfl, trivial⟩ rfl rfl fun w8 a8 n7 c8 im8 hS8 => ?_)))))
        obtain ⟨z_3, hro3, hm⟩ := bindS hm
        refine wl rfl (apO (q := 1) (l := x1) (us := ([p0.Else] : List Int)) hS8 ⟨rfl, rfl⟩ rfl rfl (hS8.own (i := 0) ⟨rfl, rfl⟩).v Try.underlying44 el3 (room_some hro3) fun w9 a9 n8 c9 im9 hS9 => ?_)
        have hS9 : Sep g T1 w9 [ownA (rInt .i64) 3 (.slice a8 n7 c8) ([p0.Else] : List Int), ownA (rInt .i64) 3 (.slice a9 n8 c9) (x1 ++ ([p0.Else] : List Int)), boxA b1 [.slice a1 (List.length p0.Ins) c1, .int .i64 p0.End, .int .i64 p0.A, .int .i64 p0.To, .int .i64 p0.Else], R] := hS9
        exact pv (r_zs rfl) (nil (t_then ⟨_, _, (x1 ++ ([p0.Else] : List Int)), _, _, _, env_has ⟨rfl, trivial⟩, (iT im8 im9), hS9.sel [1, 3] rfl, hm⟩))
      have hm := cfalse hb5 hm
      exact skp (t_then ⟨_, _, x1, _, _, _, env_has ⟨rfl, trivial⟩, Im.refl, hS7.sel [0, 2] rfl, hm⟩)
    have hm := cfalse hb4 hm
    refine gF (d0 := 20) rfl rfl (by rw [hb4]; rfl) (gF (d0 := 20) rfl rfl (by rw [hb4]; rfl) (gF (d0 := 20) rfl rfl (by rw [hb4]; rfl) (gF (d0 := 20) rfl rfl (by rw [hb4]; rfl) (gF (d0 := 20) rfl rfl (by rw [hb4]; rfl) (pv (r_pkf rfl hb4 rfl) (nil (t_then ?_)))))))
    refine cnd (b := false) rfl (fun h => nomatch h) (fun _ => ?_)
    exact skp (t_then ⟨_, _, x1, _, _, _, env_has ⟨rfl, trivial⟩, Im.refl, hS7.sel [0, 2] rfl, hm⟩)
  rintro _ w7 ⟨J, T2, x2, a7, n6, c7, rfl, im7, hS10, hm⟩
  rw [hkk2] at hm
  refine sq2 (rg (pv (r_ms rfl) (pv (r_zs rfl) (nil (t_then ?_)))))
  have hm := oI hm; subst hm
  exact rtn (ret1 rfl rfl ⟨_, rfl, _, (iT im1 (iT im2 im7)), ⟨_, _, _, rfl, hS10.sel [1, 0] rfl, trivial⟩⟩)

set_option maxRecDepth 100000 in
set_option maxHeartbeats 1000000 in
theorem ref16_Outs_sim {g : World} {T0 : Nat → Prop} {w0 : World} {R : Assn} {p0 : Proc} {a1 : Option Addr} {c1 : Nat} {a2 : Option Addr} {c2 : Nat} {p1 : Int} {r : (List Int)} (hS : Sep g T0 w0 [R]) (h1 : SlR rGSlot T0 w0 (.slice a1 (List.length p0.Objects) c1) p0.Objects) (h2 : SlR rGBlock T0 w0 (.slice a2 (List.length p0.Blocks) c2) p0.Blocks) (hm : ref16_Outs p0 p1 = some r) :
    Calls Try.prog 25 #[.agg (cProc p0 a1 c1 a2 c2).toArray, .int .i64 p1] w0 (RetS T0 w0 fun T w v => ∃ (a9 : Option Addr) (n6 : Nat) (c9 : Nat), v = .slice a9 n6 c9 ∧ Sep g T w [R, ownA (rInt .i64) 3 (.slice a9 n6 c9) r] ∧ True) := by
  refine enter (args := [.agg (cProc p0 a1 c1 a2 c2).toArray, .int .i64 p1]) Try.func25 rfl Try.ntmps25 rfl fun J => ?_
  unfold ref16_Outs at hm
  refine sq2 (rg (wl rfl (bxS (cs := (cProc p0 a1 c1 a2 c2)) rfl rfl hS fun w1 b1 im1 hS1 => ?_)))
  refine pv (r_zs rfl) (nil (t_then ?_))
  refine sq2 (rg (pv (r_zs rfl) (nil (t_then ?_))))
  refine sq2 ?_
  obtain ⟨u1, hx1, hm⟩ := bindS hm
  obtain ⟨b2, of1, cs1, k1, cp1, hv1, hp1, hl1, he1, hr1, hc1, hT1⟩ := (h2.mono im1).ixT hx1 rfl
  obtain ⟨a3, c3, rfl, h3⟩ := rGBlock_open hr1
  obtain ⟨y1, hx2, hm⟩ := bindS hm
  refine rg (pv (r_fa rfl Try.underlying31 rfl Try.sizeOf29 rfl) (pv (r_ld rfl Try.isAgg29 (hS1.cell0 (i := 0) ⟨rfl, rfl⟩ (j := 5) rfl)) (pv (r_mi rfl) (pv (r_ixe hv1 rfl Try.underlying29 Try.sizeOf42 hp1 hl1 he1) (pv (r_ldS rfl Try.isAgg42 Try.sizeOf42 rfl hc1 (cs := [.slice a3 (List.length u1.Ins) c3, .int .i64 u1.End, .int .i64 u1.A, .int .i64 u1.To, .int .i64 u1.Else])) (wl rfl (calS cf43 rfl (ref13_Outs_sim (p0 := u1) (hS1.bun [0, 1] [] rfl) h3 hx2) rfl fun v1 T1 w2 im2 rv1 => ?_)))))))
  obtain ⟨a4, n1, c4, rfl, hS2, _⟩ := rv1
  have hS2 : Sep g T1 w2 [boxA b1 (cProc p0 a1 c1 a2 c2), R, ownA (rInt .i64) 3 (.slice a4 n1 c4) y1] := hS2.unb
  refine pv (r_zs rfl) (nil (t_then ?_))
  refine sq2 (sq2 (rg (pv (r_zi rfl) (nil (t_then ?_)))))
  obtain ⟨o1, ho1, hq1⟩ := bindS hm
  obtain ⟨bd1, hbd1, ho1⟩ := loop_open ho1
  have hS3 := hS2.nilO (rInt .i64) 3
  refine blk (wp_loop_ghost (fun m a w3 => ∃ (J : Nat → Value) (T2 : Nat → Prop) (x1 : List Int) (a5 : Option Addr) (n2 : Nat) (c5 : Nat) (x2 : Int), a = env (nf 43) J [(2, .pointer (some ⟨b1, 0, none⟩)), (5, .slice a5 n2 c5), (6, .slice a4 n1 c4), (7, .int .i64 x2)] ∧ Im T1 w2 T2 w3 ∧ Sep g T2 w3 [ownA (rInt .i64) 3 (.slice a5 n2 c5) x1, boxA b1 (cProc p0 a1 c1 a2 c2), R, ownA (rInt .i64) 3 (.slice a4 n1 c4) y1] ∧ loopM bd1 m (x1, x2) = some o1) NN ⟨_, _, [], _, _, _, 0, env_has ⟨rfl, rfl, rfl, rfl, trivial⟩, Im.refl, hS3.sel [0, 1, 2, 3] rfl, ho1⟩ ?_)
  rintro m _ w3 ⟨J, T2, x1, a5, n2, c5, x2, rfl, im3, hS4, ho1⟩
  obtain ⟨m1, z1, rfl, hm, hn1⟩ := loop_round ho1
  rw [hbd1] at hm
  refine sq2 (sq2 (rg (pv (r_mi rfl) (pv (r_ms rfl) (pv (r_lnV rfl (hS4.own (i := 3) ⟨rfl, rfl⟩).v Try.underlying44) (pv (r_ib rfl rfl rfl) (nil (t_then ?_))))))))
  refine cnd rfl (fun hb1 => ?_) (fun hb1 => ?_)
  · have hm := ctrue hb1 hm
    refine skp (t_then ?_)
    obtain ⟨kk1, hkk1, hm⟩ := jn_open hm
    refine cut (fun a w4 => ∃ (J : Nat → Value) (T3 : Nat → Prop) (x3 : List Int) (a6 : Option Addr) (n3 : Nat) (c6 : Nat), a = env (nf 43) J [(2, .pointer (some ⟨b1, 0, none⟩)), (5, .slice a6 n3 c6), (6, .slice a4 n1 c4), (7, .int .i64 x2)] ∧ Im T2 w3 T3 w4 ∧ Sep g T3 w4 [ownA (rInt .i64) 3 (.slice a6 n3 c6) x3, boxA b1 (cProc p0 a1 c1 a2 c2), R, ownA (rInt .i64) 3 (.slice a4 n1 c4) y1] ∧ kk1 x3 = some z1) ?_ ?_
    · refine blk (sq2 ?_)
      obtain ⟨u2, hx3, hm⟩ := bindS hm
      obtain ⟨b3, of2, cs2, k2, cp2, hv2, hp2, hl2, he2, hr2, hc2⟩ := (hS4.own (i := 3) ⟨rfl, rfl⟩).v.ixq hx3 rfl
      cases hr2
      refine rq mix (by kernel_rfl) hS4.lt (qv (fun _ hq => r_ms rfl) (qv (fun _ hq => r_mi rfl) (qv (fun _ hq => r_ixe hv2 rfl Try.underlying44 Try.sizeOf3 hp2 hl2 he2) (qv (fun _ hq => r_ld rfl Try.isAgg3 (hq.cell (hc2.get (j := 0) rfl))) (qv (fun _ hq => r_ib rfl rfl rfl) (qv (fun _ hq => r_mb rfl) (?_)))))))
      rcases Bool.eq_false_or_eq_true (decide (0 ≤ u2)) with hb2 | hb2
      · have hm := ctrue hb2 hm
        obtain ⟨u3, hx4, hm⟩ := bindS hm
        obtain ⟨b4, of3, cs3, k3, cp3, hv3, hp3, hl3, he3, hr3, hc3⟩ := (hS4.own (i := 3) ⟨rfl, rfl⟩).v.ixq hx4 rfl
        cases hr3
        refine qgT (d0 := 25) rfl rfl hb2 (qv (fun _ hq => r_ms rfl) (qgT (d0 := 25) rfl rfl hb2 (qv (fun _ hq => r_mi rfl) (qgT (d0 := 25) rfl rfl hb2 (qv (fun _ hq => r_ixe hv3 rfl Try.underlying44 Try.sizeOf3 hp3 hl3 he3) (qgT (d0 := 25) rfl rfl hb2 (qv (fun _ hq => r_ld rfl Try.isAgg3 (hq.cell (hc3.get (j := 0) rfl))) (qgT (d0 := 25) rfl rfl hb2 (qv (fun _ hq => r_fa rfl Try.underlying31 rfl Try.sizeOf29 rfl) (qgT (d0 := 25) rfl rfl hb2 (qv (fun _ hq => r_ld rfl Try.isAgg29 (hq.cell (hS4.cell0 (i := 1) ⟨rfl, rfl⟩ (j := 5) rfl))) (qgT (d0 := 25) rfl rfl hb2 (qv (fun _ hq => r_ln rfl Try.underlying29) (qgT (d0 := 25) rfl rfl hb2 (qv (fun _ hq => r_ib rfl rfl rfl) (qv (fun _ hq => r_pkt rfl hb2 rfl) (qn fun w5 T4 i1 => ?_)))))))))))))))))
        have im5 := i1.imm
        have hS5 := hS4.keep i1 (fun _ h => h)
        refine t_then ?_
        refine cnd rfl (fun hb3 => ?_) (fun hb3 => ?_)
        · have hm := ctrue hb3 hm
          obtain ⟨u4, hx5, hm⟩ := bindS hm
          obtain ⟨b5, of4, cs4, k4, cp4, hv4, hp4, hl4, he4, hr4, hc4⟩ := (hS5.own (i := 3) ⟨rfl, rfl⟩).v.ixq hx5 rfl
          cases hr4
          refine rg (pv (r_ms rfl) (pv (r_ms rfl) (pv (r_mi rfl) (pv (r_ixe hv4 rfl Try.underlying44 Try.sizeOf3 hp4 hl4 he4) (pv (r_ld rfl Try.isAgg3 (hc4.get (j := 0) rfl)) (wl rfl (bsS (r := (rInt .i64)) (l := ([u4] : List Int)) (css := [[.int .i64 u4]]) hS5 Try.underlying44 Try.sizeOf3 Try.zeroValue3 rfl rfl (by kernel_rfl) rfl ⟨rfl, trivial⟩ rfl rfl fun w6 a7 n4 c7 im6 hS6 => ?_)))))))
          obtain ⟨z_1, hro1, hm⟩ := bindS hm
          refine wl rfl (apO (q := 1) (l := x1) (us := ([u4] : List Int)) hS6 ⟨rfl, rfl⟩ rfl rfl (hS6.own (i := 0) ⟨rfl, rfl⟩).v Try.underlying44 el3 (room_some hro1) fun w7 a8 n5 c8 im7 hS7 => ?_)
          have hS7 : Sep g T4 w7 [ownA (rInt .i64) 3 (.slice a7 n4 c7) ([u4] : List Int), ownA (rInt .i64) 3 (.slice a8 n5 c8) (x1 ++ ([u4] : List Int)), boxA b1 (cProc p0 a1 c1 a2 c2), R, ownA (rInt .i64) 3 (.slice a4 n1 c4) y1] := hS7
          exact pv (r_zs rfl) (nil (t_blk (t_then ⟨_, _, (x1 ++ ([u4] : List Int)), _, _, _, env_has ⟨rfl, rfl, rfl, rfl, trivial⟩, (iT im5 (iT im6 im7)), hS7.sel [1, 2, 3, 4] rfl, hm⟩)))
        have hm := cfalse hb3 hm
        exact skp (t_blk (t_then ⟨_, _, x1, _, _, _, env_has ⟨rfl, rfl, rfl, rfl, trivial⟩, im5, hS5.sel [0, 1, 2, 3] rfl, hm⟩))
      have hm := cfalse hb2 hm
      refine qgF (d0 := 25) rfl rfl (by rw [hb2]; rfl) (qgF (d0 := 25) rfl rfl (by rw [hb2]; rfl) (qgF (d0 := 25) rfl rfl (by rw [hb2]; rfl) (qgF (d0 := 25) rfl rfl (by rw [hb2]; rfl) (qgF (d0 := 25) rfl rfl (by rw [hb2]; rfl) (qgF (d0 := 25) rfl rfl (by rw [hb2]; rfl) (qgF (d0 := 25) rfl rfl (by rw [hb2]; rfl) (qgF (d0 := 25) rfl rfl (by rw [hb2]; rfl) (qv (fun _ hq => r_pkf rfl hb2 rfl) (qn fun w8 T5 i2 => ?_)))))))))
      have im8 := i2.imm
      have hS8 := hS4.keep i2 (fun _ h => h)
      refine t_then ?_
      refine cnd (b := false) rfl (fun h => nomatch h) (fun _ => ?_)
      exact skp (t_blk (t_then ⟨_, _, x1, _, _, _, env_has ⟨rfl, rfl, rfl, rfl, trivial⟩, im8, hS8.sel [0, 1, 2, 3] rfl, hm⟩))
    rintro _ w4 ⟨J, T3, x3, a6, n3, c6, rfl, im4, hS9, hm⟩
    rw [hkk1] at hm
    have hm := oI hm; subst hm
    exact rg (pv (r_mi rfl) (pv (r_ib rfl rfl rfl) (pv (r_zi rfl) (nil (t_then ⟨m1, Nat.lt_succ_self _, _, _, x3, _, _, _, (IntKind.wrap .i64 (x2 + 1)), env_has ⟨rfl, rfl, rfl, rfl, trivial⟩, (iT im3 im4), hS9.sel [0, 1, 2, 3] rfl, hn1⟩)))))
  have hm := cfalse hb1 hm
  have hm := oI hm; subst hm
  have hn1 : _ = Lp.brk _ := hn1
  subst hn1
  have hm := thn_brk hq1
  refine xt (x_then (x_then (x_eq (t_then ?_))))
  refine sq2 (rg (pv (r_ms rfl) (pv (r_zs rfl) (nil (t_then ?_)))))
  have hm := oI hm; subst hm
  exact rtn (ret1 rfl rfl ⟨_, rfl, _, (iT im1 (iT im2 im3)), ⟨_, _, _, rfl, hS4.sel [2, 0] rfl, trivial⟩⟩)

set_option maxRecDepth 100000 in
set_option maxHeartbeats 1000000 in
theorem ref16_Live_sim {g : World} {T0 : Nat → Prop} {w0 : World} {R : Assn} {p0 : Proc} {a1 : Option Addr} {c1 : Nat} {a2 : Option Addr} {c2 : Nat} {p1 : Int} {p2 : Int} {p3 : Int} {r : Bool} (hS : Sep g T0 w0 [R]) (h1 : SlR rGSlot T0 w0 (.slice a1 (List.length p0.Objects) c1) p0.Objects) (h2 : SlR rGBlock T0 w0 (.slice a2 (List.length p0.Blocks) c2) p0.Blocks) (hm : ref16_Live p0 p1 p2 p3 = some r) :
    Calls Try.prog 9 #[.agg (cProc p0 a1 c1 a2 c2).toArray, .int .i64 p1, .int .i64 p2, .int .i64 p3] w0 (RetS T0 w0 fun T w v => v = .bool r ∧ Sep g T w [R] ∧ True) := by
  refine enter (args := [.agg (cProc p0 a1 c1 a2 c2).toArray, .int .i64 p1, .int .i64 p2, .int .i64 p3]) Try.func9 rfl Try.ntmps9 rfl fun J => ?_
  unfold ref16_Live at hm
  refine sq2 (rg (wl rfl (bxS (cs := (cProc p0 a1 c1 a2 c2)) rfl rfl hS fun w1 b1 im1 hS1 => ?_)))
  refine pv (r_zb rfl) (nil (t_then ?_))
  refine sq2 ?_
  obtain ⟨u1, hx1, hm⟩ := bindS hm
  obtain ⟨b2, of1, cs1, k1, cp1, hv1, hp1, hl1, he1, hr1, hc1, hT1⟩ := (h2.mono im1).ixT hx1 rfl
  obtain ⟨a3, c3, rfl, h3⟩ := rGBlock_open hr1
  obtain ⟨y1, hx2, hm⟩ := bindS hm
  refine rg (pv (r_fa rfl Try.underlying31 rfl Try.sizeOf29 rfl) (pv (r_ld rfl Try.isAgg29 (hS1.cell0 (i := 0) ⟨rfl, rfl⟩ (j := 5) rfl)) (pv (r_mi rfl) (pv (r_ixe hv1 rfl Try.underlying29 Try.sizeOf42 hp1 hl1 he1) (pv (r_ldS rfl Try.isAgg42 Try.sizeOf42 rfl hc1 (cs := [.slice a3 (List.length u1.Ins) c3, .int .i64 u1.End, .int .i64 u1.A, .int .i64 u1.To, .int .i64 u1.Else])) (pv (r_mi rfl) (pv (r_mi rfl) (wl rfl (calS cf24 rfl (ref16_within_sim (p0 := u1) (p1 := p2) (p2 := p3) (hS1.bun [0, 1] [] rfl) h3 hx2) rfl fun v1 T1 w2 im2 rv1 => ?_)))))))))
  obtain ⟨rfl, hS2, _⟩ := rv1
  have hS2 : Sep g T1 w2 [boxA b1 (cProc p0 a1 c1 a2 c2), R] := hS2.unb
  refine pv (r_zi rfl) (nil (t_then ?_))
  refine sq2 (sq2 (rg (pv (r_mi rfl) (pv (r_ib rfl rfl rfl) (nil (t_then ?_))))))
  refine cnd rfl (fun hb1 => ?_) (fun hb1 => ?_)
  · have hm := ctrue hb1 hm
    refine sq2 (rg (pv (r_mi rfl) (pv (r_ib rfl rfl rfl) (pv (r_zb rfl) (nil (t_then ?_))))))
    have hm := oI hm; subst hm
    exact rtn (r_then (ret1 rfl rfl ⟨_, rfl, _, (iT im1 im2), ⟨rfl, hS2.sel [1] rfl, trivial⟩⟩))
  have hm := cfalse hb1 hm
  refine skp (t_then ?_)
  refine sq2 ?_
  obtain ⟨u2, hx3, hm⟩ := bindS hm
  refine rg (pv (r_fa rfl Try.underlying31 rfl Try.sizeOf29 rfl) (pv (r_ld rfl Try.isAgg29 (hS2.cell0 (i := 0) ⟨rfl, rfl⟩ (j := 5) rfl)) (pv (r_ln rfl Try.underlying29) (wl rfl (msS (r := rBool) hS2 rfl rfl Try.underlying50 el4 Try.zeroValue4 rfl hx3 fun w3 a4 n1 c4 im3 hS3 => ?_)))))
  refine pv (r_zs rfl) (nil (t_then ?_))
  refine sq2 ?_
  obtain ⟨y2, hx4, hm⟩ := bindS hm
  refine rg (pv (r_ldS rfl Try.isAgg31 Try.sizeOf31 rfl (hS3.cells0 (i := 1) ⟨rfl, rfl⟩ (o := 0) rfl) (cs := (cProc p0 a1 c1 a2 c2))) (pv (r_mi rfl) (wl rfl (calS cf25 rfl (ref16_Outs_sim (p0 := p0) (p1 := p1) (hS3.bun [0, 1, 2] [] rfl) (h1.mono (iT im1 (iT im2 im3))) (h2.mono (iT im1 (iT im2 im3))) hx4) rfl fun v2 T2 w4 im4 rv2 => ?_))))
  obtain ⟨a5, n2, c5, rfl, hS4, _⟩ := rv2
  have hS4 : Sep g T2 w4 [ownA rBool 4 (.slice a4 n1 c4) u2, boxA b1 (cProc p0 a1 c1 a2 c2), R, ownA (rInt .i64) 3 (.slice a5 n2 c5) y2] := hS4.unb
  refine pv (r_zs rfl) (nil (t_then ?_))
  refine sq2 (sq2 (rg (pv (r_zi rfl) (nil (t_then ?_)))))
  obtain ⟨o1, ho1, hq1⟩ := bindS hm
  obtain ⟨bd1, hbd1, ho1⟩ := loop_open ho1
  refine blk (wp_loop_ghost (fun m a w5 => ∃ (J : Nat → Value) (T3 : Nat → Prop) (x1 : List Bool) (a6 : Option Addr) (n3 : Nat) (c6 : Nat) (x2 : List Int) (a7 : Option Addr) (n4 : Nat) (c7 : Nat) (x3 : Int), a = env (nf 80) J [(3, .int .i64 p3), (4, .pointer (some ⟨b1, 0, none⟩)), (10, .slice a6 n3 c6), (11, .slice a7 n4 c7), (12, .int .i64 x3)] ∧ Im T2 w4 T3 w5 ∧ Sep g T3 w5 [ownA rBool 4 (.slice a6 n3 c6) x1, boxA b1 (cProc p0 a1 c1 a2 c2), R, ownA (rInt .i64) 3 (.slice a7 n4 c7) x2] ∧ loopM bd1 m (x1, x2, x3) = some o1) NN ⟨_, _, u2, _, _, _, y2, _, _, _, 0, env_has ⟨rfl, rfl, rfl, rfl, rfl, trivial⟩, Im.refl, hS4.sel [0, 1, 2, 3] rfl, ho1⟩ ?_)
  rintro m _ w5 ⟨J, T3, x1, a6, n3, c6, x2, a7, n4, c7, x3, rfl, im5, hS5, ho1⟩
  obtain ⟨m1, z1, rfl, hm, hn1⟩ := loop_round ho1
  rw [hbd1] at hm
  refine sq2 (sq2 (rg (pv (r_mi rfl) (pv (r_ms rfl) (pv (r_lnV rfl (hS5.own (i := 3) ⟨rfl, rfl⟩).v Try.underlying44) (pv (r_ib rfl rfl rfl) (nil (t_then ?_))))))))
  refine cnd rfl (fun hb2 => ?_) (fun hb2 => ?_)
  · have hm := ctrue hb2 hm
    refine skp (t_then ?_)
    obtain ⟨kk1, hkk1, hm⟩ := jn_open hm
    refine cut (fun a w6 => ∃ (J : Nat → Value) (T4 : Nat → Prop) (x4 : List Bool) (a8 : Option Addr) (n5 : Nat) (c8 : Nat) (x5 : List Int) (a9 : Option Addr) (n6 : Nat) (c9 : Nat), a = env (nf 80) J [(3, .int .i64 p3), (4, .pointer (some ⟨b1, 0, none⟩)), (10, .slice a8 n5 c8), (11, .slice a9 n6 c9), (12, .int .i64 x3)] ∧ Im T3 w5 T4 w6 ∧ Sep g T4 w6 [ownA rBool 4 (.slice a8 n5 c8) x4, boxA b1 (cProc p0 a1 c1 a2 c2), R, ownA (rInt .i64) 3 (.slice a9 n6 c9) x5] ∧ kk1 x4 x5 = some z1) ?_ ?_
    · refine blk (sq2 ?_)
      obtain ⟨u3, hx5, hm⟩ := bindS hm
      obtain ⟨b3, of2, cs2, k2, cp2, hv2, hp2, hl2, he2, hr2, hc2⟩ := (hS5.own (i := 3) ⟨rfl, rfl⟩).v.ixq hx5 rfl
      cases hr2
      refine rg (pv (r_ms rfl) (pv (r_mi rfl) (pv (r_ixe hv2 rfl Try.underlying44 Try.sizeOf3 hp2 hl2 he2) (pv (r_ld rfl Try.isAgg3 (hc2.get (j := 0) rfl)) (pv (r_zi rfl) (nil (t_then ?_)))))))
      refine sq2 (sq2 ?_)
      obtain ⟨u4, hx6, hm⟩ := bindS hm
      obtain ⟨b4, of3, cs3, k3, cp3, hv3, hp3, hl3, he3, hr3, hc3⟩ := (hS5.own (i := 0) ⟨rfl, rfl⟩).v.ixq hx6 rfl
      cases hr3
      refine rg (pv (r_ms rfl) (pv (r_mi rfl) (pv (r_ixe hv3 rfl Try.underlying50 Try.sizeOf4 hp3 hl3 he3) (pv (r_ld rfl Try.isAgg4 (hc3.get (j := 0) rfl)) (nil (t_then ?_))))))
      refine cnd rfl (fun hb3 => ?_) (fun hb3 => ?_)
      · have hm := ctrue hb3 hm
        exact xt (x_then (x_eq (t_then ⟨_, _, x1, _, _, _, x2, _, _, _, env_has ⟨rfl, rfl, rfl, rfl, rfl, trivial⟩, Im.refl, hS5.sel [0, 1, 2, 3] rfl, hm⟩)))
      have hm := cfalse hb3 hm
      refine skp (t_then ?_)
      refine sq2 ?_
      obtain ⟨u5, hx7, hm⟩ := bindS hm
      obtain ⟨b5, of4, cs4, k4, cp4, hv4, hp4, hl4, he4, hr4, hc4⟩ := (hS5.own (i := 0) ⟨rfl, rfl⟩).v.ixq hx7 rfl
      cases hr4
      obtain ⟨u6, hx8, hm⟩ := bindS hm
      refine rg (pv (r_ms rfl) (pv (r_mi rfl) (pv (r_ixe hv4 rfl Try.underlying50 Try.sizeOf4 hp4 hl4 he4) (wl rfl (stO (q := 0) (i := Int.toNat u3) (j := 0) (u := u6) (u' := true) hS5 ⟨rfl, rfl⟩ hv4 (idx_some hx8).2.2 he4 rfl rfl rfl Try.sizeOf4 rfl rfl rfl (fun c0 hc0 => by rw [storeL_all (r := rBool) hc0 rfl]; exact rfl) fun w7 im7 hS6 => ?_)))))
      have hS6 : Sep g T3 w7 [ownA rBool 4 (.slice a6 n3 c6) (List.set x1 (Int.toNat u3) true), boxA b1 (cProc p0 a1 c1 a2 c2), R, ownA (rInt .i64) 3 (.slice a7 n4 c7) x2] := hS6
      refine nil (t_then ?_)
      refine sq2 ?_
      obtain ⟨u7, hx9, hm⟩ := bindS hm
      obtain ⟨b6, of5, cs5, k5, cp5, hv5, hp5, hl5, he5, hr5, hc5, hT2⟩ := (h2.mono (iT im1 (iT im2 (iT im3 (iT im4 (iT im5 im7)))))).ixT hx9 rfl
      obtain ⟨a10, c10, rfl, h4⟩ := rGBlock_open hr5
      obtain ⟨y3, hx10, hm⟩ := bindS hm
      refine rg (pv (r_fa rfl Try.underlying31 rfl Try.sizeOf29 rfl) (pv (r_ld rfl Try.isAgg29 (hS6.cell0 (i := 1) ⟨rfl, rfl⟩ (j := 5) rfl)) (pv (r_mi rfl) (pv (r_ixe hv5 rfl Try.underlying29 Try.sizeOf42 hp5 hl5 he5) (pv (r_ldS rfl Try.isAgg42 Try.sizeOf42 rfl hc5 (cs := [.slice a10 (List.length u7.Ins) c10, .int .i64 u7.End, .int .i64 u7.A, .int .i64 u7.To, .int .i64 u7.Else])) (pv (r_mi rfl) (wl rfl (calS cf24 rfl (ref16_within_sim (p0 := u7) (p1 := 0) (p2 := p3) (hS6.bun [0, 1, 2, 3] [] rfl) h4 hx10) rfl fun v3 T5 w8 im8 rv3 => ?_))))))))
      obtain ⟨rfl, hS7, _⟩ := rv3
      have hS7 : Sep g T5 w8 [ownA rBool 4 (.slice a6 n3 c6) (List.set x1 (Int.toNat u3) true), boxA b1 (cProc p0 a1 c1 a2 c2), R, ownA (rInt .i64) 3 (.slice a7 n4 c7) x2] := hS7.unb
      refine pv (r_zi rfl) (nil (t_then ?_))
      refine sq2 (sq2 (rg (pv (r_mi rfl) (pv (r_ib rfl rfl rfl) (nil (t_then ?_))))))
      refine cnd rfl (fun hb4 => ?_) (fun hb4 => ?_)
      · have hm := ctrue hb4 hm
        refine sq2 (rg (pv (r_zb rfl) (nil (t_thenR [(8, .bool true)] ⟨rfl, trivial⟩ fun J => ?_))))
        have hm := oI hm; subst hm
        have hn1 : _ = Lp.ret _ := hn1
        subst hn1
        have hm := thn_ret hq1
        have hm := oI hm; subst hm
        exact rtn (r_then (r_blk (r_then (r_then (r_blk (r_then (ret1 rfl rfl ⟨_, rfl, _, (iT im1 (iT im2 (iT im3 (iT im4 (iT im5 (iT im7 im8)))))), ⟨rfl, hS7.sel [2] rfl, trivial⟩⟩)))))))
      have hm := cfalse hb4 hm
      refine skp (t_then ?_)
      refine sq2 (rg (pv (r_mi rfl) (pv (r_ib rfl rfl rfl) (nil (t_thenR [(3, .int .i64 p3), (4, .pointer (some ⟨b1, 0, none⟩)), (10, .slice a6 n3 c6), (11, .slice a7 n4 c7), (12, .int .i64 x3), (13, .int .i64 u3), (63, .bool (y3 == 0))] ⟨rfl, rfl, rfl, rfl, rfl, rfl, rfl, trivial⟩ fun J => ?_)))))
      refine cnd rfl (fun hb5 => ?_) (fun hb5 => ?_)
      · have hm := ctrue hb5 hm
        refine sq2 ?_
        obtain ⟨y4, hx11, hm⟩ := bindS hm
        refine rg (pv (r_ldS rfl Try.isAgg31 Try.sizeOf31 rfl (hS7.cells0 (i := 1) ⟨rfl, rfl⟩ (o := 0) rfl) (cs := (cProc p0 a1 c1 a2 c2))) (pv (r_mi rfl) (wl rfl (calS cf25 rfl (ref16_Outs_sim (p0 := p0) (p1 := u3) (hS7.bun [0, 1, 2, 3] [] rfl) (h1.mono (iT im1 (iT im2 (iT im3 (iT im4 (iT im5 (iT im7 im8))))))) (h2.mono (iT im1 (iT im2 (iT im3 (iT im4 (iT im5 (iT im7 im8))))))) hx11) rfl fun v4 T6 w9 im9 rv4 => ?_))))
        obtain ⟨a11, n7, c11, rfl, hS8, _⟩ := rv4
        have hS8 : Sep g T6 w9 [ownA rBool 4 (.slice a6 n3 c6) (List.set x1 (Int.toNat u3) true), boxA b1 (cProc p0 a1 c1 a2 c2), R, ownA (rInt .i64) 3 (.slice a7 n4 c7) x2, ownA (rInt .i64) 3 (.slice a11 n7 c11) y4] := hS8.unb
        refine pv (r_zs rfl) (nil (t_then ?_))
        refine sq2 (rg (pv (r_zi rfl) (nil (t_then ?_))))
        obtain ⟨o2, ho2, hq2⟩ := bindS hm
        obtain ⟨bd2, hbd2, ho2⟩ := loop_open ho2
        refine blk (wp_loop_ghost (fun m a w10 => ∃ (J : Nat → Value) (T7 : Nat → Prop) (x6 : List Int) (a12 : Option Addr) (n8 : Nat) (c12 : Nat) (x7 : Int), a = env (nf 80) J [(3, .int .i64 p3), (4, .pointer (some ⟨b1, 0, none⟩)), (10, .slice a6 n3 c6), (11, .slice a12 n8 c12), (12, .int .i64 x3), (15, .slice a11 n7 c11), (16, .int .i64 x7)] ∧ Im T6 w9 T7 w10 ∧ Sep g T7 w10 [ownA rBool 4 (.slice a6 n3 c6) (List.set x1 (Int.toNat u3) true), boxA b1 (cProc p0 a1 c1 a2 c2), R, ownA (rInt .i64) 3 (.slice a12 n8 c12) x6, ownA (rInt .i64) 3 (.slice a11 n7 c11) y4] ∧ loopM bd2 m (x6, x7) = some o2) NN ⟨_, _, x2, _, _, _, 0, env_has ⟨rfl, rfl, rfl, rfl, rfl, rfl, rfl, trivial⟩, Im.refl, hS8.sel [0, 1, 2, 3, 4] rfl, ho2⟩ ?_)
        rintro m _ w10 ⟨J, T7, x6, a12, n8, c12, x7, rfl, im10, hS9, ho2⟩
        obtain ⟨m2, z2, rfl, hm, hn2⟩ := loop_round ho2
        rw [hbd2] at hm
        refine sq2 (sq2 (rg (pv (r_mi rfl) (pv (r_ms rfl) (pv (r_lnV rfl (hS9.own (i := 4) ⟨rfl, rfl⟩).v Try.underlying44) (pv (r_ib rfl rfl rfl) (nil (t_then ?_))))))))
        refine cnd rfl (fun hb6 => ?_) (fun hb6 => ?_)
        · have hm := ctrue hb6 hm
          refine skp (t_then ?_)
          refine sq2 (blk ?_)
          obtain ⟨u8, hx12, hm⟩ := bindS hm
          obtain ⟨b7, of6, cs6, k6, cp6, hv6, hp6, hl6, he6, hr6, hc6⟩ := (hS9.own (i := 4) ⟨rfl, rfl⟩).v.ixq hx12 rfl
          cases hr6
          refine rg (pv (r_ms rfl) (pv (r_ms rfl) (pv (r_mi rfl) (pv (r_ixe hv6 rfl Try.underlying44 Try.sizeOf3 hp6 hl6 he6) (pv (r_ld rfl Try.isAgg3 (hc6.get (j := 0) rfl)) (wl rfl (bsS (r := (rInt .i64)) (l := ([u8] : List Int)) (css := [[.int .i64 u8]]) hS9 Try.underlying44 Try.sizeOf3 Try.zeroValue3 rfl rfl (by kernel_rfl) rfl ⟨rfl, trivial⟩ rfl rfl fun w11 a13 n9 c13 im11 hS10 => ?_)))))))
          obtain ⟨z_1, hro1, hm⟩ := bindS hm
          refine wl rfl (apO (q := 4) (l := x6) (us := ([u8] : List Int)) hS10 ⟨rfl, rfl⟩ rfl rfl (hS10.own (i := 0) ⟨rfl, rfl⟩).v Try.underlying44 el3 (room_some hro1) fun w12 a14 n10 c14 im12 hS11 => ?_)
          have hS11 : Sep g T7 w12 [ownA (rInt .i64) 3 (.slice a13 n9 c13) ([u8] : List Int), ownA rBool 4 (.slice a6 n3 c6) (List.set x1 (Int.toNat u3) true), boxA b1 (cProc p0 a1 c1 a2 c2), R, ownA (rInt .i64) 3 (.slice a14 n10 c14) (x6 ++ ([u8] : List Int)), ownA (rInt .i64) 3 (.slice a11 n7 c11) y4] := hS11
          refine pv (r_zs rfl) (nil (t_blk (t_then ?_)))
          have hm := oI hm; subst hm
          exact rg (pv (r_mi rfl) (pv (r_ib rfl rfl rfl) (pv (r_zi rfl) (nil (t_then ⟨m2, Nat.lt_succ_self _, _, _, (x6 ++ ([u8] : List Int)), _, _, _, (IntKind.wrap .i64 (x7 + 1)), env_has ⟨rfl, rfl, rfl, rfl, rfl, rfl, rfl, trivial⟩, (iT im10 (iT im11 im12)), hS11.sel [1, 2, 3, 4, 5] rfl, hn2⟩)))))
        have hm := cfalse hb6 hm
        have hm := oI hm; subst hm
        have hn2 : _ = Lp.brk _ := hn2
        subst hn2
        have hm := thn_brk hq2
        exact xt (x_then (x_then (x_eq (t_blk (t_then ⟨_, _, (List.set x1 (Int.toNat u3) true), _, _, _, x6, _, _, _, env_has ⟨rfl, rfl, rfl, rfl, rfl, trivial⟩, (iT im7 (iT im8 (iT im9 im10))), hS9.sel [0, 1, 2, 3] rfl, hm⟩)))))
      have hm := cfalse hb5 hm
      exact skp (t_blk (t_then ⟨_, _, (List.set x1 (Int.toNat u3) true), _, _, _, x2, _, _, _, env_has ⟨rfl, rfl, rfl, rfl, rfl, trivial⟩, (iT im7 im8), hS7.sel [0, 1, 2, 3] rfl, hm⟩))
    rintro _ w6 ⟨J, T4, x4, a8, n5, c8, x5, a9, n6, c9, rfl, im6, hS12, hm⟩
    rw [hkk1] at hm
    have hm := oI hm; subst hm
    exact rg (pv (r_mi rfl) (pv (r_ib rfl rfl rfl) (pv (r_zi rfl) (nil (t_then ⟨m1, Nat.lt_succ_self _, _, _, x4, _, _, _, x5, _, _, _, (IntKind.wrap .i64 (x3 + 1)), env_has ⟨rfl, rfl, rfl, rfl, rfl, trivial⟩, (iT im5 im6), hS12.sel [0, 1, 2, 3] rfl, hn1⟩)))))
  have hm := cfalse hb2 hm
  have hm := oI hm; subst hm
  have hn1 : _ = Lp.brk _ := hn1
  subst hn1
  have hm := thn_brk hq1
  refine xt (x_then (x_then (x_eq (t_then ?_))))
  refine sq2 (rg (pv (r_zb rfl) (nil (t_then ?_))))
  have hm := oI hm; subst hm
  exact rtn (ret1 rfl rfl ⟨_, rfl, _, (iT im1 (iT im2 (iT im3 (iT im4 im5)))), ⟨rfl, hS5.sel [2] rfl, trivial⟩⟩)

set_option maxRecDepth 100000 in
set_option maxHeartbeats 1000000 in
theorem law24_apart_sim {g : World} {T0 : Nat → Prop} {w0 : World} {R : Assn} {p0 : Proc} {a1 : Option Addr} {c1 : Nat} {a2 : Option Addr} {c2 : Nat} {p1 : List Seat} {a3 : Option Addr} {c3 : Nat} {p2 : Int} {p3 : Int} {p4 : Int} {r : Bool} (hS : Sep g T0 w0 [R]) (h1 : SlR rGSlot T0 w0 (.slice a1 (List.length p0.Objects) c1) p0.Objects) (h2 : SlR rGBlock T0 w0 (.slice a2 (List.length p0.Blocks) c2) p0.Blocks) (h3 : SlR rSeat T0 w0 (.slice a3 (List.length p1) c3) p1) (hm : law24_apart p0 p1 p2 p3 p4 = some r) :
    Calls Try.prog 10 #[.agg (cProc p0 a1 c1 a2 c2).toArray, .slice a3 (List.length p1) c3, .int .i64 p2, .int .i64 p3, .int .i64 p4] w0 (RetS T0 w0 fun T w v => v = .bool r ∧ Sep g T w [R] ∧ True) := by
  refine enter (args := [.agg (cProc p0 a1 c1 a2 c2).toArray, .slice a3 (List.length p1) c3, .int .i64 p2, .int .i64 p3, .int .i64 p4]) Try.func10 rfl Try.ntmps10 rfl fun J => ?_
  unfold law24_apart at hm
  refine sq2 (rg (wl rfl (bxS (cs := (cProc p0 a1 c1 a2 c2)) rfl rfl hS fun w1 b1 im1 hS1 => ?_)))
  refine pv (r_zb rfl) (nil (t_then ?_))
  refine sq2 (sq2 (rg (pv (r_zi rfl) (nil (t_then ?_)))))
  obtain ⟨o1, ho1, hq1⟩ := bindS hm
  obtain ⟨bd1, hbd1, ho1⟩ := loop_open ho1
  refine blk (wp_loop_ghost (fun m a w2 => ∃ (J : Nat → Value) (T1 : Nat → Prop) (x1 : Int), a = env (nf 47) J [(1, .slice a3 (List.length p1) c3), (2, .int .i64 p2), (3, .int .i64 p3), (4, .int .i64 p4), (5, .pointer (some ⟨b1, 0, none⟩)), (11, .int .i64 x1)] ∧ Im T0 w1 T1 w2 ∧ Sep g T1 w2 [boxA b1 (cProc p0 a1 c1 a2 c2), R] ∧ loopM bd1 m x1 = some o1) NN ⟨_, _, 0, env_has ⟨rfl, rfl, rfl, rfl, rfl, rfl, trivial⟩, Im.refl, hS1.sel [0, 1] rfl, ho1⟩ ?_)
  rintro m _ w2 ⟨J, T1, x1, rfl, im2, hS2, ho1⟩
  obtain ⟨m1, z1, rfl, hm, hn1⟩ := loop_round ho1
  rw [hbd1] at hm
  refine sq2 (sq2 (rg (pv (r_mi rfl) (pv (r_ms rfl) (pv (r_ln rfl Try.underlying32) (pv (r_ib rfl rfl rfl) (nil (t_then ?_))))))))
  refine cnd rfl (fun hb1 => ?_) (fun hb1 => ?_)
  · have hm := ctrue hb1 hm
    refine skp (t_then ?_)
    refine sq2 (blk (sq2 (rs [0, 0, 0, 0, 0, 0, 0, 1, 0, 0, 0, 1, 0, 0, 0, 0, 0, 0, 1, 0, 0, 0, 0, 1, 0, 0, 0, 2, 0] [0, 1, 2, 3, 4, 5, 6, 7, 8, 9, 10, 11, 12, 13, 14, 15, 16, 17, 18, 19, 20, 21, 22, 23, 24, 25, 26, 27, 28] mix (by kernel_rfl) hS2.lt fun w3 i1 => ?_)))
    have im3 := i1.imm
    have hS3 := hS2.keep i1 (fun _ h => h)
    refine s0 rfl trivial (fun _ => r_mi rfl) rfl (s0 rfl trivial (fun _ => r_mi rfl) rfl (s0 rfl trivial (fun _ => r_ib rfl rfl rfl) rfl (s0 rfl trivial (fun _ => r_mb rfl) rfl (?_))))
    rcases Bool.eq_false_or_eq_true (x1 != p2) with hb2 | hb2
    · have hm := ctrue hb2 hm
      obtain ⟨u1, hx1, hm⟩ := bindS hm
      obtain ⟨b2, of1, cs1, k1, cp1, hv1, hp1, hl1, he1, hr1, hc1, hT1⟩ := (h3.mono (iT im1 (iT im2 im3))).ixT hx1 rfl
      cases rSeat_open hr1
      obtain ⟨u2, hx2, hm⟩ := bindS hm
      obtain ⟨b3, of2, cs2, k2, cp2, hv2, hp2, hl2, he2, hr2, hc2, hT2⟩ := (h3.mono (iT im1 (iT im2 im3))).ixT hx2 rfl
      cases rSeat_open hr2
      refine s0 rfl ⟨_, rfl, congrArg Value.bool hb2⟩ (fun _ => r_ms rfl) rfl (s0 rfl ⟨_, rfl, congrArg Value.bool hb2⟩ (fun _ => r_mi rfl) rfl (s0 rfl ⟨_, rfl, congrArg Value.bool hb2⟩ (fun _ => r_ixe hv1 rfl Try.underlying32 Try.sizeOf37 hp1 hl1 he1) rfl (s1 rfl ⟨_, rfl, congrArg Value.bool hb2⟩ (r_ldS rfl Try.isAgg37 Try.sizeOf37 rfl hc1 (cs := [.int .i64 u1.Reg, .int .i64 u1.Slot])) rfl (s0 rfl ⟨_, rfl, congrArg Value.bool hb2⟩ (fun _ => r_ms rfl) rfl (s0 rfl ⟨_, rfl, congrArg Value.bool hb2⟩ (fun _ => r_mi rfl) rfl (s0 rfl ⟨_, rfl, congrArg Value.bool hb2⟩ (fun _ => r_ixe hv2 rfl Try.underlying32 Try.sizeOf37 hp2 hl2 he2) rfl (s1 rfl ⟨_, rfl, congrArg Value.bool hb2⟩ (r_ldS rfl Try.isAgg37 Try.sizeOf37 rfl hc2 (cs := [.int .i64 u2.Reg, .int .i64 u2.Slot])) rfl (s0 rfl ⟨_, rfl, congrArg Value.bool hb2⟩ (fun _ => r_seqe rfl rfl (eq_37 u1.Reg u1.Slot u2.Reg u2.Slot)) rfl (s0 rfl trivial (fun _ => r_pkt rfl hb2 rfl) rfl (s0 rfl trivial (fun _ => r_mb rfl) rfl (?_)))))))))))
      rcases Bool.eq_false_or_eq_true ((u1.Reg == u2.Reg) && (u1.Slot == u2.Slot)) with hb3 | hb3
      · have hm := ctrue hb3 hm
        obtain ⟨u3, hx3, hm⟩ := bindS hm
        obtain ⟨b4, of3, cs3, k3, cp3, hv3, hp3, hl3, he3, hr3, hc3, hT3⟩ := (h3.mono (iT im1 (iT im2 im3))).ixT hx3 rfl
        cases rSeat_open hr3
        refine s0 rfl ⟨_, rfl, congrArg Value.bool hb3⟩ (fun _ => r_ms rfl) rfl (s0 rfl ⟨_, rfl, congrArg Value.bool hb3⟩ (fun _ => r_mi rfl) rfl (s0 rfl ⟨_, rfl, congrArg Value.bool hb3⟩ (fun _ => r_ixe hv3 rfl Try.underlying32 Try.sizeOf37 hp3 hl3 he3) rfl (s1 rfl ⟨_, rfl, congrArg Value.bool hb3⟩ (r_ldS rfl Try.isAgg37 Try.sizeOf37 rfl hc3 (cs := [.int .i64 u3.Reg, .int .i64 u3.Slot])) rfl (s0 rfl ⟨_, rfl, congrArg Value.bool hb3⟩ (fun _ => r_bd (by kernel_rfl) rfl (u := .agg #[.int .i64 0, .int .i64 (-1)])) rfl (s0 rfl ⟨_, rfl, congrArg Value.bool hb3⟩ (fun _ => r_seqn rfl rfl (ne_37 u3.Reg u3.Slot 0 (-1))) rfl (s0 rfl trivial (fun _ => r_pkt rfl hb3 rfl) rfl (s0 rfl trivial (fun _ => r_mb rfl) rfl (?_))))))))
        rcases Bool.eq_false_or_eq_true (!((u3.Reg == 0) && (u3.Slot == (-1)))) with hb4 | hb4
        · have hm := ctrue hb4 hm
          obtain ⟨y1, hx4, hm⟩ := bindS hm
          refine s1 rfl ⟨_, rfl, congrArg Value.bool hb4⟩ (r_ldS rfl Try.isAgg31 Try.sizeOf31 rfl (hS3.cells0 (i := 0) ⟨rfl, rfl⟩ (o := 0) rfl) (cs := (cProc p0 a1 c1 a2 c2))) rfl (s0 rfl ⟨_, rfl, congrArg Value.bool hb4⟩ (fun _ => r_mi rfl) rfl (s0 rfl ⟨_, rfl, congrArg Value.bool hb4⟩ (fun _ => r_mi rfl) rfl (s0 rfl ⟨_, rfl, congrArg Value.bool hb4⟩ (fun _ => r_mi rfl) rfl (s2 [] rfl ⟨_, rfl, congrArg Value.bool hb4⟩ rfl (by kernel_rfl) (calS cf9 rfl (ref16_Live_sim (p0 := p0) (p1 := p3) (p2 := p4) (p3 := x1) (hS3.bun [0, 1] [] rfl) (h1.mono (iT im1 (iT im2 im3))) (h2.mono (iT im1 (iT im2 im3))) hx4) rfl fun v1 T2 w4 im4 rv1 => ?_)))))
          obtain ⟨rfl, hS4, _⟩ := rv1
          have hS4 : Sep g T2 w4 [boxA b1 (cProc p0 a1 c1 a2 c2), R] := hS4.unb
          refine ⟨st0, ?_⟩
          refine s0 rfl trivial (fun _ => r_pkt rfl hb4 rfl) rfl (se (t_thenR [(1, .slice a3 (List.length p1) c3), (2, .int .i64 p2), (3, .int .i64 p3), (4, .int .i64 p4), (5, .pointer (some ⟨b1, 0, none⟩)), (11, .int .i64 x1), (46, .bool y1)] ⟨rfl, rfl, rfl, rfl, rfl, rfl, rfl, trivial⟩ fun J => ?_))
          refine cnd rfl (fun hb5 => ?_) (fun hb5 => ?_)
          · have hm := ctrue hb5 hm
            refine sq2 (rg (pv (r_zb rfl) (nil (t_then ?_))))
            have hm := oI hm; subst hm
            have hn1 : _ = Lp.ret _ := hn1
            subst hn1
            have hm := thn_ret hq1
            have hm := oI hm; subst hm
            exact rtn (r_blk (r_then (r_then (r_blk (r_then (ret1 rfl rfl ⟨_, rfl, _, (iT im1 (iT im2 (iT im3 im4))), ⟨rfl, hS4.sel [1] rfl, trivial⟩⟩))))))
          have hm := cfalse hb5 hm
          refine skp (t_blk (t_then ?_))
          have hm := oI hm; subst hm
          exact rg (pv (r_mi rfl) (pv (r_ib rfl rfl rfl) (pv (r_zi rfl) (nil (t_then ⟨m1, Nat.lt_succ_self _, _, _, (IntKind.wrap .i64 (x1 + 1)), env_has ⟨rfl, rfl, rfl, rfl, rfl, rfl, trivial⟩, (iT im2 (iT im3 im4)), hS4.sel [0, 1] rfl, hn1⟩)))))
        have hm := cfalse hb4 hm
        refine sU rfl (gI rfl rfl hb4) (sU rfl (gI rfl rfl hb4) (sU rfl (gI rfl rfl hb4) (sU rfl (gI rfl rfl hb4) (sU rfl (gI rfl rfl hb4) (s0 rfl trivial (fun _ => r_pkf rfl hb4 rfl) rfl (se (t_thenR [(1, .slice a3 (List.length p1) c3), (2, .int .i64 p2), (3, .int .i64 p3), (4, .int .i64 p4), (5, .pointer (some ⟨b1, 0, none⟩)), (11, .int .i64 x1), (46, .bool false)] ⟨rfl, rfl, rfl, rfl, rfl, rfl, rfl, trivial⟩ fun J => ?_)))))))
        refine cnd (b := false) rfl (fun h => nomatch h) (fun _ => ?_)
        refine skp (t_blk (t_then ?_))
        have hm := oI hm; subst hm
        exact rg (pv (r_mi rfl) (pv (r_ib rfl rfl rfl) (pv (r_zi rfl) (nil (t_then ⟨m1, Nat.lt_succ_self _, _, _, (IntKind.wrap .i64 (x1 + 1)), env_has ⟨rfl, rfl, rfl, rfl, rfl, rfl, trivial⟩, (iT im2 im3), hS3.sel [0, 1] rfl, hn1⟩)))))
      have hm := cfalse hb3 hm
      refine sU rfl (gI rfl rfl hb3) (sU rfl (gI rfl rfl hb3) (sU rfl (gI rfl rfl hb3) (sU rfl (gI rfl rfl hb3) (sU rfl (gI rfl rfl hb3) (sU rfl (gI rfl rfl hb3) (s0 rfl trivial (fun _ => r_pkf rfl hb3 rfl) rfl (s0 rfl trivial (fun _ => r_mb rfl) rfl (sU rfl (gI rfl rfl rfl) (sU rfl (gI rfl rfl rfl) (sU rfl (gI rfl rfl rfl) (sU rfl (gI rfl rfl rfl) (sU rfl (gI rfl rfl rfl) (s0 rfl trivial (fun _ => r_pkf rfl rfl rfl) rfl (se (t_thenR [(1, .slice a3 (List.length p1) c3), (2, .int .i64 p2), (3, .int .i64 p3), (4, .int .i64 p4), (5, .pointer (some ⟨b1, 0, none⟩)), (11, .int .i64 x1), (46, .bool false)] ⟨rfl, rfl, rfl, rfl, rfl, rfl, rfl, trivial⟩ fun J => ?_)))))))))))))))
      refine cnd (b := false) rfl (fun h => nomatch h) (fun _ => ?_)
      refine skp (t_blk (t_then ?_))
      have hm := oI hm; subst hm
      exact rg (pv (r_mi rfl) (pv (r_ib rfl rfl rfl) (pv (r_zi rfl) (nil (t_then ⟨m1, Nat.lt_succ_self _, _, _, (IntKind.wrap .i64 (x1 + 1)), env_has ⟨rfl, rfl, rfl, rfl, rfl, rfl, trivial⟩, (iT im2 im3), hS3.sel [0, 1] rfl, hn1⟩)))))
    have hm := cfalse hb2 hm
    refine sU rfl (gI rfl rfl hb2) (sU rfl (gI rfl rfl hb2) (sU rfl (gI rfl rfl hb2) (sU rfl (gI rfl rfl hb2) (sU rfl (gI rfl rfl hb2) (sU rfl (gI rfl rfl hb2) (sU rfl (gI rfl rfl hb2) (sU rfl (gI rfl rfl hb2) (sU rfl (gI rfl rfl hb2) (s0 rfl trivial (fun _ => r_pkf rfl hb2 rfl) rfl (s0 rfl trivial (fun _ => r_mb rfl) rfl (sU rfl (gI rfl rfl rfl) (sU rfl (gI rfl rfl rfl) (sU rfl (gI rfl rfl rfl) (sU rfl (gI rfl rfl rfl) (sU rfl (gI rfl rfl rfl) (sU rfl (gI rfl rfl rfl) (s0 rfl trivial (fun _ => r_pkf rfl rfl rfl) rfl (s0 rfl trivial (fun _ => r_mb rfl) rfl (sU rfl (gI rfl rfl rfl) (sU rfl (gI rfl rfl rfl) (sU rfl (gI rfl rfl rfl) (sU rfl (gI rfl rfl rfl) (sU rfl (gI rfl rfl rfl) (s0 rfl trivial (fun _ => r_pkf rfl rfl rfl) rfl (se (t_thenR [(1, .slice a3 (List.length p1) c3), (2, .int .i64 p2), (3, .int .i64 p3), (4, .int .i64 p4), (5, .pointer (some ⟨b1, 0, none⟩)), (11, .int .i64 x1), (46, .bool false)] ⟨rfl, rfl, rfl, rfl, rfl, rfl, rfl, trivial⟩ fun J => ?_))))))))))))))))))))))))))
    refine cnd (b := false) rfl (fun h => nomatch h) (fun _ => ?_)
    refine skp (t_blk (t_then ?_))
    have hm := oI hm; subst hm
    exact rg (pv (r_mi rfl) (pv (r_ib rfl rfl rfl) (pv (r_zi rfl) (nil (t_then ⟨m1, Nat.lt_succ_self _, _, _, (IntKind.wrap .i64 (x1 + 1)), env_has ⟨rfl, rfl, rfl, rfl, rfl, rfl, trivial⟩, (iT im2 im3), hS3.sel [0, 1] rfl, hn1⟩)))))
  have hm := cfalse hb1 hm
  have hm := oI hm; subst hm
  have hn1 : _ = Lp.brk _ := hn1
  subst hn1
  have hm := thn_brk hq1
  refine xt (x_then (x_then (x_eq (t_then ?_))))
  refine sq2 (rg (pv (r_zb rfl) (nil (t_then ?_))))
  have hm := oI hm; subst hm
  exact rtn (ret1 rfl rfl ⟨_, rfl, _, (iT im1 im2), ⟨rfl, hS2.sel [1] rfl, trivial⟩⟩)

set_option maxRecDepth 100000 in
set_option maxHeartbeats 1000000 in
theorem law24_AllocApart_sim {g : World} {T0 : Nat → Prop} {w0 : World} {R : Assn} {p0 : GModule} {a1 : Option Addr} {c1 : Nat} {a2 : Option Addr} {c2 : Nat} {a3 : Option Addr} {c3 : Nat} {p1 : Int} {p2 : Int} {r : Bool} (hS : Sep g T0 w0 [R]) (h1 : SlR rGSlot T0 w0 (.slice a1 (List.length p0.Globals) c1) p0.Globals) (h2 : SlR (rSl (rInt .u8)) T0 w0 (.slice a2 (List.length p0.Data) c2) p0.Data) (h3 : SlR rProc T0 w0 (.slice a3 (List.length p0.Procs) c3) p0.Procs) (hm : law24_AllocApart p0 p1 p2 = some r) :
    Calls Try.prog 3 #[.agg #[.slice a1 (List.length p0.Globals) c1, .slice a2 (List.length p0.Data) c2, .slice a3 (List.length p0.Procs) c3, .int .i64 p0.Main], .int .i64 p1, .int .i64 p2] w0 (RetS T0 w0 fun T w v => v = .bool r ∧ Sep g T w [R] ∧ True) := by
  refine enter (args := [.agg #[.slice a1 (List.length p0.Globals) c1, .slice a2 (List.length p0.Data) c2, .slice a3 (List.length p0.Procs) c3, .int .i64 p0.Main], .int .i64 p1, .int .i64 p2]) Try.func3 rfl Try.ntmps3 rfl fun J => ?_
  unfold law24_AllocApart at hm
  refine sq2 (rg (wl rfl (bxS (cs := [.slice a1 (List.length p0.Globals) c1, .slice a2 (List.length p0.Data) c2, .slice a3 (List.length p0.Procs) c3, .int .i64 p0.Main]) rfl rfl hS fun w1 b1 im1 hS1 => ?_)))
  refine pv (r_zb rfl) (nil (t_then ?_))
  refine sq2 (sq2 ?_)
  obtain ⟨y1, hx1, hm⟩ := bindS hm
  refine rg (pv (r_ldS rfl Try.isAgg26 Try.sizeOf26 rfl (hS1.cells0 (i := 0) ⟨rfl, rfl⟩ (o := 0) rfl) (cs := [.slice a1 (List.length p0.Globals) c1, .slice a2 (List.length p0.Data) c2, .slice a3 (List.length p0.Procs) c3, .int .i64 p0.Main])) (pv (r_mi rfl) (wl rfl (calS cf6 rfl (law24_few_sim (p0 := p0) (p1 := p1) (hS1.bun [0, 1] [] rfl) (h1.mono im1) (h2.mono im1) (h3.mono im1) hx1) rfl fun v1 T1 w2 im2 rv1 => ?_))))
  obtain ⟨rfl, hS2, _⟩ := rv1
  have hS2 : Sep g T1 w2 [boxA b1 [.slice a1 (List.length p0.Globals) c1, .slice a2 (List.length p0.Data) c2, .slice a3 (List.length p0.Procs) c3, .int .i64 p0.Main], R] := hS2.unb
  refine pv (r_nt rfl) (nil (t_then ?_))
  refine cnd rfl (fun hb1 => ?_) (fun hb1 => ?_)
  · have hm := ctrue hb1 hm
    refine sq2 ?_
    obtain ⟨y2, hx2, hm⟩ := bindS hm
    refine rg (wl rfl (calS cf7 rfl (law24_awake_sim  (hS2.bun [1] [] rfl)  hx2) rfl fun v2 T2 w3 im3 rv2 => ?_))
    obtain ⟨rfl, hS3, _⟩ := rv2
    have hS3 : Sep g T2 w3 [R] := hS3.unb
    refine pv (r_zb rfl) (nil (t_then ?_))
    have hm := oI hm; subst hm
    exact rtn (r_then (ret1 rfl rfl ⟨_, rfl, _, (iT im1 (iT im2 im3)), ⟨rfl, hS3.sel [0] rfl, trivial⟩⟩))
  have hm := cfalse hb1 hm
  refine skp (t_then ?_)
  refine sq2 ?_
  obtain ⟨u1, hx3, hm⟩ := bindS hm
  obtain ⟨b2, of1, cs1, k1, cp1, hv1, hp1, hl1, he1, hr1, hc1, hT1⟩ := (h3.mono (iT im1 im2)).ixT hx3 rfl
  obtain ⟨a4, c4, a5, c5, rfl, h4, h5⟩ := rProc_open hr1
  refine rg (pv (r_fa rfl Try.underlying26 rfl Try.sizeOf24 rfl) (pv (r_ld rfl Try.isAgg24 (hS2.cell0 (i := 0) ⟨rfl, rfl⟩ (j := 2) rfl)) (pv (r_mi rfl) (pv (r_ixe hv1 rfl Try.underlying24 Try.sizeOf31 hp1 hl1 he1) (pv (r_ldS rfl Try.isAgg31 Try.sizeOf31 rfl hc1 (cs := (cProc u1 a4 c4 a5 c5))) (wl rfl (alS (zs := [.string ⟨([] : List UInt8).toArray⟩, .bool false, .int .i64 0, .int .i64 0, .slice none 0 0, .slice none 0 0]) Try.zeroValue31 rfl hS2 fun w4 b3 im4 hS4 => ?_)))))))
  refine wl rfl (st0B (q := 0) hS4 ⟨rfl, rfl⟩ rfl rfl rfl Try.sizeOf31 rfl rfl rfl fun w5 im5 hS5 => ?_)
  have hS5 : Sep g T1 w5 [boxA b3 (cProc u1 a4 c4 a5 c5), boxA b1 [.slice a1 (List.length p0.Globals) c1, .slice a2 (List.length p0.Data) c2, .slice a3 (List.length p0.Procs) c3, .int .i64 p0.Main], R] := hS5
  refine nil (t_then ?_)
  refine sq2 ?_
  obtain ⟨y3, hx4, hm⟩ := bindS hm
  refine rg (pv (r_ldS rfl Try.isAgg31 Try.sizeOf31 rfl (hS5.cells0 (i := 0) ⟨rfl, rfl⟩ (o := 0) rfl) (cs := (cProc u1 a4 c4 a5 c5))) (pv (r_mi rfl) (wl rfl (calS cf8 rfl (alloc_Assign_sim (p0 := u1) (p1 := p2) (hS5.bun [0, 2] [] rfl) (h4.mono (iT im4 im5)) (h5.mono (iT im4 im5)) hx4) rfl fun v3 T3 w6 im6 rv3 => ?_))))
  obtain ⟨a6, n1, c6, rfl, hS6, _⟩ := rv3
  have hS6 : Sep g T3 w6 [boxA b3 (cProc u1 a4 c4 a5 c5), R, ownA rSeat 37 (.slice a6 n1 c6) y3.1] := hS6.unb
  refine pv (r_mv rfl) (pv (r_ex (v := .slice a6 n1 c6) rfl rfl) (pv (r_ex (v := .int .i64 y3.2.1) rfl rfl) (pv (r_ex (v := .int .i64 y3.2.2) rfl rfl) (pv (r_zs rfl) (pv (r_zi rfl) (pv (r_zi rfl) (nil (t_then ?_))))))))
  refine sq2 (sq2 (rg (pv (r_mi rfl) (pv (r_ib rfl rfl rfl) (nil (t_then ?_))))))
  refine cnd rfl (fun hb2 => ?_) (fun hb2 => ?_)
  · have hm := ctrue hb2 hm
    refine sq2 ?_
    obtain ⟨y4, hx5, hm⟩ := bindS hm
    refine rg (wl rfl (calS cf7 rfl (law24_awake_sim  (hS6.bun [1] [] rfl)  hx5) rfl fun v4 T4 w7 im7 rv4 => ?_))
    obtain ⟨rfl, hS7, _⟩ := rv4
    have hS7 : Sep g T4 w7 [R] := hS7.unb
    refine pv (r_zb rfl) (nil (t_thenR [(6, .bool y4)] ⟨rfl, trivial⟩ fun J => ?_))
    have hm := oI hm; subst hm
    exact rtn (r_then (ret1 rfl rfl ⟨_, rfl, _, (iT im1 (iT im2 (iT im4 (iT im5 (iT im6 im7))))), ⟨rfl, hS7.sel [0] rfl, trivial⟩⟩))
  have hm := cfalse hb2 hm
  refine skp (t_thenR [(7, .pointer (some ⟨b3, 0, none⟩)), (8, .slice a6 n1 c6)] ⟨rfl, rfl, trivial⟩ fun J => ?_)
  refine sq2 (sq2 (rg (pv (r_ms rfl) (pv (r_lnV rfl (hS6.own (i := 2) ⟨rfl, rfl⟩).v Try.underlying32) (pv (r_fa rfl Try.underlying31 rfl Try.sizeOf3 rfl) (pv (r_ld rfl Try.isAgg3 (hS6.cell0 (i := 0) ⟨rfl, rfl⟩ (j := 3) rfl)) (pv (r_ib rfl rfl rfl) (nil (t_then ?_)))))))))
  refine cnd rfl (fun hb3 => ?_) (fun hb3 => ?_)
  · have hm := ctrue hb3 hm
    refine sq2 (rg (pv (r_zb rfl) (nil (t_then ?_))))
    have hm := oI hm; subst hm
    exact rtn (r_then (ret1 rfl rfl ⟨_, rfl, _, (iT im1 (iT im2 (iT im4 (iT im5 im6)))), ⟨rfl, hS6.sel [1] rfl, trivial⟩⟩))
  have hm := cfalse hb3 hm
  refine skp (t_then ?_)
  refine sq2 (rg (pv (r_bd (by kernel_rfl) rfl (u := .agg #[.int .i64 0, .int .i64 (-1)])) (wl rfl (alS (zs := [.int .i64 0, .int .i64 0]) Try.zeroValue37 rfl hS6 fun w8 b4 im8 hS8 => ?_))))
  refine wl rfl (st0B (q := 0) hS8 ⟨rfl, rfl⟩ rfl rfl rfl Try.sizeOf37 rfl rfl rfl fun w9 im9 hS9 => ?_)
  have hS9 : Sep g T3 w9 [boxA b4 [.int .i64 0, .int .i64 (-1)], boxA b3 (cProc u1 a4 c4 a5 c5), R, ownA rSeat 37 (.slice a6 n1 c6) y3.1] := hS9
  refine nil (t_then ?_)
  refine sq2 (sq2 (rg (pv (r_zi rfl) (nil (t_then ?_)))))
  obtain ⟨o1, ho1, hq1⟩ := bindS hm
  obtain ⟨bd1, hbd1, ho1⟩ := loop_open ho1
  obtain ⟨T5, im10, hS10, h6⟩ := hS9.seal 3 ⟨rfl, rfl⟩
  have hsh := h6.len
  subst hsh
  have hS10 : Sep g T5 w9 [boxA b4 [.int .i64 0, .int .i64 (-1)], boxA b3 (cProc u1 a4 c4 a5 c5), R, empA] := hS10
  refine blk (wp_loop_ghost (fun m a w10 => ∃ (J : Nat → Value) (T6 : Nat → Prop) (x1 : Int), a = env (nf 142) J [(7, .pointer (some ⟨b3, 0, none⟩)), (8, .slice a6 (List.length y3.1) c6), (11, .pointer (some ⟨b4, 0, none⟩)), (12, .int .i64 x1)] ∧ Im T5 w9 T6 w10 ∧ Sep g T6 w10 [boxA b4 [.int .i64 0, .int .i64 (-1)], boxA b3 (cProc u1 a4 c4 a5 c5), R] ∧ loopM bd1 m x1 = some o1) NN ⟨_, _, 0, env_has ⟨rfl, rfl, rfl, rfl, trivial⟩, Im.refl, hS10.sel [0, 1, 2] rfl, ho1⟩ ?_)
  rintro m _ w10 ⟨J, T6, x1, rfl, im11, hS11, ho1⟩
  obtain ⟨m1, z1, rfl, hm, hn1⟩ := loop_round ho1
  rw [hbd1] at hm
  refine sq2 (sq2 (rg (pv (r_mi rfl) (pv (r_fa rfl Try.underlying31 rfl Try.sizeOf3 rfl) (pv (r_ld rfl Try.isAgg3 (hS11.cell0 (i := 1) ⟨rfl, rfl⟩ (j := 3) rfl)) (pv (r_ib rfl rfl rfl) (nil (t_then ?_))))))))
  refine cnd rfl (fun hb4 => ?_) (fun hb4 => ?_)
  · have hm := ctrue hb4 hm
    refine skp (t_then ?_)
    refine sq2 (blk (sq2 (rs [0, 0, 1, 0, 0, 1, 0, 2, 0, 0, 0, 0, 0, 1, 1, 0, 0, 1, 0, 0, 2, 0, 0, 0] [0, 1, 2, 3, 4, 5, 6, 7, 8, 9, 10, 11, 12, 13, 14, 15, 16, 17, 18, 19, 20, 21, 22, 23] mix (by kernel_rfl) hS11.lt fun w11 i1 => ?_)))
    have im12 := i1.imm
    have hS12 := hS11.keep i1 (fun _ h => h)
    refine s0 rfl trivial (fun _ => r_mi rfl) rfl (s0 rfl trivial (fun _ => r_fa rfl Try.underlying31 rfl Try.sizeOf3 rfl) rfl (s1 rfl trivial (r_ld rfl Try.isAgg3 (hS12.cell0 (i := 1) ⟨rfl, rfl⟩ (j := 2) rfl)) rfl (s0 rfl trivial (fun _ => r_ib rfl rfl rfl) rfl (s0 rfl trivial (fun _ => r_mb rfl) rfl (?_)))))
    rcases Bool.eq_false_or_eq_true (decide (x1 < u1.Params)) with hb5 | hb5
    · have hm := ctrue hb5 hm
      obtain ⟨u3, hx9, hm⟩ := bindS hm
      obtain ⟨b6, of3, cs3, k3, cp3, hv3, hp3, hl3, he3, hr3, hc3, hT3⟩ := (h6.mono (iT im11 im12)).ixT hx9 rfl
      cases rSeat_open hr3
      refine sU rfl (gI rfl rfl hb5) (sU rfl (gI rfl rfl hb5) (sU rfl (gI rfl rfl hb5) (s0 rfl trivial (fun _ => r_pkt rfl hb5 rfl) rfl (s0 rfl trivial (fun _ => r_mb rfl) rfl (s0 rfl ⟨_, rfl, congrArg Value.bool rfl⟩ (fun _ => r_ms rfl) rfl (s0 rfl ⟨_, rfl, congrArg Value.bool rfl⟩ (fun _ => r_mi rfl) rfl (s0 rfl ⟨_, rfl, congrArg Value.bool rfl⟩ (fun _ => r_ixe hv3 rfl Try.underlying32 Try.sizeOf37 hp3 hl3 he3) rfl (s1 rfl ⟨_, rfl, congrArg Value.bool rfl⟩ (r_ldS rfl Try.isAgg37 Try.sizeOf37 rfl hc3 (cs := [.int .i64 u3.Reg, .int .i64 u3.Slot])) rfl (s1 rfl ⟨_, rfl, congrArg Value.bool rfl⟩ (r_ldS rfl Try.isAgg37 Try.sizeOf37 rfl (hS12.cells0 (i := 0) ⟨rfl, rfl⟩ (o := 0) rfl) (cs := [.int .i64 0, .int .i64 (-1)])) rfl (s0 rfl ⟨_, rfl, congrArg Value.bool rfl⟩ (fun _ => r_seqe rfl rfl (eq_37 u3.Reg u3.Slot 0 (-1))) rfl (s0 rfl ⟨_, rfl, congrArg Value.bool rfl⟩ (fun _ => r_mb rfl) rfl (?_))))))))))))
      rcases Bool.eq_false_or_eq_true ((u3.Reg == 0) && (u3.Slot == (-1))) with hb11 | hb11
      · have hm := ctrue hb11 hm
        refine sU rfl (gI rfl rfl hb11) (sU rfl (gI rfl rfl hb11) (sU rfl (gI rfl rfl hb11) (sU rfl (gI rfl rfl hb11) (sU rfl (gI rfl rfl hb11) (s0 rfl ⟨_, rfl, congrArg Value.bool rfl⟩ (fun _ => r_pkt rfl hb11 rfl) rfl (s0 rfl trivial (fun _ => r_pkt rfl rfl rfl) rfl (se (t_thenR [(7, .pointer (some ⟨b3, 0, none⟩)), (8, .slice a6 (List.length y3.1) c6), (11, .pointer (some ⟨b4, 0, none⟩)), (12, .int .i64 x1), (74, .bool true)] ⟨rfl, rfl, rfl, rfl, rfl, trivial⟩ fun J => ?_))))))))
        refine cnd (b := true) rfl (fun _ => ?_) (fun h => nomatch h)
        refine sq2 (rg (pv (r_zb rfl) (nil (t_then ?_))))
        have hm := oI hm; subst hm
        have hn1 : _ = Lp.ret _ := hn1
        subst hn1
        have hm := thn_ret hq1
        have hm := oI hm; subst hm
        exact rtn (r_blk (r_then (r_then (r_blk (r_then (ret1 rfl rfl ⟨_, rfl, _, (iT im1 (iT im2 (iT im4 (iT im5 (iT im6 (iT im8 (iT im9 (iT im10 (iT im11 im12))))))))), ⟨rfl, hS12.sel [2] rfl, trivial⟩⟩))))))
      have hm := cfalse hb11 hm
      obtain ⟨y7, hx10, hm⟩ := bindS hm
      refine s1 rfl ⟨_, rfl, congrArg Value.bool hb11⟩ (r_ldS rfl Try.isAgg31 Try.sizeOf31 rfl (hS12.cells0 (i := 1) ⟨rfl, rfl⟩ (o := 0) rfl) (cs := (cProc u1 a4 c4 a5 c5))) rfl (s0 rfl ⟨_, rfl, congrArg Value.bool hb11⟩ (fun _ => r_ms rfl) rfl (s0 rfl ⟨_, rfl, congrArg Value.bool hb11⟩ (fun _ => r_mi rfl) rfl (s2 [] rfl ⟨_, rfl, congrArg Value.bool hb11⟩ rfl (by kernel_rfl) (calS cf10 rfl (law24_apart_sim (p0 := u1) (p1 := y3.1) (p2 := x1) (p3 := 0) (p4 := 0) (hS12.bun [0, 1, 2] [] rfl) (h4.mono (iT im4 (iT im5 (iT im6 (iT im8 (iT im9 (iT im10 (iT im11 im12)))))))) (h5.mono (iT im4 (iT im5 (iT im6 (iT im8 (iT im9 (iT im10 (iT im11 im12)))))))) (h6.mono (iT im11 im12)) hx10) rfl fun v7 T9 w14 im15 rv7 => ?_))))
      obtain ⟨rfl, hS15, _⟩ := rv7
      have hS15 : Sep g T9 w14 [boxA b4 [.int .i64 0, .int .i64 (-1)], boxA b3 (cProc u1 a4 c4 a5 c5), R] := hS15.unb
      refine ⟨st0, ?_⟩
      refine s0 rfl ⟨_, rfl, congrArg Value.bool hb11⟩ (fun _ => r_nt rfl) rfl (s0 rfl ⟨_, rfl, congrArg Value.bool rfl⟩ (fun _ => r_pkf rfl hb11 rfl) rfl (s0 rfl trivial (fun _ => r_pkt rfl rfl rfl) rfl (se (t_thenR [(7, .pointer (some ⟨b3, 0, none⟩)), (8, .slice a6 (List.length y3.1) c6), (11, .pointer (some ⟨b4, 0, none⟩)), (12, .int .i64 x1), (74, .bool (!y7))] ⟨rfl, rfl, rfl, rfl, rfl, trivial⟩ fun J => ?_))))
      refine cnd rfl (fun hb12 => ?_) (fun hb12 => ?_)
      · have hm := ctrue hb12 hm
        refine sq2 (rg (pv (r_zb rfl) (nil (t_then ?_))))
        have hm := oI hm; subst hm
        have hn1 : _ = Lp.ret _ := hn1
        subst hn1
        have hm := thn_ret hq1
        have hm := oI hm; subst hm
        exact rtn (r_blk (r_then (r_then (r_blk (r_then (ret1 rfl rfl ⟨_, rfl, _, (iT im1 (iT im2 (iT im4 (iT im5 (iT im6 (iT im8 (iT im9 (iT im10 (iT im11 (iT im12 im15)))))))))), ⟨rfl, hS15.sel [2] rfl, trivial⟩⟩))))))
      have hm := cfalse hb12 hm
      refine skp (t_blk (t_then ?_))
      have hm := oI hm; subst hm
      exact rg (pv (r_mi rfl) (pv (r_ib rfl rfl rfl) (pv (r_zi rfl) (nil (t_then ⟨m1, Nat.lt_succ_self _, _, _, (IntKind.wrap .i64 (x1 + 1)), env_has ⟨rfl, rfl, rfl, rfl, trivial⟩, (iT im11 (iT im12 im15)), hS15.sel [0, 1, 2] rfl, hn1⟩)))))
    have hm := cfalse hb5 hm
    obtain ⟨y5, hx6, hm⟩ := bindS hm
    refine s1 rfl ⟨_, rfl, congrArg Value.bool hb5⟩ (r_ldS rfl Try.isAgg31 Try.sizeOf31 rfl (hS12.cells0 (i := 1) ⟨rfl, rfl⟩ (o := 0) rfl) (cs := (cProc u1 a4 c4 a5 c5))) rfl (s0 rfl ⟨_, rfl, congrArg Value.bool hb5⟩ (fun _ => r_mi rfl) rfl (s2 [] rfl ⟨_, rfl, congrArg Value.bool hb5⟩ rfl (by kernel_rfl) (calS cf9 rfl (ref16_Live_sim (p0 := u1) (p1 := 0) (p2 := 0) (p3 := x1) (hS12.bun [0, 1, 2] [] rfl) (h4.mono (iT im4 (iT im5 (iT im6 (iT im8 (iT im9 (iT im10 (iT im11 im12)))))))) (h5.mono (iT im4 (iT im5 (iT im6 (iT im8 (iT im9 (iT im10 (iT im11 im12)))))))) hx6) rfl fun v5 T7 w12 im13 rv5 => ?_)))
    obtain ⟨rfl, hS13, _⟩ := rv5
    have hS13 : Sep g T7 w12 [boxA b4 [.int .i64 0, .int .i64 (-1)], boxA b3 (cProc u1 a4 c4 a5 c5), R] := hS13.unb
    refine ⟨st0, ?_⟩
    refine s0 rfl trivial (fun _ => r_pkf rfl hb5 rfl) rfl (s0 rfl trivial (fun _ => r_mb rfl) rfl (?_))
    rcases Bool.eq_false_or_eq_true y5 with hb6 | hb6
    · have hm := ctrue hb6 hm
      obtain ⟨u2, hx7, hm⟩ := bindS hm
      obtain ⟨b5, of2, cs2, k2, cp2, hv2, hp2, hl2, he2, hr2, hc2, hT2⟩ := (h6.mono (iT im11 (iT im12 im13))).ixT hx7 rfl
      cases rSeat_open hr2
      refine s0 rfl ⟨_, rfl, congrArg Value.bool hb6⟩ (fun _ => r_ms rfl) rfl (s0 rfl ⟨_, rfl, congrArg Value.bool hb6⟩ (fun _ => r_mi rfl) rfl (s0 rfl ⟨_, rfl, congrArg Value.bool hb6⟩ (fun _ => r_ixe hv2 rfl Try.underlying32 Try.sizeOf37 hp2 hl2 he2) rfl (s1 rfl ⟨_, rfl, congrArg Value.bool hb6⟩ (r_ldS rfl Try.isAgg37 Try.sizeOf37 rfl hc2 (cs := [.int .i64 u2.Reg, .int .i64 u2.Slot])) rfl (s1 rfl ⟨_, rfl, congrArg Value.bool hb6⟩ (r_ldS rfl Try.isAgg37 Try.sizeOf37 rfl (hS13.cells0 (i := 0) ⟨rfl, rfl⟩ (o := 0) rfl) (cs := [.int .i64 0, .int .i64 (-1)])) rfl (s0 rfl ⟨_, rfl, congrArg Value.bool hb6⟩ (fun _ => r_seqe rfl rfl (eq_37 u2.Reg u2.Slot 0 (-1))) rfl (s0 rfl ⟨_, rfl, congrArg Value.bool hb6⟩ (fun _ => r_mb rfl) rfl (?_)))))))
      rcases Bool.eq_false_or_eq_true ((u2.Reg == 0) && (u2.Slot == (-1))) with hb7 | hb7
      · have hm := ctrue hb7 hm
        refine sU rfl (gI rfl rfl hb7) (sU rfl (gI rfl rfl hb7) (sU rfl (gI rfl rfl hb7) (sU rfl (gI rfl rfl hb7) (sU rfl (gI rfl rfl hb7) (s0 rfl ⟨_, rfl, congrArg Value.bool hb6⟩ (fun _ => r_pkt rfl hb7 rfl) rfl (s0 rfl trivial (fun _ => r_pkt rfl hb6 rfl) rfl (se (t_thenR [(7, .pointer (some ⟨b3, 0, none⟩)), (8, .slice a6 (List.length y3.1) c6), (11, .pointer (some ⟨b4, 0, none⟩)), (12, .int .i64 x1), (74, .bool true)] ⟨rfl, rfl, rfl, rfl, rfl, trivial⟩ fun J => ?_))))))))
        refine cnd (b := true) rfl (fun _ => ?_) (fun h => nomatch h)
        refine sq2 (rg (pv (r_zb rfl) (nil (t_then ?_))))
        have hm := oI hm; subst hm
        have hn1 : _ = Lp.ret _ := hn1
        subst hn1
        have hm := thn_ret hq1
        have hm := oI hm; subst hm
        exact rtn (r_blk (r_then (r_then (r_blk (r_then (ret1 rfl rfl ⟨_, rfl, _, (iT im1 (iT im2 (iT im4 (iT im5 (iT im6 (iT im8 (iT im9 (iT im10 (iT im11 (iT im12 im13)))))))))), ⟨rfl, hS13.sel [2] rfl, trivial⟩⟩))))))
      have hm := cfalse hb7 hm
      obtain ⟨y6, hx8, hm⟩ := bindS hm
      refine s1 rfl ⟨_, rfl, congrArg Value.bool hb7⟩ (r_ldS rfl Try.isAgg31 Try.sizeOf31 rfl (hS13.cells0 (i := 1) ⟨rfl, rfl⟩ (o := 0) rfl) (cs := (cProc u1 a4 c4 a5 c5))) rfl (s0 rfl ⟨_, rfl, congrArg Value.bool hb7⟩ (fun _ => r_ms rfl) rfl (s0 rfl ⟨_, rfl, congrArg Value.bool hb7⟩ (fun _ => r_mi rfl) rfl (s2 [] rfl ⟨_, rfl, congrArg Value.bool hb7⟩ rfl (by kernel_rfl) (calS cf10 rfl (law24_apart_sim (p0 := u1) (p1 := y3.1) (p2 := x1) (p3 := 0) (p4 := 0) (hS13.bun [0, 1, 2] [] rfl) (h4.mono (iT im4 (iT im5 (iT im6 (iT im8 (iT im9 (iT im10 (iT im11 (iT im12 im13))))))))) (h5.mono (iT im4 (iT im5 (iT im6 (iT im8 (iT im9 (iT im10 (iT im11 (iT im12 im13))))))))) (h6.mono (iT im11 (iT im12 im13))) hx8) rfl fun v6 T8 w13 im14 rv6 => ?_))))
      obtain ⟨rfl, hS14, _⟩ := rv6
      have hS14 : Sep g T8 w13 [boxA b4 [.int .i64 0, .int .i64 (-1)], boxA b3 (cProc u1 a4 c4 a5 c5), R] := hS14.unb
      refine ⟨st0, ?_⟩
      refine s0 rfl ⟨_, rfl, congrArg Value.bool hb7⟩ (fun _ => r_nt rfl) rfl (s0 rfl ⟨_, rfl, congrArg Value.bool hb6⟩ (fun _ => r_pkf rfl hb7 rfl) rfl (s0 rfl trivial (fun _ => r_pkt rfl hb6 rfl) rfl (se (t_thenR [(7, .pointer (some ⟨b3, 0, none⟩)), (8, .slice a6 (List.length y3.1) c6), (11, .pointer (some ⟨b4, 0, none⟩)), (12, .int .i64 x1), (74, .bool (!y6))] ⟨rfl, rfl, rfl, rfl, rfl, trivial⟩ fun J => ?_))))
      refine cnd rfl (fun hb8 => ?_) (fun hb8 => ?_)
      · have hm := ctrue hb8 hm
        refine sq2 (rg (pv (r_zb rfl) (nil (t_then ?_))))
        have hm := oI hm; subst hm
        have hn1 : _ = Lp.ret _ := hn1
        subst hn1
        have hm := thn_ret hq1
        have hm := oI hm; subst hm
        exact rtn (r_blk (r_then (r_then (r_blk (r_then (ret1 rfl rfl ⟨_, rfl, _, (iT im1 (iT im2 (iT im4 (iT im5 (iT im6 (iT im8 (iT im9 (iT im10 (iT im11 (iT im12 (iT im13 im14))))))))))), ⟨rfl, hS14.sel [2] rfl, trivial⟩⟩))))))
      have hm := cfalse hb8 hm
      refine skp (t_blk (t_then ?_))
      have hm := oI hm; subst hm
      exact rg (pv (r_mi rfl) (pv (r_ib rfl rfl rfl) (pv (r_zi rfl) (nil (t_then ⟨m1, Nat.lt_succ_self _, _, _, (IntKind.wrap .i64 (x1 + 1)), env_has ⟨rfl, rfl, rfl, rfl, trivial⟩, (iT im11 (iT im12 (iT im13 im14))), hS14.sel [0, 1, 2] rfl, hn1⟩)))))
    have hm := cfalse hb6 hm
    refine sU rfl (gI rfl rfl hb6) (sU rfl (gI rfl rfl hb6) (sU rfl (gI rfl rfl hb6) (sU rfl (gI rfl rfl hb6) (sU rfl (gI rfl rfl hb6) (sU rfl (gI rfl rfl hb6) (sU rfl (gI rfl rfl hb6) (sU rfl ⟨_, rfl, .inr rfl⟩ (sU rfl ⟨_, rfl, .inr rfl⟩ (sU rfl ⟨_, rfl, .inr rfl⟩ (sU rfl ⟨_, rfl, .inr rfl⟩ (sU rfl ⟨_, rfl, .inr rfl⟩ (sU rfl (gI rfl rfl hb6) (s0 rfl trivial (fun _ => r_pkf rfl hb6 rfl) rfl (se (t_thenR [(7, .pointer (some ⟨b3, 0, none⟩)), (8, .slice a6 (List.length y3.1) c6), (11, .pointer (some ⟨b4, 0, none⟩)), (12, .int .i64 x1), (74, .bool false)] ⟨rfl, rfl, rfl, rfl, rfl, trivial⟩ fun J => ?_)))))))))))))))
    refine cnd (b := false) rfl (fun h => nomatch h) (fun _ => ?_)
    refine skp (t_blk (t_then ?_))
    have hm := oI hm; subst hm
    exact rg (pv (r_mi rfl) (pv (r_ib rfl rfl rfl) (pv (r_zi rfl) (nil (t_then ⟨m1, Nat.lt_succ_self _, _, _, (IntKind.wrap .i64 (x1 + 1)), env_has ⟨rfl, rfl, rfl, rfl, trivial⟩, (iT im11 (iT im12 im13)), hS13.sel [0, 1, 2] rfl, hn1⟩)))))
  have hm := cfalse hb4 hm
  have hm := oI hm; subst hm
  have hn1 : _ = Lp.brk _ := hn1
  subst hn1
  have hm := thn_brk hq1
  refine xt (x_then (x_then (x_eq (t_then ?_))))
  refine sq2 (sq2 (rg (pv (r_zi rfl) (nil (t_then ?_)))))
  obtain ⟨o1, ho1, hq1⟩ := bindS hm
  obtain ⟨bd1, hbd1, ho1⟩ := loop_open ho1
  refine blk (wp_loop_ghost (fun m a w15 => ∃ (J : Nat → Value) (T10 : Nat → Prop) (x2 : Int), a = env (nf 142) J [(7, .pointer (some ⟨b3, 0, none⟩)), (8, .slice a6 (List.length y3.1) c6), (11, .pointer (some ⟨b4, 0, none⟩)), (13, .int .i64 x2)] ∧ Im T6 w10 T10 w15 ∧ Sep g T10 w15 [boxA b4 [.int .i64 0, .int .i64 (-1)], boxA b3 (cProc u1 a4 c4 a5 c5), R] ∧ loopM bd1 m x2 = some o1) NN ⟨_, _, 0, env_has ⟨rfl, rfl, rfl, rfl, trivial⟩, Im.refl, hS11.sel [0, 1, 2] rfl, ho1⟩ ?_)
  rintro m _ w15 ⟨J, T10, x2, rfl, im16, hS16, ho1⟩
  obtain ⟨m1, z1, rfl, hm, hn1⟩ := loop_round ho1
  rw [hbd1] at hm
  refine sq2 (sq2 (rg (pv (r_mi rfl) (pv (r_fa rfl Try.underlying31 rfl Try.sizeOf29 rfl) (pv (r_ld rfl Try.isAgg29 (hS16.cell0 (i := 1) ⟨rfl, rfl⟩ (j := 5) rfl)) (pv (r_ln rfl Try.underlying29) (pv (r_ib rfl rfl rfl) (nil (t_then ?_)))))))))
  refine cnd rfl (fun hb14 => ?_) (fun hb14 => ?_)
  · have hm := ctrue hb14 hm
    refine skp (t_then ?_)
    refine sq2 (blk (sq2 (rg (pv (r_zi rfl) (nil (t_then ?_))))))
    obtain ⟨o2, ho2, hq2⟩ := bindS hm
    obtain ⟨bd2, hbd2, ho2⟩ := loop_open ho2
    refine blk (wp_loop_ghost (fun m a w16 => ∃ (J : Nat → Value) (T11 : Nat → Prop) (x3 : Int), a = env (nf 142) J [(7, .pointer (some ⟨b3, 0, none⟩)), (8, .slice a6 (List.length y3.1) c6), (11, .pointer (some ⟨b4, 0, none⟩)), (13, .int .i64 x2), (14, .int .i64 x3)] ∧ Im T10 w15 T11 w16 ∧ Sep g T11 w16 [boxA b4 [.int .i64 0, .int .i64 (-1)], boxA b3 (cProc u1 a4 c4 a5 c5), R] ∧ loopM bd2 m x3 = some o2) NN ⟨_, _, 0, env_has ⟨rfl, rfl, rfl, rfl, rfl, trivial⟩, Im.refl, hS16.sel [0, 1, 2] rfl, ho2⟩ ?_)
    rintro m _ w16 ⟨J, T11, x3, rfl, im17, hS17, ho2⟩
    obtain ⟨m2, z2, rfl, hm, hn2⟩ := loop_round ho2
    rw [hbd2] at hm
    refine sq2 (sq2 ?_)
    obtain ⟨u4, hx11, hm⟩ := bindS hm
    obtain ⟨b7, of4, cs4, k4, cp4, hv4, hp4, hl4, he4, hr4, hc4, hT4⟩ := (h5.mono (iT im4 (iT im5 (iT im6 (iT im8 (iT im9 (iT im10 (iT im11 (iT im16 im17))))))))).ixT hx11 rfl
    obtain ⟨a7, c7, rfl, h7⟩ := rGBlock_open hr4
    refine rg (pv (r_mi rfl) (pv (r_fa rfl Try.underlying31 rfl Try.sizeOf29 rfl) (pv (r_ld rfl Try.isAgg29 (hS17.cell0 (i := 1) ⟨rfl, rfl⟩ (j := 5) rfl)) (pv (r_mi rfl) (pv (r_ixe hv4 rfl Try.underlying29 Try.sizeOf42 hp4 hl4 he4) (pv (r_fa rfl Try.underlying42 rfl Try.sizeOf40 rfl) (pv (r_ld rfl Try.isAgg40 (hc4.get (j := 0) rfl)) (pv (r_ln rfl Try.underlying40) (pv (r_ib rfl rfl rfl) (nil (t_then ?_)))))))))))
    refine cnd rfl (fun hb15 => ?_) (fun hb15 => ?_)
    · have hm := ctrue hb15 hm
      refine skp (t_then ?_)
      refine sq2 (blk (sq2 ?_))
      obtain ⟨u5, hx12, hm⟩ := bindS hm
      obtain ⟨b8, of5, cs5, k5, cp5, hv5, hp5, hl5, he5, hr5, hc5, hT5⟩ := (h5.mono (iT im4 (iT im5 (iT im6 (iT im8 (iT im9 (iT im10 (iT im11 (iT im16 im17))))))))).ixT hx12 rfl
      obtain ⟨a8, c8, rfl, h8⟩ := rGBlock_open hr5
      obtain ⟨u6, hx13, hm⟩ := bindS hm
      obtain ⟨b9, of6, cs6, k6, cp6, hv6, hp6, hl6, he6, hr6, hc6, hT6⟩ := h8.ixT hx13 rfl
      obtain ⟨a9, c9, rfl, h9⟩ := rIns_open hr6
      refine rg (pv (r_fa rfl Try.underlying31 rfl Try.sizeOf29 rfl) (pv (r_ld rfl Try.isAgg29 (hS17.cell0 (i := 1) ⟨rfl, rfl⟩ (j := 5) rfl)) (pv (r_mi rfl) (pv (r_ixe hv5 rfl Try.underlying29 Try.sizeOf42 hp5 hl5 he5) (pv (r_fa rfl Try.underlying42 rfl Try.sizeOf40 rfl) (pv (r_ld rfl Try.isAgg40 (hc5.get (j := 0) rfl)) (pv (r_mi rfl) (pv (r_ixe hv6 rfl Try.underlying40 Try.sizeOf46 hp6 hl6 he6) (pv (r_ldS rfl Try.isAgg46 Try.sizeOf46 rfl hc6 (cs := (cIns u6 a9 c9))) (wl rfl (alS (zs := [.int .i64 0, .int .i64 0, .int .i64 0, .int .i64 0, .int .i64 0, .int .i64 0, .int .i64 0, .int .i64 0, .int .u32 0, .slice none 0 0, .bool false]) Try.zeroValue46 rfl hS17 fun w17 b10 im18 hS18 => ?_)))))))))))
      refine wl rfl (st0B (q := 0) hS18 ⟨rfl, rfl⟩ rfl rfl rfl Try.sizeOf46 rfl rfl rfl fun w18 im19 hS19 => ?_)
      have hS19 : Sep g T11 w18 [boxA b10 (cIns u6 a9 c9), boxA b4 [.int .i64 0, .int .i64 (-1)], boxA b3 (cProc u1 a4 c4 a5 c5), R] := hS19
      refine nil (t_then ?_)
      refine sq2 ?_
      obtain ⟨y8, hx14, hm⟩ := bindS hm
      refine rg (pv (r_ldS rfl Try.isAgg46 Try.sizeOf46 rfl (hS19.cells0 (i := 0) ⟨rfl, rfl⟩ (o := 0) rfl) (cs := (cIns u6 a9 c9))) (wl rfl (calS cf11 rfl (ref13_Uses_sim (p0 := u6) (hS19.bun [0, 1, 2, 3] [] rfl) (h9.mono (iT im18 im19)) hx14) rfl fun v8 T12 w19 im20 rv8 => ?_)))
      obtain ⟨a10, n2, c10, rfl, hS20, _⟩ := rv8
      have hS20 : Sep g T12 w19 [boxA b10 (cIns u6 a9 c9), boxA b4 [.int .i64 0, .int .i64 (-1)], boxA b3 (cProc u1 a4 c4 a5 c5), R, ownA (rInt .i64) 3 (.slice a10 n2 c10) y8] := hS20.unb
      refine pv (r_zs rfl) (nil (t_then ?_))
      refine sq2 (sq2 (rg (pv (r_zi rfl) (nil (t_then ?_)))))
      obtain ⟨o3, ho3, hq3⟩ := bindS hm
      obtain ⟨bd3, hbd3, ho3⟩ := loop_open ho3
      refine blk (wp_loop_ghost (fun m a w20 => ∃ (J : Nat → Value) (T13 : Nat → Prop) (x4 : Int), a = env (nf 142) J [(7, .pointer (some ⟨b3, 0, none⟩)), (8, .slice a6 (List.length y3.1) c6), (11, .pointer (some ⟨b4, 0, none⟩)), (13, .int .i64 x2), (14, .int .i64 x3), (15, .pointer (some ⟨b10, 0, none⟩)), (16, .slice a10 n2 c10), (17, .int .i64 x4)] ∧ Im T12 w19 T13 w20 ∧ Sep g T13 w20 [boxA b10 (cIns u6 a9 c9), boxA b4 [.int .i64 0, .int .i64 (-1)], boxA b3 (cProc u1 a4 c4 a5 c5), R, ownA (rInt .i64) 3 (.slice a10 n2 c10) y8] ∧ loopM bd3 m x4 = some o3) NN ⟨_, _, 0, env_has ⟨rfl, rfl, rfl, rfl, rfl, rfl, rfl, rfl, trivial⟩, Im.refl, hS20.sel [0, 1, 2, 3, 4] rfl, ho3⟩ ?_)
      rintro m _ w20 ⟨J, T13, x4, rfl, im21, hS21, ho3⟩
      obtain ⟨m3, z3, rfl, hm, hn3⟩ := loop_round ho3
      rw [hbd3] at hm
      refine sq2 (sq2 (rg (pv (r_mi rfl) (pv (r_ms rfl) (pv (r_lnV rfl (hS21.own (i := 4) ⟨rfl, rfl⟩).v Try.underlying44) (pv (r_ib rfl rfl rfl) (nil (t_then ?_))))))))
      refine cnd rfl (fun hb16 => ?_) (fun hb16 => ?_)
      · have hm := ctrue hb16 hm
        refine skp (t_then ?_)
        refine sq2 (blk (sq2 ?_))
        obtain ⟨u7, hx15, hm⟩ := bindS hm
        obtain ⟨b11, of7, cs7, k7, cp7, hv7, hp7, hl7, he7, hr7, hc7⟩ := (hS21.own (i := 4) ⟨rfl, rfl⟩).v.ixq hx15 rfl
        cases hr7
        obtain ⟨u8, hx16, hm⟩ := bindS hm
        obtain ⟨b12, of8, cs8, k8, cp8, hv8, hp8, hl8, he8, hr8, hc8, hT7⟩ := (h6.mono (iT im11 (iT im16 (iT im17 (iT im18 (iT im19 (iT im20 im21))))))).ixT hx16 rfl
        cases rSeat_open hr8
        refine rq mix (by kernel_rfl) hS21.lt (qv (fun _ hq => r_ms rfl) (qv (fun _ hq => r_ms rfl) (qv (fun _ hq => r_mi rfl) (qv (fun _ hq => r_ixe hv7 rfl Try.underlying44 Try.sizeOf3 hp7 hl7 he7) (qv (fun _ hq => r_ld rfl Try.isAgg3 (hq.cell (hc7.get (j := 0) rfl))) (qv (fun _ hq => r_ixe hv8 rfl Try.underlying32 Try.sizeOf37 hp8 hl8 he8) (qv (fun _ hq => r_ldS rfl Try.isAgg37 Try.sizeOf37 rfl (hq.cellsAt hc8) (cs := [.int .i64 u8.Reg, .int .i64 u8.Slot])) (qv (fun _ hq => r_ldS rfl Try.isAgg37 Try.sizeOf37 rfl (hq.cellsAt (hS21.cells0 (i := 1) ⟨rfl, rfl⟩ (o := 0) rfl)) (cs := [.int .i64 0, .int .i64 (-1)])) (qv (fun _ hq => r_seqe rfl rfl (eq_37 u8.Reg u8.Slot 0 (-1))) (qn fun w21 T14 i2 => ?_))))))))))
        have im22 := i2.imm
        have hS22 := hS21.keep i2 (fun _ h => h)
        refine t_then ?_
        refine cnd rfl (fun hb17 => ?_) (fun hb17 => ?_)
        · have hm := ctrue hb17 hm
          refine sq2 (rg (pv (r_zb rfl) (nil (t_then ?_))))
          have hm := oI hm; subst hm
          have hn3 : _ = Lp.ret _ := hn3
          subst hn3
          have hm := thn_ret hq3
          have hm := oI hm; subst hm
          have hn2 : _ = Lp.ret _ := hn2
          subst hn2
          have hm := thn_ret hq2
          have hm := oI hm; subst hm
          have hn1 : _ = Lp.ret _ := hn1
          subst hn1
          have hm := thn_ret hq1
          have hm := oI hm; subst hm
          exact rtn (r_blk (r_then (r_then (r_blk (r_then (r_blk (r_then (r_then (r_blk (r_blk (r_then (r_then (r_blk (r_then (ret1 rfl rfl ⟨_, rfl, _, (iT im1 (iT im2 (iT im4 (iT im5 (iT im6 (iT im8 (iT im9 (iT im10 (iT im11 (iT im16 (iT im17 (iT im18 (iT im19 (iT im20 (iT im21 im22))))))))))))))), ⟨rfl, hS22.sel [3] rfl, trivial⟩⟩)))))))))))))))
        have hm := cfalse hb17 hm
        refine skp (t_blk (t_then ?_))
        have hm := oI hm; subst hm
        exact rg (pv (r_mi rfl) (pv (r_ib rfl rfl rfl) (pv (r_zi rfl) (nil (t_then ⟨m3, Nat.lt_succ_self _, _, _, (IntKind.wrap .i64 (x4 + 1)), env_has ⟨rfl, rfl, rfl, rfl, rfl, rfl, rfl, rfl, trivial⟩, (iT im21 im22), hS22.sel [0, 1, 2, 3, 4] rfl, hn3⟩)))))
      have hm := cfalse hb16 hm
      have hm := oI hm; subst hm
      have hn3 : _ = Lp.brk _ := hn3
      subst hn3
      have hm := thn_brk hq3
      refine xt (x_then (x_then (x_eq (t_then ?_))))
      refine sq2 ?_
      obtain ⟨y9, hx17, hm⟩ := bindS hm
      refine rg (pv (r_ldS rfl Try.isAgg46 Try.sizeOf46 rfl (hS21.cells0 (i := 0) ⟨rfl, rfl⟩ (o := 0) rfl) (cs := (cIns u6 a9 c9))) (wl rfl (calS cf12 rfl (ref13_Def_sim (p0 := u6) (hS21.bun [1, 2, 3] [] rfl) (h9.mono (iT im18 (iT im19 (iT im20 im21)))) hx17) rfl fun v9 T15 w22 im23 rv9 => ?_)))
      obtain ⟨rfl, hS23, _⟩ := rv9
      have hS23 : Sep g T15 w22 [boxA b4 [.int .i64 0, .int .i64 (-1)], boxA b3 (cProc u1 a4 c4 a5 c5), R] := hS23.unb
      refine pv (r_zi rfl) (nil (t_then ?_))
      refine sq2 (rs [0, 0, 0, 0, 0, 0, 1, 1, 0, 0, 1, 0, 0, 0, 0, 0, 2, 0, 0, 0] [0, 1, 2, 3, 4, 5, 6, 7, 8, 9, 10, 11, 12, 13, 14, 15, 16, 17, 18, 19] mix (by kernel_rfl) hS23.lt fun w23 i3 => ?_)
      have im24 := i3.imm
      have hS24 := hS23.keep i3 (fun _ h => h)
      refine s0 rfl trivial (fun _ => r_mi rfl) rfl (s0 rfl trivial (fun _ => r_ib rfl rfl rfl) rfl (s0 rfl trivial (fun _ => r_mb rfl) rfl (?_)))
      rcases Bool.eq_false_or_eq_true (y9 != (-1)) with hb18 | hb18
      · have hm := ctrue hb18 hm
        obtain ⟨u9, hx18, hm⟩ := bindS hm
        obtain ⟨b13, of9, cs9, k9, cp9, hv9, hp9, hl9, he9, hr9, hc9, hT8⟩ := (h6.mono (iT im11 (iT im16 (iT im17 (iT im18 (iT im19 (iT im20 (iT im21 (iT im23 im24))))))))).ixT hx18 rfl
        cases rSeat_open hr9
        refine s0 rfl ⟨_, rfl, congrArg Value.bool hb18⟩ (fun _ => r_ms rfl) rfl (s0 rfl ⟨_, rfl, congrArg Value.bool hb18⟩ (fun _ => r_mi rfl) rfl (s0 rfl ⟨_, rfl, congrArg Value.bool hb18⟩ (fun _ => r_ixe hv9 rfl Try.underlying32 Try.sizeOf37 hp9 hl9 he9) rfl (s1 rfl ⟨_, rfl, congrArg Value.bool hb18⟩ (r_ldS rfl Try.isAgg37 Try.sizeOf37 rfl hc9 (cs := [.int .i64 u9.Reg, .int .i64 u9.Slot])) rfl (s1 rfl ⟨_, rfl, congrArg Value.bool hb18⟩ (r_ldS rfl Try.isAgg37 Try.sizeOf37 rfl (hS24.cells0 (i := 0) ⟨rfl, rfl⟩ (o := 0) rfl) (cs := [.int .i64 0, .int .i64 (-1)])) rfl (s0 rfl ⟨_, rfl, congrArg Value.bool hb18⟩ (fun _ => r_seqe rfl rfl (eq_37 u9.Reg u9.Slot 0 (-1))) rfl (s0 rfl ⟨_, rfl, congrArg Value.bool hb18⟩ (fun _ => r_mb rfl) rfl (?_)))))))
        rcases Bool.eq_false_or_eq_true ((u9.Reg == 0) && (u9.Slot == (-1))) with hb19 | hb19
        · have hm := ctrue hb19 hm
          refine sU rfl (gI rfl rfl hb19) (sU rfl (gI rfl rfl hb19) (sU rfl (gI rfl rfl hb19) (sU rfl (gI rfl rfl hb19) (sU rfl (gI rfl rfl hb19) (sU rfl (gI rfl rfl hb19) (sU rfl (gI rfl rfl hb19) (sU rfl (gI rfl rfl hb19) (s0 rfl ⟨_, rfl, congrArg Value.bool hb18⟩ (fun _ => r_pkt rfl hb19 rfl) rfl (s0 rfl trivial (fun _ => r_pkt rfl hb18 rfl) rfl (se (t_thenR [(7, .pointer (some ⟨b3, 0, none⟩)), (8, .slice a6 (List.length y3.1) c6), (11, .pointer (some ⟨b4, 0, none⟩)), (13, .int .i64 x2), (14, .int .i64 x3), (140, .bool true)] ⟨rfl, rfl, rfl, rfl, rfl, rfl, trivial⟩ fun J => ?_)))))))))))
          refine cnd (b := true) rfl (fun _ => ?_) (fun h => nomatch h)
          refine sq2 (rg (pv (r_zb rfl) (nil (t_then ?_))))
          have hm := oI hm; subst hm
          have hn2 : _ = Lp.ret _ := hn2
          subst hn2
          have hm := thn_ret hq2
          have hm := oI hm; subst hm
          have hn1 : _ = Lp.ret _ := hn1
          subst hn1
          have hm := thn_ret hq1
          have hm := oI hm; subst hm
          exact rtn (r_blk (r_then (r_then (r_blk (r_blk (r_then (r_then (r_blk (r_then (ret1 rfl rfl ⟨_, rfl, _, (iT im1 (iT im2 (iT im4 (iT im5 (iT im6 (iT im8 (iT im9 (iT im10 (iT im11 (iT im16 (iT im17 (iT im18 (iT im19 (iT im20 (iT im21 (iT im23 im24)))))))))))))))), ⟨rfl, hS24.sel [2] rfl, trivial⟩⟩))))))))))
        have hm := cfalse hb19 hm
        obtain ⟨y10, hx19, hm⟩ := bindS hm
        refine s1 rfl ⟨_, rfl, congrArg Value.bool hb19⟩ (r_ldS rfl Try.isAgg31 Try.sizeOf31 rfl (hS24.cells0 (i := 1) ⟨rfl, rfl⟩ (o := 0) rfl) (cs := (cProc u1 a4 c4 a5 c5))) rfl (s0 rfl ⟨_, rfl, congrArg Value.bool hb19⟩ (fun _ => r_ms rfl) rfl (s0 rfl ⟨_, rfl, congrArg Value.bool hb19⟩ (fun _ => r_mi rfl) rfl (s0 rfl ⟨_, rfl, congrArg Value.bool hb19⟩ (fun _ => r_mi rfl) rfl (s0 rfl ⟨_, rfl, congrArg Value.bool hb19⟩ (fun _ => r_mi rfl) rfl (s0 rfl ⟨_, rfl, congrArg Value.bool hb19⟩ (fun _ => r_ib rfl rfl rfl) rfl (s2 [] rfl ⟨_, rfl, congrArg Value.bool hb19⟩ rfl (by kernel_rfl) (calS cf10 rfl (law24_apart_sim (p0 := u1) (p1 := y3.1) (p2 := y9) (p3 := x2) (p4 := IntKind.wrap .i64 (x3 + 1)) (hS24.bun [0, 1, 2] [] rfl) (h4.mono (iT im4 (iT im5 (iT im6 (iT im8 (iT im9 (iT im10 (iT im11 (iT im16 (iT im17 (iT im18 (iT im19 (iT im20 (iT im21 (iT im23 im24))))))))))))))) (h5.mono (iT im4 (iT im5 (iT im6 (iT im8 (iT im9 (iT im10 (iT im11 (iT im16 (iT im17 (iT im18 (iT im19 (iT im20 (iT im21 (iT im23 im24))))))))))))))) (h6.mono (iT im11 (iT im16 (iT im17 (iT im18 (iT im19 (iT im20 (iT im21 (iT im23 im24))))))))) hx19) rfl fun v10 T16 w24 im25 rv10 => ?_)))))))
        obtain ⟨rfl, hS25, _⟩ := rv10
        have hS25 : Sep g T16 w24 [boxA b4 [.int .i64 0, .int .i64 (-1)], boxA b3 (cProc u1 a4 c4 a5 c5), R] := hS25.unb
        refine ⟨st0, ?_⟩
        refine s0 rfl ⟨_, rfl, congrArg Value.bool hb19⟩ (fun _ => r_nt rfl) rfl (s0 rfl ⟨_, rfl, congrArg Value.bool hb18⟩ (fun _ => r_pkf rfl hb19 rfl) rfl (s0 rfl trivial (fun _ => r_pkt rfl hb18 rfl) rfl (se (t_thenR [(7, .pointer (some ⟨b3, 0, none⟩)), (8, .slice a6 (List.length y3.1) c6), (11, .pointer (some ⟨b4, 0, none⟩)), (13, .int .i64 x2), (14, .int .i64 x3), (140, .bool (!y10))] ⟨rfl, rfl, rfl, rfl, rfl, rfl, trivial⟩ fun J => ?_))))
        refine cnd rfl (fun hb20 => ?_) (fun hb20 => ?_)
        · have hm := ctrue hb20 hm
          refine sq2 (rg (pv (r_zb rfl) (nil (t_then ?_))))
          have hm := oI hm; subst hm
          have hn2 : _ = Lp.ret _ := hn2
          subst hn2
          have hm := thn_ret hq2
          have hm := oI hm; subst hm
          have hn1 : _ = Lp.ret _ := hn1
          subst hn1
          have hm := thn_ret hq1
          have hm := oI hm; subst hm
          exact rtn (r_blk (r_then (r_then (r_blk (r_blk (r_then (r_then (r_blk (r_then (ret1 rfl rfl ⟨_, rfl, _, (iT im1 (iT im2 (iT im4 (iT im5 (iT im6 (iT im8 (iT im9 (iT im10 (iT im11 (iT im16 (iT im17 (iT im18 (iT im19 (iT im20 (iT im21 (iT im23 (iT im24 im25))))))))))))))))), ⟨rfl, hS25.sel [2] rfl, trivial⟩⟩))))))))))
        have hm := cfalse hb20 hm
        refine skp (t_blk (t_then ?_))
        have hm := oI hm; subst hm
        exact rg (pv (r_mi rfl) (pv (r_ib rfl rfl rfl) (pv (r_zi rfl) (nil (t_then ⟨m2, Nat.lt_succ_self _, _, _, (IntKind.wrap .i64 (x3 + 1)), env_has ⟨rfl, rfl, rfl, rfl, rfl, trivial⟩, (iT im17 (iT im18 (iT im19 (iT im20 (iT im21 (iT im23 (iT im24 im25))))))), hS25.sel [0, 1, 2] rfl, hn2⟩)))))
      have hm := cfalse hb18 hm
      refine sU rfl (gI rfl rfl hb18) (sU rfl (gI rfl rfl hb18) (sU rfl (gI rfl rfl hb18) (sU rfl (gI rfl rfl hb18) (sU rfl (gI rfl rfl hb18) (sU rfl (gI rfl rfl hb18) (sU rfl (gI rfl rfl hb18) (sU rfl ⟨_, rfl, .inr rfl⟩ (sU rfl ⟨_, rfl, .inr rfl⟩ (sU rfl ⟨_, rfl, .inr rfl⟩ (sU rfl ⟨_, rfl, .inr rfl⟩ (sU rfl ⟨_, rfl, .inr rfl⟩ (sU rfl ⟨_, rfl, .inr rfl⟩ (sU rfl ⟨_, rfl, .inr rfl⟩ (sU rfl ⟨_, rfl, .inr rfl⟩ (sU rfl (gI rfl rfl hb18) (s0 rfl trivial (fun _ => r_pkf rfl hb18 rfl) rfl (se (t_thenR [(7, .pointer (some ⟨b3, 0, none⟩)), (8, .slice a6 (List.length y3.1) c6), (11, .pointer (some ⟨b4, 0, none⟩)), (13, .int .i64 x2), (14, .int .i64 x3), (140, .bool false)] ⟨rfl, rfl, rfl, rfl, rfl, rfl, trivial⟩ fun J => ?_))))))))))))))))))
      refine cnd (b := false) rfl (fun h => nomatch h) (fun _ => ?_)
      refine skp (t_blk (t_then ?_))
      have hm := oI hm; subst hm
      exact rg (pv (r_mi rfl) (pv (r_ib rfl rfl rfl) (pv (r_zi rfl) (nil (t_then ⟨m2, Nat.lt_succ_self _, _, _, (IntKind.wrap .i64 (x3 + 1)), env_has ⟨rfl, rfl, rfl, rfl, rfl, trivial⟩, (iT im17 (iT im18 (iT im19 (iT im20 (iT im21 (iT im23 im24)))))), hS24.sel [0, 1, 2] rfl, hn2⟩)))))
    have hm := cfalse hb15 hm
    have hm := oI hm; subst hm
    have hn2 : _ = Lp.brk _ := hn2
    subst hn2
    have hm := thn_brk hq2
    refine xt (x_then (x_then (x_eq (t_blk (t_then ?_)))))
    have hm := oI hm; subst hm
    exact rg (pv (r_mi rfl) (pv (r_ib rfl rfl rfl) (pv (r_zi rfl) (nil (t_then ⟨m1, Nat.lt_succ_self _, _, _, (IntKind.wrap .i64 (x2 + 1)), env_has ⟨rfl, rfl, rfl, rfl, trivial⟩, (iT im16 im17), hS17.sel [0, 1, 2] rfl, hn1⟩)))))
  have hm := cfalse hb14 hm
  have hm := oI hm; subst hm
  have hn1 : _ = Lp.brk _ := hn1
  subst hn1
  have hm := thn_brk hq1
  refine xt (x_then (x_then (x_eq (t_then ?_))))
  refine sq2 ?_
  obtain ⟨y11, hx20, hm⟩ := bindS hm
  refine rg (wl rfl (calS cf7 rfl (law24_awake_sim  (hS16.bun [2] [] rfl)  hx20) rfl fun v11 T17 w25 im26 rv11 => ?_))
  obtain ⟨rfl, hS26, _⟩ := rv11
  have hS26 : Sep g T17 w25 [R] := hS26.unb
  refine pv (r_zb rfl) (nil (t_then ?_))
  have hm := oI hm; subst hm
  exact rtn (ret1 rfl rfl ⟨_, rfl, _, (iT im1 (iT im2 (iT im4 (iT im5 (iT im6 (iT im8 (iT im9 (iT im10 (iT im11 (iT im16 im26)))))))))), ⟨rfl, hS26.sel [0] rfl, trivial⟩⟩)
end Go.Proofs.Yteoihjfnojgnnaa
