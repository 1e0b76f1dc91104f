/- That Go functions compute their models. Printed by gen2.py. -/
import Derived.Test.YteoihjfnojgnnaaWd
set_option linter.unusedVariables false
namespace Go.Proofs.Yteoihjfnojgnnaa
attribute [local irreducible] wpList wpQuiet Code.wp

set_option maxRecDepth 100000 in
set_option maxHeartbeats 1000000 in
theorem alloc_desk_step_sim {g : World} {T0 : Nat → Prop} {w0 : World} {R : Assn} {p0 : AllocDesk} {b_p0 o_p0 : Nat} {H_p0 : List Value → Assn} {a1 : Option Addr} {n1 : Nat} {c1 : Nat} {p1 : AllocReach} {r : AllocDesk} (hS : Sep g T0 w0 [R, segH (H_p0) enAllocHolder' p0.hold [.int .i64 p0.regs, .slice a1 n1 c1, .int .i64 p0.slots, .int .i64 p0.came], ownA rSeat 37 (.slice a1 n1 c1) p0.seats]) (hL_p0 : Ln b_p0 o_p0 H_p0) (hm : alloc_desk_step p0 p1 = some r) :
    Calls Try.prog 23 #[.pointer (some ⟨b_p0, o_p0, none⟩), .agg #[.int .i64 p1.r, .int .i64 p1.from_, .int .i64 p1.to, .bool p1.is]] w0 (RetS T0 w0 fun T w v => ∃ (a7 : Option Addr) (n7 : Nat) (c7 : Nat), v = .tuple #[] ∧ Sep g T w [R, segH (H_p0) enAllocHolder' r.hold [.int .i64 r.regs, .slice a7 n7 c7, .int .i64 r.slots, .int .i64 r.came], ownA rSeat 37 (.slice a7 n7 c7) r.seats] ∧ True) := by
  refine enter (args := [.pointer (some ⟨b_p0, o_p0, none⟩), .agg #[.int .i64 p1.r, .int .i64 p1.from_, .int .i64 p1.to, .bool p1.is]]) Try.func23 rfl Try.ntmps23 rfl fun J => ?_
  unfold alloc_desk_step at hm
  refine sq2 ?_
  refine rg (wl rfl (bxS (cs := [.int .i64 p1.r, .int .i64 p1.from_, .int .i64 p1.to, .bool p1.is]) rfl rfl hS fun w1 b1 im1 hS1 => ?_))
  refine nil (t_then ?_)
  refine sq2 ?_
  obtain ⟨z_1, hln1, hm⟩ := bindS hm
  refine rg (pv (r_mp rfl) (pv (r_nc rfl) (pv (r_fa rfl Try.underlying65 rfl Try.sizeOf3 rfl) (pv (r_ld rfl Try.isAgg3 (hS1.cellB (i := 2) ⟨rfl, rfl⟩ (lnSeg (k := 72) hL_p0 (lenOk_some hln1) enAllocHolder'_len rfl) (j := 3) rfl)) (pv (r_ib rfl rfl rfl) (pv (r_nc rfl) (pv (r_fa rfl Try.underlying65 rfl Try.sizeOf3 rfl) (wl rfl (stB (q := 2) (j := 3) hS1 ⟨rfl, rfl⟩ (lnSeg (k := 72) hL_p0 (lenOk_some hln1) enAllocHolder'_len rfl) rfl rfl rfl Try.sizeOf3 rfl rfl rfl fun w2 im2 hS2 => ?_)))))))))
  have hS2 : Sep g T0 w2 [boxA b1 [.int .i64 p1.r, .int .i64 p1.from_, .int .i64 p1.to, .bool p1.is], R, segH (H_p0) enAllocHolder' p0.hold [.int .i64 p0.regs, .slice a1 n1 c1, .int .i64 p0.slots, .int .i64 (IntKind.wrap .i64 (p0.came + 1))], ownA rSeat 37 (.slice a1 n1 c1) p0.seats] := hS2
  refine nil (t_thenR [(0, .pointer (some ⟨b_p0, o_p0, none⟩)), (3, .pointer (some ⟨b1, 0, none⟩))] ⟨rfl, rfl, trivial⟩ fun J => ?_)
  refine sq2 ?_
  refine sq2 ?_
  obtain ⟨u1, hx1, hm⟩ := bindS hm
  refine rq mix (by kernel_rfl) hS2.lt (qv (fun _ hq => r_mp rfl) (qv (fun _ hq => r_nc rfl) (qv (fun _ hq => r_fa rfl Try.underlying65 rfl Try.sizeOf63 rfl) (qv (fun _ hq => r_mp rfl) (qv (fun _ hq => r_nc rfl) (qv (fun _ hq => r_fa rfl Try.underlying65 rfl Try.sizeOf3 rfl) (qv (fun _ hq => r_ld rfl Try.isAgg3 (hq.cell (hS2.cellB (i := 2) ⟨rfl, rfl⟩ (lnSeg (k := 72) hL_p0 (lenOk_some hln1) enAllocHolder'_len rfl) (j := 0) rfl))) (qv (fun _ hq => r_slP rfl (lenOk_some hln1) ⟨_, rfl⟩ hx1 Try.underlying63 Try.sizeOf62) (qv (fun _ hq => r_lnV rfl (hS2.view (i := 2) ⟨rfl, rfl⟩ (vwSeg (m := 12) hL_p0 (lenOk_some hln1) enAllocHolder'_len enAllocHolder'_rp (by decide) hx1)) Try.underlying88) (qv (fun _ hq => r_mi rfl) (qn fun w3 T1 i1 => ?_)))))))))))
  have im3 := i1.imm
  have hS3 := hS2.keep i1 (fun _ h => h)
  refine t_thenR [(0, .pointer (some ⟨b_p0, o_p0, none⟩)), (3, .pointer (some ⟨b1, 0, none⟩)), (23, .int .i64 (List.length u1 : Int)), (24, .int .i64 0)] ⟨rfl, rfl, rfl, rfl, trivial⟩ fun J => ?_
  obtain ⟨o1, ho1, hq1⟩ := bindS hm
  obtain ⟨bd1, hbd1, ho1⟩ := loop_open ho1
  refine blk (wp_loop_ghost (fun m a w4 => ∃ (J : Nat → Value) (T2 : Nat → Prop) (x3 : AllocDesk) (x2 : Int), a = env (nf 93) J [(0, .pointer (some ⟨b_p0, o_p0, none⟩)), (3, .pointer (some ⟨b1, 0, none⟩)), (23, .int .i64 (List.length u1 : Int)), (24, .int .i64 x2)] ∧ Im T1 w3 T2 w4 ∧ Sep g T2 w4 [boxA b1 [.int .i64 p1.r, .int .i64 p1.from_, .int .i64 p1.to, .bool p1.is], R, segH (H_p0) enAllocHolder' x3.hold [.int .i64 x3.regs, .slice a1 n1 c1, .int .i64 x3.slots, .int .i64 x3.came], ownA rSeat 37 (.slice a1 n1 c1) x3.seats] ∧ loopM bd1 m (x2, x3) = some o1) NN ⟨_, _, ({ p0 with came := IntKind.wrap .i64 (p0.came + 1) }), 0, env_has ⟨rfl, rfl, rfl, rfl, trivial⟩, Im.refl, hS3.sel [0, 1, 2, 3] rfl, ho1⟩ ?_)
  rintro m _ w4 ⟨J, T2, x3, x2, rfl, im4, hS4, ho1⟩
  obtain ⟨m1, z1, rfl, hm, hn1⟩ := loop_round ho1
  rw [hbd1] at hm
  refine sq2 ?_
  refine rg (pv (r_ib rfl rfl rfl) (nil (t_then ?_)))
  refine sq2 ?_
  refine cnd rfl (fun hb1 => ?_) (fun hb1 => ?_)
  · have hm := ctrue hb1 hm
    refine skp (t_then ?_)
    obtain ⟨kk1, hkk1, hm⟩ := jn_open hm
    refine cut (fun a w5 => ∃ (J : Nat → Value) (T3 : Nat → Prop) (x5 : AllocDesk), a = env (nf 93) J [(0, .pointer (some ⟨b_p0, o_p0, none⟩)), (3, .pointer (some ⟨b1, 0, none⟩)), (23, .int .i64 (List.length u1 : Int)), (24, .int .i64 x2)] ∧ Im T2 w4 T3 w5 ∧ Sep g T3 w5 [boxA b1 [.int .i64 p1.r, .int .i64 p1.from_, .int .i64 p1.to, .bool p1.is], R, segH (H_p0) enAllocHolder' x5.hold [.int .i64 x5.regs, .slice a1 n1 c1, .int .i64 x5.slots, .int .i64 x5.came], ownA rSeat 37 (.slice a1 n1 c1) x5.seats] ∧ kk1 x5 = some z1) ?_ ?_
    · refine blk ?_
      refine sq2 ?_
      refine rg (pv (r_mi rfl) (pv (r_zi rfl) (nil (t_then ?_))))
      refine sq2 ?_
      obtain ⟨z_2, hln2, hm⟩ := bindS hm
      obtain ⟨u2, hx2, hm⟩ := bindS hm
      obtain ⟨of1, he1⟩ : ∃ z : Nat, z = (o_p0 + 0) + (Int.toNat x2) * 6 := ⟨_, rfl⟩
      refine rg (pv (r_mp rfl) (pv (r_mi rfl) (pv (r_nc rfl) (pv (r_fa rfl Try.underlying65 rfl Try.sizeOf63 rfl) (pv (r_ixA rfl rfl (lenOk_some hln2) hx2 Try.underlying63 Try.sizeOf62 he1) (pv (r_zp rfl) (nil (t_thenR [(0, .pointer (some ⟨b_p0, o_p0, none⟩)), (3, .pointer (some ⟨b1, 0, none⟩)), (5, .pointer (some ⟨b_p0, of1, none⟩)), (23, .int .i64 (List.length u1 : Int)), (24, .int .i64 x2)] ⟨rfl, rfl, rfl, rfl, rfl, trivial⟩ fun J => ?_))))))))
      refine sq2 ?_
      refine rq mix (by kernel_rfl) hS4.lt (qv (fun _ hq => r_mp rfl) (qv (fun _ hq => r_nc rfl) (qv (fun _ hq => r_fa rfl Try.underlying62 rfl Try.sizeOf4 rfl) (qv (fun _ hq => r_ld rfl Try.isAgg4 (hq.cell ((Sep.segEl hS4 (q := 2) ⟨rfl, rfl⟩ hL_p0 enAllocHolder'_len hx2 he1).get (j := 5) rfl))) (qv (fun _ hq => r_mb rfl) (?_))))))
      rcases Bool.eq_false_or_eq_true u2.held with hb2 | hb2
      · have hm := ctrue hb2 hm
        refine qgT (d0 := 36) rfl rfl hb2 (qv (fun _ hq => r_mp rfl) (qgT (d0 := 36) rfl rfl hb2 (qv (fun _ hq => r_nc rfl) (qgT (d0 := 36) rfl rfl hb2 (qv (fun _ hq => r_fa rfl Try.underlying62 rfl Try.sizeOf60 rfl) (qgT (d0 := 36) rfl rfl hb2 (qv (fun _ hq => r_fa rfl Try.underlying60 rfl Try.sizeOf3 rfl) (qgT (d0 := 36) rfl rfl hb2 (qv (fun _ hq => r_ld rfl Try.isAgg3 (hq.cell ((Sep.segEl hS4 (q := 2) ⟨rfl, rfl⟩ hL_p0 enAllocHolder'_len hx2 he1).get (j := 2) rfl))) (qgT (d0 := 36) rfl rfl hb2 (qv (fun _ hq => r_fa rfl Try.underlying60 rfl Try.sizeOf3 rfl) (qgT (d0 := 36) rfl rfl hb2 (qv (fun _ hq => r_ld rfl Try.isAgg3 (hq.cell (hS4.cell0 (i := 0) ⟨rfl, rfl⟩ (j := 1) rfl))) (qgT (d0 := 36) rfl rfl hb2 (qv (fun _ hq => r_ib rfl rfl rfl) (qv (fun _ hq => r_pkt rfl hb2 rfl) (qn fun w6 T4 i2 => ?_)))))))))))))))))
        have im6 := i2.imm
        have hS5 := hS4.keep i2 (fun _ h => h)
        refine t_thenR [(0, .pointer (some ⟨b_p0, o_p0, none⟩)), (3, .pointer (some ⟨b1, 0, none⟩)), (5, .pointer (some ⟨b_p0, of1, none⟩)), (23, .int .i64 (List.length u1 : Int)), (24, .int .i64 x2), (45, .bool (decide (u2.reach.to < p1.from_)))] ⟨rfl, rfl, rfl, rfl, rfl, rfl, trivial⟩ fun J => ?_
        refine cnd rfl (fun hb3 => ?_) (fun hb3 => ?_)
        · have hm := ctrue hb3 hm
          obtain ⟨u3, hx3, hm⟩ := bindS hm
          refine rg (pv (r_mp rfl) (pv (r_nc rfl) (pv (r_fa rfl Try.underlying62 rfl Try.sizeOf4 rfl) (wl rfl (stSeg (q := 2) (i := x2) (j := 5) (u := u3) (u' := { u3 with held := false }) hS5 ⟨rfl, rfl⟩ hL_p0 enAllocHolder'_len hx3 he1 rfl rfl rfl Try.sizeOf4 rfl rfl rfl rfl fun w7 im7 hS6 => ?_)))))
          have hS6 : Sep g T4 w7 [boxA b1 [.int .i64 p1.r, .int .i64 p1.from_, .int .i64 p1.to, .bool p1.is], R, segH (H_p0) enAllocHolder' (List.set x3.hold (Int.toNat x2) ({ u3 with held := false })) [.int .i64 x3.regs, .slice a1 n1 c1, .int .i64 x3.slots, .int .i64 x3.came], ownA rSeat 37 (.slice a1 n1 c1) x3.seats] := hS6
          exact nil (t_blk (t_then ⟨_, _, ({ x3 with hold := List.set x3.hold (Int.toNat x2) ({ u3 with held := false }) }), env_has ⟨rfl, rfl, rfl, rfl, trivial⟩, (Im.trans im6 im7), hS6.sel [0, 1, 2, 3] rfl, hm⟩))
        · have hm := cfalse hb3 hm
          exact skp (t_blk (t_then ⟨_, _, x3, env_has ⟨rfl, rfl, rfl, rfl, trivial⟩, im6, hS5.sel [0, 1, 2, 3] rfl, hm⟩))
      · have hm := cfalse hb2 hm
        refine qgF (d0 := 36) rfl rfl (by rw [hb2]; rfl) (qgF (d0 := 36) rfl rfl (by rw [hb2]; rfl) (qgF (d0 := 36) rfl rfl (by rw [hb2]; rfl) (qgF (d0 := 36) rfl rfl (by rw [hb2]; rfl) (qgF (d0 := 36) rfl rfl (by rw [hb2]; rfl) (qgF (d0 := 36) rfl rfl (by rw [hb2]; rfl) (qgF (d0 := 36) rfl rfl (by rw [hb2]; rfl) (qgF (d0 := 36) rfl rfl (by rw [hb2]; rfl) (qv (fun _ hq => r_pkf rfl hb2 rfl) (qn fun w8 T5 i3 => ?_)))))))))
        have im8 := i3.imm
        have hS7 := hS4.keep i3 (fun _ h => h)
        refine t_thenR [(0, .pointer (some ⟨b_p0, o_p0, none⟩)), (3, .pointer (some ⟨b1, 0, none⟩)), (5, .pointer (some ⟨b_p0, of1, none⟩)), (23, .int .i64 (List.length u1 : Int)), (24, .int .i64 x2), (45, .bool false)] ⟨rfl, rfl, rfl, rfl, rfl, rfl, trivial⟩ fun J => ?_
        refine cnd (b := false) rfl (fun h => nomatch h) (fun _ => ?_)
        exact skp (t_blk (t_then ⟨_, _, x3, env_has ⟨rfl, rfl, rfl, rfl, trivial⟩, im8, hS7.sel [0, 1, 2, 3] rfl, hm⟩))
    · rintro _ w5 ⟨J, T3, x5, rfl, im5, hS8, hm⟩
      rw [hkk1] at hm
      have hm := Option.some.inj hm
      subst hm
      exact rg (pv (r_ib rfl rfl rfl) (pv (r_mi rfl) (nil (t_then ⟨m1, Nat.lt_succ_self _, _, _, x5, (IntKind.wrap .i64 (x2 + 1)), env_has ⟨rfl, rfl, rfl, rfl, trivial⟩, (Im.trans im4 im5), hS8.sel [0, 1, 2, 3] rfl, hn1⟩))))
  · have hm := cfalse hb1 hm
    have hm := Option.some.inj hm
    subst hm
    have hn1 : _ = Lp.brk _ := hn1
    subst hn1
    have hm := thn_brk hq1
    refine xt (x_then (x_then (x_eq (t_then ?_))))
    refine sq2 ?_
    refine sq2 ?_
    obtain ⟨y1, hx4, hm⟩ := bindS hm
    refine rg (pv (r_mp rfl) (wl rfl (calS cf38 rfl (alloc_desk_free_sim (p0 := x3) (H_p0 := H_p0) (hS4.bun [0, 1] [2, 3] rfl) hL_p0 hx4) rfl fun v1 T6 w9 im9 rv1 => ?_)))
    obtain ⟨rfl, hS9, _⟩ := rv1
    have hS9 : Sep g T6 w9 [boxA b1 [.int .i64 p1.r, .int .i64 p1.from_, .int .i64 p1.to, .bool p1.is], R, segH (H_p0) enAllocHolder' x3.hold [.int .i64 x3.regs, .slice a1 n1 c1, .int .i64 x3.slots, .int .i64 x3.came], ownA rSeat 37 (.slice a1 n1 c1) x3.seats] := hS9.unb
    refine pv (r_zi rfl) (nil (t_thenR [(0, .pointer (some ⟨b_p0, o_p0, none⟩)), (3, .pointer (some ⟨b1, 0, none⟩)), (6, .int .i64 y1)] ⟨rfl, rfl, rfl, trivial⟩ fun J => ?_))
    refine sq2 ?_
    refine rg (pv (r_mi rfl) (pv (r_ib rfl rfl rfl) (nil (t_then ?_))))
    refine cnd rfl (fun hb5 => ?_) (fun hb5 => ?_)
    · have hm := ctrue hb5 hm
      refine sq2 ?_
      obtain ⟨y2, hx5, hm⟩ := bindS hm
      refine rg (pv (r_mp rfl) (pv (r_mi rfl) (pv (r_ldS rfl Try.isAgg60 Try.sizeOf60 rfl (hS9.cells0 (i := 0) ⟨rfl, rfl⟩ (o := 0) rfl) (cs := [.int .i64 p1.r, .int .i64 p1.from_, .int .i64 p1.to, .bool p1.is])) (wl rfl (calS cf39 rfl (alloc_desk_take_sim (p0 := x3) (H_p0 := H_p0) (p1 := y1) (p2 := p1) (hS9.bun [1] [2, 3] rfl) hL_p0 hx5) rfl fun v2 T7 w10 im10 rv2 => ?_)))))
      obtain ⟨a2, n2, c2, rfl, hS10, _⟩ := rv2
      have hS10 : Sep g T7 w10 [R, segH (H_p0) enAllocHolder' y2.hold [.int .i64 y2.regs, .slice a2 n2 c2, .int .i64 y2.slots, .int .i64 y2.came], ownA rSeat 37 (.slice a2 n2 c2) y2.seats] := hS10.unb
      refine nil (t_thenR [] trivial fun J => ?_)
      have hm := Option.some.inj hm
      subst hm
      exact rtn (r_then (ret0 rfl ⟨_, rfl, _, (Im.trans im1 (Im.trans im2 (Im.trans im3 (Im.trans im4 (Im.trans im9 im10))))), ⟨_, _, _, rfl, hS10.sel [0, 1, 2] rfl, trivial⟩⟩))
    · have hm := cfalse hb5 hm
      refine skp (t_then ?_)
      refine sq2 ?_
      obtain ⟨y3, hx6, hm⟩ := bindS hm
      refine rg (pv (r_mp rfl) (wl rfl (calS cf40 rfl (alloc_desk_last_sim (p0 := x3) (H_p0 := H_p0) (hS9.bun [0, 1] [2, 3] rfl) hL_p0 hx6) rfl fun v3 T8 w11 im11 rv3 => ?_)))
      obtain ⟨rfl, hS11, _⟩ := rv3
      have hS11 : Sep g T8 w11 [boxA b1 [.int .i64 p1.r, .int .i64 p1.from_, .int .i64 p1.to, .bool p1.is], R, segH (H_p0) enAllocHolder' x3.hold [.int .i64 x3.regs, .slice a1 n1 c1, .int .i64 x3.slots, .int .i64 x3.came], ownA rSeat 37 (.slice a1 n1 c1) x3.seats] := hS11.unb
      refine pv (r_zi rfl) (nil (t_thenR [(0, .pointer (some ⟨b_p0, o_p0, none⟩)), (3, .pointer (some ⟨b1, 0, none⟩)), (7, .int .i64 y3)] ⟨rfl, rfl, rfl, trivial⟩ fun J => ?_))
      refine sq2 ?_
      refine sq2 ?_
      refine rq mix (by kernel_rfl) hS11.lt (qv (fun _ hq => r_mi rfl) (qv (fun _ hq => r_ib rfl rfl rfl) (qv (fun _ hq => r_mb rfl) (?_))))
      rcases Bool.eq_false_or_eq_true (decide (y3 < 0)) with hb6 | hb6
      · have hm := ctrue hb6 hm
        refine qgF (d0 := 62) rfl rfl (by rw [hb6]; rfl) (qgF (d0 := 62) rfl rfl (by rw [hb6]; rfl) (qgF (d0 := 62) rfl rfl (by rw [hb6]; rfl) (qgF (d0 := 62) rfl rfl (by rw [hb6]; rfl) (qgF (d0 := 62) rfl rfl (by rw [hb6]; rfl) (qgF (d0 := 62) rfl rfl (by rw [hb6]; rfl) (qgF (d0 := 62) rfl rfl (by rw [hb6]; rfl) (qgF (d0 := 62) rfl rfl (by rw [hb6]; rfl) (qgF (d0 := 62) rfl rfl (by rw [hb6]; rfl) (qgF (d0 := 62) rfl rfl (by rw [hb6]; rfl) (qgF (d0 := 62) rfl rfl (by rw [hb6]; rfl) (qv (fun _ hq => r_pkt rfl hb6 rfl) (qn fun w16 T13 i5 => ?_))))))))))))
        have im16 := i5.imm
        have hS16 := hS11.keep i5 (fun _ h => h)
        refine t_thenR [(0, .pointer (some ⟨b_p0, o_p0, none⟩)), (3, .pointer (some ⟨b1, 0, none⟩)), (7, .int .i64 y3), (74, .bool true)] ⟨rfl, rfl, rfl, rfl, trivial⟩ fun J => ?_
        refine cnd (b := true) rfl (fun _ => ?_) (fun h => nomatch h)
        refine sq2 ?_
        obtain ⟨y7, hx12, hm⟩ := bindS hm
        refine rg (pv (r_mp rfl) (pv (r_fa rfl Try.underlying60 rfl Try.sizeOf3 rfl) (pv (r_ld rfl Try.isAgg3 (hS16.cell0 (i := 0) ⟨rfl, rfl⟩ (j := 0) rfl)) (wl rfl (calS cf41 rfl (alloc_desk_slot_sim (p0 := x3) (H_p0 := H_p0) (p1 := p1.r) (hS16.bun [1] [2, 3] rfl) hL_p0 hx12) rfl fun v7 T14 w17 im17 rv7 => ?_)))))
        obtain ⟨a6, n6, c6, rfl, hS17, _⟩ := rv7
        have hS17 : Sep g T14 w17 [R, segH (H_p0) enAllocHolder' y7.hold [.int .i64 y7.regs, .slice a6 n6 c6, .int .i64 y7.slots, .int .i64 y7.came], ownA rSeat 37 (.slice a6 n6 c6) y7.seats] := hS17.unb
        refine nil (t_thenR [] trivial fun J => ?_)
        have hm := Option.some.inj hm
        subst hm
        exact rtn (r_then (ret0 rfl ⟨_, rfl, _, (Im.trans im1 (Im.trans im2 (Im.trans im3 (Im.trans im4 (Im.trans im9 (Im.trans im11 (Im.trans im16 im17))))))), ⟨_, _, _, rfl, hS17.sel [0, 1, 2] rfl, trivial⟩⟩))
      · have hm := cfalse hb6 hm
        obtain ⟨z_3, hln3, hm⟩ := bindS hm
        obtain ⟨u4, hx7, hm⟩ := bindS hm
        obtain ⟨of2, he2⟩ : ∃ z : Nat, z = (o_p0 + 0) + (Int.toNat y3) * 6 := ⟨_, rfl⟩
        refine qgT (d0 := 62) rfl rfl hb6 (qv (fun _ hq => r_mp rfl) (qgT (d0 := 62) rfl rfl hb6 (qv (fun _ hq => r_mi rfl) (qgT (d0 := 62) rfl rfl hb6 (qv (fun _ hq => r_nc rfl) (qgT (d0 := 62) rfl rfl hb6 (qv (fun _ hq => r_fa rfl Try.underlying65 rfl Try.sizeOf63 rfl) (qgT (d0 := 62) rfl rfl hb6 (qv (fun _ hq => r_ixA rfl rfl (lenOk_some hln3) hx7 Try.underlying63 Try.sizeOf62 he2) (qgT (d0 := 62) rfl rfl hb6 (qv (fun _ hq => r_fa rfl Try.underlying62 rfl Try.sizeOf60 rfl) (qgT (d0 := 62) rfl rfl hb6 (qv (fun _ hq => r_fa rfl Try.underlying60 rfl Try.sizeOf3 rfl) (qgT (d0 := 62) rfl rfl hb6 (qv (fun _ hq => r_ld rfl Try.isAgg3 (hq.cell ((Sep.segEl hS11 (q := 2) ⟨rfl, rfl⟩ hL_p0 enAllocHolder'_len hx7 he2).get (j := 2) rfl))) (qgT (d0 := 62) rfl rfl hb6 (qv (fun _ hq => r_fa rfl Try.underlying60 rfl Try.sizeOf3 rfl) (qgT (d0 := 62) rfl rfl hb6 (qv (fun _ hq => r_ld rfl Try.isAgg3 (hq.cell (hS11.cell0 (i := 0) ⟨rfl, rfl⟩ (j := 2) rfl))) (qgT (d0 := 62) rfl rfl hb6 (qv (fun _ hq => r_ib rfl rfl rfl) (qv (fun _ hq => r_pkf rfl hb6 rfl) (qn fun w12 T9 i4 => ?_)))))))))))))))))))))))
        have im12 := i4.imm
        have hS12 := hS11.keep i4 (fun _ h => h)
        refine t_thenR [(0, .pointer (some ⟨b_p0, o_p0, none⟩)), (3, .pointer (some ⟨b1, 0, none⟩)), (7, .int .i64 y3), (74, .bool (decide (u4.reach.to ≤ p1.to)))] ⟨rfl, rfl, rfl, rfl, trivial⟩ fun J => ?_
        refine cnd rfl (fun hb7 => ?_) (fun hb7 => ?_)
        · have hm := ctrue hb7 hm
          refine sq2 ?_
          obtain ⟨y4, hx8, hm⟩ := bindS hm
          refine rg (pv (r_mp rfl) (pv (r_fa rfl Try.underlying60 rfl Try.sizeOf3 rfl) (pv (r_ld rfl Try.isAgg3 (hS12.cell0 (i := 0) ⟨rfl, rfl⟩ (j := 0) rfl)) (wl rfl (calS cf41 rfl (alloc_desk_slot_sim (p0 := x3) (H_p0 := H_p0) (p1 := p1.r) (hS12.bun [1] [2, 3] rfl) hL_p0 hx8) rfl fun v4 T10 w13 im13 rv4 => ?_)))))
          obtain ⟨a3, n3, c3, rfl, hS13, _⟩ := rv4
          have hS13 : Sep g T10 w13 [R, segH (H_p0) enAllocHolder' y4.hold [.int .i64 y4.regs, .slice a3 n3 c3, .int .i64 y4.slots, .int .i64 y4.came], ownA rSeat 37 (.slice a3 n3 c3) y4.seats] := hS13.unb
          refine nil (t_thenR [] trivial fun J => ?_)
          have hm := Option.some.inj hm
          subst hm
          exact rtn (r_then (ret0 rfl ⟨_, rfl, _, (Im.trans im1 (Im.trans im2 (Im.trans im3 (Im.trans im4 (Im.trans im9 (Im.trans im11 (Im.trans im12 im13))))))), ⟨_, _, _, rfl, hS13.sel [0, 1, 2] rfl, trivial⟩⟩))
        · have hm := cfalse hb7 hm
          refine skp (t_then ?_)
          refine sq2 ?_
          obtain ⟨u5, hx9, hm⟩ := bindS hm
          obtain ⟨of3, he3⟩ : ∃ z : Nat, z = (o_p0 + 0) + (Int.toNat y3) * 6 := ⟨_, rfl⟩
          obtain ⟨y5, hx10, hm⟩ := bindS hm
          refine rg (pv (r_mp rfl) (pv (r_mp rfl) (pv (r_mi rfl) (pv (r_nc rfl) (pv (r_fa rfl Try.underlying65 rfl Try.sizeOf63 rfl) (pv (r_ixA rfl rfl (lenOk_some hln3) hx9 Try.underlying63 Try.sizeOf62 he3) (pv (r_fa rfl Try.underlying62 rfl Try.sizeOf60 rfl) (pv (r_fa rfl Try.underlying60 rfl Try.sizeOf3 rfl) (pv (r_ld rfl Try.isAgg3 ((Sep.segEl hS12 (q := 2) ⟨rfl, rfl⟩ hL_p0 enAllocHolder'_len hx9 he3).get (j := 0) rfl)) (wl rfl (calS cf41 rfl (alloc_desk_slot_sim (p0 := x3) (H_p0 := H_p0) (p1 := u5.reach.r) (hS12.bun [0, 1] [2, 3] rfl) hL_p0 hx10) rfl fun v5 T11 w14 im14 rv5 => ?_)))))))))))
          obtain ⟨a4, n4, c4, rfl, hS14, _⟩ := rv5
          have hS14 : Sep g T11 w14 [boxA b1 [.int .i64 p1.r, .int .i64 p1.from_, .int .i64 p1.to, .bool p1.is], R, segH (H_p0) enAllocHolder' y5.hold [.int .i64 y5.regs, .slice a4 n4 c4, .int .i64 y5.slots, .int .i64 y5.came], ownA rSeat 37 (.slice a4 n4 c4) y5.seats] := hS14.unb
          refine nil (t_thenR [(0, .pointer (some ⟨b_p0, o_p0, none⟩)), (3, .pointer (some ⟨b1, 0, none⟩)), (7, .int .i64 y3)] ⟨rfl, rfl, rfl, trivial⟩ fun J => ?_)
          obtain ⟨y6, hx11, hm⟩ := bindS hm
          refine rg (pv (r_mp rfl) (pv (r_mi rfl) (pv (r_ldS rfl Try.isAgg60 Try.sizeOf60 rfl (hS14.cells0 (i := 0) ⟨rfl, rfl⟩ (o := 0) rfl) (cs := [.int .i64 p1.r, .int .i64 p1.from_, .int .i64 p1.to, .bool p1.is])) (wl rfl (calS cf39 rfl (alloc_desk_take_sim (p0 := y5) (H_p0 := H_p0) (p1 := y3) (p2 := p1) (hS14.bun [1] [2, 3] rfl) hL_p0 hx11) rfl fun v6 T12 w15 im15 rv6 => ?_)))))
          obtain ⟨a5, n5, c5, rfl, hS15, _⟩ := rv6
          have hS15 : Sep g T12 w15 [R, segH (H_p0) enAllocHolder' y6.hold [.int .i64 y6.regs, .slice a5 n5 c5, .int .i64 y6.slots, .int .i64 y6.came], ownA rSeat 37 (.slice a5 n5 c5) y6.seats] := hS15.unb
          have hm := Option.some.inj hm
          subst hm
          exact nil (end0 rfl ⟨_, rfl, _, (Im.trans im1 (Im.trans im2 (Im.trans im3 (Im.trans im4 (Im.trans im9 (Im.trans im11 (Im.trans im12 (Im.trans im14 im15)))))))), ⟨_, _, _, rfl, hS15.sel [0, 1, 2] rfl, trivial⟩⟩)

set_option maxRecDepth 100000 in
set_option maxHeartbeats 1000000 in
theorem alloc_Assign_sim {g : World} {T0 : Nat → Prop} {w0 : World} {R : Assn} {p0 : Proc} {a1 : Option Addr} {c1 : Nat} {a2 : Option Addr} {c2 : Nat} {p1 : Int} {r : (List Seat) × Int × Int} (hS : Sep g T0 w0 [R]) (h1 : SlR rGSlot T0 w0 (.slice a1 (List.length p0.Objects) c1) p0.Objects) (h2 : SlR rGBlock T0 w0 (.slice a2 (List.length p0.Blocks) c2) p0.Blocks) (hm : alloc_Assign p0 p1 = some r) :
    Calls Try.prog 8 #[.agg #[.string ⟨p0.Name.toArray⟩, .bool p0.Void, .int .i64 p0.Params, .int .i64 p0.Regs, .slice a1 (List.length p0.Objects) c1, .slice a2 (List.length p0.Blocks) c2], .int .i64 p1] w0 (RetS T0 w0 fun T w v => ∃ (a10 : Option Addr) (n8 : Nat) (c10 : Nat), v = .tuple #[.slice a10 n8 c10, .int .i64 r.2.1, .int .i64 r.2.2] ∧ Sep g T w [R, ownA rSeat 37 (.slice a10 n8 c10) r.1] ∧ True) := by
  refine enter (args := [.agg #[.string ⟨p0.Name.toArray⟩, .bool p0.Void, .int .i64 p0.Params, .int .i64 p0.Regs, .slice a1 (List.length p0.Objects) c1, .slice a2 (List.length p0.Blocks) c2], .int .i64 p1]) Try.func8 rfl Try.ntmps8 rfl fun J => ?_
  unfold alloc_Assign at hm
  refine sq2 ?_
  refine rg (wl rfl (bxS (cs := [.string ⟨p0.Name.toArray⟩, .bool p0.Void, .int .i64 p0.Params, .int .i64 p0.Regs, .slice a1 (List.length p0.Objects) c1, .slice a2 (List.length p0.Blocks) c2]) rfl rfl hS fun w1 b1 im1 hS1 => ?_))
  refine pv (r_zs rfl) (pv (r_zi rfl) (pv (r_zi rfl) (nil (t_then ?_))))
  refine sq2 ?_
  refine sq2 ?_
  refine rg (pv (r_mi rfl) (pv (r_ib rfl rfl rfl) (pv (r_mb rfl) (?_))))
  rcases Bool.eq_false_or_eq_true (decide (p1 < 0)) with hb1 | hb1
  · have hm := ctrue hb1 hm
    refine gF (d0 := 13) rfl rfl (by rw [hb1]; rfl) (gF (d0 := 13) rfl rfl (by rw [hb1]; rfl) (pv (r_pkt rfl hb1 rfl) (nil (t_thenR [(1, .int .i64 p1), (2, .pointer (some ⟨b1, 0, none⟩)), (16, .bool true)] ⟨rfl, rfl, rfl, trivial⟩ fun J => ?_))))
    refine cnd (b := true) rfl (fun _ => ?_) (fun h => nomatch h)
    refine sq2 ?_
    refine rg (pv (r_zs rfl) (pv (r_zi rfl) (pv (r_zi rfl) (nil (t_then ?_)))))
    have hS17 := hS1.nilO rSeat 37
    have hm := Option.some.inj hm
    subst hm
    exact rtn (r_then (retN (vs := [.slice none 0 0, .int .i64 0, .int .i64 1]) rfl ⟨rfl, rfl, rfl, trivial⟩ rfl ⟨_, rfl, _, im1, ⟨_, _, _, rfl, hS17.sel [2, 0] rfl, trivial⟩⟩))
  · have hm := cfalse hb1 hm
    refine gT (d0 := 13) rfl rfl hb1 (pv (r_mi rfl) (gT (d0 := 13) rfl rfl hb1 (pv (r_ib rfl rfl rfl) (pv (r_pkf rfl hb1 rfl) (nil (t_thenR [(1, .int .i64 p1), (2, .pointer (some ⟨b1, 0, none⟩)), (16, .bool (decide (12 < p1)))] ⟨rfl, rfl, rfl, trivial⟩ fun J => ?_))))))
    refine cnd rfl (fun hb2 => ?_) (fun hb2 => ?_)
    · have hm := ctrue hb2 hm
      refine sq2 ?_
      refine rg (pv (r_zs rfl) (pv (r_zi rfl) (pv (r_zi rfl) (nil (t_then ?_)))))
      have hS2 := hS1.nilO rSeat 37
      have hm := Option.some.inj hm
      subst hm
      exact rtn (r_then (retN (vs := [.slice none 0 0, .int .i64 0, .int .i64 1]) rfl ⟨rfl, rfl, rfl, trivial⟩ rfl ⟨_, rfl, _, im1, ⟨_, _, _, rfl, hS2.sel [2, 0] rfl, trivial⟩⟩))
    · have hm := cfalse hb2 hm
      refine skp (t_then ?_)
      refine sq2 ?_
      obtain ⟨y1, hx1, hm⟩ := bindS hm
      refine rg (pv (r_ldS rfl Try.isAgg31 Try.sizeOf31 rfl (hS1.cells0 (i := 0) ⟨rfl, rfl⟩ (o := 0) rfl) (cs := [.string ⟨p0.Name.toArray⟩, .bool p0.Void, .int .i64 p0.Params, .int .i64 p0.Regs, .slice a1 (List.length p0.Objects) c1, .slice a2 (List.length p0.Blocks) c2])) (wl rfl (calS cf16 rfl (alloc_ranges_sim (p0 := p0) (hS1.bun [1] [] rfl) (h1.mono im1) (h2.mono im1) hx1) rfl fun v1 T1 w2 im2 rv1 => ?_)))
      obtain ⟨a3, n1, c3, rfl, hS3, _⟩ := rv1
      have hS3 : Sep g T1 w2 [R, ownA rAllocReach 60 (.slice a3 n1 c3) y1] := hS3.unb
      refine pv (r_zs rfl) (nil (t_then ?_))
      refine sq2 ?_
      refine rg (pv (r_mi rfl) (pv (r_bd (by kernel_rfl) rfl (u := .agg #[.int .i64 0, .int .i64 0, .int .i64 0, .bool false, .int .i64 0, .bool false, .int .i64 0, .int .i64 0, .int .i64 0, .bool false, .int .i64 0, .bool false, .int .i64 0, .int .i64 0, .int .i64 0, .bool false, .int .i64 0, .bool false, .int .i64 0, .int .i64 0, .int .i64 0, .bool false, .int .i64 0, .bool false, .int .i64 0, .int .i64 0, .int .i64 0, .bool false, .int .i64 0, .bool false, .int .i64 0, .int .i64 0, .int .i64 0, .bool false, .int .i64 0, .bool false, .int .i64 0, .int .i64 0, .int .i64 0, .bool false, .int .i64 0, .bool false, .int .i64 0, .int .i64 0, .int .i64 0, .bool false, .int .i64 0, .bool false, .int .i64 0, .int .i64 0, .int .i64 0, .bool false, .int .i64 0, .bool false, .int .i64 0, .int .i64 0, .int .i64 0, .bool false, .int .i64 0, .bool false, .int .i64 0, .int .i64 0, .int .i64 0, .bool false, .int .i64 0, .bool false, .int .i64 0, .int .i64 0, .int .i64 0, .bool false, .int .i64 0, .bool false, .int .i64 p1, .slice none 0 0, .int .i64 0, .int .i64 0])) (wl rfl (bxS (cs := [.int .i64 0, .int .i64 0, .int .i64 0, .bool false, .int .i64 0, .bool false, .int .i64 0, .int .i64 0, .int .i64 0, .bool false, .int .i64 0, .bool false, .int .i64 0, .int .i64 0, .int .i64 0, .bool false, .int .i64 0, .bool false, .int .i64 0, .int .i64 0, .int .i64 0, .bool false, .int .i64 0, .bool false, .int .i64 0, .int .i64 0, .int .i64 0, .bool false, .int .i64 0, .bool false, .int .i64 0, .int .i64 0, .int .i64 0, .bool false, .int .i64 0, .bool false, .int .i64 0, .int .i64 0, .int .i64 0, .bool false, .int .i64 0, .bool false, .int .i64 0, .int .i64 0, .int .i64 0, .bool false, .int .i64 0, .bool false, .int .i64 0, .int .i64 0, .int .i64 0, .bool false, .int .i64 0, .bool false, .int .i64 0, .int .i64 0, .int .i64 0, .bool false, .int .i64 0, .bool false, .int .i64 0, .int .i64 0, .int .i64 0, .bool false, .int .i64 0, .bool false, .int .i64 0, .int .i64 0, .int .i64 0, .bool false, .int .i64 0, .bool false, .int .i64 p1, .slice none 0 0, .int .i64 0, .int .i64 0]) rfl rfl hS3 fun w3 b2 im3 hS4 => ?_))))
      have hS4 : Sep g T1 w3 [segH (boxA b2) enAllocHolder' (List.replicate 12 (⟨(⟨0, 0, 0, false⟩ : AllocReach), 0, false⟩ : AllocHolder)) [.int .i64 p1, .slice none 0 0, .int .i64 0, .int .i64 0], R, ownA rAllocReach 60 (.slice a3 n1 c3) y1] := hS4
      refine pv (r_zp rfl) (nil (t_thenR [(7, .slice a3 n1 c3), (8, .pointer (some ⟨b2, 0, none⟩))] ⟨rfl, rfl, trivial⟩ fun J => ?_))
      refine sq2 ?_
      refine sq2 ?_
      refine rg (pv (r_ms rfl) (pv (r_lnV rfl (hS4.own (i := 2) ⟨rfl, rfl⟩).v Try.underlying56) (pv (r_mi rfl) (nil (t_then ?_)))))
      obtain ⟨o1, ho1, hq1⟩ := bindS hm
      obtain ⟨bd1, hbd1, ho1⟩ := loop_open ho1
      have hS5 := hS4.nilO rSeat 37
      refine blk (wp_loop_ghost (fun m a w4 => ∃ (J : Nat → Value) (T2 : Nat → Prop) (x3 : AllocDesk) (a4 : Option Addr) (n2 : Nat) (c4 : Nat) (x2 : Int), a = env (nf 59) J [(7, .slice a3 n1 c3), (8, .pointer (some ⟨b2, 0, none⟩)), (23, .int .i64 (List.length y1 : Int)), (24, .int .i64 x2)] ∧ Im T1 w3 T2 w4 ∧ Sep g T2 w4 [ownA rSeat 37 (.slice a4 n2 c4) x3.seats, segH (boxA b2) enAllocHolder' x3.hold [.int .i64 x3.regs, .slice a4 n2 c4, .int .i64 x3.slots, .int .i64 x3.came], R, ownA rAllocReach 60 (.slice a3 n1 c3) y1] ∧ loopM bd1 m (x2, x3) = some o1) NN ⟨_, _, (⟨List.replicate 12 (⟨(⟨0, 0, 0, false⟩ : AllocReach), 0, false⟩ : AllocHolder), p1, [], 0, 0⟩ : AllocDesk), _, _, _, 0, env_has ⟨rfl, rfl, rfl, rfl, trivial⟩, Im.refl, hS5.sel [0, 1, 2, 3] rfl, ho1⟩ ?_)
      rintro m _ w4 ⟨J, T2, x3, a4, n2, c4, x2, rfl, im4, hS6, ho1⟩
      obtain ⟨m1, z1, rfl, hm, hn1⟩ := loop_round ho1
      rw [hbd1] at hm
      refine sq2 ?_
      refine rg (pv (r_ib rfl rfl rfl) (nil (t_then ?_)))
      refine sq2 ?_
      refine cnd rfl (fun hb3 => ?_) (fun hb3 => ?_)
      · have hm := ctrue hb3 hm
        refine skp (t_then ?_)
        refine sq2 ?_
        refine blk ?_
        obtain ⟨z_1, hln1, hm⟩ := bindS hm
        refine rg (pv (r_mp rfl) (pv (r_mp rfl) (pv (r_nc rfl) (pv (r_fa rfl Try.underlying65 rfl Try.sizeOf32 rfl) (pv (r_ld rfl Try.isAgg32 (hS6.cellB (i := 1) ⟨rfl, rfl⟩ (lnSeg (k := 72) (lnBox b2) (lenOk_some hln1) enAllocHolder'_len rfl) (j := 1) rfl)) (pv (r_bd (by kernel_rfl) rfl (u := .agg #[.int .i64 0, .int .i64 (-1)])) (wl rfl (bsS (r := rSeat) (l := ([(⟨0, (-1)⟩ : Seat)] : List Seat)) (css := [[.int .i64 0, .int .i64 (-1)]]) hS6 Try.underlying32 Try.sizeOf37 Try.zeroValue37 rfl rfl (by kernel_rfl) rfl ⟨(rSeat_mk (x := (⟨0, (-1)⟩ : Seat))  : rSeat.rp _ _ _ _), trivial⟩ rfl rfl fun w5 a5 n3 c5 im5 hS7 => ?_))))))))
        obtain ⟨z_2, hro1, hm⟩ := bindS hm
        refine wl rfl (apO (q := 1) (l := x3.seats) (us := ([(⟨0, (-1)⟩ : Seat)] : List Seat)) hS7 ⟨rfl, rfl⟩ rfl rfl (hS7.own (i := 0) ⟨rfl, rfl⟩).v Try.underlying32 el37 (room_some hro1) fun w6 a6 n4 c6 im6 hS8 => ?_)
        have hS8 : Sep g T2 w6 [ownA rSeat 37 (.slice a5 n3 c5) ([(⟨0, (-1)⟩ : Seat)] : List Seat), ownA rSeat 37 (.slice a6 n4 c6) (x3.seats ++ ([(⟨0, (-1)⟩ : Seat)] : List Seat)), segH (boxA b2) enAllocHolder' x3.hold [.int .i64 x3.regs, .slice a4 n2 c4, .int .i64 x3.slots, .int .i64 x3.came], R, ownA rAllocReach 60 (.slice a3 n1 c3) y1] := hS8
        refine pv (r_nc rfl) (pv (r_fa rfl Try.underlying65 rfl Try.sizeOf32 rfl) (wl rfl (stB (q := 2) (j := 1) hS8 ⟨rfl, rfl⟩ (lnSeg (k := 72) (lnBox b2) (lenOk_some hln1) enAllocHolder'_len rfl) rfl rfl rfl Try.sizeOf32 rfl rfl rfl fun w7 im7 hS9 => ?_)))
        have hS9 : Sep g T2 w7 [ownA rSeat 37 (.slice a5 n3 c5) ([(⟨0, (-1)⟩ : Seat)] : List Seat), ownA rSeat 37 (.slice a6 n4 c6) (x3.seats ++ ([(⟨0, (-1)⟩ : Seat)] : List Seat)), segH (boxA b2) enAllocHolder' x3.hold [.int .i64 x3.regs, .slice a6 n4 c6, .int .i64 x3.slots, .int .i64 x3.came], R, ownA rAllocReach 60 (.slice a3 n1 c3) y1] := hS9
        refine nil (t_blk (t_thenR [(7, .slice a3 n1 c3), (8, .pointer (some ⟨b2, 0, none⟩)), (23, .int .i64 (List.length y1 : Int)), (24, .int .i64 x2)] ⟨rfl, rfl, rfl, rfl, trivial⟩ fun J => ?_))
        have hm := Option.some.inj hm
        subst hm
        exact rg (pv (r_ib rfl rfl rfl) (pv (r_mi rfl) (nil (t_then ⟨m1, Nat.lt_succ_self _, _, _, ({ x3 with seats := x3.seats ++ ([(⟨0, (-1)⟩ : Seat)] : List Seat) }), _, _, _, (IntKind.wrap .i64 (x2 + 1)), env_has ⟨rfl, rfl, rfl, rfl, trivial⟩, (Im.trans im4 (Im.trans im5 (Im.trans im6 im7))), hS9.sel [1, 2, 3, 4] rfl, hn1⟩))))
      · have hm := cfalse hb3 hm
        have hm := Option.some.inj hm
        subst hm
        have hn1 : _ = Lp.brk _ := hn1
        subst hn1
        have hm := thn_brk hq1
        refine xt (x_then (x_then (x_eq (t_then ?_))))
        refine sq2 ?_
        obtain ⟨y2, hx2, hm⟩ := bindS hm
        refine rg (pv (r_ms rfl) (wl rfl (calS cf17 rfl (slices_DeleteFunc_2_sim (p0 := y1) (hS6.bun [0, 1, 2] [3] rfl)  hx2) rfl fun v2 T3 w8 im8 rv2 => ?_)))
        obtain ⟨a7, n5, c7, rfl, hS10, _⟩ := rv2
        have hS10 : Sep g T3 w8 [ownA rSeat 37 (.slice a4 n2 c4) x3.seats, segH (boxA b2) enAllocHolder' x3.hold [.int .i64 x3.regs, .slice a4 n2 c4, .int .i64 x3.slots, .int .i64 x3.came], R, ownA rAllocReach 60 (.slice a7 n5 c7) y2] := hS10.unb
        refine pv (r_zs rfl) (nil (t_thenR [(7, .slice a7 n5 c7), (8, .pointer (some ⟨b2, 0, none⟩))] ⟨rfl, rfl, trivial⟩ fun J => ?_))
        refine sq2 ?_
        obtain ⟨y3, hx3, hm⟩ := bindS hm
        refine rg (pv (r_ms rfl) (wl rfl (calS cf19 rfl (slices_SortFunc_sim (p0 := y2) (hS10.bun [0, 1, 2] [3] rfl)  hx3) rfl fun v3 T4 w9 im9 rv3 => ?_)))
        obtain ⟨rfl, hS11, _⟩ := rv3
        have hS11 : Sep g T4 w9 [ownA rSeat 37 (.slice a4 n2 c4) x3.seats, segH (boxA b2) enAllocHolder' x3.hold [.int .i64 x3.regs, .slice a4 n2 c4, .int .i64 x3.slots, .int .i64 x3.came], R, ownA rAllocReach 60 (.slice a7 n5 c7) y3] := hS11.unb
        refine nil (t_then ?_)
        refine sq2 ?_
        refine sq2 ?_
        refine rg (pv (r_ms rfl) (pv (r_lnV rfl (hS11.own (i := 3) ⟨rfl, rfl⟩).v Try.underlying56) (pv (r_mi rfl) (nil (t_then ?_)))))
        obtain ⟨o1, ho1, hq1⟩ := bindS hm
        obtain ⟨bd1, hbd1, ho1⟩ := loop_open ho1
        refine blk (wp_loop_ghost (fun m a w10 => ∃ (J : Nat → Value) (T5 : Nat → Prop) (x6 : AllocDesk) (a8 : Option Addr) (n6 : Nat) (c8 : Nat) (x5 : Int), a = env (nf 59) J [(8, .pointer (some ⟨b2, 0, none⟩)), (41, .slice a7 n5 c7), (42, .int .i64 (List.length y3 : Int)), (43, .int .i64 x5)] ∧ Im T4 w9 T5 w10 ∧ Sep g T5 w10 [ownA rSeat 37 (.slice a8 n6 c8) x6.seats, segH (boxA b2) enAllocHolder' x6.hold [.int .i64 x6.regs, .slice a8 n6 c8, .int .i64 x6.slots, .int .i64 x6.came], R, ownA rAllocReach 60 (.slice a7 n5 c7) y3] ∧ loopM bd1 m (x5, x6) = some o1) NN ⟨_, _, x3, _, _, _, 0, env_has ⟨rfl, rfl, rfl, rfl, trivial⟩, Im.refl, hS11.sel [0, 1, 2, 3] rfl, ho1⟩ ?_)
        rintro m _ w10 ⟨J, T5, x6, a8, n6, c8, x5, rfl, im10, hS12, ho1⟩
        obtain ⟨m1, z1, rfl, hm, hn1⟩ := loop_round ho1
        rw [hbd1] at hm
        refine sq2 ?_
        refine rg (pv (r_ib rfl rfl rfl) (nil (t_then ?_)))
        refine sq2 ?_
        refine cnd rfl (fun hb4 => ?_) (fun hb4 => ?_)
        · have hm := ctrue hb4 hm
          refine skp (t_then ?_)
          refine sq2 ?_
          refine blk ?_
          refine sq2 ?_
          obtain ⟨u1, hx4, hm⟩ := bindS hm
          obtain ⟨b3, of1, cs1, k1, cp1, hv1, hp1, hl1, he1, hr1, hc1⟩ := (hS12.own (i := 3) ⟨rfl, rfl⟩).v.ixq hx4 rfl
          cases rAllocReach_open hr1
          refine rg (pv (r_ixe hv1 rfl Try.underlying56 Try.sizeOf60 hp1 hl1 he1) (pv (r_ldS rfl Try.isAgg60 Try.sizeOf60 rfl hc1 (cs := [.int .i64 u1.r, .int .i64 u1.from_, .int .i64 u1.to, .bool u1.is])) (wl rfl (alS (zs := [.int .i64 0, .int .i64 0, .int .i64 0, .bool false]) Try.zeroValue60 rfl hS12 fun w11 b4 im11 hS13 => ?_))))
          refine wl rfl (st0B (q := 0) hS13 ⟨rfl, rfl⟩ rfl rfl rfl Try.sizeOf60 rfl rfl rfl fun w12 im12 hS14 => ?_)
          have hS14 : Sep g T5 w12 [boxA b4 [.int .i64 u1.r, .int .i64 u1.from_, .int .i64 u1.to, .bool u1.is], ownA rSeat 37 (.slice a8 n6 c8) x6.seats, segH (boxA b2) enAllocHolder' x6.hold [.int .i64 x6.regs, .slice a8 n6 c8, .int .i64 x6.slots, .int .i64 x6.came], R, ownA rAllocReach 60 (.slice a7 n5 c7) y3] := hS14
          refine nil (t_then ?_)
          obtain ⟨y4, hx5, hm⟩ := bindS hm
          refine rg (pv (r_mp rfl) (pv (r_ldS rfl Try.isAgg60 Try.sizeOf60 rfl (hS14.cells0 (i := 0) ⟨rfl, rfl⟩ (o := 0) rfl) (cs := [.int .i64 u1.r, .int .i64 u1.from_, .int .i64 u1.to, .bool u1.is])) (wl rfl (calS cf23 rfl (alloc_desk_step_sim (p0 := x6) (H_p0 := boxA b2) (p1 := u1) (hS14.bun [3, 4] [2, 1] rfl) (lnBox b2) hx5) rfl fun v4 T6 w13 im13 rv4 => ?_))))
          obtain ⟨a9, n7, c9, rfl, hS15, _⟩ := rv4
          have hS15 : Sep g T6 w13 [R, ownA rAllocReach 60 (.slice a7 n5 c7) y3, segH (boxA b2) enAllocHolder' y4.hold [.int .i64 y4.regs, .slice a9 n7 c9, .int .i64 y4.slots, .int .i64 y4.came], ownA rSeat 37 (.slice a9 n7 c9) y4.seats] := hS15.unb
          refine nil (t_blk (t_thenR [(8, .pointer (some ⟨b2, 0, none⟩)), (41, .slice a7 n5 c7), (42, .int .i64 (List.length y3 : Int)), (43, .int .i64 x5)] ⟨rfl, rfl, rfl, rfl, trivial⟩ fun J => ?_))
          have hm := Option.some.inj hm
          subst hm
          exact rg (pv (r_ib rfl rfl rfl) (pv (r_mi rfl) (nil (t_then ⟨m1, Nat.lt_succ_self _, _, _, y4, _, _, _, (IntKind.wrap .i64 (x5 + 1)), env_has ⟨rfl, rfl, rfl, rfl, trivial⟩, (Im.trans im10 (Im.trans im11 (Im.trans im12 im13))), hS15.sel [3, 2, 0, 1] rfl, hn1⟩))))
        · have hm := cfalse hb4 hm
          have hm := Option.some.inj hm
          subst hm
          have hn1 : _ = Lp.brk _ := hn1
          subst hn1
          have hm := thn_brk hq1
          refine xt (x_then (x_then (x_eq (t_then ?_))))
          refine sq2 ?_
          obtain ⟨z_3, hln2, hm⟩ := bindS hm
          refine rq mix (by kernel_rfl) hS12.lt (qv (fun _ hq => r_mp rfl) (qv (fun _ hq => r_nc rfl) (qv (fun _ hq => r_fa rfl Try.underlying65 rfl Try.sizeOf32 rfl) (qv (fun _ hq => r_ld rfl Try.isAgg32 (hq.cell (hS12.cellB (i := 1) ⟨rfl, rfl⟩ (lnSeg (k := 72) (lnBox b2) (lenOk_some hln2) enAllocHolder'_len rfl) (j := 1) rfl))) (qv (fun _ hq => r_mp rfl) (qv (fun _ hq => r_nc rfl) (qv (fun _ hq => r_fa rfl Try.underlying65 rfl Try.sizeOf3 rfl) (qv (fun _ hq => r_ld rfl Try.isAgg3 (hq.cell (hS12.cellB (i := 1) ⟨rfl, rfl⟩ (lnSeg (k := 72) (lnBox b2) (lenOk_some hln2) enAllocHolder'_len rfl) (j := 2) rfl))) (qv (fun _ hq => r_zs rfl) (qv (fun _ hq => r_zi rfl) (qv (fun _ hq => r_zi rfl) (qn fun w14 T7 i1 => ?_))))))))))))
          have im14 := i1.imm
          have hS16 := hS12.keep i1 (fun _ h => h)
          refine t_thenR [(4, .slice a8 n6 c8), (5, .int .i64 x6.slots), (6, .int .i64 0)] ⟨rfl, rfl, rfl, trivial⟩ fun J => ?_
          have hm := Option.some.inj hm
          subst hm
          exact rtn (retN (vs := [.slice a8 n6 c8, .int .i64 x6.slots, .int .i64 0]) rfl ⟨rfl, rfl, rfl, trivial⟩ rfl ⟨_, rfl, _, (Im.trans im1 (Im.trans im2 (Im.trans im3 (Im.trans im4 (Im.trans im8 (Im.trans im9 (Im.trans im10 im14))))))), ⟨_, _, _, rfl, hS16.sel [2, 0] rfl, trivial⟩⟩)

set_option maxRecDepth 100000 in
set_option maxHeartbeats 1000000 in
theorem law24_awake_sim {g : World} {T0 : Nat → Prop} {w0 : World} {R : Assn}  {r : Bool} (hS : Sep g T0 w0 [R])  (hm : law24_awake = some r) :
    Calls Try.prog 7 #[] w0 (RetS T0 w0 fun T w v => v = .bool r ∧ Sep g T w [R] ∧ True) := by
  refine enter (args := []) Try.func7 rfl Try.ntmps7 rfl fun J => ?_
  unfold law24_awake at hm
  refine sq2 ?_
  refine rg (pv (r_zb rfl) (nil (t_then ?_)))
  refine sq2 ?_
  refine rg (pv (r_bd (by kernel_rfl) rfl (u := .agg #[.int .i64 11, .int .i64 0, .int .i64 (-1), .int .i64 (-1), .int .i64 0, .int .i64 0, .int .i64 0, .int .i64 0, .int .u32 0, .slice none 0 0, .bool false])) (pv (r_bd (by kernel_rfl) rfl (u := .agg #[.int .i64 11, .int .i64 1, .int .i64 (-1), .int .i64 (-1), .int .i64 0, .int .i64 0, .int .i64 0, .int .i64 0, .int .u32 0, .slice none 0 0, .bool false])) (pv (r_bd (by kernel_rfl) rfl (u := .agg #[.int .i64 3, .int .i64 2, .int .i64 0, .int .i64 1, .int .i64 1, .int .i64 0, .int .i64 0, .int .i64 0, .int .u32 0, .slice none 0 0, .bool false])) (pv (r_bd (by kernel_rfl) rfl (u := .agg #[.int .i64 10, .int .i64 (-1), .int .i64 2, .int .i64 (-1), .int .i64 0, .int .i64 0, .int .i64 0, .int .i64 0, .int .u32 0, .slice none 0 0, .bool false])) (wl rfl (bsS (r := rIns) (l := ([(⟨11, 0, (-1), (-1), 0, 0, 0, 0, 0, [], false⟩ : Ins), (⟨11, 1, (-1), (-1), 0, 0, 0, 0, 0, [], false⟩ : Ins), (⟨3, 2, 0, 1, 1, 0, 0, 0, 0, [], false⟩ : Ins), (⟨10, (-1), 2, (-1), 0, 0, 0, 0, 0, [], false⟩ : Ins)] : List Ins)) (css := [[.int .i64 11, .int .i64 0, .int .i64 (-1), .int .i64 (-1), .int .i64 0, .int .i64 0, .int .i64 0, .int .i64 0, .int .u32 0, .slice none 0 0, .bool false], [.int .i64 11, .int .i64 1, .int .i64 (-1), .int .i64 (-1), .int .i64 0, .int .i64 0, .int .i64 0, .int .i64 0, .int .u32 0, .slice none 0 0, .bool false], [.int .i64 3, .int .i64 2, .int .i64 0, .int .i64 1, .int .i64 1, .int .i64 0, .int .i64 0, .int .i64 0, .int .u32 0, .slice none 0 0, .bool false], [.int .i64 10, .int .i64 (-1), .int .i64 2, .int .i64 (-1), .int .i64 0, .int .i64 0, .int .i64 0, .int .i64 0, .int .u32 0, .slice none 0 0, .bool false]]) hS Try.underlying40 Try.sizeOf46 Try.zeroValue46 rfl rfl (by kernel_rfl) rfl ⟨(rIns_mk (x := (⟨11, 0, (-1), (-1), 0, 0, 0, 0, 0, [], false⟩ : Ins)) SlR_nil : rIns.rp _ _ _ _), (rIns_mk (x := (⟨11, 1, (-1), (-1), 0, 0, 0, 0, 0, [], false⟩ : Ins)) SlR_nil : rIns.rp _ _ _ _), (rIns_mk (x := (⟨3, 2, 0, 1, 1, 0, 0, 0, 0, [], false⟩ : Ins)) SlR_nil : rIns.rp _ _ _ _), (rIns_mk (x := (⟨10, (-1), 2, (-1), 0, 0, 0, 0, 0, [], false⟩ : Ins)) SlR_nil : rIns.rp _ _ _ _), trivial⟩ rfl rfl fun w1 a1 n1 c1 im1 hS1 => ?_))))))
  refine pv (r_zs rfl) (nil (t_thenR [(1, .slice a1 n1 c1)] ⟨rfl, trivial⟩ fun J => ?_))
  refine sq2 ?_
  refine rg (pv (r_ms rfl) (pv (r_bd (by kernel_rfl) rfl (u := .agg #[.slice a1 n1 c1, .int .i64 3, .int .i64 (-1), .int .i64 0, .int .i64 0])) (?_)))
  obtain ⟨T1, im2, hS2, h1⟩ := hS1.seal 0 ⟨rfl, rfl⟩
  have hsh := h1.len
  subst hsh
  have hS2 : Sep g T1 w1 [empA, R] := hS2
  refine wl rfl (bsS (r := rGBlock) (l := ([(⟨([(⟨11, 0, (-1), (-1), 0, 0, 0, 0, 0, [], false⟩ : Ins), (⟨11, 1, (-1), (-1), 0, 0, 0, 0, 0, [], false⟩ : Ins), (⟨3, 2, 0, 1, 1, 0, 0, 0, 0, [], false⟩ : Ins), (⟨10, (-1), 2, (-1), 0, 0, 0, 0, 0, [], false⟩ : Ins)] : List Ins), 3, (-1), 0, 0⟩ : GBlock)] : List GBlock)) (css := [[.slice a1 (List.length ([(⟨11, 0, (-1), (-1), 0, 0, 0, 0, 0, [], false⟩ : Ins), (⟨11, 1, (-1), (-1), 0, 0, 0, 0, 0, [], false⟩ : Ins), (⟨3, 2, 0, 1, 1, 0, 0, 0, 0, [], false⟩ : Ins), (⟨10, (-1), 2, (-1), 0, 0, 0, 0, 0, [], false⟩ : Ins)] : List Ins)) c1, .int .i64 3, .int .i64 (-1), .int .i64 0, .int .i64 0]]) hS2 Try.underlying29 Try.sizeOf42 Try.zeroValue42 rfl rfl (by kernel_rfl) rfl ⟨(rGBlock_mk (x := (⟨([(⟨11, 0, (-1), (-1), 0, 0, 0, 0, 0, [], false⟩ : Ins), (⟨11, 1, (-1), (-1), 0, 0, 0, 0, 0, [], false⟩ : Ins), (⟨3, 2, 0, 1, 1, 0, 0, 0, 0, [], false⟩ : Ins), (⟨10, (-1), 2, (-1), 0, 0, 0, 0, 0, [], false⟩ : Ins)] : List Ins), 3, (-1), 0, 0⟩ : GBlock)) h1 : rGBlock.rp _ _ _ _), trivial⟩ rfl rfl fun w2 a2 n2 c2 im3 hS3 => ?_)
  refine pv (r_bd (by kernel_rfl) rfl (u := .agg #[.string ⟨([] : List UInt8).toArray⟩, .bool true, .int .i64 0, .int .i64 3, .slice none 0 0, .slice a2 n2 c2])) (?_)
  obtain ⟨T2, im4, hS4, h2⟩ := hS3.seal 0 ⟨rfl, rfl⟩
  have hsh := h2.len
  subst hsh
  have hS4 : Sep g T2 w2 [empA, empA, R] := hS4
  obtain ⟨y1, hx1, hm⟩ := bindS hm
  refine wl rfl (calS cf8 rfl (alloc_Assign_sim (p0 := (⟨([] : List UInt8), true, 0, 3, [], ([(⟨([(⟨11, 0, (-1), (-1), 0, 0, 0, 0, 0, [], false⟩ : Ins), (⟨11, 1, (-1), (-1), 0, 0, 0, 0, 0, [], false⟩ : Ins), (⟨3, 2, 0, 1, 1, 0, 0, 0, 0, [], false⟩ : Ins), (⟨10, (-1), 2, (-1), 0, 0, 0, 0, 0, [], false⟩ : Ins)] : List Ins), 3, (-1), 0, 0⟩ : GBlock)] : List GBlock)⟩ : Proc)) (p1 := 12) (hS4.bun [2] [] rfl) SlR_nil h2 hx1) rfl fun v1 T3 w3 im5 rv1 => ?_)
  obtain ⟨a3, n3, c3, rfl, hS5, _⟩ := rv1
  have hS5 : Sep g T3 w3 [R, ownA rSeat 37 (.slice a3 n3 c3) y1.1] := hS5.unb
  refine pv (r_mv rfl) (pv (r_ex (v := .slice a3 n3 c3) rfl rfl) (pv (r_ex (v := .int .i64 y1.2.1) rfl rfl) (pv (r_ex (v := .int .i64 y1.2.2) rfl rfl) (pv (r_zs rfl) (pv (r_zi rfl) (pv (r_zi rfl) (nil (t_thenR [(2, .slice a3 n3 c3), (3, .int .i64 y1.2.1), (4, .int .i64 y1.2.2)] ⟨rfl, rfl, rfl, trivial⟩ fun J => ?_))))))))
  refine sq2 ?_
  refine rg (pv (r_mi rfl) (pv (r_ib rfl rfl rfl) (pv (r_mb rfl) (?_))))
  rcases Bool.eq_false_or_eq_true (y1.2.2 == 0) with hb1 | hb1
  · have hm := ctrue hb1 hm
    refine gT (d0 := 21) rfl rfl hb1 (pv (r_mi rfl) (gT (d0 := 21) rfl rfl hb1 (pv (r_ib rfl rfl rfl) (pv (r_pkt rfl hb1 rfl) (pv (r_mb rfl) (?_))))))
    rcases Bool.eq_false_or_eq_true (y1.2.1 == 0) with hb2 | hb2
    · have hm := ctrue hb2 hm
      refine gT (d0 := 25) rfl rfl hb2 (pv (r_ms rfl) (gT (d0 := 25) rfl rfl hb2 (pv (r_lnV rfl (hS5.own (i := 1) ⟨rfl, rfl⟩).v Try.underlying32) (gT (d0 := 25) rfl rfl hb2 (pv (r_ib rfl rfl rfl) (pv (r_pkt rfl hb2 rfl) (pv (r_mb rfl) (?_))))))))
      rcases Bool.eq_false_or_eq_true ((List.length y1.1 : Int) == 3) with hb3 | hb3
      · have hm := ctrue hb3 hm
        obtain ⟨u1, hx2, hm⟩ := bindS hm
        obtain ⟨b1, of1, cs1, k1, cp1, hv1, hp1, hl1, he1, hr1, hc1⟩ := (hS5.own (i := 1) ⟨rfl, rfl⟩).v.ixq hx2 rfl
        cases rSeat_open hr1
        refine gT (d0 := 30) rfl rfl hb3 (pv (r_ms rfl) (gT (d0 := 30) rfl rfl hb3 (pv (r_ixe hv1 rfl Try.underlying32 Try.sizeOf37 hp1 hl1 he1) (gT (d0 := 30) rfl rfl hb3 (pv (r_fa rfl Try.underlying37 rfl Try.sizeOf3 rfl) (gT (d0 := 30) rfl rfl hb3 (pv (r_ld rfl Try.isAgg3 (hc1.get (j := 0) rfl)) (gT (d0 := 30) rfl rfl hb3 (pv (r_ib rfl rfl rfl) (pv (r_pkt rfl hb3 rfl) (pv (r_mb rfl) (?_))))))))))))
        rcases Bool.eq_false_or_eq_true (u1.Reg == 8) with hb4 | hb4
        · have hm := ctrue hb4 hm
          obtain ⟨u2, hx3, hm⟩ := bindS hm
          obtain ⟨b2, of2, cs2, k2, cp2, hv2, hp2, hl2, he2, hr2, hc2⟩ := (hS5.own (i := 1) ⟨rfl, rfl⟩).v.ixq hx3 rfl
          cases rSeat_open hr2
          refine gT (d0 := 37) rfl rfl hb4 (pv (r_ms rfl) (gT (d0 := 37) rfl rfl hb4 (pv (r_ixe hv2 rfl Try.underlying32 Try.sizeOf37 hp2 hl2 he2) (gT (d0 := 37) rfl rfl hb4 (pv (r_fa rfl Try.underlying37 rfl Try.sizeOf3 rfl) (gT (d0 := 37) rfl rfl hb4 (pv (r_ld rfl Try.isAgg3 (hc2.get (j := 0) rfl)) (gT (d0 := 37) rfl rfl hb4 (pv (r_ib rfl rfl rfl) (pv (r_pkt rfl hb4 rfl) (pv (r_mb rfl) (?_))))))))))))
          rcases Bool.eq_false_or_eq_true (u2.Reg == 9) with hb5 | hb5
          · have hm := ctrue hb5 hm
            obtain ⟨u3, hx4, hm⟩ := bindS hm
            obtain ⟨b3, of3, cs3, k3, cp3, hv3, hp3, hl3, he3, hr3, hc3⟩ := (hS5.own (i := 1) ⟨rfl, rfl⟩).v.ixq hx4 rfl
            cases rSeat_open hr3
            refine gT (d0 := 44) rfl rfl hb5 (pv (r_ms rfl) (gT (d0 := 44) rfl rfl hb5 (pv (r_ixe hv3 rfl Try.underlying32 Try.sizeOf37 hp3 hl3 he3) (gT (d0 := 44) rfl rfl hb5 (pv (r_fa rfl Try.underlying37 rfl Try.sizeOf3 rfl) (gT (d0 := 44) rfl rfl hb5 (pv (r_ld rfl Try.isAgg3 (hc3.get (j := 0) rfl)) (gT (d0 := 44) rfl rfl hb5 (pv (r_ib rfl rfl rfl) (pv (r_pkt rfl hb5 rfl) (pv (r_zb rfl) (nil (t_thenR [(0, .bool (u3.Reg == 8))] ⟨rfl, trivial⟩ fun J => ?_)))))))))))))
            have hm := Option.some.inj hm
            subst hm
            exact rtn (ret1 rfl rfl ⟨_, rfl, _, (Im.trans im1 (Im.trans im2 (Im.trans im3 (Im.trans im4 im5)))), ⟨rfl, hS5.sel [0] rfl, trivial⟩⟩)
          · have hm := cfalse hb5 hm
            refine gF (d0 := 44) rfl rfl (by rw [hb5]; rfl) (gF (d0 := 44) rfl rfl (by rw [hb5]; rfl) (gF (d0 := 44) rfl rfl (by rw [hb5]; rfl) (gF (d0 := 44) rfl rfl (by rw [hb5]; rfl) (gF (d0 := 44) rfl rfl (by rw [hb5]; rfl) (pv (r_pkf rfl hb5 rfl) (pv (r_zb rfl) (nil (t_thenR [(0, .bool false)] ⟨rfl, trivial⟩ fun J => ?_))))))))
            have hm := Option.some.inj hm
            subst hm
            exact rtn (ret1 rfl rfl ⟨_, rfl, _, (Im.trans im1 (Im.trans im2 (Im.trans im3 (Im.trans im4 im5)))), ⟨rfl, hS5.sel [0] rfl, trivial⟩⟩)
        · have hm := cfalse hb4 hm
          refine gF (d0 := 37) rfl rfl (by rw [hb4]; rfl) (gF (d0 := 37) rfl rfl (by rw [hb4]; rfl) (gF (d0 := 37) rfl rfl (by rw [hb4]; rfl) (gF (d0 := 37) rfl rfl (by rw [hb4]; rfl) (gF (d0 := 37) rfl rfl (by rw [hb4]; rfl) (pv (r_pkf rfl hb4 rfl) (pv (r_mb rfl) (gF (d0 := 44) rfl rfl rfl (gF (d0 := 44) rfl rfl rfl (gF (d0 := 44) rfl rfl rfl (gF (d0 := 44) rfl rfl rfl (gF (d0 := 44) rfl rfl rfl (pv (r_pkf rfl rfl rfl) (pv (r_zb rfl) (nil (t_thenR [(0, .bool false)] ⟨rfl, trivial⟩ fun J => ?_)))))))))))))))
          have hm := Option.some.inj hm
          subst hm
          exact rtn (ret1 rfl rfl ⟨_, rfl, _, (Im.trans im1 (Im.trans im2 (Im.trans im3 (Im.trans im4 im5)))), ⟨rfl, hS5.sel [0] rfl, trivial⟩⟩)
      · have hm := cfalse hb3 hm
        refine gF (d0 := 30) rfl rfl (by rw [hb3]; rfl) (gF (d0 := 30) rfl rfl (by rw [hb3]; rfl) (gF (d0 := 30) rfl rfl (by rw [hb3]; rfl) (gF (d0 := 30) rfl rfl (by rw [hb3]; rfl) (gF (d0 := 30) rfl rfl (by rw [hb3]; rfl) (pv (r_pkf rfl hb3 rfl) (pv (r_mb rfl) (gF (d0 := 37) rfl rfl rfl (gF (d0 := 37) rfl rfl rfl (gF (d0 := 37) rfl rfl rfl (gF (d0 := 37) rfl rfl rfl (gF (d0 := 37) rfl rfl rfl (pv (r_pkf rfl rfl rfl) (pv (r_mb rfl) (gF (d0 := 44) rfl rfl rfl (gF (d0 := 44) rfl rfl rfl (gF (d0 := 44) rfl rfl rfl (gF (d0 := 44) rfl rfl rfl (gF (d0 := 44) rfl rfl rfl (pv (r_pkf rfl rfl rfl) (pv (r_zb rfl) (nil (t_thenR [(0, .bool false)] ⟨rfl, trivial⟩ fun J => ?_))))))))))))))))))))))
        have hm := Option.some.inj hm
        subst hm
        exact rtn (ret1 rfl rfl ⟨_, rfl, _, (Im.trans im1 (Im.trans im2 (Im.trans im3 (Im.trans im4 im5)))), ⟨rfl, hS5.sel [0] rfl, trivial⟩⟩)
    · have hm := cfalse hb2 hm
      refine gF (d0 := 25) rfl rfl (by rw [hb2]; rfl) (gF (d0 := 25) rfl rfl (by rw [hb2]; rfl) (gF (d0 := 25) rfl rfl (by rw [hb2]; rfl) (pv (r_pkf rfl hb2 rfl) (pv (r_mb rfl) (gF (d0 := 30) rfl rfl rfl (gF (d0 := 30) rfl rfl rfl (gF (d0 := 30) rfl rfl rfl (gF (d0 := 30) rfl rfl rfl (gF (d0 := 30) rfl rfl rfl (pv (r_pkf rfl rfl rfl) (pv (r_mb rfl) (gF (d0 := 37) rfl rfl rfl (gF (d0 := 37) rfl rfl rfl (gF (d0 := 37) rfl rfl rfl (gF (d0 := 37) rfl rfl rfl (gF (d0 := 37) rfl rfl rfl (pv (r_pkf rfl rfl rfl) (pv (r_mb rfl) (gF (d0 := 44) rfl rfl rfl (gF (d0 := 44) rfl rfl rfl (gF (d0 := 44) rfl rfl rfl (gF (d0 := 44) rfl rfl rfl (gF (d0 := 44) rfl rfl rfl (pv (r_pkf rfl rfl rfl) (pv (r_zb rfl) (nil (t_thenR [(0, .bool false)] ⟨rfl, trivial⟩ fun J => ?_)))))))))))))))))))))))))))
      have hm := Option.some.inj hm
      subst hm
      exact rtn (ret1 rfl rfl ⟨_, rfl, _, (Im.trans im1 (Im.trans im2 (Im.trans im3 (Im.trans im4 im5)))), ⟨rfl, hS5.sel [0] rfl, trivial⟩⟩)
  · have hm := cfalse hb1 hm
    refine gF (d0 := 21) rfl rfl (by rw [hb1]; rfl) (gF (d0 := 21) rfl rfl (by rw [hb1]; rfl) (pv (r_pkf rfl hb1 rfl) (pv (r_mb rfl) (gF (d0 := 25) rfl rfl rfl (gF (d0 := 25) rfl rfl rfl (gF (d0 := 25) rfl rfl rfl (pv (r_pkf rfl rfl rfl) (pv (r_mb rfl) (gF (d0 := 30) rfl rfl rfl (gF (d0 := 30) rfl rfl rfl (gF (d0 := 30) rfl rfl rfl (gF (d0 := 30) rfl rfl rfl (gF (d0 := 30) rfl rfl rfl (pv (r_pkf rfl rfl rfl) (pv (r_mb rfl) (gF (d0 := 37) rfl rfl rfl (gF (d0 := 37) rfl rfl rfl (gF (d0 := 37) rfl rfl rfl (gF (d0 := 37) rfl rfl rfl (gF (d0 := 37) rfl rfl rfl (pv (r_pkf rfl rfl rfl) (pv (r_mb rfl) (gF (d0 := 44) rfl rfl rfl (gF (d0 := 44) rfl rfl rfl (gF (d0 := 44) rfl rfl rfl (gF (d0 := 44) rfl rfl rfl (gF (d0 := 44) rfl rfl rfl (pv (r_pkf rfl rfl rfl) (pv (r_zb rfl) (nil (t_thenR [(0, .bool false)] ⟨rfl, trivial⟩ fun J => ?_)))))))))))))))))))))))))))))))
    have hm := Option.some.inj hm
    subst hm
    exact rtn (ret1 rfl rfl ⟨_, rfl, _, (Im.trans im1 (Im.trans im2 (Im.trans im3 (Im.trans im4 im5)))), ⟨rfl, hS5.sel [0] rfl, trivial⟩⟩)

set_option maxRecDepth 100000 in
set_option maxHeartbeats 1000000 in
theorem law24_AllocEnough_sim {g : World} {T0 : Nat → Prop} {w0 : World} {R : Assn} {p0 : GModule} {a1 : Option Addr} {c1 : Nat} {a2 : Option Addr} {c2 : Nat} {a3 : Option Addr} {c3 : Nat} {p1 : Int} {r : Bool} (hS : Sep g T0 w0 [R]) (h1 : SlR rGSlot T0 w0 (.slice a1 (List.length p0.Globals) c1) p0.Globals) (h2 : SlR (rSl (rInt .u8)) T0 w0 (.slice a2 (List.length p0.Data) c2) p0.Data) (h3 : SlR rProc T0 w0 (.slice a3 (List.length p0.Procs) c3) p0.Procs) (hm : law24_AllocEnough p0 p1 = some r) :
    Calls Try.prog 4 #[.agg #[.slice a1 (List.length p0.Globals) c1, .slice a2 (List.length p0.Data) c2, .slice a3 (List.length p0.Procs) c3, .int .i64 p0.Main], .int .i64 p1] w0 (RetS T0 w0 fun T w v => v = .bool r ∧ Sep g T w [R] ∧ True) := by
  refine enter (args := [.agg #[.slice a1 (List.length p0.Globals) c1, .slice a2 (List.length p0.Data) c2, .slice a3 (List.length p0.Procs) c3, .int .i64 p0.Main], .int .i64 p1]) Try.func4 rfl Try.ntmps4 rfl fun J => ?_
  unfold law24_AllocEnough at hm
  refine sq2 ?_
  refine rg (wl rfl (bxS (cs := [.slice a1 (List.length p0.Globals) c1, .slice a2 (List.length p0.Data) c2, .slice a3 (List.length p0.Procs) c3, .int .i64 p0.Main]) rfl rfl hS fun w1 b1 im1 hS1 => ?_))
  refine pv (r_zb rfl) (nil (t_then ?_))
  refine sq2 ?_
  refine sq2 ?_
  obtain ⟨y1, hx1, hm⟩ := bindS hm
  refine rg (pv (r_ldS rfl Try.isAgg26 Try.sizeOf26 rfl (hS1.cells0 (i := 0) ⟨rfl, rfl⟩ (o := 0) rfl) (cs := [.slice a1 (List.length p0.Globals) c1, .slice a2 (List.length p0.Data) c2, .slice a3 (List.length p0.Procs) c3, .int .i64 p0.Main])) (pv (r_mi rfl) (wl rfl (calS cf6 rfl (law24_few_sim (p0 := p0) (p1 := p1) (hS1.bun [0, 1] [] rfl) (h1.mono im1) (h2.mono im1) (h3.mono im1) hx1) rfl fun v1 T1 w2 im2 rv1 => ?_))))
  obtain ⟨rfl, hS2, _⟩ := rv1
  have hS2 : Sep g T1 w2 [boxA b1 [.slice a1 (List.length p0.Globals) c1, .slice a2 (List.length p0.Data) c2, .slice a3 (List.length p0.Procs) c3, .int .i64 p0.Main], R] := hS2.unb
  refine pv (r_nt rfl) (nil (t_thenR [(1, .int .i64 p1), (2, .pointer (some ⟨b1, 0, none⟩)), (19, .bool (!y1))] ⟨rfl, rfl, rfl, trivial⟩ fun J => ?_))
  refine cnd rfl (fun hb1 => ?_) (fun hb1 => ?_)
  · have hm := ctrue hb1 hm
    refine sq2 ?_
    obtain ⟨y2, hx2, hm⟩ := bindS hm
    refine rg (wl rfl (calS cf7 rfl (law24_awake_sim  (hS2.bun [1] [] rfl)  hx2) rfl fun v2 T2 w3 im3 rv2 => ?_))
    obtain ⟨rfl, hS3, _⟩ := rv2
    have hS3 : Sep g T2 w3 [R] := hS3.unb
    refine pv (r_zb rfl) (nil (t_then ?_))
    have hm := Option.some.inj hm
    subst hm
    exact rtn (r_then (ret1 rfl rfl ⟨_, rfl, _, (Im.trans im1 (Im.trans im2 im3)), ⟨rfl, hS3.sel [0] rfl, trivial⟩⟩))
  · have hm := cfalse hb1 hm
    refine skp (t_then ?_)
    refine sq2 ?_
    obtain ⟨u1, hx3, hm⟩ := bindS hm
    obtain ⟨b2, of1, cs1, k1, cp1, hv1, hp1, hl1, he1, hr1, hc1, hT1⟩ := (h3.mono (Im.trans im1 im2)).ixT hx3 rfl
    obtain ⟨a4, c4, a5, c5, rfl, h4, h5⟩ := rProc_open hr1
    refine rg (pv (r_fa rfl Try.underlying26 rfl Try.sizeOf24 rfl) (pv (r_ld rfl Try.isAgg24 (hS2.cell0 (i := 0) ⟨rfl, rfl⟩ (j := 2) rfl)) (pv (r_mi rfl) (pv (r_ixe hv1 rfl Try.underlying24 Try.sizeOf31 hp1 hl1 he1) (pv (r_ldS rfl Try.isAgg31 Try.sizeOf31 rfl hc1 (cs := [.string ⟨u1.Name.toArray⟩, .bool u1.Void, .int .i64 u1.Params, .int .i64 u1.Regs, .slice a4 (List.length u1.Objects) c4, .slice a5 (List.length u1.Blocks) c5])) (wl rfl (alS (zs := [.string ⟨([] : List UInt8).toArray⟩, .bool false, .int .i64 0, .int .i64 0, .slice none 0 0, .slice none 0 0]) Try.zeroValue31 rfl hS2 fun w4 b3 im4 hS4 => ?_)))))))
    refine wl rfl (st0B (q := 0) hS4 ⟨rfl, rfl⟩ rfl rfl rfl Try.sizeOf31 rfl rfl rfl fun w5 im5 hS5 => ?_)
    have hS5 : Sep g T1 w5 [boxA b3 [.string ⟨u1.Name.toArray⟩, .bool u1.Void, .int .i64 u1.Params, .int .i64 u1.Regs, .slice a4 (List.length u1.Objects) c4, .slice a5 (List.length u1.Blocks) c5], boxA b1 [.slice a1 (List.length p0.Globals) c1, .slice a2 (List.length p0.Data) c2, .slice a3 (List.length p0.Procs) c3, .int .i64 p0.Main], R] := hS5
    refine nil (t_thenR [(5, .pointer (some ⟨b3, 0, none⟩))] ⟨rfl, trivial⟩ fun J => ?_)
    refine sq2 ?_
    obtain ⟨y3, hx4, hm⟩ := bindS hm
    refine rg (pv (r_ldS rfl Try.isAgg31 Try.sizeOf31 rfl (hS5.cells0 (i := 0) ⟨rfl, rfl⟩ (o := 0) rfl) (cs := [.string ⟨u1.Name.toArray⟩, .bool u1.Void, .int .i64 u1.Params, .int .i64 u1.Regs, .slice a4 (List.length u1.Objects) c4, .slice a5 (List.length u1.Blocks) c5])) (wl rfl (calS cf8 rfl (alloc_Assign_sim (p0 := u1) (p1 := 12) (hS5.bun [0, 2] [] rfl) (h4.mono (Im.trans im4 im5)) (h5.mono (Im.trans im4 im5)) hx4) rfl fun v3 T3 w6 im6 rv3 => ?_)))
    obtain ⟨a6, n1, c6, rfl, hS6, _⟩ := rv3
    have hS6 : Sep g T3 w6 [boxA b3 [.string ⟨u1.Name.toArray⟩, .bool u1.Void, .int .i64 u1.Params, .int .i64 u1.Regs, .slice a4 (List.length u1.Objects) c4, .slice a5 (List.length u1.Blocks) c5], R, ownA rSeat 37 (.slice a6 n1 c6) y3.1] := hS6.unb
    refine pv (r_mv rfl) (pv (r_ex (v := .slice a6 n1 c6) rfl rfl) (pv (r_ex (v := .int .i64 y3.2.1) rfl rfl) (pv (r_ex (v := .int .i64 y3.2.2) rfl rfl) (pv (r_zs rfl) (pv (r_zi rfl) (pv (r_zi rfl) (nil (t_thenR [(5, .pointer (some ⟨b3, 0, none⟩)), (6, .slice a6 n1 c6), (7, .int .i64 y3.2.1), (8, .int .i64 y3.2.2)] ⟨rfl, rfl, rfl, rfl, trivial⟩ fun J => ?_))))))))
    refine sq2 ?_
    obtain ⟨y4, hx5, hm⟩ := bindS hm
    refine rg (pv (r_ldS rfl Try.isAgg31 Try.sizeOf31 rfl (hS6.cells0 (i := 0) ⟨rfl, rfl⟩ (o := 0) rfl) (cs := [.string ⟨u1.Name.toArray⟩, .bool u1.Void, .int .i64 u1.Params, .int .i64 u1.Regs, .slice a4 (List.length u1.Objects) c4, .slice a5 (List.length u1.Blocks) c5])) (wl rfl (calS cf8 rfl (alloc_Assign_sim (p0 := u1) (p1 := 0) (hS6.bun [0, 1, 2] [] rfl) (h4.mono (Im.trans im4 (Im.trans im5 im6))) (h5.mono (Im.trans im4 (Im.trans im5 im6))) hx5) rfl fun v4 T4 w7 im7 rv4 => ?_)))
    obtain ⟨a7, n2, c7, rfl, hS7, _⟩ := rv4
    have hS7 : Sep g T4 w7 [boxA b3 [.string ⟨u1.Name.toArray⟩, .bool u1.Void, .int .i64 u1.Params, .int .i64 u1.Regs, .slice a4 (List.length u1.Objects) c4, .slice a5 (List.length u1.Blocks) c5], R, ownA rSeat 37 (.slice a6 n1 c6) y3.1, ownA rSeat 37 (.slice a7 n2 c7) y4.1] := hS7.unb
    refine pv (r_mv rfl) (pv (r_ex (v := .slice a7 n2 c7) rfl rfl) (pv (r_ex (v := .int .i64 y4.2.1) rfl rfl) (pv (r_ex (v := .int .i64 y4.2.2) rfl rfl) (pv (r_zs rfl) (pv (r_zi rfl) (pv (r_zi rfl) (nil (t_thenR [(5, .pointer (some ⟨b3, 0, none⟩)), (6, .slice a6 n1 c6), (7, .int .i64 y3.2.1), (8, .int .i64 y3.2.2), (9, .slice a7 n2 c7), (10, .int .i64 y4.2.1), (11, .int .i64 y4.2.2)] ⟨rfl, rfl, rfl, rfl, rfl, rfl, rfl, trivial⟩ fun J => ?_))))))))
    refine sq2 ?_
    refine sq2 ?_
    refine rg (pv (r_mi rfl) (pv (r_ib rfl rfl rfl) (pv (r_mb rfl) (?_))))
    rcases Bool.eq_false_or_eq_true (y3.2.2 != 0) with hb2 | hb2
    · have hm := ctrue hb2 hm
      refine gF (d0 := 40) rfl rfl (by rw [hb2]; rfl) (gF (d0 := 40) rfl rfl (by rw [hb2]; rfl) (pv (r_pkt rfl hb2 rfl) (pv (r_mb rfl) (gF (d0 := 44) rfl rfl rfl (gF (d0 := 44) rfl rfl rfl (gF (d0 := 44) rfl rfl rfl (gF (d0 := 44) rfl rfl rfl (gU (d0 := 48) rfl rfl (gU (d0 := 48) rfl rfl (gF (d0 := 44) rfl rfl rfl (pv (r_pkt rfl rfl rfl) (pv (r_mb rfl) (gF (d0 := 53) rfl rfl rfl (gF (d0 := 53) rfl rfl rfl (gF (d0 := 53) rfl rfl rfl (gF (d0 := 53) rfl rfl rfl (gF (d0 := 53) rfl rfl rfl (pv (r_pkt rfl rfl rfl) (nil (t_thenR [(9, .slice a7 n2 c7), (10, .int .i64 y4.2.1), (59, .bool true)] ⟨rfl, rfl, rfl, trivial⟩ fun J => ?_))))))))))))))))))))
      refine cnd (b := true) rfl (fun _ => ?_) (fun h => nomatch h)
      refine sq2 ?_
      refine rg (pv (r_zb rfl) (nil (t_then ?_)))
      have hm := Option.some.inj hm
      subst hm
      exact rtn (r_then (ret1 rfl rfl ⟨_, rfl, _, (Im.trans im1 (Im.trans im2 (Im.trans im4 (Im.trans im5 (Im.trans im6 im7))))), ⟨rfl, hS7.sel [1] rfl, trivial⟩⟩))
    · have hm := cfalse hb2 hm
      refine gT (d0 := 40) rfl rfl hb2 (pv (r_mi rfl) (gT (d0 := 40) rfl rfl hb2 (pv (r_ib rfl rfl rfl) (pv (r_pkf rfl hb2 rfl) (pv (r_mb rfl) (?_))))))
      rcases Bool.eq_false_or_eq_true (y4.2.2 != 0) with hb3 | hb3
      · have hm := ctrue hb3 hm
        refine gF (d0 := 44) rfl rfl (by rw [hb3]; rfl) (gF (d0 := 44) rfl rfl (by rw [hb3]; rfl) (gF (d0 := 44) rfl rfl (by rw [hb3]; rfl) (gF (d0 := 44) rfl rfl (by rw [hb3]; rfl) (gU (d0 := 48) rfl rfl (gU (d0 := 48) rfl rfl (gF (d0 := 44) rfl rfl (by rw [hb3]; rfl) (pv (r_pkt rfl hb3 rfl) (pv (r_mb rfl) (gF (d0 := 53) rfl rfl rfl (gF (d0 := 53) rfl rfl rfl (gF (d0 := 53) rfl rfl rfl (gF (d0 := 53) rfl rfl rfl (gF (d0 := 53) rfl rfl rfl (pv (r_pkt rfl rfl rfl) (nil (t_thenR [(9, .slice a7 n2 c7), (10, .int .i64 y4.2.1), (59, .bool true)] ⟨rfl, rfl, rfl, trivial⟩ fun J => ?_))))))))))))))))
        refine cnd (b := true) rfl (fun _ => ?_) (fun h => nomatch h)
        refine sq2 ?_
        refine rg (pv (r_zb rfl) (nil (t_then ?_)))
        have hm := Option.some.inj hm
        subst hm
        exact rtn (r_then (ret1 rfl rfl ⟨_, rfl, _, (Im.trans im1 (Im.trans im2 (Im.trans im4 (Im.trans im5 (Im.trans im6 im7))))), ⟨rfl, hS7.sel [1] rfl, trivial⟩⟩))
      · have hm := cfalse hb3 hm
        refine gT (d0 := 44) rfl rfl hb3 (pv (r_fa rfl Try.underlying31 rfl Try.sizeOf3 rfl) (gT (d0 := 44) rfl rfl hb3 (pv (r_ld rfl Try.isAgg3 (hS7.cell0 (i := 0) ⟨rfl, rfl⟩ (j := 3) rfl)) (gT (d0 := 44) rfl rfl hb3 (pv (r_ib rfl rfl rfl) (gT (d0 := 44) rfl rfl hb3 (pv (r_mb rfl) (?_))))))))
        rcases Bool.eq_false_or_eq_true (decide (u1.Regs ≤ 12)) with hb4 | hb4
        · have hm := ctrue hb4 hm
          refine gT (d0 := 48) rfl rfl hb4 (pv (r_mi rfl) (gT (d0 := 48) rfl rfl hb4 (pv (r_ib rfl rfl rfl) (gT (d0 := 44) rfl rfl hb3 (pv (r_pkt rfl hb4 rfl) (pv (r_pkf rfl hb3 rfl) (pv (r_mb rfl) (?_))))))))
          rcases Bool.eq_false_or_eq_true (y3.2.1 != 0) with hb5 | hb5
          · have hm := ctrue hb5 hm
            refine gF (d0 := 53) rfl rfl (by rw [hb5]; rfl) (gF (d0 := 53) rfl rfl (by rw [hb5]; rfl) (gF (d0 := 53) rfl rfl (by rw [hb5]; rfl) (gF (d0 := 53) rfl rfl (by rw [hb5]; rfl) (gF (d0 := 53) rfl rfl (by rw [hb5]; rfl) (pv (r_pkt rfl hb5 rfl) (nil (t_thenR [(9, .slice a7 n2 c7), (10, .int .i64 y4.2.1), (59, .bool true)] ⟨rfl, rfl, rfl, trivial⟩ fun J => ?_)))))))
            refine cnd (b := true) rfl (fun _ => ?_) (fun h => nomatch h)
            refine sq2 ?_
            refine rg (pv (r_zb rfl) (nil (t_then ?_)))
            have hm := Option.some.inj hm
            subst hm
            exact rtn (r_then (ret1 rfl rfl ⟨_, rfl, _, (Im.trans im1 (Im.trans im2 (Im.trans im4 (Im.trans im5 (Im.trans im6 im7))))), ⟨rfl, hS7.sel [1] rfl, trivial⟩⟩))
          · have hm := cfalse hb5 hm
            refine gT (d0 := 53) rfl rfl hb5 (pv (r_ms rfl) (gT (d0 := 53) rfl rfl hb5 (pv (r_lnV rfl (hS7.own (i := 2) ⟨rfl, rfl⟩).v Try.underlying32) (gT (d0 := 53) rfl rfl hb5 (pv (r_fa rfl Try.underlying31 rfl Try.sizeOf3 rfl) (gT (d0 := 53) rfl rfl hb5 (pv (r_ld rfl Try.isAgg3 (hS7.cell0 (i := 0) ⟨rfl, rfl⟩ (j := 3) rfl)) (gT (d0 := 53) rfl rfl hb5 (pv (r_ib rfl rfl rfl) (pv (r_pkf rfl hb5 rfl) (nil (t_thenR [(9, .slice a7 n2 c7), (10, .int .i64 y4.2.1), (59, .bool ((List.length y3.1 : Int) != u1.Regs))] ⟨rfl, rfl, rfl, trivial⟩ fun J => ?_))))))))))))
            refine cnd rfl (fun hb6 => ?_) (fun hb6 => ?_)
            · have hm := ctrue hb6 hm
              refine sq2 ?_
              refine rg (pv (r_zb rfl) (nil (t_then ?_)))
              have hm := Option.some.inj hm
              subst hm
              exact rtn (r_then (ret1 rfl rfl ⟨_, rfl, _, (Im.trans im1 (Im.trans im2 (Im.trans im4 (Im.trans im5 (Im.trans im6 im7))))), ⟨rfl, hS7.sel [1] rfl, trivial⟩⟩))
            · have hm := cfalse hb6 hm
              refine skp (t_then ?_)
              refine sq2 ?_
              obtain ⟨u2, hx6, hm⟩ := bindS hm
              refine rg (pv (r_mi rfl) (wl rfl (msS (r := rBool) hS7 rfl rfl Try.underlying50 el4 Try.zeroValue4 rfl hx6 fun w8 a8 n3 c8 im8 hS8 => ?_)))
              refine pv (r_zs rfl) (nil (t_then ?_))
              refine sq2 ?_
              refine sq2 ?_
              refine rg (pv (r_zi rfl) (nil (t_then ?_)))
              obtain ⟨o1, ho1, hq1⟩ := bindS hm
              obtain ⟨bd1, hbd1, ho1⟩ := loop_open ho1
              refine blk (wp_loop_ghost (fun m a w9 => ∃ (J : Nat → Value) (T5 : Nat → Prop) (x1 : List Bool) (a9 : Option Addr) (n4 : Nat) (c9 : Nat) (x2 : Int), a = env (nf 111) J [(9, .slice a7 n2 c7), (10, .int .i64 y4.2.1), (12, .slice a9 n4 c9), (13, .int .i64 x2)] ∧ Im T4 w8 T5 w9 ∧ Sep g T5 w9 [ownA rBool 4 (.slice a9 n4 c9) x1, R, ownA rSeat 37 (.slice a7 n2 c7) y4.1] ∧ loopM bd1 m (x1, x2) = some o1) NN ⟨_, _, u2, _, _, _, 0, env_has ⟨rfl, rfl, rfl, rfl, trivial⟩, Im.refl, hS8.sel [0, 2, 4] rfl, ho1⟩ ?_)
              rintro m _ w9 ⟨J, T5, x1, a9, n4, c9, x2, rfl, im9, hS9, ho1⟩
              obtain ⟨m1, z1, rfl, hm, hn1⟩ := loop_round ho1
              rw [hbd1] at hm
              refine sq2 ?_
              refine sq2 ?_
              refine rg (pv (r_mi rfl) (pv (r_ms rfl) (pv (r_lnV rfl (hS9.own (i := 2) ⟨rfl, rfl⟩).v Try.underlying32) (pv (r_ib rfl rfl rfl) (nil (t_then ?_))))))
              refine cnd rfl (fun hb7 => ?_) (fun hb7 => ?_)
              · have hm := ctrue hb7 hm
                refine skp (t_then ?_)
                obtain ⟨kk1, hkk1, hm⟩ := jn_open hm
                refine cut (fun a w10 => ∃ (J : Nat → Value) (T6 : Nat → Prop) (x3 : List Bool) (a10 : Option Addr) (n5 : Nat) (c10 : Nat), a = env (nf 111) J [(9, .slice a7 n2 c7), (10, .int .i64 y4.2.1), (12, .slice a10 n5 c10), (13, .int .i64 x2)] ∧ Im T5 w9 T6 w10 ∧ Sep g T6 w10 [ownA rBool 4 (.slice a10 n5 c10) x3, R, ownA rSeat 37 (.slice a7 n2 c7) y4.1] ∧ kk1 x3 = some z1) ?_ ?_
                · refine blk ?_
                  refine sq2 ?_
                  obtain ⟨u3, hx7, hm⟩ := bindS hm
                  obtain ⟨b4, of2, cs2, k2, cp2, hv2, hp2, hl2, he2, hr2, hc2⟩ := (hS9.own (i := 2) ⟨rfl, rfl⟩).v.ixq hx7 rfl
                  cases rSeat_open hr2
                  refine rg (pv (r_ms rfl) (pv (r_mi rfl) (pv (r_ixe hv2 rfl Try.underlying32 Try.sizeOf37 hp2 hl2 he2) (pv (r_fa rfl Try.underlying37 rfl Try.sizeOf3 rfl) (pv (r_ld rfl Try.isAgg3 (hc2.get (j := 1) rfl)) (pv (r_zi rfl) (nil (t_thenR [(9, .slice a7 n2 c7), (10, .int .i64 y4.2.1), (12, .slice a9 n4 c9), (13, .int .i64 x2), (14, .int .i64 u3.Slot)] ⟨rfl, rfl, rfl, rfl, rfl, trivial⟩ fun J => ?_))))))))
                  refine sq2 ?_
                  refine sq2 ?_
                  refine rg (pv (r_mi rfl) (pv (r_ib rfl rfl rfl) (nil (t_then ?_))))
                  refine cnd rfl (fun hb8 => ?_) (fun hb8 => ?_)
                  · have hm := ctrue hb8 hm
                    exact xt (x_then (x_eq (t_then ⟨_, _, x1, _, _, _, env_has ⟨rfl, rfl, rfl, rfl, trivial⟩, Im.refl, hS9.sel [0, 1, 2] rfl, hm⟩)))
                  · have hm := cfalse hb8 hm
                    refine skp (t_then ?_)
                    refine sq2 ?_
                    refine sq2 ?_
                    refine rg (pv (r_mi rfl) (pv (r_ib rfl rfl rfl) (pv (r_mb rfl) (?_))))
                    rcases Bool.eq_false_or_eq_true (decide (u3.Slot < 0)) with hb9 | hb9
                    · have hm := ctrue hb9 hm
                      refine gF (d0 := 77) rfl rfl (by rw [hb9]; rfl) (gF (d0 := 77) rfl rfl (by rw [hb9]; rfl) (gF (d0 := 77) rfl rfl (by rw [hb9]; rfl) (pv (r_pkt rfl hb9 rfl) (pv (r_mb rfl) (gF (d0 := 82) rfl rfl rfl (gF (d0 := 82) rfl rfl rfl (gF (d0 := 82) rfl rfl rfl (gF (d0 := 82) rfl rfl rfl (pv (r_pkt rfl rfl rfl) (pv (r_mb rfl) (gF (d0 := 88) rfl rfl rfl (gF (d0 := 88) rfl rfl rfl (gF (d0 := 88) rfl rfl rfl (gF (d0 := 88) rfl rfl rfl (gF (d0 := 88) rfl rfl rfl (gF (d0 := 88) rfl rfl rfl (pv (r_pkt rfl rfl rfl) (nil (t_thenR [(9, .slice a7 n2 c7), (10, .int .i64 y4.2.1), (12, .slice a9 n4 c9), (13, .int .i64 x2), (14, .int .i64 u3.Slot), (95, .bool true)] ⟨rfl, rfl, rfl, rfl, rfl, rfl, trivial⟩ fun J => ?_)))))))))))))))))))
                      refine cnd (b := true) rfl (fun _ => ?_) (fun h => nomatch h)
                      refine sq2 ?_
                      refine rg (pv (r_zb rfl) (nil (t_thenR [(4, .bool false)] ⟨rfl, trivial⟩ fun J => ?_)))
                      have hm := Option.some.inj hm
                      subst hm
                      have hn1 : _ = Lp.ret _ := hn1
                      subst hn1
                      have hm := thn_ret hq1
                      have hm := Option.some.inj hm
                      subst hm
                      exact rtn (r_then (r_blk (r_then (r_then (r_blk (r_then (ret1 rfl rfl ⟨_, rfl, _, (Im.trans im1 (Im.trans im2 (Im.trans im4 (Im.trans im5 (Im.trans im6 (Im.trans im7 (Im.trans im8 im9))))))), ⟨rfl, hS9.sel [1] rfl, trivial⟩⟩)))))))
                    · have hm := cfalse hb9 hm
                      refine gT (d0 := 77) rfl rfl hb9 (pv (r_mi rfl) (gT (d0 := 77) rfl rfl hb9 (pv (r_mi rfl) (gT (d0 := 77) rfl rfl hb9 (pv (r_ib rfl rfl rfl) (pv (r_pkf rfl hb9 rfl) (pv (r_mb rfl) (?_))))))))
                      rcases Bool.eq_false_or_eq_true (decide (y4.2.1 ≤ u3.Slot)) with hb10 | hb10
                      · have hm := ctrue hb10 hm
                        refine gF (d0 := 82) rfl rfl (by rw [hb10]; rfl) (gF (d0 := 82) rfl rfl (by rw [hb10]; rfl) (gF (d0 := 82) rfl rfl (by rw [hb10]; rfl) (gF (d0 := 82) rfl rfl (by rw [hb10]; rfl) (pv (r_pkt rfl hb10 rfl) (pv (r_mb rfl) (gF (d0 := 88) rfl rfl rfl (gF (d0 := 88) rfl rfl rfl (gF (d0 := 88) rfl rfl rfl (gF (d0 := 88) rfl rfl rfl (gF (d0 := 88) rfl rfl rfl (gF (d0 := 88) rfl rfl rfl (pv (r_pkt rfl rfl rfl) (nil (t_thenR [(9, .slice a7 n2 c7), (10, .int .i64 y4.2.1), (12, .slice a9 n4 c9), (13, .int .i64 x2), (14, .int .i64 u3.Slot), (95, .bool true)] ⟨rfl, rfl, rfl, rfl, rfl, rfl, trivial⟩ fun J => ?_))))))))))))))
                        refine cnd (b := true) rfl (fun _ => ?_) (fun h => nomatch h)
                        refine sq2 ?_
                        refine rg (pv (r_zb rfl) (nil (t_thenR [(4, .bool false)] ⟨rfl, trivial⟩ fun J => ?_)))
                        have hm := Option.some.inj hm
                        subst hm
                        have hn1 : _ = Lp.ret _ := hn1
                        subst hn1
                        have hm := thn_ret hq1
                        have hm := Option.some.inj hm
                        subst hm
                        exact rtn (r_then (r_blk (r_then (r_then (r_blk (r_then (ret1 rfl rfl ⟨_, rfl, _, (Im.trans im1 (Im.trans im2 (Im.trans im4 (Im.trans im5 (Im.trans im6 (Im.trans im7 (Im.trans im8 im9))))))), ⟨rfl, hS9.sel [1] rfl, trivial⟩⟩)))))))
                      · have hm := cfalse hb10 hm
                        obtain ⟨u4, hx8, hm⟩ := bindS hm
                        obtain ⟨b5, of3, cs3, k3, cp3, hv3, hp3, hl3, he3, hr3, hc3⟩ := (hS9.own (i := 0) ⟨rfl, rfl⟩).v.ixq hx8 rfl
                        cases hr3
                        refine gT (d0 := 82) rfl rfl hb10 (pv (r_ms rfl) (gT (d0 := 82) rfl rfl hb10 (pv (r_mi rfl) (gT (d0 := 82) rfl rfl hb10 (pv (r_ixe hv3 rfl Try.underlying50 Try.sizeOf4 hp3 hl3 he3) (gT (d0 := 82) rfl rfl hb10 (pv (r_ld rfl Try.isAgg4 (hc3.get (j := 0) rfl)) (pv (r_pkf rfl hb10 rfl) (pv (r_mb rfl) (?_))))))))))
                        rcases Bool.eq_false_or_eq_true u4 with hb11 | hb11
                        · have hm := ctrue hb11 hm
                          refine gF (d0 := 88) rfl rfl (by rw [hb11]; rfl) (gF (d0 := 88) rfl rfl (by rw [hb11]; rfl) (gF (d0 := 88) rfl rfl (by rw [hb11]; rfl) (gF (d0 := 88) rfl rfl (by rw [hb11]; rfl) (gF (d0 := 88) rfl rfl (by rw [hb11]; rfl) (gF (d0 := 88) rfl rfl (by rw [hb11]; rfl) (pv (r_pkt rfl hb11 rfl) (nil (t_thenR [(9, .slice a7 n2 c7), (10, .int .i64 y4.2.1), (12, .slice a9 n4 c9), (13, .int .i64 x2), (14, .int .i64 u3.Slot), (95, .bool true)] ⟨rfl, rfl, rfl, rfl, rfl, rfl, trivial⟩ fun J => ?_))))))))
                          refine cnd (b := true) rfl (fun _ => ?_) (fun h => nomatch h)
                          refine sq2 ?_
                          refine rg (pv (r_zb rfl) (nil (t_thenR [(4, .bool false)] ⟨rfl, trivial⟩ fun J => ?_)))
                          have hm := Option.some.inj hm
                          subst hm
                          have hn1 : _ = Lp.ret _ := hn1
                          subst hn1
                          have hm := thn_ret hq1
                          have hm := Option.some.inj hm
                          subst hm
                          exact rtn (r_then (r_blk (r_then (r_then (r_blk (r_then (ret1 rfl rfl ⟨_, rfl, _, (Im.trans im1 (Im.trans im2 (Im.trans im4 (Im.trans im5 (Im.trans im6 (Im.trans im7 (Im.trans im8 im9))))))), ⟨rfl, hS9.sel [1] rfl, trivial⟩⟩)))))))
                        · have hm := cfalse hb11 hm
                          obtain ⟨u5, hx9, hm⟩ := bindS hm
                          obtain ⟨b6, of4, cs4, k4, cp4, hv4, hp4, hl4, he4, hr4, hc4⟩ := (hS9.own (i := 2) ⟨rfl, rfl⟩).v.ixq hx9 rfl
                          cases rSeat_open hr4
                          refine gT (d0 := 88) rfl rfl hb11 (pv (r_ms rfl) (gT (d0 := 88) rfl rfl hb11 (pv (r_mi rfl) (gT (d0 := 88) rfl rfl hb11 (pv (r_ixe hv4 rfl Try.underlying32 Try.sizeOf37 hp4 hl4 he4) (gT (d0 := 88) rfl rfl hb11 (pv (r_fa rfl Try.underlying37 rfl Try.sizeOf3 rfl) (gT (d0 := 88) rfl rfl hb11 (pv (r_ld rfl Try.isAgg3 (hc4.get (j := 0) rfl)) (gT (d0 := 88) rfl rfl hb11 (pv (r_ib rfl rfl rfl) (pv (r_pkf rfl hb11 rfl) (nil (t_thenR [(9, .slice a7 n2 c7), (10, .int .i64 y4.2.1), (12, .slice a9 n4 c9), (13, .int .i64 x2), (14, .int .i64 u3.Slot), (95, .bool (u5.Reg != 0))] ⟨rfl, rfl, rfl, rfl, rfl, rfl, trivial⟩ fun J => ?_))))))))))))))
                          refine cnd rfl (fun hb12 => ?_) (fun hb12 => ?_)
                          · have hm := ctrue hb12 hm
                            refine sq2 ?_
                            refine rg (pv (r_zb rfl) (nil (t_thenR [(4, .bool false)] ⟨rfl, trivial⟩ fun J => ?_)))
                            have hm := Option.some.inj hm
                            subst hm
                            have hn1 : _ = Lp.ret _ := hn1
                            subst hn1
                            have hm := thn_ret hq1
                            have hm := Option.some.inj hm
                            subst hm
                            exact rtn (r_then (r_blk (r_then (r_then (r_blk (r_then (ret1 rfl rfl ⟨_, rfl, _, (Im.trans im1 (Im.trans im2 (Im.trans im4 (Im.trans im5 (Im.trans im6 (Im.trans im7 (Im.trans im8 im9))))))), ⟨rfl, hS9.sel [1] rfl, trivial⟩⟩)))))))
                          · have hm := cfalse hb12 hm
                            refine skp (t_then ?_)
                            obtain ⟨u6, hx10, hm⟩ := bindS hm
                            obtain ⟨b7, of5, cs5, k5, cp5, hv5, hp5, hl5, he5, hr5, hc5⟩ := (hS9.own (i := 0) ⟨rfl, rfl⟩).v.ixq hx10 rfl
                            cases hr5
                            obtain ⟨u7, hx11, hm⟩ := bindS hm
                            refine rg (pv (r_ms rfl) (pv (r_mi rfl) (pv (r_ixe hv5 rfl Try.underlying50 Try.sizeOf4 hp5 hl5 he5) (wl rfl (stO (q := 0) (i := Int.toNat u3.Slot) (j := 0) (u := u7) (u' := true) hS9 ⟨rfl, rfl⟩ hv5 (idx_some hx11).2.2 he5 rfl rfl rfl Try.sizeOf4 rfl rfl rfl (fun c0 hc0 => by rw [storeL_all (r := rBool) hc0 rfl]; exact rfl) fun w11 im11 hS10 => ?_)))))
                            have hS10 : Sep g T5 w11 [ownA rBool 4 (.slice a9 n4 c9) (List.set x1 (Int.toNat u3.Slot) true), R, ownA rSeat 37 (.slice a7 n2 c7) y4.1] := hS10
                            exact nil (t_blk (t_then ⟨_, _, (List.set x1 (Int.toNat u3.Slot) true), _, _, _, env_has ⟨rfl, rfl, rfl, rfl, trivial⟩, im11, hS10.sel [0, 1, 2] rfl, hm⟩))
                · rintro _ w10 ⟨J, T6, x3, a10, n5, c10, rfl, im10, hS11, hm⟩
                  rw [hkk1] at hm
                  have hm := Option.some.inj hm
                  subst hm
                  exact rg (pv (r_mi rfl) (pv (r_ib rfl rfl rfl) (pv (r_zi rfl) (nil (t_then ⟨m1, Nat.lt_succ_self _, _, _, x3, _, _, _, (IntKind.wrap .i64 (x2 + 1)), env_has ⟨rfl, rfl, rfl, rfl, trivial⟩, (Im.trans im9 im10), hS11.sel [0, 1, 2] rfl, hn1⟩)))))
              · have hm := cfalse hb7 hm
                have hm := Option.some.inj hm
                subst hm
                have hn1 : _ = Lp.brk _ := hn1
                subst hn1
                have hm := thn_brk hq1
                refine xt (x_then (x_then (x_eq (t_thenR [(12, .slice a9 n4 c9)] ⟨rfl, trivial⟩ fun J => ?_))))
                refine sq2 ?_
                refine sq2 ?_
                refine rg (pv (r_zi rfl) (nil (t_then ?_)))
                obtain ⟨o1, ho1, hq1⟩ := bindS hm
                obtain ⟨bd1, hbd1, ho1⟩ := loop_open ho1
                refine blk (wp_loop_ghost (fun m a w12 => ∃ (J : Nat → Value) (T7 : Nat → Prop) (x4 : Int), a = env (nf 111) J [(12, .slice a9 n4 c9), (15, .int .i64 x4)] ∧ Im T5 w9 T7 w12 ∧ Sep g T7 w12 [ownA rBool 4 (.slice a9 n4 c9) x1, R] ∧ loopM bd1 m x4 = some o1) NN ⟨_, _, 0, env_has ⟨rfl, rfl, trivial⟩, Im.refl, hS9.sel [0, 1] rfl, ho1⟩ ?_)
                rintro m _ w12 ⟨J, T7, x4, rfl, im12, hS12, ho1⟩
                obtain ⟨m1, z1, rfl, hm, hn1⟩ := loop_round ho1
                rw [hbd1] at hm
                refine sq2 ?_
                refine sq2 ?_
                refine rg (pv (r_mi rfl) (pv (r_ms rfl) (pv (r_lnV rfl (hS12.own (i := 0) ⟨rfl, rfl⟩).v Try.underlying50) (pv (r_ib rfl rfl rfl) (nil (t_then ?_))))))
                refine cnd rfl (fun hb16 => ?_) (fun hb16 => ?_)
                · have hm := ctrue hb16 hm
                  refine skp (t_then ?_)
                  refine sq2 ?_
                  refine blk ?_
                  refine sq2 ?_
                  obtain ⟨u8, hx12, hm⟩ := bindS hm
                  obtain ⟨b8, of6, cs6, k6, cp6, hv6, hp6, hl6, he6, hr6, hc6⟩ := (hS12.own (i := 0) ⟨rfl, rfl⟩).v.ixq hx12 rfl
                  cases hr6
                  refine rg (pv (r_ms rfl) (pv (r_mi rfl) (pv (r_ixe hv6 rfl Try.underlying50 Try.sizeOf4 hp6 hl6 he6) (pv (r_ld rfl Try.isAgg4 (hc6.get (j := 0) rfl)) (pv (r_nt rfl) (nil (t_thenR [(12, .slice a9 n4 c9), (15, .int .i64 x4), (109, .bool (!u8))] ⟨rfl, rfl, rfl, trivial⟩ fun J => ?_)))))))
                  refine cnd rfl (fun hb17 => ?_) (fun hb17 => ?_)
                  · have hm := ctrue hb17 hm
                    refine sq2 ?_
                    refine rg (pv (r_zb rfl) (nil (t_then ?_)))
                    have hm := Option.some.inj hm
                    subst hm
                    have hn1 : _ = Lp.ret _ := hn1
                    subst hn1
                    have hm := thn_ret hq1
                    have hm := Option.some.inj hm
                    subst hm
                    exact rtn (r_blk (r_then (r_then (r_blk (r_then (ret1 rfl rfl ⟨_, rfl, _, (Im.trans im1 (Im.trans im2 (Im.trans im4 (Im.trans im5 (Im.trans im6 (Im.trans im7 (Im.trans im8 (Im.trans im9 im12)))))))), ⟨rfl, hS12.sel [1] rfl, trivial⟩⟩))))))
                  · have hm := cfalse hb17 hm
                    refine skp (t_blk (t_then ?_))
                    have hm := Option.some.inj hm
                    subst hm
                    exact rg (pv (r_mi rfl) (pv (r_ib rfl rfl rfl) (pv (r_zi rfl) (nil (t_then ⟨m1, Nat.lt_succ_self _, _, _, (IntKind.wrap .i64 (x4 + 1)), env_has ⟨rfl, rfl, trivial⟩, im12, hS12.sel [0, 1] rfl, hn1⟩)))))
                · have hm := cfalse hb16 hm
                  have hm := Option.some.inj hm
                  subst hm
                  have hn1 : _ = Lp.brk _ := hn1
                  subst hn1
                  have hm := thn_brk hq1
                  refine xt (x_then (x_then (x_eq (t_thenR [] trivial fun J => ?_))))
                  refine sq2 ?_
                  obtain ⟨y5, hx13, hm⟩ := bindS hm
                  refine rg (wl rfl (calS cf7 rfl (law24_awake_sim  (hS12.bun [1] [] rfl)  hx13) rfl fun v5 T8 w13 im13 rv5 => ?_))
                  obtain ⟨rfl, hS13, _⟩ := rv5
                  have hS13 : Sep g T8 w13 [R] := hS13.unb
                  refine pv (r_zb rfl) (nil (t_then ?_))
                  have hm := Option.some.inj hm
                  subst hm
                  exact rtn (ret1 rfl rfl ⟨_, rfl, _, (Im.trans im1 (Im.trans im2 (Im.trans im4 (Im.trans im5 (Im.trans im6 (Im.trans im7 (Im.trans im8 (Im.trans im9 (Im.trans im12 im13))))))))), ⟨rfl, hS13.sel [0] rfl, trivial⟩⟩)
        · have hm := cfalse hb4 hm
          refine gF (d0 := 48) rfl rfl (by rw [hb4]; rfl) (gF (d0 := 48) rfl rfl (by rw [hb4]; rfl) (gT (d0 := 44) rfl rfl hb3 (pv (r_pkf rfl hb4 rfl) (pv (r_pkf rfl hb3 rfl) (pv (r_mb rfl) (gT (d0 := 53) rfl rfl rfl (pv (r_ms rfl) (gT (d0 := 53) rfl rfl rfl (pv (r_lnV rfl (hS7.own (i := 2) ⟨rfl, rfl⟩).v Try.underlying32) (gT (d0 := 53) rfl rfl rfl (pv (r_fa rfl Try.underlying31 rfl Try.sizeOf3 rfl) (gT (d0 := 53) rfl rfl rfl (pv (r_ld rfl Try.isAgg3 (hS7.cell0 (i := 0) ⟨rfl, rfl⟩ (j := 3) rfl)) (gT (d0 := 53) rfl rfl rfl (pv (r_ib rfl rfl rfl) (pv (r_pkf rfl rfl rfl) (nil (t_thenR [(9, .slice a7 n2 c7), (10, .int .i64 y4.2.1), (59, .bool ((List.length y3.1 : Int) != u1.Regs))] ⟨rfl, rfl, rfl, trivial⟩ fun J => ?_))))))))))))))))))
          refine cnd rfl (fun hb19 => ?_) (fun hb19 => ?_)
          · have hm := ctrue hb19 hm
            refine sq2 ?_
            refine rg (pv (r_zb rfl) (nil (t_then ?_)))
            have hm := Option.some.inj hm
            subst hm
            exact rtn (r_then (ret1 rfl rfl ⟨_, rfl, _, (Im.trans im1 (Im.trans im2 (Im.trans im4 (Im.trans im5 (Im.trans im6 im7))))), ⟨rfl, hS7.sel [1] rfl, trivial⟩⟩))
          · have hm := cfalse hb19 hm
            refine skp (t_then ?_)
            refine sq2 ?_
            obtain ⟨u9, hx14, hm⟩ := bindS hm
            refine rg (pv (r_mi rfl) (wl rfl (msS (r := rBool) hS7 rfl rfl Try.underlying50 el4 Try.zeroValue4 rfl hx14 fun w14 a11 n6 c11 im14 hS14 => ?_)))
            refine pv (r_zs rfl) (nil (t_then ?_))
            refine sq2 ?_
            refine sq2 ?_
            refine rg (pv (r_zi rfl) (nil (t_then ?_)))
            obtain ⟨o1, ho1, hq1⟩ := bindS hm
            obtain ⟨bd1, hbd1, ho1⟩ := loop_open ho1
            refine blk (wp_loop_ghost (fun m a w15 => ∃ (J : Nat → Value) (T9 : Nat → Prop) (x5 : List Bool) (a12 : Option Addr) (n7 : Nat) (c12 : Nat) (x6 : Int), a = env (nf 111) J [(9, .slice a7 n2 c7), (10, .int .i64 y4.2.1), (12, .slice a12 n7 c12), (13, .int .i64 x6)] ∧ Im T4 w14 T9 w15 ∧ Sep g T9 w15 [ownA rBool 4 (.slice a12 n7 c12) x5, R, ownA rSeat 37 (.slice a7 n2 c7) y4.1] ∧ loopM bd1 m (x5, x6) = some o1) NN ⟨_, _, u9, _, _, _, 0, env_has ⟨rfl, rfl, rfl, rfl, trivial⟩, Im.refl, hS14.sel [0, 2, 4] rfl, ho1⟩ ?_)
            rintro m _ w15 ⟨J, T9, x5, a12, n7, c12, x6, rfl, im15, hS15, ho1⟩
            obtain ⟨m1, z1, rfl, hm, hn1⟩ := loop_round ho1
            rw [hbd1] at hm
            refine sq2 ?_
            refine sq2 ?_
            refine rg (pv (r_mi rfl) (pv (r_ms rfl) (pv (r_lnV rfl (hS15.own (i := 2) ⟨rfl, rfl⟩).v Try.underlying32) (pv (r_ib rfl rfl rfl) (nil (t_then ?_))))))
            refine cnd rfl (fun hb20 => ?_) (fun hb20 => ?_)
            · have hm := ctrue hb20 hm
              refine skp (t_then ?_)
              obtain ⟨kk2, hkk2, hm⟩ := jn_open hm
              refine cut (fun a w16 => ∃ (J : Nat → Value) (T10 : Nat → Prop) (x7 : List Bool) (a13 : Option Addr) (n8 : Nat) (c13 : Nat), a = env (nf 111) J [(9, .slice a7 n2 c7), (10, .int .i64 y4.2.1), (12, .slice a13 n8 c13), (13, .int .i64 x6)] ∧ Im T9 w15 T10 w16 ∧ Sep g T10 w16 [ownA rBool 4 (.slice a13 n8 c13) x7, R, ownA rSeat 37 (.slice a7 n2 c7) y4.1] ∧ kk2 x7 = some z1) ?_ ?_
              · refine blk ?_
                refine sq2 ?_
                obtain ⟨u10, hx15, hm⟩ := bindS hm
                obtain ⟨b9, of7, cs7, k7, cp7, hv7, hp7, hl7, he7, hr7, hc7⟩ := (hS15.own (i := 2) ⟨rfl, rfl⟩).v.ixq hx15 rfl
                cases rSeat_open hr7
                refine rg (pv (r_ms rfl) (pv (r_mi rfl) (pv (r_ixe hv7 rfl Try.underlying32 Try.sizeOf37 hp7 hl7 he7) (pv (r_fa rfl Try.underlying37 rfl Try.sizeOf3 rfl) (pv (r_ld rfl Try.isAgg3 (hc7.get (j := 1) rfl)) (pv (r_zi rfl) (nil (t_thenR [(9, .slice a7 n2 c7), (10, .int .i64 y4.2.1), (12, .slice a12 n7 c12), (13, .int .i64 x6), (14, .int .i64 u10.Slot)] ⟨rfl, rfl, rfl, rfl, rfl, trivial⟩ fun J => ?_))))))))
                refine sq2 ?_
                refine sq2 ?_
                refine rg (pv (r_mi rfl) (pv (r_ib rfl rfl rfl) (nil (t_then ?_))))
                refine cnd rfl (fun hb21 => ?_) (fun hb21 => ?_)
                · have hm := ctrue hb21 hm
                  exact xt (x_then (x_eq (t_then ⟨_, _, x5, _, _, _, env_has ⟨rfl, rfl, rfl, rfl, trivial⟩, Im.refl, hS15.sel [0, 1, 2] rfl, hm⟩)))
                · have hm := cfalse hb21 hm
                  refine skp (t_then ?_)
                  refine sq2 ?_
                  refine sq2 ?_
                  refine rg (pv (r_mi rfl) (pv (r_ib rfl rfl rfl) (pv (r_mb rfl) (?_))))
                  rcases Bool.eq_false_or_eq_true (decide (u10.Slot < 0)) with hb22 | hb22
                  · have hm := ctrue hb22 hm
                    refine gF (d0 := 77) rfl rfl (by rw [hb22]; rfl) (gF (d0 := 77) rfl rfl (by rw [hb22]; rfl) (gF (d0 := 77) rfl rfl (by rw [hb22]; rfl) (pv (r_pkt rfl hb22 rfl) (pv (r_mb rfl) (gF (d0 := 82) rfl rfl rfl (gF (d0 := 82) rfl rfl rfl (gF (d0 := 82) rfl rfl rfl (gF (d0 := 82) rfl rfl rfl (pv (r_pkt rfl rfl rfl) (pv (r_mb rfl) (gF (d0 := 88) rfl rfl rfl (gF (d0 := 88) rfl rfl rfl (gF (d0 := 88) rfl rfl rfl (gF (d0 := 88) rfl rfl rfl (gF (d0 := 88) rfl rfl rfl (gF (d0 := 88) rfl rfl rfl (pv (r_pkt rfl rfl rfl) (nil (t_thenR [(9, .slice a7 n2 c7), (10, .int .i64 y4.2.1), (12, .slice a12 n7 c12), (13, .int .i64 x6), (14, .int .i64 u10.Slot), (95, .bool true)] ⟨rfl, rfl, rfl, rfl, rfl, rfl, trivial⟩ fun J => ?_)))))))))))))))))))
                    refine cnd (b := true) rfl (fun _ => ?_) (fun h => nomatch h)
                    refine sq2 ?_
                    refine rg (pv (r_zb rfl) (nil (t_thenR [(4, .bool false)] ⟨rfl, trivial⟩ fun J => ?_)))
                    have hm := Option.some.inj hm
                    subst hm
                    have hn1 : _ = Lp.ret _ := hn1
                    subst hn1
                    have hm := thn_ret hq1
                    have hm := Option.some.inj hm
                    subst hm
                    exact rtn (r_then (r_blk (r_then (r_then (r_blk (r_then (ret1 rfl rfl ⟨_, rfl, _, (Im.trans im1 (Im.trans im2 (Im.trans im4 (Im.trans im5 (Im.trans im6 (Im.trans im7 (Im.trans im14 im15))))))), ⟨rfl, hS15.sel [1] rfl, trivial⟩⟩)))))))
                  · have hm := cfalse hb22 hm
                    refine gT (d0 := 77) rfl rfl hb22 (pv (r_mi rfl) (gT (d0 := 77) rfl rfl hb22 (pv (r_mi rfl) (gT (d0 := 77) rfl rfl hb22 (pv (r_ib rfl rfl rfl) (pv (r_pkf rfl hb22 rfl) (pv (r_mb rfl) (?_))))))))
                    rcases Bool.eq_false_or_eq_true (decide (y4.2.1 ≤ u10.Slot)) with hb23 | hb23
                    · have hm := ctrue hb23 hm
                      refine gF (d0 := 82) rfl rfl (by rw [hb23]; rfl) (gF (d0 := 82) rfl rfl (by rw [hb23]; rfl) (gF (d0 := 82) rfl rfl (by rw [hb23]; rfl) (gF (d0 := 82) rfl rfl (by rw [hb23]; rfl) (pv (r_pkt rfl hb23 rfl) (pv (r_mb rfl) (gF (d0 := 88) rfl rfl rfl (gF (d0 := 88) rfl rfl rfl (gF (d0 := 88) rfl rfl rfl (gF (d0 := 88) rfl rfl rfl (gF (d0 := 88) rfl rfl rfl (gF (d0 := 88) rfl rfl rfl (pv (r_pkt rfl rfl rfl) (nil (t_thenR [(9, .slice a7 n2 c7), (10, .int .i64 y4.2.1), (12, .slice a12 n7 c12), (13, .int .i64 x6), (14, .int .i64 u10.Slot), (95, .bool true)] ⟨rfl, rfl, rfl, rfl, rfl, rfl, trivial⟩ fun J => ?_))))))))))))))
                      refine cnd (b := true) rfl (fun _ => ?_) (fun h => nomatch h)
                      refine sq2 ?_
                      refine rg (pv (r_zb rfl) (nil (t_thenR [(4, .bool false)] ⟨rfl, trivial⟩ fun J => ?_)))
                      have hm := Option.some.inj hm
                      subst hm
                      have hn1 : _ = Lp.ret _ := hn1
                      subst hn1
                      have hm := thn_ret hq1
                      have hm := Option.some.inj hm
                      subst hm
                      exact rtn (r_then (r_blk (r_then (r_then (r_blk (r_then (ret1 rfl rfl ⟨_, rfl, _, (Im.trans im1 (Im.trans im2 (Im.trans im4 (Im.trans im5 (Im.trans im6 (Im.trans im7 (Im.trans im14 im15))))))), ⟨rfl, hS15.sel [1] rfl, trivial⟩⟩)))))))
                    · have hm := cfalse hb23 hm
                      obtain ⟨u11, hx16, hm⟩ := bindS hm
                      obtain ⟨b10, of8, cs8, k8, cp8, hv8, hp8, hl8, he8, hr8, hc8⟩ := (hS15.own (i := 0) ⟨rfl, rfl⟩).v.ixq hx16 rfl
                      cases hr8
                      refine gT (d0 := 82) rfl rfl hb23 (pv (r_ms rfl) (gT (d0 := 82) rfl rfl hb23 (pv (r_mi rfl) (gT (d0 := 82) rfl rfl hb23 (pv (r_ixe hv8 rfl Try.underlying50 Try.sizeOf4 hp8 hl8 he8) (gT (d0 := 82) rfl rfl hb23 (pv (r_ld rfl Try.isAgg4 (hc8.get (j := 0) rfl)) (pv (r_pkf rfl hb23 rfl) (pv (r_mb rfl) (?_))))))))))
                      rcases Bool.eq_false_or_eq_true u11 with hb24 | hb24
                      · have hm := ctrue hb24 hm
                        refine gF (d0 := 88) rfl rfl (by rw [hb24]; rfl) (gF (d0 := 88) rfl rfl (by rw [hb24]; rfl) (gF (d0 := 88) rfl rfl (by rw [hb24]; rfl) (gF (d0 := 88) rfl rfl (by rw [hb24]; rfl) (gF (d0 := 88) rfl rfl (by rw [hb24]; rfl) (gF (d0 := 88) rfl rfl (by rw [hb24]; rfl) (pv (r_pkt rfl hb24 rfl) (nil (t_thenR [(9, .slice a7 n2 c7), (10, .int .i64 y4.2.1), (12, .slice a12 n7 c12), (13, .int .i64 x6), (14, .int .i64 u10.Slot), (95, .bool true)] ⟨rfl, rfl, rfl, rfl, rfl, rfl, trivial⟩ fun J => ?_))))))))
                        refine cnd (b := true) rfl (fun _ => ?_) (fun h => nomatch h)
                        refine sq2 ?_
                        refine rg (pv (r_zb rfl) (nil (t_thenR [(4, .bool false)] ⟨rfl, trivial⟩ fun J => ?_)))
                        have hm := Option.some.inj hm
                        subst hm
                        have hn1 : _ = Lp.ret _ := hn1
                        subst hn1
                        have hm := thn_ret hq1
                        have hm := Option.some.inj hm
                        subst hm
                        exact rtn (r_then (r_blk (r_then (r_then (r_blk (r_then (ret1 rfl rfl ⟨_, rfl, _, (Im.trans im1 (Im.trans im2 (Im.trans im4 (Im.trans im5 (Im.trans im6 (Im.trans im7 (Im.trans im14 im15))))))), ⟨rfl, hS15.sel [1] rfl, trivial⟩⟩)))))))
                      · have hm := cfalse hb24 hm
                        obtain ⟨u12, hx17, hm⟩ := bindS hm
                        obtain ⟨b11, of9, cs9, k9, cp9, hv9, hp9, hl9, he9, hr9, hc9⟩ := (hS15.own (i := 2) ⟨rfl, rfl⟩).v.ixq hx17 rfl
                        cases rSeat_open hr9
                        refine gT (d0 := 88) rfl rfl hb24 (pv (r_ms rfl) (gT (d0 := 88) rfl rfl hb24 (pv (r_mi rfl) (gT (d0 := 88) rfl rfl hb24 (pv (r_ixe hv9 rfl Try.underlying32 Try.sizeOf37 hp9 hl9 he9) (gT (d0 := 88) rfl rfl hb24 (pv (r_fa rfl Try.underlying37 rfl Try.sizeOf3 rfl) (gT (d0 := 88) rfl rfl hb24 (pv (r_ld rfl Try.isAgg3 (hc9.get (j := 0) rfl)) (gT (d0 := 88) rfl rfl hb24 (pv (r_ib rfl rfl rfl) (pv (r_pkf rfl hb24 rfl) (nil (t_thenR [(9, .slice a7 n2 c7), (10, .int .i64 y4.2.1), (12, .slice a12 n7 c12), (13, .int .i64 x6), (14, .int .i64 u10.Slot), (95, .bool (u12.Reg != 0))] ⟨rfl, rfl, rfl, rfl, rfl, rfl, trivial⟩ fun J => ?_))))))))))))))
                        refine cnd rfl (fun hb25 => ?_) (fun hb25 => ?_)
                        · have hm := ctrue hb25 hm
                          refine sq2 ?_
                          refine rg (pv (r_zb rfl) (nil (t_thenR [(4, .bool false)] ⟨rfl, trivial⟩ fun J => ?_)))
                          have hm := Option.some.inj hm
                          subst hm
                          have hn1 : _ = Lp.ret _ := hn1
                          subst hn1
                          have hm := thn_ret hq1
                          have hm := Option.some.inj hm
                          subst hm
                          exact rtn (r_then (r_blk (r_then (r_then (r_blk (r_then (ret1 rfl rfl ⟨_, rfl, _, (Im.trans im1 (Im.trans im2 (Im.trans im4 (Im.trans im5 (Im.trans im6 (Im.trans im7 (Im.trans im14 im15))))))), ⟨rfl, hS15.sel [1] rfl, trivial⟩⟩)))))))
                        · have hm := cfalse hb25 hm
                          refine skp (t_then ?_)
                          obtain ⟨u13, hx18, hm⟩ := bindS hm
                          obtain ⟨b12, of10, cs10, k10, cp10, hv10, hp10, hl10, he10, hr10, hc10⟩ := (hS15.own (i := 0) ⟨rfl, rfl⟩).v.ixq hx18 rfl
                          cases hr10
                          obtain ⟨u14, hx19, hm⟩ := bindS hm
                          refine rg (pv (r_ms rfl) (pv (r_mi rfl) (pv (r_ixe hv10 rfl Try.underlying50 Try.sizeOf4 hp10 hl10 he10) (wl rfl (stO (q := 0) (i := Int.toNat u10.Slot) (j := 0) (u := u14) (u' := true) hS15 ⟨rfl, rfl⟩ hv10 (idx_some hx19).2.2 he10 rfl rfl rfl Try.sizeOf4 rfl rfl rfl (fun c0 hc0 => by rw [storeL_all (r := rBool) hc0 rfl]; exact rfl) fun w17 im17 hS16 => ?_)))))
                          have hS16 : Sep g T9 w17 [ownA rBool 4 (.slice a12 n7 c12) (List.set x5 (Int.toNat u10.Slot) true), R, ownA rSeat 37 (.slice a7 n2 c7) y4.1] := hS16
                          exact nil (t_blk (t_then ⟨_, _, (List.set x5 (Int.toNat u10.Slot) true), _, _, _, env_has ⟨rfl, rfl, rfl, rfl, trivial⟩, im17, hS16.sel [0, 1, 2] rfl, hm⟩))
              · rintro _ w16 ⟨J, T10, x7, a13, n8, c13, rfl, im16, hS17, hm⟩
                rw [hkk2] at hm
                have hm := Option.some.inj hm
                subst hm
                exact rg (pv (r_mi rfl) (pv (r_ib rfl rfl rfl) (pv (r_zi rfl) (nil (t_then ⟨m1, Nat.lt_succ_self _, _, _, x7, _, _, _, (IntKind.wrap .i64 (x6 + 1)), env_has ⟨rfl, rfl, rfl, rfl, trivial⟩, (Im.trans im15 im16), hS17.sel [0, 1, 2] rfl, hn1⟩)))))
            · have hm := cfalse hb20 hm
              have hm := Option.some.inj hm
              subst hm
              have hn1 : _ = Lp.brk _ := hn1
              subst hn1
              have hm := thn_brk hq1
              refine xt (x_then (x_then (x_eq (t_thenR [(12, .slice a12 n7 c12)] ⟨rfl, trivial⟩ fun J => ?_))))
              refine sq2 ?_
              refine sq2 ?_
              refine rg (pv (r_zi rfl) (nil (t_then ?_)))
              obtain ⟨o1, ho1, hq1⟩ := bindS hm
              obtain ⟨bd1, hbd1, ho1⟩ := loop_open ho1
              refine blk (wp_loop_ghost (fun m a w18 => ∃ (J : Nat → Value) (T11 : Nat → Prop) (x8 : Int), a = env (nf 111) J [(12, .slice a12 n7 c12), (15, .int .i64 x8)] ∧ Im T9 w15 T11 w18 ∧ Sep g T11 w18 [ownA rBool 4 (.slice a12 n7 c12) x5, R] ∧ loopM bd1 m x8 = some o1) NN ⟨_, _, 0, env_has ⟨rfl, rfl, trivial⟩, Im.refl, hS15.sel [0, 1] rfl, ho1⟩ ?_)
              rintro m _ w18 ⟨J, T11, x8, rfl, im18, hS18, ho1⟩
              obtain ⟨m1, z1, rfl, hm, hn1⟩ := loop_round ho1
              rw [hbd1] at hm
              refine sq2 ?_
              refine sq2 ?_
              refine rg (pv (r_mi rfl) (pv (r_ms rfl) (pv (r_lnV rfl (hS18.own (i := 0) ⟨rfl, rfl⟩).v Try.underlying50) (pv (r_ib rfl rfl rfl) (nil (t_then ?_))))))
              refine cnd rfl (fun hb29 => ?_) (fun hb29 => ?_)
              · have hm := ctrue hb29 hm
                refine skp (t_then ?_)
                refine sq2 ?_
                refine blk ?_
                refine sq2 ?_
                obtain ⟨u15, hx20, hm⟩ := bindS hm
                obtain ⟨b13, of11, cs11, k11, cp11, hv11, hp11, hl11, he11, hr11, hc11⟩ := (hS18.own (i := 0) ⟨rfl, rfl⟩).v.ixq hx20 rfl
                cases hr11
                refine rg (pv (r_ms rfl) (pv (r_mi rfl) (pv (r_ixe hv11 rfl Try.underlying50 Try.sizeOf4 hp11 hl11 he11) (pv (r_ld rfl Try.isAgg4 (hc11.get (j := 0) rfl)) (pv (r_nt rfl) (nil (t_thenR [(12, .slice a12 n7 c12), (15, .int .i64 x8), (109, .bool (!u15))] ⟨rfl, rfl, rfl, trivial⟩ fun J => ?_)))))))
                refine cnd rfl (fun hb30 => ?_) (fun hb30 => ?_)
                · have hm := ctrue hb30 hm
                  refine sq2 ?_
                  refine rg (pv (r_zb rfl) (nil (t_then ?_)))
                  have hm := Option.some.inj hm
                  subst hm
                  have hn1 : _ = Lp.ret _ := hn1
                  subst hn1
                  have hm := thn_ret hq1
                  have hm := Option.some.inj hm
                  subst hm
                  exact rtn (r_blk (r_then (r_then (r_blk (r_then (ret1 rfl rfl ⟨_, rfl, _, (Im.trans im1 (Im.trans im2 (Im.trans im4 (Im.trans im5 (Im.trans im6 (Im.trans im7 (Im.trans im14 (Im.trans im15 im18)))))))), ⟨rfl, hS18.sel [1] rfl, trivial⟩⟩))))))
                · have hm := cfalse hb30 hm
                  refine skp (t_blk (t_then ?_))
                  have hm := Option.some.inj hm
                  subst hm
                  exact rg (pv (r_mi rfl) (pv (r_ib rfl rfl rfl) (pv (r_zi rfl) (nil (t_then ⟨m1, Nat.lt_succ_self _, _, _, (IntKind.wrap .i64 (x8 + 1)), env_has ⟨rfl, rfl, trivial⟩, im18, hS18.sel [0, 1] rfl, hn1⟩)))))
              · have hm := cfalse hb29 hm
                have hm := Option.some.inj hm
                subst hm
                have hn1 : _ = Lp.brk _ := hn1
                subst hn1
                have hm := thn_brk hq1
                refine xt (x_then (x_then (x_eq (t_thenR [] trivial fun J => ?_))))
                refine sq2 ?_
                obtain ⟨y6, hx21, hm⟩ := bindS hm
                refine rg (wl rfl (calS cf7 rfl (law24_awake_sim  (hS18.bun [1] [] rfl)  hx21) rfl fun v6 T12 w19 im19 rv6 => ?_))
                obtain ⟨rfl, hS19, _⟩ := rv6
                have hS19 : Sep g T12 w19 [R] := hS19.unb
                refine pv (r_zb rfl) (nil (t_then ?_))
                have hm := Option.some.inj hm
                subst hm
                exact rtn (ret1 rfl rfl ⟨_, rfl, _, (Im.trans im1 (Im.trans im2 (Im.trans im4 (Im.trans im5 (Im.trans im6 (Im.trans im7 (Im.trans im14 (Im.trans im15 (Im.trans im18 im19))))))))), ⟨rfl, hS19.sel [0] rfl, trivial⟩⟩)
end Go.Proofs.Yteoihjfnojgnnaa
