/- That Go functions compute their models. Printed by gen2.py. -/
import Derived.Test.YteoihjfnojgnnaaWb
set_option linter.unusedVariables false
namespace Go.Proofs.Yteoihjfnojgnnaa
attribute [local irreducible] wpList wpQuiet Code.wp

set_option maxRecDepth 100000 in
set_option maxHeartbeats 1000000 in
theorem cmp_Or_sim {g : World} {T0 : Nat → Prop} {w0 : World} {R : Assn} {p0 : List Int} {a1 : Option Addr} {c1 : Nat} {r : Int} (hS : Sep g T0 w0 [R]) (h1 : SlR (rInt .i64) T0 w0 (.slice a1 (List.length p0) c1) p0) (hm : cmp_Or p0 = some r) :
    Calls Try.prog 21 #[.slice a1 (List.length p0) c1] w0 (RetS T0 w0 fun T w v => v = .int .i64 r ∧ Sep g T w [R] ∧ True) := by
  refine enter (args := [.slice a1 (List.length p0) c1]) Try.func21 rfl Try.ntmps21 rfl fun J => ?_
  unfold cmp_Or at hm
  refine sq2 (rg (pv (r_zi rfl) (nil (t_then ?_))))
  refine sq2 (rg (pv (r_zi rfl) (nil (t_then ?_))))
  refine sq2 (sq2 (rg (pv (r_ms rfl) (pv (r_ln rfl Try.underlying44) (pv (r_mi rfl) (nil (t_then ?_)))))))
  obtain ⟨o1, ho1, hq1⟩ := bindS hm
  obtain ⟨bd1, hbd1, ho1⟩ := loop_open ho1
  refine blk (wp_loop_ghost (fun m a w1 => ∃ (J : Nat → Value) (T1 : Nat → Prop) (x1 : Int), a = env (nf 18) J [(3, .int .i64 0), (6, .slice a1 (List.length p0) c1), (7, .int .i64 (List.length p0 : Int)), (8, .int .i64 x1)] ∧ Im T0 w0 T1 w1 ∧ Sep g T1 w1 [R] ∧ loopM bd1 m x1 = some o1) NN ⟨_, _, 0, env_has ⟨rfl, rfl, rfl, rfl, trivial⟩, Im.refl, hS.sel [0] rfl, ho1⟩ ?_)
  rintro m _ w1 ⟨J, T1, x1, rfl, im1, hS1, ho1⟩
  obtain ⟨m1, z1, rfl, hm, hn1⟩ := loop_round ho1
  rw [hbd1] at hm
  refine sq2 (rg (pv (r_ib rfl rfl rfl) (nil (t_then ?_))))
  refine sq2 (cnd rfl (fun hb1 => ?_) (fun hb1 => ?_))
  · have hm := ctrue hb1 hm
    refine skp (t_then ?_)
    refine sq2 (blk (sq2 ?_))
    obtain ⟨u1, hx1, hm⟩ := bindS hm
    obtain ⟨b1, of1, cs1, k1, cp1, hv1, hp1, hl1, he1, hr1, hc1, hT1⟩ := (h1.mono im1).ixT hx1 rfl
    cases hr1
    refine rg (pv (r_ixe hv1 rfl Try.underlying44 Try.sizeOf3 hp1 hl1 he1) (pv (r_ld rfl Try.isAgg3 (hc1.get (j := 0) rfl)) (pv (r_zi rfl) (nil (t_then ?_)))))
    refine sq2 (rg (pv (r_mi rfl) (pv (r_mi rfl) (pv (r_ib rfl rfl rfl) (nil (t_then ?_))))))
    refine cnd rfl (fun hb2 => ?_) (fun hb2 => ?_)
    · have hm := ctrue hb2 hm
      refine sq2 (rg (pv (r_mi rfl) (pv (r_zi rfl) (nil (t_then ?_)))))
      have hm := oI hm; subst hm
      have hn1 : _ = Lp.ret _ := hn1
      subst hn1
      have hm := thn_ret hq1
      have hm := oI hm; subst hm
      exact rtn (r_blk (r_then (r_then (r_blk (r_then (ret1 rfl rfl ⟨_, rfl, _, im1, ⟨rfl, hS1.sel [0] rfl, trivial⟩⟩))))))
    have hm := cfalse hb2 hm
    refine skp (t_blk (t_then ?_))
    have hm := oI hm; subst hm
    exact rg (pv (r_ib rfl rfl rfl) (pv (r_mi rfl) (nil (t_then ⟨m1, Nat.lt_succ_self _, _, _, (IntKind.wrap .i64 (x1 + 1)), env_has ⟨rfl, rfl, rfl, rfl, trivial⟩, im1, hS1.sel [0] rfl, hn1⟩))))
  have hm := cfalse hb1 hm
  have hm := oI hm; subst hm
  have hn1 : _ = Lp.brk _ := hn1
  subst hn1
  have hm := thn_brk hq1
  refine xt (x_then (x_then (x_eq (t_then ?_))))
  refine sq2 (rg (pv (r_mi rfl) (pv (r_zi rfl) (nil (t_then ?_)))))
  have hm := oI hm; subst hm
  exact rtn (ret1 rfl rfl ⟨_, rfl, _, im1, ⟨rfl, hS1.sel [0] rfl, trivial⟩⟩)

set_option maxRecDepth 100000 in
set_option maxHeartbeats 1000000 in
theorem alloc_Assign_2_sim {g : World} {T0 : Nat → Prop} {w0 : World} {R : Assn} {p0 : AllocReach} {p1 : AllocReach} {r : Int} (hS : Sep g T0 w0 [R])  (hm : alloc_Assign_2 p0 p1 = some r) :
    Calls Try.prog 20 #[.agg (cAllocReach p0).toArray, .agg (cAllocReach p1).toArray] w0 (RetS T0 w0 fun T w v => v = .int .i64 r ∧ Sep g T w [R] ∧ True) := by
  refine enter (args := [.agg (cAllocReach p0).toArray, .agg (cAllocReach p1).toArray]) Try.func20 rfl Try.ntmps20 rfl fun J => ?_
  unfold alloc_Assign_2 at hm
  refine sq2 (rg (wl rfl (bxS (cs := (cAllocReach p0)) rfl rfl hS fun w1 b1 im1 hS1 => ?_)))
  refine wl rfl (bxS (cs := (cAllocReach p1)) rfl rfl hS1 fun w2 b2 im2 hS2 => ?_)
  refine pv (r_zi rfl) (nil (t_then ?_))
  refine sq2 (rs [0, 1, 0, 1, 2, 0, 1, 0, 1, 2, 0, 1, 0, 1, 2, 2, 2, 0] [0, 1, 2, 3, 5, 6, 7, 8, 10, 11, 12, 13, 4, 9, 14, 15, 16, 17] mix (by kernel_rfl) hS2.lt fun w3 i1 => ?_)
  have im3 := i1.imm
  have hS3 := hS2.keep i1 (fun _ h => h)
  obtain ⟨y1, hx1, hm⟩ := bindS hm
  refine s0 rfl trivial (fun _ => r_fa rfl Try.underlying60 rfl Try.sizeOf3 rfl) rfl (s1 rfl trivial (r_ld rfl Try.isAgg3 (hS3.cell0 (i := 1) ⟨rfl, rfl⟩ (j := 1) rfl)) rfl (s0 rfl trivial (fun _ => r_fa rfl Try.underlying60 rfl Try.sizeOf3 rfl) rfl (s1 rfl trivial (r_ld rfl Try.isAgg3 (hS3.cell0 (i := 0) ⟨rfl, rfl⟩ (j := 1) rfl)) rfl (s0 rfl trivial (fun _ => r_fa rfl Try.underlying60 rfl Try.sizeOf3 rfl) rfl (s1 rfl trivial (r_ld rfl Try.isAgg3 (hS3.cell0 (i := 1) ⟨rfl, rfl⟩ (j := 2) rfl)) rfl (s0 rfl trivial (fun _ => r_fa rfl Try.underlying60 rfl Try.sizeOf3 rfl) rfl (s1 rfl trivial (r_ld rfl Try.isAgg3 (hS3.cell0 (i := 0) ⟨rfl, rfl⟩ (j := 2) rfl)) rfl (s0 rfl trivial (fun _ => r_fa rfl Try.underlying60 rfl Try.sizeOf3 rfl) rfl (s1 rfl trivial (r_ld rfl Try.isAgg3 (hS3.cell0 (i := 1) ⟨rfl, rfl⟩ (j := 0) rfl)) rfl (s0 rfl trivial (fun _ => r_fa rfl Try.underlying60 rfl Try.sizeOf3 rfl) rfl (s1 rfl trivial (r_ld rfl Try.isAgg3 (hS3.cell0 (i := 0) ⟨rfl, rfl⟩ (j := 0) rfl)) rfl (s2 [(13, .int .i64 p1.r), (11, .int .i64 p0.r), (8, .int .i64 p1.to), (6, .int .i64 p0.to)] rfl trivial rfl (by kernel_rfl) (calS cf22 rfl (cmp_Compare_sim (p0 := p0.from_) (p1 := p1.from_) (hS3.bun [2, 0, 1] [] rfl)  hx1) rfl fun v1 T1 w4 im4 rv1 => ?_)))))))))))))
  obtain ⟨rfl, hS4, _⟩ := rv1
  have hS4 : Sep g T1 w4 [R, boxA b2 (cAllocReach p1), boxA b1 (cAllocReach p0)] := hS4.unb
  refine ⟨st1 rfl (r_ld rfl Try.isAgg3 (hS4.cell0 (i := 1) ⟨rfl, rfl⟩ (j := 0) rfl)) (st1 rfl (r_ld rfl Try.isAgg3 (hS4.cell0 (i := 2) ⟨rfl, rfl⟩ (j := 0) rfl)) (st1 rfl (r_ld rfl Try.isAgg3 (hS4.cell0 (i := 1) ⟨rfl, rfl⟩ (j := 2) rfl)) (st1 rfl (r_ld rfl Try.isAgg3 (hS4.cell0 (i := 2) ⟨rfl, rfl⟩ (j := 2) rfl)) (st0)))), ?_⟩
  obtain ⟨y2, hx2, hm⟩ := bindS hm
  refine s2 [(13, .int .i64 p1.r), (11, .int .i64 p0.r)] rfl trivial rfl (by kernel_rfl) (calS cf22 rfl (cmp_Compare_sim (p0 := p0.to) (p1 := p1.to) (hS4.bun [0, 1, 2] [] rfl)  hx2) rfl fun v2 T2 w5 im5 rv2 => ?_)
  obtain ⟨rfl, hS5, _⟩ := rv2
  have hS5 : Sep g T2 w5 [R, boxA b2 (cAllocReach p1), boxA b1 (cAllocReach p0)] := hS5.unb
  refine ⟨st1 rfl (r_ld rfl Try.isAgg3 (hS5.cell0 (i := 1) ⟨rfl, rfl⟩ (j := 0) rfl)) (st1 rfl (r_ld rfl Try.isAgg3 (hS5.cell0 (i := 2) ⟨rfl, rfl⟩ (j := 0) rfl)) (st0)), ?_⟩
  obtain ⟨y3, hx3, hm⟩ := bindS hm
  refine s2 [] rfl trivial rfl (by kernel_rfl) (calS cf22 rfl (cmp_Compare_sim (p0 := p0.r) (p1 := p1.r) (hS5.bun [0, 1, 2] [] rfl)  hx3) rfl fun v3 T3 w6 im6 rv3 => ?_)
  obtain ⟨rfl, hS6, _⟩ := rv3
  have hS6 : Sep g T3 w6 [R, boxA b2 (cAllocReach p1), boxA b1 (cAllocReach p0)] := hS6.unb
  refine ⟨st0, ?_⟩
  refine s2 [] rfl trivial rfl (by kernel_rfl) (bsS (r := (rInt .i64)) (l := ([y1, y2, y3] : List Int)) (css := [[.int .i64 y1], [.int .i64 y2], [.int .i64 y3]]) hS6 Try.underlying44 Try.sizeOf3 Try.zeroValue3 rfl rfl (by kernel_rfl) rfl ⟨rfl, rfl, rfl, trivial⟩ rfl rfl fun w7 a1 n1 c1 im7 hS7 => ?_)
  refine ⟨st0, ?_⟩
  obtain ⟨T4, im8, hS8, h1⟩ := hS7.seal 0 ⟨rfl, rfl⟩
  have hsh := h1.len
  subst hsh
  have hS8 : Sep g T4 w7 [empA, R, boxA b2 (cAllocReach p1), boxA b1 (cAllocReach p0)] := hS8
  obtain ⟨y4, hx4, hm⟩ := bindS hm
  refine s2 [] rfl trivial rfl (by kernel_rfl) (calS cf21 rfl (cmp_Or_sim (p0 := ([y1, y2, y3] : List Int)) (hS8.bun [1] [] rfl) h1 hx4) rfl fun v4 T5 w8 im9 rv4 => ?_)
  obtain ⟨rfl, hS9, _⟩ := rv4
  have hS9 : Sep g T5 w8 [R] := hS9.unb
  refine ⟨st0, ?_⟩
  refine s0 rfl trivial (fun _ => r_zi rfl) rfl (se (t_then ?_))
  have hm := oI hm; subst hm
  exact rtn (ret1 rfl rfl ⟨_, rfl, _, (iT im1 (iT im2 (iT im3 (iT im4 (iT im5 (iT im6 (iT im7 (iT im8 im9)))))))), ⟨rfl, hS9.sel [0] rfl, trivial⟩⟩)

set_option maxRecDepth 100000 in
set_option maxHeartbeats 1000000 in
theorem slices_insertionSortCmpFunc_sim {g : World} {T0 : Nat → Prop} {w0 : World} {R : Assn} {p0 : List AllocReach} {a1 : Option Addr} {n1 : Nat} {c1 : Nat} {p1 : Int} {p2 : Int} {r : (List AllocReach)} (hS : Sep g T0 w0 [R, ownA rAllocReach 60 (.slice a1 n1 c1) p0])  (hm : slices_insertionSortCmpFunc p0 p1 p2 = some r) :
    Calls Try.prog 53 #[.slice a1 n1 c1, .int .i64 p1, .int .i64 p2, .func (.func 20) #[] #[]] w0 (RetS T0 w0 fun T w v => v = .tuple #[] ∧ Sep g T w [R, ownA rAllocReach 60 (.slice a1 n1 c1) r] ∧ True) := by
  refine enter (args := [.slice a1 n1 c1, .int .i64 p1, .int .i64 p2, .func (.func 20) #[] #[]]) Try.func53 rfl Try.ntmps53 rfl fun J => ?_
  unfold slices_insertionSortCmpFunc at hm
  refine sq2 (rg (pv (r_mi rfl) (pv (r_ib rfl rfl rfl) (pv (r_zi rfl) (nil (t_then ?_))))))
  obtain ⟨o1, ho1, hq1⟩ := bindS hm
  obtain ⟨bd1, hbd1, ho1⟩ := loop_open ho1
  refine blk (wp_loop_ghost (fun m a w1 => ∃ (J : Nat → Value) (T1 : Nat → Prop) (x1 : List AllocReach) (x2 : Int), a = env (nf 53) J [(0, .slice a1 n1 c1), (1, .int .i64 p1), (2, .int .i64 p2), (3, .func (.func 20) #[] #[]), (8, .int .i64 x2)] ∧ Im T0 w0 T1 w1 ∧ Sep g T1 w1 [R, ownA rAllocReach 60 (.slice a1 n1 c1) x1] ∧ loopM bd1 m (x1, x2) = some o1) NN ⟨_, _, p0, (IntKind.wrap .i64 (p1 + 1)), env_has ⟨rfl, rfl, rfl, rfl, rfl, trivial⟩, Im.refl, hS.sel [0, 1] rfl, ho1⟩ ?_)
  rintro m _ w1 ⟨J, T1, x1, x2, rfl, im1, hS1, ho1⟩
  obtain ⟨m1, z1, rfl, hm, hn1⟩ := loop_round ho1
  rw [hbd1] at hm
  refine sq2 (sq2 (rg (pv (r_mi rfl) (pv (r_mi rfl) (pv (r_ib rfl rfl rfl) (nil (t_then ?_)))))))
  refine cnd rfl (fun hb1 => ?_) (fun hb1 => ?_)
  · have hm := ctrue hb1 hm
    refine skp (t_then ?_)
    refine sq2 (blk (sq2 (rg (pv (r_mi rfl) (pv (r_zi rfl) (nil (t_then ?_)))))))
    obtain ⟨o2, ho2, hq2⟩ := bindS hm
    obtain ⟨bd2, hbd2, ho2⟩ := loop_open ho2
    refine blk (wp_loop_ghost (fun m a w2 => ∃ (J : Nat → Value) (T2 : Nat → Prop) (x3 : List AllocReach) (x4 : Int), a = env (nf 53) J [(0, .slice a1 n1 c1), (1, .int .i64 p1), (2, .int .i64 p2), (3, .func (.func 20) #[] #[]), (8, .int .i64 x2), (9, .int .i64 x4)] ∧ Im T1 w1 T2 w2 ∧ Sep g T2 w2 [R, ownA rAllocReach 60 (.slice a1 n1 c1) x3] ∧ loopM bd2 m (x3, x4) = some o2) NN ⟨_, _, x1, x2, env_has ⟨rfl, rfl, rfl, rfl, rfl, rfl, trivial⟩, Im.refl, hS1.sel [0, 1] rfl, ho2⟩ ?_)
    rintro m _ w2 ⟨J, T2, x3, x4, rfl, im2, hS2, ho2⟩
    obtain ⟨m2, z2, rfl, hm, hn2⟩ := loop_round ho2
    rw [hbd2] at hm
    refine sq2 (sq2 (rs [0, 0, 0, 0, 0, 0, 0, 0, 1, 0, 0, 0, 0, 1, 2, 0, 0] [0, 1, 2, 3, 4, 5, 6, 7, 8, 9, 10, 11, 12, 13, 14, 15, 16] mix (by kernel_rfl) hS2.lt fun w3 i1 => ?_))
    have im3 := i1.imm
    have hS3 := hS2.keep i1 (fun _ h => h)
    refine s0 rfl trivial (fun _ => r_mi rfl) rfl (s0 rfl trivial (fun _ => r_mi rfl) rfl (s0 rfl trivial (fun _ => r_ib rfl rfl rfl) rfl (s0 rfl trivial (fun _ => r_mb rfl) rfl (?_))))
    rcases Bool.eq_false_or_eq_true (decide (p1 < x4)) with hb2 | hb2
    · have hm := ctrue hb2 hm
      obtain ⟨u1, hx1, hm⟩ := bindS hm
      obtain ⟨b1, of1, cs1, k1, cp1, hv1, hp1, hl1, he1, hr1, hc1⟩ := (hS3.own (i := 1) ⟨rfl, rfl⟩).v.ixq hx1 rfl
      cases rAllocReach_open hr1
      obtain ⟨u2, hx2, hm⟩ := bindS hm
      obtain ⟨b2, of2, cs2, k2, cp2, hv2, hp2, hl2, he2, hr2, hc2⟩ := (hS3.own (i := 1) ⟨rfl, rfl⟩).v.ixq hx2 rfl
      cases rAllocReach_open hr2
      obtain ⟨y1, hx3, hm⟩ := bindS hm
      refine s0 rfl ⟨_, rfl, congrArg Value.bool hb2⟩ (fun _ => r_mf rfl) rfl (s0 rfl ⟨_, rfl, congrArg Value.bool hb2⟩ (fun _ => r_ms rfl) rfl (s0 rfl ⟨_, rfl, congrArg Value.bool hb2⟩ (fun _ => r_mi rfl) rfl (s0 rfl ⟨_, rfl, congrArg Value.bool hb2⟩ (fun _ => r_ixe hv1 rfl Try.underlying56 Try.sizeOf60 hp1 hl1 he1) rfl (s1 rfl ⟨_, rfl, congrArg Value.bool hb2⟩ (r_ldS rfl Try.isAgg60 Try.sizeOf60 rfl hc1 (cs := (cAllocReach u1))) rfl (s0 rfl ⟨_, rfl, congrArg Value.bool hb2⟩ (fun _ => r_ms rfl) rfl (s0 rfl ⟨_, rfl, congrArg Value.bool hb2⟩ (fun _ => r_mi rfl) rfl (s0 rfl ⟨_, rfl, congrArg Value.bool hb2⟩ (fun _ => r_ib rfl rfl rfl) rfl (s0 rfl ⟨_, rfl, congrArg Value.bool hb2⟩ (fun _ => r_ixe hv2 rfl Try.underlying56 Try.sizeOf60 hp2 hl2 he2) rfl (s1 rfl ⟨_, rfl, congrArg Value.bool hb2⟩ (r_ldS rfl Try.isAgg60 Try.sizeOf60 rfl hc2 (cs := (cAllocReach u2))) rfl (s2 [] rfl ⟨_, rfl, congrArg Value.bool hb2⟩ rfl (by kernel_rfl) (calS cf20 rfl (alloc_Assign_2_sim (p0 := u1) (p1 := u2) (hS3.bun [0, 1] [] rfl)  hx3) rfl fun v1 T3 w4 im4 rv1 => ?_)))))))))))
      obtain ⟨rfl, hS4, _⟩ := rv1
      have hS4 : Sep g T3 w4 [R, ownA rAllocReach 60 (.slice a1 n1 c1) x3] := hS4.unb
      refine ⟨st0, ?_⟩
      refine s0 rfl ⟨_, rfl, congrArg Value.bool hb2⟩ (fun _ => r_ib rfl rfl rfl) rfl (s0 rfl trivial (fun _ => r_pkt rfl hb2 rfl) rfl (se (t_then ?_)))
      refine cnd rfl (fun hb3 => ?_) (fun hb3 => ?_)
      · have hm := ctrue hb3 hm
        refine skp (t_then ?_)
        refine sq2 (blk (rs [0, 0, 0, 0, 0, 0, 0, 0, 0, 1, 0, 0, 0, 1, 0, 2, 0, 2] [0, 1, 2, 3, 4, 5, 6, 7, 8, 9, 10, 11, 12, 13, 14, 15, 16, 17] mix (by kernel_rfl) hS4.lt fun w5 i2 => ?_))
        have im5 := i2.imm
        have hS5 := hS4.keep i2 (fun _ h => h)
        obtain ⟨u3, hx4, hm⟩ := bindS hm
        obtain ⟨b3, of3, cs3, k3, cp3, hv3, hp3, hl3, he3, hr3, hc3⟩ := (hS5.own (i := 1) ⟨rfl, rfl⟩).v.ixq hx4 rfl
        cases rAllocReach_open hr3
        obtain ⟨u4, hx5, hm⟩ := bindS hm
        obtain ⟨b4, of4, cs4, k4, cp4, hv4, hp4, hl4, he4, hr4, hc4⟩ := (hS5.own (i := 1) ⟨rfl, rfl⟩).v.ixq hx5 rfl
        cases rAllocReach_open hr4
        obtain ⟨u5, hx6, hm⟩ := bindS hm
        obtain ⟨b5, of5, cs5, k5, cp5, hv5, hp5, hl5, he5, hr5, hc5⟩ := (hS5.own (i := 1) ⟨rfl, rfl⟩).v.ixq hx6 rfl
        cases rAllocReach_open hr5
        obtain ⟨u6, hx7, hm⟩ := bindS hm
        refine s0 rfl trivial (fun _ => r_ms rfl) rfl (s0 rfl trivial (fun _ => r_mi rfl) rfl (s0 rfl trivial (fun _ => r_ms rfl) rfl (s0 rfl trivial (fun _ => r_mi rfl) rfl (s0 rfl trivial (fun _ => r_ib rfl rfl rfl) rfl (s0 rfl trivial (fun _ => r_ms rfl) rfl (s0 rfl trivial (fun _ => r_mi rfl) rfl (s0 rfl trivial (fun _ => r_ib rfl rfl rfl) rfl (s0 rfl trivial (fun _ => r_ixe hv3 rfl Try.underlying56 Try.sizeOf60 hp3 hl3 he3) rfl (s1 rfl trivial (r_ldS rfl Try.isAgg60 Try.sizeOf60 rfl hc3 (cs := (cAllocReach u3))) rfl (s0 rfl trivial (fun _ => r_ms rfl) rfl (s0 rfl trivial (fun _ => r_mi rfl) rfl (s0 rfl trivial (fun _ => r_ixe hv4 rfl Try.underlying56 Try.sizeOf60 hp4 hl4 he4) rfl (s1 rfl trivial (r_ldS rfl Try.isAgg60 Try.sizeOf60 rfl hc4 (cs := (cAllocReach u4))) rfl (s0 rfl trivial (fun _ => r_ixe hv5 rfl Try.underlying56 Try.sizeOf60 hp5 hl5 he5) rfl (s2 [] rfl trivial rfl (by kernel_rfl) (stO (q := 1) (i := Int.toNat x4) (j := 0) (u := u6) (u' := u3) hS5 ⟨rfl, rfl⟩ hv5 (idx_some hx7).2.2 he5 rfl rfl rfl Try.sizeOf60 rfl rfl rfl (fun c0 hc0 => by rw [storeL_all (r := rAllocReach) hc0 rfl]; exact (rAllocReach_mk (x := u3)  : rAllocReach.rp _ _ _ _)) fun w6 im6 hS6 => ?_))))))))))))))))
        have hS6 : Sep g T3 w6 [R, ownA rAllocReach 60 (.slice a1 n1 c1) (List.set x3 (Int.toNat x4) u3)] := hS6
        refine ⟨st0, ?_⟩
        obtain ⟨u7, hx8, hm⟩ := bindS hm
        obtain ⟨b6, of6, cs6, k6, cp6, hv6, hp6, hl6, he6, hr6, hc6⟩ := (hS6.own (i := 1) ⟨rfl, rfl⟩).v.ixq hx8 rfl
        cases rAllocReach_open hr6
        obtain ⟨u8, hx9, hm⟩ := bindS hm
        refine s0 rfl trivial (fun _ => r_ixe hv6 rfl Try.underlying56 Try.sizeOf60 hp6 hl6 he6) rfl (s2 [] rfl trivial rfl (by kernel_rfl) (stO (q := 1) (i := Int.toNat (IntKind.wrap .i64 (x4 - 1))) (j := 0) (u := u8) (u' := u4) hS6 ⟨rfl, rfl⟩ hv6 (idx_some hx9).2.2 he6 rfl rfl rfl Try.sizeOf60 rfl rfl rfl (fun c0 hc0 => by rw [storeL_all (r := rAllocReach) hc0 rfl]; exact (rAllocReach_mk (x := u4)  : rAllocReach.rp _ _ _ _)) fun w7 im7 hS7 => ?_))
        have hS7 : Sep g T3 w7 [R, ownA rAllocReach 60 (.slice a1 n1 c1) (List.set (List.set x3 (Int.toNat x4) u3) (Int.toNat (IntKind.wrap .i64 (x4 - 1))) u4)] := hS7
        refine ⟨st0, ?_⟩
        refine se (t_blk (t_thenR [(0, .slice a1 n1 c1), (1, .int .i64 p1), (2, .int .i64 p2), (3, .func (.func 20) #[] #[]), (8, .int .i64 x2), (9, .int .i64 x4)] ⟨rfl, rfl, rfl, rfl, rfl, rfl, trivial⟩ fun J => ?_))
        have hm := oI hm; subst hm
        exact rg (pv (r_mi rfl) (pv (r_ib rfl rfl rfl) (pv (r_zi rfl) (nil (t_then ⟨m2, Nat.lt_succ_self _, _, _, (List.set (List.set x3 (Int.toNat x4) u3) (Int.toNat (IntKind.wrap .i64 (x4 - 1))) u4), (IntKind.wrap .i64 (x4 - 1)), env_has ⟨rfl, rfl, rfl, rfl, rfl, rfl, trivial⟩, (iT im2 (iT im3 (iT im4 (iT im5 (iT im6 im7))))), hS7.sel [0, 1] rfl, hn2⟩)))))
      have hm := cfalse hb3 hm
      have hm := oI hm; subst hm
      have hn2 : _ = Lp.brk _ := hn2
      subst hn2
      have hm := thn_brk hq2
      refine xt (x_then (x_then (x_eq (t_blk (t_then ?_)))))
      have hm := oI hm; subst hm
      exact rg (pv (r_mi rfl) (pv (r_ib rfl rfl rfl) (pv (r_zi rfl) (nil (t_then ⟨m1, Nat.lt_succ_self _, _, _, x3, (IntKind.wrap .i64 (x2 + 1)), env_has ⟨rfl, rfl, rfl, rfl, rfl, trivial⟩, (iT im1 (iT im2 (iT im3 im4))), hS4.sel [0, 1] rfl, hn1⟩)))))
    have hm := cfalse hb2 hm
    refine sU rfl (gI rfl rfl hb2) (sU rfl (gI rfl rfl hb2) (sU rfl (gI rfl rfl hb2) (sU rfl (gI rfl rfl hb2) (sU rfl (gI rfl rfl hb2) (sU rfl (gI rfl rfl hb2) (sU rfl (gI rfl rfl hb2) (sU rfl (gI rfl rfl hb2) (sU rfl (gI rfl rfl hb2) (sU rfl (gI rfl rfl hb2) (sU rfl (gI rfl rfl hb2) (sU rfl (gI rfl rfl hb2) (s0 rfl trivial (fun _ => r_pkf rfl hb2 rfl) rfl (se (t_then ?_))))))))))))))
    refine cnd (b := false) rfl (fun h => nomatch h) (fun _ => ?_)
    have hm := oI hm; subst hm
    have hn2 : _ = Lp.brk _ := hn2
    subst hn2
    have hm := thn_brk hq2
    refine xt (x_then (x_then (x_eq (t_blk (t_then ?_)))))
    have hm := oI hm; subst hm
    exact rg (pv (r_mi rfl) (pv (r_ib rfl rfl rfl) (pv (r_zi rfl) (nil (t_then ⟨m1, Nat.lt_succ_self _, _, _, x3, (IntKind.wrap .i64 (x2 + 1)), env_has ⟨rfl, rfl, rfl, rfl, rfl, trivial⟩, (iT im1 (iT im2 im3)), hS3.sel [0, 1] rfl, hn1⟩)))))
  have hm := cfalse hb1 hm
  have hm := oI hm; subst hm
  have hn1 : _ = Lp.brk _ := hn1
  subst hn1
  have hm := thn_brk hq1
  have hm := oI hm; subst hm
  exact xt (x_then (x_then (x_eq (end0 rfl ⟨_, rfl, _, im1, ⟨rfl, hS1.sel [0, 1] rfl, trivial⟩⟩))))

set_option maxRecDepth 100000 in
set_option maxHeartbeats 1000000 in
theorem slices_siftDownCmpFunc_sim {g : World} {T0 : Nat → Prop} {w0 : World} {R : Assn} {p0 : List AllocReach} {a1 : Option Addr} {n1 : Nat} {c1 : Nat} {p1 : Int} {p2 : Int} {p3 : Int} {r : (List AllocReach)} (hS : Sep g T0 w0 [R, ownA rAllocReach 60 (.slice a1 n1 c1) p0])  (hm : slices_siftDownCmpFunc p0 p1 p2 p3 = some r) :
    Calls Try.prog 71 #[.slice a1 n1 c1, .int .i64 p1, .int .i64 p2, .int .i64 p3, .func (.func 20) #[] #[]] w0 (RetS T0 w0 fun T w v => v = .tuple #[] ∧ Sep g T w [R, ownA rAllocReach 60 (.slice a1 n1 c1) r] ∧ True) := by
  refine enter (args := [.slice a1 n1 c1, .int .i64 p1, .int .i64 p2, .int .i64 p3, .func (.func 20) #[] #[]]) Try.func71 rfl Try.ntmps71 rfl fun J => ?_
  unfold slices_siftDownCmpFunc at hm
  refine sq2 (rg (pv (r_mi rfl) (pv (r_zi rfl) (nil (t_then ?_)))))
  obtain ⟨o1, ho1, hq1⟩ := bindS hm
  obtain ⟨bd1, hbd1, ho1⟩ := loop_open ho1
  refine blk (wp_loop_ghost (fun m a w1 => ∃ (J : Nat → Value) (T1 : Nat → Prop) (x1 : List AllocReach) (x2 : Int), a = env (nf 82) J [(0, .slice a1 n1 c1), (2, .int .i64 p2), (3, .int .i64 p3), (4, .func (.func 20) #[] #[]), (10, .int .i64 x2)] ∧ Im T0 w0 T1 w1 ∧ Sep g T1 w1 [R, ownA rAllocReach 60 (.slice a1 n1 c1) x1] ∧ loopM bd1 m (x1, x2) = some o1) NN ⟨_, _, p0, p1, env_has ⟨rfl, rfl, rfl, rfl, rfl, trivial⟩, Im.refl, hS.sel [0, 1] rfl, ho1⟩ ?_)
  rintro m _ w1 ⟨J, T1, x1, x2, rfl, im1, hS1, ho1⟩
  obtain ⟨m1, z1, rfl, hm, hn1⟩ := loop_round ho1
  rw [hbd1] at hm
  refine blk (sq2 (rg (pv (r_mi rfl) (pv (r_ib rfl rfl rfl) (pv (r_ib rfl rfl rfl) (pv (r_zi rfl) (nil (t_then ?_))))))))
  refine sq2 (sq2 (rg (pv (r_mi rfl) (pv (r_mi rfl) (pv (r_ib rfl rfl rfl) (nil (t_then ?_)))))))
  refine cnd rfl (fun hb1 => ?_) (fun hb1 => ?_)
  · have hm := ctrue hb1 hm
    have hm := oI hm; subst hm
    have hn1 : _ = Lp.brk _ := hn1
    subst hn1
    have hm := thn_brk hq1
    have hm := oI hm; subst hm
    exact xt (x_then (x_ne (by decide) (x_then (x_eq (end0 rfl ⟨_, rfl, _, im1, ⟨rfl, hS1.sel [0, 1] rfl, trivial⟩⟩)))))
  have hm := cfalse hb1 hm
  refine skp (t_then ?_)
  obtain ⟨kk1, hkk1, hm⟩ := jn_open hm
  refine cut (fun a w2 => ∃ (J : Nat → Value) (T2 : Nat → Prop) (x3 : Int), a = env (nf 82) J [(0, .slice a1 n1 c1), (2, .int .i64 p2), (3, .int .i64 p3), (4, .func (.func 20) #[] #[]), (10, .int .i64 x2), (11, .int .i64 x3)] ∧ Im T1 w1 T2 w2 ∧ Sep g T2 w2 [R, ownA rAllocReach 60 (.slice a1 n1 c1) x1] ∧ kk1 x3 = some z1) ?_ ?_
  · refine sq2 (rs [0, 0, 0, 0, 0, 0, 0, 0, 0, 0, 0, 1, 0, 0, 0, 0, 0, 0, 1, 2, 0, 0] [0, 1, 2, 3, 4, 5, 6, 7, 8, 9, 10, 11, 12, 13, 14, 15, 16, 17, 18, 19, 20, 21] mix (by kernel_rfl) hS1.lt fun w3 i1 => ?_)
    have im3 := i1.imm
    have hS2 := hS1.keep i1 (fun _ h => h)
    refine s0 rfl trivial (fun _ => r_mi rfl) rfl (s0 rfl trivial (fun _ => r_ib rfl rfl rfl) rfl (s0 rfl trivial (fun _ => r_mi rfl) rfl (s0 rfl trivial (fun _ => r_ib rfl rfl rfl) rfl (s0 rfl trivial (fun _ => r_mb rfl) rfl (?_)))))
    rcases Bool.eq_false_or_eq_true (decide ((IntKind.wrap .i64 ((IntKind.wrap .i64 ((IntKind.wrap .i64 (2 * x2)) + 1)) + 1)) < p2)) with hb2 | hb2
    · have hm := ctrue hb2 hm
      obtain ⟨u1, hx1, hm⟩ := bindS hm
      obtain ⟨b1, of1, cs1, k1, cp1, hv1, hp1, hl1, he1, hr1, hc1⟩ := (hS2.own (i := 1) ⟨rfl, rfl⟩).v.ixq hx1 rfl
      cases rAllocReach_open hr1
      obtain ⟨u2, hx2, hm⟩ := bindS hm
      obtain ⟨b2, of2, cs2, k2, cp2, hv2, hp2, hl2, he2, hr2, hc2⟩ := (hS2.own (i := 1) ⟨rfl, rfl⟩).v.ixq hx2 rfl
      cases rAllocReach_open hr2
      obtain ⟨y1, hx3, hm⟩ := bindS hm
      refine s0 rfl ⟨_, rfl, congrArg Value.bool hb2⟩ (fun _ => r_mf rfl) rfl (s0 rfl ⟨_, rfl, congrArg Value.bool hb2⟩ (fun _ => r_ms rfl) rfl (s0 rfl ⟨_, rfl, congrArg Value.bool hb2⟩ (fun _ => r_mi rfl) rfl (s0 rfl ⟨_, rfl, congrArg Value.bool hb2⟩ (fun _ => r_mi rfl) rfl (s0 rfl ⟨_, rfl, congrArg Value.bool hb2⟩ (fun _ => r_ib rfl rfl rfl) rfl (s0 rfl ⟨_, rfl, congrArg Value.bool hb2⟩ (fun _ => r_ixe hv1 rfl Try.underlying56 Try.sizeOf60 hp1 hl1 he1) rfl (s1 rfl ⟨_, rfl, congrArg Value.bool hb2⟩ (r_ldS rfl Try.isAgg60 Try.sizeOf60 rfl hc1 (cs := (cAllocReach u1))) rfl (s0 rfl ⟨_, rfl, congrArg Value.bool hb2⟩ (fun _ => r_ms rfl) rfl (s0 rfl ⟨_, rfl, congrArg Value.bool hb2⟩ (fun _ => r_mi rfl) rfl (s0 rfl ⟨_, rfl, congrArg Value.bool hb2⟩ (fun _ => r_mi rfl) rfl (s0 rfl ⟨_, rfl, congrArg Value.bool hb2⟩ (fun _ => r_ib rfl rfl rfl) rfl (s0 rfl ⟨_, rfl, congrArg Value.bool hb2⟩ (fun _ => r_ib rfl rfl rfl) rfl (s0 rfl ⟨_, rfl, congrArg Value.bool hb2⟩ (fun _ => r_ixe hv2 rfl Try.underlying56 Try.sizeOf60 hp2 hl2 he2) rfl (s1 rfl ⟨_, rfl, congrArg Value.bool hb2⟩ (r_ldS rfl Try.isAgg60 Try.sizeOf60 rfl hc2 (cs := (cAllocReach u2))) rfl (s2 [] rfl ⟨_, rfl, congrArg Value.bool hb2⟩ rfl (by kernel_rfl) (calS cf20 rfl (alloc_Assign_2_sim (p0 := u1) (p1 := u2) (hS2.bun [0, 1] [] rfl)  hx3) rfl fun v1 T3 w4 im4 rv1 => ?_)))))))))))))))
      obtain ⟨rfl, hS3, _⟩ := rv1
      have hS3 : Sep g T3 w4 [R, ownA rAllocReach 60 (.slice a1 n1 c1) x1] := hS3.unb
      refine ⟨st0, ?_⟩
      refine s0 rfl ⟨_, rfl, congrArg Value.bool hb2⟩ (fun _ => r_ib rfl rfl rfl) rfl (s0 rfl trivial (fun _ => r_pkt rfl hb2 rfl) rfl (se (t_thenR [(0, .slice a1 n1 c1), (2, .int .i64 p2), (3, .int .i64 p3), (4, .func (.func 20) #[] #[]), (10, .int .i64 x2), (11, .int .i64 (IntKind.wrap .i64 ((IntKind.wrap .i64 (2 * x2)) + 1))), (40, .bool (decide (y1 < 0)))] ⟨rfl, rfl, rfl, rfl, rfl, rfl, rfl, trivial⟩ fun J => ?_)))
      refine cnd rfl (fun hb3 => ?_) (fun hb3 => ?_)
      · have hm := ctrue hb3 hm
        exact rg (pv (r_mi rfl) (pv (r_ib rfl rfl rfl) (pv (r_zi rfl) (nil (t_then ⟨_, _, (IntKind.wrap .i64 ((IntKind.wrap .i64 ((IntKind.wrap .i64 (2 * x2)) + 1)) + 1)), env_has ⟨rfl, rfl, rfl, rfl, rfl, rfl, trivial⟩, (iT im3 im4), hS3.sel [0, 1] rfl, hm⟩)))))
      have hm := cfalse hb3 hm
      exact skp (t_then ⟨_, _, (IntKind.wrap .i64 ((IntKind.wrap .i64 (2 * x2)) + 1)), env_has ⟨rfl, rfl, rfl, rfl, rfl, rfl, trivial⟩, (iT im3 im4), hS3.sel [0, 1] rfl, hm⟩)
    have hm := cfalse hb2 hm
    refine sU rfl (gI rfl rfl hb2) (sU rfl (gI rfl rfl hb2) (sU rfl (gI rfl rfl hb2) (sU rfl (gI rfl rfl hb2) (sU rfl (gI rfl rfl hb2) (sU rfl (gI rfl rfl hb2) (sU rfl (gI rfl rfl hb2) (sU rfl (gI rfl rfl hb2) (sU rfl (gI rfl rfl hb2) (sU rfl (gI rfl rfl hb2) (sU rfl (gI rfl rfl hb2) (sU rfl (gI rfl rfl hb2) (sU rfl (gI rfl rfl hb2) (sU rfl (gI rfl rfl hb2) (sU rfl (gI rfl rfl hb2) (sU rfl (gI rfl rfl hb2) (s0 rfl trivial (fun _ => r_pkf rfl hb2 rfl) rfl (se (t_thenR [(0, .slice a1 n1 c1), (2, .int .i64 p2), (3, .int .i64 p3), (4, .func (.func 20) #[] #[]), (10, .int .i64 x2), (11, .int .i64 (IntKind.wrap .i64 ((IntKind.wrap .i64 (2 * x2)) + 1))), (40, .bool false)] ⟨rfl, rfl, rfl, rfl, rfl, rfl, rfl, trivial⟩ fun J => ?_))))))))))))))))))
    refine cnd (b := false) rfl (fun h => nomatch h) (fun _ => ?_)
    exact skp (t_then ⟨_, _, (IntKind.wrap .i64 ((IntKind.wrap .i64 (2 * x2)) + 1)), env_has ⟨rfl, rfl, rfl, rfl, rfl, rfl, trivial⟩, im3, hS2.sel [0, 1] rfl, hm⟩)
  rintro _ w2 ⟨J, T2, x3, rfl, im2, hS4, hm⟩
  rw [hkk1] at hm
  refine sq2 (sq2 (rs [0, 0, 0, 0, 0, 0, 1, 0, 0, 0, 0, 0, 1, 2, 0, 0] [0, 1, 2, 3, 4, 5, 6, 7, 8, 9, 10, 11, 12, 13, 14, 15] mix (by kernel_rfl) hS4.lt fun w5 i2 => ?_))
  have im5 := i2.imm
  have hS5 := hS4.keep i2 (fun _ h => h)
  obtain ⟨u3, hx4, hm⟩ := bindS hm
  obtain ⟨b3, of3, cs3, k3, cp3, hv3, hp3, hl3, he3, hr3, hc3⟩ := (hS5.own (i := 1) ⟨rfl, rfl⟩).v.ixq hx4 rfl
  cases rAllocReach_open hr3
  obtain ⟨u4, hx5, hm⟩ := bindS hm
  obtain ⟨b4, of4, cs4, k4, cp4, hv4, hp4, hl4, he4, hr4, hc4⟩ := (hS5.own (i := 1) ⟨rfl, rfl⟩).v.ixq hx5 rfl
  cases rAllocReach_open hr4
  obtain ⟨y2, hx6, hm⟩ := bindS hm
  refine s0 rfl trivial (fun _ => r_mf rfl) rfl (s0 rfl trivial (fun _ => r_ms rfl) rfl (s0 rfl trivial (fun _ => r_mi rfl) rfl (s0 rfl trivial (fun _ => r_mi rfl) rfl (s0 rfl trivial (fun _ => r_ib rfl rfl rfl) rfl (s0 rfl trivial (fun _ => r_ixe hv3 rfl Try.underlying56 Try.sizeOf60 hp3 hl3 he3) rfl (s1 rfl trivial (r_ldS rfl Try.isAgg60 Try.sizeOf60 rfl hc3 (cs := (cAllocReach u3))) rfl (s0 rfl trivial (fun _ => r_ms rfl) rfl (s0 rfl trivial (fun _ => r_mi rfl) rfl (s0 rfl trivial (fun _ => r_mi rfl) rfl (s0 rfl trivial (fun _ => r_ib rfl rfl rfl) rfl (s0 rfl trivial (fun _ => r_ixe hv4 rfl Try.underlying56 Try.sizeOf60 hp4 hl4 he4) rfl (s1 rfl trivial (r_ldS rfl Try.isAgg60 Try.sizeOf60 rfl hc4 (cs := (cAllocReach u4))) rfl (s2 [] rfl trivial rfl (by kernel_rfl) (calS cf20 rfl (alloc_Assign_2_sim (p0 := u3) (p1 := u4) (hS5.bun [0, 1] [] rfl)  hx6) rfl fun v2 T4 w6 im6 rv2 => ?_))))))))))))))
  obtain ⟨rfl, hS6, _⟩ := rv2
  have hS6 : Sep g T4 w6 [R, ownA rAllocReach 60 (.slice a1 n1 c1) x1] := hS6.unb
  refine ⟨st0, ?_⟩
  refine s0 rfl trivial (fun _ => r_ib rfl rfl rfl) rfl (s0 rfl trivial (fun _ => r_nt rfl) rfl (se (t_then ?_)))
  refine cnd rfl (fun hb5 => ?_) (fun hb5 => ?_)
  · have hm := ctrue hb5 hm
    have hm := oI hm; subst hm
    have hn1 : _ = Lp.ret _ := hn1
    subst hn1
    have hm := thn_ret hq1
    have hm := oI hm; subst hm
    exact rtn (r_then (r_blk (r_then (r_blk (ret0 rfl ⟨_, rfl, _, (iT im1 (iT im2 (iT im5 im6))), ⟨rfl, hS6.sel [0, 1] rfl, trivial⟩⟩)))))
  have hm := cfalse hb5 hm
  refine skp (t_then ?_)
  refine sq2 (rs [0, 0, 0, 0, 0, 0, 0, 0, 0, 0, 0, 0, 0, 1, 0, 0, 0, 0, 0, 1, 0, 2, 0, 2] [0, 1, 2, 3, 4, 5, 6, 7, 8, 9, 10, 11, 12, 13, 14, 15, 16, 17, 18, 19, 20, 21, 22, 23] mix (by kernel_rfl) hS6.lt fun w7 i3 => ?_)
  have im7 := i3.imm
  have hS7 := hS6.keep i3 (fun _ h => h)
  obtain ⟨u5, hx7, hm⟩ := bindS hm
  obtain ⟨b5, of5, cs5, k5, cp5, hv5, hp5, hl5, he5, hr5, hc5⟩ := (hS7.own (i := 1) ⟨rfl, rfl⟩).v.ixq hx7 rfl
  cases rAllocReach_open hr5
  obtain ⟨u6, hx8, hm⟩ := bindS hm
  obtain ⟨b6, of6, cs6, k6, cp6, hv6, hp6, hl6, he6, hr6, hc6⟩ := (hS7.own (i := 1) ⟨rfl, rfl⟩).v.ixq hx8 rfl
  cases rAllocReach_open hr6
  obtain ⟨u7, hx9, hm⟩ := bindS hm
  obtain ⟨b7, of7, cs7, k7, cp7, hv7, hp7, hl7, he7, hr7, hc7⟩ := (hS7.own (i := 1) ⟨rfl, rfl⟩).v.ixq hx9 rfl
  cases rAllocReach_open hr7
  obtain ⟨u8, hx10, hm⟩ := bindS hm
  refine s0 rfl trivial (fun _ => r_ms rfl) rfl (s0 rfl trivial (fun _ => r_mi rfl) rfl (s0 rfl trivial (fun _ => r_mi rfl) rfl (s0 rfl trivial (fun _ => r_ib rfl rfl rfl) rfl (s0 rfl trivial (fun _ => r_ms rfl) rfl (s0 rfl trivial (fun _ => r_mi rfl) rfl (s0 rfl trivial (fun _ => r_mi rfl) rfl (s0 rfl trivial (fun _ => r_ib rfl rfl rfl) rfl (s0 rfl trivial (fun _ => r_ms rfl) rfl (s0 rfl trivial (fun _ => r_mi rfl) rfl (s0 rfl trivial (fun _ => r_mi rfl) rfl (s0 rfl trivial (fun _ => r_ib rfl rfl rfl) rfl (s0 rfl trivial (fun _ => r_ixe hv5 rfl Try.underlying56 Try.sizeOf60 hp5 hl5 he5) rfl (s1 rfl trivial (r_ldS rfl Try.isAgg60 Try.sizeOf60 rfl hc5 (cs := (cAllocReach u5))) rfl (s0 rfl trivial (fun _ => r_ms rfl) rfl (s0 rfl trivial (fun _ => r_mi rfl) rfl (s0 rfl trivial (fun _ => r_mi rfl) rfl (s0 rfl trivial (fun _ => r_ib rfl rfl rfl) rfl (s0 rfl trivial (fun _ => r_ixe hv6 rfl Try.underlying56 Try.sizeOf60 hp6 hl6 he6) rfl (s1 rfl trivial (r_ldS rfl Try.isAgg60 Try.sizeOf60 rfl hc6 (cs := (cAllocReach u6))) rfl (s0 rfl trivial (fun _ => r_ixe hv7 rfl Try.underlying56 Try.sizeOf60 hp7 hl7 he7) rfl (s2 [] rfl trivial rfl (by kernel_rfl) (stO (q := 1) (i := Int.toNat (IntKind.wrap .i64 (p3 + x2))) (j := 0) (u := u8) (u' := u5) hS7 ⟨rfl, rfl⟩ hv7 (idx_some hx10).2.2 he7 rfl rfl rfl Try.sizeOf60 rfl rfl rfl (fun c0 hc0 => by rw [storeL_all (r := rAllocReach) hc0 rfl]; exact (rAllocReach_mk (x := u5)  : rAllocReach.rp _ _ _ _)) fun w8 im8 hS8 => ?_))))))))))))))))))))))
  have hS8 : Sep g T4 w8 [R, ownA rAllocReach 60 (.slice a1 n1 c1) (List.set x1 (Int.toNat (IntKind.wrap .i64 (p3 + x2))) u5)] := hS8
  refine ⟨st0, ?_⟩
  obtain ⟨u9, hx11, hm⟩ := bindS hm
  obtain ⟨b8, of8, cs8, k8, cp8, hv8, hp8, hl8, he8, hr8, hc8⟩ := (hS8.own (i := 1) ⟨rfl, rfl⟩).v.ixq hx11 rfl
  cases rAllocReach_open hr8
  obtain ⟨u10, hx12, hm⟩ := bindS hm
  refine s0 rfl trivial (fun _ => r_ixe hv8 rfl Try.underlying56 Try.sizeOf60 hp8 hl8 he8) rfl (s2 [] rfl trivial rfl (by kernel_rfl) (stO (q := 1) (i := Int.toNat (IntKind.wrap .i64 (p3 + x3))) (j := 0) (u := u10) (u' := u6) hS8 ⟨rfl, rfl⟩ hv8 (idx_some hx12).2.2 he8 rfl rfl rfl Try.sizeOf60 rfl rfl rfl (fun c0 hc0 => by rw [storeL_all (r := rAllocReach) hc0 rfl]; exact (rAllocReach_mk (x := u6)  : rAllocReach.rp _ _ _ _)) fun w9 im9 hS9 => ?_))
  have hS9 : Sep g T4 w9 [R, ownA rAllocReach 60 (.slice a1 n1 c1) (List.set (List.set x1 (Int.toNat (IntKind.wrap .i64 (p3 + x2))) u5) (Int.toNat (IntKind.wrap .i64 (p3 + x3))) u6)] := hS9
  refine ⟨st0, ?_⟩
  refine se (t_thenR [(0, .slice a1 n1 c1), (2, .int .i64 p2), (3, .int .i64 p3), (4, .func (.func 20) #[] #[]), (11, .int .i64 x3)] ⟨rfl, rfl, rfl, rfl, rfl, trivial⟩ fun J => ?_)
  have hm := oI hm; subst hm
  exact rg (pv (r_mi rfl) (pv (r_zi rfl) (nil (t_blk (t_then ⟨m1, Nat.lt_succ_self _, _, _, (List.set (List.set x1 (Int.toNat (IntKind.wrap .i64 (p3 + x2))) u5) (Int.toNat (IntKind.wrap .i64 (p3 + x3))) u6), x3, env_has ⟨rfl, rfl, rfl, rfl, rfl, trivial⟩, (iT im1 (iT im2 (iT im5 (iT im6 (iT im7 (iT im8 im9)))))), hS9.sel [0, 1] rfl, hn1⟩)))))

set_option maxRecDepth 100000 in
set_option maxHeartbeats 1000000 in
theorem slices_heapSortCmpFunc_sim {g : World} {T0 : Nat → Prop} {w0 : World} {R : Assn} {p0 : List AllocReach} {a1 : Option Addr} {n1 : Nat} {c1 : Nat} {p1 : Int} {p2 : Int} {r : (List AllocReach)} (hS : Sep g T0 w0 [R, ownA rAllocReach 60 (.slice a1 n1 c1) p0])  (hm : slices_heapSortCmpFunc p0 p1 p2 = some r) :
    Calls Try.prog 54 #[.slice a1 n1 c1, .int .i64 p1, .int .i64 p2, .func (.func 20) #[] #[]] w0 (RetS T0 w0 fun T w v => v = .tuple #[] ∧ Sep g T w [R, ownA rAllocReach 60 (.slice a1 n1 c1) r] ∧ True) := by
  refine enter (args := [.slice a1 n1 c1, .int .i64 p1, .int .i64 p2, .func (.func 20) #[] #[]]) Try.func54 rfl Try.ntmps54 rfl fun J => ?_
  unfold slices_heapSortCmpFunc at hm
  refine sq2 (rg (pv (r_mi rfl) (pv (r_zi rfl) (nil (t_then ?_)))))
  refine sq2 (rg (pv (r_zi rfl) (nil (t_then ?_))))
  refine sq2 (rg (pv (r_mi rfl) (pv (r_mi rfl) (pv (r_ib rfl rfl rfl) (pv (r_zi rfl) (nil (t_then ?_)))))))
  refine sq2 (sq2 (rg (pv (r_mi rfl) (pv (r_ib rfl rfl rfl) (pv (r_iq rfl rfl (by decide)) (pv (r_zi rfl) (nil (t_then ?_))))))))
  obtain ⟨o1, ho1, hq1⟩ := bindS hm
  obtain ⟨bd1, hbd1, ho1⟩ := loop_open ho1
  refine blk (wp_loop_ghost (fun m a w1 => ∃ (J : Nat → Value) (T1 : Nat → Prop) (x1 : List AllocReach) (x2 : Int), a = env (nf 60) J [(0, .slice a1 n1 c1), (3, .func (.func 20) #[] #[]), (8, .int .i64 p1), (9, .int .i64 0), (10, .int .i64 (IntKind.wrap .i64 (p2 - p1))), (11, .int .i64 x2)] ∧ Im T0 w0 T1 w1 ∧ Sep g T1 w1 [R, ownA rAllocReach 60 (.slice a1 n1 c1) x1] ∧ loopM bd1 m (x1, x2) = some o1) NN ⟨_, _, p0, (IntKind.wrap .i64 (Int.tdiv (IntKind.wrap .i64 ((IntKind.wrap .i64 (p2 - p1)) - 1)) 2)), env_has ⟨rfl, rfl, rfl, rfl, rfl, rfl, trivial⟩, Im.refl, hS.sel [0, 1] rfl, ho1⟩ ?_)
  rintro m _ w1 ⟨J, T1, x1, x2, rfl, im1, hS1, ho1⟩
  obtain ⟨m1, z1, rfl, hm, hn1⟩ := loop_round ho1
  rw [hbd1] at hm
  refine sq2 (sq2 (rg (pv (r_mi rfl) (pv (r_ib rfl rfl rfl) (nil (t_then ?_))))))
  refine cnd rfl (fun hb1 => ?_) (fun hb1 => ?_)
  · have hm := ctrue hb1 hm
    refine skp (t_then ?_)
    refine sq2 (blk ?_)
    obtain ⟨y1, hx1, hm⟩ := bindS hm
    refine rg (pv (r_ms rfl) (pv (r_mi rfl) (pv (r_mi rfl) (pv (r_mi rfl) (pv (r_mf rfl) (wl rfl (calS cf71 rfl (slices_siftDownCmpFunc_sim (p0 := x1) (p1 := x2) (p2 := IntKind.wrap .i64 (p2 - p1)) (p3 := p1) (hS1.bun [0] [1] rfl)  hx1) rfl fun v1 T2 w2 im2 rv1 => ?_)))))))
    obtain ⟨rfl, hS2, _⟩ := rv1
    have hS2 : Sep g T2 w2 [R, ownA rAllocReach 60 (.slice a1 n1 c1) y1] := hS2.unb
    refine nil (t_blk (t_then ?_))
    have hm := oI hm; subst hm
    exact rg (pv (r_mi rfl) (pv (r_ib rfl rfl rfl) (pv (r_zi rfl) (nil (t_then ⟨m1, Nat.lt_succ_self _, _, _, y1, (IntKind.wrap .i64 (x2 - 1)), env_has ⟨rfl, rfl, rfl, rfl, rfl, rfl, trivial⟩, (iT im1 im2), hS2.sel [0, 1] rfl, hn1⟩)))))
  have hm := cfalse hb1 hm
  have hm := oI hm; subst hm
  have hn1 : _ = Lp.brk _ := hn1
  subst hn1
  have hm := thn_brk hq1
  refine xt (x_then (x_then (x_eq (t_then ?_))))
  refine sq2 (rg (pv (r_mi rfl) (pv (r_ib rfl rfl rfl) (pv (r_zi rfl) (nil (t_then ?_))))))
  obtain ⟨o1, ho1, hq1⟩ := bindS hm
  obtain ⟨bd1, hbd1, ho1⟩ := loop_open ho1
  refine blk (wp_loop_ghost (fun m a w3 => ∃ (J : Nat → Value) (T3 : Nat → Prop) (x3 : List AllocReach) (x4 : Int), a = env (nf 60) J [(0, .slice a1 n1 c1), (3, .func (.func 20) #[] #[]), (8, .int .i64 p1), (9, .int .i64 0), (12, .int .i64 x4)] ∧ Im T1 w1 T3 w3 ∧ Sep g T3 w3 [R, ownA rAllocReach 60 (.slice a1 n1 c1) x3] ∧ loopM bd1 m (x3, x4) = some o1) NN ⟨_, _, x1, (IntKind.wrap .i64 ((IntKind.wrap .i64 (p2 - p1)) - 1)), env_has ⟨rfl, rfl, rfl, rfl, rfl, trivial⟩, Im.refl, hS1.sel [0, 1] rfl, ho1⟩ ?_)
  rintro m _ w3 ⟨J, T3, x3, x4, rfl, im3, hS3, ho1⟩
  obtain ⟨m1, z1, rfl, hm, hn1⟩ := loop_round ho1
  rw [hbd1] at hm
  refine sq2 (sq2 (rg (pv (r_mi rfl) (pv (r_ib rfl rfl rfl) (nil (t_then ?_))))))
  refine cnd rfl (fun hb2 => ?_) (fun hb2 => ?_)
  · have hm := ctrue hb2 hm
    refine skp (t_then ?_)
    refine sq2 (blk (sq2 (rs [0, 0, 0, 0, 0, 0, 0, 0, 0, 0, 0, 1, 0, 0, 0, 1, 0, 2, 0, 2] [0, 1, 2, 3, 4, 5, 6, 7, 8, 9, 10, 11, 12, 13, 14, 15, 16, 17, 18, 19] mix (by kernel_rfl) hS3.lt fun w4 i1 => ?_)))
    have im4 := i1.imm
    have hS4 := hS3.keep i1 (fun _ h => h)
    obtain ⟨u1, hx2, hm⟩ := bindS hm
    obtain ⟨b1, of1, cs1, k1, cp1, hv1, hp1, hl1, he1, hr1, hc1⟩ := (hS4.own (i := 1) ⟨rfl, rfl⟩).v.ixq hx2 rfl
    cases rAllocReach_open hr1
    obtain ⟨u2, hx3, hm⟩ := bindS hm
    obtain ⟨b2, of2, cs2, k2, cp2, hv2, hp2, hl2, he2, hr2, hc2⟩ := (hS4.own (i := 1) ⟨rfl, rfl⟩).v.ixq hx3 rfl
    cases rAllocReach_open hr2
    obtain ⟨u3, hx4, hm⟩ := bindS hm
    obtain ⟨b3, of3, cs3, k3, cp3, hv3, hp3, hl3, he3, hr3, hc3⟩ := (hS4.own (i := 1) ⟨rfl, rfl⟩).v.ixq hx4 rfl
    cases rAllocReach_open hr3
    obtain ⟨u4, hx5, hm⟩ := bindS hm
    refine s0 rfl trivial (fun _ => r_ms rfl) rfl (s0 rfl trivial (fun _ => r_mi rfl) rfl (s0 rfl trivial (fun _ => r_ms rfl) rfl (s0 rfl trivial (fun _ => r_mi rfl) rfl (s0 rfl trivial (fun _ => r_mi rfl) rfl (s0 rfl trivial (fun _ => r_ib rfl rfl rfl) rfl (s0 rfl trivial (fun _ => r_ms rfl) rfl (s0 rfl trivial (fun _ => r_mi rfl) rfl (s0 rfl trivial (fun _ => r_mi rfl) rfl (s0 rfl trivial (fun _ => r_ib rfl rfl rfl) rfl (s0 rfl trivial (fun _ => r_ixe hv1 rfl Try.underlying56 Try.sizeOf60 hp1 hl1 he1) rfl (s1 rfl trivial (r_ldS rfl Try.isAgg60 Try.sizeOf60 rfl hc1 (cs := (cAllocReach u1))) rfl (s0 rfl trivial (fun _ => r_ms rfl) rfl (s0 rfl trivial (fun _ => r_mi rfl) rfl (s0 rfl trivial (fun _ => r_ixe hv2 rfl Try.underlying56 Try.sizeOf60 hp2 hl2 he2) rfl (s1 rfl trivial (r_ldS rfl Try.isAgg60 Try.sizeOf60 rfl hc2 (cs := (cAllocReach u2))) rfl (s0 rfl trivial (fun _ => r_ixe hv3 rfl Try.underlying56 Try.sizeOf60 hp3 hl3 he3) rfl (s2 [] rfl trivial rfl (by kernel_rfl) (stO (q := 1) (i := Int.toNat p1) (j := 0) (u := u4) (u' := u1) hS4 ⟨rfl, rfl⟩ hv3 (idx_some hx5).2.2 he3 rfl rfl rfl Try.sizeOf60 rfl rfl rfl (fun c0 hc0 => by rw [storeL_all (r := rAllocReach) hc0 rfl]; exact (rAllocReach_mk (x := u1)  : rAllocReach.rp _ _ _ _)) fun w5 im5 hS5 => ?_))))))))))))))))))
    have hS5 : Sep g T3 w5 [R, ownA rAllocReach 60 (.slice a1 n1 c1) (List.set x3 (Int.toNat p1) u1)] := hS5
    refine ⟨st0, ?_⟩
    obtain ⟨u5, hx6, hm⟩ := bindS hm
    obtain ⟨b4, of4, cs4, k4, cp4, hv4, hp4, hl4, he4, hr4, hc4⟩ := (hS5.own (i := 1) ⟨rfl, rfl⟩).v.ixq hx6 rfl
    cases rAllocReach_open hr4
    obtain ⟨u6, hx7, hm⟩ := bindS hm
    refine s0 rfl trivial (fun _ => r_ixe hv4 rfl Try.underlying56 Try.sizeOf60 hp4 hl4 he4) rfl (s2 [] rfl trivial rfl (by kernel_rfl) (stO (q := 1) (i := Int.toNat (IntKind.wrap .i64 (p1 + x4))) (j := 0) (u := u6) (u' := u2) hS5 ⟨rfl, rfl⟩ hv4 (idx_some hx7).2.2 he4 rfl rfl rfl Try.sizeOf60 rfl rfl rfl (fun c0 hc0 => by rw [storeL_all (r := rAllocReach) hc0 rfl]; exact (rAllocReach_mk (x := u2)  : rAllocReach.rp _ _ _ _)) fun w6 im6 hS6 => ?_))
    have hS6 : Sep g T3 w6 [R, ownA rAllocReach 60 (.slice a1 n1 c1) (List.set (List.set x3 (Int.toNat p1) u1) (Int.toNat (IntKind.wrap .i64 (p1 + x4))) u2)] := hS6
    refine ⟨st0, ?_⟩
    refine se (t_then ?_)
    obtain ⟨y2, hx8, hm⟩ := bindS hm
    refine rg (pv (r_ms rfl) (pv (r_mi rfl) (pv (r_mi rfl) (pv (r_mi rfl) (pv (r_mf rfl) (wl rfl (calS cf71 rfl (slices_siftDownCmpFunc_sim (p0 := List.set (List.set x3 (Int.toNat p1) u1) (Int.toNat (IntKind.wrap .i64 (p1 + x4))) u2) (p1 := 0) (p2 := x4) (p3 := p1) (hS6.bun [0] [1] rfl)  hx8) rfl fun v2 T4 w7 im7 rv2 => ?_)))))))
    obtain ⟨rfl, hS7, _⟩ := rv2
    have hS7 : Sep g T4 w7 [R, ownA rAllocReach 60 (.slice a1 n1 c1) y2] := hS7.unb
    refine nil (t_blk (t_thenR [(0, .slice a1 n1 c1), (3, .func (.func 20) #[] #[]), (8, .int .i64 p1), (9, .int .i64 0), (12, .int .i64 x4)] ⟨rfl, rfl, rfl, rfl, rfl, trivial⟩ fun J => ?_))
    have hm := oI hm; subst hm
    exact rg (pv (r_mi rfl) (pv (r_ib rfl rfl rfl) (pv (r_zi rfl) (nil (t_then ⟨m1, Nat.lt_succ_self _, _, _, y2, (IntKind.wrap .i64 (x4 - 1)), env_has ⟨rfl, rfl, rfl, rfl, rfl, trivial⟩, (iT im3 (iT im4 (iT im5 (iT im6 im7)))), hS7.sel [0, 1] rfl, hn1⟩)))))
  have hm := cfalse hb2 hm
  have hm := oI hm; subst hm
  have hn1 : _ = Lp.brk _ := hn1
  subst hn1
  have hm := thn_brk hq1
  have hm := oI hm; subst hm
  exact xt (x_then (x_then (x_eq (end0 rfl ⟨_, rfl, _, (iT im1 im3), ⟨rfl, hS3.sel [0, 1] rfl, trivial⟩⟩))))

set_option maxRecDepth 100000 in
set_option maxHeartbeats 1000000 in
theorem slices_nextPowerOfTwo_sim {g : World} {T0 : Nat → Prop} {w0 : World} {R : Assn} {p0 : Int} {r : Int} (hS : Sep g T0 w0 [R])  (hm : slices_nextPowerOfTwo p0 = some r) :
    Calls Try.prog 72 #[.int .i64 p0] w0 (RetS T0 w0 fun T w v => v = .int .u64 r ∧ Sep g T w [R] ∧ True) := by
  refine enter (args := [.int .i64 p0]) Try.func72 rfl Try.ntmps72 rfl fun J => ?_
  unfold slices_nextPowerOfTwo at hm
  refine sq2 (rg (pv (r_zi rfl) (nil (t_then ?_))))
  refine sq2 ?_
  obtain ⟨y1, hx1, hm⟩ := bindS hm
  refine rg (pv (r_mi rfl) (pv (r_cv rfl Try.underlying3 Try.underlying86) (wl rfl (calS cf36 rfl (bits_Len_sim (p0 := IntKind.wrap .u64 p0) (hS.bun [0] [] rfl)  hx1) rfl fun v1 T1 w1 im1 rv1 => ?_))))
  obtain ⟨rfl, hS1, _⟩ := rv1
  have hS1 : Sep g T1 w1 [R] := hS1.unb
  obtain ⟨_, hz1, hm⟩ := bindS hm
  have hz1 := nn_some hz1
  refine pv (r_ishl rfl rfl hz1) (pv (r_zi rfl) (nil (t_then ?_)))
  have hm := oI hm; subst hm
  exact rtn (ret1 rfl rfl ⟨_, rfl, _, im1, ⟨rfl, hS1.sel [0] rfl, trivial⟩⟩)

set_option maxRecDepth 100000 in
set_option maxHeartbeats 1000000 in
theorem slices_xorshift_Next_sim {g : World} {T0 : Nat → Prop} {w0 : World} {R : Assn} {p0 : Int} {b_p0 o_p0 : Nat} {H_p0 : List Value → Assn} {r : Int × Int} (hS : Sep g T0 w0 [R, H_p0 [.int .u64 p0]]) (hL_p0 : Ln b_p0 o_p0 H_p0) (hm : slices_xorshift_Next p0 = some r) :
    Calls Try.prog 73 #[.pointer (some ⟨b_p0, o_p0, none⟩)] w0 (RetS T0 w0 fun T w v => v = .int .u64 r.1 ∧ Sep g T w [R, H_p0 [.int .u64 r.2]] ∧ True) := by
  refine enter (args := [.pointer (some ⟨b_p0, o_p0, none⟩)]) Try.func73 rfl Try.ntmps73 rfl fun J => ?_
  unfold slices_xorshift_Next at hm
  refine sq2 (rg (pv (r_zi rfl) (nil (t_then ?_))))
  refine sq2 (rs [0, 0, 1, 0, 0, 1, 0, 0, 0, 2] [0, 1, 2, 3, 4, 5, 6, 7, 8, 9] mix (by kernel_rfl) hS.lt fun w1 i1 => ?_)
  have im1 := i1.imm
  have hS1 := hS.keep i1 (fun _ h => h)
  refine s0 rfl trivial (fun _ => r_mp rfl) rfl (s0 rfl trivial (fun _ => r_nc rfl) rfl (s1 rfl trivial (r_ld rfl Try.isAgg126 (hS1.cellB (i := 1) ⟨rfl, rfl⟩ hL_p0 (j := 0) rfl)) rfl (s0 rfl trivial (fun _ => r_mp rfl) rfl (s0 rfl trivial (fun _ => r_nc rfl) rfl (s1 rfl trivial (r_ld rfl Try.isAgg126 (hS1.cellB (i := 1) ⟨rfl, rfl⟩ hL_p0 (j := 0) rfl)) rfl (s0 rfl trivial (fun _ => r_ishl rfl rfl (by decide)) rfl (s0 rfl trivial (fun _ => r_ib rfl rfl rfl) rfl (s0 rfl trivial (fun _ => r_nc rfl) rfl (s2 [] rfl trivial rfl (by kernel_rfl) (stB (q := 1) (j := 0) hS1 ⟨rfl, rfl⟩ hL_p0 rfl rfl rfl Try.sizeOf126 rfl rfl rfl fun w2 im2 hS2 => ?_))))))))))
  have hS2 : Sep g T0 w2 [R, H_p0 [.int .u64 (bits .xor .u64 p0 (IntKind.wrap .u64 (p0 * 2 ^ (min (Int.toNat 13) (IntKind.bits .u64)))))]] := hS2
  refine ⟨st0, ?_⟩
  refine se (t_then ?_)
  refine sq2 (rs [0, 0, 1, 0, 0, 1, 0, 0, 0, 2] [0, 1, 2, 3, 4, 5, 6, 7, 8, 9] mix (by kernel_rfl) hS2.lt fun w3 i2 => ?_)
  have im3 := i2.imm
  have hS3 := hS2.keep i2 (fun _ h => h)
  refine s0 rfl trivial (fun _ => r_mp rfl) rfl (s0 rfl trivial (fun _ => r_nc rfl) rfl (s1 rfl trivial (r_ld rfl Try.isAgg126 (hS3.cellB (i := 1) ⟨rfl, rfl⟩ hL_p0 (j := 0) rfl)) rfl (s0 rfl trivial (fun _ => r_mp rfl) rfl (s0 rfl trivial (fun _ => r_nc rfl) rfl (s1 rfl trivial (r_ld rfl Try.isAgg126 (hS3.cellB (i := 1) ⟨rfl, rfl⟩ hL_p0 (j := 0) rfl)) rfl (s0 rfl trivial (fun _ => r_ishr rfl rfl (by decide)) rfl (s0 rfl trivial (fun _ => r_ib rfl rfl rfl) rfl (s0 rfl trivial (fun _ => r_nc rfl) rfl (s2 [] rfl trivial rfl (by kernel_rfl) (stB (q := 1) (j := 0) hS3 ⟨rfl, rfl⟩ hL_p0 rfl rfl rfl Try.sizeOf126 rfl rfl rfl fun w4 im4 hS4 => ?_))))))))))
  have hS4 : Sep g T0 w4 [R, H_p0 [.int .u64 (bits .xor .u64 (bits .xor .u64 p0 (IntKind.wrap .u64 (p0 * 2 ^ (min (Int.toNat 13) (IntKind.bits .u64))))) (Int.fdiv (bits .xor .u64 p0 (IntKind.wrap .u64 (p0 * 2 ^ (min (Int.toNat 13) (IntKind.bits .u64))))) (2 ^ (min (Int.toNat 7) (IntKind.bits .u64)))))]] := hS4
  refine ⟨st0, ?_⟩
  refine se (t_then ?_)
  refine sq2 (rs [0, 0, 1, 0, 0, 1, 0, 0, 0, 2] [0, 1, 2, 3, 4, 5, 6, 7, 8, 9] mix (by kernel_rfl) hS4.lt fun w5 i3 => ?_)
  have im5 := i3.imm
  have hS5 := hS4.keep i3 (fun _ h => h)
  refine s0 rfl trivial (fun _ => r_mp rfl) rfl (s0 rfl trivial (fun _ => r_nc rfl) rfl (s1 rfl trivial (r_ld rfl Try.isAgg126 (hS5.cellB (i := 1) ⟨rfl, rfl⟩ hL_p0 (j := 0) rfl)) rfl (s0 rfl trivial (fun _ => r_mp rfl) rfl (s0 rfl trivial (fun _ => r_nc rfl) rfl (s1 rfl trivial (r_ld rfl Try.isAgg126 (hS5.cellB (i := 1) ⟨rfl, rfl⟩ hL_p0 (j := 0) rfl)) rfl (s0 rfl trivial (fun _ => r_ishl rfl rfl (by decide)) rfl (s0 rfl trivial (fun _ => r_ib rfl rfl rfl) rfl (s0 rfl trivial (fun _ => r_nc rfl) rfl (s2 [] rfl trivial rfl (by kernel_rfl) (stB (q := 1) (j := 0) hS5 ⟨rfl, rfl⟩ hL_p0 rfl rfl rfl Try.sizeOf126 rfl rfl rfl fun w6 im6 hS6 => ?_))))))))))
  have hS6 : Sep g T0 w6 [R, H_p0 [.int .u64 (bits .xor .u64 (bits .xor .u64 (bits .xor .u64 p0 (IntKind.wrap .u64 (p0 * 2 ^ (min (Int.toNat 13) (IntKind.bits .u64))))) (Int.fdiv (bits .xor .u64 p0 (IntKind.wrap .u64 (p0 * 2 ^ (min (Int.toNat 13) (IntKind.bits .u64))))) (2 ^ (min (Int.toNat 7) (IntKind.bits .u64))))) (IntKind.wrap .u64 ((bits .xor .u64 (bits .xor .u64 p0 (IntKind.wrap .u64 (p0 * 2 ^ (min (Int.toNat 13) (IntKind.bits .u64))))) (Int.fdiv (bits .xor .u64 p0 (IntKind.wrap .u64 (p0 * 2 ^ (min (Int.toNat 13) (IntKind.bits .u64))))) (2 ^ (min (Int.toNat 7) (IntKind.bits .u64))))) * 2 ^ (min (Int.toNat 17) (IntKind.bits .u64)))))]] := hS6
  refine ⟨st0, ?_⟩
  refine se (t_thenR [(0, .pointer (some ⟨b_p0, o_p0, none⟩))] ⟨rfl, trivial⟩ fun J => ?_)
  refine sq2 (rg (pv (r_mp rfl) (pv (r_nc rfl) (pv (r_ld rfl Try.isAgg126 (hS6.cellB (i := 1) ⟨rfl, rfl⟩ hL_p0 (j := 0) rfl)) (pv (r_zi rfl) (nil (t_then ?_)))))))
  have hm := oI hm; subst hm
  exact rtn (ret1 rfl rfl ⟨_, rfl, _, (iT im1 (iT im2 (iT im3 (iT im4 (iT im5 im6))))), ⟨rfl, hS6.sel [0, 1] rfl, trivial⟩⟩)

set_option maxRecDepth 100000 in
set_option maxHeartbeats 1000000 in
theorem slices_breakPatternsCmpFunc_sim {g : World} {T0 : Nat → Prop} {w0 : World} {R : Assn} {p0 : List AllocReach} {a1 : Option Addr} {n1 : Nat} {c1 : Nat} {p1 : Int} {p2 : Int} {r : (List AllocReach)} (hS : Sep g T0 w0 [R, ownA rAllocReach 60 (.slice a1 n1 c1) p0])  (hm : slices_breakPatternsCmpFunc p0 p1 p2 = some r) :
    Calls Try.prog 55 #[.slice a1 n1 c1, .int .i64 p1, .int .i64 p2, .func (.func 20) #[] #[]] w0 (RetS T0 w0 fun T w v => v = .tuple #[] ∧ Sep g T w [R, ownA rAllocReach 60 (.slice a1 n1 c1) r] ∧ True) := by
  refine enter (args := [.slice a1 n1 c1, .int .i64 p1, .int .i64 p2, .func (.func 20) #[] #[]]) Try.func55 rfl Try.ntmps55 rfl fun J => ?_
  unfold slices_breakPatternsCmpFunc at hm
  refine sq2 (rg (pv (r_mi rfl) (pv (r_mi rfl) (pv (r_ib rfl rfl rfl) (pv (r_zi rfl) (nil (t_then ?_)))))))
  refine sq2 (rg (pv (r_mi rfl) (pv (r_ib rfl rfl rfl) (nil (t_then ?_)))))
  refine cnd rfl (fun hb1 => ?_) (fun hb1 => ?_)
  · have hm := ctrue hb1 hm
    refine sq2 (rg (pv (r_mi rfl) (pv (r_cv rfl Try.underlying3 Try.underlying126) (wl rfl (alS (zs := [.int .u64 0]) Try.zeroValue126 rfl hS fun w1 b1 im1 hS1 => ?_)))))
    refine wl rfl (st0B (q := 0) hS1 ⟨rfl, rfl⟩ rfl rfl rfl Try.sizeOf126 rfl rfl rfl fun w2 im2 hS2 => ?_)
    have hS2 : Sep g T0 w2 [boxA b1 [.int .u64 (IntKind.wrap .u64 (IntKind.wrap .i64 (p2 - p1)))], R, ownA rAllocReach 60 (.slice a1 n1 c1) p0] := hS2
    refine nil (t_then ?_)
    refine sq2 ?_
    obtain ⟨y1, hx1, hm⟩ := bindS hm
    refine rg (pv (r_mi rfl) (wl rfl (calS cf72 rfl (slices_nextPowerOfTwo_sim (p0 := IntKind.wrap .i64 (p2 - p1)) (hS2.bun [0, 1, 2] [] rfl)  hx1) rfl fun v1 T1 w3 im3 rv1 => ?_)))
    obtain ⟨rfl, hS3, _⟩ := rv1
    have hS3 : Sep g T1 w3 [boxA b1 [.int .u64 (IntKind.wrap .u64 (IntKind.wrap .i64 (p2 - p1)))], R, ownA rAllocReach 60 (.slice a1 n1 c1) p0] := hS3.unb
    refine pv (r_zi rfl) (nil (t_then ?_))
    refine sq2 (rg (pv (r_mi rfl) (pv (r_mi rfl) (pv (r_iq rfl rfl (by decide)) (pv (r_ib rfl rfl rfl) (pv (r_ib rfl rfl rfl) (pv (r_ib rfl rfl rfl) (pv (r_zi rfl) (nil (t_then ?_))))))))))
    obtain ⟨o1, ho1, hq1⟩ := bindS hm
    obtain ⟨bd1, hbd1, ho1⟩ := loop_open ho1
    refine blk (wp_loop_ghost (fun m a w4 => ∃ (J : Nat → Value) (T2 : Nat → Prop) (x3 : Int) (x1 : List AllocReach) (x2 : Int), a = env (nf 67) J [(0, .slice a1 n1 c1), (1, .int .i64 p1), (8, .int .i64 (IntKind.wrap .i64 (p2 - p1))), (9, .pointer (some ⟨b1, 0, none⟩)), (10, .int .u64 y1), (11, .int .i64 x2)] ∧ Im T1 w3 T2 w4 ∧ Sep g T2 w4 [boxA b1 [.int .u64 x3], R, ownA rAllocReach 60 (.slice a1 n1 c1) x1] ∧ loopM bd1 m (x1, x2, x3) = some o1) NN ⟨_, _, (IntKind.wrap .u64 (IntKind.wrap .i64 (p2 - p1))), p0, (IntKind.wrap .i64 ((IntKind.wrap .i64 (p1 + (IntKind.wrap .i64 ((IntKind.wrap .i64 (Int.tdiv (IntKind.wrap .i64 (p2 - p1)) 4)) * 2)))) - 1)), env_has ⟨rfl, rfl, rfl, rfl, rfl, rfl, trivial⟩, Im.refl, hS3.sel [0, 1, 2] rfl, ho1⟩ ?_)
    rintro m _ w4 ⟨J, T2, x3, x1, x2, rfl, im4, hS4, ho1⟩
    obtain ⟨m1, z1, rfl, hm, hn1⟩ := loop_round ho1
    rw [hbd1] at hm
    refine sq2 (sq2 (rg (pv (r_mi rfl) (pv (r_mi rfl) (pv (r_mi rfl) (pv (r_iq rfl rfl (by decide)) (pv (r_ib rfl rfl rfl) (pv (r_ib rfl rfl rfl) (pv (r_ib rfl rfl rfl) (pv (r_ib rfl rfl rfl) (nil (t_then ?_))))))))))))
    refine cnd rfl (fun hb2 => ?_) (fun hb2 => ?_)
    · have hm := ctrue hb2 hm
      refine skp (t_then ?_)
      refine sq2 (blk (sq2 ?_))
      obtain ⟨y2, hx2, hm⟩ := bindS hm
      refine rg (wl rfl (calS cf73 rfl (slices_xorshift_Next_sim (p0 := x3) (H_p0 := boxA b1) (hS4.bun [1, 2] [0] rfl) (lnBox b1) hx2) rfl fun v2 T3 w5 im5 rv2 => ?_))
      obtain ⟨rfl, hS5, _⟩ := rv2
      have hS5 : Sep g T3 w5 [R, ownA rAllocReach 60 (.slice a1 n1 c1) x1, boxA b1 [.int .u64 y2.2]] := hS5.unb
      refine pv (r_mi rfl) (pv (r_ib rfl rfl rfl) (pv (r_ib rfl rfl rfl) (pv (r_cv rfl Try.underlying86 Try.underlying3) (pv (r_zi rfl) (nil (t_then ?_))))))
      obtain ⟨kk1, hkk1, hm⟩ := jn_open hm
      refine cut (fun a w6 => ∃ (J : Nat → Value) (T4 : Nat → Prop) (x4 : Int), a = env (nf 67) J [(0, .slice a1 n1 c1), (1, .int .i64 p1), (8, .int .i64 (IntKind.wrap .i64 (p2 - p1))), (9, .pointer (some ⟨b1, 0, none⟩)), (10, .int .u64 y1), (11, .int .i64 x2), (12, .int .i64 x4)] ∧ Im T3 w5 T4 w6 ∧ Sep g T4 w6 [R, ownA rAllocReach 60 (.slice a1 n1 c1) x1, boxA b1 [.int .u64 y2.2]] ∧ kk1 x4 = some z1) ?_ ?_
      · refine sq2 (rg (pv (r_mi rfl) (pv (r_mi rfl) (pv (r_ib rfl rfl rfl) (nil (t_then ?_))))))
        refine cnd rfl (fun hb3 => ?_) (fun hb3 => ?_)
        · have hm := ctrue hb3 hm
          exact rg (pv (r_mi rfl) (pv (r_mi rfl) (pv (r_ib rfl rfl rfl) (pv (r_zi rfl) (nil (t_then ⟨_, _, (IntKind.wrap .i64 ((IntKind.wrap .i64 (bits .and .u64 y2.1 (IntKind.wrap .u64 (y1 - 1)))) - (IntKind.wrap .i64 (p2 - p1)))), env_has ⟨rfl, rfl, rfl, rfl, rfl, rfl, rfl, trivial⟩, Im.refl, hS5.sel [0, 1, 2] rfl, hm⟩))))))
        have hm := cfalse hb3 hm
        exact skp (t_then ⟨_, _, (IntKind.wrap .i64 (bits .and .u64 y2.1 (IntKind.wrap .u64 (y1 - 1)))), env_has ⟨rfl, rfl, rfl, rfl, rfl, rfl, rfl, trivial⟩, Im.refl, hS5.sel [0, 1, 2] rfl, hm⟩)
      rintro _ w6 ⟨J, T4, x4, rfl, im6, hS6, hm⟩
      rw [hkk1] at hm
      refine rs [0, 0, 0, 0, 0, 0, 0, 0, 0, 0, 0, 1, 0, 0, 0, 1, 0, 2, 0, 2] [0, 1, 2, 3, 4, 5, 6, 7, 8, 9, 10, 11, 12, 13, 14, 15, 16, 17, 18, 19] mix (by kernel_rfl) hS6.lt fun w7 i1 => ?_
      have im7 := i1.imm
      have hS7 := hS6.keep i1 (fun _ h => h)
      obtain ⟨u1, hx3, hm⟩ := bindS hm
      obtain ⟨b2, of1, cs1, k1, cp1, hv1, hp1, hl1, he1, hr1, hc1⟩ := (hS7.own (i := 1) ⟨rfl, rfl⟩).v.ixq hx3 rfl
      cases rAllocReach_open hr1
      obtain ⟨u2, hx4, hm⟩ := bindS hm
      obtain ⟨b3, of2, cs2, k2, cp2, hv2, hp2, hl2, he2, hr2, hc2⟩ := (hS7.own (i := 1) ⟨rfl, rfl⟩).v.ixq hx4 rfl
      cases rAllocReach_open hr2
      obtain ⟨u3, hx5, hm⟩ := bindS hm
      obtain ⟨b4, of3, cs3, k3, cp3, hv3, hp3, hl3, he3, hr3, hc3⟩ := (hS7.own (i := 1) ⟨rfl, rfl⟩).v.ixq hx5 rfl
      cases rAllocReach_open hr3
      obtain ⟨u4, hx6, hm⟩ := bindS hm
      refine s0 rfl trivial (fun _ => r_ms rfl) rfl (s0 rfl trivial (fun _ => r_mi rfl) rfl (s0 rfl trivial (fun _ => r_ms rfl) rfl (s0 rfl trivial (fun _ => r_mi rfl) rfl (s0 rfl trivial (fun _ => r_mi rfl) rfl (s0 rfl trivial (fun _ => r_ib rfl rfl rfl) rfl (s0 rfl trivial (fun _ => r_ms rfl) rfl (s0 rfl trivial (fun _ => r_mi rfl) rfl (s0 rfl trivial (fun _ => r_mi rfl) rfl (s0 rfl trivial (fun _ => r_ib rfl rfl rfl) rfl (s0 rfl trivial (fun _ => r_ixe hv1 rfl Try.underlying56 Try.sizeOf60 hp1 hl1 he1) rfl (s1 rfl trivial (r_ldS rfl Try.isAgg60 Try.sizeOf60 rfl hc1 (cs := (cAllocReach u1))) rfl (s0 rfl trivial (fun _ => r_ms rfl) rfl (s0 rfl trivial (fun _ => r_mi rfl) rfl (s0 rfl trivial (fun _ => r_ixe hv2 rfl Try.underlying56 Try.sizeOf60 hp2 hl2 he2) rfl (s1 rfl trivial (r_ldS rfl Try.isAgg60 Try.sizeOf60 rfl hc2 (cs := (cAllocReach u2))) rfl (s0 rfl trivial (fun _ => r_ixe hv3 rfl Try.underlying56 Try.sizeOf60 hp3 hl3 he3) rfl (s2 [] rfl trivial rfl (by kernel_rfl) (stO (q := 1) (i := Int.toNat x2) (j := 0) (u := u4) (u' := u1) hS7 ⟨rfl, rfl⟩ hv3 (idx_some hx6).2.2 he3 rfl rfl rfl Try.sizeOf60 rfl rfl rfl (fun c0 hc0 => by rw [storeL_all (r := rAllocReach) hc0 rfl]; exact (rAllocReach_mk (x := u1)  : rAllocReach.rp _ _ _ _)) fun w8 im8 hS8 => ?_))))))))))))))))))
      have hS8 : Sep g T4 w8 [R, ownA rAllocReach 60 (.slice a1 n1 c1) (List.set x1 (Int.toNat x2) u1), boxA b1 [.int .u64 y2.2]] := hS8
      refine ⟨st0, ?_⟩
      obtain ⟨u5, hx7, hm⟩ := bindS hm
      obtain ⟨b5, of4, cs4, k4, cp4, hv4, hp4, hl4, he4, hr4, hc4⟩ := (hS8.own (i := 1) ⟨rfl, rfl⟩).v.ixq hx7 rfl
      cases rAllocReach_open hr4
      obtain ⟨u6, hx8, hm⟩ := bindS hm
      refine s0 rfl trivial (fun _ => r_ixe hv4 rfl Try.underlying56 Try.sizeOf60 hp4 hl4 he4) rfl (s2 [] rfl trivial rfl (by kernel_rfl) (stO (q := 1) (i := Int.toNat (IntKind.wrap .i64 (p1 + x4))) (j := 0) (u := u6) (u' := u2) hS8 ⟨rfl, rfl⟩ hv4 (idx_some hx8).2.2 he4 rfl rfl rfl Try.sizeOf60 rfl rfl rfl (fun c0 hc0 => by rw [storeL_all (r := rAllocReach) hc0 rfl]; exact (rAllocReach_mk (x := u2)  : rAllocReach.rp _ _ _ _)) fun w9 im9 hS9 => ?_))
      have hS9 : Sep g T4 w9 [R, ownA rAllocReach 60 (.slice a1 n1 c1) (List.set (List.set x1 (Int.toNat x2) u1) (Int.toNat (IntKind.wrap .i64 (p1 + x4))) u2), boxA b1 [.int .u64 y2.2]] := hS9
      refine ⟨st0, ?_⟩
      refine se (t_blk (t_then ?_))
      have hm := oI hm; subst hm
      exact rg (pv (r_mi rfl) (pv (r_ib rfl rfl rfl) (pv (r_zi rfl) (nil (t_then ⟨m1, Nat.lt_succ_self _, _, _, y2.2, (List.set (List.set x1 (Int.toNat x2) u1) (Int.toNat (IntKind.wrap .i64 (p1 + x4))) u2), (IntKind.wrap .i64 (x2 + 1)), env_has ⟨rfl, rfl, rfl, rfl, rfl, rfl, trivial⟩, (iT im4 (iT im5 (iT im6 (iT im7 (iT im8 im9))))), hS9.sel [2, 0, 1] rfl, hn1⟩)))))
    have hm := cfalse hb2 hm
    have hm := oI hm; subst hm
    have hn1 : _ = Lp.brk _ := hn1
    subst hn1
    have hm := thn_brk hq1
    have hm := oI hm; subst hm
    exact xt (x_then (x_then (x_eq (end0 rfl ⟨_, rfl, _, (iT im1 (iT im2 (iT im3 im4))), ⟨rfl, hS4.sel [1, 2] rfl, trivial⟩⟩))))
  have hm := cfalse hb1 hm
  have hm := oI hm; subst hm
  exact skp (end0 rfl ⟨_, rfl, _, Im.refl, ⟨rfl, hS.sel [0, 1] rfl, trivial⟩⟩)

set_option maxRecDepth 100000 in
set_option maxHeartbeats 1000000 in
theorem slices_order2CmpFunc_sim {g : World} {T0 : Nat → Prop} {w0 : World} {R : Assn} {p0 : List AllocReach} {v_p0 : Value} {H_p0 : Assn} {p1 : Int} {p2 : Int} {p3 : Int} {b_p3 o_p3 : Nat} {H_p3 : List Value → Assn} {r : Int × Int × Int} (hS : Sep g T0 w0 [R, H_p0, H_p3 [.int .i64 p3]]) (hV_p0 : Vw H_p0 rAllocReach v_p0 p0) (hL_p3 : Ln b_p3 o_p3 H_p3) (hm : slices_order2CmpFunc p0 p1 p2 p3 = some r) :
    Calls Try.prog 80 #[v_p0, .int .i64 p1, .int .i64 p2, .pointer (some ⟨b_p3, o_p3, none⟩), .func (.func 20) #[] #[]] w0 (RetS T0 w0 fun T w v => v = .tuple #[.int .i64 r.1, .int .i64 r.2.1] ∧ Sep g T w [R, H_p0, H_p3 [.int .i64 r.2.2]] ∧ True) := by
  refine enter (args := [v_p0, .int .i64 p1, .int .i64 p2, .pointer (some ⟨b_p3, o_p3, none⟩), .func (.func 20) #[] #[]]) Try.func80 rfl Try.ntmps80 rfl fun J => ?_
  unfold slices_order2CmpFunc at hm
  refine sq2 (rg (pv (r_zi rfl) (pv (r_zi rfl) (nil (t_then ?_)))))
  refine sq2 (sq2 (rs [0, 0, 0, 0, 1, 0, 0, 0, 1, 2, 0] [0, 1, 2, 3, 4, 5, 6, 7, 8, 9, 10] mix (by kernel_rfl) hS.lt fun w1 i1 => ?_))
  have im1 := i1.imm
  have hS1 := hS.keep i1 (fun _ h => h)
  obtain ⟨u1, hx1, hm⟩ := bindS hm
  obtain ⟨b1, of1, cs1, k1, cp1, hv1, hp1, hl1, he1, hr1, hc1⟩ := (hS1.view (i := 1) ⟨rfl, rfl⟩ hV_p0).ixq hx1 rfl
  cases rAllocReach_open hr1
  obtain ⟨u2, hx2, hm⟩ := bindS hm
  obtain ⟨b2, of2, cs2, k2, cp2, hv2, hp2, hl2, he2, hr2, hc2⟩ := (hS1.view (i := 1) ⟨rfl, rfl⟩ hV_p0).ixq hx2 rfl
  cases rAllocReach_open hr2
  obtain ⟨y1, hx3, hm⟩ := bindS hm
  refine s0 rfl trivial (fun _ => r_mf rfl) rfl (s0 rfl trivial (fun _ => r_mx (v := v_p0) rfl) rfl (s0 rfl trivial (fun _ => r_mi rfl) rfl (s0 rfl trivial (fun _ => r_ixe hv1 rfl Try.underlying56 Try.sizeOf60 hp1 hl1 he1) rfl (s1 rfl trivial (r_ldS rfl Try.isAgg60 Try.sizeOf60 rfl hc1 (cs := (cAllocReach u1))) rfl (s0 rfl trivial (fun _ => r_mx (v := v_p0) rfl) rfl (s0 rfl trivial (fun _ => r_mi rfl) rfl (s0 rfl trivial (fun _ => r_ixe hv2 rfl Try.underlying56 Try.sizeOf60 hp2 hl2 he2) rfl (s1 rfl trivial (r_ldS rfl Try.isAgg60 Try.sizeOf60 rfl hc2 (cs := (cAllocReach u2))) rfl (s2 [] rfl trivial rfl (by kernel_rfl) (calS cf20 rfl (alloc_Assign_2_sim (p0 := u1) (p1 := u2) (hS1.bun [0, 1, 2] [] rfl)  hx3) rfl fun v1 T1 w2 im2 rv1 => ?_))))))))))
  obtain ⟨rfl, hS2, _⟩ := rv1
  have hS2 : Sep g T1 w2 [R, H_p0, H_p3 [.int .i64 p3]] := hS2.unb
  refine ⟨st0, ?_⟩
  refine s0 rfl trivial (fun _ => r_ib rfl rfl rfl) rfl (se (t_then ?_))
  refine cnd rfl (fun hb1 => ?_) (fun hb1 => ?_)
  · have hm := ctrue hb1 hm
    refine sq2 (rg (pv (r_mp rfl) (pv (r_nc rfl) (pv (r_ld rfl Try.isAgg3 (hS2.cellB (i := 2) ⟨rfl, rfl⟩ hL_p3 (j := 0) rfl)) (pv (r_ib rfl rfl rfl) (pv (r_nc rfl) (wl rfl (stB (q := 2) (j := 0) hS2 ⟨rfl, rfl⟩ hL_p3 rfl rfl rfl Try.sizeOf3 rfl rfl rfl fun w3 im3 hS3 => ?_))))))))
    have hS3 : Sep g T1 w3 [R, H_p0, H_p3 [.int .i64 (IntKind.wrap .i64 (p3 + 1))]] := hS3
    refine nil (t_then ?_)
    refine sq2 (rg (pv (r_mi rfl) (pv (r_mi rfl) (pv (r_zi rfl) (pv (r_zi rfl) (nil (t_thenR [(10, .int .i64 p2), (11, .int .i64 p1)] ⟨rfl, rfl, trivial⟩ fun J => ?_)))))))
    have hm := oI hm; subst hm
    exact rtn (r_then (retN (vs := [.int .i64 p2, .int .i64 p1]) rfl ⟨rfl, rfl, trivial⟩ rfl ⟨_, rfl, _, (iT im1 (iT im2 im3)), ⟨rfl, hS3.sel [0, 1, 2] rfl, trivial⟩⟩))
  have hm := cfalse hb1 hm
  refine skp (t_then ?_)
  refine sq2 (rg (pv (r_mi rfl) (pv (r_mi rfl) (pv (r_zi rfl) (pv (r_zi rfl) (nil (t_then ?_)))))))
  have hm := oI hm; subst hm
  exact rtn (retN (vs := [.int .i64 p1, .int .i64 p2]) rfl ⟨rfl, rfl, trivial⟩ rfl ⟨_, rfl, _, (iT im1 im2), ⟨rfl, hS2.sel [0, 1, 2] rfl, trivial⟩⟩)

set_option maxRecDepth 100000 in
set_option maxHeartbeats 1000000 in
theorem slices_medianCmpFunc_sim {g : World} {T0 : Nat → Prop} {w0 : World} {R : Assn} {p0 : List AllocReach} {v_p0 : Value} {H_p0 : Assn} {p1 : Int} {p2 : Int} {p3 : Int} {p4 : Int} {b_p4 o_p4 : Nat} {H_p4 : List Value → Assn} {r : Int × Int} (hS : Sep g T0 w0 [R, H_p0, H_p4 [.int .i64 p4]]) (hV_p0 : Vw H_p0 rAllocReach v_p0 p0) (hL_p4 : Ln b_p4 o_p4 H_p4) (hm : slices_medianCmpFunc p0 p1 p2 p3 p4 = some r) :
    Calls Try.prog 75 #[v_p0, .int .i64 p1, .int .i64 p2, .int .i64 p3, .pointer (some ⟨b_p4, o_p4, none⟩), .func (.func 20) #[] #[]] w0 (RetS T0 w0 fun T w v => v = .int .i64 r.1 ∧ Sep g T w [R, H_p0, H_p4 [.int .i64 r.2]] ∧ True) := by
  refine enter (args := [v_p0, .int .i64 p1, .int .i64 p2, .int .i64 p3, .pointer (some ⟨b_p4, o_p4, none⟩), .func (.func 20) #[] #[]]) Try.func75 rfl Try.ntmps75 rfl fun J => ?_
  unfold slices_medianCmpFunc at hm
  refine sq2 (rg (pv (r_zi rfl) (nil (t_then ?_))))
  refine sq2 ?_
  obtain ⟨y1, hx1, hm⟩ := bindS hm
  refine rg (pv (r_mx (v := v_p0) rfl) (pv (r_mi rfl) (pv (r_mi rfl) (pv (r_mp rfl) (pv (r_mf rfl) (wl rfl (calS cf80 rfl (slices_order2CmpFunc_sim (p0 := p0) (H_p0 := H_p0) (p1 := p1) (p2 := p2) (p3 := p4) (H_p3 := H_p4) (hS.bun [0] [1, 2] rfl) hV_p0 hL_p4 hx1) rfl fun v1 T1 w1 im1 rv1 => ?_)))))))
  obtain ⟨rfl, hS1, _⟩ := rv1
  have hS1 : Sep g T1 w1 [R, H_p0, H_p4 [.int .i64 y1.2.2]] := hS1.unb
  refine pv (r_mv rfl) (pv (r_ex (v := .int .i64 y1.1) rfl rfl) (pv (r_ex (v := .int .i64 y1.2.1) rfl rfl) (pv (r_zi rfl) (pv (r_zi rfl) (nil (t_then ?_))))))
  refine sq2 ?_
  obtain ⟨y2, hx2, hm⟩ := bindS hm
  refine rg (pv (r_mx (v := v_p0) rfl) (pv (r_mi rfl) (pv (r_mi rfl) (pv (r_mp rfl) (pv (r_mf rfl) (wl rfl (calS cf80 rfl (slices_order2CmpFunc_sim (p0 := p0) (H_p0 := H_p0) (p1 := y1.2.1) (p2 := p3) (p3 := y1.2.2) (H_p3 := H_p4) (hS1.bun [0] [1, 2] rfl) hV_p0 hL_p4 hx2) rfl fun v2 T2 w2 im2 rv2 => ?_)))))))
  obtain ⟨rfl, hS2, _⟩ := rv2
  have hS2 : Sep g T2 w2 [R, H_p0, H_p4 [.int .i64 y2.2.2]] := hS2.unb
  refine pv (r_mv rfl) (pv (r_ex (v := .int .i64 y2.1) rfl rfl) (pv (r_ex (v := .int .i64 y2.2.1) rfl rfl) (pv (r_zi rfl) (pv (r_zi rfl) (nil (t_then ?_))))))
  refine sq2 ?_
  obtain ⟨y3, hx3, hm⟩ := bindS hm
  refine rg (pv (r_mx (v := v_p0) rfl) (pv (r_mi rfl) (pv (r_mi rfl) (pv (r_mp rfl) (pv (r_mf rfl) (wl rfl (calS cf80 rfl (slices_order2CmpFunc_sim (p0 := p0) (H_p0 := H_p0) (p1 := y1.1) (p2 := y2.1) (p3 := y2.2.2) (H_p3 := H_p4) (hS2.bun [0] [1, 2] rfl) hV_p0 hL_p4 hx3) rfl fun v3 T3 w3 im3 rv3 => ?_)))))))
  obtain ⟨rfl, hS3, _⟩ := rv3
  have hS3 : Sep g T3 w3 [R, H_p0, H_p4 [.int .i64 y3.2.2]] := hS3.unb
  refine pv (r_mv rfl) (pv (r_ex (v := .int .i64 y3.1) rfl rfl) (pv (r_ex (v := .int .i64 y3.2.1) rfl rfl) (pv (r_zi rfl) (pv (r_zi rfl) (nil (t_thenR [(2, .int .i64 y3.2.1)] ⟨rfl, trivial⟩ fun J => ?_))))))
  refine sq2 (rg (pv (r_mi rfl) (pv (r_zi rfl) (nil (t_then ?_)))))
  have hm := oI hm; subst hm
  exact rtn (ret1 rfl rfl ⟨_, rfl, _, (iT im1 (iT im2 im3)), ⟨rfl, hS3.sel [0, 1, 2] rfl, trivial⟩⟩)

set_option maxRecDepth 100000 in
set_option maxHeartbeats 1000000 in
theorem slices_medianAdjacentCmpFunc_sim {g : World} {T0 : Nat → Prop} {w0 : World} {R : Assn} {p0 : List AllocReach} {v_p0 : Value} {H_p0 : Assn} {p1 : Int} {p2 : Int} {b_p2 o_p2 : Nat} {H_p2 : List Value → Assn} {r : Int × Int} (hS : Sep g T0 w0 [R, H_p0, H_p2 [.int .i64 p2]]) (hV_p0 : Vw H_p0 rAllocReach v_p0 p0) (hL_p2 : Ln b_p2 o_p2 H_p2) (hm : slices_medianAdjacentCmpFunc p0 p1 p2 = some r) :
    Calls Try.prog 74 #[v_p0, .int .i64 p1, .pointer (some ⟨b_p2, o_p2, none⟩), .func (.func 20) #[] #[]] w0 (RetS T0 w0 fun T w v => v = .int .i64 r.1 ∧ Sep g T w [R, H_p0, H_p2 [.int .i64 r.2]] ∧ True) := by
  refine enter (args := [v_p0, .int .i64 p1, .pointer (some ⟨b_p2, o_p2, none⟩), .func (.func 20) #[] #[]]) Try.func74 rfl Try.ntmps74 rfl fun J => ?_
  unfold slices_medianAdjacentCmpFunc at hm
  refine sq2 (rg (pv (r_zi rfl) (nil (t_then ?_))))
  refine sq2 ?_
  obtain ⟨y1, hx1, hm⟩ := bindS hm
  refine rg (pv (r_mx (v := v_p0) rfl) (pv (r_mi rfl) (pv (r_ib rfl rfl rfl) (pv (r_mi rfl) (pv (r_mi rfl) (pv (r_ib rfl rfl rfl) (pv (r_mp rfl) (pv (r_mf rfl) (wl rfl (calS cf75 rfl (slices_medianCmpFunc_sim (p0 := p0) (H_p0 := H_p0) (p1 := IntKind.wrap .i64 (p1 - 1)) (p2 := p1) (p3 := IntKind.wrap .i64 (p1 + 1)) (p4 := p2) (H_p4 := H_p2) (hS.bun [0] [1, 2] rfl) hV_p0 hL_p2 hx1) rfl fun v1 T1 w1 im1 rv1 => ?_))))))))))
  obtain ⟨rfl, hS1, _⟩ := rv1
  have hS1 : Sep g T1 w1 [R, H_p0, H_p2 [.int .i64 y1.2]] := hS1.unb
  refine pv (r_zi rfl) (nil (t_then ?_))
  have hm := oI hm; subst hm
  exact rtn (ret1 rfl rfl ⟨_, rfl, _, im1, ⟨rfl, hS1.sel [0, 1, 2] rfl, trivial⟩⟩)

set_option maxRecDepth 100000 in
set_option maxHeartbeats 1000000 in
theorem slices_choosePivotCmpFunc_sim {g : World} {T0 : Nat → Prop} {w0 : World} {R : Assn} {p0 : List AllocReach} {v_p0 : Value} {H_p0 : Assn} {p1 : Int} {p2 : Int} {r : Int × Int} (hS : Sep g T0 w0 [R, H_p0]) (hV_p0 : Vw H_p0 rAllocReach v_p0 p0) (hm : slices_choosePivotCmpFunc p0 p1 p2 = some r) :
    Calls Try.prog 56 #[v_p0, .int .i64 p1, .int .i64 p2, .func (.func 20) #[] #[]] w0 (RetS T0 w0 fun T w v => v = .tuple #[.int .i64 r.1, .int .i64 r.2] ∧ Sep g T w [R, H_p0] ∧ True) := by
  refine enter (args := [v_p0, .int .i64 p1, .int .i64 p2, .func (.func 20) #[] #[]]) Try.func56 rfl Try.ntmps56 rfl fun J => ?_
  unfold slices_choosePivotCmpFunc at hm
  refine sq2 (rg (pv (r_zi rfl) (pv (r_zi rfl) (nil (t_then ?_)))))
  refine sq2 (rg (pv (r_mi rfl) (pv (r_mi rfl) (pv (r_ib rfl rfl rfl) (pv (r_zi rfl) (nil (t_then ?_)))))))
  refine sq2 (rg (wl rfl (alS (zs := [.int .i64 0]) Try.zeroValue3 rfl hS fun w1 b1 im1 hS1 => ?_)))
  refine nil (t_then ?_)
  refine sq2 (rg (pv (r_mi rfl) (pv (r_mi rfl) (pv (r_iq rfl rfl (by decide)) (pv (r_ib rfl rfl rfl) (pv (r_ib rfl rfl rfl) (pv (r_zi rfl) (nil (t_then ?_)))))))))
  refine sq2 (rg (pv (r_mi rfl) (pv (r_mi rfl) (pv (r_iq rfl rfl (by decide)) (pv (r_ib rfl rfl rfl) (pv (r_ib rfl rfl rfl) (pv (r_zi rfl) (nil (t_then ?_)))))))))
  refine sq2 (rg (pv (r_mi rfl) (pv (r_mi rfl) (pv (r_iq rfl rfl (by decide)) (pv (r_ib rfl rfl rfl) (pv (r_ib rfl rfl rfl) (pv (r_zi rfl) (nil (t_then ?_)))))))))
  obtain ⟨kk1, hkk1, hm⟩ := jn_open hm
  refine cut (fun a w2 => ∃ (J : Nat → Value) (T1 : Nat → Prop) (x2 : Int) (x1 : Int), a = env (nf 63) J [(11, .pointer (some ⟨b1, 0, none⟩)), (13, .int .i64 x1)] ∧ Im T0 w1 T1 w2 ∧ Sep g T1 w2 [boxA b1 [.int .i64 x2], R, H_p0] ∧ kk1 x1 x2 = some r) ?_ ?_
  · refine sq2 (rg (pv (r_mi rfl) (pv (r_ib rfl rfl rfl) (nil (t_then ?_)))))
    refine cnd rfl (fun hb1 => ?_) (fun hb1 => ?_)
    · have hm := ctrue hb1 hm
      obtain ⟨kk2, hkk2, hm⟩ := jn_open hm
      refine cut (fun a w3 => ∃ (J : Nat → Value) (T2 : Nat → Prop) (x6 : Int) (x3 : Int) (x4 : Int) (x5 : Int), a = env (nf 63) J [(0, v_p0), (3, .func (.func 20) #[] #[]), (11, .pointer (some ⟨b1, 0, none⟩)), (12, .int .i64 x3), (13, .int .i64 x4), (14, .int .i64 x5)] ∧ Im T0 w1 T2 w3 ∧ Sep g T2 w3 [boxA b1 [.int .i64 x6], R, H_p0] ∧ kk2 x3 x4 x5 x6 = some r) ?_ ?_
      · refine sq2 (rg (pv (r_mi rfl) (pv (r_ib rfl rfl rfl) (nil (t_thenR [(0, v_p0), (3, .func (.func 20) #[] #[]), (11, .pointer (some ⟨b1, 0, none⟩)), (12, .int .i64 (IntKind.wrap .i64 (p1 + (IntKind.wrap .i64 ((IntKind.wrap .i64 (Int.tdiv (IntKind.wrap .i64 (p2 - p1)) 4)) * 1))))), (13, .int .i64 (IntKind.wrap .i64 (p1 + (IntKind.wrap .i64 ((IntKind.wrap .i64 (Int.tdiv (IntKind.wrap .i64 (p2 - p1)) 4)) * 2))))), (14, .int .i64 (IntKind.wrap .i64 (p1 + (IntKind.wrap .i64 ((IntKind.wrap .i64 (Int.tdiv (IntKind.wrap .i64 (p2 - p1)) 4)) * 3))))), (36, .bool (decide (50 ≤ (IntKind.wrap .i64 (p2 - p1)))))] ⟨rfl, rfl, rfl, rfl, rfl, rfl, rfl, trivial⟩ fun J => ?_)))))
        refine cnd rfl (fun hb2 => ?_) (fun hb2 => ?_)
        · have hm := ctrue hb2 hm
          refine sq2 ?_
          obtain ⟨y1, hx1, hm⟩ := bindS hm
          refine rg (pv (r_mx (v := v_p0) rfl) (pv (r_mi rfl) (pv (r_mf rfl) (wl rfl (calS cf74 rfl (slices_medianAdjacentCmpFunc_sim (p0 := p0) (H_p0 := H_p0) (p1 := IntKind.wrap .i64 (p1 + (IntKind.wrap .i64 ((IntKind.wrap .i64 (Int.tdiv (IntKind.wrap .i64 (p2 - p1)) 4)) * 1)))) (p2 := 0) (H_p2 := boxA b1) (hS1.bun [1] [2, 0] rfl) hV_p0 (lnBox b1) hx1) rfl fun v1 T3 w4 im4 rv1 => ?_)))))
          obtain ⟨rfl, hS2, _⟩ := rv1
          have hS2 : Sep g T3 w4 [R, H_p0, boxA b1 [.int .i64 y1.2]] := hS2.unb
          refine pv (r_zi rfl) (nil (t_then ?_))
          refine sq2 ?_
          obtain ⟨y2, hx2, hm⟩ := bindS hm
          refine rg (pv (r_mx (v := v_p0) rfl) (pv (r_mi rfl) (pv (r_mf rfl) (wl rfl (calS cf74 rfl (slices_medianAdjacentCmpFunc_sim (p0 := p0) (H_p0 := H_p0) (p1 := IntKind.wrap .i64 (p1 + (IntKind.wrap .i64 ((IntKind.wrap .i64 (Int.tdiv (IntKind.wrap .i64 (p2 - p1)) 4)) * 2)))) (p2 := y1.2) (H_p2 := boxA b1) (hS2.bun [0] [1, 2] rfl) hV_p0 (lnBox b1) hx2) rfl fun v2 T4 w5 im5 rv2 => ?_)))))
          obtain ⟨rfl, hS3, _⟩ := rv2
          have hS3 : Sep g T4 w5 [R, H_p0, boxA b1 [.int .i64 y2.2]] := hS3.unb
          refine pv (r_zi rfl) (nil (t_then ?_))
          obtain ⟨y3, hx3, hm⟩ := bindS hm
          refine rg (pv (r_mx (v := v_p0) rfl) (pv (r_mi rfl) (pv (r_mf rfl) (wl rfl (calS cf74 rfl (slices_medianAdjacentCmpFunc_sim (p0 := p0) (H_p0 := H_p0) (p1 := IntKind.wrap .i64 (p1 + (IntKind.wrap .i64 ((IntKind.wrap .i64 (Int.tdiv (IntKind.wrap .i64 (p2 - p1)) 4)) * 3)))) (p2 := y2.2) (H_p2 := boxA b1) (hS3.bun [0] [1, 2] rfl) hV_p0 (lnBox b1) hx3) rfl fun v3 T5 w6 im6 rv3 => ?_)))))
          obtain ⟨rfl, hS4, _⟩ := rv3
          have hS4 : Sep g T5 w6 [R, H_p0, boxA b1 [.int .i64 y3.2]] := hS4.unb
          exact pv (r_zi rfl) (nil (t_then ⟨_, _, y3.2, y1.1, y2.1, y3.1, env_has ⟨rfl, rfl, rfl, rfl, rfl, rfl, trivial⟩, (iT im4 (iT im5 im6)), hS4.sel [2, 0, 1] rfl, hm⟩))
        have hm := cfalse hb2 hm
        exact skp (t_then ⟨_, _, 0, (IntKind.wrap .i64 (p1 + (IntKind.wrap .i64 ((IntKind.wrap .i64 (Int.tdiv (IntKind.wrap .i64 (p2 - p1)) 4)) * 1)))), (IntKind.wrap .i64 (p1 + (IntKind.wrap .i64 ((IntKind.wrap .i64 (Int.tdiv (IntKind.wrap .i64 (p2 - p1)) 4)) * 2)))), (IntKind.wrap .i64 (p1 + (IntKind.wrap .i64 ((IntKind.wrap .i64 (Int.tdiv (IntKind.wrap .i64 (p2 - p1)) 4)) * 3)))), env_has ⟨rfl, rfl, rfl, rfl, rfl, rfl, trivial⟩, Im.refl, hS1.sel [0, 1, 2] rfl, hm⟩)
      rintro _ w3 ⟨J, T2, x6, x3, x4, x5, rfl, im3, hS5, hm⟩
      rw [hkk2] at hm
      obtain ⟨y4, hx4, hm⟩ := bindS hm
      refine rg (pv (r_mx (v := v_p0) rfl) (pv (r_mi rfl) (pv (r_mi rfl) (pv (r_mi rfl) (pv (r_mf rfl) (wl rfl (calS cf75 rfl (slices_medianCmpFunc_sim (p0 := p0) (H_p0 := H_p0) (p1 := x3) (p2 := x4) (p3 := x5) (p4 := x6) (H_p4 := boxA b1) (hS5.bun [1] [2, 0] rfl) hV_p0 (lnBox b1) hx4) rfl fun v4 T6 w7 im7 rv4 => ?_)))))))
      obtain ⟨rfl, hS6, _⟩ := rv4
      have hS6 : Sep g T6 w7 [R, H_p0, boxA b1 [.int .i64 y4.2]] := hS6.unb
      exact pv (r_zi rfl) (nil (t_then ⟨_, _, y4.2, y4.1, env_has ⟨rfl, rfl, trivial⟩, (iT im3 im7), hS6.sel [2, 0, 1] rfl, hm⟩))
    have hm := cfalse hb1 hm
    exact skp (t_then ⟨_, _, 0, (IntKind.wrap .i64 (p1 + (IntKind.wrap .i64 ((IntKind.wrap .i64 (Int.tdiv (IntKind.wrap .i64 (p2 - p1)) 4)) * 2)))), env_has ⟨rfl, rfl, trivial⟩, Im.refl, hS1.sel [0, 1, 2] rfl, hm⟩)
  rintro _ w2 ⟨J, T1, x2, x1, rfl, im2, hS7, hm⟩
  rw [hkk1] at hm
  refine sq2 (rg (pv (r_ld rfl Try.isAgg3 (hS7.cell0 (i := 0) ⟨rfl, rfl⟩ (j := 0) rfl)) (nil (t_then ?_))))
  refine blk (sq2 (rg (pv (r_ib rfl rfl rfl) (pv (r_zb rfl) (nil (t_then ?_))))))
  refine cnd rfl (fun hb3 => ?_) (fun hb3 => ?_)
  · have hm := ctrue hb3 hm
    refine sq2 (rg (pv (r_mi rfl) (pv (r_zi rfl) (pv (r_zi rfl) (nil (t_then ?_))))))
    have hm := oI hm; subst hm
    exact rtn (r_blk (retN (vs := [.int .i64 x1, .int .i64 1]) rfl ⟨rfl, rfl, trivial⟩ rfl ⟨_, rfl, _, (iT im1 im2), ⟨rfl, hS7.sel [1, 2] rfl, trivial⟩⟩))
  have hm := cfalse hb3 hm
  refine sq2 (rg (pv (r_ib rfl rfl rfl) (pv (r_zb rfl) (nil (t_then ?_)))))
  refine cnd rfl (fun hb4 => ?_) (fun hb4 => ?_)
  · have hm := ctrue hb4 hm
    refine sq2 (rg (pv (r_mi rfl) (pv (r_zi rfl) (pv (r_zi rfl) (nil (t_then ?_))))))
    have hm := oI hm; subst hm
    exact rtn (r_blk (retN (vs := [.int .i64 x1, .int .i64 2]) rfl ⟨rfl, rfl, trivial⟩ rfl ⟨_, rfl, _, (iT im1 im2), ⟨rfl, hS7.sel [1, 2] rfl, trivial⟩⟩))
  have hm := cfalse hb4 hm
  refine sq2 (rg (pv (r_mi rfl) (pv (r_zi rfl) (pv (r_zi rfl) (nil (t_then ?_))))))
  have hm := oI hm; subst hm
  exact rtn (r_blk (retN (vs := [.int .i64 x1, .int .i64 0]) rfl ⟨rfl, rfl, trivial⟩ rfl ⟨_, rfl, _, (iT im1 im2), ⟨rfl, hS7.sel [1, 2] rfl, trivial⟩⟩))

set_option maxRecDepth 100000 in
set_option maxHeartbeats 1000000 in
theorem slices_reverseRangeCmpFunc_sim {g : World} {T0 : Nat → Prop} {w0 : World} {R : Assn} {p0 : List AllocReach} {a1 : Option Addr} {n1 : Nat} {c1 : Nat} {p1 : Int} {p2 : Int} {r : (List AllocReach)} (hS : Sep g T0 w0 [R, ownA rAllocReach 60 (.slice a1 n1 c1) p0])  (hm : slices_reverseRangeCmpFunc p0 p1 p2 = some r) :
    Calls Try.prog 57 #[.slice a1 n1 c1, .int .i64 p1, .int .i64 p2, .func (.func 20) #[] #[]] w0 (RetS T0 w0 fun T w v => v = .tuple #[] ∧ Sep g T w [R, ownA rAllocReach 60 (.slice a1 n1 c1) r] ∧ True) := by
  refine enter (args := [.slice a1 n1 c1, .int .i64 p1, .int .i64 p2, .func (.func 20) #[] #[]]) Try.func57 rfl Try.ntmps57 rfl fun J => ?_
  unfold slices_reverseRangeCmpFunc at hm
  refine sq2 (rg (pv (r_mi rfl) (pv (r_zi rfl) (nil (t_then ?_)))))
  refine sq2 (rg (pv (r_mi rfl) (pv (r_ib rfl rfl rfl) (pv (r_zi rfl) (nil (t_then ?_))))))
  obtain ⟨o1, ho1, hq1⟩ := bindS hm
  obtain ⟨bd1, hbd1, ho1⟩ := loop_open ho1
  refine blk (wp_loop_ghost (fun m a w1 => ∃ (J : Nat → Value) (T1 : Nat → Prop) (x1 : List AllocReach) (x2 : Int) (x3 : Int), a = env (nf 34) J [(0, .slice a1 n1 c1), (8, .int .i64 x2), (9, .int .i64 x3)] ∧ Im T0 w0 T1 w1 ∧ Sep g T1 w1 [R, ownA rAllocReach 60 (.slice a1 n1 c1) x1] ∧ loopM bd1 m (x1, x2, x3) = some o1) NN ⟨_, _, p0, p1, (IntKind.wrap .i64 (p2 - 1)), env_has ⟨rfl, rfl, rfl, trivial⟩, Im.refl, hS.sel [0, 1] rfl, ho1⟩ ?_)
  rintro m _ w1 ⟨J, T1, x1, x2, x3, rfl, im1, hS1, ho1⟩
  obtain ⟨m1, z1, rfl, hm, hn1⟩ := loop_round ho1
  rw [hbd1] at hm
  refine sq2 (sq2 (rg (pv (r_mi rfl) (pv (r_mi rfl) (pv (r_ib rfl rfl rfl) (nil (t_then ?_)))))))
  refine cnd rfl (fun hb1 => ?_) (fun hb1 => ?_)
  · have hm := ctrue hb1 hm
    refine skp (t_then ?_)
    refine blk (sq2 (rs [0, 0, 0, 0, 0, 0, 0, 1, 0, 0, 0, 1, 0, 2, 0, 2] [0, 1, 2, 3, 4, 5, 6, 7, 8, 9, 10, 11, 12, 13, 14, 15] mix (by kernel_rfl) hS1.lt fun w2 i1 => ?_))
    have im2 := i1.imm
    have hS2 := hS1.keep i1 (fun _ h => h)
    obtain ⟨u1, hx1, hm⟩ := bindS hm
    obtain ⟨b1, of1, cs1, k1, cp1, hv1, hp1, hl1, he1, hr1, hc1⟩ := (hS2.own (i := 1) ⟨rfl, rfl⟩).v.ixq hx1 rfl
    cases rAllocReach_open hr1
    obtain ⟨u2, hx2, hm⟩ := bindS hm
    obtain ⟨b2, of2, cs2, k2, cp2, hv2, hp2, hl2, he2, hr2, hc2⟩ := (hS2.own (i := 1) ⟨rfl, rfl⟩).v.ixq hx2 rfl
    cases rAllocReach_open hr2
    obtain ⟨u3, hx3, hm⟩ := bindS hm
    obtain ⟨b3, of3, cs3, k3, cp3, hv3, hp3, hl3, he3, hr3, hc3⟩ := (hS2.own (i := 1) ⟨rfl, rfl⟩).v.ixq hx3 rfl
    cases rAllocReach_open hr3
    obtain ⟨u4, hx4, hm⟩ := bindS hm
    refine s0 rfl trivial (fun _ => r_ms rfl) rfl (s0 rfl trivial (fun _ => r_mi rfl) rfl (s0 rfl trivial (fun _ => r_ms rfl) rfl (s0 rfl trivial (fun _ => r_mi rfl) rfl (s0 rfl trivial (fun _ => r_ms rfl) rfl (s0 rfl trivial (fun _ => r_mi rfl) rfl (s0 rfl trivial (fun _ => r_ixe hv1 rfl Try.underlying56 Try.sizeOf60 hp1 hl1 he1) rfl (s1 rfl trivial (r_ldS rfl Try.isAgg60 Try.sizeOf60 rfl hc1 (cs := (cAllocReach u1))) rfl (s0 rfl trivial (fun _ => r_ms rfl) rfl (s0 rfl trivial (fun _ => r_mi rfl) rfl (s0 rfl trivial (fun _ => r_ixe hv2 rfl Try.underlying56 Try.sizeOf60 hp2 hl2 he2) rfl (s1 rfl trivial (r_ldS rfl Try.isAgg60 Try.sizeOf60 rfl hc2 (cs := (cAllocReach u2))) rfl (s0 rfl trivial (fun _ => r_ixe hv3 rfl Try.underlying56 Try.sizeOf60 hp3 hl3 he3) rfl (s2 [] rfl trivial rfl (by kernel_rfl) (stO (q := 1) (i := Int.toNat x2) (j := 0) (u := u4) (u' := u1) hS2 ⟨rfl, rfl⟩ hv3 (idx_some hx4).2.2 he3 rfl rfl rfl Try.sizeOf60 rfl rfl rfl (fun c0 hc0 => by rw [storeL_all (r := rAllocReach) hc0 rfl]; exact (rAllocReach_mk (x := u1)  : rAllocReach.rp _ _ _ _)) fun w3 im3 hS3 => ?_))))))))))))))
    have hS3 : Sep g T1 w3 [R, ownA rAllocReach 60 (.slice a1 n1 c1) (List.set x1 (Int.toNat x2) u1)] := hS3
    refine ⟨st0, ?_⟩
    obtain ⟨u5, hx5, hm⟩ := bindS hm
    obtain ⟨b4, of4, cs4, k4, cp4, hv4, hp4, hl4, he4, hr4, hc4⟩ := (hS3.own (i := 1) ⟨rfl, rfl⟩).v.ixq hx5 rfl
    cases rAllocReach_open hr4
    obtain ⟨u6, hx6, hm⟩ := bindS hm
    refine s0 rfl trivial (fun _ => r_ixe hv4 rfl Try.underlying56 Try.sizeOf60 hp4 hl4 he4) rfl (s2 [] rfl trivial rfl (by kernel_rfl) (stO (q := 1) (i := Int.toNat x3) (j := 0) (u := u6) (u' := u2) hS3 ⟨rfl, rfl⟩ hv4 (idx_some hx6).2.2 he4 rfl rfl rfl Try.sizeOf60 rfl rfl rfl (fun c0 hc0 => by rw [storeL_all (r := rAllocReach) hc0 rfl]; exact (rAllocReach_mk (x := u2)  : rAllocReach.rp _ _ _ _)) fun w4 im4 hS4 => ?_))
    have hS4 : Sep g T1 w4 [R, ownA rAllocReach 60 (.slice a1 n1 c1) (List.set (List.set x1 (Int.toNat x2) u1) (Int.toNat x3) u2)] := hS4
    refine ⟨st0, ?_⟩
    refine se (t_then ?_)
    refine sq2 (rg (pv (r_mi rfl) (pv (r_ib rfl rfl rfl) (pv (r_zi rfl) (nil (t_then ?_))))))
    have hm := oI hm; subst hm
    exact rg (pv (r_mi rfl) (pv (r_ib rfl rfl rfl) (pv (r_zi rfl) (nil (t_blk (t_then ⟨m1, Nat.lt_succ_self _, _, _, (List.set (List.set x1 (Int.toNat x2) u1) (Int.toNat x3) u2), (IntKind.wrap .i64 (x2 + 1)), (IntKind.wrap .i64 (x3 - 1)), env_has ⟨rfl, rfl, rfl, trivial⟩, (iT im1 (iT im2 (iT im3 im4))), hS4.sel [0, 1] rfl, hn1⟩))))))
  have hm := cfalse hb1 hm
  have hm := oI hm; subst hm
  have hn1 : _ = Lp.brk _ := hn1
  subst hn1
  have hm := thn_brk hq1
  have hm := oI hm; subst hm
  exact xt (x_then (x_then (x_eq (end0 rfl ⟨_, rfl, _, im1, ⟨rfl, hS1.sel [0, 1] rfl, trivial⟩⟩))))

set_option maxRecDepth 100000 in
set_option maxHeartbeats 1000000 in
theorem slices_partialInsertionSortCmpFunc_sim {g : World} {T0 : Nat → Prop} {w0 : World} {R : Assn} {p0 : List AllocReach} {a1 : Option Addr} {n1 : Nat} {c1 : Nat} {p1 : Int} {p2 : Int} {r : Bool × (List AllocReach)} (hS : Sep g T0 w0 [R, ownA rAllocReach 60 (.slice a1 n1 c1) p0])  (hm : slices_partialInsertionSortCmpFunc p0 p1 p2 = some r) :
    Calls Try.prog 58 #[.slice a1 n1 c1, .int .i64 p1, .int .i64 p2, .func (.func 20) #[] #[]] w0 (RetS T0 w0 fun T w v => v = .bool r.1 ∧ Sep g T w [R, ownA rAllocReach 60 (.slice a1 n1 c1) r.2] ∧ True) := by
  refine enter (args := [.slice a1 n1 c1, .int .i64 p1, .int .i64 p2, .func (.func 20) #[] #[]]) Try.func58 rfl Try.ntmps58 rfl fun J => ?_
  unfold slices_partialInsertionSortCmpFunc at hm
  refine sq2 (rg (pv (r_zb rfl) (nil (t_then ?_))))
  refine sq2 (rg (pv (r_mi rfl) (pv (r_ib rfl rfl rfl) (pv (r_zi rfl) (nil (t_then ?_))))))
  refine sq2 (sq2 (rg (pv (r_zi rfl) (nil (t_then ?_)))))
  obtain ⟨o1, ho1, hq1⟩ := bindS hm
  obtain ⟨bd1, hbd1, ho1⟩ := loop_open ho1
  refine blk (wp_loop_ghost (fun m a w1 => ∃ (J : Nat → Value) (T1 : Nat → Prop) (x1 : List AllocReach) (x2 : Int) (x3 : Int), a = env (nf 141) J [(0, .slice a1 n1 c1), (1, .int .i64 p1), (2, .int .i64 p2), (3, .func (.func 20) #[] #[]), (9, .int .i64 x2), (10, .int .i64 x3)] ∧ Im T0 w0 T1 w1 ∧ Sep g T1 w1 [R, ownA rAllocReach 60 (.slice a1 n1 c1) x1] ∧ loopM bd1 m (x1, x2, x3) = some o1) NN ⟨_, _, p0, (IntKind.wrap .i64 (p1 + 1)), 0, env_has ⟨rfl, rfl, rfl, rfl, rfl, rfl, trivial⟩, Im.refl, hS.sel [0, 1] rfl, ho1⟩ ?_)
  rintro m _ w1 ⟨J, T1, x1, x2, x3, rfl, im1, hS1, ho1⟩
  obtain ⟨m1, z1, rfl, hm, hn1⟩ := loop_round ho1
  rw [hbd1] at hm
  refine sq2 (sq2 (rg (pv (r_mi rfl) (pv (r_ib rfl rfl rfl) (nil (t_then ?_))))))
  refine cnd rfl (fun hb1 => ?_) (fun hb1 => ?_)
  · have hm := ctrue hb1 hm
    refine skp (t_then ?_)
    obtain ⟨kk1, hkk1, hm⟩ := jn_open hm
    refine cut (fun a w2 => ∃ (J : Nat → Value) (T2 : Nat → Prop) (x4 : List AllocReach) (x5 : Int), a = env (nf 141) J [(0, .slice a1 n1 c1), (1, .int .i64 p1), (2, .int .i64 p2), (3, .func (.func 20) #[] #[]), (9, .int .i64 x5), (10, .int .i64 x3)] ∧ Im T1 w1 T2 w2 ∧ Sep g T2 w2 [R, ownA rAllocReach 60 (.slice a1 n1 c1) x4] ∧ kk1 x4 x5 = some z1) ?_ ?_
    · refine blk ?_
      obtain ⟨kk2, hkk2, hm⟩ := jn_open hm
      refine cut (fun a w3 => ∃ (J : Nat → Value) (T3 : Nat → Prop) (x6 : Int), a = env (nf 141) J [(0, .slice a1 n1 c1), (1, .int .i64 p1), (2, .int .i64 p2), (3, .func (.func 20) #[] #[]), (9, .int .i64 x6), (10, .int .i64 x3)] ∧ Im T1 w1 T3 w3 ∧ Sep g T3 w3 [R, ownA rAllocReach 60 (.slice a1 n1 c1) x1] ∧ kk2 x6 = some z1) ?_ ?_
      · obtain ⟨o2, ho2, hq2⟩ := bindS hm
        obtain ⟨bd2, hbd2, ho2⟩ := loop_open ho2
        refine blk (wp_loop_ghost (fun m a w4 => ∃ (J : Nat → Value) (T4 : Nat → Prop) (x7 : Int), a = env (nf 141) J [(0, .slice a1 n1 c1), (1, .int .i64 p1), (2, .int .i64 p2), (3, .func (.func 20) #[] #[]), (9, .int .i64 x7), (10, .int .i64 x3)] ∧ Im T1 w1 T4 w4 ∧ Sep g T4 w4 [R, ownA rAllocReach 60 (.slice a1 n1 c1) x1] ∧ loopM bd2 m x7 = some o2) NN ⟨_, _, x2, env_has ⟨rfl, rfl, rfl, rfl, rfl, rfl, trivial⟩, Im.refl, hS1.sel [0, 1] rfl, ho2⟩ ?_)
        rintro m _ w4 ⟨J, T4, x7, rfl, im4, hS2, ho2⟩
        obtain ⟨m2, z2, rfl, hm, hn2⟩ := loop_round ho2
        rw [hbd2] at hm
        refine sq2 (sq2 (rs [0, 0, 0, 0, 0, 0, 0, 0, 1, 0, 0, 0, 0, 1, 2, 0, 0, 0] [0, 1, 2, 3, 4, 5, 6, 7, 8, 9, 10, 11, 12, 13, 14, 15, 16, 17] mix (by kernel_rfl) hS2.lt fun w5 i1 => ?_))
        have im5 := i1.imm
        have hS3 := hS2.keep i1 (fun _ h => h)
        refine s0 rfl trivial (fun _ => r_mi rfl) rfl (s0 rfl trivial (fun _ => r_mi rfl) rfl (s0 rfl trivial (fun _ => r_ib rfl rfl rfl) rfl (s0 rfl trivial (fun _ => r_mb rfl) rfl (?_))))
        rcases Bool.eq_false_or_eq_true (decide (x7 < p2)) with hb2 | hb2
        · have hm := ctrue hb2 hm
          obtain ⟨u1, hx1, hm⟩ := bindS hm
          obtain ⟨b1, of1, cs1, k1, cp1, hv1, hp1, hl1, he1, hr1, hc1⟩ := (hS3.own (i := 1) ⟨rfl, rfl⟩).v.ixq hx1 rfl
          cases rAllocReach_open hr1
          obtain ⟨u2, hx2, hm⟩ := bindS hm
          obtain ⟨b2, of2, cs2, k2, cp2, hv2, hp2, hl2, he2, hr2, hc2⟩ := (hS3.own (i := 1) ⟨rfl, rfl⟩).v.ixq hx2 rfl
          cases rAllocReach_open hr2
          obtain ⟨y1, hx3, hm⟩ := bindS hm
          refine s0 rfl ⟨_, rfl, congrArg Value.bool hb2⟩ (fun _ => r_mf rfl) rfl (s0 rfl ⟨_, rfl, congrArg Value.bool hb2⟩ (fun _ => r_ms rfl) rfl (s0 rfl ⟨_, rfl, congrArg Value.bool hb2⟩ (fun _ => r_mi rfl) rfl (s0 rfl ⟨_, rfl, congrArg Value.bool hb2⟩ (fun _ => r_ixe hv1 rfl Try.underlying56 Try.sizeOf60 hp1 hl1 he1) rfl (s1 rfl ⟨_, rfl, congrArg Value.bool hb2⟩ (r_ldS rfl Try.isAgg60 Try.sizeOf60 rfl hc1 (cs := (cAllocReach u1))) rfl (s0 rfl ⟨_, rfl, congrArg Value.bool hb2⟩ (fun _ => r_ms rfl) rfl (s0 rfl ⟨_, rfl, congrArg Value.bool hb2⟩ (fun _ => r_mi rfl) rfl (s0 rfl ⟨_, rfl, congrArg Value.bool hb2⟩ (fun _ => r_ib rfl rfl rfl) rfl (s0 rfl ⟨_, rfl, congrArg Value.bool hb2⟩ (fun _ => r_ixe hv2 rfl Try.underlying56 Try.sizeOf60 hp2 hl2 he2) rfl (s1 rfl ⟨_, rfl, congrArg Value.bool hb2⟩ (r_ldS rfl Try.isAgg60 Try.sizeOf60 rfl hc2 (cs := (cAllocReach u2))) rfl (s2 [] rfl ⟨_, rfl, congrArg Value.bool hb2⟩ rfl (by kernel_rfl) (calS cf20 rfl (alloc_Assign_2_sim (p0 := u1) (p1 := u2) (hS3.bun [0, 1] [] rfl)  hx3) rfl fun v1 T5 w6 im6 rv1 => ?_)))))))))))
          obtain ⟨rfl, hS4, _⟩ := rv1
          have hS4 : Sep g T5 w6 [R, ownA rAllocReach 60 (.slice a1 n1 c1) x1] := hS4.unb
          refine ⟨st0, ?_⟩
          refine s0 rfl ⟨_, rfl, congrArg Value.bool hb2⟩ (fun _ => r_ib rfl rfl rfl) rfl (s0 rfl ⟨_, rfl, congrArg Value.bool hb2⟩ (fun _ => r_nt rfl) rfl (s0 rfl trivial (fun _ => r_pkt rfl hb2 rfl) rfl (se (t_then ?_))))
          refine cnd rfl (fun hb3 => ?_) (fun hb3 => ?_)
          · have hm := ctrue hb3 hm
            refine skp (t_then ?_)
            refine blk ?_
            have hm := oI hm; subst hm
            exact rg (pv (r_mi rfl) (pv (r_ib rfl rfl rfl) (pv (r_zi rfl) (nil (t_blk (t_then ⟨m2, Nat.lt_succ_self _, _, _, (IntKind.wrap .i64 (x7 + 1)), env_has ⟨rfl, rfl, rfl, rfl, rfl, rfl, trivial⟩, (iT im4 (iT im5 im6)), hS4.sel [0, 1] rfl, hn2⟩))))))
          have hm := cfalse hb3 hm
          have hm := oI hm; subst hm
          have hn2 : _ = Lp.brk _ := hn2
          subst hn2
          have hm := thn_brk hq2
          exact xt (x_then (x_then (x_eq (t_then ⟨_, _, x7, env_has ⟨rfl, rfl, rfl, rfl, rfl, rfl, trivial⟩, (iT im4 (iT im5 im6)), hS4.sel [0, 1] rfl, hm⟩))))
        have hm := cfalse hb2 hm
        refine sU rfl (gI rfl rfl hb2) (sU rfl (gI rfl rfl hb2) (sU rfl (gI rfl rfl hb2) (sU rfl (gI rfl rfl hb2) (sU rfl (gI rfl rfl hb2) (sU rfl (gI rfl rfl hb2) (sU rfl (gI rfl rfl hb2) (sU rfl (gI rfl rfl hb2) (sU rfl (gI rfl rfl hb2) (sU rfl (gI rfl rfl hb2) (sU rfl (gI rfl rfl hb2) (sU rfl (gI rfl rfl hb2) (sU rfl (gI rfl rfl hb2) (s0 rfl trivial (fun _ => r_pkf rfl hb2 rfl) rfl (se (t_then ?_)))))))))))))))
        refine cnd (b := false) rfl (fun h => nomatch h) (fun _ => ?_)
        have hm := oI hm; subst hm
        have hn2 : _ = Lp.brk _ := hn2
        subst hn2
        have hm := thn_brk hq2
        exact xt (x_then (x_then (x_eq (t_then ⟨_, _, x7, env_has ⟨rfl, rfl, rfl, rfl, rfl, rfl, trivial⟩, (iT im4 im5), hS3.sel [0, 1] rfl, hm⟩))))
      rintro _ w3 ⟨J, T3, x6, rfl, im3, hS5, hm⟩
      rw [hkk2] at hm
      refine sq2 (sq2 (rg (pv (r_mi rfl) (pv (r_mi rfl) (pv (r_ib rfl rfl rfl) (nil (t_then ?_)))))))
      refine cnd rfl (fun hb5 => ?_) (fun hb5 => ?_)
      · have hm := ctrue hb5 hm
        refine sq2 (rg (pv (r_zb rfl) (nil (t_then ?_))))
        have hm := oI hm; subst hm
        have hn1 : _ = Lp.ret _ := hn1
        subst hn1
        have hm := thn_ret hq1
        have hm := oI hm; subst hm
        exact rtn (r_then (r_blk (r_then (r_then (r_blk (r_then (ret1 rfl rfl ⟨_, rfl, _, (iT im1 im3), ⟨rfl, hS5.sel [0, 1] rfl, trivial⟩⟩)))))))
      have hm := cfalse hb5 hm
      refine skp (t_then ?_)
      refine sq2 (sq2 (rg (pv (r_mi rfl) (pv (r_mi rfl) (pv (r_ib rfl rfl rfl) (pv (r_ib rfl rfl rfl) (nil (t_then ?_))))))))
      refine cnd rfl (fun hb6 => ?_) (fun hb6 => ?_)
      · have hm := ctrue hb6 hm
        refine sq2 (rg (pv (r_zb rfl) (nil (t_then ?_))))
        have hm := oI hm; subst hm
        have hn1 : _ = Lp.ret _ := hn1
        subst hn1
        have hm := thn_ret hq1
        have hm := oI hm; subst hm
        exact rtn (r_then (r_blk (r_then (r_then (r_blk (r_then (ret1 rfl rfl ⟨_, rfl, _, (iT im1 im3), ⟨rfl, hS5.sel [0, 1] rfl, trivial⟩⟩)))))))
      have hm := cfalse hb6 hm
      refine skp (t_then ?_)
      refine sq2 (rs [0, 0, 0, 0, 0, 0, 0, 0, 0, 1, 0, 0, 0, 1, 0, 2, 0, 2] [0, 1, 2, 3, 4, 5, 6, 7, 8, 9, 10, 11, 12, 13, 14, 15, 16, 17] mix (by kernel_rfl) hS5.lt fun w7 i2 => ?_)
      have im7 := i2.imm
      have hS6 := hS5.keep i2 (fun _ h => h)
      obtain ⟨u3, hx4, hm⟩ := bindS hm
      obtain ⟨b3, of3, cs3, k3, cp3, hv3, hp3, hl3, he3, hr3, hc3⟩ := (hS6.own (i := 1) ⟨rfl, rfl⟩).v.ixq hx4 rfl
      cases rAllocReach_open hr3
      obtain ⟨u4, hx5, hm⟩ := bindS hm
      obtain ⟨b4, of4, cs4, k4, cp4, hv4, hp4, hl4, he4, hr4, hc4⟩ := (hS6.own (i := 1) ⟨rfl, rfl⟩).v.ixq hx5 rfl
      cases rAllocReach_open hr4
      obtain ⟨u5, hx6, hm⟩ := bindS hm
      obtain ⟨b5, of5, cs5, k5, cp5, hv5, hp5, hl5, he5, hr5, hc5⟩ := (hS6.own (i := 1) ⟨rfl, rfl⟩).v.ixq hx6 rfl
      cases rAllocReach_open hr5
      obtain ⟨u6, hx7, hm⟩ := bindS hm
      refine s0 rfl trivial (fun _ => r_ms rfl) rfl (s0 rfl trivial (fun _ => r_mi rfl) rfl (s0 rfl trivial (fun _ => r_ms rfl) rfl (s0 rfl trivial (fun _ => r_mi rfl) rfl (s0 rfl trivial (fun _ => r_ib rfl rfl rfl) rfl (s0 rfl trivial (fun _ => r_ms rfl) rfl (s0 rfl trivial (fun _ => r_mi rfl) rfl (s0 rfl trivial (fun _ => r_ib rfl rfl rfl) rfl (s0 rfl trivial (fun _ => r_ixe hv3 rfl Try.underlying56 Try.sizeOf60 hp3 hl3 he3) rfl (s1 rfl trivial (r_ldS rfl Try.isAgg60 Try.sizeOf60 rfl hc3 (cs := (cAllocReach u3))) rfl (s0 rfl trivial (fun _ => r_ms rfl) rfl (s0 rfl trivial (fun _ => r_mi rfl) rfl (s0 rfl trivial (fun _ => r_ixe hv4 rfl Try.underlying56 Try.sizeOf60 hp4 hl4 he4) rfl (s1 rfl trivial (r_ldS rfl Try.isAgg60 Try.sizeOf60 rfl hc4 (cs := (cAllocReach u4))) rfl (s0 rfl trivial (fun _ => r_ixe hv5 rfl Try.underlying56 Try.sizeOf60 hp5 hl5 he5) rfl (s2 [] rfl trivial rfl (by kernel_rfl) (stO (q := 1) (i := Int.toNat x6) (j := 0) (u := u6) (u' := u3) hS6 ⟨rfl, rfl⟩ hv5 (idx_some hx7).2.2 he5 rfl rfl rfl Try.sizeOf60 rfl rfl rfl (fun c0 hc0 => by rw [storeL_all (r := rAllocReach) hc0 rfl]; exact (rAllocReach_mk (x := u3)  : rAllocReach.rp _ _ _ _)) fun w8 im8 hS7 => ?_))))))))))))))))
      have hS7 : Sep g T3 w8 [R, ownA rAllocReach 60 (.slice a1 n1 c1) (List.set x1 (Int.toNat x6) u3)] := hS7
      refine ⟨st0, ?_⟩
      obtain ⟨u7, hx8, hm⟩ := bindS hm
      obtain ⟨b6, of6, cs6, k6, cp6, hv6, hp6, hl6, he6, hr6, hc6⟩ := (hS7.own (i := 1) ⟨rfl, rfl⟩).v.ixq hx8 rfl
      cases rAllocReach_open hr6
      obtain ⟨u8, hx9, hm⟩ := bindS hm
      refine s0 rfl trivial (fun _ => r_ixe hv6 rfl Try.underlying56 Try.sizeOf60 hp6 hl6 he6) rfl (s2 [] rfl trivial rfl (by kernel_rfl) (stO (q := 1) (i := Int.toNat (IntKind.wrap .i64 (x6 - 1))) (j := 0) (u := u8) (u' := u4) hS7 ⟨rfl, rfl⟩ hv6 (idx_some hx9).2.2 he6 rfl rfl rfl Try.sizeOf60 rfl rfl rfl (fun c0 hc0 => by rw [storeL_all (r := rAllocReach) hc0 rfl]; exact (rAllocReach_mk (x := u4)  : rAllocReach.rp _ _ _ _)) fun w9 im9 hS8 => ?_))
      have hS8 : Sep g T3 w9 [R, ownA rAllocReach 60 (.slice a1 n1 c1) (List.set (List.set x1 (Int.toNat x6) u3) (Int.toNat (IntKind.wrap .i64 (x6 - 1))) u4)] := hS8
      refine ⟨st0, ?_⟩
      refine se (t_then ?_)
      obtain ⟨kk3, hkk3, hm⟩ := jn_open hm
      refine cut (fun a w10 => ∃ (J : Nat → Value) (T6 : Nat → Prop) (x8 : List AllocReach), a = env (nf 141) J [(0, .slice a1 n1 c1), (1, .int .i64 p1), (2, .int .i64 p2), (3, .func (.func 20) #[] #[]), (9, .int .i64 x6), (10, .int .i64 x3)] ∧ Im T3 w9 T6 w10 ∧ Sep g T6 w10 [R, ownA rAllocReach 60 (.slice a1 n1 c1) x8] ∧ kk3 x8 = some z1) ?_ ?_
      · refine sq2 (rg (pv (r_mi rfl) (pv (r_mi rfl) (pv (r_ib rfl rfl rfl) (pv (r_ib rfl rfl rfl) (nil (t_thenR [(0, .slice a1 n1 c1), (1, .int .i64 p1), (2, .int .i64 p2), (3, .func (.func 20) #[] #[]), (9, .int .i64 x6), (10, .int .i64 x3), (65, .bool (decide (2 ≤ (IntKind.wrap .i64 (x6 - p1)))))] ⟨rfl, rfl, rfl, rfl, rfl, rfl, rfl, trivial⟩ fun J => ?_)))))))
        refine cnd rfl (fun hb7 => ?_) (fun hb7 => ?_)
        · have hm := ctrue hb7 hm
          refine sq2 (rg (pv (r_mi rfl) (pv (r_ib rfl rfl rfl) (pv (r_zi rfl) (nil (t_then ?_))))))
          obtain ⟨o2, ho2, hq2⟩ := bindS hm
          obtain ⟨bd2, hbd2, ho2⟩ := loop_open ho2
          refine blk (wp_loop_ghost (fun m a w11 => ∃ (J : Nat → Value) (T7 : Nat → Prop) (x9 : List AllocReach) (x10 : Int), a = env (nf 141) J [(0, .slice a1 n1 c1), (1, .int .i64 p1), (2, .int .i64 p2), (3, .func (.func 20) #[] #[]), (9, .int .i64 x6), (10, .int .i64 x3), (11, .int .i64 x10)] ∧ Im T3 w9 T7 w11 ∧ Sep g T7 w11 [R, ownA rAllocReach 60 (.slice a1 n1 c1) x9] ∧ loopM bd2 m (x9, x10) = some o2) NN ⟨_, _, (List.set (List.set x1 (Int.toNat x6) u3) (Int.toNat (IntKind.wrap .i64 (x6 - 1))) u4), (IntKind.wrap .i64 (x6 - 1)), env_has ⟨rfl, rfl, rfl, rfl, rfl, rfl, rfl, trivial⟩, Im.refl, hS8.sel [0, 1] rfl, ho2⟩ ?_)
          rintro m _ w11 ⟨J, T7, x9, x10, rfl, im11, hS9, ho2⟩
          obtain ⟨m2, z2, rfl, hm, hn2⟩ := loop_round ho2
          rw [hbd2] at hm
          refine sq2 (sq2 (rg (pv (r_mi rfl) (pv (r_ib rfl rfl rfl) (nil (t_then ?_))))))
          refine cnd rfl (fun hb8 => ?_) (fun hb8 => ?_)
          · have hm := ctrue hb8 hm
            refine skp (t_then ?_)
            refine sq2 (blk (sq2 (sq2 (rs [0, 0, 0, 0, 1, 0, 0, 0, 0, 1, 2, 0, 0] [0, 1, 2, 3, 4, 5, 6, 7, 8, 9, 10, 11, 12] mix (by kernel_rfl) hS9.lt fun w12 i3 => ?_))))
            have im12 := i3.imm
            have hS10 := hS9.keep i3 (fun _ h => h)
            obtain ⟨u9, hx10, hm⟩ := bindS hm
            obtain ⟨b7, of7, cs7, k7, cp7, hv7, hp7, hl7, he7, hr7, hc7⟩ := (hS10.own (i := 1) ⟨rfl, rfl⟩).v.ixq hx10 rfl
            cases rAllocReach_open hr7
            obtain ⟨u10, hx11, hm⟩ := bindS hm
            obtain ⟨b8, of8, cs8, k8, cp8, hv8, hp8, hl8, he8, hr8, hc8⟩ := (hS10.own (i := 1) ⟨rfl, rfl⟩).v.ixq hx11 rfl
            cases rAllocReach_open hr8
            obtain ⟨y2, hx12, hm⟩ := bindS hm
            refine s0 rfl trivial (fun _ => r_mf rfl) rfl (s0 rfl trivial (fun _ => r_ms rfl) rfl (s0 rfl trivial (fun _ => r_mi rfl) rfl (s0 rfl trivial (fun _ => r_ixe hv7 rfl Try.underlying56 Try.sizeOf60 hp7 hl7 he7) rfl (s1 rfl trivial (r_ldS rfl Try.isAgg60 Try.sizeOf60 rfl hc7 (cs := (cAllocReach u9))) rfl (s0 rfl trivial (fun _ => r_ms rfl) rfl (s0 rfl trivial (fun _ => r_mi rfl) rfl (s0 rfl trivial (fun _ => r_ib rfl rfl rfl) rfl (s0 rfl trivial (fun _ => r_ixe hv8 rfl Try.underlying56 Try.sizeOf60 hp8 hl8 he8) rfl (s1 rfl trivial (r_ldS rfl Try.isAgg60 Try.sizeOf60 rfl hc8 (cs := (cAllocReach u10))) rfl (s2 [] rfl trivial rfl (by kernel_rfl) (calS cf20 rfl (alloc_Assign_2_sim (p0 := u9) (p1 := u10) (hS10.bun [0, 1] [] rfl)  hx12) rfl fun v2 T8 w13 im13 rv2 => ?_)))))))))))
            obtain ⟨rfl, hS11, _⟩ := rv2
            have hS11 : Sep g T8 w13 [R, ownA rAllocReach 60 (.slice a1 n1 c1) x9] := hS11.unb
            refine ⟨st0, ?_⟩
            refine s0 rfl trivial (fun _ => r_ib rfl rfl rfl) rfl (s0 rfl trivial (fun _ => r_nt rfl) rfl (se (t_then ?_)))
            refine cnd rfl (fun hb9 => ?_) (fun hb9 => ?_)
            · have hm := ctrue hb9 hm
              have hm := oI hm; subst hm
              have hn2 : _ = Lp.brk _ := hn2
              subst hn2
              have hm := thn_brk hq2
              exact xt (x_then (x_ne (by decide) (x_then (x_then (x_eq (t_then ⟨_, _, x9, env_has ⟨rfl, rfl, rfl, rfl, rfl, rfl, trivial⟩, (iT im11 (iT im12 im13)), hS11.sel [0, 1] rfl, hm⟩))))))
            have hm := cfalse hb9 hm
            refine skp (t_then ?_)
            refine rs [0, 0, 0, 0, 0, 0, 0, 0, 0, 1, 0, 0, 0, 1, 0, 2, 0, 2] [0, 1, 2, 3, 4, 5, 6, 7, 8, 9, 10, 11, 12, 13, 14, 15, 16, 17] mix (by kernel_rfl) hS11.lt fun w14 i4 => ?_
            have im14 := i4.imm
            have hS12 := hS11.keep i4 (fun _ h => h)
            obtain ⟨u11, hx13, hm⟩ := bindS hm
            obtain ⟨b9, of9, cs9, k9, cp9, hv9, hp9, hl9, he9, hr9, hc9⟩ := (hS12.own (i := 1) ⟨rfl, rfl⟩).v.ixq hx13 rfl
            cases rAllocReach_open hr9
            obtain ⟨u12, hx14, hm⟩ := bindS hm
            obtain ⟨b10, of10, cs10, k10, cp10, hv10, hp10, hl10, he10, hr10, hc10⟩ := (hS12.own (i := 1) ⟨rfl, rfl⟩).v.ixq hx14 rfl
            cases rAllocReach_open hr10
            obtain ⟨u13, hx15, hm⟩ := bindS hm
            obtain ⟨b11, of11, cs11, k11, cp11, hv11, hp11, hl11, he11, hr11, hc11⟩ := (hS12.own (i := 1) ⟨rfl, rfl⟩).v.ixq hx15 rfl
            cases rAllocReach_open hr11
            obtain ⟨u14, hx16, hm⟩ := bindS hm
            refine s0 rfl trivial (fun _ => r_ms rfl) rfl (s0 rfl trivial (fun _ => r_mi rfl) rfl (s0 rfl trivial (fun _ => r_ms rfl) rfl (s0 rfl trivial (fun _ => r_mi rfl) rfl (s0 rfl trivial (fun _ => r_ib rfl rfl rfl) rfl (s0 rfl trivial (fun _ => r_ms rfl) rfl (s0 rfl trivial (fun _ => r_mi rfl) rfl (s0 rfl trivial (fun _ => r_ib rfl rfl rfl) rfl (s0 rfl trivial (fun _ => r_ixe hv9 rfl Try.underlying56 Try.sizeOf60 hp9 hl9 he9) rfl (s1 rfl trivial (r_ldS rfl Try.isAgg60 Try.sizeOf60 rfl hc9 (cs := (cAllocReach u11))) rfl (s0 rfl trivial (fun _ => r_ms rfl) rfl (s0 rfl trivial (fun _ => r_mi rfl) rfl (s0 rfl trivial (fun _ => r_ixe hv10 rfl Try.underlying56 Try.sizeOf60 hp10 hl10 he10) rfl (s1 rfl trivial (r_ldS rfl Try.isAgg60 Try.sizeOf60 rfl hc10 (cs := (cAllocReach u12))) rfl (s0 rfl trivial (fun _ => r_ixe hv11 rfl Try.underlying56 Try.sizeOf60 hp11 hl11 he11) rfl (s2 [] rfl trivial rfl (by kernel_rfl) (stO (q := 1) (i := Int.toNat x10) (j := 0) (u := u14) (u' := u11) hS12 ⟨rfl, rfl⟩ hv11 (idx_some hx16).2.2 he11 rfl rfl rfl Try.sizeOf60 rfl rfl rfl (fun c0 hc0 => by rw [storeL_all (r := rAllocReach) hc0 rfl]; exact (rAllocReach_mk (x := u11)  : rAllocReach.rp _ _ _ _)) fun w15 im15 hS13 => ?_))))))))))))))))
            have hS13 : Sep g T8 w15 [R, ownA rAllocReach 60 (.slice a1 n1 c1) (List.set x9 (Int.toNat x10) u11)] := hS13
            refine ⟨st0, ?_⟩
            obtain ⟨u15, hx17, hm⟩ := bindS hm
            obtain ⟨b12, of12, cs12, k12, cp12, hv12, hp12, hl12, he12, hr12, hc12⟩ := (hS13.own (i := 1) ⟨rfl, rfl⟩).v.ixq hx17 rfl
            cases rAllocReach_open hr12
            obtain ⟨u16, hx18, hm⟩ := bindS hm
            refine s0 rfl trivial (fun _ => r_ixe hv12 rfl Try.underlying56 Try.sizeOf60 hp12 hl12 he12) rfl (s2 [] rfl trivial rfl (by kernel_rfl) (stO (q := 1) (i := Int.toNat (IntKind.wrap .i64 (x10 - 1))) (j := 0) (u := u16) (u' := u12) hS13 ⟨rfl, rfl⟩ hv12 (idx_some hx18).2.2 he12 rfl rfl rfl Try.sizeOf60 rfl rfl rfl (fun c0 hc0 => by rw [storeL_all (r := rAllocReach) hc0 rfl]; exact (rAllocReach_mk (x := u12)  : rAllocReach.rp _ _ _ _)) fun w16 im16 hS14 => ?_))
            have hS14 : Sep g T8 w16 [R, ownA rAllocReach 60 (.slice a1 n1 c1) (List.set (List.set x9 (Int.toNat x10) u11) (Int.toNat (IntKind.wrap .i64 (x10 - 1))) u12)] := hS14
            refine ⟨st0, ?_⟩
            refine se (t_blk (t_thenR [(0, .slice a1 n1 c1), (1, .int .i64 p1), (2, .int .i64 p2), (3, .func (.func 20) #[] #[]), (9, .int .i64 x6), (10, .int .i64 x3), (11, .int .i64 x10)] ⟨rfl, rfl, rfl, rfl, rfl, rfl, rfl, trivial⟩ fun J => ?_))
            have hm := oI hm; subst hm
            exact rg (pv (r_mi rfl) (pv (r_ib rfl rfl rfl) (pv (r_zi rfl) (nil (t_then ⟨m2, Nat.lt_succ_self _, _, _, (List.set (List.set x9 (Int.toNat x10) u11) (Int.toNat (IntKind.wrap .i64 (x10 - 1))) u12), (IntKind.wrap .i64 (x10 - 1)), env_has ⟨rfl, rfl, rfl, rfl, rfl, rfl, rfl, trivial⟩, (iT im11 (iT im12 (iT im13 (iT im14 (iT im15 im16))))), hS14.sel [0, 1] rfl, hn2⟩)))))
          have hm := cfalse hb8 hm
          have hm := oI hm; subst hm
          have hn2 : _ = Lp.brk _ := hn2
          subst hn2
          have hm := thn_brk hq2
          exact xt (x_then (x_then (x_eq (t_then ⟨_, _, x9, env_has ⟨rfl, rfl, rfl, rfl, rfl, rfl, trivial⟩, im11, hS9.sel [0, 1] rfl, hm⟩))))
        have hm := cfalse hb7 hm
        exact skp (t_then ⟨_, _, (List.set (List.set x1 (Int.toNat x6) u3) (Int.toNat (IntKind.wrap .i64 (x6 - 1))) u4), env_has ⟨rfl, rfl, rfl, rfl, rfl, rfl, trivial⟩, Im.refl, hS8.sel [0, 1] rfl, hm⟩)
      rintro _ w10 ⟨J, T6, x8, rfl, im10, hS15, hm⟩
      rw [hkk3] at hm
      refine sq2 (rg (pv (r_mi rfl) (pv (r_mi rfl) (pv (r_ib rfl rfl rfl) (pv (r_ib rfl rfl rfl) (nil (t_then ?_)))))))
      refine cnd rfl (fun hb10 => ?_) (fun hb10 => ?_)
      · have hm := ctrue hb10 hm
        refine sq2 (rg (pv (r_mi rfl) (pv (r_ib rfl rfl rfl) (pv (r_zi rfl) (nil (t_then ?_))))))
        obtain ⟨o2, ho2, hq2⟩ := bindS hm
        obtain ⟨bd2, hbd2, ho2⟩ := loop_open ho2
        refine blk (wp_loop_ghost (fun m a w17 => ∃ (J : Nat → Value) (T9 : Nat → Prop) (x11 : List AllocReach) (x12 : Int), a = env (nf 141) J [(0, .slice a1 n1 c1), (1, .int .i64 p1), (2, .int .i64 p2), (3, .func (.func 20) #[] #[]), (9, .int .i64 x6), (10, .int .i64 x3), (12, .int .i64 x12)] ∧ Im T6 w10 T9 w17 ∧ Sep g T9 w17 [R, ownA rAllocReach 60 (.slice a1 n1 c1) x11] ∧ loopM bd2 m (x11, x12) = some o2) NN ⟨_, _, x8, (IntKind.wrap .i64 (x6 + 1)), env_has ⟨rfl, rfl, rfl, rfl, rfl, rfl, rfl, trivial⟩, Im.refl, hS15.sel [0, 1] rfl, ho2⟩ ?_)
        rintro m _ w17 ⟨J, T9, x11, x12, rfl, im17, hS16, ho2⟩
        obtain ⟨m2, z2, rfl, hm, hn2⟩ := loop_round ho2
        rw [hbd2] at hm
        refine sq2 (sq2 (rg (pv (r_mi rfl) (pv (r_mi rfl) (pv (r_ib rfl rfl rfl) (nil (t_then ?_)))))))
        refine cnd rfl (fun hb11 => ?_) (fun hb11 => ?_)
        · have hm := ctrue hb11 hm
          refine skp (t_then ?_)
          refine sq2 (blk (sq2 (sq2 (rs [0, 0, 0, 0, 1, 0, 0, 0, 0, 1, 2, 0, 0] [0, 1, 2, 3, 4, 5, 6, 7, 8, 9, 10, 11, 12] mix (by kernel_rfl) hS16.lt fun w18 i5 => ?_))))
          have im18 := i5.imm
          have hS17 := hS16.keep i5 (fun _ h => h)
          obtain ⟨u17, hx19, hm⟩ := bindS hm
          obtain ⟨b13, of13, cs13, k13, cp13, hv13, hp13, hl13, he13, hr13, hc13⟩ := (hS17.own (i := 1) ⟨rfl, rfl⟩).v.ixq hx19 rfl
          cases rAllocReach_open hr13
          obtain ⟨u18, hx20, hm⟩ := bindS hm
          obtain ⟨b14, of14, cs14, k14, cp14, hv14, hp14, hl14, he14, hr14, hc14⟩ := (hS17.own (i := 1) ⟨rfl, rfl⟩).v.ixq hx20 rfl
          cases rAllocReach_open hr14
          obtain ⟨y3, hx21, hm⟩ := bindS hm
          refine s0 rfl trivial (fun _ => r_mf rfl) rfl (s0 rfl trivial (fun _ => r_ms rfl) rfl (s0 rfl trivial (fun _ => r_mi rfl) rfl (s0 rfl trivial (fun _ => r_ixe hv13 rfl Try.underlying56 Try.sizeOf60 hp13 hl13 he13) rfl (s1 rfl trivial (r_ldS rfl Try.isAgg60 Try.sizeOf60 rfl hc13 (cs := (cAllocReach u17))) rfl (s0 rfl trivial (fun _ => r_ms rfl) rfl (s0 rfl trivial (fun _ => r_mi rfl) rfl (s0 rfl trivial (fun _ => r_ib rfl rfl rfl) rfl (s0 rfl trivial (fun _ => r_ixe hv14 rfl Try.underlying56 Try.sizeOf60 hp14 hl14 he14) rfl (s1 rfl trivial (r_ldS rfl Try.isAgg60 Try.sizeOf60 rfl hc14 (cs := (cAllocReach u18))) rfl (s2 [] rfl trivial rfl (by kernel_rfl) (calS cf20 rfl (alloc_Assign_2_sim (p0 := u17) (p1 := u18) (hS17.bun [0, 1] [] rfl)  hx21) rfl fun v3 T10 w19 im19 rv3 => ?_)))))))))))
          obtain ⟨rfl, hS18, _⟩ := rv3
          have hS18 : Sep g T10 w19 [R, ownA rAllocReach 60 (.slice a1 n1 c1) x11] := hS18.unb
          refine ⟨st0, ?_⟩
          refine s0 rfl trivial (fun _ => r_ib rfl rfl rfl) rfl (s0 rfl trivial (fun _ => r_nt rfl) rfl (se (t_then ?_)))
          refine cnd rfl (fun hb12 => ?_) (fun hb12 => ?_)
          · have hm := ctrue hb12 hm
            have hm := oI hm; subst hm
            have hn2 : _ = Lp.brk _ := hn2
            subst hn2
            have hm := thn_brk hq2
            exact xt (x_then (x_ne (by decide) (x_then (x_then (x_eq (t_blk (t_then ⟨_, _, x11, x6, env_has ⟨rfl, rfl, rfl, rfl, rfl, rfl, trivial⟩, (iT im3 (iT im7 (iT im8 (iT im9 (iT im10 (iT im17 (iT im18 im19))))))), hS18.sel [0, 1] rfl, hm⟩)))))))
          have hm := cfalse hb12 hm
          refine skp (t_then ?_)
          refine rs [0, 0, 0, 0, 0, 0, 0, 0, 0, 1, 0, 0, 0, 1, 0, 2, 0, 2] [0, 1, 2, 3, 4, 5, 6, 7, 8, 9, 10, 11, 12, 13, 14, 15, 16, 17] mix (by kernel_rfl) hS18.lt fun w20 i6 => ?_
          have im20 := i6.imm
          have hS19 := hS18.keep i6 (fun _ h => h)
          obtain ⟨u19, hx22, hm⟩ := bindS hm
          obtain ⟨b15, of15, cs15, k15, cp15, hv15, hp15, hl15, he15, hr15, hc15⟩ := (hS19.own (i := 1) ⟨rfl, rfl⟩).v.ixq hx22 rfl
          cases rAllocReach_open hr15
          obtain ⟨u20, hx23, hm⟩ := bindS hm
          obtain ⟨b16, of16, cs16, k16, cp16, hv16, hp16, hl16, he16, hr16, hc16⟩ := (hS19.own (i := 1) ⟨rfl, rfl⟩).v.ixq hx23 rfl
          cases rAllocReach_open hr16
          obtain ⟨u21, hx24, hm⟩ := bindS hm
          obtain ⟨b17, of17, cs17, k17, cp17, hv17, hp17, hl17, he17, hr17, hc17⟩ := (hS19.own (i := 1) ⟨rfl, rfl⟩).v.ixq hx24 rfl
          cases rAllocReach_open hr17
          obtain ⟨u22, hx25, hm⟩ := bindS hm
          refine s0 rfl trivial (fun _ => r_ms rfl) rfl (s0 rfl trivial (fun _ => r_mi rfl) rfl (s0 rfl trivial (fun _ => r_ms rfl) rfl (s0 rfl trivial (fun _ => r_mi rfl) rfl (s0 rfl trivial (fun _ => r_ib rfl rfl rfl) rfl (s0 rfl trivial (fun _ => r_ms rfl) rfl (s0 rfl trivial (fun _ => r_mi rfl) rfl (s0 rfl trivial (fun _ => r_ib rfl rfl rfl) rfl (s0 rfl trivial (fun _ => r_ixe hv15 rfl Try.underlying56 Try.sizeOf60 hp15 hl15 he15) rfl (s1 rfl trivial (r_ldS rfl Try.isAgg60 Try.sizeOf60 rfl hc15 (cs := (cAllocReach u19))) rfl (s0 rfl trivial (fun _ => r_ms rfl) rfl (s0 rfl trivial (fun _ => r_mi rfl) rfl (s0 rfl trivial (fun _ => r_ixe hv16 rfl Try.underlying56 Try.sizeOf60 hp16 hl16 he16) rfl (s1 rfl trivial (r_ldS rfl Try.isAgg60 Try.sizeOf60 rfl hc16 (cs := (cAllocReach u20))) rfl (s0 rfl trivial (fun _ => r_ixe hv17 rfl Try.underlying56 Try.sizeOf60 hp17 hl17 he17) rfl (s2 [] rfl trivial rfl (by kernel_rfl) (stO (q := 1) (i := Int.toNat x12) (j := 0) (u := u22) (u' := u19) hS19 ⟨rfl, rfl⟩ hv17 (idx_some hx25).2.2 he17 rfl rfl rfl Try.sizeOf60 rfl rfl rfl (fun c0 hc0 => by rw [storeL_all (r := rAllocReach) hc0 rfl]; exact (rAllocReach_mk (x := u19)  : rAllocReach.rp _ _ _ _)) fun w21 im21 hS20 => ?_))))))))))))))))
          have hS20 : Sep g T10 w21 [R, ownA rAllocReach 60 (.slice a1 n1 c1) (List.set x11 (Int.toNat x12) u19)] := hS20
          refine ⟨st0, ?_⟩
          obtain ⟨u23, hx26, hm⟩ := bindS hm
          obtain ⟨b18, of18, cs18, k18, cp18, hv18, hp18, hl18, he18, hr18, hc18⟩ := (hS20.own (i := 1) ⟨rfl, rfl⟩).v.ixq hx26 rfl
          cases rAllocReach_open hr18
          obtain ⟨u24, hx27, hm⟩ := bindS hm
          refine s0 rfl trivial (fun _ => r_ixe hv18 rfl Try.underlying56 Try.sizeOf60 hp18 hl18 he18) rfl (s2 [] rfl trivial rfl (by kernel_rfl) (stO (q := 1) (i := Int.toNat (IntKind.wrap .i64 (x12 - 1))) (j := 0) (u := u24) (u' := u20) hS20 ⟨rfl, rfl⟩ hv18 (idx_some hx27).2.2 he18 rfl rfl rfl Try.sizeOf60 rfl rfl rfl (fun c0 hc0 => by rw [storeL_all (r := rAllocReach) hc0 rfl]; exact (rAllocReach_mk (x := u20)  : rAllocReach.rp _ _ _ _)) fun w22 im22 hS21 => ?_))
          have hS21 : Sep g T10 w22 [R, ownA rAllocReach 60 (.slice a1 n1 c1) (List.set (List.set x11 (Int.toNat x12) u19) (Int.toNat (IntKind.wrap .i64 (x12 - 1))) u20)] := hS21
          refine ⟨st0, ?_⟩
          refine se (t_blk (t_thenR [(0, .slice a1 n1 c1), (1, .int .i64 p1), (2, .int .i64 p2), (3, .func (.func 20) #[] #[]), (9, .int .i64 x6), (10, .int .i64 x3), (12, .int .i64 x12)] ⟨rfl, rfl, rfl, rfl, rfl, rfl, rfl, trivial⟩ fun J => ?_))
          have hm := oI hm; subst hm
          exact rg (pv (r_mi rfl) (pv (r_ib rfl rfl rfl) (pv (r_zi rfl) (nil (t_then ⟨m2, Nat.lt_succ_self _, _, _, (List.set (List.set x11 (Int.toNat x12) u19) (Int.toNat (IntKind.wrap .i64 (x12 - 1))) u20), (IntKind.wrap .i64 (x12 + 1)), env_has ⟨rfl, rfl, rfl, rfl, rfl, rfl, rfl, trivial⟩, (iT im17 (iT im18 (iT im19 (iT im20 (iT im21 im22))))), hS21.sel [0, 1] rfl, hn2⟩)))))
        have hm := cfalse hb11 hm
        have hm := oI hm; subst hm
        have hn2 : _ = Lp.brk _ := hn2
        subst hn2
        have hm := thn_brk hq2
        exact xt (x_then (x_then (x_eq (t_blk (t_then ⟨_, _, x11, x6, env_has ⟨rfl, rfl, rfl, rfl, rfl, rfl, trivial⟩, (iT im3 (iT im7 (iT im8 (iT im9 (iT im10 im17))))), hS16.sel [0, 1] rfl, hm⟩)))))
      have hm := cfalse hb10 hm
      exact skp (t_blk (t_then ⟨_, _, x8, x6, env_has ⟨rfl, rfl, rfl, rfl, rfl, rfl, trivial⟩, (iT im3 (iT im7 (iT im8 (iT im9 im10)))), hS15.sel [0, 1] rfl, hm⟩))
    rintro _ w2 ⟨J, T2, x4, x5, rfl, im2, hS22, hm⟩
    rw [hkk1] at hm
    have hm := oI hm; subst hm
    exact rg (pv (r_mi rfl) (pv (r_ib rfl rfl rfl) (pv (r_zi rfl) (nil (t_then ⟨m1, Nat.lt_succ_self _, _, _, x4, x5, (IntKind.wrap .i64 (x3 + 1)), env_has ⟨rfl, rfl, rfl, rfl, rfl, rfl, trivial⟩, (iT im1 im2), hS22.sel [0, 1] rfl, hn1⟩)))))
  have hm := cfalse hb1 hm
  have hm := oI hm; subst hm
  have hn1 : _ = Lp.brk _ := hn1
  subst hn1
  have hm := thn_brk hq1
  refine xt (x_then (x_then (x_eq (t_then ?_))))
  refine sq2 (rg (pv (r_zb rfl) (nil (t_then ?_))))
  have hm := oI hm; subst hm
  exact rtn (ret1 rfl rfl ⟨_, rfl, _, im1, ⟨rfl, hS1.sel [0, 1] rfl, trivial⟩⟩)

set_option maxRecDepth 100000 in
set_option maxHeartbeats 1000000 in
theorem slices_partitionEqualCmpFunc_sim {g : World} {T0 : Nat → Prop} {w0 : World} {R : Assn} {p0 : List AllocReach} {a1 : Option Addr} {n1 : Nat} {c1 : Nat} {p1 : Int} {p2 : Int} {p3 : Int} {r : Int × (List AllocReach)} (hS : Sep g T0 w0 [R, ownA rAllocReach 60 (.slice a1 n1 c1) p0])  (hm : slices_partitionEqualCmpFunc p0 p1 p2 p3 = some r) :
    Calls Try.prog 59 #[.slice a1 n1 c1, .int .i64 p1, .int .i64 p2, .int .i64 p3, .func (.func 20) #[] #[]] w0 (RetS T0 w0 fun T w v => v = .int .i64 r.1 ∧ Sep g T w [R, ownA rAllocReach 60 (.slice a1 n1 c1) r.2] ∧ True) := by
  refine enter (args := [.slice a1 n1 c1, .int .i64 p1, .int .i64 p2, .int .i64 p3, .func (.func 20) #[] #[]]) Try.func59 rfl Try.ntmps59 rfl fun J => ?_
  unfold slices_partitionEqualCmpFunc at hm
  refine sq2 (rg (pv (r_zi rfl) (nil (t_then ?_))))
  refine sq2 (rs [0, 0, 0, 0, 0, 0, 0, 1, 0, 0, 0, 1, 0, 2, 0, 2] [0, 1, 2, 3, 4, 5, 6, 7, 8, 9, 10, 11, 12, 13, 14, 15] mix (by kernel_rfl) hS.lt fun w1 i1 => ?_)
  have im1 := i1.imm
  have hS1 := hS.keep i1 (fun _ h => h)
  obtain ⟨u1, hx1, hm⟩ := bindS hm
  obtain ⟨b1, of1, cs1, k1, cp1, hv1, hp1, hl1, he1, hr1, hc1⟩ := (hS1.own (i := 1) ⟨rfl, rfl⟩).v.ixq hx1 rfl
  cases rAllocReach_open hr1
  obtain ⟨u2, hx2, hm⟩ := bindS hm
  obtain ⟨b2, of2, cs2, k2, cp2, hv2, hp2, hl2, he2, hr2, hc2⟩ := (hS1.own (i := 1) ⟨rfl, rfl⟩).v.ixq hx2 rfl
  cases rAllocReach_open hr2
  obtain ⟨u3, hx3, hm⟩ := bindS hm
  obtain ⟨b3, of3, cs3, k3, cp3, hv3, hp3, hl3, he3, hr3, hc3⟩ := (hS1.own (i := 1) ⟨rfl, rfl⟩).v.ixq hx3 rfl
  cases rAllocReach_open hr3
  obtain ⟨u4, hx4, hm⟩ := bindS hm
  refine s0 rfl trivial (fun _ => r_ms rfl) rfl (s0 rfl trivial (fun _ => r_mi rfl) rfl (s0 rfl trivial (fun _ => r_ms rfl) rfl (s0 rfl trivial (fun _ => r_mi rfl) rfl (s0 rfl trivial (fun _ => r_ms rfl) rfl (s0 rfl trivial (fun _ => r_mi rfl) rfl (s0 rfl trivial (fun _ => r_ixe hv1 rfl Try.underlying56 Try.sizeOf60 hp1 hl1 he1) rfl (s1 rfl trivial (r_ldS rfl Try.isAgg60 Try.sizeOf60 rfl hc1 (cs := (cAllocReach u1))) rfl (s0 rfl trivial (fun _ => r_ms rfl) rfl (s0 rfl trivial (fun _ => r_mi rfl) rfl (s0 rfl trivial (fun _ => r_ixe hv2 rfl Try.underlying56 Try.sizeOf60 hp2 hl2 he2) rfl (s1 rfl trivial (r_ldS rfl Try.isAgg60 Try.sizeOf60 rfl hc2 (cs := (cAllocReach u2))) rfl (s0 rfl trivial (fun _ => r_ixe hv3 rfl Try.underlying56 Try.sizeOf60 hp3 hl3 he3) rfl (s2 [] rfl trivial rfl (by kernel_rfl) (stO (q := 1) (i := Int.toNat p1) (j := 0) (u := u4) (u' := u1) hS1 ⟨rfl, rfl⟩ hv3 (idx_some hx4).2.2 he3 rfl rfl rfl Try.sizeOf60 rfl rfl rfl (fun c0 hc0 => by rw [storeL_all (r := rAllocReach) hc0 rfl]; exact (rAllocReach_mk (x := u1)  : rAllocReach.rp _ _ _ _)) fun w2 im2 hS2 => ?_))))))))))))))
  have hS2 : Sep g T0 w2 [R, ownA rAllocReach 60 (.slice a1 n1 c1) (List.set p0 (Int.toNat p1) u1)] := hS2
  refine ⟨st0, ?_⟩
  obtain ⟨u5, hx5, hm⟩ := bindS hm
  obtain ⟨b4, of4, cs4, k4, cp4, hv4, hp4, hl4, he4, hr4, hc4⟩ := (hS2.own (i := 1) ⟨rfl, rfl⟩).v.ixq hx5 rfl
  cases rAllocReach_open hr4
  obtain ⟨u6, hx6, hm⟩ := bindS hm
  refine s0 rfl trivial (fun _ => r_ixe hv4 rfl Try.underlying56 Try.sizeOf60 hp4 hl4 he4) rfl (s2 [] rfl trivial rfl (by kernel_rfl) (stO (q := 1) (i := Int.toNat p3) (j := 0) (u := u6) (u' := u2) hS2 ⟨rfl, rfl⟩ hv4 (idx_some hx6).2.2 he4 rfl rfl rfl Try.sizeOf60 rfl rfl rfl (fun c0 hc0 => by rw [storeL_all (r := rAllocReach) hc0 rfl]; exact (rAllocReach_mk (x := u2)  : rAllocReach.rp _ _ _ _)) fun w3 im3 hS3 => ?_))
  have hS3 : Sep g T0 w3 [R, ownA rAllocReach 60 (.slice a1 n1 c1) (List.set (List.set p0 (Int.toNat p1) u1) (Int.toNat p3) u2)] := hS3
  refine ⟨st0, ?_⟩
  refine se (t_then ?_)
  refine sq2 (rg (pv (r_mi rfl) (pv (r_ib rfl rfl rfl) (pv (r_mi rfl) (pv (r_ib rfl rfl rfl) (pv (r_zi rfl) (pv (r_zi rfl) (nil (t_then ?_)))))))))
  refine sq2 ?_
  obtain ⟨o1, ho1, hq1⟩ := bindS hm
  obtain ⟨bd1, hbd1, ho1⟩ := loop_open ho1
  refine blk (wp_loop_ghost (fun m a w4 => ∃ (J : Nat → Value) (T1 : Nat → Prop) (x1 : List AllocReach) (x2 : Int) (x3 : Int), a = env (nf 90) J [(0, .slice a1 n1 c1), (1, .int .i64 p1), (4, .func (.func 20) #[] #[]), (11, .int .i64 x2), (12, .int .i64 x3)] ∧ Im T0 w3 T1 w4 ∧ Sep g T1 w4 [R, ownA rAllocReach 60 (.slice a1 n1 c1) x1] ∧ loopM bd1 m (x1, x2, x3) = some o1) NN ⟨_, _, (List.set (List.set p0 (Int.toNat p1) u1) (Int.toNat p3) u2), (IntKind.wrap .i64 (p1 + 1)), (IntKind.wrap .i64 (p2 - 1)), env_has ⟨rfl, rfl, rfl, rfl, rfl, trivial⟩, Im.refl, hS3.sel [0, 1] rfl, ho1⟩ ?_)
  rintro m _ w4 ⟨J, T1, x1, x2, x3, rfl, im4, hS4, ho1⟩
  obtain ⟨m1, z1, rfl, hm, hn1⟩ := loop_round ho1
  rw [hbd1] at hm
  refine blk ?_
  obtain ⟨kk1, hkk1, hm⟩ := jn_open hm
  refine cut (fun a w5 => ∃ (J : Nat → Value) (T2 : Nat → Prop) (x4 : Int), a = env (nf 90) J [(0, .slice a1 n1 c1), (1, .int .i64 p1), (4, .func (.func 20) #[] #[]), (11, .int .i64 x4), (12, .int .i64 x3)] ∧ Im T1 w4 T2 w5 ∧ Sep g T2 w5 [R, ownA rAllocReach 60 (.slice a1 n1 c1) x1] ∧ kk1 x4 = some z1) ?_ ?_
  · obtain ⟨o2, ho2, hq2⟩ := bindS hm
    obtain ⟨bd2, hbd2, ho2⟩ := loop_open ho2
    refine blk (wp_loop_ghost (fun m a w6 => ∃ (J : Nat → Value) (T3 : Nat → Prop) (x5 : Int), a = env (nf 90) J [(0, .slice a1 n1 c1), (1, .int .i64 p1), (4, .func (.func 20) #[] #[]), (11, .int .i64 x5), (12, .int .i64 x3)] ∧ Im T1 w4 T3 w6 ∧ Sep g T3 w6 [R, ownA rAllocReach 60 (.slice a1 n1 c1) x1] ∧ loopM bd2 m x5 = some o2) NN ⟨_, _, x2, env_has ⟨rfl, rfl, rfl, rfl, rfl, trivial⟩, Im.refl, hS4.sel [0, 1] rfl, ho2⟩ ?_)
    rintro m _ w6 ⟨J, T3, x5, rfl, im6, hS5, ho2⟩
    obtain ⟨m2, z2, rfl, hm, hn2⟩ := loop_round ho2
    rw [hbd2] at hm
    refine sq2 (sq2 (rs [0, 0, 0, 0, 0, 0, 0, 0, 1, 0, 0, 0, 1, 2, 0, 0, 0] [0, 1, 2, 3, 4, 5, 6, 7, 8, 9, 10, 11, 12, 13, 14, 15, 16] mix (by kernel_rfl) hS5.lt fun w7 i2 => ?_))
    have im7 := i2.imm
    have hS6 := hS5.keep i2 (fun _ h => h)
    refine s0 rfl trivial (fun _ => r_mi rfl) rfl (s0 rfl trivial (fun _ => r_mi rfl) rfl (s0 rfl trivial (fun _ => r_ib rfl rfl rfl) rfl (s0 rfl trivial (fun _ => r_mb rfl) rfl (?_))))
    rcases Bool.eq_false_or_eq_true (decide (x5 ≤ x3)) with hb1 | hb1
    · have hm := ctrue hb1 hm
      obtain ⟨u7, hx7, hm⟩ := bindS hm
      obtain ⟨b5, of5, cs5, k5, cp5, hv5, hp5, hl5, he5, hr5, hc5⟩ := (hS6.own (i := 1) ⟨rfl, rfl⟩).v.ixq hx7 rfl
      cases rAllocReach_open hr5
      obtain ⟨u8, hx8, hm⟩ := bindS hm
      obtain ⟨b6, of6, cs6, k6, cp6, hv6, hp6, hl6, he6, hr6, hc6⟩ := (hS6.own (i := 1) ⟨rfl, rfl⟩).v.ixq hx8 rfl
      cases rAllocReach_open hr6
      obtain ⟨y1, hx9, hm⟩ := bindS hm
      refine s0 rfl ⟨_, rfl, congrArg Value.bool hb1⟩ (fun _ => r_mf rfl) rfl (s0 rfl ⟨_, rfl, congrArg Value.bool hb1⟩ (fun _ => r_ms rfl) rfl (s0 rfl ⟨_, rfl, congrArg Value.bool hb1⟩ (fun _ => r_mi rfl) rfl (s0 rfl ⟨_, rfl, congrArg Value.bool hb1⟩ (fun _ => r_ixe hv5 rfl Try.underlying56 Try.sizeOf60 hp5 hl5 he5) rfl (s1 rfl ⟨_, rfl, congrArg Value.bool hb1⟩ (r_ldS rfl Try.isAgg60 Try.sizeOf60 rfl hc5 (cs := (cAllocReach u7))) rfl (s0 rfl ⟨_, rfl, congrArg Value.bool hb1⟩ (fun _ => r_ms rfl) rfl (s0 rfl ⟨_, rfl, congrArg Value.bool hb1⟩ (fun _ => r_mi rfl) rfl (s0 rfl ⟨_, rfl, congrArg Value.bool hb1⟩ (fun _ => r_ixe hv6 rfl Try.underlying56 Try.sizeOf60 hp6 hl6 he6) rfl (s1 rfl ⟨_, rfl, congrArg Value.bool hb1⟩ (r_ldS rfl Try.isAgg60 Try.sizeOf60 rfl hc6 (cs := (cAllocReach u8))) rfl (s2 [] rfl ⟨_, rfl, congrArg Value.bool hb1⟩ rfl (by kernel_rfl) (calS cf20 rfl (alloc_Assign_2_sim (p0 := u7) (p1 := u8) (hS6.bun [0, 1] [] rfl)  hx9) rfl fun v1 T4 w8 im8 rv1 => ?_))))))))))
      obtain ⟨rfl, hS7, _⟩ := rv1
      have hS7 : Sep g T4 w8 [R, ownA rAllocReach 60 (.slice a1 n1 c1) x1] := hS7.unb
      refine ⟨st0, ?_⟩
      refine s0 rfl ⟨_, rfl, congrArg Value.bool hb1⟩ (fun _ => r_ib rfl rfl rfl) rfl (s0 rfl ⟨_, rfl, congrArg Value.bool hb1⟩ (fun _ => r_nt rfl) rfl (s0 rfl trivial (fun _ => r_pkt rfl hb1 rfl) rfl (se (t_then ?_))))
      refine cnd rfl (fun hb2 => ?_) (fun hb2 => ?_)
      · have hm := ctrue hb2 hm
        refine skp (t_then ?_)
        refine blk ?_
        have hm := oI hm; subst hm
        exact rg (pv (r_mi rfl) (pv (r_ib rfl rfl rfl) (pv (r_zi rfl) (nil (t_blk (t_then ⟨m2, Nat.lt_succ_self _, _, _, (IntKind.wrap .i64 (x5 + 1)), env_has ⟨rfl, rfl, rfl, rfl, rfl, trivial⟩, (iT im6 (iT im7 im8)), hS7.sel [0, 1] rfl, hn2⟩))))))
      have hm := cfalse hb2 hm
      have hm := oI hm; subst hm
      have hn2 : _ = Lp.brk _ := hn2
      subst hn2
      have hm := thn_brk hq2
      exact xt (x_then (x_then (x_eq (t_then ⟨_, _, x5, env_has ⟨rfl, rfl, rfl, rfl, rfl, trivial⟩, (iT im6 (iT im7 im8)), hS7.sel [0, 1] rfl, hm⟩))))
    have hm := cfalse hb1 hm
    refine sU rfl (gI rfl rfl hb1) (sU rfl (gI rfl rfl hb1) (sU rfl (gI rfl rfl hb1) (sU rfl (gI rfl rfl hb1) (sU rfl (gI rfl rfl hb1) (sU rfl (gI rfl rfl hb1) (sU rfl (gI rfl rfl hb1) (sU rfl (gI rfl rfl hb1) (sU rfl (gI rfl rfl hb1) (sU rfl (gI rfl rfl hb1) (sU rfl (gI rfl rfl hb1) (sU rfl (gI rfl rfl hb1) (s0 rfl trivial (fun _ => r_pkf rfl hb1 rfl) rfl (se (t_then ?_))))))))))))))
    refine cnd (b := false) rfl (fun h => nomatch h) (fun _ => ?_)
    have hm := oI hm; subst hm
    have hn2 : _ = Lp.brk _ := hn2
    subst hn2
    have hm := thn_brk hq2
    exact xt (x_then (x_then (x_eq (t_then ⟨_, _, x5, env_has ⟨rfl, rfl, rfl, rfl, rfl, trivial⟩, (iT im6 im7), hS6.sel [0, 1] rfl, hm⟩))))
  rintro _ w5 ⟨J, T2, x4, rfl, im5, hS8, hm⟩
  rw [hkk1] at hm
  obtain ⟨kk2, hkk2, hm⟩ := jn_open hm
  refine cut (fun a w9 => ∃ (J : Nat → Value) (T5 : Nat → Prop) (x6 : Int), a = env (nf 90) J [(0, .slice a1 n1 c1), (1, .int .i64 p1), (4, .func (.func 20) #[] #[]), (11, .int .i64 x4), (12, .int .i64 x6)] ∧ Im T2 w5 T5 w9 ∧ Sep g T5 w9 [R, ownA rAllocReach 60 (.slice a1 n1 c1) x1] ∧ kk2 x6 = some z1) ?_ ?_
  · obtain ⟨o2, ho2, hq2⟩ := bindS hm
    obtain ⟨bd2, hbd2, ho2⟩ := loop_open ho2
    refine blk (wp_loop_ghost (fun m a w10 => ∃ (J : Nat → Value) (T6 : Nat → Prop) (x7 : Int), a = env (nf 90) J [(0, .slice a1 n1 c1), (1, .int .i64 p1), (4, .func (.func 20) #[] #[]), (11, .int .i64 x4), (12, .int .i64 x7)] ∧ Im T2 w5 T6 w10 ∧ Sep g T6 w10 [R, ownA rAllocReach 60 (.slice a1 n1 c1) x1] ∧ loopM bd2 m x7 = some o2) NN ⟨_, _, x3, env_has ⟨rfl, rfl, rfl, rfl, rfl, trivial⟩, Im.refl, hS8.sel [0, 1] rfl, ho2⟩ ?_)
    rintro m _ w10 ⟨J, T6, x7, rfl, im10, hS9, ho2⟩
    obtain ⟨m2, z2, rfl, hm, hn2⟩ := loop_round ho2
    rw [hbd2] at hm
    refine sq2 (sq2 (rs [0, 0, 0, 0, 0, 0, 0, 0, 1, 0, 0, 0, 1, 2, 0, 0] [0, 1, 2, 3, 4, 5, 6, 7, 8, 9, 10, 11, 12, 13, 14, 15] mix (by kernel_rfl) hS9.lt fun w11 i3 => ?_))
    have im11 := i3.imm
    have hS10 := hS9.keep i3 (fun _ h => h)
    refine s0 rfl trivial (fun _ => r_mi rfl) rfl (s0 rfl trivial (fun _ => r_mi rfl) rfl (s0 rfl trivial (fun _ => r_ib rfl rfl rfl) rfl (s0 rfl trivial (fun _ => r_mb rfl) rfl (?_))))
    rcases Bool.eq_false_or_eq_true (decide (x4 ≤ x7)) with hb4 | hb4
    · have hm := ctrue hb4 hm
      obtain ⟨u9, hx10, hm⟩ := bindS hm
      obtain ⟨b7, of7, cs7, k7, cp7, hv7, hp7, hl7, he7, hr7, hc7⟩ := (hS10.own (i := 1) ⟨rfl, rfl⟩).v.ixq hx10 rfl
      cases rAllocReach_open hr7
      obtain ⟨u10, hx11, hm⟩ := bindS hm
      obtain ⟨b8, of8, cs8, k8, cp8, hv8, hp8, hl8, he8, hr8, hc8⟩ := (hS10.own (i := 1) ⟨rfl, rfl⟩).v.ixq hx11 rfl
      cases rAllocReach_open hr8
      obtain ⟨y2, hx12, hm⟩ := bindS hm
      refine s0 rfl ⟨_, rfl, congrArg Value.bool hb4⟩ (fun _ => r_mf rfl) rfl (s0 rfl ⟨_, rfl, congrArg Value.bool hb4⟩ (fun _ => r_ms rfl) rfl (s0 rfl ⟨_, rfl, congrArg Value.bool hb4⟩ (fun _ => r_mi rfl) rfl (s0 rfl ⟨_, rfl, congrArg Value.bool hb4⟩ (fun _ => r_ixe hv7 rfl Try.underlying56 Try.sizeOf60 hp7 hl7 he7) rfl (s1 rfl ⟨_, rfl, congrArg Value.bool hb4⟩ (r_ldS rfl Try.isAgg60 Try.sizeOf60 rfl hc7 (cs := (cAllocReach u9))) rfl (s0 rfl ⟨_, rfl, congrArg Value.bool hb4⟩ (fun _ => r_ms rfl) rfl (s0 rfl ⟨_, rfl, congrArg Value.bool hb4⟩ (fun _ => r_mi rfl) rfl (s0 rfl ⟨_, rfl, congrArg Value.bool hb4⟩ (fun _ => r_ixe hv8 rfl Try.underlying56 Try.sizeOf60 hp8 hl8 he8) rfl (s1 rfl ⟨_, rfl, congrArg Value.bool hb4⟩ (r_ldS rfl Try.isAgg60 Try.sizeOf60 rfl hc8 (cs := (cAllocReach u10))) rfl (s2 [] rfl ⟨_, rfl, congrArg Value.bool hb4⟩ rfl (by kernel_rfl) (calS cf20 rfl (alloc_Assign_2_sim (p0 := u9) (p1 := u10) (hS10.bun [0, 1] [] rfl)  hx12) rfl fun v2 T7 w12 im12 rv2 => ?_))))))))))
      obtain ⟨rfl, hS11, _⟩ := rv2
      have hS11 : Sep g T7 w12 [R, ownA rAllocReach 60 (.slice a1 n1 c1) x1] := hS11.unb
      refine ⟨st0, ?_⟩
      refine s0 rfl ⟨_, rfl, congrArg Value.bool hb4⟩ (fun _ => r_ib rfl rfl rfl) rfl (s0 rfl trivial (fun _ => r_pkt rfl hb4 rfl) rfl (se (t_then ?_)))
      refine cnd rfl (fun hb5 => ?_) (fun hb5 => ?_)
      · have hm := ctrue hb5 hm
        refine skp (t_then ?_)
        refine blk ?_
        have hm := oI hm; subst hm
        exact rg (pv (r_mi rfl) (pv (r_ib rfl rfl rfl) (pv (r_zi rfl) (nil (t_blk (t_then ⟨m2, Nat.lt_succ_self _, _, _, (IntKind.wrap .i64 (x7 - 1)), env_has ⟨rfl, rfl, rfl, rfl, rfl, trivial⟩, (iT im10 (iT im11 im12)), hS11.sel [0, 1] rfl, hn2⟩))))))
      have hm := cfalse hb5 hm
      have hm := oI hm; subst hm
      have hn2 : _ = Lp.brk _ := hn2
      subst hn2
      have hm := thn_brk hq2
      exact xt (x_then (x_then (x_eq (t_then ⟨_, _, x7, env_has ⟨rfl, rfl, rfl, rfl, rfl, trivial⟩, (iT im10 (iT im11 im12)), hS11.sel [0, 1] rfl, hm⟩))))
    have hm := cfalse hb4 hm
    refine sU rfl (gI rfl rfl hb4) (sU rfl (gI rfl rfl hb4) (sU rfl (gI rfl rfl hb4) (sU rfl (gI rfl rfl hb4) (sU rfl (gI rfl rfl hb4) (sU rfl (gI rfl rfl hb4) (sU rfl (gI rfl rfl hb4) (sU rfl (gI rfl rfl hb4) (sU rfl (gI rfl rfl hb4) (sU rfl (gI rfl rfl hb4) (sU rfl (gI rfl rfl hb4) (s0 rfl trivial (fun _ => r_pkf rfl hb4 rfl) rfl (se (t_then ?_)))))))))))))
    refine cnd (b := false) rfl (fun h => nomatch h) (fun _ => ?_)
    have hm := oI hm; subst hm
    have hn2 : _ = Lp.brk _ := hn2
    subst hn2
    have hm := thn_brk hq2
    exact xt (x_then (x_then (x_eq (t_then ⟨_, _, x7, env_has ⟨rfl, rfl, rfl, rfl, rfl, trivial⟩, (iT im10 im11), hS10.sel [0, 1] rfl, hm⟩))))
  rintro _ w9 ⟨J, T5, x6, rfl, im9, hS12, hm⟩
  rw [hkk2] at hm
  refine sq2 (sq2 (rg (pv (r_mi rfl) (pv (r_mi rfl) (pv (r_ib rfl rfl rfl) (nil (t_then ?_)))))))
  refine cnd rfl (fun hb7 => ?_) (fun hb7 => ?_)
  · have hm := ctrue hb7 hm
    have hm := oI hm; subst hm
    have hn1 : _ = Lp.brk _ := hn1
    subst hn1
    have hm := thn_brk hq1
    refine xt (x_then (x_ne (by decide) (x_then (x_eq (t_then ?_)))))
    refine sq2 (rg (pv (r_mi rfl) (pv (r_zi rfl) (nil (t_then ?_)))))
    have hm := oI hm; subst hm
    exact rtn (ret1 rfl rfl ⟨_, rfl, _, (iT im1 (iT im2 (iT im3 (iT im4 (iT im5 im9))))), ⟨rfl, hS12.sel [0, 1] rfl, trivial⟩⟩)
  have hm := cfalse hb7 hm
  refine skp (t_then ?_)
  refine sq2 (rs [0, 0, 0, 0, 0, 0, 0, 1, 0, 0, 0, 1, 0, 2, 0, 2] [0, 1, 2, 3, 4, 5, 6, 7, 8, 9, 10, 11, 12, 13, 14, 15] mix (by kernel_rfl) hS12.lt fun w13 i4 => ?_)
  have im13 := i4.imm
  have hS13 := hS12.keep i4 (fun _ h => h)
  obtain ⟨u11, hx13, hm⟩ := bindS hm
  obtain ⟨b9, of9, cs9, k9, cp9, hv9, hp9, hl9, he9, hr9, hc9⟩ := (hS13.own (i := 1) ⟨rfl, rfl⟩).v.ixq hx13 rfl
  cases rAllocReach_open hr9
  obtain ⟨u12, hx14, hm⟩ := bindS hm
  obtain ⟨b10, of10, cs10, k10, cp10, hv10, hp10, hl10, he10, hr10, hc10⟩ := (hS13.own (i := 1) ⟨rfl, rfl⟩).v.ixq hx14 rfl
  cases rAllocReach_open hr10
  obtain ⟨u13, hx15, hm⟩ := bindS hm
  obtain ⟨b11, of11, cs11, k11, cp11, hv11, hp11, hl11, he11, hr11, hc11⟩ := (hS13.own (i := 1) ⟨rfl, rfl⟩).v.ixq hx15 rfl
  cases rAllocReach_open hr11
  obtain ⟨u14, hx16, hm⟩ := bindS hm
  refine s0 rfl trivial (fun _ => r_ms rfl) rfl (s0 rfl trivial (fun _ => r_mi rfl) rfl (s0 rfl trivial (fun _ => r_ms rfl) rfl (s0 rfl trivial (fun _ => r_mi rfl) rfl (s0 rfl trivial (fun _ => r_ms rfl) rfl (s0 rfl trivial (fun _ => r_mi rfl) rfl (s0 rfl trivial (fun _ => r_ixe hv9 rfl Try.underlying56 Try.sizeOf60 hp9 hl9 he9) rfl (s1 rfl trivial (r_ldS rfl Try.isAgg60 Try.sizeOf60 rfl hc9 (cs := (cAllocReach u11))) rfl (s0 rfl trivial (fun _ => r_ms rfl) rfl (s0 rfl trivial (fun _ => r_mi rfl) rfl (s0 rfl trivial (fun _ => r_ixe hv10 rfl Try.underlying56 Try.sizeOf60 hp10 hl10 he10) rfl (s1 rfl trivial (r_ldS rfl Try.isAgg60 Try.sizeOf60 rfl hc10 (cs := (cAllocReach u12))) rfl (s0 rfl trivial (fun _ => r_ixe hv11 rfl Try.underlying56 Try.sizeOf60 hp11 hl11 he11) rfl (s2 [] rfl trivial rfl (by kernel_rfl) (stO (q := 1) (i := Int.toNat x4) (j := 0) (u := u14) (u' := u11) hS13 ⟨rfl, rfl⟩ hv11 (idx_some hx16).2.2 he11 rfl rfl rfl Try.sizeOf60 rfl rfl rfl (fun c0 hc0 => by rw [storeL_all (r := rAllocReach) hc0 rfl]; exact (rAllocReach_mk (x := u11)  : rAllocReach.rp _ _ _ _)) fun w14 im14 hS14 => ?_))))))))))))))
  have hS14 : Sep g T5 w14 [R, ownA rAllocReach 60 (.slice a1 n1 c1) (List.set x1 (Int.toNat x4) u11)] := hS14
  refine ⟨st0, ?_⟩
  obtain ⟨u15, hx17, hm⟩ := bindS hm
  obtain ⟨b12, of12, cs12, k12, cp12, hv12, hp12, hl12, he12, hr12, hc12⟩ := (hS14.own (i := 1) ⟨rfl, rfl⟩).v.ixq hx17 rfl
  cases rAllocReach_open hr12
  obtain ⟨u16, hx18, hm⟩ := bindS hm
  refine s0 rfl trivial (fun _ => r_ixe hv12 rfl Try.underlying56 Try.sizeOf60 hp12 hl12 he12) rfl (s2 [] rfl trivial rfl (by kernel_rfl) (stO (q := 1) (i := Int.toNat x6) (j := 0) (u := u16) (u' := u12) hS14 ⟨rfl, rfl⟩ hv12 (idx_some hx18).2.2 he12 rfl rfl rfl Try.sizeOf60 rfl rfl rfl (fun c0 hc0 => by rw [storeL_all (r := rAllocReach) hc0 rfl]; exact (rAllocReach_mk (x := u12)  : rAllocReach.rp _ _ _ _)) fun w15 im15 hS15 => ?_))
  have hS15 : Sep g T5 w15 [R, ownA rAllocReach 60 (.slice a1 n1 c1) (List.set (List.set x1 (Int.toNat x4) u11) (Int.toNat x6) u12)] := hS15
  refine ⟨st0, ?_⟩
  refine se (t_then ?_)
  refine sq2 (rg (pv (r_mi rfl) (pv (r_ib rfl rfl rfl) (pv (r_zi rfl) (nil (t_then ?_))))))
  have hm := oI hm; subst hm
  exact rg (pv (r_mi rfl) (pv (r_ib rfl rfl rfl) (pv (r_zi rfl) (nil (t_blk (t_then ⟨m1, Nat.lt_succ_self _, _, _, (List.set (List.set x1 (Int.toNat x4) u11) (Int.toNat x6) u12), (IntKind.wrap .i64 (x4 + 1)), (IntKind.wrap .i64 (x6 - 1)), env_has ⟨rfl, rfl, rfl, rfl, rfl, trivial⟩, (iT im4 (iT im5 (iT im9 (iT im13 (iT im14 im15))))), hS15.sel [0, 1] rfl, hn1⟩))))))

set_option maxRecDepth 100000 in
set_option maxHeartbeats 1000000 in
theorem slices_partitionCmpFunc_sim {g : World} {T0 : Nat → Prop} {w0 : World} {R : Assn} {p0 : List AllocReach} {a1 : Option Addr} {n1 : Nat} {c1 : Nat} {p1 : Int} {p2 : Int} {p3 : Int} {r : Int × Bool × (List AllocReach)} (hS : Sep g T0 w0 [R, ownA rAllocReach 60 (.slice a1 n1 c1) p0])  (hm : slices_partitionCmpFunc p0 p1 p2 p3 = some r) :
    Calls Try.prog 60 #[.slice a1 n1 c1, .int .i64 p1, .int .i64 p2, .int .i64 p3, .func (.func 20) #[] #[]] w0 (RetS T0 w0 fun T w v => v = .tuple #[.int .i64 r.1, .bool r.2.1] ∧ Sep g T w [R, ownA rAllocReach 60 (.slice a1 n1 c1) r.2.2] ∧ True) := by
  refine enter (args := [.slice a1 n1 c1, .int .i64 p1, .int .i64 p2, .int .i64 p3, .func (.func 20) #[] #[]]) Try.func60 rfl Try.ntmps60 rfl fun J => ?_
  unfold slices_partitionCmpFunc at hm
  refine sq2 (rg (pv (r_zi rfl) (pv (r_zb rfl) (nil (t_then ?_)))))
  refine sq2 (rs [0, 0, 0, 0, 0, 0, 0, 1, 0, 0, 0, 1, 0, 2, 0, 2] [0, 1, 2, 3, 4, 5, 6, 7, 8, 9, 10, 11, 12, 13, 14, 15] mix (by kernel_rfl) hS.lt fun w1 i1 => ?_)
  have im1 := i1.imm
  have hS1 := hS.keep i1 (fun _ h => h)
  obtain ⟨u1, hx1, hm⟩ := bindS hm
  obtain ⟨b1, of1, cs1, k1, cp1, hv1, hp1, hl1, he1, hr1, hc1⟩ := (hS1.own (i := 1) ⟨rfl, rfl⟩).v.ixq hx1 rfl
  cases rAllocReach_open hr1
  obtain ⟨u2, hx2, hm⟩ := bindS hm
  obtain ⟨b2, of2, cs2, k2, cp2, hv2, hp2, hl2, he2, hr2, hc2⟩ := (hS1.own (i := 1) ⟨rfl, rfl⟩).v.ixq hx2 rfl
  cases rAllocReach_open hr2
  obtain ⟨u3, hx3, hm⟩ := bindS hm
  obtain ⟨b3, of3, cs3, k3, cp3, hv3, hp3, hl3, he3, hr3, hc3⟩ := (hS1.own (i := 1) ⟨rfl, rfl⟩).v.ixq hx3 rfl
  cases rAllocReach_open hr3
  obtain ⟨u4, hx4, hm⟩ := bindS hm
  refine s0 rfl trivial (fun _ => r_ms rfl) rfl (s0 rfl trivial (fun _ => r_mi rfl) rfl (s0 rfl trivial (fun _ => r_ms rfl) rfl (s0 rfl trivial (fun _ => r_mi rfl) rfl (s0 rfl trivial (fun _ => r_ms rfl) rfl (s0 rfl trivial (fun _ => r_mi rfl) rfl (s0 rfl trivial (fun _ => r_ixe hv1 rfl Try.underlying56 Try.sizeOf60 hp1 hl1 he1) rfl (s1 rfl trivial (r_ldS rfl Try.isAgg60 Try.sizeOf60 rfl hc1 (cs := (cAllocReach u1))) rfl (s0 rfl trivial (fun _ => r_ms rfl) rfl (s0 rfl trivial (fun _ => r_mi rfl) rfl (s0 rfl trivial (fun _ => r_ixe hv2 rfl Try.underlying56 Try.sizeOf60 hp2 hl2 he2) rfl (s1 rfl trivial (r_ldS rfl Try.isAgg60 Try.sizeOf60 rfl hc2 (cs := (cAllocReach u2))) rfl (s0 rfl trivial (fun _ => r_ixe hv3 rfl Try.underlying56 Try.sizeOf60 hp3 hl3 he3) rfl (s2 [] rfl trivial rfl (by kernel_rfl) (stO (q := 1) (i := Int.toNat p1) (j := 0) (u := u4) (u' := u1) hS1 ⟨rfl, rfl⟩ hv3 (idx_some hx4).2.2 he3 rfl rfl rfl Try.sizeOf60 rfl rfl rfl (fun c0 hc0 => by rw [storeL_all (r := rAllocReach) hc0 rfl]; exact (rAllocReach_mk (x := u1)  : rAllocReach.rp _ _ _ _)) fun w2 im2 hS2 => ?_))))))))))))))
  have hS2 : Sep g T0 w2 [R, ownA rAllocReach 60 (.slice a1 n1 c1) (List.set p0 (Int.toNat p1) u1)] := hS2
  refine ⟨st0, ?_⟩
  obtain ⟨u5, hx5, hm⟩ := bindS hm
  obtain ⟨b4, of4, cs4, k4, cp4, hv4, hp4, hl4, he4, hr4, hc4⟩ := (hS2.own (i := 1) ⟨rfl, rfl⟩).v.ixq hx5 rfl
  cases rAllocReach_open hr4
  obtain ⟨u6, hx6, hm⟩ := bindS hm
  refine s0 rfl trivial (fun _ => r_ixe hv4 rfl Try.underlying56 Try.sizeOf60 hp4 hl4 he4) rfl (s2 [] rfl trivial rfl (by kernel_rfl) (stO (q := 1) (i := Int.toNat p3) (j := 0) (u := u6) (u' := u2) hS2 ⟨rfl, rfl⟩ hv4 (idx_some hx6).2.2 he4 rfl rfl rfl Try.sizeOf60 rfl rfl rfl (fun c0 hc0 => by rw [storeL_all (r := rAllocReach) hc0 rfl]; exact (rAllocReach_mk (x := u2)  : rAllocReach.rp _ _ _ _)) fun w3 im3 hS3 => ?_))
  have hS3 : Sep g T0 w3 [R, ownA rAllocReach 60 (.slice a1 n1 c1) (List.set (List.set p0 (Int.toNat p1) u1) (Int.toNat p3) u2)] := hS3
  refine ⟨st0, ?_⟩
  refine se (t_then ?_)
  refine sq2 (rg (pv (r_mi rfl) (pv (r_ib rfl rfl rfl) (pv (r_mi rfl) (pv (r_ib rfl rfl rfl) (pv (r_zi rfl) (pv (r_zi rfl) (nil (t_then ?_)))))))))
  obtain ⟨kk1, hkk1, hm⟩ := jn_open hm
  refine cut (fun a w4 => ∃ (J : Nat → Value) (T1 : Nat → Prop) (x1 : Int), a = env (nf 178) J [(0, .slice a1 n1 c1), (1, .int .i64 p1), (4, .func (.func 20) #[] #[]), (12, .int .i64 x1), (13, .int .i64 (IntKind.wrap .i64 (p2 - 1)))] ∧ Im T0 w3 T1 w4 ∧ Sep g T1 w4 [R, ownA rAllocReach 60 (.slice a1 n1 c1) (List.set (List.set p0 (Int.toNat p1) u1) (Int.toNat p3) u2)] ∧ kk1 x1 = some r) ?_ ?_
  · obtain ⟨o1, ho1, hq1⟩ := bindS hm
    obtain ⟨bd1, hbd1, ho1⟩ := loop_open ho1
    refine blk (wp_loop_ghost (fun m a w5 => ∃ (J : Nat → Value) (T2 : Nat → Prop) (x2 : Int), a = env (nf 178) J [(0, .slice a1 n1 c1), (1, .int .i64 p1), (4, .func (.func 20) #[] #[]), (12, .int .i64 x2), (13, .int .i64 (IntKind.wrap .i64 (p2 - 1)))] ∧ Im T0 w3 T2 w5 ∧ Sep g T2 w5 [R, ownA rAllocReach 60 (.slice a1 n1 c1) (List.set (List.set p0 (Int.toNat p1) u1) (Int.toNat p3) u2)] ∧ loopM bd1 m x2 = some o1) NN ⟨_, _, (IntKind.wrap .i64 (p1 + 1)), env_has ⟨rfl, rfl, rfl, rfl, rfl, trivial⟩, Im.refl, hS3.sel [0, 1] rfl, ho1⟩ ?_)
    rintro m _ w5 ⟨J, T2, x2, rfl, im5, hS4, ho1⟩
    obtain ⟨m1, z1, rfl, hm, hn1⟩ := loop_round ho1
    rw [hbd1] at hm
    refine sq2 (sq2 (rs [0, 0, 0, 0, 0, 0, 0, 0, 1, 0, 0, 0, 1, 2, 0, 0] [0, 1, 2, 3, 4, 5, 6, 7, 8, 9, 10, 11, 12, 13, 14, 15] mix (by kernel_rfl) hS4.lt fun w6 i2 => ?_))
    have im6 := i2.imm
    have hS5 := hS4.keep i2 (fun _ h => h)
    refine s0 rfl trivial (fun _ => r_mi rfl) rfl (s0 rfl trivial (fun _ => r_mi rfl) rfl (s0 rfl trivial (fun _ => r_ib rfl rfl rfl) rfl (s0 rfl trivial (fun _ => r_mb rfl) rfl (?_))))
    rcases Bool.eq_false_or_eq_true (decide (x2 ≤ (IntKind.wrap .i64 (p2 - 1)))) with hb1 | hb1
    · have hm := ctrue hb1 hm
      obtain ⟨u7, hx7, hm⟩ := bindS hm
      obtain ⟨b5, of5, cs5, k5, cp5, hv5, hp5, hl5, he5, hr5, hc5⟩ := (hS5.own (i := 1) ⟨rfl, rfl⟩).v.ixq hx7 rfl
      cases rAllocReach_open hr5
      obtain ⟨u8, hx8, hm⟩ := bindS hm
      obtain ⟨b6, of6, cs6, k6, cp6, hv6, hp6, hl6, he6, hr6, hc6⟩ := (hS5.own (i := 1) ⟨rfl, rfl⟩).v.ixq hx8 rfl
      cases rAllocReach_open hr6
      obtain ⟨y1, hx9, hm⟩ := bindS hm
      refine s0 rfl ⟨_, rfl, congrArg Value.bool hb1⟩ (fun _ => r_mf rfl) rfl (s0 rfl ⟨_, rfl, congrArg Value.bool hb1⟩ (fun _ => r_ms rfl) rfl (s0 rfl ⟨_, rfl, congrArg Value.bool hb1⟩ (fun _ => r_mi rfl) rfl (s0 rfl ⟨_, rfl, congrArg Value.bool hb1⟩ (fun _ => r_ixe hv5 rfl Try.underlying56 Try.sizeOf60 hp5 hl5 he5) rfl (s1 rfl ⟨_, rfl, congrArg Value.bool hb1⟩ (r_ldS rfl Try.isAgg60 Try.sizeOf60 rfl hc5 (cs := (cAllocReach u7))) rfl (s0 rfl ⟨_, rfl, congrArg Value.bool hb1⟩ (fun _ => r_ms rfl) rfl (s0 rfl ⟨_, rfl, congrArg Value.bool hb1⟩ (fun _ => r_mi rfl) rfl (s0 rfl ⟨_, rfl, congrArg Value.bool hb1⟩ (fun _ => r_ixe hv6 rfl Try.underlying56 Try.sizeOf60 hp6 hl6 he6) rfl (s1 rfl ⟨_, rfl, congrArg Value.bool hb1⟩ (r_ldS rfl Try.isAgg60 Try.sizeOf60 rfl hc6 (cs := (cAllocReach u8))) rfl (s2 [] rfl ⟨_, rfl, congrArg Value.bool hb1⟩ rfl (by kernel_rfl) (calS cf20 rfl (alloc_Assign_2_sim (p0 := u7) (p1 := u8) (hS5.bun [0, 1] [] rfl)  hx9) rfl fun v1 T3 w7 im7 rv1 => ?_))))))))))
      obtain ⟨rfl, hS6, _⟩ := rv1
      have hS6 : Sep g T3 w7 [R, ownA rAllocReach 60 (.slice a1 n1 c1) (List.set (List.set p0 (Int.toNat p1) u1) (Int.toNat p3) u2)] := hS6.unb
      refine ⟨st0, ?_⟩
      refine s0 rfl ⟨_, rfl, congrArg Value.bool hb1⟩ (fun _ => r_ib rfl rfl rfl) rfl (s0 rfl trivial (fun _ => r_pkt rfl hb1 rfl) rfl (se (t_then ?_)))
      refine cnd rfl (fun hb2 => ?_) (fun hb2 => ?_)
      · have hm := ctrue hb2 hm
        refine skp (t_then ?_)
        refine blk ?_
        have hm := oI hm; subst hm
        exact rg (pv (r_mi rfl) (pv (r_ib rfl rfl rfl) (pv (r_zi rfl) (nil (t_blk (t_then ⟨m1, Nat.lt_succ_self _, _, _, (IntKind.wrap .i64 (x2 + 1)), env_has ⟨rfl, rfl, rfl, rfl, rfl, trivial⟩, (iT im5 (iT im6 im7)), hS6.sel [0, 1] rfl, hn1⟩))))))
      have hm := cfalse hb2 hm
      have hm := oI hm; subst hm
      have hn1 : _ = Lp.brk _ := hn1
      subst hn1
      have hm := thn_brk hq1
      exact xt (x_then (x_then (x_eq (t_then ⟨_, _, x2, env_has ⟨rfl, rfl, rfl, rfl, rfl, trivial⟩, (iT im5 (iT im6 im7)), hS6.sel [0, 1] rfl, hm⟩))))
    have hm := cfalse hb1 hm
    refine sU rfl (gI rfl rfl hb1) (sU rfl (gI rfl rfl hb1) (sU rfl (gI rfl rfl hb1) (sU rfl (gI rfl rfl hb1) (sU rfl (gI rfl rfl hb1) (sU rfl (gI rfl rfl hb1) (sU rfl (gI rfl rfl hb1) (sU rfl (gI rfl rfl hb1) (sU rfl (gI rfl rfl hb1) (sU rfl (gI rfl rfl hb1) (sU rfl (gI rfl rfl hb1) (s0 rfl trivial (fun _ => r_pkf rfl hb1 rfl) rfl (se (t_then ?_)))))))))))))
    refine cnd (b := false) rfl (fun h => nomatch h) (fun _ => ?_)
    have hm := oI hm; subst hm
    have hn1 : _ = Lp.brk _ := hn1
    subst hn1
    have hm := thn_brk hq1
    exact xt (x_then (x_then (x_eq (t_then ⟨_, _, x2, env_has ⟨rfl, rfl, rfl, rfl, rfl, trivial⟩, (iT im5 im6), hS5.sel [0, 1] rfl, hm⟩))))
  rintro _ w4 ⟨J, T1, x1, rfl, im4, hS7, hm⟩
  rw [hkk1] at hm
  obtain ⟨kk2, hkk2, hm⟩ := jn_open hm
  refine cut (fun a w8 => ∃ (J : Nat → Value) (T4 : Nat → Prop) (x3 : Int), a = env (nf 178) J [(0, .slice a1 n1 c1), (1, .int .i64 p1), (4, .func (.func 20) #[] #[]), (12, .int .i64 x1), (13, .int .i64 x3)] ∧ Im T1 w4 T4 w8 ∧ Sep g T4 w8 [R, ownA rAllocReach 60 (.slice a1 n1 c1) (List.set (List.set p0 (Int.toNat p1) u1) (Int.toNat p3) u2)] ∧ kk2 x3 = some r) ?_ ?_
  · obtain ⟨o1, ho1, hq1⟩ := bindS hm
    obtain ⟨bd1, hbd1, ho1⟩ := loop_open ho1
    refine blk (wp_loop_ghost (fun m a w9 => ∃ (J : Nat → Value) (T5 : Nat → Prop) (x4 : Int), a = env (nf 178) J [(0, .slice a1 n1 c1), (1, .int .i64 p1), (4, .func (.func 20) #[] #[]), (12, .int .i64 x1), (13, .int .i64 x4)] ∧ Im T1 w4 T5 w9 ∧ Sep g T5 w9 [R, ownA rAllocReach 60 (.slice a1 n1 c1) (List.set (List.set p0 (Int.toNat p1) u1) (Int.toNat p3) u2)] ∧ loopM bd1 m x4 = some o1) NN ⟨_, _, (IntKind.wrap .i64 (p2 - 1)), env_has ⟨rfl, rfl, rfl, rfl, rfl, trivial⟩, Im.refl, hS7.sel [0, 1] rfl, ho1⟩ ?_)
    rintro m _ w9 ⟨J, T5, x4, rfl, im9, hS8, ho1⟩
    obtain ⟨m1, z1, rfl, hm, hn1⟩ := loop_round ho1
    rw [hbd1] at hm
    refine sq2 (sq2 (rs [0, 0, 0, 0, 0, 0, 0, 0, 1, 0, 0, 0, 1, 2, 0, 0, 0] [0, 1, 2, 3, 4, 5, 6, 7, 8, 9, 10, 11, 12, 13, 14, 15, 16] mix (by kernel_rfl) hS8.lt fun w10 i3 => ?_))
    have im10 := i3.imm
    have hS9 := hS8.keep i3 (fun _ h => h)
    refine s0 rfl trivial (fun _ => r_mi rfl) rfl (s0 rfl trivial (fun _ => r_mi rfl) rfl (s0 rfl trivial (fun _ => r_ib rfl rfl rfl) rfl (s0 rfl trivial (fun _ => r_mb rfl) rfl (?_))))
    rcases Bool.eq_false_or_eq_true (decide (x1 ≤ x4)) with hb4 | hb4
    · have hm := ctrue hb4 hm
      obtain ⟨u9, hx10, hm⟩ := bindS hm
      obtain ⟨b7, of7, cs7, k7, cp7, hv7, hp7, hl7, he7, hr7, hc7⟩ := (hS9.own (i := 1) ⟨rfl, rfl⟩).v.ixq hx10 rfl
      cases rAllocReach_open hr7
      obtain ⟨u10, hx11, hm⟩ := bindS hm
      obtain ⟨b8, of8, cs8, k8, cp8, hv8, hp8, hl8, he8, hr8, hc8⟩ := (hS9.own (i := 1) ⟨rfl, rfl⟩).v.ixq hx11 rfl
      cases rAllocReach_open hr8
      obtain ⟨y2, hx12, hm⟩ := bindS hm
      refine s0 rfl ⟨_, rfl, congrArg Value.bool hb4⟩ (fun _ => r_mf rfl) rfl (s0 rfl ⟨_, rfl, congrArg Value.bool hb4⟩ (fun _ => r_ms rfl) rfl (s0 rfl ⟨_, rfl, congrArg Value.bool hb4⟩ (fun _ => r_mi rfl) rfl (s0 rfl ⟨_, rfl, congrArg Value.bool hb4⟩ (fun _ => r_ixe hv7 rfl Try.underlying56 Try.sizeOf60 hp7 hl7 he7) rfl (s1 rfl ⟨_, rfl, congrArg Value.bool hb4⟩ (r_ldS rfl Try.isAgg60 Try.sizeOf60 rfl hc7 (cs := (cAllocReach u9))) rfl (s0 rfl ⟨_, rfl, congrArg Value.bool hb4⟩ (fun _ => r_ms rfl) rfl (s0 rfl ⟨_, rfl, congrArg Value.bool hb4⟩ (fun _ => r_mi rfl) rfl (s0 rfl ⟨_, rfl, congrArg Value.bool hb4⟩ (fun _ => r_ixe hv8 rfl Try.underlying56 Try.sizeOf60 hp8 hl8 he8) rfl (s1 rfl ⟨_, rfl, congrArg Value.bool hb4⟩ (r_ldS rfl Try.isAgg60 Try.sizeOf60 rfl hc8 (cs := (cAllocReach u10))) rfl (s2 [] rfl ⟨_, rfl, congrArg Value.bool hb4⟩ rfl (by kernel_rfl) (calS cf20 rfl (alloc_Assign_2_sim (p0 := u9) (p1 := u10) (hS9.bun [0, 1] [] rfl)  hx12) rfl fun v2 T6 w11 im11 rv2 => ?_))))))))))
      obtain ⟨rfl, hS10, _⟩ := rv2
      have hS10 : Sep g T6 w11 [R, ownA rAllocReach 60 (.slice a1 n1 c1) (List.set (List.set p0 (Int.toNat p1) u1) (Int.toNat p3) u2)] := hS10.unb
      refine ⟨st0, ?_⟩
      refine s0 rfl ⟨_, rfl, congrArg Value.bool hb4⟩ (fun _ => r_ib rfl rfl rfl) rfl (s0 rfl ⟨_, rfl, congrArg Value.bool hb4⟩ (fun _ => r_nt rfl) rfl (s0 rfl trivial (fun _ => r_pkt rfl hb4 rfl) rfl (se (t_then ?_))))
      refine cnd rfl (fun hb5 => ?_) (fun hb5 => ?_)
      · have hm := ctrue hb5 hm
        refine skp (t_then ?_)
        refine blk ?_
        have hm := oI hm; subst hm
        exact rg (pv (r_mi rfl) (pv (r_ib rfl rfl rfl) (pv (r_zi rfl) (nil (t_blk (t_then ⟨m1, Nat.lt_succ_self _, _, _, (IntKind.wrap .i64 (x4 - 1)), env_has ⟨rfl, rfl, rfl, rfl, rfl, trivial⟩, (iT im9 (iT im10 im11)), hS10.sel [0, 1] rfl, hn1⟩))))))
      have hm := cfalse hb5 hm
      have hm := oI hm; subst hm
      have hn1 : _ = Lp.brk _ := hn1
      subst hn1
      have hm := thn_brk hq1
      exact xt (x_then (x_then (x_eq (t_then ⟨_, _, x4, env_has ⟨rfl, rfl, rfl, rfl, rfl, trivial⟩, (iT im9 (iT im10 im11)), hS10.sel [0, 1] rfl, hm⟩))))
    have hm := cfalse hb4 hm
    refine sU rfl (gI rfl rfl hb4) (sU rfl (gI rfl rfl hb4) (sU rfl (gI rfl rfl hb4) (sU rfl (gI rfl rfl hb4) (sU rfl (gI rfl rfl hb4) (sU rfl (gI rfl rfl hb4) (sU rfl (gI rfl rfl hb4) (sU rfl (gI rfl rfl hb4) (sU rfl (gI rfl rfl hb4) (sU rfl (gI rfl rfl hb4) (sU rfl (gI rfl rfl hb4) (sU rfl (gI rfl rfl hb4) (s0 rfl trivial (fun _ => r_pkf rfl hb4 rfl) rfl (se (t_then ?_))))))))))))))
    refine cnd (b := false) rfl (fun h => nomatch h) (fun _ => ?_)
    have hm := oI hm; subst hm
    have hn1 : _ = Lp.brk _ := hn1
    subst hn1
    have hm := thn_brk hq1
    exact xt (x_then (x_then (x_eq (t_then ⟨_, _, x4, env_has ⟨rfl, rfl, rfl, rfl, rfl, trivial⟩, (iT im9 im10), hS9.sel [0, 1] rfl, hm⟩))))
  rintro _ w8 ⟨J, T4, x3, rfl, im8, hS11, hm⟩
  rw [hkk2] at hm
  refine sq2 (sq2 (rg (pv (r_mi rfl) (pv (r_mi rfl) (pv (r_ib rfl rfl rfl) (nil (t_then ?_)))))))
  refine cnd rfl (fun hb7 => ?_) (fun hb7 => ?_)
  · have hm := ctrue hb7 hm
    refine sq2 (rs [0, 0, 0, 0, 0, 0, 0, 1, 0, 0, 0, 1, 0, 2, 0, 2] [0, 1, 2, 3, 4, 5, 6, 7, 8, 9, 10, 11, 12, 13, 14, 15] mix (by kernel_rfl) hS11.lt fun w12 i4 => ?_)
    have im12 := i4.imm
    have hS12 := hS11.keep i4 (fun _ h => h)
    obtain ⟨u11, hx13, hm⟩ := bindS hm
    obtain ⟨b9, of9, cs9, k9, cp9, hv9, hp9, hl9, he9, hr9, hc9⟩ := (hS12.own (i := 1) ⟨rfl, rfl⟩).v.ixq hx13 rfl
    cases rAllocReach_open hr9
    obtain ⟨u12, hx14, hm⟩ := bindS hm
    obtain ⟨b10, of10, cs10, k10, cp10, hv10, hp10, hl10, he10, hr10, hc10⟩ := (hS12.own (i := 1) ⟨rfl, rfl⟩).v.ixq hx14 rfl
    cases rAllocReach_open hr10
    obtain ⟨u13, hx15, hm⟩ := bindS hm
    obtain ⟨b11, of11, cs11, k11, cp11, hv11, hp11, hl11, he11, hr11, hc11⟩ := (hS12.own (i := 1) ⟨rfl, rfl⟩).v.ixq hx15 rfl
    cases rAllocReach_open hr11
    obtain ⟨u14, hx16, hm⟩ := bindS hm
    refine s0 rfl trivial (fun _ => r_ms rfl) rfl (s0 rfl trivial (fun _ => r_mi rfl) rfl (s0 rfl trivial (fun _ => r_ms rfl) rfl (s0 rfl trivial (fun _ => r_mi rfl) rfl (s0 rfl trivial (fun _ => r_ms rfl) rfl (s0 rfl trivial (fun _ => r_mi rfl) rfl (s0 rfl trivial (fun _ => r_ixe hv9 rfl Try.underlying56 Try.sizeOf60 hp9 hl9 he9) rfl (s1 rfl trivial (r_ldS rfl Try.isAgg60 Try.sizeOf60 rfl hc9 (cs := (cAllocReach u11))) rfl (s0 rfl trivial (fun _ => r_ms rfl) rfl (s0 rfl trivial (fun _ => r_mi rfl) rfl (s0 rfl trivial (fun _ => r_ixe hv10 rfl Try.underlying56 Try.sizeOf60 hp10 hl10 he10) rfl (s1 rfl trivial (r_ldS rfl Try.isAgg60 Try.sizeOf60 rfl hc10 (cs := (cAllocReach u12))) rfl (s0 rfl trivial (fun _ => r_ixe hv11 rfl Try.underlying56 Try.sizeOf60 hp11 hl11 he11) rfl (s2 [] rfl trivial rfl (by kernel_rfl) (stO (q := 1) (i := Int.toNat x3) (j := 0) (u := u14) (u' := u11) hS12 ⟨rfl, rfl⟩ hv11 (idx_some hx16).2.2 he11 rfl rfl rfl Try.sizeOf60 rfl rfl rfl (fun c0 hc0 => by rw [storeL_all (r := rAllocReach) hc0 rfl]; exact (rAllocReach_mk (x := u11)  : rAllocReach.rp _ _ _ _)) fun w13 im13 hS13 => ?_))))))))))))))
    have hS13 : Sep g T4 w13 [R, ownA rAllocReach 60 (.slice a1 n1 c1) (List.set (List.set (List.set p0 (Int.toNat p1) u1) (Int.toNat p3) u2) (Int.toNat x3) u11)] := hS13
    refine ⟨st0, ?_⟩
    obtain ⟨u15, hx17, hm⟩ := bindS hm
    obtain ⟨b12, of12, cs12, k12, cp12, hv12, hp12, hl12, he12, hr12, hc12⟩ := (hS13.own (i := 1) ⟨rfl, rfl⟩).v.ixq hx17 rfl
    cases rAllocReach_open hr12
    obtain ⟨u16, hx18, hm⟩ := bindS hm
    refine s0 rfl trivial (fun _ => r_ixe hv12 rfl Try.underlying56 Try.sizeOf60 hp12 hl12 he12) rfl (s2 [] rfl trivial rfl (by kernel_rfl) (stO (q := 1) (i := Int.toNat p1) (j := 0) (u := u16) (u' := u12) hS13 ⟨rfl, rfl⟩ hv12 (idx_some hx18).2.2 he12 rfl rfl rfl Try.sizeOf60 rfl rfl rfl (fun c0 hc0 => by rw [storeL_all (r := rAllocReach) hc0 rfl]; exact (rAllocReach_mk (x := u12)  : rAllocReach.rp _ _ _ _)) fun w14 im14 hS14 => ?_))
    have hS14 : Sep g T4 w14 [R, ownA rAllocReach 60 (.slice a1 n1 c1) (List.set (List.set (List.set (List.set p0 (Int.toNat p1) u1) (Int.toNat p3) u2) (Int.toNat x3) u11) (Int.toNat p1) u12)] := hS14
    refine ⟨st0, ?_⟩
    refine se (t_then ?_)
    refine sq2 (rg (pv (r_mi rfl) (pv (r_zi rfl) (pv (r_zb rfl) (nil (t_then ?_))))))
    have hm := oI hm; subst hm
    exact rtn (r_then (retN (vs := [.int .i64 x3, .bool true]) rfl ⟨rfl, rfl, trivial⟩ rfl ⟨_, rfl, _, (iT im1 (iT im2 (iT im3 (iT im4 (iT im8 (iT im12 (iT im13 im14))))))), ⟨rfl, hS14.sel [0, 1] rfl, trivial⟩⟩))
  have hm := cfalse hb7 hm
  refine skp (t_then ?_)
  refine sq2 (rs [0, 0, 0, 0, 0, 0, 0, 1, 0, 0, 0, 1, 0, 2, 0, 2] [0, 1, 2, 3, 4, 5, 6, 7, 8, 9, 10, 11, 12, 13, 14, 15] mix (by kernel_rfl) hS11.lt fun w15 i5 => ?_)
  have im15 := i5.imm
  have hS15 := hS11.keep i5 (fun _ h => h)
  obtain ⟨u17, hx19, hm⟩ := bindS hm
  obtain ⟨b13, of13, cs13, k13, cp13, hv13, hp13, hl13, he13, hr13, hc13⟩ := (hS15.own (i := 1) ⟨rfl, rfl⟩).v.ixq hx19 rfl
  cases rAllocReach_open hr13
  obtain ⟨u18, hx20, hm⟩ := bindS hm
  obtain ⟨b14, of14, cs14, k14, cp14, hv14, hp14, hl14, he14, hr14, hc14⟩ := (hS15.own (i := 1) ⟨rfl, rfl⟩).v.ixq hx20 rfl
  cases rAllocReach_open hr14
  obtain ⟨u19, hx21, hm⟩ := bindS hm
  obtain ⟨b15, of15, cs15, k15, cp15, hv15, hp15, hl15, he15, hr15, hc15⟩ := (hS15.own (i := 1) ⟨rfl, rfl⟩).v.ixq hx21 rfl
  cases rAllocReach_open hr15
  obtain ⟨u20, hx22, hm⟩ := bindS hm
  refine s0 rfl trivial (fun _ => r_ms rfl) rfl (s0 rfl trivial (fun _ => r_mi rfl) rfl (s0 rfl trivial (fun _ => r_ms rfl) rfl (s0 rfl trivial (fun _ => r_mi rfl) rfl (s0 rfl trivial (fun _ => r_ms rfl) rfl (s0 rfl trivial (fun _ => r_mi rfl) rfl (s0 rfl trivial (fun _ => r_ixe hv13 rfl Try.underlying56 Try.sizeOf60 hp13 hl13 he13) rfl (s1 rfl trivial (r_ldS rfl Try.isAgg60 Try.sizeOf60 rfl hc13 (cs := (cAllocReach u17))) rfl (s0 rfl trivial (fun _ => r_ms rfl) rfl (s0 rfl trivial (fun _ => r_mi rfl) rfl (s0 rfl trivial (fun _ => r_ixe hv14 rfl Try.underlying56 Try.sizeOf60 hp14 hl14 he14) rfl (s1 rfl trivial (r_ldS rfl Try.isAgg60 Try.sizeOf60 rfl hc14 (cs := (cAllocReach u18))) rfl (s0 rfl trivial (fun _ => r_ixe hv15 rfl Try.underlying56 Try.sizeOf60 hp15 hl15 he15) rfl (s2 [] rfl trivial rfl (by kernel_rfl) (stO (q := 1) (i := Int.toNat x1) (j := 0) (u := u20) (u' := u17) hS15 ⟨rfl, rfl⟩ hv15 (idx_some hx22).2.2 he15 rfl rfl rfl Try.sizeOf60 rfl rfl rfl (fun c0 hc0 => by rw [storeL_all (r := rAllocReach) hc0 rfl]; exact (rAllocReach_mk (x := u17)  : rAllocReach.rp _ _ _ _)) fun w16 im16 hS16 => ?_))))))))))))))
  have hS16 : Sep g T4 w16 [R, ownA rAllocReach 60 (.slice a1 n1 c1) (List.set (List.set (List.set p0 (Int.toNat p1) u1) (Int.toNat p3) u2) (Int.toNat x1) u17)] := hS16
  refine ⟨st0, ?_⟩
  obtain ⟨u21, hx23, hm⟩ := bindS hm
  obtain ⟨b16, of16, cs16, k16, cp16, hv16, hp16, hl16, he16, hr16, hc16⟩ := (hS16.own (i := 1) ⟨rfl, rfl⟩).v.ixq hx23 rfl
  cases rAllocReach_open hr16
  obtain ⟨u22, hx24, hm⟩ := bindS hm
  refine s0 rfl trivial (fun _ => r_ixe hv16 rfl Try.underlying56 Try.sizeOf60 hp16 hl16 he16) rfl (s2 [] rfl trivial rfl (by kernel_rfl) (stO (q := 1) (i := Int.toNat x3) (j := 0) (u := u22) (u' := u18) hS16 ⟨rfl, rfl⟩ hv16 (idx_some hx24).2.2 he16 rfl rfl rfl Try.sizeOf60 rfl rfl rfl (fun c0 hc0 => by rw [storeL_all (r := rAllocReach) hc0 rfl]; exact (rAllocReach_mk (x := u18)  : rAllocReach.rp _ _ _ _)) fun w17 im17 hS17 => ?_))
  have hS17 : Sep g T4 w17 [R, ownA rAllocReach 60 (.slice a1 n1 c1) (List.set (List.set (List.set (List.set p0 (Int.toNat p1) u1) (Int.toNat p3) u2) (Int.toNat x1) u17) (Int.toNat x3) u18)] := hS17
  refine ⟨st0, ?_⟩
  refine se (t_then ?_)
  refine sq2 (rg (pv (r_mi rfl) (pv (r_ib rfl rfl rfl) (pv (r_zi rfl) (nil (t_then ?_))))))
  refine sq2 (rg (pv (r_mi rfl) (pv (r_ib rfl rfl rfl) (pv (r_zi rfl) (nil (t_then ?_))))))
  obtain ⟨kk3, hkk3, hm⟩ := jn_open hm
  refine cut (fun a w18 => ∃ (J : Nat → Value) (T7 : Nat → Prop) (x5 : List AllocReach) (x6 : Int), a = env (nf 178) J [(0, .slice a1 n1 c1), (1, .int .i64 p1), (13, .int .i64 x6)] ∧ Im T4 w17 T7 w18 ∧ Sep g T7 w18 [R, ownA rAllocReach 60 (.slice a1 n1 c1) x5] ∧ kk3 x5 x6 = some r) ?_ ?_
  · obtain ⟨o1, ho1, hq1⟩ := bindS hm
    obtain ⟨bd1, hbd1, ho1⟩ := loop_open ho1
    refine blk (wp_loop_ghost (fun m a w19 => ∃ (J : Nat → Value) (T8 : Nat → Prop) (x7 : List AllocReach) (x8 : Int) (x9 : Int), a = env (nf 178) J [(0, .slice a1 n1 c1), (1, .int .i64 p1), (4, .func (.func 20) #[] #[]), (12, .int .i64 x8), (13, .int .i64 x9)] ∧ Im T4 w17 T8 w19 ∧ Sep g T8 w19 [R, ownA rAllocReach 60 (.slice a1 n1 c1) x7] ∧ loopM bd1 m (x7, x8, x9) = some o1) NN ⟨_, _, (List.set (List.set (List.set (List.set p0 (Int.toNat p1) u1) (Int.toNat p3) u2) (Int.toNat x1) u17) (Int.toNat x3) u18), (IntKind.wrap .i64 (x1 + 1)), (IntKind.wrap .i64 (x3 - 1)), env_has ⟨rfl, rfl, rfl, rfl, rfl, trivial⟩, Im.refl, hS17.sel [0, 1] rfl, ho1⟩ ?_)
    rintro m _ w19 ⟨J, T8, x7, x8, x9, rfl, im19, hS18, ho1⟩
    obtain ⟨m1, z1, rfl, hm, hn1⟩ := loop_round ho1
    rw [hbd1] at hm
    refine blk ?_
    obtain ⟨kk4, hkk4, hm⟩ := jn_open hm
    refine cut (fun a w20 => ∃ (J : Nat → Value) (T9 : Nat → Prop) (x10 : Int), a = env (nf 178) J [(0, .slice a1 n1 c1), (1, .int .i64 p1), (4, .func (.func 20) #[] #[]), (12, .int .i64 x10), (13, .int .i64 x9)] ∧ Im T8 w19 T9 w20 ∧ Sep g T9 w20 [R, ownA rAllocReach 60 (.slice a1 n1 c1) x7] ∧ kk4 x10 = some z1) ?_ ?_
    · obtain ⟨o2, ho2, hq2⟩ := bindS hm
      obtain ⟨bd2, hbd2, ho2⟩ := loop_open ho2
      refine blk (wp_loop_ghost (fun m a w21 => ∃ (J : Nat → Value) (T10 : Nat → Prop) (x11 : Int), a = env (nf 178) J [(0, .slice a1 n1 c1), (1, .int .i64 p1), (4, .func (.func 20) #[] #[]), (12, .int .i64 x11), (13, .int .i64 x9)] ∧ Im T8 w19 T10 w21 ∧ Sep g T10 w21 [R, ownA rAllocReach 60 (.slice a1 n1 c1) x7] ∧ loopM bd2 m x11 = some o2) NN ⟨_, _, x8, env_has ⟨rfl, rfl, rfl, rfl, rfl, trivial⟩, Im.refl, hS18.sel [0, 1] rfl, ho2⟩ ?_)
      rintro m _ w21 ⟨J, T10, x11, rfl, im21, hS19, ho2⟩
      obtain ⟨m2, z2, rfl, hm, hn2⟩ := loop_round ho2
      rw [hbd2] at hm
      refine sq2 (sq2 (rs [0, 0, 0, 0, 0, 0, 0, 0, 1, 0, 0, 0, 1, 2, 0, 0] [0, 1, 2, 3, 4, 5, 6, 7, 8, 9, 10, 11, 12, 13, 14, 15] mix (by kernel_rfl) hS19.lt fun w22 i6 => ?_))
      have im22 := i6.imm
      have hS20 := hS19.keep i6 (fun _ h => h)
      refine s0 rfl trivial (fun _ => r_mi rfl) rfl (s0 rfl trivial (fun _ => r_mi rfl) rfl (s0 rfl trivial (fun _ => r_ib rfl rfl rfl) rfl (s0 rfl trivial (fun _ => r_mb rfl) rfl (?_))))
      rcases Bool.eq_false_or_eq_true (decide (x11 ≤ x9)) with hb8 | hb8
      · have hm := ctrue hb8 hm
        obtain ⟨u23, hx25, hm⟩ := bindS hm
        obtain ⟨b17, of17, cs17, k17, cp17, hv17, hp17, hl17, he17, hr17, hc17⟩ := (hS20.own (i := 1) ⟨rfl, rfl⟩).v.ixq hx25 rfl
        cases rAllocReach_open hr17
        obtain ⟨u24, hx26, hm⟩ := bindS hm
        obtain ⟨b18, of18, cs18, k18, cp18, hv18, hp18, hl18, he18, hr18, hc18⟩ := (hS20.own (i := 1) ⟨rfl, rfl⟩).v.ixq hx26 rfl
        cases rAllocReach_open hr18
        obtain ⟨y3, hx27, hm⟩ := bindS hm
        refine s0 rfl ⟨_, rfl, congrArg Value.bool hb8⟩ (fun _ => r_mf rfl) rfl (s0 rfl ⟨_, rfl, congrArg Value.bool hb8⟩ (fun _ => r_ms rfl) rfl (s0 rfl ⟨_, rfl, congrArg Value.bool hb8⟩ (fun _ => r_mi rfl) rfl (s0 rfl ⟨_, rfl, congrArg Value.bool hb8⟩ (fun _ => r_ixe hv17 rfl Try.underlying56 Try.sizeOf60 hp17 hl17 he17) rfl (s1 rfl ⟨_, rfl, congrArg Value.bool hb8⟩ (r_ldS rfl Try.isAgg60 Try.sizeOf60 rfl hc17 (cs := (cAllocReach u23))) rfl (s0 rfl ⟨_, rfl, congrArg Value.bool hb8⟩ (fun _ => r_ms rfl) rfl (s0 rfl ⟨_, rfl, congrArg Value.bool hb8⟩ (fun _ => r_mi rfl) rfl (s0 rfl ⟨_, rfl, congrArg Value.bool hb8⟩ (fun _ => r_ixe hv18 rfl Try.underlying56 Try.sizeOf60 hp18 hl18 he18) rfl (s1 rfl ⟨_, rfl, congrArg Value.bool hb8⟩ (r_ldS rfl Try.isAgg60 Try.sizeOf60 rfl hc18 (cs := (cAllocReach u24))) rfl (s2 [] rfl ⟨_, rfl, congrArg Value.bool hb8⟩ rfl (by kernel_rfl) (calS cf20 rfl (alloc_Assign_2_sim (p0 := u23) (p1 := u24) (hS20.bun [0, 1] [] rfl)  hx27) rfl fun v3 T11 w23 im23 rv3 => ?_))))))))))
        obtain ⟨rfl, hS21, _⟩ := rv3
        have hS21 : Sep g T11 w23 [R, ownA rAllocReach 60 (.slice a1 n1 c1) x7] := hS21.unb
        refine ⟨st0, ?_⟩
        refine s0 rfl ⟨_, rfl, congrArg Value.bool hb8⟩ (fun _ => r_ib rfl rfl rfl) rfl (s0 rfl trivial (fun _ => r_pkt rfl hb8 rfl) rfl (se (t_then ?_)))
        refine cnd rfl (fun hb9 => ?_) (fun hb9 => ?_)
        · have hm := ctrue hb9 hm
          refine skp (t_then ?_)
          refine blk ?_
          have hm := oI hm; subst hm
          exact rg (pv (r_mi rfl) (pv (r_ib rfl rfl rfl) (pv (r_zi rfl) (nil (t_blk (t_then ⟨m2, Nat.lt_succ_self _, _, _, (IntKind.wrap .i64 (x11 + 1)), env_has ⟨rfl, rfl, rfl, rfl, rfl, trivial⟩, (iT im21 (iT im22 im23)), hS21.sel [0, 1] rfl, hn2⟩))))))
        have hm := cfalse hb9 hm
        have hm := oI hm; subst hm
        have hn2 : _ = Lp.brk _ := hn2
        subst hn2
        have hm := thn_brk hq2
        exact xt (x_then (x_then (x_eq (t_then ⟨_, _, x11, env_has ⟨rfl, rfl, rfl, rfl, rfl, trivial⟩, (iT im21 (iT im22 im23)), hS21.sel [0, 1] rfl, hm⟩))))
      have hm := cfalse hb8 hm
      refine sU rfl (gI rfl rfl hb8) (sU rfl (gI rfl rfl hb8) (sU rfl (gI rfl rfl hb8) (sU rfl (gI rfl rfl hb8) (sU rfl (gI rfl rfl hb8) (sU rfl (gI rfl rfl hb8) (sU rfl (gI rfl rfl hb8) (sU rfl (gI rfl rfl hb8) (sU rfl (gI rfl rfl hb8) (sU rfl (gI rfl rfl hb8) (sU rfl (gI rfl rfl hb8) (s0 rfl trivial (fun _ => r_pkf rfl hb8 rfl) rfl (se (t_then ?_)))))))))))))
      refine cnd (b := false) rfl (fun h => nomatch h) (fun _ => ?_)
      have hm := oI hm; subst hm
      have hn2 : _ = Lp.brk _ := hn2
      subst hn2
      have hm := thn_brk hq2
      exact xt (x_then (x_then (x_eq (t_then ⟨_, _, x11, env_has ⟨rfl, rfl, rfl, rfl, rfl, trivial⟩, (iT im21 im22), hS20.sel [0, 1] rfl, hm⟩))))
    rintro _ w20 ⟨J, T9, x10, rfl, im20, hS22, hm⟩
    rw [hkk4] at hm
    obtain ⟨kk5, hkk5, hm⟩ := jn_open hm
    refine cut (fun a w24 => ∃ (J : Nat → Value) (T12 : Nat → Prop) (x12 : Int), a = env (nf 178) J [(0, .slice a1 n1 c1), (1, .int .i64 p1), (4, .func (.func 20) #[] #[]), (12, .int .i64 x10), (13, .int .i64 x12)] ∧ Im T9 w20 T12 w24 ∧ Sep g T12 w24 [R, ownA rAllocReach 60 (.slice a1 n1 c1) x7] ∧ kk5 x12 = some z1) ?_ ?_
    · obtain ⟨o2, ho2, hq2⟩ := bindS hm
      obtain ⟨bd2, hbd2, ho2⟩ := loop_open ho2
      refine blk (wp_loop_ghost (fun m a w25 => ∃ (J : Nat → Value) (T13 : Nat → Prop) (x13 : Int), a = env (nf 178) J [(0, .slice a1 n1 c1), (1, .int .i64 p1), (4, .func (.func 20) #[] #[]), (12, .int .i64 x10), (13, .int .i64 x13)] ∧ Im T9 w20 T13 w25 ∧ Sep g T13 w25 [R, ownA rAllocReach 60 (.slice a1 n1 c1) x7] ∧ loopM bd2 m x13 = some o2) NN ⟨_, _, x9, env_has ⟨rfl, rfl, rfl, rfl, rfl, trivial⟩, Im.refl, hS22.sel [0, 1] rfl, ho2⟩ ?_)
      rintro m _ w25 ⟨J, T13, x13, rfl, im25, hS23, ho2⟩
      obtain ⟨m2, z2, rfl, hm, hn2⟩ := loop_round ho2
      rw [hbd2] at hm
      refine sq2 (sq2 (rs [0, 0, 0, 0, 0, 0, 0, 0, 1, 0, 0, 0, 1, 2, 0, 0, 0] [0, 1, 2, 3, 4, 5, 6, 7, 8, 9, 10, 11, 12, 13, 14, 15, 16] mix (by kernel_rfl) hS23.lt fun w26 i7 => ?_))
      have im26 := i7.imm
      have hS24 := hS23.keep i7 (fun _ h => h)
      refine s0 rfl trivial (fun _ => r_mi rfl) rfl (s0 rfl trivial (fun _ => r_mi rfl) rfl (s0 rfl trivial (fun _ => r_ib rfl rfl rfl) rfl (s0 rfl trivial (fun _ => r_mb rfl) rfl (?_))))
      rcases Bool.eq_false_or_eq_true (decide (x10 ≤ x13)) with hb11 | hb11
      · have hm := ctrue hb11 hm
        obtain ⟨u25, hx28, hm⟩ := bindS hm
        obtain ⟨b19, of19, cs19, k19, cp19, hv19, hp19, hl19, he19, hr19, hc19⟩ := (hS24.own (i := 1) ⟨rfl, rfl⟩).v.ixq hx28 rfl
        cases rAllocReach_open hr19
        obtain ⟨u26, hx29, hm⟩ := bindS hm
        obtain ⟨b20, of20, cs20, k20, cp20, hv20, hp20, hl20, he20, hr20, hc20⟩ := (hS24.own (i := 1) ⟨rfl, rfl⟩).v.ixq hx29 rfl
        cases rAllocReach_open hr20
        obtain ⟨y4, hx30, hm⟩ := bindS hm
        refine s0 rfl ⟨_, rfl, congrArg Value.bool hb11⟩ (fun _ => r_mf rfl) rfl (s0 rfl ⟨_, rfl, congrArg Value.bool hb11⟩ (fun _ => r_ms rfl) rfl (s0 rfl ⟨_, rfl, congrArg Value.bool hb11⟩ (fun _ => r_mi rfl) rfl (s0 rfl ⟨_, rfl, congrArg Value.bool hb11⟩ (fun _ => r_ixe hv19 rfl Try.underlying56 Try.sizeOf60 hp19 hl19 he19) rfl (s1 rfl ⟨_, rfl, congrArg Value.bool hb11⟩ (r_ldS rfl Try.isAgg60 Try.sizeOf60 rfl hc19 (cs := (cAllocReach u25))) rfl (s0 rfl ⟨_, rfl, congrArg Value.bool hb11⟩ (fun _ => r_ms rfl) rfl (s0 rfl ⟨_, rfl, congrArg Value.bool hb11⟩ (fun _ => r_mi rfl) rfl (s0 rfl ⟨_, rfl, congrArg Value.bool hb11⟩ (fun _ => r_ixe hv20 rfl Try.underlying56 Try.sizeOf60 hp20 hl20 he20) rfl (s1 rfl ⟨_, rfl, congrArg Value.bool hb11⟩ (r_ldS rfl Try.isAgg60 Try.sizeOf60 rfl hc20 (cs := (cAllocReach u26))) rfl (s2 [] rfl ⟨_, rfl, congrArg Value.bool hb11⟩ rfl (by kernel_rfl) (calS cf20 rfl (alloc_Assign_2_sim (p0 := u25) (p1 := u26) (hS24.bun [0, 1] [] rfl)  hx30) rfl fun v4 T14 w27 im27 rv4 => ?_))))))))))
        obtain ⟨rfl, hS25, _⟩ := rv4
        have hS25 : Sep g T14 w27 [R, ownA rAllocReach 60 (.slice a1 n1 c1) x7] := hS25.unb
        refine ⟨st0, ?_⟩
        refine s0 rfl ⟨_, rfl, congrArg Value.bool hb11⟩ (fun _ => r_ib rfl rfl rfl) rfl (s0 rfl ⟨_, rfl, congrArg Value.bool hb11⟩ (fun _ => r_nt rfl) rfl (s0 rfl trivial (fun _ => r_pkt rfl hb11 rfl) rfl (se (t_then ?_))))
        refine cnd rfl (fun hb12 => ?_) (fun hb12 => ?_)
        · have hm := ctrue hb12 hm
          refine skp (t_then ?_)
          refine blk ?_
          have hm := oI hm; subst hm
          exact rg (pv (r_mi rfl) (pv (r_ib rfl rfl rfl) (pv (r_zi rfl) (nil (t_blk (t_then ⟨m2, Nat.lt_succ_self _, _, _, (IntKind.wrap .i64 (x13 - 1)), env_has ⟨rfl, rfl, rfl, rfl, rfl, trivial⟩, (iT im25 (iT im26 im27)), hS25.sel [0, 1] rfl, hn2⟩))))))
        have hm := cfalse hb12 hm
        have hm := oI hm; subst hm
        have hn2 : _ = Lp.brk _ := hn2
        subst hn2
        have hm := thn_brk hq2
        exact xt (x_then (x_then (x_eq (t_then ⟨_, _, x13, env_has ⟨rfl, rfl, rfl, rfl, rfl, trivial⟩, (iT im25 (iT im26 im27)), hS25.sel [0, 1] rfl, hm⟩))))
      have hm := cfalse hb11 hm
      refine sU rfl (gI rfl rfl hb11) (sU rfl (gI rfl rfl hb11) (sU rfl (gI rfl rfl hb11) (sU rfl (gI rfl rfl hb11) (sU rfl (gI rfl rfl hb11) (sU rfl (gI rfl rfl hb11) (sU rfl (gI rfl rfl hb11) (sU rfl (gI rfl rfl hb11) (sU rfl (gI rfl rfl hb11) (sU rfl (gI rfl rfl hb11) (sU rfl (gI rfl rfl hb11) (sU rfl (gI rfl rfl hb11) (s0 rfl trivial (fun _ => r_pkf rfl hb11 rfl) rfl (se (t_then ?_))))))))))))))
      refine cnd (b := false) rfl (fun h => nomatch h) (fun _ => ?_)
      have hm := oI hm; subst hm
      have hn2 : _ = Lp.brk _ := hn2
      subst hn2
      have hm := thn_brk hq2
      exact xt (x_then (x_then (x_eq (t_then ⟨_, _, x13, env_has ⟨rfl, rfl, rfl, rfl, rfl, trivial⟩, (iT im25 im26), hS24.sel [0, 1] rfl, hm⟩))))
    rintro _ w24 ⟨J, T12, x12, rfl, im24, hS26, hm⟩
    rw [hkk5] at hm
    refine sq2 (sq2 (rg (pv (r_mi rfl) (pv (r_mi rfl) (pv (r_ib rfl rfl rfl) (nil (t_then ?_)))))))
    refine cnd rfl (fun hb14 => ?_) (fun hb14 => ?_)
    · have hm := ctrue hb14 hm
      have hm := oI hm; subst hm
      have hn1 : _ = Lp.brk _ := hn1
      subst hn1
      have hm := thn_brk hq1
      exact xt (x_then (x_ne (by decide) (x_then (x_eq (t_then ⟨_, _, x7, x12, env_has ⟨rfl, rfl, rfl, trivial⟩, (iT im19 (iT im20 im24)), hS26.sel [0, 1] rfl, hm⟩)))))
    have hm := cfalse hb14 hm
    refine skp (t_then ?_)
    refine sq2 (rs [0, 0, 0, 0, 0, 0, 0, 1, 0, 0, 0, 1, 0, 2, 0, 2] [0, 1, 2, 3, 4, 5, 6, 7, 8, 9, 10, 11, 12, 13, 14, 15] mix (by kernel_rfl) hS26.lt fun w28 i8 => ?_)
    have im28 := i8.imm
    have hS27 := hS26.keep i8 (fun _ h => h)
    obtain ⟨u27, hx31, hm⟩ := bindS hm
    obtain ⟨b21, of21, cs21, k21, cp21, hv21, hp21, hl21, he21, hr21, hc21⟩ := (hS27.own (i := 1) ⟨rfl, rfl⟩).v.ixq hx31 rfl
    cases rAllocReach_open hr21
    obtain ⟨u28, hx32, hm⟩ := bindS hm
    obtain ⟨b22, of22, cs22, k22, cp22, hv22, hp22, hl22, he22, hr22, hc22⟩ := (hS27.own (i := 1) ⟨rfl, rfl⟩).v.ixq hx32 rfl
    cases rAllocReach_open hr22
    obtain ⟨u29, hx33, hm⟩ := bindS hm
    obtain ⟨b23, of23, cs23, k23, cp23, hv23, hp23, hl23, he23, hr23, hc23⟩ := (hS27.own (i := 1) ⟨rfl, rfl⟩).v.ixq hx33 rfl
    cases rAllocReach_open hr23
    obtain ⟨u30, hx34, hm⟩ := bindS hm
    refine s0 rfl trivial (fun _ => r_ms rfl) rfl (s0 rfl trivial (fun _ => r_mi rfl) rfl (s0 rfl trivial (fun _ => r_ms rfl) rfl (s0 rfl trivial (fun _ => r_mi rfl) rfl (s0 rfl trivial (fun _ => r_ms rfl) rfl (s0 rfl trivial (fun _ => r_mi rfl) rfl (s0 rfl trivial (fun _ => r_ixe hv21 rfl Try.underlying56 Try.sizeOf60 hp21 hl21 he21) rfl (s1 rfl trivial (r_ldS rfl Try.isAgg60 Try.sizeOf60 rfl hc21 (cs := (cAllocReach u27))) rfl (s0 rfl trivial (fun _ => r_ms rfl) rfl (s0 rfl trivial (fun _ => r_mi rfl) rfl (s0 rfl trivial (fun _ => r_ixe hv22 rfl Try.underlying56 Try.sizeOf60 hp22 hl22 he22) rfl (s1 rfl trivial (r_ldS rfl Try.isAgg60 Try.sizeOf60 rfl hc22 (cs := (cAllocReach u28))) rfl (s0 rfl trivial (fun _ => r_ixe hv23 rfl Try.underlying56 Try.sizeOf60 hp23 hl23 he23) rfl (s2 [] rfl trivial rfl (by kernel_rfl) (stO (q := 1) (i := Int.toNat x10) (j := 0) (u := u30) (u' := u27) hS27 ⟨rfl, rfl⟩ hv23 (idx_some hx34).2.2 he23 rfl rfl rfl Try.sizeOf60 rfl rfl rfl (fun c0 hc0 => by rw [storeL_all (r := rAllocReach) hc0 rfl]; exact (rAllocReach_mk (x := u27)  : rAllocReach.rp _ _ _ _)) fun w29 im29 hS28 => ?_))))))))))))))
    have hS28 : Sep g T12 w29 [R, ownA rAllocReach 60 (.slice a1 n1 c1) (List.set x7 (Int.toNat x10) u27)] := hS28
    refine ⟨st0, ?_⟩
    obtain ⟨u31, hx35, hm⟩ := bindS hm
    obtain ⟨b24, of24, cs24, k24, cp24, hv24, hp24, hl24, he24, hr24, hc24⟩ := (hS28.own (i := 1) ⟨rfl, rfl⟩).v.ixq hx35 rfl
    cases rAllocReach_open hr24
    obtain ⟨u32, hx36, hm⟩ := bindS hm
    refine s0 rfl trivial (fun _ => r_ixe hv24 rfl Try.underlying56 Try.sizeOf60 hp24 hl24 he24) rfl (s2 [] rfl trivial rfl (by kernel_rfl) (stO (q := 1) (i := Int.toNat x12) (j := 0) (u := u32) (u' := u28) hS28 ⟨rfl, rfl⟩ hv24 (idx_some hx36).2.2 he24 rfl rfl rfl Try.sizeOf60 rfl rfl rfl (fun c0 hc0 => by rw [storeL_all (r := rAllocReach) hc0 rfl]; exact (rAllocReach_mk (x := u28)  : rAllocReach.rp _ _ _ _)) fun w30 im30 hS29 => ?_))
    have hS29 : Sep g T12 w30 [R, ownA rAllocReach 60 (.slice a1 n1 c1) (List.set (List.set x7 (Int.toNat x10) u27) (Int.toNat x12) u28)] := hS29
    refine ⟨st0, ?_⟩
    refine se (t_then ?_)
    refine sq2 (rg (pv (r_mi rfl) (pv (r_ib rfl rfl rfl) (pv (r_zi rfl) (nil (t_then ?_))))))
    have hm := oI hm; subst hm
    exact rg (pv (r_mi rfl) (pv (r_ib rfl rfl rfl) (pv (r_zi rfl) (nil (t_blk (t_then ⟨m1, Nat.lt_succ_self _, _, _, (List.set (List.set x7 (Int.toNat x10) u27) (Int.toNat x12) u28), (IntKind.wrap .i64 (x10 + 1)), (IntKind.wrap .i64 (x12 - 1)), env_has ⟨rfl, rfl, rfl, rfl, rfl, trivial⟩, (iT im19 (iT im20 (iT im24 (iT im28 (iT im29 im30))))), hS29.sel [0, 1] rfl, hn1⟩))))))
  rintro _ w18 ⟨J, T7, x5, x6, rfl, im18, hS30, hm⟩
  rw [hkk3] at hm
  refine sq2 (rs [0, 0, 0, 0, 0, 0, 0, 1, 0, 0, 0, 1, 0, 2, 0, 2] [0, 1, 2, 3, 4, 5, 6, 7, 8, 9, 10, 11, 12, 13, 14, 15] mix (by kernel_rfl) hS30.lt fun w31 i9 => ?_)
  have im31 := i9.imm
  have hS31 := hS30.keep i9 (fun _ h => h)
  obtain ⟨u33, hx37, hm⟩ := bindS hm
  obtain ⟨b25, of25, cs25, k25, cp25, hv25, hp25, hl25, he25, hr25, hc25⟩ := (hS31.own (i := 1) ⟨rfl, rfl⟩).v.ixq hx37 rfl
  cases rAllocReach_open hr25
  obtain ⟨u34, hx38, hm⟩ := bindS hm
  obtain ⟨b26, of26, cs26, k26, cp26, hv26, hp26, hl26, he26, hr26, hc26⟩ := (hS31.own (i := 1) ⟨rfl, rfl⟩).v.ixq hx38 rfl
  cases rAllocReach_open hr26
  obtain ⟨u35, hx39, hm⟩ := bindS hm
  obtain ⟨b27, of27, cs27, k27, cp27, hv27, hp27, hl27, he27, hr27, hc27⟩ := (hS31.own (i := 1) ⟨rfl, rfl⟩).v.ixq hx39 rfl
  cases rAllocReach_open hr27
  obtain ⟨u36, hx40, hm⟩ := bindS hm
  refine s0 rfl trivial (fun _ => r_ms rfl) rfl (s0 rfl trivial (fun _ => r_mi rfl) rfl (s0 rfl trivial (fun _ => r_ms rfl) rfl (s0 rfl trivial (fun _ => r_mi rfl) rfl (s0 rfl trivial (fun _ => r_ms rfl) rfl (s0 rfl trivial (fun _ => r_mi rfl) rfl (s0 rfl trivial (fun _ => r_ixe hv25 rfl Try.underlying56 Try.sizeOf60 hp25 hl25 he25) rfl (s1 rfl trivial (r_ldS rfl Try.isAgg60 Try.sizeOf60 rfl hc25 (cs := (cAllocReach u33))) rfl (s0 rfl trivial (fun _ => r_ms rfl) rfl (s0 rfl trivial (fun _ => r_mi rfl) rfl (s0 rfl trivial (fun _ => r_ixe hv26 rfl Try.underlying56 Try.sizeOf60 hp26 hl26 he26) rfl (s1 rfl trivial (r_ldS rfl Try.isAgg60 Try.sizeOf60 rfl hc26 (cs := (cAllocReach u34))) rfl (s0 rfl trivial (fun _ => r_ixe hv27 rfl Try.underlying56 Try.sizeOf60 hp27 hl27 he27) rfl (s2 [] rfl trivial rfl (by kernel_rfl) (stO (q := 1) (i := Int.toNat x6) (j := 0) (u := u36) (u' := u33) hS31 ⟨rfl, rfl⟩ hv27 (idx_some hx40).2.2 he27 rfl rfl rfl Try.sizeOf60 rfl rfl rfl (fun c0 hc0 => by rw [storeL_all (r := rAllocReach) hc0 rfl]; exact (rAllocReach_mk (x := u33)  : rAllocReach.rp _ _ _ _)) fun w32 im32 hS32 => ?_))))))))))))))
  have hS32 : Sep g T7 w32 [R, ownA rAllocReach 60 (.slice a1 n1 c1) (List.set x5 (Int.toNat x6) u33)] := hS32
  refine ⟨st0, ?_⟩
  obtain ⟨u37, hx41, hm⟩ := bindS hm
  obtain ⟨b28, of28, cs28, k28, cp28, hv28, hp28, hl28, he28, hr28, hc28⟩ := (hS32.own (i := 1) ⟨rfl, rfl⟩).v.ixq hx41 rfl
  cases rAllocReach_open hr28
  obtain ⟨u38, hx42, hm⟩ := bindS hm
  refine s0 rfl trivial (fun _ => r_ixe hv28 rfl Try.underlying56 Try.sizeOf60 hp28 hl28 he28) rfl (s2 [] rfl trivial rfl (by kernel_rfl) (stO (q := 1) (i := Int.toNat p1) (j := 0) (u := u38) (u' := u34) hS32 ⟨rfl, rfl⟩ hv28 (idx_some hx42).2.2 he28 rfl rfl rfl Try.sizeOf60 rfl rfl rfl (fun c0 hc0 => by rw [storeL_all (r := rAllocReach) hc0 rfl]; exact (rAllocReach_mk (x := u34)  : rAllocReach.rp _ _ _ _)) fun w33 im33 hS33 => ?_))
  have hS33 : Sep g T7 w33 [R, ownA rAllocReach 60 (.slice a1 n1 c1) (List.set (List.set x5 (Int.toNat x6) u33) (Int.toNat p1) u34)] := hS33
  refine ⟨st0, ?_⟩
  refine se (t_then ?_)
  refine sq2 (rg (pv (r_mi rfl) (pv (r_zi rfl) (pv (r_zb rfl) (nil (t_then ?_))))))
  have hm := oI hm; subst hm
  exact rtn (retN (vs := [.int .i64 x6, .bool false]) rfl ⟨rfl, rfl, trivial⟩ rfl ⟨_, rfl, _, (iT im1 (iT im2 (iT im3 (iT im4 (iT im8 (iT im15 (iT im16 (iT im17 (iT im18 (iT im31 (iT im32 im33))))))))))), ⟨rfl, hS33.sel [0, 1] rfl, trivial⟩⟩)

structure Sp1 (G : Rec1) : Prop where
  slices_pdqsortCmpFunc : ∀ {g : World} {T0 : Nat → Prop} {w0 : World} {R : Assn} {p0 : List AllocReach} {a1 : Option Addr} {n1 : Nat} {c1 : Nat} {p1 : Int} {p2 : Int} {p3 : Int} {r : (List AllocReach)} (hS : Sep g T0 w0 [R, ownA rAllocReach 60 (.slice a1 n1 c1) p0])  (hm : G.slices_pdqsortCmpFunc p0 p1 p2 p3 = some r),
    Calls Try.prog 35 #[.slice a1 n1 c1, .int .i64 p1, .int .i64 p2, .int .i64 p3, .func (.func 20) #[] #[]] w0 (RetS T0 w0 fun T w v => v = .tuple #[] ∧ Sep g T w [R, ownA rAllocReach 60 (.slice a1 n1 c1) r] ∧ True)
set_option maxRecDepth 100000 in
set_option maxHeartbeats 1000000 in
theorem slices_pdqsortCmpFunc_st {G : Rec1} (hG : Sp1 G) {g : World} {T0 : Nat → Prop} {w0 : World} {R : Assn} {p0 : List AllocReach} {a1 : Option Addr} {n1 : Nat} {c1 : Nat} {p1 : Int} {p2 : Int} {p3 : Int} {r : (List AllocReach)} (hS : Sep g T0 w0 [R, ownA rAllocReach 60 (.slice a1 n1 c1) p0])  (hm : slices_pdqsortCmpFunc_b G p0 p1 p2 p3 = some r) :
    Calls Try.prog 35 #[.slice a1 n1 c1, .int .i64 p1, .int .i64 p2, .int .i64 p3, .func (.func 20) #[] #[]] w0 (RetS T0 w0 fun T w v => v = .tuple #[] ∧ Sep g T w [R, ownA rAllocReach 60 (.slice a1 n1 c1) r] ∧ True) := by
  refine enter (args := [.slice a1 n1 c1, .int .i64 p1, .int .i64 p2, .int .i64 p3, .func (.func 20) #[] #[]]) Try.func35 rfl Try.ntmps35 rfl fun J => ?_
  unfold slices_pdqsortCmpFunc_b at hm
  refine sq2 (rg (pv (r_zb rfl) (nil (t_then ?_))))
  refine sq2 (rg (pv (r_zb rfl) (nil (t_then ?_))))
  obtain ⟨o1, ho1, hq1⟩ := bindS hm
  obtain ⟨bd1, hbd1, ho1⟩ := loop_open ho1
  refine blk (wp_loop_ghost (fun m a w1 => ∃ (J : Nat → Value) (T1 : Nat → Prop) (x1 : List AllocReach) (x2 : Int) (x3 : Int) (x4 : Int) (x5 : Bool) (x6 : Bool), a = env (nf 148) J [(0, .slice a1 n1 c1), (1, .int .i64 x2), (2, .int .i64 x3), (3, .int .i64 x4), (4, .func (.func 20) #[] #[]), (10, .bool x5), (11, .bool x6)] ∧ Im T0 w0 T1 w1 ∧ Sep g T1 w1 [R, ownA rAllocReach 60 (.slice a1 n1 c1) x1] ∧ loopM bd1 m (x1, x2, x3, x4, x5, x6) = some o1) NN ⟨_, _, p0, p1, p2, p3, true, true, env_has ⟨rfl, rfl, rfl, rfl, rfl, rfl, rfl, trivial⟩, Im.refl, hS.sel [0, 1] rfl, ho1⟩ ?_)
  rintro m _ w1 ⟨J, T1, x1, x2, x3, x4, x5, x6, rfl, im1, hS1, ho1⟩
  obtain ⟨m1, z1, rfl, hm, hn1⟩ := loop_round ho1
  rw [hbd1] at hm
  refine blk (sq2 (rg (pv (r_mi rfl) (pv (r_mi rfl) (pv (r_ib rfl rfl rfl) (pv (r_zi rfl) (nil (t_then ?_))))))))
  refine sq2 (sq2 (rg (pv (r_mi rfl) (pv (r_ib rfl rfl rfl) (nil (t_then ?_))))))
  refine cnd rfl (fun hb1 => ?_) (fun hb1 => ?_)
  · have hm := ctrue hb1 hm
    refine sq2 ?_
    obtain ⟨y1, hx1, hm⟩ := bindS hm
    refine rg (pv (r_ms rfl) (pv (r_mi rfl) (pv (r_mi rfl) (pv (r_mf rfl) (wl rfl (calS cf53 rfl (slices_insertionSortCmpFunc_sim (p0 := x1) (p1 := x2) (p2 := x3) (hS1.bun [0] [1] rfl)  hx1) rfl fun v1 T2 w2 im2 rv1 => ?_))))))
    obtain ⟨rfl, hS2, _⟩ := rv1
    have hS2 : Sep g T2 w2 [R, ownA rAllocReach 60 (.slice a1 n1 c1) y1] := hS2.unb
    refine nil (t_then ?_)
    have hm := oI hm; subst hm
    have hn1 : _ = Lp.ret _ := hn1
    subst hn1
    have hm := thn_ret hq1
    have hm := oI hm; subst hm
    exact rtn (r_then (r_blk (r_then (r_blk (ret0 rfl ⟨_, rfl, _, (iT im1 im2), ⟨rfl, hS2.sel [0, 1] rfl, trivial⟩⟩)))))
  have hm := cfalse hb1 hm
  refine skp (t_then ?_)
  refine sq2 (sq2 (rg (pv (r_mi rfl) (pv (r_ib rfl rfl rfl) (nil (t_then ?_))))))
  refine cnd rfl (fun hb2 => ?_) (fun hb2 => ?_)
  · have hm := ctrue hb2 hm
    refine sq2 ?_
    obtain ⟨y2, hx2, hm⟩ := bindS hm
    refine rg (pv (r_ms rfl) (pv (r_mi rfl) (pv (r_mi rfl) (pv (r_mf rfl) (wl rfl (calS cf54 rfl (slices_heapSortCmpFunc_sim (p0 := x1) (p1 := x2) (p2 := x3) (hS1.bun [0] [1] rfl)  hx2) rfl fun v2 T3 w3 im3 rv2 => ?_))))))
    obtain ⟨rfl, hS3, _⟩ := rv2
    have hS3 : Sep g T3 w3 [R, ownA rAllocReach 60 (.slice a1 n1 c1) y2] := hS3.unb
    refine nil (t_then ?_)
    have hm := oI hm; subst hm
    have hn1 : _ = Lp.ret _ := hn1
    subst hn1
    have hm := thn_ret hq1
    have hm := oI hm; subst hm
    exact rtn (r_then (r_blk (r_then (r_blk (ret0 rfl ⟨_, rfl, _, (iT im1 im3), ⟨rfl, hS3.sel [0, 1] rfl, trivial⟩⟩)))))
  have hm := cfalse hb2 hm
  refine skp (t_then ?_)
  obtain ⟨kk1, hkk1, hm⟩ := jn_open hm
  refine cut (fun a w4 => ∃ (J : Nat → Value) (T4 : Nat → Prop) (x7 : List AllocReach) (x8 : Int), a = env (nf 148) J [(0, .slice a1 n1 c1), (1, .int .i64 x2), (2, .int .i64 x3), (3, .int .i64 x8), (4, .func (.func 20) #[] #[]), (10, .bool x5), (11, .bool x6), (12, .int .i64 (IntKind.wrap .i64 (x3 - x2)))] ∧ Im T1 w1 T4 w4 ∧ Sep g T4 w4 [R, ownA rAllocReach 60 (.slice a1 n1 c1) x7] ∧ kk1 x7 x8 = some z1) ?_ ?_
  · refine sq2 (rg (pv (r_mb rfl) (pv (r_nt rfl) (nil (t_then ?_)))))
    refine cnd rfl (fun hb3 => ?_) (fun hb3 => ?_)
    · have hm := ctrue hb3 hm
      refine sq2 ?_
      obtain ⟨y3, hx3, hm⟩ := bindS hm
      refine rg (pv (r_ms rfl) (pv (r_mi rfl) (pv (r_mi rfl) (pv (r_mf rfl) (wl rfl (calS cf55 rfl (slices_breakPatternsCmpFunc_sim (p0 := x1) (p1 := x2) (p2 := x3) (hS1.bun [0] [1] rfl)  hx3) rfl fun v3 T5 w5 im5 rv3 => ?_))))))
      obtain ⟨rfl, hS4, _⟩ := rv3
      have hS4 : Sep g T5 w5 [R, ownA rAllocReach 60 (.slice a1 n1 c1) y3] := hS4.unb
      refine nil (t_then ?_)
      exact rg (pv (r_mi rfl) (pv (r_ib rfl rfl rfl) (pv (r_zi rfl) (nil (t_then ⟨_, _, y3, (IntKind.wrap .i64 (x4 - 1)), env_has ⟨rfl, rfl, rfl, rfl, rfl, rfl, rfl, rfl, trivial⟩, im5, hS4.sel [0, 1] rfl, hm⟩)))))
    have hm := cfalse hb3 hm
    exact skp (t_then ⟨_, _, x1, x4, env_has ⟨rfl, rfl, rfl, rfl, rfl, rfl, rfl, rfl, trivial⟩, Im.refl, hS1.sel [0, 1] rfl, hm⟩)
  rintro _ w4 ⟨J, T4, x7, x8, rfl, im4, hS5, hm⟩
  rw [hkk1] at hm
  refine sq2 ?_
  obtain ⟨y4, hx4, hm⟩ := bindS hm
  refine rg (pv (r_ms rfl) (pv (r_mi rfl) (pv (r_mi rfl) (pv (r_mf rfl) (wl rfl (calS cf56 rfl (slices_choosePivotCmpFunc_sim (p0 := x7) (H_p0 := ownA rAllocReach 60 (.slice a1 n1 c1) x7) (p1 := x2) (p2 := x3) (hS5.bun [0] [1] rfl) vwOwn hx4) rfl fun v4 T6 w6 im6 rv4 => ?_))))))
  obtain ⟨rfl, hS6, _⟩ := rv4
  have hS6 : Sep g T6 w6 [R, ownA rAllocReach 60 (.slice a1 n1 c1) x7] := hS6.unb
  refine pv (r_mv rfl) (pv (r_ex (v := .int .i64 y4.1) rfl rfl) (pv (r_ex (v := .int .i64 y4.2) rfl rfl) (pv (r_zi rfl) (pv (r_zi rfl) (nil (t_then ?_))))))
  obtain ⟨kk2, hkk2, hm⟩ := jn_open hm
  refine cut (fun a w7 => ∃ (J : Nat → Value) (T7 : Nat → Prop) (x9 : List AllocReach) (x10 : Int) (x11 : Int), a = env (nf 148) J [(0, .slice a1 n1 c1), (1, .int .i64 x2), (2, .int .i64 x3), (3, .int .i64 x8), (4, .func (.func 20) #[] #[]), (10, .bool x5), (11, .bool x6), (12, .int .i64 (IntKind.wrap .i64 (x3 - x2))), (13, .int .i64 x10), (14, .int .i64 x11)] ∧ Im T6 w6 T7 w7 ∧ Sep g T7 w7 [R, ownA rAllocReach 60 (.slice a1 n1 c1) x9] ∧ kk2 x9 x10 x11 = some z1) ?_ ?_
  · refine sq2 (rg (pv (r_mi rfl) (pv (r_ib rfl rfl rfl) (nil (t_then ?_)))))
    refine cnd rfl (fun hb4 => ?_) (fun hb4 => ?_)
    · have hm := ctrue hb4 hm
      refine sq2 ?_
      obtain ⟨y5, hx5, hm⟩ := bindS hm
      refine rg (pv (r_ms rfl) (pv (r_mi rfl) (pv (r_mi rfl) (pv (r_mf rfl) (wl rfl (calS cf57 rfl (slices_reverseRangeCmpFunc_sim (p0 := x7) (p1 := x2) (p2 := x3) (hS6.bun [0] [1] rfl)  hx5) rfl fun v5 T8 w8 im8 rv5 => ?_))))))
      obtain ⟨rfl, hS7, _⟩ := rv5
      have hS7 : Sep g T8 w8 [R, ownA rAllocReach 60 (.slice a1 n1 c1) y5] := hS7.unb
      refine nil (t_then ?_)
      refine sq2 (rg (pv (r_mi rfl) (pv (r_ib rfl rfl rfl) (pv (r_mi rfl) (pv (r_mi rfl) (pv (r_ib rfl rfl rfl) (pv (r_ib rfl rfl rfl) (pv (r_zi rfl) (nil (t_then ?_))))))))))
      exact rg (pv (r_zi rfl) (nil (t_then ⟨_, _, y5, (IntKind.wrap .i64 ((IntKind.wrap .i64 (x3 - 1)) - (IntKind.wrap .i64 (y4.1 - x2)))), 1, env_has ⟨rfl, rfl, rfl, rfl, rfl, rfl, rfl, rfl, rfl, rfl, trivial⟩, im8, hS7.sel [0, 1] rfl, hm⟩)))
    have hm := cfalse hb4 hm
    exact skp (t_then ⟨_, _, x7, y4.1, y4.2, env_has ⟨rfl, rfl, rfl, rfl, rfl, rfl, rfl, rfl, rfl, rfl, trivial⟩, Im.refl, hS6.sel [0, 1] rfl, hm⟩)
  rintro _ w7 ⟨J, T7, x9, x10, x11, rfl, im7, hS8, hm⟩
  rw [hkk2] at hm
  obtain ⟨kk3, hkk3, hm⟩ := jn_open hm
  refine cut (fun a w9 => ∃ (J : Nat → Value) (T9 : Nat → Prop) (x12 : List AllocReach), a = env (nf 148) J [(0, .slice a1 n1 c1), (1, .int .i64 x2), (2, .int .i64 x3), (3, .int .i64 x8), (4, .func (.func 20) #[] #[]), (10, .bool x5), (11, .bool x6), (12, .int .i64 (IntKind.wrap .i64 (x3 - x2))), (13, .int .i64 x10)] ∧ Im T7 w7 T9 w9 ∧ Sep g T9 w9 [R, ownA rAllocReach 60 (.slice a1 n1 c1) x12] ∧ kk3 x12 = some z1) ?_ ?_
  · refine sq2 (rg (pv (r_mb rfl) (pv (r_mb rfl) (?_))))
    rcases Bool.eq_false_or_eq_true x5 with hb5 | hb5
    · have hm := ctrue hb5 hm
      refine gT (d0 := 69) rfl rfl hb5 (pv (r_mb rfl) (pv (r_pkt rfl hb5 rfl) (pv (r_mb rfl) (?_))))
      rcases Bool.eq_false_or_eq_true x6 with hb6 | hb6
      · have hm := ctrue hb6 hm
        refine gT (d0 := 72) rfl rfl hb6 (pv (r_mi rfl) (gT (d0 := 72) rfl rfl hb6 (pv (r_ib rfl rfl rfl) (pv (r_pkt rfl hb6 rfl) (nil (t_then ?_))))))
        refine cnd rfl (fun hb7 => ?_) (fun hb7 => ?_)
        · have hm := ctrue hb7 hm
          refine sq2 ?_
          obtain ⟨y6, hx6, hm⟩ := bindS hm
          refine rg (pv (r_ms rfl) (pv (r_mi rfl) (pv (r_mi rfl) (pv (r_mf rfl) (wl rfl (calS cf58 rfl (slices_partialInsertionSortCmpFunc_sim (p0 := x9) (p1 := x2) (p2 := x3) (hS8.bun [0] [1] rfl)  hx6) rfl fun v6 T10 w10 im10 rv6 => ?_))))))
          obtain ⟨rfl, hS9, _⟩ := rv6
          have hS9 : Sep g T10 w10 [R, ownA rAllocReach 60 (.slice a1 n1 c1) y6.2] := hS9.unb
          refine nil (t_then ?_)
          refine cnd rfl (fun hb8 => ?_) (fun hb8 => ?_)
          · have hm := ctrue hb8 hm
            have hm := oI hm; subst hm
            have hn1 : _ = Lp.ret _ := hn1
            subst hn1
            have hm := thn_ret hq1
            have hm := oI hm; subst hm
            exact rtn (r_then (r_blk (r_then (r_blk (ret0 rfl ⟨_, rfl, _, (iT im1 (iT im4 (iT im6 (iT im7 im10)))), ⟨rfl, hS9.sel [0, 1] rfl, trivial⟩⟩)))))
          have hm := cfalse hb8 hm
          exact skp (t_then ⟨_, _, y6.2, env_has ⟨rfl, rfl, rfl, rfl, rfl, rfl, rfl, rfl, rfl, trivial⟩, im10, hS9.sel [0, 1] rfl, hm⟩)
        have hm := cfalse hb7 hm
        exact skp (t_then ⟨_, _, x9, env_has ⟨rfl, rfl, rfl, rfl, rfl, rfl, rfl, rfl, rfl, trivial⟩, Im.refl, hS8.sel [0, 1] rfl, hm⟩)
      have hm := cfalse hb6 hm
      refine gF (d0 := 72) rfl rfl (by rw [hb6]; rfl) (gF (d0 := 72) rfl rfl (by rw [hb6]; rfl) (pv (r_pkf rfl hb6 rfl) (nil (t_then ?_))))
      refine cnd (b := false) rfl (fun h => nomatch h) (fun _ => ?_)
      exact skp (t_then ⟨_, _, x9, env_has ⟨rfl, rfl, rfl, rfl, rfl, rfl, rfl, rfl, rfl, trivial⟩, Im.refl, hS8.sel [0, 1] rfl, hm⟩)
    have hm := cfalse hb5 hm
    refine gF (d0 := 69) rfl rfl (by rw [hb5]; rfl) (pv (r_pkf rfl hb5 rfl) (pv (r_mb rfl) (gF (d0 := 72) rfl rfl rfl (gF (d0 := 72) rfl rfl rfl (pv (r_pkf rfl rfl rfl) (nil (t_then ?_)))))))
    refine cnd (b := false) rfl (fun h => nomatch h) (fun _ => ?_)
    exact skp (t_then ⟨_, _, x9, env_has ⟨rfl, rfl, rfl, rfl, rfl, rfl, rfl, rfl, rfl, trivial⟩, Im.refl, hS8.sel [0, 1] rfl, hm⟩)
  rintro _ w9 ⟨J, T9, x12, rfl, im9, hS10, hm⟩
  rw [hkk3] at hm
  refine sq2 (sq2 (rs [0, 0, 0, 0, 0, 0, 0, 0, 1, 0, 0, 0, 1, 2, 0, 0, 0] [0, 1, 2, 3, 4, 5, 6, 7, 8, 9, 10, 11, 12, 13, 14, 15, 16] mix (by kernel_rfl) hS10.lt fun w11 i1 => ?_))
  have im11 := i1.imm
  have hS11 := hS10.keep i1 (fun _ h => h)
  refine s0 rfl trivial (fun _ => r_mi rfl) rfl (s0 rfl trivial (fun _ => r_ib rfl rfl rfl) rfl (s0 rfl trivial (fun _ => r_mb rfl) rfl (?_)))
  rcases Bool.eq_false_or_eq_true (decide (0 < x2)) with hb11 | hb11
  · have hm := ctrue hb11 hm
    obtain ⟨u1, hx7, hm⟩ := bindS hm
    obtain ⟨b1, of1, cs1, k1, cp1, hv1, hp1, hl1, he1, hr1, hc1⟩ := (hS11.own (i := 1) ⟨rfl, rfl⟩).v.ixq hx7 rfl
    cases rAllocReach_open hr1
    obtain ⟨u2, hx8, hm⟩ := bindS hm
    obtain ⟨b2, of2, cs2, k2, cp2, hv2, hp2, hl2, he2, hr2, hc2⟩ := (hS11.own (i := 1) ⟨rfl, rfl⟩).v.ixq hx8 rfl
    cases rAllocReach_open hr2
    obtain ⟨y7, hx9, hm⟩ := bindS hm
    refine s0 rfl ⟨_, rfl, congrArg Value.bool hb11⟩ (fun _ => r_mf rfl) rfl (s0 rfl ⟨_, rfl, congrArg Value.bool hb11⟩ (fun _ => r_ms rfl) rfl (s0 rfl ⟨_, rfl, congrArg Value.bool hb11⟩ (fun _ => r_mi rfl) rfl (s0 rfl ⟨_, rfl, congrArg Value.bool hb11⟩ (fun _ => r_ib rfl rfl rfl) rfl (s0 rfl ⟨_, rfl, congrArg Value.bool hb11⟩ (fun _ => r_ixe hv1 rfl Try.underlying56 Try.sizeOf60 hp1 hl1 he1) rfl (s1 rfl ⟨_, rfl, congrArg Value.bool hb11⟩ (r_ldS rfl Try.isAgg60 Try.sizeOf60 rfl hc1 (cs := (cAllocReach u1))) rfl (s0 rfl ⟨_, rfl, congrArg Value.bool hb11⟩ (fun _ => r_ms rfl) rfl (s0 rfl ⟨_, rfl, congrArg Value.bool hb11⟩ (fun _ => r_mi rfl) rfl (s0 rfl ⟨_, rfl, congrArg Value.bool hb11⟩ (fun _ => r_ixe hv2 rfl Try.underlying56 Try.sizeOf60 hp2 hl2 he2) rfl (s1 rfl ⟨_, rfl, congrArg Value.bool hb11⟩ (r_ldS rfl Try.isAgg60 Try.sizeOf60 rfl hc2 (cs := (cAllocReach u2))) rfl (s2 [] rfl ⟨_, rfl, congrArg Value.bool hb11⟩ rfl (by kernel_rfl) (calS cf20 rfl (alloc_Assign_2_sim (p0 := u1) (p1 := u2) (hS11.bun [0, 1] [] rfl)  hx9) rfl fun v7 T11 w12 im12 rv7 => ?_)))))))))))
    obtain ⟨rfl, hS12, _⟩ := rv7
    have hS12 : Sep g T11 w12 [R, ownA rAllocReach 60 (.slice a1 n1 c1) x12] := hS12.unb
    refine ⟨st0, ?_⟩
    refine s0 rfl ⟨_, rfl, congrArg Value.bool hb11⟩ (fun _ => r_ib rfl rfl rfl) rfl (s0 rfl ⟨_, rfl, congrArg Value.bool hb11⟩ (fun _ => r_nt rfl) rfl (s0 rfl trivial (fun _ => r_pkt rfl hb11 rfl) rfl (se (t_then ?_))))
    refine cnd rfl (fun hb12 => ?_) (fun hb12 => ?_)
    · have hm := ctrue hb12 hm
      refine sq2 ?_
      obtain ⟨y8, hx10, hm⟩ := bindS hm
      refine rg (pv (r_ms rfl) (pv (r_mi rfl) (pv (r_mi rfl) (pv (r_mi rfl) (pv (r_mf rfl) (wl rfl (calS cf59 rfl (slices_partitionEqualCmpFunc_sim (p0 := x12) (p1 := x2) (p2 := x3) (p3 := x10) (hS12.bun [0] [1] rfl)  hx10) rfl fun v8 T12 w13 im13 rv8 => ?_)))))))
      obtain ⟨rfl, hS13, _⟩ := rv8
      have hS13 : Sep g T12 w13 [R, ownA rAllocReach 60 (.slice a1 n1 c1) y8.2] := hS13.unb
      refine pv (r_zi rfl) (nil (t_thenR [(0, .slice a1 n1 c1), (2, .int .i64 x3), (3, .int .i64 x8), (4, .func (.func 20) #[] #[]), (10, .bool x5), (11, .bool x6), (15, .int .i64 y8.1)] ⟨rfl, rfl, rfl, rfl, rfl, rfl, rfl, trivial⟩ fun J => ?_))
      refine sq2 (rg (pv (r_mi rfl) (pv (r_zi rfl) (nil (t_then ?_)))))
      have hm := oI hm; subst hm
      exact xt (x_then (x_eq (t_then ⟨m1, Nat.lt_succ_self _, _, _, y8.2, y8.1, x3, x8, x5, x6, env_has ⟨rfl, rfl, rfl, rfl, rfl, rfl, rfl, trivial⟩, (iT im1 (iT im4 (iT im6 (iT im7 (iT im9 (iT im11 (iT im12 im13))))))), hS13.sel [0, 1] rfl, hn1⟩)))
    have hm := cfalse hb12 hm
    refine skp (t_then ?_)
    refine sq2 ?_
    obtain ⟨y9, hx11, hm⟩ := bindS hm
    refine rg (pv (r_ms rfl) (pv (r_mi rfl) (pv (r_mi rfl) (pv (r_mi rfl) (pv (r_mf rfl) (wl rfl (calS cf60 rfl (slices_partitionCmpFunc_sim (p0 := x12) (p1 := x2) (p2 := x3) (p3 := x10) (hS12.bun [0] [1] rfl)  hx11) rfl fun v9 T13 w14 im14 rv9 => ?_)))))))
    obtain ⟨rfl, hS14, _⟩ := rv9
    have hS14 : Sep g T13 w14 [R, ownA rAllocReach 60 (.slice a1 n1 c1) y9.2.2] := hS14.unb
    refine pv (r_mv rfl) (pv (r_ex (v := .int .i64 y9.1) rfl rfl) (pv (r_ex (v := .bool y9.2.1) rfl rfl) (pv (r_zi rfl) (pv (r_zb rfl) (nil (t_thenR [(0, .slice a1 n1 c1), (1, .int .i64 x2), (2, .int .i64 x3), (3, .int .i64 x8), (4, .func (.func 20) #[] #[]), (12, .int .i64 (IntKind.wrap .i64 (x3 - x2))), (16, .int .i64 y9.1), (17, .bool y9.2.1)] ⟨rfl, rfl, rfl, rfl, rfl, rfl, rfl, rfl, trivial⟩ fun J => ?_))))))
    refine sq2 (rg (pv (r_mb rfl) (pv (r_zb rfl) (nil (t_then ?_)))))
    refine sq2 (rg (pv (r_mi rfl) (pv (r_mi rfl) (pv (r_ib rfl rfl rfl) (pv (r_mi rfl) (pv (r_mi rfl) (pv (r_ib rfl rfl rfl) (pv (r_zi rfl) (pv (r_zi rfl) (nil (t_then ?_)))))))))))
    refine sq2 (rg (pv (r_mi rfl) (pv (r_iq rfl rfl (by decide)) (pv (r_zi rfl) (nil (t_then ?_))))))
    refine sq2 (rg (pv (r_mi rfl) (pv (r_mi rfl) (pv (r_ib rfl rfl rfl) (nil (t_then ?_))))))
    refine cnd rfl (fun hb13 => ?_) (fun hb13 => ?_)
    · have hm := ctrue hb13 hm
      refine sq2 (rg (pv (r_mi rfl) (pv (r_mi rfl) (pv (r_ib rfl rfl rfl) (pv (r_zb rfl) (nil (t_then ?_)))))))
      refine sq2 ?_
      obtain ⟨y10, hx12, hm⟩ := bindS hm
      refine rg (pv (r_ms rfl) (pv (r_mi rfl) (pv (r_mi rfl) (pv (r_mi rfl) (pv (r_mf rfl) (wl rfl (calS cf35 rfl (hG.slices_pdqsortCmpFunc (p0 := y9.2.2) (p1 := x2) (p2 := y9.1) (p3 := x8) (hS14.bun [0] [1] rfl)  hx12) rfl fun v10 T14 w15 im15 rv10 => ?_)))))))
      obtain ⟨rfl, hS15, _⟩ := rv10
      have hS15 : Sep g T14 w15 [R, ownA rAllocReach 60 (.slice a1 n1 c1) y10] := hS15.unb
      refine nil (t_thenR [(0, .slice a1 n1 c1), (2, .int .i64 x3), (3, .int .i64 x8), (4, .func (.func 20) #[] #[]), (10, .bool (decide ((IntKind.wrap .i64 (Int.tdiv (IntKind.wrap .i64 (x3 - x2)) 8)) ≤ (IntKind.wrap .i64 (y9.1 - x2))))), (11, .bool y9.2.1), (16, .int .i64 y9.1)] ⟨rfl, rfl, rfl, rfl, rfl, rfl, rfl, trivial⟩ fun J => ?_)
      have hm := oI hm; subst hm
      exact rg (pv (r_mi rfl) (pv (r_ib rfl rfl rfl) (pv (r_zi rfl) (nil (t_blk (t_then ⟨m1, Nat.lt_succ_self _, _, _, y10, (IntKind.wrap .i64 (y9.1 + 1)), x3, x8, (decide ((IntKind.wrap .i64 (Int.tdiv (IntKind.wrap .i64 (x3 - x2)) 8)) ≤ (IntKind.wrap .i64 (y9.1 - x2)))), y9.2.1, env_has ⟨rfl, rfl, rfl, rfl, rfl, rfl, rfl, trivial⟩, (iT im1 (iT im4 (iT im6 (iT im7 (iT im9 (iT im11 (iT im12 (iT im14 im15)))))))), hS15.sel [0, 1] rfl, hn1⟩))))))
    have hm := cfalse hb13 hm
    refine sq2 (rg (pv (r_mi rfl) (pv (r_mi rfl) (pv (r_ib rfl rfl rfl) (pv (r_zb rfl) (nil (t_then ?_)))))))
    refine sq2 ?_
    obtain ⟨y11, hx13, hm⟩ := bindS hm
    refine rg (pv (r_ms rfl) (pv (r_mi rfl) (pv (r_ib rfl rfl rfl) (pv (r_mi rfl) (pv (r_mi rfl) (pv (r_mf rfl) (wl rfl (calS cf35 rfl (hG.slices_pdqsortCmpFunc (p0 := y9.2.2) (p1 := IntKind.wrap .i64 (y9.1 + 1)) (p2 := x3) (p3 := x8) (hS14.bun [0] [1] rfl)  hx13) rfl fun v11 T15 w16 im16 rv11 => ?_))))))))
    obtain ⟨rfl, hS16, _⟩ := rv11
    have hS16 : Sep g T15 w16 [R, ownA rAllocReach 60 (.slice a1 n1 c1) y11] := hS16.unb
    refine nil (t_thenR [(0, .slice a1 n1 c1), (1, .int .i64 x2), (3, .int .i64 x8), (4, .func (.func 20) #[] #[]), (10, .bool (decide ((IntKind.wrap .i64 (Int.tdiv (IntKind.wrap .i64 (x3 - x2)) 8)) ≤ (IntKind.wrap .i64 (x3 - y9.1))))), (11, .bool y9.2.1), (16, .int .i64 y9.1)] ⟨rfl, rfl, rfl, rfl, rfl, rfl, rfl, trivial⟩ fun J => ?_)
    have hm := oI hm; subst hm
    exact rg (pv (r_mi rfl) (pv (r_zi rfl) (nil (t_blk (t_then ⟨m1, Nat.lt_succ_self _, _, _, y11, x2, y9.1, x8, (decide ((IntKind.wrap .i64 (Int.tdiv (IntKind.wrap .i64 (x3 - x2)) 8)) ≤ (IntKind.wrap .i64 (x3 - y9.1)))), y9.2.1, env_has ⟨rfl, rfl, rfl, rfl, rfl, rfl, rfl, trivial⟩, (iT im1 (iT im4 (iT im6 (iT im7 (iT im9 (iT im11 (iT im12 (iT im14 im16)))))))), hS16.sel [0, 1] rfl, hn1⟩)))))
  have hm := cfalse hb11 hm
  refine sU rfl (gI rfl rfl hb11) (sU rfl (gI rfl rfl hb11) (sU rfl (gI rfl rfl hb11) (sU rfl (gI rfl rfl hb11) (sU rfl (gI rfl rfl hb11) (sU rfl (gI rfl rfl hb11) (sU rfl (gI rfl rfl hb11) (sU rfl (gI rfl rfl hb11) (sU rfl (gI rfl rfl hb11) (sU rfl (gI rfl rfl hb11) (sU rfl (gI rfl rfl hb11) (sU rfl (gI rfl rfl hb11) (sU rfl (gI rfl rfl hb11) (s0 rfl trivial (fun _ => r_pkf rfl hb11 rfl) rfl (se (t_then ?_)))))))))))))))
  refine cnd (b := false) rfl (fun h => nomatch h) (fun _ => ?_)
  refine skp (t_then ?_)
  refine sq2 ?_
  obtain ⟨y12, hx14, hm⟩ := bindS hm
  refine rg (pv (r_ms rfl) (pv (r_mi rfl) (pv (r_mi rfl) (pv (r_mi rfl) (pv (r_mf rfl) (wl rfl (calS cf60 rfl (slices_partitionCmpFunc_sim (p0 := x12) (p1 := x2) (p2 := x3) (p3 := x10) (hS11.bun [0] [1] rfl)  hx14) rfl fun v12 T16 w17 im17 rv12 => ?_)))))))
  obtain ⟨rfl, hS17, _⟩ := rv12
  have hS17 : Sep g T16 w17 [R, ownA rAllocReach 60 (.slice a1 n1 c1) y12.2.2] := hS17.unb
  refine pv (r_mv rfl) (pv (r_ex (v := .int .i64 y12.1) rfl rfl) (pv (r_ex (v := .bool y12.2.1) rfl rfl) (pv (r_zi rfl) (pv (r_zb rfl) (nil (t_thenR [(0, .slice a1 n1 c1), (1, .int .i64 x2), (2, .int .i64 x3), (3, .int .i64 x8), (4, .func (.func 20) #[] #[]), (12, .int .i64 (IntKind.wrap .i64 (x3 - x2))), (16, .int .i64 y12.1), (17, .bool y12.2.1)] ⟨rfl, rfl, rfl, rfl, rfl, rfl, rfl, rfl, trivial⟩ fun J => ?_))))))
  refine sq2 (rg (pv (r_mb rfl) (pv (r_zb rfl) (nil (t_then ?_)))))
  refine sq2 (rg (pv (r_mi rfl) (pv (r_mi rfl) (pv (r_ib rfl rfl rfl) (pv (r_mi rfl) (pv (r_mi rfl) (pv (r_ib rfl rfl rfl) (pv (r_zi rfl) (pv (r_zi rfl) (nil (t_then ?_)))))))))))
  refine sq2 (rg (pv (r_mi rfl) (pv (r_iq rfl rfl (by decide)) (pv (r_zi rfl) (nil (t_then ?_))))))
  refine sq2 (rg (pv (r_mi rfl) (pv (r_mi rfl) (pv (r_ib rfl rfl rfl) (nil (t_then ?_))))))
  refine cnd rfl (fun hb15 => ?_) (fun hb15 => ?_)
  · have hm := ctrue hb15 hm
    refine sq2 (rg (pv (r_mi rfl) (pv (r_mi rfl) (pv (r_ib rfl rfl rfl) (pv (r_zb rfl) (nil (t_then ?_)))))))
    refine sq2 ?_
    obtain ⟨y13, hx15, hm⟩ := bindS hm
    refine rg (pv (r_ms rfl) (pv (r_mi rfl) (pv (r_mi rfl) (pv (r_mi rfl) (pv (r_mf rfl) (wl rfl (calS cf35 rfl (hG.slices_pdqsortCmpFunc (p0 := y12.2.2) (p1 := x2) (p2 := y12.1) (p3 := x8) (hS17.bun [0] [1] rfl)  hx15) rfl fun v13 T17 w18 im18 rv13 => ?_)))))))
    obtain ⟨rfl, hS18, _⟩ := rv13
    have hS18 : Sep g T17 w18 [R, ownA rAllocReach 60 (.slice a1 n1 c1) y13] := hS18.unb
    refine nil (t_thenR [(0, .slice a1 n1 c1), (2, .int .i64 x3), (3, .int .i64 x8), (4, .func (.func 20) #[] #[]), (10, .bool (decide ((IntKind.wrap .i64 (Int.tdiv (IntKind.wrap .i64 (x3 - x2)) 8)) ≤ (IntKind.wrap .i64 (y12.1 - x2))))), (11, .bool y12.2.1), (16, .int .i64 y12.1)] ⟨rfl, rfl, rfl, rfl, rfl, rfl, rfl, trivial⟩ fun J => ?_)
    have hm := oI hm; subst hm
    exact rg (pv (r_mi rfl) (pv (r_ib rfl rfl rfl) (pv (r_zi rfl) (nil (t_blk (t_then ⟨m1, Nat.lt_succ_self _, _, _, y13, (IntKind.wrap .i64 (y12.1 + 1)), x3, x8, (decide ((IntKind.wrap .i64 (Int.tdiv (IntKind.wrap .i64 (x3 - x2)) 8)) ≤ (IntKind.wrap .i64 (y12.1 - x2)))), y12.2.1, env_has ⟨rfl, rfl, rfl, rfl, rfl, rfl, rfl, trivial⟩, (iT im1 (iT im4 (iT im6 (iT im7 (iT im9 (iT im11 (iT im17 im18))))))), hS18.sel [0, 1] rfl, hn1⟩))))))
  have hm := cfalse hb15 hm
  refine sq2 (rg (pv (r_mi rfl) (pv (r_mi rfl) (pv (r_ib rfl rfl rfl) (pv (r_zb rfl) (nil (t_then ?_)))))))
  refine sq2 ?_
  obtain ⟨y14, hx16, hm⟩ := bindS hm
  refine rg (pv (r_ms rfl) (pv (r_mi rfl) (pv (r_ib rfl rfl rfl) (pv (r_mi rfl) (pv (r_mi rfl) (pv (r_mf rfl) (wl rfl (calS cf35 rfl (hG.slices_pdqsortCmpFunc (p0 := y12.2.2) (p1 := IntKind.wrap .i64 (y12.1 + 1)) (p2 := x3) (p3 := x8) (hS17.bun [0] [1] rfl)  hx16) rfl fun v14 T18 w19 im19 rv14 => ?_))))))))
  obtain ⟨rfl, hS19, _⟩ := rv14
  have hS19 : Sep g T18 w19 [R, ownA rAllocReach 60 (.slice a1 n1 c1) y14] := hS19.unb
  refine nil (t_thenR [(0, .slice a1 n1 c1), (1, .int .i64 x2), (3, .int .i64 x8), (4, .func (.func 20) #[] #[]), (10, .bool (decide ((IntKind.wrap .i64 (Int.tdiv (IntKind.wrap .i64 (x3 - x2)) 8)) ≤ (IntKind.wrap .i64 (x3 - y12.1))))), (11, .bool y12.2.1), (16, .int .i64 y12.1)] ⟨rfl, rfl, rfl, rfl, rfl, rfl, rfl, trivial⟩ fun J => ?_)
  have hm := oI hm; subst hm
  exact rg (pv (r_mi rfl) (pv (r_zi rfl) (nil (t_blk (t_then ⟨m1, Nat.lt_succ_self _, _, _, y14, x2, y12.1, x8, (decide ((IntKind.wrap .i64 (Int.tdiv (IntKind.wrap .i64 (x3 - x2)) 8)) ≤ (IntKind.wrap .i64 (x3 - y12.1)))), y12.2.1, env_has ⟨rfl, rfl, rfl, rfl, rfl, rfl, rfl, trivial⟩, (iT im1 (iT im4 (iT im6 (iT im7 (iT im9 (iT im11 (iT im17 im19))))))), hS19.sel [0, 1] rfl, hn1⟩)))))
theorem sp1 : ∀ n, Sp1 (rec1 n)
  | 0 => ⟨by intros; rename_i h; cases (show (none : Option _) = some _ from h)⟩
  | n + 1 => ⟨slices_pdqsortCmpFunc_st (sp1 n)⟩
theorem slices_pdqsortCmpFunc_sim {g : World} {T0 : Nat → Prop} {w0 : World} {R : Assn} {p0 : List AllocReach} {a1 : Option Addr} {n1 : Nat} {c1 : Nat} {p1 : Int} {p2 : Int} {p3 : Int} {r : (List AllocReach)} (hS : Sep g T0 w0 [R, ownA rAllocReach 60 (.slice a1 n1 c1) p0])  (hm : slices_pdqsortCmpFunc p0 p1 p2 p3 = some r) :
    Calls Try.prog 35 #[.slice a1 n1 c1, .int .i64 p1, .int .i64 p2, .int .i64 p3, .func (.func 20) #[] #[]] w0 (RetS T0 w0 fun T w v => v = .tuple #[] ∧ Sep g T w [R, ownA rAllocReach 60 (.slice a1 n1 c1) r] ∧ True) := (sp1 NN).slices_pdqsortCmpFunc hS hm

set_option maxRecDepth 100000 in
set_option maxHeartbeats 1000000 in
theorem slices_SortFunc_sim {g : World} {T0 : Nat → Prop} {w0 : World} {R : Assn} {p0 : List AllocReach} {a1 : Option Addr} {n1 : Nat} {c1 : Nat} {r : (List AllocReach)} (hS : Sep g T0 w0 [R, ownA rAllocReach 60 (.slice a1 n1 c1) p0])  (hm : slices_SortFunc p0 = some r) :
    Calls Try.prog 19 #[.slice a1 n1 c1, .func (.func 20) #[] #[]] w0 (RetS T0 w0 fun T w v => v = .tuple #[] ∧ Sep g T w [R, ownA rAllocReach 60 (.slice a1 n1 c1) r] ∧ True) := by
  refine enter (args := [.slice a1 n1 c1, .func (.func 20) #[] #[]]) Try.func19 rfl Try.ntmps19 rfl fun J => ?_
  unfold slices_SortFunc at hm
  refine sq2 (rg (pv (r_ms rfl) (pv (r_lnV rfl (hS.own (i := 1) ⟨rfl, rfl⟩).v Try.underlying56) (pv (r_zi rfl) (nil (t_then ?_))))))
  obtain ⟨y1, hx1, hm⟩ := bindS hm
  refine rg (pv (r_ms rfl) (pv (r_mi rfl) (pv (r_mi rfl) (pv (r_cv rfl Try.underlying3 Try.underlying86) (wl rfl (calS cf36 rfl (bits_Len_sim (p0 := IntKind.wrap .u64 (List.length p0 : Int)) (hS.bun [0, 1] [] rfl)  hx1) rfl fun v1 T1 w1 im1 rv1 => ?_))))))
  obtain ⟨rfl, hS1, _⟩ := rv1
  have hS1 : Sep g T1 w1 [R, ownA rAllocReach 60 (.slice a1 n1 c1) p0] := hS1.unb
  obtain ⟨y2, hx2, hm⟩ := bindS hm
  refine pv (r_mf rfl) (wl rfl (calS cf35 rfl (slices_pdqsortCmpFunc_sim (p0 := p0) (p1 := 0) (p2 := (List.length p0 : Int)) (p3 := y1) (hS1.bun [0] [1] rfl)  hx2) rfl fun v2 T2 w2 im2 rv2 => ?_))
  obtain ⟨rfl, hS2, _⟩ := rv2
  have hS2 : Sep g T2 w2 [R, ownA rAllocReach 60 (.slice a1 n1 c1) y2] := hS2.unb
  have hm := oI hm; subst hm
  exact nil (end0 rfl ⟨_, rfl, _, (iT im1 im2), ⟨rfl, hS2.sel [0, 1] rfl, trivial⟩⟩)

set_option maxRecDepth 100000 in
set_option maxHeartbeats 1000000 in
theorem alloc_desk_free_1_sim {g : World} {T0 : Nat → Prop} {w0 : World} {R : Assn} {p0 : AllocHolder} {r : Bool} (hS : Sep g T0 w0 [R])  (hm : alloc_desk_free_1 p0 = some r) :
    Calls Try.prog 64 #[.agg (cAllocHolder p0).toArray] w0 (RetS T0 w0 fun T w v => v = .bool r ∧ Sep g T w [R] ∧ True) := by
  refine enter (args := [.agg (cAllocHolder p0).toArray]) Try.func64 rfl Try.ntmps64 rfl fun J => ?_
  unfold alloc_desk_free_1 at hm
  refine sq2 (rg (wl rfl (bxS (cs := (cAllocHolder p0)) rfl rfl hS fun w1 b1 im1 hS1 => ?_)))
  refine pv (r_zb rfl) (nil (t_then ?_))
  refine sq2 (rg (pv (r_fa rfl Try.underlying62 rfl Try.sizeOf4 rfl) (pv (r_ld rfl Try.isAgg4 (hS1.cell0 (i := 0) ⟨rfl, rfl⟩ (j := 5) rfl)) (pv (r_nt rfl) (pv (r_zb rfl) (nil (t_then ?_)))))))
  have hm := oI hm; subst hm
  exact rtn (ret1 rfl rfl ⟨_, rfl, _, im1, ⟨rfl, hS1.sel [1] rfl, trivial⟩⟩)

set_option maxRecDepth 100000 in
set_option maxHeartbeats 1000000 in
theorem slices_IndexFunc_3_sim {g : World} {T0 : Nat → Prop} {w0 : World} {R : Assn} {p0 : List AllocHolder} {v_p0 : Value} {H_p0 : Assn} {r : Int} (hS : Sep g T0 w0 [R, H_p0]) (hV_p0 : Vw H_p0 rAllocHolder v_p0 p0) (hm : slices_IndexFunc_3 p0 = some r) :
    Calls Try.prog 63 #[v_p0, .func (.func 64) #[] #[]] w0 (RetS T0 w0 fun T w v => v = .int .i64 r ∧ Sep g T w [R, H_p0] ∧ True) := by
  refine enter (args := [v_p0, .func (.func 64) #[] #[]]) Try.func63 rfl Try.ntmps63 rfl fun J => ?_
  unfold slices_IndexFunc_3 at hm
  refine sq2 (rg (pv (r_zi rfl) (nil (t_then ?_))))
  refine sq2 (sq2 (rg (pv (r_mx (v := v_p0) rfl) (pv (r_lnV rfl (hS.view (i := 1) ⟨rfl, rfl⟩ hV_p0) Try.underlying88) (pv (r_mi rfl) (nil (t_then ?_)))))))
  obtain ⟨o1, ho1, hq1⟩ := bindS hm
  obtain ⟨bd1, hbd1, ho1⟩ := loop_open ho1
  refine blk (wp_loop_ghost (fun m a w1 => ∃ (J : Nat → Value) (T1 : Nat → Prop) (x1 : Int), a = env (nf 19) J [(0, v_p0), (1, .func (.func 64) #[] #[]), (7, .int .i64 (List.length p0 : Int)), (8, .int .i64 x1)] ∧ Im T0 w0 T1 w1 ∧ Sep g T1 w1 [R, H_p0] ∧ loopM bd1 m x1 = some o1) NN ⟨_, _, 0, env_has ⟨rfl, rfl, rfl, rfl, trivial⟩, Im.refl, hS.sel [0, 1] rfl, ho1⟩ ?_)
  rintro m _ w1 ⟨J, T1, x1, rfl, im1, hS1, ho1⟩
  obtain ⟨m1, z1, rfl, hm, hn1⟩ := loop_round ho1
  rw [hbd1] at hm
  refine sq2 (rg (pv (r_ib rfl rfl rfl) (nil (t_then ?_))))
  refine sq2 (cnd rfl (fun hb1 => ?_) (fun hb1 => ?_))
  · have hm := ctrue hb1 hm
    refine skp (t_then ?_)
    refine sq2 (blk (sq2 (rg (pv (r_mi rfl) (pv (r_zi rfl) (nil (t_then ?_)))))))
    refine sq2 ?_
    obtain ⟨u1, hx1, hm⟩ := bindS hm
    obtain ⟨b1, of1, cs1, k1, cp1, hv1, hp1, hl1, he1, hr1, hc1⟩ := (hS1.view (i := 1) ⟨rfl, rfl⟩ hV_p0).ixq hx1 rfl
    cases rAllocHolder_open hr1
    obtain ⟨y1, hx2, hm⟩ := bindS hm
    refine rg (pv (r_mf rfl) (pv (r_mx (v := v_p0) rfl) (pv (r_mi rfl) (pv (r_ixe hv1 rfl Try.underlying88 Try.sizeOf62 hp1 hl1 he1) (pv (r_ldS rfl Try.isAgg62 Try.sizeOf62 rfl hc1 (cs := (cAllocHolder u1))) (wl rfl (calS cf64 rfl (alloc_desk_free_1_sim (p0 := u1) (hS1.bun [0, 1] [] rfl)  hx2) rfl fun v1 T2 w2 im2 rv1 => ?_)))))))
    obtain ⟨rfl, hS2, _⟩ := rv1
    have hS2 : Sep g T2 w2 [R, H_p0] := hS2.unb
    refine nil (t_then ?_)
    refine cnd rfl (fun hb2 => ?_) (fun hb2 => ?_)
    · have hm := ctrue hb2 hm
      refine sq2 (rg (pv (r_mi rfl) (pv (r_zi rfl) (nil (t_then ?_)))))
      have hm := oI hm; subst hm
      have hn1 : _ = Lp.ret _ := hn1
      subst hn1
      have hm := thn_ret hq1
      have hm := oI hm; subst hm
      exact rtn (r_blk (r_then (r_then (r_blk (r_then (ret1 rfl rfl ⟨_, rfl, _, (iT im1 im2), ⟨rfl, hS2.sel [0, 1] rfl, trivial⟩⟩))))))
    have hm := cfalse hb2 hm
    refine skp (t_blk (t_then ?_))
    have hm := oI hm; subst hm
    exact rg (pv (r_ib rfl rfl rfl) (pv (r_mi rfl) (nil (t_then ⟨m1, Nat.lt_succ_self _, _, _, (IntKind.wrap .i64 (x1 + 1)), env_has ⟨rfl, rfl, rfl, rfl, trivial⟩, (iT im1 im2), hS2.sel [0, 1] rfl, hn1⟩))))
  have hm := cfalse hb1 hm
  have hm := oI hm; subst hm
  have hn1 : _ = Lp.brk _ := hn1
  subst hn1
  have hm := thn_brk hq1
  refine xt (x_then (x_then (x_eq (t_then ?_))))
  refine sq2 (rg (pv (r_zi rfl) (nil (t_then ?_))))
  have hm := oI hm; subst hm
  exact rtn (ret1 rfl rfl ⟨_, rfl, _, im1, ⟨rfl, hS1.sel [0, 1] rfl, trivial⟩⟩)

set_option maxRecDepth 100000 in
set_option maxHeartbeats 1000000 in
theorem alloc_desk_free_sim {g : World} {T0 : Nat → Prop} {w0 : World} {R : Assn} {p0 : AllocDesk} {b_p0 o_p0 : Nat} {H_p0 : List Value → Assn} {a1 : Option Addr} {n1 : Nat} {c1 : Nat} {r : Int} (hS : Sep g T0 w0 [R, segH (H_p0) enAllocHolder' p0.hold [.int .i64 p0.regs, .slice a1 n1 c1, .int .i64 p0.slots, .int .i64 p0.came], ownA rSeat 37 (.slice a1 n1 c1) p0.seats]) (hL_p0 : Ln b_p0 o_p0 H_p0) (hm : alloc_desk_free p0 = some r) :
    Calls Try.prog 38 #[.pointer (some ⟨b_p0, o_p0, none⟩)] w0 (RetS T0 w0 fun T w v => v = .int .i64 r ∧ Sep g T w [R, segH (H_p0) enAllocHolder' p0.hold [.int .i64 p0.regs, .slice a1 n1 c1, .int .i64 p0.slots, .int .i64 p0.came], ownA rSeat 37 (.slice a1 n1 c1) p0.seats] ∧ True) := by
  refine enter (args := [.pointer (some ⟨b_p0, o_p0, none⟩)]) Try.func38 rfl Try.ntmps38 rfl fun J => ?_
  unfold alloc_desk_free at hm
  refine sq2 (rg (pv (r_zi rfl) (nil (t_then ?_))))
  refine sq2 (rs [0, 0, 0, 0, 0, 0, 1, 0, 2, 0] [0, 1, 2, 3, 4, 5, 6, 7, 8, 9] mix (by kernel_rfl) hS.lt fun w1 i1 => ?_)
  have im1 := i1.imm
  have hS1 := hS.keep i1 (fun _ h => h)
  obtain ⟨z_1, hln1, hm⟩ := bindS hm
  obtain ⟨u1, hx1, hm⟩ := bindS hm
  obtain ⟨y1, hx2, hm⟩ := bindS hm
  refine s0 rfl trivial (fun _ => r_mp rfl) rfl (s0 rfl trivial (fun _ => r_nc rfl) rfl (s0 rfl trivial (fun _ => r_fa rfl Try.underlying65 rfl Try.sizeOf63 rfl) rfl (s0 rfl trivial (fun _ => r_mp rfl) rfl (s0 rfl trivial (fun _ => r_nc rfl) rfl (s0 rfl trivial (fun _ => r_fa rfl Try.underlying65 rfl Try.sizeOf3 rfl) rfl (s1 rfl trivial (r_ld rfl Try.isAgg3 (hS1.cellB (i := 1) ⟨rfl, rfl⟩ (lnSeg (k := 72) hL_p0 (lenOk_some hln1) enAllocHolder'_len rfl) (j := 0) rfl)) rfl (s0 rfl trivial (fun _ => r_slP rfl (lenOk_some hln1) ⟨_, rfl⟩ hx1 Try.underlying63 Try.sizeOf62) rfl (s2 [] rfl trivial rfl (by kernel_rfl) (calS cf63 rfl (slices_IndexFunc_3_sim (p0 := u1) (H_p0 := segH (H_p0) enAllocHolder' p0.hold [.int .i64 p0.regs, .slice a1 n1 c1, .int .i64 p0.slots, .int .i64 p0.came]) (hS1.bun [0, 2] [1] rfl) (vwSeg (m := 12) hL_p0 (lenOk_some hln1) enAllocHolder'_len enAllocHolder'_rp (by decide) hx1) hx2) rfl fun v1 T1 w2 im2 rv1 => ?_)))))))))
  obtain ⟨rfl, hS2, _⟩ := rv1
  have hS2 : Sep g T1 w2 [R, ownA rSeat 37 (.slice a1 n1 c1) p0.seats, segH (H_p0) enAllocHolder' p0.hold [.int .i64 p0.regs, .slice a1 n1 c1, .int .i64 p0.slots, .int .i64 p0.came]] := hS2.unb
  refine ⟨st0, ?_⟩
  refine s0 rfl trivial (fun _ => r_zi rfl) rfl (se (t_then ?_))
  have hm := oI hm; subst hm
  exact rtn (ret1 rfl rfl ⟨_, rfl, _, (iT im1 im2), ⟨rfl, hS2.sel [0, 2, 1] rfl, trivial⟩⟩)

set_option maxRecDepth 100000 in
set_option maxHeartbeats 1000000 in
theorem alloc_names_sim {g : World} {T0 : Nat → Prop} {w0 : World} {R : Assn}  {r : (List Int)} (hS : Sep g T0 w0 [R])  (hm : alloc_names = some r) :
    Calls Try.prog 65 #[] w0 (RetS T0 w0 fun T w v => v = .agg #[.int .i64 (List.getD r 0 0), .int .i64 (List.getD r 1 0), .int .i64 (List.getD r 2 0), .int .i64 (List.getD r 3 0), .int .i64 (List.getD r 4 0), .int .i64 (List.getD r 5 0), .int .i64 (List.getD r 6 0), .int .i64 (List.getD r 7 0), .int .i64 (List.getD r 8 0), .int .i64 (List.getD r 9 0), .int .i64 (List.getD r 10 0), .int .i64 (List.getD r 11 0)] ∧ Sep g T w [R] ∧ True) := by
  refine enter (args := []) Try.func65 rfl Try.ntmps65 rfl fun J => ?_
  unfold alloc_names at hm
  refine sq2 (rg (wl rfl (alS (zs := [.int .i64 0, .int .i64 0, .int .i64 0, .int .i64 0, .int .i64 0, .int .i64 0, .int .i64 0, .int .i64 0, .int .i64 0, .int .i64 0, .int .i64 0, .int .i64 0]) Try.zeroValue120 rfl hS fun w1 b1 im1 hS1 => ?_)))
  refine nil (t_then ?_)
  refine sq2 (rg (pv (r_bd (by kernel_rfl) rfl (u := .agg #[.int .i64 8, .int .i64 9, .int .i64 18, .int .i64 19, .int .i64 20, .int .i64 21, .int .i64 22, .int .i64 23, .int .i64 24, .int .i64 25, .int .i64 26, .int .i64 27])) (wl rfl (st0B (q := 0) hS1 ⟨rfl, rfl⟩ rfl rfl rfl Try.sizeOf120 rfl rfl rfl fun w2 im2 hS2 => ?_))))
  have hS2 : Sep g T0 w2 [boxA b1 [.int .i64 8, .int .i64 9, .int .i64 18, .int .i64 19, .int .i64 20, .int .i64 21, .int .i64 22, .int .i64 23, .int .i64 24, .int .i64 25, .int .i64 26, .int .i64 27], R] := hS2
  refine nil (t_then ?_)
  have hm := oI hm; subst hm
  exact rtn (retN (vs := [.agg #[.int .i64 8, .int .i64 9, .int .i64 18, .int .i64 19, .int .i64 20, .int .i64 21, .int .i64 22, .int .i64 23, .int .i64 24, .int .i64 25, .int .i64 26, .int .i64 27]]) rfl ⟨rvS rfl Try.isAgg120 Try.sizeOf120 rfl (hS2.bx (i := 0) ⟨rfl, rfl⟩), trivial⟩ rfl ⟨_, rfl, _, (iT im1 im2), ⟨rfl, hS2.sel [1] rfl, trivial⟩⟩)

set_option maxRecDepth 100000 in
set_option maxHeartbeats 1000000 in
theorem alloc_desk_take_sim {g : World} {T0 : Nat → Prop} {w0 : World} {R : Assn} {p0 : AllocDesk} {b_p0 o_p0 : Nat} {H_p0 : List Value → Assn} {a1 : Option Addr} {n1 : Nat} {c1 : Nat} {p1 : Int} {p2 : AllocReach} {r : AllocDesk} (hS : Sep g T0 w0 [R, segH (H_p0) enAllocHolder' p0.hold [.int .i64 p0.regs, .slice a1 n1 c1, .int .i64 p0.slots, .int .i64 p0.came], ownA rSeat 37 (.slice a1 n1 c1) p0.seats]) (hL_p0 : Ln b_p0 o_p0 H_p0) (hm : alloc_desk_take p0 p1 p2 = some r) :
    Calls Try.prog 39 #[.pointer (some ⟨b_p0, o_p0, none⟩), .int .i64 p1, .agg (cAllocReach p2).toArray] w0 (RetS T0 w0 fun T w v => ∃ (a2 : Option Addr) (n2 : Nat) (c2 : Nat), v = .tuple #[] ∧ Sep g T w [R, segH (H_p0) enAllocHolder' r.hold [.int .i64 r.regs, .slice a2 n2 c2, .int .i64 r.slots, .int .i64 r.came], ownA rSeat 37 (.slice a2 n2 c2) r.seats] ∧ True) := by
  refine enter (args := [.pointer (some ⟨b_p0, o_p0, none⟩), .int .i64 p1, .agg (cAllocReach p2).toArray]) Try.func39 rfl Try.ntmps39 rfl fun J => ?_
  unfold alloc_desk_take at hm
  refine sq2 (rg (wl rfl (bxS (cs := (cAllocReach p2)) rfl rfl hS fun w1 b1 im1 hS1 => ?_)))
  refine nil (t_then ?_)
  refine sq2 (rs [0, 0, 1, 0, 0, 0, 1, 0, 0, 0, 0, 2] [0, 1, 2, 3, 4, 5, 6, 7, 8, 9, 10, 11] mix (by kernel_rfl) hS1.lt fun w2 i1 => ?_)
  have im2 := i1.imm
  have hS2 := hS1.keep i1 (fun _ h => h)
  obtain ⟨z_1, hln1, hm⟩ := bindS hm
  obtain ⟨u1, hx1, hm⟩ := bindS hm
  obtain ⟨of1, he1⟩ : ∃ z : Nat, z = (o_p0 + 0) + (Int.toNat p1) * 6 := ⟨_, rfl⟩
  obtain ⟨u2, hx2, hm⟩ := bindS hm
  refine s0 rfl trivial (fun _ => r_mp rfl) rfl (s0 rfl trivial (fun _ => r_mi rfl) rfl (s1 rfl trivial (r_ldS rfl Try.isAgg60 Try.sizeOf60 rfl (hS2.cells0 (i := 0) ⟨rfl, rfl⟩ (o := 0) rfl) (cs := (cAllocReach p2))) rfl (s0 rfl trivial (fun _ => r_mp rfl) rfl (s0 rfl trivial (fun _ => r_nc rfl) rfl (s0 rfl trivial (fun _ => r_fa rfl Try.underlying65 rfl Try.sizeOf3 rfl) rfl (s1 rfl trivial (r_ld rfl Try.isAgg3 (hS2.cellB (i := 2) ⟨rfl, rfl⟩ (lnSeg (k := 72) hL_p0 (lenOk_some hln1) enAllocHolder'_len rfl) (j := 3) rfl)) rfl (s0 rfl trivial (fun _ => r_bd (by kernel_rfl) rfl (u := .agg #[.int .i64 p2.r, .int .i64 p2.from_, .int .i64 p2.to, .bool p2.is, .int .i64 p0.came, .bool true])) rfl (s0 rfl trivial (fun _ => r_nc rfl) rfl (s0 rfl trivial (fun _ => r_fa rfl Try.underlying65 rfl Try.sizeOf63 rfl) rfl (s0 rfl trivial (fun _ => r_ixA rfl rfl (lenOk_some hln1) hx1 Try.underlying63 Try.sizeOf62 he1) rfl (s2 [] rfl trivial rfl (by kernel_rfl) (stSeg (q := 2) (i := p1) (j := 0) (u := u2) (u' := (⟨p2, p0.came, true⟩ : AllocHolder)) hS2 ⟨rfl, rfl⟩ hL_p0 enAllocHolder'_len hx2 he1 rfl rfl rfl Try.sizeOf62 rfl rfl rfl rfl fun w3 im3 hS3 => ?_))))))))))))
  have hS3 : Sep g T0 w3 [boxA b1 (cAllocReach p2), R, segH (H_p0) enAllocHolder' (List.set p0.hold (Int.toNat p1) (⟨p2, p0.came, true⟩ : AllocHolder)) [.int .i64 p0.regs, .slice a1 n1 c1, .int .i64 p0.slots, .int .i64 p0.came], ownA rSeat 37 (.slice a1 n1 c1) p0.seats] := hS3
  refine ⟨st0, ?_⟩
  refine se (t_then ?_)
  refine rs [0, 0, 0, 1, 0, 1, 2, 0, 0, 0, 0, 2] [0, 1, 2, 3, 4, 5, 7, 6, 8, 9, 10, 11] mix (by kernel_rfl) hS3.lt fun w4 i2 => ?_
  have im4 := i2.imm
  have hS4 := hS3.keep i2 (fun _ h => h)
  obtain ⟨y1, hx3, hm⟩ := bindS hm
  refine s0 rfl trivial (fun _ => r_mp rfl) rfl (s0 rfl trivial (fun _ => r_nc rfl) rfl (s0 rfl trivial (fun _ => r_fa rfl Try.underlying65 rfl Try.sizeOf32 rfl) rfl (s1 rfl trivial (r_ld rfl Try.isAgg32 (hS4.cellB (i := 2) ⟨rfl, rfl⟩ (lnSeg (k := 72) hL_p0 (len_set (lenOk_some hln1)) enAllocHolder'_len rfl) (j := 1) rfl)) rfl (s0 rfl trivial (fun _ => r_fa rfl Try.underlying60 rfl Try.sizeOf3 rfl) rfl (s1 rfl trivial (r_ld rfl Try.isAgg3 (hS4.cell0 (i := 0) ⟨rfl, rfl⟩ (j := 0) rfl)) rfl (s0 rfl trivial (fun _ => r_mi rfl) rfl (s2 [(5, .int .i64 p2.r), (3, .slice a1 n1 c1)] rfl trivial rfl (by kernel_rfl) (calS cf65 rfl (alloc_names_sim  (hS4.bun [1, 2, 3, 0] [] rfl)  hx3) rfl fun v1 T1 w5 im5 rv1 => ?_))))))))
  obtain ⟨rfl, hS5, _⟩ := rv1
  have hS5 : Sep g T1 w5 [R, segH (H_p0) enAllocHolder' (List.set p0.hold (Int.toNat p1) (⟨p2, p0.came, true⟩ : AllocHolder)) [.int .i64 p0.regs, .slice a1 n1 c1, .int .i64 p0.slots, .int .i64 p0.came], ownA rSeat 37 (.slice a1 n1 c1) p0.seats, boxA b1 (cAllocReach p2)] := hS5.unb
  refine ⟨st1 rfl (r_ld rfl Try.isAgg3 (hS5.cell0 (i := 3) ⟨rfl, rfl⟩ (j := 0) rfl)) (st1 rfl (r_ld rfl Try.isAgg32 (hS5.cellB (i := 1) ⟨rfl, rfl⟩ (lnSeg (k := 72) hL_p0 (len_set (lenOk_some hln1)) enAllocHolder'_len rfl) (j := 1) rfl)) (st0)), ?_⟩
  obtain ⟨u3, hx4, hm⟩ := bindS hm
  obtain ⟨u4, hx5, hm⟩ := bindS hm
  obtain ⟨b2, of2, cs1, k1, cp1, hv1, hp1, hl1, he2, hr1, hc1⟩ := (hS5.own (i := 2) ⟨rfl, rfl⟩).v.ixq hx5 rfl
  cases rSeat_open hr1
  obtain ⟨u5, hx6, hm⟩ := bindS hm
  refine s0 rfl trivial (fun _ => r_axi rfl rfl (idx_map (fun z => Value.int .i64 z) hx4) rfl Try.underlying120 Try.sizeOf3 Try.isAgg3) rfl (s0 rfl trivial (fun _ => r_bd (by kernel_rfl) rfl (u := .agg #[.int .i64 u3, .int .i64 (-1)])) rfl (s0 rfl trivial (fun _ => r_ixe hv1 rfl Try.underlying32 Try.sizeOf37 hp1 hl1 he2) rfl (s2 [] rfl trivial rfl (by kernel_rfl) (stO (q := 2) (i := Int.toNat p2.r) (j := 0) (u := u5) (u' := (⟨u3, (-1)⟩ : Seat)) hS5 ⟨rfl, rfl⟩ hv1 (idx_some hx6).2.2 he2 rfl rfl rfl Try.sizeOf37 rfl rfl rfl (fun c0 hc0 => by rw [storeL_all (r := rSeat) hc0 rfl]; exact (rSeat_mk (x := (⟨u3, (-1)⟩ : Seat))  : rSeat.rp _ _ _ _)) fun w6 im6 hS6 => ?_))))
  have hS6 : Sep g T1 w6 [R, segH (H_p0) enAllocHolder' (List.set p0.hold (Int.toNat p1) (⟨p2, p0.came, true⟩ : AllocHolder)) [.int .i64 p0.regs, .slice a1 n1 c1, .int .i64 p0.slots, .int .i64 p0.came], ownA rSeat 37 (.slice a1 n1 c1) (List.set p0.seats (Int.toNat p2.r) (⟨u3, (-1)⟩ : Seat)), boxA b1 (cAllocReach p2)] := hS6
  refine ⟨st0, ?_⟩
  have hm := oI hm; subst hm
  exact se (end0 rfl ⟨_, rfl, _, (iT im1 (iT im2 (iT im3 (iT im4 (iT im5 im6))))), ⟨_, _, _, rfl, hS6.sel [0, 1, 2] rfl, trivial⟩⟩)

set_option maxRecDepth 100000 in
set_option maxHeartbeats 1000000 in
theorem alloc_desk_last_sim {g : World} {T0 : Nat → Prop} {w0 : World} {R : Assn} {p0 : AllocDesk} {b_p0 o_p0 : Nat} {H_p0 : List Value → Assn} {a1 : Option Addr} {n1 : Nat} {c1 : Nat} {r : Int} (hS : Sep g T0 w0 [R, segH (H_p0) enAllocHolder' p0.hold [.int .i64 p0.regs, .slice a1 n1 c1, .int .i64 p0.slots, .int .i64 p0.came], ownA rSeat 37 (.slice a1 n1 c1) p0.seats]) (hL_p0 : Ln b_p0 o_p0 H_p0) (hm : alloc_desk_last p0 = some r) :
    Calls Try.prog 40 #[.pointer (some ⟨b_p0, o_p0, none⟩)] w0 (RetS T0 w0 fun T w v => v = .int .i64 r ∧ Sep g T w [R, segH (H_p0) enAllocHolder' p0.hold [.int .i64 p0.regs, .slice a1 n1 c1, .int .i64 p0.slots, .int .i64 p0.came], ownA rSeat 37 (.slice a1 n1 c1) p0.seats] ∧ True) := by
  refine enter (args := [.pointer (some ⟨b_p0, o_p0, none⟩)]) Try.func40 rfl Try.ntmps40 rfl fun J => ?_
  unfold alloc_desk_last at hm
  refine sq2 (rg (pv (r_zi rfl) (nil (t_then ?_))))
  refine sq2 (rg (pv (r_zi rfl) (nil (t_then ?_))))
  refine sq2 (sq2 ?_)
  obtain ⟨z_1, hln1, hm⟩ := bindS hm
  obtain ⟨u1, hx1, hm⟩ := bindS hm
  refine rq mix (by kernel_rfl) hS.lt (qv (fun _ hq => r_mp rfl) (qv (fun _ hq => r_nc rfl) (qv (fun _ hq => r_fa rfl Try.underlying65 rfl Try.sizeOf63 rfl) (qv (fun _ hq => r_mp rfl) (qv (fun _ hq => r_nc rfl) (qv (fun _ hq => r_fa rfl Try.underlying65 rfl Try.sizeOf3 rfl) (qv (fun _ hq => r_ld rfl Try.isAgg3 (hq.cell (hS.cellB (i := 1) ⟨rfl, rfl⟩ (lnSeg (k := 72) hL_p0 (lenOk_some hln1) enAllocHolder'_len rfl) (j := 0) rfl))) (qv (fun _ hq => r_slP rfl (lenOk_some hln1) ⟨_, rfl⟩ hx1 Try.underlying63 Try.sizeOf62) (qv (fun _ hq => r_lnV rfl (hS.view (i := 1) ⟨rfl, rfl⟩ (vwSeg (m := 12) hL_p0 (lenOk_some hln1) enAllocHolder'_len enAllocHolder'_rp (by decide) hx1)) Try.underlying88) (qv (fun _ hq => r_mi rfl) (qn fun w1 T1 i1 => ?_)))))))))))
  have im1 := i1.imm
  have hS1 := hS.keep i1 (fun _ h => h)
  refine t_then ?_
  obtain ⟨o1, ho1, hq1⟩ := bindS hm
  obtain ⟨bd1, hbd1, ho1⟩ := loop_open ho1
  refine blk (wp_loop_ghost (fun m a w2 => ∃ (J : Nat → Value) (T2 : Nat → Prop) (x1 : Int) (x2 : Int), a = env (nf 65) J [(0, .pointer (some ⟨b_p0, o_p0, none⟩)), (3, .int .i64 x1), (13, .slice (some ⟨b_p0, o_p0 + 0, none⟩) (List.length u1) 12), (14, .int .i64 (List.length u1 : Int)), (15, .int .i64 x2)] ∧ Im T1 w1 T2 w2 ∧ Sep g T2 w2 [R, segH (H_p0) enAllocHolder' p0.hold [.int .i64 p0.regs, .slice a1 n1 c1, .int .i64 p0.slots, .int .i64 p0.came], ownA rSeat 37 (.slice a1 n1 c1) p0.seats] ∧ loopM bd1 m (x1, x2) = some o1) NN ⟨_, _, (-1), 0, env_has ⟨rfl, rfl, rfl, rfl, rfl, trivial⟩, Im.refl, hS1.sel [0, 1, 2] rfl, ho1⟩ ?_)
  rintro m _ w2 ⟨J, T2, x1, x2, rfl, im2, hS2, ho1⟩
  obtain ⟨m1, z1, rfl, hm, hn1⟩ := loop_round ho1
  rw [hbd1] at hm
  refine sq2 (rg (pv (r_ib rfl rfl rfl) (nil (t_then ?_))))
  refine sq2 (cnd rfl (fun hb1 => ?_) (fun hb1 => ?_))
  · have hm := ctrue hb1 hm
    refine skp (t_then ?_)
    obtain ⟨kk1, hkk1, hm⟩ := jn_open hm
    refine cut (fun a w3 => ∃ (J : Nat → Value) (T3 : Nat → Prop) (x3 : Int), a = env (nf 65) J [(0, .pointer (some ⟨b_p0, o_p0, none⟩)), (3, .int .i64 x3), (13, .slice (some ⟨b_p0, o_p0 + 0, none⟩) (List.length u1) 12), (14, .int .i64 (List.length u1 : Int)), (15, .int .i64 x2)] ∧ Im T2 w2 T3 w3 ∧ Sep g T3 w3 [R, segH (H_p0) enAllocHolder' p0.hold [.int .i64 p0.regs, .slice a1 n1 c1, .int .i64 p0.slots, .int .i64 p0.came], ownA rSeat 37 (.slice a1 n1 c1) p0.seats] ∧ kk1 x3 = some z1) ?_ ?_
    · refine blk (sq2 ?_)
      obtain ⟨u2, hx2, hm⟩ := bindS hm
      obtain ⟨b1, of1, cs1, k1, cp1, hv1, hp1, hl1, he1, hr1, hc1⟩ := (hS2.view (i := 1) ⟨rfl, rfl⟩ (vwSeg (m := 12) hL_p0 (lenOk_some hln1) enAllocHolder'_len enAllocHolder'_rp (by decide) hx1)).ixq hx2 rfl
      cases rAllocHolder_open hr1
      refine rg (pv (r_mi rfl) (pv (r_ixe hv1 rfl Try.underlying88 Try.sizeOf62 hp1 hl1 he1) (pv (r_ldS rfl Try.isAgg62 Try.sizeOf62 rfl hc1 (cs := (cAllocHolder u2))) (wl rfl (alS (zs := [.int .i64 0, .int .i64 0, .int .i64 0, .bool false, .int .i64 0, .bool false]) Try.zeroValue62 rfl hS2 fun w4 b2 im4 hS3 => ?_)))))
      refine pv (r_zi rfl) (wl rfl (st0B (q := 0) hS3 ⟨rfl, rfl⟩ rfl rfl rfl Try.sizeOf62 rfl rfl rfl fun w5 im5 hS4 => ?_))
      have hS4 : Sep g T2 w5 [boxA b2 (cAllocHolder u2), R, segH (H_p0) enAllocHolder' p0.hold [.int .i64 p0.regs, .slice a1 n1 c1, .int .i64 p0.slots, .int .i64 p0.came], ownA rSeat 37 (.slice a1 n1 c1) p0.seats] := hS4
      refine nil (t_then ?_)
      refine sq2 (rq mix (by kernel_rfl) hS4.lt (qv (fun _ hq => r_mi rfl) (qv (fun _ hq => r_ib rfl rfl rfl) (qv (fun _ hq => r_mb rfl) (?_)))))
      rcases Bool.eq_false_or_eq_true (decide (x1 < 0)) with hb2 | hb2
      · have hm := ctrue hb2 hm
        refine qgF (d0 := 22) rfl rfl (by rw [hb2]; rfl) (qgF (d0 := 22) rfl rfl (by rw [hb2]; rfl) (qgF (d0 := 22) rfl rfl (by rw [hb2]; rfl) (qgF (d0 := 22) rfl rfl (by rw [hb2]; rfl) (qgF (d0 := 22) rfl rfl (by rw [hb2]; rfl) (qgF (d0 := 22) rfl rfl (by rw [hb2]; rfl) (qgF (d0 := 22) rfl rfl (by rw [hb2]; rfl) (qgF (d0 := 22) rfl rfl (by rw [hb2]; rfl) (qgF (d0 := 22) rfl rfl (by rw [hb2]; rfl) (qgF (d0 := 22) rfl rfl (by rw [hb2]; rfl) (qgF (d0 := 22) rfl rfl (by rw [hb2]; rfl) (qgF (d0 := 22) rfl rfl (by rw [hb2]; rfl) (qv (fun _ hq => r_pkt rfl hb2 rfl) (qv (fun _ hq => r_mb rfl) (qgF (d0 := 36) rfl rfl rfl (qgF (d0 := 36) rfl rfl rfl (qgF (d0 := 36) rfl rfl rfl (qgF (d0 := 36) rfl rfl rfl (qgF (d0 := 36) rfl rfl rfl (qgF (d0 := 36) rfl rfl rfl (qgF (d0 := 36) rfl rfl rfl (qgF (d0 := 36) rfl rfl rfl (qgF (d0 := 36) rfl rfl rfl (qgF (d0 := 36) rfl rfl rfl (qgF (d0 := 36) rfl rfl rfl (qgF (d0 := 36) rfl rfl rfl (qgF (d0 := 36) rfl rfl rfl (qgU (d0 := 49) rfl rfl (qgU (d0 := 49) rfl rfl (qgU (d0 := 49) rfl rfl (qgU (d0 := 49) rfl rfl (qgU (d0 := 49) rfl rfl (qgU (d0 := 49) rfl rfl (qgU (d0 := 49) rfl rfl (qgU (d0 := 49) rfl rfl (qgU (d0 := 49) rfl rfl (qgU (d0 := 49) rfl rfl (qgF (d0 := 36) rfl rfl rfl (qv (fun _ hq => r_pkt rfl rfl rfl) (qn fun w9 T7 i5 => ?_)))))))))))))))))))))))))))))))))))))))
        have im9 := i5.imm
        have hS8 := hS4.keep i5 (fun _ h => h)
        refine t_thenR [(0, .pointer (some ⟨b_p0, o_p0, none⟩)), (3, .int .i64 x1), (4, .int .i64 x2), (13, .slice (some ⟨b_p0, o_p0 + 0, none⟩) (List.length u1) 12), (14, .int .i64 (List.length u1 : Int)), (15, .int .i64 x2), (61, .bool true)] ⟨rfl, rfl, rfl, rfl, rfl, rfl, rfl, trivial⟩ fun J => ?_
        refine cnd (b := true) rfl (fun _ => ?_) (fun h => nomatch h)
        exact rg (pv (r_mi rfl) (pv (r_zi rfl) (nil (t_blk (t_then ⟨_, _, x2, env_has ⟨rfl, rfl, rfl, rfl, rfl, trivial⟩, (iT im4 (iT im5 im9)), hS8.sel [1, 2, 3] rfl, hm⟩)))))
      have hm := cfalse hb2 hm
      obtain ⟨u3, hx3, hm⟩ := bindS hm
      obtain ⟨of2, he2⟩ : ∃ z : Nat, z = (o_p0 + 0) + (Int.toNat x1) * 6 := ⟨_, rfl⟩
      refine qgT (d0 := 22) rfl rfl hb2 (qv (fun _ hq => r_fa rfl Try.underlying62 rfl Try.sizeOf60 rfl) (qgT (d0 := 22) rfl rfl hb2 (qv (fun _ hq => r_fa rfl Try.underlying60 rfl Try.sizeOf3 rfl) (qgT (d0 := 22) rfl rfl hb2 (qv (fun _ hq => r_ld rfl Try.isAgg3 (hq.cell (hS4.cell0 (i := 0) ⟨rfl, rfl⟩ (j := 2) rfl))) (qgT (d0 := 22) rfl rfl hb2 (qv (fun _ hq => r_mp rfl) (qgT (d0 := 22) rfl rfl hb2 (qv (fun _ hq => r_mi rfl) (qgT (d0 := 22) rfl rfl hb2 (qv (fun _ hq => r_nc rfl) (qgT (d0 := 22) rfl rfl hb2 (qv (fun _ hq => r_fa rfl Try.underlying65 rfl Try.sizeOf63 rfl) (qgT (d0 := 22) rfl rfl hb2 (qv (fun _ hq => r_ixA rfl rfl (lenOk_some hln1) hx3 Try.underlying63 Try.sizeOf62 he2) (qgT (d0 := 22) rfl rfl hb2 (qv (fun _ hq => r_fa rfl Try.underlying62 rfl Try.sizeOf60 rfl) (qgT (d0 := 22) rfl rfl hb2 (qv (fun _ hq => r_fa rfl Try.underlying60 rfl Try.sizeOf3 rfl) (qgT (d0 := 22) rfl rfl hb2 (qv (fun _ hq => r_ld rfl Try.isAgg3 (hq.cell ((Sep.segEl hS4 (q := 2) ⟨rfl, rfl⟩ hL_p0 enAllocHolder'_len hx3 he2).get (j := 2) rfl))) (qgT (d0 := 22) rfl rfl hb2 (qv (fun _ hq => r_ib rfl rfl rfl) (qv (fun _ hq => r_pkf rfl hb2 rfl) (qv (fun _ hq => r_mb rfl) (?_))))))))))))))))))))))))))
      rcases Bool.eq_false_or_eq_true (decide (u3.reach.to < u2.reach.to)) with hb3 | hb3
      · have hm := ctrue hb3 hm
        refine qgF (d0 := 36) rfl rfl (by rw [hb3]; rfl) (qgF (d0 := 36) rfl rfl (by rw [hb3]; rfl) (qgF (d0 := 36) rfl rfl (by rw [hb3]; rfl) (qgF (d0 := 36) rfl rfl (by rw [hb3]; rfl) (qgF (d0 := 36) rfl rfl (by rw [hb3]; rfl) (qgF (d0 := 36) rfl rfl (by rw [hb3]; rfl) (qgF (d0 := 36) rfl rfl (by rw [hb3]; rfl) (qgF (d0 := 36) rfl rfl (by rw [hb3]; rfl) (qgF (d0 := 36) rfl rfl (by rw [hb3]; rfl) (qgF (d0 := 36) rfl rfl (by rw [hb3]; rfl) (qgF (d0 := 36) rfl rfl (by rw [hb3]; rfl) (qgF (d0 := 36) rfl rfl (by rw [hb3]; rfl) (qgF (d0 := 36) rfl rfl (by rw [hb3]; rfl) (qgU (d0 := 49) rfl rfl (qgU (d0 := 49) rfl rfl (qgU (d0 := 49) rfl rfl (qgU (d0 := 49) rfl rfl (qgU (d0 := 49) rfl rfl (qgU (d0 := 49) rfl rfl (qgU (d0 := 49) rfl rfl (qgU (d0 := 49) rfl rfl (qgU (d0 := 49) rfl rfl (qgU (d0 := 49) rfl rfl (qgF (d0 := 36) rfl rfl (by rw [hb3]; rfl) (qv (fun _ hq => r_pkt rfl hb3 rfl) (qn fun w8 T6 i4 => ?_)))))))))))))))))))))))))
        have im8 := i4.imm
        have hS7 := hS4.keep i4 (fun _ h => h)
        refine t_thenR [(0, .pointer (some ⟨b_p0, o_p0, none⟩)), (3, .int .i64 x1), (4, .int .i64 x2), (13, .slice (some ⟨b_p0, o_p0 + 0, none⟩) (List.length u1) 12), (14, .int .i64 (List.length u1 : Int)), (15, .int .i64 x2), (61, .bool true)] ⟨rfl, rfl, rfl, rfl, rfl, rfl, rfl, trivial⟩ fun J => ?_
        refine cnd (b := true) rfl (fun _ => ?_) (fun h => nomatch h)
        exact rg (pv (r_mi rfl) (pv (r_zi rfl) (nil (t_blk (t_then ⟨_, _, x2, env_has ⟨rfl, rfl, rfl, rfl, rfl, trivial⟩, (iT im4 (iT im5 im8)), hS7.sel [1, 2, 3] rfl, hm⟩)))))
      have hm := cfalse hb3 hm
      obtain ⟨u4, hx4, hm⟩ := bindS hm
      obtain ⟨of3, he3⟩ : ∃ z : Nat, z = (o_p0 + 0) + (Int.toNat x1) * 6 := ⟨_, rfl⟩
      refine qgT (d0 := 36) rfl rfl hb3 (qv (fun _ hq => r_fa rfl Try.underlying62 rfl Try.sizeOf60 rfl) (qgT (d0 := 36) rfl rfl hb3 (qv (fun _ hq => r_fa rfl Try.underlying60 rfl Try.sizeOf3 rfl) (qgT (d0 := 36) rfl rfl hb3 (qv (fun _ hq => r_ld rfl Try.isAgg3 (hq.cell (hS4.cell0 (i := 0) ⟨rfl, rfl⟩ (j := 2) rfl))) (qgT (d0 := 36) rfl rfl hb3 (qv (fun _ hq => r_mp rfl) (qgT (d0 := 36) rfl rfl hb3 (qv (fun _ hq => r_mi rfl) (qgT (d0 := 36) rfl rfl hb3 (qv (fun _ hq => r_nc rfl) (qgT (d0 := 36) rfl rfl hb3 (qv (fun _ hq => r_fa rfl Try.underlying65 rfl Try.sizeOf63 rfl) (qgT (d0 := 36) rfl rfl hb3 (qv (fun _ hq => r_ixA rfl rfl (lenOk_some hln1) hx4 Try.underlying63 Try.sizeOf62 he3) (qgT (d0 := 36) rfl rfl hb3 (qv (fun _ hq => r_fa rfl Try.underlying62 rfl Try.sizeOf60 rfl) (qgT (d0 := 36) rfl rfl hb3 (qv (fun _ hq => r_fa rfl Try.underlying60 rfl Try.sizeOf3 rfl) (qgT (d0 := 36) rfl rfl hb3 (qv (fun _ hq => r_ld rfl Try.isAgg3 (hq.cell ((Sep.segEl hS4 (q := 2) ⟨rfl, rfl⟩ hL_p0 enAllocHolder'_len hx4 he3).get (j := 2) rfl))) (qgT (d0 := 36) rfl rfl hb3 (qv (fun _ hq => r_ib rfl rfl rfl) (qgT (d0 := 36) rfl rfl hb3 (qv (fun _ hq => r_mb rfl) (?_))))))))))))))))))))))))))
      rcases Bool.eq_false_or_eq_true (u2.reach.to == u4.reach.to) with hb4 | hb4
      · have hm := ctrue hb4 hm
        obtain ⟨u5, hx5, hm⟩ := bindS hm
        obtain ⟨of4, he4⟩ : ∃ z : Nat, z = (o_p0 + 0) + (Int.toNat x1) * 6 := ⟨_, rfl⟩
        refine qgT (d0 := 49) rfl rfl hb4 (qv (fun _ hq => r_fa rfl Try.underlying62 rfl Try.sizeOf3 rfl) (qgT (d0 := 49) rfl rfl hb4 (qv (fun _ hq => r_ld rfl Try.isAgg3 (hq.cell (hS4.cell0 (i := 0) ⟨rfl, rfl⟩ (j := 4) rfl))) (qgT (d0 := 49) rfl rfl hb4 (qv (fun _ hq => r_mp rfl) (qgT (d0 := 49) rfl rfl hb4 (qv (fun _ hq => r_mi rfl) (qgT (d0 := 49) rfl rfl hb4 (qv (fun _ hq => r_nc rfl) (qgT (d0 := 49) rfl rfl hb4 (qv (fun _ hq => r_fa rfl Try.underlying65 rfl Try.sizeOf63 rfl) (qgT (d0 := 49) rfl rfl hb4 (qv (fun _ hq => r_ixA rfl rfl (lenOk_some hln1) hx5 Try.underlying63 Try.sizeOf62 he4) (qgT (d0 := 49) rfl rfl hb4 (qv (fun _ hq => r_fa rfl Try.underlying62 rfl Try.sizeOf3 rfl) (qgT (d0 := 49) rfl rfl hb4 (qv (fun _ hq => r_ld rfl Try.isAgg3 (hq.cell ((Sep.segEl hS4 (q := 2) ⟨rfl, rfl⟩ hL_p0 enAllocHolder'_len hx5 he4).get (j := 4) rfl))) (qgT (d0 := 49) rfl rfl hb4 (qv (fun _ hq => r_ib rfl rfl rfl) (qgT (d0 := 36) rfl rfl hb3 (qv (fun _ hq => r_pkt rfl hb4 rfl) (qv (fun _ hq => r_pkf rfl hb3 rfl) (qn fun w6 T4 i2 => ?_)))))))))))))))))))))))
        have im6 := i2.imm
        have hS5 := hS4.keep i2 (fun _ h => h)
        refine t_thenR [(0, .pointer (some ⟨b_p0, o_p0, none⟩)), (3, .int .i64 x1), (4, .int .i64 x2), (13, .slice (some ⟨b_p0, o_p0 + 0, none⟩) (List.length u1) 12), (14, .int .i64 (List.length u1 : Int)), (15, .int .i64 x2), (61, .bool (decide (u5.came < u2.came)))] ⟨rfl, rfl, rfl, rfl, rfl, rfl, rfl, trivial⟩ fun J => ?_
        refine cnd rfl (fun hb5 => ?_) (fun hb5 => ?_)
        · have hm := ctrue hb5 hm
          exact rg (pv (r_mi rfl) (pv (r_zi rfl) (nil (t_blk (t_then ⟨_, _, x2, env_has ⟨rfl, rfl, rfl, rfl, rfl, trivial⟩, (iT im4 (iT im5 im6)), hS5.sel [1, 2, 3] rfl, hm⟩)))))
        have hm := cfalse hb5 hm
        exact skp (t_blk (t_then ⟨_, _, x1, env_has ⟨rfl, rfl, rfl, rfl, rfl, trivial⟩, (iT im4 (iT im5 im6)), hS5.sel [1, 2, 3] rfl, hm⟩))
      have hm := cfalse hb4 hm
      refine qgF (d0 := 49) rfl rfl (by rw [hb4]; rfl) (qgF (d0 := 49) rfl rfl (by rw [hb4]; rfl) (qgF (d0 := 49) rfl rfl (by rw [hb4]; rfl) (qgF (d0 := 49) rfl rfl (by rw [hb4]; rfl) (qgF (d0 := 49) rfl rfl (by rw [hb4]; rfl) (qgF (d0 := 49) rfl rfl (by rw [hb4]; rfl) (qgF (d0 := 49) rfl rfl (by rw [hb4]; rfl) (qgF (d0 := 49) rfl rfl (by rw [hb4]; rfl) (qgF (d0 := 49) rfl rfl (by rw [hb4]; rfl) (qgF (d0 := 49) rfl rfl (by rw [hb4]; rfl) (qgT (d0 := 36) rfl rfl hb3 (qv (fun _ hq => r_pkf rfl hb4 rfl) (qv (fun _ hq => r_pkf rfl hb3 rfl) (qn fun w7 T5 i3 => ?_)))))))))))))
      have im7 := i3.imm
      have hS6 := hS4.keep i3 (fun _ h => h)
      refine t_thenR [(0, .pointer (some ⟨b_p0, o_p0, none⟩)), (3, .int .i64 x1), (4, .int .i64 x2), (13, .slice (some ⟨b_p0, o_p0 + 0, none⟩) (List.length u1) 12), (14, .int .i64 (List.length u1 : Int)), (15, .int .i64 x2), (61, .bool false)] ⟨rfl, rfl, rfl, rfl, rfl, rfl, rfl, trivial⟩ fun J => ?_
      refine cnd (b := false) rfl (fun h => nomatch h) (fun _ => ?_)
      exact skp (t_blk (t_then ⟨_, _, x1, env_has ⟨rfl, rfl, rfl, rfl, rfl, trivial⟩, (iT im4 (iT im5 im7)), hS6.sel [1, 2, 3] rfl, hm⟩))
    rintro _ w3 ⟨J, T3, x3, rfl, im3, hS9, hm⟩
    rw [hkk1] at hm
    have hm := oI hm; subst hm
    exact rg (pv (r_ib rfl rfl rfl) (pv (r_mi rfl) (nil (t_then ⟨m1, Nat.lt_succ_self _, _, _, x3, (IntKind.wrap .i64 (x2 + 1)), env_has ⟨rfl, rfl, rfl, rfl, rfl, trivial⟩, (iT im2 im3), hS9.sel [0, 1, 2] rfl, hn1⟩))))
  have hm := cfalse hb1 hm
  have hm := oI hm; subst hm
  have hn1 : _ = Lp.brk _ := hn1
  subst hn1
  have hm := thn_brk hq1
  refine xt (x_then (x_then (x_eq (t_then ?_))))
  refine sq2 (rg (pv (r_mi rfl) (pv (r_zi rfl) (nil (t_then ?_)))))
  have hm := oI hm; subst hm
  exact rtn (ret1 rfl rfl ⟨_, rfl, _, (iT im1 im2), ⟨rfl, hS2.sel [0, 1, 2] rfl, trivial⟩⟩)

set_option maxRecDepth 100000 in
set_option maxHeartbeats 1000000 in
theorem alloc_desk_slot_sim {g : World} {T0 : Nat → Prop} {w0 : World} {R : Assn} {p0 : AllocDesk} {b_p0 o_p0 : Nat} {H_p0 : List Value → Assn} {a1 : Option Addr} {n1 : Nat} {c1 : Nat} {p1 : Int} {r : AllocDesk} (hS : Sep g T0 w0 [R, segH (H_p0) enAllocHolder' p0.hold [.int .i64 p0.regs, .slice a1 n1 c1, .int .i64 p0.slots, .int .i64 p0.came], ownA rSeat 37 (.slice a1 n1 c1) p0.seats]) (hL_p0 : Ln b_p0 o_p0 H_p0) (hm : alloc_desk_slot p0 p1 = some r) :
    Calls Try.prog 41 #[.pointer (some ⟨b_p0, o_p0, none⟩), .int .i64 p1] w0 (RetS T0 w0 fun T w v => ∃ (a2 : Option Addr) (n2 : Nat) (c2 : Nat), v = .tuple #[] ∧ Sep g T w [R, segH (H_p0) enAllocHolder' r.hold [.int .i64 r.regs, .slice a2 n2 c2, .int .i64 r.slots, .int .i64 r.came], ownA rSeat 37 (.slice a2 n2 c2) r.seats] ∧ True) := by
  refine enter (args := [.pointer (some ⟨b_p0, o_p0, none⟩), .int .i64 p1]) Try.func41 rfl Try.ntmps41 rfl fun J => ?_
  unfold alloc_desk_slot at hm
  refine sq2 (rs [0, 0, 0, 1, 0, 0, 0, 0, 1, 0, 0, 2] [0, 1, 2, 3, 4, 5, 6, 7, 8, 9, 10, 11] mix (by kernel_rfl) hS.lt fun w1 i1 => ?_)
  have im1 := i1.imm
  have hS1 := hS.keep i1 (fun _ h => h)
  obtain ⟨z_1, hln1, hm⟩ := bindS hm
  obtain ⟨u1, hx1, hm⟩ := bindS hm
  obtain ⟨b1, of1, cs1, k1, cp1, hv1, hp1, hl1, he1, hr1, hc1⟩ := (hS1.own (i := 2) ⟨rfl, rfl⟩).v.ixq hx1 rfl
  cases rSeat_open hr1
  obtain ⟨u2, hx2, hm⟩ := bindS hm
  refine s0 rfl trivial (fun _ => r_mp rfl) rfl (s0 rfl trivial (fun _ => r_nc rfl) rfl (s0 rfl trivial (fun _ => r_fa rfl Try.underlying65 rfl Try.sizeOf32 rfl) rfl (s1 rfl trivial (r_ld rfl Try.isAgg32 (hS1.cellB (i := 1) ⟨rfl, rfl⟩ (lnSeg (k := 72) hL_p0 (lenOk_some hln1) enAllocHolder'_len rfl) (j := 1) rfl)) rfl (s0 rfl trivial (fun _ => r_mi rfl) rfl (s0 rfl trivial (fun _ => r_mp rfl) rfl (s0 rfl trivial (fun _ => r_nc rfl) rfl (s0 rfl trivial (fun _ => r_fa rfl Try.underlying65 rfl Try.sizeOf3 rfl) rfl (s1 rfl trivial (r_ld rfl Try.isAgg3 (hS1.cellB (i := 1) ⟨rfl, rfl⟩ (lnSeg (k := 72) hL_p0 (lenOk_some hln1) enAllocHolder'_len rfl) (j := 2) rfl)) rfl (s0 rfl trivial (fun _ => r_bd (by kernel_rfl) rfl (u := .agg #[.int .i64 0, .int .i64 p0.slots])) rfl (s0 rfl trivial (fun _ => r_ixe hv1 rfl Try.underlying32 Try.sizeOf37 hp1 hl1 he1) rfl (s2 [] rfl trivial rfl (by kernel_rfl) (stO (q := 2) (i := Int.toNat p1) (j := 0) (u := u2) (u' := (⟨0, p0.slots⟩ : Seat)) hS1 ⟨rfl, rfl⟩ hv1 (idx_some hx2).2.2 he1 rfl rfl rfl Try.sizeOf37 rfl rfl rfl (fun c0 hc0 => by rw [storeL_all (r := rSeat) hc0 rfl]; exact (rSeat_mk (x := (⟨0, p0.slots⟩ : Seat))  : rSeat.rp _ _ _ _)) fun w2 im2 hS2 => ?_))))))))))))
  have hS2 : Sep g T0 w2 [R, segH (H_p0) enAllocHolder' p0.hold [.int .i64 p0.regs, .slice a1 n1 c1, .int .i64 p0.slots, .int .i64 p0.came], ownA rSeat 37 (.slice a1 n1 c1) (List.set p0.seats (Int.toNat p1) (⟨0, p0.slots⟩ : Seat))] := hS2
  refine ⟨st0, ?_⟩
  refine se (t_then ?_)
  refine rg (pv (r_mp rfl) (pv (r_nc rfl) (pv (r_fa rfl Try.underlying65 rfl Try.sizeOf3 rfl) (pv (r_ld rfl Try.isAgg3 (hS2.cellB (i := 1) ⟨rfl, rfl⟩ (lnSeg (k := 72) hL_p0 (lenOk_some hln1) enAllocHolder'_len rfl) (j := 2) rfl)) (pv (r_ib rfl rfl rfl) (pv (r_nc rfl) (pv (r_fa rfl Try.underlying65 rfl Try.sizeOf3 rfl) (wl rfl (stB (q := 1) (j := 2) hS2 ⟨rfl, rfl⟩ (lnSeg (k := 72) hL_p0 (lenOk_some hln1) enAllocHolder'_len rfl) rfl rfl rfl Try.sizeOf3 rfl rfl rfl fun w3 im3 hS3 => ?_)))))))))
  have hS3 : Sep g T0 w3 [R, segH (H_p0) enAllocHolder' p0.hold [.int .i64 p0.regs, .slice a1 n1 c1, .int .i64 (IntKind.wrap .i64 (p0.slots + 1)), .int .i64 p0.came], ownA rSeat 37 (.slice a1 n1 c1) (List.set p0.seats (Int.toNat p1) (⟨0, p0.slots⟩ : Seat))] := hS3
  have hm := oI hm; subst hm
  exact nil (end0 rfl ⟨_, rfl, _, (iT im1 (iT im2 im3)), ⟨_, _, _, rfl, hS3.sel [0, 1, 2] rfl, trivial⟩⟩)
end Go.Proofs.Yteoihjfnojgnnaa
