/- That Go functions compute their models. Printed by gen2.py. -/
import Derived.Test.YteoihjfnojgnnaaGreatWb
set_option linter.unusedVariables false
namespace Go.Proofs.YteoihjfnojgnnaaGreat
open _root_.Go.Proofs.Tryz
set_option maxRecDepth 100000
set_option maxHeartbeats 1000000
attribute [local irreducible] wpList wpQuiet Code.wp
variable {g : World} {T0 : Nat → Prop} {w0 : World} {R : Assn}

theorem slices_partitionCmpFunc_sim {p0 : List AllocReach} {a1 : OA} {n1 : Nat} {c1 : Nat} {p1 : Int} {p2 : Int} {p3 : Int} {r : Int × Bool × (List AllocReach)} (hS : Sep g T0 w0 [R, ownA rAllocReach 57 (.slice a1 n1 c1) p0])  (hm : slices_partitionCmpFunc p0 p1 p2 p3 = some r) :
    Calls Tryz.prog 57 #[.slice a1 n1 c1, iv p1, iv p2, iv p3, .func (.func 16) #[] #[]] w0 (RetS T0 w0 fun T w v => v = .tuple #[iv r.1, .bool r.2.1] ∧ Sep g T w [R, ownA rAllocReach 57 (.slice a1 n1 c1) r.2.2] ∧ True) := by
  refine enter (args := [.slice a1 n1 c1, iv p1, iv p2, iv p3, .func (.func 16) #[] #[]]) Tryz.func57 rfl Tryz.ntmps57 rfl fun J => ?_
  unfold slices_partitionCmpFunc at hm
  refine sq2 (rg (pv (r_zi rfl) (pv (r_zb rfl) (nil (t_then ?_)))))
  refine sq2 (rs [0, 0, 0, 0, 0, 0, 0, 1, 0, 0, 0, 1, 0, 2, 0, 2] [0, 1, 2, 3, 4, 5, 6, 7, 8, 9, 10, 11, 12, 13, 14, 15] mix (by kernel_rfl) hS.lt fun w1 i1 => ?_)
  have im1 := i1.imm
  have hS1 := hS.keep i1 (fun _ h => h)
  obtain ⟨u1, hx1, hm⟩ := bindS hm
  obtain ⟨b1, of1, cs1, k1, cp1, hv1, hp1, hl1, he1, hr1, hc1⟩ := (hS1.own (i := 1) ⟨rfl, rfl⟩).v.ixq hx1 rfl
  cases rAllocReach_open hr1
  obtain ⟨u2, hx2, hm⟩ := bindS hm
  obtain ⟨b2, of2, cs2, k2, cp2, hv2, hp2, hl2, he2, hr2, hc2⟩ := (hS1.own (i := 1) ⟨rfl, rfl⟩).v.ixq hx2 rfl
  cases rAllocReach_open hr2
  obtain ⟨u3, hx3, hm⟩ := bindS hm
  obtain ⟨b3, of3, cs3, k3, cp3, hv3, hp3, hl3, he3, hr3, hc3⟩ := (hS1.own (i := 1) ⟨rfl, rfl⟩).v.ixq hx3 rfl
  cases rAllocReach_open hr3
  obtain ⟨u4, hx4, hm⟩ := bindS hm
  refine s0 rfl trivial (fun _ => r_ms rfl) rfl (s0 rfl trivial (fun _ => r_mi rfl) rfl (s0 rfl trivial (fun _ => r_ms rfl) rfl (s0 rfl trivial (fun _ => r_mi rfl) rfl (s0 rfl trivial (fun _ => r_ms rfl) rfl (s0 rfl trivial (fun _ => r_mi rfl) rfl (s0 rfl trivial (fun _ => r_ixe hv1 rfl underlying53 sizeOf57 hp1 hl1 he1) rfl (s1 rfl trivial (r_ldS rfl isAgg57 sizeOf57 rfl hc1 (cs := (cAllocReach u1))) rfl (s0 rfl trivial (fun _ => r_ms rfl) rfl (s0 rfl trivial (fun _ => r_mi rfl) rfl (s0 rfl trivial (fun _ => r_ixe hv2 rfl underlying53 sizeOf57 hp2 hl2 he2) rfl (s1 rfl trivial (r_ldS rfl isAgg57 sizeOf57 rfl hc2 (cs := (cAllocReach u2))) rfl (s0 rfl trivial (fun _ => r_ixe hv3 rfl underlying53 sizeOf57 hp3 hl3 he3) rfl (s2 [] rfl trivial rfl (by kernel_rfl) (stO (q := 1) (i := Int.toNat p1) (j := 0) (u := u4) (u' := u1) hS1 ⟨rfl, rfl⟩ hv3 (idx_some hx4).2.2 he3 rfl rfl rfl sizeOf57 rfl rfl rfl (fun c0 hc0 => by rw [storeL_all (r := rAllocReach) hc0 rfl]; exact (rAllocReach_mk (x := u1)  : rAllocReach.rp _ _ _ _)) fun w2 im2 hS2 => ?_))))))))))))))
  refine ⟨st0, ?_⟩
  obtain ⟨u5, hx5, hm⟩ := bindS hm
  obtain ⟨b4, of4, cs4, k4, cp4, hv4, hp4, hl4, he4, hr4, hc4⟩ := (hS2.own (i := 1) ⟨rfl, rfl⟩).v.ixq hx5 rfl
  cases rAllocReach_open hr4
  obtain ⟨u6, hx6, hm⟩ := bindS hm
  refine s0 rfl trivial (fun _ => r_ixe hv4 rfl underlying53 sizeOf57 hp4 hl4 he4) rfl (s2 [] rfl trivial rfl (by kernel_rfl) (stO (q := 1) (i := Int.toNat p3) (j := 0) (u := u6) (u' := u2) hS2 ⟨rfl, rfl⟩ hv4 (idx_some hx6).2.2 he4 rfl rfl rfl sizeOf57 rfl rfl rfl (fun c0 hc0 => by rw [storeL_all (r := rAllocReach) hc0 rfl]; exact (rAllocReach_mk (x := u2)  : rAllocReach.rp _ _ _ _)) fun w3 im3 hS3 => ?_))
  refine ⟨st0, ?_⟩
  refine se (t_then ?_)
  refine sq2 (rg (pv (r_mi rfl) (pv (r_ib rfl rfl rfl) (pv (r_mi rfl) (pv (r_ib rfl rfl rfl) (pv (r_zi rfl) (pv (r_zi rfl) (nil (t_then ?_)))))))))
  obtain ⟨kk1, hkk1, hm⟩ := jn_open hm
  refine cut (fun a w4 => ∃ (J : JV) (T1 : TP) (x1 : Int), a = env (nf 178) J [(0, .slice a1 n1 c1), (1, iv p1), (4, .func (.func 16) #[] #[]), (12, iv x1), (13, iv (IntKind.wrap .i64 (p2 - 1)))] ∧ Im T0 w3 T1 w4 ∧ Sep g T1 w4 [R, ownA rAllocReach 57 (.slice a1 n1 c1) (List.set (List.set p0 (Int.toNat p1) u1) (Int.toNat p3) u2)] ∧ kk1 x1 = some r) ?_ ?_
  · obtain ⟨o1, ho1, hq1⟩ := bindS hm
    obtain ⟨bd1, hbd1, ho1⟩ := loop_open ho1
    refine blk (wp_loop_ghost (fun m a w5 => ∃ (J : JV) (T2 : TP) (x2 : Int), a = env (nf 178) J [(0, .slice a1 n1 c1), (1, iv p1), (4, .func (.func 16) #[] #[]), (12, iv x2), (13, iv (IntKind.wrap .i64 (p2 - 1)))] ∧ Im T0 w3 T2 w5 ∧ Sep g T2 w5 [R, ownA rAllocReach 57 (.slice a1 n1 c1) (List.set (List.set p0 (Int.toNat p1) u1) (Int.toNat p3) u2)] ∧ loopM bd1 m x2 = some o1) NN ⟨_, _, (IntKind.wrap .i64 (p1 + 1)), env_has ⟨rfl, rfl, rfl, rfl, rfl, trivial⟩, Im.refl, hS3.sel [0, 1] rfl, ho1⟩ ?_)
    rintro m _ w5 ⟨J, T2, x2, rfl, im5, hS4, ho1⟩
    obtain ⟨m1, z1, rfl, hm, hn1⟩ := loop_round ho1
    rw [hbd1] at hm
    refine sq2 (sq2 (rs [0, 0, 0, 0, 0, 0, 0, 0, 1, 0, 0, 0, 1, 2, 0, 0] [0, 1, 2, 3, 4, 5, 6, 7, 8, 9, 10, 11, 12, 13, 14, 15] mix (by kernel_rfl) hS4.lt fun w6 i2 => ?_))
    have im6 := i2.imm
    have hS5 := hS4.keep i2 (fun _ h => h)
    refine s0 rfl trivial (fun _ => r_mi rfl) rfl (s0 rfl trivial (fun _ => r_mi rfl) rfl (s0 rfl trivial (fun _ => r_ib rfl rfl rfl) rfl (s0 rfl trivial (fun _ => r_mb rfl) rfl (?_))))
    rcases Bool.eq_false_or_eq_true (decide (x2 ≤ (IntKind.wrap .i64 (p2 - 1)))) with hb1 | hb1
    · have hm := ctrue hb1 hm
      obtain ⟨u7, hx7, hm⟩ := bindS hm
      obtain ⟨b5, of5, cs5, k5, cp5, hv5, hp5, hl5, he5, hr5, hc5⟩ := (hS5.own (i := 1) ⟨rfl, rfl⟩).v.ixq hx7 rfl
      cases rAllocReach_open hr5
      obtain ⟨u8, hx8, hm⟩ := bindS hm
      obtain ⟨b6, of6, cs6, k6, cp6, hv6, hp6, hl6, he6, hr6, hc6⟩ := (hS5.own (i := 1) ⟨rfl, rfl⟩).v.ixq hx8 rfl
      cases rAllocReach_open hr6
      obtain ⟨y1, hx9, hm⟩ := bindS hm
      refine s0 rfl ⟨_, rfl, congrArg Value.bool hb1⟩ (fun _ => r_mf rfl) rfl (s0 rfl ⟨_, rfl, congrArg Value.bool hb1⟩ (fun _ => r_ms rfl) rfl (s0 rfl ⟨_, rfl, congrArg Value.bool hb1⟩ (fun _ => r_mi rfl) rfl (s0 rfl ⟨_, rfl, congrArg Value.bool hb1⟩ (fun _ => r_ixe hv5 rfl underlying53 sizeOf57 hp5 hl5 he5) rfl (s1 rfl ⟨_, rfl, congrArg Value.bool hb1⟩ (r_ldS rfl isAgg57 sizeOf57 rfl hc5 (cs := (cAllocReach u7))) rfl (s0 rfl ⟨_, rfl, congrArg Value.bool hb1⟩ (fun _ => r_ms rfl) rfl (s0 rfl ⟨_, rfl, congrArg Value.bool hb1⟩ (fun _ => r_mi rfl) rfl (s0 rfl ⟨_, rfl, congrArg Value.bool hb1⟩ (fun _ => r_ixe hv6 rfl underlying53 sizeOf57 hp6 hl6 he6) rfl (s1 rfl ⟨_, rfl, congrArg Value.bool hb1⟩ (r_ldS rfl isAgg57 sizeOf57 rfl hc6 (cs := (cAllocReach u8))) rfl (s2 [] rfl ⟨_, rfl, congrArg Value.bool hb1⟩ rfl (by kernel_rfl) (calS cf16 rfl (alloc_Assign_2_sim (p0 := u7) (p1 := u8) (hS5.bun [0, 1] [] rfl)  hx9) rfl fun v1 T3 w7 im7 rv1 => ?_))))))))))
      obtain ⟨rfl, hS6, _⟩ := rv1
      have hS6 := hS6.unb
      refine ⟨st0, ?_⟩
      refine s0 rfl ⟨_, rfl, congrArg Value.bool hb1⟩ (fun _ => r_ib rfl rfl rfl) rfl (s0 rfl trivial (fun _ => r_pkt rfl hb1 rfl) rfl (se (t_then ?_)))
      refine cnd rfl (fun hb2 => ?_) (fun hb2 => ?_)
      · have hm := ctrue hb2 hm
        refine skp (t_then ?_)
        refine blk ?_
        have hm := oI hm; subst hm
        exact rg (pv (r_mi rfl) (pv (r_ib rfl rfl rfl) (pv (r_zi rfl) (nil (t_blk (t_then ⟨m1, Nat.lt_succ_self _, _, _, (IntKind.wrap .i64 (x2 + 1)), env_has ⟨rfl, rfl, rfl, rfl, rfl, trivial⟩, (iT im5 (iT im6 im7)), hS6.sel [0, 1] rfl, hn1⟩))))))
      have hm := cfalse hb2 hm
      have hm := oI hm; subst hm
      have hn1 : _ = Lp.brk _ := hn1
      subst hn1
      have hm := thn_brk hq1
      exact xt (x_then (x_then (x_eq (t_then ⟨_, _, x2, env_has ⟨rfl, rfl, rfl, rfl, rfl, trivial⟩, (iT im5 (iT im6 im7)), hS6.sel [0, 1] rfl, hm⟩))))
    have hm := cfalse hb1 hm
    refine sU rfl (gI rfl rfl hb1) (sU rfl (gI rfl rfl hb1) (sU rfl (gI rfl rfl hb1) (sU rfl (gI rfl rfl hb1) (sU rfl (gI rfl rfl hb1) (sU rfl (gI rfl rfl hb1) (sU rfl (gI rfl rfl hb1) (sU rfl (gI rfl rfl hb1) (sU rfl (gI rfl rfl hb1) (sU rfl (gI rfl rfl hb1) (sU rfl (gI rfl rfl hb1) (s0 rfl trivial (fun _ => r_pkf rfl hb1 rfl) rfl (se (t_then ?_)))))))))))))
    refine cnd (b := false) rfl (fun h => nomatch h) (fun _ => ?_)
    have hm := oI hm; subst hm
    have hn1 : _ = Lp.brk _ := hn1
    subst hn1
    have hm := thn_brk hq1
    exact xt (x_then (x_then (x_eq (t_then ⟨_, _, x2, env_has ⟨rfl, rfl, rfl, rfl, rfl, trivial⟩, (iT im5 im6), hS5.sel [0, 1] rfl, hm⟩))))
  rintro _ w4 ⟨J, T1, x1, rfl, im4, hS7, hm⟩
  rw [hkk1] at hm
  obtain ⟨kk2, hkk2, hm⟩ := jn_open hm
  refine cut (fun a w8 => ∃ (J : JV) (T4 : TP) (x3 : Int), a = env (nf 178) J [(0, .slice a1 n1 c1), (1, iv p1), (4, .func (.func 16) #[] #[]), (12, iv x1), (13, iv x3)] ∧ Im T1 w4 T4 w8 ∧ Sep g T4 w8 [R, ownA rAllocReach 57 (.slice a1 n1 c1) (List.set (List.set p0 (Int.toNat p1) u1) (Int.toNat p3) u2)] ∧ kk2 x3 = some r) ?_ ?_
  · obtain ⟨o1, ho1, hq1⟩ := bindS hm
    obtain ⟨bd1, hbd1, ho1⟩ := loop_open ho1
    refine blk (wp_loop_ghost (fun m a w9 => ∃ (J : JV) (T5 : TP) (x4 : Int), a = env (nf 178) J [(0, .slice a1 n1 c1), (1, iv p1), (4, .func (.func 16) #[] #[]), (12, iv x1), (13, iv x4)] ∧ Im T1 w4 T5 w9 ∧ Sep g T5 w9 [R, ownA rAllocReach 57 (.slice a1 n1 c1) (List.set (List.set p0 (Int.toNat p1) u1) (Int.toNat p3) u2)] ∧ loopM bd1 m x4 = some o1) NN ⟨_, _, (IntKind.wrap .i64 (p2 - 1)), env_has ⟨rfl, rfl, rfl, rfl, rfl, trivial⟩, Im.refl, hS7.sel [0, 1] rfl, ho1⟩ ?_)
    rintro m _ w9 ⟨J, T5, x4, rfl, im9, hS8, ho1⟩
    obtain ⟨m1, z1, rfl, hm, hn1⟩ := loop_round ho1
    rw [hbd1] at hm
    refine sq2 (sq2 (rs [0, 0, 0, 0, 0, 0, 0, 0, 1, 0, 0, 0, 1, 2, 0, 0, 0] [0, 1, 2, 3, 4, 5, 6, 7, 8, 9, 10, 11, 12, 13, 14, 15, 16] mix (by kernel_rfl) hS8.lt fun w10 i3 => ?_))
    have im10 := i3.imm
    have hS9 := hS8.keep i3 (fun _ h => h)
    refine s0 rfl trivial (fun _ => r_mi rfl) rfl (s0 rfl trivial (fun _ => r_mi rfl) rfl (s0 rfl trivial (fun _ => r_ib rfl rfl rfl) rfl (s0 rfl trivial (fun _ => r_mb rfl) rfl (?_))))
    rcases Bool.eq_false_or_eq_true (decide (x1 ≤ x4)) with hb4 | hb4
    · have hm := ctrue hb4 hm
      obtain ⟨u9, hx10, hm⟩ := bindS hm
      obtain ⟨b7, of7, cs7, k7, cp7, hv7, hp7, hl7, he7, hr7, hc7⟩ := (hS9.own (i := 1) ⟨rfl, rfl⟩).v.ixq hx10 rfl
      cases rAllocReach_open hr7
      obtain ⟨u10, hx11, hm⟩ := bindS hm
      obtain ⟨b8, of8, cs8, k8, cp8, hv8, hp8, hl8, he8, hr8, hc8⟩ := (hS9.own (i := 1) ⟨rfl, rfl⟩).v.ixq hx11 rfl
      cases rAllocReach_open hr8
      obtain ⟨y2, hx12, hm⟩ := bindS hm
      refine s0 rfl ⟨_, rfl, congrArg Value.bool hb4⟩ (fun _ => r_mf rfl) rfl (s0 rfl ⟨_, rfl, congrArg Value.bool hb4⟩ (fun _ => r_ms rfl) rfl (s0 rfl ⟨_, rfl, congrArg Value.bool hb4⟩ (fun _ => r_mi rfl) rfl (s0 rfl ⟨_, rfl, congrArg Value.bool hb4⟩ (fun _ => r_ixe hv7 rfl underlying53 sizeOf57 hp7 hl7 he7) rfl (s1 rfl ⟨_, rfl, congrArg Value.bool hb4⟩ (r_ldS rfl isAgg57 sizeOf57 rfl hc7 (cs := (cAllocReach u9))) rfl (s0 rfl ⟨_, rfl, congrArg Value.bool hb4⟩ (fun _ => r_ms rfl) rfl (s0 rfl ⟨_, rfl, congrArg Value.bool hb4⟩ (fun _ => r_mi rfl) rfl (s0 rfl ⟨_, rfl, congrArg Value.bool hb4⟩ (fun _ => r_ixe hv8 rfl underlying53 sizeOf57 hp8 hl8 he8) rfl (s1 rfl ⟨_, rfl, congrArg Value.bool hb4⟩ (r_ldS rfl isAgg57 sizeOf57 rfl hc8 (cs := (cAllocReach u10))) rfl (s2 [] rfl ⟨_, rfl, congrArg Value.bool hb4⟩ rfl (by kernel_rfl) (calS cf16 rfl (alloc_Assign_2_sim (p0 := u9) (p1 := u10) (hS9.bun [0, 1] [] rfl)  hx12) rfl fun v2 T6 w11 im11 rv2 => ?_))))))))))
      obtain ⟨rfl, hS10, _⟩ := rv2
      have hS10 := hS10.unb
      refine ⟨st0, ?_⟩
      refine s0 rfl ⟨_, rfl, congrArg Value.bool hb4⟩ (fun _ => r_ib rfl rfl rfl) rfl (s0 rfl ⟨_, rfl, congrArg Value.bool hb4⟩ (fun _ => r_nt rfl) rfl (s0 rfl trivial (fun _ => r_pkt rfl hb4 rfl) rfl (se (t_then ?_))))
      refine cnd rfl (fun hb5 => ?_) (fun hb5 => ?_)
      · have hm := ctrue hb5 hm
        refine skp (t_then ?_)
        refine blk ?_
        have hm := oI hm; subst hm
        exact rg (pv (r_mi rfl) (pv (r_ib rfl rfl rfl) (pv (r_zi rfl) (nil (t_blk (t_then ⟨m1, Nat.lt_succ_self _, _, _, (IntKind.wrap .i64 (x4 - 1)), env_has ⟨rfl, rfl, rfl, rfl, rfl, trivial⟩, (iT im9 (iT im10 im11)), hS10.sel [0, 1] rfl, hn1⟩))))))
      have hm := cfalse hb5 hm
      have hm := oI hm; subst hm
      have hn1 : _ = Lp.brk _ := hn1
      subst hn1
      have hm := thn_brk hq1
      exact xt (x_then (x_then (x_eq (t_then ⟨_, _, x4, env_has ⟨rfl, rfl, rfl, rfl, rfl, trivial⟩, (iT im9 (iT im10 im11)), hS10.sel [0, 1] rfl, hm⟩))))
    have hm := cfalse hb4 hm
    refine sU rfl (gI rfl rfl hb4) (sU rfl (gI rfl rfl hb4) (sU rfl (gI rfl rfl hb4) (sU rfl (gI rfl rfl hb4) (sU rfl (gI rfl rfl hb4) (sU rfl (gI rfl rfl hb4) (sU rfl (gI rfl rfl hb4) (sU rfl (gI rfl rfl hb4) (sU rfl (gI rfl rfl hb4) (sU rfl (gI rfl rfl hb4) (sU rfl (gI rfl rfl hb4) (sU rfl (gI rfl rfl hb4) (s0 rfl trivial (fun _ => r_pkf rfl hb4 rfl) rfl (se (t_then ?_))))))))))))))
    refine cnd (b := false) rfl (fun h => nomatch h) (fun _ => ?_)
    have hm := oI hm; subst hm
    have hn1 : _ = Lp.brk _ := hn1
    subst hn1
    have hm := thn_brk hq1
    exact xt (x_then (x_then (x_eq (t_then ⟨_, _, x4, env_has ⟨rfl, rfl, rfl, rfl, rfl, trivial⟩, (iT im9 im10), hS9.sel [0, 1] rfl, hm⟩))))
  rintro _ w8 ⟨J, T4, x3, rfl, im8, hS11, hm⟩
  rw [hkk2] at hm
  refine sq2 (sq2 (rg (pv (r_mi rfl) (pv (r_mi rfl) (pv (r_ib rfl rfl rfl) (nil (t_then ?_)))))))
  refine cnd rfl (fun hb7 => ?_) (fun hb7 => ?_)
  · have hm := ctrue hb7 hm
    refine sq2 (rs [0, 0, 0, 0, 0, 0, 0, 1, 0, 0, 0, 1, 0, 2, 0, 2] [0, 1, 2, 3, 4, 5, 6, 7, 8, 9, 10, 11, 12, 13, 14, 15] mix (by kernel_rfl) hS11.lt fun w12 i4 => ?_)
    have im12 := i4.imm
    have hS12 := hS11.keep i4 (fun _ h => h)
    obtain ⟨u11, hx13, hm⟩ := bindS hm
    obtain ⟨b9, of9, cs9, k9, cp9, hv9, hp9, hl9, he9, hr9, hc9⟩ := (hS12.own (i := 1) ⟨rfl, rfl⟩).v.ixq hx13 rfl
    cases rAllocReach_open hr9
    obtain ⟨u12, hx14, hm⟩ := bindS hm
    obtain ⟨b10, of10, cs10, k10, cp10, hv10, hp10, hl10, he10, hr10, hc10⟩ := (hS12.own (i := 1) ⟨rfl, rfl⟩).v.ixq hx14 rfl
    cases rAllocReach_open hr10
    obtain ⟨u13, hx15, hm⟩ := bindS hm
    obtain ⟨b11, of11, cs11, k11, cp11, hv11, hp11, hl11, he11, hr11, hc11⟩ := (hS12.own (i := 1) ⟨rfl, rfl⟩).v.ixq hx15 rfl
    cases rAllocReach_open hr11
    obtain ⟨u14, hx16, hm⟩ := bindS hm
    refine s0 rfl trivial (fun _ => r_ms rfl) rfl (s0 rfl trivial (fun _ => r_mi rfl) rfl (s0 rfl trivial (fun _ => r_ms rfl) rfl (s0 rfl trivial (fun _ => r_mi rfl) rfl (s0 rfl trivial (fun _ => r_ms rfl) rfl (s0 rfl trivial (fun _ => r_mi rfl) rfl (s0 rfl trivial (fun _ => r_ixe hv9 rfl underlying53 sizeOf57 hp9 hl9 he9) rfl (s1 rfl trivial (r_ldS rfl isAgg57 sizeOf57 rfl hc9 (cs := (cAllocReach u11))) rfl (s0 rfl trivial (fun _ => r_ms rfl) rfl (s0 rfl trivial (fun _ => r_mi rfl) rfl (s0 rfl trivial (fun _ => r_ixe hv10 rfl underlying53 sizeOf57 hp10 hl10 he10) rfl (s1 rfl trivial (r_ldS rfl isAgg57 sizeOf57 rfl hc10 (cs := (cAllocReach u12))) rfl (s0 rfl trivial (fun _ => r_ixe hv11 rfl underlying53 sizeOf57 hp11 hl11 he11) rfl (s2 [] rfl trivial rfl (by kernel_rfl) (stO (q := 1) (i := Int.toNat x3) (j := 0) (u := u14) (u' := u11) hS12 ⟨rfl, rfl⟩ hv11 (idx_some hx16).2.2 he11 rfl rfl rfl sizeOf57 rfl rfl rfl (fun c0 hc0 => by rw [storeL_all (r := rAllocReach) hc0 rfl]; exact (rAllocReach_mk (x := u11)  : rAllocReach.rp _ _ _ _)) fun w13 im13 hS13 => ?_))))))))))))))
    refine ⟨st0, ?_⟩
    obtain ⟨u15, hx17, hm⟩ := bindS hm
    obtain ⟨b12, of12, cs12, k12, cp12, hv12, hp12, hl12, he12, hr12, hc12⟩ := (hS13.own (i := 1) ⟨rfl, rfl⟩).v.ixq hx17 rfl
    cases rAllocReach_open hr12
    obtain ⟨u16, hx18, hm⟩ := bindS hm
    refine s0 rfl trivial (fun _ => r_ixe hv12 rfl underlying53 sizeOf57 hp12 hl12 he12) rfl (s2 [] rfl trivial rfl (by kernel_rfl) (stO (q := 1) (i := Int.toNat p1) (j := 0) (u := u16) (u' := u12) hS13 ⟨rfl, rfl⟩ hv12 (idx_some hx18).2.2 he12 rfl rfl rfl sizeOf57 rfl rfl rfl (fun c0 hc0 => by rw [storeL_all (r := rAllocReach) hc0 rfl]; exact (rAllocReach_mk (x := u12)  : rAllocReach.rp _ _ _ _)) fun w14 im14 hS14 => ?_))
    refine ⟨st0, ?_⟩
    refine se (t_then ?_)
    refine sq2 (rg (pv (r_mi rfl) (pv (r_zi rfl) (pv (r_zb rfl) (nil (t_then ?_))))))
    have hm := oI hm; subst hm
    exact rtn (r_then (retN (vs := [iv x3, .bool true]) rfl ⟨rfl, rfl, trivial⟩ rfl ⟨_, rfl, _, (iT im1 (iT im2 (iT im3 (iT im4 (iT im8 (iT im12 (iT im13 im14))))))), ⟨rfl, hS14.sel [0, 1] rfl, trivial⟩⟩))
  have hm := cfalse hb7 hm
  refine skp (t_then ?_)
  refine sq2 (rs [0, 0, 0, 0, 0, 0, 0, 1, 0, 0, 0, 1, 0, 2, 0, 2] [0, 1, 2, 3, 4, 5, 6, 7, 8, 9, 10, 11, 12, 13, 14, 15] mix (by kernel_rfl) hS11.lt fun w15 i5 => ?_)
  have im15 := i5.imm
  have hS15 := hS11.keep i5 (fun _ h => h)
  obtain ⟨u17, hx19, hm⟩ := bindS hm
  obtain ⟨b13, of13, cs13, k13, cp13, hv13, hp13, hl13, he13, hr13, hc13⟩ := (hS15.own (i := 1) ⟨rfl, rfl⟩).v.ixq hx19 rfl
  cases rAllocReach_open hr13
  obtain ⟨u18, hx20, hm⟩ := bindS hm
  obtain ⟨b14, of14, cs14, k14, cp14, hv14, hp14, hl14, he14, hr14, hc14⟩ := (hS15.own (i := 1) ⟨rfl, rfl⟩).v.ixq hx20 rfl
  cases rAllocReach_open hr14
  obtain ⟨u19, hx21, hm⟩ := bindS hm
  obtain ⟨b15, of15, cs15, k15, cp15, hv15, hp15, hl15, he15, hr15, hc15⟩ := (hS15.own (i := 1) ⟨rfl, rfl⟩).v.ixq hx21 rfl
  cases rAllocReach_open hr15
  obtain ⟨u20, hx22, hm⟩ := bindS hm
  refine s0 rfl trivial (fun _ => r_ms rfl) rfl (s0 rfl trivial (fun _ => r_mi rfl) rfl (s0 rfl trivial (fun _ => r_ms rfl) rfl (s0 rfl trivial (fun _ => r_mi rfl) rfl (s0 rfl trivial (fun _ => r_ms rfl) rfl (s0 rfl trivial (fun _ => r_mi rfl) rfl (s0 rfl trivial (fun _ => r_ixe hv13 rfl underlying53 sizeOf57 hp13 hl13 he13) rfl (s1 rfl trivial (r_ldS rfl isAgg57 sizeOf57 rfl hc13 (cs := (cAllocReach u17))) rfl (s0 rfl trivial (fun _ => r_ms rfl) rfl (s0 rfl trivial (fun _ => r_mi rfl) rfl (s0 rfl trivial (fun _ => r_ixe hv14 rfl underlying53 sizeOf57 hp14 hl14 he14) rfl (s1 rfl trivial (r_ldS rfl isAgg57 sizeOf57 rfl hc14 (cs := (cAllocReach u18))) rfl (s0 rfl trivial (fun _ => r_ixe hv15 rfl underlying53 sizeOf57 hp15 hl15 he15) rfl (s2 [] rfl trivial rfl (by kernel_rfl) (stO (q := 1) (i := Int.toNat x1) (j := 0) (u := u20) (u' := u17) hS15 ⟨rfl, rfl⟩ hv15 (idx_some hx22).2.2 he15 rfl rfl rfl sizeOf57 rfl rfl rfl (fun c0 hc0 => by rw [storeL_all (r := rAllocReach) hc0 rfl]; exact (rAllocReach_mk (x := u17)  : rAllocReach.rp _ _ _ _)) fun w16 im16 hS16 => ?_))))))))))))))
  refine ⟨st0, ?_⟩
  obtain ⟨u21, hx23, hm⟩ := bindS hm
  obtain ⟨b16, of16, cs16, k16, cp16, hv16, hp16, hl16, he16, hr16, hc16⟩ := (hS16.own (i := 1) ⟨rfl, rfl⟩).v.ixq hx23 rfl
  cases rAllocReach_open hr16
  obtain ⟨u22, hx24, hm⟩ := bindS hm
  refine s0 rfl trivial (fun _ => r_ixe hv16 rfl underlying53 sizeOf57 hp16 hl16 he16) rfl (s2 [] rfl trivial rfl (by kernel_rfl) (stO (q := 1) (i := Int.toNat x3) (j := 0) (u := u22) (u' := u18) hS16 ⟨rfl, rfl⟩ hv16 (idx_some hx24).2.2 he16 rfl rfl rfl sizeOf57 rfl rfl rfl (fun c0 hc0 => by rw [storeL_all (r := rAllocReach) hc0 rfl]; exact (rAllocReach_mk (x := u18)  : rAllocReach.rp _ _ _ _)) fun w17 im17 hS17 => ?_))
  refine ⟨st0, ?_⟩
  refine se (t_then ?_)
  refine sq2 (rg (pv (r_mi rfl) (pv (r_ib rfl rfl rfl) (pv (r_zi rfl) (nil (t_then ?_))))))
  refine sq2 (rg (pv (r_mi rfl) (pv (r_ib rfl rfl rfl) (pv (r_zi rfl) (nil (t_then ?_))))))
  obtain ⟨kk3, hkk3, hm⟩ := jn_open hm
  refine cut (fun a w18 => ∃ (J : JV) (T7 : TP) (x5 : List AllocReach) (x6 : Int), a = env (nf 178) J [(0, .slice a1 n1 c1), (1, iv p1), (13, iv x6)] ∧ Im T4 w17 T7 w18 ∧ Sep g T7 w18 [R, ownA rAllocReach 57 (.slice a1 n1 c1) x5] ∧ kk3 x5 x6 = some r) ?_ ?_
  · obtain ⟨o1, ho1, hq1⟩ := bindS hm
    obtain ⟨bd1, hbd1, ho1⟩ := loop_open ho1
    refine blk (wp_loop_ghost (fun m a w19 => ∃ (J : JV) (T8 : TP) (x7 : List AllocReach) (x8 : Int) (x9 : Int), a = env (nf 178) J [(0, .slice a1 n1 c1), (1, iv p1), (4, .func (.func 16) #[] #[]), (12, iv x8), (13, iv x9)] ∧ Im T4 w17 T8 w19 ∧ Sep g T8 w19 [R, ownA rAllocReach 57 (.slice a1 n1 c1) x7] ∧ loopM bd1 m (x7, x8, x9) = some o1) NN ⟨_, _, (List.set (List.set (List.set (List.set p0 (Int.toNat p1) u1) (Int.toNat p3) u2) (Int.toNat x1) u17) (Int.toNat x3) u18), (IntKind.wrap .i64 (x1 + 1)), (IntKind.wrap .i64 (x3 - 1)), env_has ⟨rfl, rfl, rfl, rfl, rfl, trivial⟩, Im.refl, hS17.sel [0, 1] rfl, ho1⟩ ?_)
    rintro m _ w19 ⟨J, T8, x7, x8, x9, rfl, im19, hS18, ho1⟩
    obtain ⟨m1, z1, rfl, hm, hn1⟩ := loop_round ho1
    rw [hbd1] at hm
    refine blk ?_
    obtain ⟨kk4, hkk4, hm⟩ := jn_open hm
    refine cut (fun a w20 => ∃ (J : JV) (T9 : TP) (x10 : Int), a = env (nf 178) J [(0, .slice a1 n1 c1), (1, iv p1), (4, .func (.func 16) #[] #[]), (12, iv x10), (13, iv x9)] ∧ Im T8 w19 T9 w20 ∧ Sep g T9 w20 [R, ownA rAllocReach 57 (.slice a1 n1 c1) x7] ∧ kk4 x10 = some z1) ?_ ?_
    · obtain ⟨o2, ho2, hq2⟩ := bindS hm
      obtain ⟨bd2, hbd2, ho2⟩ := loop_open ho2
      refine blk (wp_loop_ghost (fun m a w21 => ∃ (J : JV) (T10 : TP) (x11 : Int), a = env (nf 178) J [(0, .slice a1 n1 c1), (1, iv p1), (4, .func (.func 16) #[] #[]), (12, iv x11), (13, iv x9)] ∧ Im T8 w19 T10 w21 ∧ Sep g T10 w21 [R, ownA rAllocReach 57 (.slice a1 n1 c1) x7] ∧ loopM bd2 m x11 = some o2) NN ⟨_, _, x8, env_has ⟨rfl, rfl, rfl, rfl, rfl, trivial⟩, Im.refl, hS18.sel [0, 1] rfl, ho2⟩ ?_)
      rintro m _ w21 ⟨J, T10, x11, rfl, im21, hS19, ho2⟩
      obtain ⟨m2, z2, rfl, hm, hn2⟩ := loop_round ho2
      rw [hbd2] at hm
      refine sq2 (sq2 (rs [0, 0, 0, 0, 0, 0, 0, 0, 1, 0, 0, 0, 1, 2, 0, 0] [0, 1, 2, 3, 4, 5, 6, 7, 8, 9, 10, 11, 12, 13, 14, 15] mix (by kernel_rfl) hS19.lt fun w22 i6 => ?_))
      have im22 := i6.imm
      have hS20 := hS19.keep i6 (fun _ h => h)
      refine s0 rfl trivial (fun _ => r_mi rfl) rfl (s0 rfl trivial (fun _ => r_mi rfl) rfl (s0 rfl trivial (fun _ => r_ib rfl rfl rfl) rfl (s0 rfl trivial (fun _ => r_mb rfl) rfl (?_))))
      rcases Bool.eq_false_or_eq_true (decide (x11 ≤ x9)) with hb8 | hb8
      · have hm := ctrue hb8 hm
        obtain ⟨u23, hx25, hm⟩ := bindS hm
        obtain ⟨b17, of17, cs17, k17, cp17, hv17, hp17, hl17, he17, hr17, hc17⟩ := (hS20.own (i := 1) ⟨rfl, rfl⟩).v.ixq hx25 rfl
        cases rAllocReach_open hr17
        obtain ⟨u24, hx26, hm⟩ := bindS hm
        obtain ⟨b18, of18, cs18, k18, cp18, hv18, hp18, hl18, he18, hr18, hc18⟩ := (hS20.own (i := 1) ⟨rfl, rfl⟩).v.ixq hx26 rfl
        cases rAllocReach_open hr18
        obtain ⟨y3, hx27, hm⟩ := bindS hm
        refine s0 rfl ⟨_, rfl, congrArg Value.bool hb8⟩ (fun _ => r_mf rfl) rfl (s0 rfl ⟨_, rfl, congrArg Value.bool hb8⟩ (fun _ => r_ms rfl) rfl (s0 rfl ⟨_, rfl, congrArg Value.bool hb8⟩ (fun _ => r_mi rfl) rfl (s0 rfl ⟨_, rfl, congrArg Value.bool hb8⟩ (fun _ => r_ixe hv17 rfl underlying53 sizeOf57 hp17 hl17 he17) rfl (s1 rfl ⟨_, rfl, congrArg Value.bool hb8⟩ (r_ldS rfl isAgg57 sizeOf57 rfl hc17 (cs := (cAllocReach u23))) rfl (s0 rfl ⟨_, rfl, congrArg Value.bool hb8⟩ (fun _ => r_ms rfl) rfl (s0 rfl ⟨_, rfl, congrArg Value.bool hb8⟩ (fun _ => r_mi rfl) rfl (s0 rfl ⟨_, rfl, congrArg Value.bool hb8⟩ (fun _ => r_ixe hv18 rfl underlying53 sizeOf57 hp18 hl18 he18) rfl (s1 rfl ⟨_, rfl, congrArg Value.bool hb8⟩ (r_ldS rfl isAgg57 sizeOf57 rfl hc18 (cs := (cAllocReach u24))) rfl (s2 [] rfl ⟨_, rfl, congrArg Value.bool hb8⟩ rfl (by kernel_rfl) (calS cf16 rfl (alloc_Assign_2_sim (p0 := u23) (p1 := u24) (hS20.bun [0, 1] [] rfl)  hx27) rfl fun v3 T11 w23 im23 rv3 => ?_))))))))))
        obtain ⟨rfl, hS21, _⟩ := rv3
        have hS21 := hS21.unb
        refine ⟨st0, ?_⟩
        refine s0 rfl ⟨_, rfl, congrArg Value.bool hb8⟩ (fun _ => r_ib rfl rfl rfl) rfl (s0 rfl trivial (fun _ => r_pkt rfl hb8 rfl) rfl (se (t_then ?_)))
        refine cnd rfl (fun hb9 => ?_) (fun hb9 => ?_)
        · have hm := ctrue hb9 hm
          refine skp (t_then ?_)
          refine blk ?_
          have hm := oI hm; subst hm
          exact rg (pv (r_mi rfl) (pv (r_ib rfl rfl rfl) (pv (r_zi rfl) (nil (t_blk (t_then ⟨m2, Nat.lt_succ_self _, _, _, (IntKind.wrap .i64 (x11 + 1)), env_has ⟨rfl, rfl, rfl, rfl, rfl, trivial⟩, (iT im21 (iT im22 im23)), hS21.sel [0, 1] rfl, hn2⟩))))))
        have hm := cfalse hb9 hm
        have hm := oI hm; subst hm
        have hn2 : _ = Lp.brk _ := hn2
        subst hn2
        have hm := thn_brk hq2
        exact xt (x_then (x_then (x_eq (t_then ⟨_, _, x11, env_has ⟨rfl, rfl, rfl, rfl, rfl, trivial⟩, (iT im21 (iT im22 im23)), hS21.sel [0, 1] rfl, hm⟩))))
      have hm := cfalse hb8 hm
      refine sU rfl (gI rfl rfl hb8) (sU rfl (gI rfl rfl hb8) (sU rfl (gI rfl rfl hb8) (sU rfl (gI rfl rfl hb8) (sU rfl (gI rfl rfl hb8) (sU rfl (gI rfl rfl hb8) (sU rfl (gI rfl rfl hb8) (sU rfl (gI rfl rfl hb8) (sU rfl (gI rfl rfl hb8) (sU rfl (gI rfl rfl hb8) (sU rfl (gI rfl rfl hb8) (s0 rfl trivial (fun _ => r_pkf rfl hb8 rfl) rfl (se (t_then ?_)))))))))))))
      refine cnd (b := false) rfl (fun h => nomatch h) (fun _ => ?_)
      have hm := oI hm; subst hm
      have hn2 : _ = Lp.brk _ := hn2
      subst hn2
      have hm := thn_brk hq2
      exact xt (x_then (x_then (x_eq (t_then ⟨_, _, x11, env_has ⟨rfl, rfl, rfl, rfl, rfl, trivial⟩, (iT im21 im22), hS20.sel [0, 1] rfl, hm⟩))))
    rintro _ w20 ⟨J, T9, x10, rfl, im20, hS22, hm⟩
    rw [hkk4] at hm
    obtain ⟨kk5, hkk5, hm⟩ := jn_open hm
    refine cut (fun a w24 => ∃ (J : JV) (T12 : TP) (x12 : Int), a = env (nf 178) J [(0, .slice a1 n1 c1), (1, iv p1), (4, .func (.func 16) #[] #[]), (12, iv x10), (13, iv x12)] ∧ Im T9 w20 T12 w24 ∧ Sep g T12 w24 [R, ownA rAllocReach 57 (.slice a1 n1 c1) x7] ∧ kk5 x12 = some z1) ?_ ?_
    · obtain ⟨o2, ho2, hq2⟩ := bindS hm
      obtain ⟨bd2, hbd2, ho2⟩ := loop_open ho2
      refine blk (wp_loop_ghost (fun m a w25 => ∃ (J : JV) (T13 : TP) (x13 : Int), a = env (nf 178) J [(0, .slice a1 n1 c1), (1, iv p1), (4, .func (.func 16) #[] #[]), (12, iv x10), (13, iv x13)] ∧ Im T9 w20 T13 w25 ∧ Sep g T13 w25 [R, ownA rAllocReach 57 (.slice a1 n1 c1) x7] ∧ loopM bd2 m x13 = some o2) NN ⟨_, _, x9, env_has ⟨rfl, rfl, rfl, rfl, rfl, trivial⟩, Im.refl, hS22.sel [0, 1] rfl, ho2⟩ ?_)
      rintro m _ w25 ⟨J, T13, x13, rfl, im25, hS23, ho2⟩
      obtain ⟨m2, z2, rfl, hm, hn2⟩ := loop_round ho2
      rw [hbd2] at hm
      refine sq2 (sq2 (rs [0, 0, 0, 0, 0, 0, 0, 0, 1, 0, 0, 0, 1, 2, 0, 0, 0] [0, 1, 2, 3, 4, 5, 6, 7, 8, 9, 10, 11, 12, 13, 14, 15, 16] mix (by kernel_rfl) hS23.lt fun w26 i7 => ?_))
      have im26 := i7.imm
      have hS24 := hS23.keep i7 (fun _ h => h)
      refine s0 rfl trivial (fun _ => r_mi rfl) rfl (s0 rfl trivial (fun _ => r_mi rfl) rfl (s0 rfl trivial (fun _ => r_ib rfl rfl rfl) rfl (s0 rfl trivial (fun _ => r_mb rfl) rfl (?_))))
      rcases Bool.eq_false_or_eq_true (decide (x10 ≤ x13)) with hb11 | hb11
      · have hm := ctrue hb11 hm
        obtain ⟨u25, hx28, hm⟩ := bindS hm
        obtain ⟨b19, of19, cs19, k19, cp19, hv19, hp19, hl19, he19, hr19, hc19⟩ := (hS24.own (i := 1) ⟨rfl, rfl⟩).v.ixq hx28 rfl
        cases rAllocReach_open hr19
        obtain ⟨u26, hx29, hm⟩ := bindS hm
        obtain ⟨b20, of20, cs20, k20, cp20, hv20, hp20, hl20, he20, hr20, hc20⟩ := (hS24.own (i := 1) ⟨rfl, rfl⟩).v.ixq hx29 rfl
        cases rAllocReach_open hr20
        obtain ⟨y4, hx30, hm⟩ := bindS hm
        refine s0 rfl ⟨_, rfl, congrArg Value.bool hb11⟩ (fun _ => r_mf rfl) rfl (s0 rfl ⟨_, rfl, congrArg Value.bool hb11⟩ (fun _ => r_ms rfl) rfl (s0 rfl ⟨_, rfl, congrArg Value.bool hb11⟩ (fun _ => r_mi rfl) rfl (s0 rfl ⟨_, rfl, congrArg Value.bool hb11⟩ (fun _ => r_ixe hv19 rfl underlying53 sizeOf57 hp19 hl19 he19) rfl (s1 rfl ⟨_, rfl, congrArg Value.bool hb11⟩ (r_ldS rfl isAgg57 sizeOf57 rfl hc19 (cs := (cAllocReach u25))) rfl (s0 rfl ⟨_, rfl, congrArg Value.bool hb11⟩ (fun _ => r_ms rfl) rfl (s0 rfl ⟨_, rfl, congrArg Value.bool hb11⟩ (fun _ => r_mi rfl) rfl (s0 rfl ⟨_, rfl, congrArg Value.bool hb11⟩ (fun _ => r_ixe hv20 rfl underlying53 sizeOf57 hp20 hl20 he20) rfl (s1 rfl ⟨_, rfl, congrArg Value.bool hb11⟩ (r_ldS rfl isAgg57 sizeOf57 rfl hc20 (cs := (cAllocReach u26))) rfl (s2 [] rfl ⟨_, rfl, congrArg Value.bool hb11⟩ rfl (by kernel_rfl) (calS cf16 rfl (alloc_Assign_2_sim (p0 := u25) (p1 := u26) (hS24.bun [0, 1] [] rfl)  hx30) rfl fun v4 T14 w27 im27 rv4 => ?_))))))))))
        obtain ⟨rfl, hS25, _⟩ := rv4
        have hS25 := hS25.unb
        refine ⟨st0, ?_⟩
        refine s0 rfl ⟨_, rfl, congrArg Value.bool hb11⟩ (fun _ => r_ib rfl rfl rfl) rfl (s0 rfl ⟨_, rfl, congrArg Value.bool hb11⟩ (fun _ => r_nt rfl) rfl (s0 rfl trivial (fun _ => r_pkt rfl hb11 rfl) rfl (se (t_then ?_))))
        refine cnd rfl (fun hb12 => ?_) (fun hb12 => ?_)
        · have hm := ctrue hb12 hm
          refine skp (t_then ?_)
          refine blk ?_
          have hm := oI hm; subst hm
          exact rg (pv (r_mi rfl) (pv (r_ib rfl rfl rfl) (pv (r_zi rfl) (nil (t_blk (t_then ⟨m2, Nat.lt_succ_self _, _, _, (IntKind.wrap .i64 (x13 - 1)), env_has ⟨rfl, rfl, rfl, rfl, rfl, trivial⟩, (iT im25 (iT im26 im27)), hS25.sel [0, 1] rfl, hn2⟩))))))
        have hm := cfalse hb12 hm
        have hm := oI hm; subst hm
        have hn2 : _ = Lp.brk _ := hn2
        subst hn2
        have hm := thn_brk hq2
        exact xt (x_then (x_then (x_eq (t_then ⟨_, _, x13, env_has ⟨rfl, rfl, rfl, rfl, rfl, trivial⟩, (iT im25 (iT im26 im27)), hS25.sel [0, 1] rfl, hm⟩))))
      have hm := cfalse hb11 hm
      refine sU rfl (gI rfl rfl hb11) (sU rfl (gI rfl rfl hb11) (sU rfl (gI rfl rfl hb11) (sU rfl (gI rfl rfl hb11) (sU rfl (gI rfl rfl hb11) (sU rfl (gI rfl rfl hb11) (sU rfl (gI rfl rfl hb11) (sU rfl (gI rfl rfl hb11) (sU rfl (gI rfl rfl hb11) (sU rfl (gI rfl rfl hb11) (sU rfl (gI rfl rfl hb11) (sU rfl (gI rfl rfl hb11) (s0 rfl trivial (fun _ => r_pkf rfl hb11 rfl) rfl (se (t_then ?_))))))))))))))
      refine cnd (b := false) rfl (fun h => nomatch h) (fun _ => ?_)
      have hm := oI hm; subst hm
      have hn2 : _ = Lp.brk _ := hn2
      subst hn2
      have hm := thn_brk hq2
      exact xt (x_then (x_then (x_eq (t_then ⟨_, _, x13, env_has ⟨rfl, rfl, rfl, rfl, rfl, trivial⟩, (iT im25 im26), hS24.sel [0, 1] rfl, hm⟩))))
    rintro _ w24 ⟨J, T12, x12, rfl, im24, hS26, hm⟩
    rw [hkk5] at hm
    refine sq2 (sq2 (rg (pv (r_mi rfl) (pv (r_mi rfl) (pv (r_ib rfl rfl rfl) (nil (t_then ?_)))))))
    refine cnd rfl (fun hb14 => ?_) (fun hb14 => ?_)
    · have hm := ctrue hb14 hm
      have hm := oI hm; subst hm
      have hn1 : _ = Lp.brk _ := hn1
      subst hn1
      have hm := thn_brk hq1
      exact xt (x_then (x_ne (by decide) (x_then (x_eq (t_then ⟨_, _, x7, x12, env_has ⟨rfl, rfl, rfl, trivial⟩, (iT im19 (iT im20 im24)), hS26.sel [0, 1] rfl, hm⟩)))))
    have hm := cfalse hb14 hm
    refine skp (t_then ?_)
    refine sq2 (rs [0, 0, 0, 0, 0, 0, 0, 1, 0, 0, 0, 1, 0, 2, 0, 2] [0, 1, 2, 3, 4, 5, 6, 7, 8, 9, 10, 11, 12, 13, 14, 15] mix (by kernel_rfl) hS26.lt fun w28 i8 => ?_)
    have im28 := i8.imm
    have hS27 := hS26.keep i8 (fun _ h => h)
    obtain ⟨u27, hx31, hm⟩ := bindS hm
    obtain ⟨b21, of21, cs21, k21, cp21, hv21, hp21, hl21, he21, hr21, hc21⟩ := (hS27.own (i := 1) ⟨rfl, rfl⟩).v.ixq hx31 rfl
    cases rAllocReach_open hr21
    obtain ⟨u28, hx32, hm⟩ := bindS hm
    obtain ⟨b22, of22, cs22, k22, cp22, hv22, hp22, hl22, he22, hr22, hc22⟩ := (hS27.own (i := 1) ⟨rfl, rfl⟩).v.ixq hx32 rfl
    cases rAllocReach_open hr22
    obtain ⟨u29, hx33, hm⟩ := bindS hm
    obtain ⟨b23, of23, cs23, k23, cp23, hv23, hp23, hl23, he23, hr23, hc23⟩ := (hS27.own (i := 1) ⟨rfl, rfl⟩).v.ixq hx33 rfl
    cases rAllocReach_open hr23
    obtain ⟨u30, hx34, hm⟩ := bindS hm
    refine s0 rfl trivial (fun _ => r_ms rfl) rfl (s0 rfl trivial (fun _ => r_mi rfl) rfl (s0 rfl trivial (fun _ => r_ms rfl) rfl (s0 rfl trivial (fun _ => r_mi rfl) rfl (s0 rfl trivial (fun _ => r_ms rfl) rfl (s0 rfl trivial (fun _ => r_mi rfl) rfl (s0 rfl trivial (fun _ => r_ixe hv21 rfl underlying53 sizeOf57 hp21 hl21 he21) rfl (s1 rfl trivial (r_ldS rfl isAgg57 sizeOf57 rfl hc21 (cs := (cAllocReach u27))) rfl (s0 rfl trivial (fun _ => r_ms rfl) rfl (s0 rfl trivial (fun _ => r_mi rfl) rfl (s0 rfl trivial (fun _ => r_ixe hv22 rfl underlying53 sizeOf57 hp22 hl22 he22) rfl (s1 rfl trivial (r_ldS rfl isAgg57 sizeOf57 rfl hc22 (cs := (cAllocReach u28))) rfl (s0 rfl trivial (fun _ => r_ixe hv23 rfl underlying53 sizeOf57 hp23 hl23 he23) rfl (s2 [] rfl trivial rfl (by kernel_rfl) (stO (q := 1) (i := Int.toNat x10) (j := 0) (u := u30) (u' := u27) hS27 ⟨rfl, rfl⟩ hv23 (idx_some hx34).2.2 he23 rfl rfl rfl sizeOf57 rfl rfl rfl (fun c0 hc0 => by rw [storeL_all (r := rAllocReach) hc0 rfl]; exact (rAllocReach_mk (x := u27)  : rAllocReach.rp _ _ _ _)) fun w29 im29 hS28 => ?_))))))))))))))
    refine ⟨st0, ?_⟩
    obtain ⟨u31, hx35, hm⟩ := bindS hm
    obtain ⟨b24, of24, cs24, k24, cp24, hv24, hp24, hl24, he24, hr24, hc24⟩ := (hS28.own (i := 1) ⟨rfl, rfl⟩).v.ixq hx35 rfl
    cases rAllocReach_open hr24
    obtain ⟨u32, hx36, hm⟩ := bindS hm
    refine s0 rfl trivial (fun _ => r_ixe hv24 rfl underlying53 sizeOf57 hp24 hl24 he24) rfl (s2 [] rfl trivial rfl (by kernel_rfl) (stO (q := 1) (i := Int.toNat x12) (j := 0) (u := u32) (u' := u28) hS28 ⟨rfl, rfl⟩ hv24 (idx_some hx36).2.2 he24 rfl rfl rfl sizeOf57 rfl rfl rfl (fun c0 hc0 => by rw [storeL_all (r := rAllocReach) hc0 rfl]; exact (rAllocReach_mk (x := u28)  : rAllocReach.rp _ _ _ _)) fun w30 im30 hS29 => ?_))
    refine ⟨st0, ?_⟩
    refine se (t_then ?_)
    refine sq2 (rg (pv (r_mi rfl) (pv (r_ib rfl rfl rfl) (pv (r_zi rfl) (nil (t_then ?_))))))
    have hm := oI hm; subst hm
    exact rg (pv (r_mi rfl) (pv (r_ib rfl rfl rfl) (pv (r_zi rfl) (nil (t_blk (t_then ⟨m1, Nat.lt_succ_self _, _, _, (List.set (List.set x7 (Int.toNat x10) u27) (Int.toNat x12) u28), (IntKind.wrap .i64 (x10 + 1)), (IntKind.wrap .i64 (x12 - 1)), env_has ⟨rfl, rfl, rfl, rfl, rfl, trivial⟩, (iT im19 (iT im20 (iT im24 (iT im28 (iT im29 im30))))), hS29.sel [0, 1] rfl, hn1⟩))))))
  rintro _ w18 ⟨J, T7, x5, x6, rfl, im18, hS30, hm⟩
  rw [hkk3] at hm
  refine sq2 (rs [0, 0, 0, 0, 0, 0, 0, 1, 0, 0, 0, 1, 0, 2, 0, 2] [0, 1, 2, 3, 4, 5, 6, 7, 8, 9, 10, 11, 12, 13, 14, 15] mix (by kernel_rfl) hS30.lt fun w31 i9 => ?_)
  have im31 := i9.imm
  have hS31 := hS30.keep i9 (fun _ h => h)
  obtain ⟨u33, hx37, hm⟩ := bindS hm
  obtain ⟨b25, of25, cs25, k25, cp25, hv25, hp25, hl25, he25, hr25, hc25⟩ := (hS31.own (i := 1) ⟨rfl, rfl⟩).v.ixq hx37 rfl
  cases rAllocReach_open hr25
  obtain ⟨u34, hx38, hm⟩ := bindS hm
  obtain ⟨b26, of26, cs26, k26, cp26, hv26, hp26, hl26, he26, hr26, hc26⟩ := (hS31.own (i := 1) ⟨rfl, rfl⟩).v.ixq hx38 rfl
  cases rAllocReach_open hr26
  obtain ⟨u35, hx39, hm⟩ := bindS hm
  obtain ⟨b27, of27, cs27, k27, cp27, hv27, hp27, hl27, he27, hr27, hc27⟩ := (hS31.own (i := 1) ⟨rfl, rfl⟩).v.ixq hx39 rfl
  cases rAllocReach_open hr27
  obtain ⟨u36, hx40, hm⟩ := bindS hm
  refine s0 rfl trivial (fun _ => r_ms rfl) rfl (s0 rfl trivial (fun _ => r_mi rfl) rfl (s0 rfl trivial (fun _ => r_ms rfl) rfl (s0 rfl trivial (fun _ => r_mi rfl) rfl (s0 rfl trivial (fun _ => r_ms rfl) rfl (s0 rfl trivial (fun _ => r_mi rfl) rfl (s0 rfl trivial (fun _ => r_ixe hv25 rfl underlying53 sizeOf57 hp25 hl25 he25) rfl (s1 rfl trivial (r_ldS rfl isAgg57 sizeOf57 rfl hc25 (cs := (cAllocReach u33))) rfl (s0 rfl trivial (fun _ => r_ms rfl) rfl (s0 rfl trivial (fun _ => r_mi rfl) rfl (s0 rfl trivial (fun _ => r_ixe hv26 rfl underlying53 sizeOf57 hp26 hl26 he26) rfl (s1 rfl trivial (r_ldS rfl isAgg57 sizeOf57 rfl hc26 (cs := (cAllocReach u34))) rfl (s0 rfl trivial (fun _ => r_ixe hv27 rfl underlying53 sizeOf57 hp27 hl27 he27) rfl (s2 [] rfl trivial rfl (by kernel_rfl) (stO (q := 1) (i := Int.toNat x6) (j := 0) (u := u36) (u' := u33) hS31 ⟨rfl, rfl⟩ hv27 (idx_some hx40).2.2 he27 rfl rfl rfl sizeOf57 rfl rfl rfl (fun c0 hc0 => by rw [storeL_all (r := rAllocReach) hc0 rfl]; exact (rAllocReach_mk (x := u33)  : rAllocReach.rp _ _ _ _)) fun w32 im32 hS32 => ?_))))))))))))))
  refine ⟨st0, ?_⟩
  obtain ⟨u37, hx41, hm⟩ := bindS hm
  obtain ⟨b28, of28, cs28, k28, cp28, hv28, hp28, hl28, he28, hr28, hc28⟩ := (hS32.own (i := 1) ⟨rfl, rfl⟩).v.ixq hx41 rfl
  cases rAllocReach_open hr28
  obtain ⟨u38, hx42, hm⟩ := bindS hm
  refine s0 rfl trivial (fun _ => r_ixe hv28 rfl underlying53 sizeOf57 hp28 hl28 he28) rfl (s2 [] rfl trivial rfl (by kernel_rfl) (stO (q := 1) (i := Int.toNat p1) (j := 0) (u := u38) (u' := u34) hS32 ⟨rfl, rfl⟩ hv28 (idx_some hx42).2.2 he28 rfl rfl rfl sizeOf57 rfl rfl rfl (fun c0 hc0 => by rw [storeL_all (r := rAllocReach) hc0 rfl]; exact (rAllocReach_mk (x := u34)  : rAllocReach.rp _ _ _ _)) fun w33 im33 hS33 => ?_))
  refine ⟨st0, ?_⟩
  refine se (t_then ?_)
  refine sq2 (rg (pv (r_mi rfl) (pv (r_zi rfl) (pv (r_zb rfl) (nil (t_then ?_))))))
  have hm := oI hm; subst hm
  exact rtn (retN (vs := [iv x6, .bool false]) rfl ⟨rfl, rfl, trivial⟩ rfl ⟨_, rfl, _, (iT im1 (iT im2 (iT im3 (iT im4 (iT im8 (iT im15 (iT im16 (iT im17 (iT im18 (iT im31 (iT im32 im33))))))))))), ⟨rfl, hS33.sel [0, 1] rfl, trivial⟩⟩)

structure Sp1 (G : Rec1) : Prop where
  slices_pdqsortCmpFunc : ∀ {g : World} {T0 : TP} {w0 : World} {R : Assn} {p0 : List AllocReach} {a1 : OA} {n1 : Nat} {c1 : Nat} {p1 : Int} {p2 : Int} {p3 : Int} {r : (List AllocReach)} (hS : Sep g T0 w0 [R, ownA rAllocReach 57 (.slice a1 n1 c1) p0])  (hm : G.slices_pdqsortCmpFunc p0 p1 p2 p3 = some r),
    Calls Tryz.prog 30 #[.slice a1 n1 c1, iv p1, iv p2, iv p3, .func (.func 16) #[] #[]] w0 (RetS T0 w0 fun T w v => v = .tuple #[] ∧ Sep g T w [R, ownA rAllocReach 57 (.slice a1 n1 c1) r] ∧ True)
theorem slices_pdqsortCmpFunc_st {G : Rec1} (hG : Sp1 G) {g : World} {T0 : TP} {w0 : World} {R : Assn} {p0 : List AllocReach} {a1 : OA} {n1 : Nat} {c1 : Nat} {p1 : Int} {p2 : Int} {p3 : Int} {r : (List AllocReach)} (hS : Sep g T0 w0 [R, ownA rAllocReach 57 (.slice a1 n1 c1) p0])  (hm : slices_pdqsortCmpFunc_b G p0 p1 p2 p3 = some r) :
    Calls Tryz.prog 30 #[.slice a1 n1 c1, iv p1, iv p2, iv p3, .func (.func 16) #[] #[]] w0 (RetS T0 w0 fun T w v => v = .tuple #[] ∧ Sep g T w [R, ownA rAllocReach 57 (.slice a1 n1 c1) r] ∧ True) := by
  refine enter (args := [.slice a1 n1 c1, iv p1, iv p2, iv p3, .func (.func 16) #[] #[]]) Tryz.func30 rfl Tryz.ntmps30 rfl fun J => ?_
  unfold slices_pdqsortCmpFunc_b at hm
  refine sq2 (rg (pv (r_zb rfl) (nil (t_then ?_))))
  refine sq2 (rg (pv (r_zb rfl) (nil (t_then ?_))))
  obtain ⟨o1, ho1, hq1⟩ := bindS hm
  obtain ⟨bd1, hbd1, ho1⟩ := loop_open ho1
  refine blk (wp_loop_ghost (fun m a w1 => ∃ (J : JV) (T1 : TP) (x1 : List AllocReach) (x2 : Int) (x3 : Int) (x4 : Int) (x5 : Bool) (x6 : Bool), a = env (nf 148) J [(0, .slice a1 n1 c1), (1, iv x2), (2, iv x3), (3, iv x4), (4, .func (.func 16) #[] #[]), (10, .bool x5), (11, .bool x6)] ∧ Im T0 w0 T1 w1 ∧ Sep g T1 w1 [R, ownA rAllocReach 57 (.slice a1 n1 c1) x1] ∧ loopM bd1 m (x1, x2, x3, x4, x5, x6) = some o1) NN ⟨_, _, p0, p1, p2, p3, true, true, env_has ⟨rfl, rfl, rfl, rfl, rfl, rfl, rfl, trivial⟩, Im.refl, hS.sel [0, 1] rfl, ho1⟩ ?_)
  rintro m _ w1 ⟨J, T1, x1, x2, x3, x4, x5, x6, rfl, im1, hS1, ho1⟩
  obtain ⟨m1, z1, rfl, hm, hn1⟩ := loop_round ho1
  rw [hbd1] at hm
  refine blk (sq2 (rg (pv (r_mi rfl) (pv (r_mi rfl) (pv (r_ib rfl rfl rfl) (pv (r_zi rfl) (nil (t_then ?_))))))))
  refine sq2 (sq2 (rg (pv (r_mi rfl) (pv (r_ib rfl rfl rfl) (nil (t_then ?_))))))
  refine cnd rfl (fun hb1 => ?_) (fun hb1 => ?_)
  · have hm := ctrue hb1 hm
    refine sq2 ?_
    obtain ⟨y1, hx1, hm⟩ := bindS hm
    refine rg (pv (r_ms rfl) (pv (r_mi rfl) (pv (r_mi rfl) (pv (r_mf rfl) (wl rfl (calS cf50 rfl (slices_insertionSortCmpFunc_sim (p0 := x1) (p1 := x2) (p2 := x3) (hS1.bun [0] [1] rfl)  hx1) rfl fun v1 T2 w2 im2 rv1 => ?_))))))
    obtain ⟨rfl, hS2, _⟩ := rv1
    have hS2 := hS2.unb
    refine nil (t_then ?_)
    have hm := oI hm; subst hm
    have hn1 : _ = Lp.ret _ := hn1
    subst hn1
    have hm := thn_ret hq1
    have hm := oI hm; subst hm
    exact rtn (r_then (r_blk (r_then (r_blk (ret0 rfl ⟨_, rfl, _, (iT im1 im2), ⟨rfl, hS2.sel [0, 1] rfl, trivial⟩⟩)))))
  have hm := cfalse hb1 hm
  refine skp (t_then ?_)
  refine sq2 (sq2 (rg (pv (r_mi rfl) (pv (r_ib rfl rfl rfl) (nil (t_then ?_))))))
  refine cnd rfl (fun hb2 => ?_) (fun hb2 => ?_)
  · have hm := ctrue hb2 hm
    refine sq2 ?_
    obtain ⟨y2, hx2, hm⟩ := bindS hm
    refine rg (pv (r_ms rfl) (pv (r_mi rfl) (pv (r_mi rfl) (pv (r_mf rfl) (wl rfl (calS cf51 rfl (slices_heapSortCmpFunc_sim (p0 := x1) (p1 := x2) (p2 := x3) (hS1.bun [0] [1] rfl)  hx2) rfl fun v2 T3 w3 im3 rv2 => ?_))))))
    obtain ⟨rfl, hS3, _⟩ := rv2
    have hS3 := hS3.unb
    refine nil (t_then ?_)
    have hm := oI hm; subst hm
    have hn1 : _ = Lp.ret _ := hn1
    subst hn1
    have hm := thn_ret hq1
    have hm := oI hm; subst hm
    exact rtn (r_then (r_blk (r_then (r_blk (ret0 rfl ⟨_, rfl, _, (iT im1 im3), ⟨rfl, hS3.sel [0, 1] rfl, trivial⟩⟩)))))
  have hm := cfalse hb2 hm
  refine skp (t_then ?_)
  obtain ⟨kk1, hkk1, hm⟩ := jn_open hm
  refine cut (fun a w4 => ∃ (J : JV) (T4 : TP) (x7 : List AllocReach) (x8 : Int), a = env (nf 148) J [(0, .slice a1 n1 c1), (1, iv x2), (2, iv x3), (3, iv x8), (4, .func (.func 16) #[] #[]), (10, .bool x5), (11, .bool x6), (12, iv (IntKind.wrap .i64 (x3 - x2)))] ∧ Im T1 w1 T4 w4 ∧ Sep g T4 w4 [R, ownA rAllocReach 57 (.slice a1 n1 c1) x7] ∧ kk1 x7 x8 = some z1) ?_ ?_
  · refine sq2 (rg (pv (r_mb rfl) (pv (r_nt rfl) (nil (t_then ?_)))))
    refine cnd rfl (fun hb3 => ?_) (fun hb3 => ?_)
    · have hm := ctrue hb3 hm
      refine sq2 ?_
      obtain ⟨y3, hx3, hm⟩ := bindS hm
      refine rg (pv (r_ms rfl) (pv (r_mi rfl) (pv (r_mi rfl) (pv (r_mf rfl) (wl rfl (calS cf52 rfl (slices_breakPatternsCmpFunc_sim (p0 := x1) (p1 := x2) (p2 := x3) (hS1.bun [0] [1] rfl)  hx3) rfl fun v3 T5 w5 im5 rv3 => ?_))))))
      obtain ⟨rfl, hS4, _⟩ := rv3
      have hS4 := hS4.unb
      refine nil (t_then ?_)
      exact rg (pv (r_mi rfl) (pv (r_ib rfl rfl rfl) (pv (r_zi rfl) (nil (t_then ⟨_, _, y3, (IntKind.wrap .i64 (x4 - 1)), env_has ⟨rfl, rfl, rfl, rfl, rfl, rfl, rfl, rfl, trivial⟩, im5, hS4.sel [0, 1] rfl, hm⟩)))))
    have hm := cfalse hb3 hm
    exact skp (t_then ⟨_, _, x1, x4, env_has ⟨rfl, rfl, rfl, rfl, rfl, rfl, rfl, rfl, trivial⟩, Im.refl, hS1.sel [0, 1] rfl, hm⟩)
  rintro _ w4 ⟨J, T4, x7, x8, rfl, im4, hS5, hm⟩
  rw [hkk1] at hm
  refine sq2 ?_
  obtain ⟨y4, hx4, hm⟩ := bindS hm
  refine rg (pv (r_ms rfl) (pv (r_mi rfl) (pv (r_mi rfl) (pv (r_mf rfl) (wl rfl (calS cf53 rfl (slices_choosePivotCmpFunc_sim (p0 := x7) (H_p0 := ownA rAllocReach 57 (.slice a1 n1 c1) x7) (p1 := x2) (p2 := x3) (hS5.bun [0] [1] rfl) vwOwn hx4) rfl fun v4 T6 w6 im6 rv4 => ?_))))))
  obtain ⟨rfl, hS6, _⟩ := rv4
  have hS6 := hS6.unb
  refine pv (r_mv rfl) (pv (r_ex (v := iv y4.1) rfl rfl) (pv (r_ex (v := iv y4.2) rfl rfl) (pv (r_zi rfl) (pv (r_zi rfl) (nil (t_then ?_))))))
  obtain ⟨kk2, hkk2, hm⟩ := jn_open hm
  refine cut (fun a w7 => ∃ (J : JV) (T7 : TP) (x9 : List AllocReach) (x10 : Int) (x11 : Int), a = env (nf 148) J [(0, .slice a1 n1 c1), (1, iv x2), (2, iv x3), (3, iv x8), (4, .func (.func 16) #[] #[]), (10, .bool x5), (11, .bool x6), (12, iv (IntKind.wrap .i64 (x3 - x2))), (13, iv x10), (14, iv x11)] ∧ Im T6 w6 T7 w7 ∧ Sep g T7 w7 [R, ownA rAllocReach 57 (.slice a1 n1 c1) x9] ∧ kk2 x9 x10 x11 = some z1) ?_ ?_
  · refine sq2 (rg (pv (r_mi rfl) (pv (r_ib rfl rfl rfl) (nil (t_then ?_)))))
    refine cnd rfl (fun hb4 => ?_) (fun hb4 => ?_)
    · have hm := ctrue hb4 hm
      refine sq2 ?_
      obtain ⟨y5, hx5, hm⟩ := bindS hm
      refine rg (pv (r_ms rfl) (pv (r_mi rfl) (pv (r_mi rfl) (pv (r_mf rfl) (wl rfl (calS cf54 rfl (slices_reverseRangeCmpFunc_sim (p0 := x7) (p1 := x2) (p2 := x3) (hS6.bun [0] [1] rfl)  hx5) rfl fun v5 T8 w8 im8 rv5 => ?_))))))
      obtain ⟨rfl, hS7, _⟩ := rv5
      have hS7 := hS7.unb
      refine nil (t_then ?_)
      refine sq2 (rg (pv (r_mi rfl) (pv (r_ib rfl rfl rfl) (pv (r_mi rfl) (pv (r_mi rfl) (pv (r_ib rfl rfl rfl) (pv (r_ib rfl rfl rfl) (pv (r_zi rfl) (nil (t_then ?_))))))))))
      exact rg (pv (r_zi rfl) (nil (t_then ⟨_, _, y5, (IntKind.wrap .i64 ((IntKind.wrap .i64 (x3 - 1)) - (IntKind.wrap .i64 (y4.1 - x2)))), 1, env_has ⟨rfl, rfl, rfl, rfl, rfl, rfl, rfl, rfl, rfl, rfl, trivial⟩, im8, hS7.sel [0, 1] rfl, hm⟩)))
    have hm := cfalse hb4 hm
    exact skp (t_then ⟨_, _, x7, y4.1, y4.2, env_has ⟨rfl, rfl, rfl, rfl, rfl, rfl, rfl, rfl, rfl, rfl, trivial⟩, Im.refl, hS6.sel [0, 1] rfl, hm⟩)
  rintro _ w7 ⟨J, T7, x9, x10, x11, rfl, im7, hS8, hm⟩
  rw [hkk2] at hm
  obtain ⟨kk3, hkk3, hm⟩ := jn_open hm
  refine cut (fun a w9 => ∃ (J : JV) (T9 : TP) (x12 : List AllocReach), a = env (nf 148) J [(0, .slice a1 n1 c1), (1, iv x2), (2, iv x3), (3, iv x8), (4, .func (.func 16) #[] #[]), (12, iv (IntKind.wrap .i64 (x3 - x2))), (13, iv x10)] ∧ Im T7 w7 T9 w9 ∧ Sep g T9 w9 [R, ownA rAllocReach 57 (.slice a1 n1 c1) x12] ∧ kk3 x12 = some z1) ?_ ?_
  · refine sq2 (rg (pv (r_mb rfl) (pv (r_mb rfl) (?_))))
    rcases Bool.eq_false_or_eq_true x5 with hb5 | hb5
    · have hm := ctrue hb5 hm
      refine gT (d0 := 69) rfl rfl hb5 (pv (r_mb rfl) (pv (r_pkt rfl hb5 rfl) (pv (r_mb rfl) (?_))))
      rcases Bool.eq_false_or_eq_true x6 with hb6 | hb6
      · have hm := ctrue hb6 hm
        refine gT (d0 := 72) rfl rfl hb6 (pv (r_mi rfl) (gT (d0 := 72) rfl rfl hb6 (pv (r_ib rfl rfl rfl) (pv (r_pkt rfl hb6 rfl) (nil (t_then ?_))))))
        refine cnd rfl (fun hb7 => ?_) (fun hb7 => ?_)
        · have hm := ctrue hb7 hm
          refine sq2 ?_
          obtain ⟨y6, hx6, hm⟩ := bindS hm
          refine rg (pv (r_ms rfl) (pv (r_mi rfl) (pv (r_mi rfl) (pv (r_mf rfl) (wl rfl (calS cf55 rfl (slices_partialInsertionSortCmpFunc_sim (p0 := x9) (p1 := x2) (p2 := x3) (hS8.bun [0] [1] rfl)  hx6) rfl fun v6 T10 w10 im10 rv6 => ?_))))))
          obtain ⟨rfl, hS9, _⟩ := rv6
          have hS9 := hS9.unb
          refine nil (t_then ?_)
          refine cnd rfl (fun hb8 => ?_) (fun hb8 => ?_)
          · have hm := ctrue hb8 hm
            have hm := oI hm; subst hm
            have hn1 : _ = Lp.ret _ := hn1
            subst hn1
            have hm := thn_ret hq1
            have hm := oI hm; subst hm
            exact rtn (r_then (r_blk (r_then (r_blk (ret0 rfl ⟨_, rfl, _, (iT im1 (iT im4 (iT im6 (iT im7 im10)))), ⟨rfl, hS9.sel [0, 1] rfl, trivial⟩⟩)))))
          have hm := cfalse hb8 hm
          exact skp (t_then ⟨_, _, y6.2, env_has ⟨rfl, rfl, rfl, rfl, rfl, rfl, rfl, trivial⟩, im10, hS9.sel [0, 1] rfl, hm⟩)
        have hm := cfalse hb7 hm
        exact skp (t_then ⟨_, _, x9, env_has ⟨rfl, rfl, rfl, rfl, rfl, rfl, rfl, trivial⟩, Im.refl, hS8.sel [0, 1] rfl, hm⟩)
      have hm := cfalse hb6 hm
      refine gF (d0 := 72) rfl rfl (by rw [hb6]; rfl) (gF (d0 := 72) rfl rfl (by rw [hb6]; rfl) (pv (r_pkf rfl hb6 rfl) (nil (t_then ?_))))
      refine cnd (b := false) rfl (fun h => nomatch h) (fun _ => ?_)
      exact skp (t_then ⟨_, _, x9, env_has ⟨rfl, rfl, rfl, rfl, rfl, rfl, rfl, trivial⟩, Im.refl, hS8.sel [0, 1] rfl, hm⟩)
    have hm := cfalse hb5 hm
    refine gF (d0 := 69) rfl rfl (by rw [hb5]; rfl) (pv (r_pkf rfl hb5 rfl) (pv (r_mb rfl) (gF (d0 := 72) rfl rfl rfl (gF (d0 := 72) rfl rfl rfl (pv (r_pkf rfl rfl rfl) (nil (t_then ?_)))))))
    refine cnd (b := false) rfl (fun h => nomatch h) (fun _ => ?_)
    exact skp (t_then ⟨_, _, x9, env_has ⟨rfl, rfl, rfl, rfl, rfl, rfl, rfl, trivial⟩, Im.refl, hS8.sel [0, 1] rfl, hm⟩)
  rintro _ w9 ⟨J, T9, x12, rfl, im9, hS10, hm⟩
  rw [hkk3] at hm
  refine sq2 (sq2 (rs [0, 0, 0, 0, 0, 0, 0, 0, 1, 0, 0, 0, 1, 2, 0, 0, 0] [0, 1, 2, 3, 4, 5, 6, 7, 8, 9, 10, 11, 12, 13, 14, 15, 16] mix (by kernel_rfl) hS10.lt fun w11 i1 => ?_))
  have im11 := i1.imm
  have hS11 := hS10.keep i1 (fun _ h => h)
  refine s0 rfl trivial (fun _ => r_mi rfl) rfl (s0 rfl trivial (fun _ => r_ib rfl rfl rfl) rfl (s0 rfl trivial (fun _ => r_mb rfl) rfl (?_)))
  rcases Bool.eq_false_or_eq_true (decide (0 < x2)) with hb11 | hb11
  · have hm := ctrue hb11 hm
    obtain ⟨u1, hx7, hm⟩ := bindS hm
    obtain ⟨b1, of1, cs1, k1, cp1, hv1, hp1, hl1, he1, hr1, hc1⟩ := (hS11.own (i := 1) ⟨rfl, rfl⟩).v.ixq hx7 rfl
    cases rAllocReach_open hr1
    obtain ⟨u2, hx8, hm⟩ := bindS hm
    obtain ⟨b2, of2, cs2, k2, cp2, hv2, hp2, hl2, he2, hr2, hc2⟩ := (hS11.own (i := 1) ⟨rfl, rfl⟩).v.ixq hx8 rfl
    cases rAllocReach_open hr2
    obtain ⟨y7, hx9, hm⟩ := bindS hm
    refine s0 rfl ⟨_, rfl, congrArg Value.bool hb11⟩ (fun _ => r_mf rfl) rfl (s0 rfl ⟨_, rfl, congrArg Value.bool hb11⟩ (fun _ => r_ms rfl) rfl (s0 rfl ⟨_, rfl, congrArg Value.bool hb11⟩ (fun _ => r_mi rfl) rfl (s0 rfl ⟨_, rfl, congrArg Value.bool hb11⟩ (fun _ => r_ib rfl rfl rfl) rfl (s0 rfl ⟨_, rfl, congrArg Value.bool hb11⟩ (fun _ => r_ixe hv1 rfl underlying53 sizeOf57 hp1 hl1 he1) rfl (s1 rfl ⟨_, rfl, congrArg Value.bool hb11⟩ (r_ldS rfl isAgg57 sizeOf57 rfl hc1 (cs := (cAllocReach u1))) rfl (s0 rfl ⟨_, rfl, congrArg Value.bool hb11⟩ (fun _ => r_ms rfl) rfl (s0 rfl ⟨_, rfl, congrArg Value.bool hb11⟩ (fun _ => r_mi rfl) rfl (s0 rfl ⟨_, rfl, congrArg Value.bool hb11⟩ (fun _ => r_ixe hv2 rfl underlying53 sizeOf57 hp2 hl2 he2) rfl (s1 rfl ⟨_, rfl, congrArg Value.bool hb11⟩ (r_ldS rfl isAgg57 sizeOf57 rfl hc2 (cs := (cAllocReach u2))) rfl (s2 [] rfl ⟨_, rfl, congrArg Value.bool hb11⟩ rfl (by kernel_rfl) (calS cf16 rfl (alloc_Assign_2_sim (p0 := u1) (p1 := u2) (hS11.bun [0, 1] [] rfl)  hx9) rfl fun v7 T11 w12 im12 rv7 => ?_)))))))))))
    obtain ⟨rfl, hS12, _⟩ := rv7
    have hS12 := hS12.unb
    refine ⟨st0, ?_⟩
    refine s0 rfl ⟨_, rfl, congrArg Value.bool hb11⟩ (fun _ => r_ib rfl rfl rfl) rfl (s0 rfl ⟨_, rfl, congrArg Value.bool hb11⟩ (fun _ => r_nt rfl) rfl (s0 rfl trivial (fun _ => r_pkt rfl hb11 rfl) rfl (se (t_then ?_))))
    refine cnd rfl (fun hb12 => ?_) (fun hb12 => ?_)
    · have hm := ctrue hb12 hm
      cases hm
    have hm := cfalse hb12 hm
    refine skp (t_then ?_)
    refine sq2 ?_
    obtain ⟨y8, hx10, hm⟩ := bindS hm
    refine rg (pv (r_ms rfl) (pv (r_mi rfl) (pv (r_mi rfl) (pv (r_mi rfl) (pv (r_mf rfl) (wl rfl (calS cf57 rfl (slices_partitionCmpFunc_sim (p0 := x12) (p1 := x2) (p2 := x3) (p3 := x10) (hS12.bun [0] [1] rfl)  hx10) rfl fun v8 T12 w13 im13 rv8 => ?_)))))))
    obtain ⟨rfl, hS13, _⟩ := rv8
    have hS13 := hS13.unb
    refine pv (r_mv rfl) (pv (r_ex (v := iv y8.1) rfl rfl) (pv (r_ex (v := .bool y8.2.1) rfl rfl) (pv (r_zi rfl) (pv (r_zb rfl) (nil (t_then ?_))))))
    refine sq2 (rg (pv (r_mb rfl) (pv (r_zb rfl) (nil (t_then ?_)))))
    refine sq2 (rg (pv (r_mi rfl) (pv (r_mi rfl) (pv (r_ib rfl rfl rfl) (pv (r_mi rfl) (pv (r_mi rfl) (pv (r_ib rfl rfl rfl) (pv (r_zi rfl) (pv (r_zi rfl) (nil (t_then ?_)))))))))))
    refine sq2 (rg (pv (r_mi rfl) (pv (r_iq rfl rfl (by decide)) (pv (r_zi rfl) (nil (t_then ?_))))))
    refine sq2 (rg (pv (r_mi rfl) (pv (r_mi rfl) (pv (r_ib rfl rfl rfl) (nil (t_then ?_))))))
    refine cnd rfl (fun hb13 => ?_) (fun hb13 => ?_)
    · have hm := ctrue hb13 hm
      refine sq2 (rg (pv (r_mi rfl) (pv (r_mi rfl) (pv (r_ib rfl rfl rfl) (pv (r_zb rfl) (nil (t_then ?_)))))))
      refine sq2 ?_
      obtain ⟨y9, hx11, hm⟩ := bindS hm
      refine rg (pv (r_ms rfl) (pv (r_mi rfl) (pv (r_mi rfl) (pv (r_mi rfl) (pv (r_mf rfl) (wl rfl (calS cf30 rfl (hG.slices_pdqsortCmpFunc (p0 := y8.2.2) (p1 := x2) (p2 := y8.1) (p3 := x8) (hS13.bun [0] [1] rfl)  hx11) rfl fun v9 T13 w14 im14 rv9 => ?_)))))))
      obtain ⟨rfl, hS14, _⟩ := rv9
      have hS14 := hS14.unb
      refine nil (t_then ?_)
      have hm := oI hm; subst hm
      exact rg (pv (r_mi rfl) (pv (r_ib rfl rfl rfl) (pv (r_zi rfl) (nil (t_blk (t_then ⟨m1, Nat.lt_succ_self _, _, _, y9, (IntKind.wrap .i64 (y8.1 + 1)), x3, x8, (decide ((IntKind.wrap .i64 (Int.tdiv (IntKind.wrap .i64 (x3 - x2)) 8)) ≤ (IntKind.wrap .i64 (y8.1 - x2)))), y8.2.1, env_has ⟨rfl, rfl, rfl, rfl, rfl, rfl, rfl, trivial⟩, (iT im1 (iT im4 (iT im6 (iT im7 (iT im9 (iT im11 (iT im12 (iT im13 im14)))))))), hS14.sel [0, 1] rfl, hn1⟩))))))
    have hm := cfalse hb13 hm
    refine sq2 (rg (pv (r_mi rfl) (pv (r_mi rfl) (pv (r_ib rfl rfl rfl) (pv (r_zb rfl) (nil (t_then ?_)))))))
    refine sq2 ?_
    obtain ⟨y10, hx12, hm⟩ := bindS hm
    refine rg (pv (r_ms rfl) (pv (r_mi rfl) (pv (r_ib rfl rfl rfl) (pv (r_mi rfl) (pv (r_mi rfl) (pv (r_mf rfl) (wl rfl (calS cf30 rfl (hG.slices_pdqsortCmpFunc (p0 := y8.2.2) (p1 := IntKind.wrap .i64 (y8.1 + 1)) (p2 := x3) (p3 := x8) (hS13.bun [0] [1] rfl)  hx12) rfl fun v10 T14 w15 im15 rv10 => ?_))))))))
    obtain ⟨rfl, hS15, _⟩ := rv10
    have hS15 := hS15.unb
    refine nil (t_then ?_)
    have hm := oI hm; subst hm
    exact rg (pv (r_mi rfl) (pv (r_zi rfl) (nil (t_blk (t_then ⟨m1, Nat.lt_succ_self _, _, _, y10, x2, y8.1, x8, (decide ((IntKind.wrap .i64 (Int.tdiv (IntKind.wrap .i64 (x3 - x2)) 8)) ≤ (IntKind.wrap .i64 (x3 - y8.1)))), y8.2.1, env_has ⟨rfl, rfl, rfl, rfl, rfl, rfl, rfl, trivial⟩, (iT im1 (iT im4 (iT im6 (iT im7 (iT im9 (iT im11 (iT im12 (iT im13 im15)))))))), hS15.sel [0, 1] rfl, hn1⟩)))))
  have hm := cfalse hb11 hm
  refine sU rfl (gI rfl rfl hb11) (sU rfl (gI rfl rfl hb11) (sU rfl (gI rfl rfl hb11) (sU rfl (gI rfl rfl hb11) (sU rfl (gI rfl rfl hb11) (sU rfl (gI rfl rfl hb11) (sU rfl (gI rfl rfl hb11) (sU rfl (gI rfl rfl hb11) (sU rfl (gI rfl rfl hb11) (sU rfl (gI rfl rfl hb11) (sU rfl (gI rfl rfl hb11) (sU rfl (gI rfl rfl hb11) (sU rfl (gI rfl rfl hb11) (s0 rfl trivial (fun _ => r_pkf rfl hb11 rfl) rfl (se (t_then ?_)))))))))))))))
  refine cnd (b := false) rfl (fun h => nomatch h) (fun _ => ?_)
  refine skp (t_then ?_)
  refine sq2 ?_
  obtain ⟨y11, hx13, hm⟩ := bindS hm
  refine rg (pv (r_ms rfl) (pv (r_mi rfl) (pv (r_mi rfl) (pv (r_mi rfl) (pv (r_mf rfl) (wl rfl (calS cf57 rfl (slices_partitionCmpFunc_sim (p0 := x12) (p1 := x2) (p2 := x3) (p3 := x10) (hS11.bun [0] [1] rfl)  hx13) rfl fun v11 T15 w16 im16 rv11 => ?_)))))))
  obtain ⟨rfl, hS16, _⟩ := rv11
  have hS16 := hS16.unb
  refine pv (r_mv rfl) (pv (r_ex (v := iv y11.1) rfl rfl) (pv (r_ex (v := .bool y11.2.1) rfl rfl) (pv (r_zi rfl) (pv (r_zb rfl) (nil (t_then ?_))))))
  refine sq2 (rg (pv (r_mb rfl) (pv (r_zb rfl) (nil (t_then ?_)))))
  refine sq2 (rg (pv (r_mi rfl) (pv (r_mi rfl) (pv (r_ib rfl rfl rfl) (pv (r_mi rfl) (pv (r_mi rfl) (pv (r_ib rfl rfl rfl) (pv (r_zi rfl) (pv (r_zi rfl) (nil (t_then ?_)))))))))))
  refine sq2 (rg (pv (r_mi rfl) (pv (r_iq rfl rfl (by decide)) (pv (r_zi rfl) (nil (t_then ?_))))))
  refine sq2 (rg (pv (r_mi rfl) (pv (r_mi rfl) (pv (r_ib rfl rfl rfl) (nil (t_then ?_))))))
  refine cnd rfl (fun hb15 => ?_) (fun hb15 => ?_)
  · have hm := ctrue hb15 hm
    refine sq2 (rg (pv (r_mi rfl) (pv (r_mi rfl) (pv (r_ib rfl rfl rfl) (pv (r_zb rfl) (nil (t_then ?_)))))))
    refine sq2 ?_
    obtain ⟨y12, hx14, hm⟩ := bindS hm
    refine rg (pv (r_ms rfl) (pv (r_mi rfl) (pv (r_mi rfl) (pv (r_mi rfl) (pv (r_mf rfl) (wl rfl (calS cf30 rfl (hG.slices_pdqsortCmpFunc (p0 := y11.2.2) (p1 := x2) (p2 := y11.1) (p3 := x8) (hS16.bun [0] [1] rfl)  hx14) rfl fun v12 T16 w17 im17 rv12 => ?_)))))))
    obtain ⟨rfl, hS17, _⟩ := rv12
    have hS17 := hS17.unb
    refine nil (t_then ?_)
    have hm := oI hm; subst hm
    exact rg (pv (r_mi rfl) (pv (r_ib rfl rfl rfl) (pv (r_zi rfl) (nil (t_blk (t_then ⟨m1, Nat.lt_succ_self _, _, _, y12, (IntKind.wrap .i64 (y11.1 + 1)), x3, x8, (decide ((IntKind.wrap .i64 (Int.tdiv (IntKind.wrap .i64 (x3 - x2)) 8)) ≤ (IntKind.wrap .i64 (y11.1 - x2)))), y11.2.1, env_has ⟨rfl, rfl, rfl, rfl, rfl, rfl, rfl, trivial⟩, (iT im1 (iT im4 (iT im6 (iT im7 (iT im9 (iT im11 (iT im16 im17))))))), hS17.sel [0, 1] rfl, hn1⟩))))))
  have hm := cfalse hb15 hm
  refine sq2 (rg (pv (r_mi rfl) (pv (r_mi rfl) (pv (r_ib rfl rfl rfl) (pv (r_zb rfl) (nil (t_then ?_)))))))
  refine sq2 ?_
  obtain ⟨y13, hx15, hm⟩ := bindS hm
  refine rg (pv (r_ms rfl) (pv (r_mi rfl) (pv (r_ib rfl rfl rfl) (pv (r_mi rfl) (pv (r_mi rfl) (pv (r_mf rfl) (wl rfl (calS cf30 rfl (hG.slices_pdqsortCmpFunc (p0 := y11.2.2) (p1 := IntKind.wrap .i64 (y11.1 + 1)) (p2 := x3) (p3 := x8) (hS16.bun [0] [1] rfl)  hx15) rfl fun v13 T17 w18 im18 rv13 => ?_))))))))
  obtain ⟨rfl, hS18, _⟩ := rv13
  have hS18 := hS18.unb
  refine nil (t_then ?_)
  have hm := oI hm; subst hm
  exact rg (pv (r_mi rfl) (pv (r_zi rfl) (nil (t_blk (t_then ⟨m1, Nat.lt_succ_self _, _, _, y13, x2, y11.1, x8, (decide ((IntKind.wrap .i64 (Int.tdiv (IntKind.wrap .i64 (x3 - x2)) 8)) ≤ (IntKind.wrap .i64 (x3 - y11.1)))), y11.2.1, env_has ⟨rfl, rfl, rfl, rfl, rfl, rfl, rfl, trivial⟩, (iT im1 (iT im4 (iT im6 (iT im7 (iT im9 (iT im11 (iT im16 im18))))))), hS18.sel [0, 1] rfl, hn1⟩)))))
theorem sp1 : ∀ n, Sp1 (rec1 n)
  | 0 => ⟨by intros; rename_i h; cases (show (none : Option _) = some _ from h)⟩
  | n + 1 => ⟨slices_pdqsortCmpFunc_st (sp1 n)⟩
theorem slices_pdqsortCmpFunc_sim {p0 : List AllocReach} {a1 : OA} {n1 : Nat} {c1 : Nat} {p1 : Int} {p2 : Int} {p3 : Int} {r : (List AllocReach)} (hS : Sep g T0 w0 [R, ownA rAllocReach 57 (.slice a1 n1 c1) p0])  (hm : slices_pdqsortCmpFunc p0 p1 p2 p3 = some r) :
    Calls Tryz.prog 30 #[.slice a1 n1 c1, iv p1, iv p2, iv p3, .func (.func 16) #[] #[]] w0 (RetS T0 w0 fun T w v => v = .tuple #[] ∧ Sep g T w [R, ownA rAllocReach 57 (.slice a1 n1 c1) r] ∧ True) := (sp1 NN).slices_pdqsortCmpFunc hS hm

theorem slices_SortFunc_sim {p0 : List AllocReach} {a1 : OA} {n1 : Nat} {c1 : Nat} {r : (List AllocReach)} (hS : Sep g T0 w0 [R, ownA rAllocReach 57 (.slice a1 n1 c1) p0])  (hm : slices_SortFunc p0 = some r) :
    Calls Tryz.prog 15 #[.slice a1 n1 c1, .func (.func 16) #[] #[]] w0 (RetS T0 w0 fun T w v => v = .tuple #[] ∧ Sep g T w [R, ownA rAllocReach 57 (.slice a1 n1 c1) r] ∧ True) := by
  refine enter (args := [.slice a1 n1 c1, .func (.func 16) #[] #[]]) Tryz.func15 rfl Tryz.ntmps15 rfl fun J => ?_
  unfold slices_SortFunc at hm
  refine sq2 (rg (pv (r_ms rfl) (pv (r_lnV rfl (hS.own (i := 1) ⟨rfl, rfl⟩).v underlying53) (pv (r_zi rfl) (nil (t_then ?_))))))
  obtain ⟨y1, hx1, hm⟩ := bindS hm
  refine rg (pv (r_ms rfl) (pv (r_mi rfl) (pv (r_mi rfl) (pv (r_cv rfl underlying3 underlying87) (wl rfl (calS cf31 rfl (bits_Len_sim (p0 := IntKind.wrap .u64 (List.length p0 : Int)) (hS.bun [0, 1] [] rfl)  hx1) rfl fun v1 T1 w1 im1 rv1 => ?_))))))
  obtain ⟨rfl, hS1, _⟩ := rv1
  have hS1 := hS1.unb
  obtain ⟨y2, hx2, hm⟩ := bindS hm
  refine pv (r_mf rfl) (wl rfl (calS cf30 rfl (slices_pdqsortCmpFunc_sim (p0 := p0) (p1 := 0) (p2 := (List.length p0 : Int)) (p3 := y1) (hS1.bun [0] [1] rfl)  hx2) rfl fun v2 T2 w2 im2 rv2 => ?_))
  obtain ⟨rfl, hS2, _⟩ := rv2
  have hS2 := hS2.unb
  have hm := oI hm; subst hm
  exact nil (end0 rfl ⟨_, rfl, _, (iT im1 im2), ⟨rfl, hS2.sel [0, 1] rfl, trivial⟩⟩)

theorem alloc_desk_free_1_sim {p0 : AllocHolder} {r : Bool} (hS : Sep g T0 w0 [R])  (hm : alloc_desk_free_1 p0 = some r) :
    Calls Tryz.prog 61 #[.agg (cAllocHolder p0).toArray] w0 (RetS T0 w0 fun T w v => v = .bool r ∧ Sep g T w [R] ∧ True) := by
  refine enter (args := [.agg (cAllocHolder p0).toArray]) Tryz.func61 rfl Tryz.ntmps61 rfl fun J => ?_
  unfold alloc_desk_free_1 at hm
  refine sq2 (rg (wl rfl (bxS (cs := (cAllocHolder p0)) rfl rfl hS fun w1 b1 im1 hS1 => ?_)))
  refine pv (r_zb rfl) (nil (t_then ?_))
  refine sq2 (rg (pv (r_fa rfl underlying59 rfl sizeOf4 rfl) (pv (r_ld rfl isAgg4 (hS1.cell0 (i := 0) ⟨rfl, rfl⟩ (j := 5) rfl)) (pv (r_nt rfl) (pv (r_zb rfl) (nil (t_then ?_)))))))
  have hm := oI hm; subst hm
  exact rtn (ret1 rfl rfl ⟨_, rfl, _, im1, ⟨rfl, hS1.sel [1] rfl, trivial⟩⟩)

theorem slices_IndexFunc_3_sim {p0 : List AllocHolder} {v_p0 : Value} {H_p0 : Assn} {r : Int} (hS : Sep g T0 w0 [R, H_p0]) (hV_p0 : Vw H_p0 rAllocHolder v_p0 p0) (hm : slices_IndexFunc_3 p0 = some r) :
    Calls Tryz.prog 60 #[v_p0, .func (.func 61) #[] #[]] w0 (RetS T0 w0 fun T w v => v = iv r ∧ Sep g T w [R, H_p0] ∧ True) := by
  refine enter (args := [v_p0, .func (.func 61) #[] #[]]) Tryz.func60 rfl Tryz.ntmps60 rfl fun J => ?_
  unfold slices_IndexFunc_3 at hm
  refine sq2 (rg (pv (r_zi rfl) (nil (t_then ?_))))
  refine sq2 (sq2 (rg (pv (r_mx (v := v_p0) rfl) (pv (r_lnV rfl (hS.view (i := 1) ⟨rfl, rfl⟩ hV_p0) underlying89) (pv (r_mi rfl) (nil (t_then ?_)))))))
  obtain ⟨o1, ho1, hq1⟩ := bindS hm
  obtain ⟨bd1, hbd1, ho1⟩ := loop_open ho1
  refine blk (wp_loop_ghost (fun m a w1 => ∃ (J : JV) (T1 : TP) (x1 : Int), a = env (nf 19) J [(0, v_p0), (1, .func (.func 61) #[] #[]), (7, iv (List.length p0 : Int)), (8, iv x1)] ∧ Im T0 w0 T1 w1 ∧ Sep g T1 w1 [R, H_p0] ∧ loopM bd1 m x1 = some o1) NN ⟨_, _, 0, env_has ⟨rfl, rfl, rfl, rfl, trivial⟩, Im.refl, hS.sel [0, 1] rfl, ho1⟩ ?_)
  rintro m _ w1 ⟨J, T1, x1, rfl, im1, hS1, ho1⟩
  obtain ⟨m1, z1, rfl, hm, hn1⟩ := loop_round ho1
  rw [hbd1] at hm
  refine sq2 (rg (pv (r_ib rfl rfl rfl) (nil (t_then ?_))))
  refine sq2 (cnd rfl (fun hb1 => ?_) (fun hb1 => ?_))
  · have hm := ctrue hb1 hm
    refine skp (t_then ?_)
    refine sq2 (blk (sq2 (rg (pv (r_mi rfl) (pv (r_zi rfl) (nil (t_then ?_)))))))
    refine sq2 ?_
    obtain ⟨u1, hx1, hm⟩ := bindS hm
    obtain ⟨b1, of1, cs1, k1, cp1, hv1, hp1, hl1, he1, hr1, hc1⟩ := (hS1.view (i := 1) ⟨rfl, rfl⟩ hV_p0).ixq hx1 rfl
    cases rAllocHolder_open hr1
    obtain ⟨y1, hx2, hm⟩ := bindS hm
    refine rg (pv (r_mf rfl) (pv (r_mx (v := v_p0) rfl) (pv (r_mi rfl) (pv (r_ixe hv1 rfl underlying89 sizeOf59 hp1 hl1 he1) (pv (r_ldS rfl isAgg59 sizeOf59 rfl hc1 (cs := (cAllocHolder u1))) (wl rfl (calS cf61 rfl (alloc_desk_free_1_sim (p0 := u1) (hS1.bun [0, 1] [] rfl)  hx2) rfl fun v1 T2 w2 im2 rv1 => ?_)))))))
    obtain ⟨rfl, hS2, _⟩ := rv1
    have hS2 := hS2.unb
    refine nil (t_then ?_)
    refine cnd rfl (fun hb2 => ?_) (fun hb2 => ?_)
    · have hm := ctrue hb2 hm
      refine sq2 (rg (pv (r_mi rfl) (pv (r_zi rfl) (nil (t_then ?_)))))
      have hm := oI hm; subst hm
      have hn1 : _ = Lp.ret _ := hn1
      subst hn1
      have hm := thn_ret hq1
      have hm := oI hm; subst hm
      exact rtn (r_blk (r_then (r_then (r_blk (r_then (ret1 rfl rfl ⟨_, rfl, _, (iT im1 im2), ⟨rfl, hS2.sel [0, 1] rfl, trivial⟩⟩))))))
    have hm := cfalse hb2 hm
    refine skp (t_blk (t_then ?_))
    have hm := oI hm; subst hm
    exact rg (pv (r_ib rfl rfl rfl) (pv (r_mi rfl) (nil (t_then ⟨m1, Nat.lt_succ_self _, _, _, (IntKind.wrap .i64 (x1 + 1)), env_has ⟨rfl, rfl, rfl, rfl, trivial⟩, (iT im1 im2), hS2.sel [0, 1] rfl, hn1⟩))))
  have hm := cfalse hb1 hm
  have hm := oI hm; subst hm
  have hn1 : _ = Lp.brk _ := hn1
  subst hn1
  have hm := thn_brk hq1
  refine xt (x_then (x_then (x_eq (t_then ?_))))
  refine sq2 (rg (pv (r_zi rfl) (nil (t_then ?_))))
  have hm := oI hm; subst hm
  exact rtn (ret1 rfl rfl ⟨_, rfl, _, im1, ⟨rfl, hS1.sel [0, 1] rfl, trivial⟩⟩)

theorem alloc_desk_free_sim {p0 : AllocDesk} {b_p0 o_p0 : Nat} {H_p0 : List Value → Assn} {a1 : OA} {n1 : Nat} {c1 : Nat} {r : Int} (hS : Sep g T0 w0 [R, segH (H_p0) enAllocHolder' p0.hold [iv p0.regs, .slice a1 n1 c1, iv p0.slots, iv p0.came], ownA rSeat 44 (.slice a1 n1 c1) p0.seats]) (hL_p0 : Ln b_p0 o_p0 H_p0) (hm : alloc_desk_free p0 = some r) :
    Calls Tryz.prog 33 #[pt b_p0 o_p0] w0 (RetS T0 w0 fun T w v => v = iv r ∧ Sep g T w [R, segH (H_p0) enAllocHolder' p0.hold [iv p0.regs, .slice a1 n1 c1, iv p0.slots, iv p0.came], ownA rSeat 44 (.slice a1 n1 c1) p0.seats] ∧ True) := by
  refine enter (args := [pt b_p0 o_p0]) Tryz.func33 rfl Tryz.ntmps33 rfl fun J => ?_
  unfold alloc_desk_free at hm
  refine sq2 (rg (pv (r_zi rfl) (nil (t_then ?_))))
  refine sq2 (rs [0, 0, 0, 0, 0, 0, 1, 0, 2, 0] [0, 1, 2, 3, 4, 5, 6, 7, 8, 9] mix (by kernel_rfl) hS.lt fun w1 i1 => ?_)
  have im1 := i1.imm
  have hS1 := hS.keep i1 (fun _ h => h)
  obtain ⟨z_1, hln1, hm⟩ := bindS hm
  obtain ⟨u1, hx1, hm⟩ := bindS hm
  obtain ⟨y1, hx2, hm⟩ := bindS hm
  refine s0 rfl trivial (fun _ => r_mp rfl) rfl (s0 rfl trivial (fun _ => r_nc rfl) rfl (s0 rfl trivial (fun _ => r_fa rfl underlying62 rfl sizeOf60 rfl) rfl (s0 rfl trivial (fun _ => r_mp rfl) rfl (s0 rfl trivial (fun _ => r_nc rfl) rfl (s0 rfl trivial (fun _ => r_fa rfl underlying62 rfl sizeOf3 rfl) rfl (s1 rfl trivial (r_ld rfl isAgg3 (hS1.cellB (i := 1) ⟨rfl, rfl⟩ (lnSeg (k := 72) hL_p0 (lenOk_some hln1) enAllocHolder'_len rfl) (j := 0) rfl)) rfl (s0 rfl trivial (fun _ => r_slP rfl (lenOk_some hln1) ⟨_, rfl⟩ hx1 underlying60 sizeOf59) rfl (s2 [] rfl trivial rfl (by kernel_rfl) (calS cf60 rfl (slices_IndexFunc_3_sim (p0 := u1) (H_p0 := segH (H_p0) enAllocHolder' p0.hold [iv p0.regs, .slice a1 n1 c1, iv p0.slots, iv p0.came]) (hS1.bun [0, 2] [1] rfl) (vwSeg (m := 12) hL_p0 (lenOk_some hln1) enAllocHolder'_len enAllocHolder'_rp (by decide) hx1) hx2) rfl fun v1 T1 w2 im2 rv1 => ?_)))))))))
  obtain ⟨rfl, hS2, _⟩ := rv1
  have hS2 := hS2.unb
  refine ⟨st0, ?_⟩
  refine s0 rfl trivial (fun _ => r_zi rfl) rfl (se (t_then ?_))
  have hm := oI hm; subst hm
  exact rtn (ret1 rfl rfl ⟨_, rfl, _, (iT im1 im2), ⟨rfl, hS2.sel [0, 2, 1] rfl, trivial⟩⟩)

theorem alloc_names_sim  {r : (List Int)} (hS : Sep g T0 w0 [R])  (hm : alloc_names = some r) :
    Calls Tryz.prog 62 #[] w0 (RetS T0 w0 fun T w v => v = .agg #[iv (List.getD r 0 0), iv (List.getD r 1 0), iv (List.getD r 2 0), iv (List.getD r 3 0), iv (List.getD r 4 0), iv (List.getD r 5 0), iv (List.getD r 6 0), iv (List.getD r 7 0), iv (List.getD r 8 0), iv (List.getD r 9 0), iv (List.getD r 10 0), iv (List.getD r 11 0)] ∧ Sep g T w [R] ∧ True) := by
  refine enter (args := []) Tryz.func62 rfl Tryz.ntmps62 rfl fun J => ?_
  unfold alloc_names at hm
  refine sq2 (rg (wl rfl (alS (zs := [iv 0, iv 0, iv 0, iv 0, iv 0, iv 0, iv 0, iv 0, iv 0, iv 0, iv 0, iv 0]) zeroValue124 rfl hS fun w1 b1 im1 hS1 => ?_)))
  refine nil (t_then ?_)
  refine sq2 (rg (pv (r_bd (by kernel_rfl) rfl (u := .agg #[iv 8, iv 9, iv 18, iv 19, iv 20, iv 21, iv 22, iv 23, iv 24, iv 25, iv 26, iv 27])) (wl rfl (st0B (q := 0) hS1 ⟨rfl, rfl⟩ rfl rfl rfl sizeOf124 rfl rfl rfl fun w2 im2 hS2 => ?_))))
  refine nil (t_then ?_)
  have hm := oI hm; subst hm
  exact rtn (retN (vs := [.agg #[iv 8, iv 9, iv 18, iv 19, iv 20, iv 21, iv 22, iv 23, iv 24, iv 25, iv 26, iv 27]]) rfl ⟨rvS rfl isAgg124 sizeOf124 rfl (hS2.bx (i := 0) ⟨rfl, rfl⟩), trivial⟩ rfl ⟨_, rfl, _, (iT im1 im2), ⟨rfl, hS2.sel [1] rfl, trivial⟩⟩)

theorem alloc_desk_take_sim {p0 : AllocDesk} {b_p0 o_p0 : Nat} {H_p0 : List Value → Assn} {a1 : OA} {n1 : Nat} {c1 : Nat} {p1 : Int} {p2 : AllocReach} {r : AllocDesk} (hS : Sep g T0 w0 [R, segH (H_p0) enAllocHolder' p0.hold [iv p0.regs, .slice a1 n1 c1, iv p0.slots, iv p0.came], ownA rSeat 44 (.slice a1 n1 c1) p0.seats]) (hL_p0 : Ln b_p0 o_p0 H_p0) (hm : alloc_desk_take p0 p1 p2 = some r) :
    Calls Tryz.prog 34 #[pt b_p0 o_p0, iv p1, .agg (cAllocReach p2).toArray] w0 (RetS T0 w0 fun T w v => ∃ (a2 : OA) (n2 : Nat) (c2 : Nat), v = .tuple #[] ∧ Sep g T w [R, segH (H_p0) enAllocHolder' r.hold [iv r.regs, .slice a2 n2 c2, iv r.slots, iv r.came], ownA rSeat 44 (.slice a2 n2 c2) r.seats] ∧ True) := by
  refine enter (args := [pt b_p0 o_p0, iv p1, .agg (cAllocReach p2).toArray]) Tryz.func34 rfl Tryz.ntmps34 rfl fun J => ?_
  unfold alloc_desk_take at hm
  refine sq2 (rg (wl rfl (bxS (cs := (cAllocReach p2)) rfl rfl hS fun w1 b1 im1 hS1 => ?_)))
  refine nil (t_then ?_)
  refine sq2 (rs [0, 0, 1, 0, 0, 0, 1, 0, 0, 0, 0, 2] [0, 1, 2, 3, 4, 5, 6, 7, 8, 9, 10, 11] mix (by kernel_rfl) hS1.lt fun w2 i1 => ?_)
  have im2 := i1.imm
  have hS2 := hS1.keep i1 (fun _ h => h)
  obtain ⟨z_1, hln1, hm⟩ := bindS hm
  obtain ⟨u1, hx1, hm⟩ := bindS hm
  obtain ⟨of1, he1⟩ : ∃ z : Nat, z = (o_p0 + 0) + (Int.toNat p1) * 6 := ⟨_, rfl⟩
  obtain ⟨u2, hx2, hm⟩ := bindS hm
  refine s0 rfl trivial (fun _ => r_mp rfl) rfl (s0 rfl trivial (fun _ => r_mi rfl) rfl (s1 rfl trivial (r_ldS rfl isAgg57 sizeOf57 rfl (hS2.cells0 (i := 0) ⟨rfl, rfl⟩ (o := 0) rfl) (cs := (cAllocReach p2))) rfl (s0 rfl trivial (fun _ => r_mp rfl) rfl (s0 rfl trivial (fun _ => r_nc rfl) rfl (s0 rfl trivial (fun _ => r_fa rfl underlying62 rfl sizeOf3 rfl) rfl (s1 rfl trivial (r_ld rfl isAgg3 (hS2.cellB (i := 2) ⟨rfl, rfl⟩ (lnSeg (k := 72) hL_p0 (lenOk_some hln1) enAllocHolder'_len rfl) (j := 3) rfl)) rfl (s0 rfl trivial (fun _ => r_bd (by kernel_rfl) rfl (u := .agg #[iv p2.r, iv p2.from_, iv p2.to, .bool p2.is, iv p0.came, .bool true])) rfl (s0 rfl trivial (fun _ => r_nc rfl) rfl (s0 rfl trivial (fun _ => r_fa rfl underlying62 rfl sizeOf60 rfl) rfl (s0 rfl trivial (fun _ => r_ixA rfl rfl (lenOk_some hln1) hx1 underlying60 sizeOf59 he1) rfl (s2 [] rfl trivial rfl (by kernel_rfl) (stSeg (q := 2) (i := p1) (j := 0) (u := u2) (u' := (⟨p2, p0.came, true⟩ : AllocHolder)) hS2 ⟨rfl, rfl⟩ hL_p0 enAllocHolder'_len hx2 he1 rfl rfl rfl sizeOf59 rfl rfl rfl rfl fun w3 im3 hS3 => ?_))))))))))))
  refine ⟨st0, ?_⟩
  refine se (t_then ?_)
  refine rs [0, 0, 0, 1, 0, 1, 2, 0, 0, 0, 0, 2] [0, 1, 2, 3, 4, 5, 7, 6, 8, 9, 10, 11] mix (by kernel_rfl) hS3.lt fun w4 i2 => ?_
  have im4 := i2.imm
  have hS4 := hS3.keep i2 (fun _ h => h)
  obtain ⟨y1, hx3, hm⟩ := bindS hm
  refine s0 rfl trivial (fun _ => r_mp rfl) rfl (s0 rfl trivial (fun _ => r_nc rfl) rfl (s0 rfl trivial (fun _ => r_fa rfl underlying62 rfl sizeOf32 rfl) rfl (s1 rfl trivial (r_ld rfl isAgg32 (hS4.cellB (i := 2) ⟨rfl, rfl⟩ (lnSeg (k := 72) hL_p0 (len_set (lenOk_some hln1)) enAllocHolder'_len rfl) (j := 1) rfl)) rfl (s0 rfl trivial (fun _ => r_fa rfl underlying57 rfl sizeOf3 rfl) rfl (s1 rfl trivial (r_ld rfl isAgg3 (hS4.cell0 (i := 0) ⟨rfl, rfl⟩ (j := 0) rfl)) rfl (s0 rfl trivial (fun _ => r_mi rfl) rfl (s2 [(5, iv p2.r), (3, .slice a1 n1 c1)] rfl trivial rfl (by kernel_rfl) (calS cf62 rfl (alloc_names_sim  (hS4.bun [1, 2, 3, 0] [] rfl)  hx3) rfl fun v1 T1 w5 im5 rv1 => ?_))))))))
  obtain ⟨rfl, hS5, _⟩ := rv1
  have hS5 := hS5.unb
  refine ⟨st1 rfl (r_ld rfl isAgg3 (hS5.cell0 (i := 3) ⟨rfl, rfl⟩ (j := 0) rfl)) (st1 rfl (r_ld rfl isAgg32 (hS5.cellB (i := 1) ⟨rfl, rfl⟩ (lnSeg (k := 72) hL_p0 (len_set (lenOk_some hln1)) enAllocHolder'_len rfl) (j := 1) rfl)) (st0)), ?_⟩
  obtain ⟨u3, hx4, hm⟩ := bindS hm
  obtain ⟨u4, hx5, hm⟩ := bindS hm
  obtain ⟨b2, of2, cs1, k1, cp1, hv1, hp1, hl1, he2, hr1, hc1⟩ := (hS5.own (i := 2) ⟨rfl, rfl⟩).v.ixq hx5 rfl
  cases rSeat_open hr1
  obtain ⟨u5, hx6, hm⟩ := bindS hm
  refine s0 rfl trivial (fun _ => r_axi rfl rfl (idx_map (fun z => Value.int .i64 z) hx4) rfl underlying124 sizeOf3 isAgg3) rfl (s0 rfl trivial (fun _ => r_bd (by kernel_rfl) rfl (u := .agg #[iv u3, iv (-1)])) rfl (s0 rfl trivial (fun _ => r_ixe hv1 rfl underlying32 sizeOf44 hp1 hl1 he2) rfl (s2 [] rfl trivial rfl (by kernel_rfl) (stO (q := 2) (i := Int.toNat p2.r) (j := 0) (u := u5) (u' := (⟨u3, (-1)⟩ : Seat)) hS5 ⟨rfl, rfl⟩ hv1 (idx_some hx6).2.2 he2 rfl rfl rfl sizeOf44 rfl rfl rfl (fun c0 hc0 => by rw [storeL_all (r := rSeat) hc0 rfl]; exact (rSeat_mk (x := (⟨u3, (-1)⟩ : Seat))  : rSeat.rp _ _ _ _)) fun w6 im6 hS6 => ?_))))
  refine ⟨st0, ?_⟩
  have hm := oI hm; subst hm
  exact se (end0 rfl ⟨_, rfl, _, (iT im1 (iT im2 (iT im3 (iT im4 (iT im5 im6))))), ⟨_, _, _, rfl, hS6.sel [0, 1, 2] rfl, trivial⟩⟩)

theorem alloc_desk_last_sim {p0 : AllocDesk} {b_p0 o_p0 : Nat} {H_p0 : List Value → Assn} {a1 : OA} {n1 : Nat} {c1 : Nat} {r : Int} (hS : Sep g T0 w0 [R, segH (H_p0) enAllocHolder' p0.hold [iv p0.regs, .slice a1 n1 c1, iv p0.slots, iv p0.came], ownA rSeat 44 (.slice a1 n1 c1) p0.seats]) (hL_p0 : Ln b_p0 o_p0 H_p0) (hm : alloc_desk_last p0 = some r) :
    Calls Tryz.prog 35 #[pt b_p0 o_p0] w0 (RetS T0 w0 fun T w v => v = iv r ∧ Sep g T w [R, segH (H_p0) enAllocHolder' p0.hold [iv p0.regs, .slice a1 n1 c1, iv p0.slots, iv p0.came], ownA rSeat 44 (.slice a1 n1 c1) p0.seats] ∧ True) := by
  refine enter (args := [pt b_p0 o_p0]) Tryz.func35 rfl Tryz.ntmps35 rfl fun J => ?_
  unfold alloc_desk_last at hm
  refine sq2 (rg (pv (r_zi rfl) (nil (t_then ?_))))
  refine sq2 (rg (pv (r_zi rfl) (nil (t_then ?_))))
  refine sq2 (sq2 ?_)
  obtain ⟨z_1, hln1, hm⟩ := bindS hm
  obtain ⟨u1, hx1, hm⟩ := bindS hm
  refine rq mix (by kernel_rfl) hS.lt (qv (fun _ hq => r_mp rfl) (qv (fun _ hq => r_nc rfl) (qv (fun _ hq => r_fa rfl underlying62 rfl sizeOf60 rfl) (qv (fun _ hq => r_mp rfl) (qv (fun _ hq => r_nc rfl) (qv (fun _ hq => r_fa rfl underlying62 rfl sizeOf3 rfl) (qv (fun _ hq => r_ld rfl isAgg3 (hq.cell (hS.cellB (i := 1) ⟨rfl, rfl⟩ (lnSeg (k := 72) hL_p0 (lenOk_some hln1) enAllocHolder'_len rfl) (j := 0) rfl))) (qv (fun _ hq => r_slP rfl (lenOk_some hln1) ⟨_, rfl⟩ hx1 underlying60 sizeOf59) (qv (fun _ hq => r_lnV rfl (hS.view (i := 1) ⟨rfl, rfl⟩ (vwSeg (m := 12) hL_p0 (lenOk_some hln1) enAllocHolder'_len enAllocHolder'_rp (by decide) hx1)) underlying89) (qv (fun _ hq => r_mi rfl) (qn fun w1 T1 i1 => ?_)))))))))))
  have im1 := i1.imm
  have hS1 := hS.keep i1 (fun _ h => h)
  refine t_then ?_
  obtain ⟨o1, ho1, hq1⟩ := bindS hm
  obtain ⟨bd1, hbd1, ho1⟩ := loop_open ho1
  refine blk (wp_loop_ghost (fun m a w2 => ∃ (J : JV) (T2 : TP) (x1 : Int) (x2 : Int), a = env (nf 65) J [(0, pt b_p0 o_p0), (3, iv x1), (13, .slice (some ⟨b_p0, o_p0 + 0, none⟩) (List.length u1) 12), (14, iv (List.length u1 : Int)), (15, iv x2)] ∧ Im T1 w1 T2 w2 ∧ Sep g T2 w2 [R, segH (H_p0) enAllocHolder' p0.hold [iv p0.regs, .slice a1 n1 c1, iv p0.slots, iv p0.came], ownA rSeat 44 (.slice a1 n1 c1) p0.seats] ∧ loopM bd1 m (x1, x2) = some o1) NN ⟨_, _, (-1), 0, env_has ⟨rfl, rfl, rfl, rfl, rfl, trivial⟩, Im.refl, hS1.sel [0, 1, 2] rfl, ho1⟩ ?_)
  rintro m _ w2 ⟨J, T2, x1, x2, rfl, im2, hS2, ho1⟩
  obtain ⟨m1, z1, rfl, hm, hn1⟩ := loop_round ho1
  rw [hbd1] at hm
  refine sq2 (rg (pv (r_ib rfl rfl rfl) (nil (t_then ?_))))
  refine sq2 (cnd rfl (fun hb1 => ?_) (fun hb1 => ?_))
  · have hm := ctrue hb1 hm
    refine skp (t_then ?_)
    obtain ⟨kk1, hkk1, hm⟩ := jn_open hm
    refine cut (fun a w3 => ∃ (J : JV) (T3 : TP) (x3 : Int), a = env (nf 65) J [(0, pt b_p0 o_p0), (3, iv x3), (13, .slice (some ⟨b_p0, o_p0 + 0, none⟩) (List.length u1) 12), (14, iv (List.length u1 : Int)), (15, iv x2)] ∧ Im T2 w2 T3 w3 ∧ Sep g T3 w3 [R, segH (H_p0) enAllocHolder' p0.hold [iv p0.regs, .slice a1 n1 c1, iv p0.slots, iv p0.came], ownA rSeat 44 (.slice a1 n1 c1) p0.seats] ∧ kk1 x3 = some z1) ?_ ?_
    · refine blk (sq2 ?_)
      obtain ⟨u2, hx2, hm⟩ := bindS hm
      obtain ⟨b1, of1, cs1, k1, cp1, hv1, hp1, hl1, he1, hr1, hc1⟩ := (hS2.view (i := 1) ⟨rfl, rfl⟩ (vwSeg (m := 12) hL_p0 (lenOk_some hln1) enAllocHolder'_len enAllocHolder'_rp (by decide) hx1)).ixq hx2 rfl
      cases rAllocHolder_open hr1
      refine rg (pv (r_mi rfl) (pv (r_ixe hv1 rfl underlying89 sizeOf59 hp1 hl1 he1) (pv (r_ldS rfl isAgg59 sizeOf59 rfl hc1 (cs := (cAllocHolder u2))) (wl rfl (alS (zs := [iv 0, iv 0, iv 0, .bool false, iv 0, .bool false]) zeroValue59 rfl hS2 fun w4 b2 im4 hS3 => ?_)))))
      refine pv (r_zi rfl) (wl rfl (st0B (q := 0) hS3 ⟨rfl, rfl⟩ rfl rfl rfl sizeOf59 rfl rfl rfl fun w5 im5 hS4 => ?_))
      refine nil (t_then ?_)
      refine sq2 (rq mix (by kernel_rfl) hS4.lt (qv (fun _ hq => r_mi rfl) (qv (fun _ hq => r_ib rfl rfl rfl) (qv (fun _ hq => r_mb rfl) (?_)))))
      rcases Bool.eq_false_or_eq_true (decide (x1 < 0)) with hb2 | hb2
      · have hm := ctrue hb2 hm
        refine qgF (d0 := 22) rfl rfl (by rw [hb2]; rfl) (qgF (d0 := 22) rfl rfl (by rw [hb2]; rfl) (qgF (d0 := 22) rfl rfl (by rw [hb2]; rfl) (qgF (d0 := 22) rfl rfl (by rw [hb2]; rfl) (qgF (d0 := 22) rfl rfl (by rw [hb2]; rfl) (qgF (d0 := 22) rfl rfl (by rw [hb2]; rfl) (qgF (d0 := 22) rfl rfl (by rw [hb2]; rfl) (qgF (d0 := 22) rfl rfl (by rw [hb2]; rfl) (qgF (d0 := 22) rfl rfl (by rw [hb2]; rfl) (qgF (d0 := 22) rfl rfl (by rw [hb2]; rfl) (qgF (d0 := 22) rfl rfl (by rw [hb2]; rfl) (qgF (d0 := 22) rfl rfl (by rw [hb2]; rfl) (qv (fun _ hq => r_pkt rfl hb2 rfl) (qv (fun _ hq => r_mb rfl) (qgF (d0 := 36) rfl rfl rfl (qgF (d0 := 36) rfl rfl rfl (qgF (d0 := 36) rfl rfl rfl (qgF (d0 := 36) rfl rfl rfl (qgF (d0 := 36) rfl rfl rfl (qgF (d0 := 36) rfl rfl rfl (qgF (d0 := 36) rfl rfl rfl (qgF (d0 := 36) rfl rfl rfl (qgF (d0 := 36) rfl rfl rfl (qgF (d0 := 36) rfl rfl rfl (qgF (d0 := 36) rfl rfl rfl (qgF (d0 := 36) rfl rfl rfl (qgF (d0 := 36) rfl rfl rfl (qgU (d0 := 49) rfl rfl (qgU (d0 := 49) rfl rfl (qgU (d0 := 49) rfl rfl (qgU (d0 := 49) rfl rfl (qgU (d0 := 49) rfl rfl (qgU (d0 := 49) rfl rfl (qgU (d0 := 49) rfl rfl (qgU (d0 := 49) rfl rfl (qgU (d0 := 49) rfl rfl (qgU (d0 := 49) rfl rfl (qgF (d0 := 36) rfl rfl rfl (qv (fun _ hq => r_pkt rfl rfl rfl) (qn fun w9 T7 i5 => ?_)))))))))))))))))))))))))))))))))))))))
        have im9 := i5.imm
        have hS8 := hS4.keep i5 (fun _ h => h)
        refine t_then ?_
        refine cnd (b := true) rfl (fun _ => ?_) (fun h => nomatch h)
        exact rg (pv (r_mi rfl) (pv (r_zi rfl) (nil (t_blk (t_then ⟨_, _, x2, env_has ⟨rfl, rfl, rfl, rfl, rfl, trivial⟩, (iT im4 (iT im5 im9)), hS8.sel [1, 2, 3] rfl, hm⟩)))))
      have hm := cfalse hb2 hm
      obtain ⟨u3, hx3, hm⟩ := bindS hm
      obtain ⟨of2, he2⟩ : ∃ z : Nat, z = (o_p0 + 0) + (Int.toNat x1) * 6 := ⟨_, rfl⟩
      refine qgT (d0 := 22) rfl rfl hb2 (qv (fun _ hq => r_fa rfl underlying59 rfl sizeOf57 rfl) (qgT (d0 := 22) rfl rfl hb2 (qv (fun _ hq => r_fa rfl underlying57 rfl sizeOf3 rfl) (qgT (d0 := 22) rfl rfl hb2 (qv (fun _ hq => r_ld rfl isAgg3 (hq.cell (hS4.cell0 (i := 0) ⟨rfl, rfl⟩ (j := 2) rfl))) (qgT (d0 := 22) rfl rfl hb2 (qv (fun _ hq => r_mp rfl) (qgT (d0 := 22) rfl rfl hb2 (qv (fun _ hq => r_mi rfl) (qgT (d0 := 22) rfl rfl hb2 (qv (fun _ hq => r_nc rfl) (qgT (d0 := 22) rfl rfl hb2 (qv (fun _ hq => r_fa rfl underlying62 rfl sizeOf60 rfl) (qgT (d0 := 22) rfl rfl hb2 (qv (fun _ hq => r_ixA rfl rfl (lenOk_some hln1) hx3 underlying60 sizeOf59 he2) (qgT (d0 := 22) rfl rfl hb2 (qv (fun _ hq => r_fa rfl underlying59 rfl sizeOf57 rfl) (qgT (d0 := 22) rfl rfl hb2 (qv (fun _ hq => r_fa rfl underlying57 rfl sizeOf3 rfl) (qgT (d0 := 22) rfl rfl hb2 (qv (fun _ hq => r_ld rfl isAgg3 (hq.cell ((Sep.segEl hS4 (q := 2) ⟨rfl, rfl⟩ hL_p0 enAllocHolder'_len hx3 he2).get (j := 2) rfl))) (qgT (d0 := 22) rfl rfl hb2 (qv (fun _ hq => r_ib rfl rfl rfl) (qv (fun _ hq => r_pkf rfl hb2 rfl) (qv (fun _ hq => r_mb rfl) (?_))))))))))))))))))))))))))
      rcases Bool.eq_false_or_eq_true (decide (u3.reach.to < u2.reach.to)) with hb3 | hb3
      · have hm := ctrue hb3 hm
        refine qgF (d0 := 36) rfl rfl (by rw [hb3]; rfl) (qgF (d0 := 36) rfl rfl (by rw [hb3]; rfl) (qgF (d0 := 36) rfl rfl (by rw [hb3]; rfl) (qgF (d0 := 36) rfl rfl (by rw [hb3]; rfl) (qgF (d0 := 36) rfl rfl (by rw [hb3]; rfl) (qgF (d0 := 36) rfl rfl (by rw [hb3]; rfl) (qgF (d0 := 36) rfl rfl (by rw [hb3]; rfl) (qgF (d0 := 36) rfl rfl (by rw [hb3]; rfl) (qgF (d0 := 36) rfl rfl (by rw [hb3]; rfl) (qgF (d0 := 36) rfl rfl (by rw [hb3]; rfl) (qgF (d0 := 36) rfl rfl (by rw [hb3]; rfl) (qgF (d0 := 36) rfl rfl (by rw [hb3]; rfl) (qgF (d0 := 36) rfl rfl (by rw [hb3]; rfl) (qgU (d0 := 49) rfl rfl (qgU (d0 := 49) rfl rfl (qgU (d0 := 49) rfl rfl (qgU (d0 := 49) rfl rfl (qgU (d0 := 49) rfl rfl (qgU (d0 := 49) rfl rfl (qgU (d0 := 49) rfl rfl (qgU (d0 := 49) rfl rfl (qgU (d0 := 49) rfl rfl (qgU (d0 := 49) rfl rfl (qgF (d0 := 36) rfl rfl (by rw [hb3]; rfl) (qv (fun _ hq => r_pkt rfl hb3 rfl) (qn fun w8 T6 i4 => ?_)))))))))))))))))))))))))
        have im8 := i4.imm
        have hS7 := hS4.keep i4 (fun _ h => h)
        refine t_then ?_
        refine cnd (b := true) rfl (fun _ => ?_) (fun h => nomatch h)
        exact rg (pv (r_mi rfl) (pv (r_zi rfl) (nil (t_blk (t_then ⟨_, _, x2, env_has ⟨rfl, rfl, rfl, rfl, rfl, trivial⟩, (iT im4 (iT im5 im8)), hS7.sel [1, 2, 3] rfl, hm⟩)))))
      have hm := cfalse hb3 hm
      obtain ⟨u4, hx4, hm⟩ := bindS hm
      obtain ⟨of3, he3⟩ : ∃ z : Nat, z = (o_p0 + 0) + (Int.toNat x1) * 6 := ⟨_, rfl⟩
      refine qgT (d0 := 36) rfl rfl hb3 (qv (fun _ hq => r_fa rfl underlying59 rfl sizeOf57 rfl) (qgT (d0 := 36) rfl rfl hb3 (qv (fun _ hq => r_fa rfl underlying57 rfl sizeOf3 rfl) (qgT (d0 := 36) rfl rfl hb3 (qv (fun _ hq => r_ld rfl isAgg3 (hq.cell (hS4.cell0 (i := 0) ⟨rfl, rfl⟩ (j := 2) rfl))) (qgT (d0 := 36) rfl rfl hb3 (qv (fun _ hq => r_mp rfl) (qgT (d0 := 36) rfl rfl hb3 (qv (fun _ hq => r_mi rfl) (qgT (d0 := 36) rfl rfl hb3 (qv (fun _ hq => r_nc rfl) (qgT (d0 := 36) rfl rfl hb3 (qv (fun _ hq => r_fa rfl underlying62 rfl sizeOf60 rfl) (qgT (d0 := 36) rfl rfl hb3 (qv (fun _ hq => r_ixA rfl rfl (lenOk_some hln1) hx4 underlying60 sizeOf59 he3) (qgT (d0 := 36) rfl rfl hb3 (qv (fun _ hq => r_fa rfl underlying59 rfl sizeOf57 rfl) (qgT (d0 := 36) rfl rfl hb3 (qv (fun _ hq => r_fa rfl underlying57 rfl sizeOf3 rfl) (qgT (d0 := 36) rfl rfl hb3 (qv (fun _ hq => r_ld rfl isAgg3 (hq.cell ((Sep.segEl hS4 (q := 2) ⟨rfl, rfl⟩ hL_p0 enAllocHolder'_len hx4 he3).get (j := 2) rfl))) (qgT (d0 := 36) rfl rfl hb3 (qv (fun _ hq => r_ib rfl rfl rfl) (qgT (d0 := 36) rfl rfl hb3 (qv (fun _ hq => r_mb rfl) (?_))))))))))))))))))))))))))
      rcases Bool.eq_false_or_eq_true (u2.reach.to == u4.reach.to) with hb4 | hb4
      · have hm := ctrue hb4 hm
        obtain ⟨u5, hx5, hm⟩ := bindS hm
        obtain ⟨of4, he4⟩ : ∃ z : Nat, z = (o_p0 + 0) + (Int.toNat x1) * 6 := ⟨_, rfl⟩
        refine qgT (d0 := 49) rfl rfl hb4 (qv (fun _ hq => r_fa rfl underlying59 rfl sizeOf3 rfl) (qgT (d0 := 49) rfl rfl hb4 (qv (fun _ hq => r_ld rfl isAgg3 (hq.cell (hS4.cell0 (i := 0) ⟨rfl, rfl⟩ (j := 4) rfl))) (qgT (d0 := 49) rfl rfl hb4 (qv (fun _ hq => r_mp rfl) (qgT (d0 := 49) rfl rfl hb4 (qv (fun _ hq => r_mi rfl) (qgT (d0 := 49) rfl rfl hb4 (qv (fun _ hq => r_nc rfl) (qgT (d0 := 49) rfl rfl hb4 (qv (fun _ hq => r_fa rfl underlying62 rfl sizeOf60 rfl) (qgT (d0 := 49) rfl rfl hb4 (qv (fun _ hq => r_ixA rfl rfl (lenOk_some hln1) hx5 underlying60 sizeOf59 he4) (qgT (d0 := 49) rfl rfl hb4 (qv (fun _ hq => r_fa rfl underlying59 rfl sizeOf3 rfl) (qgT (d0 := 49) rfl rfl hb4 (qv (fun _ hq => r_ld rfl isAgg3 (hq.cell ((Sep.segEl hS4 (q := 2) ⟨rfl, rfl⟩ hL_p0 enAllocHolder'_len hx5 he4).get (j := 4) rfl))) (qgT (d0 := 49) rfl rfl hb4 (qv (fun _ hq => r_ib rfl rfl rfl) (qgT (d0 := 36) rfl rfl hb3 (qv (fun _ hq => r_pkt rfl hb4 rfl) (qv (fun _ hq => r_pkf rfl hb3 rfl) (qn fun w6 T4 i2 => ?_)))))))))))))))))))))))
        have im6 := i2.imm
        have hS5 := hS4.keep i2 (fun _ h => h)
        refine t_then ?_
        refine cnd rfl (fun hb5 => ?_) (fun hb5 => ?_)
        · have hm := ctrue hb5 hm
          exact rg (pv (r_mi rfl) (pv (r_zi rfl) (nil (t_blk (t_then ⟨_, _, x2, env_has ⟨rfl, rfl, rfl, rfl, rfl, trivial⟩, (iT im4 (iT im5 im6)), hS5.sel [1, 2, 3] rfl, hm⟩)))))
        have hm := cfalse hb5 hm
        exact skp (t_blk (t_then ⟨_, _, x1, env_has ⟨rfl, rfl, rfl, rfl, rfl, trivial⟩, (iT im4 (iT im5 im6)), hS5.sel [1, 2, 3] rfl, hm⟩))
      have hm := cfalse hb4 hm
      refine qgF (d0 := 49) rfl rfl (by rw [hb4]; rfl) (qgF (d0 := 49) rfl rfl (by rw [hb4]; rfl) (qgF (d0 := 49) rfl rfl (by rw [hb4]; rfl) (qgF (d0 := 49) rfl rfl (by rw [hb4]; rfl) (qgF (d0 := 49) rfl rfl (by rw [hb4]; rfl) (qgF (d0 := 49) rfl rfl (by rw [hb4]; rfl) (qgF (d0 := 49) rfl rfl (by rw [hb4]; rfl) (qgF (d0 := 49) rfl rfl (by rw [hb4]; rfl) (qgF (d0 := 49) rfl rfl (by rw [hb4]; rfl) (qgF (d0 := 49) rfl rfl (by rw [hb4]; rfl) (qgT (d0 := 36) rfl rfl hb3 (qv (fun _ hq => r_pkf rfl hb4 rfl) (qv (fun _ hq => r_pkf rfl hb3 rfl) (qn fun w7 T5 i3 => ?_)))))))))))))
      have im7 := i3.imm
      have hS6 := hS4.keep i3 (fun _ h => h)
      refine t_then ?_
      refine cnd (b := false) rfl (fun h => nomatch h) (fun _ => ?_)
      exact skp (t_blk (t_then ⟨_, _, x1, env_has ⟨rfl, rfl, rfl, rfl, rfl, trivial⟩, (iT im4 (iT im5 im7)), hS6.sel [1, 2, 3] rfl, hm⟩))
    rintro _ w3 ⟨J, T3, x3, rfl, im3, hS9, hm⟩
    rw [hkk1] at hm
    have hm := oI hm; subst hm
    exact rg (pv (r_ib rfl rfl rfl) (pv (r_mi rfl) (nil (t_then ⟨m1, Nat.lt_succ_self _, _, _, x3, (IntKind.wrap .i64 (x2 + 1)), env_has ⟨rfl, rfl, rfl, rfl, rfl, trivial⟩, (iT im2 im3), hS9.sel [0, 1, 2] rfl, hn1⟩))))
  have hm := cfalse hb1 hm
  have hm := oI hm; subst hm
  have hn1 : _ = Lp.brk _ := hn1
  subst hn1
  have hm := thn_brk hq1
  refine xt (x_then (x_then (x_eq (t_then ?_))))
  refine sq2 (rg (pv (r_mi rfl) (pv (r_zi rfl) (nil (t_then ?_)))))
  have hm := oI hm; subst hm
  exact rtn (ret1 rfl rfl ⟨_, rfl, _, (iT im1 im2), ⟨rfl, hS2.sel [0, 1, 2] rfl, trivial⟩⟩)

theorem alloc_desk_slot_sim {p0 : AllocDesk} {b_p0 o_p0 : Nat} {H_p0 : List Value → Assn} {a1 : OA} {n1 : Nat} {c1 : Nat} {p1 : Int} {r : AllocDesk} (hS : Sep g T0 w0 [R, segH (H_p0) enAllocHolder' p0.hold [iv p0.regs, .slice a1 n1 c1, iv p0.slots, iv p0.came], ownA rSeat 44 (.slice a1 n1 c1) p0.seats]) (hL_p0 : Ln b_p0 o_p0 H_p0) (hm : alloc_desk_slot p0 p1 = some r) :
    Calls Tryz.prog 36 #[pt b_p0 o_p0, iv p1] w0 (RetS T0 w0 fun T w v => ∃ (a2 : OA) (n2 : Nat) (c2 : Nat), v = .tuple #[] ∧ Sep g T w [R, segH (H_p0) enAllocHolder' r.hold [iv r.regs, .slice a2 n2 c2, iv r.slots, iv r.came], ownA rSeat 44 (.slice a2 n2 c2) r.seats] ∧ True) := by
  refine enter (args := [pt b_p0 o_p0, iv p1]) Tryz.func36 rfl Tryz.ntmps36 rfl fun J => ?_
  unfold alloc_desk_slot at hm
  refine sq2 (rs [0, 0, 0, 1, 0, 0, 0, 0, 1, 0, 0, 2] [0, 1, 2, 3, 4, 5, 6, 7, 8, 9, 10, 11] mix (by kernel_rfl) hS.lt fun w1 i1 => ?_)
  have im1 := i1.imm
  have hS1 := hS.keep i1 (fun _ h => h)
  obtain ⟨z_1, hln1, hm⟩ := bindS hm
  obtain ⟨u1, hx1, hm⟩ := bindS hm
  obtain ⟨b1, of1, cs1, k1, cp1, hv1, hp1, hl1, he1, hr1, hc1⟩ := (hS1.own (i := 2) ⟨rfl, rfl⟩).v.ixq hx1 rfl
  cases rSeat_open hr1
  obtain ⟨u2, hx2, hm⟩ := bindS hm
  refine s0 rfl trivial (fun _ => r_mp rfl) rfl (s0 rfl trivial (fun _ => r_nc rfl) rfl (s0 rfl trivial (fun _ => r_fa rfl underlying62 rfl sizeOf32 rfl) rfl (s1 rfl trivial (r_ld rfl isAgg32 (hS1.cellB (i := 1) ⟨rfl, rfl⟩ (lnSeg (k := 72) hL_p0 (lenOk_some hln1) enAllocHolder'_len rfl) (j := 1) rfl)) rfl (s0 rfl trivial (fun _ => r_mi rfl) rfl (s0 rfl trivial (fun _ => r_mp rfl) rfl (s0 rfl trivial (fun _ => r_nc rfl) rfl (s0 rfl trivial (fun _ => r_fa rfl underlying62 rfl sizeOf3 rfl) rfl (s1 rfl trivial (r_ld rfl isAgg3 (hS1.cellB (i := 1) ⟨rfl, rfl⟩ (lnSeg (k := 72) hL_p0 (lenOk_some hln1) enAllocHolder'_len rfl) (j := 2) rfl)) rfl (s0 rfl trivial (fun _ => r_bd (by kernel_rfl) rfl (u := .agg #[iv 0, iv p0.slots])) rfl (s0 rfl trivial (fun _ => r_ixe hv1 rfl underlying32 sizeOf44 hp1 hl1 he1) rfl (s2 [] rfl trivial rfl (by kernel_rfl) (stO (q := 2) (i := Int.toNat p1) (j := 0) (u := u2) (u' := (⟨0, p0.slots⟩ : Seat)) hS1 ⟨rfl, rfl⟩ hv1 (idx_some hx2).2.2 he1 rfl rfl rfl sizeOf44 rfl rfl rfl (fun c0 hc0 => by rw [storeL_all (r := rSeat) hc0 rfl]; exact (rSeat_mk (x := (⟨0, p0.slots⟩ : Seat))  : rSeat.rp _ _ _ _)) fun w2 im2 hS2 => ?_))))))))))))
  refine ⟨st0, ?_⟩
  refine se (t_then ?_)
  refine rg (pv (r_mp rfl) (pv (r_nc rfl) (pv (r_fa rfl underlying62 rfl sizeOf3 rfl) (pv (r_ld rfl isAgg3 (hS2.cellB (i := 1) ⟨rfl, rfl⟩ (lnSeg (k := 72) hL_p0 (lenOk_some hln1) enAllocHolder'_len rfl) (j := 2) rfl)) (pv (r_ib rfl rfl rfl) (pv (r_nc rfl) (pv (r_fa rfl underlying62 rfl sizeOf3 rfl) (wl rfl (stB (q := 1) (j := 2) hS2 ⟨rfl, rfl⟩ (lnSeg (k := 72) hL_p0 (lenOk_some hln1) enAllocHolder'_len rfl) rfl rfl rfl sizeOf3 rfl rfl rfl fun w3 im3 hS3 => ?_)))))))))
  have hm := oI hm; subst hm
  exact nil (end0 rfl ⟨_, rfl, _, (iT im1 (iT im2 im3)), ⟨_, _, _, rfl, hS3.sel [0, 1, 2] rfl, trivial⟩⟩)

theorem alloc_desk_step_sim {p0 : AllocDesk} {b_p0 o_p0 : Nat} {H_p0 : List Value → Assn} {a1 : OA} {n1 : Nat} {c1 : Nat} {p1 : AllocReach} {r : AllocDesk} (hS : Sep g T0 w0 [R, segH (H_p0) enAllocHolder' p0.hold [iv p0.regs, .slice a1 n1 c1, iv p0.slots, iv p0.came], ownA rSeat 44 (.slice a1 n1 c1) p0.seats]) (hL_p0 : Ln b_p0 o_p0 H_p0) (hm : alloc_desk_step p0 p1 = some r) :
    Calls Tryz.prog 19 #[pt b_p0 o_p0, .agg (cAllocReach p1).toArray] w0 (RetS T0 w0 fun T w v => ∃ (a7 : OA) (n7 : Nat) (c7 : Nat), v = .tuple #[] ∧ Sep g T w [R, segH (H_p0) enAllocHolder' r.hold [iv r.regs, .slice a7 n7 c7, iv r.slots, iv r.came], ownA rSeat 44 (.slice a7 n7 c7) r.seats] ∧ True) := by
  refine enter (args := [pt b_p0 o_p0, .agg (cAllocReach p1).toArray]) Tryz.func19 rfl Tryz.ntmps19 rfl fun J => ?_
  unfold alloc_desk_step at hm
  refine sq2 (rg (wl rfl (bxS (cs := (cAllocReach p1)) rfl rfl hS fun w1 b1 im1 hS1 => ?_)))
  refine nil (t_then ?_)
  refine sq2 ?_
  obtain ⟨z_1, hln1, hm⟩ := bindS hm
  refine rg (pv (r_mp rfl) (pv (r_nc rfl) (pv (r_fa rfl underlying62 rfl sizeOf3 rfl) (pv (r_ld rfl isAgg3 (hS1.cellB (i := 2) ⟨rfl, rfl⟩ (lnSeg (k := 72) hL_p0 (lenOk_some hln1) enAllocHolder'_len rfl) (j := 3) rfl)) (pv (r_ib rfl rfl rfl) (pv (r_nc rfl) (pv (r_fa rfl underlying62 rfl sizeOf3 rfl) (wl rfl (stB (q := 2) (j := 3) hS1 ⟨rfl, rfl⟩ (lnSeg (k := 72) hL_p0 (lenOk_some hln1) enAllocHolder'_len rfl) rfl rfl rfl sizeOf3 rfl rfl rfl fun w2 im2 hS2 => ?_)))))))))
  refine nil (t_then ?_)
  refine sq2 (sq2 ?_)
  obtain ⟨u1, hx1, hm⟩ := bindS hm
  refine rq mix (by kernel_rfl) hS2.lt (qv (fun _ hq => r_mp rfl) (qv (fun _ hq => r_nc rfl) (qv (fun _ hq => r_fa rfl underlying62 rfl sizeOf60 rfl) (qv (fun _ hq => r_mp rfl) (qv (fun _ hq => r_nc rfl) (qv (fun _ hq => r_fa rfl underlying62 rfl sizeOf3 rfl) (qv (fun _ hq => r_ld rfl isAgg3 (hq.cell (hS2.cellB (i := 2) ⟨rfl, rfl⟩ (lnSeg (k := 72) hL_p0 (lenOk_some hln1) enAllocHolder'_len rfl) (j := 0) rfl))) (qv (fun _ hq => r_slP rfl (lenOk_some hln1) ⟨_, rfl⟩ hx1 underlying60 sizeOf59) (qv (fun _ hq => r_lnV rfl (hS2.view (i := 2) ⟨rfl, rfl⟩ (vwSeg (m := 12) hL_p0 (lenOk_some hln1) enAllocHolder'_len enAllocHolder'_rp (by decide) hx1)) underlying89) (qv (fun _ hq => r_mi rfl) (qn fun w3 T1 i1 => ?_)))))))))))
  have im3 := i1.imm
  have hS3 := hS2.keep i1 (fun _ h => h)
  refine t_then ?_
  obtain ⟨o1, ho1, hq1⟩ := bindS hm
  obtain ⟨bd1, hbd1, ho1⟩ := loop_open ho1
  refine blk (wp_loop_ghost (fun m a w4 => ∃ (J : JV) (T2 : TP) (x3 : AllocDesk) (x2 : Int), a = env (nf 93) J [(0, pt b_p0 o_p0), (3, pt b1 0), (23, iv (List.length u1 : Int)), (24, iv x2)] ∧ Im T1 w3 T2 w4 ∧ Sep g T2 w4 [boxA b1 (cAllocReach p1), R, segH (H_p0) enAllocHolder' x3.hold [iv x3.regs, .slice a1 n1 c1, iv x3.slots, iv x3.came], ownA rSeat 44 (.slice a1 n1 c1) x3.seats] ∧ loopM bd1 m (x2, x3) = some o1) NN ⟨_, _, ({ p0 with came := IntKind.wrap .i64 (p0.came + 1) }), 0, env_has ⟨rfl, rfl, rfl, rfl, trivial⟩, Im.refl, hS3.sel [0, 1, 2, 3] rfl, ho1⟩ ?_)
  rintro m _ w4 ⟨J, T2, x3, x2, rfl, im4, hS4, ho1⟩
  obtain ⟨m1, z1, rfl, hm, hn1⟩ := loop_round ho1
  rw [hbd1] at hm
  refine sq2 (rg (pv (r_ib rfl rfl rfl) (nil (t_then ?_))))
  refine sq2 (cnd rfl (fun hb1 => ?_) (fun hb1 => ?_))
  · have hm := ctrue hb1 hm
    refine skp (t_then ?_)
    obtain ⟨kk1, hkk1, hm⟩ := jn_open hm
    refine cut (fun a w5 => ∃ (J : JV) (T3 : TP) (x5 : AllocDesk), a = env (nf 93) J [(0, pt b_p0 o_p0), (3, pt b1 0), (23, iv (List.length u1 : Int)), (24, iv x2)] ∧ Im T2 w4 T3 w5 ∧ Sep g T3 w5 [boxA b1 (cAllocReach p1), R, segH (H_p0) enAllocHolder' x5.hold [iv x5.regs, .slice a1 n1 c1, iv x5.slots, iv x5.came], ownA rSeat 44 (.slice a1 n1 c1) x5.seats] ∧ kk1 x5 = some z1) ?_ ?_
    · refine blk (sq2 (rg (pv (r_mi rfl) (pv (r_zi rfl) (nil (t_then ?_))))))
      refine sq2 ?_
      obtain ⟨z_2, hln2, hm⟩ := bindS hm
      obtain ⟨u2, hx2, hm⟩ := bindS hm
      obtain ⟨of1, he1⟩ : ∃ z : Nat, z = (o_p0 + 0) + (Int.toNat x2) * 6 := ⟨_, rfl⟩
      refine rg (pv (r_mp rfl) (pv (r_mi rfl) (pv (r_nc rfl) (pv (r_fa rfl underlying62 rfl sizeOf60 rfl) (pv (r_ixA rfl rfl (lenOk_some hln2) hx2 underlying60 sizeOf59 he1) (pv (r_zp rfl) (nil (t_then ?_))))))))
      refine sq2 (rq mix (by kernel_rfl) hS4.lt (qv (fun _ hq => r_mp rfl) (qv (fun _ hq => r_nc rfl) (qv (fun _ hq => r_fa rfl underlying59 rfl sizeOf4 rfl) (qv (fun _ hq => r_ld rfl isAgg4 (hq.cell ((Sep.segEl hS4 (q := 2) ⟨rfl, rfl⟩ hL_p0 enAllocHolder'_len hx2 he1).get (j := 5) rfl))) (qv (fun _ hq => r_mb rfl) (?_)))))))
      rcases Bool.eq_false_or_eq_true u2.held with hb2 | hb2
      · have hm := ctrue hb2 hm
        refine qgT (d0 := 36) rfl rfl hb2 (qv (fun _ hq => r_mp rfl) (qgT (d0 := 36) rfl rfl hb2 (qv (fun _ hq => r_nc rfl) (qgT (d0 := 36) rfl rfl hb2 (qv (fun _ hq => r_fa rfl underlying59 rfl sizeOf57 rfl) (qgT (d0 := 36) rfl rfl hb2 (qv (fun _ hq => r_fa rfl underlying57 rfl sizeOf3 rfl) (qgT (d0 := 36) rfl rfl hb2 (qv (fun _ hq => r_ld rfl isAgg3 (hq.cell ((Sep.segEl hS4 (q := 2) ⟨rfl, rfl⟩ hL_p0 enAllocHolder'_len hx2 he1).get (j := 2) rfl))) (qgT (d0 := 36) rfl rfl hb2 (qv (fun _ hq => r_fa rfl underlying57 rfl sizeOf3 rfl) (qgT (d0 := 36) rfl rfl hb2 (qv (fun _ hq => r_ld rfl isAgg3 (hq.cell (hS4.cell0 (i := 0) ⟨rfl, rfl⟩ (j := 1) rfl))) (qgT (d0 := 36) rfl rfl hb2 (qv (fun _ hq => r_ib rfl rfl rfl) (qv (fun _ hq => r_pkt rfl hb2 rfl) (qn fun w6 T4 i2 => ?_)))))))))))))))))
        have im6 := i2.imm
        have hS5 := hS4.keep i2 (fun _ h => h)
        refine t_then ?_
        refine cnd rfl (fun hb3 => ?_) (fun hb3 => ?_)
        · have hm := ctrue hb3 hm
          obtain ⟨u3, hx3, hm⟩ := bindS hm
          refine rg (pv (r_mp rfl) (pv (r_nc rfl) (pv (r_fa rfl underlying59 rfl sizeOf4 rfl) (wl rfl (stSeg (q := 2) (i := x2) (j := 5) (u := u3) (u' := { u3 with held := false }) hS5 ⟨rfl, rfl⟩ hL_p0 enAllocHolder'_len hx3 he1 rfl rfl rfl sizeOf4 rfl rfl rfl rfl fun w7 im7 hS6 => ?_)))))
          exact nil (t_blk (t_then ⟨_, _, ({ x3 with hold := List.set x3.hold (Int.toNat x2) ({ u3 with held := false }) }), env_has ⟨rfl, rfl, rfl, rfl, trivial⟩, (iT im6 im7), hS6.sel [0, 1, 2, 3] rfl, hm⟩))
        have hm := cfalse hb3 hm
        exact skp (t_blk (t_then ⟨_, _, x3, env_has ⟨rfl, rfl, rfl, rfl, trivial⟩, im6, hS5.sel [0, 1, 2, 3] rfl, hm⟩))
      have hm := cfalse hb2 hm
      refine qgF (d0 := 36) rfl rfl (by rw [hb2]; rfl) (qgF (d0 := 36) rfl rfl (by rw [hb2]; rfl) (qgF (d0 := 36) rfl rfl (by rw [hb2]; rfl) (qgF (d0 := 36) rfl rfl (by rw [hb2]; rfl) (qgF (d0 := 36) rfl rfl (by rw [hb2]; rfl) (qgF (d0 := 36) rfl rfl (by rw [hb2]; rfl) (qgF (d0 := 36) rfl rfl (by rw [hb2]; rfl) (qgF (d0 := 36) rfl rfl (by rw [hb2]; rfl) (qv (fun _ hq => r_pkf rfl hb2 rfl) (qn fun w8 T5 i3 => ?_)))))))))
      have im8 := i3.imm
      have hS7 := hS4.keep i3 (fun _ h => h)
      refine t_then ?_
      refine cnd (b := false) rfl (fun h => nomatch h) (fun _ => ?_)
      exact skp (t_blk (t_then ⟨_, _, x3, env_has ⟨rfl, rfl, rfl, rfl, trivial⟩, im8, hS7.sel [0, 1, 2, 3] rfl, hm⟩))
    rintro _ w5 ⟨J, T3, x5, rfl, im5, hS8, hm⟩
    rw [hkk1] at hm
    have hm := oI hm; subst hm
    exact rg (pv (r_ib rfl rfl rfl) (pv (r_mi rfl) (nil (t_then ⟨m1, Nat.lt_succ_self _, _, _, x5, (IntKind.wrap .i64 (x2 + 1)), env_has ⟨rfl, rfl, rfl, rfl, trivial⟩, (iT im4 im5), hS8.sel [0, 1, 2, 3] rfl, hn1⟩))))
  have hm := cfalse hb1 hm
  have hm := oI hm; subst hm
  have hn1 : _ = Lp.brk _ := hn1
  subst hn1
  have hm := thn_brk hq1
  refine xt (x_then (x_then (x_eq (t_then ?_))))
  refine sq2 (sq2 ?_)
  obtain ⟨y1, hx4, hm⟩ := bindS hm
  refine rg (pv (r_mp rfl) (wl rfl (calS cf33 rfl (alloc_desk_free_sim (p0 := x3) (H_p0 := H_p0) (hS4.bun [0, 1] [2, 3] rfl) hL_p0 hx4) rfl fun v1 T6 w9 im9 rv1 => ?_)))
  obtain ⟨rfl, hS9, _⟩ := rv1
  have hS9 := hS9.unb
  refine pv (r_zi rfl) (nil (t_then ?_))
  refine sq2 (rg (pv (r_mi rfl) (pv (r_ib rfl rfl rfl) (nil (t_then ?_)))))
  refine cnd rfl (fun hb5 => ?_) (fun hb5 => ?_)
  · have hm := ctrue hb5 hm
    refine sq2 ?_
    obtain ⟨y2, hx5, hm⟩ := bindS hm
    refine rg (pv (r_mp rfl) (pv (r_mi rfl) (pv (r_ldS rfl isAgg57 sizeOf57 rfl (hS9.cells0 (i := 0) ⟨rfl, rfl⟩ (o := 0) rfl) (cs := (cAllocReach p1))) (wl rfl (calS cf34 rfl (alloc_desk_take_sim (p0 := x3) (H_p0 := H_p0) (p1 := y1) (p2 := p1) (hS9.bun [1] [2, 3] rfl) hL_p0 hx5) rfl fun v2 T7 w10 im10 rv2 => ?_)))))
    obtain ⟨a2, n2, c2, rfl, hS10, _⟩ := rv2
    have hS10 := hS10.unb
    refine nil (t_then ?_)
    have hm := oI hm; subst hm
    exact rtn (r_then (ret0 rfl ⟨_, rfl, _, (iT im1 (iT im2 (iT im3 (iT im4 (iT im9 im10))))), ⟨_, _, _, rfl, hS10.sel [0, 1, 2] rfl, trivial⟩⟩))
  have hm := cfalse hb5 hm
  refine skp (t_then ?_)
  refine sq2 ?_
  obtain ⟨y3, hx6, hm⟩ := bindS hm
  refine rg (pv (r_mp rfl) (wl rfl (calS cf35 rfl (alloc_desk_last_sim (p0 := x3) (H_p0 := H_p0) (hS9.bun [0, 1] [2, 3] rfl) hL_p0 hx6) rfl fun v3 T8 w11 im11 rv3 => ?_)))
  obtain ⟨rfl, hS11, _⟩ := rv3
  have hS11 := hS11.unb
  refine pv (r_zi rfl) (nil (t_then ?_))
  refine sq2 (sq2 (rq mix (by kernel_rfl) hS11.lt (qv (fun _ hq => r_mi rfl) (qv (fun _ hq => r_ib rfl rfl rfl) (qv (fun _ hq => r_mb rfl) (?_))))))
  rcases Bool.eq_false_or_eq_true (decide (y3 < 0)) with hb6 | hb6
  · have hm := ctrue hb6 hm
    refine qgF (d0 := 62) rfl rfl (by rw [hb6]; rfl) (qgF (d0 := 62) rfl rfl (by rw [hb6]; rfl) (qgF (d0 := 62) rfl rfl (by rw [hb6]; rfl) (qgF (d0 := 62) rfl rfl (by rw [hb6]; rfl) (qgF (d0 := 62) rfl rfl (by rw [hb6]; rfl) (qgF (d0 := 62) rfl rfl (by rw [hb6]; rfl) (qgF (d0 := 62) rfl rfl (by rw [hb6]; rfl) (qgF (d0 := 62) rfl rfl (by rw [hb6]; rfl) (qgF (d0 := 62) rfl rfl (by rw [hb6]; rfl) (qgF (d0 := 62) rfl rfl (by rw [hb6]; rfl) (qgF (d0 := 62) rfl rfl (by rw [hb6]; rfl) (qv (fun _ hq => r_pkt rfl hb6 rfl) (qn fun w16 T13 i5 => ?_))))))))))))
    have im16 := i5.imm
    have hS16 := hS11.keep i5 (fun _ h => h)
    refine t_then ?_
    refine cnd (b := true) rfl (fun _ => ?_) (fun h => nomatch h)
    refine sq2 ?_
    obtain ⟨y7, hx12, hm⟩ := bindS hm
    refine rg (pv (r_mp rfl) (pv (r_fa rfl underlying57 rfl sizeOf3 rfl) (pv (r_ld rfl isAgg3 (hS16.cell0 (i := 0) ⟨rfl, rfl⟩ (j := 0) rfl)) (wl rfl (calS cf36 rfl (alloc_desk_slot_sim (p0 := x3) (H_p0 := H_p0) (p1 := p1.r) (hS16.bun [1] [2, 3] rfl) hL_p0 hx12) rfl fun v7 T14 w17 im17 rv7 => ?_)))))
    obtain ⟨a6, n6, c6, rfl, hS17, _⟩ := rv7
    have hS17 := hS17.unb
    refine nil (t_then ?_)
    have hm := oI hm; subst hm
    exact rtn (r_then (ret0 rfl ⟨_, rfl, _, (iT im1 (iT im2 (iT im3 (iT im4 (iT im9 (iT im11 (iT im16 im17))))))), ⟨_, _, _, rfl, hS17.sel [0, 1, 2] rfl, trivial⟩⟩))
  have hm := cfalse hb6 hm
  obtain ⟨z_3, hln3, hm⟩ := bindS hm
  obtain ⟨u4, hx7, hm⟩ := bindS hm
  obtain ⟨of2, he2⟩ : ∃ z : Nat, z = (o_p0 + 0) + (Int.toNat y3) * 6 := ⟨_, rfl⟩
  refine qgT (d0 := 62) rfl rfl hb6 (qv (fun _ hq => r_mp rfl) (qgT (d0 := 62) rfl rfl hb6 (qv (fun _ hq => r_mi rfl) (qgT (d0 := 62) rfl rfl hb6 (qv (fun _ hq => r_nc rfl) (qgT (d0 := 62) rfl rfl hb6 (qv (fun _ hq => r_fa rfl underlying62 rfl sizeOf60 rfl) (qgT (d0 := 62) rfl rfl hb6 (qv (fun _ hq => r_ixA rfl rfl (lenOk_some hln3) hx7 underlying60 sizeOf59 he2) (qgT (d0 := 62) rfl rfl hb6 (qv (fun _ hq => r_fa rfl underlying59 rfl sizeOf57 rfl) (qgT (d0 := 62) rfl rfl hb6 (qv (fun _ hq => r_fa rfl underlying57 rfl sizeOf3 rfl) (qgT (d0 := 62) rfl rfl hb6 (qv (fun _ hq => r_ld rfl isAgg3 (hq.cell ((Sep.segEl hS11 (q := 2) ⟨rfl, rfl⟩ hL_p0 enAllocHolder'_len hx7 he2).get (j := 2) rfl))) (qgT (d0 := 62) rfl rfl hb6 (qv (fun _ hq => r_fa rfl underlying57 rfl sizeOf3 rfl) (qgT (d0 := 62) rfl rfl hb6 (qv (fun _ hq => r_ld rfl isAgg3 (hq.cell (hS11.cell0 (i := 0) ⟨rfl, rfl⟩ (j := 2) rfl))) (qgT (d0 := 62) rfl rfl hb6 (qv (fun _ hq => r_ib rfl rfl rfl) (qv (fun _ hq => r_pkf rfl hb6 rfl) (qn fun w12 T9 i4 => ?_)))))))))))))))))))))))
  have im12 := i4.imm
  have hS12 := hS11.keep i4 (fun _ h => h)
  refine t_then ?_
  refine cnd rfl (fun hb7 => ?_) (fun hb7 => ?_)
  · have hm := ctrue hb7 hm
    refine sq2 ?_
    obtain ⟨y4, hx8, hm⟩ := bindS hm
    refine rg (pv (r_mp rfl) (pv (r_fa rfl underlying57 rfl sizeOf3 rfl) (pv (r_ld rfl isAgg3 (hS12.cell0 (i := 0) ⟨rfl, rfl⟩ (j := 0) rfl)) (wl rfl (calS cf36 rfl (alloc_desk_slot_sim (p0 := x3) (H_p0 := H_p0) (p1 := p1.r) (hS12.bun [1] [2, 3] rfl) hL_p0 hx8) rfl fun v4 T10 w13 im13 rv4 => ?_)))))
    obtain ⟨a3, n3, c3, rfl, hS13, _⟩ := rv4
    have hS13 := hS13.unb
    refine nil (t_then ?_)
    have hm := oI hm; subst hm
    exact rtn (r_then (ret0 rfl ⟨_, rfl, _, (iT im1 (iT im2 (iT im3 (iT im4 (iT im9 (iT im11 (iT im12 im13))))))), ⟨_, _, _, rfl, hS13.sel [0, 1, 2] rfl, trivial⟩⟩))
  have hm := cfalse hb7 hm
  refine skp (t_then ?_)
  refine sq2 ?_
  obtain ⟨u5, hx9, hm⟩ := bindS hm
  obtain ⟨of3, he3⟩ : ∃ z : Nat, z = (o_p0 + 0) + (Int.toNat y3) * 6 := ⟨_, rfl⟩
  obtain ⟨y5, hx10, hm⟩ := bindS hm
  refine rg (pv (r_mp rfl) (pv (r_mp rfl) (pv (r_mi rfl) (pv (r_nc rfl) (pv (r_fa rfl underlying62 rfl sizeOf60 rfl) (pv (r_ixA rfl rfl (lenOk_some hln3) hx9 underlying60 sizeOf59 he3) (pv (r_fa rfl underlying59 rfl sizeOf57 rfl) (pv (r_fa rfl underlying57 rfl sizeOf3 rfl) (pv (r_ld rfl isAgg3 ((Sep.segEl hS12 (q := 2) ⟨rfl, rfl⟩ hL_p0 enAllocHolder'_len hx9 he3).get (j := 0) rfl)) (wl rfl (calS cf36 rfl (alloc_desk_slot_sim (p0 := x3) (H_p0 := H_p0) (p1 := u5.reach.r) (hS12.bun [0, 1] [2, 3] rfl) hL_p0 hx10) rfl fun v5 T11 w14 im14 rv5 => ?_)))))))))))
  obtain ⟨a4, n4, c4, rfl, hS14, _⟩ := rv5
  have hS14 := hS14.unb
  refine nil (t_then ?_)
  obtain ⟨y6, hx11, hm⟩ := bindS hm
  refine rg (pv (r_mp rfl) (pv (r_mi rfl) (pv (r_ldS rfl isAgg57 sizeOf57 rfl (hS14.cells0 (i := 0) ⟨rfl, rfl⟩ (o := 0) rfl) (cs := (cAllocReach p1))) (wl rfl (calS cf34 rfl (alloc_desk_take_sim (p0 := y5) (H_p0 := H_p0) (p1 := y3) (p2 := p1) (hS14.bun [1] [2, 3] rfl) hL_p0 hx11) rfl fun v6 T12 w15 im15 rv6 => ?_)))))
  obtain ⟨a5, n5, c5, rfl, hS15, _⟩ := rv6
  have hS15 := hS15.unb
  have hm := oI hm; subst hm
  exact nil (end0 rfl ⟨_, rfl, _, (iT im1 (iT im2 (iT im3 (iT im4 (iT im9 (iT im11 (iT im12 (iT im14 im15)))))))), ⟨_, _, _, rfl, hS15.sel [0, 1, 2] rfl, trivial⟩⟩)

theorem alloc_Assign_sim {p0 : Proc} {a1 : OA} {c1 : Nat} {a2 : OA} {c2 : Nat} {p1 : Int} {r : (List Seat) × Int × Int} (hS : Sep g T0 w0 [R]) (h1 : SlR rGSlot T0 w0 (sv a1 p0.Objects c1) p0.Objects) (h2 : SlR rGBlock T0 w0 (sv a2 p0.Blocks c2) p0.Blocks) (hm : alloc_Assign p0 p1 = some r) :
    Calls Tryz.prog 6 #[.agg (cProc p0 a1 c1 a2 c2).toArray, iv p1] w0 (RetS T0 w0 fun T w v => ∃ (a10 : OA) (n8 : Nat) (c10 : Nat), v = .tuple #[.slice a10 n8 c10, iv r.2.1, iv r.2.2] ∧ Sep g T w [R, ownA rSeat 44 (.slice a10 n8 c10) r.1] ∧ True) := by
  refine enter (args := [.agg (cProc p0 a1 c1 a2 c2).toArray, iv p1]) Tryz.func6 rfl Tryz.ntmps6 rfl fun J => ?_
  unfold alloc_Assign at hm
  refine sq2 (rg (wl rfl (bxS (cs := (cProc p0 a1 c1 a2 c2)) rfl rfl hS fun w1 b1 im1 hS1 => ?_)))
  refine pv (r_zs rfl) (pv (r_zi rfl) (pv (r_zi rfl) (nil (t_then ?_))))
  refine sq2 (sq2 (rg (pv (r_mi rfl) (pv (r_ib rfl rfl rfl) (pv (r_mb rfl) (?_))))))
  rcases Bool.eq_false_or_eq_true (decide (p1 < 0)) with hb1 | hb1
  · have hm := ctrue hb1 hm
    refine gF (d0 := 13) rfl rfl (by rw [hb1]; rfl) (gF (d0 := 13) rfl rfl (by rw [hb1]; rfl) (pv (r_pkt rfl hb1 rfl) (nil (t_then ?_))))
    refine cnd (b := true) rfl (fun _ => ?_) (fun h => nomatch h)
    refine sq2 (rg (pv (r_zs rfl) (pv (r_zi rfl) (pv (r_zi rfl) (nil (t_then ?_))))))
    have hS17 := hS1.nilO rSeat 44
    have hm := oI hm; subst hm
    exact rtn (r_then (retN (vs := [.slice none 0 0, iv 0, iv 1]) rfl ⟨rfl, rfl, rfl, trivial⟩ rfl ⟨_, rfl, _, im1, ⟨_, _, _, rfl, hS17.sel [2, 0] rfl, trivial⟩⟩))
  have hm := cfalse hb1 hm
  refine gT (d0 := 13) rfl rfl hb1 (pv (r_mi rfl) (gT (d0 := 13) rfl rfl hb1 (pv (r_ib rfl rfl rfl) (pv (r_pkf rfl hb1 rfl) (nil (t_then ?_))))))
  refine cnd rfl (fun hb2 => ?_) (fun hb2 => ?_)
  · have hm := ctrue hb2 hm
    refine sq2 (rg (pv (r_zs rfl) (pv (r_zi rfl) (pv (r_zi rfl) (nil (t_then ?_))))))
    have hS2 := hS1.nilO rSeat 44
    have hm := oI hm; subst hm
    exact rtn (r_then (retN (vs := [.slice none 0 0, iv 0, iv 1]) rfl ⟨rfl, rfl, rfl, trivial⟩ rfl ⟨_, rfl, _, im1, ⟨_, _, _, rfl, hS2.sel [2, 0] rfl, trivial⟩⟩))
  have hm := cfalse hb2 hm
  refine skp (t_then ?_)
  refine sq2 ?_
  obtain ⟨y1, hx1, hm⟩ := bindS hm
  refine rg (pv (r_ldS rfl isAgg31 sizeOf31 rfl (hS1.cells0 (i := 0) ⟨rfl, rfl⟩ (o := 0) rfl) (cs := (cProc p0 a1 c1 a2 c2))) (wl rfl (calS cf12 rfl (alloc_ranges_sim (p0 := p0) (hS1.bun [1] [] rfl) (h1.mono im1) (h2.mono im1) hx1) rfl fun v1 T1 w2 im2 rv1 => ?_)))
  obtain ⟨a3, n1, c3, rfl, hS3, _⟩ := rv1
  have hS3 := hS3.unb
  refine pv (r_zs rfl) (nil (t_then ?_))
  refine sq2 (rg (pv (r_mi rfl) (pv (r_bd (by kernel_rfl) rfl (u := .agg #[iv 0, iv 0, iv 0, .bool false, iv 0, .bool false, iv 0, iv 0, iv 0, .bool false, iv 0, .bool false, iv 0, iv 0, iv 0, .bool false, iv 0, .bool false, iv 0, iv 0, iv 0, .bool false, iv 0, .bool false, iv 0, iv 0, iv 0, .bool false, iv 0, .bool false, iv 0, iv 0, iv 0, .bool false, iv 0, .bool false, iv 0, iv 0, iv 0, .bool false, iv 0, .bool false, iv 0, iv 0, iv 0, .bool false, iv 0, .bool false, iv 0, iv 0, iv 0, .bool false, iv 0, .bool false, iv 0, iv 0, iv 0, .bool false, iv 0, .bool false, iv 0, iv 0, iv 0, .bool false, iv 0, .bool false, iv 0, iv 0, iv 0, .bool false, iv 0, .bool false, iv p1, .slice none 0 0, iv 0, iv 0])) (wl rfl (bxS (cs := [iv 0, iv 0, iv 0, .bool false, iv 0, .bool false, iv 0, iv 0, iv 0, .bool false, iv 0, .bool false, iv 0, iv 0, iv 0, .bool false, iv 0, .bool false, iv 0, iv 0, iv 0, .bool false, iv 0, .bool false, iv 0, iv 0, iv 0, .bool false, iv 0, .bool false, iv 0, iv 0, iv 0, .bool false, iv 0, .bool false, iv 0, iv 0, iv 0, .bool false, iv 0, .bool false, iv 0, iv 0, iv 0, .bool false, iv 0, .bool false, iv 0, iv 0, iv 0, .bool false, iv 0, .bool false, iv 0, iv 0, iv 0, .bool false, iv 0, .bool false, iv 0, iv 0, iv 0, .bool false, iv 0, .bool false, iv 0, iv 0, iv 0, .bool false, iv 0, .bool false, iv p1, .slice none 0 0, iv 0, iv 0]) rfl rfl hS3 fun w3 b2 im3 hS4 => ?_)))))
  refine pv (r_zp rfl) (nil (t_then ?_))
  refine sq2 (sq2 (rg (pv (r_ms rfl) (pv (r_lnV rfl (hS4.own (i := 2) ⟨rfl, rfl⟩).v underlying53) (pv (r_mi rfl) (nil (t_then ?_)))))))
  obtain ⟨o1, ho1, hq1⟩ := bindS hm
  obtain ⟨bd1, hbd1, ho1⟩ := loop_open ho1
  have hS5 := hS4.nilO rSeat 44
  refine blk (wp_loop_ghost (fun m a w4 => ∃ (J : JV) (T2 : TP) (x3 : AllocDesk) (a4 : OA) (n2 : Nat) (c4 : Nat) (x2 : Int), a = env (nf 59) J [(7, .slice a3 n1 c3), (8, pt b2 0), (23, iv (List.length y1 : Int)), (24, iv x2)] ∧ Im T1 w3 T2 w4 ∧ Sep g T2 w4 [ownA rSeat 44 (.slice a4 n2 c4) x3.seats, segH (boxA b2) enAllocHolder' x3.hold [iv x3.regs, .slice a4 n2 c4, iv x3.slots, iv x3.came], R, ownA rAllocReach 57 (.slice a3 n1 c3) y1] ∧ loopM bd1 m (x2, x3) = some o1) NN ⟨_, _, (⟨List.replicate 12 (⟨(⟨0, 0, 0, false⟩ : AllocReach), 0, false⟩ : AllocHolder), p1, [], 0, 0⟩ : AllocDesk), _, _, _, 0, env_has ⟨rfl, rfl, rfl, rfl, trivial⟩, Im.refl, hS5.sel [0, 1, 2, 3] rfl, ho1⟩ ?_)
  rintro m _ w4 ⟨J, T2, x3, a4, n2, c4, x2, rfl, im4, hS6, ho1⟩
  obtain ⟨m1, z1, rfl, hm, hn1⟩ := loop_round ho1
  rw [hbd1] at hm
  refine sq2 (rg (pv (r_ib rfl rfl rfl) (nil (t_then ?_))))
  refine sq2 (cnd rfl (fun hb3 => ?_) (fun hb3 => ?_))
  · have hm := ctrue hb3 hm
    refine skp (t_then ?_)
    refine sq2 (blk ?_)
    obtain ⟨z_1, hln1, hm⟩ := bindS hm
    refine rg (pv (r_mp rfl) (pv (r_mp rfl) (pv (r_nc rfl) (pv (r_fa rfl underlying62 rfl sizeOf32 rfl) (pv (r_ld rfl isAgg32 (hS6.cellB (i := 1) ⟨rfl, rfl⟩ (lnSeg (k := 72) (lnBox b2) (lenOk_some hln1) enAllocHolder'_len rfl) (j := 1) rfl)) (pv (r_bd (by kernel_rfl) rfl (u := .agg #[iv 0, iv (-1)])) (wl rfl (bsS (r := rSeat) (l := ([(⟨0, (-1)⟩ : Seat)] : List Seat)) (css := [[iv 0, iv (-1)]]) hS6 underlying32 sizeOf44 zeroValue44 rfl rfl (by kernel_rfl) rfl ⟨(rSeat_mk (x := (⟨0, (-1)⟩ : Seat))  : rSeat.rp _ _ _ _), trivial⟩ rfl rfl fun w5 a5 n3 c5 im5 hS7 => ?_))))))))
    obtain ⟨z_2, hro1, hm⟩ := bindS hm
    refine wl rfl (apO (q := 1) (l := x3.seats) (us := ([(⟨0, (-1)⟩ : Seat)] : List Seat)) hS7 ⟨rfl, rfl⟩ rfl rfl (hS7.own (i := 0) ⟨rfl, rfl⟩).v underlying32 el44 (room_some hro1) fun w6 a6 n4 c6 im6 hS8 => ?_)
    refine pv (r_nc rfl) (pv (r_fa rfl underlying62 rfl sizeOf32 rfl) (wl rfl (stB (q := 2) (j := 1) hS8 ⟨rfl, rfl⟩ (lnSeg (k := 72) (lnBox b2) (lenOk_some hln1) enAllocHolder'_len rfl) rfl rfl rfl sizeOf32 rfl rfl rfl fun w7 im7 hS9 => ?_)))
    refine nil (t_blk (t_then ?_))
    have hm := oI hm; subst hm
    exact rg (pv (r_ib rfl rfl rfl) (pv (r_mi rfl) (nil (t_then ⟨m1, Nat.lt_succ_self _, _, _, ({ x3 with seats := x3.seats ++ ([(⟨0, (-1)⟩ : Seat)] : List Seat) }), _, _, _, (IntKind.wrap .i64 (x2 + 1)), env_has ⟨rfl, rfl, rfl, rfl, trivial⟩, (iT im4 (iT im5 (iT im6 im7))), hS9.sel [1, 2, 3, 4] rfl, hn1⟩))))
  have hm := cfalse hb3 hm
  have hm := oI hm; subst hm
  have hn1 : _ = Lp.brk _ := hn1
  subst hn1
  have hm := thn_brk hq1
  refine xt (x_then (x_then (x_eq (t_then ?_))))
  refine sq2 ?_
  obtain ⟨y2, hx2, hm⟩ := bindS hm
  refine rg (pv (r_ms rfl) (wl rfl (calS cf13 rfl (slices_DeleteFunc_2_sim (p0 := y1) (hS6.bun [0, 1, 2] [3] rfl)  hx2) rfl fun v2 T3 w8 im8 rv2 => ?_)))
  obtain ⟨a7, n5, c7, rfl, hS10, _⟩ := rv2
  have hS10 := hS10.unb
  refine pv (r_zs rfl) (nil (t_then ?_))
  refine sq2 ?_
  obtain ⟨y3, hx3, hm⟩ := bindS hm
  refine rg (pv (r_ms rfl) (wl rfl (calS cf15 rfl (slices_SortFunc_sim (p0 := y2) (hS10.bun [0, 1, 2] [3] rfl)  hx3) rfl fun v3 T4 w9 im9 rv3 => ?_)))
  obtain ⟨rfl, hS11, _⟩ := rv3
  have hS11 := hS11.unb
  refine nil (t_then ?_)
  refine sq2 (sq2 (rg (pv (r_ms rfl) (pv (r_lnV rfl (hS11.own (i := 3) ⟨rfl, rfl⟩).v underlying53) (pv (r_mi rfl) (nil (t_then ?_)))))))
  obtain ⟨o1, ho1, hq1⟩ := bindS hm
  obtain ⟨bd1, hbd1, ho1⟩ := loop_open ho1
  refine blk (wp_loop_ghost (fun m a w10 => ∃ (J : JV) (T5 : TP) (x6 : AllocDesk) (a8 : OA) (n6 : Nat) (c8 : Nat) (x5 : Int), a = env (nf 59) J [(8, pt b2 0), (41, .slice a7 n5 c7), (42, iv (List.length y3 : Int)), (43, iv x5)] ∧ Im T4 w9 T5 w10 ∧ Sep g T5 w10 [ownA rSeat 44 (.slice a8 n6 c8) x6.seats, segH (boxA b2) enAllocHolder' x6.hold [iv x6.regs, .slice a8 n6 c8, iv x6.slots, iv x6.came], R, ownA rAllocReach 57 (.slice a7 n5 c7) y3] ∧ loopM bd1 m (x5, x6) = some o1) NN ⟨_, _, x3, _, _, _, 0, env_has ⟨rfl, rfl, rfl, rfl, trivial⟩, Im.refl, hS11.sel [0, 1, 2, 3] rfl, ho1⟩ ?_)
  rintro m _ w10 ⟨J, T5, x6, a8, n6, c8, x5, rfl, im10, hS12, ho1⟩
  obtain ⟨m1, z1, rfl, hm, hn1⟩ := loop_round ho1
  rw [hbd1] at hm
  refine sq2 (rg (pv (r_ib rfl rfl rfl) (nil (t_then ?_))))
  refine sq2 (cnd rfl (fun hb4 => ?_) (fun hb4 => ?_))
  · have hm := ctrue hb4 hm
    refine skp (t_then ?_)
    refine sq2 (blk (sq2 ?_))
    obtain ⟨u1, hx4, hm⟩ := bindS hm
    obtain ⟨b3, of1, cs1, k1, cp1, hv1, hp1, hl1, he1, hr1, hc1⟩ := (hS12.own (i := 3) ⟨rfl, rfl⟩).v.ixq hx4 rfl
    cases rAllocReach_open hr1
    refine rg (pv (r_ixe hv1 rfl underlying53 sizeOf57 hp1 hl1 he1) (pv (r_ldS rfl isAgg57 sizeOf57 rfl hc1 (cs := (cAllocReach u1))) (wl rfl (alS (zs := [iv 0, iv 0, iv 0, .bool false]) zeroValue57 rfl hS12 fun w11 b4 im11 hS13 => ?_))))
    refine wl rfl (st0B (q := 0) hS13 ⟨rfl, rfl⟩ rfl rfl rfl sizeOf57 rfl rfl rfl fun w12 im12 hS14 => ?_)
    refine nil (t_then ?_)
    obtain ⟨y4, hx5, hm⟩ := bindS hm
    refine rg (pv (r_mp rfl) (pv (r_ldS rfl isAgg57 sizeOf57 rfl (hS14.cells0 (i := 0) ⟨rfl, rfl⟩ (o := 0) rfl) (cs := (cAllocReach u1))) (wl rfl (calS cf19 rfl (alloc_desk_step_sim (p0 := x6) (H_p0 := boxA b2) (p1 := u1) (hS14.bun [3, 4] [2, 1] rfl) (lnBox b2) hx5) rfl fun v4 T6 w13 im13 rv4 => ?_))))
    obtain ⟨a9, n7, c9, rfl, hS15, _⟩ := rv4
    have hS15 := hS15.unb
    refine nil (t_blk (t_then ?_))
    have hm := oI hm; subst hm
    exact rg (pv (r_ib rfl rfl rfl) (pv (r_mi rfl) (nil (t_then ⟨m1, Nat.lt_succ_self _, _, _, y4, _, _, _, (IntKind.wrap .i64 (x5 + 1)), env_has ⟨rfl, rfl, rfl, rfl, trivial⟩, (iT im10 (iT im11 (iT im12 im13))), hS15.sel [3, 2, 0, 1] rfl, hn1⟩))))
  have hm := cfalse hb4 hm
  have hm := oI hm; subst hm
  have hn1 : _ = Lp.brk _ := hn1
  subst hn1
  have hm := thn_brk hq1
  refine xt (x_then (x_then (x_eq (t_then ?_))))
  refine sq2 ?_
  obtain ⟨z_3, hln2, hm⟩ := bindS hm
  refine rq mix (by kernel_rfl) hS12.lt (qv (fun _ hq => r_mp rfl) (qv (fun _ hq => r_nc rfl) (qv (fun _ hq => r_fa rfl underlying62 rfl sizeOf32 rfl) (qv (fun _ hq => r_ld rfl isAgg32 (hq.cell (hS12.cellB (i := 1) ⟨rfl, rfl⟩ (lnSeg (k := 72) (lnBox b2) (lenOk_some hln2) enAllocHolder'_len rfl) (j := 1) rfl))) (qv (fun _ hq => r_mp rfl) (qv (fun _ hq => r_nc rfl) (qv (fun _ hq => r_fa rfl underlying62 rfl sizeOf3 rfl) (qv (fun _ hq => r_ld rfl isAgg3 (hq.cell (hS12.cellB (i := 1) ⟨rfl, rfl⟩ (lnSeg (k := 72) (lnBox b2) (lenOk_some hln2) enAllocHolder'_len rfl) (j := 2) rfl))) (qv (fun _ hq => r_zs rfl) (qv (fun _ hq => r_zi rfl) (qv (fun _ hq => r_zi rfl) (qn fun w14 T7 i1 => ?_))))))))))))
  have im14 := i1.imm
  have hS16 := hS12.keep i1 (fun _ h => h)
  refine t_then ?_
  have hm := oI hm; subst hm
  exact rtn (retN (vs := [.slice a8 n6 c8, iv x6.slots, iv 0]) rfl ⟨rfl, rfl, rfl, trivial⟩ rfl ⟨_, rfl, _, (iT im1 (iT im2 (iT im3 (iT im4 (iT im8 (iT im9 (iT im10 im14))))))), ⟨_, _, _, rfl, hS16.sel [2, 0] rfl, trivial⟩⟩)

theorem law24_awake_sim  {r : Bool} (hS : Sep g T0 w0 [R])  (hm : law24_awake = some r) :
    Calls Tryz.prog 5 #[] w0 (RetS T0 w0 fun T w v => v = .bool r ∧ Sep g T w [R] ∧ True) := by
  refine enter (args := []) Tryz.func5 rfl Tryz.ntmps5 rfl fun J => ?_
  unfold law24_awake at hm
  refine sq2 (rg (pv (r_zb rfl) (nil (t_then ?_))))
  refine sq2 (rg (pv (r_bd (by kernel_rfl) rfl (u := .agg #[iv 11, iv 0, iv (-1), iv (-1), iv 0, iv 0, iv 0, iv 0, .int .u32 0, .slice none 0 0, .bool false])) (pv (r_bd (by kernel_rfl) rfl (u := .agg #[iv 11, iv 1, iv (-1), iv (-1), iv 0, iv 0, iv 0, iv 0, .int .u32 0, .slice none 0 0, .bool false])) (pv (r_bd (by kernel_rfl) rfl (u := .agg #[iv 3, iv 2, iv 0, iv 1, iv 1, iv 0, iv 0, iv 0, .int .u32 0, .slice none 0 0, .bool false])) (pv (r_bd (by kernel_rfl) rfl (u := .agg #[iv 10, iv (-1), iv 2, iv (-1), iv 0, iv 0, iv 0, iv 0, .int .u32 0, .slice none 0 0, .bool false])) (wl rfl (bsS (r := rIns) (l := ([(⟨11, 0, (-1), (-1), 0, 0, 0, 0, 0, [], false⟩ : Ins), (⟨11, 1, (-1), (-1), 0, 0, 0, 0, 0, [], false⟩ : Ins), (⟨3, 2, 0, 1, 1, 0, 0, 0, 0, [], false⟩ : Ins), (⟨10, (-1), 2, (-1), 0, 0, 0, 0, 0, [], false⟩ : Ins)] : List Ins)) (css := [[iv 11, iv 0, iv (-1), iv (-1), iv 0, iv 0, iv 0, iv 0, .int .u32 0, .slice none 0 0, .bool false], [iv 11, iv 1, iv (-1), iv (-1), iv 0, iv 0, iv 0, iv 0, .int .u32 0, .slice none 0 0, .bool false], [iv 3, iv 2, iv 0, iv 1, iv 1, iv 0, iv 0, iv 0, .int .u32 0, .slice none 0 0, .bool false], [iv 10, iv (-1), iv 2, iv (-1), iv 0, iv 0, iv 0, iv 0, .int .u32 0, .slice none 0 0, .bool false]]) hS underlying50 sizeOf49 zeroValue49 rfl rfl (by kernel_rfl) rfl ⟨(rIns_mk (x := (⟨11, 0, (-1), (-1), 0, 0, 0, 0, 0, [], false⟩ : Ins)) SlR_nil : rIns.rp _ _ _ _), (rIns_mk (x := (⟨11, 1, (-1), (-1), 0, 0, 0, 0, 0, [], false⟩ : Ins)) SlR_nil : rIns.rp _ _ _ _), (rIns_mk (x := (⟨3, 2, 0, 1, 1, 0, 0, 0, 0, [], false⟩ : Ins)) SlR_nil : rIns.rp _ _ _ _), (rIns_mk (x := (⟨10, (-1), 2, (-1), 0, 0, 0, 0, 0, [], false⟩ : Ins)) SlR_nil : rIns.rp _ _ _ _), trivial⟩ rfl rfl fun w1 a1 n1 c1 im1 hS1 => ?_)))))))
  refine pv (r_zs rfl) (nil (t_then ?_))
  refine sq2 (rg (pv (r_ms rfl) (pv (r_bd (by kernel_rfl) rfl (u := .agg #[.slice a1 n1 c1, iv 3, iv (-1), iv 0, iv 0])) (?_))))
  obtain ⟨T1, im2, hS2, h1⟩ := hS1.seal 0 ⟨rfl, rfl⟩
  have hsh := h1.len
  subst hsh
  refine wl rfl (bsS (r := rGBlock) (l := ([(⟨([(⟨11, 0, (-1), (-1), 0, 0, 0, 0, 0, [], false⟩ : Ins), (⟨11, 1, (-1), (-1), 0, 0, 0, 0, 0, [], false⟩ : Ins), (⟨3, 2, 0, 1, 1, 0, 0, 0, 0, [], false⟩ : Ins), (⟨10, (-1), 2, (-1), 0, 0, 0, 0, 0, [], false⟩ : Ins)] : List Ins), 3, (-1), 0, 0⟩ : GBlock)] : List GBlock)) (css := [[.slice a1 (List.length ([(⟨11, 0, (-1), (-1), 0, 0, 0, 0, 0, [], false⟩ : Ins), (⟨11, 1, (-1), (-1), 0, 0, 0, 0, 0, [], false⟩ : Ins), (⟨3, 2, 0, 1, 1, 0, 0, 0, 0, [], false⟩ : Ins), (⟨10, (-1), 2, (-1), 0, 0, 0, 0, 0, [], false⟩ : Ins)] : List Ins)) c1, iv 3, iv (-1), iv 0, iv 0]]) hS2 underlying29 sizeOf52 zeroValue52 rfl rfl (by kernel_rfl) rfl ⟨(rGBlock_mk (x := (⟨([(⟨11, 0, (-1), (-1), 0, 0, 0, 0, 0, [], false⟩ : Ins), (⟨11, 1, (-1), (-1), 0, 0, 0, 0, 0, [], false⟩ : Ins), (⟨3, 2, 0, 1, 1, 0, 0, 0, 0, [], false⟩ : Ins), (⟨10, (-1), 2, (-1), 0, 0, 0, 0, 0, [], false⟩ : Ins)] : List Ins), 3, (-1), 0, 0⟩ : GBlock)) h1 : rGBlock.rp _ _ _ _), trivial⟩ rfl rfl fun w2 a2 n2 c2 im3 hS3 => ?_)
  refine pv (r_bd (by kernel_rfl) rfl (u := .agg #[.string ⟨([] : List UInt8).toArray⟩, .bool true, iv 0, iv 3, .slice none 0 0, .slice a2 n2 c2])) (?_)
  obtain ⟨T2, im4, hS4, h2⟩ := hS3.seal 0 ⟨rfl, rfl⟩
  have hsh := h2.len
  subst hsh
  obtain ⟨y1, hx1, hm⟩ := bindS hm
  refine wl rfl (calS cf6 rfl (alloc_Assign_sim (p0 := (⟨([] : List UInt8), true, 0, 3, [], ([(⟨([(⟨11, 0, (-1), (-1), 0, 0, 0, 0, 0, [], false⟩ : Ins), (⟨11, 1, (-1), (-1), 0, 0, 0, 0, 0, [], false⟩ : Ins), (⟨3, 2, 0, 1, 1, 0, 0, 0, 0, [], false⟩ : Ins), (⟨10, (-1), 2, (-1), 0, 0, 0, 0, 0, [], false⟩ : Ins)] : List Ins), 3, (-1), 0, 0⟩ : GBlock)] : List GBlock)⟩ : Proc)) (p1 := 12) (hS4.bun [2] [] rfl) SlR_nil h2 hx1) rfl fun v1 T3 w3 im5 rv1 => ?_)
  obtain ⟨a3, n3, c3, rfl, hS5, _⟩ := rv1
  have hS5 := hS5.unb
  refine pv (r_mv rfl) (pv (r_ex (v := .slice a3 n3 c3) rfl rfl) (pv (r_ex (v := iv y1.2.1) rfl rfl) (pv (r_ex (v := iv y1.2.2) rfl rfl) (pv (r_zs rfl) (pv (r_zi rfl) (pv (r_zi rfl) (nil (t_then ?_))))))))
  refine sq2 (rg (pv (r_mi rfl) (pv (r_ib rfl rfl rfl) (pv (r_mb rfl) (?_)))))
  rcases Bool.eq_false_or_eq_true (y1.2.2 == 0) with hb1 | hb1
  · have hm := ctrue hb1 hm
    refine gT (d0 := 21) rfl rfl hb1 (pv (r_mi rfl) (gT (d0 := 21) rfl rfl hb1 (pv (r_ib rfl rfl rfl) (pv (r_pkt rfl hb1 rfl) (pv (r_mb rfl) (?_))))))
    rcases Bool.eq_false_or_eq_true (y1.2.1 == 0) with hb2 | hb2
    · have hm := ctrue hb2 hm
      refine gT (d0 := 25) rfl rfl hb2 (pv (r_ms rfl) (gT (d0 := 25) rfl rfl hb2 (pv (r_lnV rfl (hS5.own (i := 1) ⟨rfl, rfl⟩).v underlying32) (gT (d0 := 25) rfl rfl hb2 (pv (r_ib rfl rfl rfl) (pv (r_pkt rfl hb2 rfl) (pv (r_mb rfl) (?_))))))))
      rcases Bool.eq_false_or_eq_true ((List.length y1.1 : Int) == 3) with hb3 | hb3
      · have hm := ctrue hb3 hm
        obtain ⟨u1, hx2, hm⟩ := bindS hm
        obtain ⟨b1, of1, cs1, k1, cp1, hv1, hp1, hl1, he1, hr1, hc1⟩ := (hS5.own (i := 1) ⟨rfl, rfl⟩).v.ixq hx2 rfl
        cases rSeat_open hr1
        refine gT (d0 := 30) rfl rfl hb3 (pv (r_ms rfl) (gT (d0 := 30) rfl rfl hb3 (pv (r_ixe hv1 rfl underlying32 sizeOf44 hp1 hl1 he1) (gT (d0 := 30) rfl rfl hb3 (pv (r_fa rfl underlying44 rfl sizeOf3 rfl) (gT (d0 := 30) rfl rfl hb3 (pv (r_ld rfl isAgg3 (hc1.get (j := 0) rfl)) (gT (d0 := 30) rfl rfl hb3 (pv (r_ib rfl rfl rfl) (pv (r_pkt rfl hb3 rfl) (pv (r_mb rfl) (?_))))))))))))
        rcases Bool.eq_false_or_eq_true (u1.Reg == 8) with hb4 | hb4
        · have hm := ctrue hb4 hm
          obtain ⟨u2, hx3, hm⟩ := bindS hm
          obtain ⟨b2, of2, cs2, k2, cp2, hv2, hp2, hl2, he2, hr2, hc2⟩ := (hS5.own (i := 1) ⟨rfl, rfl⟩).v.ixq hx3 rfl
          cases rSeat_open hr2
          refine gT (d0 := 37) rfl rfl hb4 (pv (r_ms rfl) (gT (d0 := 37) rfl rfl hb4 (pv (r_ixe hv2 rfl underlying32 sizeOf44 hp2 hl2 he2) (gT (d0 := 37) rfl rfl hb4 (pv (r_fa rfl underlying44 rfl sizeOf3 rfl) (gT (d0 := 37) rfl rfl hb4 (pv (r_ld rfl isAgg3 (hc2.get (j := 0) rfl)) (gT (d0 := 37) rfl rfl hb4 (pv (r_ib rfl rfl rfl) (pv (r_pkt rfl hb4 rfl) (pv (r_mb rfl) (?_))))))))))))
          rcases Bool.eq_false_or_eq_true (u2.Reg == 9) with hb5 | hb5
          · have hm := ctrue hb5 hm
            obtain ⟨u3, hx4, hm⟩ := bindS hm
            obtain ⟨b3, of3, cs3, k3, cp3, hv3, hp3, hl3, he3, hr3, hc3⟩ := (hS5.own (i := 1) ⟨rfl, rfl⟩).v.ixq hx4 rfl
            cases rSeat_open hr3
            refine gT (d0 := 44) rfl rfl hb5 (pv (r_ms rfl) (gT (d0 := 44) rfl rfl hb5 (pv (r_ixe hv3 rfl underlying32 sizeOf44 hp3 hl3 he3) (gT (d0 := 44) rfl rfl hb5 (pv (r_fa rfl underlying44 rfl sizeOf3 rfl) (gT (d0 := 44) rfl rfl hb5 (pv (r_ld rfl isAgg3 (hc3.get (j := 0) rfl)) (gT (d0 := 44) rfl rfl hb5 (pv (r_ib rfl rfl rfl) (pv (r_pkt rfl hb5 rfl) (pv (r_zb rfl) (nil (t_then ?_)))))))))))))
            have hm := oI hm; subst hm
            exact rtn (ret1 rfl rfl ⟨_, rfl, _, (iT im1 (iT im2 (iT im3 (iT im4 im5)))), ⟨rfl, hS5.sel [0] rfl, trivial⟩⟩)
          have hm := cfalse hb5 hm
          refine gF (d0 := 44) rfl rfl (by rw [hb5]; rfl) (gF (d0 := 44) rfl rfl (by rw [hb5]; rfl) (gF (d0 := 44) rfl rfl (by rw [hb5]; rfl) (gF (d0 := 44) rfl rfl (by rw [hb5]; rfl) (gF (d0 := 44) rfl rfl (by rw [hb5]; rfl) (pv (r_pkf rfl hb5 rfl) (pv (r_zb rfl) (nil (t_then ?_))))))))
          have hm := oI hm; subst hm
          exact rtn (ret1 rfl rfl ⟨_, rfl, _, (iT im1 (iT im2 (iT im3 (iT im4 im5)))), ⟨rfl, hS5.sel [0] rfl, trivial⟩⟩)
        have hm := cfalse hb4 hm
        refine gF (d0 := 37) rfl rfl (by rw [hb4]; rfl) (gF (d0 := 37) rfl rfl (by rw [hb4]; rfl) (gF (d0 := 37) rfl rfl (by rw [hb4]; rfl) (gF (d0 := 37) rfl rfl (by rw [hb4]; rfl) (gF (d0 := 37) rfl rfl (by rw [hb4]; rfl) (pv (r_pkf rfl hb4 rfl) (pv (r_mb rfl) (gF (d0 := 44) rfl rfl rfl (gF (d0 := 44) rfl rfl rfl (gF (d0 := 44) rfl rfl rfl (gF (d0 := 44) rfl rfl rfl (gF (d0 := 44) rfl rfl rfl (pv (r_pkf rfl rfl rfl) (pv (r_zb rfl) (nil (t_then ?_)))))))))))))))
        have hm := oI hm; subst hm
        exact rtn (ret1 rfl rfl ⟨_, rfl, _, (iT im1 (iT im2 (iT im3 (iT im4 im5)))), ⟨rfl, hS5.sel [0] rfl, trivial⟩⟩)
      have hm := cfalse hb3 hm
      refine gF (d0 := 30) rfl rfl (by rw [hb3]; rfl) (gF (d0 := 30) rfl rfl (by rw [hb3]; rfl) (gF (d0 := 30) rfl rfl (by rw [hb3]; rfl) (gF (d0 := 30) rfl rfl (by rw [hb3]; rfl) (gF (d0 := 30) rfl rfl (by rw [hb3]; rfl) (pv (r_pkf rfl hb3 rfl) (pv (r_mb rfl) (gF (d0 := 37) rfl rfl rfl (gF (d0 := 37) rfl rfl rfl (gF (d0 := 37) rfl rfl rfl (gF (d0 := 37) rfl rfl rfl (gF (d0 := 37) rfl rfl rfl (pv (r_pkf rfl rfl rfl) (pv (r_mb rfl) (gF (d0 := 44) rfl rfl rfl (gF (d0 := 44) rfl rfl rfl (gF (d0 := 44) rfl rfl rfl (gF (d0 := 44) rfl rfl rfl (gF (d0 := 44) rfl rfl rfl (pv (r_pkf rfl rfl rfl) (pv (r_zb rfl) (nil (t_then ?_))))))))))))))))))))))
      have hm := oI hm; subst hm
      exact rtn (ret1 rfl rfl ⟨_, rfl, _, (iT im1 (iT im2 (iT im3 (iT im4 im5)))), ⟨rfl, hS5.sel [0] rfl, trivial⟩⟩)
    have hm := cfalse hb2 hm
    refine gF (d0 := 25) rfl rfl (by rw [hb2]; rfl) (gF (d0 := 25) rfl rfl (by rw [hb2]; rfl) (gF (d0 := 25) rfl rfl (by rw [hb2]; rfl) (pv (r_pkf rfl hb2 rfl) (pv (r_mb rfl) (gF (d0 := 30) rfl rfl rfl (gF (d0 := 30) rfl rfl rfl (gF (d0 := 30) rfl rfl rfl (gF (d0 := 30) rfl rfl rfl (gF (d0 := 30) rfl rfl rfl (pv (r_pkf rfl rfl rfl) (pv (r_mb rfl) (gF (d0 := 37) rfl rfl rfl (gF (d0 := 37) rfl rfl rfl (gF (d0 := 37) rfl rfl rfl (gF (d0 := 37) rfl rfl rfl (gF (d0 := 37) rfl rfl rfl (pv (r_pkf rfl rfl rfl) (pv (r_mb rfl) (gF (d0 := 44) rfl rfl rfl (gF (d0 := 44) rfl rfl rfl (gF (d0 := 44) rfl rfl rfl (gF (d0 := 44) rfl rfl rfl (gF (d0 := 44) rfl rfl rfl (pv (r_pkf rfl rfl rfl) (pv (r_zb rfl) (nil (t_then ?_)))))))))))))))))))))))))))
    have hm := oI hm; subst hm
    exact rtn (ret1 rfl rfl ⟨_, rfl, _, (iT im1 (iT im2 (iT im3 (iT im4 im5)))), ⟨rfl, hS5.sel [0] rfl, trivial⟩⟩)
  have hm := cfalse hb1 hm
  refine gF (d0 := 21) rfl rfl (by rw [hb1]; rfl) (gF (d0 := 21) rfl rfl (by rw [hb1]; rfl) (pv (r_pkf rfl hb1 rfl) (pv (r_mb rfl) (gF (d0 := 25) rfl rfl rfl (gF (d0 := 25) rfl rfl rfl (gF (d0 := 25) rfl rfl rfl (pv (r_pkf rfl rfl rfl) (pv (r_mb rfl) (gF (d0 := 30) rfl rfl rfl (gF (d0 := 30) rfl rfl rfl (gF (d0 := 30) rfl rfl rfl (gF (d0 := 30) rfl rfl rfl (gF (d0 := 30) rfl rfl rfl (pv (r_pkf rfl rfl rfl) (pv (r_mb rfl) (gF (d0 := 37) rfl rfl rfl (gF (d0 := 37) rfl rfl rfl (gF (d0 := 37) rfl rfl rfl (gF (d0 := 37) rfl rfl rfl (gF (d0 := 37) rfl rfl rfl (pv (r_pkf rfl rfl rfl) (pv (r_mb rfl) (gF (d0 := 44) rfl rfl rfl (gF (d0 := 44) rfl rfl rfl (gF (d0 := 44) rfl rfl rfl (gF (d0 := 44) rfl rfl rfl (gF (d0 := 44) rfl rfl rfl (pv (r_pkf rfl rfl rfl) (pv (r_zb rfl) (nil (t_then ?_)))))))))))))))))))))))))))))))
  have hm := oI hm; subst hm
  exact rtn (ret1 rfl rfl ⟨_, rfl, _, (iT im1 (iT im2 (iT im3 (iT im4 im5)))), ⟨rfl, hS5.sel [0] rfl, trivial⟩⟩)

theorem ref24_with_sim {p0 : ref24Reach} {p1 : Int} {r : ref24Reach} (hS : Sep g T0 w0 [R])  (hm : ref24_with p0 p1 = some r) :
    Calls Tryz.prog 63 #[.agg (cref24Reach p0).toArray, iv p1] w0 (RetS T0 w0 fun T w v => v = .agg (cref24Reach r).toArray ∧ Sep g T w [R] ∧ True) := by
  refine enter (args := [.agg (cref24Reach p0).toArray, iv p1]) Tryz.func63 rfl Tryz.ntmps63 rfl fun J => ?_
  unfold ref24_with at hm
  refine sq2 (rg (wl rfl (bxS (cs := (cref24Reach p0)) rfl rfl hS fun w1 b1 im1 hS1 => ?_)))
  refine wl rfl (alS (zs := [iv 0, iv 0, iv 0, .bool false]) zeroValue73 rfl hS1 fun w2 b2 im2 hS2 => ?_)
  refine nil (t_then ?_)
  refine sq2 (sq2 (rg (pv (r_fa rfl underlying73 rfl sizeOf4 rfl) (pv (r_ld rfl isAgg4 (hS2.cell0 (i := 1) ⟨rfl, rfl⟩ (j := 3) rfl)) (pv (r_nt rfl) (nil (t_then ?_)))))))
  refine cnd rfl (fun hb1 => ?_) (fun hb1 => ?_)
  · have hm := ctrue hb1 hm
    refine sq2 (rg (pv (r_fa rfl underlying73 rfl sizeOf3 rfl) (pv (r_ld rfl isAgg3 (hS2.cell0 (i := 1) ⟨rfl, rfl⟩ (j := 0) rfl)) (pv (r_mi rfl) (pv (r_mi rfl) (pv (r_bd (by kernel_rfl) rfl (u := .agg #[iv p0.R, iv p1, iv p1, .bool true])) (wl rfl (st0B (q := 0) hS2 ⟨rfl, rfl⟩ rfl rfl rfl sizeOf73 rfl rfl rfl fun w3 im3 hS3 => ?_))))))))
    refine nil (t_then ?_)
    have hm := oI hm; subst hm
    exact rtn (r_then (retN (vs := [.agg #[iv p0.R, iv p1, iv p1, .bool true]]) rfl ⟨rvS rfl isAgg73 sizeOf73 rfl (hS3.bx (i := 0) ⟨rfl, rfl⟩), trivial⟩ rfl ⟨_, rfl, _, (iT im1 (iT im2 im3)), ⟨rfl, hS3.sel [2] rfl, trivial⟩⟩))
  have hm := cfalse hb1 hm
  refine skp (t_then ?_)
  refine sq2 (rg (pv (r_fa rfl underlying73 rfl sizeOf3 rfl) (pv (r_ld rfl isAgg3 (hS2.cell0 (i := 1) ⟨rfl, rfl⟩ (j := 0) rfl)) (pv (r_fa rfl underlying73 rfl sizeOf3 rfl) (pv (r_ld rfl isAgg3 (hS2.cell0 (i := 1) ⟨rfl, rfl⟩ (j := 1) rfl)) (pv (r_mi rfl) (pv (r_imn rfl rfl) (pv (r_fa rfl underlying73 rfl sizeOf3 rfl) (pv (r_ld rfl isAgg3 (hS2.cell0 (i := 1) ⟨rfl, rfl⟩ (j := 2) rfl)) (pv (r_mi rfl) (pv (r_imx rfl rfl) (pv (r_bd (by kernel_rfl) rfl (u := .agg #[iv p0.R, iv (min p0.From p1), iv (max p0.To p1), .bool true])) (wl rfl (st0B (q := 0) hS2 ⟨rfl, rfl⟩ rfl rfl rfl sizeOf73 rfl rfl rfl fun w4 im4 hS4 => ?_))))))))))))))
  refine nil (t_then ?_)
  have hm := oI hm; subst hm
  exact rtn (retN (vs := [.agg #[iv p0.R, iv (min p0.From p1), iv (max p0.To p1), .bool true]]) rfl ⟨rvS rfl isAgg73 sizeOf73 rfl (hS4.bx (i := 0) ⟨rfl, rfl⟩), trivial⟩ rfl ⟨_, rfl, _, (iT im1 (iT im2 im4)), ⟨rfl, hS4.sel [2] rfl, trivial⟩⟩)

theorem ref13_fields_sim {p0 : Int} {r : (List Bool)} (hS : Sep g T0 w0 [R])  (hm : ref13_fields p0 = some r) :
    Calls Tryz.prog 88 #[iv p0] w0 (RetS T0 w0 fun T w v => ∃ (a15 : OA) (c15 : Nat), v = sv a15 r c15 ∧ Sep g T w [R] ∧ SlR rBool T w (sv a15 r c15) r ∧ True) := by
  refine enter (args := [iv p0]) Tryz.func88 rfl Tryz.ntmps88 rfl fun J => ?_
  unfold ref13_fields at hm
  refine sq2 (rg (pv (r_zs rfl) (nil (t_then ?_))))
  refine sq2 (rg (wl rfl (bsS (r := rBool) (l := ([true, false, false, false, false, false, false, true, false, true] : List Bool)) (css := [[.bool true], [.bool false], [.bool false], [.bool false], [.bool false], [.bool false], [.bool false], [.bool true], [.bool false], [.bool true]]) hS underlying39 sizeOf4 zeroValue4 rfl rfl (by kernel_rfl) rfl ⟨rfl, rfl, rfl, rfl, rfl, rfl, rfl, rfl, rfl, rfl, trivial⟩ rfl rfl fun w1 a1 n1 c1 im1 hS1 => ?_)))
  refine wl rfl (bsS (r := rBool) (l := ([true, true, false, false, false, false, false, false, false, true] : List Bool)) (css := [[.bool true], [.bool true], [.bool false], [.bool false], [.bool false], [.bool false], [.bool false], [.bool false], [.bool false], [.bool true]]) hS1 underlying39 sizeOf4 zeroValue4 rfl rfl (by kernel_rfl) rfl ⟨rfl, rfl, rfl, rfl, rfl, rfl, rfl, rfl, rfl, rfl, trivial⟩ rfl rfl fun w2 a2 n2 c2 im2 hS2 => ?_)
  refine wl rfl (bsS (r := rBool) (l := ([true, true, true, true, false, false, false, false, false, true] : List Bool)) (css := [[.bool true], [.bool true], [.bool true], [.bool true], [.bool false], [.bool false], [.bool false], [.bool false], [.bool false], [.bool true]]) hS2 underlying39 sizeOf4 zeroValue4 rfl rfl (by kernel_rfl) rfl ⟨rfl, rfl, rfl, rfl, rfl, rfl, rfl, rfl, rfl, rfl, trivial⟩ rfl rfl fun w3 a3 n3 c3 im3 hS3 => ?_)
  refine wl rfl (bsS (r := rBool) (l := ([true, true, false, true, false, false, false, false, false, true] : List Bool)) (css := [[.bool true], [.bool true], [.bool false], [.bool true], [.bool false], [.bool false], [.bool false], [.bool false], [.bool false], [.bool true]]) hS3 underlying39 sizeOf4 zeroValue4 rfl rfl (by kernel_rfl) rfl ⟨rfl, rfl, rfl, rfl, rfl, rfl, rfl, rfl, rfl, rfl, trivial⟩ rfl rfl fun w4 a4 n4 c4 im4 hS4 => ?_)
  refine wl rfl (bsS (r := rBool) (l := ([true, true, false, false, false, true, true, false, false, true] : List Bool)) (css := [[.bool true], [.bool true], [.bool false], [.bool false], [.bool false], [.bool true], [.bool true], [.bool false], [.bool false], [.bool true]]) hS4 underlying39 sizeOf4 zeroValue4 rfl rfl (by kernel_rfl) rfl ⟨rfl, rfl, rfl, rfl, rfl, rfl, rfl, rfl, rfl, rfl, trivial⟩ rfl rfl fun w5 a5 n5 c5 im5 hS5 => ?_)
  refine wl rfl (bsS (r := rBool) (l := ([false, true, true, false, false, true, true, false, false, true] : List Bool)) (css := [[.bool false], [.bool true], [.bool true], [.bool false], [.bool false], [.bool true], [.bool true], [.bool false], [.bool false], [.bool true]]) hS5 underlying39 sizeOf4 zeroValue4 rfl rfl (by kernel_rfl) rfl ⟨rfl, rfl, rfl, rfl, rfl, rfl, rfl, rfl, rfl, rfl, trivial⟩ rfl rfl fun w6 a6 n6 c6 im6 hS6 => ?_)
  refine wl rfl (bsS (r := rBool) (l := ([true, false, false, false, true, true, false, false, false, true] : List Bool)) (css := [[.bool true], [.bool false], [.bool false], [.bool false], [.bool true], [.bool true], [.bool false], [.bool false], [.bool false], [.bool true]]) hS6 underlying39 sizeOf4 zeroValue4 rfl rfl (by kernel_rfl) rfl ⟨rfl, rfl, rfl, rfl, rfl, rfl, rfl, rfl, rfl, rfl, trivial⟩ rfl rfl fun w7 a7 n7 c7 im7 hS7 => ?_)
  refine wl rfl (bsS (r := rBool) (l := ([true, false, false, false, true, true, false, false, false, true] : List Bool)) (css := [[.bool true], [.bool false], [.bool false], [.bool false], [.bool true], [.bool true], [.bool false], [.bool false], [.bool false], [.bool true]]) hS7 underlying39 sizeOf4 zeroValue4 rfl rfl (by kernel_rfl) rfl ⟨rfl, rfl, rfl, rfl, rfl, rfl, rfl, rfl, rfl, rfl, trivial⟩ rfl rfl fun w8 a8 n8 c8 im8 hS8 => ?_)
  refine wl rfl (bsS (r := rBool) (l := ([true, false, false, false, true, false, false, false, true, true] : List Bool)) (css := [[.bool true], [.bool false], [.bool false], [.bool false], [.bool true], [.bool false], [.bool false], [.bool false], [.bool true], [.bool true]]) hS8 underlying39 sizeOf4 zeroValue4 rfl rfl (by kernel_rfl) rfl ⟨rfl, rfl, rfl, rfl, rfl, rfl, rfl, rfl, rfl, rfl, trivial⟩ rfl rfl fun w9 a9 n9 c9 im9 hS9 => ?_)
  refine wl rfl (bsS (r := rBool) (l := ([false, true, false, false, false, false, false, false, false, false] : List Bool)) (css := [[.bool false], [.bool true], [.bool false], [.bool false], [.bool false], [.bool false], [.bool false], [.bool false], [.bool false], [.bool false]]) hS9 underlying39 sizeOf4 zeroValue4 rfl rfl (by kernel_rfl) rfl ⟨rfl, rfl, rfl, rfl, rfl, rfl, rfl, rfl, rfl, rfl, trivial⟩ rfl rfl fun w10 a10 n10 c10 im10 hS10 => ?_)
  refine wl rfl (bsS (r := rBool) (l := ([true, false, false, false, false, false, false, false, false, true] : List Bool)) (css := [[.bool true], [.bool false], [.bool false], [.bool false], [.bool false], [.bool false], [.bool false], [.bool false], [.bool false], [.bool true]]) hS10 underlying39 sizeOf4 zeroValue4 rfl rfl (by kernel_rfl) rfl ⟨rfl, rfl, rfl, rfl, rfl, rfl, rfl, rfl, rfl, rfl, trivial⟩ rfl rfl fun w11 a11 n11 c11 im11 hS11 => ?_)
  refine wl rfl (bsS (r := rBool) (l := ([false, false, false, false, false, false, false, false, false, false] : List Bool)) (css := [[.bool false], [.bool false], [.bool false], [.bool false], [.bool false], [.bool false], [.bool false], [.bool false], [.bool false], [.bool false]]) hS11 underlying39 sizeOf4 zeroValue4 rfl rfl (by kernel_rfl) rfl ⟨rfl, rfl, rfl, rfl, rfl, rfl, rfl, rfl, rfl, rfl, trivial⟩ rfl rfl fun w12 a12 n12 c12 im12 hS12 => ?_)
  obtain ⟨T1, im13, hS13, h1⟩ := hS12.seal 11 ⟨rfl, rfl⟩
  have hsh := h1.len
  subst hsh
  obtain ⟨T2, im14, hS14, h2⟩ := hS13.seal 10 ⟨rfl, rfl⟩
  have hsh := h2.len
  subst hsh
  obtain ⟨T3, im15, hS15, h3⟩ := hS14.seal 9 ⟨rfl, rfl⟩
  have hsh := h3.len
  subst hsh
  obtain ⟨T4, im16, hS16, h4⟩ := hS15.seal 8 ⟨rfl, rfl⟩
  have hsh := h4.len
  subst hsh
  obtain ⟨T5, im17, hS17, h5⟩ := hS16.seal 7 ⟨rfl, rfl⟩
  have hsh := h5.len
  subst hsh
  obtain ⟨T6, im18, hS18, h6⟩ := hS17.seal 6 ⟨rfl, rfl⟩
  have hsh := h6.len
  subst hsh
  obtain ⟨T7, im19, hS19, h7⟩ := hS18.seal 5 ⟨rfl, rfl⟩
  have hsh := h7.len
  subst hsh
  obtain ⟨T8, im20, hS20, h8⟩ := hS19.seal 4 ⟨rfl, rfl⟩
  have hsh := h8.len
  subst hsh
  obtain ⟨T9, im21, hS21, h9⟩ := hS20.seal 3 ⟨rfl, rfl⟩
  have hsh := h9.len
  subst hsh
  obtain ⟨T10, im22, hS22, h10⟩ := hS21.seal 2 ⟨rfl, rfl⟩
  have hsh := h10.len
  subst hsh
  obtain ⟨T11, im23, hS23, h11⟩ := hS22.seal 1 ⟨rfl, rfl⟩
  have hsh := h11.len
  subst hsh
  obtain ⟨T12, im24, hS24, h12⟩ := hS23.seal 0 ⟨rfl, rfl⟩
  have hsh := h12.len
  subst hsh
  refine wl rfl (bsS (r := (rSl rBool)) (l := ([[], ([true, false, false, false, false, false, false, true, false, true] : List Bool), ([true, true, false, false, false, false, false, false, false, true] : List Bool), ([true, true, true, true, false, false, false, false, false, true] : List Bool), ([true, true, false, true, false, false, false, false, false, true] : List Bool), ([true, true, false, false, false, true, true, false, false, true] : List Bool), ([false, true, true, false, false, true, true, false, false, true] : List Bool), ([true, false, false, false, true, true, false, false, false, true] : List Bool), ([true, false, false, false, true, true, false, false, false, true] : List Bool), ([true, false, false, false, true, false, false, false, true, true] : List Bool), ([false, true, false, false, false, false, false, false, false, false] : List Bool), ([true, false, false, false, false, false, false, false, false, true] : List Bool), ([false, false, false, false, false, false, false, false, false, false] : List Bool)] : List (List Bool))) (css := [[.slice none 0 0], [.slice a1 (List.length ([true, false, false, false, false, false, false, true, false, true] : List Bool)) c1], [.slice a2 (List.length ([true, true, false, false, false, false, false, false, false, true] : List Bool)) c2], [.slice a3 (List.length ([true, true, true, true, false, false, false, false, false, true] : List Bool)) c3], [.slice a4 (List.length ([true, true, false, true, false, false, false, false, false, true] : List Bool)) c4], [.slice a5 (List.length ([true, true, false, false, false, true, true, false, false, true] : List Bool)) c5], [.slice a6 (List.length ([false, true, true, false, false, true, true, false, false, true] : List Bool)) c6], [.slice a7 (List.length ([true, false, false, false, true, true, false, false, false, true] : List Bool)) c7], [.slice a8 (List.length ([true, false, false, false, true, true, false, false, false, true] : List Bool)) c8], [.slice a9 (List.length ([true, false, false, false, true, false, false, false, true, true] : List Bool)) c9], [.slice a10 (List.length ([false, true, false, false, false, false, false, false, false, false] : List Bool)) c10], [.slice a11 (List.length ([true, false, false, false, false, false, false, false, false, true] : List Bool)) c11], [.slice a12 (List.length ([false, false, false, false, false, false, false, false, false, false] : List Bool)) c12]]) hS24 underlying79 sizeOf39 zeroValue39 rfl rfl (by kernel_rfl) rfl ⟨⟨_, rfl, SlR_nil⟩, ⟨_, rfl, (h1.mono (iT im14 (iT im15 (iT im16 (iT im17 (iT im18 (iT im19 (iT im20 (iT im21 (iT im22 (iT im23 im24)))))))))))⟩, ⟨_, rfl, (h2.mono (iT im15 (iT im16 (iT im17 (iT im18 (iT im19 (iT im20 (iT im21 (iT im22 (iT im23 im24))))))))))⟩, ⟨_, rfl, (h3.mono (iT im16 (iT im17 (iT im18 (iT im19 (iT im20 (iT im21 (iT im22 (iT im23 im24)))))))))⟩, ⟨_, rfl, (h4.mono (iT im17 (iT im18 (iT im19 (iT im20 (iT im21 (iT im22 (iT im23 im24))))))))⟩, ⟨_, rfl, (h5.mono (iT im18 (iT im19 (iT im20 (iT im21 (iT im22 (iT im23 im24)))))))⟩, ⟨_, rfl, (h6.mono (iT im19 (iT im20 (iT im21 (iT im22 (iT im23 im24))))))⟩, ⟨_, rfl, (h7.mono (iT im20 (iT im21 (iT im22 (iT im23 im24)))))⟩, ⟨_, rfl, (h8.mono (iT im21 (iT im22 (iT im23 im24))))⟩, ⟨_, rfl, (h9.mono (iT im22 (iT im23 im24)))⟩, ⟨_, rfl, (h10.mono (iT im23 im24))⟩, ⟨_, rfl, (h11.mono im24)⟩, ⟨_, rfl, h12⟩, trivial⟩ rfl rfl fun w13 a13 n13 c13 im25 hS25 => ?_)
  refine pv (r_zs rfl) (nil (t_then ?_))
  refine sq2 (sq2 (rg (pv (r_mi rfl) (pv (r_ib rfl rfl rfl) (pv (r_mb rfl) (?_))))))
  rcases Bool.eq_false_or_eq_true (decide (p0 < 1)) with hb1 | hb1
  · have hm := ctrue hb1 hm
    refine gF (d0 := 19) rfl rfl (by rw [hb1]; rfl) (gF (d0 := 19) rfl rfl (by rw [hb1]; rfl) (pv (r_pkt rfl hb1 rfl) (nil (t_then ?_))))
    refine cnd (b := true) rfl (fun _ => ?_) (fun h => nomatch h)
    refine sq2 (rg (pv (r_zs rfl) (nil (t_then ?_))))
    have hm := oI hm; subst hm
    exact rtn (r_then (ret1 rfl rfl ⟨_, rfl, _, (iT im1 (iT im2 (iT im3 (iT im4 (iT im5 (iT im6 (iT im7 (iT im8 (iT im9 (iT im10 (iT im11 (iT im12 (iT im13 (iT im14 (iT im15 (iT im16 (iT im17 (iT im18 (iT im19 (iT im20 (iT im21 (iT im22 (iT im23 (iT im24 im25)))))))))))))))))))))))), ⟨_, _, rfl, hS25.sel [13] rfl, SlR_nil, trivial⟩⟩))
  have hm := cfalse hb1 hm
  refine gT (d0 := 19) rfl rfl hb1 (pv (r_mi rfl) (gT (d0 := 19) rfl rfl hb1 (pv (r_ib rfl rfl rfl) (pv (r_pkf rfl hb1 rfl) (nil (t_then ?_))))))
  refine cnd rfl (fun hb2 => ?_) (fun hb2 => ?_)
  · have hm := ctrue hb2 hm
    refine sq2 (rg (pv (r_zs rfl) (nil (t_then ?_))))
    have hm := oI hm; subst hm
    exact rtn (r_then (ret1 rfl rfl ⟨_, rfl, _, (iT im1 (iT im2 (iT im3 (iT im4 (iT im5 (iT im6 (iT im7 (iT im8 (iT im9 (iT im10 (iT im11 (iT im12 (iT im13 (iT im14 (iT im15 (iT im16 (iT im17 (iT im18 (iT im19 (iT im20 (iT im21 (iT im22 (iT im23 (iT im24 im25)))))))))))))))))))))))), ⟨_, _, rfl, hS25.sel [13] rfl, SlR_nil, trivial⟩⟩))
  have hm := cfalse hb2 hm
  refine skp (t_then ?_)
  refine sq2 ?_
  obtain ⟨u1, hx1, hm⟩ := bindS hm
  obtain ⟨b1, of1, cs1, k1, cp1, hv1, hp1, hl1, he1, hr1, hc1⟩ := (hS25.own (i := 0) ⟨rfl, rfl⟩).v.ixq hx1 rfl
  obtain ⟨a14, c14, rfl, h13⟩ := rSl_open hr1
  refine rg (pv (r_ms rfl) (pv (r_mi rfl) (pv (r_ixe hv1 rfl underlying79 sizeOf39 hp1 hl1 he1) (pv (r_ld rfl isAgg39 (hc1.get (j := 0) rfl)) (pv (r_zs rfl) (nil (t_then ?_)))))))
  have hm := oI hm; subst hm
  exact rtn (ret1 rfl rfl ⟨_, rfl, _, (iT im1 (iT im2 (iT im3 (iT im4 (iT im5 (iT im6 (iT im7 (iT im8 (iT im9 (iT im10 (iT im11 (iT im12 (iT im13 (iT im14 (iT im15 (iT im16 (iT im17 (iT im18 (iT im19 (iT im20 (iT im21 (iT im22 (iT im23 (iT im24 im25)))))))))))))))))))))))), ⟨_, _, rfl, hS25.sel [13] rfl, h13, trivial⟩⟩)

theorem ref13_Uses_sim {p0 : Ins} {a1 : OA} {c1 : Nat} {r : (List Int)} (hS : Sep g T0 w0 [R]) (h1 : SlR (rInt .i64) T0 w0 (sv a1 p0.Args c1) p0.Args) (hm : ref13_Uses p0 = some r) :
    Calls Tryz.prog 65 #[.agg (cIns p0 a1 c1).toArray] w0 (RetS T0 w0 fun T w v => ∃ (a13 : OA) (n11 : Nat) (c13 : Nat), v = .slice a13 n11 c13 ∧ Sep g T w [R, ownA (rInt .i64) 3 (.slice a13 n11 c13) r] ∧ True) := by
  refine enter (args := [.agg (cIns p0 a1 c1).toArray]) Tryz.func65 rfl Tryz.ntmps65 rfl fun J => ?_
  unfold ref13_Uses at hm
  refine sq2 (rg (wl rfl (bxS (cs := (cIns p0 a1 c1)) rfl rfl hS fun w1 b1 im1 hS1 => ?_)))
  refine pv (r_zs rfl) (nil (t_then ?_))
  refine sq2 (rg (pv (r_zs rfl) (nil (t_then ?_))))
  refine sq2 ?_
  obtain ⟨y1, hx1, hm⟩ := bindS hm
  refine rg (pv (r_fa rfl underlying49 rfl sizeOf3 rfl) (pv (r_ld rfl isAgg3 (hS1.cell0 (i := 0) ⟨rfl, rfl⟩ (j := 0) rfl)) (wl rfl (calS cf88 rfl (ref13_fields_sim (p0 := p0.Op) (hS1.bun [0, 1] [] rfl)  hx1) rfl fun v1 T1 w2 im2 rv1 => ?_))))
  obtain ⟨a2, c2, rfl, hS2, h2, _⟩ := rv1
  have hS2 := hS2.unb
  refine pv (r_zs rfl) (nil (t_then ?_))
  obtain ⟨kk1, hkk1, hm⟩ := jn_open hm
  have hS3 := hS2.nilO (rInt .i64) 3
  refine cut (fun a w3 => ∃ (J : JV) (T2 : TP) (x1 : List Int) (a3 : OA) (n1 : Nat) (c3 : Nat), a = env (nf 77) J [(1, pt b1 0), (3, .slice a3 n1 c3), (4, sv a2 y1 c2)] ∧ Im T1 w2 T2 w3 ∧ Sep g T2 w3 [ownA (rInt .i64) 3 (.slice a3 n1 c3) x1, boxA b1 (cIns p0 a1 c1), R] ∧ kk1 x1 = some r) ?_ ?_
  · refine sq2 (rg (pv (r_ms rfl) (pv (r_ln rfl underlying39) (pv (r_ib rfl rfl rfl) (pv (r_mb rfl) (?_))))))
    rcases Bool.eq_false_or_eq_true (decide (0 < (List.length y1 : Int))) with hb1 | hb1
    · have hm := ctrue hb1 hm
      obtain ⟨u1, hx2, hm⟩ := bindS hm
      obtain ⟨b2, of1, cs1, k1, cp1, hv1, hp1, hl1, he1, hr1, hc1, hT1⟩ := h2.ixT hx2 rfl
      cases hr1
      refine gT (d0 := 12) rfl rfl hb1 (pv (r_ms rfl) (gT (d0 := 12) rfl rfl hb1 (pv (r_ixe hv1 rfl underlying39 sizeOf4 hp1 hl1 he1) (gT (d0 := 12) rfl rfl hb1 (pv (r_ld rfl isAgg4 (hc1.get (j := 0) rfl)) (pv (r_pkt rfl hb1 rfl) (pv (r_mb rfl) (?_))))))))
      rcases Bool.eq_false_or_eq_true u1 with hb2 | hb2
      · have hm := ctrue hb2 hm
        refine gT (d0 := 17) rfl rfl hb2 (pv (r_fa rfl underlying49 rfl sizeOf3 rfl) (gT (d0 := 17) rfl rfl hb2 (pv (r_ld rfl isAgg3 (hS3.cell0 (i := 1) ⟨rfl, rfl⟩ (j := 2) rfl)) (gT (d0 := 17) rfl rfl hb2 (pv (r_ib rfl rfl rfl) (pv (r_pkt rfl hb2 rfl) (nil (t_then ?_))))))))
        refine cnd rfl (fun hb3 => ?_) (fun hb3 => ?_)
        · have hm := ctrue hb3 hm
          refine rg (pv (r_ms rfl) (pv (r_fa rfl underlying49 rfl sizeOf3 rfl) (pv (r_ld rfl isAgg3 (hS3.cell0 (i := 1) ⟨rfl, rfl⟩ (j := 2) rfl)) (wl rfl (bsS (r := (rInt .i64)) (l := ([p0.A] : List Int)) (css := [[iv p0.A]]) hS3 underlying41 sizeOf3 zeroValue3 rfl rfl (by kernel_rfl) rfl ⟨rfl, trivial⟩ rfl rfl fun w4 a4 n2 c4 im4 hS4 => ?_)))))
          obtain ⟨z_1, hro1, hm⟩ := bindS hm
          refine wl rfl (apO (q := 1) (l := ([] : List Int)) (us := ([p0.A] : List Int)) hS4 ⟨rfl, rfl⟩ rfl rfl (hS4.own (i := 0) ⟨rfl, rfl⟩).v underlying41 el3 (room_some hro1) fun w5 a5 n3 c5 im5 hS5 => ?_)
          exact pv (r_zs rfl) (nil (t_then ⟨_, _, (([] : List Int) ++ ([p0.A] : List Int)), _, _, _, env_has ⟨rfl, rfl, rfl, trivial⟩, (iT im4 im5), hS5.sel [1, 2, 3] rfl, hm⟩))
        have hm := cfalse hb3 hm
        exact skp (t_then ⟨_, _, [], _, _, _, env_has ⟨rfl, rfl, rfl, trivial⟩, Im.refl, hS3.sel [0, 1, 2] rfl, hm⟩)
      have hm := cfalse hb2 hm
      refine gF (d0 := 17) rfl rfl (by rw [hb2]; rfl) (gF (d0 := 17) rfl rfl (by rw [hb2]; rfl) (gF (d0 := 17) rfl rfl (by rw [hb2]; rfl) (pv (r_pkf rfl hb2 rfl) (nil (t_then ?_)))))
      refine cnd (b := false) rfl (fun h => nomatch h) (fun _ => ?_)
      exact skp (t_then ⟨_, _, [], _, _, _, env_has ⟨rfl, rfl, rfl, trivial⟩, Im.refl, hS3.sel [0, 1, 2] rfl, hm⟩)
    have hm := cfalse hb1 hm
    refine gF (d0 := 12) rfl rfl (by rw [hb1]; rfl) (gF (d0 := 12) rfl rfl (by rw [hb1]; rfl) (gF (d0 := 12) rfl rfl (by rw [hb1]; rfl) (pv (r_pkf rfl hb1 rfl) (pv (r_mb rfl) (gF (d0 := 17) rfl rfl rfl (gF (d0 := 17) rfl rfl rfl (gF (d0 := 17) rfl rfl rfl (pv (r_pkf rfl rfl rfl) (nil (t_then ?_))))))))))
    refine cnd (b := false) rfl (fun h => nomatch h) (fun _ => ?_)
    exact skp (t_then ⟨_, _, [], _, _, _, env_has ⟨rfl, rfl, rfl, trivial⟩, Im.refl, hS3.sel [0, 1, 2] rfl, hm⟩)
  rintro _ w3 ⟨J, T2, x1, a3, n1, c3, rfl, im3, hS6, hm⟩
  rw [hkk1] at hm
  obtain ⟨kk2, hkk2, hm⟩ := jn_open hm
  refine cut (fun a w6 => ∃ (J : JV) (T3 : TP) (x2 : List Int) (a6 : OA) (n4 : Nat) (c6 : Nat), a = env (nf 77) J [(1, pt b1 0), (3, .slice a6 n4 c6), (4, sv a2 y1 c2)] ∧ Im T2 w3 T3 w6 ∧ Sep g T3 w6 [ownA (rInt .i64) 3 (.slice a6 n4 c6) x2, boxA b1 (cIns p0 a1 c1), R] ∧ kk2 x2 = some r) ?_ ?_
  · refine sq2 (rg (pv (r_ms rfl) (pv (r_ln rfl underlying39) (pv (r_ib rfl rfl rfl) (pv (r_mb rfl) (?_))))))
    rcases Bool.eq_false_or_eq_true (decide (0 < (List.length y1 : Int))) with hb6 | hb6
    · have hm := ctrue hb6 hm
      obtain ⟨u2, hx3, hm⟩ := bindS hm
      obtain ⟨b3, of2, cs2, k2, cp2, hv2, hp2, hl2, he2, hr2, hc2, hT2⟩ := (h2.mono im3).ixT hx3 rfl
      cases hr2
      refine gT (d0 := 30) rfl rfl hb6 (pv (r_ms rfl) (gT (d0 := 30) rfl rfl hb6 (pv (r_ixe hv2 rfl underlying39 sizeOf4 hp2 hl2 he2) (gT (d0 := 30) rfl rfl hb6 (pv (r_ld rfl isAgg4 (hc2.get (j := 0) rfl)) (pv (r_pkt rfl hb6 rfl) (pv (r_mb rfl) (?_))))))))
      rcases Bool.eq_false_or_eq_true u2 with hb7 | hb7
      · have hm := ctrue hb7 hm
        refine gT (d0 := 35) rfl rfl hb7 (pv (r_fa rfl underlying49 rfl sizeOf3 rfl) (gT (d0 := 35) rfl rfl hb7 (pv (r_ld rfl isAgg3 (hS6.cell0 (i := 1) ⟨rfl, rfl⟩ (j := 3) rfl)) (gT (d0 := 35) rfl rfl hb7 (pv (r_ib rfl rfl rfl) (pv (r_pkt rfl hb7 rfl) (nil (t_then ?_))))))))
        refine cnd rfl (fun hb8 => ?_) (fun hb8 => ?_)
        · have hm := ctrue hb8 hm
          refine rg (pv (r_ms rfl) (pv (r_fa rfl underlying49 rfl sizeOf3 rfl) (pv (r_ld rfl isAgg3 (hS6.cell0 (i := 1) ⟨rfl, rfl⟩ (j := 3) rfl)) (wl rfl (bsS (r := (rInt .i64)) (l := ([p0.B] : List Int)) (css := [[iv p0.B]]) hS6 underlying41 sizeOf3 zeroValue3 rfl rfl (by kernel_rfl) rfl ⟨rfl, trivial⟩ rfl rfl fun w7 a7 n5 c7 im7 hS7 => ?_)))))
          obtain ⟨z_2, hro2, hm⟩ := bindS hm
          refine wl rfl (apO (q := 1) (l := x1) (us := ([p0.B] : List Int)) hS7 ⟨rfl, rfl⟩ rfl rfl (hS7.own (i := 0) ⟨rfl, rfl⟩).v underlying41 el3 (room_some hro2) fun w8 a8 n6 c8 im8 hS8 => ?_)
          exact pv (r_zs rfl) (nil (t_then ⟨_, _, (x1 ++ ([p0.B] : List Int)), _, _, _, env_has ⟨rfl, rfl, rfl, trivial⟩, (iT im7 im8), hS8.sel [1, 2, 3] rfl, hm⟩))
        have hm := cfalse hb8 hm
        exact skp (t_then ⟨_, _, x1, _, _, _, env_has ⟨rfl, rfl, rfl, trivial⟩, Im.refl, hS6.sel [0, 1, 2] rfl, hm⟩)
      have hm := cfalse hb7 hm
      refine gF (d0 := 35) rfl rfl (by rw [hb7]; rfl) (gF (d0 := 35) rfl rfl (by rw [hb7]; rfl) (gF (d0 := 35) rfl rfl (by rw [hb7]; rfl) (pv (r_pkf rfl hb7 rfl) (nil (t_then ?_)))))
      refine cnd (b := false) rfl (fun h => nomatch h) (fun _ => ?_)
      exact skp (t_then ⟨_, _, x1, _, _, _, env_has ⟨rfl, rfl, rfl, trivial⟩, Im.refl, hS6.sel [0, 1, 2] rfl, hm⟩)
    have hm := cfalse hb6 hm
    refine gF (d0 := 30) rfl rfl (by rw [hb6]; rfl) (gF (d0 := 30) rfl rfl (by rw [hb6]; rfl) (gF (d0 := 30) rfl rfl (by rw [hb6]; rfl) (pv (r_pkf rfl hb6 rfl) (pv (r_mb rfl) (gF (d0 := 35) rfl rfl rfl (gF (d0 := 35) rfl rfl rfl (gF (d0 := 35) rfl rfl rfl (pv (r_pkf rfl rfl rfl) (nil (t_then ?_))))))))))
    refine cnd (b := false) rfl (fun h => nomatch h) (fun _ => ?_)
    exact skp (t_then ⟨_, _, x1, _, _, _, env_has ⟨rfl, rfl, rfl, trivial⟩, Im.refl, hS6.sel [0, 1, 2] rfl, hm⟩)
  rintro _ w6 ⟨J, T3, x2, a6, n4, c6, rfl, im6, hS9, hm⟩
  rw [hkk2] at hm
  refine sq2 (sq2 (rg (pv (r_zi rfl) (nil (t_then ?_)))))
  obtain ⟨o1, ho1, hq1⟩ := bindS hm
  obtain ⟨bd1, hbd1, ho1⟩ := loop_open ho1
  refine blk (wp_loop_ghost (fun m a w9 => ∃ (J : JV) (T4 : TP) (x3 : List Int) (a9 : OA) (n7 : Nat) (c9 : Nat) (x4 : Int), a = env (nf 77) J [(1, pt b1 0), (3, .slice a9 n7 c9), (4, sv a2 y1 c2), (5, iv x4)] ∧ Im T3 w6 T4 w9 ∧ Sep g T4 w9 [ownA (rInt .i64) 3 (.slice a9 n7 c9) x3, boxA b1 (cIns p0 a1 c1), R] ∧ loopM bd1 m (x3, x4) = some o1) NN ⟨_, _, x2, _, _, _, 0, env_has ⟨rfl, rfl, rfl, rfl, trivial⟩, Im.refl, hS9.sel [0, 1, 2] rfl, ho1⟩ ?_)
  rintro m _ w9 ⟨J, T4, x3, a9, n7, c9, x4, rfl, im9, hS10, ho1⟩
  obtain ⟨m1, z1, rfl, hm, hn1⟩ := loop_round ho1
  rw [hbd1] at hm
  refine sq2 (sq2 (rg (pv (r_ms rfl) (pv (r_ln rfl underlying39) (pv (r_ib rfl rfl rfl) (pv (r_mb rfl) (?_)))))))
  rcases Bool.eq_false_or_eq_true (decide (0 < (List.length y1 : Int))) with hb11 | hb11
  · have hm := ctrue hb11 hm
    obtain ⟨u3, hx4, hm⟩ := bindS hm
    obtain ⟨b4, of3, cs3, k3, cp3, hv3, hp3, hl3, he3, hr3, hc3, hT3⟩ := (h2.mono (iT im3 (iT im6 im9))).ixT hx4 rfl
    cases hr3
    refine gT (d0 := 48) rfl rfl hb11 (pv (r_ms rfl) (gT (d0 := 48) rfl rfl hb11 (pv (r_ixe hv3 rfl underlying39 sizeOf4 hp3 hl3 he3) (gT (d0 := 48) rfl rfl hb11 (pv (r_ld rfl isAgg4 (hc3.get (j := 0) rfl)) (pv (r_pkt rfl hb11 rfl) (pv (r_mb rfl) (?_))))))))
    rcases Bool.eq_false_or_eq_true u3 with hb12 | hb12
    · have hm := ctrue hb12 hm
      refine gT (d0 := 53) rfl rfl hb12 (pv (r_mi rfl) (gT (d0 := 53) rfl rfl hb12 (pv (r_fa rfl underlying49 rfl sizeOf41 rfl) (gT (d0 := 53) rfl rfl hb12 (pv (r_ld rfl isAgg41 (hS10.cell0 (i := 1) ⟨rfl, rfl⟩ (j := 9) rfl)) (gT (d0 := 53) rfl rfl hb12 (pv (r_ln rfl underlying41) (gT (d0 := 53) rfl rfl hb12 (pv (r_ib rfl rfl rfl) (pv (r_pkt rfl hb12 rfl) (nil (t_then ?_))))))))))))
      refine cnd rfl (fun hb13 => ?_) (fun hb13 => ?_)
      · have hm := ctrue hb13 hm
        refine skp (t_then ?_)
        obtain ⟨kk3, hkk3, hm⟩ := jn_open hm
        refine cut (fun a w10 => ∃ (J : JV) (T5 : TP) (x5 : List Int) (a10 : OA) (n8 : Nat) (c10 : Nat), a = env (nf 77) J [(1, pt b1 0), (3, .slice a10 n8 c10), (4, sv a2 y1 c2), (5, iv x4)] ∧ Im T4 w9 T5 w10 ∧ Sep g T5 w10 [ownA (rInt .i64) 3 (.slice a10 n8 c10) x5, boxA b1 (cIns p0 a1 c1), R] ∧ kk3 x5 = some z1) ?_ ?_
        · refine blk (sq2 ?_)
          obtain ⟨u4, hx5, hm⟩ := bindS hm
          obtain ⟨b5, of4, cs4, k4, cp4, hv4, hp4, hl4, he4, hr4, hc4, hT4⟩ := (h1.mono (iT im1 (iT im2 (iT im3 (iT im6 im9))))).ixT hx5 rfl
          cases hr4
          refine rg (pv (r_fa rfl underlying49 rfl sizeOf41 rfl) (pv (r_ld rfl isAgg41 (hS10.cell0 (i := 1) ⟨rfl, rfl⟩ (j := 9) rfl)) (pv (r_mi rfl) (pv (r_ixe hv4 rfl underlying41 sizeOf3 hp4 hl4 he4) (pv (r_ld rfl isAgg3 (hc4.get (j := 0) rfl)) (pv (r_ib rfl rfl rfl) (nil (t_then ?_))))))))
          refine cnd rfl (fun hb14 => ?_) (fun hb14 => ?_)
          · have hm := ctrue hb14 hm
            obtain ⟨u5, hx6, hm⟩ := bindS hm
            obtain ⟨b6, of5, cs5, k5, cp5, hv5, hp5, hl5, he5, hr5, hc5, hT5⟩ := (h1.mono (iT im1 (iT im2 (iT im3 (iT im6 im9))))).ixT hx6 rfl
            cases hr5
            refine rg (pv (r_ms rfl) (pv (r_fa rfl underlying49 rfl sizeOf41 rfl) (pv (r_ld rfl isAgg41 (hS10.cell0 (i := 1) ⟨rfl, rfl⟩ (j := 9) rfl)) (pv (r_mi rfl) (pv (r_ixe hv5 rfl underlying41 sizeOf3 hp5 hl5 he5) (pv (r_ld rfl isAgg3 (hc5.get (j := 0) rfl)) (wl rfl (bsS (r := (rInt .i64)) (l := ([u5] : List Int)) (css := [[iv u5]]) hS10 underlying41 sizeOf3 zeroValue3 rfl rfl (by kernel_rfl) rfl ⟨rfl, trivial⟩ rfl rfl fun w11 a11 n9 c11 im11 hS11 => ?_))))))))
            obtain ⟨z_3, hro3, hm⟩ := bindS hm
            refine wl rfl (apO (q := 1) (l := x3) (us := ([u5] : List Int)) hS11 ⟨rfl, rfl⟩ rfl rfl (hS11.own (i := 0) ⟨rfl, rfl⟩).v underlying41 el3 (room_some hro3) fun w12 a12 n10 c12 im12 hS12 => ?_)
            exact pv (r_zs rfl) (nil (t_blk (t_then ⟨_, _, (x3 ++ ([u5] : List Int)), _, _, _, env_has ⟨rfl, rfl, rfl, rfl, trivial⟩, (iT im11 im12), hS12.sel [1, 2, 3] rfl, hm⟩)))
          have hm := cfalse hb14 hm
          exact skp (t_blk (t_then ⟨_, _, x3, _, _, _, env_has ⟨rfl, rfl, rfl, rfl, trivial⟩, Im.refl, hS10.sel [0, 1, 2] rfl, hm⟩))
        rintro _ w10 ⟨J, T5, x5, a10, n8, c10, rfl, im10, hS13, hm⟩
        rw [hkk3] at hm
        have hm := oI hm; subst hm
        exact rg (pv (r_mi rfl) (pv (r_ib rfl rfl rfl) (pv (r_zi rfl) (nil (t_then ⟨m1, Nat.lt_succ_self _, _, _, x5, _, _, _, (IntKind.wrap .i64 (x4 + 1)), env_has ⟨rfl, rfl, rfl, rfl, trivial⟩, (iT im9 im10), hS13.sel [0, 1, 2] rfl, hn1⟩)))))
      have hm := cfalse hb13 hm
      have hm := oI hm; subst hm
      have hn1 : _ = Lp.brk _ := hn1
      subst hn1
      have hm := thn_brk hq1
      refine xt (x_then (x_then (x_eq (t_then ?_))))
      refine sq2 (rg (pv (r_ms rfl) (pv (r_zs rfl) (nil (t_then ?_)))))
      have hm := oI hm; subst hm
      exact rtn (ret1 rfl rfl ⟨_, rfl, _, (iT im1 (iT im2 (iT im3 (iT im6 im9)))), ⟨_, _, _, rfl, hS10.sel [2, 0] rfl, trivial⟩⟩)
    have hm := cfalse hb12 hm
    refine gF (d0 := 53) rfl rfl (by rw [hb12]; rfl) (gF (d0 := 53) rfl rfl (by rw [hb12]; rfl) (gF (d0 := 53) rfl rfl (by rw [hb12]; rfl) (gF (d0 := 53) rfl rfl (by rw [hb12]; rfl) (gF (d0 := 53) rfl rfl (by rw [hb12]; rfl) (pv (r_pkf rfl hb12 rfl) (nil (t_then ?_)))))))
    refine cnd (b := false) rfl (fun h => nomatch h) (fun _ => ?_)
    have hm := oI hm; subst hm
    have hn1 : _ = Lp.brk _ := hn1
    subst hn1
    have hm := thn_brk hq1
    refine xt (x_then (x_then (x_eq (t_then ?_))))
    refine sq2 (rg (pv (r_ms rfl) (pv (r_zs rfl) (nil (t_then ?_)))))
    have hm := oI hm; subst hm
    exact rtn (ret1 rfl rfl ⟨_, rfl, _, (iT im1 (iT im2 (iT im3 (iT im6 im9)))), ⟨_, _, _, rfl, hS10.sel [2, 0] rfl, trivial⟩⟩)
  have hm := cfalse hb11 hm
  refine gF (d0 := 48) rfl rfl (by rw [hb11]; rfl) (gF (d0 := 48) rfl rfl (by rw [hb11]; rfl) (gF (d0 := 48) rfl rfl (by rw [hb11]; rfl) (pv (r_pkf rfl hb11 rfl) (pv (r_mb rfl) (gF (d0 := 53) rfl rfl rfl (gF (d0 := 53) rfl rfl rfl (gF (d0 := 53) rfl rfl rfl (gF (d0 := 53) rfl rfl rfl (gF (d0 := 53) rfl rfl rfl (pv (r_pkf rfl rfl rfl) (nil (t_then ?_))))))))))))
  refine cnd (b := false) rfl (fun h => nomatch h) (fun _ => ?_)
  have hm := oI hm; subst hm
  have hn1 : _ = Lp.brk _ := hn1
  subst hn1
  have hm := thn_brk hq1
  refine xt (x_then (x_then (x_eq (t_then ?_))))
  refine sq2 (rg (pv (r_ms rfl) (pv (r_zs rfl) (nil (t_then ?_)))))
  have hm := oI hm; subst hm
  exact rtn (ret1 rfl rfl ⟨_, rfl, _, (iT im1 (iT im2 (iT im3 (iT im6 im9)))), ⟨_, _, _, rfl, hS10.sel [2, 0] rfl, trivial⟩⟩)

theorem ref16_has_sim {p0 : List Int} {a1 : OA} {c1 : Nat} {p1 : Int} {r : Bool} (hS : Sep g T0 w0 [R]) (h1 : SlR (rInt .i64) T0 w0 (sv a1 p0 c1) p0) (hm : ref16_has p0 p1 = some r) :
    Calls Tryz.prog 97 #[sv a1 p0 c1, iv p1] w0 (RetS T0 w0 fun T w v => v = .bool r ∧ Sep g T w [R] ∧ True) := by
  refine enter (args := [sv a1 p0 c1, iv p1]) Tryz.func97 rfl Tryz.ntmps97 rfl fun J => ?_
  unfold ref16_has at hm
  refine sq2 (rg (pv (r_zb rfl) (nil (t_then ?_))))
  refine sq2 (sq2 (rg (pv (r_zi rfl) (nil (t_then ?_)))))
  obtain ⟨o1, ho1, hq1⟩ := bindS hm
  obtain ⟨bd1, hbd1, ho1⟩ := loop_open ho1
  refine blk (wp_loop_ghost (fun m a w1 => ∃ (J : JV) (T1 : TP) (x1 : Int), a = env (nf 18) J [(0, sv a1 p0 c1), (1, iv p1), (5, iv x1)] ∧ Im T0 w0 T1 w1 ∧ Sep g T1 w1 [R] ∧ loopM bd1 m x1 = some o1) NN ⟨_, _, 0, env_has ⟨rfl, rfl, rfl, trivial⟩, Im.refl, hS.sel [0] rfl, ho1⟩ ?_)
  rintro m _ w1 ⟨J, T1, x1, rfl, im1, hS1, ho1⟩
  obtain ⟨m1, z1, rfl, hm, hn1⟩ := loop_round ho1
  rw [hbd1] at hm
  refine sq2 (sq2 (rg (pv (r_mi rfl) (pv (r_ms rfl) (pv (r_ln rfl underlying41) (pv (r_ib rfl rfl rfl) (nil (t_then ?_))))))))
  refine cnd rfl (fun hb1 => ?_) (fun hb1 => ?_)
  · have hm := ctrue hb1 hm
    refine skp (t_then ?_)
    refine sq2 (blk (sq2 ?_))
    obtain ⟨u1, hx1, hm⟩ := bindS hm
    obtain ⟨b1, of1, cs1, k1, cp1, hv1, hp1, hl1, he1, hr1, hc1, hT1⟩ := (h1.mono im1).ixT hx1 rfl
    cases hr1
    refine rg (pv (r_ms rfl) (pv (r_mi rfl) (pv (r_ixe hv1 rfl underlying41 sizeOf3 hp1 hl1 he1) (pv (r_ld rfl isAgg3 (hc1.get (j := 0) rfl)) (pv (r_mi rfl) (pv (r_ib rfl rfl rfl) (nil (t_then ?_))))))))
    refine cnd rfl (fun hb2 => ?_) (fun hb2 => ?_)
    · have hm := ctrue hb2 hm
      refine sq2 (rg (pv (r_zb rfl) (nil (t_then ?_))))
      have hm := oI hm; subst hm
      have hn1 : _ = Lp.ret _ := hn1
      subst hn1
      have hm := thn_ret hq1
      have hm := oI hm; subst hm
      exact rtn (r_blk (r_then (r_then (r_blk (r_then (ret1 rfl rfl ⟨_, rfl, _, im1, ⟨rfl, hS1.sel [0] rfl, trivial⟩⟩))))))
    have hm := cfalse hb2 hm
    refine skp (t_blk (t_then ?_))
    have hm := oI hm; subst hm
    exact rg (pv (r_mi rfl) (pv (r_ib rfl rfl rfl) (pv (r_zi rfl) (nil (t_then ⟨m1, Nat.lt_succ_self _, _, _, (IntKind.wrap .i64 (x1 + 1)), env_has ⟨rfl, rfl, rfl, trivial⟩, im1, hS1.sel [0] rfl, hn1⟩)))))
  have hm := cfalse hb1 hm
  have hm := oI hm; subst hm
  have hn1 : _ = Lp.brk _ := hn1
  subst hn1
  have hm := thn_brk hq1
  refine xt (x_then (x_then (x_eq (t_then ?_))))
  refine sq2 (rg (pv (r_zb rfl) (nil (t_then ?_))))
  have hm := oI hm; subst hm
  exact rtn (ret1 rfl rfl ⟨_, rfl, _, im1, ⟨rfl, hS1.sel [0] rfl, trivial⟩⟩)

theorem ref13_Def_sim {p0 : Ins} {a1 : OA} {c1 : Nat} {r : Int} (hS : Sep g T0 w0 [R]) (h1 : SlR (rInt .i64) T0 w0 (sv a1 p0.Args c1) p0.Args) (hm : ref13_Def p0 = some r) :
    Calls Tryz.prog 66 #[.agg (cIns p0 a1 c1).toArray] w0 (RetS T0 w0 fun T w v => v = iv r ∧ Sep g T w [R] ∧ True) := by
  refine enter (args := [.agg (cIns p0 a1 c1).toArray]) Tryz.func66 rfl Tryz.ntmps66 rfl fun J => ?_
  unfold ref13_Def at hm
  refine sq2 (rg (wl rfl (bxS (cs := (cIns p0 a1 c1)) rfl rfl hS fun w1 b1 im1 hS1 => ?_)))
  refine pv (r_zi rfl) (nil (t_then ?_))
  refine sq2 ?_
  obtain ⟨y1, hx1, hm⟩ := bindS hm
  refine rg (pv (r_fa rfl underlying49 rfl sizeOf3 rfl) (pv (r_ld rfl isAgg3 (hS1.cell0 (i := 0) ⟨rfl, rfl⟩ (j := 0) rfl)) (wl rfl (calS cf88 rfl (ref13_fields_sim (p0 := p0.Op) (hS1.bun [0, 1] [] rfl)  hx1) rfl fun v1 T1 w2 im2 rv1 => ?_))))
  obtain ⟨a2, c2, rfl, hS2, h2, _⟩ := rv1
  have hS2 := hS2.unb
  refine pv (r_zs rfl) (nil (t_then ?_))
  refine sq2 (sq2 (rg (pv (r_ms rfl) (pv (r_ln rfl underlying39) (pv (r_ib rfl rfl rfl) (pv (r_mb rfl) (?_)))))))
  rcases Bool.eq_false_or_eq_true ((List.length y1 : Int) == 0) with hb1 | hb1
  · have hm := ctrue hb1 hm
    refine gF (d0 := 10) rfl rfl (by rw [hb1]; rfl) (gF (d0 := 10) rfl rfl (by rw [hb1]; rfl) (gF (d0 := 10) rfl rfl (by rw [hb1]; rfl) (gF (d0 := 10) rfl rfl (by rw [hb1]; rfl) (pv (r_pkt rfl hb1 rfl) (nil (t_then ?_))))))
    refine cnd (b := true) rfl (fun _ => ?_) (fun h => nomatch h)
    refine sq2 (rg (pv (r_zi rfl) (nil (t_then ?_))))
    have hm := oI hm; subst hm
    exact rtn (r_then (ret1 rfl rfl ⟨_, rfl, _, (iT im1 im2), ⟨rfl, hS2.sel [1] rfl, trivial⟩⟩))
  have hm := cfalse hb1 hm
  obtain ⟨u1, hx2, hm⟩ := bindS hm
  obtain ⟨b2, of1, cs1, k1, cp1, hv1, hp1, hl1, he1, hr1, hc1, hT1⟩ := h2.ixT hx2 rfl
  cases hr1
  refine gT (d0 := 10) rfl rfl hb1 (pv (r_ms rfl) (gT (d0 := 10) rfl rfl hb1 (pv (r_ixe hv1 rfl underlying39 sizeOf4 hp1 hl1 he1) (gT (d0 := 10) rfl rfl hb1 (pv (r_ld rfl isAgg4 (hc1.get (j := 0) rfl)) (gT (d0 := 10) rfl rfl hb1 (pv (r_nt rfl) (pv (r_pkf rfl hb1 rfl) (nil (t_then ?_))))))))))
  refine cnd rfl (fun hb2 => ?_) (fun hb2 => ?_)
  · have hm := ctrue hb2 hm
    refine sq2 (rg (pv (r_zi rfl) (nil (t_then ?_))))
    have hm := oI hm; subst hm
    exact rtn (r_then (ret1 rfl rfl ⟨_, rfl, _, (iT im1 im2), ⟨rfl, hS2.sel [1] rfl, trivial⟩⟩))
  have hm := cfalse hb2 hm
  refine skp (t_then ?_)
  refine sq2 (rg (pv (r_fa rfl underlying49 rfl sizeOf3 rfl) (pv (r_ld rfl isAgg3 (hS2.cell0 (i := 0) ⟨rfl, rfl⟩ (j := 1) rfl)) (pv (r_zi rfl) (nil (t_then ?_))))))
  have hm := oI hm; subst hm
  exact rtn (ret1 rfl rfl ⟨_, rfl, _, (iT im1 im2), ⟨rfl, hS2.sel [1] rfl, trivial⟩⟩)

theorem ref16_within_sim {p0 : GBlock} {a1 : OA} {c1 : Nat} {p1 : Int} {p2 : Int} {r : Int} (hS : Sep g T0 w0 [R]) (h1 : SlR rIns T0 w0 (sv a1 p0.Ins c1) p0.Ins) (hm : ref16_within p0 p1 p2 = some r) :
    Calls Tryz.prog 86 #[.agg #[sv a1 p0.Ins c1, iv p0.End, iv p0.A, iv p0.To, iv p0.Else], iv p1, iv p2] w0 (RetS T0 w0 fun T w v => v = iv r ∧ Sep g T w [R] ∧ True) := by
  refine enter (args := [.agg #[sv a1 p0.Ins c1, iv p0.End, iv p0.A, iv p0.To, iv p0.Else], iv p1, iv p2]) Tryz.func86 rfl Tryz.ntmps86 rfl fun J => ?_
  unfold ref16_within at hm
  refine sq2 (rg (wl rfl (bxS (cs := [sv a1 p0.Ins c1, iv p0.End, iv p0.A, iv p0.To, iv p0.Else]) rfl rfl hS fun w1 b1 im1 hS1 => ?_)))
  refine pv (r_zi rfl) (nil (t_then ?_))
  refine sq2 (sq2 (rg (pv (r_mi rfl) (pv (r_zi rfl) (nil (t_then ?_))))))
  obtain ⟨o1, ho1, hq1⟩ := bindS hm
  obtain ⟨bd1, hbd1, ho1⟩ := loop_open ho1
  refine blk (wp_loop_ghost (fun m a w2 => ∃ (J : JV) (T1 : TP) (x1 : Int), a = env (nf 46) J [(2, iv p2), (3, pt b1 0), (7, iv x1)] ∧ Im T0 w1 T1 w2 ∧ Sep g T1 w2 [boxA b1 [sv a1 p0.Ins c1, iv p0.End, iv p0.A, iv p0.To, iv p0.Else], R] ∧ loopM bd1 m x1 = some o1) NN ⟨_, _, p1, env_has ⟨rfl, rfl, rfl, trivial⟩, Im.refl, hS1.sel [0, 1] rfl, ho1⟩ ?_)
  rintro m _ w2 ⟨J, T1, x1, rfl, im2, hS2, ho1⟩
  obtain ⟨m1, z1, rfl, hm, hn1⟩ := loop_round ho1
  rw [hbd1] at hm
  refine sq2 (sq2 (rg (pv (r_mi rfl) (pv (r_fa rfl underlying52 rfl sizeOf50 rfl) (pv (r_ld rfl isAgg50 (hS2.cell0 (i := 0) ⟨rfl, rfl⟩ (j := 0) rfl)) (pv (r_ln rfl underlying50) (pv (r_ib rfl rfl rfl) (nil (t_then ?_)))))))))
  refine cnd rfl (fun hb1 => ?_) (fun hb1 => ?_)
  · have hm := ctrue hb1 hm
    refine skp (t_then ?_)
    refine sq2 (blk (sq2 (sq2 ?_)))
    obtain ⟨u1, hx1, hm⟩ := bindS hm
    obtain ⟨b2, of1, cs1, k1, cp1, hv1, hp1, hl1, he1, hr1, hc1, hT1⟩ := (h1.mono (iT im1 im2)).ixT hx1 rfl
    obtain ⟨a2, c2, rfl, h2⟩ := rIns_open hr1
    obtain ⟨y1, hx2, hm⟩ := bindS hm
    refine rg (pv (r_fa rfl underlying52 rfl sizeOf50 rfl) (pv (r_ld rfl isAgg50 (hS2.cell0 (i := 0) ⟨rfl, rfl⟩ (j := 0) rfl)) (pv (r_mi rfl) (pv (r_ixe hv1 rfl underlying50 sizeOf49 hp1 hl1 he1) (pv (r_ldS rfl isAgg49 sizeOf49 rfl hc1 (cs := (cIns u1 a2 c2))) (wl rfl (calS cf65 rfl (ref13_Uses_sim (p0 := u1) (hS2.bun [0, 1] [] rfl) h2 hx2) rfl fun v1 T2 w3 im3 rv1 => ?_)))))))
    obtain ⟨a3, n1, c3, rfl, hS3, _⟩ := rv1
    have hS3 := hS3.unb
    refine pv (r_mi rfl) (?_)
    obtain ⟨T3, im4, hS4, h3⟩ := hS3.seal 2 ⟨rfl, rfl⟩
    have hsh := h3.len
    subst hsh
    obtain ⟨y2, hx3, hm⟩ := bindS hm
    refine wl rfl (calS cf97 rfl (ref16_has_sim (p0 := y1) (p1 := p2) (hS4.bun [0, 1] [] rfl) h3 hx3) rfl fun v2 T4 w4 im5 rv2 => ?_)
    obtain ⟨rfl, hS5, _⟩ := rv2
    have hS5 := hS5.unb
    refine nil (t_then ?_)
    refine cnd rfl (fun hb2 => ?_) (fun hb2 => ?_)
    · have hm := ctrue hb2 hm
      refine sq2 (rg (pv (r_zi rfl) (nil (t_then ?_))))
      have hm := oI hm; subst hm
      have hn1 : _ = Lp.ret _ := hn1
      subst hn1
      have hm := thn_ret hq1
      have hm := oI hm; subst hm
      exact rtn (r_then (r_blk (r_then (r_then (r_blk (r_then (ret1 rfl rfl ⟨_, rfl, _, (iT im1 (iT im2 (iT im3 (iT im4 im5)))), ⟨rfl, hS5.sel [1] rfl, trivial⟩⟩)))))))
    have hm := cfalse hb2 hm
    refine skp (t_then ?_)
    refine sq2 ?_
    obtain ⟨u2, hx4, hm⟩ := bindS hm
    obtain ⟨b3, of2, cs2, k2, cp2, hv2, hp2, hl2, he2, hr2, hc2, hT2⟩ := (h1.mono (iT im1 (iT im2 (iT im3 (iT im4 im5))))).ixT hx4 rfl
    obtain ⟨a4, c4, rfl, h4⟩ := rIns_open hr2
    obtain ⟨y3, hx5, hm⟩ := bindS hm
    refine rg (pv (r_fa rfl underlying52 rfl sizeOf50 rfl) (pv (r_ld rfl isAgg50 (hS5.cell0 (i := 0) ⟨rfl, rfl⟩ (j := 0) rfl)) (pv (r_mi rfl) (pv (r_ixe hv2 rfl underlying50 sizeOf49 hp2 hl2 he2) (pv (r_ldS rfl isAgg49 sizeOf49 rfl hc2 (cs := (cIns u2 a4 c4))) (wl rfl (calS cf66 rfl (ref13_Def_sim (p0 := u2) (hS5.bun [0, 1] [] rfl) h4 hx5) rfl fun v3 T5 w5 im6 rv3 => ?_)))))))
    obtain ⟨rfl, hS6, _⟩ := rv3
    have hS6 := hS6.unb
    refine pv (r_mi rfl) (pv (r_ib rfl rfl rfl) (nil (t_then ?_)))
    refine cnd rfl (fun hb3 => ?_) (fun hb3 => ?_)
    · have hm := ctrue hb3 hm
      refine sq2 (rg (pv (r_zi rfl) (nil (t_then ?_))))
      have hm := oI hm; subst hm
      have hn1 : _ = Lp.ret _ := hn1
      subst hn1
      have hm := thn_ret hq1
      have hm := oI hm; subst hm
      exact rtn (r_blk (r_then (r_then (r_blk (r_then (ret1 rfl rfl ⟨_, rfl, _, (iT im1 (iT im2 (iT im3 (iT im4 (iT im5 im6))))), ⟨rfl, hS6.sel [1] rfl, trivial⟩⟩))))))
    have hm := cfalse hb3 hm
    refine skp (t_blk (t_then ?_))
    have hm := oI hm; subst hm
    exact rg (pv (r_mi rfl) (pv (r_ib rfl rfl rfl) (pv (r_zi rfl) (nil (t_then ⟨m1, Nat.lt_succ_self _, _, _, (IntKind.wrap .i64 (x1 + 1)), env_has ⟨rfl, rfl, rfl, trivial⟩, (iT im2 (iT im3 (iT im4 (iT im5 im6)))), hS6.sel [0, 1] rfl, hn1⟩)))))
  have hm := cfalse hb1 hm
  have hm := oI hm; subst hm
  have hn1 : _ = Lp.brk _ := hn1
  subst hn1
  have hm := thn_brk hq1
  refine xt (x_then (x_then (x_eq (t_then ?_))))
  refine sq2 (sq2 (rg (pv (r_fa rfl underlying52 rfl sizeOf3 rfl) (pv (r_ld rfl isAgg3 (hS2.cell0 (i := 0) ⟨rfl, rfl⟩ (j := 1) rfl)) (pv (r_ib rfl rfl rfl) (pv (r_mb rfl) (?_)))))))
  rcases Bool.eq_false_or_eq_true (p0.End == 2) with hb4 | hb4
  · have hm := ctrue hb4 hm
    refine gF (d0 := 35) rfl rfl (by rw [hb4]; rfl) (gF (d0 := 35) rfl rfl (by rw [hb4]; rfl) (gF (d0 := 35) rfl rfl (by rw [hb4]; rfl) (pv (r_pkt rfl hb4 rfl) (pv (r_mb rfl) (gT (d0 := 40) rfl rfl rfl (pv (r_fa rfl underlying52 rfl sizeOf3 rfl) (gT (d0 := 40) rfl rfl rfl (pv (r_ld rfl isAgg3 (hS2.cell0 (i := 0) ⟨rfl, rfl⟩ (j := 2) rfl)) (gT (d0 := 40) rfl rfl rfl (pv (r_mi rfl) (gT (d0 := 40) rfl rfl rfl (pv (r_ib rfl rfl rfl) (pv (r_pkt rfl rfl rfl) (nil (t_then ?_)))))))))))))))
    refine cnd rfl (fun hb8 => ?_) (fun hb8 => ?_)
    · have hm := ctrue hb8 hm
      refine sq2 (rg (pv (r_zi rfl) (nil (t_then ?_))))
      have hm := oI hm; subst hm
      exact rtn (r_then (ret1 rfl rfl ⟨_, rfl, _, (iT im1 im2), ⟨rfl, hS2.sel [1] rfl, trivial⟩⟩))
    have hm := cfalse hb8 hm
    refine skp (t_then ?_)
    refine sq2 (rg (pv (r_zi rfl) (nil (t_then ?_))))
    have hm := oI hm; subst hm
    exact rtn (ret1 rfl rfl ⟨_, rfl, _, (iT im1 im2), ⟨rfl, hS2.sel [1] rfl, trivial⟩⟩)
  have hm := cfalse hb4 hm
  refine gT (d0 := 35) rfl rfl hb4 (pv (r_fa rfl underlying52 rfl sizeOf3 rfl) (gT (d0 := 35) rfl rfl hb4 (pv (r_ld rfl isAgg3 (hS2.cell0 (i := 0) ⟨rfl, rfl⟩ (j := 1) rfl)) (gT (d0 := 35) rfl rfl hb4 (pv (r_ib rfl rfl rfl) (pv (r_pkf rfl hb4 rfl) (pv (r_mb rfl) (?_))))))))
  rcases Bool.eq_false_or_eq_true (p0.End == 3) with hb5 | hb5
  · have hm := ctrue hb5 hm
    refine gT (d0 := 40) rfl rfl hb5 (pv (r_fa rfl underlying52 rfl sizeOf3 rfl) (gT (d0 := 40) rfl rfl hb5 (pv (r_ld rfl isAgg3 (hS2.cell0 (i := 0) ⟨rfl, rfl⟩ (j := 2) rfl)) (gT (d0 := 40) rfl rfl hb5 (pv (r_mi rfl) (gT (d0 := 40) rfl rfl hb5 (pv (r_ib rfl rfl rfl) (pv (r_pkt rfl hb5 rfl) (nil (t_then ?_))))))))))
    refine cnd rfl (fun hb6 => ?_) (fun hb6 => ?_)
    · have hm := ctrue hb6 hm
      refine sq2 (rg (pv (r_zi rfl) (nil (t_then ?_))))
      have hm := oI hm; subst hm
      exact rtn (r_then (ret1 rfl rfl ⟨_, rfl, _, (iT im1 im2), ⟨rfl, hS2.sel [1] rfl, trivial⟩⟩))
    have hm := cfalse hb6 hm
    refine skp (t_then ?_)
    refine sq2 (rg (pv (r_zi rfl) (nil (t_then ?_))))
    have hm := oI hm; subst hm
    exact rtn (ret1 rfl rfl ⟨_, rfl, _, (iT im1 im2), ⟨rfl, hS2.sel [1] rfl, trivial⟩⟩)
  have hm := cfalse hb5 hm
  refine gF (d0 := 40) rfl rfl (by rw [hb5]; rfl) (gF (d0 := 40) rfl rfl (by rw [hb5]; rfl) (gF (d0 := 40) rfl rfl (by rw [hb5]; rfl) (gF (d0 := 40) rfl rfl (by rw [hb5]; rfl) (pv (r_pkf rfl hb5 rfl) (nil (t_then ?_))))))
  refine cnd (b := false) rfl (fun h => nomatch h) (fun _ => ?_)
  refine skp (t_then ?_)
  refine sq2 (rg (pv (r_zi rfl) (nil (t_then ?_))))
  have hm := oI hm; subst hm
  exact rtn (ret1 rfl rfl ⟨_, rfl, _, (iT im1 im2), ⟨rfl, hS2.sel [1] rfl, trivial⟩⟩)

theorem ref13_Outs_sim {p0 : GBlock} {a1 : OA} {c1 : Nat} {r : (List Int)} (hS : Sep g T0 w0 [R]) (h1 : SlR rIns T0 w0 (sv a1 p0.Ins c1) p0.Ins) (hm : ref13_Outs p0 = some r) :
    Calls Tryz.prog 98 #[.agg #[sv a1 p0.Ins c1, iv p0.End, iv p0.A, iv p0.To, iv p0.Else]] w0 (RetS T0 w0 fun T w v => ∃ (a10 : OA) (n9 : Nat) (c10 : Nat), v = .slice a10 n9 c10 ∧ Sep g T w [R, ownA (rInt .i64) 3 (.slice a10 n9 c10) r] ∧ True) := by
  refine enter (args := [.agg #[sv a1 p0.Ins c1, iv p0.End, iv p0.A, iv p0.To, iv p0.Else]]) Tryz.func98 rfl Tryz.ntmps98 rfl fun J => ?_
  unfold ref13_Outs at hm
  refine sq2 (rg (wl rfl (bxS (cs := [sv a1 p0.Ins c1, iv p0.End, iv p0.A, iv p0.To, iv p0.Else]) rfl rfl hS fun w1 b1 im1 hS1 => ?_)))
  refine pv (r_zs rfl) (nil (t_then ?_))
  refine sq2 (rg (pv (r_zs rfl) (nil (t_then ?_))))
  obtain ⟨kk1, hkk1, hm⟩ := jn_open hm
  have hS2 := hS1.nilO (rInt .i64) 3
  refine cut (fun a w2 => ∃ (J : JV) (T1 : TP) (x1 : List Int) (a2 : OA) (n1 : Nat) (c2 : Nat), a = env (nf 33) J [(1, pt b1 0), (3, .slice a2 n1 c2)] ∧ Im T0 w1 T1 w2 ∧ Sep g T1 w2 [ownA (rInt .i64) 3 (.slice a2 n1 c2) x1, boxA b1 [sv a1 p0.Ins c1, iv p0.End, iv p0.A, iv p0.To, iv p0.Else], R] ∧ kk1 x1 = some r) ?_ ?_
  · refine sq2 (rg (pv (r_fa rfl underlying52 rfl sizeOf3 rfl) (pv (r_ld rfl isAgg3 (hS2.cell0 (i := 1) ⟨rfl, rfl⟩ (j := 1) rfl)) (pv (r_ib rfl rfl rfl) (pv (r_mb rfl) (?_))))))
    rcases Bool.eq_false_or_eq_true (p0.End == 1) with hb1 | hb1
    · have hm := ctrue hb1 hm
      refine gF (d0 := 7) rfl rfl (by rw [hb1]; rfl) (gF (d0 := 7) rfl rfl (by rw [hb1]; rfl) (gF (d0 := 7) rfl rfl (by rw [hb1]; rfl) (pv (r_pkt rfl hb1 rfl) (nil (t_then ?_)))))
      refine cnd (b := true) rfl (fun _ => ?_) (fun h => nomatch h)
      refine rg (pv (r_ms rfl) (pv (r_fa rfl underlying52 rfl sizeOf3 rfl) (pv (r_ld rfl isAgg3 (hS2.cell0 (i := 1) ⟨rfl, rfl⟩ (j := 3) rfl)) (wl rfl (bsS (r := (rInt .i64)) (l := ([p0.To] : List Int)) (css := [[iv p0.To]]) hS2 underlying41 sizeOf3 zeroValue3 rfl rfl (by kernel_rfl) rfl ⟨rfl, trivial⟩ rfl rfl fun w5 a5 n4 c5 im5 hS5 => ?_)))))
      obtain ⟨z_2, hro2, hm⟩ := bindS hm
      refine wl rfl (apO (q := 1) (l := ([] : List Int)) (us := ([p0.To] : List Int)) hS5 ⟨rfl, rfl⟩ rfl rfl (hS5.own (i := 0) ⟨rfl, rfl⟩).v underlying41 el3 (room_some hro2) fun w6 a6 n5 c6 im6 hS6 => ?_)
      exact pv (r_zs rfl) (nil (t_then ⟨_, _, (([] : List Int) ++ ([p0.To] : List Int)), _, _, _, env_has ⟨rfl, rfl, trivial⟩, (iT im5 im6), hS6.sel [1, 2, 3] rfl, hm⟩))
    have hm := cfalse hb1 hm
    refine gT (d0 := 7) rfl rfl hb1 (pv (r_fa rfl underlying52 rfl sizeOf3 rfl) (gT (d0 := 7) rfl rfl hb1 (pv (r_ld rfl isAgg3 (hS2.cell0 (i := 1) ⟨rfl, rfl⟩ (j := 1) rfl)) (gT (d0 := 7) rfl rfl hb1 (pv (r_ib rfl rfl rfl) (pv (r_pkf rfl hb1 rfl) (nil (t_then ?_))))))))
    refine cnd rfl (fun hb2 => ?_) (fun hb2 => ?_)
    · have hm := ctrue hb2 hm
      refine rg (pv (r_ms rfl) (pv (r_fa rfl underlying52 rfl sizeOf3 rfl) (pv (r_ld rfl isAgg3 (hS2.cell0 (i := 1) ⟨rfl, rfl⟩ (j := 3) rfl)) (wl rfl (bsS (r := (rInt .i64)) (l := ([p0.To] : List Int)) (css := [[iv p0.To]]) hS2 underlying41 sizeOf3 zeroValue3 rfl rfl (by kernel_rfl) rfl ⟨rfl, trivial⟩ rfl rfl fun w3 a3 n2 c3 im3 hS3 => ?_)))))
      obtain ⟨z_1, hro1, hm⟩ := bindS hm
      refine wl rfl (apO (q := 1) (l := ([] : List Int)) (us := ([p0.To] : List Int)) hS3 ⟨rfl, rfl⟩ rfl rfl (hS3.own (i := 0) ⟨rfl, rfl⟩).v underlying41 el3 (room_some hro1) fun w4 a4 n3 c4 im4 hS4 => ?_)
      exact pv (r_zs rfl) (nil (t_then ⟨_, _, (([] : List Int) ++ ([p0.To] : List Int)), _, _, _, env_has ⟨rfl, rfl, trivial⟩, (iT im3 im4), hS4.sel [1, 2, 3] rfl, hm⟩))
    have hm := cfalse hb2 hm
    exact skp (t_then ⟨_, _, [], _, _, _, env_has ⟨rfl, rfl, trivial⟩, Im.refl, hS2.sel [0, 1, 2] rfl, hm⟩)
  rintro _ w2 ⟨J, T1, x1, a2, n1, c2, rfl, im2, hS7, hm⟩
  rw [hkk1] at hm
  obtain ⟨kk2, hkk2, hm⟩ := jn_open hm
  refine cut (fun a w7 => ∃ (J : JV) (T2 : TP) (x2 : List Int) (a7 : OA) (n6 : Nat) (c7 : Nat), a = env (nf 33) J [(3, .slice a7 n6 c7)] ∧ Im T1 w2 T2 w7 ∧ Sep g T2 w7 [ownA (rInt .i64) 3 (.slice a7 n6 c7) x2, R] ∧ kk2 x2 = some r) ?_ ?_
  · refine sq2 (rg (pv (r_fa rfl underlying52 rfl sizeOf3 rfl) (pv (r_ld rfl isAgg3 (hS7.cell0 (i := 1) ⟨rfl, rfl⟩ (j := 1) rfl)) (pv (r_ib rfl rfl rfl) (pv (r_mb rfl) (?_))))))
    rcases Bool.eq_false_or_eq_true (p0.End == 2) with hb4 | hb4
    · have hm := ctrue hb4 hm
      refine gT (d0 := 20) rfl rfl hb4 (pv (r_fa rfl underlying52 rfl sizeOf3 rfl) (gT (d0 := 20) rfl rfl hb4 (pv (r_ld rfl isAgg3 (hS7.cell0 (i := 1) ⟨rfl, rfl⟩ (j := 4) rfl)) (gT (d0 := 20) rfl rfl hb4 (pv (r_fa rfl underlying52 rfl sizeOf3 rfl) (gT (d0 := 20) rfl rfl hb4 (pv (r_ld rfl isAgg3 (hS7.cell0 (i := 1) ⟨rfl, rfl⟩ (j := 3) rfl)) (gT (d0 := 20) rfl rfl hb4 (pv (r_ib rfl rfl rfl) (pv (r_pkt rfl hb4 rfl) (nil (t_then ?_))))))))))))
      refine cnd rfl (fun hb5 => ?_) (fun hb5 => ?_)
      · have hm := ctrue hb5 hm
        refine rg (pv (r_ms rfl) (pv (r_fa rfl underlying52 rfl sizeOf3 rfl) (pv (r_ld rfl isAgg3 (hS7.cell0 (i := 1) ⟨rfl, rfl⟩ (j := 4) rfl)) (wl rfl (bsS (r := (rInt .i64)) (l := ([p0.Else] : List Int)) (css := [[iv p0.Else]]) hS7 underlying41 sizeOf3 zeroValue3 rfl rfl (by kernel_rfl) rfl ⟨rfl, trivial⟩ rfl rfl fun w8 a8 n7 c8 im8 hS8 => ?_)))))
        obtain ⟨z_3, hro3, hm⟩ := bindS hm
        refine wl rfl (apO (q := 1) (l := x1) (us := ([p0.Else] : List Int)) hS8 ⟨rfl, rfl⟩ rfl rfl (hS8.own (i := 0) ⟨rfl, rfl⟩).v underlying41 el3 (room_some hro3) fun w9 a9 n8 c9 im9 hS9 => ?_)
        exact pv (r_zs rfl) (nil (t_then ⟨_, _, (x1 ++ ([p0.Else] : List Int)), _, _, _, env_has ⟨rfl, trivial⟩, (iT im8 im9), hS9.sel [1, 3] rfl, hm⟩))
      have hm := cfalse hb5 hm
      exact skp (t_then ⟨_, _, x1, _, _, _, env_has ⟨rfl, trivial⟩, Im.refl, hS7.sel [0, 2] rfl, hm⟩)
    have hm := cfalse hb4 hm
    refine gF (d0 := 20) rfl rfl (by rw [hb4]; rfl) (gF (d0 := 20) rfl rfl (by rw [hb4]; rfl) (gF (d0 := 20) rfl rfl (by rw [hb4]; rfl) (gF (d0 := 20) rfl rfl (by rw [hb4]; rfl) (gF (d0 := 20) rfl rfl (by rw [hb4]; rfl) (pv (r_pkf rfl hb4 rfl) (nil (t_then ?_)))))))
    refine cnd (b := false) rfl (fun h => nomatch h) (fun _ => ?_)
    exact skp (t_then ⟨_, _, x1, _, _, _, env_has ⟨rfl, trivial⟩, Im.refl, hS7.sel [0, 2] rfl, hm⟩)
  rintro _ w7 ⟨J, T2, x2, a7, n6, c7, rfl, im7, hS10, hm⟩
  rw [hkk2] at hm
  refine sq2 (rg (pv (r_ms rfl) (pv (r_zs rfl) (nil (t_then ?_)))))
  have hm := oI hm; subst hm
  exact rtn (ret1 rfl rfl ⟨_, rfl, _, (iT im1 (iT im2 im7)), ⟨_, _, _, rfl, hS10.sel [1, 0] rfl, trivial⟩⟩)

theorem ref16_Outs_sim {p0 : Proc} {a1 : OA} {c1 : Nat} {a2 : OA} {c2 : Nat} {p1 : Int} {r : (List Int)} (hS : Sep g T0 w0 [R]) (h1 : SlR rGSlot T0 w0 (sv a1 p0.Objects c1) p0.Objects) (h2 : SlR rGBlock T0 w0 (sv a2 p0.Blocks c2) p0.Blocks) (hm : ref16_Outs p0 p1 = some r) :
    Calls Tryz.prog 87 #[.agg (cProc p0 a1 c1 a2 c2).toArray, iv p1] w0 (RetS T0 w0 fun T w v => ∃ (a9 : OA) (n6 : Nat) (c9 : Nat), v = .slice a9 n6 c9 ∧ Sep g T w [R, ownA (rInt .i64) 3 (.slice a9 n6 c9) r] ∧ True) := by
  refine enter (args := [.agg (cProc p0 a1 c1 a2 c2).toArray, iv p1]) Tryz.func87 rfl Tryz.ntmps87 rfl fun J => ?_
  unfold ref16_Outs at hm
  refine sq2 (rg (wl rfl (bxS (cs := (cProc p0 a1 c1 a2 c2)) rfl rfl hS fun w1 b1 im1 hS1 => ?_)))
  refine pv (r_zs rfl) (nil (t_then ?_))
  refine sq2 (rg (pv (r_zs rfl) (nil (t_then ?_))))
  refine sq2 ?_
  obtain ⟨u1, hx1, hm⟩ := bindS hm
  obtain ⟨b2, of1, cs1, k1, cp1, hv1, hp1, hl1, he1, hr1, hc1, hT1⟩ := (h2.mono im1).ixT hx1 rfl
  obtain ⟨a3, c3, rfl, h3⟩ := rGBlock_open hr1
  obtain ⟨y1, hx2, hm⟩ := bindS hm
  refine rg (pv (r_fa rfl underlying31 rfl sizeOf29 rfl) (pv (r_ld rfl isAgg29 (hS1.cell0 (i := 0) ⟨rfl, rfl⟩ (j := 5) rfl)) (pv (r_mi rfl) (pv (r_ixe hv1 rfl underlying29 sizeOf52 hp1 hl1 he1) (pv (r_ldS rfl isAgg52 sizeOf52 rfl hc1 (cs := [sv a3 u1.Ins c3, iv u1.End, iv u1.A, iv u1.To, iv u1.Else])) (wl rfl (calS cf98 rfl (ref13_Outs_sim (p0 := u1) (hS1.bun [0, 1] [] rfl) h3 hx2) rfl fun v1 T1 w2 im2 rv1 => ?_)))))))
  obtain ⟨a4, n1, c4, rfl, hS2, _⟩ := rv1
  have hS2 := hS2.unb
  refine pv (r_zs rfl) (nil (t_then ?_))
  refine sq2 (sq2 (rg (pv (r_zi rfl) (nil (t_then ?_)))))
  obtain ⟨o1, ho1, hq1⟩ := bindS hm
  obtain ⟨bd1, hbd1, ho1⟩ := loop_open ho1
  have hS3 := hS2.nilO (rInt .i64) 3
  refine blk (wp_loop_ghost (fun m a w3 => ∃ (J : JV) (T2 : TP) (x1 : List Int) (a5 : OA) (n2 : Nat) (c5 : Nat) (x2 : Int), a = env (nf 43) J [(2, pt b1 0), (5, .slice a5 n2 c5), (6, .slice a4 n1 c4), (7, iv x2)] ∧ Im T1 w2 T2 w3 ∧ Sep g T2 w3 [ownA (rInt .i64) 3 (.slice a5 n2 c5) x1, boxA b1 (cProc p0 a1 c1 a2 c2), R, ownA (rInt .i64) 3 (.slice a4 n1 c4) y1] ∧ loopM bd1 m (x1, x2) = some o1) NN ⟨_, _, [], _, _, _, 0, env_has ⟨rfl, rfl, rfl, rfl, trivial⟩, Im.refl, hS3.sel [0, 1, 2, 3] rfl, ho1⟩ ?_)
  rintro m _ w3 ⟨J, T2, x1, a5, n2, c5, x2, rfl, im3, hS4, ho1⟩
  obtain ⟨m1, z1, rfl, hm, hn1⟩ := loop_round ho1
  rw [hbd1] at hm
  refine sq2 (sq2 (rg (pv (r_mi rfl) (pv (r_ms rfl) (pv (r_lnV rfl (hS4.own (i := 3) ⟨rfl, rfl⟩).v underlying41) (pv (r_ib rfl rfl rfl) (nil (t_then ?_))))))))
  refine cnd rfl (fun hb1 => ?_) (fun hb1 => ?_)
  · have hm := ctrue hb1 hm
    refine skp (t_then ?_)
    obtain ⟨kk1, hkk1, hm⟩ := jn_open hm
    refine cut (fun a w4 => ∃ (J : JV) (T3 : TP) (x3 : List Int) (a6 : OA) (n3 : Nat) (c6 : Nat), a = env (nf 43) J [(2, pt b1 0), (5, .slice a6 n3 c6), (6, .slice a4 n1 c4), (7, iv x2)] ∧ Im T2 w3 T3 w4 ∧ Sep g T3 w4 [ownA (rInt .i64) 3 (.slice a6 n3 c6) x3, boxA b1 (cProc p0 a1 c1 a2 c2), R, ownA (rInt .i64) 3 (.slice a4 n1 c4) y1] ∧ kk1 x3 = some z1) ?_ ?_
    · refine blk (sq2 ?_)
      obtain ⟨u2, hx3, hm⟩ := bindS hm
      obtain ⟨b3, of2, cs2, k2, cp2, hv2, hp2, hl2, he2, hr2, hc2⟩ := (hS4.own (i := 3) ⟨rfl, rfl⟩).v.ixq hx3 rfl
      cases hr2
      refine rq mix (by kernel_rfl) hS4.lt (qv (fun _ hq => r_ms rfl) (qv (fun _ hq => r_mi rfl) (qv (fun _ hq => r_ixe hv2 rfl underlying41 sizeOf3 hp2 hl2 he2) (qv (fun _ hq => r_ld rfl isAgg3 (hq.cell (hc2.get (j := 0) rfl))) (qv (fun _ hq => r_ib rfl rfl rfl) (qv (fun _ hq => r_mb rfl) (?_)))))))
      rcases Bool.eq_false_or_eq_true (decide (0 ≤ u2)) with hb2 | hb2
      · have hm := ctrue hb2 hm
        obtain ⟨u3, hx4, hm⟩ := bindS hm
        obtain ⟨b4, of3, cs3, k3, cp3, hv3, hp3, hl3, he3, hr3, hc3⟩ := (hS4.own (i := 3) ⟨rfl, rfl⟩).v.ixq hx4 rfl
        cases hr3
        refine qgT (d0 := 25) rfl rfl hb2 (qv (fun _ hq => r_ms rfl) (qgT (d0 := 25) rfl rfl hb2 (qv (fun _ hq => r_mi rfl) (qgT (d0 := 25) rfl rfl hb2 (qv (fun _ hq => r_ixe hv3 rfl underlying41 sizeOf3 hp3 hl3 he3) (qgT (d0 := 25) rfl rfl hb2 (qv (fun _ hq => r_ld rfl isAgg3 (hq.cell (hc3.get (j := 0) rfl))) (qgT (d0 := 25) rfl rfl hb2 (qv (fun _ hq => r_fa rfl underlying31 rfl sizeOf29 rfl) (qgT (d0 := 25) rfl rfl hb2 (qv (fun _ hq => r_ld rfl isAgg29 (hq.cell (hS4.cell0 (i := 1) ⟨rfl, rfl⟩ (j := 5) rfl))) (qgT (d0 := 25) rfl rfl hb2 (qv (fun _ hq => r_ln rfl underlying29) (qgT (d0 := 25) rfl rfl hb2 (qv (fun _ hq => r_ib rfl rfl rfl) (qv (fun _ hq => r_pkt rfl hb2 rfl) (qn fun w5 T4 i1 => ?_)))))))))))))))))
        have im5 := i1.imm
        have hS5 := hS4.keep i1 (fun _ h => h)
        refine t_then ?_
        refine cnd rfl (fun hb3 => ?_) (fun hb3 => ?_)
        · have hm := ctrue hb3 hm
          obtain ⟨u4, hx5, hm⟩ := bindS hm
          obtain ⟨b5, of4, cs4, k4, cp4, hv4, hp4, hl4, he4, hr4, hc4⟩ := (hS5.own (i := 3) ⟨rfl, rfl⟩).v.ixq hx5 rfl
          cases hr4
          refine rg (pv (r_ms rfl) (pv (r_ms rfl) (pv (r_mi rfl) (pv (r_ixe hv4 rfl underlying41 sizeOf3 hp4 hl4 he4) (pv (r_ld rfl isAgg3 (hc4.get (j := 0) rfl)) (wl rfl (bsS (r := (rInt .i64)) (l := ([u4] : List Int)) (css := [[iv u4]]) hS5 underlying41 sizeOf3 zeroValue3 rfl rfl (by kernel_rfl) rfl ⟨rfl, trivial⟩ rfl rfl fun w6 a7 n4 c7 im6 hS6 => ?_)))))))
          obtain ⟨z_1, hro1, hm⟩ := bindS hm
          refine wl rfl (apO (q := 1) (l := x1) (us := ([u4] : List Int)) hS6 ⟨rfl, rfl⟩ rfl rfl (hS6.own (i := 0) ⟨rfl, rfl⟩).v underlying41 el3 (room_some hro1) fun w7 a8 n5 c8 im7 hS7 => ?_)
          exact pv (r_zs rfl) (nil (t_blk (t_then ⟨_, _, (x1 ++ ([u4] : List Int)), _, _, _, env_has ⟨rfl, rfl, rfl, rfl, trivial⟩, (iT im5 (iT im6 im7)), hS7.sel [1, 2, 3, 4] rfl, hm⟩)))
        have hm := cfalse hb3 hm
        exact skp (t_blk (t_then ⟨_, _, x1, _, _, _, env_has ⟨rfl, rfl, rfl, rfl, trivial⟩, im5, hS5.sel [0, 1, 2, 3] rfl, hm⟩))
      have hm := cfalse hb2 hm
      refine qgF (d0 := 25) rfl rfl (by rw [hb2]; rfl) (qgF (d0 := 25) rfl rfl (by rw [hb2]; rfl) (qgF (d0 := 25) rfl rfl (by rw [hb2]; rfl) (qgF (d0 := 25) rfl rfl (by rw [hb2]; rfl) (qgF (d0 := 25) rfl rfl (by rw [hb2]; rfl) (qgF (d0 := 25) rfl rfl (by rw [hb2]; rfl) (qgF (d0 := 25) rfl rfl (by rw [hb2]; rfl) (qgF (d0 := 25) rfl rfl (by rw [hb2]; rfl) (qv (fun _ hq => r_pkf rfl hb2 rfl) (qn fun w8 T5 i2 => ?_)))))))))
      have im8 := i2.imm
      have hS8 := hS4.keep i2 (fun _ h => h)
      refine t_then ?_
      refine cnd (b := false) rfl (fun h => nomatch h) (fun _ => ?_)
      exact skp (t_blk (t_then ⟨_, _, x1, _, _, _, env_has ⟨rfl, rfl, rfl, rfl, trivial⟩, im8, hS8.sel [0, 1, 2, 3] rfl, hm⟩))
    rintro _ w4 ⟨J, T3, x3, a6, n3, c6, rfl, im4, hS9, hm⟩
    rw [hkk1] at hm
    have hm := oI hm; subst hm
    exact rg (pv (r_mi rfl) (pv (r_ib rfl rfl rfl) (pv (r_zi rfl) (nil (t_then ⟨m1, Nat.lt_succ_self _, _, _, x3, _, _, _, (IntKind.wrap .i64 (x2 + 1)), env_has ⟨rfl, rfl, rfl, rfl, trivial⟩, (iT im3 im4), hS9.sel [0, 1, 2, 3] rfl, hn1⟩)))))
  have hm := cfalse hb1 hm
  have hm := oI hm; subst hm
  have hn1 : _ = Lp.brk _ := hn1
  subst hn1
  have hm := thn_brk hq1
  refine xt (x_then (x_then (x_eq (t_then ?_))))
  refine sq2 (rg (pv (r_ms rfl) (pv (r_zs rfl) (nil (t_then ?_)))))
  have hm := oI hm; subst hm
  exact rtn (ret1 rfl rfl ⟨_, rfl, _, (iT im1 (iT im2 im3)), ⟨_, _, _, rfl, hS4.sel [2, 0] rfl, trivial⟩⟩)

theorem ref16_Live_sim {p0 : Proc} {a1 : OA} {c1 : Nat} {a2 : OA} {c2 : Nat} {p1 : Int} {p2 : Int} {p3 : Int} {r : Bool} (hS : Sep g T0 w0 [R]) (h1 : SlR rGSlot T0 w0 (sv a1 p0.Objects c1) p0.Objects) (h2 : SlR rGBlock T0 w0 (sv a2 p0.Blocks c2) p0.Blocks) (hm : ref16_Live p0 p1 p2 p3 = some r) :
    Calls Tryz.prog 64 #[.agg (cProc p0 a1 c1 a2 c2).toArray, iv p1, iv p2, iv p3] w0 (RetS T0 w0 fun T w v => v = .bool r ∧ Sep g T w [R] ∧ True) := by
  refine enter (args := [.agg (cProc p0 a1 c1 a2 c2).toArray, iv p1, iv p2, iv p3]) Tryz.func64 rfl Tryz.ntmps64 rfl fun J => ?_
  unfold ref16_Live at hm
  refine sq2 (rg (wl rfl (bxS (cs := (cProc p0 a1 c1 a2 c2)) rfl rfl hS fun w1 b1 im1 hS1 => ?_)))
  refine pv (r_zb rfl) (nil (t_then ?_))
  refine sq2 ?_
  obtain ⟨u1, hx1, hm⟩ := bindS hm
  obtain ⟨b2, of1, cs1, k1, cp1, hv1, hp1, hl1, he1, hr1, hc1, hT1⟩ := (h2.mono im1).ixT hx1 rfl
  obtain ⟨a3, c3, rfl, h3⟩ := rGBlock_open hr1
  obtain ⟨y1, hx2, hm⟩ := bindS hm
  refine rg (pv (r_fa rfl underlying31 rfl sizeOf29 rfl) (pv (r_ld rfl isAgg29 (hS1.cell0 (i := 0) ⟨rfl, rfl⟩ (j := 5) rfl)) (pv (r_mi rfl) (pv (r_ixe hv1 rfl underlying29 sizeOf52 hp1 hl1 he1) (pv (r_ldS rfl isAgg52 sizeOf52 rfl hc1 (cs := [sv a3 u1.Ins c3, iv u1.End, iv u1.A, iv u1.To, iv u1.Else])) (pv (r_mi rfl) (pv (r_mi rfl) (wl rfl (calS cf86 rfl (ref16_within_sim (p0 := u1) (p1 := p2) (p2 := p3) (hS1.bun [0, 1] [] rfl) h3 hx2) rfl fun v1 T1 w2 im2 rv1 => ?_)))))))))
  obtain ⟨rfl, hS2, _⟩ := rv1
  have hS2 := hS2.unb
  refine pv (r_zi rfl) (nil (t_then ?_))
  refine sq2 (sq2 (rg (pv (r_mi rfl) (pv (r_ib rfl rfl rfl) (nil (t_then ?_))))))
  refine cnd rfl (fun hb1 => ?_) (fun hb1 => ?_)
  · have hm := ctrue hb1 hm
    refine sq2 (rg (pv (r_mi rfl) (pv (r_ib rfl rfl rfl) (pv (r_zb rfl) (nil (t_then ?_))))))
    have hm := oI hm; subst hm
    exact rtn (r_then (ret1 rfl rfl ⟨_, rfl, _, (iT im1 im2), ⟨rfl, hS2.sel [1] rfl, trivial⟩⟩))
  have hm := cfalse hb1 hm
  refine skp (t_then ?_)
  refine sq2 ?_
  obtain ⟨u2, hx3, hm⟩ := bindS hm
  refine rg (pv (r_fa rfl underlying31 rfl sizeOf29 rfl) (pv (r_ld rfl isAgg29 (hS2.cell0 (i := 0) ⟨rfl, rfl⟩ (j := 5) rfl)) (pv (r_ln rfl underlying29) (wl rfl (msS (r := rBool) hS2 rfl rfl underlying39 el4 zeroValue4 rfl hx3 fun w3 a4 n1 c4 im3 hS3 => ?_)))))
  refine pv (r_zs rfl) (nil (t_then ?_))
  refine sq2 ?_
  obtain ⟨y2, hx4, hm⟩ := bindS hm
  refine rg (pv (r_ldS rfl isAgg31 sizeOf31 rfl (hS3.cells0 (i := 1) ⟨rfl, rfl⟩ (o := 0) rfl) (cs := (cProc p0 a1 c1 a2 c2))) (pv (r_mi rfl) (wl rfl (calS cf87 rfl (ref16_Outs_sim (p0 := p0) (p1 := p1) (hS3.bun [0, 1, 2] [] rfl) (h1.mono (iT im1 (iT im2 im3))) (h2.mono (iT im1 (iT im2 im3))) hx4) rfl fun v2 T2 w4 im4 rv2 => ?_))))
  obtain ⟨a5, n2, c5, rfl, hS4, _⟩ := rv2
  have hS4 := hS4.unb
  refine pv (r_zs rfl) (nil (t_then ?_))
  refine sq2 (sq2 (rg (pv (r_zi rfl) (nil (t_then ?_)))))
  obtain ⟨o1, ho1, hq1⟩ := bindS hm
  obtain ⟨bd1, hbd1, ho1⟩ := loop_open ho1
  refine blk (wp_loop_ghost (fun m a w5 => ∃ (J : JV) (T3 : TP) (x1 : List Bool) (a6 : OA) (n3 : Nat) (c6 : Nat) (x2 : List Int) (a7 : OA) (n4 : Nat) (c7 : Nat) (x3 : Int), a = env (nf 80) J [(3, iv p3), (4, pt b1 0), (10, .slice a6 n3 c6), (11, .slice a7 n4 c7), (12, iv x3)] ∧ Im T2 w4 T3 w5 ∧ Sep g T3 w5 [ownA rBool 4 (.slice a6 n3 c6) x1, boxA b1 (cProc p0 a1 c1 a2 c2), R, ownA (rInt .i64) 3 (.slice a7 n4 c7) x2] ∧ loopM bd1 m (x1, x2, x3) = some o1) NN ⟨_, _, u2, _, _, _, y2, _, _, _, 0, env_has ⟨rfl, rfl, rfl, rfl, rfl, trivial⟩, Im.refl, hS4.sel [0, 1, 2, 3] rfl, ho1⟩ ?_)
  rintro m _ w5 ⟨J, T3, x1, a6, n3, c6, x2, a7, n4, c7, x3, rfl, im5, hS5, ho1⟩
  obtain ⟨m1, z1, rfl, hm, hn1⟩ := loop_round ho1
  rw [hbd1] at hm
  refine sq2 (sq2 (rg (pv (r_mi rfl) (pv (r_ms rfl) (pv (r_lnV rfl (hS5.own (i := 3) ⟨rfl, rfl⟩).v underlying41) (pv (r_ib rfl rfl rfl) (nil (t_then ?_))))))))
  refine cnd rfl (fun hb2 => ?_) (fun hb2 => ?_)
  · have hm := ctrue hb2 hm
    refine skp (t_then ?_)
    obtain ⟨kk1, hkk1, hm⟩ := jn_open hm
    refine cut (fun a w6 => ∃ (J : JV) (T4 : TP) (x4 : List Bool) (a8 : OA) (n5 : Nat) (c8 : Nat) (x5 : List Int) (a9 : OA) (n6 : Nat) (c9 : Nat), a = env (nf 80) J [(3, iv p3), (4, pt b1 0), (10, .slice a8 n5 c8), (11, .slice a9 n6 c9), (12, iv x3)] ∧ Im T3 w5 T4 w6 ∧ Sep g T4 w6 [ownA rBool 4 (.slice a8 n5 c8) x4, boxA b1 (cProc p0 a1 c1 a2 c2), R, ownA (rInt .i64) 3 (.slice a9 n6 c9) x5] ∧ kk1 x4 x5 = some z1) ?_ ?_
    · refine blk (sq2 ?_)
      obtain ⟨u3, hx5, hm⟩ := bindS hm
      obtain ⟨b3, of2, cs2, k2, cp2, hv2, hp2, hl2, he2, hr2, hc2⟩ := (hS5.own (i := 3) ⟨rfl, rfl⟩).v.ixq hx5 rfl
      cases hr2
      refine rg (pv (r_ms rfl) (pv (r_mi rfl) (pv (r_ixe hv2 rfl underlying41 sizeOf3 hp2 hl2 he2) (pv (r_ld rfl isAgg3 (hc2.get (j := 0) rfl)) (pv (r_zi rfl) (nil (t_then ?_)))))))
      refine sq2 (sq2 ?_)
      obtain ⟨u4, hx6, hm⟩ := bindS hm
      obtain ⟨b4, of3, cs3, k3, cp3, hv3, hp3, hl3, he3, hr3, hc3⟩ := (hS5.own (i := 0) ⟨rfl, rfl⟩).v.ixq hx6 rfl
      cases hr3
      refine rg (pv (r_ms rfl) (pv (r_mi rfl) (pv (r_ixe hv3 rfl underlying39 sizeOf4 hp3 hl3 he3) (pv (r_ld rfl isAgg4 (hc3.get (j := 0) rfl)) (nil (t_then ?_))))))
      refine cnd rfl (fun hb3 => ?_) (fun hb3 => ?_)
      · have hm := ctrue hb3 hm
        exact xt (x_then (x_eq (t_then ⟨_, _, x1, _, _, _, x2, _, _, _, env_has ⟨rfl, rfl, rfl, rfl, rfl, trivial⟩, Im.refl, hS5.sel [0, 1, 2, 3] rfl, hm⟩)))
      have hm := cfalse hb3 hm
      refine skp (t_then ?_)
      refine sq2 ?_
      obtain ⟨u5, hx7, hm⟩ := bindS hm
      obtain ⟨b5, of4, cs4, k4, cp4, hv4, hp4, hl4, he4, hr4, hc4⟩ := (hS5.own (i := 0) ⟨rfl, rfl⟩).v.ixq hx7 rfl
      cases hr4
      obtain ⟨u6, hx8, hm⟩ := bindS hm
      refine rg (pv (r_ms rfl) (pv (r_mi rfl) (pv (r_ixe hv4 rfl underlying39 sizeOf4 hp4 hl4 he4) (wl rfl (stO (q := 0) (i := Int.toNat u3) (j := 0) (u := u6) (u' := true) hS5 ⟨rfl, rfl⟩ hv4 (idx_some hx8).2.2 he4 rfl rfl rfl sizeOf4 rfl rfl rfl (fun c0 hc0 => by rw [storeL_all (r := rBool) hc0 rfl]; exact rfl) fun w7 im7 hS6 => ?_)))))
      refine nil (t_then ?_)
      refine sq2 ?_
      obtain ⟨u7, hx9, hm⟩ := bindS hm
      obtain ⟨b6, of5, cs5, k5, cp5, hv5, hp5, hl5, he5, hr5, hc5, hT2⟩ := (h2.mono (iT im1 (iT im2 (iT im3 (iT im4 (iT im5 im7)))))).ixT hx9 rfl
      obtain ⟨a10, c10, rfl, h4⟩ := rGBlock_open hr5
      obtain ⟨y3, hx10, hm⟩ := bindS hm
      refine rg (pv (r_fa rfl underlying31 rfl sizeOf29 rfl) (pv (r_ld rfl isAgg29 (hS6.cell0 (i := 1) ⟨rfl, rfl⟩ (j := 5) rfl)) (pv (r_mi rfl) (pv (r_ixe hv5 rfl underlying29 sizeOf52 hp5 hl5 he5) (pv (r_ldS rfl isAgg52 sizeOf52 rfl hc5 (cs := [sv a10 u7.Ins c10, iv u7.End, iv u7.A, iv u7.To, iv u7.Else])) (pv (r_mi rfl) (wl rfl (calS cf86 rfl (ref16_within_sim (p0 := u7) (p1 := 0) (p2 := p3) (hS6.bun [0, 1, 2, 3] [] rfl) h4 hx10) rfl fun v3 T5 w8 im8 rv3 => ?_))))))))
      obtain ⟨rfl, hS7, _⟩ := rv3
      have hS7 := hS7.unb
      refine pv (r_zi rfl) (nil (t_then ?_))
      refine sq2 (sq2 (rg (pv (r_mi rfl) (pv (r_ib rfl rfl rfl) (nil (t_then ?_))))))
      refine cnd rfl (fun hb4 => ?_) (fun hb4 => ?_)
      · have hm := ctrue hb4 hm
        refine sq2 (rg (pv (r_zb rfl) (nil (t_then ?_))))
        have hm := oI hm; subst hm
        have hn1 : _ = Lp.ret _ := hn1
        subst hn1
        have hm := thn_ret hq1
        have hm := oI hm; subst hm
        exact rtn (r_then (r_blk (r_then (r_then (r_blk (r_then (ret1 rfl rfl ⟨_, rfl, _, (iT im1 (iT im2 (iT im3 (iT im4 (iT im5 (iT im7 im8)))))), ⟨rfl, hS7.sel [2] rfl, trivial⟩⟩)))))))
      have hm := cfalse hb4 hm
      refine skp (t_then ?_)
      refine sq2 (rg (pv (r_mi rfl) (pv (r_ib rfl rfl rfl) (nil (t_then ?_)))))
      refine cnd rfl (fun hb5 => ?_) (fun hb5 => ?_)
      · have hm := ctrue hb5 hm
        refine sq2 ?_
        obtain ⟨y4, hx11, hm⟩ := bindS hm
        refine rg (pv (r_ldS rfl isAgg31 sizeOf31 rfl (hS7.cells0 (i := 1) ⟨rfl, rfl⟩ (o := 0) rfl) (cs := (cProc p0 a1 c1 a2 c2))) (pv (r_mi rfl) (wl rfl (calS cf87 rfl (ref16_Outs_sim (p0 := p0) (p1 := u3) (hS7.bun [0, 1, 2, 3] [] rfl) (h1.mono (iT im1 (iT im2 (iT im3 (iT im4 (iT im5 (iT im7 im8))))))) (h2.mono (iT im1 (iT im2 (iT im3 (iT im4 (iT im5 (iT im7 im8))))))) hx11) rfl fun v4 T6 w9 im9 rv4 => ?_))))
        obtain ⟨a11, n7, c11, rfl, hS8, _⟩ := rv4
        have hS8 := hS8.unb
        refine pv (r_zs rfl) (nil (t_then ?_))
        refine sq2 (rg (pv (r_zi rfl) (nil (t_then ?_))))
        obtain ⟨o2, ho2, hq2⟩ := bindS hm
        obtain ⟨bd2, hbd2, ho2⟩ := loop_open ho2
        refine blk (wp_loop_ghost (fun m a w10 => ∃ (J : JV) (T7 : TP) (x6 : List Int) (a12 : OA) (n8 : Nat) (c12 : Nat) (x7 : Int), a = env (nf 80) J [(3, iv p3), (4, pt b1 0), (10, .slice a6 n3 c6), (11, .slice a12 n8 c12), (12, iv x3), (15, .slice a11 n7 c11), (16, iv x7)] ∧ Im T6 w9 T7 w10 ∧ Sep g T7 w10 [ownA rBool 4 (.slice a6 n3 c6) (List.set x1 (Int.toNat u3) true), boxA b1 (cProc p0 a1 c1 a2 c2), R, ownA (rInt .i64) 3 (.slice a12 n8 c12) x6, ownA (rInt .i64) 3 (.slice a11 n7 c11) y4] ∧ loopM bd2 m (x6, x7) = some o2) NN ⟨_, _, x2, _, _, _, 0, env_has ⟨rfl, rfl, rfl, rfl, rfl, rfl, rfl, trivial⟩, Im.refl, hS8.sel [0, 1, 2, 3, 4] rfl, ho2⟩ ?_)
        rintro m _ w10 ⟨J, T7, x6, a12, n8, c12, x7, rfl, im10, hS9, ho2⟩
        obtain ⟨m2, z2, rfl, hm, hn2⟩ := loop_round ho2
        rw [hbd2] at hm
        refine sq2 (sq2 (rg (pv (r_mi rfl) (pv (r_ms rfl) (pv (r_lnV rfl (hS9.own (i := 4) ⟨rfl, rfl⟩).v underlying41) (pv (r_ib rfl rfl rfl) (nil (t_then ?_))))))))
        refine cnd rfl (fun hb6 => ?_) (fun hb6 => ?_)
        · have hm := ctrue hb6 hm
          refine skp (t_then ?_)
          refine sq2 (blk ?_)
          obtain ⟨u8, hx12, hm⟩ := bindS hm
          obtain ⟨b7, of6, cs6, k6, cp6, hv6, hp6, hl6, he6, hr6, hc6⟩ := (hS9.own (i := 4) ⟨rfl, rfl⟩).v.ixq hx12 rfl
          cases hr6
          refine rg (pv (r_ms rfl) (pv (r_ms rfl) (pv (r_mi rfl) (pv (r_ixe hv6 rfl underlying41 sizeOf3 hp6 hl6 he6) (pv (r_ld rfl isAgg3 (hc6.get (j := 0) rfl)) (wl rfl (bsS (r := (rInt .i64)) (l := ([u8] : List Int)) (css := [[iv u8]]) hS9 underlying41 sizeOf3 zeroValue3 rfl rfl (by kernel_rfl) rfl ⟨rfl, trivial⟩ rfl rfl fun w11 a13 n9 c13 im11 hS10 => ?_)))))))
          obtain ⟨z_1, hro1, hm⟩ := bindS hm
          refine wl rfl (apO (q := 4) (l := x6) (us := ([u8] : List Int)) hS10 ⟨rfl, rfl⟩ rfl rfl (hS10.own (i := 0) ⟨rfl, rfl⟩).v underlying41 el3 (room_some hro1) fun w12 a14 n10 c14 im12 hS11 => ?_)
          refine pv (r_zs rfl) (nil (t_blk (t_then ?_)))
          have hm := oI hm; subst hm
          exact rg (pv (r_mi rfl) (pv (r_ib rfl rfl rfl) (pv (r_zi rfl) (nil (t_then ⟨m2, Nat.lt_succ_self _, _, _, (x6 ++ ([u8] : List Int)), _, _, _, (IntKind.wrap .i64 (x7 + 1)), env_has ⟨rfl, rfl, rfl, rfl, rfl, rfl, rfl, trivial⟩, (iT im10 (iT im11 im12)), hS11.sel [1, 2, 3, 4, 5] rfl, hn2⟩)))))
        have hm := cfalse hb6 hm
        have hm := oI hm; subst hm
        have hn2 : _ = Lp.brk _ := hn2
        subst hn2
        have hm := thn_brk hq2
        exact xt (x_then (x_then (x_eq (t_blk (t_then ⟨_, _, (List.set x1 (Int.toNat u3) true), _, _, _, x6, _, _, _, env_has ⟨rfl, rfl, rfl, rfl, rfl, trivial⟩, (iT im7 (iT im8 (iT im9 im10))), hS9.sel [0, 1, 2, 3] rfl, hm⟩)))))
      have hm := cfalse hb5 hm
      exact skp (t_blk (t_then ⟨_, _, (List.set x1 (Int.toNat u3) true), _, _, _, x2, _, _, _, env_has ⟨rfl, rfl, rfl, rfl, rfl, trivial⟩, (iT im7 im8), hS7.sel [0, 1, 2, 3] rfl, hm⟩))
    rintro _ w6 ⟨J, T4, x4, a8, n5, c8, x5, a9, n6, c9, rfl, im6, hS12, hm⟩
    rw [hkk1] at hm
    have hm := oI hm; subst hm
    exact rg (pv (r_mi rfl) (pv (r_ib rfl rfl rfl) (pv (r_zi rfl) (nil (t_then ⟨m1, Nat.lt_succ_self _, _, _, x4, _, _, _, x5, _, _, _, (IntKind.wrap .i64 (x3 + 1)), env_has ⟨rfl, rfl, rfl, rfl, rfl, trivial⟩, (iT im5 im6), hS12.sel [0, 1, 2, 3] rfl, hn1⟩)))))
  have hm := cfalse hb2 hm
  have hm := oI hm; subst hm
  have hn1 : _ = Lp.brk _ := hn1
  subst hn1
  have hm := thn_brk hq1
  refine xt (x_then (x_then (x_eq (t_then ?_))))
  refine sq2 (rg (pv (r_zb rfl) (nil (t_then ?_))))
  have hm := oI hm; subst hm
  exact rtn (ret1 rfl rfl ⟨_, rfl, _, (iT im1 (iT im2 (iT im3 (iT im4 im5)))), ⟨rfl, hS5.sel [2] rfl, trivial⟩⟩)

theorem ref24_Range_sim {p0 : Proc} {a1 : OA} {c1 : Nat} {a2 : OA} {c2 : Nat} {p1 : Int} {r : ref24Reach} (hS : Sep g T0 w0 [R]) (h1 : SlR rGSlot T0 w0 (sv a1 p0.Objects c1) p0.Objects) (h2 : SlR rGBlock T0 w0 (sv a2 p0.Blocks c2) p0.Blocks) (hm : ref24_Range p0 p1 = some r) :
    Calls Tryz.prog 37 #[.agg (cProc p0 a1 c1 a2 c2).toArray, iv p1] w0 (RetS T0 w0 fun T w v => v = .agg (cref24Reach r).toArray ∧ Sep g T w [R] ∧ True) := by
  refine enter (args := [.agg (cProc p0 a1 c1 a2 c2).toArray, iv p1]) Tryz.func37 rfl Tryz.ntmps37 rfl fun J => ?_
  unfold ref24_Range at hm
  refine sq2 (rg (wl rfl (bxS (cs := (cProc p0 a1 c1 a2 c2)) rfl rfl hS fun w1 b1 im1 hS1 => ?_)))
  refine wl rfl (alS (zs := [iv 0, iv 0, iv 0, .bool false]) zeroValue73 rfl hS1 fun w2 b2 im2 hS2 => ?_)
  refine nil (t_then ?_)
  refine sq2 (rg (pv (r_mi rfl) (pv (r_bd (by kernel_rfl) rfl (u := .agg #[iv p1, iv 0, iv 0, .bool false])) (wl rfl (alS (zs := [iv 0, iv 0, iv 0, .bool false]) zeroValue73 rfl hS2 fun w3 b3 im3 hS3 => ?_)))))
  refine wl rfl (st0B (q := 0) hS3 ⟨rfl, rfl⟩ rfl rfl rfl sizeOf73 rfl rfl rfl fun w4 im4 hS4 => ?_)
  refine nil (t_then ?_)
  obtain ⟨kk1, hkk1, hm⟩ := jn_open hm
  refine cut (fun a w5 => ∃ (J : JV) (T1 : TP) (x1 : ref24Reach), a = env (nf 91) J [(1, iv p1), (2, pt b1 0), (4, pt b2 0), (5, pt b3 0)] ∧ Im T0 w4 T1 w5 ∧ Sep g T1 w5 [boxA b3 (cref24Reach x1), boxA b2 [iv 0, iv 0, iv 0, .bool false], boxA b1 (cProc p0 a1 c1 a2 c2), R] ∧ kk1 x1 = some r) ?_ ?_
  · refine sq2 (rg (pv (r_mi rfl) (pv (r_fa rfl underlying31 rfl sizeOf3 rfl) (pv (r_ld rfl isAgg3 (hS4.cell0 (i := 2) ⟨rfl, rfl⟩ (j := 2) rfl)) (pv (r_ib rfl rfl rfl) (nil (t_then ?_)))))))
    refine cnd rfl (fun hb1 => ?_) (fun hb1 => ?_)
    · have hm := ctrue hb1 hm
      obtain ⟨y1, hx1, hm⟩ := bindS hm
      refine rg (pv (r_ldS rfl isAgg73 sizeOf73 rfl (hS4.cells0 (i := 0) ⟨rfl, rfl⟩ (o := 0) rfl) (cs := [iv p1, iv 0, iv 0, .bool false])) (wl rfl (calS cf63 rfl (ref24_with_sim (p0 := (⟨p1, 0, 0, false⟩ : ref24Reach)) (p1 := 0) (hS4.bun [0, 1, 2, 3] [] rfl)  hx1) rfl fun v1 T2 w6 im6 rv1 => ?_)))
      obtain ⟨rfl, hS5, _⟩ := rv1
      have hS5 := hS5.unb
      refine wl rfl (st0B (q := 0) hS5 ⟨rfl, rfl⟩ rfl rfl rfl sizeOf73 rfl rfl rfl fun w7 im7 hS6 => ?_)
      exact nil (t_then ⟨_, _, y1, env_has ⟨rfl, rfl, rfl, rfl, trivial⟩, (iT im6 im7), hS6.sel [0, 1, 2, 3] rfl, hm⟩)
    have hm := cfalse hb1 hm
    exact skp (t_then ⟨_, _, (⟨p1, 0, 0, false⟩ : ref24Reach), env_has ⟨rfl, rfl, rfl, rfl, trivial⟩, Im.refl, hS4.sel [0, 1, 2, 3] rfl, hm⟩)
  rintro _ w5 ⟨J, T1, x1, rfl, im5, hS7, hm⟩
  rw [hkk1] at hm
  refine sq2 (rg (pv (r_zi rfl) (nil (t_then ?_))))
  refine sq2 (sq2 (rg (pv (r_zi rfl) (nil (t_then ?_)))))
  obtain ⟨o1, ho1, hq1⟩ := bindS hm
  obtain ⟨bd1, hbd1, ho1⟩ := loop_open ho1
  refine blk (wp_loop_ghost (fun m a w8 => ∃ (J : JV) (T3 : TP) (x4 : ref24Reach) (x2 : Int) (x3 : Int), a = env (nf 91) J [(1, iv p1), (2, pt b1 0), (4, pt b2 0), (5, pt b3 0), (6, iv x2), (7, iv x3)] ∧ Im T1 w5 T3 w8 ∧ Sep g T3 w8 [boxA b3 (cref24Reach x4), boxA b2 [iv 0, iv 0, iv 0, .bool false], boxA b1 (cProc p0 a1 c1 a2 c2), R] ∧ loopM bd1 m (x2, x3, x4) = some o1) NN ⟨_, _, x1, 0, 0, env_has ⟨rfl, rfl, rfl, rfl, rfl, rfl, trivial⟩, Im.refl, hS7.sel [0, 1, 2, 3] rfl, ho1⟩ ?_)
  rintro m _ w8 ⟨J, T3, x4, x2, x3, rfl, im8, hS8, ho1⟩
  obtain ⟨m1, z1, rfl, hm, hn1⟩ := loop_round ho1
  rw [hbd1] at hm
  refine sq2 (sq2 (rg (pv (r_mi rfl) (pv (r_fa rfl underlying31 rfl sizeOf29 rfl) (pv (r_ld rfl isAgg29 (hS8.cell0 (i := 2) ⟨rfl, rfl⟩ (j := 5) rfl)) (pv (r_ln rfl underlying29) (pv (r_ib rfl rfl rfl) (nil (t_then ?_)))))))))
  refine cnd rfl (fun hb2 => ?_) (fun hb2 => ?_)
  · have hm := ctrue hb2 hm
    refine skp (t_then ?_)
    refine sq2 (blk (sq2 ?_))
    obtain ⟨u1, hx2, hm⟩ := bindS hm
    obtain ⟨b4, of1, cs1, k1, cp1, hv1, hp1, hl1, he1, hr1, hc1, hT1⟩ := (h2.mono (iT im1 (iT im2 (iT im3 (iT im4 (iT im5 im8)))))).ixT hx2 rfl
    obtain ⟨a3, c3, rfl, h3⟩ := rGBlock_open hr1
    refine rg (pv (r_fa rfl underlying31 rfl sizeOf29 rfl) (pv (r_ld rfl isAgg29 (hS8.cell0 (i := 2) ⟨rfl, rfl⟩ (j := 5) rfl)) (pv (r_mi rfl) (pv (r_ixe hv1 rfl underlying29 sizeOf52 hp1 hl1 he1) (pv (r_fa rfl underlying52 rfl sizeOf50 rfl) (pv (r_ld rfl isAgg50 (hc1.get (j := 0) rfl)) (pv (r_zs rfl) (nil (t_then ?_)))))))))
    obtain ⟨kk2, hkk2, hm⟩ := jn_open hm
    refine cut (fun a w9 => ∃ (J : JV) (T4 : TP) (x5 : ref24Reach), a = env (nf 91) J [(1, iv p1), (2, pt b1 0), (4, pt b2 0), (5, pt b3 0), (6, iv x2), (7, iv x3), (8, sv a3 u1.Ins c3)] ∧ Im T3 w8 T4 w9 ∧ Sep g T4 w9 [boxA b3 (cref24Reach x5), boxA b2 [iv 0, iv 0, iv 0, .bool false], boxA b1 (cProc p0 a1 c1 a2 c2), R] ∧ kk2 x5 = some z1) ?_ ?_
    · refine sq2 ?_
      obtain ⟨y2, hx3, hm⟩ := bindS hm
      refine rg (pv (r_ldS rfl isAgg31 sizeOf31 rfl (hS8.cells0 (i := 2) ⟨rfl, rfl⟩ (o := 0) rfl) (cs := (cProc p0 a1 c1 a2 c2))) (pv (r_mi rfl) (pv (r_mi rfl) (wl rfl (calS cf64 rfl (ref16_Live_sim (p0 := p0) (p1 := x3) (p2 := 0) (p3 := p1) (hS8.bun [0, 1, 2, 3] [] rfl) (h1.mono (iT im1 (iT im2 (iT im3 (iT im4 (iT im5 im8)))))) (h2.mono (iT im1 (iT im2 (iT im3 (iT im4 (iT im5 im8)))))) hx3) rfl fun v2 T5 w10 im10 rv2 => ?_)))))
      obtain ⟨rfl, hS9, _⟩ := rv2
      have hS9 := hS9.unb
      refine nil (t_then ?_)
      refine cnd rfl (fun hb3 => ?_) (fun hb3 => ?_)
      · have hm := ctrue hb3 hm
        obtain ⟨y3, hx4, hm⟩ := bindS hm
        refine rg (pv (r_ldS rfl isAgg73 sizeOf73 rfl (hS9.cells0 (i := 0) ⟨rfl, rfl⟩ (o := 0) rfl) (cs := (cref24Reach x4))) (pv (r_mi rfl) (wl rfl (calS cf63 rfl (ref24_with_sim (p0 := x4) (p1 := x2) (hS9.bun [0, 1, 2, 3] [] rfl)  hx4) rfl fun v3 T6 w11 im11 rv3 => ?_))))
        obtain ⟨rfl, hS10, _⟩ := rv3
        have hS10 := hS10.unb
        refine wl rfl (st0B (q := 0) hS10 ⟨rfl, rfl⟩ rfl rfl rfl sizeOf73 rfl rfl rfl fun w12 im12 hS11 => ?_)
        exact nil (t_then ⟨_, _, y3, env_has ⟨rfl, rfl, rfl, rfl, rfl, rfl, rfl, trivial⟩, (iT im10 (iT im11 im12)), hS11.sel [0, 1, 2, 3] rfl, hm⟩)
      have hm := cfalse hb3 hm
      exact skp (t_then ⟨_, _, x4, env_has ⟨rfl, rfl, rfl, rfl, rfl, rfl, rfl, trivial⟩, im10, hS9.sel [0, 1, 2, 3] rfl, hm⟩)
    rintro _ w9 ⟨J, T4, x5, rfl, im9, hS12, hm⟩
    rw [hkk2] at hm
    refine sq2 (sq2 (rg (pv (r_zi rfl) (nil (t_then ?_)))))
    obtain ⟨o2, ho2, hq2⟩ := bindS hm
    obtain ⟨bd2, hbd2, ho2⟩ := loop_open ho2
    refine blk (wp_loop_ghost (fun m a w13 => ∃ (J : JV) (T7 : TP) (x8 : ref24Reach) (x6 : Int) (x7 : Int), a = env (nf 91) J [(1, iv p1), (2, pt b1 0), (4, pt b2 0), (5, pt b3 0), (6, iv x6), (7, iv x3), (8, sv a3 u1.Ins c3), (9, iv x7)] ∧ Im T4 w9 T7 w13 ∧ Sep g T7 w13 [boxA b3 (cref24Reach x8), boxA b2 [iv 0, iv 0, iv 0, .bool false], boxA b1 (cProc p0 a1 c1 a2 c2), R] ∧ loopM bd2 m (x6, x7, x8) = some o2) NN ⟨_, _, x5, x2, 0, env_has ⟨rfl, rfl, rfl, rfl, rfl, rfl, rfl, rfl, trivial⟩, Im.refl, hS12.sel [0, 1, 2, 3] rfl, ho2⟩ ?_)
    rintro m _ w13 ⟨J, T7, x8, x6, x7, rfl, im13, hS13, ho2⟩
    obtain ⟨m2, z2, rfl, hm, hn2⟩ := loop_round ho2
    rw [hbd2] at hm
    refine sq2 (sq2 (rg (pv (r_mi rfl) (pv (r_ms rfl) (pv (r_ln rfl underlying50) (pv (r_ib rfl rfl rfl) (nil (t_then ?_))))))))
    refine cnd rfl (fun hb4 => ?_) (fun hb4 => ?_)
    · have hm := ctrue hb4 hm
      refine skp (t_then ?_)
      refine sq2 (blk (sq2 ?_))
      obtain ⟨u2, hx5, hm⟩ := bindS hm
      obtain ⟨b5, of2, cs2, k2, cp2, hv2, hp2, hl2, he2, hr2, hc2, hT2⟩ := (h3.mono (iT im9 im13)).ixT hx5 rfl
      obtain ⟨a4, c4, rfl, h4⟩ := rIns_open hr2
      obtain ⟨y4, hx6, hm⟩ := bindS hm
      refine rg (pv (r_ms rfl) (pv (r_mi rfl) (pv (r_ixe hv2 rfl underlying50 sizeOf49 hp2 hl2 he2) (pv (r_ldS rfl isAgg49 sizeOf49 rfl hc2 (cs := (cIns u2 a4 c4))) (wl rfl (calS cf65 rfl (ref13_Uses_sim (p0 := u2) (hS13.bun [0, 1, 2, 3] [] rfl) h4 hx6) rfl fun v4 T8 w14 im14 rv4 => ?_))))))
      obtain ⟨a5, n1, c5, rfl, hS14, _⟩ := rv4
      have hS14 := hS14.unb
      refine pv (r_zs rfl) (nil (t_then ?_))
      refine sq2 (sq2 (rg (pv (r_zi rfl) (nil (t_then ?_)))))
      obtain ⟨o3, ho3, hq3⟩ := bindS hm
      obtain ⟨bd3, hbd3, ho3⟩ := loop_open ho3
      refine blk (wp_loop_ghost (fun m a w15 => ∃ (J : JV) (T9 : TP) (x10 : ref24Reach) (x9 : Int), a = env (nf 91) J [(1, iv p1), (2, pt b1 0), (4, pt b2 0), (5, pt b3 0), (6, iv x6), (7, iv x3), (8, sv a3 u1.Ins c3), (9, iv x7), (10, .slice a5 n1 c5), (11, iv x9)] ∧ Im T8 w14 T9 w15 ∧ Sep g T9 w15 [boxA b3 (cref24Reach x10), boxA b2 [iv 0, iv 0, iv 0, .bool false], boxA b1 (cProc p0 a1 c1 a2 c2), R, ownA (rInt .i64) 3 (.slice a5 n1 c5) y4] ∧ loopM bd3 m (x9, x10) = some o3) NN ⟨_, _, x8, 0, env_has ⟨rfl, rfl, rfl, rfl, rfl, rfl, rfl, rfl, rfl, rfl, trivial⟩, Im.refl, hS14.sel [0, 1, 2, 3, 4] rfl, ho3⟩ ?_)
      rintro m _ w15 ⟨J, T9, x10, x9, rfl, im15, hS15, ho3⟩
      obtain ⟨m3, z3, rfl, hm, hn3⟩ := loop_round ho3
      rw [hbd3] at hm
      refine sq2 (sq2 (rg (pv (r_mi rfl) (pv (r_ms rfl) (pv (r_lnV rfl (hS15.own (i := 4) ⟨rfl, rfl⟩).v underlying41) (pv (r_ib rfl rfl rfl) (nil (t_then ?_))))))))
      refine cnd rfl (fun hb5 => ?_) (fun hb5 => ?_)
      · have hm := ctrue hb5 hm
        refine skp (t_then ?_)
        obtain ⟨kk3, hkk3, hm⟩ := jn_open hm
        refine cut (fun a w16 => ∃ (J : JV) (T10 : TP) (x11 : ref24Reach), a = env (nf 91) J [(1, iv p1), (2, pt b1 0), (4, pt b2 0), (5, pt b3 0), (6, iv x6), (7, iv x3), (8, sv a3 u1.Ins c3), (9, iv x7), (10, .slice a5 n1 c5), (11, iv x9)] ∧ Im T9 w15 T10 w16 ∧ Sep g T10 w16 [boxA b3 (cref24Reach x11), boxA b2 [iv 0, iv 0, iv 0, .bool false], boxA b1 (cProc p0 a1 c1 a2 c2), R, ownA (rInt .i64) 3 (.slice a5 n1 c5) y4] ∧ kk3 x11 = some z3) ?_ ?_
        · refine blk (sq2 ?_)
          obtain ⟨u3, hx7, hm⟩ := bindS hm
          obtain ⟨b6, of3, cs3, k3, cp3, hv3, hp3, hl3, he3, hr3, hc3⟩ := (hS15.own (i := 4) ⟨rfl, rfl⟩).v.ixq hx7 rfl
          cases hr3
          refine rg (pv (r_ms rfl) (pv (r_mi rfl) (pv (r_ixe hv3 rfl underlying41 sizeOf3 hp3 hl3 he3) (pv (r_ld rfl isAgg3 (hc3.get (j := 0) rfl)) (pv (r_mi rfl) (pv (r_ib rfl rfl rfl) (nil (t_then ?_))))))))
          refine cnd rfl (fun hb6 => ?_) (fun hb6 => ?_)
          · have hm := ctrue hb6 hm
            obtain ⟨y5, hx8, hm⟩ := bindS hm
            refine rg (pv (r_ldS rfl isAgg73 sizeOf73 rfl (hS15.cells0 (i := 0) ⟨rfl, rfl⟩ (o := 0) rfl) (cs := (cref24Reach x10))) (pv (r_mi rfl) (wl rfl (calS cf63 rfl (ref24_with_sim (p0 := x10) (p1 := x6) (hS15.bun [0, 1, 2, 3, 4] [] rfl)  hx8) rfl fun v5 T11 w17 im17 rv5 => ?_))))
            obtain ⟨rfl, hS16, _⟩ := rv5
            have hS16 := hS16.unb
            refine wl rfl (st0B (q := 0) hS16 ⟨rfl, rfl⟩ rfl rfl rfl sizeOf73 rfl rfl rfl fun w18 im18 hS17 => ?_)
            exact nil (t_blk (t_then ⟨_, _, y5, env_has ⟨rfl, rfl, rfl, rfl, rfl, rfl, rfl, rfl, rfl, rfl, trivial⟩, (iT im17 im18), hS17.sel [0, 1, 2, 3, 4] rfl, hm⟩))
          have hm := cfalse hb6 hm
          exact skp (t_blk (t_then ⟨_, _, x10, env_has ⟨rfl, rfl, rfl, rfl, rfl, rfl, rfl, rfl, rfl, rfl, trivial⟩, Im.refl, hS15.sel [0, 1, 2, 3, 4] rfl, hm⟩))
        rintro _ w16 ⟨J, T10, x11, rfl, im16, hS18, hm⟩
        rw [hkk3] at hm
        have hm := oI hm; subst hm
        exact rg (pv (r_mi rfl) (pv (r_ib rfl rfl rfl) (pv (r_zi rfl) (nil (t_then ⟨m3, Nat.lt_succ_self _, _, _, x11, (IntKind.wrap .i64 (x9 + 1)), env_has ⟨rfl, rfl, rfl, rfl, rfl, rfl, rfl, rfl, rfl, rfl, trivial⟩, (iT im15 im16), hS18.sel [0, 1, 2, 3, 4] rfl, hn3⟩)))))
      have hm := cfalse hb5 hm
      have hm := oI hm; subst hm
      have hn3 : _ = Lp.brk _ := hn3
      subst hn3
      have hm := thn_brk hq3
      refine xt (x_then (x_then (x_eq (t_then ?_))))
      obtain ⟨kk4, hkk4, hm⟩ := jn_open hm
      refine cut (fun a w19 => ∃ (J : JV) (T12 : TP) (x12 : ref24Reach), a = env (nf 91) J [(1, iv p1), (2, pt b1 0), (4, pt b2 0), (5, pt b3 0), (6, iv x6), (7, iv x3), (8, sv a3 u1.Ins c3), (9, iv x7)] ∧ Im T9 w15 T12 w19 ∧ Sep g T12 w19 [boxA b3 (cref24Reach x12), boxA b2 [iv 0, iv 0, iv 0, .bool false], boxA b1 (cProc p0 a1 c1 a2 c2), R] ∧ kk4 x12 = some z2) ?_ ?_
      · refine sq2 ?_
        obtain ⟨u4, hx9, hm⟩ := bindS hm
        obtain ⟨b7, of4, cs4, k4, cp4, hv4, hp4, hl4, he4, hr4, hc4, hT3⟩ := (h3.mono (iT im9 (iT im13 (iT im14 im15)))).ixT hx9 rfl
        obtain ⟨a6, c6, rfl, h5⟩ := rIns_open hr4
        obtain ⟨y6, hx10, hm⟩ := bindS hm
        refine rg (pv (r_ms rfl) (pv (r_mi rfl) (pv (r_ixe hv4 rfl underlying50 sizeOf49 hp4 hl4 he4) (pv (r_ldS rfl isAgg49 sizeOf49 rfl hc4 (cs := (cIns u4 a6 c6))) (wl rfl (calS cf66 rfl (ref13_Def_sim (p0 := u4) (hS15.bun [0, 1, 2, 3] [] rfl) h5 hx10) rfl fun v6 T13 w20 im20 rv6 => ?_))))))
        obtain ⟨rfl, hS19, _⟩ := rv6
        have hS19 := hS19.unb
        refine pv (r_mi rfl) (pv (r_ib rfl rfl rfl) (nil (t_then ?_)))
        refine cnd rfl (fun hb7 => ?_) (fun hb7 => ?_)
        · have hm := ctrue hb7 hm
          obtain ⟨y7, hx11, hm⟩ := bindS hm
          refine rg (pv (r_ldS rfl isAgg73 sizeOf73 rfl (hS19.cells0 (i := 0) ⟨rfl, rfl⟩ (o := 0) rfl) (cs := (cref24Reach x10))) (pv (r_mi rfl) (pv (r_ib rfl rfl rfl) (wl rfl (calS cf63 rfl (ref24_with_sim (p0 := x10) (p1 := IntKind.wrap .i64 (x6 + 1)) (hS19.bun [0, 1, 2, 3] [] rfl)  hx11) rfl fun v7 T14 w21 im21 rv7 => ?_)))))
          obtain ⟨rfl, hS20, _⟩ := rv7
          have hS20 := hS20.unb
          refine wl rfl (st0B (q := 0) hS20 ⟨rfl, rfl⟩ rfl rfl rfl sizeOf73 rfl rfl rfl fun w22 im22 hS21 => ?_)
          exact nil (t_then ⟨_, _, y7, env_has ⟨rfl, rfl, rfl, rfl, rfl, rfl, rfl, rfl, trivial⟩, (iT im20 (iT im21 im22)), hS21.sel [0, 1, 2, 3] rfl, hm⟩)
        have hm := cfalse hb7 hm
        exact skp (t_then ⟨_, _, x10, env_has ⟨rfl, rfl, rfl, rfl, rfl, rfl, rfl, rfl, trivial⟩, im20, hS19.sel [0, 1, 2, 3] rfl, hm⟩)
      rintro _ w19 ⟨J, T12, x12, rfl, im19, hS22, hm⟩
      rw [hkk4] at hm
      refine rg (pv (r_mi rfl) (pv (r_ib rfl rfl rfl) (pv (r_zi rfl) (nil (t_blk (t_then ?_))))))
      have hm := oI hm; subst hm
      exact rg (pv (r_mi rfl) (pv (r_ib rfl rfl rfl) (pv (r_zi rfl) (nil (t_then ⟨m2, Nat.lt_succ_self _, _, _, x12, (IntKind.wrap .i64 (x6 + 2)), (IntKind.wrap .i64 (x7 + 1)), env_has ⟨rfl, rfl, rfl, rfl, rfl, rfl, rfl, rfl, trivial⟩, (iT im13 (iT im14 (iT im15 im19))), hS22.sel [0, 1, 2, 3] rfl, hn2⟩)))))
    have hm := cfalse hb4 hm
    have hm := oI hm; subst hm
    have hn2 : _ = Lp.brk _ := hn2
    subst hn2
    have hm := thn_brk hq2
    refine xt (x_then (x_then (x_eq (t_then ?_))))
    obtain ⟨kk5, hkk5, hm⟩ := jn_open hm
    refine cut (fun a w23 => ∃ (J : JV) (T15 : TP) (x13 : ref24Reach), a = env (nf 91) J [(1, iv p1), (2, pt b1 0), (4, pt b2 0), (5, pt b3 0), (6, iv x6), (7, iv x3)] ∧ Im T7 w13 T15 w23 ∧ Sep g T15 w23 [boxA b3 (cref24Reach x13), boxA b2 [iv 0, iv 0, iv 0, .bool false], boxA b1 (cProc p0 a1 c1 a2 c2), R] ∧ kk5 x13 = some z1) ?_ ?_
    · refine sq2 ?_
      obtain ⟨y8, hx12, hm⟩ := bindS hm
      refine rg (pv (r_ldS rfl isAgg31 sizeOf31 rfl (hS13.cells0 (i := 2) ⟨rfl, rfl⟩ (o := 0) rfl) (cs := (cProc p0 a1 c1 a2 c2))) (pv (r_mi rfl) (pv (r_ms rfl) (pv (r_ln rfl underlying50) (pv (r_mi rfl) (wl rfl (calS cf64 rfl (ref16_Live_sim (p0 := p0) (p1 := x3) (p2 := (List.length u1.Ins : Int)) (p3 := p1) (hS13.bun [0, 1, 2, 3] [] rfl) (h1.mono (iT im1 (iT im2 (iT im3 (iT im4 (iT im5 (iT im8 (iT im9 im13)))))))) (h2.mono (iT im1 (iT im2 (iT im3 (iT im4 (iT im5 (iT im8 (iT im9 im13)))))))) hx12) rfl fun v8 T16 w24 im24 rv8 => ?_)))))))
      obtain ⟨rfl, hS23, _⟩ := rv8
      have hS23 := hS23.unb
      refine nil (t_then ?_)
      refine cnd rfl (fun hb8 => ?_) (fun hb8 => ?_)
      · have hm := ctrue hb8 hm
        obtain ⟨y9, hx13, hm⟩ := bindS hm
        refine rg (pv (r_ldS rfl isAgg73 sizeOf73 rfl (hS23.cells0 (i := 0) ⟨rfl, rfl⟩ (o := 0) rfl) (cs := (cref24Reach x8))) (pv (r_mi rfl) (wl rfl (calS cf63 rfl (ref24_with_sim (p0 := x8) (p1 := x6) (hS23.bun [0, 1, 2, 3] [] rfl)  hx13) rfl fun v9 T17 w25 im25 rv9 => ?_))))
        obtain ⟨rfl, hS24, _⟩ := rv9
        have hS24 := hS24.unb
        refine wl rfl (st0B (q := 0) hS24 ⟨rfl, rfl⟩ rfl rfl rfl sizeOf73 rfl rfl rfl fun w26 im26 hS25 => ?_)
        exact nil (t_then ⟨_, _, y9, env_has ⟨rfl, rfl, rfl, rfl, rfl, rfl, trivial⟩, (iT im24 (iT im25 im26)), hS25.sel [0, 1, 2, 3] rfl, hm⟩)
      have hm := cfalse hb8 hm
      exact skp (t_then ⟨_, _, x8, env_has ⟨rfl, rfl, rfl, rfl, rfl, rfl, trivial⟩, im24, hS23.sel [0, 1, 2, 3] rfl, hm⟩)
    rintro _ w23 ⟨J, T15, x13, rfl, im23, hS26, hm⟩
    rw [hkk5] at hm
    refine rg (pv (r_mi rfl) (pv (r_ib rfl rfl rfl) (pv (r_zi rfl) (nil (t_blk (t_then ?_))))))
    have hm := oI hm; subst hm
    exact rg (pv (r_mi rfl) (pv (r_ib rfl rfl rfl) (pv (r_zi rfl) (nil (t_then ⟨m1, Nat.lt_succ_self _, _, _, x13, (IntKind.wrap .i64 (x6 + 1)), (IntKind.wrap .i64 (x3 + 1)), env_has ⟨rfl, rfl, rfl, rfl, rfl, rfl, trivial⟩, (iT im8 (iT im9 (iT im13 im23))), hS26.sel [0, 1, 2, 3] rfl, hn1⟩)))))
  have hm := cfalse hb2 hm
  have hm := oI hm; subst hm
  have hn1 : _ = Lp.brk _ := hn1
  subst hn1
  have hm := thn_brk hq1
  refine xt (x_then (x_then (x_eq (t_then ?_))))
  refine sq2 (rg (pv (r_ldS rfl isAgg73 sizeOf73 rfl (hS8.cells0 (i := 0) ⟨rfl, rfl⟩ (o := 0) rfl) (cs := (cref24Reach x4))) (wl rfl (st0B (q := 1) hS8 ⟨rfl, rfl⟩ rfl rfl rfl sizeOf73 rfl rfl rfl fun w27 im27 hS27 => ?_))))
  refine nil (t_then ?_)
  have hm := oI hm; subst hm
  exact rtn (retN (vs := [.agg (cref24Reach x4).toArray]) rfl ⟨rvS rfl isAgg73 sizeOf73 rfl (hS27.bx (i := 1) ⟨rfl, rfl⟩), trivial⟩ rfl ⟨_, rfl, _, (iT im1 (iT im2 (iT im3 (iT im4 (iT im5 (iT im8 im27)))))), ⟨rfl, hS27.sel [3] rfl, trivial⟩⟩)

theorem ref24_before_sim {p0 : ref24Reach} {p1 : ref24Reach} {r : Bool} (hS : Sep g T0 w0 [R])  (hm : ref24_before p0 p1 = some r) :
    Calls Tryz.prog 38 #[.agg (cref24Reach p0).toArray, .agg (cref24Reach p1).toArray] w0 (RetS T0 w0 fun T w v => v = .bool r ∧ Sep g T w [R] ∧ True) := by
  refine enter (args := [.agg (cref24Reach p0).toArray, .agg (cref24Reach p1).toArray]) Tryz.func38 rfl Tryz.ntmps38 rfl fun J => ?_
  unfold ref24_before at hm
  refine sq2 (rg (wl rfl (bxS (cs := (cref24Reach p0)) rfl rfl hS fun w1 b1 im1 hS1 => ?_)))
  refine wl rfl (bxS (cs := (cref24Reach p1)) rfl rfl hS1 fun w2 b2 im2 hS2 => ?_)
  refine pv (r_zb rfl) (nil (t_then ?_))
  refine sq2 (sq2 (rg (pv (r_fa rfl underlying73 rfl sizeOf3 rfl) (pv (r_ld rfl isAgg3 (hS2.cell0 (i := 1) ⟨rfl, rfl⟩ (j := 1) rfl)) (pv (r_fa rfl underlying73 rfl sizeOf3 rfl) (pv (r_ld rfl isAgg3 (hS2.cell0 (i := 0) ⟨rfl, rfl⟩ (j := 1) rfl)) (pv (r_ib rfl rfl rfl) (nil (t_then ?_)))))))))
  refine cnd rfl (fun hb1 => ?_) (fun hb1 => ?_)
  · have hm := ctrue hb1 hm
    refine sq2 (rg (pv (r_fa rfl underlying73 rfl sizeOf3 rfl) (pv (r_ld rfl isAgg3 (hS2.cell0 (i := 1) ⟨rfl, rfl⟩ (j := 1) rfl)) (pv (r_fa rfl underlying73 rfl sizeOf3 rfl) (pv (r_ld rfl isAgg3 (hS2.cell0 (i := 0) ⟨rfl, rfl⟩ (j := 1) rfl)) (pv (r_ib rfl rfl rfl) (pv (r_zb rfl) (nil (t_then ?_)))))))))
    have hm := oI hm; subst hm
    exact rtn (r_then (ret1 rfl rfl ⟨_, rfl, _, (iT im1 im2), ⟨rfl, hS2.sel [2] rfl, trivial⟩⟩))
  have hm := cfalse hb1 hm
  refine skp (t_then ?_)
  refine sq2 (sq2 (rg (pv (r_fa rfl underlying73 rfl sizeOf3 rfl) (pv (r_ld rfl isAgg3 (hS2.cell0 (i := 1) ⟨rfl, rfl⟩ (j := 2) rfl)) (pv (r_fa rfl underlying73 rfl sizeOf3 rfl) (pv (r_ld rfl isAgg3 (hS2.cell0 (i := 0) ⟨rfl, rfl⟩ (j := 2) rfl)) (pv (r_ib rfl rfl rfl) (nil (t_then ?_)))))))))
  refine cnd rfl (fun hb2 => ?_) (fun hb2 => ?_)
  · have hm := ctrue hb2 hm
    refine sq2 (rg (pv (r_fa rfl underlying73 rfl sizeOf3 rfl) (pv (r_ld rfl isAgg3 (hS2.cell0 (i := 1) ⟨rfl, rfl⟩ (j := 2) rfl)) (pv (r_fa rfl underlying73 rfl sizeOf3 rfl) (pv (r_ld rfl isAgg3 (hS2.cell0 (i := 0) ⟨rfl, rfl⟩ (j := 2) rfl)) (pv (r_ib rfl rfl rfl) (pv (r_zb rfl) (nil (t_then ?_)))))))))
    have hm := oI hm; subst hm
    exact rtn (r_then (ret1 rfl rfl ⟨_, rfl, _, (iT im1 im2), ⟨rfl, hS2.sel [2] rfl, trivial⟩⟩))
  have hm := cfalse hb2 hm
  refine skp (t_then ?_)
  refine sq2 (rg (pv (r_fa rfl underlying73 rfl sizeOf3 rfl) (pv (r_ld rfl isAgg3 (hS2.cell0 (i := 1) ⟨rfl, rfl⟩ (j := 0) rfl)) (pv (r_fa rfl underlying73 rfl sizeOf3 rfl) (pv (r_ld rfl isAgg3 (hS2.cell0 (i := 0) ⟨rfl, rfl⟩ (j := 0) rfl)) (pv (r_ib rfl rfl rfl) (pv (r_zb rfl) (nil (t_then ?_)))))))))
  have hm := oI hm; subst hm
  exact rtn (ret1 rfl rfl ⟨_, rfl, _, (iT im1 im2), ⟨rfl, hS2.sel [2] rfl, trivial⟩⟩)
end Go.Proofs.YteoihjfnojgnnaaGreat
