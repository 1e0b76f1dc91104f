/- That Go functions compute their models. Printed by gen2.py. -/
import Derived.Test.YtpdahlpjbckoiaaGreatDoorWa
import Derived.Test.YtpdahlpjbckoiaaGreatDoorH
set_option linter.unusedVariables false
namespace Go.Proofs.YtpdahlpjbckoiaaGreatDoor
open _root_.Go.Proofs.Tryz
set_option maxRecDepth 100000
set_option maxHeartbeats 8000000
attribute [local irreducible] wpList wpQuiet Code.wp
variable {g : World} {T0 : Nat → Prop} {w0 : World} {R : Assn}

theorem law31_PlayTold_sim {p0 : GPlay} {a1 : OA} {c1 : Nat} {p1 : Outcome} {a2 : OA} {c2 : Nat} {r : Bool} (hS : Sep g T0 w0 [R]) (h1 : SlR rGRecord T0 w0 (sv a1 p0.Log c1) p0.Log) (h2 : SlR (rInt .u32) T0 w0 (sv a2 p1.Out c2) p1.Out) (hG1 : Gc T0 w0 1 (Lib.pow10Tab.map fun z => Value.int .u64 z)) (hm : law31_PlayTold p0 p1 = some r) :
    Calls Tryz.prog 3 #[.agg (cGPlay p0 a1 c1).toArray, .agg #[sv a2 p1.Out c2, iv p1.Ins, .int .u32 p1.Exit, iv p1.E]] w0 (RetS T0 w0 fun T w v => v = .bool r ∧ Sep g T w [R] ∧ True) := by
  refine enter (args := [.agg (cGPlay p0 a1 c1).toArray, .agg #[sv a2 p1.Out c2, iv p1.Ins, .int .u32 p1.Exit, iv p1.E]]) Tryz.func3 rfl Tryz.ntmps3 rfl fun J => ?_
  unfold law31_PlayTold at hm
  refine sq2 (rg (wl rfl (bxS (cs := (cGPlay p0 a1 c1)) rfl rfl hS fun w1 b1 im1 hS1 => ?_)))
  refine wl rfl (bxS (cs := [sv a2 p1.Out c2, iv p1.Ins, .int .u32 p1.Exit, iv p1.E]) rfl rfl hS1 fun w2 b2 im2 hS2 => ?_)
  refine pv (r_zb rfl) (nil (t_then ?_))
  refine sq2 (sq2 (rg (pv (r_fa rfl underlying25 rfl sizeOf23 rfl) (pv (r_ld rfl isAgg23 (hS2.cell0 (i := 1) ⟨rfl, rfl⟩ (j := 3) rfl)) (pv (r_ln rfl underlying23) (pv (r_ib rfl rfl rfl) (pv (r_mb rfl) (?_))))))))
  refine fk (d := 21) (c := ((decide (300 < (List.length p0.Log : Int))) || (decide (300 < (List.length p1.Out : Int))))) 5 [(2, pt b1 0), (3, pt b2 0)] (fun hk => ?_) fun J => ?_
  · rcases Bool.eq_false_or_eq_true (decide (300 < (List.length p0.Log : Int))) with hb1 | hb1
    · exact gF4 (d0 := 16) rfl rfl (by rw [hb1]; rfl) (pv (r_pkt rfl hb1 rfl) (wlR (fun J => hk J _ (by rw [hb1]; rfl)) ⟨rfl, rfl, rfl, trivial⟩))
    exact gT (d0 := 16) rfl rfl hb1 (pv (r_fa rfl underlying29 rfl sizeOf26 rfl) (gT (d0 := 16) rfl rfl hb1 (pv (r_ld rfl isAgg26 (hS2.cell0 (i := 0) ⟨rfl, rfl⟩ (j := 0) rfl)) (gT (d0 := 16) rfl rfl hb1 (pv (r_ln rfl underlying26) (gT (d0 := 16) rfl rfl hb1 (pv (r_ib rfl rfl rfl) (pv (r_pkf rfl hb1 rfl) (wlR (fun J => hk J _ (by rw [hb1]; rfl)) ⟨rfl, rfl, rfl, trivial⟩)))))))))
  refine nil (t_then ?_)
  refine cnd rfl (fun hb2 => ?_) (fun hb2 => ?_)
  · have hm := ctrue hb2 hm
    refine sq2 ?_
    obtain ⟨y1, hx1, hm⟩ := bindS hm
    refine rg (wl rfl (calS cf4 rfl (law31_awake_sim  (hS2.bun [2] [] rfl) (hG1.mono ch) hx1) rfl fun v1 T1 w3 im3 rv1 => ?_))
    obtain ⟨rfl, hS3, _⟩ := rv1
    have hS3 := hS3.unb
    refine pv (r_zb rfl) (nil (t_then ?_))
    have hm := oI hm; subst hm
    exact rtn (r_then (ret1 rfl rfl ⟨_, rfl, _, ch, ⟨rfl, hS3.sel [0] rfl, trivial⟩⟩))
  have hm := cfalse hb2 hm
  refine skp (t_then ?_)
  refine sq2 ?_
  obtain ⟨y2, hx2, hm⟩ := bindS hm
  refine rg (pv (r_ldS rfl isAgg25 sizeOf25 rfl (hS2.cells0 (i := 1) ⟨rfl, rfl⟩ (o := 0) rfl) (cs := (cGPlay p0 a1 c1))) (wl rfl (calS cf5 rfl (play_Told_sim (p0 := p0) (hS2.bun [0, 1, 2] [] rfl) (h1.mono ch) hx2) rfl fun v2 T2 w4 im4 rv2 => ?_)))
  obtain ⟨a3, c3, rfl, hS4, h3, _⟩ := rv2
  have hS4 := hS4.unb
  refine wl rfl (alS (zs := [.slice none 0 0, iv 0, .int .u32 0, iv 0]) zeroValue29 rfl hS4 fun w5 b3 im5 hS5 => ?_)
  refine wl rfl (st0B (q := 0) hS5 ⟨rfl, rfl⟩ rfl rfl rfl sizeOf29 rfl rfl rfl fun w6 im6 hS6 => ?_)
  refine nil (t_then ?_)
  refine sq2 ?_
  obtain ⟨y3, hx3, hm⟩ := bindS hm
  refine rg (pv (r_fa rfl underlying25 rfl sizeOf23 rfl) (pv (r_ld rfl isAgg23 (hS6.cell0 (i := 2) ⟨rfl, rfl⟩ (j := 3) rfl)) (wl rfl (calS cf6 rfl (law04_Ref_sim (p0 := p0.Log) (hS6.bun [0, 1, 2, 3] [] rfl) (h1.mono ch) hx3) rfl fun v3 T3 w7 im7 rv3 => ?_))))
  obtain ⟨a4, n1, c4, rfl, hS7, _⟩ := rv3
  have hS7 := hS7.unb
  refine pv (r_zs rfl) (nil (t_then ?_))
  refine sq2 (rg (pv (r_ms rfl) (?_)))
  obtain ⟨T4, im8, hS8, h4⟩ := hS7.seal 4 ⟨rfl, rfl⟩
  have hsh := h4.len
  subst hsh
  obtain ⟨y4, hx4, hm⟩ := bindS hm
  refine wl rfl (calS cf7 rfl (ref04_First_sim (p0 := y3) (hS8.bun [0, 1, 2, 3] [] rfl) h4 hx4) rfl fun v4 T5 w8 im9 rv4 => ?_)
  obtain ⟨a5, n2, c5, rfl, hS9, _⟩ := rv4
  have hS9 := hS9.unb
  refine pv (r_zs rfl) (nil (t_then ?_))
  refine sq2 (rg (pv (r_zi rfl) (nil (t_then ?_))))
  obtain ⟨kk1, hkk1, hm⟩ := jn_open hm
  refine cut (fun a w9 => ∃ (J : JV) (T6 : TP) (x1 : Int), a = env (nf 175) J [(2, pt b1 0), (3, pt b2 0), (5, pt b3 0), (6, sv a4 y3 c4), (7, .slice a5 n2 c5), (8, iv x1)] ∧ Im T5 w8 T6 w9 ∧ Sep g T6 w9 [boxA b3 [sv a3 y2.Out c3, iv y2.Ins, .int .u32 y2.Exit, iv y2.E], boxA b2 [sv a2 p1.Out c2, iv p1.Ins, .int .u32 p1.Exit, iv p1.E], boxA b1 (cGPlay p0 a1 c1), R, ownA rGRecord 37 (.slice a5 n2 c5) y4] ∧ kk1 x1 = some r) ?_ ?_
  · refine sq2 (rg (pv (r_fa rfl underlying25 rfl sizeOf3 rfl) (pv (r_ld rfl isAgg3 (hS9.cell0 (i := 2) ⟨rfl, rfl⟩ (j := 0) rfl)) (pv (r_ib rfl rfl rfl) (nil (t_then ?_))))))
    refine cnd rfl (fun hb3 => ?_) (fun hb3 => ?_)
    · have hm := ctrue hb3 hm
      exact rg (pv (r_zi rfl) (nil (t_then ⟨_, _, 16, env_has ⟨rfl, rfl, rfl, rfl, rfl, rfl, trivial⟩, Im.refl, hS9.sel [0, 1, 2, 3, 4] rfl, hm⟩)))
    have hm := cfalse hb3 hm
    exact skp (t_then ⟨_, _, 10, env_has ⟨rfl, rfl, rfl, rfl, rfl, rfl, trivial⟩, Im.refl, hS9.sel [0, 1, 2, 3, 4] rfl, hm⟩)
  rintro _ w9 ⟨J, T6, x1, rfl, im10, hS10, hm⟩
  rw [hkk1] at hm
  obtain ⟨kk2, hkk2, hm⟩ := jn_open hm
  refine cut (fun a w10 => ∃ (J : JV) (T7 : TP) (x2 : Int), a = env (nf 175) J [(2, pt b1 0), (3, pt b2 0), (5, pt b3 0), (6, sv a4 y3 c4), (7, .slice a5 n2 c5), (8, iv x2)] ∧ Im T6 w9 T7 w10 ∧ Sep g T7 w10 [boxA b3 [sv a3 y2.Out c3, iv y2.Ins, .int .u32 y2.Exit, iv y2.E], boxA b2 [sv a2 p1.Out c2, iv p1.Ins, .int .u32 p1.Exit, iv p1.E], boxA b1 (cGPlay p0 a1 c1), R, ownA rGRecord 37 (.slice a5 n2 c5) y4] ∧ kk2 x2 = some r) ?_ ?_
  · refine sq2 (rg (pv (r_fa rfl underlying25 rfl sizeOf3 rfl) (pv (r_ld rfl isAgg3 (hS10.cell0 (i := 2) ⟨rfl, rfl⟩ (j := 0) rfl)) (pv (r_ib rfl rfl rfl) (pv (r_mb rfl) (?_))))))
    refine fk (d := 40) (c := ((p0.State == 1) && (p0.Exit == 256))) 4 [(2, pt b1 0), (3, pt b2 0), (5, pt b3 0), (6, sv a4 y3 c4), (7, .slice a5 n2 c5), (8, iv x1)] (fun hk => ?_) fun J => ?_
    · rcases Bool.eq_false_or_eq_true (p0.State == 1) with hb4 | hb4
      · exact gT (d0 := 36) rfl rfl hb4 (pv (r_fa rfl underlying25 rfl sizeOf22 rfl) (gT (d0 := 36) rfl rfl hb4 (pv (r_ld rfl isAgg22 (hS10.cell0 (i := 2) ⟨rfl, rfl⟩ (j := 1) rfl)) (gT (d0 := 36) rfl rfl hb4 (pv (r_ib rfl rfl rfl) (pv (r_pkt rfl hb4 rfl) (wlR (fun J => hk J _ (by rw [hb4]; rfl)) ⟨rfl, rfl, rfl, rfl, rfl, rfl, rfl, trivial⟩)))))))
      exact gF3 (d0 := 36) rfl rfl (by rw [hb4]; rfl) (pv (r_pkf rfl hb4 rfl) (wlR (fun J => hk J _ (by rw [hb4]; rfl)) ⟨rfl, rfl, rfl, rfl, rfl, rfl, rfl, trivial⟩))
    refine nil (t_then ?_)
    refine cnd rfl (fun hb5 => ?_) (fun hb5 => ?_)
    · have hm := ctrue hb5 hm
      exact rg (pv (r_zi rfl) (nil (t_then ⟨_, _, 8, env_has ⟨rfl, rfl, rfl, rfl, rfl, rfl, trivial⟩, Im.refl, hS10.sel [0, 1, 2, 3, 4] rfl, hm⟩)))
    have hm := cfalse hb5 hm
    exact skp (t_then ⟨_, _, x1, env_has ⟨rfl, rfl, rfl, rfl, rfl, rfl, trivial⟩, Im.refl, hS10.sel [0, 1, 2, 3, 4] rfl, hm⟩)
  rintro _ w10 ⟨J, T7, x2, rfl, im11, hS11, hm⟩
  rw [hkk2] at hm
  obtain ⟨kk3, hkk3, hm⟩ := jn_open hm
  refine cut (fun a w11 => ∃ (J : JV) (T8 : TP) (x3 : Int), a = env (nf 175) J [(2, pt b1 0), (3, pt b2 0), (5, pt b3 0), (6, sv a4 y3 c4), (7, .slice a5 n2 c5), (8, iv x3)] ∧ Im T7 w10 T8 w11 ∧ Sep g T8 w11 [boxA b3 [sv a3 y2.Out c3, iv y2.Ins, .int .u32 y2.Exit, iv y2.E], boxA b2 [sv a2 p1.Out c2, iv p1.Ins, .int .u32 p1.Exit, iv p1.E], boxA b1 (cGPlay p0 a1 c1), R, ownA rGRecord 37 (.slice a5 n2 c5) y4] ∧ kk3 x3 = some r) ?_ ?_
  · refine sq2 (rg (pv (r_fa rfl underlying25 rfl sizeOf3 rfl) (pv (r_ld rfl isAgg3 (hS11.cell0 (i := 2) ⟨rfl, rfl⟩ (j := 0) rfl)) (pv (r_ib rfl rfl rfl) (pv (r_mb rfl) (?_))))))
    refine fk (d := 48) (c := ((p0.State == 1) && (decide (p0.Exit < 256)))) 4 [(2, pt b1 0), (3, pt b2 0), (5, pt b3 0), (6, sv a4 y3 c4), (7, .slice a5 n2 c5), (8, iv x2)] (fun hk => ?_) fun J => ?_
    · rcases Bool.eq_false_or_eq_true (p0.State == 1) with hb6 | hb6
      · exact gT (d0 := 44) rfl rfl hb6 (pv (r_fa rfl underlying25 rfl sizeOf22 rfl) (gT (d0 := 44) rfl rfl hb6 (pv (r_ld rfl isAgg22 (hS11.cell0 (i := 2) ⟨rfl, rfl⟩ (j := 1) rfl)) (gT (d0 := 44) rfl rfl hb6 (pv (r_ib rfl rfl rfl) (pv (r_pkt rfl hb6 rfl) (wlR (fun J => hk J _ (by rw [hb6]; rfl)) ⟨rfl, rfl, rfl, rfl, rfl, rfl, rfl, trivial⟩)))))))
      exact gF3 (d0 := 44) rfl rfl (by rw [hb6]; rfl) (pv (r_pkf rfl hb6 rfl) (wlR (fun J => hk J _ (by rw [hb6]; rfl)) ⟨rfl, rfl, rfl, rfl, rfl, rfl, rfl, trivial⟩))
    refine nil (t_then ?_)
    refine cnd rfl (fun hb7 => ?_) (fun hb7 => ?_)
    · have hm := ctrue hb7 hm
      exact rg (pv (r_zi rfl) (nil (t_then ⟨_, _, 0, env_has ⟨rfl, rfl, rfl, rfl, rfl, rfl, trivial⟩, Im.refl, hS11.sel [0, 1, 2, 3, 4] rfl, hm⟩)))
    have hm := cfalse hb7 hm
    exact skp (t_then ⟨_, _, x2, env_has ⟨rfl, rfl, rfl, rfl, rfl, rfl, trivial⟩, Im.refl, hS11.sel [0, 1, 2, 3, 4] rfl, hm⟩)
  rintro _ w11 ⟨J, T8, x3, rfl, im12, hS12, hm⟩
  rw [hkk3] at hm
  obtain ⟨kk4, hkk4, hm⟩ := jn_open hm
  refine cut (fun a w12 => ∃ (J : JV) (T9 : TP) (x4 : Int), a = env (nf 175) J [(2, pt b1 0), (3, pt b2 0), (5, pt b3 0), (7, .slice a5 n2 c5), (8, iv x4)] ∧ Im T8 w11 T9 w12 ∧ Sep g T9 w12 [boxA b3 [sv a3 y2.Out c3, iv y2.Ins, .int .u32 y2.Exit, iv y2.E], boxA b2 [sv a2 p1.Out c2, iv p1.Ins, .int .u32 p1.Exit, iv p1.E], boxA b1 (cGPlay p0 a1 c1), R, ownA rGRecord 37 (.slice a5 n2 c5) y4] ∧ kk4 x4 = some r) ?_ ?_
  · refine sq2 ?_
    obtain ⟨y5, hx5, hm⟩ := bindS hm
    refine rg (pv (r_ms rfl) (wl rfl (calS cf8 rfl (ref04_Orderly_sim (p0 := y3) (hS12.bun [0, 1, 2, 3, 4] [] rfl) (h4.mono ch) hx5) rfl fun v5 T10 w13 im14 rv5 => ?_)))
    obtain ⟨rfl, hS13, _⟩ := rv5
    have hS13 := hS13.unb
    refine pv (r_nt rfl) (nil (t_then ?_))
    refine cnd rfl (fun hb8 => ?_) (fun hb8 => ?_)
    · have hm := ctrue hb8 hm
      exact rg (pv (r_zi rfl) (nil (t_then ⟨_, _, 10, env_has ⟨rfl, rfl, rfl, rfl, rfl, trivial⟩, im14, hS13.sel [0, 1, 2, 3, 4] rfl, hm⟩)))
    have hm := cfalse hb8 hm
    exact skp (t_then ⟨_, _, x3, env_has ⟨rfl, rfl, rfl, rfl, rfl, trivial⟩, im14, hS13.sel [0, 1, 2, 3, 4] rfl, hm⟩)
  rintro _ w12 ⟨J, T9, x4, rfl, im13, hS14, hm⟩
  rw [hkk4] at hm
  refine sq2 (sq2 (rg (pv (r_fa rfl underlying29 rfl sizeOf27 rfl) (pv (r_ld rfl isAgg27 (hS14.cell0 (i := 0) ⟨rfl, rfl⟩ (j := 3) rfl)) (pv (r_mi rfl) (pv (r_ib rfl rfl rfl) (pv (r_mb rfl) (?_))))))))
  refine fk (d := 63) (c := ((y2.E != x4) || ((List.length y2.Out : Int) != (List.length y4 : Int)))) 7 [(2, pt b1 0), (3, pt b2 0), (5, pt b3 0), (7, .slice a5 n2 c5), (8, iv x4)] (fun hk => ?_) fun J => ?_
  · rcases Bool.eq_false_or_eq_true (y2.E != x4) with hb9 | hb9
    · exact gF6 (d0 := 56) rfl rfl (by rw [hb9]; rfl) (pv (r_pkt rfl hb9 rfl) (wlR (fun J => hk J _ (by rw [hb9]; rfl)) ⟨rfl, rfl, rfl, rfl, rfl, rfl, trivial⟩))
    exact gT (d0 := 56) rfl rfl hb9 (pv (r_fa rfl underlying29 rfl sizeOf26 rfl) (gT (d0 := 56) rfl rfl hb9 (pv (r_ld rfl isAgg26 (hS14.cell0 (i := 0) ⟨rfl, rfl⟩ (j := 0) rfl)) (gT (d0 := 56) rfl rfl hb9 (pv (r_ln rfl underlying26) (gT (d0 := 56) rfl rfl hb9 (pv (r_ms rfl) (gT (d0 := 56) rfl rfl hb9 (pv (r_lnV rfl (hS14.own (i := 4) ⟨rfl, rfl⟩).v underlying32) (gT (d0 := 56) rfl rfl hb9 (pv (r_ib rfl rfl rfl) (pv (r_pkf rfl hb9 rfl) (wlR (fun J => hk J _ (by rw [hb9]; rfl)) ⟨rfl, rfl, rfl, rfl, rfl, rfl, trivial⟩)))))))))))))
  refine pv (r_mb rfl) (?_)
  refine fk (d := 68) (c := (((y2.E != x4) || ((List.length y2.Out : Int) != (List.length y4 : Int))) || (y2.Ins != 0))) 4 [(2, pt b1 0), (3, pt b2 0), (5, pt b3 0), (7, .slice a5 n2 c5), (8, iv x4)] (fun hk => ?_) fun J => ?_
  · rcases Bool.eq_false_or_eq_true ((y2.E != x4) || ((List.length y2.Out : Int) != (List.length y4 : Int))) with hb10 | hb10
    · exact gF3 (d0 := 64) rfl rfl (by rw [hb10]; rfl) (pv (r_pkt rfl hb10 rfl) (wlR (fun J => hk J _ (by rw [hb10]; rfl)) ⟨rfl, rfl, rfl, rfl, rfl, rfl, trivial⟩))
    exact gT (d0 := 64) rfl rfl hb10 (pv (r_fa rfl underlying29 rfl sizeOf3 rfl) (gT (d0 := 64) rfl rfl hb10 (pv (r_ld rfl isAgg3 (hS14.cell0 (i := 0) ⟨rfl, rfl⟩ (j := 1) rfl)) (gT (d0 := 64) rfl rfl hb10 (pv (r_ib rfl rfl rfl) (pv (r_pkf rfl hb10 rfl) (wlR (fun J => hk J _ (by rw [hb10]; rfl)) ⟨rfl, rfl, rfl, rfl, rfl, rfl, trivial⟩)))))))
  refine pv (r_mb rfl) (?_)
  refine fk (d := 80) (c := ((((y2.E != x4) || ((List.length y2.Out : Int) != (List.length y4 : Int))) || (y2.Ins != 0)) || ((y2.E == 0) && (y2.Exit != p0.Exit)))) 11 [(2, pt b1 0), (3, pt b2 0), (5, pt b3 0), (7, .slice a5 n2 c5), (8, iv x4)] (fun hk => ?_) fun J => ?_
  · rcases Bool.eq_false_or_eq_true (((y2.E != x4) || ((List.length y2.Out : Int) != (List.length y4 : Int))) || (y2.Ins != 0)) with hb11 | hb11
    · exact gF4 (d0 := 69) rfl rfl (by rw [hb11]; rfl) (gU (d0 := 73) rfl rfl (gU (d0 := 73) rfl rfl (gU (d0 := 73) rfl rfl (gU (d0 := 73) rfl rfl (gU (d0 := 73) rfl rfl (gF (d0 := 69) rfl rfl (by rw [hb11]; rfl) (pv (r_pkt rfl hb11 rfl) (wlR (fun J => hk J _ (by rw [hb11]; rfl)) ⟨rfl, rfl, rfl, rfl, rfl, rfl, trivial⟩))))))))
    refine gT (d0 := 69) rfl rfl hb11 (pv (r_fa rfl underlying29 rfl sizeOf27 rfl) (gT (d0 := 69) rfl rfl hb11 (pv (r_ld rfl isAgg27 (hS14.cell0 (i := 0) ⟨rfl, rfl⟩ (j := 3) rfl)) (gT (d0 := 69) rfl rfl hb11 (pv (r_ib rfl rfl rfl) (gT (d0 := 69) rfl rfl hb11 (pv (r_mb rfl) (?_))))))))
    refine fk (d := 79) (c := ((y2.E == 0) && (y2.Exit != p0.Exit))) 6 [(2, pt b1 0), (3, pt b2 0), (5, pt b3 0), (7, .slice a5 n2 c5), (8, iv x4), (69, .bool (((y2.E != x4) || ((List.length y2.Out : Int) != (List.length y4 : Int))) || (y2.Ins != 0)))] (fun hk => ?_) fun J => ?_
    · rcases Bool.eq_false_or_eq_true (y2.E == 0) with hb12 | hb12
      · exact gT (d0 := 73) rfl rfl hb12 (pv (r_fa rfl underlying29 rfl sizeOf22 rfl) (gT (d0 := 73) rfl rfl hb12 (pv (r_ld rfl isAgg22 (hS14.cell0 (i := 0) ⟨rfl, rfl⟩ (j := 2) rfl)) (gT (d0 := 73) rfl rfl hb12 (pv (r_fa rfl underlying25 rfl sizeOf22 rfl) (gT (d0 := 73) rfl rfl hb12 (pv (r_ld rfl isAgg22 (hS14.cell0 (i := 2) ⟨rfl, rfl⟩ (j := 1) rfl)) (gT (d0 := 73) rfl rfl hb12 (pv (r_ib rfl rfl rfl) (gT (d0 := 69) rfl rfl hb11 (pv (r_pkt rfl hb12 rfl) (wlR (fun J => hk J _ (by rw [hb12]; rfl)) ⟨rfl, rfl, rfl, rfl, rfl, rfl, rfl, trivial⟩))))))))))))
      exact gF5 (d0 := 73) rfl rfl (by rw [hb12]; rfl) (gT (d0 := 69) rfl rfl hb11 (pv (r_pkf rfl hb12 rfl) (wlR (fun J => hk J _ (by rw [hb12]; rfl)) ⟨rfl, rfl, rfl, rfl, rfl, rfl, rfl, trivial⟩)))
    exact pv (r_pkf rfl hb11 rfl) (wlR (fun J => hk J _ (by rw [hb11]; rfl)) ⟨rfl, rfl, rfl, rfl, rfl, rfl, trivial⟩)
  refine pv (r_mb rfl) (?_)
  refine fk (d := 90) (c := (((((y2.E != x4) || ((List.length y2.Out : Int) != (List.length y4 : Int))) || (y2.Ins != 0)) || ((y2.E == 0) && (y2.Exit != p0.Exit))) || ((y2.E != 0) && (y2.Exit != 0)))) 9 [(2, pt b1 0), (3, pt b2 0), (5, pt b3 0), (7, .slice a5 n2 c5), (8, iv x4)] (fun hk => ?_) fun J => ?_
  · rcases Bool.eq_false_or_eq_true ((((y2.E != x4) || ((List.length y2.Out : Int) != (List.length y4 : Int))) || (y2.Ins != 0)) || ((y2.E == 0) && (y2.Exit != p0.Exit))) with hb13 | hb13
    · exact gF4 (d0 := 81) rfl rfl (by rw [hb13]; rfl) (gU (d0 := 85) rfl rfl (gU (d0 := 85) rfl rfl (gU (d0 := 85) rfl rfl (gF (d0 := 81) rfl rfl (by rw [hb13]; rfl) (pv (r_pkt rfl hb13 rfl) (wlR (fun J => hk J _ (by rw [hb13]; rfl)) ⟨rfl, rfl, rfl, rfl, rfl, rfl, trivial⟩))))))
    refine gT (d0 := 81) rfl rfl hb13 (pv (r_fa rfl underlying29 rfl sizeOf27 rfl) (gT (d0 := 81) rfl rfl hb13 (pv (r_ld rfl isAgg27 (hS14.cell0 (i := 0) ⟨rfl, rfl⟩ (j := 3) rfl)) (gT (d0 := 81) rfl rfl hb13 (pv (r_ib rfl rfl rfl) (gT (d0 := 81) rfl rfl hb13 (pv (r_mb rfl) (?_))))))))
    refine fk (d := 89) (c := ((y2.E != 0) && (y2.Exit != 0))) 4 [(2, pt b1 0), (3, pt b2 0), (5, pt b3 0), (7, .slice a5 n2 c5), (8, iv x4), (81, .bool ((((y2.E != x4) || ((List.length y2.Out : Int) != (List.length y4 : Int))) || (y2.Ins != 0)) || ((y2.E == 0) && (y2.Exit != p0.Exit))))] (fun hk => ?_) fun J => ?_
    · rcases Bool.eq_false_or_eq_true (y2.E != 0) with hb14 | hb14
      · exact gT (d0 := 85) rfl rfl hb14 (pv (r_fa rfl underlying29 rfl sizeOf22 rfl) (gT (d0 := 85) rfl rfl hb14 (pv (r_ld rfl isAgg22 (hS14.cell0 (i := 0) ⟨rfl, rfl⟩ (j := 2) rfl)) (gT (d0 := 85) rfl rfl hb14 (pv (r_ib rfl rfl rfl) (gT (d0 := 81) rfl rfl hb13 (pv (r_pkt rfl hb14 rfl) (wlR (fun J => hk J _ (by rw [hb14]; rfl)) ⟨rfl, rfl, rfl, rfl, rfl, rfl, rfl, trivial⟩))))))))
      exact gF3 (d0 := 85) rfl rfl (by rw [hb14]; rfl) (gT (d0 := 81) rfl rfl hb13 (pv (r_pkf rfl hb14 rfl) (wlR (fun J => hk J _ (by rw [hb14]; rfl)) ⟨rfl, rfl, rfl, rfl, rfl, rfl, rfl, trivial⟩)))
    exact pv (r_pkf rfl hb13 rfl) (wlR (fun J => hk J _ (by rw [hb13]; rfl)) ⟨rfl, rfl, rfl, rfl, rfl, rfl, trivial⟩)
  refine nil (t_then ?_)
  refine cnd rfl (fun hb15 => ?_) (fun hb15 => ?_)
  · have hm := ctrue hb15 hm
    refine sq2 (rg (pv (r_zb rfl) (nil (t_then ?_))))
    have hm := oI hm; subst hm
    exact rtn (r_then (ret1 rfl rfl ⟨_, rfl, _, ch, ⟨rfl, hS14.sel [3] rfl, trivial⟩⟩))
  have hm := cfalse hb15 hm
  refine skp (t_then ?_)
  refine sq2 (sq2 (rg (pv (r_zi rfl) (nil (t_then ?_)))))
  obtain ⟨o1, ho1, hq1⟩ := bindS hm
  obtain ⟨bd1, hbd1, ho1⟩ := loop_open ho1
  refine blk (wp_loop_ghost (fun m a w14 => ∃ (J : JV) (T11 : TP) (x5 : Int), a = env (nf 175) J [(2, pt b1 0), (3, pt b2 0), (5, pt b3 0), (7, .slice a5 n2 c5), (8, iv x4), (9, iv x5)] ∧ Im T9 w12 T11 w14 ∧ Sep g T11 w14 [boxA b3 [sv a3 y2.Out c3, iv y2.Ins, .int .u32 y2.Exit, iv y2.E], boxA b2 [sv a2 p1.Out c2, iv p1.Ins, .int .u32 p1.Exit, iv p1.E], boxA b1 (cGPlay p0 a1 c1), R, ownA rGRecord 37 (.slice a5 n2 c5) y4] ∧ loopM bd1 m x5 = some o1) NN ⟨_, _, 0, env_has ⟨rfl, rfl, rfl, rfl, rfl, rfl, trivial⟩, Im.refl, hS14.sel [0, 1, 2, 3, 4] rfl, ho1⟩ ?_)
  rintro m _ w14 ⟨J, T11, x5, rfl, im15, hS15, ho1⟩
  obtain ⟨m1, z1, rfl, hm, hn1⟩ := loop_round ho1
  rw [hbd1] at hm
  refine sq2 (sq2 (rg (pv (r_mi rfl) (pv (r_ms rfl) (pv (r_lnV rfl (hS15.own (i := 4) ⟨rfl, rfl⟩).v underlying32) (pv (r_ib rfl rfl rfl) (nil (t_then ?_))))))))
  refine cnd rfl (fun hb16 => ?_) (fun hb16 => ?_)
  · have hm := ctrue hb16 hm
    refine skp (t_then ?_)
    refine sq2 (blk (sq2 ?_))
    obtain ⟨u1, hx6, hm⟩ := bindS hm
    obtain ⟨b4, of1, cs1, k1, cp1, hv1, hp1, hl1, he1, hr1, hc1, hT1⟩ := (h3.mono (iT im5 (iT im6 (iT im7 (iT im8 (iT im9 (iT im10 (iT im11 (iT im12 (iT im13 im15)))))))))).ixT hx6 rfl
    cases hr1
    obtain ⟨u2, hx7, hm⟩ := bindS hm
    obtain ⟨b5, of2, cs2, k2, cp2, hv2, hp2, hl2, he2, hr2, hc2⟩ := (hS15.own (i := 4) ⟨rfl, rfl⟩).v.ixq hx7 rfl
    cases rGRecord_open hr2
    refine rq mix (by kernel_rfl) hS15.lt (qv (fun _ hq => r_fa rfl underlying29 rfl sizeOf26 rfl) (qv (fun _ hq => r_ld rfl isAgg26 (hq.cell (hS15.cell0 (i := 0) ⟨rfl, rfl⟩ (j := 0) rfl))) (qv (fun _ hq => r_mi rfl) (qv (fun _ hq => r_ixe hv1 rfl underlying26 sizeOf22 hp1 hl1 he1) (qv (fun _ hq => r_ld rfl isAgg22 (hq.cell (hc1.get (j := 0) rfl))) (qv (fun _ hq => r_ms rfl) (qv (fun _ hq => r_mi rfl) (qv (fun _ hq => r_ixe hv2 rfl underlying32 sizeOf37 hp2 hl2 he2) (qv (fun _ hq => r_fa rfl underlying37 rfl sizeOf22 rfl) (qv (fun _ hq => r_ld rfl isAgg22 (hq.cell (hc2.get (j := 1) rfl))) (qv (fun _ hq => r_ib rfl rfl rfl) (qn fun w15 T12 i1 => ?_))))))))))))
    have im16 := i1.imm
    have hS16 := hS15.keep i1 (fun _ h => h)
    refine t_then ?_
    refine cnd rfl (fun hb17 => ?_) (fun hb17 => ?_)
    · have hm := ctrue hb17 hm
      refine sq2 (rg (pv (r_zb rfl) (nil (t_then ?_))))
      have hm := oI hm; subst hm
      have hn1 : _ = Lp.ret _ := hn1
      subst hn1
      have hm := thn_ret hq1
      have hm := oI hm; subst hm
      exact rtn (r_blk (r_then (r_then (r_blk (r_then (ret1 rfl rfl ⟨_, rfl, _, ch, ⟨rfl, hS16.sel [3] rfl, trivial⟩⟩))))))
    have hm := cfalse hb17 hm
    refine skp (t_blk (t_then ?_))
    have hm := oI hm; subst hm
    exact rg (pv (r_mi rfl) (pv (r_ib rfl rfl rfl) (pv (r_zi rfl) (nil (t_then ⟨m1, Nat.lt_succ_self _, _, _, (IntKind.wrap .i64 (x5 + 1)), env_has ⟨rfl, rfl, rfl, rfl, rfl, rfl, trivial⟩, ch, hS16.sel [0, 1, 2, 3, 4] rfl, hn1⟩)))))
  have hm := cfalse hb16 hm
  have hm := oI hm; subst hm
  have hn1 : _ = Lp.brk _ := hn1
  subst hn1
  have hm := thn_brk hq1
  refine xt (x_then (x_then (x_eq (t_then ?_))))
  obtain ⟨kk5, hkk5, hm⟩ := jn_open hm
  refine cut (fun a w16 => ∃ (J : JV) (T13 : TP) (x6 : Bool), a = env (nf 175) J [(2, pt b1 0), (3, pt b2 0), (5, pt b3 0), (8, iv x4), (10, .bool x6)] ∧ Im T11 w14 T13 w16 ∧ Sep g T13 w16 [boxA b3 [sv a3 y2.Out c3, iv y2.Ins, .int .u32 y2.Exit, iv y2.E], boxA b2 [sv a2 p1.Out c2, iv p1.Ins, .int .u32 p1.Exit, iv p1.E], boxA b1 (cGPlay p0 a1 c1), R] ∧ kk5 x6 = some r) ?_ ?_
  · refine rg (pv (r_mi rfl) (pv (r_ib rfl rfl rfl) (pv (r_mb rfl) (?_))))
    refine fk (d := 113) (c := ((x4 == 8) || (x4 == 16))) 3 [(2, pt b1 0), (3, pt b2 0), (5, pt b3 0), (8, iv x4)] (fun hk => ?_) fun J => ?_
    · rcases Bool.eq_false_or_eq_true (x4 == 8) with hb18 | hb18
      · exact gF2 (d0 := 110) rfl rfl (by rw [hb18]; rfl) (pv (r_pkt rfl hb18 rfl) (wlR (fun J => hk J _ (by rw [hb18]; rfl)) ⟨rfl, rfl, rfl, rfl, rfl, trivial⟩))
      exact gT (d0 := 110) rfl rfl hb18 (pv (r_mi rfl) (gT (d0 := 110) rfl rfl hb18 (pv (r_ib rfl rfl rfl) (pv (r_pkf rfl hb18 rfl) (wlR (fun J => hk J _ (by rw [hb18]; rfl)) ⟨rfl, rfl, rfl, rfl, rfl, trivial⟩)))))
    exact pv (r_zb rfl) (nil (t_then ⟨_, _, ((x4 == 8) || (x4 == 16)), env_has ⟨rfl, rfl, rfl, rfl, rfl, trivial⟩, Im.refl, hS15.sel [0, 1, 2, 3] rfl, hm⟩))
  rintro _ w16 ⟨J, T13, x6, rfl, im17, hS17, hm⟩
  rw [hkk5] at hm
  refine sq2 (rg (pv (r_zb rfl) (nil (t_then ?_))))
  obtain ⟨kk6, hkk6, hm⟩ := jn_open hm
  refine cut (fun a w17 => ∃ (J : JV) (T14 : TP) (x7 : Bool), a = env (nf 175) J [(2, pt b1 0), (3, pt b2 0), (5, pt b3 0), (8, iv x4), (10, .bool x6), (11, .bool x7)] ∧ Im T13 w16 T14 w17 ∧ Sep g T14 w17 [boxA b3 [sv a3 y2.Out c3, iv y2.Ins, .int .u32 y2.Exit, iv y2.E], boxA b2 [sv a2 p1.Out c2, iv p1.Ins, .int .u32 p1.Exit, iv p1.E], boxA b1 (cGPlay p0 a1 c1), R] ∧ kk6 x7 = some r) ?_ ?_
  · refine sq2 (rg (pv (r_fa rfl underlying29 rfl sizeOf27 rfl) (pv (r_ld rfl isAgg27 (hS17.cell0 (i := 1) ⟨rfl, rfl⟩ (j := 3) rfl)) (pv (r_ib rfl rfl rfl) (nil (t_then ?_))))))
    refine cnd rfl (fun hb19 => ?_) (fun hb19 => ?_)
    · have hm := ctrue hb19 hm
      obtain ⟨y6, hx8, hm⟩ := bindS hm
      refine rg (pv (r_fa rfl underlying29 rfl sizeOf26 rfl) (pv (r_ld rfl isAgg26 (hS17.cell0 (i := 0) ⟨rfl, rfl⟩ (j := 0) rfl)) (pv (r_fa rfl underlying29 rfl sizeOf26 rfl) (pv (r_ld rfl isAgg26 (hS17.cell0 (i := 1) ⟨rfl, rfl⟩ (j := 0) rfl)) (wl rfl (calS cf9 rfl (law31_begins_sim (p0 := y2.Out) (p1 := p1.Out) (hS17.bun [0, 1, 2, 3] [] rfl) (h3.mono ch) (h2.mono ch) hx8) rfl fun v6 T15 w18 im19 rv6 => ?_))))))
      obtain ⟨rfl, hS18, _⟩ := rv6
      have hS18 := hS18.unb
      refine pv (r_mb rfl) (?_)
      refine fk (d := 144) (c := (y6 && (x6 || (((x4 == 0) && ((List.length y2.Out : Int) == (List.length p1.Out : Int))) && (y2.Exit == p1.Exit))))) 22 [(2, pt b1 0), (3, pt b2 0), (5, pt b3 0), (8, iv x4), (10, .bool x6)] (fun hk => ?_) fun J => ?_
      · rcases Bool.eq_false_or_eq_true y6 with hb20 | hb20
        · refine gT (d0 := 122) rfl rfl hb20 (pv (r_mb rfl) (gT (d0 := 122) rfl rfl hb20 (pv (r_mb rfl) (?_))))
          refine fk (d := 143) (c := (x6 || (((x4 == 0) && ((List.length y2.Out : Int) == (List.length p1.Out : Int))) && (y2.Exit == p1.Exit)))) 19 [(2, pt b1 0), (3, pt b2 0), (5, pt b3 0), (8, iv x4), (10, .bool x6), (122, .bool y6)] (fun hk => ?_) fun J => ?_
          · rcases Bool.eq_false_or_eq_true x6 with hb21 | hb21
            · exact gF3 (d0 := 124) rfl rfl (by rw [hb21]; rfl) (gU (d0 := 127) rfl rfl (gU (d0 := 127) rfl rfl (gU (d0 := 127) rfl rfl (gU (d0 := 127) rfl rfl (gU (d0 := 127) rfl rfl (gU (d0 := 127) rfl rfl (gU (d0 := 127) rfl rfl (gF2 (d0 := 124) rfl rfl (by rw [hb21]; rfl) (gU (d0 := 136) rfl rfl (gU (d0 := 136) rfl rfl (gU (d0 := 136) rfl rfl (gU (d0 := 136) rfl rfl (gU (d0 := 136) rfl rfl (gF (d0 := 124) rfl rfl (by rw [hb21]; rfl) (gT (d0 := 122) rfl rfl hb20 (pv (r_pkt rfl hb21 rfl) (wlR (fun J => hk J _ (by rw [hb21]; rfl)) ⟨rfl, rfl, rfl, rfl, rfl, rfl, rfl, trivial⟩)))))))))))))))))
            refine gT (d0 := 124) rfl rfl hb21 (pv (r_mi rfl) (gT (d0 := 124) rfl rfl hb21 (pv (r_ib rfl rfl rfl) (gT (d0 := 124) rfl rfl hb21 (pv (r_mb rfl) (?_))))))
            refine fk (d := 135) (c := ((x4 == 0) && ((List.length y2.Out : Int) == (List.length p1.Out : Int)))) 8 [(2, pt b1 0), (3, pt b2 0), (5, pt b3 0), (8, iv x4), (10, .bool x6), (122, .bool y6), (124, .bool x6)] (fun hk => ?_) fun J => ?_
            · rcases Bool.eq_false_or_eq_true (x4 == 0) with hb22 | hb22
              · exact gT (d0 := 127) rfl rfl hb22 (pv (r_fa rfl underlying29 rfl sizeOf26 rfl) (gT (d0 := 127) rfl rfl hb22 (pv (r_ld rfl isAgg26 (hS18.cell0 (i := 0) ⟨rfl, rfl⟩ (j := 0) rfl)) (gT (d0 := 127) rfl rfl hb22 (pv (r_ln rfl underlying26) (gT (d0 := 127) rfl rfl hb22 (pv (r_fa rfl underlying29 rfl sizeOf26 rfl) (gT (d0 := 127) rfl rfl hb22 (pv (r_ld rfl isAgg26 (hS18.cell0 (i := 1) ⟨rfl, rfl⟩ (j := 0) rfl)) (gT (d0 := 127) rfl rfl hb22 (pv (r_ln rfl underlying26) (gT (d0 := 127) rfl rfl hb22 (pv (r_ib rfl rfl rfl) (gT (d0 := 124) rfl rfl hb21 (pv (r_pkt rfl hb22 rfl) (wlR (fun J => hk J _ (by rw [hb22]; rfl)) ⟨rfl, rfl, rfl, rfl, rfl, rfl, rfl, rfl, trivial⟩))))))))))))))))
              exact gF7 (d0 := 127) rfl rfl (by rw [hb22]; rfl) (gT (d0 := 124) rfl rfl hb21 (pv (r_pkf rfl hb22 rfl) (wlR (fun J => hk J _ (by rw [hb22]; rfl)) ⟨rfl, rfl, rfl, rfl, rfl, rfl, rfl, rfl, trivial⟩)))
            refine gT (d0 := 124) rfl rfl hb21 (pv (r_mb rfl) (?_))
            refine fk (d := 142) (c := (((x4 == 0) && ((List.length y2.Out : Int) == (List.length p1.Out : Int))) && (y2.Exit == p1.Exit))) 6 [(2, pt b1 0), (3, pt b2 0), (5, pt b3 0), (8, iv x4), (10, .bool x6), (122, .bool y6), (124, .bool x6)] (fun hk => ?_) fun J => ?_
            · rcases Bool.eq_false_or_eq_true ((x4 == 0) && ((List.length y2.Out : Int) == (List.length p1.Out : Int))) with hb23 | hb23
              · exact gT (d0 := 136) rfl rfl hb23 (pv (r_fa rfl underlying29 rfl sizeOf22 rfl) (gT (d0 := 136) rfl rfl hb23 (pv (r_ld rfl isAgg22 (hS18.cell0 (i := 0) ⟨rfl, rfl⟩ (j := 2) rfl)) (gT (d0 := 136) rfl rfl hb23 (pv (r_fa rfl underlying29 rfl sizeOf22 rfl) (gT (d0 := 136) rfl rfl hb23 (pv (r_ld rfl isAgg22 (hS18.cell0 (i := 1) ⟨rfl, rfl⟩ (j := 2) rfl)) (gT (d0 := 136) rfl rfl hb23 (pv (r_ib rfl rfl rfl) (gT (d0 := 124) rfl rfl hb21 (pv (r_pkt rfl hb23 rfl) (wlR (fun J => hk J _ (by rw [hb23]; rfl)) ⟨rfl, rfl, rfl, rfl, rfl, rfl, rfl, rfl, trivial⟩))))))))))))
              exact gF5 (d0 := 136) rfl rfl (by rw [hb23]; rfl) (gT (d0 := 124) rfl rfl hb21 (pv (r_pkf rfl hb23 rfl) (wlR (fun J => hk J _ (by rw [hb23]; rfl)) ⟨rfl, rfl, rfl, rfl, rfl, rfl, rfl, rfl, trivial⟩)))
            exact gT (d0 := 122) rfl rfl hb20 (pv (r_pkf rfl hb21 rfl) (wlR (fun J => hk J _ (by rw [hb21]; rfl)) ⟨rfl, rfl, rfl, rfl, rfl, rfl, rfl, trivial⟩))
          exact pv (r_pkt rfl hb20 rfl) (wlR (fun J => hk J _ (by rw [hb20]; rfl)) ⟨rfl, rfl, rfl, rfl, rfl, rfl, trivial⟩)
        exact gF2 (d0 := 122) rfl rfl (by rw [hb20]; rfl) (gU (d0 := 124) rfl rfl (gU (d0 := 124) rfl rfl (gU (d0 := 124) rfl rfl (gU (d0 := 127) rfl rfl (gU (d0 := 127) rfl rfl (gU (d0 := 127) rfl rfl (gU (d0 := 127) rfl rfl (gU (d0 := 127) rfl rfl (gU (d0 := 127) rfl rfl (gU (d0 := 127) rfl rfl (gU (d0 := 124) rfl rfl (gU (d0 := 124) rfl rfl (gU (d0 := 136) rfl rfl (gU (d0 := 136) rfl rfl (gU (d0 := 136) rfl rfl (gU (d0 := 136) rfl rfl (gU (d0 := 136) rfl rfl (gU (d0 := 124) rfl rfl (gF (d0 := 122) rfl rfl (by rw [hb20]; rfl) (pv (r_pkf rfl hb20 rfl) (wlR (fun J => hk J _ (by rw [hb20]; rfl)) ⟨rfl, rfl, rfl, rfl, rfl, rfl, trivial⟩)))))))))))))))))))))
      exact pv (r_zb rfl) (nil (t_then ⟨_, _, (y6 && (x6 || (((x4 == 0) && ((List.length y2.Out : Int) == (List.length p1.Out : Int))) && (y2.Exit == p1.Exit)))), env_has ⟨rfl, rfl, rfl, rfl, rfl, rfl, trivial⟩, im19, hS18.sel [0, 1, 2, 3] rfl, hm⟩))
    have hm := cfalse hb19 hm
    exact skp (t_then ⟨_, _, true, env_has ⟨rfl, rfl, rfl, rfl, rfl, rfl, trivial⟩, Im.refl, hS17.sel [0, 1, 2, 3] rfl, hm⟩)
  rintro _ w17 ⟨J, T14, x7, rfl, im18, hS19, hm⟩
  rw [hkk6] at hm
  obtain ⟨kk7, hkk7, hm⟩ := jn_open hm
  refine cut (fun a w19 => ∃ (J : JV) (T16 : TP) (x8 : Bool), a = env (nf 175) J [(2, pt b1 0), (3, pt b2 0), (11, .bool x8)] ∧ Im T14 w17 T16 w19 ∧ Sep g T16 w19 [boxA b2 [sv a2 p1.Out c2, iv p1.Ins, .int .u32 p1.Exit, iv p1.E], boxA b1 (cGPlay p0 a1 c1), R] ∧ kk7 x8 = some r) ?_ ?_
  · refine sq2 (rg (pv (r_fa rfl underlying29 rfl sizeOf27 rfl) (pv (r_ld rfl isAgg27 (hS19.cell0 (i := 1) ⟨rfl, rfl⟩ (j := 3) rfl)) (pv (r_ib rfl rfl rfl) (nil (t_then ?_))))))
    refine cnd rfl (fun hb24 => ?_) (fun hb24 => ?_)
    · have hm := ctrue hb24 hm
      refine rg (pv (r_mi rfl) (pv (r_ib rfl rfl rfl) (pv (r_mb rfl) (?_))))
      rcases Bool.eq_false_or_eq_true (x4 != 10) with hb25 | hb25
      · have hm := ctrue hb25 hm
        obtain ⟨y7, hx9, hm⟩ := bindS hm
        refine gT (d0 := 150) rfl rfl hb25 (pv (r_fa rfl underlying29 rfl sizeOf26 rfl) (gT (d0 := 150) rfl rfl hb25 (pv (r_ld rfl isAgg26 (hS19.cell0 (i := 1) ⟨rfl, rfl⟩ (j := 0) rfl)) (gT (d0 := 150) rfl rfl hb25 (pv (r_fa rfl underlying29 rfl sizeOf26 rfl) (gT (d0 := 150) rfl rfl hb25 (pv (r_ld rfl isAgg26 (hS19.cell0 (i := 0) ⟨rfl, rfl⟩ (j := 0) rfl)) (gT (d0 := 150) rfl rfl hb25 (wl rfl (calS cf9 rfl (law31_begins_sim (p0 := p1.Out) (p1 := y2.Out) (hS19.bun [0, 1, 2, 3] [] rfl) (h2.mono ch) (h3.mono ch) hx9) rfl fun v7 T17 w20 im21 rv7 => ?_))))))))))
        obtain ⟨rfl, hS20, _⟩ := rv7
        have hS20 := hS20.unb
        refine gT (d0 := 150) rfl rfl hb25 (pv (r_mb rfl) (?_))
        rcases Bool.eq_false_or_eq_true y7 with hb26 | hb26
        · have hm := ctrue hb26 hm
          exact gF2 (d0 := 156) rfl rfl (by rw [hb26]; rfl) (gU (d0 := 158) rfl rfl (gU (d0 := 158) rfl rfl (gU (d0 := 158) rfl rfl (gU (d0 := 158) rfl rfl (gU (d0 := 158) rfl rfl (gF (d0 := 156) rfl rfl (by rw [hb26]; rfl) (gT (d0 := 150) rfl rfl hb25 (pv (r_pkt rfl hb26 rfl) (pv (r_pkt rfl hb25 rfl) (pv (r_zb rfl) (nil (t_then ⟨_, _, true, env_has ⟨rfl, rfl, rfl, trivial⟩, im21, hS20.sel [1, 2, 3] rfl, hm⟩))))))))))))
        have hm := cfalse hb26 hm
        refine gT (d0 := 156) rfl rfl hb26 (pv (r_mb rfl) (gT (d0 := 156) rfl rfl hb26 (pv (r_mb rfl) (?_))))
        rcases Bool.eq_false_or_eq_true x6 with hb27 | hb27
        · have hm := ctrue hb27 hm
          obtain ⟨y8, hx10, hm⟩ := bindS hm
          refine gT (d0 := 158) rfl rfl hb27 (pv (r_fa rfl underlying29 rfl sizeOf26 rfl) (gT (d0 := 158) rfl rfl hb27 (pv (r_ld rfl isAgg26 (hS20.cell0 (i := 0) ⟨rfl, rfl⟩ (j := 0) rfl)) (gT (d0 := 158) rfl rfl hb27 (pv (r_fa rfl underlying29 rfl sizeOf26 rfl) (gT (d0 := 158) rfl rfl hb27 (pv (r_ld rfl isAgg26 (hS20.cell0 (i := 1) ⟨rfl, rfl⟩ (j := 0) rfl)) (gT (d0 := 158) rfl rfl hb27 (wl rfl (calS cf9 rfl (law31_begins_sim (p0 := y2.Out) (p1 := p1.Out) (hS20.bun [1, 2, 3] [] rfl) (h3.mono ch) (h2.mono ch) hx10) rfl fun v8 T18 w21 im22 rv8 => ?_))))))))))
          obtain ⟨rfl, hS21, _⟩ := rv8
          have hS21 := hS21.unb
          exact gT (d0 := 156) rfl rfl hb26 (pv (r_pkt rfl hb27 rfl) (gT (d0 := 150) rfl rfl hb25 (pv (r_pkf rfl hb26 rfl) (pv (r_pkt rfl hb25 rfl) (pv (r_zb rfl) (nil (t_then ⟨_, _, y8, env_has ⟨rfl, rfl, rfl, trivial⟩, ch, hS21.sel [0, 1, 2] rfl, hm⟩)))))))
        have hm := cfalse hb27 hm
        exact gF5 (d0 := 158) rfl rfl (by rw [hb27]; rfl) (gT (d0 := 156) rfl rfl hb26 (pv (r_pkf rfl hb27 rfl) (gT (d0 := 150) rfl rfl hb25 (pv (r_pkf rfl hb26 rfl) (pv (r_pkt rfl hb25 rfl) (pv (r_zb rfl) (nil (t_then ⟨_, _, false, env_has ⟨rfl, rfl, rfl, trivial⟩, im21, hS20.sel [1, 2, 3] rfl, hm⟩))))))))
      have hm := cfalse hb25 hm
      exact gF6 (d0 := 150) rfl rfl (by rw [hb25]; rfl) (gU (d0 := 156) rfl rfl (gU (d0 := 156) rfl rfl (gU (d0 := 158) rfl rfl (gU (d0 := 158) rfl rfl (gU (d0 := 158) rfl rfl (gU (d0 := 158) rfl rfl (gU (d0 := 158) rfl rfl (gU (d0 := 156) rfl rfl (gF (d0 := 150) rfl rfl (by rw [hb25]; rfl) (pv (r_pkf rfl hb25 rfl) (pv (r_zb rfl) (nil (t_then ⟨_, _, false, env_has ⟨rfl, rfl, rfl, trivial⟩, Im.refl, hS19.sel [1, 2, 3] rfl, hm⟩)))))))))))))
    have hm := cfalse hb24 hm
    exact skp (t_then ⟨_, _, x7, env_has ⟨rfl, rfl, rfl, trivial⟩, Im.refl, hS19.sel [1, 2, 3] rfl, hm⟩)
  rintro _ w19 ⟨J, T16, x8, rfl, im20, hS22, hm⟩
  rw [hkk7] at hm
  refine sq2 ?_
  obtain ⟨y9, hx11, hm⟩ := bindS hm
  refine rg (wl rfl (calS cf4 rfl (law31_awake_sim  (hS22.bun [0, 1, 2] [] rfl) (hG1.mono ch) hx11) rfl fun v9 T19 w22 im23 rv9 => ?_))
  obtain ⟨rfl, hS23, _⟩ := rv9
  have hS23 := hS23.unb
  refine pv (r_mb rfl) (?_)
  rcases Bool.eq_false_or_eq_true y9 with hb28 | hb28
  · have hm := ctrue hb28 hm
    obtain ⟨y10, hx12, hm⟩ := bindS hm
    refine gT (d0 := 168) rfl rfl hb28 (pv (r_ldS rfl isAgg25 sizeOf25 rfl (hS23.cells0 (i := 1) ⟨rfl, rfl⟩ (o := 0) rfl) (cs := (cGPlay p0 a1 c1))) (gT (d0 := 168) rfl rfl hb28 (pv (r_ldS rfl isAgg29 sizeOf29 rfl (hS23.cells0 (i := 0) ⟨rfl, rfl⟩ (o := 0) rfl) (cs := [sv a2 p1.Out c2, iv p1.Ins, .int .u32 p1.Exit, iv p1.E])) (gT (d0 := 168) rfl rfl hb28 (wl rfl (calS cf10 rfl (play_Agrees_sim (p0 := p0) (p1 := p1) (hS23.bun [2] [] rfl) (h1.mono ch) (h2.mono ch) hx12) rfl fun v10 T20 w23 im24 rv10 => ?_))))))
    obtain ⟨rfl, hS24, _⟩ := rv10
    have hS24 := hS24.unb
    refine gT (d0 := 168) rfl rfl hb28 (pv (r_mb rfl) (gT (d0 := 168) rfl rfl hb28 (pv (r_bq rfl rfl underlying4) (pv (r_pkt rfl hb28 rfl) (pv (r_zb rfl) (nil (t_then ?_)))))))
    have hm := oI hm; subst hm
    exact rtn (ret1 rfl rfl ⟨_, rfl, _, ch, ⟨rfl, hS24.sel [0] rfl, trivial⟩⟩)
  have hm := cfalse hb28 hm
  refine gF5 (d0 := 168) rfl rfl (by rw [hb28]; rfl) (pv (r_pkf rfl hb28 rfl) (pv (r_zb rfl) (nil (t_then ?_))))
  have hm := oI hm; subst hm
  exact rtn (ret1 rfl rfl ⟨_, rfl, _, ch, ⟨rfl, hS23.sel [2] rfl, trivial⟩⟩)
end Go.Proofs.YtpdahlpjbckoiaaGreatDoor
