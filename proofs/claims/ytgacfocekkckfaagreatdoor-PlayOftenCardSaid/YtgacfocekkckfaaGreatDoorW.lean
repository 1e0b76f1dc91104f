/- That Go functions compute their models. Printed by gen2.py. -/
import Derived.Test.YtgacfocekkckfaaGreatDoorWb
import Derived.Test.YtgacfocekkckfaaGreatDoorH
set_option linter.unusedVariables false
namespace Go.Proofs.YtgacfocekkckfaaGreatDoor
open _root_.Go.Proofs.Tryz
set_option maxRecDepth 100000
set_option maxHeartbeats 8000000
attribute [local irreducible] wpList wpQuiet Code.wp
variable {g : World} {T0 : Nat → Prop} {w0 : World} {R : List Assn}
attribute [local irreducible] wpSer wpTr execOp Program.underlying sizeOf isAgg zeroValue

theorem law31_PlayOften_sim {p0 : GImage} {a1 c1 a2 c2} {p1 : List Int} {a3 c3} {p2 : law31Fail} {a4 c4} (hS : Sep g T0 w0 [starL R]) (h1 : SlR (rInt .u32) T0 w0 (sv a1 p0.Code c1) p0.Code) (h2 : SlR (rInt .u8) T0 w0 (sv a2 p0.Data c2) p0.Data) (h3 : SlR (rInt .u32) T0 w0 (sv a3 p1 c3) p1) (h4 : SlR (rInt .i64) T0 w0 (sv a4 p2.L c4) p2.L) (hG1 : Gc T0 w0 1 (Lib.pow10Tab.map fun z => Value.int .u64 z)) : ∀ r, law31_PlayOften p0 p1 p2 = some r →
    Calls Tryz.prog 3 #[.agg #[sv a1 p0.Code c1, sv a2 p0.Data c2, iv p0.Limit, iv p0.Notes], sv a3 p1 c3, .agg #[sv a4 p2.L c4, iv p2.First, iv p2.Gap, iv p2.N]] w0 (RetS T0 w0 fun T w v => v = .bool r ∧ Sep g T w (R ++ []) ∧ True) := by
  intro r hm
  refine enter Tryz.func3 rfl Tryz.ntmps3 rfl fun J => ?_
  unfold law31_PlayOften at hm
  refine sq2 (bX [sv a1 p0.Code c1, sv a2 p0.Data c2, iv p0.Limit, iv p0.Notes] hS ?_)
  intro w1 b1 im1 hS1
  refine bX [sv a4 p2.L c4, iv p2.First, iv p2.Gap, iv p2.N] hS1 ?_
  intro w2 b2 im2 hS2
  refine pn ?_
  refine sq2 (sq2 (pu ?_))
  refine fkC (d := 22) (c := ((decide (200 < (List.length p0.Code : Int))) || (decide (2000 < (List.length p0.Data : Int))))) 5 [(1, sv a3 p1 c3), (3, pt b1 0), (5, pt b2 0)] rfl (fun hk => ?_) fun J => ?_
  · rcases Bool.eq_false_or_eq_true (decide (200 < (List.length p0.Code : Int))) with hb1 | hb1
    · exact  gF4 (d0 := 17) rfl rfl (by rw [hb1]; rfl) (pv (r_pkt rfl hb1 rfl) (wlR (fun J => hk J _ (by rw [hb1]; rfl)) ⟨rfl, rfl, rfl, rfl, trivial⟩))
    exact  gT (d0 := 17) rfl rfl hb1 (pv (r_fa rfl underlying25 rfl sizeOf23 rfl) (gT (d0 := 17) rfl rfl hb1 (pv (r_ld rfl isAgg23 (hS2.cell0 (i := 1) ⟨rfl, rfl⟩ (j := 1) rfl)) (gT (d0 := 17) rfl rfl hb1 (pv (r_ln rfl underlying23) (gT (d0 := 17) rfl rfl hb1 (pv (r_ib rfl rfl rfl) (pv (r_pkf rfl hb1 rfl) (wlR (fun J => hk J _ (by rw [hb1]; rfl)) ⟨rfl, rfl, rfl, rfl, trivial⟩)))))))))
  refine pu ?_
  refine fkC (d := 27) (c := (((decide (200 < (List.length p0.Code : Int))) || (decide (2000 < (List.length p0.Data : Int)))) || (decide (40 < (List.length p1 : Int))))) 4 [(1, sv a3 p1 c3), (3, pt b1 0), (5, pt b2 0)] rfl (fun hk => ?_) fun J => ?_
  · rcases Bool.eq_false_or_eq_true ((decide (200 < (List.length p0.Code : Int))) || (decide (2000 < (List.length p0.Data : Int)))) with hb2 | hb2
    · exact  gF3 (d0 := 23) rfl rfl (by rw [hb2]; rfl) (pv (r_pkt rfl hb2 rfl) (wlR (fun J => hk J _ (by rw [hb2]; rfl)) ⟨rfl, rfl, rfl, rfl, trivial⟩))
    exact  gT (d0 := 23) rfl rfl hb2 (pv (r_ms rfl) (gT (d0 := 23) rfl rfl hb2 (pv (r_ln rfl underlying22) (gT (d0 := 23) rfl rfl hb2 (pv (r_ib rfl rfl rfl) (pv (r_pkf rfl hb2 rfl) (wlR (fun J => hk J _ (by rw [hb2]; rfl)) ⟨rfl, rfl, rfl, rfl, trivial⟩)))))))
  refine pu ?_
  refine fkN (d := 32) (c := ((((decide (200 < (List.length p0.Code : Int))) || (decide (2000 < (List.length p0.Data : Int)))) || (decide (40 < (List.length p1 : Int)))) || (decide (600 < p2.N)))) 4 [(1, sv a3 p1 c3), (3, pt b1 0), (5, pt b2 0)] rfl (fun hk => ?_) fun J => ?_
  · rcases Bool.eq_false_or_eq_true (((decide (200 < (List.length p0.Code : Int))) || (decide (2000 < (List.length p0.Data : Int)))) || (decide (40 < (List.length p1 : Int)))) with hb3 | hb3
    · exact  gF3 (d0 := 28) rfl rfl (by rw [hb3]; rfl) (pv (r_pkt rfl hb3 rfl) (wlR (fun J => hk J _ (by rw [hb3]; rfl)) ⟨rfl, rfl, rfl, rfl, trivial⟩))
    exact  gT (d0 := 28) rfl rfl hb3 (pv (r_fa rfl underlying28 rfl sizeOf3 rfl) (gT (d0 := 28) rfl rfl hb3 (pv (r_ld rfl isAgg3 (hS2.cell0 (i := 0) ⟨rfl, rfl⟩ (j := 3) rfl)) (gT (d0 := 28) rfl rfl hb3 (pv (r_ib rfl rfl rfl) (pv (r_pkf rfl hb3 rfl) (wlR (fun J => hk J _ (by rw [hb3]; rfl)) ⟨rfl, rfl, rfl, rfl, trivial⟩)))))))
  refine cd hm ?_ ?_ <;> intro hb4 hm
  · refine sq2 ?_
    obtain ⟨y1, hx1, hm⟩ := bindS hm
    refine cS cf4 (law31_awake_sim (hS2.bun [2] [] rfl) (hG1.mono ch) hx1) ?_
    rintro _ T1 w3 im3 ⟨rfl, hS3, _⟩
    have hS3 := hS3.unb
    exact re hm (hS3.sel [0] rfl)
  refine pn ?_
  refine sq2 (pu ?_)
  refine cB cf5 hm (play_Often_sim (hS2.bun [0, 1, 2] [] rfl) (h1.mono ch) (h2.mono ch) (h3.mono ch)) ?_
  rintro y2 _ T2 w4 im4 ⟨a5, c5, rfl, hS4, h5, _⟩ hm
  refine aL zv2 hS4 ?_
  intro w5 b3 im5 hS5
  refine sT 0 hS5 ?_
  intro w6 im6 hS6
  refine pn ?_
  refine sq2 (cutJ hm (fun kk1 a w7 => ∃ T3 x1, JR (nf 109) g T2 w6 a w7 T3 (kk1 x1 = some r) [(1, sv a3 p1 c3), (3, pt b1 0), (5, pt b2 0), (7, pt b3 0), (8, iv y2.2), (53, .bool x1)] [boxA b3 (cGPlay y2.1 a5 c5), boxA b2 [sv a4 p2.L c4, iv p2.First, iv p2.Gap, iv p2.N], boxA b1 [sv a1 p0.Code c1, sv a2 p0.Data c2, iv p0.Limit, iv p0.Notes], starL R]) (fun kk1 hm => ?_) ?_)
  · refine pu ?_
    refine fkN (d := 53) (c := ((decide (p2.First < 0)) || (decide (p2.Gap < 1)))) 4 [(1, sv a3 p1 c3), (3, pt b1 0), (5, pt b2 0), (7, pt b3 0), (8, iv y2.2)] rfl (fun hk => ?_) fun J => ?_
    · rcases Bool.eq_false_or_eq_true (decide (p2.First < 0)) with hb5 | hb5
      · exact  gF3 (d0 := 49) rfl rfl (by rw [hb5]; rfl) (pv (r_pkt rfl hb5 rfl) (wlR (fun J => hk J _ (by rw [hb5]; rfl)) ⟨rfl, rfl, rfl, rfl, rfl, rfl, trivial⟩))
      exact  gT (d0 := 49) rfl rfl hb5 (pv (r_fa rfl underlying28 rfl sizeOf3 rfl) (gT (d0 := 49) rfl rfl hb5 (pv (r_ld rfl isAgg3 (hS6.cell0 (i := 1) ⟨rfl, rfl⟩ (j := 2) rfl)) (gT (d0 := 49) rfl rfl hb5 (pv (r_ib rfl rfl rfl) (pv (r_pkf rfl hb5 rfl) (wlR (fun J => hk J _ (by rw [hb5]; rfl)) ⟨rfl, rfl, rfl, rfl, rfl, rfl, trivial⟩)))))))
    exact je hm (hS6.sel (nrow 0 4) rfl)
  rintro _ w7 ⟨T3, x1, J, hm, rfl, hS7, im7⟩
  refine cd hm ?_ ?_ <;> intro hb6 hm
  · refine sq2 ?_
    obtain ⟨y3, hx3, hm⟩ := bindS hm
    refine cS cf4 (law31_awake_sim (hS7.bun [0, 3] [] rfl) (hG1.mono ch) hx3) ?_
    rintro _ T4 w8 im8 ⟨rfl, hS8, _⟩
    have hS8 := hS8.unb
    refine pu ?_
    refine fkC (d := 58) (c := (y3 && (y2.2 == 1))) 3 [(7, pt b3 0)] rfl (fun hk => ?_) fun J => ?_
    · rcases Bool.eq_false_or_eq_true y3 with hb7 | hb7
      · exact  gT (d0 := 55) rfl rfl hb7 (pv (r_mi rfl) (gT (d0 := 55) rfl rfl hb7 (pv (r_ib rfl rfl rfl) (pv (r_pkt rfl hb7 rfl) (wlR (fun J => hk J _ (by rw [hb7]; rfl)) ⟨rfl, rfl, trivial⟩)))))
      exact  gF2 (d0 := 55) rfl rfl (by rw [hb7]; rfl) (pv (r_pkf rfl hb7 rfl) (wlR (fun J => hk J _ (by rw [hb7]; rfl)) ⟨rfl, rfl, trivial⟩))
    refine pu ?_
    refine fkC (d := 63) (c := ((y3 && (y2.2 == 1)) && (y2.1.Steps == 0))) 4 [] rfl (fun hk => ?_) fun J => ?_
    · rcases Bool.eq_false_or_eq_true (y3 && (y2.2 == 1)) with hb8 | hb8
      · exact  gT (d0 := 59) rfl rfl hb8 (pv (r_fa rfl underlying33 rfl sizeOf3 rfl) (gT (d0 := 59) rfl rfl hb8 (pv (r_ld rfl isAgg3 (hS8.cell0 (i := 0) ⟨rfl, rfl⟩ (j := 2) rfl)) (gT (d0 := 59) rfl rfl hb8 (pv (r_ib rfl rfl rfl) (pv (r_pkt rfl hb8 rfl) (wlR (fun J => hk J _ (by rw [hb8]; rfl)) ⟨rfl, trivial⟩)))))))
      exact  gF3 (d0 := 59) rfl rfl (by rw [hb8]; rfl) (pv (r_pkf rfl hb8 rfl) (wlR (fun J => hk J _ (by rw [hb8]; rfl)) ⟨rfl, trivial⟩))
    exact re hm (hS8.sel [1] rfl)
  refine pn ?_
  refine sq2 (sq2 (pu ?_))
  refine cB cf6 hm (ref03_May_sim (hS7.bun (nrow 0 4) [] rfl)) ?_
  rintro y4 _ T5 w9 im9 ⟨rfl, hS9, _⟩ hm
  refine cd hm ?_ ?_ <;> intro hb9 hm
  · exact sq2 (re hm (hS9.sel [3] rfl))
  refine pn ?_
  refine sq2 (sq2 (cd hm ?_ ?_)) <;> intro hb10 hm
  · refine sq2 ?_
    obtain ⟨y5, hx5, hm⟩ := bindS hm
    refine cS cf4 (law31_awake_sim (hS9.bun [3] [] rfl) (hG1.mono ch) hx5) ?_
    rintro _ T6 w10 im10 ⟨rfl, hS10, _⟩
    have hS10 := hS10.unb
    exact re hm (hS10.sel [0] rfl)
  refine pn ?_
  refine sq2 (pn ?_)
  refine sq2 (pn ?_)
  refine sq2 ?_
  have hS11 := hS9.nilO (rInt .i64) 3
  refine lpJ hm (fun bd1 o1 m a w11 => ∃ (T7 : _) (x2 : List Int) (a6 : _) (n1 : _) (c6 : _) (x3 : _), JR (nf 109) g T5 w9 a w11 T7 (loopM bd1 m (x2, x3) = some o1) [(1, sv a3 p1 c3), (3, pt b1 0), (5, pt b2 0), (7, pt b3 0), (9, .slice a6 n1 c6), (10, iv x3)] [ownA (rInt .i64) 3 (.slice a6 n1 c6) x2, boxA b3 (cGPlay y2.1 a5 c5), boxA b2 [sv a4 p2.L c4, iv p2.First, iv p2.Gap, iv p2.N], boxA b1 [sv a1 p0.Code c1, sv a2 p0.Data c2, iv p0.Limit, iv p0.Notes], starL R]) (fun _ _ h => je h (hS11.sel (nrow 0 5) rfl)) ?_
  rintro bd1 hbd1 o1 hq1 _ _ w11 ⟨T7, x2, a6, n1, c6, x3, J, ho1, rfl, hS12, im11⟩
  obtain ⟨m1, z1, rfl, hm, hn1⟩ := lrE ho1 hbd1
  refine sq2 (sq2 (cd hm ?_ ?_)) <;> intro hb11 hm
  · refine pn ?_
    refine blk (sq2 (bS (r := (rInt .i64)) (l := ([x3] : List Int)) (css := [[iv x3]]) hS12 ⟨rfl, trivial⟩ ?_))
    intro w12 a7 n2 c7 im12 hS13
    obtain ⟨z_1, hro1, hm⟩ := bindS hm
    refine aO 1 hS13 (room_some hro1) ?_
    intro w13 a8 n3 c8 im13 hS14
    refine pn ?_
    refine sq2 (sq2 (cd hm ?_ ?_)) <;> intro hb12 hm
    · have hm := brkE hm hn1 hq1
      refine pn ?_
      refine sq2 (pu ?_)
      refine cB cf7 hm (ref03_Begin_sim (hS14.bun [1, 2, 3, 5] [] rfl) (h1.mono ch) (h2.mono ch) (h3.mono ch)) ?_
      rintro y10 _ T13 w18 im19 ⟨b5, a18, c18, a19, n9, c19, a20, c20, a21, n10, c21, a22, n11, c22, rfl, hS20, h11, h12, _⟩ hm
      refine pn ?_
      refine sq2 (pu ?_)
      obtain ⟨T14, im20, hS21, h13, rfl⟩ := hS20.sl 0
      refine cB cf8 hm (law31_run_sim (hS21.bun [1, 3] (nrow 4 4) rfl) (lnBox b5) (h11.mono im20) (h12.mono im20) h13) ?_
      rintro y11 _ T15 w19 im21 ⟨a23, c23, a24, c24, a25, n12, c25, a26, n13, c26, rfl, hS22, h14, h15, _⟩ hm
      refine pu ?_
      refine nil (t_thenR [(7, pt b3 0), (11, pt b5 0), (12, iv y11.1)] ⟨rfl, rfl, rfl, trivial⟩ fun J => ?_)
      refine sq2 ?_
      obtain ⟨y12, hx12, hm⟩ := bindS hm
      refine cS cf4 (law31_awake_sim (hS22.bun (nrow 0 6) [] rfl) (hG1.mono ch) hx12) ?_
      rintro _ T16 w20 im22 ⟨rfl, hS23, _⟩
      have hS23 := hS23.unb
      refine pu ?_
      rcases bc hm with ⟨hb14, hm⟩ | ⟨hb14, hm⟩
      · refine pu ?_
        refine cB cf9 hm (law31_same_sim (hS23.bun [1] (nrow 2 4) rfl) (h5.mono ch) (lnBox b5) (h14.mono im22) (h15.mono im22)) ?_
        rintro y13 _ T17 w21 im23 ⟨rfl, hS24, _⟩ hm
        exact re hm (hS24.sel [0] rfl)
      exact re hm (hS23.sel [1] rfl)
    exact lg hm hn1 (hS14.sel (nrow 1 5) rfl)
  have hm := brkE hm hn1 hq1
  refine pn ?_
  refine sq2 (pu ?_)
  refine cB cf7 hm (ref03_Begin_sim (hS12.bun [0, 1, 2, 4] [] rfl) (h1.mono ch) (h2.mono ch) (h3.mono ch)) ?_
  rintro y14 _ T18 w22 im24 ⟨b6, a27, c27, a28, n14, c28, a29, c29, a30, n15, c30, a31, n16, c31, rfl, hS25, h16, h17, _⟩ hm
  refine pn ?_
  refine sq2 (pu ?_)
  obtain ⟨T19, im25, hS26, h18, rfl⟩ := hS25.sl 0
  refine cB cf8 hm (law31_run_sim (hS26.bun [1, 3] (nrow 4 4) rfl) (lnBox b6) (h16.mono im25) (h17.mono im25) h18) ?_
  rintro y15 _ T20 w23 im26 ⟨a32, c32, a33, c33, a34, n17, c34, a35, n18, c35, rfl, hS27, h19, h20, _⟩ hm
  refine pn ?_
  refine sq2 ?_
  obtain ⟨y16, hx16, hm⟩ := bindS hm
  refine cS cf4 (law31_awake_sim (hS27.bun (nrow 0 6) [] rfl) (hG1.mono ch) hx16) ?_
  rintro _ T21 w24 im27 ⟨rfl, hS28, _⟩
  have hS28 := hS28.unb
  refine pu ?_
  rcases bc hm with ⟨hb15, hm⟩ | ⟨hb15, hm⟩
  · refine pu ?_
    refine cB cf9 hm (law31_same_sim (hS28.bun [1] (nrow 2 4) rfl) (h5.mono ch) (lnBox b6) (h19.mono im27) (h20.mono im27)) ?_
    rintro y17 _ T22 w25 im28 ⟨rfl, hS29, _⟩ hm
    refine pu ?_
    refine nil (t_thenR [(6, .bool y17)] ⟨rfl, trivial⟩ fun J => ?_)
    exact re hm (hS29.sel [0] rfl)
  refine pu ?_
  refine nil (t_thenR [(6, .bool false)] ⟨rfl, trivial⟩ fun J => ?_)
  exact re hm (hS28.sel [1] rfl)
end Go.Proofs.YtgacfocekkckfaaGreatDoor
