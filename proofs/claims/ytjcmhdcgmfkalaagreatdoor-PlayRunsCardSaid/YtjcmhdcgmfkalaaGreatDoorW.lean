/- That Go functions compute their models. Printed by gen2.py. -/
import Derived.Test.YtjcmhdcgmfkalaaGreatDoorWb
import Derived.Test.YtjcmhdcgmfkalaaGreatDoorH
set_option linter.unusedVariables false
namespace Go.Proofs.YtjcmhdcgmfkalaaGreatDoor
open _root_.Go.Proofs.Tryz
set_option maxRecDepth 100000
set_option maxHeartbeats 8000000
attribute [local irreducible] wpList wpQuiet Code.wp
variable {g : World} {T0 : Nat → Prop} {w0 : World} {R : List Assn}
attribute [local irreducible] wpSer wpTr execOp Program.underlying sizeOf isAgg zeroValue

theorem law31_PlayRuns_sim {p0 : GImage} {a1 c1 a2 c2} {p1 : List Int} {a3 c3} {p2 : law31Fail} {a4 c4} (hS : Sep g T0 w0 [starL R]) (h1 : SlR (rInt .u32) T0 w0 (sv a1 p0.Code c1) p0.Code) (h2 : SlR (rInt .u8) T0 w0 (sv a2 p0.Data c2) p0.Data) (h3 : SlR (rInt .u32) T0 w0 (sv a3 p1 c3) p1) (h4 : SlR (rInt .i64) T0 w0 (sv a4 p2.L c4) p2.L) (hG1 : Gc T0 w0 1 (Lib.pow10Tab.map fun z => Value.int .u64 z)) : ∀ r, law31_PlayRuns p0 p1 p2 = some r →
    Calls Tryz.prog 3 #[.agg #[sv a1 p0.Code c1, sv a2 p0.Data c2, iv p0.Limit, iv p0.Notes], sv a3 p1 c3, .agg #[sv a4 p2.L c4, iv p2.First, iv p2.Gap, iv p2.N]] w0 (RetS T0 w0 fun T w v => v = .bool r ∧ Sep g T w (R ++ []) ∧ True) := by
  intro r hm
  refine enter Tryz.func3 rfl Tryz.ntmps3 rfl fun J => ?_
  unfold law31_PlayRuns at hm
  refine sq2 (bX [sv a1 p0.Code c1, sv a2 p0.Data c2, iv p0.Limit, iv p0.Notes] hS ?_)
  intro w1 b1 im1 hS1
  refine bX [sv a4 p2.L c4, iv p2.First, iv p2.Gap, iv p2.N] hS1 ?_
  intro w2 b2 im2 hS2
  refine pn ?_
  refine sq2 (sq2 (pu ?_))
  refine fkC (d := 20) (c := ((decide (200 < (List.length p0.Code : Int))) || (decide (2000 < (List.length p0.Data : Int))))) 5 [(1, sv a3 p1 c3), (3, pt b1 0), (5, pt b2 0)] rfl (fun hk => ?_) fun J => ?_
  · rcases Bool.eq_false_or_eq_true (decide (200 < (List.length p0.Code : Int))) with hb1 | hb1
    · exact  gF4 (d0 := 15) rfl rfl (by rw [hb1]; rfl) (pv (r_pkt rfl hb1 rfl) (wlR (fun J => hk J _ (by rw [hb1]; rfl)) ⟨rfl, rfl, rfl, rfl, trivial⟩))
    exact  gT (d0 := 15) rfl rfl hb1 (pv (r_fa rfl underlying25 rfl sizeOf23 rfl) (gT (d0 := 15) rfl rfl hb1 (pv (r_ld rfl isAgg23 (hS2.cell0 (i := 1) ⟨rfl, rfl⟩ (j := 1) rfl)) (gT (d0 := 15) rfl rfl hb1 (pv (r_ln rfl underlying23) (gT (d0 := 15) rfl rfl hb1 (pv (r_ib rfl rfl rfl) (pv (r_pkf rfl hb1 rfl) (wlR (fun J => hk J _ (by rw [hb1]; rfl)) ⟨rfl, rfl, rfl, rfl, trivial⟩)))))))))
  refine pu ?_
  refine fkC (d := 25) (c := (((decide (200 < (List.length p0.Code : Int))) || (decide (2000 < (List.length p0.Data : Int)))) || (decide (40 < (List.length p1 : Int))))) 4 [(1, sv a3 p1 c3), (3, pt b1 0), (5, pt b2 0)] rfl (fun hk => ?_) fun J => ?_
  · rcases Bool.eq_false_or_eq_true ((decide (200 < (List.length p0.Code : Int))) || (decide (2000 < (List.length p0.Data : Int)))) with hb2 | hb2
    · exact  gF3 (d0 := 21) rfl rfl (by rw [hb2]; rfl) (pv (r_pkt rfl hb2 rfl) (wlR (fun J => hk J _ (by rw [hb2]; rfl)) ⟨rfl, rfl, rfl, rfl, trivial⟩))
    exact  gT (d0 := 21) rfl rfl hb2 (pv (r_ms rfl) (gT (d0 := 21) rfl rfl hb2 (pv (r_ln rfl underlying22) (gT (d0 := 21) rfl rfl hb2 (pv (r_ib rfl rfl rfl) (pv (r_pkf rfl hb2 rfl) (wlR (fun J => hk J _ (by rw [hb2]; rfl)) ⟨rfl, rfl, rfl, rfl, trivial⟩)))))))
  refine pu ?_
  refine fkC (d := 31) (c := ((((decide (200 < (List.length p0.Code : Int))) || (decide (2000 < (List.length p0.Data : Int)))) || (decide (40 < (List.length p1 : Int)))) || (decide (100 < (List.length p2.L : Int))))) 5 [(1, sv a3 p1 c3), (3, pt b1 0), (5, pt b2 0)] rfl (fun hk => ?_) fun J => ?_
  · rcases Bool.eq_false_or_eq_true (((decide (200 < (List.length p0.Code : Int))) || (decide (2000 < (List.length p0.Data : Int)))) || (decide (40 < (List.length p1 : Int)))) with hb3 | hb3
    · exact  gF4 (d0 := 26) rfl rfl (by rw [hb3]; rfl) (pv (r_pkt rfl hb3 rfl) (wlR (fun J => hk J _ (by rw [hb3]; rfl)) ⟨rfl, rfl, rfl, rfl, trivial⟩))
    exact  gT (d0 := 26) rfl rfl hb3 (pv (r_fa rfl underlying28 rfl sizeOf26 rfl) (gT (d0 := 26) rfl rfl hb3 (pv (r_ld rfl isAgg26 (hS2.cell0 (i := 0) ⟨rfl, rfl⟩ (j := 0) rfl)) (gT (d0 := 26) rfl rfl hb3 (pv (r_ln rfl underlying26) (gT (d0 := 26) rfl rfl hb3 (pv (r_ib rfl rfl rfl) (pv (r_pkf rfl hb3 rfl) (wlR (fun J => hk J _ (by rw [hb3]; rfl)) ⟨rfl, rfl, rfl, rfl, trivial⟩)))))))))
  refine pu ?_
  refine fkN (d := 36) (c := (((((decide (200 < (List.length p0.Code : Int))) || (decide (2000 < (List.length p0.Data : Int)))) || (decide (40 < (List.length p1 : Int)))) || (decide (100 < (List.length p2.L : Int)))) || (decide (600 < p2.N)))) 4 [(1, sv a3 p1 c3), (3, pt b1 0), (5, pt b2 0)] rfl (fun hk => ?_) fun J => ?_
  · rcases Bool.eq_false_or_eq_true ((((decide (200 < (List.length p0.Code : Int))) || (decide (2000 < (List.length p0.Data : Int)))) || (decide (40 < (List.length p1 : Int)))) || (decide (100 < (List.length p2.L : Int)))) with hb4 | hb4
    · exact  gF3 (d0 := 32) rfl rfl (by rw [hb4]; rfl) (pv (r_pkt rfl hb4 rfl) (wlR (fun J => hk J _ (by rw [hb4]; rfl)) ⟨rfl, rfl, rfl, rfl, trivial⟩))
    exact  gT (d0 := 32) rfl rfl hb4 (pv (r_fa rfl underlying28 rfl sizeOf3 rfl) (gT (d0 := 32) rfl rfl hb4 (pv (r_ld rfl isAgg3 (hS2.cell0 (i := 0) ⟨rfl, rfl⟩ (j := 3) rfl)) (gT (d0 := 32) rfl rfl hb4 (pv (r_ib rfl rfl rfl) (pv (r_pkf rfl hb4 rfl) (wlR (fun J => hk J _ (by rw [hb4]; rfl)) ⟨rfl, rfl, rfl, rfl, trivial⟩)))))))
  refine cd hm ?_ ?_ <;> intro hb5 hm
  · refine sq2 ?_
    obtain ⟨y1, hx1, hm⟩ := bindS hm
    refine cS cf4 (law31_awake_sim (hS2.bun [2] [] rfl) (hG1.mono ch) hx1) ?_
    rintro _ T1 w3 im3 ⟨rfl, hS3, _⟩
    have hS3 := hS3.unb
    exact re hm (hS3.sel [0] rfl)
  refine pn ?_
  refine sq2 (pu ?_)
  refine cB cf5 hm (play_Run_sim (hS2.bun [0, 1, 2] [] rfl) (h1.mono ch) (h2.mono ch) (h3.mono ch) (h4.mono ch)) ?_
  rintro y2 _ T2 w4 im4 ⟨a5, c5, rfl, hS4, h5, _⟩ hm
  refine aL zv2 hS4 ?_
  intro w5 b3 im5 hS5
  refine sT 0 hS5 ?_
  intro w6 im6 hS6
  refine pn ?_
  refine sq2 (sq2 (pu ?_))
  refine cB cf6 hm (ref03_May_sim (hS6.bun [0, 1, 2, 3] [] rfl)) ?_
  rintro y3 _ T3 w7 im7 ⟨rfl, hS7, _⟩ hm
  refine cd hm ?_ ?_ <;> intro hb6 hm
  · refine sq2 (pu ?_)
    refine nil (t_thenR [(6, .bool false)] ⟨rfl, trivial⟩ fun J => ?_)
    exact re hm (hS7.sel [3] rfl)
  refine pn ?_
  refine sq2 (sq2 (cd hm ?_ ?_)) <;> intro hb7 hm
  · refine sq2 ?_
    obtain ⟨y4, hx4, hm⟩ := bindS hm
    refine cS cf4 (law31_awake_sim (hS7.bun [0, 3] [] rfl) (hG1.mono ch) hx4) ?_
    rintro _ T4 w8 im8 ⟨rfl, hS8, _⟩
    have hS8 := hS8.unb
    refine pu ?_
    refine fkC (d := 64) (c := (y4 && (y2.1.Steps == 0))) 4 [(7, pt b3 0)] rfl (fun hk => ?_) fun J => ?_
    · rcases Bool.eq_false_or_eq_true y4 with hb8 | hb8
      · exact  gT (d0 := 60) rfl rfl hb8 (pv (r_fa rfl underlying33 rfl sizeOf3 rfl) (gT (d0 := 60) rfl rfl hb8 (pv (r_ld rfl isAgg3 (hS8.cell0 (i := 0) ⟨rfl, rfl⟩ (j := 2) rfl)) (gT (d0 := 60) rfl rfl hb8 (pv (r_ib rfl rfl rfl) (pv (r_pkt rfl hb8 rfl) (wlR (fun J => hk J _ (by rw [hb8]; rfl)) ⟨rfl, rfl, trivial⟩)))))))
      exact  gF3 (d0 := 60) rfl rfl (by rw [hb8]; rfl) (pv (r_pkf rfl hb8 rfl) (wlR (fun J => hk J _ (by rw [hb8]; rfl)) ⟨rfl, rfl, trivial⟩))
    refine pu ?_
    refine fkC (d := 70) (c := ((y4 && (y2.1.Steps == 0)) && ((List.length y2.1.Log : Int) == 0))) 5 [] rfl (fun hk => ?_) fun J => ?_
    · rcases Bool.eq_false_or_eq_true (y4 && (y2.1.Steps == 0)) with hb9 | hb9
      · exact  gT (d0 := 65) rfl rfl hb9 (pv (r_fa rfl underlying33 rfl sizeOf31 rfl) (gT (d0 := 65) rfl rfl hb9 (pv (r_ld rfl isAgg31 (hS8.cell0 (i := 0) ⟨rfl, rfl⟩ (j := 3) rfl)) (gT (d0 := 65) rfl rfl hb9 (pv (r_ln rfl underlying31) (gT (d0 := 65) rfl rfl hb9 (pv (r_ib rfl rfl rfl) (pv (r_pkt rfl hb9 rfl) (wlR (fun J => hk J _ (by rw [hb9]; rfl)) ⟨rfl, trivial⟩)))))))))
      exact  gF4 (d0 := 65) rfl rfl (by rw [hb9]; rfl) (pv (r_pkf rfl hb9 rfl) (wlR (fun J => hk J _ (by rw [hb9]; rfl)) ⟨rfl, trivial⟩))
    exact re hm (hS8.sel [1] rfl)
  refine pn ?_
  refine sq2 (pu ?_)
  refine cB cf7 hm (ref03_Begin_sim (hS7.bun [0, 1, 3] [] rfl) (h1.mono ch) (h2.mono ch) (h3.mono ch)) ?_
  rintro y5 _ T5 w9 im9 ⟨b4, a6, c6, a7, n1, c7, a8, c8, a9, n2, c9, a10, n3, c10, rfl, hS9, h6, h7, _⟩ hm
  refine pu ?_
  refine nil (t_thenR [(5, pt b2 0), (7, pt b3 0), (9, pt b4 0)] ⟨rfl, rfl, rfl, trivial⟩ fun J => ?_)
  refine sq2 (pu ?_)
  refine cB cf8 hm (law31_run_sim (H_p0 := boxA b4) (hS9.bun [0, 2] [3, 4, 5, 6] rfl) (lnBox b4) h6 h7 (h4.mono ch)) ?_
  rintro y6 _ T6 w10 im10 ⟨a11, c11, a12, c12, a13, n4, c13, a14, n5, c14, rfl, hS10, h8, h9, _⟩ hm
  refine pn ?_
  refine sq2 ?_
  obtain ⟨y7, hx7, hm⟩ := bindS hm
  refine cS cf4 (law31_awake_sim (hS10.bun [0, 1, 2, 3, 4, 5] [] rfl) (hG1.mono ch) hx7) ?_
  rintro _ T7 w11 im11 ⟨rfl, hS11, _⟩
  have hS11 := hS11.unb
  refine pu ?_
  rcases bc hm with ⟨hb10, hm⟩ | ⟨hb10, hm⟩
  · refine pu ?_
    refine cB cf9 hm (law31_same_sim (H_p1 := boxA b4) (hS11.bun [1] [2, 3, 4, 5] rfl) (h5.mono ch) (lnBox b4) (h8.mono im11) (h9.mono im11)) ?_
    rintro y8 _ T8 w12 im12 ⟨rfl, hS12, _⟩ hm
    exact re hm (hS12.sel [0] rfl)
  exact re hm (hS11.sel [1] rfl)
end Go.Proofs.YtjcmhdcgmfkalaaGreatDoor
