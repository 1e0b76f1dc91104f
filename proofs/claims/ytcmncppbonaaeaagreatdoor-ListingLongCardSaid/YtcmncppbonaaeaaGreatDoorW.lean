/- That Go functions compute their models. Printed by gen2.py. -/
import Derived.Test.YtcmncppbonaaeaaGreatDoorWa
set_option linter.unusedVariables false
namespace Go.Proofs.YtcmncppbonaaeaaGreatDoor
open _root_.Go.Proofs.Tryz
set_option maxRecDepth 100000
set_option maxHeartbeats 1000000
attribute [local irreducible] wpList wpQuiet Code.wp
variable {g : World} {T0 : Nat → Prop} {w0 : World} {R : Assn}

theorem law06_ListingLines_sim {p0 : GInst} {r : Bool} (hS : Sep g T0 w0 [R]) (hG0 : Gi T0 w0 0) (hG1 : Gc T0 w0 1 (Lib.pow10Tab.map fun z => Value.int .u64 z)) (hG2 : Ge T0 w0 2) (hG3 : Ge T0 w0 3) (hG7 : Gc T0 w0 7 (Lib.deBruijn64tab.map fun (z : Nat) => Value.int .u8 (z : Int))) (hm : law06_ListingLines p0 = some r) :
    Calls Tryz.prog 3 #[.agg (cGInst p0).toArray] w0 (RetS T0 w0 fun T w v => v = .bool r ∧ Sep g T w [R] ∧ True) := by
  refine enter (args := [.agg (cGInst p0).toArray]) Tryz.func3 rfl Tryz.ntmps3 rfl fun J => ?_
  unfold law06_ListingLines at hm
  refine sq2 (rg (wl rfl (bxS (cs := (cGInst p0)) rfl rfl hS fun w1 b1 im1 hS1 => ?_)))
  refine pv (r_zb rfl) (nil (t_then ?_))
  refine sq2 ?_
  obtain ⟨y1, hx1, hm⟩ := bindS hm
  refine rg (pv (r_ldS rfl isAgg23 sizeOf23 rfl (hS1.cells0 (i := 0) ⟨rfl, rfl⟩ (o := 0) rfl) (cs := (cGInst p0))) (wl rfl (calS cf7 rfl (listing_Line_sim (p0 := p0) (hS1.bun [0, 1] [] rfl) (hG1.mono im1) hx1) rfl fun v1 T1 w2 im2 rv1 => ?_)))
  obtain ⟨rfl, hS2, _⟩ := rv1
  have hS2 := hS2.unb
  refine pv (r_mv rfl) (pv (r_ex (v := .string ⟨y1.1.toArray⟩) rfl rfl) (pv (r_ex (v := iv y1.2) rfl rfl) (pv (r_zt rfl) (pv (r_zi rfl) (nil (t_then ?_))))))
  refine sq2 (sq2 ?_)
  obtain ⟨y2, hx2, hm⟩ := bindS hm
  refine rg (pv (r_ldS rfl isAgg23 sizeOf23 rfl (hS2.cells0 (i := 0) ⟨rfl, rfl⟩ (o := 0) rfl) (cs := (cGInst p0))) (wl rfl (calS cf8 rfl (ref02_Right_sim (p0 := p0) (hS2.bun [0, 1] [] rfl)  hx2) rfl fun v2 T2 w3 im3 rv2 => ?_)))
  obtain ⟨rfl, hS3, _⟩ := rv2
  have hS3 := hS3.unb
  refine pv (r_nt rfl) (nil (t_then ?_))
  refine cnd rfl (fun hb1 => ?_) (fun hb1 => ?_)
  · have hm := ctrue hb1 hm
    refine sq2 ?_
    obtain ⟨y3, hx3, hm⟩ := bindS hm
    refine rg (wl rfl (calS cf9 rfl (law06_awake_sim  (hS3.bun [1] [] rfl) (hG0.mono (iT im1 (iT im2 im3))) (hG1.mono (iT im1 (iT im2 im3))) (hG2.mono (iT im1 (iT im2 im3))) (hG3.mono (iT im1 (iT im2 im3))) (hG7.mono (iT im1 (iT im2 im3))) hx3) rfl fun v3 T3 w4 im4 rv3 => ?_))
    obtain ⟨rfl, hS4, _⟩ := rv3
    have hS4 := hS4.unb
    refine pv (r_mb rfl) (?_)
    rcases Bool.eq_false_or_eq_true y3 with hb2 | hb2
    · have hm := ctrue hb2 hm
      refine gT (d0 := 16) rfl rfl hb2 (pv (r_mi rfl) (gT (d0 := 16) rfl rfl hb2 (pv (r_ib rfl rfl rfl) (pv (r_pkt rfl hb2 rfl) (pv (r_mb rfl) (?_))))))
      rcases Bool.eq_false_or_eq_true (y1.2 == 1) with hb3 | hb3
      · have hm := ctrue hb3 hm
        refine gT (d0 := 20) rfl rfl hb3 (pv (r_mt rfl) (gT (d0 := 20) rfl rfl hb3 (pv (r_sqL rfl rfl) (pv (r_pkt rfl hb3 rfl) (pv (r_zb rfl) (nil (t_then ?_)))))))
        have hm := oI hm; subst hm
        exact rtn (r_then (ret1 rfl rfl ⟨_, rfl, _, (iT im1 (iT im2 (iT im3 im4))), ⟨rfl, hS4.sel [0] rfl, trivial⟩⟩))
      have hm := cfalse hb3 hm
      refine gF (d0 := 20) rfl rfl (by rw [hb3]; rfl) (gF (d0 := 20) rfl rfl (by rw [hb3]; rfl) (pv (r_pkf rfl hb3 rfl) (pv (r_zb rfl) (nil (t_then ?_)))))
      have hm := oI hm; subst hm
      exact rtn (r_then (ret1 rfl rfl ⟨_, rfl, _, (iT im1 (iT im2 (iT im3 im4))), ⟨rfl, hS4.sel [0] rfl, trivial⟩⟩))
    have hm := cfalse hb2 hm
    refine gF (d0 := 16) rfl rfl (by rw [hb2]; rfl) (gF (d0 := 16) rfl rfl (by rw [hb2]; rfl) (pv (r_pkf rfl hb2 rfl) (pv (r_mb rfl) (gF (d0 := 20) rfl rfl rfl (gF (d0 := 20) rfl rfl rfl (pv (r_pkf rfl rfl rfl) (pv (r_zb rfl) (nil (t_then ?_)))))))))
    have hm := oI hm; subst hm
    exact rtn (r_then (ret1 rfl rfl ⟨_, rfl, _, (iT im1 (iT im2 (iT im3 im4))), ⟨rfl, hS4.sel [0] rfl, trivial⟩⟩))
  have hm := cfalse hb1 hm
  refine skp (t_then ?_)
  refine sq2 ?_
  obtain ⟨y4, hx4, hm⟩ := bindS hm
  refine rg (pv (r_mt rfl) (wl rfl (calS cf10 rfl (listing_Read_sim (p0 := y1.1) (hS3.bun [0, 1] [] rfl) (hG0.mono (iT im1 (iT im2 im3))) (hG1.mono (iT im1 (iT im2 im3))) (hG2.mono (iT im1 (iT im2 im3))) (hG3.mono (iT im1 (iT im2 im3))) hx4) rfl fun v4 T4 w5 im5 rv4 => ?_)))
  obtain ⟨rfl, hS5, _⟩ := rv4
  have hS5 := hS5.unb
  refine pv (r_mv rfl) (pv (r_ex (v := .agg (cGInst y4.1).toArray) rfl rfl) (pv (r_ex (v := iv y4.2) rfl rfl) (wl rfl (alS (zs := [iv 0, iv 0, iv 0, iv 0, iv 0]) zeroValue23 rfl hS5 fun w6 b2 im6 hS6 => ?_))))
  refine wl rfl (st0B (q := 0) hS6 ⟨rfl, rfl⟩ rfl rfl rfl sizeOf23 rfl rfl rfl fun w7 im7 hS7 => ?_)
  refine pv (r_zi rfl) (nil (t_then ?_))
  refine sq2 ?_
  obtain ⟨y5, hx5, hm⟩ := bindS hm
  refine rg (wl rfl (calS cf9 rfl (law06_awake_sim  (hS7.bun [0, 1, 2] [] rfl) (hG0.mono (iT im1 (iT im2 (iT im3 (iT im5 (iT im6 im7)))))) (hG1.mono (iT im1 (iT im2 (iT im3 (iT im5 (iT im6 im7)))))) (hG2.mono (iT im1 (iT im2 (iT im3 (iT im5 (iT im6 im7)))))) (hG3.mono (iT im1 (iT im2 (iT im3 (iT im5 (iT im6 im7)))))) (hG7.mono (iT im1 (iT im2 (iT im3 (iT im5 (iT im6 im7)))))) hx5) rfl fun v5 T5 w8 im8 rv5 => ?_))
  obtain ⟨rfl, hS8, _⟩ := rv5
  have hS8 := hS8.unb
  refine pv (r_mb rfl) (?_)
  rcases Bool.eq_false_or_eq_true y5 with hb4 | hb4
  · have hm := ctrue hb4 hm
    refine gT (d0 := 30) rfl rfl hb4 (pv (r_mi rfl) (gT (d0 := 30) rfl rfl hb4 (pv (r_ib rfl rfl rfl) (pv (r_pkt rfl hb4 rfl) (pv (r_mb rfl) (?_))))))
    rcases Bool.eq_false_or_eq_true (y1.2 == 0) with hb5 | hb5
    · have hm := ctrue hb5 hm
      obtain ⟨y6, hx6, hm⟩ := bindS hm
      refine gT (d0 := 34) rfl rfl hb5 (pv (r_mt rfl) (gT (d0 := 34) rfl rfl hb5 (pv (r_ldS rfl isAgg23 sizeOf23 rfl (hS8.cells0 (i := 1) ⟨rfl, rfl⟩ (o := 0) rfl) (cs := (cGInst p0))) (gT (d0 := 34) rfl rfl hb5 (wl rfl (calS cf11 rfl (ref06_Line_sim (p0 := p0) (hS8.bun [0, 1, 2] [] rfl)  hx6) rfl fun v6 T6 w9 im9 rv6 => ?_))))))
      obtain ⟨rfl, hS9, _⟩ := rv6
      have hS9 := hS9.unb
      refine gT (d0 := 34) rfl rfl hb5 (pv (r_sqL rfl rfl) (pv (r_pkt rfl hb5 rfl) (pv (r_mb rfl) (?_))))
      rcases Bool.eq_false_or_eq_true (decide (y1.1 = y6)) with hb6 | hb6
      · have hm := ctrue hb6 hm
        refine gT (d0 := 40) rfl rfl hb6 (pv (r_mi rfl) (gT (d0 := 40) rfl rfl hb6 (pv (r_ib rfl rfl rfl) (pv (r_pkt rfl hb6 rfl) (pv (r_mb rfl) (?_))))))
        rcases Bool.eq_false_or_eq_true (y4.2 == 0) with hb7 | hb7
        · have hm := ctrue hb7 hm
          refine gT (d0 := 44) rfl rfl hb7 (pv (r_ldS rfl isAgg23 sizeOf23 rfl (hS9.cells0 (i := 0) ⟨rfl, rfl⟩ (o := 0) rfl) (cs := (cGInst y4.1))) (gT (d0 := 44) rfl rfl hb7 (pv (r_ldS rfl isAgg23 sizeOf23 rfl (hS9.cells0 (i := 1) ⟨rfl, rfl⟩ (o := 0) rfl) (cs := (cGInst p0))) (gT (d0 := 44) rfl rfl hb7 (pv (r_seqe rfl rfl (eq_23 y4.1.Op y4.1.Rd y4.1.Rs1 y4.1.Rs2 y4.1.Imm p0.Op p0.Rd p0.Rs1 p0.Rs2 p0.Imm)) (pv (r_pkt rfl hb7 rfl) (pv (r_zb rfl) (nil (t_thenR [(2, .bool ((y4.1.Op == p0.Op) && (y4.1.Rd == p0.Rd) && (y4.1.Rs1 == p0.Rs1) && (y4.1.Rs2 == p0.Rs2) && (y4.1.Imm == p0.Imm)))] ⟨rfl, trivial⟩ fun J => ?_)))))))))
          have hm := oI hm; subst hm
          exact rtn (ret1 rfl rfl ⟨_, rfl, _, (iT im1 (iT im2 (iT im3 (iT im5 (iT im6 (iT im7 (iT im8 im9))))))), ⟨rfl, hS9.sel [2] rfl, trivial⟩⟩)
        have hm := cfalse hb7 hm
        refine gF (d0 := 44) rfl rfl (by rw [hb7]; rfl) (gF (d0 := 44) rfl rfl (by rw [hb7]; rfl) (gF (d0 := 44) rfl rfl (by rw [hb7]; rfl) (pv (r_pkf rfl hb7 rfl) (pv (r_zb rfl) (nil (t_thenR [(2, .bool false)] ⟨rfl, trivial⟩ fun J => ?_))))))
        have hm := oI hm; subst hm
        exact rtn (ret1 rfl rfl ⟨_, rfl, _, (iT im1 (iT im2 (iT im3 (iT im5 (iT im6 (iT im7 (iT im8 im9))))))), ⟨rfl, hS9.sel [2] rfl, trivial⟩⟩)
      have hm := cfalse hb6 hm
      refine gF (d0 := 40) rfl rfl (by rw [hb6]; rfl) (gF (d0 := 40) rfl rfl (by rw [hb6]; rfl) (pv (r_pkf rfl hb6 rfl) (pv (r_mb rfl) (gF (d0 := 44) rfl rfl rfl (gF (d0 := 44) rfl rfl rfl (gF (d0 := 44) rfl rfl rfl (pv (r_pkf rfl rfl rfl) (pv (r_zb rfl) (nil (t_thenR [(2, .bool false)] ⟨rfl, trivial⟩ fun J => ?_))))))))))
      have hm := oI hm; subst hm
      exact rtn (ret1 rfl rfl ⟨_, rfl, _, (iT im1 (iT im2 (iT im3 (iT im5 (iT im6 (iT im7 (iT im8 im9))))))), ⟨rfl, hS9.sel [2] rfl, trivial⟩⟩)
    have hm := cfalse hb5 hm
    refine gF (d0 := 34) rfl rfl (by rw [hb5]; rfl) (gF (d0 := 34) rfl rfl (by rw [hb5]; rfl) (gF (d0 := 34) rfl rfl (by rw [hb5]; rfl) (gF (d0 := 34) rfl rfl (by rw [hb5]; rfl) (pv (r_pkf rfl hb5 rfl) (pv (r_mb rfl) (gF (d0 := 40) rfl rfl rfl (gF (d0 := 40) rfl rfl rfl (pv (r_pkf rfl rfl rfl) (pv (r_mb rfl) (gF (d0 := 44) rfl rfl rfl (gF (d0 := 44) rfl rfl rfl (gF (d0 := 44) rfl rfl rfl (pv (r_pkf rfl rfl rfl) (pv (r_zb rfl) (nil (t_thenR [(2, .bool false)] ⟨rfl, trivial⟩ fun J => ?_))))))))))))))))
    have hm := oI hm; subst hm
    exact rtn (ret1 rfl rfl ⟨_, rfl, _, (iT im1 (iT im2 (iT im3 (iT im5 (iT im6 (iT im7 im8)))))), ⟨rfl, hS8.sel [2] rfl, trivial⟩⟩)
  have hm := cfalse hb4 hm
  refine gF (d0 := 30) rfl rfl (by rw [hb4]; rfl) (gF (d0 := 30) rfl rfl (by rw [hb4]; rfl) (pv (r_pkf rfl hb4 rfl) (pv (r_mb rfl) (gF (d0 := 34) rfl rfl rfl (gF (d0 := 34) rfl rfl rfl (gF (d0 := 34) rfl rfl rfl (gF (d0 := 34) rfl rfl rfl (pv (r_pkf rfl rfl rfl) (pv (r_mb rfl) (gF (d0 := 40) rfl rfl rfl (gF (d0 := 40) rfl rfl rfl (pv (r_pkf rfl rfl rfl) (pv (r_mb rfl) (gF (d0 := 44) rfl rfl rfl (gF (d0 := 44) rfl rfl rfl (gF (d0 := 44) rfl rfl rfl (pv (r_pkf rfl rfl rfl) (pv (r_zb rfl) (nil (t_thenR [(2, .bool false)] ⟨rfl, trivial⟩ fun J => ?_))))))))))))))))))))
  have hm := oI hm; subst hm
  exact rtn (ret1 rfl rfl ⟨_, rfl, _, (iT im1 (iT im2 (iT im3 (iT im5 (iT im6 (iT im7 im8)))))), ⟨rfl, hS8.sel [2] rfl, trivial⟩⟩)

theorem strings_SplitAfter_sim {p0 : List UInt8} {p1 : List UInt8} {r : (List (List UInt8))} (hS : Sep g T0 w0 [R]) (hG0 : Gi T0 w0 0) (hm : strings_SplitAfter p0 p1 = some r) :
    Calls Tryz.prog 40 #[.string ⟨p0.toArray⟩, .string ⟨p1.toArray⟩] w0 (RetS T0 w0 fun T w v => ∃ (a2 : OA) (c2 : Nat), v = sv a2 r c2 ∧ Sep g T w [R] ∧ SlR rStr T w (sv a2 r c2) r ∧ True) := by
  refine enter (args := [.string ⟨p0.toArray⟩, .string ⟨p1.toArray⟩]) Tryz.func40 rfl Tryz.ntmps40 rfl fun J => ?_
  unfold strings_SplitAfter at hm
  refine sq2 (rg (pv (r_zs rfl) (nil (t_then ?_))))
  refine sq2 ?_
  obtain ⟨y1, hx1, hm⟩ := bindS hm
  refine rg (pv (r_mt rfl) (pv (r_mt rfl) (pv (r_mt rfl) (pv (r_lnt rfl underlying9) (wl rfl (calS cf52 rfl (strings_genSplit_sim (p0 := p0) (p1 := p1) (p2 := (List.length p1 : Int)) (p3 := (-1)) (hS.bun [0] [] rfl) hG0 hx1) rfl fun v1 T1 w1 im1 rv1 => ?_))))))
  obtain ⟨a1, c1, rfl, hS1, h1, _⟩ := rv1
  have hS1 := hS1.unb
  refine pv (r_zs rfl) (nil (t_then ?_))
  have hm := oI hm; subst hm
  exact rtn (ret1 rfl rfl ⟨_, rfl, _, im1, ⟨_, _, rfl, hS1.sel [0] rfl, h1, trivial⟩⟩)

theorem inst_number_sim {p0 : Int} {p1 : Int} {r : Int} (hS : Sep g T0 w0 [R])  (hm : inst_number p0 p1 = some r) :
    Calls Tryz.prog 82 #[.int .u8 p0, .int .u32 p1] w0 (RetS T0 w0 fun T w v => v = .int .u32 r ∧ Sep g T w [R] ∧ True) := by
  refine enter (args := [.int .u8 p0, .int .u32 p1]) Tryz.func82 rfl Tryz.ntmps82 rfl fun J => ?_
  unfold inst_number at hm
  refine sq2 (rg (pv (r_zi rfl) (nil (t_then ?_))))
  refine sq2 (sq2 (rg (pv (r_mi rfl) (nil (t_then ?_)))))
  refine blk (sq2 (rg (pv (r_ib rfl rfl rfl) (pv (r_zb rfl) (nil (t_then ?_))))))
  refine cnd rfl (fun hb1 => ?_) (fun hb1 => ?_)
  · have hm := ctrue hb1 hm
    refine sq2 (rg (pv (r_mi rfl) (pv (r_zi rfl) (nil (t_then ?_)))))
    have hm := oI hm; subst hm
    exact rtn (r_blk (r_then (ret1 rfl rfl ⟨_, rfl, _, Im.refl, ⟨rfl, hS.sel [0] rfl, trivial⟩⟩)))
  have hm := cfalse hb1 hm
  refine sq2 (rg (pv (r_ib rfl rfl rfl) (pv (r_zb rfl) (nil (t_then ?_)))))
  refine cnd rfl (fun hb2 => ?_) (fun hb2 => ?_)
  · have hm := ctrue hb2 hm
    refine sq2 ?_
    obtain ⟨y1, hx1, hm⟩ := bindS hm
    refine rg (pv (r_mi rfl) (wl rfl (calS cf60 rfl (inst_bits_sim (p0 := p1) (p1 := 20) (p2 := 1) (hS.bun [0] [] rfl)  hx1) rfl fun v1 T1 w1 im1 rv1 => ?_)))
    obtain ⟨rfl, hS1, _⟩ := rv1
    have hS1 := hS1.unb
    obtain ⟨y2, hx2, hm⟩ := bindS hm
    refine pv (r_ishl rfl rfl (by decide)) (pv (r_mi rfl) (wl rfl (calS cf60 rfl (inst_bits_sim (p0 := p1) (p1 := 1) (p2 := 10) (hS1.bun [0] [] rfl)  hx2) rfl fun v2 T2 w2 im2 rv2 => ?_)))
    obtain ⟨rfl, hS2, _⟩ := rv2
    have hS2 := hS2.unb
    obtain ⟨y3, hx3, hm⟩ := bindS hm
    refine pv (r_ishl rfl rfl (by decide)) (pv (r_ib rfl rfl rfl) (pv (r_mi rfl) (wl rfl (calS cf60 rfl (inst_bits_sim (p0 := p1) (p1 := 11) (p2 := 1) (hS2.bun [0] [] rfl)  hx3) rfl fun v3 T3 w3 im3 rv3 => ?_))))
    obtain ⟨rfl, hS3, _⟩ := rv3
    have hS3 := hS3.unb
    obtain ⟨y4, hx4, hm⟩ := bindS hm
    refine pv (r_ishl rfl rfl (by decide)) (pv (r_ib rfl rfl rfl) (pv (r_mi rfl) (wl rfl (calS cf60 rfl (inst_bits_sim (p0 := p1) (p1 := 12) (p2 := 8) (hS3.bun [0] [] rfl)  hx4) rfl fun v4 T4 w4 im4 rv4 => ?_))))
    obtain ⟨rfl, hS4, _⟩ := rv4
    have hS4 := hS4.unb
    refine pv (r_ishl rfl rfl (by decide)) (pv (r_ib rfl rfl rfl) (pv (r_zi rfl) (nil (t_then ?_))))
    have hm := oI hm; subst hm
    exact rtn (r_blk (r_then (ret1 rfl rfl ⟨_, rfl, _, (iT im1 (iT im2 (iT im3 im4))), ⟨rfl, hS4.sel [0] rfl, trivial⟩⟩)))
  have hm := cfalse hb2 hm
  obtain ⟨kk1, hkk1, hm⟩ := jn_open hm
  refine cut (fun a w5 => ∃ (J : JV) (T5 : TP) (x1 : Bool), a = env (nf 57) J [(1, .int .u32 p1), (5, .int .u8 p0), (26, .bool x1)] ∧ Im T0 w0 T5 w5 ∧ Sep g T5 w5 [R] ∧ kk1 x1 = some r) ?_ ?_
  · refine sq2 (rg (pv (r_ib rfl rfl rfl) (pv (r_zb rfl) (nil (t_then ?_)))))
    refine cnd rfl (fun hb3 => ?_) (fun hb3 => ?_)
    · have hm := ctrue hb3 hm
      exact skp (t_then ⟨_, _, (p0 == 73), env_has ⟨rfl, rfl, rfl, trivial⟩, Im.refl, hS.sel [0] rfl, hm⟩)
    have hm := cfalse hb3 hm
    exact rg (pv (r_ib rfl rfl rfl) (pv (r_zb rfl) (nil (t_then ⟨_, _, (p0 == 72), env_has ⟨rfl, rfl, rfl, trivial⟩, Im.refl, hS.sel [0] rfl, hm⟩))))
  rintro _ w5 ⟨J, T5, x1, rfl, im5, hS5, hm⟩
  rw [hkk1] at hm
  refine cnd rfl (fun hb4 => ?_) (fun hb4 => ?_)
  · have hm := ctrue hb4 hm
    refine sq2 (rg (pv (r_mi rfl) (pv (r_ishl rfl rfl (by decide)) (pv (r_zi rfl) (nil (t_then ?_))))))
    have hm := oI hm; subst hm
    exact rtn (r_blk (r_then (ret1 rfl rfl ⟨_, rfl, _, im5, ⟨rfl, hS5.sel [0] rfl, trivial⟩⟩)))
  have hm := cfalse hb4 hm
  refine sq2 (rg (pv (r_ib rfl rfl rfl) (pv (r_zb rfl) (nil (t_then ?_)))))
  refine cnd rfl (fun hb5 => ?_) (fun hb5 => ?_)
  · have hm := ctrue hb5 hm
    refine sq2 ?_
    obtain ⟨y5, hx5, hm⟩ := bindS hm
    refine rg (pv (r_mi rfl) (wl rfl (calS cf60 rfl (inst_bits_sim (p0 := p1) (p1 := 5) (p2 := 7) (hS5.bun [0] [] rfl)  hx5) rfl fun v5 T6 w6 im6 rv5 => ?_)))
    obtain ⟨rfl, hS6, _⟩ := rv5
    have hS6 := hS6.unb
    obtain ⟨y6, hx6, hm⟩ := bindS hm
    refine pv (r_ishl rfl rfl (by decide)) (pv (r_mi rfl) (wl rfl (calS cf60 rfl (inst_bits_sim (p0 := p1) (p1 := 0) (p2 := 5) (hS6.bun [0] [] rfl)  hx6) rfl fun v6 T7 w7 im7 rv6 => ?_)))
    obtain ⟨rfl, hS7, _⟩ := rv6
    have hS7 := hS7.unb
    refine pv (r_ishl rfl rfl (by decide)) (pv (r_ib rfl rfl rfl) (pv (r_zi rfl) (nil (t_then ?_))))
    have hm := oI hm; subst hm
    exact rtn (r_blk (r_then (ret1 rfl rfl ⟨_, rfl, _, (iT im5 (iT im6 im7)), ⟨rfl, hS7.sel [0] rfl, trivial⟩⟩)))
  have hm := cfalse hb5 hm
  refine sq2 (rg (pv (r_ib rfl rfl rfl) (pv (r_zb rfl) (nil (t_then ?_)))))
  refine cnd rfl (fun hb6 => ?_) (fun hb6 => ?_)
  · have hm := ctrue hb6 hm
    refine sq2 ?_
    obtain ⟨y7, hx7, hm⟩ := bindS hm
    refine rg (pv (r_mi rfl) (wl rfl (calS cf60 rfl (inst_bits_sim (p0 := p1) (p1 := 12) (p2 := 1) (hS5.bun [0] [] rfl)  hx7) rfl fun v7 T8 w8 im8 rv7 => ?_)))
    obtain ⟨rfl, hS8, _⟩ := rv7
    have hS8 := hS8.unb
    obtain ⟨y8, hx8, hm⟩ := bindS hm
    refine pv (r_ishl rfl rfl (by decide)) (pv (r_mi rfl) (wl rfl (calS cf60 rfl (inst_bits_sim (p0 := p1) (p1 := 5) (p2 := 6) (hS8.bun [0] [] rfl)  hx8) rfl fun v8 T9 w9 im9 rv8 => ?_)))
    obtain ⟨rfl, hS9, _⟩ := rv8
    have hS9 := hS9.unb
    obtain ⟨y9, hx9, hm⟩ := bindS hm
    refine pv (r_ishl rfl rfl (by decide)) (pv (r_ib rfl rfl rfl) (pv (r_mi rfl) (wl rfl (calS cf60 rfl (inst_bits_sim (p0 := p1) (p1 := 1) (p2 := 4) (hS9.bun [0] [] rfl)  hx9) rfl fun v9 T10 w10 im10 rv9 => ?_))))
    obtain ⟨rfl, hS10, _⟩ := rv9
    have hS10 := hS10.unb
    obtain ⟨y10, hx10, hm⟩ := bindS hm
    refine pv (r_ishl rfl rfl (by decide)) (pv (r_ib rfl rfl rfl) (pv (r_mi rfl) (wl rfl (calS cf60 rfl (inst_bits_sim (p0 := p1) (p1 := 11) (p2 := 1) (hS10.bun [0] [] rfl)  hx10) rfl fun v10 T11 w11 im11 rv10 => ?_))))
    obtain ⟨rfl, hS11, _⟩ := rv10
    have hS11 := hS11.unb
    refine pv (r_ishl rfl rfl (by decide)) (pv (r_ib rfl rfl rfl) (pv (r_zi rfl) (nil (t_then ?_))))
    have hm := oI hm; subst hm
    exact rtn (r_blk (r_then (ret1 rfl rfl ⟨_, rfl, _, (iT im5 (iT im8 (iT im9 (iT im10 im11)))), ⟨rfl, hS11.sel [0] rfl, trivial⟩⟩)))
  have hm := cfalse hb6 hm
  refine skp (t_blk (t_then ?_))
  refine sq2 (rg (pv (r_zi rfl) (nil (t_then ?_))))
  have hm := oI hm; subst hm
  exact rtn (ret1 rfl rfl ⟨_, rfl, _, im5, ⟨rfl, hS5.sel [0] rfl, trivial⟩⟩)

theorem inst_Encode_sim {p0 : GInst} {r : Int × Int} (hS : Sep g T0 w0 [R])  (hm : inst_Encode p0 = some r) :
    Calls Tryz.prog 63 #[.agg (cGInst p0).toArray] w0 (RetS T0 w0 fun T w v => v = .tuple #[.int .u32 r.1, iv r.2] ∧ Sep g T w [R] ∧ True) := by
  refine enter (args := [.agg (cGInst p0).toArray]) Tryz.func63 rfl Tryz.ntmps63 rfl fun J => ?_
  unfold inst_Encode at hm
  refine sq2 (rg (wl rfl (bxS (cs := (cGInst p0)) rfl rfl hS fun w1 b1 im1 hS1 => ?_)))
  refine pv (r_zi rfl) (pv (r_zi rfl) (nil (t_then ?_)))
  refine sq2 (sq2 ?_)
  obtain ⟨y1, hx1, hm⟩ := bindS hm
  refine rg (pv (r_ldS rfl isAgg23 sizeOf23 rfl (hS1.cells0 (i := 0) ⟨rfl, rfl⟩ (o := 0) rfl) (cs := (cGInst p0))) (wl rfl (calS cf15 rfl (inst_Right_sim (p0 := p0) (hS1.bun [0, 1] [] rfl)  hx1) rfl fun v1 T1 w2 im2 rv1 => ?_)))
  obtain ⟨rfl, hS2, _⟩ := rv1
  have hS2 := hS2.unb
  refine pv (r_nt rfl) (nil (t_then ?_))
  refine cnd rfl (fun hb1 => ?_) (fun hb1 => ?_)
  · have hm := ctrue hb1 hm
    refine sq2 (rg (pv (r_zi rfl) (pv (r_zi rfl) (nil (t_then ?_)))))
    have hm := oI hm; subst hm
    exact rtn (r_then (retN (vs := [.int .u32 0, iv 1]) rfl ⟨rfl, rfl, trivial⟩ rfl ⟨_, rfl, _, (iT im1 im2), ⟨rfl, hS2.sel [1] rfl, trivial⟩⟩))
  have hm := cfalse hb1 hm
  refine skp (t_then ?_)
  refine sq2 ?_
  obtain ⟨y2, hx2, hm⟩ := bindS hm
  refine rg (pv (r_fa rfl underlying23 rfl sizeOf3 rfl) (pv (r_ld rfl isAgg3 (hS2.cell0 (i := 0) ⟨rfl, rfl⟩ (j := 0) rfl)) (wl rfl (calS cf48 rfl (inst_of_sim (p0 := p0.Op) (hS2.bun [0, 1] [] rfl)  hx2) rfl fun v2 T2 w3 im3 rv2 => ?_))))
  obtain ⟨rfl, hS3, _⟩ := rv2
  have hS3 := hS3.unb
  refine wl rfl (alS (zs := [.string ⟨([] : List UInt8).toArray⟩, .int .u8 0, .int .u32 0, .int .u32 0, .int .u32 0]) zeroValue75 rfl hS3 fun w4 b2 im4 hS4 => ?_)
  refine wl rfl (st0B (q := 0) hS4 ⟨rfl, rfl⟩ rfl rfl rfl sizeOf75 rfl rfl rfl fun w5 im5 hS5 => ?_)
  refine nil (t_then ?_)
  refine sq2 (rg (pv (r_fa rfl underlying75 rfl sizeOf39 rfl) (pv (r_ld rfl isAgg39 (hS5.cell0 (i := 0) ⟨rfl, rfl⟩ (j := 2) rfl)) (pv (r_fa rfl underlying75 rfl sizeOf39 rfl) (pv (r_ld rfl isAgg39 (hS5.cell0 (i := 0) ⟨rfl, rfl⟩ (j := 3) rfl)) (pv (r_ishl rfl rfl (by decide)) (pv (r_ib rfl rfl rfl) (pv (r_fa rfl underlying75 rfl sizeOf39 rfl) (pv (r_ld rfl isAgg39 (hS5.cell0 (i := 0) ⟨rfl, rfl⟩ (j := 4) rfl)) (pv (r_ishl rfl rfl (by decide)) (pv (r_ib rfl rfl rfl) (pv (r_zi rfl) (nil (t_then ?_))))))))))))))
  refine sq2 (rg (pv (r_mi rfl) (pv (r_fa rfl underlying23 rfl sizeOf3 rfl) (pv (r_ld rfl isAgg3 (hS5.cell0 (i := 1) ⟨rfl, rfl⟩ (j := 1) rfl)) (pv (r_cv rfl underlying3 underlying39) (pv (r_ishl rfl rfl (by decide)) (pv (r_fa rfl underlying23 rfl sizeOf3 rfl) (pv (r_ld rfl isAgg3 (hS5.cell0 (i := 1) ⟨rfl, rfl⟩ (j := 2) rfl)) (pv (r_cv rfl underlying3 underlying39) (pv (r_ishl rfl rfl (by decide)) (pv (r_ib rfl rfl rfl) (pv (r_fa rfl underlying23 rfl sizeOf3 rfl) (pv (r_ld rfl isAgg3 (hS5.cell0 (i := 1) ⟨rfl, rfl⟩ (j := 3) rfl)) (pv (r_cv rfl underlying3 underlying39) (pv (r_ishl rfl rfl (by decide)) (pv (r_ib rfl rfl rfl) (pv (r_ib rfl rfl rfl) (pv (r_zi rfl) (nil (t_thenR [(1, pt b1 0), (4, pt b2 0), (5, .int .u32 (bits .or .u32 (bits .or .u32 (bits .or .u32 y2.code (IntKind.wrap .u32 (y2.third * 2 ^ (min (Int.toNat 12) (IntKind.bits .u32))))) (IntKind.wrap .u32 (y2.seventh * 2 ^ (min (Int.toNat 25) (IntKind.bits .u32))))) (bits .or .u32 (bits .or .u32 (IntKind.wrap .u32 ((IntKind.wrap .u32 p0.Rd) * 2 ^ (min (Int.toNat 7) (IntKind.bits .u32)))) (IntKind.wrap .u32 ((IntKind.wrap .u32 p0.Rs1) * 2 ^ (min (Int.toNat 15) (IntKind.bits .u32))))) (IntKind.wrap .u32 ((IntKind.wrap .u32 p0.Rs2) * 2 ^ (min (Int.toNat 20) (IntKind.bits .u32)))))))] ⟨rfl, rfl, rfl, trivial⟩ fun J => ?_))))))))))))))))))))
  refine sq2 ?_
  obtain ⟨y3, hx3, hm⟩ := bindS hm
  refine rg (pv (r_mi rfl) (pv (r_fa rfl underlying75 rfl sizeOf5 rfl) (pv (r_ld rfl isAgg5 (hS5.cell0 (i := 0) ⟨rfl, rfl⟩ (j := 1) rfl)) (pv (r_fa rfl underlying23 rfl sizeOf3 rfl) (pv (r_ld rfl isAgg3 (hS5.cell0 (i := 1) ⟨rfl, rfl⟩ (j := 4) rfl)) (pv (r_cv rfl underlying3 underlying39) (wl rfl (calS cf82 rfl (inst_number_sim (p0 := y2.form) (p1 := IntKind.wrap .u32 p0.Imm) (hS5.bun [2] [] rfl)  hx3) rfl fun v3 T3 w6 im6 rv3 => ?_))))))))
  obtain ⟨rfl, hS6, _⟩ := rv3
  have hS6 := hS6.unb
  refine pv (r_ib rfl rfl rfl) (pv (r_zi rfl) (pv (r_zi rfl) (nil (t_then ?_))))
  have hm := oI hm; subst hm
  exact rtn (retN (vs := [.int .u32 (bits .or .u32 (bits .or .u32 (bits .or .u32 (bits .or .u32 y2.code (IntKind.wrap .u32 (y2.third * 2 ^ (min (Int.toNat 12) (IntKind.bits .u32))))) (IntKind.wrap .u32 (y2.seventh * 2 ^ (min (Int.toNat 25) (IntKind.bits .u32))))) (bits .or .u32 (bits .or .u32 (IntKind.wrap .u32 ((IntKind.wrap .u32 p0.Rd) * 2 ^ (min (Int.toNat 7) (IntKind.bits .u32)))) (IntKind.wrap .u32 ((IntKind.wrap .u32 p0.Rs1) * 2 ^ (min (Int.toNat 15) (IntKind.bits .u32))))) (IntKind.wrap .u32 ((IntKind.wrap .u32 p0.Rs2) * 2 ^ (min (Int.toNat 20) (IntKind.bits .u32)))))) y3), iv 0]) rfl ⟨rfl, rfl, trivial⟩ rfl ⟨_, rfl, _, (iT im1 (iT im2 (iT im3 (iT im4 (iT im5 im6))))), ⟨rfl, hS6.sel [0] rfl, trivial⟩⟩)

theorem listing_word_sim {p0 : List UInt8} {r : Int} (hS : Sep g T0 w0 [R]) (hG0 : Gi T0 w0 0) (hG1 : Gc T0 w0 1 (Lib.pow10Tab.map fun z => Value.int .u64 z)) (hG2 : Ge T0 w0 2) (hG3 : Ge T0 w0 3) (hm : listing_word p0 = some r) :
    Calls Tryz.prog 41 #[.string ⟨p0.toArray⟩] w0 (RetS T0 w0 fun T w v => v = .int .u32 r ∧ Sep g T w [R] ∧ True) := by
  refine enter (args := [.string ⟨p0.toArray⟩]) Tryz.func41 rfl Tryz.ntmps41 rfl fun J => ?_
  unfold listing_word at hm
  refine sq2 (rg (pv (r_zi rfl) (nil (t_then ?_))))
  refine sq2 (sq2 ?_)
  obtain ⟨y1, hx1, hm⟩ := bindS hm
  refine rg (pv (r_mt rfl) (wl rfl (calS cf61 rfl (strings_CutPrefix_sim (p0 := p0) (p1 := ([46, 119, 111, 114, 100, 32, 48, 120] : List UInt8)) (hS.bun [0] [] rfl)  hx1) rfl fun v1 T1 w1 im1 rv1 => ?_)))
  obtain ⟨rfl, hS1, _⟩ := rv1
  have hS1 := hS1.unb
  refine pv (r_mv rfl) (pv (r_ex (v := .string ⟨y1.1.toArray⟩) rfl rfl) (pv (r_ex (v := .bool y1.2) rfl rfl) (pv (r_zt rfl) (pv (r_zb rfl) (nil (t_then ?_))))))
  refine sq2 (rg (pv (r_mb rfl) (nil (t_then ?_))))
  refine cnd rfl (fun hb1 => ?_) (fun hb1 => ?_)
  · have hm := ctrue hb1 hm
    refine sq2 ?_
    obtain ⟨y2, hx2, hm⟩ := bindS hm
    refine rg (pv (r_mt rfl) (wl rfl (calS cf62 rfl (strconv_ParseUint_sim (p0 := y1.1) (p1 := 16) (p2 := 32) (hS1.bun [0] [] rfl) (hG2.mono im1) (hG3.mono im1) hx2) rfl fun v2 T2 w2 im2 rv2 => ?_)))
    obtain ⟨ev1, rfl, hS2, h1, _⟩ := rv2
    have hS2 := hS2.unb
    refine pv (r_mv rfl) (pv (r_ex (v := .int .u64 y2.1) rfl rfl) (pv (r_ex (v := ev1) rfl rfl) (pv (r_zi rfl) (pv (r_zx (v := ev1) rfl) (nil (t_then ?_))))))
    refine sq2 (sq2 (rg (pv (r_mx (v := ev1) rfl) (pv (r_ern rfl rfl h1 underlying62) (nil (t_then ?_))))))
    refine cnd rfl (fun hb2 => ?_) (fun hb2 => ?_)
    · have hm := ctrue hb2 hm
      refine sq2 (rg (pv (r_zi rfl) (nil (t_then ?_))))
      have hm := oI hm; subst hm
      exact rtn (r_then (r_then (ret1 rfl rfl ⟨_, rfl, _, (iT im1 im2), ⟨rfl, hS2.sel [0] rfl, trivial⟩⟩)))
    have hm := cfalse hb2 hm
    refine skp (t_then ?_)
    refine sq2 (rg (pv (r_mi rfl) (pv (r_cv rfl underlying80 underlying39) (pv (r_zi rfl) (nil (t_then ?_))))))
    have hm := oI hm; subst hm
    exact rtn (r_then (ret1 rfl rfl ⟨_, rfl, _, (iT im1 im2), ⟨rfl, hS2.sel [0] rfl, trivial⟩⟩))
  have hm := cfalse hb1 hm
  refine skp (t_then ?_)
  refine sq2 ?_
  obtain ⟨y3, hx3, hm⟩ := bindS hm
  refine rg (pv (r_mt rfl) (wl rfl (calS cf10 rfl (listing_Read_sim (p0 := p0) (hS1.bun [0] [] rfl) (hG0.mono im1) (hG1.mono im1) (hG2.mono im1) (hG3.mono im1) hx3) rfl fun v3 T3 w3 im3 rv3 => ?_)))
  obtain ⟨rfl, hS3, _⟩ := rv3
  have hS3 := hS3.unb
  refine pv (r_mv rfl) (pv (r_ex (v := .agg (cGInst y3.1).toArray) rfl rfl) (pv (r_ex (v := iv y3.2) rfl rfl) (wl rfl (alS (zs := [iv 0, iv 0, iv 0, iv 0, iv 0]) zeroValue23 rfl hS3 fun w4 b1 im4 hS4 => ?_))))
  refine wl rfl (st0B (q := 0) hS4 ⟨rfl, rfl⟩ rfl rfl rfl sizeOf23 rfl rfl rfl fun w5 im5 hS5 => ?_)
  refine pv (r_zi rfl) (nil (t_then ?_))
  refine sq2 ?_
  obtain ⟨y4, hx4, hm⟩ := bindS hm
  refine rg (pv (r_ldS rfl isAgg23 sizeOf23 rfl (hS5.cells0 (i := 0) ⟨rfl, rfl⟩ (o := 0) rfl) (cs := (cGInst y3.1))) (wl rfl (calS cf63 rfl (inst_Encode_sim (p0 := y3.1) (hS5.bun [1] [] rfl)  hx4) rfl fun v4 T4 w6 im6 rv4 => ?_)))
  obtain ⟨rfl, hS6, _⟩ := rv4
  have hS6 := hS6.unb
  refine pv (r_mv rfl) (pv (r_ex (v := .int .u32 y4.1) rfl rfl) (pv (r_ex (v := iv y4.2) rfl rfl) (pv (r_zi rfl) (pv (r_zi rfl) (nil (t_then ?_))))))
  refine sq2 (rg (pv (r_mi rfl) (pv (r_zi rfl) (nil (t_thenR [(2, .int .u32 y4.1)] ⟨rfl, trivial⟩ fun J => ?_)))))
  have hm := oI hm; subst hm
  exact rtn (ret1 rfl rfl ⟨_, rfl, _, (iT im1 (iT im3 (iT im4 (iT im5 im6)))), ⟨rfl, hS6.sel [0] rfl, trivial⟩⟩)

theorem listing_Words_sim {p0 : List UInt8} {r : (List Int) × Int} (hS : Sep g T0 w0 [R]) (hG0 : Gi T0 w0 0) (hG1 : Gc T0 w0 1 (Lib.pow10Tab.map fun z => Value.int .u64 z)) (hG2 : Ge T0 w0 2) (hG3 : Ge T0 w0 3) (hG7 : Gc T0 w0 7 (Lib.deBruijn64tab.map fun (z : Nat) => Value.int .u8 (z : Int))) (hm : listing_Words p0 = some r) :
    Calls Tryz.prog 13 #[.string ⟨p0.toArray⟩] w0 (RetS T0 w0 fun T w v => ∃ (a6 : OA) (c6 : Nat), v = .tuple #[sv a6 r.1 c6, iv r.2] ∧ Sep g T w [R] ∧ SlR (rInt .u32) T w (sv a6 r.1 c6) r.1 ∧ True) := by
  refine enter (args := [.string ⟨p0.toArray⟩]) Tryz.func13 rfl Tryz.ntmps13 rfl fun J => ?_
  unfold listing_Words at hm
  refine sq2 (rg (pv (r_zs rfl) (pv (r_zi rfl) (nil (t_then ?_)))))
  refine sq2 (sq2 (rg (pv (r_mt rfl) (pv (r_lnt rfl underlying9) (pv (r_ib rfl rfl rfl) (nil (t_then ?_)))))))
  refine cnd rfl (fun hb1 => ?_) (fun hb1 => ?_)
  · have hm := ctrue hb1 hm
    refine sq2 (rg (pv (r_zs rfl) (pv (r_zi rfl) (nil (t_then ?_)))))
    have hm := oI hm; subst hm
    exact rtn (r_then (retN (vs := [.slice none 0 0, iv 2]) rfl ⟨rfl, rfl, trivial⟩ rfl ⟨_, rfl, _, Im.refl, ⟨_, _, rfl, hS.sel [0] rfl, SlR_nil, trivial⟩⟩))
  have hm := cfalse hb1 hm
  refine skp (t_then ?_)
  refine sq2 (rg (pv (r_zs rfl) (nil (t_then ?_))))
  refine sq2 (sq2 ?_)
  obtain ⟨y1, hx1, hm⟩ := bindS hm
  refine rg (pv (r_mt rfl) (wl rfl (calS cf40 rfl (strings_SplitAfter_sim (p0 := p0) (p1 := ([10] : List UInt8)) (hS.bun [0] [] rfl) hG0 hx1) rfl fun v1 T1 w1 im1 rv1 => ?_)))
  obtain ⟨a1, c1, rfl, hS1, h1, _⟩ := rv1
  have hS1 := hS1.unb
  refine pv (r_ln rfl underlying52) (pv (r_mi rfl) (nil (t_then ?_)))
  obtain ⟨o1, ho1, hq1⟩ := bindS hm
  obtain ⟨bd1, hbd1, ho1⟩ := loop_open ho1
  have hS2 := hS1.nilO (rInt .u32) 39
  refine blk (wp_loop_ghost (fun m a w2 => ∃ (J : JV) (T2 : TP) (x1 : List Int) (a2 : OA) (n1 : Nat) (c2 : Nat) (x2 : Int), a = env (nf 50) J [(0, .string ⟨p0.toArray⟩), (4, .slice a2 n1 c2), (13, sv a1 y1 c1), (14, iv (List.length y1 : Int)), (15, iv x2)] ∧ Im T1 w1 T2 w2 ∧ Sep g T2 w2 [ownA (rInt .u32) 39 (.slice a2 n1 c2) x1, R] ∧ loopM bd1 m (x1, x2) = some o1) NN ⟨_, _, [], _, _, _, 0, env_has ⟨rfl, rfl, rfl, rfl, rfl, trivial⟩, Im.refl, hS2.sel [0, 1] rfl, ho1⟩ ?_)
  rintro m _ w2 ⟨J, T2, x1, a2, n1, c2, x2, rfl, im2, hS3, ho1⟩
  obtain ⟨m1, z1, rfl, hm, hn1⟩ := loop_round ho1
  rw [hbd1] at hm
  refine sq2 (rg (pv (r_ib rfl rfl rfl) (nil (t_then ?_))))
  refine sq2 (cnd rfl (fun hb2 => ?_) (fun hb2 => ?_))
  · have hm := ctrue hb2 hm
    refine skp (t_then ?_)
    obtain ⟨kk1, hkk1, hm⟩ := jn_open hm
    refine cut (fun a w3 => ∃ (J : JV) (T3 : TP) (x3 : List Int) (a3 : OA) (n2 : Nat) (c3 : Nat), a = env (nf 50) J [(0, .string ⟨p0.toArray⟩), (4, .slice a3 n2 c3), (13, sv a1 y1 c1), (14, iv (List.length y1 : Int)), (15, iv x2)] ∧ Im T2 w2 T3 w3 ∧ Sep g T3 w3 [ownA (rInt .u32) 39 (.slice a3 n2 c3) x3, R] ∧ kk1 x3 = some z1) ?_ ?_
    · refine blk (sq2 ?_)
      obtain ⟨u1, hx2, hm⟩ := bindS hm
      obtain ⟨b1, of1, cs1, k1, cp1, hv1, hp1, hl1, he1, hr1, hc1, hT1⟩ := (h1.mono im2).ixT hx2 rfl
      cases hr1
      refine rg (pv (r_ixe hv1 rfl underlying52 sizeOf9 hp1 hl1 he1) (pv (r_ld rfl isAgg9 (hc1.get (j := 0) rfl)) (pv (r_zt rfl) (nil (t_then ?_)))))
      refine sq2 (sq2 (rg (pv (r_mt rfl) (pv (r_sqL rfl rfl) (nil (t_then ?_))))))
      refine cnd rfl (fun hb3 => ?_) (fun hb3 => ?_)
      · have hm := ctrue hb3 hm
        exact xt (x_then (x_eq (t_then ⟨_, _, x1, _, _, _, env_has ⟨rfl, rfl, rfl, rfl, rfl, trivial⟩, Im.refl, hS3.sel [0, 1] rfl, hm⟩)))
      have hm := cfalse hb3 hm
      refine skp (t_then ?_)
      refine sq2 (sq2 (rg (pv (r_mt rfl) (pv (r_lnt rfl underlying9) (pv (r_ib rfl rfl rfl) (pv (r_mb rfl) (?_)))))))
      rcases Bool.eq_false_or_eq_true (decide ((List.length u1 : Int) < 10)) with hb4 | hb4
      · have hm := ctrue hb4 hm
        refine gF (d0 := 24) rfl rfl (by rw [hb4]; rfl) (gF (d0 := 24) rfl rfl (by rw [hb4]; rfl) (gF (d0 := 24) rfl rfl (by rw [hb4]; rfl) (pv (r_pkt rfl hb4 rfl) (nil (t_then ?_)))))
        refine cnd (b := true) rfl (fun _ => ?_) (fun h => nomatch h)
        refine sq2 (rg (pv (r_zs rfl) (pv (r_zi rfl) (nil (t_then ?_)))))
        have hm := oI hm; subst hm
        have hn1 : _ = Lp.ret _ := hn1
        subst hn1
        have hm := thn_ret hq1
        have hm := oI hm; subst hm
        exact rtn (r_then (r_blk (r_then (r_then (r_blk (r_then (retN (vs := [.slice none 0 0, iv 3]) rfl ⟨rfl, rfl, trivial⟩ rfl ⟨_, rfl, _, (iT im1 im2), ⟨_, _, rfl, hS3.sel [1] rfl, SlR_nil, trivial⟩⟩)))))))
      have hm := cfalse hb4 hm
      refine gT (d0 := 24) rfl rfl hb4 (pv (r_ms rfl) (gT (d0 := 24) rfl rfl hb4 (pv (r_lnV rfl (hS3.own (i := 0) ⟨rfl, rfl⟩).v underlying34) (gT (d0 := 24) rfl rfl hb4 (pv (r_ib rfl rfl rfl) (pv (r_pkf rfl hb4 rfl) (nil (t_then ?_))))))))
      refine cnd rfl (fun hb5 => ?_) (fun hb5 => ?_)
      · have hm := ctrue hb5 hm
        refine sq2 (rg (pv (r_zs rfl) (pv (r_zi rfl) (nil (t_then ?_)))))
        have hm := oI hm; subst hm
        have hn1 : _ = Lp.ret _ := hn1
        subst hn1
        have hm := thn_ret hq1
        have hm := oI hm; subst hm
        exact rtn (r_then (r_blk (r_then (r_then (r_blk (r_then (retN (vs := [.slice none 0 0, iv 3]) rfl ⟨rfl, rfl, trivial⟩ rfl ⟨_, rfl, _, (iT im1 im2), ⟨_, _, rfl, hS3.sel [1] rfl, SlR_nil, trivial⟩⟩)))))))
      have hm := cfalse hb5 hm
      refine skp (t_then ?_)
      obtain ⟨u2, hx3, hm⟩ := bindS hm
      obtain ⟨y2, hx4, hm⟩ := bindS hm
      refine rg (pv (r_ms rfl) (pv (r_mt rfl) (pv (r_ss rfl ⟨_, rfl⟩ rfl hx3 underlying9) (wl rfl (calS cf42 rfl (strings_TrimSuffix_sim (p0 := u2) (p1 := ([10] : List UInt8)) (hS3.bun [0, 1] [] rfl)  hx4) rfl fun v2 T4 w4 im4 rv2 => ?_)))))
      obtain ⟨rfl, hS4, _⟩ := rv2
      have hS4 := hS4.unb
      obtain ⟨y3, hx5, hm⟩ := bindS hm
      refine wl rfl (calS cf41 rfl (listing_word_sim (p0 := y2) (hS4.bun [0, 1] [] rfl) (hG0.mono (iT im1 (iT im2 im4))) (hG1.mono (iT im1 (iT im2 im4))) (hG2.mono (iT im1 (iT im2 im4))) (hG3.mono (iT im1 (iT im2 im4))) hx5) rfl fun v3 T5 w5 im5 rv3 => ?_)
      obtain ⟨rfl, hS5, _⟩ := rv3
      have hS5 := hS5.unb
      refine wl rfl (bsS (r := (rInt .u32)) (l := ([y3] : List Int)) (css := [[.int .u32 y3]]) hS5 underlying34 sizeOf39 zeroValue39 rfl rfl (by kernel_rfl) rfl ⟨rfl, trivial⟩ rfl rfl fun w6 a4 n3 c4 im6 hS6 => ?_)
      obtain ⟨z_1, hro1, hm⟩ := bindS hm
      refine wl rfl (apO (q := 1) (l := x1) (us := ([y3] : List Int)) hS6 ⟨rfl, rfl⟩ rfl rfl (hS6.own (i := 0) ⟨rfl, rfl⟩).v underlying34 el39 (room_some hro1) fun w7 a5 n4 c5 im7 hS7 => ?_)
      exact pv (r_zs rfl) (nil (t_blk (t_then ⟨_, _, (x1 ++ ([y3] : List Int)), _, _, _, env_has ⟨rfl, rfl, rfl, rfl, rfl, trivial⟩, (iT im4 (iT im5 (iT im6 im7))), hS7.sel [1, 2] rfl, hm⟩)))
    rintro _ w3 ⟨J, T3, x3, a3, n2, c3, rfl, im3, hS8, hm⟩
    rw [hkk1] at hm
    have hm := oI hm; subst hm
    exact rg (pv (r_ib rfl rfl rfl) (pv (r_mi rfl) (nil (t_then ⟨m1, Nat.lt_succ_self _, _, _, x3, _, _, _, (IntKind.wrap .i64 (x2 + 1)), env_has ⟨rfl, rfl, rfl, rfl, rfl, trivial⟩, (iT im2 im3), hS8.sel [0, 1] rfl, hn1⟩))))
  have hm := cfalse hb2 hm
  have hm := oI hm; subst hm
  have hn1 : _ = Lp.brk _ := hn1
  subst hn1
  have hm := thn_brk hq1
  refine xt (x_then (x_then (x_eq (t_then ?_))))
  refine sq2 (sq2 (rg (pv (r_ms rfl) (?_))))
  obtain ⟨T6, im8, hS9, h2⟩ := hS3.seal 0 ⟨rfl, rfl⟩
  have hsh := h2.len
  subst hsh
  obtain ⟨y4, hx6, hm⟩ := bindS hm
  refine wl rfl (calS cf12 rfl (listing_Text_sim (p0 := x1) (hS9.bun [1] [] rfl) h2 (hG1.mono (iT im1 (iT im2 im8))) (hG7.mono (iT im1 (iT im2 im8))) hx6) rfl fun v4 T7 w8 im9 rv4 => ?_)
  obtain ⟨rfl, hS10, _⟩ := rv4
  have hS10 := hS10.unb
  refine pv (r_mv rfl) (pv (r_ex (v := .string ⟨y4.1.toArray⟩) rfl rfl) (pv (r_ex (v := iv y4.2) rfl rfl) (pv (r_zt rfl) (pv (r_zi rfl) (nil (t_then ?_))))))
  refine sq2 (rg (pv (r_mi rfl) (pv (r_ib rfl rfl rfl) (pv (r_mb rfl) (?_)))))
  rcases Bool.eq_false_or_eq_true (y4.2 != 0) with hb7 | hb7
  · have hm := ctrue hb7 hm
    refine gF (d0 := 44) rfl rfl (by rw [hb7]; rfl) (gF (d0 := 44) rfl rfl (by rw [hb7]; rfl) (gF (d0 := 44) rfl rfl (by rw [hb7]; rfl) (pv (r_pkt rfl hb7 rfl) (nil (t_then ?_)))))
    refine cnd (b := true) rfl (fun _ => ?_) (fun h => nomatch h)
    refine sq2 (rg (pv (r_zs rfl) (pv (r_zi rfl) (nil (t_then ?_)))))
    have hm := oI hm; subst hm
    exact rtn (r_then (retN (vs := [.slice none 0 0, iv 3]) rfl ⟨rfl, rfl, trivial⟩ rfl ⟨_, rfl, _, (iT im1 (iT im2 (iT im8 im9))), ⟨_, _, rfl, hS10.sel [0] rfl, SlR_nil, trivial⟩⟩))
  have hm := cfalse hb7 hm
  refine gT (d0 := 44) rfl rfl hb7 (pv (r_mt rfl) (gT (d0 := 44) rfl rfl hb7 (pv (r_mt rfl) (gT (d0 := 44) rfl rfl hb7 (pv (r_snL rfl rfl) (pv (r_pkf rfl hb7 rfl) (nil (t_then ?_))))))))
  refine cnd rfl (fun hb8 => ?_) (fun hb8 => ?_)
  · have hm := ctrue hb8 hm
    refine sq2 (rg (pv (r_zs rfl) (pv (r_zi rfl) (nil (t_then ?_)))))
    have hm := oI hm; subst hm
    exact rtn (r_then (retN (vs := [.slice none 0 0, iv 3]) rfl ⟨rfl, rfl, trivial⟩ rfl ⟨_, rfl, _, (iT im1 (iT im2 (iT im8 im9))), ⟨_, _, rfl, hS10.sel [0] rfl, SlR_nil, trivial⟩⟩))
  have hm := cfalse hb8 hm
  refine skp (t_then ?_)
  refine sq2 (rg (pv (r_ms rfl) (pv (r_zs rfl) (pv (r_zi rfl) (nil (t_then ?_))))))
  have hm := oI hm; subst hm
  exact rtn (retN (vs := [sv a2 x1 c2, iv 0]) rfl ⟨rfl, rfl, trivial⟩ rfl ⟨_, rfl, _, (iT im1 (iT im2 (iT im8 im9))), ⟨_, _, rfl, hS10.sel [0] rfl, (h2.mono im9), trivial⟩⟩)

theorem ref02_two_sim {p0 : Int} {r : Int} (hS : Sep g T0 w0 [R])  (hm : ref02_two p0 = some r) :
    Calls Tryz.prog 85 #[iv p0] w0 (RetS T0 w0 fun T w v => v = iv r ∧ Sep g T w [R] ∧ True) := by
  refine enter (args := [iv p0]) Tryz.func85 rfl Tryz.ntmps85 rfl fun J => ?_
  unfold ref02_two at hm
  refine sq2 (rg (pv (r_zi rfl) (nil (t_then ?_))))
  refine sq2 (rg (pv (r_zi rfl) (nil (t_then ?_))))
  refine sq2 (sq2 (rg (pv (r_zi rfl) (nil (t_then ?_)))))
  obtain ⟨o1, ho1, hq1⟩ := bindS hm
  obtain ⟨bd1, hbd1, ho1⟩ := loop_open ho1
  refine blk (wp_loop_ghost (fun m a w1 => ∃ (J : JV) (T1 : TP) (x1 : Int) (x2 : Int), a = env (nf 13) J [(0, iv p0), (3, iv x1), (4, iv x2)] ∧ Im T0 w0 T1 w1 ∧ Sep g T1 w1 [R] ∧ loopM bd1 m (x1, x2) = some o1) NN ⟨_, _, 1, 0, env_has ⟨rfl, rfl, rfl, trivial⟩, Im.refl, hS.sel [0] rfl, ho1⟩ ?_)
  rintro m _ w1 ⟨J, T1, x1, x2, rfl, im1, hS1, ho1⟩
  obtain ⟨m1, z1, rfl, hm, hn1⟩ := loop_round ho1
  rw [hbd1] at hm
  refine sq2 (sq2 (rg (pv (r_mi rfl) (pv (r_mi rfl) (pv (r_ib rfl rfl rfl) (nil (t_then ?_)))))))
  refine cnd rfl (fun hb1 => ?_) (fun hb1 => ?_)
  · have hm := ctrue hb1 hm
    refine skp (t_then ?_)
    refine sq2 (blk (rg (pv (r_mi rfl) (pv (r_ib rfl rfl rfl) (pv (r_zi rfl) (nil (t_blk (t_then ?_))))))))
    have hm := oI hm; subst hm
    exact rg (pv (r_mi rfl) (pv (r_ib rfl rfl rfl) (pv (r_zi rfl) (nil (t_then ⟨m1, Nat.lt_succ_self _, _, _, (IntKind.wrap .i64 (2 * x1)), (IntKind.wrap .i64 (x2 + 1)), env_has ⟨rfl, rfl, rfl, trivial⟩, im1, hS1.sel [0] rfl, hn1⟩)))))
  have hm := cfalse hb1 hm
  have hm := oI hm; subst hm
  have hn1 : _ = Lp.brk _ := hn1
  subst hn1
  have hm := thn_brk hq1
  refine xt (x_then (x_then (x_eq (t_then ?_))))
  refine sq2 (rg (pv (r_mi rfl) (pv (r_zi rfl) (nil (t_then ?_)))))
  have hm := oI hm; subst hm
  exact rtn (ret1 rfl rfl ⟨_, rfl, _, im1, ⟨rfl, hS1.sel [0] rfl, trivial⟩⟩)

theorem ref02_move_sim {p0 : Int} {p1 : Int} {p2 : Int} {p3 : Int} {r : Int} (hS : Sep g T0 w0 [R])  (hm : ref02_move p0 p1 p2 p3 = some r) :
    Calls Tryz.prog 66 #[iv p0, iv p1, iv p2, iv p3] w0 (RetS T0 w0 fun T w v => v = iv r ∧ Sep g T w [R] ∧ True) := by
  refine enter (args := [iv p0, iv p1, iv p2, iv p3]) Tryz.func66 rfl Tryz.ntmps66 rfl fun J => ?_
  unfold ref02_move at hm
  refine sq2 (rg (pv (r_zi rfl) (nil (t_then ?_))))
  refine sq2 (rg (pv (r_mi rfl) (pv (r_zi rfl) (nil (t_then ?_)))))
  obtain ⟨kk1, hkk1, hm⟩ := jn_open hm
  refine cut (fun a w1 => ∃ (J : JV) (T1 : TP) (x1 : Int), a = env (nf 28) J [(1, iv p1), (2, iv p2), (3, iv p3), (9, iv x1)] ∧ Im T0 w0 T1 w1 ∧ Sep g T1 w1 [R] ∧ kk1 x1 = some r) ?_ ?_
  · refine sq2 (rg (pv (r_mi rfl) (pv (r_ib rfl rfl rfl) (nil (t_then ?_)))))
    refine cnd rfl (fun hb1 => ?_) (fun hb1 => ?_)
    · have hm := ctrue hb1 hm
      exact rg (pv (r_mi rfl) (pv (r_ib rfl rfl rfl) (pv (r_zi rfl) (nil (t_then ⟨_, _, (IntKind.wrap .i64 (p0 + 4294967296)), env_has ⟨rfl, rfl, rfl, rfl, trivial⟩, Im.refl, hS.sel [0] rfl, hm⟩)))))
    have hm := cfalse hb1 hm
    exact skp (t_then ⟨_, _, p0, env_has ⟨rfl, rfl, rfl, rfl, trivial⟩, Im.refl, hS.sel [0] rfl, hm⟩)
  rintro _ w1 ⟨J, T1, x1, rfl, im1, hS1, hm⟩
  rw [hkk1] at hm
  refine sq2 (rs [0, 0, 2, 0, 0, 0, 0, 0, 2, 0, 0, 2, 0, 0] [0, 1, 4, 5, 6, 7, 10, 2, 3, 8, 9, 11, 12, 13] mix (by kernel_rfl) hS1.lt fun w2 i1 => ?_)
  have im2 := i1.imm
  have hS2 := hS1.keep i1 (fun _ h => h)
  obtain ⟨y1, hx1, hm⟩ := bindS hm
  refine s0 rfl trivial (fun _ => r_mi rfl) rfl (s0 rfl trivial (fun _ => r_mi rfl) rfl (s0 rfl trivial (fun _ => r_mi rfl) rfl (s0 rfl trivial (fun _ => r_mi rfl) rfl (s0 rfl trivial (fun _ => r_ib rfl rfl rfl) rfl (s0 rfl trivial (fun _ => r_ib rfl rfl rfl) rfl (s0 rfl trivial (fun _ => r_mi rfl) rfl (s2 [] rfl trivial rfl (by kernel_rfl) (calS cf85 rfl (ref02_two_sim (p0 := p1) (hS2.bun [0] [] rfl)  hx1) rfl fun v1 T2 w3 im3 rv1 => ?_))))))))
  obtain ⟨rfl, hS3, _⟩ := rv1
  have hS3 := hS3.unb
  refine ⟨st0, ?_⟩
  obtain ⟨_, hz1, hm⟩ := bindS hm
  have hz1 := nz_some hz1
  obtain ⟨y2, hx2, hm⟩ := bindS hm
  refine s0 rfl trivial (fun _ => r_iq rfl rfl hz1) rfl (s2 [] rfl trivial rfl (by kernel_rfl) (calS cf85 rfl (ref02_two_sim (p0 := IntKind.wrap .i64 ((IntKind.wrap .i64 (p2 - p1)) + 1)) (hS3.bun [0] [] rfl)  hx2) rfl fun v2 T3 w4 im4 rv2 => ?_))
  obtain ⟨rfl, hS4, _⟩ := rv2
  have hS4 := hS4.unb
  refine ⟨st0, ?_⟩
  obtain ⟨_, hz2, hm⟩ := bindS hm
  have hz2 := nz_some hz2
  obtain ⟨y3, hx3, hm⟩ := bindS hm
  refine s0 rfl trivial (fun _ => r_irm rfl rfl hz2) rfl (s2 [] rfl trivial rfl (by kernel_rfl) (calS cf85 rfl (ref02_two_sim (p0 := p3) (hS4.bun [0] [] rfl)  hx3) rfl fun v3 T4 w5 im5 rv3 => ?_))
  obtain ⟨rfl, hS5, _⟩ := rv3
  have hS5 := hS5.unb
  refine ⟨st0, ?_⟩
  refine s0 rfl trivial (fun _ => r_ib rfl rfl rfl) rfl (s0 rfl trivial (fun _ => r_zi rfl) rfl (se (t_then ?_)))
  have hm := oI hm; subst hm
  exact rtn (ret1 rfl rfl ⟨_, rfl, _, (iT im1 (iT im2 (iT im3 (iT im4 im5)))), ⟨rfl, hS5.sel [0] rfl, trivial⟩⟩)

theorem ref02_signed_sim {p0 : Int} {p1 : Int} {r : Int} (hS : Sep g T0 w0 [R])  (hm : ref02_signed p0 p1 = some r) :
    Calls Tryz.prog 84 #[iv p0, iv p1] w0 (RetS T0 w0 fun T w v => v = iv r ∧ Sep g T w [R] ∧ True) := by
  refine enter (args := [iv p0, iv p1]) Tryz.func84 rfl Tryz.ntmps84 rfl fun J => ?_
  unfold ref02_signed at hm
  refine sq2 (rg (pv (r_zi rfl) (nil (t_then ?_))))
  refine sq2 (sq2 ?_)
  obtain ⟨y1, hx1, hm⟩ := bindS hm
  refine rg (pv (r_mi rfl) (pv (r_mi rfl) (pv (r_ib rfl rfl rfl) (wl rfl (calS cf85 rfl (ref02_two_sim (p0 := IntKind.wrap .i64 (p1 - 1)) (hS.bun [0] [] rfl)  hx1) rfl fun v1 T1 w1 im1 rv1 => ?_)))))
  obtain ⟨rfl, hS1, _⟩ := rv1
  have hS1 := hS1.unb
  refine pv (r_ib rfl rfl rfl) (nil (t_then ?_))
  refine cnd rfl (fun hb1 => ?_) (fun hb1 => ?_)
  · have hm := ctrue hb1 hm
    refine sq2 ?_
    obtain ⟨y2, hx2, hm⟩ := bindS hm
    refine rg (pv (r_mi rfl) (pv (r_mi rfl) (wl rfl (calS cf85 rfl (ref02_two_sim (p0 := p1) (hS1.bun [0] [] rfl)  hx2) rfl fun v2 T2 w2 im2 rv2 => ?_))))
    obtain ⟨rfl, hS2, _⟩ := rv2
    have hS2 := hS2.unb
    refine pv (r_ib rfl rfl rfl) (pv (r_zi rfl) (nil (t_then ?_)))
    have hm := oI hm; subst hm
    exact rtn (r_then (ret1 rfl rfl ⟨_, rfl, _, (iT im1 im2), ⟨rfl, hS2.sel [0] rfl, trivial⟩⟩))
  have hm := cfalse hb1 hm
  refine skp (t_then ?_)
  refine sq2 (rg (pv (r_mi rfl) (pv (r_zi rfl) (nil (t_then ?_)))))
  have hm := oI hm; subst hm
  exact rtn (ret1 rfl rfl ⟨_, rfl, _, im1, ⟨rfl, hS1.sel [0] rfl, trivial⟩⟩)

theorem ref02_Gather_sim {p0 : Int} {p1 : Int} {r : Int} (hS : Sep g T0 w0 [R])  (hm : ref02_Gather p0 p1 = some r) :
    Calls Tryz.prog 65 #[.int .u8 p0, iv p1] w0 (RetS T0 w0 fun T w v => v = iv r ∧ Sep g T w [R] ∧ True) := by
  refine enter (args := [.int .u8 p0, iv p1]) Tryz.func65 rfl Tryz.ntmps65 rfl fun J => ?_
  unfold ref02_Gather at hm
  refine sq2 (rg (pv (r_zi rfl) (nil (t_then ?_))))
  refine sq2 (sq2 (rg (pv (r_mi rfl) (pv (r_ib rfl rfl rfl) (nil (t_then ?_))))))
  refine cnd rfl (fun hb1 => ?_) (fun hb1 => ?_)
  · have hm := ctrue hb1 hm
    refine sq2 ?_
    obtain ⟨y1, hx1, hm⟩ := bindS hm
    refine rg (pv (r_mi rfl) (wl rfl (calS cf66 rfl (ref02_move_sim (p0 := p1) (p1 := 12) (p2 := 31) (p3 := 12) (hS.bun [0] [] rfl)  hx1) rfl fun v1 T1 w1 im1 rv1 => ?_)))
    obtain ⟨rfl, hS1, _⟩ := rv1
    have hS1 := hS1.unb
    obtain ⟨y2, hx2, hm⟩ := bindS hm
    refine wl rfl (calS cf84 rfl (ref02_signed_sim (p0 := y1) (p1 := 32) (hS1.bun [0] [] rfl)  hx2) rfl fun v2 T2 w2 im2 rv2 => ?_)
    obtain ⟨rfl, hS2, _⟩ := rv2
    have hS2 := hS2.unb
    refine pv (r_zi rfl) (nil (t_then ?_))
    have hm := oI hm; subst hm
    exact rtn (r_then (ret1 rfl rfl ⟨_, rfl, _, (iT im1 im2), ⟨rfl, hS2.sel [0] rfl, trivial⟩⟩))
  have hm := cfalse hb1 hm
  refine skp (t_then ?_)
  refine sq2 (sq2 (rg (pv (r_mi rfl) (pv (r_ib rfl rfl rfl) (nil (t_then ?_))))))
  refine cnd rfl (fun hb2 => ?_) (fun hb2 => ?_)
  · have hm := ctrue hb2 hm
    refine sq2 ?_
    obtain ⟨y3, hx3, hm⟩ := bindS hm
    refine rg (pv (r_mi rfl) (wl rfl (calS cf66 rfl (ref02_move_sim (p0 := p1) (p1 := 31) (p2 := 31) (p3 := 20) (hS.bun [0] [] rfl)  hx3) rfl fun v3 T3 w3 im3 rv3 => ?_)))
    obtain ⟨rfl, hS3, _⟩ := rv3
    have hS3 := hS3.unb
    obtain ⟨y4, hx4, hm⟩ := bindS hm
    refine pv (r_mi rfl) (wl rfl (calS cf66 rfl (ref02_move_sim (p0 := p1) (p1 := 21) (p2 := 30) (p3 := 1) (hS3.bun [0] [] rfl)  hx4) rfl fun v4 T4 w4 im4 rv4 => ?_))
    obtain ⟨rfl, hS4, _⟩ := rv4
    have hS4 := hS4.unb
    obtain ⟨y5, hx5, hm⟩ := bindS hm
    refine pv (r_ib rfl rfl rfl) (pv (r_mi rfl) (wl rfl (calS cf66 rfl (ref02_move_sim (p0 := p1) (p1 := 20) (p2 := 20) (p3 := 11) (hS4.bun [0] [] rfl)  hx5) rfl fun v5 T5 w5 im5 rv5 => ?_)))
    obtain ⟨rfl, hS5, _⟩ := rv5
    have hS5 := hS5.unb
    obtain ⟨y6, hx6, hm⟩ := bindS hm
    refine pv (r_ib rfl rfl rfl) (pv (r_mi rfl) (wl rfl (calS cf66 rfl (ref02_move_sim (p0 := p1) (p1 := 12) (p2 := 19) (p3 := 12) (hS5.bun [0] [] rfl)  hx6) rfl fun v6 T6 w6 im6 rv6 => ?_)))
    obtain ⟨rfl, hS6, _⟩ := rv6
    have hS6 := hS6.unb
    obtain ⟨y7, hx7, hm⟩ := bindS hm
    refine pv (r_ib rfl rfl rfl) (wl rfl (calS cf84 rfl (ref02_signed_sim (p0 := IntKind.wrap .i64 ((IntKind.wrap .i64 ((IntKind.wrap .i64 (y3 + y4)) + y5)) + y6)) (p1 := 21) (hS6.bun [0] [] rfl)  hx7) rfl fun v7 T7 w7 im7 rv7 => ?_))
    obtain ⟨rfl, hS7, _⟩ := rv7
    have hS7 := hS7.unb
    refine pv (r_zi rfl) (nil (t_then ?_))
    have hm := oI hm; subst hm
    exact rtn (r_then (ret1 rfl rfl ⟨_, rfl, _, (iT im3 (iT im4 (iT im5 (iT im6 im7)))), ⟨rfl, hS7.sel [0] rfl, trivial⟩⟩))
  have hm := cfalse hb2 hm
  refine skp (t_then ?_)
  refine sq2 (sq2 (rg (pv (r_mi rfl) (pv (r_ib rfl rfl rfl) (nil (t_then ?_))))))
  refine cnd rfl (fun hb3 => ?_) (fun hb3 => ?_)
  · have hm := ctrue hb3 hm
    refine sq2 ?_
    obtain ⟨y8, hx8, hm⟩ := bindS hm
    refine rg (pv (r_mi rfl) (wl rfl (calS cf66 rfl (ref02_move_sim (p0 := p1) (p1 := 20) (p2 := 31) (p3 := 0) (hS.bun [0] [] rfl)  hx8) rfl fun v8 T8 w8 im8 rv8 => ?_)))
    obtain ⟨rfl, hS8, _⟩ := rv8
    have hS8 := hS8.unb
    obtain ⟨y9, hx9, hm⟩ := bindS hm
    refine wl rfl (calS cf84 rfl (ref02_signed_sim (p0 := y8) (p1 := 12) (hS8.bun [0] [] rfl)  hx9) rfl fun v9 T9 w9 im9 rv9 => ?_)
    obtain ⟨rfl, hS9, _⟩ := rv9
    have hS9 := hS9.unb
    refine pv (r_zi rfl) (nil (t_then ?_))
    have hm := oI hm; subst hm
    exact rtn (r_then (ret1 rfl rfl ⟨_, rfl, _, (iT im8 im9), ⟨rfl, hS9.sel [0] rfl, trivial⟩⟩))
  have hm := cfalse hb3 hm
  refine skp (t_then ?_)
  refine sq2 (sq2 (rg (pv (r_mi rfl) (pv (r_ib rfl rfl rfl) (nil (t_then ?_))))))
  refine cnd rfl (fun hb4 => ?_) (fun hb4 => ?_)
  · have hm := ctrue hb4 hm
    refine sq2 ?_
    obtain ⟨y10, hx10, hm⟩ := bindS hm
    refine rg (pv (r_mi rfl) (wl rfl (calS cf66 rfl (ref02_move_sim (p0 := p1) (p1 := 20) (p2 := 24) (p3 := 0) (hS.bun [0] [] rfl)  hx10) rfl fun v10 T10 w10 im10 rv10 => ?_)))
    obtain ⟨rfl, hS10, _⟩ := rv10
    have hS10 := hS10.unb
    refine pv (r_zi rfl) (nil (t_then ?_))
    have hm := oI hm; subst hm
    exact rtn (r_then (ret1 rfl rfl ⟨_, rfl, _, im10, ⟨rfl, hS10.sel [0] rfl, trivial⟩⟩))
  have hm := cfalse hb4 hm
  refine skp (t_then ?_)
  refine sq2 (sq2 (rg (pv (r_mi rfl) (pv (r_ib rfl rfl rfl) (nil (t_then ?_))))))
  refine cnd rfl (fun hb5 => ?_) (fun hb5 => ?_)
  · have hm := ctrue hb5 hm
    refine sq2 ?_
    obtain ⟨y11, hx11, hm⟩ := bindS hm
    refine rg (pv (r_mi rfl) (wl rfl (calS cf66 rfl (ref02_move_sim (p0 := p1) (p1 := 7) (p2 := 11) (p3 := 0) (hS.bun [0] [] rfl)  hx11) rfl fun v11 T11 w11 im11 rv11 => ?_)))
    obtain ⟨rfl, hS11, _⟩ := rv11
    have hS11 := hS11.unb
    obtain ⟨y12, hx12, hm⟩ := bindS hm
    refine pv (r_mi rfl) (wl rfl (calS cf66 rfl (ref02_move_sim (p0 := p1) (p1 := 25) (p2 := 31) (p3 := 5) (hS11.bun [0] [] rfl)  hx12) rfl fun v12 T12 w12 im12 rv12 => ?_))
    obtain ⟨rfl, hS12, _⟩ := rv12
    have hS12 := hS12.unb
    obtain ⟨y13, hx13, hm⟩ := bindS hm
    refine pv (r_ib rfl rfl rfl) (wl rfl (calS cf84 rfl (ref02_signed_sim (p0 := IntKind.wrap .i64 (y11 + y12)) (p1 := 12) (hS12.bun [0] [] rfl)  hx13) rfl fun v13 T13 w13 im13 rv13 => ?_))
    obtain ⟨rfl, hS13, _⟩ := rv13
    have hS13 := hS13.unb
    refine pv (r_zi rfl) (nil (t_then ?_))
    have hm := oI hm; subst hm
    exact rtn (r_then (ret1 rfl rfl ⟨_, rfl, _, (iT im11 (iT im12 im13)), ⟨rfl, hS13.sel [0] rfl, trivial⟩⟩))
  have hm := cfalse hb5 hm
  refine skp (t_then ?_)
  refine sq2 (sq2 (rg (pv (r_mi rfl) (pv (r_ib rfl rfl rfl) (nil (t_then ?_))))))
  refine cnd rfl (fun hb6 => ?_) (fun hb6 => ?_)
  · have hm := ctrue hb6 hm
    refine sq2 ?_
    obtain ⟨y14, hx14, hm⟩ := bindS hm
    refine rg (pv (r_mi rfl) (wl rfl (calS cf66 rfl (ref02_move_sim (p0 := p1) (p1 := 31) (p2 := 31) (p3 := 12) (hS.bun [0] [] rfl)  hx14) rfl fun v14 T14 w14 im14 rv14 => ?_)))
    obtain ⟨rfl, hS14, _⟩ := rv14
    have hS14 := hS14.unb
    obtain ⟨y15, hx15, hm⟩ := bindS hm
    refine pv (r_mi rfl) (wl rfl (calS cf66 rfl (ref02_move_sim (p0 := p1) (p1 := 25) (p2 := 30) (p3 := 5) (hS14.bun [0] [] rfl)  hx15) rfl fun v15 T15 w15 im15 rv15 => ?_))
    obtain ⟨rfl, hS15, _⟩ := rv15
    have hS15 := hS15.unb
    obtain ⟨y16, hx16, hm⟩ := bindS hm
    refine pv (r_ib rfl rfl rfl) (pv (r_mi rfl) (wl rfl (calS cf66 rfl (ref02_move_sim (p0 := p1) (p1 := 8) (p2 := 11) (p3 := 1) (hS15.bun [0] [] rfl)  hx16) rfl fun v16 T16 w16 im16 rv16 => ?_)))
    obtain ⟨rfl, hS16, _⟩ := rv16
    have hS16 := hS16.unb
    obtain ⟨y17, hx17, hm⟩ := bindS hm
    refine pv (r_ib rfl rfl rfl) (pv (r_mi rfl) (wl rfl (calS cf66 rfl (ref02_move_sim (p0 := p1) (p1 := 7) (p2 := 7) (p3 := 11) (hS16.bun [0] [] rfl)  hx17) rfl fun v17 T17 w17 im17 rv17 => ?_)))
    obtain ⟨rfl, hS17, _⟩ := rv17
    have hS17 := hS17.unb
    obtain ⟨y18, hx18, hm⟩ := bindS hm
    refine pv (r_ib rfl rfl rfl) (wl rfl (calS cf84 rfl (ref02_signed_sim (p0 := IntKind.wrap .i64 ((IntKind.wrap .i64 ((IntKind.wrap .i64 (y14 + y15)) + y16)) + y17)) (p1 := 13) (hS17.bun [0] [] rfl)  hx18) rfl fun v18 T18 w18 im18 rv18 => ?_))
    obtain ⟨rfl, hS18, _⟩ := rv18
    have hS18 := hS18.unb
    refine pv (r_zi rfl) (nil (t_thenR [(4, iv y18)] ⟨rfl, trivial⟩ fun J => ?_))
    have hm := oI hm; subst hm
    exact rtn (r_then (ret1 rfl rfl ⟨_, rfl, _, (iT im14 (iT im15 (iT im16 (iT im17 im18)))), ⟨rfl, hS18.sel [0] rfl, trivial⟩⟩))
  have hm := cfalse hb6 hm
  refine skp (t_then ?_)
  refine sq2 (rg (pv (r_zi rfl) (nil (t_then ?_))))
  have hm := oI hm; subst hm
  exact rtn (ret1 rfl rfl ⟨_, rfl, _, Im.refl, ⟨rfl, hS.sel [0] rfl, trivial⟩⟩)

theorem ref02_Right_2_sim {p0 : GInst} {r : Bool} (hS : Sep g T0 w0 [R])  (hm : ref02_Right_2 p0 = some r) :
    Calls Tryz.prog 8 #[.agg (cGInst p0).toArray] w0 (RetS T0 w0 fun T w v => v = .bool r ∧ Sep g T w [R] ∧ True) := by
  refine enter (args := [.agg (cGInst p0).toArray]) Tryz.func8 rfl Tryz.ntmps8 rfl fun J => ?_
  unfold ref02_Right_2 at hm
  refine sq2 (rg (wl rfl (bxS (cs := (cGInst p0)) rfl rfl hS fun w1 b1 im1 hS1 => ?_)))
  refine pv (r_zb rfl) (nil (t_then ?_))
  refine sq2 ?_
  obtain ⟨y1, hx1, hm⟩ := bindS hm
  refine rg (pv (r_fa rfl underlying28 rfl sizeOf3 rfl) (pv (r_ld rfl isAgg3 (hS1.cell0 (i := 0) ⟨rfl, rfl⟩ (j := 0) rfl)) (wl rfl (calS cf23 rfl (ref02_Form_sim (p0 := p0.Op) (hS1.bun [0, 1] [] rfl)  hx1) rfl fun v1 T1 w2 im2 rv1 => ?_))))
  obtain ⟨rfl, hS2, _⟩ := rv1
  have hS2 := hS2.unb
  refine pv (r_zi rfl) (nil (t_then ?_))
  refine sq2 (rs [0, 0, 0, 0, 1, 0, 2, 2, 0, 0, 0, 1, 0, 2, 2, 0, 0, 0, 1, 0, 2, 2, 0, 0, 0, 0, 1, 2, 0, 0] [0, 1, 2, 3, 4, 5, 6, 7, 8, 9, 10, 11, 12, 13, 14, 15, 16, 17, 18, 19, 20, 21, 22, 23, 24, 25, 26, 27, 28, 29] mix (by kernel_rfl) hS2.lt fun w3 i1 => ?_)
  have im3 := i1.imm
  have hS3 := hS2.keep i1 (fun _ h => h)
  refine s0 rfl trivial (fun _ => r_mi rfl) rfl (s0 rfl trivial (fun _ => r_ib rfl rfl rfl) rfl (s0 rfl trivial (fun _ => r_mb rfl) rfl (?_)))
  rcases Bool.eq_false_or_eq_true (y1 != 0) with hb1 | hb1
  · have hm := ctrue hb1 hm
    obtain ⟨y2, hx2, hm⟩ := bindS hm
    refine s0 rfl ⟨_, rfl, congrArg Value.bool hb1⟩ (fun _ => r_fa rfl underlying28 rfl sizeOf3 rfl) rfl (s1 rfl ⟨_, rfl, congrArg Value.bool hb1⟩ (r_ld rfl isAgg3 (hS3.cell0 (i := 0) ⟨rfl, rfl⟩ (j := 1) rfl)) rfl (s0 rfl ⟨_, rfl, congrArg Value.bool hb1⟩ (fun _ => r_mi rfl) rfl (s2 [(4, iv p0.Rd)] rfl ⟨_, rfl, congrArg Value.bool hb1⟩ rfl (by kernel_rfl) (calS cf25 rfl (ref02_has_sim (p0 := y1) (p1 := 1) (hS3.bun [0, 1] [] rfl)  hx2) rfl fun v2 T2 w4 im4 rv2 => ?_))))
    obtain ⟨rfl, hS4, _⟩ := rv2
    have hS4 := hS4.unb
    refine ⟨st1 rfl (r_ld rfl isAgg3 (hS4.cell0 (i := 0) ⟨rfl, rfl⟩ (j := 1) rfl)) (st0), ?_⟩
    obtain ⟨y3, hx3, hm⟩ := bindS hm
    refine s2 [] rfl ⟨_, rfl, congrArg Value.bool hb1⟩ rfl (by kernel_rfl) (calS cf24 rfl (ref02_reg_sim (p0 := p0.Rd) (p1 := y2) (hS4.bun [0, 1] [] rfl)  hx3) rfl fun v3 T3 w5 im5 rv3 => ?_)
    obtain ⟨rfl, hS5, _⟩ := rv3
    have hS5 := hS5.unb
    refine ⟨st0, ?_⟩
    refine s0 rfl trivial (fun _ => r_pkt rfl hb1 rfl) rfl (s0 rfl trivial (fun _ => r_mb rfl) rfl (?_))
    rcases Bool.eq_false_or_eq_true y3 with hb2 | hb2
    · have hm := ctrue hb2 hm
      obtain ⟨y4, hx4, hm⟩ := bindS hm
      refine s0 rfl ⟨_, rfl, congrArg Value.bool hb2⟩ (fun _ => r_fa rfl underlying28 rfl sizeOf3 rfl) rfl (s1 rfl ⟨_, rfl, congrArg Value.bool hb2⟩ (r_ld rfl isAgg3 (hS5.cell0 (i := 0) ⟨rfl, rfl⟩ (j := 2) rfl)) rfl (s0 rfl ⟨_, rfl, congrArg Value.bool hb2⟩ (fun _ => r_mi rfl) rfl (s2 [(11, iv p0.Rs1)] rfl ⟨_, rfl, congrArg Value.bool hb2⟩ rfl (by kernel_rfl) (calS cf25 rfl (ref02_has_sim (p0 := y1) (p1 := 2) (hS5.bun [0, 1] [] rfl)  hx4) rfl fun v4 T4 w6 im6 rv4 => ?_))))
      obtain ⟨rfl, hS6, _⟩ := rv4
      have hS6 := hS6.unb
      refine ⟨st1 rfl (r_ld rfl isAgg3 (hS6.cell0 (i := 0) ⟨rfl, rfl⟩ (j := 2) rfl)) (st0), ?_⟩
      obtain ⟨y5, hx5, hm⟩ := bindS hm
      refine s2 [] rfl ⟨_, rfl, congrArg Value.bool hb2⟩ rfl (by kernel_rfl) (calS cf24 rfl (ref02_reg_sim (p0 := p0.Rs1) (p1 := y4) (hS6.bun [0, 1] [] rfl)  hx5) rfl fun v5 T5 w7 im7 rv5 => ?_)
      obtain ⟨rfl, hS7, _⟩ := rv5
      have hS7 := hS7.unb
      refine ⟨st0, ?_⟩
      refine s0 rfl trivial (fun _ => r_pkt rfl hb2 rfl) rfl (s0 rfl trivial (fun _ => r_mb rfl) rfl (?_))
      rcases Bool.eq_false_or_eq_true y5 with hb3 | hb3
      · have hm := ctrue hb3 hm
        obtain ⟨y6, hx6, hm⟩ := bindS hm
        refine s0 rfl ⟨_, rfl, congrArg Value.bool hb3⟩ (fun _ => r_fa rfl underlying28 rfl sizeOf3 rfl) rfl (s1 rfl ⟨_, rfl, congrArg Value.bool hb3⟩ (r_ld rfl isAgg3 (hS7.cell0 (i := 0) ⟨rfl, rfl⟩ (j := 3) rfl)) rfl (s0 rfl ⟨_, rfl, congrArg Value.bool hb3⟩ (fun _ => r_mi rfl) rfl (s2 [(18, iv p0.Rs2)] rfl ⟨_, rfl, congrArg Value.bool hb3⟩ rfl (by kernel_rfl) (calS cf25 rfl (ref02_has_sim (p0 := y1) (p1 := 3) (hS7.bun [0, 1] [] rfl)  hx6) rfl fun v6 T6 w8 im8 rv6 => ?_))))
        obtain ⟨rfl, hS8, _⟩ := rv6
        have hS8 := hS8.unb
        refine ⟨st1 rfl (r_ld rfl isAgg3 (hS8.cell0 (i := 0) ⟨rfl, rfl⟩ (j := 3) rfl)) (st0), ?_⟩
        obtain ⟨y7, hx7, hm⟩ := bindS hm
        refine s2 [] rfl ⟨_, rfl, congrArg Value.bool hb3⟩ rfl (by kernel_rfl) (calS cf24 rfl (ref02_reg_sim (p0 := p0.Rs2) (p1 := y6) (hS8.bun [0, 1] [] rfl)  hx7) rfl fun v7 T7 w9 im9 rv7 => ?_)
        obtain ⟨rfl, hS9, _⟩ := rv7
        have hS9 := hS9.unb
        refine ⟨st0, ?_⟩
        refine s0 rfl trivial (fun _ => r_pkt rfl hb3 rfl) rfl (s0 rfl trivial (fun _ => r_mb rfl) rfl (?_))
        rcases Bool.eq_false_or_eq_true y7 with hb4 | hb4
        · have hm := ctrue hb4 hm
          obtain ⟨y8, hx8, hm⟩ := bindS hm
          refine s0 rfl ⟨_, rfl, congrArg Value.bool hb4⟩ (fun _ => r_mi rfl) rfl (s0 rfl ⟨_, rfl, congrArg Value.bool hb4⟩ (fun _ => r_fa rfl underlying28 rfl sizeOf3 rfl) rfl (s1 rfl ⟨_, rfl, congrArg Value.bool hb4⟩ (r_ld rfl isAgg3 (hS9.cell0 (i := 0) ⟨rfl, rfl⟩ (j := 4) rfl)) rfl (s2 [] rfl ⟨_, rfl, congrArg Value.bool hb4⟩ rfl (by kernel_rfl) (calS cf26 rfl (ref02_room_sim (p0 := y1) (p1 := p0.Imm) (hS9.bun [1, 0] [] rfl)  hx8) rfl fun v8 T8 w10 im10 rv8 => ?_))))
          obtain ⟨rfl, hS10, _⟩ := rv8
          have hS10 := hS10.unb
          refine ⟨st0, ?_⟩
          refine s0 rfl trivial (fun _ => r_pkt rfl hb4 rfl) rfl (s0 rfl trivial (fun _ => r_zb rfl) rfl (se (t_thenR [(2, .bool y8)] ⟨rfl, trivial⟩ fun J => ?_)))
          have hm := oI hm; subst hm
          exact rtn (ret1 rfl rfl ⟨_, rfl, _, (iT im1 (iT im2 (iT im3 (iT im4 (iT im5 (iT im6 (iT im7 (iT im8 (iT im9 im10))))))))), ⟨rfl, hS10.sel [0] rfl, trivial⟩⟩)
        have hm := cfalse hb4 hm
        refine sU rfl (gI rfl rfl hb4) (sU rfl (gI rfl rfl hb4) (sU rfl (gI rfl rfl hb4) (sU rfl (gI rfl rfl hb4) (s0 rfl trivial (fun _ => r_pkf rfl hb4 rfl) rfl (s0 rfl trivial (fun _ => r_zb rfl) rfl (se (t_thenR [(2, .bool false)] ⟨rfl, trivial⟩ fun J => ?_)))))))
        have hm := oI hm; subst hm
        exact rtn (ret1 rfl rfl ⟨_, rfl, _, (iT im1 (iT im2 (iT im3 (iT im4 (iT im5 (iT im6 (iT im7 (iT im8 im9)))))))), ⟨rfl, hS9.sel [1] rfl, trivial⟩⟩)
      have hm := cfalse hb3 hm
      refine sU rfl (gI rfl rfl hb3) (sU rfl (gI rfl rfl hb3) (sU rfl (gI rfl rfl hb3) (sU rfl (gI rfl rfl hb3) (sU rfl (gI rfl rfl hb3) (s0 rfl trivial (fun _ => r_pkf rfl hb3 rfl) rfl (s0 rfl trivial (fun _ => r_mb rfl) rfl (sU rfl (gI rfl rfl rfl) (sU rfl (gI rfl rfl rfl) (sU rfl (gI rfl rfl rfl) (sU rfl (gI rfl rfl rfl) (s0 rfl trivial (fun _ => r_pkf rfl rfl rfl) rfl (s0 rfl trivial (fun _ => r_zb rfl) rfl (se (t_thenR [(2, .bool false)] ⟨rfl, trivial⟩ fun J => ?_))))))))))))))
      have hm := oI hm; subst hm
      exact rtn (ret1 rfl rfl ⟨_, rfl, _, (iT im1 (iT im2 (iT im3 (iT im4 (iT im5 (iT im6 im7)))))), ⟨rfl, hS7.sel [1] rfl, trivial⟩⟩)
    have hm := cfalse hb2 hm
    refine sU rfl (gI rfl rfl hb2) (sU rfl (gI rfl rfl hb2) (sU rfl (gI rfl rfl hb2) (sU rfl (gI rfl rfl hb2) (sU rfl (gI rfl rfl hb2) (s0 rfl trivial (fun _ => r_pkf rfl hb2 rfl) rfl (s0 rfl trivial (fun _ => r_mb rfl) rfl (sU rfl (gI rfl rfl rfl) (sU rfl (gI rfl rfl rfl) (sU rfl (gI rfl rfl rfl) (sU rfl (gI rfl rfl rfl) (sU rfl (gI rfl rfl rfl) (s0 rfl trivial (fun _ => r_pkf rfl rfl rfl) rfl (s0 rfl trivial (fun _ => r_mb rfl) rfl (sU rfl (gI rfl rfl rfl) (sU rfl (gI rfl rfl rfl) (sU rfl (gI rfl rfl rfl) (sU rfl (gI rfl rfl rfl) (s0 rfl trivial (fun _ => r_pkf rfl rfl rfl) rfl (s0 rfl trivial (fun _ => r_zb rfl) rfl (se (t_thenR [(2, .bool false)] ⟨rfl, trivial⟩ fun J => ?_)))))))))))))))))))))
    have hm := oI hm; subst hm
    exact rtn (ret1 rfl rfl ⟨_, rfl, _, (iT im1 (iT im2 (iT im3 (iT im4 im5)))), ⟨rfl, hS5.sel [1] rfl, trivial⟩⟩)
  have hm := cfalse hb1 hm
  refine sU rfl (gI rfl rfl hb1) (sU rfl (gI rfl rfl hb1) (sU rfl (gI rfl rfl hb1) (sU rfl (gI rfl rfl hb1) (sU rfl (gI rfl rfl hb1) (s0 rfl trivial (fun _ => r_pkf rfl hb1 rfl) rfl (s0 rfl trivial (fun _ => r_mb rfl) rfl (sU rfl (gI rfl rfl rfl) (sU rfl (gI rfl rfl rfl) (sU rfl (gI rfl rfl rfl) (sU rfl (gI rfl rfl rfl) (sU rfl (gI rfl rfl rfl) (s0 rfl trivial (fun _ => r_pkf rfl rfl rfl) rfl (s0 rfl trivial (fun _ => r_mb rfl) rfl (sU rfl (gI rfl rfl rfl) (sU rfl (gI rfl rfl rfl) (sU rfl (gI rfl rfl rfl) (sU rfl (gI rfl rfl rfl) (sU rfl (gI rfl rfl rfl) (s0 rfl trivial (fun _ => r_pkf rfl rfl rfl) rfl (s0 rfl trivial (fun _ => r_mb rfl) rfl (sU rfl (gI rfl rfl rfl) (sU rfl (gI rfl rfl rfl) (sU rfl (gI rfl rfl rfl) (sU rfl (gI rfl rfl rfl) (s0 rfl trivial (fun _ => r_pkf rfl rfl rfl) rfl (s0 rfl trivial (fun _ => r_zb rfl) rfl (se (t_thenR [(2, .bool false)] ⟨rfl, trivial⟩ fun J => ?_))))))))))))))))))))))))))))
  have hm := oI hm; subst hm
  exact rtn (ret1 rfl rfl ⟨_, rfl, _, (iT im1 (iT im2 im3)), ⟨rfl, hS3.sel [1] rfl, trivial⟩⟩)

theorem ref02_Code_sim {p0 : Int} {r : Int} (hS : Sep g T0 w0 [R])  (hm : ref02_Code p0 = some r) :
    Calls Tryz.prog 86 #[iv p0] w0 (RetS T0 w0 fun T w v => v = iv r ∧ Sep g T w [R] ∧ True) := by
  refine enter (args := [iv p0]) Tryz.func86 rfl Tryz.ntmps86 rfl fun J => ?_
  unfold ref02_Code at hm
  refine sq2 (rg (pv (r_zi rfl) (nil (t_then ?_))))
  refine sq2 (sq2 (rg (pv (r_mi rfl) (pv (r_ib rfl rfl rfl) (nil (t_then ?_))))))
  refine cnd rfl (fun hb1 => ?_) (fun hb1 => ?_)
  · have hm := ctrue hb1 hm
    refine sq2 (rg (pv (r_zi rfl) (nil (t_then ?_))))
    have hm := oI hm; subst hm
    exact rtn (r_then (ret1 rfl rfl ⟨_, rfl, _, Im.refl, ⟨rfl, hS.sel [0] rfl, trivial⟩⟩))
  have hm := cfalse hb1 hm
  refine skp (t_then ?_)
  refine sq2 (sq2 (rg (pv (r_mi rfl) (pv (r_ib rfl rfl rfl) (nil (t_then ?_))))))
  refine cnd rfl (fun hb2 => ?_) (fun hb2 => ?_)
  · have hm := ctrue hb2 hm
    refine sq2 (rg (pv (r_zi rfl) (nil (t_then ?_))))
    have hm := oI hm; subst hm
    exact rtn (r_then (ret1 rfl rfl ⟨_, rfl, _, Im.refl, ⟨rfl, hS.sel [0] rfl, trivial⟩⟩))
  have hm := cfalse hb2 hm
  refine skp (t_then ?_)
  refine sq2 (sq2 (rg (pv (r_mi rfl) (pv (r_ib rfl rfl rfl) (nil (t_then ?_))))))
  refine cnd rfl (fun hb3 => ?_) (fun hb3 => ?_)
  · have hm := ctrue hb3 hm
    refine sq2 (rg (pv (r_zi rfl) (nil (t_then ?_))))
    have hm := oI hm; subst hm
    exact rtn (r_then (ret1 rfl rfl ⟨_, rfl, _, Im.refl, ⟨rfl, hS.sel [0] rfl, trivial⟩⟩))
  have hm := cfalse hb3 hm
  refine skp (t_then ?_)
  refine sq2 (sq2 (rg (pv (r_mi rfl) (pv (r_ib rfl rfl rfl) (nil (t_then ?_))))))
  refine cnd rfl (fun hb4 => ?_) (fun hb4 => ?_)
  · have hm := ctrue hb4 hm
    refine sq2 (rg (pv (r_zi rfl) (nil (t_then ?_))))
    have hm := oI hm; subst hm
    exact rtn (r_then (ret1 rfl rfl ⟨_, rfl, _, Im.refl, ⟨rfl, hS.sel [0] rfl, trivial⟩⟩))
  have hm := cfalse hb4 hm
  refine skp (t_then ?_)
  refine sq2 (sq2 (rg (pv (r_mi rfl) (pv (r_ib rfl rfl rfl) (nil (t_then ?_))))))
  refine cnd rfl (fun hb5 => ?_) (fun hb5 => ?_)
  · have hm := ctrue hb5 hm
    refine sq2 (rg (pv (r_zi rfl) (nil (t_then ?_))))
    have hm := oI hm; subst hm
    exact rtn (r_then (ret1 rfl rfl ⟨_, rfl, _, Im.refl, ⟨rfl, hS.sel [0] rfl, trivial⟩⟩))
  have hm := cfalse hb5 hm
  refine skp (t_then ?_)
  refine sq2 (sq2 (rg (pv (r_mi rfl) (pv (r_ib rfl rfl rfl) (nil (t_then ?_))))))
  refine cnd rfl (fun hb6 => ?_) (fun hb6 => ?_)
  · have hm := ctrue hb6 hm
    refine sq2 (rg (pv (r_zi rfl) (nil (t_then ?_))))
    have hm := oI hm; subst hm
    exact rtn (r_then (ret1 rfl rfl ⟨_, rfl, _, Im.refl, ⟨rfl, hS.sel [0] rfl, trivial⟩⟩))
  have hm := cfalse hb6 hm
  refine skp (t_then ?_)
  refine sq2 (sq2 (rg (pv (r_mi rfl) (pv (r_ib rfl rfl rfl) (nil (t_then ?_))))))
  refine cnd rfl (fun hb7 => ?_) (fun hb7 => ?_)
  · have hm := ctrue hb7 hm
    refine sq2 (rg (pv (r_zi rfl) (nil (t_then ?_))))
    have hm := oI hm; subst hm
    exact rtn (r_then (ret1 rfl rfl ⟨_, rfl, _, Im.refl, ⟨rfl, hS.sel [0] rfl, trivial⟩⟩))
  have hm := cfalse hb7 hm
  refine skp (t_then ?_)
  refine sq2 (sq2 (rg (pv (r_mi rfl) (pv (r_ib rfl rfl rfl) (nil (t_then ?_))))))
  refine cnd rfl (fun hb8 => ?_) (fun hb8 => ?_)
  · have hm := ctrue hb8 hm
    refine sq2 (rg (pv (r_zi rfl) (nil (t_then ?_))))
    have hm := oI hm; subst hm
    exact rtn (r_then (ret1 rfl rfl ⟨_, rfl, _, Im.refl, ⟨rfl, hS.sel [0] rfl, trivial⟩⟩))
  have hm := cfalse hb8 hm
  refine skp (t_then ?_)
  refine sq2 (rg (pv (r_zi rfl) (nil (t_then ?_))))
  have hm := oI hm; subst hm
  exact rtn (ret1 rfl rfl ⟨_, rfl, _, Im.refl, ⟨rfl, hS.sel [0] rfl, trivial⟩⟩)

theorem ref02_Third_sim {p0 : Int} {r : Int} (hS : Sep g T0 w0 [R])  (hm : ref02_Third p0 = some r) :
    Calls Tryz.prog 87 #[iv p0] w0 (RetS T0 w0 fun T w v => v = iv r ∧ Sep g T w [R] ∧ True) := by
  refine enter (args := [iv p0]) Tryz.func87 rfl Tryz.ntmps87 rfl fun J => ?_
  unfold ref02_Third at hm
  refine sq2 (rg (pv (r_zi rfl) (nil (t_then ?_))))
  refine sq2 (rg (wl rfl (bsS (r := (rInt .i64)) (l := ([0, 0, 0, 0, 0, 0, 1, 4, 5, 6, 7, 0, 1, 2, 4, 5, 0, 1, 2, 0, 2, 3, 4, 6, 7, 1, 5, 5, 0, 0, 1, 2, 3, 4, 5, 5, 6, 7, 0, 1, 2, 3, 4, 5, 6, 7] : List Int)) (css := [[iv 0], [iv 0], [iv 0], [iv 0], [iv 0], [iv 0], [iv 1], [iv 4], [iv 5], [iv 6], [iv 7], [iv 0], [iv 1], [iv 2], [iv 4], [iv 5], [iv 0], [iv 1], [iv 2], [iv 0], [iv 2], [iv 3], [iv 4], [iv 6], [iv 7], [iv 1], [iv 5], [iv 5], [iv 0], [iv 0], [iv 1], [iv 2], [iv 3], [iv 4], [iv 5], [iv 5], [iv 6], [iv 7], [iv 0], [iv 1], [iv 2], [iv 3], [iv 4], [iv 5], [iv 6], [iv 7]]) hS underlying124 sizeOf3 zeroValue3 rfl rfl (by kernel_rfl) rfl ⟨rfl, rfl, rfl, rfl, rfl, rfl, rfl, rfl, rfl, rfl, rfl, rfl, rfl, rfl, rfl, rfl, rfl, rfl, rfl, rfl, rfl, rfl, rfl, rfl, rfl, rfl, rfl, rfl, rfl, rfl, rfl, rfl, rfl, rfl, rfl, rfl, rfl, rfl, rfl, rfl, rfl, rfl, rfl, rfl, rfl, rfl, trivial⟩ rfl rfl fun w1 a1 n1 c1 im1 hS1 => ?_)))
  refine pv (r_zs rfl) (nil (t_then ?_))
  refine sq2 ?_
  obtain ⟨u1, hx1, hm⟩ := bindS hm
  obtain ⟨b1, of1, cs1, k1, cp1, hv1, hp1, hl1, he1, hr1, hc1⟩ := (hS1.own (i := 0) ⟨rfl, rfl⟩).v.ixq hx1 rfl
  cases hr1
  refine rg (pv (r_ms rfl) (pv (r_mi rfl) (pv (r_ixe hv1 rfl underlying124 sizeOf3 hp1 hl1 he1) (pv (r_ld rfl isAgg3 (hc1.get (j := 0) rfl)) (pv (r_zi rfl) (nil (t_then ?_)))))))
  have hm := oI hm; subst hm
  exact rtn (ret1 rfl rfl ⟨_, rfl, _, im1, ⟨rfl, hS1.sel [1] rfl, trivial⟩⟩)

theorem ref02_Seventh_sim {p0 : Int} {r : Int} (hS : Sep g T0 w0 [R])  (hm : ref02_Seventh p0 = some r) :
    Calls Tryz.prog 88 #[iv p0] w0 (RetS T0 w0 fun T w v => v = iv r ∧ Sep g T w [R] ∧ True) := by
  refine enter (args := [iv p0]) Tryz.func88 rfl Tryz.ntmps88 rfl fun J => ?_
  unfold ref02_Seventh at hm
  refine sq2 (rg (pv (r_zi rfl) (nil (t_then ?_))))
  refine sq2 (sq2 (rg (pv (r_mi rfl) (pv (r_ib rfl rfl rfl) (pv (r_mb rfl) (?_))))))
  rcases Bool.eq_false_or_eq_true (p0 == 27) with hb1 | hb1
  · have hm := ctrue hb1 hm
    refine gF (d0 := 5) rfl rfl (by rw [hb1]; rfl) (gF (d0 := 5) rfl rfl (by rw [hb1]; rfl) (pv (r_pkt rfl hb1 rfl) (pv (r_mb rfl) (gF (d0 := 9) rfl rfl rfl (gF (d0 := 9) rfl rfl rfl (pv (r_pkt rfl rfl rfl) (nil (t_then ?_))))))))
    refine cnd (b := true) rfl (fun _ => ?_) (fun h => nomatch h)
    refine sq2 (rg (pv (r_zi rfl) (nil (t_then ?_))))
    have hm := oI hm; subst hm
    exact rtn (r_then (ret1 rfl rfl ⟨_, rfl, _, Im.refl, ⟨rfl, hS.sel [0] rfl, trivial⟩⟩))
  have hm := cfalse hb1 hm
  refine gT (d0 := 5) rfl rfl hb1 (pv (r_mi rfl) (gT (d0 := 5) rfl rfl hb1 (pv (r_ib rfl rfl rfl) (pv (r_pkf rfl hb1 rfl) (pv (r_mb rfl) (?_))))))
  rcases Bool.eq_false_or_eq_true (p0 == 29) with hb2 | hb2
  · have hm := ctrue hb2 hm
    refine gF (d0 := 9) rfl rfl (by rw [hb2]; rfl) (gF (d0 := 9) rfl rfl (by rw [hb2]; rfl) (pv (r_pkt rfl hb2 rfl) (nil (t_then ?_))))
    refine cnd (b := true) rfl (fun _ => ?_) (fun h => nomatch h)
    refine sq2 (rg (pv (r_zi rfl) (nil (t_then ?_))))
    have hm := oI hm; subst hm
    exact rtn (r_then (ret1 rfl rfl ⟨_, rfl, _, Im.refl, ⟨rfl, hS.sel [0] rfl, trivial⟩⟩))
  have hm := cfalse hb2 hm
  refine gT (d0 := 9) rfl rfl hb2 (pv (r_mi rfl) (gT (d0 := 9) rfl rfl hb2 (pv (r_ib rfl rfl rfl) (pv (r_pkf rfl hb2 rfl) (nil (t_then ?_))))))
  refine cnd rfl (fun hb3 => ?_) (fun hb3 => ?_)
  · have hm := ctrue hb3 hm
    refine sq2 (rg (pv (r_zi rfl) (nil (t_then ?_))))
    have hm := oI hm; subst hm
    exact rtn (r_then (ret1 rfl rfl ⟨_, rfl, _, Im.refl, ⟨rfl, hS.sel [0] rfl, trivial⟩⟩))
  have hm := cfalse hb3 hm
  refine skp (t_then ?_)
  refine sq2 (sq2 (rg (pv (r_mi rfl) (pv (r_ib rfl rfl rfl) (nil (t_then ?_))))))
  refine cnd rfl (fun hb4 => ?_) (fun hb4 => ?_)
  · have hm := ctrue hb4 hm
    refine sq2 (rg (pv (r_zi rfl) (nil (t_then ?_))))
    have hm := oI hm; subst hm
    exact rtn (r_then (ret1 rfl rfl ⟨_, rfl, _, Im.refl, ⟨rfl, hS.sel [0] rfl, trivial⟩⟩))
  have hm := cfalse hb4 hm
  refine skp (t_then ?_)
  refine sq2 (rg (pv (r_zi rfl) (nil (t_then ?_))))
  have hm := oI hm; subst hm
  exact rtn (ret1 rfl rfl ⟨_, rfl, _, Im.refl, ⟨rfl, hS.sel [0] rfl, trivial⟩⟩)

theorem ref02_Spread_sim {p0 : Int} {p1 : Int} {r : Int} (hS : Sep g T0 w0 [R])  (hm : ref02_Spread p0 p1 = some r) :
    Calls Tryz.prog 89 #[.int .u8 p0, iv p1] w0 (RetS T0 w0 fun T w v => v = iv r ∧ Sep g T w [R] ∧ True) := by
  refine enter (args := [.int .u8 p0, iv p1]) Tryz.func89 rfl Tryz.ntmps89 rfl fun J => ?_
  unfold ref02_Spread at hm
  refine sq2 (rg (pv (r_zi rfl) (nil (t_then ?_))))
  refine sq2 (sq2 (rg (pv (r_mi rfl) (pv (r_ib rfl rfl rfl) (nil (t_then ?_))))))
  refine cnd rfl (fun hb1 => ?_) (fun hb1 => ?_)
  · have hm := ctrue hb1 hm
    refine sq2 ?_
    obtain ⟨y1, hx1, hm⟩ := bindS hm
    refine rg (pv (r_mi rfl) (wl rfl (calS cf66 rfl (ref02_move_sim (p0 := p1) (p1 := 12) (p2 := 31) (p3 := 12) (hS.bun [0] [] rfl)  hx1) rfl fun v1 T1 w1 im1 rv1 => ?_)))
    obtain ⟨rfl, hS1, _⟩ := rv1
    have hS1 := hS1.unb
    refine pv (r_zi rfl) (nil (t_then ?_))
    have hm := oI hm; subst hm
    exact rtn (r_then (ret1 rfl rfl ⟨_, rfl, _, im1, ⟨rfl, hS1.sel [0] rfl, trivial⟩⟩))
  have hm := cfalse hb1 hm
  refine skp (t_then ?_)
  refine sq2 (sq2 (rg (pv (r_mi rfl) (pv (r_ib rfl rfl rfl) (nil (t_then ?_))))))
  refine cnd rfl (fun hb2 => ?_) (fun hb2 => ?_)
  · have hm := ctrue hb2 hm
    refine sq2 ?_
    obtain ⟨y2, hx2, hm⟩ := bindS hm
    refine rg (pv (r_mi rfl) (wl rfl (calS cf66 rfl (ref02_move_sim (p0 := p1) (p1 := 20) (p2 := 20) (p3 := 31) (hS.bun [0] [] rfl)  hx2) rfl fun v2 T2 w2 im2 rv2 => ?_)))
    obtain ⟨rfl, hS2, _⟩ := rv2
    have hS2 := hS2.unb
    obtain ⟨y3, hx3, hm⟩ := bindS hm
    refine pv (r_mi rfl) (wl rfl (calS cf66 rfl (ref02_move_sim (p0 := p1) (p1 := 1) (p2 := 10) (p3 := 21) (hS2.bun [0] [] rfl)  hx3) rfl fun v3 T3 w3 im3 rv3 => ?_))
    obtain ⟨rfl, hS3, _⟩ := rv3
    have hS3 := hS3.unb
    obtain ⟨y4, hx4, hm⟩ := bindS hm
    refine pv (r_ib rfl rfl rfl) (pv (r_mi rfl) (wl rfl (calS cf66 rfl (ref02_move_sim (p0 := p1) (p1 := 11) (p2 := 11) (p3 := 20) (hS3.bun [0] [] rfl)  hx4) rfl fun v4 T4 w4 im4 rv4 => ?_)))
    obtain ⟨rfl, hS4, _⟩ := rv4
    have hS4 := hS4.unb
    obtain ⟨y5, hx5, hm⟩ := bindS hm
    refine pv (r_ib rfl rfl rfl) (pv (r_mi rfl) (wl rfl (calS cf66 rfl (ref02_move_sim (p0 := p1) (p1 := 12) (p2 := 19) (p3 := 12) (hS4.bun [0] [] rfl)  hx5) rfl fun v5 T5 w5 im5 rv5 => ?_)))
    obtain ⟨rfl, hS5, _⟩ := rv5
    have hS5 := hS5.unb
    refine pv (r_ib rfl rfl rfl) (pv (r_zi rfl) (nil (t_then ?_)))
    have hm := oI hm; subst hm
    exact rtn (r_then (ret1 rfl rfl ⟨_, rfl, _, (iT im2 (iT im3 (iT im4 im5))), ⟨rfl, hS5.sel [0] rfl, trivial⟩⟩))
  have hm := cfalse hb2 hm
  refine skp (t_then ?_)
  refine sq2 (sq2 (rg (pv (r_mi rfl) (pv (r_ib rfl rfl rfl) (nil (t_then ?_))))))
  refine cnd rfl (fun hb3 => ?_) (fun hb3 => ?_)
  · have hm := ctrue hb3 hm
    refine sq2 ?_
    obtain ⟨y6, hx6, hm⟩ := bindS hm
    refine rg (pv (r_mi rfl) (wl rfl (calS cf66 rfl (ref02_move_sim (p0 := p1) (p1 := 0) (p2 := 11) (p3 := 20) (hS.bun [0] [] rfl)  hx6) rfl fun v6 T6 w6 im6 rv6 => ?_)))
    obtain ⟨rfl, hS6, _⟩ := rv6
    have hS6 := hS6.unb
    refine pv (r_zi rfl) (nil (t_then ?_))
    have hm := oI hm; subst hm
    exact rtn (r_then (ret1 rfl rfl ⟨_, rfl, _, im6, ⟨rfl, hS6.sel [0] rfl, trivial⟩⟩))
  have hm := cfalse hb3 hm
  refine skp (t_then ?_)
  refine sq2 (sq2 (rg (pv (r_mi rfl) (pv (r_ib rfl rfl rfl) (nil (t_then ?_))))))
  refine cnd rfl (fun hb4 => ?_) (fun hb4 => ?_)
  · have hm := ctrue hb4 hm
    refine sq2 ?_
    obtain ⟨y7, hx7, hm⟩ := bindS hm
    refine rg (pv (r_mi rfl) (wl rfl (calS cf66 rfl (ref02_move_sim (p0 := p1) (p1 := 0) (p2 := 4) (p3 := 20) (hS.bun [0] [] rfl)  hx7) rfl fun v7 T7 w7 im7 rv7 => ?_)))
    obtain ⟨rfl, hS7, _⟩ := rv7
    have hS7 := hS7.unb
    refine pv (r_zi rfl) (nil (t_then ?_))
    have hm := oI hm; subst hm
    exact rtn (r_then (ret1 rfl rfl ⟨_, rfl, _, im7, ⟨rfl, hS7.sel [0] rfl, trivial⟩⟩))
  have hm := cfalse hb4 hm
  refine skp (t_then ?_)
  refine sq2 (sq2 (rg (pv (r_mi rfl) (pv (r_ib rfl rfl rfl) (nil (t_then ?_))))))
  refine cnd rfl (fun hb5 => ?_) (fun hb5 => ?_)
  · have hm := ctrue hb5 hm
    refine sq2 ?_
    obtain ⟨y8, hx8, hm⟩ := bindS hm
    refine rg (pv (r_mi rfl) (wl rfl (calS cf66 rfl (ref02_move_sim (p0 := p1) (p1 := 0) (p2 := 4) (p3 := 7) (hS.bun [0] [] rfl)  hx8) rfl fun v8 T8 w8 im8 rv8 => ?_)))
    obtain ⟨rfl, hS8, _⟩ := rv8
    have hS8 := hS8.unb
    obtain ⟨y9, hx9, hm⟩ := bindS hm
    refine pv (r_mi rfl) (wl rfl (calS cf66 rfl (ref02_move_sim (p0 := p1) (p1 := 5) (p2 := 11) (p3 := 25) (hS8.bun [0] [] rfl)  hx9) rfl fun v9 T9 w9 im9 rv9 => ?_))
    obtain ⟨rfl, hS9, _⟩ := rv9
    have hS9 := hS9.unb
    refine pv (r_ib rfl rfl rfl) (pv (r_zi rfl) (nil (t_then ?_)))
    have hm := oI hm; subst hm
    exact rtn (r_then (ret1 rfl rfl ⟨_, rfl, _, (iT im8 im9), ⟨rfl, hS9.sel [0] rfl, trivial⟩⟩))
  have hm := cfalse hb5 hm
  refine skp (t_then ?_)
  refine sq2 (sq2 (rg (pv (r_mi rfl) (pv (r_ib rfl rfl rfl) (nil (t_then ?_))))))
  refine cnd rfl (fun hb6 => ?_) (fun hb6 => ?_)
  · have hm := ctrue hb6 hm
    refine sq2 ?_
    obtain ⟨y10, hx10, hm⟩ := bindS hm
    refine rg (pv (r_mi rfl) (wl rfl (calS cf66 rfl (ref02_move_sim (p0 := p1) (p1 := 12) (p2 := 12) (p3 := 31) (hS.bun [0] [] rfl)  hx10) rfl fun v10 T10 w10 im10 rv10 => ?_)))
    obtain ⟨rfl, hS10, _⟩ := rv10
    have hS10 := hS10.unb
    obtain ⟨y11, hx11, hm⟩ := bindS hm
    refine pv (r_mi rfl) (wl rfl (calS cf66 rfl (ref02_move_sim (p0 := p1) (p1 := 5) (p2 := 10) (p3 := 25) (hS10.bun [0] [] rfl)  hx11) rfl fun v11 T11 w11 im11 rv11 => ?_))
    obtain ⟨rfl, hS11, _⟩ := rv11
    have hS11 := hS11.unb
    obtain ⟨y12, hx12, hm⟩ := bindS hm
    refine pv (r_ib rfl rfl rfl) (pv (r_mi rfl) (wl rfl (calS cf66 rfl (ref02_move_sim (p0 := p1) (p1 := 1) (p2 := 4) (p3 := 8) (hS11.bun [0] [] rfl)  hx12) rfl fun v12 T12 w12 im12 rv12 => ?_)))
    obtain ⟨rfl, hS12, _⟩ := rv12
    have hS12 := hS12.unb
    obtain ⟨y13, hx13, hm⟩ := bindS hm
    refine pv (r_ib rfl rfl rfl) (pv (r_mi rfl) (wl rfl (calS cf66 rfl (ref02_move_sim (p0 := p1) (p1 := 11) (p2 := 11) (p3 := 7) (hS12.bun [0] [] rfl)  hx13) rfl fun v13 T13 w13 im13 rv13 => ?_)))
    obtain ⟨rfl, hS13, _⟩ := rv13
    have hS13 := hS13.unb
    refine pv (r_ib rfl rfl rfl) (pv (r_zi rfl) (nil (t_thenR [(4, iv (IntKind.wrap .i64 ((IntKind.wrap .i64 ((IntKind.wrap .i64 (y10 + y11)) + y12)) + y13)))] ⟨rfl, trivial⟩ fun J => ?_)))
    have hm := oI hm; subst hm
    exact rtn (r_then (ret1 rfl rfl ⟨_, rfl, _, (iT im10 (iT im11 (iT im12 im13))), ⟨rfl, hS13.sel [0] rfl, trivial⟩⟩))
  have hm := cfalse hb6 hm
  refine skp (t_then ?_)
  refine sq2 (rg (pv (r_zi rfl) (nil (t_then ?_))))
  have hm := oI hm; subst hm
  exact rtn (ret1 rfl rfl ⟨_, rfl, _, Im.refl, ⟨rfl, hS.sel [0] rfl, trivial⟩⟩)

theorem ref02_Word_sim {p0 : GInst} {r : Int} (hS : Sep g T0 w0 [R])  (hm : ref02_Word p0 = some r) :
    Calls Tryz.prog 67 #[.agg (cGInst p0).toArray] w0 (RetS T0 w0 fun T w v => v = .int .u32 r ∧ Sep g T w [R] ∧ True) := by
  refine enter (args := [.agg (cGInst p0).toArray]) Tryz.func67 rfl Tryz.ntmps67 rfl fun J => ?_
  unfold ref02_Word at hm
  refine sq2 (rg (wl rfl (bxS (cs := (cGInst p0)) rfl rfl hS fun w1 b1 im1 hS1 => ?_)))
  refine pv (r_zi rfl) (nil (t_then ?_))
  refine sq2 ?_
  obtain ⟨y1, hx1, hm⟩ := bindS hm
  refine rg (pv (r_fa rfl underlying28 rfl sizeOf3 rfl) (pv (r_ld rfl isAgg3 (hS1.cell0 (i := 0) ⟨rfl, rfl⟩ (j := 0) rfl)) (wl rfl (calS cf23 rfl (ref02_Form_sim (p0 := p0.Op) (hS1.bun [0, 1] [] rfl)  hx1) rfl fun v1 T1 w2 im2 rv1 => ?_))))
  obtain ⟨rfl, hS2, _⟩ := rv1
  have hS2 := hS2.unb
  refine pv (r_zi rfl) (nil (t_then ?_))
  refine sq2 (rs [0, 1, 2, 0, 1, 2, 0, 0, 0, 1, 2, 2, 0, 0, 0, 1, 2, 0, 0, 0, 1, 2, 0, 0, 0, 1, 2, 2, 0, 0, 0, 0, 1, 2, 0, 0, 0] [0, 1, 3, 4, 8, 9, 14, 15, 19, 20, 24, 25, 30, 31, 32, 2, 5, 6, 7, 10, 11, 12, 13, 16, 17, 18, 21, 22, 23, 26, 27, 28, 29, 33, 34, 35, 36] mix (by kernel_rfl) hS2.lt fun w3 i1 => ?_)
  have im3 := i1.imm
  have hS3 := hS2.keep i1 (fun _ h => h)
  obtain ⟨y2, hx2, hm⟩ := bindS hm
  refine s0 rfl trivial (fun _ => r_fa rfl underlying28 rfl sizeOf3 rfl) rfl (s1 rfl trivial (r_ld rfl isAgg3 (hS3.cell0 (i := 0) ⟨rfl, rfl⟩ (j := 0) rfl)) rfl (s0 rfl trivial (fun _ => r_fa rfl underlying28 rfl sizeOf3 rfl) rfl (s1 rfl trivial (r_ld rfl isAgg3 (hS3.cell0 (i := 0) ⟨rfl, rfl⟩ (j := 1) rfl)) rfl (s0 rfl trivial (fun _ => r_fa rfl underlying28 rfl sizeOf3 rfl) rfl (s1 rfl trivial (r_ld rfl isAgg3 (hS3.cell0 (i := 0) ⟨rfl, rfl⟩ (j := 0) rfl)) rfl (s0 rfl trivial (fun _ => r_fa rfl underlying28 rfl sizeOf3 rfl) rfl (s1 rfl trivial (r_ld rfl isAgg3 (hS3.cell0 (i := 0) ⟨rfl, rfl⟩ (j := 2) rfl)) rfl (s0 rfl trivial (fun _ => r_fa rfl underlying28 rfl sizeOf3 rfl) rfl (s1 rfl trivial (r_ld rfl isAgg3 (hS3.cell0 (i := 0) ⟨rfl, rfl⟩ (j := 3) rfl)) rfl (s0 rfl trivial (fun _ => r_fa rfl underlying28 rfl sizeOf3 rfl) rfl (s1 rfl trivial (r_ld rfl isAgg3 (hS3.cell0 (i := 0) ⟨rfl, rfl⟩ (j := 0) rfl)) rfl (s0 rfl trivial (fun _ => r_mi rfl) rfl (s0 rfl trivial (fun _ => r_fa rfl underlying28 rfl sizeOf3 rfl) rfl (s1 rfl trivial (r_ld rfl isAgg3 (hS3.cell0 (i := 0) ⟨rfl, rfl⟩ (j := 4) rfl)) rfl (s2 [(32, iv p0.Imm), (25, iv p0.Op), (20, iv p0.Rs2), (15, iv p0.Rs1), (9, iv p0.Op), (4, iv p0.Rd)] rfl trivial rfl (by kernel_rfl) (calS cf86 rfl (ref02_Code_sim (p0 := p0.Op) (hS3.bun [1, 0] [] rfl)  hx2) rfl fun v2 T2 w4 im4 rv2 => ?_))))))))))))))))
  obtain ⟨rfl, hS4, _⟩ := rv2
  have hS4 := hS4.unb
  refine ⟨st1 rfl (r_ld rfl isAgg3 (hS4.cell0 (i := 1) ⟨rfl, rfl⟩ (j := 4) rfl)) (st1 rfl (r_ld rfl isAgg3 (hS4.cell0 (i := 1) ⟨rfl, rfl⟩ (j := 0) rfl)) (st1 rfl (r_ld rfl isAgg3 (hS4.cell0 (i := 1) ⟨rfl, rfl⟩ (j := 3) rfl)) (st1 rfl (r_ld rfl isAgg3 (hS4.cell0 (i := 1) ⟨rfl, rfl⟩ (j := 2) rfl)) (st1 rfl (r_ld rfl isAgg3 (hS4.cell0 (i := 1) ⟨rfl, rfl⟩ (j := 0) rfl)) (st1 rfl (r_ld rfl isAgg3 (hS4.cell0 (i := 1) ⟨rfl, rfl⟩ (j := 1) rfl)) (st0)))))), ?_⟩
  obtain ⟨y3, hx3, hm⟩ := bindS hm
  refine s2 [(32, iv p0.Imm), (25, iv p0.Op), (20, iv p0.Rs2), (15, iv p0.Rs1), (9, iv p0.Op), (4, iv p0.Rd)] rfl trivial rfl (by kernel_rfl) (calS cf85 rfl (ref02_two_sim (p0 := 7) (hS4.bun [0, 1] [] rfl)  hx3) rfl fun v3 T3 w5 im5 rv3 => ?_)
  obtain ⟨rfl, hS5, _⟩ := rv3
  have hS5 := hS5.unb
  refine ⟨st1 rfl (r_ld rfl isAgg3 (hS5.cell0 (i := 1) ⟨rfl, rfl⟩ (j := 4) rfl)) (st1 rfl (r_ld rfl isAgg3 (hS5.cell0 (i := 1) ⟨rfl, rfl⟩ (j := 0) rfl)) (st1 rfl (r_ld rfl isAgg3 (hS5.cell0 (i := 1) ⟨rfl, rfl⟩ (j := 3) rfl)) (st1 rfl (r_ld rfl isAgg3 (hS5.cell0 (i := 1) ⟨rfl, rfl⟩ (j := 2) rfl)) (st1 rfl (r_ld rfl isAgg3 (hS5.cell0 (i := 1) ⟨rfl, rfl⟩ (j := 0) rfl)) (st1 rfl (r_ld rfl isAgg3 (hS5.cell0 (i := 1) ⟨rfl, rfl⟩ (j := 1) rfl)) (st0)))))), ?_⟩
  obtain ⟨y4, hx4, hm⟩ := bindS hm
  refine s0 rfl trivial (fun _ => r_ib rfl rfl rfl) rfl (s0 rfl trivial (fun _ => r_ib rfl rfl rfl) rfl (s2 [(32, iv p0.Imm), (25, iv p0.Op), (20, iv p0.Rs2), (15, iv p0.Rs1), (4, iv p0.Rd)] rfl trivial rfl (by kernel_rfl) (calS cf87 rfl (ref02_Third_sim (p0 := p0.Op) (hS5.bun [0, 1] [] rfl)  hx4) rfl fun v4 T4 w6 im6 rv4 => ?_)))
  obtain ⟨rfl, hS6, _⟩ := rv4
  have hS6 := hS6.unb
  refine ⟨st1 rfl (r_ld rfl isAgg3 (hS6.cell0 (i := 1) ⟨rfl, rfl⟩ (j := 4) rfl)) (st1 rfl (r_ld rfl isAgg3 (hS6.cell0 (i := 1) ⟨rfl, rfl⟩ (j := 0) rfl)) (st1 rfl (r_ld rfl isAgg3 (hS6.cell0 (i := 1) ⟨rfl, rfl⟩ (j := 3) rfl)) (st1 rfl (r_ld rfl isAgg3 (hS6.cell0 (i := 1) ⟨rfl, rfl⟩ (j := 2) rfl)) (st1 rfl (r_ld rfl isAgg3 (hS6.cell0 (i := 1) ⟨rfl, rfl⟩ (j := 1) rfl)) (st0))))), ?_⟩
  obtain ⟨y5, hx5, hm⟩ := bindS hm
  refine s2 [(32, iv p0.Imm), (25, iv p0.Op), (20, iv p0.Rs2), (15, iv p0.Rs1), (4, iv p0.Rd)] rfl trivial rfl (by kernel_rfl) (calS cf85 rfl (ref02_two_sim (p0 := 12) (hS6.bun [0, 1] [] rfl)  hx5) rfl fun v5 T5 w7 im7 rv5 => ?_)
  obtain ⟨rfl, hS7, _⟩ := rv5
  have hS7 := hS7.unb
  refine ⟨st1 rfl (r_ld rfl isAgg3 (hS7.cell0 (i := 1) ⟨rfl, rfl⟩ (j := 4) rfl)) (st1 rfl (r_ld rfl isAgg3 (hS7.cell0 (i := 1) ⟨rfl, rfl⟩ (j := 0) rfl)) (st1 rfl (r_ld rfl isAgg3 (hS7.cell0 (i := 1) ⟨rfl, rfl⟩ (j := 3) rfl)) (st1 rfl (r_ld rfl isAgg3 (hS7.cell0 (i := 1) ⟨rfl, rfl⟩ (j := 2) rfl)) (st1 rfl (r_ld rfl isAgg3 (hS7.cell0 (i := 1) ⟨rfl, rfl⟩ (j := 1) rfl)) (st0))))), ?_⟩
  obtain ⟨y6, hx6, hm⟩ := bindS hm
  refine s0 rfl trivial (fun _ => r_ib rfl rfl rfl) rfl (s0 rfl trivial (fun _ => r_ib rfl rfl rfl) rfl (s2 [(32, iv p0.Imm), (25, iv p0.Op), (20, iv p0.Rs2), (15, iv p0.Rs1), (4, iv p0.Rd)] rfl trivial rfl (by kernel_rfl) (calS cf85 rfl (ref02_two_sim (p0 := 15) (hS7.bun [0, 1] [] rfl)  hx6) rfl fun v6 T6 w8 im8 rv6 => ?_)))
  obtain ⟨rfl, hS8, _⟩ := rv6
  have hS8 := hS8.unb
  refine ⟨st1 rfl (r_ld rfl isAgg3 (hS8.cell0 (i := 1) ⟨rfl, rfl⟩ (j := 4) rfl)) (st1 rfl (r_ld rfl isAgg3 (hS8.cell0 (i := 1) ⟨rfl, rfl⟩ (j := 0) rfl)) (st1 rfl (r_ld rfl isAgg3 (hS8.cell0 (i := 1) ⟨rfl, rfl⟩ (j := 3) rfl)) (st1 rfl (r_ld rfl isAgg3 (hS8.cell0 (i := 1) ⟨rfl, rfl⟩ (j := 2) rfl)) (st1 rfl (r_ld rfl isAgg3 (hS8.cell0 (i := 1) ⟨rfl, rfl⟩ (j := 1) rfl)) (st0))))), ?_⟩
  obtain ⟨y7, hx7, hm⟩ := bindS hm
  refine s0 rfl trivial (fun _ => r_ib rfl rfl rfl) rfl (s0 rfl trivial (fun _ => r_ib rfl rfl rfl) rfl (s2 [(32, iv p0.Imm), (25, iv p0.Op), (20, iv p0.Rs2), (15, iv p0.Rs1), (4, iv p0.Rd)] rfl trivial rfl (by kernel_rfl) (calS cf85 rfl (ref02_two_sim (p0 := 20) (hS8.bun [0, 1] [] rfl)  hx7) rfl fun v7 T7 w9 im9 rv7 => ?_)))
  obtain ⟨rfl, hS9, _⟩ := rv7
  have hS9 := hS9.unb
  refine ⟨st1 rfl (r_ld rfl isAgg3 (hS9.cell0 (i := 1) ⟨rfl, rfl⟩ (j := 4) rfl)) (st1 rfl (r_ld rfl isAgg3 (hS9.cell0 (i := 1) ⟨rfl, rfl⟩ (j := 0) rfl)) (st1 rfl (r_ld rfl isAgg3 (hS9.cell0 (i := 1) ⟨rfl, rfl⟩ (j := 3) rfl)) (st1 rfl (r_ld rfl isAgg3 (hS9.cell0 (i := 1) ⟨rfl, rfl⟩ (j := 2) rfl)) (st1 rfl (r_ld rfl isAgg3 (hS9.cell0 (i := 1) ⟨rfl, rfl⟩ (j := 1) rfl)) (st0))))), ?_⟩
  obtain ⟨y8, hx8, hm⟩ := bindS hm
  refine s0 rfl trivial (fun _ => r_ib rfl rfl rfl) rfl (s0 rfl trivial (fun _ => r_ib rfl rfl rfl) rfl (s2 [(32, iv p0.Imm), (20, iv p0.Rs2), (15, iv p0.Rs1), (4, iv p0.Rd)] rfl trivial rfl (by kernel_rfl) (calS cf88 rfl (ref02_Seventh_sim (p0 := p0.Op) (hS9.bun [0, 1] [] rfl)  hx8) rfl fun v8 T8 w10 im10 rv8 => ?_)))
  obtain ⟨rfl, hS10, _⟩ := rv8
  have hS10 := hS10.unb
  refine ⟨st1 rfl (r_ld rfl isAgg3 (hS10.cell0 (i := 1) ⟨rfl, rfl⟩ (j := 4) rfl)) (st1 rfl (r_ld rfl isAgg3 (hS10.cell0 (i := 1) ⟨rfl, rfl⟩ (j := 3) rfl)) (st1 rfl (r_ld rfl isAgg3 (hS10.cell0 (i := 1) ⟨rfl, rfl⟩ (j := 2) rfl)) (st1 rfl (r_ld rfl isAgg3 (hS10.cell0 (i := 1) ⟨rfl, rfl⟩ (j := 1) rfl)) (st0)))), ?_⟩
  obtain ⟨y9, hx9, hm⟩ := bindS hm
  refine s2 [(32, iv p0.Imm), (20, iv p0.Rs2), (15, iv p0.Rs1), (4, iv p0.Rd)] rfl trivial rfl (by kernel_rfl) (calS cf85 rfl (ref02_two_sim (p0 := 25) (hS10.bun [0, 1] [] rfl)  hx9) rfl fun v9 T9 w11 im11 rv9 => ?_)
  obtain ⟨rfl, hS11, _⟩ := rv9
  have hS11 := hS11.unb
  refine ⟨st1 rfl (r_ld rfl isAgg3 (hS11.cell0 (i := 1) ⟨rfl, rfl⟩ (j := 4) rfl)) (st1 rfl (r_ld rfl isAgg3 (hS11.cell0 (i := 1) ⟨rfl, rfl⟩ (j := 3) rfl)) (st1 rfl (r_ld rfl isAgg3 (hS11.cell0 (i := 1) ⟨rfl, rfl⟩ (j := 2) rfl)) (st1 rfl (r_ld rfl isAgg3 (hS11.cell0 (i := 1) ⟨rfl, rfl⟩ (j := 1) rfl)) (st0)))), ?_⟩
  obtain ⟨y10, hx10, hm⟩ := bindS hm
  refine s0 rfl trivial (fun _ => r_ib rfl rfl rfl) rfl (s0 rfl trivial (fun _ => r_ib rfl rfl rfl) rfl (s2 [(20, iv p0.Rs2), (15, iv p0.Rs1), (4, iv p0.Rd)] rfl trivial rfl (by kernel_rfl) (calS cf89 rfl (ref02_Spread_sim (p0 := y1) (p1 := p0.Imm) (hS11.bun [0, 1] [] rfl)  hx10) rfl fun v10 T10 w12 im12 rv10 => ?_)))
  obtain ⟨rfl, hS12, _⟩ := rv10
  have hS12 := hS12.unb
  refine ⟨st1 rfl (r_ld rfl isAgg3 (hS12.cell0 (i := 1) ⟨rfl, rfl⟩ (j := 3) rfl)) (st1 rfl (r_ld rfl isAgg3 (hS12.cell0 (i := 1) ⟨rfl, rfl⟩ (j := 2) rfl)) (st1 rfl (r_ld rfl isAgg3 (hS12.cell0 (i := 1) ⟨rfl, rfl⟩ (j := 1) rfl)) (st0))), ?_⟩
  refine s0 rfl trivial (fun _ => r_ib rfl rfl rfl) rfl (s0 rfl trivial (fun _ => r_cv rfl underlying3 underlying39) rfl (s0 rfl trivial (fun _ => r_zi rfl) rfl (se (t_thenR [(2, .int .u32 (IntKind.wrap .u32 (IntKind.wrap .i64 ((IntKind.wrap .i64 ((IntKind.wrap .i64 ((IntKind.wrap .i64 ((IntKind.wrap .i64 ((IntKind.wrap .i64 (y2 + (IntKind.wrap .i64 (p0.Rd * y3)))) + (IntKind.wrap .i64 (y4 * y5)))) + (IntKind.wrap .i64 (p0.Rs1 * y6)))) + (IntKind.wrap .i64 (p0.Rs2 * y7)))) + (IntKind.wrap .i64 (y8 * y9)))) + y10))))] ⟨rfl, trivial⟩ fun J => ?_))))
  have hm := oI hm; subst hm
  exact rtn (ret1 rfl rfl ⟨_, rfl, _, (iT im1 (iT im2 (iT im3 (iT im4 (iT im5 (iT im6 (iT im7 (iT im8 (iT im9 (iT im10 (iT im11 im12))))))))))), ⟨rfl, hS12.sel [0] rfl, trivial⟩⟩)

theorem ref02_Decode_sim {p0 : Int} {r : GInst × Int} (hS : Sep g T0 w0 [R])  (hm : ref02_Decode p0 = some r) :
    Calls Tryz.prog 43 #[.int .u32 p0] w0 (RetS T0 w0 fun T w v => v = .tuple #[.agg (cGInst r.1).toArray, iv r.2] ∧ Sep g T w [R] ∧ True) := by
  refine enter (args := [.int .u32 p0]) Tryz.func43 rfl Tryz.ntmps43 rfl fun J => ?_
  unfold ref02_Decode at hm
  refine sq2 (rg (wl rfl (alS (zs := [iv 0, iv 0, iv 0, iv 0, iv 0]) zeroValue28 rfl hS fun w1 b1 im1 hS1 => ?_)))
  refine pv (r_zi rfl) (nil (t_then ?_))
  refine sq2 (rg (pv (r_mi rfl) (pv (r_cv rfl underlying39 underlying3) (pv (r_zi rfl) (nil (t_then ?_))))))
  refine sq2 (sq2 (rg (pv (r_zi rfl) (nil (t_then ?_)))))
  obtain ⟨o1, ho1, hq1⟩ := bindS hm
  obtain ⟨bd1, hbd1, ho1⟩ := loop_open ho1
  refine blk (wp_loop_ghost (fun m a w2 => ∃ (J : JV) (T1 : TP) (x1 : Int), a = env (nf 46) J [(0, .int .u32 p0), (2, pt b1 0), (4, iv (IntKind.wrap .i64 p0)), (5, iv x1)] ∧ Im T0 w1 T1 w2 ∧ Sep g T1 w2 [boxA b1 [iv 0, iv 0, iv 0, iv 0, iv 0], R] ∧ loopM bd1 m x1 = some o1) NN ⟨_, _, 1, env_has ⟨rfl, rfl, rfl, rfl, trivial⟩, Im.refl, hS1.sel [0, 1] rfl, ho1⟩ ?_)
  rintro m _ w2 ⟨J, T1, x1, rfl, im2, hS2, ho1⟩
  obtain ⟨m1, z1, rfl, hm, hn1⟩ := loop_round ho1
  rw [hbd1] at hm
  refine sq2 (sq2 (rg (pv (r_mi rfl) (pv (r_ib rfl rfl rfl) (nil (t_then ?_))))))
  refine cnd rfl (fun hb1 => ?_) (fun hb1 => ?_)
  · have hm := ctrue hb1 hm
    refine skp (t_then ?_)
    refine sq2 (blk (sq2 ?_))
    obtain ⟨y1, hx1, hm⟩ := bindS hm
    refine rg (pv (r_mi rfl) (wl rfl (calS cf23 rfl (ref02_Form_sim (p0 := x1) (hS2.bun [0, 1] [] rfl)  hx1) rfl fun v1 T2 w3 im3 rv1 => ?_)))
    obtain ⟨rfl, hS3, _⟩ := rv1
    have hS3 := hS3.unb
    refine pv (r_zi rfl) (nil (t_then ?_))
    refine sq2 ?_
    obtain ⟨y2, hx2, hm⟩ := bindS hm
    refine rg (pv (r_mi rfl) (pv (r_mi rfl) (pv (r_mi rfl) (wl rfl (calS cf65 rfl (ref02_Gather_sim (p0 := y1) (p1 := IntKind.wrap .i64 p0) (hS3.bun [0, 1] [] rfl)  hx2) rfl fun v2 T3 w4 im4 rv2 => ?_)))))
    obtain ⟨rfl, hS4, _⟩ := rv2
    have hS4 := hS4.unb
    refine pv (r_bd (by kernel_rfl) rfl (u := .agg #[iv x1, iv 0, iv 0, iv 0, iv y2])) (wl rfl (alS (zs := [iv 0, iv 0, iv 0, iv 0, iv 0]) zeroValue28 rfl hS4 fun w5 b2 im5 hS5 => ?_))
    refine wl rfl (st0B (q := 0) hS5 ⟨rfl, rfl⟩ rfl rfl rfl sizeOf28 rfl rfl rfl fun w6 im6 hS6 => ?_)
    refine nil (t_then ?_)
    obtain ⟨kk1, hkk1, hm⟩ := jn_open hm
    refine cut (fun a w7 => ∃ (J : JV) (T4 : TP) (x2 : GInst), a = env (nf 46) J [(0, .int .u32 p0), (2, pt b1 0), (4, iv (IntKind.wrap .i64 p0)), (5, iv x1), (6, .int .u8 y1), (7, pt b2 0)] ∧ Im T3 w6 T4 w7 ∧ Sep g T4 w7 [boxA b2 (cGInst x2), boxA b1 [iv 0, iv 0, iv 0, iv 0, iv 0], R] ∧ kk1 x2 = some z1) ?_ ?_
    · refine sq2 ?_
      obtain ⟨y3, hx3, hm⟩ := bindS hm
      refine rg (pv (r_mi rfl) (wl rfl (calS cf25 rfl (ref02_has_sim (p0 := y1) (p1 := 1) (hS6.bun [0, 1, 2] [] rfl)  hx3) rfl fun v3 T5 w8 im8 rv3 => ?_)))
      obtain ⟨rfl, hS7, _⟩ := rv3
      have hS7 := hS7.unb
      refine nil (t_then ?_)
      refine cnd rfl (fun hb2 => ?_) (fun hb2 => ?_)
      · have hm := ctrue hb2 hm
        obtain ⟨y4, hx4, hm⟩ := bindS hm
        refine rg (pv (r_mi rfl) (wl rfl (calS cf66 rfl (ref02_move_sim (p0 := IntKind.wrap .i64 p0) (p1 := 7) (p2 := 11) (p3 := 0) (hS7.bun [0, 1, 2] [] rfl)  hx4) rfl fun v4 T6 w9 im9 rv4 => ?_)))
        obtain ⟨rfl, hS8, _⟩ := rv4
        have hS8 := hS8.unb
        refine pv (r_fa rfl underlying28 rfl sizeOf3 rfl) (wl rfl (st0B (q := 0) hS8 ⟨rfl, rfl⟩ rfl rfl rfl sizeOf3 rfl rfl rfl fun w10 im10 hS9 => ?_))
        exact nil (t_then ⟨_, _, (⟨x1, y4, 0, 0, y2⟩ : GInst), env_has ⟨rfl, rfl, rfl, rfl, rfl, rfl, trivial⟩, (iT im8 (iT im9 im10)), hS9.sel [0, 1, 2] rfl, hm⟩)
      have hm := cfalse hb2 hm
      exact skp (t_then ⟨_, _, (⟨x1, 0, 0, 0, y2⟩ : GInst), env_has ⟨rfl, rfl, rfl, rfl, rfl, rfl, trivial⟩, im8, hS7.sel [0, 1, 2] rfl, hm⟩)
    rintro _ w7 ⟨J, T4, x2, rfl, im7, hS10, hm⟩
    rw [hkk1] at hm
    obtain ⟨kk2, hkk2, hm⟩ := jn_open hm
    refine cut (fun a w11 => ∃ (J : JV) (T7 : TP) (x3 : GInst), a = env (nf 46) J [(0, .int .u32 p0), (2, pt b1 0), (4, iv (IntKind.wrap .i64 p0)), (5, iv x1), (6, .int .u8 y1), (7, pt b2 0)] ∧ Im T4 w7 T7 w11 ∧ Sep g T7 w11 [boxA b2 (cGInst x3), boxA b1 [iv 0, iv 0, iv 0, iv 0, iv 0], R] ∧ kk2 x3 = some z1) ?_ ?_
    · refine sq2 ?_
      obtain ⟨y5, hx5, hm⟩ := bindS hm
      refine rg (pv (r_mi rfl) (wl rfl (calS cf25 rfl (ref02_has_sim (p0 := y1) (p1 := 2) (hS10.bun [0, 1, 2] [] rfl)  hx5) rfl fun v5 T8 w12 im12 rv5 => ?_)))
      obtain ⟨rfl, hS11, _⟩ := rv5
      have hS11 := hS11.unb
      refine nil (t_then ?_)
      refine cnd rfl (fun hb3 => ?_) (fun hb3 => ?_)
      · have hm := ctrue hb3 hm
        obtain ⟨y6, hx6, hm⟩ := bindS hm
        refine rg (pv (r_mi rfl) (wl rfl (calS cf66 rfl (ref02_move_sim (p0 := IntKind.wrap .i64 p0) (p1 := 15) (p2 := 19) (p3 := 0) (hS11.bun [0, 1, 2] [] rfl)  hx6) rfl fun v6 T9 w13 im13 rv6 => ?_)))
        obtain ⟨rfl, hS12, _⟩ := rv6
        have hS12 := hS12.unb
        refine pv (r_fa rfl underlying28 rfl sizeOf3 rfl) (wl rfl (st0B (q := 0) hS12 ⟨rfl, rfl⟩ rfl rfl rfl sizeOf3 rfl rfl rfl fun w14 im14 hS13 => ?_))
        exact nil (t_then ⟨_, _, ({ x2 with Rs1 := y6 }), env_has ⟨rfl, rfl, rfl, rfl, rfl, rfl, trivial⟩, (iT im12 (iT im13 im14)), hS13.sel [0, 1, 2] rfl, hm⟩)
      have hm := cfalse hb3 hm
      exact skp (t_then ⟨_, _, x2, env_has ⟨rfl, rfl, rfl, rfl, rfl, rfl, trivial⟩, im12, hS11.sel [0, 1, 2] rfl, hm⟩)
    rintro _ w11 ⟨J, T7, x3, rfl, im11, hS14, hm⟩
    rw [hkk2] at hm
    obtain ⟨kk3, hkk3, hm⟩ := jn_open hm
    refine cut (fun a w15 => ∃ (J : JV) (T10 : TP) (x4 : GInst), a = env (nf 46) J [(0, .int .u32 p0), (2, pt b1 0), (4, iv (IntKind.wrap .i64 p0)), (5, iv x1), (7, pt b2 0)] ∧ Im T7 w11 T10 w15 ∧ Sep g T10 w15 [boxA b2 (cGInst x4), boxA b1 [iv 0, iv 0, iv 0, iv 0, iv 0], R] ∧ kk3 x4 = some z1) ?_ ?_
    · refine sq2 ?_
      obtain ⟨y7, hx7, hm⟩ := bindS hm
      refine rg (pv (r_mi rfl) (wl rfl (calS cf25 rfl (ref02_has_sim (p0 := y1) (p1 := 3) (hS14.bun [0, 1, 2] [] rfl)  hx7) rfl fun v7 T11 w16 im16 rv7 => ?_)))
      obtain ⟨rfl, hS15, _⟩ := rv7
      have hS15 := hS15.unb
      refine nil (t_then ?_)
      refine cnd rfl (fun hb4 => ?_) (fun hb4 => ?_)
      · have hm := ctrue hb4 hm
        obtain ⟨y8, hx8, hm⟩ := bindS hm
        refine rg (pv (r_mi rfl) (wl rfl (calS cf66 rfl (ref02_move_sim (p0 := IntKind.wrap .i64 p0) (p1 := 20) (p2 := 24) (p3 := 0) (hS15.bun [0, 1, 2] [] rfl)  hx8) rfl fun v8 T12 w17 im17 rv8 => ?_)))
        obtain ⟨rfl, hS16, _⟩ := rv8
        have hS16 := hS16.unb
        refine pv (r_fa rfl underlying28 rfl sizeOf3 rfl) (wl rfl (st0B (q := 0) hS16 ⟨rfl, rfl⟩ rfl rfl rfl sizeOf3 rfl rfl rfl fun w18 im18 hS17 => ?_))
        exact nil (t_then ⟨_, _, ({ x3 with Rs2 := y8 }), env_has ⟨rfl, rfl, rfl, rfl, rfl, trivial⟩, (iT im16 (iT im17 im18)), hS17.sel [0, 1, 2] rfl, hm⟩)
      have hm := cfalse hb4 hm
      exact skp (t_then ⟨_, _, x3, env_has ⟨rfl, rfl, rfl, rfl, rfl, trivial⟩, im16, hS15.sel [0, 1, 2] rfl, hm⟩)
    rintro _ w15 ⟨J, T10, x4, rfl, im15, hS18, hm⟩
    rw [hkk3] at hm
    refine sq2 ?_
    obtain ⟨y9, hx9, hm⟩ := bindS hm
    refine rg (pv (r_ldS rfl isAgg28 sizeOf28 rfl (hS18.cells0 (i := 0) ⟨rfl, rfl⟩ (o := 0) rfl) (cs := (cGInst x4))) (wl rfl (calS cf8 rfl (ref02_Right_2_sim (p0 := x4) (hS18.bun [0, 1, 2] [] rfl)  hx9) rfl fun v9 T13 w19 im19 rv9 => ?_)))
    obtain ⟨rfl, hS19, _⟩ := rv9
    have hS19 := hS19.unb
    refine pv (r_mb rfl) (?_)
    rcases Bool.eq_false_or_eq_true y9 with hb5 | hb5
    · have hm := ctrue hb5 hm
      obtain ⟨y10, hx10, hm⟩ := bindS hm
      refine gT (d0 := 38) rfl rfl hb5 (pv (r_ldS rfl isAgg28 sizeOf28 rfl (hS19.cells0 (i := 0) ⟨rfl, rfl⟩ (o := 0) rfl) (cs := (cGInst x4))) (gT (d0 := 38) rfl rfl hb5 (wl rfl (calS cf67 rfl (ref02_Word_sim (p0 := x4) (hS19.bun [0, 1, 2] [] rfl)  hx10) rfl fun v10 T14 w20 im20 rv10 => ?_))))
      obtain ⟨rfl, hS20, _⟩ := rv10
      have hS20 := hS20.unb
      refine gT (d0 := 38) rfl rfl hb5 (pv (r_mi rfl) (gT (d0 := 38) rfl rfl hb5 (pv (r_ib rfl rfl rfl) (pv (r_pkt rfl hb5 rfl) (nil (t_then ?_))))))
      refine cnd rfl (fun hb6 => ?_) (fun hb6 => ?_)
      · have hm := ctrue hb6 hm
        refine sq2 (rg (pv (r_ldS rfl isAgg28 sizeOf28 rfl (hS20.cells0 (i := 0) ⟨rfl, rfl⟩ (o := 0) rfl) (cs := (cGInst x4))) (wl rfl (st0B (q := 1) hS20 ⟨rfl, rfl⟩ rfl rfl rfl sizeOf28 rfl rfl rfl fun w21 im21 hS21 => ?_))))
        refine pv (r_zi rfl) (nil (t_then ?_))
        have hm := oI hm; subst hm
        have hn1 : _ = Lp.ret _ := hn1
        subst hn1
        have hm := thn_ret hq1
        have hm := oI hm; subst hm
        exact rtn (r_blk (r_then (r_then (r_blk (r_then (retN (vs := [.agg (cGInst x4).toArray, iv 0]) rfl ⟨rvS rfl isAgg28 sizeOf28 rfl (hS21.bx (i := 1) ⟨rfl, rfl⟩), rfl, trivial⟩ rfl ⟨_, rfl, _, (iT im1 (iT im2 (iT im3 (iT im4 (iT im5 (iT im6 (iT im7 (iT im11 (iT im15 (iT im19 (iT im20 im21))))))))))), ⟨rfl, hS21.sel [2] rfl, trivial⟩⟩))))))
      have hm := cfalse hb6 hm
      refine skp (t_blk (t_then ?_))
      have hm := oI hm; subst hm
      exact rg (pv (r_mi rfl) (pv (r_ib rfl rfl rfl) (pv (r_zi rfl) (nil (t_then ⟨m1, Nat.lt_succ_self _, _, _, (IntKind.wrap .i64 (x1 + 1)), env_has ⟨rfl, rfl, rfl, rfl, trivial⟩, (iT im2 (iT im3 (iT im4 (iT im5 (iT im6 (iT im7 (iT im11 (iT im15 (iT im19 im20))))))))), hS20.sel [1, 2] rfl, hn1⟩)))))
    have hm := cfalse hb5 hm
    refine gF (d0 := 38) rfl rfl (by rw [hb5]; rfl) (gF (d0 := 38) rfl rfl (by rw [hb5]; rfl) (gF (d0 := 38) rfl rfl (by rw [hb5]; rfl) (gF (d0 := 38) rfl rfl (by rw [hb5]; rfl) (pv (r_pkf rfl hb5 rfl) (nil (t_then ?_))))))
    refine cnd (b := false) rfl (fun h => nomatch h) (fun _ => ?_)
    refine skp (t_blk (t_then ?_))
    have hm := oI hm; subst hm
    exact rg (pv (r_mi rfl) (pv (r_ib rfl rfl rfl) (pv (r_zi rfl) (nil (t_then ⟨m1, Nat.lt_succ_self _, _, _, (IntKind.wrap .i64 (x1 + 1)), env_has ⟨rfl, rfl, rfl, rfl, trivial⟩, (iT im2 (iT im3 (iT im4 (iT im5 (iT im6 (iT im7 (iT im11 (iT im15 im19)))))))), hS19.sel [1, 2] rfl, hn1⟩)))))
  have hm := cfalse hb1 hm
  have hm := oI hm; subst hm
  have hn1 : _ = Lp.brk _ := hn1
  subst hn1
  have hm := thn_brk hq1
  refine xt (x_then (x_then (x_eq (t_then ?_))))
  refine sq2 (rg (pv (r_bd (by kernel_rfl) rfl (u := .agg #[iv 0, iv 0, iv 0, iv 0, iv 0])) (wl rfl (st0B (q := 0) hS2 ⟨rfl, rfl⟩ rfl rfl rfl sizeOf28 rfl rfl rfl fun w22 im22 hS22 => ?_))))
  refine pv (r_zi rfl) (nil (t_then ?_))
  have hm := oI hm; subst hm
  exact rtn (retN (vs := [.agg #[iv 0, iv 0, iv 0, iv 0, iv 0], iv 3]) rfl ⟨rvS rfl isAgg28 sizeOf28 rfl (hS22.bx (i := 0) ⟨rfl, rfl⟩), rfl, trivial⟩ rfl ⟨_, rfl, _, (iT im1 (iT im2 im22)), ⟨rfl, hS22.sel [1] rfl, trivial⟩⟩)

theorem ref06_Hex_sim {p0 : Int} {r : (List UInt8)} (hS : Sep g T0 w0 [R])  (hm : ref06_Hex p0 = some r) :
    Calls Tryz.prog 44 #[.int .u32 p0] w0 (RetS T0 w0 fun T w v => v = .string ⟨r.toArray⟩ ∧ Sep g T w [R] ∧ True) := by
  refine enter (args := [.int .u32 p0]) Tryz.func44 rfl Tryz.ntmps44 rfl fun J => ?_
  unfold ref06_Hex at hm
  refine sq2 (rg (pv (r_zt rfl) (nil (t_then ?_))))
  refine sq2 (rg (pv (r_zt rfl) (nil (t_then ?_))))
  refine sq2 (rg (pv (r_zt rfl) (nil (t_then ?_))))
  refine sq2 (rg (pv (r_mi rfl) (pv (r_cv rfl underlying39 underlying3) (pv (r_zi rfl) (nil (t_then ?_))))))
  refine sq2 (sq2 (rg (pv (r_zi rfl) (nil (t_then ?_)))))
  obtain ⟨o1, ho1, hq1⟩ := bindS hm
  obtain ⟨bd1, hbd1, ho1⟩ := loop_open ho1
  refine blk (wp_loop_ghost (fun m a w1 => ∃ (J : JV) (T1 : TP) (x1 : List UInt8) (x2 : Int) (x3 : Int), a = env (nf 25) J [(3, .string ⟨([48, 49, 50, 51, 52, 53, 54, 55, 56, 57, 97, 98, 99, 100, 101, 102] : List UInt8).toArray⟩), (4, .string ⟨x1.toArray⟩), (5, iv x2), (6, iv x3)] ∧ Im T0 w0 T1 w1 ∧ Sep g T1 w1 [R] ∧ loopM bd1 m (x1, x2, x3) = some o1) NN ⟨_, _, ([] : List UInt8), (IntKind.wrap .i64 p0), 0, env_has ⟨rfl, rfl, rfl, rfl, trivial⟩, Im.refl, hS.sel [0] rfl, ho1⟩ ?_)
  rintro m _ w1 ⟨J, T1, x1, x2, x3, rfl, im1, hS1, ho1⟩
  obtain ⟨m1, z1, rfl, hm, hn1⟩ := loop_round ho1
  rw [hbd1] at hm
  refine sq2 (sq2 (rg (pv (r_mi rfl) (pv (r_ib rfl rfl rfl) (nil (t_then ?_))))))
  refine cnd rfl (fun hb1 => ?_) (fun hb1 => ?_)
  · have hm := ctrue hb1 hm
    refine skp (t_then ?_)
    refine sq2 (blk (sq2 ?_))
    obtain ⟨u1, hx1, hm⟩ := bindS hm
    obtain ⟨z_1, hro1, hm⟩ := bindS hm
    refine rg (pv (r_mt rfl) (pv (r_mi rfl) (pv (r_irm rfl rfl (by decide)) (pv (r_mi rfl) (pv (r_irm rfl rfl (by decide)) (pv (r_ib rfl rfl rfl) (pv (r_ss rfl ⟨_, rfl⟩ ⟨_, rfl⟩ hx1 underlying9) (pv (r_mt rfl) (pv (r_sad rfl rfl (room_some hro1)) (pv (r_zt rfl) (nil (t_then ?_))))))))))))
    refine rg (pv (r_mi rfl) (pv (r_iq rfl rfl (by decide)) (pv (r_zi rfl) (nil (t_blk (t_then ?_))))))
    have hm := oI hm; subst hm
    exact rg (pv (r_mi rfl) (pv (r_ib rfl rfl rfl) (pv (r_zi rfl) (nil (t_then ⟨m1, Nat.lt_succ_self _, _, _, (u1 ++ x1), (IntKind.wrap .i64 (Int.tdiv x2 16)), (IntKind.wrap .i64 (x3 + 1)), env_has ⟨rfl, rfl, rfl, rfl, trivial⟩, im1, hS1.sel [0] rfl, hn1⟩)))))
  have hm := cfalse hb1 hm
  have hm := oI hm; subst hm
  have hn1 : _ = Lp.brk _ := hn1
  subst hn1
  have hm := thn_brk hq1
  refine xt (x_then (x_then (x_eq (t_then ?_))))
  refine sq2 (rg (pv (r_mt rfl) (pv (r_zt rfl) (nil (t_then ?_)))))
  have hm := oI hm; subst hm
  exact rtn (ret1 rfl rfl ⟨_, rfl, _, im1, ⟨rfl, hS1.sel [0] rfl, trivial⟩⟩)

theorem ref06_Line_2_sim {p0 : GInst} {r : (List UInt8)} (hS : Sep g T0 w0 [R])  (hm : ref06_Line_2 p0 = some r) :
    Calls Tryz.prog 11 #[.agg (cGInst p0).toArray] w0 (RetS T0 w0 fun T w v => v = .string ⟨r.toArray⟩ ∧ Sep g T w [R] ∧ True) := by
  refine enter (args := [.agg (cGInst p0).toArray]) Tryz.func11 rfl Tryz.ntmps11 rfl fun J => ?_
  unfold ref06_Line_2 at hm
  refine sq2 (rg (wl rfl (bxS (cs := (cGInst p0)) rfl rfl hS fun w1 b1 im1 hS1 => ?_)))
  refine pv (r_zt rfl) (nil (t_then ?_))
  refine sq2 ?_
  obtain ⟨y1, hx1, hm⟩ := bindS hm
  refine rg (pv (r_fa rfl underlying28 rfl sizeOf3 rfl) (pv (r_ld rfl isAgg3 (hS1.cell0 (i := 0) ⟨rfl, rfl⟩ (j := 0) rfl)) (wl rfl (calS cf34 rfl (ref02_Name_sim (p0 := p0.Op) (hS1.bun [0, 1] [] rfl)  hx1) rfl fun v1 T1 w2 im2 rv1 => ?_))))
  obtain ⟨rfl, hS2, _⟩ := rv1
  have hS2 := hS2.unb
  obtain ⟨z_1, hro1, hm⟩ := bindS hm
  refine pv (r_sad rfl rfl (room_some hro1)) (pv (r_zt rfl) (nil (t_then ?_)))
  refine sq2 (rs [0, 1, 2, 0, 0, 1, 2, 0, 0, 1, 2, 0, 0, 1, 2, 0, 0, 0, 0] [0, 1, 4, 5, 8, 9, 12, 13, 2, 3, 6, 7, 10, 11, 14, 15, 16, 17, 18] mix (by kernel_rfl) hS2.lt fun w3 i1 => ?_)
  have im3 := i1.imm
  have hS3 := hS2.keep i1 (fun _ h => h)
  obtain ⟨y2, hx2, hm⟩ := bindS hm
  refine s0 rfl trivial (fun _ => r_fa rfl underlying28 rfl sizeOf3 rfl) rfl (s1 rfl trivial (r_ld rfl isAgg3 (hS3.cell0 (i := 0) ⟨rfl, rfl⟩ (j := 1) rfl)) rfl (s0 rfl trivial (fun _ => r_fa rfl underlying28 rfl sizeOf3 rfl) rfl (s1 rfl trivial (r_ld rfl isAgg3 (hS3.cell0 (i := 0) ⟨rfl, rfl⟩ (j := 2) rfl)) rfl (s0 rfl trivial (fun _ => r_fa rfl underlying28 rfl sizeOf3 rfl) rfl (s1 rfl trivial (r_ld rfl isAgg3 (hS3.cell0 (i := 0) ⟨rfl, rfl⟩ (j := 3) rfl)) rfl (s0 rfl trivial (fun _ => r_fa rfl underlying28 rfl sizeOf3 rfl) rfl (s1 rfl trivial (r_ld rfl isAgg3 (hS3.cell0 (i := 0) ⟨rfl, rfl⟩ (j := 4) rfl)) rfl (s2 [(13, iv p0.Imm), (9, iv p0.Rs2), (5, iv p0.Rs1)] rfl trivial rfl (by kernel_rfl) (calS cf35 rfl (ref06_Num_sim (p0 := p0.Rd) (hS3.bun [0, 1] [] rfl)  hx2) rfl fun v2 T2 w4 im4 rv2 => ?_)))))))))
  obtain ⟨rfl, hS4, _⟩ := rv2
  have hS4 := hS4.unb
  refine ⟨st1 rfl (r_ld rfl isAgg3 (hS4.cell0 (i := 0) ⟨rfl, rfl⟩ (j := 4) rfl)) (st1 rfl (r_ld rfl isAgg3 (hS4.cell0 (i := 0) ⟨rfl, rfl⟩ (j := 3) rfl)) (st1 rfl (r_ld rfl isAgg3 (hS4.cell0 (i := 0) ⟨rfl, rfl⟩ (j := 2) rfl)) (st0))), ?_⟩
  obtain ⟨z_2, hro2, hm⟩ := bindS hm
  obtain ⟨y3, hx3, hm⟩ := bindS hm
  refine s0 rfl trivial (fun _ => r_sad rfl rfl (room_some hro2)) rfl (s2 [(13, iv p0.Imm), (9, iv p0.Rs2)] rfl trivial rfl (by kernel_rfl) (calS cf35 rfl (ref06_Num_sim (p0 := p0.Rs1) (hS4.bun [0, 1] [] rfl)  hx3) rfl fun v3 T3 w5 im5 rv3 => ?_))
  obtain ⟨rfl, hS5, _⟩ := rv3
  have hS5 := hS5.unb
  refine ⟨st1 rfl (r_ld rfl isAgg3 (hS5.cell0 (i := 0) ⟨rfl, rfl⟩ (j := 4) rfl)) (st1 rfl (r_ld rfl isAgg3 (hS5.cell0 (i := 0) ⟨rfl, rfl⟩ (j := 3) rfl)) (st0)), ?_⟩
  obtain ⟨z_3, hro3, hm⟩ := bindS hm
  obtain ⟨y4, hx4, hm⟩ := bindS hm
  refine s0 rfl trivial (fun _ => r_sad rfl rfl (room_some hro3)) rfl (s2 [(13, iv p0.Imm)] rfl trivial rfl (by kernel_rfl) (calS cf35 rfl (ref06_Num_sim (p0 := p0.Rs2) (hS5.bun [0, 1] [] rfl)  hx4) rfl fun v4 T4 w6 im6 rv4 => ?_))
  obtain ⟨rfl, hS6, _⟩ := rv4
  have hS6 := hS6.unb
  refine ⟨st1 rfl (r_ld rfl isAgg3 (hS6.cell0 (i := 0) ⟨rfl, rfl⟩ (j := 4) rfl)) (st0), ?_⟩
  obtain ⟨z_4, hro4, hm⟩ := bindS hm
  obtain ⟨y5, hx5, hm⟩ := bindS hm
  refine s0 rfl trivial (fun _ => r_sad rfl rfl (room_some hro4)) rfl (s2 [] rfl trivial rfl (by kernel_rfl) (calS cf35 rfl (ref06_Num_sim (p0 := p0.Imm) (hS6.bun [0, 1] [] rfl)  hx5) rfl fun v5 T5 w7 im7 rv5 => ?_))
  obtain ⟨rfl, hS7, _⟩ := rv5
  have hS7 := hS7.unb
  refine ⟨st0, ?_⟩
  refine s0 rfl trivial (fun _ => r_zt rfl) rfl (s0 rfl trivial (fun _ => r_zt rfl) rfl (s0 rfl trivial (fun _ => r_zt rfl) rfl (s0 rfl trivial (fun _ => r_zt rfl) rfl (se (t_then ?_)))))
  refine sq2 ?_
  obtain ⟨y6, hx6, hm⟩ := bindS hm
  refine rg (pv (r_fa rfl underlying28 rfl sizeOf3 rfl) (pv (r_ld rfl isAgg3 (hS7.cell0 (i := 0) ⟨rfl, rfl⟩ (j := 0) rfl)) (wl rfl (calS cf23 rfl (ref02_Form_sim (p0 := p0.Op) (hS7.bun [0, 1] [] rfl)  hx6) rfl fun v6 T6 w8 im8 rv6 => ?_))))
  obtain ⟨rfl, hS8, _⟩ := rv6
  have hS8 := hS8.unb
  refine pv (r_zi rfl) (nil (t_then ?_))
  refine sq2 (sq2 (rg (pv (r_mi rfl) (pv (r_ib rfl rfl rfl) (nil (t_thenR [(1, pt b1 0), (3, .string ⟨(y1 ++ ([32] : List UInt8)).toArray⟩), (4, .string ⟨(([120] : List UInt8) ++ y2).toArray⟩), (5, .string ⟨(([120] : List UInt8) ++ y3).toArray⟩), (6, .string ⟨(([120] : List UInt8) ++ y4).toArray⟩), (7, .string ⟨y5.toArray⟩), (8, .int .u8 y6), (32, .bool (y6 == 82))] ⟨rfl, rfl, rfl, rfl, rfl, rfl, rfl, rfl, trivial⟩ fun J => ?_))))))
  refine cnd rfl (fun hb1 => ?_) (fun hb1 => ?_)
  · have hm := ctrue hb1 hm
    refine sq2 ?_
    obtain ⟨z_5, hro5, hm⟩ := bindS hm
    obtain ⟨z_6, hro6, hm⟩ := bindS hm
    obtain ⟨z_7, hro7, hm⟩ := bindS hm
    obtain ⟨z_8, hro8, hm⟩ := bindS hm
    obtain ⟨z_9, hro9, hm⟩ := bindS hm
    refine rg (pv (r_mt rfl) (pv (r_mt rfl) (pv (r_sad rfl rfl (room_some hro5)) (pv (r_sad rfl rfl (room_some hro6)) (pv (r_mt rfl) (pv (r_sad rfl rfl (room_some hro7)) (pv (r_sad rfl rfl (room_some hro8)) (pv (r_mt rfl) (pv (r_sad rfl rfl (room_some hro9)) (pv (r_zt rfl) (nil (t_then ?_))))))))))))
    have hm := oI hm; subst hm
    exact rtn (r_then (ret1 rfl rfl ⟨_, rfl, _, (iT im1 (iT im2 (iT im3 (iT im4 (iT im5 (iT im6 (iT im7 im8))))))), ⟨rfl, hS8.sel [1] rfl, trivial⟩⟩))
  have hm := cfalse hb1 hm
  refine skp (t_then ?_)
  refine sq2 (sq2 (rg (pv (r_mi rfl) (pv (r_ib rfl rfl rfl) (pv (r_mb rfl) (?_))))))
  rcases Bool.eq_false_or_eq_true (y6 == 85) with hb2 | hb2
  · have hm := ctrue hb2 hm
    refine gF (d0 := 44) rfl rfl (by rw [hb2]; rfl) (gF (d0 := 44) rfl rfl (by rw [hb2]; rfl) (pv (r_pkt rfl hb2 rfl) (nil (t_then ?_))))
    refine cnd (b := true) rfl (fun _ => ?_) (fun h => nomatch h)
    refine sq2 ?_
    obtain ⟨z_46, hro46, hm⟩ := bindS hm
    obtain ⟨z_47, hro47, hm⟩ := bindS hm
    obtain ⟨z_48, hro48, hm⟩ := bindS hm
    refine rg (pv (r_mt rfl) (pv (r_mt rfl) (pv (r_sad rfl rfl (room_some hro46)) (pv (r_sad rfl rfl (room_some hro47)) (pv (r_mt rfl) (pv (r_sad rfl rfl (room_some hro48)) (pv (r_zt rfl) (nil (t_then ?_)))))))))
    have hm := oI hm; subst hm
    exact rtn (r_then (ret1 rfl rfl ⟨_, rfl, _, (iT im1 (iT im2 (iT im3 (iT im4 (iT im5 (iT im6 (iT im7 im8))))))), ⟨rfl, hS8.sel [1] rfl, trivial⟩⟩))
  have hm := cfalse hb2 hm
  refine gT (d0 := 44) rfl rfl hb2 (pv (r_mi rfl) (gT (d0 := 44) rfl rfl hb2 (pv (r_ib rfl rfl rfl) (pv (r_pkf rfl hb2 rfl) (nil (t_then ?_))))))
  refine cnd rfl (fun hb3 => ?_) (fun hb3 => ?_)
  · have hm := ctrue hb3 hm
    refine sq2 ?_
    obtain ⟨z_10, hro10, hm⟩ := bindS hm
    obtain ⟨z_11, hro11, hm⟩ := bindS hm
    obtain ⟨z_12, hro12, hm⟩ := bindS hm
    refine rg (pv (r_mt rfl) (pv (r_mt rfl) (pv (r_sad rfl rfl (room_some hro10)) (pv (r_sad rfl rfl (room_some hro11)) (pv (r_mt rfl) (pv (r_sad rfl rfl (room_some hro12)) (pv (r_zt rfl) (nil (t_then ?_)))))))))
    have hm := oI hm; subst hm
    exact rtn (r_then (ret1 rfl rfl ⟨_, rfl, _, (iT im1 (iT im2 (iT im3 (iT im4 (iT im5 (iT im6 (iT im7 im8))))))), ⟨rfl, hS8.sel [1] rfl, trivial⟩⟩))
  have hm := cfalse hb3 hm
  refine skp (t_then ?_)
  refine sq2 (sq2 (rg (pv (r_mi rfl) (pv (r_ib rfl rfl rfl) (nil (t_then ?_))))))
  refine cnd rfl (fun hb4 => ?_) (fun hb4 => ?_)
  · have hm := ctrue hb4 hm
    refine sq2 ?_
    obtain ⟨z_13, hro13, hm⟩ := bindS hm
    obtain ⟨z_14, hro14, hm⟩ := bindS hm
    obtain ⟨z_15, hro15, hm⟩ := bindS hm
    obtain ⟨z_16, hro16, hm⟩ := bindS hm
    obtain ⟨z_17, hro17, hm⟩ := bindS hm
    refine rg (pv (r_mt rfl) (pv (r_mt rfl) (pv (r_sad rfl rfl (room_some hro13)) (pv (r_sad rfl rfl (room_some hro14)) (pv (r_mt rfl) (pv (r_sad rfl rfl (room_some hro15)) (pv (r_sad rfl rfl (room_some hro16)) (pv (r_mt rfl) (pv (r_sad rfl rfl (room_some hro17)) (pv (r_zt rfl) (nil (t_thenR [(2, .string ⟨((((((y1 ++ ([32] : List UInt8)) ++ (([120] : List UInt8) ++ y3)) ++ ([44, 32] : List UInt8)) ++ (([120] : List UInt8) ++ y4)) ++ ([44, 32] : List UInt8)) ++ y5).toArray⟩)] ⟨rfl, trivial⟩ fun J => ?_))))))))))))
    have hm := oI hm; subst hm
    exact rtn (r_then (ret1 rfl rfl ⟨_, rfl, _, (iT im1 (iT im2 (iT im3 (iT im4 (iT im5 (iT im6 (iT im7 im8))))))), ⟨rfl, hS8.sel [1] rfl, trivial⟩⟩))
  have hm := cfalse hb4 hm
  refine skp (t_then ?_)
  refine sq2 (sq2 (rg (pv (r_mi rfl) (pv (r_ib rfl rfl rfl) (nil (t_then ?_))))))
  refine cnd rfl (fun hb5 => ?_) (fun hb5 => ?_)
  · have hm := ctrue hb5 hm
    refine sq2 ?_
    obtain ⟨z_18, hro18, hm⟩ := bindS hm
    obtain ⟨z_19, hro19, hm⟩ := bindS hm
    obtain ⟨z_20, hro20, hm⟩ := bindS hm
    obtain ⟨z_21, hro21, hm⟩ := bindS hm
    obtain ⟨z_22, hro22, hm⟩ := bindS hm
    obtain ⟨z_23, hro23, hm⟩ := bindS hm
    refine rg (pv (r_mt rfl) (pv (r_mt rfl) (pv (r_sad rfl rfl (room_some hro18)) (pv (r_sad rfl rfl (room_some hro19)) (pv (r_mt rfl) (pv (r_sad rfl rfl (room_some hro20)) (pv (r_sad rfl rfl (room_some hro21)) (pv (r_mt rfl) (pv (r_sad rfl rfl (room_some hro22)) (pv (r_sad rfl rfl (room_some hro23)) (pv (r_zt rfl) (nil (t_thenR [(2, .string ⟨(((((((y1 ++ ([32] : List UInt8)) ++ (([120] : List UInt8) ++ y4)) ++ ([44, 32] : List UInt8)) ++ y5) ++ ([40] : List UInt8)) ++ (([120] : List UInt8) ++ y3)) ++ ([41] : List UInt8)).toArray⟩)] ⟨rfl, trivial⟩ fun J => ?_)))))))))))))
    have hm := oI hm; subst hm
    exact rtn (r_then (ret1 rfl rfl ⟨_, rfl, _, (iT im1 (iT im2 (iT im3 (iT im4 (iT im5 (iT im6 (iT im7 im8))))))), ⟨rfl, hS8.sel [1] rfl, trivial⟩⟩))
  have hm := cfalse hb5 hm
  refine skp (t_then ?_)
  refine sq2 (sq2 (rg (pv (r_fa rfl underlying28 rfl sizeOf3 rfl) (pv (r_ld rfl isAgg3 (hS8.cell0 (i := 0) ⟨rfl, rfl⟩ (j := 0) rfl)) (pv (r_ib rfl rfl rfl) (pv (r_mb rfl) (?_)))))))
  rcases Bool.eq_false_or_eq_true (p0.Op == 4) with hb6 | hb6
  · have hm := ctrue hb6 hm
    refine gF (d0 := 80) rfl rfl (by rw [hb6]; rfl) (gF (d0 := 80) rfl rfl (by rw [hb6]; rfl) (gF (d0 := 80) rfl rfl (by rw [hb6]; rfl) (gF (d0 := 80) rfl rfl (by rw [hb6]; rfl) (gU (d0 := 84) rfl rfl (gU (d0 := 84) rfl rfl (gU (d0 := 84) rfl rfl (gF (d0 := 80) rfl rfl (by rw [hb6]; rfl) (pv (r_pkt rfl hb6 rfl) (nil (t_thenR [(3, .string ⟨(y1 ++ ([32] : List UInt8)).toArray⟩), (4, .string ⟨(([120] : List UInt8) ++ y2).toArray⟩), (5, .string ⟨(([120] : List UInt8) ++ y3).toArray⟩), (7, .string ⟨y5.toArray⟩), (89, .bool true)] ⟨rfl, rfl, rfl, rfl, rfl, trivial⟩ fun J => ?_))))))))))
    refine cnd (b := true) rfl (fun _ => ?_) (fun h => nomatch h)
    refine sq2 ?_
    obtain ⟨z_40, hro40, hm⟩ := bindS hm
    obtain ⟨z_41, hro41, hm⟩ := bindS hm
    obtain ⟨z_42, hro42, hm⟩ := bindS hm
    obtain ⟨z_43, hro43, hm⟩ := bindS hm
    obtain ⟨z_44, hro44, hm⟩ := bindS hm
    obtain ⟨z_45, hro45, hm⟩ := bindS hm
    refine rg (pv (r_mt rfl) (pv (r_mt rfl) (pv (r_sad rfl rfl (room_some hro40)) (pv (r_sad rfl rfl (room_some hro41)) (pv (r_mt rfl) (pv (r_sad rfl rfl (room_some hro42)) (pv (r_sad rfl rfl (room_some hro43)) (pv (r_mt rfl) (pv (r_sad rfl rfl (room_some hro44)) (pv (r_sad rfl rfl (room_some hro45)) (pv (r_zt rfl) (nil (t_then ?_)))))))))))))
    have hm := oI hm; subst hm
    exact rtn (r_then (ret1 rfl rfl ⟨_, rfl, _, (iT im1 (iT im2 (iT im3 (iT im4 (iT im5 (iT im6 (iT im7 im8))))))), ⟨rfl, hS8.sel [1] rfl, trivial⟩⟩))
  have hm := cfalse hb6 hm
  refine gT (d0 := 80) rfl rfl hb6 (pv (r_fa rfl underlying28 rfl sizeOf3 rfl) (gT (d0 := 80) rfl rfl hb6 (pv (r_ld rfl isAgg3 (hS8.cell0 (i := 0) ⟨rfl, rfl⟩ (j := 0) rfl)) (gT (d0 := 80) rfl rfl hb6 (pv (r_ib rfl rfl rfl) (gT (d0 := 80) rfl rfl hb6 (pv (r_mb rfl) (?_))))))))
  rcases Bool.eq_false_or_eq_true (decide (11 ≤ p0.Op)) with hb7 | hb7
  · have hm := ctrue hb7 hm
    refine gT (d0 := 84) rfl rfl hb7 (pv (r_fa rfl underlying28 rfl sizeOf3 rfl) (gT (d0 := 84) rfl rfl hb7 (pv (r_ld rfl isAgg3 (hS8.cell0 (i := 0) ⟨rfl, rfl⟩ (j := 0) rfl)) (gT (d0 := 84) rfl rfl hb7 (pv (r_ib rfl rfl rfl) (gT (d0 := 80) rfl rfl hb6 (pv (r_pkt rfl hb7 rfl) (pv (r_pkf rfl hb6 rfl) (nil (t_thenR [(3, .string ⟨(y1 ++ ([32] : List UInt8)).toArray⟩), (4, .string ⟨(([120] : List UInt8) ++ y2).toArray⟩), (5, .string ⟨(([120] : List UInt8) ++ y3).toArray⟩), (7, .string ⟨y5.toArray⟩), (89, .bool (decide (p0.Op ≤ 15)))] ⟨rfl, rfl, rfl, rfl, rfl, trivial⟩ fun J => ?_))))))))))
    refine cnd rfl (fun hb8 => ?_) (fun hb8 => ?_)
    · have hm := ctrue hb8 hm
      refine sq2 ?_
      obtain ⟨z_24, hro24, hm⟩ := bindS hm
      obtain ⟨z_25, hro25, hm⟩ := bindS hm
      obtain ⟨z_26, hro26, hm⟩ := bindS hm
      obtain ⟨z_27, hro27, hm⟩ := bindS hm
      obtain ⟨z_28, hro28, hm⟩ := bindS hm
      obtain ⟨z_29, hro29, hm⟩ := bindS hm
      refine rg (pv (r_mt rfl) (pv (r_mt rfl) (pv (r_sad rfl rfl (room_some hro24)) (pv (r_sad rfl rfl (room_some hro25)) (pv (r_mt rfl) (pv (r_sad rfl rfl (room_some hro26)) (pv (r_sad rfl rfl (room_some hro27)) (pv (r_mt rfl) (pv (r_sad rfl rfl (room_some hro28)) (pv (r_sad rfl rfl (room_some hro29)) (pv (r_zt rfl) (nil (t_then ?_)))))))))))))
      have hm := oI hm; subst hm
      exact rtn (r_then (ret1 rfl rfl ⟨_, rfl, _, (iT im1 (iT im2 (iT im3 (iT im4 (iT im5 (iT im6 (iT im7 im8))))))), ⟨rfl, hS8.sel [1] rfl, trivial⟩⟩))
    have hm := cfalse hb8 hm
    refine skp (t_then ?_)
    refine sq2 ?_
    obtain ⟨z_30, hro30, hm⟩ := bindS hm
    obtain ⟨z_31, hro31, hm⟩ := bindS hm
    obtain ⟨z_32, hro32, hm⟩ := bindS hm
    obtain ⟨z_33, hro33, hm⟩ := bindS hm
    obtain ⟨z_34, hro34, hm⟩ := bindS hm
    refine rg (pv (r_mt rfl) (pv (r_mt rfl) (pv (r_sad rfl rfl (room_some hro30)) (pv (r_sad rfl rfl (room_some hro31)) (pv (r_mt rfl) (pv (r_sad rfl rfl (room_some hro32)) (pv (r_sad rfl rfl (room_some hro33)) (pv (r_mt rfl) (pv (r_sad rfl rfl (room_some hro34)) (pv (r_zt rfl) (nil (t_then ?_))))))))))))
    have hm := oI hm; subst hm
    exact rtn (ret1 rfl rfl ⟨_, rfl, _, (iT im1 (iT im2 (iT im3 (iT im4 (iT im5 (iT im6 (iT im7 im8))))))), ⟨rfl, hS8.sel [1] rfl, trivial⟩⟩)
  have hm := cfalse hb7 hm
  refine gF (d0 := 84) rfl rfl (by rw [hb7]; rfl) (gF (d0 := 84) rfl rfl (by rw [hb7]; rfl) (gF (d0 := 84) rfl rfl (by rw [hb7]; rfl) (gT (d0 := 80) rfl rfl hb6 (pv (r_pkf rfl hb7 rfl) (pv (r_pkf rfl hb6 rfl) (nil (t_thenR [(3, .string ⟨(y1 ++ ([32] : List UInt8)).toArray⟩), (4, .string ⟨(([120] : List UInt8) ++ y2).toArray⟩), (5, .string ⟨(([120] : List UInt8) ++ y3).toArray⟩), (7, .string ⟨y5.toArray⟩), (89, .bool false)] ⟨rfl, rfl, rfl, rfl, rfl, trivial⟩ fun J => ?_)))))))
  refine cnd (b := false) rfl (fun h => nomatch h) (fun _ => ?_)
  refine skp (t_then ?_)
  refine sq2 ?_
  obtain ⟨z_35, hro35, hm⟩ := bindS hm
  obtain ⟨z_36, hro36, hm⟩ := bindS hm
  obtain ⟨z_37, hro37, hm⟩ := bindS hm
  obtain ⟨z_38, hro38, hm⟩ := bindS hm
  obtain ⟨z_39, hro39, hm⟩ := bindS hm
  refine rg (pv (r_mt rfl) (pv (r_mt rfl) (pv (r_sad rfl rfl (room_some hro35)) (pv (r_sad rfl rfl (room_some hro36)) (pv (r_mt rfl) (pv (r_sad rfl rfl (room_some hro37)) (pv (r_sad rfl rfl (room_some hro38)) (pv (r_mt rfl) (pv (r_sad rfl rfl (room_some hro39)) (pv (r_zt rfl) (nil (t_then ?_))))))))))))
  have hm := oI hm; subst hm
  exact rtn (ret1 rfl rfl ⟨_, rfl, _, (iT im1 (iT im2 (iT im3 (iT im4 (iT im5 (iT im6 (iT im7 im8))))))), ⟨rfl, hS8.sel [1] rfl, trivial⟩⟩)

theorem ref06_Text_sim {p0 : List Int} {a1 : OA} {c1 : Nat} {r : (List UInt8)} (hS : Sep g T0 w0 [R]) (h1 : SlR (rInt .u32) T0 w0 (sv a1 p0 c1) p0) (hm : ref06_Text p0 = some r) :
    Calls Tryz.prog 14 #[sv a1 p0 c1] w0 (RetS T0 w0 fun T w v => v = .string ⟨r.toArray⟩ ∧ Sep g T w [R] ∧ True) := by
  refine enter (args := [sv a1 p0 c1]) Tryz.func14 rfl Tryz.ntmps14 rfl fun J => ?_
  unfold ref06_Text at hm
  refine sq2 (rg (pv (r_zt rfl) (nil (t_then ?_))))
  refine sq2 (rg (pv (r_zt rfl) (nil (t_then ?_))))
  refine sq2 (sq2 (rg (pv (r_zi rfl) (nil (t_then ?_)))))
  obtain ⟨o1, ho1, hq1⟩ := bindS hm
  obtain ⟨bd1, hbd1, ho1⟩ := loop_open ho1
  refine blk (wp_loop_ghost (fun m a w1 => ∃ (J : JV) (T1 : TP) (x1 : List UInt8) (x2 : Int), a = env (nf 43) J [(0, sv a1 p0 c1), (3, .string ⟨x1.toArray⟩), (4, iv x2)] ∧ Im T0 w0 T1 w1 ∧ Sep g T1 w1 [R] ∧ loopM bd1 m (x1, x2) = some o1) NN ⟨_, _, ([] : List UInt8), 0, env_has ⟨rfl, rfl, rfl, trivial⟩, Im.refl, hS.sel [0] rfl, ho1⟩ ?_)
  rintro m _ w1 ⟨J, T1, x1, x2, rfl, im1, hS1, ho1⟩
  obtain ⟨m1, z1, rfl, hm, hn1⟩ := loop_round ho1
  rw [hbd1] at hm
  refine sq2 (sq2 (rg (pv (r_mi rfl) (pv (r_ms rfl) (pv (r_ln rfl underlying34) (pv (r_ib rfl rfl rfl) (nil (t_then ?_))))))))
  refine cnd rfl (fun hb1 => ?_) (fun hb1 => ?_)
  · have hm := ctrue hb1 hm
    refine skp (t_then ?_)
    refine sq2 (blk (sq2 ?_))
    obtain ⟨u1, hx1, hm⟩ := bindS hm
    obtain ⟨b1, of1, cs1, k1, cp1, hv1, hp1, hl1, he1, hr1, hc1, hT1⟩ := (h1.mono im1).ixT hx1 rfl
    cases hr1
    obtain ⟨y1, hx2, hm⟩ := bindS hm
    refine rg (pv (r_ms rfl) (pv (r_mi rfl) (pv (r_ixe hv1 rfl underlying34 sizeOf39 hp1 hl1 he1) (pv (r_ld rfl isAgg39 (hc1.get (j := 0) rfl)) (wl rfl (calS cf43 rfl (ref02_Decode_sim (p0 := u1) (hS1.bun [0] [] rfl)  hx2) rfl fun v1 T2 w2 im2 rv1 => ?_))))))
    obtain ⟨rfl, hS2, _⟩ := rv1
    have hS2 := hS2.unb
    refine pv (r_mv rfl) (pv (r_ex (v := .agg (cGInst y1.1).toArray) rfl rfl) (pv (r_ex (v := iv y1.2) rfl rfl) (wl rfl (alS (zs := [iv 0, iv 0, iv 0, iv 0, iv 0]) zeroValue28 rfl hS2 fun w3 b2 im3 hS3 => ?_))))
    refine wl rfl (st0B (q := 0) hS3 ⟨rfl, rfl⟩ rfl rfl rfl sizeOf28 rfl rfl rfl fun w4 im4 hS4 => ?_)
    refine pv (r_zi rfl) (nil (t_then ?_))
    refine sq2 ?_
    obtain ⟨u2, hx3, hm⟩ := bindS hm
    obtain ⟨b3, of2, cs2, k2, cp2, hv2, hp2, hl2, he2, hr2, hc2, hT2⟩ := (h1.mono (iT im1 (iT im2 (iT im3 im4)))).ixT hx3 rfl
    cases hr2
    obtain ⟨y2, hx4, hm⟩ := bindS hm
    refine rg (pv (r_ms rfl) (pv (r_mi rfl) (pv (r_ixe hv2 rfl underlying34 sizeOf39 hp2 hl2 he2) (pv (r_ld rfl isAgg39 (hc2.get (j := 0) rfl)) (wl rfl (calS cf44 rfl (ref06_Hex_sim (p0 := u2) (hS4.bun [0, 1] [] rfl)  hx4) rfl fun v2 T3 w5 im5 rv2 => ?_))))))
    obtain ⟨rfl, hS5, _⟩ := rv2
    have hS5 := hS5.unb
    obtain ⟨z_1, hro1, hm⟩ := bindS hm
    refine pv (r_sad rfl rfl (room_some hro1)) (pv (r_zt rfl) (nil (t_then ?_)))
    obtain ⟨kk1, hkk1, hm⟩ := jn_open hm
    refine cut (fun a w6 => ∃ (J : JV) (T4 : TP) (x3 : List UInt8), a = env (nf 43) J [(0, sv a1 p0 c1), (3, .string ⟨x1.toArray⟩), (4, iv x2), (7, .string ⟨x3.toArray⟩)] ∧ Im T3 w5 T4 w6 ∧ Sep g T4 w6 [R] ∧ kk1 x3 = some z1) ?_ ?_
    · refine sq2 (rg (pv (r_mi rfl) (pv (r_ib rfl rfl rfl) (nil (t_then ?_)))))
      refine cnd rfl (fun hb2 => ?_) (fun hb2 => ?_)
      · have hm := ctrue hb2 hm
        obtain ⟨y3, hx5, hm⟩ := bindS hm
        refine rg (pv (r_ldS rfl isAgg28 sizeOf28 rfl (hS5.cells0 (i := 0) ⟨rfl, rfl⟩ (o := 0) rfl) (cs := (cGInst y1.1))) (wl rfl (calS cf11 rfl (ref06_Line_2_sim (p0 := y1.1) (hS5.bun [1] [] rfl)  hx5) rfl fun v3 T5 w7 im7 rv3 => ?_)))
        obtain ⟨rfl, hS6, _⟩ := rv3
        have hS6 := hS6.unb
        exact pv (r_zt rfl) (nil (t_then ⟨_, _, y3, env_has ⟨rfl, rfl, rfl, rfl, trivial⟩, im7, hS6.sel [0] rfl, hm⟩))
      have hm := cfalse hb2 hm
      exact skp (t_then ⟨_, _, (([46, 119, 111, 114, 100, 32, 48, 120] : List UInt8) ++ y2), env_has ⟨rfl, rfl, rfl, rfl, trivial⟩, Im.refl, hS5.sel [1] rfl, hm⟩)
    rintro _ w6 ⟨J, T4, x3, rfl, im6, hS7, hm⟩
    rw [hkk1] at hm
    obtain ⟨y4, hx6, hm⟩ := bindS hm
    refine rg (pv (r_mt rfl) (pv (r_mi rfl) (pv (r_ib rfl rfl rfl) (pv (r_cv rfl underlying3 underlying39) (wl rfl (calS cf44 rfl (ref06_Hex_sim (p0 := IntKind.wrap .u32 (IntKind.wrap .i64 (4 * x2))) (hS7.bun [0] [] rfl)  hx6) rfl fun v4 T6 w8 im8 rv4 => ?_))))))
    obtain ⟨rfl, hS8, _⟩ := rv4
    have hS8 := hS8.unb
    obtain ⟨z_2, hro2, hm⟩ := bindS hm
    obtain ⟨z_3, hro3, hm⟩ := bindS hm
    obtain ⟨z_4, hro4, hm⟩ := bindS hm
    obtain ⟨z_5, hro5, hm⟩ := bindS hm
    refine pv (r_sad rfl rfl (room_some hro2)) (pv (r_sad rfl rfl (room_some hro3)) (pv (r_mt rfl) (pv (r_sad rfl rfl (room_some hro4)) (pv (r_sad rfl rfl (room_some hro5)) (pv (r_zt rfl) (nil (t_blk (t_then ?_))))))))
    have hm := oI hm; subst hm
    exact rg (pv (r_mi rfl) (pv (r_ib rfl rfl rfl) (pv (r_zi rfl) (nil (t_then ⟨m1, Nat.lt_succ_self _, _, _, ((((x1 ++ y4) ++ ([58, 32] : List UInt8)) ++ x3) ++ ([10] : List UInt8)), (IntKind.wrap .i64 (x2 + 1)), env_has ⟨rfl, rfl, rfl, trivial⟩, (iT im1 (iT im2 (iT im3 (iT im4 (iT im5 (iT im6 im8)))))), hS8.sel [0] rfl, hn1⟩)))))
  have hm := cfalse hb1 hm
  have hm := oI hm; subst hm
  have hn1 : _ = Lp.brk _ := hn1
  subst hn1
  have hm := thn_brk hq1
  refine xt (x_then (x_then (x_eq (t_then ?_))))
  refine sq2 (rg (pv (r_mt rfl) (pv (r_zt rfl) (nil (t_then ?_)))))
  have hm := oI hm; subst hm
  exact rtn (ret1 rfl rfl ⟨_, rfl, _, im1, ⟨rfl, hS1.sel [0] rfl, trivial⟩⟩)

theorem law06_ListingTexts_sim {p0 : List Int} {a1 : OA} {c1 : Nat} {r : Bool} (hS : Sep g T0 w0 [R]) (h1 : SlR (rInt .u32) T0 w0 (sv a1 p0 c1) p0) (hG0 : Gi T0 w0 0) (hG1 : Gc T0 w0 1 (Lib.pow10Tab.map fun z => Value.int .u64 z)) (hG2 : Ge T0 w0 2) (hG3 : Ge T0 w0 3) (hG7 : Gc T0 w0 7 (Lib.deBruijn64tab.map fun (z : Nat) => Value.int .u8 (z : Int))) (hm : law06_ListingTexts p0 = some r) :
    Calls Tryz.prog 4 #[sv a1 p0 c1] w0 (RetS T0 w0 fun T w v => v = .bool r ∧ Sep g T w [R] ∧ True) := by
  refine enter (args := [sv a1 p0 c1]) Tryz.func4 rfl Tryz.ntmps4 rfl fun J => ?_
  unfold law06_ListingTexts at hm
  refine sq2 (rg (pv (r_zb rfl) (nil (t_then ?_))))
  refine sq2 (sq2 (rg (pv (r_ms rfl) (pv (r_ln rfl underlying34) (pv (r_ib rfl rfl rfl) (nil (t_then ?_)))))))
  refine cnd rfl (fun hb1 => ?_) (fun hb1 => ?_)
  · have hm := ctrue hb1 hm
    refine sq2 ?_
    obtain ⟨y1, hx1, hm⟩ := bindS hm
    refine rg (wl rfl (calS cf9 rfl (law06_awake_sim  (hS.bun [0] [] rfl) hG0 hG1 hG2 hG3 hG7 hx1) rfl fun v1 T1 w1 im1 rv1 => ?_))
    obtain ⟨rfl, hS1, _⟩ := rv1
    have hS1 := hS1.unb
    refine pv (r_zb rfl) (nil (t_then ?_))
    have hm := oI hm; subst hm
    exact rtn (r_then (ret1 rfl rfl ⟨_, rfl, _, im1, ⟨rfl, hS1.sel [0] rfl, trivial⟩⟩))
  have hm := cfalse hb1 hm
  refine skp (t_then ?_)
  refine sq2 ?_
  obtain ⟨y2, hx2, hm⟩ := bindS hm
  refine rg (pv (r_ms rfl) (wl rfl (calS cf12 rfl (listing_Text_sim (p0 := p0) (hS.bun [0] [] rfl) h1 hG1 hG7 hx2) rfl fun v2 T2 w2 im2 rv2 => ?_)))
  obtain ⟨rfl, hS2, _⟩ := rv2
  have hS2 := hS2.unb
  refine pv (r_mv rfl) (pv (r_ex (v := .string ⟨y2.1.toArray⟩) rfl rfl) (pv (r_ex (v := iv y2.2) rfl rfl) (pv (r_zt rfl) (pv (r_zi rfl) (nil (t_then ?_))))))
  refine sq2 ?_
  obtain ⟨y3, hx3, hm⟩ := bindS hm
  refine rg (pv (r_mt rfl) (wl rfl (calS cf13 rfl (listing_Words_sim (p0 := y2.1) (hS2.bun [0] [] rfl) (hG0.mono im2) (hG1.mono im2) (hG2.mono im2) (hG3.mono im2) (hG7.mono im2) hx3) rfl fun v3 T3 w3 im3 rv3 => ?_)))
  obtain ⟨a2, c2, rfl, hS3, h2, _⟩ := rv3
  have hS3 := hS3.unb
  refine pv (r_mv rfl) (pv (r_ex (v := sv a2 y3.1 c2) rfl rfl) (pv (r_ex (v := iv y3.2) rfl rfl) (pv (r_zs rfl) (pv (r_zi rfl) (nil (t_then ?_))))))
  refine sq2 (sq2 (rg (pv (r_mi rfl) (pv (r_ib rfl rfl rfl) (pv (r_mb rfl) (?_))))))
  rcases Bool.eq_false_or_eq_true (y2.2 != 0) with hb2 | hb2
  · have hm := ctrue hb2 hm
    refine gF (d0 := 24) rfl rfl (by rw [hb2]; rfl) (gF (d0 := 24) rfl rfl (by rw [hb2]; rfl) (pv (r_pkt rfl hb2 rfl) (pv (r_mb rfl) (gF (d0 := 28) rfl rfl rfl (gF (d0 := 28) rfl rfl rfl (gF (d0 := 28) rfl rfl rfl (gF (d0 := 28) rfl rfl rfl (pv (r_pkt rfl rfl rfl) (pv (r_mb rfl) (gF (d0 := 34) rfl rfl rfl (gF (d0 := 34) rfl rfl rfl (gF (d0 := 34) rfl rfl rfl (gF (d0 := 34) rfl rfl rfl (gF (d0 := 34) rfl rfl rfl (pv (r_pkt rfl rfl rfl) (nil (t_thenR [(0, sv a1 p0 c1), (5, sv a2 y3.1 c2), (40, .bool true)] ⟨rfl, rfl, rfl, trivial⟩ fun J => ?_)))))))))))))))))
    refine cnd (b := true) rfl (fun _ => ?_) (fun h => nomatch h)
    refine sq2 (rg (pv (r_zb rfl) (nil (t_then ?_))))
    have hm := oI hm; subst hm
    exact rtn (r_then (ret1 rfl rfl ⟨_, rfl, _, (iT im2 im3), ⟨rfl, hS3.sel [0] rfl, trivial⟩⟩))
  have hm := cfalse hb2 hm
  refine gT (d0 := 24) rfl rfl hb2 (pv (r_mi rfl) (gT (d0 := 24) rfl rfl hb2 (pv (r_ib rfl rfl rfl) (pv (r_pkf rfl hb2 rfl) (pv (r_mb rfl) (?_))))))
  rcases Bool.eq_false_or_eq_true (y3.2 != 0) with hb3 | hb3
  · have hm := ctrue hb3 hm
    refine gF (d0 := 28) rfl rfl (by rw [hb3]; rfl) (gF (d0 := 28) rfl rfl (by rw [hb3]; rfl) (gF (d0 := 28) rfl rfl (by rw [hb3]; rfl) (gF (d0 := 28) rfl rfl (by rw [hb3]; rfl) (pv (r_pkt rfl hb3 rfl) (pv (r_mb rfl) (gF (d0 := 34) rfl rfl rfl (gF (d0 := 34) rfl rfl rfl (gF (d0 := 34) rfl rfl rfl (gF (d0 := 34) rfl rfl rfl (gF (d0 := 34) rfl rfl rfl (pv (r_pkt rfl rfl rfl) (nil (t_thenR [(0, sv a1 p0 c1), (5, sv a2 y3.1 c2), (40, .bool true)] ⟨rfl, rfl, rfl, trivial⟩ fun J => ?_)))))))))))))
    refine cnd (b := true) rfl (fun _ => ?_) (fun h => nomatch h)
    refine sq2 (rg (pv (r_zb rfl) (nil (t_then ?_))))
    have hm := oI hm; subst hm
    exact rtn (r_then (ret1 rfl rfl ⟨_, rfl, _, (iT im2 im3), ⟨rfl, hS3.sel [0] rfl, trivial⟩⟩))
  have hm := cfalse hb3 hm
  obtain ⟨y4, hx4, hm⟩ := bindS hm
  refine gT (d0 := 28) rfl rfl hb3 (pv (r_mt rfl) (gT (d0 := 28) rfl rfl hb3 (pv (r_ms rfl) (gT (d0 := 28) rfl rfl hb3 (wl rfl (calS cf14 rfl (ref06_Text_sim (p0 := p0) (hS3.bun [0] [] rfl) (h1.mono (iT im2 im3)) hx4) rfl fun v4 T4 w4 im4 rv4 => ?_))))))
  obtain ⟨rfl, hS4, _⟩ := rv4
  have hS4 := hS4.unb
  refine gT (d0 := 28) rfl rfl hb3 (pv (r_snL rfl rfl) (pv (r_pkf rfl hb3 rfl) (pv (r_mb rfl) (?_))))
  rcases Bool.eq_false_or_eq_true (!(decide (y2.1 = y4))) with hb4 | hb4
  · have hm := ctrue hb4 hm
    refine gF (d0 := 34) rfl rfl (by rw [hb4]; rfl) (gF (d0 := 34) rfl rfl (by rw [hb4]; rfl) (gF (d0 := 34) rfl rfl (by rw [hb4]; rfl) (gF (d0 := 34) rfl rfl (by rw [hb4]; rfl) (gF (d0 := 34) rfl rfl (by rw [hb4]; rfl) (pv (r_pkt rfl hb4 rfl) (nil (t_thenR [(0, sv a1 p0 c1), (5, sv a2 y3.1 c2), (40, .bool true)] ⟨rfl, rfl, rfl, trivial⟩ fun J => ?_)))))))
    refine cnd (b := true) rfl (fun _ => ?_) (fun h => nomatch h)
    refine sq2 (rg (pv (r_zb rfl) (nil (t_then ?_))))
    have hm := oI hm; subst hm
    exact rtn (r_then (ret1 rfl rfl ⟨_, rfl, _, (iT im2 (iT im3 im4)), ⟨rfl, hS4.sel [0] rfl, trivial⟩⟩))
  have hm := cfalse hb4 hm
  refine gT (d0 := 34) rfl rfl hb4 (pv (r_ms rfl) (gT (d0 := 34) rfl rfl hb4 (pv (r_ln rfl underlying34) (gT (d0 := 34) rfl rfl hb4 (pv (r_ms rfl) (gT (d0 := 34) rfl rfl hb4 (pv (r_ln rfl underlying34) (gT (d0 := 34) rfl rfl hb4 (pv (r_ib rfl rfl rfl) (pv (r_pkf rfl hb4 rfl) (nil (t_thenR [(0, sv a1 p0 c1), (5, sv a2 y3.1 c2), (40, .bool ((List.length y3.1 : Int) != (List.length p0 : Int)))] ⟨rfl, rfl, rfl, trivial⟩ fun J => ?_))))))))))))
  refine cnd rfl (fun hb5 => ?_) (fun hb5 => ?_)
  · have hm := ctrue hb5 hm
    refine sq2 (rg (pv (r_zb rfl) (nil (t_then ?_))))
    have hm := oI hm; subst hm
    exact rtn (r_then (ret1 rfl rfl ⟨_, rfl, _, (iT im2 (iT im3 im4)), ⟨rfl, hS4.sel [0] rfl, trivial⟩⟩))
  have hm := cfalse hb5 hm
  refine skp (t_then ?_)
  refine sq2 (sq2 (rg (pv (r_zi rfl) (nil (t_then ?_)))))
  obtain ⟨o1, ho1, hq1⟩ := bindS hm
  obtain ⟨bd1, hbd1, ho1⟩ := loop_open ho1
  refine blk (wp_loop_ghost (fun m a w5 => ∃ (J : JV) (T5 : TP) (x1 : Int), a = env (nf 57) J [(0, sv a1 p0 c1), (5, sv a2 y3.1 c2), (7, iv x1)] ∧ Im T4 w4 T5 w5 ∧ Sep g T5 w5 [R] ∧ loopM bd1 m x1 = some o1) NN ⟨_, _, 0, env_has ⟨rfl, rfl, rfl, trivial⟩, Im.refl, hS4.sel [0] rfl, ho1⟩ ?_)
  rintro m _ w5 ⟨J, T5, x1, rfl, im5, hS5, ho1⟩
  obtain ⟨m1, z1, rfl, hm, hn1⟩ := loop_round ho1
  rw [hbd1] at hm
  refine sq2 (sq2 (rg (pv (r_mi rfl) (pv (r_ms rfl) (pv (r_ln rfl underlying34) (pv (r_ib rfl rfl rfl) (nil (t_then ?_))))))))
  refine cnd rfl (fun hb6 => ?_) (fun hb6 => ?_)
  · have hm := ctrue hb6 hm
    refine skp (t_then ?_)
    refine sq2 (blk (sq2 ?_))
    obtain ⟨u1, hx5, hm⟩ := bindS hm
    obtain ⟨b1, of1, cs1, k1, cp1, hv1, hp1, hl1, he1, hr1, hc1, hT1⟩ := (h2.mono (iT im4 im5)).ixT hx5 rfl
    cases hr1
    obtain ⟨u2, hx6, hm⟩ := bindS hm
    obtain ⟨b2, of2, cs2, k2, cp2, hv2, hp2, hl2, he2, hr2, hc2, hT2⟩ := (h1.mono (iT im2 (iT im3 (iT im4 im5)))).ixT hx6 rfl
    cases hr2
    refine rq mix (by kernel_rfl) hS5.lt (qv (fun _ hq => r_ms rfl) (qv (fun _ hq => r_mi rfl) (qv (fun _ hq => r_ixe hv1 rfl underlying34 sizeOf39 hp1 hl1 he1) (qv (fun _ hq => r_ld rfl isAgg39 (hq.cell (hc1.get (j := 0) rfl))) (qv (fun _ hq => r_ms rfl) (qv (fun _ hq => r_mi rfl) (qv (fun _ hq => r_ixe hv2 rfl underlying34 sizeOf39 hp2 hl2 he2) (qv (fun _ hq => r_ld rfl isAgg39 (hq.cell (hc2.get (j := 0) rfl))) (qv (fun _ hq => r_ib rfl rfl rfl) (qn fun w6 T6 i1 => ?_))))))))))
    have im6 := i1.imm
    have hS6 := hS5.keep i1 (fun _ h => h)
    refine t_then ?_
    refine cnd rfl (fun hb7 => ?_) (fun hb7 => ?_)
    · have hm := ctrue hb7 hm
      refine sq2 (rg (pv (r_zb rfl) (nil (t_then ?_))))
      have hm := oI hm; subst hm
      have hn1 : _ = Lp.ret _ := hn1
      subst hn1
      have hm := thn_ret hq1
      have hm := oI hm; subst hm
      exact rtn (r_blk (r_then (r_then (r_blk (r_then (ret1 rfl rfl ⟨_, rfl, _, (iT im2 (iT im3 (iT im4 (iT im5 im6)))), ⟨rfl, hS6.sel [0] rfl, trivial⟩⟩))))))
    have hm := cfalse hb7 hm
    refine skp (t_blk (t_then ?_))
    have hm := oI hm; subst hm
    exact rg (pv (r_mi rfl) (pv (r_ib rfl rfl rfl) (pv (r_zi rfl) (nil (t_then ⟨m1, Nat.lt_succ_self _, _, _, (IntKind.wrap .i64 (x1 + 1)), env_has ⟨rfl, rfl, rfl, trivial⟩, (iT im5 im6), hS6.sel [0] rfl, hn1⟩)))))
  have hm := cfalse hb6 hm
  have hm := oI hm; subst hm
  have hn1 : _ = Lp.brk _ := hn1
  subst hn1
  have hm := thn_brk hq1
  refine xt (x_then (x_then (x_eq (t_then ?_))))
  refine sq2 ?_
  obtain ⟨y5, hx7, hm⟩ := bindS hm
  refine rg (wl rfl (calS cf9 rfl (law06_awake_sim  (hS5.bun [0] [] rfl) (hG0.mono (iT im2 (iT im3 (iT im4 im5)))) (hG1.mono (iT im2 (iT im3 (iT im4 im5)))) (hG2.mono (iT im2 (iT im3 (iT im4 im5)))) (hG3.mono (iT im2 (iT im3 (iT im4 im5)))) (hG7.mono (iT im2 (iT im3 (iT im4 im5)))) hx7) rfl fun v5 T7 w7 im7 rv5 => ?_))
  obtain ⟨rfl, hS7, _⟩ := rv5
  have hS7 := hS7.unb
  refine pv (r_zb rfl) (nil (t_then ?_))
  have hm := oI hm; subst hm
  exact rtn (ret1 rfl rfl ⟨_, rfl, _, (iT im2 (iT im3 (iT im4 (iT im5 im7)))), ⟨rfl, hS7.sel [0] rfl, trivial⟩⟩)

theorem law06_ListingWords_sim {p0 : List UInt8} {r : Bool} (hS : Sep g T0 w0 [R]) (hG0 : Gi T0 w0 0) (hG1 : Gc T0 w0 1 (Lib.pow10Tab.map fun z => Value.int .u64 z)) (hG2 : Ge T0 w0 2) (hG3 : Ge T0 w0 3) (hG7 : Gc T0 w0 7 (Lib.deBruijn64tab.map fun (z : Nat) => Value.int .u8 (z : Int))) (hm : law06_ListingWords p0 = some r) :
    Calls Tryz.prog 5 #[.string ⟨p0.toArray⟩] w0 (RetS T0 w0 fun T w v => v = .bool r ∧ Sep g T w [R] ∧ True) := by
  refine enter (args := [.string ⟨p0.toArray⟩]) Tryz.func5 rfl Tryz.ntmps5 rfl fun J => ?_
  unfold law06_ListingWords at hm
  refine sq2 (rg (pv (r_zb rfl) (nil (t_then ?_))))
  refine sq2 (sq2 (rg (pv (r_mt rfl) (pv (r_lnt rfl underlying9) (pv (r_ib rfl rfl rfl) (nil (t_then ?_)))))))
  refine cnd rfl (fun hb1 => ?_) (fun hb1 => ?_)
  · have hm := ctrue hb1 hm
    refine sq2 ?_
    obtain ⟨y1, hx1, hm⟩ := bindS hm
    refine rg (wl rfl (calS cf9 rfl (law06_awake_sim  (hS.bun [0] [] rfl) hG0 hG1 hG2 hG3 hG7 hx1) rfl fun v1 T1 w1 im1 rv1 => ?_))
    obtain ⟨rfl, hS1, _⟩ := rv1
    have hS1 := hS1.unb
    refine pv (r_zb rfl) (nil (t_then ?_))
    have hm := oI hm; subst hm
    exact rtn (r_then (ret1 rfl rfl ⟨_, rfl, _, im1, ⟨rfl, hS1.sel [0] rfl, trivial⟩⟩))
  have hm := cfalse hb1 hm
  refine skp (t_then ?_)
  refine sq2 ?_
  obtain ⟨y2, hx2, hm⟩ := bindS hm
  refine rg (pv (r_mt rfl) (wl rfl (calS cf13 rfl (listing_Words_sim (p0 := p0) (hS.bun [0] [] rfl) hG0 hG1 hG2 hG3 hG7 hx2) rfl fun v2 T2 w2 im2 rv2 => ?_)))
  obtain ⟨a1, c1, rfl, hS2, h1, _⟩ := rv2
  have hS2 := hS2.unb
  refine pv (r_mv rfl) (pv (r_ex (v := sv a1 y2.1 c1) rfl rfl) (pv (r_ex (v := iv y2.2) rfl rfl) (pv (r_zs rfl) (pv (r_zi rfl) (nil (t_then ?_))))))
  refine sq2 (sq2 (rg (pv (r_mi rfl) (pv (r_ib rfl rfl rfl) (nil (t_then ?_))))))
  refine cnd rfl (fun hb2 => ?_) (fun hb2 => ?_)
  · have hm := ctrue hb2 hm
    refine sq2 ?_
    obtain ⟨y3, hx3, hm⟩ := bindS hm
    refine rg (wl rfl (calS cf9 rfl (law06_awake_sim  (hS2.bun [0] [] rfl) (hG0.mono im2) (hG1.mono im2) (hG2.mono im2) (hG3.mono im2) (hG7.mono im2) hx3) rfl fun v3 T3 w3 im3 rv3 => ?_))
    obtain ⟨rfl, hS3, _⟩ := rv3
    have hS3 := hS3.unb
    refine pv (r_mb rfl) (?_)
    rcases Bool.eq_false_or_eq_true y3 with hb3 | hb3
    · have hm := ctrue hb3 hm
      refine gT (d0 := 17) rfl rfl hb3 (pv (r_mi rfl) (gT (d0 := 17) rfl rfl hb3 (pv (r_ib rfl rfl rfl) (pv (r_pkt rfl hb3 rfl) (pv (r_mb rfl) (?_))))))
      rcases Bool.eq_false_or_eq_true (y2.2 == 3) with hb4 | hb4
      · have hm := ctrue hb4 hm
        refine gT (d0 := 21) rfl rfl hb4 (pv (r_ms rfl) (gT (d0 := 21) rfl rfl hb4 (pv (r_ln rfl underlying34) (gT (d0 := 21) rfl rfl hb4 (pv (r_ib rfl rfl rfl) (pv (r_pkt rfl hb4 rfl) (pv (r_zb rfl) (nil (t_then ?_)))))))))
        have hm := oI hm; subst hm
        exact rtn (r_then (ret1 rfl rfl ⟨_, rfl, _, (iT im2 im3), ⟨rfl, hS3.sel [0] rfl, trivial⟩⟩))
      have hm := cfalse hb4 hm
      refine gF (d0 := 21) rfl rfl (by rw [hb4]; rfl) (gF (d0 := 21) rfl rfl (by rw [hb4]; rfl) (gF (d0 := 21) rfl rfl (by rw [hb4]; rfl) (pv (r_pkf rfl hb4 rfl) (pv (r_zb rfl) (nil (t_then ?_))))))
      have hm := oI hm; subst hm
      exact rtn (r_then (ret1 rfl rfl ⟨_, rfl, _, (iT im2 im3), ⟨rfl, hS3.sel [0] rfl, trivial⟩⟩))
    have hm := cfalse hb3 hm
    refine gF (d0 := 17) rfl rfl (by rw [hb3]; rfl) (gF (d0 := 17) rfl rfl (by rw [hb3]; rfl) (pv (r_pkf rfl hb3 rfl) (pv (r_mb rfl) (gF (d0 := 21) rfl rfl rfl (gF (d0 := 21) rfl rfl rfl (gF (d0 := 21) rfl rfl rfl (pv (r_pkf rfl rfl rfl) (pv (r_zb rfl) (nil (t_then ?_))))))))))
    have hm := oI hm; subst hm
    exact rtn (r_then (ret1 rfl rfl ⟨_, rfl, _, (iT im2 im3), ⟨rfl, hS3.sel [0] rfl, trivial⟩⟩))
  have hm := cfalse hb2 hm
  refine skp (t_then ?_)
  refine sq2 ?_
  obtain ⟨y4, hx4, hm⟩ := bindS hm
  refine rg (wl rfl (calS cf9 rfl (law06_awake_sim  (hS2.bun [0] [] rfl) (hG0.mono im2) (hG1.mono im2) (hG2.mono im2) (hG3.mono im2) (hG7.mono im2) hx4) rfl fun v4 T4 w4 im4 rv4 => ?_))
  obtain ⟨rfl, hS4, _⟩ := rv4
  have hS4 := hS4.unb
  refine pv (r_mb rfl) (?_)
  rcases Bool.eq_false_or_eq_true y4 with hb5 | hb5
  · have hm := ctrue hb5 hm
    obtain ⟨y5, hx5, hm⟩ := bindS hm
    refine gT (d0 := 27) rfl rfl hb5 (pv (r_ms rfl) (gT (d0 := 27) rfl rfl hb5 (wl rfl (calS cf14 rfl (ref06_Text_sim (p0 := y2.1) (hS4.bun [0] [] rfl) (h1.mono im4) hx5) rfl fun v5 T5 w5 im5 rv5 => ?_))))
    obtain ⟨rfl, hS5, _⟩ := rv5
    have hS5 := hS5.unb
    refine gT (d0 := 27) rfl rfl hb5 (pv (r_mt rfl) (gT (d0 := 27) rfl rfl hb5 (pv (r_sqL rfl rfl) (pv (r_pkt rfl hb5 rfl) (pv (r_zb rfl) (nil (t_then ?_)))))))
    have hm := oI hm; subst hm
    exact rtn (ret1 rfl rfl ⟨_, rfl, _, (iT im2 (iT im4 im5)), ⟨rfl, hS5.sel [0] rfl, trivial⟩⟩)
  have hm := cfalse hb5 hm
  refine gF (d0 := 27) rfl rfl (by rw [hb5]; rfl) (gF (d0 := 27) rfl rfl (by rw [hb5]; rfl) (gF (d0 := 27) rfl rfl (by rw [hb5]; rfl) (gF (d0 := 27) rfl rfl (by rw [hb5]; rfl) (pv (r_pkf rfl hb5 rfl) (pv (r_zb rfl) (nil (t_then ?_)))))))
  have hm := oI hm; subst hm
  exact rtn (ret1 rfl rfl ⟨_, rfl, _, (iT im2 im4), ⟨rfl, hS4.sel [0] rfl, trivial⟩⟩)

theorem law06_ListingLong_sim {p0 : Int} {r : Bool} (hS : Sep g T0 w0 [R]) (hG0 : Gi T0 w0 0) (hG1 : Gc T0 w0 1 (Lib.pow10Tab.map fun z => Value.int .u64 z)) (hG2 : Ge T0 w0 2) (hG3 : Ge T0 w0 3) (hG7 : Gc T0 w0 7 (Lib.deBruijn64tab.map fun (z : Nat) => Value.int .u8 (z : Int))) (hm : law06_ListingLong p0 = some r) :
    Calls Tryz.prog 6 #[iv p0] w0 (RetS T0 w0 fun T w v => v = .bool r ∧ Sep g T w [R] ∧ True) := by
  refine enter (args := [iv p0]) Tryz.func6 rfl Tryz.ntmps6 rfl fun J => ?_
  unfold law06_ListingLong at hm
  refine sq2 (rg (pv (r_zb rfl) (nil (t_then ?_))))
  refine sq2 (rg (pv (r_mi rfl) (pv (r_irm rfl rfl (by decide)) (pv (r_ib rfl rfl rfl) (pv (r_irm rfl rfl (by decide)) (pv (r_ib rfl rfl rfl) (pv (r_zi rfl) (nil (t_then ?_)))))))))
  refine sq2 ?_
  obtain ⟨u1, hx1, hm⟩ := bindS hm
  refine rg (pv (r_mi rfl) (pv (r_ib rfl rfl rfl) (wl rfl (msS (r := (rInt .u32)) hS rfl rfl underlying34 el39 zeroValue39 rfl hx1 fun w1 a1 n1 c1 im1 hS1 => ?_))))
  obtain ⟨T1, im2, hS2, h1⟩ := hS1.seal 0 ⟨rfl, rfl⟩
  have hsh := h1.len
  subst hsh
  obtain ⟨y1, hx2, hm⟩ := bindS hm
  refine wl rfl (calS cf12 rfl (listing_Text_sim (p0 := u1) (hS2.bun [1] [] rfl) h1 (hG1.mono (iT im1 im2)) (hG7.mono (iT im1 im2)) hx2) rfl fun v1 T2 w2 im3 rv1 => ?_)
  obtain ⟨rfl, hS3, _⟩ := rv1
  have hS3 := hS3.unb
  refine pv (r_mv rfl) (pv (r_ex (v := .string ⟨y1.1.toArray⟩) rfl rfl) (pv (r_ex (v := iv y1.2) rfl rfl) (pv (r_zt rfl) (pv (r_zi rfl) (nil (t_then ?_))))))
  refine sq2 ?_
  obtain ⟨u2, hx3, hm⟩ := bindS hm
  refine rg (pv (r_mi rfl) (pv (r_ib rfl rfl rfl) (wl rfl (msS (r := (rInt .u8)) hS3 rfl rfl underlying42 el5 zeroValue5 rfl hx3 fun w3 a2 n2 c2 im4 hS4 => ?_))))
  obtain ⟨y2, hx4, hm⟩ := bindS hm
  refine pv (r_cvs rfl ⟨_, (hS4.own (i := 0) ⟨rfl, rfl⟩).v⟩ underlying42 underlying5 underlying9) (wl rfl (calS cf13 rfl (listing_Words_sim (p0 := bytesStr u2) (hS4.bun [1] [] rfl) (hG0.mono (iT im1 (iT im2 (iT im3 im4)))) (hG1.mono (iT im1 (iT im2 (iT im3 im4)))) (hG2.mono (iT im1 (iT im2 (iT im3 im4)))) (hG3.mono (iT im1 (iT im2 (iT im3 im4)))) (hG7.mono (iT im1 (iT im2 (iT im3 im4)))) hx4) rfl fun v2 T3 w4 im5 rv2 => ?_))
  obtain ⟨a3, c3, rfl, hS5, h2, _⟩ := rv2
  have hS5 := hS5.unb
  refine pv (r_mv rfl) (pv (r_ex (v := sv a3 y2.1 c3) rfl rfl) (pv (r_ex (v := iv y2.2) rfl rfl) (pv (r_zs rfl) (pv (r_zi rfl) (nil (t_then ?_))))))
  refine sq2 ?_
  obtain ⟨y3, hx5, hm⟩ := bindS hm
  refine rg (wl rfl (calS cf9 rfl (law06_awake_sim  (hS5.bun [0] [] rfl) (hG0.mono (iT im1 (iT im2 (iT im3 (iT im4 im5))))) (hG1.mono (iT im1 (iT im2 (iT im3 (iT im4 im5))))) (hG2.mono (iT im1 (iT im2 (iT im3 (iT im4 im5))))) (hG3.mono (iT im1 (iT im2 (iT im3 (iT im4 im5))))) (hG7.mono (iT im1 (iT im2 (iT im3 (iT im4 im5))))) hx5) rfl fun v3 T4 w5 im6 rv3 => ?_))
  obtain ⟨rfl, hS6, _⟩ := rv3
  have hS6 := hS6.unb
  refine pv (r_mb rfl) (?_)
  rcases Bool.eq_false_or_eq_true y3 with hb1 | hb1
  · have hm := ctrue hb1 hm
    refine gT (d0 := 29) rfl rfl hb1 (pv (r_mi rfl) (gT (d0 := 29) rfl rfl hb1 (pv (r_ib rfl rfl rfl) (pv (r_pkt rfl hb1 rfl) (pv (r_mb rfl) (?_))))))
    rcases Bool.eq_false_or_eq_true (y1.2 == 2) with hb2 | hb2
    · have hm := ctrue hb2 hm
      refine gT (d0 := 33) rfl rfl hb2 (pv (r_mt rfl) (gT (d0 := 33) rfl rfl hb2 (pv (r_sqL rfl rfl) (pv (r_pkt rfl hb2 rfl) (pv (r_mb rfl) (?_))))))
      rcases Bool.eq_false_or_eq_true (decide (y1.1 = ([] : List UInt8))) with hb3 | hb3
      · have hm := ctrue hb3 hm
        refine gT (d0 := 37) rfl rfl hb3 (pv (r_mi rfl) (gT (d0 := 37) rfl rfl hb3 (pv (r_ib rfl rfl rfl) (pv (r_pkt rfl hb3 rfl) (pv (r_mb rfl) (?_))))))
        rcases Bool.eq_false_or_eq_true (y2.2 == 2) with hb4 | hb4
        · have hm := ctrue hb4 hm
          refine gT (d0 := 41) rfl rfl hb4 (pv (r_ms rfl) (gT (d0 := 41) rfl rfl hb4 (pv (r_ln rfl underlying34) (gT (d0 := 41) rfl rfl hb4 (pv (r_ib rfl rfl rfl) (pv (r_pkt rfl hb4 rfl) (pv (r_zb rfl) (nil (t_thenR [(2, .bool ((List.length y2.1 : Int) == 0))] ⟨rfl, trivial⟩ fun J => ?_)))))))))
          have hm := oI hm; subst hm
          exact rtn (ret1 rfl rfl ⟨_, rfl, _, (iT im1 (iT im2 (iT im3 (iT im4 (iT im5 im6))))), ⟨rfl, hS6.sel [0] rfl, trivial⟩⟩)
        have hm := cfalse hb4 hm
        refine gF (d0 := 41) rfl rfl (by rw [hb4]; rfl) (gF (d0 := 41) rfl rfl (by rw [hb4]; rfl) (gF (d0 := 41) rfl rfl (by rw [hb4]; rfl) (pv (r_pkf rfl hb4 rfl) (pv (r_zb rfl) (nil (t_thenR [(2, .bool false)] ⟨rfl, trivial⟩ fun J => ?_))))))
        have hm := oI hm; subst hm
        exact rtn (ret1 rfl rfl ⟨_, rfl, _, (iT im1 (iT im2 (iT im3 (iT im4 (iT im5 im6))))), ⟨rfl, hS6.sel [0] rfl, trivial⟩⟩)
      have hm := cfalse hb3 hm
      refine gF (d0 := 37) rfl rfl (by rw [hb3]; rfl) (gF (d0 := 37) rfl rfl (by rw [hb3]; rfl) (pv (r_pkf rfl hb3 rfl) (pv (r_mb rfl) (gF (d0 := 41) rfl rfl rfl (gF (d0 := 41) rfl rfl rfl (gF (d0 := 41) rfl rfl rfl (pv (r_pkf rfl rfl rfl) (pv (r_zb rfl) (nil (t_thenR [(2, .bool false)] ⟨rfl, trivial⟩ fun J => ?_))))))))))
      have hm := oI hm; subst hm
      exact rtn (ret1 rfl rfl ⟨_, rfl, _, (iT im1 (iT im2 (iT im3 (iT im4 (iT im5 im6))))), ⟨rfl, hS6.sel [0] rfl, trivial⟩⟩)
    have hm := cfalse hb2 hm
    refine gF (d0 := 33) rfl rfl (by rw [hb2]; rfl) (gF (d0 := 33) rfl rfl (by rw [hb2]; rfl) (pv (r_pkf rfl hb2 rfl) (pv (r_mb rfl) (gF (d0 := 37) rfl rfl rfl (gF (d0 := 37) rfl rfl rfl (pv (r_pkf rfl rfl rfl) (pv (r_mb rfl) (gF (d0 := 41) rfl rfl rfl (gF (d0 := 41) rfl rfl rfl (gF (d0 := 41) rfl rfl rfl (pv (r_pkf rfl rfl rfl) (pv (r_zb rfl) (nil (t_thenR [(2, .bool false)] ⟨rfl, trivial⟩ fun J => ?_))))))))))))))
    have hm := oI hm; subst hm
    exact rtn (ret1 rfl rfl ⟨_, rfl, _, (iT im1 (iT im2 (iT im3 (iT im4 (iT im5 im6))))), ⟨rfl, hS6.sel [0] rfl, trivial⟩⟩)
  have hm := cfalse hb1 hm
  refine gF (d0 := 29) rfl rfl (by rw [hb1]; rfl) (gF (d0 := 29) rfl rfl (by rw [hb1]; rfl) (pv (r_pkf rfl hb1 rfl) (pv (r_mb rfl) (gF (d0 := 33) rfl rfl rfl (gF (d0 := 33) rfl rfl rfl (pv (r_pkf rfl rfl rfl) (pv (r_mb rfl) (gF (d0 := 37) rfl rfl rfl (gF (d0 := 37) rfl rfl rfl (pv (r_pkf rfl rfl rfl) (pv (r_mb rfl) (gF (d0 := 41) rfl rfl rfl (gF (d0 := 41) rfl rfl rfl (gF (d0 := 41) rfl rfl rfl (pv (r_pkf rfl rfl rfl) (pv (r_zb rfl) (nil (t_thenR [(2, .bool false)] ⟨rfl, trivial⟩ fun J => ?_))))))))))))))))))
  have hm := oI hm; subst hm
  exact rtn (ret1 rfl rfl ⟨_, rfl, _, (iT im1 (iT im2 (iT im3 (iT im4 (iT im5 im6))))), ⟨rfl, hS6.sel [0] rfl, trivial⟩⟩)
end Go.Proofs.YtcmncppbonaaeaaGreatDoor
