/- That Go functions compute their models. Printed by gen2.py. -/
import Derived.Test.YtbolaohekbmndaaGreatDoorWa
set_option linter.unusedVariables false
namespace Go.Proofs.YtbolaohekbmndaaGreatDoor
open _root_.Go.Proofs.Tryz
set_option maxRecDepth 100000
set_option maxHeartbeats 8000000
attribute [local irreducible] wpList wpQuiet Code.wp
variable {g : World} {T0 : Nat → Prop} {w0 : World} {R : Assn}

theorem tree_rank_sim {p0 : List UInt8} {r : Int} (hS : Sep g T0 w0 [R])  (hm : tree_rank p0 = some r) :
    Calls Tryz.prog 123 #[.string ⟨p0.toArray⟩] w0 (RetS T0 w0 fun T w v => v = iv r ∧ Sep g T w [R] ∧ True) := by
  refine enter (args := [.string ⟨p0.toArray⟩]) Tryz.func123 rfl Tryz.ntmps123 rfl fun J => ?_
  unfold tree_rank at hm
  refine sq2 (rg (pv (r_zi rfl) (nil (t_then ?_))))
  refine sq2 (sq2 (rg (pv (r_mt rfl) (nil (t_then ?_)))))
  refine blk (sq2 (rg (pv (r_sqL rfl rfl) (pv (r_zb rfl) (nil (t_then ?_))))))
  refine cnd rfl (fun hb1 => ?_) (fun hb1 => ?_)
  · have hm := ctrue hb1 hm
    refine sq2 (rg (pv (r_zi rfl) (nil (t_then ?_))))
    have hm := oI hm; subst hm
    exact rtn (r_blk (r_then (ret1 rfl rfl ⟨_, rfl, _, Im.refl, ⟨rfl, hS.sel [0] rfl, trivial⟩⟩)))
  have hm := cfalse hb1 hm
  refine sq2 (rg (pv (r_sqL rfl rfl) (pv (r_zb rfl) (nil (t_then ?_)))))
  refine cnd rfl (fun hb2 => ?_) (fun hb2 => ?_)
  · have hm := ctrue hb2 hm
    refine sq2 (rg (pv (r_zi rfl) (nil (t_then ?_))))
    have hm := oI hm; subst hm
    exact rtn (r_blk (r_then (ret1 rfl rfl ⟨_, rfl, _, Im.refl, ⟨rfl, hS.sel [0] rfl, trivial⟩⟩)))
  have hm := cfalse hb2 hm
  refine sq2 (rg (pv (r_sqL rfl rfl) (pv (r_zb rfl) (nil (t_then ?_)))))
  refine cnd rfl (fun hb3 => ?_) (fun hb3 => ?_)
  · have hm := ctrue hb3 hm
    refine sq2 (rg (pv (r_zi rfl) (nil (t_then ?_))))
    have hm := oI hm; subst hm
    exact rtn (r_blk (r_then (ret1 rfl rfl ⟨_, rfl, _, Im.refl, ⟨rfl, hS.sel [0] rfl, trivial⟩⟩)))
  have hm := cfalse hb3 hm
  refine sq2 (rg (pv (r_sqL rfl rfl) (pv (r_zb rfl) (nil (t_then ?_)))))
  refine cnd rfl (fun hb4 => ?_) (fun hb4 => ?_)
  · have hm := ctrue hb4 hm
    refine sq2 (rg (pv (r_zi rfl) (nil (t_then ?_))))
    have hm := oI hm; subst hm
    exact rtn (r_blk (r_then (ret1 rfl rfl ⟨_, rfl, _, Im.refl, ⟨rfl, hS.sel [0] rfl, trivial⟩⟩)))
  have hm := cfalse hb4 hm
  refine sq2 (rg (pv (r_sqL rfl rfl) (pv (r_zb rfl) (nil (t_then ?_)))))
  refine cnd rfl (fun hb5 => ?_) (fun hb5 => ?_)
  · have hm := ctrue hb5 hm
    refine sq2 (rg (pv (r_zi rfl) (nil (t_then ?_))))
    have hm := oI hm; subst hm
    exact rtn (r_blk (r_then (ret1 rfl rfl ⟨_, rfl, _, Im.refl, ⟨rfl, hS.sel [0] rfl, trivial⟩⟩)))
  have hm := cfalse hb5 hm
  obtain ⟨kk1, hkk1, hm⟩ := jn_open hm
  refine cut (fun a w1 => ∃ (J : JV) (T1 : TP) (x1 : Bool), a = env (nf 32) J [(3, .string ⟨p0.toArray⟩), (14, .bool x1)] ∧ Im T0 w0 T1 w1 ∧ Sep g T1 w1 [R] ∧ kk1 x1 = some r) ?_ ?_
  · refine sq2 (rg (pv (r_sqL rfl rfl) (pv (r_zb rfl) (nil (t_then ?_)))))
    refine cnd rfl (fun hb6 => ?_) (fun hb6 => ?_)
    · have hm := ctrue hb6 hm
      exact skp (t_then ⟨_, _, (decide (p0 = ([61, 61] : List UInt8))), env_has ⟨rfl, rfl, trivial⟩, Im.refl, hS.sel [0] rfl, hm⟩)
    have hm := cfalse hb6 hm
    exact rg (pv (r_sqL rfl rfl) (pv (r_zb rfl) (nil (t_then ⟨_, _, (decide (p0 = ([33, 61] : List UInt8))), env_has ⟨rfl, rfl, trivial⟩, Im.refl, hS.sel [0] rfl, hm⟩))))
  rintro _ w1 ⟨J, T1, x1, rfl, im1, hS1, hm⟩
  rw [hkk1] at hm
  refine cnd rfl (fun hb7 => ?_) (fun hb7 => ?_)
  · have hm := ctrue hb7 hm
    refine sq2 (rg (pv (r_zi rfl) (nil (t_then ?_))))
    have hm := oI hm; subst hm
    exact rtn (r_blk (r_then (ret1 rfl rfl ⟨_, rfl, _, im1, ⟨rfl, hS1.sel [0] rfl, trivial⟩⟩)))
  have hm := cfalse hb7 hm
  obtain ⟨kk2, hkk2, hm⟩ := jn_open hm
  refine cut (fun a w2 => ∃ (J : JV) (T2 : TP) (x2 : Bool), a = env (nf 32) J [(3, .string ⟨p0.toArray⟩), (17, .bool x2)] ∧ Im T1 w1 T2 w2 ∧ Sep g T2 w2 [R] ∧ kk2 x2 = some r) ?_ ?_
  · refine sq2 (rg (pv (r_sqL rfl rfl) (pv (r_zb rfl) (nil (t_then ?_)))))
    refine cnd rfl (fun hb8 => ?_) (fun hb8 => ?_)
    · have hm := ctrue hb8 hm
      exact skp (t_then ⟨_, _, (decide (p0 = ([60] : List UInt8))), env_has ⟨rfl, rfl, trivial⟩, Im.refl, hS1.sel [0] rfl, hm⟩)
    have hm := cfalse hb8 hm
    refine sq2 (rg (pv (r_sqL rfl rfl) (pv (r_zb rfl) (nil (t_then ?_)))))
    refine cnd rfl (fun hb9 => ?_) (fun hb9 => ?_)
    · have hm := ctrue hb9 hm
      exact skp (t_then ⟨_, _, (decide (p0 = ([62] : List UInt8))), env_has ⟨rfl, rfl, trivial⟩, Im.refl, hS1.sel [0] rfl, hm⟩)
    have hm := cfalse hb9 hm
    refine sq2 (rg (pv (r_sqL rfl rfl) (pv (r_zb rfl) (nil (t_then ?_)))))
    refine cnd rfl (fun hb10 => ?_) (fun hb10 => ?_)
    · have hm := ctrue hb10 hm
      exact skp (t_then ⟨_, _, (decide (p0 = ([60, 61] : List UInt8))), env_has ⟨rfl, rfl, trivial⟩, Im.refl, hS1.sel [0] rfl, hm⟩)
    have hm := cfalse hb10 hm
    exact rg (pv (r_sqL rfl rfl) (pv (r_zb rfl) (nil (t_then ⟨_, _, (decide (p0 = ([62, 61] : List UInt8))), env_has ⟨rfl, rfl, trivial⟩, Im.refl, hS1.sel [0] rfl, hm⟩))))
  rintro _ w2 ⟨J, T2, x2, rfl, im2, hS2, hm⟩
  rw [hkk2] at hm
  refine cnd rfl (fun hb11 => ?_) (fun hb11 => ?_)
  · have hm := ctrue hb11 hm
    refine sq2 (rg (pv (r_zi rfl) (nil (t_then ?_))))
    have hm := oI hm; subst hm
    exact rtn (r_blk (r_then (ret1 rfl rfl ⟨_, rfl, _, (iT im1 im2), ⟨rfl, hS2.sel [0] rfl, trivial⟩⟩)))
  have hm := cfalse hb11 hm
  obtain ⟨kk3, hkk3, hm⟩ := jn_open hm
  refine cut (fun a w3 => ∃ (J : JV) (T3 : TP) (x3 : Bool), a = env (nf 32) J [(3, .string ⟨p0.toArray⟩), (22, .bool x3)] ∧ Im T2 w2 T3 w3 ∧ Sep g T3 w3 [R] ∧ kk3 x3 = some r) ?_ ?_
  · refine sq2 (rg (pv (r_sqL rfl rfl) (pv (r_zb rfl) (nil (t_then ?_)))))
    refine cnd rfl (fun hb12 => ?_) (fun hb12 => ?_)
    · have hm := ctrue hb12 hm
      exact skp (t_then ⟨_, _, (decide (p0 = ([60, 60] : List UInt8))), env_has ⟨rfl, rfl, trivial⟩, Im.refl, hS2.sel [0] rfl, hm⟩)
    have hm := cfalse hb12 hm
    exact rg (pv (r_sqL rfl rfl) (pv (r_zb rfl) (nil (t_then ⟨_, _, (decide (p0 = ([62, 62] : List UInt8))), env_has ⟨rfl, rfl, trivial⟩, Im.refl, hS2.sel [0] rfl, hm⟩))))
  rintro _ w3 ⟨J, T3, x3, rfl, im3, hS3, hm⟩
  rw [hkk3] at hm
  refine cnd rfl (fun hb13 => ?_) (fun hb13 => ?_)
  · have hm := ctrue hb13 hm
    refine sq2 (rg (pv (r_zi rfl) (nil (t_then ?_))))
    have hm := oI hm; subst hm
    exact rtn (r_blk (r_then (ret1 rfl rfl ⟨_, rfl, _, (iT im1 (iT im2 im3)), ⟨rfl, hS3.sel [0] rfl, trivial⟩⟩)))
  have hm := cfalse hb13 hm
  obtain ⟨kk4, hkk4, hm⟩ := jn_open hm
  refine cut (fun a w4 => ∃ (J : JV) (T4 : TP) (x4 : Bool), a = env (nf 32) J [(3, .string ⟨p0.toArray⟩), (25, .bool x4)] ∧ Im T3 w3 T4 w4 ∧ Sep g T4 w4 [R] ∧ kk4 x4 = some r) ?_ ?_
  · refine sq2 (rg (pv (r_sqL rfl rfl) (pv (r_zb rfl) (nil (t_then ?_)))))
    refine cnd rfl (fun hb14 => ?_) (fun hb14 => ?_)
    · have hm := ctrue hb14 hm
      exact skp (t_then ⟨_, _, (decide (p0 = ([43] : List UInt8))), env_has ⟨rfl, rfl, trivial⟩, Im.refl, hS3.sel [0] rfl, hm⟩)
    have hm := cfalse hb14 hm
    exact rg (pv (r_sqL rfl rfl) (pv (r_zb rfl) (nil (t_then ⟨_, _, (decide (p0 = ([45] : List UInt8))), env_has ⟨rfl, rfl, trivial⟩, Im.refl, hS3.sel [0] rfl, hm⟩))))
  rintro _ w4 ⟨J, T4, x4, rfl, im4, hS4, hm⟩
  rw [hkk4] at hm
  refine cnd rfl (fun hb15 => ?_) (fun hb15 => ?_)
  · have hm := ctrue hb15 hm
    refine sq2 (rg (pv (r_zi rfl) (nil (t_then ?_))))
    have hm := oI hm; subst hm
    exact rtn (r_blk (r_then (ret1 rfl rfl ⟨_, rfl, _, (iT im1 (iT im2 (iT im3 im4))), ⟨rfl, hS4.sel [0] rfl, trivial⟩⟩)))
  have hm := cfalse hb15 hm
  obtain ⟨kk5, hkk5, hm⟩ := jn_open hm
  refine cut (fun a w5 => ∃ (J : JV) (T5 : TP) (x5 : Bool), a = env (nf 32) J [(28, .bool x5)] ∧ Im T4 w4 T5 w5 ∧ Sep g T5 w5 [R] ∧ kk5 x5 = some r) ?_ ?_
  · refine sq2 (rg (pv (r_sqL rfl rfl) (pv (r_zb rfl) (nil (t_then ?_)))))
    refine cnd rfl (fun hb16 => ?_) (fun hb16 => ?_)
    · have hm := ctrue hb16 hm
      exact skp (t_then ⟨_, _, (decide (p0 = ([42] : List UInt8))), env_has ⟨rfl, trivial⟩, Im.refl, hS4.sel [0] rfl, hm⟩)
    have hm := cfalse hb16 hm
    refine sq2 (rg (pv (r_sqL rfl rfl) (pv (r_zb rfl) (nil (t_then ?_)))))
    refine cnd rfl (fun hb17 => ?_) (fun hb17 => ?_)
    · have hm := ctrue hb17 hm
      exact skp (t_then ⟨_, _, (decide (p0 = ([47] : List UInt8))), env_has ⟨rfl, trivial⟩, Im.refl, hS4.sel [0] rfl, hm⟩)
    have hm := cfalse hb17 hm
    exact rg (pv (r_sqL rfl rfl) (pv (r_zb rfl) (nil (t_then ⟨_, _, (decide (p0 = ([37] : List UInt8))), env_has ⟨rfl, trivial⟩, Im.refl, hS4.sel [0] rfl, hm⟩))))
  rintro _ w5 ⟨J, T5, x5, rfl, im5, hS5, hm⟩
  rw [hkk5] at hm
  refine cnd rfl (fun hb18 => ?_) (fun hb18 => ?_)
  · have hm := ctrue hb18 hm
    refine sq2 (rg (pv (r_zi rfl) (nil (t_then ?_))))
    have hm := oI hm; subst hm
    exact rtn (r_blk (r_then (ret1 rfl rfl ⟨_, rfl, _, (iT im1 (iT im2 (iT im3 (iT im4 im5)))), ⟨rfl, hS5.sel [0] rfl, trivial⟩⟩)))
  have hm := cfalse hb18 hm
  refine skp (t_blk (t_then ?_))
  refine sq2 (rg (pv (r_zi rfl) (nil (t_then ?_))))
  have hm := oI hm; subst hm
  exact rtn (ret1 rfl rfl ⟨_, rfl, _, (iT im1 (iT im2 (iT im3 (iT im4 im5)))), ⟨rfl, hS5.sel [0] rfl, trivial⟩⟩)

theorem tree_reader_deeper_1_sim {p0 : TreeReader} {b_p0 o_p0 : Nat} {H_p0 : List Value → Assn} {b1 : Nat} {oo1 : Nat} {H1 : List Value → Assn} {a1 : OA} {c1 : Nat} {r : TreeReader} (hS : Sep g T0 w0 [R, H_p0 [pt b1 oo1], H1 [sv a1 p0.l c1, iv p0.end_.Line, iv p0.end_.Col, iv p0.depth]]) (hL_p0 : Ln b_p0 o_p0 H_p0) (hL1 : Ln b1 oo1 H1) (h1 : SlR rGToken T0 w0 (sv a1 p0.l c1) p0.l) (hm : tree_reader_deeper_1 p0 = some r) :
    Calls Tryz.prog 115 #[pt b_p0 o_p0] w0 (RetS T0 w0 fun T w v => ∃ (a2 : OA) (c2 : Nat), v = .tuple #[] ∧ Sep g T w [R, H_p0 [pt b1 oo1], H1 [sv a2 r.l c2, iv r.end_.Line, iv r.end_.Col, iv r.depth]] ∧ SlR rGToken T w (sv a2 r.l c2) r.l ∧ True) := by
  refine enter (args := [pt b_p0 o_p0]) Tryz.func115 rfl Tryz.ntmps115 rfl fun J => ?_
  unfold tree_reader_deeper_1 at hm
  refine rg (pv (r_ld rfl isAgg41 (hS.cellB (i := 1) ⟨rfl, rfl⟩ hL_p0 (j := 0) rfl)) (pv (r_nc rfl) (pv (r_fa rfl underlying43 rfl sizeOf3 rfl) (pv (r_ld rfl isAgg3 (hS.cellB (i := 2) ⟨rfl, rfl⟩ hL1 (j := 3) rfl)) (pv (r_ib rfl rfl rfl) (pv (r_nc rfl) (pv (r_fa rfl underlying43 rfl sizeOf3 rfl) (wl rfl (stB (q := 2) (j := 3) hS ⟨rfl, rfl⟩ hL1 rfl rfl rfl sizeOf3 rfl rfl rfl fun w1 im1 hS1 => ?_)))))))))
  have hm := oI hm; subst hm
  exact nil (end0 rfl ⟨_, rfl, _, im1, ⟨_, _, rfl, hS1.sel [0, 1, 2] rfl, (h1.mono im1), trivial⟩⟩)

theorem tree_assigns_sim {p0 : List UInt8} {r : Bool} (hS : Sep g T0 w0 [R])  (hm : tree_assigns p0 = some r) :
    Calls Tryz.prog 100 #[.string ⟨p0.toArray⟩] w0 (RetS T0 w0 fun T w v => v = .bool r ∧ Sep g T w [R] ∧ True) := by
  refine enter (args := [.string ⟨p0.toArray⟩]) Tryz.func100 rfl Tryz.ntmps100 rfl fun J => ?_
  unfold tree_assigns at hm
  refine sq2 (rg (pv (r_zb rfl) (nil (t_then ?_))))
  refine sq2 (sq2 (rg (pv (r_mt rfl) (nil (t_then ?_)))))
  refine blk ?_
  obtain ⟨kk1, hkk1, hm⟩ := jn_open hm
  refine cut (fun a w1 => ∃ (J : JV) (T1 : TP) (x1 : Bool), a = env (nf 16) J [(4, .bool x1)] ∧ Im T0 w0 T1 w1 ∧ Sep g T1 w1 [R] ∧ kk1 x1 = some r) ?_ ?_
  · refine sq2 (rg (pv (r_sqL rfl rfl) (pv (r_zb rfl) (nil (t_then ?_)))))
    refine cnd rfl (fun hb1 => ?_) (fun hb1 => ?_)
    · have hm := ctrue hb1 hm
      exact skp (t_then ⟨_, _, (decide (p0 = ([61] : List UInt8))), env_has ⟨rfl, trivial⟩, Im.refl, hS.sel [0] rfl, hm⟩)
    have hm := cfalse hb1 hm
    refine sq2 (rg (pv (r_sqL rfl rfl) (pv (r_zb rfl) (nil (t_then ?_)))))
    refine cnd rfl (fun hb2 => ?_) (fun hb2 => ?_)
    · have hm := ctrue hb2 hm
      exact skp (t_then ⟨_, _, (decide (p0 = ([43, 61] : List UInt8))), env_has ⟨rfl, trivial⟩, Im.refl, hS.sel [0] rfl, hm⟩)
    have hm := cfalse hb2 hm
    refine sq2 (rg (pv (r_sqL rfl rfl) (pv (r_zb rfl) (nil (t_then ?_)))))
    refine cnd rfl (fun hb3 => ?_) (fun hb3 => ?_)
    · have hm := ctrue hb3 hm
      exact skp (t_then ⟨_, _, (decide (p0 = ([45, 61] : List UInt8))), env_has ⟨rfl, trivial⟩, Im.refl, hS.sel [0] rfl, hm⟩)
    have hm := cfalse hb3 hm
    refine sq2 (rg (pv (r_sqL rfl rfl) (pv (r_zb rfl) (nil (t_then ?_)))))
    refine cnd rfl (fun hb4 => ?_) (fun hb4 => ?_)
    · have hm := ctrue hb4 hm
      exact skp (t_then ⟨_, _, (decide (p0 = ([42, 61] : List UInt8))), env_has ⟨rfl, trivial⟩, Im.refl, hS.sel [0] rfl, hm⟩)
    have hm := cfalse hb4 hm
    refine sq2 (rg (pv (r_sqL rfl rfl) (pv (r_zb rfl) (nil (t_then ?_)))))
    refine cnd rfl (fun hb5 => ?_) (fun hb5 => ?_)
    · have hm := ctrue hb5 hm
      exact skp (t_then ⟨_, _, (decide (p0 = ([47, 61] : List UInt8))), env_has ⟨rfl, trivial⟩, Im.refl, hS.sel [0] rfl, hm⟩)
    have hm := cfalse hb5 hm
    refine sq2 (rg (pv (r_sqL rfl rfl) (pv (r_zb rfl) (nil (t_then ?_)))))
    refine cnd rfl (fun hb6 => ?_) (fun hb6 => ?_)
    · have hm := ctrue hb6 hm
      exact skp (t_then ⟨_, _, (decide (p0 = ([37, 61] : List UInt8))), env_has ⟨rfl, trivial⟩, Im.refl, hS.sel [0] rfl, hm⟩)
    have hm := cfalse hb6 hm
    refine sq2 (rg (pv (r_sqL rfl rfl) (pv (r_zb rfl) (nil (t_then ?_)))))
    refine cnd rfl (fun hb7 => ?_) (fun hb7 => ?_)
    · have hm := ctrue hb7 hm
      exact skp (t_then ⟨_, _, (decide (p0 = ([38, 61] : List UInt8))), env_has ⟨rfl, trivial⟩, Im.refl, hS.sel [0] rfl, hm⟩)
    have hm := cfalse hb7 hm
    refine sq2 (rg (pv (r_sqL rfl rfl) (pv (r_zb rfl) (nil (t_then ?_)))))
    refine cnd rfl (fun hb8 => ?_) (fun hb8 => ?_)
    · have hm := ctrue hb8 hm
      exact skp (t_then ⟨_, _, (decide (p0 = ([124, 61] : List UInt8))), env_has ⟨rfl, trivial⟩, Im.refl, hS.sel [0] rfl, hm⟩)
    have hm := cfalse hb8 hm
    refine sq2 (rg (pv (r_sqL rfl rfl) (pv (r_zb rfl) (nil (t_then ?_)))))
    refine cnd rfl (fun hb9 => ?_) (fun hb9 => ?_)
    · have hm := ctrue hb9 hm
      exact skp (t_then ⟨_, _, (decide (p0 = ([94, 61] : List UInt8))), env_has ⟨rfl, trivial⟩, Im.refl, hS.sel [0] rfl, hm⟩)
    have hm := cfalse hb9 hm
    refine sq2 (rg (pv (r_sqL rfl rfl) (pv (r_zb rfl) (nil (t_then ?_)))))
    refine cnd rfl (fun hb10 => ?_) (fun hb10 => ?_)
    · have hm := ctrue hb10 hm
      exact skp (t_then ⟨_, _, (decide (p0 = ([60, 60, 61] : List UInt8))), env_has ⟨rfl, trivial⟩, Im.refl, hS.sel [0] rfl, hm⟩)
    have hm := cfalse hb10 hm
    exact rg (pv (r_sqL rfl rfl) (pv (r_zb rfl) (nil (t_then ⟨_, _, (decide (p0 = ([62, 62, 61] : List UInt8))), env_has ⟨rfl, trivial⟩, Im.refl, hS.sel [0] rfl, hm⟩))))
  rintro _ w1 ⟨J, T1, x1, rfl, im1, hS1, hm⟩
  rw [hkk1] at hm
  refine cnd rfl (fun hb11 => ?_) (fun hb11 => ?_)
  · have hm := ctrue hb11 hm
    refine sq2 (rg (pv (r_zb rfl) (nil (t_then ?_))))
    have hm := oI hm; subst hm
    exact rtn (r_blk (r_then (ret1 rfl rfl ⟨_, rfl, _, im1, ⟨rfl, hS1.sel [0] rfl, trivial⟩⟩)))
  have hm := cfalse hb11 hm
  refine skp (t_blk (t_then ?_))
  refine sq2 (rg (pv (r_zb rfl) (nil (t_then ?_))))
  have hm := oI hm; subst hm
  exact rtn (ret1 rfl rfl ⟨_, rfl, _, im1, ⟨rfl, hS1.sel [0] rfl, trivial⟩⟩)

structure Sp1 (G : Rec1) : Prop where
  tree_reader_bracketed : ∀ {g : World} {T0 : TP} {w0 : World} {R : Assn} {p0 : TreeReader} {b_p0 o_p0 : Nat} {H_p0 : List Value → Assn} {a1 : OA} {c1 : Nat} {r : Except (TreeRefused × TreeReader) ((List GExpr) × TreeReader)} (hS : Sep g T0 w0 [R, H_p0 [sv a1 p0.l c1, iv p0.end_.Line, iv p0.end_.Col, iv p0.depth]]) (hL_p0 : Ln b_p0 o_p0 H_p0) (h1 : SlR rGToken T0 w0 (sv a1 p0.l c1) p0.l) (hm : G.tree_reader_bracketed p0 = some r),
    Calls Tryz.prog 104 #[pt b_p0 o_p0] w0 (exR r (fun r => RetS T0 w0 fun T w v => ∃ (a10 : OA) (n2 : Nat) (c10 : Nat) (a11 : OA) (c11 : Nat), v = .slice a10 n2 c10 ∧ Sep g T w [R, H_p0 [sv a11 r.2.l c11, iv r.2.end_.Line, iv r.2.end_.Col, iv r.2.depth], ownA rGExpr 99 (.slice a10 n2 c10) r.1] ∧ SlR rGToken T w (sv a11 r.2.l c11) r.2.l ∧ True) (fun r => PanS T0 w0 fun T w v => ∃ (a10 : OA) (c10 : Nat), v = .iface 48 (.agg (cTreeRefused r.1).toArray) ∧ Sep g T w [R, H_p0 [sv a10 r.2.l c10, iv r.2.end_.Line, iv r.2.end_.Col, iv r.2.depth]] ∧ SlR rGToken T w (sv a10 r.2.l c10) r.2.l ∧ True))
  tree_reader_handed : ∀ {g : World} {T0 : TP} {w0 : World} {R : Assn} {p0 : TreeReader} {b_p0 o_p0 : Nat} {H_p0 : List Value → Assn} {a1 : OA} {c1 : Nat} {r : Except (TreeRefused × TreeReader) ((List GExpr) × TreeReader)} (hS : Sep g T0 w0 [R, H_p0 [sv a1 p0.l c1, iv p0.end_.Line, iv p0.end_.Col, iv p0.depth]]) (hL_p0 : Ln b_p0 o_p0 H_p0) (h1 : SlR rGToken T0 w0 (sv a1 p0.l c1) p0.l) (hm : G.tree_reader_handed p0 = some r),
    Calls Tryz.prog 128 #[pt b_p0 o_p0] w0 (exR r (fun r => RetS T0 w0 fun T w v => ∃ (a21 : OA) (n5 : Nat) (c21 : Nat) (a22 : OA) (c22 : Nat), v = .slice a21 n5 c21 ∧ Sep g T w [R, H_p0 [sv a22 r.2.l c22, iv r.2.end_.Line, iv r.2.end_.Col, iv r.2.depth], ownA rGExpr 99 (.slice a21 n5 c21) r.1] ∧ SlR rGToken T w (sv a22 r.2.l c22) r.2.l ∧ True) (fun r => PanS T0 w0 fun T w v => ∃ (a21 : OA) (c21 : Nat), v = .iface 48 (.agg (cTreeRefused r.1).toArray) ∧ Sep g T w [R, H_p0 [sv a21 r.2.l c21, iv r.2.end_.Line, iv r.2.end_.Col, iv r.2.depth]] ∧ SlR rGToken T w (sv a21 r.2.l c21) r.2.l ∧ True))
  tree_reader_prime : ∀ {g : World} {T0 : TP} {w0 : World} {R : Assn} {p0 : TreeReader} {b_p0 o_p0 : Nat} {H_p0 : List Value → Assn} {a1 : OA} {c1 : Nat} {r : Except (TreeRefused × TreeReader) (GExpr × TreeReader)} (hS : Sep g T0 w0 [R, H_p0 [sv a1 p0.l c1, iv p0.end_.Line, iv p0.end_.Col, iv p0.depth]]) (hL_p0 : Ln b_p0 o_p0 H_p0) (h1 : SlR rGToken T0 w0 (sv a1 p0.l c1) p0.l) (hm : G.tree_reader_prime p0 = some r),
    Calls Tryz.prog 127 #[pt b_p0 o_p0] w0 (exR r (fun r => RetS T0 w0 fun T w v => ∃ (a31 : OA) (c31 : Nat) (a32 : OA) (c32 : Nat), v = .agg (cGExpr r.1 a31 c31).toArray ∧ Sep g T w [R, H_p0 [sv a32 r.2.l c32, iv r.2.end_.Line, iv r.2.end_.Col, iv r.2.depth]] ∧ SlR rGExpr T w (sv a31 r.1.Kids c31) r.1.Kids ∧ SlR rGToken T w (sv a32 r.2.l c32) r.2.l ∧ True) (fun r => PanS T0 w0 fun T w v => ∃ (a31 : OA) (c31 : Nat), v = .iface 48 (.agg (cTreeRefused r.1).toArray) ∧ Sep g T w [R, H_p0 [sv a31 r.2.l c31, iv r.2.end_.Line, iv r.2.end_.Col, iv r.2.depth]] ∧ SlR rGToken T w (sv a31 r.2.l c31) r.2.l ∧ True))
  tree_reader_post : ∀ {g : World} {T0 : TP} {w0 : World} {R : Assn} {p0 : TreeReader} {b_p0 o_p0 : Nat} {H_p0 : List Value → Assn} {a1 : OA} {c1 : Nat} {r : Except (TreeRefused × TreeReader) (GExpr × TreeReader)} (hS : Sep g T0 w0 [R, H_p0 [sv a1 p0.l c1, iv p0.end_.Line, iv p0.end_.Col, iv p0.depth]]) (hL_p0 : Ln b_p0 o_p0 H_p0) (h1 : SlR rGToken T0 w0 (sv a1 p0.l c1) p0.l) (hm : G.tree_reader_post p0 = some r),
    Calls Tryz.prog 126 #[pt b_p0 o_p0] w0 (exR r (fun r => RetS T0 w0 fun T w v => ∃ (a25 : OA) (c25 : Nat) (a26 : OA) (c26 : Nat), v = .agg (cGExpr r.1 a25 c25).toArray ∧ Sep g T w [R, H_p0 [sv a26 r.2.l c26, iv r.2.end_.Line, iv r.2.end_.Col, iv r.2.depth]] ∧ SlR rGExpr T w (sv a25 r.1.Kids c25) r.1.Kids ∧ SlR rGToken T w (sv a26 r.2.l c26) r.2.l ∧ True) (fun r => PanS T0 w0 fun T w v => ∃ (a25 : OA) (c25 : Nat), v = .iface 48 (.agg (cTreeRefused r.1).toArray) ∧ Sep g T w [R, H_p0 [sv a25 r.2.l c25, iv r.2.end_.Line, iv r.2.end_.Col, iv r.2.depth]] ∧ SlR rGToken T w (sv a25 r.2.l c25) r.2.l ∧ True))
  tree_reader_unary : ∀ {g : World} {T0 : TP} {w0 : World} {R : Assn} {p0 : TreeReader} {b_p0 o_p0 : Nat} {H_p0 : List Value → Assn} {a1 : OA} {c1 : Nat} {r : Except (TreeRefused × TreeReader) (GExpr × TreeReader)} (hS : Sep g T0 w0 [R, H_p0 [sv a1 p0.l c1, iv p0.end_.Line, iv p0.end_.Col, iv p0.depth]]) (hL_p0 : Ln b_p0 o_p0 H_p0) (h1 : SlR rGToken T0 w0 (sv a1 p0.l c1) p0.l) (hm : G.tree_reader_unary p0 = some r),
    Calls Tryz.prog 122 #[pt b_p0 o_p0] w0 (exR r (fun r => RetS T0 w0 fun T w v => ∃ (a27 : OA) (c27 : Nat) (a28 : OA) (c28 : Nat), v = .agg (cGExpr r.1 a27 c27).toArray ∧ Sep g T w [R, H_p0 [sv a28 r.2.l c28, iv r.2.end_.Line, iv r.2.end_.Col, iv r.2.depth]] ∧ SlR rGExpr T w (sv a27 r.1.Kids c27) r.1.Kids ∧ SlR rGToken T w (sv a28 r.2.l c28) r.2.l ∧ True) (fun r => PanS T0 w0 fun T w v => ∃ (a27 : OA) (c27 : Nat), v = .iface 48 (.agg (cTreeRefused r.1).toArray) ∧ Sep g T w [R, H_p0 [sv a27 r.2.l c27, iv r.2.end_.Line, iv r.2.end_.Col, iv r.2.depth]] ∧ SlR rGToken T w (sv a27 r.2.l c27) r.2.l ∧ True))
  tree_reader_binary : ∀ {g : World} {T0 : TP} {w0 : World} {R : Assn} {p0 : TreeReader} {b_p0 o_p0 : Nat} {H_p0 : List Value → Assn} {a1 : OA} {c1 : Nat} {p1 : Int} {r : Except (TreeRefused × TreeReader) (GExpr × TreeReader)} (hS : Sep g T0 w0 [R, H_p0 [sv a1 p0.l c1, iv p0.end_.Line, iv p0.end_.Col, iv p0.depth]]) (hL_p0 : Ln b_p0 o_p0 H_p0) (h1 : SlR rGToken T0 w0 (sv a1 p0.l c1) p0.l) (hm : G.tree_reader_binary p0 p1 = some r),
    Calls Tryz.prog 116 #[pt b_p0 o_p0, iv p1] w0 (exR r (fun r => RetS T0 w0 fun T w v => ∃ (a13 : OA) (c13 : Nat) (a14 : OA) (c14 : Nat), v = .agg (cGExpr r.1 a13 c13).toArray ∧ Sep g T w [R, H_p0 [sv a14 r.2.l c14, iv r.2.end_.Line, iv r.2.end_.Col, iv r.2.depth]] ∧ SlR rGExpr T w (sv a13 r.1.Kids c13) r.1.Kids ∧ SlR rGToken T w (sv a14 r.2.l c14) r.2.l ∧ True) (fun r => PanS T0 w0 fun T w v => ∃ (a13 : OA) (c13 : Nat), v = .iface 48 (.agg (cTreeRefused r.1).toArray) ∧ Sep g T w [R, H_p0 [sv a13 r.2.l c13, iv r.2.end_.Line, iv r.2.end_.Col, iv r.2.depth]] ∧ SlR rGToken T w (sv a13 r.2.l c13) r.2.l ∧ True))
  tree_reader_cond : ∀ {g : World} {T0 : TP} {w0 : World} {R : Assn} {p0 : TreeReader} {b_p0 o_p0 : Nat} {H_p0 : List Value → Assn} {a1 : OA} {c1 : Nat} {r : Except (TreeRefused × TreeReader) (GExpr × TreeReader)} (hS : Sep g T0 w0 [R, H_p0 [sv a1 p0.l c1, iv p0.end_.Line, iv p0.end_.Col, iv p0.depth]]) (hL_p0 : Ln b_p0 o_p0 H_p0) (h1 : SlR rGToken T0 w0 (sv a1 p0.l c1) p0.l) (hm : G.tree_reader_cond p0 = some r),
    Calls Tryz.prog 99 #[pt b_p0 o_p0] w0 (exR r (fun r => RetS T0 w0 fun T w v => ∃ (a19 : OA) (c19 : Nat) (a20 : OA) (c20 : Nat), v = .agg (cGExpr r.1 a19 c19).toArray ∧ Sep g T w [R, H_p0 [sv a20 r.2.l c20, iv r.2.end_.Line, iv r.2.end_.Col, iv r.2.depth]] ∧ SlR rGExpr T w (sv a19 r.1.Kids c19) r.1.Kids ∧ SlR rGToken T w (sv a20 r.2.l c20) r.2.l ∧ True) (fun r => PanS T0 w0 fun T w v => ∃ (a19 : OA) (c19 : Nat), v = .iface 48 (.agg (cTreeRefused r.1).toArray) ∧ Sep g T w [R, H_p0 [sv a19 r.2.l c19, iv r.2.end_.Line, iv r.2.end_.Col, iv r.2.depth]] ∧ SlR rGToken T w (sv a19 r.2.l c19) r.2.l ∧ True))
  tree_reader_assign : ∀ {g : World} {T0 : TP} {w0 : World} {R : Assn} {p0 : TreeReader} {b_p0 o_p0 : Nat} {H_p0 : List Value → Assn} {a1 : OA} {c1 : Nat} {r : Except (TreeRefused × TreeReader) (GExpr × TreeReader)} (hS : Sep g T0 w0 [R, H_p0 [sv a1 p0.l c1, iv p0.end_.Line, iv p0.end_.Col, iv p0.depth]]) (hL_p0 : Ln b_p0 o_p0 H_p0) (h1 : SlR rGToken T0 w0 (sv a1 p0.l c1) p0.l) (hm : G.tree_reader_assign p0 = some r),
    Calls Tryz.prog 87 #[pt b_p0 o_p0] w0 (exR r (fun r => RetS T0 w0 fun T w v => ∃ (a13 : OA) (c13 : Nat) (a14 : OA) (c14 : Nat), v = .agg (cGExpr r.1 a13 c13).toArray ∧ Sep g T w [R, H_p0 [sv a14 r.2.l c14, iv r.2.end_.Line, iv r.2.end_.Col, iv r.2.depth]] ∧ SlR rGExpr T w (sv a13 r.1.Kids c13) r.1.Kids ∧ SlR rGToken T w (sv a14 r.2.l c14) r.2.l ∧ True) (fun r => PanS T0 w0 fun T w v => ∃ (a13 : OA) (c13 : Nat), v = .iface 48 (.agg (cTreeRefused r.1).toArray) ∧ Sep g T w [R, H_p0 [sv a13 r.2.l c13, iv r.2.end_.Line, iv r.2.end_.Col, iv r.2.depth]] ∧ SlR rGToken T w (sv a13 r.2.l c13) r.2.l ∧ True))
theorem tree_reader_bracketed_st {G : Rec1} (hG : Sp1 G) {g : World} {T0 : TP} {w0 : World} {R : Assn} {p0 : TreeReader} {b_p0 o_p0 : Nat} {H_p0 : List Value → Assn} {a1 : OA} {c1 : Nat} {r : Except (TreeRefused × TreeReader) ((List GExpr) × TreeReader)} (hS : Sep g T0 w0 [R, H_p0 [sv a1 p0.l c1, iv p0.end_.Line, iv p0.end_.Col, iv p0.depth]]) (hL_p0 : Ln b_p0 o_p0 H_p0) (h1 : SlR rGToken T0 w0 (sv a1 p0.l c1) p0.l) (hm : tree_reader_bracketed_b G p0 = some r) :
    Calls Tryz.prog 104 #[pt b_p0 o_p0] w0 (exR r (fun r => RetS T0 w0 fun T w v => ∃ (a10 : OA) (n2 : Nat) (c10 : Nat) (a11 : OA) (c11 : Nat), v = .slice a10 n2 c10 ∧ Sep g T w [R, H_p0 [sv a11 r.2.l c11, iv r.2.end_.Line, iv r.2.end_.Col, iv r.2.depth], ownA rGExpr 99 (.slice a10 n2 c10) r.1] ∧ SlR rGToken T w (sv a11 r.2.l c11) r.2.l ∧ True) (fun r => PanS T0 w0 fun T w v => ∃ (a10 : OA) (c10 : Nat), v = .iface 48 (.agg (cTreeRefused r.1).toArray) ∧ Sep g T w [R, H_p0 [sv a10 r.2.l c10, iv r.2.end_.Line, iv r.2.end_.Col, iv r.2.depth]] ∧ SlR rGToken T w (sv a10 r.2.l c10) r.2.l ∧ True)) := by
  refine enter (args := [pt b_p0 o_p0]) Tryz.func104 rfl Tryz.ntmps104 rfl fun J => ?_
  unfold tree_reader_bracketed_b at hm
  refine sq2 (rg (pv (r_zs rfl) (nil (t_then ?_))))
  refine sq2 (rg (pv (r_mp rfl) (?_)))
  obtain ⟨y1, hx1, hm⟩ := bindS hm
  rcases y1 with e3 | y1
  · have hm := exC_error hm
    refine wl rfl (calP cf62 rfl (tree_reader_must_sim (p0 := p0) (H_p0 := H_p0) (p1 := ([40] : List UInt8)) (hS.bun [0] [1] rfl) hL_p0 h1 hx1) rfl fun v6 T6 w9 im9 rv6 => ?_)
    obtain ⟨a9, c9, rfl, hS9, h8, _⟩ := rv6
    have hS9 := hS9.unb
    have hm := oI hm; subst hm
    exact p_then (panE ⟨_, rfl, _, im9, ⟨_, _, rfl, hS9.sel [0, 1] rfl, h8, trivial⟩⟩)
  have hm := exC_ok hm
  refine wl rfl (calS cf62 rfl (tree_reader_must_sim (p0 := p0) (H_p0 := H_p0) (p1 := ([40] : List UInt8)) (hS.bun [0] [1] rfl) hL_p0 h1 hx1) rfl fun v1 T1 w1 im1 rv1 => ?_)
  obtain ⟨a2, c2, rfl, hS1, h2, _⟩ := rv1
  have hS1 := hS1.unb
  refine nil (t_then ?_)
  refine sq2 (rg (pv (r_mp rfl) (?_)))
  obtain ⟨y2, hx2, hm⟩ := bindS hm
  rcases y2 with e2 | y2
  · have hm := exC_error hm
    refine wl rfl (calP cf87 rfl (hG.tree_reader_assign (p0 := y1) (H_p0 := H_p0) (hS1.bun [0] [1] rfl) hL_p0 h2 hx2) rfl fun v5 T5 w8 im8 rv5 => ?_)
    obtain ⟨a8, c8, rfl, hS8, h7, _⟩ := rv5
    have hS8 := hS8.unb
    have hm := oI hm; subst hm
    exact p_then (panE ⟨_, rfl, _, (iT im1 im8), ⟨_, _, rfl, hS8.sel [0, 1] rfl, h7, trivial⟩⟩)
  have hm := exC_ok hm
  refine wl rfl (calS cf87 rfl (hG.tree_reader_assign (p0 := y1) (H_p0 := H_p0) (hS1.bun [0] [1] rfl) hL_p0 h2 hx2) rfl fun v2 T2 w2 im2 rv2 => ?_)
  obtain ⟨a3, c3, a4, c4, rfl, hS2, h3, h4, _⟩ := rv2
  have hS2 := hS2.unb
  refine wl rfl (alS (zs := [iv 0, iv 0, iv 0, .string ⟨([] : List UInt8).toArray⟩, .string ⟨([] : List UInt8).toArray⟩, .int .u32 0, .string ⟨([] : List UInt8).toArray⟩, .string ⟨([] : List UInt8).toArray⟩, iv 0, .slice none 0 0]) zeroValue99 rfl hS2 fun w3 b1 im3 hS3 => ?_)
  refine wl rfl (st0B (q := 0) hS3 ⟨rfl, rfl⟩ rfl rfl rfl sizeOf99 rfl rfl rfl fun w4 im4 hS4 => ?_)
  refine nil (t_then ?_)
  refine sq2 (rg (pv (r_mp rfl) (?_)))
  obtain ⟨y3, hx3, hm⟩ := bindS hm
  rcases y3 with e1 | y3
  · have hm := exC_error hm
    refine wl rfl (calP cf62 rfl (tree_reader_must_sim (p0 := y2.2) (H_p0 := H_p0) (p1 := ([41] : List UInt8)) (hS4.bun [0, 1] [2] rfl) hL_p0 (h4.mono (iT im3 im4)) hx3) rfl fun v4 T4 w7 im7 rv4 => ?_)
    obtain ⟨a7, c7, rfl, hS7, h6, _⟩ := rv4
    have hS7 := hS7.unb
    have hm := oI hm; subst hm
    exact p_then (panE ⟨_, rfl, _, (iT im1 (iT im2 (iT im3 (iT im4 im7)))), ⟨_, _, rfl, hS7.sel [1, 2] rfl, h6, trivial⟩⟩)
  have hm := exC_ok hm
  refine wl rfl (calS cf62 rfl (tree_reader_must_sim (p0 := y2.2) (H_p0 := H_p0) (p1 := ([41] : List UInt8)) (hS4.bun [0, 1] [2] rfl) hL_p0 (h4.mono (iT im3 im4)) hx3) rfl fun v3 T3 w5 im5 rv3 => ?_)
  obtain ⟨a5, c5, rfl, hS5, h5, _⟩ := rv3
  have hS5 := hS5.unb
  refine nil (t_then ?_)
  refine sq2 (rg (pv (r_ldS rfl isAgg99 sizeOf99 rfl (hS5.cells0 (i := 0) ⟨rfl, rfl⟩ (o := 0) rfl) (cs := (cGExpr y2.1 a3 c3))) (wl rfl (bsS (r := rGExpr) (l := ([y2.1] : List GExpr)) (css := [(cGExpr y2.1 a3 c3)]) hS5 underlying56 sizeOf99 zeroValue99 rfl rfl (by kernel_rfl) rfl ⟨(rGExpr_mk (x := y2.1) (h3.mono (iT im3 (iT im4 im5))) : rGExpr.rp _ _ _ _), trivial⟩ rfl rfl fun w6 a6 n1 c6 im6 hS6 => ?_))))
  refine pv (r_zs rfl) (nil (t_then ?_))
  have hm := oI hm; subst hm
  exact rtn (ret1 rfl rfl ⟨_, rfl, _, (iT im1 (iT im2 (iT im3 (iT im4 (iT im5 im6))))), ⟨_, _, _, _, _, rfl, hS6.sel [2, 3, 0] rfl, (h5.mono im6), trivial⟩⟩)
theorem tree_reader_handed_st {G : Rec1} (hG : Sp1 G) {g : World} {T0 : TP} {w0 : World} {R : Assn} {p0 : TreeReader} {b_p0 o_p0 : Nat} {H_p0 : List Value → Assn} {a1 : OA} {c1 : Nat} {r : Except (TreeRefused × TreeReader) ((List GExpr) × TreeReader)} (hS : Sep g T0 w0 [R, H_p0 [sv a1 p0.l c1, iv p0.end_.Line, iv p0.end_.Col, iv p0.depth]]) (hL_p0 : Ln b_p0 o_p0 H_p0) (h1 : SlR rGToken T0 w0 (sv a1 p0.l c1) p0.l) (hm : tree_reader_handed_b G p0 = some r) :
    Calls Tryz.prog 128 #[pt b_p0 o_p0] w0 (exR r (fun r => RetS T0 w0 fun T w v => ∃ (a21 : OA) (n5 : Nat) (c21 : Nat) (a22 : OA) (c22 : Nat), v = .slice a21 n5 c21 ∧ Sep g T w [R, H_p0 [sv a22 r.2.l c22, iv r.2.end_.Line, iv r.2.end_.Col, iv r.2.depth], ownA rGExpr 99 (.slice a21 n5 c21) r.1] ∧ SlR rGToken T w (sv a22 r.2.l c22) r.2.l ∧ True) (fun r => PanS T0 w0 fun T w v => ∃ (a21 : OA) (c21 : Nat), v = .iface 48 (.agg (cTreeRefused r.1).toArray) ∧ Sep g T w [R, H_p0 [sv a21 r.2.l c21, iv r.2.end_.Line, iv r.2.end_.Col, iv r.2.depth]] ∧ SlR rGToken T w (sv a21 r.2.l c21) r.2.l ∧ True)) := by
  refine enter (args := [pt b_p0 o_p0]) Tryz.func128 rfl Tryz.ntmps128 rfl fun J => ?_
  unfold tree_reader_handed_b at hm
  refine sq2 (rg (pv (r_zs rfl) (nil (t_then ?_))))
  refine sq2 (rg (pv (r_mp rfl) (?_)))
  obtain ⟨y1, hx1, hm⟩ := bindS hm
  rcases y1 with e5 | y1
  · have hm := exC_error hm
    refine wl rfl (calP cf62 rfl (tree_reader_must_sim (p0 := p0) (H_p0 := H_p0) (p1 := ([40] : List UInt8)) (hS.bun [0] [1] rfl) hL_p0 h1 hx1) rfl fun v12 T13 w16 im16 rv12 => ?_)
    obtain ⟨a20, c20, rfl, hS17, h16, _⟩ := rv12
    have hS17 := hS17.unb
    have hm := oI hm; subst hm
    exact p_then (panE ⟨_, rfl, _, im16, ⟨_, _, rfl, hS17.sel [0, 1] rfl, h16, trivial⟩⟩)
  have hm := exC_ok hm
  refine wl rfl (calS cf62 rfl (tree_reader_must_sim (p0 := p0) (H_p0 := H_p0) (p1 := ([40] : List UInt8)) (hS.bun [0] [1] rfl) hL_p0 h1 hx1) rfl fun v1 T1 w1 im1 rv1 => ?_)
  obtain ⟨a2, c2, rfl, hS1, h2, _⟩ := rv1
  have hS1 := hS1.unb
  refine nil (t_then ?_)
  refine sq2 (sq2 ?_)
  obtain ⟨y2, hx2, hm⟩ := bindS hm
  refine rg (pv (r_mp rfl) (wl rfl (calS cf82 rfl (tree_reader_take_sim (p0 := y1) (H_p0 := H_p0) (p1 := ([41] : List UInt8)) (hS1.bun [0] [1] rfl) hL_p0 h2 hx2) rfl fun v2 T2 w2 im2 rv2 => ?_)))
  obtain ⟨a3, c3, rfl, hS2, h3, _⟩ := rv2
  have hS2 := hS2.unb
  refine nil (t_then ?_)
  refine cnd rfl (fun hb1 => ?_) (fun hb1 => ?_)
  · have hm := ctrue hb1 hm
    refine sq2 (rg (pv (r_zs rfl) (nil (t_then ?_))))
    have hS3 := hS2.nilO rGExpr 99
    have hm := oI hm; subst hm
    exact rtn (r_then (ret1 rfl rfl ⟨_, rfl, _, (iT im1 im2), ⟨_, _, _, _, _, rfl, hS3.sel [1, 2, 0] rfl, h3, trivial⟩⟩))
  have hm := cfalse hb1 hm
  refine skp (t_then ?_)
  refine sq2 (rg (pv (r_mp rfl) (?_)))
  obtain ⟨y3, hx3, hm⟩ := bindS hm
  rcases y3 with e4 | y3
  · have hm := exC_error hm
    refine wl rfl (calP cf87 rfl (hG.tree_reader_assign (p0 := y2.2) (H_p0 := H_p0) (hS2.bun [0] [1] rfl) hL_p0 h3 hx3) rfl fun v11 T12 w15 im15 rv11 => ?_)
    obtain ⟨a19, c19, rfl, hS16, h15, _⟩ := rv11
    have hS16 := hS16.unb
    have hm := oI hm; subst hm
    exact p_then (panE ⟨_, rfl, _, (iT im1 (iT im2 im15)), ⟨_, _, rfl, hS16.sel [0, 1] rfl, h15, trivial⟩⟩)
  have hm := exC_ok hm
  refine wl rfl (calS cf87 rfl (hG.tree_reader_assign (p0 := y2.2) (H_p0 := H_p0) (hS2.bun [0] [1] rfl) hL_p0 h3 hx3) rfl fun v3 T3 w3 im3 rv3 => ?_)
  obtain ⟨a4, c4, a5, c5, rfl, hS4, h4, h5, _⟩ := rv3
  have hS4 := hS4.unb
  refine wl rfl (bsS (r := rGExpr) (l := ([y3.1] : List GExpr)) (css := [(cGExpr y3.1 a4 c4)]) hS4 underlying56 sizeOf99 zeroValue99 rfl rfl (by kernel_rfl) rfl ⟨(rGExpr_mk (x := y3.1) h4 : rGExpr.rp _ _ _ _), trivial⟩ rfl rfl fun w4 a6 n1 c6 im4 hS5 => ?_)
  refine pv (r_zs rfl) (nil (t_then ?_))
  refine sq2 ?_
  obtain ⟨o1, ho1, hq1⟩ := bindS hm
  obtain ⟨bd1, hbd1, ho1⟩ := loop_open ho1
  refine blk (wp_loop_ghost (fun m a w5 => ∃ (J : JV) (T4 : TP) (x2 : TreeReader) (x1 : List GExpr) (a7 : OA) (n2 : Nat) (c7 : Nat) (a8 : OA) (c8 : Nat), a = env (nf 21) J [(0, pt b_p0 o_p0), (3, .slice a7 n2 c7)] ∧ Im T3 w4 T4 w5 ∧ Sep g T4 w5 [ownA rGExpr 99 (.slice a7 n2 c7) x1, R, H_p0 [sv a8 x2.l c8, iv x2.end_.Line, iv x2.end_.Col, iv x2.depth]] ∧ SlR rGToken T4 w5 (sv a8 x2.l c8) x2.l ∧ loopM bd1 m (x1, x2) = some o1) NN ⟨_, _, y3.2, ([y3.1] : List GExpr), _, _, _, _, _, env_has ⟨rfl, rfl, trivial⟩, Im.refl, hS5.sel [0, 1, 2] rfl, (h5.mono im4), ho1⟩ ?_)
  rintro m _ w5 ⟨J, T4, x2, x1, a7, n2, c7, a8, c8, rfl, im5, hS6, h6, ho1⟩
  obtain ⟨m1, z1, rfl, hm, hn1⟩ := loop_round ho1
  rw [hbd1] at hm
  refine sq2 (sq2 ?_)
  obtain ⟨y4, hx4, hm⟩ := bindS hm
  refine rg (pv (r_mp rfl) (wl rfl (calS cf82 rfl (tree_reader_take_sim (p0 := x2) (H_p0 := H_p0) (p1 := ([44] : List UInt8)) (hS6.bun [0, 1] [2] rfl) hL_p0 h6 hx4) rfl fun v4 T5 w6 im6 rv4 => ?_)))
  obtain ⟨a9, c9, rfl, hS7, h7, _⟩ := rv4
  have hS7 := hS7.unb
  refine nil (t_then ?_)
  refine cnd rfl (fun hb2 => ?_) (fun hb2 => ?_)
  · have hm := ctrue hb2 hm
    refine skp (t_then ?_)
    refine blk (rg (pv (r_ms rfl) (pv (r_mp rfl) (?_))))
    obtain ⟨y5, hx5, hm⟩ := bindS hm
    rcases y5 with e1 | y5
    · have hm := exC_error hm
      refine wl rfl (calP cf87 rfl (hG.tree_reader_assign (p0 := y4.2) (H_p0 := H_p0) (hS7.bun [0, 1] [2] rfl) hL_p0 h7 hx5) rfl fun v6 T7 w10 im10 rv6 => ?_)
      obtain ⟨a14, c14, rfl, hS11, h10, _⟩ := rv6
      have hS11 := hS11.unb
      have hm := oI hm; subst hm
      have hn1 : _ = Lp.ret _ := hn1
      subst hn1
      have hm := thn_ret hq1
      have hm := oI hm; subst hm
      exact p_blk (p_then (p_blk (p_then (panE ⟨_, rfl, _, (iT im1 (iT im2 (iT im3 (iT im4 (iT im5 (iT im6 im10)))))), ⟨_, _, rfl, hS11.sel [1, 2] rfl, h10, trivial⟩⟩))))
    have hm := exC_ok hm
    refine wl rfl (calS cf87 rfl (hG.tree_reader_assign (p0 := y4.2) (H_p0 := H_p0) (hS7.bun [0, 1] [2] rfl) hL_p0 h7 hx5) rfl fun v5 T6 w7 im7 rv5 => ?_)
    obtain ⟨a10, c10, a11, c11, rfl, hS8, h8, h9, _⟩ := rv5
    have hS8 := hS8.unb
    refine wl rfl (bsS (r := rGExpr) (l := ([y5.1] : List GExpr)) (css := [(cGExpr y5.1 a10 c10)]) hS8 underlying56 sizeOf99 zeroValue99 rfl rfl (by kernel_rfl) rfl ⟨(rGExpr_mk (x := y5.1) h8 : rGExpr.rp _ _ _ _), trivial⟩ rfl rfl fun w8 a12 n3 c12 im8 hS9 => ?_)
    obtain ⟨z_1, hro1, hm⟩ := bindS hm
    refine wl rfl (apO (q := 1) (l := x1) (us := ([y5.1] : List GExpr)) hS9 ⟨rfl, rfl⟩ rfl rfl (hS9.own (i := 0) ⟨rfl, rfl⟩).v underlying56 el99 (room_some hro1) fun w9 a13 n4 c13 im9 hS10 => ?_)
    have hm := oI hm; subst hm
    exact pv (r_zs rfl) (nil (t_blk (t_then ⟨m1, Nat.lt_succ_self _, _, _, y5.2, (x1 ++ ([y5.1] : List GExpr)), _, _, _, _, _, env_has ⟨rfl, rfl, trivial⟩, (iT im5 (iT im6 (iT im7 (iT im8 im9)))), hS10.sel [1, 2, 3] rfl, (h9.mono (iT im8 im9)), hn1⟩)))
  have hm := cfalse hb2 hm
  have hm := oI hm; subst hm
  have hn1 : _ = Lp.brk _ := hn1
  subst hn1
  have hm := thn_brk hq1
  refine xt (x_then (x_then (x_eq (t_then ?_))))
  refine sq2 (rg (pv (r_mp rfl) (?_)))
  obtain ⟨y7, hx7, hm⟩ := bindS hm
  rcases y7 with e3 | y7
  · have hm := exC_error hm
    refine wl rfl (calP cf62 rfl (tree_reader_must_sim (p0 := y4.2) (H_p0 := H_p0) (p1 := ([41] : List UInt8)) (hS7.bun [0, 1] [2] rfl) hL_p0 h7 hx7) rfl fun v10 T11 w14 im14 rv10 => ?_)
    obtain ⟨a18, c18, rfl, hS15, h14, _⟩ := rv10
    have hS15 := hS15.unb
    have hm := oI hm; subst hm
    exact p_then (panE ⟨_, rfl, _, (iT im1 (iT im2 (iT im3 (iT im4 (iT im5 (iT im6 im14)))))), ⟨_, _, rfl, hS15.sel [1, 2] rfl, h14, trivial⟩⟩)
  have hm := exC_ok hm
  refine wl rfl (calS cf62 rfl (tree_reader_must_sim (p0 := y4.2) (H_p0 := H_p0) (p1 := ([41] : List UInt8)) (hS7.bun [0, 1] [2] rfl) hL_p0 h7 hx7) rfl fun v9 T10 w13 im13 rv9 => ?_)
  obtain ⟨a17, c17, rfl, hS14, h13, _⟩ := rv9
  have hS14 := hS14.unb
  refine nil (t_then ?_)
  refine sq2 (rg (pv (r_ms rfl) (pv (r_zs rfl) (nil (t_then ?_)))))
  have hm := oI hm; subst hm
  exact rtn (ret1 rfl rfl ⟨_, rfl, _, (iT im1 (iT im2 (iT im3 (iT im4 (iT im5 (iT im6 im13)))))), ⟨_, _, _, _, _, rfl, hS14.sel [1, 2, 0] rfl, h13, trivial⟩⟩)
theorem tree_reader_prime_st {G : Rec1} (hG : Sp1 G) {g : World} {T0 : TP} {w0 : World} {R : Assn} {p0 : TreeReader} {b_p0 o_p0 : Nat} {H_p0 : List Value → Assn} {a1 : OA} {c1 : Nat} {r : Except (TreeRefused × TreeReader) (GExpr × TreeReader)} (hS : Sep g T0 w0 [R, H_p0 [sv a1 p0.l c1, iv p0.end_.Line, iv p0.end_.Col, iv p0.depth]]) (hL_p0 : Ln b_p0 o_p0 H_p0) (h1 : SlR rGToken T0 w0 (sv a1 p0.l c1) p0.l) (hm : tree_reader_prime_b G p0 = some r) :
    Calls Tryz.prog 127 #[pt b_p0 o_p0] w0 (exR r (fun r => RetS T0 w0 fun T w v => ∃ (a31 : OA) (c31 : Nat) (a32 : OA) (c32 : Nat), v = .agg (cGExpr r.1 a31 c31).toArray ∧ Sep g T w [R, H_p0 [sv a32 r.2.l c32, iv r.2.end_.Line, iv r.2.end_.Col, iv r.2.depth]] ∧ SlR rGExpr T w (sv a31 r.1.Kids c31) r.1.Kids ∧ SlR rGToken T w (sv a32 r.2.l c32) r.2.l ∧ True) (fun r => PanS T0 w0 fun T w v => ∃ (a31 : OA) (c31 : Nat), v = .iface 48 (.agg (cTreeRefused r.1).toArray) ∧ Sep g T w [R, H_p0 [sv a31 r.2.l c31, iv r.2.end_.Line, iv r.2.end_.Col, iv r.2.depth]] ∧ SlR rGToken T w (sv a31 r.2.l c31) r.2.l ∧ True)) := by
  refine enter (args := [pt b_p0 o_p0]) Tryz.func127 rfl Tryz.ntmps127 rfl fun J => ?_
  unfold tree_reader_prime_b at hm
  refine sq2 (rg (wl rfl (alS (zs := [iv 0, iv 0, iv 0, .string ⟨([] : List UInt8).toArray⟩, .string ⟨([] : List UInt8).toArray⟩, .int .u32 0, .string ⟨([] : List UInt8).toArray⟩, .string ⟨([] : List UInt8).toArray⟩, iv 0, .slice none 0 0]) zeroValue99 rfl hS fun w1 b1 im1 hS1 => ?_)))
  refine nil (t_then ?_)
  refine sq2 ?_
  obtain ⟨y1, hx1, hm⟩ := bindS hm
  refine rg (pv (r_mp rfl) (wl rfl (calS cf59 rfl (tree_reader_pos_sim (p0 := p0) (H_p0 := H_p0) (hS1.bun [0, 1] [2] rfl) hL_p0 (h1.mono im1) hx1) rfl fun v1 T1 w2 im2 rv1 => ?_)))
  obtain ⟨rfl, hS2, _⟩ := rv1
  have hS2 := hS2.unb
  refine pv (r_bd (by kernel_rfl) rfl (u := .agg #[iv 0, iv y1.Line, iv y1.Col, .string ⟨([] : List UInt8).toArray⟩, .string ⟨([] : List UInt8).toArray⟩, .int .u32 0, .string ⟨([] : List UInt8).toArray⟩, .string ⟨([] : List UInt8).toArray⟩, iv 0, .slice none 0 0])) (wl rfl (alS (zs := [iv 0, iv 0, iv 0, .string ⟨([] : List UInt8).toArray⟩, .string ⟨([] : List UInt8).toArray⟩, .int .u32 0, .string ⟨([] : List UInt8).toArray⟩, .string ⟨([] : List UInt8).toArray⟩, iv 0, .slice none 0 0]) zeroValue99 rfl hS2 fun w3 b2 im3 hS3 => ?_))
  refine wl rfl (st0B (q := 0) hS3 ⟨rfl, rfl⟩ rfl rfl rfl sizeOf99 rfl rfl rfl fun w4 im4 hS4 => ?_)
  refine nil (t_then ?_)
  obtain ⟨kk1, hkk1, hm⟩ := jn_open hm
  refine cut (fun a w5 => ∃ (J : JV) (T2 : TP) (x2 : TreeReader) (x1 : GExpr) (a2 : OA) (c2 : Nat) (a3 : OA) (c3 : Nat), a = env (nf 64) J [(2, pt b1 0), (3, pt b2 0)] ∧ Im T1 w4 T2 w5 ∧ Sep g T2 w5 [boxA b2 (cGExpr x1 a2 c2), boxA b1 [iv 0, iv 0, iv 0, .string ⟨([] : List UInt8).toArray⟩, .string ⟨([] : List UInt8).toArray⟩, .int .u32 0, .string ⟨([] : List UInt8).toArray⟩, .string ⟨([] : List UInt8).toArray⟩, iv 0, .slice none 0 0], R, H_p0 [sv a3 x2.l c3, iv x2.end_.Line, iv x2.end_.Col, iv x2.depth]] ∧ SlR rGExpr T2 w5 (sv a2 x1.Kids c2) x1.Kids ∧ SlR rGToken T2 w5 (sv a3 x2.l c3) x2.l ∧ kk1 x1 x2 = some r) ?_ ?_
  · refine blk (sq2 ?_)
    obtain ⟨y2, hx2, hm⟩ := bindS hm
    refine rg (pv (r_mp rfl) (wl rfl (calS cf82 rfl (tree_reader_take_sim (p0 := p0) (H_p0 := H_p0) (p1 := ([40] : List UInt8)) (hS4.bun [0, 1, 2] [3] rfl) hL_p0 (h1.mono (iT im1 (iT im2 (iT im3 im4)))) hx2) rfl fun v2 T3 w6 im6 rv2 => ?_)))
    obtain ⟨a4, c4, rfl, hS5, h4, _⟩ := rv2
    have hS5 := hS5.unb
    refine pv (r_zb rfl) (nil (t_then ?_))
    refine cnd rfl (fun hb1 => ?_) (fun hb1 => ?_)
    · have hm := ctrue hb1 hm
      refine sq2 (rg (pv (r_mp rfl) (?_)))
      obtain ⟨y3, hx3, hm⟩ := bindS hm
      rcases y3 with e2 | y3
      · have hm := exC_error hm
        refine wl rfl (calP cf87 rfl (hG.tree_reader_assign (p0 := y2.2) (H_p0 := H_p0) (hS5.bun [0, 1, 2] [3] rfl) hL_p0 h4 hx3) rfl fun v6 T7 w11 im11 rv6 => ?_)
        obtain ⟨a9, c9, rfl, hS10, h9, _⟩ := rv6
        have hS10 := hS10.unb
        have hm := oI hm; subst hm
        exact p_then (p_blk (p_then (panE ⟨_, rfl, _, (iT im1 (iT im2 (iT im3 (iT im4 (iT im6 im11))))), ⟨_, _, rfl, hS10.sel [2, 3] rfl, h9, trivial⟩⟩)))
      have hm := exC_ok hm
      refine wl rfl (calS cf87 rfl (hG.tree_reader_assign (p0 := y2.2) (H_p0 := H_p0) (hS5.bun [0, 1, 2] [3] rfl) hL_p0 h4 hx3) rfl fun v3 T4 w7 im7 rv3 => ?_)
      obtain ⟨a5, c5, a6, c6, rfl, hS6, h5, h6, _⟩ := rv3
      have hS6 := hS6.unb
      refine wl rfl (st0B (q := 0) hS6 ⟨rfl, rfl⟩ rfl rfl rfl sizeOf99 rfl rfl rfl fun w8 im8 hS7 => ?_)
      refine nil (t_then ?_)
      refine rg (pv (r_mp rfl) (?_))
      obtain ⟨y4, hx4, hm⟩ := bindS hm
      rcases y4 with e1 | y4
      · have hm := exC_error hm
        refine wl rfl (calP cf62 rfl (tree_reader_must_sim (p0 := y3.2) (H_p0 := H_p0) (p1 := ([41] : List UInt8)) (hS7.bun [0, 1, 2] [3] rfl) hL_p0 (h6.mono im8) hx4) rfl fun v5 T6 w10 im10 rv5 => ?_)
        obtain ⟨a8, c8, rfl, hS9, h8, _⟩ := rv5
        have hS9 := hS9.unb
        have hm := oI hm; subst hm
        exact p_blk (p_then (panE ⟨_, rfl, _, (iT im1 (iT im2 (iT im3 (iT im4 (iT im6 (iT im7 (iT im8 im10))))))), ⟨_, _, rfl, hS9.sel [2, 3] rfl, h8, trivial⟩⟩))
      have hm := exC_ok hm
      refine wl rfl (calS cf62 rfl (tree_reader_must_sim (p0 := y3.2) (H_p0 := H_p0) (p1 := ([41] : List UInt8)) (hS7.bun [0, 1, 2] [3] rfl) hL_p0 (h6.mono im8) hx4) rfl fun v4 T5 w9 im9 rv4 => ?_)
      obtain ⟨a7, c7, rfl, hS8, h7, _⟩ := rv4
      have hS8 := hS8.unb
      exact nil (t_blk (t_then ⟨_, _, y4, y3.1, _, _, _, _, env_has ⟨rfl, rfl, trivial⟩, (iT im6 (iT im7 (iT im8 im9))), hS8.sel [0, 1, 2, 3] rfl, (h5.mono (iT im8 im9)), h7, hm⟩))
    have hm := cfalse hb1 hm
    refine sq2 ?_
    obtain ⟨y5, hx5, hm⟩ := bindS hm
    refine rg (pv (r_mp rfl) (wl rfl (calS cf82 rfl (tree_reader_take_sim (p0 := y2.2) (H_p0 := H_p0) (p1 := ([105, 110] : List UInt8)) (hS5.bun [0, 1, 2] [3] rfl) hL_p0 h4 hx5) rfl fun v7 T8 w12 im12 rv7 => ?_)))
    obtain ⟨a10, c10, rfl, hS11, h10, _⟩ := rv7
    have hS11 := hS11.unb
    refine pv (r_zb rfl) (nil (t_then ?_))
    refine cnd rfl (fun hb2 => ?_) (fun hb2 => ?_)
    · have hm := ctrue hb2 hm
      refine sq2 (rg (pv (r_fa rfl underlying99 rfl sizeOf3 rfl) (wl rfl (st0B (q := 0) hS11 ⟨rfl, rfl⟩ rfl rfl rfl sizeOf3 rfl rfl rfl fun w13 im13 hS12 => ?_))))
      refine pv (r_fa rfl underlying99 rfl sizeOf9 rfl) (wl rfl (st0B (q := 0) hS12 ⟨rfl, rfl⟩ rfl rfl rfl sizeOf9 rfl rfl rfl fun w14 im14 hS13 => ?_))
      refine nil (t_then ?_)
      refine sq2 (rg (pv (r_mp rfl) (?_)))
      obtain ⟨y6, hx6, hm⟩ := bindS hm
      rcases y6 with e4 | y6
      · have hm := exC_error hm
        refine wl rfl (calP cf62 rfl (tree_reader_must_sim (p0 := y5.2) (H_p0 := H_p0) (p1 := ([40] : List UInt8)) (hS13.bun [0, 1, 2] [3] rfl) hL_p0 (h10.mono (iT im13 im14)) hx6) rfl fun v11 T12 w18 im18 rv11 => ?_)
        obtain ⟨a14, c14, rfl, hS17, h14, _⟩ := rv11
        have hS17 := hS17.unb
        have hm := oI hm; subst hm
        exact p_then (p_blk (p_then (panE ⟨_, rfl, _, (iT im1 (iT im2 (iT im3 (iT im4 (iT im6 (iT im12 (iT im13 (iT im14 im18)))))))), ⟨_, _, rfl, hS17.sel [2, 3] rfl, h14, trivial⟩⟩)))
      have hm := exC_ok hm
      refine wl rfl (calS cf62 rfl (tree_reader_must_sim (p0 := y5.2) (H_p0 := H_p0) (p1 := ([40] : List UInt8)) (hS13.bun [0, 1, 2] [3] rfl) hL_p0 (h10.mono (iT im13 im14)) hx6) rfl fun v8 T9 w15 im15 rv8 => ?_)
      obtain ⟨a11, c11, rfl, hS14, h11, _⟩ := rv8
      have hS14 := hS14.unb
      refine nil (t_then ?_)
      refine rg (pv (r_mp rfl) (?_))
      obtain ⟨y7, hx7, hm⟩ := bindS hm
      rcases y7 with e3 | y7
      · have hm := exC_error hm
        refine wl rfl (calP cf62 rfl (tree_reader_must_sim (p0 := y6) (H_p0 := H_p0) (p1 := ([41] : List UInt8)) (hS14.bun [0, 1, 2] [3] rfl) hL_p0 h11 hx7) rfl fun v10 T11 w17 im17 rv10 => ?_)
        obtain ⟨a13, c13, rfl, hS16, h13, _⟩ := rv10
        have hS16 := hS16.unb
        have hm := oI hm; subst hm
        exact p_blk (p_then (panE ⟨_, rfl, _, (iT im1 (iT im2 (iT im3 (iT im4 (iT im6 (iT im12 (iT im13 (iT im14 (iT im15 im17))))))))), ⟨_, _, rfl, hS16.sel [2, 3] rfl, h13, trivial⟩⟩))
      have hm := exC_ok hm
      refine wl rfl (calS cf62 rfl (tree_reader_must_sim (p0 := y6) (H_p0 := H_p0) (p1 := ([41] : List UInt8)) (hS14.bun [0, 1, 2] [3] rfl) hL_p0 h11 hx7) rfl fun v9 T10 w16 im16 rv9 => ?_)
      obtain ⟨a12, c12, rfl, hS15, h12, _⟩ := rv9
      have hS15 := hS15.unb
      exact nil (t_blk (t_then ⟨_, _, y7, (⟨7, y1, ([] : List UInt8), ([105, 110] : List UInt8), 0, (⟨([] : List UInt8), ([] : List UInt8), 0⟩ : TypeName), []⟩ : GExpr), _, _, _, _, env_has ⟨rfl, rfl, trivial⟩, (iT im6 (iT im12 (iT im13 (iT im14 (iT im15 im16))))), hS15.sel [0, 1, 2, 3] rfl, SlR_nil, h12, hm⟩))
    have hm := cfalse hb2 hm
    refine sq2 ?_
    obtain ⟨y8, hx8, hm⟩ := bindS hm
    refine rg (pv (r_mp rfl) (wl rfl (calS cf82 rfl (tree_reader_take_sim (p0 := y5.2) (H_p0 := H_p0) (p1 := ([111, 117, 116] : List UInt8)) (hS11.bun [0, 1, 2] [3] rfl) hL_p0 h10 hx8) rfl fun v12 T13 w19 im19 rv12 => ?_)))
    obtain ⟨a15, c15, rfl, hS18, h15, _⟩ := rv12
    have hS18 := hS18.unb
    refine pv (r_zb rfl) (nil (t_then ?_))
    refine cnd rfl (fun hb3 => ?_) (fun hb3 => ?_)
    · have hm := ctrue hb3 hm
      refine sq2 (rg (pv (r_fa rfl underlying99 rfl sizeOf3 rfl) (wl rfl (st0B (q := 0) hS18 ⟨rfl, rfl⟩ rfl rfl rfl sizeOf3 rfl rfl rfl fun w20 im20 hS19 => ?_))))
      refine pv (r_fa rfl underlying99 rfl sizeOf9 rfl) (wl rfl (st0B (q := 0) hS19 ⟨rfl, rfl⟩ rfl rfl rfl sizeOf9 rfl rfl rfl fun w21 im21 hS20 => ?_))
      refine nil (t_then ?_)
      refine rg (pv (r_mp rfl) (?_))
      obtain ⟨y9, hx9, hm⟩ := bindS hm
      rcases y9 with e5 | y9
      · have hm := exC_error hm
        refine wl rfl (calP cf104 rfl (hG.tree_reader_bracketed (p0 := y8.2) (H_p0 := H_p0) (hS20.bun [0, 1, 2] [3] rfl) hL_p0 (h15.mono (iT im20 im21)) hx9) rfl fun v14 T16 w24 im25 rv14 => ?_)
        obtain ⟨a18, c18, rfl, hS24, h18, _⟩ := rv14
        have hS24 := hS24.unb
        have hm := oI hm; subst hm
        exact p_blk (p_then (panE ⟨_, rfl, _, (iT im1 (iT im2 (iT im3 (iT im4 (iT im6 (iT im12 (iT im19 (iT im20 (iT im21 im25))))))))), ⟨_, _, rfl, hS24.sel [2, 3] rfl, h18, trivial⟩⟩))
      have hm := exC_ok hm
      refine wl rfl (calS cf104 rfl (hG.tree_reader_bracketed (p0 := y8.2) (H_p0 := H_p0) (hS20.bun [0, 1, 2] [3] rfl) hL_p0 (h15.mono (iT im20 im21)) hx9) rfl fun v13 T14 w22 im22 rv13 => ?_)
      obtain ⟨a16, n1, c16, a17, c17, rfl, hS21, h16, _⟩ := rv13
      have hS21 := hS21.unb
      refine pv (r_fa rfl underlying99 rfl sizeOf56 rfl) (wl rfl (st0B (q := 0) hS21 ⟨rfl, rfl⟩ rfl rfl rfl sizeOf56 rfl rfl rfl fun w23 im23 hS22 => ?_))
      obtain ⟨T15, im24, hS23, h17⟩ := hS22.seal 4 ⟨rfl, rfl⟩
      have hsh := h17.len
      subst hsh
      exact nil (t_blk (t_then ⟨_, _, y9.2, (⟨7, y1, ([] : List UInt8), ([111, 117, 116] : List UInt8), 0, (⟨([] : List UInt8), ([] : List UInt8), 0⟩ : TypeName), y9.1⟩ : GExpr), _, _, _, _, env_has ⟨rfl, rfl, trivial⟩, (iT im6 (iT im12 (iT im19 (iT im20 (iT im21 (iT im22 (iT im23 im24))))))), hS23.sel [0, 1, 2, 3] rfl, h17, (h16.mono (iT im23 im24)), hm⟩))
    have hm := cfalse hb3 hm
    refine sq2 (rg (pv (r_mp rfl) (pv (r_nc rfl) (pv (r_fa rfl underlying43 rfl sizeOf38 rfl) (pv (r_ld rfl isAgg38 (hS18.cellB (i := 3) ⟨rfl, rfl⟩ hL_p0 (j := 0) rfl)) (pv (r_ln rfl underlying38) (pv (r_ib rfl rfl rfl) (pv (r_mb rfl) (?_)))))))))
    rcases Bool.eq_false_or_eq_true (decide (0 < (List.length y8.2.l : Int))) with hb4 | hb4
    · have hm := ctrue hb4 hm
      obtain ⟨u6, hx10, hm⟩ := bindS hm
      obtain ⟨b3, of1, cs1, k1, cp1, hv1, hp1, hl1, he1, hr1, hc1, hT1⟩ := h15.ixT hx10 rfl
      cases rGToken_open hr1
      refine gT (d0 := 48) rfl rfl hb4 (pv (r_mp rfl) (gT (d0 := 48) rfl rfl hb4 (pv (r_nc rfl) (gT (d0 := 48) rfl rfl hb4 (pv (r_fa rfl underlying43 rfl sizeOf38 rfl) (gT (d0 := 48) rfl rfl hb4 (pv (r_ld rfl isAgg38 (hS18.cellB (i := 3) ⟨rfl, rfl⟩ hL_p0 (j := 0) rfl)) (gT (d0 := 48) rfl rfl hb4 (pv (r_ixe hv1 rfl underlying38 sizeOf89 hp1 hl1 he1) (gT (d0 := 48) rfl rfl hb4 (pv (r_fa rfl underlying89 rfl sizeOf3 rfl) (gT (d0 := 48) rfl rfl hb4 (pv (r_ld rfl isAgg3 (hc1.get (j := 0) rfl)) (gT (d0 := 48) rfl rfl hb4 (pv (r_ib rfl rfl rfl) (pv (r_pkt rfl hb4 rfl) (pv (r_zb rfl) (nil (t_thenR [(0, pt b_p0 o_p0), (2, pt b1 0), (3, pt b2 0), (41, .bool (u6.Kind == 3))] ⟨rfl, rfl, rfl, rfl, trivial⟩ fun J => ?_)))))))))))))))))))
      refine cnd rfl (fun hb5 => ?_) (fun hb5 => ?_)
      · have hm := ctrue hb5 hm
        refine rg (pv (r_mp rfl) (?_))
        obtain ⟨y10, hx11, hm⟩ := bindS hm
        rcases y10 with e6 | y10
        · have hm := exC_error hm
          refine wl rfl (calP cf84 rfl (tree_reader_kind_sim (p0 := y8.2) (H_p0 := H_p0) (p1 := 3) (hS18.bun [0, 1, 2] [3] rfl) hL_p0 h15 hx11) rfl fun v16 T18 w28 im29 rv16 => ?_)
          obtain ⟨a20, c20, rfl, hS28, h20, _⟩ := rv16
          have hS28 := hS28.unb
          have hm := oI hm; subst hm
          exact p_blk (p_then (panE ⟨_, rfl, _, (iT im1 (iT im2 (iT im3 (iT im4 (iT im6 (iT im12 (iT im19 im29))))))), ⟨_, _, rfl, hS28.sel [2, 3] rfl, h20, trivial⟩⟩))
        have hm := exC_ok hm
        refine wl rfl (calS cf84 rfl (tree_reader_kind_sim (p0 := y8.2) (H_p0 := H_p0) (p1 := 3) (hS18.bun [0, 1, 2] [3] rfl) hL_p0 h15 hx11) rfl fun v15 T17 w25 im26 rv15 => ?_)
        obtain ⟨a19, c19, rfl, hS25, h19, _⟩ := rv15
        have hS25 := hS25.unb
        refine pv (r_fd1 rfl underlying89 rfl isAgg87 rfl) (pv (r_fa rfl underlying99 rfl sizeOf3 rfl) (wl rfl (st0B (q := 0) hS25 ⟨rfl, rfl⟩ rfl rfl rfl sizeOf3 rfl rfl rfl fun w26 im27 hS26 => ?_)))
        refine pv (r_fa rfl underlying99 rfl sizeOf87 rfl) (wl rfl (st0B (q := 0) hS26 ⟨rfl, rfl⟩ rfl rfl rfl sizeOf87 rfl rfl rfl fun w27 im28 hS27 => ?_))
        exact nil (t_blk (t_then ⟨_, _, y10.2, (⟨1, y1, ([] : List UInt8), ([] : List UInt8), y10.1.Num, (⟨([] : List UInt8), ([] : List UInt8), 0⟩ : TypeName), []⟩ : GExpr), _, _, _, _, env_has ⟨rfl, rfl, trivial⟩, (iT im6 (iT im12 (iT im19 (iT im26 (iT im27 im28))))), hS27.sel [0, 1, 2, 3] rfl, SlR_nil, (h19.mono (iT im27 im28)), hm⟩))
      have hm := cfalse hb5 hm
      refine sq2 (rg (pv (r_mp rfl) (?_)))
      obtain ⟨y11, hx12, hm⟩ := bindS hm
      rcases y11 with e8 | y11
      · have hm := exC_error hm
        refine wl rfl (calP cf63 rfl (tree_reader_name_sim (p0 := y8.2) (H_p0 := H_p0) (hS18.bun [0, 1, 2] [3] rfl) hL_p0 h15 hx12) rfl fun v21 T24 w37 im39 rv21 => ?_)
        obtain ⟨a25, c25, rfl, hS38, h25, _⟩ := rv21
        have hS38 := hS38.unb
        have hm := oI hm; subst hm
        exact p_then (p_blk (p_then (panE ⟨_, rfl, _, (iT im1 (iT im2 (iT im3 (iT im4 (iT im6 (iT im12 (iT im19 im39))))))), ⟨_, _, rfl, hS38.sel [2, 3] rfl, h25, trivial⟩⟩)))
      have hm := exC_ok hm
      refine wl rfl (calS cf63 rfl (tree_reader_name_sim (p0 := y8.2) (H_p0 := H_p0) (hS18.bun [0, 1, 2] [3] rfl) hL_p0 h15 hx12) rfl fun v17 T19 w29 im30 rv17 => ?_)
      obtain ⟨a21, c21, rfl, hS29, h21, _⟩ := rv17
      have hS29 := hS29.unb
      refine pv (r_fa rfl underlying99 rfl sizeOf3 rfl) (wl rfl (st0B (q := 0) hS29 ⟨rfl, rfl⟩ rfl rfl rfl sizeOf3 rfl rfl rfl fun w30 im31 hS30 => ?_))
      refine pv (r_fa rfl underlying99 rfl sizeOf9 rfl) (wl rfl (st0B (q := 0) hS30 ⟨rfl, rfl⟩ rfl rfl rfl sizeOf9 rfl rfl rfl fun w31 im32 hS31 => ?_))
      refine nil (t_then ?_)
      refine sq2 ?_
      obtain ⟨y12, hx13, hm⟩ := bindS hm
      refine rg (pv (r_mp rfl) (wl rfl (calS cf60 rfl (tree_reader_is_sim (p0 := y11.2) (H_p0 := H_p0) (p1 := ([40] : List UInt8)) (hS31.bun [0, 1, 2] [3] rfl) hL_p0 (h21.mono (iT im31 im32)) hx13) rfl fun v18 T20 w32 im33 rv18 => ?_)))
      obtain ⟨rfl, hS32, _⟩ := rv18
      have hS32 := hS32.unb
      refine nil (t_then ?_)
      refine cnd rfl (fun hb6 => ?_) (fun hb6 => ?_)
      · have hm := ctrue hb6 hm
        refine rg (pv (r_mp rfl) (?_))
        obtain ⟨y13, hx14, hm⟩ := bindS hm
        rcases y13 with e7 | y13
        · have hm := exC_error hm
          refine wl rfl (calP cf128 rfl (hG.tree_reader_handed (p0 := y11.2) (H_p0 := H_p0) (hS32.bun [0, 1, 2] [3] rfl) hL_p0 (h21.mono (iT im31 (iT im32 im33))) hx14) rfl fun v20 T23 w36 im38 rv20 => ?_)
          obtain ⟨a24, c24, rfl, hS37, h24, _⟩ := rv20
          have hS37 := hS37.unb
          have hm := oI hm; subst hm
          exact p_blk (p_then (panE ⟨_, rfl, _, (iT im1 (iT im2 (iT im3 (iT im4 (iT im6 (iT im12 (iT im19 (iT im30 (iT im31 (iT im32 (iT im33 im38))))))))))), ⟨_, _, rfl, hS37.sel [2, 3] rfl, h24, trivial⟩⟩))
        have hm := exC_ok hm
        refine wl rfl (calS cf128 rfl (hG.tree_reader_handed (p0 := y11.2) (H_p0 := H_p0) (hS32.bun [0, 1, 2] [3] rfl) hL_p0 (h21.mono (iT im31 (iT im32 im33))) hx14) rfl fun v19 T21 w33 im34 rv19 => ?_)
        obtain ⟨a22, n2, c22, a23, c23, rfl, hS33, h22, _⟩ := rv19
        have hS33 := hS33.unb
        refine pv (r_fa rfl underlying99 rfl sizeOf3 rfl) (wl rfl (st0B (q := 0) hS33 ⟨rfl, rfl⟩ rfl rfl rfl sizeOf3 rfl rfl rfl fun w34 im35 hS34 => ?_))
        refine pv (r_fa rfl underlying99 rfl sizeOf56 rfl) (wl rfl (st0B (q := 0) hS34 ⟨rfl, rfl⟩ rfl rfl rfl sizeOf56 rfl rfl rfl fun w35 im36 hS35 => ?_))
        obtain ⟨T22, im37, hS36, h23⟩ := hS35.seal 4 ⟨rfl, rfl⟩
        have hsh := h23.len
        subst hsh
        exact nil (t_blk (t_then ⟨_, _, y13.2, (⟨7, y1, ([] : List UInt8), y11.1, 0, (⟨([] : List UInt8), ([] : List UInt8), 0⟩ : TypeName), y13.1⟩ : GExpr), _, _, _, _, env_has ⟨rfl, rfl, trivial⟩, (iT im6 (iT im12 (iT im19 (iT im30 (iT im31 (iT im32 (iT im33 (iT im34 (iT im35 (iT im36 im37)))))))))), hS36.sel [0, 1, 2, 3] rfl, h23, (h22.mono (iT im35 (iT im36 im37))), hm⟩))
      have hm := cfalse hb6 hm
      exact skp (t_blk (t_then ⟨_, _, y11.2, (⟨2, y1, ([] : List UInt8), y11.1, 0, (⟨([] : List UInt8), ([] : List UInt8), 0⟩ : TypeName), []⟩ : GExpr), _, _, _, _, env_has ⟨rfl, rfl, trivial⟩, (iT im6 (iT im12 (iT im19 (iT im30 (iT im31 (iT im32 im33)))))), hS32.sel [0, 1, 2, 3] rfl, SlR_nil, (h21.mono (iT im31 (iT im32 im33))), hm⟩))
    have hm := cfalse hb4 hm
    refine gF (d0 := 48) rfl rfl (by rw [hb4]; rfl) (gF (d0 := 48) rfl rfl (by rw [hb4]; rfl) (gF (d0 := 48) rfl rfl (by rw [hb4]; rfl) (gF (d0 := 48) rfl rfl (by rw [hb4]; rfl) (gF (d0 := 48) rfl rfl (by rw [hb4]; rfl) (gF (d0 := 48) rfl rfl (by rw [hb4]; rfl) (gF (d0 := 48) rfl rfl (by rw [hb4]; rfl) (gF (d0 := 48) rfl rfl (by rw [hb4]; rfl) (pv (r_pkf rfl hb4 rfl) (pv (r_zb rfl) (nil (t_thenR [(0, pt b_p0 o_p0), (2, pt b1 0), (3, pt b2 0), (41, .bool false)] ⟨rfl, rfl, rfl, rfl, trivial⟩ fun J => ?_)))))))))))
    refine cnd (b := false) rfl (fun h => nomatch h) (fun _ => ?_)
    refine sq2 (rg (pv (r_mp rfl) (?_)))
    obtain ⟨y14, hx15, hm⟩ := bindS hm
    rcases y14 with e10 | y14
    · have hm := exC_error hm
      refine wl rfl (calP cf63 rfl (tree_reader_name_sim (p0 := y8.2) (H_p0 := H_p0) (hS18.bun [0, 1, 2] [3] rfl) hL_p0 h15 hx15) rfl fun v26 T30 w46 im49 rv26 => ?_)
      obtain ⟨a30, c30, rfl, hS48, h30, _⟩ := rv26
      have hS48 := hS48.unb
      have hm := oI hm; subst hm
      exact p_then (p_blk (p_then (panE ⟨_, rfl, _, (iT im1 (iT im2 (iT im3 (iT im4 (iT im6 (iT im12 (iT im19 im49))))))), ⟨_, _, rfl, hS48.sel [2, 3] rfl, h30, trivial⟩⟩)))
    have hm := exC_ok hm
    refine wl rfl (calS cf63 rfl (tree_reader_name_sim (p0 := y8.2) (H_p0 := H_p0) (hS18.bun [0, 1, 2] [3] rfl) hL_p0 h15 hx15) rfl fun v22 T25 w38 im40 rv22 => ?_)
    obtain ⟨a26, c26, rfl, hS39, h26, _⟩ := rv22
    have hS39 := hS39.unb
    refine pv (r_fa rfl underlying99 rfl sizeOf3 rfl) (wl rfl (st0B (q := 0) hS39 ⟨rfl, rfl⟩ rfl rfl rfl sizeOf3 rfl rfl rfl fun w39 im41 hS40 => ?_))
    refine pv (r_fa rfl underlying99 rfl sizeOf9 rfl) (wl rfl (st0B (q := 0) hS40 ⟨rfl, rfl⟩ rfl rfl rfl sizeOf9 rfl rfl rfl fun w40 im42 hS41 => ?_))
    refine nil (t_then ?_)
    refine sq2 ?_
    obtain ⟨y15, hx16, hm⟩ := bindS hm
    refine rg (pv (r_mp rfl) (wl rfl (calS cf60 rfl (tree_reader_is_sim (p0 := y14.2) (H_p0 := H_p0) (p1 := ([40] : List UInt8)) (hS41.bun [0, 1, 2] [3] rfl) hL_p0 (h26.mono (iT im41 im42)) hx16) rfl fun v23 T26 w41 im43 rv23 => ?_)))
    obtain ⟨rfl, hS42, _⟩ := rv23
    have hS42 := hS42.unb
    refine nil (t_then ?_)
    refine cnd rfl (fun hb8 => ?_) (fun hb8 => ?_)
    · have hm := ctrue hb8 hm
      refine rg (pv (r_mp rfl) (?_))
      obtain ⟨y16, hx17, hm⟩ := bindS hm
      rcases y16 with e9 | y16
      · have hm := exC_error hm
        refine wl rfl (calP cf128 rfl (hG.tree_reader_handed (p0 := y14.2) (H_p0 := H_p0) (hS42.bun [0, 1, 2] [3] rfl) hL_p0 (h26.mono (iT im41 (iT im42 im43))) hx17) rfl fun v25 T29 w45 im48 rv25 => ?_)
        obtain ⟨a29, c29, rfl, hS47, h29, _⟩ := rv25
        have hS47 := hS47.unb
        have hm := oI hm; subst hm
        exact p_blk (p_then (panE ⟨_, rfl, _, (iT im1 (iT im2 (iT im3 (iT im4 (iT im6 (iT im12 (iT im19 (iT im40 (iT im41 (iT im42 (iT im43 im48))))))))))), ⟨_, _, rfl, hS47.sel [2, 3] rfl, h29, trivial⟩⟩))
      have hm := exC_ok hm
      refine wl rfl (calS cf128 rfl (hG.tree_reader_handed (p0 := y14.2) (H_p0 := H_p0) (hS42.bun [0, 1, 2] [3] rfl) hL_p0 (h26.mono (iT im41 (iT im42 im43))) hx17) rfl fun v24 T27 w42 im44 rv24 => ?_)
      obtain ⟨a27, n3, c27, a28, c28, rfl, hS43, h27, _⟩ := rv24
      have hS43 := hS43.unb
      refine pv (r_fa rfl underlying99 rfl sizeOf3 rfl) (wl rfl (st0B (q := 0) hS43 ⟨rfl, rfl⟩ rfl rfl rfl sizeOf3 rfl rfl rfl fun w43 im45 hS44 => ?_))
      refine pv (r_fa rfl underlying99 rfl sizeOf56 rfl) (wl rfl (st0B (q := 0) hS44 ⟨rfl, rfl⟩ rfl rfl rfl sizeOf56 rfl rfl rfl fun w44 im46 hS45 => ?_))
      obtain ⟨T28, im47, hS46, h28⟩ := hS45.seal 4 ⟨rfl, rfl⟩
      have hsh := h28.len
      subst hsh
      exact nil (t_blk (t_then ⟨_, _, y16.2, (⟨7, y1, ([] : List UInt8), y14.1, 0, (⟨([] : List UInt8), ([] : List UInt8), 0⟩ : TypeName), y16.1⟩ : GExpr), _, _, _, _, env_has ⟨rfl, rfl, trivial⟩, (iT im6 (iT im12 (iT im19 (iT im40 (iT im41 (iT im42 (iT im43 (iT im44 (iT im45 (iT im46 im47)))))))))), hS46.sel [0, 1, 2, 3] rfl, h28, (h27.mono (iT im45 (iT im46 im47))), hm⟩))
    have hm := cfalse hb8 hm
    exact skp (t_blk (t_then ⟨_, _, y14.2, (⟨2, y1, ([] : List UInt8), y14.1, 0, (⟨([] : List UInt8), ([] : List UInt8), 0⟩ : TypeName), []⟩ : GExpr), _, _, _, _, env_has ⟨rfl, rfl, trivial⟩, (iT im6 (iT im12 (iT im19 (iT im40 (iT im41 (iT im42 im43)))))), hS42.sel [0, 1, 2, 3] rfl, SlR_nil, (h26.mono (iT im41 (iT im42 im43))), hm⟩))
  rintro _ w5 ⟨J, T2, x2, x1, a2, c2, a3, c3, rfl, im5, hS49, h2, h3, hm⟩
  rw [hkk1] at hm
  refine sq2 (rg (pv (r_ldS rfl isAgg99 sizeOf99 rfl (hS49.cells0 (i := 0) ⟨rfl, rfl⟩ (o := 0) rfl) (cs := (cGExpr x1 a2 c2))) (wl rfl (st0B (q := 1) hS49 ⟨rfl, rfl⟩ rfl rfl rfl sizeOf99 rfl rfl rfl fun w47 im50 hS50 => ?_))))
  refine nil (t_then ?_)
  have hm := oI hm; subst hm
  exact rtn (retN (vs := [.agg (cGExpr x1 a2 c2).toArray]) rfl ⟨rvS rfl isAgg99 sizeOf99 rfl (hS50.bx (i := 1) ⟨rfl, rfl⟩), trivial⟩ rfl ⟨_, rfl, _, (iT im1 (iT im2 (iT im3 (iT im4 (iT im5 im50))))), ⟨_, _, _, _, rfl, hS50.sel [2, 3] rfl, (h2.mono im50), (h3.mono im50), trivial⟩⟩)
theorem tree_reader_post_st {G : Rec1} (hG : Sp1 G) {g : World} {T0 : TP} {w0 : World} {R : Assn} {p0 : TreeReader} {b_p0 o_p0 : Nat} {H_p0 : List Value → Assn} {a1 : OA} {c1 : Nat} {r : Except (TreeRefused × TreeReader) (GExpr × TreeReader)} (hS : Sep g T0 w0 [R, H_p0 [sv a1 p0.l c1, iv p0.end_.Line, iv p0.end_.Col, iv p0.depth]]) (hL_p0 : Ln b_p0 o_p0 H_p0) (h1 : SlR rGToken T0 w0 (sv a1 p0.l c1) p0.l) (hm : tree_reader_post_b G p0 = some r) :
    Calls Tryz.prog 126 #[pt b_p0 o_p0] w0 (exR r (fun r => RetS T0 w0 fun T w v => ∃ (a25 : OA) (c25 : Nat) (a26 : OA) (c26 : Nat), v = .agg (cGExpr r.1 a25 c25).toArray ∧ Sep g T w [R, H_p0 [sv a26 r.2.l c26, iv r.2.end_.Line, iv r.2.end_.Col, iv r.2.depth]] ∧ SlR rGExpr T w (sv a25 r.1.Kids c25) r.1.Kids ∧ SlR rGToken T w (sv a26 r.2.l c26) r.2.l ∧ True) (fun r => PanS T0 w0 fun T w v => ∃ (a25 : OA) (c25 : Nat), v = .iface 48 (.agg (cTreeRefused r.1).toArray) ∧ Sep g T w [R, H_p0 [sv a25 r.2.l c25, iv r.2.end_.Line, iv r.2.end_.Col, iv r.2.depth]] ∧ SlR rGToken T w (sv a25 r.2.l c25) r.2.l ∧ True)) := by
  refine enter (args := [pt b_p0 o_p0]) Tryz.func126 rfl Tryz.ntmps126 rfl fun J => ?_
  unfold tree_reader_post_b at hm
  refine sq2 (rg (wl rfl (alS (zs := [iv 0, iv 0, iv 0, .string ⟨([] : List UInt8).toArray⟩, .string ⟨([] : List UInt8).toArray⟩, .int .u32 0, .string ⟨([] : List UInt8).toArray⟩, .string ⟨([] : List UInt8).toArray⟩, iv 0, .slice none 0 0]) zeroValue99 rfl hS fun w1 b1 im1 hS1 => ?_)))
  refine nil (t_then ?_)
  refine sq2 (rg (pv (r_mp rfl) (?_)))
  obtain ⟨y1, hx1, hm⟩ := bindS hm
  rcases y1 with e4 | y1
  · have hm := exC_error hm
    refine wl rfl (calP cf127 rfl (hG.tree_reader_prime (p0 := p0) (H_p0 := H_p0) (hS1.bun [0, 1] [2] rfl) hL_p0 (h1.mono im1) hx1) rfl fun v12 T17 w34 im35 rv12 => ?_)
    obtain ⟨a24, c24, rfl, hS36, h21, _⟩ := rv12
    have hS36 := hS36.unb
    have hm := oI hm; subst hm
    exact p_then (panE ⟨_, rfl, _, (iT im1 im35), ⟨_, _, rfl, hS36.sel [1, 2] rfl, h21, trivial⟩⟩)
  have hm := exC_ok hm
  refine wl rfl (calS cf127 rfl (hG.tree_reader_prime (p0 := p0) (H_p0 := H_p0) (hS1.bun [0, 1] [2] rfl) hL_p0 (h1.mono im1) hx1) rfl fun v1 T1 w2 im2 rv1 => ?_)
  obtain ⟨a2, c2, a3, c3, rfl, hS2, h2, h3, _⟩ := rv1
  have hS2 := hS2.unb
  refine wl rfl (alS (zs := [iv 0, iv 0, iv 0, .string ⟨([] : List UInt8).toArray⟩, .string ⟨([] : List UInt8).toArray⟩, .int .u32 0, .string ⟨([] : List UInt8).toArray⟩, .string ⟨([] : List UInt8).toArray⟩, iv 0, .slice none 0 0]) zeroValue99 rfl hS2 fun w3 b2 im3 hS3 => ?_)
  refine wl rfl (st0B (q := 0) hS3 ⟨rfl, rfl⟩ rfl rfl rfl sizeOf99 rfl rfl rfl fun w4 im4 hS4 => ?_)
  refine nil (t_then ?_)
  obtain ⟨o1, ho1, hq1⟩ := bindS hm
  obtain ⟨bd1, hbd1, ho1⟩ := loop_open ho1
  refine blk (wp_loop_ghost (fun m a w5 => ∃ (J : JV) (T2 : TP) (x2 : TreeReader) (x1 : GExpr) (a4 : OA) (c4 : Nat) (a5 : OA) (c5 : Nat), a = env (nf 42) J [(0, pt b_p0 o_p0), (2, pt b1 0), (3, pt b2 0)] ∧ Im T1 w4 T2 w5 ∧ Sep g T2 w5 [boxA b2 (cGExpr x1 a4 c4), boxA b1 [iv 0, iv 0, iv 0, .string ⟨([] : List UInt8).toArray⟩, .string ⟨([] : List UInt8).toArray⟩, .int .u32 0, .string ⟨([] : List UInt8).toArray⟩, .string ⟨([] : List UInt8).toArray⟩, iv 0, .slice none 0 0], R, H_p0 [sv a5 x2.l c5, iv x2.end_.Line, iv x2.end_.Col, iv x2.depth]] ∧ SlR rGExpr T2 w5 (sv a4 x1.Kids c4) x1.Kids ∧ SlR rGToken T2 w5 (sv a5 x2.l c5) x2.l ∧ loopM bd1 m (x1, x2) = some o1) NN ⟨_, _, y1.2, y1.1, _, _, _, _, env_has ⟨rfl, rfl, rfl, trivial⟩, Im.refl, hS4.sel [0, 1, 2, 3] rfl, (h2.mono (iT im3 im4)), (h3.mono (iT im3 im4)), ho1⟩ ?_)
  rintro m _ w5 ⟨J, T2, x2, x1, a4, c4, a5, c5, rfl, im5, hS5, h4, h5, ho1⟩
  obtain ⟨m1, z1, rfl, hm, hn1⟩ := loop_round ho1
  rw [hbd1] at hm
  refine blk (sq2 (rg (wl rfl (alS (zs := [iv 0, iv 0, iv 0, .string ⟨([] : List UInt8).toArray⟩, .string ⟨([] : List UInt8).toArray⟩, .int .u32 0, .string ⟨([] : List UInt8).toArray⟩, .string ⟨([] : List UInt8).toArray⟩, iv 0, .slice none 0 0]) zeroValue99 rfl hS5 fun w6 b3 im6 hS6 => ?_))))
  refine nil (t_then ?_)
  obtain ⟨kk1, hkk1, hm⟩ := jn_open hm
  have hS7 := hS6.nilO rGExpr 99
  refine cut (fun a w7 => ∃ (J : JV) (T3 : TP) (x5 : TreeReader) (x4 : GExpr) (a6 : OA) (n1 : Nat) (c6 : Nat) (a7 : OA) (c7 : Nat), a = env (nf 42) J [(0, pt b_p0 o_p0), (2, pt b1 0), (3, pt b2 0), (4, pt b3 0)] ∧ Im T2 w6 T3 w7 ∧ Sep g T3 w7 [ownA rGExpr 99 (.slice a6 n1 c6) x4.Kids, boxA b3 [iv x4.Kind, iv x4.Pos.Line, iv x4.Pos.Col, .string ⟨x4.Op.toArray⟩, .string ⟨x4.Name.toArray⟩, .int .u32 x4.Num, .string ⟨x4.Type_.Word.toArray⟩, .string ⟨x4.Type_.Name.toArray⟩, iv x4.Type_.Stars, .slice a6 n1 c6], boxA b2 (cGExpr x1 a4 c4), boxA b1 [iv 0, iv 0, iv 0, .string ⟨([] : List UInt8).toArray⟩, .string ⟨([] : List UInt8).toArray⟩, .int .u32 0, .string ⟨([] : List UInt8).toArray⟩, .string ⟨([] : List UInt8).toArray⟩, iv 0, .slice none 0 0], R, H_p0 [sv a7 x5.l c7, iv x5.end_.Line, iv x5.end_.Col, iv x5.depth]] ∧ SlR rGToken T3 w7 (sv a7 x5.l c7) x5.l ∧ kk1 x4 x5 = some z1) ?_ ?_
  · refine sq2 ?_
    obtain ⟨y2, hx2, hm⟩ := bindS hm
    refine rg (pv (r_mp rfl) (wl rfl (calS cf101 rfl (tree_reader_mark_sim (p0 := x2) (H_p0 := H_p0) (hS7.bun [0, 1, 2, 3, 4] [5] rfl) hL_p0 (h5.mono im6) hx2) rfl fun v2 T4 w8 im8 rv2 => ?_)))
    obtain ⟨rfl, hS8, _⟩ := rv2
    have hS8 := hS8.unb
    refine nil (t_then ?_)
    refine blk (sq2 (rg (pv (r_sqL rfl rfl) (pv (r_zb rfl) (nil (t_then ?_))))))
    refine cnd rfl (fun hb1 => ?_) (fun hb1 => ?_)
    · have hm := ctrue hb1 hm
      refine sq2 ?_
      obtain ⟨y3, hx3, hm⟩ := bindS hm
      refine rg (pv (r_mp rfl) (wl rfl (calS cf102 rfl (tree_reader_operator_sim (p0 := x2) (H_p0 := H_p0) (p1 := 8) (hS8.bun [0, 1, 2, 3, 4] [5] rfl) hL_p0 (h5.mono (iT im6 im8)) hx3) rfl fun v3 T5 w9 im9 rv3 => ?_)))
      obtain ⟨a8, c8, a9, c9, rfl, hS9, h7, h8, _⟩ := rv3
      have hS9 := hS9.unb
      refine wl rfl (st0B (q := 1) hS9 ⟨rfl, rfl⟩ rfl rfl rfl sizeOf99 rfl rfl rfl fun w10 im10 hS10 => ?_)
      refine nil (t_then ?_)
      refine sq2 (rg (pv (r_fa rfl underlying99 rfl sizeOf9 rfl) (wl rfl (st0B (q := 1) hS10 ⟨rfl, rfl⟩ rfl rfl rfl sizeOf9 rfl rfl rfl fun w11 im11 hS11 => ?_))))
      refine nil (t_then ?_)
      refine sq2 (rsP [1, 0, 2, 2, 0, 2] [0, 1, 2, 3, 4, 5] mix (by kernel_rfl) hS11.lt (pq_then (pq_blk (pq_then (pq_blk (pq_then (pq_blk (pq_body))))))) fun w12 i1 => ?_)
      have im12 := i1.imm
      have hS12 := hS11.keep i1 (fun _ h => h)
      refine s1 rfl trivial (r_ldS rfl isAgg99 sizeOf99 rfl (hS12.cells0 (i := 2) ⟨rfl, rfl⟩ (o := 0) rfl) (cs := (cGExpr x1 a4 c4))) rfl (s0 rfl trivial (fun _ => r_mp rfl) rfl (?_))
      obtain ⟨y4, hx4, hm⟩ := bindS hm
      rcases y4 with e2 | y4
      · have hm := exC_error hm
        refine s2 [(0, .agg (cGExpr x1 a4 c4).toArray)] rfl trivial rfl (by kernel_rfl) (calP cf87 rfl (hG.tree_reader_assign (p0 := y3.2) (H_p0 := H_p0) (hS12.bun [1, 2, 3, 4] [5] rfl) hL_p0 (h8.mono (iT im10 (iT im11 im12))) hx4) rfl fun v7 T9 w18 im18 rv7 => ?_)
        obtain ⟨a15, c15, rfl, hS18, h13, _⟩ := rv7
        have hS18 := hS18.unb
        have hm := oI hm; subst hm
        have hn1 : _ = Lp.ret _ := hn1
        subst hn1
        have hm := thn_ret hq1
        have hm := oI hm; subst hm
        exact p_then (p_blk (p_then (p_blk (p_then (p_blk (panE ⟨_, rfl, _, (iT im1 (iT im2 (iT im3 (iT im4 (iT im5 (iT im6 (iT im8 (iT im9 (iT im10 (iT im11 (iT im12 im18))))))))))), ⟨_, _, rfl, hS18.sel [3, 4] rfl, h13, trivial⟩⟩))))))
      have hm := exC_ok hm
      refine s2 [(0, .agg (cGExpr x1 a4 c4).toArray)] rfl trivial rfl (by kernel_rfl) (calS cf87 rfl (hG.tree_reader_assign (p0 := y3.2) (H_p0 := H_p0) (hS12.bun [1, 2, 3, 4] [5] rfl) hL_p0 (h8.mono (iT im10 (iT im11 im12))) hx4) rfl fun v4 T6 w13 im13 rv4 => ?_)
      obtain ⟨a10, c10, a11, c11, rfl, hS13, h9, h10, _⟩ := rv4
      have hS13 := hS13.unb
      refine ⟨st1 rfl (r_ldS rfl isAgg99 sizeOf99 rfl (hS13.cells0 (i := 1) ⟨rfl, rfl⟩ (o := 0) rfl) (cs := (cGExpr x1 a4 c4))) (st0), ?_⟩
      refine s2 [] rfl trivial rfl (by kernel_rfl) (bsS (r := rGExpr) (l := ([x1, y4.1] : List GExpr)) (css := [(cGExpr x1 a4 c4), (cGExpr y4.1 a10 c10)]) hS13 underlying56 sizeOf99 zeroValue99 rfl rfl (by kernel_rfl) rfl ⟨(rGExpr_mk (x := x1) (h4.mono (iT im6 (iT im8 (iT im9 (iT im10 (iT im11 (iT im12 im13))))))) : rGExpr.rp _ _ _ _), (rGExpr_mk (x := y4.1) h9 : rGExpr.rp _ _ _ _), trivial⟩ rfl rfl fun w14 a12 n2 c12 im14 hS14 => ?_)
      refine ⟨st0, ?_⟩
      refine s0 rfl trivial (fun _ => r_fa rfl underlying99 rfl sizeOf56 rfl) rfl (s2 [] rfl trivial rfl (by kernel_rfl) (st0B (q := 1) hS14 ⟨rfl, rfl⟩ rfl rfl rfl sizeOf56 rfl rfl rfl fun w15 im15 hS15 => ?_))
      refine ⟨st0, ?_⟩
      refine seP (t_then ?_)
      refine rg (pv (r_mp rfl) (?_))
      obtain ⟨y5, hx5, hm⟩ := bindS hm
      rcases y5 with e1 | y5
      · have hm := exC_error hm
        refine wl rfl (calP cf62 rfl (tree_reader_must_sim (p0 := y4.2) (H_p0 := H_p0) (p1 := ([93] : List UInt8)) (hS15.bun [0, 1, 2, 3, 4] [5] rfl) hL_p0 (h10.mono (iT im14 im15)) hx5) rfl fun v6 T8 w17 im17 rv6 => ?_)
        obtain ⟨a14, c14, rfl, hS17, h12, _⟩ := rv6
        have hS17 := hS17.unb
        have hm := oI hm; subst hm
        have hn1 : _ = Lp.ret _ := hn1
        subst hn1
        have hm := thn_ret hq1
        have hm := oI hm; subst hm
        exact p_blk (p_then (p_blk (p_then (p_blk (panE ⟨_, rfl, _, (iT im1 (iT im2 (iT im3 (iT im4 (iT im5 (iT im6 (iT im8 (iT im9 (iT im10 (iT im11 (iT im12 (iT im13 (iT im14 (iT im15 im17)))))))))))))), ⟨_, _, rfl, hS17.sel [4, 5] rfl, h12, trivial⟩⟩)))))
      have hm := exC_ok hm
      refine wl rfl (calS cf62 rfl (tree_reader_must_sim (p0 := y4.2) (H_p0 := H_p0) (p1 := ([93] : List UInt8)) (hS15.bun [0, 1, 2, 3, 4] [5] rfl) hL_p0 (h10.mono (iT im14 im15)) hx5) rfl fun v5 T7 w16 im16 rv5 => ?_)
      obtain ⟨a13, c13, rfl, hS16, h11, _⟩ := rv5
      have hS16 := hS16.unb
      exact nil (t_blk (t_then ⟨_, _, y5, ({ y3.1 with Op := ([] : List UInt8), Kids := ([x1, y4.1] : List GExpr) }), _, _, _, _, _, env_has ⟨rfl, rfl, rfl, rfl, trivial⟩, (iT im8 (iT im9 (iT im10 (iT im11 (iT im12 (iT im13 (iT im14 (iT im15 im16)))))))), hS16.sel [0, 1, 2, 3, 4, 5] rfl, h11, hm⟩))
    have hm := cfalse hb1 hm
    obtain ⟨kk2, hkk2, hm⟩ := jn_open hm
    refine cut (fun a w19 => ∃ (J : JV) (T10 : TP) (x6 : Bool), a = env (nf 42) J [(0, pt b_p0 o_p0), (2, pt b1 0), (3, pt b2 0), (4, pt b3 0), (8, .string ⟨y2.toArray⟩), (22, .bool x6)] ∧ Im T4 w8 T10 w19 ∧ Sep g T10 w19 [ownA rGExpr 99 (.slice none 0 0) [], boxA b3 [iv 0, iv 0, iv 0, .string ⟨([] : List UInt8).toArray⟩, .string ⟨([] : List UInt8).toArray⟩, .int .u32 0, .string ⟨([] : List UInt8).toArray⟩, .string ⟨([] : List UInt8).toArray⟩, iv 0, .slice none 0 0], boxA b2 (cGExpr x1 a4 c4), boxA b1 [iv 0, iv 0, iv 0, .string ⟨([] : List UInt8).toArray⟩, .string ⟨([] : List UInt8).toArray⟩, .int .u32 0, .string ⟨([] : List UInt8).toArray⟩, .string ⟨([] : List UInt8).toArray⟩, iv 0, .slice none 0 0], R, H_p0 [sv a5 x2.l c5, iv x2.end_.Line, iv x2.end_.Col, iv x2.depth]] ∧ kk2 x6 = some z1) ?_ ?_
    · refine sq2 (rg (pv (r_sqL rfl rfl) (pv (r_zb rfl) (nil (t_then ?_)))))
      refine cnd rfl (fun hb2 => ?_) (fun hb2 => ?_)
      · have hm := ctrue hb2 hm
        exact skp (t_then ⟨_, _, (decide (y2 = ([46] : List UInt8))), env_has ⟨rfl, rfl, rfl, rfl, rfl, rfl, trivial⟩, Im.refl, hS8.sel [0, 1, 2, 3, 4, 5] rfl, hm⟩)
      have hm := cfalse hb2 hm
      exact rg (pv (r_sqL rfl rfl) (pv (r_zb rfl) (nil (t_then ⟨_, _, (decide (y2 = ([45, 62] : List UInt8))), env_has ⟨rfl, rfl, rfl, rfl, rfl, rfl, trivial⟩, Im.refl, hS8.sel [0, 1, 2, 3, 4, 5] rfl, hm⟩))))
    rintro _ w19 ⟨J, T10, x6, rfl, im19, hS19, hm⟩
    rw [hkk2] at hm
    refine cnd rfl (fun hb3 => ?_) (fun hb3 => ?_)
    · have hm := ctrue hb3 hm
      refine sq2 ?_
      obtain ⟨y6, hx6, hm⟩ := bindS hm
      refine rg (pv (r_mp rfl) (wl rfl (calS cf102 rfl (tree_reader_operator_sim (p0 := x2) (H_p0 := H_p0) (p1 := 9) (hS19.bun [0, 1, 2, 3, 4] [5] rfl) hL_p0 (h5.mono (iT im6 (iT im8 im19))) hx6) rfl fun v8 T11 w20 im20 rv8 => ?_)))
      obtain ⟨a16, c16, a17, c17, rfl, hS20, h14, h15, _⟩ := rv8
      have hS20 := hS20.unb
      refine wl rfl (st0B (q := 1) hS20 ⟨rfl, rfl⟩ rfl rfl rfl sizeOf99 rfl rfl rfl fun w21 im21 hS21 => ?_)
      refine nil (t_then ?_)
      refine sq2 (rg (pv (r_mp rfl) (?_)))
      obtain ⟨y7, hx7, hm⟩ := bindS hm
      rcases y7 with e3 | y7
      · have hm := exC_error hm
        refine wl rfl (calP cf63 rfl (tree_reader_name_sim (p0 := y6.2) (H_p0 := H_p0) (hS21.bun [1, 2, 3, 4] [5] rfl) hL_p0 (h15.mono im21) hx7) rfl fun v10 T13 w26 im26 rv10 => ?_)
        obtain ⟨a20, c20, rfl, hS26, h17, _⟩ := rv10
        have hS26 := hS26.unb
        have hm := oI hm; subst hm
        have hn1 : _ = Lp.ret _ := hn1
        subst hn1
        have hm := thn_ret hq1
        have hm := oI hm; subst hm
        exact p_then (p_blk (p_then (p_blk (p_then (p_blk (panE ⟨_, rfl, _, (iT im1 (iT im2 (iT im3 (iT im4 (iT im5 (iT im6 (iT im8 (iT im19 (iT im20 (iT im21 im26)))))))))), ⟨_, _, rfl, hS26.sel [3, 4] rfl, h17, trivial⟩⟩))))))
      have hm := exC_ok hm
      refine wl rfl (calS cf63 rfl (tree_reader_name_sim (p0 := y6.2) (H_p0 := H_p0) (hS21.bun [1, 2, 3, 4] [5] rfl) hL_p0 (h15.mono im21) hx7) rfl fun v9 T12 w22 im22 rv9 => ?_)
      obtain ⟨a18, c18, rfl, hS22, h16, _⟩ := rv9
      have hS22 := hS22.unb
      refine pv (r_fa rfl underlying99 rfl sizeOf9 rfl) (wl rfl (st0B (q := 0) hS22 ⟨rfl, rfl⟩ rfl rfl rfl sizeOf9 rfl rfl rfl fun w23 im23 hS23 => ?_))
      refine nil (t_then ?_)
      refine rg (pv (r_ldS rfl isAgg99 sizeOf99 rfl (hS23.cells0 (i := 1) ⟨rfl, rfl⟩ (o := 0) rfl) (cs := (cGExpr x1 a4 c4))) (wl rfl (bsS (r := rGExpr) (l := ([x1] : List GExpr)) (css := [(cGExpr x1 a4 c4)]) hS23 underlying56 sizeOf99 zeroValue99 rfl rfl (by kernel_rfl) rfl ⟨(rGExpr_mk (x := x1) (h4.mono (iT im6 (iT im8 (iT im19 (iT im20 (iT im21 (iT im22 im23))))))) : rGExpr.rp _ _ _ _), trivial⟩ rfl rfl fun w24 a19 n3 c19 im24 hS24 => ?_)))
      refine pv (r_fa rfl underlying99 rfl sizeOf56 rfl) (wl rfl (st0B (q := 1) hS24 ⟨rfl, rfl⟩ rfl rfl rfl sizeOf56 rfl rfl rfl fun w25 im25 hS25 => ?_))
      exact nil (t_blk (t_then ⟨_, _, y7.2, ({ y6.1 with Name := y7.1, Kids := ([x1] : List GExpr) }), _, _, _, _, _, env_has ⟨rfl, rfl, rfl, rfl, trivial⟩, (iT im8 (iT im19 (iT im20 (iT im21 (iT im22 (iT im23 (iT im24 im25))))))), hS25.sel [0, 1, 2, 3, 4, 5] rfl, (h16.mono (iT im23 (iT im24 im25))), hm⟩))
    have hm := cfalse hb3 hm
    obtain ⟨kk3, hkk3, hm⟩ := jn_open hm
    refine cut (fun a w27 => ∃ (J : JV) (T14 : TP) (x7 : Bool), a = env (nf 42) J [(0, pt b_p0 o_p0), (2, pt b1 0), (3, pt b2 0), (4, pt b3 0), (33, .bool x7)] ∧ Im T10 w19 T14 w27 ∧ Sep g T14 w27 [ownA rGExpr 99 (.slice none 0 0) [], boxA b3 [iv 0, iv 0, iv 0, .string ⟨([] : List UInt8).toArray⟩, .string ⟨([] : List UInt8).toArray⟩, .int .u32 0, .string ⟨([] : List UInt8).toArray⟩, .string ⟨([] : List UInt8).toArray⟩, iv 0, .slice none 0 0], boxA b2 (cGExpr x1 a4 c4), boxA b1 [iv 0, iv 0, iv 0, .string ⟨([] : List UInt8).toArray⟩, .string ⟨([] : List UInt8).toArray⟩, .int .u32 0, .string ⟨([] : List UInt8).toArray⟩, .string ⟨([] : List UInt8).toArray⟩, iv 0, .slice none 0 0], R, H_p0 [sv a5 x2.l c5, iv x2.end_.Line, iv x2.end_.Col, iv x2.depth]] ∧ kk3 x7 = some z1) ?_ ?_
    · refine sq2 (rg (pv (r_sqL rfl rfl) (pv (r_zb rfl) (nil (t_then ?_)))))
      refine cnd rfl (fun hb4 => ?_) (fun hb4 => ?_)
      · have hm := ctrue hb4 hm
        exact skp (t_then ⟨_, _, (decide (y2 = ([43, 43] : List UInt8))), env_has ⟨rfl, rfl, rfl, rfl, rfl, trivial⟩, Im.refl, hS19.sel [0, 1, 2, 3, 4, 5] rfl, hm⟩)
      have hm := cfalse hb4 hm
      exact rg (pv (r_sqL rfl rfl) (pv (r_zb rfl) (nil (t_then ⟨_, _, (decide (y2 = ([45, 45] : List UInt8))), env_has ⟨rfl, rfl, rfl, rfl, rfl, trivial⟩, Im.refl, hS19.sel [0, 1, 2, 3, 4, 5] rfl, hm⟩))))
    rintro _ w27 ⟨J, T14, x7, rfl, im27, hS27, hm⟩
    rw [hkk3] at hm
    refine cnd rfl (fun hb5 => ?_) (fun hb5 => ?_)
    · have hm := ctrue hb5 hm
      refine sq2 ?_
      obtain ⟨y8, hx8, hm⟩ := bindS hm
      refine rg (pv (r_mp rfl) (wl rfl (calS cf102 rfl (tree_reader_operator_sim (p0 := x2) (H_p0 := H_p0) (p1 := 11) (hS27.bun [0, 1, 2, 3, 4] [5] rfl) hL_p0 (h5.mono (iT im6 (iT im8 (iT im19 im27)))) hx8) rfl fun v11 T15 w28 im28 rv11 => ?_)))
      obtain ⟨a21, c21, a22, c22, rfl, hS28, h18, h19, _⟩ := rv11
      have hS28 := hS28.unb
      refine wl rfl (st0B (q := 1) hS28 ⟨rfl, rfl⟩ rfl rfl rfl sizeOf99 rfl rfl rfl fun w29 im29 hS29 => ?_)
      refine nil (t_then ?_)
      refine rg (pv (r_ldS rfl isAgg99 sizeOf99 rfl (hS29.cells0 (i := 2) ⟨rfl, rfl⟩ (o := 0) rfl) (cs := (cGExpr x1 a4 c4))) (wl rfl (bsS (r := rGExpr) (l := ([x1] : List GExpr)) (css := [(cGExpr x1 a4 c4)]) hS29 underlying56 sizeOf99 zeroValue99 rfl rfl (by kernel_rfl) rfl ⟨(rGExpr_mk (x := x1) (h4.mono (iT im6 (iT im8 (iT im19 (iT im27 (iT im28 im29)))))) : rGExpr.rp _ _ _ _), trivial⟩ rfl rfl fun w30 a23 n4 c23 im30 hS30 => ?_)))
      refine pv (r_fa rfl underlying99 rfl sizeOf56 rfl) (wl rfl (st0B (q := 2) hS30 ⟨rfl, rfl⟩ rfl rfl rfl sizeOf56 rfl rfl rfl fun w31 im31 hS31 => ?_))
      exact nil (t_blk (t_then ⟨_, _, y8.2, ({ y8.1 with Kids := ([x1] : List GExpr) }), _, _, _, _, _, env_has ⟨rfl, rfl, rfl, rfl, trivial⟩, (iT im8 (iT im19 (iT im27 (iT im28 (iT im29 (iT im30 im31)))))), hS31.sel [0, 2, 3, 4, 5, 6] rfl, (h19.mono (iT im29 (iT im30 im31))), hm⟩))
    have hm := cfalse hb5 hm
    refine sq2 (rg (pv (r_ldS rfl isAgg99 sizeOf99 rfl (hS27.cells0 (i := 2) ⟨rfl, rfl⟩ (o := 0) rfl) (cs := (cGExpr x1 a4 c4))) (wl rfl (st0B (q := 3) hS27 ⟨rfl, rfl⟩ rfl rfl rfl sizeOf99 rfl rfl rfl fun w32 im32 hS32 => ?_))))
    refine nil (t_then ?_)
    have hm := oI hm; subst hm
    have hn1 : _ = Lp.ret _ := hn1
    subst hn1
    have hm := thn_ret hq1
    have hm := oI hm; subst hm
    exact rtn (r_blk (r_then (r_blk (r_then (r_blk (retN (vs := [.agg (cGExpr x1 a4 c4).toArray]) rfl ⟨rvS rfl isAgg99 sizeOf99 rfl (hS32.bx (i := 3) ⟨rfl, rfl⟩), trivial⟩ rfl ⟨_, rfl, _, (iT im1 (iT im2 (iT im3 (iT im4 (iT im5 (iT im6 (iT im8 (iT im19 (iT im27 im32))))))))), ⟨_, _, _, _, rfl, hS32.sel [4, 5] rfl, (h4.mono (iT im6 (iT im8 (iT im19 (iT im27 im32))))), (h5.mono (iT im6 (iT im8 (iT im19 (iT im27 im32))))), trivial⟩⟩))))))
  rintro _ w7 ⟨J, T3, x5, x4, a6, n1, c6, a7, c7, rfl, im7, hS33, h6, hm⟩
  rw [hkk1] at hm
  refine rg (pv (r_ldS rfl isAgg99 sizeOf99 rfl (hS33.cells0 (i := 1) ⟨rfl, rfl⟩ (o := 0) rfl) (cs := [iv x4.Kind, iv x4.Pos.Line, iv x4.Pos.Col, .string ⟨x4.Op.toArray⟩, .string ⟨x4.Name.toArray⟩, .int .u32 x4.Num, .string ⟨x4.Type_.Word.toArray⟩, .string ⟨x4.Type_.Name.toArray⟩, iv x4.Type_.Stars, .slice a6 n1 c6])) (wl rfl (st0B (q := 2) hS33 ⟨rfl, rfl⟩ rfl rfl rfl sizeOf99 rfl rfl rfl fun w33 im33 hS34 => ?_)))
  obtain ⟨T16, im34, hS35, h20⟩ := hS34.seal 0 ⟨rfl, rfl⟩
  have hsh := h20.len
  subst hsh
  have hm := oI hm; subst hm
  exact nil (t_blk (t_then ⟨m1, Nat.lt_succ_self _, _, _, x5, x4, _, _, _, _, env_has ⟨rfl, rfl, rfl, trivial⟩, (iT im5 (iT im6 (iT im7 (iT im33 im34)))), hS35.sel [2, 3, 4, 5] rfl, h20, (h6.mono (iT im33 im34)), hn1⟩))
theorem tree_reader_unary_st {G : Rec1} (hG : Sp1 G) {g : World} {T0 : TP} {w0 : World} {R : Assn} {p0 : TreeReader} {b_p0 o_p0 : Nat} {H_p0 : List Value → Assn} {a1 : OA} {c1 : Nat} {r : Except (TreeRefused × TreeReader) (GExpr × TreeReader)} (hS : Sep g T0 w0 [R, H_p0 [sv a1 p0.l c1, iv p0.end_.Line, iv p0.end_.Col, iv p0.depth]]) (hL_p0 : Ln b_p0 o_p0 H_p0) (h1 : SlR rGToken T0 w0 (sv a1 p0.l c1) p0.l) (hm : tree_reader_unary_b G p0 = some r) :
    Calls Tryz.prog 122 #[pt b_p0 o_p0] w0 (exR r (fun r => RetS T0 w0 fun T w v => ∃ (a27 : OA) (c27 : Nat) (a28 : OA) (c28 : Nat), v = .agg (cGExpr r.1 a27 c27).toArray ∧ Sep g T w [R, H_p0 [sv a28 r.2.l c28, iv r.2.end_.Line, iv r.2.end_.Col, iv r.2.depth]] ∧ SlR rGExpr T w (sv a27 r.1.Kids c27) r.1.Kids ∧ SlR rGToken T w (sv a28 r.2.l c28) r.2.l ∧ True) (fun r => PanS T0 w0 fun T w v => ∃ (a27 : OA) (c27 : Nat), v = .iface 48 (.agg (cTreeRefused r.1).toArray) ∧ Sep g T w [R, H_p0 [sv a27 r.2.l c27, iv r.2.end_.Line, iv r.2.end_.Col, iv r.2.depth]] ∧ SlR rGToken T w (sv a27 r.2.l c27) r.2.l ∧ True)) := by
  refine enterD (args := [pt b_p0 o_p0]) Tryz.func122 rfl Tryz.ntmps122 rfl fun J => ?_
  unfold tree_reader_unary_b at hm
  refine sq2 (rg (wl rfl (alS (zs := [iv 0, iv 0, iv 0, .string ⟨([] : List UInt8).toArray⟩, .string ⟨([] : List UInt8).toArray⟩, .int .u32 0, .string ⟨([] : List UInt8).toArray⟩, .string ⟨([] : List UInt8).toArray⟩, iv 0, .slice none 0 0]) zeroValue99 rfl hS fun w1 b1 im1 hS1 => ?_)))
  refine nil (t_then ?_)
  refine sq2 (rg (pv (r_mp rfl) (?_)))
  obtain ⟨y1, hx1, hm⟩ := bindS hm
  rcases y1 with e7 | y1
  · have hm := exC_error hm
    refine wl rfl (calP cf98 rfl (tree_reader_deeper_sim (p0 := p0) (H_p0 := H_p0) (hS1.bun [0, 1] [2] rfl) hL_p0 (h1.mono im1) hx1) rfl fun v20 T24 w50 im52 rv20 => ?_)
    obtain ⟨a26, c26, rfl, hS52, h26, _⟩ := rv20
    have hS52 := hS52.unb
    have hm := oI hm; subst hm
    exact p_then (panED ⟨_, rfl, _, (iT im1 im52), ⟨_, _, rfl, hS52.sel [1, 2] rfl, h26, trivial⟩⟩)
  have hm := exC_ok hm
  refine wl rfl (calS cf98 rfl (tree_reader_deeper_sim (p0 := p0) (H_p0 := H_p0) (hS1.bun [0, 1] [2] rfl) hL_p0 (h1.mono im1) hx1) rfl fun v1 T1 w2 im2 rv1 => ?_)
  obtain ⟨b2, a2, c2, rfl, hS2, h2, _⟩ := rv1
  have hS2 := hS2.unb
  refine wl rfl (dfO (f := 115) (cap := #[pt b2 0]) rfl ?_)
  refine nil (t_then ?_)
  refine sq2 (sq2 ?_)
  obtain ⟨y2, hx2, hm⟩ := bindS hm
  refine rg (pv (r_mp rfl) (wl rfl (calS cf101 rfl (tree_reader_mark_sim (p0 := y1) (H_p0 := H_p0) (hS2.bun [0, 1, 3] [2] rfl) hL_p0 h2 hx2) rfl fun v2 T2 w3 im3 rv2 => ?_)))
  obtain ⟨rfl, hS3, _⟩ := rv2
  have hS3 := hS3.unb
  refine nil (t_then ?_)
  refine blk ?_
  obtain ⟨kk1, hkk1, hm⟩ := jn_open hm
  refine cut (fun a w4 => ∃ (J : JV) (T3 : TP) (x1 : Bool), a = env ⟨49, [⟨.fn (.func 115) #[pt b2 0], #[]⟩]⟩ J [(0, pt b_p0 o_p0), (2, pt b1 0), (10, .string ⟨y2.toArray⟩), (11, .bool x1)] ∧ Im T2 w3 T3 w4 ∧ Sep g T3 w4 [boxA b1 [iv 0, iv 0, iv 0, .string ⟨([] : List UInt8).toArray⟩, .string ⟨([] : List UInt8).toArray⟩, .int .u32 0, .string ⟨([] : List UInt8).toArray⟩, .string ⟨([] : List UInt8).toArray⟩, iv 0, .slice none 0 0], R, boxA b2 [pt b_p0 o_p0], H_p0 [sv a2 y1.l c2, iv y1.end_.Line, iv y1.end_.Col, iv y1.depth]] ∧ kk1 x1 = some r) ?_ ?_
  · refine sq2 (rg (pv (r_sqL rfl rfl) (pv (r_zb rfl) (nil (t_then ?_)))))
    refine cnd rfl (fun hb1 => ?_) (fun hb1 => ?_)
    · have hm := ctrue hb1 hm
      exact skp (t_then ⟨_, _, (decide (y2 = ([45] : List UInt8))), env_has ⟨rfl, rfl, rfl, rfl, trivial⟩, Im.refl, hS3.sel [0, 1, 2, 3] rfl, hm⟩)
    have hm := cfalse hb1 hm
    refine sq2 (rg (pv (r_sqL rfl rfl) (pv (r_zb rfl) (nil (t_then ?_)))))
    refine cnd rfl (fun hb2 => ?_) (fun hb2 => ?_)
    · have hm := ctrue hb2 hm
      exact skp (t_then ⟨_, _, (decide (y2 = ([126] : List UInt8))), env_has ⟨rfl, rfl, rfl, rfl, trivial⟩, Im.refl, hS3.sel [0, 1, 2, 3] rfl, hm⟩)
    have hm := cfalse hb2 hm
    refine sq2 (rg (pv (r_sqL rfl rfl) (pv (r_zb rfl) (nil (t_then ?_)))))
    refine cnd rfl (fun hb3 => ?_) (fun hb3 => ?_)
    · have hm := ctrue hb3 hm
      exact skp (t_then ⟨_, _, (decide (y2 = ([33] : List UInt8))), env_has ⟨rfl, rfl, rfl, rfl, trivial⟩, Im.refl, hS3.sel [0, 1, 2, 3] rfl, hm⟩)
    have hm := cfalse hb3 hm
    refine sq2 (rg (pv (r_sqL rfl rfl) (pv (r_zb rfl) (nil (t_then ?_)))))
    refine cnd rfl (fun hb4 => ?_) (fun hb4 => ?_)
    · have hm := ctrue hb4 hm
      exact skp (t_then ⟨_, _, (decide (y2 = ([42] : List UInt8))), env_has ⟨rfl, rfl, rfl, rfl, trivial⟩, Im.refl, hS3.sel [0, 1, 2, 3] rfl, hm⟩)
    have hm := cfalse hb4 hm
    exact rg (pv (r_sqL rfl rfl) (pv (r_zb rfl) (nil (t_then ⟨_, _, (decide (y2 = ([38] : List UInt8))), env_has ⟨rfl, rfl, rfl, rfl, trivial⟩, Im.refl, hS3.sel [0, 1, 2, 3] rfl, hm⟩))))
  rintro _ w4 ⟨J, T3, x1, rfl, im4, hS4, hm⟩
  rw [hkk1] at hm
  refine cnd rfl (fun hb5 => ?_) (fun hb5 => ?_)
  · have hm := ctrue hb5 hm
    refine sq2 ?_
    obtain ⟨y3, hx3, hm⟩ := bindS hm
    refine rg (pv (r_mp rfl) (wl rfl (calS cf102 rfl (tree_reader_operator_sim (p0 := y1) (H_p0 := H_p0) (p1 := 3) (hS4.bun [0, 1, 2] [3] rfl) hL_p0 (h2.mono (iT im3 im4)) hx3) rfl fun v3 T4 w5 im5 rv3 => ?_)))
    obtain ⟨a3, c3, a4, c4, rfl, hS5, h3, h4, _⟩ := rv3
    have hS5 := hS5.unb
    refine wl rfl (alS (zs := [iv 0, iv 0, iv 0, .string ⟨([] : List UInt8).toArray⟩, .string ⟨([] : List UInt8).toArray⟩, .int .u32 0, .string ⟨([] : List UInt8).toArray⟩, .string ⟨([] : List UInt8).toArray⟩, iv 0, .slice none 0 0]) zeroValue99 rfl hS5 fun w6 b3 im6 hS6 => ?_)
    refine wl rfl (st0B (q := 0) hS6 ⟨rfl, rfl⟩ rfl rfl rfl sizeOf99 rfl rfl rfl fun w7 im7 hS7 => ?_)
    refine nil (t_then ?_)
    refine sq2 (rg (pv (r_mp rfl) (?_)))
    obtain ⟨y4, hx4, hm⟩ := bindS hm
    rcases y4 with e1 | y4
    · have hm := exC_error hm
      refine wl rfl (calP cf122 rfl (hG.tree_reader_unary (p0 := y3.2) (H_p0 := H_p0) (hS7.bun [0, 1, 2, 3] [4] rfl) hL_p0 (h4.mono (iT im6 im7)) hx4) rfl fun v5 T7 w13 im14 rv5 => ?_)
      obtain ⟨a8, c8, rfl, hS14, h8, _⟩ := rv5
      have hS14 := hS14.unb
      refine p_then (p_blk (p_then (panD2 cf115 (plainD (args := [pt b2 0]) Tryz.func115 rfl Tryz.ntmps115 rfl rfl fun J => ?_))))
      refine rg (pv (r_ld rfl isAgg41 (hS14.cell0 (i := 3) ⟨rfl, rfl⟩ (j := 0) rfl)) (pv (r_nc rfl) (pv (r_fa rfl underlying43 rfl sizeOf3 rfl) (pv (r_ld rfl isAgg3 (hS14.cellB (i := 4) ⟨rfl, rfl⟩ hL_p0 (j := 3) rfl)) (pv (r_ib rfl rfl rfl) (pv (r_nc rfl) (pv (r_fa rfl underlying43 rfl sizeOf3 rfl) (wl rfl (stB (q := 4) (j := 3) hS14 ⟨rfl, rfl⟩ hL_p0 rfl rfl rfl sizeOf3 rfl rfl rfl fun w14 im15 hS15 => ?_)))))))))
      have hm := oI hm; subst hm
      exact nil (endO rfl ⟨_, rfl, _, (iT im1 (iT im2 (iT im3 (iT im4 (iT im5 (iT im6 (iT im7 (iT im14 im15)))))))), ⟨_, _, rfl, hS15.sel [2, 4] rfl, (h8.mono im15), trivial⟩⟩)
    have hm := exC_ok hm
    refine wl rfl (calS cf122 rfl (hG.tree_reader_unary (p0 := y3.2) (H_p0 := H_p0) (hS7.bun [0, 1, 2, 3] [4] rfl) hL_p0 (h4.mono (iT im6 im7)) hx4) rfl fun v4 T5 w8 im8 rv4 => ?_)
    obtain ⟨a5, c5, a6, c6, rfl, hS8, h5, h6, _⟩ := rv4
    have hS8 := hS8.unb
    refine wl rfl (bsS (r := rGExpr) (l := ([y4.1] : List GExpr)) (css := [(cGExpr y4.1 a5 c5)]) hS8 underlying56 sizeOf99 zeroValue99 rfl rfl (by kernel_rfl) rfl ⟨(rGExpr_mk (x := y4.1) h5 : rGExpr.rp _ _ _ _), trivial⟩ rfl rfl fun w9 a7 n1 c7 im9 hS9 => ?_)
    refine pv (r_fa rfl underlying99 rfl sizeOf56 rfl) (wl rfl (st0B (q := 1) hS9 ⟨rfl, rfl⟩ rfl rfl rfl sizeOf56 rfl rfl rfl fun w10 im10 hS10 => ?_))
    refine nil (t_then ?_)
    refine sq2 (rg (pv (r_ldS rfl isAgg99 sizeOf99 rfl (hS10.cells0 (i := 1) ⟨rfl, rfl⟩ (o := 0) rfl) (cs := [iv y3.1.Kind, iv y3.1.Pos.Line, iv y3.1.Pos.Col, .string ⟨y3.1.Op.toArray⟩, .string ⟨y3.1.Name.toArray⟩, .int .u32 y3.1.Num, .string ⟨y3.1.Type_.Word.toArray⟩, .string ⟨y3.1.Type_.Name.toArray⟩, iv y3.1.Type_.Stars, .slice a7 n1 c7])) (wl rfl (st0B (q := 2) hS10 ⟨rfl, rfl⟩ rfl rfl rfl sizeOf99 rfl rfl rfl fun w11 im11 hS11 => ?_))))
    refine nil (t_then ?_)
    refine rtn (r_blk (r_then (retD cf115 (plainD (args := [pt b2 0]) Tryz.func115 rfl Tryz.ntmps115 rfl rfl fun J => ?_))))
    refine rg (pv (r_ld rfl isAgg41 (hS11.cell0 (i := 4) ⟨rfl, rfl⟩ (j := 0) rfl)) (pv (r_nc rfl) (pv (r_fa rfl underlying43 rfl sizeOf3 rfl) (pv (r_ld rfl isAgg3 (hS11.cellB (i := 5) ⟨rfl, rfl⟩ hL_p0 (j := 3) rfl)) (pv (r_ib rfl rfl rfl) (pv (r_nc rfl) (pv (r_fa rfl underlying43 rfl sizeOf3 rfl) (wl rfl (stB (q := 5) (j := 3) hS11 ⟨rfl, rfl⟩ hL_p0 rfl rfl rfl sizeOf3 rfl rfl rfl fun w12 im12 hS12 => ?_)))))))))
    obtain ⟨T6, im13, hS13, h7⟩ := hS12.seal 0 ⟨rfl, rfl⟩
    have hsh := h7.len
    subst hsh
    have hm := oI hm; subst hm
    exact nil (endO rfl ⟨_, resN (vs := [.agg #[iv y3.1.Kind, iv y3.1.Pos.Line, iv y3.1.Pos.Col, .string ⟨y3.1.Op.toArray⟩, .string ⟨y3.1.Name.toArray⟩, .int .u32 y3.1.Num, .string ⟨y3.1.Type_.Word.toArray⟩, .string ⟨y3.1.Type_.Name.toArray⟩, iv y3.1.Type_.Stars, .slice a7 (List.length ([y4.1] : List GExpr)) c7]]) rfl ⟨rvS rfl isAgg99 sizeOf99 rfl (hS13.bx (i := 2) ⟨rfl, rfl⟩), trivial⟩ rfl, ⟨_, rfl, _, (iT im1 (iT im2 (iT im3 (iT im4 (iT im5 (iT im6 (iT im7 (iT im8 (iT im9 (iT im10 (iT im11 (iT im12 im13)))))))))))), ⟨_, _, _, _, rfl, hS13.sel [3, 5] rfl, h7, (h6.mono (iT im9 (iT im10 (iT im11 (iT im12 im13))))), trivial⟩⟩⟩)
  have hm := cfalse hb5 hm
  obtain ⟨kk2, hkk2, hm⟩ := jn_open hm
  refine cut (fun a w15 => ∃ (J : JV) (T8 : TP) (x2 : Bool), a = env ⟨49, [⟨.fn (.func 115) #[pt b2 0], #[]⟩]⟩ J [(0, pt b_p0 o_p0), (2, pt b1 0), (24, .bool x2)] ∧ Im T3 w4 T8 w15 ∧ Sep g T8 w15 [boxA b1 [iv 0, iv 0, iv 0, .string ⟨([] : List UInt8).toArray⟩, .string ⟨([] : List UInt8).toArray⟩, .int .u32 0, .string ⟨([] : List UInt8).toArray⟩, .string ⟨([] : List UInt8).toArray⟩, iv 0, .slice none 0 0], R, boxA b2 [pt b_p0 o_p0], H_p0 [sv a2 y1.l c2, iv y1.end_.Line, iv y1.end_.Col, iv y1.depth]] ∧ kk2 x2 = some r) ?_ ?_
  · refine sq2 (rg (pv (r_sqL rfl rfl) (pv (r_zb rfl) (nil (t_then ?_)))))
    refine cnd rfl (fun hb6 => ?_) (fun hb6 => ?_)
    · have hm := ctrue hb6 hm
      exact skp (t_then ⟨_, _, (decide (y2 = ([43, 43] : List UInt8))), env_has ⟨rfl, rfl, rfl, trivial⟩, Im.refl, hS4.sel [0, 1, 2, 3] rfl, hm⟩)
    have hm := cfalse hb6 hm
    exact rg (pv (r_sqL rfl rfl) (pv (r_zb rfl) (nil (t_then ⟨_, _, (decide (y2 = ([45, 45] : List UInt8))), env_has ⟨rfl, rfl, rfl, trivial⟩, Im.refl, hS4.sel [0, 1, 2, 3] rfl, hm⟩))))
  rintro _ w15 ⟨J, T8, x2, rfl, im16, hS16, hm⟩
  rw [hkk2] at hm
  refine cnd rfl (fun hb7 => ?_) (fun hb7 => ?_)
  · have hm := ctrue hb7 hm
    refine sq2 ?_
    obtain ⟨y5, hx5, hm⟩ := bindS hm
    refine rg (pv (r_mp rfl) (wl rfl (calS cf102 rfl (tree_reader_operator_sim (p0 := y1) (H_p0 := H_p0) (p1 := 10) (hS16.bun [0, 1, 2] [3] rfl) hL_p0 (h2.mono (iT im3 (iT im4 im16))) hx5) rfl fun v6 T9 w16 im17 rv6 => ?_)))
    obtain ⟨a9, c9, a10, c10, rfl, hS17, h9, h10, _⟩ := rv6
    have hS17 := hS17.unb
    refine wl rfl (alS (zs := [iv 0, iv 0, iv 0, .string ⟨([] : List UInt8).toArray⟩, .string ⟨([] : List UInt8).toArray⟩, .int .u32 0, .string ⟨([] : List UInt8).toArray⟩, .string ⟨([] : List UInt8).toArray⟩, iv 0, .slice none 0 0]) zeroValue99 rfl hS17 fun w17 b4 im18 hS18 => ?_)
    refine wl rfl (st0B (q := 0) hS18 ⟨rfl, rfl⟩ rfl rfl rfl sizeOf99 rfl rfl rfl fun w18 im19 hS19 => ?_)
    refine nil (t_then ?_)
    refine sq2 (rg (pv (r_mp rfl) (?_)))
    obtain ⟨y6, hx6, hm⟩ := bindS hm
    rcases y6 with e2 | y6
    · have hm := exC_error hm
      refine wl rfl (calP cf122 rfl (hG.tree_reader_unary (p0 := y5.2) (H_p0 := H_p0) (hS19.bun [0, 1, 2, 3] [4] rfl) hL_p0 (h10.mono (iT im18 im19)) hx6) rfl fun v8 T12 w24 im26 rv8 => ?_)
      obtain ⟨a14, c14, rfl, hS26, h14, _⟩ := rv8
      have hS26 := hS26.unb
      refine p_then (p_blk (p_then (panD2 cf115 (plainD (args := [pt b2 0]) Tryz.func115 rfl Tryz.ntmps115 rfl rfl fun J => ?_))))
      refine rg (pv (r_ld rfl isAgg41 (hS26.cell0 (i := 3) ⟨rfl, rfl⟩ (j := 0) rfl)) (pv (r_nc rfl) (pv (r_fa rfl underlying43 rfl sizeOf3 rfl) (pv (r_ld rfl isAgg3 (hS26.cellB (i := 4) ⟨rfl, rfl⟩ hL_p0 (j := 3) rfl)) (pv (r_ib rfl rfl rfl) (pv (r_nc rfl) (pv (r_fa rfl underlying43 rfl sizeOf3 rfl) (wl rfl (stB (q := 4) (j := 3) hS26 ⟨rfl, rfl⟩ hL_p0 rfl rfl rfl sizeOf3 rfl rfl rfl fun w25 im27 hS27 => ?_)))))))))
      have hm := oI hm; subst hm
      exact nil (endO rfl ⟨_, rfl, _, (iT im1 (iT im2 (iT im3 (iT im4 (iT im16 (iT im17 (iT im18 (iT im19 (iT im26 im27))))))))), ⟨_, _, rfl, hS27.sel [2, 4] rfl, (h14.mono im27), trivial⟩⟩)
    have hm := exC_ok hm
    refine wl rfl (calS cf122 rfl (hG.tree_reader_unary (p0 := y5.2) (H_p0 := H_p0) (hS19.bun [0, 1, 2, 3] [4] rfl) hL_p0 (h10.mono (iT im18 im19)) hx6) rfl fun v7 T10 w19 im20 rv7 => ?_)
    obtain ⟨a11, c11, a12, c12, rfl, hS20, h11, h12, _⟩ := rv7
    have hS20 := hS20.unb
    refine wl rfl (bsS (r := rGExpr) (l := ([y6.1] : List GExpr)) (css := [(cGExpr y6.1 a11 c11)]) hS20 underlying56 sizeOf99 zeroValue99 rfl rfl (by kernel_rfl) rfl ⟨(rGExpr_mk (x := y6.1) h11 : rGExpr.rp _ _ _ _), trivial⟩ rfl rfl fun w20 a13 n2 c13 im21 hS21 => ?_)
    refine pv (r_fa rfl underlying99 rfl sizeOf56 rfl) (wl rfl (st0B (q := 1) hS21 ⟨rfl, rfl⟩ rfl rfl rfl sizeOf56 rfl rfl rfl fun w21 im22 hS22 => ?_))
    refine nil (t_then ?_)
    refine sq2 (rg (pv (r_ldS rfl isAgg99 sizeOf99 rfl (hS22.cells0 (i := 1) ⟨rfl, rfl⟩ (o := 0) rfl) (cs := [iv y5.1.Kind, iv y5.1.Pos.Line, iv y5.1.Pos.Col, .string ⟨y5.1.Op.toArray⟩, .string ⟨y5.1.Name.toArray⟩, .int .u32 y5.1.Num, .string ⟨y5.1.Type_.Word.toArray⟩, .string ⟨y5.1.Type_.Name.toArray⟩, iv y5.1.Type_.Stars, .slice a13 n2 c13])) (wl rfl (st0B (q := 2) hS22 ⟨rfl, rfl⟩ rfl rfl rfl sizeOf99 rfl rfl rfl fun w22 im23 hS23 => ?_))))
    refine nil (t_then ?_)
    refine rtn (r_blk (r_then (retD cf115 (plainD (args := [pt b2 0]) Tryz.func115 rfl Tryz.ntmps115 rfl rfl fun J => ?_))))
    refine rg (pv (r_ld rfl isAgg41 (hS23.cell0 (i := 4) ⟨rfl, rfl⟩ (j := 0) rfl)) (pv (r_nc rfl) (pv (r_fa rfl underlying43 rfl sizeOf3 rfl) (pv (r_ld rfl isAgg3 (hS23.cellB (i := 5) ⟨rfl, rfl⟩ hL_p0 (j := 3) rfl)) (pv (r_ib rfl rfl rfl) (pv (r_nc rfl) (pv (r_fa rfl underlying43 rfl sizeOf3 rfl) (wl rfl (stB (q := 5) (j := 3) hS23 ⟨rfl, rfl⟩ hL_p0 rfl rfl rfl sizeOf3 rfl rfl rfl fun w23 im24 hS24 => ?_)))))))))
    obtain ⟨T11, im25, hS25, h13⟩ := hS24.seal 0 ⟨rfl, rfl⟩
    have hsh := h13.len
    subst hsh
    have hm := oI hm; subst hm
    exact nil (endO rfl ⟨_, resN (vs := [.agg #[iv y5.1.Kind, iv y5.1.Pos.Line, iv y5.1.Pos.Col, .string ⟨y5.1.Op.toArray⟩, .string ⟨y5.1.Name.toArray⟩, .int .u32 y5.1.Num, .string ⟨y5.1.Type_.Word.toArray⟩, .string ⟨y5.1.Type_.Name.toArray⟩, iv y5.1.Type_.Stars, .slice a13 (List.length ([y6.1] : List GExpr)) c13]]) rfl ⟨rvS rfl isAgg99 sizeOf99 rfl (hS25.bx (i := 2) ⟨rfl, rfl⟩), trivial⟩ rfl, ⟨_, rfl, _, (iT im1 (iT im2 (iT im3 (iT im4 (iT im16 (iT im17 (iT im18 (iT im19 (iT im20 (iT im21 (iT im22 (iT im23 (iT im24 im25))))))))))))), ⟨_, _, _, _, rfl, hS25.sel [3, 5] rfl, h13, (h12.mono (iT im21 (iT im22 (iT im23 (iT im24 im25))))), trivial⟩⟩⟩)
  have hm := cfalse hb7 hm
  refine skp (t_blk (t_then ?_))
  refine sq2 (sq2 ?_)
  obtain ⟨y7, hx7, hm⟩ := bindS hm
  refine rg (pv (r_mp rfl) (wl rfl (calS cf59 rfl (tree_reader_pos_sim (p0 := y1) (H_p0 := H_p0) (hS16.bun [0, 1, 2] [3] rfl) hL_p0 (h2.mono (iT im3 (iT im4 im16))) hx7) rfl fun v9 T13 w26 im28 rv9 => ?_)))
  obtain ⟨rfl, hS28, _⟩ := rv9
  have hS28 := hS28.unb
  refine wl rfl (alS (zs := [iv 0, iv 0]) zeroValue29 rfl hS28 fun w27 b5 im29 hS29 => ?_)
  refine wl rfl (st0B (q := 0) hS29 ⟨rfl, rfl⟩ rfl rfl rfl sizeOf29 rfl rfl rfl fun w28 im30 hS30 => ?_)
  refine nil (t_then ?_)
  refine sq2 ?_
  obtain ⟨y8, hx8, hm⟩ := bindS hm
  refine rg (pv (r_mp rfl) (wl rfl (calS cf82 rfl (tree_reader_take_sim (p0 := y1) (H_p0 := H_p0) (p1 := ([115, 105, 122, 101, 111, 102] : List UInt8)) (hS30.bun [0, 1, 2, 3] [4] rfl) hL_p0 (h2.mono (iT im3 (iT im4 (iT im16 (iT im28 (iT im29 im30)))))) hx8) rfl fun v10 T14 w29 im31 rv10 => ?_)))
  obtain ⟨a15, c15, rfl, hS31, h15, _⟩ := rv10
  have hS31 := hS31.unb
  refine nil (t_then ?_)
  refine cnd rfl (fun hb8 => ?_) (fun hb8 => ?_)
  · have hm := ctrue hb8 hm
    refine sq2 (rg (pv (r_mp rfl) (?_)))
    obtain ⟨y9, hx9, hm⟩ := bindS hm
    rcases y9 with e5 | y9
    · have hm := exC_error hm
      refine wl rfl (calP cf62 rfl (tree_reader_must_sim (p0 := y8.2) (H_p0 := H_p0) (p1 := ([40] : List UInt8)) (hS31.bun [0, 1, 2, 3] [4] rfl) hL_p0 h15 hx9) rfl fun v17 T21 w43 im45 rv17 => ?_)
      obtain ⟨a22, c22, rfl, hS45, h22, _⟩ := rv17
      have hS45 := hS45.unb
      refine p_then (p_then (panD2 cf115 (plainD (args := [pt b2 0]) Tryz.func115 rfl Tryz.ntmps115 rfl rfl fun J => ?_)))
      refine rg (pv (r_ld rfl isAgg41 (hS45.cell0 (i := 3) ⟨rfl, rfl⟩ (j := 0) rfl)) (pv (r_nc rfl) (pv (r_fa rfl underlying43 rfl sizeOf3 rfl) (pv (r_ld rfl isAgg3 (hS45.cellB (i := 4) ⟨rfl, rfl⟩ hL_p0 (j := 3) rfl)) (pv (r_ib rfl rfl rfl) (pv (r_nc rfl) (pv (r_fa rfl underlying43 rfl sizeOf3 rfl) (wl rfl (stB (q := 4) (j := 3) hS45 ⟨rfl, rfl⟩ hL_p0 rfl rfl rfl sizeOf3 rfl rfl rfl fun w44 im46 hS46 => ?_)))))))))
      have hm := oI hm; subst hm
      exact nil (endO rfl ⟨_, rfl, _, (iT im1 (iT im2 (iT im3 (iT im4 (iT im16 (iT im28 (iT im29 (iT im30 (iT im31 (iT im45 im46)))))))))), ⟨_, _, rfl, hS46.sel [2, 4] rfl, (h22.mono im46), trivial⟩⟩)
    have hm := exC_ok hm
    refine wl rfl (calS cf62 rfl (tree_reader_must_sim (p0 := y8.2) (H_p0 := H_p0) (p1 := ([40] : List UInt8)) (hS31.bun [0, 1, 2, 3] [4] rfl) hL_p0 h15 hx9) rfl fun v11 T15 w30 im32 rv11 => ?_)
    obtain ⟨a16, c16, rfl, hS32, h16, _⟩ := rv11
    have hS32 := hS32.unb
    refine nil (t_then ?_)
    refine sq2 (rtP [1, 0, 2, 0, 2, 2] [0, 1, 2, 3, 4, 5] mix (by kernel_rfl) hS32.lt (pq_then (pq_then (pq_bodyD (rs := [.cell 2 99]) rfl (by kernel_rfl)))) fun w31 i1 => ?_)
    have im33 := i1.imm
    have hS33 := hS32.keep i1 (fun _ h => h)
    refine t1 rfl trivial (r_ldS rfl isAgg29 sizeOf29 rfl (hS33.cells0 (i := 0) ⟨rfl, rfl⟩ (o := 0) rfl) (cs := [iv y7.Line, iv y7.Col])) rfl (t0 rfl trivial (fun _ => r_mp rfl) rfl (?_))
    obtain ⟨y10, hx10, hm⟩ := bindS hm
    rcases y10 with e3 | y10
    · have hm := exC_error hm
      refine tw [2, 4] rfl (wt_of rfl rfl trivial) rfl (by kernel_rfl) (by kernel_rfl) ⟨br [3, 4, 5] [(0, .agg #[iv y7.Line, iv y7.Col])] rfl (by kernel_rfl) (by kernel_rfl) trivial (by kernel_rfl) (calP cf65 rfl (tree_reader_typeName_sim (p0 := y9) (H_p0 := H_p0) (hS33.bun [1, 2, 3, 0] [4] rfl) hL_p0 (h16.mono im33) hx10) rfl fun v16 T20 w41 im43 rv16 => ?_), br [2, 3, 5] [(0, .agg #[iv y7.Line, iv y7.Col])] rfl (by kernel_rfl) (by kernel_rfl) trivial (by kernel_rfl) (alS (zs := [iv 0, iv 0, iv 0, .string ⟨([] : List UInt8).toArray⟩, .string ⟨([] : List UInt8).toArray⟩, .int .u32 0, .string ⟨([] : List UInt8).toArray⟩, .string ⟨([] : List UInt8).toArray⟩, iv 0, .slice none 0 0]) zeroValue99 rfl hS33 fun w40 b7 im42 hS42 => ?_), trivial⟩
      · obtain ⟨a21, c21, rfl, hS43, h21, _⟩ := rv16
        have hS43 := hS43.unb
        refine p_then (p_then (panD2 cf115 (plainD (args := [pt b2 0]) Tryz.func115 rfl Tryz.ntmps115 rfl rfl fun J => ?_)))
        refine rg (pv (r_ld rfl isAgg41 (hS43.cell0 (i := 2) ⟨rfl, rfl⟩ (j := 0) rfl)) (pv (r_nc rfl) (pv (r_fa rfl underlying43 rfl sizeOf3 rfl) (pv (r_ld rfl isAgg3 (hS43.cellB (i := 4) ⟨rfl, rfl⟩ hL_p0 (j := 3) rfl)) (pv (r_ib rfl rfl rfl) (pv (r_nc rfl) (pv (r_fa rfl underlying43 rfl sizeOf3 rfl) (wl rfl (stB (q := 4) (j := 3) hS43 ⟨rfl, rfl⟩ hL_p0 rfl rfl rfl sizeOf3 rfl rfl rfl fun w42 im44 hS44 => ?_)))))))))
        have hm := oI hm; subst hm
        exact nil (endO rfl ⟨_, rfl, _, (iT im1 (iT im2 (iT im3 (iT im4 (iT im16 (iT im28 (iT im29 (iT im30 (iT im31 (iT im32 (iT im33 (iT im43 im44)))))))))))), ⟨_, _, rfl, hS44.sel [1, 4] rfl, (h21.mono im44), trivial⟩⟩)
      refine ⟨st1 rfl (r_ldS rfl isAgg29 sizeOf29 rfl (hS42.cells0 (i := 1) ⟨rfl, rfl⟩ (o := 0) rfl) (cs := [iv y7.Line, iv y7.Col])) (st0), ?_⟩
      refine tw [2] rfl (wt_of rfl rfl trivial) rfl (by kernel_rfl) (by kernel_rfl) ⟨br [3, 5] [(0, .agg #[iv y7.Line, iv y7.Col])] rfl (by kernel_rfl) (by kernel_rfl) trivial (by kernel_rfl) (calP cf65 rfl (tree_reader_typeName_sim (p0 := y9) (H_p0 := H_p0) (hS42.bun [0, 2, 3, 4, 1] [5] rfl) hL_p0 (h16.mono (iT im33 im42)) hx10) rfl fun v16 T20 w42 im44 rv16 => ?_), trivial⟩
      obtain ⟨a21, c21, rfl, hS44, h21, _⟩ := rv16
      have hS44 := hS44.unb
      refine p_then (p_then (panD2 cf115 (plainD (args := [pt b2 0]) Tryz.func115 rfl Tryz.ntmps115 rfl rfl fun J => ?_)))
      refine rg (pv (r_ld rfl isAgg41 (hS44.cell0 (i := 3) ⟨rfl, rfl⟩ (j := 0) rfl)) (pv (r_nc rfl) (pv (r_fa rfl underlying43 rfl sizeOf3 rfl) (pv (r_ld rfl isAgg3 (hS44.cellB (i := 5) ⟨rfl, rfl⟩ hL_p0 (j := 3) rfl)) (pv (r_ib rfl rfl rfl) (pv (r_nc rfl) (pv (r_fa rfl underlying43 rfl sizeOf3 rfl) (wl rfl (stB (q := 5) (j := 3) hS44 ⟨rfl, rfl⟩ hL_p0 rfl rfl rfl sizeOf3 rfl rfl rfl fun w43 im45 hS45 => ?_)))))))))
      have hm := oI hm; subst hm
      exact nil (endO rfl ⟨_, rfl, _, (iT im1 (iT im2 (iT im3 (iT im4 (iT im16 (iT im28 (iT im29 (iT im30 (iT im31 (iT im32 (iT im33 (iT im42 (iT im44 im45))))))))))))), ⟨_, _, rfl, hS45.sel [2, 5] rfl, (h21.mono im45), trivial⟩⟩)
    have hm := exC_ok hm
    refine tw [2, 4] rfl (wt_of rfl rfl trivial) rfl (by kernel_rfl) (by kernel_rfl) ⟨br [3, 4, 5] [(0, .agg #[iv y7.Line, iv y7.Col])] rfl (by kernel_rfl) (by kernel_rfl) trivial (by kernel_rfl) (calS cf65 rfl (tree_reader_typeName_sim (p0 := y9) (H_p0 := H_p0) (hS33.bun [1, 2, 3, 0] [4] rfl) hL_p0 (h16.mono im33) hx10) rfl fun v12 T16 w32 im34 rv12 => ?_), br [2, 3, 5] [(0, .agg #[iv y7.Line, iv y7.Col])] rfl (by kernel_rfl) (by kernel_rfl) trivial (by kernel_rfl) (alS (zs := [iv 0, iv 0, iv 0, .string ⟨([] : List UInt8).toArray⟩, .string ⟨([] : List UInt8).toArray⟩, .int .u32 0, .string ⟨([] : List UInt8).toArray⟩, .string ⟨([] : List UInt8).toArray⟩, iv 0, .slice none 0 0]) zeroValue99 rfl hS33 fun w32 b6 im34 hS34 => ?_), trivial⟩
    · obtain ⟨a17, c17, rfl, hS34, h17, _⟩ := rv12
      have hS34 := hS34.unb
      refine ⟨st1 rfl (r_ldS rfl isAgg29 sizeOf29 rfl (hS34.cells0 (i := 3) ⟨rfl, rfl⟩ (o := 0) rfl) (cs := [iv y7.Line, iv y7.Col])) (st0), ?_⟩
      refine t0 rfl trivial (fun _ => r_bd (by kernel_rfl) rfl (u := .agg #[iv 12, iv y7.Line, iv y7.Col, .string ⟨([] : List UInt8).toArray⟩, .string ⟨([] : List UInt8).toArray⟩, .int .u32 0, .string ⟨y10.1.Word.toArray⟩, .string ⟨y10.1.Name.toArray⟩, iv y10.1.Stars, .slice none 0 0])) rfl (tw [4] rfl (wt_of rfl rfl trivial) rfl (by kernel_rfl) (by kernel_rfl) ⟨br [5] [(0, .agg #[iv y7.Line, iv y7.Col])] rfl (by kernel_rfl) (by kernel_rfl) trivial (by kernel_rfl) (alS (zs := [iv 0, iv 0, iv 0, .string ⟨([] : List UInt8).toArray⟩, .string ⟨([] : List UInt8).toArray⟩, .int .u32 0, .string ⟨([] : List UInt8).toArray⟩, .string ⟨([] : List UInt8).toArray⟩, iv 0, .slice none 0 0]) zeroValue99 rfl hS34 fun w33 b6 im35 hS35 => ?_), trivial⟩)
      refine ⟨st1 rfl (r_ldS rfl isAgg29 sizeOf29 rfl (hS35.cells0 (i := 4) ⟨rfl, rfl⟩ (o := 0) rfl) (cs := [iv y7.Line, iv y7.Col])) (st0), ?_⟩
      refine tw [5] rfl (wt_of rfl rfl trivial) rfl (by kernel_rfl) (by kernel_rfl) ⟨br [] [] rfl (by kernel_rfl) (by kernel_rfl) trivial (by kernel_rfl) (st0B (q := 0) hS35 ⟨rfl, rfl⟩ rfl rfl rfl sizeOf99 rfl rfl rfl fun w34 im36 hS36 => ?_), trivial⟩
      refine ⟨st0, ?_⟩
      refine teP (t_then ?_)
      refine sq2 (rg (pv (r_mp rfl) (?_)))
      obtain ⟨y11, hx11, hm⟩ := bindS hm
      rcases y11 with e4 | y11
      · have hm := exC_error hm
        refine wl rfl (calP cf62 rfl (tree_reader_must_sim (p0 := y10.2) (H_p0 := H_p0) (p1 := ([41] : List UInt8)) (hS36.bun [0, 1, 2, 3] [5] rfl) hL_p0 (h17.mono (iT im35 im36)) hx11) rfl fun v14 T18 w38 im40 rv14 => ?_)
        obtain ⟨a19, c19, rfl, hS40, h19, _⟩ := rv14
        have hS40 := hS40.unb
        refine p_then (p_then (panD2 cf115 (plainD (args := [pt b2 0]) Tryz.func115 rfl Tryz.ntmps115 rfl rfl fun J => ?_)))
        refine rg (pv (r_ld rfl isAgg41 (hS40.cell0 (i := 3) ⟨rfl, rfl⟩ (j := 0) rfl)) (pv (r_nc rfl) (pv (r_fa rfl underlying43 rfl sizeOf3 rfl) (pv (r_ld rfl isAgg3 (hS40.cellB (i := 4) ⟨rfl, rfl⟩ hL_p0 (j := 3) rfl)) (pv (r_ib rfl rfl rfl) (pv (r_nc rfl) (pv (r_fa rfl underlying43 rfl sizeOf3 rfl) (wl rfl (stB (q := 4) (j := 3) hS40 ⟨rfl, rfl⟩ hL_p0 rfl rfl rfl sizeOf3 rfl rfl rfl fun w39 im41 hS41 => ?_)))))))))
        have hm := oI hm; subst hm
        exact nil (endO rfl ⟨_, rfl, _, (iT im1 (iT im2 (iT im3 (iT im4 (iT im16 (iT im28 (iT im29 (iT im30 (iT im31 (iT im32 (iT im33 (iT im34 (iT im35 (iT im36 (iT im40 im41))))))))))))))), ⟨_, _, rfl, hS41.sel [2, 4] rfl, (h19.mono im41), trivial⟩⟩)
      have hm := exC_ok hm
      refine wl rfl (calS cf62 rfl (tree_reader_must_sim (p0 := y10.2) (H_p0 := H_p0) (p1 := ([41] : List UInt8)) (hS36.bun [0, 1, 2, 3] [5] rfl) hL_p0 (h17.mono (iT im35 im36)) hx11) rfl fun v13 T17 w35 im37 rv13 => ?_)
      obtain ⟨a18, c18, rfl, hS37, h18, _⟩ := rv13
      have hS37 := hS37.unb
      refine nil (t_then ?_)
      refine sq2 (rg (pv (r_ldS rfl isAgg99 sizeOf99 rfl (hS37.cells0 (i := 0) ⟨rfl, rfl⟩ (o := 0) rfl) (cs := [iv 12, iv y7.Line, iv y7.Col, .string ⟨([] : List UInt8).toArray⟩, .string ⟨([] : List UInt8).toArray⟩, .int .u32 0, .string ⟨y10.1.Word.toArray⟩, .string ⟨y10.1.Name.toArray⟩, iv y10.1.Stars, .slice none 0 0])) (wl rfl (st0B (q := 1) hS37 ⟨rfl, rfl⟩ rfl rfl rfl sizeOf99 rfl rfl rfl fun w36 im38 hS38 => ?_))))
      refine nil (t_then ?_)
      refine rtn (r_then (retD cf115 (plainD (args := [pt b2 0]) Tryz.func115 rfl Tryz.ntmps115 rfl rfl fun J => ?_)))
      refine rg (pv (r_ld rfl isAgg41 (hS38.cell0 (i := 3) ⟨rfl, rfl⟩ (j := 0) rfl)) (pv (r_nc rfl) (pv (r_fa rfl underlying43 rfl sizeOf3 rfl) (pv (r_ld rfl isAgg3 (hS38.cellB (i := 4) ⟨rfl, rfl⟩ hL_p0 (j := 3) rfl)) (pv (r_ib rfl rfl rfl) (pv (r_nc rfl) (pv (r_fa rfl underlying43 rfl sizeOf3 rfl) (wl rfl (stB (q := 4) (j := 3) hS38 ⟨rfl, rfl⟩ hL_p0 rfl rfl rfl sizeOf3 rfl rfl rfl fun w37 im39 hS39 => ?_)))))))))
      have hm := oI hm; subst hm
      exact nil (endO rfl ⟨_, resN (vs := [.agg #[iv 12, iv y7.Line, iv y7.Col, .string ⟨([] : List UInt8).toArray⟩, .string ⟨([] : List UInt8).toArray⟩, .int .u32 0, .string ⟨y10.1.Word.toArray⟩, .string ⟨y10.1.Name.toArray⟩, iv y10.1.Stars, .slice none 0 0]]) rfl ⟨rvS rfl isAgg99 sizeOf99 rfl (hS39.bx (i := 1) ⟨rfl, rfl⟩), trivial⟩ rfl, ⟨_, rfl, _, (iT im1 (iT im2 (iT im3 (iT im4 (iT im16 (iT im28 (iT im29 (iT im30 (iT im31 (iT im32 (iT im33 (iT im34 (iT im35 (iT im36 (iT im37 (iT im38 im39)))))))))))))))), ⟨_, _, _, _, rfl, hS39.sel [2, 4] rfl, SlR_nil, (h18.mono (iT im38 im39)), trivial⟩⟩⟩)
    refine ⟨st1 rfl (r_ldS rfl isAgg29 sizeOf29 rfl (hS34.cells0 (i := 1) ⟨rfl, rfl⟩ (o := 0) rfl) (cs := [iv y7.Line, iv y7.Col])) (st0), ?_⟩
    refine tw [2] rfl (wt_of rfl rfl trivial) rfl (by kernel_rfl) (by kernel_rfl) ⟨br [3, 5] [(0, .agg #[iv y7.Line, iv y7.Col])] rfl (by kernel_rfl) (by kernel_rfl) trivial (by kernel_rfl) (calS cf65 rfl (tree_reader_typeName_sim (p0 := y9) (H_p0 := H_p0) (hS34.bun [0, 2, 3, 4, 1] [5] rfl) hL_p0 (h16.mono (iT im33 im34)) hx10) rfl fun v12 T16 w33 im35 rv12 => ?_), trivial⟩
    obtain ⟨a17, c17, rfl, hS35, h17, _⟩ := rv12
    have hS35 := hS35.unb
    refine ⟨st1 rfl (r_ldS rfl isAgg29 sizeOf29 rfl (hS35.cells0 (i := 4) ⟨rfl, rfl⟩ (o := 0) rfl) (cs := [iv y7.Line, iv y7.Col])) (st0), ?_⟩
    refine t0 rfl trivial (fun _ => r_bd (by kernel_rfl) rfl (u := .agg #[iv 12, iv y7.Line, iv y7.Col, .string ⟨([] : List UInt8).toArray⟩, .string ⟨([] : List UInt8).toArray⟩, .int .u32 0, .string ⟨y10.1.Word.toArray⟩, .string ⟨y10.1.Name.toArray⟩, iv y10.1.Stars, .slice none 0 0])) rfl (tw [5] rfl (wt_of rfl rfl trivial) rfl (by kernel_rfl) (by kernel_rfl) ⟨br [] [] rfl (by kernel_rfl) (by kernel_rfl) trivial (by kernel_rfl) (st0B (q := 0) hS35 ⟨rfl, rfl⟩ rfl rfl rfl sizeOf99 rfl rfl rfl fun w34 im36 hS36 => ?_), trivial⟩)
    refine ⟨st0, ?_⟩
    refine teP (t_then ?_)
    refine sq2 (rg (pv (r_mp rfl) (?_)))
    obtain ⟨y11, hx11, hm⟩ := bindS hm
    rcases y11 with e4 | y11
    · have hm := exC_error hm
      refine wl rfl (calP cf62 rfl (tree_reader_must_sim (p0 := y10.2) (H_p0 := H_p0) (p1 := ([41] : List UInt8)) (hS36.bun [0, 1, 2, 3] [5] rfl) hL_p0 (h17.mono im36) hx11) rfl fun v14 T18 w38 im40 rv14 => ?_)
      obtain ⟨a19, c19, rfl, hS40, h19, _⟩ := rv14
      have hS40 := hS40.unb
      refine p_then (p_then (panD2 cf115 (plainD (args := [pt b2 0]) Tryz.func115 rfl Tryz.ntmps115 rfl rfl fun J => ?_)))
      refine rg (pv (r_ld rfl isAgg41 (hS40.cell0 (i := 3) ⟨rfl, rfl⟩ (j := 0) rfl)) (pv (r_nc rfl) (pv (r_fa rfl underlying43 rfl sizeOf3 rfl) (pv (r_ld rfl isAgg3 (hS40.cellB (i := 4) ⟨rfl, rfl⟩ hL_p0 (j := 3) rfl)) (pv (r_ib rfl rfl rfl) (pv (r_nc rfl) (pv (r_fa rfl underlying43 rfl sizeOf3 rfl) (wl rfl (stB (q := 4) (j := 3) hS40 ⟨rfl, rfl⟩ hL_p0 rfl rfl rfl sizeOf3 rfl rfl rfl fun w39 im41 hS41 => ?_)))))))))
      have hm := oI hm; subst hm
      exact nil (endO rfl ⟨_, rfl, _, (iT im1 (iT im2 (iT im3 (iT im4 (iT im16 (iT im28 (iT im29 (iT im30 (iT im31 (iT im32 (iT im33 (iT im34 (iT im35 (iT im36 (iT im40 im41))))))))))))))), ⟨_, _, rfl, hS41.sel [2, 4] rfl, (h19.mono im41), trivial⟩⟩)
    have hm := exC_ok hm
    refine wl rfl (calS cf62 rfl (tree_reader_must_sim (p0 := y10.2) (H_p0 := H_p0) (p1 := ([41] : List UInt8)) (hS36.bun [0, 1, 2, 3] [5] rfl) hL_p0 (h17.mono im36) hx11) rfl fun v13 T17 w35 im37 rv13 => ?_)
    obtain ⟨a18, c18, rfl, hS37, h18, _⟩ := rv13
    have hS37 := hS37.unb
    refine nil (t_then ?_)
    refine sq2 (rg (pv (r_ldS rfl isAgg99 sizeOf99 rfl (hS37.cells0 (i := 0) ⟨rfl, rfl⟩ (o := 0) rfl) (cs := [iv 12, iv y7.Line, iv y7.Col, .string ⟨([] : List UInt8).toArray⟩, .string ⟨([] : List UInt8).toArray⟩, .int .u32 0, .string ⟨y10.1.Word.toArray⟩, .string ⟨y10.1.Name.toArray⟩, iv y10.1.Stars, .slice none 0 0])) (wl rfl (st0B (q := 1) hS37 ⟨rfl, rfl⟩ rfl rfl rfl sizeOf99 rfl rfl rfl fun w36 im38 hS38 => ?_))))
    refine nil (t_then ?_)
    refine rtn (r_then (retD cf115 (plainD (args := [pt b2 0]) Tryz.func115 rfl Tryz.ntmps115 rfl rfl fun J => ?_)))
    refine rg (pv (r_ld rfl isAgg41 (hS38.cell0 (i := 3) ⟨rfl, rfl⟩ (j := 0) rfl)) (pv (r_nc rfl) (pv (r_fa rfl underlying43 rfl sizeOf3 rfl) (pv (r_ld rfl isAgg3 (hS38.cellB (i := 4) ⟨rfl, rfl⟩ hL_p0 (j := 3) rfl)) (pv (r_ib rfl rfl rfl) (pv (r_nc rfl) (pv (r_fa rfl underlying43 rfl sizeOf3 rfl) (wl rfl (stB (q := 4) (j := 3) hS38 ⟨rfl, rfl⟩ hL_p0 rfl rfl rfl sizeOf3 rfl rfl rfl fun w37 im39 hS39 => ?_)))))))))
    have hm := oI hm; subst hm
    exact nil (endO rfl ⟨_, resN (vs := [.agg #[iv 12, iv y7.Line, iv y7.Col, .string ⟨([] : List UInt8).toArray⟩, .string ⟨([] : List UInt8).toArray⟩, .int .u32 0, .string ⟨y10.1.Word.toArray⟩, .string ⟨y10.1.Name.toArray⟩, iv y10.1.Stars, .slice none 0 0]]) rfl ⟨rvS rfl isAgg99 sizeOf99 rfl (hS39.bx (i := 1) ⟨rfl, rfl⟩), trivial⟩ rfl, ⟨_, rfl, _, (iT im1 (iT im2 (iT im3 (iT im4 (iT im16 (iT im28 (iT im29 (iT im30 (iT im31 (iT im32 (iT im33 (iT im34 (iT im35 (iT im36 (iT im37 (iT im38 im39)))))))))))))))), ⟨_, _, _, _, rfl, hS39.sel [2, 4] rfl, SlR_nil, (h18.mono (iT im38 im39)), trivial⟩⟩⟩)
  have hm := cfalse hb8 hm
  refine skp (t_then ?_)
  refine sq2 (rg (pv (r_mp rfl) (?_)))
  obtain ⟨y12, hx12, hm⟩ := bindS hm
  rcases y12 with e6 | y12
  · have hm := exC_error hm
    refine wl rfl (calP cf126 rfl (hG.tree_reader_post (p0 := y8.2) (H_p0 := H_p0) (hS31.bun [1, 2, 3] [4] rfl) hL_p0 h15 hx12) rfl fun v19 T23 w48 im50 rv19 => ?_)
    obtain ⟨a25, c25, rfl, hS50, h25, _⟩ := rv19
    have hS50 := hS50.unb
    refine p_then (panD2 cf115 (plainD (args := [pt b2 0]) Tryz.func115 rfl Tryz.ntmps115 rfl rfl fun J => ?_))
    refine rg (pv (r_ld rfl isAgg41 (hS50.cell0 (i := 2) ⟨rfl, rfl⟩ (j := 0) rfl)) (pv (r_nc rfl) (pv (r_fa rfl underlying43 rfl sizeOf3 rfl) (pv (r_ld rfl isAgg3 (hS50.cellB (i := 3) ⟨rfl, rfl⟩ hL_p0 (j := 3) rfl)) (pv (r_ib rfl rfl rfl) (pv (r_nc rfl) (pv (r_fa rfl underlying43 rfl sizeOf3 rfl) (wl rfl (stB (q := 3) (j := 3) hS50 ⟨rfl, rfl⟩ hL_p0 rfl rfl rfl sizeOf3 rfl rfl rfl fun w49 im51 hS51 => ?_)))))))))
    have hm := oI hm; subst hm
    exact nil (endO rfl ⟨_, rfl, _, (iT im1 (iT im2 (iT im3 (iT im4 (iT im16 (iT im28 (iT im29 (iT im30 (iT im31 (iT im50 im51)))))))))), ⟨_, _, rfl, hS51.sel [1, 3] rfl, (h25.mono im51), trivial⟩⟩)
  have hm := exC_ok hm
  refine wl rfl (calS cf126 rfl (hG.tree_reader_post (p0 := y8.2) (H_p0 := H_p0) (hS31.bun [1, 2, 3] [4] rfl) hL_p0 h15 hx12) rfl fun v18 T22 w45 im47 rv18 => ?_)
  obtain ⟨a23, c23, a24, c24, rfl, hS47, h23, h24, _⟩ := rv18
  have hS47 := hS47.unb
  refine wl rfl (st0B (q := 0) hS47 ⟨rfl, rfl⟩ rfl rfl rfl sizeOf99 rfl rfl rfl fun w46 im48 hS48 => ?_)
  refine nil (t_then ?_)
  refine rtn (retD cf115 (plainD (args := [pt b2 0]) Tryz.func115 rfl Tryz.ntmps115 rfl rfl fun J => ?_))
  refine rg (pv (r_ld rfl isAgg41 (hS48.cell0 (i := 2) ⟨rfl, rfl⟩ (j := 0) rfl)) (pv (r_nc rfl) (pv (r_fa rfl underlying43 rfl sizeOf3 rfl) (pv (r_ld rfl isAgg3 (hS48.cellB (i := 3) ⟨rfl, rfl⟩ hL_p0 (j := 3) rfl)) (pv (r_ib rfl rfl rfl) (pv (r_nc rfl) (pv (r_fa rfl underlying43 rfl sizeOf3 rfl) (wl rfl (stB (q := 3) (j := 3) hS48 ⟨rfl, rfl⟩ hL_p0 rfl rfl rfl sizeOf3 rfl rfl rfl fun w47 im49 hS49 => ?_)))))))))
  have hm := oI hm; subst hm
  exact nil (endO rfl ⟨_, resN (vs := [.agg (cGExpr y12.1 a23 c23).toArray]) rfl ⟨rvS rfl isAgg99 sizeOf99 rfl (hS49.bx (i := 0) ⟨rfl, rfl⟩), trivial⟩ rfl, ⟨_, rfl, _, (iT im1 (iT im2 (iT im3 (iT im4 (iT im16 (iT im28 (iT im29 (iT im30 (iT im31 (iT im47 (iT im48 im49))))))))))), ⟨_, _, _, _, rfl, hS49.sel [1, 3] rfl, (h23.mono (iT im48 im49)), (h24.mono (iT im48 im49)), trivial⟩⟩⟩)
theorem tree_reader_binary_st {G : Rec1} (hG : Sp1 G) {g : World} {T0 : TP} {w0 : World} {R : Assn} {p0 : TreeReader} {b_p0 o_p0 : Nat} {H_p0 : List Value → Assn} {a1 : OA} {c1 : Nat} {p1 : Int} {r : Except (TreeRefused × TreeReader) (GExpr × TreeReader)} (hS : Sep g T0 w0 [R, H_p0 [sv a1 p0.l c1, iv p0.end_.Line, iv p0.end_.Col, iv p0.depth]]) (hL_p0 : Ln b_p0 o_p0 H_p0) (h1 : SlR rGToken T0 w0 (sv a1 p0.l c1) p0.l) (hm : tree_reader_binary_b G p0 p1 = some r) :
    Calls Tryz.prog 116 #[pt b_p0 o_p0, iv p1] w0 (exR r (fun r => RetS T0 w0 fun T w v => ∃ (a13 : OA) (c13 : Nat) (a14 : OA) (c14 : Nat), v = .agg (cGExpr r.1 a13 c13).toArray ∧ Sep g T w [R, H_p0 [sv a14 r.2.l c14, iv r.2.end_.Line, iv r.2.end_.Col, iv r.2.depth]] ∧ SlR rGExpr T w (sv a13 r.1.Kids c13) r.1.Kids ∧ SlR rGToken T w (sv a14 r.2.l c14) r.2.l ∧ True) (fun r => PanS T0 w0 fun T w v => ∃ (a13 : OA) (c13 : Nat), v = .iface 48 (.agg (cTreeRefused r.1).toArray) ∧ Sep g T w [R, H_p0 [sv a13 r.2.l c13, iv r.2.end_.Line, iv r.2.end_.Col, iv r.2.depth]] ∧ SlR rGToken T w (sv a13 r.2.l c13) r.2.l ∧ True)) := by
  refine enter (args := [pt b_p0 o_p0, iv p1]) Tryz.func116 rfl Tryz.ntmps116 rfl fun J => ?_
  unfold tree_reader_binary_b at hm
  refine sq2 (rg (wl rfl (alS (zs := [iv 0, iv 0, iv 0, .string ⟨([] : List UInt8).toArray⟩, .string ⟨([] : List UInt8).toArray⟩, .int .u32 0, .string ⟨([] : List UInt8).toArray⟩, .string ⟨([] : List UInt8).toArray⟩, iv 0, .slice none 0 0]) zeroValue99 rfl hS fun w1 b1 im1 hS1 => ?_)))
  refine nil (t_then ?_)
  refine sq2 (rg (pv (r_mp rfl) (?_)))
  obtain ⟨y1, hx1, hm⟩ := bindS hm
  rcases y1 with e2 | y1
  · have hm := exC_error hm
    refine wl rfl (calP cf122 rfl (hG.tree_reader_unary (p0 := p0) (H_p0 := H_p0) (hS1.bun [0, 1] [2] rfl) hL_p0 (h1.mono im1) hx1) rfl fun v7 T9 w19 im20 rv7 => ?_)
    obtain ⟨a12, c12, rfl, hS20, h12, _⟩ := rv7
    have hS20 := hS20.unb
    have hm := oI hm; subst hm
    exact p_then (panE ⟨_, rfl, _, (iT im1 im20), ⟨_, _, rfl, hS20.sel [1, 2] rfl, h12, trivial⟩⟩)
  have hm := exC_ok hm
  refine wl rfl (calS cf122 rfl (hG.tree_reader_unary (p0 := p0) (H_p0 := H_p0) (hS1.bun [0, 1] [2] rfl) hL_p0 (h1.mono im1) hx1) rfl fun v1 T1 w2 im2 rv1 => ?_)
  obtain ⟨a2, c2, a3, c3, rfl, hS2, h2, h3, _⟩ := rv1
  have hS2 := hS2.unb
  refine wl rfl (alS (zs := [iv 0, iv 0, iv 0, .string ⟨([] : List UInt8).toArray⟩, .string ⟨([] : List UInt8).toArray⟩, .int .u32 0, .string ⟨([] : List UInt8).toArray⟩, .string ⟨([] : List UInt8).toArray⟩, iv 0, .slice none 0 0]) zeroValue99 rfl hS2 fun w3 b2 im3 hS3 => ?_)
  refine wl rfl (st0B (q := 0) hS3 ⟨rfl, rfl⟩ rfl rfl rfl sizeOf99 rfl rfl rfl fun w4 im4 hS4 => ?_)
  refine nil (t_then ?_)
  obtain ⟨o1, ho1, hq1⟩ := bindS hm
  obtain ⟨bd1, hbd1, ho1⟩ := loop_open ho1
  refine blk (wp_loop_ghost (fun m a w5 => ∃ (J : JV) (T2 : TP) (x2 : TreeReader) (x1 : GExpr) (a4 : OA) (c4 : Nat) (a5 : OA) (c5 : Nat), a = env (nf 31) J [(0, pt b_p0 o_p0), (1, iv p1), (4, pt b1 0), (5, pt b2 0)] ∧ Im T1 w4 T2 w5 ∧ Sep g T2 w5 [boxA b2 (cGExpr x1 a4 c4), boxA b1 [iv 0, iv 0, iv 0, .string ⟨([] : List UInt8).toArray⟩, .string ⟨([] : List UInt8).toArray⟩, .int .u32 0, .string ⟨([] : List UInt8).toArray⟩, .string ⟨([] : List UInt8).toArray⟩, iv 0, .slice none 0 0], R, H_p0 [sv a5 x2.l c5, iv x2.end_.Line, iv x2.end_.Col, iv x2.depth]] ∧ SlR rGExpr T2 w5 (sv a4 x1.Kids c4) x1.Kids ∧ SlR rGToken T2 w5 (sv a5 x2.l c5) x2.l ∧ loopM bd1 m (x1, x2) = some o1) NN ⟨_, _, y1.2, y1.1, _, _, _, _, env_has ⟨rfl, rfl, rfl, rfl, trivial⟩, Im.refl, hS4.sel [0, 1, 2, 3] rfl, (h2.mono (iT im3 im4)), (h3.mono (iT im3 im4)), ho1⟩ ?_)
  rintro m _ w5 ⟨J, T2, x2, x1, a4, c4, a5, c5, rfl, im5, hS5, h4, h5, ho1⟩
  obtain ⟨m1, z1, rfl, hm, hn1⟩ := loop_round ho1
  rw [hbd1] at hm
  refine blk (sq2 ?_)
  obtain ⟨y2, hx2, hm⟩ := bindS hm
  refine rg (pv (r_mp rfl) (wl rfl (calS cf101 rfl (tree_reader_mark_sim (p0 := x2) (H_p0 := H_p0) (hS5.bun [0, 1, 2] [3] rfl) hL_p0 h5 hx2) rfl fun v2 T3 w6 im6 rv2 => ?_)))
  obtain ⟨rfl, hS6, _⟩ := rv2
  have hS6 := hS6.unb
  obtain ⟨y3, hx3, hm⟩ := bindS hm
  refine wl rfl (calS cf123 rfl (tree_rank_sim (p0 := y2) (hS6.bun [0, 1, 2, 3] [] rfl)  hx3) rfl fun v3 T4 w7 im7 rv3 => ?_)
  obtain ⟨rfl, hS7, _⟩ := rv3
  have hS7 := hS7.unb
  refine pv (r_zi rfl) (nil (t_then ?_))
  refine sq2 (sq2 (rg (pv (r_mi rfl) (pv (r_mi rfl) (pv (r_ib rfl rfl rfl) (pv (r_mb rfl) (?_)))))))
  rcases Bool.eq_false_or_eq_true (decide (y3 < p1)) with hb1 | hb1
  · have hm := ctrue hb1 hm
    refine gF (d0 := 16) rfl rfl (by rw [hb1]; rfl) (gF (d0 := 16) rfl rfl (by rw [hb1]; rfl) (pv (r_pkt rfl hb1 rfl) (nil (t_then ?_))))
    refine cnd (b := true) rfl (fun _ => ?_) (fun h => nomatch h)
    refine sq2 (rg (pv (r_ldS rfl isAgg99 sizeOf99 rfl (hS7.cells0 (i := 0) ⟨rfl, rfl⟩ (o := 0) rfl) (cs := (cGExpr x1 a4 c4))) (wl rfl (st0B (q := 1) hS7 ⟨rfl, rfl⟩ rfl rfl rfl sizeOf99 rfl rfl rfl fun w18 im19 hS19 => ?_))))
    refine nil (t_then ?_)
    have hm := oI hm; subst hm
    have hn1 : _ = Lp.ret _ := hn1
    subst hn1
    have hm := thn_ret hq1
    have hm := oI hm; subst hm
    exact rtn (r_then (r_blk (r_then (r_blk (retN (vs := [.agg (cGExpr x1 a4 c4).toArray]) rfl ⟨rvS rfl isAgg99 sizeOf99 rfl (hS19.bx (i := 1) ⟨rfl, rfl⟩), trivial⟩ rfl ⟨_, rfl, _, (iT im1 (iT im2 (iT im3 (iT im4 (iT im5 (iT im6 (iT im7 im19))))))), ⟨_, _, _, _, rfl, hS19.sel [2, 3] rfl, (h4.mono (iT im6 (iT im7 im19))), (h5.mono (iT im6 (iT im7 im19))), trivial⟩⟩)))))
  have hm := cfalse hb1 hm
  refine gT (d0 := 16) rfl rfl hb1 (pv (r_mi rfl) (gT (d0 := 16) rfl rfl hb1 (pv (r_ib rfl rfl rfl) (pv (r_pkf rfl hb1 rfl) (nil (t_then ?_))))))
  refine cnd rfl (fun hb2 => ?_) (fun hb2 => ?_)
  · have hm := ctrue hb2 hm
    refine sq2 (rg (pv (r_ldS rfl isAgg99 sizeOf99 rfl (hS7.cells0 (i := 0) ⟨rfl, rfl⟩ (o := 0) rfl) (cs := (cGExpr x1 a4 c4))) (wl rfl (st0B (q := 1) hS7 ⟨rfl, rfl⟩ rfl rfl rfl sizeOf99 rfl rfl rfl fun w8 im8 hS8 => ?_))))
    refine nil (t_then ?_)
    have hm := oI hm; subst hm
    have hn1 : _ = Lp.ret _ := hn1
    subst hn1
    have hm := thn_ret hq1
    have hm := oI hm; subst hm
    exact rtn (r_then (r_blk (r_then (r_blk (retN (vs := [.agg (cGExpr x1 a4 c4).toArray]) rfl ⟨rvS rfl isAgg99 sizeOf99 rfl (hS8.bx (i := 1) ⟨rfl, rfl⟩), trivial⟩ rfl ⟨_, rfl, _, (iT im1 (iT im2 (iT im3 (iT im4 (iT im5 (iT im6 (iT im7 im8))))))), ⟨_, _, _, _, rfl, hS8.sel [2, 3] rfl, (h4.mono (iT im6 (iT im7 im8))), (h5.mono (iT im6 (iT im7 im8))), trivial⟩⟩)))))
  have hm := cfalse hb2 hm
  refine skp (t_then ?_)
  refine sq2 ?_
  obtain ⟨y4, hx4, hm⟩ := bindS hm
  refine rg (pv (r_mp rfl) (wl rfl (calS cf102 rfl (tree_reader_operator_sim (p0 := x2) (H_p0 := H_p0) (p1 := 4) (hS7.bun [0, 1, 2] [3] rfl) hL_p0 (h5.mono (iT im6 im7)) hx4) rfl fun v4 T5 w9 im9 rv4 => ?_)))
  obtain ⟨a6, c6, a7, c7, rfl, hS9, h6, h7, _⟩ := rv4
  have hS9 := hS9.unb
  refine wl rfl (alS (zs := [iv 0, iv 0, iv 0, .string ⟨([] : List UInt8).toArray⟩, .string ⟨([] : List UInt8).toArray⟩, .int .u32 0, .string ⟨([] : List UInt8).toArray⟩, .string ⟨([] : List UInt8).toArray⟩, iv 0, .slice none 0 0]) zeroValue99 rfl hS9 fun w10 b3 im10 hS10 => ?_)
  refine wl rfl (st0B (q := 0) hS10 ⟨rfl, rfl⟩ rfl rfl rfl sizeOf99 rfl rfl rfl fun w11 im11 hS11 => ?_)
  refine nil (t_then ?_)
  refine sq2 (rsP [1, 0, 0, 0, 2, 2, 0, 2] [0, 1, 2, 3, 4, 5, 6, 7] mix (by kernel_rfl) hS11.lt (pq_then (pq_blk (pq_then (pq_blk (pq_body))))) fun w12 i1 => ?_)
  have im12 := i1.imm
  have hS12 := hS11.keep i1 (fun _ h => h)
  refine s1 rfl trivial (r_ldS rfl isAgg99 sizeOf99 rfl (hS12.cells0 (i := 1) ⟨rfl, rfl⟩ (o := 0) rfl) (cs := (cGExpr x1 a4 c4))) rfl (s0 rfl trivial (fun _ => r_mp rfl) rfl (s0 rfl trivial (fun _ => r_mi rfl) rfl (s0 rfl trivial (fun _ => r_ib rfl rfl rfl) rfl (?_))))
  obtain ⟨y5, hx5, hm⟩ := bindS hm
  rcases y5 with e1 | y5
  · have hm := exC_error hm
    refine s2 [(0, .agg (cGExpr x1 a4 c4).toArray)] rfl trivial rfl (by kernel_rfl) (calP cf116 rfl (hG.tree_reader_binary (p0 := y4.2) (H_p0 := H_p0) (p1 := IntKind.wrap .i64 (y3 + 1)) (hS12.bun [0, 1, 2, 3] [4] rfl) hL_p0 (h7.mono (iT im10 (iT im11 im12))) hx5) rfl fun v6 T8 w17 im18 rv6 => ?_)
    obtain ⟨a11, c11, rfl, hS18, h11, _⟩ := rv6
    have hS18 := hS18.unb
    have hm := oI hm; subst hm
    have hn1 : _ = Lp.ret _ := hn1
    subst hn1
    have hm := thn_ret hq1
    have hm := oI hm; subst hm
    exact p_then (p_blk (p_then (p_blk (panE ⟨_, rfl, _, (iT im1 (iT im2 (iT im3 (iT im4 (iT im5 (iT im6 (iT im7 (iT im9 (iT im10 (iT im11 (iT im12 im18))))))))))), ⟨_, _, rfl, hS18.sel [3, 4] rfl, h11, trivial⟩⟩))))
  have hm := exC_ok hm
  refine s2 [(0, .agg (cGExpr x1 a4 c4).toArray)] rfl trivial rfl (by kernel_rfl) (calS cf116 rfl (hG.tree_reader_binary (p0 := y4.2) (H_p0 := H_p0) (p1 := IntKind.wrap .i64 (y3 + 1)) (hS12.bun [0, 1, 2, 3] [4] rfl) hL_p0 (h7.mono (iT im10 (iT im11 im12))) hx5) rfl fun v5 T6 w13 im13 rv5 => ?_)
  obtain ⟨a8, c8, a9, c9, rfl, hS13, h8, h9, _⟩ := rv5
  have hS13 := hS13.unb
  refine ⟨st1 rfl (r_ldS rfl isAgg99 sizeOf99 rfl (hS13.cells0 (i := 1) ⟨rfl, rfl⟩ (o := 0) rfl) (cs := (cGExpr x1 a4 c4))) (st0), ?_⟩
  refine s2 [] rfl trivial rfl (by kernel_rfl) (bsS (r := rGExpr) (l := ([x1, y5.1] : List GExpr)) (css := [(cGExpr x1 a4 c4), (cGExpr y5.1 a8 c8)]) hS13 underlying56 sizeOf99 zeroValue99 rfl rfl (by kernel_rfl) rfl ⟨(rGExpr_mk (x := x1) (h4.mono (iT im6 (iT im7 (iT im9 (iT im10 (iT im11 (iT im12 im13))))))) : rGExpr.rp _ _ _ _), (rGExpr_mk (x := y5.1) h8 : rGExpr.rp _ _ _ _), trivial⟩ rfl rfl fun w14 a10 n1 c10 im14 hS14 => ?_)
  refine ⟨st0, ?_⟩
  refine s0 rfl trivial (fun _ => r_fa rfl underlying99 rfl sizeOf56 rfl) rfl (s2 [] rfl trivial rfl (by kernel_rfl) (st0B (q := 1) hS14 ⟨rfl, rfl⟩ rfl rfl rfl sizeOf56 rfl rfl rfl fun w15 im15 hS15 => ?_))
  refine ⟨st0, ?_⟩
  refine seP (t_then ?_)
  refine rg (pv (r_ldS rfl isAgg99 sizeOf99 rfl (hS15.cells0 (i := 1) ⟨rfl, rfl⟩ (o := 0) rfl) (cs := [iv y4.1.Kind, iv y4.1.Pos.Line, iv y4.1.Pos.Col, .string ⟨y4.1.Op.toArray⟩, .string ⟨y4.1.Name.toArray⟩, .int .u32 y4.1.Num, .string ⟨y4.1.Type_.Word.toArray⟩, .string ⟨y4.1.Type_.Name.toArray⟩, iv y4.1.Type_.Stars, .slice a10 n1 c10])) (wl rfl (st0B (q := 2) hS15 ⟨rfl, rfl⟩ rfl rfl rfl sizeOf99 rfl rfl rfl fun w16 im16 hS16 => ?_)))
  obtain ⟨T7, im17, hS17, h10⟩ := hS16.seal 0 ⟨rfl, rfl⟩
  have hsh := h10.len
  subst hsh
  have hm := oI hm; subst hm
  exact nil (t_blk (t_then ⟨m1, Nat.lt_succ_self _, _, _, y5.2, ({ y4.1 with Kids := ([x1, y5.1] : List GExpr) }), _, _, _, _, env_has ⟨rfl, rfl, rfl, rfl, trivial⟩, (iT im5 (iT im6 (iT im7 (iT im9 (iT im10 (iT im11 (iT im12 (iT im13 (iT im14 (iT im15 (iT im16 im17))))))))))), hS17.sel [2, 3, 4, 5] rfl, h10, (h9.mono (iT im14 (iT im15 (iT im16 im17)))), hn1⟩))
theorem tree_reader_cond_st {G : Rec1} (hG : Sp1 G) {g : World} {T0 : TP} {w0 : World} {R : Assn} {p0 : TreeReader} {b_p0 o_p0 : Nat} {H_p0 : List Value → Assn} {a1 : OA} {c1 : Nat} {r : Except (TreeRefused × TreeReader) (GExpr × TreeReader)} (hS : Sep g T0 w0 [R, H_p0 [sv a1 p0.l c1, iv p0.end_.Line, iv p0.end_.Col, iv p0.depth]]) (hL_p0 : Ln b_p0 o_p0 H_p0) (h1 : SlR rGToken T0 w0 (sv a1 p0.l c1) p0.l) (hm : tree_reader_cond_b G p0 = some r) :
    Calls Tryz.prog 99 #[pt b_p0 o_p0] w0 (exR r (fun r => RetS T0 w0 fun T w v => ∃ (a19 : OA) (c19 : Nat) (a20 : OA) (c20 : Nat), v = .agg (cGExpr r.1 a19 c19).toArray ∧ Sep g T w [R, H_p0 [sv a20 r.2.l c20, iv r.2.end_.Line, iv r.2.end_.Col, iv r.2.depth]] ∧ SlR rGExpr T w (sv a19 r.1.Kids c19) r.1.Kids ∧ SlR rGToken T w (sv a20 r.2.l c20) r.2.l ∧ True) (fun r => PanS T0 w0 fun T w v => ∃ (a19 : OA) (c19 : Nat), v = .iface 48 (.agg (cTreeRefused r.1).toArray) ∧ Sep g T w [R, H_p0 [sv a19 r.2.l c19, iv r.2.end_.Line, iv r.2.end_.Col, iv r.2.depth]] ∧ SlR rGToken T w (sv a19 r.2.l c19) r.2.l ∧ True)) := by
  refine enter (args := [pt b_p0 o_p0]) Tryz.func99 rfl Tryz.ntmps99 rfl fun J => ?_
  unfold tree_reader_cond_b at hm
  refine sq2 (rg (wl rfl (alS (zs := [iv 0, iv 0, iv 0, .string ⟨([] : List UInt8).toArray⟩, .string ⟨([] : List UInt8).toArray⟩, .int .u32 0, .string ⟨([] : List UInt8).toArray⟩, .string ⟨([] : List UInt8).toArray⟩, iv 0, .slice none 0 0]) zeroValue99 rfl hS fun w1 b1 im1 hS1 => ?_)))
  refine nil (t_then ?_)
  refine sq2 (rg (pv (r_mp rfl) (?_)))
  obtain ⟨y1, hx1, hm⟩ := bindS hm
  rcases y1 with e5 | y1
  · have hm := exC_error hm
    refine wl rfl (calP cf116 rfl (hG.tree_reader_binary (p0 := p0) (H_p0 := H_p0) (p1 := 1) (hS1.bun [0, 1] [2] rfl) hL_p0 (h1.mono im1) hx1) rfl fun v13 T14 w26 im27 rv13 => ?_)
    obtain ⟨a18, c18, rfl, hS27, h18, _⟩ := rv13
    have hS27 := hS27.unb
    have hm := oI hm; subst hm
    exact p_then (panE ⟨_, rfl, _, (iT im1 im27), ⟨_, _, rfl, hS27.sel [1, 2] rfl, h18, trivial⟩⟩)
  have hm := exC_ok hm
  refine wl rfl (calS cf116 rfl (hG.tree_reader_binary (p0 := p0) (H_p0 := H_p0) (p1 := 1) (hS1.bun [0, 1] [2] rfl) hL_p0 (h1.mono im1) hx1) rfl fun v1 T1 w2 im2 rv1 => ?_)
  obtain ⟨a2, c2, a3, c3, rfl, hS2, h2, h3, _⟩ := rv1
  have hS2 := hS2.unb
  refine wl rfl (alS (zs := [iv 0, iv 0, iv 0, .string ⟨([] : List UInt8).toArray⟩, .string ⟨([] : List UInt8).toArray⟩, .int .u32 0, .string ⟨([] : List UInt8).toArray⟩, .string ⟨([] : List UInt8).toArray⟩, iv 0, .slice none 0 0]) zeroValue99 rfl hS2 fun w3 b2 im3 hS3 => ?_)
  refine wl rfl (st0B (q := 0) hS3 ⟨rfl, rfl⟩ rfl rfl rfl sizeOf99 rfl rfl rfl fun w4 im4 hS4 => ?_)
  refine nil (t_then ?_)
  refine sq2 (sq2 ?_)
  obtain ⟨y2, hx2, hm⟩ := bindS hm
  refine rg (pv (r_mp rfl) (wl rfl (calS cf101 rfl (tree_reader_mark_sim (p0 := y1.2) (H_p0 := H_p0) (hS4.bun [0, 1, 2] [3] rfl) hL_p0 (h3.mono (iT im3 im4)) hx2) rfl fun v2 T2 w5 im5 rv2 => ?_)))
  obtain ⟨rfl, hS5, _⟩ := rv2
  have hS5 := hS5.unb
  refine pv (r_snL rfl rfl) (nil (t_then ?_))
  refine cnd rfl (fun hb1 => ?_) (fun hb1 => ?_)
  · have hm := ctrue hb1 hm
    refine sq2 (rg (pv (r_ldS rfl isAgg99 sizeOf99 rfl (hS5.cells0 (i := 0) ⟨rfl, rfl⟩ (o := 0) rfl) (cs := (cGExpr y1.1 a2 c2))) (wl rfl (st0B (q := 1) hS5 ⟨rfl, rfl⟩ rfl rfl rfl sizeOf99 rfl rfl rfl fun w6 im6 hS6 => ?_))))
    refine nil (t_then ?_)
    have hm := oI hm; subst hm
    exact rtn (r_then (retN (vs := [.agg (cGExpr y1.1 a2 c2).toArray]) rfl ⟨rvS rfl isAgg99 sizeOf99 rfl (hS6.bx (i := 1) ⟨rfl, rfl⟩), trivial⟩ rfl ⟨_, rfl, _, (iT im1 (iT im2 (iT im3 (iT im4 (iT im5 im6))))), ⟨_, _, _, _, rfl, hS6.sel [2, 3] rfl, (h2.mono (iT im3 (iT im4 (iT im5 im6)))), (h3.mono (iT im3 (iT im4 (iT im5 im6)))), trivial⟩⟩))
  have hm := cfalse hb1 hm
  refine skp (t_then ?_)
  refine sq2 ?_
  obtain ⟨y3, hx3, hm⟩ := bindS hm
  refine rg (pv (r_mp rfl) (wl rfl (calS cf102 rfl (tree_reader_operator_sim (p0 := y1.2) (H_p0 := H_p0) (p1 := 6) (hS5.bun [0, 1, 2] [3] rfl) hL_p0 (h3.mono (iT im3 (iT im4 im5))) hx3) rfl fun v3 T3 w7 im7 rv3 => ?_)))
  obtain ⟨a4, c4, a5, c5, rfl, hS7, h4, h5, _⟩ := rv3
  have hS7 := hS7.unb
  refine wl rfl (alS (zs := [iv 0, iv 0, iv 0, .string ⟨([] : List UInt8).toArray⟩, .string ⟨([] : List UInt8).toArray⟩, .int .u32 0, .string ⟨([] : List UInt8).toArray⟩, .string ⟨([] : List UInt8).toArray⟩, iv 0, .slice none 0 0]) zeroValue99 rfl hS7 fun w8 b3 im8 hS8 => ?_)
  refine wl rfl (st0B (q := 0) hS8 ⟨rfl, rfl⟩ rfl rfl rfl sizeOf99 rfl rfl rfl fun w9 im9 hS9 => ?_)
  refine nil (t_then ?_)
  refine sq2 (rg (pv (r_fa rfl underlying99 rfl sizeOf9 rfl) (wl rfl (st0B (q := 0) hS9 ⟨rfl, rfl⟩ rfl rfl rfl sizeOf9 rfl rfl rfl fun w10 im10 hS10 => ?_))))
  refine nil (t_then ?_)
  refine sq2 (rg (pv (r_mp rfl) (?_)))
  obtain ⟨y4, hx4, hm⟩ := bindS hm
  rcases y4 with e4 | y4
  · have hm := exC_error hm
    refine wl rfl (calP cf87 rfl (hG.tree_reader_assign (p0 := y3.2) (H_p0 := H_p0) (hS10.bun [0, 1, 2, 3] [4] rfl) hL_p0 (h5.mono (iT im8 (iT im9 im10))) hx4) rfl fun v12 T13 w25 im26 rv12 => ?_)
    obtain ⟨a17, c17, rfl, hS26, h17, _⟩ := rv12
    have hS26 := hS26.unb
    have hm := oI hm; subst hm
    exact p_then (panE ⟨_, rfl, _, (iT im1 (iT im2 (iT im3 (iT im4 (iT im5 (iT im7 (iT im8 (iT im9 (iT im10 im26))))))))), ⟨_, _, rfl, hS26.sel [3, 4] rfl, h17, trivial⟩⟩)
  have hm := exC_ok hm
  refine wl rfl (calS cf87 rfl (hG.tree_reader_assign (p0 := y3.2) (H_p0 := H_p0) (hS10.bun [0, 1, 2, 3] [4] rfl) hL_p0 (h5.mono (iT im8 (iT im9 im10))) hx4) rfl fun v4 T4 w11 im11 rv4 => ?_)
  obtain ⟨a6, c6, a7, c7, rfl, hS11, h6, h7, _⟩ := rv4
  have hS11 := hS11.unb
  refine wl rfl (alS (zs := [iv 0, iv 0, iv 0, .string ⟨([] : List UInt8).toArray⟩, .string ⟨([] : List UInt8).toArray⟩, .int .u32 0, .string ⟨([] : List UInt8).toArray⟩, .string ⟨([] : List UInt8).toArray⟩, iv 0, .slice none 0 0]) zeroValue99 rfl hS11 fun w12 b4 im12 hS12 => ?_)
  refine wl rfl (st0B (q := 0) hS12 ⟨rfl, rfl⟩ rfl rfl rfl sizeOf99 rfl rfl rfl fun w13 im13 hS13 => ?_)
  refine nil (t_then ?_)
  refine sq2 (rg (pv (r_mp rfl) (?_)))
  obtain ⟨y5, hx5, hm⟩ := bindS hm
  rcases y5 with e3 | y5
  · have hm := exC_error hm
    refine wl rfl (calP cf62 rfl (tree_reader_must_sim (p0 := y4.2) (H_p0 := H_p0) (p1 := ([58] : List UInt8)) (hS13.bun [0, 1, 2, 3, 4] [5] rfl) hL_p0 (h7.mono (iT im12 im13)) hx5) rfl fun v11 T12 w24 im25 rv11 => ?_)
    obtain ⟨a16, c16, rfl, hS25, h16, _⟩ := rv11
    have hS25 := hS25.unb
    have hm := oI hm; subst hm
    exact p_then (panE ⟨_, rfl, _, (iT im1 (iT im2 (iT im3 (iT im4 (iT im5 (iT im7 (iT im8 (iT im9 (iT im10 (iT im11 (iT im12 (iT im13 im25)))))))))))), ⟨_, _, rfl, hS25.sel [4, 5] rfl, h16, trivial⟩⟩)
  have hm := exC_ok hm
  refine wl rfl (calS cf62 rfl (tree_reader_must_sim (p0 := y4.2) (H_p0 := H_p0) (p1 := ([58] : List UInt8)) (hS13.bun [0, 1, 2, 3, 4] [5] rfl) hL_p0 (h7.mono (iT im12 im13)) hx5) rfl fun v5 T5 w14 im14 rv5 => ?_)
  obtain ⟨a8, c8, rfl, hS14, h8, _⟩ := rv5
  have hS14 := hS14.unb
  refine nil (t_then ?_)
  refine sq2 (rg (pv (r_mp rfl) (?_)))
  obtain ⟨y6, hx6, hm⟩ := bindS hm
  rcases y6 with e2 | y6
  · have hm := exC_error hm
    refine wl rfl (calP cf98 rfl (tree_reader_deeper_sim (p0 := y5) (H_p0 := H_p0) (hS14.bun [0, 1, 2, 3, 4] [5] rfl) hL_p0 h8 hx6) rfl fun v10 T11 w23 im24 rv10 => ?_)
    obtain ⟨a15, c15, rfl, hS24, h15, _⟩ := rv10
    have hS24 := hS24.unb
    have hm := oI hm; subst hm
    exact p_then (panE ⟨_, rfl, _, (iT im1 (iT im2 (iT im3 (iT im4 (iT im5 (iT im7 (iT im8 (iT im9 (iT im10 (iT im11 (iT im12 (iT im13 (iT im14 im24))))))))))))), ⟨_, _, rfl, hS24.sel [4, 5] rfl, h15, trivial⟩⟩)
  have hm := exC_ok hm
  refine wl rfl (calS cf98 rfl (tree_reader_deeper_sim (p0 := y5) (H_p0 := H_p0) (hS14.bun [0, 1, 2, 3, 4] [5] rfl) hL_p0 h8 hx6) rfl fun v6 T6 w15 im15 rv6 => ?_)
  obtain ⟨b5, a9, c9, rfl, hS15, h9, _⟩ := rv6
  have hS15 := hS15.unb
  refine pv (r_zf rfl) (nil (t_then ?_))
  refine sq2 (rsP [1, 1, 0, 2, 2, 0, 2] [0, 1, 2, 3, 4, 5, 6] mix (by kernel_rfl) hS15.lt (pq_then (pq_body)) fun w16 i1 => ?_)
  have im16 := i1.imm
  have hS16 := hS15.keep i1 (fun _ h => h)
  refine s1 rfl trivial (r_ldS rfl isAgg99 sizeOf99 rfl (hS16.cells0 (i := 2) ⟨rfl, rfl⟩ (o := 0) rfl) (cs := (cGExpr y1.1 a2 c2))) rfl (s1 rfl trivial (r_ldS rfl isAgg99 sizeOf99 rfl (hS16.cells0 (i := 0) ⟨rfl, rfl⟩ (o := 0) rfl) (cs := (cGExpr y4.1 a6 c6))) rfl (s0 rfl trivial (fun _ => r_mp rfl) rfl (?_)))
  obtain ⟨y7, hx7, hm⟩ := bindS hm
  rcases y7 with e1 | y7
  · have hm := exC_error hm
    refine s2 [(1, .agg (cGExpr y4.1 a6 c6).toArray), (0, .agg (cGExpr y1.1 a2 c2).toArray)] rfl trivial rfl (by kernel_rfl) (calP cf99 rfl (hG.tree_reader_cond (p0 := y6) (H_p0 := H_p0) (hS16.bun [1, 3, 4, 6, 0, 2] [5] rfl) hL_p0 (h9.mono im16) hx7) rfl fun v9 T10 w22 im23 rv9 => ?_)
    obtain ⟨a14, c14, rfl, hS23, h14, _⟩ := rv9
    have hS23 := hS23.unb
    have hm := oI hm; subst hm
    exact p_then (panE ⟨_, rfl, _, (iT im1 (iT im2 (iT im3 (iT im4 (iT im5 (iT im7 (iT im8 (iT im9 (iT im10 (iT im11 (iT im12 (iT im13 (iT im14 (iT im15 (iT im16 im23))))))))))))))), ⟨_, _, rfl, hS23.sel [2, 6] rfl, h14, trivial⟩⟩)
  have hm := exC_ok hm
  refine s2 [(1, .agg (cGExpr y4.1 a6 c6).toArray), (0, .agg (cGExpr y1.1 a2 c2).toArray)] rfl trivial rfl (by kernel_rfl) (calS cf99 rfl (hG.tree_reader_cond (p0 := y6) (H_p0 := H_p0) (hS16.bun [1, 3, 4, 6, 0, 2] [5] rfl) hL_p0 (h9.mono im16) hx7) rfl fun v7 T7 w17 im17 rv7 => ?_)
  obtain ⟨a10, c10, a11, c11, rfl, hS17, h10, h11, _⟩ := rv7
  have hS17 := hS17.unb
  refine ⟨st1 rfl (r_ldS rfl isAgg99 sizeOf99 rfl (hS17.cells0 (i := 4) ⟨rfl, rfl⟩ (o := 0) rfl) (cs := (cGExpr y4.1 a6 c6))) (st1 rfl (r_ldS rfl isAgg99 sizeOf99 rfl (hS17.cells0 (i := 5) ⟨rfl, rfl⟩ (o := 0) rfl) (cs := (cGExpr y1.1 a2 c2))) (st0)), ?_⟩
  refine s2 [] rfl trivial rfl (by kernel_rfl) (bsS (r := rGExpr) (l := ([y1.1, y4.1, y7.1] : List GExpr)) (css := [(cGExpr y1.1 a2 c2), (cGExpr y4.1 a6 c6), (cGExpr y7.1 a10 c10)]) hS17 underlying56 sizeOf99 zeroValue99 rfl rfl (by kernel_rfl) rfl ⟨(rGExpr_mk (x := y1.1) (h2.mono (iT im3 (iT im4 (iT im5 (iT im7 (iT im8 (iT im9 (iT im10 (iT im11 (iT im12 (iT im13 (iT im14 (iT im15 (iT im16 im17)))))))))))))) : rGExpr.rp _ _ _ _), (rGExpr_mk (x := y4.1) (h6.mono (iT im12 (iT im13 (iT im14 (iT im15 (iT im16 im17)))))) : rGExpr.rp _ _ _ _), (rGExpr_mk (x := y7.1) h10 : rGExpr.rp _ _ _ _), trivial⟩ rfl rfl fun w18 a12 n1 c12 im18 hS18 => ?_)
  refine ⟨st0, ?_⟩
  refine s0 rfl trivial (fun _ => r_fa rfl underlying99 rfl sizeOf56 rfl) rfl (s2 [] rfl trivial rfl (by kernel_rfl) (st0B (q := 1) hS18 ⟨rfl, rfl⟩ rfl rfl rfl sizeOf56 rfl rfl rfl fun w19 im19 hS19 => ?_))
  refine ⟨st0, ?_⟩
  refine seP (t_then ?_)
  refine sq2 ?_
  obtain ⟨y8, hx8, hm⟩ := bindS hm
  refine rg (pv (r_mf rfl) (wl rfl (calS cf115 rfl (tree_reader_deeper_1_sim (p0 := y7.2) (H_p0 := boxA b5) (H1 := H_p0) (hS19.bun [0, 1, 2, 3] [4, 7] rfl) (lnBox b5) hL_p0 (h11.mono (iT im18 im19)) hx8) rfl fun v8 T8 w20 im20 rv8 => ?_)))
  obtain ⟨a13, c13, rfl, hS20, h12, _⟩ := rv8
  have hS20 := hS20.unb
  refine nil (t_thenR [(2, pt b1 0), (4, pt b3 0)] ⟨rfl, rfl, trivial⟩ fun J => ?_)
  refine sq2 (rg (pv (r_ldS rfl isAgg99 sizeOf99 rfl (hS20.cells0 (i := 1) ⟨rfl, rfl⟩ (o := 0) rfl) (cs := [iv y3.1.Kind, iv y3.1.Pos.Line, iv y3.1.Pos.Col, .string ⟨([] : List UInt8).toArray⟩, .string ⟨y3.1.Name.toArray⟩, .int .u32 y3.1.Num, .string ⟨y3.1.Type_.Word.toArray⟩, .string ⟨y3.1.Type_.Name.toArray⟩, iv y3.1.Type_.Stars, .slice a12 n1 c12])) (wl rfl (st0B (q := 2) hS20 ⟨rfl, rfl⟩ rfl rfl rfl sizeOf99 rfl rfl rfl fun w21 im21 hS21 => ?_))))
  refine nil (t_then ?_)
  obtain ⟨T9, im22, hS22, h13⟩ := hS21.seal 0 ⟨rfl, rfl⟩
  have hsh := h13.len
  subst hsh
  have hm := oI hm; subst hm
  exact rtn (retN (vs := [.agg #[iv y3.1.Kind, iv y3.1.Pos.Line, iv y3.1.Pos.Col, .string ⟨([] : List UInt8).toArray⟩, .string ⟨y3.1.Name.toArray⟩, .int .u32 y3.1.Num, .string ⟨y3.1.Type_.Word.toArray⟩, .string ⟨y3.1.Type_.Name.toArray⟩, iv y3.1.Type_.Stars, .slice a12 (List.length ([y1.1, y4.1, y7.1] : List GExpr)) c12]]) rfl ⟨rvS rfl isAgg99 sizeOf99 rfl (hS22.bx (i := 2) ⟨rfl, rfl⟩), trivial⟩ rfl ⟨_, rfl, _, (iT im1 (iT im2 (iT im3 (iT im4 (iT im5 (iT im7 (iT im8 (iT im9 (iT im10 (iT im11 (iT im12 (iT im13 (iT im14 (iT im15 (iT im16 (iT im17 (iT im18 (iT im19 (iT im20 (iT im21 im22)))))))))))))))))))), ⟨_, _, _, _, rfl, hS22.sel [3, 5] rfl, h13, (h12.mono (iT im21 im22)), trivial⟩⟩)
theorem tree_reader_assign_st {G : Rec1} (hG : Sp1 G) {g : World} {T0 : TP} {w0 : World} {R : Assn} {p0 : TreeReader} {b_p0 o_p0 : Nat} {H_p0 : List Value → Assn} {a1 : OA} {c1 : Nat} {r : Except (TreeRefused × TreeReader) (GExpr × TreeReader)} (hS : Sep g T0 w0 [R, H_p0 [sv a1 p0.l c1, iv p0.end_.Line, iv p0.end_.Col, iv p0.depth]]) (hL_p0 : Ln b_p0 o_p0 H_p0) (h1 : SlR rGToken T0 w0 (sv a1 p0.l c1) p0.l) (hm : tree_reader_assign_b G p0 = some r) :
    Calls Tryz.prog 87 #[pt b_p0 o_p0] w0 (exR r (fun r => RetS T0 w0 fun T w v => ∃ (a13 : OA) (c13 : Nat) (a14 : OA) (c14 : Nat), v = .agg (cGExpr r.1 a13 c13).toArray ∧ Sep g T w [R, H_p0 [sv a14 r.2.l c14, iv r.2.end_.Line, iv r.2.end_.Col, iv r.2.depth]] ∧ SlR rGExpr T w (sv a13 r.1.Kids c13) r.1.Kids ∧ SlR rGToken T w (sv a14 r.2.l c14) r.2.l ∧ True) (fun r => PanS T0 w0 fun T w v => ∃ (a13 : OA) (c13 : Nat), v = .iface 48 (.agg (cTreeRefused r.1).toArray) ∧ Sep g T w [R, H_p0 [sv a13 r.2.l c13, iv r.2.end_.Line, iv r.2.end_.Col, iv r.2.depth]] ∧ SlR rGToken T w (sv a13 r.2.l c13) r.2.l ∧ True)) := by
  refine enterD (args := [pt b_p0 o_p0]) Tryz.func87 rfl Tryz.ntmps87 rfl fun J => ?_
  unfold tree_reader_assign_b at hm
  refine sq2 (rg (wl rfl (alS (zs := [iv 0, iv 0, iv 0, .string ⟨([] : List UInt8).toArray⟩, .string ⟨([] : List UInt8).toArray⟩, .int .u32 0, .string ⟨([] : List UInt8).toArray⟩, .string ⟨([] : List UInt8).toArray⟩, iv 0, .slice none 0 0]) zeroValue99 rfl hS fun w1 b1 im1 hS1 => ?_)))
  refine nil (t_then ?_)
  refine sq2 (rg (pv (r_mp rfl) (?_)))
  obtain ⟨y1, hx1, hm⟩ := bindS hm
  rcases y1 with e3 | y1
  · have hm := exC_error hm
    refine wl rfl (calP cf98 rfl (tree_reader_deeper_sim (p0 := p0) (H_p0 := H_p0) (hS1.bun [0, 1] [2] rfl) hL_p0 (h1.mono im1) hx1) rfl fun v9 T10 w23 im24 rv9 => ?_)
    obtain ⟨a12, c12, rfl, hS24, h12, _⟩ := rv9
    have hS24 := hS24.unb
    have hm := oI hm; subst hm
    exact p_then (panED ⟨_, rfl, _, (iT im1 im24), ⟨_, _, rfl, hS24.sel [1, 2] rfl, h12, trivial⟩⟩)
  have hm := exC_ok hm
  refine wl rfl (calS cf98 rfl (tree_reader_deeper_sim (p0 := p0) (H_p0 := H_p0) (hS1.bun [0, 1] [2] rfl) hL_p0 (h1.mono im1) hx1) rfl fun v1 T1 w2 im2 rv1 => ?_)
  obtain ⟨b2, a2, c2, rfl, hS2, h2, _⟩ := rv1
  have hS2 := hS2.unb
  refine wl rfl (dfO (f := 115) (cap := #[pt b2 0]) rfl ?_)
  refine nil (t_then ?_)
  refine sq2 (rg (pv (r_mp rfl) (?_)))
  obtain ⟨y2, hx2, hm⟩ := bindS hm
  rcases y2 with e2 | y2
  · have hm := exC_error hm
    refine wl rfl (calP cf99 rfl (hG.tree_reader_cond (p0 := y1) (H_p0 := H_p0) (hS2.bun [0, 1, 3] [2] rfl) hL_p0 h2 hx2) rfl fun v8 T9 w21 im22 rv8 => ?_)
    obtain ⟨a11, c11, rfl, hS22, h11, _⟩ := rv8
    have hS22 := hS22.unb
    refine p_then (panD2 cf115 (plainD (args := [pt b2 0]) Tryz.func115 rfl Tryz.ntmps115 rfl rfl fun J => ?_))
    refine rg (pv (r_ld rfl isAgg41 (hS22.cell0 (i := 2) ⟨rfl, rfl⟩ (j := 0) rfl)) (pv (r_nc rfl) (pv (r_fa rfl underlying43 rfl sizeOf3 rfl) (pv (r_ld rfl isAgg3 (hS22.cellB (i := 3) ⟨rfl, rfl⟩ hL_p0 (j := 3) rfl)) (pv (r_ib rfl rfl rfl) (pv (r_nc rfl) (pv (r_fa rfl underlying43 rfl sizeOf3 rfl) (wl rfl (stB (q := 3) (j := 3) hS22 ⟨rfl, rfl⟩ hL_p0 rfl rfl rfl sizeOf3 rfl rfl rfl fun w22 im23 hS23 => ?_)))))))))
    have hm := oI hm; subst hm
    exact nil (endO rfl ⟨_, rfl, _, (iT im1 (iT im2 (iT im22 im23))), ⟨_, _, rfl, hS23.sel [1, 3] rfl, (h11.mono im23), trivial⟩⟩)
  have hm := exC_ok hm
  refine wl rfl (calS cf99 rfl (hG.tree_reader_cond (p0 := y1) (H_p0 := H_p0) (hS2.bun [0, 1, 3] [2] rfl) hL_p0 h2 hx2) rfl fun v2 T2 w3 im3 rv2 => ?_)
  obtain ⟨a3, c3, a4, c4, rfl, hS3, h3, h4, _⟩ := rv2
  have hS3 := hS3.unb
  refine wl rfl (alS (zs := [iv 0, iv 0, iv 0, .string ⟨([] : List UInt8).toArray⟩, .string ⟨([] : List UInt8).toArray⟩, .int .u32 0, .string ⟨([] : List UInt8).toArray⟩, .string ⟨([] : List UInt8).toArray⟩, iv 0, .slice none 0 0]) zeroValue99 rfl hS3 fun w4 b3 im4 hS4 => ?_)
  refine wl rfl (st0B (q := 0) hS4 ⟨rfl, rfl⟩ rfl rfl rfl sizeOf99 rfl rfl rfl fun w5 im5 hS5 => ?_)
  refine nil (t_then ?_)
  refine sq2 (sq2 ?_)
  obtain ⟨y3, hx3, hm⟩ := bindS hm
  refine rg (pv (r_mp rfl) (wl rfl (calS cf101 rfl (tree_reader_mark_sim (p0 := y2.2) (H_p0 := H_p0) (hS5.bun [0, 1, 2, 3] [4] rfl) hL_p0 (h4.mono (iT im4 im5)) hx3) rfl fun v3 T3 w6 im6 rv3 => ?_)))
  obtain ⟨rfl, hS6, _⟩ := rv3
  have hS6 := hS6.unb
  obtain ⟨y4, hx4, hm⟩ := bindS hm
  refine wl rfl (calS cf100 rfl (tree_assigns_sim (p0 := y3) (hS6.bun [0, 1, 2, 3, 4] [] rfl)  hx4) rfl fun v4 T4 w7 im7 rv4 => ?_)
  obtain ⟨rfl, hS7, _⟩ := rv4
  have hS7 := hS7.unb
  refine pv (r_nt rfl) (nil (t_then ?_))
  refine cnd rfl (fun hb1 => ?_) (fun hb1 => ?_)
  · have hm := ctrue hb1 hm
    refine sq2 (rg (pv (r_ldS rfl isAgg99 sizeOf99 rfl (hS7.cells0 (i := 0) ⟨rfl, rfl⟩ (o := 0) rfl) (cs := (cGExpr y2.1 a3 c3))) (wl rfl (st0B (q := 1) hS7 ⟨rfl, rfl⟩ rfl rfl rfl sizeOf99 rfl rfl rfl fun w8 im8 hS8 => ?_))))
    refine nil (t_then ?_)
    refine rtn (r_then (retD cf115 (plainD (args := [pt b2 0]) Tryz.func115 rfl Tryz.ntmps115 rfl rfl fun J => ?_)))
    refine rg (pv (r_ld rfl isAgg41 (hS8.cell0 (i := 3) ⟨rfl, rfl⟩ (j := 0) rfl)) (pv (r_nc rfl) (pv (r_fa rfl underlying43 rfl sizeOf3 rfl) (pv (r_ld rfl isAgg3 (hS8.cellB (i := 4) ⟨rfl, rfl⟩ hL_p0 (j := 3) rfl)) (pv (r_ib rfl rfl rfl) (pv (r_nc rfl) (pv (r_fa rfl underlying43 rfl sizeOf3 rfl) (wl rfl (stB (q := 4) (j := 3) hS8 ⟨rfl, rfl⟩ hL_p0 rfl rfl rfl sizeOf3 rfl rfl rfl fun w9 im9 hS9 => ?_)))))))))
    have hm := oI hm; subst hm
    exact nil (endO rfl ⟨_, resN (vs := [.agg (cGExpr y2.1 a3 c3).toArray]) rfl ⟨rvS rfl isAgg99 sizeOf99 rfl (hS9.bx (i := 1) ⟨rfl, rfl⟩), trivial⟩ rfl, ⟨_, rfl, _, (iT im1 (iT im2 (iT im3 (iT im4 (iT im5 (iT im6 (iT im7 (iT im8 im9)))))))), ⟨_, _, _, _, rfl, hS9.sel [2, 4] rfl, (h3.mono (iT im4 (iT im5 (iT im6 (iT im7 (iT im8 im9)))))), (h4.mono (iT im4 (iT im5 (iT im6 (iT im7 (iT im8 im9)))))), trivial⟩⟩⟩)
  have hm := cfalse hb1 hm
  refine skp (t_then ?_)
  refine sq2 ?_
  obtain ⟨y5, hx5, hm⟩ := bindS hm
  refine rg (pv (r_mp rfl) (wl rfl (calS cf102 rfl (tree_reader_operator_sim (p0 := y2.2) (H_p0 := H_p0) (p1 := 5) (hS7.bun [0, 1, 2, 3] [4] rfl) hL_p0 (h4.mono (iT im4 (iT im5 (iT im6 im7)))) hx5) rfl fun v5 T5 w10 im10 rv5 => ?_)))
  obtain ⟨a5, c5, a6, c6, rfl, hS10, h5, h6, _⟩ := rv5
  have hS10 := hS10.unb
  refine wl rfl (alS (zs := [iv 0, iv 0, iv 0, .string ⟨([] : List UInt8).toArray⟩, .string ⟨([] : List UInt8).toArray⟩, .int .u32 0, .string ⟨([] : List UInt8).toArray⟩, .string ⟨([] : List UInt8).toArray⟩, iv 0, .slice none 0 0]) zeroValue99 rfl hS10 fun w11 b4 im11 hS11 => ?_)
  refine wl rfl (st0B (q := 0) hS11 ⟨rfl, rfl⟩ rfl rfl rfl sizeOf99 rfl rfl rfl fun w12 im12 hS12 => ?_)
  refine nil (t_then ?_)
  refine sq2 (rsP [1, 0, 2, 2, 0, 2] [0, 1, 2, 3, 4, 5] mix (by kernel_rfl) hS12.lt (pq_then (pq_bodyD (rs := [.cell 2 99]) rfl (by kernel_rfl))) fun w13 i1 => ?_)
  have im13 := i1.imm
  have hS13 := hS12.keep i1 (fun _ h => h)
  refine s1 rfl trivial (r_ldS rfl isAgg99 sizeOf99 rfl (hS13.cells0 (i := 1) ⟨rfl, rfl⟩ (o := 0) rfl) (cs := (cGExpr y2.1 a3 c3))) rfl (s0 rfl trivial (fun _ => r_mp rfl) rfl (?_))
  obtain ⟨y6, hx6, hm⟩ := bindS hm
  rcases y6 with e1 | y6
  · have hm := exC_error hm
    refine s2 [(0, .agg (cGExpr y2.1 a3 c3).toArray)] rfl trivial rfl (by kernel_rfl) (calP cf87 rfl (hG.tree_reader_assign (p0 := y5.2) (H_p0 := H_p0) (hS13.bun [0, 2, 3, 4, 1] [5] rfl) hL_p0 (h6.mono (iT im11 (iT im12 im13))) hx6) rfl fun v7 T8 w19 im20 rv7 => ?_)
    obtain ⟨a10, c10, rfl, hS20, h10, _⟩ := rv7
    have hS20 := hS20.unb
    refine p_then (panD2 cf115 (plainD (args := [pt b2 0]) Tryz.func115 rfl Tryz.ntmps115 rfl rfl fun J => ?_))
    refine rg (pv (r_ld rfl isAgg41 (hS20.cell0 (i := 3) ⟨rfl, rfl⟩ (j := 0) rfl)) (pv (r_nc rfl) (pv (r_fa rfl underlying43 rfl sizeOf3 rfl) (pv (r_ld rfl isAgg3 (hS20.cellB (i := 5) ⟨rfl, rfl⟩ hL_p0 (j := 3) rfl)) (pv (r_ib rfl rfl rfl) (pv (r_nc rfl) (pv (r_fa rfl underlying43 rfl sizeOf3 rfl) (wl rfl (stB (q := 5) (j := 3) hS20 ⟨rfl, rfl⟩ hL_p0 rfl rfl rfl sizeOf3 rfl rfl rfl fun w20 im21 hS21 => ?_)))))))))
    have hm := oI hm; subst hm
    exact nil (endO rfl ⟨_, rfl, _, (iT im1 (iT im2 (iT im3 (iT im4 (iT im5 (iT im6 (iT im7 (iT im10 (iT im11 (iT im12 (iT im13 (iT im20 im21)))))))))))), ⟨_, _, rfl, hS21.sel [2, 5] rfl, (h10.mono im21), trivial⟩⟩)
  have hm := exC_ok hm
  refine s2 [(0, .agg (cGExpr y2.1 a3 c3).toArray)] rfl trivial rfl (by kernel_rfl) (calS cf87 rfl (hG.tree_reader_assign (p0 := y5.2) (H_p0 := H_p0) (hS13.bun [0, 2, 3, 4, 1] [5] rfl) hL_p0 (h6.mono (iT im11 (iT im12 im13))) hx6) rfl fun v6 T6 w14 im14 rv6 => ?_)
  obtain ⟨a7, c7, a8, c8, rfl, hS14, h7, h8, _⟩ := rv6
  have hS14 := hS14.unb
  refine ⟨st1 rfl (r_ldS rfl isAgg99 sizeOf99 rfl (hS14.cells0 (i := 4) ⟨rfl, rfl⟩ (o := 0) rfl) (cs := (cGExpr y2.1 a3 c3))) (st0), ?_⟩
  refine s2 [] rfl trivial rfl (by kernel_rfl) (bsS (r := rGExpr) (l := ([y2.1, y6.1] : List GExpr)) (css := [(cGExpr y2.1 a3 c3), (cGExpr y6.1 a7 c7)]) hS14 underlying56 sizeOf99 zeroValue99 rfl rfl (by kernel_rfl) rfl ⟨(rGExpr_mk (x := y2.1) (h3.mono (iT im4 (iT im5 (iT im6 (iT im7 (iT im10 (iT im11 (iT im12 (iT im13 im14))))))))) : rGExpr.rp _ _ _ _), (rGExpr_mk (x := y6.1) h7 : rGExpr.rp _ _ _ _), trivial⟩ rfl rfl fun w15 a9 n1 c9 im15 hS15 => ?_)
  refine ⟨st0, ?_⟩
  refine s0 rfl trivial (fun _ => r_fa rfl underlying99 rfl sizeOf56 rfl) rfl (s2 [] rfl trivial rfl (by kernel_rfl) (st0B (q := 1) hS15 ⟨rfl, rfl⟩ rfl rfl rfl sizeOf56 rfl rfl rfl fun w16 im16 hS16 => ?_))
  refine ⟨st0, ?_⟩
  refine seP (t_then ?_)
  refine sq2 (rg (pv (r_ldS rfl isAgg99 sizeOf99 rfl (hS16.cells0 (i := 1) ⟨rfl, rfl⟩ (o := 0) rfl) (cs := [iv y5.1.Kind, iv y5.1.Pos.Line, iv y5.1.Pos.Col, .string ⟨y5.1.Op.toArray⟩, .string ⟨y5.1.Name.toArray⟩, .int .u32 y5.1.Num, .string ⟨y5.1.Type_.Word.toArray⟩, .string ⟨y5.1.Type_.Name.toArray⟩, iv y5.1.Type_.Stars, .slice a9 n1 c9])) (wl rfl (st0B (q := 2) hS16 ⟨rfl, rfl⟩ rfl rfl rfl sizeOf99 rfl rfl rfl fun w17 im17 hS17 => ?_))))
  refine nil (t_then ?_)
  refine rtn (retD cf115 (plainD (args := [pt b2 0]) Tryz.func115 rfl Tryz.ntmps115 rfl rfl fun J => ?_))
  refine rg (pv (r_ld rfl isAgg41 (hS17.cell0 (i := 4) ⟨rfl, rfl⟩ (j := 0) rfl)) (pv (r_nc rfl) (pv (r_fa rfl underlying43 rfl sizeOf3 rfl) (pv (r_ld rfl isAgg3 (hS17.cellB (i := 6) ⟨rfl, rfl⟩ hL_p0 (j := 3) rfl)) (pv (r_ib rfl rfl rfl) (pv (r_nc rfl) (pv (r_fa rfl underlying43 rfl sizeOf3 rfl) (wl rfl (stB (q := 6) (j := 3) hS17 ⟨rfl, rfl⟩ hL_p0 rfl rfl rfl sizeOf3 rfl rfl rfl fun w18 im18 hS18 => ?_)))))))))
  obtain ⟨T7, im19, hS19, h9⟩ := hS18.seal 0 ⟨rfl, rfl⟩
  have hsh := h9.len
  subst hsh
  have hm := oI hm; subst hm
  exact nil (endO rfl ⟨_, resN (vs := [.agg #[iv y5.1.Kind, iv y5.1.Pos.Line, iv y5.1.Pos.Col, .string ⟨y5.1.Op.toArray⟩, .string ⟨y5.1.Name.toArray⟩, .int .u32 y5.1.Num, .string ⟨y5.1.Type_.Word.toArray⟩, .string ⟨y5.1.Type_.Name.toArray⟩, iv y5.1.Type_.Stars, .slice a9 (List.length ([y2.1, y6.1] : List GExpr)) c9]]) rfl ⟨rvS rfl isAgg99 sizeOf99 rfl (hS19.bx (i := 2) ⟨rfl, rfl⟩), trivial⟩ rfl, ⟨_, rfl, _, (iT im1 (iT im2 (iT im3 (iT im4 (iT im5 (iT im6 (iT im7 (iT im10 (iT im11 (iT im12 (iT im13 (iT im14 (iT im15 (iT im16 (iT im17 (iT im18 im19)))))))))))))))), ⟨_, _, _, _, rfl, hS19.sel [3, 6] rfl, h9, (h8.mono (iT im15 (iT im16 (iT im17 (iT im18 im19))))), trivial⟩⟩⟩)
theorem sp1 : ∀ n, Sp1 (rec1 n)
  | 0 => ⟨(by intros; rename_i h; cases (show (none : Option _) = some _ from h)), (by intros; rename_i h; cases (show (none : Option _) = some _ from h)), (by intros; rename_i h; cases (show (none : Option _) = some _ from h)), (by intros; rename_i h; cases (show (none : Option _) = some _ from h)), (by intros; rename_i h; cases (show (none : Option _) = some _ from h)), (by intros; rename_i h; cases (show (none : Option _) = some _ from h)), (by intros; rename_i h; cases (show (none : Option _) = some _ from h)), (by intros; rename_i h; cases (show (none : Option _) = some _ from h))⟩
  | n + 1 => ⟨tree_reader_bracketed_st (sp1 n), tree_reader_handed_st (sp1 n), tree_reader_prime_st (sp1 n), tree_reader_post_st (sp1 n), tree_reader_unary_st (sp1 n), tree_reader_binary_st (sp1 n), tree_reader_cond_st (sp1 n), tree_reader_assign_st (sp1 n)⟩
theorem tree_reader_bracketed_sim {p0 : TreeReader} {b_p0 o_p0 : Nat} {H_p0 : List Value → Assn} {a1 : OA} {c1 : Nat} {r : Except (TreeRefused × TreeReader) ((List GExpr) × TreeReader)} (hS : Sep g T0 w0 [R, H_p0 [sv a1 p0.l c1, iv p0.end_.Line, iv p0.end_.Col, iv p0.depth]]) (hL_p0 : Ln b_p0 o_p0 H_p0) (h1 : SlR rGToken T0 w0 (sv a1 p0.l c1) p0.l) (hm : tree_reader_bracketed p0 = some r) :
    Calls Tryz.prog 104 #[pt b_p0 o_p0] w0 (exR r (fun r => RetS T0 w0 fun T w v => ∃ (a10 : OA) (n2 : Nat) (c10 : Nat) (a11 : OA) (c11 : Nat), v = .slice a10 n2 c10 ∧ Sep g T w [R, H_p0 [sv a11 r.2.l c11, iv r.2.end_.Line, iv r.2.end_.Col, iv r.2.depth], ownA rGExpr 99 (.slice a10 n2 c10) r.1] ∧ SlR rGToken T w (sv a11 r.2.l c11) r.2.l ∧ True) (fun r => PanS T0 w0 fun T w v => ∃ (a10 : OA) (c10 : Nat), v = .iface 48 (.agg (cTreeRefused r.1).toArray) ∧ Sep g T w [R, H_p0 [sv a10 r.2.l c10, iv r.2.end_.Line, iv r.2.end_.Col, iv r.2.depth]] ∧ SlR rGToken T w (sv a10 r.2.l c10) r.2.l ∧ True)) := (sp1 NN).tree_reader_bracketed hS hL_p0 h1 hm
theorem tree_reader_handed_sim {p0 : TreeReader} {b_p0 o_p0 : Nat} {H_p0 : List Value → Assn} {a1 : OA} {c1 : Nat} {r : Except (TreeRefused × TreeReader) ((List GExpr) × TreeReader)} (hS : Sep g T0 w0 [R, H_p0 [sv a1 p0.l c1, iv p0.end_.Line, iv p0.end_.Col, iv p0.depth]]) (hL_p0 : Ln b_p0 o_p0 H_p0) (h1 : SlR rGToken T0 w0 (sv a1 p0.l c1) p0.l) (hm : tree_reader_handed p0 = some r) :
    Calls Tryz.prog 128 #[pt b_p0 o_p0] w0 (exR r (fun r => RetS T0 w0 fun T w v => ∃ (a21 : OA) (n5 : Nat) (c21 : Nat) (a22 : OA) (c22 : Nat), v = .slice a21 n5 c21 ∧ Sep g T w [R, H_p0 [sv a22 r.2.l c22, iv r.2.end_.Line, iv r.2.end_.Col, iv r.2.depth], ownA rGExpr 99 (.slice a21 n5 c21) r.1] ∧ SlR rGToken T w (sv a22 r.2.l c22) r.2.l ∧ True) (fun r => PanS T0 w0 fun T w v => ∃ (a21 : OA) (c21 : Nat), v = .iface 48 (.agg (cTreeRefused r.1).toArray) ∧ Sep g T w [R, H_p0 [sv a21 r.2.l c21, iv r.2.end_.Line, iv r.2.end_.Col, iv r.2.depth]] ∧ SlR rGToken T w (sv a21 r.2.l c21) r.2.l ∧ True)) := (sp1 NN).tree_reader_handed hS hL_p0 h1 hm
theorem tree_reader_prime_sim {p0 : TreeReader} {b_p0 o_p0 : Nat} {H_p0 : List Value → Assn} {a1 : OA} {c1 : Nat} {r : Except (TreeRefused × TreeReader) (GExpr × TreeReader)} (hS : Sep g T0 w0 [R, H_p0 [sv a1 p0.l c1, iv p0.end_.Line, iv p0.end_.Col, iv p0.depth]]) (hL_p0 : Ln b_p0 o_p0 H_p0) (h1 : SlR rGToken T0 w0 (sv a1 p0.l c1) p0.l) (hm : tree_reader_prime p0 = some r) :
    Calls Tryz.prog 127 #[pt b_p0 o_p0] w0 (exR r (fun r => RetS T0 w0 fun T w v => ∃ (a31 : OA) (c31 : Nat) (a32 : OA) (c32 : Nat), v = .agg (cGExpr r.1 a31 c31).toArray ∧ Sep g T w [R, H_p0 [sv a32 r.2.l c32, iv r.2.end_.Line, iv r.2.end_.Col, iv r.2.depth]] ∧ SlR rGExpr T w (sv a31 r.1.Kids c31) r.1.Kids ∧ SlR rGToken T w (sv a32 r.2.l c32) r.2.l ∧ True) (fun r => PanS T0 w0 fun T w v => ∃ (a31 : OA) (c31 : Nat), v = .iface 48 (.agg (cTreeRefused r.1).toArray) ∧ Sep g T w [R, H_p0 [sv a31 r.2.l c31, iv r.2.end_.Line, iv r.2.end_.Col, iv r.2.depth]] ∧ SlR rGToken T w (sv a31 r.2.l c31) r.2.l ∧ True)) := (sp1 NN).tree_reader_prime hS hL_p0 h1 hm
theorem tree_reader_post_sim {p0 : TreeReader} {b_p0 o_p0 : Nat} {H_p0 : List Value → Assn} {a1 : OA} {c1 : Nat} {r : Except (TreeRefused × TreeReader) (GExpr × TreeReader)} (hS : Sep g T0 w0 [R, H_p0 [sv a1 p0.l c1, iv p0.end_.Line, iv p0.end_.Col, iv p0.depth]]) (hL_p0 : Ln b_p0 o_p0 H_p0) (h1 : SlR rGToken T0 w0 (sv a1 p0.l c1) p0.l) (hm : tree_reader_post p0 = some r) :
    Calls Tryz.prog 126 #[pt b_p0 o_p0] w0 (exR r (fun r => RetS T0 w0 fun T w v => ∃ (a25 : OA) (c25 : Nat) (a26 : OA) (c26 : Nat), v = .agg (cGExpr r.1 a25 c25).toArray ∧ Sep g T w [R, H_p0 [sv a26 r.2.l c26, iv r.2.end_.Line, iv r.2.end_.Col, iv r.2.depth]] ∧ SlR rGExpr T w (sv a25 r.1.Kids c25) r.1.Kids ∧ SlR rGToken T w (sv a26 r.2.l c26) r.2.l ∧ True) (fun r => PanS T0 w0 fun T w v => ∃ (a25 : OA) (c25 : Nat), v = .iface 48 (.agg (cTreeRefused r.1).toArray) ∧ Sep g T w [R, H_p0 [sv a25 r.2.l c25, iv r.2.end_.Line, iv r.2.end_.Col, iv r.2.depth]] ∧ SlR rGToken T w (sv a25 r.2.l c25) r.2.l ∧ True)) := (sp1 NN).tree_reader_post hS hL_p0 h1 hm
theorem tree_reader_unary_sim {p0 : TreeReader} {b_p0 o_p0 : Nat} {H_p0 : List Value → Assn} {a1 : OA} {c1 : Nat} {r : Except (TreeRefused × TreeReader) (GExpr × TreeReader)} (hS : Sep g T0 w0 [R, H_p0 [sv a1 p0.l c1, iv p0.end_.Line, iv p0.end_.Col, iv p0.depth]]) (hL_p0 : Ln b_p0 o_p0 H_p0) (h1 : SlR rGToken T0 w0 (sv a1 p0.l c1) p0.l) (hm : tree_reader_unary p0 = some r) :
    Calls Tryz.prog 122 #[pt b_p0 o_p0] w0 (exR r (fun r => RetS T0 w0 fun T w v => ∃ (a27 : OA) (c27 : Nat) (a28 : OA) (c28 : Nat), v = .agg (cGExpr r.1 a27 c27).toArray ∧ Sep g T w [R, H_p0 [sv a28 r.2.l c28, iv r.2.end_.Line, iv r.2.end_.Col, iv r.2.depth]] ∧ SlR rGExpr T w (sv a27 r.1.Kids c27) r.1.Kids ∧ SlR rGToken T w (sv a28 r.2.l c28) r.2.l ∧ True) (fun r => PanS T0 w0 fun T w v => ∃ (a27 : OA) (c27 : Nat), v = .iface 48 (.agg (cTreeRefused r.1).toArray) ∧ Sep g T w [R, H_p0 [sv a27 r.2.l c27, iv r.2.end_.Line, iv r.2.end_.Col, iv r.2.depth]] ∧ SlR rGToken T w (sv a27 r.2.l c27) r.2.l ∧ True)) := (sp1 NN).tree_reader_unary hS hL_p0 h1 hm
theorem tree_reader_binary_sim {p0 : TreeReader} {b_p0 o_p0 : Nat} {H_p0 : List Value → Assn} {a1 : OA} {c1 : Nat} {p1 : Int} {r : Except (TreeRefused × TreeReader) (GExpr × TreeReader)} (hS : Sep g T0 w0 [R, H_p0 [sv a1 p0.l c1, iv p0.end_.Line, iv p0.end_.Col, iv p0.depth]]) (hL_p0 : Ln b_p0 o_p0 H_p0) (h1 : SlR rGToken T0 w0 (sv a1 p0.l c1) p0.l) (hm : tree_reader_binary p0 p1 = some r) :
    Calls Tryz.prog 116 #[pt b_p0 o_p0, iv p1] w0 (exR r (fun r => RetS T0 w0 fun T w v => ∃ (a13 : OA) (c13 : Nat) (a14 : OA) (c14 : Nat), v = .agg (cGExpr r.1 a13 c13).toArray ∧ Sep g T w [R, H_p0 [sv a14 r.2.l c14, iv r.2.end_.Line, iv r.2.end_.Col, iv r.2.depth]] ∧ SlR rGExpr T w (sv a13 r.1.Kids c13) r.1.Kids ∧ SlR rGToken T w (sv a14 r.2.l c14) r.2.l ∧ True) (fun r => PanS T0 w0 fun T w v => ∃ (a13 : OA) (c13 : Nat), v = .iface 48 (.agg (cTreeRefused r.1).toArray) ∧ Sep g T w [R, H_p0 [sv a13 r.2.l c13, iv r.2.end_.Line, iv r.2.end_.Col, iv r.2.depth]] ∧ SlR rGToken T w (sv a13 r.2.l c13) r.2.l ∧ True)) := (sp1 NN).tree_reader_binary hS hL_p0 h1 hm
theorem tree_reader_cond_sim {p0 : TreeReader} {b_p0 o_p0 : Nat} {H_p0 : List Value → Assn} {a1 : OA} {c1 : Nat} {r : Except (TreeRefused × TreeReader) (GExpr × TreeReader)} (hS : Sep g T0 w0 [R, H_p0 [sv a1 p0.l c1, iv p0.end_.Line, iv p0.end_.Col, iv p0.depth]]) (hL_p0 : Ln b_p0 o_p0 H_p0) (h1 : SlR rGToken T0 w0 (sv a1 p0.l c1) p0.l) (hm : tree_reader_cond p0 = some r) :
    Calls Tryz.prog 99 #[pt b_p0 o_p0] w0 (exR r (fun r => RetS T0 w0 fun T w v => ∃ (a19 : OA) (c19 : Nat) (a20 : OA) (c20 : Nat), v = .agg (cGExpr r.1 a19 c19).toArray ∧ Sep g T w [R, H_p0 [sv a20 r.2.l c20, iv r.2.end_.Line, iv r.2.end_.Col, iv r.2.depth]] ∧ SlR rGExpr T w (sv a19 r.1.Kids c19) r.1.Kids ∧ SlR rGToken T w (sv a20 r.2.l c20) r.2.l ∧ True) (fun r => PanS T0 w0 fun T w v => ∃ (a19 : OA) (c19 : Nat), v = .iface 48 (.agg (cTreeRefused r.1).toArray) ∧ Sep g T w [R, H_p0 [sv a19 r.2.l c19, iv r.2.end_.Line, iv r.2.end_.Col, iv r.2.depth]] ∧ SlR rGToken T w (sv a19 r.2.l c19) r.2.l ∧ True)) := (sp1 NN).tree_reader_cond hS hL_p0 h1 hm
theorem tree_reader_assign_sim {p0 : TreeReader} {b_p0 o_p0 : Nat} {H_p0 : List Value → Assn} {a1 : OA} {c1 : Nat} {r : Except (TreeRefused × TreeReader) (GExpr × TreeReader)} (hS : Sep g T0 w0 [R, H_p0 [sv a1 p0.l c1, iv p0.end_.Line, iv p0.end_.Col, iv p0.depth]]) (hL_p0 : Ln b_p0 o_p0 H_p0) (h1 : SlR rGToken T0 w0 (sv a1 p0.l c1) p0.l) (hm : tree_reader_assign p0 = some r) :
    Calls Tryz.prog 87 #[pt b_p0 o_p0] w0 (exR r (fun r => RetS T0 w0 fun T w v => ∃ (a13 : OA) (c13 : Nat) (a14 : OA) (c14 : Nat), v = .agg (cGExpr r.1 a13 c13).toArray ∧ Sep g T w [R, H_p0 [sv a14 r.2.l c14, iv r.2.end_.Line, iv r.2.end_.Col, iv r.2.depth]] ∧ SlR rGExpr T w (sv a13 r.1.Kids c13) r.1.Kids ∧ SlR rGToken T w (sv a14 r.2.l c14) r.2.l ∧ True) (fun r => PanS T0 w0 fun T w v => ∃ (a13 : OA) (c13 : Nat), v = .iface 48 (.agg (cTreeRefused r.1).toArray) ∧ Sep g T w [R, H_p0 [sv a13 r.2.l c13, iv r.2.end_.Line, iv r.2.end_.Col, iv r.2.depth]] ∧ SlR rGToken T w (sv a13 r.2.l c13) r.2.l ∧ True)) := (sp1 NN).tree_reader_assign hS hL_p0 h1 hm

theorem tree_reader_behind_sim {p0 : TreeReader} {b_p0 o_p0 : Nat} {H_p0 : List Value → Assn} {a1 : OA} {c1 : Nat} {p1 : GVar} {a2 : OA} {c2 : Nat} {r : Except (TreeRefused × TreeReader) (GVar × TreeReader)} (hS : Sep g T0 w0 [R, H_p0 [sv a1 p0.l c1, iv p0.end_.Line, iv p0.end_.Col, iv p0.depth]]) (hL_p0 : Ln b_p0 o_p0 H_p0) (h1 : SlR rGToken T0 w0 (sv a1 p0.l c1) p0.l) (h2 : SlR (rInt .u32) T0 w0 (sv a2 p1.Dims c2) p1.Dims) (hm : tree_reader_behind p0 p1 = some r) :
    Calls Tryz.prog 66 #[pt b_p0 o_p0, .agg #[iv p1.Pos.Line, iv p1.Pos.Col, .string ⟨p1.Type_.Word.toArray⟩, .string ⟨p1.Type_.Name.toArray⟩, iv p1.Type_.Stars, .string ⟨p1.Name.toArray⟩, sv a2 p1.Dims c2, .slice none 0 0, .bool p1.Brace]] w0 (exR r (fun r => RetS T0 w0 fun T w v => ∃ (a34 : OA) (c34 : Nat) (a35 : OA) (c35 : Nat) (a36 : OA) (c36 : Nat), v = .agg (cGVar r.1 a34 c34 a35 c35).toArray ∧ Sep g T w [R, H_p0 [sv a36 r.2.l c36, iv r.2.end_.Line, iv r.2.end_.Col, iv r.2.depth]] ∧ SlR (rInt .u32) T w (sv a34 r.1.Dims c34) r.1.Dims ∧ SlR rGExpr T w (sv a35 r.1.Init c35) r.1.Init ∧ SlR rGToken T w (sv a36 r.2.l c36) r.2.l ∧ True) (fun r => PanS T0 w0 fun T w v => ∃ (a34 : OA) (c34 : Nat), v = .iface 48 (.agg (cTreeRefused r.1).toArray) ∧ Sep g T w [R, H_p0 [sv a34 r.2.l c34, iv r.2.end_.Line, iv r.2.end_.Col, iv r.2.depth]] ∧ SlR rGToken T w (sv a34 r.2.l c34) r.2.l ∧ True)) := by
  refine enter (args := [pt b_p0 o_p0, .agg #[iv p1.Pos.Line, iv p1.Pos.Col, .string ⟨p1.Type_.Word.toArray⟩, .string ⟨p1.Type_.Name.toArray⟩, iv p1.Type_.Stars, .string ⟨p1.Name.toArray⟩, sv a2 p1.Dims c2, .slice none 0 0, .bool p1.Brace]]) Tryz.func66 rfl Tryz.ntmps66 rfl fun J => ?_
  unfold tree_reader_behind at hm
  refine sq2 (rg (wl rfl (bxS (cs := [iv p1.Pos.Line, iv p1.Pos.Col, .string ⟨p1.Type_.Word.toArray⟩, .string ⟨p1.Type_.Name.toArray⟩, iv p1.Type_.Stars, .string ⟨p1.Name.toArray⟩, sv a2 p1.Dims c2, .slice none 0 0, .bool p1.Brace]) rfl rfl hS fun w1 b1 im1 hS1 => ?_)))
  refine wl rfl (alS (zs := [iv 0, iv 0, .string ⟨([] : List UInt8).toArray⟩, .string ⟨([] : List UInt8).toArray⟩, iv 0, .string ⟨([] : List UInt8).toArray⟩, .slice none 0 0, .slice none 0 0, .bool false]) zeroValue58 rfl hS1 fun w2 b2 im2 hS2 => ?_)
  refine nil (t_then ?_)
  refine sq2 (rg (pv (r_mp rfl) (?_)))
  obtain ⟨y1, hx1, hm⟩ := bindS hm
  rcases y1 with e7 | y1
  · have hm := exC_error hm
    refine wl rfl (calP cf85 rfl (tree_reader_dims_sim (p0 := p0) (H_p0 := H_p0) (hS2.bun [0, 1, 2] [3] rfl) hL_p0 (h1.mono (iT im1 im2)) hx1) rfl fun v17 T21 w32 im34 rv17 => ?_)
    obtain ⟨a33, c33, rfl, hS35, h26, _⟩ := rv17
    have hS35 := hS35.unb
    have hm := oI hm; subst hm
    exact p_then (panE ⟨_, rfl, _, (iT im1 (iT im2 im34)), ⟨_, _, rfl, hS35.sel [2, 3] rfl, h26, trivial⟩⟩)
  have hm := exC_ok hm
  refine wl rfl (calS cf85 rfl (tree_reader_dims_sim (p0 := p0) (H_p0 := H_p0) (hS2.bun [0, 1, 2] [3] rfl) hL_p0 (h1.mono (iT im1 im2)) hx1) rfl fun v1 T1 w3 im3 rv1 => ?_)
  obtain ⟨a4, n1, c4, a5, c5, rfl, hS3, h4, _⟩ := rv1
  have hS3 := hS3.unb
  refine pv (r_fa rfl underlying58 rfl sizeOf55 rfl) (wl rfl (st0B (q := 1) hS3 ⟨rfl, rfl⟩ rfl rfl rfl sizeOf55 rfl rfl rfl fun w4 im4 hS4 => ?_))
  refine nil (t_then ?_)
  obtain ⟨kk1, hkk1, hm⟩ := jn_open hm
  have hS5 := hS4.nilO rGExpr 99
  refine cut (fun a w5 => ∃ (J : JV) (T2 : TP) (x4 : TreeReader) (x3 : GVar) (a6 : OA) (n2 : Nat) (c6 : Nat) (a7 : OA) (n3 : Nat) (c7 : Nat) (a8 : OA) (c8 : Nat), a = env (nf 40) J [(0, pt b_p0 o_p0), (3, pt b1 0), (4, pt b2 0)] ∧ Im T1 w4 T2 w5 ∧ Sep g T2 w5 [ownA rGExpr 99 (.slice a6 n2 c6) x3.Init, boxA b2 [iv 0, iv 0, .string ⟨([] : List UInt8).toArray⟩, .string ⟨([] : List UInt8).toArray⟩, iv 0, .string ⟨([] : List UInt8).toArray⟩, .slice none 0 0, .slice none 0 0, .bool false], boxA b1 [iv x3.Pos.Line, iv x3.Pos.Col, .string ⟨x3.Type_.Word.toArray⟩, .string ⟨x3.Type_.Name.toArray⟩, iv x3.Type_.Stars, .string ⟨x3.Name.toArray⟩, .slice a7 n3 c7, .slice a6 n2 c6, .bool x3.Brace], R, H_p0 [sv a8 x4.l c8, iv x4.end_.Line, iv x4.end_.Col, iv x4.depth], ownA (rInt .u32) 87 (.slice a7 n3 c7) x3.Dims] ∧ SlR rGToken T2 w5 (sv a8 x4.l c8) x4.l ∧ kk1 x3 x4 = some r) ?_ ?_
  · refine sq2 ?_
    obtain ⟨y2, hx2, hm⟩ := bindS hm
    refine rg (pv (r_mp rfl) (wl rfl (calS cf82 rfl (tree_reader_take_sim (p0 := y1.2) (H_p0 := H_p0) (p1 := ([61] : List UInt8)) (hS5.bun [0, 1, 2, 3, 5] [4] rfl) hL_p0 (h4.mono im4) hx2) rfl fun v2 T3 w6 im6 rv2 => ?_)))
    obtain ⟨a9, c9, rfl, hS6, h6, _⟩ := rv2
    have hS6 := hS6.unb
    refine nil (t_then ?_)
    refine cnd rfl (fun hb1 => ?_) (fun hb1 => ?_)
    · have hm := ctrue hb1 hm
      refine sq2 ?_
      obtain ⟨y3, hx3, hm⟩ := bindS hm
      refine rg (pv (r_mp rfl) (wl rfl (calS cf82 rfl (tree_reader_take_sim (p0 := y2.2) (H_p0 := H_p0) (p1 := ([123] : List UInt8)) (hS6.bun [0, 1, 2, 3, 4] [5] rfl) hL_p0 h6 hx3) rfl fun v3 T4 w7 im7 rv3 => ?_)))
      obtain ⟨a10, c10, rfl, hS7, h7, _⟩ := rv3
      have hS7 := hS7.unb
      refine pv (r_fa rfl underlying58 rfl sizeOf4 rfl) (wl rfl (st0B (q := 2) hS7 ⟨rfl, rfl⟩ rfl rfl rfl sizeOf4 rfl rfl rfl fun w8 im8 hS8 => ?_))
      refine nil (t_then ?_)
      refine sq2 (rsP [0, 1, 0, 2, 2, 2, 0, 2] [0, 1, 2, 3, 4, 5, 6, 7] mix (by kernel_rfl) hS8.lt (pq_then (pq_then (pq_body))) fun w9 i1 => ?_)
      have im9 := i1.imm
      have hS9 := hS8.keep i1 (fun _ h => h)
      refine s0 rfl trivial (fun _ => r_fa rfl underlying58 rfl sizeOf56 rfl) rfl (s1 rfl trivial (r_ld rfl isAgg56 (hS9.cell0 (i := 2) ⟨rfl, rfl⟩ (j := 7) rfl)) rfl (s0 rfl trivial (fun _ => r_mp rfl) rfl (?_)))
      obtain ⟨y4, hx4, hm⟩ := bindS hm
      rcases y4 with e5 | y4
      · have hm := exC_error hm
        refine s2 [(1, .slice none 0 0)] rfl trivial rfl (by kernel_rfl) (calP cf87 rfl (tree_reader_assign_sim (p0 := y3.2) (H_p0 := H_p0) (hS9.bun [0, 1, 2, 3, 4] [5] rfl) hL_p0 (h7.mono (iT im8 im9)) hx4) rfl fun v14 T16 w28 im28 rv14 => ?_)
        obtain ⟨a30, c30, rfl, hS28, h21, _⟩ := rv14
        have hS28 := hS28.unb
        have hm := oI hm; subst hm
        exact p_then (p_then (panE ⟨_, rfl, _, (iT im1 (iT im2 (iT im3 (iT im4 (iT im6 (iT im7 (iT im8 (iT im9 im28)))))))), ⟨_, _, rfl, hS28.sel [3, 5] rfl, h21, trivial⟩⟩))
      have hm := exC_ok hm
      refine s2 [(1, .slice none 0 0)] rfl trivial rfl (by kernel_rfl) (calS cf87 rfl (tree_reader_assign_sim (p0 := y3.2) (H_p0 := H_p0) (hS9.bun [0, 1, 2, 3, 4] [5] rfl) hL_p0 (h7.mono (iT im8 im9)) hx4) rfl fun v4 T5 w10 im10 rv4 => ?_)
      obtain ⟨a11, c11, a12, c12, rfl, hS10, h8, h9, _⟩ := rv4
      have hS10 := hS10.unb
      refine ⟨st1 rfl (r_ld rfl isAgg56 (hS10.cell0 (i := 2) ⟨rfl, rfl⟩ (j := 7) rfl)) (st0), ?_⟩
      refine s2 [(1, .slice none 0 0)] rfl trivial rfl (by kernel_rfl) (bsS (r := rGExpr) (l := ([y4.1] : List GExpr)) (css := [(cGExpr y4.1 a11 c11)]) hS10 underlying56 sizeOf99 zeroValue99 rfl rfl (by kernel_rfl) rfl ⟨(rGExpr_mk (x := y4.1) h8 : rGExpr.rp _ _ _ _), trivial⟩ rfl rfl fun w11 a13 n4 c13 im11 hS11 => ?_)
      refine ⟨st1 rfl (r_ld rfl isAgg56 (hS11.cell0 (i := 3) ⟨rfl, rfl⟩ (j := 7) rfl)) (st0), ?_⟩
      obtain ⟨z_1, hro1, hm⟩ := bindS hm
      refine s2 [] rfl trivial rfl (by kernel_rfl) (apO (q := 1) (l := ([] : List GExpr)) (us := ([y4.1] : List GExpr)) hS11 ⟨rfl, rfl⟩ rfl rfl (hS11.own (i := 0) ⟨rfl, rfl⟩).v underlying56 el99 (room_some hro1) fun w12 a14 n5 c14 im12 hS12 => ?_)
      refine ⟨st0, ?_⟩
      refine s0 rfl trivial (fun _ => r_fa rfl underlying58 rfl sizeOf56 rfl) rfl (s2 [] rfl trivial rfl (by kernel_rfl) (st0B (q := 3) hS12 ⟨rfl, rfl⟩ rfl rfl rfl sizeOf56 rfl rfl rfl fun w13 im13 hS13 => ?_))
      refine ⟨st0, ?_⟩
      refine seP (t_then ?_)
      refine sq2 ?_
      obtain ⟨o1, ho1, hq1⟩ := bindS hm
      obtain ⟨bd1, hbd1, ho1⟩ := loop_open ho1
      refine blk (wp_loop_ghost (fun m a w14 => ∃ (J : JV) (T6 : TP) (x8 : TreeReader) (x7 : GVar) (a15 : OA) (n6 : Nat) (c15 : Nat) (a16 : OA) (n7 : Nat) (c16 : Nat) (a17 : OA) (c17 : Nat), a = env (nf 40) J [(0, pt b_p0 o_p0), (3, pt b1 0), (4, pt b2 0)] ∧ Im T5 w13 T6 w14 ∧ Sep g T6 w14 [ownA rGExpr 99 (.slice a15 n6 c15) x7.Init, boxA b2 [iv 0, iv 0, .string ⟨([] : List UInt8).toArray⟩, .string ⟨([] : List UInt8).toArray⟩, iv 0, .string ⟨([] : List UInt8).toArray⟩, .slice none 0 0, .slice none 0 0, .bool false], boxA b1 [iv x7.Pos.Line, iv x7.Pos.Col, .string ⟨x7.Type_.Word.toArray⟩, .string ⟨x7.Type_.Name.toArray⟩, iv x7.Type_.Stars, .string ⟨x7.Name.toArray⟩, .slice a16 n7 c16, .slice a15 n6 c15, .bool x7.Brace], R, ownA (rInt .u32) 87 (.slice a16 n7 c16) x7.Dims, H_p0 [sv a17 x8.l c17, iv x8.end_.Line, iv x8.end_.Col, iv x8.depth]] ∧ SlR rGToken T6 w14 (sv a17 x8.l c17) x8.l ∧ loopM bd1 m (x7, x8) = some o1) NN ⟨_, _, y4.2, ({ p1 with Dims := y1.1, Init := ([] : List GExpr) ++ ([y4.1] : List GExpr), Brace := y3.1 }), _, _, _, _, _, _, _, _, env_has ⟨rfl, rfl, rfl, trivial⟩, Im.refl, hS13.sel [1, 2, 3, 4, 5, 6] rfl, (h9.mono (iT im11 (iT im12 im13))), ho1⟩ ?_)
      rintro m _ w14 ⟨J, T6, x8, x7, a15, n6, c15, a16, n7, c16, a17, c17, rfl, im14, hS14, h10, ho1⟩
      obtain ⟨m1, z1, rfl, hm, hn1⟩ := loop_round ho1
      rw [hbd1] at hm
      refine sq2 (sq2 (rg (pv (r_fa rfl underlying58 rfl sizeOf4 rfl) (pv (r_ld rfl isAgg4 (hS14.cell0 (i := 2) ⟨rfl, rfl⟩ (j := 8) rfl)) (pv (r_mb rfl) (?_))))))
      rcases Bool.eq_false_or_eq_true x7.Brace with hb2 | hb2
      · have hm := ctrue hb2 hm
        obtain ⟨y5, hx5, hm⟩ := bindS hm
        refine gT (d0 := 22) rfl rfl hb2 (pv (r_mp rfl) (gT (d0 := 22) rfl rfl hb2 (wl rfl (calS cf82 rfl (tree_reader_take_sim (p0 := x8) (H_p0 := H_p0) (p1 := ([44] : List UInt8)) (hS14.bun [0, 1, 2, 3, 4] [5] rfl) hL_p0 h10 hx5) rfl fun v5 T7 w15 im15 rv5 => ?_))))
        obtain ⟨a18, c18, rfl, hS15, h11, _⟩ := rv5
        have hS15 := hS15.unb
        refine pv (r_pkt rfl hb2 rfl) (nil (t_then ?_))
        refine cnd rfl (fun hb3 => ?_) (fun hb3 => ?_)
        · have hm := ctrue hb3 hm
          refine skp (t_then ?_)
          refine blk (rsP [0, 1, 0, 2, 2, 2, 0, 2] [0, 1, 2, 3, 4, 5, 6, 7] mix (by kernel_rfl) hS15.lt (pq_blk (pq_then (pq_blk (pq_then (pq_then (pq_body)))))) fun w16 i2 => ?_)
          have im16 := i2.imm
          have hS16 := hS15.keep i2 (fun _ h => h)
          refine s0 rfl trivial (fun _ => r_fa rfl underlying58 rfl sizeOf56 rfl) rfl (s1 rfl trivial (r_ld rfl isAgg56 (hS16.cell0 (i := 2) ⟨rfl, rfl⟩ (j := 7) rfl)) rfl (s0 rfl trivial (fun _ => r_mp rfl) rfl (?_)))
          obtain ⟨y6, hx6, hm⟩ := bindS hm
          rcases y6 with e1 | y6
          · have hm := exC_error hm
            refine s2 [(1, .slice a15 n6 c15)] rfl trivial rfl (by kernel_rfl) (calP cf87 rfl (tree_reader_assign_sim (p0 := y5.2) (H_p0 := H_p0) (hS16.bun [0, 1, 2, 3, 4] [5] rfl) hL_p0 (h11.mono im16) hx6) rfl fun v7 T9 w21 im21 rv7 => ?_)
            obtain ⟨a23, c23, rfl, hS21, h14, _⟩ := rv7
            have hS21 := hS21.unb
            have hm := oI hm; subst hm
            have hn1 : _ = Lp.ret _ := hn1
            subst hn1
            have hm := thn_ret hq1
            have hm := oI hm; subst hm
            exact p_blk (p_then (p_blk (p_then (p_then (panE ⟨_, rfl, _, (iT im1 (iT im2 (iT im3 (iT im4 (iT im6 (iT im7 (iT im8 (iT im9 (iT im10 (iT im11 (iT im12 (iT im13 (iT im14 (iT im15 (iT im16 im21))))))))))))))), ⟨_, _, rfl, hS21.sel [3, 5] rfl, h14, trivial⟩⟩)))))
          have hm := exC_ok hm
          refine s2 [(1, .slice a15 n6 c15)] rfl trivial rfl (by kernel_rfl) (calS cf87 rfl (tree_reader_assign_sim (p0 := y5.2) (H_p0 := H_p0) (hS16.bun [0, 1, 2, 3, 4] [5] rfl) hL_p0 (h11.mono im16) hx6) rfl fun v6 T8 w17 im17 rv6 => ?_)
          obtain ⟨a19, c19, a20, c20, rfl, hS17, h12, h13, _⟩ := rv6
          have hS17 := hS17.unb
          refine ⟨st1 rfl (r_ld rfl isAgg56 (hS17.cell0 (i := 2) ⟨rfl, rfl⟩ (j := 7) rfl)) (st0), ?_⟩
          refine s2 [(1, .slice a15 n6 c15)] rfl trivial rfl (by kernel_rfl) (bsS (r := rGExpr) (l := ([y6.1] : List GExpr)) (css := [(cGExpr y6.1 a19 c19)]) hS17 underlying56 sizeOf99 zeroValue99 rfl rfl (by kernel_rfl) rfl ⟨(rGExpr_mk (x := y6.1) h12 : rGExpr.rp _ _ _ _), trivial⟩ rfl rfl fun w18 a21 n8 c21 im18 hS18 => ?_)
          refine ⟨st1 rfl (r_ld rfl isAgg56 (hS18.cell0 (i := 3) ⟨rfl, rfl⟩ (j := 7) rfl)) (st0), ?_⟩
          obtain ⟨z_2, hro2, hm⟩ := bindS hm
          refine s2 [] rfl trivial rfl (by kernel_rfl) (apO (q := 1) (l := x7.Init) (us := ([y6.1] : List GExpr)) hS18 ⟨rfl, rfl⟩ rfl rfl (hS18.own (i := 0) ⟨rfl, rfl⟩).v underlying56 el99 (room_some hro2) fun w19 a22 n9 c22 im19 hS19 => ?_)
          refine ⟨st0, ?_⟩
          refine s0 rfl trivial (fun _ => r_fa rfl underlying58 rfl sizeOf56 rfl) rfl (s2 [] rfl trivial rfl (by kernel_rfl) (st0B (q := 3) hS19 ⟨rfl, rfl⟩ rfl rfl rfl sizeOf56 rfl rfl rfl fun w20 im20 hS20 => ?_))
          refine ⟨st0, ?_⟩
          have hm := oI hm; subst hm
          exact seP (t_blk (t_then ⟨m1, Nat.lt_succ_self _, _, _, y6.2, ({ x7 with Init := x7.Init ++ ([y6.1] : List GExpr) }), _, _, _, _, _, _, _, _, env_has ⟨rfl, rfl, rfl, trivial⟩, (iT im14 (iT im15 (iT im16 (iT im17 (iT im18 (iT im19 im20)))))), hS20.sel [1, 2, 3, 4, 5, 6] rfl, (h13.mono (iT im18 (iT im19 im20))), hn1⟩))
        have hm := cfalse hb3 hm
        have hm := oI hm; subst hm
        have hn1 : _ = Lp.brk _ := hn1
        subst hn1
        have hm := thn_brk hq1
        refine xt (x_then (x_then (x_eq (t_then ?_))))
        refine sq2 (rg (pv (r_fa rfl underlying58 rfl sizeOf4 rfl) (pv (r_ld rfl isAgg4 (hS15.cell0 (i := 2) ⟨rfl, rfl⟩ (j := 8) rfl)) (nil (t_then ?_)))))
        refine cnd rfl (fun hb5 => ?_) (fun hb5 => ?_)
        · have hm := ctrue hb5 hm
          refine rg (pv (r_mp rfl) (?_))
          obtain ⟨y8, hx8, hm⟩ := bindS hm
          rcases y8 with e3 | y8
          · have hm := exC_error hm
            refine wl rfl (calP cf62 rfl (tree_reader_must_sim (p0 := y5.2) (H_p0 := H_p0) (p1 := ([125] : List UInt8)) (hS15.bun [0, 1, 2, 3, 4] [5] rfl) hL_p0 h11 hx8) rfl fun v11 T13 w25 im25 rv11 => ?_)
            obtain ⟨a27, c27, rfl, hS25, h18, _⟩ := rv11
            have hS25 := hS25.unb
            have hm := oI hm; subst hm
            exact p_then (panE ⟨_, rfl, _, (iT im1 (iT im2 (iT im3 (iT im4 (iT im6 (iT im7 (iT im8 (iT im9 (iT im10 (iT im11 (iT im12 (iT im13 (iT im14 (iT im15 im25)))))))))))))), ⟨_, _, rfl, hS25.sel [3, 5] rfl, h18, trivial⟩⟩)
          have hm := exC_ok hm
          refine wl rfl (calS cf62 rfl (tree_reader_must_sim (p0 := y5.2) (H_p0 := H_p0) (p1 := ([125] : List UInt8)) (hS15.bun [0, 1, 2, 3, 4] [5] rfl) hL_p0 h11 hx8) rfl fun v10 T12 w24 im24 rv10 => ?_)
          obtain ⟨a26, c26, rfl, hS24, h17, _⟩ := rv10
          have hS24 := hS24.unb
          exact nil (t_then ⟨_, _, y8, x7, _, _, _, _, _, _, _, _, env_has ⟨rfl, rfl, rfl, trivial⟩, (iT im6 (iT im7 (iT im8 (iT im9 (iT im10 (iT im11 (iT im12 (iT im13 (iT im14 (iT im15 im24)))))))))), hS24.sel [0, 1, 2, 3, 5, 4] rfl, h17, hm⟩)
        have hm := cfalse hb5 hm
        exact skp (t_then ⟨_, _, y5.2, x7, _, _, _, _, _, _, _, _, env_has ⟨rfl, rfl, rfl, trivial⟩, (iT im6 (iT im7 (iT im8 (iT im9 (iT im10 (iT im11 (iT im12 (iT im13 (iT im14 im15))))))))), hS15.sel [0, 1, 2, 3, 5, 4] rfl, h11, hm⟩)
      have hm := cfalse hb2 hm
      refine gF (d0 := 22) rfl rfl (by rw [hb2]; rfl) (gF (d0 := 22) rfl rfl (by rw [hb2]; rfl) (pv (r_pkf rfl hb2 rfl) (nil (t_then ?_))))
      refine cnd (b := false) rfl (fun h => nomatch h) (fun _ => ?_)
      have hm := oI hm; subst hm
      have hn1 : _ = Lp.brk _ := hn1
      subst hn1
      have hm := thn_brk hq1
      refine xt (x_then (x_then (x_eq (t_then ?_))))
      refine sq2 (rg (pv (r_fa rfl underlying58 rfl sizeOf4 rfl) (pv (r_ld rfl isAgg4 (hS14.cell0 (i := 2) ⟨rfl, rfl⟩ (j := 8) rfl)) (nil (t_then ?_)))))
      refine cnd rfl (fun hb7 => ?_) (fun hb7 => ?_)
      · have hm := ctrue hb7 hm
        refine rg (pv (r_mp rfl) (?_))
        obtain ⟨y9, hx9, hm⟩ := bindS hm
        rcases y9 with e4 | y9
        · have hm := exC_error hm
          refine wl rfl (calP cf62 rfl (tree_reader_must_sim (p0 := x8) (H_p0 := H_p0) (p1 := ([125] : List UInt8)) (hS14.bun [0, 1, 2, 3, 4] [5] rfl) hL_p0 h10 hx9) rfl fun v13 T15 w27 im27 rv13 => ?_)
          obtain ⟨a29, c29, rfl, hS27, h20, _⟩ := rv13
          have hS27 := hS27.unb
          have hm := oI hm; subst hm
          exact p_then (panE ⟨_, rfl, _, (iT im1 (iT im2 (iT im3 (iT im4 (iT im6 (iT im7 (iT im8 (iT im9 (iT im10 (iT im11 (iT im12 (iT im13 (iT im14 im27))))))))))))), ⟨_, _, rfl, hS27.sel [3, 5] rfl, h20, trivial⟩⟩)
        have hm := exC_ok hm
        refine wl rfl (calS cf62 rfl (tree_reader_must_sim (p0 := x8) (H_p0 := H_p0) (p1 := ([125] : List UInt8)) (hS14.bun [0, 1, 2, 3, 4] [5] rfl) hL_p0 h10 hx9) rfl fun v12 T14 w26 im26 rv12 => ?_)
        obtain ⟨a28, c28, rfl, hS26, h19, _⟩ := rv12
        have hS26 := hS26.unb
        exact nil (t_then ⟨_, _, y9, x7, _, _, _, _, _, _, _, _, env_has ⟨rfl, rfl, rfl, trivial⟩, (iT im6 (iT im7 (iT im8 (iT im9 (iT im10 (iT im11 (iT im12 (iT im13 (iT im14 im26))))))))), hS26.sel [0, 1, 2, 3, 5, 4] rfl, h19, hm⟩)
      have hm := cfalse hb7 hm
      exact skp (t_then ⟨_, _, x8, x7, _, _, _, _, _, _, _, _, env_has ⟨rfl, rfl, rfl, trivial⟩, (iT im6 (iT im7 (iT im8 (iT im9 (iT im10 (iT im11 (iT im12 (iT im13 im14)))))))), hS14.sel [0, 1, 2, 3, 5, 4] rfl, h10, hm⟩)
    have hm := cfalse hb1 hm
    exact skp (t_then ⟨_, _, y2.2, ({ p1 with Dims := y1.1, Init := [] }), _, _, _, _, _, _, _, _, env_has ⟨rfl, rfl, rfl, trivial⟩, im6, hS6.sel [0, 1, 2, 3, 5, 4] rfl, h6, hm⟩)
  rintro _ w5 ⟨J, T2, x4, x3, a6, n2, c6, a7, n3, c7, a8, c8, rfl, im5, hS29, h5, hm⟩
  rw [hkk1] at hm
  refine sq2 (rg (pv (r_mp rfl) (?_)))
  obtain ⟨y10, hx10, hm⟩ := bindS hm
  rcases y10 with e6 | y10
  · have hm := exC_error hm
    refine wl rfl (calP cf62 rfl (tree_reader_must_sim (p0 := x4) (H_p0 := H_p0) (p1 := ([59] : List UInt8)) (hS29.bun [0, 1, 2, 3, 5] [4] rfl) hL_p0 h5 hx10) rfl fun v16 T20 w31 im33 rv16 => ?_)
    obtain ⟨a32, c32, rfl, hS34, h25, _⟩ := rv16
    have hS34 := hS34.unb
    have hm := oI hm; subst hm
    exact p_then (panE ⟨_, rfl, _, (iT im1 (iT im2 (iT im3 (iT im4 (iT im5 im33))))), ⟨_, _, rfl, hS34.sel [3, 5] rfl, h25, trivial⟩⟩)
  have hm := exC_ok hm
  refine wl rfl (calS cf62 rfl (tree_reader_must_sim (p0 := x4) (H_p0 := H_p0) (p1 := ([59] : List UInt8)) (hS29.bun [0, 1, 2, 3, 5] [4] rfl) hL_p0 h5 hx10) rfl fun v15 T17 w29 im29 rv15 => ?_)
  obtain ⟨a31, c31, rfl, hS30, h22, _⟩ := rv15
  have hS30 := hS30.unb
  refine nil (t_then ?_)
  refine sq2 (rg (pv (r_ldS rfl isAgg58 sizeOf58 rfl (hS30.cells0 (i := 2) ⟨rfl, rfl⟩ (o := 0) rfl) (cs := [iv x3.Pos.Line, iv x3.Pos.Col, .string ⟨x3.Type_.Word.toArray⟩, .string ⟨x3.Type_.Name.toArray⟩, iv x3.Type_.Stars, .string ⟨x3.Name.toArray⟩, .slice a7 n3 c7, .slice a6 n2 c6, .bool x3.Brace])) (wl rfl (st0B (q := 1) hS30 ⟨rfl, rfl⟩ rfl rfl rfl sizeOf58 rfl rfl rfl fun w30 im30 hS31 => ?_))))
  refine nil (t_then ?_)
  obtain ⟨T18, im31, hS32, h23⟩ := hS31.seal 4 ⟨rfl, rfl⟩
  have hsh := h23.len
  subst hsh
  obtain ⟨T19, im32, hS33, h24⟩ := hS32.seal 0 ⟨rfl, rfl⟩
  have hsh := h24.len
  subst hsh
  have hm := oI hm; subst hm
  exact rtn (retN (vs := [.agg (cGVar x3 a7 c7 a6 c6).toArray]) rfl ⟨rvS rfl isAgg58 sizeOf58 rfl (hS33.bx (i := 1) ⟨rfl, rfl⟩), trivial⟩ rfl ⟨_, rfl, _, (iT im1 (iT im2 (iT im3 (iT im4 (iT im5 (iT im29 (iT im30 (iT im31 im32)))))))), ⟨_, _, _, _, _, _, rfl, hS33.sel [3, 5] rfl, (h23.mono im32), h24, (h22.mono (iT im30 (iT im31 im32))), trivial⟩⟩)

theorem tree_reader_params_sim {p0 : TreeReader} {b_p0 o_p0 : Nat} {H_p0 : List Value → Assn} {a1 : OA} {c1 : Nat} {r : Except (TreeRefused × TreeReader) ((List GVar) × TreeReader)} (hS : Sep g T0 w0 [R, H_p0 [sv a1 p0.l c1, iv p0.end_.Line, iv p0.end_.Col, iv p0.depth]]) (hL_p0 : Ln b_p0 o_p0 H_p0) (h1 : SlR rGToken T0 w0 (sv a1 p0.l c1) p0.l) (hm : tree_reader_params p0 = some r) :
    Calls Tryz.prog 67 #[pt b_p0 o_p0] w0 (exR r (fun r => RetS T0 w0 fun T w v => ∃ (a19 : OA) (n4 : Nat) (c19 : Nat) (a20 : OA) (c20 : Nat), v = .slice a19 n4 c19 ∧ Sep g T w [R, H_p0 [sv a20 r.2.l c20, iv r.2.end_.Line, iv r.2.end_.Col, iv r.2.depth], ownA rGVar 58 (.slice a19 n4 c19) r.1] ∧ SlR rGToken T w (sv a20 r.2.l c20) r.2.l ∧ True) (fun r => PanS T0 w0 fun T w v => ∃ (a19 : OA) (c19 : Nat), v = .iface 48 (.agg (cTreeRefused r.1).toArray) ∧ Sep g T w [R, H_p0 [sv a19 r.2.l c19, iv r.2.end_.Line, iv r.2.end_.Col, iv r.2.depth]] ∧ SlR rGToken T w (sv a19 r.2.l c19) r.2.l ∧ True)) := by
  refine enter (args := [pt b_p0 o_p0]) Tryz.func67 rfl Tryz.ntmps67 rfl fun J => ?_
  unfold tree_reader_params at hm
  refine sq2 (rg (pv (r_zs rfl) (nil (t_then ?_))))
  refine sq2 (rg (pv (r_zs rfl) (nil (t_then ?_))))
  refine sq2 (rg (pv (r_mp rfl) (?_)))
  obtain ⟨y1, hx1, hm⟩ := bindS hm
  rcases y1 with e5 | y1
  · have hm := exC_error hm
    refine wl rfl (calP cf62 rfl (tree_reader_must_sim (p0 := p0) (H_p0 := H_p0) (p1 := ([40] : List UInt8)) (hS.bun [0] [1] rfl) hL_p0 h1 hx1) rfl fun v15 T17 w22 im22 rv15 => ?_)
    obtain ⟨a18, c18, rfl, hS24, h15, _⟩ := rv15
    have hS24 := hS24.unb
    have hm := oI hm; subst hm
    exact p_then (panE ⟨_, rfl, _, im22, ⟨_, _, rfl, hS24.sel [0, 1] rfl, h15, trivial⟩⟩)
  have hm := exC_ok hm
  refine wl rfl (calS cf62 rfl (tree_reader_must_sim (p0 := p0) (H_p0 := H_p0) (p1 := ([40] : List UInt8)) (hS.bun [0] [1] rfl) hL_p0 h1 hx1) rfl fun v1 T1 w1 im1 rv1 => ?_)
  obtain ⟨a2, c2, rfl, hS1, h2, _⟩ := rv1
  have hS1 := hS1.unb
  refine nil (t_then ?_)
  obtain ⟨kk1, hkk1, hm⟩ := jn_open hm
  refine cut (fun a w2 => ∃ (J : JV) (T2 : TP) (x1 : TreeReader) (a3 : OA) (c3 : Nat), a = env (nf 35) J [(0, pt b_p0 o_p0), (3, .slice none 0 0)] ∧ Im T1 w1 T2 w2 ∧ Sep g T2 w2 [R, H_p0 [sv a3 x1.l c3, iv x1.end_.Line, iv x1.end_.Col, iv x1.depth]] ∧ SlR rGToken T2 w2 (sv a3 x1.l c3) x1.l ∧ kk1 x1 = some r) ?_ ?_
  · refine sq2 ?_
    obtain ⟨y2, hx2, hm⟩ := bindS hm
    refine rg (pv (r_mp rfl) (wl rfl (calS cf60 rfl (tree_reader_is_sim (p0 := y1) (H_p0 := H_p0) (p1 := ([118, 111, 105, 100] : List UInt8)) (hS1.bun [0] [1] rfl) hL_p0 h2 hx2) rfl fun v2 T3 w3 im3 rv2 => ?_)))
    obtain ⟨rfl, hS2, _⟩ := rv2
    have hS2 := hS2.unb
    refine pv (r_mb rfl) (?_)
    rcases Bool.eq_false_or_eq_true y2 with hb1 | hb1
    · have hm := ctrue hb1 hm
      obtain ⟨y3, hx3, hm⟩ := bindS hm
      refine gT (d0 := 9) rfl rfl hb1 (pv (r_mp rfl) (gT (d0 := 9) rfl rfl hb1 (wl rfl (calS cf61 rfl (tree_reader_peek_sim (p0 := y1) (H_p0 := H_p0) (p1 := 1) (p2 := ([41] : List UInt8)) (hS2.bun [0] [1] rfl) hL_p0 (h2.mono im3) hx3) rfl fun v3 T4 w4 im4 rv3 => ?_))))
      obtain ⟨rfl, hS3, _⟩ := rv3
      have hS3 := hS3.unb
      refine pv (r_pkt rfl hb1 rfl) (nil (t_then ?_))
      refine cnd rfl (fun hb2 => ?_) (fun hb2 => ?_)
      · have hm := ctrue hb2 hm
        refine rg (pv (r_mp rfl) (?_))
        obtain ⟨y4, hx4, hm⟩ := bindS hm
        rcases y4 with e1 | y4
        · have hm := exC_error hm
          refine wl rfl (calP cf62 rfl (tree_reader_must_sim (p0 := y1) (H_p0 := H_p0) (p1 := ([118, 111, 105, 100] : List UInt8)) (hS3.bun [0] [1] rfl) hL_p0 (h2.mono (iT im3 im4)) hx4) rfl fun v5 T6 w6 im6 rv5 => ?_)
          obtain ⟨a5, c5, rfl, hS5, h5, _⟩ := rv5
          have hS5 := hS5.unb
          have hm := oI hm; subst hm
          exact p_then (panE ⟨_, rfl, _, (iT im1 (iT im3 (iT im4 im6))), ⟨_, _, rfl, hS5.sel [0, 1] rfl, h5, trivial⟩⟩)
        have hm := exC_ok hm
        refine wl rfl (calS cf62 rfl (tree_reader_must_sim (p0 := y1) (H_p0 := H_p0) (p1 := ([118, 111, 105, 100] : List UInt8)) (hS3.bun [0] [1] rfl) hL_p0 (h2.mono (iT im3 im4)) hx4) rfl fun v4 T5 w5 im5 rv4 => ?_)
        obtain ⟨a4, c4, rfl, hS4, h4, _⟩ := rv4
        have hS4 := hS4.unb
        exact nil (t_then ⟨_, _, y4, _, _, env_has ⟨rfl, rfl, trivial⟩, (iT im3 (iT im4 im5)), hS4.sel [0, 1] rfl, h4, hm⟩)
      have hm := cfalse hb2 hm
      exact skp (t_then ⟨_, _, y1, _, _, env_has ⟨rfl, rfl, trivial⟩, (iT im3 im4), hS3.sel [0, 1] rfl, (h2.mono (iT im3 im4)), hm⟩)
    have hm := cfalse hb1 hm
    refine gF (d0 := 9) rfl rfl (by rw [hb1]; rfl) (gF (d0 := 9) rfl rfl (by rw [hb1]; rfl) (pv (r_pkf rfl hb1 rfl) (nil (t_then ?_))))
    refine cnd (b := false) rfl (fun h => nomatch h) (fun _ => ?_)
    exact skp (t_then ⟨_, _, y1, _, _, env_has ⟨rfl, rfl, trivial⟩, im3, hS2.sel [0, 1] rfl, (h2.mono im3), hm⟩)
  rintro _ w2 ⟨J, T2, x1, a3, c3, rfl, im2, hS6, h3, hm⟩
  rw [hkk1] at hm
  refine sq2 (sq2 ?_)
  obtain ⟨y5, hx5, hm⟩ := bindS hm
  refine rg (pv (r_mp rfl) (wl rfl (calS cf82 rfl (tree_reader_take_sim (p0 := x1) (H_p0 := H_p0) (p1 := ([41] : List UInt8)) (hS6.bun [0] [1] rfl) hL_p0 h3 hx5) rfl fun v6 T7 w7 im7 rv6 => ?_)))
  obtain ⟨a6, c6, rfl, hS7, h6, _⟩ := rv6
  have hS7 := hS7.unb
  refine nil (t_then ?_)
  refine cnd rfl (fun hb4 => ?_) (fun hb4 => ?_)
  · have hm := ctrue hb4 hm
    refine sq2 (rg (pv (r_zs rfl) (nil (t_then ?_))))
    have hS8 := hS7.nilO rGVar 58
    have hm := oI hm; subst hm
    exact rtn (r_then (ret1 rfl rfl ⟨_, rfl, _, (iT im1 (iT im2 im7)), ⟨_, _, _, _, _, rfl, hS8.sel [1, 2, 0] rfl, h6, trivial⟩⟩))
  have hm := cfalse hb4 hm
  refine skp (t_then ?_)
  obtain ⟨o1, ho1, hq1⟩ := bindS hm
  obtain ⟨bd1, hbd1, ho1⟩ := loop_open ho1
  have hS9 := hS7.nilO rGVar 58
  refine blk (wp_loop_ghost (fun m a w8 => ∃ (J : JV) (T8 : TP) (x3 : TreeReader) (x2 : List GVar) (a7 : OA) (n1 : Nat) (c7 : Nat) (a8 : OA) (c8 : Nat), a = env (nf 35) J [(0, pt b_p0 o_p0), (3, .slice a7 n1 c7)] ∧ Im T7 w7 T8 w8 ∧ Sep g T8 w8 [ownA rGVar 58 (.slice a7 n1 c7) x2, R, H_p0 [sv a8 x3.l c8, iv x3.end_.Line, iv x3.end_.Col, iv x3.depth]] ∧ SlR rGToken T8 w8 (sv a8 x3.l c8) x3.l ∧ loopM bd1 m (x2, x3) = some o1) NN ⟨_, _, y5.2, [], _, _, _, _, _, env_has ⟨rfl, rfl, trivial⟩, Im.refl, hS9.sel [0, 1, 2] rfl, h6, ho1⟩ ?_)
  rintro m _ w8 ⟨J, T8, x3, x2, a7, n1, c7, a8, c8, rfl, im8, hS10, h7, ho1⟩
  obtain ⟨m1, z1, rfl, hm, hn1⟩ := loop_round ho1
  rw [hbd1] at hm
  refine blk (sq2 ?_)
  obtain ⟨y6, hx6, hm⟩ := bindS hm
  refine rg (pv (r_mp rfl) (wl rfl (calS cf59 rfl (tree_reader_pos_sim (p0 := x3) (H_p0 := H_p0) (hS10.bun [0, 1] [2] rfl) hL_p0 h7 hx6) rfl fun v7 T9 w9 im9 rv7 => ?_)))
  obtain ⟨rfl, hS11, _⟩ := rv7
  have hS11 := hS11.unb
  refine pv (r_mp rfl) (?_)
  obtain ⟨y7, hx7, hm⟩ := bindS hm
  rcases y7 with e4 | y7
  · have hm := exC_error hm
    refine wl rfl (calP cf65 rfl (tree_reader_typeName_sim (p0 := x3) (H_p0 := H_p0) (hS11.bun [0, 1] [2] rfl) hL_p0 (h7.mono im9) hx7) rfl fun v14 T16 w21 im21 rv14 => ?_)
    obtain ⟨a17, c17, rfl, hS23, h14, _⟩ := rv14
    have hS23 := hS23.unb
    have hm := oI hm; subst hm
    have hn1 : _ = Lp.ret _ := hn1
    subst hn1
    have hm := thn_ret hq1
    have hm := oI hm; subst hm
    exact p_then (p_blk (p_then (p_blk (panE ⟨_, rfl, _, (iT im1 (iT im2 (iT im7 (iT im8 (iT im9 im21))))), ⟨_, _, rfl, hS23.sel [1, 2] rfl, h14, trivial⟩⟩))))
  have hm := exC_ok hm
  refine wl rfl (calS cf65 rfl (tree_reader_typeName_sim (p0 := x3) (H_p0 := H_p0) (hS11.bun [0, 1] [2] rfl) hL_p0 (h7.mono im9) hx7) rfl fun v8 T10 w10 im10 rv8 => ?_)
  obtain ⟨a9, c9, rfl, hS12, h8, _⟩ := rv8
  have hS12 := hS12.unb
  refine pv (r_bd (by kernel_rfl) rfl (u := .agg #[iv y6.Line, iv y6.Col, .string ⟨y7.1.Word.toArray⟩, .string ⟨y7.1.Name.toArray⟩, iv y7.1.Stars, .string ⟨([] : List UInt8).toArray⟩, .slice none 0 0, .slice none 0 0, .bool false])) (wl rfl (alS (zs := [iv 0, iv 0, .string ⟨([] : List UInt8).toArray⟩, .string ⟨([] : List UInt8).toArray⟩, iv 0, .string ⟨([] : List UInt8).toArray⟩, .slice none 0 0, .slice none 0 0, .bool false]) zeroValue58 rfl hS12 fun w11 b1 im11 hS13 => ?_))
  refine wl rfl (st0B (q := 0) hS13 ⟨rfl, rfl⟩ rfl rfl rfl sizeOf58 rfl rfl rfl fun w12 im12 hS14 => ?_)
  refine nil (t_then ?_)
  refine sq2 (rg (pv (r_mp rfl) (?_)))
  obtain ⟨y8, hx8, hm⟩ := bindS hm
  rcases y8 with e3 | y8
  · have hm := exC_error hm
    refine wl rfl (calP cf63 rfl (tree_reader_name_sim (p0 := y7.2) (H_p0 := H_p0) (hS14.bun [0, 1, 2] [3] rfl) hL_p0 (h8.mono (iT im11 im12)) hx8) rfl fun v13 T15 w20 im20 rv13 => ?_)
    obtain ⟨a16, c16, rfl, hS22, h13, _⟩ := rv13
    have hS22 := hS22.unb
    have hm := oI hm; subst hm
    have hn1 : _ = Lp.ret _ := hn1
    subst hn1
    have hm := thn_ret hq1
    have hm := oI hm; subst hm
    exact p_then (p_blk (p_then (p_blk (panE ⟨_, rfl, _, (iT im1 (iT im2 (iT im7 (iT im8 (iT im9 (iT im10 (iT im11 (iT im12 im20)))))))), ⟨_, _, rfl, hS22.sel [2, 3] rfl, h13, trivial⟩⟩))))
  have hm := exC_ok hm
  refine wl rfl (calS cf63 rfl (tree_reader_name_sim (p0 := y7.2) (H_p0 := H_p0) (hS14.bun [0, 1, 2] [3] rfl) hL_p0 (h8.mono (iT im11 im12)) hx8) rfl fun v9 T11 w13 im13 rv9 => ?_)
  obtain ⟨a10, c10, rfl, hS15, h9, _⟩ := rv9
  have hS15 := hS15.unb
  refine pv (r_fa rfl underlying58 rfl sizeOf9 rfl) (wl rfl (st0B (q := 0) hS15 ⟨rfl, rfl⟩ rfl rfl rfl sizeOf9 rfl rfl rfl fun w14 im14 hS16 => ?_))
  refine nil (t_then ?_)
  refine sq2 (rg (pv (r_ms rfl) (pv (r_ldS rfl isAgg58 sizeOf58 rfl (hS16.cells0 (i := 0) ⟨rfl, rfl⟩ (o := 0) rfl) (cs := [iv y6.Line, iv y6.Col, .string ⟨y7.1.Word.toArray⟩, .string ⟨y7.1.Name.toArray⟩, iv y7.1.Stars, .string ⟨y8.1.toArray⟩, .slice none 0 0, .slice none 0 0, .bool false])) (wl rfl (bsS (r := rGVar) (l := ([(⟨y6, y7.1, y8.1, [], [], false⟩ : GVar)] : List GVar)) (css := [[iv y6.Line, iv y6.Col, .string ⟨y7.1.Word.toArray⟩, .string ⟨y7.1.Name.toArray⟩, iv y7.1.Stars, .string ⟨y8.1.toArray⟩, .slice none 0 0, .slice none 0 0, .bool false]]) hS16 underlying24 sizeOf58 zeroValue58 rfl rfl (by kernel_rfl) rfl ⟨(rGVar_mk (x := (⟨y6, y7.1, y8.1, [], [], false⟩ : GVar)) SlR_nil SlR_nil : rGVar.rp _ _ _ _), trivial⟩ rfl rfl fun w15 a11 n2 c11 im15 hS17 => ?_)))))
  obtain ⟨z_1, hro1, hm⟩ := bindS hm
  refine wl rfl (apO (q := 2) (l := x2) (us := ([(⟨y6, y7.1, y8.1, [], [], false⟩ : GVar)] : List GVar)) hS17 ⟨rfl, rfl⟩ rfl rfl (hS17.own (i := 0) ⟨rfl, rfl⟩).v underlying24 el58 (room_some hro1) fun w16 a12 n3 c12 im16 hS18 => ?_)
  refine pv (r_zs rfl) (nil (t_then ?_))
  refine sq2 ?_
  obtain ⟨y9, hx9, hm⟩ := bindS hm
  refine rg (pv (r_mp rfl) (wl rfl (calS cf82 rfl (tree_reader_take_sim (p0 := y8.2) (H_p0 := H_p0) (p1 := ([44] : List UInt8)) (hS18.bun [2, 3] [4] rfl) hL_p0 (h9.mono (iT im14 (iT im15 im16))) hx9) rfl fun v10 T12 w17 im17 rv10 => ?_)))
  obtain ⟨a13, c13, rfl, hS19, h10, _⟩ := rv10
  have hS19 := hS19.unb
  refine pv (r_nt rfl) (nil (t_then ?_))
  refine cnd rfl (fun hb5 => ?_) (fun hb5 => ?_)
  · have hm := ctrue hb5 hm
    refine sq2 (rg (pv (r_mp rfl) (?_)))
    obtain ⟨y10, hx10, hm⟩ := bindS hm
    rcases y10 with e2 | y10
    · have hm := exC_error hm
      refine wl rfl (calP cf62 rfl (tree_reader_must_sim (p0 := y9.2) (H_p0 := H_p0) (p1 := ([41] : List UInt8)) (hS19.bun [0, 1] [2] rfl) hL_p0 h10 hx10) rfl fun v12 T14 w19 im19 rv12 => ?_)
      obtain ⟨a15, c15, rfl, hS21, h12, _⟩ := rv12
      have hS21 := hS21.unb
      have hm := oI hm; subst hm
      have hn1 : _ = Lp.ret _ := hn1
      subst hn1
      have hm := thn_ret hq1
      have hm := oI hm; subst hm
      exact p_then (p_blk (p_then (p_blk (panE ⟨_, rfl, _, (iT im1 (iT im2 (iT im7 (iT im8 (iT im9 (iT im10 (iT im11 (iT im12 (iT im13 (iT im14 (iT im15 (iT im16 (iT im17 im19))))))))))))), ⟨_, _, rfl, hS21.sel [1, 2] rfl, h12, trivial⟩⟩))))
    have hm := exC_ok hm
    refine wl rfl (calS cf62 rfl (tree_reader_must_sim (p0 := y9.2) (H_p0 := H_p0) (p1 := ([41] : List UInt8)) (hS19.bun [0, 1] [2] rfl) hL_p0 h10 hx10) rfl fun v11 T13 w18 im18 rv11 => ?_)
    obtain ⟨a14, c14, rfl, hS20, h11, _⟩ := rv11
    have hS20 := hS20.unb
    refine nil (t_then ?_)
    refine sq2 (rg (pv (r_ms rfl) (pv (r_zs rfl) (nil (t_then ?_)))))
    have hm := oI hm; subst hm
    have hn1 : _ = Lp.ret _ := hn1
    subst hn1
    have hm := thn_ret hq1
    have hm := oI hm; subst hm
    exact rtn (r_blk (r_then (r_blk (ret1 rfl rfl ⟨_, rfl, _, (iT im1 (iT im2 (iT im7 (iT im8 (iT im9 (iT im10 (iT im11 (iT im12 (iT im13 (iT im14 (iT im15 (iT im16 (iT im17 im18))))))))))))), ⟨_, _, _, _, _, rfl, hS20.sel [1, 2, 0] rfl, h11, trivial⟩⟩))))
  have hm := cfalse hb5 hm
  have hm := oI hm; subst hm
  exact skp (t_blk (t_then ⟨m1, Nat.lt_succ_self _, _, _, y9.2, (x2 ++ ([(⟨y6, y7.1, y8.1, [], [], false⟩ : GVar)] : List GVar)), _, _, _, _, _, env_has ⟨rfl, rfl, trivial⟩, (iT im8 (iT im9 (iT im10 (iT im11 (iT im12 (iT im13 (iT im14 (iT im15 (iT im16 im17))))))))), hS19.sel [0, 1, 2] rfl, h10, hn1⟩))

theorem tree_reader_variable_sim {p0 : TreeReader} {b_p0 o_p0 : Nat} {H_p0 : List Value → Assn} {a1 : OA} {c1 : Nat} {r : Except (TreeRefused × TreeReader) (GVar × TreeReader)} (hS : Sep g T0 w0 [R, H_p0 [sv a1 p0.l c1, iv p0.end_.Line, iv p0.end_.Col, iv p0.depth]]) (hL_p0 : Ln b_p0 o_p0 H_p0) (h1 : SlR rGToken T0 w0 (sv a1 p0.l c1) p0.l) (hm : tree_reader_variable p0 = some r) :
    Calls Tryz.prog 103 #[pt b_p0 o_p0] w0 (exR r (fun r => RetS T0 w0 fun T w v => ∃ (a10 : OA) (c10 : Nat) (a11 : OA) (c11 : Nat) (a12 : OA) (c12 : Nat), v = .agg (cGVar r.1 a10 c10 a11 c11).toArray ∧ Sep g T w [R, H_p0 [sv a12 r.2.l c12, iv r.2.end_.Line, iv r.2.end_.Col, iv r.2.depth]] ∧ SlR (rInt .u32) T w (sv a10 r.1.Dims c10) r.1.Dims ∧ SlR rGExpr T w (sv a11 r.1.Init c11) r.1.Init ∧ SlR rGToken T w (sv a12 r.2.l c12) r.2.l ∧ True) (fun r => PanS T0 w0 fun T w v => ∃ (a10 : OA) (c10 : Nat), v = .iface 48 (.agg (cTreeRefused r.1).toArray) ∧ Sep g T w [R, H_p0 [sv a10 r.2.l c10, iv r.2.end_.Line, iv r.2.end_.Col, iv r.2.depth]] ∧ SlR rGToken T w (sv a10 r.2.l c10) r.2.l ∧ True)) := by
  refine enter (args := [pt b_p0 o_p0]) Tryz.func103 rfl Tryz.ntmps103 rfl fun J => ?_
  unfold tree_reader_variable at hm
  refine sq2 (rg (wl rfl (alS (zs := [iv 0, iv 0, .string ⟨([] : List UInt8).toArray⟩, .string ⟨([] : List UInt8).toArray⟩, iv 0, .string ⟨([] : List UInt8).toArray⟩, .slice none 0 0, .slice none 0 0, .bool false]) zeroValue58 rfl hS fun w1 b1 im1 hS1 => ?_)))
  refine nil (t_then ?_)
  refine sq2 ?_
  obtain ⟨y1, hx1, hm⟩ := bindS hm
  refine rg (pv (r_mp rfl) (wl rfl (calS cf59 rfl (tree_reader_pos_sim (p0 := p0) (H_p0 := H_p0) (hS1.bun [0, 1] [2] rfl) hL_p0 (h1.mono im1) hx1) rfl fun v1 T1 w2 im2 rv1 => ?_)))
  obtain ⟨rfl, hS2, _⟩ := rv1
  have hS2 := hS2.unb
  refine pv (r_mp rfl) (?_)
  obtain ⟨y2, hx2, hm⟩ := bindS hm
  rcases y2 with e3 | y2
  · have hm := exC_error hm
    refine wl rfl (calP cf65 rfl (tree_reader_typeName_sim (p0 := p0) (H_p0 := H_p0) (hS2.bun [0, 1] [2] rfl) hL_p0 (h1.mono (iT im1 im2)) hx2) rfl fun v7 T7 w12 im12 rv7 => ?_)
    obtain ⟨a9, c9, rfl, hS12, h9, _⟩ := rv7
    have hS12 := hS12.unb
    have hm := oI hm; subst hm
    exact p_then (panE ⟨_, rfl, _, (iT im1 (iT im2 im12)), ⟨_, _, rfl, hS12.sel [1, 2] rfl, h9, trivial⟩⟩)
  have hm := exC_ok hm
  refine wl rfl (calS cf65 rfl (tree_reader_typeName_sim (p0 := p0) (H_p0 := H_p0) (hS2.bun [0, 1] [2] rfl) hL_p0 (h1.mono (iT im1 im2)) hx2) rfl fun v2 T2 w3 im3 rv2 => ?_)
  obtain ⟨a2, c2, rfl, hS3, h2, _⟩ := rv2
  have hS3 := hS3.unb
  refine pv (r_bd (by kernel_rfl) rfl (u := .agg #[iv y1.Line, iv y1.Col, .string ⟨y2.1.Word.toArray⟩, .string ⟨y2.1.Name.toArray⟩, iv y2.1.Stars, .string ⟨([] : List UInt8).toArray⟩, .slice none 0 0, .slice none 0 0, .bool false])) (wl rfl (alS (zs := [iv 0, iv 0, .string ⟨([] : List UInt8).toArray⟩, .string ⟨([] : List UInt8).toArray⟩, iv 0, .string ⟨([] : List UInt8).toArray⟩, .slice none 0 0, .slice none 0 0, .bool false]) zeroValue58 rfl hS3 fun w4 b2 im4 hS4 => ?_))
  refine wl rfl (st0B (q := 0) hS4 ⟨rfl, rfl⟩ rfl rfl rfl sizeOf58 rfl rfl rfl fun w5 im5 hS5 => ?_)
  refine nil (t_then ?_)
  refine sq2 (rg (pv (r_mp rfl) (?_)))
  obtain ⟨y3, hx3, hm⟩ := bindS hm
  rcases y3 with e2 | y3
  · have hm := exC_error hm
    refine wl rfl (calP cf63 rfl (tree_reader_name_sim (p0 := y2.2) (H_p0 := H_p0) (hS5.bun [0, 1, 2] [3] rfl) hL_p0 (h2.mono (iT im4 im5)) hx3) rfl fun v6 T6 w11 im11 rv6 => ?_)
    obtain ⟨a8, c8, rfl, hS11, h8, _⟩ := rv6
    have hS11 := hS11.unb
    have hm := oI hm; subst hm
    exact p_then (panE ⟨_, rfl, _, (iT im1 (iT im2 (iT im3 (iT im4 (iT im5 im11))))), ⟨_, _, rfl, hS11.sel [2, 3] rfl, h8, trivial⟩⟩)
  have hm := exC_ok hm
  refine wl rfl (calS cf63 rfl (tree_reader_name_sim (p0 := y2.2) (H_p0 := H_p0) (hS5.bun [0, 1, 2] [3] rfl) hL_p0 (h2.mono (iT im4 im5)) hx3) rfl fun v3 T3 w6 im6 rv3 => ?_)
  obtain ⟨a3, c3, rfl, hS6, h3, _⟩ := rv3
  have hS6 := hS6.unb
  refine pv (r_fa rfl underlying58 rfl sizeOf9 rfl) (wl rfl (st0B (q := 0) hS6 ⟨rfl, rfl⟩ rfl rfl rfl sizeOf9 rfl rfl rfl fun w7 im7 hS7 => ?_))
  refine nil (t_then ?_)
  refine sq2 (rg (pv (r_mp rfl) (pv (r_ldS rfl isAgg58 sizeOf58 rfl (hS7.cells0 (i := 0) ⟨rfl, rfl⟩ (o := 0) rfl) (cs := [iv y1.Line, iv y1.Col, .string ⟨y2.1.Word.toArray⟩, .string ⟨y2.1.Name.toArray⟩, iv y2.1.Stars, .string ⟨y3.1.toArray⟩, .slice none 0 0, .slice none 0 0, .bool false])) (?_))))
  obtain ⟨y4, hx4, hm⟩ := bindS hm
  rcases y4 with e1 | y4
  · have hm := exC_error hm
    refine wl rfl (calP cf66 rfl (tree_reader_behind_sim (p0 := y3.2) (H_p0 := H_p0) (p1 := (⟨y1, y2.1, y3.1, [], [], false⟩ : GVar)) (hS7.bun [1, 2] [3] rfl) hL_p0 (h3.mono im7) SlR_nil hx4) rfl fun v5 T5 w10 im10 rv5 => ?_)
    obtain ⟨a7, c7, rfl, hS10, h7, _⟩ := rv5
    have hS10 := hS10.unb
    have hm := oI hm; subst hm
    exact p_then (panE ⟨_, rfl, _, (iT im1 (iT im2 (iT im3 (iT im4 (iT im5 (iT im6 (iT im7 im10))))))), ⟨_, _, rfl, hS10.sel [1, 2] rfl, h7, trivial⟩⟩)
  have hm := exC_ok hm
  refine wl rfl (calS cf66 rfl (tree_reader_behind_sim (p0 := y3.2) (H_p0 := H_p0) (p1 := (⟨y1, y2.1, y3.1, [], [], false⟩ : GVar)) (hS7.bun [1, 2] [3] rfl) hL_p0 (h3.mono im7) SlR_nil hx4) rfl fun v4 T4 w8 im8 rv4 => ?_)
  obtain ⟨a4, c4, a5, c5, a6, c6, rfl, hS8, h4, h5, h6, _⟩ := rv4
  have hS8 := hS8.unb
  refine wl rfl (st0B (q := 0) hS8 ⟨rfl, rfl⟩ rfl rfl rfl sizeOf58 rfl rfl rfl fun w9 im9 hS9 => ?_)
  refine nil (t_then ?_)
  have hm := oI hm; subst hm
  exact rtn (retN (vs := [.agg (cGVar y4.1 a4 c4 a5 c5).toArray]) rfl ⟨rvS rfl isAgg58 sizeOf58 rfl (hS9.bx (i := 0) ⟨rfl, rfl⟩), trivial⟩ rfl ⟨_, rfl, _, (iT im1 (iT im2 (iT im3 (iT im4 (iT im5 (iT im6 (iT im7 (iT im8 im9)))))))), ⟨_, _, _, _, _, _, rfl, hS9.sel [1, 2] rfl, (h4.mono im9), (h5.mono im9), (h6.mono im9), trivial⟩⟩)

theorem tree_reader_perhaps_sim {p0 : TreeReader} {b_p0 o_p0 : Nat} {H_p0 : List Value → Assn} {a1 : OA} {c1 : Nat} {p1 : List UInt8} {r : Except (TreeRefused × TreeReader) ((List GExpr) × TreeReader)} (hS : Sep g T0 w0 [R, H_p0 [sv a1 p0.l c1, iv p0.end_.Line, iv p0.end_.Col, iv p0.depth]]) (hL_p0 : Ln b_p0 o_p0 H_p0) (h1 : SlR rGToken T0 w0 (sv a1 p0.l c1) p0.l) (hm : tree_reader_perhaps p0 p1 = some r) :
    Calls Tryz.prog 106 #[pt b_p0 o_p0, .string ⟨p1.toArray⟩] w0 (exR r (fun r => RetS T0 w0 fun T w v => ∃ (a9 : OA) (n2 : Nat) (c9 : Nat) (a10 : OA) (c10 : Nat), v = .slice a9 n2 c9 ∧ Sep g T w [R, H_p0 [sv a10 r.2.l c10, iv r.2.end_.Line, iv r.2.end_.Col, iv r.2.depth], ownA rGExpr 99 (.slice a9 n2 c9) r.1] ∧ SlR rGToken T w (sv a10 r.2.l c10) r.2.l ∧ True) (fun r => PanS T0 w0 fun T w v => ∃ (a9 : OA) (c9 : Nat), v = .iface 48 (.agg (cTreeRefused r.1).toArray) ∧ Sep g T w [R, H_p0 [sv a9 r.2.l c9, iv r.2.end_.Line, iv r.2.end_.Col, iv r.2.depth]] ∧ SlR rGToken T w (sv a9 r.2.l c9) r.2.l ∧ True)) := by
  refine enter (args := [pt b_p0 o_p0, .string ⟨p1.toArray⟩]) Tryz.func106 rfl Tryz.ntmps106 rfl fun J => ?_
  unfold tree_reader_perhaps at hm
  refine sq2 (rg (pv (r_zs rfl) (nil (t_then ?_))))
  refine sq2 (sq2 ?_)
  obtain ⟨y1, hx1, hm⟩ := bindS hm
  refine rg (pv (r_mp rfl) (pv (r_mt rfl) (wl rfl (calS cf82 rfl (tree_reader_take_sim (p0 := p0) (H_p0 := H_p0) (p1 := p1) (hS.bun [0] [1] rfl) hL_p0 h1 hx1) rfl fun v1 T1 w1 im1 rv1 => ?_))))
  obtain ⟨a2, c2, rfl, hS1, h2, _⟩ := rv1
  have hS1 := hS1.unb
  refine nil (t_then ?_)
  refine cnd rfl (fun hb1 => ?_) (fun hb1 => ?_)
  · have hm := ctrue hb1 hm
    refine sq2 (rg (pv (r_zs rfl) (nil (t_then ?_))))
    have hS2 := hS1.nilO rGExpr 99
    have hm := oI hm; subst hm
    exact rtn (r_then (ret1 rfl rfl ⟨_, rfl, _, im1, ⟨_, _, _, _, _, rfl, hS2.sel [1, 2, 0] rfl, h2, trivial⟩⟩))
  have hm := cfalse hb1 hm
  refine skp (t_then ?_)
  refine sq2 (rg (pv (r_mp rfl) (?_)))
  obtain ⟨y2, hx2, hm⟩ := bindS hm
  rcases y2 with e2 | y2
  · have hm := exC_error hm
    refine wl rfl (calP cf87 rfl (tree_reader_assign_sim (p0 := y1.2) (H_p0 := H_p0) (hS1.bun [0] [1] rfl) hL_p0 h2 hx2) rfl fun v5 T5 w8 im8 rv5 => ?_)
    obtain ⟨a8, c8, rfl, hS9, h7, _⟩ := rv5
    have hS9 := hS9.unb
    have hm := oI hm; subst hm
    exact p_then (panE ⟨_, rfl, _, (iT im1 im8), ⟨_, _, rfl, hS9.sel [0, 1] rfl, h7, trivial⟩⟩)
  have hm := exC_ok hm
  refine wl rfl (calS cf87 rfl (tree_reader_assign_sim (p0 := y1.2) (H_p0 := H_p0) (hS1.bun [0] [1] rfl) hL_p0 h2 hx2) rfl fun v2 T2 w2 im2 rv2 => ?_)
  obtain ⟨a3, c3, a4, c4, rfl, hS3, h3, h4, _⟩ := rv2
  have hS3 := hS3.unb
  refine wl rfl (alS (zs := [iv 0, iv 0, iv 0, .string ⟨([] : List UInt8).toArray⟩, .string ⟨([] : List UInt8).toArray⟩, .int .u32 0, .string ⟨([] : List UInt8).toArray⟩, .string ⟨([] : List UInt8).toArray⟩, iv 0, .slice none 0 0]) zeroValue99 rfl hS3 fun w3 b1 im3 hS4 => ?_)
  refine wl rfl (st0B (q := 0) hS4 ⟨rfl, rfl⟩ rfl rfl rfl sizeOf99 rfl rfl rfl fun w4 im4 hS5 => ?_)
  refine nil (t_then ?_)
  refine sq2 (rg (pv (r_mp rfl) (pv (r_mt rfl) (?_))))
  obtain ⟨y3, hx3, hm⟩ := bindS hm
  rcases y3 with e1 | y3
  · have hm := exC_error hm
    refine wl rfl (calP cf62 rfl (tree_reader_must_sim (p0 := y2.2) (H_p0 := H_p0) (p1 := p1) (hS5.bun [0, 1] [2] rfl) hL_p0 (h4.mono (iT im3 im4)) hx3) rfl fun v4 T4 w7 im7 rv4 => ?_)
    obtain ⟨a7, c7, rfl, hS8, h6, _⟩ := rv4
    have hS8 := hS8.unb
    have hm := oI hm; subst hm
    exact p_then (panE ⟨_, rfl, _, (iT im1 (iT im2 (iT im3 (iT im4 im7)))), ⟨_, _, rfl, hS8.sel [1, 2] rfl, h6, trivial⟩⟩)
  have hm := exC_ok hm
  refine wl rfl (calS cf62 rfl (tree_reader_must_sim (p0 := y2.2) (H_p0 := H_p0) (p1 := p1) (hS5.bun [0, 1] [2] rfl) hL_p0 (h4.mono (iT im3 im4)) hx3) rfl fun v3 T3 w5 im5 rv3 => ?_)
  obtain ⟨a5, c5, rfl, hS6, h5, _⟩ := rv3
  have hS6 := hS6.unb
  refine nil (t_then ?_)
  refine sq2 (rg (pv (r_ldS rfl isAgg99 sizeOf99 rfl (hS6.cells0 (i := 0) ⟨rfl, rfl⟩ (o := 0) rfl) (cs := (cGExpr y2.1 a3 c3))) (wl rfl (bsS (r := rGExpr) (l := ([y2.1] : List GExpr)) (css := [(cGExpr y2.1 a3 c3)]) hS6 underlying56 sizeOf99 zeroValue99 rfl rfl (by kernel_rfl) rfl ⟨(rGExpr_mk (x := y2.1) (h3.mono (iT im3 (iT im4 im5))) : rGExpr.rp _ _ _ _), trivial⟩ rfl rfl fun w6 a6 n1 c6 im6 hS7 => ?_))))
  refine pv (r_zs rfl) (nil (t_then ?_))
  have hm := oI hm; subst hm
  exact rtn (ret1 rfl rfl ⟨_, rfl, _, (iT im1 (iT im2 (iT im3 (iT im4 (iT im5 im6))))), ⟨_, _, _, _, _, rfl, hS7.sel [2, 3, 0] rfl, (h5.mono im6), trivial⟩⟩)

theorem tree_reader_short_sim {p0 : TreeReader} {b_p0 o_p0 : Nat} {H_p0 : List Value → Assn} {a1 : OA} {c1 : Nat} {p1 : Stmt} {b_p1 o_p1 : Nat} {H_p1 : List Value → Assn} {a2 : OA} {c2 : Nat} {a3 : OA} {c3 : Nat} {a4 : OA} {c4 : Nat} {a5 : OA} {c5 : Nat} {a6 : OA} {c6 : Nat} {a7 : OA} {c7 : Nat} {a8 : OA} {c8 : Nat} {r : Except (TreeRefused × TreeReader × Stmt) (TreeReader × Stmt)} (hS : Sep g T0 w0 [R, H_p0 [sv a1 p0.l c1, iv p0.end_.Line, iv p0.end_.Col, iv p0.depth], H_p1 (cStmt p1 a2 c2 a3 c3 a4 c4 a5 c5 a6 c6 a7 c7 a8 c8)]) (hL_p0 : Ln b_p0 o_p0 H_p0) (h1 : SlR rGToken T0 w0 (sv a1 p0.l c1) p0.l) (hL_p1 : Ln b_p1 o_p1 H_p1) (h2 : SlR rGExpr T0 w0 (sv a2 p1.A c2) p1.A) (h3 : SlR rGExpr T0 w0 (sv a3 p1.B c3) p1.B) (h4 : SlR rGExpr T0 w0 (sv a4 p1.C c4) p1.C) (h5 : SlR rGVar T0 w0 (sv a5 p1.Var c5) p1.Var) (h6 : SlR rStmt T0 w0 (sv a6 p1.Body c6) p1.Body) (h7 : SlR rStmt T0 w0 (sv a7 p1.Else c7) p1.Else) (h8 : SlR rGCase T0 w0 (sv a8 p1.Cases c8) p1.Cases) (hm : tree_reader_short p0 p1 = some r) :
    Calls Tryz.prog 108 #[pt b_p0 o_p0, pt b_p1 o_p1] w0 (exR r (fun r => RetS T0 w0 fun T w v => ∃ (a25 : OA) (c25 : Nat) (a26 : OA) (c26 : Nat) (a27 : OA) (c27 : Nat) (a28 : OA) (c28 : Nat) (a29 : OA) (c29 : Nat) (a30 : OA) (c30 : Nat) (a31 : OA) (c31 : Nat) (a32 : OA) (c32 : Nat), v = .tuple #[] ∧ Sep g T w [R, H_p0 [sv a25 r.1.l c25, iv r.1.end_.Line, iv r.1.end_.Col, iv r.1.depth], H_p1 (cStmt r.2 a26 c26 a27 c27 a28 c28 a29 c29 a30 c30 a31 c31 a32 c32)] ∧ SlR rGToken T w (sv a25 r.1.l c25) r.1.l ∧ SlR rGExpr T w (sv a26 r.2.A c26) r.2.A ∧ SlR rGExpr T w (sv a27 r.2.B c27) r.2.B ∧ SlR rGExpr T w (sv a28 r.2.C c28) r.2.C ∧ SlR rGVar T w (sv a29 r.2.Var c29) r.2.Var ∧ SlR rStmt T w (sv a30 r.2.Body c30) r.2.Body ∧ SlR rStmt T w (sv a31 r.2.Else c31) r.2.Else ∧ SlR rGCase T w (sv a32 r.2.Cases c32) r.2.Cases ∧ True) (fun r => PanS T0 w0 fun T w v => ∃ (a25 : OA) (c25 : Nat) (a26 : OA) (c26 : Nat) (a27 : OA) (c27 : Nat) (a28 : OA) (c28 : Nat) (a29 : OA) (c29 : Nat) (a30 : OA) (c30 : Nat) (a31 : OA) (c31 : Nat) (a32 : OA) (c32 : Nat), v = .iface 48 (.agg (cTreeRefused r.1).toArray) ∧ Sep g T w [R, H_p0 [sv a25 r.2.1.l c25, iv r.2.1.end_.Line, iv r.2.1.end_.Col, iv r.2.1.depth], H_p1 (cStmt r.2.2 a26 c26 a27 c27 a28 c28 a29 c29 a30 c30 a31 c31 a32 c32)] ∧ SlR rGToken T w (sv a25 r.2.1.l c25) r.2.1.l ∧ SlR rGExpr T w (sv a26 r.2.2.A c26) r.2.2.A ∧ SlR rGExpr T w (sv a27 r.2.2.B c27) r.2.2.B ∧ SlR rGExpr T w (sv a28 r.2.2.C c28) r.2.2.C ∧ SlR rGVar T w (sv a29 r.2.2.Var c29) r.2.2.Var ∧ SlR rStmt T w (sv a30 r.2.2.Body c30) r.2.2.Body ∧ SlR rStmt T w (sv a31 r.2.2.Else c31) r.2.2.Else ∧ SlR rGCase T w (sv a32 r.2.2.Cases c32) r.2.2.Cases ∧ True)) := by
  refine enter (args := [pt b_p0 o_p0, pt b_p1 o_p1]) Tryz.func108 rfl Tryz.ntmps108 rfl fun J => ?_
  unfold tree_reader_short at hm
  refine blk (sq2 ?_)
  obtain ⟨y1, hx1, hm⟩ := bindS hm
  refine rg (pv (r_mp rfl) (wl rfl (calS cf82 rfl (tree_reader_take_sim (p0 := p0) (H_p0 := H_p0) (p1 := ([114, 101, 116, 117, 114, 110] : List UInt8)) (hS.bun [0, 2] [1] rfl) hL_p0 h1 hx1) rfl fun v1 T1 w1 im1 rv1 => ?_)))
  obtain ⟨a9, c9, rfl, hS1, h9, _⟩ := rv1
  have hS1 := hS1.unb
  refine pv (r_zb rfl) (nil (t_then ?_))
  refine cnd rfl (fun hb1 => ?_) (fun hb1 => ?_)
  · have hm := ctrue hb1 hm
    refine rg (pv (r_mp rfl) (pv (r_mp rfl) (pv (r_mp rfl) (?_))))
    obtain ⟨y2, hx2, hm⟩ := bindS hm
    rcases y2 with e1 | y2
    · have hm := exC_error hm
      refine wl rfl (calP cf106 rfl (tree_reader_perhaps_sim (p0 := y1.2) (H_p0 := H_p0) (p1 := ([59] : List UInt8)) (hS1.bun [0, 1] [2] rfl) hL_p0 h9 hx2) rfl fun v3 T4 w5 im6 rv3 => ?_)
      obtain ⟨a12, c12, rfl, hS6, h12, _⟩ := rv3
      have hS6 := hS6.unb
      have hm := oI hm; subst hm
      exact p_blk (panE ⟨_, rfl, _, (iT im1 im6), ⟨_, _, _, _, _, _, _, _, _, _, _, _, _, _, _, _, rfl, hS6.sel [0, 2, 1] rfl, h12, (h2.mono (iT im1 im6)), (h3.mono (iT im1 im6)), (h4.mono (iT im1 im6)), (h5.mono (iT im1 im6)), (h6.mono (iT im1 im6)), (h7.mono (iT im1 im6)), (h8.mono (iT im1 im6)), trivial⟩⟩)
    have hm := exC_ok hm
    refine wl rfl (calS cf106 rfl (tree_reader_perhaps_sim (p0 := y1.2) (H_p0 := H_p0) (p1 := ([59] : List UInt8)) (hS1.bun [0, 1] [2] rfl) hL_p0 h9 hx2) rfl fun v2 T2 w2 im2 rv2 => ?_)
    obtain ⟨a10, n1, c10, a11, c11, rfl, hS2, h10, _⟩ := rv2
    have hS2 := hS2.unb
    refine pv (r_nc rfl) (pv (r_fa rfl underlying68 rfl sizeOf3 rfl) (wl rfl (stB (q := 1) (j := 0) hS2 ⟨rfl, rfl⟩ hL_p1 rfl rfl rfl sizeOf3 rfl rfl rfl fun w3 im3 hS3 => ?_)))
    refine pv (r_nc rfl) (pv (r_fa rfl underlying68 rfl sizeOf56 rfl) (wl rfl (stB (q := 1) (j := 3) hS3 ⟨rfl, rfl⟩ hL_p1 rfl rfl rfl sizeOf56 rfl rfl rfl fun w4 im4 hS4 => ?_)))
    obtain ⟨T3, im5, hS5, h11⟩ := hS4.seal 3 ⟨rfl, rfl⟩
    have hsh := h11.len
    subst hsh
    have hm := oI hm; subst hm
    exact nil (t_blk (end0 rfl ⟨_, rfl, _, (iT im1 (iT im2 (iT im3 (iT im4 im5)))), ⟨_, _, _, _, _, _, _, _, _, _, _, _, _, _, _, _, rfl, hS5.sel [0, 2, 1] rfl, (h10.mono (iT im3 (iT im4 im5))), h11, (h3.mono (iT im1 (iT im2 (iT im3 (iT im4 im5))))), (h4.mono (iT im1 (iT im2 (iT im3 (iT im4 im5))))), (h5.mono (iT im1 (iT im2 (iT im3 (iT im4 im5))))), (h6.mono (iT im1 (iT im2 (iT im3 (iT im4 im5))))), (h7.mono (iT im1 (iT im2 (iT im3 (iT im4 im5))))), (h8.mono (iT im1 (iT im2 (iT im3 (iT im4 im5))))), trivial⟩⟩))
  have hm := cfalse hb1 hm
  refine sq2 ?_
  obtain ⟨y3, hx3, hm⟩ := bindS hm
  refine rg (pv (r_mp rfl) (wl rfl (calS cf82 rfl (tree_reader_take_sim (p0 := y1.2) (H_p0 := H_p0) (p1 := ([98, 114, 101, 97, 107] : List UInt8)) (hS1.bun [0, 1] [2] rfl) hL_p0 h9 hx3) rfl fun v4 T5 w6 im7 rv4 => ?_)))
  obtain ⟨a13, c13, rfl, hS7, h13, _⟩ := rv4
  have hS7 := hS7.unb
  refine pv (r_zb rfl) (nil (t_then ?_))
  refine cnd rfl (fun hb2 => ?_) (fun hb2 => ?_)
  · have hm := ctrue hb2 hm
    refine sq2 (rg (pv (r_mp rfl) (pv (r_nc rfl) (pv (r_fa rfl underlying68 rfl sizeOf3 rfl) (wl rfl (stB (q := 1) (j := 0) hS7 ⟨rfl, rfl⟩ hL_p1 rfl rfl rfl sizeOf3 rfl rfl rfl fun w7 im8 hS8 => ?_))))))
    refine nil (t_then ?_)
    refine rg (pv (r_mp rfl) (?_))
    obtain ⟨y4, hx4, hm⟩ := bindS hm
    rcases y4 with e2 | y4
    · have hm := exC_error hm
      refine wl rfl (calP cf62 rfl (tree_reader_must_sim (p0 := y3.2) (H_p0 := H_p0) (p1 := ([59] : List UInt8)) (hS8.bun [0, 1] [2] rfl) hL_p0 (h13.mono im8) hx4) rfl fun v6 T7 w9 im10 rv6 => ?_)
      obtain ⟨a15, c15, rfl, hS10, h15, _⟩ := rv6
      have hS10 := hS10.unb
      have hm := oI hm; subst hm
      exact p_blk (panE ⟨_, rfl, _, (iT im1 (iT im7 (iT im8 im10))), ⟨_, _, _, _, _, _, _, _, _, _, _, _, _, _, _, _, rfl, hS10.sel [0, 2, 1] rfl, h15, (h2.mono (iT im1 (iT im7 (iT im8 im10)))), (h3.mono (iT im1 (iT im7 (iT im8 im10)))), (h4.mono (iT im1 (iT im7 (iT im8 im10)))), (h5.mono (iT im1 (iT im7 (iT im8 im10)))), (h6.mono (iT im1 (iT im7 (iT im8 im10)))), (h7.mono (iT im1 (iT im7 (iT im8 im10)))), (h8.mono (iT im1 (iT im7 (iT im8 im10)))), trivial⟩⟩)
    have hm := exC_ok hm
    refine wl rfl (calS cf62 rfl (tree_reader_must_sim (p0 := y3.2) (H_p0 := H_p0) (p1 := ([59] : List UInt8)) (hS8.bun [0, 1] [2] rfl) hL_p0 (h13.mono im8) hx4) rfl fun v5 T6 w8 im9 rv5 => ?_)
    obtain ⟨a14, c14, rfl, hS9, h14, _⟩ := rv5
    have hS9 := hS9.unb
    have hm := oI hm; subst hm
    exact nil (t_blk (end0 rfl ⟨_, rfl, _, (iT im1 (iT im7 (iT im8 im9))), ⟨_, _, _, _, _, _, _, _, _, _, _, _, _, _, _, _, rfl, hS9.sel [0, 2, 1] rfl, h14, (h2.mono (iT im1 (iT im7 (iT im8 im9)))), (h3.mono (iT im1 (iT im7 (iT im8 im9)))), (h4.mono (iT im1 (iT im7 (iT im8 im9)))), (h5.mono (iT im1 (iT im7 (iT im8 im9)))), (h6.mono (iT im1 (iT im7 (iT im8 im9)))), (h7.mono (iT im1 (iT im7 (iT im8 im9)))), (h8.mono (iT im1 (iT im7 (iT im8 im9)))), trivial⟩⟩))
  have hm := cfalse hb2 hm
  refine sq2 ?_
  obtain ⟨y5, hx5, hm⟩ := bindS hm
  refine rg (pv (r_mp rfl) (wl rfl (calS cf82 rfl (tree_reader_take_sim (p0 := y3.2) (H_p0 := H_p0) (p1 := ([99, 111, 110, 116, 105, 110, 117, 101] : List UInt8)) (hS7.bun [0, 1] [2] rfl) hL_p0 h13 hx5) rfl fun v7 T8 w10 im11 rv7 => ?_)))
  obtain ⟨a16, c16, rfl, hS11, h16, _⟩ := rv7
  have hS11 := hS11.unb
  refine pv (r_zb rfl) (nil (t_then ?_))
  refine cnd rfl (fun hb3 => ?_) (fun hb3 => ?_)
  · have hm := ctrue hb3 hm
    refine sq2 (rg (pv (r_mp rfl) (pv (r_nc rfl) (pv (r_fa rfl underlying68 rfl sizeOf3 rfl) (wl rfl (stB (q := 1) (j := 0) hS11 ⟨rfl, rfl⟩ hL_p1 rfl rfl rfl sizeOf3 rfl rfl rfl fun w11 im12 hS12 => ?_))))))
    refine nil (t_then ?_)
    refine rg (pv (r_mp rfl) (?_))
    obtain ⟨y6, hx6, hm⟩ := bindS hm
    rcases y6 with e3 | y6
    · have hm := exC_error hm
      refine wl rfl (calP cf62 rfl (tree_reader_must_sim (p0 := y5.2) (H_p0 := H_p0) (p1 := ([59] : List UInt8)) (hS12.bun [0, 1] [2] rfl) hL_p0 (h16.mono im12) hx6) rfl fun v9 T10 w13 im14 rv9 => ?_)
      obtain ⟨a18, c18, rfl, hS14, h18, _⟩ := rv9
      have hS14 := hS14.unb
      have hm := oI hm; subst hm
      exact p_blk (panE ⟨_, rfl, _, (iT im1 (iT im7 (iT im11 (iT im12 im14)))), ⟨_, _, _, _, _, _, _, _, _, _, _, _, _, _, _, _, rfl, hS14.sel [0, 2, 1] rfl, h18, (h2.mono (iT im1 (iT im7 (iT im11 (iT im12 im14))))), (h3.mono (iT im1 (iT im7 (iT im11 (iT im12 im14))))), (h4.mono (iT im1 (iT im7 (iT im11 (iT im12 im14))))), (h5.mono (iT im1 (iT im7 (iT im11 (iT im12 im14))))), (h6.mono (iT im1 (iT im7 (iT im11 (iT im12 im14))))), (h7.mono (iT im1 (iT im7 (iT im11 (iT im12 im14))))), (h8.mono (iT im1 (iT im7 (iT im11 (iT im12 im14))))), trivial⟩⟩)
    have hm := exC_ok hm
    refine wl rfl (calS cf62 rfl (tree_reader_must_sim (p0 := y5.2) (H_p0 := H_p0) (p1 := ([59] : List UInt8)) (hS12.bun [0, 1] [2] rfl) hL_p0 (h16.mono im12) hx6) rfl fun v8 T9 w12 im13 rv8 => ?_)
    obtain ⟨a17, c17, rfl, hS13, h17, _⟩ := rv8
    have hS13 := hS13.unb
    have hm := oI hm; subst hm
    exact nil (t_blk (end0 rfl ⟨_, rfl, _, (iT im1 (iT im7 (iT im11 (iT im12 im13)))), ⟨_, _, _, _, _, _, _, _, _, _, _, _, _, _, _, _, rfl, hS13.sel [0, 2, 1] rfl, h17, (h2.mono (iT im1 (iT im7 (iT im11 (iT im12 im13))))), (h3.mono (iT im1 (iT im7 (iT im11 (iT im12 im13))))), (h4.mono (iT im1 (iT im7 (iT im11 (iT im12 im13))))), (h5.mono (iT im1 (iT im7 (iT im11 (iT im12 im13))))), (h6.mono (iT im1 (iT im7 (iT im11 (iT im12 im13))))), (h7.mono (iT im1 (iT im7 (iT im11 (iT im12 im13))))), (h8.mono (iT im1 (iT im7 (iT im11 (iT im12 im13))))), trivial⟩⟩))
  have hm := cfalse hb3 hm
  refine sq2 (rg (pv (r_mp rfl) (pv (r_mp rfl) (pv (r_mp rfl) (?_)))))
  obtain ⟨y7, hx7, hm⟩ := bindS hm
  rcases y7 with e5 | y7
  · have hm := exC_error hm
    refine wl rfl (calP cf87 rfl (tree_reader_assign_sim (p0 := y5.2) (H_p0 := H_p0) (hS11.bun [0, 1] [2] rfl) hL_p0 h16 hx7) rfl fun v13 T16 w20 im23 rv13 => ?_)
    obtain ⟨a24, c24, rfl, hS23, h25, _⟩ := rv13
    have hS23 := hS23.unb
    have hm := oI hm; subst hm
    exact p_then (p_blk (panE ⟨_, rfl, _, (iT im1 (iT im7 (iT im11 im23))), ⟨_, _, _, _, _, _, _, _, _, _, _, _, _, _, _, _, rfl, hS23.sel [0, 2, 1] rfl, h25, (h2.mono (iT im1 (iT im7 (iT im11 im23)))), (h3.mono (iT im1 (iT im7 (iT im11 im23)))), (h4.mono (iT im1 (iT im7 (iT im11 im23)))), (h5.mono (iT im1 (iT im7 (iT im11 im23)))), (h6.mono (iT im1 (iT im7 (iT im11 im23)))), (h7.mono (iT im1 (iT im7 (iT im11 im23)))), (h8.mono (iT im1 (iT im7 (iT im11 im23)))), trivial⟩⟩))
  have hm := exC_ok hm
  refine wl rfl (calS cf87 rfl (tree_reader_assign_sim (p0 := y5.2) (H_p0 := H_p0) (hS11.bun [0, 1] [2] rfl) hL_p0 h16 hx7) rfl fun v10 T11 w14 im15 rv10 => ?_)
  obtain ⟨a19, c19, a20, c20, rfl, hS15, h19, h20, _⟩ := rv10
  have hS15 := hS15.unb
  refine wl rfl (bsS (r := rGExpr) (l := ([y7.1] : List GExpr)) (css := [(cGExpr y7.1 a19 c19)]) hS15 underlying56 sizeOf99 zeroValue99 rfl rfl (by kernel_rfl) rfl ⟨(rGExpr_mk (x := y7.1) h19 : rGExpr.rp _ _ _ _), trivial⟩ rfl rfl fun w15 a21 n2 c21 im16 hS16 => ?_)
  refine pv (r_nc rfl) (pv (r_fa rfl underlying68 rfl sizeOf3 rfl) (wl rfl (stB (q := 2) (j := 0) hS16 ⟨rfl, rfl⟩ hL_p1 rfl rfl rfl sizeOf3 rfl rfl rfl fun w16 im17 hS17 => ?_)))
  refine pv (r_nc rfl) (pv (r_fa rfl underlying68 rfl sizeOf56 rfl) (wl rfl (stB (q := 2) (j := 3) hS17 ⟨rfl, rfl⟩ hL_p1 rfl rfl rfl sizeOf56 rfl rfl rfl fun w17 im18 hS18 => ?_)))
  refine nil (t_then ?_)
  refine rg (pv (r_mp rfl) (?_))
  obtain ⟨y8, hx8, hm⟩ := bindS hm
  rcases y8 with e4 | y8
  · have hm := exC_error hm
    refine wl rfl (calP cf62 rfl (tree_reader_must_sim (p0 := y7.2) (H_p0 := H_p0) (p1 := ([59] : List UInt8)) (hS18.bun [0, 1, 2] [3] rfl) hL_p0 (h20.mono (iT im16 (iT im17 im18))) hx8) rfl fun v12 T14 w19 im21 rv12 => ?_)
    obtain ⟨a23, c23, rfl, hS21, h23, _⟩ := rv12
    have hS21 := hS21.unb
    obtain ⟨T15, im22, hS22, h24⟩ := hS21.seal 0 ⟨rfl, rfl⟩
    have hsh := h24.len
    subst hsh
    have hm := oI hm; subst hm
    exact p_blk (panE ⟨_, rfl, _, (iT im1 (iT im7 (iT im11 (iT im15 (iT im16 (iT im17 (iT im18 (iT im21 im22)))))))), ⟨_, _, _, _, _, _, _, _, _, _, _, _, _, _, _, _, rfl, hS22.sel [1, 3, 2] rfl, (h23.mono im22), h24, (h3.mono (iT im1 (iT im7 (iT im11 (iT im15 (iT im16 (iT im17 (iT im18 (iT im21 im22))))))))), (h4.mono (iT im1 (iT im7 (iT im11 (iT im15 (iT im16 (iT im17 (iT im18 (iT im21 im22))))))))), (h5.mono (iT im1 (iT im7 (iT im11 (iT im15 (iT im16 (iT im17 (iT im18 (iT im21 im22))))))))), (h6.mono (iT im1 (iT im7 (iT im11 (iT im15 (iT im16 (iT im17 (iT im18 (iT im21 im22))))))))), (h7.mono (iT im1 (iT im7 (iT im11 (iT im15 (iT im16 (iT im17 (iT im18 (iT im21 im22))))))))), (h8.mono (iT im1 (iT im7 (iT im11 (iT im15 (iT im16 (iT im17 (iT im18 (iT im21 im22))))))))), trivial⟩⟩)
  have hm := exC_ok hm
  refine wl rfl (calS cf62 rfl (tree_reader_must_sim (p0 := y7.2) (H_p0 := H_p0) (p1 := ([59] : List UInt8)) (hS18.bun [0, 1, 2] [3] rfl) hL_p0 (h20.mono (iT im16 (iT im17 im18))) hx8) rfl fun v11 T12 w18 im19 rv11 => ?_)
  obtain ⟨a22, c22, rfl, hS19, h21, _⟩ := rv11
  have hS19 := hS19.unb
  obtain ⟨T13, im20, hS20, h22⟩ := hS19.seal 0 ⟨rfl, rfl⟩
  have hsh := h22.len
  subst hsh
  have hm := oI hm; subst hm
  exact nil (t_blk (end0 rfl ⟨_, rfl, _, (iT im1 (iT im7 (iT im11 (iT im15 (iT im16 (iT im17 (iT im18 (iT im19 im20)))))))), ⟨_, _, _, _, _, _, _, _, _, _, _, _, _, _, _, _, rfl, hS20.sel [1, 3, 2] rfl, (h21.mono im20), h22, (h3.mono (iT im1 (iT im7 (iT im11 (iT im15 (iT im16 (iT im17 (iT im18 (iT im19 im20))))))))), (h4.mono (iT im1 (iT im7 (iT im11 (iT im15 (iT im16 (iT im17 (iT im18 (iT im19 im20))))))))), (h5.mono (iT im1 (iT im7 (iT im11 (iT im15 (iT im16 (iT im17 (iT im18 (iT im19 im20))))))))), (h6.mono (iT im1 (iT im7 (iT im11 (iT im15 (iT im16 (iT im17 (iT im18 (iT im19 im20))))))))), (h7.mono (iT im1 (iT im7 (iT im11 (iT im15 (iT im16 (iT im17 (iT im18 (iT im19 im20))))))))), (h8.mono (iT im1 (iT im7 (iT im11 (iT im15 (iT im16 (iT im17 (iT im18 (iT im19 im20))))))))), trivial⟩⟩))
end Go.Proofs.YtbolaohekbmndaaGreatDoor
