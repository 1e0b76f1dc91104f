/- That Go functions compute their models. Printed by gen2.py. -/
import Derived.Test.YtpfgdpffgdengaaGreatRows
import Derived.Test.YtpfgdpffgdengaaGreatFoc
import Derived.Test.YtpfgdpffgdengaaGreatTree
import Derived.Test.YtpfgdpffgdengaaGreatH
import Derived.Test.YtpfgdpffgdengaaGreatM
set_option linter.unusedVariables false
namespace Go.Proofs.YtpfgdpffgdengaaGreat
attribute [local irreducible] wpList wpQuiet Code.wp
theorem cf7 : CallOk Tryz.prog 7 := ⟨⟨_, Tryz.func7, by kernel_rfl, by kernel_rfl⟩⟩
theorem cf8 : CallOk Tryz.prog 8 := ⟨⟨_, Tryz.func8, by kernel_rfl, by kernel_rfl⟩⟩
theorem cf9 : CallOk Tryz.prog 9 := ⟨⟨_, Tryz.func9, by kernel_rfl, by kernel_rfl⟩⟩
theorem cf18 : CallOk Tryz.prog 18 := ⟨⟨_, Tryz.func18, by kernel_rfl, by kernel_rfl⟩⟩
theorem cf19 : CallOk Tryz.prog 19 := ⟨⟨_, Tryz.func19, by kernel_rfl, by kernel_rfl⟩⟩
theorem cf20 : CallOk Tryz.prog 20 := ⟨⟨_, Tryz.func20, by kernel_rfl, by kernel_rfl⟩⟩
theorem cf21 : CallOk Tryz.prog 21 := ⟨⟨_, Tryz.func21, by kernel_rfl, by kernel_rfl⟩⟩
theorem cf22 : CallOk Tryz.prog 22 := ⟨⟨_, Tryz.func22, by kernel_rfl, by kernel_rfl⟩⟩
theorem cf23 : CallOk Tryz.prog 23 := ⟨⟨_, Tryz.func23, by kernel_rfl, by kernel_rfl⟩⟩
theorem cf24 : CallOk Tryz.prog 24 := ⟨⟨_, Tryz.func24, by kernel_rfl, by kernel_rfl⟩⟩
theorem cf25 : CallOk Tryz.prog 25 := ⟨⟨_, Tryz.func25, by kernel_rfl, by kernel_rfl⟩⟩
theorem cf26 : CallOk Tryz.prog 26 := ⟨⟨_, Tryz.func26, by kernel_rfl, by kernel_rfl⟩⟩
theorem cf27 : CallOk Tryz.prog 27 := ⟨⟨_, Tryz.func27, by kernel_rfl, by kernel_rfl⟩⟩
theorem cf28 : CallOk Tryz.prog 28 := ⟨⟨_, Tryz.func28, by kernel_rfl, by kernel_rfl⟩⟩
theorem cf29 : CallOk Tryz.prog 29 := ⟨⟨_, Tryz.func29, by kernel_rfl, by kernel_rfl⟩⟩
theorem cf30 : CallOk Tryz.prog 30 := ⟨⟨_, Tryz.func30, by kernel_rfl, by kernel_rfl⟩⟩
theorem cf31 : CallOk Tryz.prog 31 := ⟨⟨_, Tryz.func31, by kernel_rfl, by kernel_rfl⟩⟩
theorem cf32 : CallOk Tryz.prog 32 := ⟨⟨_, Tryz.func32, by kernel_rfl, by kernel_rfl⟩⟩
theorem cf33 : CallOk Tryz.prog 33 := ⟨⟨_, Tryz.func33, by kernel_rfl, by kernel_rfl⟩⟩
theorem cf34 : CallOk Tryz.prog 34 := ⟨⟨_, Tryz.func34, by kernel_rfl, by kernel_rfl⟩⟩
theorem cf35 : CallOk Tryz.prog 35 := ⟨⟨_, Tryz.func35, by kernel_rfl, by kernel_rfl⟩⟩
theorem cf53 : CallOk Tryz.prog 53 := ⟨⟨_, Tryz.func53, by kernel_rfl, by kernel_rfl⟩⟩
theorem cf54 : CallOk Tryz.prog 54 := ⟨⟨_, Tryz.func54, by kernel_rfl, by kernel_rfl⟩⟩
theorem cf55 : CallOk Tryz.prog 55 := ⟨⟨_, Tryz.func55, by kernel_rfl, by kernel_rfl⟩⟩
theorem cf56 : CallOk Tryz.prog 56 := ⟨⟨_, Tryz.func56, by kernel_rfl, by kernel_rfl⟩⟩
theorem cf57 : CallOk Tryz.prog 57 := ⟨⟨_, Tryz.func57, by kernel_rfl, by kernel_rfl⟩⟩
theorem cf58 : CallOk Tryz.prog 58 := ⟨⟨_, Tryz.func58, by kernel_rfl, by kernel_rfl⟩⟩
theorem cf59 : CallOk Tryz.prog 59 := ⟨⟨_, Tryz.func59, by kernel_rfl, by kernel_rfl⟩⟩
theorem cf60 : CallOk Tryz.prog 60 := ⟨⟨_, Tryz.func60, by kernel_rfl, by kernel_rfl⟩⟩
theorem cf84 : CallOk Tryz.prog 84 := ⟨⟨_, Tryz.func84, by kernel_rfl, by kernel_rfl⟩⟩
theorem el22 : ElemOk Tryz.prog 22 1 := ⟨by kernel_rfl, by decide⟩
theorem mix : Tryz.prog.follows .mixedOrders = true := by kernel_rfl

set_option maxRecDepth 100000 in
set_option maxHeartbeats 1000000 in
theorem word_Add_sim {g : World} {T0 : Nat → Prop} {w0 : World} {R : Assn} {p0 : Int} {p1 : Int} {r : Int} (hS : Sep g T0 w0 [R])  (hm : word_Add p0 p1 = some r) :
    Calls Tryz.prog 18 #[.int .u32 p0, .int .u32 p1] w0 (RetS T0 w0 fun T w v => v = .int .u32 r ∧ Sep g T w [R] ∧ True) := by
  refine enter (args := [.int .u32 p0, .int .u32 p1]) Tryz.func18 rfl Tryz.ntmps18 rfl fun J => ?_
  unfold word_Add at hm
  refine sq2 (rg (pv (r_zi rfl) (nil (t_then ?_))))
  refine sq2 (rg (pv (r_mi rfl) (pv (r_mi rfl) (pv (r_ib rfl rfl rfl) (pv (r_zi rfl) (nil (t_then ?_)))))))
  have hm := oI hm; subst hm
  exact rtn (ret1 rfl rfl ⟨_, rfl, _, Im.refl, ⟨rfl, hS.sel [0] rfl, trivial⟩⟩)

set_option maxRecDepth 100000 in
set_option maxHeartbeats 1000000 in
theorem word_Sub_sim {g : World} {T0 : Nat → Prop} {w0 : World} {R : Assn} {p0 : Int} {p1 : Int} {r : Int} (hS : Sep g T0 w0 [R])  (hm : word_Sub p0 p1 = some r) :
    Calls Tryz.prog 19 #[.int .u32 p0, .int .u32 p1] w0 (RetS T0 w0 fun T w v => v = .int .u32 r ∧ Sep g T w [R] ∧ True) := by
  refine enter (args := [.int .u32 p0, .int .u32 p1]) Tryz.func19 rfl Tryz.ntmps19 rfl fun J => ?_
  unfold word_Sub at hm
  refine sq2 (rg (pv (r_zi rfl) (nil (t_then ?_))))
  refine sq2 (rg (pv (r_mi rfl) (pv (r_mi rfl) (pv (r_ib rfl rfl rfl) (pv (r_zi rfl) (nil (t_then ?_)))))))
  have hm := oI hm; subst hm
  exact rtn (ret1 rfl rfl ⟨_, rfl, _, Im.refl, ⟨rfl, hS.sel [0] rfl, trivial⟩⟩)

set_option maxRecDepth 100000 in
set_option maxHeartbeats 1000000 in
theorem word_Mul_sim {g : World} {T0 : Nat → Prop} {w0 : World} {R : Assn} {p0 : Int} {p1 : Int} {r : Int} (hS : Sep g T0 w0 [R])  (hm : word_Mul p0 p1 = some r) :
    Calls Tryz.prog 20 #[.int .u32 p0, .int .u32 p1] w0 (RetS T0 w0 fun T w v => v = .int .u32 r ∧ Sep g T w [R] ∧ True) := by
  refine enter (args := [.int .u32 p0, .int .u32 p1]) Tryz.func20 rfl Tryz.ntmps20 rfl fun J => ?_
  unfold word_Mul at hm
  refine sq2 (rg (pv (r_zi rfl) (nil (t_then ?_))))
  refine sq2 (rg (pv (r_mi rfl) (pv (r_mi rfl) (pv (r_ib rfl rfl rfl) (pv (r_zi rfl) (nil (t_then ?_)))))))
  have hm := oI hm; subst hm
  exact rtn (ret1 rfl rfl ⟨_, rfl, _, Im.refl, ⟨rfl, hS.sel [0] rfl, trivial⟩⟩)

set_option maxRecDepth 100000 in
set_option maxHeartbeats 1000000 in
theorem word_Div_1_sim {g : World} {T0 : Nat → Prop} {w0 : World} {R : Assn} {p0 : Int} {p1 : Int} {r : Int} (hS : Sep g T0 w0 [R])  (hm : word_Div_1 p0 p1 = some r) :
    Calls Tryz.prog 54 #[.int .i64 p0, .int .i64 p1] w0 (RetS T0 w0 fun T w v => v = .int .i64 r ∧ Sep g T w [R] ∧ True) := by
  refine enter (args := [.int .i64 p0, .int .i64 p1]) Tryz.func54 rfl Tryz.ntmps54 rfl fun J => ?_
  unfold word_Div_1 at hm
  refine sq2 (rg (pv (r_zi rfl) (nil (t_then ?_))))
  refine sq2 ?_
  obtain ⟨_, hz1, hm⟩ := bindS hm
  have hz1 := nz_some hz1
  refine rg (pv (r_mi rfl) (pv (r_mi rfl) (pv (r_iq rfl rfl hz1) (pv (r_zi rfl) (nil (t_then ?_))))))
  have hm := oI hm; subst hm
  exact rtn (ret1 rfl rfl ⟨_, rfl, _, Im.refl, ⟨rfl, hS.sel [0] rfl, trivial⟩⟩)

set_option maxRecDepth 100000 in
set_option maxHeartbeats 1000000 in
theorem word_signed_sim {g : World} {T0 : Nat → Prop} {w0 : World} {R : Assn} {p0 : Int} {p1 : Int} {r : Int} (hS : Sep g T0 w0 [R])  (hm : word_signed p0 p1 = some r) :
    Calls Tryz.prog 53 #[.int .u32 p0, .int .u32 p1, .func (.func 54) #[] #[]] w0 (RetS T0 w0 fun T w v => v = .int .i64 r ∧ Sep g T w [R] ∧ True) := by
  refine enter (args := [.int .u32 p0, .int .u32 p1, .func (.func 54) #[] #[]]) Tryz.func53 rfl Tryz.ntmps53 rfl fun J => ?_
  unfold word_signed at hm
  refine sq2 (rg (pv (r_zi rfl) (nil (t_then ?_))))
  refine sq2 ?_
  obtain ⟨y1, hx1, hm⟩ := bindS hm
  refine rg (pv (r_mf rfl) (pv (r_mi rfl) (pv (r_cv rfl Tryz.underlying22 Tryz.underlying21) (pv (r_cv rfl Tryz.underlying21 Tryz.underlying2) (pv (r_mi rfl) (pv (r_cv rfl Tryz.underlying22 Tryz.underlying21) (pv (r_cv rfl Tryz.underlying21 Tryz.underlying2) (wl rfl (calS cf54 rfl (word_Div_1_sim (p0 := IntKind.wrap .i64 (IntKind.wrap .i32 p0)) (p1 := IntKind.wrap .i64 (IntKind.wrap .i32 p1)) (hS.bun [0] [] rfl)  hx1) rfl fun v1 T1 w1 im1 rv1 => ?_)))))))))
  obtain ⟨rfl, hS1, _⟩ := rv1
  have hS1 : Sep g T1 w1 [R] := hS1.unb
  refine pv (r_zi rfl) (nil (t_then ?_))
  have hm := oI hm; subst hm
  exact rtn (ret1 rfl rfl ⟨_, rfl, _, im1, ⟨rfl, hS1.sel [0] rfl, trivial⟩⟩)

set_option maxRecDepth 100000 in
set_option maxHeartbeats 1000000 in
theorem word_Div_sim {g : World} {T0 : Nat → Prop} {w0 : World} {R : Assn} {p0 : Int} {p1 : Int} {r : Int} (hS : Sep g T0 w0 [R])  (hm : word_Div p0 p1 = some r) :
    Calls Tryz.prog 21 #[.int .u32 p0, .int .u32 p1] w0 (RetS T0 w0 fun T w v => v = .int .u32 r ∧ Sep g T w [R] ∧ True) := by
  refine enter (args := [.int .u32 p0, .int .u32 p1]) Tryz.func21 rfl Tryz.ntmps21 rfl fun J => ?_
  unfold word_Div at hm
  refine sq2 (rg (pv (r_zi rfl) (nil (t_then ?_))))
  refine sq2 (sq2 (rg (pv (r_mi rfl) (pv (r_ib rfl rfl rfl) (nil (t_then ?_))))))
  refine cnd rfl (fun hb1 => ?_) (fun hb1 => ?_)
  · have hm := ctrue hb1 hm
    refine sq2 (rg (pv (r_zi rfl) (nil (t_then ?_))))
    have hm := oI hm; subst hm
    exact rtn (r_then (ret1 rfl rfl ⟨_, rfl, _, Im.refl, ⟨rfl, hS.sel [0] rfl, trivial⟩⟩))
  have hm := cfalse hb1 hm
  refine skp (t_then ?_)
  refine sq2 ?_
  obtain ⟨y1, hx1, hm⟩ := bindS hm
  refine rg (pv (r_mi rfl) (pv (r_mi rfl) (wl rfl (calS cf53 rfl (word_signed_sim (p0 := p0) (p1 := p1) (hS.bun [0] [] rfl)  hx1) rfl fun v1 T1 w1 im1 rv1 => ?_))))
  obtain ⟨rfl, hS1, _⟩ := rv1
  have hS1 : Sep g T1 w1 [R] := hS1.unb
  refine pv (r_cv rfl Tryz.underlying2 Tryz.underlying22) (pv (r_zi rfl) (nil (t_then ?_)))
  have hm := oI hm; subst hm
  exact rtn (ret1 rfl rfl ⟨_, rfl, _, im1, ⟨rfl, hS1.sel [0] rfl, trivial⟩⟩)

set_option maxRecDepth 100000 in
set_option maxHeartbeats 1000000 in
theorem word_Rem_1_sim {g : World} {T0 : Nat → Prop} {w0 : World} {R : Assn} {p0 : Int} {p1 : Int} {r : Int} (hS : Sep g T0 w0 [R])  (hm : word_Rem_1 p0 p1 = some r) :
    Calls Tryz.prog 55 #[.int .i64 p0, .int .i64 p1] w0 (RetS T0 w0 fun T w v => v = .int .i64 r ∧ Sep g T w [R] ∧ True) := by
  refine enter (args := [.int .i64 p0, .int .i64 p1]) Tryz.func55 rfl Tryz.ntmps55 rfl fun J => ?_
  unfold word_Rem_1 at hm
  refine sq2 (rg (pv (r_zi rfl) (nil (t_then ?_))))
  refine sq2 ?_
  obtain ⟨_, hz1, hm⟩ := bindS hm
  have hz1 := nz_some hz1
  refine rg (pv (r_mi rfl) (pv (r_mi rfl) (pv (r_irm rfl rfl hz1) (pv (r_zi rfl) (nil (t_then ?_))))))
  have hm := oI hm; subst hm
  exact rtn (ret1 rfl rfl ⟨_, rfl, _, Im.refl, ⟨rfl, hS.sel [0] rfl, trivial⟩⟩)

set_option maxRecDepth 100000 in
set_option maxHeartbeats 1000000 in
theorem word_signed_2_sim {g : World} {T0 : Nat → Prop} {w0 : World} {R : Assn} {p0 : Int} {p1 : Int} {r : Int} (hS : Sep g T0 w0 [R])  (hm : word_signed_2 p0 p1 = some r) :
    Calls Tryz.prog 53 #[.int .u32 p0, .int .u32 p1, .func (.func 55) #[] #[]] w0 (RetS T0 w0 fun T w v => v = .int .i64 r ∧ Sep g T w [R] ∧ True) := by
  refine enter (args := [.int .u32 p0, .int .u32 p1, .func (.func 55) #[] #[]]) Tryz.func53 rfl Tryz.ntmps53 rfl fun J => ?_
  unfold word_signed_2 at hm
  refine sq2 (rg (pv (r_zi rfl) (nil (t_then ?_))))
  refine sq2 ?_
  obtain ⟨y1, hx1, hm⟩ := bindS hm
  refine rg (pv (r_mf rfl) (pv (r_mi rfl) (pv (r_cv rfl Tryz.underlying22 Tryz.underlying21) (pv (r_cv rfl Tryz.underlying21 Tryz.underlying2) (pv (r_mi rfl) (pv (r_cv rfl Tryz.underlying22 Tryz.underlying21) (pv (r_cv rfl Tryz.underlying21 Tryz.underlying2) (wl rfl (calS cf55 rfl (word_Rem_1_sim (p0 := IntKind.wrap .i64 (IntKind.wrap .i32 p0)) (p1 := IntKind.wrap .i64 (IntKind.wrap .i32 p1)) (hS.bun [0] [] rfl)  hx1) rfl fun v1 T1 w1 im1 rv1 => ?_)))))))))
  obtain ⟨rfl, hS1, _⟩ := rv1
  have hS1 : Sep g T1 w1 [R] := hS1.unb
  refine pv (r_zi rfl) (nil (t_then ?_))
  have hm := oI hm; subst hm
  exact rtn (ret1 rfl rfl ⟨_, rfl, _, im1, ⟨rfl, hS1.sel [0] rfl, trivial⟩⟩)

set_option maxRecDepth 100000 in
set_option maxHeartbeats 1000000 in
theorem word_Rem_sim {g : World} {T0 : Nat → Prop} {w0 : World} {R : Assn} {p0 : Int} {p1 : Int} {r : Int} (hS : Sep g T0 w0 [R])  (hm : word_Rem p0 p1 = some r) :
    Calls Tryz.prog 22 #[.int .u32 p0, .int .u32 p1] w0 (RetS T0 w0 fun T w v => v = .int .u32 r ∧ Sep g T w [R] ∧ True) := by
  refine enter (args := [.int .u32 p0, .int .u32 p1]) Tryz.func22 rfl Tryz.ntmps22 rfl fun J => ?_
  unfold word_Rem at hm
  refine sq2 (rg (pv (r_zi rfl) (nil (t_then ?_))))
  refine sq2 (sq2 (rg (pv (r_mi rfl) (pv (r_ib rfl rfl rfl) (nil (t_then ?_))))))
  refine cnd rfl (fun hb1 => ?_) (fun hb1 => ?_)
  · have hm := ctrue hb1 hm
    refine sq2 (rg (pv (r_mi rfl) (pv (r_zi rfl) (nil (t_then ?_)))))
    have hm := oI hm; subst hm
    exact rtn (r_then (ret1 rfl rfl ⟨_, rfl, _, Im.refl, ⟨rfl, hS.sel [0] rfl, trivial⟩⟩))
  have hm := cfalse hb1 hm
  refine skp (t_then ?_)
  refine sq2 ?_
  obtain ⟨y1, hx1, hm⟩ := bindS hm
  refine rg (pv (r_mi rfl) (pv (r_mi rfl) (wl rfl (calS cf53 rfl (word_signed_2_sim (p0 := p0) (p1 := p1) (hS.bun [0] [] rfl)  hx1) rfl fun v1 T1 w1 im1 rv1 => ?_))))
  obtain ⟨rfl, hS1, _⟩ := rv1
  have hS1 : Sep g T1 w1 [R] := hS1.unb
  refine pv (r_cv rfl Tryz.underlying2 Tryz.underlying22) (pv (r_zi rfl) (nil (t_then ?_)))
  have hm := oI hm; subst hm
  exact rtn (ret1 rfl rfl ⟨_, rfl, _, im1, ⟨rfl, hS1.sel [0] rfl, trivial⟩⟩)

set_option maxRecDepth 100000 in
set_option maxHeartbeats 1000000 in
theorem word_Left_sim {g : World} {T0 : Nat → Prop} {w0 : World} {R : Assn} {p0 : Int} {p1 : Int} {r : Int} (hS : Sep g T0 w0 [R])  (hm : word_Left p0 p1 = some r) :
    Calls Tryz.prog 23 #[.int .u32 p0, .int .u32 p1] w0 (RetS T0 w0 fun T w v => v = .int .u32 r ∧ Sep g T w [R] ∧ True) := by
  refine enter (args := [.int .u32 p0, .int .u32 p1]) Tryz.func23 rfl Tryz.ntmps23 rfl fun J => ?_
  unfold word_Left at hm
  refine sq2 (rg (pv (r_zi rfl) (nil (t_then ?_))))
  refine sq2 ?_
  obtain ⟨_, hz1, hm⟩ := bindS hm
  have hz1 := nn_some hz1
  refine rg (pv (r_mi rfl) (pv (r_mi rfl) (pv (r_ib rfl rfl rfl) (pv (r_ishl rfl rfl hz1) (pv (r_zi rfl) (nil (t_then ?_)))))))
  have hm := oI hm; subst hm
  exact rtn (ret1 rfl rfl ⟨_, rfl, _, Im.refl, ⟨rfl, hS.sel [0] rfl, trivial⟩⟩)

set_option maxRecDepth 100000 in
set_option maxHeartbeats 1000000 in
theorem word_RightS_sim {g : World} {T0 : Nat → Prop} {w0 : World} {R : Assn} {p0 : Int} {p1 : Int} {r : Int} (hS : Sep g T0 w0 [R])  (hm : word_RightS p0 p1 = some r) :
    Calls Tryz.prog 24 #[.int .u32 p0, .int .u32 p1] w0 (RetS T0 w0 fun T w v => v = .int .u32 r ∧ Sep g T w [R] ∧ True) := by
  refine enter (args := [.int .u32 p0, .int .u32 p1]) Tryz.func24 rfl Tryz.ntmps24 rfl fun J => ?_
  unfold word_RightS at hm
  refine sq2 (rg (pv (r_zi rfl) (nil (t_then ?_))))
  refine sq2 ?_
  obtain ⟨_, hz1, hm⟩ := bindS hm
  have hz1 := nn_some hz1
  refine rg (pv (r_mi rfl) (pv (r_cv rfl Tryz.underlying22 Tryz.underlying21) (pv (r_mi rfl) (pv (r_ib rfl rfl rfl) (pv (r_ishr rfl rfl hz1) (pv (r_cv rfl Tryz.underlying21 Tryz.underlying22) (pv (r_zi rfl) (nil (t_then ?_)))))))))
  have hm := oI hm; subst hm
  exact rtn (ret1 rfl rfl ⟨_, rfl, _, Im.refl, ⟨rfl, hS.sel [0] rfl, trivial⟩⟩)

set_option maxRecDepth 100000 in
set_option maxHeartbeats 1000000 in
theorem check_bit_sim {g : World} {T0 : Nat → Prop} {w0 : World} {R : Assn} {p0 : Bool} {r : Int} (hS : Sep g T0 w0 [R])  (hm : check_bit p0 = some r) :
    Calls Tryz.prog 25 #[.bool p0] w0 (RetS T0 w0 fun T w v => v = .int .u32 r ∧ Sep g T w [R] ∧ True) := by
  refine enter (args := [.bool p0]) Tryz.func25 rfl Tryz.ntmps25 rfl fun J => ?_
  unfold check_bit at hm
  refine sq2 (rg (pv (r_zi rfl) (nil (t_then ?_))))
  refine sq2 (sq2 (rg (pv (r_mb rfl) (nil (t_then ?_)))))
  refine cnd rfl (fun hb1 => ?_) (fun hb1 => ?_)
  · have hm := ctrue hb1 hm
    refine sq2 (rg (pv (r_zi rfl) (nil (t_then ?_))))
    have hm := oI hm; subst hm
    exact rtn (r_then (ret1 rfl rfl ⟨_, rfl, _, Im.refl, ⟨rfl, hS.sel [0] rfl, trivial⟩⟩))
  have hm := cfalse hb1 hm
  refine skp (t_then ?_)
  refine sq2 (rg (pv (r_zi rfl) (nil (t_then ?_))))
  have hm := oI hm; subst hm
  exact rtn (ret1 rfl rfl ⟨_, rfl, _, Im.refl, ⟨rfl, hS.sel [0] rfl, trivial⟩⟩)

set_option maxRecDepth 100000 in
set_option maxHeartbeats 1000000 in
theorem word_bit_sim {g : World} {T0 : Nat → Prop} {w0 : World} {R : Assn} {p0 : Bool} {r : Int} (hS : Sep g T0 w0 [R])  (hm : word_bit p0 = some r) :
    Calls Tryz.prog 84 #[.bool p0] w0 (RetS T0 w0 fun T w v => v = .int .u32 r ∧ Sep g T w [R] ∧ True) := by
  refine enter (args := [.bool p0]) Tryz.func84 rfl Tryz.ntmps84 rfl fun J => ?_
  unfold word_bit at hm
  refine sq2 (rg (pv (r_zi rfl) (nil (t_then ?_))))
  refine sq2 (sq2 (rg (pv (r_mb rfl) (nil (t_then ?_)))))
  refine cnd rfl (fun hb1 => ?_) (fun hb1 => ?_)
  · have hm := ctrue hb1 hm
    refine sq2 (rg (pv (r_zi rfl) (nil (t_then ?_))))
    have hm := oI hm; subst hm
    exact rtn (r_then (ret1 rfl rfl ⟨_, rfl, _, Im.refl, ⟨rfl, hS.sel [0] rfl, trivial⟩⟩))
  have hm := cfalse hb1 hm
  refine skp (t_then ?_)
  refine sq2 (rg (pv (r_zi rfl) (nil (t_then ?_))))
  have hm := oI hm; subst hm
  exact rtn (ret1 rfl rfl ⟨_, rfl, _, Im.refl, ⟨rfl, hS.sel [0] rfl, trivial⟩⟩)

set_option maxRecDepth 100000 in
set_option maxHeartbeats 1000000 in
theorem word_Less_sim {g : World} {T0 : Nat → Prop} {w0 : World} {R : Assn} {p0 : Int} {p1 : Int} {r : Int} (hS : Sep g T0 w0 [R])  (hm : word_Less p0 p1 = some r) :
    Calls Tryz.prog 56 #[.int .u32 p0, .int .u32 p1] w0 (RetS T0 w0 fun T w v => v = .int .u32 r ∧ Sep g T w [R] ∧ True) := by
  refine enter (args := [.int .u32 p0, .int .u32 p1]) Tryz.func56 rfl Tryz.ntmps56 rfl fun J => ?_
  unfold word_Less at hm
  refine sq2 (rg (pv (r_zi rfl) (nil (t_then ?_))))
  refine sq2 ?_
  obtain ⟨y1, hx1, hm⟩ := bindS hm
  refine rg (pv (r_mi rfl) (pv (r_cv rfl Tryz.underlying22 Tryz.underlying21) (pv (r_mi rfl) (pv (r_cv rfl Tryz.underlying22 Tryz.underlying21) (pv (r_ib rfl rfl rfl) (wl rfl (calS cf84 rfl (word_bit_sim (p0 := decide ((IntKind.wrap .i32 p0) < (IntKind.wrap .i32 p1))) (hS.bun [0] [] rfl)  hx1) rfl fun v1 T1 w1 im1 rv1 => ?_)))))))
  obtain ⟨rfl, hS1, _⟩ := rv1
  have hS1 : Sep g T1 w1 [R] := hS1.unb
  refine pv (r_zi rfl) (nil (t_then ?_))
  have hm := oI hm; subst hm
  exact rtn (ret1 rfl rfl ⟨_, rfl, _, im1, ⟨rfl, hS1.sel [0] rfl, trivial⟩⟩)

set_option maxRecDepth 100000 in
set_option maxHeartbeats 1000000 in
theorem check_compare_sim {g : World} {T0 : Nat → Prop} {w0 : World} {R : Assn} {p0 : Int} {p1 : Int} {p2 : Int} {r : Int × Int} (hS : Sep g T0 w0 [R])  (hm : check_compare p0 p1 p2 = some r) :
    Calls Tryz.prog 26 #[.int .i64 p0, .int .u32 p1, .int .u32 p2] w0 (RetS T0 w0 fun T w v => v = .tuple #[.int .u32 r.1, .int .i64 r.2] ∧ Sep g T w [R] ∧ True) := by
  refine enter (args := [.int .i64 p0, .int .u32 p1, .int .u32 p2]) Tryz.func26 rfl Tryz.ntmps26 rfl fun J => ?_
  unfold check_compare at hm
  refine sq2 (rg (pv (r_zi rfl) (pv (r_zi rfl) (nil (t_then ?_)))))
  refine sq2 (sq2 (rg (pv (r_mi rfl) (nil (t_then ?_)))))
  refine blk (sq2 (rg (pv (r_ib rfl rfl rfl) (pv (r_zb rfl) (nil (t_then ?_))))))
  refine cnd rfl (fun hb1 => ?_) (fun hb1 => ?_)
  · have hm := ctrue hb1 hm
    refine sq2 ?_
    obtain ⟨y1, hx1, hm⟩ := bindS hm
    refine rg (pv (r_mi rfl) (pv (r_mi rfl) (pv (r_ib rfl rfl rfl) (wl rfl (calS cf25 rfl (check_bit_sim (p0 := p1 == p2) (hS.bun [0] [] rfl)  hx1) rfl fun v1 T1 w1 im1 rv1 => ?_)))))
    obtain ⟨rfl, hS1, _⟩ := rv1
    have hS1 : Sep g T1 w1 [R] := hS1.unb
    refine pv (r_zi rfl) (pv (r_zi rfl) (nil (t_then ?_)))
    have hm := oI hm; subst hm
    exact rtn (r_blk (r_then (retN (vs := [.int .u32 y1, .int .i64 0]) rfl ⟨rfl, rfl, trivial⟩ rfl ⟨_, rfl, _, im1, ⟨rfl, hS1.sel [0] rfl, trivial⟩⟩)))
  have hm := cfalse hb1 hm
  refine sq2 (rg (pv (r_ib rfl rfl rfl) (pv (r_zb rfl) (nil (t_then ?_)))))
  refine cnd rfl (fun hb2 => ?_) (fun hb2 => ?_)
  · have hm := ctrue hb2 hm
    refine sq2 ?_
    obtain ⟨y2, hx2, hm⟩ := bindS hm
    refine rg (pv (r_mi rfl) (pv (r_mi rfl) (pv (r_ib rfl rfl rfl) (wl rfl (calS cf25 rfl (check_bit_sim (p0 := p1 != p2) (hS.bun [0] [] rfl)  hx2) rfl fun v2 T2 w2 im2 rv2 => ?_)))))
    obtain ⟨rfl, hS2, _⟩ := rv2
    have hS2 : Sep g T2 w2 [R] := hS2.unb
    refine pv (r_zi rfl) (pv (r_zi rfl) (nil (t_then ?_)))
    have hm := oI hm; subst hm
    exact rtn (r_blk (r_then (retN (vs := [.int .u32 y2, .int .i64 0]) rfl ⟨rfl, rfl, trivial⟩ rfl ⟨_, rfl, _, im2, ⟨rfl, hS2.sel [0] rfl, trivial⟩⟩)))
  have hm := cfalse hb2 hm
  refine sq2 (rg (pv (r_ib rfl rfl rfl) (pv (r_zb rfl) (nil (t_then ?_)))))
  refine cnd rfl (fun hb3 => ?_) (fun hb3 => ?_)
  · have hm := ctrue hb3 hm
    refine sq2 ?_
    obtain ⟨y3, hx3, hm⟩ := bindS hm
    refine rg (pv (r_mi rfl) (pv (r_mi rfl) (wl rfl (calS cf56 rfl (word_Less_sim (p0 := p1) (p1 := p2) (hS.bun [0] [] rfl)  hx3) rfl fun v3 T3 w3 im3 rv3 => ?_))))
    obtain ⟨rfl, hS3, _⟩ := rv3
    have hS3 : Sep g T3 w3 [R] := hS3.unb
    refine pv (r_zi rfl) (pv (r_zi rfl) (nil (t_then ?_)))
    have hm := oI hm; subst hm
    exact rtn (r_blk (r_then (retN (vs := [.int .u32 y3, .int .i64 0]) rfl ⟨rfl, rfl, trivial⟩ rfl ⟨_, rfl, _, im3, ⟨rfl, hS3.sel [0] rfl, trivial⟩⟩)))
  have hm := cfalse hb3 hm
  refine sq2 (rg (pv (r_ib rfl rfl rfl) (pv (r_zb rfl) (nil (t_then ?_)))))
  refine cnd rfl (fun hb4 => ?_) (fun hb4 => ?_)
  · have hm := ctrue hb4 hm
    refine sq2 ?_
    obtain ⟨y4, hx4, hm⟩ := bindS hm
    refine rg (pv (r_mi rfl) (pv (r_mi rfl) (wl rfl (calS cf56 rfl (word_Less_sim (p0 := p2) (p1 := p1) (hS.bun [0] [] rfl)  hx4) rfl fun v4 T4 w4 im4 rv4 => ?_))))
    obtain ⟨rfl, hS4, _⟩ := rv4
    have hS4 : Sep g T4 w4 [R] := hS4.unb
    refine pv (r_zi rfl) (pv (r_zi rfl) (nil (t_then ?_)))
    have hm := oI hm; subst hm
    exact rtn (r_blk (r_then (retN (vs := [.int .u32 y4, .int .i64 0]) rfl ⟨rfl, rfl, trivial⟩ rfl ⟨_, rfl, _, im4, ⟨rfl, hS4.sel [0] rfl, trivial⟩⟩)))
  have hm := cfalse hb4 hm
  refine sq2 (rg (pv (r_ib rfl rfl rfl) (pv (r_zb rfl) (nil (t_then ?_)))))
  refine cnd rfl (fun hb5 => ?_) (fun hb5 => ?_)
  · have hm := ctrue hb5 hm
    refine sq2 ?_
    obtain ⟨y5, hx5, hm⟩ := bindS hm
    refine rg (pv (r_mi rfl) (pv (r_mi rfl) (wl rfl (calS cf56 rfl (word_Less_sim (p0 := p2) (p1 := p1) (hS.bun [0] [] rfl)  hx5) rfl fun v5 T5 w5 im5 rv5 => ?_))))
    obtain ⟨rfl, hS5, _⟩ := rv5
    have hS5 : Sep g T5 w5 [R] := hS5.unb
    refine pv (r_ib rfl rfl rfl) (pv (r_zi rfl) (pv (r_zi rfl) (nil (t_then ?_))))
    have hm := oI hm; subst hm
    exact rtn (r_blk (r_then (retN (vs := [.int .u32 (IntKind.wrap .u32 (1 - y5)), .int .i64 0]) rfl ⟨rfl, rfl, trivial⟩ rfl ⟨_, rfl, _, im5, ⟨rfl, hS5.sel [0] rfl, trivial⟩⟩)))
  have hm := cfalse hb5 hm
  refine sq2 (rg (pv (r_ib rfl rfl rfl) (pv (r_zb rfl) (nil (t_then ?_)))))
  refine cnd rfl (fun hb6 => ?_) (fun hb6 => ?_)
  · have hm := ctrue hb6 hm
    refine sq2 ?_
    obtain ⟨y6, hx6, hm⟩ := bindS hm
    refine rg (pv (r_mi rfl) (pv (r_mi rfl) (wl rfl (calS cf56 rfl (word_Less_sim (p0 := p1) (p1 := p2) (hS.bun [0] [] rfl)  hx6) rfl fun v6 T6 w6 im6 rv6 => ?_))))
    obtain ⟨rfl, hS6, _⟩ := rv6
    have hS6 : Sep g T6 w6 [R] := hS6.unb
    refine pv (r_ib rfl rfl rfl) (pv (r_zi rfl) (pv (r_zi rfl) (nil (t_then ?_))))
    have hm := oI hm; subst hm
    exact rtn (r_blk (r_then (retN (vs := [.int .u32 (IntKind.wrap .u32 (1 - y6)), .int .i64 0]) rfl ⟨rfl, rfl, trivial⟩ rfl ⟨_, rfl, _, im6, ⟨rfl, hS6.sel [0] rfl, trivial⟩⟩)))
  have hm := cfalse hb6 hm
  refine skp (t_blk (t_then ?_))
  refine sq2 (rg (pv (r_zi rfl) (pv (r_zi rfl) (nil (t_then ?_)))))
  have hm := oI hm; subst hm
  exact rtn (retN (vs := [.int .u32 0, .int .i64 1]) rfl ⟨rfl, rfl, trivial⟩ rfl ⟨_, rfl, _, Im.refl, ⟨rfl, hS.sel [0] rfl, trivial⟩⟩)

set_option maxRecDepth 100000 in
set_option maxHeartbeats 1000000 in
theorem check_Apply_sim {g : World} {T0 : Nat → Prop} {w0 : World} {R : Assn} {p0 : Int} {p1 : Int} {p2 : Int} {r : Int × Int} (hS : Sep g T0 w0 [R])  (hm : check_Apply p0 p1 p2 = some r) :
    Calls Tryz.prog 7 #[.int .i64 p0, .int .u32 p1, .int .u32 p2] w0 (RetS T0 w0 fun T w v => v = .tuple #[.int .u32 r.1, .int .i64 r.2] ∧ Sep g T w [R] ∧ True) := by
  refine enter (args := [.int .i64 p0, .int .u32 p1, .int .u32 p2]) Tryz.func7 rfl Tryz.ntmps7 rfl fun J => ?_
  unfold check_Apply at hm
  refine sq2 (rg (pv (r_zi rfl) (pv (r_zi rfl) (nil (t_then ?_)))))
  refine sq2 (sq2 (rg (pv (r_mi rfl) (nil (t_then ?_)))))
  refine blk (sq2 (rg (pv (r_ib rfl rfl rfl) (pv (r_zb rfl) (nil (t_then ?_))))))
  refine cnd rfl (fun hb1 => ?_) (fun hb1 => ?_)
  · have hm := ctrue hb1 hm
    refine sq2 ?_
    obtain ⟨y1, hx1, hm⟩ := bindS hm
    refine rg (pv (r_mi rfl) (pv (r_mi rfl) (wl rfl (calS cf18 rfl (word_Add_sim (p0 := p1) (p1 := p2) (hS.bun [0] [] rfl)  hx1) rfl fun v1 T1 w1 im1 rv1 => ?_))))
    obtain ⟨rfl, hS1, _⟩ := rv1
    have hS1 : Sep g T1 w1 [R] := hS1.unb
    refine pv (r_zi rfl) (pv (r_zi rfl) (nil (t_then ?_)))
    have hm := oI hm; subst hm
    exact rtn (r_blk (r_then (retN (vs := [.int .u32 y1, .int .i64 0]) rfl ⟨rfl, rfl, trivial⟩ rfl ⟨_, rfl, _, im1, ⟨rfl, hS1.sel [0] rfl, trivial⟩⟩)))
  have hm := cfalse hb1 hm
  refine sq2 (rg (pv (r_ib rfl rfl rfl) (pv (r_zb rfl) (nil (t_then ?_)))))
  refine cnd rfl (fun hb2 => ?_) (fun hb2 => ?_)
  · have hm := ctrue hb2 hm
    refine sq2 ?_
    obtain ⟨y2, hx2, hm⟩ := bindS hm
    refine rg (pv (r_mi rfl) (pv (r_mi rfl) (wl rfl (calS cf19 rfl (word_Sub_sim (p0 := p1) (p1 := p2) (hS.bun [0] [] rfl)  hx2) rfl fun v2 T2 w2 im2 rv2 => ?_))))
    obtain ⟨rfl, hS2, _⟩ := rv2
    have hS2 : Sep g T2 w2 [R] := hS2.unb
    refine pv (r_zi rfl) (pv (r_zi rfl) (nil (t_then ?_)))
    have hm := oI hm; subst hm
    exact rtn (r_blk (r_then (retN (vs := [.int .u32 y2, .int .i64 0]) rfl ⟨rfl, rfl, trivial⟩ rfl ⟨_, rfl, _, im2, ⟨rfl, hS2.sel [0] rfl, trivial⟩⟩)))
  have hm := cfalse hb2 hm
  refine sq2 (rg (pv (r_ib rfl rfl rfl) (pv (r_zb rfl) (nil (t_then ?_)))))
  refine cnd rfl (fun hb3 => ?_) (fun hb3 => ?_)
  · have hm := ctrue hb3 hm
    refine sq2 ?_
    obtain ⟨y3, hx3, hm⟩ := bindS hm
    refine rg (pv (r_mi rfl) (pv (r_mi rfl) (wl rfl (calS cf20 rfl (word_Mul_sim (p0 := p1) (p1 := p2) (hS.bun [0] [] rfl)  hx3) rfl fun v3 T3 w3 im3 rv3 => ?_))))
    obtain ⟨rfl, hS3, _⟩ := rv3
    have hS3 : Sep g T3 w3 [R] := hS3.unb
    refine pv (r_zi rfl) (pv (r_zi rfl) (nil (t_then ?_)))
    have hm := oI hm; subst hm
    exact rtn (r_blk (r_then (retN (vs := [.int .u32 y3, .int .i64 0]) rfl ⟨rfl, rfl, trivial⟩ rfl ⟨_, rfl, _, im3, ⟨rfl, hS3.sel [0] rfl, trivial⟩⟩)))
  have hm := cfalse hb3 hm
  obtain ⟨kk1, hkk1, hm⟩ := jn_open hm
  refine cut (fun a w4 => ∃ (J : Nat → Value) (T4 : Nat → Prop) (x1 : Bool), a = env (nf 81) J [(0, .int .i64 p0), (1, .int .u32 p1), (2, .int .u32 p2), (8, .int .i64 p0), (24, .bool x1)] ∧ Im T0 w0 T4 w4 ∧ Sep g T4 w4 [R] ∧ kk1 x1 = some r) ?_ ?_
  · refine sq2 (rg (pv (r_ib rfl rfl rfl) (pv (r_zb rfl) (nil (t_then ?_)))))
    refine cnd rfl (fun hb4 => ?_) (fun hb4 => ?_)
    · have hm := ctrue hb4 hm
      exact skp (t_then ⟨_, _, (p0 == 4), env_has ⟨rfl, rfl, rfl, rfl, rfl, trivial⟩, Im.refl, hS.sel [0] rfl, hm⟩)
    have hm := cfalse hb4 hm
    exact rg (pv (r_ib rfl rfl rfl) (pv (r_zb rfl) (nil (t_then ⟨_, _, (p0 == 5), env_has ⟨rfl, rfl, rfl, rfl, rfl, trivial⟩, Im.refl, hS.sel [0] rfl, hm⟩))))
  rintro _ w4 ⟨J, T4, x1, rfl, im4, hS4, hm⟩
  rw [hkk1] at hm
  refine cnd rfl (fun hb5 => ?_) (fun hb5 => ?_)
  · have hm := ctrue hb5 hm
    refine sq2 (sq2 (rg (pv (r_mi rfl) (pv (r_ib rfl rfl rfl) (nil (t_then ?_))))))
    refine cnd rfl (fun hb6 => ?_) (fun hb6 => ?_)
    · have hm := ctrue hb6 hm
      refine sq2 (rg (pv (r_zi rfl) (pv (r_zi rfl) (nil (t_then ?_)))))
      have hm := oI hm; subst hm
      exact rtn (r_then (r_blk (r_then (retN (vs := [.int .u32 0, .int .i64 11]) rfl ⟨rfl, rfl, trivial⟩ rfl ⟨_, rfl, _, im4, ⟨rfl, hS4.sel [0] rfl, trivial⟩⟩))))
    have hm := cfalse hb6 hm
    refine skp (t_then ?_)
    refine sq2 (sq2 (rg (pv (r_mi rfl) (pv (r_ib rfl rfl rfl) (nil (t_then ?_))))))
    refine cnd rfl (fun hb7 => ?_) (fun hb7 => ?_)
    · have hm := ctrue hb7 hm
      refine sq2 ?_
      obtain ⟨y4, hx4, hm⟩ := bindS hm
      refine rg (pv (r_mi rfl) (pv (r_mi rfl) (wl rfl (calS cf21 rfl (word_Div_sim (p0 := p1) (p1 := p2) (hS4.bun [0] [] rfl)  hx4) rfl fun v4 T5 w5 im5 rv4 => ?_))))
      obtain ⟨rfl, hS5, _⟩ := rv4
      have hS5 : Sep g T5 w5 [R] := hS5.unb
      refine pv (r_zi rfl) (pv (r_zi rfl) (nil (t_then ?_)))
      have hm := oI hm; subst hm
      exact rtn (r_then (r_blk (r_then (retN (vs := [.int .u32 y4, .int .i64 0]) rfl ⟨rfl, rfl, trivial⟩ rfl ⟨_, rfl, _, (iT im4 im5), ⟨rfl, hS5.sel [0] rfl, trivial⟩⟩))))
    have hm := cfalse hb7 hm
    refine skp (t_then ?_)
    refine sq2 ?_
    obtain ⟨y5, hx5, hm⟩ := bindS hm
    refine rg (pv (r_mi rfl) (pv (r_mi rfl) (wl rfl (calS cf22 rfl (word_Rem_sim (p0 := p1) (p1 := p2) (hS4.bun [0] [] rfl)  hx5) rfl fun v5 T6 w6 im6 rv5 => ?_))))
    obtain ⟨rfl, hS6, _⟩ := rv5
    have hS6 : Sep g T6 w6 [R] := hS6.unb
    refine pv (r_zi rfl) (pv (r_zi rfl) (nil (t_then ?_)))
    have hm := oI hm; subst hm
    exact rtn (r_blk (r_then (retN (vs := [.int .u32 y5, .int .i64 0]) rfl ⟨rfl, rfl, trivial⟩ rfl ⟨_, rfl, _, (iT im4 im6), ⟨rfl, hS6.sel [0] rfl, trivial⟩⟩)))
  have hm := cfalse hb5 hm
  refine sq2 (rg (pv (r_ib rfl rfl rfl) (pv (r_zb rfl) (nil (t_then ?_)))))
  refine cnd rfl (fun hb8 => ?_) (fun hb8 => ?_)
  · have hm := ctrue hb8 hm
    refine sq2 (rg (pv (r_mi rfl) (pv (r_mi rfl) (pv (r_ib rfl rfl rfl) (pv (r_zi rfl) (pv (r_zi rfl) (nil (t_then ?_))))))))
    have hm := oI hm; subst hm
    exact rtn (r_blk (r_then (retN (vs := [.int .u32 (bits .and .u32 p1 p2), .int .i64 0]) rfl ⟨rfl, rfl, trivial⟩ rfl ⟨_, rfl, _, im4, ⟨rfl, hS4.sel [0] rfl, trivial⟩⟩)))
  have hm := cfalse hb8 hm
  refine sq2 (rg (pv (r_ib rfl rfl rfl) (pv (r_zb rfl) (nil (t_then ?_)))))
  refine cnd rfl (fun hb9 => ?_) (fun hb9 => ?_)
  · have hm := ctrue hb9 hm
    refine sq2 (rg (pv (r_mi rfl) (pv (r_mi rfl) (pv (r_ib rfl rfl rfl) (pv (r_zi rfl) (pv (r_zi rfl) (nil (t_then ?_))))))))
    have hm := oI hm; subst hm
    exact rtn (r_blk (r_then (retN (vs := [.int .u32 (bits .or .u32 p1 p2), .int .i64 0]) rfl ⟨rfl, rfl, trivial⟩ rfl ⟨_, rfl, _, im4, ⟨rfl, hS4.sel [0] rfl, trivial⟩⟩)))
  have hm := cfalse hb9 hm
  refine sq2 (rg (pv (r_ib rfl rfl rfl) (pv (r_zb rfl) (nil (t_then ?_)))))
  refine cnd rfl (fun hb10 => ?_) (fun hb10 => ?_)
  · have hm := ctrue hb10 hm
    refine sq2 (rg (pv (r_mi rfl) (pv (r_mi rfl) (pv (r_ib rfl rfl rfl) (pv (r_zi rfl) (pv (r_zi rfl) (nil (t_then ?_))))))))
    have hm := oI hm; subst hm
    exact rtn (r_blk (r_then (retN (vs := [.int .u32 (bits .xor .u32 p1 p2), .int .i64 0]) rfl ⟨rfl, rfl, trivial⟩ rfl ⟨_, rfl, _, im4, ⟨rfl, hS4.sel [0] rfl, trivial⟩⟩)))
  have hm := cfalse hb10 hm
  refine sq2 (rg (pv (r_ib rfl rfl rfl) (pv (r_zb rfl) (nil (t_then ?_)))))
  refine cnd rfl (fun hb11 => ?_) (fun hb11 => ?_)
  · have hm := ctrue hb11 hm
    refine sq2 ?_
    obtain ⟨y6, hx6, hm⟩ := bindS hm
    refine rg (pv (r_mi rfl) (pv (r_mi rfl) (wl rfl (calS cf23 rfl (word_Left_sim (p0 := p1) (p1 := p2) (hS4.bun [0] [] rfl)  hx6) rfl fun v6 T7 w7 im7 rv6 => ?_))))
    obtain ⟨rfl, hS7, _⟩ := rv6
    have hS7 : Sep g T7 w7 [R] := hS7.unb
    refine pv (r_zi rfl) (pv (r_zi rfl) (nil (t_then ?_)))
    have hm := oI hm; subst hm
    exact rtn (r_blk (r_then (retN (vs := [.int .u32 y6, .int .i64 0]) rfl ⟨rfl, rfl, trivial⟩ rfl ⟨_, rfl, _, (iT im4 im7), ⟨rfl, hS7.sel [0] rfl, trivial⟩⟩)))
  have hm := cfalse hb11 hm
  refine sq2 (rg (pv (r_ib rfl rfl rfl) (pv (r_zb rfl) (nil (t_then ?_)))))
  refine cnd rfl (fun hb12 => ?_) (fun hb12 => ?_)
  · have hm := ctrue hb12 hm
    refine sq2 ?_
    obtain ⟨y7, hx7, hm⟩ := bindS hm
    refine rg (pv (r_mi rfl) (pv (r_mi rfl) (wl rfl (calS cf24 rfl (word_RightS_sim (p0 := p1) (p1 := p2) (hS4.bun [0] [] rfl)  hx7) rfl fun v7 T8 w8 im8 rv7 => ?_))))
    obtain ⟨rfl, hS8, _⟩ := rv7
    have hS8 : Sep g T8 w8 [R] := hS8.unb
    refine pv (r_zi rfl) (pv (r_zi rfl) (nil (t_then ?_)))
    have hm := oI hm; subst hm
    exact rtn (r_blk (r_then (retN (vs := [.int .u32 y7, .int .i64 0]) rfl ⟨rfl, rfl, trivial⟩ rfl ⟨_, rfl, _, (iT im4 im8), ⟨rfl, hS8.sel [0] rfl, trivial⟩⟩)))
  have hm := cfalse hb12 hm
  refine sq2 (rg (pv (r_ib rfl rfl rfl) (pv (r_zb rfl) (nil (t_then ?_)))))
  refine cnd rfl (fun hb13 => ?_) (fun hb13 => ?_)
  · have hm := ctrue hb13 hm
    refine sq2 ?_
    obtain ⟨y8, hx8, hm⟩ := bindS hm
    refine rg (pv (r_mi rfl) (wl rfl (calS cf19 rfl (word_Sub_sim (p0 := 0) (p1 := p1) (hS4.bun [0] [] rfl)  hx8) rfl fun v8 T9 w9 im9 rv8 => ?_)))
    obtain ⟨rfl, hS9, _⟩ := rv8
    have hS9 : Sep g T9 w9 [R] := hS9.unb
    refine pv (r_zi rfl) (pv (r_zi rfl) (nil (t_then ?_)))
    have hm := oI hm; subst hm
    exact rtn (r_blk (r_then (retN (vs := [.int .u32 y8, .int .i64 0]) rfl ⟨rfl, rfl, trivial⟩ rfl ⟨_, rfl, _, (iT im4 im9), ⟨rfl, hS9.sel [0] rfl, trivial⟩⟩)))
  have hm := cfalse hb13 hm
  refine sq2 (rg (pv (r_ib rfl rfl rfl) (pv (r_zb rfl) (nil (t_then ?_)))))
  refine cnd rfl (fun hb14 => ?_) (fun hb14 => ?_)
  · have hm := ctrue hb14 hm
    refine sq2 (rg (pv (r_mi rfl) (pv (r_cm rfl) (pv (r_zi rfl) (pv (r_zi rfl) (nil (t_then ?_)))))))
    have hm := oI hm; subst hm
    exact rtn (r_blk (r_then (retN (vs := [.int .u32 (bits .xor .u32 (if IntKind.signed .u32 then -1 else IntKind.max .u32) p1), .int .i64 0]) rfl ⟨rfl, rfl, trivial⟩ rfl ⟨_, rfl, _, im4, ⟨rfl, hS4.sel [0] rfl, trivial⟩⟩)))
  have hm := cfalse hb14 hm
  refine sq2 (rg (pv (r_ib rfl rfl rfl) (pv (r_zb rfl) (nil (t_then ?_)))))
  refine cnd rfl (fun hb15 => ?_) (fun hb15 => ?_)
  · have hm := ctrue hb15 hm
    refine sq2 ?_
    obtain ⟨y9, hx9, hm⟩ := bindS hm
    refine rg (pv (r_mi rfl) (pv (r_ib rfl rfl rfl) (wl rfl (calS cf25 rfl (check_bit_sim (p0 := p1 == 0) (hS4.bun [0] [] rfl)  hx9) rfl fun v9 T10 w10 im10 rv9 => ?_))))
    obtain ⟨rfl, hS10, _⟩ := rv9
    have hS10 : Sep g T10 w10 [R] := hS10.unb
    refine pv (r_zi rfl) (pv (r_zi rfl) (nil (t_then ?_)))
    have hm := oI hm; subst hm
    exact rtn (r_blk (r_then (retN (vs := [.int .u32 y9, .int .i64 0]) rfl ⟨rfl, rfl, trivial⟩ rfl ⟨_, rfl, _, (iT im4 im10), ⟨rfl, hS10.sel [0] rfl, trivial⟩⟩)))
  have hm := cfalse hb15 hm
  refine skp (t_blk (t_then ?_))
  refine sq2 ?_
  obtain ⟨y10, hx10, hm⟩ := bindS hm
  refine rg (pv (r_mi rfl) (pv (r_mi rfl) (pv (r_mi rfl) (wl rfl (calS cf26 rfl (check_compare_sim (p0 := p0) (p1 := p1) (p2 := p2) (hS4.bun [0] [] rfl)  hx10) rfl fun v10 T11 w11 im11 rv10 => ?_)))))
  obtain ⟨rfl, hS11, _⟩ := rv10
  have hS11 : Sep g T11 w11 [R] := hS11.unb
  refine pv (r_ex (v := .int .u32 y10.1) rfl rfl) (pv (r_ex (v := .int .i64 y10.2) rfl rfl) (pv (r_zi rfl) (pv (r_zi rfl) (nil (t_thenR [(6, .int .u32 y10.1), (7, .int .i64 y10.2)] ⟨rfl, rfl, trivial⟩ fun J => ?_)))))
  have hm := oI hm; subst hm
  exact rtn (retN (vs := [.int .u32 y10.1, .int .i64 y10.2]) rfl ⟨rfl, rfl, trivial⟩ rfl ⟨_, rfl, _, (iT im4 im11), ⟨rfl, hS11.sel [0] rfl, trivial⟩⟩)

set_option maxRecDepth 100000 in
set_option maxHeartbeats 1000000 in
theorem ref01_Signed_sim {g : World} {T0 : Nat → Prop} {w0 : World} {R : Assn} {p0 : Int} {r : Int} (hS : Sep g T0 w0 [R])  (hm : ref01_Signed p0 = some r) :
    Calls Tryz.prog 27 #[.int .u32 p0] w0 (RetS T0 w0 fun T w v => v = .int .i64 r ∧ Sep g T w [R] ∧ True) := by
  refine enter (args := [.int .u32 p0]) Tryz.func27 rfl Tryz.ntmps27 rfl fun J => ?_
  unfold ref01_Signed at hm
  refine sq2 (rg (pv (r_zi rfl) (nil (t_then ?_))))
  refine sq2 (sq2 (rg (pv (r_mi rfl) (pv (r_ib rfl rfl rfl) (nil (t_then ?_))))))
  refine cnd rfl (fun hb1 => ?_) (fun hb1 => ?_)
  · have hm := ctrue hb1 hm
    refine sq2 (rg (pv (r_mi rfl) (pv (r_cv rfl Tryz.underlying22 Tryz.underlying3) (pv (r_ib rfl rfl rfl) (pv (r_zi rfl) (nil (t_then ?_)))))))
    have hm := oI hm; subst hm
    exact rtn (r_then (ret1 rfl rfl ⟨_, rfl, _, Im.refl, ⟨rfl, hS.sel [0] rfl, trivial⟩⟩))
  have hm := cfalse hb1 hm
  refine skp (t_then ?_)
  refine sq2 (rg (pv (r_mi rfl) (pv (r_cv rfl Tryz.underlying22 Tryz.underlying3) (pv (r_zi rfl) (nil (t_then ?_))))))
  have hm := oI hm; subst hm
  exact rtn (ret1 rfl rfl ⟨_, rfl, _, Im.refl, ⟨rfl, hS.sel [0] rfl, trivial⟩⟩)

set_option maxRecDepth 100000 in
set_option maxHeartbeats 1000000 in
theorem ref01_Cut_sim {g : World} {T0 : Nat → Prop} {w0 : World} {R : Assn} {p0 : Int} {r : Int} (hS : Sep g T0 w0 [R])  (hm : ref01_Cut p0 = some r) :
    Calls Tryz.prog 57 #[.int .i64 p0] w0 (RetS T0 w0 fun T w v => v = .int .u32 r ∧ Sep g T w [R] ∧ True) := by
  refine enter (args := [.int .i64 p0]) Tryz.func57 rfl Tryz.ntmps57 rfl fun J => ?_
  unfold ref01_Cut at hm
  refine sq2 (rg (pv (r_zi rfl) (nil (t_then ?_))))
  refine sq2 (rg (pv (r_mi rfl) (pv (r_irm rfl rfl (by decide)) (pv (r_zi rfl) (nil (t_then ?_))))))
  obtain ⟨kk1, hkk1, hm⟩ := jn_open hm
  refine cut (fun a w1 => ∃ (J : Nat → Value) (T1 : Nat → Prop) (x1 : Int), a = env (nf 12) J [(3, .int .i64 x1)] ∧ Im T0 w0 T1 w1 ∧ Sep g T1 w1 [R] ∧ kk1 x1 = some r) ?_ ?_
  · refine sq2 (rg (pv (r_mi rfl) (pv (r_ib rfl rfl rfl) (nil (t_then ?_)))))
    refine cnd rfl (fun hb1 => ?_) (fun hb1 => ?_)
    · have hm := ctrue hb1 hm
      exact rg (pv (r_mi rfl) (pv (r_ib rfl rfl rfl) (pv (r_zi rfl) (nil (t_then ⟨_, _, (IntKind.wrap .i64 ((Int.tmod p0 4294967296) + 4294967296)), env_has ⟨rfl, trivial⟩, Im.refl, hS.sel [0] rfl, hm⟩)))))
    have hm := cfalse hb1 hm
    exact skp (t_then ⟨_, _, (Int.tmod p0 4294967296), env_has ⟨rfl, trivial⟩, Im.refl, hS.sel [0] rfl, hm⟩)
  rintro _ w1 ⟨J, T1, x1, rfl, im1, hS1, hm⟩
  rw [hkk1] at hm
  refine sq2 (rg (pv (r_mi rfl) (pv (r_cv rfl Tryz.underlying3 Tryz.underlying22) (pv (r_zi rfl) (nil (t_then ?_))))))
  have hm := oI hm; subst hm
  exact rtn (ret1 rfl rfl ⟨_, rfl, _, im1, ⟨rfl, hS1.sel [0] rfl, trivial⟩⟩)

set_option maxRecDepth 100000 in
set_option maxHeartbeats 1000000 in
theorem ref01_Add_sim {g : World} {T0 : Nat → Prop} {w0 : World} {R : Assn} {p0 : Int} {p1 : Int} {r : Int} (hS : Sep g T0 w0 [R])  (hm : ref01_Add p0 p1 = some r) :
    Calls Tryz.prog 28 #[.int .u32 p0, .int .u32 p1] w0 (RetS T0 w0 fun T w v => v = .int .u32 r ∧ Sep g T w [R] ∧ True) := by
  refine enter (args := [.int .u32 p0, .int .u32 p1]) Tryz.func28 rfl Tryz.ntmps28 rfl fun J => ?_
  unfold ref01_Add at hm
  refine sq2 (rg (pv (r_zi rfl) (nil (t_then ?_))))
  refine sq2 ?_
  obtain ⟨y1, hx1, hm⟩ := bindS hm
  refine rg (pv (r_mi rfl) (pv (r_cv rfl Tryz.underlying22 Tryz.underlying3) (pv (r_mi rfl) (pv (r_cv rfl Tryz.underlying22 Tryz.underlying3) (pv (r_ib rfl rfl rfl) (wl rfl (calS cf57 rfl (ref01_Cut_sim (p0 := IntKind.wrap .i64 ((IntKind.wrap .i64 p0) + (IntKind.wrap .i64 p1))) (hS.bun [0] [] rfl)  hx1) rfl fun v1 T1 w1 im1 rv1 => ?_)))))))
  obtain ⟨rfl, hS1, _⟩ := rv1
  have hS1 : Sep g T1 w1 [R] := hS1.unb
  refine pv (r_zi rfl) (nil (t_then ?_))
  have hm := oI hm; subst hm
  exact rtn (ret1 rfl rfl ⟨_, rfl, _, im1, ⟨rfl, hS1.sel [0] rfl, trivial⟩⟩)

set_option maxRecDepth 100000 in
set_option maxHeartbeats 1000000 in
theorem ref01_Sub_sim {g : World} {T0 : Nat → Prop} {w0 : World} {R : Assn} {p0 : Int} {p1 : Int} {r : Int} (hS : Sep g T0 w0 [R])  (hm : ref01_Sub p0 p1 = some r) :
    Calls Tryz.prog 29 #[.int .u32 p0, .int .u32 p1] w0 (RetS T0 w0 fun T w v => v = .int .u32 r ∧ Sep g T w [R] ∧ True) := by
  refine enter (args := [.int .u32 p0, .int .u32 p1]) Tryz.func29 rfl Tryz.ntmps29 rfl fun J => ?_
  unfold ref01_Sub at hm
  refine sq2 (rg (pv (r_zi rfl) (nil (t_then ?_))))
  refine sq2 ?_
  obtain ⟨y1, hx1, hm⟩ := bindS hm
  refine rg (pv (r_mi rfl) (pv (r_cv rfl Tryz.underlying22 Tryz.underlying3) (pv (r_mi rfl) (pv (r_cv rfl Tryz.underlying22 Tryz.underlying3) (pv (r_ib rfl rfl rfl) (wl rfl (calS cf57 rfl (ref01_Cut_sim (p0 := IntKind.wrap .i64 ((IntKind.wrap .i64 p0) - (IntKind.wrap .i64 p1))) (hS.bun [0] [] rfl)  hx1) rfl fun v1 T1 w1 im1 rv1 => ?_)))))))
  obtain ⟨rfl, hS1, _⟩ := rv1
  have hS1 : Sep g T1 w1 [R] := hS1.unb
  refine pv (r_zi rfl) (nil (t_then ?_))
  have hm := oI hm; subst hm
  exact rtn (ret1 rfl rfl ⟨_, rfl, _, im1, ⟨rfl, hS1.sel [0] rfl, trivial⟩⟩)

set_option maxRecDepth 100000 in
set_option maxHeartbeats 1000000 in
theorem ref01_half_sim {g : World} {T0 : Nat → Prop} {w0 : World} {R : Assn} {p0 : Int} {p1 : Int} {r : Int × Int} (hS : Sep g T0 w0 [R])  (hm : ref01_half p0 p1 = some r) :
    Calls Tryz.prog 58 #[.int .u32 p0, .int .u32 p1] w0 (RetS T0 w0 fun T w v => v = .tuple #[.int .u32 r.1, .int .u32 r.2] ∧ Sep g T w [R] ∧ True) := by
  refine enter (args := [.int .u32 p0, .int .u32 p1]) Tryz.func58 rfl Tryz.ntmps58 rfl fun J => ?_
  unfold ref01_half at hm
  refine sq2 (rg (pv (r_zi rfl) (pv (r_zi rfl) (nil (t_then ?_)))))
  refine sq2 (rg (pv (r_mi rfl) (pv (r_cv rfl Tryz.underlying22 Tryz.underlying3) (pv (r_irm rfl rfl (by decide)) (pv (r_mi rfl) (pv (r_cv rfl Tryz.underlying22 Tryz.underlying3) (pv (r_iq rfl rfl (by decide)) (pv (r_zi rfl) (pv (r_zi rfl) (nil (t_then ?_)))))))))))
  refine sq2 (rg (pv (r_mi rfl) (pv (r_cv rfl Tryz.underlying22 Tryz.underlying3) (pv (r_irm rfl rfl (by decide)) (pv (r_mi rfl) (pv (r_cv rfl Tryz.underlying22 Tryz.underlying3) (pv (r_iq rfl rfl (by decide)) (pv (r_zi rfl) (pv (r_zi rfl) (nil (t_then ?_)))))))))))
  refine sq2 (rg (pv (r_mi rfl) (pv (r_mi rfl) (pv (r_ib rfl rfl rfl) (pv (r_zi rfl) (nil (t_then ?_)))))))
  refine sq2 (rg (pv (r_mi rfl) (pv (r_mi rfl) (pv (r_ib rfl rfl rfl) (pv (r_mi rfl) (pv (r_iq rfl rfl (by decide)) (pv (r_ib rfl rfl rfl) (pv (r_zi rfl) (nil (t_thenR [(6, .int .i64 (Int.tmod (IntKind.wrap .i64 p0) 65536)), (7, .int .i64 (IntKind.wrap .i64 (Int.tdiv (IntKind.wrap .i64 p0) 65536))), (9, .int .i64 (IntKind.wrap .i64 (Int.tdiv (IntKind.wrap .i64 p1) 65536))), (10, .int .i64 (IntKind.wrap .i64 ((Int.tmod (IntKind.wrap .i64 p0) 65536) * (Int.tmod (IntKind.wrap .i64 p1) 65536)))), (11, .int .i64 (IntKind.wrap .i64 ((IntKind.wrap .i64 ((IntKind.wrap .i64 (Int.tdiv (IntKind.wrap .i64 p0) 65536)) * (Int.tmod (IntKind.wrap .i64 p1) 65536))) + (IntKind.wrap .i64 (Int.tdiv (IntKind.wrap .i64 ((Int.tmod (IntKind.wrap .i64 p0) 65536) * (Int.tmod (IntKind.wrap .i64 p1) 65536))) 65536)))))] ⟨rfl, rfl, rfl, rfl, rfl, trivial⟩ fun J => ?_))))))))))
  refine sq2 (rg (pv (r_mi rfl) (pv (r_mi rfl) (pv (r_ib rfl rfl rfl) (pv (r_mi rfl) (pv (r_irm rfl rfl (by decide)) (pv (r_ib rfl rfl rfl) (pv (r_zi rfl) (nil (t_then ?_))))))))))
  refine sq2 (rg (pv (r_mi rfl) (pv (r_mi rfl) (pv (r_ib rfl rfl rfl) (pv (r_mi rfl) (pv (r_iq rfl rfl (by decide)) (pv (r_ib rfl rfl rfl) (pv (r_mi rfl) (pv (r_iq rfl rfl (by decide)) (pv (r_ib rfl rfl rfl) (pv (r_cv rfl Tryz.underlying3 Tryz.underlying22) (pv (r_mi rfl) (pv (r_irm rfl rfl (by decide)) (pv (r_ib rfl rfl rfl) (pv (r_mi rfl) (pv (r_irm rfl rfl (by decide)) (pv (r_ib rfl rfl rfl) (pv (r_cv rfl Tryz.underlying3 Tryz.underlying22) (pv (r_zi rfl) (pv (r_zi rfl) (nil (t_thenR [(4, .int .u32 (IntKind.wrap .u32 (IntKind.wrap .i64 ((IntKind.wrap .i64 ((IntKind.wrap .i64 ((IntKind.wrap .i64 (Int.tdiv (IntKind.wrap .i64 p0) 65536)) * (IntKind.wrap .i64 (Int.tdiv (IntKind.wrap .i64 p1) 65536)))) + (IntKind.wrap .i64 (Int.tdiv (IntKind.wrap .i64 ((IntKind.wrap .i64 ((IntKind.wrap .i64 (Int.tdiv (IntKind.wrap .i64 p0) 65536)) * (Int.tmod (IntKind.wrap .i64 p1) 65536))) + (IntKind.wrap .i64 (Int.tdiv (IntKind.wrap .i64 ((Int.tmod (IntKind.wrap .i64 p0) 65536) * (Int.tmod (IntKind.wrap .i64 p1) 65536))) 65536)))) 65536)))) + (IntKind.wrap .i64 (Int.tdiv (IntKind.wrap .i64 ((IntKind.wrap .i64 ((Int.tmod (IntKind.wrap .i64 p0) 65536) * (IntKind.wrap .i64 (Int.tdiv (IntKind.wrap .i64 p1) 65536)))) + (Int.tmod (IntKind.wrap .i64 ((IntKind.wrap .i64 ((IntKind.wrap .i64 (Int.tdiv (IntKind.wrap .i64 p0) 65536)) * (Int.tmod (IntKind.wrap .i64 p1) 65536))) + (IntKind.wrap .i64 (Int.tdiv (IntKind.wrap .i64 ((Int.tmod (IntKind.wrap .i64 p0) 65536) * (Int.tmod (IntKind.wrap .i64 p1) 65536))) 65536)))) 65536))) 65536)))))), (5, .int .u32 (IntKind.wrap .u32 (IntKind.wrap .i64 ((IntKind.wrap .i64 ((Int.tmod (IntKind.wrap .i64 ((IntKind.wrap .i64 ((Int.tmod (IntKind.wrap .i64 p0) 65536) * (IntKind.wrap .i64 (Int.tdiv (IntKind.wrap .i64 p1) 65536)))) + (Int.tmod (IntKind.wrap .i64 ((IntKind.wrap .i64 ((IntKind.wrap .i64 (Int.tdiv (IntKind.wrap .i64 p0) 65536)) * (Int.tmod (IntKind.wrap .i64 p1) 65536))) + (IntKind.wrap .i64 (Int.tdiv (IntKind.wrap .i64 ((Int.tmod (IntKind.wrap .i64 p0) 65536) * (Int.tmod (IntKind.wrap .i64 p1) 65536))) 65536)))) 65536))) 65536) * 65536)) + (Int.tmod (IntKind.wrap .i64 ((Int.tmod (IntKind.wrap .i64 p0) 65536) * (Int.tmod (IntKind.wrap .i64 p1) 65536))) 65536)))))] ⟨rfl, rfl, trivial⟩ fun J => ?_))))))))))))))))))))))
  have hm := oI hm; subst hm
  exact rtn (retN (vs := [.int .u32 (IntKind.wrap .u32 (IntKind.wrap .i64 ((IntKind.wrap .i64 ((IntKind.wrap .i64 ((IntKind.wrap .i64 (Int.tdiv (IntKind.wrap .i64 p0) 65536)) * (IntKind.wrap .i64 (Int.tdiv (IntKind.wrap .i64 p1) 65536)))) + (IntKind.wrap .i64 (Int.tdiv (IntKind.wrap .i64 ((IntKind.wrap .i64 ((IntKind.wrap .i64 (Int.tdiv (IntKind.wrap .i64 p0) 65536)) * (Int.tmod (IntKind.wrap .i64 p1) 65536))) + (IntKind.wrap .i64 (Int.tdiv (IntKind.wrap .i64 ((Int.tmod (IntKind.wrap .i64 p0) 65536) * (Int.tmod (IntKind.wrap .i64 p1) 65536))) 65536)))) 65536)))) + (IntKind.wrap .i64 (Int.tdiv (IntKind.wrap .i64 ((IntKind.wrap .i64 ((Int.tmod (IntKind.wrap .i64 p0) 65536) * (IntKind.wrap .i64 (Int.tdiv (IntKind.wrap .i64 p1) 65536)))) + (Int.tmod (IntKind.wrap .i64 ((IntKind.wrap .i64 ((IntKind.wrap .i64 (Int.tdiv (IntKind.wrap .i64 p0) 65536)) * (Int.tmod (IntKind.wrap .i64 p1) 65536))) + (IntKind.wrap .i64 (Int.tdiv (IntKind.wrap .i64 ((Int.tmod (IntKind.wrap .i64 p0) 65536) * (Int.tmod (IntKind.wrap .i64 p1) 65536))) 65536)))) 65536))) 65536))))), .int .u32 (IntKind.wrap .u32 (IntKind.wrap .i64 ((IntKind.wrap .i64 ((Int.tmod (IntKind.wrap .i64 ((IntKind.wrap .i64 ((Int.tmod (IntKind.wrap .i64 p0) 65536) * (IntKind.wrap .i64 (Int.tdiv (IntKind.wrap .i64 p1) 65536)))) + (Int.tmod (IntKind.wrap .i64 ((IntKind.wrap .i64 ((IntKind.wrap .i64 (Int.tdiv (IntKind.wrap .i64 p0) 65536)) * (Int.tmod (IntKind.wrap .i64 p1) 65536))) + (IntKind.wrap .i64 (Int.tdiv (IntKind.wrap .i64 ((Int.tmod (IntKind.wrap .i64 p0) 65536) * (Int.tmod (IntKind.wrap .i64 p1) 65536))) 65536)))) 65536))) 65536) * 65536)) + (Int.tmod (IntKind.wrap .i64 ((Int.tmod (IntKind.wrap .i64 p0) 65536) * (Int.tmod (IntKind.wrap .i64 p1) 65536))) 65536))))]) rfl ⟨rfl, rfl, trivial⟩ rfl ⟨_, rfl, _, Im.refl, ⟨rfl, hS.sel [0] rfl, trivial⟩⟩)

set_option maxRecDepth 100000 in
set_option maxHeartbeats 1000000 in
theorem ref01_Mul_sim {g : World} {T0 : Nat → Prop} {w0 : World} {R : Assn} {p0 : Int} {p1 : Int} {r : Int} (hS : Sep g T0 w0 [R])  (hm : ref01_Mul p0 p1 = some r) :
    Calls Tryz.prog 30 #[.int .u32 p0, .int .u32 p1] w0 (RetS T0 w0 fun T w v => v = .int .u32 r ∧ Sep g T w [R] ∧ True) := by
  refine enter (args := [.int .u32 p0, .int .u32 p1]) Tryz.func30 rfl Tryz.ntmps30 rfl fun J => ?_
  unfold ref01_Mul at hm
  refine sq2 (rg (pv (r_zi rfl) (nil (t_then ?_))))
  refine sq2 ?_
  obtain ⟨y1, hx1, hm⟩ := bindS hm
  refine rg (pv (r_mi rfl) (pv (r_mi rfl) (wl rfl (calS cf58 rfl (ref01_half_sim (p0 := p0) (p1 := p1) (hS.bun [0] [] rfl)  hx1) rfl fun v1 T1 w1 im1 rv1 => ?_))))
  obtain ⟨rfl, hS1, _⟩ := rv1
  have hS1 : Sep g T1 w1 [R] := hS1.unb
  refine pv (r_mv rfl) (pv (r_ex (v := .int .u32 y1.1) rfl rfl) (pv (r_ex (v := .int .u32 y1.2) rfl rfl) (pv (r_zi rfl) (pv (r_zi rfl) (nil (t_then ?_))))))
  refine sq2 (rg (pv (r_mi rfl) (pv (r_zi rfl) (nil (t_then ?_)))))
  have hm := oI hm; subst hm
  exact rtn (ret1 rfl rfl ⟨_, rfl, _, im1, ⟨rfl, hS1.sel [0] rfl, trivial⟩⟩)

set_option maxRecDepth 100000 in
set_option maxHeartbeats 1000000 in
theorem ref01_abs_sim {g : World} {T0 : Nat → Prop} {w0 : World} {R : Assn} {p0 : Int} {r : Int} (hS : Sep g T0 w0 [R])  (hm : ref01_abs p0 = some r) :
    Calls Tryz.prog 59 #[.int .i64 p0] w0 (RetS T0 w0 fun T w v => v = .int .i64 r ∧ Sep g T w [R] ∧ True) := by
  refine enter (args := [.int .i64 p0]) Tryz.func59 rfl Tryz.ntmps59 rfl fun J => ?_
  unfold ref01_abs at hm
  refine sq2 (rg (pv (r_zi rfl) (nil (t_then ?_))))
  refine sq2 (sq2 (rg (pv (r_mi rfl) (pv (r_ib rfl rfl rfl) (nil (t_then ?_))))))
  refine cnd rfl (fun hb1 => ?_) (fun hb1 => ?_)
  · have hm := ctrue hb1 hm
    refine sq2 (rg (pv (r_mi rfl) (pv (r_ng rfl) (pv (r_zi rfl) (nil (t_then ?_))))))
    have hm := oI hm; subst hm
    exact rtn (r_then (ret1 rfl rfl ⟨_, rfl, _, Im.refl, ⟨rfl, hS.sel [0] rfl, trivial⟩⟩))
  have hm := cfalse hb1 hm
  refine skp (t_then ?_)
  refine sq2 (rg (pv (r_mi rfl) (pv (r_zi rfl) (nil (t_then ?_)))))
  have hm := oI hm; subst hm
  exact rtn (ret1 rfl rfl ⟨_, rfl, _, Im.refl, ⟨rfl, hS.sel [0] rfl, trivial⟩⟩)

set_option maxRecDepth 100000 in
set_option maxHeartbeats 1000000 in
theorem ref01_Div_sim {g : World} {T0 : Nat → Prop} {w0 : World} {R : Assn} {p0 : Int} {p1 : Int} {r : Int} (hS : Sep g T0 w0 [R])  (hm : ref01_Div p0 p1 = some r) :
    Calls Tryz.prog 31 #[.int .u32 p0, .int .u32 p1] w0 (RetS T0 w0 fun T w v => v = .int .u32 r ∧ Sep g T w [R] ∧ True) := by
  refine enter (args := [.int .u32 p0, .int .u32 p1]) Tryz.func31 rfl Tryz.ntmps31 rfl fun J => ?_
  unfold ref01_Div at hm
  refine sq2 (rg (pv (r_zi rfl) (nil (t_then ?_))))
  refine sq2 ?_
  obtain ⟨y1, hx1, hm⟩ := bindS hm
  refine rg (pv (r_mi rfl) (wl rfl (calS cf27 rfl (ref01_Signed_sim (p0 := p0) (hS.bun [0] [] rfl)  hx1) rfl fun v1 T1 w1 im1 rv1 => ?_)))
  obtain ⟨rfl, hS1, _⟩ := rv1
  have hS1 : Sep g T1 w1 [R] := hS1.unb
  obtain ⟨y2, hx2, hm⟩ := bindS hm
  refine pv (r_mi rfl) (wl rfl (calS cf27 rfl (ref01_Signed_sim (p0 := p1) (hS1.bun [0] [] rfl)  hx2) rfl fun v2 T2 w2 im2 rv2 => ?_))
  obtain ⟨rfl, hS2, _⟩ := rv2
  have hS2 : Sep g T2 w2 [R] := hS2.unb
  refine pv (r_zi rfl) (pv (r_zi rfl) (nil (t_then ?_)))
  refine sq2 (sq2 (rg (pv (r_mi rfl) (pv (r_ib rfl rfl rfl) (nil (t_then ?_))))))
  refine cnd rfl (fun hb1 => ?_) (fun hb1 => ?_)
  · have hm := ctrue hb1 hm
    refine sq2 (rg (pv (r_zi rfl) (nil (t_then ?_))))
    have hm := oI hm; subst hm
    exact rtn (r_then (ret1 rfl rfl ⟨_, rfl, _, (iT im1 im2), ⟨rfl, hS2.sel [0] rfl, trivial⟩⟩))
  have hm := cfalse hb1 hm
  refine skp (t_then ?_)
  refine sq2 ?_
  obtain ⟨y3, hx3, hm⟩ := bindS hm
  refine rg (pv (r_mi rfl) (wl rfl (calS cf59 rfl (ref01_abs_sim (p0 := y1) (hS2.bun [0] [] rfl)  hx3) rfl fun v3 T3 w3 im3 rv3 => ?_)))
  obtain ⟨rfl, hS3, _⟩ := rv3
  have hS3 : Sep g T3 w3 [R] := hS3.unb
  obtain ⟨y4, hx4, hm⟩ := bindS hm
  refine pv (r_mi rfl) (wl rfl (calS cf59 rfl (ref01_abs_sim (p0 := y2) (hS3.bun [0] [] rfl)  hx4) rfl fun v4 T4 w4 im4 rv4 => ?_))
  obtain ⟨rfl, hS4, _⟩ := rv4
  have hS4 : Sep g T4 w4 [R] := hS4.unb
  obtain ⟨_, hz1, hm⟩ := bindS hm
  have hz1 := nz_some hz1
  refine pv (r_iq rfl rfl hz1) (pv (r_zi rfl) (nil (t_then ?_)))
  obtain ⟨kk1, hkk1, hm⟩ := jn_open hm
  refine cut (fun a w5 => ∃ (J : Nat → Value) (T5 : Nat → Prop) (x1 : Int), a = env (nf 37) J [(7, .int .i64 x1)] ∧ Im T4 w4 T5 w5 ∧ Sep g T5 w5 [R] ∧ kk1 x1 = some r) ?_ ?_
  · refine sq2 (rg (pv (r_mi rfl) (pv (r_ib rfl rfl rfl) (pv (r_mb rfl) (?_)))))
    rcases Bool.eq_false_or_eq_true (decide (y1 < 0)) with hb2 | hb2
    · have hm := ctrue hb2 hm
      refine gT (d0 := 21) rfl rfl hb2 (pv (r_mi rfl) (gT (d0 := 21) rfl rfl hb2 (pv (r_ib rfl rfl rfl) (pv (r_pkt rfl hb2 rfl) (pv (r_mb rfl) (?_))))))
      rcases Bool.eq_false_or_eq_true (decide (0 < y2)) with hb3 | hb3
      · have hm := ctrue hb3 hm
        refine gF (d0 := 25) rfl rfl (by rw [hb3]; rfl) (gF (d0 := 25) rfl rfl (by rw [hb3]; rfl) (gF (d0 := 25) rfl rfl (by rw [hb3]; rfl) (gU (d0 := 28) rfl rfl (gU (d0 := 28) rfl rfl (gF (d0 := 25) rfl rfl (by rw [hb3]; rfl) (pv (r_pkt rfl hb3 rfl) (nil (t_thenR [(7, .int .i64 (IntKind.wrap .i64 (Int.tdiv y3 y4))), (32, .bool true)] ⟨rfl, rfl, trivial⟩ fun J => ?_))))))))
        refine cnd (b := true) rfl (fun _ => ?_) (fun h => nomatch h)
        exact rg (pv (r_mi rfl) (pv (r_ng rfl) (pv (r_zi rfl) (nil (t_then ⟨_, _, (IntKind.wrap .i64 (0 - (IntKind.wrap .i64 (Int.tdiv y3 y4)))), env_has ⟨rfl, trivial⟩, Im.refl, hS4.sel [0] rfl, hm⟩)))))
      have hm := cfalse hb3 hm
      refine gT (d0 := 25) rfl rfl hb3 (pv (r_mi rfl) (gT (d0 := 25) rfl rfl hb3 (pv (r_ib rfl rfl rfl) (gT (d0 := 25) rfl rfl hb3 (pv (r_mb rfl) (?_))))))
      rcases Bool.eq_false_or_eq_true (decide (0 < y1)) with hb4 | hb4
      · have hm := ctrue hb4 hm
        refine gT (d0 := 28) rfl rfl hb4 (pv (r_mi rfl) (gT (d0 := 28) rfl rfl hb4 (pv (r_ib rfl rfl rfl) (gT (d0 := 25) rfl rfl hb3 (pv (r_pkt rfl hb4 rfl) (pv (r_pkf rfl hb3 rfl) (nil (t_thenR [(7, .int .i64 (IntKind.wrap .i64 (Int.tdiv y3 y4))), (32, .bool (decide (y2 < 0)))] ⟨rfl, rfl, trivial⟩ fun J => ?_))))))))
        refine cnd rfl (fun hb5 => ?_) (fun hb5 => ?_)
        · have hm := ctrue hb5 hm
          exact rg (pv (r_mi rfl) (pv (r_ng rfl) (pv (r_zi rfl) (nil (t_then ⟨_, _, (IntKind.wrap .i64 (0 - (IntKind.wrap .i64 (Int.tdiv y3 y4)))), env_has ⟨rfl, trivial⟩, Im.refl, hS4.sel [0] rfl, hm⟩)))))
        have hm := cfalse hb5 hm
        exact skp (t_then ⟨_, _, (IntKind.wrap .i64 (Int.tdiv y3 y4)), env_has ⟨rfl, trivial⟩, Im.refl, hS4.sel [0] rfl, hm⟩)
      have hm := cfalse hb4 hm
      refine gF (d0 := 28) rfl rfl (by rw [hb4]; rfl) (gF (d0 := 28) rfl rfl (by rw [hb4]; rfl) (gT (d0 := 25) rfl rfl hb3 (pv (r_pkf rfl hb4 rfl) (pv (r_pkf rfl hb3 rfl) (nil (t_thenR [(7, .int .i64 (IntKind.wrap .i64 (Int.tdiv y3 y4))), (32, .bool false)] ⟨rfl, rfl, trivial⟩ fun J => ?_))))))
      refine cnd (b := false) rfl (fun h => nomatch h) (fun _ => ?_)
      exact skp (t_then ⟨_, _, (IntKind.wrap .i64 (Int.tdiv y3 y4)), env_has ⟨rfl, trivial⟩, Im.refl, hS4.sel [0] rfl, hm⟩)
    have hm := cfalse hb2 hm
    refine gF (d0 := 21) rfl rfl (by rw [hb2]; rfl) (gF (d0 := 21) rfl rfl (by rw [hb2]; rfl) (pv (r_pkf rfl hb2 rfl) (pv (r_mb rfl) (gT (d0 := 25) rfl rfl rfl (pv (r_mi rfl) (gT (d0 := 25) rfl rfl rfl (pv (r_ib rfl rfl rfl) (gT (d0 := 25) rfl rfl rfl (pv (r_mb rfl) (?_))))))))))
    rcases Bool.eq_false_or_eq_true (decide (0 < y1)) with hb8 | hb8
    · have hm := ctrue hb8 hm
      refine gT (d0 := 28) rfl rfl hb8 (pv (r_mi rfl) (gT (d0 := 28) rfl rfl hb8 (pv (r_ib rfl rfl rfl) (gT (d0 := 25) rfl rfl rfl (pv (r_pkt rfl hb8 rfl) (pv (r_pkf rfl rfl rfl) (nil (t_thenR [(7, .int .i64 (IntKind.wrap .i64 (Int.tdiv y3 y4))), (32, .bool (decide (y2 < 0)))] ⟨rfl, rfl, trivial⟩ fun J => ?_))))))))
      refine cnd rfl (fun hb9 => ?_) (fun hb9 => ?_)
      · have hm := ctrue hb9 hm
        exact rg (pv (r_mi rfl) (pv (r_ng rfl) (pv (r_zi rfl) (nil (t_then ⟨_, _, (IntKind.wrap .i64 (0 - (IntKind.wrap .i64 (Int.tdiv y3 y4)))), env_has ⟨rfl, trivial⟩, Im.refl, hS4.sel [0] rfl, hm⟩)))))
      have hm := cfalse hb9 hm
      exact skp (t_then ⟨_, _, (IntKind.wrap .i64 (Int.tdiv y3 y4)), env_has ⟨rfl, trivial⟩, Im.refl, hS4.sel [0] rfl, hm⟩)
    have hm := cfalse hb8 hm
    refine gF (d0 := 28) rfl rfl (by rw [hb8]; rfl) (gF (d0 := 28) rfl rfl (by rw [hb8]; rfl) (gT (d0 := 25) rfl rfl rfl (pv (r_pkf rfl hb8 rfl) (pv (r_pkf rfl rfl rfl) (nil (t_thenR [(7, .int .i64 (IntKind.wrap .i64 (Int.tdiv y3 y4))), (32, .bool false)] ⟨rfl, rfl, trivial⟩ fun J => ?_))))))
    refine cnd (b := false) rfl (fun h => nomatch h) (fun _ => ?_)
    exact skp (t_then ⟨_, _, (IntKind.wrap .i64 (Int.tdiv y3 y4)), env_has ⟨rfl, trivial⟩, Im.refl, hS4.sel [0] rfl, hm⟩)
  rintro _ w5 ⟨J, T5, x1, rfl, im5, hS5, hm⟩
  rw [hkk1] at hm
  refine sq2 ?_
  obtain ⟨y5, hx5, hm⟩ := bindS hm
  refine rg (pv (r_mi rfl) (wl rfl (calS cf57 rfl (ref01_Cut_sim (p0 := x1) (hS5.bun [0] [] rfl)  hx5) rfl fun v5 T6 w6 im6 rv5 => ?_)))
  obtain ⟨rfl, hS6, _⟩ := rv5
  have hS6 : Sep g T6 w6 [R] := hS6.unb
  refine pv (r_zi rfl) (nil (t_then ?_))
  have hm := oI hm; subst hm
  exact rtn (ret1 rfl rfl ⟨_, rfl, _, (iT im1 (iT im2 (iT im3 (iT im4 (iT im5 im6))))), ⟨rfl, hS6.sel [0] rfl, trivial⟩⟩)

set_option maxRecDepth 100000 in
set_option maxHeartbeats 1000000 in
theorem ref01_Rem_sim {g : World} {T0 : Nat → Prop} {w0 : World} {R : Assn} {p0 : Int} {p1 : Int} {r : Int} (hS : Sep g T0 w0 [R])  (hm : ref01_Rem p0 p1 = some r) :
    Calls Tryz.prog 32 #[.int .u32 p0, .int .u32 p1] w0 (RetS T0 w0 fun T w v => v = .int .u32 r ∧ Sep g T w [R] ∧ True) := by
  refine enter (args := [.int .u32 p0, .int .u32 p1]) Tryz.func32 rfl Tryz.ntmps32 rfl fun J => ?_
  unfold ref01_Rem at hm
  refine sq2 (rg (pv (r_zi rfl) (nil (t_then ?_))))
  refine sq2 ?_
  obtain ⟨y1, hx1, hm⟩ := bindS hm
  refine rg (pv (r_mi rfl) (wl rfl (calS cf27 rfl (ref01_Signed_sim (p0 := p0) (hS.bun [0] [] rfl)  hx1) rfl fun v1 T1 w1 im1 rv1 => ?_)))
  obtain ⟨rfl, hS1, _⟩ := rv1
  have hS1 : Sep g T1 w1 [R] := hS1.unb
  obtain ⟨y2, hx2, hm⟩ := bindS hm
  refine pv (r_mi rfl) (wl rfl (calS cf27 rfl (ref01_Signed_sim (p0 := p1) (hS1.bun [0] [] rfl)  hx2) rfl fun v2 T2 w2 im2 rv2 => ?_))
  obtain ⟨rfl, hS2, _⟩ := rv2
  have hS2 : Sep g T2 w2 [R] := hS2.unb
  refine pv (r_zi rfl) (pv (r_zi rfl) (nil (t_then ?_)))
  refine sq2 (sq2 (rg (pv (r_mi rfl) (pv (r_ib rfl rfl rfl) (nil (t_then ?_))))))
  refine cnd rfl (fun hb1 => ?_) (fun hb1 => ?_)
  · have hm := ctrue hb1 hm
    refine sq2 (rg (pv (r_mi rfl) (pv (r_zi rfl) (nil (t_then ?_)))))
    have hm := oI hm; subst hm
    exact rtn (r_then (ret1 rfl rfl ⟨_, rfl, _, (iT im1 im2), ⟨rfl, hS2.sel [0] rfl, trivial⟩⟩))
  have hm := cfalse hb1 hm
  refine skp (t_then ?_)
  refine sq2 ?_
  obtain ⟨y3, hx3, hm⟩ := bindS hm
  refine rg (pv (r_mi rfl) (wl rfl (calS cf59 rfl (ref01_abs_sim (p0 := y1) (hS2.bun [0] [] rfl)  hx3) rfl fun v3 T3 w3 im3 rv3 => ?_)))
  obtain ⟨rfl, hS3, _⟩ := rv3
  have hS3 : Sep g T3 w3 [R] := hS3.unb
  obtain ⟨y4, hx4, hm⟩ := bindS hm
  refine pv (r_mi rfl) (wl rfl (calS cf59 rfl (ref01_abs_sim (p0 := y2) (hS3.bun [0] [] rfl)  hx4) rfl fun v4 T4 w4 im4 rv4 => ?_))
  obtain ⟨rfl, hS4, _⟩ := rv4
  have hS4 : Sep g T4 w4 [R] := hS4.unb
  obtain ⟨_, hz1, hm⟩ := bindS hm
  have hz1 := nz_some hz1
  refine pv (r_irm rfl rfl hz1) (pv (r_zi rfl) (nil (t_then ?_)))
  obtain ⟨kk1, hkk1, hm⟩ := jn_open hm
  refine cut (fun a w5 => ∃ (J : Nat → Value) (T5 : Nat → Prop) (x1 : Int), a = env (nf 26) J [(7, .int .i64 x1)] ∧ Im T4 w4 T5 w5 ∧ Sep g T5 w5 [R] ∧ kk1 x1 = some r) ?_ ?_
  · refine sq2 (rg (pv (r_mi rfl) (pv (r_ib rfl rfl rfl) (nil (t_then ?_)))))
    refine cnd rfl (fun hb2 => ?_) (fun hb2 => ?_)
    · have hm := ctrue hb2 hm
      exact rg (pv (r_mi rfl) (pv (r_ng rfl) (pv (r_zi rfl) (nil (t_then ⟨_, _, (IntKind.wrap .i64 (0 - (Int.tmod y3 y4))), env_has ⟨rfl, trivial⟩, Im.refl, hS4.sel [0] rfl, hm⟩)))))
    have hm := cfalse hb2 hm
    exact skp (t_then ⟨_, _, (Int.tmod y3 y4), env_has ⟨rfl, trivial⟩, Im.refl, hS4.sel [0] rfl, hm⟩)
  rintro _ w5 ⟨J, T5, x1, rfl, im5, hS5, hm⟩
  rw [hkk1] at hm
  refine sq2 ?_
  obtain ⟨y5, hx5, hm⟩ := bindS hm
  refine rg (pv (r_mi rfl) (wl rfl (calS cf57 rfl (ref01_Cut_sim (p0 := x1) (hS5.bun [0] [] rfl)  hx5) rfl fun v5 T6 w6 im6 rv5 => ?_)))
  obtain ⟨rfl, hS6, _⟩ := rv5
  have hS6 : Sep g T6 w6 [R] := hS6.unb
  refine pv (r_zi rfl) (nil (t_then ?_))
  have hm := oI hm; subst hm
  exact rtn (ret1 rfl rfl ⟨_, rfl, _, (iT im1 (iT im2 (iT im3 (iT im4 (iT im5 im6))))), ⟨rfl, hS6.sel [0] rfl, trivial⟩⟩)

set_option maxRecDepth 100000 in
set_option maxHeartbeats 1000000 in
theorem ref01_power_sim {g : World} {T0 : Nat → Prop} {w0 : World} {R : Assn} {p0 : Int} {r : Int} (hS : Sep g T0 w0 [R])  (hm : ref01_power p0 = some r) :
    Calls Tryz.prog 60 #[.int .u32 p0] w0 (RetS T0 w0 fun T w v => v = .int .i64 r ∧ Sep g T w [R] ∧ True) := by
  refine enter (args := [.int .u32 p0]) Tryz.func60 rfl Tryz.ntmps60 rfl fun J => ?_
  unfold ref01_power at hm
  refine sq2 (rg (pv (r_zi rfl) (nil (t_then ?_))))
  refine sq2 (rg (pv (r_zi rfl) (nil (t_then ?_))))
  refine sq2 (sq2 (rg (pv (r_zi rfl) (nil (t_then ?_)))))
  obtain ⟨o1, ho1, hq1⟩ := bindS hm
  obtain ⟨bd1, hbd1, ho1⟩ := loop_open ho1
  refine blk (wp_loop_ghost (fun m a w1 => ∃ (J : Nat → Value) (T1 : Nat → Prop) (x1 : Int) (x2 : Int), a = env (nf 15) J [(0, .int .u32 p0), (3, .int .i64 x1), (4, .int .i64 x2)] ∧ Im T0 w0 T1 w1 ∧ Sep g T1 w1 [R] ∧ loopM bd1 m (x1, x2) = some o1) NN ⟨_, _, 1, 0, env_has ⟨rfl, rfl, rfl, trivial⟩, Im.refl, hS.sel [0] rfl, ho1⟩ ?_)
  rintro m _ w1 ⟨J, T1, x1, x2, rfl, im1, hS1, ho1⟩
  obtain ⟨m1, z1, rfl, hm, hn1⟩ := loop_round ho1
  rw [hbd1] at hm
  refine sq2 (sq2 (rg (pv (r_mi rfl) (pv (r_mi rfl) (pv (r_irm rfl rfl (by decide)) (pv (r_cv rfl Tryz.underlying22 Tryz.underlying3) (pv (r_ib rfl rfl rfl) (nil (t_then ?_)))))))))
  refine cnd rfl (fun hb1 => ?_) (fun hb1 => ?_)
  · have hm := ctrue hb1 hm
    refine skp (t_then ?_)
    refine sq2 (blk (rg (pv (r_mi rfl) (pv (r_ib rfl rfl rfl) (pv (r_zi rfl) (nil (t_blk (t_then ?_))))))))
    have hm := oI hm; subst hm
    exact rg (pv (r_mi rfl) (pv (r_ib rfl rfl rfl) (pv (r_zi rfl) (nil (t_then ⟨m1, Nat.lt_succ_self _, _, _, (IntKind.wrap .i64 (2 * x1)), (IntKind.wrap .i64 (x2 + 1)), env_has ⟨rfl, rfl, rfl, trivial⟩, im1, hS1.sel [0] rfl, hn1⟩)))))
  have hm := cfalse hb1 hm
  have hm := oI hm; subst hm
  have hn1 : _ = Lp.brk _ := hn1
  subst hn1
  have hm := thn_brk hq1
  refine xt (x_then (x_then (x_eq (t_then ?_))))
  refine sq2 (rg (pv (r_mi rfl) (pv (r_zi rfl) (nil (t_then ?_)))))
  have hm := oI hm; subst hm
  exact rtn (ret1 rfl rfl ⟨_, rfl, _, im1, ⟨rfl, hS1.sel [0] rfl, trivial⟩⟩)

set_option maxRecDepth 100000 in
set_option maxHeartbeats 1000000 in
theorem ref01_Left_sim {g : World} {T0 : Nat → Prop} {w0 : World} {R : Assn} {p0 : Int} {p1 : Int} {r : Int} (hS : Sep g T0 w0 [R])  (hm : ref01_Left p0 p1 = some r) :
    Calls Tryz.prog 33 #[.int .u32 p0, .int .u32 p1] w0 (RetS T0 w0 fun T w v => v = .int .u32 r ∧ Sep g T w [R] ∧ True) := by
  refine enter (args := [.int .u32 p0, .int .u32 p1]) Tryz.func33 rfl Tryz.ntmps33 rfl fun J => ?_
  unfold ref01_Left at hm
  refine sq2 (rg (pv (r_zi rfl) (nil (t_then ?_))))
  refine sq2 (rs [0, 0, 0, 2, 0, 0, 0, 2, 0, 2, 0] [0, 1, 2, 6, 3, 4, 5, 7, 8, 9, 10] mix (by kernel_rfl) hS.lt fun w1 i1 => ?_)
  have im1 := i1.imm
  have hS1 := hS.keep i1 (fun _ h => h)
  obtain ⟨y1, hx1, hm⟩ := bindS hm
  refine s0 rfl trivial (fun _ => r_mi rfl) rfl (s0 rfl trivial (fun _ => r_cv rfl Tryz.underlying22 Tryz.underlying3) rfl (s0 rfl trivial (fun _ => r_mi rfl) rfl (s0 rfl trivial (fun _ => r_mi rfl) rfl (s2 [] rfl trivial rfl (by kernel_rfl) (calS cf60 rfl (ref01_power_sim (p0 := p1) (hS1.bun [0] [] rfl)  hx1) rfl fun v1 T1 w2 im2 rv1 => ?_)))))
  obtain ⟨rfl, hS2, _⟩ := rv1
  have hS2 : Sep g T1 w2 [R] := hS2.unb
  refine ⟨st0, ?_⟩
  obtain ⟨_, hz1, hm⟩ := bindS hm
  have hz1 := nz_some hz1
  obtain ⟨_, hz2, hm⟩ := bindS hm
  have hz2 := nz_some hz2
  obtain ⟨y2, hx2, hm⟩ := bindS hm
  refine s0 rfl trivial (fun _ => r_iq rfl rfl hz1) rfl (s0 rfl trivial (fun _ => r_irm rfl rfl hz2) rfl (s2 [] rfl trivial rfl (by kernel_rfl) (calS cf60 rfl (ref01_power_sim (p0 := p1) (hS2.bun [0] [] rfl)  hx2) rfl fun v2 T2 w3 im3 rv2 => ?_)))
  obtain ⟨rfl, hS3, _⟩ := rv2
  have hS3 : Sep g T2 w3 [R] := hS3.unb
  refine ⟨st0, ?_⟩
  obtain ⟨y3, hx3, hm⟩ := bindS hm
  refine s0 rfl trivial (fun _ => r_ib rfl rfl rfl) rfl (s2 [] rfl trivial rfl (by kernel_rfl) (calS cf57 rfl (ref01_Cut_sim (p0 := IntKind.wrap .i64 ((Int.tmod (IntKind.wrap .i64 p0) (IntKind.wrap .i64 (Int.tdiv 4294967296 y1))) * y2)) (hS3.bun [0] [] rfl)  hx3) rfl fun v3 T3 w4 im4 rv3 => ?_))
  obtain ⟨rfl, hS4, _⟩ := rv3
  have hS4 : Sep g T3 w4 [R] := hS4.unb
  refine ⟨st0, ?_⟩
  refine s0 rfl trivial (fun _ => r_zi rfl) rfl (se (t_then ?_))
  have hm := oI hm; subst hm
  exact rtn (ret1 rfl rfl ⟨_, rfl, _, (iT im1 (iT im2 (iT im3 im4))), ⟨rfl, hS4.sel [0] rfl, trivial⟩⟩)

set_option maxRecDepth 100000 in
set_option maxHeartbeats 1000000 in
theorem ref01_RightS_sim {g : World} {T0 : Nat → Prop} {w0 : World} {R : Assn} {p0 : Int} {p1 : Int} {r : Int} (hS : Sep g T0 w0 [R])  (hm : ref01_RightS p0 p1 = some r) :
    Calls Tryz.prog 34 #[.int .u32 p0, .int .u32 p1] w0 (RetS T0 w0 fun T w v => v = .int .u32 r ∧ Sep g T w [R] ∧ True) := by
  refine enter (args := [.int .u32 p0, .int .u32 p1]) Tryz.func34 rfl Tryz.ntmps34 rfl fun J => ?_
  unfold ref01_RightS at hm
  refine sq2 (rg (pv (r_zi rfl) (nil (t_then ?_))))
  refine sq2 ?_
  obtain ⟨y1, hx1, hm⟩ := bindS hm
  refine rg (pv (r_mi rfl) (wl rfl (calS cf27 rfl (ref01_Signed_sim (p0 := p0) (hS.bun [0] [] rfl)  hx1) rfl fun v1 T1 w1 im1 rv1 => ?_)))
  obtain ⟨rfl, hS1, _⟩ := rv1
  have hS1 : Sep g T1 w1 [R] := hS1.unb
  obtain ⟨y2, hx2, hm⟩ := bindS hm
  refine pv (r_mi rfl) (wl rfl (calS cf60 rfl (ref01_power_sim (p0 := p1) (hS1.bun [0] [] rfl)  hx2) rfl fun v2 T2 w2 im2 rv2 => ?_))
  obtain ⟨rfl, hS2, _⟩ := rv2
  have hS2 : Sep g T2 w2 [R] := hS2.unb
  refine pv (r_zi rfl) (pv (r_zi rfl) (nil (t_then ?_)))
  refine sq2 ?_
  obtain ⟨_, hz1, hm⟩ := bindS hm
  have hz1 := nz_some hz1
  refine rg (pv (r_mi rfl) (pv (r_mi rfl) (pv (r_iq rfl rfl hz1) (pv (r_zi rfl) (nil (t_then ?_))))))
  obtain ⟨kk1, hkk1, hm⟩ := jn_open hm
  refine cut (fun a w3 => ∃ (J : Nat → Value) (T3 : Nat → Prop) (x1 : Int), a = env (nf 28) J [(7, .int .i64 x1)] ∧ Im T2 w2 T3 w3 ∧ Sep g T3 w3 [R] ∧ kk1 x1 = some r) ?_ ?_
  · refine sq2 (rg (pv (r_mi rfl) (pv (r_ib rfl rfl rfl) (pv (r_mb rfl) (?_)))))
    rcases Bool.eq_false_or_eq_true (decide (y1 < 0)) with hb1 | hb1
    · have hm := ctrue hb1 hm
      refine gT (d0 := 17) rfl rfl hb1 (pv (r_mi rfl) (gT (d0 := 17) rfl rfl hb1 (pv (r_mi rfl) (gT (d0 := 17) rfl rfl hb1 (pv (r_ib rfl rfl rfl) (gT (d0 := 17) rfl rfl hb1 (pv (r_mi rfl) (gT (d0 := 17) rfl rfl hb1 (pv (r_ib rfl rfl rfl) (pv (r_pkt rfl hb1 rfl) (nil (t_then ?_))))))))))))
      refine cnd rfl (fun hb2 => ?_) (fun hb2 => ?_)
      · have hm := ctrue hb2 hm
        exact rg (pv (r_mi rfl) (pv (r_ib rfl rfl rfl) (pv (r_zi rfl) (nil (t_then ⟨_, _, (IntKind.wrap .i64 ((IntKind.wrap .i64 (Int.tdiv y1 y2)) - 1)), env_has ⟨rfl, trivial⟩, Im.refl, hS2.sel [0] rfl, hm⟩)))))
      have hm := cfalse hb2 hm
      exact skp (t_then ⟨_, _, (IntKind.wrap .i64 (Int.tdiv y1 y2)), env_has ⟨rfl, trivial⟩, Im.refl, hS2.sel [0] rfl, hm⟩)
    have hm := cfalse hb1 hm
    refine gF (d0 := 17) rfl rfl (by rw [hb1]; rfl) (gF (d0 := 17) rfl rfl (by rw [hb1]; rfl) (gF (d0 := 17) rfl rfl (by rw [hb1]; rfl) (gF (d0 := 17) rfl rfl (by rw [hb1]; rfl) (gF (d0 := 17) rfl rfl (by rw [hb1]; rfl) (pv (r_pkf rfl hb1 rfl) (nil (t_then ?_)))))))
    refine cnd (b := false) rfl (fun h => nomatch h) (fun _ => ?_)
    exact skp (t_then ⟨_, _, (IntKind.wrap .i64 (Int.tdiv y1 y2)), env_has ⟨rfl, trivial⟩, Im.refl, hS2.sel [0] rfl, hm⟩)
  rintro _ w3 ⟨J, T3, x1, rfl, im3, hS3, hm⟩
  rw [hkk1] at hm
  refine sq2 ?_
  obtain ⟨y3, hx3, hm⟩ := bindS hm
  refine rg (pv (r_mi rfl) (wl rfl (calS cf57 rfl (ref01_Cut_sim (p0 := x1) (hS3.bun [0] [] rfl)  hx3) rfl fun v3 T4 w4 im4 rv3 => ?_)))
  obtain ⟨rfl, hS4, _⟩ := rv3
  have hS4 : Sep g T4 w4 [R] := hS4.unb
  refine pv (r_zi rfl) (nil (t_then ?_))
  have hm := oI hm; subst hm
  exact rtn (ret1 rfl rfl ⟨_, rfl, _, (iT im1 (iT im2 (iT im3 im4))), ⟨rfl, hS4.sel [0] rfl, trivial⟩⟩)

set_option maxRecDepth 100000 in
set_option maxHeartbeats 1000000 in
theorem ref10_truth_sim {g : World} {T0 : Nat → Prop} {w0 : World} {R : Assn} {p0 : Bool} {r : Int} (hS : Sep g T0 w0 [R])  (hm : ref10_truth p0 = some r) :
    Calls Tryz.prog 35 #[.bool p0] w0 (RetS T0 w0 fun T w v => v = .int .u32 r ∧ Sep g T w [R] ∧ True) := by
  refine enter (args := [.bool p0]) Tryz.func35 rfl Tryz.ntmps35 rfl fun J => ?_
  unfold ref10_truth at hm
  refine sq2 (rg (pv (r_zi rfl) (nil (t_then ?_))))
  refine sq2 (sq2 (rg (pv (r_mb rfl) (nil (t_then ?_)))))
  refine cnd rfl (fun hb1 => ?_) (fun hb1 => ?_)
  · have hm := ctrue hb1 hm
    refine sq2 (rg (pv (r_zi rfl) (nil (t_then ?_))))
    have hm := oI hm; subst hm
    exact rtn (r_then (ret1 rfl rfl ⟨_, rfl, _, Im.refl, ⟨rfl, hS.sel [0] rfl, trivial⟩⟩))
  have hm := cfalse hb1 hm
  refine skp (t_then ?_)
  refine sq2 (rg (pv (r_zi rfl) (nil (t_then ?_))))
  have hm := oI hm; subst hm
  exact rtn (ret1 rfl rfl ⟨_, rfl, _, Im.refl, ⟨rfl, hS.sel [0] rfl, trivial⟩⟩)

set_option maxRecDepth 100000 in
set_option maxHeartbeats 1000000 in
theorem ref10_Apply_sim {g : World} {T0 : Nat → Prop} {w0 : World} {R : Assn} {p0 : Int} {p1 : Int} {p2 : Int} {r : Int × Int} (hS : Sep g T0 w0 [R])  (hm : ref10_Apply p0 p1 p2 = some r) :
    Calls Tryz.prog 8 #[.int .i64 p0, .int .u32 p1, .int .u32 p2] w0 (RetS T0 w0 fun T w v => v = .tuple #[.int .u32 r.1, .int .i64 r.2] ∧ Sep g T w [R] ∧ True) := by
  refine enter (args := [.int .i64 p0, .int .u32 p1, .int .u32 p2]) Tryz.func8 rfl Tryz.ntmps8 rfl fun J => ?_
  unfold ref10_Apply at hm
  refine sq2 (rg (pv (r_zi rfl) (pv (r_zi rfl) (nil (t_then ?_)))))
  refine sq2 ?_
  obtain ⟨y1, hx1, hm⟩ := bindS hm
  refine rg (pv (r_mi rfl) (wl rfl (calS cf27 rfl (ref01_Signed_sim (p0 := p1) (hS.bun [0] [] rfl)  hx1) rfl fun v1 T1 w1 im1 rv1 => ?_)))
  obtain ⟨rfl, hS1, _⟩ := rv1
  have hS1 : Sep g T1 w1 [R] := hS1.unb
  obtain ⟨y2, hx2, hm⟩ := bindS hm
  refine pv (r_mi rfl) (wl rfl (calS cf27 rfl (ref01_Signed_sim (p0 := p2) (hS1.bun [0] [] rfl)  hx2) rfl fun v2 T2 w2 im2 rv2 => ?_))
  obtain ⟨rfl, hS2, _⟩ := rv2
  have hS2 : Sep g T2 w2 [R] := hS2.unb
  refine pv (r_zi rfl) (pv (r_zi rfl) (nil (t_then ?_)))
  refine sq2 (sq2 (rg (pv (r_mi rfl) (pv (r_ib rfl rfl rfl) (pv (r_mb rfl) (?_))))))
  rcases Bool.eq_false_or_eq_true (p0 == 4) with hb1 | hb1
  · have hm := ctrue hb1 hm
    refine gF (d0 := 17) rfl rfl (by rw [hb1]; rfl) (gF (d0 := 17) rfl rfl (by rw [hb1]; rfl) (pv (r_pkt rfl hb1 rfl) (pv (r_mb rfl) (gT (d0 := 21) rfl rfl rfl (pv (r_mi rfl) (gT (d0 := 21) rfl rfl rfl (pv (r_ib rfl rfl rfl) (pv (r_pkt rfl rfl rfl) (nil (t_then ?_))))))))))
    refine cnd rfl (fun hb11 => ?_) (fun hb11 => ?_)
    · have hm := ctrue hb11 hm
      refine sq2 (rg (pv (r_zi rfl) (pv (r_zi rfl) (nil (t_then ?_)))))
      have hm := oI hm; subst hm
      exact rtn (r_then (retN (vs := [.int .u32 0, .int .i64 11]) rfl ⟨rfl, rfl, trivial⟩ rfl ⟨_, rfl, _, (iT im1 im2), ⟨rfl, hS2.sel [0] rfl, trivial⟩⟩))
    have hm := cfalse hb11 hm
    refine skp (t_then ?_)
    refine sq2 ?_
    obtain ⟨y35, hx37, hm⟩ := bindS hm
    refine rg (pv (r_mi rfl) (pv (r_mi rfl) (wl rfl (calS cf28 rfl (ref01_Add_sim (p0 := p1) (p1 := p2) (hS2.bun [0] [] rfl)  hx37) rfl fun v35 T35 w37 im37 rv35 => ?_))))
    obtain ⟨rfl, hS37, _⟩ := rv35
    have hS37 : Sep g T35 w37 [R] := hS37.unb
    obtain ⟨y36, hx38, hm⟩ := bindS hm
    refine pv (r_mi rfl) (pv (r_mi rfl) (wl rfl (calS cf29 rfl (ref01_Sub_sim (p0 := p1) (p1 := p2) (hS37.bun [0] [] rfl)  hx38) rfl fun v36 T36 w38 im38 rv36 => ?_)))
    obtain ⟨rfl, hS38, _⟩ := rv36
    have hS38 : Sep g T36 w38 [R] := hS38.unb
    obtain ⟨y37, hx39, hm⟩ := bindS hm
    refine pv (r_mi rfl) (pv (r_mi rfl) (wl rfl (calS cf30 rfl (ref01_Mul_sim (p0 := p1) (p1 := p2) (hS38.bun [0] [] rfl)  hx39) rfl fun v37 T37 w39 im39 rv37 => ?_)))
    obtain ⟨rfl, hS39, _⟩ := rv37
    have hS39 : Sep g T37 w39 [R] := hS39.unb
    obtain ⟨y38, hx40, hm⟩ := bindS hm
    refine pv (r_mi rfl) (pv (r_mi rfl) (wl rfl (calS cf31 rfl (ref01_Div_sim (p0 := p1) (p1 := p2) (hS39.bun [0] [] rfl)  hx40) rfl fun v38 T38 w40 im40 rv38 => ?_)))
    obtain ⟨rfl, hS40, _⟩ := rv38
    have hS40 : Sep g T38 w40 [R] := hS40.unb
    obtain ⟨y39, hx41, hm⟩ := bindS hm
    refine pv (r_mi rfl) (pv (r_mi rfl) (wl rfl (calS cf32 rfl (ref01_Rem_sim (p0 := p1) (p1 := p2) (hS40.bun [0] [] rfl)  hx41) rfl fun v39 T39 w41 im41 rv39 => ?_)))
    obtain ⟨rfl, hS41, _⟩ := rv39
    have hS41 : Sep g T39 w41 [R] := hS41.unb
    obtain ⟨y40, hx42, hm⟩ := bindS hm
    refine pv (r_mi rfl) (pv (r_mi rfl) (pv (r_ib rfl rfl rfl) (pv (r_mi rfl) (pv (r_mi rfl) (pv (r_ib rfl rfl rfl) (pv (r_mi rfl) (pv (r_mi rfl) (pv (r_ib rfl rfl rfl) (pv (r_mi rfl) (pv (r_mi rfl) (wl rfl (calS cf33 rfl (ref01_Left_sim (p0 := p1) (p1 := p2) (hS41.bun [0] [] rfl)  hx42) rfl fun v40 T40 w42 im42 rv40 => ?_))))))))))))
    obtain ⟨rfl, hS42, _⟩ := rv40
    have hS42 : Sep g T40 w42 [R] := hS42.unb
    obtain ⟨y41, hx43, hm⟩ := bindS hm
    refine pv (r_mi rfl) (pv (r_mi rfl) (wl rfl (calS cf34 rfl (ref01_RightS_sim (p0 := p1) (p1 := p2) (hS42.bun [0] [] rfl)  hx43) rfl fun v41 T41 w43 im43 rv41 => ?_)))
    obtain ⟨rfl, hS43, _⟩ := rv41
    have hS43 : Sep g T41 w43 [R] := hS43.unb
    obtain ⟨y42, hx44, hm⟩ := bindS hm
    refine pv (r_mi rfl) (pv (r_mi rfl) (pv (r_ib rfl rfl rfl) (wl rfl (calS cf35 rfl (ref10_truth_sim (p0 := y1 == y2) (hS43.bun [0] [] rfl)  hx44) rfl fun v42 T42 w44 im44 rv42 => ?_))))
    obtain ⟨rfl, hS44, _⟩ := rv42
    have hS44 : Sep g T42 w44 [R] := hS44.unb
    obtain ⟨y43, hx45, hm⟩ := bindS hm
    refine pv (r_mi rfl) (pv (r_mi rfl) (pv (r_ib rfl rfl rfl) (wl rfl (calS cf35 rfl (ref10_truth_sim (p0 := y1 != y2) (hS44.bun [0] [] rfl)  hx45) rfl fun v43 T43 w45 im45 rv43 => ?_))))
    obtain ⟨rfl, hS45, _⟩ := rv43
    have hS45 : Sep g T43 w45 [R] := hS45.unb
    obtain ⟨y44, hx46, hm⟩ := bindS hm
    refine pv (r_mi rfl) (pv (r_mi rfl) (pv (r_ib rfl rfl rfl) (wl rfl (calS cf35 rfl (ref10_truth_sim (p0 := decide (y1 < y2)) (hS45.bun [0] [] rfl)  hx46) rfl fun v44 T44 w46 im46 rv44 => ?_))))
    obtain ⟨rfl, hS46, _⟩ := rv44
    have hS46 : Sep g T44 w46 [R] := hS46.unb
    obtain ⟨y45, hx47, hm⟩ := bindS hm
    refine pv (r_mi rfl) (pv (r_mi rfl) (pv (r_ib rfl rfl rfl) (wl rfl (calS cf35 rfl (ref10_truth_sim (p0 := decide (y2 < y1)) (hS46.bun [0] [] rfl)  hx47) rfl fun v45 T45 w47 im47 rv45 => ?_))))
    obtain ⟨rfl, hS47, _⟩ := rv45
    have hS47 : Sep g T45 w47 [R] := hS47.unb
    obtain ⟨y46, hx48, hm⟩ := bindS hm
    refine pv (r_mi rfl) (pv (r_mi rfl) (pv (r_ib rfl rfl rfl) (wl rfl (calS cf35 rfl (ref10_truth_sim (p0 := decide (y1 ≤ y2)) (hS47.bun [0] [] rfl)  hx48) rfl fun v46 T46 w48 im48 rv46 => ?_))))
    obtain ⟨rfl, hS48, _⟩ := rv46
    have hS48 : Sep g T46 w48 [R] := hS48.unb
    obtain ⟨y47, hx49, hm⟩ := bindS hm
    refine pv (r_mi rfl) (pv (r_mi rfl) (pv (r_ib rfl rfl rfl) (wl rfl (calS cf35 rfl (ref10_truth_sim (p0 := decide (y2 ≤ y1)) (hS48.bun [0] [] rfl)  hx49) rfl fun v47 T47 w49 im49 rv47 => ?_))))
    obtain ⟨rfl, hS49, _⟩ := rv47
    have hS49 : Sep g T47 w49 [R] := hS49.unb
    obtain ⟨y48, hx50, hm⟩ := bindS hm
    refine pv (r_mi rfl) (wl rfl (calS cf29 rfl (ref01_Sub_sim (p0 := 0) (p1 := p1) (hS49.bun [0] [] rfl)  hx50) rfl fun v48 T48 w50 im50 rv48 => ?_))
    obtain ⟨rfl, hS50, _⟩ := rv48
    have hS50 : Sep g T48 w50 [R] := hS50.unb
    obtain ⟨y49, hx51, hm⟩ := bindS hm
    refine pv (r_mi rfl) (wl rfl (calS cf29 rfl (ref01_Sub_sim (p0 := 4294967295) (p1 := p1) (hS50.bun [0] [] rfl)  hx51) rfl fun v49 T49 w51 im51 rv49 => ?_))
    obtain ⟨rfl, hS51, _⟩ := rv49
    have hS51 : Sep g T49 w51 [R] := hS51.unb
    obtain ⟨y50, hx52, hm⟩ := bindS hm
    refine pv (r_mi rfl) (pv (r_ib rfl rfl rfl) (wl rfl (calS cf35 rfl (ref10_truth_sim (p0 := p1 == 0) (hS51.bun [0] [] rfl)  hx52) rfl fun v50 T50 w52 im52 rv50 => ?_)))
    obtain ⟨rfl, hS52, _⟩ := rv50
    have hS52 : Sep g T50 w52 [R] := hS52.unb
    refine wl rfl (bsS (r := (rInt .u32)) (l := ([0, y35, y36, y37, y38, y39, bits .and .u32 p1 p2, bits .or .u32 p1 p2, bits .xor .u32 p1 p2, y40, y41, y42, y43, y44, y45, y46, y47, y48, y49, y50] : List Int)) (css := [[.int .u32 0], [.int .u32 y35], [.int .u32 y36], [.int .u32 y37], [.int .u32 y38], [.int .u32 y39], [.int .u32 (bits .and .u32 p1 p2)], [.int .u32 (bits .or .u32 p1 p2)], [.int .u32 (bits .xor .u32 p1 p2)], [.int .u32 y40], [.int .u32 y41], [.int .u32 y42], [.int .u32 y43], [.int .u32 y44], [.int .u32 y45], [.int .u32 y46], [.int .u32 y47], [.int .u32 y48], [.int .u32 y49], [.int .u32 y50]]) hS52 Tryz.underlying68 Tryz.sizeOf22 Tryz.zeroValue22 rfl rfl (by kernel_rfl) rfl ⟨rfl, rfl, rfl, rfl, rfl, rfl, rfl, rfl, rfl, rfl, rfl, rfl, rfl, rfl, rfl, rfl, rfl, rfl, rfl, rfl, trivial⟩ rfl rfl fun w53 a3 n3 c3 im53 hS53 => ?_)
    refine pv (r_zs rfl) (nil (t_thenR [(0, .int .i64 p0), (10, .slice a3 n3 c3)] ⟨rfl, rfl, trivial⟩ fun J => ?_))
    refine sq2 (sq2 (rg (pv (r_mi rfl) (pv (r_ib rfl rfl rfl) (pv (r_mb rfl) (?_))))))
    rcases Bool.eq_false_or_eq_true (decide (p0 < 1)) with hb12 | hb12
    · have hm := ctrue hb12 hm
      refine gF (d0 := 89) rfl rfl (by rw [hb12]; rfl) (gF (d0 := 89) rfl rfl (by rw [hb12]; rfl) (gF (d0 := 89) rfl rfl (by rw [hb12]; rfl) (gF (d0 := 89) rfl rfl (by rw [hb12]; rfl) (pv (r_pkt rfl hb12 rfl) (nil (t_then ?_))))))
      refine cnd (b := true) rfl (fun _ => ?_) (fun h => nomatch h)
      refine sq2 (rg (pv (r_zi rfl) (pv (r_zi rfl) (nil (t_then ?_)))))
      have hm := oI hm; subst hm
      exact rtn (r_then (retN (vs := [.int .u32 0, .int .i64 1]) rfl ⟨rfl, rfl, trivial⟩ rfl ⟨_, rfl, _, (iT im1 (iT im2 (iT im37 (iT im38 (iT im39 (iT im40 (iT im41 (iT im42 (iT im43 (iT im44 (iT im45 (iT im46 (iT im47 (iT im48 (iT im49 (iT im50 (iT im51 (iT im52 im53)))))))))))))))))), ⟨rfl, hS53.sel [1] rfl, trivial⟩⟩))
    have hm := cfalse hb12 hm
    refine gT (d0 := 89) rfl rfl hb12 (pv (r_mi rfl) (gT (d0 := 89) rfl rfl hb12 (pv (r_ms rfl) (gT (d0 := 89) rfl rfl hb12 (pv (r_lnV rfl (hS53.own (i := 0) ⟨rfl, rfl⟩).v Tryz.underlying68) (gT (d0 := 89) rfl rfl hb12 (pv (r_ib rfl rfl rfl) (pv (r_pkf rfl hb12 rfl) (nil (t_then ?_))))))))))
    refine cnd rfl (fun hb13 => ?_) (fun hb13 => ?_)
    · have hm := ctrue hb13 hm
      refine sq2 (rg (pv (r_zi rfl) (pv (r_zi rfl) (nil (t_then ?_)))))
      have hm := oI hm; subst hm
      exact rtn (r_then (retN (vs := [.int .u32 0, .int .i64 1]) rfl ⟨rfl, rfl, trivial⟩ rfl ⟨_, rfl, _, (iT im1 (iT im2 (iT im37 (iT im38 (iT im39 (iT im40 (iT im41 (iT im42 (iT im43 (iT im44 (iT im45 (iT im46 (iT im47 (iT im48 (iT im49 (iT im50 (iT im51 (iT im52 im53)))))))))))))))))), ⟨rfl, hS53.sel [1] rfl, trivial⟩⟩))
    have hm := cfalse hb13 hm
    refine skp (t_then ?_)
    refine sq2 ?_
    obtain ⟨u3, hx53, hm⟩ := bindS hm
    obtain ⟨b3, of3, cs3, k3, cp3, hv3, hp3, hl3, he3, hr3, hc3⟩ := (hS53.own (i := 0) ⟨rfl, rfl⟩).v.ixq hx53 rfl
    cases hr3
    refine rg (pv (r_ms rfl) (pv (r_mi rfl) (pv (r_ixe hv3 rfl Tryz.underlying68 Tryz.sizeOf22 hp3 hl3 he3) (pv (r_ld rfl Tryz.isAgg22 (hc3.get (j := 0) rfl)) (pv (r_zi rfl) (pv (r_zi rfl) (nil (t_then ?_))))))))
    have hm := oI hm; subst hm
    exact rtn (retN (vs := [.int .u32 u3, .int .i64 0]) rfl ⟨rfl, rfl, trivial⟩ rfl ⟨_, rfl, _, (iT im1 (iT im2 (iT im37 (iT im38 (iT im39 (iT im40 (iT im41 (iT im42 (iT im43 (iT im44 (iT im45 (iT im46 (iT im47 (iT im48 (iT im49 (iT im50 (iT im51 (iT im52 im53)))))))))))))))))), ⟨rfl, hS53.sel [1] rfl, trivial⟩⟩)
  have hm := cfalse hb1 hm
  refine gT (d0 := 17) rfl rfl hb1 (pv (r_mi rfl) (gT (d0 := 17) rfl rfl hb1 (pv (r_ib rfl rfl rfl) (pv (r_pkf rfl hb1 rfl) (pv (r_mb rfl) (?_))))))
  rcases Bool.eq_false_or_eq_true (p0 == 5) with hb2 | hb2
  · have hm := ctrue hb2 hm
    refine gT (d0 := 21) rfl rfl hb2 (pv (r_mi rfl) (gT (d0 := 21) rfl rfl hb2 (pv (r_ib rfl rfl rfl) (pv (r_pkt rfl hb2 rfl) (nil (t_then ?_))))))
    refine cnd rfl (fun hb3 => ?_) (fun hb3 => ?_)
    · have hm := ctrue hb3 hm
      refine sq2 (rg (pv (r_zi rfl) (pv (r_zi rfl) (nil (t_then ?_)))))
      have hm := oI hm; subst hm
      exact rtn (r_then (retN (vs := [.int .u32 0, .int .i64 11]) rfl ⟨rfl, rfl, trivial⟩ rfl ⟨_, rfl, _, (iT im1 im2), ⟨rfl, hS2.sel [0] rfl, trivial⟩⟩))
    have hm := cfalse hb3 hm
    refine skp (t_then ?_)
    refine sq2 ?_
    obtain ⟨y3, hx3, hm⟩ := bindS hm
    refine rg (pv (r_mi rfl) (pv (r_mi rfl) (wl rfl (calS cf28 rfl (ref01_Add_sim (p0 := p1) (p1 := p2) (hS2.bun [0] [] rfl)  hx3) rfl fun v3 T3 w3 im3 rv3 => ?_))))
    obtain ⟨rfl, hS3, _⟩ := rv3
    have hS3 : Sep g T3 w3 [R] := hS3.unb
    obtain ⟨y4, hx4, hm⟩ := bindS hm
    refine pv (r_mi rfl) (pv (r_mi rfl) (wl rfl (calS cf29 rfl (ref01_Sub_sim (p0 := p1) (p1 := p2) (hS3.bun [0] [] rfl)  hx4) rfl fun v4 T4 w4 im4 rv4 => ?_)))
    obtain ⟨rfl, hS4, _⟩ := rv4
    have hS4 : Sep g T4 w4 [R] := hS4.unb
    obtain ⟨y5, hx5, hm⟩ := bindS hm
    refine pv (r_mi rfl) (pv (r_mi rfl) (wl rfl (calS cf30 rfl (ref01_Mul_sim (p0 := p1) (p1 := p2) (hS4.bun [0] [] rfl)  hx5) rfl fun v5 T5 w5 im5 rv5 => ?_)))
    obtain ⟨rfl, hS5, _⟩ := rv5
    have hS5 : Sep g T5 w5 [R] := hS5.unb
    obtain ⟨y6, hx6, hm⟩ := bindS hm
    refine pv (r_mi rfl) (pv (r_mi rfl) (wl rfl (calS cf31 rfl (ref01_Div_sim (p0 := p1) (p1 := p2) (hS5.bun [0] [] rfl)  hx6) rfl fun v6 T6 w6 im6 rv6 => ?_)))
    obtain ⟨rfl, hS6, _⟩ := rv6
    have hS6 : Sep g T6 w6 [R] := hS6.unb
    obtain ⟨y7, hx7, hm⟩ := bindS hm
    refine pv (r_mi rfl) (pv (r_mi rfl) (wl rfl (calS cf32 rfl (ref01_Rem_sim (p0 := p1) (p1 := p2) (hS6.bun [0] [] rfl)  hx7) rfl fun v7 T7 w7 im7 rv7 => ?_)))
    obtain ⟨rfl, hS7, _⟩ := rv7
    have hS7 : Sep g T7 w7 [R] := hS7.unb
    obtain ⟨y8, hx8, hm⟩ := bindS hm
    refine pv (r_mi rfl) (pv (r_mi rfl) (pv (r_ib rfl rfl rfl) (pv (r_mi rfl) (pv (r_mi rfl) (pv (r_ib rfl rfl rfl) (pv (r_mi rfl) (pv (r_mi rfl) (pv (r_ib rfl rfl rfl) (pv (r_mi rfl) (pv (r_mi rfl) (wl rfl (calS cf33 rfl (ref01_Left_sim (p0 := p1) (p1 := p2) (hS7.bun [0] [] rfl)  hx8) rfl fun v8 T8 w8 im8 rv8 => ?_))))))))))))
    obtain ⟨rfl, hS8, _⟩ := rv8
    have hS8 : Sep g T8 w8 [R] := hS8.unb
    obtain ⟨y9, hx9, hm⟩ := bindS hm
    refine pv (r_mi rfl) (pv (r_mi rfl) (wl rfl (calS cf34 rfl (ref01_RightS_sim (p0 := p1) (p1 := p2) (hS8.bun [0] [] rfl)  hx9) rfl fun v9 T9 w9 im9 rv9 => ?_)))
    obtain ⟨rfl, hS9, _⟩ := rv9
    have hS9 : Sep g T9 w9 [R] := hS9.unb
    obtain ⟨y10, hx10, hm⟩ := bindS hm
    refine pv (r_mi rfl) (pv (r_mi rfl) (pv (r_ib rfl rfl rfl) (wl rfl (calS cf35 rfl (ref10_truth_sim (p0 := y1 == y2) (hS9.bun [0] [] rfl)  hx10) rfl fun v10 T10 w10 im10 rv10 => ?_))))
    obtain ⟨rfl, hS10, _⟩ := rv10
    have hS10 : Sep g T10 w10 [R] := hS10.unb
    obtain ⟨y11, hx11, hm⟩ := bindS hm
    refine pv (r_mi rfl) (pv (r_mi rfl) (pv (r_ib rfl rfl rfl) (wl rfl (calS cf35 rfl (ref10_truth_sim (p0 := y1 != y2) (hS10.bun [0] [] rfl)  hx11) rfl fun v11 T11 w11 im11 rv11 => ?_))))
    obtain ⟨rfl, hS11, _⟩ := rv11
    have hS11 : Sep g T11 w11 [R] := hS11.unb
    obtain ⟨y12, hx12, hm⟩ := bindS hm
    refine pv (r_mi rfl) (pv (r_mi rfl) (pv (r_ib rfl rfl rfl) (wl rfl (calS cf35 rfl (ref10_truth_sim (p0 := decide (y1 < y2)) (hS11.bun [0] [] rfl)  hx12) rfl fun v12 T12 w12 im12 rv12 => ?_))))
    obtain ⟨rfl, hS12, _⟩ := rv12
    have hS12 : Sep g T12 w12 [R] := hS12.unb
    obtain ⟨y13, hx13, hm⟩ := bindS hm
    refine pv (r_mi rfl) (pv (r_mi rfl) (pv (r_ib rfl rfl rfl) (wl rfl (calS cf35 rfl (ref10_truth_sim (p0 := decide (y2 < y1)) (hS12.bun [0] [] rfl)  hx13) rfl fun v13 T13 w13 im13 rv13 => ?_))))
    obtain ⟨rfl, hS13, _⟩ := rv13
    have hS13 : Sep g T13 w13 [R] := hS13.unb
    obtain ⟨y14, hx14, hm⟩ := bindS hm
    refine pv (r_mi rfl) (pv (r_mi rfl) (pv (r_ib rfl rfl rfl) (wl rfl (calS cf35 rfl (ref10_truth_sim (p0 := decide (y1 ≤ y2)) (hS13.bun [0] [] rfl)  hx14) rfl fun v14 T14 w14 im14 rv14 => ?_))))
    obtain ⟨rfl, hS14, _⟩ := rv14
    have hS14 : Sep g T14 w14 [R] := hS14.unb
    obtain ⟨y15, hx15, hm⟩ := bindS hm
    refine pv (r_mi rfl) (pv (r_mi rfl) (pv (r_ib rfl rfl rfl) (wl rfl (calS cf35 rfl (ref10_truth_sim (p0 := decide (y2 ≤ y1)) (hS14.bun [0] [] rfl)  hx15) rfl fun v15 T15 w15 im15 rv15 => ?_))))
    obtain ⟨rfl, hS15, _⟩ := rv15
    have hS15 : Sep g T15 w15 [R] := hS15.unb
    obtain ⟨y16, hx16, hm⟩ := bindS hm
    refine pv (r_mi rfl) (wl rfl (calS cf29 rfl (ref01_Sub_sim (p0 := 0) (p1 := p1) (hS15.bun [0] [] rfl)  hx16) rfl fun v16 T16 w16 im16 rv16 => ?_))
    obtain ⟨rfl, hS16, _⟩ := rv16
    have hS16 : Sep g T16 w16 [R] := hS16.unb
    obtain ⟨y17, hx17, hm⟩ := bindS hm
    refine pv (r_mi rfl) (wl rfl (calS cf29 rfl (ref01_Sub_sim (p0 := 4294967295) (p1 := p1) (hS16.bun [0] [] rfl)  hx17) rfl fun v17 T17 w17 im17 rv17 => ?_))
    obtain ⟨rfl, hS17, _⟩ := rv17
    have hS17 : Sep g T17 w17 [R] := hS17.unb
    obtain ⟨y18, hx18, hm⟩ := bindS hm
    refine pv (r_mi rfl) (pv (r_ib rfl rfl rfl) (wl rfl (calS cf35 rfl (ref10_truth_sim (p0 := p1 == 0) (hS17.bun [0] [] rfl)  hx18) rfl fun v18 T18 w18 im18 rv18 => ?_)))
    obtain ⟨rfl, hS18, _⟩ := rv18
    have hS18 : Sep g T18 w18 [R] := hS18.unb
    refine wl rfl (bsS (r := (rInt .u32)) (l := ([0, y3, y4, y5, y6, y7, bits .and .u32 p1 p2, bits .or .u32 p1 p2, bits .xor .u32 p1 p2, y8, y9, y10, y11, y12, y13, y14, y15, y16, y17, y18] : List Int)) (css := [[.int .u32 0], [.int .u32 y3], [.int .u32 y4], [.int .u32 y5], [.int .u32 y6], [.int .u32 y7], [.int .u32 (bits .and .u32 p1 p2)], [.int .u32 (bits .or .u32 p1 p2)], [.int .u32 (bits .xor .u32 p1 p2)], [.int .u32 y8], [.int .u32 y9], [.int .u32 y10], [.int .u32 y11], [.int .u32 y12], [.int .u32 y13], [.int .u32 y14], [.int .u32 y15], [.int .u32 y16], [.int .u32 y17], [.int .u32 y18]]) hS18 Tryz.underlying68 Tryz.sizeOf22 Tryz.zeroValue22 rfl rfl (by kernel_rfl) rfl ⟨rfl, rfl, rfl, rfl, rfl, rfl, rfl, rfl, rfl, rfl, rfl, rfl, rfl, rfl, rfl, rfl, rfl, rfl, rfl, rfl, trivial⟩ rfl rfl fun w19 a1 n1 c1 im19 hS19 => ?_)
    refine pv (r_zs rfl) (nil (t_thenR [(0, .int .i64 p0), (10, .slice a1 n1 c1)] ⟨rfl, rfl, trivial⟩ fun J => ?_))
    refine sq2 (sq2 (rg (pv (r_mi rfl) (pv (r_ib rfl rfl rfl) (pv (r_mb rfl) (?_))))))
    rcases Bool.eq_false_or_eq_true (decide (p0 < 1)) with hb4 | hb4
    · have hm := ctrue hb4 hm
      refine gF (d0 := 89) rfl rfl (by rw [hb4]; rfl) (gF (d0 := 89) rfl rfl (by rw [hb4]; rfl) (gF (d0 := 89) rfl rfl (by rw [hb4]; rfl) (gF (d0 := 89) rfl rfl (by rw [hb4]; rfl) (pv (r_pkt rfl hb4 rfl) (nil (t_then ?_))))))
      refine cnd (b := true) rfl (fun _ => ?_) (fun h => nomatch h)
      refine sq2 (rg (pv (r_zi rfl) (pv (r_zi rfl) (nil (t_then ?_)))))
      have hm := oI hm; subst hm
      exact rtn (r_then (retN (vs := [.int .u32 0, .int .i64 1]) rfl ⟨rfl, rfl, trivial⟩ rfl ⟨_, rfl, _, (iT im1 (iT im2 (iT im3 (iT im4 (iT im5 (iT im6 (iT im7 (iT im8 (iT im9 (iT im10 (iT im11 (iT im12 (iT im13 (iT im14 (iT im15 (iT im16 (iT im17 (iT im18 im19)))))))))))))))))), ⟨rfl, hS19.sel [1] rfl, trivial⟩⟩))
    have hm := cfalse hb4 hm
    refine gT (d0 := 89) rfl rfl hb4 (pv (r_mi rfl) (gT (d0 := 89) rfl rfl hb4 (pv (r_ms rfl) (gT (d0 := 89) rfl rfl hb4 (pv (r_lnV rfl (hS19.own (i := 0) ⟨rfl, rfl⟩).v Tryz.underlying68) (gT (d0 := 89) rfl rfl hb4 (pv (r_ib rfl rfl rfl) (pv (r_pkf rfl hb4 rfl) (nil (t_then ?_))))))))))
    refine cnd rfl (fun hb5 => ?_) (fun hb5 => ?_)
    · have hm := ctrue hb5 hm
      refine sq2 (rg (pv (r_zi rfl) (pv (r_zi rfl) (nil (t_then ?_)))))
      have hm := oI hm; subst hm
      exact rtn (r_then (retN (vs := [.int .u32 0, .int .i64 1]) rfl ⟨rfl, rfl, trivial⟩ rfl ⟨_, rfl, _, (iT im1 (iT im2 (iT im3 (iT im4 (iT im5 (iT im6 (iT im7 (iT im8 (iT im9 (iT im10 (iT im11 (iT im12 (iT im13 (iT im14 (iT im15 (iT im16 (iT im17 (iT im18 im19)))))))))))))))))), ⟨rfl, hS19.sel [1] rfl, trivial⟩⟩))
    have hm := cfalse hb5 hm
    refine skp (t_then ?_)
    refine sq2 ?_
    obtain ⟨u1, hx19, hm⟩ := bindS hm
    obtain ⟨b1, of1, cs1, k1, cp1, hv1, hp1, hl1, he1, hr1, hc1⟩ := (hS19.own (i := 0) ⟨rfl, rfl⟩).v.ixq hx19 rfl
    cases hr1
    refine rg (pv (r_ms rfl) (pv (r_mi rfl) (pv (r_ixe hv1 rfl Tryz.underlying68 Tryz.sizeOf22 hp1 hl1 he1) (pv (r_ld rfl Tryz.isAgg22 (hc1.get (j := 0) rfl)) (pv (r_zi rfl) (pv (r_zi rfl) (nil (t_then ?_))))))))
    have hm := oI hm; subst hm
    exact rtn (retN (vs := [.int .u32 u1, .int .i64 0]) rfl ⟨rfl, rfl, trivial⟩ rfl ⟨_, rfl, _, (iT im1 (iT im2 (iT im3 (iT im4 (iT im5 (iT im6 (iT im7 (iT im8 (iT im9 (iT im10 (iT im11 (iT im12 (iT im13 (iT im14 (iT im15 (iT im16 (iT im17 (iT im18 im19)))))))))))))))))), ⟨rfl, hS19.sel [1] rfl, trivial⟩⟩)
  have hm := cfalse hb2 hm
  refine gF (d0 := 21) rfl rfl (by rw [hb2]; rfl) (gF (d0 := 21) rfl rfl (by rw [hb2]; rfl) (pv (r_pkf rfl hb2 rfl) (nil (t_then ?_))))
  refine cnd (b := false) rfl (fun h => nomatch h) (fun _ => ?_)
  refine skp (t_then ?_)
  refine sq2 ?_
  obtain ⟨y19, hx20, hm⟩ := bindS hm
  refine rg (pv (r_mi rfl) (pv (r_mi rfl) (wl rfl (calS cf28 rfl (ref01_Add_sim (p0 := p1) (p1 := p2) (hS2.bun [0] [] rfl)  hx20) rfl fun v19 T19 w20 im20 rv19 => ?_))))
  obtain ⟨rfl, hS20, _⟩ := rv19
  have hS20 : Sep g T19 w20 [R] := hS20.unb
  obtain ⟨y20, hx21, hm⟩ := bindS hm
  refine pv (r_mi rfl) (pv (r_mi rfl) (wl rfl (calS cf29 rfl (ref01_Sub_sim (p0 := p1) (p1 := p2) (hS20.bun [0] [] rfl)  hx21) rfl fun v20 T20 w21 im21 rv20 => ?_)))
  obtain ⟨rfl, hS21, _⟩ := rv20
  have hS21 : Sep g T20 w21 [R] := hS21.unb
  obtain ⟨y21, hx22, hm⟩ := bindS hm
  refine pv (r_mi rfl) (pv (r_mi rfl) (wl rfl (calS cf30 rfl (ref01_Mul_sim (p0 := p1) (p1 := p2) (hS21.bun [0] [] rfl)  hx22) rfl fun v21 T21 w22 im22 rv21 => ?_)))
  obtain ⟨rfl, hS22, _⟩ := rv21
  have hS22 : Sep g T21 w22 [R] := hS22.unb
  obtain ⟨y22, hx23, hm⟩ := bindS hm
  refine pv (r_mi rfl) (pv (r_mi rfl) (wl rfl (calS cf31 rfl (ref01_Div_sim (p0 := p1) (p1 := p2) (hS22.bun [0] [] rfl)  hx23) rfl fun v22 T22 w23 im23 rv22 => ?_)))
  obtain ⟨rfl, hS23, _⟩ := rv22
  have hS23 : Sep g T22 w23 [R] := hS23.unb
  obtain ⟨y23, hx24, hm⟩ := bindS hm
  refine pv (r_mi rfl) (pv (r_mi rfl) (wl rfl (calS cf32 rfl (ref01_Rem_sim (p0 := p1) (p1 := p2) (hS23.bun [0] [] rfl)  hx24) rfl fun v23 T23 w24 im24 rv23 => ?_)))
  obtain ⟨rfl, hS24, _⟩ := rv23
  have hS24 : Sep g T23 w24 [R] := hS24.unb
  obtain ⟨y24, hx25, hm⟩ := bindS hm
  refine pv (r_mi rfl) (pv (r_mi rfl) (pv (r_ib rfl rfl rfl) (pv (r_mi rfl) (pv (r_mi rfl) (pv (r_ib rfl rfl rfl) (pv (r_mi rfl) (pv (r_mi rfl) (pv (r_ib rfl rfl rfl) (pv (r_mi rfl) (pv (r_mi rfl) (wl rfl (calS cf33 rfl (ref01_Left_sim (p0 := p1) (p1 := p2) (hS24.bun [0] [] rfl)  hx25) rfl fun v24 T24 w25 im25 rv24 => ?_))))))))))))
  obtain ⟨rfl, hS25, _⟩ := rv24
  have hS25 : Sep g T24 w25 [R] := hS25.unb
  obtain ⟨y25, hx26, hm⟩ := bindS hm
  refine pv (r_mi rfl) (pv (r_mi rfl) (wl rfl (calS cf34 rfl (ref01_RightS_sim (p0 := p1) (p1 := p2) (hS25.bun [0] [] rfl)  hx26) rfl fun v25 T25 w26 im26 rv25 => ?_)))
  obtain ⟨rfl, hS26, _⟩ := rv25
  have hS26 : Sep g T25 w26 [R] := hS26.unb
  obtain ⟨y26, hx27, hm⟩ := bindS hm
  refine pv (r_mi rfl) (pv (r_mi rfl) (pv (r_ib rfl rfl rfl) (wl rfl (calS cf35 rfl (ref10_truth_sim (p0 := y1 == y2) (hS26.bun [0] [] rfl)  hx27) rfl fun v26 T26 w27 im27 rv26 => ?_))))
  obtain ⟨rfl, hS27, _⟩ := rv26
  have hS27 : Sep g T26 w27 [R] := hS27.unb
  obtain ⟨y27, hx28, hm⟩ := bindS hm
  refine pv (r_mi rfl) (pv (r_mi rfl) (pv (r_ib rfl rfl rfl) (wl rfl (calS cf35 rfl (ref10_truth_sim (p0 := y1 != y2) (hS27.bun [0] [] rfl)  hx28) rfl fun v27 T27 w28 im28 rv27 => ?_))))
  obtain ⟨rfl, hS28, _⟩ := rv27
  have hS28 : Sep g T27 w28 [R] := hS28.unb
  obtain ⟨y28, hx29, hm⟩ := bindS hm
  refine pv (r_mi rfl) (pv (r_mi rfl) (pv (r_ib rfl rfl rfl) (wl rfl (calS cf35 rfl (ref10_truth_sim (p0 := decide (y1 < y2)) (hS28.bun [0] [] rfl)  hx29) rfl fun v28 T28 w29 im29 rv28 => ?_))))
  obtain ⟨rfl, hS29, _⟩ := rv28
  have hS29 : Sep g T28 w29 [R] := hS29.unb
  obtain ⟨y29, hx30, hm⟩ := bindS hm
  refine pv (r_mi rfl) (pv (r_mi rfl) (pv (r_ib rfl rfl rfl) (wl rfl (calS cf35 rfl (ref10_truth_sim (p0 := decide (y2 < y1)) (hS29.bun [0] [] rfl)  hx30) rfl fun v29 T29 w30 im30 rv29 => ?_))))
  obtain ⟨rfl, hS30, _⟩ := rv29
  have hS30 : Sep g T29 w30 [R] := hS30.unb
  obtain ⟨y30, hx31, hm⟩ := bindS hm
  refine pv (r_mi rfl) (pv (r_mi rfl) (pv (r_ib rfl rfl rfl) (wl rfl (calS cf35 rfl (ref10_truth_sim (p0 := decide (y1 ≤ y2)) (hS30.bun [0] [] rfl)  hx31) rfl fun v30 T30 w31 im31 rv30 => ?_))))
  obtain ⟨rfl, hS31, _⟩ := rv30
  have hS31 : Sep g T30 w31 [R] := hS31.unb
  obtain ⟨y31, hx32, hm⟩ := bindS hm
  refine pv (r_mi rfl) (pv (r_mi rfl) (pv (r_ib rfl rfl rfl) (wl rfl (calS cf35 rfl (ref10_truth_sim (p0 := decide (y2 ≤ y1)) (hS31.bun [0] [] rfl)  hx32) rfl fun v31 T31 w32 im32 rv31 => ?_))))
  obtain ⟨rfl, hS32, _⟩ := rv31
  have hS32 : Sep g T31 w32 [R] := hS32.unb
  obtain ⟨y32, hx33, hm⟩ := bindS hm
  refine pv (r_mi rfl) (wl rfl (calS cf29 rfl (ref01_Sub_sim (p0 := 0) (p1 := p1) (hS32.bun [0] [] rfl)  hx33) rfl fun v32 T32 w33 im33 rv32 => ?_))
  obtain ⟨rfl, hS33, _⟩ := rv32
  have hS33 : Sep g T32 w33 [R] := hS33.unb
  obtain ⟨y33, hx34, hm⟩ := bindS hm
  refine pv (r_mi rfl) (wl rfl (calS cf29 rfl (ref01_Sub_sim (p0 := 4294967295) (p1 := p1) (hS33.bun [0] [] rfl)  hx34) rfl fun v33 T33 w34 im34 rv33 => ?_))
  obtain ⟨rfl, hS34, _⟩ := rv33
  have hS34 : Sep g T33 w34 [R] := hS34.unb
  obtain ⟨y34, hx35, hm⟩ := bindS hm
  refine pv (r_mi rfl) (pv (r_ib rfl rfl rfl) (wl rfl (calS cf35 rfl (ref10_truth_sim (p0 := p1 == 0) (hS34.bun [0] [] rfl)  hx35) rfl fun v34 T34 w35 im35 rv34 => ?_)))
  obtain ⟨rfl, hS35, _⟩ := rv34
  have hS35 : Sep g T34 w35 [R] := hS35.unb
  refine wl rfl (bsS (r := (rInt .u32)) (l := ([0, y19, y20, y21, y22, y23, bits .and .u32 p1 p2, bits .or .u32 p1 p2, bits .xor .u32 p1 p2, y24, y25, y26, y27, y28, y29, y30, y31, y32, y33, y34] : List Int)) (css := [[.int .u32 0], [.int .u32 y19], [.int .u32 y20], [.int .u32 y21], [.int .u32 y22], [.int .u32 y23], [.int .u32 (bits .and .u32 p1 p2)], [.int .u32 (bits .or .u32 p1 p2)], [.int .u32 (bits .xor .u32 p1 p2)], [.int .u32 y24], [.int .u32 y25], [.int .u32 y26], [.int .u32 y27], [.int .u32 y28], [.int .u32 y29], [.int .u32 y30], [.int .u32 y31], [.int .u32 y32], [.int .u32 y33], [.int .u32 y34]]) hS35 Tryz.underlying68 Tryz.sizeOf22 Tryz.zeroValue22 rfl rfl (by kernel_rfl) rfl ⟨rfl, rfl, rfl, rfl, rfl, rfl, rfl, rfl, rfl, rfl, rfl, rfl, rfl, rfl, rfl, rfl, rfl, rfl, rfl, rfl, trivial⟩ rfl rfl fun w36 a2 n2 c2 im36 hS36 => ?_)
  refine pv (r_zs rfl) (nil (t_thenR [(0, .int .i64 p0), (10, .slice a2 n2 c2)] ⟨rfl, rfl, trivial⟩ fun J => ?_))
  refine sq2 (sq2 (rg (pv (r_mi rfl) (pv (r_ib rfl rfl rfl) (pv (r_mb rfl) (?_))))))
  rcases Bool.eq_false_or_eq_true (decide (p0 < 1)) with hb8 | hb8
  · have hm := ctrue hb8 hm
    refine gF (d0 := 89) rfl rfl (by rw [hb8]; rfl) (gF (d0 := 89) rfl rfl (by rw [hb8]; rfl) (gF (d0 := 89) rfl rfl (by rw [hb8]; rfl) (gF (d0 := 89) rfl rfl (by rw [hb8]; rfl) (pv (r_pkt rfl hb8 rfl) (nil (t_then ?_))))))
    refine cnd (b := true) rfl (fun _ => ?_) (fun h => nomatch h)
    refine sq2 (rg (pv (r_zi rfl) (pv (r_zi rfl) (nil (t_then ?_)))))
    have hm := oI hm; subst hm
    exact rtn (r_then (retN (vs := [.int .u32 0, .int .i64 1]) rfl ⟨rfl, rfl, trivial⟩ rfl ⟨_, rfl, _, (iT im1 (iT im2 (iT im20 (iT im21 (iT im22 (iT im23 (iT im24 (iT im25 (iT im26 (iT im27 (iT im28 (iT im29 (iT im30 (iT im31 (iT im32 (iT im33 (iT im34 (iT im35 im36)))))))))))))))))), ⟨rfl, hS36.sel [1] rfl, trivial⟩⟩))
  have hm := cfalse hb8 hm
  refine gT (d0 := 89) rfl rfl hb8 (pv (r_mi rfl) (gT (d0 := 89) rfl rfl hb8 (pv (r_ms rfl) (gT (d0 := 89) rfl rfl hb8 (pv (r_lnV rfl (hS36.own (i := 0) ⟨rfl, rfl⟩).v Tryz.underlying68) (gT (d0 := 89) rfl rfl hb8 (pv (r_ib rfl rfl rfl) (pv (r_pkf rfl hb8 rfl) (nil (t_then ?_))))))))))
  refine cnd rfl (fun hb9 => ?_) (fun hb9 => ?_)
  · have hm := ctrue hb9 hm
    refine sq2 (rg (pv (r_zi rfl) (pv (r_zi rfl) (nil (t_then ?_)))))
    have hm := oI hm; subst hm
    exact rtn (r_then (retN (vs := [.int .u32 0, .int .i64 1]) rfl ⟨rfl, rfl, trivial⟩ rfl ⟨_, rfl, _, (iT im1 (iT im2 (iT im20 (iT im21 (iT im22 (iT im23 (iT im24 (iT im25 (iT im26 (iT im27 (iT im28 (iT im29 (iT im30 (iT im31 (iT im32 (iT im33 (iT im34 (iT im35 im36)))))))))))))))))), ⟨rfl, hS36.sel [1] rfl, trivial⟩⟩))
  have hm := cfalse hb9 hm
  refine skp (t_then ?_)
  refine sq2 ?_
  obtain ⟨u2, hx36, hm⟩ := bindS hm
  obtain ⟨b2, of2, cs2, k2, cp2, hv2, hp2, hl2, he2, hr2, hc2⟩ := (hS36.own (i := 0) ⟨rfl, rfl⟩).v.ixq hx36 rfl
  cases hr2
  refine rg (pv (r_ms rfl) (pv (r_mi rfl) (pv (r_ixe hv2 rfl Tryz.underlying68 Tryz.sizeOf22 hp2 hl2 he2) (pv (r_ld rfl Tryz.isAgg22 (hc2.get (j := 0) rfl)) (pv (r_zi rfl) (pv (r_zi rfl) (nil (t_then ?_))))))))
  have hm := oI hm; subst hm
  exact rtn (retN (vs := [.int .u32 u2, .int .i64 0]) rfl ⟨rfl, rfl, trivial⟩ rfl ⟨_, rfl, _, (iT im1 (iT im2 (iT im20 (iT im21 (iT im22 (iT im23 (iT im24 (iT im25 (iT im26 (iT im27 (iT im28 (iT im29 (iT im30 (iT im31 (iT im32 (iT im33 (iT im34 (iT im35 im36)))))))))))))))))), ⟨rfl, hS36.sel [1] rfl, trivial⟩⟩)

set_option maxRecDepth 100000 in
set_option maxHeartbeats 1000000 in
theorem law10_CheckApplies_sim {g : World} {T0 : Nat → Prop} {w0 : World} {R : Assn} {p0 : Int} {p1 : Int} {p2 : Int} {r : Bool} (hS : Sep g T0 w0 [R])  (hm : law10_CheckApplies p0 p1 p2 = some r) :
    Calls Tryz.prog 3 #[.int .i64 p0, .int .u32 p1, .int .u32 p2] w0 (RetS T0 w0 fun T w v => v = .bool r ∧ Sep g T w [R] ∧ True) := by
  refine enter (args := [.int .i64 p0, .int .u32 p1, .int .u32 p2]) Tryz.func3 rfl Tryz.ntmps3 rfl fun J => ?_
  unfold law10_CheckApplies at hm
  refine sq2 (rg (pv (r_zb rfl) (nil (t_then ?_))))
  refine sq2 ?_
  obtain ⟨y1, hx1, hm⟩ := bindS hm
  refine rg (pv (r_mi rfl) (pv (r_mi rfl) (pv (r_mi rfl) (wl rfl (calS cf7 rfl (check_Apply_sim (p0 := p0) (p1 := p1) (p2 := p2) (hS.bun [0] [] rfl)  hx1) rfl fun v1 T1 w1 im1 rv1 => ?_)))))
  obtain ⟨rfl, hS1, _⟩ := rv1
  have hS1 : Sep g T1 w1 [R] := hS1.unb
  refine pv (r_mv rfl) (pv (r_ex (v := .int .u32 y1.1) rfl rfl) (pv (r_ex (v := .int .i64 y1.2) rfl rfl) (pv (r_zi rfl) (pv (r_zi rfl) (nil (t_then ?_))))))
  refine sq2 ?_
  obtain ⟨y2, hx2, hm⟩ := bindS hm
  refine rg (pv (r_mi rfl) (pv (r_mi rfl) (pv (r_mi rfl) (wl rfl (calS cf8 rfl (ref10_Apply_sim (p0 := p0) (p1 := p1) (p2 := p2) (hS1.bun [0] [] rfl)  hx2) rfl fun v2 T2 w2 im2 rv2 => ?_)))))
  obtain ⟨rfl, hS2, _⟩ := rv2
  have hS2 : Sep g T2 w2 [R] := hS2.unb
  refine pv (r_mv rfl) (pv (r_ex (v := .int .u32 y2.1) rfl rfl) (pv (r_ex (v := .int .i64 y2.2) rfl rfl) (pv (r_zi rfl) (pv (r_zi rfl) (nil (t_then ?_))))))
  refine sq2 ?_
  obtain ⟨y3, hx3, hm⟩ := bindS hm
  refine rg (wl rfl (calS cf9 rfl (law10_awake_sim  (hS2.bun [0] [] rfl)  hx3) rfl fun v3 T3 w3 im3 rv3 => ?_))
  obtain ⟨rfl, hS3, _⟩ := rv3
  have hS3 : Sep g T3 w3 [R] := hS3.unb
  refine pv (r_mb rfl) (?_)
  rcases Bool.eq_false_or_eq_true y3 with hb1 | hb1
  · have hm := ctrue hb1 hm
    refine gT (d0 := 26) rfl rfl hb1 (pv (r_mi rfl) (gT (d0 := 26) rfl rfl hb1 (pv (r_mi rfl) (gT (d0 := 26) rfl rfl hb1 (pv (r_ib rfl rfl rfl) (pv (r_pkt rfl hb1 rfl) (pv (r_mb rfl) (?_))))))))
    rcases Bool.eq_false_or_eq_true (y1.1 == y2.1) with hb2 | hb2
    · have hm := ctrue hb2 hm
      refine gT (d0 := 31) rfl rfl hb2 (pv (r_mi rfl) (gT (d0 := 31) rfl rfl hb2 (pv (r_mi rfl) (gT (d0 := 31) rfl rfl hb2 (pv (r_ib rfl rfl rfl) (pv (r_pkt rfl hb2 rfl) (pv (r_zb rfl) (nil (t_thenR [(6, .bool (y1.2 == y2.2))] ⟨rfl, trivial⟩ fun J => ?_)))))))))
      have hm := oI hm; subst hm
      exact rtn (ret1 rfl rfl ⟨_, rfl, _, (iT im1 (iT im2 im3)), ⟨rfl, hS3.sel [0] rfl, trivial⟩⟩)
    have hm := cfalse hb2 hm
    refine gF (d0 := 31) rfl rfl (by rw [hb2]; rfl) (gF (d0 := 31) rfl rfl (by rw [hb2]; rfl) (gF (d0 := 31) rfl rfl (by rw [hb2]; rfl) (pv (r_pkf rfl hb2 rfl) (pv (r_zb rfl) (nil (t_thenR [(6, .bool false)] ⟨rfl, trivial⟩ fun J => ?_))))))
    have hm := oI hm; subst hm
    exact rtn (ret1 rfl rfl ⟨_, rfl, _, (iT im1 (iT im2 im3)), ⟨rfl, hS3.sel [0] rfl, trivial⟩⟩)
  have hm := cfalse hb1 hm
  refine gF (d0 := 26) rfl rfl (by rw [hb1]; rfl) (gF (d0 := 26) rfl rfl (by rw [hb1]; rfl) (gF (d0 := 26) rfl rfl (by rw [hb1]; rfl) (pv (r_pkf rfl hb1 rfl) (pv (r_mb rfl) (gF (d0 := 31) rfl rfl rfl (gF (d0 := 31) rfl rfl rfl (gF (d0 := 31) rfl rfl rfl (pv (r_pkf rfl rfl rfl) (pv (r_zb rfl) (nil (t_thenR [(6, .bool false)] ⟨rfl, trivial⟩ fun J => ?_)))))))))))
  have hm := oI hm; subst hm
  exact rtn (ret1 rfl rfl ⟨_, rfl, _, (iT im1 (iT im2 im3)), ⟨rfl, hS3.sel [0] rfl, trivial⟩⟩)
end Go.Proofs.YtpfgdpffgdengaaGreat
