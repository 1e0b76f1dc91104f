/- That Go functions compute their models. Printed by gen2.py. -/
import Derived.Test.YtpfgdpffgdengaaGreatRows
import Derived.Test.YtpfgdpffgdengaaGreatFoc
import Derived.Test.YtpfgdpffgdengaaGreatTree
import Derived.Test.YtpfgdpffgdengaaGreatRcs
import Derived.Test.YtpfgdpffgdengaaGreatH
import Derived.Test.YtpfgdpffgdengaaGreatM
set_option linter.unusedVariables false
namespace Go.Proofs.YtpfgdpffgdengaaGreat
attribute [local irreducible] wpList wpQuiet Code.wp
def FGTerm (r : Rp GTerm) : Rp GTerm := ((rPair (rInt .i64) (rPair (rInt .i64) (rPair (rInt .u32) (rPair (rInt .i64) (rPair rBool (rPair (rInt .i64) (rPair rBool (rPair rBool (rSl r)))))))))).iso fun x => (x.Kind, x.Fn, x.Num, x.Var, x.Global, x.Size, x.Post, x.Ptr, x.Kids)
def rGTerm : Rp GTerm := rFix FGTerm 9 true (fun _ => rfl)
theorem gGTerm : Grow FGTerm := gIso _ (gPair (gK (rInt .i64)) (gPair (gK (rInt .i64)) (gPair (gK (rInt .u32)) (gPair (gK (rInt .i64)) (gPair (gK rBool) (gPair (gK (rInt .i64)) (gPair (gK rBool) (gPair (gK rBool) (gSl gId)))))))))
theorem rGTerm_open {T : Nat → Prop} {w : World} {cs : List Value} {x : GTerm} (h : rGTerm.rp T w cs x) : ∃ (a8 : Option Addr) (c8 : Nat), cs = [.int .i64 x.Kind, .int .i64 x.Fn, .int .u32 x.Num, .int .i64 x.Var, .bool x.Global, .int .i64 x.Size, .bool x.Post, .bool x.Ptr, .slice a8 (List.length x.Kids) c8] ∧ SlR rGTerm T w (.slice a8 (List.length x.Kids) c8) x.Kids := by
  have h := fix_open gGTerm h
  obtain ⟨q1, y1, rfl, f1, g1⟩ := h
  cases f1
  obtain ⟨q2, y2, rfl, f2, g2⟩ := g1
  cases f2
  obtain ⟨q3, y3, rfl, f3, g3⟩ := g2
  cases f3
  obtain ⟨q4, y4, rfl, f4, g4⟩ := g3
  cases f4
  obtain ⟨q5, y5, rfl, f5, g5⟩ := g4
  cases f5
  obtain ⟨q6, y6, rfl, f6, g6⟩ := g5
  cases f6
  obtain ⟨q7, y7, rfl, f7, g7⟩ := g6
  cases f7
  obtain ⟨q8, y8, rfl, f8, g8⟩ := g7
  cases f8
  obtain ⟨v9, rfl, s9⟩ := g8
  obtain ⟨b9, k9, rfl⟩ := s9.shape
  exact ⟨b9, k9, rfl, s9⟩
theorem rGTerm_mk {T : Nat → Prop} {w : World} {x : GTerm} {a8 : Option Addr} {c8 : Nat} (e0 : SlR rGTerm T w (.slice a8 (List.length x.Kids) c8) x.Kids) : rGTerm.rp T w [.int .i64 x.Kind, .int .i64 x.Fn, .int .u32 x.Num, .int .i64 x.Var, .bool x.Global, .int .i64 x.Size, .bool x.Post, .bool x.Ptr, .slice a8 (List.length x.Kids) c8] x := fix_mk gGTerm ⟨_, _, rfl, rfl, ⟨_, _, rfl, rfl, ⟨_, _, rfl, rfl, ⟨_, _, rfl, rfl, ⟨_, _, rfl, rfl, ⟨_, _, rfl, rfl, ⟨_, _, rfl, rfl, ⟨_, _, rfl, rfl, ⟨_, rfl, e0⟩⟩⟩⟩⟩⟩⟩⟩⟩
def Fref10Term (r : Rp ref10Term) : Rp ref10Term := ((rPair (rInt .i64) (rPair (rInt .i64) (rPair (rInt .u32) (rSl r))))).iso fun x => (x.Kind, x.Fn, x.Num, x.Kids)
def rref10Term : Rp ref10Term := rFix Fref10Term 4 true (fun _ => rfl)
theorem gref10Term : Grow Fref10Term := gIso _ (gPair (gK (rInt .i64)) (gPair (gK (rInt .i64)) (gPair (gK (rInt .u32)) (gSl gId))))
theorem rref10Term_open {T : Nat → Prop} {w : World} {cs : List Value} {x : ref10Term} (h : rref10Term.rp T w cs x) : ∃ (a3 : Option Addr) (c3 : Nat), cs = [.int .i64 x.Kind, .int .i64 x.Fn, .int .u32 x.Num, .slice a3 (List.length x.Kids) c3] ∧ SlR rref10Term T w (.slice a3 (List.length x.Kids) c3) x.Kids := by
  have h := fix_open gref10Term h
  obtain ⟨q1, y1, rfl, f1, g1⟩ := h
  cases f1
  obtain ⟨q2, y2, rfl, f2, g2⟩ := g1
  cases f2
  obtain ⟨q3, y3, rfl, f3, g3⟩ := g2
  cases f3
  obtain ⟨v4, rfl, s4⟩ := g3
  obtain ⟨b4, k4, rfl⟩ := s4.shape
  exact ⟨b4, k4, rfl, s4⟩
theorem rref10Term_mk {T : Nat → Prop} {w : World} {x : ref10Term} {a3 : Option Addr} {c3 : Nat} (e0 : SlR rref10Term T w (.slice a3 (List.length x.Kids) c3) x.Kids) : rref10Term.rp T w [.int .i64 x.Kind, .int .i64 x.Fn, .int .u32 x.Num, .slice a3 (List.length x.Kids) c3] x := fix_mk gref10Term ⟨_, _, rfl, rfl, ⟨_, _, rfl, rfl, ⟨_, _, rfl, rfl, ⟨_, rfl, e0⟩⟩⟩⟩
theorem cf7 : CallOk Tryz.prog 7 := ⟨⟨_, Tryz.func7, by kernel_rfl, by kernel_rfl⟩⟩
theorem cf8 : CallOk Tryz.prog 8 := ⟨⟨_, Tryz.func8, by kernel_rfl, by kernel_rfl⟩⟩
theorem cf9 : CallOk Tryz.prog 9 := ⟨⟨_, Tryz.func9, by kernel_rfl, by kernel_rfl⟩⟩
theorem cf10 : CallOk Tryz.prog 10 := ⟨⟨_, Tryz.func10, by kernel_rfl, by kernel_rfl⟩⟩
theorem cf11 : CallOk Tryz.prog 11 := ⟨⟨_, Tryz.func11, by kernel_rfl, by kernel_rfl⟩⟩
theorem cf12 : CallOk Tryz.prog 12 := ⟨⟨_, Tryz.func12, by kernel_rfl, by kernel_rfl⟩⟩
theorem cf18 : CallOk Tryz.prog 18 := ⟨⟨_, Tryz.func18, by kernel_rfl, by kernel_rfl⟩⟩
theorem cf19 : CallOk Tryz.prog 19 := ⟨⟨_, Tryz.func19, by kernel_rfl, by kernel_rfl⟩⟩
theorem cf20 : CallOk Tryz.prog 20 := ⟨⟨_, Tryz.func20, by kernel_rfl, by kernel_rfl⟩⟩
theorem cf21 : CallOk Tryz.prog 21 := ⟨⟨_, Tryz.func21, by kernel_rfl, by kernel_rfl⟩⟩
theorem cf22 : CallOk Tryz.prog 22 := ⟨⟨_, Tryz.func22, by kernel_rfl, by kernel_rfl⟩⟩
theorem cf23 : CallOk Tryz.prog 23 := ⟨⟨_, Tryz.func23, by kernel_rfl, by kernel_rfl⟩⟩
theorem cf24 : CallOk Tryz.prog 24 := ⟨⟨_, Tryz.func24, by kernel_rfl, by kernel_rfl⟩⟩
theorem cf25 : CallOk Tryz.prog 25 := ⟨⟨_, Tryz.func25, by kernel_rfl, by kernel_rfl⟩⟩
theorem cf26 : CallOk Tryz.prog 26 := ⟨⟨_, Tryz.func26, by kernel_rfl, by kernel_rfl⟩⟩
theorem cf27 : CallOk Tryz.prog 27 := ⟨⟨_, Tryz.func27, by kernel_rfl, by kernel_rfl⟩⟩
theorem cf28 : CallOk Tryz.prog 28 := ⟨⟨_, Tryz.func28, by kernel_rfl, by kernel_rfl⟩⟩
theorem cf29 : CallOk Tryz.prog 29 := ⟨⟨_, Tryz.func29, by kernel_rfl, by kernel_rfl⟩⟩
theorem cf30 : CallOk Tryz.prog 30 := ⟨⟨_, Tryz.func30, by kernel_rfl, by kernel_rfl⟩⟩
theorem cf31 : CallOk Tryz.prog 31 := ⟨⟨_, Tryz.func31, by kernel_rfl, by kernel_rfl⟩⟩
theorem cf32 : CallOk Tryz.prog 32 := ⟨⟨_, Tryz.func32, by kernel_rfl, by kernel_rfl⟩⟩
theorem cf33 : CallOk Tryz.prog 33 := ⟨⟨_, Tryz.func33, by kernel_rfl, by kernel_rfl⟩⟩
theorem cf34 : CallOk Tryz.prog 34 := ⟨⟨_, Tryz.func34, by kernel_rfl, by kernel_rfl⟩⟩
theorem cf35 : CallOk Tryz.prog 35 := ⟨⟨_, Tryz.func35, by kernel_rfl, by kernel_rfl⟩⟩
theorem cf36 : CallOk Tryz.prog 36 := ⟨⟨_, Tryz.func36, by kernel_rfl, by kernel_rfl⟩⟩
theorem cf37 : CallOk Tryz.prog 37 := ⟨⟨_, Tryz.func37, by kernel_rfl, by kernel_rfl⟩⟩
theorem cf38 : CallOk Tryz.prog 38 := ⟨⟨_, Tryz.func38, by kernel_rfl, by kernel_rfl⟩⟩
theorem cf53 : CallOk Tryz.prog 53 := ⟨⟨_, Tryz.func53, by kernel_rfl, by kernel_rfl⟩⟩
theorem cf54 : CallOk Tryz.prog 54 := ⟨⟨_, Tryz.func54, by kernel_rfl, by kernel_rfl⟩⟩
theorem cf55 : CallOk Tryz.prog 55 := ⟨⟨_, Tryz.func55, by kernel_rfl, by kernel_rfl⟩⟩
theorem cf56 : CallOk Tryz.prog 56 := ⟨⟨_, Tryz.func56, by kernel_rfl, by kernel_rfl⟩⟩
theorem cf57 : CallOk Tryz.prog 57 := ⟨⟨_, Tryz.func57, by kernel_rfl, by kernel_rfl⟩⟩
theorem cf58 : CallOk Tryz.prog 58 := ⟨⟨_, Tryz.func58, by kernel_rfl, by kernel_rfl⟩⟩
theorem cf59 : CallOk Tryz.prog 59 := ⟨⟨_, Tryz.func59, by kernel_rfl, by kernel_rfl⟩⟩
theorem cf60 : CallOk Tryz.prog 60 := ⟨⟨_, Tryz.func60, by kernel_rfl, by kernel_rfl⟩⟩
theorem cf61 : CallOk Tryz.prog 61 := ⟨⟨_, Tryz.func61, by kernel_rfl, by kernel_rfl⟩⟩
theorem cf62 : CallOk Tryz.prog 62 := ⟨⟨_, Tryz.func62, by kernel_rfl, by kernel_rfl⟩⟩
theorem cf84 : CallOk Tryz.prog 84 := ⟨⟨_, Tryz.func84, by kernel_rfl, by kernel_rfl⟩⟩
theorem el22 : ElemOk Tryz.prog 22 1 := ⟨by kernel_rfl, by decide⟩
theorem el35 : ElemOk Tryz.prog 35 4 := ⟨by kernel_rfl, by decide⟩
theorem mix : Tryz.prog.follows .mixedOrders = true := by kernel_rfl
abbrev cGTerm (x : GTerm) (a8 : Option Addr) (c8 : Nat) : List Value := [.int .i64 x.Kind, .int .i64 x.Fn, .int .u32 x.Num, .int .i64 x.Var, .bool x.Global, .int .i64 x.Size, .bool x.Post, .bool x.Ptr, .slice a8 (List.length x.Kids) c8]
abbrev cref10Term (x : ref10Term) (a3 : Option Addr) (c3 : Nat) : List Value := [.int .i64 x.Kind, .int .i64 x.Fn, .int .u32 x.Num, .slice a3 (List.length x.Kids) c3]

set_option maxRecDepth 100000 in
set_option maxHeartbeats 1000000 in
theorem word_Add_sim {g : World} {T0 : Nat → Prop} {w0 : World} {R : Assn} {p0 : Int} {p1 : Int} {r : Int} (hS : Sep g T0 w0 [R])  (hm : word_Add p0 p1 = some r) :
    Calls Tryz.prog 18 #[.int .u32 p0, .int .u32 p1] w0 (RetS T0 w0 fun T w v => v = .int .u32 r ∧ Sep g T w [R] ∧ True) := by
  refine enter (args := [.int .u32 p0, .int .u32 p1]) Tryz.func18 rfl Tryz.ntmps18 rfl fun J => ?_
  unfold word_Add at hm
  refine sq2 (rg (pv (r_zi rfl) (nil (t_then ?_))))
  refine sq2 (rg (pv (r_mi rfl) (pv (r_mi rfl) (pv (r_ib rfl rfl rfl) (pv (r_zi rfl) (nil (t_then ?_)))))))
  have hm := oI hm; subst hm
  exact rtn (ret1 rfl rfl ⟨_, rfl, _, Im.refl, ⟨rfl, hS.sel [0] rfl, trivial⟩⟩)

set_option maxRecDepth 100000 in
set_option maxHeartbeats 1000000 in
theorem word_Sub_sim {g : World} {T0 : Nat → Prop} {w0 : World} {R : Assn} {p0 : Int} {p1 : Int} {r : Int} (hS : Sep g T0 w0 [R])  (hm : word_Sub p0 p1 = some r) :
    Calls Tryz.prog 19 #[.int .u32 p0, .int .u32 p1] w0 (RetS T0 w0 fun T w v => v = .int .u32 r ∧ Sep g T w [R] ∧ True) := by
  refine enter (args := [.int .u32 p0, .int .u32 p1]) Tryz.func19 rfl Tryz.ntmps19 rfl fun J => ?_
  unfold word_Sub at hm
  refine sq2 (rg (pv (r_zi rfl) (nil (t_then ?_))))
  refine sq2 (rg (pv (r_mi rfl) (pv (r_mi rfl) (pv (r_ib rfl rfl rfl) (pv (r_zi rfl) (nil (t_then ?_)))))))
  have hm := oI hm; subst hm
  exact rtn (ret1 rfl rfl ⟨_, rfl, _, Im.refl, ⟨rfl, hS.sel [0] rfl, trivial⟩⟩)

set_option maxRecDepth 100000 in
set_option maxHeartbeats 1000000 in
theorem word_Mul_sim {g : World} {T0 : Nat → Prop} {w0 : World} {R : Assn} {p0 : Int} {p1 : Int} {r : Int} (hS : Sep g T0 w0 [R])  (hm : word_Mul p0 p1 = some r) :
    Calls Tryz.prog 20 #[.int .u32 p0, .int .u32 p1] w0 (RetS T0 w0 fun T w v => v = .int .u32 r ∧ Sep g T w [R] ∧ True) := by
  refine enter (args := [.int .u32 p0, .int .u32 p1]) Tryz.func20 rfl Tryz.ntmps20 rfl fun J => ?_
  unfold word_Mul at hm
  refine sq2 (rg (pv (r_zi rfl) (nil (t_then ?_))))
  refine sq2 (rg (pv (r_mi rfl) (pv (r_mi rfl) (pv (r_ib rfl rfl rfl) (pv (r_zi rfl) (nil (t_then ?_)))))))
  have hm := oI hm; subst hm
  exact rtn (ret1 rfl rfl ⟨_, rfl, _, Im.refl, ⟨rfl, hS.sel [0] rfl, trivial⟩⟩)

set_option maxRecDepth 100000 in
set_option maxHeartbeats 1000000 in
theorem word_Div_1_sim {g : World} {T0 : Nat → Prop} {w0 : World} {R : Assn} {p0 : Int} {p1 : Int} {r : Int} (hS : Sep g T0 w0 [R])  (hm : word_Div_1 p0 p1 = some r) :
    Calls Tryz.prog 54 #[.int .i64 p0, .int .i64 p1] w0 (RetS T0 w0 fun T w v => v = .int .i64 r ∧ Sep g T w [R] ∧ True) := by
  refine enter (args := [.int .i64 p0, .int .i64 p1]) Tryz.func54 rfl Tryz.ntmps54 rfl fun J => ?_
  unfold word_Div_1 at hm
  refine sq2 (rg (pv (r_zi rfl) (nil (t_then ?_))))
  refine sq2 ?_
  obtain ⟨_, hz1, hm⟩ := bindS hm
  have hz1 := nz_some hz1
  refine rg (pv (r_mi rfl) (pv (r_mi rfl) (pv (r_iq rfl rfl hz1) (pv (r_zi rfl) (nil (t_then ?_))))))
  have hm := oI hm; subst hm
  exact rtn (ret1 rfl rfl ⟨_, rfl, _, Im.refl, ⟨rfl, hS.sel [0] rfl, trivial⟩⟩)

set_option maxRecDepth 100000 in
set_option maxHeartbeats 1000000 in
theorem word_signed_sim {g : World} {T0 : Nat → Prop} {w0 : World} {R : Assn} {p0 : Int} {p1 : Int} {r : Int} (hS : Sep g T0 w0 [R])  (hm : word_signed p0 p1 = some r) :
    Calls Tryz.prog 53 #[.int .u32 p0, .int .u32 p1, .func (.func 54) #[] #[]] w0 (RetS T0 w0 fun T w v => v = .int .i64 r ∧ Sep g T w [R] ∧ True) := by
  refine enter (args := [.int .u32 p0, .int .u32 p1, .func (.func 54) #[] #[]]) Tryz.func53 rfl Tryz.ntmps53 rfl fun J => ?_
  unfold word_signed at hm
  refine sq2 (rg (pv (r_zi rfl) (nil (t_then ?_))))
  refine sq2 ?_
  obtain ⟨y1, hx1, hm⟩ := bindS hm
  refine rg (pv (r_mf rfl) (pv (r_mi rfl) (pv (r_cv rfl Tryz.underlying22 Tryz.underlying21) (pv (r_cv rfl Tryz.underlying21 Tryz.underlying2) (pv (r_mi rfl) (pv (r_cv rfl Tryz.underlying22 Tryz.underlying21) (pv (r_cv rfl Tryz.underlying21 Tryz.underlying2) (wl rfl (calS cf54 rfl (word_Div_1_sim (p0 := IntKind.wrap .i64 (IntKind.wrap .i32 p0)) (p1 := IntKind.wrap .i64 (IntKind.wrap .i32 p1)) (hS.bun [0] [] rfl)  hx1) rfl fun v1 T1 w1 im1 rv1 => ?_)))))))))
  obtain ⟨rfl, hS1, _⟩ := rv1
  have hS1 : Sep g T1 w1 [R] := hS1.unb
  refine pv (r_zi rfl) (nil (t_then ?_))
  have hm := oI hm; subst hm
  exact rtn (ret1 rfl rfl ⟨_, rfl, _, im1, ⟨rfl, hS1.sel [0] rfl, trivial⟩⟩)

set_option maxRecDepth 100000 in
set_option maxHeartbeats 1000000 in
theorem word_Div_sim {g : World} {T0 : Nat → Prop} {w0 : World} {R : Assn} {p0 : Int} {p1 : Int} {r : Int} (hS : Sep g T0 w0 [R])  (hm : word_Div p0 p1 = some r) :
    Calls Tryz.prog 21 #[.int .u32 p0, .int .u32 p1] w0 (RetS T0 w0 fun T w v => v = .int .u32 r ∧ Sep g T w [R] ∧ True) := by
  refine enter (args := [.int .u32 p0, .int .u32 p1]) Tryz.func21 rfl Tryz.ntmps21 rfl fun J => ?_
  unfold word_Div at hm
  refine sq2 (rg (pv (r_zi rfl) (nil (t_then ?_))))
  refine sq2 (sq2 (rg (pv (r_mi rfl) (pv (r_ib rfl rfl rfl) (nil (t_then ?_))))))
  refine cnd rfl (fun hb1 => ?_) (fun hb1 => ?_)
  · have hm := ctrue hb1 hm
    refine sq2 (rg (pv (r_zi rfl) (nil (t_then ?_))))
    have hm := oI hm; subst hm
    exact rtn (r_then (ret1 rfl rfl ⟨_, rfl, _, Im.refl, ⟨rfl, hS.sel [0] rfl, trivial⟩⟩))
  have hm := cfalse hb1 hm
  refine skp (t_then ?_)
  refine sq2 ?_
  obtain ⟨y1, hx1, hm⟩ := bindS hm
  refine rg (pv (r_mi rfl) (pv (r_mi rfl) (wl rfl (calS cf53 rfl (word_signed_sim (p0 := p0) (p1 := p1) (hS.bun [0] [] rfl)  hx1) rfl fun v1 T1 w1 im1 rv1 => ?_))))
  obtain ⟨rfl, hS1, _⟩ := rv1
  have hS1 : Sep g T1 w1 [R] := hS1.unb
  refine pv (r_cv rfl Tryz.underlying2 Tryz.underlying22) (pv (r_zi rfl) (nil (t_then ?_)))
  have hm := oI hm; subst hm
  exact rtn (ret1 rfl rfl ⟨_, rfl, _, im1, ⟨rfl, hS1.sel [0] rfl, trivial⟩⟩)

set_option maxRecDepth 100000 in
set_option maxHeartbeats 1000000 in
theorem word_Rem_1_sim {g : World} {T0 : Nat → Prop} {w0 : World} {R : Assn} {p0 : Int} {p1 : Int} {r : Int} (hS : Sep g T0 w0 [R])  (hm : word_Rem_1 p0 p1 = some r) :
    Calls Tryz.prog 55 #[.int .i64 p0, .int .i64 p1] w0 (RetS T0 w0 fun T w v => v = .int .i64 r ∧ Sep g T w [R] ∧ True) := by
  refine enter (args := [.int .i64 p0, .int .i64 p1]) Tryz.func55 rfl Tryz.ntmps55 rfl fun J => ?_
  unfold word_Rem_1 at hm
  refine sq2 (rg (pv (r_zi rfl) (nil (t_then ?_))))
  refine sq2 ?_
  obtain ⟨_, hz1, hm⟩ := bindS hm
  have hz1 := nz_some hz1
  refine rg (pv (r_mi rfl) (pv (r_mi rfl) (pv (r_irm rfl rfl hz1) (pv (r_zi rfl) (nil (t_then ?_))))))
  have hm := oI hm; subst hm
  exact rtn (ret1 rfl rfl ⟨_, rfl, _, Im.refl, ⟨rfl, hS.sel [0] rfl, trivial⟩⟩)

set_option maxRecDepth 100000 in
set_option maxHeartbeats 1000000 in
theorem word_signed_2_sim {g : World} {T0 : Nat → Prop} {w0 : World} {R : Assn} {p0 : Int} {p1 : Int} {r : Int} (hS : Sep g T0 w0 [R])  (hm : word_signed_2 p0 p1 = some r) :
    Calls Tryz.prog 53 #[.int .u32 p0, .int .u32 p1, .func (.func 55) #[] #[]] w0 (RetS T0 w0 fun T w v => v = .int .i64 r ∧ Sep g T w [R] ∧ True) := by
  refine enter (args := [.int .u32 p0, .int .u32 p1, .func (.func 55) #[] #[]]) Tryz.func53 rfl Tryz.ntmps53 rfl fun J => ?_
  unfold word_signed_2 at hm
  refine sq2 (rg (pv (r_zi rfl) (nil (t_then ?_))))
  refine sq2 ?_
  obtain ⟨y1, hx1, hm⟩ := bindS hm
  refine rg (pv (r_mf rfl) (pv (r_mi rfl) (pv (r_cv rfl Tryz.underlying22 Tryz.underlying21) (pv (r_cv rfl Tryz.underlying21 Tryz.underlying2) (pv (r_mi rfl) (pv (r_cv rfl Tryz.underlying22 Tryz.underlying21) (pv (r_cv rfl Tryz.underlying21 Tryz.underlying2) (wl rfl (calS cf55 rfl (word_Rem_1_sim (p0 := IntKind.wrap .i64 (IntKind.wrap .i32 p0)) (p1 := IntKind.wrap .i64 (IntKind.wrap .i32 p1)) (hS.bun [0] [] rfl)  hx1) rfl fun v1 T1 w1 im1 rv1 => ?_)))))))))
  obtain ⟨rfl, hS1, _⟩ := rv1
  have hS1 : Sep g T1 w1 [R] := hS1.unb
  refine pv (r_zi rfl) (nil (t_then ?_))
  have hm := oI hm; subst hm
  exact rtn (ret1 rfl rfl ⟨_, rfl, _, im1, ⟨rfl, hS1.sel [0] rfl, trivial⟩⟩)

set_option maxRecDepth 100000 in
set_option maxHeartbeats 1000000 in
theorem word_Rem_sim {g : World} {T0 : Nat → Prop} {w0 : World} {R : Assn} {p0 : Int} {p1 : Int} {r : Int} (hS : Sep g T0 w0 [R])  (hm : word_Rem p0 p1 = some r) :
    Calls Tryz.prog 22 #[.int .u32 p0, .int .u32 p1] w0 (RetS T0 w0 fun T w v => v = .int .u32 r ∧ Sep g T w [R] ∧ True) := by
  refine enter (args := [.int .u32 p0, .int .u32 p1]) Tryz.func22 rfl Tryz.ntmps22 rfl fun J => ?_
  unfold word_Rem at hm
  refine sq2 (rg (pv (r_zi rfl) (nil (t_then ?_))))
  refine sq2 (sq2 (rg (pv (r_mi rfl) (pv (r_ib rfl rfl rfl) (nil (t_then ?_))))))
  refine cnd rfl (fun hb1 => ?_) (fun hb1 => ?_)
  · have hm := ctrue hb1 hm
    refine sq2 (rg (pv (r_mi rfl) (pv (r_zi rfl) (nil (t_then ?_)))))
    have hm := oI hm; subst hm
    exact rtn (r_then (ret1 rfl rfl ⟨_, rfl, _, Im.refl, ⟨rfl, hS.sel [0] rfl, trivial⟩⟩))
  have hm := cfalse hb1 hm
  refine skp (t_then ?_)
  refine sq2 ?_
  obtain ⟨y1, hx1, hm⟩ := bindS hm
  refine rg (pv (r_mi rfl) (pv (r_mi rfl) (wl rfl (calS cf53 rfl (word_signed_2_sim (p0 := p0) (p1 := p1) (hS.bun [0] [] rfl)  hx1) rfl fun v1 T1 w1 im1 rv1 => ?_))))
  obtain ⟨rfl, hS1, _⟩ := rv1
  have hS1 : Sep g T1 w1 [R] := hS1.unb
  refine pv (r_cv rfl Tryz.underlying2 Tryz.underlying22) (pv (r_zi rfl) (nil (t_then ?_)))
  have hm := oI hm; subst hm
  exact rtn (ret1 rfl rfl ⟨_, rfl, _, im1, ⟨rfl, hS1.sel [0] rfl, trivial⟩⟩)

set_option maxRecDepth 100000 in
set_option maxHeartbeats 1000000 in
theorem word_Left_sim {g : World} {T0 : Nat → Prop} {w0 : World} {R : Assn} {p0 : Int} {p1 : Int} {r : Int} (hS : Sep g T0 w0 [R])  (hm : word_Left p0 p1 = some r) :
    Calls Tryz.prog 23 #[.int .u32 p0, .int .u32 p1] w0 (RetS T0 w0 fun T w v => v = .int .u32 r ∧ Sep g T w [R] ∧ True) := by
  refine enter (args := [.int .u32 p0, .int .u32 p1]) Tryz.func23 rfl Tryz.ntmps23 rfl fun J => ?_
  unfold word_Left at hm
  refine sq2 (rg (pv (r_zi rfl) (nil (t_then ?_))))
  refine sq2 ?_
  obtain ⟨_, hz1, hm⟩ := bindS hm
  have hz1 := nn_some hz1
  refine rg (pv (r_mi rfl) (pv (r_mi rfl) (pv (r_ib rfl rfl rfl) (pv (r_ishl rfl rfl hz1) (pv (r_zi rfl) (nil (t_then ?_)))))))
  have hm := oI hm; subst hm
  exact rtn (ret1 rfl rfl ⟨_, rfl, _, Im.refl, ⟨rfl, hS.sel [0] rfl, trivial⟩⟩)

set_option maxRecDepth 100000 in
set_option maxHeartbeats 1000000 in
theorem word_RightS_sim {g : World} {T0 : Nat → Prop} {w0 : World} {R : Assn} {p0 : Int} {p1 : Int} {r : Int} (hS : Sep g T0 w0 [R])  (hm : word_RightS p0 p1 = some r) :
    Calls Tryz.prog 24 #[.int .u32 p0, .int .u32 p1] w0 (RetS T0 w0 fun T w v => v = .int .u32 r ∧ Sep g T w [R] ∧ True) := by
  refine enter (args := [.int .u32 p0, .int .u32 p1]) Tryz.func24 rfl Tryz.ntmps24 rfl fun J => ?_
  unfold word_RightS at hm
  refine sq2 (rg (pv (r_zi rfl) (nil (t_then ?_))))
  refine sq2 ?_
  obtain ⟨_, hz1, hm⟩ := bindS hm
  have hz1 := nn_some hz1
  refine rg (pv (r_mi rfl) (pv (r_cv rfl Tryz.underlying22 Tryz.underlying21) (pv (r_mi rfl) (pv (r_ib rfl rfl rfl) (pv (r_ishr rfl rfl hz1) (pv (r_cv rfl Tryz.underlying21 Tryz.underlying22) (pv (r_zi rfl) (nil (t_then ?_)))))))))
  have hm := oI hm; subst hm
  exact rtn (ret1 rfl rfl ⟨_, rfl, _, Im.refl, ⟨rfl, hS.sel [0] rfl, trivial⟩⟩)

set_option maxRecDepth 100000 in
set_option maxHeartbeats 1000000 in
theorem check_bit_sim {g : World} {T0 : Nat → Prop} {w0 : World} {R : Assn} {p0 : Bool} {r : Int} (hS : Sep g T0 w0 [R])  (hm : check_bit p0 = some r) :
    Calls Tryz.prog 25 #[.bool p0] w0 (RetS T0 w0 fun T w v => v = .int .u32 r ∧ Sep g T w [R] ∧ True) := by
  refine enter (args := [.bool p0]) Tryz.func25 rfl Tryz.ntmps25 rfl fun J => ?_
  unfold check_bit at hm
  refine sq2 (rg (pv (r_zi rfl) (nil (t_then ?_))))
  refine sq2 (sq2 (rg (pv (r_mb rfl) (nil (t_then ?_)))))
  refine cnd rfl (fun hb1 => ?_) (fun hb1 => ?_)
  · have hm := ctrue hb1 hm
    refine sq2 (rg (pv (r_zi rfl) (nil (t_then ?_))))
    have hm := oI hm; subst hm
    exact rtn (r_then (ret1 rfl rfl ⟨_, rfl, _, Im.refl, ⟨rfl, hS.sel [0] rfl, trivial⟩⟩))
  have hm := cfalse hb1 hm
  refine skp (t_then ?_)
  refine sq2 (rg (pv (r_zi rfl) (nil (t_then ?_))))
  have hm := oI hm; subst hm
  exact rtn (ret1 rfl rfl ⟨_, rfl, _, Im.refl, ⟨rfl, hS.sel [0] rfl, trivial⟩⟩)

set_option maxRecDepth 100000 in
set_option maxHeartbeats 1000000 in
theorem word_bit_sim {g : World} {T0 : Nat → Prop} {w0 : World} {R : Assn} {p0 : Bool} {r : Int} (hS : Sep g T0 w0 [R])  (hm : word_bit p0 = some r) :
    Calls Tryz.prog 84 #[.bool p0] w0 (RetS T0 w0 fun T w v => v = .int .u32 r ∧ Sep g T w [R] ∧ True) := by
  refine enter (args := [.bool p0]) Tryz.func84 rfl Tryz.ntmps84 rfl fun J => ?_
  unfold word_bit at hm
  refine sq2 (rg (pv (r_zi rfl) (nil (t_then ?_))))
  refine sq2 (sq2 (rg (pv (r_mb rfl) (nil (t_then ?_)))))
  refine cnd rfl (fun hb1 => ?_) (fun hb1 => ?_)
  · have hm := ctrue hb1 hm
    refine sq2 (rg (pv (r_zi rfl) (nil (t_then ?_))))
    have hm := oI hm; subst hm
    exact rtn (r_then (ret1 rfl rfl ⟨_, rfl, _, Im.refl, ⟨rfl, hS.sel [0] rfl, trivial⟩⟩))
  have hm := cfalse hb1 hm
  refine skp (t_then ?_)
  refine sq2 (rg (pv (r_zi rfl) (nil (t_then ?_))))
  have hm := oI hm; subst hm
  exact rtn (ret1 rfl rfl ⟨_, rfl, _, Im.refl, ⟨rfl, hS.sel [0] rfl, trivial⟩⟩)

set_option maxRecDepth 100000 in
set_option maxHeartbeats 1000000 in
theorem word_Less_sim {g : World} {T0 : Nat → Prop} {w0 : World} {R : Assn} {p0 : Int} {p1 : Int} {r : Int} (hS : Sep g T0 w0 [R])  (hm : word_Less p0 p1 = some r) :
    Calls Tryz.prog 56 #[.int .u32 p0, .int .u32 p1] w0 (RetS T0 w0 fun T w v => v = .int .u32 r ∧ Sep g T w [R] ∧ True) := by
  refine enter (args := [.int .u32 p0, .int .u32 p1]) Tryz.func56 rfl Tryz.ntmps56 rfl fun J => ?_
  unfold word_Less at hm
  refine sq2 (rg (pv (r_zi rfl) (nil (t_then ?_))))
  refine sq2 ?_
  obtain ⟨y1, hx1, hm⟩ := bindS hm
  refine rg (pv (r_mi rfl) (pv (r_cv rfl Tryz.underlying22 Tryz.underlying21) (pv (r_mi rfl) (pv (r_cv rfl Tryz.underlying22 Tryz.underlying21) (pv (r_ib rfl rfl rfl) (wl rfl (calS cf84 rfl (word_bit_sim (p0 := decide ((IntKind.wrap .i32 p0) < (IntKind.wrap .i32 p1))) (hS.bun [0] [] rfl)  hx1) rfl fun v1 T1 w1 im1 rv1 => ?_)))))))
  obtain ⟨rfl, hS1, _⟩ := rv1
  have hS1 : Sep g T1 w1 [R] := hS1.unb
  refine pv (r_zi rfl) (nil (t_then ?_))
  have hm := oI hm; subst hm
  exact rtn (ret1 rfl rfl ⟨_, rfl, _, im1, ⟨rfl, hS1.sel [0] rfl, trivial⟩⟩)

set_option maxRecDepth 100000 in
set_option maxHeartbeats 1000000 in
theorem check_compare_sim {g : World} {T0 : Nat → Prop} {w0 : World} {R : Assn} {p0 : Int} {p1 : Int} {p2 : Int} {r : Int × Int} (hS : Sep g T0 w0 [R])  (hm : check_compare p0 p1 p2 = some r) :
    Calls Tryz.prog 26 #[.int .i64 p0, .int .u32 p1, .int .u32 p2] w0 (RetS T0 w0 fun T w v => v = .tuple #[.int .u32 r.1, .int .i64 r.2] ∧ Sep g T w [R] ∧ True) := by
  refine enter (args := [.int .i64 p0, .int .u32 p1, .int .u32 p2]) Tryz.func26 rfl Tryz.ntmps26 rfl fun J => ?_
  unfold check_compare at hm
  refine sq2 (rg (pv (r_zi rfl) (pv (r_zi rfl) (nil (t_then ?_)))))
  refine sq2 (sq2 (rg (pv (r_mi rfl) (nil (t_then ?_)))))
  refine blk (sq2 (rg (pv (r_ib rfl rfl rfl) (pv (r_zb rfl) (nil (t_then ?_))))))
  refine cnd rfl (fun hb1 => ?_) (fun hb1 => ?_)
  · have hm := ctrue hb1 hm
    refine sq2 ?_
    obtain ⟨y1, hx1, hm⟩ := bindS hm
    refine rg (pv (r_mi rfl) (pv (r_mi rfl) (pv (r_ib rfl rfl rfl) (wl rfl (calS cf25 rfl (check_bit_sim (p0 := p1 == p2) (hS.bun [0] [] rfl)  hx1) rfl fun v1 T1 w1 im1 rv1 => ?_)))))
    obtain ⟨rfl, hS1, _⟩ := rv1
    have hS1 : Sep g T1 w1 [R] := hS1.unb
    refine pv (r_zi rfl) (pv (r_zi rfl) (nil (t_then ?_)))
    have hm := oI hm; subst hm
    exact rtn (r_blk (r_then (retN (vs := [.int .u32 y1, .int .i64 0]) rfl ⟨rfl, rfl, trivial⟩ rfl ⟨_, rfl, _, im1, ⟨rfl, hS1.sel [0] rfl, trivial⟩⟩)))
  have hm := cfalse hb1 hm
  refine sq2 (rg (pv (r_ib rfl rfl rfl) (pv (r_zb rfl) (nil (t_then ?_)))))
  refine cnd rfl (fun hb2 => ?_) (fun hb2 => ?_)
  · have hm := ctrue hb2 hm
    refine sq2 ?_
    obtain ⟨y2, hx2, hm⟩ := bindS hm
    refine rg (pv (r_mi rfl) (pv (r_mi rfl) (pv (r_ib rfl rfl rfl) (wl rfl (calS cf25 rfl (check_bit_sim (p0 := p1 != p2) (hS.bun [0] [] rfl)  hx2) rfl fun v2 T2 w2 im2 rv2 => ?_)))))
    obtain ⟨rfl, hS2, _⟩ := rv2
    have hS2 : Sep g T2 w2 [R] := hS2.unb
    refine pv (r_zi rfl) (pv (r_zi rfl) (nil (t_then ?_)))
    have hm := oI hm; subst hm
    exact rtn (r_blk (r_then (retN (vs := [.int .u32 y2, .int .i64 0]) rfl ⟨rfl, rfl, trivial⟩ rfl ⟨_, rfl, _, im2, ⟨rfl, hS2.sel [0] rfl, trivial⟩⟩)))
  have hm := cfalse hb2 hm
  refine sq2 (rg (pv (r_ib rfl rfl rfl) (pv (r_zb rfl) (nil (t_then ?_)))))
  refine cnd rfl (fun hb3 => ?_) (fun hb3 => ?_)
  · have hm := ctrue hb3 hm
    refine sq2 ?_
    obtain ⟨y3, hx3, hm⟩ := bindS hm
    refine rg (pv (r_mi rfl) (pv (r_mi rfl) (wl rfl (calS cf56 rfl (word_Less_sim (p0 := p1) (p1 := p2) (hS.bun [0] [] rfl)  hx3) rfl fun v3 T3 w3 im3 rv3 => ?_))))
    obtain ⟨rfl, hS3, _⟩ := rv3
    have hS3 : Sep g T3 w3 [R] := hS3.unb
    refine pv (r_zi rfl) (pv (r_zi rfl) (nil (t_then ?_)))
    have hm := oI hm; subst hm
    exact rtn (r_blk (r_then (retN (vs := [.int .u32 y3, .int .i64 0]) rfl ⟨rfl, rfl, trivial⟩ rfl ⟨_, rfl, _, im3, ⟨rfl, hS3.sel [0] rfl, trivial⟩⟩)))
  have hm := cfalse hb3 hm
  refine sq2 (rg (pv (r_ib rfl rfl rfl) (pv (r_zb rfl) (nil (t_then ?_)))))
  refine cnd rfl (fun hb4 => ?_) (fun hb4 => ?_)
  · have hm := ctrue hb4 hm
    refine sq2 ?_
    obtain ⟨y4, hx4, hm⟩ := bindS hm
    refine rg (pv (r_mi rfl) (pv (r_mi rfl) (wl rfl (calS cf56 rfl (word_Less_sim (p0 := p2) (p1 := p1) (hS.bun [0] [] rfl)  hx4) rfl fun v4 T4 w4 im4 rv4 => ?_))))
    obtain ⟨rfl, hS4, _⟩ := rv4
    have hS4 : Sep g T4 w4 [R] := hS4.unb
    refine pv (r_zi rfl) (pv (r_zi rfl) (nil (t_then ?_)))
    have hm := oI hm; subst hm
    exact rtn (r_blk (r_then (retN (vs := [.int .u32 y4, .int .i64 0]) rfl ⟨rfl, rfl, trivial⟩ rfl ⟨_, rfl, _, im4, ⟨rfl, hS4.sel [0] rfl, trivial⟩⟩)))
  have hm := cfalse hb4 hm
  refine sq2 (rg (pv (r_ib rfl rfl rfl) (pv (r_zb rfl) (nil (t_then ?_)))))
  refine cnd rfl (fun hb5 => ?_) (fun hb5 => ?_)
  · have hm := ctrue hb5 hm
    refine sq2 ?_
    obtain ⟨y5, hx5, hm⟩ := bindS hm
    refine rg (pv (r_mi rfl) (pv (r_mi rfl) (wl rfl (calS cf56 rfl (word_Less_sim (p0 := p2) (p1 := p1) (hS.bun [0] [] rfl)  hx5) rfl fun v5 T5 w5 im5 rv5 => ?_))))
    obtain ⟨rfl, hS5, _⟩ := rv5
    have hS5 : Sep g T5 w5 [R] := hS5.unb
    refine pv (r_ib rfl rfl rfl) (pv (r_zi rfl) (pv (r_zi rfl) (nil (t_then ?_))))
    have hm := oI hm; subst hm
    exact rtn (r_blk (r_then (retN (vs := [.int .u32 (IntKind.wrap .u32 (1 - y5)), .int .i64 0]) rfl ⟨rfl, rfl, trivial⟩ rfl ⟨_, rfl, _, im5, ⟨rfl, hS5.sel [0] rfl, trivial⟩⟩)))
  have hm := cfalse hb5 hm
  refine sq2 (rg (pv (r_ib rfl rfl rfl) (pv (r_zb rfl) (nil (t_then ?_)))))
  refine cnd rfl (fun hb6 => ?_) (fun hb6 => ?_)
  · have hm := ctrue hb6 hm
    refine sq2 ?_
    obtain ⟨y6, hx6, hm⟩ := bindS hm
    refine rg (pv (r_mi rfl) (pv (r_mi rfl) (wl rfl (calS cf56 rfl (word_Less_sim (p0 := p1) (p1 := p2) (hS.bun [0] [] rfl)  hx6) rfl fun v6 T6 w6 im6 rv6 => ?_))))
    obtain ⟨rfl, hS6, _⟩ := rv6
    have hS6 : Sep g T6 w6 [R] := hS6.unb
    refine pv (r_ib rfl rfl rfl) (pv (r_zi rfl) (pv (r_zi rfl) (nil (t_then ?_))))
    have hm := oI hm; subst hm
    exact rtn (r_blk (r_then (retN (vs := [.int .u32 (IntKind.wrap .u32 (1 - y6)), .int .i64 0]) rfl ⟨rfl, rfl, trivial⟩ rfl ⟨_, rfl, _, im6, ⟨rfl, hS6.sel [0] rfl, trivial⟩⟩)))
  have hm := cfalse hb6 hm
  refine skp (t_blk (t_then ?_))
  refine sq2 (rg (pv (r_zi rfl) (pv (r_zi rfl) (nil (t_then ?_)))))
  have hm := oI hm; subst hm
  exact rtn (retN (vs := [.int .u32 0, .int .i64 1]) rfl ⟨rfl, rfl, trivial⟩ rfl ⟨_, rfl, _, Im.refl, ⟨rfl, hS.sel [0] rfl, trivial⟩⟩)

set_option maxRecDepth 100000 in
set_option maxHeartbeats 1000000 in
theorem check_Apply_sim {g : World} {T0 : Nat → Prop} {w0 : World} {R : Assn} {p0 : Int} {p1 : Int} {p2 : Int} {r : Int × Int} (hS : Sep g T0 w0 [R])  (hm : check_Apply p0 p1 p2 = some r) :
    Calls Tryz.prog 7 #[.int .i64 p0, .int .u32 p1, .int .u32 p2] w0 (RetS T0 w0 fun T w v => v = .tuple #[.int .u32 r.1, .int .i64 r.2] ∧ Sep g T w [R] ∧ True) := by
  refine enter (args := [.int .i64 p0, .int .u32 p1, .int .u32 p2]) Tryz.func7 rfl Tryz.ntmps7 rfl fun J => ?_
  unfold check_Apply at hm
  refine sq2 (rg (pv (r_zi rfl) (pv (r_zi rfl) (nil (t_then ?_)))))
  refine sq2 (sq2 (rg (pv (r_mi rfl) (nil (t_then ?_)))))
  refine blk (sq2 (rg (pv (r_ib rfl rfl rfl) (pv (r_zb rfl) (nil (t_then ?_))))))
  refine cnd rfl (fun hb1 => ?_) (fun hb1 => ?_)
  · have hm := ctrue hb1 hm
    refine sq2 ?_
    obtain ⟨y1, hx1, hm⟩ := bindS hm
    refine rg (pv (r_mi rfl) (pv (r_mi rfl) (wl rfl (calS cf18 rfl (word_Add_sim (p0 := p1) (p1 := p2) (hS.bun [0] [] rfl)  hx1) rfl fun v1 T1 w1 im1 rv1 => ?_))))
    obtain ⟨rfl, hS1, _⟩ := rv1
    have hS1 : Sep g T1 w1 [R] := hS1.unb
    refine pv (r_zi rfl) (pv (r_zi rfl) (nil (t_then ?_)))
    have hm := oI hm; subst hm
    exact rtn (r_blk (r_then (retN (vs := [.int .u32 y1, .int .i64 0]) rfl ⟨rfl, rfl, trivial⟩ rfl ⟨_, rfl, _, im1, ⟨rfl, hS1.sel [0] rfl, trivial⟩⟩)))
  have hm := cfalse hb1 hm
  refine sq2 (rg (pv (r_ib rfl rfl rfl) (pv (r_zb rfl) (nil (t_then ?_)))))
  refine cnd rfl (fun hb2 => ?_) (fun hb2 => ?_)
  · have hm := ctrue hb2 hm
    refine sq2 ?_
    obtain ⟨y2, hx2, hm⟩ := bindS hm
    refine rg (pv (r_mi rfl) (pv (r_mi rfl) (wl rfl (calS cf19 rfl (word_Sub_sim (p0 := p1) (p1 := p2) (hS.bun [0] [] rfl)  hx2) rfl fun v2 T2 w2 im2 rv2 => ?_))))
    obtain ⟨rfl, hS2, _⟩ := rv2
    have hS2 : Sep g T2 w2 [R] := hS2.unb
    refine pv (r_zi rfl) (pv (r_zi rfl) (nil (t_then ?_)))
    have hm := oI hm; subst hm
    exact rtn (r_blk (r_then (retN (vs := [.int .u32 y2, .int .i64 0]) rfl ⟨rfl, rfl, trivial⟩ rfl ⟨_, rfl, _, im2, ⟨rfl, hS2.sel [0] rfl, trivial⟩⟩)))
  have hm := cfalse hb2 hm
  refine sq2 (rg (pv (r_ib rfl rfl rfl) (pv (r_zb rfl) (nil (t_then ?_)))))
  refine cnd rfl (fun hb3 => ?_) (fun hb3 => ?_)
  · have hm := ctrue hb3 hm
    refine sq2 ?_
    obtain ⟨y3, hx3, hm⟩ := bindS hm
    refine rg (pv (r_mi rfl) (pv (r_mi rfl) (wl rfl (calS cf20 rfl (word_Mul_sim (p0 := p1) (p1 := p2) (hS.bun [0] [] rfl)  hx3) rfl fun v3 T3 w3 im3 rv3 => ?_))))
    obtain ⟨rfl, hS3, _⟩ := rv3
    have hS3 : Sep g T3 w3 [R] := hS3.unb
    refine pv (r_zi rfl) (pv (r_zi rfl) (nil (t_then ?_)))
    have hm := oI hm; subst hm
    exact rtn (r_blk (r_then (retN (vs := [.int .u32 y3, .int .i64 0]) rfl ⟨rfl, rfl, trivial⟩ rfl ⟨_, rfl, _, im3, ⟨rfl, hS3.sel [0] rfl, trivial⟩⟩)))
  have hm := cfalse hb3 hm
  obtain ⟨kk1, hkk1, hm⟩ := jn_open hm
  refine cut (fun a w4 => ∃ (J : Nat → Value) (T4 : Nat → Prop) (x1 : Bool), a = env (nf 81) J [(0, .int .i64 p0), (1, .int .u32 p1), (2, .int .u32 p2), (8, .int .i64 p0), (24, .bool x1)] ∧ Im T0 w0 T4 w4 ∧ Sep g T4 w4 [R] ∧ kk1 x1 = some r) ?_ ?_
  · refine sq2 (rg (pv (r_ib rfl rfl rfl) (pv (r_zb rfl) (nil (t_then ?_)))))
    refine cnd rfl (fun hb4 => ?_) (fun hb4 => ?_)
    · have hm := ctrue hb4 hm
      exact skp (t_then ⟨_, _, (p0 == 4), env_has ⟨rfl, rfl, rfl, rfl, rfl, trivial⟩, Im.refl, hS.sel [0] rfl, hm⟩)
    have hm := cfalse hb4 hm
    exact rg (pv (r_ib rfl rfl rfl) (pv (r_zb rfl) (nil (t_then ⟨_, _, (p0 == 5), env_has ⟨rfl, rfl, rfl, rfl, rfl, trivial⟩, Im.refl, hS.sel [0] rfl, hm⟩))))
  rintro _ w4 ⟨J, T4, x1, rfl, im4, hS4, hm⟩
  rw [hkk1] at hm
  refine cnd rfl (fun hb5 => ?_) (fun hb5 => ?_)
  · have hm := ctrue hb5 hm
    refine sq2 (sq2 (rg (pv (r_mi rfl) (pv (r_ib rfl rfl rfl) (nil (t_then ?_))))))
    refine cnd rfl (fun hb6 => ?_) (fun hb6 => ?_)
    · have hm := ctrue hb6 hm
      refine sq2 (rg (pv (r_zi rfl) (pv (r_zi rfl) (nil (t_then ?_)))))
      have hm := oI hm; subst hm
      exact rtn (r_then (r_blk (r_then (retN (vs := [.int .u32 0, .int .i64 11]) rfl ⟨rfl, rfl, trivial⟩ rfl ⟨_, rfl, _, im4, ⟨rfl, hS4.sel [0] rfl, trivial⟩⟩))))
    have hm := cfalse hb6 hm
    refine skp (t_then ?_)
    refine sq2 (sq2 (rg (pv (r_mi rfl) (pv (r_ib rfl rfl rfl) (nil (t_then ?_))))))
    refine cnd rfl (fun hb7 => ?_) (fun hb7 => ?_)
    · have hm := ctrue hb7 hm
      refine sq2 ?_
      obtain ⟨y4, hx4, hm⟩ := bindS hm
      refine rg (pv (r_mi rfl) (pv (r_mi rfl) (wl rfl (calS cf21 rfl (word_Div_sim (p0 := p1) (p1 := p2) (hS4.bun [0] [] rfl)  hx4) rfl fun v4 T5 w5 im5 rv4 => ?_))))
      obtain ⟨rfl, hS5, _⟩ := rv4
      have hS5 : Sep g T5 w5 [R] := hS5.unb
      refine pv (r_zi rfl) (pv (r_zi rfl) (nil (t_then ?_)))
      have hm := oI hm; subst hm
      exact rtn (r_then (r_blk (r_then (retN (vs := [.int .u32 y4, .int .i64 0]) rfl ⟨rfl, rfl, trivial⟩ rfl ⟨_, rfl, _, (iT im4 im5), ⟨rfl, hS5.sel [0] rfl, trivial⟩⟩))))
    have hm := cfalse hb7 hm
    refine skp (t_then ?_)
    refine sq2 ?_
    obtain ⟨y5, hx5, hm⟩ := bindS hm
    refine rg (pv (r_mi rfl) (pv (r_mi rfl) (wl rfl (calS cf22 rfl (word_Rem_sim (p0 := p1) (p1 := p2) (hS4.bun [0] [] rfl)  hx5) rfl fun v5 T6 w6 im6 rv5 => ?_))))
    obtain ⟨rfl, hS6, _⟩ := rv5
    have hS6 : Sep g T6 w6 [R] := hS6.unb
    refine pv (r_zi rfl) (pv (r_zi rfl) (nil (t_then ?_)))
    have hm := oI hm; subst hm
    exact rtn (r_blk (r_then (retN (vs := [.int .u32 y5, .int .i64 0]) rfl ⟨rfl, rfl, trivial⟩ rfl ⟨_, rfl, _, (iT im4 im6), ⟨rfl, hS6.sel [0] rfl, trivial⟩⟩)))
  have hm := cfalse hb5 hm
  refine sq2 (rg (pv (r_ib rfl rfl rfl) (pv (r_zb rfl) (nil (t_then ?_)))))
  refine cnd rfl (fun hb8 => ?_) (fun hb8 => ?_)
  · have hm := ctrue hb8 hm
    refine sq2 (rg (pv (r_mi rfl) (pv (r_mi rfl) (pv (r_ib rfl rfl rfl) (pv (r_zi rfl) (pv (r_zi rfl) (nil (t_then ?_))))))))
    have hm := oI hm; subst hm
    exact rtn (r_blk (r_then (retN (vs := [.int .u32 (bits .and .u32 p1 p2), .int .i64 0]) rfl ⟨rfl, rfl, trivial⟩ rfl ⟨_, rfl, _, im4, ⟨rfl, hS4.sel [0] rfl, trivial⟩⟩)))
  have hm := cfalse hb8 hm
  refine sq2 (rg (pv (r_ib rfl rfl rfl) (pv (r_zb rfl) (nil (t_then ?_)))))
  refine cnd rfl (fun hb9 => ?_) (fun hb9 => ?_)
  · have hm := ctrue hb9 hm
    refine sq2 (rg (pv (r_mi rfl) (pv (r_mi rfl) (pv (r_ib rfl rfl rfl) (pv (r_zi rfl) (pv (r_zi rfl) (nil (t_then ?_))))))))
    have hm := oI hm; subst hm
    exact rtn (r_blk (r_then (retN (vs := [.int .u32 (bits .or .u32 p1 p2), .int .i64 0]) rfl ⟨rfl, rfl, trivial⟩ rfl ⟨_, rfl, _, im4, ⟨rfl, hS4.sel [0] rfl, trivial⟩⟩)))
  have hm := cfalse hb9 hm
  refine sq2 (rg (pv (r_ib rfl rfl rfl) (pv (r_zb rfl) (nil (t_then ?_)))))
  refine cnd rfl (fun hb10 => ?_) (fun hb10 => ?_)
  · have hm := ctrue hb10 hm
    refine sq2 (rg (pv (r_mi rfl) (pv (r_mi rfl) (pv (r_ib rfl rfl rfl) (pv (r_zi rfl) (pv (r_zi rfl) (nil (t_then ?_))))))))
    have hm := oI hm; subst hm
    exact rtn (r_blk (r_then (retN (vs := [.int .u32 (bits .xor .u32 p1 p2), .int .i64 0]) rfl ⟨rfl, rfl, trivial⟩ rfl ⟨_, rfl, _, im4, ⟨rfl, hS4.sel [0] rfl, trivial⟩⟩)))
  have hm := cfalse hb10 hm
  refine sq2 (rg (pv (r_ib rfl rfl rfl) (pv (r_zb rfl) (nil (t_then ?_)))))
  refine cnd rfl (fun hb11 => ?_) (fun hb11 => ?_)
  · have hm := ctrue hb11 hm
    refine sq2 ?_
    obtain ⟨y6, hx6, hm⟩ := bindS hm
    refine rg (pv (r_mi rfl) (pv (r_mi rfl) (wl rfl (calS cf23 rfl (word_Left_sim (p0 := p1) (p1 := p2) (hS4.bun [0] [] rfl)  hx6) rfl fun v6 T7 w7 im7 rv6 => ?_))))
    obtain ⟨rfl, hS7, _⟩ := rv6
    have hS7 : Sep g T7 w7 [R] := hS7.unb
    refine pv (r_zi rfl) (pv (r_zi rfl) (nil (t_then ?_)))
    have hm := oI hm; subst hm
    exact rtn (r_blk (r_then (retN (vs := [.int .u32 y6, .int .i64 0]) rfl ⟨rfl, rfl, trivial⟩ rfl ⟨_, rfl, _, (iT im4 im7), ⟨rfl, hS7.sel [0] rfl, trivial⟩⟩)))
  have hm := cfalse hb11 hm
  refine sq2 (rg (pv (r_ib rfl rfl rfl) (pv (r_zb rfl) (nil (t_then ?_)))))
  refine cnd rfl (fun hb12 => ?_) (fun hb12 => ?_)
  · have hm := ctrue hb12 hm
    refine sq2 ?_
    obtain ⟨y7, hx7, hm⟩ := bindS hm
    refine rg (pv (r_mi rfl) (pv (r_mi rfl) (wl rfl (calS cf24 rfl (word_RightS_sim (p0 := p1) (p1 := p2) (hS4.bun [0] [] rfl)  hx7) rfl fun v7 T8 w8 im8 rv7 => ?_))))
    obtain ⟨rfl, hS8, _⟩ := rv7
    have hS8 : Sep g T8 w8 [R] := hS8.unb
    refine pv (r_zi rfl) (pv (r_zi rfl) (nil (t_then ?_)))
    have hm := oI hm; subst hm
    exact rtn (r_blk (r_then (retN (vs := [.int .u32 y7, .int .i64 0]) rfl ⟨rfl, rfl, trivial⟩ rfl ⟨_, rfl, _, (iT im4 im8), ⟨rfl, hS8.sel [0] rfl, trivial⟩⟩)))
  have hm := cfalse hb12 hm
  refine sq2 (rg (pv (r_ib rfl rfl rfl) (pv (r_zb rfl) (nil (t_then ?_)))))
  refine cnd rfl (fun hb13 => ?_) (fun hb13 => ?_)
  · have hm := ctrue hb13 hm
    refine sq2 ?_
    obtain ⟨y8, hx8, hm⟩ := bindS hm
    refine rg (pv (r_mi rfl) (wl rfl (calS cf19 rfl (word_Sub_sim (p0 := 0) (p1 := p1) (hS4.bun [0] [] rfl)  hx8) rfl fun v8 T9 w9 im9 rv8 => ?_)))
    obtain ⟨rfl, hS9, _⟩ := rv8
    have hS9 : Sep g T9 w9 [R] := hS9.unb
    refine pv (r_zi rfl) (pv (r_zi rfl) (nil (t_then ?_)))
    have hm := oI hm; subst hm
    exact rtn (r_blk (r_then (retN (vs := [.int .u32 y8, .int .i64 0]) rfl ⟨rfl, rfl, trivial⟩ rfl ⟨_, rfl, _, (iT im4 im9), ⟨rfl, hS9.sel [0] rfl, trivial⟩⟩)))
  have hm := cfalse hb13 hm
  refine sq2 (rg (pv (r_ib rfl rfl rfl) (pv (r_zb rfl) (nil (t_then ?_)))))
  refine cnd rfl (fun hb14 => ?_) (fun hb14 => ?_)
  · have hm := ctrue hb14 hm
    refine sq2 (rg (pv (r_mi rfl) (pv (r_cm rfl) (pv (r_zi rfl) (pv (r_zi rfl) (nil (t_then ?_)))))))
    have hm := oI hm; subst hm
    exact rtn (r_blk (r_then (retN (vs := [.int .u32 (bits .xor .u32 (if IntKind.signed .u32 then -1 else IntKind.max .u32) p1), .int .i64 0]) rfl ⟨rfl, rfl, trivial⟩ rfl ⟨_, rfl, _, im4, ⟨rfl, hS4.sel [0] rfl, trivial⟩⟩)))
  have hm := cfalse hb14 hm
  refine sq2 (rg (pv (r_ib rfl rfl rfl) (pv (r_zb rfl) (nil (t_then ?_)))))
  refine cnd rfl (fun hb15 => ?_) (fun hb15 => ?_)
  · have hm := ctrue hb15 hm
    refine sq2 ?_
    obtain ⟨y9, hx9, hm⟩ := bindS hm
    refine rg (pv (r_mi rfl) (pv (r_ib rfl rfl rfl) (wl rfl (calS cf25 rfl (check_bit_sim (p0 := p1 == 0) (hS4.bun [0] [] rfl)  hx9) rfl fun v9 T10 w10 im10 rv9 => ?_))))
    obtain ⟨rfl, hS10, _⟩ := rv9
    have hS10 : Sep g T10 w10 [R] := hS10.unb
    refine pv (r_zi rfl) (pv (r_zi rfl) (nil (t_then ?_)))
    have hm := oI hm; subst hm
    exact rtn (r_blk (r_then (retN (vs := [.int .u32 y9, .int .i64 0]) rfl ⟨rfl, rfl, trivial⟩ rfl ⟨_, rfl, _, (iT im4 im10), ⟨rfl, hS10.sel [0] rfl, trivial⟩⟩)))
  have hm := cfalse hb15 hm
  refine skp (t_blk (t_then ?_))
  refine sq2 ?_
  obtain ⟨y10, hx10, hm⟩ := bindS hm
  refine rg (pv (r_mi rfl) (pv (r_mi rfl) (pv (r_mi rfl) (wl rfl (calS cf26 rfl (check_compare_sim (p0 := p0) (p1 := p1) (p2 := p2) (hS4.bun [0] [] rfl)  hx10) rfl fun v10 T11 w11 im11 rv10 => ?_)))))
  obtain ⟨rfl, hS11, _⟩ := rv10
  have hS11 : Sep g T11 w11 [R] := hS11.unb
  refine pv (r_ex (v := .int .u32 y10.1) rfl rfl) (pv (r_ex (v := .int .i64 y10.2) rfl rfl) (pv (r_zi rfl) (pv (r_zi rfl) (nil (t_thenR [(6, .int .u32 y10.1), (7, .int .i64 y10.2)] ⟨rfl, rfl, trivial⟩ fun J => ?_)))))
  have hm := oI hm; subst hm
  exact rtn (retN (vs := [.int .u32 y10.1, .int .i64 y10.2]) rfl ⟨rfl, rfl, trivial⟩ rfl ⟨_, rfl, _, (iT im4 im11), ⟨rfl, hS11.sel [0] rfl, trivial⟩⟩)

set_option maxRecDepth 100000 in
set_option maxHeartbeats 1000000 in
theorem ref01_Signed_sim {g : World} {T0 : Nat → Prop} {w0 : World} {R : Assn} {p0 : Int} {r : Int} (hS : Sep g T0 w0 [R])  (hm : ref01_Signed p0 = some r) :
    Calls Tryz.prog 27 #[.int .u32 p0] w0 (RetS T0 w0 fun T w v => v = .int .i64 r ∧ Sep g T w [R] ∧ True) := by
  refine enter (args := [.int .u32 p0]) Tryz.func27 rfl Tryz.ntmps27 rfl fun J => ?_
  unfold ref01_Signed at hm
  refine sq2 (rg (pv (r_zi rfl) (nil (t_then ?_))))
  refine sq2 (sq2 (rg (pv (r_mi rfl) (pv (r_ib rfl rfl rfl) (nil (t_then ?_))))))
  refine cnd rfl (fun hb1 => ?_) (fun hb1 => ?_)
  · have hm := ctrue hb1 hm
    refine sq2 (rg (pv (r_mi rfl) (pv (r_cv rfl Tryz.underlying22 Tryz.underlying3) (pv (r_ib rfl rfl rfl) (pv (r_zi rfl) (nil (t_then ?_)))))))
    have hm := oI hm; subst hm
    exact rtn (r_then (ret1 rfl rfl ⟨_, rfl, _, Im.refl, ⟨rfl, hS.sel [0] rfl, trivial⟩⟩))
  have hm := cfalse hb1 hm
  refine skp (t_then ?_)
  refine sq2 (rg (pv (r_mi rfl) (pv (r_cv rfl Tryz.underlying22 Tryz.underlying3) (pv (r_zi rfl) (nil (t_then ?_))))))
  have hm := oI hm; subst hm
  exact rtn (ret1 rfl rfl ⟨_, rfl, _, Im.refl, ⟨rfl, hS.sel [0] rfl, trivial⟩⟩)

set_option maxRecDepth 100000 in
set_option maxHeartbeats 1000000 in
theorem ref01_Cut_sim {g : World} {T0 : Nat → Prop} {w0 : World} {R : Assn} {p0 : Int} {r : Int} (hS : Sep g T0 w0 [R])  (hm : ref01_Cut p0 = some r) :
    Calls Tryz.prog 57 #[.int .i64 p0] w0 (RetS T0 w0 fun T w v => v = .int .u32 r ∧ Sep g T w [R] ∧ True) := by
  refine enter (args := [.int .i64 p0]) Tryz.func57 rfl Tryz.ntmps57 rfl fun J => ?_
  unfold ref01_Cut at hm
  refine sq2 (rg (pv (r_zi rfl) (nil (t_then ?_))))
  refine sq2 (rg (pv (r_mi rfl) (pv (r_irm rfl rfl (by decide)) (pv (r_zi rfl) (nil (t_then ?_))))))
  obtain ⟨kk1, hkk1, hm⟩ := jn_open hm
  refine cut (fun a w1 => ∃ (J : Nat → Value) (T1 : Nat → Prop) (x1 : Int), a = env (nf 12) J [(3, .int .i64 x1)] ∧ Im T0 w0 T1 w1 ∧ Sep g T1 w1 [R] ∧ kk1 x1 = some r) ?_ ?_
  · refine sq2 (rg (pv (r_mi rfl) (pv (r_ib rfl rfl rfl) (nil (t_then ?_)))))
    refine cnd rfl (fun hb1 => ?_) (fun hb1 => ?_)
    · have hm := ctrue hb1 hm
      exact rg (pv (r_mi rfl) (pv (r_ib rfl rfl rfl) (pv (r_zi rfl) (nil (t_then ⟨_, _, (IntKind.wrap .i64 ((Int.tmod p0 4294967296) + 4294967296)), env_has ⟨rfl, trivial⟩, Im.refl, hS.sel [0] rfl, hm⟩)))))
    have hm := cfalse hb1 hm
    exact skp (t_then ⟨_, _, (Int.tmod p0 4294967296), env_has ⟨rfl, trivial⟩, Im.refl, hS.sel [0] rfl, hm⟩)
  rintro _ w1 ⟨J, T1, x1, rfl, im1, hS1, hm⟩
  rw [hkk1] at hm
  refine sq2 (rg (pv (r_mi rfl) (pv (r_cv rfl Tryz.underlying3 Tryz.underlying22) (pv (r_zi rfl) (nil (t_then ?_))))))
  have hm := oI hm; subst hm
  exact rtn (ret1 rfl rfl ⟨_, rfl, _, im1, ⟨rfl, hS1.sel [0] rfl, trivial⟩⟩)

set_option maxRecDepth 100000 in
set_option maxHeartbeats 1000000 in
theorem ref01_Add_sim {g : World} {T0 : Nat → Prop} {w0 : World} {R : Assn} {p0 : Int} {p1 : Int} {r : Int} (hS : Sep g T0 w0 [R])  (hm : ref01_Add p0 p1 = some r) :
    Calls Tryz.prog 28 #[.int .u32 p0, .int .u32 p1] w0 (RetS T0 w0 fun T w v => v = .int .u32 r ∧ Sep g T w [R] ∧ True) := by
  refine enter (args := [.int .u32 p0, .int .u32 p1]) Tryz.func28 rfl Tryz.ntmps28 rfl fun J => ?_
  unfold ref01_Add at hm
  refine sq2 (rg (pv (r_zi rfl) (nil (t_then ?_))))
  refine sq2 ?_
  obtain ⟨y1, hx1, hm⟩ := bindS hm
  refine rg (pv (r_mi rfl) (pv (r_cv rfl Tryz.underlying22 Tryz.underlying3) (pv (r_mi rfl) (pv (r_cv rfl Tryz.underlying22 Tryz.underlying3) (pv (r_ib rfl rfl rfl) (wl rfl (calS cf57 rfl (ref01_Cut_sim (p0 := IntKind.wrap .i64 ((IntKind.wrap .i64 p0) + (IntKind.wrap .i64 p1))) (hS.bun [0] [] rfl)  hx1) rfl fun v1 T1 w1 im1 rv1 => ?_)))))))
  obtain ⟨rfl, hS1, _⟩ := rv1
  have hS1 : Sep g T1 w1 [R] := hS1.unb
  refine pv (r_zi rfl) (nil (t_then ?_))
  have hm := oI hm; subst hm
  exact rtn (ret1 rfl rfl ⟨_, rfl, _, im1, ⟨rfl, hS1.sel [0] rfl, trivial⟩⟩)

set_option maxRecDepth 100000 in
set_option maxHeartbeats 1000000 in
theorem ref01_Sub_sim {g : World} {T0 : Nat → Prop} {w0 : World} {R : Assn} {p0 : Int} {p1 : Int} {r : Int} (hS : Sep g T0 w0 [R])  (hm : ref01_Sub p0 p1 = some r) :
    Calls Tryz.prog 29 #[.int .u32 p0, .int .u32 p1] w0 (RetS T0 w0 fun T w v => v = .int .u32 r ∧ Sep g T w [R] ∧ True) := by
  refine enter (args := [.int .u32 p0, .int .u32 p1]) Tryz.func29 rfl Tryz.ntmps29 rfl fun J => ?_
  unfold ref01_Sub at hm
  refine sq2 (rg (pv (r_zi rfl) (nil (t_then ?_))))
  refine sq2 ?_
  obtain ⟨y1, hx1, hm⟩ := bindS hm
  refine rg (pv (r_mi rfl) (pv (r_cv rfl Tryz.underlying22 Tryz.underlying3) (pv (r_mi rfl) (pv (r_cv rfl Tryz.underlying22 Tryz.underlying3) (pv (r_ib rfl rfl rfl) (wl rfl (calS cf57 rfl (ref01_Cut_sim (p0 := IntKind.wrap .i64 ((IntKind.wrap .i64 p0) - (IntKind.wrap .i64 p1))) (hS.bun [0] [] rfl)  hx1) rfl fun v1 T1 w1 im1 rv1 => ?_)))))))
  obtain ⟨rfl, hS1, _⟩ := rv1
  have hS1 : Sep g T1 w1 [R] := hS1.unb
  refine pv (r_zi rfl) (nil (t_then ?_))
  have hm := oI hm; subst hm
  exact rtn (ret1 rfl rfl ⟨_, rfl, _, im1, ⟨rfl, hS1.sel [0] rfl, trivial⟩⟩)

set_option maxRecDepth 100000 in
set_option maxHeartbeats 1000000 in
theorem ref01_half_sim {g : World} {T0 : Nat → Prop} {w0 : World} {R : Assn} {p0 : Int} {p1 : Int} {r : Int × Int} (hS : Sep g T0 w0 [R])  (hm : ref01_half p0 p1 = some r) :
    Calls Tryz.prog 58 #[.int .u32 p0, .int .u32 p1] w0 (RetS T0 w0 fun T w v => v = .tuple #[.int .u32 r.1, .int .u32 r.2] ∧ Sep g T w [R] ∧ True) := by
  refine enter (args := [.int .u32 p0, .int .u32 p1]) Tryz.func58 rfl Tryz.ntmps58 rfl fun J => ?_
  unfold ref01_half at hm
  refine sq2 (rg (pv (r_zi rfl) (pv (r_zi rfl) (nil (t_then ?_)))))
  refine sq2 (rg (pv (r_mi rfl) (pv (r_cv rfl Tryz.underlying22 Tryz.underlying3) (pv (r_irm rfl rfl (by decide)) (pv (r_mi rfl) (pv (r_cv rfl Tryz.underlying22 Tryz.underlying3) (pv (r_iq rfl rfl (by decide)) (pv (r_zi rfl) (pv (r_zi rfl) (nil (t_then ?_)))))))))))
  refine sq2 (rg (pv (r_mi rfl) (pv (r_cv rfl Tryz.underlying22 Tryz.underlying3) (pv (r_irm rfl rfl (by decide)) (pv (r_mi rfl) (pv (r_cv rfl Tryz.underlying22 Tryz.underlying3) (pv (r_iq rfl rfl (by decide)) (pv (r_zi rfl) (pv (r_zi rfl) (nil (t_then ?_)))))))))))
  refine sq2 (rg (pv (r_mi rfl) (pv (r_mi rfl) (pv (r_ib rfl rfl rfl) (pv (r_zi rfl) (nil (t_then ?_)))))))
  refine sq2 (rg (pv (r_mi rfl) (pv (r_mi rfl) (pv (r_ib rfl rfl rfl) (pv (r_mi rfl) (pv (r_iq rfl rfl (by decide)) (pv (r_ib rfl rfl rfl) (pv (r_zi rfl) (nil (t_thenR [(6, .int .i64 (Int.tmod (IntKind.wrap .i64 p0) 65536)), (7, .int .i64 (IntKind.wrap .i64 (Int.tdiv (IntKind.wrap .i64 p0) 65536))), (9, .int .i64 (IntKind.wrap .i64 (Int.tdiv (IntKind.wrap .i64 p1) 65536))), (10, .int .i64 (IntKind.wrap .i64 ((Int.tmod (IntKind.wrap .i64 p0) 65536) * (Int.tmod (IntKind.wrap .i64 p1) 65536)))), (11, .int .i64 (IntKind.wrap .i64 ((IntKind.wrap .i64 ((IntKind.wrap .i64 (Int.tdiv (IntKind.wrap .i64 p0) 65536)) * (Int.tmod (IntKind.wrap .i64 p1) 65536))) + (IntKind.wrap .i64 (Int.tdiv (IntKind.wrap .i64 ((Int.tmod (IntKind.wrap .i64 p0) 65536) * (Int.tmod (IntKind.wrap .i64 p1) 65536))) 65536)))))] ⟨rfl, rfl, rfl, rfl, rfl, trivial⟩ fun J => ?_))))))))))
  refine sq2 (rg (pv (r_mi rfl) (pv (r_mi rfl) (pv (r_ib rfl rfl rfl) (pv (r_mi rfl) (pv (r_irm rfl rfl (by decide)) (pv (r_ib rfl rfl rfl) (pv (r_zi rfl) (nil (t_then ?_))))))))))
  refine sq2 (rg (pv (r_mi rfl) (pv (r_mi rfl) (pv (r_ib rfl rfl rfl) (pv (r_mi rfl) (pv (r_iq rfl rfl (by decide)) (pv (r_ib rfl rfl rfl) (pv (r_mi rfl) (pv (r_iq rfl rfl (by decide)) (pv (r_ib rfl rfl rfl) (pv (r_cv rfl Tryz.underlying3 Tryz.underlying22) (pv (r_mi rfl) (pv (r_irm rfl rfl (by decide)) (pv (r_ib rfl rfl rfl) (pv (r_mi rfl) (pv (r_irm rfl rfl (by decide)) (pv (r_ib rfl rfl rfl) (pv (r_cv rfl Tryz.underlying3 Tryz.underlying22) (pv (r_zi rfl) (pv (r_zi rfl) (nil (t_thenR [(4, .int .u32 (IntKind.wrap .u32 (IntKind.wrap .i64 ((IntKind.wrap .i64 ((IntKind.wrap .i64 ((IntKind.wrap .i64 (Int.tdiv (IntKind.wrap .i64 p0) 65536)) * (IntKind.wrap .i64 (Int.tdiv (IntKind.wrap .i64 p1) 65536)))) + (IntKind.wrap .i64 (Int.tdiv (IntKind.wrap .i64 ((IntKind.wrap .i64 ((IntKind.wrap .i64 (Int.tdiv (IntKind.wrap .i64 p0) 65536)) * (Int.tmod (IntKind.wrap .i64 p1) 65536))) + (IntKind.wrap .i64 (Int.tdiv (IntKind.wrap .i64 ((Int.tmod (IntKind.wrap .i64 p0) 65536) * (Int.tmod (IntKind.wrap .i64 p1) 65536))) 65536)))) 65536)))) + (IntKind.wrap .i64 (Int.tdiv (IntKind.wrap .i64 ((IntKind.wrap .i64 ((Int.tmod (IntKind.wrap .i64 p0) 65536) * (IntKind.wrap .i64 (Int.tdiv (IntKind.wrap .i64 p1) 65536)))) + (Int.tmod (IntKind.wrap .i64 ((IntKind.wrap .i64 ((IntKind.wrap .i64 (Int.tdiv (IntKind.wrap .i64 p0) 65536)) * (Int.tmod (IntKind.wrap .i64 p1) 65536))) + (IntKind.wrap .i64 (Int.tdiv (IntKind.wrap .i64 ((Int.tmod (IntKind.wrap .i64 p0) 65536) * (Int.tmod (IntKind.wrap .i64 p1) 65536))) 65536)))) 65536))) 65536)))))), (5, .int .u32 (IntKind.wrap .u32 (IntKind.wrap .i64 ((IntKind.wrap .i64 ((Int.tmod (IntKind.wrap .i64 ((IntKind.wrap .i64 ((Int.tmod (IntKind.wrap .i64 p0) 65536) * (IntKind.wrap .i64 (Int.tdiv (IntKind.wrap .i64 p1) 65536)))) + (Int.tmod (IntKind.wrap .i64 ((IntKind.wrap .i64 ((IntKind.wrap .i64 (Int.tdiv (IntKind.wrap .i64 p0) 65536)) * (Int.tmod (IntKind.wrap .i64 p1) 65536))) + (IntKind.wrap .i64 (Int.tdiv (IntKind.wrap .i64 ((Int.tmod (IntKind.wrap .i64 p0) 65536) * (Int.tmod (IntKind.wrap .i64 p1) 65536))) 65536)))) 65536))) 65536) * 65536)) + (Int.tmod (IntKind.wrap .i64 ((Int.tmod (IntKind.wrap .i64 p0) 65536) * (Int.tmod (IntKind.wrap .i64 p1) 65536))) 65536)))))] ⟨rfl, rfl, trivial⟩ fun J => ?_))))))))))))))))))))))
  have hm := oI hm; subst hm
  exact rtn (retN (vs := [.int .u32 (IntKind.wrap .u32 (IntKind.wrap .i64 ((IntKind.wrap .i64 ((IntKind.wrap .i64 ((IntKind.wrap .i64 (Int.tdiv (IntKind.wrap .i64 p0) 65536)) * (IntKind.wrap .i64 (Int.tdiv (IntKind.wrap .i64 p1) 65536)))) + (IntKind.wrap .i64 (Int.tdiv (IntKind.wrap .i64 ((IntKind.wrap .i64 ((IntKind.wrap .i64 (Int.tdiv (IntKind.wrap .i64 p0) 65536)) * (Int.tmod (IntKind.wrap .i64 p1) 65536))) + (IntKind.wrap .i64 (Int.tdiv (IntKind.wrap .i64 ((Int.tmod (IntKind.wrap .i64 p0) 65536) * (Int.tmod (IntKind.wrap .i64 p1) 65536))) 65536)))) 65536)))) + (IntKind.wrap .i64 (Int.tdiv (IntKind.wrap .i64 ((IntKind.wrap .i64 ((Int.tmod (IntKind.wrap .i64 p0) 65536) * (IntKind.wrap .i64 (Int.tdiv (IntKind.wrap .i64 p1) 65536)))) + (Int.tmod (IntKind.wrap .i64 ((IntKind.wrap .i64 ((IntKind.wrap .i64 (Int.tdiv (IntKind.wrap .i64 p0) 65536)) * (Int.tmod (IntKind.wrap .i64 p1) 65536))) + (IntKind.wrap .i64 (Int.tdiv (IntKind.wrap .i64 ((Int.tmod (IntKind.wrap .i64 p0) 65536) * (Int.tmod (IntKind.wrap .i64 p1) 65536))) 65536)))) 65536))) 65536))))), .int .u32 (IntKind.wrap .u32 (IntKind.wrap .i64 ((IntKind.wrap .i64 ((Int.tmod (IntKind.wrap .i64 ((IntKind.wrap .i64 ((Int.tmod (IntKind.wrap .i64 p0) 65536) * (IntKind.wrap .i64 (Int.tdiv (IntKind.wrap .i64 p1) 65536)))) + (Int.tmod (IntKind.wrap .i64 ((IntKind.wrap .i64 ((IntKind.wrap .i64 (Int.tdiv (IntKind.wrap .i64 p0) 65536)) * (Int.tmod (IntKind.wrap .i64 p1) 65536))) + (IntKind.wrap .i64 (Int.tdiv (IntKind.wrap .i64 ((Int.tmod (IntKind.wrap .i64 p0) 65536) * (Int.tmod (IntKind.wrap .i64 p1) 65536))) 65536)))) 65536))) 65536) * 65536)) + (Int.tmod (IntKind.wrap .i64 ((Int.tmod (IntKind.wrap .i64 p0) 65536) * (Int.tmod (IntKind.wrap .i64 p1) 65536))) 65536))))]) rfl ⟨rfl, rfl, trivial⟩ rfl ⟨_, rfl, _, Im.refl, ⟨rfl, hS.sel [0] rfl, trivial⟩⟩)

set_option maxRecDepth 100000 in
set_option maxHeartbeats 1000000 in
theorem ref01_Mul_sim {g : World} {T0 : Nat → Prop} {w0 : World} {R : Assn} {p0 : Int} {p1 : Int} {r : Int} (hS : Sep g T0 w0 [R])  (hm : ref01_Mul p0 p1 = some r) :
    Calls Tryz.prog 30 #[.int .u32 p0, .int .u32 p1] w0 (RetS T0 w0 fun T w v => v = .int .u32 r ∧ Sep g T w [R] ∧ True) := by
  refine enter (args := [.int .u32 p0, .int .u32 p1]) Tryz.func30 rfl Tryz.ntmps30 rfl fun J => ?_
  unfold ref01_Mul at hm
  refine sq2 (rg (pv (r_zi rfl) (nil (t_then ?_))))
  refine sq2 ?_
  obtain ⟨y1, hx1, hm⟩ := bindS hm
  refine rg (pv (r_mi rfl) (pv (r_mi rfl) (wl rfl (calS cf58 rfl (ref01_half_sim (p0 := p0) (p1 := p1) (hS.bun [0] [] rfl)  hx1) rfl fun v1 T1 w1 im1 rv1 => ?_))))
  obtain ⟨rfl, hS1, _⟩ := rv1
  have hS1 : Sep g T1 w1 [R] := hS1.unb
  refine pv (r_mv rfl) (pv (r_ex (v := .int .u32 y1.1) rfl rfl) (pv (r_ex (v := .int .u32 y1.2) rfl rfl) (pv (r_zi rfl) (pv (r_zi rfl) (nil (t_then ?_))))))
  refine sq2 (rg (pv (r_mi rfl) (pv (r_zi rfl) (nil (t_then ?_)))))
  have hm := oI hm; subst hm
  exact rtn (ret1 rfl rfl ⟨_, rfl, _, im1, ⟨rfl, hS1.sel [0] rfl, trivial⟩⟩)

set_option maxRecDepth 100000 in
set_option maxHeartbeats 1000000 in
theorem ref01_abs_sim {g : World} {T0 : Nat → Prop} {w0 : World} {R : Assn} {p0 : Int} {r : Int} (hS : Sep g T0 w0 [R])  (hm : ref01_abs p0 = some r) :
    Calls Tryz.prog 59 #[.int .i64 p0] w0 (RetS T0 w0 fun T w v => v = .int .i64 r ∧ Sep g T w [R] ∧ True) := by
  refine enter (args := [.int .i64 p0]) Tryz.func59 rfl Tryz.ntmps59 rfl fun J => ?_
  unfold ref01_abs at hm
  refine sq2 (rg (pv (r_zi rfl) (nil (t_then ?_))))
  refine sq2 (sq2 (rg (pv (r_mi rfl) (pv (r_ib rfl rfl rfl) (nil (t_then ?_))))))
  refine cnd rfl (fun hb1 => ?_) (fun hb1 => ?_)
  · have hm := ctrue hb1 hm
    refine sq2 (rg (pv (r_mi rfl) (pv (r_ng rfl) (pv (r_zi rfl) (nil (t_then ?_))))))
    have hm := oI hm; subst hm
    exact rtn (r_then (ret1 rfl rfl ⟨_, rfl, _, Im.refl, ⟨rfl, hS.sel [0] rfl, trivial⟩⟩))
  have hm := cfalse hb1 hm
  refine skp (t_then ?_)
  refine sq2 (rg (pv (r_mi rfl) (pv (r_zi rfl) (nil (t_then ?_)))))
  have hm := oI hm; subst hm
  exact rtn (ret1 rfl rfl ⟨_, rfl, _, Im.refl, ⟨rfl, hS.sel [0] rfl, trivial⟩⟩)

set_option maxRecDepth 100000 in
set_option maxHeartbeats 1000000 in
theorem ref01_Div_sim {g : World} {T0 : Nat → Prop} {w0 : World} {R : Assn} {p0 : Int} {p1 : Int} {r : Int} (hS : Sep g T0 w0 [R])  (hm : ref01_Div p0 p1 = some r) :
    Calls Tryz.prog 31 #[.int .u32 p0, .int .u32 p1] w0 (RetS T0 w0 fun T w v => v = .int .u32 r ∧ Sep g T w [R] ∧ True) := by
  refine enter (args := [.int .u32 p0, .int .u32 p1]) Tryz.func31 rfl Tryz.ntmps31 rfl fun J => ?_
  unfold ref01_Div at hm
  refine sq2 (rg (pv (r_zi rfl) (nil (t_then ?_))))
  refine sq2 ?_
  obtain ⟨y1, hx1, hm⟩ := bindS hm
  refine rg (pv (r_mi rfl) (wl rfl (calS cf27 rfl (ref01_Signed_sim (p0 := p0) (hS.bun [0] [] rfl)  hx1) rfl fun v1 T1 w1 im1 rv1 => ?_)))
  obtain ⟨rfl, hS1, _⟩ := rv1
  have hS1 : Sep g T1 w1 [R] := hS1.unb
  obtain ⟨y2, hx2, hm⟩ := bindS hm
  refine pv (r_mi rfl) (wl rfl (calS cf27 rfl (ref01_Signed_sim (p0 := p1) (hS1.bun [0] [] rfl)  hx2) rfl fun v2 T2 w2 im2 rv2 => ?_))
  obtain ⟨rfl, hS2, _⟩ := rv2
  have hS2 : Sep g T2 w2 [R] := hS2.unb
  refine pv (r_zi rfl) (pv (r_zi rfl) (nil (t_then ?_)))
  refine sq2 (sq2 (rg (pv (r_mi rfl) (pv (r_ib rfl rfl rfl) (nil (t_then ?_))))))
  refine cnd rfl (fun hb1 => ?_) (fun hb1 => ?_)
  · have hm := ctrue hb1 hm
    refine sq2 (rg (pv (r_zi rfl) (nil (t_then ?_))))
    have hm := oI hm; subst hm
    exact rtn (r_then (ret1 rfl rfl ⟨_, rfl, _, (iT im1 im2), ⟨rfl, hS2.sel [0] rfl, trivial⟩⟩))
  have hm := cfalse hb1 hm
  refine skp (t_then ?_)
  refine sq2 ?_
  obtain ⟨y3, hx3, hm⟩ := bindS hm
  refine rg (pv (r_mi rfl) (wl rfl (calS cf59 rfl (ref01_abs_sim (p0 := y1) (hS2.bun [0] [] rfl)  hx3) rfl fun v3 T3 w3 im3 rv3 => ?_)))
  obtain ⟨rfl, hS3, _⟩ := rv3
  have hS3 : Sep g T3 w3 [R] := hS3.unb
  obtain ⟨y4, hx4, hm⟩ := bindS hm
  refine pv (r_mi rfl) (wl rfl (calS cf59 rfl (ref01_abs_sim (p0 := y2) (hS3.bun [0] [] rfl)  hx4) rfl fun v4 T4 w4 im4 rv4 => ?_))
  obtain ⟨rfl, hS4, _⟩ := rv4
  have hS4 : Sep g T4 w4 [R] := hS4.unb
  obtain ⟨_, hz1, hm⟩ := bindS hm
  have hz1 := nz_some hz1
  refine pv (r_iq rfl rfl hz1) (pv (r_zi rfl) (nil (t_then ?_)))
  obtain ⟨kk1, hkk1, hm⟩ := jn_open hm
  refine cut (fun a w5 => ∃ (J : Nat → Value) (T5 : Nat → Prop) (x1 : Int), a = env (nf 37) J [(7, .int .i64 x1)] ∧ Im T4 w4 T5 w5 ∧ Sep g T5 w5 [R] ∧ kk1 x1 = some r) ?_ ?_
  · refine sq2 (rg (pv (r_mi rfl) (pv (r_ib rfl rfl rfl) (pv (r_mb rfl) (?_)))))
    rcases Bool.eq_false_or_eq_true (decide (y1 < 0)) with hb2 | hb2
    · have hm := ctrue hb2 hm
      refine gT (d0 := 21) rfl rfl hb2 (pv (r_mi rfl) (gT (d0 := 21) rfl rfl hb2 (pv (r_ib rfl rfl rfl) (pv (r_pkt rfl hb2 rfl) (pv (r_mb rfl) (?_))))))
      rcases Bool.eq_false_or_eq_true (decide (0 < y2)) with hb3 | hb3
      · have hm := ctrue hb3 hm
        refine gF (d0 := 25) rfl rfl (by rw [hb3]; rfl) (gF (d0 := 25) rfl rfl (by rw [hb3]; rfl) (gF (d0 := 25) rfl rfl (by rw [hb3]; rfl) (gU (d0 := 28) rfl rfl (gU (d0 := 28) rfl rfl (gF (d0 := 25) rfl rfl (by rw [hb3]; rfl) (pv (r_pkt rfl hb3 rfl) (nil (t_thenR [(7, .int .i64 (IntKind.wrap .i64 (Int.tdiv y3 y4))), (32, .bool true)] ⟨rfl, rfl, trivial⟩ fun J => ?_))))))))
        refine cnd (b := true) rfl (fun _ => ?_) (fun h => nomatch h)
        exact rg (pv (r_mi rfl) (pv (r_ng rfl) (pv (r_zi rfl) (nil (t_then ⟨_, _, (IntKind.wrap .i64 (0 - (IntKind.wrap .i64 (Int.tdiv y3 y4)))), env_has ⟨rfl, trivial⟩, Im.refl, hS4.sel [0] rfl, hm⟩)))))
      have hm := cfalse hb3 hm
      refine gT (d0 := 25) rfl rfl hb3 (pv (r_mi rfl) (gT (d0 := 25) rfl rfl hb3 (pv (r_ib rfl rfl rfl) (gT (d0 := 25) rfl rfl hb3 (pv (r_mb rfl) (?_))))))
      rcases Bool.eq_false_or_eq_true (decide (0 < y1)) with hb4 | hb4
      · have hm := ctrue hb4 hm
        refine gT (d0 := 28) rfl rfl hb4 (pv (r_mi rfl) (gT (d0 := 28) rfl rfl hb4 (pv (r_ib rfl rfl rfl) (gT (d0 := 25) rfl rfl hb3 (pv (r_pkt rfl hb4 rfl) (pv (r_pkf rfl hb3 rfl) (nil (t_thenR [(7, .int .i64 (IntKind.wrap .i64 (Int.tdiv y3 y4))), (32, .bool (decide (y2 < 0)))] ⟨rfl, rfl, trivial⟩ fun J => ?_))))))))
        refine cnd rfl (fun hb5 => ?_) (fun hb5 => ?_)
        · have hm := ctrue hb5 hm
          exact rg (pv (r_mi rfl) (pv (r_ng rfl) (pv (r_zi rfl) (nil (t_then ⟨_, _, (IntKind.wrap .i64 (0 - (IntKind.wrap .i64 (Int.tdiv y3 y4)))), env_has ⟨rfl, trivial⟩, Im.refl, hS4.sel [0] rfl, hm⟩)))))
        have hm := cfalse hb5 hm
        exact skp (t_then ⟨_, _, (IntKind.wrap .i64 (Int.tdiv y3 y4)), env_has ⟨rfl, trivial⟩, Im.refl, hS4.sel [0] rfl, hm⟩)
      have hm := cfalse hb4 hm
      refine gF (d0 := 28) rfl rfl (by rw [hb4]; rfl) (gF (d0 := 28) rfl rfl (by rw [hb4]; rfl) (gT (d0 := 25) rfl rfl hb3 (pv (r_pkf rfl hb4 rfl) (pv (r_pkf rfl hb3 rfl) (nil (t_thenR [(7, .int .i64 (IntKind.wrap .i64 (Int.tdiv y3 y4))), (32, .bool false)] ⟨rfl, rfl, trivial⟩ fun J => ?_))))))
      refine cnd (b := false) rfl (fun h => nomatch h) (fun _ => ?_)
      exact skp (t_then ⟨_, _, (IntKind.wrap .i64 (Int.tdiv y3 y4)), env_has ⟨rfl, trivial⟩, Im.refl, hS4.sel [0] rfl, hm⟩)
    have hm := cfalse hb2 hm
    refine gF (d0 := 21) rfl rfl (by rw [hb2]; rfl) (gF (d0 := 21) rfl rfl (by rw [hb2]; rfl) (pv (r_pkf rfl hb2 rfl) (pv (r_mb rfl) (gT (d0 := 25) rfl rfl rfl (pv (r_mi rfl) (gT (d0 := 25) rfl rfl rfl (pv (r_ib rfl rfl rfl) (gT (d0 := 25) rfl rfl rfl (pv (r_mb rfl) (?_))))))))))
    rcases Bool.eq_false_or_eq_true (decide (0 < y1)) with hb8 | hb8
    · have hm := ctrue hb8 hm
      refine gT (d0 := 28) rfl rfl hb8 (pv (r_mi rfl) (gT (d0 := 28) rfl rfl hb8 (pv (r_ib rfl rfl rfl) (gT (d0 := 25) rfl rfl rfl (pv (r_pkt rfl hb8 rfl) (pv (r_pkf rfl rfl rfl) (nil (t_thenR [(7, .int .i64 (IntKind.wrap .i64 (Int.tdiv y3 y4))), (32, .bool (decide (y2 < 0)))] ⟨rfl, rfl, trivial⟩ fun J => ?_))))))))
      refine cnd rfl (fun hb9 => ?_) (fun hb9 => ?_)
      · have hm := ctrue hb9 hm
        exact rg (pv (r_mi rfl) (pv (r_ng rfl) (pv (r_zi rfl) (nil (t_then ⟨_, _, (IntKind.wrap .i64 (0 - (IntKind.wrap .i64 (Int.tdiv y3 y4)))), env_has ⟨rfl, trivial⟩, Im.refl, hS4.sel [0] rfl, hm⟩)))))
      have hm := cfalse hb9 hm
      exact skp (t_then ⟨_, _, (IntKind.wrap .i64 (Int.tdiv y3 y4)), env_has ⟨rfl, trivial⟩, Im.refl, hS4.sel [0] rfl, hm⟩)
    have hm := cfalse hb8 hm
    refine gF (d0 := 28) rfl rfl (by rw [hb8]; rfl) (gF (d0 := 28) rfl rfl (by rw [hb8]; rfl) (gT (d0 := 25) rfl rfl rfl (pv (r_pkf rfl hb8 rfl) (pv (r_pkf rfl rfl rfl) (nil (t_thenR [(7, .int .i64 (IntKind.wrap .i64 (Int.tdiv y3 y4))), (32, .bool false)] ⟨rfl, rfl, trivial⟩ fun J => ?_))))))
    refine cnd (b := false) rfl (fun h => nomatch h) (fun _ => ?_)
    exact skp (t_then ⟨_, _, (IntKind.wrap .i64 (Int.tdiv y3 y4)), env_has ⟨rfl, trivial⟩, Im.refl, hS4.sel [0] rfl, hm⟩)
  rintro _ w5 ⟨J, T5, x1, rfl, im5, hS5, hm⟩
  rw [hkk1] at hm
  refine sq2 ?_
  obtain ⟨y5, hx5, hm⟩ := bindS hm
  refine rg (pv (r_mi rfl) (wl rfl (calS cf57 rfl (ref01_Cut_sim (p0 := x1) (hS5.bun [0] [] rfl)  hx5) rfl fun v5 T6 w6 im6 rv5 => ?_)))
  obtain ⟨rfl, hS6, _⟩ := rv5
  have hS6 : Sep g T6 w6 [R] := hS6.unb
  refine pv (r_zi rfl) (nil (t_then ?_))
  have hm := oI hm; subst hm
  exact rtn (ret1 rfl rfl ⟨_, rfl, _, (iT im1 (iT im2 (iT im3 (iT im4 (iT im5 im6))))), ⟨rfl, hS6.sel [0] rfl, trivial⟩⟩)

set_option maxRecDepth 100000 in
set_option maxHeartbeats 1000000 in
theorem ref01_Rem_sim {g : World} {T0 : Nat → Prop} {w0 : World} {R : Assn} {p0 : Int} {p1 : Int} {r : Int} (hS : Sep g T0 w0 [R])  (hm : ref01_Rem p0 p1 = some r) :
    Calls Tryz.prog 32 #[.int .u32 p0, .int .u32 p1] w0 (RetS T0 w0 fun T w v => v = .int .u32 r ∧ Sep g T w [R] ∧ True) := by
  refine enter (args := [.int .u32 p0, .int .u32 p1]) Tryz.func32 rfl Tryz.ntmps32 rfl fun J => ?_
  unfold ref01_Rem at hm
  refine sq2 (rg (pv (r_zi rfl) (nil (t_then ?_))))
  refine sq2 ?_
  obtain ⟨y1, hx1, hm⟩ := bindS hm
  refine rg (pv (r_mi rfl) (wl rfl (calS cf27 rfl (ref01_Signed_sim (p0 := p0) (hS.bun [0] [] rfl)  hx1) rfl fun v1 T1 w1 im1 rv1 => ?_)))
  obtain ⟨rfl, hS1, _⟩ := rv1
  have hS1 : Sep g T1 w1 [R] := hS1.unb
  obtain ⟨y2, hx2, hm⟩ := bindS hm
  refine pv (r_mi rfl) (wl rfl (calS cf27 rfl (ref01_Signed_sim (p0 := p1) (hS1.bun [0] [] rfl)  hx2) rfl fun v2 T2 w2 im2 rv2 => ?_))
  obtain ⟨rfl, hS2, _⟩ := rv2
  have hS2 : Sep g T2 w2 [R] := hS2.unb
  refine pv (r_zi rfl) (pv (r_zi rfl) (nil (t_then ?_)))
  refine sq2 (sq2 (rg (pv (r_mi rfl) (pv (r_ib rfl rfl rfl) (nil (t_then ?_))))))
  refine cnd rfl (fun hb1 => ?_) (fun hb1 => ?_)
  · have hm := ctrue hb1 hm
    refine sq2 (rg (pv (r_mi rfl) (pv (r_zi rfl) (nil (t_then ?_)))))
    have hm := oI hm; subst hm
    exact rtn (r_then (ret1 rfl rfl ⟨_, rfl, _, (iT im1 im2), ⟨rfl, hS2.sel [0] rfl, trivial⟩⟩))
  have hm := cfalse hb1 hm
  refine skp (t_then ?_)
  refine sq2 ?_
  obtain ⟨y3, hx3, hm⟩ := bindS hm
  refine rg (pv (r_mi rfl) (wl rfl (calS cf59 rfl (ref01_abs_sim (p0 := y1) (hS2.bun [0] [] rfl)  hx3) rfl fun v3 T3 w3 im3 rv3 => ?_)))
  obtain ⟨rfl, hS3, _⟩ := rv3
  have hS3 : Sep g T3 w3 [R] := hS3.unb
  obtain ⟨y4, hx4, hm⟩ := bindS hm
  refine pv (r_mi rfl) (wl rfl (calS cf59 rfl (ref01_abs_sim (p0 := y2) (hS3.bun [0] [] rfl)  hx4) rfl fun v4 T4 w4 im4 rv4 => ?_))
  obtain ⟨rfl, hS4, _⟩ := rv4
  have hS4 : Sep g T4 w4 [R] := hS4.unb
  obtain ⟨_, hz1, hm⟩ := bindS hm
  have hz1 := nz_some hz1
  refine pv (r_irm rfl rfl hz1) (pv (r_zi rfl) (nil (t_then ?_)))
  obtain ⟨kk1, hkk1, hm⟩ := jn_open hm
  refine cut (fun a w5 => ∃ (J : Nat → Value) (T5 : Nat → Prop) (x1 : Int), a = env (nf 26) J [(7, .int .i64 x1)] ∧ Im T4 w4 T5 w5 ∧ Sep g T5 w5 [R] ∧ kk1 x1 = some r) ?_ ?_
  · refine sq2 (rg (pv (r_mi rfl) (pv (r_ib rfl rfl rfl) (nil (t_then ?_)))))
    refine cnd rfl (fun hb2 => ?_) (fun hb2 => ?_)
    · have hm := ctrue hb2 hm
      exact rg (pv (r_mi rfl) (pv (r_ng rfl) (pv (r_zi rfl) (nil (t_then ⟨_, _, (IntKind.wrap .i64 (0 - (Int.tmod y3 y4))), env_has ⟨rfl, trivial⟩, Im.refl, hS4.sel [0] rfl, hm⟩)))))
    have hm := cfalse hb2 hm
    exact skp (t_then ⟨_, _, (Int.tmod y3 y4), env_has ⟨rfl, trivial⟩, Im.refl, hS4.sel [0] rfl, hm⟩)
  rintro _ w5 ⟨J, T5, x1, rfl, im5, hS5, hm⟩
  rw [hkk1] at hm
  refine sq2 ?_
  obtain ⟨y5, hx5, hm⟩ := bindS hm
  refine rg (pv (r_mi rfl) (wl rfl (calS cf57 rfl (ref01_Cut_sim (p0 := x1) (hS5.bun [0] [] rfl)  hx5) rfl fun v5 T6 w6 im6 rv5 => ?_)))
  obtain ⟨rfl, hS6, _⟩ := rv5
  have hS6 : Sep g T6 w6 [R] := hS6.unb
  refine pv (r_zi rfl) (nil (t_then ?_))
  have hm := oI hm; subst hm
  exact rtn (ret1 rfl rfl ⟨_, rfl, _, (iT im1 (iT im2 (iT im3 (iT im4 (iT im5 im6))))), ⟨rfl, hS6.sel [0] rfl, trivial⟩⟩)

set_option maxRecDepth 100000 in
set_option maxHeartbeats 1000000 in
theorem ref01_power_sim {g : World} {T0 : Nat → Prop} {w0 : World} {R : Assn} {p0 : Int} {r : Int} (hS : Sep g T0 w0 [R])  (hm : ref01_power p0 = some r) :
    Calls Tryz.prog 60 #[.int .u32 p0] w0 (RetS T0 w0 fun T w v => v = .int .i64 r ∧ Sep g T w [R] ∧ True) := by
  refine enter (args := [.int .u32 p0]) Tryz.func60 rfl Tryz.ntmps60 rfl fun J => ?_
  unfold ref01_power at hm
  refine sq2 (rg (pv (r_zi rfl) (nil (t_then ?_))))
  refine sq2 (rg (pv (r_zi rfl) (nil (t_then ?_))))
  refine sq2 (sq2 (rg (pv (r_zi rfl) (nil (t_then ?_)))))
  obtain ⟨o1, ho1, hq1⟩ := bindS hm
  obtain ⟨bd1, hbd1, ho1⟩ := loop_open ho1
  refine blk (wp_loop_ghost (fun m a w1 => ∃ (J : Nat → Value) (T1 : Nat → Prop) (x1 : Int) (x2 : Int), a = env (nf 15) J [(0, .int .u32 p0), (3, .int .i64 x1), (4, .int .i64 x2)] ∧ Im T0 w0 T1 w1 ∧ Sep g T1 w1 [R] ∧ loopM bd1 m (x1, x2) = some o1) NN ⟨_, _, 1, 0, env_has ⟨rfl, rfl, rfl, trivial⟩, Im.refl, hS.sel [0] rfl, ho1⟩ ?_)
  rintro m _ w1 ⟨J, T1, x1, x2, rfl, im1, hS1, ho1⟩
  obtain ⟨m1, z1, rfl, hm, hn1⟩ := loop_round ho1
  rw [hbd1] at hm
  refine sq2 (sq2 (rg (pv (r_mi rfl) (pv (r_mi rfl) (pv (r_irm rfl rfl (by decide)) (pv (r_cv rfl Tryz.underlying22 Tryz.underlying3) (pv (r_ib rfl rfl rfl) (nil (t_then ?_)))))))))
  refine cnd rfl (fun hb1 => ?_) (fun hb1 => ?_)
  · have hm := ctrue hb1 hm
    refine skp (t_then ?_)
    refine sq2 (blk (rg (pv (r_mi rfl) (pv (r_ib rfl rfl rfl) (pv (r_zi rfl) (nil (t_blk (t_then ?_))))))))
    have hm := oI hm; subst hm
    exact rg (pv (r_mi rfl) (pv (r_ib rfl rfl rfl) (pv (r_zi rfl) (nil (t_then ⟨m1, Nat.lt_succ_self _, _, _, (IntKind.wrap .i64 (2 * x1)), (IntKind.wrap .i64 (x2 + 1)), env_has ⟨rfl, rfl, rfl, trivial⟩, im1, hS1.sel [0] rfl, hn1⟩)))))
  have hm := cfalse hb1 hm
  have hm := oI hm; subst hm
  have hn1 : _ = Lp.brk _ := hn1
  subst hn1
  have hm := thn_brk hq1
  refine xt (x_then (x_then (x_eq (t_then ?_))))
  refine sq2 (rg (pv (r_mi rfl) (pv (r_zi rfl) (nil (t_then ?_)))))
  have hm := oI hm; subst hm
  exact rtn (ret1 rfl rfl ⟨_, rfl, _, im1, ⟨rfl, hS1.sel [0] rfl, trivial⟩⟩)

set_option maxRecDepth 100000 in
set_option maxHeartbeats 1000000 in
theorem ref01_Left_sim {g : World} {T0 : Nat → Prop} {w0 : World} {R : Assn} {p0 : Int} {p1 : Int} {r : Int} (hS : Sep g T0 w0 [R])  (hm : ref01_Left p0 p1 = some r) :
    Calls Tryz.prog 33 #[.int .u32 p0, .int .u32 p1] w0 (RetS T0 w0 fun T w v => v = .int .u32 r ∧ Sep g T w [R] ∧ True) := by
  refine enter (args := [.int .u32 p0, .int .u32 p1]) Tryz.func33 rfl Tryz.ntmps33 rfl fun J => ?_
  unfold ref01_Left at hm
  refine sq2 (rg (pv (r_zi rfl) (nil (t_then ?_))))
  refine sq2 (rs [0, 0, 0, 2, 0, 0, 0, 2, 0, 2, 0] [0, 1, 2, 6, 3, 4, 5, 7, 8, 9, 10] mix (by kernel_rfl) hS.lt fun w1 i1 => ?_)
  have im1 := i1.imm
  have hS1 := hS.keep i1 (fun _ h => h)
  obtain ⟨y1, hx1, hm⟩ := bindS hm
  refine s0 rfl trivial (fun _ => r_mi rfl) rfl (s0 rfl trivial (fun _ => r_cv rfl Tryz.underlying22 Tryz.underlying3) rfl (s0 rfl trivial (fun _ => r_mi rfl) rfl (s0 rfl trivial (fun _ => r_mi rfl) rfl (s2 [] rfl trivial rfl (by kernel_rfl) (calS cf60 rfl (ref01_power_sim (p0 := p1) (hS1.bun [0] [] rfl)  hx1) rfl fun v1 T1 w2 im2 rv1 => ?_)))))
  obtain ⟨rfl, hS2, _⟩ := rv1
  have hS2 : Sep g T1 w2 [R] := hS2.unb
  refine ⟨st0, ?_⟩
  obtain ⟨_, hz1, hm⟩ := bindS hm
  have hz1 := nz_some hz1
  obtain ⟨_, hz2, hm⟩ := bindS hm
  have hz2 := nz_some hz2
  obtain ⟨y2, hx2, hm⟩ := bindS hm
  refine s0 rfl trivial (fun _ => r_iq rfl rfl hz1) rfl (s0 rfl trivial (fun _ => r_irm rfl rfl hz2) rfl (s2 [] rfl trivial rfl (by kernel_rfl) (calS cf60 rfl (ref01_power_sim (p0 := p1) (hS2.bun [0] [] rfl)  hx2) rfl fun v2 T2 w3 im3 rv2 => ?_)))
  obtain ⟨rfl, hS3, _⟩ := rv2
  have hS3 : Sep g T2 w3 [R] := hS3.unb
  refine ⟨st0, ?_⟩
  obtain ⟨y3, hx3, hm⟩ := bindS hm
  refine s0 rfl trivial (fun _ => r_ib rfl rfl rfl) rfl (s2 [] rfl trivial rfl (by kernel_rfl) (calS cf57 rfl (ref01_Cut_sim (p0 := IntKind.wrap .i64 ((Int.tmod (IntKind.wrap .i64 p0) (IntKind.wrap .i64 (Int.tdiv 4294967296 y1))) * y2)) (hS3.bun [0] [] rfl)  hx3) rfl fun v3 T3 w4 im4 rv3 => ?_))
  obtain ⟨rfl, hS4, _⟩ := rv3
  have hS4 : Sep g T3 w4 [R] := hS4.unb
  refine ⟨st0, ?_⟩
  refine s0 rfl trivial (fun _ => r_zi rfl) rfl (se (t_then ?_))
  have hm := oI hm; subst hm
  exact rtn (ret1 rfl rfl ⟨_, rfl, _, (iT im1 (iT im2 (iT im3 im4))), ⟨rfl, hS4.sel [0] rfl, trivial⟩⟩)

set_option maxRecDepth 100000 in
set_option maxHeartbeats 1000000 in
theorem ref01_RightS_sim {g : World} {T0 : Nat → Prop} {w0 : World} {R : Assn} {p0 : Int} {p1 : Int} {r : Int} (hS : Sep g T0 w0 [R])  (hm : ref01_RightS p0 p1 = some r) :
    Calls Tryz.prog 34 #[.int .u32 p0, .int .u32 p1] w0 (RetS T0 w0 fun T w v => v = .int .u32 r ∧ Sep g T w [R] ∧ True) := by
  refine enter (args := [.int .u32 p0, .int .u32 p1]) Tryz.func34 rfl Tryz.ntmps34 rfl fun J => ?_
  unfold ref01_RightS at hm
  refine sq2 (rg (pv (r_zi rfl) (nil (t_then ?_))))
  refine sq2 ?_
  obtain ⟨y1, hx1, hm⟩ := bindS hm
  refine rg (pv (r_mi rfl) (wl rfl (calS cf27 rfl (ref01_Signed_sim (p0 := p0) (hS.bun [0] [] rfl)  hx1) rfl fun v1 T1 w1 im1 rv1 => ?_)))
  obtain ⟨rfl, hS1, _⟩ := rv1
  have hS1 : Sep g T1 w1 [R] := hS1.unb
  obtain ⟨y2, hx2, hm⟩ := bindS hm
  refine pv (r_mi rfl) (wl rfl (calS cf60 rfl (ref01_power_sim (p0 := p1) (hS1.bun [0] [] rfl)  hx2) rfl fun v2 T2 w2 im2 rv2 => ?_))
  obtain ⟨rfl, hS2, _⟩ := rv2
  have hS2 : Sep g T2 w2 [R] := hS2.unb
  refine pv (r_zi rfl) (pv (r_zi rfl) (nil (t_then ?_)))
  refine sq2 ?_
  obtain ⟨_, hz1, hm⟩ := bindS hm
  have hz1 := nz_some hz1
  refine rg (pv (r_mi rfl) (pv (r_mi rfl) (pv (r_iq rfl rfl hz1) (pv (r_zi rfl) (nil (t_then ?_))))))
  obtain ⟨kk1, hkk1, hm⟩ := jn_open hm
  refine cut (fun a w3 => ∃ (J : Nat → Value) (T3 : Nat → Prop) (x1 : Int), a = env (nf 28) J [(7, .int .i64 x1)] ∧ Im T2 w2 T3 w3 ∧ Sep g T3 w3 [R] ∧ kk1 x1 = some r) ?_ ?_
  · refine sq2 (rg (pv (r_mi rfl) (pv (r_ib rfl rfl rfl) (pv (r_mb rfl) (?_)))))
    rcases Bool.eq_false_or_eq_true (decide (y1 < 0)) with hb1 | hb1
    · have hm := ctrue hb1 hm
      refine gT (d0 := 17) rfl rfl hb1 (pv (r_mi rfl) (gT (d0 := 17) rfl rfl hb1 (pv (r_mi rfl) (gT (d0 := 17) rfl rfl hb1 (pv (r_ib rfl rfl rfl) (gT (d0 := 17) rfl rfl hb1 (pv (r_mi rfl) (gT (d0 := 17) rfl rfl hb1 (pv (r_ib rfl rfl rfl) (pv (r_pkt rfl hb1 rfl) (nil (t_then ?_))))))))))))
      refine cnd rfl (fun hb2 => ?_) (fun hb2 => ?_)
      · have hm := ctrue hb2 hm
        exact rg (pv (r_mi rfl) (pv (r_ib rfl rfl rfl) (pv (r_zi rfl) (nil (t_then ⟨_, _, (IntKind.wrap .i64 ((IntKind.wrap .i64 (Int.tdiv y1 y2)) - 1)), env_has ⟨rfl, trivial⟩, Im.refl, hS2.sel [0] rfl, hm⟩)))))
      have hm := cfalse hb2 hm
      exact skp (t_then ⟨_, _, (IntKind.wrap .i64 (Int.tdiv y1 y2)), env_has ⟨rfl, trivial⟩, Im.refl, hS2.sel [0] rfl, hm⟩)
    have hm := cfalse hb1 hm
    refine gF (d0 := 17) rfl rfl (by rw [hb1]; rfl) (gF (d0 := 17) rfl rfl (by rw [hb1]; rfl) (gF (d0 := 17) rfl rfl (by rw [hb1]; rfl) (gF (d0 := 17) rfl rfl (by rw [hb1]; rfl) (gF (d0 := 17) rfl rfl (by rw [hb1]; rfl) (pv (r_pkf rfl hb1 rfl) (nil (t_then ?_)))))))
    refine cnd (b := false) rfl (fun h => nomatch h) (fun _ => ?_)
    exact skp (t_then ⟨_, _, (IntKind.wrap .i64 (Int.tdiv y1 y2)), env_has ⟨rfl, trivial⟩, Im.refl, hS2.sel [0] rfl, hm⟩)
  rintro _ w3 ⟨J, T3, x1, rfl, im3, hS3, hm⟩
  rw [hkk1] at hm
  refine sq2 ?_
  obtain ⟨y3, hx3, hm⟩ := bindS hm
  refine rg (pv (r_mi rfl) (wl rfl (calS cf57 rfl (ref01_Cut_sim (p0 := x1) (hS3.bun [0] [] rfl)  hx3) rfl fun v3 T4 w4 im4 rv3 => ?_)))
  obtain ⟨rfl, hS4, _⟩ := rv3
  have hS4 : Sep g T4 w4 [R] := hS4.unb
  refine pv (r_zi rfl) (nil (t_then ?_))
  have hm := oI hm; subst hm
  exact rtn (ret1 rfl rfl ⟨_, rfl, _, (iT im1 (iT im2 (iT im3 im4))), ⟨rfl, hS4.sel [0] rfl, trivial⟩⟩)

set_option maxRecDepth 100000 in
set_option maxHeartbeats 1000000 in
theorem ref10_truth_sim {g : World} {T0 : Nat → Prop} {w0 : World} {R : Assn} {p0 : Bool} {r : Int} (hS : Sep g T0 w0 [R])  (hm : ref10_truth p0 = some r) :
    Calls Tryz.prog 35 #[.bool p0] w0 (RetS T0 w0 fun T w v => v = .int .u32 r ∧ Sep g T w [R] ∧ True) := by
  refine enter (args := [.bool p0]) Tryz.func35 rfl Tryz.ntmps35 rfl fun J => ?_
  unfold ref10_truth at hm
  refine sq2 (rg (pv (r_zi rfl) (nil (t_then ?_))))
  refine sq2 (sq2 (rg (pv (r_mb rfl) (nil (t_then ?_)))))
  refine cnd rfl (fun hb1 => ?_) (fun hb1 => ?_)
  · have hm := ctrue hb1 hm
    refine sq2 (rg (pv (r_zi rfl) (nil (t_then ?_))))
    have hm := oI hm; subst hm
    exact rtn (r_then (ret1 rfl rfl ⟨_, rfl, _, Im.refl, ⟨rfl, hS.sel [0] rfl, trivial⟩⟩))
  have hm := cfalse hb1 hm
  refine skp (t_then ?_)
  refine sq2 (rg (pv (r_zi rfl) (nil (t_then ?_))))
  have hm := oI hm; subst hm
  exact rtn (ret1 rfl rfl ⟨_, rfl, _, Im.refl, ⟨rfl, hS.sel [0] rfl, trivial⟩⟩)

set_option maxRecDepth 100000 in
set_option maxHeartbeats 1000000 in
theorem ref10_Apply_sim {g : World} {T0 : Nat → Prop} {w0 : World} {R : Assn} {p0 : Int} {p1 : Int} {p2 : Int} {r : Int × Int} (hS : Sep g T0 w0 [R])  (hm : ref10_Apply p0 p1 p2 = some r) :
    Calls Tryz.prog 8 #[.int .i64 p0, .int .u32 p1, .int .u32 p2] w0 (RetS T0 w0 fun T w v => v = .tuple #[.int .u32 r.1, .int .i64 r.2] ∧ Sep g T w [R] ∧ True) := by
  refine enter (args := [.int .i64 p0, .int .u32 p1, .int .u32 p2]) Tryz.func8 rfl Tryz.ntmps8 rfl fun J => ?_
  unfold ref10_Apply at hm
  refine sq2 (rg (pv (r_zi rfl) (pv (r_zi rfl) (nil (t_then ?_)))))
  refine sq2 ?_
  obtain ⟨y1, hx1, hm⟩ := bindS hm
  refine rg (pv (r_mi rfl) (wl rfl (calS cf27 rfl (ref01_Signed_sim (p0 := p1) (hS.bun [0] [] rfl)  hx1) rfl fun v1 T1 w1 im1 rv1 => ?_)))
  obtain ⟨rfl, hS1, _⟩ := rv1
  have hS1 : Sep g T1 w1 [R] := hS1.unb
  obtain ⟨y2, hx2, hm⟩ := bindS hm
  refine pv (r_mi rfl) (wl rfl (calS cf27 rfl (ref01_Signed_sim (p0 := p2) (hS1.bun [0] [] rfl)  hx2) rfl fun v2 T2 w2 im2 rv2 => ?_))
  obtain ⟨rfl, hS2, _⟩ := rv2
  have hS2 : Sep g T2 w2 [R] := hS2.unb
  refine pv (r_zi rfl) (pv (r_zi rfl) (nil (t_then ?_)))
  refine sq2 (sq2 (rg (pv (r_mi rfl) (pv (r_ib rfl rfl rfl) (pv (r_mb rfl) (?_))))))
  rcases Bool.eq_false_or_eq_true (p0 == 4) with hb1 | hb1
  · have hm := ctrue hb1 hm
    refine gF (d0 := 17) rfl rfl (by rw [hb1]; rfl) (gF (d0 := 17) rfl rfl (by rw [hb1]; rfl) (pv (r_pkt rfl hb1 rfl) (pv (r_mb rfl) (gT (d0 := 21) rfl rfl rfl (pv (r_mi rfl) (gT (d0 := 21) rfl rfl rfl (pv (r_ib rfl rfl rfl) (pv (r_pkt rfl rfl rfl) (nil (t_then ?_))))))))))
    refine cnd rfl (fun hb11 => ?_) (fun hb11 => ?_)
    · have hm := ctrue hb11 hm
      refine sq2 (rg (pv (r_zi rfl) (pv (r_zi rfl) (nil (t_then ?_)))))
      have hm := oI hm; subst hm
      exact rtn (r_then (retN (vs := [.int .u32 0, .int .i64 11]) rfl ⟨rfl, rfl, trivial⟩ rfl ⟨_, rfl, _, (iT im1 im2), ⟨rfl, hS2.sel [0] rfl, trivial⟩⟩))
    have hm := cfalse hb11 hm
    refine skp (t_then ?_)
    refine sq2 ?_
    obtain ⟨y35, hx37, hm⟩ := bindS hm
    refine rg (pv (r_mi rfl) (pv (r_mi rfl) (wl rfl (calS cf28 rfl (ref01_Add_sim (p0 := p1) (p1 := p2) (hS2.bun [0] [] rfl)  hx37) rfl fun v35 T35 w37 im37 rv35 => ?_))))
    obtain ⟨rfl, hS37, _⟩ := rv35
    have hS37 : Sep g T35 w37 [R] := hS37.unb
    obtain ⟨y36, hx38, hm⟩ := bindS hm
    refine pv (r_mi rfl) (pv (r_mi rfl) (wl rfl (calS cf29 rfl (ref01_Sub_sim (p0 := p1) (p1 := p2) (hS37.bun [0] [] rfl)  hx38) rfl fun v36 T36 w38 im38 rv36 => ?_)))
    obtain ⟨rfl, hS38, _⟩ := rv36
    have hS38 : Sep g T36 w38 [R] := hS38.unb
    obtain ⟨y37, hx39, hm⟩ := bindS hm
    refine pv (r_mi rfl) (pv (r_mi rfl) (wl rfl (calS cf30 rfl (ref01_Mul_sim (p0 := p1) (p1 := p2) (hS38.bun [0] [] rfl)  hx39) rfl fun v37 T37 w39 im39 rv37 => ?_)))
    obtain ⟨rfl, hS39, _⟩ := rv37
    have hS39 : Sep g T37 w39 [R] := hS39.unb
    obtain ⟨y38, hx40, hm⟩ := bindS hm
    refine pv (r_mi rfl) (pv (r_mi rfl) (wl rfl (calS cf31 rfl (ref01_Div_sim (p0 := p1) (p1 := p2) (hS39.bun [0] [] rfl)  hx40) rfl fun v38 T38 w40 im40 rv38 => ?_)))
    obtain ⟨rfl, hS40, _⟩ := rv38
    have hS40 : Sep g T38 w40 [R] := hS40.unb
    obtain ⟨y39, hx41, hm⟩ := bindS hm
    refine pv (r_mi rfl) (pv (r_mi rfl) (wl rfl (calS cf32 rfl (ref01_Rem_sim (p0 := p1) (p1 := p2) (hS40.bun [0] [] rfl)  hx41) rfl fun v39 T39 w41 im41 rv39 => ?_)))
    obtain ⟨rfl, hS41, _⟩ := rv39
    have hS41 : Sep g T39 w41 [R] := hS41.unb
    obtain ⟨y40, hx42, hm⟩ := bindS hm
    refine pv (r_mi rfl) (pv (r_mi rfl) (pv (r_ib rfl rfl rfl) (pv (r_mi rfl) (pv (r_mi rfl) (pv (r_ib rfl rfl rfl) (pv (r_mi rfl) (pv (r_mi rfl) (pv (r_ib rfl rfl rfl) (pv (r_mi rfl) (pv (r_mi rfl) (wl rfl (calS cf33 rfl (ref01_Left_sim (p0 := p1) (p1 := p2) (hS41.bun [0] [] rfl)  hx42) rfl fun v40 T40 w42 im42 rv40 => ?_))))))))))))
    obtain ⟨rfl, hS42, _⟩ := rv40
    have hS42 : Sep g T40 w42 [R] := hS42.unb
    obtain ⟨y41, hx43, hm⟩ := bindS hm
    refine pv (r_mi rfl) (pv (r_mi rfl) (wl rfl (calS cf34 rfl (ref01_RightS_sim (p0 := p1) (p1 := p2) (hS42.bun [0] [] rfl)  hx43) rfl fun v41 T41 w43 im43 rv41 => ?_)))
    obtain ⟨rfl, hS43, _⟩ := rv41
    have hS43 : Sep g T41 w43 [R] := hS43.unb
    obtain ⟨y42, hx44, hm⟩ := bindS hm
    refine pv (r_mi rfl) (pv (r_mi rfl) (pv (r_ib rfl rfl rfl) (wl rfl (calS cf35 rfl (ref10_truth_sim (p0 := y1 == y2) (hS43.bun [0] [] rfl)  hx44) rfl fun v42 T42 w44 im44 rv42 => ?_))))
    obtain ⟨rfl, hS44, _⟩ := rv42
    have hS44 : Sep g T42 w44 [R] := hS44.unb
    obtain ⟨y43, hx45, hm⟩ := bindS hm
    refine pv (r_mi rfl) (pv (r_mi rfl) (pv (r_ib rfl rfl rfl) (wl rfl (calS cf35 rfl (ref10_truth_sim (p0 := y1 != y2) (hS44.bun [0] [] rfl)  hx45) rfl fun v43 T43 w45 im45 rv43 => ?_))))
    obtain ⟨rfl, hS45, _⟩ := rv43
    have hS45 : Sep g T43 w45 [R] := hS45.unb
    obtain ⟨y44, hx46, hm⟩ := bindS hm
    refine pv (r_mi rfl) (pv (r_mi rfl) (pv (r_ib rfl rfl rfl) (wl rfl (calS cf35 rfl (ref10_truth_sim (p0 := decide (y1 < y2)) (hS45.bun [0] [] rfl)  hx46) rfl fun v44 T44 w46 im46 rv44 => ?_))))
    obtain ⟨rfl, hS46, _⟩ := rv44
    have hS46 : Sep g T44 w46 [R] := hS46.unb
    obtain ⟨y45, hx47, hm⟩ := bindS hm
    refine pv (r_mi rfl) (pv (r_mi rfl) (pv (r_ib rfl rfl rfl) (wl rfl (calS cf35 rfl (ref10_truth_sim (p0 := decide (y2 < y1)) (hS46.bun [0] [] rfl)  hx47) rfl fun v45 T45 w47 im47 rv45 => ?_))))
    obtain ⟨rfl, hS47, _⟩ := rv45
    have hS47 : Sep g T45 w47 [R] := hS47.unb
    obtain ⟨y46, hx48, hm⟩ := bindS hm
    refine pv (r_mi rfl) (pv (r_mi rfl) (pv (r_ib rfl rfl rfl) (wl rfl (calS cf35 rfl (ref10_truth_sim (p0 := decide (y1 ≤ y2)) (hS47.bun [0] [] rfl)  hx48) rfl fun v46 T46 w48 im48 rv46 => ?_))))
    obtain ⟨rfl, hS48, _⟩ := rv46
    have hS48 : Sep g T46 w48 [R] := hS48.unb
    obtain ⟨y47, hx49, hm⟩ := bindS hm
    refine pv (r_mi rfl) (pv (r_mi rfl) (pv (r_ib rfl rfl rfl) (wl rfl (calS cf35 rfl (ref10_truth_sim (p0 := decide (y2 ≤ y1)) (hS48.bun [0] [] rfl)  hx49) rfl fun v47 T47 w49 im49 rv47 => ?_))))
    obtain ⟨rfl, hS49, _⟩ := rv47
    have hS49 : Sep g T47 w49 [R] := hS49.unb
    obtain ⟨y48, hx50, hm⟩ := bindS hm
    refine pv (r_mi rfl) (wl rfl (calS cf29 rfl (ref01_Sub_sim (p0 := 0) (p1 := p1) (hS49.bun [0] [] rfl)  hx50) rfl fun v48 T48 w50 im50 rv48 => ?_))
    obtain ⟨rfl, hS50, _⟩ := rv48
    have hS50 : Sep g T48 w50 [R] := hS50.unb
    obtain ⟨y49, hx51, hm⟩ := bindS hm
    refine pv (r_mi rfl) (wl rfl (calS cf29 rfl (ref01_Sub_sim (p0 := 4294967295) (p1 := p1) (hS50.bun [0] [] rfl)  hx51) rfl fun v49 T49 w51 im51 rv49 => ?_))
    obtain ⟨rfl, hS51, _⟩ := rv49
    have hS51 : Sep g T49 w51 [R] := hS51.unb
    obtain ⟨y50, hx52, hm⟩ := bindS hm
    refine pv (r_mi rfl) (pv (r_ib rfl rfl rfl) (wl rfl (calS cf35 rfl (ref10_truth_sim (p0 := p1 == 0) (hS51.bun [0] [] rfl)  hx52) rfl fun v50 T50 w52 im52 rv50 => ?_)))
    obtain ⟨rfl, hS52, _⟩ := rv50
    have hS52 : Sep g T50 w52 [R] := hS52.unb
    refine wl rfl (bsS (r := (rInt .u32)) (l := ([0, y35, y36, y37, y38, y39, bits .and .u32 p1 p2, bits .or .u32 p1 p2, bits .xor .u32 p1 p2, y40, y41, y42, y43, y44, y45, y46, y47, y48, y49, y50] : List Int)) (css := [[.int .u32 0], [.int .u32 y35], [.int .u32 y36], [.int .u32 y37], [.int .u32 y38], [.int .u32 y39], [.int .u32 (bits .and .u32 p1 p2)], [.int .u32 (bits .or .u32 p1 p2)], [.int .u32 (bits .xor .u32 p1 p2)], [.int .u32 y40], [.int .u32 y41], [.int .u32 y42], [.int .u32 y43], [.int .u32 y44], [.int .u32 y45], [.int .u32 y46], [.int .u32 y47], [.int .u32 y48], [.int .u32 y49], [.int .u32 y50]]) hS52 Tryz.underlying68 Tryz.sizeOf22 Tryz.zeroValue22 rfl rfl (by kernel_rfl) rfl ⟨rfl, rfl, rfl, rfl, rfl, rfl, rfl, rfl, rfl, rfl, rfl, rfl, rfl, rfl, rfl, rfl, rfl, rfl, rfl, rfl, trivial⟩ rfl rfl fun w53 a3 n3 c3 im53 hS53 => ?_)
    refine pv (r_zs rfl) (nil (t_thenR [(0, .int .i64 p0), (10, .slice a3 n3 c3)] ⟨rfl, rfl, trivial⟩ fun J => ?_))
    refine sq2 (sq2 (rg (pv (r_mi rfl) (pv (r_ib rfl rfl rfl) (pv (r_mb rfl) (?_))))))
    rcases Bool.eq_false_or_eq_true (decide (p0 < 1)) with hb12 | hb12
    · have hm := ctrue hb12 hm
      refine gF (d0 := 89) rfl rfl (by rw [hb12]; rfl) (gF (d0 := 89) rfl rfl (by rw [hb12]; rfl) (gF (d0 := 89) rfl rfl (by rw [hb12]; rfl) (gF (d0 := 89) rfl rfl (by rw [hb12]; rfl) (pv (r_pkt rfl hb12 rfl) (nil (t_then ?_))))))
      refine cnd (b := true) rfl (fun _ => ?_) (fun h => nomatch h)
      refine sq2 (rg (pv (r_zi rfl) (pv (r_zi rfl) (nil (t_then ?_)))))
      have hm := oI hm; subst hm
      exact rtn (r_then (retN (vs := [.int .u32 0, .int .i64 1]) rfl ⟨rfl, rfl, trivial⟩ rfl ⟨_, rfl, _, (iT im1 (iT im2 (iT im37 (iT im38 (iT im39 (iT im40 (iT im41 (iT im42 (iT im43 (iT im44 (iT im45 (iT im46 (iT im47 (iT im48 (iT im49 (iT im50 (iT im51 (iT im52 im53)))))))))))))))))), ⟨rfl, hS53.sel [1] rfl, trivial⟩⟩))
    have hm := cfalse hb12 hm
    refine gT (d0 := 89) rfl rfl hb12 (pv (r_mi rfl) (gT (d0 := 89) rfl rfl hb12 (pv (r_ms rfl) (gT (d0 := 89) rfl rfl hb12 (pv (r_lnV rfl (hS53.own (i := 0) ⟨rfl, rfl⟩).v Tryz.underlying68) (gT (d0 := 89) rfl rfl hb12 (pv (r_ib rfl rfl rfl) (pv (r_pkf rfl hb12 rfl) (nil (t_then ?_))))))))))
    refine cnd rfl (fun hb13 => ?_) (fun hb13 => ?_)
    · have hm := ctrue hb13 hm
      refine sq2 (rg (pv (r_zi rfl) (pv (r_zi rfl) (nil (t_then ?_)))))
      have hm := oI hm; subst hm
      exact rtn (r_then (retN (vs := [.int .u32 0, .int .i64 1]) rfl ⟨rfl, rfl, trivial⟩ rfl ⟨_, rfl, _, (iT im1 (iT im2 (iT im37 (iT im38 (iT im39 (iT im40 (iT im41 (iT im42 (iT im43 (iT im44 (iT im45 (iT im46 (iT im47 (iT im48 (iT im49 (iT im50 (iT im51 (iT im52 im53)))))))))))))))))), ⟨rfl, hS53.sel [1] rfl, trivial⟩⟩))
    have hm := cfalse hb13 hm
    refine skp (t_then ?_)
    refine sq2 ?_
    obtain ⟨u3, hx53, hm⟩ := bindS hm
    obtain ⟨b3, of3, cs3, k3, cp3, hv3, hp3, hl3, he3, hr3, hc3⟩ := (hS53.own (i := 0) ⟨rfl, rfl⟩).v.ixq hx53 rfl
    cases hr3
    refine rg (pv (r_ms rfl) (pv (r_mi rfl) (pv (r_ixe hv3 rfl Tryz.underlying68 Tryz.sizeOf22 hp3 hl3 he3) (pv (r_ld rfl Tryz.isAgg22 (hc3.get (j := 0) rfl)) (pv (r_zi rfl) (pv (r_zi rfl) (nil (t_then ?_))))))))
    have hm := oI hm; subst hm
    exact rtn (retN (vs := [.int .u32 u3, .int .i64 0]) rfl ⟨rfl, rfl, trivial⟩ rfl ⟨_, rfl, _, (iT im1 (iT im2 (iT im37 (iT im38 (iT im39 (iT im40 (iT im41 (iT im42 (iT im43 (iT im44 (iT im45 (iT im46 (iT im47 (iT im48 (iT im49 (iT im50 (iT im51 (iT im52 im53)))))))))))))))))), ⟨rfl, hS53.sel [1] rfl, trivial⟩⟩)
  have hm := cfalse hb1 hm
  refine gT (d0 := 17) rfl rfl hb1 (pv (r_mi rfl) (gT (d0 := 17) rfl rfl hb1 (pv (r_ib rfl rfl rfl) (pv (r_pkf rfl hb1 rfl) (pv (r_mb rfl) (?_))))))
  rcases Bool.eq_false_or_eq_true (p0 == 5) with hb2 | hb2
  · have hm := ctrue hb2 hm
    refine gT (d0 := 21) rfl rfl hb2 (pv (r_mi rfl) (gT (d0 := 21) rfl rfl hb2 (pv (r_ib rfl rfl rfl) (pv (r_pkt rfl hb2 rfl) (nil (t_then ?_))))))
    refine cnd rfl (fun hb3 => ?_) (fun hb3 => ?_)
    · have hm := ctrue hb3 hm
      refine sq2 (rg (pv (r_zi rfl) (pv (r_zi rfl) (nil (t_then ?_)))))
      have hm := oI hm; subst hm
      exact rtn (r_then (retN (vs := [.int .u32 0, .int .i64 11]) rfl ⟨rfl, rfl, trivial⟩ rfl ⟨_, rfl, _, (iT im1 im2), ⟨rfl, hS2.sel [0] rfl, trivial⟩⟩))
    have hm := cfalse hb3 hm
    refine skp (t_then ?_)
    refine sq2 ?_
    obtain ⟨y3, hx3, hm⟩ := bindS hm
    refine rg (pv (r_mi rfl) (pv (r_mi rfl) (wl rfl (calS cf28 rfl (ref01_Add_sim (p0 := p1) (p1 := p2) (hS2.bun [0] [] rfl)  hx3) rfl fun v3 T3 w3 im3 rv3 => ?_))))
    obtain ⟨rfl, hS3, _⟩ := rv3
    have hS3 : Sep g T3 w3 [R] := hS3.unb
    obtain ⟨y4, hx4, hm⟩ := bindS hm
    refine pv (r_mi rfl) (pv (r_mi rfl) (wl rfl (calS cf29 rfl (ref01_Sub_sim (p0 := p1) (p1 := p2) (hS3.bun [0] [] rfl)  hx4) rfl fun v4 T4 w4 im4 rv4 => ?_)))
    obtain ⟨rfl, hS4, _⟩ := rv4
    have hS4 : Sep g T4 w4 [R] := hS4.unb
    obtain ⟨y5, hx5, hm⟩ := bindS hm
    refine pv (r_mi rfl) (pv (r_mi rfl) (wl rfl (calS cf30 rfl (ref01_Mul_sim (p0 := p1) (p1 := p2) (hS4.bun [0] [] rfl)  hx5) rfl fun v5 T5 w5 im5 rv5 => ?_)))
    obtain ⟨rfl, hS5, _⟩ := rv5
    have hS5 : Sep g T5 w5 [R] := hS5.unb
    obtain ⟨y6, hx6, hm⟩ := bindS hm
    refine pv (r_mi rfl) (pv (r_mi rfl) (wl rfl (calS cf31 rfl (ref01_Div_sim (p0 := p1) (p1 := p2) (hS5.bun [0] [] rfl)  hx6) rfl fun v6 T6 w6 im6 rv6 => ?_)))
    obtain ⟨rfl, hS6, _⟩ := rv6
    have hS6 : Sep g T6 w6 [R] := hS6.unb
    obtain ⟨y7, hx7, hm⟩ := bindS hm
    refine pv (r_mi rfl) (pv (r_mi rfl) (wl rfl (calS cf32 rfl (ref01_Rem_sim (p0 := p1) (p1 := p2) (hS6.bun [0] [] rfl)  hx7) rfl fun v7 T7 w7 im7 rv7 => ?_)))
    obtain ⟨rfl, hS7, _⟩ := rv7
    have hS7 : Sep g T7 w7 [R] := hS7.unb
    obtain ⟨y8, hx8, hm⟩ := bindS hm
    refine pv (r_mi rfl) (pv (r_mi rfl) (pv (r_ib rfl rfl rfl) (pv (r_mi rfl) (pv (r_mi rfl) (pv (r_ib rfl rfl rfl) (pv (r_mi rfl) (pv (r_mi rfl) (pv (r_ib rfl rfl rfl) (pv (r_mi rfl) (pv (r_mi rfl) (wl rfl (calS cf33 rfl (ref01_Left_sim (p0 := p1) (p1 := p2) (hS7.bun [0] [] rfl)  hx8) rfl fun v8 T8 w8 im8 rv8 => ?_))))))))))))
    obtain ⟨rfl, hS8, _⟩ := rv8
    have hS8 : Sep g T8 w8 [R] := hS8.unb
    obtain ⟨y9, hx9, hm⟩ := bindS hm
    refine pv (r_mi rfl) (pv (r_mi rfl) (wl rfl (calS cf34 rfl (ref01_RightS_sim (p0 := p1) (p1 := p2) (hS8.bun [0] [] rfl)  hx9) rfl fun v9 T9 w9 im9 rv9 => ?_)))
    obtain ⟨rfl, hS9, _⟩ := rv9
    have hS9 : Sep g T9 w9 [R] := hS9.unb
    obtain ⟨y10, hx10, hm⟩ := bindS hm
    refine pv (r_mi rfl) (pv (r_mi rfl) (pv (r_ib rfl rfl rfl) (wl rfl (calS cf35 rfl (ref10_truth_sim (p0 := y1 == y2) (hS9.bun [0] [] rfl)  hx10) rfl fun v10 T10 w10 im10 rv10 => ?_))))
    obtain ⟨rfl, hS10, _⟩ := rv10
    have hS10 : Sep g T10 w10 [R] := hS10.unb
    obtain ⟨y11, hx11, hm⟩ := bindS hm
    refine pv (r_mi rfl) (pv (r_mi rfl) (pv (r_ib rfl rfl rfl) (wl rfl (calS cf35 rfl (ref10_truth_sim (p0 := y1 != y2) (hS10.bun [0] [] rfl)  hx11) rfl fun v11 T11 w11 im11 rv11 => ?_))))
    obtain ⟨rfl, hS11, _⟩ := rv11
    have hS11 : Sep g T11 w11 [R] := hS11.unb
    obtain ⟨y12, hx12, hm⟩ := bindS hm
    refine pv (r_mi rfl) (pv (r_mi rfl) (pv (r_ib rfl rfl rfl) (wl rfl (calS cf35 rfl (ref10_truth_sim (p0 := decide (y1 < y2)) (hS11.bun [0] [] rfl)  hx12) rfl fun v12 T12 w12 im12 rv12 => ?_))))
    obtain ⟨rfl, hS12, _⟩ := rv12
    have hS12 : Sep g T12 w12 [R] := hS12.unb
    obtain ⟨y13, hx13, hm⟩ := bindS hm
    refine pv (r_mi rfl) (pv (r_mi rfl) (pv (r_ib rfl rfl rfl) (wl rfl (calS cf35 rfl (ref10_truth_sim (p0 := decide (y2 < y1)) (hS12.bun [0] [] rfl)  hx13) rfl fun v13 T13 w13 im13 rv13 => ?_))))
    obtain ⟨rfl, hS13, _⟩ := rv13
    have hS13 : Sep g T13 w13 [R] := hS13.unb
    obtain ⟨y14, hx14, hm⟩ := bindS hm
    refine pv (r_mi rfl) (pv (r_mi rfl) (pv (r_ib rfl rfl rfl) (wl rfl (calS cf35 rfl (ref10_truth_sim (p0 := decide (y1 ≤ y2)) (hS13.bun [0] [] rfl)  hx14) rfl fun v14 T14 w14 im14 rv14 => ?_))))
    obtain ⟨rfl, hS14, _⟩ := rv14
    have hS14 : Sep g T14 w14 [R] := hS14.unb
    obtain ⟨y15, hx15, hm⟩ := bindS hm
    refine pv (r_mi rfl) (pv (r_mi rfl) (pv (r_ib rfl rfl rfl) (wl rfl (calS cf35 rfl (ref10_truth_sim (p0 := decide (y2 ≤ y1)) (hS14.bun [0] [] rfl)  hx15) rfl fun v15 T15 w15 im15 rv15 => ?_))))
    obtain ⟨rfl, hS15, _⟩ := rv15
    have hS15 : Sep g T15 w15 [R] := hS15.unb
    obtain ⟨y16, hx16, hm⟩ := bindS hm
    refine pv (r_mi rfl) (wl rfl (calS cf29 rfl (ref01_Sub_sim (p0 := 0) (p1 := p1) (hS15.bun [0] [] rfl)  hx16) rfl fun v16 T16 w16 im16 rv16 => ?_))
    obtain ⟨rfl, hS16, _⟩ := rv16
    have hS16 : Sep g T16 w16 [R] := hS16.unb
    obtain ⟨y17, hx17, hm⟩ := bindS hm
    refine pv (r_mi rfl) (wl rfl (calS cf29 rfl (ref01_Sub_sim (p0 := 4294967295) (p1 := p1) (hS16.bun [0] [] rfl)  hx17) rfl fun v17 T17 w17 im17 rv17 => ?_))
    obtain ⟨rfl, hS17, _⟩ := rv17
    have hS17 : Sep g T17 w17 [R] := hS17.unb
    obtain ⟨y18, hx18, hm⟩ := bindS hm
    refine pv (r_mi rfl) (pv (r_ib rfl rfl rfl) (wl rfl (calS cf35 rfl (ref10_truth_sim (p0 := p1 == 0) (hS17.bun [0] [] rfl)  hx18) rfl fun v18 T18 w18 im18 rv18 => ?_)))
    obtain ⟨rfl, hS18, _⟩ := rv18
    have hS18 : Sep g T18 w18 [R] := hS18.unb
    refine wl rfl (bsS (r := (rInt .u32)) (l := ([0, y3, y4, y5, y6, y7, bits .and .u32 p1 p2, bits .or .u32 p1 p2, bits .xor .u32 p1 p2, y8, y9, y10, y11, y12, y13, y14, y15, y16, y17, y18] : List Int)) (css := [[.int .u32 0], [.int .u32 y3], [.int .u32 y4], [.int .u32 y5], [.int .u32 y6], [.int .u32 y7], [.int .u32 (bits .and .u32 p1 p2)], [.int .u32 (bits .or .u32 p1 p2)], [.int .u32 (bits .xor .u32 p1 p2)], [.int .u32 y8], [.int .u32 y9], [.int .u32 y10], [.int .u32 y11], [.int .u32 y12], [.int .u32 y13], [.int .u32 y14], [.int .u32 y15], [.int .u32 y16], [.int .u32 y17], [.int .u32 y18]]) hS18 Tryz.underlying68 Tryz.sizeOf22 Tryz.zeroValue22 rfl rfl (by kernel_rfl) rfl ⟨rfl, rfl, rfl, rfl, rfl, rfl, rfl, rfl, rfl, rfl, rfl, rfl, rfl, rfl, rfl, rfl, rfl, rfl, rfl, rfl, trivial⟩ rfl rfl fun w19 a1 n1 c1 im19 hS19 => ?_)
    refine pv (r_zs rfl) (nil (t_thenR [(0, .int .i64 p0), (10, .slice a1 n1 c1)] ⟨rfl, rfl, trivial⟩ fun J => ?_))
    refine sq2 (sq2 (rg (pv (r_mi rfl) (pv (r_ib rfl rfl rfl) (pv (r_mb rfl) (?_))))))
    rcases Bool.eq_false_or_eq_true (decide (p0 < 1)) with hb4 | hb4
    · have hm := ctrue hb4 hm
      refine gF (d0 := 89) rfl rfl (by rw [hb4]; rfl) (gF (d0 := 89) rfl rfl (by rw [hb4]; rfl) (gF (d0 := 89) rfl rfl (by rw [hb4]; rfl) (gF (d0 := 89) rfl rfl (by rw [hb4]; rfl) (pv (r_pkt rfl hb4 rfl) (nil (t_then ?_))))))
      refine cnd (b := true) rfl (fun _ => ?_) (fun h => nomatch h)
      refine sq2 (rg (pv (r_zi rfl) (pv (r_zi rfl) (nil (t_then ?_)))))
      have hm := oI hm; subst hm
      exact rtn (r_then (retN (vs := [.int .u32 0, .int .i64 1]) rfl ⟨rfl, rfl, trivial⟩ rfl ⟨_, rfl, _, (iT im1 (iT im2 (iT im3 (iT im4 (iT im5 (iT im6 (iT im7 (iT im8 (iT im9 (iT im10 (iT im11 (iT im12 (iT im13 (iT im14 (iT im15 (iT im16 (iT im17 (iT im18 im19)))))))))))))))))), ⟨rfl, hS19.sel [1] rfl, trivial⟩⟩))
    have hm := cfalse hb4 hm
    refine gT (d0 := 89) rfl rfl hb4 (pv (r_mi rfl) (gT (d0 := 89) rfl rfl hb4 (pv (r_ms rfl) (gT (d0 := 89) rfl rfl hb4 (pv (r_lnV rfl (hS19.own (i := 0) ⟨rfl, rfl⟩).v Tryz.underlying68) (gT (d0 := 89) rfl rfl hb4 (pv (r_ib rfl rfl rfl) (pv (r_pkf rfl hb4 rfl) (nil (t_then ?_))))))))))
    refine cnd rfl (fun hb5 => ?_) (fun hb5 => ?_)
    · have hm := ctrue hb5 hm
      refine sq2 (rg (pv (r_zi rfl) (pv (r_zi rfl) (nil (t_then ?_)))))
      have hm := oI hm; subst hm
      exact rtn (r_then (retN (vs := [.int .u32 0, .int .i64 1]) rfl ⟨rfl, rfl, trivial⟩ rfl ⟨_, rfl, _, (iT im1 (iT im2 (iT im3 (iT im4 (iT im5 (iT im6 (iT im7 (iT im8 (iT im9 (iT im10 (iT im11 (iT im12 (iT im13 (iT im14 (iT im15 (iT im16 (iT im17 (iT im18 im19)))))))))))))))))), ⟨rfl, hS19.sel [1] rfl, trivial⟩⟩))
    have hm := cfalse hb5 hm
    refine skp (t_then ?_)
    refine sq2 ?_
    obtain ⟨u1, hx19, hm⟩ := bindS hm
    obtain ⟨b1, of1, cs1, k1, cp1, hv1, hp1, hl1, he1, hr1, hc1⟩ := (hS19.own (i := 0) ⟨rfl, rfl⟩).v.ixq hx19 rfl
    cases hr1
    refine rg (pv (r_ms rfl) (pv (r_mi rfl) (pv (r_ixe hv1 rfl Tryz.underlying68 Tryz.sizeOf22 hp1 hl1 he1) (pv (r_ld rfl Tryz.isAgg22 (hc1.get (j := 0) rfl)) (pv (r_zi rfl) (pv (r_zi rfl) (nil (t_then ?_))))))))
    have hm := oI hm; subst hm
    exact rtn (retN (vs := [.int .u32 u1, .int .i64 0]) rfl ⟨rfl, rfl, trivial⟩ rfl ⟨_, rfl, _, (iT im1 (iT im2 (iT im3 (iT im4 (iT im5 (iT im6 (iT im7 (iT im8 (iT im9 (iT im10 (iT im11 (iT im12 (iT im13 (iT im14 (iT im15 (iT im16 (iT im17 (iT im18 im19)))))))))))))))))), ⟨rfl, hS19.sel [1] rfl, trivial⟩⟩)
  have hm := cfalse hb2 hm
  refine gF (d0 := 21) rfl rfl (by rw [hb2]; rfl) (gF (d0 := 21) rfl rfl (by rw [hb2]; rfl) (pv (r_pkf rfl hb2 rfl) (nil (t_then ?_))))
  refine cnd (b := false) rfl (fun h => nomatch h) (fun _ => ?_)
  refine skp (t_then ?_)
  refine sq2 ?_
  obtain ⟨y19, hx20, hm⟩ := bindS hm
  refine rg (pv (r_mi rfl) (pv (r_mi rfl) (wl rfl (calS cf28 rfl (ref01_Add_sim (p0 := p1) (p1 := p2) (hS2.bun [0] [] rfl)  hx20) rfl fun v19 T19 w20 im20 rv19 => ?_))))
  obtain ⟨rfl, hS20, _⟩ := rv19
  have hS20 : Sep g T19 w20 [R] := hS20.unb
  obtain ⟨y20, hx21, hm⟩ := bindS hm
  refine pv (r_mi rfl) (pv (r_mi rfl) (wl rfl (calS cf29 rfl (ref01_Sub_sim (p0 := p1) (p1 := p2) (hS20.bun [0] [] rfl)  hx21) rfl fun v20 T20 w21 im21 rv20 => ?_)))
  obtain ⟨rfl, hS21, _⟩ := rv20
  have hS21 : Sep g T20 w21 [R] := hS21.unb
  obtain ⟨y21, hx22, hm⟩ := bindS hm
  refine pv (r_mi rfl) (pv (r_mi rfl) (wl rfl (calS cf30 rfl (ref01_Mul_sim (p0 := p1) (p1 := p2) (hS21.bun [0] [] rfl)  hx22) rfl fun v21 T21 w22 im22 rv21 => ?_)))
  obtain ⟨rfl, hS22, _⟩ := rv21
  have hS22 : Sep g T21 w22 [R] := hS22.unb
  obtain ⟨y22, hx23, hm⟩ := bindS hm
  refine pv (r_mi rfl) (pv (r_mi rfl) (wl rfl (calS cf31 rfl (ref01_Div_sim (p0 := p1) (p1 := p2) (hS22.bun [0] [] rfl)  hx23) rfl fun v22 T22 w23 im23 rv22 => ?_)))
  obtain ⟨rfl, hS23, _⟩ := rv22
  have hS23 : Sep g T22 w23 [R] := hS23.unb
  obtain ⟨y23, hx24, hm⟩ := bindS hm
  refine pv (r_mi rfl) (pv (r_mi rfl) (wl rfl (calS cf32 rfl (ref01_Rem_sim (p0 := p1) (p1 := p2) (hS23.bun [0] [] rfl)  hx24) rfl fun v23 T23 w24 im24 rv23 => ?_)))
  obtain ⟨rfl, hS24, _⟩ := rv23
  have hS24 : Sep g T23 w24 [R] := hS24.unb
  obtain ⟨y24, hx25, hm⟩ := bindS hm
  refine pv (r_mi rfl) (pv (r_mi rfl) (pv (r_ib rfl rfl rfl) (pv (r_mi rfl) (pv (r_mi rfl) (pv (r_ib rfl rfl rfl) (pv (r_mi rfl) (pv (r_mi rfl) (pv (r_ib rfl rfl rfl) (pv (r_mi rfl) (pv (r_mi rfl) (wl rfl (calS cf33 rfl (ref01_Left_sim (p0 := p1) (p1 := p2) (hS24.bun [0] [] rfl)  hx25) rfl fun v24 T24 w25 im25 rv24 => ?_))))))))))))
  obtain ⟨rfl, hS25, _⟩ := rv24
  have hS25 : Sep g T24 w25 [R] := hS25.unb
  obtain ⟨y25, hx26, hm⟩ := bindS hm
  refine pv (r_mi rfl) (pv (r_mi rfl) (wl rfl (calS cf34 rfl (ref01_RightS_sim (p0 := p1) (p1 := p2) (hS25.bun [0] [] rfl)  hx26) rfl fun v25 T25 w26 im26 rv25 => ?_)))
  obtain ⟨rfl, hS26, _⟩ := rv25
  have hS26 : Sep g T25 w26 [R] := hS26.unb
  obtain ⟨y26, hx27, hm⟩ := bindS hm
  refine pv (r_mi rfl) (pv (r_mi rfl) (pv (r_ib rfl rfl rfl) (wl rfl (calS cf35 rfl (ref10_truth_sim (p0 := y1 == y2) (hS26.bun [0] [] rfl)  hx27) rfl fun v26 T26 w27 im27 rv26 => ?_))))
  obtain ⟨rfl, hS27, _⟩ := rv26
  have hS27 : Sep g T26 w27 [R] := hS27.unb
  obtain ⟨y27, hx28, hm⟩ := bindS hm
  refine pv (r_mi rfl) (pv (r_mi rfl) (pv (r_ib rfl rfl rfl) (wl rfl (calS cf35 rfl (ref10_truth_sim (p0 := y1 != y2) (hS27.bun [0] [] rfl)  hx28) rfl fun v27 T27 w28 im28 rv27 => ?_))))
  obtain ⟨rfl, hS28, _⟩ := rv27
  have hS28 : Sep g T27 w28 [R] := hS28.unb
  obtain ⟨y28, hx29, hm⟩ := bindS hm
  refine pv (r_mi rfl) (pv (r_mi rfl) (pv (r_ib rfl rfl rfl) (wl rfl (calS cf35 rfl (ref10_truth_sim (p0 := decide (y1 < y2)) (hS28.bun [0] [] rfl)  hx29) rfl fun v28 T28 w29 im29 rv28 => ?_))))
  obtain ⟨rfl, hS29, _⟩ := rv28
  have hS29 : Sep g T28 w29 [R] := hS29.unb
  obtain ⟨y29, hx30, hm⟩ := bindS hm
  refine pv (r_mi rfl) (pv (r_mi rfl) (pv (r_ib rfl rfl rfl) (wl rfl (calS cf35 rfl (ref10_truth_sim (p0 := decide (y2 < y1)) (hS29.bun [0] [] rfl)  hx30) rfl fun v29 T29 w30 im30 rv29 => ?_))))
  obtain ⟨rfl, hS30, _⟩ := rv29
  have hS30 : Sep g T29 w30 [R] := hS30.unb
  obtain ⟨y30, hx31, hm⟩ := bindS hm
  refine pv (r_mi rfl) (pv (r_mi rfl) (pv (r_ib rfl rfl rfl) (wl rfl (calS cf35 rfl (ref10_truth_sim (p0 := decide (y1 ≤ y2)) (hS30.bun [0] [] rfl)  hx31) rfl fun v30 T30 w31 im31 rv30 => ?_))))
  obtain ⟨rfl, hS31, _⟩ := rv30
  have hS31 : Sep g T30 w31 [R] := hS31.unb
  obtain ⟨y31, hx32, hm⟩ := bindS hm
  refine pv (r_mi rfl) (pv (r_mi rfl) (pv (r_ib rfl rfl rfl) (wl rfl (calS cf35 rfl (ref10_truth_sim (p0 := decide (y2 ≤ y1)) (hS31.bun [0] [] rfl)  hx32) rfl fun v31 T31 w32 im32 rv31 => ?_))))
  obtain ⟨rfl, hS32, _⟩ := rv31
  have hS32 : Sep g T31 w32 [R] := hS32.unb
  obtain ⟨y32, hx33, hm⟩ := bindS hm
  refine pv (r_mi rfl) (wl rfl (calS cf29 rfl (ref01_Sub_sim (p0 := 0) (p1 := p1) (hS32.bun [0] [] rfl)  hx33) rfl fun v32 T32 w33 im33 rv32 => ?_))
  obtain ⟨rfl, hS33, _⟩ := rv32
  have hS33 : Sep g T32 w33 [R] := hS33.unb
  obtain ⟨y33, hx34, hm⟩ := bindS hm
  refine pv (r_mi rfl) (wl rfl (calS cf29 rfl (ref01_Sub_sim (p0 := 4294967295) (p1 := p1) (hS33.bun [0] [] rfl)  hx34) rfl fun v33 T33 w34 im34 rv33 => ?_))
  obtain ⟨rfl, hS34, _⟩ := rv33
  have hS34 : Sep g T33 w34 [R] := hS34.unb
  obtain ⟨y34, hx35, hm⟩ := bindS hm
  refine pv (r_mi rfl) (pv (r_ib rfl rfl rfl) (wl rfl (calS cf35 rfl (ref10_truth_sim (p0 := p1 == 0) (hS34.bun [0] [] rfl)  hx35) rfl fun v34 T34 w35 im35 rv34 => ?_)))
  obtain ⟨rfl, hS35, _⟩ := rv34
  have hS35 : Sep g T34 w35 [R] := hS35.unb
  refine wl rfl (bsS (r := (rInt .u32)) (l := ([0, y19, y20, y21, y22, y23, bits .and .u32 p1 p2, bits .or .u32 p1 p2, bits .xor .u32 p1 p2, y24, y25, y26, y27, y28, y29, y30, y31, y32, y33, y34] : List Int)) (css := [[.int .u32 0], [.int .u32 y19], [.int .u32 y20], [.int .u32 y21], [.int .u32 y22], [.int .u32 y23], [.int .u32 (bits .and .u32 p1 p2)], [.int .u32 (bits .or .u32 p1 p2)], [.int .u32 (bits .xor .u32 p1 p2)], [.int .u32 y24], [.int .u32 y25], [.int .u32 y26], [.int .u32 y27], [.int .u32 y28], [.int .u32 y29], [.int .u32 y30], [.int .u32 y31], [.int .u32 y32], [.int .u32 y33], [.int .u32 y34]]) hS35 Tryz.underlying68 Tryz.sizeOf22 Tryz.zeroValue22 rfl rfl (by kernel_rfl) rfl ⟨rfl, rfl, rfl, rfl, rfl, rfl, rfl, rfl, rfl, rfl, rfl, rfl, rfl, rfl, rfl, rfl, rfl, rfl, rfl, rfl, trivial⟩ rfl rfl fun w36 a2 n2 c2 im36 hS36 => ?_)
  refine pv (r_zs rfl) (nil (t_thenR [(0, .int .i64 p0), (10, .slice a2 n2 c2)] ⟨rfl, rfl, trivial⟩ fun J => ?_))
  refine sq2 (sq2 (rg (pv (r_mi rfl) (pv (r_ib rfl rfl rfl) (pv (r_mb rfl) (?_))))))
  rcases Bool.eq_false_or_eq_true (decide (p0 < 1)) with hb8 | hb8
  · have hm := ctrue hb8 hm
    refine gF (d0 := 89) rfl rfl (by rw [hb8]; rfl) (gF (d0 := 89) rfl rfl (by rw [hb8]; rfl) (gF (d0 := 89) rfl rfl (by rw [hb8]; rfl) (gF (d0 := 89) rfl rfl (by rw [hb8]; rfl) (pv (r_pkt rfl hb8 rfl) (nil (t_then ?_))))))
    refine cnd (b := true) rfl (fun _ => ?_) (fun h => nomatch h)
    refine sq2 (rg (pv (r_zi rfl) (pv (r_zi rfl) (nil (t_then ?_)))))
    have hm := oI hm; subst hm
    exact rtn (r_then (retN (vs := [.int .u32 0, .int .i64 1]) rfl ⟨rfl, rfl, trivial⟩ rfl ⟨_, rfl, _, (iT im1 (iT im2 (iT im20 (iT im21 (iT im22 (iT im23 (iT im24 (iT im25 (iT im26 (iT im27 (iT im28 (iT im29 (iT im30 (iT im31 (iT im32 (iT im33 (iT im34 (iT im35 im36)))))))))))))))))), ⟨rfl, hS36.sel [1] rfl, trivial⟩⟩))
  have hm := cfalse hb8 hm
  refine gT (d0 := 89) rfl rfl hb8 (pv (r_mi rfl) (gT (d0 := 89) rfl rfl hb8 (pv (r_ms rfl) (gT (d0 := 89) rfl rfl hb8 (pv (r_lnV rfl (hS36.own (i := 0) ⟨rfl, rfl⟩).v Tryz.underlying68) (gT (d0 := 89) rfl rfl hb8 (pv (r_ib rfl rfl rfl) (pv (r_pkf rfl hb8 rfl) (nil (t_then ?_))))))))))
  refine cnd rfl (fun hb9 => ?_) (fun hb9 => ?_)
  · have hm := ctrue hb9 hm
    refine sq2 (rg (pv (r_zi rfl) (pv (r_zi rfl) (nil (t_then ?_)))))
    have hm := oI hm; subst hm
    exact rtn (r_then (retN (vs := [.int .u32 0, .int .i64 1]) rfl ⟨rfl, rfl, trivial⟩ rfl ⟨_, rfl, _, (iT im1 (iT im2 (iT im20 (iT im21 (iT im22 (iT im23 (iT im24 (iT im25 (iT im26 (iT im27 (iT im28 (iT im29 (iT im30 (iT im31 (iT im32 (iT im33 (iT im34 (iT im35 im36)))))))))))))))))), ⟨rfl, hS36.sel [1] rfl, trivial⟩⟩))
  have hm := cfalse hb9 hm
  refine skp (t_then ?_)
  refine sq2 ?_
  obtain ⟨u2, hx36, hm⟩ := bindS hm
  obtain ⟨b2, of2, cs2, k2, cp2, hv2, hp2, hl2, he2, hr2, hc2⟩ := (hS36.own (i := 0) ⟨rfl, rfl⟩).v.ixq hx36 rfl
  cases hr2
  refine rg (pv (r_ms rfl) (pv (r_mi rfl) (pv (r_ixe hv2 rfl Tryz.underlying68 Tryz.sizeOf22 hp2 hl2 he2) (pv (r_ld rfl Tryz.isAgg22 (hc2.get (j := 0) rfl)) (pv (r_zi rfl) (pv (r_zi rfl) (nil (t_then ?_))))))))
  have hm := oI hm; subst hm
  exact rtn (retN (vs := [.int .u32 u2, .int .i64 0]) rfl ⟨rfl, rfl, trivial⟩ rfl ⟨_, rfl, _, (iT im1 (iT im2 (iT im20 (iT im21 (iT im22 (iT im23 (iT im24 (iT im25 (iT im26 (iT im27 (iT im28 (iT im29 (iT im30 (iT im31 (iT im32 (iT im33 (iT im34 (iT im35 im36)))))))))))))))))), ⟨rfl, hS36.sel [1] rfl, trivial⟩⟩)

set_option maxRecDepth 100000 in
set_option maxHeartbeats 1000000 in
theorem law10_CheckApplies_sim {g : World} {T0 : Nat → Prop} {w0 : World} {R : Assn} {p0 : Int} {p1 : Int} {p2 : Int} {r : Bool} (hS : Sep g T0 w0 [R])  (hm : law10_CheckApplies p0 p1 p2 = some r) :
    Calls Tryz.prog 3 #[.int .i64 p0, .int .u32 p1, .int .u32 p2] w0 (RetS T0 w0 fun T w v => v = .bool r ∧ Sep g T w [R] ∧ True) := by
  refine enter (args := [.int .i64 p0, .int .u32 p1, .int .u32 p2]) Tryz.func3 rfl Tryz.ntmps3 rfl fun J => ?_
  unfold law10_CheckApplies at hm
  refine sq2 (rg (pv (r_zb rfl) (nil (t_then ?_))))
  refine sq2 ?_
  obtain ⟨y1, hx1, hm⟩ := bindS hm
  refine rg (pv (r_mi rfl) (pv (r_mi rfl) (pv (r_mi rfl) (wl rfl (calS cf7 rfl (check_Apply_sim (p0 := p0) (p1 := p1) (p2 := p2) (hS.bun [0] [] rfl)  hx1) rfl fun v1 T1 w1 im1 rv1 => ?_)))))
  obtain ⟨rfl, hS1, _⟩ := rv1
  have hS1 : Sep g T1 w1 [R] := hS1.unb
  refine pv (r_mv rfl) (pv (r_ex (v := .int .u32 y1.1) rfl rfl) (pv (r_ex (v := .int .i64 y1.2) rfl rfl) (pv (r_zi rfl) (pv (r_zi rfl) (nil (t_then ?_))))))
  refine sq2 ?_
  obtain ⟨y2, hx2, hm⟩ := bindS hm
  refine rg (pv (r_mi rfl) (pv (r_mi rfl) (pv (r_mi rfl) (wl rfl (calS cf8 rfl (ref10_Apply_sim (p0 := p0) (p1 := p1) (p2 := p2) (hS1.bun [0] [] rfl)  hx2) rfl fun v2 T2 w2 im2 rv2 => ?_)))))
  obtain ⟨rfl, hS2, _⟩ := rv2
  have hS2 : Sep g T2 w2 [R] := hS2.unb
  refine pv (r_mv rfl) (pv (r_ex (v := .int .u32 y2.1) rfl rfl) (pv (r_ex (v := .int .i64 y2.2) rfl rfl) (pv (r_zi rfl) (pv (r_zi rfl) (nil (t_then ?_))))))
  refine sq2 ?_
  obtain ⟨y3, hx3, hm⟩ := bindS hm
  refine rg (wl rfl (calS cf9 rfl (law10_awake_sim  (hS2.bun [0] [] rfl)  hx3) rfl fun v3 T3 w3 im3 rv3 => ?_))
  obtain ⟨rfl, hS3, _⟩ := rv3
  have hS3 : Sep g T3 w3 [R] := hS3.unb
  refine pv (r_mb rfl) (?_)
  rcases Bool.eq_false_or_eq_true y3 with hb1 | hb1
  · have hm := ctrue hb1 hm
    refine gT (d0 := 26) rfl rfl hb1 (pv (r_mi rfl) (gT (d0 := 26) rfl rfl hb1 (pv (r_mi rfl) (gT (d0 := 26) rfl rfl hb1 (pv (r_ib rfl rfl rfl) (pv (r_pkt rfl hb1 rfl) (pv (r_mb rfl) (?_))))))))
    rcases Bool.eq_false_or_eq_true (y1.1 == y2.1) with hb2 | hb2
    · have hm := ctrue hb2 hm
      refine gT (d0 := 31) rfl rfl hb2 (pv (r_mi rfl) (gT (d0 := 31) rfl rfl hb2 (pv (r_mi rfl) (gT (d0 := 31) rfl rfl hb2 (pv (r_ib rfl rfl rfl) (pv (r_pkt rfl hb2 rfl) (pv (r_zb rfl) (nil (t_thenR [(6, .bool (y1.2 == y2.2))] ⟨rfl, trivial⟩ fun J => ?_)))))))))
      have hm := oI hm; subst hm
      exact rtn (ret1 rfl rfl ⟨_, rfl, _, (iT im1 (iT im2 im3)), ⟨rfl, hS3.sel [0] rfl, trivial⟩⟩)
    have hm := cfalse hb2 hm
    refine gF (d0 := 31) rfl rfl (by rw [hb2]; rfl) (gF (d0 := 31) rfl rfl (by rw [hb2]; rfl) (gF (d0 := 31) rfl rfl (by rw [hb2]; rfl) (pv (r_pkf rfl hb2 rfl) (pv (r_zb rfl) (nil (t_thenR [(6, .bool false)] ⟨rfl, trivial⟩ fun J => ?_))))))
    have hm := oI hm; subst hm
    exact rtn (ret1 rfl rfl ⟨_, rfl, _, (iT im1 (iT im2 im3)), ⟨rfl, hS3.sel [0] rfl, trivial⟩⟩)
  have hm := cfalse hb1 hm
  refine gF (d0 := 26) rfl rfl (by rw [hb1]; rfl) (gF (d0 := 26) rfl rfl (by rw [hb1]; rfl) (gF (d0 := 26) rfl rfl (by rw [hb1]; rfl) (pv (r_pkf rfl hb1 rfl) (pv (r_mb rfl) (gF (d0 := 31) rfl rfl rfl (gF (d0 := 31) rfl rfl rfl (gF (d0 := 31) rfl rfl rfl (pv (r_pkf rfl rfl rfl) (pv (r_zb rfl) (nil (t_thenR [(6, .bool false)] ⟨rfl, trivial⟩ fun J => ?_)))))))))))
  have hm := oI hm; subst hm
  exact rtn (ret1 rfl rfl ⟨_, rfl, _, (iT im1 (iT im2 im3)), ⟨rfl, hS3.sel [0] rfl, trivial⟩⟩)

structure Sp1 (G : Rec1) : Prop where
  law10_ref : ∀ {g : World} {T0 : Nat → Prop} {w0 : World} {R : Assn} {p0 : GTerm} {a1 : Option Addr} {c1 : Nat} {p1 : Int} {r : ref10Term × Int} (hS : Sep g T0 w0 [R]) (h1 : SlR rGTerm T0 w0 (.slice a1 (List.length p0.Kids) c1) p0.Kids) (hm : G.law10_ref p0 p1 = some r),
    Calls Tryz.prog 10 #[.agg (cGTerm p0 a1 c1).toArray, .int .i64 p1] w0 (RetS T0 w0 fun T w v => ∃ (a7 : Option Addr) (c7 : Nat), v = .tuple #[.agg (cref10Term r.1 a7 c7).toArray, .int .i64 r.2] ∧ Sep g T w [R] ∧ SlR rref10Term T w (.slice a7 (List.length r.1.Kids) c7) r.1.Kids ∧ True)
set_option maxRecDepth 100000 in
set_option maxHeartbeats 1000000 in
theorem law10_ref_st {G : Rec1} (hG : Sp1 G) {g : World} {T0 : Nat → Prop} {w0 : World} {R : Assn} {p0 : GTerm} {a1 : Option Addr} {c1 : Nat} {p1 : Int} {r : ref10Term × Int} (hS : Sep g T0 w0 [R]) (h1 : SlR rGTerm T0 w0 (.slice a1 (List.length p0.Kids) c1) p0.Kids) (hm : law10_ref_b G p0 p1 = some r) :
    Calls Tryz.prog 10 #[.agg (cGTerm p0 a1 c1).toArray, .int .i64 p1] w0 (RetS T0 w0 fun T w v => ∃ (a7 : Option Addr) (c7 : Nat), v = .tuple #[.agg (cref10Term r.1 a7 c7).toArray, .int .i64 r.2] ∧ Sep g T w [R] ∧ SlR rref10Term T w (.slice a7 (List.length r.1.Kids) c7) r.1.Kids ∧ True) := by
  refine enter (args := [.agg (cGTerm p0 a1 c1).toArray, .int .i64 p1]) Tryz.func10 rfl Tryz.ntmps10 rfl fun J => ?_
  unfold law10_ref_b at hm
  refine sq2 (rg (wl rfl (bxS (cs := (cGTerm p0 a1 c1)) rfl rfl hS fun w1 b1 im1 hS1 => ?_)))
  refine wl rfl (alS (zs := [.int .i64 0, .int .i64 0, .int .u32 0, .slice none 0 0]) Tryz.zeroValue35 rfl hS1 fun w2 b2 im2 hS2 => ?_)
  refine pv (r_zi rfl) (nil (t_then ?_))
  refine sq2 (rg (pv (r_fa rfl Tryz.underlying32 rfl Tryz.sizeOf3 rfl) (pv (r_ld rfl Tryz.isAgg3 (hS2.cell0 (i := 1) ⟨rfl, rfl⟩ (j := 0) rfl)) (pv (r_fa rfl Tryz.underlying32 rfl Tryz.sizeOf3 rfl) (pv (r_ld rfl Tryz.isAgg3 (hS2.cell0 (i := 1) ⟨rfl, rfl⟩ (j := 1) rfl)) (pv (r_fa rfl Tryz.underlying32 rfl Tryz.sizeOf22 rfl) (pv (r_ld rfl Tryz.isAgg22 (hS2.cell0 (i := 1) ⟨rfl, rfl⟩ (j := 2) rfl)) (pv (r_bd (by kernel_rfl) rfl (u := .agg #[.int .i64 p0.Kind, .int .i64 p0.Fn, .int .u32 p0.Num, .slice none 0 0])) (wl rfl (alS (zs := [.int .i64 0, .int .i64 0, .int .u32 0, .slice none 0 0]) Tryz.zeroValue35 rfl hS2 fun w3 b3 im3 hS3 => ?_))))))))))
  refine wl rfl (st0B (q := 0) hS3 ⟨rfl, rfl⟩ rfl rfl rfl Tryz.sizeOf35 rfl rfl rfl fun w4 im4 hS4 => ?_)
  have hS4 : Sep g T0 w4 [boxA b3 [.int .i64 p0.Kind, .int .i64 p0.Fn, .int .u32 p0.Num, .slice none 0 0], boxA b2 [.int .i64 0, .int .i64 0, .int .u32 0, .slice none 0 0], boxA b1 (cGTerm p0 a1 c1), R] := hS4
  refine nil (t_then ?_)
  refine sq2 (rg (pv (r_mi rfl) (pv (r_ib rfl rfl rfl) (pv (r_zi rfl) (nil (t_then ?_))))))
  refine sq2 (sq2 (rg (pv (r_zi rfl) (nil (t_then ?_)))))
  obtain ⟨o1, ho1, hq1⟩ := bindS hm
  obtain ⟨bd1, hbd1, ho1⟩ := loop_open ho1
  have hS5 := hS4.nilO rref10Term 35
  refine blk (wp_loop_ghost (fun m a w5 => ∃ (J : Nat → Value) (T1 : Nat → Prop) (x4 : ref10Term) (a2 : Option Addr) (n1 : Nat) (c2 : Nat) (x2 : Int) (x3 : Int), a = env (nf 49) J [(1, .int .i64 x2), (2, .pointer (some ⟨b1, 0, none⟩)), (4, .pointer (some ⟨b2, 0, none⟩)), (6, .pointer (some ⟨b3, 0, none⟩)), (7, .int .i64 x3)] ∧ Im T0 w4 T1 w5 ∧ Sep g T1 w5 [ownA rref10Term 35 (.slice a2 n1 c2) x4.Kids, boxA b3 [.int .i64 x4.Kind, .int .i64 x4.Fn, .int .u32 x4.Num, .slice a2 n1 c2], boxA b2 [.int .i64 0, .int .i64 0, .int .u32 0, .slice none 0 0], boxA b1 (cGTerm p0 a1 c1), R] ∧ loopM bd1 m (x2, x3, x4) = some o1) NN ⟨_, _, ({ p0 with Kids := [] }), _, _, _, (IntKind.wrap .i64 (p1 - 1)), 0, env_has ⟨rfl, rfl, rfl, rfl, rfl, trivial⟩, Im.refl, hS5.sel [0, 1, 2, 3, 4] rfl, ho1⟩ ?_)
  rintro m _ w5 ⟨J, T1, x4, a2, n1, c2, x2, x3, rfl, im5, hS6, ho1⟩
  obtain ⟨m1, z1, rfl, hm, hn1⟩ := loop_round ho1
  rw [hbd1] at hm
  refine sq2 (sq2 (rg (pv (r_mi rfl) (pv (r_fa rfl Tryz.underlying32 rfl Tryz.sizeOf30 rfl) (pv (r_ld rfl Tryz.isAgg30 (hS6.cell0 (i := 3) ⟨rfl, rfl⟩ (j := 8) rfl)) (pv (r_ln rfl Tryz.underlying30) (pv (r_ib rfl rfl rfl) (pv (r_mb rfl) (?_)))))))))
  rcases Bool.eq_false_or_eq_true (decide (x3 < (List.length p0.Kids : Int))) with hb1 | hb1
  · have hm := ctrue hb1 hm
    refine gT (d0 := 24) rfl rfl hb1 (pv (r_mi rfl) (gT (d0 := 24) rfl rfl hb1 (pv (r_ib rfl rfl rfl) (pv (r_pkt rfl hb1 rfl) (nil (t_then ?_))))))
    refine cnd rfl (fun hb2 => ?_) (fun hb2 => ?_)
    · have hm := ctrue hb2 hm
      refine skp (t_then ?_)
      refine sq2 (blk (sq2 ?_))
      obtain ⟨u1, hx1, hm⟩ := bindS hm
      obtain ⟨b4, of1, cs1, k1, cp1, hv1, hp1, hl1, he1, hr1, hc1, hT1⟩ := (h1.mono (iT im1 (iT im2 (iT im3 (iT im4 im5))))).ixT hx1 rfl
      obtain ⟨a3, c3, rfl, h2⟩ := rGTerm_open hr1
      obtain ⟨y1, hx2, hm⟩ := bindS hm
      refine rg (pv (r_fa rfl Tryz.underlying32 rfl Tryz.sizeOf30 rfl) (pv (r_ld rfl Tryz.isAgg30 (hS6.cell0 (i := 3) ⟨rfl, rfl⟩ (j := 8) rfl)) (pv (r_mi rfl) (pv (r_ixe hv1 rfl Tryz.underlying30 Tryz.sizeOf32 hp1 hl1 he1) (pv (r_ldS rfl Tryz.isAgg32 Tryz.sizeOf32 rfl hc1 (cs := (cGTerm u1 a3 c3))) (pv (r_mi rfl) (wl rfl (calS cf10 rfl (hG.law10_ref (p0 := u1) (p1 := x2) (hS6.bun [0, 1, 2, 3, 4] [] rfl) h2 hx2) rfl fun v1 T2 w6 im6 rv1 => ?_))))))))
      obtain ⟨a4, c4, rfl, hS7, h3, _⟩ := rv1
      have hS7 : Sep g T2 w6 [ownA rref10Term 35 (.slice a2 n1 c2) x4.Kids, boxA b3 [.int .i64 x4.Kind, .int .i64 x4.Fn, .int .u32 x4.Num, .slice a2 n1 c2], boxA b2 [.int .i64 0, .int .i64 0, .int .u32 0, .slice none 0 0], boxA b1 (cGTerm p0 a1 c1), R] := hS7.unb
      refine pv (r_mv rfl) (pv (r_ex (v := .agg (cref10Term y1.1 a4 c4).toArray) rfl rfl) (pv (r_ex (v := .int .i64 y1.2) rfl rfl) (wl rfl (alS (zs := [.int .i64 0, .int .i64 0, .int .u32 0, .slice none 0 0]) Tryz.zeroValue35 rfl hS7 fun w7 b5 im7 hS8 => ?_))))
      refine wl rfl (st0B (q := 0) hS8 ⟨rfl, rfl⟩ rfl rfl rfl Tryz.sizeOf35 rfl rfl rfl fun w8 im8 hS9 => ?_)
      have hS9 : Sep g T2 w8 [boxA b5 (cref10Term y1.1 a4 c4), ownA rref10Term 35 (.slice a2 n1 c2) x4.Kids, boxA b3 [.int .i64 x4.Kind, .int .i64 x4.Fn, .int .u32 x4.Num, .slice a2 n1 c2], boxA b2 [.int .i64 0, .int .i64 0, .int .u32 0, .slice none 0 0], boxA b1 (cGTerm p0 a1 c1), R] := hS9
      refine pv (r_zi rfl) (nil (t_then ?_))
      refine sq2 (rg (pv (r_fa rfl Tryz.underlying35 rfl Tryz.sizeOf33 rfl) (pv (r_ld rfl Tryz.isAgg33 (hS9.cell0 (i := 2) ⟨rfl, rfl⟩ (j := 3) rfl)) (pv (r_ldS rfl Tryz.isAgg35 Tryz.sizeOf35 rfl (hS9.cells0 (i := 0) ⟨rfl, rfl⟩ (o := 0) rfl) (cs := (cref10Term y1.1 a4 c4))) (wl rfl (bsS (r := rref10Term) (l := ([y1.1] : List ref10Term)) (css := [(cref10Term y1.1 a4 c4)]) hS9 Tryz.underlying33 Tryz.sizeOf35 Tryz.zeroValue35 rfl rfl (by kernel_rfl) rfl ⟨(rref10Term_mk (x := y1.1) (h3.mono (iT im7 im8)) : rref10Term.rp _ _ _ _), trivial⟩ rfl rfl fun w9 a5 n2 c5 im9 hS10 => ?_))))))
      obtain ⟨z_1, hro1, hm⟩ := bindS hm
      refine wl rfl (apO (q := 2) (l := x4.Kids) (us := ([y1.1] : List ref10Term)) hS10 ⟨rfl, rfl⟩ rfl rfl (hS10.own (i := 0) ⟨rfl, rfl⟩).v Tryz.underlying33 el35 (room_some hro1) fun w10 a6 n3 c6 im10 hS11 => ?_)
      have hS11 : Sep g T2 w10 [ownA rref10Term 35 (.slice a5 n2 c5) ([y1.1] : List ref10Term), boxA b5 (cref10Term y1.1 a4 c4), ownA rref10Term 35 (.slice a6 n3 c6) (x4.Kids ++ ([y1.1] : List ref10Term)), boxA b3 [.int .i64 x4.Kind, .int .i64 x4.Fn, .int .u32 x4.Num, .slice a2 n1 c2], boxA b2 [.int .i64 0, .int .i64 0, .int .u32 0, .slice none 0 0], boxA b1 (cGTerm p0 a1 c1), R] := hS11
      refine pv (r_fa rfl Tryz.underlying35 rfl Tryz.sizeOf33 rfl) (wl rfl (st0B (q := 3) hS11 ⟨rfl, rfl⟩ rfl rfl rfl Tryz.sizeOf33 rfl rfl rfl fun w11 im11 hS12 => ?_))
      have hS12 : Sep g T2 w11 [ownA rref10Term 35 (.slice a5 n2 c5) ([y1.1] : List ref10Term), boxA b5 (cref10Term y1.1 a4 c4), ownA rref10Term 35 (.slice a6 n3 c6) (x4.Kids ++ ([y1.1] : List ref10Term)), boxA b3 [.int .i64 x4.Kind, .int .i64 x4.Fn, .int .u32 x4.Num, .slice a6 n3 c6], boxA b2 [.int .i64 0, .int .i64 0, .int .u32 0, .slice none 0 0], boxA b1 (cGTerm p0 a1 c1), R] := hS12
      refine nil (t_thenR [(2, .pointer (some ⟨b1, 0, none⟩)), (4, .pointer (some ⟨b2, 0, none⟩)), (6, .pointer (some ⟨b3, 0, none⟩)), (7, .int .i64 x3), (9, .int .i64 y1.2)] ⟨rfl, rfl, rfl, rfl, rfl, trivial⟩ fun J => ?_)
      refine rg (pv (r_mi rfl) (pv (r_zi rfl) (nil (t_blk (t_then ?_)))))
      have hm := oI hm; subst hm
      exact rg (pv (r_mi rfl) (pv (r_ib rfl rfl rfl) (pv (r_zi rfl) (nil (t_then ⟨m1, Nat.lt_succ_self _, _, _, ({ x4 with Kids := x4.Kids ++ ([y1.1] : List ref10Term) }), _, _, _, y1.2, (IntKind.wrap .i64 (x3 + 1)), env_has ⟨rfl, rfl, rfl, rfl, rfl, trivial⟩, (iT im5 (iT im6 (iT im7 (iT im8 (iT im9 (iT im10 im11)))))), hS12.sel [2, 3, 4, 5, 6] rfl, hn1⟩)))))
    have hm := cfalse hb2 hm
    have hm := oI hm; subst hm
    have hn1 : _ = Lp.brk _ := hn1
    subst hn1
    have hm := thn_brk hq1
    refine xt (x_then (x_then (x_eq (t_then ?_))))
    refine sq2 (rg (pv (r_ldS rfl Tryz.isAgg35 Tryz.sizeOf35 rfl (hS6.cells0 (i := 1) ⟨rfl, rfl⟩ (o := 0) rfl) (cs := [.int .i64 x4.Kind, .int .i64 x4.Fn, .int .u32 x4.Num, .slice a2 n1 c2])) (pv (r_mi rfl) (wl rfl (st0B (q := 2) hS6 ⟨rfl, rfl⟩ rfl rfl rfl Tryz.sizeOf35 rfl rfl rfl fun w12 im12 hS13 => ?_)))))
    have hS13 : Sep g T1 w12 [ownA rref10Term 35 (.slice a2 n1 c2) x4.Kids, boxA b3 [.int .i64 x4.Kind, .int .i64 x4.Fn, .int .u32 x4.Num, .slice a2 n1 c2], boxA b2 [.int .i64 x4.Kind, .int .i64 x4.Fn, .int .u32 x4.Num, .slice a2 n1 c2], boxA b1 (cGTerm p0 a1 c1), R] := hS13
    refine pv (r_zi rfl) (nil (t_then ?_))
    obtain ⟨T3, im13, hS14, h4⟩ := hS13.seal 0 ⟨rfl, rfl⟩
    have hsh := h4.len
    subst hsh
    have hS14 : Sep g T3 w12 [empA, boxA b3 (cref10Term x4 a2 c2), boxA b2 (cref10Term x4 a2 c2), boxA b1 (cGTerm p0 a1 c1), R] := hS14
    have hm := oI hm; subst hm
    exact rtn (retN (vs := [.agg (cref10Term x4 a2 c2).toArray, .int .i64 x2]) rfl ⟨rvS rfl Tryz.isAgg35 Tryz.sizeOf35 rfl (hS14.bx (i := 2) ⟨rfl, rfl⟩), rfl, trivial⟩ rfl ⟨_, rfl, _, (iT im1 (iT im2 (iT im3 (iT im4 (iT im5 (iT im12 im13)))))), ⟨_, _, rfl, hS14.sel [4] rfl, h4, trivial⟩⟩)
  have hm := cfalse hb1 hm
  refine gF (d0 := 24) rfl rfl (by rw [hb1]; rfl) (gF (d0 := 24) rfl rfl (by rw [hb1]; rfl) (pv (r_pkf rfl hb1 rfl) (nil (t_then ?_))))
  refine cnd (b := false) rfl (fun h => nomatch h) (fun _ => ?_)
  have hm := oI hm; subst hm
  have hn1 : _ = Lp.brk _ := hn1
  subst hn1
  have hm := thn_brk hq1
  refine xt (x_then (x_then (x_eq (t_then ?_))))
  refine sq2 (rg (pv (r_ldS rfl Tryz.isAgg35 Tryz.sizeOf35 rfl (hS6.cells0 (i := 1) ⟨rfl, rfl⟩ (o := 0) rfl) (cs := [.int .i64 x4.Kind, .int .i64 x4.Fn, .int .u32 x4.Num, .slice a2 n1 c2])) (pv (r_mi rfl) (wl rfl (st0B (q := 2) hS6 ⟨rfl, rfl⟩ rfl rfl rfl Tryz.sizeOf35 rfl rfl rfl fun w13 im14 hS15 => ?_)))))
  have hS15 : Sep g T1 w13 [ownA rref10Term 35 (.slice a2 n1 c2) x4.Kids, boxA b3 [.int .i64 x4.Kind, .int .i64 x4.Fn, .int .u32 x4.Num, .slice a2 n1 c2], boxA b2 [.int .i64 x4.Kind, .int .i64 x4.Fn, .int .u32 x4.Num, .slice a2 n1 c2], boxA b1 (cGTerm p0 a1 c1), R] := hS15
  refine pv (r_zi rfl) (nil (t_then ?_))
  obtain ⟨T4, im15, hS16, h5⟩ := hS15.seal 0 ⟨rfl, rfl⟩
  have hsh := h5.len
  subst hsh
  have hS16 : Sep g T4 w13 [empA, boxA b3 (cref10Term x4 a2 c2), boxA b2 (cref10Term x4 a2 c2), boxA b1 (cGTerm p0 a1 c1), R] := hS16
  have hm := oI hm; subst hm
  exact rtn (retN (vs := [.agg (cref10Term x4 a2 c2).toArray, .int .i64 x2]) rfl ⟨rvS rfl Tryz.isAgg35 Tryz.sizeOf35 rfl (hS16.bx (i := 2) ⟨rfl, rfl⟩), rfl, trivial⟩ rfl ⟨_, rfl, _, (iT im1 (iT im2 (iT im3 (iT im4 (iT im5 (iT im14 im15)))))), ⟨_, _, rfl, hS16.sel [4] rfl, h5, trivial⟩⟩)
theorem sp1 : ∀ n, Sp1 (rec1 n)
  | 0 => ⟨by intros; rename_i h; cases (show (none : Option _) = some _ from h)⟩
  | n + 1 => ⟨law10_ref_st (sp1 n)⟩
theorem law10_ref_sim {g : World} {T0 : Nat → Prop} {w0 : World} {R : Assn} {p0 : GTerm} {a1 : Option Addr} {c1 : Nat} {p1 : Int} {r : ref10Term × Int} (hS : Sep g T0 w0 [R]) (h1 : SlR rGTerm T0 w0 (.slice a1 (List.length p0.Kids) c1) p0.Kids) (hm : law10_ref p0 p1 = some r) :
    Calls Tryz.prog 10 #[.agg (cGTerm p0 a1 c1).toArray, .int .i64 p1] w0 (RetS T0 w0 fun T w v => ∃ (a7 : Option Addr) (c7 : Nat), v = .tuple #[.agg (cref10Term r.1 a7 c7).toArray, .int .i64 r.2] ∧ Sep g T w [R] ∧ SlR rref10Term T w (.slice a7 (List.length r.1.Kids) c7) r.1.Kids ∧ True) := (sp1 NN).law10_ref hS h1 hm

set_option maxRecDepth 100000 in
set_option maxHeartbeats 1000000 in
theorem check_operands_sim {g : World} {T0 : Nat → Prop} {w0 : World} {R : Assn} {p0 : Int} {r : Int} (hS : Sep g T0 w0 [R])  (hm : check_operands p0 = some r) :
    Calls Tryz.prog 61 #[.int .i64 p0] w0 (RetS T0 w0 fun T w v => v = .int .i64 r ∧ Sep g T w [R] ∧ True) := by
  refine enter (args := [.int .i64 p0]) Tryz.func61 rfl Tryz.ntmps61 rfl fun J => ?_
  unfold check_operands at hm
  refine sq2 (rg (pv (r_zi rfl) (nil (t_then ?_))))
  refine sq2 (sq2 (rg (pv (r_mi rfl) (nil (t_then ?_)))))
  refine blk (sq2 (rg (pv (r_ib rfl rfl rfl) (pv (r_zb rfl) (nil (t_then ?_))))))
  refine cnd rfl (fun hb1 => ?_) (fun hb1 => ?_)
  · have hm := ctrue hb1 hm
    refine sq2 (rg (pv (r_zi rfl) (nil (t_then ?_))))
    have hm := oI hm; subst hm
    exact rtn (r_blk (r_then (ret1 rfl rfl ⟨_, rfl, _, Im.refl, ⟨rfl, hS.sel [0] rfl, trivial⟩⟩)))
  have hm := cfalse hb1 hm
  obtain ⟨kk1, hkk1, hm⟩ := jn_open hm
  refine cut (fun a w1 => ∃ (J : Nat → Value) (T1 : Nat → Prop) (x1 : Bool), a = env (nf 15) J [(3, .int .i64 p0), (6, .bool x1)] ∧ Im T0 w0 T1 w1 ∧ Sep g T1 w1 [R] ∧ kk1 x1 = some r) ?_ ?_
  · refine sq2 (rg (pv (r_ib rfl rfl rfl) (pv (r_zb rfl) (nil (t_then ?_)))))
    refine cnd rfl (fun hb2 => ?_) (fun hb2 => ?_)
    · have hm := ctrue hb2 hm
      exact skp (t_then ⟨_, _, (p0 == 5), env_has ⟨rfl, rfl, trivial⟩, Im.refl, hS.sel [0] rfl, hm⟩)
    have hm := cfalse hb2 hm
    exact rg (pv (r_ib rfl rfl rfl) (pv (r_zb rfl) (nil (t_then ⟨_, _, (p0 == 17), env_has ⟨rfl, rfl, trivial⟩, Im.refl, hS.sel [0] rfl, hm⟩))))
  rintro _ w1 ⟨J, T1, x1, rfl, im1, hS1, hm⟩
  rw [hkk1] at hm
  refine cnd rfl (fun hb3 => ?_) (fun hb3 => ?_)
  · have hm := ctrue hb3 hm
    refine sq2 (rg (pv (r_zi rfl) (nil (t_then ?_))))
    have hm := oI hm; subst hm
    exact rtn (r_blk (r_then (ret1 rfl rfl ⟨_, rfl, _, im1, ⟨rfl, hS1.sel [0] rfl, trivial⟩⟩)))
  have hm := cfalse hb3 hm
  obtain ⟨kk2, hkk2, hm⟩ := jn_open hm
  refine cut (fun a w2 => ∃ (J : Nat → Value) (T2 : Nat → Prop) (x2 : Bool), a = env (nf 15) J [(3, .int .i64 p0), (9, .bool x2)] ∧ Im T1 w1 T2 w2 ∧ Sep g T2 w2 [R] ∧ kk2 x2 = some r) ?_ ?_
  · refine sq2 (rg (pv (r_ib rfl rfl rfl) (pv (r_zb rfl) (nil (t_then ?_)))))
    refine cnd rfl (fun hb4 => ?_) (fun hb4 => ?_)
    · have hm := ctrue hb4 hm
      exact skp (t_then ⟨_, _, (p0 == 6), env_has ⟨rfl, rfl, trivial⟩, Im.refl, hS1.sel [0] rfl, hm⟩)
    have hm := cfalse hb4 hm
    refine sq2 (rg (pv (r_ib rfl rfl rfl) (pv (r_zb rfl) (nil (t_then ?_)))))
    refine cnd rfl (fun hb5 => ?_) (fun hb5 => ?_)
    · have hm := ctrue hb5 hm
      exact skp (t_then ⟨_, _, (p0 == 7), env_has ⟨rfl, rfl, trivial⟩, Im.refl, hS1.sel [0] rfl, hm⟩)
    have hm := cfalse hb5 hm
    exact rg (pv (r_ib rfl rfl rfl) (pv (r_zb rfl) (nil (t_then ⟨_, _, (p0 == 8), env_has ⟨rfl, rfl, trivial⟩, Im.refl, hS1.sel [0] rfl, hm⟩))))
  rintro _ w2 ⟨J, T2, x2, rfl, im2, hS2, hm⟩
  rw [hkk2] at hm
  refine cnd rfl (fun hb6 => ?_) (fun hb6 => ?_)
  · have hm := ctrue hb6 hm
    refine sq2 (rg (pv (r_zi rfl) (nil (t_then ?_))))
    have hm := oI hm; subst hm
    exact rtn (r_blk (r_then (ret1 rfl rfl ⟨_, rfl, _, (iT im1 im2), ⟨rfl, hS2.sel [0] rfl, trivial⟩⟩)))
  have hm := cfalse hb6 hm
  refine sq2 (rg (pv (r_ib rfl rfl rfl) (pv (r_zb rfl) (nil (t_then ?_)))))
  refine cnd rfl (fun hb7 => ?_) (fun hb7 => ?_)
  · have hm := ctrue hb7 hm
    refine sq2 (rg (pv (r_zi rfl) (nil (t_then ?_))))
    have hm := oI hm; subst hm
    exact rtn (r_blk (r_then (ret1 rfl rfl ⟨_, rfl, _, (iT im1 im2), ⟨rfl, hS2.sel [0] rfl, trivial⟩⟩)))
  have hm := cfalse hb7 hm
  refine skp (t_blk (t_then ?_))
  refine sq2 (rg (pv (r_zi rfl) (nil (t_then ?_))))
  have hm := oI hm; subst hm
  exact rtn (ret1 rfl rfl ⟨_, rfl, _, (iT im1 im2), ⟨rfl, hS2.sel [0] rfl, trivial⟩⟩)

structure Sp2 (G : Rec2) : Prop where
  check_numbers : ∀ {g : World} {T0 : Nat → Prop} {w0 : World} {R : Assn} {p0 : GTerm} {a1 : Option Addr} {c1 : Nat} {r : Bool} (hS : Sep g T0 w0 [R]) (h1 : SlR rGTerm T0 w0 (.slice a1 (List.length p0.Kids) c1) p0.Kids) (hm : G.check_numbers p0 = some r),
    Calls Tryz.prog 36 #[.agg (cGTerm p0 a1 c1).toArray] w0 (RetS T0 w0 fun T w v => v = .bool r ∧ Sep g T w [R] ∧ True)
set_option maxRecDepth 100000 in
set_option maxHeartbeats 1000000 in
theorem check_numbers_st {G : Rec2} (hG : Sp2 G) {g : World} {T0 : Nat → Prop} {w0 : World} {R : Assn} {p0 : GTerm} {a1 : Option Addr} {c1 : Nat} {r : Bool} (hS : Sep g T0 w0 [R]) (h1 : SlR rGTerm T0 w0 (.slice a1 (List.length p0.Kids) c1) p0.Kids) (hm : check_numbers_b G p0 = some r) :
    Calls Tryz.prog 36 #[.agg (cGTerm p0 a1 c1).toArray] w0 (RetS T0 w0 fun T w v => v = .bool r ∧ Sep g T w [R] ∧ True) := by
  refine enter (args := [.agg (cGTerm p0 a1 c1).toArray]) Tryz.func36 rfl Tryz.ntmps36 rfl fun J => ?_
  unfold check_numbers_b at hm
  refine sq2 (rg (wl rfl (bxS (cs := (cGTerm p0 a1 c1)) rfl rfl hS fun w1 b1 im1 hS1 => ?_)))
  refine pv (r_zb rfl) (nil (t_then ?_))
  refine sq2 (sq2 (rs [0, 1, 0, 0, 1, 2, 0] [0, 1, 2, 3, 4, 5, 6] mix (by kernel_rfl) hS1.lt fun w2 i1 => ?_))
  have im2 := i1.imm
  have hS2 := hS1.keep i1 (fun _ h => h)
  obtain ⟨y1, hx1, hm⟩ := bindS hm
  refine s0 rfl trivial (fun _ => r_fa rfl Tryz.underlying32 rfl Tryz.sizeOf30 rfl) rfl (s1 rfl trivial (r_ld rfl Tryz.isAgg30 (hS2.cell0 (i := 0) ⟨rfl, rfl⟩ (j := 8) rfl)) rfl (s0 rfl trivial (fun _ => r_ln rfl Tryz.underlying30) rfl (s0 rfl trivial (fun _ => r_fa rfl Tryz.underlying32 rfl Tryz.sizeOf3 rfl) rfl (s1 rfl trivial (r_ld rfl Tryz.isAgg3 (hS2.cell0 (i := 0) ⟨rfl, rfl⟩ (j := 0) rfl)) rfl (s2 [(1, .slice a1 (List.length p0.Kids) c1)] rfl trivial rfl (by kernel_rfl) (calS cf61 rfl (check_operands_sim (p0 := p0.Kind) (hS2.bun [0, 1] [] rfl)  hx1) rfl fun v1 T1 w3 im3 rv1 => ?_))))))
  obtain ⟨rfl, hS3, _⟩ := rv1
  have hS3 : Sep g T1 w3 [boxA b1 (cGTerm p0 a1 c1), R] := hS3.unb
  refine ⟨st1 rfl (r_ld rfl Tryz.isAgg30 (hS3.cell0 (i := 0) ⟨rfl, rfl⟩ (j := 8) rfl)) (st0), ?_⟩
  refine s0 rfl trivial (fun _ => r_ib rfl rfl rfl) rfl (se (t_then ?_))
  refine cnd rfl (fun hb1 => ?_) (fun hb1 => ?_)
  · have hm := ctrue hb1 hm
    refine sq2 (rg (pv (r_zb rfl) (nil (t_then ?_))))
    have hm := oI hm; subst hm
    exact rtn (r_then (ret1 rfl rfl ⟨_, rfl, _, (iT im1 (iT im2 im3)), ⟨rfl, hS3.sel [1] rfl, trivial⟩⟩))
  have hm := cfalse hb1 hm
  refine skp (t_then ?_)
  refine sq2 (sq2 (rg (pv (r_fa rfl Tryz.underlying32 rfl Tryz.sizeOf30 rfl) (pv (r_ld rfl Tryz.isAgg30 (hS3.cell0 (i := 0) ⟨rfl, rfl⟩ (j := 8) rfl)) (pv (r_ln rfl Tryz.underlying30) (pv (r_mi rfl) (nil (t_then ?_))))))))
  obtain ⟨o1, ho1, hq1⟩ := bindS hm
  obtain ⟨bd1, hbd1, ho1⟩ := loop_open ho1
  refine blk (wp_loop_ghost (fun m a w4 => ∃ (J : Nat → Value) (T2 : Nat → Prop) (x1 : Int), a = env (nf 23) J [(13, .slice a1 (List.length p0.Kids) c1), (14, .int .i64 (List.length p0.Kids : Int)), (15, .int .i64 x1)] ∧ Im T1 w3 T2 w4 ∧ Sep g T2 w4 [R] ∧ loopM bd1 m x1 = some o1) NN ⟨_, _, 0, env_has ⟨rfl, rfl, rfl, trivial⟩, Im.refl, hS3.sel [1] rfl, ho1⟩ ?_)
  rintro m _ w4 ⟨J, T2, x1, rfl, im4, hS4, ho1⟩
  obtain ⟨m1, z1, rfl, hm, hn1⟩ := loop_round ho1
  rw [hbd1] at hm
  refine sq2 (rg (pv (r_ib rfl rfl rfl) (nil (t_then ?_))))
  refine sq2 (cnd rfl (fun hb2 => ?_) (fun hb2 => ?_))
  · have hm := ctrue hb2 hm
    refine skp (t_then ?_)
    refine sq2 (blk (sq2 ?_))
    obtain ⟨u1, hx2, hm⟩ := bindS hm
    obtain ⟨b2, of1, cs1, k1, cp1, hv1, hp1, hl1, he1, hr1, hc1, hT1⟩ := (h1.mono (iT im1 (iT im2 (iT im3 im4)))).ixT hx2 rfl
    obtain ⟨a2, c2, rfl, h2⟩ := rGTerm_open hr1
    refine rg (pv (r_ixe hv1 rfl Tryz.underlying30 Tryz.sizeOf32 hp1 hl1 he1) (pv (r_ldS rfl Tryz.isAgg32 Tryz.sizeOf32 rfl hc1 (cs := (cGTerm u1 a2 c2))) (wl rfl (alS (zs := [.int .i64 0, .int .i64 0, .int .u32 0, .int .i64 0, .bool false, .int .i64 0, .bool false, .bool false, .slice none 0 0]) Tryz.zeroValue32 rfl hS4 fun w5 b3 im5 hS5 => ?_))))
    refine wl rfl (st0B (q := 0) hS5 ⟨rfl, rfl⟩ rfl rfl rfl Tryz.sizeOf32 rfl rfl rfl fun w6 im6 hS6 => ?_)
    have hS6 : Sep g T2 w6 [boxA b3 (cGTerm u1 a2 c2), R] := hS6
    refine nil (t_then ?_)
    refine sq2 ?_
    obtain ⟨y2, hx3, hm⟩ := bindS hm
    refine rg (pv (r_ldS rfl Tryz.isAgg32 Tryz.sizeOf32 rfl (hS6.cells0 (i := 0) ⟨rfl, rfl⟩ (o := 0) rfl) (cs := (cGTerm u1 a2 c2))) (wl rfl (calS cf36 rfl (hG.check_numbers (p0 := u1) (hS6.bun [1] [] rfl) (h2.mono (iT im5 im6)) hx3) rfl fun v2 T3 w7 im7 rv2 => ?_)))
    obtain ⟨rfl, hS7, _⟩ := rv2
    have hS7 : Sep g T3 w7 [R] := hS7.unb
    refine pv (r_nt rfl) (nil (t_then ?_))
    refine cnd rfl (fun hb3 => ?_) (fun hb3 => ?_)
    · have hm := ctrue hb3 hm
      refine sq2 (rg (pv (r_zb rfl) (nil (t_then ?_))))
      have hm := oI hm; subst hm
      have hn1 : _ = Lp.ret _ := hn1
      subst hn1
      have hm := thn_ret hq1
      have hm := oI hm; subst hm
      exact rtn (r_blk (r_then (r_then (r_blk (r_then (ret1 rfl rfl ⟨_, rfl, _, (iT im1 (iT im2 (iT im3 (iT im4 (iT im5 (iT im6 im7)))))), ⟨rfl, hS7.sel [0] rfl, trivial⟩⟩))))))
    have hm := cfalse hb3 hm
    refine skp (t_blk (t_then ?_))
    have hm := oI hm; subst hm
    exact rg (pv (r_ib rfl rfl rfl) (pv (r_mi rfl) (nil (t_then ⟨m1, Nat.lt_succ_self _, _, _, (IntKind.wrap .i64 (x1 + 1)), env_has ⟨rfl, rfl, rfl, trivial⟩, (iT im4 (iT im5 (iT im6 im7))), hS7.sel [0] rfl, hn1⟩))))
  have hm := cfalse hb2 hm
  have hm := oI hm; subst hm
  have hn1 : _ = Lp.brk _ := hn1
  subst hn1
  have hm := thn_brk hq1
  refine xt (x_then (x_then (x_eq (t_then ?_))))
  refine sq2 (rg (pv (r_zb rfl) (nil (t_then ?_))))
  have hm := oI hm; subst hm
  exact rtn (ret1 rfl rfl ⟨_, rfl, _, (iT im1 (iT im2 (iT im3 im4))), ⟨rfl, hS4.sel [0] rfl, trivial⟩⟩)
theorem sp2 : ∀ n, Sp2 (rec2 n)
  | 0 => ⟨by intros; rename_i h; cases (show (none : Option _) = some _ from h)⟩
  | n + 1 => ⟨check_numbers_st (sp2 n)⟩
theorem check_numbers_sim {g : World} {T0 : Nat → Prop} {w0 : World} {R : Assn} {p0 : GTerm} {a1 : Option Addr} {c1 : Nat} {r : Bool} (hS : Sep g T0 w0 [R]) (h1 : SlR rGTerm T0 w0 (.slice a1 (List.length p0.Kids) c1) p0.Kids) (hm : check_numbers p0 = some r) :
    Calls Tryz.prog 36 #[.agg (cGTerm p0 a1 c1).toArray] w0 (RetS T0 w0 fun T w v => v = .bool r ∧ Sep g T w [R] ∧ True) := (sp2 NN).check_numbers hS h1 hm

structure Sp3 (G : Rec3) : Prop where
  check_fold : ∀ {g : World} {T0 : Nat → Prop} {w0 : World} {R : Assn} {p0 : GTerm} {a1 : Option Addr} {c1 : Nat} {r : Int × Int} (hS : Sep g T0 w0 [R]) (h1 : SlR rGTerm T0 w0 (.slice a1 (List.length p0.Kids) c1) p0.Kids) (hm : G.check_fold p0 = some r),
    Calls Tryz.prog 37 #[.agg (cGTerm p0 a1 c1).toArray] w0 (RetS T0 w0 fun T w v => v = .tuple #[.int .u32 r.1, .int .i64 r.2] ∧ Sep g T w [R] ∧ True)
set_option maxRecDepth 100000 in
set_option maxHeartbeats 1000000 in
theorem check_fold_st {G : Rec3} (hG : Sp3 G) {g : World} {T0 : Nat → Prop} {w0 : World} {R : Assn} {p0 : GTerm} {a1 : Option Addr} {c1 : Nat} {r : Int × Int} (hS : Sep g T0 w0 [R]) (h1 : SlR rGTerm T0 w0 (.slice a1 (List.length p0.Kids) c1) p0.Kids) (hm : check_fold_b G p0 = some r) :
    Calls Tryz.prog 37 #[.agg (cGTerm p0 a1 c1).toArray] w0 (RetS T0 w0 fun T w v => v = .tuple #[.int .u32 r.1, .int .i64 r.2] ∧ Sep g T w [R] ∧ True) := by
  refine enter (args := [.agg (cGTerm p0 a1 c1).toArray]) Tryz.func37 rfl Tryz.ntmps37 rfl fun J => ?_
  unfold check_fold_b at hm
  refine sq2 (rg (wl rfl (bxS (cs := (cGTerm p0 a1 c1)) rfl rfl hS fun w1 b1 im1 hS1 => ?_)))
  refine pv (r_zi rfl) (pv (r_zi rfl) (nil (t_then ?_)))
  refine sq2 (sq2 (rg (pv (r_fa rfl Tryz.underlying32 rfl Tryz.sizeOf3 rfl) (pv (r_ld rfl Tryz.isAgg3 (hS1.cell0 (i := 0) ⟨rfl, rfl⟩ (j := 0) rfl)) (pv (r_ib rfl rfl rfl) (nil (t_then ?_)))))))
  refine cnd rfl (fun hb1 => ?_) (fun hb1 => ?_)
  · have hm := ctrue hb1 hm
    refine sq2 (rg (pv (r_fa rfl Tryz.underlying32 rfl Tryz.sizeOf22 rfl) (pv (r_ld rfl Tryz.isAgg22 (hS1.cell0 (i := 0) ⟨rfl, rfl⟩ (j := 2) rfl)) (pv (r_zi rfl) (pv (r_zi rfl) (nil (t_then ?_)))))))
    have hm := oI hm; subst hm
    exact rtn (r_then (retN (vs := [.int .u32 p0.Num, .int .i64 0]) rfl ⟨rfl, rfl, trivial⟩ rfl ⟨_, rfl, _, im1, ⟨rfl, hS1.sel [1] rfl, trivial⟩⟩))
  have hm := cfalse hb1 hm
  refine skp (t_then ?_)
  refine sq2 ?_
  obtain ⟨u1, hx1, hm⟩ := bindS hm
  obtain ⟨b2, of1, cs1, k1, cp1, hv1, hp1, hl1, he1, hr1, hc1, hT1⟩ := (h1.mono im1).ixT hx1 rfl
  obtain ⟨a2, c2, rfl, h2⟩ := rGTerm_open hr1
  obtain ⟨y1, hx2, hm⟩ := bindS hm
  refine rg (pv (r_fa rfl Tryz.underlying32 rfl Tryz.sizeOf30 rfl) (pv (r_ld rfl Tryz.isAgg30 (hS1.cell0 (i := 0) ⟨rfl, rfl⟩ (j := 8) rfl)) (pv (r_ixe hv1 rfl Tryz.underlying30 Tryz.sizeOf32 hp1 hl1 he1) (pv (r_ldS rfl Tryz.isAgg32 Tryz.sizeOf32 rfl hc1 (cs := (cGTerm u1 a2 c2))) (wl rfl (calS cf37 rfl (hG.check_fold (p0 := u1) (hS1.bun [0, 1] [] rfl) h2 hx2) rfl fun v1 T1 w2 im2 rv1 => ?_))))))
  obtain ⟨rfl, hS2, _⟩ := rv1
  have hS2 : Sep g T1 w2 [boxA b1 (cGTerm p0 a1 c1), R] := hS2.unb
  refine pv (r_mv rfl) (pv (r_ex (v := .int .u32 y1.1) rfl rfl) (pv (r_ex (v := .int .i64 y1.2) rfl rfl) (pv (r_zi rfl) (pv (r_zi rfl) (nil (t_then ?_))))))
  refine sq2 (sq2 (rg (pv (r_mi rfl) (pv (r_ib rfl rfl rfl) (nil (t_then ?_))))))
  refine cnd rfl (fun hb2 => ?_) (fun hb2 => ?_)
  · have hm := ctrue hb2 hm
    refine sq2 (rg (pv (r_mi rfl) (pv (r_zi rfl) (pv (r_zi rfl) (nil (t_then ?_))))))
    have hm := oI hm; subst hm
    exact rtn (r_then (retN (vs := [.int .u32 0, .int .i64 y1.2]) rfl ⟨rfl, rfl, trivial⟩ rfl ⟨_, rfl, _, (iT im1 im2), ⟨rfl, hS2.sel [1] rfl, trivial⟩⟩))
  have hm := cfalse hb2 hm
  refine skp (t_then ?_)
  obtain ⟨kk1, hkk1, hm⟩ := jn_open hm
  refine cut (fun a w3 => ∃ (J : Nat → Value) (T2 : Nat → Prop) , a = env (nf 93) J [(1, .pointer (some ⟨b1, 0, none⟩)), (4, .int .u32 y1.1)] ∧ Im T1 w2 T2 w3 ∧ Sep g T2 w3 [boxA b1 (cGTerm p0 a1 c1), R] ∧ kk1 () = some r) ?_ ?_
  · refine sq2 (rg (pv (r_fa rfl Tryz.underlying32 rfl Tryz.sizeOf3 rfl) (pv (r_ld rfl Tryz.isAgg3 (hS2.cell0 (i := 0) ⟨rfl, rfl⟩ (j := 0) rfl)) (nil (t_then ?_)))))
    refine blk (sq2 (rg (pv (r_ib rfl rfl rfl) (pv (r_zb rfl) (nil (t_then ?_))))))
    refine cnd rfl (fun hb3 => ?_) (fun hb3 => ?_)
    · have hm := ctrue hb3 hm
      refine sq2 (rg (pv (r_mi rfl) (pv (r_ib rfl rfl rfl) (pv (r_zi rfl) (pv (r_zi rfl) (nil (t_thenR [(2, .int .u32 (bits .and .u32 y1.1 255)), (3, .int .i64 0)] ⟨rfl, rfl, trivial⟩ fun J => ?_)))))))
      have hm := oI hm; subst hm
      exact rtn (r_blk (r_then (retN (vs := [.int .u32 (bits .and .u32 y1.1 255), .int .i64 0]) rfl ⟨rfl, rfl, trivial⟩ rfl ⟨_, rfl, _, (iT im1 im2), ⟨rfl, hS2.sel [1] rfl, trivial⟩⟩)))
    have hm := cfalse hb3 hm
    refine sq2 (rg (pv (r_ib rfl rfl rfl) (pv (r_zb rfl) (nil (t_then ?_)))))
    refine cnd rfl (fun hb4 => ?_) (fun hb4 => ?_)
    · have hm := ctrue hb4 hm
      refine sq2 ?_
      obtain ⟨y2, hx3, hm⟩ := bindS hm
      refine rg (pv (r_fa rfl Tryz.underlying32 rfl Tryz.sizeOf3 rfl) (pv (r_ld rfl Tryz.isAgg3 (hS2.cell0 (i := 0) ⟨rfl, rfl⟩ (j := 1) rfl)) (pv (r_mi rfl) (wl rfl (calS cf7 rfl (check_Apply_sim (p0 := p0.Fn) (p1 := y1.1) (p2 := 0) (hS2.bun [1] [] rfl)  hx3) rfl fun v2 T3 w4 im4 rv2 => ?_)))))
      obtain ⟨rfl, hS3, _⟩ := rv2
      have hS3 : Sep g T3 w4 [R] := hS3.unb
      refine pv (r_ex (v := .int .u32 y2.1) rfl rfl) (pv (r_ex (v := .int .i64 y2.2) rfl rfl) (pv (r_zi rfl) (pv (r_zi rfl) (nil (t_thenR [(2, .int .u32 y2.1), (3, .int .i64 y2.2)] ⟨rfl, rfl, trivial⟩ fun J => ?_)))))
      have hm := oI hm; subst hm
      exact rtn (r_blk (r_then (retN (vs := [.int .u32 y2.1, .int .i64 y2.2]) rfl ⟨rfl, rfl, trivial⟩ rfl ⟨_, rfl, _, (iT im1 (iT im2 im4)), ⟨rfl, hS3.sel [0] rfl, trivial⟩⟩)))
    have hm := cfalse hb4 hm
    refine sq2 (rg (pv (r_ib rfl rfl rfl) (pv (r_zb rfl) (nil (t_then ?_)))))
    refine cnd rfl (fun hb5 => ?_) (fun hb5 => ?_)
    · have hm := ctrue hb5 hm
      refine sq2 (sq2 (rg (pv (r_mi rfl) (pv (r_ib rfl rfl rfl) (nil (t_thenR [(1, .pointer (some ⟨b1, 0, none⟩)), (40, .bool (y1.1 != 0))] ⟨rfl, rfl, trivial⟩ fun J => ?_))))))
      refine cnd rfl (fun hb6 => ?_) (fun hb6 => ?_)
      · have hm := ctrue hb6 hm
        refine sq2 ?_
        obtain ⟨u2, hx4, hm⟩ := bindS hm
        obtain ⟨b3, of2, cs2, k2, cp2, hv2, hp2, hl2, he2, hr2, hc2, hT2⟩ := (h1.mono (iT im1 im2)).ixT hx4 rfl
        obtain ⟨a3, c3, rfl, h3⟩ := rGTerm_open hr2
        obtain ⟨y3, hx5, hm⟩ := bindS hm
        refine rg (pv (r_fa rfl Tryz.underlying32 rfl Tryz.sizeOf30 rfl) (pv (r_ld rfl Tryz.isAgg30 (hS2.cell0 (i := 0) ⟨rfl, rfl⟩ (j := 8) rfl)) (pv (r_ixe hv2 rfl Tryz.underlying30 Tryz.sizeOf32 hp2 hl2 he2) (pv (r_ldS rfl Tryz.isAgg32 Tryz.sizeOf32 rfl hc2 (cs := (cGTerm u2 a3 c3))) (wl rfl (calS cf37 rfl (hG.check_fold (p0 := u2) (hS2.bun [1] [] rfl) h3 hx5) rfl fun v3 T4 w5 im5 rv3 => ?_))))))
        obtain ⟨rfl, hS4, _⟩ := rv3
        have hS4 : Sep g T4 w5 [R] := hS4.unb
        refine pv (r_ex (v := .int .u32 y3.1) rfl rfl) (pv (r_ex (v := .int .i64 y3.2) rfl rfl) (pv (r_zi rfl) (pv (r_zi rfl) (nil (t_then ?_)))))
        have hm := oI hm; subst hm
        exact rtn (r_then (r_blk (r_then (retN (vs := [.int .u32 y3.1, .int .i64 y3.2]) rfl ⟨rfl, rfl, trivial⟩ rfl ⟨_, rfl, _, (iT im1 (iT im2 im5)), ⟨rfl, hS4.sel [0] rfl, trivial⟩⟩))))
      have hm := cfalse hb6 hm
      refine skp (t_then ?_)
      refine sq2 ?_
      obtain ⟨u3, hx6, hm⟩ := bindS hm
      obtain ⟨b4, of3, cs3, k3, cp3, hv3, hp3, hl3, he3, hr3, hc3, hT3⟩ := (h1.mono (iT im1 im2)).ixT hx6 rfl
      obtain ⟨a4, c4, rfl, h4⟩ := rGTerm_open hr3
      obtain ⟨y4, hx7, hm⟩ := bindS hm
      refine rg (pv (r_fa rfl Tryz.underlying32 rfl Tryz.sizeOf30 rfl) (pv (r_ld rfl Tryz.isAgg30 (hS2.cell0 (i := 0) ⟨rfl, rfl⟩ (j := 8) rfl)) (pv (r_ixe hv3 rfl Tryz.underlying30 Tryz.sizeOf32 hp3 hl3 he3) (pv (r_ldS rfl Tryz.isAgg32 Tryz.sizeOf32 rfl hc3 (cs := (cGTerm u3 a4 c4))) (wl rfl (calS cf37 rfl (hG.check_fold (p0 := u3) (hS2.bun [1] [] rfl) h4 hx7) rfl fun v4 T5 w6 im6 rv4 => ?_))))))
      obtain ⟨rfl, hS5, _⟩ := rv4
      have hS5 : Sep g T5 w6 [R] := hS5.unb
      refine pv (r_ex (v := .int .u32 y4.1) rfl rfl) (pv (r_ex (v := .int .i64 y4.2) rfl rfl) (pv (r_zi rfl) (pv (r_zi rfl) (nil (t_then ?_)))))
      have hm := oI hm; subst hm
      exact rtn (r_blk (r_then (retN (vs := [.int .u32 y4.1, .int .i64 y4.2]) rfl ⟨rfl, rfl, trivial⟩ rfl ⟨_, rfl, _, (iT im1 (iT im2 im6)), ⟨rfl, hS5.sel [0] rfl, trivial⟩⟩)))
    have hm := cfalse hb5 hm
    obtain ⟨kk2, hkk2, hm⟩ := jn_open hm
    refine cut (fun a w7 => ∃ (J : Nat → Value) (T6 : Nat → Prop) (x1 : Bool), a = env (nf 93) J [(1, .pointer (some ⟨b1, 0, none⟩)), (4, .int .u32 y1.1), (55, .bool x1)] ∧ Im T1 w2 T6 w7 ∧ Sep g T6 w7 [boxA b1 (cGTerm p0 a1 c1), R] ∧ kk2 x1 = some r) ?_ ?_
    · refine sq2 (rg (pv (r_ib rfl rfl rfl) (pv (r_zb rfl) (nil (t_thenR [(1, .pointer (some ⟨b1, 0, none⟩)), (4, .int .u32 y1.1), (24, .int .i64 p0.Kind), (55, .bool (p0.Kind == 7))] ⟨rfl, rfl, rfl, rfl, trivial⟩ fun J => ?_)))))
      refine cnd rfl (fun hb7 => ?_) (fun hb7 => ?_)
      · have hm := ctrue hb7 hm
        exact skp (t_then ⟨_, _, (p0.Kind == 7), env_has ⟨rfl, rfl, rfl, trivial⟩, Im.refl, hS2.sel [0, 1] rfl, hm⟩)
      have hm := cfalse hb7 hm
      exact rg (pv (r_ib rfl rfl rfl) (pv (r_zb rfl) (nil (t_then ⟨_, _, (p0.Kind == 8), env_has ⟨rfl, rfl, rfl, trivial⟩, Im.refl, hS2.sel [0, 1] rfl, hm⟩))))
    rintro _ w7 ⟨J, T6, x1, rfl, im7, hS6, hm⟩
    rw [hkk2] at hm
    refine cnd rfl (fun hb8 => ?_) (fun hb8 => ?_)
    · have hm := ctrue hb8 hm
      refine sq2 (rg (pv (r_mi rfl) (pv (r_ib rfl rfl rfl) (pv (r_fa rfl Tryz.underlying32 rfl Tryz.sizeOf3 rfl) (pv (r_ld rfl Tryz.isAgg3 (hS6.cell0 (i := 0) ⟨rfl, rfl⟩ (j := 0) rfl)) (pv (r_ib rfl rfl rfl) (pv (r_bq rfl rfl Tryz.underlying4) (nil (t_then ?_)))))))))
      refine cnd rfl (fun hb9 => ?_) (fun hb9 => ?_)
      · have hm := ctrue hb9 hm
        refine sq2 ?_
        obtain ⟨y5, hx8, hm⟩ := bindS hm
        refine rg (pv (r_mi rfl) (pv (r_ib rfl rfl rfl) (wl rfl (calS cf25 rfl (check_bit_sim (p0 := y1.1 != 0) (hS6.bun [1] [] rfl)  hx8) rfl fun v5 T7 w8 im8 rv5 => ?_))))
        obtain ⟨rfl, hS7, _⟩ := rv5
        have hS7 : Sep g T7 w8 [R] := hS7.unb
        refine pv (r_zi rfl) (pv (r_zi rfl) (nil (t_then ?_)))
        have hm := oI hm; subst hm
        exact rtn (r_blk (r_then (retN (vs := [.int .u32 y5, .int .i64 0]) rfl ⟨rfl, rfl, trivial⟩ rfl ⟨_, rfl, _, (iT im1 (iT im2 (iT im7 im8))), ⟨rfl, hS7.sel [0] rfl, trivial⟩⟩)))
      have hm := cfalse hb9 hm
      exact skp (t_blk (t_then ⟨_, _, env_has ⟨rfl, rfl, trivial⟩, im7, hS6.sel [0, 1] rfl, hm⟩))
    have hm := cfalse hb8 hm
    exact skp (t_blk (t_then ⟨_, _, env_has ⟨rfl, rfl, trivial⟩, im7, hS6.sel [0, 1] rfl, hm⟩))
  rintro _ w3 ⟨J, T2, rfl, im3, hS8, hm⟩
  rw [hkk1] at hm
  refine sq2 ?_
  obtain ⟨u4, hx9, hm⟩ := bindS hm
  obtain ⟨b5, of4, cs4, k4, cp4, hv4, hp4, hl4, he4, hr4, hc4, hT4⟩ := (h1.mono (iT im1 (iT im2 im3))).ixT hx9 rfl
  obtain ⟨a5, c5, rfl, h5⟩ := rGTerm_open hr4
  obtain ⟨y6, hx10, hm⟩ := bindS hm
  refine rg (pv (r_fa rfl Tryz.underlying32 rfl Tryz.sizeOf30 rfl) (pv (r_ld rfl Tryz.isAgg30 (hS8.cell0 (i := 0) ⟨rfl, rfl⟩ (j := 8) rfl)) (pv (r_ixe hv4 rfl Tryz.underlying30 Tryz.sizeOf32 hp4 hl4 he4) (pv (r_ldS rfl Tryz.isAgg32 Tryz.sizeOf32 rfl hc4 (cs := (cGTerm u4 a5 c5))) (wl rfl (calS cf37 rfl (hG.check_fold (p0 := u4) (hS8.bun [0, 1] [] rfl) h5 hx10) rfl fun v6 T8 w9 im9 rv6 => ?_))))))
  obtain ⟨rfl, hS9, _⟩ := rv6
  have hS9 : Sep g T8 w9 [boxA b1 (cGTerm p0 a1 c1), R] := hS9.unb
  refine pv (r_mv rfl) (pv (r_ex (v := .int .u32 y6.1) rfl rfl) (pv (r_ex (v := .int .i64 y6.2) rfl rfl) (pv (r_zi rfl) (pv (r_zi rfl) (nil (t_then ?_))))))
  refine sq2 (blk (sq2 (rg (pv (r_mi rfl) (pv (r_ib rfl rfl rfl) (pv (r_zb rfl) (nil (t_then ?_))))))))
  refine cnd rfl (fun hb10 => ?_) (fun hb10 => ?_)
  · have hm := ctrue hb10 hm
    refine sq2 (rg (pv (r_mi rfl) (pv (r_zi rfl) (pv (r_zi rfl) (nil (t_then ?_))))))
    have hm := oI hm; subst hm
    exact rtn (r_blk (r_then (retN (vs := [.int .u32 0, .int .i64 y6.2]) rfl ⟨rfl, rfl, trivial⟩ rfl ⟨_, rfl, _, (iT im1 (iT im2 (iT im3 im9))), ⟨rfl, hS9.sel [1] rfl, trivial⟩⟩)))
  have hm := cfalse hb10 hm
  refine sq2 (rg (pv (r_fa rfl Tryz.underlying32 rfl Tryz.sizeOf3 rfl) (pv (r_ld rfl Tryz.isAgg3 (hS9.cell0 (i := 0) ⟨rfl, rfl⟩ (j := 0) rfl)) (pv (r_ib rfl rfl rfl) (pv (r_zb rfl) (nil (t_then ?_)))))))
  refine cnd rfl (fun hb11 => ?_) (fun hb11 => ?_)
  · have hm := ctrue hb11 hm
    refine sq2 ?_
    obtain ⟨y7, hx11, hm⟩ := bindS hm
    refine rg (pv (r_mi rfl) (pv (r_ib rfl rfl rfl) (wl rfl (calS cf25 rfl (check_bit_sim (p0 := y6.1 != 0) (hS9.bun [1] [] rfl)  hx11) rfl fun v7 T9 w10 im10 rv7 => ?_))))
    obtain ⟨rfl, hS10, _⟩ := rv7
    have hS10 : Sep g T9 w10 [R] := hS10.unb
    refine pv (r_zi rfl) (pv (r_zi rfl) (nil (t_then ?_)))
    have hm := oI hm; subst hm
    exact rtn (r_blk (r_then (retN (vs := [.int .u32 y7, .int .i64 0]) rfl ⟨rfl, rfl, trivial⟩ rfl ⟨_, rfl, _, (iT im1 (iT im2 (iT im3 (iT im9 im10)))), ⟨rfl, hS10.sel [0] rfl, trivial⟩⟩)))
  have hm := cfalse hb11 hm
  refine skp (t_blk (t_then ?_))
  refine sq2 ?_
  obtain ⟨y8, hx12, hm⟩ := bindS hm
  refine rg (pv (r_fa rfl Tryz.underlying32 rfl Tryz.sizeOf3 rfl) (pv (r_ld rfl Tryz.isAgg3 (hS9.cell0 (i := 0) ⟨rfl, rfl⟩ (j := 1) rfl)) (pv (r_mi rfl) (pv (r_mi rfl) (wl rfl (calS cf7 rfl (check_Apply_sim (p0 := p0.Fn) (p1 := y1.1) (p2 := y6.1) (hS9.bun [1] [] rfl)  hx12) rfl fun v8 T10 w11 im11 rv8 => ?_))))))
  obtain ⟨rfl, hS11, _⟩ := rv8
  have hS11 : Sep g T10 w11 [R] := hS11.unb
  refine pv (r_ex (v := .int .u32 y8.1) rfl rfl) (pv (r_ex (v := .int .i64 y8.2) rfl rfl) (pv (r_zi rfl) (pv (r_zi rfl) (nil (t_thenR [(2, .int .u32 y8.1), (3, .int .i64 y8.2)] ⟨rfl, rfl, trivial⟩ fun J => ?_)))))
  have hm := oI hm; subst hm
  exact rtn (retN (vs := [.int .u32 y8.1, .int .i64 y8.2]) rfl ⟨rfl, rfl, trivial⟩ rfl ⟨_, rfl, _, (iT im1 (iT im2 (iT im3 (iT im9 im11)))), ⟨rfl, hS11.sel [0] rfl, trivial⟩⟩)
theorem sp3 : ∀ n, Sp3 (rec3 n)
  | 0 => ⟨by intros; rename_i h; cases (show (none : Option _) = some _ from h)⟩
  | n + 1 => ⟨check_fold_st (sp3 n)⟩
theorem check_fold_sim {g : World} {T0 : Nat → Prop} {w0 : World} {R : Assn} {p0 : GTerm} {a1 : Option Addr} {c1 : Nat} {r : Int × Int} (hS : Sep g T0 w0 [R]) (h1 : SlR rGTerm T0 w0 (.slice a1 (List.length p0.Kids) c1) p0.Kids) (hm : check_fold p0 = some r) :
    Calls Tryz.prog 37 #[.agg (cGTerm p0 a1 c1).toArray] w0 (RetS T0 w0 fun T w v => v = .tuple #[.int .u32 r.1, .int .i64 r.2] ∧ Sep g T w [R] ∧ True) := (sp3 NN).check_fold hS h1 hm

set_option maxRecDepth 100000 in
set_option maxHeartbeats 1000000 in
theorem check_Fold_sim {g : World} {T0 : Nat → Prop} {w0 : World} {R : Assn} {p0 : GTerm} {a1 : Option Addr} {c1 : Nat} {r : Int × Int} (hS : Sep g T0 w0 [R]) (h1 : SlR rGTerm T0 w0 (.slice a1 (List.length p0.Kids) c1) p0.Kids) (hm : check_Fold p0 = some r) :
    Calls Tryz.prog 11 #[.agg (cGTerm p0 a1 c1).toArray] w0 (RetS T0 w0 fun T w v => v = .tuple #[.int .u32 r.1, .int .i64 r.2] ∧ Sep g T w [R] ∧ True) := by
  refine enter (args := [.agg (cGTerm p0 a1 c1).toArray]) Tryz.func11 rfl Tryz.ntmps11 rfl fun J => ?_
  unfold check_Fold at hm
  refine sq2 (rg (wl rfl (bxS (cs := (cGTerm p0 a1 c1)) rfl rfl hS fun w1 b1 im1 hS1 => ?_)))
  refine pv (r_zi rfl) (pv (r_zi rfl) (nil (t_then ?_)))
  refine sq2 (sq2 ?_)
  obtain ⟨y1, hx1, hm⟩ := bindS hm
  refine rg (pv (r_ldS rfl Tryz.isAgg32 Tryz.sizeOf32 rfl (hS1.cells0 (i := 0) ⟨rfl, rfl⟩ (o := 0) rfl) (cs := (cGTerm p0 a1 c1))) (wl rfl (calS cf36 rfl (check_numbers_sim (p0 := p0) (hS1.bun [0, 1] [] rfl) (h1.mono im1) hx1) rfl fun v1 T1 w2 im2 rv1 => ?_)))
  obtain ⟨rfl, hS2, _⟩ := rv1
  have hS2 : Sep g T1 w2 [boxA b1 (cGTerm p0 a1 c1), R] := hS2.unb
  refine pv (r_nt rfl) (nil (t_then ?_))
  refine cnd rfl (fun hb1 => ?_) (fun hb1 => ?_)
  · have hm := ctrue hb1 hm
    refine sq2 (rg (pv (r_zi rfl) (pv (r_zi rfl) (nil (t_then ?_)))))
    have hm := oI hm; subst hm
    exact rtn (r_then (retN (vs := [.int .u32 0, .int .i64 9]) rfl ⟨rfl, rfl, trivial⟩ rfl ⟨_, rfl, _, (iT im1 im2), ⟨rfl, hS2.sel [1] rfl, trivial⟩⟩))
  have hm := cfalse hb1 hm
  refine skp (t_then ?_)
  refine sq2 ?_
  obtain ⟨y2, hx2, hm⟩ := bindS hm
  refine rg (pv (r_ldS rfl Tryz.isAgg32 Tryz.sizeOf32 rfl (hS2.cells0 (i := 0) ⟨rfl, rfl⟩ (o := 0) rfl) (cs := (cGTerm p0 a1 c1))) (wl rfl (calS cf37 rfl (check_fold_sim (p0 := p0) (hS2.bun [1] [] rfl) (h1.mono (iT im1 im2)) hx2) rfl fun v2 T2 w3 im3 rv2 => ?_)))
  obtain ⟨rfl, hS3, _⟩ := rv2
  have hS3 : Sep g T2 w3 [R] := hS3.unb
  refine pv (r_ex (v := .int .u32 y2.1) rfl rfl) (pv (r_ex (v := .int .i64 y2.2) rfl rfl) (pv (r_zi rfl) (pv (r_zi rfl) (nil (t_then ?_)))))
  have hm := oI hm; subst hm
  exact rtn (retN (vs := [.int .u32 y2.1, .int .i64 y2.2]) rfl ⟨rfl, rfl, trivial⟩ rfl ⟨_, rfl, _, (iT im1 (iT im2 im3)), ⟨rfl, hS3.sel [0] rfl, trivial⟩⟩)

set_option maxRecDepth 100000 in
set_option maxHeartbeats 1000000 in
theorem ref10_count_sim {g : World} {T0 : Nat → Prop} {w0 : World} {R : Assn} {p0 : Int} {r : Int} (hS : Sep g T0 w0 [R])  (hm : ref10_count p0 = some r) :
    Calls Tryz.prog 62 #[.int .i64 p0] w0 (RetS T0 w0 fun T w v => v = .int .i64 r ∧ Sep g T w [R] ∧ True) := by
  refine enter (args := [.int .i64 p0]) Tryz.func62 rfl Tryz.ntmps62 rfl fun J => ?_
  unfold ref10_count at hm
  refine sq2 (rg (pv (r_zi rfl) (nil (t_then ?_))))
  refine sq2 (sq2 (rg (pv (r_mi rfl) (pv (r_ib rfl rfl rfl) (nil (t_then ?_))))))
  refine cnd rfl (fun hb1 => ?_) (fun hb1 => ?_)
  · have hm := ctrue hb1 hm
    refine sq2 (rg (pv (r_zi rfl) (nil (t_then ?_))))
    have hm := oI hm; subst hm
    exact rtn (r_then (ret1 rfl rfl ⟨_, rfl, _, Im.refl, ⟨rfl, hS.sel [0] rfl, trivial⟩⟩))
  have hm := cfalse hb1 hm
  refine skp (t_then ?_)
  refine sq2 (sq2 (rg (pv (r_mi rfl) (pv (r_ib rfl rfl rfl) (pv (r_mb rfl) (?_))))))
  rcases Bool.eq_false_or_eq_true (p0 == 5) with hb2 | hb2
  · have hm := ctrue hb2 hm
    refine gF (d0 := 7) rfl rfl (by rw [hb2]; rfl) (gF (d0 := 7) rfl rfl (by rw [hb2]; rfl) (pv (r_pkt rfl hb2 rfl) (nil (t_then ?_))))
    refine cnd (b := true) rfl (fun _ => ?_) (fun h => nomatch h)
    refine sq2 (rg (pv (r_zi rfl) (nil (t_then ?_))))
    have hm := oI hm; subst hm
    exact rtn (r_then (ret1 rfl rfl ⟨_, rfl, _, Im.refl, ⟨rfl, hS.sel [0] rfl, trivial⟩⟩))
  have hm := cfalse hb2 hm
  refine gT (d0 := 7) rfl rfl hb2 (pv (r_mi rfl) (gT (d0 := 7) rfl rfl hb2 (pv (r_ib rfl rfl rfl) (pv (r_pkf rfl hb2 rfl) (nil (t_then ?_))))))
  refine cnd rfl (fun hb3 => ?_) (fun hb3 => ?_)
  · have hm := ctrue hb3 hm
    refine sq2 (rg (pv (r_zi rfl) (nil (t_then ?_))))
    have hm := oI hm; subst hm
    exact rtn (r_then (ret1 rfl rfl ⟨_, rfl, _, Im.refl, ⟨rfl, hS.sel [0] rfl, trivial⟩⟩))
  have hm := cfalse hb3 hm
  refine skp (t_then ?_)
  refine sq2 (sq2 (rg (pv (r_mi rfl) (pv (r_ib rfl rfl rfl) (pv (r_mb rfl) (?_))))))
  rcases Bool.eq_false_or_eq_true (p0 == 6) with hb4 | hb4
  · have hm := ctrue hb4 hm
    refine gF (d0 := 13) rfl rfl (by rw [hb4]; rfl) (gF (d0 := 13) rfl rfl (by rw [hb4]; rfl) (pv (r_pkt rfl hb4 rfl) (pv (r_mb rfl) (gF (d0 := 17) rfl rfl rfl (gF (d0 := 17) rfl rfl rfl (pv (r_pkt rfl rfl rfl) (nil (t_then ?_))))))))
    refine cnd (b := true) rfl (fun _ => ?_) (fun h => nomatch h)
    refine sq2 (rg (pv (r_zi rfl) (nil (t_then ?_))))
    have hm := oI hm; subst hm
    exact rtn (r_then (ret1 rfl rfl ⟨_, rfl, _, Im.refl, ⟨rfl, hS.sel [0] rfl, trivial⟩⟩))
  have hm := cfalse hb4 hm
  refine gT (d0 := 13) rfl rfl hb4 (pv (r_mi rfl) (gT (d0 := 13) rfl rfl hb4 (pv (r_ib rfl rfl rfl) (pv (r_pkf rfl hb4 rfl) (pv (r_mb rfl) (?_))))))
  rcases Bool.eq_false_or_eq_true (p0 == 7) with hb5 | hb5
  · have hm := ctrue hb5 hm
    refine gF (d0 := 17) rfl rfl (by rw [hb5]; rfl) (gF (d0 := 17) rfl rfl (by rw [hb5]; rfl) (pv (r_pkt rfl hb5 rfl) (nil (t_then ?_))))
    refine cnd (b := true) rfl (fun _ => ?_) (fun h => nomatch h)
    refine sq2 (rg (pv (r_zi rfl) (nil (t_then ?_))))
    have hm := oI hm; subst hm
    exact rtn (r_then (ret1 rfl rfl ⟨_, rfl, _, Im.refl, ⟨rfl, hS.sel [0] rfl, trivial⟩⟩))
  have hm := cfalse hb5 hm
  refine gT (d0 := 17) rfl rfl hb5 (pv (r_mi rfl) (gT (d0 := 17) rfl rfl hb5 (pv (r_ib rfl rfl rfl) (pv (r_pkf rfl hb5 rfl) (nil (t_then ?_))))))
  refine cnd rfl (fun hb6 => ?_) (fun hb6 => ?_)
  · have hm := ctrue hb6 hm
    refine sq2 (rg (pv (r_zi rfl) (nil (t_then ?_))))
    have hm := oI hm; subst hm
    exact rtn (r_then (ret1 rfl rfl ⟨_, rfl, _, Im.refl, ⟨rfl, hS.sel [0] rfl, trivial⟩⟩))
  have hm := cfalse hb6 hm
  refine skp (t_then ?_)
  refine sq2 (sq2 (rg (pv (r_mi rfl) (pv (r_ib rfl rfl rfl) (nil (t_then ?_))))))
  refine cnd rfl (fun hb7 => ?_) (fun hb7 => ?_)
  · have hm := ctrue hb7 hm
    refine sq2 (rg (pv (r_zi rfl) (nil (t_then ?_))))
    have hm := oI hm; subst hm
    exact rtn (r_then (ret1 rfl rfl ⟨_, rfl, _, Im.refl, ⟨rfl, hS.sel [0] rfl, trivial⟩⟩))
  have hm := cfalse hb7 hm
  refine skp (t_then ?_)
  refine sq2 (rg (pv (r_zi rfl) (nil (t_then ?_))))
  have hm := oI hm; subst hm
  exact rtn (ret1 rfl rfl ⟨_, rfl, _, Im.refl, ⟨rfl, hS.sel [0] rfl, trivial⟩⟩)

structure Sp4 (G : Rec4) : Prop where
  ref10_Numbers : ∀ {g : World} {T0 : Nat → Prop} {w0 : World} {R : Assn} {p0 : ref10Term} {a1 : Option Addr} {c1 : Nat} {r : Bool} (hS : Sep g T0 w0 [R]) (h1 : SlR rref10Term T0 w0 (.slice a1 (List.length p0.Kids) c1) p0.Kids) (hm : G.ref10_Numbers p0 = some r),
    Calls Tryz.prog 38 #[.agg (cref10Term p0 a1 c1).toArray] w0 (RetS T0 w0 fun T w v => v = .bool r ∧ Sep g T w [R] ∧ True)
set_option maxRecDepth 100000 in
set_option maxHeartbeats 1000000 in
theorem ref10_Numbers_st {G : Rec4} (hG : Sp4 G) {g : World} {T0 : Nat → Prop} {w0 : World} {R : Assn} {p0 : ref10Term} {a1 : Option Addr} {c1 : Nat} {r : Bool} (hS : Sep g T0 w0 [R]) (h1 : SlR rref10Term T0 w0 (.slice a1 (List.length p0.Kids) c1) p0.Kids) (hm : ref10_Numbers_b G p0 = some r) :
    Calls Tryz.prog 38 #[.agg (cref10Term p0 a1 c1).toArray] w0 (RetS T0 w0 fun T w v => v = .bool r ∧ Sep g T w [R] ∧ True) := by
  refine enter (args := [.agg (cref10Term p0 a1 c1).toArray]) Tryz.func38 rfl Tryz.ntmps38 rfl fun J => ?_
  unfold ref10_Numbers_b at hm
  refine sq2 (rg (wl rfl (bxS (cs := (cref10Term p0 a1 c1)) rfl rfl hS fun w1 b1 im1 hS1 => ?_)))
  refine pv (r_zb rfl) (nil (t_then ?_))
  refine sq2 (sq2 (rs [0, 1, 0, 0, 1, 2, 0] [0, 1, 2, 3, 4, 5, 6] mix (by kernel_rfl) hS1.lt fun w2 i1 => ?_))
  have im2 := i1.imm
  have hS2 := hS1.keep i1 (fun _ h => h)
  obtain ⟨y1, hx1, hm⟩ := bindS hm
  refine s0 rfl trivial (fun _ => r_fa rfl Tryz.underlying35 rfl Tryz.sizeOf33 rfl) rfl (s1 rfl trivial (r_ld rfl Tryz.isAgg33 (hS2.cell0 (i := 0) ⟨rfl, rfl⟩ (j := 3) rfl)) rfl (s0 rfl trivial (fun _ => r_ln rfl Tryz.underlying33) rfl (s0 rfl trivial (fun _ => r_fa rfl Tryz.underlying35 rfl Tryz.sizeOf3 rfl) rfl (s1 rfl trivial (r_ld rfl Tryz.isAgg3 (hS2.cell0 (i := 0) ⟨rfl, rfl⟩ (j := 0) rfl)) rfl (s2 [(1, .slice a1 (List.length p0.Kids) c1)] rfl trivial rfl (by kernel_rfl) (calS cf62 rfl (ref10_count_sim (p0 := p0.Kind) (hS2.bun [0, 1] [] rfl)  hx1) rfl fun v1 T1 w3 im3 rv1 => ?_))))))
  obtain ⟨rfl, hS3, _⟩ := rv1
  have hS3 : Sep g T1 w3 [boxA b1 (cref10Term p0 a1 c1), R] := hS3.unb
  refine ⟨st1 rfl (r_ld rfl Tryz.isAgg33 (hS3.cell0 (i := 0) ⟨rfl, rfl⟩ (j := 3) rfl)) (st0), ?_⟩
  refine s0 rfl trivial (fun _ => r_ib rfl rfl rfl) rfl (se (t_then ?_))
  refine cnd rfl (fun hb1 => ?_) (fun hb1 => ?_)
  · have hm := ctrue hb1 hm
    refine sq2 (rg (pv (r_zb rfl) (nil (t_then ?_))))
    have hm := oI hm; subst hm
    exact rtn (r_then (ret1 rfl rfl ⟨_, rfl, _, (iT im1 (iT im2 im3)), ⟨rfl, hS3.sel [1] rfl, trivial⟩⟩))
  have hm := cfalse hb1 hm
  refine skp (t_then ?_)
  refine sq2 (sq2 (rg (pv (r_zi rfl) (nil (t_then ?_)))))
  obtain ⟨o1, ho1, hq1⟩ := bindS hm
  obtain ⟨bd1, hbd1, ho1⟩ := loop_open ho1
  refine blk (wp_loop_ghost (fun m a w4 => ∃ (J : Nat → Value) (T2 : Nat → Prop) (x1 : Int), a = env (nf 25) J [(1, .pointer (some ⟨b1, 0, none⟩)), (3, .int .i64 x1)] ∧ Im T1 w3 T2 w4 ∧ Sep g T2 w4 [boxA b1 (cref10Term p0 a1 c1), R] ∧ loopM bd1 m x1 = some o1) NN ⟨_, _, 0, env_has ⟨rfl, rfl, trivial⟩, Im.refl, hS3.sel [0, 1] rfl, ho1⟩ ?_)
  rintro m _ w4 ⟨J, T2, x1, rfl, im4, hS4, ho1⟩
  obtain ⟨m1, z1, rfl, hm, hn1⟩ := loop_round ho1
  rw [hbd1] at hm
  refine sq2 (sq2 (rg (pv (r_mi rfl) (pv (r_fa rfl Tryz.underlying35 rfl Tryz.sizeOf33 rfl) (pv (r_ld rfl Tryz.isAgg33 (hS4.cell0 (i := 0) ⟨rfl, rfl⟩ (j := 3) rfl)) (pv (r_ln rfl Tryz.underlying33) (pv (r_ib rfl rfl rfl) (nil (t_then ?_)))))))))
  refine cnd rfl (fun hb2 => ?_) (fun hb2 => ?_)
  · have hm := ctrue hb2 hm
    refine skp (t_then ?_)
    refine sq2 (blk (sq2 ?_))
    obtain ⟨u1, hx2, hm⟩ := bindS hm
    obtain ⟨b2, of1, cs1, k1, cp1, hv1, hp1, hl1, he1, hr1, hc1, hT1⟩ := (h1.mono (iT im1 (iT im2 (iT im3 im4)))).ixT hx2 rfl
    obtain ⟨a2, c2, rfl, h2⟩ := rref10Term_open hr1
    obtain ⟨y2, hx3, hm⟩ := bindS hm
    refine rg (pv (r_fa rfl Tryz.underlying35 rfl Tryz.sizeOf33 rfl) (pv (r_ld rfl Tryz.isAgg33 (hS4.cell0 (i := 0) ⟨rfl, rfl⟩ (j := 3) rfl)) (pv (r_mi rfl) (pv (r_ixe hv1 rfl Tryz.underlying33 Tryz.sizeOf35 hp1 hl1 he1) (pv (r_ldS rfl Tryz.isAgg35 Tryz.sizeOf35 rfl hc1 (cs := (cref10Term u1 a2 c2))) (wl rfl (calS cf38 rfl (hG.ref10_Numbers (p0 := u1) (hS4.bun [0, 1] [] rfl) h2 hx3) rfl fun v2 T3 w5 im5 rv2 => ?_)))))))
    obtain ⟨rfl, hS5, _⟩ := rv2
    have hS5 : Sep g T3 w5 [boxA b1 (cref10Term p0 a1 c1), R] := hS5.unb
    refine pv (r_nt rfl) (nil (t_then ?_))
    refine cnd rfl (fun hb3 => ?_) (fun hb3 => ?_)
    · have hm := ctrue hb3 hm
      refine sq2 (rg (pv (r_zb rfl) (nil (t_then ?_))))
      have hm := oI hm; subst hm
      have hn1 : _ = Lp.ret _ := hn1
      subst hn1
      have hm := thn_ret hq1
      have hm := oI hm; subst hm
      exact rtn (r_blk (r_then (r_then (r_blk (r_then (ret1 rfl rfl ⟨_, rfl, _, (iT im1 (iT im2 (iT im3 (iT im4 im5)))), ⟨rfl, hS5.sel [1] rfl, trivial⟩⟩))))))
    have hm := cfalse hb3 hm
    refine skp (t_blk (t_then ?_))
    have hm := oI hm; subst hm
    exact rg (pv (r_mi rfl) (pv (r_ib rfl rfl rfl) (pv (r_zi rfl) (nil (t_then ⟨m1, Nat.lt_succ_self _, _, _, (IntKind.wrap .i64 (x1 + 1)), env_has ⟨rfl, rfl, trivial⟩, (iT im4 im5), hS5.sel [0, 1] rfl, hn1⟩)))))
  have hm := cfalse hb2 hm
  have hm := oI hm; subst hm
  have hn1 : _ = Lp.brk _ := hn1
  subst hn1
  have hm := thn_brk hq1
  refine xt (x_then (x_then (x_eq (t_then ?_))))
  refine sq2 (rg (pv (r_zb rfl) (nil (t_then ?_))))
  have hm := oI hm; subst hm
  exact rtn (ret1 rfl rfl ⟨_, rfl, _, (iT im1 (iT im2 (iT im3 im4))), ⟨rfl, hS4.sel [1] rfl, trivial⟩⟩)
theorem sp4 : ∀ n, Sp4 (rec4 n)
  | 0 => ⟨by intros; rename_i h; cases (show (none : Option _) = some _ from h)⟩
  | n + 1 => ⟨ref10_Numbers_st (sp4 n)⟩
theorem ref10_Numbers_sim {g : World} {T0 : Nat → Prop} {w0 : World} {R : Assn} {p0 : ref10Term} {a1 : Option Addr} {c1 : Nat} {r : Bool} (hS : Sep g T0 w0 [R]) (h1 : SlR rref10Term T0 w0 (.slice a1 (List.length p0.Kids) c1) p0.Kids) (hm : ref10_Numbers p0 = some r) :
    Calls Tryz.prog 38 #[.agg (cref10Term p0 a1 c1).toArray] w0 (RetS T0 w0 fun T w v => v = .bool r ∧ Sep g T w [R] ∧ True) := (sp4 NN).ref10_Numbers hS h1 hm

structure Sp5 (G : Rec5) : Prop where
  ref10_Fold : ∀ {g : World} {T0 : Nat → Prop} {w0 : World} {R : Assn} {p0 : ref10Term} {a1 : Option Addr} {c1 : Nat} {r : Int × Int} (hS : Sep g T0 w0 [R]) (h1 : SlR rref10Term T0 w0 (.slice a1 (List.length p0.Kids) c1) p0.Kids) (hm : G.ref10_Fold p0 = some r),
    Calls Tryz.prog 12 #[.agg (cref10Term p0 a1 c1).toArray] w0 (RetS T0 w0 fun T w v => v = .tuple #[.int .u32 r.1, .int .i64 r.2] ∧ Sep g T w [R] ∧ True)
set_option maxRecDepth 100000 in
set_option maxHeartbeats 1000000 in
theorem ref10_Fold_st {G : Rec5} (hG : Sp5 G) {g : World} {T0 : Nat → Prop} {w0 : World} {R : Assn} {p0 : ref10Term} {a1 : Option Addr} {c1 : Nat} {r : Int × Int} (hS : Sep g T0 w0 [R]) (h1 : SlR rref10Term T0 w0 (.slice a1 (List.length p0.Kids) c1) p0.Kids) (hm : ref10_Fold_b G p0 = some r) :
    Calls Tryz.prog 12 #[.agg (cref10Term p0 a1 c1).toArray] w0 (RetS T0 w0 fun T w v => v = .tuple #[.int .u32 r.1, .int .i64 r.2] ∧ Sep g T w [R] ∧ True) := by
  refine enter (args := [.agg (cref10Term p0 a1 c1).toArray]) Tryz.func12 rfl Tryz.ntmps12 rfl fun J => ?_
  unfold ref10_Fold_b at hm
  refine sq2 (rg (wl rfl (bxS (cs := (cref10Term p0 a1 c1)) rfl rfl hS fun w1 b1 im1 hS1 => ?_)))
  refine pv (r_zi rfl) (pv (r_zi rfl) (nil (t_then ?_)))
  refine sq2 (sq2 ?_)
  obtain ⟨y1, hx1, hm⟩ := bindS hm
  refine rg (pv (r_ldS rfl Tryz.isAgg35 Tryz.sizeOf35 rfl (hS1.cells0 (i := 0) ⟨rfl, rfl⟩ (o := 0) rfl) (cs := (cref10Term p0 a1 c1))) (wl rfl (calS cf38 rfl (ref10_Numbers_sim (p0 := p0) (hS1.bun [0, 1] [] rfl) (h1.mono im1) hx1) rfl fun v1 T1 w2 im2 rv1 => ?_)))
  obtain ⟨rfl, hS2, _⟩ := rv1
  have hS2 : Sep g T1 w2 [boxA b1 (cref10Term p0 a1 c1), R] := hS2.unb
  refine pv (r_nt rfl) (nil (t_then ?_))
  refine cnd rfl (fun hb1 => ?_) (fun hb1 => ?_)
  · have hm := ctrue hb1 hm
    refine sq2 (rg (pv (r_zi rfl) (pv (r_zi rfl) (nil (t_then ?_)))))
    have hm := oI hm; subst hm
    exact rtn (r_then (retN (vs := [.int .u32 0, .int .i64 9]) rfl ⟨rfl, rfl, trivial⟩ rfl ⟨_, rfl, _, (iT im1 im2), ⟨rfl, hS2.sel [1] rfl, trivial⟩⟩))
  have hm := cfalse hb1 hm
  refine skp (t_then ?_)
  refine sq2 (sq2 (rg (pv (r_fa rfl Tryz.underlying35 rfl Tryz.sizeOf3 rfl) (pv (r_ld rfl Tryz.isAgg3 (hS2.cell0 (i := 0) ⟨rfl, rfl⟩ (j := 0) rfl)) (pv (r_ib rfl rfl rfl) (nil (t_then ?_)))))))
  refine cnd rfl (fun hb2 => ?_) (fun hb2 => ?_)
  · have hm := ctrue hb2 hm
    refine sq2 (rg (pv (r_fa rfl Tryz.underlying35 rfl Tryz.sizeOf22 rfl) (pv (r_ld rfl Tryz.isAgg22 (hS2.cell0 (i := 0) ⟨rfl, rfl⟩ (j := 2) rfl)) (pv (r_zi rfl) (pv (r_zi rfl) (nil (t_then ?_)))))))
    have hm := oI hm; subst hm
    exact rtn (r_then (retN (vs := [.int .u32 p0.Num, .int .i64 0]) rfl ⟨rfl, rfl, trivial⟩ rfl ⟨_, rfl, _, (iT im1 im2), ⟨rfl, hS2.sel [1] rfl, trivial⟩⟩))
  have hm := cfalse hb2 hm
  refine skp (t_then ?_)
  refine sq2 ?_
  obtain ⟨u1, hx2, hm⟩ := bindS hm
  obtain ⟨b2, of1, cs1, k1, cp1, hv1, hp1, hl1, he1, hr1, hc1, hT1⟩ := (h1.mono (iT im1 im2)).ixT hx2 rfl
  obtain ⟨a2, c2, rfl, h2⟩ := rref10Term_open hr1
  obtain ⟨y2, hx3, hm⟩ := bindS hm
  refine rg (pv (r_fa rfl Tryz.underlying35 rfl Tryz.sizeOf33 rfl) (pv (r_ld rfl Tryz.isAgg33 (hS2.cell0 (i := 0) ⟨rfl, rfl⟩ (j := 3) rfl)) (pv (r_ixe hv1 rfl Tryz.underlying33 Tryz.sizeOf35 hp1 hl1 he1) (pv (r_ldS rfl Tryz.isAgg35 Tryz.sizeOf35 rfl hc1 (cs := (cref10Term u1 a2 c2))) (wl rfl (calS cf12 rfl (hG.ref10_Fold (p0 := u1) (hS2.bun [0, 1] [] rfl) h2 hx3) rfl fun v2 T2 w3 im3 rv2 => ?_))))))
  obtain ⟨rfl, hS3, _⟩ := rv2
  have hS3 : Sep g T2 w3 [boxA b1 (cref10Term p0 a1 c1), R] := hS3.unb
  refine pv (r_mv rfl) (pv (r_ex (v := .int .u32 y2.1) rfl rfl) (pv (r_ex (v := .int .i64 y2.2) rfl rfl) (pv (r_zi rfl) (pv (r_zi rfl) (nil (t_then ?_))))))
  refine sq2 (sq2 (rg (pv (r_mi rfl) (pv (r_ib rfl rfl rfl) (nil (t_then ?_))))))
  refine cnd rfl (fun hb3 => ?_) (fun hb3 => ?_)
  · have hm := ctrue hb3 hm
    refine sq2 (rg (pv (r_mi rfl) (pv (r_zi rfl) (pv (r_zi rfl) (nil (t_then ?_))))))
    have hm := oI hm; subst hm
    exact rtn (r_then (retN (vs := [.int .u32 0, .int .i64 y2.2]) rfl ⟨rfl, rfl, trivial⟩ rfl ⟨_, rfl, _, (iT im1 (iT im2 im3)), ⟨rfl, hS3.sel [1] rfl, trivial⟩⟩))
  have hm := cfalse hb3 hm
  refine skp (t_then ?_)
  refine sq2 (sq2 (rg (pv (r_fa rfl Tryz.underlying35 rfl Tryz.sizeOf3 rfl) (pv (r_ld rfl Tryz.isAgg3 (hS3.cell0 (i := 0) ⟨rfl, rfl⟩ (j := 0) rfl)) (pv (r_ib rfl rfl rfl) (nil (t_then ?_)))))))
  refine cnd rfl (fun hb4 => ?_) (fun hb4 => ?_)
  · have hm := ctrue hb4 hm
    refine sq2 (rg (pv (r_mi rfl) (pv (r_irm rfl rfl (by decide)) (pv (r_zi rfl) (pv (r_zi rfl) (nil (t_thenR [(2, .int .u32 (Int.tmod y2.1 256)), (3, .int .i64 0)] ⟨rfl, rfl, trivial⟩ fun J => ?_)))))))
    have hm := oI hm; subst hm
    exact rtn (r_then (retN (vs := [.int .u32 (Int.tmod y2.1 256), .int .i64 0]) rfl ⟨rfl, rfl, trivial⟩ rfl ⟨_, rfl, _, (iT im1 (iT im2 im3)), ⟨rfl, hS3.sel [1] rfl, trivial⟩⟩))
  have hm := cfalse hb4 hm
  refine skp (t_then ?_)
  refine sq2 (sq2 (rg (pv (r_fa rfl Tryz.underlying35 rfl Tryz.sizeOf3 rfl) (pv (r_ld rfl Tryz.isAgg3 (hS3.cell0 (i := 0) ⟨rfl, rfl⟩ (j := 0) rfl)) (pv (r_ib rfl rfl rfl) (nil (t_thenR [(1, .pointer (some ⟨b1, 0, none⟩)), (4, .int .u32 y2.1), (34, .bool (p0.Kind == 5))] ⟨rfl, rfl, rfl, trivial⟩ fun J => ?_)))))))
  refine cnd rfl (fun hb5 => ?_) (fun hb5 => ?_)
  · have hm := ctrue hb5 hm
    refine sq2 ?_
    obtain ⟨y3, hx4, hm⟩ := bindS hm
    refine rg (pv (r_fa rfl Tryz.underlying35 rfl Tryz.sizeOf3 rfl) (pv (r_ld rfl Tryz.isAgg3 (hS3.cell0 (i := 0) ⟨rfl, rfl⟩ (j := 1) rfl)) (pv (r_mi rfl) (wl rfl (calS cf8 rfl (ref10_Apply_sim (p0 := p0.Fn) (p1 := y2.1) (p2 := 0) (hS3.bun [1] [] rfl)  hx4) rfl fun v3 T3 w4 im4 rv3 => ?_)))))
    obtain ⟨rfl, hS4, _⟩ := rv3
    have hS4 : Sep g T3 w4 [R] := hS4.unb
    refine pv (r_ex (v := .int .u32 y3.1) rfl rfl) (pv (r_ex (v := .int .i64 y3.2) rfl rfl) (pv (r_zi rfl) (pv (r_zi rfl) (nil (t_then ?_)))))
    have hm := oI hm; subst hm
    exact rtn (r_then (retN (vs := [.int .u32 y3.1, .int .i64 y3.2]) rfl ⟨rfl, rfl, trivial⟩ rfl ⟨_, rfl, _, (iT im1 (iT im2 (iT im3 im4))), ⟨rfl, hS4.sel [0] rfl, trivial⟩⟩))
  have hm := cfalse hb5 hm
  refine skp (t_then ?_)
  refine sq2 (sq2 (rg (pv (r_fa rfl Tryz.underlying35 rfl Tryz.sizeOf3 rfl) (pv (r_ld rfl Tryz.isAgg3 (hS3.cell0 (i := 0) ⟨rfl, rfl⟩ (j := 0) rfl)) (pv (r_ib rfl rfl rfl) (pv (r_mb rfl) (?_)))))))
  rcases Bool.eq_false_or_eq_true (p0.Kind == 9) with hb6 | hb6
  · have hm := ctrue hb6 hm
    refine gT (d0 := 44) rfl rfl hb6 (pv (r_mi rfl) (gT (d0 := 44) rfl rfl hb6 (pv (r_ib rfl rfl rfl) (pv (r_pkt rfl hb6 rfl) (nil (t_then ?_))))))
    refine cnd rfl (fun hb7 => ?_) (fun hb7 => ?_)
    · have hm := ctrue hb7 hm
      refine sq2 ?_
      obtain ⟨u2, hx5, hm⟩ := bindS hm
      obtain ⟨b3, of2, cs2, k2, cp2, hv2, hp2, hl2, he2, hr2, hc2, hT2⟩ := (h1.mono (iT im1 (iT im2 im3))).ixT hx5 rfl
      obtain ⟨a3, c3, rfl, h3⟩ := rref10Term_open hr2
      obtain ⟨y4, hx6, hm⟩ := bindS hm
      refine rg (pv (r_fa rfl Tryz.underlying35 rfl Tryz.sizeOf33 rfl) (pv (r_ld rfl Tryz.isAgg33 (hS3.cell0 (i := 0) ⟨rfl, rfl⟩ (j := 3) rfl)) (pv (r_ixe hv2 rfl Tryz.underlying33 Tryz.sizeOf35 hp2 hl2 he2) (pv (r_ldS rfl Tryz.isAgg35 Tryz.sizeOf35 rfl hc2 (cs := (cref10Term u2 a3 c3))) (wl rfl (calS cf12 rfl (hG.ref10_Fold (p0 := u2) (hS3.bun [1] [] rfl) h3 hx6) rfl fun v4 T4 w5 im5 rv4 => ?_))))))
      obtain ⟨rfl, hS5, _⟩ := rv4
      have hS5 : Sep g T4 w5 [R] := hS5.unb
      refine pv (r_ex (v := .int .u32 y4.1) rfl rfl) (pv (r_ex (v := .int .i64 y4.2) rfl rfl) (pv (r_zi rfl) (pv (r_zi rfl) (nil (t_then ?_)))))
      have hm := oI hm; subst hm
      exact rtn (r_then (retN (vs := [.int .u32 y4.1, .int .i64 y4.2]) rfl ⟨rfl, rfl, trivial⟩ rfl ⟨_, rfl, _, (iT im1 (iT im2 (iT im3 im5))), ⟨rfl, hS5.sel [0] rfl, trivial⟩⟩))
    have hm := cfalse hb7 hm
    refine skp (t_then ?_)
    refine sq2 (sq2 (rg (pv (r_fa rfl Tryz.underlying35 rfl Tryz.sizeOf3 rfl) (pv (r_ld rfl Tryz.isAgg3 (hS3.cell0 (i := 0) ⟨rfl, rfl⟩ (j := 0) rfl)) (pv (r_ib rfl rfl rfl) (nil (t_then ?_)))))))
    refine cnd rfl (fun hb8 => ?_) (fun hb8 => ?_)
    · have hm := ctrue hb8 hm
      refine sq2 ?_
      obtain ⟨u3, hx7, hm⟩ := bindS hm
      obtain ⟨b4, of3, cs3, k3, cp3, hv3, hp3, hl3, he3, hr3, hc3, hT3⟩ := (h1.mono (iT im1 (iT im2 im3))).ixT hx7 rfl
      obtain ⟨a4, c4, rfl, h4⟩ := rref10Term_open hr3
      obtain ⟨y5, hx8, hm⟩ := bindS hm
      refine rg (pv (r_fa rfl Tryz.underlying35 rfl Tryz.sizeOf33 rfl) (pv (r_ld rfl Tryz.isAgg33 (hS3.cell0 (i := 0) ⟨rfl, rfl⟩ (j := 3) rfl)) (pv (r_ixe hv3 rfl Tryz.underlying33 Tryz.sizeOf35 hp3 hl3 he3) (pv (r_ldS rfl Tryz.isAgg35 Tryz.sizeOf35 rfl hc3 (cs := (cref10Term u3 a4 c4))) (wl rfl (calS cf12 rfl (hG.ref10_Fold (p0 := u3) (hS3.bun [1] [] rfl) h4 hx8) rfl fun v5 T5 w6 im6 rv5 => ?_))))))
      obtain ⟨rfl, hS6, _⟩ := rv5
      have hS6 : Sep g T5 w6 [R] := hS6.unb
      refine pv (r_ex (v := .int .u32 y5.1) rfl rfl) (pv (r_ex (v := .int .i64 y5.2) rfl rfl) (pv (r_zi rfl) (pv (r_zi rfl) (nil (t_then ?_)))))
      have hm := oI hm; subst hm
      exact rtn (r_then (retN (vs := [.int .u32 y5.1, .int .i64 y5.2]) rfl ⟨rfl, rfl, trivial⟩ rfl ⟨_, rfl, _, (iT im1 (iT im2 (iT im3 im6))), ⟨rfl, hS6.sel [0] rfl, trivial⟩⟩))
    have hm := cfalse hb8 hm
    refine skp (t_then ?_)
    refine sq2 (sq2 (rg (pv (r_fa rfl Tryz.underlying35 rfl Tryz.sizeOf3 rfl) (pv (r_ld rfl Tryz.isAgg3 (hS3.cell0 (i := 0) ⟨rfl, rfl⟩ (j := 0) rfl)) (pv (r_ib rfl rfl rfl) (pv (r_mb rfl) (?_)))))))
    rcases Bool.eq_false_or_eq_true (p0.Kind == 7) with hb9 | hb9
    · have hm := ctrue hb9 hm
      refine gT (d0 := 68) rfl rfl hb9 (pv (r_mi rfl) (gT (d0 := 68) rfl rfl hb9 (pv (r_ib rfl rfl rfl) (pv (r_pkt rfl hb9 rfl) (nil (t_then ?_))))))
      refine cnd rfl (fun hb10 => ?_) (fun hb10 => ?_)
      · have hm := ctrue hb10 hm
        refine sq2 (rg (pv (r_zi rfl) (pv (r_zi rfl) (nil (t_then ?_)))))
        have hm := oI hm; subst hm
        exact rtn (r_then (retN (vs := [.int .u32 0, .int .i64 0]) rfl ⟨rfl, rfl, trivial⟩ rfl ⟨_, rfl, _, (iT im1 (iT im2 im3)), ⟨rfl, hS3.sel [1] rfl, trivial⟩⟩))
      have hm := cfalse hb10 hm
      refine skp (t_then ?_)
      refine sq2 (sq2 (rg (pv (r_fa rfl Tryz.underlying35 rfl Tryz.sizeOf3 rfl) (pv (r_ld rfl Tryz.isAgg3 (hS3.cell0 (i := 0) ⟨rfl, rfl⟩ (j := 0) rfl)) (pv (r_ib rfl rfl rfl) (pv (r_mb rfl) (?_)))))))
      rcases Bool.eq_false_or_eq_true (p0.Kind == 8) with hb11 | hb11
      · have hm := ctrue hb11 hm
        refine gT (d0 := 75) rfl rfl hb11 (pv (r_mi rfl) (gT (d0 := 75) rfl rfl hb11 (pv (r_ib rfl rfl rfl) (pv (r_pkt rfl hb11 rfl) (nil (t_then ?_))))))
        refine cnd rfl (fun hb12 => ?_) (fun hb12 => ?_)
        · have hm := ctrue hb12 hm
          refine sq2 (rg (pv (r_zi rfl) (pv (r_zi rfl) (nil (t_thenR [(2, .int .u32 1), (3, .int .i64 0)] ⟨rfl, rfl, trivial⟩ fun J => ?_)))))
          have hm := oI hm; subst hm
          exact rtn (r_then (retN (vs := [.int .u32 1, .int .i64 0]) rfl ⟨rfl, rfl, trivial⟩ rfl ⟨_, rfl, _, (iT im1 (iT im2 im3)), ⟨rfl, hS3.sel [1] rfl, trivial⟩⟩))
        have hm := cfalse hb12 hm
        refine skp (t_thenR [(1, .pointer (some ⟨b1, 0, none⟩)), (4, .int .u32 y2.1)] ⟨rfl, rfl, trivial⟩ fun J => ?_)
        refine sq2 ?_
        obtain ⟨u4, hx9, hm⟩ := bindS hm
        obtain ⟨b5, of4, cs4, k4, cp4, hv4, hp4, hl4, he4, hr4, hc4, hT4⟩ := (h1.mono (iT im1 (iT im2 im3))).ixT hx9 rfl
        obtain ⟨a5, c5, rfl, h5⟩ := rref10Term_open hr4
        obtain ⟨y6, hx10, hm⟩ := bindS hm
        refine rg (pv (r_fa rfl Tryz.underlying35 rfl Tryz.sizeOf33 rfl) (pv (r_ld rfl Tryz.isAgg33 (hS3.cell0 (i := 0) ⟨rfl, rfl⟩ (j := 3) rfl)) (pv (r_ixe hv4 rfl Tryz.underlying33 Tryz.sizeOf35 hp4 hl4 he4) (pv (r_ldS rfl Tryz.isAgg35 Tryz.sizeOf35 rfl hc4 (cs := (cref10Term u4 a5 c5))) (wl rfl (calS cf12 rfl (hG.ref10_Fold (p0 := u4) (hS3.bun [0, 1] [] rfl) h5 hx10) rfl fun v6 T6 w7 im7 rv6 => ?_))))))
        obtain ⟨rfl, hS7, _⟩ := rv6
        have hS7 : Sep g T6 w7 [boxA b1 (cref10Term p0 a1 c1), R] := hS7.unb
        refine pv (r_mv rfl) (pv (r_ex (v := .int .u32 y6.1) rfl rfl) (pv (r_ex (v := .int .i64 y6.2) rfl rfl) (pv (r_zi rfl) (pv (r_zi rfl) (nil (t_then ?_))))))
        refine sq2 (sq2 (rg (pv (r_mi rfl) (pv (r_ib rfl rfl rfl) (nil (t_then ?_))))))
        refine cnd rfl (fun hb13 => ?_) (fun hb13 => ?_)
        · have hm := ctrue hb13 hm
          refine sq2 (rg (pv (r_mi rfl) (pv (r_zi rfl) (pv (r_zi rfl) (nil (t_then ?_))))))
          have hm := oI hm; subst hm
          exact rtn (r_then (retN (vs := [.int .u32 0, .int .i64 y6.2]) rfl ⟨rfl, rfl, trivial⟩ rfl ⟨_, rfl, _, (iT im1 (iT im2 (iT im3 im7))), ⟨rfl, hS7.sel [1] rfl, trivial⟩⟩))
        have hm := cfalse hb13 hm
        refine skp (t_then ?_)
        refine sq2 (sq2 (rg (pv (r_fa rfl Tryz.underlying35 rfl Tryz.sizeOf3 rfl) (pv (r_ld rfl Tryz.isAgg3 (hS7.cell0 (i := 0) ⟨rfl, rfl⟩ (j := 0) rfl)) (pv (r_ib rfl rfl rfl) (nil (t_then ?_)))))))
        refine cnd rfl (fun hb14 => ?_) (fun hb14 => ?_)
        · have hm := ctrue hb14 hm
          refine sq2 ?_
          obtain ⟨y7, hx11, hm⟩ := bindS hm
          refine rg (pv (r_fa rfl Tryz.underlying35 rfl Tryz.sizeOf3 rfl) (pv (r_ld rfl Tryz.isAgg3 (hS7.cell0 (i := 0) ⟨rfl, rfl⟩ (j := 1) rfl)) (pv (r_mi rfl) (pv (r_mi rfl) (wl rfl (calS cf8 rfl (ref10_Apply_sim (p0 := p0.Fn) (p1 := y2.1) (p2 := y6.1) (hS7.bun [1] [] rfl)  hx11) rfl fun v7 T7 w8 im8 rv7 => ?_))))))
          obtain ⟨rfl, hS8, _⟩ := rv7
          have hS8 : Sep g T7 w8 [R] := hS8.unb
          refine pv (r_ex (v := .int .u32 y7.1) rfl rfl) (pv (r_ex (v := .int .i64 y7.2) rfl rfl) (pv (r_zi rfl) (pv (r_zi rfl) (nil (t_then ?_)))))
          have hm := oI hm; subst hm
          exact rtn (r_then (retN (vs := [.int .u32 y7.1, .int .i64 y7.2]) rfl ⟨rfl, rfl, trivial⟩ rfl ⟨_, rfl, _, (iT im1 (iT im2 (iT im3 (iT im7 im8)))), ⟨rfl, hS8.sel [0] rfl, trivial⟩⟩))
        have hm := cfalse hb14 hm
        refine skp (t_then ?_)
        refine sq2 ?_
        obtain ⟨y8, hx12, hm⟩ := bindS hm
        refine rg (pv (r_mi rfl) (pv (r_ib rfl rfl rfl) (wl rfl (calS cf35 rfl (ref10_truth_sim (p0 := y6.1 != 0) (hS7.bun [1] [] rfl)  hx12) rfl fun v8 T8 w9 im9 rv8 => ?_))))
        obtain ⟨rfl, hS9, _⟩ := rv8
        have hS9 : Sep g T8 w9 [R] := hS9.unb
        refine pv (r_zi rfl) (pv (r_zi rfl) (nil (t_then ?_)))
        have hm := oI hm; subst hm
        exact rtn (retN (vs := [.int .u32 y8, .int .i64 0]) rfl ⟨rfl, rfl, trivial⟩ rfl ⟨_, rfl, _, (iT im1 (iT im2 (iT im3 (iT im7 im9)))), ⟨rfl, hS9.sel [0] rfl, trivial⟩⟩)
      have hm := cfalse hb11 hm
      refine gF (d0 := 75) rfl rfl (by rw [hb11]; rfl) (gF (d0 := 75) rfl rfl (by rw [hb11]; rfl) (pv (r_pkf rfl hb11 rfl) (nil (t_then ?_))))
      refine cnd (b := false) rfl (fun h => nomatch h) (fun _ => ?_)
      refine skp (t_thenR [(1, .pointer (some ⟨b1, 0, none⟩)), (4, .int .u32 y2.1)] ⟨rfl, rfl, trivial⟩ fun J => ?_)
      refine sq2 ?_
      obtain ⟨u5, hx13, hm⟩ := bindS hm
      obtain ⟨b6, of5, cs5, k5, cp5, hv5, hp5, hl5, he5, hr5, hc5, hT5⟩ := (h1.mono (iT im1 (iT im2 im3))).ixT hx13 rfl
      obtain ⟨a6, c6, rfl, h6⟩ := rref10Term_open hr5
      obtain ⟨y9, hx14, hm⟩ := bindS hm
      refine rg (pv (r_fa rfl Tryz.underlying35 rfl Tryz.sizeOf33 rfl) (pv (r_ld rfl Tryz.isAgg33 (hS3.cell0 (i := 0) ⟨rfl, rfl⟩ (j := 3) rfl)) (pv (r_ixe hv5 rfl Tryz.underlying33 Tryz.sizeOf35 hp5 hl5 he5) (pv (r_ldS rfl Tryz.isAgg35 Tryz.sizeOf35 rfl hc5 (cs := (cref10Term u5 a6 c6))) (wl rfl (calS cf12 rfl (hG.ref10_Fold (p0 := u5) (hS3.bun [0, 1] [] rfl) h6 hx14) rfl fun v9 T9 w10 im10 rv9 => ?_))))))
      obtain ⟨rfl, hS10, _⟩ := rv9
      have hS10 : Sep g T9 w10 [boxA b1 (cref10Term p0 a1 c1), R] := hS10.unb
      refine pv (r_mv rfl) (pv (r_ex (v := .int .u32 y9.1) rfl rfl) (pv (r_ex (v := .int .i64 y9.2) rfl rfl) (pv (r_zi rfl) (pv (r_zi rfl) (nil (t_then ?_))))))
      refine sq2 (sq2 (rg (pv (r_mi rfl) (pv (r_ib rfl rfl rfl) (nil (t_then ?_))))))
      refine cnd rfl (fun hb16 => ?_) (fun hb16 => ?_)
      · have hm := ctrue hb16 hm
        refine sq2 (rg (pv (r_mi rfl) (pv (r_zi rfl) (pv (r_zi rfl) (nil (t_then ?_))))))
        have hm := oI hm; subst hm
        exact rtn (r_then (retN (vs := [.int .u32 0, .int .i64 y9.2]) rfl ⟨rfl, rfl, trivial⟩ rfl ⟨_, rfl, _, (iT im1 (iT im2 (iT im3 im10))), ⟨rfl, hS10.sel [1] rfl, trivial⟩⟩))
      have hm := cfalse hb16 hm
      refine skp (t_then ?_)
      refine sq2 (sq2 (rg (pv (r_fa rfl Tryz.underlying35 rfl Tryz.sizeOf3 rfl) (pv (r_ld rfl Tryz.isAgg3 (hS10.cell0 (i := 0) ⟨rfl, rfl⟩ (j := 0) rfl)) (pv (r_ib rfl rfl rfl) (nil (t_then ?_)))))))
      refine cnd rfl (fun hb17 => ?_) (fun hb17 => ?_)
      · have hm := ctrue hb17 hm
        refine sq2 ?_
        obtain ⟨y10, hx15, hm⟩ := bindS hm
        refine rg (pv (r_fa rfl Tryz.underlying35 rfl Tryz.sizeOf3 rfl) (pv (r_ld rfl Tryz.isAgg3 (hS10.cell0 (i := 0) ⟨rfl, rfl⟩ (j := 1) rfl)) (pv (r_mi rfl) (pv (r_mi rfl) (wl rfl (calS cf8 rfl (ref10_Apply_sim (p0 := p0.Fn) (p1 := y2.1) (p2 := y9.1) (hS10.bun [1] [] rfl)  hx15) rfl fun v10 T10 w11 im11 rv10 => ?_))))))
        obtain ⟨rfl, hS11, _⟩ := rv10
        have hS11 : Sep g T10 w11 [R] := hS11.unb
        refine pv (r_ex (v := .int .u32 y10.1) rfl rfl) (pv (r_ex (v := .int .i64 y10.2) rfl rfl) (pv (r_zi rfl) (pv (r_zi rfl) (nil (t_then ?_)))))
        have hm := oI hm; subst hm
        exact rtn (r_then (retN (vs := [.int .u32 y10.1, .int .i64 y10.2]) rfl ⟨rfl, rfl, trivial⟩ rfl ⟨_, rfl, _, (iT im1 (iT im2 (iT im3 (iT im10 im11)))), ⟨rfl, hS11.sel [0] rfl, trivial⟩⟩))
      have hm := cfalse hb17 hm
      refine skp (t_then ?_)
      refine sq2 ?_
      obtain ⟨y11, hx16, hm⟩ := bindS hm
      refine rg (pv (r_mi rfl) (pv (r_ib rfl rfl rfl) (wl rfl (calS cf35 rfl (ref10_truth_sim (p0 := y9.1 != 0) (hS10.bun [1] [] rfl)  hx16) rfl fun v11 T11 w12 im12 rv11 => ?_))))
      obtain ⟨rfl, hS12, _⟩ := rv11
      have hS12 : Sep g T11 w12 [R] := hS12.unb
      refine pv (r_zi rfl) (pv (r_zi rfl) (nil (t_then ?_)))
      have hm := oI hm; subst hm
      exact rtn (retN (vs := [.int .u32 y11, .int .i64 0]) rfl ⟨rfl, rfl, trivial⟩ rfl ⟨_, rfl, _, (iT im1 (iT im2 (iT im3 (iT im10 im12)))), ⟨rfl, hS12.sel [0] rfl, trivial⟩⟩)
    have hm := cfalse hb9 hm
    refine gF (d0 := 68) rfl rfl (by rw [hb9]; rfl) (gF (d0 := 68) rfl rfl (by rw [hb9]; rfl) (pv (r_pkf rfl hb9 rfl) (nil (t_then ?_))))
    refine cnd (b := false) rfl (fun h => nomatch h) (fun _ => ?_)
    refine skp (t_then ?_)
    refine sq2 (sq2 (rg (pv (r_fa rfl Tryz.underlying35 rfl Tryz.sizeOf3 rfl) (pv (r_ld rfl Tryz.isAgg3 (hS3.cell0 (i := 0) ⟨rfl, rfl⟩ (j := 0) rfl)) (pv (r_ib rfl rfl rfl) (pv (r_mb rfl) (?_)))))))
    rcases Bool.eq_false_or_eq_true (p0.Kind == 8) with hb19 | hb19
    · have hm := ctrue hb19 hm
      refine gT (d0 := 75) rfl rfl hb19 (pv (r_mi rfl) (gT (d0 := 75) rfl rfl hb19 (pv (r_ib rfl rfl rfl) (pv (r_pkt rfl hb19 rfl) (nil (t_then ?_))))))
      refine cnd rfl (fun hb20 => ?_) (fun hb20 => ?_)
      · have hm := ctrue hb20 hm
        refine sq2 (rg (pv (r_zi rfl) (pv (r_zi rfl) (nil (t_thenR [(2, .int .u32 1), (3, .int .i64 0)] ⟨rfl, rfl, trivial⟩ fun J => ?_)))))
        have hm := oI hm; subst hm
        exact rtn (r_then (retN (vs := [.int .u32 1, .int .i64 0]) rfl ⟨rfl, rfl, trivial⟩ rfl ⟨_, rfl, _, (iT im1 (iT im2 im3)), ⟨rfl, hS3.sel [1] rfl, trivial⟩⟩))
      have hm := cfalse hb20 hm
      refine skp (t_thenR [(1, .pointer (some ⟨b1, 0, none⟩)), (4, .int .u32 y2.1)] ⟨rfl, rfl, trivial⟩ fun J => ?_)
      refine sq2 ?_
      obtain ⟨u6, hx17, hm⟩ := bindS hm
      obtain ⟨b7, of6, cs6, k6, cp6, hv6, hp6, hl6, he6, hr6, hc6, hT6⟩ := (h1.mono (iT im1 (iT im2 im3))).ixT hx17 rfl
      obtain ⟨a7, c7, rfl, h7⟩ := rref10Term_open hr6
      obtain ⟨y12, hx18, hm⟩ := bindS hm
      refine rg (pv (r_fa rfl Tryz.underlying35 rfl Tryz.sizeOf33 rfl) (pv (r_ld rfl Tryz.isAgg33 (hS3.cell0 (i := 0) ⟨rfl, rfl⟩ (j := 3) rfl)) (pv (r_ixe hv6 rfl Tryz.underlying33 Tryz.sizeOf35 hp6 hl6 he6) (pv (r_ldS rfl Tryz.isAgg35 Tryz.sizeOf35 rfl hc6 (cs := (cref10Term u6 a7 c7))) (wl rfl (calS cf12 rfl (hG.ref10_Fold (p0 := u6) (hS3.bun [0, 1] [] rfl) h7 hx18) rfl fun v12 T12 w13 im13 rv12 => ?_))))))
      obtain ⟨rfl, hS13, _⟩ := rv12
      have hS13 : Sep g T12 w13 [boxA b1 (cref10Term p0 a1 c1), R] := hS13.unb
      refine pv (r_mv rfl) (pv (r_ex (v := .int .u32 y12.1) rfl rfl) (pv (r_ex (v := .int .i64 y12.2) rfl rfl) (pv (r_zi rfl) (pv (r_zi rfl) (nil (t_then ?_))))))
      refine sq2 (sq2 (rg (pv (r_mi rfl) (pv (r_ib rfl rfl rfl) (nil (t_then ?_))))))
      refine cnd rfl (fun hb21 => ?_) (fun hb21 => ?_)
      · have hm := ctrue hb21 hm
        refine sq2 (rg (pv (r_mi rfl) (pv (r_zi rfl) (pv (r_zi rfl) (nil (t_then ?_))))))
        have hm := oI hm; subst hm
        exact rtn (r_then (retN (vs := [.int .u32 0, .int .i64 y12.2]) rfl ⟨rfl, rfl, trivial⟩ rfl ⟨_, rfl, _, (iT im1 (iT im2 (iT im3 im13))), ⟨rfl, hS13.sel [1] rfl, trivial⟩⟩))
      have hm := cfalse hb21 hm
      refine skp (t_then ?_)
      refine sq2 (sq2 (rg (pv (r_fa rfl Tryz.underlying35 rfl Tryz.sizeOf3 rfl) (pv (r_ld rfl Tryz.isAgg3 (hS13.cell0 (i := 0) ⟨rfl, rfl⟩ (j := 0) rfl)) (pv (r_ib rfl rfl rfl) (nil (t_then ?_)))))))
      refine cnd rfl (fun hb22 => ?_) (fun hb22 => ?_)
      · have hm := ctrue hb22 hm
        refine sq2 ?_
        obtain ⟨y13, hx19, hm⟩ := bindS hm
        refine rg (pv (r_fa rfl Tryz.underlying35 rfl Tryz.sizeOf3 rfl) (pv (r_ld rfl Tryz.isAgg3 (hS13.cell0 (i := 0) ⟨rfl, rfl⟩ (j := 1) rfl)) (pv (r_mi rfl) (pv (r_mi rfl) (wl rfl (calS cf8 rfl (ref10_Apply_sim (p0 := p0.Fn) (p1 := y2.1) (p2 := y12.1) (hS13.bun [1] [] rfl)  hx19) rfl fun v13 T13 w14 im14 rv13 => ?_))))))
        obtain ⟨rfl, hS14, _⟩ := rv13
        have hS14 : Sep g T13 w14 [R] := hS14.unb
        refine pv (r_ex (v := .int .u32 y13.1) rfl rfl) (pv (r_ex (v := .int .i64 y13.2) rfl rfl) (pv (r_zi rfl) (pv (r_zi rfl) (nil (t_then ?_)))))
        have hm := oI hm; subst hm
        exact rtn (r_then (retN (vs := [.int .u32 y13.1, .int .i64 y13.2]) rfl ⟨rfl, rfl, trivial⟩ rfl ⟨_, rfl, _, (iT im1 (iT im2 (iT im3 (iT im13 im14)))), ⟨rfl, hS14.sel [0] rfl, trivial⟩⟩))
      have hm := cfalse hb22 hm
      refine skp (t_then ?_)
      refine sq2 ?_
      obtain ⟨y14, hx20, hm⟩ := bindS hm
      refine rg (pv (r_mi rfl) (pv (r_ib rfl rfl rfl) (wl rfl (calS cf35 rfl (ref10_truth_sim (p0 := y12.1 != 0) (hS13.bun [1] [] rfl)  hx20) rfl fun v14 T14 w15 im15 rv14 => ?_))))
      obtain ⟨rfl, hS15, _⟩ := rv14
      have hS15 : Sep g T14 w15 [R] := hS15.unb
      refine pv (r_zi rfl) (pv (r_zi rfl) (nil (t_then ?_)))
      have hm := oI hm; subst hm
      exact rtn (retN (vs := [.int .u32 y14, .int .i64 0]) rfl ⟨rfl, rfl, trivial⟩ rfl ⟨_, rfl, _, (iT im1 (iT im2 (iT im3 (iT im13 im15)))), ⟨rfl, hS15.sel [0] rfl, trivial⟩⟩)
    have hm := cfalse hb19 hm
    refine gF (d0 := 75) rfl rfl (by rw [hb19]; rfl) (gF (d0 := 75) rfl rfl (by rw [hb19]; rfl) (pv (r_pkf rfl hb19 rfl) (nil (t_then ?_))))
    refine cnd (b := false) rfl (fun h => nomatch h) (fun _ => ?_)
    refine skp (t_thenR [(1, .pointer (some ⟨b1, 0, none⟩)), (4, .int .u32 y2.1)] ⟨rfl, rfl, trivial⟩ fun J => ?_)
    refine sq2 ?_
    obtain ⟨u7, hx21, hm⟩ := bindS hm
    obtain ⟨b8, of7, cs7, k7, cp7, hv7, hp7, hl7, he7, hr7, hc7, hT7⟩ := (h1.mono (iT im1 (iT im2 im3))).ixT hx21 rfl
    obtain ⟨a8, c8, rfl, h8⟩ := rref10Term_open hr7
    obtain ⟨y15, hx22, hm⟩ := bindS hm
    refine rg (pv (r_fa rfl Tryz.underlying35 rfl Tryz.sizeOf33 rfl) (pv (r_ld rfl Tryz.isAgg33 (hS3.cell0 (i := 0) ⟨rfl, rfl⟩ (j := 3) rfl)) (pv (r_ixe hv7 rfl Tryz.underlying33 Tryz.sizeOf35 hp7 hl7 he7) (pv (r_ldS rfl Tryz.isAgg35 Tryz.sizeOf35 rfl hc7 (cs := (cref10Term u7 a8 c8))) (wl rfl (calS cf12 rfl (hG.ref10_Fold (p0 := u7) (hS3.bun [0, 1] [] rfl) h8 hx22) rfl fun v15 T15 w16 im16 rv15 => ?_))))))
    obtain ⟨rfl, hS16, _⟩ := rv15
    have hS16 : Sep g T15 w16 [boxA b1 (cref10Term p0 a1 c1), R] := hS16.unb
    refine pv (r_mv rfl) (pv (r_ex (v := .int .u32 y15.1) rfl rfl) (pv (r_ex (v := .int .i64 y15.2) rfl rfl) (pv (r_zi rfl) (pv (r_zi rfl) (nil (t_then ?_))))))
    refine sq2 (sq2 (rg (pv (r_mi rfl) (pv (r_ib rfl rfl rfl) (nil (t_then ?_))))))
    refine cnd rfl (fun hb24 => ?_) (fun hb24 => ?_)
    · have hm := ctrue hb24 hm
      refine sq2 (rg (pv (r_mi rfl) (pv (r_zi rfl) (pv (r_zi rfl) (nil (t_then ?_))))))
      have hm := oI hm; subst hm
      exact rtn (r_then (retN (vs := [.int .u32 0, .int .i64 y15.2]) rfl ⟨rfl, rfl, trivial⟩ rfl ⟨_, rfl, _, (iT im1 (iT im2 (iT im3 im16))), ⟨rfl, hS16.sel [1] rfl, trivial⟩⟩))
    have hm := cfalse hb24 hm
    refine skp (t_then ?_)
    refine sq2 (sq2 (rg (pv (r_fa rfl Tryz.underlying35 rfl Tryz.sizeOf3 rfl) (pv (r_ld rfl Tryz.isAgg3 (hS16.cell0 (i := 0) ⟨rfl, rfl⟩ (j := 0) rfl)) (pv (r_ib rfl rfl rfl) (nil (t_then ?_)))))))
    refine cnd rfl (fun hb25 => ?_) (fun hb25 => ?_)
    · have hm := ctrue hb25 hm
      refine sq2 ?_
      obtain ⟨y16, hx23, hm⟩ := bindS hm
      refine rg (pv (r_fa rfl Tryz.underlying35 rfl Tryz.sizeOf3 rfl) (pv (r_ld rfl Tryz.isAgg3 (hS16.cell0 (i := 0) ⟨rfl, rfl⟩ (j := 1) rfl)) (pv (r_mi rfl) (pv (r_mi rfl) (wl rfl (calS cf8 rfl (ref10_Apply_sim (p0 := p0.Fn) (p1 := y2.1) (p2 := y15.1) (hS16.bun [1] [] rfl)  hx23) rfl fun v16 T16 w17 im17 rv16 => ?_))))))
      obtain ⟨rfl, hS17, _⟩ := rv16
      have hS17 : Sep g T16 w17 [R] := hS17.unb
      refine pv (r_ex (v := .int .u32 y16.1) rfl rfl) (pv (r_ex (v := .int .i64 y16.2) rfl rfl) (pv (r_zi rfl) (pv (r_zi rfl) (nil (t_then ?_)))))
      have hm := oI hm; subst hm
      exact rtn (r_then (retN (vs := [.int .u32 y16.1, .int .i64 y16.2]) rfl ⟨rfl, rfl, trivial⟩ rfl ⟨_, rfl, _, (iT im1 (iT im2 (iT im3 (iT im16 im17)))), ⟨rfl, hS17.sel [0] rfl, trivial⟩⟩))
    have hm := cfalse hb25 hm
    refine skp (t_then ?_)
    refine sq2 ?_
    obtain ⟨y17, hx24, hm⟩ := bindS hm
    refine rg (pv (r_mi rfl) (pv (r_ib rfl rfl rfl) (wl rfl (calS cf35 rfl (ref10_truth_sim (p0 := y15.1 != 0) (hS16.bun [1] [] rfl)  hx24) rfl fun v17 T17 w18 im18 rv17 => ?_))))
    obtain ⟨rfl, hS18, _⟩ := rv17
    have hS18 : Sep g T17 w18 [R] := hS18.unb
    refine pv (r_zi rfl) (pv (r_zi rfl) (nil (t_then ?_)))
    have hm := oI hm; subst hm
    exact rtn (retN (vs := [.int .u32 y17, .int .i64 0]) rfl ⟨rfl, rfl, trivial⟩ rfl ⟨_, rfl, _, (iT im1 (iT im2 (iT im3 (iT im16 im18)))), ⟨rfl, hS18.sel [0] rfl, trivial⟩⟩)
  have hm := cfalse hb6 hm
  refine gF (d0 := 44) rfl rfl (by rw [hb6]; rfl) (gF (d0 := 44) rfl rfl (by rw [hb6]; rfl) (pv (r_pkf rfl hb6 rfl) (nil (t_then ?_))))
  refine cnd (b := false) rfl (fun h => nomatch h) (fun _ => ?_)
  refine skp (t_then ?_)
  refine sq2 (sq2 (rg (pv (r_fa rfl Tryz.underlying35 rfl Tryz.sizeOf3 rfl) (pv (r_ld rfl Tryz.isAgg3 (hS3.cell0 (i := 0) ⟨rfl, rfl⟩ (j := 0) rfl)) (pv (r_ib rfl rfl rfl) (nil (t_then ?_)))))))
  refine cnd rfl (fun hb27 => ?_) (fun hb27 => ?_)
  · have hm := ctrue hb27 hm
    refine sq2 ?_
    obtain ⟨u8, hx25, hm⟩ := bindS hm
    obtain ⟨b9, of8, cs8, k8, cp8, hv8, hp8, hl8, he8, hr8, hc8, hT8⟩ := (h1.mono (iT im1 (iT im2 im3))).ixT hx25 rfl
    obtain ⟨a9, c9, rfl, h9⟩ := rref10Term_open hr8
    obtain ⟨y18, hx26, hm⟩ := bindS hm
    refine rg (pv (r_fa rfl Tryz.underlying35 rfl Tryz.sizeOf33 rfl) (pv (r_ld rfl Tryz.isAgg33 (hS3.cell0 (i := 0) ⟨rfl, rfl⟩ (j := 3) rfl)) (pv (r_ixe hv8 rfl Tryz.underlying33 Tryz.sizeOf35 hp8 hl8 he8) (pv (r_ldS rfl Tryz.isAgg35 Tryz.sizeOf35 rfl hc8 (cs := (cref10Term u8 a9 c9))) (wl rfl (calS cf12 rfl (hG.ref10_Fold (p0 := u8) (hS3.bun [1] [] rfl) h9 hx26) rfl fun v18 T18 w19 im19 rv18 => ?_))))))
    obtain ⟨rfl, hS19, _⟩ := rv18
    have hS19 : Sep g T18 w19 [R] := hS19.unb
    refine pv (r_ex (v := .int .u32 y18.1) rfl rfl) (pv (r_ex (v := .int .i64 y18.2) rfl rfl) (pv (r_zi rfl) (pv (r_zi rfl) (nil (t_then ?_)))))
    have hm := oI hm; subst hm
    exact rtn (r_then (retN (vs := [.int .u32 y18.1, .int .i64 y18.2]) rfl ⟨rfl, rfl, trivial⟩ rfl ⟨_, rfl, _, (iT im1 (iT im2 (iT im3 im19))), ⟨rfl, hS19.sel [0] rfl, trivial⟩⟩))
  have hm := cfalse hb27 hm
  refine skp (t_then ?_)
  refine sq2 (sq2 (rg (pv (r_fa rfl Tryz.underlying35 rfl Tryz.sizeOf3 rfl) (pv (r_ld rfl Tryz.isAgg3 (hS3.cell0 (i := 0) ⟨rfl, rfl⟩ (j := 0) rfl)) (pv (r_ib rfl rfl rfl) (pv (r_mb rfl) (?_)))))))
  rcases Bool.eq_false_or_eq_true (p0.Kind == 7) with hb28 | hb28
  · have hm := ctrue hb28 hm
    refine gT (d0 := 68) rfl rfl hb28 (pv (r_mi rfl) (gT (d0 := 68) rfl rfl hb28 (pv (r_ib rfl rfl rfl) (pv (r_pkt rfl hb28 rfl) (nil (t_then ?_))))))
    refine cnd rfl (fun hb29 => ?_) (fun hb29 => ?_)
    · have hm := ctrue hb29 hm
      refine sq2 (rg (pv (r_zi rfl) (pv (r_zi rfl) (nil (t_then ?_)))))
      have hm := oI hm; subst hm
      exact rtn (r_then (retN (vs := [.int .u32 0, .int .i64 0]) rfl ⟨rfl, rfl, trivial⟩ rfl ⟨_, rfl, _, (iT im1 (iT im2 im3)), ⟨rfl, hS3.sel [1] rfl, trivial⟩⟩))
    have hm := cfalse hb29 hm
    refine skp (t_then ?_)
    refine sq2 (sq2 (rg (pv (r_fa rfl Tryz.underlying35 rfl Tryz.sizeOf3 rfl) (pv (r_ld rfl Tryz.isAgg3 (hS3.cell0 (i := 0) ⟨rfl, rfl⟩ (j := 0) rfl)) (pv (r_ib rfl rfl rfl) (pv (r_mb rfl) (?_)))))))
    rcases Bool.eq_false_or_eq_true (p0.Kind == 8) with hb30 | hb30
    · have hm := ctrue hb30 hm
      refine gT (d0 := 75) rfl rfl hb30 (pv (r_mi rfl) (gT (d0 := 75) rfl rfl hb30 (pv (r_ib rfl rfl rfl) (pv (r_pkt rfl hb30 rfl) (nil (t_then ?_))))))
      refine cnd rfl (fun hb31 => ?_) (fun hb31 => ?_)
      · have hm := ctrue hb31 hm
        refine sq2 (rg (pv (r_zi rfl) (pv (r_zi rfl) (nil (t_thenR [(2, .int .u32 1), (3, .int .i64 0)] ⟨rfl, rfl, trivial⟩ fun J => ?_)))))
        have hm := oI hm; subst hm
        exact rtn (r_then (retN (vs := [.int .u32 1, .int .i64 0]) rfl ⟨rfl, rfl, trivial⟩ rfl ⟨_, rfl, _, (iT im1 (iT im2 im3)), ⟨rfl, hS3.sel [1] rfl, trivial⟩⟩))
      have hm := cfalse hb31 hm
      refine skp (t_thenR [(1, .pointer (some ⟨b1, 0, none⟩)), (4, .int .u32 y2.1)] ⟨rfl, rfl, trivial⟩ fun J => ?_)
      refine sq2 ?_
      obtain ⟨u9, hx27, hm⟩ := bindS hm
      obtain ⟨b10, of9, cs9, k9, cp9, hv9, hp9, hl9, he9, hr9, hc9, hT9⟩ := (h1.mono (iT im1 (iT im2 im3))).ixT hx27 rfl
      obtain ⟨a10, c10, rfl, h10⟩ := rref10Term_open hr9
      obtain ⟨y19, hx28, hm⟩ := bindS hm
      refine rg (pv (r_fa rfl Tryz.underlying35 rfl Tryz.sizeOf33 rfl) (pv (r_ld rfl Tryz.isAgg33 (hS3.cell0 (i := 0) ⟨rfl, rfl⟩ (j := 3) rfl)) (pv (r_ixe hv9 rfl Tryz.underlying33 Tryz.sizeOf35 hp9 hl9 he9) (pv (r_ldS rfl Tryz.isAgg35 Tryz.sizeOf35 rfl hc9 (cs := (cref10Term u9 a10 c10))) (wl rfl (calS cf12 rfl (hG.ref10_Fold (p0 := u9) (hS3.bun [0, 1] [] rfl) h10 hx28) rfl fun v19 T19 w20 im20 rv19 => ?_))))))
      obtain ⟨rfl, hS20, _⟩ := rv19
      have hS20 : Sep g T19 w20 [boxA b1 (cref10Term p0 a1 c1), R] := hS20.unb
      refine pv (r_mv rfl) (pv (r_ex (v := .int .u32 y19.1) rfl rfl) (pv (r_ex (v := .int .i64 y19.2) rfl rfl) (pv (r_zi rfl) (pv (r_zi rfl) (nil (t_then ?_))))))
      refine sq2 (sq2 (rg (pv (r_mi rfl) (pv (r_ib rfl rfl rfl) (nil (t_then ?_))))))
      refine cnd rfl (fun hb32 => ?_) (fun hb32 => ?_)
      · have hm := ctrue hb32 hm
        refine sq2 (rg (pv (r_mi rfl) (pv (r_zi rfl) (pv (r_zi rfl) (nil (t_then ?_))))))
        have hm := oI hm; subst hm
        exact rtn (r_then (retN (vs := [.int .u32 0, .int .i64 y19.2]) rfl ⟨rfl, rfl, trivial⟩ rfl ⟨_, rfl, _, (iT im1 (iT im2 (iT im3 im20))), ⟨rfl, hS20.sel [1] rfl, trivial⟩⟩))
      have hm := cfalse hb32 hm
      refine skp (t_then ?_)
      refine sq2 (sq2 (rg (pv (r_fa rfl Tryz.underlying35 rfl Tryz.sizeOf3 rfl) (pv (r_ld rfl Tryz.isAgg3 (hS20.cell0 (i := 0) ⟨rfl, rfl⟩ (j := 0) rfl)) (pv (r_ib rfl rfl rfl) (nil (t_then ?_)))))))
      refine cnd rfl (fun hb33 => ?_) (fun hb33 => ?_)
      · have hm := ctrue hb33 hm
        refine sq2 ?_
        obtain ⟨y20, hx29, hm⟩ := bindS hm
        refine rg (pv (r_fa rfl Tryz.underlying35 rfl Tryz.sizeOf3 rfl) (pv (r_ld rfl Tryz.isAgg3 (hS20.cell0 (i := 0) ⟨rfl, rfl⟩ (j := 1) rfl)) (pv (r_mi rfl) (pv (r_mi rfl) (wl rfl (calS cf8 rfl (ref10_Apply_sim (p0 := p0.Fn) (p1 := y2.1) (p2 := y19.1) (hS20.bun [1] [] rfl)  hx29) rfl fun v20 T20 w21 im21 rv20 => ?_))))))
        obtain ⟨rfl, hS21, _⟩ := rv20
        have hS21 : Sep g T20 w21 [R] := hS21.unb
        refine pv (r_ex (v := .int .u32 y20.1) rfl rfl) (pv (r_ex (v := .int .i64 y20.2) rfl rfl) (pv (r_zi rfl) (pv (r_zi rfl) (nil (t_then ?_)))))
        have hm := oI hm; subst hm
        exact rtn (r_then (retN (vs := [.int .u32 y20.1, .int .i64 y20.2]) rfl ⟨rfl, rfl, trivial⟩ rfl ⟨_, rfl, _, (iT im1 (iT im2 (iT im3 (iT im20 im21)))), ⟨rfl, hS21.sel [0] rfl, trivial⟩⟩))
      have hm := cfalse hb33 hm
      refine skp (t_then ?_)
      refine sq2 ?_
      obtain ⟨y21, hx30, hm⟩ := bindS hm
      refine rg (pv (r_mi rfl) (pv (r_ib rfl rfl rfl) (wl rfl (calS cf35 rfl (ref10_truth_sim (p0 := y19.1 != 0) (hS20.bun [1] [] rfl)  hx30) rfl fun v21 T21 w22 im22 rv21 => ?_))))
      obtain ⟨rfl, hS22, _⟩ := rv21
      have hS22 : Sep g T21 w22 [R] := hS22.unb
      refine pv (r_zi rfl) (pv (r_zi rfl) (nil (t_then ?_)))
      have hm := oI hm; subst hm
      exact rtn (retN (vs := [.int .u32 y21, .int .i64 0]) rfl ⟨rfl, rfl, trivial⟩ rfl ⟨_, rfl, _, (iT im1 (iT im2 (iT im3 (iT im20 im22)))), ⟨rfl, hS22.sel [0] rfl, trivial⟩⟩)
    have hm := cfalse hb30 hm
    refine gF (d0 := 75) rfl rfl (by rw [hb30]; rfl) (gF (d0 := 75) rfl rfl (by rw [hb30]; rfl) (pv (r_pkf rfl hb30 rfl) (nil (t_then ?_))))
    refine cnd (b := false) rfl (fun h => nomatch h) (fun _ => ?_)
    refine skp (t_thenR [(1, .pointer (some ⟨b1, 0, none⟩)), (4, .int .u32 y2.1)] ⟨rfl, rfl, trivial⟩ fun J => ?_)
    refine sq2 ?_
    obtain ⟨u10, hx31, hm⟩ := bindS hm
    obtain ⟨b11, of10, cs10, k10, cp10, hv10, hp10, hl10, he10, hr10, hc10, hT10⟩ := (h1.mono (iT im1 (iT im2 im3))).ixT hx31 rfl
    obtain ⟨a11, c11, rfl, h11⟩ := rref10Term_open hr10
    obtain ⟨y22, hx32, hm⟩ := bindS hm
    refine rg (pv (r_fa rfl Tryz.underlying35 rfl Tryz.sizeOf33 rfl) (pv (r_ld rfl Tryz.isAgg33 (hS3.cell0 (i := 0) ⟨rfl, rfl⟩ (j := 3) rfl)) (pv (r_ixe hv10 rfl Tryz.underlying33 Tryz.sizeOf35 hp10 hl10 he10) (pv (r_ldS rfl Tryz.isAgg35 Tryz.sizeOf35 rfl hc10 (cs := (cref10Term u10 a11 c11))) (wl rfl (calS cf12 rfl (hG.ref10_Fold (p0 := u10) (hS3.bun [0, 1] [] rfl) h11 hx32) rfl fun v22 T22 w23 im23 rv22 => ?_))))))
    obtain ⟨rfl, hS23, _⟩ := rv22
    have hS23 : Sep g T22 w23 [boxA b1 (cref10Term p0 a1 c1), R] := hS23.unb
    refine pv (r_mv rfl) (pv (r_ex (v := .int .u32 y22.1) rfl rfl) (pv (r_ex (v := .int .i64 y22.2) rfl rfl) (pv (r_zi rfl) (pv (r_zi rfl) (nil (t_then ?_))))))
    refine sq2 (sq2 (rg (pv (r_mi rfl) (pv (r_ib rfl rfl rfl) (nil (t_then ?_))))))
    refine cnd rfl (fun hb35 => ?_) (fun hb35 => ?_)
    · have hm := ctrue hb35 hm
      refine sq2 (rg (pv (r_mi rfl) (pv (r_zi rfl) (pv (r_zi rfl) (nil (t_then ?_))))))
      have hm := oI hm; subst hm
      exact rtn (r_then (retN (vs := [.int .u32 0, .int .i64 y22.2]) rfl ⟨rfl, rfl, trivial⟩ rfl ⟨_, rfl, _, (iT im1 (iT im2 (iT im3 im23))), ⟨rfl, hS23.sel [1] rfl, trivial⟩⟩))
    have hm := cfalse hb35 hm
    refine skp (t_then ?_)
    refine sq2 (sq2 (rg (pv (r_fa rfl Tryz.underlying35 rfl Tryz.sizeOf3 rfl) (pv (r_ld rfl Tryz.isAgg3 (hS23.cell0 (i := 0) ⟨rfl, rfl⟩ (j := 0) rfl)) (pv (r_ib rfl rfl rfl) (nil (t_then ?_)))))))
    refine cnd rfl (fun hb36 => ?_) (fun hb36 => ?_)
    · have hm := ctrue hb36 hm
      refine sq2 ?_
      obtain ⟨y23, hx33, hm⟩ := bindS hm
      refine rg (pv (r_fa rfl Tryz.underlying35 rfl Tryz.sizeOf3 rfl) (pv (r_ld rfl Tryz.isAgg3 (hS23.cell0 (i := 0) ⟨rfl, rfl⟩ (j := 1) rfl)) (pv (r_mi rfl) (pv (r_mi rfl) (wl rfl (calS cf8 rfl (ref10_Apply_sim (p0 := p0.Fn) (p1 := y2.1) (p2 := y22.1) (hS23.bun [1] [] rfl)  hx33) rfl fun v23 T23 w24 im24 rv23 => ?_))))))
      obtain ⟨rfl, hS24, _⟩ := rv23
      have hS24 : Sep g T23 w24 [R] := hS24.unb
      refine pv (r_ex (v := .int .u32 y23.1) rfl rfl) (pv (r_ex (v := .int .i64 y23.2) rfl rfl) (pv (r_zi rfl) (pv (r_zi rfl) (nil (t_then ?_)))))
      have hm := oI hm; subst hm
      exact rtn (r_then (retN (vs := [.int .u32 y23.1, .int .i64 y23.2]) rfl ⟨rfl, rfl, trivial⟩ rfl ⟨_, rfl, _, (iT im1 (iT im2 (iT im3 (iT im23 im24)))), ⟨rfl, hS24.sel [0] rfl, trivial⟩⟩))
    have hm := cfalse hb36 hm
    refine skp (t_then ?_)
    refine sq2 ?_
    obtain ⟨y24, hx34, hm⟩ := bindS hm
    refine rg (pv (r_mi rfl) (pv (r_ib rfl rfl rfl) (wl rfl (calS cf35 rfl (ref10_truth_sim (p0 := y22.1 != 0) (hS23.bun [1] [] rfl)  hx34) rfl fun v24 T24 w25 im25 rv24 => ?_))))
    obtain ⟨rfl, hS25, _⟩ := rv24
    have hS25 : Sep g T24 w25 [R] := hS25.unb
    refine pv (r_zi rfl) (pv (r_zi rfl) (nil (t_then ?_)))
    have hm := oI hm; subst hm
    exact rtn (retN (vs := [.int .u32 y24, .int .i64 0]) rfl ⟨rfl, rfl, trivial⟩ rfl ⟨_, rfl, _, (iT im1 (iT im2 (iT im3 (iT im23 im25)))), ⟨rfl, hS25.sel [0] rfl, trivial⟩⟩)
  have hm := cfalse hb28 hm
  refine gF (d0 := 68) rfl rfl (by rw [hb28]; rfl) (gF (d0 := 68) rfl rfl (by rw [hb28]; rfl) (pv (r_pkf rfl hb28 rfl) (nil (t_then ?_))))
  refine cnd (b := false) rfl (fun h => nomatch h) (fun _ => ?_)
  refine skp (t_then ?_)
  refine sq2 (sq2 (rg (pv (r_fa rfl Tryz.underlying35 rfl Tryz.sizeOf3 rfl) (pv (r_ld rfl Tryz.isAgg3 (hS3.cell0 (i := 0) ⟨rfl, rfl⟩ (j := 0) rfl)) (pv (r_ib rfl rfl rfl) (pv (r_mb rfl) (?_)))))))
  rcases Bool.eq_false_or_eq_true (p0.Kind == 8) with hb38 | hb38
  · have hm := ctrue hb38 hm
    refine gT (d0 := 75) rfl rfl hb38 (pv (r_mi rfl) (gT (d0 := 75) rfl rfl hb38 (pv (r_ib rfl rfl rfl) (pv (r_pkt rfl hb38 rfl) (nil (t_then ?_))))))
    refine cnd rfl (fun hb39 => ?_) (fun hb39 => ?_)
    · have hm := ctrue hb39 hm
      refine sq2 (rg (pv (r_zi rfl) (pv (r_zi rfl) (nil (t_thenR [(2, .int .u32 1), (3, .int .i64 0)] ⟨rfl, rfl, trivial⟩ fun J => ?_)))))
      have hm := oI hm; subst hm
      exact rtn (r_then (retN (vs := [.int .u32 1, .int .i64 0]) rfl ⟨rfl, rfl, trivial⟩ rfl ⟨_, rfl, _, (iT im1 (iT im2 im3)), ⟨rfl, hS3.sel [1] rfl, trivial⟩⟩))
    have hm := cfalse hb39 hm
    refine skp (t_thenR [(1, .pointer (some ⟨b1, 0, none⟩)), (4, .int .u32 y2.1)] ⟨rfl, rfl, trivial⟩ fun J => ?_)
    refine sq2 ?_
    obtain ⟨u11, hx35, hm⟩ := bindS hm
    obtain ⟨b12, of11, cs11, k11, cp11, hv11, hp11, hl11, he11, hr11, hc11, hT11⟩ := (h1.mono (iT im1 (iT im2 im3))).ixT hx35 rfl
    obtain ⟨a12, c12, rfl, h12⟩ := rref10Term_open hr11
    obtain ⟨y25, hx36, hm⟩ := bindS hm
    refine rg (pv (r_fa rfl Tryz.underlying35 rfl Tryz.sizeOf33 rfl) (pv (r_ld rfl Tryz.isAgg33 (hS3.cell0 (i := 0) ⟨rfl, rfl⟩ (j := 3) rfl)) (pv (r_ixe hv11 rfl Tryz.underlying33 Tryz.sizeOf35 hp11 hl11 he11) (pv (r_ldS rfl Tryz.isAgg35 Tryz.sizeOf35 rfl hc11 (cs := (cref10Term u11 a12 c12))) (wl rfl (calS cf12 rfl (hG.ref10_Fold (p0 := u11) (hS3.bun [0, 1] [] rfl) h12 hx36) rfl fun v25 T25 w26 im26 rv25 => ?_))))))
    obtain ⟨rfl, hS26, _⟩ := rv25
    have hS26 : Sep g T25 w26 [boxA b1 (cref10Term p0 a1 c1), R] := hS26.unb
    refine pv (r_mv rfl) (pv (r_ex (v := .int .u32 y25.1) rfl rfl) (pv (r_ex (v := .int .i64 y25.2) rfl rfl) (pv (r_zi rfl) (pv (r_zi rfl) (nil (t_then ?_))))))
    refine sq2 (sq2 (rg (pv (r_mi rfl) (pv (r_ib rfl rfl rfl) (nil (t_then ?_))))))
    refine cnd rfl (fun hb40 => ?_) (fun hb40 => ?_)
    · have hm := ctrue hb40 hm
      refine sq2 (rg (pv (r_mi rfl) (pv (r_zi rfl) (pv (r_zi rfl) (nil (t_then ?_))))))
      have hm := oI hm; subst hm
      exact rtn (r_then (retN (vs := [.int .u32 0, .int .i64 y25.2]) rfl ⟨rfl, rfl, trivial⟩ rfl ⟨_, rfl, _, (iT im1 (iT im2 (iT im3 im26))), ⟨rfl, hS26.sel [1] rfl, trivial⟩⟩))
    have hm := cfalse hb40 hm
    refine skp (t_then ?_)
    refine sq2 (sq2 (rg (pv (r_fa rfl Tryz.underlying35 rfl Tryz.sizeOf3 rfl) (pv (r_ld rfl Tryz.isAgg3 (hS26.cell0 (i := 0) ⟨rfl, rfl⟩ (j := 0) rfl)) (pv (r_ib rfl rfl rfl) (nil (t_then ?_)))))))
    refine cnd rfl (fun hb41 => ?_) (fun hb41 => ?_)
    · have hm := ctrue hb41 hm
      refine sq2 ?_
      obtain ⟨y26, hx37, hm⟩ := bindS hm
      refine rg (pv (r_fa rfl Tryz.underlying35 rfl Tryz.sizeOf3 rfl) (pv (r_ld rfl Tryz.isAgg3 (hS26.cell0 (i := 0) ⟨rfl, rfl⟩ (j := 1) rfl)) (pv (r_mi rfl) (pv (r_mi rfl) (wl rfl (calS cf8 rfl (ref10_Apply_sim (p0 := p0.Fn) (p1 := y2.1) (p2 := y25.1) (hS26.bun [1] [] rfl)  hx37) rfl fun v26 T26 w27 im27 rv26 => ?_))))))
      obtain ⟨rfl, hS27, _⟩ := rv26
      have hS27 : Sep g T26 w27 [R] := hS27.unb
      refine pv (r_ex (v := .int .u32 y26.1) rfl rfl) (pv (r_ex (v := .int .i64 y26.2) rfl rfl) (pv (r_zi rfl) (pv (r_zi rfl) (nil (t_then ?_)))))
      have hm := oI hm; subst hm
      exact rtn (r_then (retN (vs := [.int .u32 y26.1, .int .i64 y26.2]) rfl ⟨rfl, rfl, trivial⟩ rfl ⟨_, rfl, _, (iT im1 (iT im2 (iT im3 (iT im26 im27)))), ⟨rfl, hS27.sel [0] rfl, trivial⟩⟩))
    have hm := cfalse hb41 hm
    refine skp (t_then ?_)
    refine sq2 ?_
    obtain ⟨y27, hx38, hm⟩ := bindS hm
    refine rg (pv (r_mi rfl) (pv (r_ib rfl rfl rfl) (wl rfl (calS cf35 rfl (ref10_truth_sim (p0 := y25.1 != 0) (hS26.bun [1] [] rfl)  hx38) rfl fun v27 T27 w28 im28 rv27 => ?_))))
    obtain ⟨rfl, hS28, _⟩ := rv27
    have hS28 : Sep g T27 w28 [R] := hS28.unb
    refine pv (r_zi rfl) (pv (r_zi rfl) (nil (t_then ?_)))
    have hm := oI hm; subst hm
    exact rtn (retN (vs := [.int .u32 y27, .int .i64 0]) rfl ⟨rfl, rfl, trivial⟩ rfl ⟨_, rfl, _, (iT im1 (iT im2 (iT im3 (iT im26 im28)))), ⟨rfl, hS28.sel [0] rfl, trivial⟩⟩)
  have hm := cfalse hb38 hm
  refine gF (d0 := 75) rfl rfl (by rw [hb38]; rfl) (gF (d0 := 75) rfl rfl (by rw [hb38]; rfl) (pv (r_pkf rfl hb38 rfl) (nil (t_then ?_))))
  refine cnd (b := false) rfl (fun h => nomatch h) (fun _ => ?_)
  refine skp (t_thenR [(1, .pointer (some ⟨b1, 0, none⟩)), (4, .int .u32 y2.1)] ⟨rfl, rfl, trivial⟩ fun J => ?_)
  refine sq2 ?_
  obtain ⟨u12, hx39, hm⟩ := bindS hm
  obtain ⟨b13, of12, cs12, k12, cp12, hv12, hp12, hl12, he12, hr12, hc12, hT12⟩ := (h1.mono (iT im1 (iT im2 im3))).ixT hx39 rfl
  obtain ⟨a13, c13, rfl, h13⟩ := rref10Term_open hr12
  obtain ⟨y28, hx40, hm⟩ := bindS hm
  refine rg (pv (r_fa rfl Tryz.underlying35 rfl Tryz.sizeOf33 rfl) (pv (r_ld rfl Tryz.isAgg33 (hS3.cell0 (i := 0) ⟨rfl, rfl⟩ (j := 3) rfl)) (pv (r_ixe hv12 rfl Tryz.underlying33 Tryz.sizeOf35 hp12 hl12 he12) (pv (r_ldS rfl Tryz.isAgg35 Tryz.sizeOf35 rfl hc12 (cs := (cref10Term u12 a13 c13))) (wl rfl (calS cf12 rfl (hG.ref10_Fold (p0 := u12) (hS3.bun [0, 1] [] rfl) h13 hx40) rfl fun v28 T28 w29 im29 rv28 => ?_))))))
  obtain ⟨rfl, hS29, _⟩ := rv28
  have hS29 : Sep g T28 w29 [boxA b1 (cref10Term p0 a1 c1), R] := hS29.unb
  refine pv (r_mv rfl) (pv (r_ex (v := .int .u32 y28.1) rfl rfl) (pv (r_ex (v := .int .i64 y28.2) rfl rfl) (pv (r_zi rfl) (pv (r_zi rfl) (nil (t_then ?_))))))
  refine sq2 (sq2 (rg (pv (r_mi rfl) (pv (r_ib rfl rfl rfl) (nil (t_then ?_))))))
  refine cnd rfl (fun hb43 => ?_) (fun hb43 => ?_)
  · have hm := ctrue hb43 hm
    refine sq2 (rg (pv (r_mi rfl) (pv (r_zi rfl) (pv (r_zi rfl) (nil (t_then ?_))))))
    have hm := oI hm; subst hm
    exact rtn (r_then (retN (vs := [.int .u32 0, .int .i64 y28.2]) rfl ⟨rfl, rfl, trivial⟩ rfl ⟨_, rfl, _, (iT im1 (iT im2 (iT im3 im29))), ⟨rfl, hS29.sel [1] rfl, trivial⟩⟩))
  have hm := cfalse hb43 hm
  refine skp (t_then ?_)
  refine sq2 (sq2 (rg (pv (r_fa rfl Tryz.underlying35 rfl Tryz.sizeOf3 rfl) (pv (r_ld rfl Tryz.isAgg3 (hS29.cell0 (i := 0) ⟨rfl, rfl⟩ (j := 0) rfl)) (pv (r_ib rfl rfl rfl) (nil (t_then ?_)))))))
  refine cnd rfl (fun hb44 => ?_) (fun hb44 => ?_)
  · have hm := ctrue hb44 hm
    refine sq2 ?_
    obtain ⟨y29, hx41, hm⟩ := bindS hm
    refine rg (pv (r_fa rfl Tryz.underlying35 rfl Tryz.sizeOf3 rfl) (pv (r_ld rfl Tryz.isAgg3 (hS29.cell0 (i := 0) ⟨rfl, rfl⟩ (j := 1) rfl)) (pv (r_mi rfl) (pv (r_mi rfl) (wl rfl (calS cf8 rfl (ref10_Apply_sim (p0 := p0.Fn) (p1 := y2.1) (p2 := y28.1) (hS29.bun [1] [] rfl)  hx41) rfl fun v29 T29 w30 im30 rv29 => ?_))))))
    obtain ⟨rfl, hS30, _⟩ := rv29
    have hS30 : Sep g T29 w30 [R] := hS30.unb
    refine pv (r_ex (v := .int .u32 y29.1) rfl rfl) (pv (r_ex (v := .int .i64 y29.2) rfl rfl) (pv (r_zi rfl) (pv (r_zi rfl) (nil (t_then ?_)))))
    have hm := oI hm; subst hm
    exact rtn (r_then (retN (vs := [.int .u32 y29.1, .int .i64 y29.2]) rfl ⟨rfl, rfl, trivial⟩ rfl ⟨_, rfl, _, (iT im1 (iT im2 (iT im3 (iT im29 im30)))), ⟨rfl, hS30.sel [0] rfl, trivial⟩⟩))
  have hm := cfalse hb44 hm
  refine skp (t_then ?_)
  refine sq2 ?_
  obtain ⟨y30, hx42, hm⟩ := bindS hm
  refine rg (pv (r_mi rfl) (pv (r_ib rfl rfl rfl) (wl rfl (calS cf35 rfl (ref10_truth_sim (p0 := y28.1 != 0) (hS29.bun [1] [] rfl)  hx42) rfl fun v30 T30 w31 im31 rv30 => ?_))))
  obtain ⟨rfl, hS31, _⟩ := rv30
  have hS31 : Sep g T30 w31 [R] := hS31.unb
  refine pv (r_zi rfl) (pv (r_zi rfl) (nil (t_then ?_)))
  have hm := oI hm; subst hm
  exact rtn (retN (vs := [.int .u32 y30, .int .i64 0]) rfl ⟨rfl, rfl, trivial⟩ rfl ⟨_, rfl, _, (iT im1 (iT im2 (iT im3 (iT im29 im31)))), ⟨rfl, hS31.sel [0] rfl, trivial⟩⟩)
theorem sp5 : ∀ n, Sp5 (rec5 n)
  | 0 => ⟨by intros; rename_i h; cases (show (none : Option _) = some _ from h)⟩
  | n + 1 => ⟨ref10_Fold_st (sp5 n)⟩
theorem ref10_Fold_sim {g : World} {T0 : Nat → Prop} {w0 : World} {R : Assn} {p0 : ref10Term} {a1 : Option Addr} {c1 : Nat} {r : Int × Int} (hS : Sep g T0 w0 [R]) (h1 : SlR rref10Term T0 w0 (.slice a1 (List.length p0.Kids) c1) p0.Kids) (hm : ref10_Fold p0 = some r) :
    Calls Tryz.prog 12 #[.agg (cref10Term p0 a1 c1).toArray] w0 (RetS T0 w0 fun T w v => v = .tuple #[.int .u32 r.1, .int .i64 r.2] ∧ Sep g T w [R] ∧ True) := (sp5 NN).ref10_Fold hS h1 hm

set_option maxRecDepth 100000 in
set_option maxHeartbeats 1000000 in
theorem law10_CheckFolds_sim {g : World} {T0 : Nat → Prop} {w0 : World} {R : Assn} {p0 : GTerm} {a1 : Option Addr} {c1 : Nat} {r : Bool} (hS : Sep g T0 w0 [R]) (h1 : SlR rGTerm T0 w0 (.slice a1 (List.length p0.Kids) c1) p0.Kids) (hm : law10_CheckFolds p0 = some r) :
    Calls Tryz.prog 4 #[.agg (cGTerm p0 a1 c1).toArray] w0 (RetS T0 w0 fun T w v => v = .bool r ∧ Sep g T w [R] ∧ True) := by
  refine enter (args := [.agg (cGTerm p0 a1 c1).toArray]) Tryz.func4 rfl Tryz.ntmps4 rfl fun J => ?_
  unfold law10_CheckFolds at hm
  refine sq2 (rg (wl rfl (bxS (cs := (cGTerm p0 a1 c1)) rfl rfl hS fun w1 b1 im1 hS1 => ?_)))
  refine pv (r_zb rfl) (nil (t_then ?_))
  refine sq2 ?_
  obtain ⟨y1, hx1, hm⟩ := bindS hm
  refine rg (pv (r_ldS rfl Tryz.isAgg32 Tryz.sizeOf32 rfl (hS1.cells0 (i := 0) ⟨rfl, rfl⟩ (o := 0) rfl) (cs := (cGTerm p0 a1 c1))) (wl rfl (calS cf10 rfl (law10_ref_sim (p0 := p0) (p1 := 300) (hS1.bun [0, 1] [] rfl) (h1.mono im1) hx1) rfl fun v1 T1 w2 im2 rv1 => ?_)))
  obtain ⟨a2, c2, rfl, hS2, h2, _⟩ := rv1
  have hS2 : Sep g T1 w2 [boxA b1 (cGTerm p0 a1 c1), R] := hS2.unb
  refine pv (r_mv rfl) (pv (r_ex (v := .agg (cref10Term y1.1 a2 c2).toArray) rfl rfl) (pv (r_ex (v := .int .i64 y1.2) rfl rfl) (wl rfl (alS (zs := [.int .i64 0, .int .i64 0, .int .u32 0, .slice none 0 0]) Tryz.zeroValue35 rfl hS2 fun w3 b2 im3 hS3 => ?_))))
  refine wl rfl (st0B (q := 0) hS3 ⟨rfl, rfl⟩ rfl rfl rfl Tryz.sizeOf35 rfl rfl rfl fun w4 im4 hS4 => ?_)
  have hS4 : Sep g T1 w4 [boxA b2 (cref10Term y1.1 a2 c2), boxA b1 (cGTerm p0 a1 c1), R] := hS4
  refine pv (r_zi rfl) (nil (t_then ?_))
  refine sq2 (sq2 (rg (pv (r_mi rfl) (pv (r_ib rfl rfl rfl) (nil (t_then ?_))))))
  refine cnd rfl (fun hb1 => ?_) (fun hb1 => ?_)
  · have hm := ctrue hb1 hm
    refine sq2 ?_
    obtain ⟨y2, hx2, hm⟩ := bindS hm
    refine rg (wl rfl (calS cf9 rfl (law10_awake_sim  (hS4.bun [2] [] rfl)  hx2) rfl fun v2 T2 w5 im5 rv2 => ?_))
    obtain ⟨rfl, hS5, _⟩ := rv2
    have hS5 : Sep g T2 w5 [R] := hS5.unb
    refine pv (r_zb rfl) (nil (t_then ?_))
    have hm := oI hm; subst hm
    exact rtn (r_then (ret1 rfl rfl ⟨_, rfl, _, (iT im1 (iT im2 (iT im3 (iT im4 im5)))), ⟨rfl, hS5.sel [0] rfl, trivial⟩⟩))
  have hm := cfalse hb1 hm
  refine skp (t_then ?_)
  refine sq2 ?_
  obtain ⟨y3, hx3, hm⟩ := bindS hm
  refine rg (pv (r_ldS rfl Tryz.isAgg32 Tryz.sizeOf32 rfl (hS4.cells0 (i := 1) ⟨rfl, rfl⟩ (o := 0) rfl) (cs := (cGTerm p0 a1 c1))) (wl rfl (calS cf11 rfl (check_Fold_sim (p0 := p0) (hS4.bun [0, 2] [] rfl) (h1.mono (iT im1 (iT im2 (iT im3 im4)))) hx3) rfl fun v3 T3 w6 im6 rv3 => ?_)))
  obtain ⟨rfl, hS6, _⟩ := rv3
  have hS6 : Sep g T3 w6 [boxA b2 (cref10Term y1.1 a2 c2), R] := hS6.unb
  refine pv (r_mv rfl) (pv (r_ex (v := .int .u32 y3.1) rfl rfl) (pv (r_ex (v := .int .i64 y3.2) rfl rfl) (pv (r_zi rfl) (pv (r_zi rfl) (nil (t_then ?_))))))
  refine sq2 ?_
  obtain ⟨y4, hx4, hm⟩ := bindS hm
  refine rg (pv (r_ldS rfl Tryz.isAgg35 Tryz.sizeOf35 rfl (hS6.cells0 (i := 0) ⟨rfl, rfl⟩ (o := 0) rfl) (cs := (cref10Term y1.1 a2 c2))) (wl rfl (calS cf12 rfl (ref10_Fold_sim (p0 := y1.1) (hS6.bun [1] [] rfl) (h2.mono (iT im3 (iT im4 im6))) hx4) rfl fun v4 T4 w7 im7 rv4 => ?_)))
  obtain ⟨rfl, hS7, _⟩ := rv4
  have hS7 : Sep g T4 w7 [R] := hS7.unb
  refine pv (r_mv rfl) (pv (r_ex (v := .int .u32 y4.1) rfl rfl) (pv (r_ex (v := .int .i64 y4.2) rfl rfl) (pv (r_zi rfl) (pv (r_zi rfl) (nil (t_then ?_))))))
  refine sq2 ?_
  obtain ⟨y5, hx5, hm⟩ := bindS hm
  refine rg (wl rfl (calS cf9 rfl (law10_awake_sim  (hS7.bun [0] [] rfl)  hx5) rfl fun v5 T5 w8 im8 rv5 => ?_))
  obtain ⟨rfl, hS8, _⟩ := rv5
  have hS8 : Sep g T5 w8 [R] := hS8.unb
  refine pv (r_mb rfl) (?_)
  rcases Bool.eq_false_or_eq_true y5 with hb2 | hb2
  · have hm := ctrue hb2 hm
    refine gT (d0 := 28) rfl rfl hb2 (pv (r_mi rfl) (gT (d0 := 28) rfl rfl hb2 (pv (r_mi rfl) (gT (d0 := 28) rfl rfl hb2 (pv (r_ib rfl rfl rfl) (pv (r_pkt rfl hb2 rfl) (pv (r_mb rfl) (?_))))))))
    rcases Bool.eq_false_or_eq_true (y3.1 == y4.1) with hb3 | hb3
    · have hm := ctrue hb3 hm
      refine gT (d0 := 33) rfl rfl hb3 (pv (r_mi rfl) (gT (d0 := 33) rfl rfl hb3 (pv (r_mi rfl) (gT (d0 := 33) rfl rfl hb3 (pv (r_ib rfl rfl rfl) (pv (r_pkt rfl hb3 rfl) (pv (r_zb rfl) (nil (t_thenR [(2, .bool (y3.2 == y4.2))] ⟨rfl, trivial⟩ fun J => ?_)))))))))
      have hm := oI hm; subst hm
      exact rtn (ret1 rfl rfl ⟨_, rfl, _, (iT im1 (iT im2 (iT im3 (iT im4 (iT im6 (iT im7 im8)))))), ⟨rfl, hS8.sel [0] rfl, trivial⟩⟩)
    have hm := cfalse hb3 hm
    refine gF (d0 := 33) rfl rfl (by rw [hb3]; rfl) (gF (d0 := 33) rfl rfl (by rw [hb3]; rfl) (gF (d0 := 33) rfl rfl (by rw [hb3]; rfl) (pv (r_pkf rfl hb3 rfl) (pv (r_zb rfl) (nil (t_thenR [(2, .bool false)] ⟨rfl, trivial⟩ fun J => ?_))))))
    have hm := oI hm; subst hm
    exact rtn (ret1 rfl rfl ⟨_, rfl, _, (iT im1 (iT im2 (iT im3 (iT im4 (iT im6 (iT im7 im8)))))), ⟨rfl, hS8.sel [0] rfl, trivial⟩⟩)
  have hm := cfalse hb2 hm
  refine gF (d0 := 28) rfl rfl (by rw [hb2]; rfl) (gF (d0 := 28) rfl rfl (by rw [hb2]; rfl) (gF (d0 := 28) rfl rfl (by rw [hb2]; rfl) (pv (r_pkf rfl hb2 rfl) (pv (r_mb rfl) (gF (d0 := 33) rfl rfl rfl (gF (d0 := 33) rfl rfl rfl (gF (d0 := 33) rfl rfl rfl (pv (r_pkf rfl rfl rfl) (pv (r_zb rfl) (nil (t_thenR [(2, .bool false)] ⟨rfl, trivial⟩ fun J => ?_)))))))))))
  have hm := oI hm; subst hm
  exact rtn (ret1 rfl rfl ⟨_, rfl, _, (iT im1 (iT im2 (iT im3 (iT im4 (iT im6 (iT im7 im8)))))), ⟨rfl, hS8.sel [0] rfl, trivial⟩⟩)
end Go.Proofs.YtpfgdpffgdengaaGreat
