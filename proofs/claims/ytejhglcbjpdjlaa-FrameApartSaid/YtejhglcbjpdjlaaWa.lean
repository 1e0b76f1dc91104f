/- That Go functions compute their models. Printed by gen2.py. -/
import Derived.Test.YtejhglcbjpdjlaaRows
import Derived.Test.YtejhglcbjpdjlaaFoc
import Derived.Test.YtejhglcbjpdjlaaTree
import Derived.Test.YtejhglcbjpdjlaaM
set_option linter.unusedVariables false
namespace Go.Proofs.Ytejhglcbjpdjlaa
attribute [local irreducible] wpList wpQuiet Code.wp
def rGSlot : Rp GSlot := ((rPair rStr (rPair (rInt .i64) (rPair (rInt .i64) (rInt .i64))))).iso fun x => (x.Name, x.Size, x.Align, x.Cell)
theorem rGSlot_open {T : Nat → Prop} {w : World} {cs : List Value} {x : GSlot} (h : rGSlot.rp T w cs x) : cs = [.string ⟨x.Name.toArray⟩, .int .i64 x.Size, .int .i64 x.Align, .int .i64 x.Cell] := by
  obtain ⟨q1, y1, rfl, f1, g1⟩ := h
  cases f1
  obtain ⟨q2, y2, rfl, f2, g2⟩ := g1
  cases f2
  obtain ⟨q3, y3, rfl, f3, g3⟩ := g2
  cases f3
  cases g3
  exact rfl
theorem rGSlot_mk {T : Nat → Prop} {w : World} {x : GSlot}   : rGSlot.rp T w [.string ⟨x.Name.toArray⟩, .int .i64 x.Size, .int .i64 x.Align, .int .i64 x.Cell] x := ⟨_, _, rfl, rfl, ⟨_, _, rfl, rfl, ⟨_, _, rfl, rfl, rfl⟩⟩⟩
def rIns : Rp Ins := ((rPair (rInt .i64) (rPair (rInt .i64) (rPair (rInt .i64) (rPair (rInt .i64) (rPair (rInt .i64) (rPair (rInt .i64) (rPair (rInt .i64) (rPair (rInt .i64) (rPair (rInt .u32) (rPair (rSl (rInt .i64)) rBool))))))))))).iso fun x => (x.Op, x.D, x.A, x.B, x.Fn, x.Obj, x.Off, x.Size, x.Num, x.Args, x.Log)
theorem rIns_open {T : Nat → Prop} {w : World} {cs : List Value} {x : Ins} (h : rIns.rp T w cs x) : ∃ (a9 : Option Addr) (c9 : Nat), cs = [.int .i64 x.Op, .int .i64 x.D, .int .i64 x.A, .int .i64 x.B, .int .i64 x.Fn, .int .i64 x.Obj, .int .i64 x.Off, .int .i64 x.Size, .int .u32 x.Num, .slice a9 (List.length x.Args) c9, .bool x.Log] ∧ SlR (rInt .i64) T w (.slice a9 (List.length x.Args) c9) x.Args := by
  obtain ⟨q1, y1, rfl, f1, g1⟩ := h
  cases f1
  obtain ⟨q2, y2, rfl, f2, g2⟩ := g1
  cases f2
  obtain ⟨q3, y3, rfl, f3, g3⟩ := g2
  cases f3
  obtain ⟨q4, y4, rfl, f4, g4⟩ := g3
  cases f4
  obtain ⟨q5, y5, rfl, f5, g5⟩ := g4
  cases f5
  obtain ⟨q6, y6, rfl, f6, g6⟩ := g5
  cases f6
  obtain ⟨q7, y7, rfl, f7, g7⟩ := g6
  cases f7
  obtain ⟨q8, y8, rfl, f8, g8⟩ := g7
  cases f8
  obtain ⟨q9, y9, rfl, f9, g9⟩ := g8
  cases f9
  obtain ⟨q10, y10, rfl, f10, g10⟩ := g9
  obtain ⟨v11, rfl, s11⟩ := f10
  obtain ⟨b11, k11, rfl⟩ := s11.shape
  cases g10
  exact ⟨b11, k11, rfl, s11⟩
theorem rIns_mk {T : Nat → Prop} {w : World} {x : Ins} {a9 : Option Addr} {c9 : Nat} (e0 : SlR (rInt .i64) T w (.slice a9 (List.length x.Args) c9) x.Args) : rIns.rp T w [.int .i64 x.Op, .int .i64 x.D, .int .i64 x.A, .int .i64 x.B, .int .i64 x.Fn, .int .i64 x.Obj, .int .i64 x.Off, .int .i64 x.Size, .int .u32 x.Num, .slice a9 (List.length x.Args) c9, .bool x.Log] x := ⟨_, _, rfl, rfl, ⟨_, _, rfl, rfl, ⟨_, _, rfl, rfl, ⟨_, _, rfl, rfl, ⟨_, _, rfl, rfl, ⟨_, _, rfl, rfl, ⟨_, _, rfl, rfl, ⟨_, _, rfl, rfl, ⟨_, _, rfl, rfl, ⟨_, _, rfl, ⟨_, rfl, e0⟩, rfl⟩⟩⟩⟩⟩⟩⟩⟩⟩⟩
def rGBlock : Rp GBlock := ((rPair (rSl rIns) (rPair (rInt .i64) (rPair (rInt .i64) (rPair (rInt .i64) (rInt .i64)))))).iso fun x => (x.Ins, x.End, x.A, x.To, x.Else)
theorem rGBlock_open {T : Nat → Prop} {w : World} {cs : List Value} {x : GBlock} (h : rGBlock.rp T w cs x) : ∃ (a0 : Option Addr) (c0 : Nat), cs = [.slice a0 (List.length x.Ins) c0, .int .i64 x.End, .int .i64 x.A, .int .i64 x.To, .int .i64 x.Else] ∧ SlR rIns T w (.slice a0 (List.length x.Ins) c0) x.Ins := by
  obtain ⟨q1, y1, rfl, f1, g1⟩ := h
  obtain ⟨v2, rfl, s2⟩ := f1
  obtain ⟨b2, k2, rfl⟩ := s2.shape
  obtain ⟨q3, y3, rfl, f3, g3⟩ := g1
  cases f3
  obtain ⟨q4, y4, rfl, f4, g4⟩ := g3
  cases f4
  obtain ⟨q5, y5, rfl, f5, g5⟩ := g4
  cases f5
  cases g5
  exact ⟨b2, k2, rfl, s2⟩
theorem rGBlock_mk {T : Nat → Prop} {w : World} {x : GBlock} {a0 : Option Addr} {c0 : Nat} (e0 : SlR rIns T w (.slice a0 (List.length x.Ins) c0) x.Ins) : rGBlock.rp T w [.slice a0 (List.length x.Ins) c0, .int .i64 x.End, .int .i64 x.A, .int .i64 x.To, .int .i64 x.Else] x := ⟨_, _, rfl, ⟨_, rfl, e0⟩, ⟨_, _, rfl, rfl, ⟨_, _, rfl, rfl, ⟨_, _, rfl, rfl, rfl⟩⟩⟩⟩
def rProc : Rp Proc := ((rPair rStr (rPair rBool (rPair (rInt .i64) (rPair (rInt .i64) (rPair (rSl rGSlot) (rSl rGBlock))))))).iso fun x => (x.Name, x.Void, x.Params, x.Regs, x.Objects, x.Blocks)
theorem rProc_open {T : Nat → Prop} {w : World} {cs : List Value} {x : Proc} (h : rProc.rp T w cs x) : ∃ (a4 : Option Addr) (c4 : Nat) (a5 : Option Addr) (c5 : Nat), cs = [.string ⟨x.Name.toArray⟩, .bool x.Void, .int .i64 x.Params, .int .i64 x.Regs, .slice a4 (List.length x.Objects) c4, .slice a5 (List.length x.Blocks) c5] ∧ SlR rGSlot T w (.slice a4 (List.length x.Objects) c4) x.Objects ∧ SlR rGBlock T w (.slice a5 (List.length x.Blocks) c5) x.Blocks := by
  obtain ⟨q1, y1, rfl, f1, g1⟩ := h
  cases f1
  obtain ⟨q2, y2, rfl, f2, g2⟩ := g1
  cases f2
  obtain ⟨q3, y3, rfl, f3, g3⟩ := g2
  cases f3
  obtain ⟨q4, y4, rfl, f4, g4⟩ := g3
  cases f4
  obtain ⟨q5, y5, rfl, f5, g5⟩ := g4
  obtain ⟨v6, rfl, s6⟩ := f5
  obtain ⟨b6, k6, rfl⟩ := s6.shape
  obtain ⟨v7, rfl, s7⟩ := g5
  obtain ⟨b7, k7, rfl⟩ := s7.shape
  exact ⟨b6, k6, b7, k7, rfl, s6, s7⟩
theorem rProc_mk {T : Nat → Prop} {w : World} {x : Proc} {a4 : Option Addr} {c4 : Nat} {a5 : Option Addr} {c5 : Nat} (e0 : SlR rGSlot T w (.slice a4 (List.length x.Objects) c4) x.Objects) (e1 : SlR rGBlock T w (.slice a5 (List.length x.Blocks) c5) x.Blocks) : rProc.rp T w [.string ⟨x.Name.toArray⟩, .bool x.Void, .int .i64 x.Params, .int .i64 x.Regs, .slice a4 (List.length x.Objects) c4, .slice a5 (List.length x.Blocks) c5] x := ⟨_, _, rfl, rfl, ⟨_, _, rfl, rfl, ⟨_, _, rfl, rfl, ⟨_, _, rfl, rfl, ⟨_, _, rfl, ⟨_, rfl, e0⟩, ⟨_, rfl, e1⟩⟩⟩⟩⟩⟩
def rSeat : Rp Seat := ((rPair (rInt .i64) (rInt .i64))).iso fun x => (x.Reg, x.Slot)
theorem rSeat_open {T : Nat → Prop} {w : World} {cs : List Value} {x : Seat} (h : rSeat.rp T w cs x) : cs = [.int .i64 x.Reg, .int .i64 x.Slot] := by
  obtain ⟨q1, y1, rfl, f1, g1⟩ := h
  cases f1
  cases g1
  exact rfl
theorem rSeat_mk {T : Nat → Prop} {w : World} {x : Seat}   : rSeat.rp T w [.int .i64 x.Reg, .int .i64 x.Slot] x := ⟨_, _, rfl, rfl, rfl⟩
def rGFrame : Rp GFrame := ((rPair (rInt .i64) (rPair (rSl (rInt .i64)) (rPair (rInt .i64) (rSl (rInt .i64)))))).iso fun x => (x.Size, x.Saved, x.Slots, x.Objects)
theorem rGFrame_open {T : Nat → Prop} {w : World} {cs : List Value} {x : GFrame} (h : rGFrame.rp T w cs x) : ∃ (a1 : Option Addr) (c1 : Nat) (a3 : Option Addr) (c3 : Nat), cs = [.int .i64 x.Size, .slice a1 (List.length x.Saved) c1, .int .i64 x.Slots, .slice a3 (List.length x.Objects) c3] ∧ SlR (rInt .i64) T w (.slice a1 (List.length x.Saved) c1) x.Saved ∧ SlR (rInt .i64) T w (.slice a3 (List.length x.Objects) c3) x.Objects := by
  obtain ⟨q1, y1, rfl, f1, g1⟩ := h
  cases f1
  obtain ⟨q2, y2, rfl, f2, g2⟩ := g1
  obtain ⟨v3, rfl, s3⟩ := f2
  obtain ⟨b3, k3, rfl⟩ := s3.shape
  obtain ⟨q4, y4, rfl, f4, g4⟩ := g2
  cases f4
  obtain ⟨v5, rfl, s5⟩ := g4
  obtain ⟨b5, k5, rfl⟩ := s5.shape
  exact ⟨b3, k3, b5, k5, rfl, s3, s5⟩
theorem rGFrame_mk {T : Nat → Prop} {w : World} {x : GFrame} {a1 : Option Addr} {c1 : Nat} {a3 : Option Addr} {c3 : Nat} (e0 : SlR (rInt .i64) T w (.slice a1 (List.length x.Saved) c1) x.Saved) (e1 : SlR (rInt .i64) T w (.slice a3 (List.length x.Objects) c3) x.Objects) : rGFrame.rp T w [.int .i64 x.Size, .slice a1 (List.length x.Saved) c1, .int .i64 x.Slots, .slice a3 (List.length x.Objects) c3] x := ⟨_, _, rfl, rfl, ⟨_, _, rfl, ⟨_, rfl, e0⟩, ⟨_, _, rfl, rfl, ⟨_, rfl, e1⟩⟩⟩⟩
theorem cf5 : CallOk Try.prog 5 := ⟨⟨_, Try.func5, by kernel_rfl, by kernel_rfl⟩⟩
theorem cf6 : CallOk Try.prog 6 := ⟨⟨_, Try.func6, by kernel_rfl, by kernel_rfl⟩⟩
theorem cf7 : CallOk Try.prog 7 := ⟨⟨_, Try.func7, by kernel_rfl, by kernel_rfl⟩⟩
theorem cf8 : CallOk Try.prog 8 := ⟨⟨_, Try.func8, by kernel_rfl, by kernel_rfl⟩⟩
theorem cf9 : CallOk Try.prog 9 := ⟨⟨_, Try.func9, by kernel_rfl, by kernel_rfl⟩⟩
theorem cf10 : CallOk Try.prog 10 := ⟨⟨_, Try.func10, by kernel_rfl, by kernel_rfl⟩⟩
theorem cf11 : CallOk Try.prog 11 := ⟨⟨_, Try.func11, by kernel_rfl, by kernel_rfl⟩⟩
theorem cf12 : CallOk Try.prog 12 := ⟨⟨_, Try.func12, by kernel_rfl, by kernel_rfl⟩⟩
theorem cf13 : CallOk Try.prog 13 := ⟨⟨_, Try.func13, by kernel_rfl, by kernel_rfl⟩⟩
theorem cf14 : CallOk Try.prog 14 := ⟨⟨_, Try.func14, by kernel_rfl, by kernel_rfl⟩⟩
theorem cf15 : CallOk Try.prog 15 := ⟨⟨_, Try.func15, by kernel_rfl, by kernel_rfl⟩⟩
theorem cf16 : CallOk Try.prog 16 := ⟨⟨_, Try.func16, by kernel_rfl, by kernel_rfl⟩⟩
theorem cf17 : CallOk Try.prog 17 := ⟨⟨_, Try.func17, by kernel_rfl, by kernel_rfl⟩⟩
theorem cf18 : CallOk Try.prog 18 := ⟨⟨_, Try.func18, by kernel_rfl, by kernel_rfl⟩⟩
theorem cf19 : CallOk Try.prog 19 := ⟨⟨_, Try.func19, by kernel_rfl, by kernel_rfl⟩⟩
theorem cf20 : CallOk Try.prog 20 := ⟨⟨_, Try.func20, by kernel_rfl, by kernel_rfl⟩⟩
theorem cf21 : CallOk Try.prog 21 := ⟨⟨_, Try.func21, by kernel_rfl, by kernel_rfl⟩⟩
theorem cf22 : CallOk Try.prog 22 := ⟨⟨_, Try.func22, by kernel_rfl, by kernel_rfl⟩⟩
theorem cf23 : CallOk Try.prog 23 := ⟨⟨_, Try.func23, by kernel_rfl, by kernel_rfl⟩⟩
theorem cf24 : CallOk Try.prog 24 := ⟨⟨_, Try.func24, by kernel_rfl, by kernel_rfl⟩⟩
theorem cf25 : CallOk Try.prog 25 := ⟨⟨_, Try.func25, by kernel_rfl, by kernel_rfl⟩⟩
theorem cf31 : CallOk Try.prog 31 := ⟨⟨_, Try.func31, by kernel_rfl, by kernel_rfl⟩⟩
theorem cf35 : CallOk Try.prog 35 := ⟨⟨_, Try.func35, by kernel_rfl, by kernel_rfl⟩⟩
theorem cf41 : CallOk Try.prog 41 := ⟨⟨_, Try.func41, by kernel_rfl, by kernel_rfl⟩⟩
theorem el3 : ElemOk Try.prog 3 1 := ⟨by kernel_rfl, by decide⟩
theorem el4 : ElemOk Try.prog 4 1 := ⟨by kernel_rfl, by decide⟩
theorem el42 : ElemOk Try.prog 42 4 := ⟨by kernel_rfl, by decide⟩
theorem el44 : ElemOk Try.prog 44 2 := ⟨by kernel_rfl, by decide⟩
theorem mix : Try.prog.follows .mixedOrders = true := by kernel_rfl

set_option maxRecDepth 100000 in
set_option maxHeartbeats 1000000 in
theorem ref24_Name_sim {g : World} {T0 : Nat → Prop} {w0 : World} {R : Assn} {p0 : Int} {r : Int} (hS : Sep g T0 w0 [R])  (hm : ref24_Name p0 = some r) :
    Calls Try.prog 12 #[.int .i64 p0] w0 (RetS T0 w0 fun T w v => v = .int .i64 r ∧ Sep g T w [R] ∧ True) := by
  refine enter (args := [.int .i64 p0]) Try.func12 rfl Try.ntmps12 rfl fun J => ?_
  unfold ref24_Name at hm
  refine sq2 ?_
  refine rg (pv (r_zi rfl) (nil (t_then ?_)))
  refine sq2 ?_
  refine rg (wl rfl (bsS (r := (rInt .i64)) (l := ([8, 9, 18, 19, 20, 21, 22, 23, 24, 25, 26, 27] : List Int)) (css := [[.int .i64 8], [.int .i64 9], [.int .i64 18], [.int .i64 19], [.int .i64 20], [.int .i64 21], [.int .i64 22], [.int .i64 23], [.int .i64 24], [.int .i64 25], [.int .i64 26], [.int .i64 27]]) hS Try.underlying29 Try.sizeOf3 Try.zeroValue3 rfl rfl (by kernel_rfl) rfl ⟨rfl, rfl, rfl, rfl, rfl, rfl, rfl, rfl, rfl, rfl, rfl, rfl, trivial⟩ rfl rfl fun w1 a1 n1 c1 im1 hS1 => ?_))
  refine pv (r_zs rfl) (nil (t_then ?_))
  refine sq2 ?_
  obtain ⟨u1, hx1, hm⟩ := bindS hm
  obtain ⟨b1, of1, cs1, k1, cp1, hv1, hp1, hl1, he1, hr1, hc1⟩ := (hS1.own (i := 0) ⟨rfl, rfl⟩).v.ixq hx1 rfl
  cases hr1
  refine rg (pv (r_ms rfl) (pv (r_mi rfl) (pv (r_ixe hv1 rfl Try.underlying29 Try.sizeOf3 hp1 hl1 he1) (pv (r_ld rfl Try.isAgg3 (hc1.get (j := 0) rfl)) (pv (r_zi rfl) (nil (t_thenR [(2, .int .i64 u1)] ⟨rfl, trivial⟩ fun J => ?_)))))))
  have hm := Option.some.inj hm
  subst hm
  exact rtn (ret1 rfl rfl ⟨_, rfl, _, im1, ⟨rfl, hS1.sel [1] rfl, trivial⟩⟩)

set_option maxRecDepth 100000 in
set_option maxHeartbeats 1000000 in
theorem law25_few_sim {g : World} {T0 : Nat → Prop} {w0 : World} {R : Assn} {p0 : Proc} {a1 : Option Addr} {c1 : Nat} {a2 : Option Addr} {c2 : Nat} {p1 : List Seat} {a3 : Option Addr} {c3 : Nat} {r : Bool} (hS : Sep g T0 w0 [R]) (h1 : SlR rGSlot T0 w0 (.slice a1 (List.length p0.Objects) c1) p0.Objects) (h2 : SlR rGBlock T0 w0 (.slice a2 (List.length p0.Blocks) c2) p0.Blocks) (h3 : SlR rSeat T0 w0 (.slice a3 (List.length p1) c3) p1) (hm : law25_few p0 p1 = some r) :
    Calls Try.prog 5 #[.agg #[.string ⟨p0.Name.toArray⟩, .bool p0.Void, .int .i64 p0.Params, .int .i64 p0.Regs, .slice a1 (List.length p0.Objects) c1, .slice a2 (List.length p0.Blocks) c2], .slice a3 (List.length p1) c3] w0 (RetS T0 w0 fun T w v => v = .bool r ∧ Sep g T w [R] ∧ True) := by
  refine enter (args := [.agg #[.string ⟨p0.Name.toArray⟩, .bool p0.Void, .int .i64 p0.Params, .int .i64 p0.Regs, .slice a1 (List.length p0.Objects) c1, .slice a2 (List.length p0.Blocks) c2], .slice a3 (List.length p1) c3]) Try.func5 rfl Try.ntmps5 rfl fun J => ?_
  unfold law25_few at hm
  refine sq2 ?_
  refine rg (wl rfl (bxS (cs := [.string ⟨p0.Name.toArray⟩, .bool p0.Void, .int .i64 p0.Params, .int .i64 p0.Regs, .slice a1 (List.length p0.Objects) c1, .slice a2 (List.length p0.Blocks) c2]) rfl rfl hS fun w1 b1 im1 hS1 => ?_))
  refine pv (r_zb rfl) (nil (t_then ?_))
  refine sq2 ?_
  refine sq2 ?_
  refine rg (pv (r_fa rfl Try.underlying25 rfl Try.sizeOf22 rfl) (pv (r_ld rfl Try.isAgg22 (hS1.cell0 (i := 0) ⟨rfl, rfl⟩ (j := 4) rfl)) (pv (r_ln rfl Try.underlying22) (pv (r_ib rfl rfl rfl) (pv (r_mb rfl) (?_))))))
  rcases Bool.eq_false_or_eq_true (decide (60 < (List.length p0.Objects : Int))) with hb1 | hb1
  · have hm := ctrue hb1 hm
    refine gF (d0 := 13) rfl rfl (by rw [hb1]; rfl) (gF (d0 := 13) rfl rfl (by rw [hb1]; rfl) (gF (d0 := 13) rfl rfl (by rw [hb1]; rfl) (pv (r_pkt rfl hb1 rfl) (nil (t_thenR [(1, .slice a3 (List.length p1) c3), (2, .pointer (some ⟨b1, 0, none⟩)), (17, .bool true)] ⟨rfl, rfl, rfl, trivial⟩ fun J => ?_)))))
    refine cnd (b := true) rfl (fun _ => ?_) (fun h => nomatch h)
    refine sq2 ?_
    refine rg (pv (r_zb rfl) (nil (t_then ?_)))
    have hm := Option.some.inj hm
    subst hm
    exact rtn (r_then (ret1 rfl rfl ⟨_, rfl, _, im1, ⟨rfl, hS1.sel [1] rfl, trivial⟩⟩))
  · have hm := cfalse hb1 hm
    refine gT (d0 := 13) rfl rfl hb1 (pv (r_ms rfl) (gT (d0 := 13) rfl rfl hb1 (pv (r_ln rfl Try.underlying26) (gT (d0 := 13) rfl rfl hb1 (pv (r_ib rfl rfl rfl) (pv (r_pkf rfl hb1 rfl) (nil (t_thenR [(1, .slice a3 (List.length p1) c3), (2, .pointer (some ⟨b1, 0, none⟩)), (17, .bool (decide (60 < (List.length p1 : Int))))] ⟨rfl, rfl, rfl, trivial⟩ fun J => ?_))))))))
    refine cnd rfl (fun hb2 => ?_) (fun hb2 => ?_)
    · have hm := ctrue hb2 hm
      refine sq2 ?_
      refine rg (pv (r_zb rfl) (nil (t_then ?_)))
      have hm := Option.some.inj hm
      subst hm
      exact rtn (r_then (ret1 rfl rfl ⟨_, rfl, _, im1, ⟨rfl, hS1.sel [1] rfl, trivial⟩⟩))
    · have hm := cfalse hb2 hm
      refine skp (t_then ?_)
      refine sq2 ?_
      refine sq2 ?_
      refine rg (pv (r_zi rfl) (nil (t_then ?_)))
      obtain ⟨o1, ho1, hq1⟩ := bindS hm
      obtain ⟨bd1, hbd1, ho1⟩ := loop_open ho1
      refine blk (wp_loop_ghost (fun m a w2 => ∃ (J : Nat → Value) (T1 : Nat → Prop) (x1 : Int), a = env (nf 70) J [(1, .slice a3 (List.length p1) c3), (2, .pointer (some ⟨b1, 0, none⟩)), (5, .int .i64 x1)] ∧ Im T0 w1 T1 w2 ∧ Sep g T1 w2 [boxA b1 [.string ⟨p0.Name.toArray⟩, .bool p0.Void, .int .i64 p0.Params, .int .i64 p0.Regs, .slice a1 (List.length p0.Objects) c1, .slice a2 (List.length p0.Blocks) c2], R] ∧ loopM bd1 m x1 = some o1) NN ⟨_, _, 0, env_has ⟨rfl, rfl, rfl, trivial⟩, Im.refl, hS1.sel [0, 1] rfl, ho1⟩ ?_)
      rintro m _ w2 ⟨J, T1, x1, rfl, im2, hS2, ho1⟩
      obtain ⟨m1, z1, rfl, hm, hn1⟩ := loop_round ho1
      rw [hbd1] at hm
      refine sq2 ?_
      refine sq2 ?_
      refine rg (pv (r_mi rfl) (pv (r_fa rfl Try.underlying25 rfl Try.sizeOf22 rfl) (pv (r_ld rfl Try.isAgg22 (hS2.cell0 (i := 0) ⟨rfl, rfl⟩ (j := 4) rfl)) (pv (r_ln rfl Try.underlying22) (pv (r_ib rfl rfl rfl) (nil (t_then ?_)))))))
      refine cnd rfl (fun hb3 => ?_) (fun hb3 => ?_)
      · have hm := ctrue hb3 hm
        refine skp (t_thenR [(1, .slice a3 (List.length p1) c3), (2, .pointer (some ⟨b1, 0, none⟩)), (5, .int .i64 x1)] ⟨rfl, rfl, rfl, trivial⟩ fun J => ?_)
        refine sq2 ?_
        refine blk ?_
        refine sq2 ?_
        obtain ⟨u1, hx1, hm⟩ := bindS hm
        obtain ⟨b2, of1, cs1, k1, cp1, hv1, hp1, hl1, he1, hr1, hc1, hT1⟩ := (h1.mono (Im.trans im1 im2)).ixT hx1 rfl
        cases rGSlot_open hr1
        refine rg (pv (r_fa rfl Try.underlying25 rfl Try.sizeOf22 rfl) (pv (r_ld rfl Try.isAgg22 (hS2.cell0 (i := 0) ⟨rfl, rfl⟩ (j := 4) rfl)) (pv (r_mi rfl) (pv (r_ixe hv1 rfl Try.underlying22 Try.sizeOf42 hp1 hl1 he1) (pv (r_fa rfl Try.underlying42 rfl Try.sizeOf3 rfl) (pv (r_ld rfl Try.isAgg3 (hc1.get (j := 1) rfl)) (pv (r_ib rfl rfl rfl) (pv (r_mb rfl) (?_)))))))))
        rcases Bool.eq_false_or_eq_true (decide (u1.Size < 1)) with hb4 | hb4
        · have hm := ctrue hb4 hm
          refine gF (d0 := 32) rfl rfl (by rw [hb4]; rfl) (gF (d0 := 32) rfl rfl (by rw [hb4]; rfl) (gF (d0 := 32) rfl rfl (by rw [hb4]; rfl) (gF (d0 := 32) rfl rfl (by rw [hb4]; rfl) (gF (d0 := 32) rfl rfl (by rw [hb4]; rfl) (gF (d0 := 32) rfl rfl (by rw [hb4]; rfl) (gF (d0 := 32) rfl rfl (by rw [hb4]; rfl) (pv (r_pkt rfl hb4 rfl) (nil (t_thenR [(1, .slice a3 (List.length p1) c3), (2, .pointer (some ⟨b1, 0, none⟩)), (5, .int .i64 x1), (40, .bool true)] ⟨rfl, rfl, rfl, rfl, trivial⟩ fun J => ?_)))))))))
          refine cnd (b := true) rfl (fun _ => ?_) (fun h => nomatch h)
          refine sq2 ?_
          refine rg (pv (r_zb rfl) (nil (t_then ?_)))
          have hm := Option.some.inj hm
          subst hm
          have hn1 : _ = Lp.ret _ := hn1
          subst hn1
          have hm := thn_ret hq1
          have hm := Option.some.inj hm
          subst hm
          exact rtn (r_blk (r_then (r_then (r_blk (r_then (ret1 rfl rfl ⟨_, rfl, _, (Im.trans im1 im2), ⟨rfl, hS2.sel [1] rfl, trivial⟩⟩))))))
        · have hm := cfalse hb4 hm
          obtain ⟨u2, hx2, hm⟩ := bindS hm
          obtain ⟨b3, of2, cs2, k2, cp2, hv2, hp2, hl2, he2, hr2, hc2, hT2⟩ := (h1.mono (Im.trans im1 im2)).ixT hx2 rfl
          cases rGSlot_open hr2
          refine gT (d0 := 32) rfl rfl hb4 (pv (r_fa rfl Try.underlying25 rfl Try.sizeOf22 rfl) (gT (d0 := 32) rfl rfl hb4 (pv (r_ld rfl Try.isAgg22 (hS2.cell0 (i := 0) ⟨rfl, rfl⟩ (j := 4) rfl)) (gT (d0 := 32) rfl rfl hb4 (pv (r_mi rfl) (gT (d0 := 32) rfl rfl hb4 (pv (r_ixe hv2 rfl Try.underlying22 Try.sizeOf42 hp2 hl2 he2) (gT (d0 := 32) rfl rfl hb4 (pv (r_fa rfl Try.underlying42 rfl Try.sizeOf3 rfl) (gT (d0 := 32) rfl rfl hb4 (pv (r_ld rfl Try.isAgg3 (hc2.get (j := 1) rfl)) (gT (d0 := 32) rfl rfl hb4 (pv (r_ib rfl rfl rfl) (pv (r_pkf rfl hb4 rfl) (nil (t_thenR [(1, .slice a3 (List.length p1) c3), (2, .pointer (some ⟨b1, 0, none⟩)), (5, .int .i64 x1), (40, .bool (decide (40000 < u2.Size)))] ⟨rfl, rfl, rfl, rfl, trivial⟩ fun J => ?_))))))))))))))))
          refine cnd rfl (fun hb5 => ?_) (fun hb5 => ?_)
          · have hm := ctrue hb5 hm
            refine sq2 ?_
            refine rg (pv (r_zb rfl) (nil (t_then ?_)))
            have hm := Option.some.inj hm
            subst hm
            have hn1 : _ = Lp.ret _ := hn1
            subst hn1
            have hm := thn_ret hq1
            have hm := Option.some.inj hm
            subst hm
            exact rtn (r_blk (r_then (r_then (r_blk (r_then (ret1 rfl rfl ⟨_, rfl, _, (Im.trans im1 im2), ⟨rfl, hS2.sel [1] rfl, trivial⟩⟩))))))
          · have hm := cfalse hb5 hm
            refine skp (t_blk (t_then ?_))
            have hm := Option.some.inj hm
            subst hm
            exact rg (pv (r_mi rfl) (pv (r_ib rfl rfl rfl) (pv (r_zi rfl) (nil (t_then ⟨m1, Nat.lt_succ_self _, _, _, (IntKind.wrap .i64 (x1 + 1)), env_has ⟨rfl, rfl, rfl, trivial⟩, im2, hS2.sel [0, 1] rfl, hn1⟩)))))
      · have hm := cfalse hb3 hm
        have hm := Option.some.inj hm
        subst hm
        have hn1 : _ = Lp.brk _ := hn1
        subst hn1
        have hm := thn_brk hq1
        refine xt (x_then (x_then (x_eq (t_thenR [(1, .slice a3 (List.length p1) c3)] ⟨rfl, trivial⟩ fun J => ?_))))
        refine sq2 ?_
        refine sq2 ?_
        refine rg (pv (r_zi rfl) (nil (t_then ?_)))
        obtain ⟨o1, ho1, hq1⟩ := bindS hm
        obtain ⟨bd1, hbd1, ho1⟩ := loop_open ho1
        refine blk (wp_loop_ghost (fun m a w3 => ∃ (J : Nat → Value) (T2 : Nat → Prop) (x2 : Int), a = env (nf 70) J [(1, .slice a3 (List.length p1) c3), (6, .int .i64 x2)] ∧ Im T1 w2 T2 w3 ∧ Sep g T2 w3 [R] ∧ loopM bd1 m x2 = some o1) NN ⟨_, _, 0, env_has ⟨rfl, rfl, trivial⟩, Im.refl, hS2.sel [1] rfl, ho1⟩ ?_)
        rintro m _ w3 ⟨J, T2, x2, rfl, im3, hS3, ho1⟩
        obtain ⟨m1, z1, rfl, hm, hn1⟩ := loop_round ho1
        rw [hbd1] at hm
        refine sq2 ?_
        refine sq2 ?_
        refine rg (pv (r_mi rfl) (pv (r_ms rfl) (pv (r_ln rfl Try.underlying26) (pv (r_ib rfl rfl rfl) (nil (t_then ?_))))))
        refine cnd rfl (fun hb7 => ?_) (fun hb7 => ?_)
        · have hm := ctrue hb7 hm
          refine skp (t_then ?_)
          refine sq2 ?_
          refine blk ?_
          refine sq2 ?_
          obtain ⟨u3, hx3, hm⟩ := bindS hm
          obtain ⟨b4, of3, cs3, k3, cp3, hv3, hp3, hl3, he3, hr3, hc3, hT3⟩ := (h3.mono (Im.trans im1 (Im.trans im2 im3))).ixT hx3 rfl
          cases rSeat_open hr3
          refine rg (pv (r_ms rfl) (pv (r_mi rfl) (pv (r_ixe hv3 rfl Try.underlying26 Try.sizeOf44 hp3 hl3 he3) (pv (r_fa rfl Try.underlying44 rfl Try.sizeOf3 rfl) (pv (r_ld rfl Try.isAgg3 (hc3.get (j := 0) rfl)) (pv (r_ib rfl rfl rfl) (pv (r_zb rfl) (nil (t_thenR [(1, .slice a3 (List.length p1) c3), (6, .int .i64 x2), (7, .bool (u3.Reg == 0))] ⟨rfl, rfl, rfl, trivial⟩ fun J => ?_)))))))))
          refine sq2 ?_
          refine sq2 ?_
          refine rg (pv (r_zi rfl) (nil (t_then ?_)))
          obtain ⟨o2, ho2, hq2⟩ := bindS hm
          obtain ⟨bd2, hbd2, ho2⟩ := loop_open ho2
          refine blk (wp_loop_ghost (fun m a w4 => ∃ (J : Nat → Value) (T3 : Nat → Prop) (x3 : Bool) (x4 : Int), a = env (nf 70) J [(1, .slice a3 (List.length p1) c3), (6, .int .i64 x2), (7, .bool x3), (8, .int .i64 x4)] ∧ Im T2 w3 T3 w4 ∧ Sep g T3 w4 [R] ∧ loopM bd2 m (x3, x4) = some o2) NN ⟨_, _, (u3.Reg == 0), 0, env_has ⟨rfl, rfl, rfl, rfl, trivial⟩, Im.refl, hS3.sel [0] rfl, ho2⟩ ?_)
          rintro m _ w4 ⟨J, T3, x3, x4, rfl, im4, hS4, ho2⟩
          obtain ⟨m2, z2, rfl, hm, hn2⟩ := loop_round ho2
          rw [hbd2] at hm
          refine sq2 ?_
          refine sq2 ?_
          refine rg (pv (r_mi rfl) (pv (r_ib rfl rfl rfl) (nil (t_then ?_))))
          refine cnd rfl (fun hb8 => ?_) (fun hb8 => ?_)
          · have hm := ctrue hb8 hm
            refine skp (t_then ?_)
            refine sq2 ?_
            refine blk ?_
            refine rs [0, 0, 0, 0, 0, 0, 1, 0, 2, 0, 0, 0] [0, 1, 2, 3, 4, 5, 6, 7, 8, 9, 10, 11] mix (by kernel_rfl) hS4.lt fun w5 i1 => ?_
            have im5 := i1.imm
            have hS5 := hS4.keep i1 (fun _ h => h)
            refine s0 rfl trivial (fun _ => r_mb rfl) rfl (s0 rfl trivial (fun _ => r_mb rfl) rfl (?_))
            rcases Bool.eq_false_or_eq_true x3 with hb9 | hb9
            · have hm := ctrue hb9 hm
              refine sU rfl ⟨_, rfl, .inl (congrArg Value.bool hb9)⟩ (sU rfl ⟨_, rfl, .inl (congrArg Value.bool hb9)⟩ (sU rfl ⟨_, rfl, .inl (congrArg Value.bool hb9)⟩ (sU rfl ⟨_, rfl, .inl (congrArg Value.bool hb9)⟩ (sU rfl ⟨_, rfl, .inl (congrArg Value.bool hb9)⟩ (sU rfl ⟨_, rfl, .inl (congrArg Value.bool hb9)⟩ (sU rfl ⟨_, rfl, .inl (congrArg Value.bool hb9)⟩ (sU rfl ⟨_, rfl, .inl (congrArg Value.bool hb9)⟩ (s0 rfl trivial (fun _ => r_pkt rfl hb9 rfl) rfl (s0 rfl trivial (fun _ => r_zb rfl) rfl (se (t_blk (t_thenR [(1, .slice a3 (List.length p1) c3), (6, .int .i64 x2), (7, .bool true), (8, .int .i64 x4)] ⟨rfl, rfl, rfl, rfl, trivial⟩ fun J => ?_))))))))))))
              have hm := Option.some.inj hm
              subst hm
              exact rg (pv (r_mi rfl) (pv (r_ib rfl rfl rfl) (pv (r_zi rfl) (nil (t_then ⟨m2, Nat.lt_succ_self _, _, _, true, (IntKind.wrap .i64 (x4 + 1)), env_has ⟨rfl, rfl, rfl, rfl, trivial⟩, (Im.trans im4 im5), hS5.sel [0] rfl, hn2⟩)))))
            · have hm := cfalse hb9 hm
              obtain ⟨u4, hx4, hm⟩ := bindS hm
              obtain ⟨b5, of4, cs4, k4, cp4, hv4, hp4, hl4, he4, hr4, hc4, hT4⟩ := (h3.mono (Im.trans im1 (Im.trans im2 (Im.trans im3 (Im.trans im4 im5))))).ixT hx4 rfl
              cases rSeat_open hr4
              obtain ⟨y1, hx5, hm⟩ := bindS hm
              refine s0 rfl ⟨_, rfl, congrArg Value.bool hb9⟩ (fun _ => r_ms rfl) rfl (s0 rfl ⟨_, rfl, congrArg Value.bool hb9⟩ (fun _ => r_mi rfl) rfl (s0 rfl ⟨_, rfl, congrArg Value.bool hb9⟩ (fun _ => r_ixe hv4 rfl Try.underlying26 Try.sizeOf44 hp4 hl4 he4) rfl (s0 rfl ⟨_, rfl, congrArg Value.bool hb9⟩ (fun _ => r_fa rfl Try.underlying44 rfl Try.sizeOf3 rfl) rfl (s1 rfl ⟨_, rfl, congrArg Value.bool hb9⟩ (r_ld rfl Try.isAgg3 (hc4.get (j := 0) rfl)) rfl (s0 rfl ⟨_, rfl, congrArg Value.bool hb9⟩ (fun _ => r_mi rfl) rfl (s2 [(6, .int .i64 u4.Reg)] rfl ⟨_, rfl, congrArg Value.bool hb9⟩ rfl (by kernel_rfl) (calS cf12 rfl (ref24_Name_sim (p0 := x4) (hS5.bun [0] [] rfl)  hx5) rfl fun v1 T4 w6 im6 rv1 => ?_)))))))
              obtain ⟨rfl, hS6, _⟩ := rv1
              have hS6 : Sep g T4 w6 [R] := hS6.unb
              refine ⟨st1 rfl (r_ld rfl Try.isAgg3 ((hc4.same (im6 b5 hT4).2).get (j := 0) rfl)) (st0), ?_⟩
              refine s0 rfl ⟨_, rfl, congrArg Value.bool hb9⟩ (fun _ => r_ib rfl rfl rfl) rfl (s0 rfl trivial (fun _ => r_pkf rfl hb9 rfl) rfl (s0 rfl trivial (fun _ => r_zb rfl) rfl (se (t_blk (t_thenR [(1, .slice a3 (List.length p1) c3), (6, .int .i64 x2), (7, .bool (u4.Reg == y1)), (8, .int .i64 x4)] ⟨rfl, rfl, rfl, rfl, trivial⟩ fun J => ?_)))))
              have hm := Option.some.inj hm
              subst hm
              exact rg (pv (r_mi rfl) (pv (r_ib rfl rfl rfl) (pv (r_zi rfl) (nil (t_then ⟨m2, Nat.lt_succ_self _, _, _, (u4.Reg == y1), (IntKind.wrap .i64 (x4 + 1)), env_has ⟨rfl, rfl, rfl, rfl, trivial⟩, (Im.trans im4 (Im.trans im5 im6)), hS6.sel [0] rfl, hn2⟩)))))
          · have hm := cfalse hb8 hm
            have hm := Option.some.inj hm
            subst hm
            have hn2 : _ = Lp.brk _ := hn2
            subst hn2
            have hm := thn_brk hq2
            refine xt (x_then (x_then (x_eq (t_then ?_))))
            refine sq2 ?_
            refine rg (pv (r_mb rfl) (pv (r_nt rfl) (nil (t_thenR [(1, .slice a3 (List.length p1) c3), (6, .int .i64 x2), (69, .bool (!x3))] ⟨rfl, rfl, rfl, trivial⟩ fun J => ?_))))
            refine cnd rfl (fun hb10 => ?_) (fun hb10 => ?_)
            · have hm := ctrue hb10 hm
              refine sq2 ?_
              refine rg (pv (r_zb rfl) (nil (t_then ?_)))
              have hm := Option.some.inj hm
              subst hm
              have hn1 : _ = Lp.ret _ := hn1
              subst hn1
              have hm := thn_ret hq1
              have hm := Option.some.inj hm
              subst hm
              exact rtn (r_blk (r_then (r_then (r_blk (r_then (ret1 rfl rfl ⟨_, rfl, _, (Im.trans im1 (Im.trans im2 (Im.trans im3 im4))), ⟨rfl, hS4.sel [0] rfl, trivial⟩⟩))))))
            · have hm := cfalse hb10 hm
              refine skp (t_blk (t_then ?_))
              have hm := Option.some.inj hm
              subst hm
              exact rg (pv (r_mi rfl) (pv (r_ib rfl rfl rfl) (pv (r_zi rfl) (nil (t_then ⟨m1, Nat.lt_succ_self _, _, _, (IntKind.wrap .i64 (x2 + 1)), env_has ⟨rfl, rfl, trivial⟩, (Im.trans im3 im4), hS4.sel [0] rfl, hn1⟩)))))
        · have hm := cfalse hb7 hm
          have hm := Option.some.inj hm
          subst hm
          have hn1 : _ = Lp.brk _ := hn1
          subst hn1
          have hm := thn_brk hq1
          refine xt (x_then (x_then (x_eq (t_thenR [] trivial fun J => ?_))))
          refine sq2 ?_
          refine rg (pv (r_zb rfl) (nil (t_then ?_)))
          have hm := Option.some.inj hm
          subst hm
          exact rtn (ret1 rfl rfl ⟨_, rfl, _, (Im.trans im1 (Im.trans im2 im3)), ⟨rfl, hS3.sel [0] rfl, trivial⟩⟩)

set_option maxRecDepth 100000 in
set_option maxHeartbeats 1000000 in
theorem frame_Lay_1_sim {g : World} {T0 : Nat → Prop} {w0 : World} {R : Assn} {p0 : Int} {p1 : Int} {b_p1 o_p1 : Nat} {H_p1 : List Value → Assn} {r : Int × Int} (hS : Sep g T0 w0 [R, H_p1 [.int .i64 p1]]) (hL_p1 : Ln b_p1 o_p1 H_p1) (hm : frame_Lay_1 p0 p1 = some r) :
    Calls Try.prog 13 #[.int .i64 p0, .pointer (some ⟨b_p1, o_p1, none⟩)] w0 (RetS T0 w0 fun T w v => v = .int .i64 r.1 ∧ Sep g T w [R, H_p1 [.int .i64 r.2]] ∧ True) := by
  refine enter (args := [.int .i64 p0, .pointer (some ⟨b_p1, o_p1, none⟩)]) Try.func13 rfl Try.ntmps13 rfl fun J => ?_
  unfold frame_Lay_1 at hm
  refine sq2 ?_
  refine rg (pv (r_zi rfl) (nil (t_then ?_)))
  refine sq2 ?_
  refine rg (pv (r_ld rfl Try.isAgg3 (hS.cellB (i := 1) ⟨rfl, rfl⟩ hL_p1 (j := 0) rfl)) (pv (r_mi rfl) (pv (r_ib rfl rfl rfl) (wl rfl (stB (q := 1) (j := 0) hS ⟨rfl, rfl⟩ hL_p1 rfl rfl rfl Try.sizeOf3 rfl rfl rfl fun w1 im1 hS1 => ?_)))))
  have hS1 : Sep g T0 w1 [R, H_p1 [.int .i64 (IntKind.wrap .i64 (p1 + p0))]] := hS1
  refine nil (t_then ?_)
  refine sq2 ?_
  refine rg (pv (r_ld rfl Try.isAgg3 (hS1.cellB (i := 1) ⟨rfl, rfl⟩ hL_p1 (j := 0) rfl)) (pv (r_mi rfl) (pv (r_ib rfl rfl rfl) (pv (r_zi rfl) (nil (t_thenR [(3, .int .i64 (IntKind.wrap .i64 ((IntKind.wrap .i64 (p1 + p0)) - p0)))] ⟨rfl, trivial⟩ fun J => ?_))))))
  have hm := Option.some.inj hm
  subst hm
  exact rtn (ret1 rfl rfl ⟨_, rfl, _, im1, ⟨rfl, hS1.sel [0, 1] rfl, trivial⟩⟩)

set_option maxRecDepth 100000 in
set_option maxHeartbeats 1000000 in
theorem slices_Index_sim {g : World} {T0 : Nat → Prop} {w0 : World} {R : Assn} {p0 : List Int} {v_p0 : Value} {H_p0 : Assn} {p1 : Int} {r : Int} (hS : Sep g T0 w0 [R, H_p0]) (hV_p0 : Vw H_p0 (rInt .i64) v_p0 p0) (hm : slices_Index p0 p1 = some r) :
    Calls Try.prog 22 #[v_p0, .int .i64 p1] w0 (RetS T0 w0 fun T w v => v = .int .i64 r ∧ Sep g T w [R, H_p0] ∧ True) := by
  refine enter (args := [v_p0, .int .i64 p1]) Try.func22 rfl Try.ntmps22 rfl fun J => ?_
  unfold slices_Index at hm
  refine sq2 ?_
  refine rg (pv (r_zi rfl) (nil (t_then ?_)))
  refine sq2 ?_
  refine sq2 ?_
  refine rg (pv (r_mx (v := v_p0) rfl) (pv (r_lnV rfl (hS.view (i := 1) ⟨rfl, rfl⟩ hV_p0) Try.underlying29) (pv (r_mi rfl) (nil (t_then ?_)))))
  obtain ⟨o1, ho1, hq1⟩ := bindS hm
  obtain ⟨bd1, hbd1, ho1⟩ := loop_open ho1
  refine blk (wp_loop_ghost (fun m a w1 => ∃ (J : Nat → Value) (T1 : Nat → Prop) (x1 : Int), a = env (nf 19) J [(0, v_p0), (1, .int .i64 p1), (7, .int .i64 (List.length p0 : Int)), (8, .int .i64 x1)] ∧ Im T0 w0 T1 w1 ∧ Sep g T1 w1 [R, H_p0] ∧ loopM bd1 m x1 = some o1) NN ⟨_, _, 0, env_has ⟨rfl, rfl, rfl, rfl, trivial⟩, Im.refl, hS.sel [0, 1] rfl, ho1⟩ ?_)
  rintro m _ w1 ⟨J, T1, x1, rfl, im1, hS1, ho1⟩
  obtain ⟨m1, z1, rfl, hm, hn1⟩ := loop_round ho1
  rw [hbd1] at hm
  refine sq2 ?_
  refine rg (pv (r_ib rfl rfl rfl) (nil (t_then ?_)))
  refine sq2 ?_
  refine cnd rfl (fun hb1 => ?_) (fun hb1 => ?_)
  · have hm := ctrue hb1 hm
    refine skp (t_then ?_)
    refine sq2 ?_
    refine blk ?_
    refine sq2 ?_
    refine rg (pv (r_mi rfl) (pv (r_zi rfl) (nil (t_then ?_))))
    refine sq2 ?_
    obtain ⟨u1, hx1, hm⟩ := bindS hm
    obtain ⟨b1, of1, cs1, k1, cp1, hv1, hp1, hl1, he1, hr1, hc1⟩ := (hS1.view (i := 1) ⟨rfl, rfl⟩ hV_p0).ixq hx1 rfl
    cases hr1
    refine rg (pv (r_mi rfl) (pv (r_mx (v := v_p0) rfl) (pv (r_mi rfl) (pv (r_ixe hv1 rfl Try.underlying29 Try.sizeOf3 hp1 hl1 he1) (pv (r_ld rfl Try.isAgg3 (hc1.get (j := 0) rfl)) (pv (r_ib rfl rfl rfl) (nil (t_thenR [(0, v_p0), (1, .int .i64 p1), (5, .int .i64 x1), (7, .int .i64 (List.length p0 : Int)), (8, .int .i64 x1), (16, .bool (p1 == u1))] ⟨rfl, rfl, rfl, rfl, rfl, rfl, trivial⟩ fun J => ?_))))))))
    refine cnd rfl (fun hb2 => ?_) (fun hb2 => ?_)
    · have hm := ctrue hb2 hm
      refine sq2 ?_
      refine rg (pv (r_mi rfl) (pv (r_zi rfl) (nil (t_thenR [(4, .int .i64 x1)] ⟨rfl, trivial⟩ fun J => ?_))))
      have hm := Option.some.inj hm
      subst hm
      have hn1 : _ = Lp.ret _ := hn1
      subst hn1
      have hm := thn_ret hq1
      have hm := Option.some.inj hm
      subst hm
      exact rtn (r_blk (r_then (r_then (r_blk (r_then (ret1 rfl rfl ⟨_, rfl, _, im1, ⟨rfl, hS1.sel [0, 1] rfl, trivial⟩⟩))))))
    · have hm := cfalse hb2 hm
      refine skp (t_blk (t_then ?_))
      have hm := Option.some.inj hm
      subst hm
      exact rg (pv (r_ib rfl rfl rfl) (pv (r_mi rfl) (nil (t_then ⟨m1, Nat.lt_succ_self _, _, _, (IntKind.wrap .i64 (x1 + 1)), env_has ⟨rfl, rfl, rfl, rfl, trivial⟩, im1, hS1.sel [0, 1] rfl, hn1⟩))))
  · have hm := cfalse hb1 hm
    have hm := Option.some.inj hm
    subst hm
    have hn1 : _ = Lp.brk _ := hn1
    subst hn1
    have hm := thn_brk hq1
    refine xt (x_then (x_then (x_eq (t_thenR [] trivial fun J => ?_))))
    refine sq2 ?_
    refine rg (pv (r_zi rfl) (nil (t_then ?_)))
    have hm := Option.some.inj hm
    subst hm
    exact rtn (ret1 rfl rfl ⟨_, rfl, _, im1, ⟨rfl, hS1.sel [0, 1] rfl, trivial⟩⟩)

set_option maxRecDepth 100000 in
set_option maxHeartbeats 1000000 in
theorem slices_Contains_sim {g : World} {T0 : Nat → Prop} {w0 : World} {R : Assn} {p0 : List Int} {v_p0 : Value} {H_p0 : Assn} {p1 : Int} {r : Bool} (hS : Sep g T0 w0 [R, H_p0]) (hV_p0 : Vw H_p0 (rInt .i64) v_p0 p0) (hm : slices_Contains p0 p1 = some r) :
    Calls Try.prog 18 #[v_p0, .int .i64 p1] w0 (RetS T0 w0 fun T w v => v = .bool r ∧ Sep g T w [R, H_p0] ∧ True) := by
  refine enter (args := [v_p0, .int .i64 p1]) Try.func18 rfl Try.ntmps18 rfl fun J => ?_
  unfold slices_Contains at hm
  refine sq2 ?_
  refine rg (pv (r_zb rfl) (nil (t_then ?_)))
  refine sq2 ?_
  obtain ⟨y1, hx1, hm⟩ := bindS hm
  refine rg (pv (r_mx (v := v_p0) rfl) (pv (r_mi rfl) (wl rfl (calS cf22 rfl (slices_Index_sim (p0 := p0) (H_p0 := H_p0) (p1 := p1) (hS.bun [0] [1] rfl) hV_p0 hx1) rfl fun v1 T1 w1 im1 rv1 => ?_))))
  obtain ⟨rfl, hS1, _⟩ := rv1
  have hS1 : Sep g T1 w1 [R, H_p0] := hS1.unb
  refine pv (r_ib rfl rfl rfl) (pv (r_zb rfl) (nil (t_thenR [(4, .bool (decide (0 ≤ y1)))] ⟨rfl, trivial⟩ fun J => ?_)))
  have hm := Option.some.inj hm
  subst hm
  exact rtn (ret1 rfl rfl ⟨_, rfl, _, im1, ⟨rfl, hS1.sel [0, 1] rfl, trivial⟩⟩)

set_option maxRecDepth 100000 in
set_option maxHeartbeats 1000000 in
theorem bits_Len64_sim {g : World} {T0 : Nat → Prop} {w0 : World} {R : Assn} {p0 : Int} {r : Int} (hS : Sep g T0 w0 [R])  (hm : bits_Len64 p0 = some r) :
    Calls Try.prog 35 #[.int .u64 p0] w0 (RetS T0 w0 fun T w v => v = .int .i64 r ∧ Sep g T w [R] ∧ True) := by
  refine enter (args := [.int .u64 p0]) Try.func35 rfl Try.ntmps35 rfl fun J => ?_
  unfold bits_Len64 at hm
  refine sq2 ?_
  refine rg (pv (r_zi rfl) (nil (t_then ?_)))
  obtain ⟨kk1, hkk1, hm⟩ := jn_open hm
  refine cut (fun a w1 => ∃ (J : Nat → Value) (T1 : Nat → Prop) (x1 : Int) (x2 : Int), a = env (nf 25) J [(0, .int .u64 x1), (2, .int .i64 x2)] ∧ Im T0 w0 T1 w1 ∧ Sep g T1 w1 [R] ∧ kk1 x1 x2 = some r) ?_ ?_
  · refine sq2 ?_
    refine rg (pv (r_mi rfl) (pv (r_ib rfl rfl rfl) (nil (t_then ?_))))
    refine cnd rfl (fun hb1 => ?_) (fun hb1 => ?_)
    · have hm := ctrue hb1 hm
      refine sq2 ?_
      refine rg (pv (r_mi rfl) (pv (r_ishr rfl rfl (by decide)) (pv (r_zi rfl) (nil (t_thenR [(0, .int .u64 (Int.fdiv p0 (2 ^ (min (Int.toNat 32) (IntKind.bits .u64)))))] ⟨rfl, trivial⟩ fun J => ?_)))))
      exact rg (pv (r_zi rfl) (nil (t_then ⟨_, _, (Int.fdiv p0 (2 ^ (min (Int.toNat 32) (IntKind.bits .u64)))), 32, env_has ⟨rfl, rfl, trivial⟩, Im.refl, hS.sel [0] rfl, hm⟩)))
    · have hm := cfalse hb1 hm
      exact skp (t_then ⟨_, _, p0, 0, env_has ⟨rfl, rfl, trivial⟩, Im.refl, hS.sel [0] rfl, hm⟩)
  · rintro _ w1 ⟨J, T1, x1, x2, rfl, im1, hS1, hm⟩
    rw [hkk1] at hm
    obtain ⟨kk2, hkk2, hm⟩ := jn_open hm
    refine cut (fun a w2 => ∃ (J : Nat → Value) (T2 : Nat → Prop) (x3 : Int) (x4 : Int), a = env (nf 25) J [(0, .int .u64 x3), (2, .int .i64 x4)] ∧ Im T1 w1 T2 w2 ∧ Sep g T2 w2 [R] ∧ kk2 x3 x4 = some r) ?_ ?_
    · refine sq2 ?_
      refine rg (pv (r_mi rfl) (pv (r_ib rfl rfl rfl) (nil (t_then ?_))))
      refine cnd rfl (fun hb2 => ?_) (fun hb2 => ?_)
      · have hm := ctrue hb2 hm
        refine sq2 ?_
        refine rg (pv (r_mi rfl) (pv (r_ishr rfl rfl (by decide)) (pv (r_zi rfl) (nil (t_thenR [(0, .int .u64 (Int.fdiv x1 (2 ^ (min (Int.toNat 16) (IntKind.bits .u64))))), (2, .int .i64 x2)] ⟨rfl, rfl, trivial⟩ fun J => ?_)))))
        exact rg (pv (r_mi rfl) (pv (r_ib rfl rfl rfl) (pv (r_zi rfl) (nil (t_then ⟨_, _, (Int.fdiv x1 (2 ^ (min (Int.toNat 16) (IntKind.bits .u64)))), (IntKind.wrap .i64 (x2 + 16)), env_has ⟨rfl, rfl, trivial⟩, Im.refl, hS1.sel [0] rfl, hm⟩)))))
      · have hm := cfalse hb2 hm
        exact skp (t_then ⟨_, _, x1, x2, env_has ⟨rfl, rfl, trivial⟩, Im.refl, hS1.sel [0] rfl, hm⟩)
    · rintro _ w2 ⟨J, T2, x3, x4, rfl, im2, hS2, hm⟩
      rw [hkk2] at hm
      obtain ⟨kk3, hkk3, hm⟩ := jn_open hm
      refine cut (fun a w3 => ∃ (J : Nat → Value) (T3 : Nat → Prop) (x5 : Int) (x6 : Int), a = env (nf 25) J [(0, .int .u64 x5), (2, .int .i64 x6)] ∧ Im T2 w2 T3 w3 ∧ Sep g T3 w3 [R] ∧ kk3 x5 x6 = some r) ?_ ?_
      · refine sq2 ?_
        refine rg (pv (r_mi rfl) (pv (r_ib rfl rfl rfl) (nil (t_then ?_))))
        refine cnd rfl (fun hb3 => ?_) (fun hb3 => ?_)
        · have hm := ctrue hb3 hm
          refine sq2 ?_
          refine rg (pv (r_mi rfl) (pv (r_ishr rfl rfl (by decide)) (pv (r_zi rfl) (nil (t_thenR [(0, .int .u64 (Int.fdiv x3 (2 ^ (min (Int.toNat 8) (IntKind.bits .u64))))), (2, .int .i64 x4)] ⟨rfl, rfl, trivial⟩ fun J => ?_)))))
          exact rg (pv (r_mi rfl) (pv (r_ib rfl rfl rfl) (pv (r_zi rfl) (nil (t_then ⟨_, _, (Int.fdiv x3 (2 ^ (min (Int.toNat 8) (IntKind.bits .u64)))), (IntKind.wrap .i64 (x4 + 8)), env_has ⟨rfl, rfl, trivial⟩, Im.refl, hS2.sel [0] rfl, hm⟩)))))
        · have hm := cfalse hb3 hm
          exact skp (t_then ⟨_, _, x3, x4, env_has ⟨rfl, rfl, trivial⟩, Im.refl, hS2.sel [0] rfl, hm⟩)
      · rintro _ w3 ⟨J, T3, x5, x6, rfl, im3, hS3, hm⟩
        rw [hkk3] at hm
        refine sq2 ?_
        obtain ⟨u1, hx1, hm⟩ := bindS hm
        refine rg (pv (r_mi rfl) (pv (r_mi rfl) (pv (r_cv rfl Try.underlying67 Try.underlying5) (pv (r_sx rfl rfl hx1 Try.underlying9) (pv (r_cv rfl Try.underlying5 Try.underlying3) (pv (r_ib rfl rfl rfl) (pv (r_zi rfl) (nil (t_thenR [(2, .int .i64 (IntKind.wrap .i64 (x6 + (IntKind.wrap .i64 (UInt8.toNat u1 : Int)))))] ⟨rfl, trivial⟩ fun J => ?_)))))))))
        have hm := Option.some.inj hm
        subst hm
        exact rtn (ret1 rfl rfl ⟨_, rfl, _, (Im.trans im1 (Im.trans im2 im3)), ⟨rfl, hS3.sel [0] rfl, trivial⟩⟩)

set_option maxRecDepth 100000 in
set_option maxHeartbeats 1000000 in
theorem bits_Len_sim {g : World} {T0 : Nat → Prop} {w0 : World} {R : Assn} {p0 : Int} {r : Int} (hS : Sep g T0 w0 [R])  (hm : bits_Len p0 = some r) :
    Calls Try.prog 24 #[.int .u64 p0] w0 (RetS T0 w0 fun T w v => v = .int .i64 r ∧ Sep g T w [R] ∧ True) := by
  refine enter (args := [.int .u64 p0]) Try.func24 rfl Try.ntmps24 rfl fun J => ?_
  unfold bits_Len at hm
  refine sq2 ?_
  refine rg (pv (r_zi rfl) (nil (t_then ?_)))
  refine sq2 ?_
  refine cnd (b := false) rfl (fun h => nomatch h) (fun _ => ?_)
  refine skp (t_then ?_)
  refine sq2 ?_
  obtain ⟨y1, hx1, hm⟩ := bindS hm
  refine rg (pv (r_mi rfl) (wl rfl (calS cf35 rfl (bits_Len64_sim (p0 := p0) (hS.bun [0] [] rfl)  hx1) rfl fun v1 T1 w1 im1 rv1 => ?_)))
  obtain ⟨rfl, hS1, _⟩ := rv1
  have hS1 : Sep g T1 w1 [R] := hS1.unb
  refine pv (r_zi rfl) (nil (t_then ?_))
  have hm := Option.some.inj hm
  subst hm
  exact rtn (ret1 rfl rfl ⟨_, rfl, _, im1, ⟨rfl, hS1.sel [0] rfl, trivial⟩⟩)

set_option maxRecDepth 100000 in
set_option maxHeartbeats 1000000 in
theorem cmp_isNaN_sim {g : World} {T0 : Nat → Prop} {w0 : World} {R : Assn} {p0 : Int} {r : Bool} (hS : Sep g T0 w0 [R])  (hm : cmp_isNaN p0 = some r) :
    Calls Try.prog 41 #[.int .i64 p0] w0 (RetS T0 w0 fun T w v => v = .bool r ∧ Sep g T w [R] ∧ True) := by
  refine enter (args := [.int .i64 p0]) Try.func41 rfl Try.ntmps41 rfl fun J => ?_
  unfold cmp_isNaN at hm
  refine sq2 ?_
  refine rg (pv (r_zb rfl) (nil (t_then ?_)))
  refine sq2 ?_
  refine rg (pv (r_mi rfl) (pv (r_mi rfl) (pv (r_ib rfl rfl rfl) (pv (r_zb rfl) (nil (t_thenR [(2, .bool (p0 != p0))] ⟨rfl, trivial⟩ fun J => ?_))))))
  have hm := Option.some.inj hm
  subst hm
  exact rtn (ret1 rfl rfl ⟨_, rfl, _, Im.refl, ⟨rfl, hS.sel [0] rfl, trivial⟩⟩)

set_option maxRecDepth 100000 in
set_option maxHeartbeats 1000000 in
theorem cmp_Less_sim {g : World} {T0 : Nat → Prop} {w0 : World} {R : Assn} {p0 : Int} {p1 : Int} {r : Bool} (hS : Sep g T0 w0 [R])  (hm : cmp_Less p0 p1 = some r) :
    Calls Try.prog 31 #[.int .i64 p0, .int .i64 p1] w0 (RetS T0 w0 fun T w v => v = .bool r ∧ Sep g T w [R] ∧ True) := by
  refine enter (args := [.int .i64 p0, .int .i64 p1]) Try.func31 rfl Try.ntmps31 rfl fun J => ?_
  unfold cmp_Less at hm
  refine sq2 ?_
  refine rg (pv (r_zb rfl) (nil (t_then ?_)))
  refine sq2 ?_
  obtain ⟨y1, hx1, hm⟩ := bindS hm
  refine rg (pv (r_mi rfl) (wl rfl (calS cf41 rfl (cmp_isNaN_sim (p0 := p0) (hS.bun [0] [] rfl)  hx1) rfl fun v1 T1 w1 im1 rv1 => ?_)))
  obtain ⟨rfl, hS1, _⟩ := rv1
  have hS1 : Sep g T1 w1 [R] := hS1.unb
  refine pv (r_mb rfl) (?_)
  rcases Bool.eq_false_or_eq_true y1 with hb1 | hb1
  · have hm := ctrue hb1 hm
    obtain ⟨y2, hx2, hm⟩ := bindS hm
    refine gT (d0 := 7) rfl rfl hb1 (pv (r_mi rfl) (gT (d0 := 7) rfl rfl hb1 (wl rfl (calS cf41 rfl (cmp_isNaN_sim (p0 := p1) (hS1.bun [0] [] rfl)  hx2) rfl fun v2 T2 w2 im2 rv2 => ?_))))
    obtain ⟨rfl, hS2, _⟩ := rv2
    have hS2 : Sep g T2 w2 [R] := hS2.unb
    refine gT (d0 := 7) rfl rfl hb1 (pv (r_nt rfl) (pv (r_pkt rfl hb1 rfl) (pv (r_mb rfl) (?_))))
    rcases Bool.eq_false_or_eq_true (!y2) with hb2 | hb2
    · have hm := ctrue hb2 hm
      refine gF (d0 := 12) rfl rfl (by rw [hb2]; rfl) (gF (d0 := 12) rfl rfl (by rw [hb2]; rfl) (gF (d0 := 12) rfl rfl (by rw [hb2]; rfl) (pv (r_pkt rfl hb2 rfl) (pv (r_zb rfl) (nil (t_thenR [(4, .bool true)] ⟨rfl, trivial⟩ fun J => ?_))))))
      have hm := Option.some.inj hm
      subst hm
      exact rtn (ret1 rfl rfl ⟨_, rfl, _, (Im.trans im1 im2), ⟨rfl, hS2.sel [0] rfl, trivial⟩⟩)
    · have hm := cfalse hb2 hm
      refine gT (d0 := 12) rfl rfl hb2 (pv (r_mi rfl) (gT (d0 := 12) rfl rfl hb2 (pv (r_mi rfl) (gT (d0 := 12) rfl rfl hb2 (pv (r_ib rfl rfl rfl) (pv (r_pkf rfl hb2 rfl) (pv (r_zb rfl) (nil (t_thenR [(4, .bool (decide (p0 < p1)))] ⟨rfl, trivial⟩ fun J => ?_)))))))))
      have hm := Option.some.inj hm
      subst hm
      exact rtn (ret1 rfl rfl ⟨_, rfl, _, (Im.trans im1 im2), ⟨rfl, hS2.sel [0] rfl, trivial⟩⟩)
  · have hm := cfalse hb1 hm
    refine gF (d0 := 7) rfl rfl (by rw [hb1]; rfl) (gF (d0 := 7) rfl rfl (by rw [hb1]; rfl) (gF (d0 := 7) rfl rfl (by rw [hb1]; rfl) (pv (r_pkf rfl hb1 rfl) (pv (r_mb rfl) (gT (d0 := 12) rfl rfl rfl (pv (r_mi rfl) (gT (d0 := 12) rfl rfl rfl (pv (r_mi rfl) (gT (d0 := 12) rfl rfl rfl (pv (r_ib rfl rfl rfl) (pv (r_pkf rfl rfl rfl) (pv (r_zb rfl) (nil (t_thenR [(4, .bool (decide (p0 < p1)))] ⟨rfl, trivial⟩ fun J => ?_))))))))))))))
    have hm := Option.some.inj hm
    subst hm
    exact rtn (ret1 rfl rfl ⟨_, rfl, _, im1, ⟨rfl, hS1.sel [0] rfl, trivial⟩⟩)

set_option maxRecDepth 100000 in
set_option maxHeartbeats 1000000 in
theorem slices_insertionSortOrdered_sim {g : World} {T0 : Nat → Prop} {w0 : World} {R : Assn} {p0 : List Int} {a1 : Option Addr} {n1 : Nat} {c1 : Nat} {p1 : Int} {p2 : Int} {r : (List Int)} (hS : Sep g T0 w0 [R, ownA (rInt .i64) 3 (.slice a1 n1 c1) p0])  (hm : slices_insertionSortOrdered p0 p1 p2 = some r) :
    Calls Try.prog 25 #[.slice a1 n1 c1, .int .i64 p1, .int .i64 p2] w0 (RetS T0 w0 fun T w v => v = .tuple #[] ∧ Sep g T w [R, ownA (rInt .i64) 3 (.slice a1 n1 c1) r] ∧ True) := by
  refine enter (args := [.slice a1 n1 c1, .int .i64 p1, .int .i64 p2]) Try.func25 rfl Try.ntmps25 rfl fun J => ?_
  unfold slices_insertionSortOrdered at hm
  refine sq2 ?_
  refine rg (pv (r_mi rfl) (pv (r_ib rfl rfl rfl) (pv (r_zi rfl) (nil (t_then ?_)))))
  obtain ⟨o1, ho1, hq1⟩ := bindS hm
  obtain ⟨bd1, hbd1, ho1⟩ := loop_open ho1
  refine blk (wp_loop_ghost (fun m a w1 => ∃ (J : Nat → Value) (T1 : Nat → Prop) (x1 : List Int) (x2 : Int), a = env (nf 49) J [(0, .slice a1 n1 c1), (1, .int .i64 p1), (2, .int .i64 p2), (6, .int .i64 x2)] ∧ Im T0 w0 T1 w1 ∧ Sep g T1 w1 [R, ownA (rInt .i64) 3 (.slice a1 n1 c1) x1] ∧ loopM bd1 m (x1, x2) = some o1) NN ⟨_, _, p0, (IntKind.wrap .i64 (p1 + 1)), env_has ⟨rfl, rfl, rfl, rfl, trivial⟩, Im.refl, hS.sel [0, 1] rfl, ho1⟩ ?_)
  rintro m _ w1 ⟨J, T1, x1, x2, rfl, im1, hS1, ho1⟩
  obtain ⟨m1, z1, rfl, hm, hn1⟩ := loop_round ho1
  rw [hbd1] at hm
  refine sq2 ?_
  refine sq2 ?_
  refine rg (pv (r_mi rfl) (pv (r_mi rfl) (pv (r_ib rfl rfl rfl) (nil (t_then ?_)))))
  refine cnd rfl (fun hb1 => ?_) (fun hb1 => ?_)
  · have hm := ctrue hb1 hm
    refine skp (t_then ?_)
    refine sq2 ?_
    refine blk ?_
    refine sq2 ?_
    refine rg (pv (r_mi rfl) (pv (r_zi rfl) (nil (t_then ?_))))
    obtain ⟨o2, ho2, hq2⟩ := bindS hm
    obtain ⟨bd2, hbd2, ho2⟩ := loop_open ho2
    refine blk (wp_loop_ghost (fun m a w2 => ∃ (J : Nat → Value) (T2 : Nat → Prop) (x3 : List Int) (x4 : Int), a = env (nf 49) J [(0, .slice a1 n1 c1), (1, .int .i64 p1), (2, .int .i64 p2), (6, .int .i64 x2), (7, .int .i64 x4)] ∧ Im T1 w1 T2 w2 ∧ Sep g T2 w2 [R, ownA (rInt .i64) 3 (.slice a1 n1 c1) x3] ∧ loopM bd2 m (x3, x4) = some o2) NN ⟨_, _, x1, x2, env_has ⟨rfl, rfl, rfl, rfl, rfl, trivial⟩, Im.refl, hS1.sel [0, 1] rfl, ho2⟩ ?_)
    rintro m _ w2 ⟨J, T2, x3, x4, rfl, im2, hS2, ho2⟩
    obtain ⟨m2, z2, rfl, hm, hn2⟩ := loop_round ho2
    rw [hbd2] at hm
    refine sq2 ?_
    refine sq2 ?_
    refine rs [0, 0, 0, 0, 0, 0, 0, 1, 0, 0, 0, 0, 1, 2, 0] [0, 1, 2, 3, 4, 5, 6, 7, 8, 9, 10, 11, 12, 13, 14] mix (by kernel_rfl) hS2.lt fun w3 i1 => ?_
    have im3 := i1.imm
    have hS3 := hS2.keep i1 (fun _ h => h)
    refine s0 rfl trivial (fun _ => r_mi rfl) rfl (s0 rfl trivial (fun _ => r_mi rfl) rfl (s0 rfl trivial (fun _ => r_ib rfl rfl rfl) rfl (s0 rfl trivial (fun _ => r_mb rfl) rfl (?_))))
    rcases Bool.eq_false_or_eq_true (decide (p1 < x4)) with hb2 | hb2
    · have hm := ctrue hb2 hm
      obtain ⟨u1, hx1, hm⟩ := bindS hm
      obtain ⟨b1, of1, cs1, k1, cp1, hv1, hp1, hl1, he1, hr1, hc1⟩ := (hS3.own (i := 1) ⟨rfl, rfl⟩).v.ixq hx1 rfl
      cases hr1
      obtain ⟨u2, hx2, hm⟩ := bindS hm
      obtain ⟨b2, of2, cs2, k2, cp2, hv2, hp2, hl2, he2, hr2, hc2⟩ := (hS3.own (i := 1) ⟨rfl, rfl⟩).v.ixq hx2 rfl
      cases hr2
      obtain ⟨y1, hx3, hm⟩ := bindS hm
      refine s0 rfl ⟨_, rfl, congrArg Value.bool hb2⟩ (fun _ => r_ms rfl) rfl (s0 rfl ⟨_, rfl, congrArg Value.bool hb2⟩ (fun _ => r_mi rfl) rfl (s0 rfl ⟨_, rfl, congrArg Value.bool hb2⟩ (fun _ => r_ixe hv1 rfl Try.underlying29 Try.sizeOf3 hp1 hl1 he1) rfl (s1 rfl ⟨_, rfl, congrArg Value.bool hb2⟩ (r_ld rfl Try.isAgg3 (hc1.get (j := 0) rfl)) rfl (s0 rfl ⟨_, rfl, congrArg Value.bool hb2⟩ (fun _ => r_ms rfl) rfl (s0 rfl ⟨_, rfl, congrArg Value.bool hb2⟩ (fun _ => r_mi rfl) rfl (s0 rfl ⟨_, rfl, congrArg Value.bool hb2⟩ (fun _ => r_ib rfl rfl rfl) rfl (s0 rfl ⟨_, rfl, congrArg Value.bool hb2⟩ (fun _ => r_ixe hv2 rfl Try.underlying29 Try.sizeOf3 hp2 hl2 he2) rfl (s1 rfl ⟨_, rfl, congrArg Value.bool hb2⟩ (r_ld rfl Try.isAgg3 (hc2.get (j := 0) rfl)) rfl (s2 [] rfl ⟨_, rfl, congrArg Value.bool hb2⟩ rfl (by kernel_rfl) (calS cf31 rfl (cmp_Less_sim (p0 := u1) (p1 := u2) (hS3.bun [0, 1] [] rfl)  hx3) rfl fun v1 T3 w4 im4 rv1 => ?_))))))))))
      obtain ⟨rfl, hS4, _⟩ := rv1
      have hS4 : Sep g T3 w4 [R, ownA (rInt .i64) 3 (.slice a1 n1 c1) x3] := hS4.unb
      refine ⟨st0, ?_⟩
      refine s0 rfl trivial (fun _ => r_pkt rfl hb2 rfl) rfl (se (t_thenR [(0, .slice a1 n1 c1), (1, .int .i64 p1), (2, .int .i64 p2), (6, .int .i64 x2), (7, .int .i64 x4), (30, .bool y1)] ⟨rfl, rfl, rfl, rfl, rfl, rfl, trivial⟩ fun J => ?_))
      refine cnd rfl (fun hb3 => ?_) (fun hb3 => ?_)
      · have hm := ctrue hb3 hm
        refine skp (t_then ?_)
        refine sq2 ?_
        refine blk ?_
        refine rs [0, 0, 0, 0, 0, 0, 0, 0, 0, 1, 0, 0, 0, 1, 0, 2, 0, 2] [0, 1, 2, 3, 4, 5, 6, 7, 8, 9, 10, 11, 12, 13, 14, 15, 16, 17] mix (by kernel_rfl) hS4.lt fun w5 i2 => ?_
        have im5 := i2.imm
        have hS5 := hS4.keep i2 (fun _ h => h)
        obtain ⟨u3, hx4, hm⟩ := bindS hm
        obtain ⟨b3, of3, cs3, k3, cp3, hv3, hp3, hl3, he3, hr3, hc3⟩ := (hS5.own (i := 1) ⟨rfl, rfl⟩).v.ixq hx4 rfl
        cases hr3
        obtain ⟨u4, hx5, hm⟩ := bindS hm
        obtain ⟨b4, of4, cs4, k4, cp4, hv4, hp4, hl4, he4, hr4, hc4⟩ := (hS5.own (i := 1) ⟨rfl, rfl⟩).v.ixq hx5 rfl
        cases hr4
        obtain ⟨u5, hx6, hm⟩ := bindS hm
        obtain ⟨b5, of5, cs5, k5, cp5, hv5, hp5, hl5, he5, hr5, hc5⟩ := (hS5.own (i := 1) ⟨rfl, rfl⟩).v.ixq hx6 rfl
        cases hr5
        obtain ⟨u6, hx7, hm⟩ := bindS hm
        refine s0 rfl trivial (fun _ => r_ms rfl) rfl (s0 rfl trivial (fun _ => r_mi rfl) rfl (s0 rfl trivial (fun _ => r_ms rfl) rfl (s0 rfl trivial (fun _ => r_mi rfl) rfl (s0 rfl trivial (fun _ => r_ib rfl rfl rfl) rfl (s0 rfl trivial (fun _ => r_ms rfl) rfl (s0 rfl trivial (fun _ => r_mi rfl) rfl (s0 rfl trivial (fun _ => r_ib rfl rfl rfl) rfl (s0 rfl trivial (fun _ => r_ixe hv3 rfl Try.underlying29 Try.sizeOf3 hp3 hl3 he3) rfl (s1 rfl trivial (r_ld rfl Try.isAgg3 (hc3.get (j := 0) rfl)) rfl (s0 rfl trivial (fun _ => r_ms rfl) rfl (s0 rfl trivial (fun _ => r_mi rfl) rfl (s0 rfl trivial (fun _ => r_ixe hv4 rfl Try.underlying29 Try.sizeOf3 hp4 hl4 he4) rfl (s1 rfl trivial (r_ld rfl Try.isAgg3 (hc4.get (j := 0) rfl)) rfl (s0 rfl trivial (fun _ => r_ixe hv5 rfl Try.underlying29 Try.sizeOf3 hp5 hl5 he5) rfl (s2 [] rfl trivial rfl (by kernel_rfl) (stO (q := 1) (i := Int.toNat x4) (j := 0) (u := u6) (u' := u3) hS5 ⟨rfl, rfl⟩ hv5 (idx_some hx7).2.2 he5 rfl rfl rfl Try.sizeOf3 rfl rfl rfl (fun c0 hc0 => by rw [storeL_all (r := (rInt .i64)) hc0 rfl]; exact rfl) fun w6 im6 hS6 => ?_))))))))))))))))
        have hS6 : Sep g T3 w6 [R, ownA (rInt .i64) 3 (.slice a1 n1 c1) (List.set x3 (Int.toNat x4) u3)] := hS6
        refine ⟨st0, ?_⟩
        obtain ⟨u7, hx8, hm⟩ := bindS hm
        obtain ⟨b6, of6, cs6, k6, cp6, hv6, hp6, hl6, he6, hr6, hc6⟩ := (hS6.own (i := 1) ⟨rfl, rfl⟩).v.ixq hx8 rfl
        cases hr6
        obtain ⟨u8, hx9, hm⟩ := bindS hm
        refine s0 rfl trivial (fun _ => r_ixe hv6 rfl Try.underlying29 Try.sizeOf3 hp6 hl6 he6) rfl (s2 [] rfl trivial rfl (by kernel_rfl) (stO (q := 1) (i := Int.toNat (IntKind.wrap .i64 (x4 - 1))) (j := 0) (u := u8) (u' := u4) hS6 ⟨rfl, rfl⟩ hv6 (idx_some hx9).2.2 he6 rfl rfl rfl Try.sizeOf3 rfl rfl rfl (fun c0 hc0 => by rw [storeL_all (r := (rInt .i64)) hc0 rfl]; exact rfl) fun w7 im7 hS7 => ?_))
        have hS7 : Sep g T3 w7 [R, ownA (rInt .i64) 3 (.slice a1 n1 c1) (List.set (List.set x3 (Int.toNat x4) u3) (Int.toNat (IntKind.wrap .i64 (x4 - 1))) u4)] := hS7
        refine ⟨st0, ?_⟩
        refine se (t_blk (t_thenR [(0, .slice a1 n1 c1), (1, .int .i64 p1), (2, .int .i64 p2), (6, .int .i64 x2), (7, .int .i64 x4)] ⟨rfl, rfl, rfl, rfl, rfl, trivial⟩ fun J => ?_))
        have hm := Option.some.inj hm
        subst hm
        exact rg (pv (r_mi rfl) (pv (r_ib rfl rfl rfl) (pv (r_zi rfl) (nil (t_then ⟨m2, Nat.lt_succ_self _, _, _, (List.set (List.set x3 (Int.toNat x4) u3) (Int.toNat (IntKind.wrap .i64 (x4 - 1))) u4), (IntKind.wrap .i64 (x4 - 1)), env_has ⟨rfl, rfl, rfl, rfl, rfl, trivial⟩, (Im.trans im2 (Im.trans im3 (Im.trans im4 (Im.trans im5 (Im.trans im6 im7))))), hS7.sel [0, 1] rfl, hn2⟩)))))
      · have hm := cfalse hb3 hm
        have hm := Option.some.inj hm
        subst hm
        have hn2 : _ = Lp.brk _ := hn2
        subst hn2
        have hm := thn_brk hq2
        refine xt (x_then (x_then (x_eq (t_blk (t_then ?_)))))
        have hm := Option.some.inj hm
        subst hm
        exact rg (pv (r_mi rfl) (pv (r_ib rfl rfl rfl) (pv (r_zi rfl) (nil (t_then ⟨m1, Nat.lt_succ_self _, _, _, x3, (IntKind.wrap .i64 (x2 + 1)), env_has ⟨rfl, rfl, rfl, rfl, trivial⟩, (Im.trans im1 (Im.trans im2 (Im.trans im3 im4))), hS4.sel [0, 1] rfl, hn1⟩)))))
    · have hm := cfalse hb2 hm
      refine sU rfl ⟨_, rfl, .inl (congrArg Value.bool hb2)⟩ (sU rfl ⟨_, rfl, .inl (congrArg Value.bool hb2)⟩ (sU rfl ⟨_, rfl, .inl (congrArg Value.bool hb2)⟩ (sU rfl ⟨_, rfl, .inl (congrArg Value.bool hb2)⟩ (sU rfl ⟨_, rfl, .inl (congrArg Value.bool hb2)⟩ (sU rfl ⟨_, rfl, .inl (congrArg Value.bool hb2)⟩ (sU rfl ⟨_, rfl, .inl (congrArg Value.bool hb2)⟩ (sU rfl ⟨_, rfl, .inl (congrArg Value.bool hb2)⟩ (sU rfl ⟨_, rfl, .inl (congrArg Value.bool hb2)⟩ (sU rfl ⟨_, rfl, .inl (congrArg Value.bool hb2)⟩ (s0 rfl trivial (fun _ => r_pkf rfl hb2 rfl) rfl (se (t_thenR [(0, .slice a1 n1 c1), (1, .int .i64 p1), (2, .int .i64 p2), (6, .int .i64 x2), (7, .int .i64 x4), (30, .bool false)] ⟨rfl, rfl, rfl, rfl, rfl, rfl, trivial⟩ fun J => ?_))))))))))))
      refine cnd (b := false) rfl (fun h => nomatch h) (fun _ => ?_)
      have hm := Option.some.inj hm
      subst hm
      have hn2 : _ = Lp.brk _ := hn2
      subst hn2
      have hm := thn_brk hq2
      refine xt (x_then (x_then (x_eq (t_blk (t_then ?_)))))
      have hm := Option.some.inj hm
      subst hm
      exact rg (pv (r_mi rfl) (pv (r_ib rfl rfl rfl) (pv (r_zi rfl) (nil (t_then ⟨m1, Nat.lt_succ_self _, _, _, x3, (IntKind.wrap .i64 (x2 + 1)), env_has ⟨rfl, rfl, rfl, rfl, trivial⟩, (Im.trans im1 (Im.trans im2 im3)), hS3.sel [0, 1] rfl, hn1⟩)))))
  · have hm := cfalse hb1 hm
    have hm := Option.some.inj hm
    subst hm
    have hn1 : _ = Lp.brk _ := hn1
    subst hn1
    have hm := thn_brk hq1
    have hm := Option.some.inj hm
    subst hm
    exact xt (x_then (x_then (x_eq (end0 rfl ⟨_, rfl, _, im1, ⟨rfl, hS1.sel [0, 1] rfl, trivial⟩⟩))))

set_option maxRecDepth 100000 in
set_option maxHeartbeats 1000000 in
theorem slices_pdqsortOrdered_sim {g : World} {T0 : Nat → Prop} {w0 : World} {R : Assn} {p0 : List Int} {a1 : Option Addr} {n1 : Nat} {c1 : Nat} {p1 : Int} {p2 : Int} {p3 : Int} {r : (List Int)} (hS : Sep g T0 w0 [R, ownA (rInt .i64) 3 (.slice a1 n1 c1) p0])  (hm : slices_pdqsortOrdered p0 p1 p2 p3 = some r) :
    Calls Try.prog 23 #[.slice a1 n1 c1, .int .i64 p1, .int .i64 p2, .int .i64 p3] w0 (RetS T0 w0 fun T w v => v = .tuple #[] ∧ Sep g T w [R, ownA (rInt .i64) 3 (.slice a1 n1 c1) r] ∧ True) := by
  refine enter (args := [.slice a1 n1 c1, .int .i64 p1, .int .i64 p2, .int .i64 p3]) Try.func23 rfl Try.ntmps23 rfl fun J => ?_
  unfold slices_pdqsortOrdered at hm
  refine sq2 ?_
  refine rg (pv (r_zb rfl) (nil (t_then ?_)))
  refine sq2 ?_
  refine rg (pv (r_zb rfl) (nil (t_then ?_)))
  obtain ⟨o1, ho1, hq1⟩ := bindS hm
  obtain ⟨bd1, hbd1, ho1⟩ := loop_open ho1
  refine blk (wp_loop_ghost (fun m a w1 => ∃ (J : Nat → Value) (T1 : Nat → Prop) (x1 : Int) (x2 : Int), a = env (nf 134) J [(0, .slice a1 n1 c1), (1, .int .i64 x1), (2, .int .i64 x2)] ∧ Im T0 w0 T1 w1 ∧ Sep g T1 w1 [R, ownA (rInt .i64) 3 (.slice a1 n1 c1) p0] ∧ loopM bd1 m (x1, x2) = some o1) NN ⟨_, _, p1, p2, env_has ⟨rfl, rfl, rfl, trivial⟩, Im.refl, hS.sel [0, 1] rfl, ho1⟩ ?_)
  rintro m _ w1 ⟨J, T1, x1, x2, rfl, im1, hS1, ho1⟩
  obtain ⟨m1, z1, rfl, hm, hn1⟩ := loop_round ho1
  rw [hbd1] at hm
  refine blk ?_
  refine sq2 ?_
  refine rg (pv (r_mi rfl) (pv (r_mi rfl) (pv (r_ib rfl rfl rfl) (pv (r_zi rfl) (nil (t_then ?_))))))
  refine sq2 ?_
  refine sq2 ?_
  refine rg (pv (r_mi rfl) (pv (r_ib rfl rfl rfl) (nil (t_thenR [(0, .slice a1 n1 c1), (1, .int .i64 x1), (2, .int .i64 x2), (23, .bool (decide ((IntKind.wrap .i64 (x2 - x1)) ≤ 12)))] ⟨rfl, rfl, rfl, rfl, trivial⟩ fun J => ?_))))
  refine cnd rfl (fun hb1 => ?_) (fun hb1 => ?_)
  · have hm := ctrue hb1 hm
    refine sq2 ?_
    obtain ⟨y1, hx1, hm⟩ := bindS hm
    refine rg (pv (r_ms rfl) (pv (r_mi rfl) (pv (r_mi rfl) (wl rfl (calS cf25 rfl (slices_insertionSortOrdered_sim (p0 := p0) (p1 := x1) (p2 := x2) (hS1.bun [0] [1] rfl)  hx1) rfl fun v1 T2 w2 im2 rv1 => ?_)))))
    obtain ⟨rfl, hS2, _⟩ := rv1
    have hS2 : Sep g T2 w2 [R, ownA (rInt .i64) 3 (.slice a1 n1 c1) y1] := hS2.unb
    refine nil (t_thenR [] trivial fun J => ?_)
    have hm := Option.some.inj hm
    subst hm
    have hn1 : _ = Lp.ret _ := hn1
    subst hn1
    have hm := thn_ret hq1
    have hm := Option.some.inj hm
    subst hm
    exact rtn (r_then (r_blk (r_then (r_blk (ret0 rfl ⟨_, rfl, _, (Im.trans im1 im2), ⟨rfl, hS2.sel [0, 1] rfl, trivial⟩⟩)))))
  · have hm := cfalse hb1 hm
    cases hm

set_option maxRecDepth 100000 in
set_option maxHeartbeats 1000000 in
theorem slices_Sort_sim {g : World} {T0 : Nat → Prop} {w0 : World} {R : Assn} {p0 : List Int} {a1 : Option Addr} {n1 : Nat} {c1 : Nat} {r : (List Int)} (hS : Sep g T0 w0 [R, ownA (rInt .i64) 3 (.slice a1 n1 c1) p0])  (hm : slices_Sort p0 = some r) :
    Calls Try.prog 19 #[.slice a1 n1 c1] w0 (RetS T0 w0 fun T w v => v = .tuple #[] ∧ Sep g T w [R, ownA (rInt .i64) 3 (.slice a1 n1 c1) r] ∧ True) := by
  refine enter (args := [.slice a1 n1 c1]) Try.func19 rfl Try.ntmps19 rfl fun J => ?_
  unfold slices_Sort at hm
  refine sq2 ?_
  refine rg (pv (r_ms rfl) (pv (r_lnV rfl (hS.own (i := 1) ⟨rfl, rfl⟩).v Try.underlying29) (pv (r_zi rfl) (nil (t_then ?_)))))
  obtain ⟨y1, hx1, hm⟩ := bindS hm
  refine rg (pv (r_ms rfl) (pv (r_mi rfl) (pv (r_mi rfl) (pv (r_cv rfl Try.underlying3 Try.underlying54) (wl rfl (calS cf24 rfl (bits_Len_sim (p0 := IntKind.wrap .u64 (List.length p0 : Int)) (hS.bun [0, 1] [] rfl)  hx1) rfl fun v1 T1 w1 im1 rv1 => ?_))))))
  obtain ⟨rfl, hS1, _⟩ := rv1
  have hS1 : Sep g T1 w1 [R, ownA (rInt .i64) 3 (.slice a1 n1 c1) p0] := hS1.unb
  obtain ⟨y2, hx2, hm⟩ := bindS hm
  refine wl rfl (calS cf23 rfl (slices_pdqsortOrdered_sim (p0 := p0) (p1 := 0) (p2 := (List.length p0 : Int)) (p3 := y1) (hS1.bun [0] [1] rfl)  hx2) rfl fun v2 T2 w2 im2 rv2 => ?_)
  obtain ⟨rfl, hS2, _⟩ := rv2
  have hS2 : Sep g T2 w2 [R, ownA (rInt .i64) 3 (.slice a1 n1 c1) y2] := hS2.unb
  have hm := Option.some.inj hm
  subst hm
  exact nil (end0 rfl ⟨_, rfl, _, (Im.trans im1 im2), ⟨rfl, hS2.sel [0, 1] rfl, trivial⟩⟩)

set_option maxRecDepth 100000 in
set_option maxHeartbeats 1000000 in
theorem alloc_Given_sim {g : World} {T0 : Nat → Prop} {w0 : World} {R : Assn} {p0 : List Seat} {a1 : Option Addr} {c1 : Nat} {r : (List Int)} (hS : Sep g T0 w0 [R]) (h1 : SlR rSeat T0 w0 (.slice a1 (List.length p0) c1) p0) (hm : alloc_Given p0 = some r) :
    Calls Try.prog 14 #[.slice a1 (List.length p0) c1] w0 (RetS T0 w0 fun T w v => ∃ (a6 : Option Addr) (n5 : Nat) (c6 : Nat), v = .slice a6 n5 c6 ∧ Sep g T w [R, ownA (rInt .i64) 3 (.slice a6 n5 c6) r] ∧ True) := by
  refine enter (args := [.slice a1 (List.length p0) c1]) Try.func14 rfl Try.ntmps14 rfl fun J => ?_
  unfold alloc_Given at hm
  refine sq2 ?_
  refine rg (pv (r_zs rfl) (nil (t_then ?_)))
  refine sq2 ?_
  refine rg (pv (r_zs rfl) (nil (t_then ?_)))
  refine sq2 ?_
  refine sq2 ?_
  refine rg (pv (r_ms rfl) (pv (r_ln rfl Try.underlying26) (pv (r_mi rfl) (nil (t_then ?_)))))
  obtain ⟨o1, ho1, hq1⟩ := bindS hm
  obtain ⟨bd1, hbd1, ho1⟩ := loop_open ho1
  have hS1 := hS.nilO (rInt .i64) 3
  refine blk (wp_loop_ghost (fun m a w1 => ∃ (J : Nat → Value) (T1 : Nat → Prop) (x1 : List Int) (a2 : Option Addr) (n1 : Nat) (c2 : Nat) (x2 : Int), a = env (nf 31) J [(3, .slice a2 n1 c2), (6, .slice a1 (List.length p0) c1), (7, .int .i64 (List.length p0 : Int)), (8, .int .i64 x2)] ∧ Im T0 w0 T1 w1 ∧ Sep g T1 w1 [ownA (rInt .i64) 3 (.slice a2 n1 c2) x1, R] ∧ loopM bd1 m (x1, x2) = some o1) NN ⟨_, _, [], _, _, _, 0, env_has ⟨rfl, rfl, rfl, rfl, trivial⟩, Im.refl, hS1.sel [0, 1] rfl, ho1⟩ ?_)
  rintro m _ w1 ⟨J, T1, x1, a2, n1, c2, x2, rfl, im1, hS2, ho1⟩
  obtain ⟨m1, z1, rfl, hm, hn1⟩ := loop_round ho1
  rw [hbd1] at hm
  refine sq2 ?_
  refine rg (pv (r_ib rfl rfl rfl) (nil (t_then ?_)))
  refine sq2 ?_
  refine cnd rfl (fun hb1 => ?_) (fun hb1 => ?_)
  · have hm := ctrue hb1 hm
    refine skp (t_then ?_)
    obtain ⟨kk1, hkk1, hm⟩ := jn_open hm
    refine cut (fun a w2 => ∃ (J : Nat → Value) (T2 : Nat → Prop) (x3 : List Int) (a3 : Option Addr) (n2 : Nat) (c3 : Nat), a = env (nf 31) J [(3, .slice a3 n2 c3), (6, .slice a1 (List.length p0) c1), (7, .int .i64 (List.length p0 : Int)), (8, .int .i64 x2)] ∧ Im T1 w1 T2 w2 ∧ Sep g T2 w2 [ownA (rInt .i64) 3 (.slice a3 n2 c3) x3, R] ∧ kk1 x3 = some z1) ?_ ?_
    · refine blk ?_
      refine sq2 ?_
      obtain ⟨u1, hx1, hm⟩ := bindS hm
      obtain ⟨b1, of1, cs1, k1, cp1, hv1, hp1, hl1, he1, hr1, hc1, hT1⟩ := (h1.mono im1).ixT hx1 rfl
      cases rSeat_open hr1
      refine rg (pv (r_ixe hv1 rfl Try.underlying26 Try.sizeOf44 hp1 hl1 he1) (pv (r_ldS rfl Try.isAgg44 Try.sizeOf44 rfl hc1 (cs := [.int .i64 u1.Reg, .int .i64 u1.Slot])) (wl rfl (alS (zs := [.int .i64 0, .int .i64 0]) Try.zeroValue44 rfl hS2 fun w3 b2 im3 hS3 => ?_))))
      refine wl rfl (st0B (q := 0) hS3 ⟨rfl, rfl⟩ rfl rfl rfl Try.sizeOf44 rfl rfl rfl fun w4 im4 hS4 => ?_)
      have hS4 : Sep g T1 w4 [boxA b2 [.int .i64 u1.Reg, .int .i64 u1.Slot], ownA (rInt .i64) 3 (.slice a2 n1 c2) x1, R] := hS4
      refine nil (t_then ?_)
      refine sq2 ?_
      refine rg (pv (r_fa rfl Try.underlying44 rfl Try.sizeOf3 rfl) (pv (r_ld rfl Try.isAgg3 (hS4.cell0 (i := 0) ⟨rfl, rfl⟩ (j := 0) rfl)) (pv (r_ib rfl rfl rfl) (pv (r_mb rfl) (?_)))))
      rcases Bool.eq_false_or_eq_true (decide (0 < u1.Reg)) with hb2 | hb2
      · have hm := ctrue hb2 hm
        obtain ⟨y1, hx2, hm⟩ := bindS hm
        refine gT (d0 := 15) rfl rfl hb2 (pv (r_ms rfl) (gT (d0 := 15) rfl rfl hb2 (pv (r_fa rfl Try.underlying44 rfl Try.sizeOf3 rfl) (gT (d0 := 15) rfl rfl hb2 (pv (r_ld rfl Try.isAgg3 (hS4.cell0 (i := 0) ⟨rfl, rfl⟩ (j := 0) rfl)) (gT (d0 := 15) rfl rfl hb2 (wl rfl (calS cf18 rfl (slices_Contains_sim (p0 := x1) (H_p0 := ownA (rInt .i64) 3 (.slice a2 n1 c2) x1) (p1 := u1.Reg) (hS4.bun [0, 2] [1] rfl) vwOwn hx2) rfl fun v1 T3 w5 im5 rv1 => ?_))))))))
        obtain ⟨rfl, hS5, _⟩ := rv1
        have hS5 : Sep g T3 w5 [boxA b2 [.int .i64 u1.Reg, .int .i64 u1.Slot], R, ownA (rInt .i64) 3 (.slice a2 n1 c2) x1] := hS5.unb
        refine gT (d0 := 15) rfl rfl hb2 (pv (r_nt rfl) (pv (r_pkt rfl hb2 rfl) (nil (t_thenR [(3, .slice a2 n1 c2), (5, .pointer (some ⟨b2, 0, none⟩)), (6, .slice a1 (List.length p0) c1), (7, .int .i64 (List.length p0 : Int)), (8, .int .i64 x2), (21, .bool (!y1))] ⟨rfl, rfl, rfl, rfl, rfl, rfl, trivial⟩ fun J => ?_))))
        refine cnd rfl (fun hb3 => ?_) (fun hb3 => ?_)
        · have hm := ctrue hb3 hm
          refine rg (pv (r_ms rfl) (pv (r_fa rfl Try.underlying44 rfl Try.sizeOf3 rfl) (pv (r_ld rfl Try.isAgg3 (hS5.cell0 (i := 0) ⟨rfl, rfl⟩ (j := 0) rfl)) (wl rfl (bsS (r := (rInt .i64)) (l := ([u1.Reg] : List Int)) (css := [[.int .i64 u1.Reg]]) hS5 Try.underlying29 Try.sizeOf3 Try.zeroValue3 rfl rfl (by kernel_rfl) rfl ⟨rfl, trivial⟩ rfl rfl fun w6 a4 n3 c4 im6 hS6 => ?_)))))
          obtain ⟨z_1, hro1, hm⟩ := bindS hm
          refine wl rfl (apO (q := 3) (l := x1) (us := ([u1.Reg] : List Int)) hS6 ⟨rfl, rfl⟩ rfl rfl (hS6.own (i := 0) ⟨rfl, rfl⟩).v Try.underlying29 el3 (room_some hro1) fun w7 a5 n4 c5 im7 hS7 => ?_)
          have hS7 : Sep g T3 w7 [ownA (rInt .i64) 3 (.slice a4 n3 c4) ([u1.Reg] : List Int), boxA b2 [.int .i64 u1.Reg, .int .i64 u1.Slot], R, ownA (rInt .i64) 3 (.slice a5 n4 c5) (x1 ++ ([u1.Reg] : List Int))] := hS7
          exact pv (r_zs rfl) (nil (t_blk (t_then ⟨_, _, (x1 ++ ([u1.Reg] : List Int)), _, _, _, env_has ⟨rfl, rfl, rfl, rfl, trivial⟩, (Im.trans im3 (Im.trans im4 (Im.trans im5 (Im.trans im6 im7)))), hS7.sel [3, 2] rfl, hm⟩)))
        · have hm := cfalse hb3 hm
          exact skp (t_blk (t_then ⟨_, _, x1, _, _, _, env_has ⟨rfl, rfl, rfl, rfl, trivial⟩, (Im.trans im3 (Im.trans im4 im5)), hS5.sel [2, 1] rfl, hm⟩))
      · have hm := cfalse hb2 hm
        refine gF (d0 := 15) rfl rfl (by rw [hb2]; rfl) (gF (d0 := 15) rfl rfl (by rw [hb2]; rfl) (gF (d0 := 15) rfl rfl (by rw [hb2]; rfl) (gF (d0 := 15) rfl rfl (by rw [hb2]; rfl) (gF (d0 := 15) rfl rfl (by rw [hb2]; rfl) (pv (r_pkf rfl hb2 rfl) (nil (t_thenR [(3, .slice a2 n1 c2), (5, .pointer (some ⟨b2, 0, none⟩)), (6, .slice a1 (List.length p0) c1), (7, .int .i64 (List.length p0 : Int)), (8, .int .i64 x2), (21, .bool false)] ⟨rfl, rfl, rfl, rfl, rfl, rfl, trivial⟩ fun J => ?_)))))))
        refine cnd (b := false) rfl (fun h => nomatch h) (fun _ => ?_)
        exact skp (t_blk (t_then ⟨_, _, x1, _, _, _, env_has ⟨rfl, rfl, rfl, rfl, trivial⟩, (Im.trans im3 im4), hS4.sel [1, 2] rfl, hm⟩))
    · rintro _ w2 ⟨J, T2, x3, a3, n2, c3, rfl, im2, hS8, hm⟩
      rw [hkk1] at hm
      have hm := Option.some.inj hm
      subst hm
      exact rg (pv (r_ib rfl rfl rfl) (pv (r_mi rfl) (nil (t_then ⟨m1, Nat.lt_succ_self _, _, _, x3, _, _, _, (IntKind.wrap .i64 (x2 + 1)), env_has ⟨rfl, rfl, rfl, rfl, trivial⟩, (Im.trans im1 im2), hS8.sel [0, 1] rfl, hn1⟩))))
  · have hm := cfalse hb1 hm
    have hm := Option.some.inj hm
    subst hm
    have hn1 : _ = Lp.brk _ := hn1
    subst hn1
    have hm := thn_brk hq1
    refine xt (x_then (x_then (x_eq (t_then ?_))))
    refine sq2 ?_
    obtain ⟨y2, hx3, hm⟩ := bindS hm
    refine rg (pv (r_ms rfl) (wl rfl (calS cf19 rfl (slices_Sort_sim (p0 := x1) (hS2.bun [1] [0] rfl)  hx3) rfl fun v2 T4 w8 im8 rv2 => ?_)))
    obtain ⟨rfl, hS9, _⟩ := rv2
    have hS9 : Sep g T4 w8 [R, ownA (rInt .i64) 3 (.slice a2 n1 c2) y2] := hS9.unb
    refine nil (t_thenR [(3, .slice a2 n1 c2)] ⟨rfl, trivial⟩ fun J => ?_)
    refine sq2 ?_
    refine rg (pv (r_ms rfl) (pv (r_zs rfl) (nil (t_then ?_))))
    have hm := Option.some.inj hm
    subst hm
    exact rtn (ret1 rfl rfl ⟨_, rfl, _, (Im.trans im1 im8), ⟨_, _, _, rfl, hS9.sel [0, 1] rfl, trivial⟩⟩)

set_option maxRecDepth 100000 in
set_option maxHeartbeats 1000000 in
theorem irrun_up_sim {g : World} {T0 : Nat → Prop} {w0 : World} {R : Assn} {p0 : Int} {r : Int} (hS : Sep g T0 w0 [R])  (hm : irrun_up p0 = some r) :
    Calls Try.prog 20 #[.int .i64 p0] w0 (RetS T0 w0 fun T w v => v = .int .i64 r ∧ Sep g T w [R] ∧ True) := by
  refine enter (args := [.int .i64 p0]) Try.func20 rfl Try.ntmps20 rfl fun J => ?_
  unfold irrun_up at hm
  refine sq2 ?_
  refine rg (pv (r_zi rfl) (nil (t_then ?_)))
  refine sq2 ?_
  refine rg (pv (r_mi rfl) (pv (r_ib rfl rfl rfl) (pv (r_ib rfl rfl rfl) (pv (r_iq rfl rfl (by decide)) (pv (r_ib rfl rfl rfl) (pv (r_zi rfl) (nil (t_thenR [(2, .int .i64 (IntKind.wrap .i64 ((IntKind.wrap .i64 (Int.tdiv (IntKind.wrap .i64 ((IntKind.wrap .i64 (p0 + 4)) - 1)) 4)) * 4)))] ⟨rfl, trivial⟩ fun J => ?_))))))))
  have hm := Option.some.inj hm
  subst hm
  exact rtn (ret1 rfl rfl ⟨_, rfl, _, Im.refl, ⟨rfl, hS.sel [0] rfl, trivial⟩⟩)

set_option maxRecDepth 100000 in
set_option maxHeartbeats 1000000 in
theorem irrun_Place_sim {g : World} {T0 : Nat → Prop} {w0 : World} {R : Assn} {p0 : List GSlot} {a1 : Option Addr} {c1 : Nat} {r : (List Int) × Int} (hS : Sep g T0 w0 [R]) (h1 : SlR rGSlot T0 w0 (.slice a1 (List.length p0) c1) p0) (hm : irrun_Place p0 = some r) :
    Calls Try.prog 15 #[.slice a1 (List.length p0) c1] w0 (RetS T0 w0 fun T w v => ∃ (a5 : Option Addr) (n4 : Nat) (c5 : Nat), v = .tuple #[.slice a5 n4 c5, .int .i64 r.2] ∧ Sep g T w [R, ownA (rInt .i64) 3 (.slice a5 n4 c5) r.1] ∧ True) := by
  refine enter (args := [.slice a1 (List.length p0) c1]) Try.func15 rfl Try.ntmps15 rfl fun J => ?_
  unfold irrun_Place at hm
  refine sq2 ?_
  refine rg (pv (r_zs rfl) (pv (r_zi rfl) (nil (t_then ?_))))
  refine sq2 ?_
  refine rg (pv (r_zi rfl) (nil (t_then ?_)))
  refine sq2 ?_
  refine rg (pv (r_zs rfl) (nil (t_then ?_)))
  refine sq2 ?_
  refine sq2 ?_
  refine rg (pv (r_ms rfl) (pv (r_ln rfl Try.underlying22) (pv (r_mi rfl) (nil (t_then ?_)))))
  obtain ⟨o1, ho1, hq1⟩ := bindS hm
  obtain ⟨bd1, hbd1, ho1⟩ := loop_open ho1
  have hS1 := hS.nilO (rInt .i64) 3
  refine blk (wp_loop_ghost (fun m a w1 => ∃ (J : Nat → Value) (T1 : Nat → Prop) (x1 : List Int) (a2 : Option Addr) (n1 : Nat) (c2 : Nat) (x2 : Int) (x3 : Int), a = env (nf 26) J [(4, .int .i64 x2), (5, .slice a2 n1 c2), (8, .slice a1 (List.length p0) c1), (9, .int .i64 (List.length p0 : Int)), (10, .int .i64 x3)] ∧ Im T0 w0 T1 w1 ∧ Sep g T1 w1 [ownA (rInt .i64) 3 (.slice a2 n1 c2) x1, R] ∧ loopM bd1 m (x1, x2, x3) = some o1) NN ⟨_, _, [], _, _, _, 0, 0, env_has ⟨rfl, rfl, rfl, rfl, rfl, trivial⟩, Im.refl, hS1.sel [0, 1] rfl, ho1⟩ ?_)
  rintro m _ w1 ⟨J, T1, x1, a2, n1, c2, x2, x3, rfl, im1, hS2, ho1⟩
  obtain ⟨m1, z1, rfl, hm, hn1⟩ := loop_round ho1
  rw [hbd1] at hm
  refine sq2 ?_
  refine rg (pv (r_ib rfl rfl rfl) (nil (t_then ?_)))
  refine sq2 ?_
  refine cnd rfl (fun hb1 => ?_) (fun hb1 => ?_)
  · have hm := ctrue hb1 hm
    refine skp (t_then ?_)
    refine sq2 ?_
    refine blk ?_
    refine sq2 ?_
    obtain ⟨u1, hx1, hm⟩ := bindS hm
    obtain ⟨b1, of1, cs1, k1, cp1, hv1, hp1, hl1, he1, hr1, hc1, hT1⟩ := (h1.mono im1).ixT hx1 rfl
    cases rGSlot_open hr1
    refine rg (pv (r_ixe hv1 rfl Try.underlying22 Try.sizeOf42 hp1 hl1 he1) (pv (r_ldS rfl Try.isAgg42 Try.sizeOf42 rfl hc1 (cs := [.string ⟨u1.Name.toArray⟩, .int .i64 u1.Size, .int .i64 u1.Align, .int .i64 u1.Cell])) (wl rfl (alS (zs := [.string ⟨([] : List UInt8).toArray⟩, .int .i64 0, .int .i64 0, .int .i64 0]) Try.zeroValue42 rfl hS2 fun w2 b2 im2 hS3 => ?_))))
    refine wl rfl (st0B (q := 0) hS3 ⟨rfl, rfl⟩ rfl rfl rfl Try.sizeOf42 rfl rfl rfl fun w3 im3 hS4 => ?_)
    have hS4 : Sep g T1 w3 [boxA b2 [.string ⟨u1.Name.toArray⟩, .int .i64 u1.Size, .int .i64 u1.Align, .int .i64 u1.Cell], ownA (rInt .i64) 3 (.slice a2 n1 c2) x1, R] := hS4
    refine nil (t_then ?_)
    refine sq2 ?_
    refine rg (pv (r_ms rfl) (pv (r_mi rfl) (wl rfl (bsS (r := (rInt .i64)) (l := ([x2] : List Int)) (css := [[.int .i64 x2]]) hS4 Try.underlying29 Try.sizeOf3 Try.zeroValue3 rfl rfl (by kernel_rfl) rfl ⟨rfl, trivial⟩ rfl rfl fun w4 a3 n2 c3 im4 hS5 => ?_))))
    obtain ⟨z_1, hro1, hm⟩ := bindS hm
    refine wl rfl (apO (q := 2) (l := x1) (us := ([x2] : List Int)) hS5 ⟨rfl, rfl⟩ rfl rfl (hS5.own (i := 0) ⟨rfl, rfl⟩).v Try.underlying29 el3 (room_some hro1) fun w5 a4 n3 c4 im5 hS6 => ?_)
    have hS6 : Sep g T1 w5 [ownA (rInt .i64) 3 (.slice a3 n2 c3) ([x2] : List Int), boxA b2 [.string ⟨u1.Name.toArray⟩, .int .i64 u1.Size, .int .i64 u1.Align, .int .i64 u1.Cell], ownA (rInt .i64) 3 (.slice a4 n3 c4) (x1 ++ ([x2] : List Int)), R] := hS6
    refine pv (r_zs rfl) (nil (t_thenR [(4, .int .i64 x2), (5, .slice a4 n3 c4), (7, .pointer (some ⟨b2, 0, none⟩)), (8, .slice a1 (List.length p0) c1), (9, .int .i64 (List.length p0 : Int)), (10, .int .i64 x3)] ⟨rfl, rfl, rfl, rfl, rfl, rfl, trivial⟩ fun J => ?_))
    obtain ⟨y1, hx2, hm⟩ := bindS hm
    refine rg (pv (r_mi rfl) (pv (r_fa rfl Try.underlying42 rfl Try.sizeOf3 rfl) (pv (r_ld rfl Try.isAgg3 (hS6.cell0 (i := 1) ⟨rfl, rfl⟩ (j := 1) rfl)) (pv (r_ib rfl rfl rfl) (wl rfl (calS cf20 rfl (irrun_up_sim (p0 := IntKind.wrap .i64 (x2 + u1.Size)) (hS6.bun [2, 3] [] rfl)  hx2) rfl fun v1 T2 w6 im6 rv1 => ?_))))))
    obtain ⟨rfl, hS7, _⟩ := rv1
    have hS7 : Sep g T2 w6 [ownA (rInt .i64) 3 (.slice a4 n3 c4) (x1 ++ ([x2] : List Int)), R] := hS7.unb
    refine pv (r_zi rfl) (nil (t_blk (t_thenR [(4, .int .i64 y1), (5, .slice a4 n3 c4), (8, .slice a1 (List.length p0) c1), (9, .int .i64 (List.length p0 : Int)), (10, .int .i64 x3)] ⟨rfl, rfl, rfl, rfl, rfl, trivial⟩ fun J => ?_)))
    have hm := Option.some.inj hm
    subst hm
    exact rg (pv (r_ib rfl rfl rfl) (pv (r_mi rfl) (nil (t_then ⟨m1, Nat.lt_succ_self _, _, _, (x1 ++ ([x2] : List Int)), _, _, _, y1, (IntKind.wrap .i64 (x3 + 1)), env_has ⟨rfl, rfl, rfl, rfl, rfl, trivial⟩, (Im.trans im1 (Im.trans im2 (Im.trans im3 (Im.trans im4 (Im.trans im5 im6))))), hS7.sel [0, 1] rfl, hn1⟩))))
  · have hm := cfalse hb1 hm
    have hm := Option.some.inj hm
    subst hm
    have hn1 : _ = Lp.brk _ := hn1
    subst hn1
    have hm := thn_brk hq1
    refine xt (x_then (x_then (x_eq (t_then ?_))))
    refine sq2 ?_
    refine rg (pv (r_ms rfl) (pv (r_mi rfl) (pv (r_zs rfl) (pv (r_zi rfl) (nil (t_thenR [(2, .slice a2 n1 c2), (3, .int .i64 x2)] ⟨rfl, rfl, trivial⟩ fun J => ?_))))))
    have hm := Option.some.inj hm
    subst hm
    exact rtn (retN (vs := [.slice a2 n1 c2, .int .i64 x2]) rfl ⟨rfl, rfl, trivial⟩ rfl ⟨_, rfl, _, im1, ⟨_, _, _, rfl, hS2.sel [1, 0] rfl, trivial⟩⟩)

set_option maxRecDepth 100000 in
set_option maxHeartbeats 1000000 in
theorem frame_Lay_sim {g : World} {T0 : Nat → Prop} {w0 : World} {R : Assn} {p0 : Proc} {a1 : Option Addr} {c1 : Nat} {a2 : Option Addr} {c2 : Nat} {p1 : List Seat} {a3 : Option Addr} {c3 : Nat} {p2 : Int} {r : GFrame × Int} (hS : Sep g T0 w0 [R]) (h1 : SlR rGSlot T0 w0 (.slice a1 (List.length p0.Objects) c1) p0.Objects) (h2 : SlR rGBlock T0 w0 (.slice a2 (List.length p0.Blocks) c2) p0.Blocks) (h3 : SlR rSeat T0 w0 (.slice a3 (List.length p1) c3) p1) (hm : frame_Lay p0 p1 p2 = some r) :
    Calls Try.prog 7 #[.agg #[.string ⟨p0.Name.toArray⟩, .bool p0.Void, .int .i64 p0.Params, .int .i64 p0.Regs, .slice a1 (List.length p0.Objects) c1, .slice a2 (List.length p0.Blocks) c2], .slice a3 (List.length p1) c3, .int .i64 p2] w0 (RetS T0 w0 fun T w v => ∃ (a10 : Option Addr) (c10 : Nat) (a11 : Option Addr) (c11 : Nat), v = .tuple #[.agg #[.int .i64 r.1.Size, .slice a10 (List.length r.1.Saved) c10, .int .i64 r.1.Slots, .slice a11 (List.length r.1.Objects) c11], .int .i64 r.2] ∧ Sep g T w [R] ∧ SlR (rInt .i64) T w (.slice a10 (List.length r.1.Saved) c10) r.1.Saved ∧ SlR (rInt .i64) T w (.slice a11 (List.length r.1.Objects) c11) r.1.Objects ∧ True) := by
  refine enter (args := [.agg #[.string ⟨p0.Name.toArray⟩, .bool p0.Void, .int .i64 p0.Params, .int .i64 p0.Regs, .slice a1 (List.length p0.Objects) c1, .slice a2 (List.length p0.Blocks) c2], .slice a3 (List.length p1) c3, .int .i64 p2]) Try.func7 rfl Try.ntmps7 rfl fun J => ?_
  unfold frame_Lay at hm
  refine sq2 ?_
  refine rg (wl rfl (bxS (cs := [.string ⟨p0.Name.toArray⟩, .bool p0.Void, .int .i64 p0.Params, .int .i64 p0.Regs, .slice a1 (List.length p0.Objects) c1, .slice a2 (List.length p0.Blocks) c2]) rfl rfl hS fun w1 b1 im1 hS1 => ?_))
  refine wl rfl (alS (zs := [.int .i64 0, .slice none 0 0, .int .i64 0, .slice none 0 0]) Try.zeroValue31 rfl hS1 fun w2 b2 im2 hS2 => ?_)
  refine pv (r_zi rfl) (nil (t_then ?_))
  refine sq2 ?_
  refine blk ?_
  refine sq2 ?_
  refine rg (pv (r_mi rfl) (pv (r_ib rfl rfl rfl) (pv (r_mb rfl) (?_))))
  rcases Bool.eq_false_or_eq_true (decide (p2 < 0)) with hb1 | hb1
  · have hm := ctrue hb1 hm
    refine gF (d0 := 19) rfl rfl (by rw [hb1]; rfl) (gF (d0 := 19) rfl rfl (by rw [hb1]; rfl) (gF (d0 := 19) rfl rfl (by rw [hb1]; rfl) (gF (d0 := 19) rfl rfl (by rw [hb1]; rfl) (gF (d0 := 19) rfl rfl (by rw [hb1]; rfl) (pv (r_pkt rfl hb1 rfl) (pv (r_zb rfl) (nil (t_thenR [(1, .slice a3 (List.length p1) c3), (2, .int .i64 p2), (3, .pointer (some ⟨b1, 0, none⟩)), (6, .pointer (some ⟨b2, 0, none⟩)), (16, .bool true)] ⟨rfl, rfl, rfl, rfl, rfl, trivial⟩ fun J => ?_))))))))
    refine cnd (b := true) rfl (fun _ => ?_) (fun h => nomatch h)
    refine sq2 ?_
    refine rg (pv (r_bd (by kernel_rfl) rfl (u := .agg #[.int .i64 0, .slice none 0 0, .int .i64 0, .slice none 0 0])) (wl rfl (st0B (q := 0) hS2 ⟨rfl, rfl⟩ rfl rfl rfl Try.sizeOf31 rfl rfl rfl fun w23 im25 hS26 => ?_)))
    have hS26 : Sep g T0 w23 [boxA b2 [.int .i64 0, .slice none 0 0, .int .i64 0, .slice none 0 0], boxA b1 [.string ⟨p0.Name.toArray⟩, .bool p0.Void, .int .i64 p0.Params, .int .i64 p0.Regs, .slice a1 (List.length p0.Objects) c1, .slice a2 (List.length p0.Blocks) c2], R] := hS26
    refine pv (r_zi rfl) (nil (t_thenR [(6, .pointer (some ⟨b2, 0, none⟩)), (7, .int .i64 1)] ⟨rfl, rfl, trivial⟩ fun J => ?_))
    have hm := Option.some.inj hm
    subst hm
    exact rtn (r_blk (r_then (retN (vs := [.agg #[.int .i64 0, .slice none 0 0, .int .i64 0, .slice none 0 0], .int .i64 1]) rfl ⟨rvS rfl Try.isAgg31 Try.sizeOf31 rfl (hS26.bx (i := 0) ⟨rfl, rfl⟩), rfl, trivial⟩ rfl ⟨_, rfl, _, (Im.trans im1 (Im.trans im2 im25)), ⟨_, _, _, _, rfl, hS26.sel [2] rfl, SlR_nil, SlR_nil, trivial⟩⟩)))
  · have hm := cfalse hb1 hm
    refine gT (d0 := 19) rfl rfl hb1 (pv (r_ms rfl) (gT (d0 := 19) rfl rfl hb1 (pv (r_ln rfl Try.underlying26) (gT (d0 := 19) rfl rfl hb1 (pv (r_fa rfl Try.underlying25 rfl Try.sizeOf3 rfl) (gT (d0 := 19) rfl rfl hb1 (pv (r_ld rfl Try.isAgg3 (hS2.cell0 (i := 1) ⟨rfl, rfl⟩ (j := 3) rfl)) (gT (d0 := 19) rfl rfl hb1 (pv (r_ib rfl rfl rfl) (pv (r_pkf rfl hb1 rfl) (pv (r_zb rfl) (nil (t_thenR [(1, .slice a3 (List.length p1) c3), (2, .int .i64 p2), (3, .pointer (some ⟨b1, 0, none⟩)), (6, .pointer (some ⟨b2, 0, none⟩)), (16, .bool ((List.length p1 : Int) != p0.Regs))] ⟨rfl, rfl, rfl, rfl, rfl, trivial⟩ fun J => ?_)))))))))))))
    refine cnd rfl (fun hb2 => ?_) (fun hb2 => ?_)
    · have hm := ctrue hb2 hm
      refine sq2 ?_
      refine rg (pv (r_bd (by kernel_rfl) rfl (u := .agg #[.int .i64 0, .slice none 0 0, .int .i64 0, .slice none 0 0])) (wl rfl (st0B (q := 0) hS2 ⟨rfl, rfl⟩ rfl rfl rfl Try.sizeOf31 rfl rfl rfl fun w3 im3 hS3 => ?_)))
      have hS3 : Sep g T0 w3 [boxA b2 [.int .i64 0, .slice none 0 0, .int .i64 0, .slice none 0 0], boxA b1 [.string ⟨p0.Name.toArray⟩, .bool p0.Void, .int .i64 p0.Params, .int .i64 p0.Regs, .slice a1 (List.length p0.Objects) c1, .slice a2 (List.length p0.Blocks) c2], R] := hS3
      refine pv (r_zi rfl) (nil (t_thenR [(6, .pointer (some ⟨b2, 0, none⟩)), (7, .int .i64 1)] ⟨rfl, rfl, trivial⟩ fun J => ?_))
      have hm := Option.some.inj hm
      subst hm
      exact rtn (r_blk (r_then (retN (vs := [.agg #[.int .i64 0, .slice none 0 0, .int .i64 0, .slice none 0 0], .int .i64 1]) rfl ⟨rvS rfl Try.isAgg31 Try.sizeOf31 rfl (hS3.bx (i := 0) ⟨rfl, rfl⟩), rfl, trivial⟩ rfl ⟨_, rfl, _, (Im.trans im1 (Im.trans im2 im3)), ⟨_, _, _, _, rfl, hS3.sel [2] rfl, SlR_nil, SlR_nil, trivial⟩⟩)))
    · have hm := cfalse hb2 hm
      refine sq2 ?_
      refine rg (pv (r_mi rfl) (pv (r_ib rfl rfl rfl) (pv (r_zb rfl) (nil (t_then ?_)))))
      refine cnd rfl (fun hb3 => ?_) (fun hb3 => ?_)
      · have hm := ctrue hb3 hm
        refine sq2 ?_
        refine rg (pv (r_bd (by kernel_rfl) rfl (u := .agg #[.int .i64 0, .slice none 0 0, .int .i64 0, .slice none 0 0])) (wl rfl (st0B (q := 0) hS2 ⟨rfl, rfl⟩ rfl rfl rfl Try.sizeOf31 rfl rfl rfl fun w4 im4 hS4 => ?_)))
        have hS4 : Sep g T0 w4 [boxA b2 [.int .i64 0, .slice none 0 0, .int .i64 0, .slice none 0 0], boxA b1 [.string ⟨p0.Name.toArray⟩, .bool p0.Void, .int .i64 p0.Params, .int .i64 p0.Regs, .slice a1 (List.length p0.Objects) c1, .slice a2 (List.length p0.Blocks) c2], R] := hS4
        refine pv (r_zi rfl) (nil (t_thenR [(6, .pointer (some ⟨b2, 0, none⟩)), (7, .int .i64 2)] ⟨rfl, rfl, trivial⟩ fun J => ?_))
        have hm := Option.some.inj hm
        subst hm
        exact rtn (r_blk (r_then (retN (vs := [.agg #[.int .i64 0, .slice none 0 0, .int .i64 0, .slice none 0 0], .int .i64 2]) rfl ⟨rvS rfl Try.isAgg31 Try.sizeOf31 rfl (hS4.bx (i := 0) ⟨rfl, rfl⟩), rfl, trivial⟩ rfl ⟨_, rfl, _, (Im.trans im1 (Im.trans im2 im4)), ⟨_, _, _, _, rfl, hS4.sel [2] rfl, SlR_nil, SlR_nil, trivial⟩⟩)))
      · have hm := cfalse hb3 hm
        refine skp (t_blk (t_then ?_))
        refine sq2 ?_
        refine rg (wl rfl (alS (zs := [.int .i64 0]) Try.zeroValue3 rfl hS2 fun w5 b3 im5 hS5 => ?_))
        refine wl rfl (st0B (q := 0) hS5 ⟨rfl, rfl⟩ rfl rfl rfl Try.sizeOf3 rfl rfl rfl fun w6 im6 hS6 => ?_)
        have hS6 : Sep g T0 w6 [boxA b3 [.int .i64 0], boxA b2 [.int .i64 0, .slice none 0 0, .int .i64 0, .slice none 0 0], boxA b1 [.string ⟨p0.Name.toArray⟩, .bool p0.Void, .int .i64 p0.Params, .int .i64 p0.Regs, .slice a1 (List.length p0.Objects) c1, .slice a2 (List.length p0.Blocks) c2], R] := hS6
        refine nil (t_then ?_)
        refine sq2 ?_
        refine rg (pv (r_mkf (u := .func (.func 13) #[] #[.pointer (some ⟨b3, 0, none⟩)]) rfl) (pv (r_zf rfl) (nil (t_thenR [(1, .slice a3 (List.length p1) c3), (2, .int .i64 p2), (3, .pointer (some ⟨b1, 0, none⟩)), (6, .pointer (some ⟨b2, 0, none⟩)), (8, .pointer (some ⟨b3, 0, none⟩)), (9, .func (.func 13) #[] #[.pointer (some ⟨b3, 0, none⟩)])] ⟨rfl, rfl, rfl, rfl, rfl, rfl, trivial⟩ fun J => ?_))))
        refine sq2 ?_
        obtain ⟨y1, hx1, hm⟩ := bindS hm
        refine rg (pv (r_mf rfl) (wl rfl (calS cf13 rfl (frame_Lay_1_sim (p0 := 4) (p1 := 0) (H_p1 := boxA b3) (hS6.bun [1, 2, 3] [0] rfl) (lnBox b3) hx1) rfl fun v1 T1 w7 im7 rv1 => ?_)))
        obtain ⟨rfl, hS7, _⟩ := rv1
        have hS7 : Sep g T1 w7 [boxA b2 [.int .i64 0, .slice none 0 0, .int .i64 0, .slice none 0 0], boxA b1 [.string ⟨p0.Name.toArray⟩, .bool p0.Void, .int .i64 p0.Params, .int .i64 p0.Regs, .slice a1 (List.length p0.Objects) c1, .slice a2 (List.length p0.Blocks) c2], R, boxA b3 [.int .i64 y1.2]] := hS7.unb
        refine nil (t_then ?_)
        refine sq2 ?_
        obtain ⟨y2, hx2, hm⟩ := bindS hm
        refine rg (pv (r_ms rfl) (wl rfl (calS cf14 rfl (alloc_Given_sim (p0 := p1) (hS7.bun [0, 1, 2, 3] [] rfl) (h3.mono (Im.trans im1 (Im.trans im2 (Im.trans im5 (Im.trans im6 im7))))) hx2) rfl fun v2 T2 w8 im8 rv2 => ?_)))
        obtain ⟨a4, n1, c4, rfl, hS8, _⟩ := rv2
        have hS8 : Sep g T2 w8 [boxA b2 [.int .i64 0, .slice none 0 0, .int .i64 0, .slice none 0 0], boxA b1 [.string ⟨p0.Name.toArray⟩, .bool p0.Void, .int .i64 p0.Params, .int .i64 p0.Regs, .slice a1 (List.length p0.Objects) c1, .slice a2 (List.length p0.Blocks) c2], R, boxA b3 [.int .i64 y1.2], ownA (rInt .i64) 3 (.slice a4 n1 c4) y2] := hS8.unb
        refine pv (r_bd (by kernel_rfl) rfl (u := .agg #[.int .i64 0, .slice a4 n1 c4, .int .i64 0, .slice none 0 0])) (wl rfl (alS (zs := [.int .i64 0, .slice none 0 0, .int .i64 0, .slice none 0 0]) Try.zeroValue31 rfl hS8 fun w9 b4 im9 hS9 => ?_))
        refine wl rfl (st0B (q := 0) hS9 ⟨rfl, rfl⟩ rfl rfl rfl Try.sizeOf31 rfl rfl rfl fun w10 im10 hS10 => ?_)
        have hS10 : Sep g T2 w10 [boxA b4 [.int .i64 0, .slice a4 n1 c4, .int .i64 0, .slice none 0 0], boxA b2 [.int .i64 0, .slice none 0 0, .int .i64 0, .slice none 0 0], boxA b1 [.string ⟨p0.Name.toArray⟩, .bool p0.Void, .int .i64 p0.Params, .int .i64 p0.Regs, .slice a1 (List.length p0.Objects) c1, .slice a2 (List.length p0.Blocks) c2], R, boxA b3 [.int .i64 y1.2], ownA (rInt .i64) 3 (.slice a4 n1 c4) y2] := hS10
        refine nil (t_thenR [(2, .int .i64 p2), (3, .pointer (some ⟨b1, 0, none⟩)), (6, .pointer (some ⟨b2, 0, none⟩)), (8, .pointer (some ⟨b3, 0, none⟩)), (9, .func (.func 13) #[] #[.pointer (some ⟨b3, 0, none⟩)]), (10, .pointer (some ⟨b4, 0, none⟩))] ⟨rfl, rfl, rfl, rfl, rfl, rfl, trivial⟩ fun J => ?_)
        refine sq2 ?_
        obtain ⟨y3, hx3, hm⟩ := bindS hm
        refine rg (pv (r_mf rfl) (pv (r_fa rfl Try.underlying31 rfl Try.sizeOf29 rfl) (pv (r_ld rfl Try.isAgg29 (hS10.cell0 (i := 0) ⟨rfl, rfl⟩ (j := 1) rfl)) (pv (r_lnV rfl (hS10.own (i := 5) ⟨rfl, rfl⟩).v Try.underlying29) (pv (r_ib rfl rfl rfl) (wl rfl (calS cf13 rfl (frame_Lay_1_sim (p0 := IntKind.wrap .i64 (4 * (List.length y2 : Int))) (p1 := y1.2) (H_p1 := boxA b3) (hS10.bun [0, 1, 2, 3, 5] [4] rfl) (lnBox b3) hx3) rfl fun v3 T3 w11 im11 rv3 => ?_)))))))
        obtain ⟨rfl, hS11, _⟩ := rv3
        have hS11 : Sep g T3 w11 [boxA b4 [.int .i64 0, .slice a4 n1 c4, .int .i64 0, .slice none 0 0], boxA b2 [.int .i64 0, .slice none 0 0, .int .i64 0, .slice none 0 0], boxA b1 [.string ⟨p0.Name.toArray⟩, .bool p0.Void, .int .i64 p0.Params, .int .i64 p0.Regs, .slice a1 (List.length p0.Objects) c1, .slice a2 (List.length p0.Blocks) c2], R, ownA (rInt .i64) 3 (.slice a4 n1 c4) y2, boxA b3 [.int .i64 y3.2]] := hS11.unb
        refine nil (t_thenR [(2, .int .i64 p2), (3, .pointer (some ⟨b1, 0, none⟩)), (6, .pointer (some ⟨b2, 0, none⟩)), (8, .pointer (some ⟨b3, 0, none⟩)), (9, .func (.func 13) #[] #[.pointer (some ⟨b3, 0, none⟩)]), (10, .pointer (some ⟨b4, 0, none⟩))] ⟨rfl, rfl, rfl, rfl, rfl, rfl, trivial⟩ fun J => ?_)
        refine sq2 ?_
        obtain ⟨y4, hx4, hm⟩ := bindS hm
        refine rg (pv (r_mf rfl) (pv (r_mi rfl) (pv (r_ib rfl rfl rfl) (wl rfl (calS cf13 rfl (frame_Lay_1_sim (p0 := IntKind.wrap .i64 (4 * p2)) (p1 := y3.2) (H_p1 := boxA b3) (hS11.bun [0, 1, 2, 3, 4] [5] rfl) (lnBox b3) hx4) rfl fun v4 T4 w12 im12 rv4 => ?_)))))
        obtain ⟨rfl, hS12, _⟩ := rv4
        have hS12 : Sep g T4 w12 [boxA b4 [.int .i64 0, .slice a4 n1 c4, .int .i64 0, .slice none 0 0], boxA b2 [.int .i64 0, .slice none 0 0, .int .i64 0, .slice none 0 0], boxA b1 [.string ⟨p0.Name.toArray⟩, .bool p0.Void, .int .i64 p0.Params, .int .i64 p0.Regs, .slice a1 (List.length p0.Objects) c1, .slice a2 (List.length p0.Blocks) c2], R, ownA (rInt .i64) 3 (.slice a4 n1 c4) y2, boxA b3 [.int .i64 y4.2]] := hS12.unb
        refine pv (r_fa rfl Try.underlying31 rfl Try.sizeOf3 rfl) (wl rfl (st0B (q := 0) hS12 ⟨rfl, rfl⟩ rfl rfl rfl Try.sizeOf3 rfl rfl rfl fun w13 im13 hS13 => ?_))
        have hS13 : Sep g T4 w13 [boxA b4 [.int .i64 0, .slice a4 n1 c4, .int .i64 y4.1, .slice none 0 0], boxA b2 [.int .i64 0, .slice none 0 0, .int .i64 0, .slice none 0 0], boxA b1 [.string ⟨p0.Name.toArray⟩, .bool p0.Void, .int .i64 p0.Params, .int .i64 p0.Regs, .slice a1 (List.length p0.Objects) c1, .slice a2 (List.length p0.Blocks) c2], R, ownA (rInt .i64) 3 (.slice a4 n1 c4) y2, boxA b3 [.int .i64 y4.2]] := hS13
        refine nil (t_thenR [(3, .pointer (some ⟨b1, 0, none⟩)), (6, .pointer (some ⟨b2, 0, none⟩)), (8, .pointer (some ⟨b3, 0, none⟩)), (9, .func (.func 13) #[] #[.pointer (some ⟨b3, 0, none⟩)]), (10, .pointer (some ⟨b4, 0, none⟩))] ⟨rfl, rfl, rfl, rfl, rfl, trivial⟩ fun J => ?_)
        refine sq2 ?_
        obtain ⟨y5, hx5, hm⟩ := bindS hm
        refine rg (pv (r_fa rfl Try.underlying25 rfl Try.sizeOf22 rfl) (pv (r_ld rfl Try.isAgg22 (hS13.cell0 (i := 2) ⟨rfl, rfl⟩ (j := 4) rfl)) (wl rfl (calS cf15 rfl (irrun_Place_sim (p0 := p0.Objects) (hS13.bun [0, 1, 3, 4, 5] [] rfl) (h1.mono (Im.trans im1 (Im.trans im2 (Im.trans im5 (Im.trans im6 (Im.trans im7 (Im.trans im8 (Im.trans im9 (Im.trans im10 (Im.trans im11 (Im.trans im12 im13))))))))))) hx5) rfl fun v5 T5 w14 im14 rv5 => ?_))))
        obtain ⟨a5, n2, c5, rfl, hS14, _⟩ := rv5
        have hS14 : Sep g T5 w14 [boxA b4 [.int .i64 0, .slice a4 n1 c4, .int .i64 y4.1, .slice none 0 0], boxA b2 [.int .i64 0, .slice none 0 0, .int .i64 0, .slice none 0 0], R, ownA (rInt .i64) 3 (.slice a4 n1 c4) y2, boxA b3 [.int .i64 y4.2], ownA (rInt .i64) 3 (.slice a5 n2 c5) y5.1] := hS14.unb
        refine pv (r_mv rfl) (pv (r_ex (v := .slice a5 n2 c5) rfl rfl) (pv (r_ex (v := .int .i64 y5.2) rfl rfl) (pv (r_zs rfl) (pv (r_zi rfl) (nil (t_thenR [(6, .pointer (some ⟨b2, 0, none⟩)), (8, .pointer (some ⟨b3, 0, none⟩)), (9, .func (.func 13) #[] #[.pointer (some ⟨b3, 0, none⟩)]), (10, .pointer (some ⟨b4, 0, none⟩)), (11, .slice a5 n2 c5), (12, .int .i64 y5.2)] ⟨rfl, rfl, rfl, rfl, rfl, rfl, trivial⟩ fun J => ?_))))))
        refine sq2 ?_
        obtain ⟨y6, hx6, hm⟩ := bindS hm
        refine rg (pv (r_mf rfl) (pv (r_mi rfl) (wl rfl (calS cf13 rfl (frame_Lay_1_sim (p0 := y5.2) (p1 := y4.2) (H_p1 := boxA b3) (hS14.bun [0, 1, 2, 3, 5] [4] rfl) (lnBox b3) hx6) rfl fun v6 T6 w15 im15 rv6 => ?_))))
        obtain ⟨rfl, hS15, _⟩ := rv6
        have hS15 : Sep g T6 w15 [boxA b4 [.int .i64 0, .slice a4 n1 c4, .int .i64 y4.1, .slice none 0 0], boxA b2 [.int .i64 0, .slice none 0 0, .int .i64 0, .slice none 0 0], R, ownA (rInt .i64) 3 (.slice a4 n1 c4) y2, ownA (rInt .i64) 3 (.slice a5 n2 c5) y5.1, boxA b3 [.int .i64 y6.2]] := hS15.unb
        refine pv (r_zi rfl) (nil (t_thenR [(6, .pointer (some ⟨b2, 0, none⟩)), (8, .pointer (some ⟨b3, 0, none⟩)), (10, .pointer (some ⟨b4, 0, none⟩)), (11, .slice a5 n2 c5), (13, .int .i64 y6.1)] ⟨rfl, rfl, rfl, rfl, rfl, trivial⟩ fun J => ?_))
        refine sq2 ?_
        refine sq2 ?_
        refine rg (pv (r_ms rfl) (pv (r_lnV rfl (hS15.own (i := 4) ⟨rfl, rfl⟩).v Try.underlying29) (pv (r_mi rfl) (nil (t_then ?_)))))
        obtain ⟨o1, ho1, hq1⟩ := bindS hm
        obtain ⟨bd1, hbd1, ho1⟩ := loop_open ho1
        have hS16 := hS15.nilO (rInt .i64) 3
        refine blk (wp_loop_ghost (fun m a w16 => ∃ (J : Nat → Value) (T7 : Nat → Prop) (x4 : GFrame) (a6 : Option Addr) (n3 : Nat) (c6 : Nat) (a7 : Option Addr) (n4 : Nat) (c7 : Nat) (x3 : Int), a = env (nf 79) J [(6, .pointer (some ⟨b2, 0, none⟩)), (8, .pointer (some ⟨b3, 0, none⟩)), (10, .pointer (some ⟨b4, 0, none⟩)), (13, .int .i64 y6.1), (57, .slice a5 n2 c5), (58, .int .i64 (List.length y5.1 : Int)), (59, .int .i64 x3)] ∧ Im T6 w15 T7 w16 ∧ Sep g T7 w16 [ownA (rInt .i64) 3 (.slice a6 n3 c6) x4.Objects, boxA b4 [.int .i64 x4.Size, .slice a7 n4 c7, .int .i64 x4.Slots, .slice a6 n3 c6], boxA b2 [.int .i64 0, .slice none 0 0, .int .i64 0, .slice none 0 0], R, ownA (rInt .i64) 3 (.slice a7 n4 c7) x4.Saved, ownA (rInt .i64) 3 (.slice a5 n2 c5) y5.1, boxA b3 [.int .i64 y6.2]] ∧ loopM bd1 m (x3, x4) = some o1) NN ⟨_, _, (⟨0, y2, y4.1, []⟩ : GFrame), _, _, _, _, _, _, 0, env_has ⟨rfl, rfl, rfl, rfl, rfl, rfl, rfl, trivial⟩, Im.refl, hS16.sel [0, 1, 2, 3, 4, 5, 6] rfl, ho1⟩ ?_)
        rintro m _ w16 ⟨J, T7, x4, a6, n3, c6, a7, n4, c7, x3, rfl, im16, hS17, ho1⟩
        obtain ⟨m1, z1, rfl, hm, hn1⟩ := loop_round ho1
        rw [hbd1] at hm
        refine sq2 ?_
        refine rg (pv (r_ib rfl rfl rfl) (nil (t_then ?_)))
        refine sq2 ?_
        refine cnd rfl (fun hb4 => ?_) (fun hb4 => ?_)
        · have hm := ctrue hb4 hm
          refine skp (t_then ?_)
          refine sq2 ?_
          refine blk ?_
          refine sq2 ?_
          obtain ⟨u1, hx7, hm⟩ := bindS hm
          obtain ⟨b5, of1, cs1, k1, cp1, hv1, hp1, hl1, he1, hr1, hc1⟩ := (hS17.own (i := 5) ⟨rfl, rfl⟩).v.ixq hx7 rfl
          cases hr1
          refine rg (pv (r_ixe hv1 rfl Try.underlying29 Try.sizeOf3 hp1 hl1 he1) (pv (r_ld rfl Try.isAgg3 (hc1.get (j := 0) rfl)) (pv (r_zi rfl) (nil (t_then ?_)))))
          refine rg (pv (r_fa rfl Try.underlying31 rfl Try.sizeOf29 rfl) (pv (r_ld rfl Try.isAgg29 (hS17.cell0 (i := 1) ⟨rfl, rfl⟩ (j := 3) rfl)) (pv (r_mi rfl) (pv (r_mi rfl) (pv (r_ib rfl rfl rfl) (wl rfl (bsS (r := (rInt .i64)) (l := ([IntKind.wrap .i64 (y6.1 + u1)] : List Int)) (css := [[.int .i64 (IntKind.wrap .i64 (y6.1 + u1))]]) hS17 Try.underlying29 Try.sizeOf3 Try.zeroValue3 rfl rfl (by kernel_rfl) rfl ⟨rfl, trivial⟩ rfl rfl fun w17 a8 n5 c8 im17 hS18 => ?_)))))))
          obtain ⟨z_1, hro1, hm⟩ := bindS hm
          refine wl rfl (apO (q := 1) (l := x4.Objects) (us := ([IntKind.wrap .i64 (y6.1 + u1)] : List Int)) hS18 ⟨rfl, rfl⟩ rfl rfl (hS18.own (i := 0) ⟨rfl, rfl⟩).v Try.underlying29 el3 (room_some hro1) fun w18 a9 n6 c9 im18 hS19 => ?_)
          have hS19 : Sep g T7 w18 [ownA (rInt .i64) 3 (.slice a8 n5 c8) ([IntKind.wrap .i64 (y6.1 + u1)] : List Int), ownA (rInt .i64) 3 (.slice a9 n6 c9) (x4.Objects ++ ([IntKind.wrap .i64 (y6.1 + u1)] : List Int)), boxA b4 [.int .i64 x4.Size, .slice a7 n4 c7, .int .i64 x4.Slots, .slice a6 n3 c6], boxA b2 [.int .i64 0, .slice none 0 0, .int .i64 0, .slice none 0 0], R, ownA (rInt .i64) 3 (.slice a7 n4 c7) x4.Saved, ownA (rInt .i64) 3 (.slice a5 n2 c5) y5.1, boxA b3 [.int .i64 y6.2]] := hS19
          refine pv (r_fa rfl Try.underlying31 rfl Try.sizeOf29 rfl) (wl rfl (st0B (q := 2) hS19 ⟨rfl, rfl⟩ rfl rfl rfl Try.sizeOf29 rfl rfl rfl fun w19 im19 hS20 => ?_))
          have hS20 : Sep g T7 w19 [ownA (rInt .i64) 3 (.slice a8 n5 c8) ([IntKind.wrap .i64 (y6.1 + u1)] : List Int), ownA (rInt .i64) 3 (.slice a9 n6 c9) (x4.Objects ++ ([IntKind.wrap .i64 (y6.1 + u1)] : List Int)), boxA b4 [.int .i64 x4.Size, .slice a7 n4 c7, .int .i64 x4.Slots, .slice a9 n6 c9], boxA b2 [.int .i64 0, .slice none 0 0, .int .i64 0, .slice none 0 0], R, ownA (rInt .i64) 3 (.slice a7 n4 c7) x4.Saved, ownA (rInt .i64) 3 (.slice a5 n2 c5) y5.1, boxA b3 [.int .i64 y6.2]] := hS20
          refine nil (t_blk (t_thenR [(6, .pointer (some ⟨b2, 0, none⟩)), (8, .pointer (some ⟨b3, 0, none⟩)), (10, .pointer (some ⟨b4, 0, none⟩)), (13, .int .i64 y6.1), (57, .slice a5 n2 c5), (58, .int .i64 (List.length y5.1 : Int)), (59, .int .i64 x3)] ⟨rfl, rfl, rfl, rfl, rfl, rfl, rfl, trivial⟩ fun J => ?_))
          have hm := Option.some.inj hm
          subst hm
          exact rg (pv (r_ib rfl rfl rfl) (pv (r_mi rfl) (nil (t_then ⟨m1, Nat.lt_succ_self _, _, _, ({ x4 with Objects := x4.Objects ++ ([IntKind.wrap .i64 (y6.1 + u1)] : List Int) }), _, _, _, _, _, _, (IntKind.wrap .i64 (x3 + 1)), env_has ⟨rfl, rfl, rfl, rfl, rfl, rfl, rfl, trivial⟩, (Im.trans im16 (Im.trans im17 (Im.trans im18 im19))), hS20.sel [1, 2, 3, 4, 5, 6, 7] rfl, hn1⟩))))
        · have hm := cfalse hb4 hm
          have hm := Option.some.inj hm
          subst hm
          have hn1 : _ = Lp.brk _ := hn1
          subst hn1
          have hm := thn_brk hq1
          refine xt (x_then (x_then (x_eq (t_thenR [(6, .pointer (some ⟨b2, 0, none⟩)), (8, .pointer (some ⟨b3, 0, none⟩)), (10, .pointer (some ⟨b4, 0, none⟩))] ⟨rfl, rfl, rfl, trivial⟩ fun J => ?_))))
          refine sq2 ?_
          refine rg (pv (r_ld rfl Try.isAgg3 (hS17.cell0 (i := 6) ⟨rfl, rfl⟩ (j := 0) rfl)) (pv (r_fa rfl Try.underlying31 rfl Try.sizeOf3 rfl) (wl rfl (st0B (q := 1) hS17 ⟨rfl, rfl⟩ rfl rfl rfl Try.sizeOf3 rfl rfl rfl fun w20 im20 hS21 => ?_))))
          have hS21 : Sep g T7 w20 [ownA (rInt .i64) 3 (.slice a6 n3 c6) x4.Objects, boxA b4 [.int .i64 y6.2, .slice a7 n4 c7, .int .i64 x4.Slots, .slice a6 n3 c6], boxA b2 [.int .i64 0, .slice none 0 0, .int .i64 0, .slice none 0 0], R, ownA (rInt .i64) 3 (.slice a7 n4 c7) x4.Saved, ownA (rInt .i64) 3 (.slice a5 n2 c5) y5.1, boxA b3 [.int .i64 y6.2]] := hS21
          refine nil (t_then ?_)
          refine sq2 ?_
          refine sq2 ?_
          refine rg (pv (r_fa rfl Try.underlying31 rfl Try.sizeOf3 rfl) (pv (r_ld rfl Try.isAgg3 (hS21.cell0 (i := 1) ⟨rfl, rfl⟩ (j := 0) rfl)) (pv (r_ib rfl rfl rfl) (nil (t_thenR [(6, .pointer (some ⟨b2, 0, none⟩)), (10, .pointer (some ⟨b4, 0, none⟩)), (76, .bool (decide (2000 < y6.2)))] ⟨rfl, rfl, rfl, trivial⟩ fun J => ?_)))))
          refine cnd rfl (fun hb5 => ?_) (fun hb5 => ?_)
          · have hm := ctrue hb5 hm
            refine sq2 ?_
            refine rg (pv (r_bd (by kernel_rfl) rfl (u := .agg #[.int .i64 0, .slice none 0 0, .int .i64 0, .slice none 0 0])) (wl rfl (st0B (q := 2) hS21 ⟨rfl, rfl⟩ rfl rfl rfl Try.sizeOf31 rfl rfl rfl fun w21 im21 hS22 => ?_)))
            have hS22 : Sep g T7 w21 [ownA (rInt .i64) 3 (.slice a6 n3 c6) x4.Objects, boxA b4 [.int .i64 y6.2, .slice a7 n4 c7, .int .i64 x4.Slots, .slice a6 n3 c6], boxA b2 [.int .i64 0, .slice none 0 0, .int .i64 0, .slice none 0 0], R, ownA (rInt .i64) 3 (.slice a7 n4 c7) x4.Saved, ownA (rInt .i64) 3 (.slice a5 n2 c5) y5.1, boxA b3 [.int .i64 y6.2]] := hS22
            refine pv (r_zi rfl) (nil (t_then ?_))
            have hm := Option.some.inj hm
            subst hm
            exact rtn (r_then (retN (vs := [.agg #[.int .i64 0, .slice none 0 0, .int .i64 0, .slice none 0 0], .int .i64 2]) rfl ⟨rvS rfl Try.isAgg31 Try.sizeOf31 rfl (hS22.bx (i := 2) ⟨rfl, rfl⟩), rfl, trivial⟩ rfl ⟨_, rfl, _, (Im.trans im1 (Im.trans im2 (Im.trans im5 (Im.trans im6 (Im.trans im7 (Im.trans im8 (Im.trans im9 (Im.trans im10 (Im.trans im11 (Im.trans im12 (Im.trans im13 (Im.trans im14 (Im.trans im15 (Im.trans im16 (Im.trans im20 im21))))))))))))))), ⟨_, _, _, _, rfl, hS22.sel [3] rfl, SlR_nil, SlR_nil, trivial⟩⟩))
          · have hm := cfalse hb5 hm
            refine skp (t_then ?_)
            refine sq2 ?_
            refine rg (pv (r_ldS rfl Try.isAgg31 Try.sizeOf31 rfl (hS21.cells0 (i := 1) ⟨rfl, rfl⟩ (o := 0) rfl) (cs := [.int .i64 y6.2, .slice a7 n4 c7, .int .i64 x4.Slots, .slice a6 n3 c6])) (wl rfl (st0B (q := 2) hS21 ⟨rfl, rfl⟩ rfl rfl rfl Try.sizeOf31 rfl rfl rfl fun w22 im22 hS23 => ?_)))
            have hS23 : Sep g T7 w22 [ownA (rInt .i64) 3 (.slice a6 n3 c6) x4.Objects, boxA b4 [.int .i64 y6.2, .slice a7 n4 c7, .int .i64 x4.Slots, .slice a6 n3 c6], boxA b2 [.int .i64 y6.2, .slice a7 n4 c7, .int .i64 x4.Slots, .slice a6 n3 c6], R, ownA (rInt .i64) 3 (.slice a7 n4 c7) x4.Saved, ownA (rInt .i64) 3 (.slice a5 n2 c5) y5.1, boxA b3 [.int .i64 y6.2]] := hS23
            refine pv (r_zi rfl) (nil (t_then ?_))
            obtain ⟨T8, im23, hS24, h4⟩ := hS23.seal 4 ⟨rfl, rfl⟩
            have hsh := h4.len
            subst hsh
            have hS24 : Sep g T8 w22 [ownA (rInt .i64) 3 (.slice a6 n3 c6) x4.Objects, boxA b4 [.int .i64 y6.2, .slice a7 (List.length x4.Saved) c7, .int .i64 x4.Slots, .slice a6 n3 c6], boxA b2 [.int .i64 y6.2, .slice a7 (List.length x4.Saved) c7, .int .i64 x4.Slots, .slice a6 n3 c6], R, empA, ownA (rInt .i64) 3 (.slice a5 n2 c5) y5.1, boxA b3 [.int .i64 y6.2]] := hS24
            obtain ⟨T9, im24, hS25, h5⟩ := hS24.seal 0 ⟨rfl, rfl⟩
            have hsh := h5.len
            subst hsh
            have hS25 : Sep g T9 w22 [empA, boxA b4 [.int .i64 y6.2, .slice a7 (List.length x4.Saved) c7, .int .i64 x4.Slots, .slice a6 (List.length x4.Objects) c6], boxA b2 [.int .i64 y6.2, .slice a7 (List.length x4.Saved) c7, .int .i64 x4.Slots, .slice a6 (List.length x4.Objects) c6], R, empA, ownA (rInt .i64) 3 (.slice a5 n2 c5) y5.1, boxA b3 [.int .i64 y6.2]] := hS25
            have hm := Option.some.inj hm
            subst hm
            exact rtn (retN (vs := [.agg #[.int .i64 y6.2, .slice a7 (List.length x4.Saved) c7, .int .i64 x4.Slots, .slice a6 (List.length x4.Objects) c6], .int .i64 0]) rfl ⟨rvS rfl Try.isAgg31 Try.sizeOf31 rfl (hS25.bx (i := 2) ⟨rfl, rfl⟩), rfl, trivial⟩ rfl ⟨_, rfl, _, (Im.trans im1 (Im.trans im2 (Im.trans im5 (Im.trans im6 (Im.trans im7 (Im.trans im8 (Im.trans im9 (Im.trans im10 (Im.trans im11 (Im.trans im12 (Im.trans im13 (Im.trans im14 (Im.trans im15 (Im.trans im16 (Im.trans im20 (Im.trans im22 (Im.trans im23 im24))))))))))))))))), ⟨_, _, _, _, rfl, hS25.sel [3] rfl, (h4.mono im24), h5, trivial⟩⟩)

set_option maxRecDepth 100000 in
set_option maxHeartbeats 1000000 in
theorem frame_Kept_sim {g : World} {T0 : Nat → Prop} {w0 : World} {R : Assn} {p0 : GFrame} {a1 : Option Addr} {c1 : Nat} {a2 : Option Addr} {c2 : Nat} {p1 : Int} {r : Int} (hS : Sep g T0 w0 [R]) (h1 : SlR (rInt .i64) T0 w0 (.slice a1 (List.length p0.Saved) c1) p0.Saved) (h2 : SlR (rInt .i64) T0 w0 (.slice a2 (List.length p0.Objects) c2) p0.Objects) (hm : frame_Kept p0 p1 = some r) :
    Calls Try.prog 10 #[.agg #[.int .i64 p0.Size, .slice a1 (List.length p0.Saved) c1, .int .i64 p0.Slots, .slice a2 (List.length p0.Objects) c2], .int .i64 p1] w0 (RetS T0 w0 fun T w v => v = .int .i64 r ∧ Sep g T w [R] ∧ True) := by
  refine enter (args := [.agg #[.int .i64 p0.Size, .slice a1 (List.length p0.Saved) c1, .int .i64 p0.Slots, .slice a2 (List.length p0.Objects) c2], .int .i64 p1]) Try.func10 rfl Try.ntmps10 rfl fun J => ?_
  unfold frame_Kept at hm
  refine sq2 ?_
  refine rg (wl rfl (bxS (cs := [.int .i64 p0.Size, .slice a1 (List.length p0.Saved) c1, .int .i64 p0.Slots, .slice a2 (List.length p0.Objects) c2]) rfl rfl hS fun w1 b1 im1 hS1 => ?_))
  refine pv (r_zi rfl) (nil (t_then ?_))
  refine sq2 ?_
  refine rg (pv (r_mi rfl) (pv (r_ib rfl rfl rfl) (pv (r_ib rfl rfl rfl) (pv (r_zi rfl) (nil (t_thenR [(4, .int .i64 (IntKind.wrap .i64 (4 * (IntKind.wrap .i64 (p1 + 1)))))] ⟨rfl, trivial⟩ fun J => ?_))))))
  have hm := Option.some.inj hm
  subst hm
  exact rtn (ret1 rfl rfl ⟨_, rfl, _, im1, ⟨rfl, hS1.sel [1] rfl, trivial⟩⟩)

set_option maxRecDepth 100000 in
set_option maxHeartbeats 1000000 in
theorem frame_Slot_sim {g : World} {T0 : Nat → Prop} {w0 : World} {R : Assn} {p0 : GFrame} {a1 : Option Addr} {c1 : Nat} {a2 : Option Addr} {c2 : Nat} {p1 : Int} {r : Int} (hS : Sep g T0 w0 [R]) (h1 : SlR (rInt .i64) T0 w0 (.slice a1 (List.length p0.Saved) c1) p0.Saved) (h2 : SlR (rInt .i64) T0 w0 (.slice a2 (List.length p0.Objects) c2) p0.Objects) (hm : frame_Slot p0 p1 = some r) :
    Calls Try.prog 11 #[.agg #[.int .i64 p0.Size, .slice a1 (List.length p0.Saved) c1, .int .i64 p0.Slots, .slice a2 (List.length p0.Objects) c2], .int .i64 p1] w0 (RetS T0 w0 fun T w v => v = .int .i64 r ∧ Sep g T w [R] ∧ True) := by
  refine enter (args := [.agg #[.int .i64 p0.Size, .slice a1 (List.length p0.Saved) c1, .int .i64 p0.Slots, .slice a2 (List.length p0.Objects) c2], .int .i64 p1]) Try.func11 rfl Try.ntmps11 rfl fun J => ?_
  unfold frame_Slot at hm
  refine sq2 ?_
  refine rg (wl rfl (bxS (cs := [.int .i64 p0.Size, .slice a1 (List.length p0.Saved) c1, .int .i64 p0.Slots, .slice a2 (List.length p0.Objects) c2]) rfl rfl hS fun w1 b1 im1 hS1 => ?_))
  refine pv (r_zi rfl) (nil (t_then ?_))
  refine sq2 ?_
  refine rg (pv (r_fa rfl Try.underlying31 rfl Try.sizeOf3 rfl) (pv (r_ld rfl Try.isAgg3 (hS1.cell0 (i := 0) ⟨rfl, rfl⟩ (j := 2) rfl)) (pv (r_mi rfl) (pv (r_ib rfl rfl rfl) (pv (r_ib rfl rfl rfl) (pv (r_zi rfl) (nil (t_thenR [(4, .int .i64 (IntKind.wrap .i64 (p0.Slots + (IntKind.wrap .i64 (4 * p1)))))] ⟨rfl, trivial⟩ fun J => ?_))))))))
  have hm := Option.some.inj hm
  subst hm
  exact rtn (ret1 rfl rfl ⟨_, rfl, _, im1, ⟨rfl, hS1.sel [1] rfl, trivial⟩⟩)

set_option maxRecDepth 100000 in
set_option maxHeartbeats 1000000 in
theorem law25_awake_sim {g : World} {T0 : Nat → Prop} {w0 : World} {R : Assn}  {r : Bool} (hS : Sep g T0 w0 [R])  (hm : law25_awake = some r) :
    Calls Try.prog 6 #[] w0 (RetS T0 w0 fun T w v => v = .bool r ∧ Sep g T w [R] ∧ True) := by
  refine enter (args := []) Try.func6 rfl Try.ntmps6 rfl fun J => ?_
  unfold law25_awake at hm
  refine sq2 ?_
  refine rg (pv (r_zb rfl) (nil (t_then ?_)))
  refine sq2 ?_
  refine rg (pv (r_bd (by kernel_rfl) rfl (u := .agg #[.string ⟨([] : List UInt8).toArray⟩, .int .i64 5, .int .i64 1, .int .i64 0])) (wl rfl (bsS (r := rGSlot) (l := ([(⟨([] : List UInt8), 5, 1, 0⟩ : GSlot)] : List GSlot)) (css := [[.string ⟨([] : List UInt8).toArray⟩, .int .i64 5, .int .i64 1, .int .i64 0]]) hS Try.underlying22 Try.sizeOf42 Try.zeroValue42 rfl rfl (by kernel_rfl) rfl ⟨(rGSlot_mk (x := (⟨([] : List UInt8), 5, 1, 0⟩ : GSlot))  : rGSlot.rp _ _ _ _), trivial⟩ rfl rfl fun w1 a1 n1 c1 im1 hS1 => ?_)))
  refine pv (r_bd (by kernel_rfl) rfl (u := .agg #[.string ⟨([] : List UInt8).toArray⟩, .bool false, .int .i64 0, .int .i64 3, .slice a1 n1 c1, .slice none 0 0])) (wl rfl (alS (zs := [.string ⟨([] : List UInt8).toArray⟩, .bool false, .int .i64 0, .int .i64 0, .slice none 0 0, .slice none 0 0]) Try.zeroValue25 rfl hS1 fun w2 b1 im2 hS2 => ?_))
  refine wl rfl (st0B (q := 0) hS2 ⟨rfl, rfl⟩ rfl rfl rfl Try.sizeOf25 rfl rfl rfl fun w3 im3 hS3 => ?_)
  have hS3 : Sep g T0 w3 [boxA b1 [.string ⟨([] : List UInt8).toArray⟩, .bool false, .int .i64 0, .int .i64 3, .slice a1 n1 c1, .slice none 0 0], ownA rGSlot 42 (.slice a1 n1 c1) ([(⟨([] : List UInt8), 5, 1, 0⟩ : GSlot)] : List GSlot), R] := hS3
  refine nil (t_then ?_)
  refine sq2 ?_
  refine rg (pv (r_ldS rfl Try.isAgg25 Try.sizeOf25 rfl (hS3.cells0 (i := 0) ⟨rfl, rfl⟩ (o := 0) rfl) (cs := [.string ⟨([] : List UInt8).toArray⟩, .bool false, .int .i64 0, .int .i64 3, .slice a1 n1 c1, .slice none 0 0])) (pv (r_bd (by kernel_rfl) rfl (u := .agg #[.int .i64 9, .int .i64 (-1)])) (pv (r_bd (by kernel_rfl) rfl (u := .agg #[.int .i64 8, .int .i64 (-1)])) (pv (r_bd (by kernel_rfl) rfl (u := .agg #[.int .i64 0, .int .i64 0])) (wl rfl (bsS (r := rSeat) (l := ([(⟨9, (-1)⟩ : Seat), (⟨8, (-1)⟩ : Seat), (⟨0, 0⟩ : Seat)] : List Seat)) (css := [[.int .i64 9, .int .i64 (-1)], [.int .i64 8, .int .i64 (-1)], [.int .i64 0, .int .i64 0]]) hS3 Try.underlying26 Try.sizeOf44 Try.zeroValue44 rfl rfl (by kernel_rfl) rfl ⟨(rSeat_mk (x := (⟨9, (-1)⟩ : Seat))  : rSeat.rp _ _ _ _), (rSeat_mk (x := (⟨8, (-1)⟩ : Seat))  : rSeat.rp _ _ _ _), (rSeat_mk (x := (⟨0, 0⟩ : Seat))  : rSeat.rp _ _ _ _), trivial⟩ rfl rfl fun w4 a2 n2 c2 im4 hS4 => ?_))))))
  obtain ⟨T1, im5, hS5, h1⟩ := hS4.seal 2 ⟨rfl, rfl⟩
  have hsh := h1.len
  subst hsh
  have hS5 : Sep g T1 w4 [ownA rSeat 44 (.slice a2 n2 c2) ([(⟨9, (-1)⟩ : Seat), (⟨8, (-1)⟩ : Seat), (⟨0, 0⟩ : Seat)] : List Seat), boxA b1 [.string ⟨([] : List UInt8).toArray⟩, .bool false, .int .i64 0, .int .i64 3, .slice a1 (List.length ([(⟨([] : List UInt8), 5, 1, 0⟩ : GSlot)] : List GSlot)) c1, .slice none 0 0], empA, R] := hS5
  obtain ⟨T2, im6, hS6, h2⟩ := hS5.seal 0 ⟨rfl, rfl⟩
  have hsh := h2.len
  subst hsh
  have hS6 : Sep g T2 w4 [empA, boxA b1 [.string ⟨([] : List UInt8).toArray⟩, .bool false, .int .i64 0, .int .i64 3, .slice a1 (List.length ([(⟨([] : List UInt8), 5, 1, 0⟩ : GSlot)] : List GSlot)) c1, .slice none 0 0], empA, R] := hS6
  obtain ⟨y1, hx1, hm⟩ := bindS hm
  refine wl rfl (calS cf7 rfl (frame_Lay_sim (p0 := (⟨([] : List UInt8), false, 0, 3, ([(⟨([] : List UInt8), 5, 1, 0⟩ : GSlot)] : List GSlot), []⟩ : Proc)) (p1 := ([(⟨9, (-1)⟩ : Seat), (⟨8, (-1)⟩ : Seat), (⟨0, 0⟩ : Seat)] : List Seat)) (p2 := 1) (hS6.bun [3] [] rfl) (h1.mono im6) SlR_nil h2 hx1) rfl fun v1 T3 w5 im7 rv1 => ?_)
  obtain ⟨a3, c3, a4, c4, rfl, hS7, h3, h4, _⟩ := rv1
  have hS7 : Sep g T3 w5 [R] := hS7.unb
  refine pv (r_mv rfl) (pv (r_ex (v := .agg #[.int .i64 y1.1.Size, .slice a3 (List.length y1.1.Saved) c3, .int .i64 y1.1.Slots, .slice a4 (List.length y1.1.Objects) c4]) rfl rfl) (pv (r_ex (v := .int .i64 y1.2) rfl rfl) (wl rfl (alS (zs := [.int .i64 0, .slice none 0 0, .int .i64 0, .slice none 0 0]) Try.zeroValue31 rfl hS7 fun w6 b2 im8 hS8 => ?_))))
  refine wl rfl (st0B (q := 0) hS8 ⟨rfl, rfl⟩ rfl rfl rfl Try.sizeOf31 rfl rfl rfl fun w7 im9 hS9 => ?_)
  have hS9 : Sep g T3 w7 [boxA b2 [.int .i64 y1.1.Size, .slice a3 (List.length y1.1.Saved) c3, .int .i64 y1.1.Slots, .slice a4 (List.length y1.1.Objects) c4], R] := hS9
  refine pv (r_zi rfl) (nil (t_thenR [(2, .pointer (some ⟨b2, 0, none⟩)), (3, .int .i64 y1.2)] ⟨rfl, rfl, trivial⟩ fun J => ?_))
  refine sq2 ?_
  refine rg (pv (r_mi rfl) (pv (r_ib rfl rfl rfl) (pv (r_mb rfl) (?_))))
  rcases Bool.eq_false_or_eq_true (y1.2 == 0) with hb1 | hb1
  · have hm := ctrue hb1 hm
    refine gT (d0 := 18) rfl rfl hb1 (pv (r_fa rfl Try.underlying31 rfl Try.sizeOf3 rfl) (gT (d0 := 18) rfl rfl hb1 (pv (r_ld rfl Try.isAgg3 (hS9.cell0 (i := 0) ⟨rfl, rfl⟩ (j := 0) rfl)) (gT (d0 := 18) rfl rfl hb1 (pv (r_ib rfl rfl rfl) (pv (r_pkt rfl hb1 rfl) (pv (r_mb rfl) (?_))))))))
    rcases Bool.eq_false_or_eq_true (y1.1.Size == 24) with hb2 | hb2
    · have hm := ctrue hb2 hm
      refine gT (d0 := 23) rfl rfl hb2 (pv (r_fa rfl Try.underlying31 rfl Try.sizeOf29 rfl) (gT (d0 := 23) rfl rfl hb2 (pv (r_ld rfl Try.isAgg29 (hS9.cell0 (i := 0) ⟨rfl, rfl⟩ (j := 1) rfl)) (gT (d0 := 23) rfl rfl hb2 (pv (r_ln rfl Try.underlying29) (gT (d0 := 23) rfl rfl hb2 (pv (r_ib rfl rfl rfl) (pv (r_pkt rfl hb2 rfl) (pv (r_mb rfl) (?_))))))))))
      rcases Bool.eq_false_or_eq_true ((List.length y1.1.Saved : Int) == 2) with hb3 | hb3
      · have hm := ctrue hb3 hm
        obtain ⟨u1, hx2, hm⟩ := bindS hm
        obtain ⟨b3, of1, cs1, k1, cp1, hv1, hp1, hl1, he1, hr1, hc1, hT1⟩ := (h3.mono (Im.trans im8 im9)).ixT hx2 rfl
        cases hr1
        refine gT (d0 := 29) rfl rfl hb3 (pv (r_fa rfl Try.underlying31 rfl Try.sizeOf29 rfl) (gT (d0 := 29) rfl rfl hb3 (pv (r_ld rfl Try.isAgg29 (hS9.cell0 (i := 0) ⟨rfl, rfl⟩ (j := 1) rfl)) (gT (d0 := 29) rfl rfl hb3 (pv (r_ixe hv1 rfl Try.underlying29 Try.sizeOf3 hp1 hl1 he1) (gT (d0 := 29) rfl rfl hb3 (pv (r_ld rfl Try.isAgg3 (hc1.get (j := 0) rfl)) (gT (d0 := 29) rfl rfl hb3 (pv (r_ib rfl rfl rfl) (pv (r_pkt rfl hb3 rfl) (pv (r_mb rfl) (?_))))))))))))
        rcases Bool.eq_false_or_eq_true (u1 == 8) with hb4 | hb4
        · have hm := ctrue hb4 hm
          obtain ⟨y2, hx3, hm⟩ := bindS hm
          refine gT (d0 := 36) rfl rfl hb4 (pv (r_ldS rfl Try.isAgg31 Try.sizeOf31 rfl (hS9.cells0 (i := 0) ⟨rfl, rfl⟩ (o := 0) rfl) (cs := [.int .i64 y1.1.Size, .slice a3 (List.length y1.1.Saved) c3, .int .i64 y1.1.Slots, .slice a4 (List.length y1.1.Objects) c4])) (gT (d0 := 36) rfl rfl hb4 (wl rfl (calS cf10 rfl (frame_Kept_sim (p0 := y1.1) (p1 := 1) (hS9.bun [0, 1] [] rfl) (h3.mono (Im.trans im8 im9)) (h4.mono (Im.trans im8 im9)) hx3) rfl fun v2 T4 w8 im10 rv2 => ?_))))
          obtain ⟨rfl, hS10, _⟩ := rv2
          have hS10 : Sep g T4 w8 [boxA b2 [.int .i64 y1.1.Size, .slice a3 (List.length y1.1.Saved) c3, .int .i64 y1.1.Slots, .slice a4 (List.length y1.1.Objects) c4], R] := hS10.unb
          refine gT (d0 := 36) rfl rfl hb4 (pv (r_ib rfl rfl rfl) (pv (r_pkt rfl hb4 rfl) (pv (r_mb rfl) (?_))))
          rcases Bool.eq_false_or_eq_true (y2 == 8) with hb5 | hb5
          · have hm := ctrue hb5 hm
            obtain ⟨y3, hx4, hm⟩ := bindS hm
            refine gT (d0 := 41) rfl rfl hb5 (pv (r_ldS rfl Try.isAgg31 Try.sizeOf31 rfl (hS10.cells0 (i := 0) ⟨rfl, rfl⟩ (o := 0) rfl) (cs := [.int .i64 y1.1.Size, .slice a3 (List.length y1.1.Saved) c3, .int .i64 y1.1.Slots, .slice a4 (List.length y1.1.Objects) c4])) (gT (d0 := 41) rfl rfl hb5 (wl rfl (calS cf11 rfl (frame_Slot_sim (p0 := y1.1) (p1 := 0) (hS10.bun [0, 1] [] rfl) (h3.mono (Im.trans im8 (Im.trans im9 im10))) (h4.mono (Im.trans im8 (Im.trans im9 im10))) hx4) rfl fun v3 T5 w9 im11 rv3 => ?_))))
            obtain ⟨rfl, hS11, _⟩ := rv3
            have hS11 : Sep g T5 w9 [boxA b2 [.int .i64 y1.1.Size, .slice a3 (List.length y1.1.Saved) c3, .int .i64 y1.1.Slots, .slice a4 (List.length y1.1.Objects) c4], R] := hS11.unb
            refine gT (d0 := 41) rfl rfl hb5 (pv (r_ib rfl rfl rfl) (pv (r_pkt rfl hb5 rfl) (pv (r_mb rfl) (?_))))
            rcases Bool.eq_false_or_eq_true (y3 == 12) with hb6 | hb6
            · have hm := ctrue hb6 hm
              refine gT (d0 := 46) rfl rfl hb6 (pv (r_fa rfl Try.underlying31 rfl Try.sizeOf29 rfl) (gT (d0 := 46) rfl rfl hb6 (pv (r_ld rfl Try.isAgg29 (hS11.cell0 (i := 0) ⟨rfl, rfl⟩ (j := 3) rfl)) (gT (d0 := 46) rfl rfl hb6 (pv (r_ln rfl Try.underlying29) (gT (d0 := 46) rfl rfl hb6 (pv (r_ib rfl rfl rfl) (pv (r_pkt rfl hb6 rfl) (pv (r_mb rfl) (?_))))))))))
              rcases Bool.eq_false_or_eq_true ((List.length y1.1.Objects : Int) == 1) with hb7 | hb7
              · have hm := ctrue hb7 hm
                obtain ⟨u2, hx5, hm⟩ := bindS hm
                obtain ⟨b4, of2, cs2, k2, cp2, hv2, hp2, hl2, he2, hr2, hc2, hT2⟩ := (h4.mono (Im.trans im8 (Im.trans im9 (Im.trans im10 im11)))).ixT hx5 rfl
                cases hr2
                refine gT (d0 := 52) rfl rfl hb7 (pv (r_fa rfl Try.underlying31 rfl Try.sizeOf29 rfl) (gT (d0 := 52) rfl rfl hb7 (pv (r_ld rfl Try.isAgg29 (hS11.cell0 (i := 0) ⟨rfl, rfl⟩ (j := 3) rfl)) (gT (d0 := 52) rfl rfl hb7 (pv (r_ixe hv2 rfl Try.underlying29 Try.sizeOf3 hp2 hl2 he2) (gT (d0 := 52) rfl rfl hb7 (pv (r_ld rfl Try.isAgg3 (hc2.get (j := 0) rfl)) (gT (d0 := 52) rfl rfl hb7 (pv (r_ib rfl rfl rfl) (pv (r_pkt rfl hb7 rfl) (pv (r_zb rfl) (nil (t_thenR [(0, .bool (u2 == 16))] ⟨rfl, trivial⟩ fun J => ?_)))))))))))))
                have hm := Option.some.inj hm
                subst hm
                exact rtn (ret1 rfl rfl ⟨_, rfl, _, (Im.trans im1 (Im.trans im2 (Im.trans im3 (Im.trans im4 (Im.trans im5 (Im.trans im6 (Im.trans im7 (Im.trans im8 (Im.trans im9 (Im.trans im10 im11)))))))))), ⟨rfl, hS11.sel [1] rfl, trivial⟩⟩)
              · have hm := cfalse hb7 hm
                refine gF (d0 := 52) rfl rfl (by rw [hb7]; rfl) (gF (d0 := 52) rfl rfl (by rw [hb7]; rfl) (gF (d0 := 52) rfl rfl (by rw [hb7]; rfl) (gF (d0 := 52) rfl rfl (by rw [hb7]; rfl) (gF (d0 := 52) rfl rfl (by rw [hb7]; rfl) (pv (r_pkf rfl hb7 rfl) (pv (r_zb rfl) (nil (t_thenR [(0, .bool false)] ⟨rfl, trivial⟩ fun J => ?_))))))))
                have hm := Option.some.inj hm
                subst hm
                exact rtn (ret1 rfl rfl ⟨_, rfl, _, (Im.trans im1 (Im.trans im2 (Im.trans im3 (Im.trans im4 (Im.trans im5 (Im.trans im6 (Im.trans im7 (Im.trans im8 (Im.trans im9 (Im.trans im10 im11)))))))))), ⟨rfl, hS11.sel [1] rfl, trivial⟩⟩)
            · have hm := cfalse hb6 hm
              refine gF (d0 := 46) rfl rfl (by rw [hb6]; rfl) (gF (d0 := 46) rfl rfl (by rw [hb6]; rfl) (gF (d0 := 46) rfl rfl (by rw [hb6]; rfl) (gF (d0 := 46) rfl rfl (by rw [hb6]; rfl) (pv (r_pkf rfl hb6 rfl) (pv (r_mb rfl) (gF (d0 := 52) rfl rfl rfl (gF (d0 := 52) rfl rfl rfl (gF (d0 := 52) rfl rfl rfl (gF (d0 := 52) rfl rfl rfl (gF (d0 := 52) rfl rfl rfl (pv (r_pkf rfl rfl rfl) (pv (r_zb rfl) (nil (t_thenR [(0, .bool false)] ⟨rfl, trivial⟩ fun J => ?_))))))))))))))
              have hm := Option.some.inj hm
              subst hm
              exact rtn (ret1 rfl rfl ⟨_, rfl, _, (Im.trans im1 (Im.trans im2 (Im.trans im3 (Im.trans im4 (Im.trans im5 (Im.trans im6 (Im.trans im7 (Im.trans im8 (Im.trans im9 (Im.trans im10 im11)))))))))), ⟨rfl, hS11.sel [1] rfl, trivial⟩⟩)
          · have hm := cfalse hb5 hm
            refine gF (d0 := 41) rfl rfl (by rw [hb5]; rfl) (gF (d0 := 41) rfl rfl (by rw [hb5]; rfl) (gF (d0 := 41) rfl rfl (by rw [hb5]; rfl) (pv (r_pkf rfl hb5 rfl) (pv (r_mb rfl) (gF (d0 := 46) rfl rfl rfl (gF (d0 := 46) rfl rfl rfl (gF (d0 := 46) rfl rfl rfl (gF (d0 := 46) rfl rfl rfl (pv (r_pkf rfl rfl rfl) (pv (r_mb rfl) (gF (d0 := 52) rfl rfl rfl (gF (d0 := 52) rfl rfl rfl (gF (d0 := 52) rfl rfl rfl (gF (d0 := 52) rfl rfl rfl (gF (d0 := 52) rfl rfl rfl (pv (r_pkf rfl rfl rfl) (pv (r_zb rfl) (nil (t_thenR [(0, .bool false)] ⟨rfl, trivial⟩ fun J => ?_)))))))))))))))))))
            have hm := Option.some.inj hm
            subst hm
            exact rtn (ret1 rfl rfl ⟨_, rfl, _, (Im.trans im1 (Im.trans im2 (Im.trans im3 (Im.trans im4 (Im.trans im5 (Im.trans im6 (Im.trans im7 (Im.trans im8 (Im.trans im9 im10))))))))), ⟨rfl, hS10.sel [1] rfl, trivial⟩⟩)
        · have hm := cfalse hb4 hm
          refine gF (d0 := 36) rfl rfl (by rw [hb4]; rfl) (gF (d0 := 36) rfl rfl (by rw [hb4]; rfl) (gF (d0 := 36) rfl rfl (by rw [hb4]; rfl) (pv (r_pkf rfl hb4 rfl) (pv (r_mb rfl) (gF (d0 := 41) rfl rfl rfl (gF (d0 := 41) rfl rfl rfl (gF (d0 := 41) rfl rfl rfl (pv (r_pkf rfl rfl rfl) (pv (r_mb rfl) (gF (d0 := 46) rfl rfl rfl (gF (d0 := 46) rfl rfl rfl (gF (d0 := 46) rfl rfl rfl (gF (d0 := 46) rfl rfl rfl (pv (r_pkf rfl rfl rfl) (pv (r_mb rfl) (gF (d0 := 52) rfl rfl rfl (gF (d0 := 52) rfl rfl rfl (gF (d0 := 52) rfl rfl rfl (gF (d0 := 52) rfl rfl rfl (gF (d0 := 52) rfl rfl rfl (pv (r_pkf rfl rfl rfl) (pv (r_zb rfl) (nil (t_thenR [(0, .bool false)] ⟨rfl, trivial⟩ fun J => ?_))))))))))))))))))))))))
          have hm := Option.some.inj hm
          subst hm
          exact rtn (ret1 rfl rfl ⟨_, rfl, _, (Im.trans im1 (Im.trans im2 (Im.trans im3 (Im.trans im4 (Im.trans im5 (Im.trans im6 (Im.trans im7 (Im.trans im8 im9)))))))), ⟨rfl, hS9.sel [1] rfl, trivial⟩⟩)
      · have hm := cfalse hb3 hm
        refine gF (d0 := 29) rfl rfl (by rw [hb3]; rfl) (gF (d0 := 29) rfl rfl (by rw [hb3]; rfl) (gF (d0 := 29) rfl rfl (by rw [hb3]; rfl) (gF (d0 := 29) rfl rfl (by rw [hb3]; rfl) (gF (d0 := 29) rfl rfl (by rw [hb3]; rfl) (pv (r_pkf rfl hb3 rfl) (pv (r_mb rfl) (gF (d0 := 36) rfl rfl rfl (gF (d0 := 36) rfl rfl rfl (gF (d0 := 36) rfl rfl rfl (pv (r_pkf rfl rfl rfl) (pv (r_mb rfl) (gF (d0 := 41) rfl rfl rfl (gF (d0 := 41) rfl rfl rfl (gF (d0 := 41) rfl rfl rfl (pv (r_pkf rfl rfl rfl) (pv (r_mb rfl) (gF (d0 := 46) rfl rfl rfl (gF (d0 := 46) rfl rfl rfl (gF (d0 := 46) rfl rfl rfl (gF (d0 := 46) rfl rfl rfl (pv (r_pkf rfl rfl rfl) (pv (r_mb rfl) (gF (d0 := 52) rfl rfl rfl (gF (d0 := 52) rfl rfl rfl (gF (d0 := 52) rfl rfl rfl (gF (d0 := 52) rfl rfl rfl (gF (d0 := 52) rfl rfl rfl (pv (r_pkf rfl rfl rfl) (pv (r_zb rfl) (nil (t_thenR [(0, .bool false)] ⟨rfl, trivial⟩ fun J => ?_)))))))))))))))))))))))))))))))
        have hm := Option.some.inj hm
        subst hm
        exact rtn (ret1 rfl rfl ⟨_, rfl, _, (Im.trans im1 (Im.trans im2 (Im.trans im3 (Im.trans im4 (Im.trans im5 (Im.trans im6 (Im.trans im7 (Im.trans im8 im9)))))))), ⟨rfl, hS9.sel [1] rfl, trivial⟩⟩)
    · have hm := cfalse hb2 hm
      refine gF (d0 := 23) rfl rfl (by rw [hb2]; rfl) (gF (d0 := 23) rfl rfl (by rw [hb2]; rfl) (gF (d0 := 23) rfl rfl (by rw [hb2]; rfl) (gF (d0 := 23) rfl rfl (by rw [hb2]; rfl) (pv (r_pkf rfl hb2 rfl) (pv (r_mb rfl) (gF (d0 := 29) rfl rfl rfl (gF (d0 := 29) rfl rfl rfl (gF (d0 := 29) rfl rfl rfl (gF (d0 := 29) rfl rfl rfl (gF (d0 := 29) rfl rfl rfl (pv (r_pkf rfl rfl rfl) (pv (r_mb rfl) (gF (d0 := 36) rfl rfl rfl (gF (d0 := 36) rfl rfl rfl (gF (d0 := 36) rfl rfl rfl (pv (r_pkf rfl rfl rfl) (pv (r_mb rfl) (gF (d0 := 41) rfl rfl rfl (gF (d0 := 41) rfl rfl rfl (gF (d0 := 41) rfl rfl rfl (pv (r_pkf rfl rfl rfl) (pv (r_mb rfl) (gF (d0 := 46) rfl rfl rfl (gF (d0 := 46) rfl rfl rfl (gF (d0 := 46) rfl rfl rfl (gF (d0 := 46) rfl rfl rfl (pv (r_pkf rfl rfl rfl) (pv (r_mb rfl) (gF (d0 := 52) rfl rfl rfl (gF (d0 := 52) rfl rfl rfl (gF (d0 := 52) rfl rfl rfl (gF (d0 := 52) rfl rfl rfl (gF (d0 := 52) rfl rfl rfl (pv (r_pkf rfl rfl rfl) (pv (r_zb rfl) (nil (t_thenR [(0, .bool false)] ⟨rfl, trivial⟩ fun J => ?_)))))))))))))))))))))))))))))))))))))
      have hm := Option.some.inj hm
      subst hm
      exact rtn (ret1 rfl rfl ⟨_, rfl, _, (Im.trans im1 (Im.trans im2 (Im.trans im3 (Im.trans im4 (Im.trans im5 (Im.trans im6 (Im.trans im7 (Im.trans im8 im9)))))))), ⟨rfl, hS9.sel [1] rfl, trivial⟩⟩)
  · have hm := cfalse hb1 hm
    refine gF (d0 := 18) rfl rfl (by rw [hb1]; rfl) (gF (d0 := 18) rfl rfl (by rw [hb1]; rfl) (gF (d0 := 18) rfl rfl (by rw [hb1]; rfl) (pv (r_pkf rfl hb1 rfl) (pv (r_mb rfl) (gF (d0 := 23) rfl rfl rfl (gF (d0 := 23) rfl rfl rfl (gF (d0 := 23) rfl rfl rfl (gF (d0 := 23) rfl rfl rfl (pv (r_pkf rfl rfl rfl) (pv (r_mb rfl) (gF (d0 := 29) rfl rfl rfl (gF (d0 := 29) rfl rfl rfl (gF (d0 := 29) rfl rfl rfl (gF (d0 := 29) rfl rfl rfl (gF (d0 := 29) rfl rfl rfl (pv (r_pkf rfl rfl rfl) (pv (r_mb rfl) (gF (d0 := 36) rfl rfl rfl (gF (d0 := 36) rfl rfl rfl (gF (d0 := 36) rfl rfl rfl (pv (r_pkf rfl rfl rfl) (pv (r_mb rfl) (gF (d0 := 41) rfl rfl rfl (gF (d0 := 41) rfl rfl rfl (gF (d0 := 41) rfl rfl rfl (pv (r_pkf rfl rfl rfl) (pv (r_mb rfl) (gF (d0 := 46) rfl rfl rfl (gF (d0 := 46) rfl rfl rfl (gF (d0 := 46) rfl rfl rfl (gF (d0 := 46) rfl rfl rfl (pv (r_pkf rfl rfl rfl) (pv (r_mb rfl) (gF (d0 := 52) rfl rfl rfl (gF (d0 := 52) rfl rfl rfl (gF (d0 := 52) rfl rfl rfl (gF (d0 := 52) rfl rfl rfl (gF (d0 := 52) rfl rfl rfl (pv (r_pkf rfl rfl rfl) (pv (r_zb rfl) (nil (t_thenR [(0, .bool false)] ⟨rfl, trivial⟩ fun J => ?_))))))))))))))))))))))))))))))))))))))))))
    have hm := Option.some.inj hm
    subst hm
    exact rtn (ret1 rfl rfl ⟨_, rfl, _, (Im.trans im1 (Im.trans im2 (Im.trans im3 (Im.trans im4 (Im.trans im5 (Im.trans im6 (Im.trans im7 (Im.trans im8 im9)))))))), ⟨rfl, hS9.sel [1] rfl, trivial⟩⟩)

set_option maxRecDepth 100000 in
set_option maxHeartbeats 1000000 in
theorem ref25_Saved_sim {g : World} {T0 : Nat → Prop} {w0 : World} {R : Assn} {p0 : List Seat} {a1 : Option Addr} {c1 : Nat} {r : (List Int)} (hS : Sep g T0 w0 [R]) (h1 : SlR rSeat T0 w0 (.slice a1 (List.length p0) c1) p0) (hm : ref25_Saved p0 = some r) :
    Calls Try.prog 16 #[.slice a1 (List.length p0) c1] w0 (RetS T0 w0 fun T w v => ∃ (a6 : Option Addr) (n5 : Nat) (c6 : Nat), v = .slice a6 n5 c6 ∧ Sep g T w [R, ownA (rInt .i64) 3 (.slice a6 n5 c6) r] ∧ True) := by
  refine enter (args := [.slice a1 (List.length p0) c1]) Try.func16 rfl Try.ntmps16 rfl fun J => ?_
  unfold ref25_Saved at hm
  refine sq2 ?_
  refine rg (pv (r_zs rfl) (nil (t_then ?_)))
  refine sq2 ?_
  refine rg (pv (r_zs rfl) (nil (t_then ?_)))
  refine sq2 ?_
  refine sq2 ?_
  refine rg (pv (r_zi rfl) (nil (t_then ?_)))
  obtain ⟨o1, ho1, hq1⟩ := bindS hm
  obtain ⟨bd1, hbd1, ho1⟩ := loop_open ho1
  have hS1 := hS.nilO (rInt .i64) 3
  refine blk (wp_loop_ghost (fun m a w1 => ∃ (J : Nat → Value) (T1 : Nat → Prop) (x1 : List Int) (a2 : Option Addr) (n1 : Nat) (c2 : Nat) (x2 : Int), a = env (nf 35) J [(0, .slice a1 (List.length p0) c1), (3, .slice a2 n1 c2), (4, .int .i64 x2)] ∧ Im T0 w0 T1 w1 ∧ Sep g T1 w1 [ownA (rInt .i64) 3 (.slice a2 n1 c2) x1, R] ∧ loopM bd1 m (x1, x2) = some o1) NN ⟨_, _, [], _, _, _, 0, env_has ⟨rfl, rfl, rfl, trivial⟩, Im.refl, hS1.sel [0, 1] rfl, ho1⟩ ?_)
  rintro m _ w1 ⟨J, T1, x1, a2, n1, c2, x2, rfl, im1, hS2, ho1⟩
  obtain ⟨m1, z1, rfl, hm, hn1⟩ := loop_round ho1
  rw [hbd1] at hm
  refine sq2 ?_
  refine sq2 ?_
  refine rg (pv (r_mi rfl) (pv (r_ib rfl rfl rfl) (nil (t_then ?_))))
  refine cnd rfl (fun hb1 => ?_) (fun hb1 => ?_)
  · have hm := ctrue hb1 hm
    refine skp (t_then ?_)
    obtain ⟨kk1, hkk1, hm⟩ := jn_open hm
    refine cut (fun a w2 => ∃ (J : Nat → Value) (T2 : Nat → Prop) (x3 : List Int) (a3 : Option Addr) (n2 : Nat) (c3 : Nat), a = env (nf 35) J [(0, .slice a1 (List.length p0) c1), (3, .slice a3 n2 c3), (4, .int .i64 x2)] ∧ Im T1 w1 T2 w2 ∧ Sep g T2 w2 [ownA (rInt .i64) 3 (.slice a3 n2 c3) x3, R] ∧ kk1 x3 = some z1) ?_ ?_
    · refine blk ?_
      refine sq2 ?_
      refine rg (pv (r_zb rfl) (nil (t_then ?_)))
      refine sq2 ?_
      refine sq2 ?_
      refine rg (pv (r_zi rfl) (nil (t_then ?_)))
      obtain ⟨o2, ho2, hq2⟩ := bindS hm
      obtain ⟨bd2, hbd2, ho2⟩ := loop_open ho2
      refine blk (wp_loop_ghost (fun m a w3 => ∃ (J : Nat → Value) (T3 : Nat → Prop) (x4 : Bool) (x5 : Int), a = env (nf 35) J [(0, .slice a1 (List.length p0) c1), (3, .slice a2 n1 c2), (4, .int .i64 x2), (5, .bool x4), (6, .int .i64 x5)] ∧ Im T1 w1 T3 w3 ∧ Sep g T3 w3 [ownA (rInt .i64) 3 (.slice a2 n1 c2) x1, R] ∧ loopM bd2 m (x4, x5) = some o2) NN ⟨_, _, false, 0, env_has ⟨rfl, rfl, rfl, rfl, rfl, trivial⟩, Im.refl, hS2.sel [0, 1] rfl, ho2⟩ ?_)
      rintro m _ w3 ⟨J, T3, x4, x5, rfl, im3, hS3, ho2⟩
      obtain ⟨m2, z2, rfl, hm, hn2⟩ := loop_round ho2
      rw [hbd2] at hm
      refine sq2 ?_
      refine sq2 ?_
      refine rg (pv (r_mi rfl) (pv (r_ms rfl) (pv (r_ln rfl Try.underlying26) (pv (r_ib rfl rfl rfl) (nil (t_then ?_))))))
      refine cnd rfl (fun hb2 => ?_) (fun hb2 => ?_)
      · have hm := ctrue hb2 hm
        refine skp (t_then ?_)
        refine sq2 ?_
        refine blk ?_
        refine rs [0, 0, 0, 0, 0, 0, 1, 0, 2, 0, 0, 0] [0, 1, 2, 3, 4, 5, 6, 7, 8, 9, 10, 11] mix (by kernel_rfl) hS3.lt fun w4 i1 => ?_
        have im4 := i1.imm
        have hS4 := hS3.keep i1 (fun _ h => h)
        refine s0 rfl trivial (fun _ => r_mb rfl) rfl (s0 rfl trivial (fun _ => r_mb rfl) rfl (?_))
        rcases Bool.eq_false_or_eq_true x4 with hb3 | hb3
        · have hm := ctrue hb3 hm
          refine sU rfl ⟨_, rfl, .inl (congrArg Value.bool hb3)⟩ (sU rfl ⟨_, rfl, .inl (congrArg Value.bool hb3)⟩ (sU rfl ⟨_, rfl, .inl (congrArg Value.bool hb3)⟩ (sU rfl ⟨_, rfl, .inl (congrArg Value.bool hb3)⟩ (sU rfl ⟨_, rfl, .inl (congrArg Value.bool hb3)⟩ (sU rfl ⟨_, rfl, .inl (congrArg Value.bool hb3)⟩ (sU rfl ⟨_, rfl, .inl (congrArg Value.bool hb3)⟩ (sU rfl ⟨_, rfl, .inl (congrArg Value.bool hb3)⟩ (s0 rfl trivial (fun _ => r_pkt rfl hb3 rfl) rfl (s0 rfl trivial (fun _ => r_zb rfl) rfl (se (t_blk (t_thenR [(0, .slice a1 (List.length p0) c1), (3, .slice a2 n1 c2), (4, .int .i64 x2), (5, .bool true), (6, .int .i64 x5)] ⟨rfl, rfl, rfl, rfl, rfl, trivial⟩ fun J => ?_))))))))))))
          have hm := Option.some.inj hm
          subst hm
          exact rg (pv (r_mi rfl) (pv (r_ib rfl rfl rfl) (pv (r_zi rfl) (nil (t_then ⟨m2, Nat.lt_succ_self _, _, _, true, (IntKind.wrap .i64 (x5 + 1)), env_has ⟨rfl, rfl, rfl, rfl, rfl, trivial⟩, (Im.trans im3 im4), hS4.sel [0, 1] rfl, hn2⟩)))))
        · have hm := cfalse hb3 hm
          obtain ⟨u1, hx1, hm⟩ := bindS hm
          obtain ⟨b1, of1, cs1, k1, cp1, hv1, hp1, hl1, he1, hr1, hc1, hT1⟩ := (h1.mono (Im.trans im1 (Im.trans im3 im4))).ixT hx1 rfl
          cases rSeat_open hr1
          obtain ⟨y1, hx2, hm⟩ := bindS hm
          refine s0 rfl ⟨_, rfl, congrArg Value.bool hb3⟩ (fun _ => r_ms rfl) rfl (s0 rfl ⟨_, rfl, congrArg Value.bool hb3⟩ (fun _ => r_mi rfl) rfl (s0 rfl ⟨_, rfl, congrArg Value.bool hb3⟩ (fun _ => r_ixe hv1 rfl Try.underlying26 Try.sizeOf44 hp1 hl1 he1) rfl (s0 rfl ⟨_, rfl, congrArg Value.bool hb3⟩ (fun _ => r_fa rfl Try.underlying44 rfl Try.sizeOf3 rfl) rfl (s1 rfl ⟨_, rfl, congrArg Value.bool hb3⟩ (r_ld rfl Try.isAgg3 (hc1.get (j := 0) rfl)) rfl (s0 rfl ⟨_, rfl, congrArg Value.bool hb3⟩ (fun _ => r_mi rfl) rfl (s2 [(6, .int .i64 u1.Reg)] rfl ⟨_, rfl, congrArg Value.bool hb3⟩ rfl (by kernel_rfl) (calS cf12 rfl (ref24_Name_sim (p0 := x2) (hS4.bun [0, 1] [] rfl)  hx2) rfl fun v1 T4 w5 im5 rv1 => ?_)))))))
          obtain ⟨rfl, hS5, _⟩ := rv1
          have hS5 : Sep g T4 w5 [ownA (rInt .i64) 3 (.slice a2 n1 c2) x1, R] := hS5.unb
          refine ⟨st1 rfl (r_ld rfl Try.isAgg3 ((hc1.same (im5 b1 hT1).2).get (j := 0) rfl)) (st0), ?_⟩
          refine s0 rfl ⟨_, rfl, congrArg Value.bool hb3⟩ (fun _ => r_ib rfl rfl rfl) rfl (s0 rfl trivial (fun _ => r_pkf rfl hb3 rfl) rfl (s0 rfl trivial (fun _ => r_zb rfl) rfl (se (t_blk (t_thenR [(0, .slice a1 (List.length p0) c1), (3, .slice a2 n1 c2), (4, .int .i64 x2), (5, .bool (u1.Reg == y1)), (6, .int .i64 x5)] ⟨rfl, rfl, rfl, rfl, rfl, trivial⟩ fun J => ?_)))))
          have hm := Option.some.inj hm
          subst hm
          exact rg (pv (r_mi rfl) (pv (r_ib rfl rfl rfl) (pv (r_zi rfl) (nil (t_then ⟨m2, Nat.lt_succ_self _, _, _, (u1.Reg == y1), (IntKind.wrap .i64 (x5 + 1)), env_has ⟨rfl, rfl, rfl, rfl, rfl, trivial⟩, (Im.trans im3 (Im.trans im4 im5)), hS5.sel [0, 1] rfl, hn2⟩)))))
      · have hm := cfalse hb2 hm
        have hm := Option.some.inj hm
        subst hm
        have hn2 : _ = Lp.brk _ := hn2
        subst hn2
        have hm := thn_brk hq2
        refine xt (x_then (x_then (x_eq (t_thenR [(0, .slice a1 (List.length p0) c1), (3, .slice a2 n1 c2), (4, .int .i64 x2), (5, .bool x4)] ⟨rfl, rfl, rfl, rfl, trivial⟩ fun J => ?_))))
        refine sq2 ?_
        refine rg (pv (r_mb rfl) (nil (t_then ?_)))
        refine cnd rfl (fun hb4 => ?_) (fun hb4 => ?_)
        · have hm := ctrue hb4 hm
          obtain ⟨y2, hx3, hm⟩ := bindS hm
          refine rg (pv (r_ms rfl) (pv (r_mi rfl) (wl rfl (calS cf12 rfl (ref24_Name_sim (p0 := x2) (hS3.bun [0, 1] [] rfl)  hx3) rfl fun v2 T5 w6 im6 rv2 => ?_))))
          obtain ⟨rfl, hS6, _⟩ := rv2
          have hS6 : Sep g T5 w6 [ownA (rInt .i64) 3 (.slice a2 n1 c2) x1, R] := hS6.unb
          refine wl rfl (bsS (r := (rInt .i64)) (l := ([y2] : List Int)) (css := [[.int .i64 y2]]) hS6 Try.underlying29 Try.sizeOf3 Try.zeroValue3 rfl rfl (by kernel_rfl) rfl ⟨rfl, trivial⟩ rfl rfl fun w7 a4 n3 c4 im7 hS7 => ?_)
          obtain ⟨z_1, hro1, hm⟩ := bindS hm
          refine wl rfl (apO (q := 1) (l := x1) (us := ([y2] : List Int)) hS7 ⟨rfl, rfl⟩ rfl rfl (hS7.own (i := 0) ⟨rfl, rfl⟩).v Try.underlying29 el3 (room_some hro1) fun w8 a5 n4 c5 im8 hS8 => ?_)
          have hS8 : Sep g T5 w8 [ownA (rInt .i64) 3 (.slice a4 n3 c4) ([y2] : List Int), ownA (rInt .i64) 3 (.slice a5 n4 c5) (x1 ++ ([y2] : List Int)), R] := hS8
          exact pv (r_zs rfl) (nil (t_blk (t_then ⟨_, _, (x1 ++ ([y2] : List Int)), _, _, _, env_has ⟨rfl, rfl, rfl, trivial⟩, (Im.trans im3 (Im.trans im6 (Im.trans im7 im8))), hS8.sel [1, 2] rfl, hm⟩)))
        · have hm := cfalse hb4 hm
          exact skp (t_blk (t_then ⟨_, _, x1, _, _, _, env_has ⟨rfl, rfl, rfl, trivial⟩, im3, hS3.sel [0, 1] rfl, hm⟩))
    · rintro _ w2 ⟨J, T2, x3, a3, n2, c3, rfl, im2, hS9, hm⟩
      rw [hkk1] at hm
      have hm := Option.some.inj hm
      subst hm
      exact rg (pv (r_mi rfl) (pv (r_ib rfl rfl rfl) (pv (r_zi rfl) (nil (t_then ⟨m1, Nat.lt_succ_self _, _, _, x3, _, _, _, (IntKind.wrap .i64 (x2 + 1)), env_has ⟨rfl, rfl, rfl, trivial⟩, (Im.trans im1 im2), hS9.sel [0, 1] rfl, hn1⟩)))))
  · have hm := cfalse hb1 hm
    have hm := Option.some.inj hm
    subst hm
    have hn1 : _ = Lp.brk _ := hn1
    subst hn1
    have hm := thn_brk hq1
    refine xt (x_then (x_then (x_eq (t_then ?_))))
    refine sq2 ?_
    refine rg (pv (r_ms rfl) (pv (r_zs rfl) (nil (t_thenR [(2, .slice a2 n1 c2)] ⟨rfl, trivial⟩ fun J => ?_))))
    have hm := Option.some.inj hm
    subst hm
    exact rtn (ret1 rfl rfl ⟨_, rfl, _, im1, ⟨_, _, _, rfl, hS2.sel [1, 0] rfl, trivial⟩⟩)

set_option maxRecDepth 100000 in
set_option maxHeartbeats 1000000 in
theorem ref14_next_sim {g : World} {T0 : Nat → Prop} {w0 : World} {R : Assn} {p0 : Int} {r : Int} (hS : Sep g T0 w0 [R])  (hm : ref14_next p0 = some r) :
    Calls Try.prog 21 #[.int .i64 p0] w0 (RetS T0 w0 fun T w v => v = .int .i64 r ∧ Sep g T w [R] ∧ True) := by
  refine enter (args := [.int .i64 p0]) Try.func21 rfl Try.ntmps21 rfl fun J => ?_
  unfold ref14_next at hm
  refine sq2 ?_
  refine rg (pv (r_zi rfl) (nil (t_then ?_)))
  refine sq2 ?_
  obtain ⟨o1, ho1, hq1⟩ := bindS hm
  obtain ⟨bd1, hbd1, ho1⟩ := loop_open ho1
  refine blk (wp_loop_ghost (fun m a w1 => ∃ (J : Nat → Value) (T1 : Nat → Prop) (x1 : Int), a = env (nf 9) J [(0, .int .i64 x1)] ∧ Im T0 w0 T1 w1 ∧ Sep g T1 w1 [R] ∧ loopM bd1 m x1 = some o1) NN ⟨_, _, p0, env_has ⟨rfl, trivial⟩, Im.refl, hS.sel [0] rfl, ho1⟩ ?_)
  rintro m _ w1 ⟨J, T1, x1, rfl, im1, hS1, ho1⟩
  obtain ⟨m1, z1, rfl, hm, hn1⟩ := loop_round ho1
  rw [hbd1] at hm
  refine sq2 ?_
  refine sq2 ?_
  refine rg (pv (r_mi rfl) (pv (r_irm rfl rfl (by decide)) (pv (r_ib rfl rfl rfl) (nil (t_then ?_)))))
  refine cnd rfl (fun hb1 => ?_) (fun hb1 => ?_)
  · have hm := ctrue hb1 hm
    refine skp (t_then ?_)
    refine blk ?_
    have hm := Option.some.inj hm
    subst hm
    exact rg (pv (r_mi rfl) (pv (r_ib rfl rfl rfl) (pv (r_zi rfl) (nil (t_blk (t_then ⟨m1, Nat.lt_succ_self _, _, _, (IntKind.wrap .i64 (x1 + 1)), env_has ⟨rfl, trivial⟩, im1, hS1.sel [0] rfl, hn1⟩))))))
  · have hm := cfalse hb1 hm
    have hm := Option.some.inj hm
    subst hm
    have hn1 : _ = Lp.brk _ := hn1
    subst hn1
    have hm := thn_brk hq1
    refine xt (x_then (x_then (x_eq (t_then ?_))))
    refine sq2 ?_
    refine rg (pv (r_mi rfl) (pv (r_zi rfl) (nil (t_thenR [(2, .int .i64 x1)] ⟨rfl, trivial⟩ fun J => ?_))))
    have hm := Option.some.inj hm
    subst hm
    exact rtn (ret1 rfl rfl ⟨_, rfl, _, im1, ⟨rfl, hS1.sel [0] rfl, trivial⟩⟩)

set_option maxRecDepth 100000 in
set_option maxHeartbeats 1000000 in
theorem ref14_Place_sim {g : World} {T0 : Nat → Prop} {w0 : World} {R : Assn} {p0 : List GSlot} {a1 : Option Addr} {c1 : Nat} {r : (List Int) × Int} (hS : Sep g T0 w0 [R]) (h1 : SlR rGSlot T0 w0 (.slice a1 (List.length p0) c1) p0) (hm : ref14_Place p0 = some r) :
    Calls Try.prog 17 #[.slice a1 (List.length p0) c1] w0 (RetS T0 w0 fun T w v => ∃ (a5 : Option Addr) (n4 : Nat) (c5 : Nat), v = .tuple #[.slice a5 n4 c5, .int .i64 r.2] ∧ Sep g T w [R, ownA (rInt .i64) 3 (.slice a5 n4 c5) r.1] ∧ True) := by
  refine enter (args := [.slice a1 (List.length p0) c1]) Try.func17 rfl Try.ntmps17 rfl fun J => ?_
  unfold ref14_Place at hm
  refine sq2 ?_
  refine rg (pv (r_zs rfl) (pv (r_zi rfl) (nil (t_then ?_))))
  refine sq2 ?_
  refine rg (pv (r_zs rfl) (nil (t_then ?_)))
  refine sq2 ?_
  refine rg (pv (r_zi rfl) (nil (t_then ?_)))
  refine sq2 ?_
  refine sq2 ?_
  refine rg (pv (r_zi rfl) (nil (t_then ?_)))
  obtain ⟨o1, ho1, hq1⟩ := bindS hm
  obtain ⟨bd1, hbd1, ho1⟩ := loop_open ho1
  have hS1 := hS.nilO (rInt .i64) 3
  refine blk (wp_loop_ghost (fun m a w1 => ∃ (J : Nat → Value) (T1 : Nat → Prop) (x1 : List Int) (a2 : Option Addr) (n1 : Nat) (c2 : Nat) (x2 : Int) (x3 : Int), a = env (nf 27) J [(0, .slice a1 (List.length p0) c1), (4, .slice a2 n1 c2), (5, .int .i64 x2), (6, .int .i64 x3)] ∧ Im T0 w0 T1 w1 ∧ Sep g T1 w1 [ownA (rInt .i64) 3 (.slice a2 n1 c2) x1, R] ∧ loopM bd1 m (x1, x2, x3) = some o1) NN ⟨_, _, [], _, _, _, 0, 0, env_has ⟨rfl, rfl, rfl, rfl, trivial⟩, Im.refl, hS1.sel [0, 1] rfl, ho1⟩ ?_)
  rintro m _ w1 ⟨J, T1, x1, a2, n1, c2, x2, x3, rfl, im1, hS2, ho1⟩
  obtain ⟨m1, z1, rfl, hm, hn1⟩ := loop_round ho1
  rw [hbd1] at hm
  refine sq2 ?_
  refine sq2 ?_
  refine rg (pv (r_mi rfl) (pv (r_ms rfl) (pv (r_ln rfl Try.underlying22) (pv (r_ib rfl rfl rfl) (nil (t_then ?_))))))
  refine cnd rfl (fun hb1 => ?_) (fun hb1 => ?_)
  · have hm := ctrue hb1 hm
    refine skp (t_then ?_)
    refine sq2 ?_
    refine blk ?_
    refine sq2 ?_
    refine rg (pv (r_ms rfl) (pv (r_mi rfl) (wl rfl (bsS (r := (rInt .i64)) (l := ([x2] : List Int)) (css := [[.int .i64 x2]]) hS2 Try.underlying29 Try.sizeOf3 Try.zeroValue3 rfl rfl (by kernel_rfl) rfl ⟨rfl, trivial⟩ rfl rfl fun w2 a3 n2 c3 im2 hS3 => ?_))))
    obtain ⟨z_1, hro1, hm⟩ := bindS hm
    refine wl rfl (apO (q := 1) (l := x1) (us := ([x2] : List Int)) hS3 ⟨rfl, rfl⟩ rfl rfl (hS3.own (i := 0) ⟨rfl, rfl⟩).v Try.underlying29 el3 (room_some hro1) fun w3 a4 n3 c4 im3 hS4 => ?_)
    have hS4 : Sep g T1 w3 [ownA (rInt .i64) 3 (.slice a3 n2 c3) ([x2] : List Int), ownA (rInt .i64) 3 (.slice a4 n3 c4) (x1 ++ ([x2] : List Int)), R] := hS4
    refine pv (r_zs rfl) (nil (t_thenR [(0, .slice a1 (List.length p0) c1), (4, .slice a4 n3 c4), (5, .int .i64 x2), (6, .int .i64 x3)] ⟨rfl, rfl, rfl, rfl, trivial⟩ fun J => ?_))
    obtain ⟨u1, hx1, hm⟩ := bindS hm
    obtain ⟨b1, of1, cs1, k1, cp1, hv1, hp1, hl1, he1, hr1, hc1, hT1⟩ := (h1.mono (Im.trans im1 (Im.trans im2 im3))).ixT hx1 rfl
    cases rGSlot_open hr1
    obtain ⟨y1, hx2, hm⟩ := bindS hm
    refine rg (pv (r_mi rfl) (pv (r_ms rfl) (pv (r_mi rfl) (pv (r_ixe hv1 rfl Try.underlying22 Try.sizeOf42 hp1 hl1 he1) (pv (r_fa rfl Try.underlying42 rfl Try.sizeOf3 rfl) (pv (r_ld rfl Try.isAgg3 (hc1.get (j := 1) rfl)) (pv (r_ib rfl rfl rfl) (wl rfl (calS cf21 rfl (ref14_next_sim (p0 := IntKind.wrap .i64 (x2 + u1.Size)) (hS4.bun [1, 2] [] rfl)  hx2) rfl fun v1 T2 w4 im4 rv1 => ?_)))))))))
    obtain ⟨rfl, hS5, _⟩ := rv1
    have hS5 : Sep g T2 w4 [ownA (rInt .i64) 3 (.slice a4 n3 c4) (x1 ++ ([x2] : List Int)), R] := hS5.unb
    refine pv (r_zi rfl) (nil (t_blk (t_thenR [(0, .slice a1 (List.length p0) c1), (4, .slice a4 n3 c4), (5, .int .i64 y1), (6, .int .i64 x3)] ⟨rfl, rfl, rfl, rfl, trivial⟩ fun J => ?_)))
    have hm := Option.some.inj hm
    subst hm
    exact rg (pv (r_mi rfl) (pv (r_ib rfl rfl rfl) (pv (r_zi rfl) (nil (t_then ⟨m1, Nat.lt_succ_self _, _, _, (x1 ++ ([x2] : List Int)), _, _, _, y1, (IntKind.wrap .i64 (x3 + 1)), env_has ⟨rfl, rfl, rfl, rfl, trivial⟩, (Im.trans im1 (Im.trans im2 (Im.trans im3 im4))), hS5.sel [0, 1] rfl, hn1⟩)))))
  · have hm := cfalse hb1 hm
    have hm := Option.some.inj hm
    subst hm
    have hn1 : _ = Lp.brk _ := hn1
    subst hn1
    have hm := thn_brk hq1
    refine xt (x_then (x_then (x_eq (t_thenR [(4, .slice a2 n1 c2), (5, .int .i64 x2)] ⟨rfl, rfl, trivial⟩ fun J => ?_))))
    refine sq2 ?_
    refine rg (pv (r_ms rfl) (pv (r_mi rfl) (pv (r_zs rfl) (pv (r_zi rfl) (nil (t_then ?_))))))
    have hm := Option.some.inj hm
    subst hm
    exact rtn (retN (vs := [.slice a2 n1 c2, .int .i64 x2]) rfl ⟨rfl, rfl, trivial⟩ rfl ⟨_, rfl, _, im1, ⟨_, _, _, rfl, hS2.sel [1, 0] rfl, trivial⟩⟩)

set_option maxRecDepth 100000 in
set_option maxHeartbeats 1000000 in
theorem ref25_Lay_sim {g : World} {T0 : Nat → Prop} {w0 : World} {R : Assn} {p0 : Proc} {a1 : Option Addr} {c1 : Nat} {a2 : Option Addr} {c2 : Nat} {p1 : List Seat} {a3 : Option Addr} {c3 : Nat} {p2 : Int} {r : GFrame × Int} (hS : Sep g T0 w0 [R]) (h1 : SlR rGSlot T0 w0 (.slice a1 (List.length p0.Objects) c1) p0.Objects) (h2 : SlR rGBlock T0 w0 (.slice a2 (List.length p0.Blocks) c2) p0.Blocks) (h3 : SlR rSeat T0 w0 (.slice a3 (List.length p1) c3) p1) (hm : ref25_Lay p0 p1 p2 = some r) :
    Calls Try.prog 8 #[.agg #[.string ⟨p0.Name.toArray⟩, .bool p0.Void, .int .i64 p0.Params, .int .i64 p0.Regs, .slice a1 (List.length p0.Objects) c1, .slice a2 (List.length p0.Blocks) c2], .slice a3 (List.length p1) c3, .int .i64 p2] w0 (RetS T0 w0 fun T w v => ∃ (a10 : Option Addr) (c10 : Nat) (a11 : Option Addr) (c11 : Nat), v = .tuple #[.agg #[.int .i64 r.1.Size, .slice a10 (List.length r.1.Saved) c10, .int .i64 r.1.Slots, .slice a11 (List.length r.1.Objects) c11], .int .i64 r.2] ∧ Sep g T w [R] ∧ SlR (rInt .i64) T w (.slice a10 (List.length r.1.Saved) c10) r.1.Saved ∧ SlR (rInt .i64) T w (.slice a11 (List.length r.1.Objects) c11) r.1.Objects ∧ True) := by
  refine enter (args := [.agg #[.string ⟨p0.Name.toArray⟩, .bool p0.Void, .int .i64 p0.Params, .int .i64 p0.Regs, .slice a1 (List.length p0.Objects) c1, .slice a2 (List.length p0.Blocks) c2], .slice a3 (List.length p1) c3, .int .i64 p2]) Try.func8 rfl Try.ntmps8 rfl fun J => ?_
  unfold ref25_Lay at hm
  refine sq2 ?_
  refine rg (wl rfl (bxS (cs := [.string ⟨p0.Name.toArray⟩, .bool p0.Void, .int .i64 p0.Params, .int .i64 p0.Regs, .slice a1 (List.length p0.Objects) c1, .slice a2 (List.length p0.Blocks) c2]) rfl rfl hS fun w1 b1 im1 hS1 => ?_))
  refine wl rfl (alS (zs := [.int .i64 0, .slice none 0 0, .int .i64 0, .slice none 0 0]) Try.zeroValue31 rfl hS1 fun w2 b2 im2 hS2 => ?_)
  refine pv (r_zi rfl) (nil (t_then ?_))
  refine sq2 ?_
  refine sq2 ?_
  refine rg (pv (r_mi rfl) (pv (r_ib rfl rfl rfl) (pv (r_mb rfl) (?_))))
  rcases Bool.eq_false_or_eq_true (decide (p2 < 0)) with hb1 | hb1
  · have hm := ctrue hb1 hm
    refine gF (d0 := 15) rfl rfl (by rw [hb1]; rfl) (gF (d0 := 15) rfl rfl (by rw [hb1]; rfl) (gF (d0 := 15) rfl rfl (by rw [hb1]; rfl) (gF (d0 := 15) rfl rfl (by rw [hb1]; rfl) (gF (d0 := 15) rfl rfl (by rw [hb1]; rfl) (pv (r_pkt rfl hb1 rfl) (nil (t_thenR [(1, .slice a3 (List.length p1) c3), (2, .int .i64 p2), (3, .pointer (some ⟨b1, 0, none⟩)), (6, .pointer (some ⟨b2, 0, none⟩)), (21, .bool true)] ⟨rfl, rfl, rfl, rfl, rfl, trivial⟩ fun J => ?_)))))))
    refine cnd (b := true) rfl (fun _ => ?_) (fun h => nomatch h)
    refine sq2 ?_
    refine rg (pv (r_bd (by kernel_rfl) rfl (u := .agg #[.int .i64 0, .slice none 0 0, .int .i64 0, .slice none 0 0])) (wl rfl (st0B (q := 0) hS2 ⟨rfl, rfl⟩ rfl rfl rfl Try.sizeOf31 rfl rfl rfl fun w18 im20 hS21 => ?_)))
    have hS21 : Sep g T0 w18 [boxA b2 [.int .i64 0, .slice none 0 0, .int .i64 0, .slice none 0 0], boxA b1 [.string ⟨p0.Name.toArray⟩, .bool p0.Void, .int .i64 p0.Params, .int .i64 p0.Regs, .slice a1 (List.length p0.Objects) c1, .slice a2 (List.length p0.Blocks) c2], R] := hS21
    refine pv (r_zi rfl) (nil (t_thenR [(6, .pointer (some ⟨b2, 0, none⟩)), (7, .int .i64 1)] ⟨rfl, rfl, trivial⟩ fun J => ?_))
    have hm := Option.some.inj hm
    subst hm
    exact rtn (r_then (retN (vs := [.agg #[.int .i64 0, .slice none 0 0, .int .i64 0, .slice none 0 0], .int .i64 1]) rfl ⟨rvS rfl Try.isAgg31 Try.sizeOf31 rfl (hS21.bx (i := 0) ⟨rfl, rfl⟩), rfl, trivial⟩ rfl ⟨_, rfl, _, (Im.trans im1 (Im.trans im2 im20)), ⟨_, _, _, _, rfl, hS21.sel [2] rfl, SlR_nil, SlR_nil, trivial⟩⟩))
  · have hm := cfalse hb1 hm
    refine gT (d0 := 15) rfl rfl hb1 (pv (r_ms rfl) (gT (d0 := 15) rfl rfl hb1 (pv (r_ln rfl Try.underlying26) (gT (d0 := 15) rfl rfl hb1 (pv (r_fa rfl Try.underlying25 rfl Try.sizeOf3 rfl) (gT (d0 := 15) rfl rfl hb1 (pv (r_ld rfl Try.isAgg3 (hS2.cell0 (i := 1) ⟨rfl, rfl⟩ (j := 3) rfl)) (gT (d0 := 15) rfl rfl hb1 (pv (r_ib rfl rfl rfl) (pv (r_pkf rfl hb1 rfl) (nil (t_thenR [(1, .slice a3 (List.length p1) c3), (2, .int .i64 p2), (3, .pointer (some ⟨b1, 0, none⟩)), (6, .pointer (some ⟨b2, 0, none⟩)), (21, .bool ((List.length p1 : Int) != p0.Regs))] ⟨rfl, rfl, rfl, rfl, rfl, trivial⟩ fun J => ?_))))))))))))
    refine cnd rfl (fun hb2 => ?_) (fun hb2 => ?_)
    · have hm := ctrue hb2 hm
      refine sq2 ?_
      refine rg (pv (r_bd (by kernel_rfl) rfl (u := .agg #[.int .i64 0, .slice none 0 0, .int .i64 0, .slice none 0 0])) (wl rfl (st0B (q := 0) hS2 ⟨rfl, rfl⟩ rfl rfl rfl Try.sizeOf31 rfl rfl rfl fun w3 im3 hS3 => ?_)))
      have hS3 : Sep g T0 w3 [boxA b2 [.int .i64 0, .slice none 0 0, .int .i64 0, .slice none 0 0], boxA b1 [.string ⟨p0.Name.toArray⟩, .bool p0.Void, .int .i64 p0.Params, .int .i64 p0.Regs, .slice a1 (List.length p0.Objects) c1, .slice a2 (List.length p0.Blocks) c2], R] := hS3
      refine pv (r_zi rfl) (nil (t_thenR [(6, .pointer (some ⟨b2, 0, none⟩)), (7, .int .i64 1)] ⟨rfl, rfl, trivial⟩ fun J => ?_))
      have hm := Option.some.inj hm
      subst hm
      exact rtn (r_then (retN (vs := [.agg #[.int .i64 0, .slice none 0 0, .int .i64 0, .slice none 0 0], .int .i64 1]) rfl ⟨rvS rfl Try.isAgg31 Try.sizeOf31 rfl (hS3.bx (i := 0) ⟨rfl, rfl⟩), rfl, trivial⟩ rfl ⟨_, rfl, _, (Im.trans im1 (Im.trans im2 im3)), ⟨_, _, _, _, rfl, hS3.sel [2] rfl, SlR_nil, SlR_nil, trivial⟩⟩))
    · have hm := cfalse hb2 hm
      refine skp (t_then ?_)
      refine sq2 ?_
      refine sq2 ?_
      refine rg (pv (r_mi rfl) (pv (r_ib rfl rfl rfl) (nil (t_then ?_))))
      refine cnd rfl (fun hb3 => ?_) (fun hb3 => ?_)
      · have hm := ctrue hb3 hm
        refine sq2 ?_
        refine rg (pv (r_bd (by kernel_rfl) rfl (u := .agg #[.int .i64 0, .slice none 0 0, .int .i64 0, .slice none 0 0])) (wl rfl (st0B (q := 0) hS2 ⟨rfl, rfl⟩ rfl rfl rfl Try.sizeOf31 rfl rfl rfl fun w4 im4 hS4 => ?_)))
        have hS4 : Sep g T0 w4 [boxA b2 [.int .i64 0, .slice none 0 0, .int .i64 0, .slice none 0 0], boxA b1 [.string ⟨p0.Name.toArray⟩, .bool p0.Void, .int .i64 p0.Params, .int .i64 p0.Regs, .slice a1 (List.length p0.Objects) c1, .slice a2 (List.length p0.Blocks) c2], R] := hS4
        refine pv (r_zi rfl) (nil (t_thenR [(6, .pointer (some ⟨b2, 0, none⟩)), (7, .int .i64 2)] ⟨rfl, rfl, trivial⟩ fun J => ?_))
        have hm := Option.some.inj hm
        subst hm
        exact rtn (r_then (retN (vs := [.agg #[.int .i64 0, .slice none 0 0, .int .i64 0, .slice none 0 0], .int .i64 2]) rfl ⟨rvS rfl Try.isAgg31 Try.sizeOf31 rfl (hS4.bx (i := 0) ⟨rfl, rfl⟩), rfl, trivial⟩ rfl ⟨_, rfl, _, (Im.trans im1 (Im.trans im2 im4)), ⟨_, _, _, _, rfl, hS4.sel [2] rfl, SlR_nil, SlR_nil, trivial⟩⟩))
      · have hm := cfalse hb3 hm
        refine skp (t_then ?_)
        refine sq2 ?_
        obtain ⟨y1, hx1, hm⟩ := bindS hm
        refine rg (pv (r_ms rfl) (wl rfl (calS cf16 rfl (ref25_Saved_sim (p0 := p1) (hS2.bun [0, 1, 2] [] rfl) (h3.mono (Im.trans im1 im2)) hx1) rfl fun v1 T1 w5 im5 rv1 => ?_)))
        obtain ⟨a4, n1, c4, rfl, hS5, _⟩ := rv1
        have hS5 : Sep g T1 w5 [boxA b2 [.int .i64 0, .slice none 0 0, .int .i64 0, .slice none 0 0], boxA b1 [.string ⟨p0.Name.toArray⟩, .bool p0.Void, .int .i64 p0.Params, .int .i64 p0.Regs, .slice a1 (List.length p0.Objects) c1, .slice a2 (List.length p0.Blocks) c2], R, ownA (rInt .i64) 3 (.slice a4 n1 c4) y1] := hS5.unb
        refine pv (r_bd (by kernel_rfl) rfl (u := .agg #[.int .i64 0, .slice a4 n1 c4, .int .i64 0, .slice none 0 0])) (wl rfl (alS (zs := [.int .i64 0, .slice none 0 0, .int .i64 0, .slice none 0 0]) Try.zeroValue31 rfl hS5 fun w6 b3 im6 hS6 => ?_))
        refine wl rfl (st0B (q := 0) hS6 ⟨rfl, rfl⟩ rfl rfl rfl Try.sizeOf31 rfl rfl rfl fun w7 im7 hS7 => ?_)
        have hS7 : Sep g T1 w7 [boxA b3 [.int .i64 0, .slice a4 n1 c4, .int .i64 0, .slice none 0 0], boxA b2 [.int .i64 0, .slice none 0 0, .int .i64 0, .slice none 0 0], boxA b1 [.string ⟨p0.Name.toArray⟩, .bool p0.Void, .int .i64 p0.Params, .int .i64 p0.Regs, .slice a1 (List.length p0.Objects) c1, .slice a2 (List.length p0.Blocks) c2], R, ownA (rInt .i64) 3 (.slice a4 n1 c4) y1] := hS7
        refine nil (t_thenR [(2, .int .i64 p2), (3, .pointer (some ⟨b1, 0, none⟩)), (6, .pointer (some ⟨b2, 0, none⟩)), (8, .pointer (some ⟨b3, 0, none⟩))] ⟨rfl, rfl, rfl, rfl, trivial⟩ fun J => ?_)
        refine sq2 ?_
        refine rg (pv (r_fa rfl Try.underlying31 rfl Try.sizeOf29 rfl) (pv (r_ld rfl Try.isAgg29 (hS7.cell0 (i := 0) ⟨rfl, rfl⟩ (j := 1) rfl)) (pv (r_lnV rfl (hS7.own (i := 4) ⟨rfl, rfl⟩).v Try.underlying29) (pv (r_ib rfl rfl rfl) (pv (r_ib rfl rfl rfl) (pv (r_fa rfl Try.underlying31 rfl Try.sizeOf3 rfl) (wl rfl (st0B (q := 0) hS7 ⟨rfl, rfl⟩ rfl rfl rfl Try.sizeOf3 rfl rfl rfl fun w8 im8 hS8 => ?_))))))))
        have hS8 : Sep g T1 w8 [boxA b3 [.int .i64 0, .slice a4 n1 c4, .int .i64 (IntKind.wrap .i64 (4 + (IntKind.wrap .i64 (4 * (List.length y1 : Int))))), .slice none 0 0], boxA b2 [.int .i64 0, .slice none 0 0, .int .i64 0, .slice none 0 0], boxA b1 [.string ⟨p0.Name.toArray⟩, .bool p0.Void, .int .i64 p0.Params, .int .i64 p0.Regs, .slice a1 (List.length p0.Objects) c1, .slice a2 (List.length p0.Blocks) c2], R, ownA (rInt .i64) 3 (.slice a4 n1 c4) y1] := hS8
        refine nil (t_thenR [(2, .int .i64 p2), (3, .pointer (some ⟨b1, 0, none⟩)), (6, .pointer (some ⟨b2, 0, none⟩)), (8, .pointer (some ⟨b3, 0, none⟩))] ⟨rfl, rfl, rfl, rfl, trivial⟩ fun J => ?_)
        refine sq2 ?_
        obtain ⟨y2, hx2, hm⟩ := bindS hm
        refine rg (pv (r_fa rfl Try.underlying25 rfl Try.sizeOf22 rfl) (pv (r_ld rfl Try.isAgg22 (hS8.cell0 (i := 2) ⟨rfl, rfl⟩ (j := 4) rfl)) (wl rfl (calS cf17 rfl (ref14_Place_sim (p0 := p0.Objects) (hS8.bun [0, 1, 3, 4] [] rfl) (h1.mono (Im.trans im1 (Im.trans im2 (Im.trans im5 (Im.trans im6 (Im.trans im7 im8)))))) hx2) rfl fun v2 T2 w9 im9 rv2 => ?_))))
        obtain ⟨a5, n2, c5, rfl, hS9, _⟩ := rv2
        have hS9 : Sep g T2 w9 [boxA b3 [.int .i64 0, .slice a4 n1 c4, .int .i64 (IntKind.wrap .i64 (4 + (IntKind.wrap .i64 (4 * (List.length y1 : Int))))), .slice none 0 0], boxA b2 [.int .i64 0, .slice none 0 0, .int .i64 0, .slice none 0 0], R, ownA (rInt .i64) 3 (.slice a4 n1 c4) y1, ownA (rInt .i64) 3 (.slice a5 n2 c5) y2.1] := hS9.unb
        refine pv (r_mv rfl) (pv (r_ex (v := .slice a5 n2 c5) rfl rfl) (pv (r_ex (v := .int .i64 y2.2) rfl rfl) (pv (r_zs rfl) (pv (r_zi rfl) (nil (t_thenR [(2, .int .i64 p2), (6, .pointer (some ⟨b2, 0, none⟩)), (8, .pointer (some ⟨b3, 0, none⟩)), (9, .slice a5 n2 c5), (10, .int .i64 y2.2)] ⟨rfl, rfl, rfl, rfl, rfl, trivial⟩ fun J => ?_))))))
        refine sq2 ?_
        refine rg (pv (r_fa rfl Try.underlying31 rfl Try.sizeOf3 rfl) (pv (r_ld rfl Try.isAgg3 (hS9.cell0 (i := 0) ⟨rfl, rfl⟩ (j := 2) rfl)) (pv (r_mi rfl) (pv (r_ib rfl rfl rfl) (pv (r_ib rfl rfl rfl) (pv (r_zi rfl) (nil (t_thenR [(6, .pointer (some ⟨b2, 0, none⟩)), (8, .pointer (some ⟨b3, 0, none⟩)), (9, .slice a5 n2 c5), (10, .int .i64 y2.2), (11, .int .i64 (IntKind.wrap .i64 ((IntKind.wrap .i64 (4 + (IntKind.wrap .i64 (4 * (List.length y1 : Int))))) + (IntKind.wrap .i64 (4 * p2)))))] ⟨rfl, rfl, rfl, rfl, rfl, trivial⟩ fun J => ?_))))))))
        refine sq2 ?_
        refine sq2 ?_
        refine rg (pv (r_zi rfl) (nil (t_then ?_)))
        obtain ⟨o1, ho1, hq1⟩ := bindS hm
        obtain ⟨bd1, hbd1, ho1⟩ := loop_open ho1
        have hS10 := hS9.nilO (rInt .i64) 3
        refine blk (wp_loop_ghost (fun m a w10 => ∃ (J : Nat → Value) (T3 : Nat → Prop) (x4 : GFrame) (a6 : Option Addr) (n3 : Nat) (c6 : Nat) (a7 : Option Addr) (n4 : Nat) (c7 : Nat) (x3 : Int), a = env (nf 72) J [(6, .pointer (some ⟨b2, 0, none⟩)), (8, .pointer (some ⟨b3, 0, none⟩)), (9, .slice a5 n2 c5), (10, .int .i64 y2.2), (11, .int .i64 (IntKind.wrap .i64 ((IntKind.wrap .i64 (4 + (IntKind.wrap .i64 (4 * (List.length y1 : Int))))) + (IntKind.wrap .i64 (4 * p2))))), (12, .int .i64 x3)] ∧ Im T2 w9 T3 w10 ∧ Sep g T3 w10 [ownA (rInt .i64) 3 (.slice a6 n3 c6) x4.Objects, boxA b3 [.int .i64 x4.Size, .slice a7 n4 c7, .int .i64 x4.Slots, .slice a6 n3 c6], boxA b2 [.int .i64 0, .slice none 0 0, .int .i64 0, .slice none 0 0], R, ownA (rInt .i64) 3 (.slice a7 n4 c7) x4.Saved, ownA (rInt .i64) 3 (.slice a5 n2 c5) y2.1] ∧ loopM bd1 m (x3, x4) = some o1) NN ⟨_, _, (⟨0, y1, IntKind.wrap .i64 (4 + (IntKind.wrap .i64 (4 * (List.length y1 : Int)))), []⟩ : GFrame), _, _, _, _, _, _, 0, env_has ⟨rfl, rfl, rfl, rfl, rfl, rfl, trivial⟩, Im.refl, hS10.sel [0, 1, 2, 3, 4, 5] rfl, ho1⟩ ?_)
        rintro m _ w10 ⟨J, T3, x4, a6, n3, c6, a7, n4, c7, x3, rfl, im10, hS11, ho1⟩
        obtain ⟨m1, z1, rfl, hm, hn1⟩ := loop_round ho1
        rw [hbd1] at hm
        refine sq2 ?_
        refine sq2 ?_
        refine rg (pv (r_mi rfl) (pv (r_ms rfl) (pv (r_lnV rfl (hS11.own (i := 5) ⟨rfl, rfl⟩).v Try.underlying29) (pv (r_ib rfl rfl rfl) (nil (t_then ?_))))))
        refine cnd rfl (fun hb4 => ?_) (fun hb4 => ?_)
        · have hm := ctrue hb4 hm
          refine skp (t_then ?_)
          refine sq2 ?_
          refine blk ?_
          refine rs [0, 1, 0, 0, 0, 0, 1, 0, 2, 2, 0, 2] [0, 1, 2, 3, 4, 5, 6, 7, 8, 9, 10, 11] mix (by kernel_rfl) hS11.lt fun w11 i1 => ?_
          have im11 := i1.imm
          have hS12 := hS11.keep i1 (fun _ h => h)
          obtain ⟨u1, hx3, hm⟩ := bindS hm
          obtain ⟨b4, of1, cs1, k1, cp1, hv1, hp1, hl1, he1, hr1, hc1⟩ := (hS12.own (i := 5) ⟨rfl, rfl⟩).v.ixq hx3 rfl
          cases hr1
          refine s0 rfl trivial (fun _ => r_fa rfl Try.underlying31 rfl Try.sizeOf29 rfl) rfl (s1 rfl trivial (r_ld rfl Try.isAgg29 (hS12.cell0 (i := 1) ⟨rfl, rfl⟩ (j := 3) rfl)) rfl (s0 rfl trivial (fun _ => r_mi rfl) rfl (s0 rfl trivial (fun _ => r_ms rfl) rfl (s0 rfl trivial (fun _ => r_mi rfl) rfl (s0 rfl trivial (fun _ => r_ixe hv1 rfl Try.underlying29 Try.sizeOf3 hp1 hl1 he1) rfl (s1 rfl trivial (r_ld rfl Try.isAgg3 (hc1.get (j := 0) rfl)) rfl (s0 rfl trivial (fun _ => r_ib rfl rfl rfl) rfl (s2 [(1, .slice a6 n3 c6)] rfl trivial rfl (by kernel_rfl) (bsS (r := (rInt .i64)) (l := ([IntKind.wrap .i64 ((IntKind.wrap .i64 ((IntKind.wrap .i64 (4 + (IntKind.wrap .i64 (4 * (List.length y1 : Int))))) + (IntKind.wrap .i64 (4 * p2)))) + u1)] : List Int)) (css := [[.int .i64 (IntKind.wrap .i64 ((IntKind.wrap .i64 ((IntKind.wrap .i64 (4 + (IntKind.wrap .i64 (4 * (List.length y1 : Int))))) + (IntKind.wrap .i64 (4 * p2)))) + u1))]]) hS12 Try.underlying29 Try.sizeOf3 Try.zeroValue3 rfl rfl (by kernel_rfl) rfl ⟨rfl, trivial⟩ rfl rfl fun w12 a8 n5 c8 im12 hS13 => ?_)))))))))
          refine ⟨st1 rfl (r_ld rfl Try.isAgg29 (hS13.cell0 (i := 2) ⟨rfl, rfl⟩ (j := 3) rfl)) (st0), ?_⟩
          obtain ⟨z_1, hro1, hm⟩ := bindS hm
          refine s2 [] rfl trivial rfl (by kernel_rfl) (apO (q := 1) (l := x4.Objects) (us := ([IntKind.wrap .i64 ((IntKind.wrap .i64 ((IntKind.wrap .i64 (4 + (IntKind.wrap .i64 (4 * (List.length y1 : Int))))) + (IntKind.wrap .i64 (4 * p2)))) + u1)] : List Int)) hS13 ⟨rfl, rfl⟩ rfl rfl (hS13.own (i := 0) ⟨rfl, rfl⟩).v Try.underlying29 el3 (room_some hro1) fun w13 a9 n6 c9 im13 hS14 => ?_)
          have hS14 : Sep g T3 w13 [ownA (rInt .i64) 3 (.slice a8 n5 c8) ([IntKind.wrap .i64 ((IntKind.wrap .i64 ((IntKind.wrap .i64 (4 + (IntKind.wrap .i64 (4 * (List.length y1 : Int))))) + (IntKind.wrap .i64 (4 * p2)))) + u1)] : List Int), ownA (rInt .i64) 3 (.slice a9 n6 c9) (x4.Objects ++ ([IntKind.wrap .i64 ((IntKind.wrap .i64 ((IntKind.wrap .i64 (4 + (IntKind.wrap .i64 (4 * (List.length y1 : Int))))) + (IntKind.wrap .i64 (4 * p2)))) + u1)] : List Int)), boxA b3 [.int .i64 x4.Size, .slice a7 n4 c7, .int .i64 x4.Slots, .slice a6 n3 c6], boxA b2 [.int .i64 0, .slice none 0 0, .int .i64 0, .slice none 0 0], R, ownA (rInt .i64) 3 (.slice a7 n4 c7) x4.Saved, ownA (rInt .i64) 3 (.slice a5 n2 c5) y2.1] := hS14
          refine ⟨st0, ?_⟩
          refine s0 rfl trivial (fun _ => r_fa rfl Try.underlying31 rfl Try.sizeOf29 rfl) rfl (s2 [] rfl trivial rfl (by kernel_rfl) (st0B (q := 2) hS14 ⟨rfl, rfl⟩ rfl rfl rfl Try.sizeOf29 rfl rfl rfl fun w14 im14 hS15 => ?_))
          have hS15 : Sep g T3 w14 [ownA (rInt .i64) 3 (.slice a8 n5 c8) ([IntKind.wrap .i64 ((IntKind.wrap .i64 ((IntKind.wrap .i64 (4 + (IntKind.wrap .i64 (4 * (List.length y1 : Int))))) + (IntKind.wrap .i64 (4 * p2)))) + u1)] : List Int), ownA (rInt .i64) 3 (.slice a9 n6 c9) (x4.Objects ++ ([IntKind.wrap .i64 ((IntKind.wrap .i64 ((IntKind.wrap .i64 (4 + (IntKind.wrap .i64 (4 * (List.length y1 : Int))))) + (IntKind.wrap .i64 (4 * p2)))) + u1)] : List Int)), boxA b3 [.int .i64 x4.Size, .slice a7 n4 c7, .int .i64 x4.Slots, .slice a9 n6 c9], boxA b2 [.int .i64 0, .slice none 0 0, .int .i64 0, .slice none 0 0], R, ownA (rInt .i64) 3 (.slice a7 n4 c7) x4.Saved, ownA (rInt .i64) 3 (.slice a5 n2 c5) y2.1] := hS15
          refine ⟨st0, ?_⟩
          refine se (t_blk (t_thenR [(6, .pointer (some ⟨b2, 0, none⟩)), (8, .pointer (some ⟨b3, 0, none⟩)), (9, .slice a5 n2 c5), (10, .int .i64 y2.2), (11, .int .i64 (IntKind.wrap .i64 ((IntKind.wrap .i64 (4 + (IntKind.wrap .i64 (4 * (List.length y1 : Int))))) + (IntKind.wrap .i64 (4 * p2))))), (12, .int .i64 x3)] ⟨rfl, rfl, rfl, rfl, rfl, rfl, trivial⟩ fun J => ?_))
          have hm := Option.some.inj hm
          subst hm
          exact rg (pv (r_mi rfl) (pv (r_ib rfl rfl rfl) (pv (r_zi rfl) (nil (t_then ⟨m1, Nat.lt_succ_self _, _, _, ({ x4 with Objects := x4.Objects ++ ([IntKind.wrap .i64 ((IntKind.wrap .i64 ((IntKind.wrap .i64 (4 + (IntKind.wrap .i64 (4 * (List.length y1 : Int))))) + (IntKind.wrap .i64 (4 * p2)))) + u1)] : List Int) }), _, _, _, _, _, _, (IntKind.wrap .i64 (x3 + 1)), env_has ⟨rfl, rfl, rfl, rfl, rfl, rfl, trivial⟩, (Im.trans im10 (Im.trans im11 (Im.trans im12 (Im.trans im13 im14)))), hS15.sel [1, 2, 3, 4, 5, 6] rfl, hn1⟩)))))
        · have hm := cfalse hb4 hm
          have hm := Option.some.inj hm
          subst hm
          have hn1 : _ = Lp.brk _ := hn1
          subst hn1
          have hm := thn_brk hq1
          refine xt (x_then (x_then (x_eq (t_thenR [(6, .pointer (some ⟨b2, 0, none⟩)), (8, .pointer (some ⟨b3, 0, none⟩)), (10, .int .i64 y2.2), (11, .int .i64 (IntKind.wrap .i64 ((IntKind.wrap .i64 (4 + (IntKind.wrap .i64 (4 * (List.length y1 : Int))))) + (IntKind.wrap .i64 (4 * p2)))))] ⟨rfl, rfl, rfl, rfl, trivial⟩ fun J => ?_))))
          refine sq2 ?_
          refine rg (pv (r_mi rfl) (pv (r_mi rfl) (pv (r_ib rfl rfl rfl) (pv (r_fa rfl Try.underlying31 rfl Try.sizeOf3 rfl) (wl rfl (st0B (q := 1) hS11 ⟨rfl, rfl⟩ rfl rfl rfl Try.sizeOf3 rfl rfl rfl fun w15 im15 hS16 => ?_))))))
          have hS16 : Sep g T3 w15 [ownA (rInt .i64) 3 (.slice a6 n3 c6) x4.Objects, boxA b3 [.int .i64 (IntKind.wrap .i64 ((IntKind.wrap .i64 ((IntKind.wrap .i64 (4 + (IntKind.wrap .i64 (4 * (List.length y1 : Int))))) + (IntKind.wrap .i64 (4 * p2)))) + y2.2)), .slice a7 n4 c7, .int .i64 x4.Slots, .slice a6 n3 c6], boxA b2 [.int .i64 0, .slice none 0 0, .int .i64 0, .slice none 0 0], R, ownA (rInt .i64) 3 (.slice a7 n4 c7) x4.Saved, ownA (rInt .i64) 3 (.slice a5 n2 c5) y2.1] := hS16
          refine nil (t_thenR [(6, .pointer (some ⟨b2, 0, none⟩)), (8, .pointer (some ⟨b3, 0, none⟩))] ⟨rfl, rfl, trivial⟩ fun J => ?_)
          refine sq2 ?_
          refine sq2 ?_
          refine rg (pv (r_fa rfl Try.underlying31 rfl Try.sizeOf3 rfl) (pv (r_ld rfl Try.isAgg3 (hS16.cell0 (i := 1) ⟨rfl, rfl⟩ (j := 0) rfl)) (pv (r_ib rfl rfl rfl) (nil (t_then ?_)))))
          refine cnd rfl (fun hb5 => ?_) (fun hb5 => ?_)
          · have hm := ctrue hb5 hm
            refine sq2 ?_
            refine rg (pv (r_bd (by kernel_rfl) rfl (u := .agg #[.int .i64 0, .slice none 0 0, .int .i64 0, .slice none 0 0])) (wl rfl (st0B (q := 2) hS16 ⟨rfl, rfl⟩ rfl rfl rfl Try.sizeOf31 rfl rfl rfl fun w16 im16 hS17 => ?_)))
            have hS17 : Sep g T3 w16 [ownA (rInt .i64) 3 (.slice a6 n3 c6) x4.Objects, boxA b3 [.int .i64 (IntKind.wrap .i64 ((IntKind.wrap .i64 ((IntKind.wrap .i64 (4 + (IntKind.wrap .i64 (4 * (List.length y1 : Int))))) + (IntKind.wrap .i64 (4 * p2)))) + y2.2)), .slice a7 n4 c7, .int .i64 x4.Slots, .slice a6 n3 c6], boxA b2 [.int .i64 0, .slice none 0 0, .int .i64 0, .slice none 0 0], R, ownA (rInt .i64) 3 (.slice a7 n4 c7) x4.Saved, ownA (rInt .i64) 3 (.slice a5 n2 c5) y2.1] := hS17
            refine pv (r_zi rfl) (nil (t_thenR [(6, .pointer (some ⟨b2, 0, none⟩)), (7, .int .i64 2)] ⟨rfl, rfl, trivial⟩ fun J => ?_))
            have hm := Option.some.inj hm
            subst hm
            exact rtn (r_then (retN (vs := [.agg #[.int .i64 0, .slice none 0 0, .int .i64 0, .slice none 0 0], .int .i64 2]) rfl ⟨rvS rfl Try.isAgg31 Try.sizeOf31 rfl (hS17.bx (i := 2) ⟨rfl, rfl⟩), rfl, trivial⟩ rfl ⟨_, rfl, _, (Im.trans im1 (Im.trans im2 (Im.trans im5 (Im.trans im6 (Im.trans im7 (Im.trans im8 (Im.trans im9 (Im.trans im10 (Im.trans im15 im16))))))))), ⟨_, _, _, _, rfl, hS17.sel [3] rfl, SlR_nil, SlR_nil, trivial⟩⟩))
          · have hm := cfalse hb5 hm
            refine skp (t_then ?_)
            refine sq2 ?_
            refine rg (pv (r_ldS rfl Try.isAgg31 Try.sizeOf31 rfl (hS16.cells0 (i := 1) ⟨rfl, rfl⟩ (o := 0) rfl) (cs := [.int .i64 (IntKind.wrap .i64 ((IntKind.wrap .i64 ((IntKind.wrap .i64 (4 + (IntKind.wrap .i64 (4 * (List.length y1 : Int))))) + (IntKind.wrap .i64 (4 * p2)))) + y2.2)), .slice a7 n4 c7, .int .i64 x4.Slots, .slice a6 n3 c6])) (wl rfl (st0B (q := 2) hS16 ⟨rfl, rfl⟩ rfl rfl rfl Try.sizeOf31 rfl rfl rfl fun w17 im17 hS18 => ?_)))
            have hS18 : Sep g T3 w17 [ownA (rInt .i64) 3 (.slice a6 n3 c6) x4.Objects, boxA b3 [.int .i64 (IntKind.wrap .i64 ((IntKind.wrap .i64 ((IntKind.wrap .i64 (4 + (IntKind.wrap .i64 (4 * (List.length y1 : Int))))) + (IntKind.wrap .i64 (4 * p2)))) + y2.2)), .slice a7 n4 c7, .int .i64 x4.Slots, .slice a6 n3 c6], boxA b2 [.int .i64 (IntKind.wrap .i64 ((IntKind.wrap .i64 ((IntKind.wrap .i64 (4 + (IntKind.wrap .i64 (4 * (List.length y1 : Int))))) + (IntKind.wrap .i64 (4 * p2)))) + y2.2)), .slice a7 n4 c7, .int .i64 x4.Slots, .slice a6 n3 c6], R, ownA (rInt .i64) 3 (.slice a7 n4 c7) x4.Saved, ownA (rInt .i64) 3 (.slice a5 n2 c5) y2.1] := hS18
            refine pv (r_zi rfl) (nil (t_thenR [(6, .pointer (some ⟨b2, 0, none⟩)), (7, .int .i64 0)] ⟨rfl, rfl, trivial⟩ fun J => ?_))
            obtain ⟨T4, im18, hS19, h4⟩ := hS18.seal 4 ⟨rfl, rfl⟩
            have hsh := h4.len
            subst hsh
            have hS19 : Sep g T4 w17 [ownA (rInt .i64) 3 (.slice a6 n3 c6) x4.Objects, boxA b3 [.int .i64 (IntKind.wrap .i64 ((IntKind.wrap .i64 ((IntKind.wrap .i64 (4 + (IntKind.wrap .i64 (4 * (List.length y1 : Int))))) + (IntKind.wrap .i64 (4 * p2)))) + y2.2)), .slice a7 (List.length x4.Saved) c7, .int .i64 x4.Slots, .slice a6 n3 c6], boxA b2 [.int .i64 (IntKind.wrap .i64 ((IntKind.wrap .i64 ((IntKind.wrap .i64 (4 + (IntKind.wrap .i64 (4 * (List.length y1 : Int))))) + (IntKind.wrap .i64 (4 * p2)))) + y2.2)), .slice a7 (List.length x4.Saved) c7, .int .i64 x4.Slots, .slice a6 n3 c6], R, empA, ownA (rInt .i64) 3 (.slice a5 n2 c5) y2.1] := hS19
            obtain ⟨T5, im19, hS20, h5⟩ := hS19.seal 0 ⟨rfl, rfl⟩
            have hsh := h5.len
            subst hsh
            have hS20 : Sep g T5 w17 [empA, boxA b3 [.int .i64 (IntKind.wrap .i64 ((IntKind.wrap .i64 ((IntKind.wrap .i64 (4 + (IntKind.wrap .i64 (4 * (List.length y1 : Int))))) + (IntKind.wrap .i64 (4 * p2)))) + y2.2)), .slice a7 (List.length x4.Saved) c7, .int .i64 x4.Slots, .slice a6 (List.length x4.Objects) c6], boxA b2 [.int .i64 (IntKind.wrap .i64 ((IntKind.wrap .i64 ((IntKind.wrap .i64 (4 + (IntKind.wrap .i64 (4 * (List.length y1 : Int))))) + (IntKind.wrap .i64 (4 * p2)))) + y2.2)), .slice a7 (List.length x4.Saved) c7, .int .i64 x4.Slots, .slice a6 (List.length x4.Objects) c6], R, empA, ownA (rInt .i64) 3 (.slice a5 n2 c5) y2.1] := hS20
            have hm := Option.some.inj hm
            subst hm
            exact rtn (retN (vs := [.agg #[.int .i64 (IntKind.wrap .i64 ((IntKind.wrap .i64 ((IntKind.wrap .i64 (4 + (IntKind.wrap .i64 (4 * (List.length y1 : Int))))) + (IntKind.wrap .i64 (4 * p2)))) + y2.2)), .slice a7 (List.length x4.Saved) c7, .int .i64 x4.Slots, .slice a6 (List.length x4.Objects) c6], .int .i64 0]) rfl ⟨rvS rfl Try.isAgg31 Try.sizeOf31 rfl (hS20.bx (i := 2) ⟨rfl, rfl⟩), rfl, trivial⟩ rfl ⟨_, rfl, _, (Im.trans im1 (Im.trans im2 (Im.trans im5 (Im.trans im6 (Im.trans im7 (Im.trans im8 (Im.trans im9 (Im.trans im10 (Im.trans im15 (Im.trans im17 (Im.trans im18 im19))))))))))), ⟨_, _, _, _, rfl, hS20.sel [3] rfl, (h4.mono im19), h5, trivial⟩⟩)

set_option maxRecDepth 100000 in
set_option maxHeartbeats 1000000 in
theorem law25_same_sim {g : World} {T0 : Nat → Prop} {w0 : World} {R : Assn} {p0 : List Int} {a1 : Option Addr} {c1 : Nat} {p1 : List Int} {a2 : Option Addr} {c2 : Nat} {r : Bool} (hS : Sep g T0 w0 [R]) (h1 : SlR (rInt .i64) T0 w0 (.slice a1 (List.length p0) c1) p0) (h2 : SlR (rInt .i64) T0 w0 (.slice a2 (List.length p1) c2) p1) (hm : law25_same p0 p1 = some r) :
    Calls Try.prog 9 #[.slice a1 (List.length p0) c1, .slice a2 (List.length p1) c2] w0 (RetS T0 w0 fun T w v => v = .bool r ∧ Sep g T w [R] ∧ True) := by
  refine enter (args := [.slice a1 (List.length p0) c1, .slice a2 (List.length p1) c2]) Try.func9 rfl Try.ntmps9 rfl fun J => ?_
  unfold law25_same at hm
  refine sq2 ?_
  refine rg (pv (r_zb rfl) (nil (t_then ?_)))
  refine sq2 ?_
  refine sq2 ?_
  refine rg (pv (r_ms rfl) (pv (r_ln rfl Try.underlying29) (pv (r_ms rfl) (pv (r_ln rfl Try.underlying29) (pv (r_ib rfl rfl rfl) (nil (t_thenR [(0, .slice a1 (List.length p0) c1), (1, .slice a2 (List.length p1) c2), (10, .bool ((List.length p0 : Int) != (List.length p1 : Int)))] ⟨rfl, rfl, rfl, trivial⟩ fun J => ?_)))))))
  refine cnd rfl (fun hb1 => ?_) (fun hb1 => ?_)
  · have hm := ctrue hb1 hm
    refine sq2 ?_
    refine rg (pv (r_zb rfl) (nil (t_then ?_)))
    have hm := Option.some.inj hm
    subst hm
    exact rtn (r_then (ret1 rfl rfl ⟨_, rfl, _, Im.refl, ⟨rfl, hS.sel [0] rfl, trivial⟩⟩))
  · have hm := cfalse hb1 hm
    refine skp (t_then ?_)
    refine sq2 ?_
    refine sq2 ?_
    refine rg (pv (r_zi rfl) (nil (t_then ?_)))
    obtain ⟨o1, ho1, hq1⟩ := bindS hm
    obtain ⟨bd1, hbd1, ho1⟩ := loop_open ho1
    refine blk (wp_loop_ghost (fun m a w1 => ∃ (J : Nat → Value) (T1 : Nat → Prop) (x1 : Int), a = env (nf 26) J [(0, .slice a1 (List.length p0) c1), (1, .slice a2 (List.length p1) c2), (5, .int .i64 x1)] ∧ Im T0 w0 T1 w1 ∧ Sep g T1 w1 [R] ∧ loopM bd1 m x1 = some o1) NN ⟨_, _, 0, env_has ⟨rfl, rfl, rfl, trivial⟩, Im.refl, hS.sel [0] rfl, ho1⟩ ?_)
    rintro m _ w1 ⟨J, T1, x1, rfl, im1, hS1, ho1⟩
    obtain ⟨m1, z1, rfl, hm, hn1⟩ := loop_round ho1
    rw [hbd1] at hm
    refine sq2 ?_
    refine sq2 ?_
    refine rg (pv (r_mi rfl) (pv (r_ms rfl) (pv (r_ln rfl Try.underlying29) (pv (r_ib rfl rfl rfl) (nil (t_then ?_))))))
    refine cnd rfl (fun hb2 => ?_) (fun hb2 => ?_)
    · have hm := ctrue hb2 hm
      refine skp (t_then ?_)
      refine sq2 ?_
      refine blk ?_
      refine sq2 ?_
      obtain ⟨u1, hx1, hm⟩ := bindS hm
      obtain ⟨b1, of1, cs1, k1, cp1, hv1, hp1, hl1, he1, hr1, hc1, hT1⟩ := (h1.mono im1).ixT hx1 rfl
      cases hr1
      obtain ⟨u2, hx2, hm⟩ := bindS hm
      obtain ⟨b2, of2, cs2, k2, cp2, hv2, hp2, hl2, he2, hr2, hc2, hT2⟩ := (h2.mono im1).ixT hx2 rfl
      cases hr2
      refine rq mix (by kernel_rfl) hS1.lt (qv (fun _ hq => r_ms rfl) (qv (fun _ hq => r_mi rfl) (qv (fun _ hq => r_ixe hv1 rfl Try.underlying29 Try.sizeOf3 hp1 hl1 he1) (qv (fun _ hq => r_ld rfl Try.isAgg3 (hq.cell (hc1.get (j := 0) rfl))) (qv (fun _ hq => r_ms rfl) (qv (fun _ hq => r_mi rfl) (qv (fun _ hq => r_ixe hv2 rfl Try.underlying29 Try.sizeOf3 hp2 hl2 he2) (qv (fun _ hq => r_ld rfl Try.isAgg3 (hq.cell (hc2.get (j := 0) rfl))) (qv (fun _ hq => r_ib rfl rfl rfl) (qn fun w2 T2 i1 => ?_))))))))))
      have im2 := i1.imm
      have hS2 := hS1.keep i1 (fun _ h => h)
      refine t_thenR [(0, .slice a1 (List.length p0) c1), (1, .slice a2 (List.length p1) c2), (5, .int .i64 x1), (25, .bool (u1 != u2))] ⟨rfl, rfl, rfl, rfl, trivial⟩ fun J => ?_
      refine cnd rfl (fun hb3 => ?_) (fun hb3 => ?_)
      · have hm := ctrue hb3 hm
        refine sq2 ?_
        refine rg (pv (r_zb rfl) (nil (t_then ?_)))
        have hm := Option.some.inj hm
        subst hm
        have hn1 : _ = Lp.ret _ := hn1
        subst hn1
        have hm := thn_ret hq1
        have hm := Option.some.inj hm
        subst hm
        exact rtn (r_blk (r_then (r_then (r_blk (r_then (ret1 rfl rfl ⟨_, rfl, _, (Im.trans im1 im2), ⟨rfl, hS2.sel [0] rfl, trivial⟩⟩))))))
      · have hm := cfalse hb3 hm
        refine skp (t_blk (t_then ?_))
        have hm := Option.some.inj hm
        subst hm
        exact rg (pv (r_mi rfl) (pv (r_ib rfl rfl rfl) (pv (r_zi rfl) (nil (t_then ⟨m1, Nat.lt_succ_self _, _, _, (IntKind.wrap .i64 (x1 + 1)), env_has ⟨rfl, rfl, rfl, trivial⟩, (Im.trans im1 im2), hS2.sel [0] rfl, hn1⟩)))))
    · have hm := cfalse hb2 hm
      have hm := Option.some.inj hm
      subst hm
      have hn1 : _ = Lp.brk _ := hn1
      subst hn1
      have hm := thn_brk hq1
      refine xt (x_then (x_then (x_eq (t_thenR [] trivial fun J => ?_))))
      refine sq2 ?_
      refine rg (pv (r_zb rfl) (nil (t_then ?_)))
      have hm := Option.some.inj hm
      subst hm
      exact rtn (ret1 rfl rfl ⟨_, rfl, _, im1, ⟨rfl, hS1.sel [0] rfl, trivial⟩⟩)

set_option maxRecDepth 100000 in
set_option maxHeartbeats 1000000 in
theorem law25_FrameLays_sim {g : World} {T0 : Nat → Prop} {w0 : World} {R : Assn} {p0 : Proc} {a1 : Option Addr} {c1 : Nat} {a2 : Option Addr} {c2 : Nat} {p1 : List Seat} {a3 : Option Addr} {c3 : Nat} {p2 : Int} {r : Bool} (hS : Sep g T0 w0 [R]) (h1 : SlR rGSlot T0 w0 (.slice a1 (List.length p0.Objects) c1) p0.Objects) (h2 : SlR rGBlock T0 w0 (.slice a2 (List.length p0.Blocks) c2) p0.Blocks) (h3 : SlR rSeat T0 w0 (.slice a3 (List.length p1) c3) p1) (hm : law25_FrameLays p0 p1 p2 = some r) :
    Calls Try.prog 3 #[.agg #[.string ⟨p0.Name.toArray⟩, .bool p0.Void, .int .i64 p0.Params, .int .i64 p0.Regs, .slice a1 (List.length p0.Objects) c1, .slice a2 (List.length p0.Blocks) c2], .slice a3 (List.length p1) c3, .int .i64 p2] w0 (RetS T0 w0 fun T w v => v = .bool r ∧ Sep g T w [R] ∧ True) := by
  refine enter (args := [.agg #[.string ⟨p0.Name.toArray⟩, .bool p0.Void, .int .i64 p0.Params, .int .i64 p0.Regs, .slice a1 (List.length p0.Objects) c1, .slice a2 (List.length p0.Blocks) c2], .slice a3 (List.length p1) c3, .int .i64 p2]) Try.func3 rfl Try.ntmps3 rfl fun J => ?_
  unfold law25_FrameLays at hm
  refine sq2 ?_
  refine rg (wl rfl (bxS (cs := [.string ⟨p0.Name.toArray⟩, .bool p0.Void, .int .i64 p0.Params, .int .i64 p0.Regs, .slice a1 (List.length p0.Objects) c1, .slice a2 (List.length p0.Blocks) c2]) rfl rfl hS fun w1 b1 im1 hS1 => ?_))
  refine pv (r_zb rfl) (nil (t_then ?_))
  refine sq2 ?_
  refine sq2 ?_
  obtain ⟨y1, hx1, hm⟩ := bindS hm
  refine rg (pv (r_ldS rfl Try.isAgg25 Try.sizeOf25 rfl (hS1.cells0 (i := 0) ⟨rfl, rfl⟩ (o := 0) rfl) (cs := [.string ⟨p0.Name.toArray⟩, .bool p0.Void, .int .i64 p0.Params, .int .i64 p0.Regs, .slice a1 (List.length p0.Objects) c1, .slice a2 (List.length p0.Blocks) c2])) (pv (r_ms rfl) (wl rfl (calS cf5 rfl (law25_few_sim (p0 := p0) (p1 := p1) (hS1.bun [0, 1] [] rfl) (h1.mono im1) (h2.mono im1) (h3.mono im1) hx1) rfl fun v1 T1 w2 im2 rv1 => ?_))))
  obtain ⟨rfl, hS2, _⟩ := rv1
  have hS2 : Sep g T1 w2 [boxA b1 [.string ⟨p0.Name.toArray⟩, .bool p0.Void, .int .i64 p0.Params, .int .i64 p0.Regs, .slice a1 (List.length p0.Objects) c1, .slice a2 (List.length p0.Blocks) c2], R] := hS2.unb
  refine pv (r_nt rfl) (nil (t_thenR [(1, .slice a3 (List.length p1) c3), (2, .int .i64 p2), (3, .pointer (some ⟨b1, 0, none⟩)), (14, .bool (!y1))] ⟨rfl, rfl, rfl, rfl, trivial⟩ fun J => ?_))
  refine cnd rfl (fun hb1 => ?_) (fun hb1 => ?_)
  · have hm := ctrue hb1 hm
    refine sq2 ?_
    obtain ⟨y2, hx2, hm⟩ := bindS hm
    refine rg (wl rfl (calS cf6 rfl (law25_awake_sim  (hS2.bun [1] [] rfl)  hx2) rfl fun v2 T2 w3 im3 rv2 => ?_))
    obtain ⟨rfl, hS3, _⟩ := rv2
    have hS3 : Sep g T2 w3 [R] := hS3.unb
    refine pv (r_zb rfl) (nil (t_thenR [(6, .bool y2)] ⟨rfl, trivial⟩ fun J => ?_))
    have hm := Option.some.inj hm
    subst hm
    exact rtn (r_then (ret1 rfl rfl ⟨_, rfl, _, (Im.trans im1 (Im.trans im2 im3)), ⟨rfl, hS3.sel [0] rfl, trivial⟩⟩))
  · have hm := cfalse hb1 hm
    refine skp (t_then ?_)
    refine sq2 ?_
    obtain ⟨y3, hx3, hm⟩ := bindS hm
    refine rg (pv (r_ldS rfl Try.isAgg25 Try.sizeOf25 rfl (hS2.cells0 (i := 0) ⟨rfl, rfl⟩ (o := 0) rfl) (cs := [.string ⟨p0.Name.toArray⟩, .bool p0.Void, .int .i64 p0.Params, .int .i64 p0.Regs, .slice a1 (List.length p0.Objects) c1, .slice a2 (List.length p0.Blocks) c2])) (pv (r_ms rfl) (pv (r_mi rfl) (wl rfl (calS cf7 rfl (frame_Lay_sim (p0 := p0) (p1 := p1) (p2 := p2) (hS2.bun [0, 1] [] rfl) (h1.mono (Im.trans im1 im2)) (h2.mono (Im.trans im1 im2)) (h3.mono (Im.trans im1 im2)) hx3) rfl fun v3 T3 w4 im4 rv3 => ?_)))))
    obtain ⟨a4, c4, a5, c5, rfl, hS4, h4, h5, _⟩ := rv3
    have hS4 : Sep g T3 w4 [boxA b1 [.string ⟨p0.Name.toArray⟩, .bool p0.Void, .int .i64 p0.Params, .int .i64 p0.Regs, .slice a1 (List.length p0.Objects) c1, .slice a2 (List.length p0.Blocks) c2], R] := hS4.unb
    refine pv (r_mv rfl) (pv (r_ex (v := .agg #[.int .i64 y3.1.Size, .slice a4 (List.length y3.1.Saved) c4, .int .i64 y3.1.Slots, .slice a5 (List.length y3.1.Objects) c5]) rfl rfl) (pv (r_ex (v := .int .i64 y3.2) rfl rfl) (wl rfl (alS (zs := [.int .i64 0, .slice none 0 0, .int .i64 0, .slice none 0 0]) Try.zeroValue31 rfl hS4 fun w5 b2 im5 hS5 => ?_))))
    refine wl rfl (st0B (q := 0) hS5 ⟨rfl, rfl⟩ rfl rfl rfl Try.sizeOf31 rfl rfl rfl fun w6 im6 hS6 => ?_)
    have hS6 : Sep g T3 w6 [boxA b2 [.int .i64 y3.1.Size, .slice a4 (List.length y3.1.Saved) c4, .int .i64 y3.1.Slots, .slice a5 (List.length y3.1.Objects) c5], boxA b1 [.string ⟨p0.Name.toArray⟩, .bool p0.Void, .int .i64 p0.Params, .int .i64 p0.Regs, .slice a1 (List.length p0.Objects) c1, .slice a2 (List.length p0.Blocks) c2], R] := hS6
    refine pv (r_zi rfl) (nil (t_thenR [(1, .slice a3 (List.length p1) c3), (2, .int .i64 p2), (3, .pointer (some ⟨b1, 0, none⟩)), (7, .pointer (some ⟨b2, 0, none⟩)), (8, .int .i64 y3.2)] ⟨rfl, rfl, rfl, rfl, rfl, trivial⟩ fun J => ?_))
    refine sq2 ?_
    obtain ⟨y4, hx4, hm⟩ := bindS hm
    refine rg (pv (r_ldS rfl Try.isAgg25 Try.sizeOf25 rfl (hS6.cells0 (i := 1) ⟨rfl, rfl⟩ (o := 0) rfl) (cs := [.string ⟨p0.Name.toArray⟩, .bool p0.Void, .int .i64 p0.Params, .int .i64 p0.Regs, .slice a1 (List.length p0.Objects) c1, .slice a2 (List.length p0.Blocks) c2])) (pv (r_ms rfl) (pv (r_mi rfl) (wl rfl (calS cf8 rfl (ref25_Lay_sim (p0 := p0) (p1 := p1) (p2 := p2) (hS6.bun [0, 2] [] rfl) (h1.mono (Im.trans im1 (Im.trans im2 (Im.trans im4 (Im.trans im5 im6))))) (h2.mono (Im.trans im1 (Im.trans im2 (Im.trans im4 (Im.trans im5 im6))))) (h3.mono (Im.trans im1 (Im.trans im2 (Im.trans im4 (Im.trans im5 im6))))) hx4) rfl fun v4 T4 w7 im7 rv4 => ?_)))))
    obtain ⟨a6, c6, a7, c7, rfl, hS7, h6, h7, _⟩ := rv4
    have hS7 : Sep g T4 w7 [boxA b2 [.int .i64 y3.1.Size, .slice a4 (List.length y3.1.Saved) c4, .int .i64 y3.1.Slots, .slice a5 (List.length y3.1.Objects) c5], R] := hS7.unb
    refine pv (r_mv rfl) (pv (r_ex (v := .agg #[.int .i64 y4.1.Size, .slice a6 (List.length y4.1.Saved) c6, .int .i64 y4.1.Slots, .slice a7 (List.length y4.1.Objects) c7]) rfl rfl) (pv (r_ex (v := .int .i64 y4.2) rfl rfl) (wl rfl (alS (zs := [.int .i64 0, .slice none 0 0, .int .i64 0, .slice none 0 0]) Try.zeroValue31 rfl hS7 fun w8 b3 im8 hS8 => ?_))))
    refine wl rfl (st0B (q := 0) hS8 ⟨rfl, rfl⟩ rfl rfl rfl Try.sizeOf31 rfl rfl rfl fun w9 im9 hS9 => ?_)
    have hS9 : Sep g T4 w9 [boxA b3 [.int .i64 y4.1.Size, .slice a6 (List.length y4.1.Saved) c6, .int .i64 y4.1.Slots, .slice a7 (List.length y4.1.Objects) c7], boxA b2 [.int .i64 y3.1.Size, .slice a4 (List.length y3.1.Saved) c4, .int .i64 y3.1.Slots, .slice a5 (List.length y3.1.Objects) c5], R] := hS9
    refine pv (r_zi rfl) (nil (t_thenR [(7, .pointer (some ⟨b2, 0, none⟩)), (8, .int .i64 y3.2), (9, .pointer (some ⟨b3, 0, none⟩)), (10, .int .i64 y4.2)] ⟨rfl, rfl, rfl, rfl, trivial⟩ fun J => ?_))
    refine sq2 ?_
    obtain ⟨y5, hx5, hm⟩ := bindS hm
    refine rg (wl rfl (calS cf6 rfl (law25_awake_sim  (hS9.bun [0, 1, 2] [] rfl)  hx5) rfl fun v5 T5 w10 im10 rv5 => ?_))
    obtain ⟨rfl, hS10, _⟩ := rv5
    have hS10 : Sep g T5 w10 [boxA b3 [.int .i64 y4.1.Size, .slice a6 (List.length y4.1.Saved) c6, .int .i64 y4.1.Slots, .slice a7 (List.length y4.1.Objects) c7], boxA b2 [.int .i64 y3.1.Size, .slice a4 (List.length y3.1.Saved) c4, .int .i64 y3.1.Slots, .slice a5 (List.length y3.1.Objects) c5], R] := hS10.unb
    refine pv (r_mb rfl) (?_)
    rcases Bool.eq_false_or_eq_true y5 with hb2 | hb2
    · have hm := ctrue hb2 hm
      refine gT (d0 := 31) rfl rfl hb2 (pv (r_mi rfl) (gT (d0 := 31) rfl rfl hb2 (pv (r_mi rfl) (gT (d0 := 31) rfl rfl hb2 (pv (r_ib rfl rfl rfl) (pv (r_pkt rfl hb2 rfl) (pv (r_mb rfl) (?_))))))))
      rcases Bool.eq_false_or_eq_true (y3.2 == y4.2) with hb3 | hb3
      · have hm := ctrue hb3 hm
        refine gT (d0 := 36) rfl rfl hb3 (pv (r_fa rfl Try.underlying31 rfl Try.sizeOf3 rfl) (gT (d0 := 36) rfl rfl hb3 (pv (r_ld rfl Try.isAgg3 (hS10.cell0 (i := 1) ⟨rfl, rfl⟩ (j := 0) rfl)) (gT (d0 := 36) rfl rfl hb3 (pv (r_fa rfl Try.underlying31 rfl Try.sizeOf3 rfl) (gT (d0 := 36) rfl rfl hb3 (pv (r_ld rfl Try.isAgg3 (hS10.cell0 (i := 0) ⟨rfl, rfl⟩ (j := 0) rfl)) (gT (d0 := 36) rfl rfl hb3 (pv (r_ib rfl rfl rfl) (pv (r_pkt rfl hb3 rfl) (pv (r_mb rfl) (?_))))))))))))
        rcases Bool.eq_false_or_eq_true (y3.1.Size == y4.1.Size) with hb4 | hb4
        · have hm := ctrue hb4 hm
          refine gT (d0 := 43) rfl rfl hb4 (pv (r_fa rfl Try.underlying31 rfl Try.sizeOf3 rfl) (gT (d0 := 43) rfl rfl hb4 (pv (r_ld rfl Try.isAgg3 (hS10.cell0 (i := 1) ⟨rfl, rfl⟩ (j := 2) rfl)) (gT (d0 := 43) rfl rfl hb4 (pv (r_fa rfl Try.underlying31 rfl Try.sizeOf3 rfl) (gT (d0 := 43) rfl rfl hb4 (pv (r_ld rfl Try.isAgg3 (hS10.cell0 (i := 0) ⟨rfl, rfl⟩ (j := 2) rfl)) (gT (d0 := 43) rfl rfl hb4 (pv (r_ib rfl rfl rfl) (pv (r_pkt rfl hb4 rfl) (pv (r_mb rfl) (?_))))))))))))
          rcases Bool.eq_false_or_eq_true (y3.1.Slots == y4.1.Slots) with hb5 | hb5
          · have hm := ctrue hb5 hm
            obtain ⟨y6, hx6, hm⟩ := bindS hm
            refine gT (d0 := 50) rfl rfl hb5 (pv (r_fa rfl Try.underlying31 rfl Try.sizeOf29 rfl) (gT (d0 := 50) rfl rfl hb5 (pv (r_ld rfl Try.isAgg29 (hS10.cell0 (i := 1) ⟨rfl, rfl⟩ (j := 1) rfl)) (gT (d0 := 50) rfl rfl hb5 (pv (r_fa rfl Try.underlying31 rfl Try.sizeOf29 rfl) (gT (d0 := 50) rfl rfl hb5 (pv (r_ld rfl Try.isAgg29 (hS10.cell0 (i := 0) ⟨rfl, rfl⟩ (j := 1) rfl)) (gT (d0 := 50) rfl rfl hb5 (wl rfl (calS cf9 rfl (law25_same_sim (p0 := y3.1.Saved) (p1 := y4.1.Saved) (hS10.bun [0, 1, 2] [] rfl) (h4.mono (Im.trans im5 (Im.trans im6 (Im.trans im7 (Im.trans im8 (Im.trans im9 im10)))))) (h6.mono (Im.trans im8 (Im.trans im9 im10))) hx6) rfl fun v6 T6 w11 im11 rv6 => ?_))))))))))
            obtain ⟨rfl, hS11, _⟩ := rv6
            have hS11 : Sep g T6 w11 [boxA b3 [.int .i64 y4.1.Size, .slice a6 (List.length y4.1.Saved) c6, .int .i64 y4.1.Slots, .slice a7 (List.length y4.1.Objects) c7], boxA b2 [.int .i64 y3.1.Size, .slice a4 (List.length y3.1.Saved) c4, .int .i64 y3.1.Slots, .slice a5 (List.length y3.1.Objects) c5], R] := hS11.unb
            refine pv (r_pkt rfl hb5 rfl) (pv (r_mb rfl) (?_))
            rcases Bool.eq_false_or_eq_true y6 with hb6 | hb6
            · have hm := ctrue hb6 hm
              obtain ⟨y7, hx7, hm⟩ := bindS hm
              refine gT (d0 := 57) rfl rfl hb6 (pv (r_fa rfl Try.underlying31 rfl Try.sizeOf29 rfl) (gT (d0 := 57) rfl rfl hb6 (pv (r_ld rfl Try.isAgg29 (hS11.cell0 (i := 1) ⟨rfl, rfl⟩ (j := 3) rfl)) (gT (d0 := 57) rfl rfl hb6 (pv (r_fa rfl Try.underlying31 rfl Try.sizeOf29 rfl) (gT (d0 := 57) rfl rfl hb6 (pv (r_ld rfl Try.isAgg29 (hS11.cell0 (i := 0) ⟨rfl, rfl⟩ (j := 3) rfl)) (gT (d0 := 57) rfl rfl hb6 (wl rfl (calS cf9 rfl (law25_same_sim (p0 := y3.1.Objects) (p1 := y4.1.Objects) (hS11.bun [2] [] rfl) (h5.mono (Im.trans im5 (Im.trans im6 (Im.trans im7 (Im.trans im8 (Im.trans im9 (Im.trans im10 im11))))))) (h7.mono (Im.trans im8 (Im.trans im9 (Im.trans im10 im11)))) hx7) rfl fun v7 T7 w12 im12 rv7 => ?_))))))))))
              obtain ⟨rfl, hS12, _⟩ := rv7
              have hS12 : Sep g T7 w12 [R] := hS12.unb
              refine pv (r_pkt rfl hb6 rfl) (pv (r_zb rfl) (nil (t_thenR [(6, .bool y7)] ⟨rfl, trivial⟩ fun J => ?_)))
              have hm := Option.some.inj hm
              subst hm
              exact rtn (ret1 rfl rfl ⟨_, rfl, _, (Im.trans im1 (Im.trans im2 (Im.trans im4 (Im.trans im5 (Im.trans im6 (Im.trans im7 (Im.trans im8 (Im.trans im9 (Im.trans im10 (Im.trans im11 im12)))))))))), ⟨rfl, hS12.sel [0] rfl, trivial⟩⟩)
            · have hm := cfalse hb6 hm
              refine gF (d0 := 57) rfl rfl (by rw [hb6]; rfl) (gF (d0 := 57) rfl rfl (by rw [hb6]; rfl) (gF (d0 := 57) rfl rfl (by rw [hb6]; rfl) (gF (d0 := 57) rfl rfl (by rw [hb6]; rfl) (gF (d0 := 57) rfl rfl (by rw [hb6]; rfl) (pv (r_pkf rfl hb6 rfl) (pv (r_zb rfl) (nil (t_thenR [(6, .bool false)] ⟨rfl, trivial⟩ fun J => ?_))))))))
              have hm := Option.some.inj hm
              subst hm
              exact rtn (ret1 rfl rfl ⟨_, rfl, _, (Im.trans im1 (Im.trans im2 (Im.trans im4 (Im.trans im5 (Im.trans im6 (Im.trans im7 (Im.trans im8 (Im.trans im9 (Im.trans im10 im11))))))))), ⟨rfl, hS11.sel [2] rfl, trivial⟩⟩)
          · have hm := cfalse hb5 hm
            refine gF (d0 := 50) rfl rfl (by rw [hb5]; rfl) (gF (d0 := 50) rfl rfl (by rw [hb5]; rfl) (gF (d0 := 50) rfl rfl (by rw [hb5]; rfl) (gF (d0 := 50) rfl rfl (by rw [hb5]; rfl) (gF (d0 := 50) rfl rfl (by rw [hb5]; rfl) (pv (r_pkf rfl hb5 rfl) (pv (r_mb rfl) (gF (d0 := 57) rfl rfl rfl (gF (d0 := 57) rfl rfl rfl (gF (d0 := 57) rfl rfl rfl (gF (d0 := 57) rfl rfl rfl (gF (d0 := 57) rfl rfl rfl (pv (r_pkf rfl rfl rfl) (pv (r_zb rfl) (nil (t_thenR [(6, .bool false)] ⟨rfl, trivial⟩ fun J => ?_)))))))))))))))
            have hm := Option.some.inj hm
            subst hm
            exact rtn (ret1 rfl rfl ⟨_, rfl, _, (Im.trans im1 (Im.trans im2 (Im.trans im4 (Im.trans im5 (Im.trans im6 (Im.trans im7 (Im.trans im8 (Im.trans im9 im10)))))))), ⟨rfl, hS10.sel [2] rfl, trivial⟩⟩)
        · have hm := cfalse hb4 hm
          refine gF (d0 := 43) rfl rfl (by rw [hb4]; rfl) (gF (d0 := 43) rfl rfl (by rw [hb4]; rfl) (gF (d0 := 43) rfl rfl (by rw [hb4]; rfl) (gF (d0 := 43) rfl rfl (by rw [hb4]; rfl) (gF (d0 := 43) rfl rfl (by rw [hb4]; rfl) (pv (r_pkf rfl hb4 rfl) (pv (r_mb rfl) (gF (d0 := 50) rfl rfl rfl (gF (d0 := 50) rfl rfl rfl (gF (d0 := 50) rfl rfl rfl (gF (d0 := 50) rfl rfl rfl (gF (d0 := 50) rfl rfl rfl (pv (r_pkf rfl rfl rfl) (pv (r_mb rfl) (gF (d0 := 57) rfl rfl rfl (gF (d0 := 57) rfl rfl rfl (gF (d0 := 57) rfl rfl rfl (gF (d0 := 57) rfl rfl rfl (gF (d0 := 57) rfl rfl rfl (pv (r_pkf rfl rfl rfl) (pv (r_zb rfl) (nil (t_thenR [(6, .bool false)] ⟨rfl, trivial⟩ fun J => ?_))))))))))))))))))))))
          have hm := Option.some.inj hm
          subst hm
          exact rtn (ret1 rfl rfl ⟨_, rfl, _, (Im.trans im1 (Im.trans im2 (Im.trans im4 (Im.trans im5 (Im.trans im6 (Im.trans im7 (Im.trans im8 (Im.trans im9 im10)))))))), ⟨rfl, hS10.sel [2] rfl, trivial⟩⟩)
      · have hm := cfalse hb3 hm
        refine gF (d0 := 36) rfl rfl (by rw [hb3]; rfl) (gF (d0 := 36) rfl rfl (by rw [hb3]; rfl) (gF (d0 := 36) rfl rfl (by rw [hb3]; rfl) (gF (d0 := 36) rfl rfl (by rw [hb3]; rfl) (gF (d0 := 36) rfl rfl (by rw [hb3]; rfl) (pv (r_pkf rfl hb3 rfl) (pv (r_mb rfl) (gF (d0 := 43) rfl rfl rfl (gF (d0 := 43) rfl rfl rfl (gF (d0 := 43) rfl rfl rfl (gF (d0 := 43) rfl rfl rfl (gF (d0 := 43) rfl rfl rfl (pv (r_pkf rfl rfl rfl) (pv (r_mb rfl) (gF (d0 := 50) rfl rfl rfl (gF (d0 := 50) rfl rfl rfl (gF (d0 := 50) rfl rfl rfl (gF (d0 := 50) rfl rfl rfl (gF (d0 := 50) rfl rfl rfl (pv (r_pkf rfl rfl rfl) (pv (r_mb rfl) (gF (d0 := 57) rfl rfl rfl (gF (d0 := 57) rfl rfl rfl (gF (d0 := 57) rfl rfl rfl (gF (d0 := 57) rfl rfl rfl (gF (d0 := 57) rfl rfl rfl (pv (r_pkf rfl rfl rfl) (pv (r_zb rfl) (nil (t_thenR [(6, .bool false)] ⟨rfl, trivial⟩ fun J => ?_)))))))))))))))))))))))))))))
        have hm := Option.some.inj hm
        subst hm
        exact rtn (ret1 rfl rfl ⟨_, rfl, _, (Im.trans im1 (Im.trans im2 (Im.trans im4 (Im.trans im5 (Im.trans im6 (Im.trans im7 (Im.trans im8 (Im.trans im9 im10)))))))), ⟨rfl, hS10.sel [2] rfl, trivial⟩⟩)
    · have hm := cfalse hb2 hm
      refine gF (d0 := 31) rfl rfl (by rw [hb2]; rfl) (gF (d0 := 31) rfl rfl (by rw [hb2]; rfl) (gF (d0 := 31) rfl rfl (by rw [hb2]; rfl) (pv (r_pkf rfl hb2 rfl) (pv (r_mb rfl) (gF (d0 := 36) rfl rfl rfl (gF (d0 := 36) rfl rfl rfl (gF (d0 := 36) rfl rfl rfl (gF (d0 := 36) rfl rfl rfl (gF (d0 := 36) rfl rfl rfl (pv (r_pkf rfl rfl rfl) (pv (r_mb rfl) (gF (d0 := 43) rfl rfl rfl (gF (d0 := 43) rfl rfl rfl (gF (d0 := 43) rfl rfl rfl (gF (d0 := 43) rfl rfl rfl (gF (d0 := 43) rfl rfl rfl (pv (r_pkf rfl rfl rfl) (pv (r_mb rfl) (gF (d0 := 50) rfl rfl rfl (gF (d0 := 50) rfl rfl rfl (gF (d0 := 50) rfl rfl rfl (gF (d0 := 50) rfl rfl rfl (gF (d0 := 50) rfl rfl rfl (pv (r_pkf rfl rfl rfl) (pv (r_mb rfl) (gF (d0 := 57) rfl rfl rfl (gF (d0 := 57) rfl rfl rfl (gF (d0 := 57) rfl rfl rfl (gF (d0 := 57) rfl rfl rfl (gF (d0 := 57) rfl rfl rfl (pv (r_pkf rfl rfl rfl) (pv (r_zb rfl) (nil (t_thenR [(6, .bool false)] ⟨rfl, trivial⟩ fun J => ?_))))))))))))))))))))))))))))))))))
      have hm := Option.some.inj hm
      subst hm
      exact rtn (ret1 rfl rfl ⟨_, rfl, _, (Im.trans im1 (Im.trans im2 (Im.trans im4 (Im.trans im5 (Im.trans im6 (Im.trans im7 (Im.trans im8 (Im.trans im9 im10)))))))), ⟨rfl, hS10.sel [2] rfl, trivial⟩⟩)
end Go.Proofs.Ytejhglcbjpdjlaa
