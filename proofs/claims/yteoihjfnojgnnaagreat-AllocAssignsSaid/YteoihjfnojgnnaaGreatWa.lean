/- That Go functions compute their models. Printed by gen2.py. -/
import Derived.Test.YteoihjfnojgnnaaGreatRows
import Derived.Test.YteoihjfnojgnnaaGreatFoc
import Derived.Test.YteoihjfnojgnnaaGreatTree
import Derived.Test.YteoihjfnojgnnaaGreatNest
import Derived.Test.YteoihjfnojgnnaaGreatCut
import Derived.Test.YteoihjfnojgnnaaGreatSeg
import Derived.Test.YteoihjfnojgnnaaGreatArr
import Derived.Test.YteoihjfnojgnnaaGreatM
set_option linter.unusedVariables false
namespace Go.Proofs.YteoihjfnojgnnaaGreat
open _root_.Go.Proofs.Tryz
set_option maxRecDepth 100000
set_option maxHeartbeats 1000000
attribute [local irreducible] wpList wpQuiet Code.wp
variable {g : World} {T0 : Nat → Prop} {w0 : World} {R : Assn}
def rGSlot : Rp GSlot := ((rPair rStr (rPair (rInt .i64) (rPair (rInt .i64) (rInt .i64))))).iso fun x => (x.Name, x.Size, x.Align, x.Cell)
theorem rGSlot_open {T : Nat → Prop} {w : World} {cs : List Value} {x : GSlot} (h : rGSlot.rp T w cs x) : cs = [.string ⟨x.Name.toArray⟩, .int .i64 x.Size, .int .i64 x.Align, .int .i64 x.Cell] := by
  obtain ⟨q1, y1, rfl, f1, g1⟩ := h
  cases f1
  obtain ⟨q2, y2, rfl, f2, g2⟩ := g1
  cases f2
  obtain ⟨q3, y3, rfl, f3, g3⟩ := g2
  cases f3
  cases g3
  exact rfl
theorem rGSlot_mk {T : Nat → Prop} {w : World} {x : GSlot}   : rGSlot.rp T w [.string ⟨x.Name.toArray⟩, .int .i64 x.Size, .int .i64 x.Align, .int .i64 x.Cell] x := ⟨_, _, rfl, rfl, ⟨_, _, rfl, rfl, ⟨_, _, rfl, rfl, rfl⟩⟩⟩
def rIns : Rp Ins := ((rPair (rInt .i64) (rPair (rInt .i64) (rPair (rInt .i64) (rPair (rInt .i64) (rPair (rInt .i64) (rPair (rInt .i64) (rPair (rInt .i64) (rPair (rInt .i64) (rPair (rInt .u32) (rPair (rSl (rInt .i64)) rBool))))))))))).iso fun x => (x.Op, x.D, x.A, x.B, x.Fn, x.Obj, x.Off, x.Size, x.Num, x.Args, x.Log)
theorem rIns_open {T : Nat → Prop} {w : World} {cs : List Value} {x : Ins} (h : rIns.rp T w cs x) : ∃ (a9 : Option Addr) (c9 : Nat), cs = [.int .i64 x.Op, .int .i64 x.D, .int .i64 x.A, .int .i64 x.B, .int .i64 x.Fn, .int .i64 x.Obj, .int .i64 x.Off, .int .i64 x.Size, .int .u32 x.Num, .slice a9 (List.length x.Args) c9, .bool x.Log] ∧ SlR (rInt .i64) T w (.slice a9 (List.length x.Args) c9) x.Args := by
  obtain ⟨q1, y1, rfl, f1, g1⟩ := h
  cases f1
  obtain ⟨q2, y2, rfl, f2, g2⟩ := g1
  cases f2
  obtain ⟨q3, y3, rfl, f3, g3⟩ := g2
  cases f3
  obtain ⟨q4, y4, rfl, f4, g4⟩ := g3
  cases f4
  obtain ⟨q5, y5, rfl, f5, g5⟩ := g4
  cases f5
  obtain ⟨q6, y6, rfl, f6, g6⟩ := g5
  cases f6
  obtain ⟨q7, y7, rfl, f7, g7⟩ := g6
  cases f7
  obtain ⟨q8, y8, rfl, f8, g8⟩ := g7
  cases f8
  obtain ⟨q9, y9, rfl, f9, g9⟩ := g8
  cases f9
  obtain ⟨q10, y10, rfl, f10, g10⟩ := g9
  obtain ⟨v11, rfl, s11⟩ := f10
  obtain ⟨b11, k11, rfl⟩ := s11.shape
  cases g10
  exact ⟨b11, k11, rfl, s11⟩
theorem rIns_mk {T : Nat → Prop} {w : World} {x : Ins} {a9 : Option Addr} {c9 : Nat} (e0 : SlR (rInt .i64) T w (.slice a9 (List.length x.Args) c9) x.Args) : rIns.rp T w [.int .i64 x.Op, .int .i64 x.D, .int .i64 x.A, .int .i64 x.B, .int .i64 x.Fn, .int .i64 x.Obj, .int .i64 x.Off, .int .i64 x.Size, .int .u32 x.Num, .slice a9 (List.length x.Args) c9, .bool x.Log] x := ⟨_, _, rfl, rfl, ⟨_, _, rfl, rfl, ⟨_, _, rfl, rfl, ⟨_, _, rfl, rfl, ⟨_, _, rfl, rfl, ⟨_, _, rfl, rfl, ⟨_, _, rfl, rfl, ⟨_, _, rfl, rfl, ⟨_, _, rfl, rfl, ⟨_, _, rfl, ⟨_, rfl, e0⟩, rfl⟩⟩⟩⟩⟩⟩⟩⟩⟩⟩
def rGBlock : Rp GBlock := ((rPair (rSl rIns) (rPair (rInt .i64) (rPair (rInt .i64) (rPair (rInt .i64) (rInt .i64)))))).iso fun x => (x.Ins, x.End, x.A, x.To, x.Else)
theorem rGBlock_open {T : Nat → Prop} {w : World} {cs : List Value} {x : GBlock} (h : rGBlock.rp T w cs x) : ∃ (a0 : Option Addr) (c0 : Nat), cs = [.slice a0 (List.length x.Ins) c0, .int .i64 x.End, .int .i64 x.A, .int .i64 x.To, .int .i64 x.Else] ∧ SlR rIns T w (.slice a0 (List.length x.Ins) c0) x.Ins := by
  obtain ⟨q1, y1, rfl, f1, g1⟩ := h
  obtain ⟨v2, rfl, s2⟩ := f1
  obtain ⟨b2, k2, rfl⟩ := s2.shape
  obtain ⟨q3, y3, rfl, f3, g3⟩ := g1
  cases f3
  obtain ⟨q4, y4, rfl, f4, g4⟩ := g3
  cases f4
  obtain ⟨q5, y5, rfl, f5, g5⟩ := g4
  cases f5
  cases g5
  exact ⟨b2, k2, rfl, s2⟩
theorem rGBlock_mk {T : Nat → Prop} {w : World} {x : GBlock} {a0 : Option Addr} {c0 : Nat} (e0 : SlR rIns T w (.slice a0 (List.length x.Ins) c0) x.Ins) : rGBlock.rp T w [.slice a0 (List.length x.Ins) c0, .int .i64 x.End, .int .i64 x.A, .int .i64 x.To, .int .i64 x.Else] x := ⟨_, _, rfl, ⟨_, rfl, e0⟩, ⟨_, _, rfl, rfl, ⟨_, _, rfl, rfl, ⟨_, _, rfl, rfl, rfl⟩⟩⟩⟩
def rProc : Rp Proc := ((rPair rStr (rPair rBool (rPair (rInt .i64) (rPair (rInt .i64) (rPair (rSl rGSlot) (rSl rGBlock))))))).iso fun x => (x.Name, x.Void, x.Params, x.Regs, x.Objects, x.Blocks)
theorem rProc_open {T : Nat → Prop} {w : World} {cs : List Value} {x : Proc} (h : rProc.rp T w cs x) : ∃ (a4 : Option Addr) (c4 : Nat) (a5 : Option Addr) (c5 : Nat), cs = [.string ⟨x.Name.toArray⟩, .bool x.Void, .int .i64 x.Params, .int .i64 x.Regs, .slice a4 (List.length x.Objects) c4, .slice a5 (List.length x.Blocks) c5] ∧ SlR rGSlot T w (.slice a4 (List.length x.Objects) c4) x.Objects ∧ SlR rGBlock T w (.slice a5 (List.length x.Blocks) c5) x.Blocks := by
  obtain ⟨q1, y1, rfl, f1, g1⟩ := h
  cases f1
  obtain ⟨q2, y2, rfl, f2, g2⟩ := g1
  cases f2
  obtain ⟨q3, y3, rfl, f3, g3⟩ := g2
  cases f3
  obtain ⟨q4, y4, rfl, f4, g4⟩ := g3
  cases f4
  obtain ⟨q5, y5, rfl, f5, g5⟩ := g4
  obtain ⟨v6, rfl, s6⟩ := f5
  obtain ⟨b6, k6, rfl⟩ := s6.shape
  obtain ⟨v7, rfl, s7⟩ := g5
  obtain ⟨b7, k7, rfl⟩ := s7.shape
  exact ⟨b6, k6, b7, k7, rfl, s6, s7⟩
theorem rProc_mk {T : Nat → Prop} {w : World} {x : Proc} {a4 : Option Addr} {c4 : Nat} {a5 : Option Addr} {c5 : Nat} (e0 : SlR rGSlot T w (.slice a4 (List.length x.Objects) c4) x.Objects) (e1 : SlR rGBlock T w (.slice a5 (List.length x.Blocks) c5) x.Blocks) : rProc.rp T w [.string ⟨x.Name.toArray⟩, .bool x.Void, .int .i64 x.Params, .int .i64 x.Regs, .slice a4 (List.length x.Objects) c4, .slice a5 (List.length x.Blocks) c5] x := ⟨_, _, rfl, rfl, ⟨_, _, rfl, rfl, ⟨_, _, rfl, rfl, ⟨_, _, rfl, rfl, ⟨_, _, rfl, ⟨_, rfl, e0⟩, ⟨_, rfl, e1⟩⟩⟩⟩⟩⟩
def rGModule : Rp GModule := ((rPair (rSl rGSlot) (rPair (rSl (rSl (rInt .u8))) (rPair (rSl rProc) (rInt .i64))))).iso fun x => (x.Globals, x.Data, x.Procs, x.Main)
theorem rGModule_open {T : Nat → Prop} {w : World} {cs : List Value} {x : GModule} (h : rGModule.rp T w cs x) : ∃ (a0 : Option Addr) (c0 : Nat) (a1 : Option Addr) (c1 : Nat) (a2 : Option Addr) (c2 : Nat), cs = [.slice a0 (List.length x.Globals) c0, .slice a1 (List.length x.Data) c1, .slice a2 (List.length x.Procs) c2, .int .i64 x.Main] ∧ SlR rGSlot T w (.slice a0 (List.length x.Globals) c0) x.Globals ∧ SlR (rSl (rInt .u8)) T w (.slice a1 (List.length x.Data) c1) x.Data ∧ SlR rProc T w (.slice a2 (List.length x.Procs) c2) x.Procs := by
  obtain ⟨q1, y1, rfl, f1, g1⟩ := h
  obtain ⟨v2, rfl, s2⟩ := f1
  obtain ⟨b2, k2, rfl⟩ := s2.shape
  obtain ⟨q3, y3, rfl, f3, g3⟩ := g1
  obtain ⟨v4, rfl, s4⟩ := f3
  obtain ⟨b4, k4, rfl⟩ := s4.shape
  obtain ⟨q5, y5, rfl, f5, g5⟩ := g3
  obtain ⟨v6, rfl, s6⟩ := f5
  obtain ⟨b6, k6, rfl⟩ := s6.shape
  cases g5
  exact ⟨b2, k2, b4, k4, b6, k6, rfl, s2, s4, s6⟩
theorem rGModule_mk {T : Nat → Prop} {w : World} {x : GModule} {a0 : Option Addr} {c0 : Nat} {a1 : Option Addr} {c1 : Nat} {a2 : Option Addr} {c2 : Nat} (e0 : SlR rGSlot T w (.slice a0 (List.length x.Globals) c0) x.Globals) (e1 : SlR (rSl (rInt .u8)) T w (.slice a1 (List.length x.Data) c1) x.Data) (e2 : SlR rProc T w (.slice a2 (List.length x.Procs) c2) x.Procs) : rGModule.rp T w [.slice a0 (List.length x.Globals) c0, .slice a1 (List.length x.Data) c1, .slice a2 (List.length x.Procs) c2, .int .i64 x.Main] x := ⟨_, _, rfl, ⟨_, rfl, e0⟩, ⟨_, _, rfl, ⟨_, rfl, e1⟩, ⟨_, _, rfl, ⟨_, rfl, e2⟩, rfl⟩⟩⟩
def rIrLooker : Rp IrLooker := ((rPair rGModule rProc)).iso fun x => (x.m, x.p)
theorem rIrLooker_open {T : Nat → Prop} {w : World} {cs : List Value} {x : IrLooker} (h : rIrLooker.rp T w cs x) : ∃ (a0 : Option Addr) (c0 : Nat) (a1 : Option Addr) (c1 : Nat) (a2 : Option Addr) (c2 : Nat) (a8 : Option Addr) (c8 : Nat) (a9 : Option Addr) (c9 : Nat), cs = [.slice a0 (List.length x.m.Globals) c0, .slice a1 (List.length x.m.Data) c1, .slice a2 (List.length x.m.Procs) c2, .int .i64 x.m.Main, .string ⟨x.p.Name.toArray⟩, .bool x.p.Void, .int .i64 x.p.Params, .int .i64 x.p.Regs, .slice a8 (List.length x.p.Objects) c8, .slice a9 (List.length x.p.Blocks) c9] ∧ SlR rGSlot T w (.slice a0 (List.length x.m.Globals) c0) x.m.Globals ∧ SlR (rSl (rInt .u8)) T w (.slice a1 (List.length x.m.Data) c1) x.m.Data ∧ SlR rProc T w (.slice a2 (List.length x.m.Procs) c2) x.m.Procs ∧ SlR rGSlot T w (.slice a8 (List.length x.p.Objects) c8) x.p.Objects ∧ SlR rGBlock T w (.slice a9 (List.length x.p.Blocks) c9) x.p.Blocks := by
  obtain ⟨q1, y1, rfl, f1, g1⟩ := h
  obtain ⟨b2, k2, b3, k3, b4, k4, rfl, s2, s3, s4⟩ := rGModule_open f1
  obtain ⟨b5, k5, b6, k6, rfl, s5, s6⟩ := rProc_open g1
  exact ⟨b2, k2, b3, k3, b4, k4, b5, k5, b6, k6, rfl, s2, s3, s4, s5, s6⟩
theorem rIrLooker_mk {T : Nat → Prop} {w : World} {x : IrLooker} {a0 : Option Addr} {c0 : Nat} {a1 : Option Addr} {c1 : Nat} {a2 : Option Addr} {c2 : Nat} {a8 : Option Addr} {c8 : Nat} {a9 : Option Addr} {c9 : Nat} (e0 : SlR rGSlot T w (.slice a0 (List.length x.m.Globals) c0) x.m.Globals) (e1 : SlR (rSl (rInt .u8)) T w (.slice a1 (List.length x.m.Data) c1) x.m.Data) (e2 : SlR rProc T w (.slice a2 (List.length x.m.Procs) c2) x.m.Procs) (e3 : SlR rGSlot T w (.slice a8 (List.length x.p.Objects) c8) x.p.Objects) (e4 : SlR rGBlock T w (.slice a9 (List.length x.p.Blocks) c9) x.p.Blocks) : rIrLooker.rp T w [.slice a0 (List.length x.m.Globals) c0, .slice a1 (List.length x.m.Data) c1, .slice a2 (List.length x.m.Procs) c2, .int .i64 x.m.Main, .string ⟨x.p.Name.toArray⟩, .bool x.p.Void, .int .i64 x.p.Params, .int .i64 x.p.Regs, .slice a8 (List.length x.p.Objects) c8, .slice a9 (List.length x.p.Blocks) c9] x := ⟨_, _, rfl, (rGModule_mk e0 e1 e2), (rProc_mk e3 e4)⟩
def rAllocReach : Rp AllocReach := ((rPair (rInt .i64) (rPair (rInt .i64) (rPair (rInt .i64) rBool)))).iso fun x => (x.r, x.from_, x.to, x.is)
theorem rAllocReach_open {T : Nat → Prop} {w : World} {cs : List Value} {x : AllocReach} (h : rAllocReach.rp T w cs x) : cs = [.int .i64 x.r, .int .i64 x.from_, .int .i64 x.to, .bool x.is] := by
  obtain ⟨q1, y1, rfl, f1, g1⟩ := h
  cases f1
  obtain ⟨q2, y2, rfl, f2, g2⟩ := g1
  cases f2
  obtain ⟨q3, y3, rfl, f3, g3⟩ := g2
  cases f3
  cases g3
  exact rfl
theorem rAllocReach_mk {T : Nat → Prop} {w : World} {x : AllocReach}   : rAllocReach.rp T w [.int .i64 x.r, .int .i64 x.from_, .int .i64 x.to, .bool x.is] x := ⟨_, _, rfl, rfl, ⟨_, _, rfl, rfl, ⟨_, _, rfl, rfl, rfl⟩⟩⟩
def rAllocHolder : Rp AllocHolder := ((rPair rAllocReach (rPair (rInt .i64) rBool))).iso fun x => (x.reach, x.came, x.held)
theorem rAllocHolder_open {T : Nat → Prop} {w : World} {cs : List Value} {x : AllocHolder} (h : rAllocHolder.rp T w cs x) : cs = [.int .i64 x.reach.r, .int .i64 x.reach.from_, .int .i64 x.reach.to, .bool x.reach.is, .int .i64 x.came, .bool x.held] := by
  obtain ⟨q1, y1, rfl, f1, g1⟩ := h
  cases rAllocReach_open f1
  obtain ⟨q2, y2, rfl, f2, g2⟩ := g1
  cases f2
  cases g2
  exact rfl
theorem rAllocHolder_mk {T : Nat → Prop} {w : World} {x : AllocHolder}   : rAllocHolder.rp T w [.int .i64 x.reach.r, .int .i64 x.reach.from_, .int .i64 x.reach.to, .bool x.reach.is, .int .i64 x.came, .bool x.held] x := ⟨_, _, rfl, rAllocReach_mk, ⟨_, _, rfl, rfl, rfl⟩⟩
def rSeat : Rp Seat := ((rPair (rInt .i64) (rInt .i64))).iso fun x => (x.Reg, x.Slot)
theorem rSeat_open {T : Nat → Prop} {w : World} {cs : List Value} {x : Seat} (h : rSeat.rp T w cs x) : cs = [.int .i64 x.Reg, .int .i64 x.Slot] := by
  obtain ⟨q1, y1, rfl, f1, g1⟩ := h
  cases f1
  cases g1
  exact rfl
theorem rSeat_mk {T : Nat → Prop} {w : World} {x : Seat}   : rSeat.rp T w [.int .i64 x.Reg, .int .i64 x.Slot] x := ⟨_, _, rfl, rfl, rfl⟩
def rref24Given : Rp ref24Given := ((rPair (rSl rSeat) (rInt .i64))).iso fun x => (x.Seats, x.Slots)
theorem rref24Given_open {T : Nat → Prop} {w : World} {cs : List Value} {x : ref24Given} (h : rref24Given.rp T w cs x) : ∃ (a0 : Option Addr) (c0 : Nat), cs = [.slice a0 (List.length x.Seats) c0, .int .i64 x.Slots] ∧ SlR rSeat T w (.slice a0 (List.length x.Seats) c0) x.Seats := by
  obtain ⟨q1, y1, rfl, f1, g1⟩ := h
  obtain ⟨v2, rfl, s2⟩ := f1
  obtain ⟨b2, k2, rfl⟩ := s2.shape
  cases g1
  exact ⟨b2, k2, rfl, s2⟩
theorem rref24Given_mk {T : Nat → Prop} {w : World} {x : ref24Given} {a0 : Option Addr} {c0 : Nat} (e0 : SlR rSeat T w (.slice a0 (List.length x.Seats) c0) x.Seats) : rref24Given.rp T w [.slice a0 (List.length x.Seats) c0, .int .i64 x.Slots] x := ⟨_, _, rfl, ⟨_, rfl, e0⟩, rfl⟩
def rref24Reach : Rp ref24Reach := ((rPair (rInt .i64) (rPair (rInt .i64) (rPair (rInt .i64) rBool)))).iso fun x => (x.R, x.From, x.To, x.Is)
theorem rref24Reach_open {T : Nat → Prop} {w : World} {cs : List Value} {x : ref24Reach} (h : rref24Reach.rp T w cs x) : cs = [.int .i64 x.R, .int .i64 x.From, .int .i64 x.To, .bool x.Is] := by
  obtain ⟨q1, y1, rfl, f1, g1⟩ := h
  cases f1
  obtain ⟨q2, y2, rfl, f2, g2⟩ := g1
  cases f2
  obtain ⟨q3, y3, rfl, f3, g3⟩ := g2
  cases f3
  cases g3
  exact rfl
theorem rref24Reach_mk {T : Nat → Prop} {w : World} {x : ref24Reach}   : rref24Reach.rp T w [.int .i64 x.R, .int .i64 x.From, .int .i64 x.To, .bool x.Is] x := ⟨_, _, rfl, rfl, ⟨_, _, rfl, rfl, ⟨_, _, rfl, rfl, rfl⟩⟩⟩
def nER39 : En (List Bool) where
  sz := 1
  A := fun x cs => exA fun t : (Option Addr) × Nat × Nat => pA (cs = [.slice (t.1) (t.2.1) (t.2.2)]) (starL [ownA rBool 4 (.slice (t.1) (t.2.1) (t.2.2)) x])
  len := fun h => by obtain ⟨t, h, _⟩ := h; subst h; rfl
  one := fun h c hc => by obtain ⟨t, h, _⟩ := h; subst h; exact (List.all_eq_true (p := Value.oneCell')).1 rfl c hc
def enAllocHolder' (x : AllocHolder) : List Value := [.int .i64 x.reach.r, .int .i64 x.reach.from_, .int .i64 x.reach.to, .bool x.reach.is, .int .i64 x.came, .bool x.held]
theorem enAllocHolder'_len : ∀ x, (enAllocHolder' x).length = 6 := fun _ => rfl
theorem enAllocHolder'_rp (T : Nat → Prop) (w : World) (x : AllocHolder) : rAllocHolder.rp T w (enAllocHolder' x) x := rAllocHolder_mk
theorem cf4 : CallOk Tryz.prog 4 := ⟨⟨_, Tryz.func4, by kernel_rfl, by kernel_rfl⟩⟩
theorem cf5 : CallOk Tryz.prog 5 := ⟨⟨_, Tryz.func5, by kernel_rfl, by kernel_rfl⟩⟩
theorem cf6 : CallOk Tryz.prog 6 := ⟨⟨_, Tryz.func6, by kernel_rfl, by kernel_rfl⟩⟩
theorem cf7 : CallOk Tryz.prog 7 := ⟨⟨_, Tryz.func7, by kernel_rfl, by kernel_rfl⟩⟩
theorem cf8 : CallOk Tryz.prog 8 := ⟨⟨_, Tryz.func8, by kernel_rfl, by kernel_rfl⟩⟩
theorem cf9 : CallOk Tryz.prog 9 := ⟨⟨_, Tryz.func9, by kernel_rfl, by kernel_rfl⟩⟩
theorem cf10 : CallOk Tryz.prog 10 := ⟨⟨_, Tryz.func10, by kernel_rfl, by kernel_rfl⟩⟩
theorem cf11 : CallOk Tryz.prog 11 := ⟨⟨_, Tryz.func11, by kernel_rfl, by kernel_rfl⟩⟩
theorem cf12 : CallOk Tryz.prog 12 := ⟨⟨_, Tryz.func12, by kernel_rfl, by kernel_rfl⟩⟩
theorem cf13 : CallOk Tryz.prog 13 := ⟨⟨_, Tryz.func13, by kernel_rfl, by kernel_rfl⟩⟩
theorem cf14 : CallOk Tryz.prog 14 := ⟨⟨_, Tryz.func14, by kernel_rfl, by kernel_rfl⟩⟩
theorem cf15 : CallOk Tryz.prog 15 := ⟨⟨_, Tryz.func15, by kernel_rfl, by kernel_rfl⟩⟩
theorem cf16 : CallOk Tryz.prog 16 := ⟨⟨_, Tryz.func16, by kernel_rfl, by kernel_rfl⟩⟩
theorem cf17 : CallOk Tryz.prog 17 := ⟨⟨_, Tryz.func17, by kernel_rfl, by kernel_rfl⟩⟩
theorem cf18 : CallOk Tryz.prog 18 := ⟨⟨_, Tryz.func18, by kernel_rfl, by kernel_rfl⟩⟩
theorem cf19 : CallOk Tryz.prog 19 := ⟨⟨_, Tryz.func19, by kernel_rfl, by kernel_rfl⟩⟩
theorem cf20 : CallOk Tryz.prog 20 := ⟨⟨_, Tryz.func20, by kernel_rfl, by kernel_rfl⟩⟩
theorem cf21 : CallOk Tryz.prog 21 := ⟨⟨_, Tryz.func21, by kernel_rfl, by kernel_rfl⟩⟩
theorem cf22 : CallOk Tryz.prog 22 := ⟨⟨_, Tryz.func22, by kernel_rfl, by kernel_rfl⟩⟩
theorem cf23 : CallOk Tryz.prog 23 := ⟨⟨_, Tryz.func23, by kernel_rfl, by kernel_rfl⟩⟩
theorem cf24 : CallOk Tryz.prog 24 := ⟨⟨_, Tryz.func24, by kernel_rfl, by kernel_rfl⟩⟩
theorem cf25 : CallOk Tryz.prog 25 := ⟨⟨_, Tryz.func25, by kernel_rfl, by kernel_rfl⟩⟩
theorem cf26 : CallOk Tryz.prog 26 := ⟨⟨_, Tryz.func26, by kernel_rfl, by kernel_rfl⟩⟩
theorem cf27 : CallOk Tryz.prog 27 := ⟨⟨_, Tryz.func27, by kernel_rfl, by kernel_rfl⟩⟩
theorem cf28 : CallOk Tryz.prog 28 := ⟨⟨_, Tryz.func28, by kernel_rfl, by kernel_rfl⟩⟩
theorem cf29 : CallOk Tryz.prog 29 := ⟨⟨_, Tryz.func29, by kernel_rfl, by kernel_rfl⟩⟩
theorem cf30 : CallOk Tryz.prog 30 := ⟨⟨_, Tryz.func30, by kernel_rfl, by kernel_rfl⟩⟩
theorem cf31 : CallOk Tryz.prog 31 := ⟨⟨_, Tryz.func31, by kernel_rfl, by kernel_rfl⟩⟩
theorem cf32 : CallOk Tryz.prog 32 := ⟨⟨_, Tryz.func32, by kernel_rfl, by kernel_rfl⟩⟩
theorem cf33 : CallOk Tryz.prog 33 := ⟨⟨_, Tryz.func33, by kernel_rfl, by kernel_rfl⟩⟩
theorem cf34 : CallOk Tryz.prog 34 := ⟨⟨_, Tryz.func34, by kernel_rfl, by kernel_rfl⟩⟩
theorem cf35 : CallOk Tryz.prog 35 := ⟨⟨_, Tryz.func35, by kernel_rfl, by kernel_rfl⟩⟩
theorem cf36 : CallOk Tryz.prog 36 := ⟨⟨_, Tryz.func36, by kernel_rfl, by kernel_rfl⟩⟩
theorem cf37 : CallOk Tryz.prog 37 := ⟨⟨_, Tryz.func37, by kernel_rfl, by kernel_rfl⟩⟩
theorem cf38 : CallOk Tryz.prog 38 := ⟨⟨_, Tryz.func38, by kernel_rfl, by kernel_rfl⟩⟩
theorem cf39 : CallOk Tryz.prog 39 := ⟨⟨_, Tryz.func39, by kernel_rfl, by kernel_rfl⟩⟩
theorem cf40 : CallOk Tryz.prog 40 := ⟨⟨_, Tryz.func40, by kernel_rfl, by kernel_rfl⟩⟩
theorem cf41 : CallOk Tryz.prog 41 := ⟨⟨_, Tryz.func41, by kernel_rfl, by kernel_rfl⟩⟩
theorem cf42 : CallOk Tryz.prog 42 := ⟨⟨_, Tryz.func42, by kernel_rfl, by kernel_rfl⟩⟩
theorem cf43 : CallOk Tryz.prog 43 := ⟨⟨_, Tryz.func43, by kernel_rfl, by kernel_rfl⟩⟩
theorem cf44 : CallOk Tryz.prog 44 := ⟨⟨_, Tryz.func44, by kernel_rfl, by kernel_rfl⟩⟩
theorem cf45 : CallOk Tryz.prog 45 := ⟨⟨_, Tryz.func45, by kernel_rfl, by kernel_rfl⟩⟩
theorem cf46 : CallOk Tryz.prog 46 := ⟨⟨_, Tryz.func46, by kernel_rfl, by kernel_rfl⟩⟩
theorem cf47 : CallOk Tryz.prog 47 := ⟨⟨_, Tryz.func47, by kernel_rfl, by kernel_rfl⟩⟩
theorem cf48 : CallOk Tryz.prog 48 := ⟨⟨_, Tryz.func48, by kernel_rfl, by kernel_rfl⟩⟩
theorem cf49 : CallOk Tryz.prog 49 := ⟨⟨_, Tryz.func49, by kernel_rfl, by kernel_rfl⟩⟩
theorem cf50 : CallOk Tryz.prog 50 := ⟨⟨_, Tryz.func50, by kernel_rfl, by kernel_rfl⟩⟩
theorem cf51 : CallOk Tryz.prog 51 := ⟨⟨_, Tryz.func51, by kernel_rfl, by kernel_rfl⟩⟩
theorem cf52 : CallOk Tryz.prog 52 := ⟨⟨_, Tryz.func52, by kernel_rfl, by kernel_rfl⟩⟩
theorem cf53 : CallOk Tryz.prog 53 := ⟨⟨_, Tryz.func53, by kernel_rfl, by kernel_rfl⟩⟩
theorem cf54 : CallOk Tryz.prog 54 := ⟨⟨_, Tryz.func54, by kernel_rfl, by kernel_rfl⟩⟩
theorem cf55 : CallOk Tryz.prog 55 := ⟨⟨_, Tryz.func55, by kernel_rfl, by kernel_rfl⟩⟩
theorem cf57 : CallOk Tryz.prog 57 := ⟨⟨_, Tryz.func57, by kernel_rfl, by kernel_rfl⟩⟩
theorem cf59 : CallOk Tryz.prog 59 := ⟨⟨_, Tryz.func59, by kernel_rfl, by kernel_rfl⟩⟩
theorem cf60 : CallOk Tryz.prog 60 := ⟨⟨_, Tryz.func60, by kernel_rfl, by kernel_rfl⟩⟩
theorem cf61 : CallOk Tryz.prog 61 := ⟨⟨_, Tryz.func61, by kernel_rfl, by kernel_rfl⟩⟩
theorem cf62 : CallOk Tryz.prog 62 := ⟨⟨_, Tryz.func62, by kernel_rfl, by kernel_rfl⟩⟩
theorem cf63 : CallOk Tryz.prog 63 := ⟨⟨_, Tryz.func63, by kernel_rfl, by kernel_rfl⟩⟩
theorem cf64 : CallOk Tryz.prog 64 := ⟨⟨_, Tryz.func64, by kernel_rfl, by kernel_rfl⟩⟩
theorem cf65 : CallOk Tryz.prog 65 := ⟨⟨_, Tryz.func65, by kernel_rfl, by kernel_rfl⟩⟩
theorem cf66 : CallOk Tryz.prog 66 := ⟨⟨_, Tryz.func66, by kernel_rfl, by kernel_rfl⟩⟩
theorem cf67 : CallOk Tryz.prog 67 := ⟨⟨_, Tryz.func67, by kernel_rfl, by kernel_rfl⟩⟩
theorem cf73 : CallOk Tryz.prog 73 := ⟨⟨_, Tryz.func73, by kernel_rfl, by kernel_rfl⟩⟩
theorem cf76 : CallOk Tryz.prog 76 := ⟨⟨_, Tryz.func76, by kernel_rfl, by kernel_rfl⟩⟩
theorem cf77 : CallOk Tryz.prog 77 := ⟨⟨_, Tryz.func77, by kernel_rfl, by kernel_rfl⟩⟩
theorem cf78 : CallOk Tryz.prog 78 := ⟨⟨_, Tryz.func78, by kernel_rfl, by kernel_rfl⟩⟩
theorem cf79 : CallOk Tryz.prog 79 := ⟨⟨_, Tryz.func79, by kernel_rfl, by kernel_rfl⟩⟩
theorem cf80 : CallOk Tryz.prog 80 := ⟨⟨_, Tryz.func80, by kernel_rfl, by kernel_rfl⟩⟩
theorem cf81 : CallOk Tryz.prog 81 := ⟨⟨_, Tryz.func81, by kernel_rfl, by kernel_rfl⟩⟩
theorem cf82 : CallOk Tryz.prog 82 := ⟨⟨_, Tryz.func82, by kernel_rfl, by kernel_rfl⟩⟩
theorem cf83 : CallOk Tryz.prog 83 := ⟨⟨_, Tryz.func83, by kernel_rfl, by kernel_rfl⟩⟩
theorem cf85 : CallOk Tryz.prog 85 := ⟨⟨_, Tryz.func85, by kernel_rfl, by kernel_rfl⟩⟩
theorem cf86 : CallOk Tryz.prog 86 := ⟨⟨_, Tryz.func86, by kernel_rfl, by kernel_rfl⟩⟩
theorem cf87 : CallOk Tryz.prog 87 := ⟨⟨_, Tryz.func87, by kernel_rfl, by kernel_rfl⟩⟩
theorem cf88 : CallOk Tryz.prog 88 := ⟨⟨_, Tryz.func88, by kernel_rfl, by kernel_rfl⟩⟩
theorem cf92 : CallOk Tryz.prog 92 := ⟨⟨_, Tryz.func92, by kernel_rfl, by kernel_rfl⟩⟩
theorem cf93 : CallOk Tryz.prog 93 := ⟨⟨_, Tryz.func93, by kernel_rfl, by kernel_rfl⟩⟩
theorem cf94 : CallOk Tryz.prog 94 := ⟨⟨_, Tryz.func94, by kernel_rfl, by kernel_rfl⟩⟩
theorem cf95 : CallOk Tryz.prog 95 := ⟨⟨_, Tryz.func95, by kernel_rfl, by kernel_rfl⟩⟩
theorem cf96 : CallOk Tryz.prog 96 := ⟨⟨_, Tryz.func96, by kernel_rfl, by kernel_rfl⟩⟩
theorem cf97 : CallOk Tryz.prog 97 := ⟨⟨_, Tryz.func97, by kernel_rfl, by kernel_rfl⟩⟩
theorem cf98 : CallOk Tryz.prog 98 := ⟨⟨_, Tryz.func98, by kernel_rfl, by kernel_rfl⟩⟩
theorem cf100 : CallOk Tryz.prog 100 := ⟨⟨_, Tryz.func100, by kernel_rfl, by kernel_rfl⟩⟩
theorem cf101 : CallOk Tryz.prog 101 := ⟨⟨_, Tryz.func101, by kernel_rfl, by kernel_rfl⟩⟩
theorem cf102 : CallOk Tryz.prog 102 := ⟨⟨_, Tryz.func102, by kernel_rfl, by kernel_rfl⟩⟩
theorem cf103 : CallOk Tryz.prog 103 := ⟨⟨_, Tryz.func103, by kernel_rfl, by kernel_rfl⟩⟩
theorem cf104 : CallOk Tryz.prog 104 := ⟨⟨_, Tryz.func104, by kernel_rfl, by kernel_rfl⟩⟩
theorem cf105 : CallOk Tryz.prog 105 := ⟨⟨_, Tryz.func105, by kernel_rfl, by kernel_rfl⟩⟩
theorem el3 : ElemOk Tryz.prog 3 1 := ⟨by kernel_rfl, by decide⟩
theorem el4 : ElemOk Tryz.prog 4 1 := ⟨by kernel_rfl, by decide⟩
theorem el39 : ElemOk Tryz.prog 39 1 := ⟨by kernel_rfl, by decide⟩
theorem el44 : ElemOk Tryz.prog 44 2 := ⟨by kernel_rfl, by decide⟩
theorem el49 : ElemOk Tryz.prog 49 11 := ⟨by kernel_rfl, by decide⟩
theorem el52 : ElemOk Tryz.prog 52 5 := ⟨by kernel_rfl, by decide⟩
theorem el57 : ElemOk Tryz.prog 57 4 := ⟨by kernel_rfl, by decide⟩
theorem el73 : ElemOk Tryz.prog 73 4 := ⟨by kernel_rfl, by decide⟩
theorem ne_44 (a0 : Int) (a1 : Int) (b0 : Int) (b1 : Int) : ∀ x y w, (do eqGuard .neq 44 x y (.agg #[.int .i64 a0, .int .i64 a1]) (.agg #[.int .i64 b0, .int .i64 b1]); binOp .neq 44 (.agg #[.int .i64 a0, .int .i64 a1]) (.agg #[.int .i64 b0, .int .i64 b1]) : Sem Value).run Tryz.prog w = .ok (.bool (!((a0 == b0) && (a1 == b1)))) w := by
  intro x y w
  simp [go_sem]
  repeat' split
  all_goals simp_all
theorem mix : Tryz.prog.follows .mixedOrders = true := by kernel_rfl
abbrev cIns (x : Ins) (a9 : Option Addr) (c9 : Nat) : List Value := [.int .i64 x.Op, .int .i64 x.D, .int .i64 x.A, .int .i64 x.B, .int .i64 x.Fn, .int .i64 x.Obj, .int .i64 x.Off, .int .i64 x.Size, .int .u32 x.Num, .slice a9 (List.length x.Args) c9, .bool x.Log]
abbrev cGSlot (x : GSlot)  : List Value := [.string ⟨x.Name.toArray⟩, .int .i64 x.Size, .int .i64 x.Align, .int .i64 x.Cell]
abbrev cProc (x : Proc) (a4 : Option Addr) (c4 : Nat) (a5 : Option Addr) (c5 : Nat) : List Value := [.string ⟨x.Name.toArray⟩, .bool x.Void, .int .i64 x.Params, .int .i64 x.Regs, .slice a4 (List.length x.Objects) c4, .slice a5 (List.length x.Blocks) c5]
abbrev cAllocReach (x : AllocReach)  : List Value := [.int .i64 x.r, .int .i64 x.from_, .int .i64 x.to, .bool x.is]
abbrev cAllocHolder (x : AllocHolder)  : List Value := [.int .i64 x.reach.r, .int .i64 x.reach.from_, .int .i64 x.reach.to, .bool x.reach.is, .int .i64 x.came, .bool x.held]
abbrev cref24Reach (x : ref24Reach)  : List Value := [.int .i64 x.R, .int .i64 x.From, .int .i64 x.To, .bool x.Is]
abbrev iv (x : Int) : Value := .int .i64 x
abbrev sv {α : Type} (a : Option Addr) (l : List α) (c : Nat) : Value := .slice a (List.length l) c
abbrev pt (b o : Nat) : Value := .pointer (some ⟨b, o, none⟩)
abbrev OA := Option Addr
abbrev JV := Nat → Value
abbrev TP := Nat → Prop

theorem law13_ins_sim {p0 : Ins} {a1 : OA} {c1 : Nat} {r : Bool} (hS : Sep g T0 w0 [R]) (h1 : SlR (rInt .i64) T0 w0 (sv a1 p0.Args c1) p0.Args) (hm : law13_ins p0 = some r) :
    Calls Tryz.prog 41 #[.agg (cIns p0 a1 c1).toArray] w0 (RetS T0 w0 fun T w v => v = .bool r ∧ Sep g T w [R] ∧ True) := by
  refine enter (args := [.agg (cIns p0 a1 c1).toArray]) Tryz.func41 rfl Tryz.ntmps41 rfl fun J => ?_
  unfold law13_ins at hm
  refine sq2 (rg (wl rfl (bxS (cs := (cIns p0 a1 c1)) rfl rfl hS fun w1 b1 im1 hS1 => ?_)))
  refine pv (r_zb rfl) (nil (t_then ?_))
  refine sq2 (rg (pv (r_fa rfl underlying49 rfl sizeOf3 rfl) (pv (r_ld rfl isAgg3 (hS1.cell0 (i := 0) ⟨rfl, rfl⟩ (j := 0) rfl)) (pv (r_fa rfl underlying49 rfl sizeOf3 rfl) (pv (r_ld rfl isAgg3 (hS1.cell0 (i := 0) ⟨rfl, rfl⟩ (j := 1) rfl)) (pv (r_fa rfl underlying49 rfl sizeOf3 rfl) (pv (r_ld rfl isAgg3 (hS1.cell0 (i := 0) ⟨rfl, rfl⟩ (j := 2) rfl)) (pv (r_fa rfl underlying49 rfl sizeOf3 rfl) (pv (r_ld rfl isAgg3 (hS1.cell0 (i := 0) ⟨rfl, rfl⟩ (j := 3) rfl)) (pv (r_fa rfl underlying49 rfl sizeOf3 rfl) (pv (r_ld rfl isAgg3 (hS1.cell0 (i := 0) ⟨rfl, rfl⟩ (j := 4) rfl)) (pv (r_fa rfl underlying49 rfl sizeOf3 rfl) (pv (r_ld rfl isAgg3 (hS1.cell0 (i := 0) ⟨rfl, rfl⟩ (j := 5) rfl)) (pv (r_fa rfl underlying49 rfl sizeOf3 rfl) (pv (r_ld rfl isAgg3 (hS1.cell0 (i := 0) ⟨rfl, rfl⟩ (j := 6) rfl)) (pv (r_fa rfl underlying49 rfl sizeOf3 rfl) (pv (r_ld rfl isAgg3 (hS1.cell0 (i := 0) ⟨rfl, rfl⟩ (j := 7) rfl)) (wl rfl (bsS (r := (rInt .i64)) (l := ([p0.Op, p0.D, p0.A, p0.B, p0.Fn, p0.Obj, p0.Off, p0.Size] : List Int)) (css := [[iv p0.Op], [iv p0.D], [iv p0.A], [iv p0.B], [iv p0.Fn], [iv p0.Obj], [iv p0.Off], [iv p0.Size]]) hS1 underlying41 sizeOf3 zeroValue3 rfl rfl (by kernel_rfl) rfl ⟨rfl, rfl, rfl, rfl, rfl, rfl, rfl, rfl, trivial⟩ rfl rfl fun w2 a2 n1 c2 im2 hS2 => ?_)))))))))))))))))))
  refine pv (r_zs rfl) (nil (t_then ?_))
  refine sq2 (sq2 (rg (pv (r_zi rfl) (nil (t_then ?_)))))
  obtain ⟨o1, ho1, hq1⟩ := bindS hm
  obtain ⟨bd1, hbd1, ho1⟩ := loop_open ho1
  refine blk (wp_loop_ghost (fun m a w3 => ∃ (J : JV) (T1 : TP) (x1 : Int), a = env (nf 66) J [(1, pt b1 0), (3, .slice a2 n1 c2), (4, iv x1)] ∧ Im T0 w2 T1 w3 ∧ Sep g T1 w3 [ownA (rInt .i64) 3 (.slice a2 n1 c2) ([p0.Op, p0.D, p0.A, p0.B, p0.Fn, p0.Obj, p0.Off, p0.Size] : List Int), boxA b1 (cIns p0 a1 c1), R] ∧ loopM bd1 m x1 = some o1) NN ⟨_, _, 0, env_has ⟨rfl, rfl, rfl, trivial⟩, Im.refl, hS2.sel [0, 1, 2] rfl, ho1⟩ ?_)
  rintro m _ w3 ⟨J, T1, x1, rfl, im3, hS3, ho1⟩
  obtain ⟨m1, z1, rfl, hm, hn1⟩ := loop_round ho1
  rw [hbd1] at hm
  refine sq2 (sq2 (rg (pv (r_mi rfl) (pv (r_ms rfl) (pv (r_lnV rfl (hS3.own (i := 0) ⟨rfl, rfl⟩).v underlying41) (pv (r_ib rfl rfl rfl) (nil (t_then ?_))))))))
  refine cnd rfl (fun hb1 => ?_) (fun hb1 => ?_)
  · have hm := ctrue hb1 hm
    refine skp (t_then ?_)
    refine sq2 (blk (sq2 ?_))
    obtain ⟨u1, hx1, hm⟩ := bindS hm
    obtain ⟨b2, of1, cs1, k1, cp1, hv1, hp1, hl1, he1, hr1, hc1⟩ := (hS3.own (i := 0) ⟨rfl, rfl⟩).v.ixq hx1 rfl
    cases hr1
    refine rg (pv (r_ms rfl) (pv (r_mi rfl) (pv (r_ixe hv1 rfl underlying41 sizeOf3 hp1 hl1 he1) (pv (r_ld rfl isAgg3 (hc1.get (j := 0) rfl)) (pv (r_ib rfl rfl rfl) (pv (r_mb rfl) (?_)))))))
    rcases Bool.eq_false_or_eq_true (decide (1099511627776 < u1)) with hb2 | hb2
    · have hm := ctrue hb2 hm
      refine gF (d0 := 34) rfl rfl (by rw [hb2]; rfl) (gF (d0 := 34) rfl rfl (by rw [hb2]; rfl) (gF (d0 := 34) rfl rfl (by rw [hb2]; rfl) (gF (d0 := 34) rfl rfl (by rw [hb2]; rfl) (gF (d0 := 34) rfl rfl (by rw [hb2]; rfl) (pv (r_pkt rfl hb2 rfl) (nil (t_then ?_)))))))
      refine cnd (b := true) rfl (fun _ => ?_) (fun h => nomatch h)
      refine sq2 (rg (pv (r_zb rfl) (nil (t_then ?_))))
      have hm := oI hm; subst hm
      have hn1 : _ = Lp.ret _ := hn1
      subst hn1
      have hm := thn_ret hq1
      have hm := oI hm; subst hm
      exact rtn (r_blk (r_then (r_then (r_blk (r_then (ret1 rfl rfl ⟨_, rfl, _, (iT im1 (iT im2 im3)), ⟨rfl, hS3.sel [2] rfl, trivial⟩⟩))))))
    have hm := cfalse hb2 hm
    obtain ⟨u2, hx2, hm⟩ := bindS hm
    obtain ⟨b3, of2, cs2, k2, cp2, hv2, hp2, hl2, he2, hr2, hc2⟩ := (hS3.own (i := 0) ⟨rfl, rfl⟩).v.ixq hx2 rfl
    cases hr2
    refine gT (d0 := 34) rfl rfl hb2 (pv (r_ms rfl) (gT (d0 := 34) rfl rfl hb2 (pv (r_mi rfl) (gT (d0 := 34) rfl rfl hb2 (pv (r_ixe hv2 rfl underlying41 sizeOf3 hp2 hl2 he2) (gT (d0 := 34) rfl rfl hb2 (pv (r_ld rfl isAgg3 (hc2.get (j := 0) rfl)) (gT (d0 := 34) rfl rfl hb2 (pv (r_ib rfl rfl rfl) (pv (r_pkf rfl hb2 rfl) (nil (t_then ?_))))))))))))
    refine cnd rfl (fun hb3 => ?_) (fun hb3 => ?_)
    · have hm := ctrue hb3 hm
      refine sq2 (rg (pv (r_zb rfl) (nil (t_then ?_))))
      have hm := oI hm; subst hm
      have hn1 : _ = Lp.ret _ := hn1
      subst hn1
      have hm := thn_ret hq1
      have hm := oI hm; subst hm
      exact rtn (r_blk (r_then (r_then (r_blk (r_then (ret1 rfl rfl ⟨_, rfl, _, (iT im1 (iT im2 im3)), ⟨rfl, hS3.sel [2] rfl, trivial⟩⟩))))))
    have hm := cfalse hb3 hm
    refine skp (t_blk (t_then ?_))
    have hm := oI hm; subst hm
    exact rg (pv (r_mi rfl) (pv (r_ib rfl rfl rfl) (pv (r_zi rfl) (nil (t_then ⟨m1, Nat.lt_succ_self _, _, _, (IntKind.wrap .i64 (x1 + 1)), env_has ⟨rfl, rfl, rfl, trivial⟩, im3, hS3.sel [0, 1, 2] rfl, hn1⟩)))))
  have hm := cfalse hb1 hm
  have hm := oI hm; subst hm
  have hn1 : _ = Lp.brk _ := hn1
  subst hn1
  have hm := thn_brk hq1
  refine xt (x_then (x_then (x_eq (t_then ?_))))
  refine sq2 (sq2 (rg (pv (r_zi rfl) (nil (t_then ?_)))))
  obtain ⟨o1, ho1, hq1⟩ := bindS hm
  obtain ⟨bd1, hbd1, ho1⟩ := loop_open ho1
  refine blk (wp_loop_ghost (fun m a w4 => ∃ (J : JV) (T2 : TP) (x2 : Int), a = env (nf 66) J [(1, pt b1 0), (5, iv x2)] ∧ Im T1 w3 T2 w4 ∧ Sep g T2 w4 [boxA b1 (cIns p0 a1 c1), R] ∧ loopM bd1 m x2 = some o1) NN ⟨_, _, 0, env_has ⟨rfl, rfl, trivial⟩, Im.refl, hS3.sel [1, 2] rfl, ho1⟩ ?_)
  rintro m _ w4 ⟨J, T2, x2, rfl, im4, hS4, ho1⟩
  obtain ⟨m1, z1, rfl, hm, hn1⟩ := loop_round ho1
  rw [hbd1] at hm
  refine sq2 (sq2 (rg (pv (r_mi rfl) (pv (r_fa rfl underlying49 rfl sizeOf41 rfl) (pv (r_ld rfl isAgg41 (hS4.cell0 (i := 0) ⟨rfl, rfl⟩ (j := 9) rfl)) (pv (r_ln rfl underlying41) (pv (r_ib rfl rfl rfl) (nil (t_then ?_)))))))))
  refine cnd rfl (fun hb5 => ?_) (fun hb5 => ?_)
  · have hm := ctrue hb5 hm
    refine skp (t_then ?_)
    refine sq2 (blk (sq2 ?_))
    obtain ⟨u3, hx3, hm⟩ := bindS hm
    obtain ⟨b4, of3, cs3, k3, cp3, hv3, hp3, hl3, he3, hr3, hc3, hT1⟩ := (h1.mono (iT im1 (iT im2 (iT im3 im4)))).ixT hx3 rfl
    cases hr3
    refine rg (pv (r_fa rfl underlying49 rfl sizeOf41 rfl) (pv (r_ld rfl isAgg41 (hS4.cell0 (i := 0) ⟨rfl, rfl⟩ (j := 9) rfl)) (pv (r_mi rfl) (pv (r_ixe hv3 rfl underlying41 sizeOf3 hp3 hl3 he3) (pv (r_ld rfl isAgg3 (hc3.get (j := 0) rfl)) (pv (r_ib rfl rfl rfl) (pv (r_mb rfl) (?_))))))))
    rcases Bool.eq_false_or_eq_true (decide (1099511627776 < u3)) with hb6 | hb6
    · have hm := ctrue hb6 hm
      refine gF (d0 := 54) rfl rfl (by rw [hb6]; rfl) (gF (d0 := 54) rfl rfl (by rw [hb6]; rfl) (gF (d0 := 54) rfl rfl (by rw [hb6]; rfl) (gF (d0 := 54) rfl rfl (by rw [hb6]; rfl) (gF (d0 := 54) rfl rfl (by rw [hb6]; rfl) (gF (d0 := 54) rfl rfl (by rw [hb6]; rfl) (pv (r_pkt rfl hb6 rfl) (nil (t_then ?_))))))))
      refine cnd (b := true) rfl (fun _ => ?_) (fun h => nomatch h)
      refine sq2 (rg (pv (r_zb rfl) (nil (t_then ?_))))
      have hm := oI hm; subst hm
      have hn1 : _ = Lp.ret _ := hn1
      subst hn1
      have hm := thn_ret hq1
      have hm := oI hm; subst hm
      exact rtn (r_blk (r_then (r_then (r_blk (r_then (ret1 rfl rfl ⟨_, rfl, _, (iT im1 (iT im2 (iT im3 im4))), ⟨rfl, hS4.sel [1] rfl, trivial⟩⟩))))))
    have hm := cfalse hb6 hm
    obtain ⟨u4, hx4, hm⟩ := bindS hm
    obtain ⟨b5, of4, cs4, k4, cp4, hv4, hp4, hl4, he4, hr4, hc4, hT2⟩ := (h1.mono (iT im1 (iT im2 (iT im3 im4)))).ixT hx4 rfl
    cases hr4
    refine gT (d0 := 54) rfl rfl hb6 (pv (r_fa rfl underlying49 rfl sizeOf41 rfl) (gT (d0 := 54) rfl rfl hb6 (pv (r_ld rfl isAgg41 (hS4.cell0 (i := 0) ⟨rfl, rfl⟩ (j := 9) rfl)) (gT (d0 := 54) rfl rfl hb6 (pv (r_mi rfl) (gT (d0 := 54) rfl rfl hb6 (pv (r_ixe hv4 rfl underlying41 sizeOf3 hp4 hl4 he4) (gT (d0 := 54) rfl rfl hb6 (pv (r_ld rfl isAgg3 (hc4.get (j := 0) rfl)) (gT (d0 := 54) rfl rfl hb6 (pv (r_ib rfl rfl rfl) (pv (r_pkf rfl hb6 rfl) (nil (t_then ?_))))))))))))))
    refine cnd rfl (fun hb7 => ?_) (fun hb7 => ?_)
    · have hm := ctrue hb7 hm
      refine sq2 (rg (pv (r_zb rfl) (nil (t_then ?_))))
      have hm := oI hm; subst hm
      have hn1 : _ = Lp.ret _ := hn1
      subst hn1
      have hm := thn_ret hq1
      have hm := oI hm; subst hm
      exact rtn (r_blk (r_then (r_then (r_blk (r_then (ret1 rfl rfl ⟨_, rfl, _, (iT im1 (iT im2 (iT im3 im4))), ⟨rfl, hS4.sel [1] rfl, trivial⟩⟩))))))
    have hm := cfalse hb7 hm
    refine skp (t_blk (t_then ?_))
    have hm := oI hm; subst hm
    exact rg (pv (r_mi rfl) (pv (r_ib rfl rfl rfl) (pv (r_zi rfl) (nil (t_then ⟨m1, Nat.lt_succ_self _, _, _, (IntKind.wrap .i64 (x2 + 1)), env_has ⟨rfl, rfl, trivial⟩, im4, hS4.sel [0, 1] rfl, hn1⟩)))))
  have hm := cfalse hb5 hm
  have hm := oI hm; subst hm
  have hn1 : _ = Lp.brk _ := hn1
  subst hn1
  have hm := thn_brk hq1
  refine xt (x_then (x_then (x_eq (t_then ?_))))
  refine sq2 (rg (pv (r_fa rfl underlying49 rfl sizeOf41 rfl) (pv (r_ld rfl isAgg41 (hS4.cell0 (i := 0) ⟨rfl, rfl⟩ (j := 9) rfl)) (pv (r_ln rfl underlying41) (pv (r_ib rfl rfl rfl) (pv (r_zb rfl) (nil (t_then ?_))))))))
  have hm := oI hm; subst hm
  exact rtn (ret1 rfl rfl ⟨_, rfl, _, (iT im1 (iT im2 (iT im3 im4))), ⟨rfl, hS4.sel [1] rfl, trivial⟩⟩)

theorem law13_Few_sim {p0 : GModule} {a1 : OA} {c1 : Nat} {a2 : OA} {c2 : Nat} {a3 : OA} {c3 : Nat} {r : Bool} (hS : Sep g T0 w0 [R]) (h1 : SlR rGSlot T0 w0 (sv a1 p0.Globals c1) p0.Globals) (h2 : SlR (rSl (rInt .u8)) T0 w0 (sv a2 p0.Data c2) p0.Data) (h3 : SlR rProc T0 w0 (sv a3 p0.Procs c3) p0.Procs) (hm : law13_Few p0 = some r) :
    Calls Tryz.prog 23 #[.agg #[sv a1 p0.Globals c1, sv a2 p0.Data c2, sv a3 p0.Procs c3, iv p0.Main]] w0 (RetS T0 w0 fun T w v => v = .bool r ∧ Sep g T w [R] ∧ True) := by
  refine enter (args := [.agg #[sv a1 p0.Globals c1, sv a2 p0.Data c2, sv a3 p0.Procs c3, iv p0.Main]]) Tryz.func23 rfl Tryz.ntmps23 rfl fun J => ?_
  unfold law13_Few at hm
  refine sq2 (rg (wl rfl (bxS (cs := [sv a1 p0.Globals c1, sv a2 p0.Data c2, sv a3 p0.Procs c3, iv p0.Main]) rfl rfl hS fun w1 b1 im1 hS1 => ?_)))
  refine pv (r_zb rfl) (nil (t_then ?_))
  refine sq2 (sq2 (rg (pv (r_fa rfl underlying26 rfl sizeOf24 rfl) (pv (r_ld rfl isAgg24 (hS1.cell0 (i := 0) ⟨rfl, rfl⟩ (j := 2) rfl)) (pv (r_ln rfl underlying24) (pv (r_ib rfl rfl rfl) (pv (r_mb rfl) (?_))))))))
  rcases Bool.eq_false_or_eq_true (decide (6 < (List.length p0.Procs : Int))) with hb1 | hb1
  · have hm := ctrue hb1 hm
    refine gF (d0 := 10) rfl rfl (by rw [hb1]; rfl) (gF (d0 := 10) rfl rfl (by rw [hb1]; rfl) (gF (d0 := 10) rfl rfl (by rw [hb1]; rfl) (gF (d0 := 10) rfl rfl (by rw [hb1]; rfl) (pv (r_pkt rfl hb1 rfl) (pv (r_mb rfl) (gF (d0 := 16) rfl rfl rfl (gF (d0 := 16) rfl rfl rfl (gF (d0 := 16) rfl rfl rfl (gF (d0 := 16) rfl rfl rfl (pv (r_pkt rfl rfl rfl) (nil (t_then ?_))))))))))))
    refine cnd (b := true) rfl (fun _ => ?_) (fun h => nomatch h)
    refine sq2 (rg (pv (r_zb rfl) (nil (t_then ?_))))
    have hm := oI hm; subst hm
    exact rtn (r_then (ret1 rfl rfl ⟨_, rfl, _, im1, ⟨rfl, hS1.sel [1] rfl, trivial⟩⟩))
  have hm := cfalse hb1 hm
  refine gT (d0 := 10) rfl rfl hb1 (pv (r_fa rfl underlying26 rfl sizeOf22 rfl) (gT (d0 := 10) rfl rfl hb1 (pv (r_ld rfl isAgg22 (hS1.cell0 (i := 0) ⟨rfl, rfl⟩ (j := 0) rfl)) (gT (d0 := 10) rfl rfl hb1 (pv (r_ln rfl underlying22) (gT (d0 := 10) rfl rfl hb1 (pv (r_ib rfl rfl rfl) (pv (r_pkf rfl hb1 rfl) (pv (r_mb rfl) (?_))))))))))
  rcases Bool.eq_false_or_eq_true (decide (20 < (List.length p0.Globals : Int))) with hb2 | hb2
  · have hm := ctrue hb2 hm
    refine gF (d0 := 16) rfl rfl (by rw [hb2]; rfl) (gF (d0 := 16) rfl rfl (by rw [hb2]; rfl) (gF (d0 := 16) rfl rfl (by rw [hb2]; rfl) (gF (d0 := 16) rfl rfl (by rw [hb2]; rfl) (pv (r_pkt rfl hb2 rfl) (nil (t_then ?_))))))
    refine cnd (b := true) rfl (fun _ => ?_) (fun h => nomatch h)
    refine sq2 (rg (pv (r_zb rfl) (nil (t_then ?_))))
    have hm := oI hm; subst hm
    exact rtn (r_then (ret1 rfl rfl ⟨_, rfl, _, im1, ⟨rfl, hS1.sel [1] rfl, trivial⟩⟩))
  have hm := cfalse hb2 hm
  refine gT (d0 := 16) rfl rfl hb2 (pv (r_fa rfl underlying26 rfl sizeOf23 rfl) (gT (d0 := 16) rfl rfl hb2 (pv (r_ld rfl isAgg23 (hS1.cell0 (i := 0) ⟨rfl, rfl⟩ (j := 1) rfl)) (gT (d0 := 16) rfl rfl hb2 (pv (r_ln rfl underlying23) (gT (d0 := 16) rfl rfl hb2 (pv (r_ib rfl rfl rfl) (pv (r_pkf rfl hb2 rfl) (nil (t_then ?_))))))))))
  refine cnd rfl (fun hb3 => ?_) (fun hb3 => ?_)
  · have hm := ctrue hb3 hm
    refine sq2 (rg (pv (r_zb rfl) (nil (t_then ?_))))
    have hm := oI hm; subst hm
    exact rtn (r_then (ret1 rfl rfl ⟨_, rfl, _, im1, ⟨rfl, hS1.sel [1] rfl, trivial⟩⟩))
  have hm := cfalse hb3 hm
  refine skp (t_then ?_)
  refine sq2 (sq2 (rg (pv (r_zi rfl) (nil (t_then ?_)))))
  obtain ⟨o1, ho1, hq1⟩ := bindS hm
  obtain ⟨bd1, hbd1, ho1⟩ := loop_open ho1
  refine blk (wp_loop_ghost (fun m a w2 => ∃ (J : JV) (T1 : TP) (x1 : Int), a = env (nf 100) J [(1, pt b1 0), (3, iv x1)] ∧ Im T0 w1 T1 w2 ∧ Sep g T1 w2 [boxA b1 [sv a1 p0.Globals c1, sv a2 p0.Data c2, sv a3 p0.Procs c3, iv p0.Main], R] ∧ loopM bd1 m x1 = some o1) NN ⟨_, _, 0, env_has ⟨rfl, rfl, trivial⟩, Im.refl, hS1.sel [0, 1] rfl, ho1⟩ ?_)
  rintro m _ w2 ⟨J, T1, x1, rfl, im2, hS2, ho1⟩
  obtain ⟨m1, z1, rfl, hm, hn1⟩ := loop_round ho1
  rw [hbd1] at hm
  refine sq2 (sq2 (rg (pv (r_mi rfl) (pv (r_fa rfl underlying26 rfl sizeOf24 rfl) (pv (r_ld rfl isAgg24 (hS2.cell0 (i := 0) ⟨rfl, rfl⟩ (j := 2) rfl)) (pv (r_ln rfl underlying24) (pv (r_ib rfl rfl rfl) (nil (t_then ?_)))))))))
  refine cnd rfl (fun hb4 => ?_) (fun hb4 => ?_)
  · have hm := ctrue hb4 hm
    refine skp (t_then ?_)
    refine sq2 (blk (sq2 (sq2 ?_)))
    obtain ⟨u1, hx1, hm⟩ := bindS hm
    obtain ⟨b2, of1, cs1, k1, cp1, hv1, hp1, hl1, he1, hr1, hc1, hT1⟩ := (h3.mono (iT im1 im2)).ixT hx1 rfl
    obtain ⟨a4, c4, a5, c5, rfl, h4, h5⟩ := rProc_open hr1
    refine rg (pv (r_fa rfl underlying26 rfl sizeOf24 rfl) (pv (r_ld rfl isAgg24 (hS2.cell0 (i := 0) ⟨rfl, rfl⟩ (j := 2) rfl)) (pv (r_mi rfl) (pv (r_ixe hv1 rfl underlying24 sizeOf31 hp1 hl1 he1) (pv (r_fa rfl underlying31 rfl sizeOf29 rfl) (pv (r_ld rfl isAgg29 (hc1.get (j := 5) rfl)) (pv (r_ln rfl underlying29) (pv (r_ib rfl rfl rfl) (pv (r_mb rfl) (?_))))))))))
    rcases Bool.eq_false_or_eq_true (decide (40 < (List.length u1.Blocks : Int))) with hb5 | hb5
    · have hm := ctrue hb5 hm
      refine gF (d0 := 37) rfl rfl (by rw [hb5]; rfl) (gF (d0 := 37) rfl rfl (by rw [hb5]; rfl) (gF (d0 := 37) rfl rfl (by rw [hb5]; rfl) (gF (d0 := 37) rfl rfl (by rw [hb5]; rfl) (gF (d0 := 37) rfl rfl (by rw [hb5]; rfl) (gF (d0 := 37) rfl rfl (by rw [hb5]; rfl) (gF (d0 := 37) rfl rfl (by rw [hb5]; rfl) (gF (d0 := 37) rfl rfl (by rw [hb5]; rfl) (pv (r_pkt rfl hb5 rfl) (nil (t_then ?_))))))))))
      refine cnd (b := true) rfl (fun _ => ?_) (fun h => nomatch h)
      refine sq2 (rg (pv (r_zb rfl) (nil (t_then ?_))))
      have hm := oI hm; subst hm
      have hn1 : _ = Lp.ret _ := hn1
      subst hn1
      have hm := thn_ret hq1
      have hm := oI hm; subst hm
      exact rtn (r_then (r_blk (r_then (r_then (r_blk (r_then (ret1 rfl rfl ⟨_, rfl, _, (iT im1 im2), ⟨rfl, hS2.sel [1] rfl, trivial⟩⟩)))))))
    have hm := cfalse hb5 hm
    obtain ⟨u2, hx2, hm⟩ := bindS hm
    obtain ⟨b3, of2, cs2, k2, cp2, hv2, hp2, hl2, he2, hr2, hc2, hT2⟩ := (h3.mono (iT im1 im2)).ixT hx2 rfl
    obtain ⟨a6, c6, a7, c7, rfl, h6, h7⟩ := rProc_open hr2
    refine gT (d0 := 37) rfl rfl hb5 (pv (r_fa rfl underlying26 rfl sizeOf24 rfl) (gT (d0 := 37) rfl rfl hb5 (pv (r_ld rfl isAgg24 (hS2.cell0 (i := 0) ⟨rfl, rfl⟩ (j := 2) rfl)) (gT (d0 := 37) rfl rfl hb5 (pv (r_mi rfl) (gT (d0 := 37) rfl rfl hb5 (pv (r_ixe hv2 rfl underlying24 sizeOf31 hp2 hl2 he2) (gT (d0 := 37) rfl rfl hb5 (pv (r_fa rfl underlying31 rfl sizeOf22 rfl) (gT (d0 := 37) rfl rfl hb5 (pv (r_ld rfl isAgg22 (hc2.get (j := 4) rfl)) (gT (d0 := 37) rfl rfl hb5 (pv (r_ln rfl underlying22) (gT (d0 := 37) rfl rfl hb5 (pv (r_ib rfl rfl rfl) (pv (r_pkf rfl hb5 rfl) (nil (t_then ?_))))))))))))))))))
    refine cnd rfl (fun hb6 => ?_) (fun hb6 => ?_)
    · have hm := ctrue hb6 hm
      refine sq2 (rg (pv (r_zb rfl) (nil (t_then ?_))))
      have hm := oI hm; subst hm
      have hn1 : _ = Lp.ret _ := hn1
      subst hn1
      have hm := thn_ret hq1
      have hm := oI hm; subst hm
      exact rtn (r_then (r_blk (r_then (r_then (r_blk (r_then (ret1 rfl rfl ⟨_, rfl, _, (iT im1 im2), ⟨rfl, hS2.sel [1] rfl, trivial⟩⟩)))))))
    have hm := cfalse hb6 hm
    refine skp (t_then ?_)
    refine sq2 (rg (pv (r_zi rfl) (nil (t_then ?_))))
    obtain ⟨o2, ho2, hq2⟩ := bindS hm
    obtain ⟨bd2, hbd2, ho2⟩ := loop_open ho2
    refine blk (wp_loop_ghost (fun m a w3 => ∃ (J : JV) (T2 : TP) (x2 : Int), a = env (nf 100) J [(1, pt b1 0), (3, iv x1), (4, iv x2)] ∧ Im T1 w2 T2 w3 ∧ Sep g T2 w3 [boxA b1 [sv a1 p0.Globals c1, sv a2 p0.Data c2, sv a3 p0.Procs c3, iv p0.Main], R] ∧ loopM bd2 m x2 = some o2) NN ⟨_, _, 0, env_has ⟨rfl, rfl, rfl, trivial⟩, Im.refl, hS2.sel [0, 1] rfl, ho2⟩ ?_)
    rintro m _ w3 ⟨J, T2, x2, rfl, im3, hS3, ho2⟩
    obtain ⟨m2, z2, rfl, hm, hn2⟩ := loop_round ho2
    rw [hbd2] at hm
    refine sq2 (sq2 ?_)
    obtain ⟨u3, hx3, hm⟩ := bindS hm
    obtain ⟨b4, of3, cs3, k3, cp3, hv3, hp3, hl3, he3, hr3, hc3, hT3⟩ := (h3.mono (iT im1 (iT im2 im3))).ixT hx3 rfl
    obtain ⟨a8, c8, a9, c9, rfl, h8, h9⟩ := rProc_open hr3
    refine rg (pv (r_mi rfl) (pv (r_fa rfl underlying26 rfl sizeOf24 rfl) (pv (r_ld rfl isAgg24 (hS3.cell0 (i := 0) ⟨rfl, rfl⟩ (j := 2) rfl)) (pv (r_mi rfl) (pv (r_ixe hv3 rfl underlying24 sizeOf31 hp3 hl3 he3) (pv (r_fa rfl underlying31 rfl sizeOf29 rfl) (pv (r_ld rfl isAgg29 (hc3.get (j := 5) rfl)) (pv (r_ln rfl underlying29) (pv (r_ib rfl rfl rfl) (nil (t_then ?_)))))))))))
    refine cnd rfl (fun hb7 => ?_) (fun hb7 => ?_)
    · have hm := ctrue hb7 hm
      refine skp (t_then ?_)
      refine sq2 (blk (sq2 (sq2 ?_)))
      obtain ⟨u4, hx4, hm⟩ := bindS hm
      obtain ⟨b5, of4, cs4, k4, cp4, hv4, hp4, hl4, he4, hr4, hc4, hT4⟩ := (h3.mono (iT im1 (iT im2 im3))).ixT hx4 rfl
      obtain ⟨a10, c10, a11, c11, rfl, h10, h11⟩ := rProc_open hr4
      obtain ⟨u5, hx5, hm⟩ := bindS hm
      obtain ⟨b6, of5, cs5, k5, cp5, hv5, hp5, hl5, he5, hr5, hc5, hT5⟩ := h11.ixT hx5 rfl
      obtain ⟨a12, c12, rfl, h12⟩ := rGBlock_open hr5
      refine rg (pv (r_fa rfl underlying26 rfl sizeOf24 rfl) (pv (r_ld rfl isAgg24 (hS3.cell0 (i := 0) ⟨rfl, rfl⟩ (j := 2) rfl)) (pv (r_mi rfl) (pv (r_ixe hv4 rfl underlying24 sizeOf31 hp4 hl4 he4) (pv (r_fa rfl underlying31 rfl sizeOf29 rfl) (pv (r_ld rfl isAgg29 (hc4.get (j := 5) rfl)) (pv (r_mi rfl) (pv (r_ixe hv5 rfl underlying29 sizeOf52 hp5 hl5 he5) (pv (r_fa rfl underlying52 rfl sizeOf50 rfl) (pv (r_ld rfl isAgg50 (hc5.get (j := 0) rfl)) (pv (r_ln rfl underlying50) (pv (r_ib rfl rfl rfl) (nil (t_then ?_))))))))))))))
      refine cnd rfl (fun hb8 => ?_) (fun hb8 => ?_)
      · have hm := ctrue hb8 hm
        refine sq2 (rg (pv (r_zb rfl) (nil (t_then ?_))))
        have hm := oI hm; subst hm
        have hn2 : _ = Lp.ret _ := hn2
        subst hn2
        have hm := thn_ret hq2
        have hm := oI hm; subst hm
        have hn1 : _ = Lp.ret _ := hn1
        subst hn1
        have hm := thn_ret hq1
        have hm := oI hm; subst hm
        exact rtn (r_then (r_blk (r_then (r_then (r_blk (r_blk (r_then (r_then (r_blk (r_then (ret1 rfl rfl ⟨_, rfl, _, (iT im1 (iT im2 im3)), ⟨rfl, hS3.sel [1] rfl, trivial⟩⟩)))))))))))
      have hm := cfalse hb8 hm
      refine skp (t_then ?_)
      refine sq2 (rg (pv (r_zi rfl) (nil (t_then ?_))))
      obtain ⟨o3, ho3, hq3⟩ := bindS hm
      obtain ⟨bd3, hbd3, ho3⟩ := loop_open ho3
      refine blk (wp_loop_ghost (fun m a w4 => ∃ (J : JV) (T3 : TP) (x3 : Int), a = env (nf 100) J [(1, pt b1 0), (3, iv x1), (4, iv x2), (5, iv x3)] ∧ Im T2 w3 T3 w4 ∧ Sep g T3 w4 [boxA b1 [sv a1 p0.Globals c1, sv a2 p0.Data c2, sv a3 p0.Procs c3, iv p0.Main], R] ∧ loopM bd3 m x3 = some o3) NN ⟨_, _, 0, env_has ⟨rfl, rfl, rfl, rfl, trivial⟩, Im.refl, hS3.sel [0, 1] rfl, ho3⟩ ?_)
      rintro m _ w4 ⟨J, T3, x3, rfl, im4, hS4, ho3⟩
      obtain ⟨m3, z3, rfl, hm, hn3⟩ := loop_round ho3
      rw [hbd3] at hm
      refine sq2 (sq2 ?_)
      obtain ⟨u6, hx6, hm⟩ := bindS hm
      obtain ⟨b7, of6, cs6, k6, cp6, hv6, hp6, hl6, he6, hr6, hc6, hT6⟩ := (h3.mono (iT im1 (iT im2 (iT im3 im4)))).ixT hx6 rfl
      obtain ⟨a13, c13, a14, c14, rfl, h13, h14⟩ := rProc_open hr6
      obtain ⟨u7, hx7, hm⟩ := bindS hm
      obtain ⟨b8, of7, cs7, k7, cp7, hv7, hp7, hl7, he7, hr7, hc7, hT7⟩ := h14.ixT hx7 rfl
      obtain ⟨a15, c15, rfl, h15⟩ := rGBlock_open hr7
      refine rg (pv (r_mi rfl) (pv (r_fa rfl underlying26 rfl sizeOf24 rfl) (pv (r_ld rfl isAgg24 (hS4.cell0 (i := 0) ⟨rfl, rfl⟩ (j := 2) rfl)) (pv (r_mi rfl) (pv (r_ixe hv6 rfl underlying24 sizeOf31 hp6 hl6 he6) (pv (r_fa rfl underlying31 rfl sizeOf29 rfl) (pv (r_ld rfl isAgg29 (hc6.get (j := 5) rfl)) (pv (r_mi rfl) (pv (r_ixe hv7 rfl underlying29 sizeOf52 hp7 hl7 he7) (pv (r_fa rfl underlying52 rfl sizeOf50 rfl) (pv (r_ld rfl isAgg50 (hc7.get (j := 0) rfl)) (pv (r_ln rfl underlying50) (pv (r_ib rfl rfl rfl) (nil (t_then ?_)))))))))))))))
      refine cnd rfl (fun hb9 => ?_) (fun hb9 => ?_)
      · have hm := ctrue hb9 hm
        refine skp (t_then ?_)
        refine sq2 (blk (sq2 ?_))
        obtain ⟨u8, hx8, hm⟩ := bindS hm
        obtain ⟨b9, of8, cs8, k8, cp8, hv8, hp8, hl8, he8, hr8, hc8, hT8⟩ := (h3.mono (iT im1 (iT im2 (iT im3 im4)))).ixT hx8 rfl
        obtain ⟨a16, c16, a17, c17, rfl, h16, h17⟩ := rProc_open hr8
        obtain ⟨u9, hx9, hm⟩ := bindS hm
        obtain ⟨b10, of9, cs9, k9, cp9, hv9, hp9, hl9, he9, hr9, hc9, hT9⟩ := h17.ixT hx9 rfl
        obtain ⟨a18, c18, rfl, h18⟩ := rGBlock_open hr9
        obtain ⟨u10, hx10, hm⟩ := bindS hm
        obtain ⟨b11, of10, cs10, k10, cp10, hv10, hp10, hl10, he10, hr10, hc10, hT10⟩ := h18.ixT hx10 rfl
        obtain ⟨a19, c19, rfl, h19⟩ := rIns_open hr10
        obtain ⟨y1, hx11, hm⟩ := bindS hm
        refine rg (pv (r_fa rfl underlying26 rfl sizeOf24 rfl) (pv (r_ld rfl isAgg24 (hS4.cell0 (i := 0) ⟨rfl, rfl⟩ (j := 2) rfl)) (pv (r_mi rfl) (pv (r_ixe hv8 rfl underlying24 sizeOf31 hp8 hl8 he8) (pv (r_fa rfl underlying31 rfl sizeOf29 rfl) (pv (r_ld rfl isAgg29 (hc8.get (j := 5) rfl)) (pv (r_mi rfl) (pv (r_ixe hv9 rfl underlying29 sizeOf52 hp9 hl9 he9) (pv (r_fa rfl underlying52 rfl sizeOf50 rfl) (pv (r_ld rfl isAgg50 (hc9.get (j := 0) rfl)) (pv (r_mi rfl) (pv (r_ixe hv10 rfl underlying50 sizeOf49 hp10 hl10 he10) (pv (r_ldS rfl isAgg49 sizeOf49 rfl hc10 (cs := (cIns u10 a19 c19))) (wl rfl (calS cf41 rfl (law13_ins_sim (p0 := u10) (hS4.bun [0, 1] [] rfl) h19 hx11) rfl fun v1 T4 w5 im5 rv1 => ?_)))))))))))))))
        obtain ⟨rfl, hS5, _⟩ := rv1
        have hS5 := hS5.unb
        refine pv (r_nt rfl) (nil (t_then ?_))
        refine cnd rfl (fun hb10 => ?_) (fun hb10 => ?_)
        · have hm := ctrue hb10 hm
          refine sq2 (rg (pv (r_zb rfl) (nil (t_then ?_))))
          have hm := oI hm; subst hm
          have hn3 : _ = Lp.ret _ := hn3
          subst hn3
          have hm := thn_ret hq3
          have hm := oI hm; subst hm
          have hn2 : _ = Lp.ret _ := hn2
          subst hn2
          have hm := thn_ret hq2
          have hm := oI hm; subst hm
          have hn1 : _ = Lp.ret _ := hn1
          subst hn1
          have hm := thn_ret hq1
          have hm := oI hm; subst hm
          exact rtn (r_blk (r_then (r_then (r_blk (r_blk (r_then (r_then (r_blk (r_blk (r_then (r_then (r_blk (r_then (ret1 rfl rfl ⟨_, rfl, _, (iT im1 (iT im2 (iT im3 (iT im4 im5)))), ⟨rfl, hS5.sel [1] rfl, trivial⟩⟩))))))))))))))
        have hm := cfalse hb10 hm
        refine skp (t_blk (t_then ?_))
        have hm := oI hm; subst hm
        exact rg (pv (r_mi rfl) (pv (r_ib rfl rfl rfl) (pv (r_zi rfl) (nil (t_then ⟨m3, Nat.lt_succ_self _, _, _, (IntKind.wrap .i64 (x3 + 1)), env_has ⟨rfl, rfl, rfl, rfl, trivial⟩, (iT im4 im5), hS5.sel [0, 1] rfl, hn3⟩)))))
      have hm := cfalse hb9 hm
      have hm := oI hm; subst hm
      have hn3 : _ = Lp.brk _ := hn3
      subst hn3
      have hm := thn_brk hq3
      refine xt (x_then (x_then (x_eq (t_blk (t_then ?_)))))
      have hm := oI hm; subst hm
      exact rg (pv (r_mi rfl) (pv (r_ib rfl rfl rfl) (pv (r_zi rfl) (nil (t_then ⟨m2, Nat.lt_succ_self _, _, _, (IntKind.wrap .i64 (x2 + 1)), env_has ⟨rfl, rfl, rfl, trivial⟩, (iT im3 im4), hS4.sel [0, 1] rfl, hn2⟩)))))
    have hm := cfalse hb7 hm
    have hm := oI hm; subst hm
    have hn2 : _ = Lp.brk _ := hn2
    subst hn2
    have hm := thn_brk hq2
    refine xt (x_then (x_then (x_eq (t_blk (t_then ?_)))))
    have hm := oI hm; subst hm
    exact rg (pv (r_mi rfl) (pv (r_ib rfl rfl rfl) (pv (r_zi rfl) (nil (t_then ⟨m1, Nat.lt_succ_self _, _, _, (IntKind.wrap .i64 (x1 + 1)), env_has ⟨rfl, rfl, trivial⟩, (iT im2 im3), hS3.sel [0, 1] rfl, hn1⟩)))))
  have hm := cfalse hb4 hm
  have hm := oI hm; subst hm
  have hn1 : _ = Lp.brk _ := hn1
  subst hn1
  have hm := thn_brk hq1
  refine xt (x_then (x_then (x_eq (t_then ?_))))
  refine sq2 (rg (pv (r_zb rfl) (nil (t_then ?_))))
  have hm := oI hm; subst hm
  exact rtn (ret1 rfl rfl ⟨_, rfl, _, (iT im1 im2), ⟨rfl, hS2.sel [1] rfl, trivial⟩⟩)

theorem ir_slots_sim {p0 : List GSlot} {a1 : OA} {c1 : Nat} {r : Bool} (hS : Sep g T0 w0 [R]) (h1 : SlR rGSlot T0 w0 (sv a1 p0 c1) p0) (hm : ir_slots p0 = some r) :
    Calls Tryz.prog 42 #[sv a1 p0 c1] w0 (RetS T0 w0 fun T w v => v = .bool r ∧ Sep g T w [R] ∧ True) := by
  refine enter (args := [sv a1 p0 c1]) Tryz.func42 rfl Tryz.ntmps42 rfl fun J => ?_
  unfold ir_slots at hm
  refine sq2 (rg (pv (r_zb rfl) (nil (t_then ?_))))
  refine sq2 (sq2 (rg (pv (r_ms rfl) (pv (r_ln rfl underlying22) (pv (r_mi rfl) (nil (t_then ?_)))))))
  obtain ⟨o1, ho1, hq1⟩ := bindS hm
  obtain ⟨bd1, hbd1, ho1⟩ := loop_open ho1
  refine blk (wp_loop_ghost (fun m a w1 => ∃ (J : JV) (T1 : TP) (x1 : Int), a = env (nf 30) J [(5, sv a1 p0 c1), (6, iv (List.length p0 : Int)), (7, iv x1)] ∧ Im T0 w0 T1 w1 ∧ Sep g T1 w1 [R] ∧ loopM bd1 m x1 = some o1) NN ⟨_, _, 0, env_has ⟨rfl, rfl, rfl, trivial⟩, Im.refl, hS.sel [0] rfl, ho1⟩ ?_)
  rintro m _ w1 ⟨J, T1, x1, rfl, im1, hS1, ho1⟩
  obtain ⟨m1, z1, rfl, hm, hn1⟩ := loop_round ho1
  rw [hbd1] at hm
  refine sq2 (rg (pv (r_ib rfl rfl rfl) (nil (t_then ?_))))
  refine sq2 (cnd rfl (fun hb1 => ?_) (fun hb1 => ?_))
  · have hm := ctrue hb1 hm
    refine skp (t_then ?_)
    refine sq2 (blk (sq2 ?_))
    obtain ⟨u1, hx1, hm⟩ := bindS hm
    obtain ⟨b1, of1, cs1, k1, cp1, hv1, hp1, hl1, he1, hr1, hc1, hT1⟩ := (h1.mono im1).ixT hx1 rfl
    cases rGSlot_open hr1
    refine rg (pv (r_ixe hv1 rfl underlying22 sizeOf101 hp1 hl1 he1) (pv (r_ldS rfl isAgg101 sizeOf101 rfl hc1 (cs := (cGSlot u1))) (wl rfl (alS (zs := [.string ⟨([] : List UInt8).toArray⟩, iv 0, iv 0, iv 0]) zeroValue101 rfl hS1 fun w2 b2 im2 hS2 => ?_))))
    refine wl rfl (st0B (q := 0) hS2 ⟨rfl, rfl⟩ rfl rfl rfl sizeOf101 rfl rfl rfl fun w3 im3 hS3 => ?_)
    refine nil (t_then ?_)
    refine sq2 (rg (pv (r_fa rfl underlying101 rfl sizeOf3 rfl) (pv (r_ld rfl isAgg3 (hS3.cell0 (i := 0) ⟨rfl, rfl⟩ (j := 1) rfl)) (pv (r_ib rfl rfl rfl) (pv (r_mb rfl) (?_))))))
    rcases Bool.eq_false_or_eq_true (decide (u1.Size < 1)) with hb2 | hb2
    · have hm := ctrue hb2 hm
      refine gF (d0 := 14) rfl rfl (by rw [hb2]; rfl) (gF (d0 := 14) rfl rfl (by rw [hb2]; rfl) (gF (d0 := 14) rfl rfl (by rw [hb2]; rfl) (pv (r_pkt rfl hb2 rfl) (pv (r_mb rfl) (gF (d0 := 19) rfl rfl rfl (gF (d0 := 19) rfl rfl rfl (gF (d0 := 19) rfl rfl rfl (gF (d0 := 19) rfl rfl rfl (gU (d0 := 23) rfl rfl (gU (d0 := 23) rfl rfl (gU (d0 := 23) rfl rfl (gF (d0 := 19) rfl rfl rfl (pv (r_pkt rfl rfl rfl) (nil (t_then ?_)))))))))))))))
      refine cnd (b := true) rfl (fun _ => ?_) (fun h => nomatch h)
      refine sq2 (rg (pv (r_zb rfl) (nil (t_then ?_))))
      have hm := oI hm; subst hm
      have hn1 : _ = Lp.ret _ := hn1
      subst hn1
      have hm := thn_ret hq1
      have hm := oI hm; subst hm
      exact rtn (r_blk (r_then (r_then (r_blk (r_then (ret1 rfl rfl ⟨_, rfl, _, (iT im1 (iT im2 im3)), ⟨rfl, hS3.sel [1] rfl, trivial⟩⟩))))))
    have hm := cfalse hb2 hm
    refine gT (d0 := 14) rfl rfl hb2 (pv (r_fa rfl underlying101 rfl sizeOf3 rfl) (gT (d0 := 14) rfl rfl hb2 (pv (r_ld rfl isAgg3 (hS3.cell0 (i := 0) ⟨rfl, rfl⟩ (j := 1) rfl)) (gT (d0 := 14) rfl rfl hb2 (pv (r_ib rfl rfl rfl) (pv (r_pkf rfl hb2 rfl) (pv (r_mb rfl) (?_))))))))
    rcases Bool.eq_false_or_eq_true (decide (32768 < u1.Size)) with hb3 | hb3
    · have hm := ctrue hb3 hm
      refine gF (d0 := 19) rfl rfl (by rw [hb3]; rfl) (gF (d0 := 19) rfl rfl (by rw [hb3]; rfl) (gF (d0 := 19) rfl rfl (by rw [hb3]; rfl) (gF (d0 := 19) rfl rfl (by rw [hb3]; rfl) (gU (d0 := 23) rfl rfl (gU (d0 := 23) rfl rfl (gU (d0 := 23) rfl rfl (gF (d0 := 19) rfl rfl (by rw [hb3]; rfl) (pv (r_pkt rfl hb3 rfl) (nil (t_then ?_))))))))))
      refine cnd (b := true) rfl (fun _ => ?_) (fun h => nomatch h)
      refine sq2 (rg (pv (r_zb rfl) (nil (t_then ?_))))
      have hm := oI hm; subst hm
      have hn1 : _ = Lp.ret _ := hn1
      subst hn1
      have hm := thn_ret hq1
      have hm := oI hm; subst hm
      exact rtn (r_blk (r_then (r_then (r_blk (r_then (ret1 rfl rfl ⟨_, rfl, _, (iT im1 (iT im2 im3)), ⟨rfl, hS3.sel [1] rfl, trivial⟩⟩))))))
    have hm := cfalse hb3 hm
    refine gT (d0 := 19) rfl rfl hb3 (pv (r_fa rfl underlying101 rfl sizeOf3 rfl) (gT (d0 := 19) rfl rfl hb3 (pv (r_ld rfl isAgg3 (hS3.cell0 (i := 0) ⟨rfl, rfl⟩ (j := 2) rfl)) (gT (d0 := 19) rfl rfl hb3 (pv (r_ib rfl rfl rfl) (gT (d0 := 19) rfl rfl hb3 (pv (r_mb rfl) (?_))))))))
    rcases Bool.eq_false_or_eq_true (u1.Align != 1) with hb4 | hb4
    · have hm := ctrue hb4 hm
      refine gT (d0 := 23) rfl rfl hb4 (pv (r_fa rfl underlying101 rfl sizeOf3 rfl) (gT (d0 := 23) rfl rfl hb4 (pv (r_ld rfl isAgg3 (hS3.cell0 (i := 0) ⟨rfl, rfl⟩ (j := 2) rfl)) (gT (d0 := 23) rfl rfl hb4 (pv (r_ib rfl rfl rfl) (gT (d0 := 19) rfl rfl hb3 (pv (r_pkt rfl hb4 rfl) (pv (r_pkf rfl hb3 rfl) (nil (t_then ?_))))))))))
      refine cnd rfl (fun hb5 => ?_) (fun hb5 => ?_)
      · have hm := ctrue hb5 hm
        refine sq2 (rg (pv (r_zb rfl) (nil (t_then ?_))))
        have hm := oI hm; subst hm
        have hn1 : _ = Lp.ret _ := hn1
        subst hn1
        have hm := thn_ret hq1
        have hm := oI hm; subst hm
        exact rtn (r_blk (r_then (r_then (r_blk (r_then (ret1 rfl rfl ⟨_, rfl, _, (iT im1 (iT im2 im3)), ⟨rfl, hS3.sel [1] rfl, trivial⟩⟩))))))
      have hm := cfalse hb5 hm
      refine skp (t_blk (t_then ?_))
      have hm := oI hm; subst hm
      exact rg (pv (r_ib rfl rfl rfl) (pv (r_mi rfl) (nil (t_then ⟨m1, Nat.lt_succ_self _, _, _, (IntKind.wrap .i64 (x1 + 1)), env_has ⟨rfl, rfl, rfl, trivial⟩, (iT im1 (iT im2 im3)), hS3.sel [1] rfl, hn1⟩))))
    have hm := cfalse hb4 hm
    refine gF (d0 := 23) rfl rfl (by rw [hb4]; rfl) (gF (d0 := 23) rfl rfl (by rw [hb4]; rfl) (gF (d0 := 23) rfl rfl (by rw [hb4]; rfl) (gT (d0 := 19) rfl rfl hb3 (pv (r_pkf rfl hb4 rfl) (pv (r_pkf rfl hb3 rfl) (nil (t_then ?_)))))))
    refine cnd (b := false) rfl (fun h => nomatch h) (fun _ => ?_)
    refine skp (t_blk (t_then ?_))
    have hm := oI hm; subst hm
    exact rg (pv (r_ib rfl rfl rfl) (pv (r_mi rfl) (nil (t_then ⟨m1, Nat.lt_succ_self _, _, _, (IntKind.wrap .i64 (x1 + 1)), env_has ⟨rfl, rfl, rfl, trivial⟩, (iT im1 (iT im2 im3)), hS3.sel [1] rfl, hn1⟩))))
  have hm := cfalse hb1 hm
  have hm := oI hm; subst hm
  have hn1 : _ = Lp.brk _ := hn1
  subst hn1
  have hm := thn_brk hq1
  refine xt (x_then (x_then (x_eq (t_then ?_))))
  refine sq2 (rg (pv (r_zb rfl) (nil (t_then ?_))))
  have hm := oI hm; subst hm
  exact rtn (ret1 rfl rfl ⟨_, rfl, _, im1, ⟨rfl, hS1.sel [0] rfl, trivial⟩⟩)

theorem ir_Size_sim {p0 : Proc} {a1 : OA} {c1 : Nat} {a2 : OA} {c2 : Nat} {r : Int} (hS : Sep g T0 w0 [R]) (h1 : SlR rGSlot T0 w0 (sv a1 p0.Objects c1) p0.Objects) (h2 : SlR rGBlock T0 w0 (sv a2 p0.Blocks c2) p0.Blocks) (hm : ir_Size p0 = some r) :
    Calls Tryz.prog 92 #[.agg (cProc p0 a1 c1 a2 c2).toArray] w0 (RetS T0 w0 fun T w v => v = iv r ∧ Sep g T w [R] ∧ True) := by
  refine enter (args := [.agg (cProc p0 a1 c1 a2 c2).toArray]) Tryz.func92 rfl Tryz.ntmps92 rfl fun J => ?_
  unfold ir_Size at hm
  refine sq2 (rg (wl rfl (bxS (cs := (cProc p0 a1 c1 a2 c2)) rfl rfl hS fun w1 b1 im1 hS1 => ?_)))
  refine pv (r_zi rfl) (nil (t_then ?_))
  refine sq2 (rg (pv (r_fa rfl underlying31 rfl sizeOf29 rfl) (pv (r_ld rfl isAgg29 (hS1.cell0 (i := 0) ⟨rfl, rfl⟩ (j := 5) rfl)) (pv (r_ln rfl underlying29) (pv (r_zi rfl) (nil (t_then ?_)))))))
  refine sq2 (sq2 (rg (pv (r_fa rfl underlying31 rfl sizeOf29 rfl) (pv (r_ld rfl isAgg29 (hS1.cell0 (i := 0) ⟨rfl, rfl⟩ (j := 5) rfl)) (pv (r_ln rfl underlying29) (pv (r_mi rfl) (nil (t_then ?_))))))))
  obtain ⟨o1, ho1, hq1⟩ := bindS hm
  obtain ⟨bd1, hbd1, ho1⟩ := loop_open ho1
  refine blk (wp_loop_ghost (fun m a w2 => ∃ (J : JV) (T1 : TP) (x1 : Int) (x2 : Int), a = env (nf 23) J [(3, iv x1), (10, sv a2 p0.Blocks c2), (11, iv (List.length p0.Blocks : Int)), (12, iv x2)] ∧ Im T0 w1 T1 w2 ∧ Sep g T1 w2 [R] ∧ loopM bd1 m (x1, x2) = some o1) NN ⟨_, _, (List.length p0.Blocks : Int), 0, env_has ⟨rfl, rfl, rfl, rfl, trivial⟩, Im.refl, hS1.sel [1] rfl, ho1⟩ ?_)
  rintro m _ w2 ⟨J, T1, x1, x2, rfl, im2, hS2, ho1⟩
  obtain ⟨m1, z1, rfl, hm, hn1⟩ := loop_round ho1
  rw [hbd1] at hm
  refine sq2 (rg (pv (r_ib rfl rfl rfl) (nil (t_then ?_))))
  refine sq2 (cnd rfl (fun hb1 => ?_) (fun hb1 => ?_))
  · have hm := ctrue hb1 hm
    refine skp (t_then ?_)
    refine sq2 (blk (sq2 ?_))
    obtain ⟨u1, hx1, hm⟩ := bindS hm
    obtain ⟨b2, of1, cs1, k1, cp1, hv1, hp1, hl1, he1, hr1, hc1, hT1⟩ := (h2.mono (iT im1 im2)).ixT hx1 rfl
    obtain ⟨a3, c3, rfl, h3⟩ := rGBlock_open hr1
    refine rg (pv (r_ixe hv1 rfl underlying29 sizeOf52 hp1 hl1 he1) (pv (r_ldS rfl isAgg52 sizeOf52 rfl hc1 (cs := [sv a3 u1.Ins c3, iv u1.End, iv u1.A, iv u1.To, iv u1.Else])) (wl rfl (alS (zs := [.slice none 0 0, iv 0, iv 0, iv 0, iv 0]) zeroValue52 rfl hS2 fun w3 b3 im3 hS3 => ?_))))
    refine wl rfl (st0B (q := 0) hS3 ⟨rfl, rfl⟩ rfl rfl rfl sizeOf52 rfl rfl rfl fun w4 im4 hS4 => ?_)
    refine nil (t_then ?_)
    refine rg (pv (r_mi rfl) (pv (r_fa rfl underlying52 rfl sizeOf50 rfl) (pv (r_ld rfl isAgg50 (hS4.cell0 (i := 0) ⟨rfl, rfl⟩ (j := 0) rfl)) (pv (r_ln rfl underlying50) (pv (r_ib rfl rfl rfl) (pv (r_zi rfl) (nil (t_blk (t_then ?_)))))))))
    have hm := oI hm; subst hm
    exact rg (pv (r_ib rfl rfl rfl) (pv (r_mi rfl) (nil (t_then ⟨m1, Nat.lt_succ_self _, _, _, (IntKind.wrap .i64 (x1 + (List.length u1.Ins : Int))), (IntKind.wrap .i64 (x2 + 1)), env_has ⟨rfl, rfl, rfl, rfl, trivial⟩, (iT im2 (iT im3 im4)), hS4.sel [1] rfl, hn1⟩))))
  have hm := cfalse hb1 hm
  have hm := oI hm; subst hm
  have hn1 : _ = Lp.brk _ := hn1
  subst hn1
  have hm := thn_brk hq1
  refine xt (x_then (x_then (x_eq (t_then ?_))))
  refine sq2 (rg (pv (r_mi rfl) (pv (r_zi rfl) (nil (t_then ?_)))))
  have hm := oI hm; subst hm
  exact rtn (ret1 rfl rfl ⟨_, rfl, _, (iT im1 im2), ⟨rfl, hS2.sel [0] rfl, trivial⟩⟩)

theorem ir_reads_sim {p0 : Int} {r : Bool × Bool} (hS : Sep g T0 w0 [R])  (hm : ir_reads p0 = some r) :
    Calls Tryz.prog 49 #[iv p0] w0 (RetS T0 w0 fun T w v => v = .tuple #[.bool r.1, .bool r.2] ∧ Sep g T w [R] ∧ True) := by
  refine enter (args := [iv p0]) Tryz.func49 rfl Tryz.ntmps49 rfl fun J => ?_
  unfold ir_reads at hm
  refine sq2 (rg (pv (r_zb rfl) (pv (r_zb rfl) (nil (t_then ?_)))))
  obtain ⟨kk1, hkk1, hm⟩ := jn_open hm
  refine cut (fun a w1 => ∃ (J : JV) (T1 : TP) (x1 : Bool) (x2 : Bool), a = env (nf 15) J [(2, .bool x1), (3, .bool x2)] ∧ Im T0 w0 T1 w1 ∧ Sep g T1 w1 [R] ∧ kk1 x1 x2 = some r) ?_ ?_
  · refine sq2 (rg (pv (r_mi rfl) (nil (t_then ?_))))
    refine blk ?_
    obtain ⟨kk2, hkk2, hm⟩ := jn_open hm
    refine cut (fun a w2 => ∃ (J : JV) (T2 : TP) (x3 : Bool), a = env (nf 15) J [(3, .bool x3)] ∧ Im T0 w0 T2 w2 ∧ Sep g T2 w2 [R] ∧ kk2 x3 = some r) ?_ ?_
    · refine blk (sq2 (blk (sq2 (sq2 ?_))))
      obtain ⟨kk3, hkk3, hm⟩ := jn_open hm
      refine cut (fun a w3 => ∃ (J : JV) (T3 : TP) (x4 : Bool), a = env (nf 15) J [(2, .bool false), (3, .bool false), (4, iv p0), (5, .bool x4)] ∧ Im T0 w0 T3 w3 ∧ Sep g T3 w3 [R] ∧ kk3 x4 = some r) ?_ ?_
      · refine sq2 (rg (pv (r_ib rfl rfl rfl) (pv (r_zb rfl) (nil (t_then ?_)))))
        refine cnd rfl (fun hb1 => ?_) (fun hb1 => ?_)
        · have hm := ctrue hb1 hm
          exact skp (t_then ⟨_, _, (p0 == 3), env_has ⟨rfl, rfl, rfl, rfl, trivial⟩, Im.refl, hS.sel [0] rfl, hm⟩)
        have hm := cfalse hb1 hm
        exact rg (pv (r_ib rfl rfl rfl) (pv (r_zb rfl) (nil (t_then ⟨_, _, (p0 == 6), env_has ⟨rfl, rfl, rfl, rfl, trivial⟩, Im.refl, hS.sel [0] rfl, hm⟩))))
      rintro _ w3 ⟨J, T3, x4, rfl, im3, hS1, hm⟩
      rw [hkk3] at hm
      refine cnd rfl (fun hb2 => ?_) (fun hb2 => ?_)
      · have hm := ctrue hb2 hm
        refine xt (x_then (x_then (x_eq (t_then ?_))))
        exact rg (pv (r_zb rfl) (nil (t_blk (t_then ⟨_, _, true, env_has ⟨rfl, trivial⟩, im3, hS1.sel [0] rfl, hm⟩))))
      have hm := cfalse hb2 hm
      refine skp (t_then ?_)
      obtain ⟨kk4, hkk4, hm⟩ := jn_open hm
      refine cut (fun a w4 => ∃ (J : JV) (T4 : TP) (x5 : Bool), a = env (nf 15) J [(2, .bool false), (3, .bool false), (8, .bool x5)] ∧ Im T3 w3 T4 w4 ∧ Sep g T4 w4 [R] ∧ kk4 x5 = some r) ?_ ?_
      · refine sq2 (rg (pv (r_ib rfl rfl rfl) (pv (r_zb rfl) (nil (t_then ?_)))))
        refine cnd rfl (fun hb3 => ?_) (fun hb3 => ?_)
        · have hm := ctrue hb3 hm
          exact skp (t_then ⟨_, _, (p0 == 2), env_has ⟨rfl, rfl, rfl, trivial⟩, Im.refl, hS1.sel [0] rfl, hm⟩)
        have hm := cfalse hb3 hm
        refine sq2 (rg (pv (r_ib rfl rfl rfl) (pv (r_zb rfl) (nil (t_then ?_)))))
        refine cnd rfl (fun hb4 => ?_) (fun hb4 => ?_)
        · have hm := ctrue hb4 hm
          exact skp (t_then ⟨_, _, (p0 == 4), env_has ⟨rfl, rfl, rfl, trivial⟩, Im.refl, hS1.sel [0] rfl, hm⟩)
        have hm := cfalse hb4 hm
        refine sq2 (rg (pv (r_ib rfl rfl rfl) (pv (r_zb rfl) (nil (t_then ?_)))))
        refine cnd rfl (fun hb5 => ?_) (fun hb5 => ?_)
        · have hm := ctrue hb5 hm
          exact skp (t_then ⟨_, _, (p0 == 5), env_has ⟨rfl, rfl, rfl, trivial⟩, Im.refl, hS1.sel [0] rfl, hm⟩)
        have hm := cfalse hb5 hm
        exact rg (pv (r_ib rfl rfl rfl) (pv (r_zb rfl) (nil (t_then ⟨_, _, (p0 == 10), env_has ⟨rfl, rfl, rfl, trivial⟩, Im.refl, hS1.sel [0] rfl, hm⟩))))
      rintro _ w4 ⟨J, T4, x5, rfl, im4, hS2, hm⟩
      rw [hkk4] at hm
      refine cnd rfl (fun hb6 => ?_) (fun hb6 => ?_)
      · have hm := ctrue hb6 hm
        exact xt (x_then (x_ne (by decide) (x_then (x_eq (t_then ⟨_, _, false, env_has ⟨rfl, trivial⟩, (iT im3 im4), hS2.sel [0] rfl, hm⟩)))))
      have hm := cfalse hb6 hm
      refine skp (t_then ?_)
      exact xt (x_ne (by decide) (x_then (x_ne (by decide) (x_then (x_eq (t_then ⟨_, _, false, false, env_has ⟨rfl, rfl, trivial⟩, (iT im3 im4), hS2.sel [0] rfl, hm⟩))))))
    rintro _ w2 ⟨J, T2, x3, rfl, im2, hS3, hm⟩
    rw [hkk2] at hm
    refine sq2 (rg (pv (r_zb rfl) (nil (t_then ?_))))
    exact xt (x_eq (t_then ⟨_, _, true, x3, env_has ⟨rfl, rfl, trivial⟩, im2, hS3.sel [0] rfl, hm⟩))
  rintro _ w1 ⟨J, T1, x1, x2, rfl, im1, hS4, hm⟩
  rw [hkk1] at hm
  refine sq2 (rg (pv (r_mb rfl) (pv (r_mb rfl) (pv (r_zb rfl) (pv (r_zb rfl) (nil (t_then ?_)))))))
  have hm := oI hm; subst hm
  exact rtn (retN (vs := [.bool x1, .bool x2]) rfl ⟨rfl, rfl, trivial⟩ rfl ⟨_, rfl, _, im1, ⟨rfl, hS4.sel [0] rfl, trivial⟩⟩)

theorem ir_Def_sim {p0 : Ins} {a1 : OA} {c1 : Nat} {r : Int} (hS : Sep g T0 w0 [R]) (h1 : SlR (rInt .i64) T0 w0 (sv a1 p0.Args c1) p0.Args) (hm : ir_Def p0 = some r) :
    Calls Tryz.prog 28 #[.agg (cIns p0 a1 c1).toArray] w0 (RetS T0 w0 fun T w v => v = iv r ∧ Sep g T w [R] ∧ True) := by
  refine enter (args := [.agg (cIns p0 a1 c1).toArray]) Tryz.func28 rfl Tryz.ntmps28 rfl fun J => ?_
  unfold ir_Def at hm
  refine sq2 (rg (wl rfl (bxS (cs := (cIns p0 a1 c1)) rfl rfl hS fun w1 b1 im1 hS1 => ?_)))
  refine pv (r_zi rfl) (nil (t_then ?_))
  refine sq2 (sq2 (rg (pv (r_fa rfl underlying49 rfl sizeOf3 rfl) (pv (r_ld rfl isAgg3 (hS1.cell0 (i := 0) ⟨rfl, rfl⟩ (j := 0) rfl)) (nil (t_then ?_))))))
  refine blk ?_
  obtain ⟨kk1, hkk1, hm⟩ := jn_open hm
  refine cut (fun a w2 => ∃ (J : JV) (T1 : TP) (x1 : Bool), a = env (nf 17) J [(1, pt b1 0), (5, .bool x1)] ∧ Im T0 w1 T1 w2 ∧ Sep g T1 w2 [boxA b1 (cIns p0 a1 c1), R] ∧ kk1 x1 = some r) ?_ ?_
  · refine sq2 (rg (pv (r_ib rfl rfl rfl) (pv (r_zb rfl) (nil (t_then ?_)))))
    refine cnd rfl (fun hb1 => ?_) (fun hb1 => ?_)
    · have hm := ctrue hb1 hm
      exact skp (t_then ⟨_, _, (p0.Op == 1), env_has ⟨rfl, rfl, trivial⟩, Im.refl, hS1.sel [0, 1] rfl, hm⟩)
    have hm := cfalse hb1 hm
    refine sq2 (rg (pv (r_ib rfl rfl rfl) (pv (r_zb rfl) (nil (t_then ?_)))))
    refine cnd rfl (fun hb2 => ?_) (fun hb2 => ?_)
    · have hm := ctrue hb2 hm
      exact skp (t_then ⟨_, _, (p0.Op == 2), env_has ⟨rfl, rfl, trivial⟩, Im.refl, hS1.sel [0, 1] rfl, hm⟩)
    have hm := cfalse hb2 hm
    refine sq2 (rg (pv (r_ib rfl rfl rfl) (pv (r_zb rfl) (nil (t_then ?_)))))
    refine cnd rfl (fun hb3 => ?_) (fun hb3 => ?_)
    · have hm := ctrue hb3 hm
      exact skp (t_then ⟨_, _, (p0.Op == 3), env_has ⟨rfl, rfl, trivial⟩, Im.refl, hS1.sel [0, 1] rfl, hm⟩)
    have hm := cfalse hb3 hm
    refine sq2 (rg (pv (r_ib rfl rfl rfl) (pv (r_zb rfl) (nil (t_then ?_)))))
    refine cnd rfl (fun hb4 => ?_) (fun hb4 => ?_)
    · have hm := ctrue hb4 hm
      exact skp (t_then ⟨_, _, (p0.Op == 4), env_has ⟨rfl, rfl, trivial⟩, Im.refl, hS1.sel [0, 1] rfl, hm⟩)
    have hm := cfalse hb4 hm
    refine sq2 (rg (pv (r_ib rfl rfl rfl) (pv (r_zb rfl) (nil (t_then ?_)))))
    refine cnd rfl (fun hb5 => ?_) (fun hb5 => ?_)
    · have hm := ctrue hb5 hm
      exact skp (t_then ⟨_, _, (p0.Op == 5), env_has ⟨rfl, rfl, trivial⟩, Im.refl, hS1.sel [0, 1] rfl, hm⟩)
    have hm := cfalse hb5 hm
    refine sq2 (rg (pv (r_ib rfl rfl rfl) (pv (r_zb rfl) (nil (t_then ?_)))))
    refine cnd rfl (fun hb6 => ?_) (fun hb6 => ?_)
    · have hm := ctrue hb6 hm
      exact skp (t_then ⟨_, _, (p0.Op == 7), env_has ⟨rfl, rfl, trivial⟩, Im.refl, hS1.sel [0, 1] rfl, hm⟩)
    have hm := cfalse hb6 hm
    refine sq2 (rg (pv (r_ib rfl rfl rfl) (pv (r_zb rfl) (nil (t_then ?_)))))
    refine cnd rfl (fun hb7 => ?_) (fun hb7 => ?_)
    · have hm := ctrue hb7 hm
      exact skp (t_then ⟨_, _, (p0.Op == 8), env_has ⟨rfl, rfl, trivial⟩, Im.refl, hS1.sel [0, 1] rfl, hm⟩)
    have hm := cfalse hb7 hm
    refine sq2 (rg (pv (r_ib rfl rfl rfl) (pv (r_zb rfl) (nil (t_then ?_)))))
    refine cnd rfl (fun hb8 => ?_) (fun hb8 => ?_)
    · have hm := ctrue hb8 hm
      exact skp (t_then ⟨_, _, (p0.Op == 9), env_has ⟨rfl, rfl, trivial⟩, Im.refl, hS1.sel [0, 1] rfl, hm⟩)
    have hm := cfalse hb8 hm
    exact rg (pv (r_ib rfl rfl rfl) (pv (r_zb rfl) (nil (t_then ⟨_, _, (p0.Op == 11), env_has ⟨rfl, rfl, trivial⟩, Im.refl, hS1.sel [0, 1] rfl, hm⟩))))
  rintro _ w2 ⟨J, T1, x1, rfl, im2, hS2, hm⟩
  rw [hkk1] at hm
  refine cnd rfl (fun hb9 => ?_) (fun hb9 => ?_)
  · have hm := ctrue hb9 hm
    refine sq2 (rg (pv (r_fa rfl underlying49 rfl sizeOf3 rfl) (pv (r_ld rfl isAgg3 (hS2.cell0 (i := 0) ⟨rfl, rfl⟩ (j := 1) rfl)) (pv (r_zi rfl) (nil (t_then ?_))))))
    have hm := oI hm; subst hm
    exact rtn (r_blk (r_then (ret1 rfl rfl ⟨_, rfl, _, (iT im1 im2), ⟨rfl, hS2.sel [1] rfl, trivial⟩⟩)))
  have hm := cfalse hb9 hm
  refine skp (t_blk (t_then ?_))
  refine sq2 (rg (pv (r_zi rfl) (nil (t_then ?_))))
  have hm := oI hm; subst hm
  exact rtn (ret1 rfl rfl ⟨_, rfl, _, (iT im1 im2), ⟨rfl, hS2.sel [1] rfl, trivial⟩⟩)

theorem ir_plain_sim {p0 : Ins} {a1 : OA} {c1 : Nat} {r : Ins} (hS : Sep g T0 w0 [R]) (h1 : SlR (rInt .i64) T0 w0 (sv a1 p0.Args c1) p0.Args) (hm : ir_plain p0 = some r) :
    Calls Tryz.prog 105 #[.agg (cIns p0 a1 c1).toArray] w0 (RetS T0 w0 fun T w v => ∃ (a4 : OA) (c4 : Nat), v = .agg (cIns r a4 c4).toArray ∧ Sep g T w [R] ∧ SlR (rInt .i64) T w (sv a4 r.Args c4) r.Args ∧ True) := by
  refine enter (args := [.agg (cIns p0 a1 c1).toArray]) Tryz.func105 rfl Tryz.ntmps105 rfl fun J => ?_
  unfold ir_plain at hm
  refine sq2 (rg (wl rfl (bxS (cs := (cIns p0 a1 c1)) rfl rfl hS fun w1 b1 im1 hS1 => ?_)))
  refine wl rfl (alS (zs := [iv 0, iv 0, iv 0, iv 0, iv 0, iv 0, iv 0, iv 0, .int .u32 0, .slice none 0 0, .bool false]) zeroValue49 rfl hS1 fun w2 b2 im2 hS2 => ?_)
  refine nil (t_then ?_)
  obtain ⟨kk1, hkk1, hm⟩ := jn_open hm
  refine cut (fun a w3 => ∃ (J : JV) (T1 : TP) (x1 : Ins) (a2 : OA) (c2 : Nat), a = env (nf 39) J [(1, pt b1 0), (2, pt b2 0)] ∧ Im T0 w2 T1 w3 ∧ Sep g T1 w3 [boxA b2 [iv 0, iv 0, iv 0, iv 0, iv 0, iv 0, iv 0, iv 0, .int .u32 0, .slice none 0 0, .bool false], boxA b1 (cIns x1 a2 c2), R] ∧ SlR (rInt .i64) T1 w3 (sv a2 x1.Args c2) x1.Args ∧ kk1 x1 = some r) ?_ ?_
  · refine sq2 (rg (pv (r_fa rfl underlying49 rfl sizeOf3 rfl) (pv (r_ld rfl isAgg3 (hS2.cell0 (i := 1) ⟨rfl, rfl⟩ (j := 0) rfl)) (pv (r_ib rfl rfl rfl) (pv (r_mb rfl) (?_))))))
    rcases Bool.eq_false_or_eq_true (p0.Op == 6) with hb1 | hb1
    · have hm := ctrue hb1 hm
      refine gF (d0 := 6) rfl rfl (by rw [hb1]; rfl) (gF (d0 := 6) rfl rfl (by rw [hb1]; rfl) (gF (d0 := 6) rfl rfl (by rw [hb1]; rfl) (pv (r_pkt rfl hb1 rfl) (nil (t_then ?_)))))
      refine cnd (b := true) rfl (fun _ => ?_) (fun h => nomatch h)
      refine rg (pv (r_fa rfl underlying49 rfl sizeOf4 rfl) (wl rfl (st0B (q := 1) hS2 ⟨rfl, rfl⟩ rfl rfl rfl sizeOf4 rfl rfl rfl fun w6 im6 hS5 => ?_)))
      exact nil (t_then ⟨_, _, ({ p0 with Log := false }), _, _, env_has ⟨rfl, rfl, trivial⟩, im6, hS5.sel [0, 1, 2] rfl, (h1.mono (iT im1 (iT im2 im6))), hm⟩)
    have hm := cfalse hb1 hm
    obtain ⟨y1, hx1, hm⟩ := bindS hm
    refine gT (d0 := 6) rfl rfl hb1 (pv (r_ldS rfl isAgg49 sizeOf49 rfl (hS2.cells0 (i := 1) ⟨rfl, rfl⟩ (o := 0) rfl) (cs := (cIns p0 a1 c1))) (gT (d0 := 6) rfl rfl hb1 (wl rfl (calS cf28 rfl (ir_Def_sim (p0 := p0) (hS2.bun [0, 1, 2] [] rfl) (h1.mono (iT im1 im2)) hx1) rfl fun v1 T2 w4 im4 rv1 => ?_))))
    obtain ⟨rfl, hS3, _⟩ := rv1
    have hS3 := hS3.unb
    refine gT (d0 := 6) rfl rfl hb1 (pv (r_ib rfl rfl rfl) (pv (r_pkf rfl hb1 rfl) (nil (t_then ?_))))
    refine cnd rfl (fun hb2 => ?_) (fun hb2 => ?_)
    · have hm := ctrue hb2 hm
      refine rg (pv (r_fa rfl underlying49 rfl sizeOf4 rfl) (wl rfl (st0B (q := 1) hS3 ⟨rfl, rfl⟩ rfl rfl rfl sizeOf4 rfl rfl rfl fun w5 im5 hS4 => ?_)))
      exact nil (t_then ⟨_, _, ({ p0 with Log := false }), _, _, env_has ⟨rfl, rfl, trivial⟩, (iT im4 im5), hS4.sel [0, 1, 2] rfl, (h1.mono (iT im1 (iT im2 (iT im4 im5)))), hm⟩)
    have hm := cfalse hb2 hm
    exact skp (t_then ⟨_, _, p0, _, _, env_has ⟨rfl, rfl, trivial⟩, im4, hS3.sel [0, 1, 2] rfl, (h1.mono (iT im1 (iT im2 im4))), hm⟩)
  rintro _ w3 ⟨J, T1, x1, a2, c2, rfl, im3, hS6, h2, hm⟩
  rw [hkk1] at hm
  refine sq2 (rg (pv (r_fa rfl underlying49 rfl sizeOf3 rfl) (wl rfl (st0B (q := 1) hS6 ⟨rfl, rfl⟩ rfl rfl rfl sizeOf3 rfl rfl rfl fun w7 im7 hS7 => ?_))))
  refine pv (r_fa rfl underlying49 rfl sizeOf3 rfl) (wl rfl (st0B (q := 1) hS7 ⟨rfl, rfl⟩ rfl rfl rfl sizeOf3 rfl rfl rfl fun w8 im8 hS8 => ?_))
  refine pv (r_fa rfl underlying49 rfl sizeOf3 rfl) (wl rfl (st0B (q := 1) hS8 ⟨rfl, rfl⟩ rfl rfl rfl sizeOf3 rfl rfl rfl fun w9 im9 hS9 => ?_))
  refine nil (t_then ?_)
  refine sq2 (rg (pv (r_fa rfl underlying49 rfl sizeOf41 rfl) (wl rfl (st0B (q := 1) hS9 ⟨rfl, rfl⟩ rfl rfl rfl sizeOf41 rfl rfl rfl fun w10 im10 hS10 => ?_))))
  refine nil (t_then ?_)
  obtain ⟨kk2, hkk2, hm⟩ := jn_open hm
  refine cut (fun a w11 => ∃ (J : JV) (T3 : TP) (x2 : Ins) (a3 : OA) (c3 : Nat), a = env (nf 39) J [(1, pt b1 0), (2, pt b2 0)] ∧ Im T1 w10 T3 w11 ∧ Sep g T3 w11 [boxA b2 [iv 0, iv 0, iv 0, iv 0, iv 0, iv 0, iv 0, iv 0, .int .u32 0, .slice none 0 0, .bool false], boxA b1 (cIns x2 a3 c3), R] ∧ SlR (rInt .i64) T3 w11 (sv a3 x2.Args c3) x2.Args ∧ kk2 x2 = some r) ?_ ?_
  · refine sq2 (rg (pv (r_fa rfl underlying49 rfl sizeOf3 rfl) (pv (r_ld rfl isAgg3 (hS10.cell0 (i := 1) ⟨rfl, rfl⟩ (j := 0) rfl)) (nil (t_then ?_)))))
    refine blk (sq2 (rg (pv (r_ib rfl rfl rfl) (pv (r_zb rfl) (nil (t_then ?_))))))
    refine cnd rfl (fun hb4 => ?_) (fun hb4 => ?_)
    · have hm := ctrue hb4 hm
      refine rg (pv (r_fa rfl underlying49 rfl sizeOf47 rfl) (wl rfl (st0B (q := 1) hS10 ⟨rfl, rfl⟩ rfl rfl rfl sizeOf47 rfl rfl rfl fun w12 im12 hS11 => ?_)))
      exact nil (t_blk (t_then ⟨_, _, ({ x1 with D := (-1), A := (-1), B := (-1), Num := 0, Args := [] }), _, _, env_has ⟨rfl, rfl, trivial⟩, im12, hS11.sel [0, 1, 2] rfl, SlR_nil, hm⟩))
    have hm := cfalse hb4 hm
    obtain ⟨kk3, hkk3, hm⟩ := jn_open hm
    refine cut (fun a w13 => ∃ (J : JV) (T4 : TP) (x3 : Bool), a = env (nf 39) J [(1, pt b1 0), (2, pt b2 0), (17, iv x1.Op), (21, .bool x3)] ∧ Im T1 w10 T4 w13 ∧ Sep g T4 w13 [boxA b2 [iv 0, iv 0, iv 0, iv 0, iv 0, iv 0, iv 0, iv 0, .int .u32 0, .slice none 0 0, .bool false], boxA b1 [iv x1.Op, iv (-1), iv (-1), iv (-1), iv x1.Fn, iv x1.Obj, iv x1.Off, iv x1.Size, .int .u32 x1.Num, .slice none 0 0, .bool x1.Log], R] ∧ kk3 x3 = some r) ?_ ?_
    · refine sq2 (rg (pv (r_ib rfl rfl rfl) (pv (r_zb rfl) (nil (t_then ?_)))))
      refine cnd rfl (fun hb5 => ?_) (fun hb5 => ?_)
      · have hm := ctrue hb5 hm
        exact skp (t_then ⟨_, _, (x1.Op == 3), env_has ⟨rfl, rfl, rfl, rfl, trivial⟩, Im.refl, hS10.sel [0, 1, 2] rfl, hm⟩)
      have hm := cfalse hb5 hm
      exact rg (pv (r_ib rfl rfl rfl) (pv (r_zb rfl) (nil (t_then ⟨_, _, (x1.Op == 4), env_has ⟨rfl, rfl, rfl, rfl, trivial⟩, Im.refl, hS10.sel [0, 1, 2] rfl, hm⟩))))
    rintro _ w13 ⟨J, T4, x3, rfl, im13, hS12, hm⟩
    rw [hkk3] at hm
    refine cnd rfl (fun hb6 => ?_) (fun hb6 => ?_)
    · have hm := ctrue hb6 hm
      refine rg (pv (r_fa rfl underlying49 rfl sizeOf3 rfl) (wl rfl (st0B (q := 1) hS12 ⟨rfl, rfl⟩ rfl rfl rfl sizeOf3 rfl rfl rfl fun w14 im14 hS13 => ?_)))
      exact nil (t_blk (t_then ⟨_, _, ({ x1 with D := (-1), A := (-1), B := (-1), Fn := 0, Args := [] }), _, _, env_has ⟨rfl, rfl, trivial⟩, (iT im13 im14), hS13.sel [0, 1, 2] rfl, SlR_nil, hm⟩))
    have hm := cfalse hb6 hm
    obtain ⟨kk4, hkk4, hm⟩ := jn_open hm
    refine cut (fun a w15 => ∃ (J : JV) (T5 : TP) (x4 : Bool), a = env (nf 39) J [(1, pt b1 0), (2, pt b2 0), (17, iv x1.Op), (25, .bool x4)] ∧ Im T4 w13 T5 w15 ∧ Sep g T5 w15 [boxA b2 [iv 0, iv 0, iv 0, iv 0, iv 0, iv 0, iv 0, iv 0, .int .u32 0, .slice none 0 0, .bool false], boxA b1 [iv x1.Op, iv (-1), iv (-1), iv (-1), iv x1.Fn, iv x1.Obj, iv x1.Off, iv x1.Size, .int .u32 x1.Num, .slice none 0 0, .bool x1.Log], R] ∧ kk4 x4 = some r) ?_ ?_
    · refine sq2 (rg (pv (r_ib rfl rfl rfl) (pv (r_zb rfl) (nil (t_then ?_)))))
      refine cnd rfl (fun hb7 => ?_) (fun hb7 => ?_)
      · have hm := ctrue hb7 hm
        exact skp (t_then ⟨_, _, (x1.Op == 6), env_has ⟨rfl, rfl, rfl, rfl, trivial⟩, Im.refl, hS12.sel [0, 1, 2] rfl, hm⟩)
      have hm := cfalse hb7 hm
      exact rg (pv (r_ib rfl rfl rfl) (pv (r_zb rfl) (nil (t_then ⟨_, _, (x1.Op == 5), env_has ⟨rfl, rfl, rfl, rfl, trivial⟩, Im.refl, hS12.sel [0, 1, 2] rfl, hm⟩))))
    rintro _ w15 ⟨J, T5, x4, rfl, im15, hS14, hm⟩
    rw [hkk4] at hm
    refine cnd rfl (fun hb8 => ?_) (fun hb8 => ?_)
    · have hm := ctrue hb8 hm
      refine rg (pv (r_fa rfl underlying49 rfl sizeOf3 rfl) (wl rfl (st0B (q := 1) hS14 ⟨rfl, rfl⟩ rfl rfl rfl sizeOf3 rfl rfl rfl fun w16 im16 hS15 => ?_)))
      refine pv (r_fa rfl underlying49 rfl sizeOf3 rfl) (wl rfl (st0B (q := 1) hS15 ⟨rfl, rfl⟩ rfl rfl rfl sizeOf3 rfl rfl rfl fun w17 im17 hS16 => ?_))
      exact nil (t_blk (t_then ⟨_, _, (⟨x1.Op, (-1), (-1), (-1), x1.Fn, x1.Obj, 0, 0, x1.Num, [], x1.Log⟩ : Ins), _, _, env_has ⟨rfl, rfl, trivial⟩, (iT im13 (iT im15 (iT im16 im17))), hS16.sel [0, 1, 2] rfl, SlR_nil, hm⟩))
    have hm := cfalse hb8 hm
    obtain ⟨kk5, hkk5, hm⟩ := jn_open hm
    refine cut (fun a w18 => ∃ (J : JV) (T6 : TP) (x5 : Bool), a = env (nf 39) J [(1, pt b1 0), (2, pt b2 0), (17, iv x1.Op), (30, .bool x5)] ∧ Im T5 w15 T6 w18 ∧ Sep g T6 w18 [boxA b2 [iv 0, iv 0, iv 0, iv 0, iv 0, iv 0, iv 0, iv 0, .int .u32 0, .slice none 0 0, .bool false], boxA b1 [iv x1.Op, iv (-1), iv (-1), iv (-1), iv x1.Fn, iv x1.Obj, iv x1.Off, iv x1.Size, .int .u32 x1.Num, .slice none 0 0, .bool x1.Log], R] ∧ kk5 x5 = some r) ?_ ?_
    · refine sq2 (rg (pv (r_ib rfl rfl rfl) (pv (r_zb rfl) (nil (t_then ?_)))))
      refine cnd rfl (fun hb9 => ?_) (fun hb9 => ?_)
      · have hm := ctrue hb9 hm
        exact skp (t_then ⟨_, _, (x1.Op == 7), env_has ⟨rfl, rfl, rfl, rfl, trivial⟩, Im.refl, hS14.sel [0, 1, 2] rfl, hm⟩)
      have hm := cfalse hb9 hm
      exact rg (pv (r_ib rfl rfl rfl) (pv (r_zb rfl) (nil (t_then ⟨_, _, (x1.Op == 8), env_has ⟨rfl, rfl, rfl, rfl, trivial⟩, Im.refl, hS14.sel [0, 1, 2] rfl, hm⟩))))
    rintro _ w18 ⟨J, T6, x5, rfl, im18, hS17, hm⟩
    rw [hkk5] at hm
    refine cnd rfl (fun hb10 => ?_) (fun hb10 => ?_)
    · have hm := ctrue hb10 hm
      refine rg (pv (r_fa rfl underlying49 rfl sizeOf3 rfl) (wl rfl (st0B (q := 1) hS17 ⟨rfl, rfl⟩ rfl rfl rfl sizeOf3 rfl rfl rfl fun w19 im19 hS18 => ?_)))
      refine pv (r_fa rfl underlying49 rfl sizeOf3 rfl) (wl rfl (st0B (q := 1) hS18 ⟨rfl, rfl⟩ rfl rfl rfl sizeOf3 rfl rfl rfl fun w20 im20 hS19 => ?_))
      exact nil (t_blk (t_then ⟨_, _, (⟨x1.Op, (-1), (-1), (-1), x1.Fn, 0, 0, x1.Size, x1.Num, [], x1.Log⟩ : Ins), _, _, env_has ⟨rfl, rfl, trivial⟩, (iT im13 (iT im15 (iT im18 (iT im19 im20)))), hS19.sel [0, 1, 2] rfl, SlR_nil, hm⟩))
    have hm := cfalse hb10 hm
    refine sq2 (rg (pv (r_ib rfl rfl rfl) (pv (r_zb rfl) (nil (t_then ?_)))))
    refine cnd rfl (fun hb11 => ?_) (fun hb11 => ?_)
    · have hm := ctrue hb11 hm
      refine rg (pv (r_fa rfl underlying49 rfl sizeOf3 rfl) (wl rfl (st0B (q := 1) hS17 ⟨rfl, rfl⟩ rfl rfl rfl sizeOf3 rfl rfl rfl fun w21 im21 hS20 => ?_)))
      exact nil (t_blk (t_then ⟨_, _, ({ x1 with D := (-1), A := (-1), B := (-1), Obj := 0, Args := [] }), _, _, env_has ⟨rfl, rfl, trivial⟩, (iT im13 (iT im15 (iT im18 im21))), hS20.sel [0, 1, 2] rfl, SlR_nil, hm⟩))
    have hm := cfalse hb11 hm
    exact skp (t_blk (t_then ⟨_, _, ({ x1 with D := (-1), A := (-1), B := (-1), Args := [] }), _, _, env_has ⟨rfl, rfl, trivial⟩, (iT im13 (iT im15 im18)), hS17.sel [0, 1, 2] rfl, SlR_nil, hm⟩))
  rintro _ w11 ⟨J, T3, x2, a3, c3, rfl, im11, hS21, h3, hm⟩
  rw [hkk2] at hm
  refine sq2 (rg (pv (r_ldS rfl isAgg49 sizeOf49 rfl (hS21.cells0 (i := 1) ⟨rfl, rfl⟩ (o := 0) rfl) (cs := (cIns x2 a3 c3))) (wl rfl (st0B (q := 0) hS21 ⟨rfl, rfl⟩ rfl rfl rfl sizeOf49 rfl rfl rfl fun w22 im22 hS22 => ?_))))
  refine nil (t_then ?_)
  have hm := oI hm; subst hm
  exact rtn (retN (vs := [.agg (cIns x2 a3 c3).toArray]) rfl ⟨rvS rfl isAgg49 sizeOf49 rfl (hS22.bx (i := 0) ⟨rfl, rfl⟩), trivial⟩ rfl ⟨_, rfl, _, (iT im1 (iT im2 (iT im3 (iT im7 (iT im8 (iT im9 (iT im10 (iT im11 im22)))))))), ⟨_, _, rfl, hS22.sel [2] rfl, (h3.mono im22), trivial⟩⟩)

theorem ir_bare_sim {p0 : Ins} {a1 : OA} {c1 : Nat} {r : Bool} (hS : Sep g T0 w0 [R]) (h1 : SlR (rInt .i64) T0 w0 (sv a1 p0.Args c1) p0.Args) (hm : ir_bare p0 = some r) :
    Calls Tryz.prog 100 #[.agg (cIns p0 a1 c1).toArray] w0 (RetS T0 w0 fun T w v => v = .bool r ∧ Sep g T w [R] ∧ True) := by
  refine enter (args := [.agg (cIns p0 a1 c1).toArray]) Tryz.func100 rfl Tryz.ntmps100 rfl fun J => ?_
  unfold ir_bare at hm
  refine sq2 (rg (wl rfl (bxS (cs := (cIns p0 a1 c1)) rfl rfl hS fun w1 b1 im1 hS1 => ?_)))
  refine pv (r_zb rfl) (nil (t_then ?_))
  refine sq2 ?_
  obtain ⟨y1, hx1, hm⟩ := bindS hm
  refine rg (pv (r_ldS rfl isAgg49 sizeOf49 rfl (hS1.cells0 (i := 0) ⟨rfl, rfl⟩ (o := 0) rfl) (cs := (cIns p0 a1 c1))) (wl rfl (calS cf105 rfl (ir_plain_sim (p0 := p0) (hS1.bun [0, 1] [] rfl) (h1.mono im1) hx1) rfl fun v1 T1 w2 im2 rv1 => ?_)))
  obtain ⟨a2, c2, rfl, hS2, h2, _⟩ := rv1
  have hS2 := hS2.unb
  refine wl rfl (alS (zs := [iv 0, iv 0, iv 0, iv 0, iv 0, iv 0, iv 0, iv 0, .int .u32 0, .slice none 0 0, .bool false]) zeroValue49 rfl hS2 fun w3 b2 im3 hS3 => ?_)
  refine wl rfl (st0B (q := 0) hS3 ⟨rfl, rfl⟩ rfl rfl rfl sizeOf49 rfl rfl rfl fun w4 im4 hS4 => ?_)
  refine nil (t_then ?_)
  refine sq2 (rg (pv (r_fa rfl underlying49 rfl sizeOf3 rfl) (pv (r_ld rfl isAgg3 (hS4.cell0 (i := 0) ⟨rfl, rfl⟩ (j := 4) rfl)) (pv (r_ib rfl rfl rfl) (pv (r_mb rfl) (?_))))))
  rcases Bool.eq_false_or_eq_true (y1.Fn == 0) with hb1 | hb1
  · have hm := ctrue hb1 hm
    refine gT (d0 := 9) rfl rfl hb1 (pv (r_fa rfl underlying49 rfl sizeOf3 rfl) (gT (d0 := 9) rfl rfl hb1 (pv (r_ld rfl isAgg3 (hS4.cell0 (i := 0) ⟨rfl, rfl⟩ (j := 5) rfl)) (gT (d0 := 9) rfl rfl hb1 (pv (r_ib rfl rfl rfl) (pv (r_pkt rfl hb1 rfl) (pv (r_mb rfl) (?_))))))))
    rcases Bool.eq_false_or_eq_true (y1.Obj == 0) with hb2 | hb2
    · have hm := ctrue hb2 hm
      refine gT (d0 := 14) rfl rfl hb2 (pv (r_fa rfl underlying49 rfl sizeOf3 rfl) (gT (d0 := 14) rfl rfl hb2 (pv (r_ld rfl isAgg3 (hS4.cell0 (i := 0) ⟨rfl, rfl⟩ (j := 6) rfl)) (gT (d0 := 14) rfl rfl hb2 (pv (r_ib rfl rfl rfl) (pv (r_pkt rfl hb2 rfl) (pv (r_mb rfl) (?_))))))))
      rcases Bool.eq_false_or_eq_true (y1.Off == 0) with hb3 | hb3
      · have hm := ctrue hb3 hm
        refine gT (d0 := 19) rfl rfl hb3 (pv (r_fa rfl underlying49 rfl sizeOf3 rfl) (gT (d0 := 19) rfl rfl hb3 (pv (r_ld rfl isAgg3 (hS4.cell0 (i := 0) ⟨rfl, rfl⟩ (j := 7) rfl)) (gT (d0 := 19) rfl rfl hb3 (pv (r_ib rfl rfl rfl) (pv (r_pkt rfl hb3 rfl) (pv (r_mb rfl) (?_))))))))
        rcases Bool.eq_false_or_eq_true (y1.Size == 0) with hb4 | hb4
        · have hm := ctrue hb4 hm
          refine gT (d0 := 24) rfl rfl hb4 (pv (r_fa rfl underlying49 rfl sizeOf47 rfl) (gT (d0 := 24) rfl rfl hb4 (pv (r_ld rfl isAgg47 (hS4.cell0 (i := 0) ⟨rfl, rfl⟩ (j := 8) rfl)) (gT (d0 := 24) rfl rfl hb4 (pv (r_ib rfl rfl rfl) (pv (r_pkt rfl hb4 rfl) (pv (r_mb rfl) (?_))))))))
          rcases Bool.eq_false_or_eq_true (y1.Num == 0) with hb5 | hb5
          · have hm := ctrue hb5 hm
            refine gT (d0 := 29) rfl rfl hb5 (pv (r_fa rfl underlying49 rfl sizeOf4 rfl) (gT (d0 := 29) rfl rfl hb5 (pv (r_ld rfl isAgg4 (hS4.cell0 (i := 0) ⟨rfl, rfl⟩ (j := 10) rfl)) (gT (d0 := 29) rfl rfl hb5 (pv (r_nt rfl) (pv (r_pkt rfl hb5 rfl) (pv (r_mb rfl) (?_))))))))
            rcases Bool.eq_false_or_eq_true (!y1.Log) with hb6 | hb6
            · have hm := ctrue hb6 hm
              refine gT (d0 := 34) rfl rfl hb6 (pv (r_fa rfl underlying49 rfl sizeOf3 rfl) (gT (d0 := 34) rfl rfl hb6 (pv (r_ld rfl isAgg3 (hS4.cell0 (i := 1) ⟨rfl, rfl⟩ (j := 0) rfl)) (gT (d0 := 34) rfl rfl hb6 (pv (r_ib rfl rfl rfl) (gT (d0 := 34) rfl rfl hb6 (pv (r_mb rfl) (?_))))))))
              rcases Bool.eq_false_or_eq_true (p0.Op == 9) with hb7 | hb7
              · have hm := ctrue hb7 hm
                refine gF (d0 := 38) rfl rfl (by rw [hb7]; rfl) (gF (d0 := 38) rfl rfl (by rw [hb7]; rfl) (gF (d0 := 38) rfl rfl (by rw [hb7]; rfl) (gF (d0 := 38) rfl rfl (by rw [hb7]; rfl) (gT (d0 := 34) rfl rfl hb6 (pv (r_pkt rfl hb7 rfl) (pv (r_pkt rfl hb6 rfl) (pv (r_zb rfl) (nil (t_then ?_)))))))))
                have hm := oI hm; subst hm
                exact rtn (ret1 rfl rfl ⟨_, rfl, _, (iT im1 (iT im2 (iT im3 im4))), ⟨rfl, hS4.sel [2] rfl, trivial⟩⟩)
              have hm := cfalse hb7 hm
              refine gT (d0 := 38) rfl rfl hb7 (pv (r_fa rfl underlying49 rfl sizeOf41 rfl) (gT (d0 := 38) rfl rfl hb7 (pv (r_ld rfl isAgg41 (hS4.cell0 (i := 1) ⟨rfl, rfl⟩ (j := 9) rfl)) (gT (d0 := 38) rfl rfl hb7 (pv (r_ln rfl underlying41) (gT (d0 := 38) rfl rfl hb7 (pv (r_ib rfl rfl rfl) (gT (d0 := 34) rfl rfl hb6 (pv (r_pkf rfl hb7 rfl) (pv (r_pkt rfl hb6 rfl) (pv (r_zb rfl) (nil (t_then ?_)))))))))))))
              have hm := oI hm; subst hm
              exact rtn (ret1 rfl rfl ⟨_, rfl, _, (iT im1 (iT im2 (iT im3 im4))), ⟨rfl, hS4.sel [2] rfl, trivial⟩⟩)
            have hm := cfalse hb6 hm
            refine gF (d0 := 34) rfl rfl (by rw [hb6]; rfl) (gF (d0 := 34) rfl rfl (by rw [hb6]; rfl) (gF (d0 := 34) rfl rfl (by rw [hb6]; rfl) (gF (d0 := 34) rfl rfl (by rw [hb6]; rfl) (gU (d0 := 38) rfl rfl (gU (d0 := 38) rfl rfl (gU (d0 := 38) rfl rfl (gU (d0 := 38) rfl rfl (gF (d0 := 34) rfl rfl (by rw [hb6]; rfl) (pv (r_pkf rfl hb6 rfl) (pv (r_zb rfl) (nil (t_then ?_))))))))))))
            have hm := oI hm; subst hm
            exact rtn (ret1 rfl rfl ⟨_, rfl, _, (iT im1 (iT im2 (iT im3 im4))), ⟨rfl, hS4.sel [2] rfl, trivial⟩⟩)
          have hm := cfalse hb5 hm
          refine gF (d0 := 29) rfl rfl (by rw [hb5]; rfl) (gF (d0 := 29) rfl rfl (by rw [hb5]; rfl) (gF (d0 := 29) rfl rfl (by rw [hb5]; rfl) (pv (r_pkf rfl hb5 rfl) (pv (r_mb rfl) (gF (d0 := 34) rfl rfl rfl (gF (d0 := 34) rfl rfl rfl (gF (d0 := 34) rfl rfl rfl (gF (d0 := 34) rfl rfl rfl (gU (d0 := 38) rfl rfl (gU (d0 := 38) rfl rfl (gU (d0 := 38) rfl rfl (gU (d0 := 38) rfl rfl (gF (d0 := 34) rfl rfl rfl (pv (r_pkf rfl rfl rfl) (pv (r_zb rfl) (nil (t_then ?_)))))))))))))))))
          have hm := oI hm; subst hm
          exact rtn (ret1 rfl rfl ⟨_, rfl, _, (iT im1 (iT im2 (iT im3 im4))), ⟨rfl, hS4.sel [2] rfl, trivial⟩⟩)
        have hm := cfalse hb4 hm
        refine gF (d0 := 24) rfl rfl (by rw [hb4]; rfl) (gF (d0 := 24) rfl rfl (by rw [hb4]; rfl) (gF (d0 := 24) rfl rfl (by rw [hb4]; rfl) (pv (r_pkf rfl hb4 rfl) (pv (r_mb rfl) (gF (d0 := 29) rfl rfl rfl (gF (d0 := 29) rfl rfl rfl (gF (d0 := 29) rfl rfl rfl (pv (r_pkf rfl rfl rfl) (pv (r_mb rfl) (gF (d0 := 34) rfl rfl rfl (gF (d0 := 34) rfl rfl rfl (gF (d0 := 34) rfl rfl rfl (gF (d0 := 34) rfl rfl rfl (gU (d0 := 38) rfl rfl (gU (d0 := 38) rfl rfl (gU (d0 := 38) rfl rfl (gU (d0 := 38) rfl rfl (gF (d0 := 34) rfl rfl rfl (pv (r_pkf rfl rfl rfl) (pv (r_zb rfl) (nil (t_then ?_))))))))))))))))))))))
        have hm := oI hm; subst hm
        exact rtn (ret1 rfl rfl ⟨_, rfl, _, (iT im1 (iT im2 (iT im3 im4))), ⟨rfl, hS4.sel [2] rfl, trivial⟩⟩)
      have hm := cfalse hb3 hm
      refine gF (d0 := 19) rfl rfl (by rw [hb3]; rfl) (gF (d0 := 19) rfl rfl (by rw [hb3]; rfl) (gF (d0 := 19) rfl rfl (by rw [hb3]; rfl) (pv (r_pkf rfl hb3 rfl) (pv (r_mb rfl) (gF (d0 := 24) rfl rfl rfl (gF (d0 := 24) rfl rfl rfl (gF (d0 := 24) rfl rfl rfl (pv (r_pkf rfl rfl rfl) (pv (r_mb rfl) (gF (d0 := 29) rfl rfl rfl (gF (d0 := 29) rfl rfl rfl (gF (d0 := 29) rfl rfl rfl (pv (r_pkf rfl rfl rfl) (pv (r_mb rfl) (gF (d0 := 34) rfl rfl rfl (gF (d0 := 34) rfl rfl rfl (gF (d0 := 34) rfl rfl rfl (gF (d0 := 34) rfl rfl rfl (gU (d0 := 38) rfl rfl (gU (d0 := 38) rfl rfl (gU (d0 := 38) rfl rfl (gU (d0 := 38) rfl rfl (gF (d0 := 34) rfl rfl rfl (pv (r_pkf rfl rfl rfl) (pv (r_zb rfl) (nil (t_then ?_)))))))))))))))))))))))))))
      have hm := oI hm; subst hm
      exact rtn (ret1 rfl rfl ⟨_, rfl, _, (iT im1 (iT im2 (iT im3 im4))), ⟨rfl, hS4.sel [2] rfl, trivial⟩⟩)
    have hm := cfalse hb2 hm
    refine gF (d0 := 14) rfl rfl (by rw [hb2]; rfl) (gF (d0 := 14) rfl rfl (by rw [hb2]; rfl) (gF (d0 := 14) rfl rfl (by rw [hb2]; rfl) (pv (r_pkf rfl hb2 rfl) (pv (r_mb rfl) (gF (d0 := 19) rfl rfl rfl (gF (d0 := 19) rfl rfl rfl (gF (d0 := 19) rfl rfl rfl (pv (r_pkf rfl rfl rfl) (pv (r_mb rfl) (gF (d0 := 24) rfl rfl rfl (gF (d0 := 24) rfl rfl rfl (gF (d0 := 24) rfl rfl rfl (pv (r_pkf rfl rfl rfl) (pv (r_mb rfl) (gF (d0 := 29) rfl rfl rfl (gF (d0 := 29) rfl rfl rfl (gF (d0 := 29) rfl rfl rfl (pv (r_pkf rfl rfl rfl) (pv (r_mb rfl) (gF (d0 := 34) rfl rfl rfl (gF (d0 := 34) rfl rfl rfl (gF (d0 := 34) rfl rfl rfl (gF (d0 := 34) rfl rfl rfl (gU (d0 := 38) rfl rfl (gU (d0 := 38) rfl rfl (gU (d0 := 38) rfl rfl (gU (d0 := 38) rfl rfl (gF (d0 := 34) rfl rfl rfl (pv (r_pkf rfl rfl rfl) (pv (r_zb rfl) (nil (t_then ?_))))))))))))))))))))))))))))))))
    have hm := oI hm; subst hm
    exact rtn (ret1 rfl rfl ⟨_, rfl, _, (iT im1 (iT im2 (iT im3 im4))), ⟨rfl, hS4.sel [2] rfl, trivial⟩⟩)
  have hm := cfalse hb1 hm
  refine gF (d0 := 9) rfl rfl (by rw [hb1]; rfl) (gF (d0 := 9) rfl rfl (by rw [hb1]; rfl) (gF (d0 := 9) rfl rfl (by rw [hb1]; rfl) (pv (r_pkf rfl hb1 rfl) (pv (r_mb rfl) (gF (d0 := 14) rfl rfl rfl (gF (d0 := 14) rfl rfl rfl (gF (d0 := 14) rfl rfl rfl (pv (r_pkf rfl rfl rfl) (pv (r_mb rfl) (gF (d0 := 19) rfl rfl rfl (gF (d0 := 19) rfl rfl rfl (gF (d0 := 19) rfl rfl rfl (pv (r_pkf rfl rfl rfl) (pv (r_mb rfl) (gF (d0 := 24) rfl rfl rfl (gF (d0 := 24) rfl rfl rfl (gF (d0 := 24) rfl rfl rfl (pv (r_pkf rfl rfl rfl) (pv (r_mb rfl) (gF (d0 := 29) rfl rfl rfl (gF (d0 := 29) rfl rfl rfl (gF (d0 := 29) rfl rfl rfl (pv (r_pkf rfl rfl rfl) (pv (r_mb rfl) (gF (d0 := 34) rfl rfl rfl (gF (d0 := 34) rfl rfl rfl (gF (d0 := 34) rfl rfl rfl (gF (d0 := 34) rfl rfl rfl (gU (d0 := 38) rfl rfl (gU (d0 := 38) rfl rfl (gU (d0 := 38) rfl rfl (gU (d0 := 38) rfl rfl (gF (d0 := 34) rfl rfl rfl (pv (r_pkf rfl rfl rfl) (pv (r_zb rfl) (nil (t_then ?_)))))))))))))))))))))))))))))))))))))
  have hm := oI hm; subst hm
  exact rtn (ret1 rfl rfl ⟨_, rfl, _, (iT im1 (iT im2 (iT im3 im4))), ⟨rfl, hS4.sel [2] rfl, trivial⟩⟩)

theorem ir_looker_reg_sim {p0 : IrLooker} {a1 : OA} {c1 : Nat} {a2 : OA} {c2 : Nat} {a3 : OA} {c3 : Nat} {a4 : OA} {c4 : Nat} {a5 : OA} {c5 : Nat} {p1 : Int} {p2 : Bool} {r : Bool} (hS : Sep g T0 w0 [R]) (h1 : SlR rGSlot T0 w0 (sv a1 p0.m.Globals c1) p0.m.Globals) (h2 : SlR (rSl (rInt .u8)) T0 w0 (sv a2 p0.m.Data c2) p0.m.Data) (h3 : SlR rProc T0 w0 (sv a3 p0.m.Procs c3) p0.m.Procs) (h4 : SlR rGSlot T0 w0 (sv a4 p0.p.Objects c4) p0.p.Objects) (h5 : SlR rGBlock T0 w0 (sv a5 p0.p.Blocks c5) p0.p.Blocks) (hm : ir_looker_reg p0 p1 p2 = some r) :
    Calls Tryz.prog 102 #[.agg #[sv a1 p0.m.Globals c1, sv a2 p0.m.Data c2, sv a3 p0.m.Procs c3, iv p0.m.Main, .string ⟨p0.p.Name.toArray⟩, .bool p0.p.Void, iv p0.p.Params, iv p0.p.Regs, sv a4 p0.p.Objects c4, sv a5 p0.p.Blocks c5], iv p1, .bool p2] w0 (RetS T0 w0 fun T w v => v = .bool r ∧ Sep g T w [R] ∧ True) := by
  refine enter (args := [.agg #[sv a1 p0.m.Globals c1, sv a2 p0.m.Data c2, sv a3 p0.m.Procs c3, iv p0.m.Main, .string ⟨p0.p.Name.toArray⟩, .bool p0.p.Void, iv p0.p.Params, iv p0.p.Regs, sv a4 p0.p.Objects c4, sv a5 p0.p.Blocks c5], iv p1, .bool p2]) Tryz.func102 rfl Tryz.ntmps102 rfl fun J => ?_
  unfold ir_looker_reg at hm
  refine sq2 (rg (wl rfl (bxS (cs := [sv a1 p0.m.Globals c1, sv a2 p0.m.Data c2, sv a3 p0.m.Procs c3, iv p0.m.Main, .string ⟨p0.p.Name.toArray⟩, .bool p0.p.Void, iv p0.p.Params, iv p0.p.Regs, sv a4 p0.p.Objects c4, sv a5 p0.p.Blocks c5]) rfl rfl hS fun w1 b1 im1 hS1 => ?_)))
  refine pv (r_zb rfl) (nil (t_then ?_))
  refine sq2 (sq2 (rg (pv (r_mb rfl) (pv (r_nt rfl) (nil (t_then ?_))))))
  refine cnd rfl (fun hb1 => ?_) (fun hb1 => ?_)
  · have hm := ctrue hb1 hm
    refine sq2 (rg (pv (r_mi rfl) (pv (r_ib rfl rfl rfl) (pv (r_zb rfl) (nil (t_then ?_))))))
    have hm := oI hm; subst hm
    exact rtn (r_then (ret1 rfl rfl ⟨_, rfl, _, im1, ⟨rfl, hS1.sel [1] rfl, trivial⟩⟩))
  have hm := cfalse hb1 hm
  refine skp (t_then ?_)
  refine sq2 (rg (pv (r_mi rfl) (pv (r_ib rfl rfl rfl) (pv (r_mb rfl) (?_)))))
  rcases Bool.eq_false_or_eq_true (decide (0 ≤ p1)) with hb2 | hb2
  · have hm := ctrue hb2 hm
    refine gT (d0 := 13) rfl rfl hb2 (pv (r_mi rfl) (gT (d0 := 13) rfl rfl hb2 (pv (r_fa rfl underlying135 rfl sizeOf31 rfl) (gT (d0 := 13) rfl rfl hb2 (pv (r_fa rfl underlying31 rfl sizeOf3 rfl) (gT (d0 := 13) rfl rfl hb2 (pv (r_ld rfl isAgg3 (hS1.cell0 (i := 0) ⟨rfl, rfl⟩ (j := 7) rfl)) (gT (d0 := 13) rfl rfl hb2 (pv (r_ib rfl rfl rfl) (pv (r_pkt rfl hb2 rfl) (pv (r_zb rfl) (nil (t_then ?_)))))))))))))
    have hm := oI hm; subst hm
    exact rtn (ret1 rfl rfl ⟨_, rfl, _, im1, ⟨rfl, hS1.sel [1] rfl, trivial⟩⟩)
  have hm := cfalse hb2 hm
  refine gF (d0 := 13) rfl rfl (by rw [hb2]; rfl) (gF (d0 := 13) rfl rfl (by rw [hb2]; rfl) (gF (d0 := 13) rfl rfl (by rw [hb2]; rfl) (gF (d0 := 13) rfl rfl (by rw [hb2]; rfl) (gF (d0 := 13) rfl rfl (by rw [hb2]; rfl) (pv (r_pkf rfl hb2 rfl) (pv (r_zb rfl) (nil (t_then ?_))))))))
  have hm := oI hm; subst hm
  exact rtn (ret1 rfl rfl ⟨_, rfl, _, im1, ⟨rfl, hS1.sel [1] rfl, trivial⟩⟩)

theorem ir_looker_call_sim {p0 : IrLooker} {a1 : OA} {c1 : Nat} {a2 : OA} {c2 : Nat} {a3 : OA} {c3 : Nat} {a4 : OA} {c4 : Nat} {a5 : OA} {c5 : Nat} {p1 : Ins} {a6 : OA} {c6 : Nat} {r : Bool} (hS : Sep g T0 w0 [R]) (h1 : SlR rGSlot T0 w0 (sv a1 p0.m.Globals c1) p0.m.Globals) (h2 : SlR (rSl (rInt .u8)) T0 w0 (sv a2 p0.m.Data c2) p0.m.Data) (h3 : SlR rProc T0 w0 (sv a3 p0.m.Procs c3) p0.m.Procs) (h4 : SlR rGSlot T0 w0 (sv a4 p0.p.Objects c4) p0.p.Objects) (h5 : SlR rGBlock T0 w0 (sv a5 p0.p.Blocks c5) p0.p.Blocks) (h6 : SlR (rInt .i64) T0 w0 (sv a6 p1.Args c6) p1.Args) (hm : ir_looker_call p0 p1 = some r) :
    Calls Tryz.prog 101 #[.agg #[sv a1 p0.m.Globals c1, sv a2 p0.m.Data c2, sv a3 p0.m.Procs c3, iv p0.m.Main, .string ⟨p0.p.Name.toArray⟩, .bool p0.p.Void, iv p0.p.Params, iv p0.p.Regs, sv a4 p0.p.Objects c4, sv a5 p0.p.Blocks c5], .agg (cIns p1 a6 c6).toArray] w0 (RetS T0 w0 fun T w v => v = .bool r ∧ Sep g T w [R] ∧ True) := by
  refine enter (args := [.agg #[sv a1 p0.m.Globals c1, sv a2 p0.m.Data c2, sv a3 p0.m.Procs c3, iv p0.m.Main, .string ⟨p0.p.Name.toArray⟩, .bool p0.p.Void, iv p0.p.Params, iv p0.p.Regs, sv a4 p0.p.Objects c4, sv a5 p0.p.Blocks c5], .agg (cIns p1 a6 c6).toArray]) Tryz.func101 rfl Tryz.ntmps101 rfl fun J => ?_
  unfold ir_looker_call at hm
  refine sq2 (rg (wl rfl (bxS (cs := [sv a1 p0.m.Globals c1, sv a2 p0.m.Data c2, sv a3 p0.m.Procs c3, iv p0.m.Main, .string ⟨p0.p.Name.toArray⟩, .bool p0.p.Void, iv p0.p.Params, iv p0.p.Regs, sv a4 p0.p.Objects c4, sv a5 p0.p.Blocks c5]) rfl rfl hS fun w1 b1 im1 hS1 => ?_)))
  refine wl rfl (bxS (cs := (cIns p1 a6 c6)) rfl rfl hS1 fun w2 b2 im2 hS2 => ?_)
  refine pv (r_zb rfl) (nil (t_then ?_))
  refine sq2 (sq2 (rg (pv (r_fa rfl underlying49 rfl sizeOf3 rfl) (pv (r_ld rfl isAgg3 (hS2.cell0 (i := 0) ⟨rfl, rfl⟩ (j := 5) rfl)) (pv (r_ib rfl rfl rfl) (pv (r_mb rfl) (?_)))))))
  rcases Bool.eq_false_or_eq_true (decide (p1.Obj < 0)) with hb1 | hb1
  · have hm := ctrue hb1 hm
    refine gF (d0 := 11) rfl rfl (by rw [hb1]; rfl) (gF (d0 := 11) rfl rfl (by rw [hb1]; rfl) (gF (d0 := 11) rfl rfl (by rw [hb1]; rfl) (gF (d0 := 11) rfl rfl (by rw [hb1]; rfl) (gF (d0 := 11) rfl rfl (by rw [hb1]; rfl) (gF (d0 := 11) rfl rfl (by rw [hb1]; rfl) (gF (d0 := 11) rfl rfl (by rw [hb1]; rfl) (pv (r_pkt rfl hb1 rfl) (nil (t_then ?_)))))))))
    refine cnd (b := true) rfl (fun _ => ?_) (fun h => nomatch h)
    refine sq2 (rg (pv (r_zb rfl) (nil (t_then ?_))))
    have hm := oI hm; subst hm
    exact rtn (r_then (ret1 rfl rfl ⟨_, rfl, _, (iT im1 im2), ⟨rfl, hS2.sel [2] rfl, trivial⟩⟩))
  have hm := cfalse hb1 hm
  refine gT (d0 := 11) rfl rfl hb1 (pv (r_fa rfl underlying49 rfl sizeOf3 rfl) (gT (d0 := 11) rfl rfl hb1 (pv (r_ld rfl isAgg3 (hS2.cell0 (i := 0) ⟨rfl, rfl⟩ (j := 5) rfl)) (gT (d0 := 11) rfl rfl hb1 (pv (r_fa rfl underlying135 rfl sizeOf26 rfl) (gT (d0 := 11) rfl rfl hb1 (pv (r_fa rfl underlying26 rfl sizeOf24 rfl) (gT (d0 := 11) rfl rfl hb1 (pv (r_ld rfl isAgg24 (hS2.cell0 (i := 1) ⟨rfl, rfl⟩ (j := 2) rfl)) (gT (d0 := 11) rfl rfl hb1 (pv (r_ln rfl underlying24) (gT (d0 := 11) rfl rfl hb1 (pv (r_ib rfl rfl rfl) (pv (r_pkf rfl hb1 rfl) (nil (t_then ?_))))))))))))))))
  refine cnd rfl (fun hb2 => ?_) (fun hb2 => ?_)
  · have hm := ctrue hb2 hm
    refine sq2 (rg (pv (r_zb rfl) (nil (t_then ?_))))
    have hm := oI hm; subst hm
    exact rtn (r_then (ret1 rfl rfl ⟨_, rfl, _, (iT im1 im2), ⟨rfl, hS2.sel [2] rfl, trivial⟩⟩))
  have hm := cfalse hb2 hm
  refine skp (t_then ?_)
  refine sq2 ?_
  obtain ⟨u1, hx1, hm⟩ := bindS hm
  obtain ⟨b3, of1, cs1, k1, cp1, hv1, hp1, hl1, he1, hr1, hc1, hT1⟩ := (h3.mono (iT im1 im2)).ixT hx1 rfl
  obtain ⟨a7, c7, a8, c8, rfl, h7, h8⟩ := rProc_open hr1
  refine rg (pv (r_fa rfl underlying135 rfl sizeOf26 rfl) (pv (r_fa rfl underlying26 rfl sizeOf24 rfl) (pv (r_ld rfl isAgg24 (hS2.cell0 (i := 1) ⟨rfl, rfl⟩ (j := 2) rfl)) (pv (r_fa rfl underlying49 rfl sizeOf3 rfl) (pv (r_ld rfl isAgg3 (hS2.cell0 (i := 0) ⟨rfl, rfl⟩ (j := 5) rfl)) (pv (r_ixe hv1 rfl underlying24 sizeOf31 hp1 hl1 he1) (pv (r_ldS rfl isAgg31 sizeOf31 rfl hc1 (cs := (cProc u1 a7 c7 a8 c8))) (wl rfl (alS (zs := [.string ⟨([] : List UInt8).toArray⟩, .bool false, iv 0, iv 0, .slice none 0 0, .slice none 0 0]) zeroValue31 rfl hS2 fun w3 b4 im3 hS3 => ?_)))))))))
  refine wl rfl (st0B (q := 0) hS3 ⟨rfl, rfl⟩ rfl rfl rfl sizeOf31 rfl rfl rfl fun w4 im4 hS4 => ?_)
  refine nil (t_then ?_)
  refine sq2 (sq2 (rg (pv (r_fa rfl underlying49 rfl sizeOf41 rfl) (pv (r_ld rfl isAgg41 (hS4.cell0 (i := 1) ⟨rfl, rfl⟩ (j := 9) rfl)) (pv (r_ln rfl underlying41) (pv (r_fa rfl underlying31 rfl sizeOf3 rfl) (pv (r_ld rfl isAgg3 (hS4.cell0 (i := 0) ⟨rfl, rfl⟩ (j := 2) rfl)) (pv (r_ib rfl rfl rfl) (pv (r_mb rfl) (?_))))))))))
  rcases Bool.eq_false_or_eq_true ((List.length p1.Args : Int) != u1.Params) with hb3 | hb3
  · have hm := ctrue hb3 hm
    refine gF (d0 := 33) rfl rfl (by rw [hb3]; rfl) (gF (d0 := 33) rfl rfl (by rw [hb3]; rfl) (gF (d0 := 33) rfl rfl (by rw [hb3]; rfl) (gF (d0 := 33) rfl rfl (by rw [hb3]; rfl) (gF (d0 := 33) rfl rfl (by rw [hb3]; rfl) (gF (d0 := 33) rfl rfl (by rw [hb3]; rfl) (gF (d0 := 33) rfl rfl (by rw [hb3]; rfl) (gF (d0 := 33) rfl rfl (by rw [hb3]; rfl) (pv (r_pkt rfl hb3 rfl) (nil (t_then ?_))))))))))
    refine cnd (b := true) rfl (fun _ => ?_) (fun h => nomatch h)
    refine sq2 (rg (pv (r_zb rfl) (nil (t_then ?_))))
    have hm := oI hm; subst hm
    exact rtn (r_then (ret1 rfl rfl ⟨_, rfl, _, (iT im1 (iT im2 (iT im3 im4))), ⟨rfl, hS4.sel [3] rfl, trivial⟩⟩))
  have hm := cfalse hb3 hm
  obtain ⟨y1, hx2, hm⟩ := bindS hm
  refine gT (d0 := 33) rfl rfl hb3 (pv (r_ldS rfl isAgg135 sizeOf135 rfl (hS4.cells0 (i := 2) ⟨rfl, rfl⟩ (o := 0) rfl) (cs := [sv a1 p0.m.Globals c1, sv a2 p0.m.Data c2, sv a3 p0.m.Procs c3, iv p0.m.Main, .string ⟨p0.p.Name.toArray⟩, .bool p0.p.Void, iv p0.p.Params, iv p0.p.Regs, sv a4 p0.p.Objects c4, sv a5 p0.p.Blocks c5])) (gT (d0 := 33) rfl rfl hb3 (pv (r_fa rfl underlying49 rfl sizeOf3 rfl) (gT (d0 := 33) rfl rfl hb3 (pv (r_ld rfl isAgg3 (hS4.cell0 (i := 1) ⟨rfl, rfl⟩ (j := 1) rfl)) (gT (d0 := 33) rfl rfl hb3 (pv (r_fa rfl underlying31 rfl sizeOf4 rfl) (gT (d0 := 33) rfl rfl hb3 (pv (r_ld rfl isAgg4 (hS4.cell0 (i := 0) ⟨rfl, rfl⟩ (j := 1) rfl)) (gT (d0 := 33) rfl rfl hb3 (pv (r_nt rfl) (gT (d0 := 33) rfl rfl hb3 (wl rfl (calS cf102 rfl (ir_looker_reg_sim (p0 := p0) (p1 := p1.D) (p2 := !u1.Void) (hS4.bun [1, 2, 3] [] rfl) (h1.mono (iT im1 (iT im2 (iT im3 im4)))) (h2.mono (iT im1 (iT im2 (iT im3 im4)))) (h3.mono (iT im1 (iT im2 (iT im3 im4)))) (h4.mono (iT im1 (iT im2 (iT im3 im4)))) (h5.mono (iT im1 (iT im2 (iT im3 im4)))) hx2) rfl fun v1 T1 w5 im5 rv1 => ?_))))))))))))))
  obtain ⟨rfl, hS5, _⟩ := rv1
  have hS5 := hS5.unb
  refine gT (d0 := 33) rfl rfl hb3 (pv (r_nt rfl) (pv (r_pkf rfl hb3 rfl) (nil (t_then ?_))))
  refine cnd rfl (fun hb4 => ?_) (fun hb4 => ?_)
  · have hm := ctrue hb4 hm
    refine sq2 (rg (pv (r_zb rfl) (nil (t_then ?_))))
    have hm := oI hm; subst hm
    exact rtn (r_then (ret1 rfl rfl ⟨_, rfl, _, (iT im1 (iT im2 (iT im3 (iT im4 im5)))), ⟨rfl, hS5.sel [2] rfl, trivial⟩⟩))
  have hm := cfalse hb4 hm
  refine skp (t_then ?_)
  refine sq2 (sq2 (rg (pv (r_fa rfl underlying49 rfl sizeOf41 rfl) (pv (r_ld rfl isAgg41 (hS5.cell0 (i := 0) ⟨rfl, rfl⟩ (j := 9) rfl)) (pv (r_ln rfl underlying41) (pv (r_mi rfl) (nil (t_then ?_))))))))
  obtain ⟨o1, ho1, hq1⟩ := bindS hm
  obtain ⟨bd1, hbd1, ho1⟩ := loop_open ho1
  refine blk (wp_loop_ghost (fun m a w6 => ∃ (J : JV) (T2 : TP) (x1 : Int), a = env (nf 55) J [(2, pt b1 0), (44, sv a6 p1.Args c6), (45, iv (List.length p1.Args : Int)), (46, iv x1)] ∧ Im T1 w5 T2 w6 ∧ Sep g T2 w6 [boxA b1 [sv a1 p0.m.Globals c1, sv a2 p0.m.Data c2, sv a3 p0.m.Procs c3, iv p0.m.Main, .string ⟨p0.p.Name.toArray⟩, .bool p0.p.Void, iv p0.p.Params, iv p0.p.Regs, sv a4 p0.p.Objects c4, sv a5 p0.p.Blocks c5], R] ∧ loopM bd1 m x1 = some o1) NN ⟨_, _, 0, env_has ⟨rfl, rfl, rfl, rfl, trivial⟩, Im.refl, hS5.sel [1, 2] rfl, ho1⟩ ?_)
  rintro m _ w6 ⟨J, T2, x1, rfl, im6, hS6, ho1⟩
  obtain ⟨m1, z1, rfl, hm, hn1⟩ := loop_round ho1
  rw [hbd1] at hm
  refine sq2 (rg (pv (r_ib rfl rfl rfl) (nil (t_then ?_))))
  refine sq2 (cnd rfl (fun hb5 => ?_) (fun hb5 => ?_))
  · have hm := ctrue hb5 hm
    refine skp (t_then ?_)
    refine sq2 (blk (sq2 ?_))
    obtain ⟨u2, hx3, hm⟩ := bindS hm
    obtain ⟨b5, of2, cs2, k2, cp2, hv2, hp2, hl2, he2, hr2, hc2, hT2⟩ := (h6.mono (iT im1 (iT im2 (iT im3 (iT im4 (iT im5 im6)))))).ixT hx3 rfl
    cases hr2
    refine rg (pv (r_ixe hv2 rfl underlying41 sizeOf3 hp2 hl2 he2) (pv (r_ld rfl isAgg3 (hc2.get (j := 0) rfl)) (pv (r_zi rfl) (nil (t_then ?_)))))
    refine sq2 ?_
    obtain ⟨y2, hx4, hm⟩ := bindS hm
    refine rg (pv (r_ldS rfl isAgg135 sizeOf135 rfl (hS6.cells0 (i := 0) ⟨rfl, rfl⟩ (o := 0) rfl) (cs := [sv a1 p0.m.Globals c1, sv a2 p0.m.Data c2, sv a3 p0.m.Procs c3, iv p0.m.Main, .string ⟨p0.p.Name.toArray⟩, .bool p0.p.Void, iv p0.p.Params, iv p0.p.Regs, sv a4 p0.p.Objects c4, sv a5 p0.p.Blocks c5])) (pv (r_mi rfl) (wl rfl (calS cf102 rfl (ir_looker_reg_sim (p0 := p0) (p1 := u2) (p2 := true) (hS6.bun [0, 1] [] rfl) (h1.mono (iT im1 (iT im2 (iT im3 (iT im4 (iT im5 im6)))))) (h2.mono (iT im1 (iT im2 (iT im3 (iT im4 (iT im5 im6)))))) (h3.mono (iT im1 (iT im2 (iT im3 (iT im4 (iT im5 im6)))))) (h4.mono (iT im1 (iT im2 (iT im3 (iT im4 (iT im5 im6)))))) (h5.mono (iT im1 (iT im2 (iT im3 (iT im4 (iT im5 im6)))))) hx4) rfl fun v2 T3 w7 im7 rv2 => ?_))))
    obtain ⟨rfl, hS7, _⟩ := rv2
    have hS7 := hS7.unb
    refine pv (r_nt rfl) (nil (t_then ?_))
    refine cnd rfl (fun hb6 => ?_) (fun hb6 => ?_)
    · have hm := ctrue hb6 hm
      refine sq2 (rg (pv (r_zb rfl) (nil (t_then ?_))))
      have hm := oI hm; subst hm
      have hn1 : _ = Lp.ret _ := hn1
      subst hn1
      have hm := thn_ret hq1
      have hm := oI hm; subst hm
      exact rtn (r_blk (r_then (r_then (r_blk (r_then (ret1 rfl rfl ⟨_, rfl, _, (iT im1 (iT im2 (iT im3 (iT im4 (iT im5 (iT im6 im7)))))), ⟨rfl, hS7.sel [1] rfl, trivial⟩⟩))))))
    have hm := cfalse hb6 hm
    refine skp (t_blk (t_then ?_))
    have hm := oI hm; subst hm
    exact rg (pv (r_ib rfl rfl rfl) (pv (r_mi rfl) (nil (t_then ⟨m1, Nat.lt_succ_self _, _, _, (IntKind.wrap .i64 (x1 + 1)), env_has ⟨rfl, rfl, rfl, rfl, trivial⟩, (iT im6 im7), hS7.sel [0, 1] rfl, hn1⟩))))
  have hm := cfalse hb5 hm
  have hm := oI hm; subst hm
  have hn1 : _ = Lp.brk _ := hn1
  subst hn1
  have hm := thn_brk hq1
  refine xt (x_then (x_then (x_eq (t_then ?_))))
  refine sq2 (rg (pv (r_zb rfl) (nil (t_then ?_))))
  have hm := oI hm; subst hm
  exact rtn (ret1 rfl rfl ⟨_, rfl, _, (iT im1 (iT im2 (iT im3 (iT im4 (iT im5 im6))))), ⟨rfl, hS6.sel [1] rfl, trivial⟩⟩)

theorem ir_off_sim {p0 : Int} {r : Bool} (hS : Sep g T0 w0 [R])  (hm : ir_off p0 = some r) :
    Calls Tryz.prog 103 #[iv p0] w0 (RetS T0 w0 fun T w v => v = .bool r ∧ Sep g T w [R] ∧ True) := by
  refine enter (args := [iv p0]) Tryz.func103 rfl Tryz.ntmps103 rfl fun J => ?_
  unfold ir_off at hm
  refine sq2 (rg (pv (r_zb rfl) (nil (t_then ?_))))
  refine sq2 (rg (pv (r_mi rfl) (pv (r_ib rfl rfl rfl) (pv (r_mb rfl) (?_)))))
  rcases Bool.eq_false_or_eq_true (decide ((-32768) ≤ p0)) with hb1 | hb1
  · have hm := ctrue hb1 hm
    refine gT (d0 := 5) rfl rfl hb1 (pv (r_mi rfl) (gT (d0 := 5) rfl rfl hb1 (pv (r_ib rfl rfl rfl) (pv (r_pkt rfl hb1 rfl) (pv (r_zb rfl) (nil (t_then ?_)))))))
    have hm := oI hm; subst hm
    exact rtn (ret1 rfl rfl ⟨_, rfl, _, Im.refl, ⟨rfl, hS.sel [0] rfl, trivial⟩⟩)
  have hm := cfalse hb1 hm
  refine gF (d0 := 5) rfl rfl (by rw [hb1]; rfl) (gF (d0 := 5) rfl rfl (by rw [hb1]; rfl) (pv (r_pkf rfl hb1 rfl) (pv (r_zb rfl) (nil (t_then ?_)))))
  have hm := oI hm; subst hm
  exact rtn (ret1 rfl rfl ⟨_, rfl, _, Im.refl, ⟨rfl, hS.sel [0] rfl, trivial⟩⟩)

theorem ir_looker_ins_sim {p0 : IrLooker} {a1 : OA} {c1 : Nat} {a2 : OA} {c2 : Nat} {a3 : OA} {c3 : Nat} {a4 : OA} {c4 : Nat} {a5 : OA} {c5 : Nat} {p1 : Ins} {a6 : OA} {c6 : Nat} {r : Bool} (hS : Sep g T0 w0 [R]) (h1 : SlR rGSlot T0 w0 (sv a1 p0.m.Globals c1) p0.m.Globals) (h2 : SlR (rSl (rInt .u8)) T0 w0 (sv a2 p0.m.Data c2) p0.m.Data) (h3 : SlR rProc T0 w0 (sv a3 p0.m.Procs c3) p0.m.Procs) (h4 : SlR rGSlot T0 w0 (sv a4 p0.p.Objects c4) p0.p.Objects) (h5 : SlR rGBlock T0 w0 (sv a5 p0.p.Blocks c5) p0.p.Blocks) (h6 : SlR (rInt .i64) T0 w0 (sv a6 p1.Args c6) p1.Args) (hm : ir_looker_ins p0 p1 = some r) :
    Calls Tryz.prog 93 #[.agg #[sv a1 p0.m.Globals c1, sv a2 p0.m.Data c2, sv a3 p0.m.Procs c3, iv p0.m.Main, .string ⟨p0.p.Name.toArray⟩, .bool p0.p.Void, iv p0.p.Params, iv p0.p.Regs, sv a4 p0.p.Objects c4, sv a5 p0.p.Blocks c5], .agg (cIns p1 a6 c6).toArray] w0 (RetS T0 w0 fun T w v => v = .bool r ∧ Sep g T w [R] ∧ True) := by
  refine enter (args := [.agg #[sv a1 p0.m.Globals c1, sv a2 p0.m.Data c2, sv a3 p0.m.Procs c3, iv p0.m.Main, .string ⟨p0.p.Name.toArray⟩, .bool p0.p.Void, iv p0.p.Params, iv p0.p.Regs, sv a4 p0.p.Objects c4, sv a5 p0.p.Blocks c5], .agg (cIns p1 a6 c6).toArray]) Tryz.func93 rfl Tryz.ntmps93 rfl fun J => ?_
  unfold ir_looker_ins at hm
  refine sq2 (rg (wl rfl (bxS (cs := [sv a1 p0.m.Globals c1, sv a2 p0.m.Data c2, sv a3 p0.m.Procs c3, iv p0.m.Main, .string ⟨p0.p.Name.toArray⟩, .bool p0.p.Void, iv p0.p.Params, iv p0.p.Regs, sv a4 p0.p.Objects c4, sv a5 p0.p.Blocks c5]) rfl rfl hS fun w1 b1 im1 hS1 => ?_)))
  refine wl rfl (bxS (cs := (cIns p1 a6 c6)) rfl rfl hS1 fun w2 b2 im2 hS2 => ?_)
  refine pv (r_zb rfl) (nil (t_then ?_))
  refine sq2 ?_
  obtain ⟨y1, hx1, hm⟩ := bindS hm
  refine rg (pv (r_fa rfl underlying49 rfl sizeOf3 rfl) (pv (r_ld rfl isAgg3 (hS2.cell0 (i := 0) ⟨rfl, rfl⟩ (j := 0) rfl)) (wl rfl (calS cf49 rfl (ir_reads_sim (p0 := p1.Op) (hS2.bun [0, 1, 2] [] rfl)  hx1) rfl fun v1 T1 w3 im3 rv1 => ?_))))
  obtain ⟨rfl, hS3, _⟩ := rv1
  have hS3 := hS3.unb
  refine pv (r_mv rfl) (pv (r_ex (v := .bool y1.1) rfl rfl) (pv (r_ex (v := .bool y1.2) rfl rfl) (pv (r_zb rfl) (pv (r_zb rfl) (nil (t_then ?_))))))
  obtain ⟨kk1, hkk1, hm⟩ := jn_open hm
  refine cut (fun a w4 => ∃ (J : JV) (T2 : TP) (x1 : Bool), a = env (nf 156) J [(2, pt b1 0), (3, pt b2 0), (5, .bool y1.1), (6, .bool y1.2), (7, .bool x1)] ∧ Im T1 w3 T2 w4 ∧ Sep g T2 w4 [boxA b2 (cIns p1 a6 c6), boxA b1 [sv a1 p0.m.Globals c1, sv a2 p0.m.Data c2, sv a3 p0.m.Procs c3, iv p0.m.Main, .string ⟨p0.p.Name.toArray⟩, .bool p0.p.Void, iv p0.p.Params, iv p0.p.Regs, sv a4 p0.p.Objects c4, sv a5 p0.p.Blocks c5], R] ∧ kk1 x1 = some r) ?_ ?_
  · refine rg (pv (r_fa rfl underlying49 rfl sizeOf3 rfl) (pv (r_ld rfl isAgg3 (hS3.cell0 (i := 0) ⟨rfl, rfl⟩ (j := 0) rfl)) (pv (r_ib rfl rfl rfl) (pv (r_mb rfl) (?_)))))
    rcases Bool.eq_false_or_eq_true (p1.Op != 6) with hb1 | hb1
    · have hm := ctrue hb1 hm
      refine gT (d0 := 17) rfl rfl hb1 (pv (r_fa rfl underlying49 rfl sizeOf3 rfl) (gT (d0 := 17) rfl rfl hb1 (pv (r_ld rfl isAgg3 (hS3.cell0 (i := 0) ⟨rfl, rfl⟩ (j := 0) rfl)) (gT (d0 := 17) rfl rfl hb1 (pv (r_ib rfl rfl rfl) (pv (r_pkt rfl hb1 rfl) (pv (r_mb rfl) (?_))))))))
      rcases Bool.eq_false_or_eq_true (p1.Op != 10) with hb2 | hb2
      · have hm := ctrue hb2 hm
        exact gT (d0 := 22) rfl rfl hb2 (pv (r_fa rfl underlying49 rfl sizeOf3 rfl) (gT (d0 := 22) rfl rfl hb2 (pv (r_ld rfl isAgg3 (hS3.cell0 (i := 0) ⟨rfl, rfl⟩ (j := 0) rfl)) (gT (d0 := 22) rfl rfl hb2 (pv (r_ib rfl rfl rfl) (pv (r_pkt rfl hb2 rfl) (pv (r_zb rfl) (nil (t_then ⟨_, _, (p1.Op != 12), env_has ⟨rfl, rfl, rfl, rfl, rfl, trivial⟩, Im.refl, hS3.sel [0, 1, 2] rfl, hm⟩)))))))))
      have hm := cfalse hb2 hm
      exact gF (d0 := 22) rfl rfl (by rw [hb2]; rfl) (gF (d0 := 22) rfl rfl (by rw [hb2]; rfl) (gF (d0 := 22) rfl rfl (by rw [hb2]; rfl) (pv (r_pkf rfl hb2 rfl) (pv (r_zb rfl) (nil (t_then ⟨_, _, false, env_has ⟨rfl, rfl, rfl, rfl, rfl, trivial⟩, Im.refl, hS3.sel [0, 1, 2] rfl, hm⟩))))))
    have hm := cfalse hb1 hm
    exact gF (d0 := 17) rfl rfl (by rw [hb1]; rfl) (gF (d0 := 17) rfl rfl (by rw [hb1]; rfl) (gF (d0 := 17) rfl rfl (by rw [hb1]; rfl) (pv (r_pkf rfl hb1 rfl) (pv (r_mb rfl) (gF (d0 := 22) rfl rfl rfl (gF (d0 := 22) rfl rfl rfl (gF (d0 := 22) rfl rfl rfl (pv (r_pkf rfl rfl rfl) (pv (r_zb rfl) (nil (t_then ⟨_, _, false, env_has ⟨rfl, rfl, rfl, rfl, rfl, trivial⟩, Im.refl, hS3.sel [0, 1, 2] rfl, hm⟩)))))))))))
  rintro _ w4 ⟨J, T2, x1, rfl, im4, hS4, hm⟩
  rw [hkk1] at hm
  refine sq2 (sq2 (rg (pv (r_fa rfl underlying49 rfl sizeOf3 rfl) (pv (r_ld rfl isAgg3 (hS4.cell0 (i := 0) ⟨rfl, rfl⟩ (j := 0) rfl)) (pv (r_ib rfl rfl rfl) (pv (r_mb rfl) (?_)))))))
  rcases Bool.eq_false_or_eq_true (decide (p1.Op < 1)) with hb3 | hb3
  · have hm := ctrue hb3 hm
    refine gF (d0 := 30) rfl rfl (by rw [hb3]; rfl) (gF (d0 := 30) rfl rfl (by rw [hb3]; rfl) (gF (d0 := 30) rfl rfl (by rw [hb3]; rfl) (pv (r_pkt rfl hb3 rfl) (pv (r_mb rfl) (gF (d0 := 35) rfl rfl rfl (gF (d0 := 35) rfl rfl rfl (gF (d0 := 35) rfl rfl rfl (pv (r_pkt rfl rfl rfl) (nil (t_then ?_))))))))))
    refine cnd (b := true) rfl (fun _ => ?_) (fun h => nomatch h)
    refine sq2 (rg (pv (r_zb rfl) (nil (t_then ?_))))
    have hm := oI hm; subst hm
    exact rtn (r_then (ret1 rfl rfl ⟨_, rfl, _, (iT im1 (iT im2 (iT im3 im4))), ⟨rfl, hS4.sel [2] rfl, trivial⟩⟩))
  have hm := cfalse hb3 hm
  refine gT (d0 := 30) rfl rfl hb3 (pv (r_fa rfl underlying49 rfl sizeOf3 rfl) (gT (d0 := 30) rfl rfl hb3 (pv (r_ld rfl isAgg3 (hS4.cell0 (i := 0) ⟨rfl, rfl⟩ (j := 0) rfl)) (gT (d0 := 30) rfl rfl hb3 (pv (r_ib rfl rfl rfl) (pv (r_pkf rfl hb3 rfl) (pv (r_mb rfl) (?_))))))))
  rcases Bool.eq_false_or_eq_true (decide (12 < p1.Op)) with hb4 | hb4
  · have hm := ctrue hb4 hm
    refine gF (d0 := 35) rfl rfl (by rw [hb4]; rfl) (gF (d0 := 35) rfl rfl (by rw [hb4]; rfl) (gF (d0 := 35) rfl rfl (by rw [hb4]; rfl) (pv (r_pkt rfl hb4 rfl) (nil (t_then ?_)))))
    refine cnd (b := true) rfl (fun _ => ?_) (fun h => nomatch h)
    refine sq2 (rg (pv (r_zb rfl) (nil (t_then ?_))))
    have hm := oI hm; subst hm
    exact rtn (r_then (ret1 rfl rfl ⟨_, rfl, _, (iT im1 (iT im2 (iT im3 im4))), ⟨rfl, hS4.sel [2] rfl, trivial⟩⟩))
  have hm := cfalse hb4 hm
  obtain ⟨y2, hx2, hm⟩ := bindS hm
  refine gT (d0 := 35) rfl rfl hb4 (pv (r_ldS rfl isAgg49 sizeOf49 rfl (hS4.cells0 (i := 0) ⟨rfl, rfl⟩ (o := 0) rfl) (cs := (cIns p1 a6 c6))) (gT (d0 := 35) rfl rfl hb4 (wl rfl (calS cf100 rfl (ir_bare_sim (p0 := p1) (hS4.bun [0, 1, 2] [] rfl) (h6.mono (iT im1 (iT im2 (iT im3 im4)))) hx2) rfl fun v2 T3 w5 im5 rv2 => ?_))))
  obtain ⟨rfl, hS5, _⟩ := rv2
  have hS5 := hS5.unb
  refine gT (d0 := 35) rfl rfl hb4 (pv (r_nt rfl) (pv (r_pkf rfl hb4 rfl) (nil (t_then ?_))))
  refine cnd rfl (fun hb5 => ?_) (fun hb5 => ?_)
  · have hm := ctrue hb5 hm
    refine sq2 (rg (pv (r_zb rfl) (nil (t_then ?_))))
    have hm := oI hm; subst hm
    exact rtn (r_then (ret1 rfl rfl ⟨_, rfl, _, (iT im1 (iT im2 (iT im3 (iT im4 im5)))), ⟨rfl, hS5.sel [2] rfl, trivial⟩⟩))
  have hm := cfalse hb5 hm
  refine skp (t_then ?_)
  refine sq2 (sq2 (rg (pv (r_fa rfl underlying49 rfl sizeOf3 rfl) (pv (r_ld rfl isAgg3 (hS5.cell0 (i := 0) ⟨rfl, rfl⟩ (j := 0) rfl)) (pv (r_ib rfl rfl rfl) (nil (t_then ?_)))))))
  refine cnd rfl (fun hb6 => ?_) (fun hb6 => ?_)
  · have hm := ctrue hb6 hm
    refine sq2 ?_
    obtain ⟨y3, hx3, hm⟩ := bindS hm
    refine rg (pv (r_ldS rfl isAgg135 sizeOf135 rfl (hS5.cells0 (i := 1) ⟨rfl, rfl⟩ (o := 0) rfl) (cs := [sv a1 p0.m.Globals c1, sv a2 p0.m.Data c2, sv a3 p0.m.Procs c3, iv p0.m.Main, .string ⟨p0.p.Name.toArray⟩, .bool p0.p.Void, iv p0.p.Params, iv p0.p.Regs, sv a4 p0.p.Objects c4, sv a5 p0.p.Blocks c5])) (pv (r_ldS rfl isAgg49 sizeOf49 rfl (hS5.cells0 (i := 0) ⟨rfl, rfl⟩ (o := 0) rfl) (cs := (cIns p1 a6 c6))) (wl rfl (calS cf101 rfl (ir_looker_call_sim (p0 := p0) (p1 := p1) (hS5.bun [0, 1, 2] [] rfl) (h1.mono (iT im1 (iT im2 (iT im3 (iT im4 im5))))) (h2.mono (iT im1 (iT im2 (iT im3 (iT im4 im5))))) (h3.mono (iT im1 (iT im2 (iT im3 (iT im4 im5))))) (h4.mono (iT im1 (iT im2 (iT im3 (iT im4 im5))))) (h5.mono (iT im1 (iT im2 (iT im3 (iT im4 im5))))) (h6.mono (iT im1 (iT im2 (iT im3 (iT im4 im5))))) hx3) rfl fun v3 T4 w6 im6 rv3 => ?_))))
    obtain ⟨rfl, hS6, _⟩ := rv3
    have hS6 := hS6.unb
    refine pv (r_mb rfl) (?_)
    rcases Bool.eq_false_or_eq_true y3 with hb7 | hb7
    · have hm := ctrue hb7 hm
      obtain ⟨y4, hx4, hm⟩ := bindS hm
      refine gT (d0 := 46) rfl rfl hb7 (pv (r_ldS rfl isAgg135 sizeOf135 rfl (hS6.cells0 (i := 1) ⟨rfl, rfl⟩ (o := 0) rfl) (cs := [sv a1 p0.m.Globals c1, sv a2 p0.m.Data c2, sv a3 p0.m.Procs c3, iv p0.m.Main, .string ⟨p0.p.Name.toArray⟩, .bool p0.p.Void, iv p0.p.Params, iv p0.p.Regs, sv a4 p0.p.Objects c4, sv a5 p0.p.Blocks c5])) (gT (d0 := 46) rfl rfl hb7 (pv (r_fa rfl underlying49 rfl sizeOf3 rfl) (gT (d0 := 46) rfl rfl hb7 (pv (r_ld rfl isAgg3 (hS6.cell0 (i := 0) ⟨rfl, rfl⟩ (j := 2) rfl)) (gT (d0 := 46) rfl rfl hb7 (wl rfl (calS cf102 rfl (ir_looker_reg_sim (p0 := p0) (p1 := p1.A) (p2 := false) (hS6.bun [0, 1, 2] [] rfl) (h1.mono (iT im1 (iT im2 (iT im3 (iT im4 (iT im5 im6)))))) (h2.mono (iT im1 (iT im2 (iT im3 (iT im4 (iT im5 im6)))))) (h3.mono (iT im1 (iT im2 (iT im3 (iT im4 (iT im5 im6)))))) (h4.mono (iT im1 (iT im2 (iT im3 (iT im4 (iT im5 im6)))))) (h5.mono (iT im1 (iT im2 (iT im3 (iT im4 (iT im5 im6)))))) hx4) rfl fun v4 T5 w7 im7 rv4 => ?_))))))))
      obtain ⟨rfl, hS7, _⟩ := rv4
      have hS7 := hS7.unb
      refine pv (r_pkt rfl hb7 rfl) (pv (r_mb rfl) (?_))
      rcases Bool.eq_false_or_eq_true y4 with hb8 | hb8
      · have hm := ctrue hb8 hm
        obtain ⟨y5, hx5, hm⟩ := bindS hm
        refine gT (d0 := 52) rfl rfl hb8 (pv (r_ldS rfl isAgg135 sizeOf135 rfl (hS7.cells0 (i := 1) ⟨rfl, rfl⟩ (o := 0) rfl) (cs := [sv a1 p0.m.Globals c1, sv a2 p0.m.Data c2, sv a3 p0.m.Procs c3, iv p0.m.Main, .string ⟨p0.p.Name.toArray⟩, .bool p0.p.Void, iv p0.p.Params, iv p0.p.Regs, sv a4 p0.p.Objects c4, sv a5 p0.p.Blocks c5])) (gT (d0 := 52) rfl rfl hb8 (pv (r_fa rfl underlying49 rfl sizeOf3 rfl) (gT (d0 := 52) rfl rfl hb8 (pv (r_ld rfl isAgg3 (hS7.cell0 (i := 0) ⟨rfl, rfl⟩ (j := 3) rfl)) (gT (d0 := 52) rfl rfl hb8 (wl rfl (calS cf102 rfl (ir_looker_reg_sim (p0 := p0) (p1 := p1.B) (p2 := false) (hS7.bun [2] [] rfl) (h1.mono (iT im1 (iT im2 (iT im3 (iT im4 (iT im5 (iT im6 im7))))))) (h2.mono (iT im1 (iT im2 (iT im3 (iT im4 (iT im5 (iT im6 im7))))))) (h3.mono (iT im1 (iT im2 (iT im3 (iT im4 (iT im5 (iT im6 im7))))))) (h4.mono (iT im1 (iT im2 (iT im3 (iT im4 (iT im5 (iT im6 im7))))))) (h5.mono (iT im1 (iT im2 (iT im3 (iT im4 (iT im5 (iT im6 im7))))))) hx5) rfl fun v5 T6 w8 im8 rv5 => ?_))))))))
        obtain ⟨rfl, hS8, _⟩ := rv5
        have hS8 := hS8.unb
        refine pv (r_pkt rfl hb8 rfl) (pv (r_zb rfl) (nil (t_then ?_)))
        have hm := oI hm; subst hm
        exact rtn (r_then (ret1 rfl rfl ⟨_, rfl, _, (iT im1 (iT im2 (iT im3 (iT im4 (iT im5 (iT im6 (iT im7 im8))))))), ⟨rfl, hS8.sel [0] rfl, trivial⟩⟩))
      have hm := cfalse hb8 hm
      refine gF (d0 := 52) rfl rfl (by rw [hb8]; rfl) (gF (d0 := 52) rfl rfl (by rw [hb8]; rfl) (gF (d0 := 52) rfl rfl (by rw [hb8]; rfl) (gF (d0 := 52) rfl rfl (by rw [hb8]; rfl) (pv (r_pkf rfl hb8 rfl) (pv (r_zb rfl) (nil (t_then ?_)))))))
      have hm := oI hm; subst hm
      exact rtn (r_then (ret1 rfl rfl ⟨_, rfl, _, (iT im1 (iT im2 (iT im3 (iT im4 (iT im5 (iT im6 im7)))))), ⟨rfl, hS7.sel [2] rfl, trivial⟩⟩))
    have hm := cfalse hb7 hm
    refine gF (d0 := 46) rfl rfl (by rw [hb7]; rfl) (gF (d0 := 46) rfl rfl (by rw [hb7]; rfl) (gF (d0 := 46) rfl rfl (by rw [hb7]; rfl) (gF (d0 := 46) rfl rfl (by rw [hb7]; rfl) (pv (r_pkf rfl hb7 rfl) (pv (r_mb rfl) (gF (d0 := 52) rfl rfl rfl (gF (d0 := 52) rfl rfl rfl (gF (d0 := 52) rfl rfl rfl (gF (d0 := 52) rfl rfl rfl (pv (r_pkf rfl rfl rfl) (pv (r_zb rfl) (nil (t_then ?_)))))))))))))
    have hm := oI hm; subst hm
    exact rtn (r_then (ret1 rfl rfl ⟨_, rfl, _, (iT im1 (iT im2 (iT im3 (iT im4 (iT im5 im6))))), ⟨rfl, hS6.sel [2] rfl, trivial⟩⟩))
  have hm := cfalse hb6 hm
  refine skp (t_then ?_)
  refine sq2 (sq2 ?_)
  obtain ⟨y6, hx6, hm⟩ := bindS hm
  refine rg (pv (r_ldS rfl isAgg135 sizeOf135 rfl (hS5.cells0 (i := 1) ⟨rfl, rfl⟩ (o := 0) rfl) (cs := [sv a1 p0.m.Globals c1, sv a2 p0.m.Data c2, sv a3 p0.m.Procs c3, iv p0.m.Main, .string ⟨p0.p.Name.toArray⟩, .bool p0.p.Void, iv p0.p.Params, iv p0.p.Regs, sv a4 p0.p.Objects c4, sv a5 p0.p.Blocks c5])) (pv (r_fa rfl underlying49 rfl sizeOf3 rfl) (pv (r_ld rfl isAgg3 (hS5.cell0 (i := 0) ⟨rfl, rfl⟩ (j := 1) rfl)) (pv (r_mb rfl) (wl rfl (calS cf102 rfl (ir_looker_reg_sim (p0 := p0) (p1 := p1.D) (p2 := x1) (hS5.bun [0, 1, 2] [] rfl) (h1.mono (iT im1 (iT im2 (iT im3 (iT im4 im5))))) (h2.mono (iT im1 (iT im2 (iT im3 (iT im4 im5))))) (h3.mono (iT im1 (iT im2 (iT im3 (iT im4 im5))))) (h4.mono (iT im1 (iT im2 (iT im3 (iT im4 im5))))) (h5.mono (iT im1 (iT im2 (iT im3 (iT im4 im5))))) hx6) rfl fun v6 T7 w9 im9 rv6 => ?_))))))
  obtain ⟨rfl, hS9, _⟩ := rv6
  have hS9 := hS9.unb
  refine pv (r_nt rfl) (pv (r_mb rfl) (?_))
  rcases Bool.eq_false_or_eq_true (!y6) with hb9 | hb9
  · have hm := ctrue hb9 hm
    refine gF (d0 := 64) rfl rfl (by rw [hb9]; rfl) (gF (d0 := 64) rfl rfl (by rw [hb9]; rfl) (gF (d0 := 64) rfl rfl (by rw [hb9]; rfl) (gF (d0 := 64) rfl rfl (by rw [hb9]; rfl) (gF (d0 := 64) rfl rfl (by rw [hb9]; rfl) (gF (d0 := 64) rfl rfl (by rw [hb9]; rfl) (pv (r_pkt rfl hb9 rfl) (pv (r_mb rfl) (gF (d0 := 72) rfl rfl rfl (gF (d0 := 72) rfl rfl rfl (gF (d0 := 72) rfl rfl rfl (gF (d0 := 72) rfl rfl rfl (gF (d0 := 72) rfl rfl rfl (gF (d0 := 72) rfl rfl rfl (pv (r_pkt rfl rfl rfl) (nil (t_then ?_))))))))))))))))
    refine cnd (b := true) rfl (fun _ => ?_) (fun h => nomatch h)
    refine sq2 (rg (pv (r_zb rfl) (nil (t_then ?_))))
    have hm := oI hm; subst hm
    exact rtn (r_then (ret1 rfl rfl ⟨_, rfl, _, (iT im1 (iT im2 (iT im3 (iT im4 (iT im5 im9))))), ⟨rfl, hS9.sel [2] rfl, trivial⟩⟩))
  have hm := cfalse hb9 hm
  obtain ⟨y7, hx7, hm⟩ := bindS hm
  refine gT (d0 := 64) rfl rfl hb9 (pv (r_ldS rfl isAgg135 sizeOf135 rfl (hS9.cells0 (i := 1) ⟨rfl, rfl⟩ (o := 0) rfl) (cs := [sv a1 p0.m.Globals c1, sv a2 p0.m.Data c2, sv a3 p0.m.Procs c3, iv p0.m.Main, .string ⟨p0.p.Name.toArray⟩, .bool p0.p.Void, iv p0.p.Params, iv p0.p.Regs, sv a4 p0.p.Objects c4, sv a5 p0.p.Blocks c5])) (gT (d0 := 64) rfl rfl hb9 (pv (r_fa rfl underlying49 rfl sizeOf3 rfl) (gT (d0 := 64) rfl rfl hb9 (pv (r_ld rfl isAgg3 (hS9.cell0 (i := 0) ⟨rfl, rfl⟩ (j := 2) rfl)) (gT (d0 := 64) rfl rfl hb9 (pv (r_mb rfl) (gT (d0 := 64) rfl rfl hb9 (wl rfl (calS cf102 rfl (ir_looker_reg_sim (p0 := p0) (p1 := p1.A) (p2 := y1.1) (hS9.bun [0, 1, 2] [] rfl) (h1.mono (iT im1 (iT im2 (iT im3 (iT im4 (iT im5 im9)))))) (h2.mono (iT im1 (iT im2 (iT im3 (iT im4 (iT im5 im9)))))) (h3.mono (iT im1 (iT im2 (iT im3 (iT im4 (iT im5 im9)))))) (h4.mono (iT im1 (iT im2 (iT im3 (iT im4 (iT im5 im9)))))) (h5.mono (iT im1 (iT im2 (iT im3 (iT im4 (iT im5 im9)))))) hx7) rfl fun v7 T8 w10 im10 rv7 => ?_))))))))))
  obtain ⟨rfl, hS10, _⟩ := rv7
  have hS10 := hS10.unb
  refine gT (d0 := 64) rfl rfl hb9 (pv (r_nt rfl) (pv (r_pkf rfl hb9 rfl) (pv (r_mb rfl) (?_))))
  rcases Bool.eq_false_or_eq_true (!y7) with hb10 | hb10
  · have hm := ctrue hb10 hm
    refine gF (d0 := 72) rfl rfl (by rw [hb10]; rfl) (gF (d0 := 72) rfl rfl (by rw [hb10]; rfl) (gF (d0 := 72) rfl rfl (by rw [hb10]; rfl) (gF (d0 := 72) rfl rfl (by rw [hb10]; rfl) (gF (d0 := 72) rfl rfl (by rw [hb10]; rfl) (gF (d0 := 72) rfl rfl (by rw [hb10]; rfl) (pv (r_pkt rfl hb10 rfl) (nil (t_then ?_))))))))
    refine cnd (b := true) rfl (fun _ => ?_) (fun h => nomatch h)
    refine sq2 (rg (pv (r_zb rfl) (nil (t_then ?_))))
    have hm := oI hm; subst hm
    exact rtn (r_then (ret1 rfl rfl ⟨_, rfl, _, (iT im1 (iT im2 (iT im3 (iT im4 (iT im5 (iT im9 im10)))))), ⟨rfl, hS10.sel [2] rfl, trivial⟩⟩))
  have hm := cfalse hb10 hm
  obtain ⟨y8, hx8, hm⟩ := bindS hm
  refine gT (d0 := 72) rfl rfl hb10 (pv (r_ldS rfl isAgg135 sizeOf135 rfl (hS10.cells0 (i := 1) ⟨rfl, rfl⟩ (o := 0) rfl) (cs := [sv a1 p0.m.Globals c1, sv a2 p0.m.Data c2, sv a3 p0.m.Procs c3, iv p0.m.Main, .string ⟨p0.p.Name.toArray⟩, .bool p0.p.Void, iv p0.p.Params, iv p0.p.Regs, sv a4 p0.p.Objects c4, sv a5 p0.p.Blocks c5])) (gT (d0 := 72) rfl rfl hb10 (pv (r_fa rfl underlying49 rfl sizeOf3 rfl) (gT (d0 := 72) rfl rfl hb10 (pv (r_ld rfl isAgg3 (hS10.cell0 (i := 0) ⟨rfl, rfl⟩ (j := 3) rfl)) (gT (d0 := 72) rfl rfl hb10 (pv (r_mb rfl) (gT (d0 := 72) rfl rfl hb10 (wl rfl (calS cf102 rfl (ir_looker_reg_sim (p0 := p0) (p1 := p1.B) (p2 := y1.2) (hS10.bun [0, 1, 2] [] rfl) (h1.mono (iT im1 (iT im2 (iT im3 (iT im4 (iT im5 (iT im9 im10))))))) (h2.mono (iT im1 (iT im2 (iT im3 (iT im4 (iT im5 (iT im9 im10))))))) (h3.mono (iT im1 (iT im2 (iT im3 (iT im4 (iT im5 (iT im9 im10))))))) (h4.mono (iT im1 (iT im2 (iT im3 (iT im4 (iT im5 (iT im9 im10))))))) (h5.mono (iT im1 (iT im2 (iT im3 (iT im4 (iT im5 (iT im9 im10))))))) hx8) rfl fun v8 T9 w11 im11 rv8 => ?_))))))))))
  obtain ⟨rfl, hS11, _⟩ := rv8
  have hS11 := hS11.unb
  refine gT (d0 := 72) rfl rfl hb10 (pv (r_nt rfl) (pv (r_pkf rfl hb10 rfl) (nil (t_then ?_))))
  refine cnd rfl (fun hb11 => ?_) (fun hb11 => ?_)
  · have hm := ctrue hb11 hm
    refine sq2 (rg (pv (r_zb rfl) (nil (t_then ?_))))
    have hm := oI hm; subst hm
    exact rtn (r_then (ret1 rfl rfl ⟨_, rfl, _, (iT im1 (iT im2 (iT im3 (iT im4 (iT im5 (iT im9 (iT im10 im11))))))), ⟨rfl, hS11.sel [2] rfl, trivial⟩⟩))
  have hm := cfalse hb11 hm
  refine skp (t_then ?_)
  refine sq2 (sq2 (rg (pv (r_fa rfl underlying49 rfl sizeOf3 rfl) (pv (r_ld rfl isAgg3 (hS11.cell0 (i := 0) ⟨rfl, rfl⟩ (j := 0) rfl)) (nil (t_then ?_))))))
  refine blk (sq2 (rg (pv (r_ib rfl rfl rfl) (pv (r_zb rfl) (nil (t_then ?_))))))
  refine cnd rfl (fun hb12 => ?_) (fun hb12 => ?_)
  · have hm := ctrue hb12 hm
    refine sq2 (rg (pv (r_fa rfl underlying49 rfl sizeOf3 rfl) (pv (r_ld rfl isAgg3 (hS11.cell0 (i := 0) ⟨rfl, rfl⟩ (j := 4) rfl)) (pv (r_ib rfl rfl rfl) (pv (r_mb rfl) (?_))))))
    rcases Bool.eq_false_or_eq_true (decide (1 ≤ p1.Fn)) with hb13 | hb13
    · have hm := ctrue hb13 hm
      refine gT (d0 := 87) rfl rfl hb13 (pv (r_fa rfl underlying49 rfl sizeOf3 rfl) (gT (d0 := 87) rfl rfl hb13 (pv (r_ld rfl isAgg3 (hS11.cell0 (i := 0) ⟨rfl, rfl⟩ (j := 4) rfl)) (gT (d0 := 87) rfl rfl hb13 (pv (r_ib rfl rfl rfl) (pv (r_pkt rfl hb13 rfl) (pv (r_zb rfl) (nil (t_then ?_)))))))))
      have hm := oI hm; subst hm
      exact rtn (r_blk (r_then (ret1 rfl rfl ⟨_, rfl, _, (iT im1 (iT im2 (iT im3 (iT im4 (iT im5 (iT im9 (iT im10 im11))))))), ⟨rfl, hS11.sel [2] rfl, trivial⟩⟩)))
    have hm := cfalse hb13 hm
    refine gF (d0 := 87) rfl rfl (by rw [hb13]; rfl) (gF (d0 := 87) rfl rfl (by rw [hb13]; rfl) (gF (d0 := 87) rfl rfl (by rw [hb13]; rfl) (pv (r_pkf rfl hb13 rfl) (pv (r_zb rfl) (nil (t_then ?_))))))
    have hm := oI hm; subst hm
    exact rtn (r_blk (r_then (ret1 rfl rfl ⟨_, rfl, _, (iT im1 (iT im2 (iT im3 (iT im4 (iT im5 (iT im9 (iT im10 im11))))))), ⟨rfl, hS11.sel [2] rfl, trivial⟩⟩)))
  have hm := cfalse hb12 hm
  refine sq2 (rg (pv (r_ib rfl rfl rfl) (pv (r_zb rfl) (nil (t_then ?_)))))
  refine cnd rfl (fun hb14 => ?_) (fun hb14 => ?_)
  · have hm := ctrue hb14 hm
    refine sq2 (rg (pv (r_fa rfl underlying49 rfl sizeOf3 rfl) (pv (r_ld rfl isAgg3 (hS11.cell0 (i := 0) ⟨rfl, rfl⟩ (j := 4) rfl)) (pv (r_ib rfl rfl rfl) (pv (r_mb rfl) (?_))))))
    rcases Bool.eq_false_or_eq_true (decide (17 ≤ p1.Fn)) with hb15 | hb15
    · have hm := ctrue hb15 hm
      refine gT (d0 := 97) rfl rfl hb15 (pv (r_fa rfl underlying49 rfl sizeOf3 rfl) (gT (d0 := 97) rfl rfl hb15 (pv (r_ld rfl isAgg3 (hS11.cell0 (i := 0) ⟨rfl, rfl⟩ (j := 4) rfl)) (gT (d0 := 97) rfl rfl hb15 (pv (r_ib rfl rfl rfl) (pv (r_pkt rfl hb15 rfl) (pv (r_zb rfl) (nil (t_then ?_)))))))))
      have hm := oI hm; subst hm
      exact rtn (r_blk (r_then (ret1 rfl rfl ⟨_, rfl, _, (iT im1 (iT im2 (iT im3 (iT im4 (iT im5 (iT im9 (iT im10 im11))))))), ⟨rfl, hS11.sel [2] rfl, trivial⟩⟩)))
    have hm := cfalse hb15 hm
    refine gF (d0 := 97) rfl rfl (by rw [hb15]; rfl) (gF (d0 := 97) rfl rfl (by rw [hb15]; rfl) (gF (d0 := 97) rfl rfl (by rw [hb15]; rfl) (pv (r_pkf rfl hb15 rfl) (pv (r_zb rfl) (nil (t_then ?_))))))
    have hm := oI hm; subst hm
    exact rtn (r_blk (r_then (ret1 rfl rfl ⟨_, rfl, _, (iT im1 (iT im2 (iT im3 (iT im4 (iT im5 (iT im9 (iT im10 im11))))))), ⟨rfl, hS11.sel [2] rfl, trivial⟩⟩)))
  have hm := cfalse hb14 hm
  obtain ⟨kk2, hkk2, hm⟩ := jn_open hm
  refine cut (fun a w12 => ∃ (J : JV) (T10 : TP) (x2 : Bool), a = env (nf 156) J [(2, pt b1 0), (3, pt b2 0), (81, iv p1.Op), (102, .bool x2)] ∧ Im T9 w11 T10 w12 ∧ Sep g T10 w12 [boxA b2 (cIns p1 a6 c6), boxA b1 [sv a1 p0.m.Globals c1, sv a2 p0.m.Data c2, sv a3 p0.m.Procs c3, iv p0.m.Main, .string ⟨p0.p.Name.toArray⟩, .bool p0.p.Void, iv p0.p.Params, iv p0.p.Regs, sv a4 p0.p.Objects c4, sv a5 p0.p.Blocks c5], R] ∧ kk2 x2 = some r) ?_ ?_
  · refine sq2 (rg (pv (r_ib rfl rfl rfl) (pv (r_zb rfl) (nil (t_then ?_)))))
    refine cnd rfl (fun hb16 => ?_) (fun hb16 => ?_)
    · have hm := ctrue hb16 hm
      exact skp (t_then ⟨_, _, (p1.Op == 5), env_has ⟨rfl, rfl, rfl, rfl, trivial⟩, Im.refl, hS11.sel [0, 1, 2] rfl, hm⟩)
    have hm := cfalse hb16 hm
    exact rg (pv (r_ib rfl rfl rfl) (pv (r_zb rfl) (nil (t_then ⟨_, _, (p1.Op == 6), env_has ⟨rfl, rfl, rfl, rfl, trivial⟩, Im.refl, hS11.sel [0, 1, 2] rfl, hm⟩))))
  rintro _ w12 ⟨J, T10, x2, rfl, im12, hS12, hm⟩
  rw [hkk2] at hm
  refine cnd rfl (fun hb17 => ?_) (fun hb17 => ?_)
  · have hm := ctrue hb17 hm
    refine sq2 (rg (pv (r_fa rfl underlying49 rfl sizeOf3 rfl) (pv (r_ld rfl isAgg3 (hS12.cell0 (i := 0) ⟨rfl, rfl⟩ (j := 7) rfl)) (pv (r_ib rfl rfl rfl) (pv (r_mb rfl) (?_))))))
    rcases Bool.eq_false_or_eq_true (p1.Size == 1) with hb18 | hb18
    · have hm := ctrue hb18 hm
      obtain ⟨y10, hx10, hm⟩ := bindS hm
      refine gF (d0 := 108) rfl rfl (by rw [hb18]; rfl) (gF (d0 := 108) rfl rfl (by rw [hb18]; rfl) (gF (d0 := 108) rfl rfl (by rw [hb18]; rfl) (pv (r_pkt rfl hb18 rfl) (pv (r_mb rfl) (gT (d0 := 113) rfl rfl rfl (pv (r_fa rfl underlying49 rfl sizeOf3 rfl) (gT (d0 := 113) rfl rfl rfl (pv (r_ld rfl isAgg3 (hS12.cell0 (i := 0) ⟨rfl, rfl⟩ (j := 6) rfl)) (gT (d0 := 113) rfl rfl rfl (wl rfl (calS cf103 rfl (ir_off_sim (p0 := p1.Off) (hS12.bun [2] [] rfl)  hx10) rfl fun v10 T12 w14 im14 rv10 => ?_)))))))))))
      obtain ⟨rfl, hS14, _⟩ := rv10
      have hS14 := hS14.unb
      refine pv (r_pkt rfl rfl rfl) (pv (r_zb rfl) (nil (t_then ?_)))
      have hm := oI hm; subst hm
      exact rtn (r_blk (r_then (ret1 rfl rfl ⟨_, rfl, _, (iT im1 (iT im2 (iT im3 (iT im4 (iT im5 (iT im9 (iT im10 (iT im11 (iT im12 im14))))))))), ⟨rfl, hS14.sel [0] rfl, trivial⟩⟩)))
    have hm := cfalse hb18 hm
    refine gT (d0 := 108) rfl rfl hb18 (pv (r_fa rfl underlying49 rfl sizeOf3 rfl) (gT (d0 := 108) rfl rfl hb18 (pv (r_ld rfl isAgg3 (hS12.cell0 (i := 0) ⟨rfl, rfl⟩ (j := 7) rfl)) (gT (d0 := 108) rfl rfl hb18 (pv (r_ib rfl rfl rfl) (pv (r_pkf rfl hb18 rfl) (pv (r_mb rfl) (?_))))))))
    rcases Bool.eq_false_or_eq_true (p1.Size == 4) with hb19 | hb19
    · have hm := ctrue hb19 hm
      obtain ⟨y9, hx9, hm⟩ := bindS hm
      refine gT (d0 := 113) rfl rfl hb19 (pv (r_fa rfl underlying49 rfl sizeOf3 rfl) (gT (d0 := 113) rfl rfl hb19 (pv (r_ld rfl isAgg3 (hS12.cell0 (i := 0) ⟨rfl, rfl⟩ (j := 6) rfl)) (gT (d0 := 113) rfl rfl hb19 (wl rfl (calS cf103 rfl (ir_off_sim (p0 := p1.Off) (hS12.bun [2] [] rfl)  hx9) rfl fun v9 T11 w13 im13 rv9 => ?_))))))
      obtain ⟨rfl, hS13, _⟩ := rv9
      have hS13 := hS13.unb
      refine pv (r_pkt rfl hb19 rfl) (pv (r_zb rfl) (nil (t_then ?_)))
      have hm := oI hm; subst hm
      exact rtn (r_blk (r_then (ret1 rfl rfl ⟨_, rfl, _, (iT im1 (iT im2 (iT im3 (iT im4 (iT im5 (iT im9 (iT im10 (iT im11 (iT im12 im13))))))))), ⟨rfl, hS13.sel [0] rfl, trivial⟩⟩)))
    have hm := cfalse hb19 hm
    refine gF (d0 := 113) rfl rfl (by rw [hb19]; rfl) (gF (d0 := 113) rfl rfl (by rw [hb19]; rfl) (gF (d0 := 113) rfl rfl (by rw [hb19]; rfl) (pv (r_pkf rfl hb19 rfl) (pv (r_zb rfl) (nil (t_then ?_))))))
    have hm := oI hm; subst hm
    exact rtn (r_blk (r_then (ret1 rfl rfl ⟨_, rfl, _, (iT im1 (iT im2 (iT im3 (iT im4 (iT im5 (iT im9 (iT im10 (iT im11 im12)))))))), ⟨rfl, hS12.sel [2] rfl, trivial⟩⟩)))
  have hm := cfalse hb17 hm
  refine sq2 (rg (pv (r_ib rfl rfl rfl) (pv (r_zb rfl) (nil (t_then ?_)))))
  refine cnd rfl (fun hb20 => ?_) (fun hb20 => ?_)
  · have hm := ctrue hb20 hm
    refine sq2 (rg (pv (r_fa rfl underlying49 rfl sizeOf3 rfl) (pv (r_ld rfl isAgg3 (hS12.cell0 (i := 0) ⟨rfl, rfl⟩ (j := 5) rfl)) (pv (r_ib rfl rfl rfl) (pv (r_mb rfl) (?_))))))
    rcases Bool.eq_false_or_eq_true (decide (0 ≤ p1.Obj)) with hb21 | hb21
    · have hm := ctrue hb21 hm
      refine gT (d0 := 123) rfl rfl hb21 (pv (r_fa rfl underlying49 rfl sizeOf3 rfl) (gT (d0 := 123) rfl rfl hb21 (pv (r_ld rfl isAgg3 (hS12.cell0 (i := 0) ⟨rfl, rfl⟩ (j := 5) rfl)) (gT (d0 := 123) rfl rfl hb21 (pv (r_fa rfl underlying135 rfl sizeOf31 rfl) (gT (d0 := 123) rfl rfl hb21 (pv (r_fa rfl underlying31 rfl sizeOf22 rfl) (gT (d0 := 123) rfl rfl hb21 (pv (r_ld rfl isAgg22 (hS12.cell0 (i := 1) ⟨rfl, rfl⟩ (j := 8) rfl)) (gT (d0 := 123) rfl rfl hb21 (pv (r_ln rfl underlying22) (gT (d0 := 123) rfl rfl hb21 (pv (r_ib rfl rfl rfl) (pv (r_pkt rfl hb21 rfl) (pv (r_mb rfl) (?_))))))))))))))))
      rcases Bool.eq_false_or_eq_true (decide (p1.Obj < (List.length p0.p.Objects : Int))) with hb22 | hb22
      · have hm := ctrue hb22 hm
        obtain ⟨y11, hx11, hm⟩ := bindS hm
        refine gT (d0 := 132) rfl rfl hb22 (pv (r_fa rfl underlying49 rfl sizeOf3 rfl) (gT (d0 := 132) rfl rfl hb22 (pv (r_ld rfl isAgg3 (hS12.cell0 (i := 0) ⟨rfl, rfl⟩ (j := 6) rfl)) (gT (d0 := 132) rfl rfl hb22 (wl rfl (calS cf103 rfl (ir_off_sim (p0 := p1.Off) (hS12.bun [2] [] rfl)  hx11) rfl fun v11 T13 w15 im15 rv11 => ?_))))))
        obtain ⟨rfl, hS15, _⟩ := rv11
        have hS15 := hS15.unb
        refine pv (r_pkt rfl hb22 rfl) (pv (r_zb rfl) (nil (t_then ?_)))
        have hm := oI hm; subst hm
        exact rtn (r_blk (r_then (ret1 rfl rfl ⟨_, rfl, _, (iT im1 (iT im2 (iT im3 (iT im4 (iT im5 (iT im9 (iT im10 (iT im11 (iT im12 im15))))))))), ⟨rfl, hS15.sel [0] rfl, trivial⟩⟩)))
      have hm := cfalse hb22 hm
      refine gF (d0 := 132) rfl rfl (by rw [hb22]; rfl) (gF (d0 := 132) rfl rfl (by rw [hb22]; rfl) (gF (d0 := 132) rfl rfl (by rw [hb22]; rfl) (pv (r_pkf rfl hb22 rfl) (pv (r_zb rfl) (nil (t_then ?_))))))
      have hm := oI hm; subst hm
      exact rtn (r_blk (r_then (ret1 rfl rfl ⟨_, rfl, _, (iT im1 (iT im2 (iT im3 (iT im4 (iT im5 (iT im9 (iT im10 (iT im11 im12)))))))), ⟨rfl, hS12.sel [2] rfl, trivial⟩⟩)))
    have hm := cfalse hb21 hm
    refine gF (d0 := 123) rfl rfl (by rw [hb21]; rfl) (gF (d0 := 123) rfl rfl (by rw [hb21]; rfl) (gF (d0 := 123) rfl rfl (by rw [hb21]; rfl) (gF (d0 := 123) rfl rfl (by rw [hb21]; rfl) (gF (d0 := 123) rfl rfl (by rw [hb21]; rfl) (gF (d0 := 123) rfl rfl (by rw [hb21]; rfl) (gF (d0 := 123) rfl rfl (by rw [hb21]; rfl) (pv (r_pkf rfl hb21 rfl) (pv (r_mb rfl) (gF (d0 := 132) rfl rfl rfl (gF (d0 := 132) rfl rfl rfl (gF (d0 := 132) rfl rfl rfl (pv (r_pkf rfl rfl rfl) (pv (r_zb rfl) (nil (t_then ?_)))))))))))))))
    have hm := oI hm; subst hm
    exact rtn (r_blk (r_then (ret1 rfl rfl ⟨_, rfl, _, (iT im1 (iT im2 (iT im3 (iT im4 (iT im5 (iT im9 (iT im10 (iT im11 im12)))))))), ⟨rfl, hS12.sel [2] rfl, trivial⟩⟩)))
  have hm := cfalse hb20 hm
  refine sq2 (rg (pv (r_ib rfl rfl rfl) (pv (r_zb rfl) (nil (t_then ?_)))))
  refine cnd rfl (fun hb23 => ?_) (fun hb23 => ?_)
  · have hm := ctrue hb23 hm
    refine sq2 (rg (pv (r_fa rfl underlying49 rfl sizeOf3 rfl) (pv (r_ld rfl isAgg3 (hS12.cell0 (i := 0) ⟨rfl, rfl⟩ (j := 5) rfl)) (pv (r_ib rfl rfl rfl) (pv (r_mb rfl) (?_))))))
    rcases Bool.eq_false_or_eq_true (decide (0 ≤ p1.Obj)) with hb24 | hb24
    · have hm := ctrue hb24 hm
      refine gT (d0 := 142) rfl rfl hb24 (pv (r_fa rfl underlying49 rfl sizeOf3 rfl) (gT (d0 := 142) rfl rfl hb24 (pv (r_ld rfl isAgg3 (hS12.cell0 (i := 0) ⟨rfl, rfl⟩ (j := 5) rfl)) (gT (d0 := 142) rfl rfl hb24 (pv (r_fa rfl underlying135 rfl sizeOf26 rfl) (gT (d0 := 142) rfl rfl hb24 (pv (r_fa rfl underlying26 rfl sizeOf22 rfl) (gT (d0 := 142) rfl rfl hb24 (pv (r_ld rfl isAgg22 (hS12.cell0 (i := 1) ⟨rfl, rfl⟩ (j := 0) rfl)) (gT (d0 := 142) rfl rfl hb24 (pv (r_ln rfl underlying22) (gT (d0 := 142) rfl rfl hb24 (pv (r_ib rfl rfl rfl) (pv (r_pkt rfl hb24 rfl) (pv (r_mb rfl) (?_))))))))))))))))
      rcases Bool.eq_false_or_eq_true (decide (p1.Obj < (List.length p0.m.Globals : Int))) with hb25 | hb25
      · have hm := ctrue hb25 hm
        obtain ⟨y12, hx12, hm⟩ := bindS hm
        refine gT (d0 := 151) rfl rfl hb25 (pv (r_fa rfl underlying49 rfl sizeOf3 rfl) (gT (d0 := 151) rfl rfl hb25 (pv (r_ld rfl isAgg3 (hS12.cell0 (i := 0) ⟨rfl, rfl⟩ (j := 6) rfl)) (gT (d0 := 151) rfl rfl hb25 (wl rfl (calS cf103 rfl (ir_off_sim (p0 := p1.Off) (hS12.bun [2] [] rfl)  hx12) rfl fun v12 T14 w16 im16 rv12 => ?_))))))
        obtain ⟨rfl, hS16, _⟩ := rv12
        have hS16 := hS16.unb
        refine pv (r_pkt rfl hb25 rfl) (pv (r_zb rfl) (nil (t_then ?_)))
        have hm := oI hm; subst hm
        exact rtn (r_blk (r_then (ret1 rfl rfl ⟨_, rfl, _, (iT im1 (iT im2 (iT im3 (iT im4 (iT im5 (iT im9 (iT im10 (iT im11 (iT im12 im16))))))))), ⟨rfl, hS16.sel [0] rfl, trivial⟩⟩)))
      have hm := cfalse hb25 hm
      refine gF (d0 := 151) rfl rfl (by rw [hb25]; rfl) (gF (d0 := 151) rfl rfl (by rw [hb25]; rfl) (gF (d0 := 151) rfl rfl (by rw [hb25]; rfl) (pv (r_pkf rfl hb25 rfl) (pv (r_zb rfl) (nil (t_then ?_))))))
      have hm := oI hm; subst hm
      exact rtn (r_blk (r_then (ret1 rfl rfl ⟨_, rfl, _, (iT im1 (iT im2 (iT im3 (iT im4 (iT im5 (iT im9 (iT im10 (iT im11 im12)))))))), ⟨rfl, hS12.sel [2] rfl, trivial⟩⟩)))
    have hm := cfalse hb24 hm
    refine gF (d0 := 142) rfl rfl (by rw [hb24]; rfl) (gF (d0 := 142) rfl rfl (by rw [hb24]; rfl) (gF (d0 := 142) rfl rfl (by rw [hb24]; rfl) (gF (d0 := 142) rfl rfl (by rw [hb24]; rfl) (gF (d0 := 142) rfl rfl (by rw [hb24]; rfl) (gF (d0 := 142) rfl rfl (by rw [hb24]; rfl) (gF (d0 := 142) rfl rfl (by rw [hb24]; rfl) (pv (r_pkf rfl hb24 rfl) (pv (r_mb rfl) (gF (d0 := 151) rfl rfl rfl (gF (d0 := 151) rfl rfl rfl (gF (d0 := 151) rfl rfl rfl (pv (r_pkf rfl rfl rfl) (pv (r_zb rfl) (nil (t_then ?_)))))))))))))))
    have hm := oI hm; subst hm
    exact rtn (r_blk (r_then (ret1 rfl rfl ⟨_, rfl, _, (iT im1 (iT im2 (iT im3 (iT im4 (iT im5 (iT im9 (iT im10 (iT im11 im12)))))))), ⟨rfl, hS12.sel [2] rfl, trivial⟩⟩)))
  have hm := cfalse hb23 hm
  refine skp (t_blk (t_then ?_))
  refine sq2 (rg (pv (r_zb rfl) (nil (t_then ?_))))
  have hm := oI hm; subst hm
  exact rtn (ret1 rfl rfl ⟨_, rfl, _, (iT im1 (iT im2 (iT im3 (iT im4 (iT im5 (iT im9 (iT im10 (iT im11 im12)))))))), ⟨rfl, hS12.sel [2] rfl, trivial⟩⟩)

theorem ir_looker_block_sim {p0 : IrLooker} {a1 : OA} {c1 : Nat} {a2 : OA} {c2 : Nat} {a3 : OA} {c3 : Nat} {a4 : OA} {c4 : Nat} {a5 : OA} {c5 : Nat} {p1 : Int} {r : Bool} (hS : Sep g T0 w0 [R]) (h1 : SlR rGSlot T0 w0 (sv a1 p0.m.Globals c1) p0.m.Globals) (h2 : SlR (rSl (rInt .u8)) T0 w0 (sv a2 p0.m.Data c2) p0.m.Data) (h3 : SlR rProc T0 w0 (sv a3 p0.m.Procs c3) p0.m.Procs) (h4 : SlR rGSlot T0 w0 (sv a4 p0.p.Objects c4) p0.p.Objects) (h5 : SlR rGBlock T0 w0 (sv a5 p0.p.Blocks c5) p0.p.Blocks) (hm : ir_looker_block p0 p1 = some r) :
    Calls Tryz.prog 104 #[.agg #[sv a1 p0.m.Globals c1, sv a2 p0.m.Data c2, sv a3 p0.m.Procs c3, iv p0.m.Main, .string ⟨p0.p.Name.toArray⟩, .bool p0.p.Void, iv p0.p.Params, iv p0.p.Regs, sv a4 p0.p.Objects c4, sv a5 p0.p.Blocks c5], iv p1] w0 (RetS T0 w0 fun T w v => v = .bool r ∧ Sep g T w [R] ∧ True) := by
  refine enter (args := [.agg #[sv a1 p0.m.Globals c1, sv a2 p0.m.Data c2, sv a3 p0.m.Procs c3, iv p0.m.Main, .string ⟨p0.p.Name.toArray⟩, .bool p0.p.Void, iv p0.p.Params, iv p0.p.Regs, sv a4 p0.p.Objects c4, sv a5 p0.p.Blocks c5], iv p1]) Tryz.func104 rfl Tryz.ntmps104 rfl fun J => ?_
  unfold ir_looker_block at hm
  refine sq2 (rg (wl rfl (bxS (cs := [sv a1 p0.m.Globals c1, sv a2 p0.m.Data c2, sv a3 p0.m.Procs c3, iv p0.m.Main, .string ⟨p0.p.Name.toArray⟩, .bool p0.p.Void, iv p0.p.Params, iv p0.p.Regs, sv a4 p0.p.Objects c4, sv a5 p0.p.Blocks c5]) rfl rfl hS fun w1 b1 im1 hS1 => ?_)))
  refine pv (r_zb rfl) (nil (t_then ?_))
  refine sq2 (rg (pv (r_mi rfl) (pv (r_ib rfl rfl rfl) (pv (r_mb rfl) (?_)))))
  rcases Bool.eq_false_or_eq_true (decide (0 ≤ p1)) with hb1 | hb1
  · have hm := ctrue hb1 hm
    refine gT (d0 := 7) rfl rfl hb1 (pv (r_mi rfl) (gT (d0 := 7) rfl rfl hb1 (pv (r_fa rfl underlying135 rfl sizeOf31 rfl) (gT (d0 := 7) rfl rfl hb1 (pv (r_fa rfl underlying31 rfl sizeOf29 rfl) (gT (d0 := 7) rfl rfl hb1 (pv (r_ld rfl isAgg29 (hS1.cell0 (i := 0) ⟨rfl, rfl⟩ (j := 9) rfl)) (gT (d0 := 7) rfl rfl hb1 (pv (r_ln rfl underlying29) (gT (d0 := 7) rfl rfl hb1 (pv (r_ib rfl rfl rfl) (pv (r_pkt rfl hb1 rfl) (pv (r_zb rfl) (nil (t_then ?_)))))))))))))))
    have hm := oI hm; subst hm
    exact rtn (ret1 rfl rfl ⟨_, rfl, _, im1, ⟨rfl, hS1.sel [1] rfl, trivial⟩⟩)
  have hm := cfalse hb1 hm
  refine gF (d0 := 7) rfl rfl (by rw [hb1]; rfl) (gF (d0 := 7) rfl rfl (by rw [hb1]; rfl) (gF (d0 := 7) rfl rfl (by rw [hb1]; rfl) (gF (d0 := 7) rfl rfl (by rw [hb1]; rfl) (gF (d0 := 7) rfl rfl (by rw [hb1]; rfl) (gF (d0 := 7) rfl rfl (by rw [hb1]; rfl) (pv (r_pkf rfl hb1 rfl) (pv (r_zb rfl) (nil (t_then ?_)))))))))
  have hm := oI hm; subst hm
  exact rtn (ret1 rfl rfl ⟨_, rfl, _, im1, ⟨rfl, hS1.sel [1] rfl, trivial⟩⟩)

theorem ir_looker_end_sim {p0 : IrLooker} {a1 : OA} {c1 : Nat} {a2 : OA} {c2 : Nat} {a3 : OA} {c3 : Nat} {a4 : OA} {c4 : Nat} {a5 : OA} {c5 : Nat} {p1 : GBlock} {a6 : OA} {c6 : Nat} {r : Bool} (hS : Sep g T0 w0 [R]) (h1 : SlR rGSlot T0 w0 (sv a1 p0.m.Globals c1) p0.m.Globals) (h2 : SlR (rSl (rInt .u8)) T0 w0 (sv a2 p0.m.Data c2) p0.m.Data) (h3 : SlR rProc T0 w0 (sv a3 p0.m.Procs c3) p0.m.Procs) (h4 : SlR rGSlot T0 w0 (sv a4 p0.p.Objects c4) p0.p.Objects) (h5 : SlR rGBlock T0 w0 (sv a5 p0.p.Blocks c5) p0.p.Blocks) (h6 : SlR rIns T0 w0 (sv a6 p1.Ins c6) p1.Ins) (hm : ir_looker_end p0 p1 = some r) :
    Calls Tryz.prog 94 #[.agg #[sv a1 p0.m.Globals c1, sv a2 p0.m.Data c2, sv a3 p0.m.Procs c3, iv p0.m.Main, .string ⟨p0.p.Name.toArray⟩, .bool p0.p.Void, iv p0.p.Params, iv p0.p.Regs, sv a4 p0.p.Objects c4, sv a5 p0.p.Blocks c5], .agg #[sv a6 p1.Ins c6, iv p1.End, iv p1.A, iv p1.To, iv p1.Else]] w0 (RetS T0 w0 fun T w v => v = .bool r ∧ Sep g T w [R] ∧ True) := by
  refine enter (args := [.agg #[sv a1 p0.m.Globals c1, sv a2 p0.m.Data c2, sv a3 p0.m.Procs c3, iv p0.m.Main, .string ⟨p0.p.Name.toArray⟩, .bool p0.p.Void, iv p0.p.Params, iv p0.p.Regs, sv a4 p0.p.Objects c4, sv a5 p0.p.Blocks c5], .agg #[sv a6 p1.Ins c6, iv p1.End, iv p1.A, iv p1.To, iv p1.Else]]) Tryz.func94 rfl Tryz.ntmps94 rfl fun J => ?_
  unfold ir_looker_end at hm
  refine sq2 (rg (wl rfl (bxS (cs := [sv a1 p0.m.Globals c1, sv a2 p0.m.Data c2, sv a3 p0.m.Procs c3, iv p0.m.Main, .string ⟨p0.p.Name.toArray⟩, .bool p0.p.Void, iv p0.p.Params, iv p0.p.Regs, sv a4 p0.p.Objects c4, sv a5 p0.p.Blocks c5]) rfl rfl hS fun w1 b1 im1 hS1 => ?_)))
  refine wl rfl (bxS (cs := [sv a6 p1.Ins c6, iv p1.End, iv p1.A, iv p1.To, iv p1.Else]) rfl rfl hS1 fun w2 b2 im2 hS2 => ?_)
  refine pv (r_zb rfl) (nil (t_then ?_))
  refine sq2 (sq2 (rg (pv (r_fa rfl underlying52 rfl sizeOf3 rfl) (pv (r_ld rfl isAgg3 (hS2.cell0 (i := 0) ⟨rfl, rfl⟩ (j := 1) rfl)) (nil (t_then ?_))))))
  refine blk (sq2 (rg (pv (r_ib rfl rfl rfl) (pv (r_zb rfl) (nil (t_then ?_))))))
  refine cnd rfl (fun hb1 => ?_) (fun hb1 => ?_)
  · have hm := ctrue hb1 hm
    refine sq2 ?_
    obtain ⟨y1, hx1, hm⟩ := bindS hm
    refine rg (pv (r_ldS rfl isAgg135 sizeOf135 rfl (hS2.cells0 (i := 1) ⟨rfl, rfl⟩ (o := 0) rfl) (cs := [sv a1 p0.m.Globals c1, sv a2 p0.m.Data c2, sv a3 p0.m.Procs c3, iv p0.m.Main, .string ⟨p0.p.Name.toArray⟩, .bool p0.p.Void, iv p0.p.Params, iv p0.p.Regs, sv a4 p0.p.Objects c4, sv a5 p0.p.Blocks c5])) (pv (r_fa rfl underlying52 rfl sizeOf3 rfl) (pv (r_ld rfl isAgg3 (hS2.cell0 (i := 0) ⟨rfl, rfl⟩ (j := 3) rfl)) (wl rfl (calS cf104 rfl (ir_looker_block_sim (p0 := p0) (p1 := p1.To) (hS2.bun [0, 2] [] rfl) (h1.mono (iT im1 im2)) (h2.mono (iT im1 im2)) (h3.mono (iT im1 im2)) (h4.mono (iT im1 im2)) (h5.mono (iT im1 im2)) hx1) rfl fun v1 T1 w3 im3 rv1 => ?_)))))
    obtain ⟨rfl, hS3, _⟩ := rv1
    have hS3 := hS3.unb
    refine pv (r_mb rfl) (?_)
    rcases Bool.eq_false_or_eq_true y1 with hb2 | hb2
    · have hm := ctrue hb2 hm
      refine gT (d0 := 13) rfl rfl hb2 (pv (r_fa rfl underlying52 rfl sizeOf3 rfl) (gT (d0 := 13) rfl rfl hb2 (pv (r_ld rfl isAgg3 (hS3.cell0 (i := 0) ⟨rfl, rfl⟩ (j := 2) rfl)) (gT (d0 := 13) rfl rfl hb2 (pv (r_ib rfl rfl rfl) (pv (r_pkt rfl hb2 rfl) (pv (r_mb rfl) (?_))))))))
      rcases Bool.eq_false_or_eq_true (p1.A == (-1)) with hb3 | hb3
      · have hm := ctrue hb3 hm
        refine gT (d0 := 18) rfl rfl hb3 (pv (r_fa rfl underlying52 rfl sizeOf3 rfl) (gT (d0 := 18) rfl rfl hb3 (pv (r_ld rfl isAgg3 (hS3.cell0 (i := 0) ⟨rfl, rfl⟩ (j := 4) rfl)) (gT (d0 := 18) rfl rfl hb3 (pv (r_ib rfl rfl rfl) (pv (r_pkt rfl hb3 rfl) (pv (r_zb rfl) (nil (t_then ?_)))))))))
        have hm := oI hm; subst hm
        exact rtn (r_blk (r_then (ret1 rfl rfl ⟨_, rfl, _, (iT im1 (iT im2 im3)), ⟨rfl, hS3.sel [1] rfl, trivial⟩⟩)))
      have hm := cfalse hb3 hm
      refine gF (d0 := 18) rfl rfl (by rw [hb3]; rfl) (gF (d0 := 18) rfl rfl (by rw [hb3]; rfl) (gF (d0 := 18) rfl rfl (by rw [hb3]; rfl) (pv (r_pkf rfl hb3 rfl) (pv (r_zb rfl) (nil (t_then ?_))))))
      have hm := oI hm; subst hm
      exact rtn (r_blk (r_then (ret1 rfl rfl ⟨_, rfl, _, (iT im1 (iT im2 im3)), ⟨rfl, hS3.sel [1] rfl, trivial⟩⟩)))
    have hm := cfalse hb2 hm
    refine gF (d0 := 13) rfl rfl (by rw [hb2]; rfl) (gF (d0 := 13) rfl rfl (by rw [hb2]; rfl) (gF (d0 := 13) rfl rfl (by rw [hb2]; rfl) (pv (r_pkf rfl hb2 rfl) (pv (r_mb rfl) (gF (d0 := 18) rfl rfl rfl (gF (d0 := 18) rfl rfl rfl (gF (d0 := 18) rfl rfl rfl (pv (r_pkf rfl rfl rfl) (pv (r_zb rfl) (nil (t_then ?_)))))))))))
    have hm := oI hm; subst hm
    exact rtn (r_blk (r_then (ret1 rfl rfl ⟨_, rfl, _, (iT im1 (iT im2 im3)), ⟨rfl, hS3.sel [1] rfl, trivial⟩⟩)))
  have hm := cfalse hb1 hm
  refine sq2 (rg (pv (r_ib rfl rfl rfl) (pv (r_zb rfl) (nil (t_then ?_)))))
  refine cnd rfl (fun hb4 => ?_) (fun hb4 => ?_)
  · have hm := ctrue hb4 hm
    refine sq2 ?_
    obtain ⟨y2, hx2, hm⟩ := bindS hm
    refine rg (pv (r_ldS rfl isAgg135 sizeOf135 rfl (hS2.cells0 (i := 1) ⟨rfl, rfl⟩ (o := 0) rfl) (cs := [sv a1 p0.m.Globals c1, sv a2 p0.m.Data c2, sv a3 p0.m.Procs c3, iv p0.m.Main, .string ⟨p0.p.Name.toArray⟩, .bool p0.p.Void, iv p0.p.Params, iv p0.p.Regs, sv a4 p0.p.Objects c4, sv a5 p0.p.Blocks c5])) (pv (r_fa rfl underlying52 rfl sizeOf3 rfl) (pv (r_ld rfl isAgg3 (hS2.cell0 (i := 0) ⟨rfl, rfl⟩ (j := 3) rfl)) (wl rfl (calS cf104 rfl (ir_looker_block_sim (p0 := p0) (p1 := p1.To) (hS2.bun [0, 1, 2] [] rfl) (h1.mono (iT im1 im2)) (h2.mono (iT im1 im2)) (h3.mono (iT im1 im2)) (h4.mono (iT im1 im2)) (h5.mono (iT im1 im2)) hx2) rfl fun v2 T2 w4 im4 rv2 => ?_)))))
    obtain ⟨rfl, hS4, _⟩ := rv2
    have hS4 := hS4.unb
    refine pv (r_mb rfl) (?_)
    rcases Bool.eq_false_or_eq_true y2 with hb5 | hb5
    · have hm := ctrue hb5 hm
      obtain ⟨y3, hx3, hm⟩ := bindS hm
      refine gT (d0 := 29) rfl rfl hb5 (pv (r_ldS rfl isAgg135 sizeOf135 rfl (hS4.cells0 (i := 1) ⟨rfl, rfl⟩ (o := 0) rfl) (cs := [sv a1 p0.m.Globals c1, sv a2 p0.m.Data c2, sv a3 p0.m.Procs c3, iv p0.m.Main, .string ⟨p0.p.Name.toArray⟩, .bool p0.p.Void, iv p0.p.Params, iv p0.p.Regs, sv a4 p0.p.Objects c4, sv a5 p0.p.Blocks c5])) (gT (d0 := 29) rfl rfl hb5 (pv (r_fa rfl underlying52 rfl sizeOf3 rfl) (gT (d0 := 29) rfl rfl hb5 (pv (r_ld rfl isAgg3 (hS4.cell0 (i := 0) ⟨rfl, rfl⟩ (j := 4) rfl)) (gT (d0 := 29) rfl rfl hb5 (wl rfl (calS cf104 rfl (ir_looker_block_sim (p0 := p0) (p1 := p1.Else) (hS4.bun [0, 1, 2] [] rfl) (h1.mono (iT im1 (iT im2 im4))) (h2.mono (iT im1 (iT im2 im4))) (h3.mono (iT im1 (iT im2 im4))) (h4.mono (iT im1 (iT im2 im4))) (h5.mono (iT im1 (iT im2 im4))) hx3) rfl fun v3 T3 w5 im5 rv3 => ?_))))))))
      obtain ⟨rfl, hS5, _⟩ := rv3
      have hS5 := hS5.unb
      refine pv (r_pkt rfl hb5 rfl) (pv (r_mb rfl) (?_))
      rcases Bool.eq_false_or_eq_true y3 with hb6 | hb6
      · have hm := ctrue hb6 hm
        obtain ⟨y4, hx4, hm⟩ := bindS hm
        refine gT (d0 := 35) rfl rfl hb6 (pv (r_ldS rfl isAgg135 sizeOf135 rfl (hS5.cells0 (i := 1) ⟨rfl, rfl⟩ (o := 0) rfl) (cs := [sv a1 p0.m.Globals c1, sv a2 p0.m.Data c2, sv a3 p0.m.Procs c3, iv p0.m.Main, .string ⟨p0.p.Name.toArray⟩, .bool p0.p.Void, iv p0.p.Params, iv p0.p.Regs, sv a4 p0.p.Objects c4, sv a5 p0.p.Blocks c5])) (gT (d0 := 35) rfl rfl hb6 (pv (r_fa rfl underlying52 rfl sizeOf3 rfl) (gT (d0 := 35) rfl rfl hb6 (pv (r_ld rfl isAgg3 (hS5.cell0 (i := 0) ⟨rfl, rfl⟩ (j := 2) rfl)) (gT (d0 := 35) rfl rfl hb6 (wl rfl (calS cf102 rfl (ir_looker_reg_sim (p0 := p0) (p1 := p1.A) (p2 := true) (hS5.bun [2] [] rfl) (h1.mono (iT im1 (iT im2 (iT im4 im5)))) (h2.mono (iT im1 (iT im2 (iT im4 im5)))) (h3.mono (iT im1 (iT im2 (iT im4 im5)))) (h4.mono (iT im1 (iT im2 (iT im4 im5)))) (h5.mono (iT im1 (iT im2 (iT im4 im5)))) hx4) rfl fun v4 T4 w6 im6 rv4 => ?_))))))))
        obtain ⟨rfl, hS6, _⟩ := rv4
        have hS6 := hS6.unb
        refine pv (r_pkt rfl hb6 rfl) (pv (r_zb rfl) (nil (t_then ?_)))
        have hm := oI hm; subst hm
        exact rtn (r_blk (r_then (ret1 rfl rfl ⟨_, rfl, _, (iT im1 (iT im2 (iT im4 (iT im5 im6)))), ⟨rfl, hS6.sel [0] rfl, trivial⟩⟩)))
      have hm := cfalse hb6 hm
      refine gF (d0 := 35) rfl rfl (by rw [hb6]; rfl) (gF (d0 := 35) rfl rfl (by rw [hb6]; rfl) (gF (d0 := 35) rfl rfl (by rw [hb6]; rfl) (gF (d0 := 35) rfl rfl (by rw [hb6]; rfl) (pv (r_pkf rfl hb6 rfl) (pv (r_zb rfl) (nil (t_then ?_)))))))
      have hm := oI hm; subst hm
      exact rtn (r_blk (r_then (ret1 rfl rfl ⟨_, rfl, _, (iT im1 (iT im2 (iT im4 im5))), ⟨rfl, hS5.sel [2] rfl, trivial⟩⟩)))
    have hm := cfalse hb5 hm
    refine gF (d0 := 29) rfl rfl (by rw [hb5]; rfl) (gF (d0 := 29) rfl rfl (by rw [hb5]; rfl) (gF (d0 := 29) rfl rfl (by rw [hb5]; rfl) (gF (d0 := 29) rfl rfl (by rw [hb5]; rfl) (pv (r_pkf rfl hb5 rfl) (pv (r_mb rfl) (gF (d0 := 35) rfl rfl rfl (gF (d0 := 35) rfl rfl rfl (gF (d0 := 35) rfl rfl rfl (gF (d0 := 35) rfl rfl rfl (pv (r_pkf rfl rfl rfl) (pv (r_zb rfl) (nil (t_then ?_)))))))))))))
    have hm := oI hm; subst hm
    exact rtn (r_blk (r_then (ret1 rfl rfl ⟨_, rfl, _, (iT im1 (iT im2 im4)), ⟨rfl, hS4.sel [2] rfl, trivial⟩⟩)))
  have hm := cfalse hb4 hm
  refine sq2 (rg (pv (r_ib rfl rfl rfl) (pv (r_zb rfl) (nil (t_then ?_)))))
  refine cnd rfl (fun hb7 => ?_) (fun hb7 => ?_)
  · have hm := ctrue hb7 hm
    refine sq2 ?_
    obtain ⟨y5, hx5, hm⟩ := bindS hm
    refine rg (pv (r_ldS rfl isAgg135 sizeOf135 rfl (hS2.cells0 (i := 1) ⟨rfl, rfl⟩ (o := 0) rfl) (cs := [sv a1 p0.m.Globals c1, sv a2 p0.m.Data c2, sv a3 p0.m.Procs c3, iv p0.m.Main, .string ⟨p0.p.Name.toArray⟩, .bool p0.p.Void, iv p0.p.Params, iv p0.p.Regs, sv a4 p0.p.Objects c4, sv a5 p0.p.Blocks c5])) (pv (r_fa rfl underlying52 rfl sizeOf3 rfl) (pv (r_ld rfl isAgg3 (hS2.cell0 (i := 0) ⟨rfl, rfl⟩ (j := 2) rfl)) (pv (r_fa rfl underlying135 rfl sizeOf31 rfl) (pv (r_fa rfl underlying31 rfl sizeOf4 rfl) (pv (r_ld rfl isAgg4 (hS2.cell0 (i := 1) ⟨rfl, rfl⟩ (j := 5) rfl)) (pv (r_nt rfl) (wl rfl (calS cf102 rfl (ir_looker_reg_sim (p0 := p0) (p1 := p1.A) (p2 := !p0.p.Void) (hS2.bun [0, 2] [] rfl) (h1.mono (iT im1 im2)) (h2.mono (iT im1 im2)) (h3.mono (iT im1 im2)) (h4.mono (iT im1 im2)) (h5.mono (iT im1 im2)) hx5) rfl fun v5 T5 w7 im7 rv5 => ?_)))))))))
    obtain ⟨rfl, hS7, _⟩ := rv5
    have hS7 := hS7.unb
    refine pv (r_mb rfl) (?_)
    rcases Bool.eq_false_or_eq_true y5 with hb8 | hb8
    · have hm := ctrue hb8 hm
      refine gT (d0 := 51) rfl rfl hb8 (pv (r_fa rfl underlying52 rfl sizeOf3 rfl) (gT (d0 := 51) rfl rfl hb8 (pv (r_ld rfl isAgg3 (hS7.cell0 (i := 0) ⟨rfl, rfl⟩ (j := 3) rfl)) (gT (d0 := 51) rfl rfl hb8 (pv (r_ib rfl rfl rfl) (pv (r_pkt rfl hb8 rfl) (pv (r_mb rfl) (?_))))))))
      rcases Bool.eq_false_or_eq_true (p1.To == 0) with hb9 | hb9
      · have hm := ctrue hb9 hm
        refine gT (d0 := 56) rfl rfl hb9 (pv (r_fa rfl underlying52 rfl sizeOf3 rfl) (gT (d0 := 56) rfl rfl hb9 (pv (r_ld rfl isAgg3 (hS7.cell0 (i := 0) ⟨rfl, rfl⟩ (j := 4) rfl)) (gT (d0 := 56) rfl rfl hb9 (pv (r_ib rfl rfl rfl) (pv (r_pkt rfl hb9 rfl) (pv (r_zb rfl) (nil (t_then ?_)))))))))
        have hm := oI hm; subst hm
        exact rtn (r_blk (r_then (ret1 rfl rfl ⟨_, rfl, _, (iT im1 (iT im2 im7)), ⟨rfl, hS7.sel [1] rfl, trivial⟩⟩)))
      have hm := cfalse hb9 hm
      refine gF (d0 := 56) rfl rfl (by rw [hb9]; rfl) (gF (d0 := 56) rfl rfl (by rw [hb9]; rfl) (gF (d0 := 56) rfl rfl (by rw [hb9]; rfl) (pv (r_pkf rfl hb9 rfl) (pv (r_zb rfl) (nil (t_then ?_))))))
      have hm := oI hm; subst hm
      exact rtn (r_blk (r_then (ret1 rfl rfl ⟨_, rfl, _, (iT im1 (iT im2 im7)), ⟨rfl, hS7.sel [1] rfl, trivial⟩⟩)))
    have hm := cfalse hb8 hm
    refine gF (d0 := 51) rfl rfl (by rw [hb8]; rfl) (gF (d0 := 51) rfl rfl (by rw [hb8]; rfl) (gF (d0 := 51) rfl rfl (by rw [hb8]; rfl) (pv (r_pkf rfl hb8 rfl) (pv (r_mb rfl) (gF (d0 := 56) rfl rfl rfl (gF (d0 := 56) rfl rfl rfl (gF (d0 := 56) rfl rfl rfl (pv (r_pkf rfl rfl rfl) (pv (r_zb rfl) (nil (t_then ?_)))))))))))
    have hm := oI hm; subst hm
    exact rtn (r_blk (r_then (ret1 rfl rfl ⟨_, rfl, _, (iT im1 (iT im2 im7)), ⟨rfl, hS7.sel [1] rfl, trivial⟩⟩)))
  have hm := cfalse hb7 hm
  refine skp (t_blk (t_then ?_))
  refine sq2 (rg (pv (r_zb rfl) (nil (t_then ?_))))
  have hm := oI hm; subst hm
  exact rtn (ret1 rfl rfl ⟨_, rfl, _, (iT im1 im2), ⟨rfl, hS2.sel [2] rfl, trivial⟩⟩)

theorem ir_looker_proc_sim {p0 : IrLooker} {a1 : OA} {c1 : Nat} {a2 : OA} {c2 : Nat} {a3 : OA} {c3 : Nat} {a4 : OA} {c4 : Nat} {a5 : OA} {c5 : Nat} {r : Bool} (hS : Sep g T0 w0 [R]) (h1 : SlR rGSlot T0 w0 (sv a1 p0.m.Globals c1) p0.m.Globals) (h2 : SlR (rSl (rInt .u8)) T0 w0 (sv a2 p0.m.Data c2) p0.m.Data) (h3 : SlR rProc T0 w0 (sv a3 p0.m.Procs c3) p0.m.Procs) (h4 : SlR rGSlot T0 w0 (sv a4 p0.p.Objects c4) p0.p.Objects) (h5 : SlR rGBlock T0 w0 (sv a5 p0.p.Blocks c5) p0.p.Blocks) (hm : ir_looker_proc p0 = some r) :
    Calls Tryz.prog 76 #[.agg #[sv a1 p0.m.Globals c1, sv a2 p0.m.Data c2, sv a3 p0.m.Procs c3, iv p0.m.Main, .string ⟨p0.p.Name.toArray⟩, .bool p0.p.Void, iv p0.p.Params, iv p0.p.Regs, sv a4 p0.p.Objects c4, sv a5 p0.p.Blocks c5]] w0 (RetS T0 w0 fun T w v => v = .bool r ∧ Sep g T w [R] ∧ True) := by
  refine enter (args := [.agg #[sv a1 p0.m.Globals c1, sv a2 p0.m.Data c2, sv a3 p0.m.Procs c3, iv p0.m.Main, .string ⟨p0.p.Name.toArray⟩, .bool p0.p.Void, iv p0.p.Params, iv p0.p.Regs, sv a4 p0.p.Objects c4, sv a5 p0.p.Blocks c5]]) Tryz.func76 rfl Tryz.ntmps76 rfl fun J => ?_
  unfold ir_looker_proc at hm
  refine sq2 (rg (wl rfl (bxS (cs := [sv a1 p0.m.Globals c1, sv a2 p0.m.Data c2, sv a3 p0.m.Procs c3, iv p0.m.Main, .string ⟨p0.p.Name.toArray⟩, .bool p0.p.Void, iv p0.p.Params, iv p0.p.Regs, sv a4 p0.p.Objects c4, sv a5 p0.p.Blocks c5]) rfl rfl hS fun w1 b1 im1 hS1 => ?_)))
  refine pv (r_zb rfl) (nil (t_then ?_))
  refine sq2 (rg (pv (r_fa rfl underlying135 rfl sizeOf31 rfl) (pv (r_ldS rfl isAgg31 sizeOf31 rfl (hS1.cells0 (i := 0) ⟨rfl, rfl⟩ (o := 4) rfl) (cs := (cProc p0.p a4 c4 a5 c5))) (wl rfl (alS (zs := [.string ⟨([] : List UInt8).toArray⟩, .bool false, iv 0, iv 0, .slice none 0 0, .slice none 0 0]) zeroValue31 rfl hS1 fun w2 b2 im2 hS2 => ?_)))))
  refine wl rfl (st0B (q := 0) hS2 ⟨rfl, rfl⟩ rfl rfl rfl sizeOf31 rfl rfl rfl fun w3 im3 hS3 => ?_)
  refine nil (t_then ?_)
  refine sq2 (sq2 (rs [0, 1, 0, 0, 0, 1, 0, 0, 0, 0, 1, 0, 1, 0, 0, 0, 0, 1, 0, 0, 0, 0, 1, 0, 0, 0, 0, 0, 1, 0, 0, 0, 0, 0, 1, 0, 0, 0, 0, 0, 1, 2, 0, 0, 0, 1, 2, 0, 1, 0, 0, 0, 0] [0, 1, 2, 3, 4, 5, 6, 7, 8, 9, 10, 11, 12, 13, 14, 15, 16, 17, 18, 19, 20, 21, 22, 23, 24, 25, 26, 27, 28, 29, 30, 31, 32, 33, 34, 35, 36, 37, 38, 39, 40, 41, 42, 43, 44, 45, 47, 48, 49, 46, 50, 51, 52] mix (by kernel_rfl) hS3.lt fun w4 i1 => ?_))
  have im4 := i1.imm
  have hS4 := hS3.keep i1 (fun _ h => h)
  refine s0 rfl trivial (fun _ => r_fa rfl underlying31 rfl sizeOf3 rfl) rfl (s1 rfl trivial (r_ld rfl isAgg3 (hS4.cell0 (i := 0) ⟨rfl, rfl⟩ (j := 2) rfl)) rfl (s0 rfl trivial (fun _ => r_ib rfl rfl rfl) rfl (s0 rfl trivial (fun _ => r_mb rfl) rfl (?_))))
  rcases Bool.eq_false_or_eq_true (decide (p0.p.Params < 0)) with hb1 | hb1
  · have hm := ctrue hb1 hm
    refine sU rfl (gI rfl rfl hb1) (sU rfl (gI rfl rfl hb1) (sU rfl (gI rfl rfl hb1) (s0 rfl trivial (fun _ => r_pkt rfl hb1 rfl) rfl (s0 rfl trivial (fun _ => r_mb rfl) rfl (sU rfl (gI rfl rfl rfl) (sU rfl (gI rfl rfl rfl) (sU rfl (gI rfl rfl rfl) (sU rfl (gI rfl rfl rfl) (sU rfl (gI rfl rfl rfl) (s0 rfl trivial (fun _ => r_pkt rfl rfl rfl) rfl (s0 rfl trivial (fun _ => r_mb rfl) rfl (sU rfl (gI rfl rfl rfl) (sU rfl (gI rfl rfl rfl) (sU rfl (gI rfl rfl rfl) (s0 rfl trivial (fun _ => r_pkt rfl rfl rfl) rfl (s0 rfl trivial (fun _ => r_mb rfl) rfl (sU rfl (gI rfl rfl rfl) (sU rfl (gI rfl rfl rfl) (sU rfl (gI rfl rfl rfl) (sU rfl (gI rfl rfl rfl) (s0 rfl trivial (fun _ => r_pkt rfl rfl rfl) rfl (s0 rfl trivial (fun _ => r_mb rfl) rfl (sU rfl (gI rfl rfl rfl) (sU rfl (gI rfl rfl rfl) (sU rfl (gI rfl rfl rfl) (sU rfl (gI rfl rfl rfl) (s0 rfl trivial (fun _ => r_pkt rfl rfl rfl) rfl (s0 rfl trivial (fun _ => r_mb rfl) rfl (sU rfl (gI rfl rfl rfl) (sU rfl (gI rfl rfl rfl) (sU rfl (gI rfl rfl rfl) (sU rfl (gI rfl rfl rfl) (s0 rfl trivial (fun _ => r_pkt rfl rfl rfl) rfl (s0 rfl trivial (fun _ => r_mb rfl) rfl (sU rfl (gI rfl rfl rfl) (sU rfl (gI rfl rfl rfl) (sU rfl (gI rfl rfl rfl) (sU rfl (gI rfl rfl rfl) (s0 rfl trivial (fun _ => r_pkt rfl rfl rfl) rfl (s0 rfl trivial (fun _ => r_mb rfl) rfl (sU rfl (gI rfl rfl rfl) (sU rfl (gI rfl rfl rfl) (sU rfl (gI rfl rfl rfl) (sU rfl (gI rfl rfl rfl) (sU rfl (gI rfl rfl rfl) (sU rfl (gI rfl rfl rfl) (sU rfl (gI rfl rfl rfl) (s0 rfl trivial (fun _ => r_pkt rfl rfl rfl) rfl (se (t_then ?_))))))))))))))))))))))))))))))))))))))))))))))))))
    refine cnd (b := true) rfl (fun _ => ?_) (fun h => nomatch h)
    refine sq2 (rg (pv (r_zb rfl) (nil (t_then ?_))))
    have hm := oI hm; subst hm
    exact rtn (r_then (ret1 rfl rfl ⟨_, rfl, _, (iT im1 (iT im2 (iT im3 im4))), ⟨rfl, hS4.sel [2] rfl, trivial⟩⟩))
  have hm := cfalse hb1 hm
  refine s0 rfl ⟨_, rfl, congrArg Value.bool hb1⟩ (fun _ => r_fa rfl underlying31 rfl sizeOf3 rfl) rfl (s1 rfl ⟨_, rfl, congrArg Value.bool hb1⟩ (r_ld rfl isAgg3 (hS4.cell0 (i := 0) ⟨rfl, rfl⟩ (j := 2) rfl)) rfl (s0 rfl ⟨_, rfl, congrArg Value.bool hb1⟩ (fun _ => r_ib rfl rfl rfl) rfl (s0 rfl trivial (fun _ => r_pkf rfl hb1 rfl) rfl (s0 rfl trivial (fun _ => r_mb rfl) rfl (?_)))))
  rcases Bool.eq_false_or_eq_true (decide (6 < p0.p.Params)) with hb2 | hb2
  · have hm := ctrue hb2 hm
    refine sU rfl (gI rfl rfl hb2) (sU rfl (gI rfl rfl hb2) (sU rfl (gI rfl rfl hb2) (sU rfl (gI rfl rfl hb2) (sU rfl (gI rfl rfl hb2) (s0 rfl trivial (fun _ => r_pkt rfl hb2 rfl) rfl (s0 rfl trivial (fun _ => r_mb rfl) rfl (sU rfl (gI rfl rfl rfl) (sU rfl (gI rfl rfl rfl) (sU rfl (gI rfl rfl rfl) (s0 rfl trivial (fun _ => r_pkt rfl rfl rfl) rfl (s0 rfl trivial (fun _ => r_mb rfl) rfl (sU rfl (gI rfl rfl rfl) (sU rfl (gI rfl rfl rfl) (sU rfl (gI rfl rfl rfl) (sU rfl (gI rfl rfl rfl) (s0 rfl trivial (fun _ => r_pkt rfl rfl rfl) rfl (s0 rfl trivial (fun _ => r_mb rfl) rfl (sU rfl (gI rfl rfl rfl) (sU rfl (gI rfl rfl rfl) (sU rfl (gI rfl rfl rfl) (sU rfl (gI rfl rfl rfl) (s0 rfl trivial (fun _ => r_pkt rfl rfl rfl) rfl (s0 rfl trivial (fun _ => r_mb rfl) rfl (sU rfl (gI rfl rfl rfl) (sU rfl (gI rfl rfl rfl) (sU rfl (gI rfl rfl rfl) (sU rfl (gI rfl rfl rfl) (s0 rfl trivial (fun _ => r_pkt rfl rfl rfl) rfl (s0 rfl trivial (fun _ => r_mb rfl) rfl (sU rfl (gI rfl rfl rfl) (sU rfl (gI rfl rfl rfl) (sU rfl (gI rfl rfl rfl) (sU rfl (gI rfl rfl rfl) (s0 rfl trivial (fun _ => r_pkt rfl rfl rfl) rfl (s0 rfl trivial (fun _ => r_mb rfl) rfl (sU rfl (gI rfl rfl rfl) (sU rfl (gI rfl rfl rfl) (sU rfl (gI rfl rfl rfl) (sU rfl (gI rfl rfl rfl) (sU rfl (gI rfl rfl rfl) (sU rfl (gI rfl rfl rfl) (sU rfl (gI rfl rfl rfl) (s0 rfl trivial (fun _ => r_pkt rfl rfl rfl) rfl (se (t_then ?_)))))))))))))))))))))))))))))))))))))))))))))
    refine cnd (b := true) rfl (fun _ => ?_) (fun h => nomatch h)
    refine sq2 (rg (pv (r_zb rfl) (nil (t_then ?_))))
    have hm := oI hm; subst hm
    exact rtn (r_then (ret1 rfl rfl ⟨_, rfl, _, (iT im1 (iT im2 (iT im3 im4))), ⟨rfl, hS4.sel [2] rfl, trivial⟩⟩))
  have hm := cfalse hb2 hm
  refine s0 rfl ⟨_, rfl, congrArg Value.bool hb2⟩ (fun _ => r_fa rfl underlying31 rfl sizeOf3 rfl) rfl (s1 rfl ⟨_, rfl, congrArg Value.bool hb2⟩ (r_ld rfl isAgg3 (hS4.cell0 (i := 0) ⟨rfl, rfl⟩ (j := 3) rfl)) rfl (s0 rfl ⟨_, rfl, congrArg Value.bool hb2⟩ (fun _ => r_fa rfl underlying31 rfl sizeOf3 rfl) rfl (s1 rfl ⟨_, rfl, congrArg Value.bool hb2⟩ (r_ld rfl isAgg3 (hS4.cell0 (i := 0) ⟨rfl, rfl⟩ (j := 2) rfl)) rfl (s0 rfl ⟨_, rfl, congrArg Value.bool hb2⟩ (fun _ => r_ib rfl rfl rfl) rfl (s0 rfl trivial (fun _ => r_pkf rfl hb2 rfl) rfl (s0 rfl trivial (fun _ => r_mb rfl) rfl (?_)))))))
  rcases Bool.eq_false_or_eq_true (decide (p0.p.Regs < p0.p.Params)) with hb3 | hb3
  · have hm := ctrue hb3 hm
    refine sU rfl (gI rfl rfl hb3) (sU rfl (gI rfl rfl hb3) (sU rfl (gI rfl rfl hb3) (s0 rfl trivial (fun _ => r_pkt rfl hb3 rfl) rfl (s0 rfl trivial (fun _ => r_mb rfl) rfl (sU rfl (gI rfl rfl rfl) (sU rfl (gI rfl rfl rfl) (sU rfl (gI rfl rfl rfl) (sU rfl (gI rfl rfl rfl) (s0 rfl trivial (fun _ => r_pkt rfl rfl rfl) rfl (s0 rfl trivial (fun _ => r_mb rfl) rfl (sU rfl (gI rfl rfl rfl) (sU rfl (gI rfl rfl rfl) (sU rfl (gI rfl rfl rfl) (sU rfl (gI rfl rfl rfl) (s0 rfl trivial (fun _ => r_pkt rfl rfl rfl) rfl (s0 rfl trivial (fun _ => r_mb rfl) rfl (sU rfl (gI rfl rfl rfl) (sU rfl (gI rfl rfl rfl) (sU rfl (gI rfl rfl rfl) (sU rfl (gI rfl rfl rfl) (s0 rfl trivial (fun _ => r_pkt rfl rfl rfl) rfl (s0 rfl trivial (fun _ => r_mb rfl) rfl (sU rfl (gI rfl rfl rfl) (sU rfl (gI rfl rfl rfl) (sU rfl (gI rfl rfl rfl) (sU rfl (gI rfl rfl rfl) (s0 rfl trivial (fun _ => r_pkt rfl rfl rfl) rfl (s0 rfl trivial (fun _ => r_mb rfl) rfl (sU rfl (gI rfl rfl rfl) (sU rfl (gI rfl rfl rfl) (sU rfl (gI rfl rfl rfl) (sU rfl (gI rfl rfl rfl) (sU rfl (gI rfl rfl rfl) (sU rfl (gI rfl rfl rfl) (sU rfl (gI rfl rfl rfl) (s0 rfl trivial (fun _ => r_pkt rfl rfl rfl) rfl (se (t_then ?_))))))))))))))))))))))))))))))))))))))
    refine cnd (b := true) rfl (fun _ => ?_) (fun h => nomatch h)
    refine sq2 (rg (pv (r_zb rfl) (nil (t_then ?_))))
    have hm := oI hm; subst hm
    exact rtn (r_then (ret1 rfl rfl ⟨_, rfl, _, (iT im1 (iT im2 (iT im3 im4))), ⟨rfl, hS4.sel [2] rfl, trivial⟩⟩))
  have hm := cfalse hb3 hm
  refine s0 rfl ⟨_, rfl, congrArg Value.bool hb3⟩ (fun _ => r_fa rfl underlying31 rfl sizeOf3 rfl) rfl (s1 rfl ⟨_, rfl, congrArg Value.bool hb3⟩ (r_ld rfl isAgg3 (hS4.cell0 (i := 0) ⟨rfl, rfl⟩ (j := 3) rfl)) rfl (s0 rfl ⟨_, rfl, congrArg Value.bool hb3⟩ (fun _ => r_ib rfl rfl rfl) rfl (s0 rfl trivial (fun _ => r_pkf rfl hb3 rfl) rfl (s0 rfl trivial (fun _ => r_mb rfl) rfl (?_)))))
  rcases Bool.eq_false_or_eq_true (decide (8000 < p0.p.Regs)) with hb4 | hb4
  · have hm := ctrue hb4 hm
    refine sU rfl (gI rfl rfl hb4) (sU rfl (gI rfl rfl hb4) (sU rfl (gI rfl rfl hb4) (sU rfl (gI rfl rfl hb4) (s0 rfl trivial (fun _ => r_pkt rfl hb4 rfl) rfl (s0 rfl trivial (fun _ => r_mb rfl) rfl (sU rfl (gI rfl rfl rfl) (sU rfl (gI rfl rfl rfl) (sU rfl (gI rfl rfl rfl) (sU rfl (gI rfl rfl rfl) (s0 rfl trivial (fun _ => r_pkt rfl rfl rfl) rfl (s0 rfl trivial (fun _ => r_mb rfl) rfl (sU rfl (gI rfl rfl rfl) (sU rfl (gI rfl rfl rfl) (sU rfl (gI rfl rfl rfl) (sU rfl (gI rfl rfl rfl) (s0 rfl trivial (fun _ => r_pkt rfl rfl rfl) rfl (s0 rfl trivial (fun _ => r_mb rfl) rfl (sU rfl (gI rfl rfl rfl) (sU rfl (gI rfl rfl rfl) (sU rfl (gI rfl rfl rfl) (sU rfl (gI rfl rfl rfl) (s0 rfl trivial (fun _ => r_pkt rfl rfl rfl) rfl (s0 rfl trivial (fun _ => r_mb rfl) rfl (sU rfl (gI rfl rfl rfl) (sU rfl (gI rfl rfl rfl) (sU rfl (gI rfl rfl rfl) (sU rfl (gI rfl rfl rfl) (sU rfl (gI rfl rfl rfl) (sU rfl (gI rfl rfl rfl) (sU rfl (gI rfl rfl rfl) (s0 rfl trivial (fun _ => r_pkt rfl rfl rfl) rfl (se (t_then ?_)))))))))))))))))))))))))))))))))
    refine cnd (b := true) rfl (fun _ => ?_) (fun h => nomatch h)
    refine sq2 (rg (pv (r_zb rfl) (nil (t_then ?_))))
    have hm := oI hm; subst hm
    exact rtn (r_then (ret1 rfl rfl ⟨_, rfl, _, (iT im1 (iT im2 (iT im3 im4))), ⟨rfl, hS4.sel [2] rfl, trivial⟩⟩))
  have hm := cfalse hb4 hm
  refine s0 rfl ⟨_, rfl, congrArg Value.bool hb4⟩ (fun _ => r_fa rfl underlying31 rfl sizeOf22 rfl) rfl (s1 rfl ⟨_, rfl, congrArg Value.bool hb4⟩ (r_ld rfl isAgg22 (hS4.cell0 (i := 0) ⟨rfl, rfl⟩ (j := 4) rfl)) rfl (s0 rfl ⟨_, rfl, congrArg Value.bool hb4⟩ (fun _ => r_ln rfl underlying22) rfl (s0 rfl ⟨_, rfl, congrArg Value.bool hb4⟩ (fun _ => r_ib rfl rfl rfl) rfl (s0 rfl trivial (fun _ => r_pkf rfl hb4 rfl) rfl (s0 rfl trivial (fun _ => r_mb rfl) rfl (?_))))))
  rcases Bool.eq_false_or_eq_true (decide (400 < (List.length p0.p.Objects : Int))) with hb5 | hb5
  · have hm := ctrue hb5 hm
    refine sU rfl (gI rfl rfl hb5) (sU rfl (gI rfl rfl hb5) (sU rfl (gI rfl rfl hb5) (sU rfl (gI rfl rfl hb5) (s0 rfl trivial (fun _ => r_pkt rfl hb5 rfl) rfl (s0 rfl trivial (fun _ => r_mb rfl) rfl (sU rfl (gI rfl rfl rfl) (sU rfl (gI rfl rfl rfl) (sU rfl (gI rfl rfl rfl) (sU rfl (gI rfl rfl rfl) (s0 rfl trivial (fun _ => r_pkt rfl rfl rfl) rfl (s0 rfl trivial (fun _ => r_mb rfl) rfl (sU rfl (gI rfl rfl rfl) (sU rfl (gI rfl rfl rfl) (sU rfl (gI rfl rfl rfl) (sU rfl (gI rfl rfl rfl) (s0 rfl trivial (fun _ => r_pkt rfl rfl rfl) rfl (s0 rfl trivial (fun _ => r_mb rfl) rfl (sU rfl (gI rfl rfl rfl) (sU rfl (gI rfl rfl rfl) (sU rfl (gI rfl rfl rfl) (sU rfl (gI rfl rfl rfl) (sU rfl (gI rfl rfl rfl) (sU rfl (gI rfl rfl rfl) (sU rfl (gI rfl rfl rfl) (s0 rfl trivial (fun _ => r_pkt rfl rfl rfl) rfl (se (t_then ?_)))))))))))))))))))))))))))
    refine cnd (b := true) rfl (fun _ => ?_) (fun h => nomatch h)
    refine sq2 (rg (pv (r_zb rfl) (nil (t_then ?_))))
    have hm := oI hm; subst hm
    exact rtn (r_then (ret1 rfl rfl ⟨_, rfl, _, (iT im1 (iT im2 (iT im3 im4))), ⟨rfl, hS4.sel [2] rfl, trivial⟩⟩))
  have hm := cfalse hb5 hm
  refine s0 rfl ⟨_, rfl, congrArg Value.bool hb5⟩ (fun _ => r_fa rfl underlying31 rfl sizeOf29 rfl) rfl (s1 rfl ⟨_, rfl, congrArg Value.bool hb5⟩ (r_ld rfl isAgg29 (hS4.cell0 (i := 0) ⟨rfl, rfl⟩ (j := 5) rfl)) rfl (s0 rfl ⟨_, rfl, congrArg Value.bool hb5⟩ (fun _ => r_ln rfl underlying29) rfl (s0 rfl ⟨_, rfl, congrArg Value.bool hb5⟩ (fun _ => r_ib rfl rfl rfl) rfl (s0 rfl trivial (fun _ => r_pkf rfl hb5 rfl) rfl (s0 rfl trivial (fun _ => r_mb rfl) rfl (?_))))))
  rcases Bool.eq_false_or_eq_true (decide ((List.length p0.p.Blocks : Int) < 1)) with hb6 | hb6
  · have hm := ctrue hb6 hm
    refine sU rfl (gI rfl rfl hb6) (sU rfl (gI rfl rfl hb6) (sU rfl (gI rfl rfl hb6) (sU rfl (gI rfl rfl hb6) (s0 rfl trivial (fun _ => r_pkt rfl hb6 rfl) rfl (s0 rfl trivial (fun _ => r_mb rfl) rfl (sU rfl (gI rfl rfl rfl) (sU rfl (gI rfl rfl rfl) (sU rfl (gI rfl rfl rfl) (sU rfl (gI rfl rfl rfl) (s0 rfl trivial (fun _ => r_pkt rfl rfl rfl) rfl (s0 rfl trivial (fun _ => r_mb rfl) rfl (sU rfl (gI rfl rfl rfl) (sU rfl (gI rfl rfl rfl) (sU rfl (gI rfl rfl rfl) (sU rfl (gI rfl rfl rfl) (sU rfl (gI rfl rfl rfl) (sU rfl (gI rfl rfl rfl) (sU rfl (gI rfl rfl rfl) (s0 rfl trivial (fun _ => r_pkt rfl rfl rfl) rfl (se (t_then ?_)))))))))))))))))))))
    refine cnd (b := true) rfl (fun _ => ?_) (fun h => nomatch h)
    refine sq2 (rg (pv (r_zb rfl) (nil (t_then ?_))))
    have hm := oI hm; subst hm
    exact rtn (r_then (ret1 rfl rfl ⟨_, rfl, _, (iT im1 (iT im2 (iT im3 im4))), ⟨rfl, hS4.sel [2] rfl, trivial⟩⟩))
  have hm := cfalse hb6 hm
  refine s0 rfl ⟨_, rfl, congrArg Value.bool hb6⟩ (fun _ => r_fa rfl underlying31 rfl sizeOf29 rfl) rfl (s1 rfl ⟨_, rfl, congrArg Value.bool hb6⟩ (r_ld rfl isAgg29 (hS4.cell0 (i := 0) ⟨rfl, rfl⟩ (j := 5) rfl)) rfl (s0 rfl ⟨_, rfl, congrArg Value.bool hb6⟩ (fun _ => r_ln rfl underlying29) rfl (s0 rfl ⟨_, rfl, congrArg Value.bool hb6⟩ (fun _ => r_ib rfl rfl rfl) rfl (s0 rfl trivial (fun _ => r_pkf rfl hb6 rfl) rfl (s0 rfl trivial (fun _ => r_mb rfl) rfl (?_))))))
  rcases Bool.eq_false_or_eq_true (decide (4000 < (List.length p0.p.Blocks : Int))) with hb7 | hb7
  · have hm := ctrue hb7 hm
    refine sU rfl (gI rfl rfl hb7) (sU rfl (gI rfl rfl hb7) (sU rfl (gI rfl rfl hb7) (sU rfl (gI rfl rfl hb7) (s0 rfl trivial (fun _ => r_pkt rfl hb7 rfl) rfl (s0 rfl trivial (fun _ => r_mb rfl) rfl (sU rfl (gI rfl rfl rfl) (sU rfl (gI rfl rfl rfl) (sU rfl (gI rfl rfl rfl) (sU rfl (gI rfl rfl rfl) (sU rfl (gI rfl rfl rfl) (sU rfl (gI rfl rfl rfl) (sU rfl (gI rfl rfl rfl) (s0 rfl trivial (fun _ => r_pkt rfl rfl rfl) rfl (se (t_then ?_)))))))))))))))
    refine cnd (b := true) rfl (fun _ => ?_) (fun h => nomatch h)
    refine sq2 (rg (pv (r_zb rfl) (nil (t_then ?_))))
    have hm := oI hm; subst hm
    exact rtn (r_then (ret1 rfl rfl ⟨_, rfl, _, (iT im1 (iT im2 (iT im3 im4))), ⟨rfl, hS4.sel [2] rfl, trivial⟩⟩))
  have hm := cfalse hb7 hm
  obtain ⟨y1, hx1, hm⟩ := bindS hm
  refine s0 rfl ⟨_, rfl, congrArg Value.bool hb7⟩ (fun _ => r_fa rfl underlying31 rfl sizeOf22 rfl) rfl (s1 rfl ⟨_, rfl, congrArg Value.bool hb7⟩ (r_ld rfl isAgg22 (hS4.cell0 (i := 0) ⟨rfl, rfl⟩ (j := 4) rfl)) rfl (s2 [] rfl ⟨_, rfl, congrArg Value.bool hb7⟩ rfl (by kernel_rfl) (calS cf42 rfl (ir_slots_sim (p0 := p0.p.Objects) (hS4.bun [0, 1, 2] [] rfl) (h4.mono (iT im1 (iT im2 (iT im3 im4)))) hx1) rfl fun v1 T1 w5 im5 rv1 => ?_)))
  obtain ⟨rfl, hS5, _⟩ := rv1
  have hS5 := hS5.unb
  refine ⟨st0, ?_⟩
  refine s0 rfl ⟨_, rfl, congrArg Value.bool hb7⟩ (fun _ => r_nt rfl) rfl (s0 rfl trivial (fun _ => r_pkf rfl hb7 rfl) rfl (s0 rfl trivial (fun _ => r_mb rfl) rfl (?_)))
  rcases Bool.eq_false_or_eq_true (!y1) with hb8 | hb8
  · have hm := ctrue hb8 hm
    refine sU rfl (gI rfl rfl hb8) (sU rfl (gI rfl rfl hb8) (sU rfl (gI rfl rfl hb8) (sU rfl (gI rfl rfl hb8) (sU rfl (gI rfl rfl hb8) (sU rfl (gI rfl rfl hb8) (sU rfl (gI rfl rfl hb8) (s0 rfl trivial (fun _ => r_pkt rfl hb8 rfl) rfl (se (t_then ?_)))))))))
    refine cnd (b := true) rfl (fun _ => ?_) (fun h => nomatch h)
    refine sq2 (rg (pv (r_zb rfl) (nil (t_then ?_))))
    have hm := oI hm; subst hm
    exact rtn (r_then (ret1 rfl rfl ⟨_, rfl, _, (iT im1 (iT im2 (iT im3 (iT im4 im5)))), ⟨rfl, hS5.sel [2] rfl, trivial⟩⟩))
  have hm := cfalse hb8 hm
  obtain ⟨y2, hx2, hm⟩ := bindS hm
  refine s1 rfl ⟨_, rfl, congrArg Value.bool hb8⟩ (r_ldS rfl isAgg31 sizeOf31 rfl (hS5.cells0 (i := 0) ⟨rfl, rfl⟩ (o := 0) rfl) (cs := (cProc p0.p a4 c4 a5 c5))) rfl (s0 rfl ⟨_, rfl, congrArg Value.bool hb8⟩ (fun _ => r_fa rfl underlying31 rfl sizeOf29 rfl) rfl (s1 rfl ⟨_, rfl, congrArg Value.bool hb8⟩ (r_ld rfl isAgg29 (hS5.cell0 (i := 0) ⟨rfl, rfl⟩ (j := 5) rfl)) rfl (s0 rfl ⟨_, rfl, congrArg Value.bool hb8⟩ (fun _ => r_ln rfl underlying29) rfl (s2 [(48, sv a5 p0.p.Blocks c5)] rfl ⟨_, rfl, congrArg Value.bool hb8⟩ rfl (by kernel_rfl) (calS cf92 rfl (ir_Size_sim (p0 := p0.p) (hS5.bun [0, 1, 2] [] rfl) (h4.mono (iT im1 (iT im2 (iT im3 (iT im4 im5))))) (h5.mono (iT im1 (iT im2 (iT im3 (iT im4 im5))))) hx2) rfl fun v2 T2 w6 im6 rv2 => ?_)))))
  obtain ⟨rfl, hS6, _⟩ := rv2
  have hS6 := hS6.unb
  refine ⟨st1 rfl (r_ld rfl isAgg29 (hS6.cell0 (i := 0) ⟨rfl, rfl⟩ (j := 5) rfl)) (st0), ?_⟩
  refine s0 rfl ⟨_, rfl, congrArg Value.bool hb8⟩ (fun _ => r_ib rfl rfl rfl) rfl (s0 rfl ⟨_, rfl, congrArg Value.bool hb8⟩ (fun _ => r_ib rfl rfl rfl) rfl (s0 rfl trivial (fun _ => r_pkf rfl hb8 rfl) rfl (se (t_then ?_))))
  refine cnd rfl (fun hb9 => ?_) (fun hb9 => ?_)
  · have hm := ctrue hb9 hm
    refine sq2 (rg (pv (r_zb rfl) (nil (t_then ?_))))
    have hm := oI hm; subst hm
    exact rtn (r_then (ret1 rfl rfl ⟨_, rfl, _, (iT im1 (iT im2 (iT im3 (iT im4 (iT im5 im6))))), ⟨rfl, hS6.sel [2] rfl, trivial⟩⟩))
  have hm := cfalse hb9 hm
  refine skp (t_then ?_)
  refine sq2 (sq2 (rg (pv (r_fa rfl underlying31 rfl sizeOf29 rfl) (pv (r_ld rfl isAgg29 (hS6.cell0 (i := 0) ⟨rfl, rfl⟩ (j := 5) rfl)) (pv (r_ln rfl underlying29) (pv (r_mi rfl) (nil (t_then ?_))))))))
  obtain ⟨o1, ho1, hq1⟩ := bindS hm
  obtain ⟨bd1, hbd1, ho1⟩ := loop_open ho1
  refine blk (wp_loop_ghost (fun m a w7 => ∃ (J : JV) (T3 : TP) (x1 : Int), a = env (nf 87) J [(1, pt b1 0), (64, sv a5 p0.p.Blocks c5), (65, iv (List.length p0.p.Blocks : Int)), (66, iv x1)] ∧ Im T2 w6 T3 w7 ∧ Sep g T3 w7 [boxA b1 [sv a1 p0.m.Globals c1, sv a2 p0.m.Data c2, sv a3 p0.m.Procs c3, iv p0.m.Main, .string ⟨p0.p.Name.toArray⟩, .bool p0.p.Void, iv p0.p.Params, iv p0.p.Regs, sv a4 p0.p.Objects c4, sv a5 p0.p.Blocks c5], R] ∧ loopM bd1 m x1 = some o1) NN ⟨_, _, 0, env_has ⟨rfl, rfl, rfl, rfl, trivial⟩, Im.refl, hS6.sel [1, 2] rfl, ho1⟩ ?_)
  rintro m _ w7 ⟨J, T3, x1, rfl, im7, hS7, ho1⟩
  obtain ⟨m1, z1, rfl, hm, hn1⟩ := loop_round ho1
  rw [hbd1] at hm
  refine sq2 (rg (pv (r_ib rfl rfl rfl) (nil (t_then ?_))))
  refine sq2 (cnd rfl (fun hb10 => ?_) (fun hb10 => ?_))
  · have hm := ctrue hb10 hm
    refine skp (t_then ?_)
    refine sq2 (blk (sq2 ?_))
    obtain ⟨u1, hx3, hm⟩ := bindS hm
    obtain ⟨b3, of1, cs1, k1, cp1, hv1, hp1, hl1, he1, hr1, hc1, hT1⟩ := (h5.mono (iT im1 (iT im2 (iT im3 (iT im4 (iT im5 (iT im6 im7))))))).ixT hx3 rfl
    obtain ⟨a6, c6, rfl, h6⟩ := rGBlock_open hr1
    refine rg (pv (r_ixe hv1 rfl underlying29 sizeOf52 hp1 hl1 he1) (pv (r_ldS rfl isAgg52 sizeOf52 rfl hc1 (cs := [sv a6 u1.Ins c6, iv u1.End, iv u1.A, iv u1.To, iv u1.Else])) (wl rfl (alS (zs := [.slice none 0 0, iv 0, iv 0, iv 0, iv 0]) zeroValue52 rfl hS7 fun w8 b4 im8 hS8 => ?_))))
    refine wl rfl (st0B (q := 0) hS8 ⟨rfl, rfl⟩ rfl rfl rfl sizeOf52 rfl rfl rfl fun w9 im9 hS9 => ?_)
    refine nil (t_then ?_)
    refine sq2 (sq2 (rg (pv (r_fa rfl underlying52 rfl sizeOf50 rfl) (pv (r_ld rfl isAgg50 (hS9.cell0 (i := 0) ⟨rfl, rfl⟩ (j := 0) rfl)) (pv (r_ln rfl underlying50) (pv (r_mi rfl) (nil (t_then ?_))))))))
    obtain ⟨o2, ho2, hq2⟩ := bindS hm
    obtain ⟨bd2, hbd2, ho2⟩ := loop_open ho2
    refine blk (wp_loop_ghost (fun m a w10 => ∃ (J : JV) (T4 : TP) (x2 : Int), a = env (nf 87) J [(1, pt b1 0), (5, pt b4 0), (64, sv a5 p0.p.Blocks c5), (65, iv (List.length p0.p.Blocks : Int)), (66, iv x1), (71, sv a6 u1.Ins c6), (72, iv (List.length u1.Ins : Int)), (73, iv x2)] ∧ Im T3 w9 T4 w10 ∧ Sep g T4 w10 [boxA b4 [sv a6 u1.Ins c6, iv u1.End, iv u1.A, iv u1.To, iv u1.Else], boxA b1 [sv a1 p0.m.Globals c1, sv a2 p0.m.Data c2, sv a3 p0.m.Procs c3, iv p0.m.Main, .string ⟨p0.p.Name.toArray⟩, .bool p0.p.Void, iv p0.p.Params, iv p0.p.Regs, sv a4 p0.p.Objects c4, sv a5 p0.p.Blocks c5], R] ∧ loopM bd2 m x2 = some o2) NN ⟨_, _, 0, env_has ⟨rfl, rfl, rfl, rfl, rfl, rfl, rfl, rfl, trivial⟩, Im.refl, hS9.sel [0, 1, 2] rfl, ho2⟩ ?_)
    rintro m _ w10 ⟨J, T4, x2, rfl, im10, hS10, ho2⟩
    obtain ⟨m2, z2, rfl, hm, hn2⟩ := loop_round ho2
    rw [hbd2] at hm
    refine sq2 (rg (pv (r_ib rfl rfl rfl) (nil (t_then ?_))))
    refine sq2 (cnd rfl (fun hb11 => ?_) (fun hb11 => ?_))
    · have hm := ctrue hb11 hm
      refine skp (t_then ?_)
      refine sq2 (blk (sq2 ?_))
      obtain ⟨u2, hx4, hm⟩ := bindS hm
      obtain ⟨b5, of2, cs2, k2, cp2, hv2, hp2, hl2, he2, hr2, hc2, hT2⟩ := (h6.mono (iT im8 (iT im9 im10))).ixT hx4 rfl
      obtain ⟨a7, c7, rfl, h7⟩ := rIns_open hr2
      refine rg (pv (r_ixe hv2 rfl underlying50 sizeOf49 hp2 hl2 he2) (pv (r_ldS rfl isAgg49 sizeOf49 rfl hc2 (cs := (cIns u2 a7 c7))) (wl rfl (alS (zs := [iv 0, iv 0, iv 0, iv 0, iv 0, iv 0, iv 0, iv 0, .int .u32 0, .slice none 0 0, .bool false]) zeroValue49 rfl hS10 fun w11 b6 im11 hS11 => ?_))))
      refine wl rfl (st0B (q := 0) hS11 ⟨rfl, rfl⟩ rfl rfl rfl sizeOf49 rfl rfl rfl fun w12 im12 hS12 => ?_)
      refine nil (t_then ?_)
      refine sq2 ?_
      obtain ⟨y3, hx5, hm⟩ := bindS hm
      refine rg (pv (r_ldS rfl isAgg135 sizeOf135 rfl (hS12.cells0 (i := 2) ⟨rfl, rfl⟩ (o := 0) rfl) (cs := [sv a1 p0.m.Globals c1, sv a2 p0.m.Data c2, sv a3 p0.m.Procs c3, iv p0.m.Main, .string ⟨p0.p.Name.toArray⟩, .bool p0.p.Void, iv p0.p.Params, iv p0.p.Regs, sv a4 p0.p.Objects c4, sv a5 p0.p.Blocks c5])) (pv (r_ldS rfl isAgg49 sizeOf49 rfl (hS12.cells0 (i := 0) ⟨rfl, rfl⟩ (o := 0) rfl) (cs := (cIns u2 a7 c7))) (wl rfl (calS cf93 rfl (ir_looker_ins_sim (p0 := p0) (p1 := u2) (hS12.bun [1, 2, 3] [] rfl) (h1.mono (iT im1 (iT im2 (iT im3 (iT im4 (iT im5 (iT im6 (iT im7 (iT im8 (iT im9 (iT im10 (iT im11 im12)))))))))))) (h2.mono (iT im1 (iT im2 (iT im3 (iT im4 (iT im5 (iT im6 (iT im7 (iT im8 (iT im9 (iT im10 (iT im11 im12)))))))))))) (h3.mono (iT im1 (iT im2 (iT im3 (iT im4 (iT im5 (iT im6 (iT im7 (iT im8 (iT im9 (iT im10 (iT im11 im12)))))))))))) (h4.mono (iT im1 (iT im2 (iT im3 (iT im4 (iT im5 (iT im6 (iT im7 (iT im8 (iT im9 (iT im10 (iT im11 im12)))))))))))) (h5.mono (iT im1 (iT im2 (iT im3 (iT im4 (iT im5 (iT im6 (iT im7 (iT im8 (iT im9 (iT im10 (iT im11 im12)))))))))))) (h7.mono (iT im11 im12)) hx5) rfl fun v3 T5 w13 im13 rv3 => ?_))))
      obtain ⟨rfl, hS13, _⟩ := rv3
      have hS13 := hS13.unb
      refine pv (r_nt rfl) (nil (t_then ?_))
      refine cnd rfl (fun hb12 => ?_) (fun hb12 => ?_)
      · have hm := ctrue hb12 hm
        refine sq2 (rg (pv (r_zb rfl) (nil (t_then ?_))))
        have hm := oI hm; subst hm
        have hn2 : _ = Lp.ret _ := hn2
        subst hn2
        have hm := thn_ret hq2
        have hm := oI hm; subst hm
        have hn1 : _ = Lp.ret _ := hn1
        subst hn1
        have hm := thn_ret hq1
        have hm := oI hm; subst hm
        exact rtn (r_blk (r_then (r_then (r_blk (r_then (r_blk (r_then (r_then (r_blk (r_then (ret1 rfl rfl ⟨_, rfl, _, (iT im1 (iT im2 (iT im3 (iT im4 (iT im5 (iT im6 (iT im7 (iT im8 (iT im9 (iT im10 (iT im11 (iT im12 im13)))))))))))), ⟨rfl, hS13.sel [2] rfl, trivial⟩⟩)))))))))))
      have hm := cfalse hb12 hm
      refine skp (t_blk (t_then ?_))
      have hm := oI hm; subst hm
      exact rg (pv (r_ib rfl rfl rfl) (pv (r_mi rfl) (nil (t_then ⟨m2, Nat.lt_succ_self _, _, _, (IntKind.wrap .i64 (x2 + 1)), env_has ⟨rfl, rfl, rfl, rfl, rfl, rfl, rfl, rfl, trivial⟩, (iT im10 (iT im11 (iT im12 im13))), hS13.sel [0, 1, 2] rfl, hn2⟩))))
    have hm := cfalse hb11 hm
    have hm := oI hm; subst hm
    have hn2 : _ = Lp.brk _ := hn2
    subst hn2
    have hm := thn_brk hq2
    refine xt (x_then (x_then (x_eq (t_then ?_))))
    refine sq2 ?_
    obtain ⟨y4, hx6, hm⟩ := bindS hm
    refine rg (pv (r_ldS rfl isAgg135 sizeOf135 rfl (hS10.cells0 (i := 1) ⟨rfl, rfl⟩ (o := 0) rfl) (cs := [sv a1 p0.m.Globals c1, sv a2 p0.m.Data c2, sv a3 p0.m.Procs c3, iv p0.m.Main, .string ⟨p0.p.Name.toArray⟩, .bool p0.p.Void, iv p0.p.Params, iv p0.p.Regs, sv a4 p0.p.Objects c4, sv a5 p0.p.Blocks c5])) (pv (r_ldS rfl isAgg52 sizeOf52 rfl (hS10.cells0 (i := 0) ⟨rfl, rfl⟩ (o := 0) rfl) (cs := [sv a6 u1.Ins c6, iv u1.End, iv u1.A, iv u1.To, iv u1.Else])) (wl rfl (calS cf94 rfl (ir_looker_end_sim (p0 := p0) (p1 := u1) (hS10.bun [1, 2] [] rfl) (h1.mono (iT im1 (iT im2 (iT im3 (iT im4 (iT im5 (iT im6 (iT im7 (iT im8 (iT im9 im10)))))))))) (h2.mono (iT im1 (iT im2 (iT im3 (iT im4 (iT im5 (iT im6 (iT im7 (iT im8 (iT im9 im10)))))))))) (h3.mono (iT im1 (iT im2 (iT im3 (iT im4 (iT im5 (iT im6 (iT im7 (iT im8 (iT im9 im10)))))))))) (h4.mono (iT im1 (iT im2 (iT im3 (iT im4 (iT im5 (iT im6 (iT im7 (iT im8 (iT im9 im10)))))))))) (h5.mono (iT im1 (iT im2 (iT im3 (iT im4 (iT im5 (iT im6 (iT im7 (iT im8 (iT im9 im10)))))))))) (h6.mono (iT im8 (iT im9 im10))) hx6) rfl fun v4 T6 w14 im14 rv4 => ?_))))
    obtain ⟨rfl, hS14, _⟩ := rv4
    have hS14 := hS14.unb
    refine pv (r_nt rfl) (nil (t_then ?_))
    refine cnd rfl (fun hb13 => ?_) (fun hb13 => ?_)
    · have hm := ctrue hb13 hm
      refine sq2 (rg (pv (r_zb rfl) (nil (t_then ?_))))
      have hm := oI hm; subst hm
      have hn1 : _ = Lp.ret _ := hn1
      subst hn1
      have hm := thn_ret hq1
      have hm := oI hm; subst hm
      exact rtn (r_blk (r_then (r_then (r_blk (r_then (ret1 rfl rfl ⟨_, rfl, _, (iT im1 (iT im2 (iT im3 (iT im4 (iT im5 (iT im6 (iT im7 (iT im8 (iT im9 (iT im10 im14)))))))))), ⟨rfl, hS14.sel [1] rfl, trivial⟩⟩))))))
    have hm := cfalse hb13 hm
    refine skp (t_blk (t_then ?_))
    have hm := oI hm; subst hm
    exact rg (pv (r_ib rfl rfl rfl) (pv (r_mi rfl) (nil (t_then ⟨m1, Nat.lt_succ_self _, _, _, (IntKind.wrap .i64 (x1 + 1)), env_has ⟨rfl, rfl, rfl, rfl, trivial⟩, (iT im7 (iT im8 (iT im9 (iT im10 im14)))), hS14.sel [0, 1] rfl, hn1⟩))))
  have hm := cfalse hb10 hm
  have hm := oI hm; subst hm
  have hn1 : _ = Lp.brk _ := hn1
  subst hn1
  have hm := thn_brk hq1
  refine xt (x_then (x_then (x_eq (t_then ?_))))
  refine sq2 (rg (pv (r_zb rfl) (nil (t_then ?_))))
  have hm := oI hm; subst hm
  exact rtn (ret1 rfl rfl ⟨_, rfl, _, (iT im1 (iT im2 (iT im3 (iT im4 (iT im5 (iT im6 im7)))))), ⟨rfl, hS7.sel [1] rfl, trivial⟩⟩)

theorem ir_Proc_sim {p0 : GModule} {a1 : OA} {c1 : Nat} {a2 : OA} {c2 : Nat} {a3 : OA} {c3 : Nat} {p1 : Int} {r : Int} (hS : Sep g T0 w0 [R]) (h1 : SlR rGSlot T0 w0 (sv a1 p0.Globals c1) p0.Globals) (h2 : SlR (rSl (rInt .u8)) T0 w0 (sv a2 p0.Data c2) p0.Data) (h3 : SlR rProc T0 w0 (sv a3 p0.Procs c3) p0.Procs) (hm : ir_Proc p0 p1 = some r) :
    Calls Tryz.prog 43 #[.agg #[sv a1 p0.Globals c1, sv a2 p0.Data c2, sv a3 p0.Procs c3, iv p0.Main], iv p1] w0 (RetS T0 w0 fun T w v => v = iv r ∧ Sep g T w [R] ∧ True) := by
  refine enter (args := [.agg #[sv a1 p0.Globals c1, sv a2 p0.Data c2, sv a3 p0.Procs c3, iv p0.Main], iv p1]) Tryz.func43 rfl Tryz.ntmps43 rfl fun J => ?_
  unfold ir_Proc at hm
  refine sq2 (rg (wl rfl (bxS (cs := [sv a1 p0.Globals c1, sv a2 p0.Data c2, sv a3 p0.Procs c3, iv p0.Main]) rfl rfl hS fun w1 b1 im1 hS1 => ?_)))
  refine pv (r_zi rfl) (nil (t_then ?_))
  refine sq2 (blk (sq2 (rg (pv (r_mi rfl) (pv (r_ib rfl rfl rfl) (pv (r_mb rfl) (?_)))))))
  rcases Bool.eq_false_or_eq_true (decide (p1 < 0)) with hb1 | hb1
  · have hm := ctrue hb1 hm
    refine gF (d0 := 8) rfl rfl (by rw [hb1]; rfl) (gF (d0 := 8) rfl rfl (by rw [hb1]; rfl) (gF (d0 := 8) rfl rfl (by rw [hb1]; rfl) (gF (d0 := 8) rfl rfl (by rw [hb1]; rfl) (gF (d0 := 8) rfl rfl (by rw [hb1]; rfl) (pv (r_pkt rfl hb1 rfl) (pv (r_zb rfl) (nil (t_then ?_))))))))
    refine cnd (b := true) rfl (fun _ => ?_) (fun h => nomatch h)
    refine sq2 (rg (pv (r_zi rfl) (nil (t_then ?_))))
    have hm := oI hm; subst hm
    exact rtn (r_blk (r_then (ret1 rfl rfl ⟨_, rfl, _, im1, ⟨rfl, hS1.sel [1] rfl, trivial⟩⟩)))
  have hm := cfalse hb1 hm
  refine gT (d0 := 8) rfl rfl hb1 (pv (r_mi rfl) (gT (d0 := 8) rfl rfl hb1 (pv (r_fa rfl underlying26 rfl sizeOf24 rfl) (gT (d0 := 8) rfl rfl hb1 (pv (r_ld rfl isAgg24 (hS1.cell0 (i := 0) ⟨rfl, rfl⟩ (j := 2) rfl)) (gT (d0 := 8) rfl rfl hb1 (pv (r_ln rfl underlying24) (gT (d0 := 8) rfl rfl hb1 (pv (r_ib rfl rfl rfl) (pv (r_pkf rfl hb1 rfl) (pv (r_zb rfl) (nil (t_then ?_)))))))))))))
  refine cnd rfl (fun hb2 => ?_) (fun hb2 => ?_)
  · have hm := ctrue hb2 hm
    refine sq2 (rg (pv (r_zi rfl) (nil (t_then ?_))))
    have hm := oI hm; subst hm
    exact rtn (r_blk (r_then (ret1 rfl rfl ⟨_, rfl, _, im1, ⟨rfl, hS1.sel [1] rfl, trivial⟩⟩)))
  have hm := cfalse hb2 hm
  refine sq2 (rs [1, 0, 1, 0, 0, 1, 0, 2, 0, 0] [0, 1, 2, 3, 4, 5, 6, 7, 8, 9] mix (by kernel_rfl) hS1.lt fun w2 i1 => ?_)
  have im2 := i1.imm
  have hS2 := hS1.keep i1 (fun _ h => h)
  obtain ⟨u1, hx1, hm⟩ := bindS hm
  obtain ⟨b2, of1, cs1, k1, cp1, hv1, hp1, hl1, he1, hr1, hc1, hT1⟩ := (h3.mono (iT im1 im2)).ixT hx1 rfl
  obtain ⟨a4, c4, a5, c5, rfl, h4, h5⟩ := rProc_open hr1
  obtain ⟨y1, hx2, hm⟩ := bindS hm
  refine s1 rfl trivial (r_ldS rfl isAgg26 sizeOf26 rfl (hS2.cells0 (i := 0) ⟨rfl, rfl⟩ (o := 0) rfl) (cs := [sv a1 p0.Globals c1, sv a2 p0.Data c2, sv a3 p0.Procs c3, iv p0.Main])) rfl (s0 rfl trivial (fun _ => r_fa rfl underlying26 rfl sizeOf24 rfl) rfl (s1 rfl trivial (r_ld rfl isAgg24 (hS2.cell0 (i := 0) ⟨rfl, rfl⟩ (j := 2) rfl)) rfl (s0 rfl trivial (fun _ => r_mi rfl) rfl (s0 rfl trivial (fun _ => r_ixe hv1 rfl underlying24 sizeOf31 hp1 hl1 he1) rfl (s1 rfl trivial (r_ldS rfl isAgg31 sizeOf31 rfl hc1 (cs := (cProc u1 a4 c4 a5 c5))) rfl (s0 rfl trivial (fun _ => r_bd (by kernel_rfl) rfl (u := .agg #[sv a1 p0.Globals c1, sv a2 p0.Data c2, sv a3 p0.Procs c3, iv p0.Main, .string ⟨u1.Name.toArray⟩, .bool u1.Void, iv u1.Params, iv u1.Regs, sv a4 u1.Objects c4, sv a5 u1.Blocks c5])) rfl (s2 [] rfl trivial rfl (by kernel_rfl) (calS cf76 rfl (ir_looker_proc_sim (p0 := (⟨p0, u1⟩ : IrLooker)) (hS2.bun [1, 0] [] rfl) (h1.mono (iT im1 im2)) (h2.mono (iT im1 im2)) (h3.mono (iT im1 im2)) h4 h5 hx2) rfl fun v1 T1 w3 im3 rv1 => ?_))))))))
  obtain ⟨rfl, hS3, _⟩ := rv1
  have hS3 := hS3.unb
  refine ⟨st0, ?_⟩
  refine s0 rfl trivial (fun _ => r_nt rfl) rfl (s0 rfl trivial (fun _ => r_zb rfl) rfl (se (t_then ?_)))
  refine cnd rfl (fun hb3 => ?_) (fun hb3 => ?_)
  · have hm := ctrue hb3 hm
    refine sq2 (rg (pv (r_zi rfl) (nil (t_then ?_))))
    have hm := oI hm; subst hm
    exact rtn (r_blk (r_then (ret1 rfl rfl ⟨_, rfl, _, (iT im1 (iT im2 im3)), ⟨rfl, hS3.sel [0] rfl, trivial⟩⟩)))
  have hm := cfalse hb3 hm
  refine skp (t_blk (t_then ?_))
  refine sq2 (rg (pv (r_zi rfl) (nil (t_then ?_))))
  have hm := oI hm; subst hm
  exact rtn (ret1 rfl rfl ⟨_, rfl, _, (iT im1 (iT im2 im3)), ⟨rfl, hS3.sel [0] rfl, trivial⟩⟩)

theorem ir_Check_sim {p0 : GModule} {a1 : OA} {c1 : Nat} {a2 : OA} {c2 : Nat} {a3 : OA} {c3 : Nat} {r : Int} (hS : Sep g T0 w0 [R]) (h1 : SlR rGSlot T0 w0 (sv a1 p0.Globals c1) p0.Globals) (h2 : SlR (rSl (rInt .u8)) T0 w0 (sv a2 p0.Data c2) p0.Data) (h3 : SlR rProc T0 w0 (sv a3 p0.Procs c3) p0.Procs) (hm : ir_Check p0 = some r) :
    Calls Tryz.prog 24 #[.agg #[sv a1 p0.Globals c1, sv a2 p0.Data c2, sv a3 p0.Procs c3, iv p0.Main]] w0 (RetS T0 w0 fun T w v => v = iv r ∧ Sep g T w [R] ∧ True) := by
  refine enter (args := [.agg #[sv a1 p0.Globals c1, sv a2 p0.Data c2, sv a3 p0.Procs c3, iv p0.Main]]) Tryz.func24 rfl Tryz.ntmps24 rfl fun J => ?_
  unfold ir_Check at hm
  refine sq2 (rg (wl rfl (bxS (cs := [sv a1 p0.Globals c1, sv a2 p0.Data c2, sv a3 p0.Procs c3, iv p0.Main]) rfl rfl hS fun w1 b1 im1 hS1 => ?_)))
  refine pv (r_zi rfl) (nil (t_then ?_))
  refine sq2 (sq2 (rg (pv (r_fa rfl underlying26 rfl sizeOf23 rfl) (pv (r_ld rfl isAgg23 (hS1.cell0 (i := 0) ⟨rfl, rfl⟩ (j := 1) rfl)) (pv (r_ln rfl underlying23) (pv (r_fa rfl underlying26 rfl sizeOf22 rfl) (pv (r_ld rfl isAgg22 (hS1.cell0 (i := 0) ⟨rfl, rfl⟩ (j := 0) rfl)) (pv (r_ln rfl underlying22) (pv (r_ib rfl rfl rfl) (pv (r_mb rfl) (?_)))))))))))
  rcases Bool.eq_false_or_eq_true ((List.length p0.Data : Int) != (List.length p0.Globals : Int)) with hb1 | hb1
  · have hm := ctrue hb1 hm
    refine gF (d0 := 14) rfl rfl (by rw [hb1]; rfl) (gF (d0 := 14) rfl rfl (by rw [hb1]; rfl) (gF (d0 := 14) rfl rfl (by rw [hb1]; rfl) (gF (d0 := 14) rfl rfl (by rw [hb1]; rfl) (pv (r_pkt rfl hb1 rfl) (pv (r_mb rfl) (gF (d0 := 20) rfl rfl rfl (gF (d0 := 20) rfl rfl rfl (gF (d0 := 20) rfl rfl rfl (gF (d0 := 20) rfl rfl rfl (pv (r_pkt rfl rfl rfl) (pv (r_mb rfl) (gF (d0 := 26) rfl rfl rfl (gF (d0 := 26) rfl rfl rfl (gF (d0 := 26) rfl rfl rfl (gF (d0 := 26) rfl rfl rfl (pv (r_pkt rfl rfl rfl) (pv (r_mb rfl) (gF (d0 := 32) rfl rfl rfl (gF (d0 := 32) rfl rfl rfl (gF (d0 := 32) rfl rfl rfl (gF (d0 := 32) rfl rfl rfl (pv (r_pkt rfl rfl rfl) (pv (r_mb rfl) (gF (d0 := 38) rfl rfl rfl (gF (d0 := 38) rfl rfl rfl (gF (d0 := 38) rfl rfl rfl (pv (r_pkt rfl rfl rfl) (pv (r_mb rfl) (gF (d0 := 43) rfl rfl rfl (gF (d0 := 43) rfl rfl rfl (gF (d0 := 43) rfl rfl rfl (gF (d0 := 43) rfl rfl rfl (gF (d0 := 43) rfl rfl rfl (gF (d0 := 43) rfl rfl rfl (pv (r_pkt rfl rfl rfl) (nil (t_then ?_)))))))))))))))))))))))))))))))))))))
    refine cnd (b := true) rfl (fun _ => ?_) (fun h => nomatch h)
    refine sq2 (rg (pv (r_zi rfl) (nil (t_then ?_))))
    have hm := oI hm; subst hm
    exact rtn (r_then (ret1 rfl rfl ⟨_, rfl, _, im1, ⟨rfl, hS1.sel [1] rfl, trivial⟩⟩))
  have hm := cfalse hb1 hm
  refine gT (d0 := 14) rfl rfl hb1 (pv (r_fa rfl underlying26 rfl sizeOf22 rfl) (gT (d0 := 14) rfl rfl hb1 (pv (r_ld rfl isAgg22 (hS1.cell0 (i := 0) ⟨rfl, rfl⟩ (j := 0) rfl)) (gT (d0 := 14) rfl rfl hb1 (pv (r_ln rfl underlying22) (gT (d0 := 14) rfl rfl hb1 (pv (r_ib rfl rfl rfl) (pv (r_pkf rfl hb1 rfl) (pv (r_mb rfl) (?_))))))))))
  rcases Bool.eq_false_or_eq_true (decide (200 < (List.length p0.Globals : Int))) with hb2 | hb2
  · have hm := ctrue hb2 hm
    refine gF (d0 := 20) rfl rfl (by rw [hb2]; rfl) (gF (d0 := 20) rfl rfl (by rw [hb2]; rfl) (gF (d0 := 20) rfl rfl (by rw [hb2]; rfl) (gF (d0 := 20) rfl rfl (by rw [hb2]; rfl) (pv (r_pkt rfl hb2 rfl) (pv (r_mb rfl) (gF (d0 := 26) rfl rfl rfl (gF (d0 := 26) rfl rfl rfl (gF (d0 := 26) rfl rfl rfl (gF (d0 := 26) rfl rfl rfl (pv (r_pkt rfl rfl rfl) (pv (r_mb rfl) (gF (d0 := 32) rfl rfl rfl (gF (d0 := 32) rfl rfl rfl (gF (d0 := 32) rfl rfl rfl (gF (d0 := 32) rfl rfl rfl (pv (r_pkt rfl rfl rfl) (pv (r_mb rfl) (gF (d0 := 38) rfl rfl rfl (gF (d0 := 38) rfl rfl rfl (gF (d0 := 38) rfl rfl rfl (pv (r_pkt rfl rfl rfl) (pv (r_mb rfl) (gF (d0 := 43) rfl rfl rfl (gF (d0 := 43) rfl rfl rfl (gF (d0 := 43) rfl rfl rfl (gF (d0 := 43) rfl rfl rfl (gF (d0 := 43) rfl rfl rfl (gF (d0 := 43) rfl rfl rfl (pv (r_pkt rfl rfl rfl) (nil (t_then ?_)))))))))))))))))))))))))))))))
    refine cnd (b := true) rfl (fun _ => ?_) (fun h => nomatch h)
    refine sq2 (rg (pv (r_zi rfl) (nil (t_then ?_))))
    have hm := oI hm; subst hm
    exact rtn (r_then (ret1 rfl rfl ⟨_, rfl, _, im1, ⟨rfl, hS1.sel [1] rfl, trivial⟩⟩))
  have hm := cfalse hb2 hm
  obtain ⟨y1, hx1, hm⟩ := bindS hm
  refine gT (d0 := 20) rfl rfl hb2 (pv (r_fa rfl underlying26 rfl sizeOf22 rfl) (gT (d0 := 20) rfl rfl hb2 (pv (r_ld rfl isAgg22 (hS1.cell0 (i := 0) ⟨rfl, rfl⟩ (j := 0) rfl)) (gT (d0 := 20) rfl rfl hb2 (wl rfl (calS cf42 rfl (ir_slots_sim (p0 := p0.Globals) (hS1.bun [0, 1] [] rfl) (h1.mono im1) hx1) rfl fun v1 T1 w2 im2 rv1 => ?_))))))
  obtain ⟨rfl, hS2, _⟩ := rv1
  have hS2 := hS2.unb
  refine gT (d0 := 20) rfl rfl hb2 (pv (r_nt rfl) (pv (r_pkf rfl hb2 rfl) (pv (r_mb rfl) (?_))))
  rcases Bool.eq_false_or_eq_true (!y1) with hb3 | hb3
  · have hm := ctrue hb3 hm
    refine gF (d0 := 26) rfl rfl (by rw [hb3]; rfl) (gF (d0 := 26) rfl rfl (by rw [hb3]; rfl) (gF (d0 := 26) rfl rfl (by rw [hb3]; rfl) (gF (d0 := 26) rfl rfl (by rw [hb3]; rfl) (pv (r_pkt rfl hb3 rfl) (pv (r_mb rfl) (gF (d0 := 32) rfl rfl rfl (gF (d0 := 32) rfl rfl rfl (gF (d0 := 32) rfl rfl rfl (gF (d0 := 32) rfl rfl rfl (pv (r_pkt rfl rfl rfl) (pv (r_mb rfl) (gF (d0 := 38) rfl rfl rfl (gF (d0 := 38) rfl rfl rfl (gF (d0 := 38) rfl rfl rfl (pv (r_pkt rfl rfl rfl) (pv (r_mb rfl) (gF (d0 := 43) rfl rfl rfl (gF (d0 := 43) rfl rfl rfl (gF (d0 := 43) rfl rfl rfl (gF (d0 := 43) rfl rfl rfl (gF (d0 := 43) rfl rfl rfl (gF (d0 := 43) rfl rfl rfl (pv (r_pkt rfl rfl rfl) (nil (t_then ?_)))))))))))))))))))))))))
    refine cnd (b := true) rfl (fun _ => ?_) (fun h => nomatch h)
    refine sq2 (rg (pv (r_zi rfl) (nil (t_then ?_))))
    have hm := oI hm; subst hm
    exact rtn (r_then (ret1 rfl rfl ⟨_, rfl, _, (iT im1 im2), ⟨rfl, hS2.sel [1] rfl, trivial⟩⟩))
  have hm := cfalse hb3 hm
  refine gT (d0 := 26) rfl rfl hb3 (pv (r_fa rfl underlying26 rfl sizeOf24 rfl) (gT (d0 := 26) rfl rfl hb3 (pv (r_ld rfl isAgg24 (hS2.cell0 (i := 0) ⟨rfl, rfl⟩ (j := 2) rfl)) (gT (d0 := 26) rfl rfl hb3 (pv (r_ln rfl underlying24) (gT (d0 := 26) rfl rfl hb3 (pv (r_ib rfl rfl rfl) (pv (r_pkf rfl hb3 rfl) (pv (r_mb rfl) (?_))))))))))
  rcases Bool.eq_false_or_eq_true (decide ((List.length p0.Procs : Int) < 1)) with hb4 | hb4
  · have hm := ctrue hb4 hm
    refine gF (d0 := 32) rfl rfl (by rw [hb4]; rfl) (gF (d0 := 32) rfl rfl (by rw [hb4]; rfl) (gF (d0 := 32) rfl rfl (by rw [hb4]; rfl) (gF (d0 := 32) rfl rfl (by rw [hb4]; rfl) (pv (r_pkt rfl hb4 rfl) (pv (r_mb rfl) (gF (d0 := 38) rfl rfl rfl (gF (d0 := 38) rfl rfl rfl (gF (d0 := 38) rfl rfl rfl (pv (r_pkt rfl rfl rfl) (pv (r_mb rfl) (gF (d0 := 43) rfl rfl rfl (gF (d0 := 43) rfl rfl rfl (gF (d0 := 43) rfl rfl rfl (gF (d0 := 43) rfl rfl rfl (gF (d0 := 43) rfl rfl rfl (gF (d0 := 43) rfl rfl rfl (pv (r_pkt rfl rfl rfl) (nil (t_then ?_)))))))))))))))))))
    refine cnd (b := true) rfl (fun _ => ?_) (fun h => nomatch h)
    refine sq2 (rg (pv (r_zi rfl) (nil (t_then ?_))))
    have hm := oI hm; subst hm
    exact rtn (r_then (ret1 rfl rfl ⟨_, rfl, _, (iT im1 im2), ⟨rfl, hS2.sel [1] rfl, trivial⟩⟩))
  have hm := cfalse hb4 hm
  refine gT (d0 := 32) rfl rfl hb4 (pv (r_fa rfl underlying26 rfl sizeOf24 rfl) (gT (d0 := 32) rfl rfl hb4 (pv (r_ld rfl isAgg24 (hS2.cell0 (i := 0) ⟨rfl, rfl⟩ (j := 2) rfl)) (gT (d0 := 32) rfl rfl hb4 (pv (r_ln rfl underlying24) (gT (d0 := 32) rfl rfl hb4 (pv (r_ib rfl rfl rfl) (pv (r_pkf rfl hb4 rfl) (pv (r_mb rfl) (?_))))))))))
  rcases Bool.eq_false_or_eq_true (decide (200 < (List.length p0.Procs : Int))) with hb5 | hb5
  · have hm := ctrue hb5 hm
    refine gF (d0 := 38) rfl rfl (by rw [hb5]; rfl) (gF (d0 := 38) rfl rfl (by rw [hb5]; rfl) (gF (d0 := 38) rfl rfl (by rw [hb5]; rfl) (pv (r_pkt rfl hb5 rfl) (pv (r_mb rfl) (gF (d0 := 43) rfl rfl rfl (gF (d0 := 43) rfl rfl rfl (gF (d0 := 43) rfl rfl rfl (gF (d0 := 43) rfl rfl rfl (gF (d0 := 43) rfl rfl rfl (gF (d0 := 43) rfl rfl rfl (pv (r_pkt rfl rfl rfl) (nil (t_then ?_)))))))))))))
    refine cnd (b := true) rfl (fun _ => ?_) (fun h => nomatch h)
    refine sq2 (rg (pv (r_zi rfl) (nil (t_then ?_))))
    have hm := oI hm; subst hm
    exact rtn (r_then (ret1 rfl rfl ⟨_, rfl, _, (iT im1 im2), ⟨rfl, hS2.sel [1] rfl, trivial⟩⟩))
  have hm := cfalse hb5 hm
  refine gT (d0 := 38) rfl rfl hb5 (pv (r_fa rfl underlying26 rfl sizeOf3 rfl) (gT (d0 := 38) rfl rfl hb5 (pv (r_ld rfl isAgg3 (hS2.cell0 (i := 0) ⟨rfl, rfl⟩ (j := 3) rfl)) (gT (d0 := 38) rfl rfl hb5 (pv (r_ib rfl rfl rfl) (pv (r_pkf rfl hb5 rfl) (pv (r_mb rfl) (?_))))))))
  rcases Bool.eq_false_or_eq_true (decide (p0.Main < 0)) with hb6 | hb6
  · have hm := ctrue hb6 hm
    refine gF (d0 := 43) rfl rfl (by rw [hb6]; rfl) (gF (d0 := 43) rfl rfl (by rw [hb6]; rfl) (gF (d0 := 43) rfl rfl (by rw [hb6]; rfl) (gF (d0 := 43) rfl rfl (by rw [hb6]; rfl) (gF (d0 := 43) rfl rfl (by rw [hb6]; rfl) (gF (d0 := 43) rfl rfl (by rw [hb6]; rfl) (pv (r_pkt rfl hb6 rfl) (nil (t_then ?_))))))))
    refine cnd (b := true) rfl (fun _ => ?_) (fun h => nomatch h)
    refine sq2 (rg (pv (r_zi rfl) (nil (t_then ?_))))
    have hm := oI hm; subst hm
    exact rtn (r_then (ret1 rfl rfl ⟨_, rfl, _, (iT im1 im2), ⟨rfl, hS2.sel [1] rfl, trivial⟩⟩))
  have hm := cfalse hb6 hm
  refine gT (d0 := 43) rfl rfl hb6 (pv (r_fa rfl underlying26 rfl sizeOf3 rfl) (gT (d0 := 43) rfl rfl hb6 (pv (r_ld rfl isAgg3 (hS2.cell0 (i := 0) ⟨rfl, rfl⟩ (j := 3) rfl)) (gT (d0 := 43) rfl rfl hb6 (pv (r_fa rfl underlying26 rfl sizeOf24 rfl) (gT (d0 := 43) rfl rfl hb6 (pv (r_ld rfl isAgg24 (hS2.cell0 (i := 0) ⟨rfl, rfl⟩ (j := 2) rfl)) (gT (d0 := 43) rfl rfl hb6 (pv (r_ln rfl underlying24) (gT (d0 := 43) rfl rfl hb6 (pv (r_ib rfl rfl rfl) (pv (r_pkf rfl hb6 rfl) (nil (t_then ?_))))))))))))))
  refine cnd rfl (fun hb7 => ?_) (fun hb7 => ?_)
  · have hm := ctrue hb7 hm
    refine sq2 (rg (pv (r_zi rfl) (nil (t_then ?_))))
    have hm := oI hm; subst hm
    exact rtn (r_then (ret1 rfl rfl ⟨_, rfl, _, (iT im1 im2), ⟨rfl, hS2.sel [1] rfl, trivial⟩⟩))
  have hm := cfalse hb7 hm
  refine skp (t_then ?_)
  refine sq2 (sq2 (rg (pv (r_fa rfl underlying26 rfl sizeOf23 rfl) (pv (r_ld rfl isAgg23 (hS2.cell0 (i := 0) ⟨rfl, rfl⟩ (j := 1) rfl)) (pv (r_ln rfl underlying23) (pv (r_mi rfl) (nil (t_then ?_))))))))
  obtain ⟨o1, ho1, hq1⟩ := bindS hm
  obtain ⟨bd1, hbd1, ho1⟩ := loop_open ho1
  refine blk (wp_loop_ghost (fun m a w3 => ∃ (J : JV) (T2 : TP) (x1 : Int), a = env (nf 93) J [(1, pt b1 0), (52, sv a2 p0.Data c2), (53, iv (List.length p0.Data : Int)), (54, iv x1)] ∧ Im T1 w2 T2 w3 ∧ Sep g T2 w3 [boxA b1 [sv a1 p0.Globals c1, sv a2 p0.Data c2, sv a3 p0.Procs c3, iv p0.Main], R] ∧ loopM bd1 m x1 = some o1) NN ⟨_, _, 0, env_has ⟨rfl, rfl, rfl, rfl, trivial⟩, Im.refl, hS2.sel [0, 1] rfl, ho1⟩ ?_)
  rintro m _ w3 ⟨J, T2, x1, rfl, im3, hS3, ho1⟩
  obtain ⟨m1, z1, rfl, hm, hn1⟩ := loop_round ho1
  rw [hbd1] at hm
  refine sq2 (rg (pv (r_ib rfl rfl rfl) (nil (t_then ?_))))
  refine sq2 (cnd rfl (fun hb8 => ?_) (fun hb8 => ?_))
  · have hm := ctrue hb8 hm
    refine skp (t_then ?_)
    refine sq2 (blk (sq2 ?_))
    obtain ⟨u1, hx2, hm⟩ := bindS hm
    obtain ⟨b2, of1, cs1, k1, cp1, hv1, hp1, hl1, he1, hr1, hc1, hT1⟩ := (h2.mono (iT im1 (iT im2 im3))).ixT hx2 rfl
    obtain ⟨a4, c4, rfl, h4⟩ := rSl_open hr1
    refine rg (pv (r_mi rfl) (pv (r_ixe hv1 rfl underlying23 sizeOf99 hp1 hl1 he1) (pv (r_ld rfl isAgg99 (hc1.get (j := 0) rfl)) (pv (r_zi rfl) (pv (r_zs rfl) (nil (t_then ?_)))))))
    refine sq2 ?_
    obtain ⟨u2, hx3, hm⟩ := bindS hm
    obtain ⟨b3, of2, cs2, k2, cp2, hv2, hp2, hl2, he2, hr2, hc2, hT2⟩ := (h1.mono (iT im1 (iT im2 im3))).ixT hx3 rfl
    cases rGSlot_open hr2
    refine rg (pv (r_ms rfl) (pv (r_ln rfl underlying99) (pv (r_fa rfl underlying26 rfl sizeOf22 rfl) (pv (r_ld rfl isAgg22 (hS3.cell0 (i := 0) ⟨rfl, rfl⟩ (j := 0) rfl)) (pv (r_mi rfl) (pv (r_ixe hv2 rfl underlying22 sizeOf101 hp2 hl2 he2) (pv (r_fa rfl underlying101 rfl sizeOf3 rfl) (pv (r_ld rfl isAgg3 (hc2.get (j := 1) rfl)) (pv (r_ib rfl rfl rfl) (nil (t_then ?_)))))))))))
    refine cnd rfl (fun hb9 => ?_) (fun hb9 => ?_)
    · have hm := ctrue hb9 hm
      refine sq2 (rg (pv (r_zi rfl) (nil (t_then ?_))))
      have hm := oI hm; subst hm
      have hn1 : _ = Lp.ret _ := hn1
      subst hn1
      have hm := thn_ret hq1
      have hm := oI hm; subst hm
      exact rtn (r_blk (r_then (r_then (r_blk (r_then (ret1 rfl rfl ⟨_, rfl, _, (iT im1 (iT im2 im3)), ⟨rfl, hS3.sel [1] rfl, trivial⟩⟩))))))
    have hm := cfalse hb9 hm
    refine skp (t_blk (t_then ?_))
    have hm := oI hm; subst hm
    exact rg (pv (r_ib rfl rfl rfl) (pv (r_mi rfl) (nil (t_then ⟨m1, Nat.lt_succ_self _, _, _, (IntKind.wrap .i64 (x1 + 1)), env_has ⟨rfl, rfl, rfl, rfl, trivial⟩, im3, hS3.sel [0, 1] rfl, hn1⟩))))
  have hm := cfalse hb8 hm
  have hm := oI hm; subst hm
  have hn1 : _ = Lp.brk _ := hn1
  subst hn1
  have hm := thn_brk hq1
  refine xt (x_then (x_then (x_eq (t_then ?_))))
  refine sq2 (sq2 ?_)
  obtain ⟨u3, hx4, hm⟩ := bindS hm
  obtain ⟨b4, of3, cs3, k3, cp3, hv3, hp3, hl3, he3, hr3, hc3, hT3⟩ := (h3.mono (iT im1 (iT im2 im3))).ixT hx4 rfl
  obtain ⟨a5, c5, a6, c6, rfl, h5, h6⟩ := rProc_open hr3
  refine rg (pv (r_fa rfl underlying26 rfl sizeOf24 rfl) (pv (r_ld rfl isAgg24 (hS3.cell0 (i := 0) ⟨rfl, rfl⟩ (j := 2) rfl)) (pv (r_fa rfl underlying26 rfl sizeOf3 rfl) (pv (r_ld rfl isAgg3 (hS3.cell0 (i := 0) ⟨rfl, rfl⟩ (j := 3) rfl)) (pv (r_ixe hv3 rfl underlying24 sizeOf31 hp3 hl3 he3) (pv (r_ldS rfl isAgg31 sizeOf31 rfl hc3 (cs := (cProc u3 a5 c5 a6 c6))) (wl rfl (alS (zs := [.string ⟨([] : List UInt8).toArray⟩, .bool false, iv 0, iv 0, .slice none 0 0, .slice none 0 0]) zeroValue31 rfl hS3 fun w4 b5 im4 hS4 => ?_))))))))
  refine wl rfl (st0B (q := 0) hS4 ⟨rfl, rfl⟩ rfl rfl rfl sizeOf31 rfl rfl rfl fun w5 im5 hS5 => ?_)
  refine nil (t_then ?_)
  refine sq2 (rg (pv (r_fa rfl underlying31 rfl sizeOf3 rfl) (pv (r_ld rfl isAgg3 (hS5.cell0 (i := 0) ⟨rfl, rfl⟩ (j := 2) rfl)) (pv (r_ib rfl rfl rfl) (pv (r_mb rfl) (?_))))))
  rcases Bool.eq_false_or_eq_true (u3.Params != 0) with hb10 | hb10
  · have hm := ctrue hb10 hm
    refine gF (d0 := 78) rfl rfl (by rw [hb10]; rfl) (gF (d0 := 78) rfl rfl (by rw [hb10]; rfl) (pv (r_pkt rfl hb10 rfl) (nil (t_then ?_))))
    refine cnd (b := true) rfl (fun _ => ?_) (fun h => nomatch h)
    refine sq2 (rg (pv (r_zi rfl) (nil (t_then ?_))))
    have hm := oI hm; subst hm
    exact rtn (r_then (ret1 rfl rfl ⟨_, rfl, _, (iT im1 (iT im2 (iT im3 (iT im4 im5)))), ⟨rfl, hS5.sel [2] rfl, trivial⟩⟩))
  have hm := cfalse hb10 hm
  refine gT (d0 := 78) rfl rfl hb10 (pv (r_fa rfl underlying31 rfl sizeOf4 rfl) (gT (d0 := 78) rfl rfl hb10 (pv (r_ld rfl isAgg4 (hS5.cell0 (i := 0) ⟨rfl, rfl⟩ (j := 1) rfl)) (pv (r_pkf rfl hb10 rfl) (nil (t_then ?_))))))
  refine cnd rfl (fun hb11 => ?_) (fun hb11 => ?_)
  · have hm := ctrue hb11 hm
    refine sq2 (rg (pv (r_zi rfl) (nil (t_then ?_))))
    have hm := oI hm; subst hm
    exact rtn (r_then (ret1 rfl rfl ⟨_, rfl, _, (iT im1 (iT im2 (iT im3 (iT im4 im5)))), ⟨rfl, hS5.sel [2] rfl, trivial⟩⟩))
  have hm := cfalse hb11 hm
  refine skp (t_then ?_)
  refine sq2 (sq2 (rg (pv (r_fa rfl underlying26 rfl sizeOf24 rfl) (pv (r_ld rfl isAgg24 (hS5.cell0 (i := 1) ⟨rfl, rfl⟩ (j := 2) rfl)) (pv (r_ln rfl underlying24) (pv (r_mi rfl) (nil (t_then ?_))))))))
  obtain ⟨o1, ho1, hq1⟩ := bindS hm
  obtain ⟨bd1, hbd1, ho1⟩ := loop_open ho1
  refine blk (wp_loop_ghost (fun m a w6 => ∃ (J : JV) (T3 : TP) (x2 : Int), a = env (nf 93) J [(1, pt b1 0), (84, iv (List.length p0.Procs : Int)), (85, iv x2)] ∧ Im T2 w5 T3 w6 ∧ Sep g T3 w6 [boxA b1 [sv a1 p0.Globals c1, sv a2 p0.Data c2, sv a3 p0.Procs c3, iv p0.Main], R] ∧ loopM bd1 m x2 = some o1) NN ⟨_, _, 0, env_has ⟨rfl, rfl, rfl, trivial⟩, Im.refl, hS5.sel [1, 2] rfl, ho1⟩ ?_)
  rintro m _ w6 ⟨J, T3, x2, rfl, im6, hS6, ho1⟩
  obtain ⟨m1, z1, rfl, hm, hn1⟩ := loop_round ho1
  rw [hbd1] at hm
  refine sq2 (rg (pv (r_ib rfl rfl rfl) (nil (t_then ?_))))
  refine sq2 (cnd rfl (fun hb12 => ?_) (fun hb12 => ?_))
  · have hm := ctrue hb12 hm
    refine skp (t_then ?_)
    refine sq2 (blk (sq2 (rg (pv (r_mi rfl) (pv (r_zi rfl) (nil (t_then ?_)))))))
    refine sq2 ?_
    obtain ⟨y2, hx5, hm⟩ := bindS hm
    refine rg (pv (r_ldS rfl isAgg26 sizeOf26 rfl (hS6.cells0 (i := 0) ⟨rfl, rfl⟩ (o := 0) rfl) (cs := [sv a1 p0.Globals c1, sv a2 p0.Data c2, sv a3 p0.Procs c3, iv p0.Main])) (pv (r_mi rfl) (wl rfl (calS cf43 rfl (ir_Proc_sim (p0 := p0) (p1 := x2) (hS6.bun [0, 1] [] rfl) (h1.mono (iT im1 (iT im2 (iT im3 (iT im4 (iT im5 im6)))))) (h2.mono (iT im1 (iT im2 (iT im3 (iT im4 (iT im5 im6)))))) (h3.mono (iT im1 (iT im2 (iT im3 (iT im4 (iT im5 im6)))))) hx5) rfl fun v2 T4 w7 im7 rv2 => ?_))))
    obtain ⟨rfl, hS7, _⟩ := rv2
    have hS7 := hS7.unb
    refine pv (r_ib rfl rfl rfl) (nil (t_then ?_))
    refine cnd rfl (fun hb13 => ?_) (fun hb13 => ?_)
    · have hm := ctrue hb13 hm
      refine sq2 (rg (pv (r_zi rfl) (nil (t_then ?_))))
      have hm := oI hm; subst hm
      have hn1 : _ = Lp.ret _ := hn1
      subst hn1
      have hm := thn_ret hq1
      have hm := oI hm; subst hm
      exact rtn (r_blk (r_then (r_then (r_blk (r_then (ret1 rfl rfl ⟨_, rfl, _, (iT im1 (iT im2 (iT im3 (iT im4 (iT im5 (iT im6 im7)))))), ⟨rfl, hS7.sel [1] rfl, trivial⟩⟩))))))
    have hm := cfalse hb13 hm
    refine skp (t_blk (t_then ?_))
    have hm := oI hm; subst hm
    exact rg (pv (r_ib rfl rfl rfl) (pv (r_mi rfl) (nil (t_then ⟨m1, Nat.lt_succ_self _, _, _, (IntKind.wrap .i64 (x2 + 1)), env_has ⟨rfl, rfl, rfl, trivial⟩, (iT im6 im7), hS7.sel [0, 1] rfl, hn1⟩))))
  have hm := cfalse hb12 hm
  have hm := oI hm; subst hm
  have hn1 : _ = Lp.brk _ := hn1
  subst hn1
  have hm := thn_brk hq1
  refine xt (x_then (x_then (x_eq (t_then ?_))))
  refine sq2 (rg (pv (r_zi rfl) (nil (t_then ?_))))
  have hm := oI hm; subst hm
  exact rtn (ret1 rfl rfl ⟨_, rfl, _, (iT im1 (iT im2 (iT im3 (iT im4 (iT im5 im6))))), ⟨rfl, hS6.sel [1] rfl, trivial⟩⟩)

theorem law17_Right_sim {p0 : GModule} {a1 : OA} {c1 : Nat} {a2 : OA} {c2 : Nat} {a3 : OA} {c3 : Nat} {p1 : Int} {r : Bool} (hS : Sep g T0 w0 [R]) (h1 : SlR rGSlot T0 w0 (sv a1 p0.Globals c1) p0.Globals) (h2 : SlR (rSl (rInt .u8)) T0 w0 (sv a2 p0.Data c2) p0.Data) (h3 : SlR rProc T0 w0 (sv a3 p0.Procs c3) p0.Procs) (hm : law17_Right p0 p1 = some r) :
    Calls Tryz.prog 11 #[.agg #[sv a1 p0.Globals c1, sv a2 p0.Data c2, sv a3 p0.Procs c3, iv p0.Main], iv p1] w0 (RetS T0 w0 fun T w v => v = .bool r ∧ Sep g T w [R] ∧ True) := by
  refine enter (args := [.agg #[sv a1 p0.Globals c1, sv a2 p0.Data c2, sv a3 p0.Procs c3, iv p0.Main], iv p1]) Tryz.func11 rfl Tryz.ntmps11 rfl fun J => ?_
  unfold law17_Right at hm
  refine sq2 (rg (wl rfl (bxS (cs := [sv a1 p0.Globals c1, sv a2 p0.Data c2, sv a3 p0.Procs c3, iv p0.Main]) rfl rfl hS fun w1 b1 im1 hS1 => ?_)))
  refine pv (r_zb rfl) (nil (t_then ?_))
  refine sq2 ?_
  obtain ⟨y1, hx1, hm⟩ := bindS hm
  refine rg (pv (r_ldS rfl isAgg26 sizeOf26 rfl (hS1.cells0 (i := 0) ⟨rfl, rfl⟩ (o := 0) rfl) (cs := [sv a1 p0.Globals c1, sv a2 p0.Data c2, sv a3 p0.Procs c3, iv p0.Main])) (wl rfl (calS cf23 rfl (law13_Few_sim (p0 := p0) (hS1.bun [0, 1] [] rfl) (h1.mono im1) (h2.mono im1) (h3.mono im1) hx1) rfl fun v1 T1 w2 im2 rv1 => ?_)))
  obtain ⟨rfl, hS2, _⟩ := rv1
  have hS2 := hS2.unb
  refine pv (r_mb rfl) (?_)
  rcases Bool.eq_false_or_eq_true y1 with hb1 | hb1
  · have hm := ctrue hb1 hm
    refine gT (d0 := 7) rfl rfl hb1 (pv (r_mi rfl) (gT (d0 := 7) rfl rfl hb1 (pv (r_ib rfl rfl rfl) (pv (r_pkt rfl hb1 rfl) (pv (r_mb rfl) (?_))))))
    rcases Bool.eq_false_or_eq_true (decide (0 ≤ p1)) with hb2 | hb2
    · have hm := ctrue hb2 hm
      refine gT (d0 := 11) rfl rfl hb2 (pv (r_mi rfl) (gT (d0 := 11) rfl rfl hb2 (pv (r_fa rfl underlying26 rfl sizeOf24 rfl) (gT (d0 := 11) rfl rfl hb2 (pv (r_ld rfl isAgg24 (hS2.cell0 (i := 0) ⟨rfl, rfl⟩ (j := 2) rfl)) (gT (d0 := 11) rfl rfl hb2 (pv (r_ln rfl underlying24) (gT (d0 := 11) rfl rfl hb2 (pv (r_ib rfl rfl rfl) (pv (r_pkt rfl hb2 rfl) (pv (r_mb rfl) (?_))))))))))))
      rcases Bool.eq_false_or_eq_true (decide (p1 < (List.length p0.Procs : Int))) with hb3 | hb3
      · have hm := ctrue hb3 hm
        obtain ⟨u1, hx2, hm⟩ := bindS hm
        obtain ⟨b2, of1, cs1, k1, cp1, hv1, hp1, hl1, he1, hr1, hc1, hT1⟩ := (h3.mono (iT im1 im2)).ixT hx2 rfl
        obtain ⟨a4, c4, a5, c5, rfl, h4, h5⟩ := rProc_open hr1
        refine gT (d0 := 18) rfl rfl hb3 (pv (r_fa rfl underlying26 rfl sizeOf24 rfl) (gT (d0 := 18) rfl rfl hb3 (pv (r_ld rfl isAgg24 (hS2.cell0 (i := 0) ⟨rfl, rfl⟩ (j := 2) rfl)) (gT (d0 := 18) rfl rfl hb3 (pv (r_mi rfl) (gT (d0 := 18) rfl rfl hb3 (pv (r_ixe hv1 rfl underlying24 sizeOf31 hp1 hl1 he1) (gT (d0 := 18) rfl rfl hb3 (pv (r_fa rfl underlying31 rfl sizeOf3 rfl) (gT (d0 := 18) rfl rfl hb3 (pv (r_ld rfl isAgg3 (hc1.get (j := 3) rfl)) (gT (d0 := 18) rfl rfl hb3 (pv (r_ib rfl rfl rfl) (pv (r_pkt rfl hb3 rfl) (pv (r_mb rfl) (?_))))))))))))))))
        rcases Bool.eq_false_or_eq_true (decide (u1.Regs ≤ 40)) with hb4 | hb4
        · have hm := ctrue hb4 hm
          obtain ⟨y2, hx3, hm⟩ := bindS hm
          refine gT (d0 := 27) rfl rfl hb4 (pv (r_ldS rfl isAgg26 sizeOf26 rfl (hS2.cells0 (i := 0) ⟨rfl, rfl⟩ (o := 0) rfl) (cs := [sv a1 p0.Globals c1, sv a2 p0.Data c2, sv a3 p0.Procs c3, iv p0.Main])) (gT (d0 := 27) rfl rfl hb4 (wl rfl (calS cf24 rfl (ir_Check_sim (p0 := p0) (hS2.bun [1] [] rfl) (h1.mono (iT im1 im2)) (h2.mono (iT im1 im2)) (h3.mono (iT im1 im2)) hx3) rfl fun v2 T2 w3 im3 rv2 => ?_))))
          obtain ⟨rfl, hS3, _⟩ := rv2
          have hS3 := hS3.unb
          refine gT (d0 := 27) rfl rfl hb4 (pv (r_ib rfl rfl rfl) (pv (r_pkt rfl hb4 rfl) (pv (r_zb rfl) (nil (t_then ?_)))))
          have hm := oI hm; subst hm
          exact rtn (ret1 rfl rfl ⟨_, rfl, _, (iT im1 (iT im2 im3)), ⟨rfl, hS3.sel [0] rfl, trivial⟩⟩)
        have hm := cfalse hb4 hm
        refine gF (d0 := 27) rfl rfl (by rw [hb4]; rfl) (gF (d0 := 27) rfl rfl (by rw [hb4]; rfl) (gF (d0 := 27) rfl rfl (by rw [hb4]; rfl) (pv (r_pkf rfl hb4 rfl) (pv (r_zb rfl) (nil (t_then ?_))))))
        have hm := oI hm; subst hm
        exact rtn (ret1 rfl rfl ⟨_, rfl, _, (iT im1 im2), ⟨rfl, hS2.sel [1] rfl, trivial⟩⟩)
      have hm := cfalse hb3 hm
      refine gF (d0 := 18) rfl rfl (by rw [hb3]; rfl) (gF (d0 := 18) rfl rfl (by rw [hb3]; rfl) (gF (d0 := 18) rfl rfl (by rw [hb3]; rfl) (gF (d0 := 18) rfl rfl (by rw [hb3]; rfl) (gF (d0 := 18) rfl rfl (by rw [hb3]; rfl) (gF (d0 := 18) rfl rfl (by rw [hb3]; rfl) (gF (d0 := 18) rfl rfl (by rw [hb3]; rfl) (pv (r_pkf rfl hb3 rfl) (pv (r_mb rfl) (gF (d0 := 27) rfl rfl rfl (gF (d0 := 27) rfl rfl rfl (gF (d0 := 27) rfl rfl rfl (pv (r_pkf rfl rfl rfl) (pv (r_zb rfl) (nil (t_then ?_)))))))))))))))
      have hm := oI hm; subst hm
      exact rtn (ret1 rfl rfl ⟨_, rfl, _, (iT im1 im2), ⟨rfl, hS2.sel [1] rfl, trivial⟩⟩)
    have hm := cfalse hb2 hm
    refine gF (d0 := 11) rfl rfl (by rw [hb2]; rfl) (gF (d0 := 11) rfl rfl (by rw [hb2]; rfl) (gF (d0 := 11) rfl rfl (by rw [hb2]; rfl) (gF (d0 := 11) rfl rfl (by rw [hb2]; rfl) (gF (d0 := 11) rfl rfl (by rw [hb2]; rfl) (pv (r_pkf rfl hb2 rfl) (pv (r_mb rfl) (gF (d0 := 18) rfl rfl rfl (gF (d0 := 18) rfl rfl rfl (gF (d0 := 18) rfl rfl rfl (gF (d0 := 18) rfl rfl rfl (gF (d0 := 18) rfl rfl rfl (gF (d0 := 18) rfl rfl rfl (gF (d0 := 18) rfl rfl rfl (pv (r_pkf rfl rfl rfl) (pv (r_mb rfl) (gF (d0 := 27) rfl rfl rfl (gF (d0 := 27) rfl rfl rfl (gF (d0 := 27) rfl rfl rfl (pv (r_pkf rfl rfl rfl) (pv (r_zb rfl) (nil (t_then ?_))))))))))))))))))))))
    have hm := oI hm; subst hm
    exact rtn (ret1 rfl rfl ⟨_, rfl, _, (iT im1 im2), ⟨rfl, hS2.sel [1] rfl, trivial⟩⟩)
  have hm := cfalse hb1 hm
  refine gF (d0 := 7) rfl rfl (by rw [hb1]; rfl) (gF (d0 := 7) rfl rfl (by rw [hb1]; rfl) (pv (r_pkf rfl hb1 rfl) (pv (r_mb rfl) (gF (d0 := 11) rfl rfl rfl (gF (d0 := 11) rfl rfl rfl (gF (d0 := 11) rfl rfl rfl (gF (d0 := 11) rfl rfl rfl (gF (d0 := 11) rfl rfl rfl (pv (r_pkf rfl rfl rfl) (pv (r_mb rfl) (gF (d0 := 18) rfl rfl rfl (gF (d0 := 18) rfl rfl rfl (gF (d0 := 18) rfl rfl rfl (gF (d0 := 18) rfl rfl rfl (gF (d0 := 18) rfl rfl rfl (gF (d0 := 18) rfl rfl rfl (gF (d0 := 18) rfl rfl rfl (pv (r_pkf rfl rfl rfl) (pv (r_mb rfl) (gF (d0 := 27) rfl rfl rfl (gF (d0 := 27) rfl rfl rfl (gF (d0 := 27) rfl rfl rfl (pv (r_pkf rfl rfl rfl) (pv (r_zb rfl) (nil (t_then ?_))))))))))))))))))))))))))
  have hm := oI hm; subst hm
  exact rtn (ret1 rfl rfl ⟨_, rfl, _, (iT im1 im2), ⟨rfl, hS2.sel [1] rfl, trivial⟩⟩)

theorem law24_few_sim {p0 : GModule} {a1 : OA} {c1 : Nat} {a2 : OA} {c2 : Nat} {a3 : OA} {c3 : Nat} {p1 : Int} {r : Bool} (hS : Sep g T0 w0 [R]) (h1 : SlR rGSlot T0 w0 (sv a1 p0.Globals c1) p0.Globals) (h2 : SlR (rSl (rInt .u8)) T0 w0 (sv a2 p0.Data c2) p0.Data) (h3 : SlR rProc T0 w0 (sv a3 p0.Procs c3) p0.Procs) (hm : law24_few p0 p1 = some r) :
    Calls Tryz.prog 4 #[.agg #[sv a1 p0.Globals c1, sv a2 p0.Data c2, sv a3 p0.Procs c3, iv p0.Main], iv p1] w0 (RetS T0 w0 fun T w v => v = .bool r ∧ Sep g T w [R] ∧ True) := by
  refine enter (args := [.agg #[sv a1 p0.Globals c1, sv a2 p0.Data c2, sv a3 p0.Procs c3, iv p0.Main], iv p1]) Tryz.func4 rfl Tryz.ntmps4 rfl fun J => ?_
  unfold law24_few at hm
  refine sq2 (rg (wl rfl (bxS (cs := [sv a1 p0.Globals c1, sv a2 p0.Data c2, sv a3 p0.Procs c3, iv p0.Main]) rfl rfl hS fun w1 b1 im1 hS1 => ?_)))
  refine pv (r_zb rfl) (nil (t_then ?_))
  refine sq2 ?_
  obtain ⟨y1, hx1, hm⟩ := bindS hm
  refine rg (pv (r_ldS rfl isAgg26 sizeOf26 rfl (hS1.cells0 (i := 0) ⟨rfl, rfl⟩ (o := 0) rfl) (cs := [sv a1 p0.Globals c1, sv a2 p0.Data c2, sv a3 p0.Procs c3, iv p0.Main])) (pv (r_mi rfl) (wl rfl (calS cf11 rfl (law17_Right_sim (p0 := p0) (p1 := p1) (hS1.bun [0, 1] [] rfl) (h1.mono im1) (h2.mono im1) (h3.mono im1) hx1) rfl fun v1 T1 w2 im2 rv1 => ?_))))
  obtain ⟨rfl, hS2, _⟩ := rv1
  have hS2 := hS2.unb
  refine pv (r_mb rfl) (?_)
  rcases Bool.eq_false_or_eq_true y1 with hb1 | hb1
  · have hm := ctrue hb1 hm
    obtain ⟨u1, hx2, hm⟩ := bindS hm
    obtain ⟨b2, of1, cs1, k1, cp1, hv1, hp1, hl1, he1, hr1, hc1, hT1⟩ := (h3.mono (iT im1 im2)).ixT hx2 rfl
    obtain ⟨a4, c4, a5, c5, rfl, h4, h5⟩ := rProc_open hr1
    refine gT (d0 := 8) rfl rfl hb1 (pv (r_fa rfl underlying26 rfl sizeOf24 rfl) (gT (d0 := 8) rfl rfl hb1 (pv (r_ld rfl isAgg24 (hS2.cell0 (i := 0) ⟨rfl, rfl⟩ (j := 2) rfl)) (gT (d0 := 8) rfl rfl hb1 (pv (r_mi rfl) (gT (d0 := 8) rfl rfl hb1 (pv (r_ixe hv1 rfl underlying24 sizeOf31 hp1 hl1 he1) (gT (d0 := 8) rfl rfl hb1 (pv (r_fa rfl underlying31 rfl sizeOf29 rfl) (gT (d0 := 8) rfl rfl hb1 (pv (r_ld rfl isAgg29 (hc1.get (j := 5) rfl)) (gT (d0 := 8) rfl rfl hb1 (pv (r_ln rfl underlying29) (gT (d0 := 8) rfl rfl hb1 (pv (r_ib rfl rfl rfl) (pv (r_pkt rfl hb1 rfl) (pv (r_zb rfl) (nil (t_then ?_)))))))))))))))))))
    have hm := oI hm; subst hm
    exact rtn (ret1 rfl rfl ⟨_, rfl, _, (iT im1 im2), ⟨rfl, hS2.sel [1] rfl, trivial⟩⟩)
  have hm := cfalse hb1 hm
  refine gF (d0 := 8) rfl rfl (by rw [hb1]; rfl) (gF (d0 := 8) rfl rfl (by rw [hb1]; rfl) (gF (d0 := 8) rfl rfl (by rw [hb1]; rfl) (gF (d0 := 8) rfl rfl (by rw [hb1]; rfl) (gF (d0 := 8) rfl rfl (by rw [hb1]; rfl) (gF (d0 := 8) rfl rfl (by rw [hb1]; rfl) (gF (d0 := 8) rfl rfl (by rw [hb1]; rfl) (gF (d0 := 8) rfl rfl (by rw [hb1]; rfl) (pv (r_pkf rfl hb1 rfl) (pv (r_zb rfl) (nil (t_then ?_)))))))))))
  have hm := oI hm; subst hm
  exact rtn (ret1 rfl rfl ⟨_, rfl, _, (iT im1 im2), ⟨rfl, hS2.sel [1] rfl, trivial⟩⟩)

theorem alloc_reach_at_sim {p0 : AllocReach} {b_p0 o_p0 : Nat} {H_p0 : List Value → Assn} {p1 : Int} {r : AllocReach} (hS : Sep g T0 w0 [R, H_p0 (cAllocReach p0)]) (hL_p0 : Ln b_p0 o_p0 H_p0) (hm : alloc_reach_at p0 p1 = some r) :
    Calls Tryz.prog 25 #[pt b_p0 o_p0, iv p1] w0 (RetS T0 w0 fun T w v => v = .tuple #[] ∧ Sep g T w [R, H_p0 (cAllocReach r)] ∧ True) := by
  refine enter (args := [pt b_p0 o_p0, iv p1]) Tryz.func25 rfl Tryz.ntmps25 rfl fun J => ?_
  unfold alloc_reach_at at hm
  refine sq2 (sq2 (rg (pv (r_mp rfl) (pv (r_nc rfl) (pv (r_fa rfl underlying57 rfl sizeOf4 rfl) (pv (r_ld rfl isAgg4 (hS.cellB (i := 1) ⟨rfl, rfl⟩ hL_p0 (j := 3) rfl)) (pv (r_nt rfl) (nil (t_then ?_)))))))))
  refine cnd rfl (fun hb1 => ?_) (fun hb1 => ?_)
  · have hm := ctrue hb1 hm
    refine sq2 (rg (pv (r_mp rfl) (pv (r_mp rfl) (pv (r_mp rfl) (pv (r_mi rfl) (pv (r_mi rfl) (pv (r_nc rfl) (pv (r_fa rfl underlying57 rfl sizeOf3 rfl) (wl rfl (stB (q := 1) (j := 1) hS ⟨rfl, rfl⟩ hL_p0 rfl rfl rfl sizeOf3 rfl rfl rfl fun w1 im1 hS1 => ?_))))))))))
    refine pv (r_nc rfl) (pv (r_fa rfl underlying57 rfl sizeOf3 rfl) (wl rfl (stB (q := 1) (j := 2) hS1 ⟨rfl, rfl⟩ hL_p0 rfl rfl rfl sizeOf3 rfl rfl rfl fun w2 im2 hS2 => ?_)))
    refine pv (r_nc rfl) (pv (r_fa rfl underlying57 rfl sizeOf4 rfl) (wl rfl (stB (q := 1) (j := 3) hS2 ⟨rfl, rfl⟩ hL_p0 rfl rfl rfl sizeOf4 rfl rfl rfl fun w3 im3 hS3 => ?_)))
    refine nil (t_then ?_)
    have hm := oI hm; subst hm
    exact rtn (r_then (ret0 rfl ⟨_, rfl, _, (iT im1 (iT im2 im3)), ⟨rfl, hS3.sel [0, 1] rfl, trivial⟩⟩))
  have hm := cfalse hb1 hm
  refine skp (t_then ?_)
  refine rs [0, 0, 0, 0, 0, 1, 0, 0, 0, 0, 0, 1, 0, 0, 0, 0, 2, 0, 0, 2] [0, 1, 2, 3, 4, 5, 6, 7, 8, 9, 10, 11, 12, 13, 14, 15, 16, 17, 18, 19] mix (by kernel_rfl) hS.lt fun w4 i1 => ?_
  have im4 := i1.imm
  have hS4 := hS.keep i1 (fun _ h => h)
  refine s0 rfl trivial (fun _ => r_mp rfl) rfl (s0 rfl trivial (fun _ => r_mp rfl) rfl (s0 rfl trivial (fun _ => r_mp rfl) rfl (s0 rfl trivial (fun _ => r_nc rfl) rfl (s0 rfl trivial (fun _ => r_fa rfl underlying57 rfl sizeOf3 rfl) rfl (s1 rfl trivial (r_ld rfl isAgg3 (hS4.cellB (i := 1) ⟨rfl, rfl⟩ hL_p0 (j := 1) rfl)) rfl (s0 rfl trivial (fun _ => r_mi rfl) rfl (s0 rfl trivial (fun _ => r_imn rfl rfl) rfl (s0 rfl trivial (fun _ => r_mp rfl) rfl (s0 rfl trivial (fun _ => r_nc rfl) rfl (s0 rfl trivial (fun _ => r_fa rfl underlying57 rfl sizeOf3 rfl) rfl (s1 rfl trivial (r_ld rfl isAgg3 (hS4.cellB (i := 1) ⟨rfl, rfl⟩ hL_p0 (j := 2) rfl)) rfl (s0 rfl trivial (fun _ => r_mi rfl) rfl (s0 rfl trivial (fun _ => r_imx rfl rfl) rfl (s0 rfl trivial (fun _ => r_nc rfl) rfl (s0 rfl trivial (fun _ => r_fa rfl underlying57 rfl sizeOf3 rfl) rfl (s2 [] rfl trivial rfl (by kernel_rfl) (stB (q := 1) (j := 1) hS4 ⟨rfl, rfl⟩ hL_p0 rfl rfl rfl sizeOf3 rfl rfl rfl fun w5 im5 hS5 => ?_)))))))))))))))))
  refine ⟨st0, ?_⟩
  refine s0 rfl trivial (fun _ => r_nc rfl) rfl (s0 rfl trivial (fun _ => r_fa rfl underlying57 rfl sizeOf3 rfl) rfl (s2 [] rfl trivial rfl (by kernel_rfl) (stB (q := 1) (j := 2) hS5 ⟨rfl, rfl⟩ hL_p0 rfl rfl rfl sizeOf3 rfl rfl rfl fun w6 im6 hS6 => ?_)))
  refine ⟨st0, ?_⟩
  have hm := oI hm; subst hm
  exact se (end0 rfl ⟨_, rfl, _, (iT im4 (iT im5 im6)), ⟨rfl, hS6.sel [0, 1] rfl, trivial⟩⟩)

theorem flow_mark_sim {p0 : List Bool} {a1 : OA} {n1 : Nat} {c1 : Nat} {p1 : Int} {p2 : Bool} {r : (List Bool)} (hS : Sep g T0 w0 [R, ownA rBool 4 (.slice a1 n1 c1) p0])  (hm : flow_mark p0 p1 p2 = some r) :
    Calls Tryz.prog 77 #[.slice a1 n1 c1, iv p1, .bool p2] w0 (RetS T0 w0 fun T w v => v = .tuple #[] ∧ Sep g T w [R, ownA rBool 4 (.slice a1 n1 c1) r] ∧ True) := by
  refine enter (args := [.slice a1 n1 c1, iv p1, .bool p2]) Tryz.func77 rfl Tryz.ntmps77 rfl fun J => ?_
  unfold flow_mark at hm
  refine sq2 (rg (pv (r_mi rfl) (pv (r_ib rfl rfl rfl) (pv (r_mb rfl) (?_)))))
  rcases Bool.eq_false_or_eq_true (decide (0 ≤ p1)) with hb1 | hb1
  · have hm := ctrue hb1 hm
    refine gT (d0 := 8) rfl rfl hb1 (pv (r_mi rfl) (gT (d0 := 8) rfl rfl hb1 (pv (r_ms rfl) (gT (d0 := 8) rfl rfl hb1 (pv (r_lnV rfl (hS.own (i := 1) ⟨rfl, rfl⟩).v underlying39) (gT (d0 := 8) rfl rfl hb1 (pv (r_ib rfl rfl rfl) (pv (r_pkt rfl hb1 rfl) (nil (t_then ?_))))))))))
    refine cnd rfl (fun hb2 => ?_) (fun hb2 => ?_)
    · have hm := ctrue hb2 hm
      obtain ⟨u1, hx1, hm⟩ := bindS hm
      obtain ⟨b1, of1, cs1, k1, cp1, hv1, hp1, hl1, he1, hr1, hc1⟩ := (hS.own (i := 1) ⟨rfl, rfl⟩).v.ixq hx1 rfl
      cases hr1
      obtain ⟨u2, hx2, hm⟩ := bindS hm
      refine rg (pv (r_ms rfl) (pv (r_mi rfl) (pv (r_mb rfl) (pv (r_ixe hv1 rfl underlying39 sizeOf4 hp1 hl1 he1) (wl rfl (stO (q := 1) (i := Int.toNat p1) (j := 0) (u := u2) (u' := p2) hS ⟨rfl, rfl⟩ hv1 (idx_some hx2).2.2 he1 rfl rfl rfl sizeOf4 rfl rfl rfl (fun c0 hc0 => by rw [storeL_all (r := rBool) hc0 rfl]; exact rfl) fun w1 im1 hS1 => ?_))))))
      have hm := oI hm; subst hm
      exact nil (end0 rfl ⟨_, rfl, _, im1, ⟨rfl, hS1.sel [0, 1] rfl, trivial⟩⟩)
    have hm := cfalse hb2 hm
    have hm := oI hm; subst hm
    exact skp (end0 rfl ⟨_, rfl, _, Im.refl, ⟨rfl, hS.sel [0, 1] rfl, trivial⟩⟩)
  have hm := cfalse hb1 hm
  refine gF (d0 := 8) rfl rfl (by rw [hb1]; rfl) (gF (d0 := 8) rfl rfl (by rw [hb1]; rfl) (gF (d0 := 8) rfl rfl (by rw [hb1]; rfl) (gF (d0 := 8) rfl rfl (by rw [hb1]; rfl) (pv (r_pkf rfl hb1 rfl) (nil (t_then ?_))))))
  refine cnd (b := false) rfl (fun h => nomatch h) (fun _ => ?_)
  have hm := oI hm; subst hm
  exact skp (end0 rfl ⟨_, rfl, _, Im.refl, ⟨rfl, hS.sel [0, 1] rfl, trivial⟩⟩)

theorem flow_ended_sim {p0 : List Bool} {a1 : OA} {n1 : Nat} {c1 : Nat} {p1 : GBlock} {a2 : OA} {c2 : Nat} {r : (List Bool)} (hS : Sep g T0 w0 [R, ownA rBool 4 (.slice a1 n1 c1) p0]) (h1 : SlR rIns T0 w0 (sv a2 p1.Ins c2) p1.Ins) (hm : flow_ended p0 p1 = some r) :
    Calls Tryz.prog 44 #[.slice a1 n1 c1, .agg #[sv a2 p1.Ins c2, iv p1.End, iv p1.A, iv p1.To, iv p1.Else]] w0 (RetS T0 w0 fun T w v => v = .tuple #[] ∧ Sep g T w [R, ownA rBool 4 (.slice a1 n1 c1) r] ∧ True) := by
  refine enter (args := [.slice a1 n1 c1, .agg #[sv a2 p1.Ins c2, iv p1.End, iv p1.A, iv p1.To, iv p1.Else]]) Tryz.func44 rfl Tryz.ntmps44 rfl fun J => ?_
  unfold flow_ended at hm
  refine sq2 (rg (wl rfl (bxS (cs := [sv a2 p1.Ins c2, iv p1.End, iv p1.A, iv p1.To, iv p1.Else]) rfl rfl hS fun w1 b1 im1 hS1 => ?_)))
  refine nil (t_then ?_)
  refine sq2 (rg (pv (r_fa rfl underlying52 rfl sizeOf3 rfl) (pv (r_ld rfl isAgg3 (hS1.cell0 (i := 0) ⟨rfl, rfl⟩ (j := 1) rfl)) (pv (r_ib rfl rfl rfl) (pv (r_mb rfl) (?_))))))
  rcases Bool.eq_false_or_eq_true (p1.End == 2) with hb1 | hb1
  · have hm := ctrue hb1 hm
    refine gF (d0 := 7) rfl rfl (by rw [hb1]; rfl) (gF (d0 := 7) rfl rfl (by rw [hb1]; rfl) (gF (d0 := 7) rfl rfl (by rw [hb1]; rfl) (pv (r_pkt rfl hb1 rfl) (nil (t_then ?_)))))
    refine cnd (b := true) rfl (fun _ => ?_) (fun h => nomatch h)
    obtain ⟨y2, hx2, hm⟩ := bindS hm
    refine rg (pv (r_ms rfl) (pv (r_fa rfl underlying52 rfl sizeOf3 rfl) (pv (r_ld rfl isAgg3 (hS1.cell0 (i := 0) ⟨rfl, rfl⟩ (j := 2) rfl)) (wl rfl (calS cf77 rfl (flow_mark_sim (p0 := p0) (p1 := p1.A) (p2 := true) (hS1.bun [1] [2] rfl)  hx2) rfl fun v2 T2 w3 im3 rv2 => ?_)))))
    obtain ⟨rfl, hS3, _⟩ := rv2
    have hS3 := hS3.unb
    have hm := oI hm; subst hm
    exact nil (end0 rfl ⟨_, rfl, _, (iT im1 im3), ⟨rfl, hS3.sel [0, 1] rfl, trivial⟩⟩)
  have hm := cfalse hb1 hm
  refine gT (d0 := 7) rfl rfl hb1 (pv (r_fa rfl underlying52 rfl sizeOf3 rfl) (gT (d0 := 7) rfl rfl hb1 (pv (r_ld rfl isAgg3 (hS1.cell0 (i := 0) ⟨rfl, rfl⟩ (j := 1) rfl)) (gT (d0 := 7) rfl rfl hb1 (pv (r_ib rfl rfl rfl) (pv (r_pkf rfl hb1 rfl) (nil (t_then ?_))))))))
  refine cnd rfl (fun hb2 => ?_) (fun hb2 => ?_)
  · have hm := ctrue hb2 hm
    obtain ⟨y1, hx1, hm⟩ := bindS hm
    refine rg (pv (r_ms rfl) (pv (r_fa rfl underlying52 rfl sizeOf3 rfl) (pv (r_ld rfl isAgg3 (hS1.cell0 (i := 0) ⟨rfl, rfl⟩ (j := 2) rfl)) (wl rfl (calS cf77 rfl (flow_mark_sim (p0 := p0) (p1 := p1.A) (p2 := true) (hS1.bun [1] [2] rfl)  hx1) rfl fun v1 T1 w2 im2 rv1 => ?_)))))
    obtain ⟨rfl, hS2, _⟩ := rv1
    have hS2 := hS2.unb
    have hm := oI hm; subst hm
    exact nil (end0 rfl ⟨_, rfl, _, (iT im1 im2), ⟨rfl, hS2.sel [0, 1] rfl, trivial⟩⟩)
  have hm := cfalse hb2 hm
  have hm := oI hm; subst hm
  exact skp (end0 rfl ⟨_, rfl, _, im1, ⟨rfl, hS1.sel [1, 2] rfl, trivial⟩⟩)

theorem ir_Outs_sim {p0 : GBlock} {a1 : OA} {c1 : Nat} {r : (List Int)} (hS : Sep g T0 w0 [R]) (h1 : SlR rIns T0 w0 (sv a1 p0.Ins c1) p0.Ins) (hm : ir_Outs p0 = some r) :
    Calls Tryz.prog 79 #[.agg #[sv a1 p0.Ins c1, iv p0.End, iv p0.A, iv p0.To, iv p0.Else]] w0 (RetS T0 w0 fun T w v => ∃ (a6 : OA) (n5 : Nat) (c6 : Nat), v = .slice a6 n5 c6 ∧ Sep g T w [R, ownA (rInt .i64) 3 (.slice a6 n5 c6) r] ∧ True) := by
  refine enter (args := [.agg #[sv a1 p0.Ins c1, iv p0.End, iv p0.A, iv p0.To, iv p0.Else]]) Tryz.func79 rfl Tryz.ntmps79 rfl fun J => ?_
  unfold ir_Outs at hm
  refine sq2 (rg (wl rfl (bxS (cs := [sv a1 p0.Ins c1, iv p0.End, iv p0.A, iv p0.To, iv p0.Else]) rfl rfl hS fun w1 b1 im1 hS1 => ?_)))
  refine pv (r_zs rfl) (nil (t_then ?_))
  refine sq2 (blk (sq2 (rg (pv (r_fa rfl underlying52 rfl sizeOf3 rfl) (pv (r_ld rfl isAgg3 (hS1.cell0 (i := 0) ⟨rfl, rfl⟩ (j := 1) rfl)) (pv (r_ib rfl rfl rfl) (pv (r_mb rfl) (?_))))))))
  rcases Bool.eq_false_or_eq_true (p0.End == 1) with hb1 | hb1
  · have hm := ctrue hb1 hm
    refine gF (d0 := 7) rfl rfl (by rw [hb1]; rfl) (gF (d0 := 7) rfl rfl (by rw [hb1]; rfl) (gF (d0 := 7) rfl rfl (by rw [hb1]; rfl) (gF (d0 := 7) rfl rfl (by rw [hb1]; rfl) (gU (d0 := 11) rfl rfl (gU (d0 := 11) rfl rfl (gU (d0 := 11) rfl rfl (gU (d0 := 11) rfl rfl (gU (d0 := 11) rfl rfl (gF (d0 := 7) rfl rfl (by rw [hb1]; rfl) (pv (r_pkt rfl hb1 rfl) (pv (r_zb rfl) (nil (t_then ?_)))))))))))))
    refine cnd (b := true) rfl (fun _ => ?_) (fun h => nomatch h)
    refine sq2 (rg (pv (r_fa rfl underlying52 rfl sizeOf3 rfl) (pv (r_ld rfl isAgg3 (hS1.cell0 (i := 0) ⟨rfl, rfl⟩ (j := 3) rfl)) (wl rfl (bsS (r := (rInt .i64)) (l := ([p0.To] : List Int)) (css := [[iv p0.To]]) hS1 underlying41 sizeOf3 zeroValue3 rfl rfl (by kernel_rfl) rfl ⟨rfl, trivial⟩ rfl rfl fun w5 a5 n4 c5 im5 hS7 => ?_)))))
    refine pv (r_zs rfl) (nil (t_then ?_))
    have hm := oI hm; subst hm
    exact rtn (r_blk (r_then (ret1 rfl rfl ⟨_, rfl, _, (iT im1 im5), ⟨_, _, _, rfl, hS7.sel [2, 0] rfl, trivial⟩⟩)))
  have hm := cfalse hb1 hm
  refine gT (d0 := 7) rfl rfl hb1 (pv (r_fa rfl underlying52 rfl sizeOf3 rfl) (gT (d0 := 7) rfl rfl hb1 (pv (r_ld rfl isAgg3 (hS1.cell0 (i := 0) ⟨rfl, rfl⟩ (j := 1) rfl)) (gT (d0 := 7) rfl rfl hb1 (pv (r_ib rfl rfl rfl) (gT (d0 := 7) rfl rfl hb1 (pv (r_mb rfl) (?_))))))))
  rcases Bool.eq_false_or_eq_true (p0.End == 2) with hb2 | hb2
  · have hm := ctrue hb2 hm
    refine gT (d0 := 11) rfl rfl hb2 (pv (r_fa rfl underlying52 rfl sizeOf3 rfl) (gT (d0 := 11) rfl rfl hb2 (pv (r_ld rfl isAgg3 (hS1.cell0 (i := 0) ⟨rfl, rfl⟩ (j := 3) rfl)) (gT (d0 := 11) rfl rfl hb2 (pv (r_fa rfl underlying52 rfl sizeOf3 rfl) (gT (d0 := 11) rfl rfl hb2 (pv (r_ld rfl isAgg3 (hS1.cell0 (i := 0) ⟨rfl, rfl⟩ (j := 4) rfl)) (gT (d0 := 11) rfl rfl hb2 (pv (r_ib rfl rfl rfl) (gT (d0 := 7) rfl rfl hb1 (pv (r_pkt rfl hb2 rfl) (pv (r_pkf rfl hb1 rfl) (pv (r_zb rfl) (nil (t_then ?_)))))))))))))))
    refine cnd rfl (fun hb3 => ?_) (fun hb3 => ?_)
    · have hm := ctrue hb3 hm
      refine sq2 (rg (pv (r_fa rfl underlying52 rfl sizeOf3 rfl) (pv (r_ld rfl isAgg3 (hS1.cell0 (i := 0) ⟨rfl, rfl⟩ (j := 3) rfl)) (wl rfl (bsS (r := (rInt .i64)) (l := ([p0.To] : List Int)) (css := [[iv p0.To]]) hS1 underlying41 sizeOf3 zeroValue3 rfl rfl (by kernel_rfl) rfl ⟨rfl, trivial⟩ rfl rfl fun w2 a2 n1 c2 im2 hS2 => ?_)))))
      refine pv (r_zs rfl) (nil (t_then ?_))
      have hm := oI hm; subst hm
      exact rtn (r_blk (r_then (ret1 rfl rfl ⟨_, rfl, _, (iT im1 im2), ⟨_, _, _, rfl, hS2.sel [2, 0] rfl, trivial⟩⟩)))
    have hm := cfalse hb3 hm
    refine sq2 (rg (pv (r_fa rfl underlying52 rfl sizeOf3 rfl) (pv (r_ld rfl isAgg3 (hS1.cell0 (i := 0) ⟨rfl, rfl⟩ (j := 1) rfl)) (pv (r_ib rfl rfl rfl) (pv (r_zb rfl) (nil (t_then ?_)))))))
    refine cnd rfl (fun hb4 => ?_) (fun hb4 => ?_)
    · have hm := ctrue hb4 hm
      refine sq2 (rg (pv (r_fa rfl underlying52 rfl sizeOf3 rfl) (pv (r_ld rfl isAgg3 (hS1.cell0 (i := 0) ⟨rfl, rfl⟩ (j := 3) rfl)) (pv (r_fa rfl underlying52 rfl sizeOf3 rfl) (pv (r_ld rfl isAgg3 (hS1.cell0 (i := 0) ⟨rfl, rfl⟩ (j := 4) rfl)) (wl rfl (bsS (r := (rInt .i64)) (l := ([p0.To, p0.Else] : List Int)) (css := [[iv p0.To], [iv p0.Else]]) hS1 underlying41 sizeOf3 zeroValue3 rfl rfl (by kernel_rfl) rfl ⟨rfl, rfl, trivial⟩ rfl rfl fun w3 a3 n2 c3 im3 hS3 => ?_)))))))
      refine pv (r_zs rfl) (nil (t_then ?_))
      have hm := oI hm; subst hm
      exact rtn (r_blk (r_then (ret1 rfl rfl ⟨_, rfl, _, (iT im1 im3), ⟨_, _, _, rfl, hS3.sel [2, 0] rfl, trivial⟩⟩)))
    have hm := cfalse hb4 hm
    refine skp (t_blk (t_then ?_))
    refine sq2 (rg (pv (r_zs rfl) (nil (t_then ?_))))
    have hS4 := hS1.nilO (rInt .i64) 3
    have hm := oI hm; subst hm
    exact rtn (ret1 rfl rfl ⟨_, rfl, _, im1, ⟨_, _, _, rfl, hS4.sel [2, 0] rfl, trivial⟩⟩)
  have hm := cfalse hb2 hm
  refine gF (d0 := 11) rfl rfl (by rw [hb2]; rfl) (gF (d0 := 11) rfl rfl (by rw [hb2]; rfl) (gF (d0 := 11) rfl rfl (by rw [hb2]; rfl) (gF (d0 := 11) rfl rfl (by rw [hb2]; rfl) (gF (d0 := 11) rfl rfl (by rw [hb2]; rfl) (gT (d0 := 7) rfl rfl hb1 (pv (r_pkf rfl hb2 rfl) (pv (r_pkf rfl hb1 rfl) (pv (r_zb rfl) (nil (t_then ?_))))))))))
  refine cnd (b := false) rfl (fun h => nomatch h) (fun _ => ?_)
  refine sq2 (rg (pv (r_fa rfl underlying52 rfl sizeOf3 rfl) (pv (r_ld rfl isAgg3 (hS1.cell0 (i := 0) ⟨rfl, rfl⟩ (j := 1) rfl)) (pv (r_ib rfl rfl rfl) (pv (r_zb rfl) (nil (t_then ?_)))))))
  refine cnd rfl (fun hb6 => ?_) (fun hb6 => ?_)
  · have hm := ctrue hb6 hm
    refine sq2 (rg (pv (r_fa rfl underlying52 rfl sizeOf3 rfl) (pv (r_ld rfl isAgg3 (hS1.cell0 (i := 0) ⟨rfl, rfl⟩ (j := 3) rfl)) (pv (r_fa rfl underlying52 rfl sizeOf3 rfl) (pv (r_ld rfl isAgg3 (hS1.cell0 (i := 0) ⟨rfl, rfl⟩ (j := 4) rfl)) (wl rfl (bsS (r := (rInt .i64)) (l := ([p0.To, p0.Else] : List Int)) (css := [[iv p0.To], [iv p0.Else]]) hS1 underlying41 sizeOf3 zeroValue3 rfl rfl (by kernel_rfl) rfl ⟨rfl, rfl, trivial⟩ rfl rfl fun w4 a4 n3 c4 im4 hS5 => ?_)))))))
    refine pv (r_zs rfl) (nil (t_then ?_))
    have hm := oI hm; subst hm
    exact rtn (r_blk (r_then (ret1 rfl rfl ⟨_, rfl, _, (iT im1 im4), ⟨_, _, _, rfl, hS5.sel [2, 0] rfl, trivial⟩⟩)))
  have hm := cfalse hb6 hm
  refine skp (t_blk (t_then ?_))
  refine sq2 (rg (pv (r_zs rfl) (nil (t_then ?_))))
  have hS6 := hS1.nilO (rInt .i64) 3
  have hm := oI hm; subst hm
  exact rtn (ret1 rfl rfl ⟨_, rfl, _, im1, ⟨_, _, _, rfl, hS6.sel [2, 0] rfl, trivial⟩⟩)
end Go.Proofs.YteoihjfnojgnnaaGreat
