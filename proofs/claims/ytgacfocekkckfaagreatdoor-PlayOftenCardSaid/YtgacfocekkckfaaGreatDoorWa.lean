/- That Go functions compute their models. Printed by gen2.py. -/
import Derived.Test.YtgacfocekkckfaaGreatDoorProg
import Derived.KernelRfl
import Derived.Test.YtgacfocekkckfaaGreatDoorFoc
import Derived.Test.YtgacfocekkckfaaGreatDoorTree
import Derived.Test.YtgacfocekkckfaaGreatDoorAuto
import Derived.Test.YtgacfocekkckfaaGreatDoorAuP
import Derived.Test.YtgacfocekkckfaaGreatDoorCut
import Derived.Test.YtgacfocekkckfaaGreatDoorSeg
import Derived.Test.YtgacfocekkckfaaGreatDoorArr
import Derived.Test.YtgacfocekkckfaaGreatDoorErr
import Derived.Test.YtgacfocekkckfaaGreatDoorPan
import Derived.Test.YtgacfocekkckfaaGreatDoorRange
import Derived.Test.YtgacfocekkckfaaGreatDoorM
set_option linter.unusedVariables false
namespace Go.Proofs.YtgacfocekkckfaaGreatDoor
open _root_.Go.Proofs.Tryz
set_option maxRecDepth 100000
set_option maxHeartbeats 8000000
attribute [local irreducible] wpList wpQuiet Code.wp
variable {g : World} {T0 : Nat → Prop} {w0 : World} {R : List Assn}
def rInstShape : Rp InstShape := ((rPair rStr (rPair (rInt .u8) (rPair (rInt .u32) (rPair (rInt .u32) (rInt .u32)))))).iso fun x => (x.name, x.form, x.code, x.third, x.seventh)
theorem rInstShape_open {T : Nat → Prop} {w : World} {cs : List Value} {x : InstShape} (h : rInstShape.rp T w cs x) : cs = [.string ⟨x.name.toArray⟩, .int .u8 x.form, .int .u32 x.code, .int .u32 x.third, .int .u32 x.seventh] := by
  obtain ⟨q1, y1, rfl, f1, g1⟩ := h
  cases f1
  obtain ⟨q2, y2, rfl, f2, g2⟩ := g1
  cases f2
  obtain ⟨q3, y3, rfl, f3, g3⟩ := g2
  cases f3
  obtain ⟨q4, y4, rfl, f4, g4⟩ := g3
  cases f4
  cases g4
  exact rfl
theorem rInstShape_mk {T : Nat → Prop} {w : World} {x : InstShape}   : rInstShape.rp T w [.string ⟨x.name.toArray⟩, .int .u8 x.form, .int .u32 x.code, .int .u32 x.third, .int .u32 x.seventh] x := ⟨_, _, rfl, rfl, ⟨_, _, rfl, rfl, ⟨_, _, rfl, rfl, ⟨_, _, rfl, rfl, rfl⟩⟩⟩⟩
def rGInst : Rp GInst := ((rPair (rInt .i64) (rPair (rInt .i64) (rPair (rInt .i64) (rPair (rInt .i64) (rInt .i64)))))).iso fun x => (x.Op, x.Rd, x.Rs1, x.Rs2, x.Imm)
theorem rGInst_open {T : Nat → Prop} {w : World} {cs : List Value} {x : GInst} (h : rGInst.rp T w cs x) : cs = [.int .i64 x.Op, .int .i64 x.Rd, .int .i64 x.Rs1, .int .i64 x.Rs2, .int .i64 x.Imm] := by
  obtain ⟨q1, y1, rfl, f1, g1⟩ := h
  cases f1
  obtain ⟨q2, y2, rfl, f2, g2⟩ := g1
  cases f2
  obtain ⟨q3, y3, rfl, f3, g3⟩ := g2
  cases f3
  obtain ⟨q4, y4, rfl, f4, g4⟩ := g3
  cases f4
  cases g4
  exact rfl
theorem rGInst_mk {T : Nat → Prop} {w : World} {x : GInst}   : rGInst.rp T w [.int .i64 x.Op, .int .i64 x.Rd, .int .i64 x.Rs1, .int .i64 x.Rs2, .int .i64 x.Imm] x := ⟨_, _, rfl, rfl, ⟨_, _, rfl, rfl, ⟨_, _, rfl, rfl, ⟨_, _, rfl, rfl, rfl⟩⟩⟩⟩
def rGImage : Rp GImage := ((rPair (rSl (rInt .u32)) (rPair (rSl (rInt .u8)) (rPair (rInt .i64) (rInt .i64))))).iso fun x => (x.Code, x.Data, x.Limit, x.Notes)
theorem rGImage_open {T : Nat → Prop} {w : World} {cs : List Value} {x : GImage} (h : rGImage.rp T w cs x) : ∃ (a0 : Option Addr) (c0 : Nat) (a1 : Option Addr) (c1 : Nat), cs = [.slice a0 (List.length x.Code) c0, .slice a1 (List.length x.Data) c1, .int .i64 x.Limit, .int .i64 x.Notes] ∧ SlR (rInt .u32) T w (.slice a0 (List.length x.Code) c0) x.Code ∧ SlR (rInt .u8) T w (.slice a1 (List.length x.Data) c1) x.Data := by
  obtain ⟨q1, y1, rfl, f1, g1⟩ := h
  obtain ⟨v2, rfl, s2⟩ := f1
  obtain ⟨b2, k2, rfl⟩ := s2.shape
  obtain ⟨q3, y3, rfl, f3, g3⟩ := g1
  obtain ⟨v4, rfl, s4⟩ := f3
  obtain ⟨b4, k4, rfl⟩ := s4.shape
  obtain ⟨q5, y5, rfl, f5, g5⟩ := g3
  cases f5
  cases g5
  exact ⟨b2, k2, b4, k4, rfl, s2, s4⟩
theorem rGImage_mk {T : Nat → Prop} {w : World} {x : GImage} {a0 : Option Addr} {c0 : Nat} {a1 : Option Addr} {c1 : Nat} (e0 : SlR (rInt .u32) T w (.slice a0 (List.length x.Code) c0) x.Code) (e1 : SlR (rInt .u8) T w (.slice a1 (List.length x.Data) c1) x.Data) : rGImage.rp T w [.slice a0 (List.length x.Code) c0, .slice a1 (List.length x.Data) c1, .int .i64 x.Limit, .int .i64 x.Notes] x := ⟨_, _, rfl, ⟨_, rfl, e0⟩, ⟨_, _, rfl, ⟨_, rfl, e1⟩, ⟨_, _, rfl, rfl, rfl⟩⟩⟩
def rlaw31Fail : Rp law31Fail := ((rPair (rSl (rInt .i64)) (rPair (rInt .i64) (rPair (rInt .i64) (rInt .i64))))).iso fun x => (x.L, x.First, x.Gap, x.N)
theorem rlaw31Fail_open {T : Nat → Prop} {w : World} {cs : List Value} {x : law31Fail} (h : rlaw31Fail.rp T w cs x) : ∃ (a0 : Option Addr) (c0 : Nat), cs = [.slice a0 (List.length x.L) c0, .int .i64 x.First, .int .i64 x.Gap, .int .i64 x.N] ∧ SlR (rInt .i64) T w (.slice a0 (List.length x.L) c0) x.L := by
  obtain ⟨q1, y1, rfl, f1, g1⟩ := h
  obtain ⟨v2, rfl, s2⟩ := f1
  obtain ⟨b2, k2, rfl⟩ := s2.shape
  obtain ⟨q3, y3, rfl, f3, g3⟩ := g1
  cases f3
  obtain ⟨q4, y4, rfl, f4, g4⟩ := g3
  cases f4
  cases g4
  exact ⟨b2, k2, rfl, s2⟩
theorem rlaw31Fail_mk {T : Nat → Prop} {w : World} {x : law31Fail} {a0 : Option Addr} {c0 : Nat} (e0 : SlR (rInt .i64) T w (.slice a0 (List.length x.L) c0) x.L) : rlaw31Fail.rp T w [.slice a0 (List.length x.L) c0, .int .i64 x.First, .int .i64 x.Gap, .int .i64 x.N] x := ⟨_, _, rfl, ⟨_, rfl, e0⟩, ⟨_, _, rfl, rfl, ⟨_, _, rfl, rfl, rfl⟩⟩⟩
def rGRecord : Rp GRecord := ((rPair (rInt .u32) (rInt .u32))).iso fun x => (x.Seq, x.Val)
theorem rGRecord_open {T : Nat → Prop} {w : World} {cs : List Value} {x : GRecord} (h : rGRecord.rp T w cs x) : cs = [.int .u32 x.Seq, .int .u32 x.Val] := by
  obtain ⟨q1, y1, rfl, f1, g1⟩ := h
  cases f1
  cases g1
  exact rfl
theorem rGRecord_mk {T : Nat → Prop} {w : World} {x : GRecord}   : rGRecord.rp T w [.int .u32 x.Seq, .int .u32 x.Val] x := ⟨_, _, rfl, rfl, rfl⟩
def rGPlay : Rp GPlay := ((rPair (rInt .i64) (rPair (rInt .u32) (rPair (rInt .i64) (rPair (rSl rGRecord) (rInt .i64)))))).iso fun x => (x.State, x.Exit, x.Steps, x.Log, x.Fails)
theorem rGPlay_open {T : Nat → Prop} {w : World} {cs : List Value} {x : GPlay} (h : rGPlay.rp T w cs x) : ∃ (a3 : Option Addr) (c3 : Nat), cs = [.int .i64 x.State, .int .u32 x.Exit, .int .i64 x.Steps, .slice a3 (List.length x.Log) c3, .int .i64 x.Fails] ∧ SlR rGRecord T w (.slice a3 (List.length x.Log) c3) x.Log := by
  obtain ⟨q1, y1, rfl, f1, g1⟩ := h
  cases f1
  obtain ⟨q2, y2, rfl, f2, g2⟩ := g1
  cases f2
  obtain ⟨q3, y3, rfl, f3, g3⟩ := g2
  cases f3
  obtain ⟨q4, y4, rfl, f4, g4⟩ := g3
  obtain ⟨v5, rfl, s5⟩ := f4
  obtain ⟨b5, k5, rfl⟩ := s5.shape
  cases g4
  exact ⟨b5, k5, rfl, s5⟩
theorem rGPlay_mk {T : Nat → Prop} {w : World} {x : GPlay} {a3 : Option Addr} {c3 : Nat} (e0 : SlR rGRecord T w (.slice a3 (List.length x.Log) c3) x.Log) : rGPlay.rp T w [.int .i64 x.State, .int .u32 x.Exit, .int .i64 x.Steps, .slice a3 (List.length x.Log) c3, .int .i64 x.Fails] x := ⟨_, _, rfl, rfl, ⟨_, _, rfl, rfl, ⟨_, _, rfl, rfl, ⟨_, _, rfl, ⟨_, rfl, e0⟩, rfl⟩⟩⟩⟩
def rDeviceMet : Rp DeviceMet := ((rPair rBool (rPair rBool rGInst))).iso fun x => (x.seen, x.is, x.inst)
theorem rDeviceMet_open {T : Nat → Prop} {w : World} {cs : List Value} {x : DeviceMet} (h : rDeviceMet.rp T w cs x) : cs = [.bool x.seen, .bool x.is, .int .i64 x.inst.Op, .int .i64 x.inst.Rd, .int .i64 x.inst.Rs1, .int .i64 x.inst.Rs2, .int .i64 x.inst.Imm] := by
  obtain ⟨q1, y1, rfl, f1, g1⟩ := h
  cases f1
  obtain ⟨q2, y2, rfl, f2, g2⟩ := g1
  cases f2
  cases rGInst_open g2
  exact rfl
theorem rDeviceMet_mk {T : Nat → Prop} {w : World} {x : DeviceMet}   : rDeviceMet.rp T w [.bool x.seen, .bool x.is, .int .i64 x.inst.Op, .int .i64 x.inst.Rd, .int .i64 x.inst.Rs1, .int .i64 x.inst.Rs2, .int .i64 x.inst.Imm] x := ⟨_, _, rfl, rfl, ⟨_, _, rfl, rfl, rGInst_mk⟩⟩
def rref03Machine : Rp ref03Machine := ((rPair (rSl (rInt .u32)) (rPair (rSl (rInt .u8)) (rPair (rSl (rInt .u32)) (rPair (rSl (rInt .u32)) (rPair (rInt .i64) (rPair (rInt .u32) (rPair (rInt .u32) (rPair (rSl rGRecord) (rPair (rInt .i64) (rPair (rInt .i64) (rInt .u32)))))))))))).iso fun x => (x.Code, x.Data, x.Inputs, x.Regs, x.Pc, x.Seq, x.Index, x.Log, x.Steps, x.State, x.Exit)
theorem rref03Machine_open {T : Nat → Prop} {w : World} {cs : List Value} {x : ref03Machine} (h : rref03Machine.rp T w cs x) : ∃ (a0 : Option Addr) (c0 : Nat) (a1 : Option Addr) (c1 : Nat) (a2 : Option Addr) (c2 : Nat) (a3 : Option Addr) (c3 : Nat) (a7 : Option Addr) (c7 : Nat), cs = [.slice a0 (List.length x.Code) c0, .slice a1 (List.length x.Data) c1, .slice a2 (List.length x.Inputs) c2, .slice a3 (List.length x.Regs) c3, .int .i64 x.Pc, .int .u32 x.Seq, .int .u32 x.Index, .slice a7 (List.length x.Log) c7, .int .i64 x.Steps, .int .i64 x.State, .int .u32 x.Exit] ∧ SlR (rInt .u32) T w (.slice a0 (List.length x.Code) c0) x.Code ∧ SlR (rInt .u8) T w (.slice a1 (List.length x.Data) c1) x.Data ∧ SlR (rInt .u32) T w (.slice a2 (List.length x.Inputs) c2) x.Inputs ∧ SlR (rInt .u32) T w (.slice a3 (List.length x.Regs) c3) x.Regs ∧ SlR rGRecord T w (.slice a7 (List.length x.Log) c7) x.Log := by
  obtain ⟨q1, y1, rfl, f1, g1⟩ := h
  obtain ⟨v2, rfl, s2⟩ := f1
  obtain ⟨b2, k2, rfl⟩ := s2.shape
  obtain ⟨q3, y3, rfl, f3, g3⟩ := g1
  obtain ⟨v4, rfl, s4⟩ := f3
  obtain ⟨b4, k4, rfl⟩ := s4.shape
  obtain ⟨q5, y5, rfl, f5, g5⟩ := g3
  obtain ⟨v6, rfl, s6⟩ := f5
  obtain ⟨b6, k6, rfl⟩ := s6.shape
  obtain ⟨q7, y7, rfl, f7, g7⟩ := g5
  obtain ⟨v8, rfl, s8⟩ := f7
  obtain ⟨b8, k8, rfl⟩ := s8.shape
  obtain ⟨q9, y9, rfl, f9, g9⟩ := g7
  cases f9
  obtain ⟨q10, y10, rfl, f10, g10⟩ := g9
  cases f10
  obtain ⟨q11, y11, rfl, f11, g11⟩ := g10
  cases f11
  obtain ⟨q12, y12, rfl, f12, g12⟩ := g11
  obtain ⟨v13, rfl, s13⟩ := f12
  obtain ⟨b13, k13, rfl⟩ := s13.shape
  obtain ⟨q14, y14, rfl, f14, g14⟩ := g12
  cases f14
  obtain ⟨q15, y15, rfl, f15, g15⟩ := g14
  cases f15
  cases g15
  exact ⟨b2, k2, b4, k4, b6, k6, b8, k8, b13, k13, rfl, s2, s4, s6, s8, s13⟩
theorem rref03Machine_mk {T : Nat → Prop} {w : World} {x : ref03Machine} {a0 : Option Addr} {c0 : Nat} {a1 : Option Addr} {c1 : Nat} {a2 : Option Addr} {c2 : Nat} {a3 : Option Addr} {c3 : Nat} {a7 : Option Addr} {c7 : Nat} (e0 : SlR (rInt .u32) T w (.slice a0 (List.length x.Code) c0) x.Code) (e1 : SlR (rInt .u8) T w (.slice a1 (List.length x.Data) c1) x.Data) (e2 : SlR (rInt .u32) T w (.slice a2 (List.length x.Inputs) c2) x.Inputs) (e3 : SlR (rInt .u32) T w (.slice a3 (List.length x.Regs) c3) x.Regs) (e4 : SlR rGRecord T w (.slice a7 (List.length x.Log) c7) x.Log) : rref03Machine.rp T w [.slice a0 (List.length x.Code) c0, .slice a1 (List.length x.Data) c1, .slice a2 (List.length x.Inputs) c2, .slice a3 (List.length x.Regs) c3, .int .i64 x.Pc, .int .u32 x.Seq, .int .u32 x.Index, .slice a7 (List.length x.Log) c7, .int .i64 x.Steps, .int .i64 x.State, .int .u32 x.Exit] x := ⟨_, _, rfl, ⟨_, rfl, e0⟩, ⟨_, _, rfl, ⟨_, rfl, e1⟩, ⟨_, _, rfl, ⟨_, rfl, e2⟩, ⟨_, _, rfl, ⟨_, rfl, e3⟩, ⟨_, _, rfl, rfl, ⟨_, _, rfl, rfl, ⟨_, _, rfl, rfl, ⟨_, _, rfl, ⟨_, rfl, e4⟩, ⟨_, _, rfl, rfl, ⟨_, _, rfl, rfl, rfl⟩⟩⟩⟩⟩⟩⟩⟩⟩⟩
abbrev gref03Machine (p : ref03Machine) (H1 : List Value → Assn) (a1 : Option Addr) (c1 : Nat) (a2 : Option Addr) (n1 : Nat) (c2 : Nat) (a3 : Option Addr) (c3 : Nat) (a4 : Option Addr) (n2 : Nat) (c4 : Nat) (a5 : Option Addr) (n3 : Nat) (c5 : Nat) : List Assn := [H1 [.slice a1 (List.length p.Code) c1, .slice a2 n1 c2, .slice a3 (List.length p.Inputs) c3, .slice a4 n2 c4, .int .i64 p.Pc, .int .u32 p.Seq, .int .u32 p.Index, .slice a5 n3 c5, .int .i64 p.Steps, .int .i64 p.State, .int .u32 p.Exit], ownA (rInt .u8) 5 (.slice a2 n1 c2) p.Data, ownA (rInt .u32) 30 (.slice a4 n2 c4) p.Regs, ownA rGRecord 62 (.slice a5 n3 c5) p.Log]
def enI_u32' (x : Int) : List Value := [.int .u32 x]
theorem enI_u32'_len : ∀ x, (enI_u32' x).length = 1 := fun _ => rfl
theorem enI_u32'_rp (T : Nat → Prop) (w : World) (x : Int) : (rInt .u32).rp T w (enI_u32' x) x := rfl
def enInstShape' (x : InstShape) : List Value := [.string ⟨x.name.toArray⟩, .int .u8 x.form, .int .u32 x.code, .int .u32 x.third, .int .u32 x.seventh]
theorem enInstShape'_len : ∀ x, (enInstShape' x).length = 5 := fun _ => rfl
theorem enInstShape'_rp (T : Nat → Prop) (w : World) (x : InstShape) : rInstShape.rp T w (enInstShape' x) x := rInstShape_mk
theorem cf4 : CallOk Tryz.prog 4 := ⟨⟨_, Tryz.func4, by kernel_rfl, by kernel_rfl⟩⟩
theorem cf5 : CallOk Tryz.prog 5 := ⟨⟨_, Tryz.func5, by kernel_rfl, by kernel_rfl⟩⟩
theorem cf6 : CallOk Tryz.prog 6 := ⟨⟨_, Tryz.func6, by kernel_rfl, by kernel_rfl⟩⟩
theorem cf7 : CallOk Tryz.prog 7 := ⟨⟨_, Tryz.func7, by kernel_rfl, by kernel_rfl⟩⟩
theorem cf8 : CallOk Tryz.prog 8 := ⟨⟨_, Tryz.func8, by kernel_rfl, by kernel_rfl⟩⟩
theorem cf9 : CallOk Tryz.prog 9 := ⟨⟨_, Tryz.func9, by kernel_rfl, by kernel_rfl⟩⟩
theorem cf14 : CallOk Tryz.prog 14 := ⟨⟨_, Tryz.func14, by kernel_rfl, by kernel_rfl⟩⟩
theorem cf15 : CallOk Tryz.prog 15 := ⟨⟨_, Tryz.func15, by kernel_rfl, by kernel_rfl⟩⟩
theorem cf16 : CallOk Tryz.prog 16 := ⟨⟨_, Tryz.func16, by kernel_rfl, by kernel_rfl⟩⟩
theorem cf17 : CallOk Tryz.prog 17 := ⟨⟨_, Tryz.func17, by kernel_rfl, by kernel_rfl⟩⟩
theorem cf23 : CallOk Tryz.prog 23 := ⟨⟨_, Tryz.func23, by kernel_rfl, by kernel_rfl⟩⟩
theorem cf24 : CallOk Tryz.prog 24 := ⟨⟨_, Tryz.func24, by kernel_rfl, by kernel_rfl⟩⟩
theorem cf25 : CallOk Tryz.prog 25 := ⟨⟨_, Tryz.func25, by kernel_rfl, by kernel_rfl⟩⟩
theorem cf26 : CallOk Tryz.prog 26 := ⟨⟨_, Tryz.func26, by kernel_rfl, by kernel_rfl⟩⟩
theorem cf27 : CallOk Tryz.prog 27 := ⟨⟨_, Tryz.func27, by kernel_rfl, by kernel_rfl⟩⟩
theorem cf28 : CallOk Tryz.prog 28 := ⟨⟨_, Tryz.func28, by kernel_rfl, by kernel_rfl⟩⟩
theorem cf29 : CallOk Tryz.prog 29 := ⟨⟨_, Tryz.func29, by kernel_rfl, by kernel_rfl⟩⟩
theorem cf30 : CallOk Tryz.prog 30 := ⟨⟨_, Tryz.func30, by kernel_rfl, by kernel_rfl⟩⟩
theorem cf31 : CallOk Tryz.prog 31 := ⟨⟨_, Tryz.func31, by kernel_rfl, by kernel_rfl⟩⟩
theorem cf38 : CallOk Tryz.prog 38 := ⟨⟨_, Tryz.func38, by kernel_rfl, by kernel_rfl⟩⟩
theorem cf39 : CallOk Tryz.prog 39 := ⟨⟨_, Tryz.func39, by kernel_rfl, by kernel_rfl⟩⟩
theorem cf40 : CallOk Tryz.prog 40 := ⟨⟨_, Tryz.func40, by kernel_rfl, by kernel_rfl⟩⟩
theorem cf41 : CallOk Tryz.prog 41 := ⟨⟨_, Tryz.func41, by kernel_rfl, by kernel_rfl⟩⟩
theorem cf42 : CallOk Tryz.prog 42 := ⟨⟨_, Tryz.func42, by kernel_rfl, by kernel_rfl⟩⟩
theorem cf43 : CallOk Tryz.prog 43 := ⟨⟨_, Tryz.func43, by kernel_rfl, by kernel_rfl⟩⟩
theorem cf44 : CallOk Tryz.prog 44 := ⟨⟨_, Tryz.func44, by kernel_rfl, by kernel_rfl⟩⟩
theorem cf45 : CallOk Tryz.prog 45 := ⟨⟨_, Tryz.func45, by kernel_rfl, by kernel_rfl⟩⟩
theorem cf46 : CallOk Tryz.prog 46 := ⟨⟨_, Tryz.func46, by kernel_rfl, by kernel_rfl⟩⟩
theorem cf47 : CallOk Tryz.prog 47 := ⟨⟨_, Tryz.func47, by kernel_rfl, by kernel_rfl⟩⟩
theorem cf48 : CallOk Tryz.prog 48 := ⟨⟨_, Tryz.func48, by kernel_rfl, by kernel_rfl⟩⟩
theorem cf49 : CallOk Tryz.prog 49 := ⟨⟨_, Tryz.func49, by kernel_rfl, by kernel_rfl⟩⟩
theorem cf50 : CallOk Tryz.prog 50 := ⟨⟨_, Tryz.func50, by kernel_rfl, by kernel_rfl⟩⟩
theorem cf51 : CallOk Tryz.prog 51 := ⟨⟨_, Tryz.func51, by kernel_rfl, by kernel_rfl⟩⟩
theorem cf52 : CallOk Tryz.prog 52 := ⟨⟨_, Tryz.func52, by kernel_rfl, by kernel_rfl⟩⟩
theorem cf53 : CallOk Tryz.prog 53 := ⟨⟨_, Tryz.func53, by kernel_rfl, by kernel_rfl⟩⟩
theorem cf54 : CallOk Tryz.prog 54 := ⟨⟨_, Tryz.func54, by kernel_rfl, by kernel_rfl⟩⟩
theorem cf68 : CallOk Tryz.prog 68 := ⟨⟨_, Tryz.func68, by kernel_rfl, by kernel_rfl⟩⟩
theorem cf69 : CallOk Tryz.prog 69 := ⟨⟨_, Tryz.func69, by kernel_rfl, by kernel_rfl⟩⟩
theorem cf70 : CallOk Tryz.prog 70 := ⟨⟨_, Tryz.func70, by kernel_rfl, by kernel_rfl⟩⟩
theorem cf71 : CallOk Tryz.prog 71 := ⟨⟨_, Tryz.func71, by kernel_rfl, by kernel_rfl⟩⟩
theorem cf72 : CallOk Tryz.prog 72 := ⟨⟨_, Tryz.func72, by kernel_rfl, by kernel_rfl⟩⟩
theorem cf73 : CallOk Tryz.prog 73 := ⟨⟨_, Tryz.func73, by kernel_rfl, by kernel_rfl⟩⟩
theorem cf74 : CallOk Tryz.prog 74 := ⟨⟨_, Tryz.func74, by kernel_rfl, by kernel_rfl⟩⟩
theorem cf75 : CallOk Tryz.prog 75 := ⟨⟨_, Tryz.func75, by kernel_rfl, by kernel_rfl⟩⟩
theorem cf76 : CallOk Tryz.prog 76 := ⟨⟨_, Tryz.func76, by kernel_rfl, by kernel_rfl⟩⟩
theorem cf77 : CallOk Tryz.prog 77 := ⟨⟨_, Tryz.func77, by kernel_rfl, by kernel_rfl⟩⟩
theorem cf78 : CallOk Tryz.prog 78 := ⟨⟨_, Tryz.func78, by kernel_rfl, by kernel_rfl⟩⟩
theorem cf79 : CallOk Tryz.prog 79 := ⟨⟨_, Tryz.func79, by kernel_rfl, by kernel_rfl⟩⟩
theorem cf80 : CallOk Tryz.prog 80 := ⟨⟨_, Tryz.func80, by kernel_rfl, by kernel_rfl⟩⟩
theorem cf81 : CallOk Tryz.prog 81 := ⟨⟨_, Tryz.func81, by kernel_rfl, by kernel_rfl⟩⟩
theorem cf82 : CallOk Tryz.prog 82 := ⟨⟨_, Tryz.func82, by kernel_rfl, by kernel_rfl⟩⟩
theorem cf83 : CallOk Tryz.prog 83 := ⟨⟨_, Tryz.func83, by kernel_rfl, by kernel_rfl⟩⟩
theorem cf84 : CallOk Tryz.prog 84 := ⟨⟨_, Tryz.func84, by kernel_rfl, by kernel_rfl⟩⟩
theorem cf85 : CallOk Tryz.prog 85 := ⟨⟨_, Tryz.func85, by kernel_rfl, by kernel_rfl⟩⟩
theorem cf86 : CallOk Tryz.prog 86 := ⟨⟨_, Tryz.func86, by kernel_rfl, by kernel_rfl⟩⟩
theorem cf87 : CallOk Tryz.prog 87 := ⟨⟨_, Tryz.func87, by kernel_rfl, by kernel_rfl⟩⟩
theorem cf88 : CallOk Tryz.prog 88 := ⟨⟨_, Tryz.func88, by kernel_rfl, by kernel_rfl⟩⟩
theorem cf89 : CallOk Tryz.prog 89 := ⟨⟨_, Tryz.func89, by kernel_rfl, by kernel_rfl⟩⟩
theorem cf112 : CallOk Tryz.prog 112 := ⟨⟨_, Tryz.func112, by kernel_rfl, by kernel_rfl⟩⟩
theorem cf113 : CallOk Tryz.prog 113 := ⟨⟨_, Tryz.func113, by kernel_rfl, by kernel_rfl⟩⟩
theorem cf114 : CallOk Tryz.prog 114 := ⟨⟨_, Tryz.func114, by kernel_rfl, by kernel_rfl⟩⟩
theorem cf115 : CallOk Tryz.prog 115 := ⟨⟨_, Tryz.func115, by kernel_rfl, by kernel_rfl⟩⟩
theorem cf116 : CallOk Tryz.prog 116 := ⟨⟨_, Tryz.func116, by kernel_rfl, by kernel_rfl⟩⟩
theorem cf117 : CallOk Tryz.prog 117 := ⟨⟨_, Tryz.func117, by kernel_rfl, by kernel_rfl⟩⟩
theorem cf118 : CallOk Tryz.prog 118 := ⟨⟨_, Tryz.func118, by kernel_rfl, by kernel_rfl⟩⟩
theorem cf119 : CallOk Tryz.prog 119 := ⟨⟨_, Tryz.func119, by kernel_rfl, by kernel_rfl⟩⟩
theorem cf120 : CallOk Tryz.prog 120 := ⟨⟨_, Tryz.func120, by kernel_rfl, by kernel_rfl⟩⟩
theorem cf121 : CallOk Tryz.prog 121 := ⟨⟨_, Tryz.func121, by kernel_rfl, by kernel_rfl⟩⟩
theorem cf122 : CallOk Tryz.prog 122 := ⟨⟨_, Tryz.func122, by kernel_rfl, by kernel_rfl⟩⟩
theorem cf174 : CallOk Tryz.prog 174 := ⟨⟨_, Tryz.func174, by kernel_rfl, by kernel_rfl⟩⟩
theorem cf175 : CallOk Tryz.prog 175 := ⟨⟨_, Tryz.func175, by kernel_rfl, by kernel_rfl⟩⟩
theorem cf176 : CallOk Tryz.prog 176 := ⟨⟨_, Tryz.func176, by kernel_rfl, by kernel_rfl⟩⟩
theorem cf177 : CallOk Tryz.prog 177 := ⟨⟨_, Tryz.func177, by kernel_rfl, by kernel_rfl⟩⟩
theorem cf178 : CallOk Tryz.prog 178 := ⟨⟨_, Tryz.func178, by kernel_rfl, by kernel_rfl⟩⟩
theorem cf179 : CallOk Tryz.prog 179 := ⟨⟨_, Tryz.func179, by kernel_rfl, by kernel_rfl⟩⟩
theorem cf180 : CallOk Tryz.prog 180 := ⟨⟨_, Tryz.func180, by kernel_rfl, by kernel_rfl⟩⟩
theorem cf253 : CallOk Tryz.prog 253 := ⟨⟨_, Tryz.func253, by kernel_rfl, by kernel_rfl⟩⟩
theorem cf258 : CallOk Tryz.prog 258 := ⟨⟨_, Tryz.func258, by kernel_rfl, by kernel_rfl⟩⟩
theorem cf259 : CallOk Tryz.prog 259 := ⟨⟨_, Tryz.func259, by kernel_rfl, by kernel_rfl⟩⟩
theorem cf299 : CallOk Tryz.prog 299 := ⟨⟨_, Tryz.func299, by kernel_rfl, by kernel_rfl⟩⟩
theorem cf300 : CallOk Tryz.prog 300 := ⟨⟨_, Tryz.func300, by kernel_rfl, by kernel_rfl⟩⟩
theorem cf301 : CallOk Tryz.prog 301 := ⟨⟨_, Tryz.func301, by kernel_rfl, by kernel_rfl⟩⟩
theorem cf302 : CallOk Tryz.prog 302 := ⟨⟨_, Tryz.func302, by kernel_rfl, by kernel_rfl⟩⟩
theorem cf303 : CallOk Tryz.prog 303 := ⟨⟨_, Tryz.func303, by kernel_rfl, by kernel_rfl⟩⟩
theorem cf304 : CallOk Tryz.prog 304 := ⟨⟨_, Tryz.func304, by kernel_rfl, by kernel_rfl⟩⟩
theorem cf305 : CallOk Tryz.prog 305 := ⟨⟨_, Tryz.func305, by kernel_rfl, by kernel_rfl⟩⟩
theorem cf306 : CallOk Tryz.prog 306 := ⟨⟨_, Tryz.func306, by kernel_rfl, by kernel_rfl⟩⟩
theorem cf307 : CallOk Tryz.prog 307 := ⟨⟨_, Tryz.func307, by kernel_rfl, by kernel_rfl⟩⟩
theorem cf308 : CallOk Tryz.prog 308 := ⟨⟨_, Tryz.func308, by kernel_rfl, by kernel_rfl⟩⟩
theorem cf309 : CallOk Tryz.prog 309 := ⟨⟨_, Tryz.func309, by kernel_rfl, by kernel_rfl⟩⟩
theorem cf310 : CallOk Tryz.prog 310 := ⟨⟨_, Tryz.func310, by kernel_rfl, by kernel_rfl⟩⟩
theorem cf311 : CallOk Tryz.prog 311 := ⟨⟨_, Tryz.func311, by kernel_rfl, by kernel_rfl⟩⟩
theorem cf312 : CallOk Tryz.prog 312 := ⟨⟨_, Tryz.func312, by kernel_rfl, by kernel_rfl⟩⟩
theorem cf404 : CallOk Tryz.prog 404 := ⟨⟨_, Tryz.func404, by kernel_rfl, by kernel_rfl⟩⟩
theorem cf405 : CallOk Tryz.prog 405 := ⟨⟨_, Tryz.func405, by kernel_rfl, by kernel_rfl⟩⟩
theorem cf406 : CallOk Tryz.prog 406 := ⟨⟨_, Tryz.func406, by kernel_rfl, by kernel_rfl⟩⟩
theorem cf407 : CallOk Tryz.prog 407 := ⟨⟨_, Tryz.func407, by kernel_rfl, by kernel_rfl⟩⟩
theorem cf408 : CallOk Tryz.prog 408 := ⟨⟨_, Tryz.func408, by kernel_rfl, by kernel_rfl⟩⟩
theorem cf409 : CallOk Tryz.prog 409 := ⟨⟨_, Tryz.func409, by kernel_rfl, by kernel_rfl⟩⟩
theorem cf410 : CallOk Tryz.prog 410 := ⟨⟨_, Tryz.func410, by kernel_rfl, by kernel_rfl⟩⟩
theorem cf411 : CallOk Tryz.prog 411 := ⟨⟨_, Tryz.func411, by kernel_rfl, by kernel_rfl⟩⟩
theorem cf412 : CallOk Tryz.prog 412 := ⟨⟨_, Tryz.func412, by kernel_rfl, by kernel_rfl⟩⟩
theorem cf524 : CallOk Tryz.prog 524 := ⟨⟨_, Tryz.func524, by kernel_rfl, by kernel_rfl⟩⟩
theorem cf525 : CallOk Tryz.prog 525 := ⟨⟨_, Tryz.func525, by kernel_rfl, by kernel_rfl⟩⟩
theorem cf526 : CallOk Tryz.prog 526 := ⟨⟨_, Tryz.func526, by kernel_rfl, by kernel_rfl⟩⟩
theorem cf527 : CallOk Tryz.prog 527 := ⟨⟨_, Tryz.func527, by kernel_rfl, by kernel_rfl⟩⟩
theorem el3 : ElemOk Tryz.prog 3 1 := ⟨by kernel_rfl, by decide⟩
theorem el5 : ElemOk Tryz.prog 5 1 := ⟨by kernel_rfl, by decide⟩
theorem el30 : ElemOk Tryz.prog 30 1 := ⟨by kernel_rfl, by decide⟩
theorem el62 : ElemOk Tryz.prog 62 2 := ⟨by kernel_rfl, by decide⟩
theorem el63 : ElemOk Tryz.prog 63 2 := ⟨by kernel_rfl, by decide⟩
theorem el303 : ElemOk Tryz.prog 303 7 := ⟨by kernel_rfl, by decide⟩
theorem ne_62 (a0 : Int) (a1 : Int) (b0 : Int) (b1 : Int) : ∀ x y w, (do eqGuard .neq 62 x y (.agg #[.int .u32 a0, .int .u32 a1]) (.agg #[.int .u32 b0, .int .u32 b1]); binOp .neq 62 (.agg #[.int .u32 a0, .int .u32 a1]) (.agg #[.int .u32 b0, .int .u32 b1]) : Sem Value).run Tryz.prog w = .ok (.bool (!((a0 == b0) && (a1 == b1)))) w := by
  intro x y w
  simp [go_sem]
  repeat' split
  all_goals simp_all
theorem mix : Tryz.prog.follows .mixedOrders = true := by kernel_rfl
attribute [local irreducible] wpSer wpTr execOp Program.underlying sizeOf isAgg zeroValue
/-! Steps that find by themselves what they need. -/
theorem tyU {t : TypeId} {d : TypeDesc} (h : Tryz.prog.underlying t = some d := by first | exact Tryz.underlying30 | exact Tryz.underlying103 | exact Tryz.underlying60 | exact Tryz.underlying3 | exact Tryz.underlying79 | exact Tryz.underlying26 | exact Tryz.underlying21 | exact Tryz.underlying22 | exact Tryz.underlying199 | exact Tryz.underlying23 | exact Tryz.underlying100 | exact Tryz.underlying2 | exact Tryz.underlying28 | exact Tryz.underlying288 | exact Tryz.underlying25 | exact Tryz.underlying98 | exact Tryz.underlying31 | exact Tryz.underlying33 | exact Tryz.underlying101 | exact Tryz.underlying70 | exact Tryz.underlying414 | exact Tryz.underlying5 | exact Tryz.underlying58 | exact Tryz.underlying303 | exact Tryz.underlying394) : Tryz.prog.underlying t = some d := h
theorem tyS {t : TypeId} {z : Nat} (h : ∀ w, (sizeOf t).run Tryz.prog w = .ok z w := by first | exact Tryz.sizeOf3 | exact Tryz.sizeOf30 | exact Tryz.sizeOf199 | exact Tryz.sizeOf5 | exact Tryz.sizeOf100 | exact Tryz.sizeOf33 | exact Tryz.sizeOf79 | exact Tryz.sizeOf22 | exact Tryz.sizeOf288 | exact Tryz.sizeOf23 | exact Tryz.sizeOf98 | exact Tryz.sizeOf4 | exact Tryz.sizeOf31 | exact Tryz.sizeOf63 | exact Tryz.sizeOf25 | exact Tryz.sizeOf303 | exact Tryz.sizeOf58 | exact Tryz.sizeOf62 | exact Tryz.sizeOf394 | exact Tryz.sizeOf101) : ∀ w, (sizeOf t).run Tryz.prog w = .ok z w := h
theorem tyA {t : TypeId} {z : Bool} (h : ∀ w, (isAgg t).run Tryz.prog w = .ok z w := by first | exact Tryz.isAgg3 | exact Tryz.isAgg30 | exact Tryz.isAgg199 | exact Tryz.isAgg22 | exact Tryz.isAgg79 | exact Tryz.isAgg5 | exact Tryz.isAgg33 | exact Tryz.isAgg23 | exact Tryz.isAgg288 | exact Tryz.isAgg31 | exact Tryz.isAgg70 | exact Tryz.isAgg25 | exact Tryz.isAgg4 | exact Tryz.isAgg58 | exact Tryz.isAgg63 | exact Tryz.isAgg62 | exact Tryz.isAgg394 | exact Tryz.isAgg101) : ∀ w, (isAgg t).run Tryz.prog w = .ok z w := h
theorem tyZ {t : TypeId} {z : Value} (h : ∀ w, (zeroValue t).run Tryz.prog w = .ok z w := by first | exact Tryz.zeroValue199 | exact Tryz.zeroValue3 | exact Tryz.zeroValue303 | exact Tryz.zeroValue79 | exact Tryz.zeroValue33 | exact Tryz.zeroValue394 | exact Tryz.zeroValue288 | exact Tryz.zeroValue30 | exact Tryz.zeroValue63 | exact Tryz.zeroValue5 | exact Tryz.zeroValue62) : ∀ w, (zeroValue t).run Tryz.prog w = .ok z w := h
theorem opnS {α : Type} {r : Rp α} {T : Nat → Prop} {w : World} {u : α} {cs : List Value} (h : ∀ c0, r.rp T w c0 u → c0 = cs := by first | exact fun _ h => h | exact fun _ h => rInstShape_open h | exact fun _ h => rGInst_open h | exact fun _ h => rGRecord_open h | exact fun _ h => rDeviceMet_open h) : ∀ c0, r.rp T w c0 u → c0 = cs := h
theorem opv {P : Program} {n : NF} {J : Nat → Value} {L : List (Nat × Value)} {w : World} {o : Oper} {v : Value} (h : (execOp (ev n J L) o).run P w = .ok (.value v) w := by
  first | ((with_reducible apply r_mx); first | exact (rfl : _ = Value.int _ _) | exact (rfl : _ = Value.bool _) | exact (rfl : _ = Value.slice _ _ _) | exact (rfl : _ = Value.pointer _) | exact (rfl : _ = Value.string _) | exact (rfl : _ = Value.agg _) | exact (rfl : _ = Value.func _ _ _) | exact (rfl : _ = Value.tuple _) | exact (rfl : _ = Value.map _)) | ((with_reducible apply r_zx); first | exact (rfl : _ = Value.int _ _) | exact (rfl : _ = Value.bool _) | exact (rfl : _ = Value.slice _ _ _) | exact (rfl : _ = Value.pointer _) | exact (rfl : _ = Value.string _) | exact (rfl : _ = Value.agg _) | exact (rfl : _ = Value.func _ _ _) | exact (rfl : _ = Value.tuple _) | exact (rfl : _ = Value.map _)) | ((with_reducible apply r_ib); (exact rfl); (exact rfl); (exact rfl)) | ((with_reducible apply r_faP); (exact rfl); (exact tyU); (exact rfl); (exact tyS); (exact rfl)) | ((with_reducible apply r_fa); (exact rfl); (exact tyU); (exact rfl); (exact tyS); (exact rfl)) | ((with_reducible apply r_ld); (exact rfl); (exact tyA); (first | exact Sep.cell0 (by assumption) atS (by exact rfl) | exact cellsAt.get (by assumption) (by exact rfl) | exact cellsAt.get0 (by assumption) (by exact rfl) | exact elG slvS (by assumption) (by exact rfl) opnS (by exact rfl) | exact elG0 slvS (by assumption) (by exact rfl) opnS (by exact rfl) | exact Sep.cellL (by assumption) (by assumption) atS (by exact rfl) | exact Sep.cellL0 (by assumption) (by assumption) atS (by exact rfl) | exact cellsAt.get (cellsAt.sameT (by assumption) (by assumption) ch) (by exact rfl) | exact cellsAt.get0 (cellsAt.sameT (by assumption) (by assumption) ch) (by exact rfl))) | ((with_reducible apply r_pkf); (exact rfl); (first | assumption | exact rfl); (exact rfl)) | ((with_reducible apply r_pkt); (exact rfl); (first | assumption | exact rfl); (exact rfl)) | ((with_reducible apply r_ex0); (exact rfl)) | ((with_reducible apply r_ex1); (exact rfl)) | ((with_reducible apply r_ex2); (exact rfl)) | ((with_reducible apply r_ex3); (exact rfl)) | ((with_reducible apply r_ixc); (exact rfl); (exact rfl); (exact tyU); (exact tyS); (exact slvS); (exact rfl); (assumption)) | ((with_reducible apply r_ixf); (assumption); (exact rfl); (exact tyU); (exact tyS); (assumption); (assumption); (assumption)) | ((with_reducible apply r_ixv); (assumption); (assumption); (exact atS); (exact rfl); (exact rfl); (exact tyU); (exact tyS); (exact rfl); (assumption)) | ((with_reducible apply r_ldE); (exact rfl); (exact tyA); (exact tyS); (first | assumption | exact Sep.cellsA (by assumption) atS | exact elS slvS (by assumption) (by exact rfl) opnS | exact Sep.cellsP (by assumption) (by assumption) atS | exact cellsAt.sameT (by assumption) (by assumption) ch); (exact rfl)) | ((with_reducible apply r_ldP); (exact rfl); (exact tyA); (exact tyS); (assumption); (exact atS); (first | exact (rfl : _ = [_]) | exact (rfl : _ = [_, _]) | exact (rfl : _ = [_, _, _]) | exact (rfl : _ = [_, _, _, _]) | exact (rfl : _ = [_, _, _, _, _]) | exact (rfl : _ = [_, _, _, _, _, _]) | exact (rfl : _ = [_, _, _, _, _, _, _]) | exact (rfl : _ = [_, _, _, _, _, _, _, _]) | exact (rfl : _ = [_, _, _, _, _, _, _, _, _]) | exact (rfl : _ = [_, _, _, _, _, _, _, _, _, _]) | exact (rfl : _ = [_, _, _, _, _, _, _, _, _, _, _]) | exact (rfl : _ = [_, _, _, _, _, _, _, _, _, _, _, _]) | exact (rfl : _ = [_, _, _, _, _, _, _, _, _, _, _, _, _]) | exact (rfl : _ = [_, _, _, _, _, _, _, _, _, _, _, _, _, _]) | exact (rfl : _ = [_, _, _, _, _, _, _, _, _, _, _, _, _, _, _])); (exact rfl)) | ((with_reducible apply r_cv); (exact rfl); (exact tyU); (exact tyU)) | ((with_reducible apply r_lnt); (exact rfl); (exact tyU)) | ((with_reducible apply r_lnW); (exact rfl); (exact tyU); (exact slvS)) | ((with_reducible apply r_ln); (exact rfl); (exact tyU)) | ((with_reducible apply r_sqL); (exact rfl); (exact rfl)) | ((with_reducible apply r_snL); (exact rfl); (exact rfl)) | ((with_reducible apply r_nt); (exact rfl)) | ((with_reducible apply r_nc); (exact rfl)) | ((with_reducible apply r_ng); (exact rfl)) | ((with_reducible apply r_cm); (exact rfl)) | ((with_reducible apply r_ishl); (exact rfl); (exact rfl); (decide)) | ((with_reducible apply r_ishr); (exact rfl); (exact rfl); (decide)) | ((with_reducible apply r_irm); (exact rfl); (exact rfl); (decide)) | ((with_reducible apply r_iq); (exact rfl); (exact rfl); (decide))) : (execOp (ev n J L) o).run P w = .ok (.value v) w := h
theorem opq {P : Program} {n : NF} {J : Nat → Value} {L : List (Nat × Value)} {w : World} {o : Oper} {v : Value} (h : (execOp (ev n J L) o).run P w = .ok (.value v) w := by
  first | ((with_reducible apply r_mx); first | exact (rfl : _ = Value.int _ _) | exact (rfl : _ = Value.bool _) | exact (rfl : _ = Value.slice _ _ _) | exact (rfl : _ = Value.pointer _) | exact (rfl : _ = Value.string _) | exact (rfl : _ = Value.agg _) | exact (rfl : _ = Value.func _ _ _) | exact (rfl : _ = Value.tuple _) | exact (rfl : _ = Value.map _)) | ((with_reducible apply r_zx); first | exact (rfl : _ = Value.int _ _) | exact (rfl : _ = Value.bool _) | exact (rfl : _ = Value.slice _ _ _) | exact (rfl : _ = Value.pointer _) | exact (rfl : _ = Value.string _) | exact (rfl : _ = Value.agg _) | exact (rfl : _ = Value.func _ _ _) | exact (rfl : _ = Value.tuple _) | exact (rfl : _ = Value.map _)) | ((with_reducible apply r_ib); (exact rfl); (exact rfl); (exact rfl)) | ((with_reducible apply r_faP); (exact rfl); (exact tyU); (exact rfl); (exact tyS); (exact rfl)) | ((with_reducible apply r_fa); (exact rfl); (exact tyU); (exact rfl); (exact tyS); (exact rfl)) | ((with_reducible apply r_ld); (exact rfl); (exact tyA); (apply QC.cell; assumption; (first | exact Sep.cell0 (by assumption) atS (by exact rfl) | exact cellsAt.get (by assumption) (by exact rfl) | exact cellsAt.get0 (by assumption) (by exact rfl) | exact elG slvS (by assumption) (by exact rfl) opnS (by exact rfl) | exact elG0 slvS (by assumption) (by exact rfl) opnS (by exact rfl) | exact Sep.cellL (by assumption) (by assumption) atS (by exact rfl) | exact Sep.cellL0 (by assumption) (by assumption) atS (by exact rfl) | exact cellsAt.get (cellsAt.sameT (by assumption) (by assumption) ch) (by exact rfl) | exact cellsAt.get0 (cellsAt.sameT (by assumption) (by assumption) ch) (by exact rfl)))) | ((with_reducible apply r_pkf); (exact rfl); (first | assumption | exact rfl); (exact rfl)) | ((with_reducible apply r_pkt); (exact rfl); (first | assumption | exact rfl); (exact rfl)) | ((with_reducible apply r_ex0); (exact rfl)) | ((with_reducible apply r_ex1); (exact rfl)) | ((with_reducible apply r_ex2); (exact rfl)) | ((with_reducible apply r_ex3); (exact rfl)) | ((with_reducible apply r_ixc); (exact rfl); (exact rfl); (exact tyU); (exact tyS); (exact slvS); (exact rfl); (assumption)) | ((with_reducible apply r_ixf); (assumption); (exact rfl); (exact tyU); (exact tyS); (assumption); (assumption); (assumption)) | ((with_reducible apply r_ixv); (assumption); (assumption); (exact atS); (exact rfl); (exact rfl); (exact tyU); (exact tyS); (exact rfl); (assumption)) | ((with_reducible apply r_ldE); (exact rfl); (exact tyA); (exact tyS); (apply QC.cellsAt; assumption; (first | assumption | exact Sep.cellsA (by assumption) atS | exact elS slvS (by assumption) (by exact rfl) opnS | exact Sep.cellsP (by assumption) (by assumption) atS | exact cellsAt.sameT (by assumption) (by assumption) ch)); (exact rfl)) | ((with_reducible apply r_ldP); (exact rfl); (exact tyA); (exact tyS); (assumption); (exact atS); (first | exact (rfl : _ = [_]) | exact (rfl : _ = [_, _]) | exact (rfl : _ = [_, _, _]) | exact (rfl : _ = [_, _, _, _]) | exact (rfl : _ = [_, _, _, _, _]) | exact (rfl : _ = [_, _, _, _, _, _]) | exact (rfl : _ = [_, _, _, _, _, _, _]) | exact (rfl : _ = [_, _, _, _, _, _, _, _]) | exact (rfl : _ = [_, _, _, _, _, _, _, _, _]) | exact (rfl : _ = [_, _, _, _, _, _, _, _, _, _]) | exact (rfl : _ = [_, _, _, _, _, _, _, _, _, _, _]) | exact (rfl : _ = [_, _, _, _, _, _, _, _, _, _, _, _]) | exact (rfl : _ = [_, _, _, _, _, _, _, _, _, _, _, _, _]) | exact (rfl : _ = [_, _, _, _, _, _, _, _, _, _, _, _, _, _]) | exact (rfl : _ = [_, _, _, _, _, _, _, _, _, _, _, _, _, _, _])); (exact rfl)) | ((with_reducible apply r_cv); (exact rfl); (exact tyU); (exact tyU)) | ((with_reducible apply r_lnt); (exact rfl); (exact tyU)) | ((with_reducible apply r_lnW); (exact rfl); (exact tyU); (exact slvS)) | ((with_reducible apply r_ln); (exact rfl); (exact tyU)) | ((with_reducible apply r_sqL); (exact rfl); (exact rfl)) | ((with_reducible apply r_snL); (exact rfl); (exact rfl)) | ((with_reducible apply r_nt); (exact rfl)) | ((with_reducible apply r_nc); (exact rfl)) | ((with_reducible apply r_ng); (exact rfl)) | ((with_reducible apply r_cm); (exact rfl)) | ((with_reducible apply r_ishl); (exact rfl); (exact rfl); (decide)) | ((with_reducible apply r_ishr); (exact rfl); (exact rfl); (decide)) | ((with_reducible apply r_irm); (exact rfl); (exact rfl); (decide)) | ((with_reducible apply r_iq); (exact rfl); (exact rfl); (decide))) : (execOp (ev n J L) o).run P w = .ok (.value v) w := h
theorem gwS {l : List Oper} {n : NF} {J : Nat → Value} {L : List (Nat × Value)} {gd : Option (Nat × Bool)} (h : Wt l n J L gd := by first | exact trivial | exact ⟨_, rfl, congrArg Value.bool (by assumption)⟩ | exact ⟨_, rfl, rfl⟩) : Wt l n J L gd := h
theorem gUS {l : List Oper} {n : NF} {J : Nat → Value} {L : List (Nat × Value)} {gd : Option (Nat × Bool)} (h : Wf l n J L gd := by first | exact gI rfl rfl (by assumption) | exact gI rfl rfl rfl | exact ⟨_, rfl, .inr rfl⟩) : Wf l n J L gd := h
theorem stS {P : Program} {l : List Oper} {n : NF} {J : Nat → Value} {L : List (Nat × Value)} {w : World} {pd : List (Nat × Value)} (h : Still P l pd (env n J L) w := by repeat (first | exact st0 | refine st1 rfl opv ?_)) : Still P l pd (env n J L) w := h
theorem pu {A B : Prop} (k : B) (h : Kp B → A := by
  intro k
  repeat (first | with_reducible refine rg ?_ | ((with_reducible apply pv); (exact opv)) | ((with_reducible apply gT); (exact rfl); (exact rfl); (first | assumption | exact rfl)) | ((with_reducible apply gF); (exact rfl); (exact rfl); (first | assumption | exact rfl)) | ((with_reducible apply gU); (exact rfl); (exact rfl)) | ((with_reducible apply s0a); (exact rfl); (exact rfl); (exact gwS); (intro _; exact opv)) | ((with_reducible apply sUa); (exact rfl); (exact gUS)) | ((with_reducible apply s1a); (exact rfl); (exact rfl); (exact gwS); (exact opv)) | ((with_reducible apply And.intro); (exact stS)) | ((with_reducible apply qv); (intro _ _; exact opq)) | ((with_reducible apply qgT); (exact rfl); (exact rfl); (first | assumption | exact rfl)) | ((with_reducible apply qgF); (exact rfl); (exact rfl); (first | assumption | exact rfl)) | ((with_reducible apply qgU); (exact rfl); (exact rfl)) | ((with_reducible apply t0a); (exact rfl); (exact rfl); (exact rfl); (exact gwS); (intro _; exact opv)) | ((with_reducible apply tUa); (exact rfl); (exact rfl); (exact gUS); (kernel_rfl)) | ((with_reducible apply t1a); (exact rfl); (exact rfl); (exact rfl); (exact gwS); (exact opv)))
  exact k.out) : A := h ⟨k⟩
theorem pn {A B : Prop} (k : B) (h : Kp B → A := by
  intro k
  repeat (first | with_reducible refine rg ?_ | ((with_reducible apply pv); (exact opv)) | ((with_reducible apply gT); (exact rfl); (exact rfl); (first | assumption | exact rfl)) | ((with_reducible apply gF); (exact rfl); (exact rfl); (first | assumption | exact rfl)) | ((with_reducible apply gU); (exact rfl); (exact rfl)) | ((with_reducible apply s0a); (exact rfl); (exact rfl); (exact gwS); (intro _; exact opv)) | ((with_reducible apply sUa); (exact rfl); (exact gUS)) | ((with_reducible apply s1a); (exact rfl); (exact rfl); (exact gwS); (exact opv)) | ((with_reducible apply And.intro); (exact stS)) | ((with_reducible apply qv); (intro _ _; exact opq)) | ((with_reducible apply qgT); (exact rfl); (exact rfl); (first | assumption | exact rfl)) | ((with_reducible apply qgF); (exact rfl); (exact rfl); (first | assumption | exact rfl)) | ((with_reducible apply qgU); (exact rfl); (exact rfl)) | ((with_reducible apply t0a); (exact rfl); (exact rfl); (exact rfl); (exact gwS); (intro _; exact opv)) | ((with_reducible apply tUa); (exact rfl); (exact rfl); (exact gUS); (kernel_rfl)) | ((with_reducible apply t1a); (exact rfl); (exact rfl); (exact rfl); (exact gwS); (exact opv)) | with_reducible refine nil ?_ | with_reducible refine t_then ?_ | with_reducible refine t_blk ?_ | with_reducible refine se ?_ | with_reducible refine te ?_ | with_reducible refine qn ?_ | with_reducible refine skp ?_ | with_reducible refine xt ?_ | with_reducible refine x_then ?_ | with_reducible refine x_eq ?_ | with_reducible refine x_ne (by decide) ?_ | with_reducible refine rtn ?_ | with_reducible refine r_then ?_ | with_reducible refine r_blk ?_)
  exact k.out) : A := h ⟨k⟩
theorem cd {A B1 B2 : Prop} {α : Type} {b : Bool} {X Y Z : α} (hm : (bif b then X else Y) = Z) (h1 : B1) (h2 : B2) (h : (bif b then X else Y) = Z → Kp B1 → Kp B2 → A := by
  intro hm k1 k2
  refine pn ?_
  exact cndH rfl hm k1.out k2.out) : A := h hm ⟨h1⟩ ⟨h2⟩
theorem t1W {A B : Prop} (js R ks : List Nat) (k : B) (h : KN js → KN R → KN ks → Kp B → A := by
  intro a b c k
  refine pu ?_
  refine twK a rfl (wt_of rfl rfl gwS) rfl (by kernel_rfl) (by kernel_rfl) ⟨?_, trivial⟩
  refine brK b c rfl (by kernel_rfl) (by kernel_rfl) gwS (by kernel_rfl) ?_
  exact k.out) : A := h ⟨trivial⟩ ⟨trivial⟩ ⟨trivial⟩ ⟨k⟩
theorem tF {A B : Prop} (js : List Nat) (k : B) (h : KN js → Kp B → A := by
  intro a k
  refine pu ?_
  refine twK a rfl (wt_of rfl rfl gwS) rfl (by kernel_rfl) (by kernel_rfl) ?_
  exact k.out) : A := h ⟨trivial⟩ ⟨k⟩
theorem brW {A B : Prop} (R ks : List Nat) (k : B) (h : KN R → KN ks → Kp B → A := by
  intro b c k
  refine brK b c rfl (by kernel_rfl) (by kernel_rfl) gwS (by kernel_rfl) ?_
  exact k.out) : A := h ⟨trivial⟩ ⟨trivial⟩ ⟨k⟩
theorem s2W {A B : Prop} (ks : List Nat) (k : B) (h : KN ks → Kp B → A := by
  intro c k
  refine pu ?_
  refine s2K c rfl gwS rfl (by kernel_rfl) ?_
  exact k.out) : A := h ⟨trivial⟩ ⟨k⟩
theorem je {A F : Prop} {g : World} {T : Nat → Prop} {w : World} {G : List Assn} (hm : F) (S : Sep g T w G) (h : F → Kp (Sep g T w G) → A := by
  intro hm S
  refine pn ?_
  repeat' (first | with_reducible apply Exists.intro | with_reducible apply And.intro | exact hm | exact envS | exact S.out | exact ch | exact trivial | assumption | exact monoS (by assumption) ch | exact SlR_nil)) : A := h hm ⟨S⟩
theorem lg {A N : Prop} {α : Type} {x z : α} {g : World} {T : Nat → Prop} {w : World} {G : List Assn} (hm : some x = some z) (hn : N) (S : Sep g T w G) (h : some x = some z → N → Kp (Sep g T w G) → A := by
  intro hm hn S
  cases oI hm
  refine pn ?_
  refine ⟨_, Nat.lt_succ_self _, ?_⟩
  repeat' (first | with_reducible apply Exists.intro | with_reducible apply And.intro | exact hn | exact envS | exact S.out | exact ch | exact trivial | assumption | exact monoS (by assumption) ch | exact SlR_nil)) : A := h hm hn ⟨S⟩
theorem rvsS {n : NF} {J : Nat → Value} {L : List (Nat × Value)} {w : World} {rs : List ResultVar} {vs : List Value} (h : RVs Tryz.prog n J L w rs vs := by repeat (first | exact rv0 | (apply rvT; (exact rfl)) | (apply rvC; (exact rfl); (exact tyA); (exact Sep.bx (by assumption) atS)) | (apply rvG; (exact rfl); (exact tyA); (exact tyS); (exact Sep.bx (by assumption) atS); (exact rfl)))) : RVs Tryz.prog n J L w rs vs := h
theorem re {A : Prop} {α : Type} {x z : α} {g : World} {T : Nat → Prop} {w : World} {G : List Assn} (hm : some x = some z) (S : Sep g T w G) (h : some x = some z → Kp (Sep g T w G) → A := by
  intro hm S
  cases oI hm
  refine pn ?_
  first | refine ret1 rfl rfl ?_ | refine ret0 rfl ?_ | refine ret2 rfl rfl rfl ?_ | (apply retN; (exact rfl); (exact rvsS); (exact rfl))
  refine rsm S.out ch ?_
  repeat' (first | with_reducible apply Exists.intro | with_reducible apply And.intro | exact rfl | exact S.out.unb | exact trivial | assumption | exact monoS (by assumption) ch | exact SlR_nil)) : A := h hm ⟨S⟩
theorem sS {A B H1 H2 : Prop} (l : List (Nat × Value)) (a : H1) (b : H2) (k : B) (h : Kl l → H1 → H2 → Kp B → A := by
  intro l a b k
  refine pu ?_
  refine s2k l rfl gwS rfl (by kernel_rfl) ?_
  exact calS a rfl b rfl k.out) : A := h ⟨trivial⟩ a b ⟨k⟩
theorem sN {A B H1 H2 : Prop} (l : List (Nat × Value)) (a : H1) (b : H2) (k : B) (h : Kl l → H1 → H2 → Kp B → A := by
  intro l a b k
  refine pu ?_
  refine s2k l rfl gwS rfl (by kernel_rfl) ?_
  exact calN a rfl b rfl k.out) : A := h ⟨trivial⟩ a b ⟨k⟩
theorem osT {A B : Prop} (q : Nat) {g : World} {T : Nat → Prop} {w : World} {G : List Assn} (hS : Sep g T w G) (k : B) (h : Kq q → Sep g T w G → Kp B → A := by
  intro q hS k
  exact ost q hS tyS k.out) : A := h ⟨trivial⟩ hS ⟨k⟩
theorem osB {A B : Prop} (q j : Nat) {b o : Nat} {H : List Value → Assn} (hL : Ln b o H) {g : World} {T : Nat → Prop} {w : World} {G : List Assn} (hS : Sep g T w G) (k : B) (h : Kq q → Kq j → Ln b o H → Sep g T w G → Kp B → A := by
  intro q j hL hS k
  exact osb q j hL hS tyS k.out) : A := h ⟨trivial⟩ ⟨trivial⟩ hL hS ⟨k⟩
theorem oaL {A B : Prop} (zs : List Value) {g : World} {T : Nat → Prop} {w : World} {G : List Assn} (hS : Sep g T w G) (k : B) (h : Kv zs → Sep g T w G → Kp B → A := by
  intro zs hS k
  exact oal zs hS tyZ k.out) : A := h ⟨trivial⟩ hS ⟨k⟩
theorem obX {A B : Prop} (cs : List Value) {g : World} {T : Nat → Prop} {w : World} {G : List Assn} (hS : Sep g T w G) (k : B) (h : Kv cs → Sep g T w G → Kp B → A := by
  intro cs hS k
  exact obx cs hS k.out) : A := h ⟨trivial⟩ hS ⟨k⟩
theorem obS {A B : Prop} {g : World} {T : Nat → Prop} {w : World} {G : List Assn} {α : Type} {r : Rp α} {l : List α} {css : List (List Value)} (hS : Sep g T w G) (a : AllR r T w css l) (k : B) (h : Sep g T w G → AllR r T w css l → Kp B → A := by
  intro hS a k
  exact obs hS a tyU tyS tyZ k.out) : A := h hS a ⟨k⟩
theorem oS {A B H1 H2 : Prop} (a : H1) (b : H2) (k : B) (h : H1 → H2 → Kp B → A := by
  intro a b k
  exact calS a rfl b rfl k.out) : A := h a b ⟨k⟩
theorem oN {A B H1 H2 : Prop} (a : H1) (b : H2) (k : B) (h : H1 → H2 → Kp B → A := by
  intro a b k
  exact calN a rfl b rfl k.out) : A := h a b ⟨k⟩
theorem oP {A B H1 H2 : Prop} (a : H1) (b : H2) (k : B) (h : H1 → H2 → Kp B → A := by
  intro a b k
  exact calP a rfl b rfl k.out) : A := h a b ⟨k⟩
theorem sT {A B : Prop} (q : Nat) {g : World} {T : Nat → Prop} {w : World} {G : List Assn} (hS : Sep g T w G) (k : B) (h : Kq q → Sep g T w G → Kp B → A := by
  intro q hS k
  refine pu ?_
  exact wst q hS tyS k.out) : A := h ⟨trivial⟩ hS ⟨k⟩
theorem sB {A B : Prop} (q j : Nat) {b o : Nat} {H : List Value → Assn} (hL : Ln b o H) {g : World} {T : Nat → Prop} {w : World} {G : List Assn} (hS : Sep g T w G) (k : B) (h : Kq q → Kq j → Ln b o H → Sep g T w G → Kp B → A := by
  intro q j hL hS k
  refine pu ?_
  exact wsb q j hL hS tyS k.out) : A := h ⟨trivial⟩ ⟨trivial⟩ hL hS ⟨k⟩
theorem aL {A B : Prop} (zs : List Value) {g : World} {T : Nat → Prop} {w : World} {G : List Assn} (hS : Sep g T w G) (k : B) (h : Kv zs → Sep g T w G → Kp B → A := by
  intro zs hS k
  refine pu ?_
  exact wal zs hS tyZ k.out) : A := h ⟨trivial⟩ hS ⟨k⟩
theorem bX {A B : Prop} (cs : List Value) {g : World} {T : Nat → Prop} {w : World} {G : List Assn} (hS : Sep g T w G) (k : B) (h : Kv cs → Sep g T w G → Kp B → A := by
  intro cs hS k
  refine pu ?_
  exact wbx cs hS k.out) : A := h ⟨trivial⟩ hS ⟨k⟩
theorem bS {A B : Prop} {g : World} {T : Nat → Prop} {w : World} {G : List Assn} {α : Type} {r : Rp α} {l : List α} {css : List (List Value)} (hS : Sep g T w G) (a : AllR r T w css l) (k : B) (h : Sep g T w G → AllR r T w css l → Kp B → A := by
  intro hS a k
  refine pu ?_
  exact wbs hS a tyU tyS tyZ k.out) : A := h hS a ⟨k⟩
theorem tyE {e z : Nat} (h : ElemOk Tryz.prog e z := by first | exact el30 | exact el5 | exact el303 | exact el63 | exact el62 | exact el3) : ElemOk Tryz.prog e z := h
theorem oaO {A B : Prop} (q : Nat) {g : World} {T : Nat → Prop} {w : World} {G : List Assn} {m : Nat} (hS : Sep g T w G) (a : m ≤ 8589934592) (k : B) (h : Kq q → Sep g T w G → m ≤ 8589934592 → Kp B → A := by
  intro q hS a k
  exact oao q hS slvS tyU tyE a k.out) : A := h ⟨trivial⟩ hS a ⟨k⟩
theorem aO {A B : Prop} (q : Nat) {g : World} {T : Nat → Prop} {w : World} {G : List Assn} {m : Nat} (hS : Sep g T w G) (a : m ≤ 8589934592) (k : B) (h : Kq q → Sep g T w G → m ≤ 8589934592 → Kp B → A := by
  intro q hS a k
  refine pu ?_
  exact wao q hS slvS tyU tyE a k.out) : A := h ⟨trivial⟩ hS a ⟨k⟩
theorem cS {A B H1 H2 : Prop} (a : H1) (b : H2) (k : B) (h : H1 → H2 → Kp B → A := by
  intro a b k
  refine pu ?_
  exact wcS a b k.out) : A := h a b ⟨k⟩
theorem cN {A B H1 H2 : Prop} (a : H1) (b : H2) (k : B) (h : H1 → H2 → Kp B → A := by
  intro a b k
  refine pu ?_
  exact wcN a b k.out) : A := h a b ⟨k⟩
theorem cB {A B H1 H2 H3 : Prop} (a : H1) (hm : H2) (c : H3) (k : B) (h : H1 → H2 → H3 → Kp B → A := by
  intro a hm c k
  refine pu ?_
  exact wcB a hm c k.out) : A := h a hm c ⟨k⟩
theorem cBN {A B H1 H2 H3 : Prop} (a : H1) (hm : H2) (c : H3) (k : B) (h : H1 → H2 → H3 → Kp B → A := by
  intro a hm c k
  refine pu ?_
  exact wcBN a hm c k.out) : A := h a hm c ⟨k⟩
theorem cP {A B B2 H1 H2 H3 : Prop} (a : H1) (hm : H2) (c : H3) (k : B) (k2 : B2) (h : H1 → H2 → H3 → Kp B → Kp B2 → A := by
  intro a hm c k k2
  refine pu ?_
  exact wcP a hm c k.out k2.out) : A := h a hm c ⟨k⟩ ⟨k2⟩
theorem cPN {A B B2 H1 H2 H3 : Prop} (a : H1) (hm : H2) (c : H3) (k : B) (k2 : B2) (h : H1 → H2 → H3 → Kp B → Kp B2 → A := by
  intro a hm c k k2
  refine pu ?_
  exact wcPN a hm c k.out k2.out) : A := h a hm c ⟨k⟩ ⟨k2⟩
theorem pe {A : Prop} {α : Type} {x z : α} {g : World} {T : Nat → Prop} {w : World} {G : List Assn} (hm : some x = some z) (S : Sep g T w G) (h : some x = some z → Kp (Sep g T w G) → A := by
  intro hm S
  cases oI hm
  refine pn ?_
  repeat (first | with_reducible refine p_then ?_ | with_reducible refine p_blk ?_)
  first | refine panED ?_ | refine panE ?_ | refine endO rfl ?_ | refine endR rfl ?_
  refine psm S.out ch ?_
  repeat' (first | with_reducible apply Exists.intro | with_reducible apply And.intro | exact rfl | exact S.out.unb | exact trivial | assumption | exact monoS (by assumption) ch | exact SlR_nil)) : A := h hm ⟨S⟩
theorem eo {A : Prop} {α : Type} {x z : α} {g : World} {T : Nat → Prop} {w : World} {G : List Assn} (hm : some x = some z) (S : Sep g T w G) (h : some x = some z → Kp (Sep g T w G) → A := by
  intro hm S
  cases oI hm
  refine pn ?_
  repeat (first | with_reducible refine p_then ?_ | with_reducible refine p_blk ?_)
  first | refine endO rfl ?_ | refine endR rfl ?_
  refine eoR (resN rfl rvsS rfl) ?_
  refine rsm S.out ch ?_
  repeat' (first | with_reducible apply Exists.intro | with_reducible apply And.intro | exact rfl | exact S.out.unb | exact trivial | assumption | exact monoS (by assumption) ch | exact SlR_nil)) : A := h hm ⟨S⟩
theorem rqS {l : List Oper} {Q : Exit → Act → World → Prop} {T : Nat → Prop} {w : World} {G : List Assn} {a : Act} {id : Nat} (hS : Sep g T w G) (h : wpQuiet Tryz.prog l.toArray (QC T w) (fun a1 => ∀ w1 T1, Im T w T1 w1 → Sep g T1 w1 G → Q .normal a1 w1) l a) (hB : Region.lexB .any l.toArray = true := by kernel_rfl) : (Code.region id l.toArray true).wp Tryz.prog Q a w :=
  rq mix hB hS.lt (quiet_mono (fun a1 h w1 T1 i => h w1 T1 i.imm (hS.keep i fun _ h => h)) h)
theorem rsS {l : List Oper} {Q : Exit → Act → World → Prop} {g : World} {T : Nat → Prop} {w : World} {G : List Assn} {n : NF} {J : Nat → Value} {L : List (Nat × Value)} {id : Nat} (fl ord : List Nat) (hS : Sep g T w G) (k : ∀ w1, Im T w T w1 → Sep g T w1 G → wpSer Tryz.prog l fl (NoPanic Q) [] ord (env n J L) w1) (hB : serB l fl ord = true := by kernel_rfl) : (Code.region id l.toArray true).wp Tryz.prog Q (env n J L) w :=
  rs fl ord mix hB hS.lt fun w1 i => k w1 i.imm (hS.keep i fun _ h => h)
theorem rtS {l : List Oper} {Q : Exit → Act → World → Prop} {g : World} {T : Nat → Prop} {w : World} {G : List Assn} {n : NF} {J : Nat → Value} {L : List (Nat × Value)} {id : Nat} (fl ord : List Nat) (hS : Sep g T w G) (k : ∀ w1, Im T w T w1 → Sep g T w1 G → wpTr Tryz.prog l fl (NoPanic Q) ord.length [] ord (env n J L) w1) (hB : trB l fl ord = true := by kernel_rfl) : (Code.region id l.toArray true).wp Tryz.prog Q (env n J L) w :=
  rt fl ord mix hB hS.lt fun w1 i => k w1 i.imm (hS.keep i fun _ h => h)
abbrev cInstShape (x : InstShape)  : List Value := [.string ⟨x.name.toArray⟩, .int .u8 x.form, .int .u32 x.code, .int .u32 x.third, .int .u32 x.seventh]
abbrev cGInst (x : GInst)  : List Value := [.int .i64 x.Op, .int .i64 x.Rd, .int .i64 x.Rs1, .int .i64 x.Rs2, .int .i64 x.Imm]
abbrev cGPlay (x : GPlay) (a3 : Option Addr) (c3 : Nat) : List Value := [.int .i64 x.State, .int .u32 x.Exit, .int .i64 x.Steps, .slice a3 (List.length x.Log) c3, .int .i64 x.Fails]
abbrev iv (x : Int) : Value := .int .i64 x
abbrev sv {α : Type} (a : Option Addr) (l : List α) (c : Nat) : Value := .slice a (List.length l) c
abbrev pt (b o : Nat) : Value := .pointer (some ⟨b, o, none⟩)
abbrev OA := Option Addr
abbrev JV := Nat → Value
abbrev TP := Nat → Prop
abbrev zv1 : List Value := [.string ⟨([] : List UInt8).toArray⟩, .int .u8 0, .int .u32 0, .int .u32 0, .int .u32 0]
abbrev zv2 : List Value := [iv 0, .int .u32 0, iv 0, .slice none 0 0, iv 0]

theorem inst_table_sim  (hS : Sep g T0 w0 [starL R])  : ∀ r, inst_table = some r →
    Calls Tryz.prog 258 #[] w0 (RetS T0 w0 fun T w v => v = .agg (segF enInstShape' r).toArray ∧ Sep g T w (R ++ []) ∧ True) := by
  intro r hm
  refine enter Tryz.func258 rfl Tryz.ntmps258 rfl fun J => ?_
  unfold inst_table at hm
  refine sq2 (pu ?_)
  refine wl rfl (alS (zs := (List.map enInstShape' (List.replicate 46 (⟨([] : List UInt8), 0, 0, 0, 0⟩ : InstShape))).flatten ++ []) zeroValue394 (by kernel_rfl) hS fun w1 b1 im1 hS1 => ?_)
  refine pn ?_
  refine sq2 (pu ?_)
  refine pv (r_bd (by kernel_rfl) rfl (u := .agg #[.string ⟨([] : List UInt8).toArray⟩, .int .u8 0, .int .u32 0, .int .u32 0, .int .u32 0])) (pv (r_bd (by kernel_rfl) rfl (u := .agg #[.string ⟨([108, 117, 105] : List UInt8).toArray⟩, .int .u8 85, .int .u32 55, .int .u32 0, .int .u32 0])) (pv (r_bd (by kernel_rfl) rfl (u := .agg #[.string ⟨([97, 117, 105, 112, 99] : List UInt8).toArray⟩, .int .u8 85, .int .u32 23, .int .u32 0, .int .u32 0])) (pv (r_bd (by kernel_rfl) rfl (u := .agg #[.string ⟨([106, 97, 108] : List UInt8).toArray⟩, .int .u8 74, .int .u32 111, .int .u32 0, .int .u32 0])) (pv (r_bd (by kernel_rfl) rfl (u := .agg #[.string ⟨([106, 97, 108, 114] : List UInt8).toArray⟩, .int .u8 73, .int .u32 103, .int .u32 0, .int .u32 0])) (pv (r_bd (by kernel_rfl) rfl (u := .agg #[.string ⟨([98, 101, 113] : List UInt8).toArray⟩, .int .u8 66, .int .u32 99, .int .u32 0, .int .u32 0])) (pv (r_bd (by kernel_rfl) rfl (u := .agg #[.string ⟨([98, 110, 101] : List UInt8).toArray⟩, .int .u8 66, .int .u32 99, .int .u32 1, .int .u32 0])) (pv (r_bd (by kernel_rfl) rfl (u := .agg #[.string ⟨([98, 108, 116] : List UInt8).toArray⟩, .int .u8 66, .int .u32 99, .int .u32 4, .int .u32 0])) (pv (r_bd (by kernel_rfl) rfl (u := .agg #[.string ⟨([98, 103, 101] : List UInt8).toArray⟩, .int .u8 66, .int .u32 99, .int .u32 5, .int .u32 0])) (pv (r_bd (by kernel_rfl) rfl (u := .agg #[.string ⟨([98, 108, 116, 117] : List UInt8).toArray⟩, .int .u8 66, .int .u32 99, .int .u32 6, .int .u32 0])) (pv (r_bd (by kernel_rfl) rfl (u := .agg #[.string ⟨([98, 103, 101, 117] : List UInt8).toArray⟩, .int .u8 66, .int .u32 99, .int .u32 7, .int .u32 0])) (pv (r_bd (by kernel_rfl) rfl (u := .agg #[.string ⟨([108, 98] : List UInt8).toArray⟩, .int .u8 73, .int .u32 3, .int .u32 0, .int .u32 0])) (pv (r_bd (by kernel_rfl) rfl (u := .agg #[.string ⟨([108, 104] : List UInt8).toArray⟩, .int .u8 73, .int .u32 3, .int .u32 1, .int .u32 0])) (pv (r_bd (by kernel_rfl) rfl (u := .agg #[.string ⟨([108, 119] : List UInt8).toArray⟩, .int .u8 73, .int .u32 3, .int .u32 2, .int .u32 0])) (pv (r_bd (by kernel_rfl) rfl (u := .agg #[.string ⟨([108, 98, 117] : List UInt8).toArray⟩, .int .u8 73, .int .u32 3, .int .u32 4, .int .u32 0])) (pv (r_bd (by kernel_rfl) rfl (u := .agg #[.string ⟨([108, 104, 117] : List UInt8).toArray⟩, .int .u8 73, .int .u32 3, .int .u32 5, .int .u32 0])) (pv (r_bd (by kernel_rfl) rfl (u := .agg #[.string ⟨([115, 98] : List UInt8).toArray⟩, .int .u8 83, .int .u32 35, .int .u32 0, .int .u32 0])) (pv (r_bd (by kernel_rfl) rfl (u := .agg #[.string ⟨([115, 104] : List UInt8).toArray⟩, .int .u8 83, .int .u32 35, .int .u32 1, .int .u32 0])) (pv (r_bd (by kernel_rfl) rfl (u := .agg #[.string ⟨([115, 119] : List UInt8).toArray⟩, .int .u8 83, .int .u32 35, .int .u32 2, .int .u32 0])) (pv (r_bd (by kernel_rfl) rfl (u := .agg #[.string ⟨([97, 100, 100, 105] : List UInt8).toArray⟩, .int .u8 73, .int .u32 19, .int .u32 0, .int .u32 0])) (pv (r_bd (by kernel_rfl) rfl (u := .agg #[.string ⟨([115, 108, 116, 105] : List UInt8).toArray⟩, .int .u8 73, .int .u32 19, .int .u32 2, .int .u32 0])) (pv (r_bd (by kernel_rfl) rfl (u := .agg #[.string ⟨([115, 108, 116, 105, 117] : List UInt8).toArray⟩, .int .u8 73, .int .u32 19, .int .u32 3, .int .u32 0])) (pv (r_bd (by kernel_rfl) rfl (u := .agg #[.string ⟨([120, 111, 114, 105] : List UInt8).toArray⟩, .int .u8 73, .int .u32 19, .int .u32 4, .int .u32 0])) (pv (r_bd (by kernel_rfl) rfl (u := .agg #[.string ⟨([111, 114, 105] : List UInt8).toArray⟩, .int .u8 73, .int .u32 19, .int .u32 6, .int .u32 0])) (pv (r_bd (by kernel_rfl) rfl (u := .agg #[.string ⟨([97, 110, 100, 105] : List UInt8).toArray⟩, .int .u8 73, .int .u32 19, .int .u32 7, .int .u32 0])) (pv (r_bd (by kernel_rfl) rfl (u := .agg #[.string ⟨([115, 108, 108, 105] : List UInt8).toArray⟩, .int .u8 72, .int .u32 19, .int .u32 1, .int .u32 0])) (pv (r_bd (by kernel_rfl) rfl (u := .agg #[.string ⟨([115, 114, 108, 105] : List UInt8).toArray⟩, .int .u8 72, .int .u32 19, .int .u32 5, .int .u32 0])) (pv (r_bd (by kernel_rfl) rfl (u := .agg #[.string ⟨([115, 114, 97, 105] : List UInt8).toArray⟩, .int .u8 72, .int .u32 19, .int .u32 5, .int .u32 32])) (pv (r_bd (by kernel_rfl) rfl (u := .agg #[.string ⟨([97, 100, 100] : List UInt8).toArray⟩, .int .u8 82, .int .u32 51, .int .u32 0, .int .u32 0])) (pv (r_bd (by kernel_rfl) rfl (u := .agg #[.string ⟨([115, 117, 98] : List UInt8).toArray⟩, .int .u8 82, .int .u32 51, .int .u32 0, .int .u32 32])) (pv (r_bd (by kernel_rfl) rfl (u := .agg #[.string ⟨([115, 108, 108] : List UInt8).toArray⟩, .int .u8 82, .int .u32 51, .int .u32 1, .int .u32 0])) (pv (r_bd (by kernel_rfl) rfl (u := .agg #[.string ⟨([115, 108, 116] : List UInt8).toArray⟩, .int .u8 82, .int .u32 51, .int .u32 2, .int .u32 0])) (pv (r_bd (by kernel_rfl) rfl (u := .agg #[.string ⟨([115, 108, 116, 117] : List UInt8).toArray⟩, .int .u8 82, .int .u32 51, .int .u32 3, .int .u32 0])) (pv (r_bd (by kernel_rfl) rfl (u := .agg #[.string ⟨([120, 111, 114] : List UInt8).toArray⟩, .int .u8 82, .int .u32 51, .int .u32 4, .int .u32 0])) (pv (r_bd (by kernel_rfl) rfl (u := .agg #[.string ⟨([115, 114, 108] : List UInt8).toArray⟩, .int .u8 82, .int .u32 51, .int .u32 5, .int .u32 0])) (pv (r_bd (by kernel_rfl) rfl (u := .agg #[.string ⟨([115, 114, 97] : List UInt8).toArray⟩, .int .u8 82, .int .u32 51, .int .u32 5, .int .u32 32])) (pv (r_bd (by kernel_rfl) rfl (u := .agg #[.string ⟨([111, 114] : List UInt8).toArray⟩, .int .u8 82, .int .u32 51, .int .u32 6, .int .u32 0])) (pv (r_bd (by kernel_rfl) rfl (u := .agg #[.string ⟨([97, 110, 100] : List UInt8).toArray⟩, .int .u8 82, .int .u32 51, .int .u32 7, .int .u32 0])) (pv (r_bd (by kernel_rfl) rfl (u := .agg #[.string ⟨([109, 117, 108] : List UInt8).toArray⟩, .int .u8 82, .int .u32 51, .int .u32 0, .int .u32 1])) (pv (r_bd (by kernel_rfl) rfl (u := .agg #[.string ⟨([109, 117, 108, 104] : List UInt8).toArray⟩, .int .u8 82, .int .u32 51, .int .u32 1, .int .u32 1])) (pv (r_bd (by kernel_rfl) rfl (u := .agg #[.string ⟨([109, 117, 108, 104, 115, 117] : List UInt8).toArray⟩, .int .u8 82, .int .u32 51, .int .u32 2, .int .u32 1])) (pv (r_bd (by kernel_rfl) rfl (u := .agg #[.string ⟨([109, 117, 108, 104, 117] : List UInt8).toArray⟩, .int .u8 82, .int .u32 51, .int .u32 3, .int .u32 1])) (pv (r_bd (by kernel_rfl) rfl (u := .agg #[.string ⟨([100, 105, 118] : List UInt8).toArray⟩, .int .u8 82, .int .u32 51, .int .u32 4, .int .u32 1])) (pv (r_bd (by kernel_rfl) rfl (u := .agg #[.string ⟨([100, 105, 118, 117] : List UInt8).toArray⟩, .int .u8 82, .int .u32 51, .int .u32 5, .int .u32 1])) (pv (r_bd (by kernel_rfl) rfl (u := .agg #[.string ⟨([114, 101, 109] : List UInt8).toArray⟩, .int .u8 82, .int .u32 51, .int .u32 6, .int .u32 1])) (pv (r_bd (by kernel_rfl) rfl (u := .agg #[.string ⟨([114, 101, 109, 117] : List UInt8).toArray⟩, .int .u8 82, .int .u32 51, .int .u32 7, .int .u32 1])) (pv (r_bd (cells := (segF enInstShape' tbl1).toArray) (by kernel_rfl) rfl) (wl rfl (stArr (q := 0) hS1 ⟨rfl, rfl⟩ (lnBox b1) rfl rfl enInstShape'_len (fun _ => rfl) rfl rfl rfl sizeOf394 fun w2 im2 hS2 => ?_))))))))))))))))))))))))))))))))))))))))))))))))
  refine nil (t_thenR [(0, pt b1 0)] ⟨rfl, trivial⟩ fun J => ?_)
  have hm := oI hm; subst hm
  refine pn ?_
  exact retN (vs := [.agg (segF enInstShape' tbl1).toArray]) rfl ⟨rvS rfl isAgg394 sizeOf394 (segF_k enInstShape'_len rfl rfl) (hS2.segBx (i := 0) ⟨rfl, rfl⟩), trivial⟩ rfl ⟨_, rfl, _, ch, ⟨rfl, (hS2.sel [1] rfl).unb, trivial⟩⟩

theorem inst_of_sim {p0} (hS : Sep g T0 w0 [starL R])  : ∀ r, inst_of p0 = some r →
    Calls Tryz.prog 162 #[iv p0] w0 (RetS T0 w0 fun T w v => v = .agg (cInstShape r).toArray ∧ Sep g T w (R ++ []) ∧ True) := by
  intro r hm
  refine enter Tryz.func162 rfl Tryz.ntmps162 rfl fun J => ?_
  unfold inst_of at hm
  refine sq2 (aL zv1 hS ?_)
  intro w1 b1 im1 hS1
  refine pn ?_
  refine sq2 (sq2 (pu ?_))
  rcases bc hm with ⟨hb1, hm⟩ | ⟨hb1, hm⟩
  · refine pn ?_
    refine cnd (b := true) rfl (fun _ => ?_) (fun h => nomatch h)
    refine sq2 (pu ?_)
    refine pv (r_bd (by kernel_rfl) rfl (u := .agg #[.string ⟨([] : List UInt8).toArray⟩, .int .u8 0, .int .u32 0, .int .u32 0, .int .u32 0])) (sT 0 hS1 ?_)
    intro w5 im5 hS5
    exact re hm (hS5.sel [1] rfl)
  refine cd hm ?_ ?_ <;> intro hb2 hm
  · refine sq2 (pu ?_)
    refine pv (r_bd (by kernel_rfl) rfl (u := .agg #[.string ⟨([] : List UInt8).toArray⟩, .int .u8 0, .int .u32 0, .int .u32 0, .int .u32 0])) (sT 0 hS1 ?_)
    intro w2 im2 hS2
    exact re hm (hS2.sel [1] rfl)
  refine pn ?_
  refine sq2 (pu ?_)
  refine cB cf258 hm (inst_table_sim (hS1.bun [0, 1] [] rfl)) ?_
  rintro y1 _ T1 w3 im3 ⟨rfl, hS3, _⟩ hm
  obtain ⟨z_1, hln1, hm⟩ := bindS hm
  obtain ⟨u1, hx2, hm⟩ := bindS hm
  refine pu ?_
  refine pv (r_axs (u := (cInstShape u1)) rfl rfl hx2 enInstShape'_len rfl (lenOk_some hln1) underlying394 sizeOf288 isAgg288) (sT 0 hS3 ?_)
  intro w4 im4 hS4
  exact re hm (hS4.sel [1] rfl)

theorem inst_bits_sim {p0 p1 p2} (hS : Sep g T0 w0 [starL R])  : ∀ r, inst_bits p0 p1 p2 = some r →
    Calls Tryz.prog 259 #[.int .u32 p0, iv p1, iv p2] w0 (RetS T0 w0 fun T w v => v = .int .u32 r ∧ Sep g T w (R ++ []) ∧ True) := by
  intro r hm
  refine enter Tryz.func259 rfl Tryz.ntmps259 rfl fun J => ?_
  unfold inst_bits at hm
  refine sq2 (pn ?_)
  refine sq2 ?_
  obtain ⟨_, hz1, hm⟩ := bindS hm
  have hz1 := nn_some hz1
  obtain ⟨_, hz2, hm⟩ := bindS hm
  have hz2 := nn_some hz2
  refine rqS hS (pu ?_)
  refine qv (fun _ hq => r_ishr rfl rfl hz1) (pu ?_)
  refine qv (fun _ hq => r_ishl rfl rfl hz2) (pn ?_)
  intro w1 T1 im1 hS1
  exact re hm (hS1.sel [0] rfl)

theorem inst_fits_sim {p0 : InstShape} {p1} (hS : Sep g T0 w0 [starL R])  : ∀ r, inst_fits p0 p1 = some r →
    Calls Tryz.prog 299 #[.agg (cInstShape p0).toArray, .int .u32 p1] w0 (RetS T0 w0 fun T w v => v = .bool r ∧ Sep g T w (R ++ []) ∧ True) := by
  intro r hm
  refine enter Tryz.func299 rfl Tryz.ntmps299 rfl fun J => ?_
  unfold inst_fits at hm
  refine sq2 (bX (cInstShape p0) hS ?_)
  intro w1 b1 im1 hS1
  refine pn ?_
  refine sq2 (blk (sq2 (cd hm ?_ ?_))) <;> intro hb1 hm
  · exact sq2 (re hm (hS1.sel [1] rfl))
  refine sq2 (pu ?_)
  rcases bc hm with ⟨hb2, hm⟩ | ⟨hb2, hm⟩
  · refine pn ?_
    refine cnd (b := true) rfl (fun _ => ?_) (fun h => nomatch h)
    exact sq2 (re hm (hS1.sel [1] rfl))
  refine cd hm ?_ ?_ <;> intro hb3 hm
  · exact sq2 (re hm (hS1.sel [1] rfl))
  refine sq2 (rsS [0, 2, 0, 1, 0, 0] [0, 2, 3, 1, 4, 5] hS1 fun w2 im2 hS2 => ?_)
  obtain ⟨y1, hx1, hm⟩ := bindS hm
  refine sS [(3, .int .u32 p0.third)] cf259 (inst_bits_sim (hS2.bun [0, 1] [] rfl) _ hx1) ?_
  rintro _ T1 w3 im3 ⟨rfl, hS3, _⟩
  refine cd hm ?_ ?_ <;> intro hb4 hm
  · refine sq2 (pu ?_)
    refine nil (t_thenR [(4, .bool false)] ⟨rfl, trivial⟩ fun J => ?_)
    exact re hm (hS3.sel [1] rfl)
  refine pn ?_
  refine sq2 (pu ?_)
  rcases bc hm with ⟨hb5, hm⟩ | ⟨hb5, hm⟩
  · refine pu ?_
    rcases bc hm with ⟨hb6, hm⟩ | ⟨hb6, hm⟩
    · refine pu ?_
      refine nil (t_thenR [(4, .bool true)] ⟨rfl, trivial⟩ fun J => ?_)
      exact re hm (hS3.sel [1] rfl)
    refine pu ?_
    refine nil (t_thenR [(4, .bool ((Int.fdiv p1 (2 ^ (min (Int.toNat 25) (IntKind.bits .u32)))) == p0.seventh))] ⟨rfl, trivial⟩ fun J => ?_)
    exact re hm (hS3.sel [1] rfl)
  refine pu ?_
  refine nil (t_thenR [(4, .bool ((Int.fdiv p1 (2 ^ (min (Int.toNat 25) (IntKind.bits .u32)))) == p0.seventh))] ⟨rfl, trivial⟩ fun J => ?_)
  exact re hm (hS3.sel [1] rfl)

theorem word_Sign_sim {p0 p1} (hS : Sep g T0 w0 [starL R])  : ∀ r, word_Sign p0 p1 = some r →
    Calls Tryz.prog 305 #[.int .u32 p0, iv p1] w0 (RetS T0 w0 fun T w v => v = .int .u32 r ∧ Sep g T w (R ++ []) ∧ True) := by
  intro r hm
  refine enter Tryz.func305 rfl Tryz.ntmps305 rfl fun J => ?_
  unfold word_Sign at hm
  refine sq2 (pn ?_)
  refine sq2 (sq2 (pu ?_))
  rcases bc hm with ⟨hb1, hm⟩ | ⟨hb1, hm⟩
  · refine pn ?_
    refine cnd (b := true) rfl (fun _ => ?_) (fun h => nomatch h)
    exact sq2 (re hm (hS.sel [0] rfl))
  refine cd hm ?_ ?_ <;> intro hb2 hm
  · exact sq2 (re hm (hS.sel [0] rfl))
  refine pn ?_
  refine sq2 (pn ?_)
  refine sq2 ?_
  obtain ⟨_, hz1, hm⟩ := bindS hm
  have hz1 := nn_some hz1
  obtain ⟨_, hz2, hm⟩ := bindS hm
  have hz2 := nn_some hz2
  refine pu ?_
  refine pv (r_ishl rfl rfl hz1) (pu ?_)
  exact pv (r_ishr rfl rfl hz2) (re hm (hS.sel [0] rfl))

theorem inst_told_sim {p0 p1} (hS : Sep g T0 w0 [starL R])  : ∀ r, inst_told p0 p1 = some r →
    Calls Tryz.prog 300 #[.int .u8 p0, .int .u32 p1] w0 (RetS T0 w0 fun T w v => v = iv r ∧ Sep g T w (R ++ []) ∧ True) := by
  intro r hm
  refine enter Tryz.func300 rfl Tryz.ntmps300 rfl fun J => ?_
  unfold inst_told at hm
  refine sq2 (pn ?_)
  refine sq2 (sq2 (pn ?_))
  refine blk (sq2 (cd hm ?_ ?_)) <;> intro hb1 hm
  · exact sq2 (re hm (hS.sel [0] rfl))
  refine sq2 (cd hm ?_ ?_) <;> intro hb2 hm
  · refine sq2 (pu ?_)
    refine cB cf259 hm (inst_bits_sim (hS.bun [0] [] rfl)) ?_
    rintro y1 _ T1 w1 im1 ⟨rfl, hS1, _⟩ hm
    refine pu ?_
    refine cB cf259 hm (inst_bits_sim (hS1.bun [0] [] rfl)) ?_
    rintro y2 _ T2 w2 im2 ⟨rfl, hS2, _⟩ hm
    refine pu ?_
    refine cB cf259 hm (inst_bits_sim (hS2.bun [0] [] rfl)) ?_
    rintro y3 _ T3 w3 im3 ⟨rfl, hS3, _⟩ hm
    refine pu ?_
    refine cB cf259 hm (inst_bits_sim (hS3.bun [0] [] rfl)) ?_
    rintro y4 _ T4 w4 im4 ⟨rfl, hS4, _⟩ hm
    refine pn ?_
    refine sq2 (pu ?_)
    refine cB cf305 hm (word_Sign_sim (hS4.bun [0] [] rfl)) ?_
    rintro y5 _ T5 w5 im5 ⟨rfl, hS5, _⟩ hm
    refine pu ?_
    refine nil (t_thenR [(4, iv (IntKind.wrap .i64 (IntKind.wrap .i32 y5)))] ⟨rfl, trivial⟩ fun J => ?_)
    exact re hm (hS5.sel [0] rfl)
  refine sq2 (cd hm ?_ ?_) <;> intro hb3 hm
  · exact sq2 (re hm (hS.sel [0] rfl))
  refine sq2 (cd hm ?_ ?_) <;> intro hb4 hm
  · refine sq2 (pu ?_)
    refine cB cf259 hm (inst_bits_sim (hS.bun [0] [] rfl)) ?_
    rintro y6 _ T6 w6 im6 ⟨rfl, hS6, _⟩ hm
    exact re hm (hS6.sel [0] rfl)
  refine sq2 (cd hm ?_ ?_) <;> intro hb5 hm
  · refine sq2 (pu ?_)
    refine cB cf259 hm (inst_bits_sim (hS.bun [0] [] rfl)) ?_
    rintro y7 _ T7 w7 im7 ⟨rfl, hS7, _⟩ hm
    refine pu ?_
    refine cB cf259 hm (inst_bits_sim (hS7.bun [0] [] rfl)) ?_
    rintro y8 _ T8 w8 im8 ⟨rfl, hS8, _⟩ hm
    refine pu ?_
    refine cB cf305 hm (word_Sign_sim (hS8.bun [0] [] rfl)) ?_
    rintro y9 _ T9 w9 im9 ⟨rfl, hS9, _⟩ hm
    exact re hm (hS9.sel [0] rfl)
  refine sq2 (cd hm ?_ ?_) <;> intro hb6 hm
  · refine sq2 (pu ?_)
    refine cB cf259 hm (inst_bits_sim (hS.bun [0] [] rfl)) ?_
    rintro y10 _ T10 w10 im10 ⟨rfl, hS10, _⟩ hm
    refine pu ?_
    refine cB cf259 hm (inst_bits_sim (hS10.bun [0] [] rfl)) ?_
    rintro y11 _ T11 w11 im11 ⟨rfl, hS11, _⟩ hm
    refine pu ?_
    refine cB cf259 hm (inst_bits_sim (hS11.bun [0] [] rfl)) ?_
    rintro y12 _ T12 w12 im12 ⟨rfl, hS12, _⟩ hm
    refine pu ?_
    refine cB cf259 hm (inst_bits_sim (hS12.bun [0] [] rfl)) ?_
    rintro y13 _ T13 w13 im13 ⟨rfl, hS13, _⟩ hm
    refine pu ?_
    refine nil (t_thenR [(6, .int .u32 (bits .or .u32 (bits .or .u32 (bits .or .u32 (IntKind.wrap .u32 (y10 * 2 ^ (min (Int.toNat 12) (IntKind.bits .u32)))) (IntKind.wrap .u32 (y11 * 2 ^ (min (Int.toNat 5) (IntKind.bits .u32))))) (IntKind.wrap .u32 (y12 * 2 ^ (min (Int.toNat 1) (IntKind.bits .u32))))) (IntKind.wrap .u32 (y13 * 2 ^ (min (Int.toNat 11) (IntKind.bits .u32))))))] ⟨rfl, trivial⟩ fun J => ?_)
    refine sq2 (pu ?_)
    refine cB cf305 hm (word_Sign_sim (hS13.bun [0] [] rfl)) ?_
    rintro y14 _ T14 w14 im14 ⟨rfl, hS14, _⟩ hm
    exact re hm (hS14.sel [0] rfl)
  refine pn ?_
  exact sq2 (re hm (hS.sel [0] rfl))

theorem inst_needs_sim {p0} (hS : Sep g T0 w0 [starL R])  : ∀ r, inst_needs p0 = some r →
    Calls Tryz.prog 253 #[.int .u8 p0] w0 (RetS T0 w0 fun T w v => v = .tuple #[.bool r.1, .bool r.2.1, .bool r.2.2.1, .bool r.2.2.2] ∧ Sep g T w (R ++ []) ∧ True) := by
  intro r hm
  refine enter Tryz.func253 rfl Tryz.ntmps253 rfl fun J => ?_
  unfold inst_needs at hm
  refine sq2 (pn ?_)
  refine sq2 (pn ?_)
  refine cutJ hm (fun kk1 a w1 => ∃ T1 x1 x2 x3 x4, JR (nf 22) g T0 w0 a w1 T1 (kk1 x1 x2 x3 x4 = some r) [(2, .bool x1), (3, .bool x2), (4, .bool x3), (5, .bool x4)] [starL R]) (fun kk1 hm => ?_) ?_
  · refine sq2 (pn ?_)
    refine blk (sq2 (blk (cutJ hm (fun kk2 a w2 => ∃ T2 x5 x6 x7, JR (nf 22) g T0 w0 a w2 T2 (kk2 x5 x6 x7 = some r) [(3, .bool x5), (4, .bool x6), (5, .bool x7)] [starL R]) (fun kk2 hm => ?_) ?_)))
    · refine blk (cutJ hm (fun kk3 a w3 => ∃ T3 x8 x9, JR (nf 22) g T0 w0 a w3 T3 (kk3 x8 x9 = some r) [(4, .bool x8), (5, .bool x9)] [starL R]) (fun kk3 hm => ?_) ?_)
      · refine blk (sq2 (blk (sq2 (sq2 (sq2 (cd hm ?_ ?_)))))) <;> intro hb1 hm
        · exact je hm (hS.sel [0] rfl)
        refine pn ?_
        refine sq2 (cutJ hm (fun kk4 a w4 => ∃ T4 x10, JR (nf 22) g T0 w0 a w4 T4 (kk4 x10 = some r) [(2, .bool false), (3, .bool false), (4, .bool false), (5, .bool true), (6, .int .u8 p0), (9, .bool x10)] [starL R]) (fun kk4 hm => ?_) ?_)
        · refine sq2 (cd hm ?_ ?_) <;> intro hb2 hm
          · exact je hm (hS.sel [0] rfl)
          exact je hm (hS.sel [0] rfl)
        rintro _ w4 ⟨T4, x10, J, hm, rfl, hS1, im4⟩
        refine cd hm ?_ ?_ <;> intro hb3 hm
        · exact je hm (hS1.sel [0] rfl)
        refine pn ?_
        refine sq2 (cutJ hm (fun kk5 a w5 => ∃ T5 x11, JR (nf 22) g T4 w4 a w5 T5 (kk5 x11 = some r) [(2, .bool false), (3, .bool false), (4, .bool false), (5, .bool true), (6, .int .u8 p0), (12, .bool x11)] [starL R]) (fun kk5 hm => ?_) ?_)
        · refine sq2 (cd hm ?_ ?_) <;> intro hb4 hm
          · exact je hm (hS1.sel [0] rfl)
          exact je hm (hS1.sel [0] rfl)
        rintro _ w5 ⟨T5, x11, J, hm, rfl, hS2, im5⟩
        refine cd hm ?_ ?_ <;> intro hb5 hm
        · exact je hm (hS2.sel [0] rfl)
        refine pn ?_
        refine cutJ hm (fun kk6 a w6 => ∃ T6 x12, JR (nf 22) g T5 w5 a w6 T6 (kk6 x12 = some r) [(2, .bool false), (3, .bool false), (4, .bool false), (5, .bool true), (15, .bool x12)] [starL R]) (fun kk6 hm => ?_) ?_
        · refine sq2 (cd hm ?_ ?_) <;> intro hb6 hm
          · exact je hm (hS2.sel [0] rfl)
          exact je hm (hS2.sel [0] rfl)
        rintro _ w6 ⟨T6, x12, J, hm, rfl, hS3, im6⟩
        refine cd hm ?_ ?_ <;> intro hb7 hm
        · refine pn ?_
          exact sq2 (je hm (hS3.sel [0] rfl))
        exact je hm (hS3.sel [0] rfl)
      rintro _ w3 ⟨T3, x8, x9, J, hm, rfl, hS4, im3⟩
      exact je hm (hS4.sel [0] rfl)
    rintro _ w2 ⟨T2, x5, x6, x7, J, hm, rfl, hS5, im2⟩
    exact sq2 (je hm (hS5.sel [0] rfl))
  rintro _ w1 ⟨T1, x1, x2, x3, x4, J, hm, rfl, hS6, im1⟩
  exact sq2 (re hm (hS6.sel [0] rfl))

theorem inst_Decode_sim {p0} (hS : Sep g T0 w0 [starL R])  : ∀ r, inst_Decode p0 = some r →
    Calls Tryz.prog 174 #[.int .u32 p0] w0 (RetS T0 w0 fun T w v => v = .tuple #[.agg (cGInst r.1).toArray, iv r.2] ∧ Sep g T w (R ++ []) ∧ True) := by
  intro r hm
  refine enter Tryz.func174 rfl Tryz.ntmps174 rfl fun J => ?_
  unfold inst_Decode at hm
  refine sq2 (aL [iv 0, iv 0, iv 0, iv 0, iv 0] hS ?_)
  intro w1 b1 im1 hS1
  refine pn ?_
  refine sq2 (pu ?_)
  refine cB cf258 hm (inst_table_sim (hS1.bun [0, 1] [] rfl)) ?_
  rintro y1 _ T1 w2 im2 ⟨rfl, hS2, _⟩ hm
  refine wl rfl (alS (zs := (List.map enInstShape' (List.replicate 46 (⟨([] : List UInt8), 0, 0, 0, 0⟩ : InstShape))).flatten ++ []) zeroValue394 (by kernel_rfl) hS2 fun w3 b2 im3 hS3 => ?_)
  obtain ⟨z_1, hln1, hm⟩ := bindS hm
  refine wl rfl (stArr (q := 0) hS3 ⟨rfl, rfl⟩ (lnBox b2) rfl rfl enInstShape'_len (fun _ => rfl) rfl (lenOk_some hln1) rfl sizeOf394 fun w4 im4 hS4 => ?_)
  refine pn ?_
  refine sq2 (sq2 (pn ?_))
  refine lpJ hm (fun bd1 o1 m a w5 => ∃ T2 x1, JR (nf 55) g T1 w4 a w5 T2 (loopM bd1 m x1 = some o1) [(0, .int .u32 p0), (2, pt b1 0), (4, pt b2 0), (5, iv x1)] [segH (boxA b2) enInstShape' y1 [], boxA b1 [iv 0, iv 0, iv 0, iv 0, iv 0], starL R]) (fun _ _ h => je h (hS4.sel [0, 1, 2] rfl)) ?_
  rintro bd1 hbd1 o1 hq1 _ _ w5 ⟨T2, x1, J, ho1, rfl, hS5, im5⟩
  obtain ⟨m1, z1, rfl, hm, hn1⟩ := lrE ho1 hbd1
  refine sq2 (sq2 (cd hm ?_ ?_)) <;> intro hb1 hm
  · refine pn ?_
    refine sq2 (blk (sq2 ?_))
    obtain ⟨u1, hx2, hm⟩ := bindS hm
    obtain ⟨of1, he1⟩ : ∃ z : Nat, z = (0 + 0) + (Int.toNat x1) * 5 := ⟨_, rfl⟩
    refine pu ?_
    refine pv (r_ixA rfl rfl (lenOk_some hln1) hx2 underlying394 sizeOf288 he1) (pv (r_ldS rfl isAgg288 sizeOf288 rfl ((Sep.segEl hS5 (q := 0) ⟨rfl, rfl⟩ (lnBox b2) enInstShape'_len hx2 he1).sub 0 rfl) (cs := (cInstShape u1))) (aL zv1 hS5 ?_))
    intro w6 b3 im6 hS6
    refine sT 0 hS6 ?_
    intro w7 im7 hS7
    refine pn ?_
    refine sq2 (sq2 (pu ?_))
    refine cB cf299 hm (inst_fits_sim (hS7.bun (nrow 0 4) [] rfl)) ?_
    rintro y2 _ T3 w8 im8 ⟨rfl, hS8, _⟩ hm
    refine cd hm ?_ ?_ <;> intro hb2 hm
    · exact lg hm hn1 (hS8.sel [1, 2, 3] rfl)
    refine pn ?_
    refine sq2 (pu ?_)
    refine cB cf300 hm (inst_told_sim (hS8.bun [0, 2, 3] [] rfl)) ?_
    rintro y3 _ T4 w9 im9 ⟨rfl, hS9, _⟩ hm
    refine pv (r_bd (by kernel_rfl) rfl (u := .agg #[iv x1, iv 0, iv 0, iv 0, iv y3])) (aL [iv 0, iv 0, iv 0, iv 0, iv 0] hS9 ?_)
    intro w10 b4 im10 hS10
    refine sT 0 hS10 ?_
    intro w11 im11 hS11
    refine pn ?_
    refine sq2 (pu ?_)
    refine cB cf253 hm (inst_needs_sim (hS11.bun [0, 2, 3] [] rfl)) ?_
    rintro y4 _ T5 w12 im12 ⟨rfl, hS12, _⟩ hm
    refine pu ?_
    refine nil (t_thenR [(0, .int .u32 p0), (2, pt b1 0), (7, pt b4 0), (8, .bool y4.1), (9, .bool y4.2.1), (10, .bool y4.2.2.1)] ⟨rfl, rfl, rfl, rfl, rfl, rfl, trivial⟩ fun J => ?_)
    refine cutJ hm (fun kk1 a w13 => ∃ (T6 : _) (x2 : GInst), JR (nf 55) g T5 w12 a w13 T6 (kk1 x2 = some z1) [(0, .int .u32 p0), (2, pt b1 0), (7, pt b4 0), (9, .bool y4.2.1), (10, .bool y4.2.2.1)] [boxA b4 (cGInst x2), boxA b1 [iv 0, iv 0, iv 0, iv 0, iv 0], starL R]) (fun kk1 hm => ?_) ?_
    · refine sq2 (cd hm ?_ ?_) <;> intro hb3 hm
      · refine pu ?_
        refine cB cf259 hm (inst_bits_sim (hS12.bun [0, 1, 2] [] rfl)) ?_
        rintro y5 _ T7 w14 im14 ⟨rfl, hS13, _⟩ hm
        refine sT 0 hS13 ?_
        intro w15 im15 hS14
        exact je hm (hS14.sel [0, 1, 2] rfl)
      exact je hm (hS12.sel [0, 1, 2] rfl)
    rintro _ w13 ⟨T6, x2, J, hm, rfl, hS15, im13⟩
    refine cutJ hm (fun kk2 a w16 => ∃ (T8 : _) (x3 : GInst), JR (nf 55) g T6 w13 a w16 T8 (kk2 x3 = some z1) [(0, .int .u32 p0), (2, pt b1 0), (7, pt b4 0), (10, .bool y4.2.2.1)] [boxA b4 (cGInst x3), boxA b1 [iv 0, iv 0, iv 0, iv 0, iv 0], starL R]) (fun kk2 hm => ?_) ?_
    · refine sq2 (cd hm ?_ ?_) <;> intro hb4 hm
      · refine pu ?_
        refine cB cf259 hm (inst_bits_sim (hS15.bun [0, 1, 2] [] rfl)) ?_
        rintro y6 _ T9 w17 im17 ⟨rfl, hS16, _⟩ hm
        refine sT 0 hS16 ?_
        intro w18 im18 hS17
        exact je hm (hS17.sel [0, 1, 2] rfl)
      exact je hm (hS15.sel [0, 1, 2] rfl)
    rintro _ w16 ⟨T8, x3, J, hm, rfl, hS18, im16⟩
    refine cutJ hm (fun kk3 a w19 => ∃ (T10 : _) (x4 : GInst), JR (nf 55) g T8 w16 a w19 T10 (kk3 x4 = some z1) [(2, pt b1 0), (7, pt b4 0)] [boxA b4 (cGInst x4), boxA b1 [iv 0, iv 0, iv 0, iv 0, iv 0], starL R]) (fun kk3 hm => ?_) ?_
    · refine sq2 (cd hm ?_ ?_) <;> intro hb5 hm
      · refine pu ?_
        refine cB cf259 hm (inst_bits_sim (hS18.bun [0, 1, 2] [] rfl)) ?_
        rintro y7 _ T11 w20 im20 ⟨rfl, hS19, _⟩ hm
        refine sT 0 hS19 ?_
        intro w21 im21 hS20
        exact je hm (hS20.sel [0, 1, 2] rfl)
      exact je hm (hS18.sel [0, 1, 2] rfl)
    rintro _ w19 ⟨T10, x4, J, hm, rfl, hS21, im19⟩
    refine sq2 (sT 1 hS21 ?_)
    intro w22 im22 hS22
    refine pn ?_
    have hm := retE hm hn1 hq1
    exact re hm (hS22.sel [2] rfl)
  have hm := brkE hm hn1 hq1
  refine pn ?_
  refine sq2 (pu ?_)
  refine pv (r_bd (by kernel_rfl) rfl (u := .agg #[iv 0, iv 0, iv 0, iv 0, iv 0])) (sT 1 hS5 ?_)
  intro w23 im23 hS23
  exact re hm (hS23.sel [2] rfl)

theorem play_each_sim {p0 p1} (hS : Sep g T0 w0 [starL R])  : ∀ r, play_each p0 p1 = some r →
    Calls Tryz.prog 15 #[iv p0, iv p1] w0 (RetS T0 w0 fun T w v => ∃ b3 b4, v = .func (.func 29) #[] #[pt b3 0, pt b4 0] ∧ Sep g T w (R ++ [boxA b3 [iv r.1], boxA b4 [iv r.2]]) ∧ True) := by
  intro r hm
  refine enter Tryz.func15 rfl Tryz.ntmps15 rfl fun J => ?_
  unfold play_each at hm
  refine sq2 (bX [iv p0] hS ?_)
  intro w1 b1 im1 hS1
  refine bX [iv p1] hS1 ?_
  intro w2 b2 im2 hS2
  refine pv (r_zx (v := .nilFunc) rfl) (pn ?_)
  refine sq2 (pu ?_)
  exact pv (r_mkf (u := .func (.func 29) #[] #[pt b1 0, pt b2 0]) rfl) (pv (r_zf rfl) (re hm (hS2.sel [2, 1, 0] rfl)))

theorem slices_Clone_sim {p0 : List Int} {a1 c1} (hS : Sep g T0 w0 [starL R]) (h1 : SlR (rInt .u32) T0 w0 (sv a1 p0 c1) p0) : ∀ r, slices_Clone p0 = some r →
    Calls Tryz.prog 68 #[sv a1 p0 c1] w0 (RetS T0 w0 fun T w v => ∃ a4 n3 c4, v = .slice a4 n3 c4 ∧ Sep g T w (R ++ [ownA (rInt .u32) 30 (.slice a4 n3 c4) r]) ∧ True) := by
  intro r hm
  refine enter Tryz.func68 rfl Tryz.ntmps68 rfl fun J => ?_
  unfold slices_Clone at hm
  refine sq2 (pn ?_)
  refine sq2 (sq2 (pu ?_))
  refine pv (r_sne rfl rfl rfl underlying22) (pn ?_)
  rcases SlR.nilOr h1 with ⟨hb1, hl0⟩ | hb1
  · subst hb1
    subst hl0
    have hm : some [] = some r := hm
    refine cnd (b := true) rfl (fun _ => ?_) (fun h => nomatch h)
    refine sq2 (pn ?_)
    have hS1 := hS.nilO (rInt .u32) 30
    exact re hm (hS1.sel [1, 0] rfl)
  refine cnd rfl (fun h => absurd (h.symm.trans hb1) (fun h => nomatch h)) (fun _ => ?_)
  refine pn ?_
  refine sq2 (pu ?_)
  refine wl rfl (bs0S (rInt .u32) hS underlying22 sizeOf30 fun w1 a2 n1 c2 im1 hS2 => ?_)
  obtain ⟨z_1, hro1, hm⟩ := bindS hm
  refine pu ?_
  refine wl rfl (apO (q := 0) (l := ([] : List Int)) (us := p0) hS2 ⟨rfl, rfl⟩ rfl rfl (h1.mono im1).v underlying22 el30 (room_some hro1) fun w2 a3 n2 c3 im2 hS3 => ?_)
  exact re hm (hS3.sel [1, 0] rfl)

theorem slices_Clone_2_sim {p0 : List Int} {a1 c1} (hS : Sep g T0 w0 [starL R]) (h1 : SlR (rInt .u8) T0 w0 (sv a1 p0 c1) p0) : ∀ r, slices_Clone_2 p0 = some r →
    Calls Tryz.prog 69 #[sv a1 p0 c1] w0 (RetS T0 w0 fun T w v => ∃ a4 n3 c4, v = .slice a4 n3 c4 ∧ Sep g T w (R ++ [ownA (rInt .u8) 5 (.slice a4 n3 c4) r]) ∧ True) := by
  intro r hm
  refine enter Tryz.func69 rfl Tryz.ntmps69 rfl fun J => ?_
  unfold slices_Clone_2 at hm
  refine sq2 (pn ?_)
  refine sq2 (sq2 (pu ?_))
  refine pv (r_sne rfl rfl rfl underlying23) (pn ?_)
  rcases SlR.nilOr h1 with ⟨hb1, hl0⟩ | hb1
  · subst hb1
    subst hl0
    have hm : some [] = some r := hm
    refine cnd (b := true) rfl (fun _ => ?_) (fun h => nomatch h)
    refine sq2 (pn ?_)
    have hS1 := hS.nilO (rInt .u8) 5
    exact re hm (hS1.sel [1, 0] rfl)
  refine cnd rfl (fun h => absurd (h.symm.trans hb1) (fun h => nomatch h)) (fun _ => ?_)
  refine pn ?_
  refine sq2 (pu ?_)
  refine wl rfl (bs0S (rInt .u8) hS underlying23 sizeOf5 fun w1 a2 n1 c2 im1 hS2 => ?_)
  obtain ⟨z_1, hro1, hm⟩ := bindS hm
  refine pu ?_
  refine wl rfl (apO (q := 0) (l := ([] : List Int)) (us := p0) hS2 ⟨rfl, rfl⟩ rfl rfl (h1.mono im1).v underlying23 el5 (room_some hro1) fun w2 a3 n2 c3 im2 hS3 => ?_)
  exact re hm (hS3.sel [1, 0] rfl)

theorem device_New_sim {p0 : List Int} {a1 c1} {p1 : List Int} {a2 c2} {p2 : List Int} {a3 c3} (hS : Sep g T0 w0 [starL R]) (h1 : SlR (rInt .u32) T0 w0 (sv a1 p0 c1) p0) (h2 : SlR (rInt .u8) T0 w0 (sv a2 p1 c2) p1) (h3 : SlR (rInt .u32) T0 w0 (sv a3 p2 c3) p2) : ∀ r, device_New p0 p1 p2 = some r →
    Calls Tryz.prog 38 #[sv a1 p0 c1, sv a2 p1 c2, sv a3 p2 c3] w0 (exR r (fun r => RetS T0 w0 fun T w v => v = .tuple #[.pointer none, iv r] ∧ Sep g T w (R ++ []) ∧ True) (fun r => RetS T0 w0 fun T w v => ∃ b2 a8 c8 a9 n5 c9 a10 n6 c10 a11 c11 a12 n7 c12, v = .tuple #[pt b2 0, iv r.2] ∧ Sep g T w (R ++ [segH (boxA b2) enI_u32' r.1.volatile.regs [.int .u32 r.1.volatile.pc, .int .u32 r.1.volatile.seq, .int .u32 r.1.volatile.index, sv a8 r.1.code c8, .slice a9 n5 c9, .slice a10 n6 c10, sv a11 r.1.inputs c11, .slice a12 n7 c12, iv r.1.steps, iv r.1.state, .int .u32 r.1.exit], ownA rDeviceMet 303 (.slice a9 n5 c9) r.1.met, ownA (rInt .u8) 5 (.slice a10 n6 c10) r.1.data, ownA rGRecord 63 (.slice a12 n7 c12) r.1.log]) ∧ SlR (rInt .u32) T w (sv a8 r.1.code c8) r.1.code ∧ SlR (rInt .u32) T w (sv a11 r.1.inputs c11) r.1.inputs ∧ True)) := by
  intro r hm
  refine enter Tryz.func38 rfl Tryz.ntmps38 rfl fun J => ?_
  unfold device_New at hm
  refine sq2 (pn ?_)
  refine sq2 (sq2 (pu ?_))
  refine fkC (d := 15) (c := ((decide ((List.length p0 : Int) < 1)) || (decide (32768 < (List.length p0 : Int))))) 4 [(0, sv a1 p0 c1), (1, sv a2 p1 c2), (2, sv a3 p2 c3)] rfl (fun hk => ?_) fun J => ?_
  · rcases Bool.eq_false_or_eq_true (decide ((List.length p0 : Int) < 1)) with hb1 | hb1
    · exact  gF3 (d0 := 11) rfl rfl (by rw [hb1]; rfl) (pv (r_pkt rfl hb1 rfl) (wlR (fun J => hk J _ (by rw [hb1]; rfl)) ⟨rfl, rfl, rfl, rfl, trivial⟩))
    exact  gT (d0 := 11) rfl rfl hb1 (pv (r_ms rfl) (gT (d0 := 11) rfl rfl hb1 (pv (r_ln rfl underlying22) (gT (d0 := 11) rfl rfl hb1 (pv (r_ib rfl rfl rfl) (pv (r_pkf rfl hb1 rfl) (wlR (fun J => hk J _ (by rw [hb1]; rfl)) ⟨rfl, rfl, rfl, rfl, trivial⟩)))))))
  refine pu ?_
  refine fkC (d := 20) (c := (((decide ((List.length p0 : Int) < 1)) || (decide (32768 < (List.length p0 : Int)))) || (decide ((List.length p1 : Int) < 4)))) 4 [(0, sv a1 p0 c1), (1, sv a2 p1 c2), (2, sv a3 p2 c3)] rfl (fun hk => ?_) fun J => ?_
  · rcases Bool.eq_false_or_eq_true ((decide ((List.length p0 : Int) < 1)) || (decide (32768 < (List.length p0 : Int)))) with hb2 | hb2
    · exact  gF3 (d0 := 16) rfl rfl (by rw [hb2]; rfl) (pv (r_pkt rfl hb2 rfl) (wlR (fun J => hk J _ (by rw [hb2]; rfl)) ⟨rfl, rfl, rfl, rfl, trivial⟩))
    exact  gT (d0 := 16) rfl rfl hb2 (pv (r_ms rfl) (gT (d0 := 16) rfl rfl hb2 (pv (r_ln rfl underlying23) (gT (d0 := 16) rfl rfl hb2 (pv (r_ib rfl rfl rfl) (pv (r_pkf rfl hb2 rfl) (wlR (fun J => hk J _ (by rw [hb2]; rfl)) ⟨rfl, rfl, rfl, rfl, trivial⟩)))))))
  refine pu ?_
  refine fkC (d := 25) (c := ((((decide ((List.length p0 : Int) < 1)) || (decide (32768 < (List.length p0 : Int)))) || (decide ((List.length p1 : Int) < 4))) || (decide (65536 < (List.length p1 : Int))))) 4 [(0, sv a1 p0 c1), (1, sv a2 p1 c2), (2, sv a3 p2 c3)] rfl (fun hk => ?_) fun J => ?_
  · rcases Bool.eq_false_or_eq_true (((decide ((List.length p0 : Int) < 1)) || (decide (32768 < (List.length p0 : Int)))) || (decide ((List.length p1 : Int) < 4))) with hb3 | hb3
    · exact  gF3 (d0 := 21) rfl rfl (by rw [hb3]; rfl) (pv (r_pkt rfl hb3 rfl) (wlR (fun J => hk J _ (by rw [hb3]; rfl)) ⟨rfl, rfl, rfl, rfl, trivial⟩))
    exact  gT (d0 := 21) rfl rfl hb3 (pv (r_ms rfl) (gT (d0 := 21) rfl rfl hb3 (pv (r_ln rfl underlying23) (gT (d0 := 21) rfl rfl hb3 (pv (r_ib rfl rfl rfl) (pv (r_pkf rfl hb3 rfl) (wlR (fun J => hk J _ (by rw [hb3]; rfl)) ⟨rfl, rfl, rfl, rfl, trivial⟩)))))))
  refine pu ?_
  refine fkN (d := 31) (c := (((((decide ((List.length p0 : Int) < 1)) || (decide (32768 < (List.length p0 : Int)))) || (decide ((List.length p1 : Int) < 4))) || (decide (65536 < (List.length p1 : Int)))) || ((Int.tmod (List.length p1 : Int) 4) != 0))) 5 [(0, sv a1 p0 c1), (1, sv a2 p1 c2), (2, sv a3 p2 c3)] rfl (fun hk => ?_) fun J => ?_
  · rcases Bool.eq_false_or_eq_true ((((decide ((List.length p0 : Int) < 1)) || (decide (32768 < (List.length p0 : Int)))) || (decide ((List.length p1 : Int) < 4))) || (decide (65536 < (List.length p1 : Int)))) with hb4 | hb4
    · exact  gF4 (d0 := 26) rfl rfl (by rw [hb4]; rfl) (pv (r_pkt rfl hb4 rfl) (wlR (fun J => hk J _ (by rw [hb4]; rfl)) ⟨rfl, rfl, rfl, rfl, trivial⟩))
    exact  gT (d0 := 26) rfl rfl hb4 (pv (r_ms rfl) (gT (d0 := 26) rfl rfl hb4 (pv (r_ln rfl underlying23) (gT (d0 := 26) rfl rfl hb4 (pv (r_irm rfl rfl (by decide)) (gT (d0 := 26) rfl rfl hb4 (pv (r_ib rfl rfl rfl) (pv (r_pkf rfl hb4 rfl) (wlR (fun J => hk J _ (by rw [hb4]; rfl)) ⟨rfl, rfl, rfl, rfl, trivial⟩)))))))))
  refine cd hm ?_ ?_ <;> intro hb5 hm
  · exact sq2 (re hm (hS.sel [0] rfl))
  refine pn ?_
  refine sq2 (rtS [0, 2, 0, 0, 2, 0, 2, 0, 2, 0, 2, 0, 0] [0, 2, 3, 5, 7, 1, 4, 6, 8, 9, 10, 11, 12] hS fun w1 im1 hS1 => ?_)
  obtain ⟨y1, hx1, hm⟩ := bindS hm
  obtain ⟨u1, hx2, hm⟩ := bindS hm
  obtain ⟨y2, hx3, hm⟩ := bindS hm
  obtain ⟨y3, hx4, hm⟩ := bindS hm
  refine tF [1, 4] ?_
  refine ⟨?_, ?_, trivial⟩
  · refine brW [4, 6, 8, 9, 10, 11, 12] [] ?_
    refine oS cf68 (slices_Clone_sim (hS1.bun [0] [] rfl) (h1.mono im1) _ hx1) ?_
    rintro _ T1 w2 im2 ⟨a4, n1, c4, rfl, hS2, _⟩
    refine tF [4, 6] ?_
    refine ⟨?_, ?_, trivial⟩
    · refine brW [6, 8, 9, 10, 11, 12] [] ?_
      refine msS (r := rDeviceMet) hS2 rfl rfl underlying101 el303 zeroValue303 (rDeviceMet_mk (x := (⟨false, false, (⟨0, 0, 0, 0, 0⟩ : GInst)⟩ : DeviceMet))  : rDeviceMet.rp _ _ _ _) hx2 fun w3 a5 n2 c5 im3 hS3 => ?_
      refine t1W [6] [8, 9, 10, 11, 12] [] ?_
      refine oS cf69 (slices_Clone_2_sim (hS3.bun [0, 1, 2] [] rfl) (h2.mono ch) _ hx3) ?_
      rintro _ T2 w4 im4 ⟨a6, n3, c6, rfl, hS4, _⟩
      refine t1W [8] [9, 10, 11, 12] [] ?_
      refine oS cf68 (slices_Clone_sim (hS4.bun (nrow 0 4) [] rfl) (h3.mono ch) _ hx4) ?_
      rintro _ T3 w5 im5 ⟨a7, n4, c7, rfl, hS5, _⟩
      refine pu ?_
      refine t0 rfl trivial (fun _ => r_bd (by kernel_rfl) rfl (u := .agg #[.int .u32 0, .int .u32 0, .int .u32 0, .int .u32 0, .int .u32 0, .int .u32 0, .int .u32 0, .int .u32 0, .int .u32 0, .int .u32 0, .int .u32 0, .int .u32 0, .int .u32 0, .int .u32 0, .int .u32 0, .int .u32 0, .int .u32 0, .int .u32 0, .int .u32 0, .int .u32 0, .int .u32 0, .int .u32 0, .int .u32 0, .int .u32 0, .int .u32 0, .int .u32 0, .int .u32 0, .int .u32 0, .int .u32 0, .int .u32 0, .int .u32 0, .int .u32 0, .int .u32 0, .int .u32 0, .int .u32 0, .slice a4 n1 c4, .slice a5 n2 c5, .slice a6 n3 c6, .slice a7 n4 c7, .slice none 0 0, iv 0, iv 0, .int .u32 0])) rfl (?_)
      refine t1W [10] [11, 12] [] ?_
      refine obX [.int .u32 0, .int .u32 0, .int .u32 0, .int .u32 0, .int .u32 0, .int .u32 0, .int .u32 0, .int .u32 0, .int .u32 0, .int .u32 0, .int .u32 0, .int .u32 0, .int .u32 0, .int .u32 0, .int .u32 0, .int .u32 0, .int .u32 0, .int .u32 0, .int .u32 0, .int .u32 0, .int .u32 0, .int .u32 0, .int .u32 0, .int .u32 0, .int .u32 0, .int .u32 0, .int .u32 0, .int .u32 0, .int .u32 0, .int .u32 0, .int .u32 0, .int .u32 0, .int .u32 0, .int .u32 0, .int .u32 0, .slice a4 n1 c4, .slice a5 n2 c5, .slice a6 n3 c6, .slice a7 n4 c7, .slice none 0 0, iv 0, iv 0, .int .u32 0] hS5 ?_
      intro w6 b1 im6 hS6
      refine pn ?_
      obtain ⟨T4, im7, hS7, h4, rfl⟩ := hS6.sl 3
      obtain ⟨T5, im8, hS8, h5, rfl⟩ := hS7.sl 5
      have hS9 := hS8.nilO rGRecord 63
      exact re hm (hS9.sel [3, 1, 2, 5, 0] rfl)
    refine brW [4, 8, 9, 10, 11, 12] [] ?_
    refine oS cf69 (slices_Clone_2_sim (hS2.bun [0, 1] [] rfl) (h2.mono ch) _ hx3) ?_
    rintro _ T2 w3 im3 ⟨a5, n2, c5, rfl, hS3, _⟩
    refine tF [4, 8] ?_
    refine ⟨?_, ?_, trivial⟩
    · refine brW [8, 9, 10, 11, 12] [] ?_
      refine msS (r := rDeviceMet) hS3 rfl rfl underlying101 el303 zeroValue303 (rDeviceMet_mk (x := (⟨false, false, (⟨0, 0, 0, 0, 0⟩ : GInst)⟩ : DeviceMet))  : rDeviceMet.rp _ _ _ _) hx2 fun w4 a6 n3 c6 im4 hS4 => ?_
      refine t1W [8] [9, 10, 11, 12] [] ?_
      refine oS cf68 (slices_Clone_sim (hS4.bun (nrow 0 4) [] rfl) (h3.mono ch) _ hx4) ?_
      rintro _ T3 w5 im5 ⟨a7, n4, c7, rfl, hS5, _⟩
      refine pu ?_
      refine t0 rfl trivial (fun _ => r_bd (by kernel_rfl) rfl (u := .agg #[.int .u32 0, .int .u32 0, .int .u32 0, .int .u32 0, .int .u32 0, .int .u32 0, .int .u32 0, .int .u32 0, .int .u32 0, .int .u32 0, .int .u32 0, .int .u32 0, .int .u32 0, .int .u32 0, .int .u32 0, .int .u32 0, .int .u32 0, .int .u32 0, .int .u32 0, .int .u32 0, .int .u32 0, .int .u32 0, .int .u32 0, .int .u32 0, .int .u32 0, .int .u32 0, .int .u32 0, .int .u32 0, .int .u32 0, .int .u32 0, .int .u32 0, .int .u32 0, .int .u32 0, .int .u32 0, .int .u32 0, .slice a4 n1 c4, .slice a6 n3 c6, .slice a5 n2 c5, .slice a7 n4 c7, .slice none 0 0, iv 0, iv 0, .int .u32 0])) rfl (?_)
      refine t1W [10] [11, 12] [] ?_
      refine obX [.int .u32 0, .int .u32 0, .int .u32 0, .int .u32 0, .int .u32 0, .int .u32 0, .int .u32 0, .int .u32 0, .int .u32 0, .int .u32 0, .int .u32 0, .int .u32 0, .int .u32 0, .int .u32 0, .int .u32 0, .int .u32 0, .int .u32 0, .int .u32 0, .int .u32 0, .int .u32 0, .int .u32 0, .int .u32 0, .int .u32 0, .int .u32 0, .int .u32 0, .int .u32 0, .int .u32 0, .int .u32 0, .int .u32 0, .int .u32 0, .int .u32 0, .int .u32 0, .int .u32 0, .int .u32 0, .int .u32 0, .slice a4 n1 c4, .slice a6 n3 c6, .slice a5 n2 c5, .slice a7 n4 c7, .slice none 0 0, iv 0, iv 0, .int .u32 0] hS5 ?_
      intro w6 b1 im6 hS6
      refine pn ?_
      obtain ⟨T4, im7, hS7, h4, rfl⟩ := hS6.sl 3
      obtain ⟨T5, im8, hS8, h5, rfl⟩ := hS7.sl 5
      have hS9 := hS8.nilO rGRecord 63
      exact re hm (hS9.sel [3, 1, 2, 5, 0] rfl)
    refine brW [4, 9, 10, 11, 12] [] ?_
    refine oS cf68 (slices_Clone_sim (hS3.bun [0, 1, 2] [] rfl) (h3.mono ch) _ hx4) ?_
    rintro _ T3 w4 im4 ⟨a6, n3, c6, rfl, hS4, _⟩
    refine t1W [4] [9, 10, 11, 12] [] ?_
    refine msS (r := rDeviceMet) hS4 rfl rfl underlying101 el303 zeroValue303 (rDeviceMet_mk (x := (⟨false, false, (⟨0, 0, 0, 0, 0⟩ : GInst)⟩ : DeviceMet))  : rDeviceMet.rp _ _ _ _) hx2 fun w5 a7 n4 c7 im5 hS5 => ?_
    refine pu ?_
    refine t0 rfl trivial (fun _ => r_bd (by kernel_rfl) rfl (u := .agg #[.int .u32 0, .int .u32 0, .int .u32 0, .int .u32 0, .int .u32 0, .int .u32 0, .int .u32 0, .int .u32 0, .int .u32 0, .int .u32 0, .int .u32 0, .int .u32 0, .int .u32 0, .int .u32 0, .int .u32 0, .int .u32 0, .int .u32 0, .int .u32 0, .int .u32 0, .int .u32 0, .int .u32 0, .int .u32 0, .int .u32 0, .int .u32 0, .int .u32 0, .int .u32 0, .int .u32 0, .int .u32 0, .int .u32 0, .int .u32 0, .int .u32 0, .int .u32 0, .int .u32 0, .int .u32 0, .int .u32 0, .slice a4 n1 c4, .slice a7 n4 c7, .slice a5 n2 c5, .slice a6 n3 c6, .slice none 0 0, iv 0, iv 0, .int .u32 0])) rfl (?_)
    refine t1W [10] [11, 12] [] ?_
    refine obX [.int .u32 0, .int .u32 0, .int .u32 0, .int .u32 0, .int .u32 0, .int .u32 0, .int .u32 0, .int .u32 0, .int .u32 0, .int .u32 0, .int .u32 0, .int .u32 0, .int .u32 0, .int .u32 0, .int .u32 0, .int .u32 0, .int .u32 0, .int .u32 0, .int .u32 0, .int .u32 0, .int .u32 0, .int .u32 0, .int .u32 0, .int .u32 0, .int .u32 0, .int .u32 0, .int .u32 0, .int .u32 0, .int .u32 0, .int .u32 0, .int .u32 0, .int .u32 0, .int .u32 0, .int .u32 0, .int .u32 0, .slice a4 n1 c4, .slice a7 n4 c7, .slice a5 n2 c5, .slice a6 n3 c6, .slice none 0 0, iv 0, iv 0, .int .u32 0] hS5 ?_
    intro w6 b1 im6 hS6
    refine pn ?_
    obtain ⟨T4, im7, hS7, h4, rfl⟩ := hS6.sl 3
    obtain ⟨T5, im8, hS8, h5, rfl⟩ := hS7.sl 5
    have hS9 := hS8.nilO rGRecord 63
    exact re hm (hS9.sel [3, 1, 2, 5, 0] rfl)
  refine brW [1, 6, 8, 9, 10, 11, 12] [] ?_
  refine msS (r := rDeviceMet) hS1 rfl rfl underlying101 el303 zeroValue303 (rDeviceMet_mk (x := (⟨false, false, (⟨0, 0, 0, 0, 0⟩ : GInst)⟩ : DeviceMet))  : rDeviceMet.rp _ _ _ _) hx2 fun w2 a4 n1 c4 im2 hS2 => ?_
  refine t1W [1] [6, 8, 9, 10, 11, 12] [] ?_
  refine oS cf68 (slices_Clone_sim (hS2.bun [0, 1] [] rfl) (h1.mono ch) _ hx1) ?_
  rintro _ T1 w3 im3 ⟨a5, n2, c5, rfl, hS3, _⟩
  refine t1W [6] [8, 9, 10, 11, 12] [] ?_
  refine oS cf69 (slices_Clone_2_sim (hS3.bun [0, 1, 2] [] rfl) (h2.mono ch) _ hx3) ?_
  rintro _ T2 w4 im4 ⟨a6, n3, c6, rfl, hS4, _⟩
  refine t1W [8] [9, 10, 11, 12] [] ?_
  refine oS cf68 (slices_Clone_sim (hS4.bun (nrow 0 4) [] rfl) (h3.mono ch) _ hx4) ?_
  rintro _ T3 w5 im5 ⟨a7, n4, c7, rfl, hS5, _⟩
  refine pu ?_
  refine t0 rfl trivial (fun _ => r_bd (by kernel_rfl) rfl (u := .agg #[.int .u32 0, .int .u32 0, .int .u32 0, .int .u32 0, .int .u32 0, .int .u32 0, .int .u32 0, .int .u32 0, .int .u32 0, .int .u32 0, .int .u32 0, .int .u32 0, .int .u32 0, .int .u32 0, .int .u32 0, .int .u32 0, .int .u32 0, .int .u32 0, .int .u32 0, .int .u32 0, .int .u32 0, .int .u32 0, .int .u32 0, .int .u32 0, .int .u32 0, .int .u32 0, .int .u32 0, .int .u32 0, .int .u32 0, .int .u32 0, .int .u32 0, .int .u32 0, .int .u32 0, .int .u32 0, .int .u32 0, .slice a5 n2 c5, .slice a4 n1 c4, .slice a6 n3 c6, .slice a7 n4 c7, .slice none 0 0, iv 0, iv 0, .int .u32 0])) rfl (?_)
  refine t1W [10] [11, 12] [] ?_
  refine obX [.int .u32 0, .int .u32 0, .int .u32 0, .int .u32 0, .int .u32 0, .int .u32 0, .int .u32 0, .int .u32 0, .int .u32 0, .int .u32 0, .int .u32 0, .int .u32 0, .int .u32 0, .int .u32 0, .int .u32 0, .int .u32 0, .int .u32 0, .int .u32 0, .int .u32 0, .int .u32 0, .int .u32 0, .int .u32 0, .int .u32 0, .int .u32 0, .int .u32 0, .int .u32 0, .int .u32 0, .int .u32 0, .int .u32 0, .int .u32 0, .int .u32 0, .int .u32 0, .int .u32 0, .int .u32 0, .int .u32 0, .slice a5 n2 c5, .slice a4 n1 c4, .slice a6 n3 c6, .slice a7 n4 c7, .slice none 0 0, iv 0, iv 0, .int .u32 0] hS5 ?_
  intro w6 b1 im6 hS6
  refine pn ?_
  obtain ⟨T4, im7, hS7, h4, rfl⟩ := hS6.sl 3
  obtain ⟨T5, im8, hS8, h5, rfl⟩ := hS7.sl 5
  have hS9 := hS8.nilO rGRecord 63
  exact re hm (hS9.sel [3, 1, 2, 5, 0] rfl)

theorem image_Load_sim {p0 : GImage} {a1 c1 a2 c2} {p1 : List Int} {a3 c3} (hS : Sep g T0 w0 [starL R]) (h1 : SlR (rInt .u32) T0 w0 (sv a1 p0.Code c1) p0.Code) (h2 : SlR (rInt .u8) T0 w0 (sv a2 p0.Data c2) p0.Data) (h3 : SlR (rInt .u32) T0 w0 (sv a3 p1 c3) p1) : ∀ r, image_Load p0 p1 = some r →
    Calls Tryz.prog 23 #[.agg #[sv a1 p0.Code c1, sv a2 p0.Data c2, iv p0.Limit, iv p0.Notes], sv a3 p1 c3] w0 (exR r (fun r => RetS T0 w0 fun T w v => v = .tuple #[.pointer none, iv r] ∧ Sep g T w (R ++ []) ∧ True) (fun r => RetS T0 w0 fun T w v => ∃ b3 a9 c9 a10 n4 c10 a11 n5 c11 a12 c12 a13 n6 c13, v = .tuple #[pt b3 0, iv r.2] ∧ Sep g T w (R ++ [segH (boxA b3) enI_u32' r.1.volatile.regs [.int .u32 r.1.volatile.pc, .int .u32 r.1.volatile.seq, .int .u32 r.1.volatile.index, sv a9 r.1.code c9, .slice a10 n4 c10, .slice a11 n5 c11, sv a12 r.1.inputs c12, .slice a13 n6 c13, iv r.1.steps, iv r.1.state, .int .u32 r.1.exit], ownA rDeviceMet 303 (.slice a10 n4 c10) r.1.met, ownA (rInt .u8) 5 (.slice a11 n5 c11) r.1.data, ownA rGRecord 63 (.slice a13 n6 c13) r.1.log]) ∧ SlR (rInt .u32) T w (sv a9 r.1.code c9) r.1.code ∧ SlR (rInt .u32) T w (sv a12 r.1.inputs c12) r.1.inputs ∧ True)) := by
  intro r hm
  refine enter Tryz.func23 rfl Tryz.ntmps23 rfl fun J => ?_
  unfold image_Load at hm
  refine sq2 (bX [sv a1 p0.Code c1, sv a2 p0.Data c2, iv p0.Limit, iv p0.Notes] hS ?_)
  intro w1 b1 im1 hS1
  refine pn ?_
  refine sq2 (pu ?_)
  obtain ⟨y1, hx1, hm⟩ := bindS hm
  rcases y1 with e1 | y1
  · have hm := exC_error hm
    refine cS cf38 (device_New_sim (hS1.bun [1] [] rfl) (h1.mono im1) (h2.mono im1) (h3.mono im1) _ hx1) ?_
    rintro _ T2 w3 im3 ⟨b2, a4, c4, a5, n1, c5, a6, n2, c6, a7, c7, a8, n3, c8, rfl, hS3, h4, h5, _⟩
    exact re hm (hS3.sel (nrow 0 5) rfl)
  have hm := exC_ok hm
  refine cS cf38 (device_New_sim (hS1.bun [1] [] rfl) (h1.mono im1) (h2.mono im1) (h3.mono im1) _ hx1) ?_
  rintro _ T1 w2 im2 ⟨rfl, hS2, _⟩
  exact re hm (hS2.sel [0] rfl)

theorem play_each_1_sim {σ ε : Type} {p0 : σ → Int → Option (Lp σ ε)} {p1 : σ} {U_p0 : Lp σ ε → Assn} {l_p0 p2} {b_p2 o_p2 : Nat} {H_p2 : List Value → Assn} {p3} {b_p3 o_p3 : Nat} {H_p3 : List Value → Assn} (hS : Sep g T0 w0 [starL R, U_p0 (.go p1), H_p2 [iv p2], H_p3 [iv p3]]) (hY_p0 : ∀ (T2 : TP) (w2 : World) (s : σ) (q0 : Int) (z : Lp σ ε) (R2 : Assn), Im T0 w0 T2 w2 → Sep g T2 w2 [R2, U_p0 (.go s)] → p0 s q0 = some z → YieldS Tryz.prog l_p0 #[iv q0] T2 w2 fun T3 w3 b => b = z.isGo ∧ Sep g T3 w3 [R2, U_p0 z]) (hL_p2 : Ln b_p2 o_p2 H_p2) (hL_p3 : Ln b_p3 o_p3 H_p3) : ∀ r, play_each_1 p0 p1 p2 p3 = some r →
    Calls Tryz.prog 29 #[.func (.yield l_p0) #[] #[], pt b_p2 o_p2, pt b_p3 o_p3] w0 (RetS T0 w0 fun T w v => v = .tuple #[] ∧ Sep g T w (R ++ [U_p0 r, H_p2 [iv p2], H_p3 [iv p3]]) ∧ True) := by
  intro r hm
  refine enter Tryz.func29 rfl Tryz.ntmps29 rfl fun J => ?_
  unfold play_each_1 at hm
  refine sq2 (pn ?_)
  refine lpJ hm (fun bd1 o1 m a w1 => ∃ (T1 : _) (x1 : σ) (x2 : _), JR (nf 19) g T0 w0 a w1 T1 (loopM bd1 m (x1, x2) = some o1) [(0, .func (.yield l_p0) #[] #[]), (2, pt b_p3 o_p3), (4, iv x2)] [starL R, U_p0 (.go x1), H_p2 [iv p2], H_p3 [iv p3]]) (fun _ _ h => je h (hS.sel (nrow 0 4) rfl)) ?_
  rintro bd1 hbd1 o1 hq1 _ _ w1 ⟨T1, x1, x2, J, ho1, rfl, hS1, im1⟩
  obtain ⟨m1, z1, rfl, hm, hn1⟩ := lrE ho1 hbd1
  refine sq2 (sq2 (cd hm ?_ ?_)) <;> intro hb1 hm
  · refine pn ?_
    refine sq2 (blk (sq2 (ry [0, 0, 2, 0, 0, 1, 0, 0] [0, 1, 2, 3, 4, 5, 6, 7] rfl ?_)))
    obtain ⟨z1, hx1, hm⟩ := bindS hm
    refine pu ?_
    refine s2I [] rfl trivial rfl (by kernel_rfl) (yS rfl rfl (hY_p0 _ _ _ _ _ _ im1 (hS1.bun [0, 2, 3] [1] rfl) hx1) fun b1 T2 w2 im2 rv1 => ?_)
    obtain ⟨hb2, hS2⟩ := rv1
    have hS2 := hS2.unb
    refine pu ?_
    rcases go_or z1 with ⟨sg1, rfl⟩ | hz1
    · have hb2 : b1 = true := hb2
      subst hb2
      have hm := gone_go hm
      refine cd hm ?_ ?_ <;> intro hb3 hm
      · have hm := retE hm hn1 hq1
        exact re hm (hS2.sel [0, 3, 1, 2] rfl)
      exact lg hm hn1 (hS2.sel [0, 3, 1, 2] rfl)
    have hb2 : b1 = false := hb2.trans hz1
    subst hb2
    have hm := gone_no hz1 hm
    refine pn ?_
    refine cnd (b := true) rfl (fun _ => ?_) (fun h => nomatch h)
    have hm := retE hm hn1 hq1
    exact re hm (hS2.sel [0, 3, 1, 2] rfl)
  have hm := brkE hm hn1 hq1
  have hm := oI hm; subst hm
  refine pn ?_
  exact end0 rfl ⟨_, rfl, _, im1, ⟨rfl, (hS1.sel (nrow 0 4) rfl).unb, trivial⟩⟩

theorem device_Machine_Steps_sim {p0 : DeviceMachine} {b_p0 o_p0 : Nat} {H_p0 : List Value → Assn} {a1 c1 a2 n1 c2 a3 n2 c3 a4 c4 a5 n3 c5} (hS : Sep g T0 w0 [starL R, segH (H_p0) enI_u32' p0.volatile.regs [.int .u32 p0.volatile.pc, .int .u32 p0.volatile.seq, .int .u32 p0.volatile.index, sv a1 p0.code c1, .slice a2 n1 c2, .slice a3 n2 c3, sv a4 p0.inputs c4, .slice a5 n3 c5, iv p0.steps, iv p0.state, .int .u32 p0.exit], ownA rDeviceMet 303 (.slice a2 n1 c2) p0.met, ownA (rInt .u8) 5 (.slice a3 n2 c3) p0.data, ownA rGRecord 63 (.slice a5 n3 c5) p0.log]) (hL_p0 : Ln b_p0 o_p0 H_p0) (h1 : SlR (rInt .u32) T0 w0 (sv a1 p0.code c1) p0.code) (h2 : SlR (rInt .u32) T0 w0 (sv a4 p0.inputs c4) p0.inputs) : ∀ r, device_Machine_Steps p0 = some r →
    Calls Tryz.prog 27 #[pt b_p0 o_p0] w0 (RetS T0 w0 fun T w v => v = iv r ∧ Sep g T w (R ++ [segH (H_p0) enI_u32' p0.volatile.regs [.int .u32 p0.volatile.pc, .int .u32 p0.volatile.seq, .int .u32 p0.volatile.index, sv a1 p0.code c1, .slice a2 n1 c2, .slice a3 n2 c3, sv a4 p0.inputs c4, .slice a5 n3 c5, iv p0.steps, iv p0.state, .int .u32 p0.exit], ownA rDeviceMet 303 (.slice a2 n1 c2) p0.met, ownA (rInt .u8) 5 (.slice a3 n2 c3) p0.data, ownA rGRecord 63 (.slice a5 n3 c5) p0.log]) ∧ True) := by
  intro r hm
  refine enter Tryz.func27 rfl Tryz.ntmps27 rfl fun J => ?_
  unfold device_Machine_Steps at hm
  refine sq2 (pn ?_)
  refine sq2 (sq2 (pu ?_))
  refine pv (r_pne rfl rfl rfl underlying70) (pn ?_)
  refine cnd (b := false) rfl (fun h => nomatch h) (fun _ => ?_)
  refine pn ?_
  refine sq2 ?_
  obtain ⟨z_1, hln1, hm⟩ := bindS hm
  refine pu ?_
  exact pv (r_ld rfl isAgg3 (hS.cellB (i := 1) ⟨rfl, rfl⟩ (lnSeg (k := 32) hL_p0 (lenOk_some hln1) enI_u32'_len rfl) (j := 8) rfl)) (re hm (hS.sel (nrow 0 5) rfl))

theorem device_Machine_Fail_sim {p0 : DeviceMachine} {b_p0 o_p0 : Nat} {H_p0 : List Value → Assn} {a1 c1 a2 n1 c2 a3 n2 c3 a4 c4 a5 n3 c5} (hS : Sep g T0 w0 [starL R, segH (H_p0) enI_u32' p0.volatile.regs [.int .u32 p0.volatile.pc, .int .u32 p0.volatile.seq, .int .u32 p0.volatile.index, sv a1 p0.code c1, .slice a2 n1 c2, .slice a3 n2 c3, sv a4 p0.inputs c4, .slice a5 n3 c5, iv p0.steps, iv p0.state, .int .u32 p0.exit], ownA rDeviceMet 303 (.slice a2 n1 c2) p0.met, ownA (rInt .u8) 5 (.slice a3 n2 c3) p0.data, ownA rGRecord 63 (.slice a5 n3 c5) p0.log]) (hL_p0 : Ln b_p0 o_p0 H_p0) (h1 : SlR (rInt .u32) T0 w0 (sv a1 p0.code c1) p0.code) (h2 : SlR (rInt .u32) T0 w0 (sv a4 p0.inputs c4) p0.inputs) : ∀ r, device_Machine_Fail p0 = some r →
    Calls Tryz.prog 40 #[pt b_p0 o_p0] w0 (RetS T0 w0 fun T w v => ∃ a6 c6 a7 c7, v = .tuple #[] ∧ Sep g T w (R ++ [segH (H_p0) enI_u32' r.volatile.regs [.int .u32 r.volatile.pc, .int .u32 r.volatile.seq, .int .u32 r.volatile.index, sv a6 r.code c6, .slice a2 n1 c2, .slice a3 n2 c3, sv a7 r.inputs c7, .slice a5 n3 c5, iv r.steps, iv r.state, .int .u32 r.exit], ownA rDeviceMet 303 (.slice a2 n1 c2) r.met, ownA (rInt .u8) 5 (.slice a3 n2 c3) r.data, ownA rGRecord 63 (.slice a5 n3 c5) r.log]) ∧ SlR (rInt .u32) T w (sv a6 r.code c6) r.code ∧ SlR (rInt .u32) T w (sv a7 r.inputs c7) r.inputs ∧ True) := by
  intro r hm
  refine enter Tryz.func40 rfl Tryz.ntmps40 rfl fun J => ?_
  unfold device_Machine_Fail at hm
  refine sq2 ?_
  obtain ⟨z_1, hln1, hm⟩ := bindS hm
  refine pu ?_
  refine pv (r_pnn rfl rfl rfl underlying70) (pu ?_)
  refine pv (r_ld rfl isAgg3 (hS.cellB (i := 1) ⟨rfl, rfl⟩ (lnSeg (k := 32) hL_p0 (lenOk_some hln1) enI_u32'_len rfl) (j := 9) rfl)) (cd hm ?_ ?_) <;> intro hb1 hm
  · refine pu ?_
    refine pv (r_bd (by kernel_rfl) rfl (u := .agg #[.int .u32 0, .int .u32 0, .int .u32 0, .int .u32 0, .int .u32 0, .int .u32 0, .int .u32 0, .int .u32 0, .int .u32 0, .int .u32 0, .int .u32 0, .int .u32 0, .int .u32 0, .int .u32 0, .int .u32 0, .int .u32 0, .int .u32 0, .int .u32 0, .int .u32 0, .int .u32 0, .int .u32 0, .int .u32 0, .int .u32 0, .int .u32 0, .int .u32 0, .int .u32 0, .int .u32 0, .int .u32 0, .int .u32 0, .int .u32 0, .int .u32 0, .int .u32 0, .int .u32 0, .int .u32 0, .int .u32 0])) (pu ?_)
    refine wl rfl (stSegW (q := 1) (l' := List.replicate 32 0) (n2 := [.int .u32 0, .int .u32 0, .int .u32 0]) hS ⟨rfl, rfl⟩ hL_p0 (lenOk_some hln1) enI_u32'_len rfl rfl rfl sizeOf100 rfl rfl (by kernel_rfl) rfl rfl fun w1 im1 hS1 => ?_)
    have hm := oI hm; subst hm
    refine pn ?_
    exact end0 rfl ⟨_, rfl, _, im1, ⟨_, _, _, _, rfl, (hS1.sel (nrow 0 5) rfl).unb, (h1.mono im1), (h2.mono im1), trivial⟩⟩
  have hm := oI hm; subst hm
  refine pn ?_
  exact end0 rfl ⟨_, rfl, _, Im.refl, ⟨_, _, _, _, rfl, (hS.sel (nrow 0 5) rfl).unb, h1, h2, trivial⟩⟩

theorem device_Machine_State_sim {p0 : DeviceMachine} {b_p0 o_p0 : Nat} {H_p0 : List Value → Assn} {a1 c1 a2 n1 c2 a3 n2 c3 a4 c4 a5 n3 c5} (hS : Sep g T0 w0 [starL R, segH (H_p0) enI_u32' p0.volatile.regs [.int .u32 p0.volatile.pc, .int .u32 p0.volatile.seq, .int .u32 p0.volatile.index, sv a1 p0.code c1, .slice a2 n1 c2, .slice a3 n2 c3, sv a4 p0.inputs c4, .slice a5 n3 c5, iv p0.steps, iv p0.state, .int .u32 p0.exit], ownA rDeviceMet 303 (.slice a2 n1 c2) p0.met, ownA (rInt .u8) 5 (.slice a3 n2 c3) p0.data, ownA rGRecord 63 (.slice a5 n3 c5) p0.log]) (hL_p0 : Ln b_p0 o_p0 H_p0) (h1 : SlR (rInt .u32) T0 w0 (sv a1 p0.code c1) p0.code) (h2 : SlR (rInt .u32) T0 w0 (sv a4 p0.inputs c4) p0.inputs) : ∀ r, device_Machine_State p0 = some r →
    Calls Tryz.prog 25 #[pt b_p0 o_p0] w0 (RetS T0 w0 fun T w v => v = iv r ∧ Sep g T w (R ++ [segH (H_p0) enI_u32' p0.volatile.regs [.int .u32 p0.volatile.pc, .int .u32 p0.volatile.seq, .int .u32 p0.volatile.index, sv a1 p0.code c1, .slice a2 n1 c2, .slice a3 n2 c3, sv a4 p0.inputs c4, .slice a5 n3 c5, iv p0.steps, iv p0.state, .int .u32 p0.exit], ownA rDeviceMet 303 (.slice a2 n1 c2) p0.met, ownA (rInt .u8) 5 (.slice a3 n2 c3) p0.data, ownA rGRecord 63 (.slice a5 n3 c5) p0.log]) ∧ True) := by
  intro r hm
  refine enter Tryz.func25 rfl Tryz.ntmps25 rfl fun J => ?_
  unfold device_Machine_State at hm
  refine sq2 (pn ?_)
  refine sq2 (sq2 (pu ?_))
  refine pv (r_pne rfl rfl rfl underlying70) (pn ?_)
  refine cnd (b := false) rfl (fun h => nomatch h) (fun _ => ?_)
  refine pn ?_
  refine sq2 ?_
  obtain ⟨z_1, hln1, hm⟩ := bindS hm
  refine pu ?_
  exact pv (r_ld rfl isAgg3 (hS.cellB (i := 1) ⟨rfl, rfl⟩ (lnSeg (k := 32) hL_p0 (lenOk_some hln1) enI_u32'_len rfl) (j := 9) rfl)) (re hm (hS.sel (nrow 0 5) rfl))

theorem device_Machine_fetch_sim {p0 : DeviceMachine} {b_p0 o_p0 : Nat} {H_p0 : List Value → Assn} {a1 c1 a2 n1 c2 a3 n2 c3 a4 c4 a5 n3 c5} (hS : Sep g T0 w0 [starL R, segH (H_p0) enI_u32' p0.volatile.regs [.int .u32 p0.volatile.pc, .int .u32 p0.volatile.seq, .int .u32 p0.volatile.index, sv a1 p0.code c1, .slice a2 n1 c2, .slice a3 n2 c3, sv a4 p0.inputs c4, .slice a5 n3 c5, iv p0.steps, iv p0.state, .int .u32 p0.exit], ownA rDeviceMet 303 (.slice a2 n1 c2) p0.met, ownA (rInt .u8) 5 (.slice a3 n2 c3) p0.data, ownA rGRecord 63 (.slice a5 n3 c5) p0.log]) (hL_p0 : Ln b_p0 o_p0 H_p0) (h1 : SlR (rInt .u32) T0 w0 (sv a1 p0.code c1) p0.code) (h2 : SlR (rInt .u32) T0 w0 (sv a4 p0.inputs c4) p0.inputs) : ∀ r, device_Machine_fetch p0 = some r →
    Calls Tryz.prog 112 #[pt b_p0 o_p0] w0 (RetS T0 w0 fun T w v => ∃ a6 c6 a7 c7, v = .tuple #[.agg (cGInst r.1).toArray, .bool r.2.1] ∧ Sep g T w (R ++ [segH (H_p0) enI_u32' r.2.2.volatile.regs [.int .u32 r.2.2.volatile.pc, .int .u32 r.2.2.volatile.seq, .int .u32 r.2.2.volatile.index, sv a6 r.2.2.code c6, .slice a2 n1 c2, .slice a3 n2 c3, sv a7 r.2.2.inputs c7, .slice a5 n3 c5, iv r.2.2.steps, iv r.2.2.state, .int .u32 r.2.2.exit], ownA rDeviceMet 303 (.slice a2 n1 c2) r.2.2.met, ownA (rInt .u8) 5 (.slice a3 n2 c3) r.2.2.data, ownA rGRecord 63 (.slice a5 n3 c5) r.2.2.log]) ∧ SlR (rInt .u32) T w (sv a6 r.2.2.code c6) r.2.2.code ∧ SlR (rInt .u32) T w (sv a7 r.2.2.inputs c7) r.2.2.inputs ∧ True) := by
  intro r hm
  refine enter Tryz.func112 rfl Tryz.ntmps112 rfl fun J => ?_
  unfold device_Machine_fetch at hm
  refine sq2 (aL [iv 0, iv 0, iv 0, iv 0, iv 0] hS ?_)
  intro w1 b1 im1 hS1
  refine pn ?_
  refine sq2 (sq2 ?_)
  obtain ⟨z_1, hln1, hm⟩ := bindS hm
  refine rqS hS1 (pu ?_)
  refine qv (fun _ hq => r_ld rfl isAgg30 (hq.cell (hS1.cellB (i := 2) ⟨rfl, rfl⟩ (lnSeg (k := 32) hL_p0 (lenOk_some hln1) enI_u32'_len rfl) (j := 0) rfl))) (pu ?_)
  rcases bc hm with ⟨hb1, hm⟩ | ⟨hb1, hm⟩
  · refine pn ?_
    intro w13 T5 im13 hS13
    refine pn ?_
    refine cnd (b := true) rfl (fun _ => ?_) (fun h => nomatch h)
    refine sq2 (pu ?_)
    refine pv (r_bd (by kernel_rfl) rfl (u := .agg #[iv 0, iv 0, iv 0, iv 0, iv 0])) (sT 0 hS13 ?_)
    intro w14 im14 hS14
    refine pu ?_
    refine nil (t_thenR [(2, pt b1 0), (3, .bool false)] ⟨rfl, rfl, trivial⟩ fun J => ?_)
    exact re hm (hS14.sel (nrow 1 5) rfl)
  refine pu ?_
  refine qv (fun _ hq => r_ld rfl isAgg30 (hq.cell (hS1.cellB (i := 2) ⟨rfl, rfl⟩ (lnSeg (k := 32) hL_p0 (lenOk_some hln1) enI_u32'_len rfl) (j := 0) rfl))) (pu ?_)
  refine qv (fun _ hq => r_ld rfl isAgg22 (hq.cell (hS1.cellB (i := 2) ⟨rfl, rfl⟩ (lnSeg (k := 32) hL_p0 (lenOk_some hln1) enI_u32'_len rfl) (j := 3) rfl))) (pn ?_)
  intro w2 T1 im2 hS2
  refine cd hm ?_ ?_ <;> intro hb2 hm
  · refine sq2 (pu ?_)
    refine pv (r_bd (by kernel_rfl) rfl (u := .agg #[iv 0, iv 0, iv 0, iv 0, iv 0])) (sT 0 hS2 ?_)
    intro w3 im3 hS3
    refine pu ?_
    refine nil (t_thenR [(2, pt b1 0), (3, .bool false)] ⟨rfl, rfl, trivial⟩ fun J => ?_)
    exact re hm (hS3.sel (nrow 1 5) rfl)
  refine pn ?_
  refine sq2 ?_
  obtain ⟨u1, hx1, hm⟩ := bindS hm
  refine rqS hS2 (pu ?_)
  refine qv (fun _ hq => r_ld rfl isAgg101 (hq.cell (hS2.cellB (i := 2) ⟨rfl, rfl⟩ (lnSeg (k := 32) hL_p0 (lenOk_some hln1) enI_u32'_len rfl) (j := 4) rfl))) (pu ?_)
  refine qv (fun _ hq => r_ld rfl isAgg30 (hq.cell (hS2.cellB (i := 2) ⟨rfl, rfl⟩ (lnSeg (k := 32) hL_p0 (lenOk_some hln1) enI_u32'_len rfl) (j := 0) rfl))) (pn ?_)
  intro w4 T2 im4 hS4
  refine t_thenR [(0, pt b_p0 o_p0), (2, pt b1 0), (4, .pointer (some ⟨(eBk (.slice a2 n1 c2)), (eOf (.slice a2 n1 c2) (IntKind.wrap .u32 (Int.tdiv p0.volatile.pc 4)) 7), none⟩))] ⟨rfl, rfl, rfl, trivial⟩ fun J => ?_
  refine cutJ hm (fun kk1 a w5 => ∃ (T3 : _) (x1 : List DeviceMet), JR (nf 76) g T2 w4 a w5 T3 (kk1 x1 = some r) [(2, pt b1 0), (4, .pointer (some ⟨(eBk (.slice a2 n1 c2)), (eOf (.slice a2 n1 c2) (IntKind.wrap .u32 (Int.tdiv p0.volatile.pc 4)) 7), none⟩))] [boxA b1 [iv 0, iv 0, iv 0, iv 0, iv 0], starL R, segH (H_p0) enI_u32' p0.volatile.regs [.int .u32 p0.volatile.pc, .int .u32 p0.volatile.seq, .int .u32 p0.volatile.index, sv a1 p0.code c1, .slice a2 n1 c2, .slice a3 n2 c3, sv a4 p0.inputs c4, .slice a5 n3 c5, iv p0.steps, iv p0.state, .int .u32 p0.exit], ownA rDeviceMet 303 (.slice a2 n1 c2) x1, ownA (rInt .u8) 5 (.slice a3 n2 c3) p0.data, ownA rGRecord 63 (.slice a5 n3 c5) p0.log]) (fun kk1 hm => ?_) ?_
  · refine sq2 (cd hm ?_ ?_) <;> intro hb3 hm
    · refine sq2 (rtS [0, 0, 0, 1, 0, 0, 0, 0, 1, 0, 0, 1, 2, 0, 0, 0, 2, 2, 0] [0, 1, 2, 3, 4, 5, 6, 7, 8, 9, 10, 11, 12, 13, 14, 15, 16, 17, 18] hS4 fun w6 im6 hS5 => ?_)
      obtain ⟨u2, hx2, hm⟩ := bindS hm
      obtain ⟨y1, hx3, hm⟩ := bindS hm
      refine pu ?_
      refine t1 rfl trivial (r_ld rfl isAgg22 (hS5.cellB (i := 2) ⟨rfl, rfl⟩ (lnSeg (k := 32) hL_p0 (lenOk_some hln1) enI_u32'_len rfl) (j := 3) rfl)) rfl (pu ?_)
      refine t1 rfl trivial (r_ld rfl isAgg30 (hS5.cellB (i := 2) ⟨rfl, rfl⟩ (lnSeg (k := 32) hL_p0 (lenOk_some hln1) enI_u32'_len rfl) (j := 0) rfl)) rfl (pu ?_)
      refine tF [12, 16] ?_
      refine ⟨?_, ?_, trivial⟩
      · refine brW [13, 14, 15, 16, 17, 18] [0, 0, 0] ?_
        refine oS cf174 (inst_Decode_sim (hS5.bun (nrow 0 6) [] rfl) _ hx3) ?_
        rintro _ T4 w7 im7 ⟨rfl, hS6, _⟩
        refine t1W [16] [17, 18] [] ?_
        refine oaL [iv 0, iv 0, iv 0, iv 0, iv 0] hS6 ?_
        intro w8 b2 im8 hS7
        refine t1W [17] [18] [] ?_
        refine osT 0 hS7 ?_
        intro w9 im9 hS8
        refine pn ?_
        obtain ⟨u3, hx4, hm⟩ := bindS hm
        obtain rfl : u1 = u3 := oI (hx1.symm.trans hx4)
        refine pu ?_
        refine pv (r_bd (by kernel_rfl) rfl (u := .agg #[.bool true, .bool (y1.2 == 0), iv y1.1.Op, iv y1.1.Rd, iv y1.1.Rs1, iv y1.1.Rs2, iv y1.1.Imm])) (pu ?_)
        refine wl rfl (stOc (q := 4) (j := 0) (u' := (⟨true, y1.2 == 0, y1.1⟩ : DeviceMet)) hS8 ⟨rfl, rfl⟩ hx4 rfl rfl rfl sizeOf303 rfl rfl rfl (fun c0 hc0 => by rw [storeL_all (r := rDeviceMet) hc0 rfl]; exact (rDeviceMet_mk (x := (⟨true, y1.2 == 0, y1.1⟩ : DeviceMet))  : rDeviceMet.rp _ _ _ _)) fun w10 im10 hS9 => ?_)
        exact je hm (hS9.sel (nrow 1 6) rfl)
      refine brW [12, 13, 14, 15, 17, 18] [] ?_
      refine oaL [iv 0, iv 0, iv 0, iv 0, iv 0] hS5 ?_
      intro w7 b2 im7 hS6
      refine ⟨st1 rfl opv (st1 rfl (r_ld rfl isAgg30 (hS6.cellB (i := 3) ⟨rfl, rfl⟩ (lnSeg (k := 32) hL_p0 (lenOk_some hln1) enI_u32'_len rfl) (j := 0) rfl)) (st1 rfl (r_ld rfl isAgg22 (hS6.cellB (i := 3) ⟨rfl, rfl⟩ (lnSeg (k := 32) hL_p0 (lenOk_some hln1) enI_u32'_len rfl) (j := 3) rfl)) (st0))), ?_⟩
      refine t1W [12] [13, 14, 15, 17, 18] [0, 0, 0] ?_
      refine oS cf174 (inst_Decode_sim (hS6.bun (nrow 0 7) [] rfl) _ hx3) ?_
      rintro _ T4 w8 im8 ⟨rfl, hS7, _⟩
      refine t1W [17] [18] [] ?_
      refine osT 0 hS7 ?_
      intro w9 im9 hS8
      refine pn ?_
      obtain ⟨u3, hx4, hm⟩ := bindS hm
      obtain rfl : u1 = u3 := oI (hx1.symm.trans hx4)
      refine pu ?_
      refine pv (r_bd (by kernel_rfl) rfl (u := .agg #[.bool true, .bool (y1.2 == 0), iv y1.1.Op, iv y1.1.Rd, iv y1.1.Rs1, iv y1.1.Rs2, iv y1.1.Imm])) (pu ?_)
      refine wl rfl (stOc (q := 4) (j := 0) (u' := (⟨true, y1.2 == 0, y1.1⟩ : DeviceMet)) hS8 ⟨rfl, rfl⟩ hx4 rfl rfl rfl sizeOf303 rfl rfl rfl (fun c0 hc0 => by rw [storeL_all (r := rDeviceMet) hc0 rfl]; exact (rDeviceMet_mk (x := (⟨true, y1.2 == 0, y1.1⟩ : DeviceMet))  : rDeviceMet.rp _ _ _ _)) fun w10 im10 hS9 => ?_)
      exact je hm (hS9.sel (nrow 1 6) rfl)
    exact je hm (hS4.sel (nrow 0 6) rfl)
  rintro _ w5 ⟨T3, x1, J, hm, rfl, hS10, im5⟩
  refine sq2 (rsS [0, 0, 0, 1, 0, 0, 0, 1, 2, 0] [0, 1, 2, 3, 4, 5, 6, 7, 8, 9] hS10 fun w11 im11 hS11 => ?_)
  obtain ⟨u4, hx5, hm⟩ := bindS hm
  obtain ⟨u5, hx6, hm⟩ := bindS hm
  obtain rfl : u4 = u5 := oI (hx5.symm.trans hx6)
  refine pu ?_
  refine s1 rfl trivial (r_ldS rfl isAgg199 sizeOf199 rfl ((elS slvS hx5 (by exact rfl) opnS).sub 2 rfl) (cs := (cGInst u4.inst))) rfl (pu ?_)
  refine s2W [1, 0] ?_
  refine osT 0 hS11 ?_
  intro w12 im12 hS12
  exact re hm (hS12.sel (nrow 1 5) rfl)

theorem word_bit_sim {p0} (hS : Sep g T0 w0 [starL R])  : ∀ r, word_bit p0 = some r →
    Calls Tryz.prog 404 #[.bool p0] w0 (RetS T0 w0 fun T w v => v = .int .u32 r ∧ Sep g T w (R ++ []) ∧ True) := by
  intro r hm
  refine enter Tryz.func404 rfl Tryz.ntmps404 rfl fun J => ?_
  unfold word_bit at hm
  refine sq2 (pn ?_)
  refine sq2 (sq2 (cd hm ?_ ?_)) <;> intro hb1 hm
  · exact sq2 (re hm (hS.sel [0] rfl))
  refine pn ?_
  exact sq2 (re hm (hS.sel [0] rfl))

theorem word_Less_sim {p0 p1} (hS : Sep g T0 w0 [starL R])  : ∀ r, word_Less p0 p1 = some r →
    Calls Tryz.prog 301 #[.int .u32 p0, .int .u32 p1] w0 (RetS T0 w0 fun T w v => v = .int .u32 r ∧ Sep g T w (R ++ []) ∧ True) := by
  intro r hm
  refine enter Tryz.func301 rfl Tryz.ntmps301 rfl fun J => ?_
  unfold word_Less at hm
  refine sq2 (pn ?_)
  refine sq2 (pu ?_)
  refine cB cf404 hm (word_bit_sim (hS.bun [0] [] rfl)) ?_
  rintro y1 _ T1 w1 im1 ⟨rfl, hS1, _⟩ hm
  exact re hm (hS1.sel [0] rfl)

theorem word_LessU_sim {p0 p1} (hS : Sep g T0 w0 [starL R])  : ∀ r, word_LessU p0 p1 = some r →
    Calls Tryz.prog 302 #[.int .u32 p0, .int .u32 p1] w0 (RetS T0 w0 fun T w v => v = .int .u32 r ∧ Sep g T w (R ++ []) ∧ True) := by
  intro r hm
  refine enter Tryz.func302 rfl Tryz.ntmps302 rfl fun J => ?_
  unfold word_LessU at hm
  refine sq2 (pn ?_)
  refine sq2 (pu ?_)
  refine cB cf404 hm (word_bit_sim (hS.bun [0] [] rfl)) ?_
  rintro y1 _ T1 w1 im1 ⟨rfl, hS1, _⟩ hm
  exact re hm (hS1.sel [0] rfl)

theorem device_branches_sim {p0 p1 p2} (hS : Sep g T0 w0 [starL R])  : ∀ r, device_branches p0 p1 p2 = some r →
    Calls Tryz.prog 175 #[iv p0, .int .u32 p1, .int .u32 p2] w0 (RetS T0 w0 fun T w v => v = .bool r ∧ Sep g T w (R ++ []) ∧ True) := by
  intro r hm
  refine enter Tryz.func175 rfl Tryz.ntmps175 rfl fun J => ?_
  unfold device_branches at hm
  refine sq2 (pn ?_)
  refine sq2 (sq2 (pn ?_))
  refine blk (sq2 (cd hm ?_ ?_)) <;> intro hb1 hm
  · exact sq2 (re hm (hS.sel [0] rfl))
  refine sq2 (cd hm ?_ ?_) <;> intro hb2 hm
  · exact sq2 (re hm (hS.sel [0] rfl))
  refine sq2 (cd hm ?_ ?_) <;> intro hb3 hm
  · refine sq2 (pu ?_)
    refine cB cf301 hm (word_Less_sim (hS.bun [0] [] rfl)) ?_
    rintro y1 _ T1 w1 im1 ⟨rfl, hS1, _⟩ hm
    exact re hm (hS1.sel [0] rfl)
  refine sq2 (cd hm ?_ ?_) <;> intro hb4 hm
  · refine sq2 (pu ?_)
    refine cB cf301 hm (word_Less_sim (hS.bun [0] [] rfl)) ?_
    rintro y2 _ T2 w2 im2 ⟨rfl, hS2, _⟩ hm
    exact re hm (hS2.sel [0] rfl)
  refine sq2 (cd hm ?_ ?_) <;> intro hb5 hm
  · refine sq2 (pu ?_)
    refine cB cf302 hm (word_LessU_sim (hS.bun [0] [] rfl)) ?_
    rintro y3 _ T3 w3 im3 ⟨rfl, hS3, _⟩ hm
    exact re hm (hS3.sel [0] rfl)
  refine pn ?_
  refine sq2 (pu ?_)
  refine cB cf302 hm (word_LessU_sim (hS.bun [0] [] rfl)) ?_
  rintro y4 _ T4 w4 im4 ⟨rfl, hS4, _⟩ hm
  exact re hm (hS4.sel [0] rfl)

theorem device_size_sim {p0} (hS : Sep g T0 w0 [starL R])  : ∀ r, device_size p0 = some r →
    Calls Tryz.prog 303 #[iv p0] w0 (RetS T0 w0 fun T w v => v = iv r ∧ Sep g T w (R ++ []) ∧ True) := by
  intro r hm
  refine enter Tryz.func303 rfl Tryz.ntmps303 rfl fun J => ?_
  unfold device_size at hm
  refine sq2 (pn ?_)
  refine sq2 (sq2 (pn ?_))
  refine blk (cutJ hm (fun kk1 a w1 => ∃ T1 x1, JR (nf 12) g T0 w0 a w1 T1 (kk1 x1 = some r) [(3, iv p0), (4, .bool x1)] [starL R]) (fun kk1 hm => ?_) ?_)
  · refine sq2 (cd hm ?_ ?_) <;> intro hb1 hm
    · exact je hm (hS.sel [0] rfl)
    refine sq2 (cd hm ?_ ?_) <;> intro hb2 hm
    · exact je hm (hS.sel [0] rfl)
    exact je hm (hS.sel [0] rfl)
  rintro _ w1 ⟨T1, x1, J, hm, rfl, hS1, im1⟩
  refine cd hm ?_ ?_ <;> intro hb3 hm
  · exact sq2 (re hm (hS1.sel [0] rfl))
  refine cutJ hm (fun kk2 a w2 => ∃ T2 x2, JR (nf 12) g T1 w1 a w2 T2 (kk2 x2 = some r) [(8, .bool x2)] [starL R]) (fun kk2 hm => ?_) ?_
  · refine sq2 (cd hm ?_ ?_) <;> intro hb4 hm
    · exact je hm (hS1.sel [0] rfl)
    refine sq2 (cd hm ?_ ?_) <;> intro hb5 hm
    · exact je hm (hS1.sel [0] rfl)
    exact je hm (hS1.sel [0] rfl)
  rintro _ w2 ⟨T2, x2, J, hm, rfl, hS2, im2⟩
  refine cd hm ?_ ?_ <;> intro hb6 hm
  · exact sq2 (re hm (hS2.sel [0] rfl))
  refine pn ?_
  exact sq2 (re hm (hS2.sel [0] rfl))

theorem device_Machine_place_sim {p0 : DeviceMachine} {b_p0 o_p0 : Nat} {H_p0 : List Value → Assn} {a1 c1 a2 n1 c2 a3 n2 c3 a4 c4 a5 n3 c5 p1 p2} (hS : Sep g T0 w0 [starL R, segH (H_p0) enI_u32' p0.volatile.regs [.int .u32 p0.volatile.pc, .int .u32 p0.volatile.seq, .int .u32 p0.volatile.index, sv a1 p0.code c1, .slice a2 n1 c2, .slice a3 n2 c3, sv a4 p0.inputs c4, .slice a5 n3 c5, iv p0.steps, iv p0.state, .int .u32 p0.exit], ownA rDeviceMet 303 (.slice a2 n1 c2) p0.met, ownA (rInt .u8) 5 (.slice a3 n2 c3) p0.data, ownA rGRecord 63 (.slice a5 n3 c5) p0.log]) (hL_p0 : Ln b_p0 o_p0 H_p0) (h1 : SlR (rInt .u32) T0 w0 (sv a1 p0.code c1) p0.code) (h2 : SlR (rInt .u32) T0 w0 (sv a4 p0.inputs c4) p0.inputs) : ∀ r, device_Machine_place p0 p1 p2 = some r →
    Calls Tryz.prog 304 #[pt b_p0 o_p0, .int .u32 p1, iv p2] w0 (RetS T0 w0 fun T w v => v = .tuple #[iv r.1, .bool r.2] ∧ Sep g T w (R ++ [segH (H_p0) enI_u32' p0.volatile.regs [.int .u32 p0.volatile.pc, .int .u32 p0.volatile.seq, .int .u32 p0.volatile.index, sv a1 p0.code c1, .slice a2 n1 c2, .slice a3 n2 c3, sv a4 p0.inputs c4, .slice a5 n3 c5, iv p0.steps, iv p0.state, .int .u32 p0.exit], ownA rDeviceMet 303 (.slice a2 n1 c2) p0.met, ownA (rInt .u8) 5 (.slice a3 n2 c3) p0.data, ownA rGRecord 63 (.slice a5 n3 c5) p0.log]) ∧ True) := by
  intro r hm
  refine enter Tryz.func304 rfl Tryz.ntmps304 rfl fun J => ?_
  unfold device_Machine_place at hm
  refine sq2 (pn ?_)
  refine sq2 (sq2 (pu ?_))
  rcases bc hm with ⟨hb1, hm⟩ | ⟨hb1, hm⟩
  · refine pu ?_
    refine nil (t_thenR [(1, .int .u32 p1), (29, .bool true)] ⟨rfl, rfl, trivial⟩ fun J => ?_)
    refine cnd (b := true) rfl (fun _ => ?_) (fun h => nomatch h)
    exact sq2 (re hm (hS.sel (nrow 0 5) rfl))
  obtain ⟨_, hz1, hm⟩ := bindS hm
  have hz1 := nz_some hz1
  refine pu ?_
  refine pv (r_irm rfl rfl hz1) (pu ?_)
  rcases bc hm with ⟨hb2, hm⟩ | ⟨hb2, hm⟩
  · refine pu ?_
    refine nil (t_thenR [(1, .int .u32 p1), (29, .bool true)] ⟨rfl, rfl, trivial⟩ fun J => ?_)
    refine cnd (b := true) rfl (fun _ => ?_) (fun h => nomatch h)
    exact sq2 (re hm (hS.sel (nrow 0 5) rfl))
  obtain ⟨z_1, hln1, hm⟩ := bindS hm
  refine pu ?_
  refine pv (r_ld rfl isAgg23 (hS.cellB (i := 1) ⟨rfl, rfl⟩ (lnSeg (k := 32) hL_p0 (lenOk_some hln1) enI_u32'_len rfl) (j := 5) rfl)) (pu ?_)
  refine nil (t_thenR [(1, .int .u32 p1), (29, .bool (decide ((IntKind.wrap .u32 (IntKind.wrap .i64 ((List.length p0.data : Int) - p2))) < (IntKind.wrap .u32 (p1 - 268435456)))))] ⟨rfl, rfl, trivial⟩ fun J => ?_)
  refine cd hm ?_ ?_ <;> intro hb3 hm
  · exact sq2 (re hm (hS.sel (nrow 0 5) rfl))
  refine pn ?_
  exact sq2 (re hm (hS.sel (nrow 0 5) rfl))

theorem device_Machine_load_sim {p0 : DeviceMachine} {b_p0 o_p0 : Nat} {H_p0 : List Value → Assn} {a1 c1 a2 n1 c2 a3 n2 c3 a4 c4 a5 n3 c5 p1 p2} (hS : Sep g T0 w0 [starL R, segH (H_p0) enI_u32' p0.volatile.regs [.int .u32 p0.volatile.pc, .int .u32 p0.volatile.seq, .int .u32 p0.volatile.index, sv a1 p0.code c1, .slice a2 n1 c2, .slice a3 n2 c3, sv a4 p0.inputs c4, .slice a5 n3 c5, iv p0.steps, iv p0.state, .int .u32 p0.exit], ownA rDeviceMet 303 (.slice a2 n1 c2) p0.met, ownA (rInt .u8) 5 (.slice a3 n2 c3) p0.data, ownA rGRecord 63 (.slice a5 n3 c5) p0.log]) (hL_p0 : Ln b_p0 o_p0 H_p0) (h1 : SlR (rInt .u32) T0 w0 (sv a1 p0.code c1) p0.code) (h2 : SlR (rInt .u32) T0 w0 (sv a4 p0.inputs c4) p0.inputs) : ∀ r, device_Machine_load p0 p1 p2 = some r →
    Calls Tryz.prog 176 #[pt b_p0 o_p0, iv p1, .int .u32 p2] w0 (RetS T0 w0 fun T w v => v = .tuple #[.int .u32 r.1, .bool r.2] ∧ Sep g T w (R ++ [segH (H_p0) enI_u32' p0.volatile.regs [.int .u32 p0.volatile.pc, .int .u32 p0.volatile.seq, .int .u32 p0.volatile.index, sv a1 p0.code c1, .slice a2 n1 c2, .slice a3 n2 c3, sv a4 p0.inputs c4, .slice a5 n3 c5, iv p0.steps, iv p0.state, .int .u32 p0.exit], ownA rDeviceMet 303 (.slice a2 n1 c2) p0.met, ownA (rInt .u8) 5 (.slice a3 n2 c3) p0.data, ownA rGRecord 63 (.slice a5 n3 c5) p0.log]) ∧ True) := by
  intro r hm
  refine enter Tryz.func176 rfl Tryz.ntmps176 rfl fun J => ?_
  unfold device_Machine_load at hm
  refine sq2 (pn ?_)
  refine sq2 (cutJ hm (fun kk1 a w1 => ∃ T1 x1, JR (nf 84) g T0 w0 a w1 T1 (kk1 x1 = some r) [(0, pt b_p0 o_p0), (1, iv p1), (2, .int .u32 p2), (18, .bool x1)] [starL R, segH (H_p0) enI_u32' p0.volatile.regs [.int .u32 p0.volatile.pc, .int .u32 p0.volatile.seq, .int .u32 p0.volatile.index, sv a1 p0.code c1, .slice a2 n1 c2, .slice a3 n2 c3, sv a4 p0.inputs c4, .slice a5 n3 c5, iv p0.steps, iv p0.state, .int .u32 p0.exit], ownA rDeviceMet 303 (.slice a2 n1 c2) p0.met, ownA (rInt .u8) 5 (.slice a3 n2 c3) p0.data, ownA rGRecord 63 (.slice a5 n3 c5) p0.log]) (fun kk1 hm => ?_) ?_)
  · refine pu ?_
    refine fkN (d := 18) (c := ((p1 == 13) && (p2 == 536870924))) 3 [(0, pt b_p0 o_p0), (1, iv p1), (2, .int .u32 p2)] rfl (fun hk => ?_) fun J => ?_
    · rcases Bool.eq_false_or_eq_true (p1 == 13) with hb1 | hb1
      · exact  gT (d0 := 15) rfl rfl hb1 (pv (r_mi rfl) (gT (d0 := 15) rfl rfl hb1 (pv (r_ib rfl rfl rfl) (pv (r_pkt rfl hb1 rfl) (wlR (fun J => hk J _ (by rw [hb1]; rfl)) ⟨rfl, rfl, rfl, rfl, trivial⟩)))))
      exact  gF2 (d0 := 15) rfl rfl (by rw [hb1]; rfl) (pv (r_pkf rfl hb1 rfl) (wlR (fun J => hk J _ (by rw [hb1]; rfl)) ⟨rfl, rfl, rfl, rfl, trivial⟩))
    exact je hm (hS.sel (nrow 0 5) rfl)
  rintro _ w1 ⟨T1, x1, J, hm, rfl, hS1, im1⟩
  refine cd hm ?_ ?_ <;> intro hb2 hm
  · refine sq2 (sq2 ?_)
    obtain ⟨z_1, hln1, hm⟩ := bindS hm
    refine rqS hS1 (pu ?_)
    refine qv (fun _ hq => r_ld rfl isAgg30 (hq.cell (hS1.cellB (i := 1) ⟨rfl, rfl⟩ (lnSeg (k := 32) hL_p0 (lenOk_some hln1) enI_u32'_len rfl) (j := 2) rfl))) (pu ?_)
    refine qv (fun _ hq => r_ld rfl isAgg22 (hq.cell (hS1.cellB (i := 1) ⟨rfl, rfl⟩ (lnSeg (k := 32) hL_p0 (lenOk_some hln1) enI_u32'_len rfl) (j := 6) rfl))) (pn ?_)
    intro w2 T2 im2 hS2
    refine cd hm ?_ ?_ <;> intro hb3 hm
    · refine sq2 ?_
      obtain ⟨u1, hx1, hm⟩ := bindS hm
      refine rqS hS2 (pu ?_)
      refine qv (fun _ hq => r_ld rfl isAgg22 (hq.cell (hS2.cellB (i := 1) ⟨rfl, rfl⟩ (lnSeg (k := 32) hL_p0 (lenOk_some hln1) enI_u32'_len rfl) (j := 6) rfl))) (pu ?_)
      refine qv (fun _ hq => r_ld rfl isAgg30 (hq.cell (hS2.cellB (i := 1) ⟨rfl, rfl⟩ (lnSeg (k := 32) hL_p0 (lenOk_some hln1) enI_u32'_len rfl) (j := 2) rfl))) (pn ?_)
      intro w3 T3 im3 hS3
      refine t_thenR [(6, .int .u32 u1), (7, .bool true)] ⟨rfl, rfl, trivial⟩ fun J => ?_
      exact re hm (hS3.sel (nrow 0 5) rfl)
    refine pn ?_
    exact sq2 (re hm (hS2.sel (nrow 0 5) rfl))
  refine pn ?_
  refine sq2 (pu ?_)
  refine cB cf303 hm (device_size_sim (hS1.bun (nrow 0 5) [] rfl)) ?_
  rintro y1 _ T4 w4 im4 ⟨rfl, hS4, _⟩ hm
  refine pn ?_
  refine sq2 (pu ?_)
  refine cB cf304 hm (device_Machine_place_sim (hS4.bun [0] (nrow 1 4) rfl) hL_p0 (h1.mono ch) (h2.mono ch)) ?_
  rintro y2 _ T5 w5 im5 ⟨rfl, hS5, _⟩ hm
  refine pn ?_
  refine sq2 (sq2 (cd hm ?_ ?_)) <;> intro hb4 hm
  · exact sq2 (re hm (hS5.sel (nrow 0 5) rfl))
  refine pn ?_
  refine sq2 (pn ?_)
  refine sq2 (sq2 (pn ?_))
  refine lpJ hm (fun bd1 o1 m a w6 => ∃ T6 x2 x3, JR (nf 84) g T5 w5 a w6 T6 (loopM bd1 m (x2, x3) = some o1) [(0, pt b_p0 o_p0), (1, iv p1), (8, iv y1), (9, iv y2.1), (11, .int .u32 x2), (53, iv y1), (54, iv x3)] [starL R, segH (H_p0) enI_u32' p0.volatile.regs [.int .u32 p0.volatile.pc, .int .u32 p0.volatile.seq, .int .u32 p0.volatile.index, sv a1 p0.code c1, .slice a2 n1 c2, .slice a3 n2 c3, sv a4 p0.inputs c4, .slice a5 n3 c5, iv p0.steps, iv p0.state, .int .u32 p0.exit], ownA rDeviceMet 303 (.slice a2 n1 c2) p0.met, ownA (rInt .u8) 5 (.slice a3 n2 c3) p0.data, ownA rGRecord 63 (.slice a5 n3 c5) p0.log]) (fun _ _ h => je h (hS5.sel (nrow 0 5) rfl)) ?_
  rintro bd1 hbd1 o1 hq1 _ _ w6 ⟨T6, x2, x3, J, ho1, rfl, hS6, im6⟩
  obtain ⟨m1, z1, rfl, hm, hn1⟩ := lrE ho1 hbd1
  refine sq2 (pn ?_)
  refine sq2 (cd hm ?_ ?_) <;> intro hb5 hm
  · refine pn ?_
    refine sq2 (blk (sq2 (pn ?_)))
    obtain ⟨z_2, hln2, hm⟩ := bindS hm
    obtain ⟨u2, hx4, hm⟩ := bindS hm
    obtain ⟨_, hz1, hm⟩ := bindS hm
    have hz1 := nn_some hz1
    refine pu ?_
    refine pv (r_ld rfl isAgg23 (hS6.cellB (i := 1) ⟨rfl, rfl⟩ (lnSeg (k := 32) hL_p0 (lenOk_some hln2) enI_u32'_len rfl) (j := 5) rfl)) (pu ?_)
    exact pv (r_ishl rfl rfl hz1) (lg hm hn1 (hS6.sel (nrow 0 5) rfl))
  have hm := brkE hm hn1 hq1
  refine pn ?_
  refine cutJ hm (fun kk2 a w7 => ∃ T7 x4, JR (nf 84) g T6 w6 a w7 T7 (kk2 x4 = some r) [(11, .int .u32 x4)] [starL R, segH (H_p0) enI_u32' p0.volatile.regs [.int .u32 p0.volatile.pc, .int .u32 p0.volatile.seq, .int .u32 p0.volatile.index, sv a1 p0.code c1, .slice a2 n1 c2, .slice a3 n2 c3, sv a4 p0.inputs c4, .slice a5 n3 c5, iv p0.steps, iv p0.state, .int .u32 p0.exit], ownA rDeviceMet 303 (.slice a2 n1 c2) p0.met, ownA (rInt .u8) 5 (.slice a3 n2 c3) p0.data, ownA rGRecord 63 (.slice a5 n3 c5) p0.log]) (fun kk2 hm => ?_) ?_
  · refine sq2 (pu ?_)
    refine fkN (d := 78) (c := ((p1 == 11) || (p1 == 12))) 3 [(8, iv y1), (11, .int .u32 x2)] rfl (fun hk => ?_) fun J => ?_
    · rcases Bool.eq_false_or_eq_true (p1 == 11) with hb6 | hb6
      · exact  gF2 (d0 := 75) rfl rfl (by rw [hb6]; rfl) (pv (r_pkt rfl hb6 rfl) (wlR (fun J => hk J _ (by rw [hb6]; rfl)) ⟨rfl, rfl, rfl, trivial⟩))
      exact  gT (d0 := 75) rfl rfl hb6 (pv (r_mi rfl) (gT (d0 := 75) rfl rfl hb6 (pv (r_ib rfl rfl rfl) (pv (r_pkf rfl hb6 rfl) (wlR (fun J => hk J _ (by rw [hb6]; rfl)) ⟨rfl, rfl, rfl, trivial⟩)))))
    refine cd hm ?_ ?_ <;> intro hb7 hm
    · refine pu ?_
      refine cB cf305 hm (word_Sign_sim (hS6.bun (nrow 0 5) [] rfl)) ?_
      rintro y3 _ T8 w8 im8 ⟨rfl, hS7, _⟩ hm
      exact je hm (hS7.sel (nrow 0 5) rfl)
    exact je hm (hS6.sel (nrow 0 5) rfl)
  rintro _ w7 ⟨T7, x4, J, hm, rfl, hS8, im7⟩
  exact sq2 (re hm (hS8.sel (nrow 0 5) rfl))

theorem device_Machine_port_sim {p0 : DeviceMachine} {b_p0 o_p0 : Nat} {H_p0 : List Value → Assn} {a1 c1 a2 n1 c2 a3 n2 c3 a4 c4 a5 n3 c5 p1 p2} (hS : Sep g T0 w0 [starL R, segH (H_p0) enI_u32' p0.volatile.regs [.int .u32 p0.volatile.pc, .int .u32 p0.volatile.seq, .int .u32 p0.volatile.index, sv a1 p0.code c1, .slice a2 n1 c2, .slice a3 n2 c3, sv a4 p0.inputs c4, .slice a5 n3 c5, iv p0.steps, iv p0.state, .int .u32 p0.exit], ownA rDeviceMet 303 (.slice a2 n1 c2) p0.met, ownA (rInt .u8) 5 (.slice a3 n2 c3) p0.data, ownA rGRecord 63 (.slice a5 n3 c5) p0.log]) (hL_p0 : Ln b_p0 o_p0 H_p0) (h1 : SlR (rInt .u32) T0 w0 (sv a1 p0.code c1) p0.code) (h2 : SlR (rInt .u32) T0 w0 (sv a4 p0.inputs c4) p0.inputs) : ∀ r, device_Machine_port p0 p1 p2 = some r →
    Calls Tryz.prog 306 #[pt b_p0 o_p0, .int .u32 p1, .int .u32 p2] w0 (RetS T0 w0 fun T w v => ∃ a11 c11 a12 c12 a13 n7 c13, v = .bool r.1 ∧ Sep g T w (R ++ [segH (H_p0) enI_u32' r.2.volatile.regs [.int .u32 r.2.volatile.pc, .int .u32 r.2.volatile.seq, .int .u32 r.2.volatile.index, sv a11 r.2.code c11, .slice a2 n1 c2, .slice a3 n2 c3, sv a12 r.2.inputs c12, .slice a13 n7 c13, iv r.2.steps, iv r.2.state, .int .u32 r.2.exit], ownA rDeviceMet 303 (.slice a2 n1 c2) r.2.met, ownA (rInt .u8) 5 (.slice a3 n2 c3) r.2.data, ownA rGRecord 63 (.slice a13 n7 c13) r.2.log]) ∧ SlR (rInt .u32) T w (sv a11 r.2.code c11) r.2.code ∧ SlR (rInt .u32) T w (sv a12 r.2.inputs c12) r.2.inputs ∧ True) := by
  intro r hm
  refine enter Tryz.func306 rfl Tryz.ntmps306 rfl fun J => ?_
  unfold device_Machine_port at hm
  refine sq2 (pn ?_)
  refine cutJ hm (fun kk1 a w1 => ∃ (T1 : _) (x4 : DeviceMachine) (a6 : _) (n4 : _) (c6 : _) (a7 : _) (c7 : _) (a8 : _) (c8 : _), JR (nf 49) g T0 w0 a w1 T1 (kk1 x4 = some r) [] [starL R, segH (H_p0) enI_u32' x4.volatile.regs [.int .u32 x4.volatile.pc, .int .u32 x4.volatile.seq, .int .u32 x4.volatile.index, sv a7 x4.code c7, .slice a2 n1 c2, .slice a3 n2 c3, sv a8 x4.inputs c8, .slice a6 n4 c6, iv x4.steps, iv x4.state, .int .u32 x4.exit], ownA rDeviceMet 303 (.slice a2 n1 c2) x4.met, ownA (rInt .u8) 5 (.slice a3 n2 c3) x4.data, ownA rGRecord 63 (.slice a6 n4 c6) x4.log] ∧ SlR (rInt .u32) T1 w1 (sv a7 x4.code c7) x4.code ∧ SlR (rInt .u32) T1 w1 (sv a8 x4.inputs c8) x4.inputs) (fun kk1 hm => ?_) ?_
  · refine sq2 (pn ?_)
    refine blk (sq2 (cd hm ?_ ?_)) <;> intro hb1 hm
    · obtain ⟨z_1, hln1, hm⟩ := bindS hm
      refine pu ?_
      refine wl rfl (stB (q := 1) (j := 1) hS ⟨rfl, rfl⟩ (lnSeg (k := 32) hL_p0 (lenOk_some hln1) enI_u32'_len rfl) rfl rfl rfl sizeOf30 rfl rfl rfl fun w2 im2 hS1 => ?_)
      exact je hm (hS1.sel (nrow 0 5) rfl)
    refine sq2 (cd hm ?_ ?_) <;> intro hb2 hm
    · refine rsS [0, 0, 0, 0, 1, 0, 0, 0, 0, 1, 0, 0, 2, 2, 0, 0, 2] [0, 1, 2, 3, 4, 5, 6, 7, 8, 9, 10, 11, 12, 13, 14, 15, 16] hS fun w3 im3 hS2 => ?_
      obtain ⟨z_2, hln2, hm⟩ := bindS hm
      refine pu ?_
      refine s1 rfl trivial (r_ld rfl isAgg31 (hS2.cellB (i := 1) ⟨rfl, rfl⟩ (lnSeg (k := 32) hL_p0 (lenOk_some hln2) enI_u32'_len rfl) (j := 7) rfl)) rfl (pu ?_)
      refine s1 rfl trivial (r_ld rfl isAgg30 (hS2.cellB (i := 1) ⟨rfl, rfl⟩ (lnSeg (k := 32) hL_p0 (lenOk_some hln2) enI_u32'_len rfl) (j := 1) rfl)) rfl (pu ?_)
      refine s0 rfl trivial (fun _ => r_bd (by kernel_rfl) rfl (u := .agg #[.int .u32 p0.volatile.seq, .int .u32 p2])) rfl ?_
      refine s2W [0] ?_
      refine obS (r := rGRecord) (l := ([(⟨p0.volatile.seq, p2⟩ : GRecord)] : List GRecord)) (css := [[.int .u32 p0.volatile.seq, .int .u32 p2]]) hS2 ⟨(rGRecord_mk (x := (⟨p0.volatile.seq, p2⟩ : GRecord))  : rGRecord.rp _ _ _ _), trivial⟩ ?_
      intro w4 a9 n5 c9 im4 hS3
      refine ⟨st1 rfl (r_ld rfl isAgg31 (hS3.cellB (i := 2) ⟨rfl, rfl⟩ (lnSeg (k := 32) hL_p0 (lenOk_some hln2) enI_u32'_len rfl) (j := 7) rfl)) (st0), ?_⟩
      obtain ⟨z_3, hro1, hm⟩ := bindS hm
      refine s2W [0] ?_
      refine oaO 5 hS3 (room_some hro1) ?_
      intro w5 a10 n6 c10 im5 hS4
      refine s2W [] ?_
      refine stB (q := 2) (j := 7) hS4 ⟨rfl, rfl⟩ (lnSeg (k := 32) hL_p0 (lenOk_some hln2) enI_u32'_len rfl) rfl rfl rfl sizeOf31 rfl rfl rfl fun w6 im6 hS5 => ?_
      refine pu ?_
      exact je hm (hS5.sel (nrow 1 5) rfl)
    refine sq2 (cd hm ?_ ?_) <;> intro hb3 hm
    · obtain ⟨z_4, hln3, hm⟩ := bindS hm
      refine pu ?_
      refine wl rfl (stB (q := 1) (j := 2) hS ⟨rfl, rfl⟩ (lnSeg (k := 32) hL_p0 (lenOk_some hln3) enI_u32'_len rfl) rfl rfl rfl sizeOf30 rfl rfl rfl fun w7 im7 hS6 => ?_)
      exact je hm (hS6.sel (nrow 0 5) rfl)
    refine sq2 (cd hm ?_ ?_) <;> intro hb4 hm
    · obtain ⟨z_5, hln4, hm⟩ := bindS hm
      refine pu ?_
      refine wl rfl (stB (q := 1) (j := 9) hS ⟨rfl, rfl⟩ (lnSeg (k := 32) hL_p0 (lenOk_some hln4) enI_u32'_len rfl) rfl rfl rfl sizeOf3 rfl rfl rfl fun w8 im8 hS7 => ?_)
      refine pu ?_
      refine wl rfl (stB (q := 1) (j := 10) hS7 ⟨rfl, rfl⟩ (lnSeg (k := 32) hL_p0 (lenOk_some hln4) enI_u32'_len rfl) rfl rfl rfl sizeOf30 rfl rfl rfl fun w9 im9 hS8 => ?_)
      exact je hm (hS8.sel (nrow 0 5) rfl)
    exact sq2 (re hm (hS.sel (nrow 0 5) rfl))
  rintro _ w1 ⟨T1, x4, a6, n4, c6, a7, c7, a8, c8, ⟨J, hm, rfl, hS9, im1⟩, h3, h4⟩
  exact sq2 (re hm (hS9.sel (nrow 0 5) rfl))

theorem device_Machine_store_sim {p0 : DeviceMachine} {b_p0 o_p0 : Nat} {H_p0 : List Value → Assn} {a1 c1 a2 n1 c2 a3 n2 c3 a4 c4 a5 n3 c5 p1 p2 p3} (hS : Sep g T0 w0 [starL R, segH (H_p0) enI_u32' p0.volatile.regs [.int .u32 p0.volatile.pc, .int .u32 p0.volatile.seq, .int .u32 p0.volatile.index, sv a1 p0.code c1, .slice a2 n1 c2, .slice a3 n2 c3, sv a4 p0.inputs c4, .slice a5 n3 c5, iv p0.steps, iv p0.state, .int .u32 p0.exit], ownA rDeviceMet 303 (.slice a2 n1 c2) p0.met, ownA (rInt .u8) 5 (.slice a3 n2 c3) p0.data, ownA rGRecord 63 (.slice a5 n3 c5) p0.log]) (hL_p0 : Ln b_p0 o_p0 H_p0) (h1 : SlR (rInt .u32) T0 w0 (sv a1 p0.code c1) p0.code) (h2 : SlR (rInt .u32) T0 w0 (sv a4 p0.inputs c4) p0.inputs) : ∀ r, device_Machine_store p0 p1 p2 p3 = some r →
    Calls Tryz.prog 177 #[pt b_p0 o_p0, iv p1, .int .u32 p2, .int .u32 p3] w0 (RetS T0 w0 fun T w v => ∃ a9 c9 a10 c10 a11 n5 c11, v = .bool r.1 ∧ Sep g T w (R ++ [segH (H_p0) enI_u32' r.2.volatile.regs [.int .u32 r.2.volatile.pc, .int .u32 r.2.volatile.seq, .int .u32 r.2.volatile.index, sv a9 r.2.code c9, .slice a2 n1 c2, .slice a3 n2 c3, sv a10 r.2.inputs c10, .slice a11 n5 c11, iv r.2.steps, iv r.2.state, .int .u32 r.2.exit], ownA rDeviceMet 303 (.slice a2 n1 c2) r.2.met, ownA (rInt .u8) 5 (.slice a3 n2 c3) r.2.data, ownA rGRecord 63 (.slice a11 n5 c11) r.2.log]) ∧ SlR (rInt .u32) T w (sv a9 r.2.code c9) r.2.code ∧ SlR (rInt .u32) T w (sv a10 r.2.inputs c10) r.2.inputs ∧ True) := by
  intro r hm
  refine enter Tryz.func177 rfl Tryz.ntmps177 rfl fun J => ?_
  unfold device_Machine_store at hm
  refine sq2 (pn ?_)
  refine sq2 (sq2 (pu ?_))
  rcases bc hm with ⟨hb1, hm⟩ | ⟨hb1, hm⟩
  · refine pu ?_
    refine cB cf306 hm (device_Machine_port_sim (hS.bun [0] (nrow 1 4) rfl) hL_p0 h1 h2) ?_
    rintro y1 _ T1 w1 im1 ⟨a6, c6, a7, c7, a8, n4, c8, rfl, hS1, h3, h4, _⟩ hm
    refine cd hm ?_ ?_ <;> intro hb2 hm
    · exact sq2 (re hm (hS1.sel (nrow 0 5) rfl))
    refine pn ?_
    refine sq2 (pu ?_)
    refine cB cf303 hm (device_size_sim (hS1.bun (nrow 0 5) [] rfl)) ?_
    rintro y2 _ T2 w2 im2 ⟨rfl, hS2, _⟩ hm
    refine pn ?_
    refine sq2 (pu ?_)
    refine cB cf304 hm (device_Machine_place_sim (hS2.bun [0] (nrow 1 4) rfl) hL_p0 (h3.mono im2) (h4.mono im2)) ?_
    rintro y3 _ T3 w3 im3 ⟨rfl, hS3, _⟩ hm
    refine pn ?_
    refine sq2 (sq2 (cd hm ?_ ?_)) <;> intro hb3 hm
    · refine sq2 (pu ?_)
      refine nil (t_thenR [(8, .bool false)] ⟨rfl, trivial⟩ fun J => ?_)
      exact re hm (hS3.sel (nrow 0 5) rfl)
    refine pn ?_
    refine sq2 (sq2 (pn ?_))
    refine lpJ hm (fun bd1 o1 m a w4 => ∃ (T4 : _) (x1 : List Int) (x2 : _), JR (nf 50) g T3 w3 a w4 T4 (loopM bd1 m (x1, x2) = some o1) [(0, pt b_p0 o_p0), (3, .int .u32 p3), (10, iv y3.1), (32, iv y2), (33, iv x2)] [starL R, segH (H_p0) enI_u32' y1.2.volatile.regs [.int .u32 y1.2.volatile.pc, .int .u32 y1.2.volatile.seq, .int .u32 y1.2.volatile.index, sv a6 y1.2.code c6, .slice a2 n1 c2, .slice a3 n2 c3, sv a7 y1.2.inputs c7, .slice a8 n4 c8, iv y1.2.steps, iv y1.2.state, .int .u32 y1.2.exit], ownA rDeviceMet 303 (.slice a2 n1 c2) y1.2.met, ownA (rInt .u8) 5 (.slice a3 n2 c3) x1, ownA rGRecord 63 (.slice a8 n4 c8) y1.2.log]) (fun _ _ h => je h (hS3.sel (nrow 0 5) rfl)) ?_
    rintro bd1 hbd1 o1 hq1 _ _ w4 ⟨T4, x1, x2, J, ho1, rfl, hS4, im4⟩
    obtain ⟨m1, z1, rfl, hm, hn1⟩ := lrE ho1 hbd1
    refine sq2 (pn ?_)
    refine sq2 (cd hm ?_ ?_) <;> intro hb4 hm
    · refine pn ?_
      refine sq2 (blk (sq2 (pn ?_)))
      refine rsS [0, 0, 0, 1, 0, 0, 0, 0, 0, 0, 0, 0, 0, 2] [0, 1, 2, 3, 4, 5, 6, 7, 8, 9, 10, 11, 12, 13] hS4 fun w5 im5 hS5 => ?_
      obtain ⟨z_1, hln1, hm⟩ := bindS hm
      obtain ⟨_, hz1, hm⟩ := bindS hm
      have hz1 := nn_some hz1
      obtain ⟨u1, hx4, hm⟩ := bindS hm
      obtain ⟨u2, hx5, hm⟩ := bindS hm
      obtain rfl : u1 = u2 := oI (hx4.symm.trans hx5)
      refine pu ?_
      refine s1 rfl trivial (r_ld rfl isAgg23 (hS5.cellB (i := 1) ⟨rfl, rfl⟩ (lnSeg (k := 32) hL_p0 (lenOk_some hln1) enI_u32'_len rfl) (j := 5) rfl)) rfl (pu ?_)
      refine s0 rfl trivial (fun _ => r_ishr rfl rfl hz1) rfl (pu ?_)
      refine s2W [0] ?_
      refine stOc (q := 3) (j := 0) (u' := IntKind.wrap .u8 (Int.fdiv p3 (2 ^ (min (Int.toNat (IntKind.wrap .i64 (8 * x2))) (IntKind.bits .u32))))) hS5 ⟨rfl, rfl⟩ hx5 rfl rfl rfl sizeOf5 rfl rfl rfl (fun c0 hc0 => by rw [storeL_all (r := (rInt .u8)) hc0 rfl]; exact rfl) fun w6 im6 hS6 => ?_
      exact lg hm hn1 (hS6.sel (nrow 0 5) rfl)
    have hm := brkE hm hn1 hq1
    refine pn ?_
    exact sq2 (re hm (hS4.sel (nrow 0 5) rfl))
  refine pn ?_
  refine cnd (b := false) rfl (fun h => nomatch h) (fun _ => ?_)
  refine pn ?_
  refine sq2 (pu ?_)
  refine cB cf303 hm (device_size_sim (hS.bun (nrow 0 5) [] rfl)) ?_
  rintro y4 _ T5 w7 im7 ⟨rfl, hS7, _⟩ hm
  refine pn ?_
  refine sq2 (pu ?_)
  refine cB cf304 hm (device_Machine_place_sim (hS7.bun [0] (nrow 1 4) rfl) hL_p0 (h1.mono im7) (h2.mono im7)) ?_
  rintro y5 _ T6 w8 im8 ⟨rfl, hS8, _⟩ hm
  refine pn ?_
  refine sq2 (sq2 (cd hm ?_ ?_)) <;> intro hb6 hm
  · refine sq2 (pu ?_)
    refine nil (t_thenR [(8, .bool false)] ⟨rfl, trivial⟩ fun J => ?_)
    exact re hm (hS8.sel (nrow 0 5) rfl)
  refine pn ?_
  refine sq2 (sq2 (pn ?_))
  refine lpJ hm (fun bd1 o1 m a w9 => ∃ (T7 : _) (x3 : List Int) (x4 : _), JR (nf 50) g T6 w8 a w9 T7 (loopM bd1 m (x3, x4) = some o1) [(0, pt b_p0 o_p0), (3, .int .u32 p3), (10, iv y5.1), (32, iv y4), (33, iv x4)] [starL R, segH (H_p0) enI_u32' p0.volatile.regs [.int .u32 p0.volatile.pc, .int .u32 p0.volatile.seq, .int .u32 p0.volatile.index, sv a1 p0.code c1, .slice a2 n1 c2, .slice a3 n2 c3, sv a4 p0.inputs c4, .slice a5 n3 c5, iv p0.steps, iv p0.state, .int .u32 p0.exit], ownA rDeviceMet 303 (.slice a2 n1 c2) p0.met, ownA (rInt .u8) 5 (.slice a3 n2 c3) x3, ownA rGRecord 63 (.slice a5 n3 c5) p0.log]) (fun _ _ h => je h (hS8.sel (nrow 0 5) rfl)) ?_
  rintro bd1 hbd1 o1 hq1 _ _ w9 ⟨T7, x3, x4, J, ho1, rfl, hS9, im9⟩
  obtain ⟨m1, z1, rfl, hm, hn1⟩ := lrE ho1 hbd1
  refine sq2 (pn ?_)
  refine sq2 (cd hm ?_ ?_) <;> intro hb7 hm
  · refine pn ?_
    refine sq2 (blk (sq2 (pn ?_)))
    refine rsS [0, 0, 0, 1, 0, 0, 0, 0, 0, 0, 0, 0, 0, 2] [0, 1, 2, 3, 4, 5, 6, 7, 8, 9, 10, 11, 12, 13] hS9 fun w10 im10 hS10 => ?_
    obtain ⟨z_2, hln2, hm⟩ := bindS hm
    obtain ⟨_, hz2, hm⟩ := bindS hm
    have hz2 := nn_some hz2
    obtain ⟨u3, hx8, hm⟩ := bindS hm
    obtain ⟨u4, hx9, hm⟩ := bindS hm
    obtain rfl : u3 = u4 := oI (hx8.symm.trans hx9)
    refine pu ?_
    refine s1 rfl trivial (r_ld rfl isAgg23 (hS10.cellB (i := 1) ⟨rfl, rfl⟩ (lnSeg (k := 32) hL_p0 (lenOk_some hln2) enI_u32'_len rfl) (j := 5) rfl)) rfl (pu ?_)
    refine s0 rfl trivial (fun _ => r_ishr rfl rfl hz2) rfl (pu ?_)
    refine s2W [0] ?_
    refine stOc (q := 3) (j := 0) (u' := IntKind.wrap .u8 (Int.fdiv p3 (2 ^ (min (Int.toNat (IntKind.wrap .i64 (8 * x4))) (IntKind.bits .u32))))) hS10 ⟨rfl, rfl⟩ hx9 rfl rfl rfl sizeOf5 rfl rfl rfl (fun c0 hc0 => by rw [storeL_all (r := (rInt .u8)) hc0 rfl]; exact rfl) fun w11 im11 hS11 => ?_
    exact lg hm hn1 (hS11.sel (nrow 0 5) rfl)
  have hm := brkE hm hn1 hq1
  refine pn ?_
  exact sq2 (re hm (hS9.sel (nrow 0 5) rfl))

theorem word_Sub_sim {p0 p1} (hS : Sep g T0 w0 [starL R])  : ∀ r, word_Sub p0 p1 = some r →
    Calls Tryz.prog 311 #[.int .u32 p0, .int .u32 p1] w0 (RetS T0 w0 fun T w v => v = .int .u32 r ∧ Sep g T w (R ++ []) ∧ True) := by
  intro r hm
  refine enter Tryz.func311 rfl Tryz.ntmps311 rfl fun J => ?_
  unfold word_Sub at hm
  refine sq2 (pn ?_)
  exact sq2 (re hm (hS.sel [0] rfl))

theorem word_Mul_sim {p0 p1} (hS : Sep g T0 w0 [starL R])  : ∀ r, word_Mul p0 p1 = some r →
    Calls Tryz.prog 405 #[.int .u32 p0, .int .u32 p1] w0 (RetS T0 w0 fun T w v => v = .int .u32 r ∧ Sep g T w (R ++ []) ∧ True) := by
  intro r hm
  refine enter Tryz.func405 rfl Tryz.ntmps405 rfl fun J => ?_
  unfold word_Mul at hm
  refine sq2 (pn ?_)
  exact sq2 (re hm (hS.sel [0] rfl))

theorem word_High_1_sim {p0 p1} (hS : Sep g T0 w0 [starL R])  : ∀ r, word_High_1 p0 p1 = some r →
    Calls Tryz.prog 525 #[iv p0, iv p1] w0 (RetS T0 w0 fun T w v => v = iv r ∧ Sep g T w (R ++ []) ∧ True) := by
  intro r hm
  refine enter Tryz.func525 rfl Tryz.ntmps525 rfl fun J => ?_
  unfold word_High_1 at hm
  refine sq2 (pn ?_)
  exact sq2 (re hm (hS.sel [0] rfl))

theorem word_signed_sim {p0 p1} (hS : Sep g T0 w0 [starL R])  : ∀ r, word_signed p0 p1 = some r →
    Calls Tryz.prog 524 #[.int .u32 p0, .int .u32 p1, .func (.func 525) #[] #[]] w0 (RetS T0 w0 fun T w v => v = iv r ∧ Sep g T w (R ++ []) ∧ True) := by
  intro r hm
  refine enter Tryz.func524 rfl Tryz.ntmps524 rfl fun J => ?_
  unfold word_signed at hm
  refine sq2 (pn ?_)
  refine sq2 (pu ?_)
  refine cB cf525 hm (word_High_1_sim (hS.bun [0] [] rfl)) ?_
  rintro y1 _ T1 w1 im1 ⟨rfl, hS1, _⟩ hm
  exact re hm (hS1.sel [0] rfl)

theorem word_High_sim {p0 p1} (hS : Sep g T0 w0 [starL R])  : ∀ r, word_High p0 p1 = some r →
    Calls Tryz.prog 406 #[.int .u32 p0, .int .u32 p1] w0 (RetS T0 w0 fun T w v => v = .int .u32 r ∧ Sep g T w (R ++ []) ∧ True) := by
  intro r hm
  refine enter Tryz.func406 rfl Tryz.ntmps406 rfl fun J => ?_
  unfold word_High at hm
  refine sq2 (pn ?_)
  refine sq2 (pu ?_)
  refine cB cf524 hm (word_signed_sim (hS.bun [0] [] rfl)) ?_
  rintro y1 _ T1 w1 im1 ⟨rfl, hS1, _⟩ hm
  exact re hm (hS1.sel [0] rfl)

theorem word_HighSU_sim {p0 p1} (hS : Sep g T0 w0 [starL R])  : ∀ r, word_HighSU p0 p1 = some r →
    Calls Tryz.prog 407 #[.int .u32 p0, .int .u32 p1] w0 (RetS T0 w0 fun T w v => v = .int .u32 r ∧ Sep g T w (R ++ []) ∧ True) := by
  intro r hm
  refine enter Tryz.func407 rfl Tryz.ntmps407 rfl fun J => ?_
  unfold word_HighSU at hm
  refine sq2 (pn ?_)
  exact sq2 (re hm (hS.sel [0] rfl))

theorem word_HighU_sim {p0 p1} (hS : Sep g T0 w0 [starL R])  : ∀ r, word_HighU p0 p1 = some r →
    Calls Tryz.prog 408 #[.int .u32 p0, .int .u32 p1] w0 (RetS T0 w0 fun T w v => v = .int .u32 r ∧ Sep g T w (R ++ []) ∧ True) := by
  intro r hm
  refine enter Tryz.func408 rfl Tryz.ntmps408 rfl fun J => ?_
  unfold word_HighU at hm
  refine sq2 (pn ?_)
  exact sq2 (re hm (hS.sel [0] rfl))

theorem word_Div_1_sim {p0 p1} (hS : Sep g T0 w0 [starL R])  : ∀ r, word_Div_1 p0 p1 = some r →
    Calls Tryz.prog 526 #[iv p0, iv p1] w0 (RetS T0 w0 fun T w v => v = iv r ∧ Sep g T w (R ++ []) ∧ True) := by
  intro r hm
  refine enter Tryz.func526 rfl Tryz.ntmps526 rfl fun J => ?_
  unfold word_Div_1 at hm
  refine sq2 (pn ?_)
  refine sq2 ?_
  obtain ⟨_, hz1, hm⟩ := bindS hm
  have hz1 := nz_some hz1
  refine pu ?_
  exact pv (r_iq rfl rfl hz1) (re hm (hS.sel [0] rfl))

theorem word_signed_2_sim {p0 p1} (hS : Sep g T0 w0 [starL R])  : ∀ r, word_signed_2 p0 p1 = some r →
    Calls Tryz.prog 524 #[.int .u32 p0, .int .u32 p1, .func (.func 526) #[] #[]] w0 (RetS T0 w0 fun T w v => v = iv r ∧ Sep g T w (R ++ []) ∧ True) := by
  intro r hm
  refine enter Tryz.func524 rfl Tryz.ntmps524 rfl fun J => ?_
  unfold word_signed_2 at hm
  refine sq2 (pn ?_)
  refine sq2 (pu ?_)
  refine cB cf526 hm (word_Div_1_sim (hS.bun [0] [] rfl)) ?_
  rintro y1 _ T1 w1 im1 ⟨rfl, hS1, _⟩ hm
  exact re hm (hS1.sel [0] rfl)

theorem word_Div_sim {p0 p1} (hS : Sep g T0 w0 [starL R])  : ∀ r, word_Div p0 p1 = some r →
    Calls Tryz.prog 409 #[.int .u32 p0, .int .u32 p1] w0 (RetS T0 w0 fun T w v => v = .int .u32 r ∧ Sep g T w (R ++ []) ∧ True) := by
  intro r hm
  refine enter Tryz.func409 rfl Tryz.ntmps409 rfl fun J => ?_
  unfold word_Div at hm
  refine sq2 (pn ?_)
  refine sq2 (sq2 (cd hm ?_ ?_)) <;> intro hb1 hm
  · exact sq2 (re hm (hS.sel [0] rfl))
  refine pn ?_
  refine sq2 (pu ?_)
  refine cB cf524 hm (word_signed_2_sim (hS.bun [0] [] rfl)) ?_
  rintro y1 _ T1 w1 im1 ⟨rfl, hS1, _⟩ hm
  exact re hm (hS1.sel [0] rfl)

theorem word_DivU_sim {p0 p1} (hS : Sep g T0 w0 [starL R])  : ∀ r, word_DivU p0 p1 = some r →
    Calls Tryz.prog 410 #[.int .u32 p0, .int .u32 p1] w0 (RetS T0 w0 fun T w v => v = .int .u32 r ∧ Sep g T w (R ++ []) ∧ True) := by
  intro r hm
  refine enter Tryz.func410 rfl Tryz.ntmps410 rfl fun J => ?_
  unfold word_DivU at hm
  refine sq2 (pn ?_)
  refine sq2 (sq2 (cd hm ?_ ?_)) <;> intro hb1 hm
  · exact sq2 (re hm (hS.sel [0] rfl))
  refine pn ?_
  refine sq2 ?_
  obtain ⟨_, hz1, hm⟩ := bindS hm
  have hz1 := nz_some hz1
  refine pu ?_
  exact pv (r_iq rfl rfl hz1) (re hm (hS.sel [0] rfl))

theorem word_Rem_1_sim {p0 p1} (hS : Sep g T0 w0 [starL R])  : ∀ r, word_Rem_1 p0 p1 = some r →
    Calls Tryz.prog 527 #[iv p0, iv p1] w0 (RetS T0 w0 fun T w v => v = iv r ∧ Sep g T w (R ++ []) ∧ True) := by
  intro r hm
  refine enter Tryz.func527 rfl Tryz.ntmps527 rfl fun J => ?_
  unfold word_Rem_1 at hm
  refine sq2 (pn ?_)
  refine sq2 ?_
  obtain ⟨_, hz1, hm⟩ := bindS hm
  have hz1 := nz_some hz1
  refine pu ?_
  exact pv (r_irm rfl rfl hz1) (re hm (hS.sel [0] rfl))

theorem word_signed_3_sim {p0 p1} (hS : Sep g T0 w0 [starL R])  : ∀ r, word_signed_3 p0 p1 = some r →
    Calls Tryz.prog 524 #[.int .u32 p0, .int .u32 p1, .func (.func 527) #[] #[]] w0 (RetS T0 w0 fun T w v => v = iv r ∧ Sep g T w (R ++ []) ∧ True) := by
  intro r hm
  refine enter Tryz.func524 rfl Tryz.ntmps524 rfl fun J => ?_
  unfold word_signed_3 at hm
  refine sq2 (pn ?_)
  refine sq2 (pu ?_)
  refine cB cf527 hm (word_Rem_1_sim (hS.bun [0] [] rfl)) ?_
  rintro y1 _ T1 w1 im1 ⟨rfl, hS1, _⟩ hm
  exact re hm (hS1.sel [0] rfl)

theorem word_Rem_sim {p0 p1} (hS : Sep g T0 w0 [starL R])  : ∀ r, word_Rem p0 p1 = some r →
    Calls Tryz.prog 411 #[.int .u32 p0, .int .u32 p1] w0 (RetS T0 w0 fun T w v => v = .int .u32 r ∧ Sep g T w (R ++ []) ∧ True) := by
  intro r hm
  refine enter Tryz.func411 rfl Tryz.ntmps411 rfl fun J => ?_
  unfold word_Rem at hm
  refine sq2 (pn ?_)
  refine sq2 (sq2 (cd hm ?_ ?_)) <;> intro hb1 hm
  · exact sq2 (re hm (hS.sel [0] rfl))
  refine pn ?_
  refine sq2 (pu ?_)
  refine cB cf524 hm (word_signed_3_sim (hS.bun [0] [] rfl)) ?_
  rintro y1 _ T1 w1 im1 ⟨rfl, hS1, _⟩ hm
  exact re hm (hS1.sel [0] rfl)

theorem word_RemU_sim {p0 p1} (hS : Sep g T0 w0 [starL R])  : ∀ r, word_RemU p0 p1 = some r →
    Calls Tryz.prog 412 #[.int .u32 p0, .int .u32 p1] w0 (RetS T0 w0 fun T w v => v = .int .u32 r ∧ Sep g T w (R ++ []) ∧ True) := by
  intro r hm
  refine enter Tryz.func412 rfl Tryz.ntmps412 rfl fun J => ?_
  unfold word_RemU at hm
  refine sq2 (pn ?_)
  refine sq2 (sq2 (cd hm ?_ ?_)) <;> intro hb1 hm
  · exact sq2 (re hm (hS.sel [0] rfl))
  refine pn ?_
  refine sq2 ?_
  obtain ⟨_, hz1, hm⟩ := bindS hm
  have hz1 := nz_some hz1
  refine pu ?_
  exact pv (r_irm rfl rfl hz1) (re hm (hS.sel [0] rfl))

theorem device_product_sim {p0 p1 p2} (hS : Sep g T0 w0 [starL R])  : ∀ r, device_product p0 p1 p2 = some r →
    Calls Tryz.prog 312 #[iv p0, .int .u32 p1, .int .u32 p2] w0 (RetS T0 w0 fun T w v => v = .int .u32 r ∧ Sep g T w (R ++ []) ∧ True) := by
  intro r hm
  refine enter Tryz.func312 rfl Tryz.ntmps312 rfl fun J => ?_
  unfold device_product at hm
  refine sq2 (pn ?_)
  refine sq2 (sq2 (pn ?_))
  refine blk (sq2 (cd hm ?_ ?_)) <;> intro hb1 hm
  · refine sq2 (pu ?_)
    refine cB cf405 hm (word_Mul_sim (hS.bun [0] [] rfl)) ?_
    rintro y1 _ T1 w1 im1 ⟨rfl, hS1, _⟩ hm
    exact re hm (hS1.sel [0] rfl)
  refine sq2 (cd hm ?_ ?_) <;> intro hb2 hm
  · refine sq2 (pu ?_)
    refine cB cf406 hm (word_High_sim (hS.bun [0] [] rfl)) ?_
    rintro y2 _ T2 w2 im2 ⟨rfl, hS2, _⟩ hm
    exact re hm (hS2.sel [0] rfl)
  refine sq2 (cd hm ?_ ?_) <;> intro hb3 hm
  · refine sq2 (pu ?_)
    refine cB cf407 hm (word_HighSU_sim (hS.bun [0] [] rfl)) ?_
    rintro y3 _ T3 w3 im3 ⟨rfl, hS3, _⟩ hm
    exact re hm (hS3.sel [0] rfl)
  refine sq2 (cd hm ?_ ?_) <;> intro hb4 hm
  · refine sq2 (pu ?_)
    refine cB cf408 hm (word_HighU_sim (hS.bun [0] [] rfl)) ?_
    rintro y4 _ T4 w4 im4 ⟨rfl, hS4, _⟩ hm
    exact re hm (hS4.sel [0] rfl)
  refine sq2 (cd hm ?_ ?_) <;> intro hb5 hm
  · refine sq2 (pu ?_)
    refine cB cf409 hm (word_Div_sim (hS.bun [0] [] rfl)) ?_
    rintro y5 _ T5 w5 im5 ⟨rfl, hS5, _⟩ hm
    exact re hm (hS5.sel [0] rfl)
  refine sq2 (cd hm ?_ ?_) <;> intro hb6 hm
  · refine sq2 (pu ?_)
    refine cB cf410 hm (word_DivU_sim (hS.bun [0] [] rfl)) ?_
    rintro y6 _ T6 w6 im6 ⟨rfl, hS6, _⟩ hm
    exact re hm (hS6.sel [0] rfl)
  refine sq2 (cd hm ?_ ?_) <;> intro hb7 hm
  · refine sq2 (pu ?_)
    refine cB cf411 hm (word_Rem_sim (hS.bun [0] [] rfl)) ?_
    rintro y7 _ T7 w7 im7 ⟨rfl, hS7, _⟩ hm
    exact re hm (hS7.sel [0] rfl)
  refine pn ?_
  refine sq2 (pu ?_)
  refine cB cf412 hm (word_RemU_sim (hS.bun [0] [] rfl)) ?_
  rintro y8 _ T8 w8 im8 ⟨rfl, hS8, _⟩ hm
  exact re hm (hS8.sel [0] rfl)

theorem word_Add_sim {p0 p1} (hS : Sep g T0 w0 [starL R])  : ∀ r, word_Add p0 p1 = some r →
    Calls Tryz.prog 307 #[.int .u32 p0, .int .u32 p1] w0 (RetS T0 w0 fun T w v => v = .int .u32 r ∧ Sep g T w (R ++ []) ∧ True) := by
  intro r hm
  refine enter Tryz.func307 rfl Tryz.ntmps307 rfl fun J => ?_
  unfold word_Add at hm
  refine sq2 (pn ?_)
  exact sq2 (re hm (hS.sel [0] rfl))

theorem word_Left_sim {p0 p1} (hS : Sep g T0 w0 [starL R])  : ∀ r, word_Left p0 p1 = some r →
    Calls Tryz.prog 308 #[.int .u32 p0, .int .u32 p1] w0 (RetS T0 w0 fun T w v => v = .int .u32 r ∧ Sep g T w (R ++ []) ∧ True) := by
  intro r hm
  refine enter Tryz.func308 rfl Tryz.ntmps308 rfl fun J => ?_
  unfold word_Left at hm
  refine sq2 (pn ?_)
  refine sq2 ?_
  obtain ⟨_, hz1, hm⟩ := bindS hm
  have hz1 := nn_some hz1
  refine pu ?_
  exact pv (r_ishl rfl rfl hz1) (re hm (hS.sel [0] rfl))

theorem word_Right_sim {p0 p1} (hS : Sep g T0 w0 [starL R])  : ∀ r, word_Right p0 p1 = some r →
    Calls Tryz.prog 309 #[.int .u32 p0, .int .u32 p1] w0 (RetS T0 w0 fun T w v => v = .int .u32 r ∧ Sep g T w (R ++ []) ∧ True) := by
  intro r hm
  refine enter Tryz.func309 rfl Tryz.ntmps309 rfl fun J => ?_
  unfold word_Right at hm
  refine sq2 (pn ?_)
  refine sq2 ?_
  obtain ⟨_, hz1, hm⟩ := bindS hm
  have hz1 := nn_some hz1
  refine pu ?_
  exact pv (r_ishr rfl rfl hz1) (re hm (hS.sel [0] rfl))

theorem word_RightS_sim {p0 p1} (hS : Sep g T0 w0 [starL R])  : ∀ r, word_RightS p0 p1 = some r →
    Calls Tryz.prog 310 #[.int .u32 p0, .int .u32 p1] w0 (RetS T0 w0 fun T w v => v = .int .u32 r ∧ Sep g T w (R ++ []) ∧ True) := by
  intro r hm
  refine enter Tryz.func310 rfl Tryz.ntmps310 rfl fun J => ?_
  unfold word_RightS at hm
  refine sq2 (pn ?_)
  refine sq2 ?_
  obtain ⟨_, hz1, hm⟩ := bindS hm
  have hz1 := nn_some hz1
  refine pu ?_
  exact pv (r_ishr rfl rfl hz1) (re hm (hS.sel [0] rfl))

theorem device_reckoned_sim {p0 p1 p2} (hS : Sep g T0 w0 [starL R])  : ∀ r, device_reckoned p0 p1 p2 = some r →
    Calls Tryz.prog 178 #[iv p0, .int .u32 p1, .int .u32 p2] w0 (RetS T0 w0 fun T w v => v = .int .u32 r ∧ Sep g T w (R ++ []) ∧ True) := by
  intro r hm
  refine enter Tryz.func178 rfl Tryz.ntmps178 rfl fun J => ?_
  unfold device_reckoned at hm
  refine sq2 (pn ?_)
  refine sq2 (sq2 (pn ?_))
  refine blk (sq2 (blk (cutJ hm (fun kk1 a w1 => ∃ T1, JR (nf 80) g T0 w0 a w1 T1 (kk1 () = some r) [(1, .int .u32 p1), (2, .int .u32 p2)] [starL R]) (fun kk1 hm => ?_) ?_)))
  · refine blk (blk (cutJ hm (fun kk2 a w2 => ∃ T2, JR (nf 80) g T0 w0 a w2 T2 (kk2 () = some r) [(1, .int .u32 p1), (2, .int .u32 p2)] [starL R]) (fun kk2 hm => ?_) ?_))
    · refine blk (blk (cutJ hm (fun kk3 a w3 => ∃ T3, JR (nf 80) g T0 w0 a w3 T3 (kk3 () = some r) [(1, .int .u32 p1), (2, .int .u32 p2)] [starL R]) (fun kk3 hm => ?_) ?_))
      · refine blk (blk (cutJ hm (fun kk4 a w4 => ∃ T4, JR (nf 80) g T0 w0 a w4 T4 (kk4 () = some r) [(1, .int .u32 p1), (2, .int .u32 p2)] [starL R]) (fun kk4 hm => ?_) ?_))
        · refine blk (blk (cutJ hm (fun kk5 a w5 => ∃ T5, JR (nf 80) g T0 w0 a w5 T5 (kk5 () = some r) [(1, .int .u32 p1), (2, .int .u32 p2)] [starL R]) (fun kk5 hm => ?_) ?_))
          · refine blk (blk (cutJ hm (fun kk6 a w6 => ∃ T6, JR (nf 80) g T0 w0 a w6 T6 (kk6 () = some r) [(1, .int .u32 p1), (2, .int .u32 p2)] [starL R]) (fun kk6 hm => ?_) ?_))
            · refine blk (blk (cutJ hm (fun kk7 a w7 => ∃ T7, JR (nf 80) g T0 w0 a w7 T7 (kk7 () = some r) [(1, .int .u32 p1), (2, .int .u32 p2)] [starL R]) (fun kk7 hm => ?_) ?_))
              · refine blk (blk (cutJ hm (fun kk8 a w8 => ∃ T8, JR (nf 80) g T0 w0 a w8 T8 (kk8 () = some r) [(1, .int .u32 p1), (2, .int .u32 p2)] [starL R]) (fun kk8 hm => ?_) ?_))
                · refine blk (blk (cutJ hm (fun kk9 a w9 => ∃ T9, JR (nf 80) g T0 w0 a w9 T9 (kk9 () = some r) [(1, .int .u32 p1), (2, .int .u32 p2)] [starL R]) (fun kk9 hm => ?_) ?_))
                  · refine blk (blk (sq2 (sq2 (sq2 (cd hm ?_ ?_))))) <;> intro hb1 hm
                    · exact je hm (hS.sel [0] rfl)
                    refine pn ?_
                    refine sq2 (sq2 (cd hm ?_ ?_)) <;> intro hb2 hm
                    · exact je hm (hS.sel [0] rfl)
                    refine pn ?_
                    refine sq2 (sq2 (cd hm ?_ ?_)) <;> intro hb3 hm
                    · exact je hm (hS.sel [0] rfl)
                    refine pn ?_
                    refine sq2 (sq2 (cd hm ?_ ?_)) <;> intro hb4 hm
                    · exact je hm (hS.sel [0] rfl)
                    refine pn ?_
                    refine sq2 (sq2 (cd hm ?_ ?_)) <;> intro hb5 hm
                    · exact je hm (hS.sel [0] rfl)
                    refine pn ?_
                    refine sq2 (sq2 (cd hm ?_ ?_)) <;> intro hb6 hm
                    · exact je hm (hS.sel [0] rfl)
                    refine pn ?_
                    refine sq2 (sq2 (cd hm ?_ ?_)) <;> intro hb7 hm
                    · exact je hm (hS.sel [0] rfl)
                    refine pn ?_
                    refine sq2 (sq2 (cd hm ?_ ?_)) <;> intro hb8 hm
                    · exact je hm (hS.sel [0] rfl)
                    refine pn ?_
                    refine sq2 (sq2 (cd hm ?_ ?_)) <;> intro hb9 hm
                    · exact je hm (hS.sel [0] rfl)
                    refine pn ?_
                    refine sq2 (sq2 (cd hm ?_ ?_)) <;> intro hb10 hm
                    · exact je hm (hS.sel [0] rfl)
                    refine pn ?_
                    refine sq2 (sq2 (cd hm ?_ ?_)) <;> intro hb11 hm
                    · exact je hm (hS.sel [0] rfl)
                    refine pn ?_
                    refine sq2 (sq2 (cd hm ?_ ?_)) <;> intro hb12 hm
                    · exact je hm (hS.sel [0] rfl)
                    refine skp (t_thenR [(0, iv p0), (1, .int .u32 p1), (2, .int .u32 p2), (7, iv p0)] ⟨rfl, rfl, rfl, rfl, trivial⟩ fun J => ?_)
                    refine sq2 (sq2 (cd hm ?_ ?_)) <;> intro hb13 hm
                    · exact je hm (hS.sel [0] rfl)
                    refine pn ?_
                    refine sq2 (sq2 (cd hm ?_ ?_)) <;> intro hb14 hm
                    · exact je hm (hS.sel [0] rfl)
                    refine pn ?_
                    refine sq2 (sq2 (cd hm ?_ ?_)) <;> intro hb15 hm
                    · exact je hm (hS.sel [0] rfl)
                    refine pn ?_
                    refine sq2 (sq2 (cd hm ?_ ?_)) <;> intro hb16 hm
                    · exact je hm (hS.sel [0] rfl)
                    refine pn ?_
                    refine sq2 (sq2 (cd hm ?_ ?_)) <;> intro hb17 hm
                    · exact je hm (hS.sel [0] rfl)
                    refine pn ?_
                    refine sq2 (sq2 (cd hm ?_ ?_)) <;> intro hb18 hm
                    · exact je hm (hS.sel [0] rfl)
                    refine pn ?_
                    refine sq2 (cd hm ?_ ?_) <;> intro hb19 hm
                    · refine pn ?_
                      refine sq2 (sq2 (pu ?_))
                      refine cB cf311 hm (word_Sub_sim (hS.bun [0] [] rfl)) ?_
                      rintro y1 _ T10 w10 im10 ⟨rfl, hS1, _⟩ hm
                      exact re hm (hS1.sel [0] rfl)
                    refine pn ?_
                    refine pn ?_
                    refine sq2 (pu ?_)
                    refine cB cf312 hm (device_product_sim (hS.bun [0] [] rfl)) ?_
                    rintro y2 _ T11 w11 im11 ⟨rfl, hS2, _⟩ hm
                    exact re hm (hS2.sel [0] rfl)
                  rintro _ w9 ⟨T9, J, hm, rfl, hS3, im9⟩
                  refine sq2 (sq2 (pu ?_))
                  refine cB cf307 hm (word_Add_sim (hS3.bun [0] [] rfl)) ?_
                  rintro y3 _ T12 w12 im12 ⟨rfl, hS4, _⟩ hm
                  exact re hm (hS4.sel [0] rfl)
                rintro _ w8 ⟨T8, J, hm, rfl, hS5, im8⟩
                refine sq2 (sq2 (pu ?_))
                refine cB cf301 hm (word_Less_sim (hS5.bun [0] [] rfl)) ?_
                rintro y4 _ T13 w13 im13 ⟨rfl, hS6, _⟩ hm
                exact re hm (hS6.sel [0] rfl)
              rintro _ w7 ⟨T7, J, hm, rfl, hS7, im7⟩
              refine sq2 (sq2 (pu ?_))
              refine cB cf302 hm (word_LessU_sim (hS7.bun [0] [] rfl)) ?_
              rintro y5 _ T14 w14 im14 ⟨rfl, hS8, _⟩ hm
              exact re hm (hS8.sel [0] rfl)
            rintro _ w6 ⟨T6, J, hm, rfl, hS9, im6⟩
            exact sq2 (sq2 (re hm (hS9.sel [0] rfl)))
          rintro _ w5 ⟨T5, J, hm, rfl, hS10, im5⟩
          exact sq2 (sq2 (re hm (hS10.sel [0] rfl)))
        rintro _ w4 ⟨T4, J, hm, rfl, hS11, im4⟩
        exact sq2 (sq2 (re hm (hS11.sel [0] rfl)))
      rintro _ w3 ⟨T3, J, hm, rfl, hS12, im3⟩
      refine sq2 (sq2 (pu ?_))
      refine cB cf308 hm (word_Left_sim (hS12.bun [0] [] rfl)) ?_
      rintro y6 _ T15 w15 im15 ⟨rfl, hS13, _⟩ hm
      exact re hm (hS13.sel [0] rfl)
    rintro _ w2 ⟨T2, J, hm, rfl, hS14, im2⟩
    refine sq2 (sq2 (pu ?_))
    refine cB cf309 hm (word_Right_sim (hS14.bun [0] [] rfl)) ?_
    rintro y7 _ T16 w16 im16 ⟨rfl, hS15, _⟩ hm
    exact re hm (hS15.sel [0] rfl)
  rintro _ w1 ⟨T1, J, hm, rfl, hS16, im1⟩
  refine sq2 (sq2 (pu ?_))
  refine cB cf310 hm (word_RightS_sim (hS16.bun [0] [] rfl)) ?_
  rintro y8 _ T17 w17 im17 ⟨rfl, hS17, _⟩ hm
  exact re hm (hS17.sel [0] rfl)

theorem device_Machine_do_sim {p0 : DeviceMachine} {b_p0 o_p0 : Nat} {H_p0 : List Value → Assn} {a1 c1 a2 n1 c2 a3 n2 c3 a4 c4 a5 n3 c5} {p1 : GInst} (hS : Sep g T0 w0 [starL R, segH (H_p0) enI_u32' p0.volatile.regs [.int .u32 p0.volatile.pc, .int .u32 p0.volatile.seq, .int .u32 p0.volatile.index, sv a1 p0.code c1, .slice a2 n1 c2, .slice a3 n2 c3, sv a4 p0.inputs c4, .slice a5 n3 c5, iv p0.steps, iv p0.state, .int .u32 p0.exit], ownA rDeviceMet 303 (.slice a2 n1 c2) p0.met, ownA (rInt .u8) 5 (.slice a3 n2 c3) p0.data, ownA rGRecord 63 (.slice a5 n3 c5) p0.log]) (hL_p0 : Ln b_p0 o_p0 H_p0) (h1 : SlR (rInt .u32) T0 w0 (sv a1 p0.code c1) p0.code) (h2 : SlR (rInt .u32) T0 w0 (sv a4 p0.inputs c4) p0.inputs) : ∀ r, device_Machine_do p0 p1 = some r →
    Calls Tryz.prog 113 #[pt b_p0 o_p0, .agg (cGInst p1).toArray] w0 (RetS T0 w0 fun T w v => ∃ a12 c12 a13 c13 a14 n6 c14, v = .bool r.1 ∧ Sep g T w (R ++ [segH (H_p0) enI_u32' r.2.volatile.regs [.int .u32 r.2.volatile.pc, .int .u32 r.2.volatile.seq, .int .u32 r.2.volatile.index, sv a12 r.2.code c12, .slice a2 n1 c2, .slice a3 n2 c3, sv a13 r.2.inputs c13, .slice a14 n6 c14, iv r.2.steps, iv r.2.state, .int .u32 r.2.exit], ownA rDeviceMet 303 (.slice a2 n1 c2) r.2.met, ownA (rInt .u8) 5 (.slice a3 n2 c3) r.2.data, ownA rGRecord 63 (.slice a14 n6 c14) r.2.log]) ∧ SlR (rInt .u32) T w (sv a12 r.2.code c12) r.2.code ∧ SlR (rInt .u32) T w (sv a13 r.2.inputs c13) r.2.inputs ∧ True) := by
  intro r hm
  refine enter Tryz.func113 rfl Tryz.ntmps113 rfl fun J => ?_
  unfold device_Machine_do at hm
  refine sq2 (bX (cGInst p1) hS ?_)
  intro w1 b1 im1 hS1
  refine pn ?_
  refine sq2 ?_
  obtain ⟨z_1, hln1, hm⟩ := bindS hm
  obtain ⟨u1, hx1, hm⟩ := bindS hm
  obtain ⟨of1, he1⟩ : ∃ z : Nat, z = (o_p0 + 0) + (Int.toNat p1.Rs1) * 1 := ⟨_, rfl⟩
  obtain ⟨u2, hx2, hm⟩ := bindS hm
  obtain ⟨of2, he2⟩ : ∃ z : Nat, z = (o_p0 + 0) + (Int.toNat p1.Rs2) * 1 := ⟨_, rfl⟩
  refine rqS hS1 (pu ?_)
  refine qv (fun _ hq => r_ixA rfl rfl (lenOk_some hln1) hx1 underlying98 sizeOf30 he1) (qv (fun _ hq => r_ld rfl isAgg30 (hq.cell ((Sep.segEl hS1 (q := 2) ⟨rfl, rfl⟩ hL_p0 enI_u32'_len hx1 he1).get (j := 0) rfl))) (pu ?_))
  refine qv (fun _ hq => r_ixA rfl rfl (lenOk_some hln1) hx2 underlying98 sizeOf30 he2) (qv (fun _ hq => r_ld rfl isAgg30 (hq.cell ((Sep.segEl hS1 (q := 2) ⟨rfl, rfl⟩ hL_p0 enI_u32'_len hx2 he2).get (j := 0) rfl))) (pn ?_))
  intro w2 T1 im2 hS2
  refine t_then ?_
  refine sq2 (pu ?_)
  refine pv (r_ld rfl isAgg30 (hS2.cellB (i := 2) ⟨rfl, rfl⟩ (lnSeg (k := 32) hL_p0 (lenOk_some hln1) enI_u32'_len rfl) (j := 0) rfl)) (pu ?_)
  refine nil (t_thenR [(0, pt b_p0 o_p0), (3, pt b1 0), (5, .int .u32 u1), (6, .int .u32 u2), (7, .int .u32 (IntKind.wrap .u32 p1.Imm)), (8, .int .u32 (IntKind.wrap .u32 (p0.volatile.pc + 4)))] ⟨rfl, rfl, rfl, rfl, rfl, rfl, trivial⟩ fun J => ?_)
  refine cutJ hm (fun kk1 a w3 => ∃ (T2 : _) (x5 : DeviceMachine) (a6 : _) (n4 : _) (c6 : _) (x4 : _) (a7 : _) (c7 : _) (a8 : _) (c8 : _), JR (nf 187) g T1 w2 a w3 T2 (kk1 x4 x5 = some r) [(0, pt b_p0 o_p0), (8, .int .u32 x4)] [starL R, segH (H_p0) enI_u32' x5.volatile.regs [.int .u32 x5.volatile.pc, .int .u32 x5.volatile.seq, .int .u32 x5.volatile.index, sv a7 x5.code c7, .slice a2 n1 c2, .slice a3 n2 c3, sv a8 x5.inputs c8, .slice a6 n4 c6, iv x5.steps, iv x5.state, .int .u32 x5.exit], ownA rDeviceMet 303 (.slice a2 n1 c2) x5.met, ownA (rInt .u8) 5 (.slice a3 n2 c3) x5.data, ownA rGRecord 63 (.slice a6 n4 c6) x5.log] ∧ SlR (rInt .u32) T2 w3 (sv a7 x5.code c7) x5.code ∧ SlR (rInt .u32) T2 w3 (sv a8 x5.inputs c8) x5.inputs) (fun kk1 hm => ?_) ?_
  · refine blk (sq2 (cd hm ?_ ?_)) <;> intro hb1 hm
    · refine rsS [0, 0, 1, 0, 0, 0, 0, 0, 2] [0, 1, 2, 3, 4, 5, 6, 7, 8] hS2 fun w4 im4 hS3 => ?_
      obtain ⟨u3, hx3, hm⟩ := bindS hm
      obtain ⟨of3, he3⟩ : ∃ z : Nat, z = (o_p0 + 0) + (Int.toNat p1.Rd) * 1 := ⟨_, rfl⟩
      obtain ⟨u4, hx4, hm⟩ := bindS hm
      obtain rfl : u3 = u4 := oI (hx3.symm.trans hx4)
      refine pu ?_
      refine s0 rfl trivial (fun _ => r_ixA rfl rfl (lenOk_some hln1) hx3 underlying98 sizeOf30 he3) rfl ?_
      refine s2W [0] ?_
      refine stSeg (q := 2) (i := p1.Rd) (j := 0) (u := u3) (u' := IntKind.wrap .u32 p1.Imm) hS3 ⟨rfl, rfl⟩ hL_p0 enI_u32'_len hx4 he3 rfl rfl rfl sizeOf30 rfl rfl rfl rfl fun w5 im5 hS4 => ?_
      refine pu ?_
      exact je hm (hS4.sel (nrow 1 5) rfl)
    refine sq2 (cd hm ?_ ?_) <;> intro hb2 hm
    · refine rsS [0, 0, 1, 0, 0, 0, 0, 1, 0, 0, 0, 0, 0, 0, 2] [0, 1, 2, 3, 4, 5, 6, 7, 8, 9, 10, 11, 12, 13, 14] hS2 fun w6 im6 hS5 => ?_
      obtain ⟨u5, hx5, hm⟩ := bindS hm
      obtain ⟨of4, he4⟩ : ∃ z : Nat, z = (o_p0 + 0) + (Int.toNat p1.Rd) * 1 := ⟨_, rfl⟩
      obtain ⟨u6, hx6, hm⟩ := bindS hm
      obtain rfl : u5 = u6 := oI (hx5.symm.trans hx6)
      refine pu ?_
      refine s1 rfl trivial (r_ld rfl isAgg30 (hS5.cellB (i := 2) ⟨rfl, rfl⟩ (lnSeg (k := 32) hL_p0 (lenOk_some hln1) enI_u32'_len rfl) (j := 0) rfl)) rfl (pu ?_)
      refine s0 rfl trivial (fun _ => r_ixA rfl rfl (lenOk_some hln1) hx5 underlying98 sizeOf30 he4) rfl ?_
      refine s2W [0, 0] ?_
      refine stSeg (q := 2) (i := p1.Rd) (j := 0) (u := u5) (u' := IntKind.wrap .u32 (p0.volatile.pc + (IntKind.wrap .u32 p1.Imm))) hS5 ⟨rfl, rfl⟩ hL_p0 enI_u32'_len hx6 he4 rfl rfl rfl sizeOf30 rfl rfl rfl rfl fun w7 im7 hS6 => ?_
      refine pu ?_
      exact je hm (hS6.sel (nrow 1 5) rfl)
    refine sq2 (cd hm ?_ ?_) <;> intro hb3 hm
    · refine rsS [0, 0, 1, 0, 0, 0, 0, 0, 1, 0, 0, 0, 0, 0, 0, 2, 0] [0, 1, 2, 3, 4, 5, 6, 7, 8, 9, 10, 11, 12, 13, 14, 15, 16] hS2 fun w8 im8 hS7 => ?_
      obtain ⟨u7, hx7, hm⟩ := bindS hm
      obtain ⟨of5, he5⟩ : ∃ z : Nat, z = (o_p0 + 0) + (Int.toNat p1.Rd) * 1 := ⟨_, rfl⟩
      obtain ⟨u8, hx8, hm⟩ := bindS hm
      obtain rfl : u7 = u8 := oI (hx7.symm.trans hx8)
      refine pu ?_
      refine s1 rfl trivial (r_ld rfl isAgg30 (hS7.cellB (i := 2) ⟨rfl, rfl⟩ (lnSeg (k := 32) hL_p0 (lenOk_some hln1) enI_u32'_len rfl) (j := 0) rfl)) rfl (pu ?_)
      refine s0 rfl trivial (fun _ => r_ixA rfl rfl (lenOk_some hln1) hx7 underlying98 sizeOf30 he5) rfl ?_
      refine s2W [0, 0] ?_
      refine stSeg (q := 2) (i := p1.Rd) (j := 0) (u := u7) (u' := IntKind.wrap .u32 (p0.volatile.pc + 4)) hS7 ⟨rfl, rfl⟩ hL_p0 enI_u32'_len hx8 he5 rfl rfl rfl sizeOf30 rfl rfl rfl rfl fun w9 im9 hS8 => ?_
      refine pu ?_
      exact je hm (hS8.sel (nrow 1 5) rfl)
    refine sq2 (cd hm ?_ ?_) <;> intro hb4 hm
    · refine rsS [0, 0, 1, 0, 0, 0, 0, 0, 0, 0, 0, 0, 2, 0] [0, 1, 2, 3, 4, 5, 6, 7, 8, 9, 10, 11, 12, 13] hS2 fun w10 im10 hS9 => ?_
      obtain ⟨u9, hx9, hm⟩ := bindS hm
      obtain ⟨of6, he6⟩ : ∃ z : Nat, z = (o_p0 + 0) + (Int.toNat p1.Rd) * 1 := ⟨_, rfl⟩
      obtain ⟨u10, hx10, hm⟩ := bindS hm
      obtain rfl : u9 = u10 := oI (hx9.symm.trans hx10)
      refine pu ?_
      refine s0 rfl trivial (fun _ => r_ixA rfl rfl (lenOk_some hln1) hx9 underlying98 sizeOf30 he6) rfl ?_
      refine s2W [0] ?_
      refine stSeg (q := 2) (i := p1.Rd) (j := 0) (u := u9) (u' := IntKind.wrap .u32 (p0.volatile.pc + 4)) hS9 ⟨rfl, rfl⟩ hL_p0 enI_u32'_len hx10 he6 rfl rfl rfl sizeOf30 rfl rfl rfl rfl fun w11 im11 hS10 => ?_
      refine pu ?_
      exact je hm (hS10.sel (nrow 1 5) rfl)
    refine sq2 (cd hm ?_ ?_) <;> intro hb5 hm
    · refine sq2 (pu ?_)
      refine cB cf175 hm (device_branches_sim (hS2.bun (nrow 1 5) [] rfl)) ?_
      rintro y1 _ T3 w12 im12 ⟨rfl, hS11, _⟩ hm
      refine nil (t_thenR [(0, pt b_p0 o_p0), (7, .int .u32 (IntKind.wrap .u32 p1.Imm)), (8, .int .u32 (IntKind.wrap .u32 (p0.volatile.pc + 4))), (121, .bool y1)] ⟨rfl, rfl, rfl, rfl, trivial⟩ fun J => ?_)
      refine cd hm ?_ ?_ <;> intro hb6 hm
      · refine pu ?_
        exact pv (r_ld rfl isAgg30 (hS11.cellB (i := 1) ⟨rfl, rfl⟩ (lnSeg (k := 32) hL_p0 (lenOk_some hln1) enI_u32'_len rfl) (j := 0) rfl)) (je hm (hS11.sel (nrow 0 5) rfl))
      exact je hm (hS11.sel (nrow 0 5) rfl)
    refine sq2 (cd hm ?_ ?_) <;> intro hb7 hm
    · refine sq2 (pu ?_)
      refine cB cf176 hm (device_Machine_load_sim (hS2.bun [0, 1] (nrow 2 4) rfl) hL_p0 (h1.mono ch) (h2.mono ch)) ?_
      rintro y2 _ T4 w13 im13 ⟨rfl, hS12, _⟩ hm
      refine pu ?_
      refine nil (t_thenR [(0, pt b_p0 o_p0), (3, pt b1 0), (8, .int .u32 (IntKind.wrap .u32 (p0.volatile.pc + 4))), (9, .int .u32 y2.1), (10, .bool y2.2)] ⟨rfl, rfl, rfl, rfl, rfl, trivial⟩ fun J => ?_)
      refine sq2 (sq2 (cd hm ?_ ?_)) <;> intro hb8 hm
      · exact sq2 (re hm (hS12.sel (nrow 1 5) rfl))
      refine pn ?_
      refine rsS [0, 0, 1, 0, 0, 0, 0, 0, 2] [0, 1, 2, 3, 4, 5, 6, 7, 8] hS12 fun w14 im14 hS13 => ?_
      obtain ⟨u11, hx13, hm⟩ := bindS hm
      obtain ⟨of7, he7⟩ : ∃ z : Nat, z = (o_p0 + 0) + (Int.toNat p1.Rd) * 1 := ⟨_, rfl⟩
      obtain ⟨u12, hx14, hm⟩ := bindS hm
      obtain rfl : u11 = u12 := oI (hx13.symm.trans hx14)
      refine pu ?_
      refine s0 rfl trivial (fun _ => r_ixA rfl rfl (lenOk_some hln1) hx13 underlying98 sizeOf30 he7) rfl ?_
      refine s2W [0] ?_
      refine stSeg (q := 2) (i := p1.Rd) (j := 0) (u := u11) (u' := y2.1) hS13 ⟨rfl, rfl⟩ hL_p0 enI_u32'_len hx14 he7 rfl rfl rfl sizeOf30 rfl rfl rfl rfl fun w15 im15 hS14 => ?_
      refine pu ?_
      exact je hm (hS14.sel (nrow 1 5) rfl)
    refine sq2 (pu ?_)
    refine nil (t_thenR [(0, pt b_p0 o_p0), (3, pt b1 0), (5, .int .u32 u1), (6, .int .u32 u2), (7, .int .u32 (IntKind.wrap .u32 p1.Imm)), (8, .int .u32 (IntKind.wrap .u32 (p0.volatile.pc + 4))), (153, .bool (decide (p1.Op ≤ 18)))] ⟨rfl, rfl, rfl, rfl, rfl, rfl, rfl, trivial⟩ fun J => ?_)
    refine cd hm ?_ ?_ <;> intro hb9 hm
    · refine sq2 (pu ?_)
      refine cB cf177 hm (device_Machine_store_sim (hS2.bun [1] (nrow 2 4) rfl) hL_p0 (h1.mono ch) (h2.mono ch)) ?_
      rintro y3 _ T5 w16 im16 ⟨a9, c9, a10, c10, a11, n5, c11, rfl, hS15, h5, h6, _⟩ hm
      refine cd hm ?_ ?_ <;> intro hb10 hm
      · exact sq2 (re hm (hS15.sel (nrow 0 5) rfl))
      exact je hm (hS15.sel (nrow 0 5) rfl)
    refine sq2 (cd hm ?_ ?_) <;> intro hb11 hm
    · refine rsS [0, 0, 1, 0, 1, 0, 0, 2, 0, 0, 0, 0, 2] [0, 1, 2, 3, 4, 5, 6, 8, 9, 10, 7, 11, 12] hS2 fun w17 im17 hS16 => ?_
      obtain ⟨y4, hx16, hm⟩ := bindS hm
      refine sS [(2, iv p1.Rd)] cf178 (device_reckoned_sim (hS16.bun (nrow 1 5 ++ [0]) [] rfl) _ hx16) ?_
      rintro _ T6 w18 im18 ⟨rfl, hS17, _⟩
      refine pu ?_
      obtain ⟨u13, hx17, hm⟩ := bindS hm
      obtain ⟨of8, he8⟩ : ∃ z : Nat, z = (o_p0 + 0) + (Int.toNat p1.Rd) * 1 := ⟨_, rfl⟩
      obtain ⟨u14, hx18, hm⟩ := bindS hm
      obtain rfl : u13 = u14 := oI (hx17.symm.trans hx18)
      refine s0 rfl trivial (fun _ => r_ixA rfl rfl (lenOk_some hln1) hx17 underlying98 sizeOf30 he8) rfl (?_)
      refine s2W [0] ?_
      refine stSeg (q := 1) (i := p1.Rd) (j := 0) (u := u13) (u' := y4) hS17 ⟨rfl, rfl⟩ hL_p0 enI_u32'_len hx18 he8 rfl rfl rfl sizeOf30 rfl rfl rfl rfl fun w19 im19 hS18 => ?_
      refine pu ?_
      exact je hm (hS18.sel (nrow 0 5) rfl)
    refine rsS [0, 0, 1, 0, 1, 0, 0, 2, 0, 0, 0, 0, 2] [0, 1, 2, 3, 4, 5, 6, 8, 9, 10, 7, 11, 12] hS2 fun w20 im20 hS19 => ?_
    obtain ⟨y5, hx19, hm⟩ := bindS hm
    refine sS [(2, iv p1.Rd)] cf178 (device_reckoned_sim (hS19.bun (nrow 1 5 ++ [0]) [] rfl) _ hx19) ?_
    rintro _ T7 w21 im21 ⟨rfl, hS20, _⟩
    refine pu ?_
    obtain ⟨u15, hx20, hm⟩ := bindS hm
    obtain ⟨of9, he9⟩ : ∃ z : Nat, z = (o_p0 + 0) + (Int.toNat p1.Rd) * 1 := ⟨_, rfl⟩
    obtain ⟨u16, hx21, hm⟩ := bindS hm
    obtain rfl : u15 = u16 := oI (hx20.symm.trans hx21)
    refine s0 rfl trivial (fun _ => r_ixA rfl rfl (lenOk_some hln1) hx20 underlying98 sizeOf30 he9) rfl (?_)
    refine s2W [0] ?_
    refine stSeg (q := 1) (i := p1.Rd) (j := 0) (u := u15) (u' := y5) hS20 ⟨rfl, rfl⟩ hL_p0 enI_u32'_len hx21 he9 rfl rfl rfl sizeOf30 rfl rfl rfl rfl fun w22 im22 hS21 => ?_
    refine pu ?_
    exact je hm (hS21.sel (nrow 0 5) rfl)
  rintro _ w3 ⟨T2, x5, a6, n4, c6, x4, a7, c7, a8, c8, ⟨J, hm, rfl, hS22, im3⟩, h3, h4⟩
  refine sq2 ?_
  obtain ⟨z_2, hln2, hm⟩ := bindS hm
  refine pu ?_
  refine wl rfl (stB (q := 1) (j := 0) hS22 ⟨rfl, rfl⟩ (lnSeg (k := 32) hL_p0 (lenOk_some hln2) enI_u32'_len rfl) rfl rfl rfl sizeOf30 rfl rfl rfl fun w23 im23 hS23 => ?_)
  refine pn ?_
  exact sq2 (re hm (hS23.sel (nrow 0 5) rfl))

theorem device_Machine_Step_sim {p0 : DeviceMachine} {b_p0 o_p0 : Nat} {H_p0 : List Value → Assn} {a1 c1 a2 n1 c2 a3 n2 c3 a4 c4 a5 n3 c5} (hS : Sep g T0 w0 [starL R, segH (H_p0) enI_u32' p0.volatile.regs [.int .u32 p0.volatile.pc, .int .u32 p0.volatile.seq, .int .u32 p0.volatile.index, sv a1 p0.code c1, .slice a2 n1 c2, .slice a3 n2 c3, sv a4 p0.inputs c4, .slice a5 n3 c5, iv p0.steps, iv p0.state, .int .u32 p0.exit], ownA rDeviceMet 303 (.slice a2 n1 c2) p0.met, ownA (rInt .u8) 5 (.slice a3 n2 c3) p0.data, ownA rGRecord 63 (.slice a5 n3 c5) p0.log]) (hL_p0 : Ln b_p0 o_p0 H_p0) (h1 : SlR (rInt .u32) T0 w0 (sv a1 p0.code c1) p0.code) (h2 : SlR (rInt .u32) T0 w0 (sv a4 p0.inputs c4) p0.inputs) : ∀ r, device_Machine_Step p0 = some r →
    Calls Tryz.prog 70 #[pt b_p0 o_p0] w0 (RetS T0 w0 fun T w v => ∃ a11 c11 a12 c12 a13 n5 c13, v = iv r.1 ∧ Sep g T w (R ++ [segH (H_p0) enI_u32' r.2.volatile.regs [.int .u32 r.2.volatile.pc, .int .u32 r.2.volatile.seq, .int .u32 r.2.volatile.index, sv a11 r.2.code c11, .slice a2 n1 c2, .slice a3 n2 c3, sv a12 r.2.inputs c12, .slice a13 n5 c13, iv r.2.steps, iv r.2.state, .int .u32 r.2.exit], ownA rDeviceMet 303 (.slice a2 n1 c2) r.2.met, ownA (rInt .u8) 5 (.slice a3 n2 c3) r.2.data, ownA rGRecord 63 (.slice a13 n5 c13) r.2.log]) ∧ SlR (rInt .u32) T w (sv a11 r.2.code c11) r.2.code ∧ SlR (rInt .u32) T w (sv a12 r.2.inputs c12) r.2.inputs ∧ True) := by
  intro r hm
  refine enter Tryz.func70 rfl Tryz.ntmps70 rfl fun J => ?_
  unfold device_Machine_Step at hm
  refine sq2 (pn ?_)
  refine sq2 (sq2 ?_)
  obtain ⟨z_1, hln1, hm⟩ := bindS hm
  refine pu ?_
  refine pv (r_pne rfl rfl rfl underlying70) (pu ?_)
  refine pv (r_ld rfl isAgg3 (hS.cellB (i := 1) ⟨rfl, rfl⟩ (lnSeg (k := 32) hL_p0 (lenOk_some hln1) enI_u32'_len rfl) (j := 9) rfl)) (cd hm ?_ ?_) <;> intro hb1 hm
  · refine sq2 (pu ?_)
    refine cB cf25 hm (device_Machine_State_sim (hS.bun [0] (nrow 1 4) rfl) hL_p0 h1 h2) ?_
    rintro y1 _ T1 w1 im1 ⟨rfl, hS1, _⟩ hm
    exact re hm (hS1.sel (nrow 0 5) rfl)
  refine pn ?_
  refine sq2 (pu ?_)
  refine cB cf112 hm (device_Machine_fetch_sim (hS.bun [0] (nrow 1 4) rfl) hL_p0 h1 h2) ?_
  rintro y2 _ T2 w2 im2 ⟨a6, c6, a7, c7, rfl, hS2, h3, h4, _⟩ hm
  refine aL [iv 0, iv 0, iv 0, iv 0, iv 0] hS2 ?_
  intro w3 b1 im3 hS3
  refine sT 0 hS3 ?_
  intro w4 im4 hS4
  refine pn ?_
  refine sq2 (sq2 (pu ?_))
  rcases bc hm with ⟨hb2, hm⟩ | ⟨hb2, hm⟩
  · refine pn ?_
    refine cnd (b := true) rfl (fun _ => ?_) (fun h => nomatch h)
    refine sq2 ?_
    obtain ⟨z_4, hln4, hm⟩ := bindS hm
    refine pu ?_
    refine wl rfl (stB (q := 2) (j := 9) hS4 ⟨rfl, rfl⟩ (lnSeg (k := 32) hL_p0 (lenOk_some hln4) enI_u32'_len rfl) rfl rfl rfl sizeOf3 rfl rfl rfl fun w9 im9 hS9 => ?_)
    refine nil (t_thenR [(0, pt b_p0 o_p0)] ⟨rfl, trivial⟩ fun J => ?_)
    refine sq2 (pu ?_)
    exact pv (r_ld rfl isAgg3 (hS9.cellB (i := 2) ⟨rfl, rfl⟩ (lnSeg (k := 32) hL_p0 (lenOk_some hln4) enI_u32'_len rfl) (j := 9) rfl)) (re hm (hS9.sel (nrow 1 5) rfl))
  refine pu ?_
  refine cB cf113 hm (device_Machine_do_sim (hS4.bun [1] (nrow 2 4) rfl) hL_p0 (h3.mono ch) (h4.mono ch)) ?_
  rintro y3 _ T3 w5 im5 ⟨a8, c8, a9, c9, a10, n4, c10, rfl, hS5, h5, h6, _⟩ hm
  refine cd hm ?_ ?_ <;> intro hb3 hm
  · refine sq2 ?_
    obtain ⟨z_2, hln2, hm⟩ := bindS hm
    refine pu ?_
    refine wl rfl (stB (q := 1) (j := 9) hS5 ⟨rfl, rfl⟩ (lnSeg (k := 32) hL_p0 (lenOk_some hln2) enI_u32'_len rfl) rfl rfl rfl sizeOf3 rfl rfl rfl fun w6 im6 hS6 => ?_)
    refine nil (t_thenR [(0, pt b_p0 o_p0)] ⟨rfl, trivial⟩ fun J => ?_)
    refine sq2 (pu ?_)
    exact pv (r_ld rfl isAgg3 (hS6.cellB (i := 1) ⟨rfl, rfl⟩ (lnSeg (k := 32) hL_p0 (lenOk_some hln2) enI_u32'_len rfl) (j := 9) rfl)) (re hm (hS6.sel (nrow 0 5) rfl))
  refine skp (t_thenR [(0, pt b_p0 o_p0)] ⟨rfl, trivial⟩ fun J => ?_)
  refine sq2 ?_
  obtain ⟨z_3, hln3, hm⟩ := bindS hm
  obtain ⟨u1, hx4, hm⟩ := bindS hm
  obtain ⟨of1, he1⟩ : ∃ z : Nat, z = (o_p0 + 0) + (Int.toNat 0) * 1 := ⟨_, rfl⟩
  obtain ⟨u2, hx5, hm⟩ := bindS hm
  obtain rfl : u1 = u2 := oI (hx4.symm.trans hx5)
  refine pu ?_
  refine pv (r_ixA rfl rfl (lenOk_some hln3) hx4 underlying98 sizeOf30 he1) (wl rfl (stSeg (q := 1) (i := 0) (j := 0) (u := u1) (u' := 0) hS5 ⟨rfl, rfl⟩ hL_p0 enI_u32'_len hx5 he1 rfl rfl rfl sizeOf30 rfl rfl rfl rfl fun w7 im7 hS7 => ?_))
  refine pn ?_
  refine sq2 (pu ?_)
  refine pv (r_ld rfl isAgg3 (hS7.cellB (i := 1) ⟨rfl, rfl⟩ (lnSeg (k := 32) hL_p0 (len_set (lenOk_some hln3)) enI_u32'_len rfl) (j := 8) rfl)) (pu ?_)
  refine wl rfl (stB (q := 1) (j := 8) hS7 ⟨rfl, rfl⟩ (lnSeg (k := 32) hL_p0 (len_set (lenOk_some hln3)) enI_u32'_len rfl) rfl rfl rfl sizeOf3 rfl rfl rfl fun w8 im8 hS8 => ?_)
  refine pn ?_
  refine sq2 (pu ?_)
  exact pv (r_ld rfl isAgg3 (hS8.cellB (i := 1) ⟨rfl, rfl⟩ (lnSeg (k := 32) hL_p0 (len_set (lenOk_some hln3)) enI_u32'_len rfl) (j := 9) rfl)) (re hm (hS8.sel (nrow 0 5) rfl))

theorem device_Machine_Run_sim {p0 : DeviceMachine} {b_p0 o_p0 : Nat} {H_p0 : List Value → Assn} {a1 c1 a2 n1 c2 a3 n2 c3 a4 c4 a5 n3 c5 p1} {p2 : List Int} {a6 c6} (hS : Sep g T0 w0 [starL R, segH (H_p0) enI_u32' p0.volatile.regs [.int .u32 p0.volatile.pc, .int .u32 p0.volatile.seq, .int .u32 p0.volatile.index, sv a1 p0.code c1, .slice a2 n1 c2, .slice a3 n2 c3, sv a4 p0.inputs c4, .slice a5 n3 c5, iv p0.steps, iv p0.state, .int .u32 p0.exit], ownA rDeviceMet 303 (.slice a2 n1 c2) p0.met, ownA (rInt .u8) 5 (.slice a3 n2 c3) p0.data, ownA rGRecord 63 (.slice a5 n3 c5) p0.log]) (hL_p0 : Ln b_p0 o_p0 H_p0) (h1 : SlR (rInt .u32) T0 w0 (sv a1 p0.code c1) p0.code) (h2 : SlR (rInt .u32) T0 w0 (sv a4 p0.inputs c4) p0.inputs) (h3 : SlR (rInt .i64) T0 w0 (sv a6 p2 c6) p2) : ∀ r, device_Machine_Run p0 p1 p2 = some r →
    Calls Tryz.prog 39 #[pt b_p0 o_p0, iv p1, sv a6 p2 c6] w0 (RetS T0 w0 fun T w v => ∃ a23 c23 a24 c24 a25 n6 c25, v = iv r.1 ∧ Sep g T w (R ++ [segH (H_p0) enI_u32' r.2.volatile.regs [.int .u32 r.2.volatile.pc, .int .u32 r.2.volatile.seq, .int .u32 r.2.volatile.index, sv a23 r.2.code c23, .slice a2 n1 c2, .slice a3 n2 c3, sv a24 r.2.inputs c24, .slice a25 n6 c25, iv r.2.steps, iv r.2.state, .int .u32 r.2.exit], ownA rDeviceMet 303 (.slice a2 n1 c2) r.2.met, ownA (rInt .u8) 5 (.slice a3 n2 c3) r.2.data, ownA rGRecord 63 (.slice a25 n6 c25) r.2.log]) ∧ SlR (rInt .u32) T w (sv a23 r.2.code c23) r.2.code ∧ SlR (rInt .u32) T w (sv a24 r.2.inputs c24) r.2.inputs ∧ True) := by
  intro r hm
  refine enter Tryz.func39 rfl Tryz.ntmps39 rfl fun J => ?_
  unfold device_Machine_Run at hm
  refine sq2 (pn ?_)
  refine sq2 (sq2 (pu ?_))
  refine pv (r_pne rfl rfl rfl underlying70) (pn ?_)
  refine cnd (b := false) rfl (fun h => nomatch h) (fun _ => ?_)
  refine pn ?_
  refine sq2 (lpJ hm (fun bd1 o1 m a w1 => ∃ (T1 : _) (x5 : DeviceMachine) (a7 : _) (n4 : _) (c7 : _) (x4 : List Int) (a8 : _) (c8 : _) (a9 : _) (c9 : _) (a10 : _) (c10 : _), JR (nf 60) g T0 w0 a w1 T1 (loopM bd1 m (x4, x5) = some o1) [(0, pt b_p0 o_p0), (1, iv p1), (2, sv a8 x4 c8)] [starL R, segH (H_p0) enI_u32' x5.volatile.regs [.int .u32 x5.volatile.pc, .int .u32 x5.volatile.seq, .int .u32 x5.volatile.index, sv a9 x5.code c9, .slice a2 n1 c2, .slice a3 n2 c3, sv a10 x5.inputs c10, .slice a7 n4 c7, iv x5.steps, iv x5.state, .int .u32 x5.exit], ownA rDeviceMet 303 (.slice a2 n1 c2) x5.met, ownA (rInt .u8) 5 (.slice a3 n2 c3) x5.data, ownA rGRecord 63 (.slice a7 n4 c7) x5.log] ∧ SlR (rInt .i64) T1 w1 (sv a8 x4 c8) x4 ∧ SlR (rInt .u32) T1 w1 (sv a9 x5.code c9) x5.code ∧ SlR (rInt .u32) T1 w1 (sv a10 x5.inputs c10) x5.inputs) (fun _ _ h => je h (hS.sel (nrow 0 5) rfl)) ?_)
  rintro bd1 hbd1 o1 hq1 _ _ w1 ⟨T1, x5, a7, n4, c7, x4, a8, c8, a9, c9, a10, c10, ⟨J, ho1, rfl, hS1, im1⟩, h4, h5, h6⟩
  obtain ⟨m1, z1, rfl, hm, hn1⟩ := lrE ho1 hbd1
  refine sq2 (sq2 ?_)
  obtain ⟨z_1, hln1, hm⟩ := bindS hm
  refine pu ?_
  refine pv (r_ld rfl isAgg3 (hS1.cellB (i := 1) ⟨rfl, rfl⟩ (lnSeg (k := 32) hL_p0 (lenOk_some hln1) enI_u32'_len rfl) (j := 9) rfl)) (pu ?_)
  refine fkN (d := 21) (c := ((x5.state == 0) && (decide (x5.steps < p1)))) 7 [(0, pt b_p0 o_p0), (1, iv p1), (2, sv a8 x4 c8)] rfl (fun hk => ?_) fun J => ?_
  · rcases Bool.eq_false_or_eq_true (x5.state == 0) with hb2 | hb2
    · exact  gT (d0 := 14) rfl rfl hb2 (pv (r_mp rfl) (gT (d0 := 14) rfl rfl hb2 (pv (r_nc rfl) (gT (d0 := 14) rfl rfl hb2 (pv (r_fa rfl underlying103 rfl sizeOf3 rfl) (gT (d0 := 14) rfl rfl hb2 (pv (r_ld rfl isAgg3 (hS1.cellB (i := 1) ⟨rfl, rfl⟩ (lnSeg (k := 32) hL_p0 (lenOk_some hln1) enI_u32'_len rfl) (j := 8) rfl)) (gT (d0 := 14) rfl rfl hb2 (pv (r_mi rfl) (gT (d0 := 14) rfl rfl hb2 (pv (r_ib rfl rfl rfl) (pv (r_pkt rfl hb2 rfl) (wlR (fun J => hk J _ (by rw [hb2]; rfl)) ⟨rfl, rfl, rfl, rfl, trivial⟩)))))))))))))
    exact  gF6 (d0 := 14) rfl rfl (by rw [hb2]; rfl) (pv (r_pkf rfl hb2 rfl) (wlR (fun J => hk J _ (by rw [hb2]; rfl)) ⟨rfl, rfl, rfl, rfl, trivial⟩))
  refine cd hm ?_ ?_ <;> intro hb3 hm
  · refine pn ?_
    refine blk (cutJ hm (fun kk1 a w2 => ∃ (T2 : _) (x6 : List Int) (a11 : _) (c11 : _), JR (nf 60) g T1 w1 a w2 T2 (kk1 x6 = some z1) [(0, pt b_p0 o_p0), (1, iv p1), (2, sv a11 x6 c11)] [starL R, segH (H_p0) enI_u32' x5.volatile.regs [.int .u32 x5.volatile.pc, .int .u32 x5.volatile.seq, .int .u32 x5.volatile.index, sv a9 x5.code c9, .slice a2 n1 c2, .slice a3 n2 c3, sv a10 x5.inputs c10, .slice a7 n4 c7, iv x5.steps, iv x5.state, .int .u32 x5.exit], ownA rDeviceMet 303 (.slice a2 n1 c2) x5.met, ownA (rInt .u8) 5 (.slice a3 n2 c3) x5.data, ownA rGRecord 63 (.slice a7 n4 c7) x5.log] ∧ SlR (rInt .i64) T2 w2 (sv a11 x6 c11) x6) (fun kk1 hm => ?_) ?_)
    · refine lpJ hm (fun bd2 o2 m a w3 => ∃ (T3 : _) (x7 : List Int) (a12 : _) (c12 : _), JR (nf 60) g T1 w1 a w3 T3 (loopM bd2 m x7 = some o2) [(0, pt b_p0 o_p0), (1, iv p1), (2, sv a12 x7 c12)] [starL R, segH (H_p0) enI_u32' x5.volatile.regs [.int .u32 x5.volatile.pc, .int .u32 x5.volatile.seq, .int .u32 x5.volatile.index, sv a9 x5.code c9, .slice a2 n1 c2, .slice a3 n2 c3, sv a10 x5.inputs c10, .slice a7 n4 c7, iv x5.steps, iv x5.state, .int .u32 x5.exit], ownA rDeviceMet 303 (.slice a2 n1 c2) x5.met, ownA (rInt .u8) 5 (.slice a3 n2 c3) x5.data, ownA rGRecord 63 (.slice a7 n4 c7) x5.log] ∧ SlR (rInt .i64) T3 w3 (sv a12 x7 c12) x7) (fun _ _ h => je h (hS1.sel (nrow 0 5) rfl)) ?_
      rintro bd2 hbd2 o2 hq2 _ _ w3 ⟨T3, x7, a12, c12, ⟨J, ho2, rfl, hS2, im3⟩, h8⟩
      obtain ⟨m2, z2, rfl, hm, hn2⟩ := lrE ho2 hbd2
      refine sq2 (sq2 (rqS hS2 (pu ?_)))
      rcases bc hm with ⟨hb4, hm⟩ | ⟨hb4, hm⟩
      · obtain ⟨u1, hx1, hm⟩ := bindS hm
        refine pu ?_
        refine qv (fun _ hq => r_ld rfl isAgg3 (hq.cell (hS2.cellB (i := 1) ⟨rfl, rfl⟩ (lnSeg (k := 32) hL_p0 (lenOk_some hln1) enI_u32'_len rfl) (j := 8) rfl))) (pn ?_)
        intro w4 T4 im4 hS3
        refine cd hm ?_ ?_ <;> intro hb5 hm
        · refine pn ?_
          refine blk ?_
          obtain ⟨u2, hx2, hm⟩ := bindS hm
          obtain ⟨a13, c13, he1, h9⟩ := (h8.mono im4).part hx2
          refine pu ?_
          exact pv (r_slR rfl (h8.mono im4) ⟨_, rfl⟩ rfl hx2 underlying26 sizeOf3 rfl he1) (lg hm hn2 (hS3.sel (nrow 0 5) rfl))
        have hm := brkE hm hn2 hq2
        exact je hm (hS3.sel (nrow 0 5) rfl)
      refine pn ?_
      intro w5 T5 im5 hS4
      refine pn ?_
      refine cnd (b := false) rfl (fun h => nomatch h) (fun _ => ?_)
      have hm := brkE hm hn2 hq2
      exact je hm (hS4.sel (nrow 0 5) rfl)
    rintro _ w2 ⟨T2, x6, a11, c11, ⟨J, hm, rfl, hS5, im2⟩, h7⟩
    refine cutJ hm (fun kk2 a w6 => ∃ (T6 : _) (x12 : DeviceMachine) (x11 : List Int) (a14 : _) (c14 : _) (a15 : _) (c15 : _) (a16 : _) (c16 : _), JR (nf 60) g T2 w2 a w6 T6 (kk2 x11 x12 = some z1) [(0, pt b_p0 o_p0), (1, iv p1), (2, sv a14 x11 c14)] [starL R, segH (H_p0) enI_u32' x12.volatile.regs [.int .u32 x12.volatile.pc, .int .u32 x12.volatile.seq, .int .u32 x12.volatile.index, sv a15 x12.code c15, .slice a2 n1 c2, .slice a3 n2 c3, sv a16 x12.inputs c16, .slice a7 n4 c7, iv x12.steps, iv x12.state, .int .u32 x12.exit], ownA rDeviceMet 303 (.slice a2 n1 c2) x12.met, ownA (rInt .u8) 5 (.slice a3 n2 c3) x12.data, ownA rGRecord 63 (.slice a7 n4 c7) x12.log] ∧ SlR (rInt .i64) T6 w6 (sv a14 x11 c14) x11 ∧ SlR (rInt .u32) T6 w6 (sv a15 x12.code c15) x12.code ∧ SlR (rInt .u32) T6 w6 (sv a16 x12.inputs c16) x12.inputs) (fun kk2 hm => ?_) ?_
    · refine sq2 (rqS hS5 (pu ?_))
      rcases bc hm with ⟨hb7, hm⟩ | ⟨hb7, hm⟩
      · obtain ⟨u3, hx3, hm⟩ := bindS hm
        refine pu ?_
        refine qv (fun _ hq => r_ld rfl isAgg3 (hq.cell (hS5.cellB (i := 1) ⟨rfl, rfl⟩ (lnSeg (k := 32) hL_p0 (lenOk_some hln1) enI_u32'_len rfl) (j := 8) rfl))) (pn ?_)
        intro w7 T7 im7 hS6
        refine cd hm ?_ ?_ <;> intro hb8 hm
        · refine sq2 (pu ?_)
          refine cB cf40 hm (device_Machine_Fail_sim (hS6.bun [0] (nrow 1 4) rfl) hL_p0 (h5.mono ch) (h6.mono ch)) ?_
          rintro y1 _ T8 w8 im8 ⟨a17, c17, a18, c18, rfl, hS7, h13, h14, _⟩ hm
          refine pn ?_
          obtain ⟨u4, hx5, hm⟩ := bindS hm
          obtain ⟨a19, c19, he2, h15⟩ := (h7.mono (iT im7 im8)).part hx5
          refine pu ?_
          exact pv (r_slR rfl (h7.mono ch) ⟨_, rfl⟩ rfl hx5 underlying26 sizeOf3 rfl he2) (je hm (hS7.sel (nrow 0 5) rfl))
        exact je hm (hS6.sel (nrow 0 5) rfl)
      refine pn ?_
      intro w9 T9 im9 hS8
      refine pn ?_
      refine cnd (b := false) rfl (fun h => nomatch h) (fun _ => ?_)
      exact je hm (hS8.sel (nrow 0 5) rfl)
    rintro _ w6 ⟨T6, x12, x11, a14, c14, a15, c15, a16, c16, ⟨J, hm, rfl, hS9, im6⟩, h10, h11, h12⟩
    refine pu ?_
    refine cB cf70 hm (device_Machine_Step_sim (hS9.bun [0] (nrow 1 4) rfl) hL_p0 h11 h12) ?_
    rintro y2 _ T10 w10 im10 ⟨a20, c20, a21, c21, a22, n5, c22, rfl, hS10, h16, h17, _⟩ hm
    exact lg hm hn1 (hS10.sel (nrow 0 5) rfl)
  have hm := brkE hm hn1 hq1
  refine pn ?_
  refine sq2 (pu ?_)
  exact pv (r_ld rfl isAgg3 (hS1.cellB (i := 1) ⟨rfl, rfl⟩ (lnSeg (k := 32) hL_p0 (lenOk_some hln1) enI_u32'_len rfl) (j := 9) rfl)) (re hm (hS1.sel (nrow 0 5) rfl))

theorem play_runs_sim {p0 : DeviceMachine} {b_p0 o_p0 : Nat} {H_p0 : List Value → Assn} {a1 c1 a2 n1 c2 a3 n2 c3 a4 c4 a5 n3 c5 p1} {b_p1 o_p1 : Nat} {H_p1 : List Value → Assn} {p2} {b_p2 o_p2 : Nat} {H_p2 : List Value → Assn} {p3} (hS : Sep g T0 w0 [starL R, segH (H_p0) enI_u32' p0.volatile.regs [.int .u32 p0.volatile.pc, .int .u32 p0.volatile.seq, .int .u32 p0.volatile.index, sv a1 p0.code c1, .slice a2 n1 c2, .slice a3 n2 c3, sv a4 p0.inputs c4, .slice a5 n3 c5, iv p0.steps, iv p0.state, .int .u32 p0.exit], ownA rDeviceMet 303 (.slice a2 n1 c2) p0.met, ownA (rInt .u8) 5 (.slice a3 n2 c3) p0.data, ownA rGRecord 63 (.slice a5 n3 c5) p0.log, H_p1 [iv p1], H_p2 [iv p2]]) (hL_p0 : Ln b_p0 o_p0 H_p0) (h1 : SlR (rInt .u32) T0 w0 (sv a1 p0.code c1) p0.code) (h2 : SlR (rInt .u32) T0 w0 (sv a4 p0.inputs c4) p0.inputs) (hL_p1 : Ln b_p1 o_p1 H_p1) (hL_p2 : Ln b_p2 o_p2 H_p2) : ∀ r, play_runs p0 p1 p2 p3 = some r →
    Calls Tryz.prog 24 #[pt b_p0 o_p0, .func (.func 29) #[] #[pt b_p1 o_p1, pt b_p2 o_p2], iv p3] w0 (RetS T0 w0 fun T w v => ∃ a20 c20 a21 c21 a22 n8 c22, v = iv r.1 ∧ Sep g T w (R ++ [segH (H_p0) enI_u32' r.2.volatile.regs [.int .u32 r.2.volatile.pc, .int .u32 r.2.volatile.seq, .int .u32 r.2.volatile.index, sv a20 r.2.code c20, .slice a2 n1 c2, .slice a3 n2 c3, sv a21 r.2.inputs c21, .slice a22 n8 c22, iv r.2.steps, iv r.2.state, .int .u32 r.2.exit], ownA rDeviceMet 303 (.slice a2 n1 c2) r.2.met, ownA (rInt .u8) 5 (.slice a3 n2 c3) r.2.data, ownA rGRecord 63 (.slice a22 n8 c22) r.2.log, H_p1 [iv p1], H_p2 [iv p2]]) ∧ SlR (rInt .u32) T w (sv a20 r.2.code c20) r.2.code ∧ SlR (rInt .u32) T w (sv a21 r.2.inputs c21) r.2.inputs ∧ True) := by
  intro r hm
  refine enterM Tryz.func24 rfl Tryz.ntmps24 rfl fun J => ?_
  unfold play_runs at hm
  refine sq2 (bX [pt b_p0 o_p0] hS ?_)
  intro w1 b1 im1 hS1
  refine bX [iv p3] hS1 ?_
  intro w2 b2 im2 hS2
  refine aL [iv 0] hS2 ?_
  intro w3 b3 im3 hS3
  refine pn ?_
  refine sq2 (aL [iv 0] hS3 ?_)
  intro w4 b4 im4 hS4
  refine sT 0 hS4 ?_
  intro w5 im5 hS5
  refine pn ?_
  refine sq2 (sq2 (pn ?_))
  refine blk ?_
  obtain ⟨o1, ho1, hm⟩ := bindS hm
  have hA1 : Sep g T0 w5 ((fun (x4 : Int) (x5 : Int) (x6 : DeviceMachine) => exA fun a6 => exA fun n4 => exA fun c6 => exA fun a7 => exA fun c7 => exA fun a8 => exA fun c8 => slA (rInt .u32) (sv a7 x6.code c7) x6.code (slA (rInt .u32) (sv a8 x6.inputs c8) x6.inputs (starL [boxA b4 [iv x4], boxA b3 [iv x5], boxA b2 [iv p3], boxA b1 [pt b_p0 o_p0], segH (H_p0) enI_u32' x6.volatile.regs [.int .u32 x6.volatile.pc, .int .u32 x6.volatile.seq, .int .u32 x6.volatile.index, sv a7 x6.code c7, .slice a2 n1 c2, .slice a3 n2 c3, sv a8 x6.inputs c8, .slice a6 n4 c6, iv x6.steps, iv x6.state, .int .u32 x6.exit], ownA rDeviceMet 303 (.slice a2 n1 c2) x6.met, ownA (rInt .u8) 5 (.slice a3 n2 c3) x6.data, ownA rGRecord 63 (.slice a6 n4 c6) x6.log]))) 0 0 p0 :: [starL R, H_p1 [iv p1], H_p2 [iv p2]]) := Sep.exI _ (Sep.exI _ (Sep.exI _ (Sep.exI _ (Sep.exI _ (Sep.exI _ (Sep.exI _ (Sep.slI (h1.mono (iT im1 (iT im2 (iT im3 (iT im4 im5))))) (Sep.slI (h2.mono (iT im1 (iT im2 (iT im3 (iT im4 im5))))) (hS5.bun (nrow 0 4 ++ nrow 5 4) [4, 9, 10] rfl)))))))))
  refine wpR [(3, pt b1 0), (5, pt b2 0), (6, pt b3 0), (7, pt b4 0), (9, .func (.func 29) #[] #[pt b_p1 o_p1, pt b_p2 o_p2])] ⟨rfl, rfl, rfl, rfl, rfl, trivial⟩ fun J => ?_
  refine rfS (σ := Int × Int × DeviceMachine) (ε := Unit) (yb := (fun (sx : Int × Int × DeviceMachine) (x7 : Int) => (match sx with | (x4, x5, x6) => (device_Machine_Steps x6).bind fun y1 => bif decide (x7 < y1) then (some (Lp.go (x4, x5, x6))) else ((device_Machine_Run x6 (min x7 p3) []).bind fun y2 => bif y2.1 != 0 then (some (Lp.brk (x4, x4, y2.2))) else ((device_Machine_Steps y2.2).bind fun y3 => bif decide (p3 ≤ y3) then (some (Lp.brk (x4, x4, y2.2))) else ((device_Machine_Fail y2.2).bind fun y4 => (device_Machine_Run y4 (min (IntKind.wrap .i64 (x7 + 1)) p3) []).bind fun y5 => some (Lp.go (IntKind.wrap .i64 (x4 + 1), x5, y5.2))))) : Option (Lp (Int × Int × DeviceMachine) Unit)))) (encs := fun (x7 : Int) => #[iv x7]) (jump := fun z => match z with | .go _ => none | _ => some .ret) (Yz := fun z => match z with | .go s => (fun (x4 : Int) (x5 : Int) (x6 : DeviceMachine) => exA fun a6 => exA fun n4 => exA fun c6 => exA fun a7 => exA fun c7 => exA fun a8 => exA fun c8 => slA (rInt .u32) (sv a7 x6.code c7) x6.code (slA (rInt .u32) (sv a8 x6.inputs c8) x6.inputs (starL [boxA b4 [iv x4], boxA b3 [iv x5], boxA b2 [iv p3], boxA b1 [pt b_p0 o_p0], segH (H_p0) enI_u32' x6.volatile.regs [.int .u32 x6.volatile.pc, .int .u32 x6.volatile.seq, .int .u32 x6.volatile.index, sv a7 x6.code c7, .slice a2 n1 c2, .slice a3 n2 c3, sv a8 x6.inputs c8, .slice a6 n4 c6, iv x6.steps, iv x6.state, .int .u32 x6.exit], ownA rDeviceMet 303 (.slice a2 n1 c2) x6.met, ownA (rInt .u8) 5 (.slice a3 n2 c3) x6.data, ownA rGRecord 63 (.slice a6 n4 c6) x6.log]))) s.1 s.2.1 s.2.2 | .brk s => (fun (x4 : Int) (x5 : Int) (x6 : DeviceMachine) => exA fun a6 => exA fun n4 => exA fun c6 => exA fun a7 => exA fun c7 => exA fun a8 => exA fun c8 => slA (rInt .u32) (sv a7 x6.code c7) x6.code (slA (rInt .u32) (sv a8 x6.inputs c8) x6.inputs (starL [boxA b4 [iv x4], boxA b3 [iv x5], boxA b2 [iv p3], boxA b1 [pt b_p0 o_p0], segH (H_p0) enI_u32' x6.volatile.regs [.int .u32 x6.volatile.pc, .int .u32 x6.volatile.seq, .int .u32 x6.volatile.index, sv a7 x6.code c7, .slice a2 n1 c2, .slice a3 n2 c3, sv a8 x6.inputs c8, .slice a6 n4 c6, iv x6.steps, iv x6.state, .int .u32 x6.exit], ownA rDeviceMet 303 (.slice a2 n1 c2) x6.met, ownA (rInt .u8) 5 (.slice a3 n2 c3) x6.data, ownA rGRecord 63 (.slice a6 n4 c6) x6.log]))) s.1 s.2.1 s.2.2 | _ => empA) (A := starL R) (C := starL [H_p1 [iv p1], H_p2 [iv p2]]) (s0 := (0, 0, p0)) (o := o1) (Lx := fun x7 => [(8, iv x7), (10, iv x7), (3, pt b1 0), (5, pt b2 0), (6, pt b3 0), (7, pt b4 0), (9, .func (.func 29) #[] #[pt b_p1 o_p1, pt b_p2 o_p2])]) rfl cf29 ((hA1.bun [2, 3] [1, 0] rfl).sel [1, 0, 2] rfl) (fun z => by cases z <;> rfl) (fun _ => rfl) ?_ ?_ ?_ ?_
  · intro l x w1 K hK
    rw [prm1]
    refine regIn (fun _ _ h => h) rfl ?_
    refine pn ?_
    exact hK
  · intro l T1 w6 s2 x7 z R2 im6 hS6 hm
    obtain ⟨x4, x5, x6⟩ := s2
    have hS6 : Sep g T1 w6 ((fun (x4 : Int) (x5 : Int) (x6 : DeviceMachine) => exA fun a6 => exA fun n4 => exA fun c6 => exA fun a7 => exA fun c7 => exA fun a8 => exA fun c8 => slA (rInt .u32) (sv a7 x6.code c7) x6.code (slA (rInt .u32) (sv a8 x6.inputs c8) x6.inputs (starL [boxA b4 [iv x4], boxA b3 [iv x5], boxA b2 [iv p3], boxA b1 [pt b_p0 o_p0], segH (H_p0) enI_u32' x6.volatile.regs [.int .u32 x6.volatile.pc, .int .u32 x6.volatile.seq, .int .u32 x6.volatile.index, sv a7 x6.code c7, .slice a2 n1 c2, .slice a3 n2 c3, sv a8 x6.inputs c8, .slice a6 n4 c6, iv x6.steps, iv x6.state, .int .u32 x6.exit], ownA rDeviceMet 303 (.slice a2 n1 c2) x6.met, ownA (rInt .u8) 5 (.slice a3 n2 c3) x6.data, ownA rGRecord 63 (.slice a6 n4 c6) x6.log]))) x4 x5 x6 :: [R2]) := hS6.sel [1, 0] rfl
    obtain ⟨a6, hS6⟩ := Sep.exE hS6
    obtain ⟨n4, hS6⟩ := Sep.exE hS6
    obtain ⟨c6, hS6⟩ := Sep.exE hS6
    obtain ⟨a7, hS6⟩ := Sep.exE hS6
    obtain ⟨c7, hS6⟩ := Sep.exE hS6
    obtain ⟨a8, hS6⟩ := Sep.exE hS6
    obtain ⟨c8, hS6⟩ := Sep.exE hS6
    obtain ⟨h3, hS6⟩ := Sep.slE hS6
    obtain ⟨h4, hS6⟩ := Sep.slE hS6
    have hS6 := hS6.unb
    refine blkI ?_
    refine sq2I ?_
    refine sq2I ?_
    refine regIn (fun _ _ h => rndOut h) rfl (pv (r_mi rfl) (pv (r_ld rfl isAgg70 (hS6.cell0 (i := 3) ⟨rfl, rfl⟩ (j := 0) rfl)) (?_)))
    refine cB cf27 hm (device_Machine_Steps_sim (hS6.bun [0, 1, 2, 3, 8] (nrow 4 4) rfl) hL_p0 h3 h4) ?_
    rintro y1 _ T2 w7 im7 ⟨rfl, hS7, _⟩ hm
    refine pn ?_
    refine cndI rfl (fun hb1 => ?_) (fun hb1 => ?_)
    · have hm := ctrue hb1 hm
      have hm := oI hm; subst hm
      exact xtI (x_then (x_eq (⟨rfl, _, im7, (show Sep g T2 w7 ((fun (x4 : Int) (x5 : Int) (x6 : DeviceMachine) => exA fun a6 => exA fun n4 => exA fun c6 => exA fun a7 => exA fun c7 => exA fun a8 => exA fun c8 => slA (rInt .u32) (sv a7 x6.code c7) x6.code (slA (rInt .u32) (sv a8 x6.inputs c8) x6.inputs (starL [boxA b4 [iv x4], boxA b3 [iv x5], boxA b2 [iv p3], boxA b1 [pt b_p0 o_p0], segH (H_p0) enI_u32' x6.volatile.regs [.int .u32 x6.volatile.pc, .int .u32 x6.volatile.seq, .int .u32 x6.volatile.index, sv a7 x6.code c7, .slice a2 n1 c2, .slice a3 n2 c3, sv a8 x6.inputs c8, .slice a6 n4 c6, iv x6.steps, iv x6.state, .int .u32 x6.exit], ownA rDeviceMet 303 (.slice a2 n1 c2) x6.met, ownA (rInt .u8) 5 (.slice a3 n2 c3) x6.data, ownA rGRecord 63 (.slice a6 n4 c6) x6.log]))) x4 x5 x6 :: [R2]) from Sep.exI _ (Sep.exI _ (Sep.exI _ (Sep.exI _ (Sep.exI _ (Sep.exI _ (Sep.exI _ (Sep.slI (h3.mono im7) (Sep.slI (h4.mono im7) (hS7.bun (nrow 0 4 ++ nrow 5 4) [4] rfl)))))))))).sel [1, 0] rfl⟩)))
    have hm := cfalse hb1 hm
    refine skpI (t_then ?_)
    refine sq2I ?_
    refine sq2I ?_
    refine rsI [1, 0, 1, 0, 2, 0, 0, 1, 2, 1, 0, 0] [0, 1, 2, 3, 4, 5, 6, 7, 9, 8, 10, 11] mix (by kernel_rfl) rfl hS7.lt fun w8 i1 => ?_
    have im8 := i1.imm
    have hS8 := hS7.keep i1 (fun _ h => h)
    obtain ⟨y2, hx2, hm⟩ := bindS hm
    refine pu ?_
    refine s0 rfl trivial (fun _ => r_imn rfl rfl) rfl (sS [] cf39 (device_Machine_Run_sim (hS8.bun (nrow 0 5) (nrow 5 4) rfl) hL_p0 (h3.mono ch) (h4.mono ch) SlR_nil _ hx2) ?_)
    rintro _ T3 w9 im9 ⟨a9, c9, a10, c10, a11, n5, c11, rfl, hS9, h5, h6, _⟩
    refine pu ?_
    rcases bc hm with ⟨hb2, hm⟩ | ⟨hb2, hm⟩
    · refine pn ?_
      refine cndI (b := true) rfl (fun _ => ?_) (fun h => nomatch h)
      refine sq2I ?_
      refine regIn (fun _ _ h => rndOut h) rfl (pv (r_ld rfl isAgg3 (hS9.cell0 (i := 0) ⟨rfl, rfl⟩ (j := 0) rfl)) (wl rfl (st0B (q := 1) hS9 ⟨rfl, rfl⟩ rfl rfl rfl sizeOf3 rfl rfl rfl fun w15 im15 hS15 => ?_)))
      refine pn ?_
      have hm := oI hm; subst hm
      exact rtnI (r_then (r_blk (⟨rfl, _, ch, (show Sep g T3 w15 ((fun (x4 : Int) (x5 : Int) (x6 : DeviceMachine) => exA fun a6 => exA fun n4 => exA fun c6 => exA fun a7 => exA fun c7 => exA fun a8 => exA fun c8 => slA (rInt .u32) (sv a7 x6.code c7) x6.code (slA (rInt .u32) (sv a8 x6.inputs c8) x6.inputs (starL [boxA b4 [iv x4], boxA b3 [iv x5], boxA b2 [iv p3], boxA b1 [pt b_p0 o_p0], segH (H_p0) enI_u32' x6.volatile.regs [.int .u32 x6.volatile.pc, .int .u32 x6.volatile.seq, .int .u32 x6.volatile.index, sv a7 x6.code c7, .slice a2 n1 c2, .slice a3 n2 c3, sv a8 x6.inputs c8, .slice a6 n4 c6, iv x6.steps, iv x6.state, .int .u32 x6.exit], ownA rDeviceMet 303 (.slice a2 n1 c2) x6.met, ownA (rInt .u8) 5 (.slice a3 n2 c3) x6.data, ownA rGRecord 63 (.slice a6 n4 c6) x6.log]))) x4 x4 y2.2 :: [R2]) from Sep.exI _ (Sep.exI _ (Sep.exI _ (Sep.exI _ (Sep.exI _ (Sep.exI _ (Sep.exI _ (Sep.slI (h5.mono im15) (Sep.slI (h6.mono im15) (hS15.bun (nrow 0 4 ++ nrow 5 4) [4] rfl)))))))))).sel [1, 0] rfl⟩)))
    obtain ⟨y3, hx3, hm⟩ := bindS hm
    refine sS [(9, iv p3)] cf27 (device_Machine_Steps_sim (hS9.bun (nrow 0 5) (nrow 5 4) rfl) hL_p0 h5 h6 _ hx3) ?_
    rintro _ T4 w10 im10 ⟨rfl, hS10, _⟩
    refine pn ?_
    refine cndI rfl (fun hb3 => ?_) (fun hb3 => ?_)
    · have hm := ctrue hb3 hm
      refine sq2I ?_
      refine regIn (fun _ _ h => rndOut h) rfl (pv (r_ld rfl isAgg3 (hS10.cell0 (i := 0) ⟨rfl, rfl⟩ (j := 0) rfl)) (wl rfl (st0B (q := 1) hS10 ⟨rfl, rfl⟩ rfl rfl rfl sizeOf3 rfl rfl rfl fun w11 im11 hS11 => ?_)))
      refine pn ?_
      have hm := oI hm; subst hm
      exact rtnI (r_then (r_blk (⟨rfl, _, ch, (show Sep g T4 w11 ((fun (x4 : Int) (x5 : Int) (x6 : DeviceMachine) => exA fun a6 => exA fun n4 => exA fun c6 => exA fun a7 => exA fun c7 => exA fun a8 => exA fun c8 => slA (rInt .u32) (sv a7 x6.code c7) x6.code (slA (rInt .u32) (sv a8 x6.inputs c8) x6.inputs (starL [boxA b4 [iv x4], boxA b3 [iv x5], boxA b2 [iv p3], boxA b1 [pt b_p0 o_p0], segH (H_p0) enI_u32' x6.volatile.regs [.int .u32 x6.volatile.pc, .int .u32 x6.volatile.seq, .int .u32 x6.volatile.index, sv a7 x6.code c7, .slice a2 n1 c2, .slice a3 n2 c3, sv a8 x6.inputs c8, .slice a6 n4 c6, iv x6.steps, iv x6.state, .int .u32 x6.exit], ownA rDeviceMet 303 (.slice a2 n1 c2) x6.met, ownA (rInt .u8) 5 (.slice a3 n2 c3) x6.data, ownA rGRecord 63 (.slice a6 n4 c6) x6.log]))) x4 x4 y2.2 :: [R2]) from Sep.exI _ (Sep.exI _ (Sep.exI _ (Sep.exI _ (Sep.exI _ (Sep.exI _ (Sep.exI _ (Sep.slI (h5.mono ch) (Sep.slI (h6.mono ch) (hS11.bun (nrow 0 4 ++ nrow 5 4) [4] rfl)))))))))).sel [1, 0] rfl⟩)))
    have hm := cfalse hb3 hm
    refine skpI (t_then ?_)
    refine sq2I ?_
    refine regIn (fun _ _ h => rndOut h) rfl (pv (r_ld rfl isAgg70 (hS10.cell0 (i := 3) ⟨rfl, rfl⟩ (j := 0) rfl)) (?_))
    refine cB cf40 hm (device_Machine_Fail_sim (hS10.bun (nrow 0 5) (nrow 5 4) rfl) hL_p0 (h5.mono im10) (h6.mono im10)) ?_
    rintro y4 _ T5 w12 im12 ⟨a12, c12, a13, c13, rfl, hS12, h7, h8, _⟩ hm
    refine pn ?_
    refine sq2I ?_
    refine regIn (fun _ _ h => rndOut h) rfl (pv (r_ld rfl isAgg3 (hS12.cell0 (i := 0) ⟨rfl, rfl⟩ (j := 0) rfl)) (pv (r_ib rfl rfl rfl) (wl rfl (st0B (q := 0) hS12 ⟨rfl, rfl⟩ rfl rfl rfl sizeOf3 rfl rfl rfl fun w13 im13 hS13 => ?_))))
    refine pn ?_
    refine regIn (fun _ _ h => rndOut h) rfl (pv (r_ld rfl isAgg70 (hS13.cell0 (i := 3) ⟨rfl, rfl⟩ (j := 0) rfl)) (pv (r_mi rfl) (pv (r_ib rfl rfl rfl) (pv (r_ld rfl isAgg3 (hS13.cell0 (i := 2) ⟨rfl, rfl⟩ (j := 0) rfl)) (pv (r_imn rfl rfl) (?_))))))
    refine cB cf39 hm (device_Machine_Run_sim (hS13.bun (nrow 0 5) (nrow 5 4) rfl) hL_p0 (h7.mono im13) (h8.mono im13) SlR_nil) ?_
    rintro y5 _ T6 w14 im14 ⟨a14, c14, a15, c15, a16, n6, c16, rfl, hS14, h9, h10, _⟩ hm
    have hm := oI hm; subst hm
    refine pn ?_
    exact ⟨rfl, _, ch, (show Sep g T6 w14 ((fun (x4 : Int) (x5 : Int) (x6 : DeviceMachine) => exA fun a6 => exA fun n4 => exA fun c6 => exA fun a7 => exA fun c7 => exA fun a8 => exA fun c8 => slA (rInt .u32) (sv a7 x6.code c7) x6.code (slA (rInt .u32) (sv a8 x6.inputs c8) x6.inputs (starL [boxA b4 [iv x4], boxA b3 [iv x5], boxA b2 [iv p3], boxA b1 [pt b_p0 o_p0], segH (H_p0) enI_u32' x6.volatile.regs [.int .u32 x6.volatile.pc, .int .u32 x6.volatile.seq, .int .u32 x6.volatile.index, sv a7 x6.code c7, .slice a2 n1 c2, .slice a3 n2 c3, sv a8 x6.inputs c8, .slice a6 n4 c6, iv x6.steps, iv x6.state, .int .u32 x6.exit], ownA rDeviceMet 303 (.slice a2 n1 c2) x6.met, ownA (rInt .u8) 5 (.slice a3 n2 c3) x6.data, ownA rGRecord 63 (.slice a6 n4 c6) x6.log]))) (IntKind.wrap .i64 (x4 + 1)) x5 y5.2 :: [R2]) from Sep.exI _ (Sep.exI _ (Sep.exI _ (Sep.exI _ (Sep.exI _ (Sep.exI _ (Sep.exI _ (Sep.slI h9 (Sep.slI h10 (hS14.bun (nrow 0 4 ++ nrow 5 4) [4] rfl)))))))))).sel [1, 0] rfl⟩
  · intro l T1 w1 R2 U im16 hS hY
    have hS : Sep g T1 w1 (R2 :: U (.go (0, 0, p0)) :: [H_p1 [iv p1], H_p2 [iv p2]]) := ((hS.sel [1, 0, 2] rfl).unb).sel [2, 3, 0, 1] rfl
    refine callsIn_wide.2 ((play_each_1_sim (U_p0 := U) (l_p0 := l) (p2 := p1) (p3 := p2) (hS.bun [0] [1, 2, 3] rfl) (fun T2 w2 s x7 z R2 i h e => hY T2 w2 s x7 z R2 i h e) hL_p1 hL_p2 _ ho1).mono ?_)
    rintro e w3 ⟨v, rfl, T3, im3, rfl, hS3, _⟩
    exact ⟨_, rfl, T3, im3, ((hS3.bun [2, 3] [0, 1] rfl).sel [1, 0, 2] rfl)⟩
  intro T7 w16 D im17 hS16
  rcases o1 with s1 | s1 | s1
  · obtain ⟨x4o, x5o, x6o⟩ := s1
    have hm := gob_go hm
    have hS16 := Sep.unb (C := [H_p1 [iv p1], H_p2 [iv p2]]) (hS16.sel [1, 2, 0, 3] rfl)
    have hS16 : Sep g T7 w16 ((fun (x4o : Int) (x5o : Int) (x6o : DeviceMachine) => exA fun a6 => exA fun n4 => exA fun c6 => exA fun a7 => exA fun c7 => exA fun a8 => exA fun c8 => slA (rInt .u32) (sv a7 x6o.code c7) x6o.code (slA (rInt .u32) (sv a8 x6o.inputs c8) x6o.inputs (starL [boxA b4 [iv x4o], boxA b3 [iv x5o], boxA b2 [iv p3], boxA b1 [pt b_p0 o_p0], segH (H_p0) enI_u32' x6o.volatile.regs [.int .u32 x6o.volatile.pc, .int .u32 x6o.volatile.seq, .int .u32 x6o.volatile.index, sv a7 x6o.code c7, .slice a2 n1 c2, .slice a3 n2 c3, sv a8 x6o.inputs c8, .slice a6 n4 c6, iv x6o.steps, iv x6o.state, .int .u32 x6o.exit], ownA rDeviceMet 303 (.slice a2 n1 c2) x6o.met, ownA (rInt .u8) 5 (.slice a3 n2 c3) x6o.data, ownA rGRecord 63 (.slice a6 n4 c6) x6o.log]))) x4o x5o x6o :: [starL R, objA D (.deferred (some [])), H_p1 [iv p1], H_p2 [iv p2]]) := hS16.sel [2, 3, 4, 0, 1] rfl
    obtain ⟨a6, hS16⟩ := Sep.exE hS16
    obtain ⟨n4, hS16⟩ := Sep.exE hS16
    obtain ⟨c6, hS16⟩ := Sep.exE hS16
    obtain ⟨a7, hS16⟩ := Sep.exE hS16
    obtain ⟨c7, hS16⟩ := Sep.exE hS16
    obtain ⟨a8, hS16⟩ := Sep.exE hS16
    obtain ⟨c8, hS16⟩ := Sep.exE hS16
    obtain ⟨h3, hS16⟩ := Sep.slE hS16
    obtain ⟨h4, hS16⟩ := Sep.slE hS16
    have hS16 := hS16.unb
    refine pn ?_
    refine sq2 (pu ?_)
    refine cB cf39 hm (device_Machine_Run_sim (hS16.bun [0, 1, 8, 9, 10, 11] (nrow 4 4) rfl) hL_p0 h3 h4 SlR_nil) ?_
    rintro y6 _ T8 w17 im18 ⟨a17, c17, a18, c18, a19, n7, c19, rfl, hS17, h11, h12, _⟩ hm
    refine pn ?_
    refine sq2 (sT 1 hS17 ?_)
    intro w18 im19 hS18
    refine pn ?_
    have hm := oI hm; subst hm
    obtain ⟨im20, hS19⟩ := hS18.setObj 3 rfl rfl (.deferred none)
    refine pn ?_
    exact retNK (vs := [iv x4o]) (hS18.obj 3 rfl rfl).1 rfl ⟨rv1 rfl isAgg3 (hS19.bx (i := 1) ⟨rfl, rfl⟩), trivial⟩ rfl ⟨_, rfl, _, ch, ⟨_, _, _, _, _, _, _, rfl, (hS19.sel [2, 6, 7, 8, 9, 4, 5] rfl).unb, (h11.mono ch), (h12.mono ch), trivial⟩⟩
  · obtain ⟨x4b, x5b, x6b⟩ := s1
    have hm := gob_brk hm
    have hS16 := Sep.unb (C := [H_p1 [iv p1], H_p2 [iv p2]]) (hS16.sel [1, 2, 0, 3] rfl)
    have hS16 : Sep g T7 w16 ((fun (x4b : Int) (x5b : Int) (x6b : DeviceMachine) => exA fun a6 => exA fun n4 => exA fun c6 => exA fun a7 => exA fun c7 => exA fun a8 => exA fun c8 => slA (rInt .u32) (sv a7 x6b.code c7) x6b.code (slA (rInt .u32) (sv a8 x6b.inputs c8) x6b.inputs (starL [boxA b4 [iv x4b], boxA b3 [iv x5b], boxA b2 [iv p3], boxA b1 [pt b_p0 o_p0], segH (H_p0) enI_u32' x6b.volatile.regs [.int .u32 x6b.volatile.pc, .int .u32 x6b.volatile.seq, .int .u32 x6b.volatile.index, sv a7 x6b.code c7, .slice a2 n1 c2, .slice a3 n2 c3, sv a8 x6b.inputs c8, .slice a6 n4 c6, iv x6b.steps, iv x6b.state, .int .u32 x6b.exit], ownA rDeviceMet 303 (.slice a2 n1 c2) x6b.met, ownA (rInt .u8) 5 (.slice a3 n2 c3) x6b.data, ownA rGRecord 63 (.slice a6 n4 c6) x6b.log]))) x4b x5b x6b :: [starL R, objA D (.deferred (some [])), H_p1 [iv p1], H_p2 [iv p2]]) := hS16.sel [2, 3, 4, 0, 1] rfl
    obtain ⟨a6, hS16⟩ := Sep.exE hS16
    obtain ⟨n4, hS16⟩ := Sep.exE hS16
    obtain ⟨c6, hS16⟩ := Sep.exE hS16
    obtain ⟨a7, hS16⟩ := Sep.exE hS16
    obtain ⟨c7, hS16⟩ := Sep.exE hS16
    obtain ⟨a8, hS16⟩ := Sep.exE hS16
    obtain ⟨c8, hS16⟩ := Sep.exE hS16
    obtain ⟨h3, hS16⟩ := Sep.slE hS16
    obtain ⟨h4, hS16⟩ := Sep.slE hS16
    have hS16 := hS16.unb
    have hm := oI hm; subst hm
    obtain ⟨im21, hS20⟩ := hS16.setObj 9 rfl rfl (.deferred none)
    refine pn ?_
    exact retNK (vs := [iv x5b]) (hS16.obj 9 rfl rfl).1 rfl ⟨rv1 rfl isAgg3 (hS20.bx (i := 1) ⟨rfl, rfl⟩), trivial⟩ rfl ⟨_, rfl, _, ch, ⟨_, _, _, _, _, _, _, rfl, (hS20.sel [8, 4, 5, 6, 7, 10, 11] rfl).unb, (h3.mono im21), (h4.mono im21), trivial⟩⟩
  cases hm

theorem device_Machine_Exit_sim {p0 : DeviceMachine} {b_p0 o_p0 : Nat} {H_p0 : List Value → Assn} {a1 c1 a2 n1 c2 a3 n2 c3 a4 c4 a5 n3 c5} (hS : Sep g T0 w0 [starL R, segH (H_p0) enI_u32' p0.volatile.regs [.int .u32 p0.volatile.pc, .int .u32 p0.volatile.seq, .int .u32 p0.volatile.index, sv a1 p0.code c1, .slice a2 n1 c2, .slice a3 n2 c3, sv a4 p0.inputs c4, .slice a5 n3 c5, iv p0.steps, iv p0.state, .int .u32 p0.exit], ownA rDeviceMet 303 (.slice a2 n1 c2) p0.met, ownA (rInt .u8) 5 (.slice a3 n2 c3) p0.data, ownA rGRecord 63 (.slice a5 n3 c5) p0.log]) (hL_p0 : Ln b_p0 o_p0 H_p0) (h1 : SlR (rInt .u32) T0 w0 (sv a1 p0.code c1) p0.code) (h2 : SlR (rInt .u32) T0 w0 (sv a4 p0.inputs c4) p0.inputs) : ∀ r, device_Machine_Exit p0 = some r →
    Calls Tryz.prog 26 #[pt b_p0 o_p0] w0 (RetS T0 w0 fun T w v => v = .int .u32 r ∧ Sep g T w (R ++ [segH (H_p0) enI_u32' p0.volatile.regs [.int .u32 p0.volatile.pc, .int .u32 p0.volatile.seq, .int .u32 p0.volatile.index, sv a1 p0.code c1, .slice a2 n1 c2, .slice a3 n2 c3, sv a4 p0.inputs c4, .slice a5 n3 c5, iv p0.steps, iv p0.state, .int .u32 p0.exit], ownA rDeviceMet 303 (.slice a2 n1 c2) p0.met, ownA (rInt .u8) 5 (.slice a3 n2 c3) p0.data, ownA rGRecord 63 (.slice a5 n3 c5) p0.log]) ∧ True) := by
  intro r hm
  refine enter Tryz.func26 rfl Tryz.ntmps26 rfl fun J => ?_
  unfold device_Machine_Exit at hm
  refine sq2 (pn ?_)
  refine sq2 (sq2 (pu ?_))
  refine pv (r_pne rfl rfl rfl underlying70) (pn ?_)
  refine cnd (b := false) rfl (fun h => nomatch h) (fun _ => ?_)
  refine pn ?_
  refine sq2 ?_
  obtain ⟨z_1, hln1, hm⟩ := bindS hm
  refine pu ?_
  exact pv (r_ld rfl isAgg30 (hS.cellB (i := 1) ⟨rfl, rfl⟩ (lnSeg (k := 32) hL_p0 (lenOk_some hln1) enI_u32'_len rfl) (j := 10) rfl)) (re hm (hS.sel (nrow 0 5) rfl))

theorem slices_Clone_3_sim {p0 : List GRecord} {v_p0} {H_p0 : Assn} (hS : Sep g T0 w0 [starL R, H_p0]) (hV_p0 : Vw H_p0 rGRecord v_p0 p0) : ∀ r, slices_Clone_3 p0 = some r →
    Calls Tryz.prog 41 #[v_p0] w0 (RetS T0 w0 fun T w v => ∃ a4 n3 c4, v = .slice a4 n3 c4 ∧ Sep g T w (R ++ [H_p0, ownA rGRecord 63 (.slice a4 n3 c4) r]) ∧ True) := by
  intro r hm
  refine enter Tryz.func41 rfl Tryz.ntmps41 rfl fun J => ?_
  unfold slices_Clone_3 at hm
  refine sq2 (pn ?_)
  refine sq2 (sq2 (pu ?_))
  refine pv (r_mx (v := v_p0) rfl) ?_
  obtain ⟨a1, c1, he1⟩ := (hS.view (i := 1) ⟨rfl, rfl⟩ hV_p0).shape
  subst he1
  refine pv (r_sne rfl rfl rfl underlying31) (pn ?_)
  rcases SlV.nilOr (hS.view (i := 1) ⟨rfl, rfl⟩ hV_p0) with ⟨hb1, hl0⟩ | hb1
  · subst hb1
    subst hl0
    have hm : some [] = some r := hm
    refine cnd (b := true) rfl (fun _ => ?_) (fun h => nomatch h)
    refine sq2 (pn ?_)
    have hS1 := hS.nilO rGRecord 63
    exact re hm (hS1.sel [1, 2, 0] rfl)
  refine cnd rfl (fun h => absurd (h.symm.trans hb1) (fun h => nomatch h)) (fun _ => ?_)
  refine pn ?_
  refine sq2 (pu ?_)
  refine wl rfl (bs0S rGRecord hS underlying31 sizeOf63 fun w1 a2 n1 c2 im1 hS2 => ?_)
  obtain ⟨z_1, hro1, hm⟩ := bindS hm
  refine pv (r_mx (v := sv a1 p0 c1) rfl) (wl rfl (apO (q := 0) (l := ([] : List GRecord)) (us := p0) hS2 ⟨rfl, rfl⟩ rfl rfl (hS2.view (i := 2) ⟨rfl, rfl⟩ hV_p0) underlying31 el63 (room_some hro1) fun w2 a3 n2 c3 im2 hS3 => ?_))
  exact re hm (hS3.sel [1, 2, 0] rfl)

theorem device_Machine_Log_sim {p0 : DeviceMachine} {b_p0 o_p0 : Nat} {H_p0 : List Value → Assn} {a1 c1 a2 n1 c2 a3 n2 c3 a4 c4 a5 n3 c5} (hS : Sep g T0 w0 [starL R, segH (H_p0) enI_u32' p0.volatile.regs [.int .u32 p0.volatile.pc, .int .u32 p0.volatile.seq, .int .u32 p0.volatile.index, sv a1 p0.code c1, .slice a2 n1 c2, .slice a3 n2 c3, sv a4 p0.inputs c4, .slice a5 n3 c5, iv p0.steps, iv p0.state, .int .u32 p0.exit], ownA rDeviceMet 303 (.slice a2 n1 c2) p0.met, ownA (rInt .u8) 5 (.slice a3 n2 c3) p0.data, ownA rGRecord 63 (.slice a5 n3 c5) p0.log]) (hL_p0 : Ln b_p0 o_p0 H_p0) (h1 : SlR (rInt .u32) T0 w0 (sv a1 p0.code c1) p0.code) (h2 : SlR (rInt .u32) T0 w0 (sv a4 p0.inputs c4) p0.inputs) : ∀ r, device_Machine_Log p0 = some r →
    Calls Tryz.prog 28 #[pt b_p0 o_p0] w0 (RetS T0 w0 fun T w v => ∃ a7 n5 c7, v = .slice a7 n5 c7 ∧ Sep g T w (R ++ [segH (H_p0) enI_u32' p0.volatile.regs [.int .u32 p0.volatile.pc, .int .u32 p0.volatile.seq, .int .u32 p0.volatile.index, sv a1 p0.code c1, .slice a2 n1 c2, .slice a3 n2 c3, sv a4 p0.inputs c4, .slice a5 n3 c5, iv p0.steps, iv p0.state, .int .u32 p0.exit], ownA rDeviceMet 303 (.slice a2 n1 c2) p0.met, ownA (rInt .u8) 5 (.slice a3 n2 c3) p0.data, ownA rGRecord 63 (.slice a5 n3 c5) p0.log, ownA rGRecord 63 (.slice a7 n5 c7) r]) ∧ True) := by
  intro r hm
  refine enter Tryz.func28 rfl Tryz.ntmps28 rfl fun J => ?_
  unfold device_Machine_Log at hm
  refine sq2 (pn ?_)
  refine sq2 (sq2 (pu ?_))
  refine pv (r_pne rfl rfl rfl underlying70) (pn ?_)
  refine cnd (b := false) rfl (fun h => nomatch h) (fun _ => ?_)
  refine pn ?_
  refine sq2 ?_
  obtain ⟨z_1, hln1, hm⟩ := bindS hm
  refine pu ?_
  refine pv (r_ld rfl isAgg31 (hS.cellB (i := 1) ⟨rfl, rfl⟩ (lnSeg (k := 32) hL_p0 (lenOk_some hln1) enI_u32'_len rfl) (j := 7) rfl)) ?_
  refine cB cf41 hm (slices_Clone_3_sim (H_p0 := ownA rGRecord 63 (.slice a5 n3 c5) p0.log) (hS.bun (nrow 0 4) [4] rfl) vwOwn) ?_
  rintro y1 _ T1 w1 im1 ⟨a6, n4, c6, rfl, hS1, _⟩ hm
  exact re hm (hS1.sel (nrow 0 6) rfl)

theorem play_played_sim {p0 : GImage} {a1 c1 a2 c2} {p1 : List Int} {a3 c3 p2} {b_p2 o_p2 : Nat} {H_p2 : List Value → Assn} {p3} {b_p3 o_p3 : Nat} {H_p3 : List Value → Assn} {p4} (hS : Sep g T0 w0 [starL R, H_p2 [iv p2], H_p3 [iv p3]]) (h1 : SlR (rInt .u32) T0 w0 (sv a1 p0.Code c1) p0.Code) (h2 : SlR (rInt .u8) T0 w0 (sv a2 p0.Data c2) p0.Data) (h3 : SlR (rInt .u32) T0 w0 (sv a3 p1 c3) p1) (hL_p2 : Ln b_p2 o_p2 H_p2) (hL_p3 : Ln b_p3 o_p3 H_p3) : ∀ r, play_played p0 p1 p2 p3 p4 = some r →
    Calls Tryz.prog 14 #[.agg #[sv a1 p0.Code c1, sv a2 p0.Data c2, iv p0.Limit, iv p0.Notes], sv a3 p1 c3, .func (.func 29) #[] #[pt b_p2 o_p2, pt b_p3 o_p3], iv p4] w0 (RetS T0 w0 fun T w v => ∃ a13 c13, v = .tuple #[.agg (cGPlay r.1 a13 c13).toArray, iv r.2] ∧ Sep g T w (R ++ [H_p2 [iv p2], H_p3 [iv p3]]) ∧ SlR rGRecord T w (sv a13 r.1.Log c13) r.1.Log ∧ True) := by
  intro r hm
  refine enter Tryz.func14 rfl Tryz.ntmps14 rfl fun J => ?_
  unfold play_played at hm
  refine sq2 (bX [sv a1 p0.Code c1, sv a2 p0.Data c2, iv p0.Limit, iv p0.Notes] hS ?_)
  intro w1 b1 im1 hS1
  refine aL zv2 hS1 ?_
  intro w2 b2 im2 hS2
  refine pn ?_
  refine sq2 (pu ?_)
  obtain ⟨y1, hx1, hm⟩ := bindS hm
  rcases y1 with e1 | y1
  · have hm := exC_error hm
    refine cS cf23 (image_Load_sim (hS2.bun [0, 2, 3, 4] [] rfl) (h1.mono ch) (h2.mono ch) (h3.mono ch) _ hx1) ?_
    rintro _ T2 w5 im5 ⟨b3, a4, c4, a5, n1, c5, a6, n2, c6, a7, c7, a8, n3, c8, rfl, hS5, h4, h5, _⟩
    refine pn ?_
    refine sq2 (sq2 (cd hm ?_ ?_)) <;> intro hb2 hm
    · refine sq2 (pu ?_)
      refine pv (r_bd (by kernel_rfl) rfl (u := .agg #[iv 0, .int .u32 0, iv 0, .slice none 0 0, iv 0])) (sT 0 hS5 ?_)
      intro w6 im6 hS6
      exact re hm (hS6.sel [1, 2, 3] rfl)
    refine pn ?_
    refine sq2 (pu ?_)
    refine pv (r_imx rfl rfl) (pv (r_imn rfl rfl) ?_)
    refine cB cf24 hm (play_runs_sim (hS5.bun [0, 1] [4, 5, 6, 7, 2, 3] rfl) (lnBox b3) h4 h5 hL_p2 hL_p3) ?_
    rintro y2 _ T3 w7 im7 ⟨a9, c9, a10, c10, a11, n4, c11, rfl, hS7, h6, h7, _⟩ hm
    refine pn ?_
    refine sq2 (pu ?_)
    refine cB cf25 hm (device_Machine_State_sim (hS7.bun [0, 1, 6, 7] (nrow 2 4) rfl) (lnBox b3) h6 h7) ?_
    rintro y3 _ T4 w8 im8 ⟨rfl, hS8, _⟩ hm
    refine pu ?_
    refine cB cf26 hm (device_Machine_Exit_sim (hS8.bun (nrow 0 4) (nrow 4 4) rfl) (lnBox b3) (h6.mono im8) (h7.mono im8)) ?_
    rintro y4 _ T5 w9 im9 ⟨rfl, hS9, _⟩ hm
    refine pu ?_
    refine cB cf27 hm (device_Machine_Steps_sim (hS9.bun (nrow 0 4) (nrow 4 4) rfl) (lnBox b3) (h6.mono ch) (h7.mono ch)) ?_
    rintro y5 _ T6 w10 im10 ⟨rfl, hS10, _⟩ hm
    refine pu ?_
    refine cB cf28 hm (device_Machine_Log_sim (hS10.bun (nrow 0 4) (nrow 4 4) rfl) (lnBox b3) (h6.mono ch) (h7.mono ch)) ?_
    rintro y6 _ T7 w11 im11 ⟨a12, n5, c12, rfl, hS11, _⟩ hm
    refine pu ?_
    refine pv (r_bd (by kernel_rfl) rfl (u := .agg #[iv y3, .int .u32 y4, iv y5, .slice a12 n5 c12, iv y2.1])) (sT 0 hS11 ?_)
    intro w12 im12 hS12
    refine pu ?_
    refine nil (t_thenR [(8, pt b2 0), (9, iv 0)] ⟨rfl, rfl, trivial⟩ fun J => ?_)
    obtain ⟨T8, im13, hS13, h8, rfl⟩ := hS12.sl 8
    exact re hm (hS13.sel [1, 2, 3] rfl)
  have hm := exC_ok hm
  refine cS cf23 (image_Load_sim (hS2.bun [0, 2, 3, 4] [] rfl) (h1.mono ch) (h2.mono ch) (h3.mono ch) _ hx1) ?_
  rintro _ T1 w3 im3 ⟨rfl, hS3, _⟩
  refine pn ?_
  refine sq2 (sq2 (cd hm ?_ ?_)) <;> intro hb1 hm
  · refine sq2 (pu ?_)
    refine pv (r_bd (by kernel_rfl) rfl (u := .agg #[iv 0, .int .u32 0, iv 0, .slice none 0 0, iv 0])) (sT 0 hS3 ?_)
    intro w4 im4 hS4
    exact re hm (hS4.sel [1, 2, 3] rfl)
  refine pn ?_
  refine sq2 ?_
  cases hm

theorem play_Often_sim {p0 : GImage} {a1 c1 a2 c2} {p1 : List Int} {a3 c3 p2 p3 p4} (hS : Sep g T0 w0 [starL R]) (h1 : SlR (rInt .u32) T0 w0 (sv a1 p0.Code c1) p0.Code) (h2 : SlR (rInt .u8) T0 w0 (sv a2 p0.Data c2) p0.Data) (h3 : SlR (rInt .u32) T0 w0 (sv a3 p1 c3) p1) : ∀ r, play_Often p0 p1 p2 p3 p4 = some r →
    Calls Tryz.prog 5 #[.agg #[sv a1 p0.Code c1, sv a2 p0.Data c2, iv p0.Limit, iv p0.Notes], sv a3 p1 c3, iv p2, iv p3, iv p4] w0 (RetS T0 w0 fun T w v => ∃ a5 c5, v = .tuple #[.agg (cGPlay r.1 a5 c5).toArray, iv r.2] ∧ Sep g T w (R ++ []) ∧ SlR rGRecord T w (sv a5 r.1.Log c5) r.1.Log ∧ True) := by
  intro r hm
  refine enter Tryz.func5 rfl Tryz.ntmps5 rfl fun J => ?_
  unfold play_Often at hm
  refine sq2 (bX [sv a1 p0.Code c1, sv a2 p0.Data c2, iv p0.Limit, iv p0.Notes] hS ?_)
  intro w1 b1 im1 hS1
  refine aL zv2 hS1 ?_
  intro w2 b2 im2 hS2
  refine pn ?_
  refine sq2 (sq2 (pu ?_))
  refine fkN (d := 17) (c := ((decide (p2 < 0)) || (decide (p3 < 1)))) 3 [(1, sv a3 p1 c3), (2, iv p2), (3, iv p3), (4, iv p4), (5, pt b1 0), (10, pt b2 0)] rfl (fun hk => ?_) fun J => ?_
  · rcases Bool.eq_false_or_eq_true (decide (p2 < 0)) with hb1 | hb1
    · exact  gF2 (d0 := 14) rfl rfl (by rw [hb1]; rfl) (pv (r_pkt rfl hb1 rfl) (wlR (fun J => hk J _ (by rw [hb1]; rfl)) ⟨rfl, rfl, rfl, rfl, rfl, rfl, rfl, trivial⟩))
    exact  gT (d0 := 14) rfl rfl hb1 (pv (r_mi rfl) (gT (d0 := 14) rfl rfl hb1 (pv (r_ib rfl rfl rfl) (pv (r_pkf rfl hb1 rfl) (wlR (fun J => hk J _ (by rw [hb1]; rfl)) ⟨rfl, rfl, rfl, rfl, rfl, rfl, rfl, trivial⟩)))))
  refine cd hm ?_ ?_ <;> intro hb2 hm
  · refine sq2 (pu ?_)
    refine pv (r_bd (by kernel_rfl) rfl (u := .agg #[iv 0, .int .u32 0, iv 0, .slice none 0 0, iv 0])) (sT 0 hS2 ?_)
    intro w3 im3 hS3
    exact re hm (hS3.sel [2] rfl)
  refine pn ?_
  refine sq2 (rsS [1, 0, 0, 0, 2, 0, 2, 0, 0, 2, 0] [0, 1, 2, 3, 5, 4, 6, 7, 8, 9, 10] hS2 fun w4 im4 hS4 => ?_)
  obtain ⟨y1, hx1, hm⟩ := bindS hm
  refine sS [(0, .agg #[sv a1 p0.Code c1, sv a2 p0.Data c2, iv p0.Limit, iv p0.Notes])] cf15 (play_each_sim (hS4.bun [0, 2, 1] [] rfl) _ hx1) ?_
  rintro _ T1 w5 im5 ⟨b3, b4, rfl, hS5, _⟩
  refine pu ?_
  obtain ⟨y2, hx2, hm⟩ := bindS hm
  refine sS [] cf14 (play_played_sim (hS5.bun [0, 1, 2] [3, 4] rfl) (h1.mono ch) (h2.mono ch) (h3.mono ch) (lnBox b3) (lnBox b4) _ hx2) ?_
  rintro _ T2 w6 im6 ⟨a4, c4, rfl, hS6, h4, _⟩
  refine s2W [] ?_
  refine osT 0 hS6 ?_
  intro w7 im7 hS7
  exact re hm (hS7.sel [1] rfl)

theorem ref03_May_sim {p0 p1} (hS : Sep g T0 w0 [starL R])  : ∀ r, ref03_May p0 p1 = some r →
    Calls Tryz.prog 6 #[iv p0, iv p1] w0 (RetS T0 w0 fun T w v => v = iv r ∧ Sep g T w (R ++ []) ∧ True) := by
  intro r hm
  refine enter Tryz.func6 rfl Tryz.ntmps6 rfl fun J => ?_
  unfold ref03_May at hm
  refine sq2 (pn ?_)
  refine sq2 (sq2 (pu ?_))
  refine fkC (d := 10) (c := ((decide (p0 < 1)) || (decide (32768 < p0)))) 3 [(1, iv p1)] rfl (fun hk => ?_) fun J => ?_
  · rcases Bool.eq_false_or_eq_true (decide (p0 < 1)) with hb1 | hb1
    · exact  gF2 (d0 := 7) rfl rfl (by rw [hb1]; rfl) (pv (r_pkt rfl hb1 rfl) (wlR (fun J => hk J _ (by rw [hb1]; rfl)) ⟨rfl, rfl, trivial⟩))
    exact  gT (d0 := 7) rfl rfl hb1 (pv (r_mi rfl) (gT (d0 := 7) rfl rfl hb1 (pv (r_ib rfl rfl rfl) (pv (r_pkf rfl hb1 rfl) (wlR (fun J => hk J _ (by rw [hb1]; rfl)) ⟨rfl, rfl, trivial⟩)))))
  refine pu ?_
  refine fkC (d := 14) (c := (((decide (p0 < 1)) || (decide (32768 < p0))) || (decide (p1 < 4)))) 3 [(1, iv p1)] rfl (fun hk => ?_) fun J => ?_
  · rcases Bool.eq_false_or_eq_true ((decide (p0 < 1)) || (decide (32768 < p0))) with hb2 | hb2
    · exact  gF2 (d0 := 11) rfl rfl (by rw [hb2]; rfl) (pv (r_pkt rfl hb2 rfl) (wlR (fun J => hk J _ (by rw [hb2]; rfl)) ⟨rfl, rfl, trivial⟩))
    exact  gT (d0 := 11) rfl rfl hb2 (pv (r_mi rfl) (gT (d0 := 11) rfl rfl hb2 (pv (r_ib rfl rfl rfl) (pv (r_pkf rfl hb2 rfl) (wlR (fun J => hk J _ (by rw [hb2]; rfl)) ⟨rfl, rfl, trivial⟩)))))
  refine pu ?_
  refine fkC (d := 18) (c := ((((decide (p0 < 1)) || (decide (32768 < p0))) || (decide (p1 < 4))) || (decide (65536 < p1)))) 3 [(1, iv p1)] rfl (fun hk => ?_) fun J => ?_
  · rcases Bool.eq_false_or_eq_true (((decide (p0 < 1)) || (decide (32768 < p0))) || (decide (p1 < 4))) with hb3 | hb3
    · exact  gF2 (d0 := 15) rfl rfl (by rw [hb3]; rfl) (pv (r_pkt rfl hb3 rfl) (wlR (fun J => hk J _ (by rw [hb3]; rfl)) ⟨rfl, rfl, trivial⟩))
    exact  gT (d0 := 15) rfl rfl hb3 (pv (r_mi rfl) (gT (d0 := 15) rfl rfl hb3 (pv (r_ib rfl rfl rfl) (pv (r_pkf rfl hb3 rfl) (wlR (fun J => hk J _ (by rw [hb3]; rfl)) ⟨rfl, rfl, trivial⟩)))))
  refine pu ?_
  refine fkN (d := 23) (c := (((((decide (p0 < 1)) || (decide (32768 < p0))) || (decide (p1 < 4))) || (decide (65536 < p1))) || ((Int.tmod p1 4) != 0))) 4 [] rfl (fun hk => ?_) fun J => ?_
  · rcases Bool.eq_false_or_eq_true ((((decide (p0 < 1)) || (decide (32768 < p0))) || (decide (p1 < 4))) || (decide (65536 < p1))) with hb4 | hb4
    · exact  gF3 (d0 := 19) rfl rfl (by rw [hb4]; rfl) (pv (r_pkt rfl hb4 rfl) (wlR (fun J => hk J _ (by rw [hb4]; rfl)) ⟨rfl, trivial⟩))
    exact  gT (d0 := 19) rfl rfl hb4 (pv (r_mi rfl) (gT (d0 := 19) rfl rfl hb4 (pv (r_irm rfl rfl (by decide)) (gT (d0 := 19) rfl rfl hb4 (pv (r_ib rfl rfl rfl) (pv (r_pkf rfl hb4 rfl) (wlR (fun J => hk J _ (by rw [hb4]; rfl)) ⟨rfl, trivial⟩)))))))
  refine cd hm ?_ ?_ <;> intro hb5 hm
  · exact sq2 (re hm (hS.sel [0] rfl))
  refine pn ?_
  exact sq2 (re hm (hS.sel [0] rfl))

theorem ref03_Begin_sim {p0 : List Int} {a1 c1} {p1 : List Int} {a2 c2} {p2 : List Int} {a3 c3} (hS : Sep g T0 w0 [starL R]) (h1 : SlR (rInt .u32) T0 w0 (sv a1 p0 c1) p0) (h2 : SlR (rInt .u8) T0 w0 (sv a2 p1 c2) p1) (h3 : SlR (rInt .u32) T0 w0 (sv a3 p2 c3) p2) : ∀ r, ref03_Begin p0 p1 p2 = some r →
    Calls Tryz.prog 7 #[sv a1 p0 c1, sv a2 p1 c2, sv a3 p2 c3] w0 (RetS T0 w0 fun T w v => ∃ b2 a8 c8 a9 n5 c9 a10 c10 a11 n6 c11 a12 n7 c12, v = pt b2 0 ∧ Sep g T w (R ++ gref03Machine r (boxA b2) a8 c8 a9 n5 c9 a10 c10 a11 n6 c11 a12 n7 c12) ∧ SlR (rInt .u32) T w (sv a8 r.Code c8) r.Code ∧ SlR (rInt .u32) T w (sv a10 r.Inputs c10) r.Inputs ∧ True) := by
  intro r hm
  refine enter Tryz.func7 rfl Tryz.ntmps7 rfl fun J => ?_
  unfold ref03_Begin at hm
  refine sq2 (pn ?_)
  refine sq2 (pn ?_)
  refine sq2 (sq2 (pn ?_))
  have hS1 := hS.nilO (rInt .u8) 5
  refine lpJ hm (fun bd1 o1 m a w1 => ∃ (T1 : _) (x1 : List Int) (a4 : _) (n1 : _) (c4 : _) (x2 : _), JR (nf 28) g T0 w0 a w1 T1 (loopM bd1 m (x1, x2) = some o1) [(0, sv a1 p0 c1), (1, sv a2 p1 c2), (2, sv a3 p2 c3), (7, .slice a4 n1 c4), (8, iv x2)] [ownA (rInt .u8) 5 (.slice a4 n1 c4) x1, starL R]) (fun _ _ h => je h (hS1.sel [0, 1] rfl)) ?_
  rintro bd1 hbd1 o1 hq1 _ _ w1 ⟨T1, x1, a4, n1, c4, x2, J, ho1, rfl, hS2, im1⟩
  obtain ⟨m1, z1, rfl, hm, hn1⟩ := lrE ho1 hbd1
  refine sq2 (sq2 (cd hm ?_ ?_)) <;> intro hb1 hm
  · refine pn ?_
    refine sq2 (blk ?_)
    obtain ⟨u1, hx1, hm⟩ := bindS hm
    refine bS (r := (rInt .u8)) (l := ([u1] : List Int)) (css := [[.int .u8 u1]]) hS2 ⟨rfl, trivial⟩ ?_
    intro w2 a5 n2 c5 im2 hS3
    obtain ⟨z_1, hro1, hm⟩ := bindS hm
    refine aO 1 hS3 (room_some hro1) ?_
    intro w3 a6 n3 c6 im3 hS4
    exact lg hm hn1 (hS4.sel [1, 2] rfl)
  have hm := brkE hm hn1 hq1
  refine pn ?_
  refine sq2 ?_
  obtain ⟨u2, hx2, hm⟩ := bindS hm
  refine pu ?_
  refine wl rfl (msS (r := (rInt .u32)) hS2 rfl rfl underlying22 el30 zeroValue30 rfl hx2 fun w4 a7 n4 c7 im4 hS5 => ?_)
  refine pv (r_bd (by kernel_rfl) rfl (u := .agg #[sv a1 p0 c1, .slice a4 n1 c4, sv a3 p2 c3, .slice a7 n4 c7, iv 0, .int .u32 0, .int .u32 0, .slice none 0 0, iv 0, iv 0, .int .u32 0])) (bX [sv a1 p0 c1, .slice a4 n1 c4, sv a3 p2 c3, .slice a7 n4 c7, iv 0, .int .u32 0, .int .u32 0, .slice none 0 0, iv 0, iv 0, .int .u32 0] hS5 ?_)
  intro w5 b1 im5 hS6
  refine pn ?_
  have hS7 := hS6.nilO rGRecord 62
  exact re hm (hS7.sel [4, 1, 3, 2, 0] rfl)

theorem ref03_Machine_Fail_sim {p0 : ref03Machine} {b_p0 o_p0 : Nat} {H_p0 : List Value → Assn} {a1 c1 a2 n1 c2 a3 c3 a4 n2 c4 a5 n3 c5} (hS : Sep g T0 w0 ([starL R] ++ gref03Machine p0 H_p0 a1 c1 a2 n1 c2 a3 c3 a4 n2 c4 a5 n3 c5)) (hL_p0 : Ln b_p0 o_p0 H_p0) (h1 : SlR (rInt .u32) T0 w0 (sv a1 p0.Code c1) p0.Code) (h2 : SlR (rInt .u32) T0 w0 (sv a3 p0.Inputs c3) p0.Inputs) : ∀ r, ref03_Machine_Fail p0 = some r →
    Calls Tryz.prog 16 #[pt b_p0 o_p0] w0 (RetS T0 w0 fun T w v => ∃ a7 c7 a8 c8 a9 n5 c9, v = .tuple #[] ∧ Sep g T w (R ++ gref03Machine r H_p0 a7 c7 a2 n1 c2 a8 c8 a9 n5 c9 a5 n3 c5) ∧ SlR (rInt .u32) T w (sv a7 r.Code c7) r.Code ∧ SlR (rInt .u32) T w (sv a8 r.Inputs c8) r.Inputs ∧ True) := by
  intro r hm
  refine enter Tryz.func16 rfl Tryz.ntmps16 rfl fun J => ?_
  unfold ref03_Machine_Fail at hm
  refine sq2 (cd hm ?_ ?_) <;> intro hb1 hm
  · refine sq2 ?_
    obtain ⟨u1, hx1, hm⟩ := bindS hm
    refine pu ?_
    refine wl rfl (msS (r := (rInt .u32)) hS rfl rfl underlying22 el30 zeroValue30 rfl hx1 fun w1 a6 n4 c6 im1 hS1 => ?_)
    refine sB 2 3 hL_p0 hS1 ?_
    intro w2 im2 hS2
    refine pn ?_
    refine sq2 (sB 2 4 hL_p0 hS2 ?_)
    intro w3 im3 hS3
    refine pn ?_
    refine sq2 (sB 2 5 hL_p0 hS3 ?_)
    intro w4 im4 hS4
    refine pn ?_
    refine sB 2 6 hL_p0 hS4 ?_
    intro w5 im5 hS5
    have hm := oI hm; subst hm
    refine pn ?_
    exact end0 rfl ⟨_, rfl, _, ch, ⟨_, _, _, _, _, _, _, rfl, (hS5.sel [1, 2, 3, 0, 5] rfl).unb, (h1.mono ch), (h2.mono ch), trivial⟩⟩
  have hm := oI hm; subst hm
  refine pn ?_
  exact end0 rfl ⟨_, rfl, _, Im.refl, ⟨_, _, _, _, _, _, _, rfl, (hS.sel (nrow 0 5) rfl).unb, h1, h2, trivial⟩⟩

theorem ref02_Form_sim {p0} (hS : Sep g T0 w0 [starL R])  : ∀ r, ref02_Form p0 = some r →
    Calls Tryz.prog 42 #[iv p0] w0 (RetS T0 w0 fun T w v => v = .int .u8 r ∧ Sep g T w (R ++ []) ∧ True) := by
  intro r hm
  refine enter Tryz.func42 rfl Tryz.ntmps42 rfl fun J => ?_
  unfold ref02_Form at hm
  refine sq2 (pn ?_)
  refine sq2 (sq2 (pu ?_))
  rcases bc hm with ⟨hb1, hm⟩ | ⟨hb1, hm⟩
  · refine pn ?_
    refine cnd (b := true) rfl (fun _ => ?_) (fun h => nomatch h)
    exact sq2 (re hm (hS.sel [0] rfl))
  refine cd hm ?_ ?_ <;> intro hb2 hm
  · exact sq2 (re hm (hS.sel [0] rfl))
  refine pn ?_
  refine sq2 (sq2 (cd hm ?_ ?_)) <;> intro hb3 hm
  · exact sq2 (re hm (hS.sel [0] rfl))
  refine pn ?_
  refine sq2 (sq2 (cd hm ?_ ?_)) <;> intro hb4 hm
  · exact sq2 (re hm (hS.sel [0] rfl))
  refine pn ?_
  refine sq2 (sq2 (pu ?_))
  rcases bc hm with ⟨hb5, hm⟩ | ⟨hb5, hm⟩
  · refine cd hm ?_ ?_ <;> intro hb6 hm
    · exact sq2 (re hm (hS.sel [0] rfl))
    refine pn ?_
    refine sq2 (sq2 (pu ?_))
    rcases bc hm with ⟨hb7, hm⟩ | ⟨hb7, hm⟩
    · refine cd hm ?_ ?_ <;> intro hb8 hm
      · exact sq2 (re hm (hS.sel [0] rfl))
      refine pn ?_
      refine sq2 (sq2 (pu ?_))
      rcases bc hm with ⟨hb9, hm⟩ | ⟨hb9, hm⟩
      · refine pu ?_
        refine nil (t_thenR [(0, iv p0), (30, .bool (decide (p0 ≤ 27)))] ⟨rfl, rfl, trivial⟩ fun J => ?_)
        refine cd hm ?_ ?_ <;> intro hb10 hm
        · exact sq2 (re hm (hS.sel [0] rfl))
        refine pn ?_
        refine sq2 (sq2 (cd hm ?_ ?_)) <;> intro hb11 hm
        · exact sq2 (re hm (hS.sel [0] rfl))
        refine pn ?_
        exact sq2 (re hm (hS.sel [0] rfl))
      refine pu ?_
      refine nil (t_thenR [(0, iv p0), (30, .bool false)] ⟨rfl, rfl, trivial⟩ fun J => ?_)
      refine cnd (b := false) rfl (fun h => nomatch h) (fun _ => ?_)
      refine pn ?_
      refine sq2 (sq2 (cd hm ?_ ?_)) <;> intro hb13 hm
      · exact sq2 (re hm (hS.sel [0] rfl))
      refine pn ?_
      exact sq2 (re hm (hS.sel [0] rfl))
    refine pn ?_
    refine cnd (b := false) rfl (fun h => nomatch h) (fun _ => ?_)
    refine pn ?_
    refine sq2 (sq2 (pu ?_))
    rcases bc hm with ⟨hb15, hm⟩ | ⟨hb15, hm⟩
    · refine pu ?_
      refine nil (t_thenR [(0, iv p0), (30, .bool (decide (p0 ≤ 27)))] ⟨rfl, rfl, trivial⟩ fun J => ?_)
      refine cd hm ?_ ?_ <;> intro hb16 hm
      · exact sq2 (re hm (hS.sel [0] rfl))
      refine pn ?_
      refine sq2 (sq2 (cd hm ?_ ?_)) <;> intro hb17 hm
      · exact sq2 (re hm (hS.sel [0] rfl))
      refine pn ?_
      exact sq2 (re hm (hS.sel [0] rfl))
    refine pu ?_
    refine nil (t_thenR [(0, iv p0), (30, .bool false)] ⟨rfl, rfl, trivial⟩ fun J => ?_)
    refine cnd (b := false) rfl (fun h => nomatch h) (fun _ => ?_)
    refine pn ?_
    refine sq2 (sq2 (cd hm ?_ ?_)) <;> intro hb19 hm
    · exact sq2 (re hm (hS.sel [0] rfl))
    refine pn ?_
    exact sq2 (re hm (hS.sel [0] rfl))
  refine pn ?_
  refine cnd (b := false) rfl (fun h => nomatch h) (fun _ => ?_)
  refine pn ?_
  refine sq2 (sq2 (pu ?_))
  rcases bc hm with ⟨hb21, hm⟩ | ⟨hb21, hm⟩
  · refine cd hm ?_ ?_ <;> intro hb22 hm
    · exact sq2 (re hm (hS.sel [0] rfl))
    refine pn ?_
    refine sq2 (sq2 (pu ?_))
    rcases bc hm with ⟨hb23, hm⟩ | ⟨hb23, hm⟩
    · refine pu ?_
      refine nil (t_thenR [(0, iv p0), (30, .bool (decide (p0 ≤ 27)))] ⟨rfl, rfl, trivial⟩ fun J => ?_)
      refine cd hm ?_ ?_ <;> intro hb24 hm
      · exact sq2 (re hm (hS.sel [0] rfl))
      refine pn ?_
      refine sq2 (sq2 (cd hm ?_ ?_)) <;> intro hb25 hm
      · exact sq2 (re hm (hS.sel [0] rfl))
      refine pn ?_
      exact sq2 (re hm (hS.sel [0] rfl))
    refine pu ?_
    refine nil (t_thenR [(0, iv p0), (30, .bool false)] ⟨rfl, rfl, trivial⟩ fun J => ?_)
    refine cnd (b := false) rfl (fun h => nomatch h) (fun _ => ?_)
    refine pn ?_
    refine sq2 (sq2 (cd hm ?_ ?_)) <;> intro hb27 hm
    · exact sq2 (re hm (hS.sel [0] rfl))
    refine pn ?_
    exact sq2 (re hm (hS.sel [0] rfl))
  refine pn ?_
  refine cnd (b := false) rfl (fun h => nomatch h) (fun _ => ?_)
  refine pn ?_
  refine sq2 (sq2 (pu ?_))
  rcases bc hm with ⟨hb29, hm⟩ | ⟨hb29, hm⟩
  · refine pu ?_
    refine nil (t_thenR [(0, iv p0), (30, .bool (decide (p0 ≤ 27)))] ⟨rfl, rfl, trivial⟩ fun J => ?_)
    refine cd hm ?_ ?_ <;> intro hb30 hm
    · exact sq2 (re hm (hS.sel [0] rfl))
    refine pn ?_
    refine sq2 (sq2 (cd hm ?_ ?_)) <;> intro hb31 hm
    · exact sq2 (re hm (hS.sel [0] rfl))
    refine pn ?_
    exact sq2 (re hm (hS.sel [0] rfl))
  refine pu ?_
  refine nil (t_thenR [(0, iv p0), (30, .bool false)] ⟨rfl, rfl, trivial⟩ fun J => ?_)
  refine cnd (b := false) rfl (fun h => nomatch h) (fun _ => ?_)
  refine pn ?_
  refine sq2 (sq2 (cd hm ?_ ?_)) <;> intro hb33 hm
  · exact sq2 (re hm (hS.sel [0] rfl))
  refine pn ?_
  exact sq2 (re hm (hS.sel [0] rfl))

theorem ref02_two_sim {p0} (hS : Sep g T0 w0 [starL R])  : ∀ r, ref02_two p0 = some r →
    Calls Tryz.prog 72 #[iv p0] w0 (RetS T0 w0 fun T w v => v = iv r ∧ Sep g T w (R ++ []) ∧ True) := by
  intro r hm
  refine enter Tryz.func72 rfl Tryz.ntmps72 rfl fun J => ?_
  unfold ref02_two at hm
  refine sq2 (pn ?_)
  refine sq2 (pn ?_)
  refine sq2 (sq2 (pn ?_))
  refine lpJ hm (fun bd1 o1 m a w1 => ∃ T1 x1 x2, JR (nf 13) g T0 w0 a w1 T1 (loopM bd1 m (x1, x2) = some o1) [(0, iv p0), (3, iv x1), (4, iv x2)] [starL R]) (fun _ _ h => je h (hS.sel [0] rfl)) ?_
  rintro bd1 hbd1 o1 hq1 _ _ w1 ⟨T1, x1, x2, J, ho1, rfl, hS1, im1⟩
  obtain ⟨m1, z1, rfl, hm, hn1⟩ := lrE ho1 hbd1
  refine sq2 (sq2 (cd hm ?_ ?_)) <;> intro hb1 hm
  · refine pn ?_
    exact sq2 (blk (lg hm hn1 (hS1.sel [0] rfl)))
  have hm := brkE hm hn1 hq1
  refine pn ?_
  exact sq2 (re hm (hS1.sel [0] rfl))
end Go.Proofs.YtgacfocekkckfaaGreatDoor
