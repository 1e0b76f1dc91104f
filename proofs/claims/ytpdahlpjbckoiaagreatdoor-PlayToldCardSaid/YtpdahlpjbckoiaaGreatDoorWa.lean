/- That Go functions compute their models. Printed by gen2.py. -/
import Derived.Test.YtpdahlpjbckoiaaGreatDoorRows
import Derived.Test.YtpdahlpjbckoiaaGreatDoorFoc
import Derived.Test.YtpdahlpjbckoiaaGreatDoorTree
import Derived.Test.YtpdahlpjbckoiaaGreatDoorSeg
import Derived.Test.YtpdahlpjbckoiaaGreatDoorArr
import Derived.Test.YtpdahlpjbckoiaaGreatDoorErr
import Derived.Test.YtpdahlpjbckoiaaGreatDoorM
set_option linter.unusedVariables false
namespace Go.Proofs.YtpdahlpjbckoiaaGreatDoor
open _root_.Go.Proofs.Tryz
set_option maxRecDepth 100000
set_option maxHeartbeats 8000000
attribute [local irreducible] wpList wpQuiet Code.wp
variable {g : World} {T0 : Nat → Prop} {w0 : World} {R : Assn}
def rInstShape : Rp InstShape := ((rPair rStr (rPair (rInt .u8) (rPair (rInt .u32) (rPair (rInt .u32) (rInt .u32)))))).iso fun x => (x.name, x.form, x.code, x.third, x.seventh)
theorem rInstShape_open {T : Nat → Prop} {w : World} {cs : List Value} {x : InstShape} (h : rInstShape.rp T w cs x) : cs = [.string ⟨x.name.toArray⟩, .int .u8 x.form, .int .u32 x.code, .int .u32 x.third, .int .u32 x.seventh] := by
  obtain ⟨q1, y1, rfl, f1, g1⟩ := h
  cases f1
  obtain ⟨q2, y2, rfl, f2, g2⟩ := g1
  cases f2
  obtain ⟨q3, y3, rfl, f3, g3⟩ := g2
  cases f3
  obtain ⟨q4, y4, rfl, f4, g4⟩ := g3
  cases f4
  cases g4
  exact rfl
theorem rInstShape_mk {T : Nat → Prop} {w : World} {x : InstShape}   : rInstShape.rp T w [.string ⟨x.name.toArray⟩, .int .u8 x.form, .int .u32 x.code, .int .u32 x.third, .int .u32 x.seventh] x := ⟨_, _, rfl, rfl, ⟨_, _, rfl, rfl, ⟨_, _, rfl, rfl, ⟨_, _, rfl, rfl, rfl⟩⟩⟩⟩
def rGInst : Rp GInst := ((rPair (rInt .i64) (rPair (rInt .i64) (rPair (rInt .i64) (rPair (rInt .i64) (rInt .i64)))))).iso fun x => (x.Op, x.Rd, x.Rs1, x.Rs2, x.Imm)
theorem rGInst_open {T : Nat → Prop} {w : World} {cs : List Value} {x : GInst} (h : rGInst.rp T w cs x) : cs = [.int .i64 x.Op, .int .i64 x.Rd, .int .i64 x.Rs1, .int .i64 x.Rs2, .int .i64 x.Imm] := by
  obtain ⟨q1, y1, rfl, f1, g1⟩ := h
  cases f1
  obtain ⟨q2, y2, rfl, f2, g2⟩ := g1
  cases f2
  obtain ⟨q3, y3, rfl, f3, g3⟩ := g2
  cases f3
  obtain ⟨q4, y4, rfl, f4, g4⟩ := g3
  cases f4
  cases g4
  exact rfl
theorem rGInst_mk {T : Nat → Prop} {w : World} {x : GInst}   : rGInst.rp T w [.int .i64 x.Op, .int .i64 x.Rd, .int .i64 x.Rs1, .int .i64 x.Rs2, .int .i64 x.Imm] x := ⟨_, _, rfl, rfl, ⟨_, _, rfl, rfl, ⟨_, _, rfl, rfl, ⟨_, _, rfl, rfl, rfl⟩⟩⟩⟩
def rGRecord : Rp GRecord := ((rPair (rInt .u32) (rInt .u32))).iso fun x => (x.Seq, x.Val)
theorem rGRecord_open {T : Nat → Prop} {w : World} {cs : List Value} {x : GRecord} (h : rGRecord.rp T w cs x) : cs = [.int .u32 x.Seq, .int .u32 x.Val] := by
  obtain ⟨q1, y1, rfl, f1, g1⟩ := h
  cases f1
  cases g1
  exact rfl
theorem rGRecord_mk {T : Nat → Prop} {w : World} {x : GRecord}   : rGRecord.rp T w [.int .u32 x.Seq, .int .u32 x.Val] x := ⟨_, _, rfl, rfl, rfl⟩
def rGPlay : Rp GPlay := ((rPair (rInt .i64) (rPair (rInt .u32) (rPair (rInt .i64) (rPair (rSl rGRecord) (rInt .i64)))))).iso fun x => (x.State, x.Exit, x.Steps, x.Log, x.Fails)
theorem rGPlay_open {T : Nat → Prop} {w : World} {cs : List Value} {x : GPlay} (h : rGPlay.rp T w cs x) : ∃ (a3 : Option Addr) (c3 : Nat), cs = [.int .i64 x.State, .int .u32 x.Exit, .int .i64 x.Steps, .slice a3 (List.length x.Log) c3, .int .i64 x.Fails] ∧ SlR rGRecord T w (.slice a3 (List.length x.Log) c3) x.Log := by
  obtain ⟨q1, y1, rfl, f1, g1⟩ := h
  cases f1
  obtain ⟨q2, y2, rfl, f2, g2⟩ := g1
  cases f2
  obtain ⟨q3, y3, rfl, f3, g3⟩ := g2
  cases f3
  obtain ⟨q4, y4, rfl, f4, g4⟩ := g3
  obtain ⟨v5, rfl, s5⟩ := f4
  obtain ⟨b5, k5, rfl⟩ := s5.shape
  cases g4
  exact ⟨b5, k5, rfl, s5⟩
theorem rGPlay_mk {T : Nat → Prop} {w : World} {x : GPlay} {a3 : Option Addr} {c3 : Nat} (e0 : SlR rGRecord T w (.slice a3 (List.length x.Log) c3) x.Log) : rGPlay.rp T w [.int .i64 x.State, .int .u32 x.Exit, .int .i64 x.Steps, .slice a3 (List.length x.Log) c3, .int .i64 x.Fails] x := ⟨_, _, rfl, rfl, ⟨_, _, rfl, rfl, ⟨_, _, rfl, rfl, ⟨_, _, rfl, ⟨_, rfl, e0⟩, rfl⟩⟩⟩⟩
def rOutcome : Rp Outcome := ((rPair (rSl (rInt .u32)) (rPair (rInt .i64) (rPair (rInt .u32) (rInt .i64))))).iso fun x => (x.Out, x.Ins, x.Exit, x.E)
theorem rOutcome_open {T : Nat → Prop} {w : World} {cs : List Value} {x : Outcome} (h : rOutcome.rp T w cs x) : ∃ (a0 : Option Addr) (c0 : Nat), cs = [.slice a0 (List.length x.Out) c0, .int .i64 x.Ins, .int .u32 x.Exit, .int .i64 x.E] ∧ SlR (rInt .u32) T w (.slice a0 (List.length x.Out) c0) x.Out := by
  obtain ⟨q1, y1, rfl, f1, g1⟩ := h
  obtain ⟨v2, rfl, s2⟩ := f1
  obtain ⟨b2, k2, rfl⟩ := s2.shape
  obtain ⟨q3, y3, rfl, f3, g3⟩ := g1
  cases f3
  obtain ⟨q4, y4, rfl, f4, g4⟩ := g3
  cases f4
  cases g4
  exact ⟨b2, k2, rfl, s2⟩
theorem rOutcome_mk {T : Nat → Prop} {w : World} {x : Outcome} {a0 : Option Addr} {c0 : Nat} (e0 : SlR (rInt .u32) T w (.slice a0 (List.length x.Out) c0) x.Out) : rOutcome.rp T w [.slice a0 (List.length x.Out) c0, .int .i64 x.Ins, .int .u32 x.Exit, .int .i64 x.E] x := ⟨_, _, rfl, ⟨_, rfl, e0⟩, ⟨_, _, rfl, rfl, ⟨_, _, rfl, rfl, rfl⟩⟩⟩
def enInstShape' (x : InstShape) : List Value := [.string ⟨x.name.toArray⟩, .int .u8 x.form, .int .u32 x.code, .int .u32 x.third, .int .u32 x.seventh]
theorem enInstShape'_len : ∀ x, (enInstShape' x).length = 5 := fun _ => rfl
theorem enInstShape'_rp (T : Nat → Prop) (w : World) (x : InstShape) : rInstShape.rp T w (enInstShape' x) x := rInstShape_mk
theorem cf4 : CallOk Tryz.prog 4 := ⟨⟨_, Tryz.func4, by kernel_rfl, by kernel_rfl⟩⟩
theorem cf5 : CallOk Tryz.prog 5 := ⟨⟨_, Tryz.func5, by kernel_rfl, by kernel_rfl⟩⟩
theorem cf6 : CallOk Tryz.prog 6 := ⟨⟨_, Tryz.func6, by kernel_rfl, by kernel_rfl⟩⟩
theorem cf7 : CallOk Tryz.prog 7 := ⟨⟨_, Tryz.func7, by kernel_rfl, by kernel_rfl⟩⟩
theorem cf8 : CallOk Tryz.prog 8 := ⟨⟨_, Tryz.func8, by kernel_rfl, by kernel_rfl⟩⟩
theorem cf9 : CallOk Tryz.prog 9 := ⟨⟨_, Tryz.func9, by kernel_rfl, by kernel_rfl⟩⟩
theorem cf10 : CallOk Tryz.prog 10 := ⟨⟨_, Tryz.func10, by kernel_rfl, by kernel_rfl⟩⟩
theorem cf13 : CallOk Tryz.prog 13 := ⟨⟨_, Tryz.func13, by kernel_rfl, by kernel_rfl⟩⟩
theorem cf14 : CallOk Tryz.prog 14 := ⟨⟨_, Tryz.func14, by kernel_rfl, by kernel_rfl⟩⟩
theorem cf15 : CallOk Tryz.prog 15 := ⟨⟨_, Tryz.func15, by kernel_rfl, by kernel_rfl⟩⟩
theorem cf16 : CallOk Tryz.prog 16 := ⟨⟨_, Tryz.func16, by kernel_rfl, by kernel_rfl⟩⟩
theorem cf17 : CallOk Tryz.prog 17 := ⟨⟨_, Tryz.func17, by kernel_rfl, by kernel_rfl⟩⟩
theorem cf21 : CallOk Tryz.prog 21 := ⟨⟨_, Tryz.func21, by kernel_rfl, by kernel_rfl⟩⟩
theorem cf201 : CallOk Tryz.prog 201 := ⟨⟨_, Tryz.func201, by kernel_rfl, by kernel_rfl⟩⟩
theorem cf206 : CallOk Tryz.prog 206 := ⟨⟨_, Tryz.func206, by kernel_rfl, by kernel_rfl⟩⟩
theorem cf207 : CallOk Tryz.prog 207 := ⟨⟨_, Tryz.func207, by kernel_rfl, by kernel_rfl⟩⟩
theorem cf333 : CallOk Tryz.prog 333 := ⟨⟨_, Tryz.func333, by kernel_rfl, by kernel_rfl⟩⟩
theorem cf457 : CallOk Tryz.prog 457 := ⟨⟨_, Tryz.func457, by kernel_rfl, by kernel_rfl⟩⟩
theorem cf458 : CallOk Tryz.prog 458 := ⟨⟨_, Tryz.func458, by kernel_rfl, by kernel_rfl⟩⟩
theorem el22 : ElemOk Tryz.prog 22 1 := ⟨by kernel_rfl, by decide⟩
theorem el37 : ElemOk Tryz.prog 37 2 := ⟨by kernel_rfl, by decide⟩
theorem el49 : ElemOk Tryz.prog 49 2 := ⟨by kernel_rfl, by decide⟩
theorem mix : Tryz.prog.follows .mixedOrders = true := by kernel_rfl
abbrev cInstShape (x : InstShape)  : List Value := [.string ⟨x.name.toArray⟩, .int .u8 x.form, .int .u32 x.code, .int .u32 x.third, .int .u32 x.seventh]
abbrev cGInst (x : GInst)  : List Value := [.int .i64 x.Op, .int .i64 x.Rd, .int .i64 x.Rs1, .int .i64 x.Rs2, .int .i64 x.Imm]
abbrev cGPlay (x : GPlay) (a3 : Option Addr) (c3 : Nat) : List Value := [.int .i64 x.State, .int .u32 x.Exit, .int .i64 x.Steps, .slice a3 (List.length x.Log) c3, .int .i64 x.Fails]
abbrev iv (x : Int) : Value := .int .i64 x
abbrev sv {α : Type} (a : Option Addr) (l : List α) (c : Nat) : Value := .slice a (List.length l) c
abbrev pt (b o : Nat) : Value := .pointer (some ⟨b, o, none⟩)
abbrev OA := Option Addr
abbrev JV := Nat → Value
abbrev TP := Nat → Prop

theorem inst_table_sim  {r : (List InstShape)} (hS : Sep g T0 w0 [R])  (hm : inst_table = some r) :
    Calls Tryz.prog 206 #[] w0 (RetS T0 w0 fun T w v => v = .agg (segF enInstShape' r).toArray ∧ Sep g T w [R] ∧ True) := by
  refine enter (args := []) Tryz.func206 rfl Tryz.ntmps206 rfl fun J => ?_
  unfold inst_table at hm
  refine sq2 (rg (wl rfl (alS (zs := (List.map enInstShape' (List.replicate 46 (⟨([] : List UInt8), 0, 0, 0, 0⟩ : InstShape))).flatten ++ []) zeroValue364 (by kernel_rfl) hS fun w1 b1 im1 hS1 => ?_)))
  refine nil (t_then ?_)
  refine sq2 (rg (pv (r_bd (by kernel_rfl) rfl (u := .agg #[.string ⟨([] : List UInt8).toArray⟩, .int .u8 0, .int .u32 0, .int .u32 0, .int .u32 0])) (pv (r_bd (by kernel_rfl) rfl (u := .agg #[.string ⟨([108, 117, 105] : List UInt8).toArray⟩, .int .u8 85, .int .u32 55, .int .u32 0, .int .u32 0])) (pv (r_bd (by kernel_rfl) rfl (u := .agg #[.string ⟨([97, 117, 105, 112, 99] : List UInt8).toArray⟩, .int .u8 85, .int .u32 23, .int .u32 0, .int .u32 0])) (pv (r_bd (by kernel_rfl) rfl (u := .agg #[.string ⟨([106, 97, 108] : List UInt8).toArray⟩, .int .u8 74, .int .u32 111, .int .u32 0, .int .u32 0])) (pv (r_bd (by kernel_rfl) rfl (u := .agg #[.string ⟨([106, 97, 108, 114] : List UInt8).toArray⟩, .int .u8 73, .int .u32 103, .int .u32 0, .int .u32 0])) (pv (r_bd (by kernel_rfl) rfl (u := .agg #[.string ⟨([98, 101, 113] : List UInt8).toArray⟩, .int .u8 66, .int .u32 99, .int .u32 0, .int .u32 0])) (pv (r_bd (by kernel_rfl) rfl (u := .agg #[.string ⟨([98, 110, 101] : List UInt8).toArray⟩, .int .u8 66, .int .u32 99, .int .u32 1, .int .u32 0])) (pv (r_bd (by kernel_rfl) rfl (u := .agg #[.string ⟨([98, 108, 116] : List UInt8).toArray⟩, .int .u8 66, .int .u32 99, .int .u32 4, .int .u32 0])) (pv (r_bd (by kernel_rfl) rfl (u := .agg #[.string ⟨([98, 103, 101] : List UInt8).toArray⟩, .int .u8 66, .int .u32 99, .int .u32 5, .int .u32 0])) (pv (r_bd (by kernel_rfl) rfl (u := .agg #[.string ⟨([98, 108, 116, 117] : List UInt8).toArray⟩, .int .u8 66, .int .u32 99, .int .u32 6, .int .u32 0])) (pv (r_bd (by kernel_rfl) rfl (u := .agg #[.string ⟨([98, 103, 101, 117] : List UInt8).toArray⟩, .int .u8 66, .int .u32 99, .int .u32 7, .int .u32 0])) (pv (r_bd (by kernel_rfl) rfl (u := .agg #[.string ⟨([108, 98] : List UInt8).toArray⟩, .int .u8 73, .int .u32 3, .int .u32 0, .int .u32 0])) (pv (r_bd (by kernel_rfl) rfl (u := .agg #[.string ⟨([108, 104] : List UInt8).toArray⟩, .int .u8 73, .int .u32 3, .int .u32 1, .int .u32 0])) (pv (r_bd (by kernel_rfl) rfl (u := .agg #[.string ⟨([108, 119] : List UInt8).toArray⟩, .int .u8 73, .int .u32 3, .int .u32 2, .int .u32 0])) (pv (r_bd (by kernel_rfl) rfl (u := .agg #[.string ⟨([108, 98, 117] : List UInt8).toArray⟩, .int .u8 73, .int .u32 3, .int .u32 4, .int .u32 0])) (pv (r_bd (by kernel_rfl) rfl (u := .agg #[.string ⟨([108, 104, 117] : List UInt8).toArray⟩, .int .u8 73, .int .u32 3, .int .u32 5, .int .u32 0])) (pv (r_bd (by kernel_rfl) rfl (u := .agg #[.string ⟨([115, 98] : List UInt8).toArray⟩, .int .u8 83, .int .u32 35, .int .u32 0, .int .u32 0])) (pv (r_bd (by kernel_rfl) rfl (u := .agg #[.string ⟨([115, 104] : List UInt8).toArray⟩, .int .u8 83, .int .u32 35, .int .u32 1, .int .u32 0])) (pv (r_bd (by kernel_rfl) rfl (u := .agg #[.string ⟨([115, 119] : List UInt8).toArray⟩, .int .u8 83, .int .u32 35, .int .u32 2, .int .u32 0])) (pv (r_bd (by kernel_rfl) rfl (u := .agg #[.string ⟨([97, 100, 100, 105] : List UInt8).toArray⟩, .int .u8 73, .int .u32 19, .int .u32 0, .int .u32 0])) (pv (r_bd (by kernel_rfl) rfl (u := .agg #[.string ⟨([115, 108, 116, 105] : List UInt8).toArray⟩, .int .u8 73, .int .u32 19, .int .u32 2, .int .u32 0])) (pv (r_bd (by kernel_rfl) rfl (u := .agg #[.string ⟨([115, 108, 116, 105, 117] : List UInt8).toArray⟩, .int .u8 73, .int .u32 19, .int .u32 3, .int .u32 0])) (pv (r_bd (by kernel_rfl) rfl (u := .agg #[.string ⟨([120, 111, 114, 105] : List UInt8).toArray⟩, .int .u8 73, .int .u32 19, .int .u32 4, .int .u32 0])) (pv (r_bd (by kernel_rfl) rfl (u := .agg #[.string ⟨([111, 114, 105] : List UInt8).toArray⟩, .int .u8 73, .int .u32 19, .int .u32 6, .int .u32 0])) (pv (r_bd (by kernel_rfl) rfl (u := .agg #[.string ⟨([97, 110, 100, 105] : List UInt8).toArray⟩, .int .u8 73, .int .u32 19, .int .u32 7, .int .u32 0])) (pv (r_bd (by kernel_rfl) rfl (u := .agg #[.string ⟨([115, 108, 108, 105] : List UInt8).toArray⟩, .int .u8 72, .int .u32 19, .int .u32 1, .int .u32 0])) (pv (r_bd (by kernel_rfl) rfl (u := .agg #[.string ⟨([115, 114, 108, 105] : List UInt8).toArray⟩, .int .u8 72, .int .u32 19, .int .u32 5, .int .u32 0])) (pv (r_bd (by kernel_rfl) rfl (u := .agg #[.string ⟨([115, 114, 97, 105] : List UInt8).toArray⟩, .int .u8 72, .int .u32 19, .int .u32 5, .int .u32 32])) (pv (r_bd (by kernel_rfl) rfl (u := .agg #[.string ⟨([97, 100, 100] : List UInt8).toArray⟩, .int .u8 82, .int .u32 51, .int .u32 0, .int .u32 0])) (pv (r_bd (by kernel_rfl) rfl (u := .agg #[.string ⟨([115, 117, 98] : List UInt8).toArray⟩, .int .u8 82, .int .u32 51, .int .u32 0, .int .u32 32])) (pv (r_bd (by kernel_rfl) rfl (u := .agg #[.string ⟨([115, 108, 108] : List UInt8).toArray⟩, .int .u8 82, .int .u32 51, .int .u32 1, .int .u32 0])) (pv (r_bd (by kernel_rfl) rfl (u := .agg #[.string ⟨([115, 108, 116] : List UInt8).toArray⟩, .int .u8 82, .int .u32 51, .int .u32 2, .int .u32 0])) (pv (r_bd (by kernel_rfl) rfl (u := .agg #[.string ⟨([115, 108, 116, 117] : List UInt8).toArray⟩, .int .u8 82, .int .u32 51, .int .u32 3, .int .u32 0])) (pv (r_bd (by kernel_rfl) rfl (u := .agg #[.string ⟨([120, 111, 114] : List UInt8).toArray⟩, .int .u8 82, .int .u32 51, .int .u32 4, .int .u32 0])) (pv (r_bd (by kernel_rfl) rfl (u := .agg #[.string ⟨([115, 114, 108] : List UInt8).toArray⟩, .int .u8 82, .int .u32 51, .int .u32 5, .int .u32 0])) (pv (r_bd (by kernel_rfl) rfl (u := .agg #[.string ⟨([115, 114, 97] : List UInt8).toArray⟩, .int .u8 82, .int .u32 51, .int .u32 5, .int .u32 32])) (pv (r_bd (by kernel_rfl) rfl (u := .agg #[.string ⟨([111, 114] : List UInt8).toArray⟩, .int .u8 82, .int .u32 51, .int .u32 6, .int .u32 0])) (pv (r_bd (by kernel_rfl) rfl (u := .agg #[.string ⟨([97, 110, 100] : List UInt8).toArray⟩, .int .u8 82, .int .u32 51, .int .u32 7, .int .u32 0])) (pv (r_bd (by kernel_rfl) rfl (u := .agg #[.string ⟨([109, 117, 108] : List UInt8).toArray⟩, .int .u8 82, .int .u32 51, .int .u32 0, .int .u32 1])) (pv (r_bd (by kernel_rfl) rfl (u := .agg #[.string ⟨([109, 117, 108, 104] : List UInt8).toArray⟩, .int .u8 82, .int .u32 51, .int .u32 1, .int .u32 1])) (pv (r_bd (by kernel_rfl) rfl (u := .agg #[.string ⟨([109, 117, 108, 104, 115, 117] : List UInt8).toArray⟩, .int .u8 82, .int .u32 51, .int .u32 2, .int .u32 1])) (pv (r_bd (by kernel_rfl) rfl (u := .agg #[.string ⟨([109, 117, 108, 104, 117] : List UInt8).toArray⟩, .int .u8 82, .int .u32 51, .int .u32 3, .int .u32 1])) (pv (r_bd (by kernel_rfl) rfl (u := .agg #[.string ⟨([100, 105, 118] : List UInt8).toArray⟩, .int .u8 82, .int .u32 51, .int .u32 4, .int .u32 1])) (pv (r_bd (by kernel_rfl) rfl (u := .agg #[.string ⟨([100, 105, 118, 117] : List UInt8).toArray⟩, .int .u8 82, .int .u32 51, .int .u32 5, .int .u32 1])) (pv (r_bd (by kernel_rfl) rfl (u := .agg #[.string ⟨([114, 101, 109] : List UInt8).toArray⟩, .int .u8 82, .int .u32 51, .int .u32 6, .int .u32 1])) (pv (r_bd (by kernel_rfl) rfl (u := .agg #[.string ⟨([114, 101, 109, 117] : List UInt8).toArray⟩, .int .u8 82, .int .u32 51, .int .u32 7, .int .u32 1])) (pv (r_bd (cells := (segF enInstShape' tbl1).toArray) (by kernel_rfl) rfl) (wl rfl (stArr (q := 0) hS1 ⟨rfl, rfl⟩ (lnBox b1) rfl rfl enInstShape'_len (fun _ => rfl) rfl rfl rfl sizeOf364 fun w2 im2 hS2 => ?_))))))))))))))))))))))))))))))))))))))))))))))))))
  refine nil (t_thenR [(0, pt b1 0)] ⟨rfl, trivial⟩ fun J => ?_)
  have hm := oI hm; subst hm
  exact rtn (retN (vs := [.agg (segF enInstShape' tbl1).toArray]) rfl ⟨rvS rfl isAgg364 sizeOf364 (segF_k enInstShape'_len rfl rfl) (hS2.segBx (i := 0) ⟨rfl, rfl⟩), trivial⟩ rfl ⟨_, rfl, _, ch, ⟨rfl, hS2.sel [1] rfl, trivial⟩⟩)

theorem inst_of_sim {p0 : Int} {r : InstShape} (hS : Sep g T0 w0 [R])  (hm : inst_of p0 = some r) :
    Calls Tryz.prog 114 #[iv p0] w0 (RetS T0 w0 fun T w v => v = .agg (cInstShape r).toArray ∧ Sep g T w [R] ∧ True) := by
  refine enter (args := [iv p0]) Tryz.func114 rfl Tryz.ntmps114 rfl fun J => ?_
  unfold inst_of at hm
  refine sq2 (rg (wl rfl (alS (zs := [.string ⟨([] : List UInt8).toArray⟩, .int .u8 0, .int .u32 0, .int .u32 0, .int .u32 0]) zeroValue260 rfl hS fun w1 b1 im1 hS1 => ?_)))
  refine nil (t_then ?_)
  refine sq2 (sq2 (rg (pv (r_mi rfl) (pv (r_ib rfl rfl rfl) (pv (r_mb rfl) (?_))))))
  rcases Bool.eq_false_or_eq_true (decide (p0 < 0)) with hb1 | hb1
  · have hm := ctrue hb1 hm
    refine gF2 (d0 := 5) rfl rfl (by rw [hb1]; rfl) (pv (r_pkt rfl hb1 rfl) (nil (t_then ?_)))
    refine cnd (b := true) rfl (fun _ => ?_) (fun h => nomatch h)
    refine sq2 (rg (pv (r_bd (by kernel_rfl) rfl (u := .agg #[.string ⟨([] : List UInt8).toArray⟩, .int .u8 0, .int .u32 0, .int .u32 0, .int .u32 0])) (wl rfl (st0B (q := 0) hS1 ⟨rfl, rfl⟩ rfl rfl rfl sizeOf260 rfl rfl rfl fun w5 im5 hS5 => ?_))))
    refine nil (t_then ?_)
    have hm := oI hm; subst hm
    exact rtn (r_then (retN (vs := [.agg #[.string ⟨([] : List UInt8).toArray⟩, .int .u8 0, .int .u32 0, .int .u32 0, .int .u32 0]]) rfl ⟨rvS rfl isAgg260 sizeOf260 rfl (hS5.bx (i := 0) ⟨rfl, rfl⟩), trivial⟩ rfl ⟨_, rfl, _, ch, ⟨rfl, hS5.sel [1] rfl, trivial⟩⟩))
  have hm := cfalse hb1 hm
  refine gT (d0 := 5) rfl rfl hb1 (pv (r_mi rfl) (gT (d0 := 5) rfl rfl hb1 (pv (r_ib rfl rfl rfl) (pv (r_pkf rfl hb1 rfl) (nil (t_then ?_))))))
  refine cnd rfl (fun hb2 => ?_) (fun hb2 => ?_)
  · have hm := ctrue hb2 hm
    refine sq2 (rg (pv (r_bd (by kernel_rfl) rfl (u := .agg #[.string ⟨([] : List UInt8).toArray⟩, .int .u8 0, .int .u32 0, .int .u32 0, .int .u32 0])) (wl rfl (st0B (q := 0) hS1 ⟨rfl, rfl⟩ rfl rfl rfl sizeOf260 rfl rfl rfl fun w2 im2 hS2 => ?_))))
    refine nil (t_then ?_)
    have hm := oI hm; subst hm
    exact rtn (r_then (retN (vs := [.agg #[.string ⟨([] : List UInt8).toArray⟩, .int .u8 0, .int .u32 0, .int .u32 0, .int .u32 0]]) rfl ⟨rvS rfl isAgg260 sizeOf260 rfl (hS2.bx (i := 0) ⟨rfl, rfl⟩), trivial⟩ rfl ⟨_, rfl, _, ch, ⟨rfl, hS2.sel [1] rfl, trivial⟩⟩))
  have hm := cfalse hb2 hm
  refine skp (t_then ?_)
  refine sq2 ?_
  obtain ⟨y1, hx1, hm⟩ := bindS hm
  refine rg (wl rfl (calS cf206 rfl (inst_table_sim  (hS1.bun [0, 1] [] rfl)  hx1) rfl fun v1 T1 w3 im3 rv1 => ?_))
  obtain ⟨rfl, hS3, _⟩ := rv1
  have hS3 := hS3.unb
  obtain ⟨z_1, hln1, hm⟩ := bindS hm
  obtain ⟨u1, hx2, hm⟩ := bindS hm
  refine pv (r_mi rfl) (pv (r_axs (u := (cInstShape u1)) rfl rfl hx2 enInstShape'_len rfl (lenOk_some hln1) underlying364 sizeOf260 isAgg260) (wl rfl (st0B (q := 0) hS3 ⟨rfl, rfl⟩ rfl rfl rfl sizeOf260 rfl rfl rfl fun w4 im4 hS4 => ?_)))
  refine nil (t_then ?_)
  have hm := oI hm; subst hm
  exact rtn (retN (vs := [.agg (cInstShape u1).toArray]) rfl ⟨rvS rfl isAgg260 sizeOf260 rfl (hS4.bx (i := 0) ⟨rfl, rfl⟩), trivial⟩ rfl ⟨_, rfl, _, ch, ⟨rfl, hS4.sel [1] rfl, trivial⟩⟩)

theorem inst_bits_sim {p0 : Int} {p1 : Int} {p2 : Int} {r : Int} (hS : Sep g T0 w0 [R])  (hm : inst_bits p0 p1 p2 = some r) :
    Calls Tryz.prog 207 #[.int .u32 p0, iv p1, iv p2] w0 (RetS T0 w0 fun T w v => v = .int .u32 r ∧ Sep g T w [R] ∧ True) := by
  refine enter (args := [.int .u32 p0, iv p1, iv p2]) Tryz.func207 rfl Tryz.ntmps207 rfl fun J => ?_
  unfold inst_bits at hm
  refine sq2 (rg (pv (r_zi rfl) (nil (t_then ?_))))
  refine sq2 ?_
  obtain ⟨_, hz1, hm⟩ := bindS hm
  have hz1 := nn_some hz1
  obtain ⟨_, hz2, hm⟩ := bindS hm
  have hz2 := nn_some hz2
  refine rq mix (by kernel_rfl) hS.lt (qv (fun _ hq => r_mi rfl) (qv (fun _ hq => r_mi rfl) (qv (fun _ hq => r_ishr rfl rfl hz1) (qv (fun _ hq => r_mi rfl) (qv (fun _ hq => r_ishl rfl rfl hz2) (qv (fun _ hq => r_ib rfl rfl rfl) (qv (fun _ hq => r_ib rfl rfl rfl) (qv (fun _ hq => r_zi rfl) (qn fun w1 T1 i1 => ?_)))))))))
  have im1 := i1.imm
  have hS1 := hS.keep i1 (fun _ h => h)
  refine t_then ?_
  have hm := oI hm; subst hm
  exact rtn (ret1 rfl rfl ⟨_, rfl, _, im1, ⟨rfl, hS1.sel [0] rfl, trivial⟩⟩)

theorem inst_fits_sim {p0 : InstShape} {p1 : Int} {r : Bool} (hS : Sep g T0 w0 [R])  (hm : inst_fits p0 p1 = some r) :
    Calls Tryz.prog 457 #[.agg (cInstShape p0).toArray, .int .u32 p1] w0 (RetS T0 w0 fun T w v => v = .bool r ∧ Sep g T w [R] ∧ True) := by
  refine enter (args := [.agg (cInstShape p0).toArray, .int .u32 p1]) Tryz.func457 rfl Tryz.ntmps457 rfl fun J => ?_
  unfold inst_fits at hm
  refine sq2 (rg (wl rfl (bxS (cs := (cInstShape p0)) rfl rfl hS fun w1 b1 im1 hS1 => ?_)))
  refine pv (r_zb rfl) (nil (t_then ?_))
  refine sq2 (blk (sq2 (rg (pv (r_mi rfl) (pv (r_ib rfl rfl rfl) (pv (r_fa rfl underlying260 rfl sizeOf22 rfl) (pv (r_ld rfl isAgg22 (hS1.cell0 (i := 0) ⟨rfl, rfl⟩ (j := 2) rfl)) (pv (r_ib rfl rfl rfl) (pv (r_zb rfl) (nil (t_then ?_)))))))))))
  refine cnd rfl (fun hb1 => ?_) (fun hb1 => ?_)
  · have hm := ctrue hb1 hm
    refine sq2 (rg (pv (r_zb rfl) (nil (t_then ?_))))
    have hm := oI hm; subst hm
    exact rtn (r_blk (r_then (ret1 rfl rfl ⟨_, rfl, _, im1, ⟨rfl, hS1.sel [1] rfl, trivial⟩⟩)))
  have hm := cfalse hb1 hm
  refine sq2 (rg (pv (r_fa rfl underlying260 rfl sizeOf5 rfl) (pv (r_ld rfl isAgg5 (hS1.cell0 (i := 0) ⟨rfl, rfl⟩ (j := 1) rfl)) (pv (r_ib rfl rfl rfl) (pv (r_mb rfl) (?_))))))
  rcases Bool.eq_false_or_eq_true (p0.form == 85) with hb2 | hb2
  · have hm := ctrue hb2 hm
    refine gF3 (d0 := 15) rfl rfl (by rw [hb2]; rfl) (pv (r_pkt rfl hb2 rfl) (pv (r_zb rfl) (nil (t_then ?_))))
    refine cnd (b := true) rfl (fun _ => ?_) (fun h => nomatch h)
    refine sq2 (rg (pv (r_zb rfl) (nil (t_then ?_))))
    have hm := oI hm; subst hm
    exact rtn (r_blk (r_then (ret1 rfl rfl ⟨_, rfl, _, im1, ⟨rfl, hS1.sel [1] rfl, trivial⟩⟩)))
  have hm := cfalse hb2 hm
  refine gT (d0 := 15) rfl rfl hb2 (pv (r_fa rfl underlying260 rfl sizeOf5 rfl) (gT (d0 := 15) rfl rfl hb2 (pv (r_ld rfl isAgg5 (hS1.cell0 (i := 0) ⟨rfl, rfl⟩ (j := 1) rfl)) (gT (d0 := 15) rfl rfl hb2 (pv (r_ib rfl rfl rfl) (pv (r_pkf rfl hb2 rfl) (pv (r_zb rfl) (nil (t_then ?_)))))))))
  refine cnd rfl (fun hb3 => ?_) (fun hb3 => ?_)
  · have hm := ctrue hb3 hm
    refine sq2 (rg (pv (r_zb rfl) (nil (t_then ?_))))
    have hm := oI hm; subst hm
    exact rtn (r_blk (r_then (ret1 rfl rfl ⟨_, rfl, _, im1, ⟨rfl, hS1.sel [1] rfl, trivial⟩⟩)))
  have hm := cfalse hb3 hm
  refine sq2 (rs [0, 2, 0, 1, 0, 0] [0, 2, 3, 1, 4, 5] mix (by kernel_rfl) hS1.lt fun w2 i1 => ?_)
  have im2 := i1.imm
  have hS2 := hS1.keep i1 (fun _ h => h)
  obtain ⟨y1, hx1, hm⟩ := bindS hm
  refine s0 rfl trivial (fun _ => r_mi rfl) rfl (s0 rfl trivial (fun _ => r_fa rfl underlying260 rfl sizeOf22 rfl) rfl (s1 rfl trivial (r_ld rfl isAgg22 (hS2.cell0 (i := 0) ⟨rfl, rfl⟩ (j := 3) rfl)) rfl (s2 [(3, .int .u32 p0.third)] rfl trivial rfl (by kernel_rfl) (calS cf207 rfl (inst_bits_sim (p0 := p1) (p1 := 12) (p2 := 3) (hS2.bun [0, 1] [] rfl)  hx1) rfl fun v1 T1 w3 im3 rv1 => ?_))))
  obtain ⟨rfl, hS3, _⟩ := rv1
  have hS3 := hS3.unb
  refine ⟨st1 rfl (r_ld rfl isAgg22 (hS3.cell0 (i := 0) ⟨rfl, rfl⟩ (j := 3) rfl)) (st0), ?_⟩
  refine s0 rfl trivial (fun _ => r_ib rfl rfl rfl) rfl (s0 rfl trivial (fun _ => r_zb rfl) rfl (se (t_then ?_)))
  refine cnd rfl (fun hb4 => ?_) (fun hb4 => ?_)
  · have hm := ctrue hb4 hm
    refine sq2 (rg (pv (r_zb rfl) (nil (t_thenR [(4, .bool false)] ⟨rfl, trivial⟩ fun J => ?_))))
    have hm := oI hm; subst hm
    exact rtn (r_blk (r_then (ret1 rfl rfl ⟨_, rfl, _, ch, ⟨rfl, hS3.sel [1] rfl, trivial⟩⟩)))
  have hm := cfalse hb4 hm
  refine skp (t_blk (t_then ?_))
  refine sq2 (rg (pv (r_fa rfl underlying260 rfl sizeOf5 rfl) (pv (r_ld rfl isAgg5 (hS3.cell0 (i := 0) ⟨rfl, rfl⟩ (j := 1) rfl)) (pv (r_ib rfl rfl rfl) (pv (r_mb rfl) (?_))))))
  rcases Bool.eq_false_or_eq_true (p0.form != 82) with hb5 | hb5
  · have hm := ctrue hb5 hm
    refine gT (d0 := 29) rfl rfl hb5 (pv (r_fa rfl underlying260 rfl sizeOf5 rfl) (gT (d0 := 29) rfl rfl hb5 (pv (r_ld rfl isAgg5 (hS3.cell0 (i := 0) ⟨rfl, rfl⟩ (j := 1) rfl)) (gT (d0 := 29) rfl rfl hb5 (pv (r_ib rfl rfl rfl) (pv (r_pkt rfl hb5 rfl) (pv (r_mb rfl) (?_))))))))
    rcases Bool.eq_false_or_eq_true (p0.form != 72) with hb6 | hb6
    · have hm := ctrue hb6 hm
      refine gF5 (d0 := 34) rfl rfl (by rw [hb6]; rfl) (pv (r_pkt rfl hb6 rfl) (pv (r_zb rfl) (nil (t_thenR [(4, .bool true)] ⟨rfl, trivial⟩ fun J => ?_))))
      have hm := oI hm; subst hm
      exact rtn (ret1 rfl rfl ⟨_, rfl, _, ch, ⟨rfl, hS3.sel [1] rfl, trivial⟩⟩)
    have hm := cfalse hb6 hm
    refine gT (d0 := 34) rfl rfl hb6 (pv (r_mi rfl) (gT (d0 := 34) rfl rfl hb6 (pv (r_ishr rfl rfl (by decide)) (gT (d0 := 34) rfl rfl hb6 (pv (r_fa rfl underlying260 rfl sizeOf22 rfl) (gT (d0 := 34) rfl rfl hb6 (pv (r_ld rfl isAgg22 (hS3.cell0 (i := 0) ⟨rfl, rfl⟩ (j := 4) rfl)) (gT (d0 := 34) rfl rfl hb6 (pv (r_ib rfl rfl rfl) (pv (r_pkf rfl hb6 rfl) (pv (r_zb rfl) (nil (t_thenR [(4, .bool ((Int.fdiv p1 (2 ^ (min (Int.toNat 25) (IntKind.bits .u32)))) == p0.seventh))] ⟨rfl, trivial⟩ fun J => ?_)))))))))))))
    have hm := oI hm; subst hm
    exact rtn (ret1 rfl rfl ⟨_, rfl, _, ch, ⟨rfl, hS3.sel [1] rfl, trivial⟩⟩)
  have hm := cfalse hb5 hm
  refine gF3 (d0 := 29) rfl rfl (by rw [hb5]; rfl) (pv (r_pkf rfl hb5 rfl) (pv (r_mb rfl) (gT (d0 := 34) rfl rfl rfl (pv (r_mi rfl) (gT (d0 := 34) rfl rfl rfl (pv (r_ishr rfl rfl (by decide)) (gT (d0 := 34) rfl rfl rfl (pv (r_fa rfl underlying260 rfl sizeOf22 rfl) (gT (d0 := 34) rfl rfl rfl (pv (r_ld rfl isAgg22 (hS3.cell0 (i := 0) ⟨rfl, rfl⟩ (j := 4) rfl)) (gT (d0 := 34) rfl rfl rfl (pv (r_ib rfl rfl rfl) (pv (r_pkf rfl rfl rfl) (pv (r_zb rfl) (nil (t_thenR [(4, .bool ((Int.fdiv p1 (2 ^ (min (Int.toNat 25) (IntKind.bits .u32)))) == p0.seventh))] ⟨rfl, trivial⟩ fun J => ?_))))))))))))))))
  have hm := oI hm; subst hm
  exact rtn (ret1 rfl rfl ⟨_, rfl, _, ch, ⟨rfl, hS3.sel [1] rfl, trivial⟩⟩)

theorem word_Sign_sim {p0 : Int} {p1 : Int} {r : Int} (hS : Sep g T0 w0 [R])  (hm : word_Sign p0 p1 = some r) :
    Calls Tryz.prog 333 #[.int .u32 p0, iv p1] w0 (RetS T0 w0 fun T w v => v = .int .u32 r ∧ Sep g T w [R] ∧ True) := by
  refine enter (args := [.int .u32 p0, iv p1]) Tryz.func333 rfl Tryz.ntmps333 rfl fun J => ?_
  unfold word_Sign at hm
  refine sq2 (rg (pv (r_zi rfl) (nil (t_then ?_))))
  refine sq2 (sq2 (rg (pv (r_mi rfl) (pv (r_ib rfl rfl rfl) (pv (r_mb rfl) (?_))))))
  rcases Bool.eq_false_or_eq_true (decide (p1 < 1)) with hb1 | hb1
  · have hm := ctrue hb1 hm
    refine gF2 (d0 := 8) rfl rfl (by rw [hb1]; rfl) (pv (r_pkt rfl hb1 rfl) (nil (t_then ?_)))
    refine cnd (b := true) rfl (fun _ => ?_) (fun h => nomatch h)
    refine sq2 (rg (pv (r_mi rfl) (pv (r_zi rfl) (nil (t_then ?_)))))
    have hm := oI hm; subst hm
    exact rtn (r_then (ret1 rfl rfl ⟨_, rfl, _, Im.refl, ⟨rfl, hS.sel [0] rfl, trivial⟩⟩))
  have hm := cfalse hb1 hm
  refine gT (d0 := 8) rfl rfl hb1 (pv (r_mi rfl) (gT (d0 := 8) rfl rfl hb1 (pv (r_ib rfl rfl rfl) (pv (r_pkf rfl hb1 rfl) (nil (t_then ?_))))))
  refine cnd rfl (fun hb2 => ?_) (fun hb2 => ?_)
  · have hm := ctrue hb2 hm
    refine sq2 (rg (pv (r_mi rfl) (pv (r_zi rfl) (nil (t_then ?_)))))
    have hm := oI hm; subst hm
    exact rtn (r_then (ret1 rfl rfl ⟨_, rfl, _, Im.refl, ⟨rfl, hS.sel [0] rfl, trivial⟩⟩))
  have hm := cfalse hb2 hm
  refine skp (t_then ?_)
  refine sq2 (rg (pv (r_mi rfl) (pv (r_ib rfl rfl rfl) (pv (r_zi rfl) (nil (t_then ?_))))))
  refine sq2 ?_
  obtain ⟨_, hz1, hm⟩ := bindS hm
  have hz1 := nn_some hz1
  obtain ⟨_, hz2, hm⟩ := bindS hm
  have hz2 := nn_some hz2
  refine rg (pv (r_mi rfl) (pv (r_mi rfl) (pv (r_ishl rfl rfl hz1) (pv (r_cv rfl underlying22 underlying21) (pv (r_mi rfl) (pv (r_ishr rfl rfl hz2) (pv (r_cv rfl underlying21 underlying22) (pv (r_zi rfl) (nil (t_then ?_))))))))))
  have hm := oI hm; subst hm
  exact rtn (ret1 rfl rfl ⟨_, rfl, _, Im.refl, ⟨rfl, hS.sel [0] rfl, trivial⟩⟩)

theorem inst_told_sim {p0 : Int} {p1 : Int} {r : Int} (hS : Sep g T0 w0 [R])  (hm : inst_told p0 p1 = some r) :
    Calls Tryz.prog 458 #[.int .u8 p0, .int .u32 p1] w0 (RetS T0 w0 fun T w v => v = iv r ∧ Sep g T w [R] ∧ True) := by
  refine enter (args := [.int .u8 p0, .int .u32 p1]) Tryz.func458 rfl Tryz.ntmps458 rfl fun J => ?_
  unfold inst_told at hm
  refine sq2 (rg (pv (r_zi rfl) (nil (t_then ?_))))
  refine sq2 (sq2 (rg (pv (r_mi rfl) (nil (t_then ?_)))))
  refine blk (sq2 (rg (pv (r_ib rfl rfl rfl) (pv (r_zb rfl) (nil (t_then ?_))))))
  refine cnd rfl (fun hb1 => ?_) (fun hb1 => ?_)
  · have hm := ctrue hb1 hm
    refine sq2 (rg (pv (r_mi rfl) (pv (r_ib rfl rfl rfl) (pv (r_cv rfl underlying22 underlying21) (pv (r_cv rfl underlying21 underlying3) (pv (r_zi rfl) (nil (t_then ?_))))))))
    have hm := oI hm; subst hm
    exact rtn (r_blk (r_then (ret1 rfl rfl ⟨_, rfl, _, Im.refl, ⟨rfl, hS.sel [0] rfl, trivial⟩⟩)))
  have hm := cfalse hb1 hm
  refine sq2 (rg (pv (r_ib rfl rfl rfl) (pv (r_zb rfl) (nil (t_then ?_)))))
  refine cnd rfl (fun hb2 => ?_) (fun hb2 => ?_)
  · have hm := ctrue hb2 hm
    refine sq2 ?_
    obtain ⟨y1, hx1, hm⟩ := bindS hm
    refine rg (pv (r_mi rfl) (wl rfl (calS cf207 rfl (inst_bits_sim (p0 := p1) (p1 := 31) (p2 := 1) (hS.bun [0] [] rfl)  hx1) rfl fun v1 T1 w1 im1 rv1 => ?_)))
    obtain ⟨rfl, hS1, _⟩ := rv1
    have hS1 := hS1.unb
    obtain ⟨y2, hx2, hm⟩ := bindS hm
    refine pv (r_ishl rfl rfl (by decide)) (pv (r_mi rfl) (wl rfl (calS cf207 rfl (inst_bits_sim (p0 := p1) (p1 := 21) (p2 := 10) (hS1.bun [0] [] rfl)  hx2) rfl fun v2 T2 w2 im2 rv2 => ?_)))
    obtain ⟨rfl, hS2, _⟩ := rv2
    have hS2 := hS2.unb
    obtain ⟨y3, hx3, hm⟩ := bindS hm
    refine pv (r_ishl rfl rfl (by decide)) (pv (r_ib rfl rfl rfl) (pv (r_mi rfl) (wl rfl (calS cf207 rfl (inst_bits_sim (p0 := p1) (p1 := 20) (p2 := 1) (hS2.bun [0] [] rfl)  hx3) rfl fun v3 T3 w3 im3 rv3 => ?_))))
    obtain ⟨rfl, hS3, _⟩ := rv3
    have hS3 := hS3.unb
    obtain ⟨y4, hx4, hm⟩ := bindS hm
    refine pv (r_ishl rfl rfl (by decide)) (pv (r_ib rfl rfl rfl) (pv (r_mi rfl) (wl rfl (calS cf207 rfl (inst_bits_sim (p0 := p1) (p1 := 12) (p2 := 8) (hS3.bun [0] [] rfl)  hx4) rfl fun v4 T4 w4 im4 rv4 => ?_))))
    obtain ⟨rfl, hS4, _⟩ := rv4
    have hS4 := hS4.unb
    refine pv (r_ishl rfl rfl (by decide)) (pv (r_ib rfl rfl rfl) (pv (r_zi rfl) (nil (t_then ?_))))
    refine sq2 ?_
    obtain ⟨y5, hx5, hm⟩ := bindS hm
    refine rg (pv (r_mi rfl) (wl rfl (calS cf333 rfl (word_Sign_sim (p0 := bits .or .u32 (bits .or .u32 (bits .or .u32 (IntKind.wrap .u32 (y1 * 2 ^ (min (Int.toNat 20) (IntKind.bits .u32)))) (IntKind.wrap .u32 (y2 * 2 ^ (min (Int.toNat 1) (IntKind.bits .u32))))) (IntKind.wrap .u32 (y3 * 2 ^ (min (Int.toNat 11) (IntKind.bits .u32))))) (IntKind.wrap .u32 (y4 * 2 ^ (min (Int.toNat 12) (IntKind.bits .u32))))) (p1 := 21) (hS4.bun [0] [] rfl)  hx5) rfl fun v5 T5 w5 im5 rv5 => ?_)))
    obtain ⟨rfl, hS5, _⟩ := rv5
    have hS5 := hS5.unb
    refine pv (r_cv rfl underlying22 underlying21) (pv (r_cv rfl underlying21 underlying3) (pv (r_zi rfl) (nil (t_thenR [(4, iv (IntKind.wrap .i64 (IntKind.wrap .i32 y5)))] ⟨rfl, trivial⟩ fun J => ?_))))
    have hm := oI hm; subst hm
    exact rtn (r_blk (r_then (ret1 rfl rfl ⟨_, rfl, _, ch, ⟨rfl, hS5.sel [0] rfl, trivial⟩⟩)))
  have hm := cfalse hb2 hm
  refine sq2 (rg (pv (r_ib rfl rfl rfl) (pv (r_zb rfl) (nil (t_then ?_)))))
  refine cnd rfl (fun hb3 => ?_) (fun hb3 => ?_)
  · have hm := ctrue hb3 hm
    refine sq2 (rg (pv (r_mi rfl) (pv (r_cv rfl underlying22 underlying21) (pv (r_ishr rfl rfl (by decide)) (pv (r_cv rfl underlying21 underlying3) (pv (r_zi rfl) (nil (t_then ?_))))))))
    have hm := oI hm; subst hm
    exact rtn (r_blk (r_then (ret1 rfl rfl ⟨_, rfl, _, Im.refl, ⟨rfl, hS.sel [0] rfl, trivial⟩⟩)))
  have hm := cfalse hb3 hm
  refine sq2 (rg (pv (r_ib rfl rfl rfl) (pv (r_zb rfl) (nil (t_then ?_)))))
  refine cnd rfl (fun hb4 => ?_) (fun hb4 => ?_)
  · have hm := ctrue hb4 hm
    refine sq2 ?_
    obtain ⟨y6, hx6, hm⟩ := bindS hm
    refine rg (pv (r_mi rfl) (wl rfl (calS cf207 rfl (inst_bits_sim (p0 := p1) (p1 := 20) (p2 := 5) (hS.bun [0] [] rfl)  hx6) rfl fun v6 T6 w6 im6 rv6 => ?_)))
    obtain ⟨rfl, hS6, _⟩ := rv6
    have hS6 := hS6.unb
    refine pv (r_cv rfl underlying22 underlying3) (pv (r_zi rfl) (nil (t_then ?_)))
    have hm := oI hm; subst hm
    exact rtn (r_blk (r_then (ret1 rfl rfl ⟨_, rfl, _, im6, ⟨rfl, hS6.sel [0] rfl, trivial⟩⟩)))
  have hm := cfalse hb4 hm
  refine sq2 (rg (pv (r_ib rfl rfl rfl) (pv (r_zb rfl) (nil (t_then ?_)))))
  refine cnd rfl (fun hb5 => ?_) (fun hb5 => ?_)
  · have hm := ctrue hb5 hm
    refine sq2 ?_
    obtain ⟨y7, hx7, hm⟩ := bindS hm
    refine rg (pv (r_mi rfl) (wl rfl (calS cf207 rfl (inst_bits_sim (p0 := p1) (p1 := 25) (p2 := 7) (hS.bun [0] [] rfl)  hx7) rfl fun v7 T7 w7 im7 rv7 => ?_)))
    obtain ⟨rfl, hS7, _⟩ := rv7
    have hS7 := hS7.unb
    obtain ⟨y8, hx8, hm⟩ := bindS hm
    refine pv (r_ishl rfl rfl (by decide)) (pv (r_mi rfl) (wl rfl (calS cf207 rfl (inst_bits_sim (p0 := p1) (p1 := 7) (p2 := 5) (hS7.bun [0] [] rfl)  hx8) rfl fun v8 T8 w8 im8 rv8 => ?_)))
    obtain ⟨rfl, hS8, _⟩ := rv8
    have hS8 := hS8.unb
    obtain ⟨y9, hx9, hm⟩ := bindS hm
    refine pv (r_ib rfl rfl rfl) (wl rfl (calS cf333 rfl (word_Sign_sim (p0 := bits .or .u32 (IntKind.wrap .u32 (y7 * 2 ^ (min (Int.toNat 5) (IntKind.bits .u32)))) y8) (p1 := 12) (hS8.bun [0] [] rfl)  hx9) rfl fun v9 T9 w9 im9 rv9 => ?_))
    obtain ⟨rfl, hS9, _⟩ := rv9
    have hS9 := hS9.unb
    refine pv (r_cv rfl underlying22 underlying21) (pv (r_cv rfl underlying21 underlying3) (pv (r_zi rfl) (nil (t_then ?_))))
    have hm := oI hm; subst hm
    exact rtn (r_blk (r_then (ret1 rfl rfl ⟨_, rfl, _, ch, ⟨rfl, hS9.sel [0] rfl, trivial⟩⟩)))
  have hm := cfalse hb5 hm
  refine sq2 (rg (pv (r_ib rfl rfl rfl) (pv (r_zb rfl) (nil (t_then ?_)))))
  refine cnd rfl (fun hb6 => ?_) (fun hb6 => ?_)
  · have hm := ctrue hb6 hm
    refine sq2 ?_
    obtain ⟨y10, hx10, hm⟩ := bindS hm
    refine rg (pv (r_mi rfl) (wl rfl (calS cf207 rfl (inst_bits_sim (p0 := p1) (p1 := 31) (p2 := 1) (hS.bun [0] [] rfl)  hx10) rfl fun v10 T10 w10 im10 rv10 => ?_)))
    obtain ⟨rfl, hS10, _⟩ := rv10
    have hS10 := hS10.unb
    obtain ⟨y11, hx11, hm⟩ := bindS hm
    refine pv (r_ishl rfl rfl (by decide)) (pv (r_mi rfl) (wl rfl (calS cf207 rfl (inst_bits_sim (p0 := p1) (p1 := 25) (p2 := 6) (hS10.bun [0] [] rfl)  hx11) rfl fun v11 T11 w11 im11 rv11 => ?_)))
    obtain ⟨rfl, hS11, _⟩ := rv11
    have hS11 := hS11.unb
    obtain ⟨y12, hx12, hm⟩ := bindS hm
    refine pv (r_ishl rfl rfl (by decide)) (pv (r_ib rfl rfl rfl) (pv (r_mi rfl) (wl rfl (calS cf207 rfl (inst_bits_sim (p0 := p1) (p1 := 8) (p2 := 4) (hS11.bun [0] [] rfl)  hx12) rfl fun v12 T12 w12 im12 rv12 => ?_))))
    obtain ⟨rfl, hS12, _⟩ := rv12
    have hS12 := hS12.unb
    obtain ⟨y13, hx13, hm⟩ := bindS hm
    refine pv (r_ishl rfl rfl (by decide)) (pv (r_ib rfl rfl rfl) (pv (r_mi rfl) (wl rfl (calS cf207 rfl (inst_bits_sim (p0 := p1) (p1 := 7) (p2 := 1) (hS12.bun [0] [] rfl)  hx13) rfl fun v13 T13 w13 im13 rv13 => ?_))))
    obtain ⟨rfl, hS13, _⟩ := rv13
    have hS13 := hS13.unb
    refine pv (r_ishl rfl rfl (by decide)) (pv (r_ib rfl rfl rfl) (pv (r_zi rfl) (nil (t_thenR [(6, .int .u32 (bits .or .u32 (bits .or .u32 (bits .or .u32 (IntKind.wrap .u32 (y10 * 2 ^ (min (Int.toNat 12) (IntKind.bits .u32)))) (IntKind.wrap .u32 (y11 * 2 ^ (min (Int.toNat 5) (IntKind.bits .u32))))) (IntKind.wrap .u32 (y12 * 2 ^ (min (Int.toNat 1) (IntKind.bits .u32))))) (IntKind.wrap .u32 (y13 * 2 ^ (min (Int.toNat 11) (IntKind.bits .u32))))))] ⟨rfl, trivial⟩ fun J => ?_))))
    refine sq2 ?_
    obtain ⟨y14, hx14, hm⟩ := bindS hm
    refine rg (pv (r_mi rfl) (wl rfl (calS cf333 rfl (word_Sign_sim (p0 := bits .or .u32 (bits .or .u32 (bits .or .u32 (IntKind.wrap .u32 (y10 * 2 ^ (min (Int.toNat 12) (IntKind.bits .u32)))) (IntKind.wrap .u32 (y11 * 2 ^ (min (Int.toNat 5) (IntKind.bits .u32))))) (IntKind.wrap .u32 (y12 * 2 ^ (min (Int.toNat 1) (IntKind.bits .u32))))) (IntKind.wrap .u32 (y13 * 2 ^ (min (Int.toNat 11) (IntKind.bits .u32))))) (p1 := 13) (hS13.bun [0] [] rfl)  hx14) rfl fun v14 T14 w14 im14 rv14 => ?_)))
    obtain ⟨rfl, hS14, _⟩ := rv14
    have hS14 := hS14.unb
    refine pv (r_cv rfl underlying22 underlying21) (pv (r_cv rfl underlying21 underlying3) (pv (r_zi rfl) (nil (t_then ?_))))
    have hm := oI hm; subst hm
    exact rtn (r_blk (r_then (ret1 rfl rfl ⟨_, rfl, _, ch, ⟨rfl, hS14.sel [0] rfl, trivial⟩⟩)))
  have hm := cfalse hb6 hm
  refine skp (t_blk (t_then ?_))
  refine sq2 (rg (pv (r_zi rfl) (nil (t_then ?_))))
  have hm := oI hm; subst hm
  exact rtn (ret1 rfl rfl ⟨_, rfl, _, Im.refl, ⟨rfl, hS.sel [0] rfl, trivial⟩⟩)

theorem inst_needs_sim {p0 : Int} {r : Bool × Bool × Bool × Bool} (hS : Sep g T0 w0 [R])  (hm : inst_needs p0 = some r) :
    Calls Tryz.prog 201 #[.int .u8 p0] w0 (RetS T0 w0 fun T w v => v = .tuple #[.bool r.1, .bool r.2.1, .bool r.2.2.1, .bool r.2.2.2] ∧ Sep g T w [R] ∧ True) := by
  refine enter (args := [.int .u8 p0]) Tryz.func201 rfl Tryz.ntmps201 rfl fun J => ?_
  unfold inst_needs at hm
  refine sq2 (rg (pv (r_zb rfl) (pv (r_zb rfl) (pv (r_zb rfl) (pv (r_zb rfl) (nil (t_then ?_)))))))
  refine sq2 (rg (pv (r_zb rfl) (nil (t_then ?_))))
  obtain ⟨kk1, hkk1, hm⟩ := jn_open hm
  refine cut (fun a w1 => ∃ (J : JV) (T1 : TP) (x1 : Bool) (x2 : Bool) (x3 : Bool) (x4 : Bool), a = env (nf 22) J [(2, .bool x1), (3, .bool x2), (4, .bool x3), (5, .bool x4)] ∧ Im T0 w0 T1 w1 ∧ Sep g T1 w1 [R] ∧ kk1 x1 x2 x3 x4 = some r) ?_ ?_
  · refine sq2 (rg (pv (r_mi rfl) (nil (t_then ?_))))
    refine blk (sq2 (blk ?_))
    obtain ⟨kk2, hkk2, hm⟩ := jn_open hm
    refine cut (fun a w2 => ∃ (J : JV) (T2 : TP) (x5 : Bool) (x6 : Bool) (x7 : Bool), a = env (nf 22) J [(3, .bool x5), (4, .bool x6), (5, .bool x7)] ∧ Im T0 w0 T2 w2 ∧ Sep g T2 w2 [R] ∧ kk2 x5 x6 x7 = some r) ?_ ?_
    · refine blk ?_
      obtain ⟨kk3, hkk3, hm⟩ := jn_open hm
      refine cut (fun a w3 => ∃ (J : JV) (T3 : TP) (x8 : Bool) (x9 : Bool), a = env (nf 22) J [(4, .bool x8), (5, .bool x9)] ∧ Im T0 w0 T3 w3 ∧ Sep g T3 w3 [R] ∧ kk3 x8 x9 = some r) ?_ ?_
      · refine blk (sq2 (blk (sq2 (sq2 (sq2 (rg (pv (r_ib rfl rfl rfl) (pv (r_zb rfl) (nil (t_then ?_))))))))))
        refine cnd rfl (fun hb1 => ?_) (fun hb1 => ?_)
        · have hm := ctrue hb1 hm
          refine xt (x_then (x_then (x_eq (t_then ?_))))
          exact rg (pv (r_zb rfl) (pv (r_zb rfl) (nil (t_blk (t_then ⟨_, _, true, false, env_has ⟨rfl, rfl, trivial⟩, Im.refl, hS.sel [0] rfl, hm⟩)))))
        have hm := cfalse hb1 hm
        refine skp (t_then ?_)
        refine sq2 ?_
        obtain ⟨kk4, hkk4, hm⟩ := jn_open hm
        refine cut (fun a w4 => ∃ (J : JV) (T4 : TP) (x10 : Bool), a = env (nf 22) J [(2, .bool false), (3, .bool false), (4, .bool false), (5, .bool true), (6, .int .u8 p0), (9, .bool x10)] ∧ Im T0 w0 T4 w4 ∧ Sep g T4 w4 [R] ∧ kk4 x10 = some r) ?_ ?_
        · refine sq2 (rg (pv (r_ib rfl rfl rfl) (pv (r_zb rfl) (nil (t_then ?_)))))
          refine cnd rfl (fun hb2 => ?_) (fun hb2 => ?_)
          · have hm := ctrue hb2 hm
            exact skp (t_then ⟨_, _, (p0 == 73), env_has ⟨rfl, rfl, rfl, rfl, rfl, rfl, trivial⟩, Im.refl, hS.sel [0] rfl, hm⟩)
          have hm := cfalse hb2 hm
          exact rg (pv (r_ib rfl rfl rfl) (pv (r_zb rfl) (nil (t_then ⟨_, _, (p0 == 72), env_has ⟨rfl, rfl, rfl, rfl, rfl, rfl, trivial⟩, Im.refl, hS.sel [0] rfl, hm⟩))))
        rintro _ w4 ⟨J, T4, x10, rfl, im4, hS1, hm⟩
        rw [hkk4] at hm
        refine cnd rfl (fun hb3 => ?_) (fun hb3 => ?_)
        · have hm := ctrue hb3 hm
          exact xt (x_then (x_then (x_ne (by decide) (x_then (x_eq (t_then ⟨_, _, false, true, env_has ⟨rfl, rfl, trivial⟩, im4, hS1.sel [0] rfl, hm⟩))))))
        have hm := cfalse hb3 hm
        refine skp (t_then ?_)
        refine sq2 ?_
        obtain ⟨kk5, hkk5, hm⟩ := jn_open hm
        refine cut (fun a w5 => ∃ (J : JV) (T5 : TP) (x11 : Bool), a = env (nf 22) J [(2, .bool false), (3, .bool false), (4, .bool false), (5, .bool true), (6, .int .u8 p0), (12, .bool x11)] ∧ Im T4 w4 T5 w5 ∧ Sep g T5 w5 [R] ∧ kk5 x11 = some r) ?_ ?_
        · refine sq2 (rg (pv (r_ib rfl rfl rfl) (pv (r_zb rfl) (nil (t_then ?_)))))
          refine cnd rfl (fun hb4 => ?_) (fun hb4 => ?_)
          · have hm := ctrue hb4 hm
            exact skp (t_then ⟨_, _, (p0 == 85), env_has ⟨rfl, rfl, rfl, rfl, rfl, rfl, trivial⟩, Im.refl, hS1.sel [0] rfl, hm⟩)
          have hm := cfalse hb4 hm
          exact rg (pv (r_ib rfl rfl rfl) (pv (r_zb rfl) (nil (t_then ⟨_, _, (p0 == 74), env_has ⟨rfl, rfl, rfl, rfl, rfl, rfl, trivial⟩, Im.refl, hS1.sel [0] rfl, hm⟩))))
        rintro _ w5 ⟨J, T5, x11, rfl, im5, hS2, hm⟩
        rw [hkk5] at hm
        refine cnd rfl (fun hb5 => ?_) (fun hb5 => ?_)
        · have hm := ctrue hb5 hm
          exact xt (x_then (x_then (x_ne (by decide) (x_then (x_ne (by decide) (x_then (x_eq (t_then ⟨_, _, false, false, true, env_has ⟨rfl, rfl, rfl, trivial⟩, ch, hS2.sel [0] rfl, hm⟩))))))))
        have hm := cfalse hb5 hm
        refine skp (t_then ?_)
        obtain ⟨kk6, hkk6, hm⟩ := jn_open hm
        refine cut (fun a w6 => ∃ (J : JV) (T6 : TP) (x12 : Bool), a = env (nf 22) J [(2, .bool false), (3, .bool false), (4, .bool false), (5, .bool true), (15, .bool x12)] ∧ Im T5 w5 T6 w6 ∧ Sep g T6 w6 [R] ∧ kk6 x12 = some r) ?_ ?_
        · refine sq2 (rg (pv (r_ib rfl rfl rfl) (pv (r_zb rfl) (nil (t_then ?_)))))
          refine cnd rfl (fun hb6 => ?_) (fun hb6 => ?_)
          · have hm := ctrue hb6 hm
            exact skp (t_then ⟨_, _, (p0 == 83), env_has ⟨rfl, rfl, rfl, rfl, rfl, trivial⟩, Im.refl, hS2.sel [0] rfl, hm⟩)
          have hm := cfalse hb6 hm
          exact rg (pv (r_ib rfl rfl rfl) (pv (r_zb rfl) (nil (t_then ⟨_, _, (p0 == 66), env_has ⟨rfl, rfl, rfl, rfl, rfl, trivial⟩, Im.refl, hS2.sel [0] rfl, hm⟩))))
        rintro _ w6 ⟨J, T6, x12, rfl, im6, hS3, hm⟩
        rw [hkk6] at hm
        refine cnd rfl (fun hb7 => ?_) (fun hb7 => ?_)
        · have hm := ctrue hb7 hm
          refine xt (x_then (x_ne (by decide) (x_then (x_ne (by decide) (x_then (x_ne (by decide) (x_then (x_eq (t_then ?_)))))))))
          refine sq2 (rg (pv (r_zb rfl) (pv (r_zb rfl) (nil (t_then ?_)))))
          exact xt (x_eq (t_then ⟨_, _, false, true, true, true, env_has ⟨rfl, rfl, rfl, rfl, trivial⟩, ch, hS3.sel [0] rfl, hm⟩))
        have hm := cfalse hb7 hm
        refine skp (t_then ?_)
        exact xt (x_ne (by decide) (x_then (x_ne (by decide) (x_then (x_ne (by decide) (x_then (x_ne (by decide) (x_then (x_eq (t_then ⟨_, _, false, false, false, true, env_has ⟨rfl, rfl, rfl, rfl, trivial⟩, ch, hS3.sel [0] rfl, hm⟩))))))))))
      rintro _ w3 ⟨J, T3, x8, x9, rfl, im3, hS4, hm⟩
      rw [hkk3] at hm
      exact rg (pv (r_zb rfl) (nil (t_blk (t_then ⟨_, _, true, x8, x9, env_has ⟨rfl, rfl, rfl, trivial⟩, im3, hS4.sel [0] rfl, hm⟩))))
    rintro _ w2 ⟨J, T2, x5, x6, x7, rfl, im2, hS5, hm⟩
    rw [hkk2] at hm
    refine sq2 (rg (pv (r_zb rfl) (nil (t_then ?_))))
    exact xt (x_ne (by decide) (x_then (x_eq (t_then ⟨_, _, true, x5, x6, x7, env_has ⟨rfl, rfl, rfl, rfl, trivial⟩, im2, hS5.sel [0] rfl, hm⟩))))
  rintro _ w1 ⟨J, T1, x1, x2, x3, x4, rfl, im1, hS6, hm⟩
  rw [hkk1] at hm
  refine sq2 (rg (pv (r_mb rfl) (pv (r_mb rfl) (pv (r_mb rfl) (pv (r_mb rfl) (pv (r_zb rfl) (pv (r_zb rfl) (pv (r_zb rfl) (pv (r_zb rfl) (nil (t_then ?_)))))))))))
  have hm := oI hm; subst hm
  exact rtn (retN (vs := [.bool x1, .bool x2, .bool x3, .bool x4]) rfl ⟨rfl, rfl, rfl, rfl, trivial⟩ rfl ⟨_, rfl, _, im1, ⟨rfl, hS6.sel [0] rfl, trivial⟩⟩)

theorem inst_Decode_sim {p0 : Int} {r : GInst × Int} (hS : Sep g T0 w0 [R])  (hm : inst_Decode p0 = some r) :
    Calls Tryz.prog 341 #[.int .u32 p0] w0 (RetS T0 w0 fun T w v => v = .tuple #[.agg (cGInst r.1).toArray, iv r.2] ∧ Sep g T w [R] ∧ True) := by
  refine enter (args := [.int .u32 p0]) Tryz.func341 rfl Tryz.ntmps341 rfl fun J => ?_
  unfold inst_Decode at hm
  refine sq2 (rg (wl rfl (alS (zs := [iv 0, iv 0, iv 0, iv 0, iv 0]) zeroValue162 rfl hS fun w1 b1 im1 hS1 => ?_)))
  refine pv (r_zi rfl) (nil (t_then ?_))
  refine sq2 ?_
  obtain ⟨y1, hx1, hm⟩ := bindS hm
  refine rg (wl rfl (calS cf206 rfl (inst_table_sim  (hS1.bun [0, 1] [] rfl)  hx1) rfl fun v1 T1 w2 im2 rv1 => ?_))
  obtain ⟨rfl, hS2, _⟩ := rv1
  have hS2 := hS2.unb
  refine wl rfl (alS (zs := (List.map enInstShape' (List.replicate 46 (⟨([] : List UInt8), 0, 0, 0, 0⟩ : InstShape))).flatten ++ []) zeroValue364 (by kernel_rfl) hS2 fun w3 b2 im3 hS3 => ?_)
  obtain ⟨z_1, hln1, hm⟩ := bindS hm
  refine wl rfl (stArr (q := 0) hS3 ⟨rfl, rfl⟩ (lnBox b2) rfl rfl enInstShape'_len (fun _ => rfl) rfl (lenOk_some hln1) rfl sizeOf364 fun w4 im4 hS4 => ?_)
  refine nil (t_then ?_)
  refine sq2 (sq2 (rg (pv (r_zi rfl) (nil (t_then ?_)))))
  obtain ⟨o1, ho1, hq1⟩ := bindS hm
  obtain ⟨bd1, hbd1, ho1⟩ := loop_open ho1
  refine blk (wp_loop_ghost (fun m a w5 => ∃ (J : JV) (T2 : TP) (x1 : Int), a = env (nf 55) J [(0, .int .u32 p0), (2, pt b1 0), (4, pt b2 0), (5, iv x1)] ∧ Im T1 w4 T2 w5 ∧ Sep g T2 w5 [segH (boxA b2) enInstShape' y1 [], boxA b1 [iv 0, iv 0, iv 0, iv 0, iv 0], R] ∧ loopM bd1 m x1 = some o1) NN ⟨_, _, 1, env_has ⟨rfl, rfl, rfl, rfl, trivial⟩, Im.refl, hS4.sel [0, 1, 2] rfl, ho1⟩ ?_)
  rintro m _ w5 ⟨J, T2, x1, rfl, im5, hS5, ho1⟩
  obtain ⟨m1, z1, rfl, hm, hn1⟩ := loop_round ho1
  rw [hbd1] at hm
  refine sq2 (sq2 (rg (pv (r_mi rfl) (pv (r_ib rfl rfl rfl) (nil (t_then ?_))))))
  refine cnd rfl (fun hb1 => ?_) (fun hb1 => ?_)
  · have hm := ctrue hb1 hm
    refine skp (t_then ?_)
    refine sq2 (blk (sq2 ?_))
    obtain ⟨u1, hx2, hm⟩ := bindS hm
    obtain ⟨of1, he1⟩ : ∃ z : Nat, z = (0 + 0) + (Int.toNat x1) * 5 := ⟨_, rfl⟩
    refine rg (pv (r_mi rfl) (pv (r_ixA rfl rfl (lenOk_some hln1) hx2 underlying364 sizeOf260 he1) (pv (r_ldS rfl isAgg260 sizeOf260 rfl ((Sep.segEl hS5 (q := 0) ⟨rfl, rfl⟩ (lnBox b2) enInstShape'_len hx2 he1).sub 0 rfl) (cs := (cInstShape u1))) (wl rfl (alS (zs := [.string ⟨([] : List UInt8).toArray⟩, .int .u8 0, .int .u32 0, .int .u32 0, .int .u32 0]) zeroValue260 rfl hS5 fun w6 b3 im6 hS6 => ?_)))))
    refine wl rfl (st0B (q := 0) hS6 ⟨rfl, rfl⟩ rfl rfl rfl sizeOf260 rfl rfl rfl fun w7 im7 hS7 => ?_)
    refine nil (t_then ?_)
    refine sq2 (sq2 ?_)
    obtain ⟨y2, hx3, hm⟩ := bindS hm
    refine rg (pv (r_ldS rfl isAgg260 sizeOf260 rfl (hS7.cells0 (i := 0) ⟨rfl, rfl⟩ (o := 0) rfl) (cs := (cInstShape u1))) (pv (r_mi rfl) (wl rfl (calS cf457 rfl (inst_fits_sim (p0 := u1) (p1 := p0) (hS7.bun [0, 1, 2, 3] [] rfl)  hx3) rfl fun v2 T3 w8 im8 rv2 => ?_))))
    obtain ⟨rfl, hS8, _⟩ := rv2
    have hS8 := hS8.unb
    refine pv (r_nt rfl) (nil (t_then ?_))
    refine cnd rfl (fun hb2 => ?_) (fun hb2 => ?_)
    · have hm := ctrue hb2 hm
      refine xt (x_then (x_eq (t_then ?_)))
      have hm := oI hm; subst hm
      exact rg (pv (r_mi rfl) (pv (r_ib rfl rfl rfl) (pv (r_zi rfl) (nil (t_then ⟨m1, Nat.lt_succ_self _, _, _, (IntKind.wrap .i64 (x1 + 1)), env_has ⟨rfl, rfl, rfl, rfl, trivial⟩, ch, hS8.sel [1, 2, 3] rfl, hn1⟩)))))
    have hm := cfalse hb2 hm
    refine skp (t_then ?_)
    refine sq2 ?_
    obtain ⟨y3, hx4, hm⟩ := bindS hm
    refine rg (pv (r_mi rfl) (pv (r_fa rfl underlying260 rfl sizeOf5 rfl) (pv (r_ld rfl isAgg5 (hS8.cell0 (i := 0) ⟨rfl, rfl⟩ (j := 1) rfl)) (pv (r_mi rfl) (wl rfl (calS cf458 rfl (inst_told_sim (p0 := u1.form) (p1 := p0) (hS8.bun [0, 2, 3] [] rfl)  hx4) rfl fun v3 T4 w9 im9 rv3 => ?_))))))
    obtain ⟨rfl, hS9, _⟩ := rv3
    have hS9 := hS9.unb
    refine pv (r_bd (by kernel_rfl) rfl (u := .agg #[iv x1, iv 0, iv 0, iv 0, iv y3])) (wl rfl (alS (zs := [iv 0, iv 0, iv 0, iv 0, iv 0]) zeroValue162 rfl hS9 fun w10 b4 im10 hS10 => ?_))
    refine wl rfl (st0B (q := 0) hS10 ⟨rfl, rfl⟩ rfl rfl rfl sizeOf162 rfl rfl rfl fun w11 im11 hS11 => ?_)
    refine nil (t_then ?_)
    refine sq2 ?_
    obtain ⟨y4, hx5, hm⟩ := bindS hm
    refine rg (pv (r_fa rfl underlying260 rfl sizeOf5 rfl) (pv (r_ld rfl isAgg5 (hS11.cell0 (i := 1) ⟨rfl, rfl⟩ (j := 1) rfl)) (wl rfl (calS cf201 rfl (inst_needs_sim (p0 := u1.form) (hS11.bun [0, 2, 3] [] rfl)  hx5) rfl fun v4 T5 w12 im12 rv4 => ?_))))
    obtain ⟨rfl, hS12, _⟩ := rv4
    have hS12 := hS12.unb
    refine pv (r_mv rfl) (pv (r_ex (v := .bool y4.1) rfl rfl) (pv (r_ex (v := .bool y4.2.1) rfl rfl) (pv (r_ex (v := .bool y4.2.2.1) rfl rfl) (pv (r_ex (v := .bool y4.2.2.2) rfl rfl) (pv (r_zb rfl) (pv (r_zb rfl) (pv (r_zb rfl) (pv (r_zb rfl) (nil (t_thenR [(0, .int .u32 p0), (2, pt b1 0), (7, pt b4 0), (8, .bool y4.1), (9, .bool y4.2.1), (10, .bool y4.2.2.1)] ⟨rfl, rfl, rfl, rfl, rfl, rfl, trivial⟩ fun J => ?_))))))))))
    obtain ⟨kk1, hkk1, hm⟩ := jn_open hm
    refine cut (fun a w13 => ∃ (J : JV) (T6 : TP) (x2 : GInst), a = env (nf 55) J [(0, .int .u32 p0), (2, pt b1 0), (7, pt b4 0), (9, .bool y4.2.1), (10, .bool y4.2.2.1)] ∧ Im T5 w12 T6 w13 ∧ Sep g T6 w13 [boxA b4 (cGInst x2), boxA b1 [iv 0, iv 0, iv 0, iv 0, iv 0], R] ∧ kk1 x2 = some z1) ?_ ?_
    · refine sq2 (rg (pv (r_mb rfl) (nil (t_then ?_))))
      refine cnd rfl (fun hb3 => ?_) (fun hb3 => ?_)
      · have hm := ctrue hb3 hm
        obtain ⟨y5, hx6, hm⟩ := bindS hm
        refine rg (pv (r_mi rfl) (wl rfl (calS cf207 rfl (inst_bits_sim (p0 := p0) (p1 := 7) (p2 := 5) (hS12.bun [0, 1, 2] [] rfl)  hx6) rfl fun v5 T7 w14 im14 rv5 => ?_)))
        obtain ⟨rfl, hS13, _⟩ := rv5
        have hS13 := hS13.unb
        refine pv (r_cv rfl underlying22 underlying3) (pv (r_fa rfl underlying162 rfl sizeOf3 rfl) (wl rfl (st0B (q := 0) hS13 ⟨rfl, rfl⟩ rfl rfl rfl sizeOf3 rfl rfl rfl fun w15 im15 hS14 => ?_)))
        exact nil (t_then ⟨_, _, (⟨x1, IntKind.wrap .i64 y5, 0, 0, y3⟩ : GInst), env_has ⟨rfl, rfl, rfl, rfl, rfl, trivial⟩, ch, hS14.sel [0, 1, 2] rfl, hm⟩)
      have hm := cfalse hb3 hm
      exact skp (t_then ⟨_, _, (⟨x1, 0, 0, 0, y3⟩ : GInst), env_has ⟨rfl, rfl, rfl, rfl, rfl, trivial⟩, Im.refl, hS12.sel [0, 1, 2] rfl, hm⟩)
    rintro _ w13 ⟨J, T6, x2, rfl, im13, hS15, hm⟩
    rw [hkk1] at hm
    obtain ⟨kk2, hkk2, hm⟩ := jn_open hm
    refine cut (fun a w16 => ∃ (J : JV) (T8 : TP) (x3 : GInst), a = env (nf 55) J [(0, .int .u32 p0), (2, pt b1 0), (7, pt b4 0), (10, .bool y4.2.2.1)] ∧ Im T6 w13 T8 w16 ∧ Sep g T8 w16 [boxA b4 (cGInst x3), boxA b1 [iv 0, iv 0, iv 0, iv 0, iv 0], R] ∧ kk2 x3 = some z1) ?_ ?_
    · refine sq2 (rg (pv (r_mb rfl) (nil (t_then ?_))))
      refine cnd rfl (fun hb4 => ?_) (fun hb4 => ?_)
      · have hm := ctrue hb4 hm
        obtain ⟨y6, hx7, hm⟩ := bindS hm
        refine rg (pv (r_mi rfl) (wl rfl (calS cf207 rfl (inst_bits_sim (p0 := p0) (p1 := 15) (p2 := 5) (hS15.bun [0, 1, 2] [] rfl)  hx7) rfl fun v6 T9 w17 im17 rv6 => ?_)))
        obtain ⟨rfl, hS16, _⟩ := rv6
        have hS16 := hS16.unb
        refine pv (r_cv rfl underlying22 underlying3) (pv (r_fa rfl underlying162 rfl sizeOf3 rfl) (wl rfl (st0B (q := 0) hS16 ⟨rfl, rfl⟩ rfl rfl rfl sizeOf3 rfl rfl rfl fun w18 im18 hS17 => ?_)))
        exact nil (t_then ⟨_, _, ({ x2 with Rs1 := IntKind.wrap .i64 y6 }), env_has ⟨rfl, rfl, rfl, rfl, trivial⟩, ch, hS17.sel [0, 1, 2] rfl, hm⟩)
      have hm := cfalse hb4 hm
      exact skp (t_then ⟨_, _, x2, env_has ⟨rfl, rfl, rfl, rfl, trivial⟩, Im.refl, hS15.sel [0, 1, 2] rfl, hm⟩)
    rintro _ w16 ⟨J, T8, x3, rfl, im16, hS18, hm⟩
    rw [hkk2] at hm
    obtain ⟨kk3, hkk3, hm⟩ := jn_open hm
    refine cut (fun a w19 => ∃ (J : JV) (T10 : TP) (x4 : GInst), a = env (nf 55) J [(2, pt b1 0), (7, pt b4 0)] ∧ Im T8 w16 T10 w19 ∧ Sep g T10 w19 [boxA b4 (cGInst x4), boxA b1 [iv 0, iv 0, iv 0, iv 0, iv 0], R] ∧ kk3 x4 = some z1) ?_ ?_
    · refine sq2 (rg (pv (r_mb rfl) (nil (t_then ?_))))
      refine cnd rfl (fun hb5 => ?_) (fun hb5 => ?_)
      · have hm := ctrue hb5 hm
        obtain ⟨y7, hx8, hm⟩ := bindS hm
        refine rg (pv (r_mi rfl) (wl rfl (calS cf207 rfl (inst_bits_sim (p0 := p0) (p1 := 20) (p2 := 5) (hS18.bun [0, 1, 2] [] rfl)  hx8) rfl fun v7 T11 w20 im20 rv7 => ?_)))
        obtain ⟨rfl, hS19, _⟩ := rv7
        have hS19 := hS19.unb
        refine pv (r_cv rfl underlying22 underlying3) (pv (r_fa rfl underlying162 rfl sizeOf3 rfl) (wl rfl (st0B (q := 0) hS19 ⟨rfl, rfl⟩ rfl rfl rfl sizeOf3 rfl rfl rfl fun w21 im21 hS20 => ?_)))
        exact nil (t_then ⟨_, _, ({ x3 with Rs2 := IntKind.wrap .i64 y7 }), env_has ⟨rfl, rfl, trivial⟩, ch, hS20.sel [0, 1, 2] rfl, hm⟩)
      have hm := cfalse hb5 hm
      exact skp (t_then ⟨_, _, x3, env_has ⟨rfl, rfl, trivial⟩, Im.refl, hS18.sel [0, 1, 2] rfl, hm⟩)
    rintro _ w19 ⟨J, T10, x4, rfl, im19, hS21, hm⟩
    rw [hkk3] at hm
    refine sq2 (rg (pv (r_ldS rfl isAgg162 sizeOf162 rfl (hS21.cells0 (i := 0) ⟨rfl, rfl⟩ (o := 0) rfl) (cs := (cGInst x4))) (wl rfl (st0B (q := 1) hS21 ⟨rfl, rfl⟩ rfl rfl rfl sizeOf162 rfl rfl rfl fun w22 im22 hS22 => ?_))))
    refine pv (r_zi rfl) (nil (t_then ?_))
    have hm := oI hm; subst hm
    have hn1 : _ = Lp.ret _ := hn1
    subst hn1
    have hm := thn_ret hq1
    have hm := oI hm; subst hm
    exact rtn (r_blk (r_then (r_then (r_blk (r_then (retN (vs := [.agg (cGInst x4).toArray, iv 0]) rfl ⟨rvS rfl isAgg162 sizeOf162 rfl (hS22.bx (i := 1) ⟨rfl, rfl⟩), rfl, trivial⟩ rfl ⟨_, rfl, _, ch, ⟨rfl, hS22.sel [2] rfl, trivial⟩⟩))))))
  have hm := cfalse hb1 hm
  have hm := oI hm; subst hm
  have hn1 : _ = Lp.brk _ := hn1
  subst hn1
  have hm := thn_brk hq1
  refine xt (x_then (x_then (x_eq (t_then ?_))))
  refine sq2 (rg (pv (r_bd (by kernel_rfl) rfl (u := .agg #[iv 0, iv 0, iv 0, iv 0, iv 0])) (wl rfl (st0B (q := 1) hS5 ⟨rfl, rfl⟩ rfl rfl rfl sizeOf162 rfl rfl rfl fun w23 im23 hS23 => ?_))))
  refine pv (r_zi rfl) (nil (t_then ?_))
  have hm := oI hm; subst hm
  exact rtn (retN (vs := [.agg #[iv 0, iv 0, iv 0, iv 0, iv 0], iv 3]) rfl ⟨rvS rfl isAgg162 sizeOf162 rfl (hS23.bx (i := 1) ⟨rfl, rfl⟩), rfl, trivial⟩ rfl ⟨_, rfl, _, ch, ⟨rfl, hS23.sel [2] rfl, trivial⟩⟩)

theorem record_First_sim {p0 : List GRecord} {a1 : OA} {c1 : Nat} {r : (List GRecord)} (hS : Sep g T0 w0 [R]) (h1 : SlR rGRecord T0 w0 (sv a1 p0 c1) p0) (hm : record_First p0 = some r) :
    Calls Tryz.prog 21 #[sv a1 p0 c1] w0 (RetS T0 w0 fun T w v => ∃ (a6 : OA) (n5 : Nat) (c6 : Nat), v = .slice a6 n5 c6 ∧ Sep g T w [R, ownA rGRecord 49 (.slice a6 n5 c6) r] ∧ True) := by
  refine enter (args := [sv a1 p0 c1]) Tryz.func21 rfl Tryz.ntmps21 rfl fun J => ?_
  unfold record_First at hm
  refine sq2 (rg (pv (r_zs rfl) (nil (t_then ?_))))
  refine sq2 (rg (wl rfl (mkM (Value.int .u32) Value.bool hS fun w1 r1 im1 hS1 => ?_)))
  refine pv (r_zm rfl) (nil (t_then ?_))
  refine sq2 (rg (pv (r_zs rfl) (nil (t_then ?_))))
  refine sq2 (sq2 (rg (pv (r_ms rfl) (pv (r_ln rfl underlying23) (pv (r_mi rfl) (nil (t_then ?_)))))))
  obtain ⟨o1, ho1, hq1⟩ := bindS hm
  obtain ⟨bd1, hbd1, ho1⟩ := loop_open ho1
  have hS2 := hS1.nilO rGRecord 49
  refine blk (wp_loop_ghost (fun m a w2 => ∃ (J : JV) (T1 : TP) (x1 : List GRecord) (a2 : OA) (n1 : Nat) (c2 : Nat) (x2 : Option (List (Int × Bool))) (r2 : Option Nat) (x3 : Int), a = env (nf 28) J [(3, .map r2), (4, .slice a2 n1 c2), (8, sv a1 p0 c1), (9, iv (List.length p0 : Int)), (10, iv x3)] ∧ Im T0 w1 T1 w2 ∧ Sep g T1 w2 [ownA rGRecord 49 (.slice a2 n1 c2) x1, mapA (Value.int .u32) Value.bool (.map r2) x2, R] ∧ loopM bd1 m (x1, x2, x3) = some o1) NN ⟨_, _, [], _, _, _, (some []), _, 0, env_has ⟨rfl, rfl, rfl, rfl, rfl, trivial⟩, Im.refl, hS2.sel [0, 1, 2] rfl, ho1⟩ ?_)
  rintro m _ w2 ⟨J, T1, x1, a2, n1, c2, x2, r2, x3, rfl, im2, hS3, ho1⟩
  obtain ⟨m1, z1, rfl, hm, hn1⟩ := loop_round ho1
  rw [hbd1] at hm
  refine sq2 (rg (pv (r_ib rfl rfl rfl) (nil (t_then ?_))))
  refine sq2 (cnd rfl (fun hb1 => ?_) (fun hb1 => ?_))
  · have hm := ctrue hb1 hm
    refine skp (t_then ?_)
    obtain ⟨kk1, hkk1, hm⟩ := jn_open hm
    refine cut (fun a w3 => ∃ (J : JV) (T2 : TP) (x4 : List GRecord) (a3 : OA) (n2 : Nat) (c3 : Nat) (x5 : Option (List (Int × Bool))) (r3 : Option Nat), a = env (nf 28) J [(3, .map r3), (4, .slice a3 n2 c3), (8, sv a1 p0 c1), (9, iv (List.length p0 : Int)), (10, iv x3)] ∧ Im T1 w2 T2 w3 ∧ Sep g T2 w3 [ownA rGRecord 49 (.slice a3 n2 c3) x4, mapA (Value.int .u32) Value.bool (.map r3) x5, R] ∧ kk1 x4 x5 = some z1) ?_ ?_
    · refine blk (sq2 ?_)
      obtain ⟨u1, hx1, hm⟩ := bindS hm
      obtain ⟨b1, of1, cs1, k1, cp1, hv1, hp1, hl1, he1, hr1, hc1, hT1⟩ := (h1.mono (iT im1 im2)).ixT hx1 rfl
      cases rGRecord_open hr1
      refine rg (pv (r_ixe hv1 rfl underlying23 sizeOf49 hp1 hl1 he1) (pv (r_ldS rfl isAgg49 sizeOf49 rfl hc1 (cs := [.int .u32 u1.Seq, .int .u32 u1.Val])) (wl rfl (alS (zs := [.int .u32 0, .int .u32 0]) zeroValue49 rfl hS3 fun w4 b2 im4 hS4 => ?_))))
      refine wl rfl (st0B (q := 0) hS4 ⟨rfl, rfl⟩ rfl rfl rfl sizeOf49 rfl rfl rfl fun w5 im5 hS5 => ?_)
      refine nil (t_then ?_)
      refine sq2 (rg (pv (r_mm rfl) (pv (r_fa rfl underlying49 rfl sizeOf22 rfl) (pv (r_ld rfl isAgg22 (hS5.cell0 (i := 0) ⟨rfl, rfl⟩ (j := 0) rfl)) (pv (r_lkM (kk := u1.Seq) (u := false) rfl rfl (hS5.getA (i := 2) ⟨rfl, rfl⟩) (key_int .u32) underlying77 underlying22 zeroValue4 rfl) (pv (r_nt rfl) (nil (t_then ?_))))))))
      refine cnd rfl (fun hb2 => ?_) (fun hb2 => ?_)
      · have hm := ctrue hb2 hm
        refine sq2 ?_
        obtain ⟨u2, hx2, hm⟩ := bindS hm
        refine rg (pv (r_mm rfl) (pv (r_fa rfl underlying49 rfl sizeOf22 rfl) (pv (r_ld rfl isAgg22 (hS5.cell0 (i := 0) ⟨rfl, rfl⟩ (j := 0) rfl)) (wl rfl (muM (q := 2) (k := u1.Seq) (u := true) hS5 ⟨rfl, rfl⟩ hx2 rfl rfl rfl (key_int .u32) underlying77 underlying22 fun w6 im6 hS6 => ?_)))))
        refine nil (t_then ?_)
        refine rg (pv (r_ms rfl) (pv (r_ldS rfl isAgg49 sizeOf49 rfl (hS6.cells0 (i := 0) ⟨rfl, rfl⟩ (o := 0) rfl) (cs := [.int .u32 u1.Seq, .int .u32 u1.Val])) (wl rfl (bsS (r := rGRecord) (l := ([u1] : List GRecord)) (css := [[.int .u32 u1.Seq, .int .u32 u1.Val]]) hS6 underlying23 sizeOf49 zeroValue49 rfl rfl (by kernel_rfl) rfl ⟨(rGRecord_mk (x := u1)  : rGRecord.rp _ _ _ _), trivial⟩ rfl rfl fun w7 a4 n3 c4 im7 hS7 => ?_))))
        obtain ⟨z_1, hro1, hm⟩ := bindS hm
        refine wl rfl (apO (q := 2) (l := x1) (us := ([u1] : List GRecord)) hS7 ⟨rfl, rfl⟩ rfl rfl (hS7.own (i := 0) ⟨rfl, rfl⟩).v underlying23 el49 (room_some hro1) fun w8 a5 n4 c5 im8 hS8 => ?_)
        exact pv (r_zs rfl) (nil (t_blk (t_then ⟨_, _, (x1 ++ ([u1] : List GRecord)), _, _, _, (some (mSet u2 u1.Seq true)), _, env_has ⟨rfl, rfl, rfl, rfl, rfl, trivial⟩, ch, hS8.sel [2, 3, 4] rfl, hm⟩)))
      have hm := cfalse hb2 hm
      exact skp (t_blk (t_then ⟨_, _, x1, _, _, _, x2, _, env_has ⟨rfl, rfl, rfl, rfl, rfl, trivial⟩, ch, hS5.sel [1, 2, 3] rfl, hm⟩))
    rintro _ w3 ⟨J, T2, x4, a3, n2, c3, x5, r3, rfl, im3, hS9, hm⟩
    rw [hkk1] at hm
    have hm := oI hm; subst hm
    exact rg (pv (r_ib rfl rfl rfl) (pv (r_mi rfl) (nil (t_then ⟨m1, Nat.lt_succ_self _, _, _, x4, _, _, _, x5, _, (IntKind.wrap .i64 (x3 + 1)), env_has ⟨rfl, rfl, rfl, rfl, rfl, trivial⟩, ch, hS9.sel [0, 1, 2] rfl, hn1⟩))))
  have hm := cfalse hb1 hm
  have hm := oI hm; subst hm
  have hn1 : _ = Lp.brk _ := hn1
  subst hn1
  have hm := thn_brk hq1
  refine xt (x_then (x_then (x_eq (t_then ?_))))
  refine sq2 (rg (pv (r_ms rfl) (pv (r_zs rfl) (nil (t_then ?_)))))
  have hm := oI hm; subst hm
  exact rtn (ret1 rfl rfl ⟨_, rfl, _, ch, ⟨_, _, _, rfl, hS3.sel [2, 0] rfl, trivial⟩⟩)

theorem record_Values_sim {p0 : List GRecord} {a1 : OA} {c1 : Nat} {r : (List Int)} (hS : Sep g T0 w0 [R]) (h1 : SlR rGRecord T0 w0 (sv a1 p0 c1) p0) (hm : record_Values p0 = some r) :
    Calls Tryz.prog 13 #[sv a1 p0 c1] w0 (RetS T0 w0 fun T w v => ∃ (a6 : OA) (n5 : Nat) (c6 : Nat), v = .slice a6 n5 c6 ∧ Sep g T w [R, ownA (rInt .u32) 22 (.slice a6 n5 c6) r] ∧ True) := by
  refine enter (args := [sv a1 p0 c1]) Tryz.func13 rfl Tryz.ntmps13 rfl fun J => ?_
  unfold record_Values at hm
  refine sq2 (rg (pv (r_zs rfl) (nil (t_then ?_))))
  refine sq2 (rg (pv (r_zs rfl) (nil (t_then ?_))))
  refine sq2 (sq2 ?_)
  obtain ⟨y1, hx1, hm⟩ := bindS hm
  refine rg (pv (r_ms rfl) (wl rfl (calS cf21 rfl (record_First_sim (p0 := p0) (hS.bun [0] [] rfl) h1 hx1) rfl fun v1 T1 w1 im1 rv1 => ?_)))
  obtain ⟨a2, n1, c2, rfl, hS1, _⟩ := rv1
  have hS1 := hS1.unb
  refine pv (r_lnV rfl (hS1.own (i := 1) ⟨rfl, rfl⟩).v underlying23) (pv (r_mi rfl) (nil (t_then ?_)))
  obtain ⟨o1, ho1, hq1⟩ := bindS hm
  obtain ⟨bd1, hbd1, ho1⟩ := loop_open ho1
  have hS2 := hS1.nilO (rInt .u32) 22
  refine blk (wp_loop_ghost (fun m a w2 => ∃ (J : JV) (T2 : TP) (x1 : List Int) (a3 : OA) (n2 : Nat) (c3 : Nat) (x2 : Int), a = env (nf 20) J [(3, .slice a3 n2 c3), (7, .slice a2 n1 c2), (8, iv (List.length y1 : Int)), (9, iv x2)] ∧ Im T1 w1 T2 w2 ∧ Sep g T2 w2 [ownA (rInt .u32) 22 (.slice a3 n2 c3) x1, R, ownA rGRecord 49 (.slice a2 n1 c2) y1] ∧ loopM bd1 m (x1, x2) = some o1) NN ⟨_, _, [], _, _, _, 0, env_has ⟨rfl, rfl, rfl, rfl, trivial⟩, Im.refl, hS2.sel [0, 1, 2] rfl, ho1⟩ ?_)
  rintro m _ w2 ⟨J, T2, x1, a3, n2, c3, x2, rfl, im2, hS3, ho1⟩
  obtain ⟨m1, z1, rfl, hm, hn1⟩ := loop_round ho1
  rw [hbd1] at hm
  refine sq2 (rg (pv (r_ib rfl rfl rfl) (nil (t_then ?_))))
  refine sq2 (cnd rfl (fun hb1 => ?_) (fun hb1 => ?_))
  · have hm := ctrue hb1 hm
    refine skp (t_then ?_)
    refine sq2 (blk (sq2 ?_))
    obtain ⟨u1, hx2, hm⟩ := bindS hm
    obtain ⟨b1, of1, cs1, k1, cp1, hv1, hp1, hl1, he1, hr1, hc1⟩ := (hS3.own (i := 2) ⟨rfl, rfl⟩).v.ixq hx2 rfl
    cases rGRecord_open hr1
    refine rg (pv (r_ixe hv1 rfl underlying23 sizeOf49 hp1 hl1 he1) (pv (r_ldS rfl isAgg49 sizeOf49 rfl hc1 (cs := [.int .u32 u1.Seq, .int .u32 u1.Val])) (wl rfl (alS (zs := [.int .u32 0, .int .u32 0]) zeroValue49 rfl hS3 fun w3 b2 im3 hS4 => ?_))))
    refine wl rfl (st0B (q := 0) hS4 ⟨rfl, rfl⟩ rfl rfl rfl sizeOf49 rfl rfl rfl fun w4 im4 hS5 => ?_)
    refine nil (t_then ?_)
    refine rg (pv (r_ms rfl) (pv (r_fa rfl underlying49 rfl sizeOf22 rfl) (pv (r_ld rfl isAgg22 (hS5.cell0 (i := 0) ⟨rfl, rfl⟩ (j := 1) rfl)) (wl rfl (bsS (r := (rInt .u32)) (l := ([u1.Val] : List Int)) (css := [[.int .u32 u1.Val]]) hS5 underlying26 sizeOf22 zeroValue22 rfl rfl (by kernel_rfl) rfl ⟨rfl, trivial⟩ rfl rfl fun w5 a4 n3 c4 im5 hS6 => ?_)))))
    obtain ⟨z_1, hro1, hm⟩ := bindS hm
    refine wl rfl (apO (q := 2) (l := x1) (us := ([u1.Val] : List Int)) hS6 ⟨rfl, rfl⟩ rfl rfl (hS6.own (i := 0) ⟨rfl, rfl⟩).v underlying26 el22 (room_some hro1) fun w6 a5 n4 c5 im6 hS7 => ?_)
    refine pv (r_zs rfl) (nil (t_blk (t_then ?_)))
    have hm := oI hm; subst hm
    exact rg (pv (r_ib rfl rfl rfl) (pv (r_mi rfl) (nil (t_then ⟨m1, Nat.lt_succ_self _, _, _, (x1 ++ ([u1.Val] : List Int)), _, _, _, (IntKind.wrap .i64 (x2 + 1)), env_has ⟨rfl, rfl, rfl, rfl, trivial⟩, ch, hS7.sel [2, 3, 4] rfl, hn1⟩))))
  have hm := cfalse hb1 hm
  have hm := oI hm; subst hm
  have hn1 : _ = Lp.brk _ := hn1
  subst hn1
  have hm := thn_brk hq1
  refine xt (x_then (x_then (x_eq (t_then ?_))))
  refine sq2 (rg (pv (r_ms rfl) (pv (r_zs rfl) (nil (t_then ?_)))))
  have hm := oI hm; subst hm
  exact rtn (ret1 rfl rfl ⟨_, rfl, _, ch, ⟨_, _, _, rfl, hS3.sel [1, 0] rfl, trivial⟩⟩)

theorem record_Orderly_sim {p0 : List GRecord} {a1 : OA} {c1 : Nat} {r : Bool} (hS : Sep g T0 w0 [R]) (h1 : SlR rGRecord T0 w0 (sv a1 p0 c1) p0) (hm : record_Orderly p0 = some r) :
    Calls Tryz.prog 14 #[sv a1 p0 c1] w0 (RetS T0 w0 fun T w v => v = .bool r ∧ Sep g T w [R] ∧ True) := by
  refine enter (args := [sv a1 p0 c1]) Tryz.func14 rfl Tryz.ntmps14 rfl fun J => ?_
  unfold record_Orderly at hm
  refine sq2 (rg (pv (r_zb rfl) (nil (t_then ?_))))
  refine sq2 (rg (pv (r_zs rfl) (nil (t_then ?_))))
  refine sq2 (sq2 (rg (pv (r_ms rfl) (pv (r_ln rfl underlying23) (pv (r_mi rfl) (nil (t_then ?_)))))))
  obtain ⟨o1, ho1, hq1⟩ := bindS hm
  obtain ⟨bd1, hbd1, ho1⟩ := loop_open ho1
  have hS1 := hS.nilO (rInt .u32) 22
  refine blk (wp_loop_ghost (fun m a w1 => ∃ (J : JV) (T1 : TP) (x1 : List Int) (a2 : OA) (n1 : Nat) (c2 : Nat) (x2 : Int), a = env (nf 41) J [(3, .slice a2 n1 c2), (7, sv a1 p0 c1), (8, iv (List.length p0 : Int)), (9, iv x2)] ∧ Im T0 w0 T1 w1 ∧ Sep g T1 w1 [ownA (rInt .u32) 22 (.slice a2 n1 c2) x1, R] ∧ loopM bd1 m (x1, x2) = some o1) NN ⟨_, _, [], _, _, _, 0, env_has ⟨rfl, rfl, rfl, rfl, trivial⟩, Im.refl, hS1.sel [0, 1] rfl, ho1⟩ ?_)
  rintro m _ w1 ⟨J, T1, x1, a2, n1, c2, x2, rfl, im1, hS2, ho1⟩
  obtain ⟨m1, z1, rfl, hm, hn1⟩ := loop_round ho1
  rw [hbd1] at hm
  refine sq2 (rg (pv (r_ib rfl rfl rfl) (nil (t_then ?_))))
  refine sq2 (cnd rfl (fun hb1 => ?_) (fun hb1 => ?_))
  · have hm := ctrue hb1 hm
    refine skp (t_then ?_)
    obtain ⟨kk1, hkk1, hm⟩ := jn_open hm
    refine cut (fun a w2 => ∃ (J : JV) (T2 : TP) (x3 : List Int) (a3 : OA) (n2 : Nat) (c3 : Nat), a = env (nf 41) J [(3, .slice a3 n2 c3), (7, sv a1 p0 c1), (8, iv (List.length p0 : Int)), (9, iv x2)] ∧ Im T1 w1 T2 w2 ∧ Sep g T2 w2 [ownA (rInt .u32) 22 (.slice a3 n2 c3) x3, R] ∧ kk1 x3 = some z1) ?_ ?_
    · refine blk (sq2 ?_)
      obtain ⟨u1, hx1, hm⟩ := bindS hm
      obtain ⟨b1, of1, cs1, k1, cp1, hv1, hp1, hl1, he1, hr1, hc1, hT1⟩ := (h1.mono im1).ixT hx1 rfl
      cases rGRecord_open hr1
      refine rg (pv (r_ixe hv1 rfl underlying23 sizeOf49 hp1 hl1 he1) (pv (r_ldS rfl isAgg49 sizeOf49 rfl hc1 (cs := [.int .u32 u1.Seq, .int .u32 u1.Val])) (wl rfl (alS (zs := [.int .u32 0, .int .u32 0]) zeroValue49 rfl hS2 fun w3 b2 im3 hS3 => ?_))))
      refine wl rfl (st0B (q := 0) hS3 ⟨rfl, rfl⟩ rfl rfl rfl sizeOf49 rfl rfl rfl fun w4 im4 hS4 => ?_)
      refine nil (t_then ?_)
      refine sq2 (rg (pv (r_ms rfl) (pv (r_lnV rfl (hS4.own (i := 1) ⟨rfl, rfl⟩).v underlying26) (pv (r_cv rfl underlying3 underlying22) (pv (r_zi rfl) (nil (t_then ?_)))))))
      refine blk (sq2 (rg (pv (r_fa rfl underlying49 rfl sizeOf22 rfl) (pv (r_ld rfl isAgg22 (hS4.cell0 (i := 0) ⟨rfl, rfl⟩ (j := 0) rfl)) (pv (r_mi rfl) (pv (r_ib rfl rfl rfl) (pv (r_zb rfl) (nil (t_then ?_)))))))))
      refine cnd rfl (fun hb2 => ?_) (fun hb2 => ?_)
      · have hm := ctrue hb2 hm
        refine sq2 (rg (pv (r_zb rfl) (nil (t_then ?_))))
        have hm := oI hm; subst hm
        have hn1 : _ = Lp.ret _ := hn1
        subst hn1
        have hm := thn_ret hq1
        have hm := oI hm; subst hm
        exact rtn (r_blk (r_blk (r_then (r_then (r_blk (r_then (ret1 rfl rfl ⟨_, rfl, _, ch, ⟨rfl, hS4.sel [2] rfl, trivial⟩⟩)))))))
      have hm := cfalse hb2 hm
      refine sq2 (rg (pv (r_fa rfl underlying49 rfl sizeOf22 rfl) (pv (r_ld rfl isAgg22 (hS4.cell0 (i := 0) ⟨rfl, rfl⟩ (j := 0) rfl)) (pv (r_mi rfl) (pv (r_ib rfl rfl rfl) (pv (r_zb rfl) (nil (t_then ?_))))))))
      refine cnd rfl (fun hb3 => ?_) (fun hb3 => ?_)
      · have hm := ctrue hb3 hm
        refine rg (pv (r_ms rfl) (pv (r_fa rfl underlying49 rfl sizeOf22 rfl) (pv (r_ld rfl isAgg22 (hS4.cell0 (i := 0) ⟨rfl, rfl⟩ (j := 1) rfl)) (wl rfl (bsS (r := (rInt .u32)) (l := ([u1.Val] : List Int)) (css := [[.int .u32 u1.Val]]) hS4 underlying26 sizeOf22 zeroValue22 rfl rfl (by kernel_rfl) rfl ⟨rfl, trivial⟩ rfl rfl fun w5 a4 n3 c4 im5 hS5 => ?_)))))
        obtain ⟨z_1, hro1, hm⟩ := bindS hm
        refine wl rfl (apO (q := 2) (l := x1) (us := ([u1.Val] : List Int)) hS5 ⟨rfl, rfl⟩ rfl rfl (hS5.own (i := 0) ⟨rfl, rfl⟩).v underlying26 el22 (room_some hro1) fun w6 a5 n4 c5 im6 hS6 => ?_)
        exact pv (r_zs rfl) (nil (t_blk (t_blk (t_then ⟨_, _, (x1 ++ ([u1.Val] : List Int)), _, _, _, env_has ⟨rfl, rfl, rfl, rfl, trivial⟩, ch, hS6.sel [2, 3] rfl, hm⟩))))
      have hm := cfalse hb3 hm
      refine sq2 ?_
      obtain ⟨u2, hx2, hm⟩ := bindS hm
      obtain ⟨b3, of2, cs2, k2, cp2, hv2, hp2, hl2, he2, hr2, hc2⟩ := (hS4.own (i := 1) ⟨rfl, rfl⟩).v.ixq hx2 rfl
      cases hr2
      refine rq mix (by kernel_rfl) hS4.lt (qv (fun _ hq => r_ms rfl) (qv (fun _ hq => r_fa rfl underlying49 rfl sizeOf22 rfl) (qv (fun _ hq => r_ld rfl isAgg22 (hq.cell (hS4.cell0 (i := 0) ⟨rfl, rfl⟩ (j := 0) rfl))) (qv (fun _ hq => r_ixe hv2 rfl underlying26 sizeOf22 hp2 hl2 he2) (qv (fun _ hq => r_ld rfl isAgg22 (hq.cell (hc2.get (j := 0) rfl))) (qv (fun _ hq => r_fa rfl underlying49 rfl sizeOf22 rfl) (qv (fun _ hq => r_ld rfl isAgg22 (hq.cell (hS4.cell0 (i := 0) ⟨rfl, rfl⟩ (j := 1) rfl))) (qv (fun _ hq => r_ib rfl rfl rfl) (qv (fun _ hq => r_zb rfl) (qn fun w7 T3 i1 => ?_))))))))))
      have im7 := i1.imm
      have hS7 := hS4.keep i1 (fun _ h => h)
      refine t_thenR [(3, .slice a2 n1 c2), (7, sv a1 p0 c1), (8, iv (List.length p0 : Int)), (9, iv x2), (31, .bool (u2 != u1.Val))] ⟨rfl, rfl, rfl, rfl, rfl, trivial⟩ fun J => ?_
      refine cnd rfl (fun hb4 => ?_) (fun hb4 => ?_)
      · have hm := ctrue hb4 hm
        refine sq2 (rg (pv (r_zb rfl) (nil (t_then ?_))))
        have hm := oI hm; subst hm
        have hn1 : _ = Lp.ret _ := hn1
        subst hn1
        have hm := thn_ret hq1
        have hm := oI hm; subst hm
        exact rtn (r_blk (r_blk (r_then (r_then (r_blk (r_then (ret1 rfl rfl ⟨_, rfl, _, ch, ⟨rfl, hS7.sel [2] rfl, trivial⟩⟩)))))))
      have hm := cfalse hb4 hm
      exact skp (t_blk (t_blk (t_then ⟨_, _, x1, _, _, _, env_has ⟨rfl, rfl, rfl, rfl, trivial⟩, ch, hS7.sel [1, 2] rfl, hm⟩)))
    rintro _ w2 ⟨J, T2, x3, a3, n2, c3, rfl, im2, hS8, hm⟩
    rw [hkk1] at hm
    have hm := oI hm; subst hm
    exact rg (pv (r_ib rfl rfl rfl) (pv (r_mi rfl) (nil (t_then ⟨m1, Nat.lt_succ_self _, _, _, x3, _, _, _, (IntKind.wrap .i64 (x2 + 1)), env_has ⟨rfl, rfl, rfl, rfl, trivial⟩, ch, hS8.sel [0, 1] rfl, hn1⟩))))
  have hm := cfalse hb1 hm
  have hm := oI hm; subst hm
  have hn1 : _ = Lp.brk _ := hn1
  subst hn1
  have hm := thn_brk hq1
  refine xt (x_then (x_then (x_eq (t_then ?_))))
  refine sq2 (rg (pv (r_zb rfl) (nil (t_then ?_))))
  have hm := oI hm; subst hm
  exact rtn (ret1 rfl rfl ⟨_, rfl, _, im1, ⟨rfl, hS2.sel [1] rfl, trivial⟩⟩)

theorem play_Told_sim {p0 : GPlay} {a1 : OA} {c1 : Nat} {r : Outcome} (hS : Sep g T0 w0 [R]) (h1 : SlR rGRecord T0 w0 (sv a1 p0.Log c1) p0.Log) (hm : play_Told p0 = some r) :
    Calls Tryz.prog 5 #[.agg (cGPlay p0 a1 c1).toArray] w0 (RetS T0 w0 fun T w v => ∃ (a3 : OA) (c3 : Nat), v = .agg #[sv a3 r.Out c3, iv r.Ins, .int .u32 r.Exit, iv r.E] ∧ Sep g T w [R] ∧ SlR (rInt .u32) T w (sv a3 r.Out c3) r.Out ∧ True) := by
  refine enter (args := [.agg (cGPlay p0 a1 c1).toArray]) Tryz.func5 rfl Tryz.ntmps5 rfl fun J => ?_
  unfold play_Told at hm
  refine sq2 (rg (wl rfl (bxS (cs := (cGPlay p0 a1 c1)) rfl rfl hS fun w1 b1 im1 hS1 => ?_)))
  refine wl rfl (alS (zs := [.slice none 0 0, iv 0, .int .u32 0, iv 0]) zeroValue29 rfl hS1 fun w2 b2 im2 hS2 => ?_)
  refine nil (t_then ?_)
  refine sq2 ?_
  obtain ⟨y1, hx1, hm⟩ := bindS hm
  refine rg (pv (r_fa rfl underlying25 rfl sizeOf23 rfl) (pv (r_ld rfl isAgg23 (hS2.cell0 (i := 1) ⟨rfl, rfl⟩ (j := 3) rfl)) (wl rfl (calS cf13 rfl (record_Values_sim (p0 := p0.Log) (hS2.bun [0, 1, 2] [] rfl) (h1.mono ch) hx1) rfl fun v1 T1 w3 im3 rv1 => ?_))))
  obtain ⟨a2, n1, c2, rfl, hS3, _⟩ := rv1
  have hS3 := hS3.unb
  refine pv (r_bd (by kernel_rfl) rfl (u := .agg #[.slice a2 n1 c2, iv 0, .int .u32 0, iv 0])) (wl rfl (alS (zs := [.slice none 0 0, iv 0, .int .u32 0, iv 0]) zeroValue29 rfl hS3 fun w4 b3 im4 hS4 => ?_))
  refine wl rfl (st0B (q := 0) hS4 ⟨rfl, rfl⟩ rfl rfl rfl sizeOf29 rfl rfl rfl fun w5 im5 hS5 => ?_)
  refine nil (t_then ?_)
  obtain ⟨kk1, hkk1, hm⟩ := jn_open hm
  refine cut (fun a w6 => ∃ (J : JV) (T2 : TP) (x2 : Outcome), a = env (nf 43) J [(2, pt b2 0), (3, pt b3 0)] ∧ Im T1 w5 T2 w6 ∧ Sep g T2 w6 [boxA b3 [.slice a2 n1 c2, iv x2.Ins, .int .u32 x2.Exit, iv x2.E], boxA b2 [.slice none 0 0, iv 0, .int .u32 0, iv 0], R, ownA (rInt .u32) 22 (.slice a2 n1 c2) x2.Out] ∧ kk1 x2 = some r) ?_ ?_
  · refine blk (sq2 ?_)
    obtain ⟨y2, hx2, hm⟩ := bindS hm
    refine rg (pv (r_fa rfl underlying25 rfl sizeOf23 rfl) (pv (r_ld rfl isAgg23 (hS5.cell0 (i := 2) ⟨rfl, rfl⟩ (j := 3) rfl)) (wl rfl (calS cf14 rfl (record_Orderly_sim (p0 := p0.Log) (hS5.bun [0, 1, 2, 3, 4] [] rfl) (h1.mono ch) hx2) rfl fun v2 T3 w7 im7 rv2 => ?_))))
    obtain ⟨rfl, hS6, _⟩ := rv2
    have hS6 := hS6.unb
    refine pv (r_nt rfl) (pv (r_zb rfl) (nil (t_then ?_)))
    refine cnd rfl (fun hb1 => ?_) (fun hb1 => ?_)
    · have hm := ctrue hb1 hm
      refine rg (pv (r_fa rfl underlying29 rfl sizeOf27 rfl) (wl rfl (st0B (q := 0) hS6 ⟨rfl, rfl⟩ rfl rfl rfl sizeOf27 rfl rfl rfl fun w8 im8 hS7 => ?_)))
      exact nil (t_blk (t_then ⟨_, _, (⟨y1, 0, 0, 10⟩ : Outcome), env_has ⟨rfl, rfl, trivial⟩, ch, hS7.sel [0, 1, 3, 4] rfl, hm⟩))
    have hm := cfalse hb1 hm
    refine sq2 (rg (pv (r_fa rfl underlying25 rfl sizeOf3 rfl) (pv (r_ld rfl isAgg3 (hS6.cell0 (i := 2) ⟨rfl, rfl⟩ (j := 0) rfl)) (pv (r_ib rfl rfl rfl) (pv (r_zb rfl) (nil (t_then ?_)))))))
    refine cnd rfl (fun hb2 => ?_) (fun hb2 => ?_)
    · have hm := ctrue hb2 hm
      refine rg (pv (r_fa rfl underlying29 rfl sizeOf27 rfl) (wl rfl (st0B (q := 0) hS6 ⟨rfl, rfl⟩ rfl rfl rfl sizeOf27 rfl rfl rfl fun w9 im9 hS8 => ?_)))
      exact nil (t_blk (t_then ⟨_, _, (⟨y1, 0, 0, 16⟩ : Outcome), env_has ⟨rfl, rfl, trivial⟩, ch, hS8.sel [0, 1, 3, 4] rfl, hm⟩))
    have hm := cfalse hb2 hm
    obtain ⟨kk2, hkk2, hm⟩ := jn_open hm
    refine cut (fun a w10 => ∃ (J : JV) (T4 : TP) (x3 : Bool), a = env (nf 43) J [(1, pt b1 0), (2, pt b2 0), (3, pt b3 0), (20, .bool x3)] ∧ Im T3 w7 T4 w10 ∧ Sep g T4 w10 [boxA b3 [.slice a2 n1 c2, iv 0, .int .u32 0, iv 0], boxA b2 [.slice none 0 0, iv 0, .int .u32 0, iv 0], boxA b1 (cGPlay p0 a1 c1), R, ownA (rInt .u32) 22 (.slice a2 n1 c2) y1] ∧ kk2 x3 = some r) ?_ ?_
    · refine rg (pv (r_fa rfl underlying25 rfl sizeOf3 rfl) (pv (r_ld rfl isAgg3 (hS6.cell0 (i := 2) ⟨rfl, rfl⟩ (j := 0) rfl)) (pv (r_ib rfl rfl rfl) (pv (r_mb rfl) (?_)))))
      refine fk (d := 28) (c := ((p0.State == 1) && (decide (p0.Exit < 256)))) 4 [(1, pt b1 0), (2, pt b2 0), (3, pt b3 0)] (fun hk => ?_) fun J => ?_
      · rcases Bool.eq_false_or_eq_true (p0.State == 1) with hb3 | hb3
        · exact gT (d0 := 24) rfl rfl hb3 (pv (r_fa rfl underlying25 rfl sizeOf22 rfl) (gT (d0 := 24) rfl rfl hb3 (pv (r_ld rfl isAgg22 (hS6.cell0 (i := 2) ⟨rfl, rfl⟩ (j := 1) rfl)) (gT (d0 := 24) rfl rfl hb3 (pv (r_ib rfl rfl rfl) (pv (r_pkt rfl hb3 rfl) (wlR (fun J => hk J _ (by rw [hb3]; rfl)) ⟨rfl, rfl, rfl, rfl, trivial⟩)))))))
        exact gF3 (d0 := 24) rfl rfl (by rw [hb3]; rfl) (pv (r_pkf rfl hb3 rfl) (wlR (fun J => hk J _ (by rw [hb3]; rfl)) ⟨rfl, rfl, rfl, rfl, trivial⟩))
      exact pv (r_zb rfl) (nil (t_then ⟨_, _, ((p0.State == 1) && (decide (p0.Exit < 256))), env_has ⟨rfl, rfl, rfl, rfl, trivial⟩, Im.refl, hS6.sel [0, 1, 2, 3, 4] rfl, hm⟩))
    rintro _ w10 ⟨J, T4, x3, rfl, im10, hS9, hm⟩
    rw [hkk2] at hm
    refine cnd rfl (fun hb4 => ?_) (fun hb4 => ?_)
    · have hm := ctrue hb4 hm
      refine rg (pv (r_fa rfl underlying25 rfl sizeOf22 rfl) (pv (r_ld rfl isAgg22 (hS9.cell0 (i := 2) ⟨rfl, rfl⟩ (j := 1) rfl)) (pv (r_fa rfl underlying29 rfl sizeOf22 rfl) (wl rfl (st0B (q := 0) hS9 ⟨rfl, rfl⟩ rfl rfl rfl sizeOf22 rfl rfl rfl fun w11 im11 hS10 => ?_)))))
      exact nil (t_blk (t_then ⟨_, _, (⟨y1, 0, p0.Exit, 0⟩ : Outcome), env_has ⟨rfl, rfl, trivial⟩, ch, hS10.sel [0, 1, 3, 4] rfl, hm⟩))
    have hm := cfalse hb4 hm
    refine sq2 (rg (pv (r_fa rfl underlying25 rfl sizeOf3 rfl) (pv (r_ld rfl isAgg3 (hS9.cell0 (i := 2) ⟨rfl, rfl⟩ (j := 0) rfl)) (pv (r_ib rfl rfl rfl) (pv (r_mb rfl) (?_))))))
    refine fk (d := 40) (c := ((p0.State == 1) && (p0.Exit == 256))) 4 [(2, pt b2 0), (3, pt b3 0)] (fun hk => ?_) fun J => ?_
    · rcases Bool.eq_false_or_eq_true (p0.State == 1) with hb5 | hb5
      · exact gT (d0 := 36) rfl rfl hb5 (pv (r_fa rfl underlying25 rfl sizeOf22 rfl) (gT (d0 := 36) rfl rfl hb5 (pv (r_ld rfl isAgg22 (hS9.cell0 (i := 2) ⟨rfl, rfl⟩ (j := 1) rfl)) (gT (d0 := 36) rfl rfl hb5 (pv (r_ib rfl rfl rfl) (pv (r_pkt rfl hb5 rfl) (wlR (fun J => hk J _ (by rw [hb5]; rfl)) ⟨rfl, rfl, rfl, trivial⟩)))))))
      exact gF3 (d0 := 36) rfl rfl (by rw [hb5]; rfl) (pv (r_pkf rfl hb5 rfl) (wlR (fun J => hk J _ (by rw [hb5]; rfl)) ⟨rfl, rfl, rfl, trivial⟩))
    refine pv (r_zb rfl) (nil (t_then ?_))
    refine cnd rfl (fun hb6 => ?_) (fun hb6 => ?_)
    · have hm := ctrue hb6 hm
      refine rg (pv (r_fa rfl underlying29 rfl sizeOf27 rfl) (wl rfl (st0B (q := 0) hS9 ⟨rfl, rfl⟩ rfl rfl rfl sizeOf27 rfl rfl rfl fun w12 im12 hS11 => ?_)))
      exact nil (t_blk (t_then ⟨_, _, (⟨y1, 0, 0, 8⟩ : Outcome), env_has ⟨rfl, rfl, trivial⟩, ch, hS11.sel [0, 1, 3, 4] rfl, hm⟩))
    have hm := cfalse hb6 hm
    refine rg (pv (r_fa rfl underlying29 rfl sizeOf27 rfl) (wl rfl (st0B (q := 0) hS9 ⟨rfl, rfl⟩ rfl rfl rfl sizeOf27 rfl rfl rfl fun w13 im13 hS12 => ?_)))
    exact nil (t_blk (t_then ⟨_, _, (⟨y1, 0, 0, 10⟩ : Outcome), env_has ⟨rfl, rfl, trivial⟩, ch, hS12.sel [0, 1, 3, 4] rfl, hm⟩))
  rintro _ w6 ⟨J, T2, x2, rfl, im6, hS13, hm⟩
  rw [hkk1] at hm
  refine sq2 (rg (pv (r_ldS rfl isAgg29 sizeOf29 rfl (hS13.cells0 (i := 0) ⟨rfl, rfl⟩ (o := 0) rfl) (cs := [.slice a2 n1 c2, iv x2.Ins, .int .u32 x2.Exit, iv x2.E])) (wl rfl (st0B (q := 1) hS13 ⟨rfl, rfl⟩ rfl rfl rfl sizeOf29 rfl rfl rfl fun w14 im14 hS14 => ?_))))
  refine nil (t_then ?_)
  obtain ⟨T5, im15, hS15, h2⟩ := hS14.seal 3 ⟨rfl, rfl⟩
  have hsh := h2.len
  subst hsh
  have hm := oI hm; subst hm
  exact rtn (retN (vs := [.agg #[sv a2 x2.Out c2, iv x2.Ins, .int .u32 x2.Exit, iv x2.E]]) rfl ⟨rvS rfl isAgg29 sizeOf29 rfl (hS15.bx (i := 1) ⟨rfl, rfl⟩), trivial⟩ rfl ⟨_, rfl, _, ch, ⟨_, _, rfl, hS15.sel [2] rfl, h2, trivial⟩⟩)

theorem law04_Ref_sim {p0 : List GRecord} {a1 : OA} {c1 : Nat} {r : (List GRecord)} (hS : Sep g T0 w0 [R]) (h1 : SlR rGRecord T0 w0 (sv a1 p0 c1) p0) (hm : law04_Ref p0 = some r) :
    Calls Tryz.prog 6 #[sv a1 p0 c1] w0 (RetS T0 w0 fun T w v => ∃ (a5 : OA) (n4 : Nat) (c5 : Nat), v = .slice a5 n4 c5 ∧ Sep g T w [R, ownA rGRecord 37 (.slice a5 n4 c5) r] ∧ True) := by
  refine enter (args := [sv a1 p0 c1]) Tryz.func6 rfl Tryz.ntmps6 rfl fun J => ?_
  unfold law04_Ref at hm
  refine sq2 (rg (pv (r_zs rfl) (nil (t_then ?_))))
  refine sq2 (rg (pv (r_zs rfl) (nil (t_then ?_))))
  refine sq2 (sq2 (rg (pv (r_zi rfl) (nil (t_then ?_)))))
  obtain ⟨o1, ho1, hq1⟩ := bindS hm
  obtain ⟨bd1, hbd1, ho1⟩ := loop_open ho1
  have hS1 := hS.nilO rGRecord 37
  refine blk (wp_loop_ghost (fun m a w1 => ∃ (J : JV) (T1 : TP) (x1 : List GRecord) (a2 : OA) (n1 : Nat) (c2 : Nat) (x2 : Int), a = env (nf 19) J [(0, sv a1 p0 c1), (3, .slice a2 n1 c2), (4, iv x2)] ∧ Im T0 w0 T1 w1 ∧ Sep g T1 w1 [ownA rGRecord 37 (.slice a2 n1 c2) x1, R] ∧ loopM bd1 m (x1, x2) = some o1) NN ⟨_, _, [], _, _, _, 0, env_has ⟨rfl, rfl, rfl, trivial⟩, Im.refl, hS1.sel [0, 1] rfl, ho1⟩ ?_)
  rintro m _ w1 ⟨J, T1, x1, a2, n1, c2, x2, rfl, im1, hS2, ho1⟩
  obtain ⟨m1, z1, rfl, hm, hn1⟩ := loop_round ho1
  rw [hbd1] at hm
  refine sq2 (sq2 (rg (pv (r_mi rfl) (pv (r_ms rfl) (pv (r_ln rfl underlying23) (pv (r_ib rfl rfl rfl) (nil (t_then ?_))))))))
  refine cnd rfl (fun hb1 => ?_) (fun hb1 => ?_)
  · have hm := ctrue hb1 hm
    refine skp (t_then ?_)
    refine sq2 (blk ?_)
    obtain ⟨u1, hx1, hm⟩ := bindS hm
    obtain ⟨b1, of1, cs1, k1, cp1, hv1, hp1, hl1, he1, hr1, hc1, hT1⟩ := (h1.mono im1).ixT hx1 rfl
    cases rGRecord_open hr1
    refine rg (pv (r_ms rfl) (pv (r_ms rfl) (pv (r_mi rfl) (pv (r_ixe hv1 rfl underlying23 sizeOf49 hp1 hl1 he1) (pv (r_ldS rfl isAgg49 sizeOf49 rfl hc1 (cs := [.int .u32 u1.Seq, .int .u32 u1.Val])) (wl rfl (bsS (r := rGRecord) (l := ([u1] : List GRecord)) (css := [[.int .u32 u1.Seq, .int .u32 u1.Val]]) hS2 underlying32 sizeOf37 zeroValue37 rfl rfl (by kernel_rfl) rfl ⟨(rGRecord_mk (x := u1)  : rGRecord.rp _ _ _ _), trivial⟩ rfl rfl fun w2 a3 n2 c3 im2 hS3 => ?_)))))))
    obtain ⟨z_1, hro1, hm⟩ := bindS hm
    refine wl rfl (apO (q := 1) (l := x1) (us := ([u1] : List GRecord)) hS3 ⟨rfl, rfl⟩ rfl rfl (hS3.own (i := 0) ⟨rfl, rfl⟩).v underlying32 el37 (room_some hro1) fun w3 a4 n3 c4 im3 hS4 => ?_)
    refine pv (r_zs rfl) (nil (t_blk (t_then ?_)))
    have hm := oI hm; subst hm
    exact rg (pv (r_mi rfl) (pv (r_ib rfl rfl rfl) (pv (r_zi rfl) (nil (t_then ⟨m1, Nat.lt_succ_self _, _, _, (x1 ++ ([u1] : List GRecord)), _, _, _, (IntKind.wrap .i64 (x2 + 1)), env_has ⟨rfl, rfl, rfl, trivial⟩, ch, hS4.sel [1, 2] rfl, hn1⟩)))))
  have hm := cfalse hb1 hm
  have hm := oI hm; subst hm
  have hn1 : _ = Lp.brk _ := hn1
  subst hn1
  have hm := thn_brk hq1
  refine xt (x_then (x_then (x_eq (t_then ?_))))
  refine sq2 (rg (pv (r_ms rfl) (pv (r_zs rfl) (nil (t_then ?_)))))
  have hm := oI hm; subst hm
  exact rtn (ret1 rfl rfl ⟨_, rfl, _, im1, ⟨_, _, _, rfl, hS2.sel [1, 0] rfl, trivial⟩⟩)

theorem ref04_ahead_sim {p0 : List GRecord} {a1 : OA} {c1 : Nat} {p1 : Int} {r : Int} (hS : Sep g T0 w0 [R]) (h1 : SlR rGRecord T0 w0 (sv a1 p0 c1) p0) (hm : ref04_ahead p0 p1 = some r) :
    Calls Tryz.prog 15 #[sv a1 p0 c1, iv p1] w0 (RetS T0 w0 fun T w v => v = iv r ∧ Sep g T w [R] ∧ True) := by
  refine enter (args := [sv a1 p0 c1, iv p1]) Tryz.func15 rfl Tryz.ntmps15 rfl fun J => ?_
  unfold ref04_ahead at hm
  refine sq2 (rg (pv (r_zi rfl) (nil (t_then ?_))))
  refine sq2 (sq2 (rg (pv (r_zi rfl) (nil (t_then ?_)))))
  obtain ⟨o1, ho1, hq1⟩ := bindS hm
  obtain ⟨bd1, hbd1, ho1⟩ := loop_open ho1
  refine blk (wp_loop_ghost (fun m a w1 => ∃ (J : JV) (T1 : TP) (x1 : Int), a = env (nf 23) J [(0, sv a1 p0 c1), (1, iv p1), (5, iv x1)] ∧ Im T0 w0 T1 w1 ∧ Sep g T1 w1 [R] ∧ loopM bd1 m x1 = some o1) NN ⟨_, _, 0, env_has ⟨rfl, rfl, rfl, trivial⟩, Im.refl, hS.sel [0] rfl, ho1⟩ ?_)
  rintro m _ w1 ⟨J, T1, x1, rfl, im1, hS1, ho1⟩
  obtain ⟨m1, z1, rfl, hm, hn1⟩ := loop_round ho1
  rw [hbd1] at hm
  refine sq2 (sq2 (rg (pv (r_mi rfl) (pv (r_mi rfl) (pv (r_ib rfl rfl rfl) (nil (t_then ?_)))))))
  refine cnd rfl (fun hb1 => ?_) (fun hb1 => ?_)
  · have hm := ctrue hb1 hm
    refine skp (t_then ?_)
    refine sq2 (blk (sq2 ?_))
    obtain ⟨u1, hx1, hm⟩ := bindS hm
    obtain ⟨b1, of1, cs1, k1, cp1, hv1, hp1, hl1, he1, hr1, hc1, hT1⟩ := (h1.mono im1).ixT hx1 rfl
    cases rGRecord_open hr1
    obtain ⟨u2, hx2, hm⟩ := bindS hm
    obtain ⟨b2, of2, cs2, k2, cp2, hv2, hp2, hl2, he2, hr2, hc2, hT2⟩ := (h1.mono im1).ixT hx2 rfl
    cases rGRecord_open hr2
    refine rq mix (by kernel_rfl) hS1.lt (qv (fun _ hq => r_ms rfl) (qv (fun _ hq => r_mi rfl) (qv (fun _ hq => r_ixe hv1 rfl underlying32 sizeOf37 hp1 hl1 he1) (qv (fun _ hq => r_fa rfl underlying37 rfl sizeOf22 rfl) (qv (fun _ hq => r_ld rfl isAgg22 (hq.cell (hc1.get (j := 0) rfl))) (qv (fun _ hq => r_ms rfl) (qv (fun _ hq => r_mi rfl) (qv (fun _ hq => r_ixe hv2 rfl underlying32 sizeOf37 hp2 hl2 he2) (qv (fun _ hq => r_fa rfl underlying37 rfl sizeOf22 rfl) (qv (fun _ hq => r_ld rfl isAgg22 (hq.cell (hc2.get (j := 0) rfl))) (qv (fun _ hq => r_ib rfl rfl rfl) (qn fun w2 T2 i1 => ?_))))))))))))
    have im2 := i1.imm
    have hS2 := hS1.keep i1 (fun _ h => h)
    refine t_then ?_
    refine cnd rfl (fun hb2 => ?_) (fun hb2 => ?_)
    · have hm := ctrue hb2 hm
      refine sq2 (rg (pv (r_mi rfl) (pv (r_zi rfl) (nil (t_then ?_)))))
      have hm := oI hm; subst hm
      have hn1 : _ = Lp.ret _ := hn1
      subst hn1
      have hm := thn_ret hq1
      have hm := oI hm; subst hm
      exact rtn (r_blk (r_then (r_then (r_blk (r_then (ret1 rfl rfl ⟨_, rfl, _, ch, ⟨rfl, hS2.sel [0] rfl, trivial⟩⟩))))))
    have hm := cfalse hb2 hm
    refine skp (t_blk (t_then ?_))
    have hm := oI hm; subst hm
    exact rg (pv (r_mi rfl) (pv (r_ib rfl rfl rfl) (pv (r_zi rfl) (nil (t_then ⟨m1, Nat.lt_succ_self _, _, _, (IntKind.wrap .i64 (x1 + 1)), env_has ⟨rfl, rfl, rfl, trivial⟩, ch, hS2.sel [0] rfl, hn1⟩)))))
  have hm := cfalse hb1 hm
  have hm := oI hm; subst hm
  have hn1 : _ = Lp.brk _ := hn1
  subst hn1
  have hm := thn_brk hq1
  refine xt (x_then (x_then (x_eq (t_then ?_))))
  refine sq2 (rg (pv (r_zi rfl) (nil (t_then ?_))))
  have hm := oI hm; subst hm
  exact rtn (ret1 rfl rfl ⟨_, rfl, _, im1, ⟨rfl, hS1.sel [0] rfl, trivial⟩⟩)

theorem ref04_First_sim {p0 : List GRecord} {a1 : OA} {c1 : Nat} {r : (List GRecord)} (hS : Sep g T0 w0 [R]) (h1 : SlR rGRecord T0 w0 (sv a1 p0 c1) p0) (hm : ref04_First p0 = some r) :
    Calls Tryz.prog 7 #[sv a1 p0 c1] w0 (RetS T0 w0 fun T w v => ∃ (a6 : OA) (n5 : Nat) (c6 : Nat), v = .slice a6 n5 c6 ∧ Sep g T w [R, ownA rGRecord 37 (.slice a6 n5 c6) r] ∧ True) := by
  refine enter (args := [sv a1 p0 c1]) Tryz.func7 rfl Tryz.ntmps7 rfl fun J => ?_
  unfold ref04_First at hm
  refine sq2 (rg (pv (r_zs rfl) (nil (t_then ?_))))
  refine sq2 (rg (pv (r_zs rfl) (nil (t_then ?_))))
  refine sq2 (sq2 (rg (pv (r_zi rfl) (nil (t_then ?_)))))
  obtain ⟨o1, ho1, hq1⟩ := bindS hm
  obtain ⟨bd1, hbd1, ho1⟩ := loop_open ho1
  have hS1 := hS.nilO rGRecord 37
  refine blk (wp_loop_ghost (fun m a w1 => ∃ (J : JV) (T1 : TP) (x1 : List GRecord) (a2 : OA) (n1 : Nat) (c2 : Nat) (x2 : Int), a = env (nf 23) J [(0, sv a1 p0 c1), (3, .slice a2 n1 c2), (4, iv x2)] ∧ Im T0 w0 T1 w1 ∧ Sep g T1 w1 [ownA rGRecord 37 (.slice a2 n1 c2) x1, R] ∧ loopM bd1 m (x1, x2) = some o1) NN ⟨_, _, [], _, _, _, 0, env_has ⟨rfl, rfl, rfl, trivial⟩, Im.refl, hS1.sel [0, 1] rfl, ho1⟩ ?_)
  rintro m _ w1 ⟨J, T1, x1, a2, n1, c2, x2, rfl, im1, hS2, ho1⟩
  obtain ⟨m1, z1, rfl, hm, hn1⟩ := loop_round ho1
  rw [hbd1] at hm
  refine sq2 (sq2 (rg (pv (r_mi rfl) (pv (r_ms rfl) (pv (r_ln rfl underlying32) (pv (r_ib rfl rfl rfl) (nil (t_then ?_))))))))
  refine cnd rfl (fun hb1 => ?_) (fun hb1 => ?_)
  · have hm := ctrue hb1 hm
    refine skp (t_then ?_)
    obtain ⟨kk1, hkk1, hm⟩ := jn_open hm
    refine cut (fun a w2 => ∃ (J : JV) (T2 : TP) (x3 : List GRecord) (a3 : OA) (n2 : Nat) (c3 : Nat), a = env (nf 23) J [(0, sv a1 p0 c1), (3, .slice a3 n2 c3), (4, iv x2)] ∧ Im T1 w1 T2 w2 ∧ Sep g T2 w2 [ownA rGRecord 37 (.slice a3 n2 c3) x3, R] ∧ kk1 x3 = some z1) ?_ ?_
    · refine blk (sq2 ?_)
      obtain ⟨y1, hx1, hm⟩ := bindS hm
      refine rg (pv (r_ms rfl) (pv (r_mi rfl) (wl rfl (calS cf15 rfl (ref04_ahead_sim (p0 := p0) (p1 := x2) (hS2.bun [0, 1] [] rfl) (h1.mono im1) hx1) rfl fun v1 T3 w3 im3 rv1 => ?_))))
      obtain ⟨rfl, hS3, _⟩ := rv1
      have hS3 := hS3.unb
      refine pv (r_ib rfl rfl rfl) (nil (t_then ?_))
      refine cnd rfl (fun hb2 => ?_) (fun hb2 => ?_)
      · have hm := ctrue hb2 hm
        obtain ⟨u1, hx2, hm⟩ := bindS hm
        obtain ⟨b1, of1, cs1, k1, cp1, hv1, hp1, hl1, he1, hr1, hc1, hT1⟩ := (h1.mono (iT im1 im3)).ixT hx2 rfl
        cases rGRecord_open hr1
        refine rg (pv (r_ms rfl) (pv (r_ms rfl) (pv (r_mi rfl) (pv (r_ixe hv1 rfl underlying32 sizeOf37 hp1 hl1 he1) (pv (r_ldS rfl isAgg37 sizeOf37 rfl hc1 (cs := [.int .u32 u1.Seq, .int .u32 u1.Val])) (wl rfl (bsS (r := rGRecord) (l := ([u1] : List GRecord)) (css := [[.int .u32 u1.Seq, .int .u32 u1.Val]]) hS3 underlying32 sizeOf37 zeroValue37 rfl rfl (by kernel_rfl) rfl ⟨(rGRecord_mk (x := u1)  : rGRecord.rp _ _ _ _), trivial⟩ rfl rfl fun w4 a4 n3 c4 im4 hS4 => ?_)))))))
        obtain ⟨z_1, hro1, hm⟩ := bindS hm
        refine wl rfl (apO (q := 1) (l := x1) (us := ([u1] : List GRecord)) hS4 ⟨rfl, rfl⟩ rfl rfl (hS4.own (i := 0) ⟨rfl, rfl⟩).v underlying32 el37 (room_some hro1) fun w5 a5 n4 c5 im5 hS5 => ?_)
        exact pv (r_zs rfl) (nil (t_blk (t_then ⟨_, _, (x1 ++ ([u1] : List GRecord)), _, _, _, env_has ⟨rfl, rfl, rfl, trivial⟩, ch, hS5.sel [1, 2] rfl, hm⟩)))
      have hm := cfalse hb2 hm
      exact skp (t_blk (t_then ⟨_, _, x1, _, _, _, env_has ⟨rfl, rfl, rfl, trivial⟩, im3, hS3.sel [0, 1] rfl, hm⟩))
    rintro _ w2 ⟨J, T2, x3, a3, n2, c3, rfl, im2, hS6, hm⟩
    rw [hkk1] at hm
    have hm := oI hm; subst hm
    exact rg (pv (r_mi rfl) (pv (r_ib rfl rfl rfl) (pv (r_zi rfl) (nil (t_then ⟨m1, Nat.lt_succ_self _, _, _, x3, _, _, _, (IntKind.wrap .i64 (x2 + 1)), env_has ⟨rfl, rfl, rfl, trivial⟩, ch, hS6.sel [0, 1] rfl, hn1⟩)))))
  have hm := cfalse hb1 hm
  have hm := oI hm; subst hm
  have hn1 : _ = Lp.brk _ := hn1
  subst hn1
  have hm := thn_brk hq1
  refine xt (x_then (x_then (x_eq (t_then ?_))))
  refine sq2 (rg (pv (r_ms rfl) (pv (r_zs rfl) (nil (t_then ?_)))))
  have hm := oI hm; subst hm
  exact rtn (ret1 rfl rfl ⟨_, rfl, _, im1, ⟨_, _, _, rfl, hS2.sel [1, 0] rfl, trivial⟩⟩)

theorem ref04_Orderly_sim {p0 : List GRecord} {a1 : OA} {c1 : Nat} {r : Bool} (hS : Sep g T0 w0 [R]) (h1 : SlR rGRecord T0 w0 (sv a1 p0 c1) p0) (hm : ref04_Orderly p0 = some r) :
    Calls Tryz.prog 8 #[sv a1 p0 c1] w0 (RetS T0 w0 fun T w v => v = .bool r ∧ Sep g T w [R] ∧ True) := by
  refine enter (args := [sv a1 p0 c1]) Tryz.func8 rfl Tryz.ntmps8 rfl fun J => ?_
  unfold ref04_Orderly at hm
  refine sq2 (rg (pv (r_zb rfl) (nil (t_then ?_))))
  refine sq2 (sq2 (rg (pv (r_zi rfl) (nil (t_then ?_)))))
  obtain ⟨o1, ho1, hq1⟩ := bindS hm
  obtain ⟨bd1, hbd1, ho1⟩ := loop_open ho1
  refine blk (wp_loop_ghost (fun m a w1 => ∃ (J : JV) (T1 : TP) (x1 : Int), a = env (nf 59) J [(0, sv a1 p0 c1), (3, iv x1)] ∧ Im T0 w0 T1 w1 ∧ Sep g T1 w1 [R] ∧ loopM bd1 m x1 = some o1) NN ⟨_, _, 0, env_has ⟨rfl, rfl, trivial⟩, Im.refl, hS.sel [0] rfl, ho1⟩ ?_)
  rintro m _ w1 ⟨J, T1, x1, rfl, im1, hS1, ho1⟩
  obtain ⟨m1, z1, rfl, hm, hn1⟩ := loop_round ho1
  rw [hbd1] at hm
  refine sq2 (sq2 (rg (pv (r_mi rfl) (pv (r_ms rfl) (pv (r_ln rfl underlying32) (pv (r_ib rfl rfl rfl) (nil (t_then ?_))))))))
  refine cnd rfl (fun hb1 => ?_) (fun hb1 => ?_)
  · have hm := ctrue hb1 hm
    refine skp (t_then ?_)
    refine sq2 (blk (sq2 (rg (pv (r_zi rfl) (nil (t_then ?_))))))
    refine sq2 (sq2 (rg (pv (r_zi rfl) (nil (t_then ?_)))))
    obtain ⟨o2, ho2, hq2⟩ := bindS hm
    obtain ⟨bd2, hbd2, ho2⟩ := loop_open ho2
    refine blk (wp_loop_ghost (fun m a w2 => ∃ (J : JV) (T2 : TP) (x2 : Int) (x3 : Int), a = env (nf 59) J [(0, sv a1 p0 c1), (3, iv x1), (4, iv x2), (5, iv x3)] ∧ Im T1 w1 T2 w2 ∧ Sep g T2 w2 [R] ∧ loopM bd2 m (x2, x3) = some o2) NN ⟨_, _, (-1), 0, env_has ⟨rfl, rfl, rfl, rfl, trivial⟩, Im.refl, hS1.sel [0] rfl, ho2⟩ ?_)
    rintro m _ w2 ⟨J, T2, x2, x3, rfl, im2, hS2, ho2⟩
    obtain ⟨m2, z2, rfl, hm, hn2⟩ := loop_round ho2
    rw [hbd2] at hm
    refine sq2 (sq2 (rg (pv (r_mi rfl) (pv (r_mi rfl) (pv (r_ib rfl rfl rfl) (nil (t_then ?_)))))))
    refine cnd rfl (fun hb2 => ?_) (fun hb2 => ?_)
    · have hm := ctrue hb2 hm
      refine skp (t_then ?_)
      obtain ⟨kk1, hkk1, hm⟩ := jn_open hm
      refine cut (fun a w3 => ∃ (J : JV) (T3 : TP) (x4 : Int), a = env (nf 59) J [(0, sv a1 p0 c1), (3, iv x1), (4, iv x4), (5, iv x3)] ∧ Im T2 w2 T3 w3 ∧ Sep g T3 w3 [R] ∧ kk1 x4 = some z2) ?_ ?_
      · refine blk (sq2 ?_)
        obtain ⟨u1, hx1, hm⟩ := bindS hm
        obtain ⟨b1, of1, cs1, k1, cp1, hv1, hp1, hl1, he1, hr1, hc1, hT1⟩ := (h1.mono (iT im1 im2)).ixT hx1 rfl
        cases rGRecord_open hr1
        refine rg (pv (r_ms rfl) (pv (r_mi rfl) (pv (r_ixe hv1 rfl underlying32 sizeOf37 hp1 hl1 he1) (pv (r_fa rfl underlying37 rfl sizeOf22 rfl) (pv (r_ld rfl isAgg22 (hc1.get (j := 0) rfl)) (pv (r_cv rfl underlying22 underlying3) (pv (r_mi rfl) (pv (r_ib rfl rfl rfl) (nil (t_then ?_))))))))))
        refine cnd rfl (fun hb3 => ?_) (fun hb3 => ?_)
        · have hm := ctrue hb3 hm
          obtain ⟨u2, hx2, hm⟩ := bindS hm
          obtain ⟨b2, of2, cs2, k2, cp2, hv2, hp2, hl2, he2, hr2, hc2, hT2⟩ := (h1.mono (iT im1 im2)).ixT hx2 rfl
          cases rGRecord_open hr2
          exact rg (pv (r_ms rfl) (pv (r_mi rfl) (pv (r_ixe hv2 rfl underlying32 sizeOf37 hp2 hl2 he2) (pv (r_fa rfl underlying37 rfl sizeOf22 rfl) (pv (r_ld rfl isAgg22 (hc2.get (j := 0) rfl)) (pv (r_cv rfl underlying22 underlying3) (pv (r_zi rfl) (nil (t_blk (t_then ⟨_, _, (IntKind.wrap .i64 u2.Seq), env_has ⟨rfl, rfl, rfl, rfl, trivial⟩, Im.refl, hS2.sel [0] rfl, hm⟩))))))))))
        have hm := cfalse hb3 hm
        exact skp (t_blk (t_then ⟨_, _, x2, env_has ⟨rfl, rfl, rfl, rfl, trivial⟩, Im.refl, hS2.sel [0] rfl, hm⟩))
      rintro _ w3 ⟨J, T3, x4, rfl, im3, hS3, hm⟩
      rw [hkk1] at hm
      have hm := oI hm; subst hm
      exact rg (pv (r_mi rfl) (pv (r_ib rfl rfl rfl) (pv (r_zi rfl) (nil (t_then ⟨m2, Nat.lt_succ_self _, _, _, x4, (IntKind.wrap .i64 (x3 + 1)), env_has ⟨rfl, rfl, rfl, rfl, trivial⟩, ch, hS3.sel [0] rfl, hn2⟩)))))
    have hm := cfalse hb2 hm
    have hm := oI hm; subst hm
    have hn2 : _ = Lp.brk _ := hn2
    subst hn2
    have hm := thn_brk hq2
    refine xt (x_then (x_then (x_eq (t_then ?_))))
    refine sq2 (sq2 ?_)
    obtain ⟨u3, hx3, hm⟩ := bindS hm
    obtain ⟨b3, of3, cs3, k3, cp3, hv3, hp3, hl3, he3, hr3, hc3, hT3⟩ := (h1.mono (iT im1 im2)).ixT hx3 rfl
    cases rGRecord_open hr3
    refine rg (pv (r_ms rfl) (pv (r_mi rfl) (pv (r_ixe hv3 rfl underlying32 sizeOf37 hp3 hl3 he3) (pv (r_fa rfl underlying37 rfl sizeOf22 rfl) (pv (r_ld rfl isAgg22 (hc3.get (j := 0) rfl)) (pv (r_cv rfl underlying22 underlying3) (pv (r_mi rfl) (pv (r_ib rfl rfl rfl) (pv (r_ib rfl rfl rfl) (nil (t_then ?_)))))))))))
    refine cnd rfl (fun hb4 => ?_) (fun hb4 => ?_)
    · have hm := ctrue hb4 hm
      refine sq2 (rg (pv (r_zb rfl) (nil (t_then ?_))))
      have hm := oI hm; subst hm
      have hn1 : _ = Lp.ret _ := hn1
      subst hn1
      have hm := thn_ret hq1
      have hm := oI hm; subst hm
      exact rtn (r_then (r_blk (r_then (r_then (r_blk (r_then (ret1 rfl rfl ⟨_, rfl, _, ch, ⟨rfl, hS2.sel [0] rfl, trivial⟩⟩)))))))
    have hm := cfalse hb4 hm
    refine skp (t_then ?_)
    refine sq2 ?_
    obtain ⟨y1, hx4, hm⟩ := bindS hm
    refine rg (pv (r_ms rfl) (pv (r_mi rfl) (wl rfl (calS cf15 rfl (ref04_ahead_sim (p0 := p0) (p1 := x1) (hS2.bun [0] [] rfl) (h1.mono ch) hx4) rfl fun v1 T4 w4 im4 rv1 => ?_))))
    obtain ⟨rfl, hS4, _⟩ := rv1
    have hS4 := hS4.unb
    refine pv (r_zi rfl) (nil (t_then ?_))
    refine sq2 (rq mix (by kernel_rfl) hS4.lt (qv (fun _ hq => r_mi rfl) (qv (fun _ hq => r_ib rfl rfl rfl) (qv (fun _ hq => r_mb rfl) (?_)))))
    rcases Bool.eq_false_or_eq_true (decide (0 ≤ y1)) with hb5 | hb5
    · have hm := ctrue hb5 hm
      obtain ⟨u4, hx5, hm⟩ := bindS hm
      obtain ⟨b4, of4, cs4, k4, cp4, hv4, hp4, hl4, he4, hr4, hc4, hT4⟩ := (h1.mono (iT im1 (iT im2 im4))).ixT hx5 rfl
      cases rGRecord_open hr4
      obtain ⟨u5, hx6, hm⟩ := bindS hm
      obtain ⟨b5, of5, cs5, k5, cp5, hv5, hp5, hl5, he5, hr5, hc5, hT5⟩ := (h1.mono (iT im1 (iT im2 im4))).ixT hx6 rfl
      cases rGRecord_open hr5
      refine qgT (d0 := 46) rfl rfl hb5 (qv (fun _ hq => r_ms rfl) (qgT (d0 := 46) rfl rfl hb5 (qv (fun _ hq => r_mi rfl) (qgT (d0 := 46) rfl rfl hb5 (qv (fun _ hq => r_ixe hv4 rfl underlying32 sizeOf37 hp4 hl4 he4) (qgT (d0 := 46) rfl rfl hb5 (qv (fun _ hq => r_fa rfl underlying37 rfl sizeOf22 rfl) (qgT (d0 := 46) rfl rfl hb5 (qv (fun _ hq => r_ld rfl isAgg22 (hq.cell (hc4.get (j := 1) rfl))) (qgT (d0 := 46) rfl rfl hb5 (qv (fun _ hq => r_ms rfl) (qgT (d0 := 46) rfl rfl hb5 (qv (fun _ hq => r_mi rfl) (qgT (d0 := 46) rfl rfl hb5 (qv (fun _ hq => r_ixe hv5 rfl underlying32 sizeOf37 hp5 hl5 he5) (qgT (d0 := 46) rfl rfl hb5 (qv (fun _ hq => r_fa rfl underlying37 rfl sizeOf22 rfl) (qgT (d0 := 46) rfl rfl hb5 (qv (fun _ hq => r_ld rfl isAgg22 (hq.cell (hc5.get (j := 1) rfl))) (qgT (d0 := 46) rfl rfl hb5 (qv (fun _ hq => r_ib rfl rfl rfl) (qv (fun _ hq => r_pkt rfl hb5 rfl) (qn fun w5 T5 i1 => ?_)))))))))))))))))))))))
      have im5 := i1.imm
      have hS5 := hS4.keep i1 (fun _ h => h)
      refine t_thenR [(0, sv a1 p0 c1), (3, iv x1), (58, .bool (u4.Val != u5.Val))] ⟨rfl, rfl, rfl, trivial⟩ fun J => ?_
      refine cnd rfl (fun hb6 => ?_) (fun hb6 => ?_)
      · have hm := ctrue hb6 hm
        refine sq2 (rg (pv (r_zb rfl) (nil (t_then ?_))))
        have hm := oI hm; subst hm
        have hn1 : _ = Lp.ret _ := hn1
        subst hn1
        have hm := thn_ret hq1
        have hm := oI hm; subst hm
        exact rtn (r_blk (r_then (r_then (r_blk (r_then (ret1 rfl rfl ⟨_, rfl, _, ch, ⟨rfl, hS5.sel [0] rfl, trivial⟩⟩))))))
      have hm := cfalse hb6 hm
      refine skp (t_blk (t_then ?_))
      have hm := oI hm; subst hm
      exact rg (pv (r_mi rfl) (pv (r_ib rfl rfl rfl) (pv (r_zi rfl) (nil (t_then ⟨m1, Nat.lt_succ_self _, _, _, (IntKind.wrap .i64 (x1 + 1)), env_has ⟨rfl, rfl, trivial⟩, ch, hS5.sel [0] rfl, hn1⟩)))))
    have hm := cfalse hb5 hm
    refine qgF8 (d0 := 46) rfl rfl (by rw [hb5]; rfl) (qgF3 (d0 := 46) rfl rfl (by rw [hb5]; rfl) (qv (fun _ hq => r_pkf rfl hb5 rfl) (qn fun w6 T6 i2 => ?_)))
    have im6 := i2.imm
    have hS6 := hS4.keep i2 (fun _ h => h)
    refine t_thenR [(0, sv a1 p0 c1), (3, iv x1), (58, .bool false)] ⟨rfl, rfl, rfl, trivial⟩ fun J => ?_
    refine cnd (b := false) rfl (fun h => nomatch h) (fun _ => ?_)
    refine skp (t_blk (t_then ?_))
    have hm := oI hm; subst hm
    exact rg (pv (r_mi rfl) (pv (r_ib rfl rfl rfl) (pv (r_zi rfl) (nil (t_then ⟨m1, Nat.lt_succ_self _, _, _, (IntKind.wrap .i64 (x1 + 1)), env_has ⟨rfl, rfl, trivial⟩, ch, hS6.sel [0] rfl, hn1⟩)))))
  have hm := cfalse hb1 hm
  have hm := oI hm; subst hm
  have hn1 : _ = Lp.brk _ := hn1
  subst hn1
  have hm := thn_brk hq1
  refine xt (x_then (x_then (x_eq (t_then ?_))))
  refine sq2 (rg (pv (r_zb rfl) (nil (t_then ?_))))
  have hm := oI hm; subst hm
  exact rtn (ret1 rfl rfl ⟨_, rfl, _, im1, ⟨rfl, hS1.sel [0] rfl, trivial⟩⟩)

theorem law12_Begins_sim {p0 : List Int} {a1 : OA} {c1 : Nat} {p1 : List Int} {a2 : OA} {c2 : Nat} {r : Bool} (hS : Sep g T0 w0 [R]) (h1 : SlR (rInt .u32) T0 w0 (sv a1 p0 c1) p0) (h2 : SlR (rInt .u32) T0 w0 (sv a2 p1 c2) p1) (hm : law12_Begins p0 p1 = some r) :
    Calls Tryz.prog 16 #[sv a1 p0 c1, sv a2 p1 c2] w0 (RetS T0 w0 fun T w v => v = .bool r ∧ Sep g T w [R] ∧ True) := by
  refine enter (args := [sv a1 p0 c1, sv a2 p1 c2]) Tryz.func16 rfl Tryz.ntmps16 rfl fun J => ?_
  unfold law12_Begins at hm
  refine sq2 (rg (pv (r_zb rfl) (nil (t_then ?_))))
  refine sq2 (sq2 (rg (pv (r_ms rfl) (pv (r_ln rfl underlying26) (pv (r_ms rfl) (pv (r_ln rfl underlying26) (pv (r_ib rfl rfl rfl) (nil (t_then ?_)))))))))
  refine cnd rfl (fun hb1 => ?_) (fun hb1 => ?_)
  · have hm := ctrue hb1 hm
    refine sq2 (rg (pv (r_zb rfl) (nil (t_then ?_))))
    have hm := oI hm; subst hm
    exact rtn (r_then (ret1 rfl rfl ⟨_, rfl, _, Im.refl, ⟨rfl, hS.sel [0] rfl, trivial⟩⟩))
  have hm := cfalse hb1 hm
  refine skp (t_then ?_)
  refine sq2 (sq2 (rg (pv (r_zi rfl) (nil (t_then ?_)))))
  obtain ⟨o1, ho1, hq1⟩ := bindS hm
  obtain ⟨bd1, hbd1, ho1⟩ := loop_open ho1
  refine blk (wp_loop_ghost (fun m a w1 => ∃ (J : JV) (T1 : TP) (x1 : Int), a = env (nf 26) J [(0, sv a1 p0 c1), (1, sv a2 p1 c2), (5, iv x1)] ∧ Im T0 w0 T1 w1 ∧ Sep g T1 w1 [R] ∧ loopM bd1 m x1 = some o1) NN ⟨_, _, 0, env_has ⟨rfl, rfl, rfl, trivial⟩, Im.refl, hS.sel [0] rfl, ho1⟩ ?_)
  rintro m _ w1 ⟨J, T1, x1, rfl, im1, hS1, ho1⟩
  obtain ⟨m1, z1, rfl, hm, hn1⟩ := loop_round ho1
  rw [hbd1] at hm
  refine sq2 (sq2 (rg (pv (r_mi rfl) (pv (r_ms rfl) (pv (r_ln rfl underlying26) (pv (r_ib rfl rfl rfl) (nil (t_then ?_))))))))
  refine cnd rfl (fun hb2 => ?_) (fun hb2 => ?_)
  · have hm := ctrue hb2 hm
    refine skp (t_then ?_)
    refine sq2 (blk (sq2 ?_))
    obtain ⟨u1, hx1, hm⟩ := bindS hm
    obtain ⟨b1, of1, cs1, k1, cp1, hv1, hp1, hl1, he1, hr1, hc1, hT1⟩ := (h1.mono im1).ixT hx1 rfl
    cases hr1
    obtain ⟨u2, hx2, hm⟩ := bindS hm
    obtain ⟨b2, of2, cs2, k2, cp2, hv2, hp2, hl2, he2, hr2, hc2, hT2⟩ := (h2.mono im1).ixT hx2 rfl
    cases hr2
    refine rq mix (by kernel_rfl) hS1.lt (qv (fun _ hq => r_ms rfl) (qv (fun _ hq => r_mi rfl) (qv (fun _ hq => r_ixe hv1 rfl underlying26 sizeOf22 hp1 hl1 he1) (qv (fun _ hq => r_ld rfl isAgg22 (hq.cell (hc1.get (j := 0) rfl))) (qv (fun _ hq => r_ms rfl) (qv (fun _ hq => r_mi rfl) (qv (fun _ hq => r_ixe hv2 rfl underlying26 sizeOf22 hp2 hl2 he2) (qv (fun _ hq => r_ld rfl isAgg22 (hq.cell (hc2.get (j := 0) rfl))) (qv (fun _ hq => r_ib rfl rfl rfl) (qn fun w2 T2 i1 => ?_))))))))))
    have im2 := i1.imm
    have hS2 := hS1.keep i1 (fun _ h => h)
    refine t_then ?_
    refine cnd rfl (fun hb3 => ?_) (fun hb3 => ?_)
    · have hm := ctrue hb3 hm
      refine sq2 (rg (pv (r_zb rfl) (nil (t_then ?_))))
      have hm := oI hm; subst hm
      have hn1 : _ = Lp.ret _ := hn1
      subst hn1
      have hm := thn_ret hq1
      have hm := oI hm; subst hm
      exact rtn (r_blk (r_then (r_then (r_blk (r_then (ret1 rfl rfl ⟨_, rfl, _, ch, ⟨rfl, hS2.sel [0] rfl, trivial⟩⟩))))))
    have hm := cfalse hb3 hm
    refine skp (t_blk (t_then ?_))
    have hm := oI hm; subst hm
    exact rg (pv (r_mi rfl) (pv (r_ib rfl rfl rfl) (pv (r_zi rfl) (nil (t_then ⟨m1, Nat.lt_succ_self _, _, _, (IntKind.wrap .i64 (x1 + 1)), env_has ⟨rfl, rfl, rfl, trivial⟩, ch, hS2.sel [0] rfl, hn1⟩)))))
  have hm := cfalse hb2 hm
  have hm := oI hm; subst hm
  have hn1 : _ = Lp.brk _ := hn1
  subst hn1
  have hm := thn_brk hq1
  refine xt (x_then (x_then (x_eq (t_then ?_))))
  refine sq2 (rg (pv (r_zb rfl) (nil (t_then ?_))))
  have hm := oI hm; subst hm
  exact rtn (ret1 rfl rfl ⟨_, rfl, _, im1, ⟨rfl, hS1.sel [0] rfl, trivial⟩⟩)

theorem law31_begins_sim {p0 : List Int} {a1 : OA} {c1 : Nat} {p1 : List Int} {a2 : OA} {c2 : Nat} {r : Bool} (hS : Sep g T0 w0 [R]) (h1 : SlR (rInt .u32) T0 w0 (sv a1 p0 c1) p0) (h2 : SlR (rInt .u32) T0 w0 (sv a2 p1 c2) p1) (hm : law31_begins p0 p1 = some r) :
    Calls Tryz.prog 9 #[sv a1 p0 c1, sv a2 p1 c2] w0 (RetS T0 w0 fun T w v => v = .bool r ∧ Sep g T w [R] ∧ True) := by
  refine enter (args := [sv a1 p0 c1, sv a2 p1 c2]) Tryz.func9 rfl Tryz.ntmps9 rfl fun J => ?_
  unfold law31_begins at hm
  refine sq2 (rg (pv (r_zb rfl) (nil (t_then ?_))))
  refine sq2 ?_
  obtain ⟨y1, hx1, hm⟩ := bindS hm
  refine rg (pv (r_ms rfl) (pv (r_ms rfl) (wl rfl (calS cf16 rfl (law12_Begins_sim (p0 := p0) (p1 := p1) (hS.bun [0] [] rfl) h1 h2 hx1) rfl fun v1 T1 w1 im1 rv1 => ?_))))
  obtain ⟨rfl, hS1, _⟩ := rv1
  have hS1 := hS1.unb
  refine pv (r_zb rfl) (nil (t_then ?_))
  have hm := oI hm; subst hm
  exact rtn (ret1 rfl rfl ⟨_, rfl, _, im1, ⟨rfl, hS1.sel [0] rfl, trivial⟩⟩)

theorem play_begins_sim {p0 : List Int} {a1 : OA} {c1 : Nat} {p1 : List Int} {a2 : OA} {c2 : Nat} {r : Bool} (hS : Sep g T0 w0 [R]) (h1 : SlR (rInt .u32) T0 w0 (sv a1 p0 c1) p0) (h2 : SlR (rInt .u32) T0 w0 (sv a2 p1 c2) p1) (hm : play_begins p0 p1 = some r) :
    Calls Tryz.prog 17 #[sv a1 p0 c1, sv a2 p1 c2] w0 (RetS T0 w0 fun T w v => v = .bool r ∧ Sep g T w [R] ∧ True) := by
  refine enter (args := [sv a1 p0 c1, sv a2 p1 c2]) Tryz.func17 rfl Tryz.ntmps17 rfl fun J => ?_
  unfold play_begins at hm
  refine sq2 (rg (pv (r_zb rfl) (nil (t_then ?_))))
  refine sq2 (sq2 (rg (pv (r_ms rfl) (pv (r_ln rfl underlying26) (pv (r_ms rfl) (pv (r_ln rfl underlying26) (pv (r_ib rfl rfl rfl) (nil (t_then ?_)))))))))
  refine cnd rfl (fun hb1 => ?_) (fun hb1 => ?_)
  · have hm := ctrue hb1 hm
    refine sq2 (rg (pv (r_zb rfl) (nil (t_then ?_))))
    have hm := oI hm; subst hm
    exact rtn (r_then (ret1 rfl rfl ⟨_, rfl, _, Im.refl, ⟨rfl, hS.sel [0] rfl, trivial⟩⟩))
  have hm := cfalse hb1 hm
  refine skp (t_then ?_)
  refine sq2 (sq2 (rg (pv (r_ms rfl) (pv (r_ln rfl underlying26) (pv (r_mi rfl) (nil (t_then ?_)))))))
  obtain ⟨o1, ho1, hq1⟩ := bindS hm
  obtain ⟨bd1, hbd1, ho1⟩ := loop_open ho1
  refine blk (wp_loop_ghost (fun m a w1 => ∃ (J : JV) (T1 : TP) (x1 : Int), a = env (nf 26) J [(0, sv a1 p0 c1), (1, sv a2 p1 c2), (12, iv (List.length p0 : Int)), (13, iv x1)] ∧ Im T0 w0 T1 w1 ∧ Sep g T1 w1 [R] ∧ loopM bd1 m x1 = some o1) NN ⟨_, _, 0, env_has ⟨rfl, rfl, rfl, rfl, trivial⟩, Im.refl, hS.sel [0] rfl, ho1⟩ ?_)
  rintro m _ w1 ⟨J, T1, x1, rfl, im1, hS1, ho1⟩
  obtain ⟨m1, z1, rfl, hm, hn1⟩ := loop_round ho1
  rw [hbd1] at hm
  refine sq2 (rg (pv (r_ib rfl rfl rfl) (nil (t_then ?_))))
  refine sq2 (cnd rfl (fun hb2 => ?_) (fun hb2 => ?_))
  · have hm := ctrue hb2 hm
    refine skp (t_then ?_)
    refine sq2 (blk (sq2 (rg (pv (r_mi rfl) (pv (r_zi rfl) (nil (t_then ?_)))))))
    refine sq2 ?_
    obtain ⟨u1, hx1, hm⟩ := bindS hm
    obtain ⟨b1, of1, cs1, k1, cp1, hv1, hp1, hl1, he1, hr1, hc1, hT1⟩ := (h1.mono im1).ixT hx1 rfl
    cases hr1
    obtain ⟨u2, hx2, hm⟩ := bindS hm
    obtain ⟨b2, of2, cs2, k2, cp2, hv2, hp2, hl2, he2, hr2, hc2, hT2⟩ := (h2.mono im1).ixT hx2 rfl
    cases hr2
    refine rq mix (by kernel_rfl) hS1.lt (qv (fun _ hq => r_ms rfl) (qv (fun _ hq => r_mi rfl) (qv (fun _ hq => r_ixe hv1 rfl underlying26 sizeOf22 hp1 hl1 he1) (qv (fun _ hq => r_ld rfl isAgg22 (hq.cell (hc1.get (j := 0) rfl))) (qv (fun _ hq => r_ms rfl) (qv (fun _ hq => r_mi rfl) (qv (fun _ hq => r_ixe hv2 rfl underlying26 sizeOf22 hp2 hl2 he2) (qv (fun _ hq => r_ld rfl isAgg22 (hq.cell (hc2.get (j := 0) rfl))) (qv (fun _ hq => r_ib rfl rfl rfl) (qn fun w2 T2 i1 => ?_))))))))))
    have im2 := i1.imm
    have hS2 := hS1.keep i1 (fun _ h => h)
    refine t_then ?_
    refine cnd rfl (fun hb3 => ?_) (fun hb3 => ?_)
    · have hm := ctrue hb3 hm
      refine sq2 (rg (pv (r_zb rfl) (nil (t_then ?_))))
      have hm := oI hm; subst hm
      have hn1 : _ = Lp.ret _ := hn1
      subst hn1
      have hm := thn_ret hq1
      have hm := oI hm; subst hm
      exact rtn (r_blk (r_then (r_then (r_blk (r_then (ret1 rfl rfl ⟨_, rfl, _, ch, ⟨rfl, hS2.sel [0] rfl, trivial⟩⟩))))))
    have hm := cfalse hb3 hm
    refine skp (t_blk (t_then ?_))
    have hm := oI hm; subst hm
    exact rg (pv (r_ib rfl rfl rfl) (pv (r_mi rfl) (nil (t_then ⟨m1, Nat.lt_succ_self _, _, _, (IntKind.wrap .i64 (x1 + 1)), env_has ⟨rfl, rfl, rfl, rfl, trivial⟩, ch, hS2.sel [0] rfl, hn1⟩))))
  have hm := cfalse hb2 hm
  have hm := oI hm; subst hm
  have hn1 : _ = Lp.brk _ := hn1
  subst hn1
  have hm := thn_brk hq1
  refine xt (x_then (x_then (x_eq (t_then ?_))))
  refine sq2 (rg (pv (r_zb rfl) (nil (t_then ?_))))
  have hm := oI hm; subst hm
  exact rtn (ret1 rfl rfl ⟨_, rfl, _, im1, ⟨rfl, hS1.sel [0] rfl, trivial⟩⟩)

theorem play_Agrees_sim {p0 : GPlay} {a1 : OA} {c1 : Nat} {p1 : Outcome} {a2 : OA} {c2 : Nat} {r : Bool} (hS : Sep g T0 w0 [R]) (h1 : SlR rGRecord T0 w0 (sv a1 p0.Log c1) p0.Log) (h2 : SlR (rInt .u32) T0 w0 (sv a2 p1.Out c2) p1.Out) (hm : play_Agrees p0 p1 = some r) :
    Calls Tryz.prog 10 #[.agg (cGPlay p0 a1 c1).toArray, .agg #[sv a2 p1.Out c2, iv p1.Ins, .int .u32 p1.Exit, iv p1.E]] w0 (RetS T0 w0 fun T w v => v = .bool r ∧ Sep g T w [R] ∧ True) := by
  refine enter (args := [.agg (cGPlay p0 a1 c1).toArray, .agg #[sv a2 p1.Out c2, iv p1.Ins, .int .u32 p1.Exit, iv p1.E]]) Tryz.func10 rfl Tryz.ntmps10 rfl fun J => ?_
  unfold play_Agrees at hm
  refine sq2 (rg (wl rfl (bxS (cs := (cGPlay p0 a1 c1)) rfl rfl hS fun w1 b1 im1 hS1 => ?_)))
  refine wl rfl (bxS (cs := [sv a2 p1.Out c2, iv p1.Ins, .int .u32 p1.Exit, iv p1.E]) rfl rfl hS1 fun w2 b2 im2 hS2 => ?_)
  refine pv (r_zb rfl) (nil (t_then ?_))
  refine sq2 ?_
  obtain ⟨y1, hx1, hm⟩ := bindS hm
  refine rg (pv (r_ldS rfl isAgg25 sizeOf25 rfl (hS2.cells0 (i := 1) ⟨rfl, rfl⟩ (o := 0) rfl) (cs := (cGPlay p0 a1 c1))) (wl rfl (calS cf5 rfl (play_Told_sim (p0 := p0) (hS2.bun [0, 2] [] rfl) (h1.mono ch) hx1) rfl fun v1 T1 w3 im3 rv1 => ?_)))
  obtain ⟨a3, c3, rfl, hS3, h3, _⟩ := rv1
  have hS3 := hS3.unb
  refine wl rfl (alS (zs := [.slice none 0 0, iv 0, .int .u32 0, iv 0]) zeroValue29 rfl hS3 fun w4 b3 im4 hS4 => ?_)
  refine wl rfl (st0B (q := 0) hS4 ⟨rfl, rfl⟩ rfl rfl rfl sizeOf29 rfl rfl rfl fun w5 im5 hS5 => ?_)
  refine nil (t_then ?_)
  obtain ⟨kk1, hkk1, hm⟩ := jn_open hm
  refine cut (fun a w6 => ∃ (J : JV) (T2 : TP) (x1 : Bool), a = env (nf 77) J [(3, pt b2 0), (5, pt b3 0), (6, .bool x1)] ∧ Im T1 w5 T2 w6 ∧ Sep g T2 w6 [boxA b3 [sv a3 y1.Out c3, iv y1.Ins, .int .u32 y1.Exit, iv y1.E], boxA b2 [sv a2 p1.Out c2, iv p1.Ins, .int .u32 p1.Exit, iv p1.E], R] ∧ kk1 x1 = some r) ?_ ?_
  · refine rg (pv (r_fa rfl underlying29 rfl sizeOf27 rfl) (pv (r_ld rfl isAgg27 (hS5.cell0 (i := 0) ⟨rfl, rfl⟩ (j := 3) rfl)) (pv (r_ib rfl rfl rfl) (pv (r_mb rfl) (?_)))))
    refine fk (d := 16) (c := ((y1.E == 8) || (y1.E == 16))) 4 [(3, pt b2 0), (5, pt b3 0)] (fun hk => ?_) fun J => ?_
    · rcases Bool.eq_false_or_eq_true (y1.E == 8) with hb1 | hb1
      · exact gF3 (d0 := 12) rfl rfl (by rw [hb1]; rfl) (pv (r_pkt rfl hb1 rfl) (wlR (fun J => hk J _ (by rw [hb1]; rfl)) ⟨rfl, rfl, rfl, trivial⟩))
      exact gT (d0 := 12) rfl rfl hb1 (pv (r_fa rfl underlying29 rfl sizeOf27 rfl) (gT (d0 := 12) rfl rfl hb1 (pv (r_ld rfl isAgg27 (hS5.cell0 (i := 0) ⟨rfl, rfl⟩ (j := 3) rfl)) (gT (d0 := 12) rfl rfl hb1 (pv (r_ib rfl rfl rfl) (pv (r_pkf rfl hb1 rfl) (wlR (fun J => hk J _ (by rw [hb1]; rfl)) ⟨rfl, rfl, rfl, trivial⟩)))))))
    exact pv (r_zb rfl) (nil (t_then ⟨_, _, ((y1.E == 8) || (y1.E == 16)), env_has ⟨rfl, rfl, rfl, trivial⟩, Im.refl, hS5.sel [0, 1, 2] rfl, hm⟩))
  rintro _ w6 ⟨J, T2, x1, rfl, im6, hS6, hm⟩
  rw [hkk1] at hm
  refine sq2 (blk ?_)
  obtain ⟨kk2, hkk2, hm⟩ := jn_open hm
  refine cut (fun a w7 => ∃ (J : JV) (T3 : TP) (x2 : Bool), a = env (nf 77) J [(3, pt b2 0), (5, pt b3 0), (6, .bool x1), (17, .bool x2)] ∧ Im T2 w6 T3 w7 ∧ Sep g T3 w7 [boxA b3 [sv a3 y1.Out c3, iv y1.Ins, .int .u32 y1.Exit, iv y1.E], boxA b2 [sv a2 p1.Out c2, iv p1.Ins, .int .u32 p1.Exit, iv p1.E], R] ∧ kk2 x2 = some r) ?_ ?_
  · refine rg (pv (r_fa rfl underlying29 rfl sizeOf27 rfl) (pv (r_ld rfl isAgg27 (hS6.cell0 (i := 1) ⟨rfl, rfl⟩ (j := 3) rfl)) (pv (r_ib rfl rfl rfl) (pv (r_mb rfl) (?_)))))
    refine fk (d := 25) (c := ((p1.E != 0) && (p1.E != 16))) 4 [(3, pt b2 0), (5, pt b3 0), (6, .bool x1)] (fun hk => ?_) fun J => ?_
    · rcases Bool.eq_false_or_eq_true (p1.E != 0) with hb2 | hb2
      · exact gT (d0 := 21) rfl rfl hb2 (pv (r_fa rfl underlying29 rfl sizeOf27 rfl) (gT (d0 := 21) rfl rfl hb2 (pv (r_ld rfl isAgg27 (hS6.cell0 (i := 1) ⟨rfl, rfl⟩ (j := 3) rfl)) (gT (d0 := 21) rfl rfl hb2 (pv (r_ib rfl rfl rfl) (pv (r_pkt rfl hb2 rfl) (wlR (fun J => hk J _ (by rw [hb2]; rfl)) ⟨rfl, rfl, rfl, rfl, trivial⟩)))))))
      exact gF3 (d0 := 21) rfl rfl (by rw [hb2]; rfl) (pv (r_pkf rfl hb2 rfl) (wlR (fun J => hk J _ (by rw [hb2]; rfl)) ⟨rfl, rfl, rfl, rfl, trivial⟩))
    exact pv (r_zb rfl) (nil (t_then ⟨_, _, ((p1.E != 0) && (p1.E != 16)), env_has ⟨rfl, rfl, rfl, rfl, trivial⟩, Im.refl, hS6.sel [0, 1, 2] rfl, hm⟩))
  rintro _ w7 ⟨J, T3, x2, rfl, im7, hS7, hm⟩
  rw [hkk2] at hm
  refine cnd rfl (fun hb3 => ?_) (fun hb3 => ?_)
  · have hm := ctrue hb3 hm
    refine sq2 (rg (pv (r_zb rfl) (nil (t_then ?_))))
    have hm := oI hm; subst hm
    exact rtn (r_blk (r_then (ret1 rfl rfl ⟨_, rfl, _, ch, ⟨rfl, hS7.sel [2] rfl, trivial⟩⟩)))
  have hm := cfalse hb3 hm
  refine sq2 (rg (pv (r_fa rfl underlying29 rfl sizeOf27 rfl) (pv (r_ld rfl isAgg27 (hS7.cell0 (i := 0) ⟨rfl, rfl⟩ (j := 3) rfl)) (pv (r_ib rfl rfl rfl) (pv (r_zb rfl) (nil (t_then ?_)))))))
  refine cnd rfl (fun hb4 => ?_) (fun hb4 => ?_)
  · have hm := ctrue hb4 hm
    refine sq2 (rg (pv (r_zb rfl) (nil (t_then ?_))))
    have hm := oI hm; subst hm
    exact rtn (r_blk (r_then (ret1 rfl rfl ⟨_, rfl, _, ch, ⟨rfl, hS7.sel [2] rfl, trivial⟩⟩)))
  have hm := cfalse hb4 hm
  refine sq2 (rg (pv (r_fa rfl underlying29 rfl sizeOf27 rfl) (pv (r_ld rfl isAgg27 (hS7.cell0 (i := 1) ⟨rfl, rfl⟩ (j := 3) rfl)) (pv (r_ib rfl rfl rfl) (pv (r_zb rfl) (nil (t_then ?_)))))))
  refine cnd rfl (fun hb5 => ?_) (fun hb5 => ?_)
  · have hm := ctrue hb5 hm
    refine sq2 ?_
    obtain ⟨y2, hx2, hm⟩ := bindS hm
    refine rg (pv (r_fa rfl underlying29 rfl sizeOf26 rfl) (pv (r_ld rfl isAgg26 (hS7.cell0 (i := 1) ⟨rfl, rfl⟩ (j := 0) rfl)) (pv (r_fa rfl underlying29 rfl sizeOf26 rfl) (pv (r_ld rfl isAgg26 (hS7.cell0 (i := 0) ⟨rfl, rfl⟩ (j := 0) rfl)) (wl rfl (calS cf17 rfl (play_begins_sim (p0 := p1.Out) (p1 := y1.Out) (hS7.bun [0, 1, 2] [] rfl) (h2.mono ch) (h3.mono ch) hx2) rfl fun v2 T4 w8 im8 rv2 => ?_))))))
    obtain ⟨rfl, hS8, _⟩ := rv2
    have hS8 := hS8.unb
    refine pv (r_mb rfl) (?_)
    rcases Bool.eq_false_or_eq_true y2 with hb6 | hb6
    · have hm := ctrue hb6 hm
      refine gF2 (d0 := 39) rfl rfl (by rw [hb6]; rfl) (gU (d0 := 41) rfl rfl (gU (d0 := 41) rfl rfl (gU (d0 := 41) rfl rfl (gU (d0 := 41) rfl rfl (gU (d0 := 41) rfl rfl (gF (d0 := 39) rfl rfl (by rw [hb6]; rfl) (pv (r_pkt rfl hb6 rfl) (pv (r_zb rfl) (nil (t_thenR [(4, .bool true)] ⟨rfl, trivial⟩ fun J => ?_))))))))))
      have hm := oI hm; subst hm
      exact rtn (r_blk (r_then (ret1 rfl rfl ⟨_, rfl, _, ch, ⟨rfl, hS8.sel [2] rfl, trivial⟩⟩)))
    have hm := cfalse hb6 hm
    refine gT (d0 := 39) rfl rfl hb6 (pv (r_mb rfl) (gT (d0 := 39) rfl rfl hb6 (pv (r_mb rfl) (?_))))
    rcases Bool.eq_false_or_eq_true x1 with hb7 | hb7
    · have hm := ctrue hb7 hm
      obtain ⟨y3, hx3, hm⟩ := bindS hm
      refine gT (d0 := 41) rfl rfl hb7 (pv (r_fa rfl underlying29 rfl sizeOf26 rfl) (gT (d0 := 41) rfl rfl hb7 (pv (r_ld rfl isAgg26 (hS8.cell0 (i := 0) ⟨rfl, rfl⟩ (j := 0) rfl)) (gT (d0 := 41) rfl rfl hb7 (pv (r_fa rfl underlying29 rfl sizeOf26 rfl) (gT (d0 := 41) rfl rfl hb7 (pv (r_ld rfl isAgg26 (hS8.cell0 (i := 1) ⟨rfl, rfl⟩ (j := 0) rfl)) (gT (d0 := 41) rfl rfl hb7 (wl rfl (calS cf17 rfl (play_begins_sim (p0 := y1.Out) (p1 := p1.Out) (hS8.bun [2] [] rfl) (h3.mono ch) (h2.mono ch) hx3) rfl fun v3 T5 w9 im9 rv3 => ?_))))))))))
      obtain ⟨rfl, hS9, _⟩ := rv3
      have hS9 := hS9.unb
      refine gT (d0 := 39) rfl rfl hb6 (pv (r_pkt rfl hb7 rfl) (pv (r_pkf rfl hb6 rfl) (pv (r_zb rfl) (nil (t_thenR [(4, .bool y3)] ⟨rfl, trivial⟩ fun J => ?_)))))
      have hm := oI hm; subst hm
      exact rtn (r_blk (r_then (ret1 rfl rfl ⟨_, rfl, _, ch, ⟨rfl, hS9.sel [0] rfl, trivial⟩⟩)))
    have hm := cfalse hb7 hm
    refine gF5 (d0 := 41) rfl rfl (by rw [hb7]; rfl) (gT (d0 := 39) rfl rfl hb6 (pv (r_pkf rfl hb7 rfl) (pv (r_pkf rfl hb6 rfl) (pv (r_zb rfl) (nil (t_thenR [(4, .bool false)] ⟨rfl, trivial⟩ fun J => ?_))))))
    have hm := oI hm; subst hm
    exact rtn (r_blk (r_then (ret1 rfl rfl ⟨_, rfl, _, ch, ⟨rfl, hS8.sel [2] rfl, trivial⟩⟩)))
  have hm := cfalse hb5 hm
  refine sq2 (rg (pv (r_mb rfl) (pv (r_zb rfl) (nil (t_then ?_)))))
  refine cnd rfl (fun hb8 => ?_) (fun hb8 => ?_)
  · have hm := ctrue hb8 hm
    refine sq2 ?_
    obtain ⟨y4, hx4, hm⟩ := bindS hm
    refine rg (pv (r_fa rfl underlying29 rfl sizeOf26 rfl) (pv (r_ld rfl isAgg26 (hS7.cell0 (i := 0) ⟨rfl, rfl⟩ (j := 0) rfl)) (pv (r_fa rfl underlying29 rfl sizeOf26 rfl) (pv (r_ld rfl isAgg26 (hS7.cell0 (i := 1) ⟨rfl, rfl⟩ (j := 0) rfl)) (wl rfl (calS cf17 rfl (play_begins_sim (p0 := y1.Out) (p1 := p1.Out) (hS7.bun [2] [] rfl) (h3.mono ch) (h2.mono ch) hx4) rfl fun v4 T6 w10 im10 rv4 => ?_))))))
    obtain ⟨rfl, hS10, _⟩ := rv4
    have hS10 := hS10.unb
    refine pv (r_zb rfl) (nil (t_then ?_))
    have hm := oI hm; subst hm
    exact rtn (r_blk (r_then (ret1 rfl rfl ⟨_, rfl, _, ch, ⟨rfl, hS10.sel [0] rfl, trivial⟩⟩)))
  have hm := cfalse hb8 hm
  refine skp (t_blk (t_then ?_))
  refine sq2 ?_
  obtain ⟨y5, hx5, hm⟩ := bindS hm
  refine rg (pv (r_fa rfl underlying29 rfl sizeOf26 rfl) (pv (r_ld rfl isAgg26 (hS7.cell0 (i := 0) ⟨rfl, rfl⟩ (j := 0) rfl)) (pv (r_fa rfl underlying29 rfl sizeOf26 rfl) (pv (r_ld rfl isAgg26 (hS7.cell0 (i := 1) ⟨rfl, rfl⟩ (j := 0) rfl)) (wl rfl (calS cf17 rfl (play_begins_sim (p0 := y1.Out) (p1 := p1.Out) (hS7.bun [0, 1, 2] [] rfl) (h3.mono ch) (h2.mono ch) hx5) rfl fun v5 T7 w11 im11 rv5 => ?_))))))
  obtain ⟨rfl, hS11, _⟩ := rv5
  have hS11 := hS11.unb
  refine pv (r_mb rfl) (?_)
  refine fk (d := 69) (c := (y5 && ((List.length y1.Out : Int) == (List.length p1.Out : Int)))) 8 [(3, pt b2 0), (5, pt b3 0)] (fun hk => ?_) fun J => ?_
  · rcases Bool.eq_false_or_eq_true y5 with hb9 | hb9
    · exact gT (d0 := 61) rfl rfl hb9 (pv (r_fa rfl underlying29 rfl sizeOf26 rfl) (gT (d0 := 61) rfl rfl hb9 (pv (r_ld rfl isAgg26 (hS11.cell0 (i := 0) ⟨rfl, rfl⟩ (j := 0) rfl)) (gT (d0 := 61) rfl rfl hb9 (pv (r_ln rfl underlying26) (gT (d0 := 61) rfl rfl hb9 (pv (r_fa rfl underlying29 rfl sizeOf26 rfl) (gT (d0 := 61) rfl rfl hb9 (pv (r_ld rfl isAgg26 (hS11.cell0 (i := 1) ⟨rfl, rfl⟩ (j := 0) rfl)) (gT (d0 := 61) rfl rfl hb9 (pv (r_ln rfl underlying26) (gT (d0 := 61) rfl rfl hb9 (pv (r_ib rfl rfl rfl) (pv (r_pkt rfl hb9 rfl) (wlR (fun J => hk J _ (by rw [hb9]; rfl)) ⟨rfl, rfl, rfl, trivial⟩)))))))))))))))
    exact gF7 (d0 := 61) rfl rfl (by rw [hb9]; rfl) (pv (r_pkf rfl hb9 rfl) (wlR (fun J => hk J _ (by rw [hb9]; rfl)) ⟨rfl, rfl, rfl, trivial⟩))
  refine pv (r_mb rfl) (?_)
  refine fk (d := 76) (c := ((y5 && ((List.length y1.Out : Int) == (List.length p1.Out : Int))) && (y1.Exit == p1.Exit))) 6 [] (fun hk => ?_) fun J => ?_
  · rcases Bool.eq_false_or_eq_true (y5 && ((List.length y1.Out : Int) == (List.length p1.Out : Int))) with hb10 | hb10
    · exact gT (d0 := 70) rfl rfl hb10 (pv (r_fa rfl underlying29 rfl sizeOf22 rfl) (gT (d0 := 70) rfl rfl hb10 (pv (r_ld rfl isAgg22 (hS11.cell0 (i := 0) ⟨rfl, rfl⟩ (j := 2) rfl)) (gT (d0 := 70) rfl rfl hb10 (pv (r_fa rfl underlying29 rfl sizeOf22 rfl) (gT (d0 := 70) rfl rfl hb10 (pv (r_ld rfl isAgg22 (hS11.cell0 (i := 1) ⟨rfl, rfl⟩ (j := 2) rfl)) (gT (d0 := 70) rfl rfl hb10 (pv (r_ib rfl rfl rfl) (pv (r_pkt rfl hb10 rfl) (wlR (fun J => hk J _ (by rw [hb10]; rfl)) ⟨rfl, trivial⟩)))))))))))
    exact gF5 (d0 := 70) rfl rfl (by rw [hb10]; rfl) (pv (r_pkf rfl hb10 rfl) (wlR (fun J => hk J _ (by rw [hb10]; rfl)) ⟨rfl, trivial⟩))
  refine pv (r_zb rfl) (nil (t_then ?_))
  have hm := oI hm; subst hm
  exact rtn (ret1 rfl rfl ⟨_, rfl, _, ch, ⟨rfl, hS11.sel [2] rfl, trivial⟩⟩)
end Go.Proofs.YtpdahlpjbckoiaaGreatDoor
