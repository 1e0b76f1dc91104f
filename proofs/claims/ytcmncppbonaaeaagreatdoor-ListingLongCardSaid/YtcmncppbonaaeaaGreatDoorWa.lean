/- That Go functions compute their models. Printed by gen2.py. -/
import Derived.Test.YtcmncppbonaaeaaGreatDoorRows
import Derived.Test.YtcmncppbonaaeaaGreatDoorFoc
import Derived.Test.YtcmncppbonaaeaaGreatDoorTree
import Derived.Test.YtcmncppbonaaeaaGreatDoorSeg
import Derived.Test.YtcmncppbonaaeaaGreatDoorArr
import Derived.Test.YtcmncppbonaaeaaGreatDoorErr
import Derived.Test.YtcmncppbonaaeaaGreatDoorHc
import Derived.Test.YtcmncppbonaaeaaGreatDoorBld
import Derived.Test.YtcmncppbonaaeaaGreatDoorM
set_option linter.unusedVariables false
namespace Go.Proofs.YtcmncppbonaaeaaGreatDoor
open _root_.Go.Proofs.Tryz
set_option maxRecDepth 100000
set_option maxHeartbeats 1000000
attribute [local irreducible] wpList wpQuiet Code.wp
variable {g : World} {T0 : Nat → Prop} {w0 : World} {R : Assn}
def rGInst : Rp GInst := ((rPair (rInt .i64) (rPair (rInt .i64) (rPair (rInt .i64) (rPair (rInt .i64) (rInt .i64)))))).iso fun x => (x.Op, x.Rd, x.Rs1, x.Rs2, x.Imm)
theorem rGInst_open {T : Nat → Prop} {w : World} {cs : List Value} {x : GInst} (h : rGInst.rp T w cs x) : cs = [.int .i64 x.Op, .int .i64 x.Rd, .int .i64 x.Rs1, .int .i64 x.Rs2, .int .i64 x.Imm] := by
  obtain ⟨q1, y1, rfl, f1, g1⟩ := h
  cases f1
  obtain ⟨q2, y2, rfl, f2, g2⟩ := g1
  cases f2
  obtain ⟨q3, y3, rfl, f3, g3⟩ := g2
  cases f3
  obtain ⟨q4, y4, rfl, f4, g4⟩ := g3
  cases f4
  cases g4
  exact rfl
theorem rGInst_mk {T : Nat → Prop} {w : World} {x : GInst}   : rGInst.rp T w [.int .i64 x.Op, .int .i64 x.Rd, .int .i64 x.Rs1, .int .i64 x.Rs2, .int .i64 x.Imm] x := ⟨_, _, rfl, rfl, ⟨_, _, rfl, rfl, ⟨_, _, rfl, rfl, ⟨_, _, rfl, rfl, rfl⟩⟩⟩⟩
def rInstShape : Rp InstShape := ((rPair rStr (rPair (rInt .u8) (rPair (rInt .u32) (rPair (rInt .u32) (rInt .u32)))))).iso fun x => (x.name, x.form, x.code, x.third, x.seventh)
theorem rInstShape_open {T : Nat → Prop} {w : World} {cs : List Value} {x : InstShape} (h : rInstShape.rp T w cs x) : cs = [.string ⟨x.name.toArray⟩, .int .u8 x.form, .int .u32 x.code, .int .u32 x.third, .int .u32 x.seventh] := by
  obtain ⟨q1, y1, rfl, f1, g1⟩ := h
  cases f1
  obtain ⟨q2, y2, rfl, f2, g2⟩ := g1
  cases f2
  obtain ⟨q3, y3, rfl, f3, g3⟩ := g2
  cases f3
  obtain ⟨q4, y4, rfl, f4, g4⟩ := g3
  cases f4
  cases g4
  exact rfl
theorem rInstShape_mk {T : Nat → Prop} {w : World} {x : InstShape}   : rInstShape.rp T w [.string ⟨x.name.toArray⟩, .int .u8 x.form, .int .u32 x.code, .int .u32 x.third, .int .u32 x.seventh] x := ⟨_, _, rfl, rfl, ⟨_, _, rfl, rfl, ⟨_, _, rfl, rfl, ⟨_, _, rfl, rfl, rfl⟩⟩⟩⟩
def enI_u8' (x : Int) : List Value := [.int .u8 x]
theorem enI_u8'_len : ∀ x, (enI_u8' x).length = 1 := fun _ => rfl
theorem enI_u8'_rp (T : Nat → Prop) (w : World) (x : Int) : (rInt .u8).rp T w (enI_u8' x) x := rfl
def enInstShape' (x : InstShape) : List Value := [.string ⟨x.name.toArray⟩, .int .u8 x.form, .int .u32 x.code, .int .u32 x.third, .int .u32 x.seventh]
theorem enInstShape'_len : ∀ x, (enInstShape' x).length = 5 := fun _ => rfl
theorem enInstShape'_rp (T : Nat → Prop) (w : World) (x : InstShape) : rInstShape.rp T w (enInstShape' x) x := rInstShape_mk
theorem cf7 : CallOk Tryz.prog 7 := ⟨⟨_, Tryz.func7, by kernel_rfl, by kernel_rfl⟩⟩
theorem cf8 : CallOk Tryz.prog 8 := ⟨⟨_, Tryz.func8, by kernel_rfl, by kernel_rfl⟩⟩
theorem cf9 : CallOk Tryz.prog 9 := ⟨⟨_, Tryz.func9, by kernel_rfl, by kernel_rfl⟩⟩
theorem cf10 : CallOk Tryz.prog 10 := ⟨⟨_, Tryz.func10, by kernel_rfl, by kernel_rfl⟩⟩
theorem cf11 : CallOk Tryz.prog 11 := ⟨⟨_, Tryz.func11, by kernel_rfl, by kernel_rfl⟩⟩
theorem cf12 : CallOk Tryz.prog 12 := ⟨⟨_, Tryz.func12, by kernel_rfl, by kernel_rfl⟩⟩
theorem cf13 : CallOk Tryz.prog 13 := ⟨⟨_, Tryz.func13, by kernel_rfl, by kernel_rfl⟩⟩
theorem cf14 : CallOk Tryz.prog 14 := ⟨⟨_, Tryz.func14, by kernel_rfl, by kernel_rfl⟩⟩
theorem cf15 : CallOk Tryz.prog 15 := ⟨⟨_, Tryz.func15, by kernel_rfl, by kernel_rfl⟩⟩
theorem cf16 : CallOk Tryz.prog 16 := ⟨⟨_, Tryz.func16, by kernel_rfl, by kernel_rfl⟩⟩
theorem cf17 : CallOk Tryz.prog 17 := ⟨⟨_, Tryz.func17, by kernel_rfl, by kernel_rfl⟩⟩
theorem cf18 : CallOk Tryz.prog 18 := ⟨⟨_, Tryz.func18, by kernel_rfl, by kernel_rfl⟩⟩
theorem cf19 : CallOk Tryz.prog 19 := ⟨⟨_, Tryz.func19, by kernel_rfl, by kernel_rfl⟩⟩
theorem cf20 : CallOk Tryz.prog 20 := ⟨⟨_, Tryz.func20, by kernel_rfl, by kernel_rfl⟩⟩
theorem cf21 : CallOk Tryz.prog 21 := ⟨⟨_, Tryz.func21, by kernel_rfl, by kernel_rfl⟩⟩
theorem cf22 : CallOk Tryz.prog 22 := ⟨⟨_, Tryz.func22, by kernel_rfl, by kernel_rfl⟩⟩
theorem cf23 : CallOk Tryz.prog 23 := ⟨⟨_, Tryz.func23, by kernel_rfl, by kernel_rfl⟩⟩
theorem cf24 : CallOk Tryz.prog 24 := ⟨⟨_, Tryz.func24, by kernel_rfl, by kernel_rfl⟩⟩
theorem cf25 : CallOk Tryz.prog 25 := ⟨⟨_, Tryz.func25, by kernel_rfl, by kernel_rfl⟩⟩
theorem cf26 : CallOk Tryz.prog 26 := ⟨⟨_, Tryz.func26, by kernel_rfl, by kernel_rfl⟩⟩
theorem cf27 : CallOk Tryz.prog 27 := ⟨⟨_, Tryz.func27, by kernel_rfl, by kernel_rfl⟩⟩
theorem cf28 : CallOk Tryz.prog 28 := ⟨⟨_, Tryz.func28, by kernel_rfl, by kernel_rfl⟩⟩
theorem cf29 : CallOk Tryz.prog 29 := ⟨⟨_, Tryz.func29, by kernel_rfl, by kernel_rfl⟩⟩
theorem cf30 : CallOk Tryz.prog 30 := ⟨⟨_, Tryz.func30, by kernel_rfl, by kernel_rfl⟩⟩
theorem cf31 : CallOk Tryz.prog 31 := ⟨⟨_, Tryz.func31, by kernel_rfl, by kernel_rfl⟩⟩
theorem cf32 : CallOk Tryz.prog 32 := ⟨⟨_, Tryz.func32, by kernel_rfl, by kernel_rfl⟩⟩
theorem cf33 : CallOk Tryz.prog 33 := ⟨⟨_, Tryz.func33, by kernel_rfl, by kernel_rfl⟩⟩
theorem cf34 : CallOk Tryz.prog 34 := ⟨⟨_, Tryz.func34, by kernel_rfl, by kernel_rfl⟩⟩
theorem cf35 : CallOk Tryz.prog 35 := ⟨⟨_, Tryz.func35, by kernel_rfl, by kernel_rfl⟩⟩
theorem cf36 : CallOk Tryz.prog 36 := ⟨⟨_, Tryz.func36, by kernel_rfl, by kernel_rfl⟩⟩
theorem cf37 : CallOk Tryz.prog 37 := ⟨⟨_, Tryz.func37, by kernel_rfl, by kernel_rfl⟩⟩
theorem cf38 : CallOk Tryz.prog 38 := ⟨⟨_, Tryz.func38, by kernel_rfl, by kernel_rfl⟩⟩
theorem cf39 : CallOk Tryz.prog 39 := ⟨⟨_, Tryz.func39, by kernel_rfl, by kernel_rfl⟩⟩
theorem cf40 : CallOk Tryz.prog 40 := ⟨⟨_, Tryz.func40, by kernel_rfl, by kernel_rfl⟩⟩
theorem cf41 : CallOk Tryz.prog 41 := ⟨⟨_, Tryz.func41, by kernel_rfl, by kernel_rfl⟩⟩
theorem cf42 : CallOk Tryz.prog 42 := ⟨⟨_, Tryz.func42, by kernel_rfl, by kernel_rfl⟩⟩
theorem cf43 : CallOk Tryz.prog 43 := ⟨⟨_, Tryz.func43, by kernel_rfl, by kernel_rfl⟩⟩
theorem cf44 : CallOk Tryz.prog 44 := ⟨⟨_, Tryz.func44, by kernel_rfl, by kernel_rfl⟩⟩
theorem cf45 : CallOk Tryz.prog 45 := ⟨⟨_, Tryz.func45, by kernel_rfl, by kernel_rfl⟩⟩
theorem cf46 : CallOk Tryz.prog 46 := ⟨⟨_, Tryz.func46, by kernel_rfl, by kernel_rfl⟩⟩
theorem cf47 : CallOk Tryz.prog 47 := ⟨⟨_, Tryz.func47, by kernel_rfl, by kernel_rfl⟩⟩
theorem cf48 : CallOk Tryz.prog 48 := ⟨⟨_, Tryz.func48, by kernel_rfl, by kernel_rfl⟩⟩
theorem cf50 : CallOk Tryz.prog 50 := ⟨⟨_, Tryz.func50, by kernel_rfl, by kernel_rfl⟩⟩
theorem cf52 : CallOk Tryz.prog 52 := ⟨⟨_, Tryz.func52, by kernel_rfl, by kernel_rfl⟩⟩
theorem cf53 : CallOk Tryz.prog 53 := ⟨⟨_, Tryz.func53, by kernel_rfl, by kernel_rfl⟩⟩
theorem cf54 : CallOk Tryz.prog 54 := ⟨⟨_, Tryz.func54, by kernel_rfl, by kernel_rfl⟩⟩
theorem cf56 : CallOk Tryz.prog 56 := ⟨⟨_, Tryz.func56, by kernel_rfl, by kernel_rfl⟩⟩
theorem cf57 : CallOk Tryz.prog 57 := ⟨⟨_, Tryz.func57, by kernel_rfl, by kernel_rfl⟩⟩
theorem cf58 : CallOk Tryz.prog 58 := ⟨⟨_, Tryz.func58, by kernel_rfl, by kernel_rfl⟩⟩
theorem cf59 : CallOk Tryz.prog 59 := ⟨⟨_, Tryz.func59, by kernel_rfl, by kernel_rfl⟩⟩
theorem cf60 : CallOk Tryz.prog 60 := ⟨⟨_, Tryz.func60, by kernel_rfl, by kernel_rfl⟩⟩
theorem cf61 : CallOk Tryz.prog 61 := ⟨⟨_, Tryz.func61, by kernel_rfl, by kernel_rfl⟩⟩
theorem cf62 : CallOk Tryz.prog 62 := ⟨⟨_, Tryz.func62, by kernel_rfl, by kernel_rfl⟩⟩
theorem cf63 : CallOk Tryz.prog 63 := ⟨⟨_, Tryz.func63, by kernel_rfl, by kernel_rfl⟩⟩
theorem cf65 : CallOk Tryz.prog 65 := ⟨⟨_, Tryz.func65, by kernel_rfl, by kernel_rfl⟩⟩
theorem cf66 : CallOk Tryz.prog 66 := ⟨⟨_, Tryz.func66, by kernel_rfl, by kernel_rfl⟩⟩
theorem cf67 : CallOk Tryz.prog 67 := ⟨⟨_, Tryz.func67, by kernel_rfl, by kernel_rfl⟩⟩
theorem cf78 : CallOk Tryz.prog 78 := ⟨⟨_, Tryz.func78, by kernel_rfl, by kernel_rfl⟩⟩
theorem cf79 : CallOk Tryz.prog 79 := ⟨⟨_, Tryz.func79, by kernel_rfl, by kernel_rfl⟩⟩
theorem cf82 : CallOk Tryz.prog 82 := ⟨⟨_, Tryz.func82, by kernel_rfl, by kernel_rfl⟩⟩
theorem cf84 : CallOk Tryz.prog 84 := ⟨⟨_, Tryz.func84, by kernel_rfl, by kernel_rfl⟩⟩
theorem cf85 : CallOk Tryz.prog 85 := ⟨⟨_, Tryz.func85, by kernel_rfl, by kernel_rfl⟩⟩
theorem cf86 : CallOk Tryz.prog 86 := ⟨⟨_, Tryz.func86, by kernel_rfl, by kernel_rfl⟩⟩
theorem cf87 : CallOk Tryz.prog 87 := ⟨⟨_, Tryz.func87, by kernel_rfl, by kernel_rfl⟩⟩
theorem cf88 : CallOk Tryz.prog 88 := ⟨⟨_, Tryz.func88, by kernel_rfl, by kernel_rfl⟩⟩
theorem cf89 : CallOk Tryz.prog 89 := ⟨⟨_, Tryz.func89, by kernel_rfl, by kernel_rfl⟩⟩
theorem cf93 : CallOk Tryz.prog 93 := ⟨⟨_, Tryz.func93, by kernel_rfl, by kernel_rfl⟩⟩
theorem cf113 : CallOk Tryz.prog 113 := ⟨⟨_, Tryz.func113, by kernel_rfl, by kernel_rfl⟩⟩
theorem cf114 : CallOk Tryz.prog 114 := ⟨⟨_, Tryz.func114, by kernel_rfl, by kernel_rfl⟩⟩
theorem el3 : ElemOk Tryz.prog 3 1 := ⟨by kernel_rfl, by decide⟩
theorem el5 : ElemOk Tryz.prog 5 1 := ⟨by kernel_rfl, by decide⟩
theorem el9 : ElemOk Tryz.prog 9 1 := ⟨by kernel_rfl, by decide⟩
theorem el39 : ElemOk Tryz.prog 39 1 := ⟨by kernel_rfl, by decide⟩
theorem eq_23 (a0 : Int) (a1 : Int) (a2 : Int) (a3 : Int) (a4 : Int) (b0 : Int) (b1 : Int) (b2 : Int) (b3 : Int) (b4 : Int) : ∀ x y w, (do eqGuard .eql 23 x y (.agg #[.int .i64 a0, .int .i64 a1, .int .i64 a2, .int .i64 a3, .int .i64 a4]) (.agg #[.int .i64 b0, .int .i64 b1, .int .i64 b2, .int .i64 b3, .int .i64 b4]); binOp .eql 23 (.agg #[.int .i64 a0, .int .i64 a1, .int .i64 a2, .int .i64 a3, .int .i64 a4]) (.agg #[.int .i64 b0, .int .i64 b1, .int .i64 b2, .int .i64 b3, .int .i64 b4]) : Sem Value).run Tryz.prog w = .ok (.bool ((a0 == b0) && (a1 == b1) && (a2 == b2) && (a3 == b3) && (a4 == b4))) w := by
  intro x y w
  simp [go_sem]
  repeat' split
  all_goals simp_all
theorem mix : Tryz.prog.follows .mixedOrders = true := by kernel_rfl
abbrev cInstShape (x : InstShape)  : List Value := [.string ⟨x.name.toArray⟩, .int .u8 x.form, .int .u32 x.code, .int .u32 x.third, .int .u32 x.seventh]
abbrev cGInst (x : GInst)  : List Value := [.int .i64 x.Op, .int .i64 x.Rd, .int .i64 x.Rs1, .int .i64 x.Rs2, .int .i64 x.Imm]
abbrev iv (x : Int) : Value := .int .i64 x
abbrev sv {α : Type} (a : Option Addr) (l : List α) (c : Nat) : Value := .slice a (List.length l) c
abbrev pt (b o : Nat) : Value := .pointer (some ⟨b, o, none⟩)
abbrev OA := Option Addr
abbrev JV := Nat → Value
abbrev TP := Nat → Prop

theorem inst_table_sim  {r : (List InstShape)} (hS : Sep g T0 w0 [R])  (hm : inst_table = some r) :
    Calls Tryz.prog 57 #[] w0 (RetS T0 w0 fun T w v => v = .agg (segF enInstShape' r).toArray ∧ Sep g T w [R] ∧ True) := by
  refine enter (args := []) Tryz.func57 rfl Tryz.ntmps57 rfl fun J => ?_
  unfold inst_table at hm
  refine sq2 (rg (wl rfl (alS (zs := (List.map enInstShape' (List.replicate 46 (⟨([] : List UInt8), 0, 0, 0, 0⟩ : InstShape))).flatten ++ []) zeroValue81 (by kernel_rfl) hS fun w1 b1 im1 hS1 => ?_)))
  refine nil (t_then ?_)
  refine sq2 (rg (pv (r_bd (by kernel_rfl) rfl (u := .agg #[.string ⟨([] : List UInt8).toArray⟩, .int .u8 0, .int .u32 0, .int .u32 0, .int .u32 0])) (pv (r_bd (by kernel_rfl) rfl (u := .agg #[.string ⟨([108, 117, 105] : List UInt8).toArray⟩, .int .u8 85, .int .u32 55, .int .u32 0, .int .u32 0])) (pv (r_bd (by kernel_rfl) rfl (u := .agg #[.string ⟨([97, 117, 105, 112, 99] : List UInt8).toArray⟩, .int .u8 85, .int .u32 23, .int .u32 0, .int .u32 0])) (pv (r_bd (by kernel_rfl) rfl (u := .agg #[.string ⟨([106, 97, 108] : List UInt8).toArray⟩, .int .u8 74, .int .u32 111, .int .u32 0, .int .u32 0])) (pv (r_bd (by kernel_rfl) rfl (u := .agg #[.string ⟨([106, 97, 108, 114] : List UInt8).toArray⟩, .int .u8 73, .int .u32 103, .int .u32 0, .int .u32 0])) (pv (r_bd (by kernel_rfl) rfl (u := .agg #[.string ⟨([98, 101, 113] : List UInt8).toArray⟩, .int .u8 66, .int .u32 99, .int .u32 0, .int .u32 0])) (pv (r_bd (by kernel_rfl) rfl (u := .agg #[.string ⟨([98, 110, 101] : List UInt8).toArray⟩, .int .u8 66, .int .u32 99, .int .u32 1, .int .u32 0])) (pv (r_bd (by kernel_rfl) rfl (u := .agg #[.string ⟨([98, 108, 116] : List UInt8).toArray⟩, .int .u8 66, .int .u32 99, .int .u32 4, .int .u32 0])) (pv (r_bd (by kernel_rfl) rfl (u := .agg #[.string ⟨([98, 103, 101] : List UInt8).toArray⟩, .int .u8 66, .int .u32 99, .int .u32 5, .int .u32 0])) (pv (r_bd (by kernel_rfl) rfl (u := .agg #[.string ⟨([98, 108, 116, 117] : List UInt8).toArray⟩, .int .u8 66, .int .u32 99, .int .u32 6, .int .u32 0])) (pv (r_bd (by kernel_rfl) rfl (u := .agg #[.string ⟨([98, 103, 101, 117] : List UInt8).toArray⟩, .int .u8 66, .int .u32 99, .int .u32 7, .int .u32 0])) (pv (r_bd (by kernel_rfl) rfl (u := .agg #[.string ⟨([108, 98] : List UInt8).toArray⟩, .int .u8 73, .int .u32 3, .int .u32 0, .int .u32 0])) (pv (r_bd (by kernel_rfl) rfl (u := .agg #[.string ⟨([108, 104] : List UInt8).toArray⟩, .int .u8 73, .int .u32 3, .int .u32 1, .int .u32 0])) (pv (r_bd (by kernel_rfl) rfl (u := .agg #[.string ⟨([108, 119] : List UInt8).toArray⟩, .int .u8 73, .int .u32 3, .int .u32 2, .int .u32 0])) (pv (r_bd (by kernel_rfl) rfl (u := .agg #[.string ⟨([108, 98, 117] : List UInt8).toArray⟩, .int .u8 73, .int .u32 3, .int .u32 4, .int .u32 0])) (pv (r_bd (by kernel_rfl) rfl (u := .agg #[.string ⟨([108, 104, 117] : List UInt8).toArray⟩, .int .u8 73, .int .u32 3, .int .u32 5, .int .u32 0])) (pv (r_bd (by kernel_rfl) rfl (u := .agg #[.string ⟨([115, 98] : List UInt8).toArray⟩, .int .u8 83, .int .u32 35, .int .u32 0, .int .u32 0])) (pv (r_bd (by kernel_rfl) rfl (u := .agg #[.string ⟨([115, 104] : List UInt8).toArray⟩, .int .u8 83, .int .u32 35, .int .u32 1, .int .u32 0])) (pv (r_bd (by kernel_rfl) rfl (u := .agg #[.string ⟨([115, 119] : List UInt8).toArray⟩, .int .u8 83, .int .u32 35, .int .u32 2, .int .u32 0])) (pv (r_bd (by kernel_rfl) rfl (u := .agg #[.string ⟨([97, 100, 100, 105] : List UInt8).toArray⟩, .int .u8 73, .int .u32 19, .int .u32 0, .int .u32 0])) (pv (r_bd (by kernel_rfl) rfl (u := .agg #[.string ⟨([115, 108, 116, 105] : List UInt8).toArray⟩, .int .u8 73, .int .u32 19, .int .u32 2, .int .u32 0])) (pv (r_bd (by kernel_rfl) rfl (u := .agg #[.string ⟨([115, 108, 116, 105, 117] : List UInt8).toArray⟩, .int .u8 73, .int .u32 19, .int .u32 3, .int .u32 0])) (pv (r_bd (by kernel_rfl) rfl (u := .agg #[.string ⟨([120, 111, 114, 105] : List UInt8).toArray⟩, .int .u8 73, .int .u32 19, .int .u32 4, .int .u32 0])) (pv (r_bd (by kernel_rfl) rfl (u := .agg #[.string ⟨([111, 114, 105] : List UInt8).toArray⟩, .int .u8 73, .int .u32 19, .int .u32 6, .int .u32 0])) (pv (r_bd (by kernel_rfl) rfl (u := .agg #[.string ⟨([97, 110, 100, 105] : List UInt8).toArray⟩, .int .u8 73, .int .u32 19, .int .u32 7, .int .u32 0])) (pv (r_bd (by kernel_rfl) rfl (u := .agg #[.string ⟨([115, 108, 108, 105] : List UInt8).toArray⟩, .int .u8 72, .int .u32 19, .int .u32 1, .int .u32 0])) (pv (r_bd (by kernel_rfl) rfl (u := .agg #[.string ⟨([115, 114, 108, 105] : List UInt8).toArray⟩, .int .u8 72, .int .u32 19, .int .u32 5, .int .u32 0])) (pv (r_bd (by kernel_rfl) rfl (u := .agg #[.string ⟨([115, 114, 97, 105] : List UInt8).toArray⟩, .int .u8 72, .int .u32 19, .int .u32 5, .int .u32 32])) (pv (r_bd (by kernel_rfl) rfl (u := .agg #[.string ⟨([97, 100, 100] : List UInt8).toArray⟩, .int .u8 82, .int .u32 51, .int .u32 0, .int .u32 0])) (pv (r_bd (by kernel_rfl) rfl (u := .agg #[.string ⟨([115, 117, 98] : List UInt8).toArray⟩, .int .u8 82, .int .u32 51, .int .u32 0, .int .u32 32])) (pv (r_bd (by kernel_rfl) rfl (u := .agg #[.string ⟨([115, 108, 108] : List UInt8).toArray⟩, .int .u8 82, .int .u32 51, .int .u32 1, .int .u32 0])) (pv (r_bd (by kernel_rfl) rfl (u := .agg #[.string ⟨([115, 108, 116] : List UInt8).toArray⟩, .int .u8 82, .int .u32 51, .int .u32 2, .int .u32 0])) (pv (r_bd (by kernel_rfl) rfl (u := .agg #[.string ⟨([115, 108, 116, 117] : List UInt8).toArray⟩, .int .u8 82, .int .u32 51, .int .u32 3, .int .u32 0])) (pv (r_bd (by kernel_rfl) rfl (u := .agg #[.string ⟨([120, 111, 114] : List UInt8).toArray⟩, .int .u8 82, .int .u32 51, .int .u32 4, .int .u32 0])) (pv (r_bd (by kernel_rfl) rfl (u := .agg #[.string ⟨([115, 114, 108] : List UInt8).toArray⟩, .int .u8 82, .int .u32 51, .int .u32 5, .int .u32 0])) (pv (r_bd (by kernel_rfl) rfl (u := .agg #[.string ⟨([115, 114, 97] : List UInt8).toArray⟩, .int .u8 82, .int .u32 51, .int .u32 5, .int .u32 32])) (pv (r_bd (by kernel_rfl) rfl (u := .agg #[.string ⟨([111, 114] : List UInt8).toArray⟩, .int .u8 82, .int .u32 51, .int .u32 6, .int .u32 0])) (pv (r_bd (by kernel_rfl) rfl (u := .agg #[.string ⟨([97, 110, 100] : List UInt8).toArray⟩, .int .u8 82, .int .u32 51, .int .u32 7, .int .u32 0])) (pv (r_bd (by kernel_rfl) rfl (u := .agg #[.string ⟨([109, 117, 108] : List UInt8).toArray⟩, .int .u8 82, .int .u32 51, .int .u32 0, .int .u32 1])) (pv (r_bd (by kernel_rfl) rfl (u := .agg #[.string ⟨([109, 117, 108, 104] : List UInt8).toArray⟩, .int .u8 82, .int .u32 51, .int .u32 1, .int .u32 1])) (pv (r_bd (by kernel_rfl) rfl (u := .agg #[.string ⟨([109, 117, 108, 104, 115, 117] : List UInt8).toArray⟩, .int .u8 82, .int .u32 51, .int .u32 2, .int .u32 1])) (pv (r_bd (by kernel_rfl) rfl (u := .agg #[.string ⟨([109, 117, 108, 104, 117] : List UInt8).toArray⟩, .int .u8 82, .int .u32 51, .int .u32 3, .int .u32 1])) (pv (r_bd (by kernel_rfl) rfl (u := .agg #[.string ⟨([100, 105, 118] : List UInt8).toArray⟩, .int .u8 82, .int .u32 51, .int .u32 4, .int .u32 1])) (pv (r_bd (by kernel_rfl) rfl (u := .agg #[.string ⟨([100, 105, 118, 117] : List UInt8).toArray⟩, .int .u8 82, .int .u32 51, .int .u32 5, .int .u32 1])) (pv (r_bd (by kernel_rfl) rfl (u := .agg #[.string ⟨([114, 101, 109] : List UInt8).toArray⟩, .int .u8 82, .int .u32 51, .int .u32 6, .int .u32 1])) (pv (r_bd (by kernel_rfl) rfl (u := .agg #[.string ⟨([114, 101, 109, 117] : List UInt8).toArray⟩, .int .u8 82, .int .u32 51, .int .u32 7, .int .u32 1])) (pv (r_bd (cells := (segF enInstShape' tbl1).toArray) (by kernel_rfl) rfl) (wl rfl (stArr (q := 0) hS1 ⟨rfl, rfl⟩ (lnBox b1) rfl rfl enInstShape'_len (fun _ => rfl) rfl rfl rfl sizeOf81 fun w2 im2 hS2 => ?_))))))))))))))))))))))))))))))))))))))))))))))))))
  refine nil (t_thenR [(0, pt b1 0)] ⟨rfl, trivial⟩ fun J => ?_)
  have hm := oI hm; subst hm
  exact rtn (retN (vs := [.agg (segF enInstShape' tbl1).toArray]) rfl ⟨rvS rfl isAgg81 sizeOf81 (segF_k enInstShape'_len rfl rfl) (hS2.segBx (i := 0) ⟨rfl, rfl⟩), trivial⟩ rfl ⟨_, rfl, _, (iT im1 im2), ⟨rfl, hS2.sel [1] rfl, trivial⟩⟩)

theorem inst_of_sim {p0 : Int} {r : InstShape} (hS : Sep g T0 w0 [R])  (hm : inst_of p0 = some r) :
    Calls Tryz.prog 48 #[iv p0] w0 (RetS T0 w0 fun T w v => v = .agg (cInstShape r).toArray ∧ Sep g T w [R] ∧ True) := by
  refine enter (args := [iv p0]) Tryz.func48 rfl Tryz.ntmps48 rfl fun J => ?_
  unfold inst_of at hm
  refine sq2 (rg (wl rfl (alS (zs := [.string ⟨([] : List UInt8).toArray⟩, .int .u8 0, .int .u32 0, .int .u32 0, .int .u32 0]) zeroValue75 rfl hS fun w1 b1 im1 hS1 => ?_)))
  refine nil (t_then ?_)
  refine sq2 (sq2 (rg (pv (r_mi rfl) (pv (r_ib rfl rfl rfl) (pv (r_mb rfl) (?_))))))
  rcases Bool.eq_false_or_eq_true (decide (p0 < 0)) with hb1 | hb1
  · have hm := ctrue hb1 hm
    refine gF (d0 := 5) rfl rfl (by rw [hb1]; rfl) (gF (d0 := 5) rfl rfl (by rw [hb1]; rfl) (pv (r_pkt rfl hb1 rfl) (nil (t_then ?_))))
    refine cnd (b := true) rfl (fun _ => ?_) (fun h => nomatch h)
    refine sq2 (rg (pv (r_bd (by kernel_rfl) rfl (u := .agg #[.string ⟨([] : List UInt8).toArray⟩, .int .u8 0, .int .u32 0, .int .u32 0, .int .u32 0])) (wl rfl (st0B (q := 0) hS1 ⟨rfl, rfl⟩ rfl rfl rfl sizeOf75 rfl rfl rfl fun w5 im5 hS5 => ?_))))
    refine nil (t_then ?_)
    have hm := oI hm; subst hm
    exact rtn (r_then (retN (vs := [.agg #[.string ⟨([] : List UInt8).toArray⟩, .int .u8 0, .int .u32 0, .int .u32 0, .int .u32 0]]) rfl ⟨rvS rfl isAgg75 sizeOf75 rfl (hS5.bx (i := 0) ⟨rfl, rfl⟩), trivial⟩ rfl ⟨_, rfl, _, (iT im1 im5), ⟨rfl, hS5.sel [1] rfl, trivial⟩⟩))
  have hm := cfalse hb1 hm
  refine gT (d0 := 5) rfl rfl hb1 (pv (r_mi rfl) (gT (d0 := 5) rfl rfl hb1 (pv (r_ib rfl rfl rfl) (pv (r_pkf rfl hb1 rfl) (nil (t_then ?_))))))
  refine cnd rfl (fun hb2 => ?_) (fun hb2 => ?_)
  · have hm := ctrue hb2 hm
    refine sq2 (rg (pv (r_bd (by kernel_rfl) rfl (u := .agg #[.string ⟨([] : List UInt8).toArray⟩, .int .u8 0, .int .u32 0, .int .u32 0, .int .u32 0])) (wl rfl (st0B (q := 0) hS1 ⟨rfl, rfl⟩ rfl rfl rfl sizeOf75 rfl rfl rfl fun w2 im2 hS2 => ?_))))
    refine nil (t_then ?_)
    have hm := oI hm; subst hm
    exact rtn (r_then (retN (vs := [.agg #[.string ⟨([] : List UInt8).toArray⟩, .int .u8 0, .int .u32 0, .int .u32 0, .int .u32 0]]) rfl ⟨rvS rfl isAgg75 sizeOf75 rfl (hS2.bx (i := 0) ⟨rfl, rfl⟩), trivial⟩ rfl ⟨_, rfl, _, (iT im1 im2), ⟨rfl, hS2.sel [1] rfl, trivial⟩⟩))
  have hm := cfalse hb2 hm
  refine skp (t_then ?_)
  refine sq2 ?_
  obtain ⟨y1, hx1, hm⟩ := bindS hm
  refine rg (wl rfl (calS cf57 rfl (inst_table_sim  (hS1.bun [0, 1] [] rfl)  hx1) rfl fun v1 T1 w3 im3 rv1 => ?_))
  obtain ⟨rfl, hS3, _⟩ := rv1
  have hS3 := hS3.unb
  obtain ⟨z_1, hln1, hm⟩ := bindS hm
  obtain ⟨u1, hx2, hm⟩ := bindS hm
  refine pv (r_mi rfl) (pv (r_axs (u := (cInstShape u1)) rfl rfl hx2 enInstShape'_len rfl (lenOk_some hln1) underlying81 sizeOf75 isAgg75) (wl rfl (st0B (q := 0) hS3 ⟨rfl, rfl⟩ rfl rfl rfl sizeOf75 rfl rfl rfl fun w4 im4 hS4 => ?_)))
  refine nil (t_then ?_)
  have hm := oI hm; subst hm
  exact rtn (retN (vs := [.agg (cInstShape u1).toArray]) rfl ⟨rvS rfl isAgg75 sizeOf75 rfl (hS4.bx (i := 0) ⟨rfl, rfl⟩), trivial⟩ rfl ⟨_, rfl, _, (iT im1 (iT im3 im4)), ⟨rfl, hS4.sel [1] rfl, trivial⟩⟩)

theorem inst_Form_sim {p0 : Int} {r : Int} (hS : Sep g T0 w0 [R])  (hm : inst_Form p0 = some r) :
    Calls Tryz.prog 19 #[iv p0] w0 (RetS T0 w0 fun T w v => v = .int .u8 r ∧ Sep g T w [R] ∧ True) := by
  refine enter (args := [iv p0]) Tryz.func19 rfl Tryz.ntmps19 rfl fun J => ?_
  unfold inst_Form at hm
  refine sq2 (rg (pv (r_zi rfl) (nil (t_then ?_))))
  refine sq2 ?_
  obtain ⟨y1, hx1, hm⟩ := bindS hm
  refine rg (pv (r_mi rfl) (wl rfl (calS cf48 rfl (inst_of_sim (p0 := p0) (hS.bun [0] [] rfl)  hx1) rfl fun v1 T1 w1 im1 rv1 => ?_)))
  obtain ⟨rfl, hS1, _⟩ := rv1
  have hS1 := hS1.unb
  refine pv (r_fd1 rfl underlying75 rfl isAgg5 rfl) (pv (r_zi rfl) (nil (t_then ?_)))
  have hm := oI hm; subst hm
  exact rtn (ret1 rfl rfl ⟨_, rfl, _, im1, ⟨rfl, hS1.sel [0] rfl, trivial⟩⟩)

theorem inst_needs_sim {p0 : Int} {r : Bool × Bool × Bool × Bool} (hS : Sep g T0 w0 [R])  (hm : inst_needs p0 = some r) :
    Calls Tryz.prog 45 #[.int .u8 p0] w0 (RetS T0 w0 fun T w v => v = .tuple #[.bool r.1, .bool r.2.1, .bool r.2.2.1, .bool r.2.2.2] ∧ Sep g T w [R] ∧ True) := by
  refine enter (args := [.int .u8 p0]) Tryz.func45 rfl Tryz.ntmps45 rfl fun J => ?_
  unfold inst_needs at hm
  refine sq2 (rg (pv (r_zb rfl) (pv (r_zb rfl) (pv (r_zb rfl) (pv (r_zb rfl) (nil (t_then ?_)))))))
  refine sq2 (rg (pv (r_zb rfl) (nil (t_then ?_))))
  obtain ⟨kk1, hkk1, hm⟩ := jn_open hm
  refine cut (fun a w1 => ∃ (J : JV) (T1 : TP) (x1 : Bool) (x2 : Bool) (x3 : Bool) (x4 : Bool), a = env (nf 22) J [(2, .bool x1), (3, .bool x2), (4, .bool x3), (5, .bool x4)] ∧ Im T0 w0 T1 w1 ∧ Sep g T1 w1 [R] ∧ kk1 x1 x2 x3 x4 = some r) ?_ ?_
  · refine sq2 (rg (pv (r_mi rfl) (nil (t_then ?_))))
    refine blk (sq2 (blk ?_))
    obtain ⟨kk2, hkk2, hm⟩ := jn_open hm
    refine cut (fun a w2 => ∃ (J : JV) (T2 : TP) (x5 : Bool) (x6 : Bool) (x7 : Bool), a = env (nf 22) J [(3, .bool x5), (4, .bool x6), (5, .bool x7)] ∧ Im T0 w0 T2 w2 ∧ Sep g T2 w2 [R] ∧ kk2 x5 x6 x7 = some r) ?_ ?_
    · refine blk ?_
      obtain ⟨kk3, hkk3, hm⟩ := jn_open hm
      refine cut (fun a w3 => ∃ (J : JV) (T3 : TP) (x8 : Bool) (x9 : Bool), a = env (nf 22) J [(4, .bool x8), (5, .bool x9)] ∧ Im T0 w0 T3 w3 ∧ Sep g T3 w3 [R] ∧ kk3 x8 x9 = some r) ?_ ?_
      · refine blk (sq2 (blk (sq2 (sq2 (sq2 (rg (pv (r_ib rfl rfl rfl) (pv (r_zb rfl) (nil (t_then ?_))))))))))
        refine cnd rfl (fun hb1 => ?_) (fun hb1 => ?_)
        · have hm := ctrue hb1 hm
          refine xt (x_then (x_then (x_eq (t_then ?_))))
          exact rg (pv (r_zb rfl) (pv (r_zb rfl) (nil (t_blk (t_then ⟨_, _, true, false, env_has ⟨rfl, rfl, trivial⟩, Im.refl, hS.sel [0] rfl, hm⟩)))))
        have hm := cfalse hb1 hm
        refine skp (t_then ?_)
        refine sq2 ?_
        obtain ⟨kk4, hkk4, hm⟩ := jn_open hm
        refine cut (fun a w4 => ∃ (J : JV) (T4 : TP) (x10 : Bool), a = env (nf 22) J [(2, .bool false), (3, .bool false), (4, .bool false), (5, .bool true), (6, .int .u8 p0), (9, .bool x10)] ∧ Im T0 w0 T4 w4 ∧ Sep g T4 w4 [R] ∧ kk4 x10 = some r) ?_ ?_
        · refine sq2 (rg (pv (r_ib rfl rfl rfl) (pv (r_zb rfl) (nil (t_then ?_)))))
          refine cnd rfl (fun hb2 => ?_) (fun hb2 => ?_)
          · have hm := ctrue hb2 hm
            exact skp (t_then ⟨_, _, (p0 == 73), env_has ⟨rfl, rfl, rfl, rfl, rfl, rfl, trivial⟩, Im.refl, hS.sel [0] rfl, hm⟩)
          have hm := cfalse hb2 hm
          exact rg (pv (r_ib rfl rfl rfl) (pv (r_zb rfl) (nil (t_then ⟨_, _, (p0 == 72), env_has ⟨rfl, rfl, rfl, rfl, rfl, rfl, trivial⟩, Im.refl, hS.sel [0] rfl, hm⟩))))
        rintro _ w4 ⟨J, T4, x10, rfl, im4, hS1, hm⟩
        rw [hkk4] at hm
        refine cnd rfl (fun hb3 => ?_) (fun hb3 => ?_)
        · have hm := ctrue hb3 hm
          exact xt (x_then (x_then (x_ne (by decide) (x_then (x_eq (t_then ⟨_, _, false, true, env_has ⟨rfl, rfl, trivial⟩, im4, hS1.sel [0] rfl, hm⟩))))))
        have hm := cfalse hb3 hm
        refine skp (t_then ?_)
        refine sq2 ?_
        obtain ⟨kk5, hkk5, hm⟩ := jn_open hm
        refine cut (fun a w5 => ∃ (J : JV) (T5 : TP) (x11 : Bool), a = env (nf 22) J [(2, .bool false), (3, .bool false), (4, .bool false), (5, .bool true), (6, .int .u8 p0), (12, .bool x11)] ∧ Im T4 w4 T5 w5 ∧ Sep g T5 w5 [R] ∧ kk5 x11 = some r) ?_ ?_
        · refine sq2 (rg (pv (r_ib rfl rfl rfl) (pv (r_zb rfl) (nil (t_then ?_)))))
          refine cnd rfl (fun hb4 => ?_) (fun hb4 => ?_)
          · have hm := ctrue hb4 hm
            exact skp (t_then ⟨_, _, (p0 == 85), env_has ⟨rfl, rfl, rfl, rfl, rfl, rfl, trivial⟩, Im.refl, hS1.sel [0] rfl, hm⟩)
          have hm := cfalse hb4 hm
          exact rg (pv (r_ib rfl rfl rfl) (pv (r_zb rfl) (nil (t_then ⟨_, _, (p0 == 74), env_has ⟨rfl, rfl, rfl, rfl, rfl, rfl, trivial⟩, Im.refl, hS1.sel [0] rfl, hm⟩))))
        rintro _ w5 ⟨J, T5, x11, rfl, im5, hS2, hm⟩
        rw [hkk5] at hm
        refine cnd rfl (fun hb5 => ?_) (fun hb5 => ?_)
        · have hm := ctrue hb5 hm
          exact xt (x_then (x_then (x_ne (by decide) (x_then (x_ne (by decide) (x_then (x_eq (t_then ⟨_, _, false, false, true, env_has ⟨rfl, rfl, rfl, trivial⟩, (iT im4 im5), hS2.sel [0] rfl, hm⟩))))))))
        have hm := cfalse hb5 hm
        refine skp (t_then ?_)
        obtain ⟨kk6, hkk6, hm⟩ := jn_open hm
        refine cut (fun a w6 => ∃ (J : JV) (T6 : TP) (x12 : Bool), a = env (nf 22) J [(2, .bool false), (3, .bool false), (4, .bool false), (5, .bool true), (15, .bool x12)] ∧ Im T5 w5 T6 w6 ∧ Sep g T6 w6 [R] ∧ kk6 x12 = some r) ?_ ?_
        · refine sq2 (rg (pv (r_ib rfl rfl rfl) (pv (r_zb rfl) (nil (t_then ?_)))))
          refine cnd rfl (fun hb6 => ?_) (fun hb6 => ?_)
          · have hm := ctrue hb6 hm
            exact skp (t_then ⟨_, _, (p0 == 83), env_has ⟨rfl, rfl, rfl, rfl, rfl, trivial⟩, Im.refl, hS2.sel [0] rfl, hm⟩)
          have hm := cfalse hb6 hm
          exact rg (pv (r_ib rfl rfl rfl) (pv (r_zb rfl) (nil (t_then ⟨_, _, (p0 == 66), env_has ⟨rfl, rfl, rfl, rfl, rfl, trivial⟩, Im.refl, hS2.sel [0] rfl, hm⟩))))
        rintro _ w6 ⟨J, T6, x12, rfl, im6, hS3, hm⟩
        rw [hkk6] at hm
        refine cnd rfl (fun hb7 => ?_) (fun hb7 => ?_)
        · have hm := ctrue hb7 hm
          refine xt (x_then (x_ne (by decide) (x_then (x_ne (by decide) (x_then (x_ne (by decide) (x_then (x_eq (t_then ?_)))))))))
          refine sq2 (rg (pv (r_zb rfl) (pv (r_zb rfl) (nil (t_then ?_)))))
          exact xt (x_eq (t_then ⟨_, _, false, true, true, true, env_has ⟨rfl, rfl, rfl, rfl, trivial⟩, (iT im4 (iT im5 im6)), hS3.sel [0] rfl, hm⟩))
        have hm := cfalse hb7 hm
        refine skp (t_then ?_)
        exact xt (x_ne (by decide) (x_then (x_ne (by decide) (x_then (x_ne (by decide) (x_then (x_ne (by decide) (x_then (x_eq (t_then ⟨_, _, false, false, false, true, env_has ⟨rfl, rfl, rfl, rfl, trivial⟩, (iT im4 (iT im5 im6)), hS3.sel [0] rfl, hm⟩))))))))))
      rintro _ w3 ⟨J, T3, x8, x9, rfl, im3, hS4, hm⟩
      rw [hkk3] at hm
      exact rg (pv (r_zb rfl) (nil (t_blk (t_then ⟨_, _, true, x8, x9, env_has ⟨rfl, rfl, rfl, trivial⟩, im3, hS4.sel [0] rfl, hm⟩))))
    rintro _ w2 ⟨J, T2, x5, x6, x7, rfl, im2, hS5, hm⟩
    rw [hkk2] at hm
    refine sq2 (rg (pv (r_zb rfl) (nil (t_then ?_))))
    exact xt (x_ne (by decide) (x_then (x_eq (t_then ⟨_, _, true, x5, x6, x7, env_has ⟨rfl, rfl, rfl, rfl, trivial⟩, im2, hS5.sel [0] rfl, hm⟩))))
  rintro _ w1 ⟨J, T1, x1, x2, x3, x4, rfl, im1, hS6, hm⟩
  rw [hkk1] at hm
  refine sq2 (rg (pv (r_mb rfl) (pv (r_mb rfl) (pv (r_mb rfl) (pv (r_mb rfl) (pv (r_zb rfl) (pv (r_zb rfl) (pv (r_zb rfl) (pv (r_zb rfl) (nil (t_then ?_)))))))))))
  have hm := oI hm; subst hm
  exact rtn (retN (vs := [.bool x1, .bool x2, .bool x3, .bool x4]) rfl ⟨rfl, rfl, rfl, rfl, trivial⟩ rfl ⟨_, rfl, _, im1, ⟨rfl, hS6.sel [0] rfl, trivial⟩⟩)

theorem inst_register_sim {p0 : Int} {p1 : Bool} {r : Bool} (hS : Sep g T0 w0 [R])  (hm : inst_register p0 p1 = some r) :
    Calls Tryz.prog 46 #[iv p0, .bool p1] w0 (RetS T0 w0 fun T w v => v = .bool r ∧ Sep g T w [R] ∧ True) := by
  refine enter (args := [iv p0, .bool p1]) Tryz.func46 rfl Tryz.ntmps46 rfl fun J => ?_
  unfold inst_register at hm
  refine sq2 (rg (pv (r_zb rfl) (nil (t_then ?_))))
  refine sq2 (rg (pv (r_mi rfl) (pv (r_ib rfl rfl rfl) (pv (r_mb rfl) (?_)))))
  rcases Bool.eq_false_or_eq_true (p0 == 0) with hb1 | hb1
  · have hm := ctrue hb1 hm
    refine gF (d0 := 7) rfl rfl (by rw [hb1]; rfl) (gF (d0 := 7) rfl rfl (by rw [hb1]; rfl) (gU (d0 := 9) rfl rfl (gU (d0 := 9) rfl rfl (gF (d0 := 7) rfl rfl (by rw [hb1]; rfl) (gF (d0 := 7) rfl rfl (by rw [hb1]; rfl) (gU (d0 := 13) rfl rfl (gU (d0 := 13) rfl rfl (gF (d0 := 7) rfl rfl (by rw [hb1]; rfl) (pv (r_pkt rfl hb1 rfl) (pv (r_zb rfl) (nil (t_then ?_))))))))))))
    have hm := oI hm; subst hm
    exact rtn (ret1 rfl rfl ⟨_, rfl, _, Im.refl, ⟨rfl, hS.sel [0] rfl, trivial⟩⟩)
  have hm := cfalse hb1 hm
  refine gT (d0 := 7) rfl rfl hb1 (pv (r_mb rfl) (gT (d0 := 7) rfl rfl hb1 (pv (r_mb rfl) (?_))))
  rcases Bool.eq_false_or_eq_true p1 with hb2 | hb2
  · have hm := ctrue hb2 hm
    refine gT (d0 := 9) rfl rfl hb2 (pv (r_mi rfl) (gT (d0 := 9) rfl rfl hb2 (pv (r_ib rfl rfl rfl) (gT (d0 := 7) rfl rfl hb1 (pv (r_pkt rfl hb2 rfl) (gT (d0 := 7) rfl rfl hb1 (pv (r_mb rfl) (?_))))))))
    rcases Bool.eq_false_or_eq_true (decide (0 < p0)) with hb3 | hb3
    · have hm := ctrue hb3 hm
      refine gT (d0 := 13) rfl rfl hb3 (pv (r_mi rfl) (gT (d0 := 13) rfl rfl hb3 (pv (r_ib rfl rfl rfl) (gT (d0 := 7) rfl rfl hb1 (pv (r_pkt rfl hb3 rfl) (pv (r_pkf rfl hb1 rfl) (pv (r_zb rfl) (nil (t_then ?_)))))))))
      have hm := oI hm; subst hm
      exact rtn (ret1 rfl rfl ⟨_, rfl, _, Im.refl, ⟨rfl, hS.sel [0] rfl, trivial⟩⟩)
    have hm := cfalse hb3 hm
    refine gF (d0 := 13) rfl rfl (by rw [hb3]; rfl) (gF (d0 := 13) rfl rfl (by rw [hb3]; rfl) (gT (d0 := 7) rfl rfl hb1 (pv (r_pkf rfl hb3 rfl) (pv (r_pkf rfl hb1 rfl) (pv (r_zb rfl) (nil (t_then ?_)))))))
    have hm := oI hm; subst hm
    exact rtn (ret1 rfl rfl ⟨_, rfl, _, Im.refl, ⟨rfl, hS.sel [0] rfl, trivial⟩⟩)
  have hm := cfalse hb2 hm
  refine gF (d0 := 9) rfl rfl (by rw [hb2]; rfl) (gF (d0 := 9) rfl rfl (by rw [hb2]; rfl) (gT (d0 := 7) rfl rfl hb1 (pv (r_pkf rfl hb2 rfl) (gT (d0 := 7) rfl rfl hb1 (pv (r_mb rfl) (gF (d0 := 13) rfl rfl rfl (gF (d0 := 13) rfl rfl rfl (gT (d0 := 7) rfl rfl hb1 (pv (r_pkf rfl rfl rfl) (pv (r_pkf rfl hb1 rfl) (pv (r_zb rfl) (nil (t_then ?_)))))))))))))
  have hm := oI hm; subst hm
  exact rtn (ret1 rfl rfl ⟨_, rfl, _, Im.refl, ⟨rfl, hS.sel [0] rfl, trivial⟩⟩)

theorem inst_reaches_sim {p0 : Int} {p1 : Int} {r : Bool} (hS : Sep g T0 w0 [R])  (hm : inst_reaches p0 p1 = some r) :
    Calls Tryz.prog 47 #[.int .u8 p0, iv p1] w0 (RetS T0 w0 fun T w v => v = .bool r ∧ Sep g T w [R] ∧ True) := by
  refine enter (args := [.int .u8 p0, iv p1]) Tryz.func47 rfl Tryz.ntmps47 rfl fun J => ?_
  unfold inst_reaches at hm
  refine sq2 (rg (pv (r_zb rfl) (nil (t_then ?_))))
  refine sq2 (sq2 (rg (pv (r_mi rfl) (nil (t_then ?_)))))
  refine blk (sq2 (rg (pv (r_ib rfl rfl rfl) (pv (r_zb rfl) (nil (t_then ?_))))))
  refine cnd rfl (fun hb1 => ?_) (fun hb1 => ?_)
  · have hm := ctrue hb1 hm
    refine sq2 (rg (pv (r_mi rfl) (pv (r_ib rfl rfl rfl) (pv (r_mb rfl) (?_)))))
    rcases Bool.eq_false_or_eq_true (decide ((-2147483648) ≤ p1)) with hb2 | hb2
    · have hm := ctrue hb2 hm
      refine gT (d0 := 10) rfl rfl hb2 (pv (r_mi rfl) (gT (d0 := 10) rfl rfl hb2 (pv (r_ib rfl rfl rfl) (pv (r_pkt rfl hb2 rfl) (pv (r_mb rfl) (?_))))))
      rcases Bool.eq_false_or_eq_true (decide (p1 < 2147483648)) with hb3 | hb3
      · have hm := ctrue hb3 hm
        refine gT (d0 := 14) rfl rfl hb3 (pv (r_mi rfl) (gT (d0 := 14) rfl rfl hb3 (pv (r_irm rfl rfl (by decide)) (gT (d0 := 14) rfl rfl hb3 (pv (r_ib rfl rfl rfl) (pv (r_pkt rfl hb3 rfl) (pv (r_zb rfl) (nil (t_then ?_)))))))))
        have hm := oI hm; subst hm
        exact rtn (r_blk (r_then (ret1 rfl rfl ⟨_, rfl, _, Im.refl, ⟨rfl, hS.sel [0] rfl, trivial⟩⟩)))
      have hm := cfalse hb3 hm
      refine gF (d0 := 14) rfl rfl (by rw [hb3]; rfl) (gF (d0 := 14) rfl rfl (by rw [hb3]; rfl) (gF (d0 := 14) rfl rfl (by rw [hb3]; rfl) (pv (r_pkf rfl hb3 rfl) (pv (r_zb rfl) (nil (t_then ?_))))))
      have hm := oI hm; subst hm
      exact rtn (r_blk (r_then (ret1 rfl rfl ⟨_, rfl, _, Im.refl, ⟨rfl, hS.sel [0] rfl, trivial⟩⟩)))
    have hm := cfalse hb2 hm
    refine gF (d0 := 10) rfl rfl (by rw [hb2]; rfl) (gF (d0 := 10) rfl rfl (by rw [hb2]; rfl) (pv (r_pkf rfl hb2 rfl) (pv (r_mb rfl) (gF (d0 := 14) rfl rfl rfl (gF (d0 := 14) rfl rfl rfl (gF (d0 := 14) rfl rfl rfl (pv (r_pkf rfl rfl rfl) (pv (r_zb rfl) (nil (t_then ?_))))))))))
    have hm := oI hm; subst hm
    exact rtn (r_blk (r_then (ret1 rfl rfl ⟨_, rfl, _, Im.refl, ⟨rfl, hS.sel [0] rfl, trivial⟩⟩)))
  have hm := cfalse hb1 hm
  refine sq2 (rg (pv (r_ib rfl rfl rfl) (pv (r_zb rfl) (nil (t_then ?_)))))
  refine cnd rfl (fun hb4 => ?_) (fun hb4 => ?_)
  · have hm := ctrue hb4 hm
    refine sq2 (rg (pv (r_mi rfl) (pv (r_ib rfl rfl rfl) (pv (r_mb rfl) (?_)))))
    rcases Bool.eq_false_or_eq_true (decide ((-1048576) ≤ p1)) with hb5 | hb5
    · have hm := ctrue hb5 hm
      refine gT (d0 := 23) rfl rfl hb5 (pv (r_mi rfl) (gT (d0 := 23) rfl rfl hb5 (pv (r_ib rfl rfl rfl) (pv (r_pkt rfl hb5 rfl) (pv (r_mb rfl) (?_))))))
      rcases Bool.eq_false_or_eq_true (decide (p1 < 1048576)) with hb6 | hb6
      · have hm := ctrue hb6 hm
        refine gT (d0 := 27) rfl rfl hb6 (pv (r_mi rfl) (gT (d0 := 27) rfl rfl hb6 (pv (r_irm rfl rfl (by decide)) (gT (d0 := 27) rfl rfl hb6 (pv (r_ib rfl rfl rfl) (pv (r_pkt rfl hb6 rfl) (pv (r_zb rfl) (nil (t_then ?_)))))))))
        have hm := oI hm; subst hm
        exact rtn (r_blk (r_then (ret1 rfl rfl ⟨_, rfl, _, Im.refl, ⟨rfl, hS.sel [0] rfl, trivial⟩⟩)))
      have hm := cfalse hb6 hm
      refine gF (d0 := 27) rfl rfl (by rw [hb6]; rfl) (gF (d0 := 27) rfl rfl (by rw [hb6]; rfl) (gF (d0 := 27) rfl rfl (by rw [hb6]; rfl) (pv (r_pkf rfl hb6 rfl) (pv (r_zb rfl) (nil (t_then ?_))))))
      have hm := oI hm; subst hm
      exact rtn (r_blk (r_then (ret1 rfl rfl ⟨_, rfl, _, Im.refl, ⟨rfl, hS.sel [0] rfl, trivial⟩⟩)))
    have hm := cfalse hb5 hm
    refine gF (d0 := 23) rfl rfl (by rw [hb5]; rfl) (gF (d0 := 23) rfl rfl (by rw [hb5]; rfl) (pv (r_pkf rfl hb5 rfl) (pv (r_mb rfl) (gF (d0 := 27) rfl rfl rfl (gF (d0 := 27) rfl rfl rfl (gF (d0 := 27) rfl rfl rfl (pv (r_pkf rfl rfl rfl) (pv (r_zb rfl) (nil (t_then ?_))))))))))
    have hm := oI hm; subst hm
    exact rtn (r_blk (r_then (ret1 rfl rfl ⟨_, rfl, _, Im.refl, ⟨rfl, hS.sel [0] rfl, trivial⟩⟩)))
  have hm := cfalse hb4 hm
  obtain ⟨kk1, hkk1, hm⟩ := jn_open hm
  refine cut (fun a w1 => ∃ (J : JV) (T1 : TP) (x1 : Bool), a = env (nf 64) J [(1, iv p1), (5, .int .u8 p0), (32, .bool x1)] ∧ Im T0 w0 T1 w1 ∧ Sep g T1 w1 [R] ∧ kk1 x1 = some r) ?_ ?_
  · refine sq2 (rg (pv (r_ib rfl rfl rfl) (pv (r_zb rfl) (nil (t_then ?_)))))
    refine cnd rfl (fun hb7 => ?_) (fun hb7 => ?_)
    · have hm := ctrue hb7 hm
      exact skp (t_then ⟨_, _, (p0 == 73), env_has ⟨rfl, rfl, rfl, trivial⟩, Im.refl, hS.sel [0] rfl, hm⟩)
    have hm := cfalse hb7 hm
    exact rg (pv (r_ib rfl rfl rfl) (pv (r_zb rfl) (nil (t_then ⟨_, _, (p0 == 83), env_has ⟨rfl, rfl, rfl, trivial⟩, Im.refl, hS.sel [0] rfl, hm⟩))))
  rintro _ w1 ⟨J, T1, x1, rfl, im1, hS1, hm⟩
  rw [hkk1] at hm
  refine cnd rfl (fun hb8 => ?_) (fun hb8 => ?_)
  · have hm := ctrue hb8 hm
    refine sq2 (rg (pv (r_mi rfl) (pv (r_ib rfl rfl rfl) (pv (r_mb rfl) (?_)))))
    rcases Bool.eq_false_or_eq_true (decide ((-2048) ≤ p1)) with hb9 | hb9
    · have hm := ctrue hb9 hm
      refine gT (d0 := 37) rfl rfl hb9 (pv (r_mi rfl) (gT (d0 := 37) rfl rfl hb9 (pv (r_ib rfl rfl rfl) (pv (r_pkt rfl hb9 rfl) (pv (r_zb rfl) (nil (t_then ?_)))))))
      have hm := oI hm; subst hm
      exact rtn (r_blk (r_then (ret1 rfl rfl ⟨_, rfl, _, im1, ⟨rfl, hS1.sel [0] rfl, trivial⟩⟩)))
    have hm := cfalse hb9 hm
    refine gF (d0 := 37) rfl rfl (by rw [hb9]; rfl) (gF (d0 := 37) rfl rfl (by rw [hb9]; rfl) (pv (r_pkf rfl hb9 rfl) (pv (r_zb rfl) (nil (t_then ?_)))))
    have hm := oI hm; subst hm
    exact rtn (r_blk (r_then (ret1 rfl rfl ⟨_, rfl, _, im1, ⟨rfl, hS1.sel [0] rfl, trivial⟩⟩)))
  have hm := cfalse hb8 hm
  refine sq2 (rg (pv (r_ib rfl rfl rfl) (pv (r_zb rfl) (nil (t_then ?_)))))
  refine cnd rfl (fun hb10 => ?_) (fun hb10 => ?_)
  · have hm := ctrue hb10 hm
    refine sq2 (rg (pv (r_mi rfl) (pv (r_ib rfl rfl rfl) (pv (r_mb rfl) (?_)))))
    rcases Bool.eq_false_or_eq_true (decide (0 ≤ p1)) with hb11 | hb11
    · have hm := ctrue hb11 hm
      refine gT (d0 := 45) rfl rfl hb11 (pv (r_mi rfl) (gT (d0 := 45) rfl rfl hb11 (pv (r_ib rfl rfl rfl) (pv (r_pkt rfl hb11 rfl) (pv (r_zb rfl) (nil (t_then ?_)))))))
      have hm := oI hm; subst hm
      exact rtn (r_blk (r_then (ret1 rfl rfl ⟨_, rfl, _, im1, ⟨rfl, hS1.sel [0] rfl, trivial⟩⟩)))
    have hm := cfalse hb11 hm
    refine gF (d0 := 45) rfl rfl (by rw [hb11]; rfl) (gF (d0 := 45) rfl rfl (by rw [hb11]; rfl) (pv (r_pkf rfl hb11 rfl) (pv (r_zb rfl) (nil (t_then ?_)))))
    have hm := oI hm; subst hm
    exact rtn (r_blk (r_then (ret1 rfl rfl ⟨_, rfl, _, im1, ⟨rfl, hS1.sel [0] rfl, trivial⟩⟩)))
  have hm := cfalse hb10 hm
  refine sq2 (rg (pv (r_ib rfl rfl rfl) (pv (r_zb rfl) (nil (t_then ?_)))))
  refine cnd rfl (fun hb12 => ?_) (fun hb12 => ?_)
  · have hm := ctrue hb12 hm
    refine sq2 (rg (pv (r_mi rfl) (pv (r_ib rfl rfl rfl) (pv (r_mb rfl) (?_)))))
    rcases Bool.eq_false_or_eq_true (decide ((-4096) ≤ p1)) with hb13 | hb13
    · have hm := ctrue hb13 hm
      refine gT (d0 := 53) rfl rfl hb13 (pv (r_mi rfl) (gT (d0 := 53) rfl rfl hb13 (pv (r_ib rfl rfl rfl) (pv (r_pkt rfl hb13 rfl) (pv (r_mb rfl) (?_))))))
      rcases Bool.eq_false_or_eq_true (decide (p1 < 4096)) with hb14 | hb14
      · have hm := ctrue hb14 hm
        refine gT (d0 := 57) rfl rfl hb14 (pv (r_mi rfl) (gT (d0 := 57) rfl rfl hb14 (pv (r_irm rfl rfl (by decide)) (gT (d0 := 57) rfl rfl hb14 (pv (r_ib rfl rfl rfl) (pv (r_pkt rfl hb14 rfl) (pv (r_zb rfl) (nil (t_then ?_)))))))))
        have hm := oI hm; subst hm
        exact rtn (r_blk (r_then (ret1 rfl rfl ⟨_, rfl, _, im1, ⟨rfl, hS1.sel [0] rfl, trivial⟩⟩)))
      have hm := cfalse hb14 hm
      refine gF (d0 := 57) rfl rfl (by rw [hb14]; rfl) (gF (d0 := 57) rfl rfl (by rw [hb14]; rfl) (gF (d0 := 57) rfl rfl (by rw [hb14]; rfl) (pv (r_pkf rfl hb14 rfl) (pv (r_zb rfl) (nil (t_then ?_))))))
      have hm := oI hm; subst hm
      exact rtn (r_blk (r_then (ret1 rfl rfl ⟨_, rfl, _, im1, ⟨rfl, hS1.sel [0] rfl, trivial⟩⟩)))
    have hm := cfalse hb13 hm
    refine gF (d0 := 53) rfl rfl (by rw [hb13]; rfl) (gF (d0 := 53) rfl rfl (by rw [hb13]; rfl) (pv (r_pkf rfl hb13 rfl) (pv (r_mb rfl) (gF (d0 := 57) rfl rfl rfl (gF (d0 := 57) rfl rfl rfl (gF (d0 := 57) rfl rfl rfl (pv (r_pkf rfl rfl rfl) (pv (r_zb rfl) (nil (t_then ?_))))))))))
    have hm := oI hm; subst hm
    exact rtn (r_blk (r_then (ret1 rfl rfl ⟨_, rfl, _, im1, ⟨rfl, hS1.sel [0] rfl, trivial⟩⟩)))
  have hm := cfalse hb12 hm
  refine skp (t_blk (t_then ?_))
  refine sq2 (rg (pv (r_mi rfl) (pv (r_ib rfl rfl rfl) (pv (r_zb rfl) (nil (t_then ?_))))))
  have hm := oI hm; subst hm
  exact rtn (ret1 rfl rfl ⟨_, rfl, _, im1, ⟨rfl, hS1.sel [0] rfl, trivial⟩⟩)

theorem inst_Right_sim {p0 : GInst} {r : Bool} (hS : Sep g T0 w0 [R])  (hm : inst_Right p0 = some r) :
    Calls Tryz.prog 15 #[.agg (cGInst p0).toArray] w0 (RetS T0 w0 fun T w v => v = .bool r ∧ Sep g T w [R] ∧ True) := by
  refine enter (args := [.agg (cGInst p0).toArray]) Tryz.func15 rfl Tryz.ntmps15 rfl fun J => ?_
  unfold inst_Right at hm
  refine sq2 (rg (wl rfl (bxS (cs := (cGInst p0)) rfl rfl hS fun w1 b1 im1 hS1 => ?_)))
  refine pv (r_zb rfl) (nil (t_then ?_))
  refine sq2 ?_
  obtain ⟨y1, hx1, hm⟩ := bindS hm
  refine rg (pv (r_fa rfl underlying23 rfl sizeOf3 rfl) (pv (r_ld rfl isAgg3 (hS1.cell0 (i := 0) ⟨rfl, rfl⟩ (j := 0) rfl)) (wl rfl (calS cf19 rfl (inst_Form_sim (p0 := p0.Op) (hS1.bun [0, 1] [] rfl)  hx1) rfl fun v1 T1 w2 im2 rv1 => ?_))))
  obtain ⟨rfl, hS2, _⟩ := rv1
  have hS2 := hS2.unb
  refine pv (r_zi rfl) (nil (t_then ?_))
  refine sq2 (sq2 (rg (pv (r_mi rfl) (pv (r_ib rfl rfl rfl) (nil (t_then ?_))))))
  refine cnd rfl (fun hb1 => ?_) (fun hb1 => ?_)
  · have hm := ctrue hb1 hm
    refine sq2 (rg (pv (r_zb rfl) (nil (t_then ?_))))
    have hm := oI hm; subst hm
    exact rtn (r_then (ret1 rfl rfl ⟨_, rfl, _, (iT im1 im2), ⟨rfl, hS2.sel [1] rfl, trivial⟩⟩))
  have hm := cfalse hb1 hm
  refine skp (t_then ?_)
  refine sq2 ?_
  obtain ⟨y2, hx2, hm⟩ := bindS hm
  refine rg (pv (r_mi rfl) (wl rfl (calS cf45 rfl (inst_needs_sim (p0 := y1) (hS2.bun [0, 1] [] rfl)  hx2) rfl fun v2 T2 w3 im3 rv2 => ?_)))
  obtain ⟨rfl, hS3, _⟩ := rv2
  have hS3 := hS3.unb
  refine pv (r_mv rfl) (pv (r_ex (v := .bool y2.1) rfl rfl) (pv (r_ex (v := .bool y2.2.1) rfl rfl) (pv (r_ex (v := .bool y2.2.2.1) rfl rfl) (pv (r_ex (v := .bool y2.2.2.2) rfl rfl) (pv (r_zb rfl) (pv (r_zb rfl) (pv (r_zb rfl) (pv (r_zb rfl) (nil (t_then ?_))))))))))
  refine sq2 ?_
  obtain ⟨y3, hx3, hm⟩ := bindS hm
  refine rg (pv (r_fa rfl underlying23 rfl sizeOf3 rfl) (pv (r_ld rfl isAgg3 (hS3.cell0 (i := 0) ⟨rfl, rfl⟩ (j := 1) rfl)) (pv (r_mb rfl) (wl rfl (calS cf46 rfl (inst_register_sim (p0 := p0.Rd) (p1 := y2.1) (hS3.bun [0, 1] [] rfl)  hx3) rfl fun v3 T3 w4 im4 rv3 => ?_)))))
  obtain ⟨rfl, hS4, _⟩ := rv3
  have hS4 := hS4.unb
  refine pv (r_mb rfl) (?_)
  rcases Bool.eq_false_or_eq_true y3 with hb2 | hb2
  · have hm := ctrue hb2 hm
    obtain ⟨y4, hx4, hm⟩ := bindS hm
    refine gT (d0 := 24) rfl rfl hb2 (pv (r_fa rfl underlying23 rfl sizeOf3 rfl) (gT (d0 := 24) rfl rfl hb2 (pv (r_ld rfl isAgg3 (hS4.cell0 (i := 0) ⟨rfl, rfl⟩ (j := 2) rfl)) (gT (d0 := 24) rfl rfl hb2 (pv (r_mb rfl) (gT (d0 := 24) rfl rfl hb2 (wl rfl (calS cf46 rfl (inst_register_sim (p0 := p0.Rs1) (p1 := y2.2.1) (hS4.bun [0, 1] [] rfl)  hx4) rfl fun v4 T4 w5 im5 rv4 => ?_))))))))
    obtain ⟨rfl, hS5, _⟩ := rv4
    have hS5 := hS5.unb
    refine pv (r_pkt rfl hb2 rfl) (pv (r_mb rfl) (?_))
    rcases Bool.eq_false_or_eq_true y4 with hb3 | hb3
    · have hm := ctrue hb3 hm
      obtain ⟨y5, hx5, hm⟩ := bindS hm
      refine gT (d0 := 30) rfl rfl hb3 (pv (r_fa rfl underlying23 rfl sizeOf3 rfl) (gT (d0 := 30) rfl rfl hb3 (pv (r_ld rfl isAgg3 (hS5.cell0 (i := 0) ⟨rfl, rfl⟩ (j := 3) rfl)) (gT (d0 := 30) rfl rfl hb3 (pv (r_mb rfl) (gT (d0 := 30) rfl rfl hb3 (wl rfl (calS cf46 rfl (inst_register_sim (p0 := p0.Rs2) (p1 := y2.2.2.1) (hS5.bun [0, 1] [] rfl)  hx5) rfl fun v5 T5 w6 im6 rv5 => ?_))))))))
      obtain ⟨rfl, hS6, _⟩ := rv5
      have hS6 := hS6.unb
      refine pv (r_pkt rfl hb3 rfl) (pv (r_mb rfl) (?_))
      rcases Bool.eq_false_or_eq_true y5 with hb4 | hb4
      · have hm := ctrue hb4 hm
        obtain ⟨y6, hx6, hm⟩ := bindS hm
        refine gT (d0 := 36) rfl rfl hb4 (pv (r_mi rfl) (gT (d0 := 36) rfl rfl hb4 (pv (r_fa rfl underlying23 rfl sizeOf3 rfl) (gT (d0 := 36) rfl rfl hb4 (pv (r_ld rfl isAgg3 (hS6.cell0 (i := 0) ⟨rfl, rfl⟩ (j := 4) rfl)) (gT (d0 := 36) rfl rfl hb4 (wl rfl (calS cf47 rfl (inst_reaches_sim (p0 := y1) (p1 := p0.Imm) (hS6.bun [1] [] rfl)  hx6) rfl fun v6 T6 w7 im7 rv6 => ?_))))))))
        obtain ⟨rfl, hS7, _⟩ := rv6
        have hS7 := hS7.unb
        refine pv (r_pkt rfl hb4 rfl) (pv (r_zb rfl) (nil (t_thenR [(2, .bool y6)] ⟨rfl, trivial⟩ fun J => ?_)))
        have hm := oI hm; subst hm
        exact rtn (ret1 rfl rfl ⟨_, rfl, _, (iT im1 (iT im2 (iT im3 (iT im4 (iT im5 (iT im6 im7)))))), ⟨rfl, hS7.sel [0] rfl, trivial⟩⟩)
      have hm := cfalse hb4 hm
      refine gF (d0 := 36) rfl rfl (by rw [hb4]; rfl) (gF (d0 := 36) rfl rfl (by rw [hb4]; rfl) (gF (d0 := 36) rfl rfl (by rw [hb4]; rfl) (gF (d0 := 36) rfl rfl (by rw [hb4]; rfl) (pv (r_pkf rfl hb4 rfl) (pv (r_zb rfl) (nil (t_thenR [(2, .bool false)] ⟨rfl, trivial⟩ fun J => ?_)))))))
      have hm := oI hm; subst hm
      exact rtn (ret1 rfl rfl ⟨_, rfl, _, (iT im1 (iT im2 (iT im3 (iT im4 (iT im5 im6))))), ⟨rfl, hS6.sel [1] rfl, trivial⟩⟩)
    have hm := cfalse hb3 hm
    refine gF (d0 := 30) rfl rfl (by rw [hb3]; rfl) (gF (d0 := 30) rfl rfl (by rw [hb3]; rfl) (gF (d0 := 30) rfl rfl (by rw [hb3]; rfl) (gF (d0 := 30) rfl rfl (by rw [hb3]; rfl) (pv (r_pkf rfl hb3 rfl) (pv (r_mb rfl) (gF (d0 := 36) rfl rfl rfl (gF (d0 := 36) rfl rfl rfl (gF (d0 := 36) rfl rfl rfl (gF (d0 := 36) rfl rfl rfl (pv (r_pkf rfl rfl rfl) (pv (r_zb rfl) (nil (t_thenR [(2, .bool false)] ⟨rfl, trivial⟩ fun J => ?_)))))))))))))
    have hm := oI hm; subst hm
    exact rtn (ret1 rfl rfl ⟨_, rfl, _, (iT im1 (iT im2 (iT im3 (iT im4 im5)))), ⟨rfl, hS5.sel [1] rfl, trivial⟩⟩)
  have hm := cfalse hb2 hm
  refine gF (d0 := 24) rfl rfl (by rw [hb2]; rfl) (gF (d0 := 24) rfl rfl (by rw [hb2]; rfl) (gF (d0 := 24) rfl rfl (by rw [hb2]; rfl) (gF (d0 := 24) rfl rfl (by rw [hb2]; rfl) (pv (r_pkf rfl hb2 rfl) (pv (r_mb rfl) (gF (d0 := 30) rfl rfl rfl (gF (d0 := 30) rfl rfl rfl (gF (d0 := 30) rfl rfl rfl (gF (d0 := 30) rfl rfl rfl (pv (r_pkf rfl rfl rfl) (pv (r_mb rfl) (gF (d0 := 36) rfl rfl rfl (gF (d0 := 36) rfl rfl rfl (gF (d0 := 36) rfl rfl rfl (gF (d0 := 36) rfl rfl rfl (pv (r_pkf rfl rfl rfl) (pv (r_zb rfl) (nil (t_thenR [(2, .bool false)] ⟨rfl, trivial⟩ fun J => ?_)))))))))))))))))))
  have hm := oI hm; subst hm
  exact rtn (ret1 rfl rfl ⟨_, rfl, _, (iT im1 (iT im2 (iT im3 im4))), ⟨rfl, hS4.sel [1] rfl, trivial⟩⟩)

theorem inst_Name_sim {p0 : Int} {r : (List UInt8)} (hS : Sep g T0 w0 [R])  (hm : inst_Name p0 = some r) :
    Calls Tryz.prog 16 #[iv p0] w0 (RetS T0 w0 fun T w v => v = .string ⟨r.toArray⟩ ∧ Sep g T w [R] ∧ True) := by
  refine enter (args := [iv p0]) Tryz.func16 rfl Tryz.ntmps16 rfl fun J => ?_
  unfold inst_Name at hm
  refine sq2 (rg (pv (r_zt rfl) (nil (t_then ?_))))
  refine sq2 ?_
  obtain ⟨y1, hx1, hm⟩ := bindS hm
  refine rg (pv (r_mi rfl) (wl rfl (calS cf48 rfl (inst_of_sim (p0 := p0) (hS.bun [0] [] rfl)  hx1) rfl fun v1 T1 w1 im1 rv1 => ?_)))
  obtain ⟨rfl, hS1, _⟩ := rv1
  have hS1 := hS1.unb
  refine pv (r_fd1 rfl underlying75 rfl isAgg9 rfl) (pv (r_zt rfl) (nil (t_then ?_)))
  have hm := oI hm; subst hm
  exact rtn (ret1 rfl rfl ⟨_, rfl, _, im1, ⟨rfl, hS1.sel [0] rfl, trivial⟩⟩)

theorem listing_register_sim {p0 : Int} {r : (List UInt8)} (hS : Sep g T0 w0 [R]) (hG1 : Gc T0 w0 1 (Lib.pow10Tab.map fun z => Value.int .u64 z)) (hm : listing_register p0 = some r) :
    Calls Tryz.prog 18 #[iv p0] w0 (RetS T0 w0 fun T w v => v = .string ⟨r.toArray⟩ ∧ Sep g T w [R] ∧ True) := by
  refine enter (args := [iv p0]) Tryz.func18 rfl Tryz.ntmps18 rfl fun J => ?_
  unfold listing_register at hm
  refine sq2 (rg (pv (r_zt rfl) (nil (t_then ?_))))
  refine sq2 ?_
  obtain ⟨y1, hx1, hm⟩ := bindS hm
  refine rg (pv (r_mi rfl) (wl rfl (calS cf17 rfl (strconv_Itoa_sim (p0 := p0) (hS.bun [0] [] rfl) hG1 hx1) rfl fun v1 T1 w1 im1 rv1 => ?_)))
  obtain ⟨rfl, hS1, _⟩ := rv1
  have hS1 := hS1.unb
  obtain ⟨z_1, hro1, hm⟩ := bindS hm
  refine pv (r_sad rfl rfl (room_some hro1)) (pv (r_zt rfl) (nil (t_then ?_)))
  have hm := oI hm; subst hm
  exact rtn (ret1 rfl rfl ⟨_, rfl, _, im1, ⟨rfl, hS1.sel [0] rfl, trivial⟩⟩)

theorem listing_joined_sim {p0 : List UInt8} {p1 : List (List UInt8)} {a1 : OA} {c1 : Nat} {r : (List UInt8)} (hS : Sep g T0 w0 [R]) (h1 : SlR rStr T0 w0 (sv a1 p1 c1) p1) (hm : listing_joined p0 p1 = some r) :
    Calls Tryz.prog 20 #[.string ⟨p0.toArray⟩, sv a1 p1 c1] w0 (RetS T0 w0 fun T w v => v = .string ⟨r.toArray⟩ ∧ Sep g T w [R] ∧ True) := by
  refine enter (args := [.string ⟨p0.toArray⟩, sv a1 p1 c1]) Tryz.func20 rfl Tryz.ntmps20 rfl fun J => ?_
  unfold listing_joined at hm
  refine sq2 (rg (pv (r_zt rfl) (nil (t_then ?_))))
  refine sq2 ?_
  obtain ⟨z_1, hro1, hm⟩ := bindS hm
  obtain ⟨y1, hx1, hm⟩ := bindS hm
  refine rg (pv (r_mt rfl) (pv (r_sad rfl rfl (room_some hro1)) (pv (r_ms rfl) (wl rfl (calS cf50 rfl (strings_Join_sim (p0 := p1) (p1 := ([44, 32] : List UInt8)) (hS.bun [0] [] rfl) h1 hx1) rfl fun v1 T1 w1 im1 rv1 => ?_)))))
  obtain ⟨rfl, hS1, _⟩ := rv1
  have hS1 := hS1.unb
  obtain ⟨z_2, hro2, hm⟩ := bindS hm
  refine pv (r_sad rfl rfl (room_some hro2)) (pv (r_zt rfl) (nil (t_then ?_)))
  have hm := oI hm; subst hm
  exact rtn (ret1 rfl rfl ⟨_, rfl, _, im1, ⟨rfl, hS1.sel [0] rfl, trivial⟩⟩)

theorem listing_behind_sim {p0 : Int} {p1 : Int} {r : (List UInt8)} (hS : Sep g T0 w0 [R]) (hG1 : Gc T0 w0 1 (Lib.pow10Tab.map fun z => Value.int .u64 z)) (hm : listing_behind p0 p1 = some r) :
    Calls Tryz.prog 21 #[iv p0, iv p1] w0 (RetS T0 w0 fun T w v => v = .string ⟨r.toArray⟩ ∧ Sep g T w [R] ∧ True) := by
  refine enter (args := [iv p0, iv p1]) Tryz.func21 rfl Tryz.ntmps21 rfl fun J => ?_
  unfold listing_behind at hm
  refine sq2 (rg (pv (r_zt rfl) (nil (t_then ?_))))
  refine sq2 ?_
  obtain ⟨y1, hx1, hm⟩ := bindS hm
  refine rg (pv (r_mi rfl) (wl rfl (calS cf17 rfl (strconv_Itoa_sim (p0 := p0) (hS.bun [0] [] rfl) hG1 hx1) rfl fun v1 T1 w1 im1 rv1 => ?_)))
  obtain ⟨rfl, hS1, _⟩ := rv1
  have hS1 := hS1.unb
  obtain ⟨z_1, hro1, hm⟩ := bindS hm
  obtain ⟨y2, hx2, hm⟩ := bindS hm
  refine pv (r_sad rfl rfl (room_some hro1)) (pv (r_mi rfl) (wl rfl (calS cf18 rfl (listing_register_sim (p0 := p1) (hS1.bun [0] [] rfl) (hG1.mono im1) hx2) rfl fun v2 T2 w2 im2 rv2 => ?_)))
  obtain ⟨rfl, hS2, _⟩ := rv2
  have hS2 := hS2.unb
  obtain ⟨z_2, hro2, hm⟩ := bindS hm
  obtain ⟨z_3, hro3, hm⟩ := bindS hm
  refine pv (r_sad rfl rfl (room_some hro2)) (pv (r_sad rfl rfl (room_some hro3)) (pv (r_zt rfl) (nil (t_then ?_))))
  have hm := oI hm; subst hm
  exact rtn (ret1 rfl rfl ⟨_, rfl, _, (iT im1 im2), ⟨rfl, hS2.sel [0] rfl, trivial⟩⟩)

theorem listing_lies_sim {p0 : Int} {r : Bool} (hS : Sep g T0 w0 [R])  (hm : listing_lies p0 = some r) :
    Calls Tryz.prog 22 #[iv p0] w0 (RetS T0 w0 fun T w v => v = .bool r ∧ Sep g T w [R] ∧ True) := by
  refine enter (args := [iv p0]) Tryz.func22 rfl Tryz.ntmps22 rfl fun J => ?_
  unfold listing_lies at hm
  refine sq2 (rg (pv (r_zb rfl) (nil (t_then ?_))))
  refine sq2 (rg (pv (r_mi rfl) (pv (r_ib rfl rfl rfl) (pv (r_mb rfl) (?_)))))
  rcases Bool.eq_false_or_eq_true (p0 == 4) with hb1 | hb1
  · have hm := ctrue hb1 hm
    refine gF (d0 := 5) rfl rfl (by rw [hb1]; rfl) (gF (d0 := 5) rfl rfl (by rw [hb1]; rfl) (gF (d0 := 5) rfl rfl (by rw [hb1]; rfl) (gU (d0 := 8) rfl rfl (gU (d0 := 8) rfl rfl (gF (d0 := 5) rfl rfl (by rw [hb1]; rfl) (pv (r_pkt rfl hb1 rfl) (pv (r_zb rfl) (nil (t_then ?_)))))))))
    have hm := oI hm; subst hm
    exact rtn (ret1 rfl rfl ⟨_, rfl, _, Im.refl, ⟨rfl, hS.sel [0] rfl, trivial⟩⟩)
  have hm := cfalse hb1 hm
  refine gT (d0 := 5) rfl rfl hb1 (pv (r_mi rfl) (gT (d0 := 5) rfl rfl hb1 (pv (r_ib rfl rfl rfl) (gT (d0 := 5) rfl rfl hb1 (pv (r_mb rfl) (?_))))))
  rcases Bool.eq_false_or_eq_true (decide (11 ≤ p0)) with hb2 | hb2
  · have hm := ctrue hb2 hm
    refine gT (d0 := 8) rfl rfl hb2 (pv (r_mi rfl) (gT (d0 := 8) rfl rfl hb2 (pv (r_ib rfl rfl rfl) (gT (d0 := 5) rfl rfl hb1 (pv (r_pkt rfl hb2 rfl) (pv (r_pkf rfl hb1 rfl) (pv (r_zb rfl) (nil (t_then ?_)))))))))
    have hm := oI hm; subst hm
    exact rtn (ret1 rfl rfl ⟨_, rfl, _, Im.refl, ⟨rfl, hS.sel [0] rfl, trivial⟩⟩)
  have hm := cfalse hb2 hm
  refine gF (d0 := 8) rfl rfl (by rw [hb2]; rfl) (gF (d0 := 8) rfl rfl (by rw [hb2]; rfl) (gT (d0 := 5) rfl rfl hb1 (pv (r_pkf rfl hb2 rfl) (pv (r_pkf rfl hb1 rfl) (pv (r_zb rfl) (nil (t_then ?_)))))))
  have hm := oI hm; subst hm
  exact rtn (ret1 rfl rfl ⟨_, rfl, _, Im.refl, ⟨rfl, hS.sel [0] rfl, trivial⟩⟩)

theorem listing_Line_sim {p0 : GInst} {r : (List UInt8) × Int} (hS : Sep g T0 w0 [R]) (hG1 : Gc T0 w0 1 (Lib.pow10Tab.map fun z => Value.int .u64 z)) (hm : listing_Line p0 = some r) :
    Calls Tryz.prog 7 #[.agg (cGInst p0).toArray] w0 (RetS T0 w0 fun T w v => v = .tuple #[.string ⟨r.1.toArray⟩, iv r.2] ∧ Sep g T w [R] ∧ True) := by
  refine enter (args := [.agg (cGInst p0).toArray]) Tryz.func7 rfl Tryz.ntmps7 rfl fun J => ?_
  unfold listing_Line at hm
  refine sq2 (rg (wl rfl (bxS (cs := (cGInst p0)) rfl rfl hS fun w1 b1 im1 hS1 => ?_)))
  refine pv (r_zt rfl) (pv (r_zi rfl) (nil (t_then ?_)))
  refine sq2 (sq2 ?_)
  obtain ⟨y1, hx1, hm⟩ := bindS hm
  refine rg (pv (r_ldS rfl isAgg23 sizeOf23 rfl (hS1.cells0 (i := 0) ⟨rfl, rfl⟩ (o := 0) rfl) (cs := (cGInst p0))) (wl rfl (calS cf15 rfl (inst_Right_sim (p0 := p0) (hS1.bun [0, 1] [] rfl)  hx1) rfl fun v1 T1 w2 im2 rv1 => ?_)))
  obtain ⟨rfl, hS2, _⟩ := rv1
  have hS2 := hS2.unb
  refine pv (r_nt rfl) (nil (t_then ?_))
  refine cnd rfl (fun hb1 => ?_) (fun hb1 => ?_)
  · have hm := ctrue hb1 hm
    refine sq2 (rg (pv (r_zt rfl) (pv (r_zi rfl) (nil (t_then ?_)))))
    have hm := oI hm; subst hm
    exact rtn (r_then (retN (vs := [.string ⟨([] : List UInt8).toArray⟩, iv 1]) rfl ⟨rfl, rfl, trivial⟩ rfl ⟨_, rfl, _, (iT im1 im2), ⟨rfl, hS2.sel [1] rfl, trivial⟩⟩))
  have hm := cfalse hb1 hm
  refine skp (t_then ?_)
  refine sq2 (rs [0, 1, 2, 0, 1, 2, 0, 0] [0, 1, 3, 4, 2, 5, 6, 7] mix (by kernel_rfl) hS2.lt fun w3 i1 => ?_)
  have im3 := i1.imm
  have hS3 := hS2.keep i1 (fun _ h => h)
  obtain ⟨y2, hx2, hm⟩ := bindS hm
  refine s0 rfl trivial (fun _ => r_fa rfl underlying23 rfl sizeOf3 rfl) rfl (s1 rfl trivial (r_ld rfl isAgg3 (hS3.cell0 (i := 0) ⟨rfl, rfl⟩ (j := 0) rfl)) rfl (s0 rfl trivial (fun _ => r_fa rfl underlying23 rfl sizeOf3 rfl) rfl (s1 rfl trivial (r_ld rfl isAgg3 (hS3.cell0 (i := 0) ⟨rfl, rfl⟩ (j := 4) rfl)) rfl (s2 [(4, iv p0.Imm)] rfl trivial rfl (by kernel_rfl) (calS cf16 rfl (inst_Name_sim (p0 := p0.Op) (hS3.bun [0, 1] [] rfl)  hx2) rfl fun v2 T2 w4 im4 rv2 => ?_)))))
  obtain ⟨rfl, hS4, _⟩ := rv2
  have hS4 := hS4.unb
  refine ⟨st1 rfl (r_ld rfl isAgg3 (hS4.cell0 (i := 0) ⟨rfl, rfl⟩ (j := 4) rfl)) (st0), ?_⟩
  obtain ⟨y3, hx3, hm⟩ := bindS hm
  refine s2 [] rfl trivial rfl (by kernel_rfl) (calS cf17 rfl (strconv_Itoa_sim (p0 := p0.Imm) (hS4.bun [0, 1] [] rfl) (hG1.mono (iT im1 (iT im2 (iT im3 im4)))) hx3) rfl fun v3 T3 w5 im5 rv3 => ?_)
  obtain ⟨rfl, hS5, _⟩ := rv3
  have hS5 := hS5.unb
  refine ⟨st0, ?_⟩
  refine s0 rfl trivial (fun _ => r_zt rfl) rfl (s0 rfl trivial (fun _ => r_zt rfl) rfl (se (t_then ?_)))
  refine sq2 (rs [0, 1, 2, 0, 1, 2, 0, 1, 2, 0, 0, 0] [0, 1, 3, 4, 6, 7, 2, 5, 8, 9, 10, 11] mix (by kernel_rfl) hS5.lt fun w6 i2 => ?_)
  have im6 := i2.imm
  have hS6 := hS5.keep i2 (fun _ h => h)
  obtain ⟨y4, hx4, hm⟩ := bindS hm
  refine s0 rfl trivial (fun _ => r_fa rfl underlying23 rfl sizeOf3 rfl) rfl (s1 rfl trivial (r_ld rfl isAgg3 (hS6.cell0 (i := 0) ⟨rfl, rfl⟩ (j := 1) rfl)) rfl (s0 rfl trivial (fun _ => r_fa rfl underlying23 rfl sizeOf3 rfl) rfl (s1 rfl trivial (r_ld rfl isAgg3 (hS6.cell0 (i := 0) ⟨rfl, rfl⟩ (j := 2) rfl)) rfl (s0 rfl trivial (fun _ => r_fa rfl underlying23 rfl sizeOf3 rfl) rfl (s1 rfl trivial (r_ld rfl isAgg3 (hS6.cell0 (i := 0) ⟨rfl, rfl⟩ (j := 3) rfl)) rfl (s2 [(7, iv p0.Rs2), (4, iv p0.Rs1)] rfl trivial rfl (by kernel_rfl) (calS cf18 rfl (listing_register_sim (p0 := p0.Rd) (hS6.bun [0, 1] [] rfl) (hG1.mono (iT im1 (iT im2 (iT im3 (iT im4 (iT im5 im6)))))) hx4) rfl fun v4 T4 w7 im7 rv4 => ?_)))))))
  obtain ⟨rfl, hS7, _⟩ := rv4
  have hS7 := hS7.unb
  refine ⟨st1 rfl (r_ld rfl isAgg3 (hS7.cell0 (i := 0) ⟨rfl, rfl⟩ (j := 3) rfl)) (st1 rfl (r_ld rfl isAgg3 (hS7.cell0 (i := 0) ⟨rfl, rfl⟩ (j := 2) rfl)) (st0)), ?_⟩
  obtain ⟨y5, hx5, hm⟩ := bindS hm
  refine s2 [(7, iv p0.Rs2)] rfl trivial rfl (by kernel_rfl) (calS cf18 rfl (listing_register_sim (p0 := p0.Rs1) (hS7.bun [0, 1] [] rfl) (hG1.mono (iT im1 (iT im2 (iT im3 (iT im4 (iT im5 (iT im6 im7))))))) hx5) rfl fun v5 T5 w8 im8 rv5 => ?_)
  obtain ⟨rfl, hS8, _⟩ := rv5
  have hS8 := hS8.unb
  refine ⟨st1 rfl (r_ld rfl isAgg3 (hS8.cell0 (i := 0) ⟨rfl, rfl⟩ (j := 3) rfl)) (st0), ?_⟩
  obtain ⟨y6, hx6, hm⟩ := bindS hm
  refine s2 [] rfl trivial rfl (by kernel_rfl) (calS cf18 rfl (listing_register_sim (p0 := p0.Rs2) (hS8.bun [0, 1] [] rfl) (hG1.mono (iT im1 (iT im2 (iT im3 (iT im4 (iT im5 (iT im6 (iT im7 im8)))))))) hx6) rfl fun v6 T6 w9 im9 rv6 => ?_)
  obtain ⟨rfl, hS9, _⟩ := rv6
  have hS9 := hS9.unb
  refine ⟨st0, ?_⟩
  refine s0 rfl trivial (fun _ => r_zt rfl) rfl (s0 rfl trivial (fun _ => r_zt rfl) rfl (s0 rfl trivial (fun _ => r_zt rfl) rfl (se (t_then ?_))))
  refine sq2 (sq2 ?_)
  obtain ⟨y7, hx7, hm⟩ := bindS hm
  refine rg (pv (r_fa rfl underlying23 rfl sizeOf3 rfl) (pv (r_ld rfl isAgg3 (hS9.cell0 (i := 0) ⟨rfl, rfl⟩ (j := 0) rfl)) (wl rfl (calS cf19 rfl (inst_Form_sim (p0 := p0.Op) (hS9.bun [0, 1] [] rfl)  hx7) rfl fun v7 T7 w10 im10 rv7 => ?_))))
  obtain ⟨rfl, hS10, _⟩ := rv7
  have hS10 := hS10.unb
  refine pv (r_zi rfl) (nil (t_then ?_))
  refine blk (sq2 (rg (pv (r_mi rfl) (pv (r_ib rfl rfl rfl) (pv (r_zb rfl) (nil (t_thenR [(1, pt b1 0), (4, .string ⟨y2.toArray⟩), (5, .string ⟨y3.toArray⟩), (6, .string ⟨y4.toArray⟩), (7, .string ⟨y5.toArray⟩), (8, .string ⟨y6.toArray⟩), (9, .int .u8 y7), (31, .bool (y7 == 82))] ⟨rfl, rfl, rfl, rfl, rfl, rfl, rfl, rfl, trivial⟩ fun J => ?_)))))))
  refine cnd rfl (fun hb2 => ?_) (fun hb2 => ?_)
  · have hm := ctrue hb2 hm
    refine sq2 (rg (pv (r_mt rfl) (pv (r_mt rfl) (pv (r_mt rfl) (pv (r_mt rfl) (wl rfl (bsS (r := rStr) (l := ([y4, y5, y6] : List (List UInt8))) (css := [[.string ⟨y4.toArray⟩], [.string ⟨y5.toArray⟩], [.string ⟨y6.toArray⟩]]) hS10 underlying52 sizeOf9 zeroValue9 rfl rfl (by kernel_rfl) rfl ⟨rfl, rfl, rfl, trivial⟩ rfl rfl fun w11 a1 n1 c1 im11 hS11 => ?_)))))))
    obtain ⟨T8, im12, hS12, h1⟩ := hS11.seal 0 ⟨rfl, rfl⟩
    have hsh := h1.len
    subst hsh
    obtain ⟨y8, hx8, hm⟩ := bindS hm
    refine wl rfl (calS cf20 rfl (listing_joined_sim (p0 := y2) (p1 := ([y4, y5, y6] : List (List UInt8))) (hS12.bun [2] [] rfl) h1 hx8) rfl fun v8 T9 w12 im13 rv8 => ?_)
    obtain ⟨rfl, hS13, _⟩ := rv8
    have hS13 := hS13.unb
    refine pv (r_zt rfl) (pv (r_zi rfl) (nil (t_then ?_)))
    have hm := oI hm; subst hm
    exact rtn (r_blk (r_then (retN (vs := [.string ⟨y8.toArray⟩, iv 0]) rfl ⟨rfl, rfl, trivial⟩ rfl ⟨_, rfl, _, (iT im1 (iT im2 (iT im3 (iT im4 (iT im5 (iT im6 (iT im7 (iT im8 (iT im9 (iT im10 (iT im11 (iT im12 im13)))))))))))), ⟨rfl, hS13.sel [0] rfl, trivial⟩⟩)))
  have hm := cfalse hb2 hm
  obtain ⟨kk1, hkk1, hm⟩ := jn_open hm
  refine cut (fun a w13 => ∃ (J : JV) (T10 : TP) (x1 : Bool), a = env (nf 92) J [(1, pt b1 0), (4, .string ⟨y2.toArray⟩), (5, .string ⟨y3.toArray⟩), (6, .string ⟨y4.toArray⟩), (7, .string ⟨y5.toArray⟩), (8, .string ⟨y6.toArray⟩), (9, .int .u8 y7), (40, .bool x1)] ∧ Im T7 w10 T10 w13 ∧ Sep g T10 w13 [boxA b1 (cGInst p0), R] ∧ kk1 x1 = some r) ?_ ?_
  · refine rg (pv (r_mi rfl) (pv (r_ib rfl rfl rfl) (pv (r_mb rfl) (?_))))
    rcases Bool.eq_false_or_eq_true (y7 == 85) with hb3 | hb3
    · have hm := ctrue hb3 hm
      exact gF (d0 := 43) rfl rfl (by rw [hb3]; rfl) (gF (d0 := 43) rfl rfl (by rw [hb3]; rfl) (pv (r_pkt rfl hb3 rfl) (pv (r_zb rfl) (nil (t_then ⟨_, _, true, env_has ⟨rfl, rfl, rfl, rfl, rfl, rfl, rfl, rfl, trivial⟩, Im.refl, hS10.sel [0, 1] rfl, hm⟩)))))
    have hm := cfalse hb3 hm
    exact gT (d0 := 43) rfl rfl hb3 (pv (r_mi rfl) (gT (d0 := 43) rfl rfl hb3 (pv (r_ib rfl rfl rfl) (pv (r_pkf rfl hb3 rfl) (pv (r_zb rfl) (nil (t_then ⟨_, _, (y7 == 74), env_has ⟨rfl, rfl, rfl, rfl, rfl, rfl, rfl, rfl, trivial⟩, Im.refl, hS10.sel [0, 1] rfl, hm⟩)))))))
  rintro _ w13 ⟨J, T10, x1, rfl, im14, hS14, hm⟩
  rw [hkk1] at hm
  refine cnd rfl (fun hb4 => ?_) (fun hb4 => ?_)
  · have hm := ctrue hb4 hm
    refine sq2 (rg (pv (r_mt rfl) (pv (r_mt rfl) (pv (r_mt rfl) (wl rfl (bsS (r := rStr) (l := ([y4, y3] : List (List UInt8))) (css := [[.string ⟨y4.toArray⟩], [.string ⟨y3.toArray⟩]]) hS14 underlying52 sizeOf9 zeroValue9 rfl rfl (by kernel_rfl) rfl ⟨rfl, rfl, trivial⟩ rfl rfl fun w14 a2 n2 c2 im15 hS15 => ?_))))))
    obtain ⟨T11, im16, hS16, h2⟩ := hS15.seal 0 ⟨rfl, rfl⟩
    have hsh := h2.len
    subst hsh
    obtain ⟨y9, hx9, hm⟩ := bindS hm
    refine wl rfl (calS cf20 rfl (listing_joined_sim (p0 := y2) (p1 := ([y4, y3] : List (List UInt8))) (hS16.bun [2] [] rfl) h2 hx9) rfl fun v9 T12 w15 im17 rv9 => ?_)
    obtain ⟨rfl, hS17, _⟩ := rv9
    have hS17 := hS17.unb
    refine pv (r_zt rfl) (pv (r_zi rfl) (nil (t_then ?_)))
    have hm := oI hm; subst hm
    exact rtn (r_blk (r_then (retN (vs := [.string ⟨y9.toArray⟩, iv 0]) rfl ⟨rfl, rfl, trivial⟩ rfl ⟨_, rfl, _, (iT im1 (iT im2 (iT im3 (iT im4 (iT im5 (iT im6 (iT im7 (iT im8 (iT im9 (iT im10 (iT im14 (iT im15 (iT im16 im17))))))))))))), ⟨rfl, hS17.sel [0] rfl, trivial⟩⟩)))
  have hm := cfalse hb4 hm
  refine sq2 (rg (pv (r_mi rfl) (pv (r_ib rfl rfl rfl) (pv (r_zb rfl) (nil (t_then ?_))))))
  refine cnd rfl (fun hb5 => ?_) (fun hb5 => ?_)
  · have hm := ctrue hb5 hm
    refine sq2 (rg (pv (r_mt rfl) (pv (r_mt rfl) (pv (r_mt rfl) (pv (r_mt rfl) (wl rfl (bsS (r := rStr) (l := ([y5, y6, y3] : List (List UInt8))) (css := [[.string ⟨y5.toArray⟩], [.string ⟨y6.toArray⟩], [.string ⟨y3.toArray⟩]]) hS14 underlying52 sizeOf9 zeroValue9 rfl rfl (by kernel_rfl) rfl ⟨rfl, rfl, rfl, trivial⟩ rfl rfl fun w16 a3 n3 c3 im18 hS18 => ?_)))))))
    obtain ⟨T13, im19, hS19, h3⟩ := hS18.seal 0 ⟨rfl, rfl⟩
    have hsh := h3.len
    subst hsh
    obtain ⟨y10, hx10, hm⟩ := bindS hm
    refine wl rfl (calS cf20 rfl (listing_joined_sim (p0 := y2) (p1 := ([y5, y6, y3] : List (List UInt8))) (hS19.bun [2] [] rfl) h3 hx10) rfl fun v10 T14 w17 im20 rv10 => ?_)
    obtain ⟨rfl, hS20, _⟩ := rv10
    have hS20 := hS20.unb
    refine pv (r_zt rfl) (pv (r_zi rfl) (nil (t_then ?_)))
    have hm := oI hm; subst hm
    exact rtn (r_blk (r_then (retN (vs := [.string ⟨y10.toArray⟩, iv 0]) rfl ⟨rfl, rfl, trivial⟩ rfl ⟨_, rfl, _, (iT im1 (iT im2 (iT im3 (iT im4 (iT im5 (iT im6 (iT im7 (iT im8 (iT im9 (iT im10 (iT im14 (iT im18 (iT im19 im20))))))))))))), ⟨rfl, hS20.sel [0] rfl, trivial⟩⟩)))
  have hm := cfalse hb5 hm
  refine sq2 (rg (pv (r_mi rfl) (pv (r_ib rfl rfl rfl) (pv (r_zb rfl) (nil (t_then ?_))))))
  refine cnd rfl (fun hb6 => ?_) (fun hb6 => ?_)
  · have hm := ctrue hb6 hm
    refine sq2 ?_
    obtain ⟨y11, hx11, hm⟩ := bindS hm
    refine rg (pv (r_mt rfl) (pv (r_mt rfl) (pv (r_fa rfl underlying23 rfl sizeOf3 rfl) (pv (r_ld rfl isAgg3 (hS14.cell0 (i := 0) ⟨rfl, rfl⟩ (j := 4) rfl)) (pv (r_fa rfl underlying23 rfl sizeOf3 rfl) (pv (r_ld rfl isAgg3 (hS14.cell0 (i := 0) ⟨rfl, rfl⟩ (j := 2) rfl)) (wl rfl (calS cf21 rfl (listing_behind_sim (p0 := p0.Imm) (p1 := p0.Rs1) (hS14.bun [1] [] rfl) (hG1.mono (iT im1 (iT im2 (iT im3 (iT im4 (iT im5 (iT im6 (iT im7 (iT im8 (iT im9 (iT im10 im14))))))))))) hx11) rfl fun v11 T15 w18 im21 rv11 => ?_))))))))
    obtain ⟨rfl, hS21, _⟩ := rv11
    have hS21 := hS21.unb
    refine wl rfl (bsS (r := rStr) (l := ([y6, y11] : List (List UInt8))) (css := [[.string ⟨y6.toArray⟩], [.string ⟨y11.toArray⟩]]) hS21 underlying52 sizeOf9 zeroValue9 rfl rfl (by kernel_rfl) rfl ⟨rfl, rfl, trivial⟩ rfl rfl fun w19 a4 n4 c4 im22 hS22 => ?_)
    obtain ⟨T16, im23, hS23, h4⟩ := hS22.seal 0 ⟨rfl, rfl⟩
    have hsh := h4.len
    subst hsh
    obtain ⟨y12, hx12, hm⟩ := bindS hm
    refine wl rfl (calS cf20 rfl (listing_joined_sim (p0 := y2) (p1 := ([y6, y11] : List (List UInt8))) (hS23.bun [1] [] rfl) h4 hx12) rfl fun v12 T17 w20 im24 rv12 => ?_)
    obtain ⟨rfl, hS24, _⟩ := rv12
    have hS24 := hS24.unb
    refine pv (r_zt rfl) (pv (r_zi rfl) (nil (t_then ?_)))
    have hm := oI hm; subst hm
    exact rtn (r_blk (r_then (retN (vs := [.string ⟨y12.toArray⟩, iv 0]) rfl ⟨rfl, rfl, trivial⟩ rfl ⟨_, rfl, _, (iT im1 (iT im2 (iT im3 (iT im4 (iT im5 (iT im6 (iT im7 (iT im8 (iT im9 (iT im10 (iT im14 (iT im21 (iT im22 (iT im23 im24)))))))))))))), ⟨rfl, hS24.sel [0] rfl, trivial⟩⟩)))
  have hm := cfalse hb6 hm
  refine sq2 ?_
  obtain ⟨y13, hx13, hm⟩ := bindS hm
  refine rg (pv (r_fa rfl underlying23 rfl sizeOf3 rfl) (pv (r_ld rfl isAgg3 (hS14.cell0 (i := 0) ⟨rfl, rfl⟩ (j := 0) rfl)) (wl rfl (calS cf22 rfl (listing_lies_sim (p0 := p0.Op) (hS14.bun [0, 1] [] rfl)  hx13) rfl fun v13 T18 w21 im25 rv13 => ?_))))
  obtain ⟨rfl, hS25, _⟩ := rv13
  have hS25 := hS25.unb
  refine pv (r_zb rfl) (nil (t_then ?_))
  refine cnd rfl (fun hb7 => ?_) (fun hb7 => ?_)
  · have hm := ctrue hb7 hm
    refine sq2 ?_
    obtain ⟨y14, hx14, hm⟩ := bindS hm
    refine rg (pv (r_mt rfl) (pv (r_mt rfl) (pv (r_fa rfl underlying23 rfl sizeOf3 rfl) (pv (r_ld rfl isAgg3 (hS25.cell0 (i := 0) ⟨rfl, rfl⟩ (j := 4) rfl)) (pv (r_fa rfl underlying23 rfl sizeOf3 rfl) (pv (r_ld rfl isAgg3 (hS25.cell0 (i := 0) ⟨rfl, rfl⟩ (j := 2) rfl)) (wl rfl (calS cf21 rfl (listing_behind_sim (p0 := p0.Imm) (p1 := p0.Rs1) (hS25.bun [1] [] rfl) (hG1.mono (iT im1 (iT im2 (iT im3 (iT im4 (iT im5 (iT im6 (iT im7 (iT im8 (iT im9 (iT im10 (iT im14 im25)))))))))))) hx14) rfl fun v14 T19 w22 im26 rv14 => ?_))))))))
    obtain ⟨rfl, hS26, _⟩ := rv14
    have hS26 := hS26.unb
    refine wl rfl (bsS (r := rStr) (l := ([y4, y14] : List (List UInt8))) (css := [[.string ⟨y4.toArray⟩], [.string ⟨y14.toArray⟩]]) hS26 underlying52 sizeOf9 zeroValue9 rfl rfl (by kernel_rfl) rfl ⟨rfl, rfl, trivial⟩ rfl rfl fun w23 a5 n5 c5 im27 hS27 => ?_)
    obtain ⟨T20, im28, hS28, h5⟩ := hS27.seal 0 ⟨rfl, rfl⟩
    have hsh := h5.len
    subst hsh
    obtain ⟨y15, hx15, hm⟩ := bindS hm
    refine wl rfl (calS cf20 rfl (listing_joined_sim (p0 := y2) (p1 := ([y4, y14] : List (List UInt8))) (hS28.bun [1] [] rfl) h5 hx15) rfl fun v15 T21 w24 im29 rv15 => ?_)
    obtain ⟨rfl, hS29, _⟩ := rv15
    have hS29 := hS29.unb
    refine pv (r_zt rfl) (pv (r_zi rfl) (nil (t_thenR [(2, .string ⟨y15.toArray⟩), (3, iv 0)] ⟨rfl, rfl, trivial⟩ fun J => ?_)))
    have hm := oI hm; subst hm
    exact rtn (r_blk (r_then (retN (vs := [.string ⟨y15.toArray⟩, iv 0]) rfl ⟨rfl, rfl, trivial⟩ rfl ⟨_, rfl, _, (iT im1 (iT im2 (iT im3 (iT im4 (iT im5 (iT im6 (iT im7 (iT im8 (iT im9 (iT im10 (iT im14 (iT im25 (iT im26 (iT im27 (iT im28 im29))))))))))))))), ⟨rfl, hS29.sel [0] rfl, trivial⟩⟩)))
  have hm := cfalse hb7 hm
  refine skp (t_blk (t_then ?_))
  refine sq2 (rg (pv (r_mt rfl) (pv (r_mt rfl) (pv (r_mt rfl) (pv (r_mt rfl) (wl rfl (bsS (r := rStr) (l := ([y4, y5, y3] : List (List UInt8))) (css := [[.string ⟨y4.toArray⟩], [.string ⟨y5.toArray⟩], [.string ⟨y3.toArray⟩]]) hS25 underlying52 sizeOf9 zeroValue9 rfl rfl (by kernel_rfl) rfl ⟨rfl, rfl, rfl, trivial⟩ rfl rfl fun w25 a6 n6 c6 im30 hS30 => ?_)))))))
  obtain ⟨T22, im31, hS31, h6⟩ := hS30.seal 0 ⟨rfl, rfl⟩
  have hsh := h6.len
  subst hsh
  obtain ⟨y16, hx16, hm⟩ := bindS hm
  refine wl rfl (calS cf20 rfl (listing_joined_sim (p0 := y2) (p1 := ([y4, y5, y3] : List (List UInt8))) (hS31.bun [2] [] rfl) h6 hx16) rfl fun v16 T23 w26 im32 rv16 => ?_)
  obtain ⟨rfl, hS32, _⟩ := rv16
  have hS32 := hS32.unb
  refine pv (r_zt rfl) (pv (r_zi rfl) (nil (t_then ?_)))
  have hm := oI hm; subst hm
  exact rtn (retN (vs := [.string ⟨y16.toArray⟩, iv 0]) rfl ⟨rfl, rfl, trivial⟩ rfl ⟨_, rfl, _, (iT im1 (iT im2 (iT im3 (iT im4 (iT im5 (iT im6 (iT im7 (iT im8 (iT im9 (iT im10 (iT im14 (iT im25 (iT im30 (iT im31 im32)))))))))))))), ⟨rfl, hS32.sel [0] rfl, trivial⟩⟩)

theorem ref02_Form_sim {p0 : Int} {r : Int} (hS : Sep g T0 w0 [R])  (hm : ref02_Form p0 = some r) :
    Calls Tryz.prog 23 #[iv p0] w0 (RetS T0 w0 fun T w v => v = .int .u8 r ∧ Sep g T w [R] ∧ True) := by
  refine enter (args := [iv p0]) Tryz.func23 rfl Tryz.ntmps23 rfl fun J => ?_
  unfold ref02_Form at hm
  refine sq2 (rg (pv (r_zi rfl) (nil (t_then ?_))))
  refine sq2 (sq2 (rg (pv (r_mi rfl) (pv (r_ib rfl rfl rfl) (pv (r_mb rfl) (?_))))))
  rcases Bool.eq_false_or_eq_true (decide (p0 < 1)) with hb1 | hb1
  · have hm := ctrue hb1 hm
    refine gF (d0 := 5) rfl rfl (by rw [hb1]; rfl) (gF (d0 := 5) rfl rfl (by rw [hb1]; rfl) (pv (r_pkt rfl hb1 rfl) (nil (t_then ?_))))
    refine cnd (b := true) rfl (fun _ => ?_) (fun h => nomatch h)
    refine sq2 (rg (pv (r_zi rfl) (nil (t_then ?_))))
    have hm := oI hm; subst hm
    exact rtn (r_then (ret1 rfl rfl ⟨_, rfl, _, Im.refl, ⟨rfl, hS.sel [0] rfl, trivial⟩⟩))
  have hm := cfalse hb1 hm
  refine gT (d0 := 5) rfl rfl hb1 (pv (r_mi rfl) (gT (d0 := 5) rfl rfl hb1 (pv (r_ib rfl rfl rfl) (pv (r_pkf rfl hb1 rfl) (nil (t_then ?_))))))
  refine cnd rfl (fun hb2 => ?_) (fun hb2 => ?_)
  · have hm := ctrue hb2 hm
    refine sq2 (rg (pv (r_zi rfl) (nil (t_then ?_))))
    have hm := oI hm; subst hm
    exact rtn (r_then (ret1 rfl rfl ⟨_, rfl, _, Im.refl, ⟨rfl, hS.sel [0] rfl, trivial⟩⟩))
  have hm := cfalse hb2 hm
  refine skp (t_then ?_)
  refine sq2 (sq2 (rg (pv (r_mi rfl) (pv (r_ib rfl rfl rfl) (nil (t_then ?_))))))
  refine cnd rfl (fun hb3 => ?_) (fun hb3 => ?_)
  · have hm := ctrue hb3 hm
    refine sq2 (rg (pv (r_zi rfl) (nil (t_then ?_))))
    have hm := oI hm; subst hm
    exact rtn (r_then (ret1 rfl rfl ⟨_, rfl, _, Im.refl, ⟨rfl, hS.sel [0] rfl, trivial⟩⟩))
  have hm := cfalse hb3 hm
  refine skp (t_then ?_)
  refine sq2 (sq2 (rg (pv (r_mi rfl) (pv (r_ib rfl rfl rfl) (nil (t_then ?_))))))
  refine cnd rfl (fun hb4 => ?_) (fun hb4 => ?_)
  · have hm := ctrue hb4 hm
    refine sq2 (rg (pv (r_zi rfl) (nil (t_then ?_))))
    have hm := oI hm; subst hm
    exact rtn (r_then (ret1 rfl rfl ⟨_, rfl, _, Im.refl, ⟨rfl, hS.sel [0] rfl, trivial⟩⟩))
  have hm := cfalse hb4 hm
  refine skp (t_then ?_)
  refine sq2 (sq2 (rg (pv (r_mi rfl) (pv (r_ib rfl rfl rfl) (pv (r_mb rfl) (?_))))))
  rcases Bool.eq_false_or_eq_true (decide (5 ≤ p0)) with hb5 | hb5
  · have hm := ctrue hb5 hm
    refine gT (d0 := 15) rfl rfl hb5 (pv (r_mi rfl) (gT (d0 := 15) rfl rfl hb5 (pv (r_ib rfl rfl rfl) (pv (r_pkt rfl hb5 rfl) (nil (t_then ?_))))))
    refine cnd rfl (fun hb6 => ?_) (fun hb6 => ?_)
    · have hm := ctrue hb6 hm
      refine sq2 (rg (pv (r_zi rfl) (nil (t_then ?_))))
      have hm := oI hm; subst hm
      exact rtn (r_then (ret1 rfl rfl ⟨_, rfl, _, Im.refl, ⟨rfl, hS.sel [0] rfl, trivial⟩⟩))
    have hm := cfalse hb6 hm
    refine skp (t_then ?_)
    refine sq2 (sq2 (rg (pv (r_mi rfl) (pv (r_ib rfl rfl rfl) (pv (r_mb rfl) (?_))))))
    rcases Bool.eq_false_or_eq_true (decide (16 ≤ p0)) with hb7 | hb7
    · have hm := ctrue hb7 hm
      refine gT (d0 := 21) rfl rfl hb7 (pv (r_mi rfl) (gT (d0 := 21) rfl rfl hb7 (pv (r_ib rfl rfl rfl) (pv (r_pkt rfl hb7 rfl) (nil (t_then ?_))))))
      refine cnd rfl (fun hb8 => ?_) (fun hb8 => ?_)
      · have hm := ctrue hb8 hm
        refine sq2 (rg (pv (r_zi rfl) (nil (t_then ?_))))
        have hm := oI hm; subst hm
        exact rtn (r_then (ret1 rfl rfl ⟨_, rfl, _, Im.refl, ⟨rfl, hS.sel [0] rfl, trivial⟩⟩))
      have hm := cfalse hb8 hm
      refine skp (t_then ?_)
      refine sq2 (sq2 (rg (pv (r_mi rfl) (pv (r_ib rfl rfl rfl) (pv (r_mb rfl) (?_))))))
      rcases Bool.eq_false_or_eq_true (decide (25 ≤ p0)) with hb9 | hb9
      · have hm := ctrue hb9 hm
        refine gT (d0 := 27) rfl rfl hb9 (pv (r_mi rfl) (gT (d0 := 27) rfl rfl hb9 (pv (r_ib rfl rfl rfl) (pv (r_pkt rfl hb9 rfl) (nil (t_thenR [(0, iv p0), (30, .bool (decide (p0 ≤ 27)))] ⟨rfl, rfl, trivial⟩ fun J => ?_))))))
        refine cnd rfl (fun hb10 => ?_) (fun hb10 => ?_)
        · have hm := ctrue hb10 hm
          refine sq2 (rg (pv (r_zi rfl) (nil (t_then ?_))))
          have hm := oI hm; subst hm
          exact rtn (r_then (ret1 rfl rfl ⟨_, rfl, _, Im.refl, ⟨rfl, hS.sel [0] rfl, trivial⟩⟩))
        have hm := cfalse hb10 hm
        refine skp (t_then ?_)
        refine sq2 (sq2 (rg (pv (r_mi rfl) (pv (r_ib rfl rfl rfl) (nil (t_then ?_))))))
        refine cnd rfl (fun hb11 => ?_) (fun hb11 => ?_)
        · have hm := ctrue hb11 hm
          refine sq2 (rg (pv (r_zi rfl) (nil (t_then ?_))))
          have hm := oI hm; subst hm
          exact rtn (r_then (ret1 rfl rfl ⟨_, rfl, _, Im.refl, ⟨rfl, hS.sel [0] rfl, trivial⟩⟩))
        have hm := cfalse hb11 hm
        refine skp (t_then ?_)
        refine sq2 (rg (pv (r_zi rfl) (nil (t_then ?_))))
        have hm := oI hm; subst hm
        exact rtn (ret1 rfl rfl ⟨_, rfl, _, Im.refl, ⟨rfl, hS.sel [0] rfl, trivial⟩⟩)
      have hm := cfalse hb9 hm
      refine gF (d0 := 27) rfl rfl (by rw [hb9]; rfl) (gF (d0 := 27) rfl rfl (by rw [hb9]; rfl) (pv (r_pkf rfl hb9 rfl) (nil (t_thenR [(0, iv p0), (30, .bool false)] ⟨rfl, rfl, trivial⟩ fun J => ?_))))
      refine cnd (b := false) rfl (fun h => nomatch h) (fun _ => ?_)
      refine skp (t_then ?_)
      refine sq2 (sq2 (rg (pv (r_mi rfl) (pv (r_ib rfl rfl rfl) (nil (t_then ?_))))))
      refine cnd rfl (fun hb13 => ?_) (fun hb13 => ?_)
      · have hm := ctrue hb13 hm
        refine sq2 (rg (pv (r_zi rfl) (nil (t_then ?_))))
        have hm := oI hm; subst hm
        exact rtn (r_then (ret1 rfl rfl ⟨_, rfl, _, Im.refl, ⟨rfl, hS.sel [0] rfl, trivial⟩⟩))
      have hm := cfalse hb13 hm
      refine skp (t_then ?_)
      refine sq2 (rg (pv (r_zi rfl) (nil (t_then ?_))))
      have hm := oI hm; subst hm
      exact rtn (ret1 rfl rfl ⟨_, rfl, _, Im.refl, ⟨rfl, hS.sel [0] rfl, trivial⟩⟩)
    have hm := cfalse hb7 hm
    refine gF (d0 := 21) rfl rfl (by rw [hb7]; rfl) (gF (d0 := 21) rfl rfl (by rw [hb7]; rfl) (pv (r_pkf rfl hb7 rfl) (nil (t_then ?_))))
    refine cnd (b := false) rfl (fun h => nomatch h) (fun _ => ?_)
    refine skp (t_then ?_)
    refine sq2 (sq2 (rg (pv (r_mi rfl) (pv (r_ib rfl rfl rfl) (pv (r_mb rfl) (?_))))))
    rcases Bool.eq_false_or_eq_true (decide (25 ≤ p0)) with hb15 | hb15
    · have hm := ctrue hb15 hm
      refine gT (d0 := 27) rfl rfl hb15 (pv (r_mi rfl) (gT (d0 := 27) rfl rfl hb15 (pv (r_ib rfl rfl rfl) (pv (r_pkt rfl hb15 rfl) (nil (t_thenR [(0, iv p0), (30, .bool (decide (p0 ≤ 27)))] ⟨rfl, rfl, trivial⟩ fun J => ?_))))))
      refine cnd rfl (fun hb16 => ?_) (fun hb16 => ?_)
      · have hm := ctrue hb16 hm
        refine sq2 (rg (pv (r_zi rfl) (nil (t_then ?_))))
        have hm := oI hm; subst hm
        exact rtn (r_then (ret1 rfl rfl ⟨_, rfl, _, Im.refl, ⟨rfl, hS.sel [0] rfl, trivial⟩⟩))
      have hm := cfalse hb16 hm
      refine skp (t_then ?_)
      refine sq2 (sq2 (rg (pv (r_mi rfl) (pv (r_ib rfl rfl rfl) (nil (t_then ?_))))))
      refine cnd rfl (fun hb17 => ?_) (fun hb17 => ?_)
      · have hm := ctrue hb17 hm
        refine sq2 (rg (pv (r_zi rfl) (nil (t_then ?_))))
        have hm := oI hm; subst hm
        exact rtn (r_then (ret1 rfl rfl ⟨_, rfl, _, Im.refl, ⟨rfl, hS.sel [0] rfl, trivial⟩⟩))
      have hm := cfalse hb17 hm
      refine skp (t_then ?_)
      refine sq2 (rg (pv (r_zi rfl) (nil (t_then ?_))))
      have hm := oI hm; subst hm
      exact rtn (ret1 rfl rfl ⟨_, rfl, _, Im.refl, ⟨rfl, hS.sel [0] rfl, trivial⟩⟩)
    have hm := cfalse hb15 hm
    refine gF (d0 := 27) rfl rfl (by rw [hb15]; rfl) (gF (d0 := 27) rfl rfl (by rw [hb15]; rfl) (pv (r_pkf rfl hb15 rfl) (nil (t_thenR [(0, iv p0), (30, .bool false)] ⟨rfl, rfl, trivial⟩ fun J => ?_))))
    refine cnd (b := false) rfl (fun h => nomatch h) (fun _ => ?_)
    refine skp (t_then ?_)
    refine sq2 (sq2 (rg (pv (r_mi rfl) (pv (r_ib rfl rfl rfl) (nil (t_then ?_))))))
    refine cnd rfl (fun hb19 => ?_) (fun hb19 => ?_)
    · have hm := ctrue hb19 hm
      refine sq2 (rg (pv (r_zi rfl) (nil (t_then ?_))))
      have hm := oI hm; subst hm
      exact rtn (r_then (ret1 rfl rfl ⟨_, rfl, _, Im.refl, ⟨rfl, hS.sel [0] rfl, trivial⟩⟩))
    have hm := cfalse hb19 hm
    refine skp (t_then ?_)
    refine sq2 (rg (pv (r_zi rfl) (nil (t_then ?_))))
    have hm := oI hm; subst hm
    exact rtn (ret1 rfl rfl ⟨_, rfl, _, Im.refl, ⟨rfl, hS.sel [0] rfl, trivial⟩⟩)
  have hm := cfalse hb5 hm
  refine gF (d0 := 15) rfl rfl (by rw [hb5]; rfl) (gF (d0 := 15) rfl rfl (by rw [hb5]; rfl) (pv (r_pkf rfl hb5 rfl) (nil (t_then ?_))))
  refine cnd (b := false) rfl (fun h => nomatch h) (fun _ => ?_)
  refine skp (t_then ?_)
  refine sq2 (sq2 (rg (pv (r_mi rfl) (pv (r_ib rfl rfl rfl) (pv (r_mb rfl) (?_))))))
  rcases Bool.eq_false_or_eq_true (decide (16 ≤ p0)) with hb21 | hb21
  · have hm := ctrue hb21 hm
    refine gT (d0 := 21) rfl rfl hb21 (pv (r_mi rfl) (gT (d0 := 21) rfl rfl hb21 (pv (r_ib rfl rfl rfl) (pv (r_pkt rfl hb21 rfl) (nil (t_then ?_))))))
    refine cnd rfl (fun hb22 => ?_) (fun hb22 => ?_)
    · have hm := ctrue hb22 hm
      refine sq2 (rg (pv (r_zi rfl) (nil (t_then ?_))))
      have hm := oI hm; subst hm
      exact rtn (r_then (ret1 rfl rfl ⟨_, rfl, _, Im.refl, ⟨rfl, hS.sel [0] rfl, trivial⟩⟩))
    have hm := cfalse hb22 hm
    refine skp (t_then ?_)
    refine sq2 (sq2 (rg (pv (r_mi rfl) (pv (r_ib rfl rfl rfl) (pv (r_mb rfl) (?_))))))
    rcases Bool.eq_false_or_eq_true (decide (25 ≤ p0)) with hb23 | hb23
    · have hm := ctrue hb23 hm
      refine gT (d0 := 27) rfl rfl hb23 (pv (r_mi rfl) (gT (d0 := 27) rfl rfl hb23 (pv (r_ib rfl rfl rfl) (pv (r_pkt rfl hb23 rfl) (nil (t_thenR [(0, iv p0), (30, .bool (decide (p0 ≤ 27)))] ⟨rfl, rfl, trivial⟩ fun J => ?_))))))
      refine cnd rfl (fun hb24 => ?_) (fun hb24 => ?_)
      · have hm := ctrue hb24 hm
        refine sq2 (rg (pv (r_zi rfl) (nil (t_then ?_))))
        have hm := oI hm; subst hm
        exact rtn (r_then (ret1 rfl rfl ⟨_, rfl, _, Im.refl, ⟨rfl, hS.sel [0] rfl, trivial⟩⟩))
      have hm := cfalse hb24 hm
      refine skp (t_then ?_)
      refine sq2 (sq2 (rg (pv (r_mi rfl) (pv (r_ib rfl rfl rfl) (nil (t_then ?_))))))
      refine cnd rfl (fun hb25 => ?_) (fun hb25 => ?_)
      · have hm := ctrue hb25 hm
        refine sq2 (rg (pv (r_zi rfl) (nil (t_then ?_))))
        have hm := oI hm; subst hm
        exact rtn (r_then (ret1 rfl rfl ⟨_, rfl, _, Im.refl, ⟨rfl, hS.sel [0] rfl, trivial⟩⟩))
      have hm := cfalse hb25 hm
      refine skp (t_then ?_)
      refine sq2 (rg (pv (r_zi rfl) (nil (t_then ?_))))
      have hm := oI hm; subst hm
      exact rtn (ret1 rfl rfl ⟨_, rfl, _, Im.refl, ⟨rfl, hS.sel [0] rfl, trivial⟩⟩)
    have hm := cfalse hb23 hm
    refine gF (d0 := 27) rfl rfl (by rw [hb23]; rfl) (gF (d0 := 27) rfl rfl (by rw [hb23]; rfl) (pv (r_pkf rfl hb23 rfl) (nil (t_thenR [(0, iv p0), (30, .bool false)] ⟨rfl, rfl, trivial⟩ fun J => ?_))))
    refine cnd (b := false) rfl (fun h => nomatch h) (fun _ => ?_)
    refine skp (t_then ?_)
    refine sq2 (sq2 (rg (pv (r_mi rfl) (pv (r_ib rfl rfl rfl) (nil (t_then ?_))))))
    refine cnd rfl (fun hb27 => ?_) (fun hb27 => ?_)
    · have hm := ctrue hb27 hm
      refine sq2 (rg (pv (r_zi rfl) (nil (t_then ?_))))
      have hm := oI hm; subst hm
      exact rtn (r_then (ret1 rfl rfl ⟨_, rfl, _, Im.refl, ⟨rfl, hS.sel [0] rfl, trivial⟩⟩))
    have hm := cfalse hb27 hm
    refine skp (t_then ?_)
    refine sq2 (rg (pv (r_zi rfl) (nil (t_then ?_))))
    have hm := oI hm; subst hm
    exact rtn (ret1 rfl rfl ⟨_, rfl, _, Im.refl, ⟨rfl, hS.sel [0] rfl, trivial⟩⟩)
  have hm := cfalse hb21 hm
  refine gF (d0 := 21) rfl rfl (by rw [hb21]; rfl) (gF (d0 := 21) rfl rfl (by rw [hb21]; rfl) (pv (r_pkf rfl hb21 rfl) (nil (t_then ?_))))
  refine cnd (b := false) rfl (fun h => nomatch h) (fun _ => ?_)
  refine skp (t_then ?_)
  refine sq2 (sq2 (rg (pv (r_mi rfl) (pv (r_ib rfl rfl rfl) (pv (r_mb rfl) (?_))))))
  rcases Bool.eq_false_or_eq_true (decide (25 ≤ p0)) with hb29 | hb29
  · have hm := ctrue hb29 hm
    refine gT (d0 := 27) rfl rfl hb29 (pv (r_mi rfl) (gT (d0 := 27) rfl rfl hb29 (pv (r_ib rfl rfl rfl) (pv (r_pkt rfl hb29 rfl) (nil (t_thenR [(0, iv p0), (30, .bool (decide (p0 ≤ 27)))] ⟨rfl, rfl, trivial⟩ fun J => ?_))))))
    refine cnd rfl (fun hb30 => ?_) (fun hb30 => ?_)
    · have hm := ctrue hb30 hm
      refine sq2 (rg (pv (r_zi rfl) (nil (t_then ?_))))
      have hm := oI hm; subst hm
      exact rtn (r_then (ret1 rfl rfl ⟨_, rfl, _, Im.refl, ⟨rfl, hS.sel [0] rfl, trivial⟩⟩))
    have hm := cfalse hb30 hm
    refine skp (t_then ?_)
    refine sq2 (sq2 (rg (pv (r_mi rfl) (pv (r_ib rfl rfl rfl) (nil (t_then ?_))))))
    refine cnd rfl (fun hb31 => ?_) (fun hb31 => ?_)
    · have hm := ctrue hb31 hm
      refine sq2 (rg (pv (r_zi rfl) (nil (t_then ?_))))
      have hm := oI hm; subst hm
      exact rtn (r_then (ret1 rfl rfl ⟨_, rfl, _, Im.refl, ⟨rfl, hS.sel [0] rfl, trivial⟩⟩))
    have hm := cfalse hb31 hm
    refine skp (t_then ?_)
    refine sq2 (rg (pv (r_zi rfl) (nil (t_then ?_))))
    have hm := oI hm; subst hm
    exact rtn (ret1 rfl rfl ⟨_, rfl, _, Im.refl, ⟨rfl, hS.sel [0] rfl, trivial⟩⟩)
  have hm := cfalse hb29 hm
  refine gF (d0 := 27) rfl rfl (by rw [hb29]; rfl) (gF (d0 := 27) rfl rfl (by rw [hb29]; rfl) (pv (r_pkf rfl hb29 rfl) (nil (t_thenR [(0, iv p0), (30, .bool false)] ⟨rfl, rfl, trivial⟩ fun J => ?_))))
  refine cnd (b := false) rfl (fun h => nomatch h) (fun _ => ?_)
  refine skp (t_then ?_)
  refine sq2 (sq2 (rg (pv (r_mi rfl) (pv (r_ib rfl rfl rfl) (nil (t_then ?_))))))
  refine cnd rfl (fun hb33 => ?_) (fun hb33 => ?_)
  · have hm := ctrue hb33 hm
    refine sq2 (rg (pv (r_zi rfl) (nil (t_then ?_))))
    have hm := oI hm; subst hm
    exact rtn (r_then (ret1 rfl rfl ⟨_, rfl, _, Im.refl, ⟨rfl, hS.sel [0] rfl, trivial⟩⟩))
  have hm := cfalse hb33 hm
  refine skp (t_then ?_)
  refine sq2 (rg (pv (r_zi rfl) (nil (t_then ?_))))
  have hm := oI hm; subst hm
  exact rtn (ret1 rfl rfl ⟨_, rfl, _, Im.refl, ⟨rfl, hS.sel [0] rfl, trivial⟩⟩)

theorem ref02_has_sim {p0 : Int} {p1 : Int} {r : Bool} (hS : Sep g T0 w0 [R])  (hm : ref02_has p0 p1 = some r) :
    Calls Tryz.prog 25 #[.int .u8 p0, iv p1] w0 (RetS T0 w0 fun T w v => v = .bool r ∧ Sep g T w [R] ∧ True) := by
  refine enter (args := [.int .u8 p0, iv p1]) Tryz.func25 rfl Tryz.ntmps25 rfl fun J => ?_
  unfold ref02_has at hm
  refine sq2 (rg (pv (r_zb rfl) (nil (t_then ?_))))
  refine sq2 (sq2 (rg (pv (r_mi rfl) (pv (r_ib rfl rfl rfl) (nil (t_then ?_))))))
  refine cnd rfl (fun hb1 => ?_) (fun hb1 => ?_)
  · have hm := ctrue hb1 hm
    refine sq2 (rg (pv (r_mi rfl) (pv (r_ib rfl rfl rfl) (pv (r_mb rfl) (?_)))))
    rcases Bool.eq_false_or_eq_true (p0 != 83) with hb2 | hb2
    · have hm := ctrue hb2 hm
      refine gT (d0 := 9) rfl rfl hb2 (pv (r_mi rfl) (gT (d0 := 9) rfl rfl hb2 (pv (r_ib rfl rfl rfl) (pv (r_pkt rfl hb2 rfl) (pv (r_zb rfl) (nil (t_then ?_)))))))
      have hm := oI hm; subst hm
      exact rtn (r_then (ret1 rfl rfl ⟨_, rfl, _, Im.refl, ⟨rfl, hS.sel [0] rfl, trivial⟩⟩))
    have hm := cfalse hb2 hm
    refine gF (d0 := 9) rfl rfl (by rw [hb2]; rfl) (gF (d0 := 9) rfl rfl (by rw [hb2]; rfl) (pv (r_pkf rfl hb2 rfl) (pv (r_zb rfl) (nil (t_then ?_)))))
    have hm := oI hm; subst hm
    exact rtn (r_then (ret1 rfl rfl ⟨_, rfl, _, Im.refl, ⟨rfl, hS.sel [0] rfl, trivial⟩⟩))
  have hm := cfalse hb1 hm
  refine skp (t_then ?_)
  refine sq2 (sq2 (rg (pv (r_mi rfl) (pv (r_ib rfl rfl rfl) (nil (t_then ?_))))))
  refine cnd rfl (fun hb3 => ?_) (fun hb3 => ?_)
  · have hm := ctrue hb3 hm
    refine sq2 (rg (pv (r_mi rfl) (pv (r_ib rfl rfl rfl) (pv (r_mb rfl) (?_)))))
    rcases Bool.eq_false_or_eq_true (p0 != 85) with hb4 | hb4
    · have hm := ctrue hb4 hm
      refine gT (d0 := 17) rfl rfl hb4 (pv (r_mi rfl) (gT (d0 := 17) rfl rfl hb4 (pv (r_ib rfl rfl rfl) (pv (r_pkt rfl hb4 rfl) (pv (r_zb rfl) (nil (t_then ?_)))))))
      have hm := oI hm; subst hm
      exact rtn (r_then (ret1 rfl rfl ⟨_, rfl, _, Im.refl, ⟨rfl, hS.sel [0] rfl, trivial⟩⟩))
    have hm := cfalse hb4 hm
    refine gF (d0 := 17) rfl rfl (by rw [hb4]; rfl) (gF (d0 := 17) rfl rfl (by rw [hb4]; rfl) (pv (r_pkf rfl hb4 rfl) (pv (r_zb rfl) (nil (t_then ?_)))))
    have hm := oI hm; subst hm
    exact rtn (r_then (ret1 rfl rfl ⟨_, rfl, _, Im.refl, ⟨rfl, hS.sel [0] rfl, trivial⟩⟩))
  have hm := cfalse hb3 hm
  refine skp (t_then ?_)
  refine sq2 (rg (pv (r_mi rfl) (pv (r_ib rfl rfl rfl) (pv (r_mb rfl) (?_)))))
  rcases Bool.eq_false_or_eq_true (p0 == 83) with hb5 | hb5
  · have hm := ctrue hb5 hm
    refine gF (d0 := 23) rfl rfl (by rw [hb5]; rfl) (gF (d0 := 23) rfl rfl (by rw [hb5]; rfl) (pv (r_pkt rfl hb5 rfl) (pv (r_mb rfl) (gF (d0 := 27) rfl rfl rfl (gF (d0 := 27) rfl rfl rfl (pv (r_pkt rfl rfl rfl) (pv (r_zb rfl) (nil (t_then ?_)))))))))
    have hm := oI hm; subst hm
    exact rtn (ret1 rfl rfl ⟨_, rfl, _, Im.refl, ⟨rfl, hS.sel [0] rfl, trivial⟩⟩)
  have hm := cfalse hb5 hm
  refine gT (d0 := 23) rfl rfl hb5 (pv (r_mi rfl) (gT (d0 := 23) rfl rfl hb5 (pv (r_ib rfl rfl rfl) (pv (r_pkf rfl hb5 rfl) (pv (r_mb rfl) (?_))))))
  rcases Bool.eq_false_or_eq_true (p0 == 66) with hb6 | hb6
  · have hm := ctrue hb6 hm
    refine gF (d0 := 27) rfl rfl (by rw [hb6]; rfl) (gF (d0 := 27) rfl rfl (by rw [hb6]; rfl) (pv (r_pkt rfl hb6 rfl) (pv (r_zb rfl) (nil (t_then ?_)))))
    have hm := oI hm; subst hm
    exact rtn (ret1 rfl rfl ⟨_, rfl, _, Im.refl, ⟨rfl, hS.sel [0] rfl, trivial⟩⟩)
  have hm := cfalse hb6 hm
  refine gT (d0 := 27) rfl rfl hb6 (pv (r_mi rfl) (gT (d0 := 27) rfl rfl hb6 (pv (r_ib rfl rfl rfl) (pv (r_pkf rfl hb6 rfl) (pv (r_zb rfl) (nil (t_then ?_)))))))
  have hm := oI hm; subst hm
  exact rtn (ret1 rfl rfl ⟨_, rfl, _, Im.refl, ⟨rfl, hS.sel [0] rfl, trivial⟩⟩)

theorem ref02_reg_sim {p0 : Int} {p1 : Bool} {r : Bool} (hS : Sep g T0 w0 [R])  (hm : ref02_reg p0 p1 = some r) :
    Calls Tryz.prog 24 #[iv p0, .bool p1] w0 (RetS T0 w0 fun T w v => v = .bool r ∧ Sep g T w [R] ∧ True) := by
  refine enter (args := [iv p0, .bool p1]) Tryz.func24 rfl Tryz.ntmps24 rfl fun J => ?_
  unfold ref02_reg at hm
  refine sq2 (rg (pv (r_zb rfl) (nil (t_then ?_))))
  refine sq2 (sq2 (rg (pv (r_mb rfl) (pv (r_nt rfl) (nil (t_then ?_))))))
  refine cnd rfl (fun hb1 => ?_) (fun hb1 => ?_)
  · have hm := ctrue hb1 hm
    refine sq2 (rg (pv (r_mi rfl) (pv (r_ib rfl rfl rfl) (pv (r_zb rfl) (nil (t_then ?_))))))
    have hm := oI hm; subst hm
    exact rtn (r_then (ret1 rfl rfl ⟨_, rfl, _, Im.refl, ⟨rfl, hS.sel [0] rfl, trivial⟩⟩))
  have hm := cfalse hb1 hm
  refine skp (t_then ?_)
  refine sq2 (rg (pv (r_mi rfl) (pv (r_ib rfl rfl rfl) (pv (r_mb rfl) (?_)))))
  rcases Bool.eq_false_or_eq_true (decide (0 ≤ p0)) with hb2 | hb2
  · have hm := ctrue hb2 hm
    refine gT (d0 := 11) rfl rfl hb2 (pv (r_mi rfl) (gT (d0 := 11) rfl rfl hb2 (pv (r_ib rfl rfl rfl) (pv (r_pkt rfl hb2 rfl) (pv (r_zb rfl) (nil (t_then ?_)))))))
    have hm := oI hm; subst hm
    exact rtn (ret1 rfl rfl ⟨_, rfl, _, Im.refl, ⟨rfl, hS.sel [0] rfl, trivial⟩⟩)
  have hm := cfalse hb2 hm
  refine gF (d0 := 11) rfl rfl (by rw [hb2]; rfl) (gF (d0 := 11) rfl rfl (by rw [hb2]; rfl) (pv (r_pkf rfl hb2 rfl) (pv (r_zb rfl) (nil (t_then ?_)))))
  have hm := oI hm; subst hm
  exact rtn (ret1 rfl rfl ⟨_, rfl, _, Im.refl, ⟨rfl, hS.sel [0] rfl, trivial⟩⟩)

theorem ref02_room_sim {p0 : Int} {p1 : Int} {r : Bool} (hS : Sep g T0 w0 [R])  (hm : ref02_room p0 p1 = some r) :
    Calls Tryz.prog 26 #[.int .u8 p0, iv p1] w0 (RetS T0 w0 fun T w v => v = .bool r ∧ Sep g T w [R] ∧ True) := by
  refine enter (args := [.int .u8 p0, iv p1]) Tryz.func26 rfl Tryz.ntmps26 rfl fun J => ?_
  unfold ref02_room at hm
  refine sq2 (rg (pv (r_zb rfl) (nil (t_then ?_))))
  refine sq2 (sq2 (rg (pv (r_mi rfl) (pv (r_ib rfl rfl rfl) (nil (t_then ?_))))))
  refine cnd rfl (fun hb1 => ?_) (fun hb1 => ?_)
  · have hm := ctrue hb1 hm
    refine sq2 (rg (pv (r_mi rfl) (pv (r_ib rfl rfl rfl) (pv (r_mb rfl) (?_)))))
    rcases Bool.eq_false_or_eq_true (decide ((-2147483648) ≤ p1)) with hb2 | hb2
    · have hm := ctrue hb2 hm
      refine gT (d0 := 9) rfl rfl hb2 (pv (r_mi rfl) (gT (d0 := 9) rfl rfl hb2 (pv (r_ib rfl rfl rfl) (pv (r_pkt rfl hb2 rfl) (pv (r_mb rfl) (?_))))))
      rcases Bool.eq_false_or_eq_true (decide (p1 ≤ 2147479552)) with hb3 | hb3
      · have hm := ctrue hb3 hm
        refine gT (d0 := 13) rfl rfl hb3 (pv (r_mi rfl) (gT (d0 := 13) rfl rfl hb3 (pv (r_irm rfl rfl (by decide)) (gT (d0 := 13) rfl rfl hb3 (pv (r_ib rfl rfl rfl) (pv (r_pkt rfl hb3 rfl) (pv (r_zb rfl) (nil (t_then ?_)))))))))
        have hm := oI hm; subst hm
        exact rtn (r_then (ret1 rfl rfl ⟨_, rfl, _, Im.refl, ⟨rfl, hS.sel [0] rfl, trivial⟩⟩))
      have hm := cfalse hb3 hm
      refine gF (d0 := 13) rfl rfl (by rw [hb3]; rfl) (gF (d0 := 13) rfl rfl (by rw [hb3]; rfl) (gF (d0 := 13) rfl rfl (by rw [hb3]; rfl) (pv (r_pkf rfl hb3 rfl) (pv (r_zb rfl) (nil (t_then ?_))))))
      have hm := oI hm; subst hm
      exact rtn (r_then (ret1 rfl rfl ⟨_, rfl, _, Im.refl, ⟨rfl, hS.sel [0] rfl, trivial⟩⟩))
    have hm := cfalse hb2 hm
    refine gF (d0 := 9) rfl rfl (by rw [hb2]; rfl) (gF (d0 := 9) rfl rfl (by rw [hb2]; rfl) (pv (r_pkf rfl hb2 rfl) (pv (r_mb rfl) (gF (d0 := 13) rfl rfl rfl (gF (d0 := 13) rfl rfl rfl (gF (d0 := 13) rfl rfl rfl (pv (r_pkf rfl rfl rfl) (pv (r_zb rfl) (nil (t_then ?_))))))))))
    have hm := oI hm; subst hm
    exact rtn (r_then (ret1 rfl rfl ⟨_, rfl, _, Im.refl, ⟨rfl, hS.sel [0] rfl, trivial⟩⟩))
  have hm := cfalse hb1 hm
  refine skp (t_then ?_)
  refine sq2 (sq2 (rg (pv (r_mi rfl) (pv (r_ib rfl rfl rfl) (nil (t_then ?_))))))
  refine cnd rfl (fun hb4 => ?_) (fun hb4 => ?_)
  · have hm := ctrue hb4 hm
    refine sq2 (rg (pv (r_mi rfl) (pv (r_ib rfl rfl rfl) (pv (r_mb rfl) (?_)))))
    rcases Bool.eq_false_or_eq_true (decide ((-1048576) ≤ p1)) with hb5 | hb5
    · have hm := ctrue hb5 hm
      refine gT (d0 := 22) rfl rfl hb5 (pv (r_mi rfl) (gT (d0 := 22) rfl rfl hb5 (pv (r_ib rfl rfl rfl) (pv (r_pkt rfl hb5 rfl) (pv (r_mb rfl) (?_))))))
      rcases Bool.eq_false_or_eq_true (decide (p1 ≤ 1048574)) with hb6 | hb6
      · have hm := ctrue hb6 hm
        refine gT (d0 := 26) rfl rfl hb6 (pv (r_mi rfl) (gT (d0 := 26) rfl rfl hb6 (pv (r_irm rfl rfl (by decide)) (gT (d0 := 26) rfl rfl hb6 (pv (r_ib rfl rfl rfl) (pv (r_pkt rfl hb6 rfl) (pv (r_zb rfl) (nil (t_then ?_)))))))))
        have hm := oI hm; subst hm
        exact rtn (r_then (ret1 rfl rfl ⟨_, rfl, _, Im.refl, ⟨rfl, hS.sel [0] rfl, trivial⟩⟩))
      have hm := cfalse hb6 hm
      refine gF (d0 := 26) rfl rfl (by rw [hb6]; rfl) (gF (d0 := 26) rfl rfl (by rw [hb6]; rfl) (gF (d0 := 26) rfl rfl (by rw [hb6]; rfl) (pv (r_pkf rfl hb6 rfl) (pv (r_zb rfl) (nil (t_then ?_))))))
      have hm := oI hm; subst hm
      exact rtn (r_then (ret1 rfl rfl ⟨_, rfl, _, Im.refl, ⟨rfl, hS.sel [0] rfl, trivial⟩⟩))
    have hm := cfalse hb5 hm
    refine gF (d0 := 22) rfl rfl (by rw [hb5]; rfl) (gF (d0 := 22) rfl rfl (by rw [hb5]; rfl) (pv (r_pkf rfl hb5 rfl) (pv (r_mb rfl) (gF (d0 := 26) rfl rfl rfl (gF (d0 := 26) rfl rfl rfl (gF (d0 := 26) rfl rfl rfl (pv (r_pkf rfl rfl rfl) (pv (r_zb rfl) (nil (t_then ?_))))))))))
    have hm := oI hm; subst hm
    exact rtn (r_then (ret1 rfl rfl ⟨_, rfl, _, Im.refl, ⟨rfl, hS.sel [0] rfl, trivial⟩⟩))
  have hm := cfalse hb4 hm
  refine skp (t_then ?_)
  refine sq2 (sq2 (rg (pv (r_mi rfl) (pv (r_ib rfl rfl rfl) (pv (r_mb rfl) (?_))))))
  rcases Bool.eq_false_or_eq_true (p0 == 73) with hb7 | hb7
  · have hm := ctrue hb7 hm
    refine gF (d0 := 33) rfl rfl (by rw [hb7]; rfl) (gF (d0 := 33) rfl rfl (by rw [hb7]; rfl) (pv (r_pkt rfl hb7 rfl) (nil (t_then ?_))))
    refine cnd (b := true) rfl (fun _ => ?_) (fun h => nomatch h)
    refine sq2 (rg (pv (r_mi rfl) (pv (r_ib rfl rfl rfl) (pv (r_mb rfl) (?_)))))
    rcases Bool.eq_false_or_eq_true (decide ((-2048) ≤ p1)) with hb16 | hb16
    · have hm := ctrue hb16 hm
      refine gT (d0 := 39) rfl rfl hb16 (pv (r_mi rfl) (gT (d0 := 39) rfl rfl hb16 (pv (r_ib rfl rfl rfl) (pv (r_pkt rfl hb16 rfl) (pv (r_zb rfl) (nil (t_then ?_)))))))
      have hm := oI hm; subst hm
      exact rtn (r_then (ret1 rfl rfl ⟨_, rfl, _, Im.refl, ⟨rfl, hS.sel [0] rfl, trivial⟩⟩))
    have hm := cfalse hb16 hm
    refine gF (d0 := 39) rfl rfl (by rw [hb16]; rfl) (gF (d0 := 39) rfl rfl (by rw [hb16]; rfl) (pv (r_pkf rfl hb16 rfl) (pv (r_zb rfl) (nil (t_then ?_)))))
    have hm := oI hm; subst hm
    exact rtn (r_then (ret1 rfl rfl ⟨_, rfl, _, Im.refl, ⟨rfl, hS.sel [0] rfl, trivial⟩⟩))
  have hm := cfalse hb7 hm
  refine gT (d0 := 33) rfl rfl hb7 (pv (r_mi rfl) (gT (d0 := 33) rfl rfl hb7 (pv (r_ib rfl rfl rfl) (pv (r_pkf rfl hb7 rfl) (nil (t_then ?_))))))
  refine cnd rfl (fun hb8 => ?_) (fun hb8 => ?_)
  · have hm := ctrue hb8 hm
    refine sq2 (rg (pv (r_mi rfl) (pv (r_ib rfl rfl rfl) (pv (r_mb rfl) (?_)))))
    rcases Bool.eq_false_or_eq_true (decide ((-2048) ≤ p1)) with hb9 | hb9
    · have hm := ctrue hb9 hm
      refine gT (d0 := 39) rfl rfl hb9 (pv (r_mi rfl) (gT (d0 := 39) rfl rfl hb9 (pv (r_ib rfl rfl rfl) (pv (r_pkt rfl hb9 rfl) (pv (r_zb rfl) (nil (t_then ?_)))))))
      have hm := oI hm; subst hm
      exact rtn (r_then (ret1 rfl rfl ⟨_, rfl, _, Im.refl, ⟨rfl, hS.sel [0] rfl, trivial⟩⟩))
    have hm := cfalse hb9 hm
    refine gF (d0 := 39) rfl rfl (by rw [hb9]; rfl) (gF (d0 := 39) rfl rfl (by rw [hb9]; rfl) (pv (r_pkf rfl hb9 rfl) (pv (r_zb rfl) (nil (t_then ?_)))))
    have hm := oI hm; subst hm
    exact rtn (r_then (ret1 rfl rfl ⟨_, rfl, _, Im.refl, ⟨rfl, hS.sel [0] rfl, trivial⟩⟩))
  have hm := cfalse hb8 hm
  refine skp (t_then ?_)
  refine sq2 (sq2 (rg (pv (r_mi rfl) (pv (r_ib rfl rfl rfl) (nil (t_then ?_))))))
  refine cnd rfl (fun hb10 => ?_) (fun hb10 => ?_)
  · have hm := ctrue hb10 hm
    refine sq2 (rg (pv (r_mi rfl) (pv (r_ib rfl rfl rfl) (pv (r_mb rfl) (?_)))))
    rcases Bool.eq_false_or_eq_true (decide (0 ≤ p1)) with hb11 | hb11
    · have hm := ctrue hb11 hm
      refine gT (d0 := 47) rfl rfl hb11 (pv (r_mi rfl) (gT (d0 := 47) rfl rfl hb11 (pv (r_ib rfl rfl rfl) (pv (r_pkt rfl hb11 rfl) (pv (r_zb rfl) (nil (t_then ?_)))))))
      have hm := oI hm; subst hm
      exact rtn (r_then (ret1 rfl rfl ⟨_, rfl, _, Im.refl, ⟨rfl, hS.sel [0] rfl, trivial⟩⟩))
    have hm := cfalse hb11 hm
    refine gF (d0 := 47) rfl rfl (by rw [hb11]; rfl) (gF (d0 := 47) rfl rfl (by rw [hb11]; rfl) (pv (r_pkf rfl hb11 rfl) (pv (r_zb rfl) (nil (t_then ?_)))))
    have hm := oI hm; subst hm
    exact rtn (r_then (ret1 rfl rfl ⟨_, rfl, _, Im.refl, ⟨rfl, hS.sel [0] rfl, trivial⟩⟩))
  have hm := cfalse hb10 hm
  refine skp (t_then ?_)
  refine sq2 (sq2 (rg (pv (r_mi rfl) (pv (r_ib rfl rfl rfl) (nil (t_then ?_))))))
  refine cnd rfl (fun hb12 => ?_) (fun hb12 => ?_)
  · have hm := ctrue hb12 hm
    refine sq2 (rg (pv (r_mi rfl) (pv (r_ib rfl rfl rfl) (pv (r_mb rfl) (?_)))))
    rcases Bool.eq_false_or_eq_true (decide ((-4096) ≤ p1)) with hb13 | hb13
    · have hm := ctrue hb13 hm
      refine gT (d0 := 55) rfl rfl hb13 (pv (r_mi rfl) (gT (d0 := 55) rfl rfl hb13 (pv (r_ib rfl rfl rfl) (pv (r_pkt rfl hb13 rfl) (pv (r_mb rfl) (?_))))))
      rcases Bool.eq_false_or_eq_true (decide (p1 ≤ 4094)) with hb14 | hb14
      · have hm := ctrue hb14 hm
        refine gT (d0 := 59) rfl rfl hb14 (pv (r_mi rfl) (gT (d0 := 59) rfl rfl hb14 (pv (r_irm rfl rfl (by decide)) (gT (d0 := 59) rfl rfl hb14 (pv (r_ib rfl rfl rfl) (pv (r_pkt rfl hb14 rfl) (pv (r_zb rfl) (nil (t_thenR [(4, .bool ((Int.tmod p1 2) == 0))] ⟨rfl, trivial⟩ fun J => ?_)))))))))
        have hm := oI hm; subst hm
        exact rtn (r_then (ret1 rfl rfl ⟨_, rfl, _, Im.refl, ⟨rfl, hS.sel [0] rfl, trivial⟩⟩))
      have hm := cfalse hb14 hm
      refine gF (d0 := 59) rfl rfl (by rw [hb14]; rfl) (gF (d0 := 59) rfl rfl (by rw [hb14]; rfl) (gF (d0 := 59) rfl rfl (by rw [hb14]; rfl) (pv (r_pkf rfl hb14 rfl) (pv (r_zb rfl) (nil (t_thenR [(4, .bool false)] ⟨rfl, trivial⟩ fun J => ?_))))))
      have hm := oI hm; subst hm
      exact rtn (r_then (ret1 rfl rfl ⟨_, rfl, _, Im.refl, ⟨rfl, hS.sel [0] rfl, trivial⟩⟩))
    have hm := cfalse hb13 hm
    refine gF (d0 := 55) rfl rfl (by rw [hb13]; rfl) (gF (d0 := 55) rfl rfl (by rw [hb13]; rfl) (pv (r_pkf rfl hb13 rfl) (pv (r_mb rfl) (gF (d0 := 59) rfl rfl rfl (gF (d0 := 59) rfl rfl rfl (gF (d0 := 59) rfl rfl rfl (pv (r_pkf rfl rfl rfl) (pv (r_zb rfl) (nil (t_thenR [(4, .bool false)] ⟨rfl, trivial⟩ fun J => ?_))))))))))
    have hm := oI hm; subst hm
    exact rtn (r_then (ret1 rfl rfl ⟨_, rfl, _, Im.refl, ⟨rfl, hS.sel [0] rfl, trivial⟩⟩))
  have hm := cfalse hb12 hm
  refine skp (t_then ?_)
  refine sq2 (rg (pv (r_mi rfl) (pv (r_ib rfl rfl rfl) (pv (r_zb rfl) (nil (t_then ?_))))))
  have hm := oI hm; subst hm
  exact rtn (ret1 rfl rfl ⟨_, rfl, _, Im.refl, ⟨rfl, hS.sel [0] rfl, trivial⟩⟩)

theorem ref02_Right_sim {p0 : GInst} {r : Bool} (hS : Sep g T0 w0 [R])  (hm : ref02_Right p0 = some r) :
    Calls Tryz.prog 8 #[.agg (cGInst p0).toArray] w0 (RetS T0 w0 fun T w v => v = .bool r ∧ Sep g T w [R] ∧ True) := by
  refine enter (args := [.agg (cGInst p0).toArray]) Tryz.func8 rfl Tryz.ntmps8 rfl fun J => ?_
  unfold ref02_Right at hm
  refine sq2 (rg (wl rfl (bxS (cs := (cGInst p0)) rfl rfl hS fun w1 b1 im1 hS1 => ?_)))
  refine pv (r_zb rfl) (nil (t_then ?_))
  refine sq2 ?_
  obtain ⟨y1, hx1, hm⟩ := bindS hm
  refine rg (pv (r_fa rfl underlying28 rfl sizeOf3 rfl) (pv (r_ld rfl isAgg3 (hS1.cell0 (i := 0) ⟨rfl, rfl⟩ (j := 0) rfl)) (wl rfl (calS cf23 rfl (ref02_Form_sim (p0 := p0.Op) (hS1.bun [0, 1] [] rfl)  hx1) rfl fun v1 T1 w2 im2 rv1 => ?_))))
  obtain ⟨rfl, hS2, _⟩ := rv1
  have hS2 := hS2.unb
  refine pv (r_zi rfl) (nil (t_then ?_))
  refine sq2 (rs [0, 0, 0, 0, 1, 0, 2, 2, 0, 0, 0, 1, 0, 2, 2, 0, 0, 0, 1, 0, 2, 2, 0, 0, 0, 0, 1, 2, 0, 0] [0, 1, 2, 3, 4, 5, 6, 7, 8, 9, 10, 11, 12, 13, 14, 15, 16, 17, 18, 19, 20, 21, 22, 23, 24, 25, 26, 27, 28, 29] mix (by kernel_rfl) hS2.lt fun w3 i1 => ?_)
  have im3 := i1.imm
  have hS3 := hS2.keep i1 (fun _ h => h)
  refine s0 rfl trivial (fun _ => r_mi rfl) rfl (s0 rfl trivial (fun _ => r_ib rfl rfl rfl) rfl (s0 rfl trivial (fun _ => r_mb rfl) rfl (?_)))
  rcases Bool.eq_false_or_eq_true (y1 != 0) with hb1 | hb1
  · have hm := ctrue hb1 hm
    obtain ⟨y2, hx2, hm⟩ := bindS hm
    refine s0 rfl ⟨_, rfl, congrArg Value.bool hb1⟩ (fun _ => r_fa rfl underlying28 rfl sizeOf3 rfl) rfl (s1 rfl ⟨_, rfl, congrArg Value.bool hb1⟩ (r_ld rfl isAgg3 (hS3.cell0 (i := 0) ⟨rfl, rfl⟩ (j := 1) rfl)) rfl (s0 rfl ⟨_, rfl, congrArg Value.bool hb1⟩ (fun _ => r_mi rfl) rfl (s2 [(4, iv p0.Rd)] rfl ⟨_, rfl, congrArg Value.bool hb1⟩ rfl (by kernel_rfl) (calS cf25 rfl (ref02_has_sim (p0 := y1) (p1 := 1) (hS3.bun [0, 1] [] rfl)  hx2) rfl fun v2 T2 w4 im4 rv2 => ?_))))
    obtain ⟨rfl, hS4, _⟩ := rv2
    have hS4 := hS4.unb
    refine ⟨st1 rfl (r_ld rfl isAgg3 (hS4.cell0 (i := 0) ⟨rfl, rfl⟩ (j := 1) rfl)) (st0), ?_⟩
    obtain ⟨y3, hx3, hm⟩ := bindS hm
    refine s2 [] rfl ⟨_, rfl, congrArg Value.bool hb1⟩ rfl (by kernel_rfl) (calS cf24 rfl (ref02_reg_sim (p0 := p0.Rd) (p1 := y2) (hS4.bun [0, 1] [] rfl)  hx3) rfl fun v3 T3 w5 im5 rv3 => ?_)
    obtain ⟨rfl, hS5, _⟩ := rv3
    have hS5 := hS5.unb
    refine ⟨st0, ?_⟩
    refine s0 rfl trivial (fun _ => r_pkt rfl hb1 rfl) rfl (s0 rfl trivial (fun _ => r_mb rfl) rfl (?_))
    rcases Bool.eq_false_or_eq_true y3 with hb2 | hb2
    · have hm := ctrue hb2 hm
      obtain ⟨y4, hx4, hm⟩ := bindS hm
      refine s0 rfl ⟨_, rfl, congrArg Value.bool hb2⟩ (fun _ => r_fa rfl underlying28 rfl sizeOf3 rfl) rfl (s1 rfl ⟨_, rfl, congrArg Value.bool hb2⟩ (r_ld rfl isAgg3 (hS5.cell0 (i := 0) ⟨rfl, rfl⟩ (j := 2) rfl)) rfl (s0 rfl ⟨_, rfl, congrArg Value.bool hb2⟩ (fun _ => r_mi rfl) rfl (s2 [(11, iv p0.Rs1)] rfl ⟨_, rfl, congrArg Value.bool hb2⟩ rfl (by kernel_rfl) (calS cf25 rfl (ref02_has_sim (p0 := y1) (p1 := 2) (hS5.bun [0, 1] [] rfl)  hx4) rfl fun v4 T4 w6 im6 rv4 => ?_))))
      obtain ⟨rfl, hS6, _⟩ := rv4
      have hS6 := hS6.unb
      refine ⟨st1 rfl (r_ld rfl isAgg3 (hS6.cell0 (i := 0) ⟨rfl, rfl⟩ (j := 2) rfl)) (st0), ?_⟩
      obtain ⟨y5, hx5, hm⟩ := bindS hm
      refine s2 [] rfl ⟨_, rfl, congrArg Value.bool hb2⟩ rfl (by kernel_rfl) (calS cf24 rfl (ref02_reg_sim (p0 := p0.Rs1) (p1 := y4) (hS6.bun [0, 1] [] rfl)  hx5) rfl fun v5 T5 w7 im7 rv5 => ?_)
      obtain ⟨rfl, hS7, _⟩ := rv5
      have hS7 := hS7.unb
      refine ⟨st0, ?_⟩
      refine s0 rfl trivial (fun _ => r_pkt rfl hb2 rfl) rfl (s0 rfl trivial (fun _ => r_mb rfl) rfl (?_))
      rcases Bool.eq_false_or_eq_true y5 with hb3 | hb3
      · have hm := ctrue hb3 hm
        obtain ⟨y6, hx6, hm⟩ := bindS hm
        refine s0 rfl ⟨_, rfl, congrArg Value.bool hb3⟩ (fun _ => r_fa rfl underlying28 rfl sizeOf3 rfl) rfl (s1 rfl ⟨_, rfl, congrArg Value.bool hb3⟩ (r_ld rfl isAgg3 (hS7.cell0 (i := 0) ⟨rfl, rfl⟩ (j := 3) rfl)) rfl (s0 rfl ⟨_, rfl, congrArg Value.bool hb3⟩ (fun _ => r_mi rfl) rfl (s2 [(18, iv p0.Rs2)] rfl ⟨_, rfl, congrArg Value.bool hb3⟩ rfl (by kernel_rfl) (calS cf25 rfl (ref02_has_sim (p0 := y1) (p1 := 3) (hS7.bun [0, 1] [] rfl)  hx6) rfl fun v6 T6 w8 im8 rv6 => ?_))))
        obtain ⟨rfl, hS8, _⟩ := rv6
        have hS8 := hS8.unb
        refine ⟨st1 rfl (r_ld rfl isAgg3 (hS8.cell0 (i := 0) ⟨rfl, rfl⟩ (j := 3) rfl)) (st0), ?_⟩
        obtain ⟨y7, hx7, hm⟩ := bindS hm
        refine s2 [] rfl ⟨_, rfl, congrArg Value.bool hb3⟩ rfl (by kernel_rfl) (calS cf24 rfl (ref02_reg_sim (p0 := p0.Rs2) (p1 := y6) (hS8.bun [0, 1] [] rfl)  hx7) rfl fun v7 T7 w9 im9 rv7 => ?_)
        obtain ⟨rfl, hS9, _⟩ := rv7
        have hS9 := hS9.unb
        refine ⟨st0, ?_⟩
        refine s0 rfl trivial (fun _ => r_pkt rfl hb3 rfl) rfl (s0 rfl trivial (fun _ => r_mb rfl) rfl (?_))
        rcases Bool.eq_false_or_eq_true y7 with hb4 | hb4
        · have hm := ctrue hb4 hm
          obtain ⟨y8, hx8, hm⟩ := bindS hm
          refine s0 rfl ⟨_, rfl, congrArg Value.bool hb4⟩ (fun _ => r_mi rfl) rfl (s0 rfl ⟨_, rfl, congrArg Value.bool hb4⟩ (fun _ => r_fa rfl underlying28 rfl sizeOf3 rfl) rfl (s1 rfl ⟨_, rfl, congrArg Value.bool hb4⟩ (r_ld rfl isAgg3 (hS9.cell0 (i := 0) ⟨rfl, rfl⟩ (j := 4) rfl)) rfl (s2 [] rfl ⟨_, rfl, congrArg Value.bool hb4⟩ rfl (by kernel_rfl) (calS cf26 rfl (ref02_room_sim (p0 := y1) (p1 := p0.Imm) (hS9.bun [1, 0] [] rfl)  hx8) rfl fun v8 T8 w10 im10 rv8 => ?_))))
          obtain ⟨rfl, hS10, _⟩ := rv8
          have hS10 := hS10.unb
          refine ⟨st0, ?_⟩
          refine s0 rfl trivial (fun _ => r_pkt rfl hb4 rfl) rfl (s0 rfl trivial (fun _ => r_zb rfl) rfl (se (t_thenR [(2, .bool y8)] ⟨rfl, trivial⟩ fun J => ?_)))
          have hm := oI hm; subst hm
          exact rtn (ret1 rfl rfl ⟨_, rfl, _, (iT im1 (iT im2 (iT im3 (iT im4 (iT im5 (iT im6 (iT im7 (iT im8 (iT im9 im10))))))))), ⟨rfl, hS10.sel [0] rfl, trivial⟩⟩)
        have hm := cfalse hb4 hm
        refine sU rfl (gI rfl rfl hb4) (sU rfl (gI rfl rfl hb4) (sU rfl (gI rfl rfl hb4) (sU rfl (gI rfl rfl hb4) (s0 rfl trivial (fun _ => r_pkf rfl hb4 rfl) rfl (s0 rfl trivial (fun _ => r_zb rfl) rfl (se (t_thenR [(2, .bool false)] ⟨rfl, trivial⟩ fun J => ?_)))))))
        have hm := oI hm; subst hm
        exact rtn (ret1 rfl rfl ⟨_, rfl, _, (iT im1 (iT im2 (iT im3 (iT im4 (iT im5 (iT im6 (iT im7 (iT im8 im9)))))))), ⟨rfl, hS9.sel [1] rfl, trivial⟩⟩)
      have hm := cfalse hb3 hm
      refine sU rfl (gI rfl rfl hb3) (sU rfl (gI rfl rfl hb3) (sU rfl (gI rfl rfl hb3) (sU rfl (gI rfl rfl hb3) (sU rfl (gI rfl rfl hb3) (s0 rfl trivial (fun _ => r_pkf rfl hb3 rfl) rfl (s0 rfl trivial (fun _ => r_mb rfl) rfl (sU rfl (gI rfl rfl rfl) (sU rfl (gI rfl rfl rfl) (sU rfl (gI rfl rfl rfl) (sU rfl (gI rfl rfl rfl) (s0 rfl trivial (fun _ => r_pkf rfl rfl rfl) rfl (s0 rfl trivial (fun _ => r_zb rfl) rfl (se (t_thenR [(2, .bool false)] ⟨rfl, trivial⟩ fun J => ?_))))))))))))))
      have hm := oI hm; subst hm
      exact rtn (ret1 rfl rfl ⟨_, rfl, _, (iT im1 (iT im2 (iT im3 (iT im4 (iT im5 (iT im6 im7)))))), ⟨rfl, hS7.sel [1] rfl, trivial⟩⟩)
    have hm := cfalse hb2 hm
    refine sU rfl (gI rfl rfl hb2) (sU rfl (gI rfl rfl hb2) (sU rfl (gI rfl rfl hb2) (sU rfl (gI rfl rfl hb2) (sU rfl (gI rfl rfl hb2) (s0 rfl trivial (fun _ => r_pkf rfl hb2 rfl) rfl (s0 rfl trivial (fun _ => r_mb rfl) rfl (sU rfl (gI rfl rfl rfl) (sU rfl (gI rfl rfl rfl) (sU rfl (gI rfl rfl rfl) (sU rfl (gI rfl rfl rfl) (sU rfl (gI rfl rfl rfl) (s0 rfl trivial (fun _ => r_pkf rfl rfl rfl) rfl (s0 rfl trivial (fun _ => r_mb rfl) rfl (sU rfl (gI rfl rfl rfl) (sU rfl (gI rfl rfl rfl) (sU rfl (gI rfl rfl rfl) (sU rfl (gI rfl rfl rfl) (s0 rfl trivial (fun _ => r_pkf rfl rfl rfl) rfl (s0 rfl trivial (fun _ => r_zb rfl) rfl (se (t_thenR [(2, .bool false)] ⟨rfl, trivial⟩ fun J => ?_)))))))))))))))))))))
    have hm := oI hm; subst hm
    exact rtn (ret1 rfl rfl ⟨_, rfl, _, (iT im1 (iT im2 (iT im3 (iT im4 im5)))), ⟨rfl, hS5.sel [1] rfl, trivial⟩⟩)
  have hm := cfalse hb1 hm
  refine sU rfl (gI rfl rfl hb1) (sU rfl (gI rfl rfl hb1) (sU rfl (gI rfl rfl hb1) (sU rfl (gI rfl rfl hb1) (sU rfl (gI rfl rfl hb1) (s0 rfl trivial (fun _ => r_pkf rfl hb1 rfl) rfl (s0 rfl trivial (fun _ => r_mb rfl) rfl (sU rfl (gI rfl rfl rfl) (sU rfl (gI rfl rfl rfl) (sU rfl (gI rfl rfl rfl) (sU rfl (gI rfl rfl rfl) (sU rfl (gI rfl rfl rfl) (s0 rfl trivial (fun _ => r_pkf rfl rfl rfl) rfl (s0 rfl trivial (fun _ => r_mb rfl) rfl (sU rfl (gI rfl rfl rfl) (sU rfl (gI rfl rfl rfl) (sU rfl (gI rfl rfl rfl) (sU rfl (gI rfl rfl rfl) (sU rfl (gI rfl rfl rfl) (s0 rfl trivial (fun _ => r_pkf rfl rfl rfl) rfl (s0 rfl trivial (fun _ => r_mb rfl) rfl (sU rfl (gI rfl rfl rfl) (sU rfl (gI rfl rfl rfl) (sU rfl (gI rfl rfl rfl) (sU rfl (gI rfl rfl rfl) (s0 rfl trivial (fun _ => r_pkf rfl rfl rfl) rfl (s0 rfl trivial (fun _ => r_zb rfl) rfl (se (t_thenR [(2, .bool false)] ⟨rfl, trivial⟩ fun J => ?_))))))))))))))))))))))))))))
  have hm := oI hm; subst hm
  exact rtn (ret1 rfl rfl ⟨_, rfl, _, (iT im1 (iT im2 im3)), ⟨rfl, hS3.sel [1] rfl, trivial⟩⟩)

theorem strconv_isPowerOfTwo_sim {p0 : Int} {r : Bool} (hS : Sep g T0 w0 [R])  (hm : strconv_isPowerOfTwo p0 = some r) :
    Calls Tryz.prog 113 #[iv p0] w0 (RetS T0 w0 fun T w v => v = .bool r ∧ Sep g T w [R] ∧ True) := by
  refine enter (args := [iv p0]) Tryz.func113 rfl Tryz.ntmps113 rfl fun J => ?_
  unfold strconv_isPowerOfTwo at hm
  refine sq2 (rg (pv (r_zb rfl) (nil (t_then ?_))))
  refine sq2 (rg (pv (r_mi rfl) (pv (r_mi rfl) (pv (r_ib rfl rfl rfl) (pv (r_ib rfl rfl rfl) (pv (r_ib rfl rfl rfl) (pv (r_zb rfl) (nil (t_then ?_)))))))))
  have hm := oI hm; subst hm
  exact rtn (ret1 rfl rfl ⟨_, rfl, _, Im.refl, ⟨rfl, hS.sel [0] rfl, trivial⟩⟩)

theorem strconv_formatBits_sim {p0 : List Int} {a1 : OA} {c1 : Nat} {p1 : Int} {p2 : Int} {p3 : Bool} {p4 : Bool} {r : (List Int) × (List UInt8)} (hS : Sep g T0 w0 [R]) (h1 : SlR (rInt .u8) T0 w0 (sv a1 p0 c1) p0) (hG7 : Gc T0 w0 7 (Lib.deBruijn64tab.map fun (z : Nat) => Value.int .u8 (z : Int))) (hm : strconv_formatBits p0 p1 p2 p3 p4 = some r) :
    Calls Tryz.prog 93 #[sv a1 p0 c1, .int .u64 p1, iv p2, .bool p3, .bool p4] w0 (RetS T0 w0 fun T w v => ∃ (a2 : OA) (c2 : Nat), v = .tuple #[sv a2 r.1 c2, .string ⟨r.2.toArray⟩] ∧ Sep g T w [R] ∧ SlR (rInt .u8) T w (sv a2 r.1 c2) r.1 ∧ True) := by
  refine enter (args := [sv a1 p0 c1, .int .u64 p1, iv p2, .bool p3, .bool p4]) Tryz.func93 rfl Tryz.ntmps93 rfl fun J => ?_
  unfold strconv_formatBits at hm
  refine sq2 (rg (pv (r_zs rfl) (pv (r_zt rfl) (nil (t_then ?_)))))
  refine sq2 (sq2 (rg (pv (r_mi rfl) (pv (r_ib rfl rfl rfl) (pv (r_mb rfl) (?_))))))
  rcases Bool.eq_false_or_eq_true (decide (p2 < 2)) with hb1 | hb1
  · have hm := ctrue hb1 hm
    refine gF (d0 := 21) rfl rfl (by rw [hb1]; rfl) (gF (d0 := 21) rfl rfl (by rw [hb1]; rfl) (pv (r_pkt rfl hb1 rfl) (pv (r_mb rfl) (gF (d0 := 25) rfl rfl rfl (gF (d0 := 25) rfl rfl rfl (pv (r_pkt rfl rfl rfl) (nil (t_then ?_))))))))
    refine cnd (b := true) rfl (fun _ => ?_) (fun h => nomatch h)
    cases hm
  have hm := cfalse hb1 hm
  refine gT (d0 := 21) rfl rfl hb1 (pv (r_mi rfl) (gT (d0 := 21) rfl rfl hb1 (pv (r_ib rfl rfl rfl) (pv (r_pkf rfl hb1 rfl) (pv (r_mb rfl) (?_))))))
  rcases Bool.eq_false_or_eq_true (p2 == 10) with hb2 | hb2
  · have hm := ctrue hb2 hm
    refine gF (d0 := 25) rfl rfl (by rw [hb2]; rfl) (gF (d0 := 25) rfl rfl (by rw [hb2]; rfl) (pv (r_pkt rfl hb2 rfl) (nil (t_then ?_))))
    refine cnd (b := true) rfl (fun _ => ?_) (fun h => nomatch h)
    cases hm
  have hm := cfalse hb2 hm
  refine gT (d0 := 25) rfl rfl hb2 (pv (r_mi rfl) (gT (d0 := 25) rfl rfl hb2 (pv (r_ib rfl rfl rfl) (pv (r_pkf rfl hb2 rfl) (nil (t_then ?_))))))
  refine cnd rfl (fun hb3 => ?_) (fun hb3 => ?_)
  · have hm := ctrue hb3 hm
    cases hm
  have hm := cfalse hb3 hm
  refine skp (t_then ?_)
  refine sq2 (rg (wl rfl (alS (zs := (List.map enI_u8' (List.replicate 65 0)).flatten ++ []) zeroValue127 (by kernel_rfl) hS fun w1 b1 im1 hS1 => ?_)))
  refine nil (t_then ?_)
  refine sq2 (rg (pv (r_zi rfl) (nil (t_then ?_))))
  refine sq2 (sq2 (rg (pv (r_mb rfl) (nil (t_then ?_)))))
  refine cnd rfl (fun hb4 => ?_) (fun hb4 => ?_)
  · have hm := ctrue hb4 hm
    cases hm
  have hm := cfalse hb4 hm
  refine skp (t_then ?_)
  refine sq2 (sq2 ?_)
  obtain ⟨y1, hx1, hm⟩ := bindS hm
  refine rg (pv (r_mi rfl) (wl rfl (calS cf113 rfl (strconv_isPowerOfTwo_sim (p0 := p2) (hS1.bun [0, 1] [] rfl)  hx1) rfl fun v1 T1 w2 im2 rv1 => ?_)))
  obtain ⟨rfl, hS2, _⟩ := rv1
  have hS2 := hS2.unb
  refine nil (t_then ?_)
  refine cnd rfl (fun hb5 => ?_) (fun hb5 => ?_)
  · have hm := ctrue hb5 hm
    refine sq2 ?_
    obtain ⟨y2, hx2, hm⟩ := bindS hm
    refine rg (pv (r_mi rfl) (pv (r_cv rfl underlying3 underlying103) (wl rfl (calS cf114 rfl (bits_TrailingZeros_sim (p0 := IntKind.wrap .u64 p2) (hS2.bun [0, 1] [] rfl) (hG7.mono (iT im1 im2)) hx2) rfl fun v2 T2 w3 im3 rv2 => ?_))))
    obtain ⟨rfl, hS3, _⟩ := rv2
    have hS3 := hS3.unb
    refine pv (r_cv rfl underlying3 underlying103) (pv (r_zi rfl) (nil (t_then ?_)))
    refine sq2 (rg (pv (r_mi rfl) (pv (r_cv rfl underlying3 underlying80) (pv (r_zi rfl) (nil (t_then ?_))))))
    refine sq2 (rg (pv (r_mi rfl) (pv (r_cv rfl underlying3 underlying103) (pv (r_ib rfl rfl rfl) (pv (r_zi rfl) (nil (t_thenR [(1, .int .u64 p1), (3, .bool p3), (4, .bool p4), (10, .slice none 0 0), (12, pt b1 0), (13, iv 65), (14, .int .u64 (IntKind.wrap .u64 y2)), (15, .int .u64 (IntKind.wrap .u64 p2)), (16, .int .u64 (IntKind.wrap .u64 ((IntKind.wrap .u64 p2) - 1)))] ⟨rfl, rfl, rfl, rfl, rfl, rfl, rfl, rfl, rfl, trivial⟩ fun J => ?_)))))))
    refine sq2 ?_
    obtain ⟨o1, ho1, hq1⟩ := bindS hm
    obtain ⟨bd1, hbd1, ho1⟩ := loop_open ho1
    refine blk (wp_loop_ghost (fun m a w4 => ∃ (J : JV) (T3 : TP) (x3 : List Int) (x1 : Int) (x2 : Int), a = env (nf 102) J [(1, .int .u64 x1), (3, .bool p3), (4, .bool p4), (10, .slice none 0 0), (12, pt b1 0), (13, iv x2), (14, .int .u64 (IntKind.wrap .u64 y2)), (15, .int .u64 (IntKind.wrap .u64 p2)), (16, .int .u64 (IntKind.wrap .u64 ((IntKind.wrap .u64 p2) - 1)))] ∧ Im T2 w3 T3 w4 ∧ Sep g T3 w4 [segH (boxA b1) enI_u8' x3 [], R] ∧ loopM bd1 m (x1, x2, x3) = some o1) NN ⟨_, _, (List.replicate 65 0), p1, 65, env_has ⟨rfl, rfl, rfl, rfl, rfl, rfl, rfl, rfl, rfl, trivial⟩, Im.refl, hS3.sel [0, 1] rfl, ho1⟩ ?_)
    rintro m _ w4 ⟨J, T3, x3, x1, x2, rfl, im4, hS4, ho1⟩
    obtain ⟨m1, z1, rfl, hm, hn1⟩ := loop_round ho1
    rw [hbd1] at hm
    refine sq2 (sq2 (rg (pv (r_mi rfl) (pv (r_mi rfl) (pv (r_ib rfl rfl rfl) (nil (t_then ?_)))))))
    refine cnd rfl (fun hb6 => ?_) (fun hb6 => ?_)
    · have hm := ctrue hb6 hm
      refine skp (t_then ?_)
      refine blk (sq2 (rg (pv (r_mi rfl) (pv (r_ib rfl rfl rfl) (pv (r_zi rfl) (nil (t_then ?_)))))))
      refine sq2 ?_
      obtain ⟨u1, hx3, hm⟩ := bindS hm
      obtain ⟨z_1, hln1, hm⟩ := bindS hm
      obtain ⟨u2, hx4, hm⟩ := bindS hm
      obtain ⟨of1, he1⟩ : ∃ z : Nat, z = (0 + 0) + (Int.toNat (IntKind.wrap .i64 (x2 - 1))) * 1 := ⟨_, rfl⟩
      obtain ⟨u3, hx5, hm⟩ := bindS hm
      refine rg (pv (r_mi rfl) (pv (r_mi rfl) (pv (r_mi rfl) (pv (r_ib rfl rfl rfl) (pv (r_sx rfl rfl hx3 underlying9) (pv (r_ixA rfl rfl (lenOk_some hln1) hx4 underlying127 sizeOf5 he1) (wl rfl (stSeg (q := 0) (i := (IntKind.wrap .i64 (x2 - 1))) (j := 0) (u := u3) (u' := (UInt8.toNat u1 : Int)) hS4 ⟨rfl, rfl⟩ (lnBox b1) enI_u8'_len hx5 he1 rfl rfl rfl sizeOf5 rfl rfl rfl rfl fun w5 im5 hS5 => ?_))))))))
      refine nil (t_then ?_)
      obtain ⟨_, hz1, hm⟩ := bindS hm
      have hz1 := nn_some hz1
      have hm := oI hm; subst hm
      exact rg (pv (r_mi rfl) (pv (r_mi rfl) (pv (r_ishr rfl rfl hz1) (pv (r_zi rfl) (nil (t_blk (t_then ⟨m1, Nat.lt_succ_self _, _, _, (List.set x3 (Int.toNat (IntKind.wrap .i64 (x2 - 1))) (UInt8.toNat u1 : Int)), (Int.fdiv x1 (2 ^ (min (Int.toNat (IntKind.wrap .u64 y2)) (IntKind.bits .u64)))), (IntKind.wrap .i64 (x2 - 1)), env_has ⟨rfl, rfl, rfl, rfl, rfl, rfl, rfl, rfl, rfl, trivial⟩, (iT im4 im5), hS5.sel [0, 1] rfl, hn1⟩)))))))
    have hm := cfalse hb6 hm
    have hm := oI hm; subst hm
    have hn1 : _ = Lp.brk _ := hn1
    subst hn1
    have hm := thn_brk hq1
    refine xt (x_then (x_then (x_eq (t_then ?_))))
    refine sq2 (rg (pv (r_mi rfl) (pv (r_ib rfl rfl rfl) (pv (r_zi rfl) (nil (t_then ?_))))))
    obtain ⟨u4, hx6, hm⟩ := bindS hm
    obtain ⟨z_2, hln2, hm⟩ := bindS hm
    obtain ⟨u5, hx7, hm⟩ := bindS hm
    obtain ⟨of2, he2⟩ : ∃ z : Nat, z = (0 + 0) + (Int.toNat (IntKind.wrap .i64 (x2 - 1))) * 1 := ⟨_, rfl⟩
    obtain ⟨u6, hx8, hm⟩ := bindS hm
    refine rg (pv (r_mi rfl) (pv (r_mi rfl) (pv (r_sx rfl rfl hx6 underlying9) (pv (r_ixA rfl rfl (lenOk_some hln2) hx7 underlying127 sizeOf5 he2) (wl rfl (stSeg (q := 0) (i := (IntKind.wrap .i64 (x2 - 1))) (j := 0) (u := u6) (u' := (UInt8.toNat u4 : Int)) hS4 ⟨rfl, rfl⟩ (lnBox b1) enI_u8'_len hx8 he2 rfl rfl rfl sizeOf5 rfl rfl rfl rfl fun w6 im6 hS6 => ?_))))))
    refine nil (t_then ?_)
    refine sq2 (sq2 (rg (pv (r_mb rfl) (nil (t_then ?_)))))
    refine cnd rfl (fun hb7 => ?_) (fun hb7 => ?_)
    · have hm := ctrue hb7 hm
      cases hm
    have hm := cfalse hb7 hm
    refine skp (t_then ?_)
    refine sq2 (sq2 (rg (pv (r_mb rfl) (nil (t_then ?_)))))
    refine cnd rfl (fun hb8 => ?_) (fun hb8 => ?_)
    · have hm := ctrue hb8 hm
      cases hm
    have hm := cfalse hb8 hm
    refine skp (t_then ?_)
    refine sq2 ?_
    obtain ⟨u7, hx9, hm⟩ := bindS hm
    obtain ⟨z_3, hlt1, hm⟩ := bindS hm
    refine rg (pv (r_mi rfl) (pv (r_slPL rfl (len_set (lenOk_some hln2)) ⟨_, rfl⟩ rfl hx9 (ltOk_some hlt1) underlying127 sizeOf5) (pv (r_cvs rfl ⟨_, (hS6.view (i := 0) ⟨rfl, rfl⟩ (vwSegL (m := 65) (lnBox b1) (len_set (lenOk_some hln2)) enI_u8'_len rfl enI_u8'_rp (by decide) hx9))⟩ underlying42 underlying5 underlying9) (pv (r_zt rfl) (nil (t_then ?_))))))
    have hm := oI hm; subst hm
    exact rtn (retN (vs := [.slice none 0 0, .string ⟨(bytesStr u7).toArray⟩]) rfl ⟨rfl, rfl, trivial⟩ rfl ⟨_, rfl, _, (iT im1 (iT im2 (iT im3 (iT im4 im6)))), ⟨_, _, rfl, hS6.sel [1] rfl, SlR_nil, trivial⟩⟩)
  have hm := cfalse hb5 hm
  cases hm

theorem strconv_FormatUint_2_sim {p0 : Int} {p1 : Int} {r : (List UInt8)} (hS : Sep g T0 w0 [R]) (hG7 : Gc T0 w0 7 (Lib.deBruijn64tab.map fun (z : Nat) => Value.int .u8 (z : Int))) (hm : strconv_FormatUint_2 p0 p1 = some r) :
    Calls Tryz.prog 78 #[.int .u64 p0, iv p1] w0 (RetS T0 w0 fun T w v => v = .string ⟨r.toArray⟩ ∧ Sep g T w [R] ∧ True) := by
  refine enter (args := [.int .u64 p0, iv p1]) Tryz.func78 rfl Tryz.ntmps78 rfl fun J => ?_
  unfold strconv_FormatUint_2 at hm
  refine sq2 (rg (pv (r_zt rfl) (nil (t_then ?_))))
  refine sq2 (sq2 (rg (pv (r_mi rfl) (pv (r_ib rfl rfl rfl) (nil (t_then ?_))))))
  refine cnd rfl (fun hb1 => ?_) (fun hb1 => ?_)
  · have hm := ctrue hb1 hm
    cases hm
  have hm := cfalse hb1 hm
  refine skp (t_then ?_)
  refine sq2 ?_
  obtain ⟨y1, hx1, hm⟩ := bindS hm
  refine rg (pv (r_mi rfl) (pv (r_mi rfl) (wl rfl (calS cf93 rfl (strconv_formatBits_sim (p0 := []) (p1 := p0) (p2 := p1) (p3 := false) (p4 := false) (hS.bun [0] [] rfl) SlR_nil hG7 hx1) rfl fun v1 T1 w1 im1 rv1 => ?_))))
  obtain ⟨a1, c1, rfl, hS1, h1, _⟩ := rv1
  have hS1 := hS1.unb
  refine pv (r_mv rfl) (pv (r_ex (v := sv a1 y1.1 c1) rfl rfl) (pv (r_ex (v := .string ⟨y1.2.toArray⟩) rfl rfl) (pv (r_zs rfl) (pv (r_zt rfl) (nil (t_then ?_))))))
  refine sq2 (rg (pv (r_mt rfl) (pv (r_zt rfl) (nil (t_then ?_)))))
  have hm := oI hm; subst hm
  exact rtn (ret1 rfl rfl ⟨_, rfl, _, im1, ⟨rfl, hS1.sel [0] rfl, trivial⟩⟩)

theorem strconv_FormatUint_sim {p0 : Int} {p1 : Int} {r : (List UInt8)} (hS : Sep g T0 w0 [R]) (hG7 : Gc T0 w0 7 (Lib.deBruijn64tab.map fun (z : Nat) => Value.int .u8 (z : Int))) (hm : strconv_FormatUint p0 p1 = some r) :
    Calls Tryz.prog 56 #[.int .u64 p0, iv p1] w0 (RetS T0 w0 fun T w v => v = .string ⟨r.toArray⟩ ∧ Sep g T w [R] ∧ True) := by
  refine enter (args := [.int .u64 p0, iv p1]) Tryz.func56 rfl Tryz.ntmps56 rfl fun J => ?_
  unfold strconv_FormatUint at hm
  refine sq2 (rg (pv (r_zt rfl) (nil (t_then ?_))))
  refine sq2 ?_
  obtain ⟨y1, hx1, hm⟩ := bindS hm
  refine rg (pv (r_mi rfl) (pv (r_mi rfl) (wl rfl (calS cf78 rfl (strconv_FormatUint_2_sim (p0 := p0) (p1 := p1) (hS.bun [0] [] rfl) hG7 hx1) rfl fun v1 T1 w1 im1 rv1 => ?_))))
  obtain ⟨rfl, hS1, _⟩ := rv1
  have hS1 := hS1.unb
  refine pv (r_zt rfl) (nil (t_then ?_))
  have hm := oI hm; subst hm
  exact rtn (ret1 rfl rfl ⟨_, rfl, _, im1, ⟨rfl, hS1.sel [0] rfl, trivial⟩⟩)

theorem listing_hex_sim {p0 : Int} {r : (List UInt8)} (hS : Sep g T0 w0 [R]) (hG7 : Gc T0 w0 7 (Lib.deBruijn64tab.map fun (z : Nat) => Value.int .u8 (z : Int))) (hm : listing_hex p0 = some r) :
    Calls Tryz.prog 37 #[.int .u32 p0] w0 (RetS T0 w0 fun T w v => v = .string ⟨r.toArray⟩ ∧ Sep g T w [R] ∧ True) := by
  refine enter (args := [.int .u32 p0]) Tryz.func37 rfl Tryz.ntmps37 rfl fun J => ?_
  unfold listing_hex at hm
  refine sq2 (rg (pv (r_zt rfl) (nil (t_then ?_))))
  refine sq2 ?_
  obtain ⟨y1, hx1, hm⟩ := bindS hm
  refine rg (pv (r_mi rfl) (pv (r_cv rfl underlying39 underlying80) (wl rfl (calS cf56 rfl (strconv_FormatUint_sim (p0 := IntKind.wrap .u64 p0) (p1 := 16) (hS.bun [0] [] rfl) hG7 hx1) rfl fun v1 T1 w1 im1 rv1 => ?_))))
  obtain ⟨rfl, hS1, _⟩ := rv1
  have hS1 := hS1.unb
  refine pv (r_zt rfl) (nil (t_then ?_))
  refine sq2 ?_
  obtain ⟨u1, hx2, hm⟩ := bindS hm
  obtain ⟨z_1, hro1, hm⟩ := bindS hm
  refine rg (pv (r_mt rfl) (pv (r_lnt rfl underlying9) (pv (r_ss rfl ⟨_, rfl⟩ rfl hx2 underlying9) (pv (r_mt rfl) (pv (r_sad rfl rfl (room_some hro1)) (pv (r_zt rfl) (nil (t_then ?_))))))))
  have hm := oI hm; subst hm
  exact rtn (ret1 rfl rfl ⟨_, rfl, _, im1, ⟨rfl, hS1.sel [0] rfl, trivial⟩⟩)

theorem inst_bits_sim {p0 : Int} {p1 : Int} {p2 : Int} {r : Int} (hS : Sep g T0 w0 [R])  (hm : inst_bits p0 p1 p2 = some r) :
    Calls Tryz.prog 60 #[.int .u32 p0, iv p1, iv p2] w0 (RetS T0 w0 fun T w v => v = .int .u32 r ∧ Sep g T w [R] ∧ True) := by
  refine enter (args := [.int .u32 p0, iv p1, iv p2]) Tryz.func60 rfl Tryz.ntmps60 rfl fun J => ?_
  unfold inst_bits at hm
  refine sq2 (rg (pv (r_zi rfl) (nil (t_then ?_))))
  refine sq2 ?_
  obtain ⟨_, hz1, hm⟩ := bindS hm
  have hz1 := nn_some hz1
  obtain ⟨_, hz2, hm⟩ := bindS hm
  have hz2 := nn_some hz2
  refine rq mix (by kernel_rfl) hS.lt (qv (fun _ hq => r_mi rfl) (qv (fun _ hq => r_mi rfl) (qv (fun _ hq => r_ishr rfl rfl hz1) (qv (fun _ hq => r_mi rfl) (qv (fun _ hq => r_ishl rfl rfl hz2) (qv (fun _ hq => r_ib rfl rfl rfl) (qv (fun _ hq => r_ib rfl rfl rfl) (qv (fun _ hq => r_zi rfl) (qn fun w1 T1 i1 => ?_)))))))))
  have im1 := i1.imm
  have hS1 := hS.keep i1 (fun _ h => h)
  refine t_then ?_
  have hm := oI hm; subst hm
  exact rtn (ret1 rfl rfl ⟨_, rfl, _, im1, ⟨rfl, hS1.sel [0] rfl, trivial⟩⟩)

theorem inst_fits_sim {p0 : InstShape} {p1 : Int} {r : Bool} (hS : Sep g T0 w0 [R])  (hm : inst_fits p0 p1 = some r) :
    Calls Tryz.prog 58 #[.agg (cInstShape p0).toArray, .int .u32 p1] w0 (RetS T0 w0 fun T w v => v = .bool r ∧ Sep g T w [R] ∧ True) := by
  refine enter (args := [.agg (cInstShape p0).toArray, .int .u32 p1]) Tryz.func58 rfl Tryz.ntmps58 rfl fun J => ?_
  unfold inst_fits at hm
  refine sq2 (rg (wl rfl (bxS (cs := (cInstShape p0)) rfl rfl hS fun w1 b1 im1 hS1 => ?_)))
  refine pv (r_zb rfl) (nil (t_then ?_))
  refine sq2 (blk (sq2 (rg (pv (r_mi rfl) (pv (r_ib rfl rfl rfl) (pv (r_fa rfl underlying75 rfl sizeOf39 rfl) (pv (r_ld rfl isAgg39 (hS1.cell0 (i := 0) ⟨rfl, rfl⟩ (j := 2) rfl)) (pv (r_ib rfl rfl rfl) (pv (r_zb rfl) (nil (t_then ?_)))))))))))
  refine cnd rfl (fun hb1 => ?_) (fun hb1 => ?_)
  · have hm := ctrue hb1 hm
    refine sq2 (rg (pv (r_zb rfl) (nil (t_then ?_))))
    have hm := oI hm; subst hm
    exact rtn (r_blk (r_then (ret1 rfl rfl ⟨_, rfl, _, im1, ⟨rfl, hS1.sel [1] rfl, trivial⟩⟩)))
  have hm := cfalse hb1 hm
  refine sq2 (rg (pv (r_fa rfl underlying75 rfl sizeOf5 rfl) (pv (r_ld rfl isAgg5 (hS1.cell0 (i := 0) ⟨rfl, rfl⟩ (j := 1) rfl)) (pv (r_ib rfl rfl rfl) (pv (r_mb rfl) (?_))))))
  rcases Bool.eq_false_or_eq_true (p0.form == 85) with hb2 | hb2
  · have hm := ctrue hb2 hm
    refine gF (d0 := 15) rfl rfl (by rw [hb2]; rfl) (gF (d0 := 15) rfl rfl (by rw [hb2]; rfl) (gF (d0 := 15) rfl rfl (by rw [hb2]; rfl) (pv (r_pkt rfl hb2 rfl) (pv (r_zb rfl) (nil (t_then ?_))))))
    refine cnd (b := true) rfl (fun _ => ?_) (fun h => nomatch h)
    refine sq2 (rg (pv (r_zb rfl) (nil (t_then ?_))))
    have hm := oI hm; subst hm
    exact rtn (r_blk (r_then (ret1 rfl rfl ⟨_, rfl, _, im1, ⟨rfl, hS1.sel [1] rfl, trivial⟩⟩)))
  have hm := cfalse hb2 hm
  refine gT (d0 := 15) rfl rfl hb2 (pv (r_fa rfl underlying75 rfl sizeOf5 rfl) (gT (d0 := 15) rfl rfl hb2 (pv (r_ld rfl isAgg5 (hS1.cell0 (i := 0) ⟨rfl, rfl⟩ (j := 1) rfl)) (gT (d0 := 15) rfl rfl hb2 (pv (r_ib rfl rfl rfl) (pv (r_pkf rfl hb2 rfl) (pv (r_zb rfl) (nil (t_then ?_)))))))))
  refine cnd rfl (fun hb3 => ?_) (fun hb3 => ?_)
  · have hm := ctrue hb3 hm
    refine sq2 (rg (pv (r_zb rfl) (nil (t_then ?_))))
    have hm := oI hm; subst hm
    exact rtn (r_blk (r_then (ret1 rfl rfl ⟨_, rfl, _, im1, ⟨rfl, hS1.sel [1] rfl, trivial⟩⟩)))
  have hm := cfalse hb3 hm
  refine sq2 (rs [0, 2, 0, 1, 0, 0] [0, 2, 3, 1, 4, 5] mix (by kernel_rfl) hS1.lt fun w2 i1 => ?_)
  have im2 := i1.imm
  have hS2 := hS1.keep i1 (fun _ h => h)
  obtain ⟨y1, hx1, hm⟩ := bindS hm
  refine s0 rfl trivial (fun _ => r_mi rfl) rfl (s0 rfl trivial (fun _ => r_fa rfl underlying75 rfl sizeOf39 rfl) rfl (s1 rfl trivial (r_ld rfl isAgg39 (hS2.cell0 (i := 0) ⟨rfl, rfl⟩ (j := 3) rfl)) rfl (s2 [(3, .int .u32 p0.third)] rfl trivial rfl (by kernel_rfl) (calS cf60 rfl (inst_bits_sim (p0 := p1) (p1 := 12) (p2 := 3) (hS2.bun [0, 1] [] rfl)  hx1) rfl fun v1 T1 w3 im3 rv1 => ?_))))
  obtain ⟨rfl, hS3, _⟩ := rv1
  have hS3 := hS3.unb
  refine ⟨st1 rfl (r_ld rfl isAgg39 (hS3.cell0 (i := 0) ⟨rfl, rfl⟩ (j := 3) rfl)) (st0), ?_⟩
  refine s0 rfl trivial (fun _ => r_ib rfl rfl rfl) rfl (s0 rfl trivial (fun _ => r_zb rfl) rfl (se (t_then ?_)))
  refine cnd rfl (fun hb4 => ?_) (fun hb4 => ?_)
  · have hm := ctrue hb4 hm
    refine sq2 (rg (pv (r_zb rfl) (nil (t_thenR [(4, .bool false)] ⟨rfl, trivial⟩ fun J => ?_))))
    have hm := oI hm; subst hm
    exact rtn (r_blk (r_then (ret1 rfl rfl ⟨_, rfl, _, (iT im1 (iT im2 im3)), ⟨rfl, hS3.sel [1] rfl, trivial⟩⟩)))
  have hm := cfalse hb4 hm
  refine skp (t_blk (t_then ?_))
  refine sq2 (rg (pv (r_fa rfl underlying75 rfl sizeOf5 rfl) (pv (r_ld rfl isAgg5 (hS3.cell0 (i := 0) ⟨rfl, rfl⟩ (j := 1) rfl)) (pv (r_ib rfl rfl rfl) (pv (r_mb rfl) (?_))))))
  rcases Bool.eq_false_or_eq_true (p0.form != 82) with hb5 | hb5
  · have hm := ctrue hb5 hm
    refine gT (d0 := 29) rfl rfl hb5 (pv (r_fa rfl underlying75 rfl sizeOf5 rfl) (gT (d0 := 29) rfl rfl hb5 (pv (r_ld rfl isAgg5 (hS3.cell0 (i := 0) ⟨rfl, rfl⟩ (j := 1) rfl)) (gT (d0 := 29) rfl rfl hb5 (pv (r_ib rfl rfl rfl) (pv (r_pkt rfl hb5 rfl) (pv (r_mb rfl) (?_))))))))
    rcases Bool.eq_false_or_eq_true (p0.form != 72) with hb6 | hb6
    · have hm := ctrue hb6 hm
      refine gF (d0 := 34) rfl rfl (by rw [hb6]; rfl) (gF (d0 := 34) rfl rfl (by rw [hb6]; rfl) (gF (d0 := 34) rfl rfl (by rw [hb6]; rfl) (gF (d0 := 34) rfl rfl (by rw [hb6]; rfl) (gF (d0 := 34) rfl rfl (by rw [hb6]; rfl) (pv (r_pkt rfl hb6 rfl) (pv (r_zb rfl) (nil (t_thenR [(4, .bool true)] ⟨rfl, trivial⟩ fun J => ?_))))))))
      have hm := oI hm; subst hm
      exact rtn (ret1 rfl rfl ⟨_, rfl, _, (iT im1 (iT im2 im3)), ⟨rfl, hS3.sel [1] rfl, trivial⟩⟩)
    have hm := cfalse hb6 hm
    refine gT (d0 := 34) rfl rfl hb6 (pv (r_mi rfl) (gT (d0 := 34) rfl rfl hb6 (pv (r_ishr rfl rfl (by decide)) (gT (d0 := 34) rfl rfl hb6 (pv (r_fa rfl underlying75 rfl sizeOf39 rfl) (gT (d0 := 34) rfl rfl hb6 (pv (r_ld rfl isAgg39 (hS3.cell0 (i := 0) ⟨rfl, rfl⟩ (j := 4) rfl)) (gT (d0 := 34) rfl rfl hb6 (pv (r_ib rfl rfl rfl) (pv (r_pkf rfl hb6 rfl) (pv (r_zb rfl) (nil (t_thenR [(4, .bool ((Int.fdiv p1 (2 ^ (min (Int.toNat 25) (IntKind.bits .u32)))) == p0.seventh))] ⟨rfl, trivial⟩ fun J => ?_)))))))))))))
    have hm := oI hm; subst hm
    exact rtn (ret1 rfl rfl ⟨_, rfl, _, (iT im1 (iT im2 im3)), ⟨rfl, hS3.sel [1] rfl, trivial⟩⟩)
  have hm := cfalse hb5 hm
  refine gF (d0 := 29) rfl rfl (by rw [hb5]; rfl) (gF (d0 := 29) rfl rfl (by rw [hb5]; rfl) (gF (d0 := 29) rfl rfl (by rw [hb5]; rfl) (pv (r_pkf rfl hb5 rfl) (pv (r_mb rfl) (gT (d0 := 34) rfl rfl rfl (pv (r_mi rfl) (gT (d0 := 34) rfl rfl rfl (pv (r_ishr rfl rfl (by decide)) (gT (d0 := 34) rfl rfl rfl (pv (r_fa rfl underlying75 rfl sizeOf39 rfl) (gT (d0 := 34) rfl rfl rfl (pv (r_ld rfl isAgg39 (hS3.cell0 (i := 0) ⟨rfl, rfl⟩ (j := 4) rfl)) (gT (d0 := 34) rfl rfl rfl (pv (r_ib rfl rfl rfl) (pv (r_pkf rfl rfl rfl) (pv (r_zb rfl) (nil (t_thenR [(4, .bool ((Int.fdiv p1 (2 ^ (min (Int.toNat 25) (IntKind.bits .u32)))) == p0.seventh))] ⟨rfl, trivial⟩ fun J => ?_))))))))))))))))))
  have hm := oI hm; subst hm
  exact rtn (ret1 rfl rfl ⟨_, rfl, _, (iT im1 (iT im2 im3)), ⟨rfl, hS3.sel [1] rfl, trivial⟩⟩)

theorem word_Sign_sim {p0 : Int} {p1 : Int} {r : Int} (hS : Sep g T0 w0 [R])  (hm : word_Sign p0 p1 = some r) :
    Calls Tryz.prog 79 #[.int .u32 p0, iv p1] w0 (RetS T0 w0 fun T w v => v = .int .u32 r ∧ Sep g T w [R] ∧ True) := by
  refine enter (args := [.int .u32 p0, iv p1]) Tryz.func79 rfl Tryz.ntmps79 rfl fun J => ?_
  unfold word_Sign at hm
  refine sq2 (rg (pv (r_zi rfl) (nil (t_then ?_))))
  refine sq2 (sq2 (rg (pv (r_mi rfl) (pv (r_ib rfl rfl rfl) (pv (r_mb rfl) (?_))))))
  rcases Bool.eq_false_or_eq_true (decide (p1 < 1)) with hb1 | hb1
  · have hm := ctrue hb1 hm
    refine gF (d0 := 8) rfl rfl (by rw [hb1]; rfl) (gF (d0 := 8) rfl rfl (by rw [hb1]; rfl) (pv (r_pkt rfl hb1 rfl) (nil (t_then ?_))))
    refine cnd (b := true) rfl (fun _ => ?_) (fun h => nomatch h)
    refine sq2 (rg (pv (r_mi rfl) (pv (r_zi rfl) (nil (t_then ?_)))))
    have hm := oI hm; subst hm
    exact rtn (r_then (ret1 rfl rfl ⟨_, rfl, _, Im.refl, ⟨rfl, hS.sel [0] rfl, trivial⟩⟩))
  have hm := cfalse hb1 hm
  refine gT (d0 := 8) rfl rfl hb1 (pv (r_mi rfl) (gT (d0 := 8) rfl rfl hb1 (pv (r_ib rfl rfl rfl) (pv (r_pkf rfl hb1 rfl) (nil (t_then ?_))))))
  refine cnd rfl (fun hb2 => ?_) (fun hb2 => ?_)
  · have hm := ctrue hb2 hm
    refine sq2 (rg (pv (r_mi rfl) (pv (r_zi rfl) (nil (t_then ?_)))))
    have hm := oI hm; subst hm
    exact rtn (r_then (ret1 rfl rfl ⟨_, rfl, _, Im.refl, ⟨rfl, hS.sel [0] rfl, trivial⟩⟩))
  have hm := cfalse hb2 hm
  refine skp (t_then ?_)
  refine sq2 (rg (pv (r_mi rfl) (pv (r_ib rfl rfl rfl) (pv (r_zi rfl) (nil (t_then ?_))))))
  refine sq2 ?_
  obtain ⟨_, hz1, hm⟩ := bindS hm
  have hz1 := nn_some hz1
  obtain ⟨_, hz2, hm⟩ := bindS hm
  have hz2 := nn_some hz2
  refine rg (pv (r_mi rfl) (pv (r_mi rfl) (pv (r_ishl rfl rfl hz1) (pv (r_cv rfl underlying39 underlying21) (pv (r_mi rfl) (pv (r_ishr rfl rfl hz2) (pv (r_cv rfl underlying21 underlying39) (pv (r_zi rfl) (nil (t_then ?_))))))))))
  have hm := oI hm; subst hm
  exact rtn (ret1 rfl rfl ⟨_, rfl, _, Im.refl, ⟨rfl, hS.sel [0] rfl, trivial⟩⟩)

theorem inst_told_sim {p0 : Int} {p1 : Int} {r : Int} (hS : Sep g T0 w0 [R])  (hm : inst_told p0 p1 = some r) :
    Calls Tryz.prog 59 #[.int .u8 p0, .int .u32 p1] w0 (RetS T0 w0 fun T w v => v = iv r ∧ Sep g T w [R] ∧ True) := by
  refine enter (args := [.int .u8 p0, .int .u32 p1]) Tryz.func59 rfl Tryz.ntmps59 rfl fun J => ?_
  unfold inst_told at hm
  refine sq2 (rg (pv (r_zi rfl) (nil (t_then ?_))))
  refine sq2 (sq2 (rg (pv (r_mi rfl) (nil (t_then ?_)))))
  refine blk (sq2 (rg (pv (r_ib rfl rfl rfl) (pv (r_zb rfl) (nil (t_then ?_))))))
  refine cnd rfl (fun hb1 => ?_) (fun hb1 => ?_)
  · have hm := ctrue hb1 hm
    refine sq2 (rg (pv (r_mi rfl) (pv (r_ib rfl rfl rfl) (pv (r_cv rfl underlying39 underlying21) (pv (r_cv rfl underlying21 underlying3) (pv (r_zi rfl) (nil (t_then ?_))))))))
    have hm := oI hm; subst hm
    exact rtn (r_blk (r_then (ret1 rfl rfl ⟨_, rfl, _, Im.refl, ⟨rfl, hS.sel [0] rfl, trivial⟩⟩)))
  have hm := cfalse hb1 hm
  refine sq2 (rg (pv (r_ib rfl rfl rfl) (pv (r_zb rfl) (nil (t_then ?_)))))
  refine cnd rfl (fun hb2 => ?_) (fun hb2 => ?_)
  · have hm := ctrue hb2 hm
    refine sq2 ?_
    obtain ⟨y1, hx1, hm⟩ := bindS hm
    refine rg (pv (r_mi rfl) (wl rfl (calS cf60 rfl (inst_bits_sim (p0 := p1) (p1 := 31) (p2 := 1) (hS.bun [0] [] rfl)  hx1) rfl fun v1 T1 w1 im1 rv1 => ?_)))
    obtain ⟨rfl, hS1, _⟩ := rv1
    have hS1 := hS1.unb
    obtain ⟨y2, hx2, hm⟩ := bindS hm
    refine pv (r_ishl rfl rfl (by decide)) (pv (r_mi rfl) (wl rfl (calS cf60 rfl (inst_bits_sim (p0 := p1) (p1 := 21) (p2 := 10) (hS1.bun [0] [] rfl)  hx2) rfl fun v2 T2 w2 im2 rv2 => ?_)))
    obtain ⟨rfl, hS2, _⟩ := rv2
    have hS2 := hS2.unb
    obtain ⟨y3, hx3, hm⟩ := bindS hm
    refine pv (r_ishl rfl rfl (by decide)) (pv (r_ib rfl rfl rfl) (pv (r_mi rfl) (wl rfl (calS cf60 rfl (inst_bits_sim (p0 := p1) (p1 := 20) (p2 := 1) (hS2.bun [0] [] rfl)  hx3) rfl fun v3 T3 w3 im3 rv3 => ?_))))
    obtain ⟨rfl, hS3, _⟩ := rv3
    have hS3 := hS3.unb
    obtain ⟨y4, hx4, hm⟩ := bindS hm
    refine pv (r_ishl rfl rfl (by decide)) (pv (r_ib rfl rfl rfl) (pv (r_mi rfl) (wl rfl (calS cf60 rfl (inst_bits_sim (p0 := p1) (p1 := 12) (p2 := 8) (hS3.bun [0] [] rfl)  hx4) rfl fun v4 T4 w4 im4 rv4 => ?_))))
    obtain ⟨rfl, hS4, _⟩ := rv4
    have hS4 := hS4.unb
    refine pv (r_ishl rfl rfl (by decide)) (pv (r_ib rfl rfl rfl) (pv (r_zi rfl) (nil (t_then ?_))))
    refine sq2 ?_
    obtain ⟨y5, hx5, hm⟩ := bindS hm
    refine rg (pv (r_mi rfl) (wl rfl (calS cf79 rfl (word_Sign_sim (p0 := bits .or .u32 (bits .or .u32 (bits .or .u32 (IntKind.wrap .u32 (y1 * 2 ^ (min (Int.toNat 20) (IntKind.bits .u32)))) (IntKind.wrap .u32 (y2 * 2 ^ (min (Int.toNat 1) (IntKind.bits .u32))))) (IntKind.wrap .u32 (y3 * 2 ^ (min (Int.toNat 11) (IntKind.bits .u32))))) (IntKind.wrap .u32 (y4 * 2 ^ (min (Int.toNat 12) (IntKind.bits .u32))))) (p1 := 21) (hS4.bun [0] [] rfl)  hx5) rfl fun v5 T5 w5 im5 rv5 => ?_)))
    obtain ⟨rfl, hS5, _⟩ := rv5
    have hS5 := hS5.unb
    refine pv (r_cv rfl underlying39 underlying21) (pv (r_cv rfl underlying21 underlying3) (pv (r_zi rfl) (nil (t_thenR [(4, iv (IntKind.wrap .i64 (IntKind.wrap .i32 y5)))] ⟨rfl, trivial⟩ fun J => ?_))))
    have hm := oI hm; subst hm
    exact rtn (r_blk (r_then (ret1 rfl rfl ⟨_, rfl, _, (iT im1 (iT im2 (iT im3 (iT im4 im5)))), ⟨rfl, hS5.sel [0] rfl, trivial⟩⟩)))
  have hm := cfalse hb2 hm
  refine sq2 (rg (pv (r_ib rfl rfl rfl) (pv (r_zb rfl) (nil (t_then ?_)))))
  refine cnd rfl (fun hb3 => ?_) (fun hb3 => ?_)
  · have hm := ctrue hb3 hm
    refine sq2 (rg (pv (r_mi rfl) (pv (r_cv rfl underlying39 underlying21) (pv (r_ishr rfl rfl (by decide)) (pv (r_cv rfl underlying21 underlying3) (pv (r_zi rfl) (nil (t_then ?_))))))))
    have hm := oI hm; subst hm
    exact rtn (r_blk (r_then (ret1 rfl rfl ⟨_, rfl, _, Im.refl, ⟨rfl, hS.sel [0] rfl, trivial⟩⟩)))
  have hm := cfalse hb3 hm
  refine sq2 (rg (pv (r_ib rfl rfl rfl) (pv (r_zb rfl) (nil (t_then ?_)))))
  refine cnd rfl (fun hb4 => ?_) (fun hb4 => ?_)
  · have hm := ctrue hb4 hm
    refine sq2 ?_
    obtain ⟨y6, hx6, hm⟩ := bindS hm
    refine rg (pv (r_mi rfl) (wl rfl (calS cf60 rfl (inst_bits_sim (p0 := p1) (p1 := 20) (p2 := 5) (hS.bun [0] [] rfl)  hx6) rfl fun v6 T6 w6 im6 rv6 => ?_)))
    obtain ⟨rfl, hS6, _⟩ := rv6
    have hS6 := hS6.unb
    refine pv (r_cv rfl underlying39 underlying3) (pv (r_zi rfl) (nil (t_then ?_)))
    have hm := oI hm; subst hm
    exact rtn (r_blk (r_then (ret1 rfl rfl ⟨_, rfl, _, im6, ⟨rfl, hS6.sel [0] rfl, trivial⟩⟩)))
  have hm := cfalse hb4 hm
  refine sq2 (rg (pv (r_ib rfl rfl rfl) (pv (r_zb rfl) (nil (t_then ?_)))))
  refine cnd rfl (fun hb5 => ?_) (fun hb5 => ?_)
  · have hm := ctrue hb5 hm
    refine sq2 ?_
    obtain ⟨y7, hx7, hm⟩ := bindS hm
    refine rg (pv (r_mi rfl) (wl rfl (calS cf60 rfl (inst_bits_sim (p0 := p1) (p1 := 25) (p2 := 7) (hS.bun [0] [] rfl)  hx7) rfl fun v7 T7 w7 im7 rv7 => ?_)))
    obtain ⟨rfl, hS7, _⟩ := rv7
    have hS7 := hS7.unb
    obtain ⟨y8, hx8, hm⟩ := bindS hm
    refine pv (r_ishl rfl rfl (by decide)) (pv (r_mi rfl) (wl rfl (calS cf60 rfl (inst_bits_sim (p0 := p1) (p1 := 7) (p2 := 5) (hS7.bun [0] [] rfl)  hx8) rfl fun v8 T8 w8 im8 rv8 => ?_)))
    obtain ⟨rfl, hS8, _⟩ := rv8
    have hS8 := hS8.unb
    obtain ⟨y9, hx9, hm⟩ := bindS hm
    refine pv (r_ib rfl rfl rfl) (wl rfl (calS cf79 rfl (word_Sign_sim (p0 := bits .or .u32 (IntKind.wrap .u32 (y7 * 2 ^ (min (Int.toNat 5) (IntKind.bits .u32)))) y8) (p1 := 12) (hS8.bun [0] [] rfl)  hx9) rfl fun v9 T9 w9 im9 rv9 => ?_))
    obtain ⟨rfl, hS9, _⟩ := rv9
    have hS9 := hS9.unb
    refine pv (r_cv rfl underlying39 underlying21) (pv (r_cv rfl underlying21 underlying3) (pv (r_zi rfl) (nil (t_then ?_))))
    have hm := oI hm; subst hm
    exact rtn (r_blk (r_then (ret1 rfl rfl ⟨_, rfl, _, (iT im7 (iT im8 im9)), ⟨rfl, hS9.sel [0] rfl, trivial⟩⟩)))
  have hm := cfalse hb5 hm
  refine sq2 (rg (pv (r_ib rfl rfl rfl) (pv (r_zb rfl) (nil (t_then ?_)))))
  refine cnd rfl (fun hb6 => ?_) (fun hb6 => ?_)
  · have hm := ctrue hb6 hm
    refine sq2 ?_
    obtain ⟨y10, hx10, hm⟩ := bindS hm
    refine rg (pv (r_mi rfl) (wl rfl (calS cf60 rfl (inst_bits_sim (p0 := p1) (p1 := 31) (p2 := 1) (hS.bun [0] [] rfl)  hx10) rfl fun v10 T10 w10 im10 rv10 => ?_)))
    obtain ⟨rfl, hS10, _⟩ := rv10
    have hS10 := hS10.unb
    obtain ⟨y11, hx11, hm⟩ := bindS hm
    refine pv (r_ishl rfl rfl (by decide)) (pv (r_mi rfl) (wl rfl (calS cf60 rfl (inst_bits_sim (p0 := p1) (p1 := 25) (p2 := 6) (hS10.bun [0] [] rfl)  hx11) rfl fun v11 T11 w11 im11 rv11 => ?_)))
    obtain ⟨rfl, hS11, _⟩ := rv11
    have hS11 := hS11.unb
    obtain ⟨y12, hx12, hm⟩ := bindS hm
    refine pv (r_ishl rfl rfl (by decide)) (pv (r_ib rfl rfl rfl) (pv (r_mi rfl) (wl rfl (calS cf60 rfl (inst_bits_sim (p0 := p1) (p1 := 8) (p2 := 4) (hS11.bun [0] [] rfl)  hx12) rfl fun v12 T12 w12 im12 rv12 => ?_))))
    obtain ⟨rfl, hS12, _⟩ := rv12
    have hS12 := hS12.unb
    obtain ⟨y13, hx13, hm⟩ := bindS hm
    refine pv (r_ishl rfl rfl (by decide)) (pv (r_ib rfl rfl rfl) (pv (r_mi rfl) (wl rfl (calS cf60 rfl (inst_bits_sim (p0 := p1) (p1 := 7) (p2 := 1) (hS12.bun [0] [] rfl)  hx13) rfl fun v13 T13 w13 im13 rv13 => ?_))))
    obtain ⟨rfl, hS13, _⟩ := rv13
    have hS13 := hS13.unb
    refine pv (r_ishl rfl rfl (by decide)) (pv (r_ib rfl rfl rfl) (pv (r_zi rfl) (nil (t_thenR [(6, .int .u32 (bits .or .u32 (bits .or .u32 (bits .or .u32 (IntKind.wrap .u32 (y10 * 2 ^ (min (Int.toNat 12) (IntKind.bits .u32)))) (IntKind.wrap .u32 (y11 * 2 ^ (min (Int.toNat 5) (IntKind.bits .u32))))) (IntKind.wrap .u32 (y12 * 2 ^ (min (Int.toNat 1) (IntKind.bits .u32))))) (IntKind.wrap .u32 (y13 * 2 ^ (min (Int.toNat 11) (IntKind.bits .u32))))))] ⟨rfl, trivial⟩ fun J => ?_))))
    refine sq2 ?_
    obtain ⟨y14, hx14, hm⟩ := bindS hm
    refine rg (pv (r_mi rfl) (wl rfl (calS cf79 rfl (word_Sign_sim (p0 := bits .or .u32 (bits .or .u32 (bits .or .u32 (IntKind.wrap .u32 (y10 * 2 ^ (min (Int.toNat 12) (IntKind.bits .u32)))) (IntKind.wrap .u32 (y11 * 2 ^ (min (Int.toNat 5) (IntKind.bits .u32))))) (IntKind.wrap .u32 (y12 * 2 ^ (min (Int.toNat 1) (IntKind.bits .u32))))) (IntKind.wrap .u32 (y13 * 2 ^ (min (Int.toNat 11) (IntKind.bits .u32))))) (p1 := 13) (hS13.bun [0] [] rfl)  hx14) rfl fun v14 T14 w14 im14 rv14 => ?_)))
    obtain ⟨rfl, hS14, _⟩ := rv14
    have hS14 := hS14.unb
    refine pv (r_cv rfl underlying39 underlying21) (pv (r_cv rfl underlying21 underlying3) (pv (r_zi rfl) (nil (t_then ?_))))
    have hm := oI hm; subst hm
    exact rtn (r_blk (r_then (ret1 rfl rfl ⟨_, rfl, _, (iT im10 (iT im11 (iT im12 (iT im13 im14)))), ⟨rfl, hS14.sel [0] rfl, trivial⟩⟩)))
  have hm := cfalse hb6 hm
  refine skp (t_blk (t_then ?_))
  refine sq2 (rg (pv (r_zi rfl) (nil (t_then ?_))))
  have hm := oI hm; subst hm
  exact rtn (ret1 rfl rfl ⟨_, rfl, _, Im.refl, ⟨rfl, hS.sel [0] rfl, trivial⟩⟩)

theorem inst_Decode_sim {p0 : Int} {r : GInst × Int} (hS : Sep g T0 w0 [R])  (hm : inst_Decode p0 = some r) :
    Calls Tryz.prog 38 #[.int .u32 p0] w0 (RetS T0 w0 fun T w v => v = .tuple #[.agg (cGInst r.1).toArray, iv r.2] ∧ Sep g T w [R] ∧ True) := by
  refine enter (args := [.int .u32 p0]) Tryz.func38 rfl Tryz.ntmps38 rfl fun J => ?_
  unfold inst_Decode at hm
  refine sq2 (rg (wl rfl (alS (zs := [iv 0, iv 0, iv 0, iv 0, iv 0]) zeroValue23 rfl hS fun w1 b1 im1 hS1 => ?_)))
  refine pv (r_zi rfl) (nil (t_then ?_))
  refine sq2 ?_
  obtain ⟨y1, hx1, hm⟩ := bindS hm
  refine rg (wl rfl (calS cf57 rfl (inst_table_sim  (hS1.bun [0, 1] [] rfl)  hx1) rfl fun v1 T1 w2 im2 rv1 => ?_))
  obtain ⟨rfl, hS2, _⟩ := rv1
  have hS2 := hS2.unb
  refine wl rfl (alS (zs := (List.map enInstShape' (List.replicate 46 (⟨([] : List UInt8), 0, 0, 0, 0⟩ : InstShape))).flatten ++ []) zeroValue81 (by kernel_rfl) hS2 fun w3 b2 im3 hS3 => ?_)
  obtain ⟨z_1, hln1, hm⟩ := bindS hm
  refine wl rfl (stArr (q := 0) hS3 ⟨rfl, rfl⟩ (lnBox b2) rfl rfl enInstShape'_len (fun _ => rfl) rfl (lenOk_some hln1) rfl sizeOf81 fun w4 im4 hS4 => ?_)
  refine nil (t_then ?_)
  refine sq2 (sq2 (rg (pv (r_zi rfl) (nil (t_then ?_)))))
  obtain ⟨o1, ho1, hq1⟩ := bindS hm
  obtain ⟨bd1, hbd1, ho1⟩ := loop_open ho1
  refine blk (wp_loop_ghost (fun m a w5 => ∃ (J : JV) (T2 : TP) (x1 : Int), a = env (nf 55) J [(0, .int .u32 p0), (2, pt b1 0), (4, pt b2 0), (5, iv x1)] ∧ Im T1 w4 T2 w5 ∧ Sep g T2 w5 [segH (boxA b2) enInstShape' y1 [], boxA b1 [iv 0, iv 0, iv 0, iv 0, iv 0], R] ∧ loopM bd1 m x1 = some o1) NN ⟨_, _, 1, env_has ⟨rfl, rfl, rfl, rfl, trivial⟩, Im.refl, hS4.sel [0, 1, 2] rfl, ho1⟩ ?_)
  rintro m _ w5 ⟨J, T2, x1, rfl, im5, hS5, ho1⟩
  obtain ⟨m1, z1, rfl, hm, hn1⟩ := loop_round ho1
  rw [hbd1] at hm
  refine sq2 (sq2 (rg (pv (r_mi rfl) (pv (r_ib rfl rfl rfl) (nil (t_then ?_))))))
  refine cnd rfl (fun hb1 => ?_) (fun hb1 => ?_)
  · have hm := ctrue hb1 hm
    refine skp (t_then ?_)
    refine sq2 (blk (sq2 ?_))
    obtain ⟨u1, hx2, hm⟩ := bindS hm
    obtain ⟨of1, he1⟩ : ∃ z : Nat, z = (0 + 0) + (Int.toNat x1) * 5 := ⟨_, rfl⟩
    refine rg (pv (r_mi rfl) (pv (r_ixA rfl rfl (lenOk_some hln1) hx2 underlying81 sizeOf75 he1) (pv (r_ldS rfl isAgg75 sizeOf75 rfl ((Sep.segEl hS5 (q := 0) ⟨rfl, rfl⟩ (lnBox b2) enInstShape'_len hx2 he1).sub 0 rfl) (cs := (cInstShape u1))) (wl rfl (alS (zs := [.string ⟨([] : List UInt8).toArray⟩, .int .u8 0, .int .u32 0, .int .u32 0, .int .u32 0]) zeroValue75 rfl hS5 fun w6 b3 im6 hS6 => ?_)))))
    refine wl rfl (st0B (q := 0) hS6 ⟨rfl, rfl⟩ rfl rfl rfl sizeOf75 rfl rfl rfl fun w7 im7 hS7 => ?_)
    refine nil (t_then ?_)
    refine sq2 (sq2 ?_)
    obtain ⟨y2, hx3, hm⟩ := bindS hm
    refine rg (pv (r_ldS rfl isAgg75 sizeOf75 rfl (hS7.cells0 (i := 0) ⟨rfl, rfl⟩ (o := 0) rfl) (cs := (cInstShape u1))) (pv (r_mi rfl) (wl rfl (calS cf58 rfl (inst_fits_sim (p0 := u1) (p1 := p0) (hS7.bun [0, 1, 2, 3] [] rfl)  hx3) rfl fun v2 T3 w8 im8 rv2 => ?_))))
    obtain ⟨rfl, hS8, _⟩ := rv2
    have hS8 := hS8.unb
    refine pv (r_nt rfl) (nil (t_then ?_))
    refine cnd rfl (fun hb2 => ?_) (fun hb2 => ?_)
    · have hm := ctrue hb2 hm
      refine xt (x_then (x_eq (t_then ?_)))
      have hm := oI hm; subst hm
      exact rg (pv (r_mi rfl) (pv (r_ib rfl rfl rfl) (pv (r_zi rfl) (nil (t_then ⟨m1, Nat.lt_succ_self _, _, _, (IntKind.wrap .i64 (x1 + 1)), env_has ⟨rfl, rfl, rfl, rfl, trivial⟩, (iT im5 (iT im6 (iT im7 im8))), hS8.sel [1, 2, 3] rfl, hn1⟩)))))
    have hm := cfalse hb2 hm
    refine skp (t_then ?_)
    refine sq2 ?_
    obtain ⟨y3, hx4, hm⟩ := bindS hm
    refine rg (pv (r_mi rfl) (pv (r_fa rfl underlying75 rfl sizeOf5 rfl) (pv (r_ld rfl isAgg5 (hS8.cell0 (i := 0) ⟨rfl, rfl⟩ (j := 1) rfl)) (pv (r_mi rfl) (wl rfl (calS cf59 rfl (inst_told_sim (p0 := u1.form) (p1 := p0) (hS8.bun [0, 2, 3] [] rfl)  hx4) rfl fun v3 T4 w9 im9 rv3 => ?_))))))
    obtain ⟨rfl, hS9, _⟩ := rv3
    have hS9 := hS9.unb
    refine pv (r_bd (by kernel_rfl) rfl (u := .agg #[iv x1, iv 0, iv 0, iv 0, iv y3])) (wl rfl (alS (zs := [iv 0, iv 0, iv 0, iv 0, iv 0]) zeroValue23 rfl hS9 fun w10 b4 im10 hS10 => ?_))
    refine wl rfl (st0B (q := 0) hS10 ⟨rfl, rfl⟩ rfl rfl rfl sizeOf23 rfl rfl rfl fun w11 im11 hS11 => ?_)
    refine nil (t_then ?_)
    refine sq2 ?_
    obtain ⟨y4, hx5, hm⟩ := bindS hm
    refine rg (pv (r_fa rfl underlying75 rfl sizeOf5 rfl) (pv (r_ld rfl isAgg5 (hS11.cell0 (i := 1) ⟨rfl, rfl⟩ (j := 1) rfl)) (wl rfl (calS cf45 rfl (inst_needs_sim (p0 := u1.form) (hS11.bun [0, 2, 3] [] rfl)  hx5) rfl fun v4 T5 w12 im12 rv4 => ?_))))
    obtain ⟨rfl, hS12, _⟩ := rv4
    have hS12 := hS12.unb
    refine pv (r_mv rfl) (pv (r_ex (v := .bool y4.1) rfl rfl) (pv (r_ex (v := .bool y4.2.1) rfl rfl) (pv (r_ex (v := .bool y4.2.2.1) rfl rfl) (pv (r_ex (v := .bool y4.2.2.2) rfl rfl) (pv (r_zb rfl) (pv (r_zb rfl) (pv (r_zb rfl) (pv (r_zb rfl) (nil (t_thenR [(0, .int .u32 p0), (2, pt b1 0), (7, pt b4 0), (8, .bool y4.1), (9, .bool y4.2.1), (10, .bool y4.2.2.1)] ⟨rfl, rfl, rfl, rfl, rfl, rfl, trivial⟩ fun J => ?_))))))))))
    obtain ⟨kk1, hkk1, hm⟩ := jn_open hm
    refine cut (fun a w13 => ∃ (J : JV) (T6 : TP) (x2 : GInst), a = env (nf 55) J [(0, .int .u32 p0), (2, pt b1 0), (7, pt b4 0), (9, .bool y4.2.1), (10, .bool y4.2.2.1)] ∧ Im T5 w12 T6 w13 ∧ Sep g T6 w13 [boxA b4 (cGInst x2), boxA b1 [iv 0, iv 0, iv 0, iv 0, iv 0], R] ∧ kk1 x2 = some z1) ?_ ?_
    · refine sq2 (rg (pv (r_mb rfl) (nil (t_then ?_))))
      refine cnd rfl (fun hb3 => ?_) (fun hb3 => ?_)
      · have hm := ctrue hb3 hm
        obtain ⟨y5, hx6, hm⟩ := bindS hm
        refine rg (pv (r_mi rfl) (wl rfl (calS cf60 rfl (inst_bits_sim (p0 := p0) (p1 := 7) (p2 := 5) (hS12.bun [0, 1, 2] [] rfl)  hx6) rfl fun v5 T7 w14 im14 rv5 => ?_)))
        obtain ⟨rfl, hS13, _⟩ := rv5
        have hS13 := hS13.unb
        refine pv (r_cv rfl underlying39 underlying3) (pv (r_fa rfl underlying23 rfl sizeOf3 rfl) (wl rfl (st0B (q := 0) hS13 ⟨rfl, rfl⟩ rfl rfl rfl sizeOf3 rfl rfl rfl fun w15 im15 hS14 => ?_)))
        exact nil (t_then ⟨_, _, (⟨x1, IntKind.wrap .i64 y5, 0, 0, y3⟩ : GInst), env_has ⟨rfl, rfl, rfl, rfl, rfl, trivial⟩, (iT im14 im15), hS14.sel [0, 1, 2] rfl, hm⟩)
      have hm := cfalse hb3 hm
      exact skp (t_then ⟨_, _, (⟨x1, 0, 0, 0, y3⟩ : GInst), env_has ⟨rfl, rfl, rfl, rfl, rfl, trivial⟩, Im.refl, hS12.sel [0, 1, 2] rfl, hm⟩)
    rintro _ w13 ⟨J, T6, x2, rfl, im13, hS15, hm⟩
    rw [hkk1] at hm
    obtain ⟨kk2, hkk2, hm⟩ := jn_open hm
    refine cut (fun a w16 => ∃ (J : JV) (T8 : TP) (x3 : GInst), a = env (nf 55) J [(0, .int .u32 p0), (2, pt b1 0), (7, pt b4 0), (10, .bool y4.2.2.1)] ∧ Im T6 w13 T8 w16 ∧ Sep g T8 w16 [boxA b4 (cGInst x3), boxA b1 [iv 0, iv 0, iv 0, iv 0, iv 0], R] ∧ kk2 x3 = some z1) ?_ ?_
    · refine sq2 (rg (pv (r_mb rfl) (nil (t_then ?_))))
      refine cnd rfl (fun hb4 => ?_) (fun hb4 => ?_)
      · have hm := ctrue hb4 hm
        obtain ⟨y6, hx7, hm⟩ := bindS hm
        refine rg (pv (r_mi rfl) (wl rfl (calS cf60 rfl (inst_bits_sim (p0 := p0) (p1 := 15) (p2 := 5) (hS15.bun [0, 1, 2] [] rfl)  hx7) rfl fun v6 T9 w17 im17 rv6 => ?_)))
        obtain ⟨rfl, hS16, _⟩ := rv6
        have hS16 := hS16.unb
        refine pv (r_cv rfl underlying39 underlying3) (pv (r_fa rfl underlying23 rfl sizeOf3 rfl) (wl rfl (st0B (q := 0) hS16 ⟨rfl, rfl⟩ rfl rfl rfl sizeOf3 rfl rfl rfl fun w18 im18 hS17 => ?_)))
        exact nil (t_then ⟨_, _, ({ x2 with Rs1 := IntKind.wrap .i64 y6 }), env_has ⟨rfl, rfl, rfl, rfl, trivial⟩, (iT im17 im18), hS17.sel [0, 1, 2] rfl, hm⟩)
      have hm := cfalse hb4 hm
      exact skp (t_then ⟨_, _, x2, env_has ⟨rfl, rfl, rfl, rfl, trivial⟩, Im.refl, hS15.sel [0, 1, 2] rfl, hm⟩)
    rintro _ w16 ⟨J, T8, x3, rfl, im16, hS18, hm⟩
    rw [hkk2] at hm
    obtain ⟨kk3, hkk3, hm⟩ := jn_open hm
    refine cut (fun a w19 => ∃ (J : JV) (T10 : TP) (x4 : GInst), a = env (nf 55) J [(2, pt b1 0), (7, pt b4 0)] ∧ Im T8 w16 T10 w19 ∧ Sep g T10 w19 [boxA b4 (cGInst x4), boxA b1 [iv 0, iv 0, iv 0, iv 0, iv 0], R] ∧ kk3 x4 = some z1) ?_ ?_
    · refine sq2 (rg (pv (r_mb rfl) (nil (t_then ?_))))
      refine cnd rfl (fun hb5 => ?_) (fun hb5 => ?_)
      · have hm := ctrue hb5 hm
        obtain ⟨y7, hx8, hm⟩ := bindS hm
        refine rg (pv (r_mi rfl) (wl rfl (calS cf60 rfl (inst_bits_sim (p0 := p0) (p1 := 20) (p2 := 5) (hS18.bun [0, 1, 2] [] rfl)  hx8) rfl fun v7 T11 w20 im20 rv7 => ?_)))
        obtain ⟨rfl, hS19, _⟩ := rv7
        have hS19 := hS19.unb
        refine pv (r_cv rfl underlying39 underlying3) (pv (r_fa rfl underlying23 rfl sizeOf3 rfl) (wl rfl (st0B (q := 0) hS19 ⟨rfl, rfl⟩ rfl rfl rfl sizeOf3 rfl rfl rfl fun w21 im21 hS20 => ?_)))
        exact nil (t_then ⟨_, _, ({ x3 with Rs2 := IntKind.wrap .i64 y7 }), env_has ⟨rfl, rfl, trivial⟩, (iT im20 im21), hS20.sel [0, 1, 2] rfl, hm⟩)
      have hm := cfalse hb5 hm
      exact skp (t_then ⟨_, _, x3, env_has ⟨rfl, rfl, trivial⟩, Im.refl, hS18.sel [0, 1, 2] rfl, hm⟩)
    rintro _ w19 ⟨J, T10, x4, rfl, im19, hS21, hm⟩
    rw [hkk3] at hm
    refine sq2 (rg (pv (r_ldS rfl isAgg23 sizeOf23 rfl (hS21.cells0 (i := 0) ⟨rfl, rfl⟩ (o := 0) rfl) (cs := (cGInst x4))) (wl rfl (st0B (q := 1) hS21 ⟨rfl, rfl⟩ rfl rfl rfl sizeOf23 rfl rfl rfl fun w22 im22 hS22 => ?_))))
    refine pv (r_zi rfl) (nil (t_then ?_))
    have hm := oI hm; subst hm
    have hn1 : _ = Lp.ret _ := hn1
    subst hn1
    have hm := thn_ret hq1
    have hm := oI hm; subst hm
    exact rtn (r_blk (r_then (r_then (r_blk (r_then (retN (vs := [.agg (cGInst x4).toArray, iv 0]) rfl ⟨rvS rfl isAgg23 sizeOf23 rfl (hS22.bx (i := 1) ⟨rfl, rfl⟩), rfl, trivial⟩ rfl ⟨_, rfl, _, (iT im1 (iT im2 (iT im3 (iT im4 (iT im5 (iT im6 (iT im7 (iT im8 (iT im9 (iT im10 (iT im11 (iT im12 (iT im13 (iT im16 (iT im19 im22))))))))))))))), ⟨rfl, hS22.sel [2] rfl, trivial⟩⟩))))))
  have hm := cfalse hb1 hm
  have hm := oI hm; subst hm
  have hn1 : _ = Lp.brk _ := hn1
  subst hn1
  have hm := thn_brk hq1
  refine xt (x_then (x_then (x_eq (t_then ?_))))
  refine sq2 (rg (pv (r_bd (by kernel_rfl) rfl (u := .agg #[iv 0, iv 0, iv 0, iv 0, iv 0])) (wl rfl (st0B (q := 1) hS5 ⟨rfl, rfl⟩ rfl rfl rfl sizeOf23 rfl rfl rfl fun w23 im23 hS23 => ?_))))
  refine pv (r_zi rfl) (nil (t_then ?_))
  have hm := oI hm; subst hm
  exact rtn (retN (vs := [.agg #[iv 0, iv 0, iv 0, iv 0, iv 0], iv 3]) rfl ⟨rvS rfl isAgg23 sizeOf23 rfl (hS23.bx (i := 1) ⟨rfl, rfl⟩), rfl, trivial⟩ rfl ⟨_, rfl, _, (iT im1 (iT im2 (iT im3 (iT im4 (iT im5 im23))))), ⟨rfl, hS23.sel [2] rfl, trivial⟩⟩)

theorem listing_Text_sim {p0 : List Int} {a1 : OA} {c1 : Nat} {r : (List UInt8) × Int} (hS : Sep g T0 w0 [R]) (h1 : SlR (rInt .u32) T0 w0 (sv a1 p0 c1) p0) (hG1 : Gc T0 w0 1 (Lib.pow10Tab.map fun z => Value.int .u64 z)) (hG7 : Gc T0 w0 7 (Lib.deBruijn64tab.map fun (z : Nat) => Value.int .u8 (z : Int))) (hm : listing_Text p0 = some r) :
    Calls Tryz.prog 12 #[sv a1 p0 c1] w0 (RetS T0 w0 fun T w v => v = .tuple #[.string ⟨r.1.toArray⟩, iv r.2] ∧ Sep g T w [R] ∧ True) := by
  refine enter (args := [sv a1 p0 c1]) Tryz.func12 rfl Tryz.ntmps12 rfl fun J => ?_
  unfold listing_Text at hm
  refine sq2 (rg (pv (r_zt rfl) (pv (r_zi rfl) (nil (t_then ?_)))))
  refine sq2 (sq2 (rg (pv (r_ms rfl) (pv (r_ln rfl underlying34) (pv (r_ib rfl rfl rfl) (nil (t_then ?_)))))))
  refine cnd rfl (fun hb1 => ?_) (fun hb1 => ?_)
  · have hm := ctrue hb1 hm
    refine sq2 (rg (pv (r_zt rfl) (pv (r_zi rfl) (nil (t_then ?_)))))
    have hm := oI hm; subst hm
    exact rtn (r_then (retN (vs := [.string ⟨([] : List UInt8).toArray⟩, iv 2]) rfl ⟨rfl, rfl, trivial⟩ rfl ⟨_, rfl, _, Im.refl, ⟨rfl, hS.sel [0] rfl, trivial⟩⟩))
  have hm := cfalse hb1 hm
  refine skp (t_then ?_)
  refine sq2 (rg (wl rfl (alBld zeroValue60 hS fun w1 b1 im1 hS1 => ?_)))
  refine nil (t_then ?_)
  refine sq2 (sq2 (rg (pv (r_ms rfl) (pv (r_ln rfl underlying34) (pv (r_mi rfl) (nil (t_then ?_)))))))
  obtain ⟨o1, ho1, hq1⟩ := bindS hm
  obtain ⟨bd1, hbd1, ho1⟩ := loop_open ho1
  refine blk (wp_loop_ghost (fun m a w2 => ∃ (J : JV) (T1 : TP) (x1 : List UInt8) (x2 : Int), a = env (nf 47) J [(4, pt b1 0), (14, sv a1 p0 c1), (15, iv (List.length p0 : Int)), (16, iv x2)] ∧ Im T0 w1 T1 w2 ∧ Sep g T1 w2 [bldA b1 x1, R] ∧ loopM bd1 m (x1, x2) = some o1) NN ⟨_, _, ([] : List UInt8), 0, env_has ⟨rfl, rfl, rfl, rfl, trivial⟩, Im.refl, hS1.sel [0, 1] rfl, ho1⟩ ?_)
  rintro m _ w2 ⟨J, T1, x1, x2, rfl, im2, hS2, ho1⟩
  obtain ⟨m1, z1, rfl, hm, hn1⟩ := loop_round ho1
  rw [hbd1] at hm
  refine sq2 (rg (pv (r_ib rfl rfl rfl) (nil (t_then ?_))))
  refine sq2 (cnd rfl (fun hb2 => ?_) (fun hb2 => ?_))
  · have hm := ctrue hb2 hm
    refine skp (t_then ?_)
    refine sq2 (blk (sq2 ?_))
    obtain ⟨u1, hx1, hm⟩ := bindS hm
    obtain ⟨b2, of1, cs1, k1, cp1, hv1, hp1, hl1, he1, hr1, hc1, hT1⟩ := (h1.mono (iT im1 im2)).ixT hx1 rfl
    cases hr1
    refine rg (pv (r_mi rfl) (pv (r_ixe hv1 rfl underlying34 sizeOf39 hp1 hl1 he1) (pv (r_ld rfl isAgg39 (hc1.get (j := 0) rfl)) (pv (r_zi rfl) (pv (r_zi rfl) (nil (t_then ?_)))))))
    refine sq2 ?_
    obtain ⟨y1, hx2, hm⟩ := bindS hm
    refine rg (pv (r_mi rfl) (pv (r_ib rfl rfl rfl) (pv (r_cv rfl underlying3 underlying39) (wl rfl (calS cf37 rfl (listing_hex_sim (p0 := IntKind.wrap .u32 (IntKind.wrap .i64 (4 * x2))) (hS2.bun [0, 1] [] rfl) (hG7.mono (iT im1 im2)) hx2) rfl fun v1 T2 w3 im3 rv1 => ?_)))))
    obtain ⟨rfl, hS3, _⟩ := rv1
    have hS3 := hS3.unb
    obtain ⟨z_1, hro1, hm⟩ := bindS hm
    obtain ⟨y2, hx3, hm⟩ := bindS hm
    refine pv (r_sad rfl rfl (room_some hro1)) (wl rfl (calS cf36 rfl (bld_WriteString_sim (p0 := x1) (p1 := y1 ++ ([58, 32] : List UInt8)) (hS3.bun [1] [0] rfl)  hx3) rfl fun v2 T3 w4 im4 rv2 => ?_))
    obtain ⟨rfl, hS4, _⟩ := rv2
    have hS4 := hS4.unb
    refine nil (t_then ?_)
    refine sq2 ?_
    obtain ⟨y3, hx4, hm⟩ := bindS hm
    refine rg (pv (r_mi rfl) (wl rfl (calS cf38 rfl (inst_Decode_sim (p0 := u1) (hS4.bun [0, 1] [] rfl)  hx4) rfl fun v3 T4 w5 im5 rv3 => ?_)))
    obtain ⟨rfl, hS5, _⟩ := rv3
    have hS5 := hS5.unb
    refine pv (r_mv rfl) (pv (r_ex (v := .agg (cGInst y3.1).toArray) rfl rfl) (pv (r_ex (v := iv y3.2) rfl rfl) (wl rfl (alS (zs := [iv 0, iv 0, iv 0, iv 0, iv 0]) zeroValue23 rfl hS5 fun w6 b3 im6 hS6 => ?_))))
    refine wl rfl (st0B (q := 0) hS6 ⟨rfl, rfl⟩ rfl rfl rfl sizeOf23 rfl rfl rfl fun w7 im7 hS7 => ?_)
    refine pv (r_zi rfl) (nil (t_then ?_))
    refine sq2 ?_
    obtain ⟨y4, hx5, hm⟩ := bindS hm
    refine rg (pv (r_ldS rfl isAgg23 sizeOf23 rfl (hS7.cells0 (i := 0) ⟨rfl, rfl⟩ (o := 0) rfl) (cs := (cGInst y3.1))) (wl rfl (calS cf7 rfl (listing_Line_sim (p0 := y3.1) (hS7.bun [1, 2] [] rfl) (hG1.mono (iT im1 (iT im2 (iT im3 (iT im4 (iT im5 (iT im6 im7))))))) hx5) rfl fun v4 T5 w8 im8 rv4 => ?_)))
    obtain ⟨rfl, hS8, _⟩ := rv4
    have hS8 := hS8.unb
    refine pv (r_mv rfl) (pv (r_ex (v := .string ⟨y4.1.toArray⟩) rfl rfl) (pv (r_ex (v := iv y4.2) rfl rfl) (pv (r_zt rfl) (pv (r_zi rfl) (nil (t_then ?_))))))
    obtain ⟨kk1, hkk1, hm⟩ := jn_open hm
    refine cut (fun a w9 => ∃ (J : JV) (T6 : TP) (x3 : List UInt8), a = env (nf 47) J [(4, pt b1 0), (9, .string ⟨x3.toArray⟩), (14, sv a1 p0 c1), (15, iv (List.length p0 : Int)), (16, iv x2)] ∧ Im T5 w8 T6 w9 ∧ Sep g T6 w9 [R, bldA b1 y2.2] ∧ kk1 x3 = some z1) ?_ ?_
    · refine sq2 (rg (pv (r_mi rfl) (pv (r_ib rfl rfl rfl) (nil (t_thenR [(4, pt b1 0), (6, .int .u32 u1), (9, .string ⟨y4.1.toArray⟩), (14, sv a1 p0 c1), (15, iv (List.length p0 : Int)), (16, iv x2), (38, .bool (y3.2 != 0))] ⟨rfl, rfl, rfl, rfl, rfl, rfl, rfl, trivial⟩ fun J => ?_)))))
      refine cnd rfl (fun hb3 => ?_) (fun hb3 => ?_)
      · have hm := ctrue hb3 hm
        obtain ⟨y5, hx6, hm⟩ := bindS hm
        refine rg (pv (r_mi rfl) (wl rfl (calS cf37 rfl (listing_hex_sim (p0 := u1) (hS8.bun [0, 1] [] rfl) (hG7.mono (iT im1 (iT im2 (iT im3 (iT im4 (iT im5 (iT im6 (iT im7 im8)))))))) hx6) rfl fun v5 T7 w10 im10 rv5 => ?_)))
        obtain ⟨rfl, hS9, _⟩ := rv5
        have hS9 := hS9.unb
        obtain ⟨z_2, hro2, hm⟩ := bindS hm
        exact pv (r_sad rfl rfl (room_some hro2)) (pv (r_zt rfl) (nil (t_then ⟨_, _, (([46, 119, 111, 114, 100, 32, 48, 120] : List UInt8) ++ y5), env_has ⟨rfl, rfl, rfl, rfl, rfl, trivial⟩, im10, hS9.sel [0, 1] rfl, hm⟩)))
      have hm := cfalse hb3 hm
      exact skp (t_then ⟨_, _, y4.1, env_has ⟨rfl, rfl, rfl, rfl, rfl, trivial⟩, Im.refl, hS8.sel [0, 1] rfl, hm⟩)
    rintro _ w9 ⟨J, T6, x3, rfl, im9, hS10, hm⟩
    rw [hkk1] at hm
    obtain ⟨z_3, hro3, hm⟩ := bindS hm
    obtain ⟨y6, hx7, hm⟩ := bindS hm
    refine rg (pv (r_mt rfl) (pv (r_sad rfl rfl (room_some hro3)) (wl rfl (calS cf36 rfl (bld_WriteString_sim (p0 := y2.2) (p1 := x3 ++ ([10] : List UInt8)) (hS10.bun [0] [1] rfl)  hx7) rfl fun v6 T8 w11 im11 rv6 => ?_))))
    obtain ⟨rfl, hS11, _⟩ := rv6
    have hS11 := hS11.unb
    refine nil (t_blk (t_then ?_))
    have hm := oI hm; subst hm
    exact rg (pv (r_ib rfl rfl rfl) (pv (r_mi rfl) (nil (t_then ⟨m1, Nat.lt_succ_self _, _, _, y6.2, (IntKind.wrap .i64 (x2 + 1)), env_has ⟨rfl, rfl, rfl, rfl, trivial⟩, (iT im2 (iT im3 (iT im4 (iT im5 (iT im6 (iT im7 (iT im8 (iT im9 im11)))))))), hS11.sel [1, 0] rfl, hn1⟩))))
  have hm := cfalse hb2 hm
  have hm := oI hm; subst hm
  have hn1 : _ = Lp.brk _ := hn1
  subst hn1
  have hm := thn_brk hq1
  refine xt (x_then (x_then (x_eq (t_then ?_))))
  refine sq2 ?_
  obtain ⟨y7, hx8, hm⟩ := bindS hm
  refine rg (wl rfl (calS cf39 rfl (bld_String_sim (p0 := x1) (hS2.bun [1] [0] rfl)  hx8) rfl fun v7 T9 w12 im12 rv7 => ?_))
  obtain ⟨rfl, hS12, _⟩ := rv7
  have hS12 := hS12.unb
  refine pv (r_zt rfl) (pv (r_zi rfl) (nil (t_then ?_)))
  have hm := oI hm; subst hm
  exact rtn (retN (vs := [.string ⟨y7.toArray⟩, iv 0]) rfl ⟨rfl, rfl, trivial⟩ rfl ⟨_, rfl, _, (iT im1 (iT im2 im12)), ⟨rfl, hS12.sel [0] rfl, trivial⟩⟩)

theorem strings_Split_sim {p0 : List UInt8} {p1 : List UInt8} {r : (List (List UInt8))} (hS : Sep g T0 w0 [R]) (hG0 : Gi T0 w0 0) (hm : strings_Split p0 p1 = some r) :
    Calls Tryz.prog 28 #[.string ⟨p0.toArray⟩, .string ⟨p1.toArray⟩] w0 (RetS T0 w0 fun T w v => ∃ (a2 : OA) (c2 : Nat), v = sv a2 r c2 ∧ Sep g T w [R] ∧ SlR rStr T w (sv a2 r c2) r ∧ True) := by
  refine enter (args := [.string ⟨p0.toArray⟩, .string ⟨p1.toArray⟩]) Tryz.func28 rfl Tryz.ntmps28 rfl fun J => ?_
  unfold strings_Split at hm
  refine sq2 (rg (pv (r_zs rfl) (nil (t_then ?_))))
  refine sq2 ?_
  obtain ⟨y1, hx1, hm⟩ := bindS hm
  refine rg (pv (r_mt rfl) (pv (r_mt rfl) (wl rfl (calS cf52 rfl (strings_genSplit_sim (p0 := p0) (p1 := p1) (p2 := 0) (p3 := (-1)) (hS.bun [0] [] rfl) hG0 hx1) rfl fun v1 T1 w1 im1 rv1 => ?_))))
  obtain ⟨a1, c1, rfl, hS1, h1, _⟩ := rv1
  have hS1 := hS1.unb
  refine pv (r_zs rfl) (nil (t_then ?_))
  have hm := oI hm; subst hm
  exact rtn (ret1 rfl rfl ⟨_, rfl, _, im1, ⟨_, _, rfl, hS1.sel [0] rfl, h1, trivial⟩⟩)

theorem listing_op_sim {p0 : List UInt8} {r : Int} (hS : Sep g T0 w0 [R])  (hm : listing_op p0 = some r) :
    Calls Tryz.prog 29 #[.string ⟨p0.toArray⟩] w0 (RetS T0 w0 fun T w v => v = iv r ∧ Sep g T w [R] ∧ True) := by
  refine enter (args := [.string ⟨p0.toArray⟩]) Tryz.func29 rfl Tryz.ntmps29 rfl fun J => ?_
  unfold listing_op at hm
  refine sq2 (rg (pv (r_zi rfl) (nil (t_then ?_))))
  refine sq2 (sq2 (rg (pv (r_zi rfl) (nil (t_then ?_)))))
  obtain ⟨o1, ho1, hq1⟩ := bindS hm
  obtain ⟨bd1, hbd1, ho1⟩ := loop_open ho1
  refine blk (wp_loop_ghost (fun m a w1 => ∃ (J : JV) (T1 : TP) (x1 : Int), a = env (nf 13) J [(0, .string ⟨p0.toArray⟩), (3, iv x1)] ∧ Im T0 w0 T1 w1 ∧ Sep g T1 w1 [R] ∧ loopM bd1 m x1 = some o1) NN ⟨_, _, 1, env_has ⟨rfl, rfl, trivial⟩, Im.refl, hS.sel [0] rfl, ho1⟩ ?_)
  rintro m _ w1 ⟨J, T1, x1, rfl, im1, hS1, ho1⟩
  obtain ⟨m1, z1, rfl, hm, hn1⟩ := loop_round ho1
  rw [hbd1] at hm
  refine sq2 (sq2 (rg (pv (r_mi rfl) (pv (r_ib rfl rfl rfl) (nil (t_then ?_))))))
  refine cnd rfl (fun hb1 => ?_) (fun hb1 => ?_)
  · have hm := ctrue hb1 hm
    refine skp (t_then ?_)
    refine sq2 (blk (sq2 ?_))
    obtain ⟨y1, hx1, hm⟩ := bindS hm
    refine rg (pv (r_mi rfl) (wl rfl (calS cf16 rfl (inst_Name_sim (p0 := x1) (hS1.bun [0] [] rfl)  hx1) rfl fun v1 T2 w2 im2 rv1 => ?_)))
    obtain ⟨rfl, hS2, _⟩ := rv1
    have hS2 := hS2.unb
    refine pv (r_mt rfl) (pv (r_sqL rfl rfl) (nil (t_then ?_)))
    refine cnd rfl (fun hb2 => ?_) (fun hb2 => ?_)
    · have hm := ctrue hb2 hm
      refine sq2 (rg (pv (r_mi rfl) (pv (r_zi rfl) (nil (t_then ?_)))))
      have hm := oI hm; subst hm
      have hn1 : _ = Lp.ret _ := hn1
      subst hn1
      have hm := thn_ret hq1
      have hm := oI hm; subst hm
      exact rtn (r_blk (r_then (r_then (r_blk (r_then (ret1 rfl rfl ⟨_, rfl, _, (iT im1 im2), ⟨rfl, hS2.sel [0] rfl, trivial⟩⟩))))))
    have hm := cfalse hb2 hm
    refine skp (t_blk (t_then ?_))
    have hm := oI hm; subst hm
    exact rg (pv (r_mi rfl) (pv (r_ib rfl rfl rfl) (pv (r_zi rfl) (nil (t_then ⟨m1, Nat.lt_succ_self _, _, _, (IntKind.wrap .i64 (x1 + 1)), env_has ⟨rfl, rfl, trivial⟩, (iT im1 im2), hS2.sel [0] rfl, hn1⟩)))))
  have hm := cfalse hb1 hm
  have hm := oI hm; subst hm
  have hn1 : _ = Lp.brk _ := hn1
  subst hn1
  have hm := thn_brk hq1
  refine xt (x_then (x_then (x_eq (t_then ?_))))
  refine sq2 (rg (pv (r_zi rfl) (nil (t_then ?_))))
  have hm := oI hm; subst hm
  exact rtn (ret1 rfl rfl ⟨_, rfl, _, im1, ⟨rfl, hS1.sel [0] rfl, trivial⟩⟩)

theorem listing_at_sim {p0 : List (List UInt8)} {a1 : OA} {c1 : Nat} {p1 : Int} {r : (List UInt8)} (hS : Sep g T0 w0 [R]) (h1 : SlR rStr T0 w0 (sv a1 p0 c1) p0) (hm : listing_at p0 p1 = some r) :
    Calls Tryz.prog 31 #[sv a1 p0 c1, iv p1] w0 (RetS T0 w0 fun T w v => v = .string ⟨r.toArray⟩ ∧ Sep g T w [R] ∧ True) := by
  refine enter (args := [sv a1 p0 c1, iv p1]) Tryz.func31 rfl Tryz.ntmps31 rfl fun J => ?_
  unfold listing_at at hm
  refine sq2 (rg (pv (r_zt rfl) (nil (t_then ?_))))
  refine sq2 (sq2 (rg (pv (r_mi rfl) (pv (r_ms rfl) (pv (r_ln rfl underlying52) (pv (r_ib rfl rfl rfl) (nil (t_then ?_))))))))
  refine cnd rfl (fun hb1 => ?_) (fun hb1 => ?_)
  · have hm := ctrue hb1 hm
    refine sq2 (rg (pv (r_zt rfl) (nil (t_then ?_))))
    have hm := oI hm; subst hm
    exact rtn (r_then (ret1 rfl rfl ⟨_, rfl, _, Im.refl, ⟨rfl, hS.sel [0] rfl, trivial⟩⟩))
  have hm := cfalse hb1 hm
  refine skp (t_then ?_)
  refine sq2 ?_
  obtain ⟨u1, hx1, hm⟩ := bindS hm
  obtain ⟨b1, of1, cs1, k1, cp1, hv1, hp1, hl1, he1, hr1, hc1, hT1⟩ := h1.ixT hx1 rfl
  cases hr1
  refine rg (pv (r_ms rfl) (pv (r_mi rfl) (pv (r_ixe hv1 rfl underlying52 sizeOf9 hp1 hl1 he1) (pv (r_ld rfl isAgg9 (hc1.get (j := 0) rfl)) (pv (r_zt rfl) (nil (t_then ?_)))))))
  have hm := oI hm; subst hm
  exact rtn (ret1 rfl rfl ⟨_, rfl, _, Im.refl, ⟨rfl, hS.sel [0] rfl, trivial⟩⟩)

theorem listing_number_sim {p0 : List UInt8} {r : Int} (hS : Sep g T0 w0 [R]) (hG2 : Ge T0 w0 2) (hG3 : Ge T0 w0 3) (hm : listing_number p0 = some r) :
    Calls Tryz.prog 32 #[.string ⟨p0.toArray⟩] w0 (RetS T0 w0 fun T w v => v = iv r ∧ Sep g T w [R] ∧ True) := by
  refine enter (args := [.string ⟨p0.toArray⟩]) Tryz.func32 rfl Tryz.ntmps32 rfl fun J => ?_
  unfold listing_number at hm
  refine sq2 (rg (pv (r_zi rfl) (nil (t_then ?_))))
  refine sq2 ?_
  obtain ⟨y1, hx1, hm⟩ := bindS hm
  refine rg (pv (r_mt rfl) (wl rfl (calS cf54 rfl (strconv_Atoi_sim (p0 := p0) (hS.bun [0] [] rfl) hG2 hG3 hx1) rfl fun v1 T1 w1 im1 rv1 => ?_)))
  obtain ⟨ev1, rfl, hS1, h1, _⟩ := rv1
  have hS1 := hS1.unb
  refine pv (r_mv rfl) (pv (r_ex (v := iv y1.1) rfl rfl) (pv (r_ex (v := ev1) rfl rfl) (pv (r_zi rfl) (pv (r_zx (v := ev1) rfl) (nil (t_then ?_))))))
  refine sq2 (sq2 (rg (pv (r_mx (v := ev1) rfl) (pv (r_ern rfl rfl h1 underlying62) (nil (t_then ?_))))))
  refine cnd rfl (fun hb1 => ?_) (fun hb1 => ?_)
  · have hm := ctrue hb1 hm
    refine sq2 (rg (pv (r_zi rfl) (nil (t_then ?_))))
    have hm := oI hm; subst hm
    exact rtn (r_then (ret1 rfl rfl ⟨_, rfl, _, im1, ⟨rfl, hS1.sel [0] rfl, trivial⟩⟩))
  have hm := cfalse hb1 hm
  refine skp (t_then ?_)
  refine sq2 (rg (pv (r_mi rfl) (pv (r_zi rfl) (nil (t_then ?_)))))
  have hm := oI hm; subst hm
  exact rtn (ret1 rfl rfl ⟨_, rfl, _, im1, ⟨rfl, hS1.sel [0] rfl, trivial⟩⟩)

theorem listing_taken_sim {p0 : List UInt8} {r : Int} (hS : Sep g T0 w0 [R]) (hG2 : Ge T0 w0 2) (hG3 : Ge T0 w0 3) (hm : listing_taken p0 = some r) :
    Calls Tryz.prog 30 #[.string ⟨p0.toArray⟩] w0 (RetS T0 w0 fun T w v => v = iv r ∧ Sep g T w [R] ∧ True) := by
  refine enter (args := [.string ⟨p0.toArray⟩]) Tryz.func30 rfl Tryz.ntmps30 rfl fun J => ?_
  unfold listing_taken at hm
  refine sq2 (rg (pv (r_zi rfl) (nil (t_then ?_))))
  refine sq2 ?_
  obtain ⟨y1, hx1, hm⟩ := bindS hm
  refine rg (pv (r_mt rfl) (wl rfl (calS cf53 rfl (strings_TrimPrefix_sim (p0 := p0) (p1 := ([120] : List UInt8)) (hS.bun [0] [] rfl)  hx1) rfl fun v1 T1 w1 im1 rv1 => ?_)))
  obtain ⟨rfl, hS1, _⟩ := rv1
  have hS1 := hS1.unb
  obtain ⟨y2, hx2, hm⟩ := bindS hm
  refine wl rfl (calS cf32 rfl (listing_number_sim (p0 := y1) (hS1.bun [0] [] rfl) (hG2.mono im1) (hG3.mono im1) hx2) rfl fun v2 T2 w2 im2 rv2 => ?_)
  obtain ⟨rfl, hS2, _⟩ := rv2
  have hS2 := hS2.unb
  refine pv (r_zi rfl) (nil (t_then ?_))
  have hm := oI hm; subst hm
  exact rtn (ret1 rfl rfl ⟨_, rfl, _, (iT im1 im2), ⟨rfl, hS2.sel [0] rfl, trivial⟩⟩)

theorem listing_parted_sim {p0 : List UInt8} {r : Int × Int} (hS : Sep g T0 w0 [R]) (hG0 : Gi T0 w0 0) (hG2 : Ge T0 w0 2) (hG3 : Ge T0 w0 3) (hm : listing_parted p0 = some r) :
    Calls Tryz.prog 33 #[.string ⟨p0.toArray⟩] w0 (RetS T0 w0 fun T w v => v = .tuple #[iv r.1, iv r.2] ∧ Sep g T w [R] ∧ True) := by
  refine enter (args := [.string ⟨p0.toArray⟩]) Tryz.func33 rfl Tryz.ntmps33 rfl fun J => ?_
  unfold listing_parted at hm
  refine sq2 (rg (pv (r_zi rfl) (pv (r_zi rfl) (nil (t_then ?_)))))
  refine sq2 ?_
  obtain ⟨y1, hx1, hm⟩ := bindS hm
  refine rg (pv (r_mt rfl) (wl rfl (calS cf42 rfl (strings_TrimSuffix_sim (p0 := p0) (p1 := ([41] : List UInt8)) (hS.bun [0] [] rfl)  hx1) rfl fun v1 T1 w1 im1 rv1 => ?_)))
  obtain ⟨rfl, hS1, _⟩ := rv1
  have hS1 := hS1.unb
  obtain ⟨y2, hx2, hm⟩ := bindS hm
  refine wl rfl (calS cf27 rfl (strings_Cut_sim (p0 := y1) (p1 := ([40] : List UInt8)) (hS1.bun [0] [] rfl) (hG0.mono im1) hx2) rfl fun v2 T2 w2 im2 rv2 => ?_)
  obtain ⟨rfl, hS2, _⟩ := rv2
  have hS2 := hS2.unb
  refine pv (r_mv rfl) (pv (r_ex (v := .string ⟨y2.1.toArray⟩) rfl rfl) (pv (r_ex (v := .string ⟨y2.2.1.toArray⟩) rfl rfl) (pv (r_ex (v := .bool y2.2.2) rfl rfl) (pv (r_zt rfl) (pv (r_zt rfl) (pv (r_zb rfl) (nil (t_then ?_))))))))
  refine sq2 ?_
  obtain ⟨y3, hx3, hm⟩ := bindS hm
  refine rg (pv (r_mt rfl) (wl rfl (calS cf32 rfl (listing_number_sim (p0 := y2.1) (hS2.bun [0] [] rfl) (hG2.mono (iT im1 im2)) (hG3.mono (iT im1 im2)) hx3) rfl fun v3 T3 w3 im3 rv3 => ?_)))
  obtain ⟨rfl, hS3, _⟩ := rv3
  have hS3 := hS3.unb
  obtain ⟨y4, hx4, hm⟩ := bindS hm
  refine pv (r_mt rfl) (wl rfl (calS cf30 rfl (listing_taken_sim (p0 := y2.2.1) (hS3.bun [0] [] rfl) (hG2.mono (iT im1 (iT im2 im3))) (hG3.mono (iT im1 (iT im2 im3))) hx4) rfl fun v4 T4 w4 im4 rv4 => ?_))
  obtain ⟨rfl, hS4, _⟩ := rv4
  have hS4 := hS4.unb
  refine pv (r_zi rfl) (pv (r_zi rfl) (nil (t_then ?_)))
  have hm := oI hm; subst hm
  exact rtn (retN (vs := [iv y3, iv y4]) rfl ⟨rfl, rfl, trivial⟩ rfl ⟨_, rfl, _, (iT im1 (iT im2 (iT im3 im4))), ⟨rfl, hS4.sel [0] rfl, trivial⟩⟩)

theorem listing_Read_sim {p0 : List UInt8} {r : GInst × Int} (hS : Sep g T0 w0 [R]) (hG0 : Gi T0 w0 0) (hG1 : Gc T0 w0 1 (Lib.pow10Tab.map fun z => Value.int .u64 z)) (hG2 : Ge T0 w0 2) (hG3 : Ge T0 w0 3) (hm : listing_Read p0 = some r) :
    Calls Tryz.prog 10 #[.string ⟨p0.toArray⟩] w0 (RetS T0 w0 fun T w v => v = .tuple #[.agg (cGInst r.1).toArray, iv r.2] ∧ Sep g T w [R] ∧ True) := by
  refine enter (args := [.string ⟨p0.toArray⟩]) Tryz.func10 rfl Tryz.ntmps10 rfl fun J => ?_
  unfold listing_Read at hm
  refine sq2 (rg (wl rfl (alS (zs := [iv 0, iv 0, iv 0, iv 0, iv 0]) zeroValue23 rfl hS fun w1 b1 im1 hS1 => ?_)))
  refine pv (r_zi rfl) (nil (t_then ?_))
  refine sq2 (sq2 (rg (pv (r_mt rfl) (pv (r_lnt rfl underlying9) (pv (r_ib rfl rfl rfl) (nil (t_then ?_)))))))
  refine cnd rfl (fun hb1 => ?_) (fun hb1 => ?_)
  · have hm := ctrue hb1 hm
    refine sq2 (rg (pv (r_bd (by kernel_rfl) rfl (u := .agg #[iv 0, iv 0, iv 0, iv 0, iv 0])) (wl rfl (st0B (q := 0) hS1 ⟨rfl, rfl⟩ rfl rfl rfl sizeOf23 rfl rfl rfl fun w2 im2 hS2 => ?_))))
    refine pv (r_zi rfl) (nil (t_then ?_))
    have hm := oI hm; subst hm
    exact rtn (r_then (retN (vs := [.agg #[iv 0, iv 0, iv 0, iv 0, iv 0], iv 3]) rfl ⟨rvS rfl isAgg23 sizeOf23 rfl (hS2.bx (i := 0) ⟨rfl, rfl⟩), rfl, trivial⟩ rfl ⟨_, rfl, _, (iT im1 im2), ⟨rfl, hS2.sel [1] rfl, trivial⟩⟩))
  have hm := cfalse hb1 hm
  refine skp (t_then ?_)
  refine sq2 ?_
  obtain ⟨y1, hx1, hm⟩ := bindS hm
  refine rg (pv (r_mt rfl) (wl rfl (calS cf27 rfl (strings_Cut_sim (p0 := p0) (p1 := ([32] : List UInt8)) (hS1.bun [0, 1] [] rfl) (hG0.mono im1) hx1) rfl fun v1 T1 w3 im3 rv1 => ?_)))
  obtain ⟨rfl, hS3, _⟩ := rv1
  have hS3 := hS3.unb
  refine pv (r_mv rfl) (pv (r_ex (v := .string ⟨y1.1.toArray⟩) rfl rfl) (pv (r_ex (v := .string ⟨y1.2.1.toArray⟩) rfl rfl) (pv (r_ex (v := .bool y1.2.2) rfl rfl) (pv (r_zt rfl) (pv (r_zt rfl) (pv (r_zb rfl) (nil (t_then ?_))))))))
  refine sq2 ?_
  obtain ⟨y2, hx2, hm⟩ := bindS hm
  refine rg (pv (r_mt rfl) (wl rfl (calS cf28 rfl (strings_Split_sim (p0 := y1.2.1) (p1 := ([44, 32] : List UInt8)) (hS3.bun [0, 1] [] rfl) (hG0.mono (iT im1 im3)) hx2) rfl fun v2 T2 w4 im4 rv2 => ?_)))
  obtain ⟨a1, c1, rfl, hS4, h1, _⟩ := rv2
  have hS4 := hS4.unb
  refine pv (r_zs rfl) (nil (t_then ?_))
  refine sq2 ?_
  obtain ⟨y3, hx3, hm⟩ := bindS hm
  refine rg (pv (r_mt rfl) (wl rfl (calS cf29 rfl (listing_op_sim (p0 := y1.1) (hS4.bun [0, 1] [] rfl)  hx3) rfl fun v3 T3 w5 im5 rv3 => ?_)))
  obtain ⟨rfl, hS5, _⟩ := rv3
  have hS5 := hS5.unb
  refine pv (r_bd (by kernel_rfl) rfl (u := .agg #[iv y3, iv 0, iv 0, iv 0, iv 0])) (wl rfl (alS (zs := [iv 0, iv 0, iv 0, iv 0, iv 0]) zeroValue23 rfl hS5 fun w6 b2 im6 hS6 => ?_))
  refine wl rfl (st0B (q := 0) hS6 ⟨rfl, rfl⟩ rfl rfl rfl sizeOf23 rfl rfl rfl fun w7 im7 hS7 => ?_)
  refine nil (t_then ?_)
  obtain ⟨kk1, hkk1, hm⟩ := jn_open hm
  refine cut (fun a w8 => ∃ (J : JV) (T4 : TP) (x1 : GInst), a = env (nf 132) J [(0, .string ⟨p0.toArray⟩), (2, pt b1 0), (8, pt b2 0)] ∧ Im T3 w7 T4 w8 ∧ Sep g T4 w8 [boxA b2 (cGInst x1), boxA b1 [iv 0, iv 0, iv 0, iv 0, iv 0], R] ∧ kk1 x1 = some r) ?_ ?_
  · refine sq2 ?_
    obtain ⟨y4, hx4, hm⟩ := bindS hm
    refine rg (pv (r_fa rfl underlying23 rfl sizeOf3 rfl) (pv (r_ld rfl isAgg3 (hS7.cell0 (i := 0) ⟨rfl, rfl⟩ (j := 0) rfl)) (wl rfl (calS cf19 rfl (inst_Form_sim (p0 := y3) (hS7.bun [0, 1, 2] [] rfl)  hx4) rfl fun v4 T5 w9 im9 rv4 => ?_))))
    obtain ⟨rfl, hS8, _⟩ := rv4
    have hS8 := hS8.unb
    refine pv (r_zi rfl) (nil (t_then ?_))
    refine blk (sq2 (rg (pv (r_mi rfl) (pv (r_ib rfl rfl rfl) (pv (r_zb rfl) (nil (t_then ?_)))))))
    refine cnd rfl (fun hb2 => ?_) (fun hb2 => ?_)
    · have hm := ctrue hb2 hm
      obtain ⟨y5, hx5, hm⟩ := bindS hm
      refine rg (pv (r_ms rfl) (wl rfl (calS cf31 rfl (listing_at_sim (p0 := y2) (p1 := 0) (hS8.bun [0, 1, 2] [] rfl) (h1.mono (iT im5 (iT im6 (iT im7 im9)))) hx5) rfl fun v5 T6 w10 im10 rv5 => ?_)))
      obtain ⟨rfl, hS9, _⟩ := rv5
      have hS9 := hS9.unb
      obtain ⟨y6, hx6, hm⟩ := bindS hm
      refine wl rfl (calS cf30 rfl (listing_taken_sim (p0 := y5) (hS9.bun [0, 1, 2] [] rfl) (hG2.mono (iT im1 (iT im3 (iT im4 (iT im5 (iT im6 (iT im7 (iT im9 im10)))))))) (hG3.mono (iT im1 (iT im3 (iT im4 (iT im5 (iT im6 (iT im7 (iT im9 im10)))))))) hx6) rfl fun v6 T7 w11 im11 rv6 => ?_)
      obtain ⟨rfl, hS10, _⟩ := rv6
      have hS10 := hS10.unb
      obtain ⟨y7, hx7, hm⟩ := bindS hm
      refine pv (r_ms rfl) (wl rfl (calS cf31 rfl (listing_at_sim (p0 := y2) (p1 := 1) (hS10.bun [0, 1, 2] [] rfl) (h1.mono (iT im5 (iT im6 (iT im7 (iT im9 (iT im10 im11)))))) hx7) rfl fun v7 T8 w12 im12 rv7 => ?_))
      obtain ⟨rfl, hS11, _⟩ := rv7
      have hS11 := hS11.unb
      obtain ⟨y8, hx8, hm⟩ := bindS hm
      refine wl rfl (calS cf30 rfl (listing_taken_sim (p0 := y7) (hS11.bun [0, 1, 2] [] rfl) (hG2.mono (iT im1 (iT im3 (iT im4 (iT im5 (iT im6 (iT im7 (iT im9 (iT im10 (iT im11 im12)))))))))) (hG3.mono (iT im1 (iT im3 (iT im4 (iT im5 (iT im6 (iT im7 (iT im9 (iT im10 (iT im11 im12)))))))))) hx8) rfl fun v8 T9 w13 im13 rv8 => ?_)
      obtain ⟨rfl, hS12, _⟩ := rv8
      have hS12 := hS12.unb
      obtain ⟨y9, hx9, hm⟩ := bindS hm
      refine pv (r_ms rfl) (wl rfl (calS cf31 rfl (listing_at_sim (p0 := y2) (p1 := 2) (hS12.bun [0, 1, 2] [] rfl) (h1.mono (iT im5 (iT im6 (iT im7 (iT im9 (iT im10 (iT im11 (iT im12 im13)))))))) hx9) rfl fun v9 T10 w14 im14 rv9 => ?_))
      obtain ⟨rfl, hS13, _⟩ := rv9
      have hS13 := hS13.unb
      obtain ⟨y10, hx10, hm⟩ := bindS hm
      refine wl rfl (calS cf30 rfl (listing_taken_sim (p0 := y9) (hS13.bun [0, 1, 2] [] rfl) (hG2.mono (iT im1 (iT im3 (iT im4 (iT im5 (iT im6 (iT im7 (iT im9 (iT im10 (iT im11 (iT im12 (iT im13 im14)))))))))))) (hG3.mono (iT im1 (iT im3 (iT im4 (iT im5 (iT im6 (iT im7 (iT im9 (iT im10 (iT im11 (iT im12 (iT im13 im14)))))))))))) hx10) rfl fun v10 T11 w15 im15 rv10 => ?_)
      obtain ⟨rfl, hS14, _⟩ := rv10
      have hS14 := hS14.unb
      refine pv (r_fa rfl underlying23 rfl sizeOf3 rfl) (wl rfl (st0B (q := 0) hS14 ⟨rfl, rfl⟩ rfl rfl rfl sizeOf3 rfl rfl rfl fun w16 im16 hS15 => ?_))
      refine pv (r_fa rfl underlying23 rfl sizeOf3 rfl) (wl rfl (st0B (q := 0) hS15 ⟨rfl, rfl⟩ rfl rfl rfl sizeOf3 rfl rfl rfl fun w17 im17 hS16 => ?_))
      refine pv (r_fa rfl underlying23 rfl sizeOf3 rfl) (wl rfl (st0B (q := 0) hS16 ⟨rfl, rfl⟩ rfl rfl rfl sizeOf3 rfl rfl rfl fun w18 im18 hS17 => ?_))
      exact nil (t_blk (t_then ⟨_, _, (⟨y3, y6, y8, y10, 0⟩ : GInst), env_has ⟨rfl, rfl, rfl, trivial⟩, (iT im9 (iT im10 (iT im11 (iT im12 (iT im13 (iT im14 (iT im15 (iT im16 (iT im17 im18))))))))), hS17.sel [0, 1, 2] rfl, hm⟩))
    have hm := cfalse hb2 hm
    obtain ⟨kk2, hkk2, hm⟩ := jn_open hm
    refine cut (fun a w19 => ∃ (J : JV) (T12 : TP) (x2 : Bool), a = env (nf 132) J [(0, .string ⟨p0.toArray⟩), (2, pt b1 0), (7, sv a1 y2 c1), (8, pt b2 0), (9, .int .u8 y4), (57, .bool x2)] ∧ Im T5 w9 T12 w19 ∧ Sep g T12 w19 [boxA b2 [iv y3, iv 0, iv 0, iv 0, iv 0], boxA b1 [iv 0, iv 0, iv 0, iv 0, iv 0], R] ∧ kk2 x2 = some r) ?_ ?_
    · refine rg (pv (r_mi rfl) (pv (r_ib rfl rfl rfl) (pv (r_mb rfl) (?_))))
      rcases Bool.eq_false_or_eq_true (y4 == 85) with hb3 | hb3
      · have hm := ctrue hb3 hm
        exact gF (d0 := 60) rfl rfl (by rw [hb3]; rfl) (gF (d0 := 60) rfl rfl (by rw [hb3]; rfl) (pv (r_pkt rfl hb3 rfl) (pv (r_zb rfl) (nil (t_then ⟨_, _, true, env_has ⟨rfl, rfl, rfl, rfl, rfl, rfl, trivial⟩, Im.refl, hS8.sel [0, 1, 2] rfl, hm⟩)))))
      have hm := cfalse hb3 hm
      exact gT (d0 := 60) rfl rfl hb3 (pv (r_mi rfl) (gT (d0 := 60) rfl rfl hb3 (pv (r_ib rfl rfl rfl) (pv (r_pkf rfl hb3 rfl) (pv (r_zb rfl) (nil (t_then ⟨_, _, (y4 == 74), env_has ⟨rfl, rfl, rfl, rfl, rfl, rfl, trivial⟩, Im.refl, hS8.sel [0, 1, 2] rfl, hm⟩)))))))
    rintro _ w19 ⟨J, T12, x2, rfl, im19, hS18, hm⟩
    rw [hkk2] at hm
    refine cnd rfl (fun hb4 => ?_) (fun hb4 => ?_)
    · have hm := ctrue hb4 hm
      obtain ⟨y11, hx11, hm⟩ := bindS hm
      refine rg (pv (r_ms rfl) (wl rfl (calS cf31 rfl (listing_at_sim (p0 := y2) (p1 := 0) (hS18.bun [0, 1, 2] [] rfl) (h1.mono (iT im5 (iT im6 (iT im7 (iT im9 im19))))) hx11) rfl fun v11 T13 w20 im20 rv11 => ?_)))
      obtain ⟨rfl, hS19, _⟩ := rv11
      have hS19 := hS19.unb
      obtain ⟨y12, hx12, hm⟩ := bindS hm
      refine wl rfl (calS cf30 rfl (listing_taken_sim (p0 := y11) (hS19.bun [0, 1, 2] [] rfl) (hG2.mono (iT im1 (iT im3 (iT im4 (iT im5 (iT im6 (iT im7 (iT im9 (iT im19 im20))))))))) (hG3.mono (iT im1 (iT im3 (iT im4 (iT im5 (iT im6 (iT im7 (iT im9 (iT im19 im20))))))))) hx12) rfl fun v12 T14 w21 im21 rv12 => ?_)
      obtain ⟨rfl, hS20, _⟩ := rv12
      have hS20 := hS20.unb
      obtain ⟨y13, hx13, hm⟩ := bindS hm
      refine pv (r_ms rfl) (wl rfl (calS cf31 rfl (listing_at_sim (p0 := y2) (p1 := 1) (hS20.bun [0, 1, 2] [] rfl) (h1.mono (iT im5 (iT im6 (iT im7 (iT im9 (iT im19 (iT im20 im21))))))) hx13) rfl fun v13 T15 w22 im22 rv13 => ?_))
      obtain ⟨rfl, hS21, _⟩ := rv13
      have hS21 := hS21.unb
      obtain ⟨y14, hx14, hm⟩ := bindS hm
      refine wl rfl (calS cf32 rfl (listing_number_sim (p0 := y13) (hS21.bun [0, 1, 2] [] rfl) (hG2.mono (iT im1 (iT im3 (iT im4 (iT im5 (iT im6 (iT im7 (iT im9 (iT im19 (iT im20 (iT im21 im22))))))))))) (hG3.mono (iT im1 (iT im3 (iT im4 (iT im5 (iT im6 (iT im7 (iT im9 (iT im19 (iT im20 (iT im21 im22))))))))))) hx14) rfl fun v14 T16 w23 im23 rv14 => ?_)
      obtain ⟨rfl, hS22, _⟩ := rv14
      have hS22 := hS22.unb
      refine pv (r_fa rfl underlying23 rfl sizeOf3 rfl) (wl rfl (st0B (q := 0) hS22 ⟨rfl, rfl⟩ rfl rfl rfl sizeOf3 rfl rfl rfl fun w24 im24 hS23 => ?_))
      refine pv (r_fa rfl underlying23 rfl sizeOf3 rfl) (wl rfl (st0B (q := 0) hS23 ⟨rfl, rfl⟩ rfl rfl rfl sizeOf3 rfl rfl rfl fun w25 im25 hS24 => ?_))
      exact nil (t_blk (t_then ⟨_, _, (⟨y3, y12, 0, 0, y14⟩ : GInst), env_has ⟨rfl, rfl, rfl, trivial⟩, (iT im9 (iT im19 (iT im20 (iT im21 (iT im22 (iT im23 (iT im24 im25))))))), hS24.sel [0, 1, 2] rfl, hm⟩))
    have hm := cfalse hb4 hm
    refine sq2 (rg (pv (r_mi rfl) (pv (r_ib rfl rfl rfl) (pv (r_zb rfl) (nil (t_then ?_))))))
    refine cnd rfl (fun hb5 => ?_) (fun hb5 => ?_)
    · have hm := ctrue hb5 hm
      obtain ⟨y15, hx15, hm⟩ := bindS hm
      refine rg (pv (r_ms rfl) (wl rfl (calS cf31 rfl (listing_at_sim (p0 := y2) (p1 := 0) (hS18.bun [0, 1, 2] [] rfl) (h1.mono (iT im5 (iT im6 (iT im7 (iT im9 im19))))) hx15) rfl fun v15 T17 w26 im26 rv15 => ?_)))
      obtain ⟨rfl, hS25, _⟩ := rv15
      have hS25 := hS25.unb
      obtain ⟨y16, hx16, hm⟩ := bindS hm
      refine wl rfl (calS cf30 rfl (listing_taken_sim (p0 := y15) (hS25.bun [0, 1, 2] [] rfl) (hG2.mono (iT im1 (iT im3 (iT im4 (iT im5 (iT im6 (iT im7 (iT im9 (iT im19 im26))))))))) (hG3.mono (iT im1 (iT im3 (iT im4 (iT im5 (iT im6 (iT im7 (iT im9 (iT im19 im26))))))))) hx16) rfl fun v16 T18 w27 im27 rv16 => ?_)
      obtain ⟨rfl, hS26, _⟩ := rv16
      have hS26 := hS26.unb
      obtain ⟨y17, hx17, hm⟩ := bindS hm
      refine pv (r_ms rfl) (wl rfl (calS cf31 rfl (listing_at_sim (p0 := y2) (p1 := 1) (hS26.bun [0, 1, 2] [] rfl) (h1.mono (iT im5 (iT im6 (iT im7 (iT im9 (iT im19 (iT im26 im27))))))) hx17) rfl fun v17 T19 w28 im28 rv17 => ?_))
      obtain ⟨rfl, hS27, _⟩ := rv17
      have hS27 := hS27.unb
      obtain ⟨y18, hx18, hm⟩ := bindS hm
      refine wl rfl (calS cf30 rfl (listing_taken_sim (p0 := y17) (hS27.bun [0, 1, 2] [] rfl) (hG2.mono (iT im1 (iT im3 (iT im4 (iT im5 (iT im6 (iT im7 (iT im9 (iT im19 (iT im26 (iT im27 im28))))))))))) (hG3.mono (iT im1 (iT im3 (iT im4 (iT im5 (iT im6 (iT im7 (iT im9 (iT im19 (iT im26 (iT im27 im28))))))))))) hx18) rfl fun v18 T20 w29 im29 rv18 => ?_)
      obtain ⟨rfl, hS28, _⟩ := rv18
      have hS28 := hS28.unb
      obtain ⟨y19, hx19, hm⟩ := bindS hm
      refine pv (r_ms rfl) (wl rfl (calS cf31 rfl (listing_at_sim (p0 := y2) (p1 := 2) (hS28.bun [0, 1, 2] [] rfl) (h1.mono (iT im5 (iT im6 (iT im7 (iT im9 (iT im19 (iT im26 (iT im27 (iT im28 im29))))))))) hx19) rfl fun v19 T21 w30 im30 rv19 => ?_))
      obtain ⟨rfl, hS29, _⟩ := rv19
      have hS29 := hS29.unb
      obtain ⟨y20, hx20, hm⟩ := bindS hm
      refine wl rfl (calS cf32 rfl (listing_number_sim (p0 := y19) (hS29.bun [0, 1, 2] [] rfl) (hG2.mono (iT im1 (iT im3 (iT im4 (iT im5 (iT im6 (iT im7 (iT im9 (iT im19 (iT im26 (iT im27 (iT im28 (iT im29 im30))))))))))))) (hG3.mono (iT im1 (iT im3 (iT im4 (iT im5 (iT im6 (iT im7 (iT im9 (iT im19 (iT im26 (iT im27 (iT im28 (iT im29 im30))))))))))))) hx20) rfl fun v20 T22 w31 im31 rv20 => ?_)
      obtain ⟨rfl, hS30, _⟩ := rv20
      have hS30 := hS30.unb
      refine pv (r_fa rfl underlying23 rfl sizeOf3 rfl) (wl rfl (st0B (q := 0) hS30 ⟨rfl, rfl⟩ rfl rfl rfl sizeOf3 rfl rfl rfl fun w32 im32 hS31 => ?_))
      refine pv (r_fa rfl underlying23 rfl sizeOf3 rfl) (wl rfl (st0B (q := 0) hS31 ⟨rfl, rfl⟩ rfl rfl rfl sizeOf3 rfl rfl rfl fun w33 im33 hS32 => ?_))
      refine pv (r_fa rfl underlying23 rfl sizeOf3 rfl) (wl rfl (st0B (q := 0) hS32 ⟨rfl, rfl⟩ rfl rfl rfl sizeOf3 rfl rfl rfl fun w34 im34 hS33 => ?_))
      exact nil (t_blk (t_then ⟨_, _, (⟨y3, 0, y16, y18, y20⟩ : GInst), env_has ⟨rfl, rfl, rfl, trivial⟩, (iT im9 (iT im19 (iT im26 (iT im27 (iT im28 (iT im29 (iT im30 (iT im31 (iT im32 (iT im33 im34)))))))))), hS33.sel [0, 1, 2] rfl, hm⟩))
    have hm := cfalse hb5 hm
    refine sq2 (rg (pv (r_mi rfl) (pv (r_ib rfl rfl rfl) (pv (r_zb rfl) (nil (t_then ?_))))))
    refine cnd rfl (fun hb6 => ?_) (fun hb6 => ?_)
    · have hm := ctrue hb6 hm
      refine sq2 ?_
      obtain ⟨y21, hx21, hm⟩ := bindS hm
      refine rg (pv (r_ms rfl) (wl rfl (calS cf31 rfl (listing_at_sim (p0 := y2) (p1 := 0) (hS18.bun [0, 1, 2] [] rfl) (h1.mono (iT im5 (iT im6 (iT im7 (iT im9 im19))))) hx21) rfl fun v21 T23 w35 im35 rv21 => ?_)))
      obtain ⟨rfl, hS34, _⟩ := rv21
      have hS34 := hS34.unb
      obtain ⟨y22, hx22, hm⟩ := bindS hm
      refine wl rfl (calS cf30 rfl (listing_taken_sim (p0 := y21) (hS34.bun [0, 1, 2] [] rfl) (hG2.mono (iT im1 (iT im3 (iT im4 (iT im5 (iT im6 (iT im7 (iT im9 (iT im19 im35))))))))) (hG3.mono (iT im1 (iT im3 (iT im4 (iT im5 (iT im6 (iT im7 (iT im9 (iT im19 im35))))))))) hx22) rfl fun v22 T24 w36 im36 rv22 => ?_)
      obtain ⟨rfl, hS35, _⟩ := rv22
      have hS35 := hS35.unb
      refine pv (r_fa rfl underlying23 rfl sizeOf3 rfl) (wl rfl (st0B (q := 0) hS35 ⟨rfl, rfl⟩ rfl rfl rfl sizeOf3 rfl rfl rfl fun w37 im37 hS36 => ?_))
      refine nil (t_then ?_)
      obtain ⟨y23, hx23, hm⟩ := bindS hm
      refine rg (pv (r_ms rfl) (wl rfl (calS cf31 rfl (listing_at_sim (p0 := y2) (p1 := 1) (hS36.bun [0, 1, 2] [] rfl) (h1.mono (iT im5 (iT im6 (iT im7 (iT im9 (iT im19 (iT im35 (iT im36 im37)))))))) hx23) rfl fun v23 T25 w38 im38 rv23 => ?_)))
      obtain ⟨rfl, hS37, _⟩ := rv23
      have hS37 := hS37.unb
      obtain ⟨y24, hx24, hm⟩ := bindS hm
      refine wl rfl (calS cf33 rfl (listing_parted_sim (p0 := y23) (hS37.bun [0, 1, 2] [] rfl) (hG0.mono (iT im1 (iT im3 (iT im4 (iT im5 (iT im6 (iT im7 (iT im9 (iT im19 (iT im35 (iT im36 (iT im37 im38)))))))))))) (hG2.mono (iT im1 (iT im3 (iT im4 (iT im5 (iT im6 (iT im7 (iT im9 (iT im19 (iT im35 (iT im36 (iT im37 im38)))))))))))) (hG3.mono (iT im1 (iT im3 (iT im4 (iT im5 (iT im6 (iT im7 (iT im9 (iT im19 (iT im35 (iT im36 (iT im37 im38)))))))))))) hx24) rfl fun v24 T26 w39 im39 rv24 => ?_)
      obtain ⟨rfl, hS38, _⟩ := rv24
      have hS38 := hS38.unb
      refine pv (r_mv rfl) (pv (r_ex (v := iv y24.1) rfl rfl) (pv (r_ex (v := iv y24.2) rfl rfl) (pv (r_fa rfl underlying23 rfl sizeOf3 rfl) (wl rfl (st0B (q := 0) hS38 ⟨rfl, rfl⟩ rfl rfl rfl sizeOf3 rfl rfl rfl fun w40 im40 hS39 => ?_)))))
      refine pv (r_fa rfl underlying23 rfl sizeOf3 rfl) (wl rfl (st0B (q := 0) hS39 ⟨rfl, rfl⟩ rfl rfl rfl sizeOf3 rfl rfl rfl fun w41 im41 hS40 => ?_))
      exact nil (t_blk (t_then ⟨_, _, (⟨y3, 0, y24.2, y22, y24.1⟩ : GInst), env_has ⟨rfl, rfl, rfl, trivial⟩, (iT im9 (iT im19 (iT im35 (iT im36 (iT im37 (iT im38 (iT im39 (iT im40 im41)))))))), hS40.sel [0, 1, 2] rfl, hm⟩))
    have hm := cfalse hb6 hm
    refine sq2 ?_
    obtain ⟨y25, hx25, hm⟩ := bindS hm
    refine rg (pv (r_fa rfl underlying23 rfl sizeOf3 rfl) (pv (r_ld rfl isAgg3 (hS18.cell0 (i := 0) ⟨rfl, rfl⟩ (j := 0) rfl)) (wl rfl (calS cf22 rfl (listing_lies_sim (p0 := y3) (hS18.bun [0, 1, 2] [] rfl)  hx25) rfl fun v25 T27 w42 im42 rv25 => ?_))))
    obtain ⟨rfl, hS41, _⟩ := rv25
    have hS41 := hS41.unb
    refine pv (r_zb rfl) (nil (t_then ?_))
    refine cnd rfl (fun hb7 => ?_) (fun hb7 => ?_)
    · have hm := ctrue hb7 hm
      refine sq2 ?_
      obtain ⟨y26, hx26, hm⟩ := bindS hm
      refine rg (pv (r_ms rfl) (wl rfl (calS cf31 rfl (listing_at_sim (p0 := y2) (p1 := 0) (hS41.bun [0, 1, 2] [] rfl) (h1.mono (iT im5 (iT im6 (iT im7 (iT im9 (iT im19 im42)))))) hx26) rfl fun v26 T28 w43 im43 rv26 => ?_)))
      obtain ⟨rfl, hS42, _⟩ := rv26
      have hS42 := hS42.unb
      obtain ⟨y27, hx27, hm⟩ := bindS hm
      refine wl rfl (calS cf30 rfl (listing_taken_sim (p0 := y26) (hS42.bun [0, 1, 2] [] rfl) (hG2.mono (iT im1 (iT im3 (iT im4 (iT im5 (iT im6 (iT im7 (iT im9 (iT im19 (iT im42 im43)))))))))) (hG3.mono (iT im1 (iT im3 (iT im4 (iT im5 (iT im6 (iT im7 (iT im9 (iT im19 (iT im42 im43)))))))))) hx27) rfl fun v27 T29 w44 im44 rv27 => ?_)
      obtain ⟨rfl, hS43, _⟩ := rv27
      have hS43 := hS43.unb
      refine pv (r_fa rfl underlying23 rfl sizeOf3 rfl) (wl rfl (st0B (q := 0) hS43 ⟨rfl, rfl⟩ rfl rfl rfl sizeOf3 rfl rfl rfl fun w45 im45 hS44 => ?_))
      refine nil (t_then ?_)
      obtain ⟨y28, hx28, hm⟩ := bindS hm
      refine rg (pv (r_ms rfl) (wl rfl (calS cf31 rfl (listing_at_sim (p0 := y2) (p1 := 1) (hS44.bun [0, 1, 2] [] rfl) (h1.mono (iT im5 (iT im6 (iT im7 (iT im9 (iT im19 (iT im42 (iT im43 (iT im44 im45))))))))) hx28) rfl fun v28 T30 w46 im46 rv28 => ?_)))
      obtain ⟨rfl, hS45, _⟩ := rv28
      have hS45 := hS45.unb
      obtain ⟨y29, hx29, hm⟩ := bindS hm
      refine wl rfl (calS cf33 rfl (listing_parted_sim (p0 := y28) (hS45.bun [0, 1, 2] [] rfl) (hG0.mono (iT im1 (iT im3 (iT im4 (iT im5 (iT im6 (iT im7 (iT im9 (iT im19 (iT im42 (iT im43 (iT im44 (iT im45 im46))))))))))))) (hG2.mono (iT im1 (iT im3 (iT im4 (iT im5 (iT im6 (iT im7 (iT im9 (iT im19 (iT im42 (iT im43 (iT im44 (iT im45 im46))))))))))))) (hG3.mono (iT im1 (iT im3 (iT im4 (iT im5 (iT im6 (iT im7 (iT im9 (iT im19 (iT im42 (iT im43 (iT im44 (iT im45 im46))))))))))))) hx29) rfl fun v29 T31 w47 im47 rv29 => ?_)
      obtain ⟨rfl, hS46, _⟩ := rv29
      have hS46 := hS46.unb
      refine pv (r_mv rfl) (pv (r_ex (v := iv y29.1) rfl rfl) (pv (r_ex (v := iv y29.2) rfl rfl) (pv (r_fa rfl underlying23 rfl sizeOf3 rfl) (wl rfl (st0B (q := 0) hS46 ⟨rfl, rfl⟩ rfl rfl rfl sizeOf3 rfl rfl rfl fun w48 im48 hS47 => ?_)))))
      refine pv (r_fa rfl underlying23 rfl sizeOf3 rfl) (wl rfl (st0B (q := 0) hS47 ⟨rfl, rfl⟩ rfl rfl rfl sizeOf3 rfl rfl rfl fun w49 im49 hS48 => ?_))
      exact nil (t_blk (t_then ⟨_, _, (⟨y3, y27, y29.2, 0, y29.1⟩ : GInst), env_has ⟨rfl, rfl, rfl, trivial⟩, (iT im9 (iT im19 (iT im42 (iT im43 (iT im44 (iT im45 (iT im46 (iT im47 (iT im48 im49))))))))), hS48.sel [0, 1, 2] rfl, hm⟩))
    have hm := cfalse hb7 hm
    obtain ⟨y30, hx30, hm⟩ := bindS hm
    refine rg (pv (r_ms rfl) (wl rfl (calS cf31 rfl (listing_at_sim (p0 := y2) (p1 := 0) (hS41.bun [0, 1, 2] [] rfl) (h1.mono (iT im5 (iT im6 (iT im7 (iT im9 (iT im19 im42)))))) hx30) rfl fun v30 T32 w50 im50 rv30 => ?_)))
    obtain ⟨rfl, hS49, _⟩ := rv30
    have hS49 := hS49.unb
    obtain ⟨y31, hx31, hm⟩ := bindS hm
    refine wl rfl (calS cf30 rfl (listing_taken_sim (p0 := y30) (hS49.bun [0, 1, 2] [] rfl) (hG2.mono (iT im1 (iT im3 (iT im4 (iT im5 (iT im6 (iT im7 (iT im9 (iT im19 (iT im42 im50)))))))))) (hG3.mono (iT im1 (iT im3 (iT im4 (iT im5 (iT im6 (iT im7 (iT im9 (iT im19 (iT im42 im50)))))))))) hx31) rfl fun v31 T33 w51 im51 rv31 => ?_)
    obtain ⟨rfl, hS50, _⟩ := rv31
    have hS50 := hS50.unb
    obtain ⟨y32, hx32, hm⟩ := bindS hm
    refine pv (r_ms rfl) (wl rfl (calS cf31 rfl (listing_at_sim (p0 := y2) (p1 := 1) (hS50.bun [0, 1, 2] [] rfl) (h1.mono (iT im5 (iT im6 (iT im7 (iT im9 (iT im19 (iT im42 (iT im50 im51)))))))) hx32) rfl fun v32 T34 w52 im52 rv32 => ?_))
    obtain ⟨rfl, hS51, _⟩ := rv32
    have hS51 := hS51.unb
    obtain ⟨y33, hx33, hm⟩ := bindS hm
    refine wl rfl (calS cf30 rfl (listing_taken_sim (p0 := y32) (hS51.bun [0, 1, 2] [] rfl) (hG2.mono (iT im1 (iT im3 (iT im4 (iT im5 (iT im6 (iT im7 (iT im9 (iT im19 (iT im42 (iT im50 (iT im51 im52)))))))))))) (hG3.mono (iT im1 (iT im3 (iT im4 (iT im5 (iT im6 (iT im7 (iT im9 (iT im19 (iT im42 (iT im50 (iT im51 im52)))))))))))) hx33) rfl fun v33 T35 w53 im53 rv33 => ?_)
    obtain ⟨rfl, hS52, _⟩ := rv33
    have hS52 := hS52.unb
    obtain ⟨y34, hx34, hm⟩ := bindS hm
    refine pv (r_ms rfl) (wl rfl (calS cf31 rfl (listing_at_sim (p0 := y2) (p1 := 2) (hS52.bun [0, 1, 2] [] rfl) (h1.mono (iT im5 (iT im6 (iT im7 (iT im9 (iT im19 (iT im42 (iT im50 (iT im51 (iT im52 im53)))))))))) hx34) rfl fun v34 T36 w54 im54 rv34 => ?_))
    obtain ⟨rfl, hS53, _⟩ := rv34
    have hS53 := hS53.unb
    obtain ⟨y35, hx35, hm⟩ := bindS hm
    refine wl rfl (calS cf32 rfl (listing_number_sim (p0 := y34) (hS53.bun [0, 1, 2] [] rfl) (hG2.mono (iT im1 (iT im3 (iT im4 (iT im5 (iT im6 (iT im7 (iT im9 (iT im19 (iT im42 (iT im50 (iT im51 (iT im52 (iT im53 im54)))))))))))))) (hG3.mono (iT im1 (iT im3 (iT im4 (iT im5 (iT im6 (iT im7 (iT im9 (iT im19 (iT im42 (iT im50 (iT im51 (iT im52 (iT im53 im54)))))))))))))) hx35) rfl fun v35 T37 w55 im55 rv35 => ?_)
    obtain ⟨rfl, hS54, _⟩ := rv35
    have hS54 := hS54.unb
    refine pv (r_fa rfl underlying23 rfl sizeOf3 rfl) (wl rfl (st0B (q := 0) hS54 ⟨rfl, rfl⟩ rfl rfl rfl sizeOf3 rfl rfl rfl fun w56 im56 hS55 => ?_))
    refine pv (r_fa rfl underlying23 rfl sizeOf3 rfl) (wl rfl (st0B (q := 0) hS55 ⟨rfl, rfl⟩ rfl rfl rfl sizeOf3 rfl rfl rfl fun w57 im57 hS56 => ?_))
    refine pv (r_fa rfl underlying23 rfl sizeOf3 rfl) (wl rfl (st0B (q := 0) hS56 ⟨rfl, rfl⟩ rfl rfl rfl sizeOf3 rfl rfl rfl fun w58 im58 hS57 => ?_))
    exact nil (t_blk (t_then ⟨_, _, (⟨y3, y31, y33, 0, y35⟩ : GInst), env_has ⟨rfl, rfl, rfl, trivial⟩, (iT im9 (iT im19 (iT im42 (iT im50 (iT im51 (iT im52 (iT im53 (iT im54 (iT im55 (iT im56 (iT im57 im58))))))))))), hS57.sel [0, 1, 2] rfl, hm⟩))
  rintro _ w8 ⟨J, T4, x1, rfl, im8, hS58, hm⟩
  rw [hkk1] at hm
  refine sq2 (sq2 ?_)
  obtain ⟨y36, hx36, hm⟩ := bindS hm
  refine rg (pv (r_ldS rfl isAgg23 sizeOf23 rfl (hS58.cells0 (i := 0) ⟨rfl, rfl⟩ (o := 0) rfl) (cs := (cGInst x1))) (wl rfl (calS cf7 rfl (listing_Line_sim (p0 := x1) (hS58.bun [0, 1, 2] [] rfl) (hG1.mono (iT im1 (iT im3 (iT im4 (iT im5 (iT im6 (iT im7 im8))))))) hx36) rfl fun v36 T38 w59 im59 rv36 => ?_)))
  obtain ⟨rfl, hS59, _⟩ := rv36
  have hS59 := hS59.unb
  refine pv (r_mv rfl) (pv (r_ex (v := .string ⟨y36.1.toArray⟩) rfl rfl) (pv (r_ex (v := iv y36.2) rfl rfl) (pv (r_zt rfl) (pv (r_zi rfl) (nil (t_then ?_))))))
  refine sq2 (rg (pv (r_mi rfl) (pv (r_ib rfl rfl rfl) (pv (r_mb rfl) (?_)))))
  rcases Bool.eq_false_or_eq_true (y36.2 != 0) with hb8 | hb8
  · have hm := ctrue hb8 hm
    refine gF (d0 := 125) rfl rfl (by rw [hb8]; rfl) (gF (d0 := 125) rfl rfl (by rw [hb8]; rfl) (gF (d0 := 125) rfl rfl (by rw [hb8]; rfl) (pv (r_pkt rfl hb8 rfl) (nil (t_then ?_)))))
    refine cnd (b := true) rfl (fun _ => ?_) (fun h => nomatch h)
    refine sq2 (rg (pv (r_bd (by kernel_rfl) rfl (u := .agg #[iv 0, iv 0, iv 0, iv 0, iv 0])) (wl rfl (st0B (q := 1) hS59 ⟨rfl, rfl⟩ rfl rfl rfl sizeOf23 rfl rfl rfl fun w62 im62 hS62 => ?_))))
    refine pv (r_zi rfl) (nil (t_then ?_))
    have hm := oI hm; subst hm
    exact rtn (r_then (retN (vs := [.agg #[iv 0, iv 0, iv 0, iv 0, iv 0], iv 3]) rfl ⟨rvS rfl isAgg23 sizeOf23 rfl (hS62.bx (i := 1) ⟨rfl, rfl⟩), rfl, trivial⟩ rfl ⟨_, rfl, _, (iT im1 (iT im3 (iT im4 (iT im5 (iT im6 (iT im7 (iT im8 (iT im59 im62)))))))), ⟨rfl, hS62.sel [2] rfl, trivial⟩⟩))
  have hm := cfalse hb8 hm
  refine gT (d0 := 125) rfl rfl hb8 (pv (r_mt rfl) (gT (d0 := 125) rfl rfl hb8 (pv (r_mt rfl) (gT (d0 := 125) rfl rfl hb8 (pv (r_snL rfl rfl) (pv (r_pkf rfl hb8 rfl) (nil (t_then ?_))))))))
  refine cnd rfl (fun hb9 => ?_) (fun hb9 => ?_)
  · have hm := ctrue hb9 hm
    refine sq2 (rg (pv (r_bd (by kernel_rfl) rfl (u := .agg #[iv 0, iv 0, iv 0, iv 0, iv 0])) (wl rfl (st0B (q := 1) hS59 ⟨rfl, rfl⟩ rfl rfl rfl sizeOf23 rfl rfl rfl fun w60 im60 hS60 => ?_))))
    refine pv (r_zi rfl) (nil (t_then ?_))
    have hm := oI hm; subst hm
    exact rtn (r_then (retN (vs := [.agg #[iv 0, iv 0, iv 0, iv 0, iv 0], iv 3]) rfl ⟨rvS rfl isAgg23 sizeOf23 rfl (hS60.bx (i := 1) ⟨rfl, rfl⟩), rfl, trivial⟩ rfl ⟨_, rfl, _, (iT im1 (iT im3 (iT im4 (iT im5 (iT im6 (iT im7 (iT im8 (iT im59 im60)))))))), ⟨rfl, hS60.sel [2] rfl, trivial⟩⟩))
  have hm := cfalse hb9 hm
  refine skp (t_then ?_)
  refine sq2 (rg (pv (r_ldS rfl isAgg23 sizeOf23 rfl (hS59.cells0 (i := 0) ⟨rfl, rfl⟩ (o := 0) rfl) (cs := (cGInst x1))) (wl rfl (st0B (q := 1) hS59 ⟨rfl, rfl⟩ rfl rfl rfl sizeOf23 rfl rfl rfl fun w61 im61 hS61 => ?_))))
  refine pv (r_zi rfl) (nil (t_then ?_))
  have hm := oI hm; subst hm
  exact rtn (retN (vs := [.agg (cGInst x1).toArray, iv 0]) rfl ⟨rvS rfl isAgg23 sizeOf23 rfl (hS61.bx (i := 1) ⟨rfl, rfl⟩), rfl, trivial⟩ rfl ⟨_, rfl, _, (iT im1 (iT im3 (iT im4 (iT im5 (iT im6 (iT im7 (iT im8 (iT im59 im61)))))))), ⟨rfl, hS61.sel [2] rfl, trivial⟩⟩)

theorem law06_awake_sim  {r : Bool} (hS : Sep g T0 w0 [R]) (hG0 : Gi T0 w0 0) (hG1 : Gc T0 w0 1 (Lib.pow10Tab.map fun z => Value.int .u64 z)) (hG2 : Ge T0 w0 2) (hG3 : Ge T0 w0 3) (hG7 : Gc T0 w0 7 (Lib.deBruijn64tab.map fun (z : Nat) => Value.int .u8 (z : Int))) (hm : law06_awake = some r) :
    Calls Tryz.prog 9 #[] w0 (RetS T0 w0 fun T w v => v = .bool r ∧ Sep g T w [R] ∧ True) := by
  refine enter (args := []) Tryz.func9 rfl Tryz.ntmps9 rfl fun J => ?_
  unfold law06_awake at hm
  refine sq2 (rg (pv (r_zb rfl) (nil (t_then ?_))))
  refine sq2 ?_
  obtain ⟨y1, hx1, hm⟩ := bindS hm
  refine rg (pv (r_bd (by kernel_rfl) rfl (u := .agg #[iv 18, iv 0, iv 1, iv 2, iv 8])) (wl rfl (calS cf7 rfl (listing_Line_sim (p0 := (⟨18, 0, 1, 2, 8⟩ : GInst)) (hS.bun [0] [] rfl) hG1 hx1) rfl fun v1 T1 w1 im1 rv1 => ?_)))
  obtain ⟨rfl, hS1, _⟩ := rv1
  have hS1 := hS1.unb
  refine pv (r_mv rfl) (pv (r_ex (v := .string ⟨y1.1.toArray⟩) rfl rfl) (pv (r_ex (v := iv y1.2) rfl rfl) (pv (r_zt rfl) (pv (r_zi rfl) (nil (t_then ?_))))))
  refine sq2 (rg (wl rfl (bsS (r := (rInt .u32)) (l := ([5243027, 0] : List Int)) (css := [[.int .u32 5243027], [.int .u32 0]]) hS1 underlying34 sizeOf39 zeroValue39 rfl rfl (by kernel_rfl) rfl ⟨rfl, rfl, trivial⟩ rfl rfl fun w2 a1 n1 c1 im2 hS2 => ?_)))
  obtain ⟨T2, im3, hS3, h1⟩ := hS2.seal 0 ⟨rfl, rfl⟩
  have hsh := h1.len
  subst hsh
  obtain ⟨y2, hx2, hm⟩ := bindS hm
  refine wl rfl (calS cf12 rfl (listing_Text_sim (p0 := ([5243027, 0] : List Int)) (hS3.bun [1] [] rfl) h1 (hG1.mono (iT im1 (iT im2 im3))) (hG7.mono (iT im1 (iT im2 im3))) hx2) rfl fun v2 T3 w3 im4 rv2 => ?_)
  obtain ⟨rfl, hS4, _⟩ := rv2
  have hS4 := hS4.unb
  refine pv (r_mv rfl) (pv (r_ex (v := .string ⟨y2.1.toArray⟩) rfl rfl) (pv (r_ex (v := iv y2.2) rfl rfl) (pv (r_zt rfl) (pv (r_zi rfl) (nil (t_then ?_))))))
  refine sq2 ?_
  obtain ⟨y3, hx3, hm⟩ := bindS hm
  refine rg (wl rfl (calS cf10 rfl (listing_Read_sim (p0 := ([108, 119, 32, 120, 54, 44, 32, 45, 52, 40, 120, 50, 41] : List UInt8)) (hS4.bun [0] [] rfl) (hG0.mono (iT im1 (iT im2 (iT im3 im4)))) (hG1.mono (iT im1 (iT im2 (iT im3 im4)))) (hG2.mono (iT im1 (iT im2 (iT im3 im4)))) (hG3.mono (iT im1 (iT im2 (iT im3 im4)))) hx3) rfl fun v3 T4 w4 im5 rv3 => ?_))
  obtain ⟨rfl, hS5, _⟩ := rv3
  have hS5 := hS5.unb
  refine pv (r_mv rfl) (pv (r_ex (v := .agg (cGInst y3.1).toArray) rfl rfl) (pv (r_ex (v := iv y3.2) rfl rfl) (wl rfl (alS (zs := [iv 0, iv 0, iv 0, iv 0, iv 0]) zeroValue23 rfl hS5 fun w5 b1 im6 hS6 => ?_))))
  refine wl rfl (st0B (q := 0) hS6 ⟨rfl, rfl⟩ rfl rfl rfl sizeOf23 rfl rfl rfl fun w6 im7 hS7 => ?_)
  refine pv (r_zi rfl) (nil (t_then ?_))
  refine sq2 (rg (pv (r_mi rfl) (pv (r_ib rfl rfl rfl) (pv (r_mb rfl) (?_)))))
  rcases Bool.eq_false_or_eq_true (y1.2 == 0) with hb1 | hb1
  · have hm := ctrue hb1 hm
    refine gT (d0 := 23) rfl rfl hb1 (pv (r_mi rfl) (gT (d0 := 23) rfl rfl hb1 (pv (r_ib rfl rfl rfl) (pv (r_pkt rfl hb1 rfl) (pv (r_mb rfl) (?_))))))
    rcases Bool.eq_false_or_eq_true (y2.2 == 0) with hb2 | hb2
    · have hm := ctrue hb2 hm
      refine gT (d0 := 27) rfl rfl hb2 (pv (r_mi rfl) (gT (d0 := 27) rfl rfl hb2 (pv (r_ib rfl rfl rfl) (pv (r_pkt rfl hb2 rfl) (pv (r_mb rfl) (?_))))))
      rcases Bool.eq_false_or_eq_true (y3.2 == 0) with hb3 | hb3
      · have hm := ctrue hb3 hm
        refine gT (d0 := 31) rfl rfl hb3 (pv (r_mt rfl) (gT (d0 := 31) rfl rfl hb3 (pv (r_sqL rfl rfl) (pv (r_pkt rfl hb3 rfl) (pv (r_mb rfl) (?_))))))
        rcases Bool.eq_false_or_eq_true (decide (y1.1 = ([115, 119, 32, 120, 50, 44, 32, 56, 40, 120, 49, 41] : List UInt8))) with hb4 | hb4
        · have hm := ctrue hb4 hm
          refine gT (d0 := 35) rfl rfl hb4 (pv (r_mt rfl) (gT (d0 := 35) rfl rfl hb4 (pv (r_sqL rfl rfl) (pv (r_pkt rfl hb4 rfl) (pv (r_mb rfl) (?_))))))
          rcases Bool.eq_false_or_eq_true (decide (y2.1 = ([48, 48, 48, 48, 48, 48, 48, 48, 58, 32, 97, 100, 100, 105, 32, 120, 49, 44, 32, 120, 48, 44, 32, 53, 10, 48, 48, 48, 48, 48, 48, 48, 52, 58, 32, 46, 119, 111, 114, 100, 32, 48, 120, 48, 48, 48, 48, 48, 48, 48, 48, 10] : List UInt8))) with hb5 | hb5
          · have hm := ctrue hb5 hm
            refine gT (d0 := 39) rfl rfl hb5 (pv (r_ldS rfl isAgg23 sizeOf23 rfl (hS7.cells0 (i := 0) ⟨rfl, rfl⟩ (o := 0) rfl) (cs := (cGInst y3.1))) (gT (d0 := 39) rfl rfl hb5 (pv (r_bd (by kernel_rfl) rfl (u := .agg #[iv 13, iv 6, iv 2, iv 0, iv (-4)])) (gT (d0 := 39) rfl rfl hb5 (pv (r_seqe rfl rfl (eq_23 y3.1.Op y3.1.Rd y3.1.Rs1 y3.1.Rs2 y3.1.Imm 13 6 2 0 (-4))) (pv (r_pkt rfl hb5 rfl) (pv (r_zb rfl) (nil (t_thenR [(0, .bool ((y3.1.Op == 13) && (y3.1.Rd == 6) && (y3.1.Rs1 == 2) && (y3.1.Rs2 == 0) && (y3.1.Imm == (-4))))] ⟨rfl, trivial⟩ fun J => ?_)))))))))
            have hm := oI hm; subst hm
            exact rtn (ret1 rfl rfl ⟨_, rfl, _, (iT im1 (iT im2 (iT im3 (iT im4 (iT im5 (iT im6 im7)))))), ⟨rfl, hS7.sel [1] rfl, trivial⟩⟩)
          have hm := cfalse hb5 hm
          refine gF (d0 := 39) rfl rfl (by rw [hb5]; rfl) (gF (d0 := 39) rfl rfl (by rw [hb5]; rfl) (gF (d0 := 39) rfl rfl (by rw [hb5]; rfl) (pv (r_pkf rfl hb5 rfl) (pv (r_zb rfl) (nil (t_thenR [(0, .bool false)] ⟨rfl, trivial⟩ fun J => ?_))))))
          have hm := oI hm; subst hm
          exact rtn (ret1 rfl rfl ⟨_, rfl, _, (iT im1 (iT im2 (iT im3 (iT im4 (iT im5 (iT im6 im7)))))), ⟨rfl, hS7.sel [1] rfl, trivial⟩⟩)
        have hm := cfalse hb4 hm
        refine gF (d0 := 35) rfl rfl (by rw [hb4]; rfl) (gF (d0 := 35) rfl rfl (by rw [hb4]; rfl) (pv (r_pkf rfl hb4 rfl) (pv (r_mb rfl) (gF (d0 := 39) rfl rfl rfl (gF (d0 := 39) rfl rfl rfl (gF (d0 := 39) rfl rfl rfl (pv (r_pkf rfl rfl rfl) (pv (r_zb rfl) (nil (t_thenR [(0, .bool false)] ⟨rfl, trivial⟩ fun J => ?_))))))))))
        have hm := oI hm; subst hm
        exact rtn (ret1 rfl rfl ⟨_, rfl, _, (iT im1 (iT im2 (iT im3 (iT im4 (iT im5 (iT im6 im7)))))), ⟨rfl, hS7.sel [1] rfl, trivial⟩⟩)
      have hm := cfalse hb3 hm
      refine gF (d0 := 31) rfl rfl (by rw [hb3]; rfl) (gF (d0 := 31) rfl rfl (by rw [hb3]; rfl) (pv (r_pkf rfl hb3 rfl) (pv (r_mb rfl) (gF (d0 := 35) rfl rfl rfl (gF (d0 := 35) rfl rfl rfl (pv (r_pkf rfl rfl rfl) (pv (r_mb rfl) (gF (d0 := 39) rfl rfl rfl (gF (d0 := 39) rfl rfl rfl (gF (d0 := 39) rfl rfl rfl (pv (r_pkf rfl rfl rfl) (pv (r_zb rfl) (nil (t_thenR [(0, .bool false)] ⟨rfl, trivial⟩ fun J => ?_))))))))))))))
      have hm := oI hm; subst hm
      exact rtn (ret1 rfl rfl ⟨_, rfl, _, (iT im1 (iT im2 (iT im3 (iT im4 (iT im5 (iT im6 im7)))))), ⟨rfl, hS7.sel [1] rfl, trivial⟩⟩)
    have hm := cfalse hb2 hm
    refine gF (d0 := 27) rfl rfl (by rw [hb2]; rfl) (gF (d0 := 27) rfl rfl (by rw [hb2]; rfl) (pv (r_pkf rfl hb2 rfl) (pv (r_mb rfl) (gF (d0 := 31) rfl rfl rfl (gF (d0 := 31) rfl rfl rfl (pv (r_pkf rfl rfl rfl) (pv (r_mb rfl) (gF (d0 := 35) rfl rfl rfl (gF (d0 := 35) rfl rfl rfl (pv (r_pkf rfl rfl rfl) (pv (r_mb rfl) (gF (d0 := 39) rfl rfl rfl (gF (d0 := 39) rfl rfl rfl (gF (d0 := 39) rfl rfl rfl (pv (r_pkf rfl rfl rfl) (pv (r_zb rfl) (nil (t_thenR [(0, .bool false)] ⟨rfl, trivial⟩ fun J => ?_))))))))))))))))))
    have hm := oI hm; subst hm
    exact rtn (ret1 rfl rfl ⟨_, rfl, _, (iT im1 (iT im2 (iT im3 (iT im4 (iT im5 (iT im6 im7)))))), ⟨rfl, hS7.sel [1] rfl, trivial⟩⟩)
  have hm := cfalse hb1 hm
  refine gF (d0 := 23) rfl rfl (by rw [hb1]; rfl) (gF (d0 := 23) rfl rfl (by rw [hb1]; rfl) (pv (r_pkf rfl hb1 rfl) (pv (r_mb rfl) (gF (d0 := 27) rfl rfl rfl (gF (d0 := 27) rfl rfl rfl (pv (r_pkf rfl rfl rfl) (pv (r_mb rfl) (gF (d0 := 31) rfl rfl rfl (gF (d0 := 31) rfl rfl rfl (pv (r_pkf rfl rfl rfl) (pv (r_mb rfl) (gF (d0 := 35) rfl rfl rfl (gF (d0 := 35) rfl rfl rfl (pv (r_pkf rfl rfl rfl) (pv (r_mb rfl) (gF (d0 := 39) rfl rfl rfl (gF (d0 := 39) rfl rfl rfl (gF (d0 := 39) rfl rfl rfl (pv (r_pkf rfl rfl rfl) (pv (r_zb rfl) (nil (t_thenR [(0, .bool false)] ⟨rfl, trivial⟩ fun J => ?_))))))))))))))))))))))
  have hm := oI hm; subst hm
  exact rtn (ret1 rfl rfl ⟨_, rfl, _, (iT im1 (iT im2 (iT im3 (iT im4 (iT im5 (iT im6 im7)))))), ⟨rfl, hS7.sel [1] rfl, trivial⟩⟩)

theorem ref02_Name_sim {p0 : Int} {r : (List UInt8)} (hS : Sep g T0 w0 [R])  (hm : ref02_Name p0 = some r) :
    Calls Tryz.prog 34 #[iv p0] w0 (RetS T0 w0 fun T w v => v = .string ⟨r.toArray⟩ ∧ Sep g T w [R] ∧ True) := by
  refine enter (args := [iv p0]) Tryz.func34 rfl Tryz.ntmps34 rfl fun J => ?_
  unfold ref02_Name at hm
  refine sq2 (rg (pv (r_zt rfl) (nil (t_then ?_))))
  refine sq2 (rg (wl rfl (bsS (r := rStr) (l := tbl2) (css := (List.map (fun x => [.string ⟨x.toArray⟩]) tbl2)) hS underlying52 sizeOf9 zeroValue9 rfl rfl (by kernel_rfl) rfl (allR_map fun _ => rfl) rfl rfl fun w1 a1 n1 c1 im1 hS1 => ?_)))
  refine pv (r_zs rfl) (nil (t_then ?_))
  refine sq2 (sq2 (rg (pv (r_mi rfl) (pv (r_ib rfl rfl rfl) (pv (r_mb rfl) (?_))))))
  rcases Bool.eq_false_or_eq_true (decide (p0 < 0)) with hb1 | hb1
  · have hm := ctrue hb1 hm
    refine gF (d0 := 7) rfl rfl (by rw [hb1]; rfl) (gF (d0 := 7) rfl rfl (by rw [hb1]; rfl) (pv (r_pkt rfl hb1 rfl) (nil (t_then ?_))))
    refine cnd (b := true) rfl (fun _ => ?_) (fun h => nomatch h)
    refine sq2 (rg (pv (r_zt rfl) (nil (t_then ?_))))
    have hm := oI hm; subst hm
    exact rtn (r_then (ret1 rfl rfl ⟨_, rfl, _, im1, ⟨rfl, hS1.sel [1] rfl, trivial⟩⟩))
  have hm := cfalse hb1 hm
  refine gT (d0 := 7) rfl rfl hb1 (pv (r_mi rfl) (gT (d0 := 7) rfl rfl hb1 (pv (r_ib rfl rfl rfl) (pv (r_pkf rfl hb1 rfl) (nil (t_then ?_))))))
  refine cnd rfl (fun hb2 => ?_) (fun hb2 => ?_)
  · have hm := ctrue hb2 hm
    refine sq2 (rg (pv (r_zt rfl) (nil (t_then ?_))))
    have hm := oI hm; subst hm
    exact rtn (r_then (ret1 rfl rfl ⟨_, rfl, _, im1, ⟨rfl, hS1.sel [1] rfl, trivial⟩⟩))
  have hm := cfalse hb2 hm
  refine skp (t_then ?_)
  refine sq2 ?_
  obtain ⟨u1, hx1, hm⟩ := bindS hm
  obtain ⟨b1, of1, cs1, k1, cp1, hv1, hp1, hl1, he1, hr1, hc1⟩ := (hS1.own (i := 0) ⟨rfl, rfl⟩).v.ixq hx1 rfl
  cases hr1
  refine rg (pv (r_ms rfl) (pv (r_mi rfl) (pv (r_ixe hv1 rfl underlying52 sizeOf9 hp1 hl1 he1) (pv (r_ld rfl isAgg9 (hc1.get (j := 0) rfl)) (pv (r_zt rfl) (nil (t_then ?_)))))))
  have hm := oI hm; subst hm
  exact rtn (ret1 rfl rfl ⟨_, rfl, _, im1, ⟨rfl, hS1.sel [1] rfl, trivial⟩⟩)

structure Sp1 (G : Rec1) : Prop where
  ref06_Num : ∀ {g : World} {T0 : TP} {w0 : World} {R : Assn} {p0 : Int} {r : (List UInt8)} (hS : Sep g T0 w0 [R])  (hm : G.ref06_Num p0 = some r),
    Calls Tryz.prog 35 #[iv p0] w0 (RetS T0 w0 fun T w v => v = .string ⟨r.toArray⟩ ∧ Sep g T w [R] ∧ True)
theorem ref06_Num_st {G : Rec1} (hG : Sp1 G) {g : World} {T0 : TP} {w0 : World} {R : Assn} {p0 : Int} {r : (List UInt8)} (hS : Sep g T0 w0 [R])  (hm : ref06_Num_b G p0 = some r) :
    Calls Tryz.prog 35 #[iv p0] w0 (RetS T0 w0 fun T w v => v = .string ⟨r.toArray⟩ ∧ Sep g T w [R] ∧ True) := by
  refine enter (args := [iv p0]) Tryz.func35 rfl Tryz.ntmps35 rfl fun J => ?_
  unfold ref06_Num_b at hm
  refine sq2 (rg (pv (r_zt rfl) (nil (t_then ?_))))
  refine sq2 (sq2 (rg (pv (r_mi rfl) (pv (r_ib rfl rfl rfl) (nil (t_then ?_))))))
  refine cnd rfl (fun hb1 => ?_) (fun hb1 => ?_)
  · have hm := ctrue hb1 hm
    refine sq2 ?_
    obtain ⟨y1, hx1, hm⟩ := bindS hm
    refine rg (pv (r_mi rfl) (pv (r_ng rfl) (wl rfl (calS cf35 rfl (hG.ref06_Num (p0 := IntKind.wrap .i64 (0 - p0)) (hS.bun [0] [] rfl)  hx1) rfl fun v1 T1 w1 im1 rv1 => ?_))))
    obtain ⟨rfl, hS1, _⟩ := rv1
    have hS1 := hS1.unb
    obtain ⟨z_1, hro1, hm⟩ := bindS hm
    refine pv (r_sad rfl rfl (room_some hro1)) (pv (r_zt rfl) (nil (t_then ?_)))
    have hm := oI hm; subst hm
    exact rtn (r_then (ret1 rfl rfl ⟨_, rfl, _, im1, ⟨rfl, hS1.sel [0] rfl, trivial⟩⟩))
  have hm := cfalse hb1 hm
  refine skp (t_then ?_)
  refine sq2 (rg (pv (r_zt rfl) (nil (t_then ?_))))
  refine sq2 ?_
  obtain ⟨u1, hx2, hm⟩ := bindS hm
  refine rg (pv (r_mt rfl) (pv (r_mi rfl) (pv (r_irm rfl rfl (by decide)) (pv (r_mi rfl) (pv (r_irm rfl rfl (by decide)) (pv (r_ib rfl rfl rfl) (pv (r_ss rfl ⟨_, rfl⟩ ⟨_, rfl⟩ hx2 underlying9) (pv (r_zt rfl) (nil (t_then ?_))))))))))
  refine sq2 (sq2 (rg (pv (r_mi rfl) (pv (r_iq rfl rfl (by decide)) (pv (r_zi rfl) (nil (t_then ?_)))))))
  obtain ⟨o1, ho1, hq1⟩ := bindS hm
  obtain ⟨bd1, hbd1, ho1⟩ := loop_open ho1
  refine blk (wp_loop_ghost (fun m a w2 => ∃ (J : JV) (T2 : TP) (x1 : List UInt8) (x2 : Int), a = env (nf 35) J [(3, .string ⟨([48, 49, 50, 51, 52, 53, 54, 55, 56, 57] : List UInt8).toArray⟩), (4, .string ⟨x1.toArray⟩), (5, iv x2)] ∧ Im T0 w0 T2 w2 ∧ Sep g T2 w2 [R] ∧ loopM bd1 m (x1, x2) = some o1) NN ⟨_, _, u1, (IntKind.wrap .i64 (Int.tdiv p0 10)), env_has ⟨rfl, rfl, rfl, trivial⟩, Im.refl, hS.sel [0] rfl, ho1⟩ ?_)
  rintro m _ w2 ⟨J, T2, x1, x2, rfl, im2, hS2, ho1⟩
  obtain ⟨m1, z1, rfl, hm, hn1⟩ := loop_round ho1
  rw [hbd1] at hm
  refine sq2 (sq2 (rg (pv (r_mi rfl) (pv (r_ib rfl rfl rfl) (nil (t_then ?_))))))
  refine cnd rfl (fun hb2 => ?_) (fun hb2 => ?_)
  · have hm := ctrue hb2 hm
    refine skp (t_then ?_)
    refine sq2 (blk ?_)
    obtain ⟨u2, hx3, hm⟩ := bindS hm
    obtain ⟨z_2, hro2, hm⟩ := bindS hm
    refine rg (pv (r_mt rfl) (pv (r_mi rfl) (pv (r_irm rfl rfl (by decide)) (pv (r_mi rfl) (pv (r_irm rfl rfl (by decide)) (pv (r_ib rfl rfl rfl) (pv (r_ss rfl ⟨_, rfl⟩ ⟨_, rfl⟩ hx3 underlying9) (pv (r_mt rfl) (pv (r_sad rfl rfl (room_some hro2)) (pv (r_zt rfl) (nil (t_blk (t_then ?_)))))))))))))
    have hm := oI hm; subst hm
    exact rg (pv (r_mi rfl) (pv (r_iq rfl rfl (by decide)) (pv (r_zi rfl) (nil (t_then ⟨m1, Nat.lt_succ_self _, _, _, (u2 ++ x1), (IntKind.wrap .i64 (Int.tdiv x2 10)), env_has ⟨rfl, rfl, rfl, trivial⟩, im2, hS2.sel [0] rfl, hn1⟩)))))
  have hm := cfalse hb2 hm
  have hm := oI hm; subst hm
  have hn1 : _ = Lp.brk _ := hn1
  subst hn1
  have hm := thn_brk hq1
  refine xt (x_then (x_then (x_eq (t_then ?_))))
  refine sq2 (rg (pv (r_mt rfl) (pv (r_zt rfl) (nil (t_then ?_)))))
  have hm := oI hm; subst hm
  exact rtn (ret1 rfl rfl ⟨_, rfl, _, im2, ⟨rfl, hS2.sel [0] rfl, trivial⟩⟩)
theorem sp1 : ∀ n, Sp1 (rec1 n)
  | 0 => ⟨by intros; rename_i h; cases (show (none : Option _) = some _ from h)⟩
  | n + 1 => ⟨ref06_Num_st (sp1 n)⟩
theorem ref06_Num_sim {p0 : Int} {r : (List UInt8)} (hS : Sep g T0 w0 [R])  (hm : ref06_Num p0 = some r) :
    Calls Tryz.prog 35 #[iv p0] w0 (RetS T0 w0 fun T w v => v = .string ⟨r.toArray⟩ ∧ Sep g T w [R] ∧ True) := (sp1 NN).ref06_Num hS hm

theorem ref06_Line_sim {p0 : GInst} {r : (List UInt8)} (hS : Sep g T0 w0 [R])  (hm : ref06_Line p0 = some r) :
    Calls Tryz.prog 11 #[.agg (cGInst p0).toArray] w0 (RetS T0 w0 fun T w v => v = .string ⟨r.toArray⟩ ∧ Sep g T w [R] ∧ True) := by
  refine enter (args := [.agg (cGInst p0).toArray]) Tryz.func11 rfl Tryz.ntmps11 rfl fun J => ?_
  unfold ref06_Line at hm
  refine sq2 (rg (wl rfl (bxS (cs := (cGInst p0)) rfl rfl hS fun w1 b1 im1 hS1 => ?_)))
  refine pv (r_zt rfl) (nil (t_then ?_))
  refine sq2 ?_
  obtain ⟨y1, hx1, hm⟩ := bindS hm
  refine rg (pv (r_fa rfl underlying28 rfl sizeOf3 rfl) (pv (r_ld rfl isAgg3 (hS1.cell0 (i := 0) ⟨rfl, rfl⟩ (j := 0) rfl)) (wl rfl (calS cf34 rfl (ref02_Name_sim (p0 := p0.Op) (hS1.bun [0, 1] [] rfl)  hx1) rfl fun v1 T1 w2 im2 rv1 => ?_))))
  obtain ⟨rfl, hS2, _⟩ := rv1
  have hS2 := hS2.unb
  obtain ⟨z_1, hro1, hm⟩ := bindS hm
  refine pv (r_sad rfl rfl (room_some hro1)) (pv (r_zt rfl) (nil (t_then ?_)))
  refine sq2 (rs [0, 1, 2, 0, 0, 1, 2, 0, 0, 1, 2, 0, 0, 1, 2, 0, 0, 0, 0] [0, 1, 4, 5, 8, 9, 12, 13, 2, 3, 6, 7, 10, 11, 14, 15, 16, 17, 18] mix (by kernel_rfl) hS2.lt fun w3 i1 => ?_)
  have im3 := i1.imm
  have hS3 := hS2.keep i1 (fun _ h => h)
  obtain ⟨y2, hx2, hm⟩ := bindS hm
  refine s0 rfl trivial (fun _ => r_fa rfl underlying28 rfl sizeOf3 rfl) rfl (s1 rfl trivial (r_ld rfl isAgg3 (hS3.cell0 (i := 0) ⟨rfl, rfl⟩ (j := 1) rfl)) rfl (s0 rfl trivial (fun _ => r_fa rfl underlying28 rfl sizeOf3 rfl) rfl (s1 rfl trivial (r_ld rfl isAgg3 (hS3.cell0 (i := 0) ⟨rfl, rfl⟩ (j := 2) rfl)) rfl (s0 rfl trivial (fun _ => r_fa rfl underlying28 rfl sizeOf3 rfl) rfl (s1 rfl trivial (r_ld rfl isAgg3 (hS3.cell0 (i := 0) ⟨rfl, rfl⟩ (j := 3) rfl)) rfl (s0 rfl trivial (fun _ => r_fa rfl underlying28 rfl sizeOf3 rfl) rfl (s1 rfl trivial (r_ld rfl isAgg3 (hS3.cell0 (i := 0) ⟨rfl, rfl⟩ (j := 4) rfl)) rfl (s2 [(13, iv p0.Imm), (9, iv p0.Rs2), (5, iv p0.Rs1)] rfl trivial rfl (by kernel_rfl) (calS cf35 rfl (ref06_Num_sim (p0 := p0.Rd) (hS3.bun [0, 1] [] rfl)  hx2) rfl fun v2 T2 w4 im4 rv2 => ?_)))))))))
  obtain ⟨rfl, hS4, _⟩ := rv2
  have hS4 := hS4.unb
  refine ⟨st1 rfl (r_ld rfl isAgg3 (hS4.cell0 (i := 0) ⟨rfl, rfl⟩ (j := 4) rfl)) (st1 rfl (r_ld rfl isAgg3 (hS4.cell0 (i := 0) ⟨rfl, rfl⟩ (j := 3) rfl)) (st1 rfl (r_ld rfl isAgg3 (hS4.cell0 (i := 0) ⟨rfl, rfl⟩ (j := 2) rfl)) (st0))), ?_⟩
  obtain ⟨z_2, hro2, hm⟩ := bindS hm
  obtain ⟨y3, hx3, hm⟩ := bindS hm
  refine s0 rfl trivial (fun _ => r_sad rfl rfl (room_some hro2)) rfl (s2 [(13, iv p0.Imm), (9, iv p0.Rs2)] rfl trivial rfl (by kernel_rfl) (calS cf35 rfl (ref06_Num_sim (p0 := p0.Rs1) (hS4.bun [0, 1] [] rfl)  hx3) rfl fun v3 T3 w5 im5 rv3 => ?_))
  obtain ⟨rfl, hS5, _⟩ := rv3
  have hS5 := hS5.unb
  refine ⟨st1 rfl (r_ld rfl isAgg3 (hS5.cell0 (i := 0) ⟨rfl, rfl⟩ (j := 4) rfl)) (st1 rfl (r_ld rfl isAgg3 (hS5.cell0 (i := 0) ⟨rfl, rfl⟩ (j := 3) rfl)) (st0)), ?_⟩
  obtain ⟨z_3, hro3, hm⟩ := bindS hm
  obtain ⟨y4, hx4, hm⟩ := bindS hm
  refine s0 rfl trivial (fun _ => r_sad rfl rfl (room_some hro3)) rfl (s2 [(13, iv p0.Imm)] rfl trivial rfl (by kernel_rfl) (calS cf35 rfl (ref06_Num_sim (p0 := p0.Rs2) (hS5.bun [0, 1] [] rfl)  hx4) rfl fun v4 T4 w6 im6 rv4 => ?_))
  obtain ⟨rfl, hS6, _⟩ := rv4
  have hS6 := hS6.unb
  refine ⟨st1 rfl (r_ld rfl isAgg3 (hS6.cell0 (i := 0) ⟨rfl, rfl⟩ (j := 4) rfl)) (st0), ?_⟩
  obtain ⟨z_4, hro4, hm⟩ := bindS hm
  obtain ⟨y5, hx5, hm⟩ := bindS hm
  refine s0 rfl trivial (fun _ => r_sad rfl rfl (room_some hro4)) rfl (s2 [] rfl trivial rfl (by kernel_rfl) (calS cf35 rfl (ref06_Num_sim (p0 := p0.Imm) (hS6.bun [0, 1] [] rfl)  hx5) rfl fun v5 T5 w7 im7 rv5 => ?_))
  obtain ⟨rfl, hS7, _⟩ := rv5
  have hS7 := hS7.unb
  refine ⟨st0, ?_⟩
  refine s0 rfl trivial (fun _ => r_zt rfl) rfl (s0 rfl trivial (fun _ => r_zt rfl) rfl (s0 rfl trivial (fun _ => r_zt rfl) rfl (s0 rfl trivial (fun _ => r_zt rfl) rfl (se (t_then ?_)))))
  refine sq2 ?_
  obtain ⟨y6, hx6, hm⟩ := bindS hm
  refine rg (pv (r_fa rfl underlying28 rfl sizeOf3 rfl) (pv (r_ld rfl isAgg3 (hS7.cell0 (i := 0) ⟨rfl, rfl⟩ (j := 0) rfl)) (wl rfl (calS cf23 rfl (ref02_Form_sim (p0 := p0.Op) (hS7.bun [0, 1] [] rfl)  hx6) rfl fun v6 T6 w8 im8 rv6 => ?_))))
  obtain ⟨rfl, hS8, _⟩ := rv6
  have hS8 := hS8.unb
  refine pv (r_zi rfl) (nil (t_then ?_))
  refine sq2 (sq2 (rg (pv (r_mi rfl) (pv (r_ib rfl rfl rfl) (nil (t_thenR [(1, pt b1 0), (3, .string ⟨(y1 ++ ([32] : List UInt8)).toArray⟩), (4, .string ⟨(([120] : List UInt8) ++ y2).toArray⟩), (5, .string ⟨(([120] : List UInt8) ++ y3).toArray⟩), (6, .string ⟨(([120] : List UInt8) ++ y4).toArray⟩), (7, .string ⟨y5.toArray⟩), (8, .int .u8 y6), (32, .bool (y6 == 82))] ⟨rfl, rfl, rfl, rfl, rfl, rfl, rfl, rfl, trivial⟩ fun J => ?_))))))
  refine cnd rfl (fun hb1 => ?_) (fun hb1 => ?_)
  · have hm := ctrue hb1 hm
    refine sq2 ?_
    obtain ⟨z_5, hro5, hm⟩ := bindS hm
    obtain ⟨z_6, hro6, hm⟩ := bindS hm
    obtain ⟨z_7, hro7, hm⟩ := bindS hm
    obtain ⟨z_8, hro8, hm⟩ := bindS hm
    obtain ⟨z_9, hro9, hm⟩ := bindS hm
    refine rg (pv (r_mt rfl) (pv (r_mt rfl) (pv (r_sad rfl rfl (room_some hro5)) (pv (r_sad rfl rfl (room_some hro6)) (pv (r_mt rfl) (pv (r_sad rfl rfl (room_some hro7)) (pv (r_sad rfl rfl (room_some hro8)) (pv (r_mt rfl) (pv (r_sad rfl rfl (room_some hro9)) (pv (r_zt rfl) (nil (t_then ?_))))))))))))
    have hm := oI hm; subst hm
    exact rtn (r_then (ret1 rfl rfl ⟨_, rfl, _, (iT im1 (iT im2 (iT im3 (iT im4 (iT im5 (iT im6 (iT im7 im8))))))), ⟨rfl, hS8.sel [1] rfl, trivial⟩⟩))
  have hm := cfalse hb1 hm
  refine skp (t_then ?_)
  refine sq2 (sq2 (rg (pv (r_mi rfl) (pv (r_ib rfl rfl rfl) (pv (r_mb rfl) (?_))))))
  rcases Bool.eq_false_or_eq_true (y6 == 85) with hb2 | hb2
  · have hm := ctrue hb2 hm
    refine gF (d0 := 44) rfl rfl (by rw [hb2]; rfl) (gF (d0 := 44) rfl rfl (by rw [hb2]; rfl) (pv (r_pkt rfl hb2 rfl) (nil (t_then ?_))))
    refine cnd (b := true) rfl (fun _ => ?_) (fun h => nomatch h)
    refine sq2 ?_
    obtain ⟨z_46, hro46, hm⟩ := bindS hm
    obtain ⟨z_47, hro47, hm⟩ := bindS hm
    obtain ⟨z_48, hro48, hm⟩ := bindS hm
    refine rg (pv (r_mt rfl) (pv (r_mt rfl) (pv (r_sad rfl rfl (room_some hro46)) (pv (r_sad rfl rfl (room_some hro47)) (pv (r_mt rfl) (pv (r_sad rfl rfl (room_some hro48)) (pv (r_zt rfl) (nil (t_then ?_)))))))))
    have hm := oI hm; subst hm
    exact rtn (r_then (ret1 rfl rfl ⟨_, rfl, _, (iT im1 (iT im2 (iT im3 (iT im4 (iT im5 (iT im6 (iT im7 im8))))))), ⟨rfl, hS8.sel [1] rfl, trivial⟩⟩))
  have hm := cfalse hb2 hm
  refine gT (d0 := 44) rfl rfl hb2 (pv (r_mi rfl) (gT (d0 := 44) rfl rfl hb2 (pv (r_ib rfl rfl rfl) (pv (r_pkf rfl hb2 rfl) (nil (t_then ?_))))))
  refine cnd rfl (fun hb3 => ?_) (fun hb3 => ?_)
  · have hm := ctrue hb3 hm
    refine sq2 ?_
    obtain ⟨z_10, hro10, hm⟩ := bindS hm
    obtain ⟨z_11, hro11, hm⟩ := bindS hm
    obtain ⟨z_12, hro12, hm⟩ := bindS hm
    refine rg (pv (r_mt rfl) (pv (r_mt rfl) (pv (r_sad rfl rfl (room_some hro10)) (pv (r_sad rfl rfl (room_some hro11)) (pv (r_mt rfl) (pv (r_sad rfl rfl (room_some hro12)) (pv (r_zt rfl) (nil (t_then ?_)))))))))
    have hm := oI hm; subst hm
    exact rtn (r_then (ret1 rfl rfl ⟨_, rfl, _, (iT im1 (iT im2 (iT im3 (iT im4 (iT im5 (iT im6 (iT im7 im8))))))), ⟨rfl, hS8.sel [1] rfl, trivial⟩⟩))
  have hm := cfalse hb3 hm
  refine skp (t_then ?_)
  refine sq2 (sq2 (rg (pv (r_mi rfl) (pv (r_ib rfl rfl rfl) (nil (t_then ?_))))))
  refine cnd rfl (fun hb4 => ?_) (fun hb4 => ?_)
  · have hm := ctrue hb4 hm
    refine sq2 ?_
    obtain ⟨z_13, hro13, hm⟩ := bindS hm
    obtain ⟨z_14, hro14, hm⟩ := bindS hm
    obtain ⟨z_15, hro15, hm⟩ := bindS hm
    obtain ⟨z_16, hro16, hm⟩ := bindS hm
    obtain ⟨z_17, hro17, hm⟩ := bindS hm
    refine rg (pv (r_mt rfl) (pv (r_mt rfl) (pv (r_sad rfl rfl (room_some hro13)) (pv (r_sad rfl rfl (room_some hro14)) (pv (r_mt rfl) (pv (r_sad rfl rfl (room_some hro15)) (pv (r_sad rfl rfl (room_some hro16)) (pv (r_mt rfl) (pv (r_sad rfl rfl (room_some hro17)) (pv (r_zt rfl) (nil (t_thenR [(2, .string ⟨((((((y1 ++ ([32] : List UInt8)) ++ (([120] : List UInt8) ++ y3)) ++ ([44, 32] : List UInt8)) ++ (([120] : List UInt8) ++ y4)) ++ ([44, 32] : List UInt8)) ++ y5).toArray⟩)] ⟨rfl, trivial⟩ fun J => ?_))))))))))))
    have hm := oI hm; subst hm
    exact rtn (r_then (ret1 rfl rfl ⟨_, rfl, _, (iT im1 (iT im2 (iT im3 (iT im4 (iT im5 (iT im6 (iT im7 im8))))))), ⟨rfl, hS8.sel [1] rfl, trivial⟩⟩))
  have hm := cfalse hb4 hm
  refine skp (t_then ?_)
  refine sq2 (sq2 (rg (pv (r_mi rfl) (pv (r_ib rfl rfl rfl) (nil (t_then ?_))))))
  refine cnd rfl (fun hb5 => ?_) (fun hb5 => ?_)
  · have hm := ctrue hb5 hm
    refine sq2 ?_
    obtain ⟨z_18, hro18, hm⟩ := bindS hm
    obtain ⟨z_19, hro19, hm⟩ := bindS hm
    obtain ⟨z_20, hro20, hm⟩ := bindS hm
    obtain ⟨z_21, hro21, hm⟩ := bindS hm
    obtain ⟨z_22, hro22, hm⟩ := bindS hm
    obtain ⟨z_23, hro23, hm⟩ := bindS hm
    refine rg (pv (r_mt rfl) (pv (r_mt rfl) (pv (r_sad rfl rfl (room_some hro18)) (pv (r_sad rfl rfl (room_some hro19)) (pv (r_mt rfl) (pv (r_sad rfl rfl (room_some hro20)) (pv (r_sad rfl rfl (room_some hro21)) (pv (r_mt rfl) (pv (r_sad rfl rfl (room_some hro22)) (pv (r_sad rfl rfl (room_some hro23)) (pv (r_zt rfl) (nil (t_thenR [(2, .string ⟨(((((((y1 ++ ([32] : List UInt8)) ++ (([120] : List UInt8) ++ y4)) ++ ([44, 32] : List UInt8)) ++ y5) ++ ([40] : List UInt8)) ++ (([120] : List UInt8) ++ y3)) ++ ([41] : List UInt8)).toArray⟩)] ⟨rfl, trivial⟩ fun J => ?_)))))))))))))
    have hm := oI hm; subst hm
    exact rtn (r_then (ret1 rfl rfl ⟨_, rfl, _, (iT im1 (iT im2 (iT im3 (iT im4 (iT im5 (iT im6 (iT im7 im8))))))), ⟨rfl, hS8.sel [1] rfl, trivial⟩⟩))
  have hm := cfalse hb5 hm
  refine skp (t_then ?_)
  refine sq2 (sq2 (rg (pv (r_fa rfl underlying28 rfl sizeOf3 rfl) (pv (r_ld rfl isAgg3 (hS8.cell0 (i := 0) ⟨rfl, rfl⟩ (j := 0) rfl)) (pv (r_ib rfl rfl rfl) (pv (r_mb rfl) (?_)))))))
  rcases Bool.eq_false_or_eq_true (p0.Op == 4) with hb6 | hb6
  · have hm := ctrue hb6 hm
    refine gF (d0 := 80) rfl rfl (by rw [hb6]; rfl) (gF (d0 := 80) rfl rfl (by rw [hb6]; rfl) (gF (d0 := 80) rfl rfl (by rw [hb6]; rfl) (gF (d0 := 80) rfl rfl (by rw [hb6]; rfl) (gU (d0 := 84) rfl rfl (gU (d0 := 84) rfl rfl (gU (d0 := 84) rfl rfl (gF (d0 := 80) rfl rfl (by rw [hb6]; rfl) (pv (r_pkt rfl hb6 rfl) (nil (t_thenR [(3, .string ⟨(y1 ++ ([32] : List UInt8)).toArray⟩), (4, .string ⟨(([120] : List UInt8) ++ y2).toArray⟩), (5, .string ⟨(([120] : List UInt8) ++ y3).toArray⟩), (7, .string ⟨y5.toArray⟩), (89, .bool true)] ⟨rfl, rfl, rfl, rfl, rfl, trivial⟩ fun J => ?_))))))))))
    refine cnd (b := true) rfl (fun _ => ?_) (fun h => nomatch h)
    refine sq2 ?_
    obtain ⟨z_40, hro40, hm⟩ := bindS hm
    obtain ⟨z_41, hro41, hm⟩ := bindS hm
    obtain ⟨z_42, hro42, hm⟩ := bindS hm
    obtain ⟨z_43, hro43, hm⟩ := bindS hm
    obtain ⟨z_44, hro44, hm⟩ := bindS hm
    obtain ⟨z_45, hro45, hm⟩ := bindS hm
    refine rg (pv (r_mt rfl) (pv (r_mt rfl) (pv (r_sad rfl rfl (room_some hro40)) (pv (r_sad rfl rfl (room_some hro41)) (pv (r_mt rfl) (pv (r_sad rfl rfl (room_some hro42)) (pv (r_sad rfl rfl (room_some hro43)) (pv (r_mt rfl) (pv (r_sad rfl rfl (room_some hro44)) (pv (r_sad rfl rfl (room_some hro45)) (pv (r_zt rfl) (nil (t_then ?_)))))))))))))
    have hm := oI hm; subst hm
    exact rtn (r_then (ret1 rfl rfl ⟨_, rfl, _, (iT im1 (iT im2 (iT im3 (iT im4 (iT im5 (iT im6 (iT im7 im8))))))), ⟨rfl, hS8.sel [1] rfl, trivial⟩⟩))
  have hm := cfalse hb6 hm
  refine gT (d0 := 80) rfl rfl hb6 (pv (r_fa rfl underlying28 rfl sizeOf3 rfl) (gT (d0 := 80) rfl rfl hb6 (pv (r_ld rfl isAgg3 (hS8.cell0 (i := 0) ⟨rfl, rfl⟩ (j := 0) rfl)) (gT (d0 := 80) rfl rfl hb6 (pv (r_ib rfl rfl rfl) (gT (d0 := 80) rfl rfl hb6 (pv (r_mb rfl) (?_))))))))
  rcases Bool.eq_false_or_eq_true (decide (11 ≤ p0.Op)) with hb7 | hb7
  · have hm := ctrue hb7 hm
    refine gT (d0 := 84) rfl rfl hb7 (pv (r_fa rfl underlying28 rfl sizeOf3 rfl) (gT (d0 := 84) rfl rfl hb7 (pv (r_ld rfl isAgg3 (hS8.cell0 (i := 0) ⟨rfl, rfl⟩ (j := 0) rfl)) (gT (d0 := 84) rfl rfl hb7 (pv (r_ib rfl rfl rfl) (gT (d0 := 80) rfl rfl hb6 (pv (r_pkt rfl hb7 rfl) (pv (r_pkf rfl hb6 rfl) (nil (t_thenR [(3, .string ⟨(y1 ++ ([32] : List UInt8)).toArray⟩), (4, .string ⟨(([120] : List UInt8) ++ y2).toArray⟩), (5, .string ⟨(([120] : List UInt8) ++ y3).toArray⟩), (7, .string ⟨y5.toArray⟩), (89, .bool (decide (p0.Op ≤ 15)))] ⟨rfl, rfl, rfl, rfl, rfl, trivial⟩ fun J => ?_))))))))))
    refine cnd rfl (fun hb8 => ?_) (fun hb8 => ?_)
    · have hm := ctrue hb8 hm
      refine sq2 ?_
      obtain ⟨z_24, hro24, hm⟩ := bindS hm
      obtain ⟨z_25, hro25, hm⟩ := bindS hm
      obtain ⟨z_26, hro26, hm⟩ := bindS hm
      obtain ⟨z_27, hro27, hm⟩ := bindS hm
      obtain ⟨z_28, hro28, hm⟩ := bindS hm
      obtain ⟨z_29, hro29, hm⟩ := bindS hm
      refine rg (pv (r_mt rfl) (pv (r_mt rfl) (pv (r_sad rfl rfl (room_some hro24)) (pv (r_sad rfl rfl (room_some hro25)) (pv (r_mt rfl) (pv (r_sad rfl rfl (room_some hro26)) (pv (r_sad rfl rfl (room_some hro27)) (pv (r_mt rfl) (pv (r_sad rfl rfl (room_some hro28)) (pv (r_sad rfl rfl (room_some hro29)) (pv (r_zt rfl) (nil (t_then ?_)))))))))))))
      have hm := oI hm; subst hm
      exact rtn (r_then (ret1 rfl rfl ⟨_, rfl, _, (iT im1 (iT im2 (iT im3 (iT im4 (iT im5 (iT im6 (iT im7 im8))))))), ⟨rfl, hS8.sel [1] rfl, trivial⟩⟩))
    have hm := cfalse hb8 hm
    refine skp (t_then ?_)
    refine sq2 ?_
    obtain ⟨z_30, hro30, hm⟩ := bindS hm
    obtain ⟨z_31, hro31, hm⟩ := bindS hm
    obtain ⟨z_32, hro32, hm⟩ := bindS hm
    obtain ⟨z_33, hro33, hm⟩ := bindS hm
    obtain ⟨z_34, hro34, hm⟩ := bindS hm
    refine rg (pv (r_mt rfl) (pv (r_mt rfl) (pv (r_sad rfl rfl (room_some hro30)) (pv (r_sad rfl rfl (room_some hro31)) (pv (r_mt rfl) (pv (r_sad rfl rfl (room_some hro32)) (pv (r_sad rfl rfl (room_some hro33)) (pv (r_mt rfl) (pv (r_sad rfl rfl (room_some hro34)) (pv (r_zt rfl) (nil (t_then ?_))))))))))))
    have hm := oI hm; subst hm
    exact rtn (ret1 rfl rfl ⟨_, rfl, _, (iT im1 (iT im2 (iT im3 (iT im4 (iT im5 (iT im6 (iT im7 im8))))))), ⟨rfl, hS8.sel [1] rfl, trivial⟩⟩)
  have hm := cfalse hb7 hm
  refine gF (d0 := 84) rfl rfl (by rw [hb7]; rfl) (gF (d0 := 84) rfl rfl (by rw [hb7]; rfl) (gF (d0 := 84) rfl rfl (by rw [hb7]; rfl) (gT (d0 := 80) rfl rfl hb6 (pv (r_pkf rfl hb7 rfl) (pv (r_pkf rfl hb6 rfl) (nil (t_thenR [(3, .string ⟨(y1 ++ ([32] : List UInt8)).toArray⟩), (4, .string ⟨(([120] : List UInt8) ++ y2).toArray⟩), (5, .string ⟨(([120] : List UInt8) ++ y3).toArray⟩), (7, .string ⟨y5.toArray⟩), (89, .bool false)] ⟨rfl, rfl, rfl, rfl, rfl, trivial⟩ fun J => ?_)))))))
  refine cnd (b := false) rfl (fun h => nomatch h) (fun _ => ?_)
  refine skp (t_then ?_)
  refine sq2 ?_
  obtain ⟨z_35, hro35, hm⟩ := bindS hm
  obtain ⟨z_36, hro36, hm⟩ := bindS hm
  obtain ⟨z_37, hro37, hm⟩ := bindS hm
  obtain ⟨z_38, hro38, hm⟩ := bindS hm
  obtain ⟨z_39, hro39, hm⟩ := bindS hm
  refine rg (pv (r_mt rfl) (pv (r_mt rfl) (pv (r_sad rfl rfl (room_some hro35)) (pv (r_sad rfl rfl (room_some hro36)) (pv (r_mt rfl) (pv (r_sad rfl rfl (room_some hro37)) (pv (r_sad rfl rfl (room_some hro38)) (pv (r_mt rfl) (pv (r_sad rfl rfl (room_some hro39)) (pv (r_zt rfl) (nil (t_then ?_))))))))))))
  have hm := oI hm; subst hm
  exact rtn (ret1 rfl rfl ⟨_, rfl, _, (iT im1 (iT im2 (iT im3 (iT im4 (iT im5 (iT im6 (iT im7 im8))))))), ⟨rfl, hS8.sel [1] rfl, trivial⟩⟩)
end Go.Proofs.YtcmncppbonaaeaaGreatDoor
