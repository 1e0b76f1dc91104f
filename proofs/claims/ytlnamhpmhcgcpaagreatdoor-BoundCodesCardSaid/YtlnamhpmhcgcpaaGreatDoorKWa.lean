/- That Go functions compute their models. Printed by gen2.py. -/
import Derived.Test.YtlnamhpmhcgcpaaGreatDoorProg
import Derived.KernelRfl
import Derived.Test.YtlnamhpmhcgcpaaGreatDoorKFoc
import Derived.Test.YtlnamhpmhcgcpaaGreatDoorKTree
import Derived.Test.YtlnamhpmhcgcpaaGreatDoorKAuto
import Derived.Test.YtlnamhpmhcgcpaaGreatDoorKAuP
import Derived.Test.YtlnamhpmhcgcpaaGreatDoorKCut
import Derived.Test.YtlnamhpmhcgcpaaGreatDoorKSeg
import Derived.Test.YtlnamhpmhcgcpaaGreatDoorKArr
import Derived.Test.YtlnamhpmhcgcpaaGreatDoorKErr
import Derived.Test.YtlnamhpmhcgcpaaGreatDoorKPan
import Derived.Test.YtlnamhpmhcgcpaaGreatDoorKMks
import Derived.Test.YtlnamhpmhcgcpaaGreatDoorKRange
import Derived.Test.YtlnamhpmhcgcpaaGreatDoorKM
set_option linter.unusedVariables false
namespace Go.Proofs.YtlnamhpmhcgcpaaGreatDoor
open _root_.Go.Proofs.Tryz
set_option maxRecDepth 100000
set_option maxHeartbeats 8000000
attribute [local irreducible] wpList wpQuiet Code.wp
variable {g : World} {T0 : Nat → Prop} {w0 : World} {R : List Assn}
def rInstShape : Rp InstShape := ((rPair rStr (rPair (rInt .u8) (rPair (rInt .u32) (rPair (rInt .u32) (rInt .u32)))))).iso fun x => (x.name, x.form, x.code, x.third, x.seventh)
theorem rInstShape_open {T : Nat → Prop} {w : World} {cs : List Value} {x : InstShape} (h : rInstShape.rp T w cs x) : cs = [.string ⟨x.name.toArray⟩, .int .u8 x.form, .int .u32 x.code, .int .u32 x.third, .int .u32 x.seventh] := by
  obtain ⟨q1, y1, rfl, f1, g1⟩ := h
  cases f1
  obtain ⟨q2, y2, rfl, f2, g2⟩ := g1
  cases f2
  obtain ⟨q3, y3, rfl, f3, g3⟩ := g2
  cases f3
  obtain ⟨q4, y4, rfl, f4, g4⟩ := g3
  cases f4
  cases g4
  exact rfl
theorem rInstShape_mk {T : Nat → Prop} {w : World} {x : InstShape}   : rInstShape.rp T w [.string ⟨x.name.toArray⟩, .int .u8 x.form, .int .u32 x.code, .int .u32 x.third, .int .u32 x.seventh] x := ⟨_, _, rfl, rfl, ⟨_, _, rfl, rfl, ⟨_, _, rfl, rfl, ⟨_, _, rfl, rfl, rfl⟩⟩⟩⟩
def rGInst : Rp GInst := ((rPair (rInt .i64) (rPair (rInt .i64) (rPair (rInt .i64) (rPair (rInt .i64) (rInt .i64)))))).iso fun x => (x.Op, x.Rd, x.Rs1, x.Rs2, x.Imm)
theorem rGInst_open {T : Nat → Prop} {w : World} {cs : List Value} {x : GInst} (h : rGInst.rp T w cs x) : cs = [.int .i64 x.Op, .int .i64 x.Rd, .int .i64 x.Rs1, .int .i64 x.Rs2, .int .i64 x.Imm] := by
  obtain ⟨q1, y1, rfl, f1, g1⟩ := h
  cases f1
  obtain ⟨q2, y2, rfl, f2, g2⟩ := g1
  cases f2
  obtain ⟨q3, y3, rfl, f3, g3⟩ := g2
  cases f3
  obtain ⟨q4, y4, rfl, f4, g4⟩ := g3
  cases f4
  cases g4
  exact rfl
theorem rGInst_mk {T : Nat → Prop} {w : World} {x : GInst}   : rGInst.rp T w [.int .i64 x.Op, .int .i64 x.Rd, .int .i64 x.Rs1, .int .i64 x.Rs2, .int .i64 x.Imm] x := ⟨_, _, rfl, rfl, ⟨_, _, rfl, rfl, ⟨_, _, rfl, rfl, ⟨_, _, rfl, rfl, rfl⟩⟩⟩⟩
def rGImage : Rp GImage := ((rPair (rSl (rInt .u32)) (rPair (rSl (rInt .u8)) (rPair (rInt .i64) (rInt .i64))))).iso fun x => (x.Code, x.Data, x.Limit, x.Notes)
theorem rGImage_open {T : Nat → Prop} {w : World} {cs : List Value} {x : GImage} (h : rGImage.rp T w cs x) : ∃ (a0 : Option Addr) (c0 : Nat) (a1 : Option Addr) (c1 : Nat), cs = [.slice a0 (List.length x.Code) c0, .slice a1 (List.length x.Data) c1, .int .i64 x.Limit, .int .i64 x.Notes] ∧ SlR (rInt .u32) T w (.slice a0 (List.length x.Code) c0) x.Code ∧ SlR (rInt .u8) T w (.slice a1 (List.length x.Data) c1) x.Data := by
  obtain ⟨q1, y1, rfl, f1, g1⟩ := h
  obtain ⟨v2, rfl, s2⟩ := f1
  obtain ⟨b2, k2, rfl⟩ := s2.shape
  obtain ⟨q3, y3, rfl, f3, g3⟩ := g1
  obtain ⟨v4, rfl, s4⟩ := f3
  obtain ⟨b4, k4, rfl⟩ := s4.shape
  obtain ⟨q5, y5, rfl, f5, g5⟩ := g3
  cases f5
  cases g5
  exact ⟨b2, k2, b4, k4, rfl, s2, s4⟩
theorem rGImage_mk {T : Nat → Prop} {w : World} {x : GImage} {a0 : Option Addr} {c0 : Nat} {a1 : Option Addr} {c1 : Nat} (e0 : SlR (rInt .u32) T w (.slice a0 (List.length x.Code) c0) x.Code) (e1 : SlR (rInt .u8) T w (.slice a1 (List.length x.Data) c1) x.Data) : rGImage.rp T w [.slice a0 (List.length x.Code) c0, .slice a1 (List.length x.Data) c1, .int .i64 x.Limit, .int .i64 x.Notes] x := ⟨_, _, rfl, ⟨_, rfl, e0⟩, ⟨_, _, rfl, ⟨_, rfl, e1⟩, ⟨_, _, rfl, rfl, rfl⟩⟩⟩
def rBoundGraph : Rp BoundGraph := ((rPair (rSl rGInst) (rPair (rSl (rInt .i64)) (rSl (rInt .i64))))).iso fun x => (x.code, x.backs, x.marks)
theorem rBoundGraph_open {T : Nat → Prop} {w : World} {cs : List Value} {x : BoundGraph} (h : rBoundGraph.rp T w cs x) : ∃ (a0 : Option Addr) (c0 : Nat) (a1 : Option Addr) (c1 : Nat) (a2 : Option Addr) (c2 : Nat), cs = [.slice a0 (List.length x.code) c0, .slice a1 (List.length x.backs) c1, .slice a2 (List.length x.marks) c2] ∧ SlR rGInst T w (.slice a0 (List.length x.code) c0) x.code ∧ SlR (rInt .i64) T w (.slice a1 (List.length x.backs) c1) x.backs ∧ SlR (rInt .i64) T w (.slice a2 (List.length x.marks) c2) x.marks := by
  obtain ⟨q1, y1, rfl, f1, g1⟩ := h
  obtain ⟨v2, rfl, s2⟩ := f1
  obtain ⟨b2, k2, rfl⟩ := s2.shape
  obtain ⟨q3, y3, rfl, f3, g3⟩ := g1
  obtain ⟨v4, rfl, s4⟩ := f3
  obtain ⟨b4, k4, rfl⟩ := s4.shape
  obtain ⟨v5, rfl, s5⟩ := g3
  obtain ⟨b5, k5, rfl⟩ := s5.shape
  exact ⟨b2, k2, b4, k4, b5, k5, rfl, s2, s4, s5⟩
theorem rBoundGraph_mk {T : Nat → Prop} {w : World} {x : BoundGraph} {a0 : Option Addr} {c0 : Nat} {a1 : Option Addr} {c1 : Nat} {a2 : Option Addr} {c2 : Nat} (e0 : SlR rGInst T w (.slice a0 (List.length x.code) c0) x.code) (e1 : SlR (rInt .i64) T w (.slice a1 (List.length x.backs) c1) x.backs) (e2 : SlR (rInt .i64) T w (.slice a2 (List.length x.marks) c2) x.marks) : rBoundGraph.rp T w [.slice a0 (List.length x.code) c0, .slice a1 (List.length x.backs) c1, .slice a2 (List.length x.marks) c2] x := ⟨_, _, rfl, ⟨_, rfl, e0⟩, ⟨_, _, rfl, ⟨_, rfl, e1⟩, ⟨_, rfl, e2⟩⟩⟩
def rref30Code : Rp ref30Code := ((rPair (rSl rGInst) (rPair (rSl (rInt .i64)) (rSl (rInt .i64))))).iso fun x => (x.L, x.Backs, x.Marks)
theorem rref30Code_open {T : Nat → Prop} {w : World} {cs : List Value} {x : ref30Code} (h : rref30Code.rp T w cs x) : ∃ (a0 : Option Addr) (c0 : Nat) (a1 : Option Addr) (c1 : Nat) (a2 : Option Addr) (c2 : Nat), cs = [.slice a0 (List.length x.L) c0, .slice a1 (List.length x.Backs) c1, .slice a2 (List.length x.Marks) c2] ∧ SlR rGInst T w (.slice a0 (List.length x.L) c0) x.L ∧ SlR (rInt .i64) T w (.slice a1 (List.length x.Backs) c1) x.Backs ∧ SlR (rInt .i64) T w (.slice a2 (List.length x.Marks) c2) x.Marks := by
  obtain ⟨q1, y1, rfl, f1, g1⟩ := h
  obtain ⟨v2, rfl, s2⟩ := f1
  obtain ⟨b2, k2, rfl⟩ := s2.shape
  obtain ⟨q3, y3, rfl, f3, g3⟩ := g1
  obtain ⟨v4, rfl, s4⟩ := f3
  obtain ⟨b4, k4, rfl⟩ := s4.shape
  obtain ⟨v5, rfl, s5⟩ := g3
  obtain ⟨b5, k5, rfl⟩ := s5.shape
  exact ⟨b2, k2, b4, k4, b5, k5, rfl, s2, s4, s5⟩
theorem rref30Code_mk {T : Nat → Prop} {w : World} {x : ref30Code} {a0 : Option Addr} {c0 : Nat} {a1 : Option Addr} {c1 : Nat} {a2 : Option Addr} {c2 : Nat} (e0 : SlR rGInst T w (.slice a0 (List.length x.L) c0) x.L) (e1 : SlR (rInt .i64) T w (.slice a1 (List.length x.Backs) c1) x.Backs) (e2 : SlR (rInt .i64) T w (.slice a2 (List.length x.Marks) c2) x.Marks) : rref30Code.rp T w [.slice a0 (List.length x.L) c0, .slice a1 (List.length x.Backs) c1, .slice a2 (List.length x.Marks) c2] x := ⟨_, _, rfl, ⟨_, rfl, e0⟩, ⟨_, _, rfl, ⟨_, rfl, e1⟩, ⟨_, rfl, e2⟩⟩⟩
abbrev gBoundWalk (p : BoundWalk) (H1 H2 : List Value → Assn) (b1 : Nat) (o1 : Nat) (a1 : Option Addr) (c1 : Nat) (a2 : Option Addr) (c2 : Nat) (a3 : Option Addr) (c3 : Nat) (a4 : Option Addr) (n1 : Nat) (c4 : Nat) (a5 : Option Addr) (n2 : Nat) (c5 : Nat) : List Assn := [H1 [.pointer (some ⟨b1, o1, none⟩), .slice a4 n1 c4, .slice a5 n2 c5], H2 [.slice a1 (List.length p.x.code) c1, .slice a2 (List.length p.x.backs) c2, .slice a3 (List.length p.x.marks) c3], ownA (rInt .i64) 3 (.slice a4 n1 c4) p.state, ownA (rInt .i64) 3 (.slice a5 n2 c5) p.long]
def enInstShape' (x : InstShape) : List Value := [.string ⟨x.name.toArray⟩, .int .u8 x.form, .int .u32 x.code, .int .u32 x.third, .int .u32 x.seventh]
theorem enInstShape'_len : ∀ x, (enInstShape' x).length = 5 := fun _ => rfl
theorem enInstShape'_rp (T : Nat → Prop) (w : World) (x : InstShape) : rInstShape.rp T w (enInstShape' x) x := rInstShape_mk
theorem cf4 : CallOk Tryz.prog 4 := ⟨⟨_, Tryz.func4, by kernel_rfl, by kernel_rfl⟩⟩
theorem cf5 : CallOk Tryz.prog 5 := ⟨⟨_, Tryz.func5, by kernel_rfl, by kernel_rfl⟩⟩
theorem cf7 : CallOk Tryz.prog 7 := ⟨⟨_, Tryz.func7, by kernel_rfl, by kernel_rfl⟩⟩
theorem cf8 : CallOk Tryz.prog 8 := ⟨⟨_, Tryz.func8, by kernel_rfl, by kernel_rfl⟩⟩
theorem cf9 : CallOk Tryz.prog 9 := ⟨⟨_, Tryz.func9, by kernel_rfl, by kernel_rfl⟩⟩
theorem cf10 : CallOk Tryz.prog 10 := ⟨⟨_, Tryz.func10, by kernel_rfl, by kernel_rfl⟩⟩
theorem cf11 : CallOk Tryz.prog 11 := ⟨⟨_, Tryz.func11, by kernel_rfl, by kernel_rfl⟩⟩
theorem cf16 : CallOk Tryz.prog 16 := ⟨⟨_, Tryz.func16, by kernel_rfl, by kernel_rfl⟩⟩
theorem cf17 : CallOk Tryz.prog 17 := ⟨⟨_, Tryz.func17, by kernel_rfl, by kernel_rfl⟩⟩
theorem cf18 : CallOk Tryz.prog 18 := ⟨⟨_, Tryz.func18, by kernel_rfl, by kernel_rfl⟩⟩
theorem cf19 : CallOk Tryz.prog 19 := ⟨⟨_, Tryz.func19, by kernel_rfl, by kernel_rfl⟩⟩
theorem cf20 : CallOk Tryz.prog 20 := ⟨⟨_, Tryz.func20, by kernel_rfl, by kernel_rfl⟩⟩
theorem cf21 : CallOk Tryz.prog 21 := ⟨⟨_, Tryz.func21, by kernel_rfl, by kernel_rfl⟩⟩
theorem cf22 : CallOk Tryz.prog 22 := ⟨⟨_, Tryz.func22, by kernel_rfl, by kernel_rfl⟩⟩
theorem cf23 : CallOk Tryz.prog 23 := ⟨⟨_, Tryz.func23, by kernel_rfl, by kernel_rfl⟩⟩
theorem cf36 : CallOk Tryz.prog 36 := ⟨⟨_, Tryz.func36, by kernel_rfl, by kernel_rfl⟩⟩
theorem cf37 : CallOk Tryz.prog 37 := ⟨⟨_, Tryz.func37, by kernel_rfl, by kernel_rfl⟩⟩
theorem cf38 : CallOk Tryz.prog 38 := ⟨⟨_, Tryz.func38, by kernel_rfl, by kernel_rfl⟩⟩
theorem cf39 : CallOk Tryz.prog 39 := ⟨⟨_, Tryz.func39, by kernel_rfl, by kernel_rfl⟩⟩
theorem cf40 : CallOk Tryz.prog 40 := ⟨⟨_, Tryz.func40, by kernel_rfl, by kernel_rfl⟩⟩
theorem cf63 : CallOk Tryz.prog 63 := ⟨⟨_, Tryz.func63, by kernel_rfl, by kernel_rfl⟩⟩
theorem cf64 : CallOk Tryz.prog 64 := ⟨⟨_, Tryz.func64, by kernel_rfl, by kernel_rfl⟩⟩
theorem cf65 : CallOk Tryz.prog 65 := ⟨⟨_, Tryz.func65, by kernel_rfl, by kernel_rfl⟩⟩
theorem cf66 : CallOk Tryz.prog 66 := ⟨⟨_, Tryz.func66, by kernel_rfl, by kernel_rfl⟩⟩
theorem cf67 : CallOk Tryz.prog 67 := ⟨⟨_, Tryz.func67, by kernel_rfl, by kernel_rfl⟩⟩
theorem cf68 : CallOk Tryz.prog 68 := ⟨⟨_, Tryz.func68, by kernel_rfl, by kernel_rfl⟩⟩
theorem cf69 : CallOk Tryz.prog 69 := ⟨⟨_, Tryz.func69, by kernel_rfl, by kernel_rfl⟩⟩
theorem cf70 : CallOk Tryz.prog 70 := ⟨⟨_, Tryz.func70, by kernel_rfl, by kernel_rfl⟩⟩
theorem cf71 : CallOk Tryz.prog 71 := ⟨⟨_, Tryz.func71, by kernel_rfl, by kernel_rfl⟩⟩
theorem cf72 : CallOk Tryz.prog 72 := ⟨⟨_, Tryz.func72, by kernel_rfl, by kernel_rfl⟩⟩
theorem cf73 : CallOk Tryz.prog 73 := ⟨⟨_, Tryz.func73, by kernel_rfl, by kernel_rfl⟩⟩
theorem cf74 : CallOk Tryz.prog 74 := ⟨⟨_, Tryz.func74, by kernel_rfl, by kernel_rfl⟩⟩
theorem cf75 : CallOk Tryz.prog 75 := ⟨⟨_, Tryz.func75, by kernel_rfl, by kernel_rfl⟩⟩
theorem cf127 : CallOk Tryz.prog 127 := ⟨⟨_, Tryz.func127, by kernel_rfl, by kernel_rfl⟩⟩
theorem cf128 : CallOk Tryz.prog 128 := ⟨⟨_, Tryz.func128, by kernel_rfl, by kernel_rfl⟩⟩
theorem cf129 : CallOk Tryz.prog 129 := ⟨⟨_, Tryz.func129, by kernel_rfl, by kernel_rfl⟩⟩
theorem cf130 : CallOk Tryz.prog 130 := ⟨⟨_, Tryz.func130, by kernel_rfl, by kernel_rfl⟩⟩
theorem cf131 : CallOk Tryz.prog 131 := ⟨⟨_, Tryz.func131, by kernel_rfl, by kernel_rfl⟩⟩
theorem cf132 : CallOk Tryz.prog 132 := ⟨⟨_, Tryz.func132, by kernel_rfl, by kernel_rfl⟩⟩
theorem cf133 : CallOk Tryz.prog 133 := ⟨⟨_, Tryz.func133, by kernel_rfl, by kernel_rfl⟩⟩
theorem cf134 : CallOk Tryz.prog 134 := ⟨⟨_, Tryz.func134, by kernel_rfl, by kernel_rfl⟩⟩
theorem cf135 : CallOk Tryz.prog 135 := ⟨⟨_, Tryz.func135, by kernel_rfl, by kernel_rfl⟩⟩
theorem el3 : ElemOk Tryz.prog 3 1 := ⟨by kernel_rfl, by decide⟩
theorem el4 : ElemOk Tryz.prog 4 1 := ⟨by kernel_rfl, by decide⟩
theorem el102 : ElemOk Tryz.prog 102 1 := ⟨by kernel_rfl, by decide⟩
theorem el104 : ElemOk Tryz.prog 104 5 := ⟨by kernel_rfl, by decide⟩
theorem el111 : ElemOk Tryz.prog 111 5 := ⟨by kernel_rfl, by decide⟩
theorem mix : Tryz.prog.follows .mixedOrders = true := by kernel_rfl
attribute [local irreducible] wpSer wpTr execOp Program.underlying sizeOf isAgg zeroValue
/-! Steps that find by themselves what they need. -/
theorem tyU {t : TypeId} {d : TypeDesc} (h : Tryz.prog.underlying t = some d := by first | exact Tryz.underlying57 | exact Tryz.underlying111 | exact Tryz.underlying22 | exact Tryz.underlying67 | exact Tryz.underlying104 | exact Tryz.underlying59 | exact Tryz.underlying71 | exact Tryz.underlying65 | exact Tryz.underlying102 | exact Tryz.underlying63 | exact Tryz.underlying21 | exact Tryz.underlying3 | exact Tryz.underlying56 | exact Tryz.underlying178 | exact Tryz.underlying27 | exact Tryz.underlying179) : Tryz.prog.underlying t = some d := h
theorem tyS {t : TypeId} {z : Nat} (h : ∀ w, (sizeOf t).run Tryz.prog w = .ok z w := by first | exact Tryz.sizeOf3 | exact Tryz.sizeOf67 | exact Tryz.sizeOf102 | exact Tryz.sizeOf57 | exact Tryz.sizeOf104 | exact Tryz.sizeOf111 | exact Tryz.sizeOf4 | exact Tryz.sizeOf178 | exact Tryz.sizeOf65 | exact Tryz.sizeOf27 | exact Tryz.sizeOf56 | exact Tryz.sizeOf5 | exact Tryz.sizeOf179 | exact Tryz.sizeOf22 | exact Tryz.sizeOf53) : ∀ w, (sizeOf t).run Tryz.prog w = .ok z w := h
theorem tyA {t : TypeId} {z : Bool} (h : ∀ w, (isAgg t).run Tryz.prog w = .ok z w := by first | exact Tryz.isAgg3 | exact Tryz.isAgg67 | exact Tryz.isAgg57 | exact Tryz.isAgg102 | exact Tryz.isAgg104 | exact Tryz.isAgg111 | exact Tryz.isAgg4 | exact Tryz.isAgg27 | exact Tryz.isAgg61 | exact Tryz.isAgg178 | exact Tryz.isAgg56 | exact Tryz.isAgg65 | exact Tryz.isAgg5 | exact Tryz.isAgg53 | exact Tryz.isAgg22 | exact Tryz.isAgg179) : ∀ w, (isAgg t).run Tryz.prog w = .ok z w := h
theorem tyZ {t : TypeId} {z : Value} (h : ∀ w, (zeroValue t).run Tryz.prog w = .ok z w := by first | exact Tryz.zeroValue3 | exact Tryz.zeroValue104 | exact Tryz.zeroValue111 | exact Tryz.zeroValue4 | exact Tryz.zeroValue67 | exact Tryz.zeroValue179 | exact Tryz.zeroValue178 | exact Tryz.zeroValue57) : ∀ w, (zeroValue t).run Tryz.prog w = .ok z w := h
theorem opnS {α : Type} {r : Rp α} {T : Nat → Prop} {w : World} {u : α} {cs : List Value} (h : ∀ c0, r.rp T w c0 u → c0 = cs := by first | exact fun _ h => h | exact fun _ h => rInstShape_open h | exact fun _ h => rGInst_open h) : ∀ c0, r.rp T w c0 u → c0 = cs := h
theorem opv {P : Program} {n : NF} {J : Nat → Value} {L : List (Nat × Value)} {w : World} {o : Oper} {v : Value} (h : (execOp (ev n J L) o).run P w = .ok (.value v) w := by
  first | ((with_reducible apply r_mx); first | exact (rfl : _ = Value.int _ _) | exact (rfl : _ = Value.bool _) | exact (rfl : _ = Value.slice _ _ _) | exact (rfl : _ = Value.pointer _) | exact (rfl : _ = Value.string _) | exact (rfl : _ = Value.agg _) | exact (rfl : _ = Value.func _ _ _) | exact (rfl : _ = Value.tuple _) | exact (rfl : _ = Value.map _)) | ((with_reducible apply r_zx); first | exact (rfl : _ = Value.int _ _) | exact (rfl : _ = Value.bool _) | exact (rfl : _ = Value.slice _ _ _) | exact (rfl : _ = Value.pointer _) | exact (rfl : _ = Value.string _) | exact (rfl : _ = Value.agg _) | exact (rfl : _ = Value.func _ _ _) | exact (rfl : _ = Value.tuple _) | exact (rfl : _ = Value.map _)) | ((with_reducible apply r_ib); (exact rfl); (exact rfl); (exact rfl)) | ((with_reducible apply r_faP); (exact rfl); (exact tyU); (exact rfl); (exact tyS); (exact rfl)) | ((with_reducible apply r_fa); (exact rfl); (exact tyU); (exact rfl); (exact tyS); (exact rfl)) | ((with_reducible apply r_ld); (exact rfl); (exact tyA); (first | exact Sep.cell0 (by assumption) atS (by exact rfl) | exact cellsAt.get (by assumption) (by exact rfl) | exact cellsAt.get0 (by assumption) (by exact rfl) | exact elG slvS (by assumption) (by exact rfl) opnS (by exact rfl) | exact elG0 slvS (by assumption) (by exact rfl) opnS (by exact rfl) | exact Sep.cellL (by assumption) (by assumption) atS (by exact rfl) | exact Sep.cellL0 (by assumption) (by assumption) atS (by exact rfl) | exact cellsAt.get (cellsAt.sameT (by assumption) (by assumption) ch) (by exact rfl) | exact cellsAt.get0 (cellsAt.sameT (by assumption) (by assumption) ch) (by exact rfl))) | ((with_reducible apply r_pkf); (exact rfl); (first | assumption | exact rfl); (exact rfl)) | ((with_reducible apply r_pkt); (exact rfl); (first | assumption | exact rfl); (exact rfl)) | ((with_reducible apply r_ex0); (exact rfl)) | ((with_reducible apply r_ex1); (exact rfl)) | ((with_reducible apply r_ex2); (exact rfl)) | ((with_reducible apply r_ex3); (exact rfl)) | ((with_reducible apply r_ixc); (exact rfl); (exact rfl); (exact tyU); (exact tyS); (exact slvS); (exact rfl); (assumption)) | ((with_reducible apply r_ixf); (assumption); (exact rfl); (exact tyU); (exact tyS); (assumption); (assumption); (assumption)) | ((with_reducible apply r_ldE); (exact rfl); (exact tyA); (exact tyS); (first | assumption | exact Sep.cellsA (by assumption) atS | exact elS slvS (by assumption) (by exact rfl) opnS | exact Sep.cellsP (by assumption) (by assumption) atS | exact cellsAt.sameT (by assumption) (by assumption) ch); (exact rfl)) | ((with_reducible apply r_ldP); (exact rfl); (exact tyA); (exact tyS); (assumption); (exact atS); (first | exact (rfl : _ = [_]) | exact (rfl : _ = [_, _]) | exact (rfl : _ = [_, _, _]) | exact (rfl : _ = [_, _, _, _]) | exact (rfl : _ = [_, _, _, _, _]) | exact (rfl : _ = [_, _, _, _, _, _]) | exact (rfl : _ = [_, _, _, _, _, _, _]) | exact (rfl : _ = [_, _, _, _, _, _, _, _]) | exact (rfl : _ = [_, _, _, _, _, _, _, _, _]) | exact (rfl : _ = [_, _, _, _, _, _, _, _, _, _]) | exact (rfl : _ = [_, _, _, _, _, _, _, _, _, _, _]) | exact (rfl : _ = [_, _, _, _, _, _, _, _, _, _, _, _]) | exact (rfl : _ = [_, _, _, _, _, _, _, _, _, _, _, _, _]) | exact (rfl : _ = [_, _, _, _, _, _, _, _, _, _, _, _, _, _]) | exact (rfl : _ = [_, _, _, _, _, _, _, _, _, _, _, _, _, _, _])); (exact rfl)) | ((with_reducible apply r_cv); (exact rfl); (exact tyU); (exact tyU)) | ((with_reducible apply r_lnt); (exact rfl); (exact tyU)) | ((with_reducible apply r_lnW); (exact rfl); (exact tyU); (exact slvS)) | ((with_reducible apply r_ln); (exact rfl); (exact tyU)) | ((with_reducible apply r_sqL); (exact rfl); (exact rfl)) | ((with_reducible apply r_snL); (exact rfl); (exact rfl)) | ((with_reducible apply r_nt); (exact rfl)) | ((with_reducible apply r_nc); (exact rfl)) | ((with_reducible apply r_ng); (exact rfl)) | ((with_reducible apply r_cm); (exact rfl)) | ((with_reducible apply r_ishl); (exact rfl); (exact rfl); (decide)) | ((with_reducible apply r_ishr); (exact rfl); (exact rfl); (decide)) | ((with_reducible apply r_irm); (exact rfl); (exact rfl); (decide)) | ((with_reducible apply r_iq); (exact rfl); (exact rfl); (decide))) : (execOp (ev n J L) o).run P w = .ok (.value v) w := h
theorem opq {P : Program} {n : NF} {J : Nat → Value} {L : List (Nat × Value)} {w : World} {o : Oper} {v : Value} (h : (execOp (ev n J L) o).run P w = .ok (.value v) w := by
  first | ((with_reducible apply r_mx); first | exact (rfl : _ = Value.int _ _) | exact (rfl : _ = Value.bool _) | exact (rfl : _ = Value.slice _ _ _) | exact (rfl : _ = Value.pointer _) | exact (rfl : _ = Value.string _) | exact (rfl : _ = Value.agg _) | exact (rfl : _ = Value.func _ _ _) | exact (rfl : _ = Value.tuple _) | exact (rfl : _ = Value.map _)) | ((with_reducible apply r_zx); first | exact (rfl : _ = Value.int _ _) | exact (rfl : _ = Value.bool _) | exact (rfl : _ = Value.slice _ _ _) | exact (rfl : _ = Value.pointer _) | exact (rfl : _ = Value.string _) | exact (rfl : _ = Value.agg _) | exact (rfl : _ = Value.func _ _ _) | exact (rfl : _ = Value.tuple _) | exact (rfl : _ = Value.map _)) | ((with_reducible apply r_ib); (exact rfl); (exact rfl); (exact rfl)) | ((with_reducible apply r_faP); (exact rfl); (exact tyU); (exact rfl); (exact tyS); (exact rfl)) | ((with_reducible apply r_fa); (exact rfl); (exact tyU); (exact rfl); (exact tyS); (exact rfl)) | ((with_reducible apply r_ld); (exact rfl); (exact tyA); (apply QC.cell; assumption; (first | exact Sep.cell0 (by assumption) atS (by exact rfl) | exact cellsAt.get (by assumption) (by exact rfl) | exact cellsAt.get0 (by assumption) (by exact rfl) | exact elG slvS (by assumption) (by exact rfl) opnS (by exact rfl) | exact elG0 slvS (by assumption) (by exact rfl) opnS (by exact rfl) | exact Sep.cellL (by assumption) (by assumption) atS (by exact rfl) | exact Sep.cellL0 (by assumption) (by assumption) atS (by exact rfl) | exact cellsAt.get (cellsAt.sameT (by assumption) (by assumption) ch) (by exact rfl) | exact cellsAt.get0 (cellsAt.sameT (by assumption) (by assumption) ch) (by exact rfl)))) | ((with_reducible apply r_pkf); (exact rfl); (first | assumption | exact rfl); (exact rfl)) | ((with_reducible apply r_pkt); (exact rfl); (first | assumption | exact rfl); (exact rfl)) | ((with_reducible apply r_ex0); (exact rfl)) | ((with_reducible apply r_ex1); (exact rfl)) | ((with_reducible apply r_ex2); (exact rfl)) | ((with_reducible apply r_ex3); (exact rfl)) | ((with_reducible apply r_ixc); (exact rfl); (exact rfl); (exact tyU); (exact tyS); (exact slvS); (exact rfl); (assumption)) | ((with_reducible apply r_ixf); (assumption); (exact rfl); (exact tyU); (exact tyS); (assumption); (assumption); (assumption)) | ((with_reducible apply r_ldE); (exact rfl); (exact tyA); (exact tyS); (apply QC.cellsAt; assumption; (first | assumption | exact Sep.cellsA (by assumption) atS | exact elS slvS (by assumption) (by exact rfl) opnS | exact Sep.cellsP (by assumption) (by assumption) atS | exact cellsAt.sameT (by assumption) (by assumption) ch)); (exact rfl)) | ((with_reducible apply r_ldP); (exact rfl); (exact tyA); (exact tyS); (assumption); (exact atS); (first | exact (rfl : _ = [_]) | exact (rfl : _ = [_, _]) | exact (rfl : _ = [_, _, _]) | exact (rfl : _ = [_, _, _, _]) | exact (rfl : _ = [_, _, _, _, _]) | exact (rfl : _ = [_, _, _, _, _, _]) | exact (rfl : _ = [_, _, _, _, _, _, _]) | exact (rfl : _ = [_, _, _, _, _, _, _, _]) | exact (rfl : _ = [_, _, _, _, _, _, _, _, _]) | exact (rfl : _ = [_, _, _, _, _, _, _, _, _, _]) | exact (rfl : _ = [_, _, _, _, _, _, _, _, _, _, _]) | exact (rfl : _ = [_, _, _, _, _, _, _, _, _, _, _, _]) | exact (rfl : _ = [_, _, _, _, _, _, _, _, _, _, _, _, _]) | exact (rfl : _ = [_, _, _, _, _, _, _, _, _, _, _, _, _, _]) | exact (rfl : _ = [_, _, _, _, _, _, _, _, _, _, _, _, _, _, _])); (exact rfl)) | ((with_reducible apply r_cv); (exact rfl); (exact tyU); (exact tyU)) | ((with_reducible apply r_lnt); (exact rfl); (exact tyU)) | ((with_reducible apply r_lnW); (exact rfl); (exact tyU); (exact slvS)) | ((with_reducible apply r_ln); (exact rfl); (exact tyU)) | ((with_reducible apply r_sqL); (exact rfl); (exact rfl)) | ((with_reducible apply r_snL); (exact rfl); (exact rfl)) | ((with_reducible apply r_nt); (exact rfl)) | ((with_reducible apply r_nc); (exact rfl)) | ((with_reducible apply r_ng); (exact rfl)) | ((with_reducible apply r_cm); (exact rfl)) | ((with_reducible apply r_ishl); (exact rfl); (exact rfl); (decide)) | ((with_reducible apply r_ishr); (exact rfl); (exact rfl); (decide)) | ((with_reducible apply r_irm); (exact rfl); (exact rfl); (decide)) | ((with_reducible apply r_iq); (exact rfl); (exact rfl); (decide))) : (execOp (ev n J L) o).run P w = .ok (.value v) w := h
theorem gwS {l : List Oper} {n : NF} {J : Nat → Value} {L : List (Nat × Value)} {gd : Option (Nat × Bool)} (h : Wt l n J L gd := by first | exact trivial | exact ⟨_, rfl, congrArg Value.bool (by assumption)⟩ | exact ⟨_, rfl, rfl⟩) : Wt l n J L gd := h
theorem gUS {l : List Oper} {n : NF} {J : Nat → Value} {L : List (Nat × Value)} {gd : Option (Nat × Bool)} (h : Wf l n J L gd := by first | exact gI rfl rfl (by assumption) | exact gI rfl rfl rfl | exact ⟨_, rfl, .inr rfl⟩) : Wf l n J L gd := h
theorem stS {P : Program} {l : List Oper} {n : NF} {J : Nat → Value} {L : List (Nat × Value)} {w : World} {pd : List (Nat × Value)} (h : Still P l pd (env n J L) w := by repeat (first | exact st0 | refine st1 rfl opv ?_)) : Still P l pd (env n J L) w := h
theorem pu {A B : Prop} (k : B) (h : Kp B → A := by
  intro k
  repeat (first | with_reducible refine rg ?_ | ((with_reducible apply pv); (exact opv)) | ((with_reducible apply gT); (exact rfl); (exact rfl); (first | assumption | exact rfl)) | ((with_reducible apply gF); (exact rfl); (exact rfl); (first | assumption | exact rfl)) | ((with_reducible apply gU); (exact rfl); (exact rfl)) | ((with_reducible apply s0a); (exact rfl); (exact rfl); (exact gwS); (intro _; exact opv)) | ((with_reducible apply sUa); (exact rfl); (exact gUS)) | ((with_reducible apply s1a); (exact rfl); (exact rfl); (exact gwS); (exact opv)) | ((with_reducible apply And.intro); (exact stS)) | ((with_reducible apply qv); (intro _ _; exact opq)) | ((with_reducible apply qgT); (exact rfl); (exact rfl); (first | assumption | exact rfl)) | ((with_reducible apply qgF); (exact rfl); (exact rfl); (first | assumption | exact rfl)) | ((with_reducible apply qgU); (exact rfl); (exact rfl)) | ((with_reducible apply t0a); (exact rfl); (exact rfl); (exact rfl); (exact gwS); (intro _; exact opv)) | ((with_reducible apply tUa); (exact rfl); (exact rfl); (exact gUS); (kernel_rfl)) | ((with_reducible apply t1a); (exact rfl); (exact rfl); (exact rfl); (exact gwS); (exact opv)))
  exact k.out) : A := h ⟨k⟩
theorem pn {A B : Prop} (k : B) (h : Kp B → A := by
  intro k
  repeat (first | with_reducible refine rg ?_ | ((with_reducible apply pv); (exact opv)) | ((with_reducible apply gT); (exact rfl); (exact rfl); (first | assumption | exact rfl)) | ((with_reducible apply gF); (exact rfl); (exact rfl); (first | assumption | exact rfl)) | ((with_reducible apply gU); (exact rfl); (exact rfl)) | ((with_reducible apply s0a); (exact rfl); (exact rfl); (exact gwS); (intro _; exact opv)) | ((with_reducible apply sUa); (exact rfl); (exact gUS)) | ((with_reducible apply s1a); (exact rfl); (exact rfl); (exact gwS); (exact opv)) | ((with_reducible apply And.intro); (exact stS)) | ((with_reducible apply qv); (intro _ _; exact opq)) | ((with_reducible apply qgT); (exact rfl); (exact rfl); (first | assumption | exact rfl)) | ((with_reducible apply qgF); (exact rfl); (exact rfl); (first | assumption | exact rfl)) | ((with_reducible apply qgU); (exact rfl); (exact rfl)) | ((with_reducible apply t0a); (exact rfl); (exact rfl); (exact rfl); (exact gwS); (intro _; exact opv)) | ((with_reducible apply tUa); (exact rfl); (exact rfl); (exact gUS); (kernel_rfl)) | ((with_reducible apply t1a); (exact rfl); (exact rfl); (exact rfl); (exact gwS); (exact opv)) | with_reducible refine nil ?_ | with_reducible refine t_then ?_ | with_reducible refine t_blk ?_ | with_reducible refine se ?_ | with_reducible refine te ?_ | with_reducible refine qn ?_ | with_reducible refine skp ?_ | with_reducible refine xt ?_ | with_reducible refine x_then ?_ | with_reducible refine x_eq ?_ | with_reducible refine x_ne (by decide) ?_ | with_reducible refine rtn ?_ | with_reducible refine r_then ?_ | with_reducible refine r_blk ?_)
  exact k.out) : A := h ⟨k⟩
theorem cd {A B1 B2 : Prop} {α : Type} {b : Bool} {X Y Z : α} (hm : (bif b then X else Y) = Z) (h1 : B1) (h2 : B2) (h : (bif b then X else Y) = Z → Kp B1 → Kp B2 → A := by
  intro hm k1 k2
  refine pn ?_
  exact cndH rfl hm k1.out k2.out) : A := h hm ⟨h1⟩ ⟨h2⟩
theorem t1W {A B : Prop} (js R ks : List Nat) (k : B) (h : KN js → KN R → KN ks → Kp B → A := by
  intro a b c k
  refine pu ?_
  refine twK a rfl (wt_of rfl rfl gwS) rfl (by kernel_rfl) (by kernel_rfl) ⟨?_, trivial⟩
  refine brK b c rfl (by kernel_rfl) (by kernel_rfl) gwS (by kernel_rfl) ?_
  exact k.out) : A := h ⟨trivial⟩ ⟨trivial⟩ ⟨trivial⟩ ⟨k⟩
theorem tF {A B : Prop} (js : List Nat) (k : B) (h : KN js → Kp B → A := by
  intro a k
  refine pu ?_
  refine twK a rfl (wt_of rfl rfl gwS) rfl (by kernel_rfl) (by kernel_rfl) ?_
  exact k.out) : A := h ⟨trivial⟩ ⟨k⟩
theorem brW {A B : Prop} (R ks : List Nat) (k : B) (h : KN R → KN ks → Kp B → A := by
  intro b c k
  refine brK b c rfl (by kernel_rfl) (by kernel_rfl) gwS (by kernel_rfl) ?_
  exact k.out) : A := h ⟨trivial⟩ ⟨trivial⟩ ⟨k⟩
theorem s2W {A B : Prop} (ks : List Nat) (k : B) (h : KN ks → Kp B → A := by
  intro c k
  refine pu ?_
  refine s2K c rfl gwS rfl (by kernel_rfl) ?_
  exact k.out) : A := h ⟨trivial⟩ ⟨k⟩
theorem je {A F : Prop} {g : World} {T : Nat → Prop} {w : World} {G : List Assn} (hm : F) (S : Sep g T w G) (h : F → Kp (Sep g T w G) → A := by
  intro hm S
  refine pn ?_
  repeat' (first | with_reducible apply Exists.intro | with_reducible apply And.intro | exact hm | exact envS | exact S.out | exact ch | exact trivial | assumption | exact monoS (by assumption) ch | exact SlR_nil)) : A := h hm ⟨S⟩
theorem lg {A N : Prop} {α : Type} {x z : α} {g : World} {T : Nat → Prop} {w : World} {G : List Assn} (hm : some x = some z) (hn : N) (S : Sep g T w G) (h : some x = some z → N → Kp (Sep g T w G) → A := by
  intro hm hn S
  cases oI hm
  refine pn ?_
  refine ⟨_, Nat.lt_succ_self _, ?_⟩
  repeat' (first | with_reducible apply Exists.intro | with_reducible apply And.intro | exact hn | exact envS | exact S.out | exact ch | exact trivial | assumption | exact monoS (by assumption) ch | exact SlR_nil)) : A := h hm hn ⟨S⟩
theorem rvsS {n : NF} {J : Nat → Value} {L : List (Nat × Value)} {w : World} {rs : List ResultVar} {vs : List Value} (h : RVs Tryz.prog n J L w rs vs := by repeat (first | exact rv0 | (apply rvT; (exact rfl)) | (apply rvC; (exact rfl); (exact tyA); (exact Sep.bx (by assumption) atS)) | (apply rvG; (exact rfl); (exact tyA); (exact tyS); (exact Sep.bx (by assumption) atS); (exact rfl)))) : RVs Tryz.prog n J L w rs vs := h
theorem re {A : Prop} {α : Type} {x z : α} {g : World} {T : Nat → Prop} {w : World} {G : List Assn} (hm : some x = some z) (S : Sep g T w G) (h : some x = some z → Kp (Sep g T w G) → A := by
  intro hm S
  cases oI hm
  refine pn ?_
  first | refine ret1 rfl rfl ?_ | refine ret0 rfl ?_ | refine ret2 rfl rfl rfl ?_ | (apply retN; (exact rfl); (exact rvsS); (exact rfl))
  refine rsm S.out ch ?_
  repeat' (first | with_reducible apply Exists.intro | with_reducible apply And.intro | exact rfl | exact S.out.unb | exact trivial | assumption | exact monoS (by assumption) ch | exact SlR_nil)) : A := h hm ⟨S⟩
theorem sS {A B H1 H2 : Prop} (l : List (Nat × Value)) (a : H1) (b : H2) (k : B) (h : Kl l → H1 → H2 → Kp B → A := by
  intro l a b k
  refine pu ?_
  refine s2k l rfl gwS rfl (by kernel_rfl) ?_
  exact calS a rfl b rfl k.out) : A := h ⟨trivial⟩ a b ⟨k⟩
theorem sN {A B H1 H2 : Prop} (l : List (Nat × Value)) (a : H1) (b : H2) (k : B) (h : Kl l → H1 → H2 → Kp B → A := by
  intro l a b k
  refine pu ?_
  refine s2k l rfl gwS rfl (by kernel_rfl) ?_
  exact calN a rfl b rfl k.out) : A := h ⟨trivial⟩ a b ⟨k⟩
theorem osT {A B : Prop} (q : Nat) {g : World} {T : Nat → Prop} {w : World} {G : List Assn} (hS : Sep g T w G) (k : B) (h : Kq q → Sep g T w G → Kp B → A := by
  intro q hS k
  exact ost q hS tyS k.out) : A := h ⟨trivial⟩ hS ⟨k⟩
theorem oaL {A B : Prop} (zs : List Value) {g : World} {T : Nat → Prop} {w : World} {G : List Assn} (hS : Sep g T w G) (k : B) (h : Kv zs → Sep g T w G → Kp B → A := by
  intro zs hS k
  exact oal zs hS tyZ k.out) : A := h ⟨trivial⟩ hS ⟨k⟩
theorem obX {A B : Prop} (cs : List Value) {g : World} {T : Nat → Prop} {w : World} {G : List Assn} (hS : Sep g T w G) (k : B) (h : Kv cs → Sep g T w G → Kp B → A := by
  intro cs hS k
  exact obx cs hS k.out) : A := h ⟨trivial⟩ hS ⟨k⟩
theorem obS {A B : Prop} {g : World} {T : Nat → Prop} {w : World} {G : List Assn} {α : Type} {r : Rp α} {l : List α} {css : List (List Value)} (hS : Sep g T w G) (a : AllR r T w css l) (k : B) (h : Sep g T w G → AllR r T w css l → Kp B → A := by
  intro hS a k
  exact obs hS a tyU tyS tyZ k.out) : A := h hS a ⟨k⟩
theorem oS {A B H1 H2 : Prop} (a : H1) (b : H2) (k : B) (h : H1 → H2 → Kp B → A := by
  intro a b k
  exact calS a rfl b rfl k.out) : A := h a b ⟨k⟩
theorem oN {A B H1 H2 : Prop} (a : H1) (b : H2) (k : B) (h : H1 → H2 → Kp B → A := by
  intro a b k
  exact calN a rfl b rfl k.out) : A := h a b ⟨k⟩
theorem oP {A B H1 H2 : Prop} (a : H1) (b : H2) (k : B) (h : H1 → H2 → Kp B → A := by
  intro a b k
  exact calP a rfl b rfl k.out) : A := h a b ⟨k⟩
theorem sT {A B : Prop} (q : Nat) {g : World} {T : Nat → Prop} {w : World} {G : List Assn} (hS : Sep g T w G) (k : B) (h : Kq q → Sep g T w G → Kp B → A := by
  intro q hS k
  refine pu ?_
  exact wst q hS tyS k.out) : A := h ⟨trivial⟩ hS ⟨k⟩
theorem aL {A B : Prop} (zs : List Value) {g : World} {T : Nat → Prop} {w : World} {G : List Assn} (hS : Sep g T w G) (k : B) (h : Kv zs → Sep g T w G → Kp B → A := by
  intro zs hS k
  refine pu ?_
  exact wal zs hS tyZ k.out) : A := h ⟨trivial⟩ hS ⟨k⟩
theorem bX {A B : Prop} (cs : List Value) {g : World} {T : Nat → Prop} {w : World} {G : List Assn} (hS : Sep g T w G) (k : B) (h : Kv cs → Sep g T w G → Kp B → A := by
  intro cs hS k
  refine pu ?_
  exact wbx cs hS k.out) : A := h ⟨trivial⟩ hS ⟨k⟩
theorem bS {A B : Prop} {g : World} {T : Nat → Prop} {w : World} {G : List Assn} {α : Type} {r : Rp α} {l : List α} {css : List (List Value)} (hS : Sep g T w G) (a : AllR r T w css l) (k : B) (h : Sep g T w G → AllR r T w css l → Kp B → A := by
  intro hS a k
  refine pu ?_
  exact wbs hS a tyU tyS tyZ k.out) : A := h hS a ⟨k⟩
theorem tyE {e z : Nat} (h : ElemOk Tryz.prog e z := by first | exact el104 | exact el3 | exact el111 | exact el4) : ElemOk Tryz.prog e z := h
theorem oaO {A B : Prop} (q : Nat) {g : World} {T : Nat → Prop} {w : World} {G : List Assn} {m : Nat} (hS : Sep g T w G) (a : m ≤ 8589934592) (k : B) (h : Kq q → Sep g T w G → m ≤ 8589934592 → Kp B → A := by
  intro q hS a k
  exact oao q hS slvS tyU tyE a k.out) : A := h ⟨trivial⟩ hS a ⟨k⟩
theorem aO {A B : Prop} (q : Nat) {g : World} {T : Nat → Prop} {w : World} {G : List Assn} {m : Nat} (hS : Sep g T w G) (a : m ≤ 8589934592) (k : B) (h : Kq q → Sep g T w G → m ≤ 8589934592 → Kp B → A := by
  intro q hS a k
  refine pu ?_
  exact wao q hS slvS tyU tyE a k.out) : A := h ⟨trivial⟩ hS a ⟨k⟩
theorem cS {A B H1 H2 : Prop} (a : H1) (b : H2) (k : B) (h : H1 → H2 → Kp B → A := by
  intro a b k
  refine pu ?_
  exact wcS a b k.out) : A := h a b ⟨k⟩
theorem cN {A B H1 H2 : Prop} (a : H1) (b : H2) (k : B) (h : H1 → H2 → Kp B → A := by
  intro a b k
  refine pu ?_
  exact wcN a b k.out) : A := h a b ⟨k⟩
theorem cB {A B H1 H2 H3 : Prop} (a : H1) (hm : H2) (c : H3) (k : B) (h : H1 → H2 → H3 → Kp B → A := by
  intro a hm c k
  refine pu ?_
  exact wcB a hm c k.out) : A := h a hm c ⟨k⟩
theorem cBN {A B H1 H2 H3 : Prop} (a : H1) (hm : H2) (c : H3) (k : B) (h : H1 → H2 → H3 → Kp B → A := by
  intro a hm c k
  refine pu ?_
  exact wcBN a hm c k.out) : A := h a hm c ⟨k⟩
theorem cP {A B B2 H1 H2 H3 : Prop} (a : H1) (hm : H2) (c : H3) (k : B) (k2 : B2) (h : H1 → H2 → H3 → Kp B → Kp B2 → A := by
  intro a hm c k k2
  refine pu ?_
  exact wcP a hm c k.out k2.out) : A := h a hm c ⟨k⟩ ⟨k2⟩
theorem cPN {A B B2 H1 H2 H3 : Prop} (a : H1) (hm : H2) (c : H3) (k : B) (k2 : B2) (h : H1 → H2 → H3 → Kp B → Kp B2 → A := by
  intro a hm c k k2
  refine pu ?_
  exact wcPN a hm c k.out k2.out) : A := h a hm c ⟨k⟩ ⟨k2⟩
theorem pe {A : Prop} {α : Type} {x z : α} {g : World} {T : Nat → Prop} {w : World} {G : List Assn} (hm : some x = some z) (S : Sep g T w G) (h : some x = some z → Kp (Sep g T w G) → A := by
  intro hm S
  cases oI hm
  refine pn ?_
  repeat (first | with_reducible refine p_then ?_ | with_reducible refine p_blk ?_)
  first | refine panED ?_ | refine panE ?_ | refine endO rfl ?_ | refine endR rfl ?_
  refine psm S.out ch ?_
  repeat' (first | with_reducible apply Exists.intro | with_reducible apply And.intro | exact rfl | exact S.out.unb | exact trivial | assumption | exact monoS (by assumption) ch | exact SlR_nil)) : A := h hm ⟨S⟩
theorem eo {A : Prop} {α : Type} {x z : α} {g : World} {T : Nat → Prop} {w : World} {G : List Assn} (hm : some x = some z) (S : Sep g T w G) (h : some x = some z → Kp (Sep g T w G) → A := by
  intro hm S
  cases oI hm
  refine pn ?_
  repeat (first | with_reducible refine p_then ?_ | with_reducible refine p_blk ?_)
  first | refine endO rfl ?_ | refine endR rfl ?_
  refine eoR (resN rfl rvsS rfl) ?_
  refine rsm S.out ch ?_
  repeat' (first | with_reducible apply Exists.intro | with_reducible apply And.intro | exact rfl | exact S.out.unb | exact trivial | assumption | exact monoS (by assumption) ch | exact SlR_nil)) : A := h hm ⟨S⟩
theorem rqS {l : List Oper} {Q : Exit → Act → World → Prop} {T : Nat → Prop} {w : World} {G : List Assn} {a : Act} {id : Nat} (hS : Sep g T w G) (h : wpQuiet Tryz.prog l.toArray (QC T w) (fun a1 => ∀ w1 T1, Im T w T1 w1 → Sep g T1 w1 G → Q .normal a1 w1) l a) (hB : Region.lexB .any l.toArray = true := by kernel_rfl) : (Code.region id l.toArray true).wp Tryz.prog Q a w :=
  rq mix hB hS.lt (quiet_mono (fun a1 h w1 T1 i => h w1 T1 i.imm (hS.keep i fun _ h => h)) h)
theorem rsS {l : List Oper} {Q : Exit → Act → World → Prop} {g : World} {T : Nat → Prop} {w : World} {G : List Assn} {n : NF} {J : Nat → Value} {L : List (Nat × Value)} {id : Nat} (fl ord : List Nat) (hS : Sep g T w G) (k : ∀ w1, Im T w T w1 → Sep g T w1 G → wpSer Tryz.prog l fl (NoPanic Q) [] ord (env n J L) w1) (hB : serB l fl ord = true := by kernel_rfl) : (Code.region id l.toArray true).wp Tryz.prog Q (env n J L) w :=
  rs fl ord mix hB hS.lt fun w1 i => k w1 i.imm (hS.keep i fun _ h => h)
theorem rtS {l : List Oper} {Q : Exit → Act → World → Prop} {g : World} {T : Nat → Prop} {w : World} {G : List Assn} {n : NF} {J : Nat → Value} {L : List (Nat × Value)} {id : Nat} (fl ord : List Nat) (hS : Sep g T w G) (k : ∀ w1, Im T w T w1 → Sep g T w1 G → wpTr Tryz.prog l fl (NoPanic Q) ord.length [] ord (env n J L) w1) (hB : trB l fl ord = true := by kernel_rfl) : (Code.region id l.toArray true).wp Tryz.prog Q (env n J L) w :=
  rt fl ord mix hB hS.lt fun w1 i => k w1 i.imm (hS.keep i fun _ h => h)
abbrev cInstShape (x : InstShape)  : List Value := [.string ⟨x.name.toArray⟩, .int .u8 x.form, .int .u32 x.code, .int .u32 x.third, .int .u32 x.seventh]
abbrev cGInst (x : GInst)  : List Value := [.int .i64 x.Op, .int .i64 x.Rd, .int .i64 x.Rs1, .int .i64 x.Rs2, .int .i64 x.Imm]
abbrev iv (x : Int) : Value := .int .i64 x
abbrev sv {α : Type} (a : Option Addr) (l : List α) (c : Nat) : Value := .slice a (List.length l) c
abbrev pt (b o : Nat) : Value := .pointer (some ⟨b, o, none⟩)
abbrev OA := Option Addr
abbrev JV := Nat → Value
abbrev TP := Nat → Prop
abbrev zv1 : List Value := [.slice none 0 0, .slice none 0 0, .slice none 0 0]
abbrev zv2 : List Value := [.string ⟨([] : List UInt8).toArray⟩, .int .u8 0, .int .u32 0, .int .u32 0, .int .u32 0]

theorem inst_table_sim  (hS : Sep g T0 w0 [starL R])  : ∀ r, inst_table = some r →
    Calls Tryz.prog 63 #[] w0 (RetS T0 w0 fun T w v => v = .agg (segF enInstShape' r).toArray ∧ Sep g T w (R ++ []) ∧ True) := by
  intro r hm
  refine enter Tryz.func63 rfl Tryz.ntmps63 rfl fun J => ?_
  unfold inst_table at hm
  refine sq2 (pu ?_)
  refine wl rfl (alS (zs := (List.map enInstShape' (List.replicate 46 (⟨([] : List UInt8), 0, 0, 0, 0⟩ : InstShape))).flatten ++ []) zeroValue179 (by kernel_rfl) hS fun w1 b1 im1 hS1 => ?_)
  refine pn ?_
  refine sq2 (pu ?_)
  refine pv (r_bd (by kernel_rfl) rfl (u := .agg #[.string ⟨([] : List UInt8).toArray⟩, .int .u8 0, .int .u32 0, .int .u32 0, .int .u32 0])) (pv (r_bd (by kernel_rfl) rfl (u := .agg #[.string ⟨([108, 117, 105] : List UInt8).toArray⟩, .int .u8 85, .int .u32 55, .int .u32 0, .int .u32 0])) (pv (r_bd (by kernel_rfl) rfl (u := .agg #[.string ⟨([97, 117, 105, 112, 99] : List UInt8).toArray⟩, .int .u8 85, .int .u32 23, .int .u32 0, .int .u32 0])) (pv (r_bd (by kernel_rfl) rfl (u := .agg #[.string ⟨([106, 97, 108] : List UInt8).toArray⟩, .int .u8 74, .int .u32 111, .int .u32 0, .int .u32 0])) (pv (r_bd (by kernel_rfl) rfl (u := .agg #[.string ⟨([106, 97, 108, 114] : List UInt8).toArray⟩, .int .u8 73, .int .u32 103, .int .u32 0, .int .u32 0])) (pv (r_bd (by kernel_rfl) rfl (u := .agg #[.string ⟨([98, 101, 113] : List UInt8).toArray⟩, .int .u8 66, .int .u32 99, .int .u32 0, .int .u32 0])) (pv (r_bd (by kernel_rfl) rfl (u := .agg #[.string ⟨([98, 110, 101] : List UInt8).toArray⟩, .int .u8 66, .int .u32 99, .int .u32 1, .int .u32 0])) (pv (r_bd (by kernel_rfl) rfl (u := .agg #[.string ⟨([98, 108, 116] : List UInt8).toArray⟩, .int .u8 66, .int .u32 99, .int .u32 4, .int .u32 0])) (pv (r_bd (by kernel_rfl) rfl (u := .agg #[.string ⟨([98, 103, 101] : List UInt8).toArray⟩, .int .u8 66, .int .u32 99, .int .u32 5, .int .u32 0])) (pv (r_bd (by kernel_rfl) rfl (u := .agg #[.string ⟨([98, 108, 116, 117] : List UInt8).toArray⟩, .int .u8 66, .int .u32 99, .int .u32 6, .int .u32 0])) (pv (r_bd (by kernel_rfl) rfl (u := .agg #[.string ⟨([98, 103, 101, 117] : List UInt8).toArray⟩, .int .u8 66, .int .u32 99, .int .u32 7, .int .u32 0])) (pv (r_bd (by kernel_rfl) rfl (u := .agg #[.string ⟨([108, 98] : List UInt8).toArray⟩, .int .u8 73, .int .u32 3, .int .u32 0, .int .u32 0])) (pv (r_bd (by kernel_rfl) rfl (u := .agg #[.string ⟨([108, 104] : List UInt8).toArray⟩, .int .u8 73, .int .u32 3, .int .u32 1, .int .u32 0])) (pv (r_bd (by kernel_rfl) rfl (u := .agg #[.string ⟨([108, 119] : List UInt8).toArray⟩, .int .u8 73, .int .u32 3, .int .u32 2, .int .u32 0])) (pv (r_bd (by kernel_rfl) rfl (u := .agg #[.string ⟨([108, 98, 117] : List UInt8).toArray⟩, .int .u8 73, .int .u32 3, .int .u32 4, .int .u32 0])) (pv (r_bd (by kernel_rfl) rfl (u := .agg #[.string ⟨([108, 104, 117] : List UInt8).toArray⟩, .int .u8 73, .int .u32 3, .int .u32 5, .int .u32 0])) (pv (r_bd (by kernel_rfl) rfl (u := .agg #[.string ⟨([115, 98] : List UInt8).toArray⟩, .int .u8 83, .int .u32 35, .int .u32 0, .int .u32 0])) (pv (r_bd (by kernel_rfl) rfl (u := .agg #[.string ⟨([115, 104] : List UInt8).toArray⟩, .int .u8 83, .int .u32 35, .int .u32 1, .int .u32 0])) (pv (r_bd (by kernel_rfl) rfl (u := .agg #[.string ⟨([115, 119] : List UInt8).toArray⟩, .int .u8 83, .int .u32 35, .int .u32 2, .int .u32 0])) (pv (r_bd (by kernel_rfl) rfl (u := .agg #[.string ⟨([97, 100, 100, 105] : List UInt8).toArray⟩, .int .u8 73, .int .u32 19, .int .u32 0, .int .u32 0])) (pv (r_bd (by kernel_rfl) rfl (u := .agg #[.string ⟨([115, 108, 116, 105] : List UInt8).toArray⟩, .int .u8 73, .int .u32 19, .int .u32 2, .int .u32 0])) (pv (r_bd (by kernel_rfl) rfl (u := .agg #[.string ⟨([115, 108, 116, 105, 117] : List UInt8).toArray⟩, .int .u8 73, .int .u32 19, .int .u32 3, .int .u32 0])) (pv (r_bd (by kernel_rfl) rfl (u := .agg #[.string ⟨([120, 111, 114, 105] : List UInt8).toArray⟩, .int .u8 73, .int .u32 19, .int .u32 4, .int .u32 0])) (pv (r_bd (by kernel_rfl) rfl (u := .agg #[.string ⟨([111, 114, 105] : List UInt8).toArray⟩, .int .u8 73, .int .u32 19, .int .u32 6, .int .u32 0])) (pv (r_bd (by kernel_rfl) rfl (u := .agg #[.string ⟨([97, 110, 100, 105] : List UInt8).toArray⟩, .int .u8 73, .int .u32 19, .int .u32 7, .int .u32 0])) (pv (r_bd (by kernel_rfl) rfl (u := .agg #[.string ⟨([115, 108, 108, 105] : List UInt8).toArray⟩, .int .u8 72, .int .u32 19, .int .u32 1, .int .u32 0])) (pv (r_bd (by kernel_rfl) rfl (u := .agg #[.string ⟨([115, 114, 108, 105] : List UInt8).toArray⟩, .int .u8 72, .int .u32 19, .int .u32 5, .int .u32 0])) (pv (r_bd (by kernel_rfl) rfl (u := .agg #[.string ⟨([115, 114, 97, 105] : List UInt8).toArray⟩, .int .u8 72, .int .u32 19, .int .u32 5, .int .u32 32])) (pv (r_bd (by kernel_rfl) rfl (u := .agg #[.string ⟨([97, 100, 100] : List UInt8).toArray⟩, .int .u8 82, .int .u32 51, .int .u32 0, .int .u32 0])) (pv (r_bd (by kernel_rfl) rfl (u := .agg #[.string ⟨([115, 117, 98] : List UInt8).toArray⟩, .int .u8 82, .int .u32 51, .int .u32 0, .int .u32 32])) (pv (r_bd (by kernel_rfl) rfl (u := .agg #[.string ⟨([115, 108, 108] : List UInt8).toArray⟩, .int .u8 82, .int .u32 51, .int .u32 1, .int .u32 0])) (pv (r_bd (by kernel_rfl) rfl (u := .agg #[.string ⟨([115, 108, 116] : List UInt8).toArray⟩, .int .u8 82, .int .u32 51, .int .u32 2, .int .u32 0])) (pv (r_bd (by kernel_rfl) rfl (u := .agg #[.string ⟨([115, 108, 116, 117] : List UInt8).toArray⟩, .int .u8 82, .int .u32 51, .int .u32 3, .int .u32 0])) (pv (r_bd (by kernel_rfl) rfl (u := .agg #[.string ⟨([120, 111, 114] : List UInt8).toArray⟩, .int .u8 82, .int .u32 51, .int .u32 4, .int .u32 0])) (pv (r_bd (by kernel_rfl) rfl (u := .agg #[.string ⟨([115, 114, 108] : List UInt8).toArray⟩, .int .u8 82, .int .u32 51, .int .u32 5, .int .u32 0])) (pv (r_bd (by kernel_rfl) rfl (u := .agg #[.string ⟨([115, 114, 97] : List UInt8).toArray⟩, .int .u8 82, .int .u32 51, .int .u32 5, .int .u32 32])) (pv (r_bd (by kernel_rfl) rfl (u := .agg #[.string ⟨([111, 114] : List UInt8).toArray⟩, .int .u8 82, .int .u32 51, .int .u32 6, .int .u32 0])) (pv (r_bd (by kernel_rfl) rfl (u := .agg #[.string ⟨([97, 110, 100] : List UInt8).toArray⟩, .int .u8 82, .int .u32 51, .int .u32 7, .int .u32 0])) (pv (r_bd (by kernel_rfl) rfl (u := .agg #[.string ⟨([109, 117, 108] : List UInt8).toArray⟩, .int .u8 82, .int .u32 51, .int .u32 0, .int .u32 1])) (pv (r_bd (by kernel_rfl) rfl (u := .agg #[.string ⟨([109, 117, 108, 104] : List UInt8).toArray⟩, .int .u8 82, .int .u32 51, .int .u32 1, .int .u32 1])) (pv (r_bd (by kernel_rfl) rfl (u := .agg #[.string ⟨([109, 117, 108, 104, 115, 117] : List UInt8).toArray⟩, .int .u8 82, .int .u32 51, .int .u32 2, .int .u32 1])) (pv (r_bd (by kernel_rfl) rfl (u := .agg #[.string ⟨([109, 117, 108, 104, 117] : List UInt8).toArray⟩, .int .u8 82, .int .u32 51, .int .u32 3, .int .u32 1])) (pv (r_bd (by kernel_rfl) rfl (u := .agg #[.string ⟨([100, 105, 118] : List UInt8).toArray⟩, .int .u8 82, .int .u32 51, .int .u32 4, .int .u32 1])) (pv (r_bd (by kernel_rfl) rfl (u := .agg #[.string ⟨([100, 105, 118, 117] : List UInt8).toArray⟩, .int .u8 82, .int .u32 51, .int .u32 5, .int .u32 1])) (pv (r_bd (by kernel_rfl) rfl (u := .agg #[.string ⟨([114, 101, 109] : List UInt8).toArray⟩, .int .u8 82, .int .u32 51, .int .u32 6, .int .u32 1])) (pv (r_bd (by kernel_rfl) rfl (u := .agg #[.string ⟨([114, 101, 109, 117] : List UInt8).toArray⟩, .int .u8 82, .int .u32 51, .int .u32 7, .int .u32 1])) (pv (r_bd (cells := (segF enInstShape' tbl1).toArray) (by kernel_rfl) rfl) (wl rfl (stArr (q := 0) hS1 ⟨rfl, rfl⟩ (lnBox b1) rfl rfl enInstShape'_len (fun _ => rfl) rfl rfl rfl sizeOf179 fun w2 im2 hS2 => ?_))))))))))))))))))))))))))))))))))))))))))))))))
  refine nil (t_thenR [(0, pt b1 0)] ⟨rfl, trivial⟩ fun J => ?_)
  have hm := oI hm; subst hm
  refine pn ?_
  exact retN (vs := [.agg (segF enInstShape' tbl1).toArray]) rfl ⟨rvS rfl isAgg179 sizeOf179 (segF_k enInstShape'_len rfl rfl) (hS2.segBx (i := 0) ⟨rfl, rfl⟩), trivial⟩ rfl ⟨_, rfl, _, ch, ⟨rfl, (hS2.sel [1] rfl).unb, trivial⟩⟩

theorem inst_of_sim {p0} (hS : Sep g T0 w0 [starL R])  : ∀ r, inst_of p0 = some r →
    Calls Tryz.prog 115 #[iv p0] w0 (RetS T0 w0 fun T w v => v = .agg (cInstShape r).toArray ∧ Sep g T w (R ++ []) ∧ True) := by
  intro r hm
  refine enter Tryz.func115 rfl Tryz.ntmps115 rfl fun J => ?_
  unfold inst_of at hm
  refine sq2 (aL zv2 hS ?_)
  intro w1 b1 im1 hS1
  refine pn ?_
  refine sq2 (sq2 (pu ?_))
  rcases bc hm with ⟨hb1, hm⟩ | ⟨hb1, hm⟩
  · refine pn ?_
    refine cnd (b := true) rfl (fun _ => ?_) (fun h => nomatch h)
    refine sq2 (pu ?_)
    refine pv (r_bd (by kernel_rfl) rfl (u := .agg #[.string ⟨([] : List UInt8).toArray⟩, .int .u8 0, .int .u32 0, .int .u32 0, .int .u32 0])) (sT 0 hS1 ?_)
    intro w5 im5 hS5
    exact re hm (hS5.sel [1] rfl)
  refine cd hm ?_ ?_ <;> intro hb2 hm
  · refine sq2 (pu ?_)
    refine pv (r_bd (by kernel_rfl) rfl (u := .agg #[.string ⟨([] : List UInt8).toArray⟩, .int .u8 0, .int .u32 0, .int .u32 0, .int .u32 0])) (sT 0 hS1 ?_)
    intro w2 im2 hS2
    exact re hm (hS2.sel [1] rfl)
  refine pn ?_
  refine sq2 (pu ?_)
  refine cB cf63 hm (inst_table_sim (hS1.bun [0, 1] [] rfl)) ?_
  rintro y1 _ T1 w3 im3 ⟨rfl, hS3, _⟩ hm
  obtain ⟨z_1, hln1, hm⟩ := bindS hm
  obtain ⟨u1, hx2, hm⟩ := bindS hm
  refine pu ?_
  refine pv (r_axs (u := (cInstShape u1)) rfl rfl hx2 enInstShape'_len rfl (lenOk_some hln1) underlying179 sizeOf178 isAgg178) (sT 0 hS3 ?_)
  intro w4 im4 hS4
  exact re hm (hS4.sel [1] rfl)

theorem inst_bits_sim {p0 p1 p2} (hS : Sep g T0 w0 [starL R])  : ∀ r, inst_bits p0 p1 p2 = some r →
    Calls Tryz.prog 67 #[.int .u32 p0, iv p1, iv p2] w0 (RetS T0 w0 fun T w v => v = .int .u32 r ∧ Sep g T w (R ++ []) ∧ True) := by
  intro r hm
  refine enter Tryz.func67 rfl Tryz.ntmps67 rfl fun J => ?_
  unfold inst_bits at hm
  refine sq2 (pn ?_)
  refine sq2 ?_
  obtain ⟨_, hz1, hm⟩ := bindS hm
  have hz1 := nn_some hz1
  obtain ⟨_, hz2, hm⟩ := bindS hm
  have hz2 := nn_some hz2
  refine rqS hS (pu ?_)
  refine qv (fun _ hq => r_ishr rfl rfl hz1) (pu ?_)
  refine qv (fun _ hq => r_ishl rfl rfl hz2) (pn ?_)
  intro w1 T1 im1 hS1
  exact re hm (hS1.sel [0] rfl)

theorem inst_fits_sim {p0 : InstShape} {p1} (hS : Sep g T0 w0 [starL R])  : ∀ r, inst_fits p0 p1 = some r →
    Calls Tryz.prog 64 #[.agg (cInstShape p0).toArray, .int .u32 p1] w0 (RetS T0 w0 fun T w v => v = .bool r ∧ Sep g T w (R ++ []) ∧ True) := by
  intro r hm
  refine enter Tryz.func64 rfl Tryz.ntmps64 rfl fun J => ?_
  unfold inst_fits at hm
  refine sq2 (bX (cInstShape p0) hS ?_)
  intro w1 b1 im1 hS1
  refine pn ?_
  refine sq2 (blk (sq2 (cd hm ?_ ?_))) <;> intro hb1 hm
  · exact sq2 (re hm (hS1.sel [1] rfl))
  refine sq2 (pu ?_)
  rcases bc hm with ⟨hb2, hm⟩ | ⟨hb2, hm⟩
  · refine pn ?_
    refine cnd (b := true) rfl (fun _ => ?_) (fun h => nomatch h)
    exact sq2 (re hm (hS1.sel [1] rfl))
  refine cd hm ?_ ?_ <;> intro hb3 hm
  · exact sq2 (re hm (hS1.sel [1] rfl))
  refine sq2 (rsS [0, 2, 0, 1, 0, 0] [0, 2, 3, 1, 4, 5] hS1 fun w2 im2 hS2 => ?_)
  obtain ⟨y1, hx1, hm⟩ := bindS hm
  refine sS [(3, .int .u32 p0.third)] cf67 (inst_bits_sim (hS2.bun [0, 1] [] rfl) _ hx1) ?_
  rintro _ T1 w3 im3 ⟨rfl, hS3, _⟩
  refine cd hm ?_ ?_ <;> intro hb4 hm
  · refine sq2 (pu ?_)
    refine nil (t_thenR [(4, .bool false)] ⟨rfl, trivial⟩ fun J => ?_)
    exact re hm (hS3.sel [1] rfl)
  refine pn ?_
  refine sq2 (pu ?_)
  rcases bc hm with ⟨hb5, hm⟩ | ⟨hb5, hm⟩
  · refine pu ?_
    rcases bc hm with ⟨hb6, hm⟩ | ⟨hb6, hm⟩
    · refine pu ?_
      refine nil (t_thenR [(4, .bool true)] ⟨rfl, trivial⟩ fun J => ?_)
      exact re hm (hS3.sel [1] rfl)
    refine pu ?_
    refine nil (t_thenR [(4, .bool ((Int.fdiv p1 (2 ^ (min (Int.toNat 25) (IntKind.bits .u32)))) == p0.seventh))] ⟨rfl, trivial⟩ fun J => ?_)
    exact re hm (hS3.sel [1] rfl)
  refine pu ?_
  refine nil (t_thenR [(4, .bool ((Int.fdiv p1 (2 ^ (min (Int.toNat 25) (IntKind.bits .u32)))) == p0.seventh))] ⟨rfl, trivial⟩ fun J => ?_)
  exact re hm (hS3.sel [1] rfl)

theorem word_Sign_sim {p0 p1} (hS : Sep g T0 w0 [starL R])  : ∀ r, word_Sign p0 p1 = some r →
    Calls Tryz.prog 127 #[.int .u32 p0, iv p1] w0 (RetS T0 w0 fun T w v => v = .int .u32 r ∧ Sep g T w (R ++ []) ∧ True) := by
  intro r hm
  refine enter Tryz.func127 rfl Tryz.ntmps127 rfl fun J => ?_
  unfold word_Sign at hm
  refine sq2 (pn ?_)
  refine sq2 (sq2 (pu ?_))
  rcases bc hm with ⟨hb1, hm⟩ | ⟨hb1, hm⟩
  · refine pn ?_
    refine cnd (b := true) rfl (fun _ => ?_) (fun h => nomatch h)
    exact sq2 (re hm (hS.sel [0] rfl))
  refine cd hm ?_ ?_ <;> intro hb2 hm
  · exact sq2 (re hm (hS.sel [0] rfl))
  refine pn ?_
  refine sq2 (pn ?_)
  refine sq2 ?_
  obtain ⟨_, hz1, hm⟩ := bindS hm
  have hz1 := nn_some hz1
  obtain ⟨_, hz2, hm⟩ := bindS hm
  have hz2 := nn_some hz2
  refine pu ?_
  refine pv (r_ishl rfl rfl hz1) (pu ?_)
  exact pv (r_ishr rfl rfl hz2) (re hm (hS.sel [0] rfl))

theorem inst_told_sim {p0 p1} (hS : Sep g T0 w0 [starL R])  : ∀ r, inst_told p0 p1 = some r →
    Calls Tryz.prog 65 #[.int .u8 p0, .int .u32 p1] w0 (RetS T0 w0 fun T w v => v = iv r ∧ Sep g T w (R ++ []) ∧ True) := by
  intro r hm
  refine enter Tryz.func65 rfl Tryz.ntmps65 rfl fun J => ?_
  unfold inst_told at hm
  refine sq2 (pn ?_)
  refine sq2 (sq2 (pn ?_))
  refine blk (sq2 (cd hm ?_ ?_)) <;> intro hb1 hm
  · exact sq2 (re hm (hS.sel [0] rfl))
  refine sq2 (cd hm ?_ ?_) <;> intro hb2 hm
  · refine sq2 (pu ?_)
    refine cB cf67 hm (inst_bits_sim (hS.bun [0] [] rfl)) ?_
    rintro y1 _ T1 w1 im1 ⟨rfl, hS1, _⟩ hm
    refine pu ?_
    refine cB cf67 hm (inst_bits_sim (hS1.bun [0] [] rfl)) ?_
    rintro y2 _ T2 w2 im2 ⟨rfl, hS2, _⟩ hm
    refine pu ?_
    refine cB cf67 hm (inst_bits_sim (hS2.bun [0] [] rfl)) ?_
    rintro y3 _ T3 w3 im3 ⟨rfl, hS3, _⟩ hm
    refine pu ?_
    refine cB cf67 hm (inst_bits_sim (hS3.bun [0] [] rfl)) ?_
    rintro y4 _ T4 w4 im4 ⟨rfl, hS4, _⟩ hm
    refine pn ?_
    refine sq2 (pu ?_)
    refine cB cf127 hm (word_Sign_sim (hS4.bun [0] [] rfl)) ?_
    rintro y5 _ T5 w5 im5 ⟨rfl, hS5, _⟩ hm
    refine pu ?_
    refine nil (t_thenR [(4, iv (IntKind.wrap .i64 (IntKind.wrap .i32 y5)))] ⟨rfl, trivial⟩ fun J => ?_)
    exact re hm (hS5.sel [0] rfl)
  refine sq2 (cd hm ?_ ?_) <;> intro hb3 hm
  · exact sq2 (re hm (hS.sel [0] rfl))
  refine sq2 (cd hm ?_ ?_) <;> intro hb4 hm
  · refine sq2 (pu ?_)
    refine cB cf67 hm (inst_bits_sim (hS.bun [0] [] rfl)) ?_
    rintro y6 _ T6 w6 im6 ⟨rfl, hS6, _⟩ hm
    exact re hm (hS6.sel [0] rfl)
  refine sq2 (cd hm ?_ ?_) <;> intro hb5 hm
  · refine sq2 (pu ?_)
    refine cB cf67 hm (inst_bits_sim (hS.bun [0] [] rfl)) ?_
    rintro y7 _ T7 w7 im7 ⟨rfl, hS7, _⟩ hm
    refine pu ?_
    refine cB cf67 hm (inst_bits_sim (hS7.bun [0] [] rfl)) ?_
    rintro y8 _ T8 w8 im8 ⟨rfl, hS8, _⟩ hm
    refine pu ?_
    refine cB cf127 hm (word_Sign_sim (hS8.bun [0] [] rfl)) ?_
    rintro y9 _ T9 w9 im9 ⟨rfl, hS9, _⟩ hm
    exact re hm (hS9.sel [0] rfl)
  refine sq2 (cd hm ?_ ?_) <;> intro hb6 hm
  · refine sq2 (pu ?_)
    refine cB cf67 hm (inst_bits_sim (hS.bun [0] [] rfl)) ?_
    rintro y10 _ T10 w10 im10 ⟨rfl, hS10, _⟩ hm
    refine pu ?_
    refine cB cf67 hm (inst_bits_sim (hS10.bun [0] [] rfl)) ?_
    rintro y11 _ T11 w11 im11 ⟨rfl, hS11, _⟩ hm
    refine pu ?_
    refine cB cf67 hm (inst_bits_sim (hS11.bun [0] [] rfl)) ?_
    rintro y12 _ T12 w12 im12 ⟨rfl, hS12, _⟩ hm
    refine pu ?_
    refine cB cf67 hm (inst_bits_sim (hS12.bun [0] [] rfl)) ?_
    rintro y13 _ T13 w13 im13 ⟨rfl, hS13, _⟩ hm
    refine pu ?_
    refine nil (t_thenR [(6, .int .u32 (bits .or .u32 (bits .or .u32 (bits .or .u32 (IntKind.wrap .u32 (y10 * 2 ^ (min (Int.toNat 12) (IntKind.bits .u32)))) (IntKind.wrap .u32 (y11 * 2 ^ (min (Int.toNat 5) (IntKind.bits .u32))))) (IntKind.wrap .u32 (y12 * 2 ^ (min (Int.toNat 1) (IntKind.bits .u32))))) (IntKind.wrap .u32 (y13 * 2 ^ (min (Int.toNat 11) (IntKind.bits .u32))))))] ⟨rfl, trivial⟩ fun J => ?_)
    refine sq2 (pu ?_)
    refine cB cf127 hm (word_Sign_sim (hS13.bun [0] [] rfl)) ?_
    rintro y14 _ T14 w14 im14 ⟨rfl, hS14, _⟩ hm
    exact re hm (hS14.sel [0] rfl)
  refine pn ?_
  exact sq2 (re hm (hS.sel [0] rfl))

theorem inst_needs_sim {p0} (hS : Sep g T0 w0 [starL R])  : ∀ r, inst_needs p0 = some r →
    Calls Tryz.prog 66 #[.int .u8 p0] w0 (RetS T0 w0 fun T w v => v = .tuple #[.bool r.1, .bool r.2.1, .bool r.2.2.1, .bool r.2.2.2] ∧ Sep g T w (R ++ []) ∧ True) := by
  intro r hm
  refine enter Tryz.func66 rfl Tryz.ntmps66 rfl fun J => ?_
  unfold inst_needs at hm
  refine sq2 (pn ?_)
  refine sq2 (pn ?_)
  refine cutJ hm (fun kk1 a w1 => ∃ T1 x1 x2 x3 x4, JR (nf 22) g T0 w0 a w1 T1 (kk1 x1 x2 x3 x4 = some r) [(2, .bool x1), (3, .bool x2), (4, .bool x3), (5, .bool x4)] [starL R]) (fun kk1 hm => ?_) ?_
  · refine sq2 (pn ?_)
    refine blk (sq2 (blk (cutJ hm (fun kk2 a w2 => ∃ T2 x5 x6 x7, JR (nf 22) g T0 w0 a w2 T2 (kk2 x5 x6 x7 = some r) [(3, .bool x5), (4, .bool x6), (5, .bool x7)] [starL R]) (fun kk2 hm => ?_) ?_)))
    · refine blk (cutJ hm (fun kk3 a w3 => ∃ T3 x8 x9, JR (nf 22) g T0 w0 a w3 T3 (kk3 x8 x9 = some r) [(4, .bool x8), (5, .bool x9)] [starL R]) (fun kk3 hm => ?_) ?_)
      · refine blk (sq2 (blk (sq2 (sq2 (sq2 (cd hm ?_ ?_)))))) <;> intro hb1 hm
        · exact je hm (hS.sel [0] rfl)
        refine pn ?_
        refine sq2 (cutJ hm (fun kk4 a w4 => ∃ T4 x10, JR (nf 22) g T0 w0 a w4 T4 (kk4 x10 = some r) [(2, .bool false), (3, .bool false), (4, .bool false), (5, .bool true), (6, .int .u8 p0), (9, .bool x10)] [starL R]) (fun kk4 hm => ?_) ?_)
        · refine sq2 (cd hm ?_ ?_) <;> intro hb2 hm
          · exact je hm (hS.sel [0] rfl)
          exact je hm (hS.sel [0] rfl)
        rintro _ w4 ⟨T4, x10, J, hm, rfl, hS1, im4⟩
        refine cd hm ?_ ?_ <;> intro hb3 hm
        · exact je hm (hS1.sel [0] rfl)
        refine pn ?_
        refine sq2 (cutJ hm (fun kk5 a w5 => ∃ T5 x11, JR (nf 22) g T4 w4 a w5 T5 (kk5 x11 = some r) [(2, .bool false), (3, .bool false), (4, .bool false), (5, .bool true), (6, .int .u8 p0), (12, .bool x11)] [starL R]) (fun kk5 hm => ?_) ?_)
        · refine sq2 (cd hm ?_ ?_) <;> intro hb4 hm
          · exact je hm (hS1.sel [0] rfl)
          exact je hm (hS1.sel [0] rfl)
        rintro _ w5 ⟨T5, x11, J, hm, rfl, hS2, im5⟩
        refine cd hm ?_ ?_ <;> intro hb5 hm
        · exact je hm (hS2.sel [0] rfl)
        refine pn ?_
        refine cutJ hm (fun kk6 a w6 => ∃ T6 x12, JR (nf 22) g T5 w5 a w6 T6 (kk6 x12 = some r) [(2, .bool false), (3, .bool false), (4, .bool false), (5, .bool true), (15, .bool x12)] [starL R]) (fun kk6 hm => ?_) ?_
        · refine sq2 (cd hm ?_ ?_) <;> intro hb6 hm
          · exact je hm (hS2.sel [0] rfl)
          exact je hm (hS2.sel [0] rfl)
        rintro _ w6 ⟨T6, x12, J, hm, rfl, hS3, im6⟩
        refine cd hm ?_ ?_ <;> intro hb7 hm
        · refine pn ?_
          exact sq2 (je hm (hS3.sel [0] rfl))
        exact je hm (hS3.sel [0] rfl)
      rintro _ w3 ⟨T3, x8, x9, J, hm, rfl, hS4, im3⟩
      exact je hm (hS4.sel [0] rfl)
    rintro _ w2 ⟨T2, x5, x6, x7, J, hm, rfl, hS5, im2⟩
    exact sq2 (je hm (hS5.sel [0] rfl))
  rintro _ w1 ⟨T1, x1, x2, x3, x4, J, hm, rfl, hS6, im1⟩
  exact sq2 (re hm (hS6.sel [0] rfl))

theorem inst_Decode_sim {p0} (hS : Sep g T0 w0 [starL R])  : ∀ r, inst_Decode p0 = some r →
    Calls Tryz.prog 36 #[.int .u32 p0] w0 (RetS T0 w0 fun T w v => v = .tuple #[.agg (cGInst r.1).toArray, iv r.2] ∧ Sep g T w (R ++ []) ∧ True) := by
  intro r hm
  refine enter Tryz.func36 rfl Tryz.ntmps36 rfl fun J => ?_
  unfold inst_Decode at hm
  refine sq2 (aL [iv 0, iv 0, iv 0, iv 0, iv 0] hS ?_)
  intro w1 b1 im1 hS1
  refine pn ?_
  refine sq2 (pu ?_)
  refine cB cf63 hm (inst_table_sim (hS1.bun [0, 1] [] rfl)) ?_
  rintro y1 _ T1 w2 im2 ⟨rfl, hS2, _⟩ hm
  refine wl rfl (alS (zs := (List.map enInstShape' (List.replicate 46 (⟨([] : List UInt8), 0, 0, 0, 0⟩ : InstShape))).flatten ++ []) zeroValue179 (by kernel_rfl) hS2 fun w3 b2 im3 hS3 => ?_)
  obtain ⟨z_1, hln1, hm⟩ := bindS hm
  refine wl rfl (stArr (q := 0) hS3 ⟨rfl, rfl⟩ (lnBox b2) rfl rfl enInstShape'_len (fun _ => rfl) rfl (lenOk_some hln1) rfl sizeOf179 fun w4 im4 hS4 => ?_)
  refine pn ?_
  refine sq2 (sq2 (pn ?_))
  refine lpJ hm (fun bd1 o1 m a w5 => ∃ T2 x1, JR (nf 55) g T1 w4 a w5 T2 (loopM bd1 m x1 = some o1) [(0, .int .u32 p0), (2, pt b1 0), (4, pt b2 0), (5, iv x1)] [starL R, boxA b1 [iv 0, iv 0, iv 0, iv 0, iv 0], segH (boxA b2) enInstShape' y1 []]) (fun _ _ h => je h (hS4.sel [2, 1, 0] rfl)) ?_
  rintro bd1 hbd1 o1 hq1 _ _ w5 ⟨T2, x1, J, ho1, rfl, hS5, im5⟩
  obtain ⟨m1, z1, rfl, hm, hn1⟩ := lrE ho1 hbd1
  refine sq2 (sq2 (cd hm ?_ ?_)) <;> intro hb1 hm
  · refine pn ?_
    refine sq2 (blk (sq2 ?_))
    obtain ⟨u1, hx2, hm⟩ := bindS hm
    obtain ⟨of1, he1⟩ : ∃ z : Nat, z = (0 + 0) + (Int.toNat x1) * 5 := ⟨_, rfl⟩
    refine pu ?_
    refine pv (r_ixA rfl rfl (lenOk_some hln1) hx2 underlying179 sizeOf178 he1) (pv (r_ldS rfl isAgg178 sizeOf178 rfl ((Sep.segEl hS5 (q := 2) ⟨rfl, rfl⟩ (lnBox b2) enInstShape'_len hx2 he1).sub 0 rfl) (cs := (cInstShape u1))) (aL zv2 hS5 ?_))
    intro w6 b3 im6 hS6
    refine sT 0 hS6 ?_
    intro w7 im7 hS7
    refine pn ?_
    refine sq2 (sq2 (pu ?_))
    refine cB cf64 hm (inst_fits_sim (hS7.bun (nrow 0 4) [] rfl)) ?_
    rintro y2 _ T3 w8 im8 ⟨rfl, hS8, _⟩ hm
    refine cd hm ?_ ?_ <;> intro hb2 hm
    · exact lg hm hn1 (hS8.sel [1, 2, 3] rfl)
    refine pn ?_
    refine sq2 (pu ?_)
    refine cB cf65 hm (inst_told_sim (hS8.bun [0, 1, 2] [] rfl)) ?_
    rintro y3 _ T4 w9 im9 ⟨rfl, hS9, _⟩ hm
    refine pv (r_bd (by kernel_rfl) rfl (u := .agg #[iv x1, iv 0, iv 0, iv 0, iv y3])) (aL [iv 0, iv 0, iv 0, iv 0, iv 0] hS9 ?_)
    intro w10 b4 im10 hS10
    refine sT 0 hS10 ?_
    intro w11 im11 hS11
    refine pn ?_
    refine sq2 (pu ?_)
    refine cB cf66 hm (inst_needs_sim (hS11.bun [0, 2, 3] [] rfl)) ?_
    rintro y4 _ T5 w12 im12 ⟨rfl, hS12, _⟩ hm
    refine pu ?_
    refine nil (t_thenR [(0, .int .u32 p0), (2, pt b1 0), (7, pt b4 0), (8, .bool y4.1), (9, .bool y4.2.1), (10, .bool y4.2.2.1)] ⟨rfl, rfl, rfl, rfl, rfl, rfl, trivial⟩ fun J => ?_)
    refine cutJ hm (fun kk1 a w13 => ∃ (T6 : _) (x2 : GInst), JR (nf 55) g T5 w12 a w13 T6 (kk1 x2 = some z1) [(0, .int .u32 p0), (2, pt b1 0), (7, pt b4 0), (9, .bool y4.2.1), (10, .bool y4.2.2.1)] [starL R, boxA b1 [iv 0, iv 0, iv 0, iv 0, iv 0], boxA b4 (cGInst x2)]) (fun kk1 hm => ?_) ?_
    · refine sq2 (cd hm ?_ ?_) <;> intro hb3 hm
      · refine pu ?_
        refine cB cf67 hm (inst_bits_sim (hS12.bun [0, 1, 2] [] rfl)) ?_
        rintro y5 _ T7 w14 im14 ⟨rfl, hS13, _⟩ hm
        refine sT 0 hS13 ?_
        intro w15 im15 hS14
        exact je hm (hS14.sel [1, 2, 0] rfl)
      exact je hm (hS12.sel [1, 2, 0] rfl)
    rintro _ w13 ⟨T6, x2, J, hm, rfl, hS15, im13⟩
    refine cutJ hm (fun kk2 a w16 => ∃ (T8 : _) (x3 : GInst), JR (nf 55) g T6 w13 a w16 T8 (kk2 x3 = some z1) [(0, .int .u32 p0), (2, pt b1 0), (7, pt b4 0), (10, .bool y4.2.2.1)] [starL R, boxA b1 [iv 0, iv 0, iv 0, iv 0, iv 0], boxA b4 (cGInst x3)]) (fun kk2 hm => ?_) ?_
    · refine sq2 (cd hm ?_ ?_) <;> intro hb4 hm
      · refine pu ?_
        refine cB cf67 hm (inst_bits_sim (hS15.bun [0, 1, 2] [] rfl)) ?_
        rintro y6 _ T9 w17 im17 ⟨rfl, hS16, _⟩ hm
        refine sT 2 hS16 ?_
        intro w18 im18 hS17
        exact je hm (hS17.sel [0, 1, 2] rfl)
      exact je hm (hS15.sel [0, 1, 2] rfl)
    rintro _ w16 ⟨T8, x3, J, hm, rfl, hS18, im16⟩
    refine cutJ hm (fun kk3 a w19 => ∃ (T10 : _) (x4 : GInst), JR (nf 55) g T8 w16 a w19 T10 (kk3 x4 = some z1) [(2, pt b1 0), (7, pt b4 0)] [starL R, boxA b1 [iv 0, iv 0, iv 0, iv 0, iv 0], boxA b4 (cGInst x4)]) (fun kk3 hm => ?_) ?_
    · refine sq2 (cd hm ?_ ?_) <;> intro hb5 hm
      · refine pu ?_
        refine cB cf67 hm (inst_bits_sim (hS18.bun [0, 1, 2] [] rfl)) ?_
        rintro y7 _ T11 w20 im20 ⟨rfl, hS19, _⟩ hm
        refine sT 2 hS19 ?_
        intro w21 im21 hS20
        exact je hm (hS20.sel [0, 1, 2] rfl)
      exact je hm (hS18.sel [0, 1, 2] rfl)
    rintro _ w19 ⟨T10, x4, J, hm, rfl, hS21, im19⟩
    refine sq2 (sT 1 hS21 ?_)
    intro w22 im22 hS22
    refine pn ?_
    have hm := retE hm hn1 hq1
    exact re hm (hS22.sel [0] rfl)
  have hm := brkE hm hn1 hq1
  refine pn ?_
  refine sq2 (pu ?_)
  refine pv (r_bd (by kernel_rfl) rfl (u := .agg #[iv 0, iv 0, iv 0, iv 0, iv 0])) (sT 1 hS5 ?_)
  intro w23 im23 hS23
  exact re hm (hS23.sel [0] rfl)

theorem bound_read_sim {p0 : GImage} {a1 c1 a2 c2} (hS : Sep g T0 w0 [starL R]) (h1 : SlR (rInt .u32) T0 w0 (sv a1 p0.Code c1) p0.Code) (h2 : SlR (rInt .u8) T0 w0 (sv a2 p0.Data c2) p0.Data) : ∀ r, bound_read p0 = some r →
    Calls Tryz.prog 16 #[.agg #[sv a1 p0.Code c1, sv a2 p0.Data c2, iv p0.Limit, iv p0.Notes]] w0 (exR r (fun r => RetS T0 w0 fun T w v => v = .tuple #[.pointer none, iv r] ∧ Sep g T w (R ++ []) ∧ True) (fun r => RetS T0 w0 fun T w v => ∃ b4 a15 c15 a16 c16 a17 c17, v = .tuple #[pt b4 0, iv r.2] ∧ Sep g T w (R ++ [boxA b4 [sv a15 r.1.code c15, sv a16 r.1.backs c16, sv a17 r.1.marks c17]]) ∧ SlR rGInst T w (sv a15 r.1.code c15) r.1.code ∧ SlR (rInt .i64) T w (sv a16 r.1.backs c16) r.1.backs ∧ SlR (rInt .i64) T w (sv a17 r.1.marks c17) r.1.marks ∧ True)) := by
  intro r hm
  refine enter Tryz.func16 rfl Tryz.ntmps16 rfl fun J => ?_
  unfold bound_read at hm
  refine sq2 (bX [sv a1 p0.Code c1, sv a2 p0.Data c2, iv p0.Limit, iv p0.Notes] hS ?_)
  intro w1 b1 im1 hS1
  refine pn ?_
  refine sq2 (pu ?_)
  refine pv (r_bd (by kernel_rfl) rfl (u := .agg #[.slice none 0 0, .slice none 0 0, .slice none 0 0])) (bX zv1 hS1 ?_)
  intro w2 b2 im2 hS2
  refine pn ?_
  refine sq2 (sq2 (pn ?_))
  have hS3 := hS2.nilO rGInst 104
  have hS4 := hS3.nilO (rInt .i64) 3
  have hS5 := hS4.nilO (rInt .i64) 3
  refine lpJ hm (fun bd1 o1 m a w3 => ∃ (T1 : _) (x5 : BoundGraph) (a3 : _) (n1 : _) (c3 : _) (a4 : _) (n2 : _) (c4 : _) (a5 : _) (n3 : _) (c5 : _) (x4 : _), JR (nf 71) g T0 w2 a w3 T1 (loopM bd1 m (x4, x5) = some o1) [(4, pt b2 0), (12, sv a1 p0.Code c1), (13, iv (List.length p0.Code : Int)), (14, iv x4)] [starL R, boxA b2 [.slice a3 n1 c3, .slice a4 n2 c4, .slice a5 n3 c5], ownA rGInst 104 (.slice a3 n1 c3) x5.code, ownA (rInt .i64) 3 (.slice a4 n2 c4) x5.backs, ownA (rInt .i64) 3 (.slice a5 n3 c5) x5.marks]) (fun _ _ h => je h (hS5.sel [5, 3, 2, 1, 0] rfl)) ?_
  rintro bd1 hbd1 o1 hq1 _ _ w3 ⟨T1, x5, a3, n1, c3, a4, n2, c4, a5, n3, c5, x4, J, ho1, rfl, hS6, im3⟩
  obtain ⟨m1, z1, rfl, hm, hn1⟩ := lrE ho1 hbd1
  refine sq2 (pn ?_)
  refine sq2 (cd hm ?_ ?_) <;> intro hb1 hm
  · refine pn ?_
    refine cutJ hm (fun kk1 a w4 => ∃ (T2 : _) (x9 : BoundGraph) (a6 : _) (n4 : _) (c6 : _) (a7 : _) (n5 : _) (c7 : _) (a8 : _) (n6 : _) (c8 : _), JR (nf 71) g T1 w3 a w4 T2 (kk1 x9 = some z1) [(4, pt b2 0), (12, sv a1 p0.Code c1), (13, iv (List.length p0.Code : Int)), (14, iv x4)] [starL R, boxA b2 [.slice a6 n4 c6, .slice a7 n5 c7, .slice a8 n6 c8], ownA rGInst 104 (.slice a6 n4 c6) x9.code, ownA (rInt .i64) 3 (.slice a7 n5 c7) x9.backs, ownA (rInt .i64) 3 (.slice a8 n6 c8) x9.marks]) (fun kk1 hm => ?_) ?_
    · refine blk (sq2 ?_)
      obtain ⟨u1, hx1, hm⟩ := bindS hm
      refine pn ?_
      refine sq2 (pu ?_)
      refine cB cf36 hm (inst_Decode_sim (hS6.bun (nrow 0 5) [] rfl)) ?_
      rintro y1 _ T3 w5 im5 ⟨rfl, hS7, _⟩ hm
      refine aL [iv 0, iv 0, iv 0, iv 0, iv 0] hS7 ?_
      intro w6 b3 im6 hS8
      refine sT 0 hS8 ?_
      intro w7 im7 hS9
      refine pn ?_
      refine sq2 (sq2 (cd hm ?_ ?_)) <;> intro hb2 hm
      · refine sq2 (pn ?_)
        have hm := retE hm hn1 hq1
        exact re hm (hS9.sel [1] rfl)
      refine pn ?_
      refine sq2 (rsS [0, 0, 0, 0, 1, 1, 2, 2, 0, 0, 2] [0, 1, 2, 3, 4, 5, 6, 7, 8, 9, 10] hS9 fun w8 im8 hS10 => ?_)
      refine s2W [0] ?_
      refine obS (r := rGInst) (l := ([y1.1] : List GInst)) (css := [(cGInst y1.1)]) hS10 ⟨(rGInst_mk (x := y1.1)  : rGInst.rp _ _ _ _), trivial⟩ ?_
      intro w9 a9 n7 c9 im9 hS11
      refine pu ?_
      obtain ⟨z_1, hro1, hm⟩ := bindS hm
      refine s2W [0] ?_
      refine oaO 4 hS11 (room_some hro1) ?_
      intro w10 a10 n8 c10 im10 hS12
      refine s2W [] ?_
      refine osT 3 hS12 ?_
      intro w11 im11 hS13
      refine pu ?_
      refine se (t_then ?_)
      refine blk (sq2 (pu ?_))
      refine nil (t_thenR [(4, pt b2 0), (5, iv x4), (7, pt b3 0), (12, sv a1 p0.Code c1), (13, iv (List.length p0.Code : Int)), (14, iv x4), (36, .bool (y1.1.Op != 3))] ⟨rfl, rfl, rfl, rfl, rfl, rfl, rfl, trivial⟩ fun J => ?_)
      refine cd hm ?_ ?_ <;> intro hb3 hm
      · exact je hm (hS13.sel (nrow 2 5) rfl)
      refine sq2 (cd hm ?_ ?_) <;> intro hb4 hm
      · refine bS (r := (rInt .i64)) (l := ([IntKind.wrap .i64 (x4 + 1)] : List Int)) (css := [[iv (IntKind.wrap .i64 (x4 + 1))]]) hS13 ⟨rfl, trivial⟩ ?_
        intro w12 a11 n9 c11 im12 hS14
        obtain ⟨z_2, hro2, hm⟩ := bindS hm
        refine aO 6 hS14 (room_some hro2) ?_
        intro w13 a12 n10 c12 im13 hS15
        refine sT 4 hS15 ?_
        intro w14 im14 hS16
        exact je hm (hS16.sel (nrow 3 5) rfl)
      refine sq2 (cd hm ?_ ?_) <;> intro hb5 hm
      · refine bS (r := (rInt .i64)) (l := ([x4] : List Int)) (css := [[iv x4]]) hS13 ⟨rfl, trivial⟩ ?_
        intro w15 a13 n11 c13 im15 hS17
        obtain ⟨z_3, hro3, hm⟩ := bindS hm
        refine aO 7 hS17 (room_some hro3) ?_
        intro w16 a14 n12 c14 im16 hS18
        refine sT 4 hS18 ?_
        intro w17 im17 hS19
        exact je hm (hS19.sel (nrow 3 5) rfl)
      exact je hm (hS13.sel (nrow 2 5) rfl)
    rintro _ w4 ⟨T2, x9, a6, n4, c6, a7, n5, c7, a8, n6, c8, J, hm, rfl, hS20, im4⟩
    exact lg hm hn1 (hS20.sel (nrow 0 5) rfl)
  have hm := brkE hm hn1 hq1
  refine pn ?_
  refine sq2 (pn ?_)
  obtain ⟨T4, im18, hS21, h3, rfl⟩ := hS6.sl 2
  obtain ⟨T5, im19, hS22, h4, rfl⟩ := hS21.sl 3
  obtain ⟨T6, im20, hS23, h5, rfl⟩ := hS22.sl 4
  exact re hm (hS23.sel [0, 1] rfl)

theorem bound_target_sim {p0} {p1 : GInst} (hS : Sep g T0 w0 [starL R])  : ∀ r, bound_target p0 p1 = some r →
    Calls Tryz.prog 37 #[iv p0, .agg (cGInst p1).toArray] w0 (RetS T0 w0 fun T w v => v = iv r ∧ Sep g T w (R ++ []) ∧ True) := by
  intro r hm
  refine enter Tryz.func37 rfl Tryz.ntmps37 rfl fun J => ?_
  unfold bound_target at hm
  refine sq2 (bX (cGInst p1) hS ?_)
  intro w1 b1 im1 hS1
  refine pn ?_
  exact sq2 (re hm (hS1.sel [1] rfl))

theorem bound_graph_has_sim {p0 : BoundGraph} {b_p0 o_p0 : Nat} {H_p0 : List Value → Assn} {a1 c1 a2 c2 a3 c3 p1} (hS : Sep g T0 w0 [starL R, H_p0 [sv a1 p0.code c1, sv a2 p0.backs c2, sv a3 p0.marks c3]]) (hL_p0 : Ln b_p0 o_p0 H_p0) (h1 : SlR rGInst T0 w0 (sv a1 p0.code c1) p0.code) (h2 : SlR (rInt .i64) T0 w0 (sv a2 p0.backs c2) p0.backs) (h3 : SlR (rInt .i64) T0 w0 (sv a3 p0.marks c3) p0.marks) : ∀ r, bound_graph_has p0 p1 = some r →
    Calls Tryz.prog 18 #[pt b_p0 o_p0, iv p1] w0 (RetS T0 w0 fun T w v => v = .bool r ∧ Sep g T w (R ++ [H_p0 [sv a1 p0.code c1, sv a2 p0.backs c2, sv a3 p0.marks c3]]) ∧ True) := by
  intro r hm
  refine enter Tryz.func18 rfl Tryz.ntmps18 rfl fun J => ?_
  unfold bound_graph_has at hm
  refine sq2 (pn ?_)
  refine sq2 (pu ?_)
  refine fkC (d := 15) (c := ((decide (0 ≤ p1)) && (decide (p1 < (List.length p0.code : Int))))) 8 [] rfl (fun hk => ?_) fun J => ?_
  · rcases Bool.eq_false_or_eq_true (decide (0 ≤ p1)) with hb1 | hb1
    · exact  gT (d0 := 7) rfl rfl hb1 (pv (r_mi rfl) (gT (d0 := 7) rfl rfl hb1 (pv (r_mp rfl) (gT (d0 := 7) rfl rfl hb1 (pv (r_nc rfl) (gT (d0 := 7) rfl rfl hb1 (pv (r_fa rfl underlying59 rfl sizeOf56 rfl) (gT (d0 := 7) rfl rfl hb1 (pv (r_ld rfl isAgg56 (hS.cellB (i := 1) ⟨rfl, rfl⟩ hL_p0 (j := 0) rfl)) (gT (d0 := 7) rfl rfl hb1 (pv (r_ln rfl underlying56) (gT (d0 := 7) rfl rfl hb1 (pv (r_ib rfl rfl rfl) (pv (r_pkt rfl hb1 rfl) (wlR (fun J => hk J _ (by rw [hb1]; rfl)) ⟨rfl, trivial⟩)))))))))))))))
    exact  gF7 (d0 := 7) rfl rfl (by rw [hb1]; rfl) (pv (r_pkf rfl hb1 rfl) (wlR (fun J => hk J _ (by rw [hb1]; rfl)) ⟨rfl, trivial⟩))
  exact re hm (hS.sel [0, 1] rfl)

theorem bound_graph_mark_sim {p0 : BoundGraph} {b_p0 o_p0 : Nat} {H_p0 : List Value → Assn} {a1 c1 a2 c2 a3 c3} (hS : Sep g T0 w0 [starL R, H_p0 [sv a1 p0.code c1, sv a2 p0.backs c2, sv a3 p0.marks c3]]) (hL_p0 : Ln b_p0 o_p0 H_p0) (h1 : SlR rGInst T0 w0 (sv a1 p0.code c1) p0.code) (h2 : SlR (rInt .i64) T0 w0 (sv a2 p0.backs c2) p0.backs) (h3 : SlR (rInt .i64) T0 w0 (sv a3 p0.marks c3) p0.marks) : ∀ r, bound_graph_mark p0 = some r →
    Calls Tryz.prog 17 #[pt b_p0 o_p0] w0 (RetS T0 w0 fun T w v => v = iv r ∧ Sep g T w (R ++ [H_p0 [sv a1 p0.code c1, sv a2 p0.backs c2, sv a3 p0.marks c3]]) ∧ True) := by
  intro r hm
  refine enter Tryz.func17 rfl Tryz.ntmps17 rfl fun J => ?_
  unfold bound_graph_mark at hm
  refine sq2 (pn ?_)
  refine sq2 (rsS [0, 0, 0, 1, 0, 1, 0, 0, 0, 1, 0, 0, 0, 1, 0, 1, 0, 1, 2, 0] [0, 1, 2, 3, 4, 5, 6, 7, 8, 9, 10, 11, 12, 13, 14, 15, 16, 17, 18, 19] hS fun w1 im1 hS1 => ?_)
  obtain ⟨u1, hx1, hm⟩ := bindS hm
  obtain ⟨u2, hx2, hm⟩ := bindS hm
  obtain rfl : u1 = u2 := oI (hx1.symm.trans hx2)
  obtain ⟨u3, hx3, hm⟩ := bindS hm
  obtain ⟨y1, hx4, hm⟩ := bindS hm
  refine sS [] cf37 (bound_target_sim (hS1.bun [0, 1] [] rfl) _ hx4) ?_
  rintro _ T1 w2 im2 ⟨rfl, hS2, _⟩
  refine pn ?_
  refine sq2 (sq2 (pn ?_))
  refine lpJ hm (fun bd1 o1 m a w3 => ∃ T2 x1, JR (nf 44) g T1 w2 a w3 T2 (loopM bd1 m x1 = some o1) [(0, pt b_p0 o_p0), (3, iv y1), (4, iv x1)] [starL R, H_p0 [sv a1 p0.code c1, sv a2 p0.backs c2, sv a3 p0.marks c3]]) (fun _ _ h => je h (hS2.sel [0, 1] rfl)) ?_
  rintro bd1 hbd1 o1 hq1 _ _ w3 ⟨T2, x1, J, ho1, rfl, hS3, im3⟩
  obtain ⟨m1, z1, rfl, hm, hn1⟩ := lrE ho1 hbd1
  refine sq2 (sq2 (pu ?_))
  refine cB cf18 hm (bound_graph_has_sim (hS3.bun [0] [1] rfl) hL_p0 (h1.mono ch) (h2.mono ch) (h3.mono ch)) ?_
  rintro y2 _ T3 w4 im4 ⟨rfl, hS4, _⟩ hm
  refine cd hm ?_ ?_ <;> intro hb1 hm
  · refine pn ?_
    refine sq2 (blk (sq2 ?_))
    obtain ⟨u4, hx6, hm⟩ := bindS hm
    refine cd hm ?_ ?_ <;> intro hb2 hm
    · refine sq2 (pn ?_)
      have hm := retE hm hn1 hq1
      exact re hm (hS4.sel [0, 1] rfl)
    exact lg hm hn1 (hS4.sel [0, 1] rfl)
  have hm := brkE hm hn1 hq1
  refine pn ?_
  exact sq2 (re hm (hS4.sel [0, 1] rfl))

theorem bound_graph_on_sim {p0 : BoundGraph} {b_p0 o_p0 : Nat} {H_p0 : List Value → Assn} {a1 c1 a2 c2 a3 c3 p1} (hS : Sep g T0 w0 [starL R, H_p0 [sv a1 p0.code c1, sv a2 p0.backs c2, sv a3 p0.marks c3]]) (hL_p0 : Ln b_p0 o_p0 H_p0) (h1 : SlR rGInst T0 w0 (sv a1 p0.code c1) p0.code) (h2 : SlR (rInt .i64) T0 w0 (sv a2 p0.backs c2) p0.backs) (h3 : SlR (rInt .i64) T0 w0 (sv a3 p0.marks c3) p0.marks) : ∀ r, bound_graph_on p0 p1 = some r →
    Calls Tryz.prog 38 #[pt b_p0 o_p0, iv p1] w0 (RetS T0 w0 fun T w v => ∃ b3 b4, v = .func (.func 68) #[] #[pt b3 0, pt b4 0] ∧ Sep g T w (R ++ [H_p0 [sv a1 p0.code c1, sv a2 p0.backs c2, sv a3 p0.marks c3], boxA b3 [pt b_p0 o_p0], boxA b4 [iv r]]) ∧ True) := by
  intro r hm
  refine enter Tryz.func38 rfl Tryz.ntmps38 rfl fun J => ?_
  unfold bound_graph_on at hm
  refine sq2 (bX [pt b_p0 o_p0] hS ?_)
  intro w1 b1 im1 hS1
  refine bX [iv p1] hS1 ?_
  intro w2 b2 im2 hS2
  refine pv (r_zx (v := .nilFunc) rfl) (pn ?_)
  refine sq2 (pu ?_)
  exact pv (r_mkf (u := .func (.func 68) #[] #[pt b1 0, pt b2 0]) rfl) (pv (r_zf rfl) (re hm (hS2.sel [2, 3, 1, 0] rfl)))

theorem bound_graph_leads_sim {p0 : BoundGraph} {b_p0 o_p0 : Nat} {H_p0 : List Value → Assn} {a1 c1 a2 c2 a3 c3 p1} (hS : Sep g T0 w0 [starL R, H_p0 [sv a1 p0.code c1, sv a2 p0.backs c2, sv a3 p0.marks c3]]) (hL_p0 : Ln b_p0 o_p0 H_p0) (h1 : SlR rGInst T0 w0 (sv a1 p0.code c1) p0.code) (h2 : SlR (rInt .i64) T0 w0 (sv a2 p0.backs c2) p0.backs) (h3 : SlR (rInt .i64) T0 w0 (sv a3 p0.marks c3) p0.marks) : ∀ r, bound_graph_leads p0 p1 = some r →
    Calls Tryz.prog 69 #[pt b_p0 o_p0, iv p1] w0 (RetS T0 w0 fun T w v => ∃ a7 c7, v = sv a7 r c7 ∧ Sep g T w (R ++ [H_p0 [sv a1 p0.code c1, sv a2 p0.backs c2, sv a3 p0.marks c3]]) ∧ SlR (rInt .i64) T w (sv a7 r c7) r ∧ True) := by
  intro r hm
  refine enter Tryz.func69 rfl Tryz.ntmps69 rfl fun J => ?_
  unfold bound_graph_leads at hm
  refine sq2 (pn ?_)
  refine sq2 ?_
  obtain ⟨u1, hx1, hm⟩ := bindS hm
  refine aL [iv 0, iv 0, iv 0, iv 0, iv 0] hS ?_
  intro w1 b1 im1 hS1
  refine sT 0 hS1 ?_
  intro w2 im2 hS2
  refine pn ?_
  refine sq2 (blk (sq2 (pu ?_)))
  refine fkC (d := 21) (c := ((u1.Op == 3) && (u1.Rd == 5))) 4 [(0, pt b_p0 o_p0), (1, iv p1), (5, pt b1 0)] rfl (fun hk => ?_) fun J => ?_
  · rcases Bool.eq_false_or_eq_true (u1.Op == 3) with hb1 | hb1
    · exact  gT (d0 := 17) rfl rfl hb1 (pv (r_fa rfl underlying104 rfl sizeOf3 rfl) (gT (d0 := 17) rfl rfl hb1 (pv (r_ld rfl isAgg3 (hS2.cell0 (i := 0) ⟨rfl, rfl⟩ (j := 1) rfl)) (gT (d0 := 17) rfl rfl hb1 (pv (r_ib rfl rfl rfl) (pv (r_pkt rfl hb1 rfl) (wlR (fun J => hk J _ (by rw [hb1]; rfl)) ⟨rfl, rfl, rfl, rfl, trivial⟩)))))))
    exact  gF3 (d0 := 17) rfl rfl (by rw [hb1]; rfl) (pv (r_pkf rfl hb1 rfl) (wlR (fun J => hk J _ (by rw [hb1]; rfl)) ⟨rfl, rfl, rfl, rfl, trivial⟩))
  refine cd hm ?_ ?_ <;> intro hb2 hm
  · exact sq2 (re hm (hS2.sel [1, 2] rfl))
  refine sq2 (cd hm ?_ ?_) <;> intro hb3 hm
  · refine sq2 (pu ?_)
    refine cB cf37 hm (bound_target_sim (hS2.bun [1, 2] [] rfl)) ?_
    rintro y1 _ T1 w3 im3 ⟨rfl, hS3, _⟩ hm
    refine bS (r := (rInt .i64)) (l := ([y1] : List Int)) (css := [[iv y1]]) hS3 ⟨rfl, trivial⟩ ?_
    intro w4 a4 n1 c4 im4 hS4
    refine pn ?_
    obtain ⟨T2, im5, hS5, h4, rfl⟩ := hS4.sl 0
    exact re hm (hS5.sel [1, 2] rfl)
  refine sq2 (pu ?_)
  refine fkC (d := 38) (c := ((u1.Op == 4) && (u1.Rd == 0))) 4 [(0, pt b_p0 o_p0), (1, iv p1), (5, pt b1 0)] rfl (fun hk => ?_) fun J => ?_
  · rcases Bool.eq_false_or_eq_true (u1.Op == 4) with hb4 | hb4
    · exact  gT (d0 := 34) rfl rfl hb4 (pv (r_fa rfl underlying104 rfl sizeOf3 rfl) (gT (d0 := 34) rfl rfl hb4 (pv (r_ld rfl isAgg3 (hS2.cell0 (i := 0) ⟨rfl, rfl⟩ (j := 1) rfl)) (gT (d0 := 34) rfl rfl hb4 (pv (r_ib rfl rfl rfl) (pv (r_pkt rfl hb4 rfl) (wlR (fun J => hk J _ (by rw [hb4]; rfl)) ⟨rfl, rfl, rfl, rfl, trivial⟩)))))))
    exact  gF3 (d0 := 34) rfl rfl (by rw [hb4]; rfl) (pv (r_pkf rfl hb4 rfl) (wlR (fun J => hk J _ (by rw [hb4]; rfl)) ⟨rfl, rfl, rfl, rfl, trivial⟩))
  refine pu ?_
  refine fkC (d := 43) (c := (((u1.Op == 4) && (u1.Rd == 0)) && (u1.Rs1 == 1))) 4 [(0, pt b_p0 o_p0), (1, iv p1), (5, pt b1 0)] rfl (fun hk => ?_) fun J => ?_
  · rcases Bool.eq_false_or_eq_true ((u1.Op == 4) && (u1.Rd == 0)) with hb5 | hb5
    · exact  gT (d0 := 39) rfl rfl hb5 (pv (r_fa rfl underlying104 rfl sizeOf3 rfl) (gT (d0 := 39) rfl rfl hb5 (pv (r_ld rfl isAgg3 (hS2.cell0 (i := 0) ⟨rfl, rfl⟩ (j := 2) rfl)) (gT (d0 := 39) rfl rfl hb5 (pv (r_ib rfl rfl rfl) (pv (r_pkt rfl hb5 rfl) (wlR (fun J => hk J _ (by rw [hb5]; rfl)) ⟨rfl, rfl, rfl, rfl, trivial⟩)))))))
    exact  gF3 (d0 := 39) rfl rfl (by rw [hb5]; rfl) (pv (r_pkf rfl hb5 rfl) (wlR (fun J => hk J _ (by rw [hb5]; rfl)) ⟨rfl, rfl, rfl, rfl, trivial⟩))
  refine pu ?_
  refine fkC (d := 48) (c := ((((u1.Op == 4) && (u1.Rd == 0)) && (u1.Rs1 == 1)) && (u1.Imm == 0))) 4 [(0, pt b_p0 o_p0), (1, iv p1), (5, pt b1 0)] rfl (fun hk => ?_) fun J => ?_
  · rcases Bool.eq_false_or_eq_true (((u1.Op == 4) && (u1.Rd == 0)) && (u1.Rs1 == 1)) with hb6 | hb6
    · exact  gT (d0 := 44) rfl rfl hb6 (pv (r_fa rfl underlying104 rfl sizeOf3 rfl) (gT (d0 := 44) rfl rfl hb6 (pv (r_ld rfl isAgg3 (hS2.cell0 (i := 0) ⟨rfl, rfl⟩ (j := 4) rfl)) (gT (d0 := 44) rfl rfl hb6 (pv (r_ib rfl rfl rfl) (pv (r_pkt rfl hb6 rfl) (wlR (fun J => hk J _ (by rw [hb6]; rfl)) ⟨rfl, rfl, rfl, rfl, trivial⟩)))))))
    exact  gF3 (d0 := 44) rfl rfl (by rw [hb6]; rfl) (pv (r_pkf rfl hb6 rfl) (wlR (fun J => hk J _ (by rw [hb6]; rfl)) ⟨rfl, rfl, rfl, rfl, trivial⟩))
  refine cd hm ?_ ?_ <;> intro hb7 hm
  · exact sq2 (re hm (hS2.sel [1, 2] rfl))
  refine sq2 (cd hm ?_ ?_) <;> intro hb8 hm
  · exact sq2 (re hm (hS2.sel [1, 2] rfl))
  refine sq2 (pu ?_)
  refine fkC (d := 65) (c := ((decide (5 ≤ u1.Op)) && (decide (u1.Op ≤ 10)))) 4 [(1, iv p1), (5, pt b1 0)] rfl (fun hk => ?_) fun J => ?_
  · rcases Bool.eq_false_or_eq_true (decide (5 ≤ u1.Op)) with hb9 | hb9
    · exact  gT (d0 := 61) rfl rfl hb9 (pv (r_fa rfl underlying104 rfl sizeOf3 rfl) (gT (d0 := 61) rfl rfl hb9 (pv (r_ld rfl isAgg3 (hS2.cell0 (i := 0) ⟨rfl, rfl⟩ (j := 0) rfl)) (gT (d0 := 61) rfl rfl hb9 (pv (r_ib rfl rfl rfl) (pv (r_pkt rfl hb9 rfl) (wlR (fun J => hk J _ (by rw [hb9]; rfl)) ⟨rfl, rfl, rfl, trivial⟩)))))))
    exact  gF3 (d0 := 61) rfl rfl (by rw [hb9]; rfl) (pv (r_pkf rfl hb9 rfl) (wlR (fun J => hk J _ (by rw [hb9]; rfl)) ⟨rfl, rfl, rfl, trivial⟩))
  refine cd hm ?_ ?_ <;> intro hb10 hm
  · refine sq2 (pu ?_)
    refine cB cf37 hm (bound_target_sim (hS2.bun [1, 2] [] rfl)) ?_
    rintro y2 _ T3 w5 im6 ⟨rfl, hS6, _⟩ hm
    refine bS (r := (rInt .i64)) (l := ([y2, IntKind.wrap .i64 (p1 + 1)] : List Int)) (css := [[iv y2], [iv (IntKind.wrap .i64 (p1 + 1))]]) hS6 ⟨rfl, rfl, trivial⟩ ?_
    intro w6 a5 n2 c5 im7 hS7
    refine pn ?_
    obtain ⟨T4, im8, hS8, h5, rfl⟩ := hS7.sl 0
    exact re hm (hS8.sel [1, 2] rfl)
  refine pn ?_
  refine sq2 (bS (r := (rInt .i64)) (l := ([IntKind.wrap .i64 (p1 + 1)] : List Int)) (css := [[iv (IntKind.wrap .i64 (p1 + 1))]]) hS2 ⟨rfl, trivial⟩ ?_)
  intro w7 a6 n3 c6 im9 hS9
  refine pn ?_
  obtain ⟨T5, im10, hS10, h6, rfl⟩ := hS9.sl 0
  exact re hm (hS10.sel [2, 3] rfl)

theorem bound_graph_on_1_sim {σ ε : Type} {p0 : σ → Int → Option (Lp σ ε)} {p1 : σ} {U_p0 : Lp σ ε → Assn} {l_p0} {p2 : BoundGraph} {b_p2 o_p2 : Nat} {H_p2 : List Value → Assn} {b1 oo1} {H1 : List Value → Assn} {a1 c1 a2 c2 a3 c3 p3} {b_p3 o_p3 : Nat} {H_p3 : List Value → Assn} (hS : Sep g T0 w0 [starL R, U_p0 (.go p1), H_p2 [pt b1 oo1], H1 [sv a1 p2.code c1, sv a2 p2.backs c2, sv a3 p2.marks c3], H_p3 [iv p3]]) (hY_p0 : ∀ (T2 : TP) (w2 : World) (s : σ) (q0 : Int) (z : Lp σ ε) (R2 : Assn), Im T0 w0 T2 w2 → Sep g T2 w2 [R2, U_p0 (.go s)] → p0 s q0 = some z → YieldS Tryz.prog l_p0 #[iv q0] T2 w2 fun T3 w3 b => b = z.isGo ∧ Sep g T3 w3 [R2, U_p0 z]) (hL_p2 : Ln b_p2 o_p2 H_p2) (hL1 : Ln b1 oo1 H1) (h1 : SlR rGInst T0 w0 (sv a1 p2.code c1) p2.code) (h2 : SlR (rInt .i64) T0 w0 (sv a2 p2.backs c2) p2.backs) (h3 : SlR (rInt .i64) T0 w0 (sv a3 p2.marks c3) p2.marks) (hL_p3 : Ln b_p3 o_p3 H_p3) : ∀ r, bound_graph_on_1 p0 p1 p2 p3 = some r →
    Calls Tryz.prog 68 #[.func (.yield l_p0) #[] #[], pt b_p2 o_p2, pt b_p3 o_p3] w0 (RetS T0 w0 fun T w v => v = .tuple #[] ∧ Sep g T w (R ++ [U_p0 r, H_p2 [pt b1 oo1], H1 [sv a1 p2.code c1, sv a2 p2.backs c2, sv a3 p2.marks c3], H_p3 [iv p3]]) ∧ True) := by
  intro r hm
  refine enter Tryz.func68 rfl Tryz.ntmps68 rfl fun J => ?_
  unfold bound_graph_on_1 at hm
  refine sq2 (pu ?_)
  refine cB cf69 hm (bound_graph_leads_sim (hS.bun [0, 1, 2, 4] [3] rfl) hL1 h1 h2 h3) ?_
  rintro y1 _ T1 w1 im1 ⟨a4, c4, rfl, hS1, h4, _⟩ hm
  refine pn ?_
  refine lpJ hm (fun bd1 o1 m a w2 => ∃ (T2 : _) (x1 : σ) (x2 : _), JR (nf 24) g T1 w1 a w2 T2 (loopM bd1 m (x1, x2) = some o1) [(0, .func (.yield l_p0) #[] #[]), (1, pt b_p2 o_p2), (8, sv a4 y1 c4), (9, iv (List.length y1 : Int)), (10, iv x2)] [starL R, H_p3 [iv p3], U_p0 (.go x1), H_p2 [pt b1 oo1], H1 [sv a1 p2.code c1, sv a2 p2.backs c2, sv a3 p2.marks c3]]) (fun _ _ h => je h (hS1.sel [0, 3, 1, 2, 4] rfl)) ?_
  rintro bd1 hbd1 o1 hq1 _ _ w2 ⟨T2, x1, x2, J, ho1, rfl, hS2, im2⟩
  obtain ⟨m1, z1, rfl, hm, hn1⟩ := lrE ho1 hbd1
  refine sq2 (pn ?_)
  refine sq2 (cd hm ?_ ?_) <;> intro hb1 hm
  · refine pn ?_
    refine sq2 (blk (sq2 ?_))
    obtain ⟨u1, hx2, hm⟩ := bindS hm
    refine pn ?_
    refine sq2 (ry [1, 0, 2, 0, 0, 0, 2, 0, 0] [0, 1, 2, 3, 4, 5, 6, 7, 8] rfl ?_)
    obtain ⟨y2, hx3, hm⟩ := bindS hm
    refine sS [] cf18 (bound_graph_has_sim (hS2.bun (nrow 0 4) [4] rfl) hL1 (h1.mono ch) (h2.mono ch) (h3.mono ch) _ hx3) ?_
    rintro _ T3 w3 im3 ⟨rfl, hS3, _⟩
    refine pu ?_
    rcases bc hm with ⟨hb2, hm⟩ | ⟨hb2, hm⟩
    · obtain ⟨z1, hx4, hm⟩ := bindS hm
      refine pu ?_
      refine s2I [] rfl ⟨_, rfl, congrArg Value.bool hb2⟩ rfl (by kernel_rfl) (yS rfl rfl (hY_p0 _ _ _ _ _ _ ch (hS3.bun [0, 1, 3, 4] [2] rfl) hx4) fun b2 T4 w4 im4 rv3 => ?_)
      obtain ⟨hb3, hS4⟩ := rv3
      have hS4 := hS4.unb
      refine pu ?_
      rcases go_or z1 with ⟨sg1, rfl⟩ | hz1
      · have hb3 : b2 = true := hb3
        subst hb3
        have hm := gone_go hm
        refine pn ?_
        refine cnd (b := false) rfl (fun h => nomatch h) (fun _ => ?_)
        exact lg hm hn1 (hS4.sel [0, 1, 4, 2, 3] rfl)
      have hb3 : b2 = false := hb3.trans hz1
      subst hb3
      have hm := gone_no hz1 hm
      refine pn ?_
      refine cnd (b := true) rfl (fun _ => ?_) (fun h => nomatch h)
      have hm := retE hm hn1 hq1
      exact re hm (hS4.sel [0, 4, 2, 3, 1] rfl)
    refine pn ?_
    refine cnd (b := false) rfl (fun h => nomatch h) (fun _ => ?_)
    exact lg hm hn1 (hS3.sel (nrow 0 5) rfl)
  have hm := brkE hm hn1 hq1
  have hm := oI hm; subst hm
  refine pn ?_
  exact end0 rfl ⟨_, rfl, _, ch, ⟨rfl, (hS2.sel [0, 2, 3, 4, 1] rfl).unb, trivial⟩⟩

theorem bound_walk_from_sim {p0 : BoundWalk} {b_p0 o_p0 : Nat} {H_p0 : List Value → Assn} {b1 oo1} {H1 : List Value → Assn} {a1 c1 a2 c2 a3 c3 a4 n1 c4 a5 n2 c5 p1} (hS : Sep g T0 w0 ([starL R] ++ gBoundWalk p0 H_p0 H1 b1 oo1 a1 c1 a2 c2 a3 c3 a4 n1 c4 a5 n2 c5)) (hL_p0 : Ln b_p0 o_p0 H_p0) (hL1 : Ln b1 oo1 H1) (h1 : SlR rGInst T0 w0 (sv a1 p0.x.code c1) p0.x.code) (h2 : SlR (rInt .i64) T0 w0 (sv a2 p0.x.backs c2) p0.x.backs) (h3 : SlR (rInt .i64) T0 w0 (sv a3 p0.x.marks c3) p0.x.marks) : ∀ r, bound_walk_from p0 p1 = some r →
    Calls Tryz.prog 19 #[pt b_p0 o_p0, iv p1] w0 (RetS T0 w0 fun T w v => ∃ a13 c13 a14 c14 a15 c15, v = .bool r.1 ∧ Sep g T w (R ++ gBoundWalk r.2 H_p0 H1 b1 oo1 a13 c13 a14 c14 a15 c15 a4 n1 c4 a5 n2 c5) ∧ SlR rGInst T w (sv a13 r.2.x.code c13) r.2.x.code ∧ SlR (rInt .i64) T w (sv a14 r.2.x.backs c14) r.2.x.backs ∧ SlR (rInt .i64) T w (sv a15 r.2.x.marks c15) r.2.x.marks ∧ True) := by
  intro r hm
  refine enterM Tryz.func19 rfl Tryz.ntmps19 rfl fun J => ?_
  unfold bound_walk_from at hm
  have hS : Sep g T0 w0 ([marksA [], starL R] ++ gBoundWalk p0 H_p0 H1 b1 oo1 a1 c1 a2 c2 a3 c3 a4 n1 c4 a5 n2 c5) := hS.bun [] (nrow 0 5) rfl
  refine mk0 ?_
  refine sq2 (bX [pt b_p0 o_p0] hS ?_)
  intro w1 b2 im1 hS1
  refine aL [.bool false] hS1 ?_
  intro w2 b3 im2 hS2
  refine pn ?_
  refine sq2 (bS (r := (rInt .i64)) (l := ([p1] : List Int)) (css := [[iv p1]]) hS2 ⟨rfl, trivial⟩ ?_)
  intro w3 a6 n3 c6 im3 hS3
  refine aL [.slice none 0 0] hS3 ?_
  intro w4 b4 im4 hS4
  refine sT 0 hS4 ?_
  intro w5 im5 hS5
  refine pn ?_
  refine sq2 (lpJ hm (fun bd1 o1 m a w6 => ∃ (T1 : _) (x5 : List Int) (x4 : _) (x1 : List Int) (x2 : List Int) (a7 : _) (n4 : _) (c7 : _) (ds1 : List Nat), JR (⟨119, mks ds1⟩) g T0 w5 a w6 T1 (loopM bd1 m (x1, x2, x4, x5) = some o1) [(2, pt b2 0), (4, pt b3 0), (5, pt b4 0)] ([marksA ds1, starL R, boxA b2 [pt b_p0 o_p0]] ++ (gBoundWalk (⟨p0.x, x1, x2⟩ : BoundWalk) H_p0 H1 b1 oo1 a1 c1 a2 c2 a3 c3 a4 n1 c4 a5 n2 c5 ++ [boxA b3 [.bool x4], boxA b4 [.slice a7 n4 c7], ownA (rInt .i64) 3 (.slice a7 n4 c7) x5]))) (fun _ _ h => je h (hS5.sel [4, 5, 3, 6, 7, 8, 9, 2, 0, 1] rfl)) ?_)
  rintro bd1 hbd1 o1 hq1 _ _ w6 ⟨T1, x5, x4, x1, x2, a7, n4, c7, ds1, J, ho1, rfl, hS6, im6⟩
  obtain ⟨m1, z1, rfl, hm, hn1⟩ := lrE ho1 hbd1
  refine sq2 (sq2 (cd hm ?_ ?_)) <;> intro hb1 hm
  · refine pn ?_
    refine blk (sq2 ?_)
    obtain ⟨u1, hx1, hm⟩ := bindS hm
    refine pn ?_
    refine sq2 (sq2 ?_)
    obtain ⟨u2, hx2, hm⟩ := bindS hm
    refine cd hm ?_ ?_ <;> intro hb2 hm
    · refine sq2 (pu ?_)
      obtain ⟨u3, hx3, hm⟩ := bindS hm
      obtain ⟨a8, n5, c8, he1, hS7⟩ := hS6.cutA (q := 9) ⟨rfl, rfl⟩ hx3
      refine pv (r_slV rfl (hS6.own (i := 9) ⟨rfl, rfl⟩).v rfl ⟨_, rfl⟩ hx3 underlying57 sizeOf3 rfl he1) (sT 8 hS7 ?_)
      intro w7 im7 hS8
      exact lg hm hn1 (hS8.sel (nrow 0 10) rfl)
    refine pn ?_
    refine sq2 ?_
    obtain ⟨u4, hx4, hm⟩ := bindS hm
    obtain rfl : u2 = u4 := oI (hx2.symm.trans hx4)
    refine aL [.bool false] hS6 ?_
    intro w8 b5 im8 hS9
    refine sT 0 hS9 ?_
    intro w9 im9 hS10
    refine pn ?_
    refine sq2 ?_
    obtain ⟨u5, hx5, hm⟩ := bindS hm
    obtain rfl : u2 = u5 := oI (hx4.symm.trans hx5)
    obtain ⟨u6, hx6, hm⟩ := bindS hm
    obtain rfl : u2 = u6 := oI (hx5.symm.trans hx6)
    refine pu ?_
    refine wl rfl (stOc (q := 6) (j := 0) (u' := 1) hS10 ⟨rfl, rfl⟩ hx6 rfl rfl rfl sizeOf3 rfl rfl rfl (fun c0 hc0 => by rw [storeL_all (r := (rInt .i64)) hc0 rfl]; exact rfl) fun w10 im10 hS11 => ?_)
    refine nil (t_thenR [(2, pt b2 0), (4, pt b3 0), (5, pt b4 0), (6, iv u1), (7, pt b5 0)] ⟨rfl, rfl, rfl, rfl, rfl, trivial⟩ fun J => ?_)
    refine sq2 (aL [iv 0] hS11 ?_)
    intro w11 b6 im11 hS12
    refine sT 0 hS12 ?_
    intro w12 im12 hS13
    refine pn ?_
    refine sq2 (sq2 (pu ?_))
    refine cB cf38 hm (bound_graph_on_sim (hS13.bun (nrow 0 6 ++ nrow 7 5) [6] rfl) hL1 (h1.mono ch) (h2.mono ch) (h3.mono ch)) ?_
    rintro y1 _ T2 w13 im13 ⟨b7, b8, rfl, hS14, _⟩ hm
    refine pn ?_
    refine blk ?_
    obtain ⟨o1, ho1, hm⟩ := bindS hm
    have hB1 := hS14.bun ([2] ++ nrow 4 7 ++ [1, 0]) [3, 12, 11, 13] rfl
    have hB1 : Sep g T2 w13 (starL [marksA ds1, boxA b2 [pt b_p0 o_p0], H_p0 [pt b1 oo1, .slice a4 n1 c4, .slice a5 n2 c5], ownA (rInt .i64) 3 (.slice a4 n1 c4) (List.set x1 (Int.toNat u1) 1), ownA (rInt .i64) 3 (.slice a5 n2 c5) x2, boxA b3 [.bool x4], boxA b4 [.slice a7 n4 c7], ownA (rInt .i64) 3 (.slice a7 n4 c7) x5, boxA b5 [.bool (u2 == 0)], boxA b6 [iv 0]] :: [starL R, boxA b7 [pt b1 oo1], H1 [sv a1 p0.x.code c1, sv a2 p0.x.backs c2, sv a3 p0.x.marks c3], boxA b8 [iv y1]]) := hB1
    have hA1 : Sep g T2 w13 ((fun (x7 : Bool) (x8 : List Int) (x9 : Int) => exA fun a9 => exA fun n6 => exA fun c9 => starL [marksA ds1, boxA b2 [pt b_p0 o_p0], H_p0 [pt b1 oo1, .slice a4 n1 c4, .slice a5 n2 c5], ownA (rInt .i64) 3 (.slice a4 n1 c4) (List.set x1 (Int.toNat u1) 1), ownA (rInt .i64) 3 (.slice a5 n2 c5) x2, boxA b3 [.bool x7], boxA b4 [.slice a9 n6 c9], ownA (rInt .i64) 3 (.slice a9 n6 c9) x8, boxA b5 [.bool (u2 == 0)], boxA b6 [iv x9]]) x4 x5 0 :: [starL R, boxA b7 [pt b1 oo1], H1 [sv a1 p0.x.code c1, sv a2 p0.x.backs c2, sv a3 p0.x.marks c3], boxA b8 [iv y1]]) := Sep.exI _ (Sep.exI _ (Sep.exI _ (hB1)))
    refine wpR [(2, pt b2 0), (4, pt b3 0), (5, pt b4 0), (6, iv u1), (7, pt b5 0), (8, pt b6 0), (53, .func (.func 68) #[] #[pt b7 0, pt b8 0])] ⟨rfl, rfl, rfl, rfl, rfl, rfl, rfl, trivial⟩ fun J => ?_
    refine rfS (σ := Bool × (List Int) × Int) (ε := Unit) (yb := (fun (sx : Bool × (List Int) × Int) (x10 : Int) => (match sx with | (x7, x8, x9) => (idx (List.set x1 (Int.toNat u1) 1) x10).bind fun u7 => bif u7 == 2 then ((idx x2 x10).bind fun u8 => some (Lp.go (x7, x8, max x9 u8))) else (bif u2 == 0 then ((idx (List.set x1 (Int.toNat u1) 1) x10).bind fun u9 => bif u9 == 0 then ((room (List.length x8 + List.length ([x10] : List Int))).bind fun _ => some (Lp.go (x7, x8 ++ ([x10] : List Int), x9))) else ((idx (List.set x1 (Int.toNat u1) 1) x10).bind fun u10 => bif u10 == 1 then (some (Lp.brk (false, x8, x9))) else (some (Lp.go (x7, x8, x9))))) else ((idx (List.set x1 (Int.toNat u1) 1) x10).bind fun u11 => bif u11 == 1 then (some (Lp.brk (false, x8, x9))) else (some (Lp.go (x7, x8, x9))))) : Option (Lp (Bool × (List Int) × Int) Unit)))) (encs := fun (x10 : Int) => #[iv x10]) (jump := fun z => match z with | .go _ => none | _ => some .ret) (Yz := fun z => match z with | .go s => (fun (x7 : Bool) (x8 : List Int) (x9 : Int) => exA fun a9 => exA fun n6 => exA fun c9 => starL [marksA ds1, boxA b2 [pt b_p0 o_p0], H_p0 [pt b1 oo1, .slice a4 n1 c4, .slice a5 n2 c5], ownA (rInt .i64) 3 (.slice a4 n1 c4) (List.set x1 (Int.toNat u1) 1), ownA (rInt .i64) 3 (.slice a5 n2 c5) x2, boxA b3 [.bool x7], boxA b4 [.slice a9 n6 c9], ownA (rInt .i64) 3 (.slice a9 n6 c9) x8, boxA b5 [.bool (u2 == 0)], boxA b6 [iv x9]]) s.1 s.2.1 s.2.2 | .brk s => (fun (x7 : Bool) (x8 : List Int) (x9 : Int) => exA fun a9 => exA fun n6 => exA fun c9 => starL [marksA ds1, boxA b2 [pt b_p0 o_p0], H_p0 [pt b1 oo1, .slice a4 n1 c4, .slice a5 n2 c5], ownA (rInt .i64) 3 (.slice a4 n1 c4) (List.set x1 (Int.toNat u1) 1), ownA (rInt .i64) 3 (.slice a5 n2 c5) x2, boxA b3 [.bool x7], boxA b4 [.slice a9 n6 c9], ownA (rInt .i64) 3 (.slice a9 n6 c9) x8, boxA b5 [.bool (u2 == 0)], boxA b6 [iv x9]]) s.1 s.2.1 s.2.2 | _ => empA) (A := starL R) (C := starL [boxA b7 [pt b1 oo1], H1 [sv a1 p0.x.code c1, sv a2 p0.x.backs c2, sv a3 p0.x.marks c3], boxA b8 [iv y1]]) (s0 := (x4, x5, 0)) (o := o1) (Lx := fun x10 => [(9, iv x10), (54, iv x10), (2, pt b2 0), (4, pt b3 0), (5, pt b4 0), (6, iv u1), (7, pt b5 0), (8, pt b6 0), (53, .func (.func 68) #[] #[pt b7 0, pt b8 0])]) rfl cf68 ((hA1.bun [2, 3, 4] [1, 0] rfl).sel [1, 0, 2] rfl) (fun z => by cases z <;> rfl) (fun _ => rfl) ?_ ?_ ?_ ?_
    · intro l x w1 K hK
      rw [prm1]
      refine regIn (fun _ _ h => h) rfl ?_
      refine pn ?_
      exact hK
    · intro l T3 w14 s2 x10 z R2 im14 hS15 hm
      obtain ⟨x7, x8, x9⟩ := s2
      have hS15 : Sep g T3 w14 ((fun (x7 : Bool) (x8 : List Int) (x9 : Int) => exA fun a9 => exA fun n6 => exA fun c9 => starL [marksA ds1, boxA b2 [pt b_p0 o_p0], H_p0 [pt b1 oo1, .slice a4 n1 c4, .slice a5 n2 c5], ownA (rInt .i64) 3 (.slice a4 n1 c4) (List.set x1 (Int.toNat u1) 1), ownA (rInt .i64) 3 (.slice a5 n2 c5) x2, boxA b3 [.bool x7], boxA b4 [.slice a9 n6 c9], ownA (rInt .i64) 3 (.slice a9 n6 c9) x8, boxA b5 [.bool (u2 == 0)], boxA b6 [iv x9]]) x7 x8 x9 :: [R2]) := hS15.sel [1, 0] rfl
      obtain ⟨a9, hS15⟩ := Sep.exE hS15
      obtain ⟨n6, hS15⟩ := Sep.exE hS15
      obtain ⟨c9, hS15⟩ := Sep.exE hS15
      have hS15 := hS15.unb
      refine blkI ?_
      refine blkI ?_
      refine sq2I ?_
      obtain ⟨u7, hx8, hm⟩ := bindS hm
      refine regIn (fun _ _ h => rndOut h) rfl ?_
      refine pn ?_
      refine cndI rfl (fun hb3 => ?_) (fun hb3 => ?_)
      · have hm := ctrue hb3 hm
        refine rsI [1, 1, 0, 0, 1, 0, 0, 1, 0, 2] [0, 1, 2, 3, 4, 5, 6, 7, 8, 9] mix (by kernel_rfl) rfl hS15.lt fun w15 i1 => ?_
        have im15 := i1.imm
        have hS16 := hS15.keep i1 (fun _ h => h)
        obtain ⟨u8, hx9, hm⟩ := bindS hm
        refine pu ?_
        refine s0 rfl trivial (fun _ => r_imx rfl rfl) rfl ?_
        refine s2W [0, 0, 0, 0] ?_
        refine osT 9 hS16 ?_
        intro w16 im16 hS17
        refine pu ?_
        have hm := oI hm; subst hm
        refine pn ?_
        exact ⟨rfl, _, ch, (show Sep g T3 w16 ((fun (x7 : Bool) (x8 : List Int) (x9 : Int) => exA fun a9 => exA fun n6 => exA fun c9 => starL [marksA ds1, boxA b2 [pt b_p0 o_p0], H_p0 [pt b1 oo1, .slice a4 n1 c4, .slice a5 n2 c5], ownA (rInt .i64) 3 (.slice a4 n1 c4) (List.set x1 (Int.toNat u1) 1), ownA (rInt .i64) 3 (.slice a5 n2 c5) x2, boxA b3 [.bool x7], boxA b4 [.slice a9 n6 c9], ownA (rInt .i64) 3 (.slice a9 n6 c9) x8, boxA b5 [.bool (u2 == 0)], boxA b6 [iv x9]]) x7 x8 (max x9 u8) :: [R2]) from Sep.exI _ (Sep.exI _ (Sep.exI _ (hS17.bun (nrow 0 10) [10] rfl)))).sel [1, 0] rfl⟩
      have hm := cfalse hb3 hm
      refine sq2I ?_
      refine regIn (fun _ _ h => rndOut h) rfl (pv (r_ld rfl isAgg4 (hS15.cell0 (i := 8) ⟨rfl, rfl⟩ (j := 0) rfl)) (pv (r_mb rfl) (?_)))
      rcases bc hm with ⟨hb4, hm⟩ | ⟨hb4, hm⟩
      · obtain ⟨u9, hx10, hm⟩ := bindS hm
        obtain rfl : u7 = u9 := oI (hx8.symm.trans hx10)
        refine pn ?_
        refine cndI rfl (fun hb5 => ?_) (fun hb5 => ?_)
        · have hm := ctrue hb5 hm
          refine regIn (fun _ _ h => rndOut h) rfl (pv (r_ld rfl isAgg57 (hS15.cell0 (i := 6) ⟨rfl, rfl⟩ (j := 0) rfl)) (pv (r_mi rfl) (wl rfl (bsS (r := (rInt .i64)) (l := ([x10] : List Int)) (css := [[iv x10]]) hS15 underlying57 sizeOf3 zeroValue3 rfl rfl (by kernel_rfl) rfl ⟨rfl, trivial⟩ rfl rfl fun w17 a10 n7 c10 im17 hS18 => ?_))))
          obtain ⟨z_1, hro1, hm⟩ := bindS hm
          refine aO 8 hS18 (room_some hro1) ?_
          intro w18 a11 n8 c11 im18 hS19
          refine sT 7 hS19 ?_
          intro w19 im19 hS20
          have hm := oI hm; subst hm
          refine pn ?_
          exact ⟨rfl, _, ch, (show Sep g T3 w19 ((fun (x7 : Bool) (x8 : List Int) (x9 : Int) => exA fun a9 => exA fun n6 => exA fun c9 => starL [marksA ds1, boxA b2 [pt b_p0 o_p0], H_p0 [pt b1 oo1, .slice a4 n1 c4, .slice a5 n2 c5], ownA (rInt .i64) 3 (.slice a4 n1 c4) (List.set x1 (Int.toNat u1) 1), ownA (rInt .i64) 3 (.slice a5 n2 c5) x2, boxA b3 [.bool x7], boxA b4 [.slice a9 n6 c9], ownA (rInt .i64) 3 (.slice a9 n6 c9) x8, boxA b5 [.bool (u2 == 0)], boxA b6 [iv x9]]) x7 (x8 ++ ([x10] : List Int)) x9 :: [R2]) from Sep.exI _ (Sep.exI _ (Sep.exI _ (hS20.bun (nrow 1 10) [11] rfl)))).sel [1, 0] rfl⟩
        have hm := cfalse hb5 hm
        refine sq2I ?_
        obtain ⟨u10, hx11, hm⟩ := bindS hm
        obtain rfl : u7 = u10 := oI (hx10.symm.trans hx11)
        refine regIn (fun _ _ h => rndOut h) rfl ?_
        refine pu ?_
        refine nil (t_thenR [(2, pt b2 0), (4, pt b3 0), (5, pt b4 0), (6, iv u1), (7, pt b5 0), (8, pt b6 0), (89, .bool (u7 == 1))] ⟨rfl, rfl, rfl, rfl, rfl, rfl, rfl, trivial⟩ fun J => ?_)
        refine cndI rfl (fun hb6 => ?_) (fun hb6 => ?_)
        · have hm := ctrue hb6 hm
          refine sq2I ?_
          refine regIn (fun _ _ h => rndOut h) rfl (wl rfl (st0B (q := 5) hS15 ⟨rfl, rfl⟩ rfl rfl rfl sizeOf4 rfl rfl rfl fun w20 im20 hS21 => ?_))
          refine pn ?_
          have hm := oI hm; subst hm
          exact rtnI (r_blk (r_blk (⟨rfl, _, im20, (show Sep g T3 w20 ((fun (x7 : Bool) (x8 : List Int) (x9 : Int) => exA fun a9 => exA fun n6 => exA fun c9 => starL [marksA ds1, boxA b2 [pt b_p0 o_p0], H_p0 [pt b1 oo1, .slice a4 n1 c4, .slice a5 n2 c5], ownA (rInt .i64) 3 (.slice a4 n1 c4) (List.set x1 (Int.toNat u1) 1), ownA (rInt .i64) 3 (.slice a5 n2 c5) x2, boxA b3 [.bool x7], boxA b4 [.slice a9 n6 c9], ownA (rInt .i64) 3 (.slice a9 n6 c9) x8, boxA b5 [.bool (u2 == 0)], boxA b6 [iv x9]]) false x8 x9 :: [R2]) from Sep.exI _ (Sep.exI _ (Sep.exI _ (hS21.bun (nrow 0 10) [10] rfl)))).sel [1, 0] rfl⟩)))
        have hm := cfalse hb6 hm
        have hm := oI hm; subst hm
        exact skpI (t_blk (t_blk (⟨rfl, _, Im.refl, (show Sep g T3 w14 ((fun (x7 : Bool) (x8 : List Int) (x9 : Int) => exA fun a9 => exA fun n6 => exA fun c9 => starL [marksA ds1, boxA b2 [pt b_p0 o_p0], H_p0 [pt b1 oo1, .slice a4 n1 c4, .slice a5 n2 c5], ownA (rInt .i64) 3 (.slice a4 n1 c4) (List.set x1 (Int.toNat u1) 1), ownA (rInt .i64) 3 (.slice a5 n2 c5) x2, boxA b3 [.bool x7], boxA b4 [.slice a9 n6 c9], ownA (rInt .i64) 3 (.slice a9 n6 c9) x8, boxA b5 [.bool (u2 == 0)], boxA b6 [iv x9]]) x7 x8 x9 :: [R2]) from Sep.exI _ (Sep.exI _ (Sep.exI _ (hS15.bun (nrow 0 10) [10] rfl)))).sel [1, 0] rfl⟩)))
      refine pn ?_
      refine cndI (b := false) rfl (fun h => nomatch h) (fun _ => ?_)
      refine sq2I ?_
      obtain ⟨u11, hx12, hm⟩ := bindS hm
      obtain rfl : u7 = u11 := oI (hx8.symm.trans hx12)
      refine regIn (fun _ _ h => rndOut h) rfl ?_
      refine pu ?_
      refine nil (t_thenR [(2, pt b2 0), (4, pt b3 0), (5, pt b4 0), (6, iv u1), (7, pt b5 0), (8, pt b6 0), (89, .bool (u7 == 1))] ⟨rfl, rfl, rfl, rfl, rfl, rfl, rfl, trivial⟩ fun J => ?_)
      refine cndI rfl (fun hb8 => ?_) (fun hb8 => ?_)
      · have hm := ctrue hb8 hm
        refine sq2I ?_
        refine regIn (fun _ _ h => rndOut h) rfl (wl rfl (st0B (q := 5) hS15 ⟨rfl, rfl⟩ rfl rfl rfl sizeOf4 rfl rfl rfl fun w21 im21 hS22 => ?_))
        refine pn ?_
        have hm := oI hm; subst hm
        exact rtnI (r_blk (r_blk (⟨rfl, _, im21, (show Sep g T3 w21 ((fun (x7 : Bool) (x8 : List Int) (x9 : Int) => exA fun a9 => exA fun n6 => exA fun c9 => starL [marksA ds1, boxA b2 [pt b_p0 o_p0], H_p0 [pt b1 oo1, .slice a4 n1 c4, .slice a5 n2 c5], ownA (rInt .i64) 3 (.slice a4 n1 c4) (List.set x1 (Int.toNat u1) 1), ownA (rInt .i64) 3 (.slice a5 n2 c5) x2, boxA b3 [.bool x7], boxA b4 [.slice a9 n6 c9], ownA (rInt .i64) 3 (.slice a9 n6 c9) x8, boxA b5 [.bool (u2 == 0)], boxA b6 [iv x9]]) false x8 x9 :: [R2]) from Sep.exI _ (Sep.exI _ (Sep.exI _ (hS22.bun (nrow 0 10) [10] rfl)))).sel [1, 0] rfl⟩)))
      have hm := cfalse hb8 hm
      have hm := oI hm; subst hm
      exact skpI (t_blk (t_blk (⟨rfl, _, Im.refl, (show Sep g T3 w14 ((fun (x7 : Bool) (x8 : List Int) (x9 : Int) => exA fun a9 => exA fun n6 => exA fun c9 => starL [marksA ds1, boxA b2 [pt b_p0 o_p0], H_p0 [pt b1 oo1, .slice a4 n1 c4, .slice a5 n2 c5], ownA (rInt .i64) 3 (.slice a4 n1 c4) (List.set x1 (Int.toNat u1) 1), ownA (rInt .i64) 3 (.slice a5 n2 c5) x2, boxA b3 [.bool x7], boxA b4 [.slice a9 n6 c9], ownA (rInt .i64) 3 (.slice a9 n6 c9) x8, boxA b5 [.bool (u2 == 0)], boxA b6 [iv x9]]) x7 x8 x9 :: [R2]) from Sep.exI _ (Sep.exI _ (Sep.exI _ (hS15.bun (nrow 0 10) [10] rfl)))).sel [1, 0] rfl⟩)))
    · intro l T1 w1 R2 U im22 hS hY
      have hS : Sep g T1 w1 (R2 :: U (.go (x4, x5, 0)) :: [boxA b7 [pt b1 oo1], H1 [sv a1 p0.x.code c1, sv a2 p0.x.backs c2, sv a3 p0.x.marks c3], boxA b8 [iv y1]]) := ((hS.sel [1, 0, 2] rfl).unb).sel [3, 4, 0, 1, 2] rfl
      refine callsIn_wide.2 ((bound_graph_on_1_sim (U_p0 := U) (l_p0 := l) (p2 := p0.x) (p3 := y1) (hS.bun [0] (nrow 1 4) rfl) (fun T2 w2 s x10 z R2 i h e => hY T2 w2 s x10 z R2 i h e) (lnBox b7) hL1 (h1.mono ch) (h2.mono ch) (h3.mono ch) (lnBox b8) _ ho1).mono ?_)
      rintro e w3 ⟨v, rfl, T3, im3, rfl, hS3, _⟩
      exact ⟨_, rfl, T3, im3, ((hS3.bun [2, 3, 4] [0, 1] rfl).sel [1, 0, 2] rfl)⟩
    intro T4 w22 D im23 hS23
    rcases o1 with s1 | s1 | s1
    · obtain ⟨x7o, x8o, x9o⟩ := s1
      have hm := gob_go hm
      have hS23 := Sep.unb (C := [boxA b7 [pt b1 oo1], H1 [sv a1 p0.x.code c1, sv a2 p0.x.backs c2, sv a3 p0.x.marks c3], boxA b8 [iv y1]]) (hS23.sel [1, 2, 0, 3] rfl)
      have hS23 : Sep g T4 w22 ((fun (x7o : Bool) (x8o : List Int) (x9o : Int) => exA fun a9 => exA fun n6 => exA fun c9 => starL [marksA ds1, boxA b2 [pt b_p0 o_p0], H_p0 [pt b1 oo1, .slice a4 n1 c4, .slice a5 n2 c5], ownA (rInt .i64) 3 (.slice a4 n1 c4) (List.set x1 (Int.toNat u1) 1), ownA (rInt .i64) 3 (.slice a5 n2 c5) x2, boxA b3 [.bool x7o], boxA b4 [.slice a9 n6 c9], ownA (rInt .i64) 3 (.slice a9 n6 c9) x8o, boxA b5 [.bool (u2 == 0)], boxA b6 [iv x9o]]) x7o x8o x9o :: [starL R, objA D (.deferred (some [])), H1 [sv a1 p0.x.code c1, sv a2 p0.x.backs c2, sv a3 p0.x.marks c3]]) := hS23.sel [3, 4, 5, 1] rfl
      obtain ⟨a9, hS23⟩ := Sep.exE hS23
      obtain ⟨n6, hS23⟩ := Sep.exE hS23
      obtain ⟨c9, hS23⟩ := Sep.exE hS23
      have hS23 := hS23.unb
      have hC := hS23.bun [11, 0] (nrow 1 10 ++ [12]) rfl
      have hS23 : Sep g T4 w22 [marksA (D :: ds1), boxA b2 [pt b_p0 o_p0], H_p0 [pt b1 oo1, .slice a4 n1 c4, .slice a5 n2 c5], ownA (rInt .i64) 3 (.slice a4 n1 c4) (List.set x1 (Int.toNat u1) 1), ownA (rInt .i64) 3 (.slice a5 n2 c5) x2, boxA b3 [.bool x7o], boxA b4 [.slice a9 n6 c9], ownA (rInt .i64) 3 (.slice a9 n6 c9) x8o, boxA b5 [.bool (u2 == 0)], boxA b6 [iv x9o], starL R, H1 [sv a1 p0.x.code c1, sv a2 p0.x.backs c2, sv a3 p0.x.marks c3]] := hC
      dsimp only
      refine mkN (ds := ds1) ?_
      refine pn ?_
      refine sq2 (cd hm ?_ ?_) <;> intro hb9 hm
      · refine sq2 (rsS [1, 0, 0, 1, 0, 1, 0, 0, 1, 0, 1, 0, 0, 2, 0, 2] [0, 1, 2, 3, 4, 5, 6, 7, 8, 9, 10, 11, 12, 13, 14, 15] hS23 fun w23 im24 hS24 => ?_)
        obtain ⟨u12, hx13, hm⟩ := bindS hm
        obtain ⟨u13, hx14, hm⟩ := bindS hm
        obtain rfl : u12 = u13 := oI (hx13.symm.trans hx14)
        refine s2W [1, 0, 0, 0, 0] ?_
        refine stOc (q := 3) (j := 0) (u' := 2) hS24 ⟨rfl, rfl⟩ hx14 rfl rfl rfl sizeOf3 rfl rfl rfl (fun c0 hc0 => by rw [storeL_all (r := (rInt .i64)) hc0 rfl]; exact rfl) fun w24 im25 hS25 => ?_
        refine pu ?_
        obtain ⟨u14, hx15, hm⟩ := bindS hm
        obtain ⟨u15, hx16, hm⟩ := bindS hm
        obtain rfl : u14 = u15 := oI (hx15.symm.trans hx16)
        refine s2W [0] ?_
        refine stOc (q := 4) (j := 0) (u' := IntKind.wrap .i64 (x9o + 1)) hS25 ⟨rfl, rfl⟩ hx16 rfl rfl rfl sizeOf3 rfl rfl rfl (fun c0 hc0 => by rw [storeL_all (r := (rInt .i64)) hc0 rfl]; exact rfl) fun w25 im26 hS26 => ?_
        refine pn ?_
        obtain ⟨u16, hx17, hm⟩ := bindS hm
        obtain ⟨a12, n9, c12, he2, hS27⟩ := hS26.cutA (q := 7) ⟨rfl, rfl⟩ hx17
        refine pv (r_slV rfl (hS26.own (i := 7) ⟨rfl, rfl⟩).v rfl ⟨_, rfl⟩ hx17 underlying57 sizeOf3 rfl he2) (sT 6 hS27 ?_)
        intro w26 im27 hS28
        exact lg hm hn1 (hS28.sel ([0, 10, 1, 2, 11] ++ nrow 3 5) rfl)
      exact lg hm hn1 (hS23.sel ([0, 10, 1, 2, 11] ++ nrow 3 5) rfl)
    · obtain ⟨x7b, x8b, x9b⟩ := s1
      have hm := gob_brk hm
      have hS23 := Sep.unb (C := [boxA b7 [pt b1 oo1], H1 [sv a1 p0.x.code c1, sv a2 p0.x.backs c2, sv a3 p0.x.marks c3], boxA b8 [iv y1]]) (hS23.sel [1, 2, 0, 3] rfl)
      have hS23 : Sep g T4 w22 ((fun (x7b : Bool) (x8b : List Int) (x9b : Int) => exA fun a9 => exA fun n6 => exA fun c9 => starL [marksA ds1, boxA b2 [pt b_p0 o_p0], H_p0 [pt b1 oo1, .slice a4 n1 c4, .slice a5 n2 c5], ownA (rInt .i64) 3 (.slice a4 n1 c4) (List.set x1 (Int.toNat u1) 1), ownA (rInt .i64) 3 (.slice a5 n2 c5) x2, boxA b3 [.bool x7b], boxA b4 [.slice a9 n6 c9], ownA (rInt .i64) 3 (.slice a9 n6 c9) x8b, boxA b5 [.bool (u2 == 0)], boxA b6 [iv x9b]]) x7b x8b x9b :: [starL R, objA D (.deferred (some [])), H1 [sv a1 p0.x.code c1, sv a2 p0.x.backs c2, sv a3 p0.x.marks c3]]) := hS23.sel [3, 4, 5, 1] rfl
      obtain ⟨a9, hS23⟩ := Sep.exE hS23
      obtain ⟨n6, hS23⟩ := Sep.exE hS23
      obtain ⟨c9, hS23⟩ := Sep.exE hS23
      have hS23 := hS23.unb
      have hC := hS23.bun [11, 0] (nrow 1 10 ++ [12]) rfl
      have hS23 : Sep g T4 w22 [marksA (D :: ds1), boxA b2 [pt b_p0 o_p0], H_p0 [pt b1 oo1, .slice a4 n1 c4, .slice a5 n2 c5], ownA (rInt .i64) 3 (.slice a4 n1 c4) (List.set x1 (Int.toNat u1) 1), ownA (rInt .i64) 3 (.slice a5 n2 c5) x2, boxA b3 [.bool x7b], boxA b4 [.slice a9 n6 c9], ownA (rInt .i64) 3 (.slice a9 n6 c9) x8b, boxA b5 [.bool (u2 == 0)], boxA b6 [iv x9b], starL R, H1 [sv a1 p0.x.code c1, sv a2 p0.x.backs c2, sv a3 p0.x.marks c3]] := hC
      dsimp only
      refine mkW (ds := ds1) ?_
      have hm := retE hm hn1 hq1
      have hm := oI hm; subst hm
      refine pn ?_
      exact retML (vs := [.bool x7b]) (hS23.sel (nrow 0 12) rfl) rfl rfl fun w27 im28 hS29 => ⟨⟨rv1 rfl isAgg4 (hS29.bx (i := 4) ⟨rfl, rfl⟩), trivial⟩, ⟨_, rfl, _, ch, ⟨_, _, _, _, _, _, rfl, (hS29.sel [9, 1, 10, 2, 3] rfl).unb, (h1.mono ch), (h2.mono ch), (h3.mono ch), trivial⟩⟩⟩
    cases hm
  have hm := brkE hm hn1 hq1
  refine pn ?_
  refine sq2 (sT 7 hS6 ?_)
  intro w28 im29 hS30
  refine pn ?_
  have hm := oI hm; subst hm
  refine pn ?_
  exact retML (vs := [.bool true]) (hS30.sel (nrow 0 10) rfl) rfl rfl fun w29 im30 hS31 => ⟨⟨rv1 rfl isAgg4 (hS31.bx (i := 6) ⟨rfl, rfl⟩), trivial⟩, ⟨_, rfl, _, ch, ⟨_, _, _, _, _, _, rfl, (hS31.sel [0, 2, 3, 4, 5] rfl).unb, (h1.mono ch), (h2.mono ch), (h3.mono ch), trivial⟩⟩⟩

theorem bound_Region_sim {p0 : GImage} {a1 c1 a2 c2} (hS : Sep g T0 w0 [starL R]) (h1 : SlR (rInt .u32) T0 w0 (sv a1 p0.Code c1) p0.Code) (h2 : SlR (rInt .u8) T0 w0 (sv a2 p0.Data c2) p0.Data) : ∀ r, bound_Region p0 = some r →
    Calls Tryz.prog 8 #[.agg #[sv a1 p0.Code c1, sv a2 p0.Data c2, iv p0.Limit, iv p0.Notes]] w0 (RetS T0 w0 fun T w v => v = .tuple #[iv r.1, iv r.2] ∧ Sep g T w (R ++ []) ∧ True) := by
  intro r hm
  refine enter Tryz.func8 rfl Tryz.ntmps8 rfl fun J => ?_
  unfold bound_Region at hm
  refine sq2 (bX [sv a1 p0.Code c1, sv a2 p0.Data c2, iv p0.Limit, iv p0.Notes] hS ?_)
  intro w1 b1 im1 hS1
  refine pn ?_
  refine sq2 (pu ?_)
  obtain ⟨y1, hx1, hm⟩ := bindS hm
  rcases y1 with e1 | y1
  · have hm := exC_error hm
    refine cS cf16 (bound_read_sim (hS1.bun [1] [] rfl) (h1.mono im1) (h2.mono im1) _ hx1) ?_
    rintro _ T2 w3 im3 ⟨b2, a3, c3, a4, c4, a5, c5, rfl, hS3, h3, h4, h5, _⟩
    refine pn ?_
    refine sq2 (sq2 (cd hm ?_ ?_)) <;> intro hb2 hm
    · exact sq2 (re hm (hS3.sel [0] rfl))
    refine pn ?_
    refine sq2 (sq2 (pu ?_))
    rcases bc hm with ⟨hb3, hm⟩ | ⟨hb3, hm⟩
    · refine pn ?_
      refine cnd (b := true) rfl (fun _ => ?_) (fun h => nomatch h)
      exact sq2 (re hm (hS3.sel [0] rfl))
    refine pu ?_
    refine cB cf17 hm (bound_graph_mark_sim (hS3.bun [0] [1] rfl) (lnBox b2) h3 h4 h5) ?_
    rintro y2 _ T3 w4 im4 ⟨rfl, hS4, _⟩ hm
    refine cd hm ?_ ?_ <;> intro hb4 hm
    · exact sq2 (re hm (hS4.sel [0] rfl))
    refine pn ?_
    refine sq2 (rtS [0, 0, 0, 0, 1, 0, 2, 0, 0, 0, 1, 0, 2, 0, 2, 0] [0, 1, 2, 3, 4, 5, 7, 8, 9, 10, 11, 6, 12, 13, 14, 15] hS4 fun w5 im5 hS5 => ?_)
    obtain ⟨u1, hx3, hm⟩ := bindS hm
    refine tF [6, 12] ?_
    refine ⟨?_, ?_, trivial⟩
    · refine brW [12, 13, 14, 15] [1, 0] ?_
      refine msS (r := (rInt .i64)) hS5 rfl rfl underlying57 el3 zeroValue3 rfl hx3 fun w6 a6 n1 c6 im6 hS6 => ?_
      refine t1W [12] [13, 14, 15] [0] ?_
      refine msS (r := (rInt .i64)) hS6 rfl rfl underlying57 el3 zeroValue3 rfl hx3 fun w7 a7 n2 c7 im7 hS7 => ?_
      refine pu ?_
      refine t0 rfl trivial (fun _ => r_bd (by kernel_rfl) rfl (u := .agg #[pt b2 0, .slice a6 n1 c6, .slice a7 n2 c7])) rfl (?_)
      refine t1W [14] [15] [] ?_
      refine obX [pt b2 0, .slice a6 n1 c6, .slice a7 n2 c7] hS7 ?_
      intro w8 b3 im8 hS8
      refine pu ?_
      refine te (t_thenR [(4, pt b2 0), (6, pt b3 0)] ⟨rfl, rfl, trivial⟩ fun J => ?_)
      refine sq2 (pn ?_)
      refine sq2 (sq2 (pn ?_))
      refine lpJ hm (fun bd1 o1 m a w9 => ∃ (T4 : _) (x6 : BoundWalk) (x5 : BoundGraph) (x3 : _) (x4 : _) (a8 : _) (c8 : _) (a9 : _) (c9 : _) (a10 : _) (c10 : _), JR (nf 78) g T3 w8 a w9 T4 (loopM bd1 m (x3, x4, x5, x6) = some o1) [(4, pt b2 0), (6, pt b3 0), (7, iv x3), (47, sv a5 e1.1.marks c5), (48, iv (List.length e1.1.marks : Int)), (49, iv x4)] [starL R, boxA b2 [sv a8 x5.code c8, sv a9 x5.backs c9, sv a10 x5.marks c10], boxA b3 [pt b2 0, .slice a6 n1 c6, .slice a7 n2 c7], ownA (rInt .i64) 3 (.slice a6 n1 c6) x6.state, ownA (rInt .i64) 3 (.slice a7 n2 c7) x6.long] ∧ SlR rGInst T4 w9 (sv a8 x5.code c8) x5.code ∧ SlR (rInt .i64) T4 w9 (sv a9 x5.backs c9) x5.backs ∧ SlR (rInt .i64) T4 w9 (sv a10 x5.marks c10) x5.marks) (fun _ _ h => je h (hS8.sel [3, 4, 0, 2, 1] rfl)) ?_
      rintro bd1 hbd1 o1 hq1 _ _ w9 ⟨T4, x6, x5, x3, x4, a8, c8, a9, c9, a10, c10, ⟨J, ho1, rfl, hS9, im9⟩, h6, h7, h8⟩
      obtain ⟨m1, z1, rfl, hm, hn1⟩ := lrE ho1 hbd1
      refine sq2 (pn ?_)
      refine sq2 (cd hm ?_ ?_) <;> intro hb5 hm
      · refine pn ?_
        refine cutJ hm (fun kk1 a w10 => ∃ (T5 : _) (x10 : BoundGraph) (x7 : List Int) (x8 : List Int) (x9 : _) (a11 : _) (c11 : _) (a12 : _) (c12 : _) (a13 : _) (c13 : _), JR (nf 78) g T4 w9 a w10 T5 (kk1 x7 x8 x9 x10 = some z1) [(4, pt b2 0), (6, pt b3 0), (7, iv x9), (47, sv a5 e1.1.marks c5), (48, iv (List.length e1.1.marks : Int)), (49, iv x4)] [starL R, boxA b2 [sv a11 x10.code c11, sv a12 x10.backs c12, sv a13 x10.marks c13], boxA b3 [pt b2 0, .slice a6 n1 c6, .slice a7 n2 c7], ownA (rInt .i64) 3 (.slice a6 n1 c6) x7, ownA (rInt .i64) 3 (.slice a7 n2 c7) x8] ∧ SlR rGInst T5 w10 (sv a11 x10.code c11) x10.code ∧ SlR (rInt .i64) T5 w10 (sv a12 x10.backs c12) x10.backs ∧ SlR (rInt .i64) T5 w10 (sv a13 x10.marks c13) x10.marks) (fun kk1 hm => ?_) ?_
        · refine blk (sq2 ?_)
          obtain ⟨u2, hx4, hm⟩ := bindS hm
          refine pn ?_
          refine sq2 (sq2 (pu ?_))
          refine cB cf18 hm (bound_graph_has_sim (hS9.bun [0, 2, 3, 4] [1] rfl) (lnBox b2) h6 h7 h8) ?_
          rintro y3 _ T6 w11 im11 ⟨rfl, hS10, _⟩ hm
          refine cd hm ?_ ?_ <;> intro hb6 hm
          · exact je hm (hS10.sel [0, 4, 1, 2, 3] rfl)
          refine pn ?_
          refine sq2 (sq2 (pu ?_))
          refine cB cf19 hm (bound_walk_from_sim (p0 := { x6 with x := x5 }) (hS10.bun [0] [1, 4, 2, 3] rfl) (lnBox b3) (lnBox b2) (h6.mono im11) (h7.mono im11) (h8.mono im11)) ?_
          rintro y4 _ T7 w12 im12 ⟨a14, c14, a15, c15, a16, c16, rfl, hS11, h12, h13, h14, _⟩ hm
          refine cd hm ?_ ?_ <;> intro hb7 hm
          · refine sq2 (pn ?_)
            have hm := retE hm hn1 hq1
            exact re hm (hS11.sel [0] rfl)
          refine pn ?_
          obtain ⟨u3, hx7, hm⟩ := bindS hm
          refine pu ?_
          exact pv (r_imx rfl rfl) (je hm (hS11.sel [0, 2, 1, 3, 4] rfl))
        rintro _ w10 ⟨T5, x10, x7, x8, x9, a11, c11, a12, c12, a13, c13, ⟨J, hm, rfl, hS12, im10⟩, h9, h10, h11⟩
        exact lg hm hn1 (hS12.sel (nrow 0 5) rfl)
      have hm := brkE hm hn1 hq1
      refine pn ?_
      refine sq2 (pu ?_)
      refine cB cf17 hm (bound_graph_mark_sim (hS9.bun [0] [1] rfl) (lnBox b2) h6 h7 h8) ?_
      rintro y6 _ T9 w14 im14 ⟨rfl, hS14, _⟩ hm
      exact re hm (hS14.sel [0] rfl)
    refine brW [6, 13, 14, 15] [0] ?_
    refine msS (r := (rInt .i64)) hS5 rfl rfl underlying57 el3 zeroValue3 rfl hx3 fun w6 a6 n1 c6 im6 hS6 => ?_
    refine t1W [6] [13, 14, 15] [0] ?_
    refine msS (r := (rInt .i64)) hS6 rfl rfl underlying57 el3 zeroValue3 rfl hx3 fun w7 a7 n2 c7 im7 hS7 => ?_
    refine pu ?_
    refine t0 rfl trivial (fun _ => r_bd (by kernel_rfl) rfl (u := .agg #[pt b2 0, .slice a7 n2 c7, .slice a6 n1 c6])) rfl (?_)
    refine t1W [14] [15] [] ?_
    refine obX [pt b2 0, .slice a7 n2 c7, .slice a6 n1 c6] hS7 ?_
    intro w8 b3 im8 hS8
    refine pu ?_
    refine te (t_thenR [(4, pt b2 0), (6, pt b3 0)] ⟨rfl, rfl, trivial⟩ fun J => ?_)
    refine sq2 (pn ?_)
    refine sq2 (sq2 (pn ?_))
    refine lpJ hm (fun bd1 o1 m a w9 => ∃ (T4 : _) (x6 : BoundWalk) (x5 : BoundGraph) (x3 : _) (x4 : _) (a8 : _) (c8 : _) (a9 : _) (c9 : _) (a10 : _) (c10 : _), JR (nf 78) g T3 w8 a w9 T4 (loopM bd1 m (x3, x4, x5, x6) = some o1) [(4, pt b2 0), (6, pt b3 0), (7, iv x3), (47, sv a5 e1.1.marks c5), (48, iv (List.length e1.1.marks : Int)), (49, iv x4)] [starL R, boxA b2 [sv a8 x5.code c8, sv a9 x5.backs c9, sv a10 x5.marks c10], boxA b3 [pt b2 0, .slice a7 n2 c7, .slice a6 n1 c6], ownA (rInt .i64) 3 (.slice a7 n2 c7) x6.state, ownA (rInt .i64) 3 (.slice a6 n1 c6) x6.long] ∧ SlR rGInst T4 w9 (sv a8 x5.code c8) x5.code ∧ SlR (rInt .i64) T4 w9 (sv a9 x5.backs c9) x5.backs ∧ SlR (rInt .i64) T4 w9 (sv a10 x5.marks c10) x5.marks) (fun _ _ h => je h (hS8.sel [3, 4, 0, 1, 2] rfl)) ?_
    rintro bd1 hbd1 o1 hq1 _ _ w9 ⟨T4, x6, x5, x3, x4, a8, c8, a9, c9, a10, c10, ⟨J, ho1, rfl, hS9, im9⟩, h6, h7, h8⟩
    obtain ⟨m1, z1, rfl, hm, hn1⟩ := lrE ho1 hbd1
    refine sq2 (pn ?_)
    refine sq2 (cd hm ?_ ?_) <;> intro hb5 hm
    · refine pn ?_
      refine cutJ hm (fun kk1 a w10 => ∃ (T5 : _) (x10 : BoundGraph) (x7 : List Int) (x8 : List Int) (x9 : _) (a11 : _) (c11 : _) (a12 : _) (c12 : _) (a13 : _) (c13 : _), JR (nf 78) g T4 w9 a w10 T5 (kk1 x7 x8 x9 x10 = some z1) [(4, pt b2 0), (6, pt b3 0), (7, iv x9), (47, sv a5 e1.1.marks c5), (48, iv (List.length e1.1.marks : Int)), (49, iv x4)] [starL R, boxA b2 [sv a11 x10.code c11, sv a12 x10.backs c12, sv a13 x10.marks c13], boxA b3 [pt b2 0, .slice a7 n2 c7, .slice a6 n1 c6], ownA (rInt .i64) 3 (.slice a7 n2 c7) x7, ownA (rInt .i64) 3 (.slice a6 n1 c6) x8] ∧ SlR rGInst T5 w10 (sv a11 x10.code c11) x10.code ∧ SlR (rInt .i64) T5 w10 (sv a12 x10.backs c12) x10.backs ∧ SlR (rInt .i64) T5 w10 (sv a13 x10.marks c13) x10.marks) (fun kk1 hm => ?_) ?_
      · refine blk (sq2 ?_)
        obtain ⟨u2, hx4, hm⟩ := bindS hm
        refine pn ?_
        refine sq2 (sq2 (pu ?_))
        refine cB cf18 hm (bound_graph_has_sim (hS9.bun [0, 2, 3, 4] [1] rfl) (lnBox b2) h6 h7 h8) ?_
        rintro y3 _ T6 w11 im11 ⟨rfl, hS10, _⟩ hm
        refine cd hm ?_ ?_ <;> intro hb6 hm
        · exact je hm (hS10.sel [0, 4, 1, 2, 3] rfl)
        refine pn ?_
        refine sq2 (sq2 (pu ?_))
        refine cB cf19 hm (bound_walk_from_sim (p0 := { x6 with x := x5 }) (hS10.bun [0] [1, 4, 2, 3] rfl) (lnBox b3) (lnBox b2) (h6.mono im11) (h7.mono im11) (h8.mono im11)) ?_
        rintro y4 _ T7 w12 im12 ⟨a14, c14, a15, c15, a16, c16, rfl, hS11, h12, h13, h14, _⟩ hm
        refine cd hm ?_ ?_ <;> intro hb7 hm
        · refine sq2 (pn ?_)
          have hm := retE hm hn1 hq1
          exact re hm (hS11.sel [0] rfl)
        refine pn ?_
        obtain ⟨u3, hx7, hm⟩ := bindS hm
        refine pu ?_
        exact pv (r_imx rfl rfl) (je hm (hS11.sel [0, 2, 1, 3, 4] rfl))
      rintro _ w10 ⟨T5, x10, x7, x8, x9, a11, c11, a12, c12, a13, c13, ⟨J, hm, rfl, hS12, im10⟩, h9, h10, h11⟩
      exact lg hm hn1 (hS12.sel (nrow 0 5) rfl)
    have hm := brkE hm hn1 hq1
    refine pn ?_
    refine sq2 (pu ?_)
    refine cB cf17 hm (bound_graph_mark_sim (hS9.bun [0] [1] rfl) (lnBox b2) h6 h7 h8) ?_
    rintro y6 _ T9 w14 im14 ⟨rfl, hS14, _⟩ hm
    exact re hm (hS14.sel [0] rfl)
  have hm := exC_ok hm
  refine cS cf16 (bound_read_sim (hS1.bun [1] [] rfl) (h1.mono im1) (h2.mono im1) _ hx1) ?_
  rintro _ T1 w2 im2 ⟨rfl, hS2, _⟩
  refine pn ?_
  refine sq2 (sq2 (cd hm ?_ ?_)) <;> intro hb1 hm
  · exact sq2 (re hm (hS2.sel [0] rfl))
  refine pn ?_
  refine sq2 (sq2 ?_)
  cases hm

theorem ref02_Form_sim {p0} (hS : Sep g T0 w0 [starL R])  : ∀ r, ref02_Form p0 = some r →
    Calls Tryz.prog 70 #[iv p0] w0 (RetS T0 w0 fun T w v => v = .int .u8 r ∧ Sep g T w (R ++ []) ∧ True) := by
  intro r hm
  refine enter Tryz.func70 rfl Tryz.ntmps70 rfl fun J => ?_
  unfold ref02_Form at hm
  refine sq2 (pn ?_)
  refine sq2 (sq2 (pu ?_))
  rcases bc hm with ⟨hb1, hm⟩ | ⟨hb1, hm⟩
  · refine pn ?_
    refine cnd (b := true) rfl (fun _ => ?_) (fun h => nomatch h)
    exact sq2 (re hm (hS.sel [0] rfl))
  refine cd hm ?_ ?_ <;> intro hb2 hm
  · exact sq2 (re hm (hS.sel [0] rfl))
  refine pn ?_
  refine sq2 (sq2 (cd hm ?_ ?_)) <;> intro hb3 hm
  · exact sq2 (re hm (hS.sel [0] rfl))
  refine pn ?_
  refine sq2 (sq2 (cd hm ?_ ?_)) <;> intro hb4 hm
  · exact sq2 (re hm (hS.sel [0] rfl))
  refine pn ?_
  refine sq2 (sq2 (pu ?_))
  rcases bc hm with ⟨hb5, hm⟩ | ⟨hb5, hm⟩
  · refine cd hm ?_ ?_ <;> intro hb6 hm
    · exact sq2 (re hm (hS.sel [0] rfl))
    refine pn ?_
    refine sq2 (sq2 (pu ?_))
    rcases bc hm with ⟨hb7, hm⟩ | ⟨hb7, hm⟩
    · refine cd hm ?_ ?_ <;> intro hb8 hm
      · exact sq2 (re hm (hS.sel [0] rfl))
      refine pn ?_
      refine sq2 (sq2 (pu ?_))
      rcases bc hm with ⟨hb9, hm⟩ | ⟨hb9, hm⟩
      · refine pu ?_
        refine nil (t_thenR [(0, iv p0), (30, .bool (decide (p0 ≤ 27)))] ⟨rfl, rfl, trivial⟩ fun J => ?_)
        refine cd hm ?_ ?_ <;> intro hb10 hm
        · exact sq2 (re hm (hS.sel [0] rfl))
        refine pn ?_
        refine sq2 (sq2 (cd hm ?_ ?_)) <;> intro hb11 hm
        · exact sq2 (re hm (hS.sel [0] rfl))
        refine pn ?_
        exact sq2 (re hm (hS.sel [0] rfl))
      refine pu ?_
      refine nil (t_thenR [(0, iv p0), (30, .bool false)] ⟨rfl, rfl, trivial⟩ fun J => ?_)
      refine cnd (b := false) rfl (fun h => nomatch h) (fun _ => ?_)
      refine pn ?_
      refine sq2 (sq2 (cd hm ?_ ?_)) <;> intro hb13 hm
      · exact sq2 (re hm (hS.sel [0] rfl))
      refine pn ?_
      exact sq2 (re hm (hS.sel [0] rfl))
    refine pn ?_
    refine cnd (b := false) rfl (fun h => nomatch h) (fun _ => ?_)
    refine pn ?_
    refine sq2 (sq2 (pu ?_))
    rcases bc hm with ⟨hb15, hm⟩ | ⟨hb15, hm⟩
    · refine pu ?_
      refine nil (t_thenR [(0, iv p0), (30, .bool (decide (p0 ≤ 27)))] ⟨rfl, rfl, trivial⟩ fun J => ?_)
      refine cd hm ?_ ?_ <;> intro hb16 hm
      · exact sq2 (re hm (hS.sel [0] rfl))
      refine pn ?_
      refine sq2 (sq2 (cd hm ?_ ?_)) <;> intro hb17 hm
      · exact sq2 (re hm (hS.sel [0] rfl))
      refine pn ?_
      exact sq2 (re hm (hS.sel [0] rfl))
    refine pu ?_
    refine nil (t_thenR [(0, iv p0), (30, .bool false)] ⟨rfl, rfl, trivial⟩ fun J => ?_)
    refine cnd (b := false) rfl (fun h => nomatch h) (fun _ => ?_)
    refine pn ?_
    refine sq2 (sq2 (cd hm ?_ ?_)) <;> intro hb19 hm
    · exact sq2 (re hm (hS.sel [0] rfl))
    refine pn ?_
    exact sq2 (re hm (hS.sel [0] rfl))
  refine pn ?_
  refine cnd (b := false) rfl (fun h => nomatch h) (fun _ => ?_)
  refine pn ?_
  refine sq2 (sq2 (pu ?_))
  rcases bc hm with ⟨hb21, hm⟩ | ⟨hb21, hm⟩
  · refine cd hm ?_ ?_ <;> intro hb22 hm
    · exact sq2 (re hm (hS.sel [0] rfl))
    refine pn ?_
    refine sq2 (sq2 (pu ?_))
    rcases bc hm with ⟨hb23, hm⟩ | ⟨hb23, hm⟩
    · refine pu ?_
      refine nil (t_thenR [(0, iv p0), (30, .bool (decide (p0 ≤ 27)))] ⟨rfl, rfl, trivial⟩ fun J => ?_)
      refine cd hm ?_ ?_ <;> intro hb24 hm
      · exact sq2 (re hm (hS.sel [0] rfl))
      refine pn ?_
      refine sq2 (sq2 (cd hm ?_ ?_)) <;> intro hb25 hm
      · exact sq2 (re hm (hS.sel [0] rfl))
      refine pn ?_
      exact sq2 (re hm (hS.sel [0] rfl))
    refine pu ?_
    refine nil (t_thenR [(0, iv p0), (30, .bool false)] ⟨rfl, rfl, trivial⟩ fun J => ?_)
    refine cnd (b := false) rfl (fun h => nomatch h) (fun _ => ?_)
    refine pn ?_
    refine sq2 (sq2 (cd hm ?_ ?_)) <;> intro hb27 hm
    · exact sq2 (re hm (hS.sel [0] rfl))
    refine pn ?_
    exact sq2 (re hm (hS.sel [0] rfl))
  refine pn ?_
  refine cnd (b := false) rfl (fun h => nomatch h) (fun _ => ?_)
  refine pn ?_
  refine sq2 (sq2 (pu ?_))
  rcases bc hm with ⟨hb29, hm⟩ | ⟨hb29, hm⟩
  · refine pu ?_
    refine nil (t_thenR [(0, iv p0), (30, .bool (decide (p0 ≤ 27)))] ⟨rfl, rfl, trivial⟩ fun J => ?_)
    refine cd hm ?_ ?_ <;> intro hb30 hm
    · exact sq2 (re hm (hS.sel [0] rfl))
    refine pn ?_
    refine sq2 (sq2 (cd hm ?_ ?_)) <;> intro hb31 hm
    · exact sq2 (re hm (hS.sel [0] rfl))
    refine pn ?_
    exact sq2 (re hm (hS.sel [0] rfl))
  refine pu ?_
  refine nil (t_thenR [(0, iv p0), (30, .bool false)] ⟨rfl, rfl, trivial⟩ fun J => ?_)
  refine cnd (b := false) rfl (fun h => nomatch h) (fun _ => ?_)
  refine pn ?_
  refine sq2 (sq2 (cd hm ?_ ?_)) <;> intro hb33 hm
  · exact sq2 (re hm (hS.sel [0] rfl))
  refine pn ?_
  exact sq2 (re hm (hS.sel [0] rfl))

theorem ref02_two_sim {p0} (hS : Sep g T0 w0 [starL R])  : ∀ r, ref02_two p0 = some r →
    Calls Tryz.prog 129 #[iv p0] w0 (RetS T0 w0 fun T w v => v = iv r ∧ Sep g T w (R ++ []) ∧ True) := by
  intro r hm
  refine enter Tryz.func129 rfl Tryz.ntmps129 rfl fun J => ?_
  unfold ref02_two at hm
  refine sq2 (pn ?_)
  refine sq2 (pn ?_)
  refine sq2 (sq2 (pn ?_))
  refine lpJ hm (fun bd1 o1 m a w1 => ∃ T1 x1 x2, JR (nf 13) g T0 w0 a w1 T1 (loopM bd1 m (x1, x2) = some o1) [(0, iv p0), (3, iv x1), (4, iv x2)] [starL R]) (fun _ _ h => je h (hS.sel [0] rfl)) ?_
  rintro bd1 hbd1 o1 hq1 _ _ w1 ⟨T1, x1, x2, J, ho1, rfl, hS1, im1⟩
  obtain ⟨m1, z1, rfl, hm, hn1⟩ := lrE ho1 hbd1
  refine sq2 (sq2 (cd hm ?_ ?_)) <;> intro hb1 hm
  · refine pn ?_
    exact sq2 (blk (lg hm hn1 (hS1.sel [0] rfl)))
  have hm := brkE hm hn1 hq1
  refine pn ?_
  exact sq2 (re hm (hS1.sel [0] rfl))

theorem ref02_move_sim {p0 p1 p2 p3} (hS : Sep g T0 w0 [starL R])  : ∀ r, ref02_move p0 p1 p2 p3 = some r →
    Calls Tryz.prog 73 #[iv p0, iv p1, iv p2, iv p3] w0 (RetS T0 w0 fun T w v => v = iv r ∧ Sep g T w (R ++ []) ∧ True) := by
  intro r hm
  refine enter Tryz.func73 rfl Tryz.ntmps73 rfl fun J => ?_
  unfold ref02_move at hm
  refine sq2 (pn ?_)
  refine sq2 (pn ?_)
  refine cutJ hm (fun kk1 a w1 => ∃ T1 x1, JR (nf 28) g T0 w0 a w1 T1 (kk1 x1 = some r) [(1, iv p1), (2, iv p2), (3, iv p3), (9, iv x1)] [starL R]) (fun kk1 hm => ?_) ?_
  · refine sq2 (cd hm ?_ ?_) <;> intro hb1 hm
    · exact je hm (hS.sel [0] rfl)
    exact je hm (hS.sel [0] rfl)
  rintro _ w1 ⟨T1, x1, J, hm, rfl, hS1, im1⟩
  refine sq2 (rsS [0, 0, 2, 0, 0, 0, 0, 0, 2, 0, 0, 2, 0, 0] [0, 1, 4, 5, 6, 7, 10, 2, 3, 8, 9, 11, 12, 13] hS1 fun w2 im2 hS2 => ?_)
  obtain ⟨y1, hx1, hm⟩ := bindS hm
  refine sS [] cf129 (ref02_two_sim (hS2.bun [0] [] rfl) _ hx1) ?_
  rintro _ T2 w3 im3 ⟨rfl, hS3, _⟩
  refine pu ?_
  obtain ⟨_, hz1, hm⟩ := bindS hm
  have hz1 := nz_some hz1
  obtain ⟨y2, hx2, hm⟩ := bindS hm
  refine s0 rfl trivial (fun _ => r_iq rfl rfl hz1) rfl (sS [] cf129 (ref02_two_sim (hS3.bun [0] [] rfl) _ hx2) ?_)
  rintro _ T3 w4 im4 ⟨rfl, hS4, _⟩
  refine pu ?_
  obtain ⟨_, hz2, hm⟩ := bindS hm
  have hz2 := nz_some hz2
  obtain ⟨y3, hx3, hm⟩ := bindS hm
  refine s0 rfl trivial (fun _ => r_irm rfl rfl hz2) rfl (sS [] cf129 (ref02_two_sim (hS4.bun [0] [] rfl) _ hx3) ?_)
  rintro _ T4 w5 im5 ⟨rfl, hS5, _⟩
  exact re hm (hS5.sel [0] rfl)

theorem ref02_signed_sim {p0 p1} (hS : Sep g T0 w0 [starL R])  : ∀ r, ref02_signed p0 p1 = some r →
    Calls Tryz.prog 128 #[iv p0, iv p1] w0 (RetS T0 w0 fun T w v => v = iv r ∧ Sep g T w (R ++ []) ∧ True) := by
  intro r hm
  refine enter Tryz.func128 rfl Tryz.ntmps128 rfl fun J => ?_
  unfold ref02_signed at hm
  refine sq2 (pn ?_)
  refine sq2 (sq2 (pu ?_))
  refine cB cf129 hm (ref02_two_sim (hS.bun [0] [] rfl)) ?_
  rintro y1 _ T1 w1 im1 ⟨rfl, hS1, _⟩ hm
  refine cd hm ?_ ?_ <;> intro hb1 hm
  · refine sq2 (pu ?_)
    refine cB cf129 hm (ref02_two_sim (hS1.bun [0] [] rfl)) ?_
    rintro y2 _ T2 w2 im2 ⟨rfl, hS2, _⟩ hm
    exact re hm (hS2.sel [0] rfl)
  refine pn ?_
  exact sq2 (re hm (hS1.sel [0] rfl))

theorem ref02_Gather_sim {p0 p1} (hS : Sep g T0 w0 [starL R])  : ∀ r, ref02_Gather p0 p1 = some r →
    Calls Tryz.prog 71 #[.int .u8 p0, iv p1] w0 (RetS T0 w0 fun T w v => v = iv r ∧ Sep g T w (R ++ []) ∧ True) := by
  intro r hm
  refine enter Tryz.func71 rfl Tryz.ntmps71 rfl fun J => ?_
  unfold ref02_Gather at hm
  refine sq2 (pn ?_)
  refine sq2 (sq2 (cd hm ?_ ?_)) <;> intro hb1 hm
  · refine sq2 (pu ?_)
    refine cB cf73 hm (ref02_move_sim (hS.bun [0] [] rfl)) ?_
    rintro y1 _ T1 w1 im1 ⟨rfl, hS1, _⟩ hm
    refine cB cf128 hm (ref02_signed_sim (hS1.bun [0] [] rfl)) ?_
    rintro y2 _ T2 w2 im2 ⟨rfl, hS2, _⟩ hm
    exact re hm (hS2.sel [0] rfl)
  refine pn ?_
  refine sq2 (sq2 (cd hm ?_ ?_)) <;> intro hb2 hm
  · refine sq2 (pu ?_)
    refine cB cf73 hm (ref02_move_sim (hS.bun [0] [] rfl)) ?_
    rintro y3 _ T3 w3 im3 ⟨rfl, hS3, _⟩ hm
    refine pu ?_
    refine cB cf73 hm (ref02_move_sim (hS3.bun [0] [] rfl)) ?_
    rintro y4 _ T4 w4 im4 ⟨rfl, hS4, _⟩ hm
    refine pu ?_
    refine cB cf73 hm (ref02_move_sim (hS4.bun [0] [] rfl)) ?_
    rintro y5 _ T5 w5 im5 ⟨rfl, hS5, _⟩ hm
    refine pu ?_
    refine cB cf73 hm (ref02_move_sim (hS5.bun [0] [] rfl)) ?_
    rintro y6 _ T6 w6 im6 ⟨rfl, hS6, _⟩ hm
    refine pu ?_
    refine cB cf128 hm (ref02_signed_sim (hS6.bun [0] [] rfl)) ?_
    rintro y7 _ T7 w7 im7 ⟨rfl, hS7, _⟩ hm
    exact re hm (hS7.sel [0] rfl)
  refine pn ?_
  refine sq2 (sq2 (cd hm ?_ ?_)) <;> intro hb3 hm
  · refine sq2 (pu ?_)
    refine cB cf73 hm (ref02_move_sim (hS.bun [0] [] rfl)) ?_
    rintro y8 _ T8 w8 im8 ⟨rfl, hS8, _⟩ hm
    refine cB cf128 hm (ref02_signed_sim (hS8.bun [0] [] rfl)) ?_
    rintro y9 _ T9 w9 im9 ⟨rfl, hS9, _⟩ hm
    exact re hm (hS9.sel [0] rfl)
  refine pn ?_
  refine sq2 (sq2 (cd hm ?_ ?_)) <;> intro hb4 hm
  · refine sq2 (pu ?_)
    refine cB cf73 hm (ref02_move_sim (hS.bun [0] [] rfl)) ?_
    rintro y10 _ T10 w10 im10 ⟨rfl, hS10, _⟩ hm
    exact re hm (hS10.sel [0] rfl)
  refine pn ?_
  refine sq2 (sq2 (cd hm ?_ ?_)) <;> intro hb5 hm
  · refine sq2 (pu ?_)
    refine cB cf73 hm (ref02_move_sim (hS.bun [0] [] rfl)) ?_
    rintro y11 _ T11 w11 im11 ⟨rfl, hS11, _⟩ hm
    refine pu ?_
    refine cB cf73 hm (ref02_move_sim (hS11.bun [0] [] rfl)) ?_
    rintro y12 _ T12 w12 im12 ⟨rfl, hS12, _⟩ hm
    refine pu ?_
    refine cB cf128 hm (ref02_signed_sim (hS12.bun [0] [] rfl)) ?_
    rintro y13 _ T13 w13 im13 ⟨rfl, hS13, _⟩ hm
    exact re hm (hS13.sel [0] rfl)
  refine pn ?_
  refine sq2 (sq2 (cd hm ?_ ?_)) <;> intro hb6 hm
  · refine sq2 (pu ?_)
    refine cB cf73 hm (ref02_move_sim (hS.bun [0] [] rfl)) ?_
    rintro y14 _ T14 w14 im14 ⟨rfl, hS14, _⟩ hm
    refine pu ?_
    refine cB cf73 hm (ref02_move_sim (hS14.bun [0] [] rfl)) ?_
    rintro y15 _ T15 w15 im15 ⟨rfl, hS15, _⟩ hm
    refine pu ?_
    refine cB cf73 hm (ref02_move_sim (hS15.bun [0] [] rfl)) ?_
    rintro y16 _ T16 w16 im16 ⟨rfl, hS16, _⟩ hm
    refine pu ?_
    refine cB cf73 hm (ref02_move_sim (hS16.bun [0] [] rfl)) ?_
    rintro y17 _ T17 w17 im17 ⟨rfl, hS17, _⟩ hm
    refine pu ?_
    refine cB cf128 hm (ref02_signed_sim (hS17.bun [0] [] rfl)) ?_
    rintro y18 _ T18 w18 im18 ⟨rfl, hS18, _⟩ hm
    refine pu ?_
    refine nil (t_thenR [(4, iv y18)] ⟨rfl, trivial⟩ fun J => ?_)
    exact re hm (hS18.sel [0] rfl)
  refine pn ?_
  exact sq2 (re hm (hS.sel [0] rfl))

theorem ref02_has_sim {p0 p1} (hS : Sep g T0 w0 [starL R])  : ∀ r, ref02_has p0 p1 = some r →
    Calls Tryz.prog 72 #[.int .u8 p0, iv p1] w0 (RetS T0 w0 fun T w v => v = .bool r ∧ Sep g T w (R ++ []) ∧ True) := by
  intro r hm
  refine enter Tryz.func72 rfl Tryz.ntmps72 rfl fun J => ?_
  unfold ref02_has at hm
  refine sq2 (pn ?_)
  refine sq2 (sq2 (cd hm ?_ ?_)) <;> intro hb1 hm
  · refine sq2 (pu ?_)
    rcases bc hm with ⟨hb2, hm⟩ | ⟨hb2, hm⟩
    · exact re hm (hS.sel [0] rfl)
    exact re hm (hS.sel [0] rfl)
  refine pn ?_
  refine sq2 (sq2 (cd hm ?_ ?_)) <;> intro hb3 hm
  · refine sq2 (pu ?_)
    rcases bc hm with ⟨hb4, hm⟩ | ⟨hb4, hm⟩
    · exact re hm (hS.sel [0] rfl)
    exact re hm (hS.sel [0] rfl)
  refine pn ?_
  refine sq2 (pu ?_)
  rcases bc hm with ⟨hb5, hm⟩ | ⟨hb5, hm⟩
  · exact re hm (hS.sel [0] rfl)
  refine pu ?_
  rcases bc hm with ⟨hb6, hm⟩ | ⟨hb6, hm⟩
  · exact re hm (hS.sel [0] rfl)
  exact re hm (hS.sel [0] rfl)

theorem ref02_reg_sim {p0 p1} (hS : Sep g T0 w0 [starL R])  : ∀ r, ref02_reg p0 p1 = some r →
    Calls Tryz.prog 130 #[iv p0, .bool p1] w0 (RetS T0 w0 fun T w v => v = .bool r ∧ Sep g T w (R ++ []) ∧ True) := by
  intro r hm
  refine enter Tryz.func130 rfl Tryz.ntmps130 rfl fun J => ?_
  unfold ref02_reg at hm
  refine sq2 (pn ?_)
  refine sq2 (sq2 (cd hm ?_ ?_)) <;> intro hb1 hm
  · exact sq2 (re hm (hS.sel [0] rfl))
  refine pn ?_
  refine sq2 (pu ?_)
  rcases bc hm with ⟨hb2, hm⟩ | ⟨hb2, hm⟩
  · exact re hm (hS.sel [0] rfl)
  exact re hm (hS.sel [0] rfl)

theorem ref02_room_sim {p0 p1} (hS : Sep g T0 w0 [starL R])  : ∀ r, ref02_room p0 p1 = some r →
    Calls Tryz.prog 131 #[.int .u8 p0, iv p1] w0 (RetS T0 w0 fun T w v => v = .bool r ∧ Sep g T w (R ++ []) ∧ True) := by
  intro r hm
  refine enter Tryz.func131 rfl Tryz.ntmps131 rfl fun J => ?_
  unfold ref02_room at hm
  refine sq2 (pn ?_)
  refine sq2 (sq2 (cd hm ?_ ?_)) <;> intro hb1 hm
  · refine sq2 (pu ?_)
    rcases bc hm with ⟨hb2, hm⟩ | ⟨hb2, hm⟩
    · refine pu ?_
      rcases bc hm with ⟨hb3, hm⟩ | ⟨hb3, hm⟩
      · exact re hm (hS.sel [0] rfl)
      exact re hm (hS.sel [0] rfl)
    exact re hm (hS.sel [0] rfl)
  refine pn ?_
  refine sq2 (sq2 (cd hm ?_ ?_)) <;> intro hb4 hm
  · refine sq2 (pu ?_)
    rcases bc hm with ⟨hb5, hm⟩ | ⟨hb5, hm⟩
    · refine pu ?_
      rcases bc hm with ⟨hb6, hm⟩ | ⟨hb6, hm⟩
      · exact re hm (hS.sel [0] rfl)
      exact re hm (hS.sel [0] rfl)
    exact re hm (hS.sel [0] rfl)
  refine pn ?_
  refine sq2 (sq2 (pu ?_))
  rcases bc hm with ⟨hb7, hm⟩ | ⟨hb7, hm⟩
  · refine pn ?_
    refine cnd (b := true) rfl (fun _ => ?_) (fun h => nomatch h)
    refine sq2 (pu ?_)
    rcases bc hm with ⟨hb16, hm⟩ | ⟨hb16, hm⟩
    · exact re hm (hS.sel [0] rfl)
    exact re hm (hS.sel [0] rfl)
  refine cd hm ?_ ?_ <;> intro hb8 hm
  · refine sq2 (pu ?_)
    rcases bc hm with ⟨hb9, hm⟩ | ⟨hb9, hm⟩
    · exact re hm (hS.sel [0] rfl)
    exact re hm (hS.sel [0] rfl)
  refine pn ?_
  refine sq2 (sq2 (cd hm ?_ ?_)) <;> intro hb10 hm
  · refine sq2 (pu ?_)
    rcases bc hm with ⟨hb11, hm⟩ | ⟨hb11, hm⟩
    · exact re hm (hS.sel [0] rfl)
    exact re hm (hS.sel [0] rfl)
  refine pn ?_
  refine sq2 (sq2 (cd hm ?_ ?_)) <;> intro hb12 hm
  · refine sq2 (pu ?_)
    rcases bc hm with ⟨hb13, hm⟩ | ⟨hb13, hm⟩
    · refine pu ?_
      rcases bc hm with ⟨hb14, hm⟩ | ⟨hb14, hm⟩
      · refine pu ?_
        refine nil (t_thenR [(4, .bool ((Int.tmod p1 2) == 0))] ⟨rfl, trivial⟩ fun J => ?_)
        exact re hm (hS.sel [0] rfl)
      refine pu ?_
      refine nil (t_thenR [(4, .bool false)] ⟨rfl, trivial⟩ fun J => ?_)
      exact re hm (hS.sel [0] rfl)
    refine pu ?_
    refine nil (t_thenR [(4, .bool false)] ⟨rfl, trivial⟩ fun J => ?_)
    exact re hm (hS.sel [0] rfl)
  refine pn ?_
  exact sq2 (re hm (hS.sel [0] rfl))

theorem ref02_Right_sim {p0 : GInst} (hS : Sep g T0 w0 [starL R])  : ∀ r, ref02_Right p0 = some r →
    Calls Tryz.prog 74 #[.agg (cGInst p0).toArray] w0 (RetS T0 w0 fun T w v => v = .bool r ∧ Sep g T w (R ++ []) ∧ True) := by
  intro r hm
  refine enter Tryz.func74 rfl Tryz.ntmps74 rfl fun J => ?_
  unfold ref02_Right at hm
  refine sq2 (bX (cGInst p0) hS ?_)
  intro w1 b1 im1 hS1
  refine pn ?_
  refine sq2 (pu ?_)
  refine cB cf70 hm (ref02_Form_sim (hS1.bun [0, 1] [] rfl)) ?_
  rintro y1 _ T1 w2 im2 ⟨rfl, hS2, _⟩ hm
  refine pn ?_
  refine sq2 (rsS [0, 0, 0, 0, 1, 0, 2, 2, 0, 0, 0, 1, 0, 2, 2, 0, 0, 0, 1, 0, 2, 2, 0, 0, 0, 0, 1, 2, 0, 0] [0, 1, 2, 3, 4, 5, 6, 7, 8, 9, 10, 11, 12, 13, 14, 15, 16, 17, 18, 19, 20, 21, 22, 23, 24, 25, 26, 27, 28, 29] hS2 fun w3 im3 hS3 => ?_)
  refine pu ?_
  rcases bc hm with ⟨hb1, hm⟩ | ⟨hb1, hm⟩
  · obtain ⟨y2, hx2, hm⟩ := bindS hm
    refine sS [(4, iv p0.Rd)] cf72 (ref02_has_sim (hS3.bun [0, 1] [] rfl) _ hx2) ?_
    rintro _ T2 w4 im4 ⟨rfl, hS4, _⟩
    refine pu ?_
    obtain ⟨y3, hx3, hm⟩ := bindS hm
    refine sS [] cf130 (ref02_reg_sim (hS4.bun [0, 1] [] rfl) _ hx3) ?_
    rintro _ T3 w5 im5 ⟨rfl, hS5, _⟩
    refine pu ?_
    rcases bc hm with ⟨hb2, hm⟩ | ⟨hb2, hm⟩
    · obtain ⟨y4, hx4, hm⟩ := bindS hm
      refine sS [(11, iv p0.Rs1)] cf72 (ref02_has_sim (hS5.bun [0, 1] [] rfl) _ hx4) ?_
      rintro _ T4 w6 im6 ⟨rfl, hS6, _⟩
      refine pu ?_
      obtain ⟨y5, hx5, hm⟩ := bindS hm
      refine sS [] cf130 (ref02_reg_sim (hS6.bun [0, 1] [] rfl) _ hx5) ?_
      rintro _ T5 w7 im7 ⟨rfl, hS7, _⟩
      refine pu ?_
      rcases bc hm with ⟨hb3, hm⟩ | ⟨hb3, hm⟩
      · obtain ⟨y6, hx6, hm⟩ := bindS hm
        refine sS [(18, iv p0.Rs2)] cf72 (ref02_has_sim (hS7.bun [0, 1] [] rfl) _ hx6) ?_
        rintro _ T6 w8 im8 ⟨rfl, hS8, _⟩
        refine pu ?_
        obtain ⟨y7, hx7, hm⟩ := bindS hm
        refine sS [] cf130 (ref02_reg_sim (hS8.bun [0, 1] [] rfl) _ hx7) ?_
        rintro _ T7 w9 im9 ⟨rfl, hS9, _⟩
        refine pu ?_
        rcases bc hm with ⟨hb4, hm⟩ | ⟨hb4, hm⟩
        · obtain ⟨y8, hx8, hm⟩ := bindS hm
          refine sS [] cf131 (ref02_room_sim (hS9.bun [1, 0] [] rfl) _ hx8) ?_
          rintro _ T8 w10 im10 ⟨rfl, hS10, _⟩
          refine pu ?_
          refine se (t_thenR [(2, .bool y8)] ⟨rfl, trivial⟩ fun J => ?_)
          exact re hm (hS10.sel [0] rfl)
        refine pu ?_
        refine se (t_thenR [(2, .bool false)] ⟨rfl, trivial⟩ fun J => ?_)
        exact re hm (hS9.sel [1] rfl)
      refine pu ?_
      refine se (t_thenR [(2, .bool false)] ⟨rfl, trivial⟩ fun J => ?_)
      exact re hm (hS7.sel [1] rfl)
    refine pu ?_
    refine se (t_thenR [(2, .bool false)] ⟨rfl, trivial⟩ fun J => ?_)
    exact re hm (hS5.sel [1] rfl)
  refine pu ?_
  refine se (t_thenR [(2, .bool false)] ⟨rfl, trivial⟩ fun J => ?_)
  exact re hm (hS3.sel [1] rfl)

theorem ref02_Code_sim {p0} (hS : Sep g T0 w0 [starL R])  : ∀ r, ref02_Code p0 = some r →
    Calls Tryz.prog 132 #[iv p0] w0 (RetS T0 w0 fun T w v => v = iv r ∧ Sep g T w (R ++ []) ∧ True) := by
  intro r hm
  refine enter Tryz.func132 rfl Tryz.ntmps132 rfl fun J => ?_
  unfold ref02_Code at hm
  refine sq2 (pn ?_)
  refine sq2 (sq2 (cd hm ?_ ?_)) <;> intro hb1 hm
  · exact sq2 (re hm (hS.sel [0] rfl))
  refine pn ?_
  refine sq2 (sq2 (cd hm ?_ ?_)) <;> intro hb2 hm
  · exact sq2 (re hm (hS.sel [0] rfl))
  refine pn ?_
  refine sq2 (sq2 (cd hm ?_ ?_)) <;> intro hb3 hm
  · exact sq2 (re hm (hS.sel [0] rfl))
  refine pn ?_
  refine sq2 (sq2 (cd hm ?_ ?_)) <;> intro hb4 hm
  · exact sq2 (re hm (hS.sel [0] rfl))
  refine pn ?_
  refine sq2 (sq2 (cd hm ?_ ?_)) <;> intro hb5 hm
  · exact sq2 (re hm (hS.sel [0] rfl))
  refine pn ?_
  refine sq2 (sq2 (cd hm ?_ ?_)) <;> intro hb6 hm
  · exact sq2 (re hm (hS.sel [0] rfl))
  refine pn ?_
  refine sq2 (sq2 (cd hm ?_ ?_)) <;> intro hb7 hm
  · exact sq2 (re hm (hS.sel [0] rfl))
  refine pn ?_
  refine sq2 (sq2 (cd hm ?_ ?_)) <;> intro hb8 hm
  · exact sq2 (re hm (hS.sel [0] rfl))
  refine pn ?_
  exact sq2 (re hm (hS.sel [0] rfl))

theorem ref02_Third_sim {p0} (hS : Sep g T0 w0 [starL R])  : ∀ r, ref02_Third p0 = some r →
    Calls Tryz.prog 133 #[iv p0] w0 (RetS T0 w0 fun T w v => v = iv r ∧ Sep g T w (R ++ []) ∧ True) := by
  intro r hm
  refine enter Tryz.func133 rfl Tryz.ntmps133 rfl fun J => ?_
  unfold ref02_Third at hm
  refine sq2 (pn ?_)
  refine sq2 (bS (r := (rInt .i64)) (l := ([0, 0, 0, 0, 0, 0, 1, 4, 5, 6, 7, 0, 1, 2, 4, 5, 0, 1, 2, 0, 2, 3, 4, 6, 7, 1, 5, 5, 0, 0, 1, 2, 3, 4, 5, 5, 6, 7, 0, 1, 2, 3, 4, 5, 6, 7] : List Int)) (css := [[iv 0], [iv 0], [iv 0], [iv 0], [iv 0], [iv 0], [iv 1], [iv 4], [iv 5], [iv 6], [iv 7], [iv 0], [iv 1], [iv 2], [iv 4], [iv 5], [iv 0], [iv 1], [iv 2], [iv 0], [iv 2], [iv 3], [iv 4], [iv 6], [iv 7], [iv 1], [iv 5], [iv 5], [iv 0], [iv 0], [iv 1], [iv 2], [iv 3], [iv 4], [iv 5], [iv 5], [iv 6], [iv 7], [iv 0], [iv 1], [iv 2], [iv 3], [iv 4], [iv 5], [iv 6], [iv 7]]) hS ⟨rfl, rfl, rfl, rfl, rfl, rfl, rfl, rfl, rfl, rfl, rfl, rfl, rfl, rfl, rfl, rfl, rfl, rfl, rfl, rfl, rfl, rfl, rfl, rfl, rfl, rfl, rfl, rfl, rfl, rfl, rfl, rfl, rfl, rfl, rfl, rfl, rfl, rfl, rfl, rfl, rfl, rfl, rfl, rfl, rfl, rfl, trivial⟩ ?_)
  intro w1 a1 n1 c1 im1 hS1
  refine pn ?_
  refine sq2 ?_
  obtain ⟨u1, hx1, hm⟩ := bindS hm
  exact re hm (hS1.sel [1] rfl)

theorem ref02_Seventh_sim {p0} (hS : Sep g T0 w0 [starL R])  : ∀ r, ref02_Seventh p0 = some r →
    Calls Tryz.prog 134 #[iv p0] w0 (RetS T0 w0 fun T w v => v = iv r ∧ Sep g T w (R ++ []) ∧ True) := by
  intro r hm
  refine enter Tryz.func134 rfl Tryz.ntmps134 rfl fun J => ?_
  unfold ref02_Seventh at hm
  refine sq2 (pn ?_)
  refine sq2 (sq2 (pu ?_))
  rcases bc hm with ⟨hb1, hm⟩ | ⟨hb1, hm⟩
  · refine pn ?_
    refine cnd (b := true) rfl (fun _ => ?_) (fun h => nomatch h)
    exact sq2 (re hm (hS.sel [0] rfl))
  refine pu ?_
  rcases bc hm with ⟨hb2, hm⟩ | ⟨hb2, hm⟩
  · refine pn ?_
    refine cnd (b := true) rfl (fun _ => ?_) (fun h => nomatch h)
    exact sq2 (re hm (hS.sel [0] rfl))
  refine cd hm ?_ ?_ <;> intro hb3 hm
  · exact sq2 (re hm (hS.sel [0] rfl))
  refine pn ?_
  refine sq2 (sq2 (cd hm ?_ ?_)) <;> intro hb4 hm
  · exact sq2 (re hm (hS.sel [0] rfl))
  refine pn ?_
  exact sq2 (re hm (hS.sel [0] rfl))

theorem ref02_Spread_sim {p0 p1} (hS : Sep g T0 w0 [starL R])  : ∀ r, ref02_Spread p0 p1 = some r →
    Calls Tryz.prog 135 #[.int .u8 p0, iv p1] w0 (RetS T0 w0 fun T w v => v = iv r ∧ Sep g T w (R ++ []) ∧ True) := by
  intro r hm
  refine enter Tryz.func135 rfl Tryz.ntmps135 rfl fun J => ?_
  unfold ref02_Spread at hm
  refine sq2 (pn ?_)
  refine sq2 (sq2 (cd hm ?_ ?_)) <;> intro hb1 hm
  · refine sq2 (pu ?_)
    refine cB cf73 hm (ref02_move_sim (hS.bun [0] [] rfl)) ?_
    rintro y1 _ T1 w1 im1 ⟨rfl, hS1, _⟩ hm
    exact re hm (hS1.sel [0] rfl)
  refine pn ?_
  refine sq2 (sq2 (cd hm ?_ ?_)) <;> intro hb2 hm
  · refine sq2 (pu ?_)
    refine cB cf73 hm (ref02_move_sim (hS.bun [0] [] rfl)) ?_
    rintro y2 _ T2 w2 im2 ⟨rfl, hS2, _⟩ hm
    refine pu ?_
    refine cB cf73 hm (ref02_move_sim (hS2.bun [0] [] rfl)) ?_
    rintro y3 _ T3 w3 im3 ⟨rfl, hS3, _⟩ hm
    refine pu ?_
    refine cB cf73 hm (ref02_move_sim (hS3.bun [0] [] rfl)) ?_
    rintro y4 _ T4 w4 im4 ⟨rfl, hS4, _⟩ hm
    refine pu ?_
    refine cB cf73 hm (ref02_move_sim (hS4.bun [0] [] rfl)) ?_
    rintro y5 _ T5 w5 im5 ⟨rfl, hS5, _⟩ hm
    exact re hm (hS5.sel [0] rfl)
  refine pn ?_
  refine sq2 (sq2 (cd hm ?_ ?_)) <;> intro hb3 hm
  · refine sq2 (pu ?_)
    refine cB cf73 hm (ref02_move_sim (hS.bun [0] [] rfl)) ?_
    rintro y6 _ T6 w6 im6 ⟨rfl, hS6, _⟩ hm
    exact re hm (hS6.sel [0] rfl)
  refine pn ?_
  refine sq2 (sq2 (cd hm ?_ ?_)) <;> intro hb4 hm
  · refine sq2 (pu ?_)
    refine cB cf73 hm (ref02_move_sim (hS.bun [0] [] rfl)) ?_
    rintro y7 _ T7 w7 im7 ⟨rfl, hS7, _⟩ hm
    exact re hm (hS7.sel [0] rfl)
  refine pn ?_
  refine sq2 (sq2 (cd hm ?_ ?_)) <;> intro hb5 hm
  · refine sq2 (pu ?_)
    refine cB cf73 hm (ref02_move_sim (hS.bun [0] [] rfl)) ?_
    rintro y8 _ T8 w8 im8 ⟨rfl, hS8, _⟩ hm
    refine pu ?_
    refine cB cf73 hm (ref02_move_sim (hS8.bun [0] [] rfl)) ?_
    rintro y9 _ T9 w9 im9 ⟨rfl, hS9, _⟩ hm
    exact re hm (hS9.sel [0] rfl)
  refine pn ?_
  refine sq2 (sq2 (cd hm ?_ ?_)) <;> intro hb6 hm
  · refine sq2 (pu ?_)
    refine cB cf73 hm (ref02_move_sim (hS.bun [0] [] rfl)) ?_
    rintro y10 _ T10 w10 im10 ⟨rfl, hS10, _⟩ hm
    refine pu ?_
    refine cB cf73 hm (ref02_move_sim (hS10.bun [0] [] rfl)) ?_
    rintro y11 _ T11 w11 im11 ⟨rfl, hS11, _⟩ hm
    refine pu ?_
    refine cB cf73 hm (ref02_move_sim (hS11.bun [0] [] rfl)) ?_
    rintro y12 _ T12 w12 im12 ⟨rfl, hS12, _⟩ hm
    refine pu ?_
    refine cB cf73 hm (ref02_move_sim (hS12.bun [0] [] rfl)) ?_
    rintro y13 _ T13 w13 im13 ⟨rfl, hS13, _⟩ hm
    refine pu ?_
    refine nil (t_thenR [(4, iv (IntKind.wrap .i64 ((IntKind.wrap .i64 ((IntKind.wrap .i64 (y10 + y11)) + y12)) + y13)))] ⟨rfl, trivial⟩ fun J => ?_)
    exact re hm (hS13.sel [0] rfl)
  refine pn ?_
  exact sq2 (re hm (hS.sel [0] rfl))

theorem ref02_Word_sim {p0 : GInst} (hS : Sep g T0 w0 [starL R])  : ∀ r, ref02_Word p0 = some r →
    Calls Tryz.prog 75 #[.agg (cGInst p0).toArray] w0 (RetS T0 w0 fun T w v => v = .int .u32 r ∧ Sep g T w (R ++ []) ∧ True) := by
  intro r hm
  refine enter Tryz.func75 rfl Tryz.ntmps75 rfl fun J => ?_
  unfold ref02_Word at hm
  refine sq2 (bX (cGInst p0) hS ?_)
  intro w1 b1 im1 hS1
  refine pn ?_
  refine sq2 (pu ?_)
  refine cB cf70 hm (ref02_Form_sim (hS1.bun [0, 1] [] rfl)) ?_
  rintro y1 _ T1 w2 im2 ⟨rfl, hS2, _⟩ hm
  refine pn ?_
  refine sq2 (rsS [0, 1, 2, 0, 1, 2, 0, 0, 0, 1, 2, 2, 0, 0, 0, 1, 2, 0, 0, 0, 1, 2, 0, 0, 0, 1, 2, 2, 0, 0, 0, 0, 1, 2, 0, 0, 0] [0, 1, 3, 4, 8, 9, 14, 15, 19, 20, 24, 25, 30, 31, 32, 2, 5, 6, 7, 10, 11, 12, 13, 16, 17, 18, 21, 22, 23, 26, 27, 28, 29, 33, 34, 35, 36] hS2 fun w3 im3 hS3 => ?_)
  obtain ⟨y2, hx2, hm⟩ := bindS hm
  refine sS [(32, iv p0.Imm), (25, iv p0.Op), (20, iv p0.Rs2), (15, iv p0.Rs1), (9, iv p0.Op), (4, iv p0.Rd)] cf132 (ref02_Code_sim (hS3.bun [1, 0] [] rfl) _ hx2) ?_
  rintro _ T2 w4 im4 ⟨rfl, hS4, _⟩
  refine pu ?_
  obtain ⟨y3, hx3, hm⟩ := bindS hm
  refine sS [(32, iv p0.Imm), (25, iv p0.Op), (20, iv p0.Rs2), (15, iv p0.Rs1), (9, iv p0.Op), (4, iv p0.Rd)] cf129 (ref02_two_sim (hS4.bun [0, 1] [] rfl) _ hx3) ?_
  rintro _ T3 w5 im5 ⟨rfl, hS5, _⟩
  refine pu ?_
  obtain ⟨y4, hx4, hm⟩ := bindS hm
  refine sS [(32, iv p0.Imm), (25, iv p0.Op), (20, iv p0.Rs2), (15, iv p0.Rs1), (4, iv p0.Rd)] cf133 (ref02_Third_sim (hS5.bun [0, 1] [] rfl) _ hx4) ?_
  rintro _ T4 w6 im6 ⟨rfl, hS6, _⟩
  refine pu ?_
  obtain ⟨y5, hx5, hm⟩ := bindS hm
  refine sS [(32, iv p0.Imm), (25, iv p0.Op), (20, iv p0.Rs2), (15, iv p0.Rs1), (4, iv p0.Rd)] cf129 (ref02_two_sim (hS6.bun [0, 1] [] rfl) _ hx5) ?_
  rintro _ T5 w7 im7 ⟨rfl, hS7, _⟩
  refine pu ?_
  obtain ⟨y6, hx6, hm⟩ := bindS hm
  refine sS [(32, iv p0.Imm), (25, iv p0.Op), (20, iv p0.Rs2), (15, iv p0.Rs1), (4, iv p0.Rd)] cf129 (ref02_two_sim (hS7.bun [0, 1] [] rfl) _ hx6) ?_
  rintro _ T6 w8 im8 ⟨rfl, hS8, _⟩
  refine pu ?_
  obtain ⟨y7, hx7, hm⟩ := bindS hm
  refine sS [(32, iv p0.Imm), (25, iv p0.Op), (20, iv p0.Rs2), (15, iv p0.Rs1), (4, iv p0.Rd)] cf129 (ref02_two_sim (hS8.bun [0, 1] [] rfl) _ hx7) ?_
  rintro _ T7 w9 im9 ⟨rfl, hS9, _⟩
  refine pu ?_
  obtain ⟨y8, hx8, hm⟩ := bindS hm
  refine sS [(32, iv p0.Imm), (20, iv p0.Rs2), (15, iv p0.Rs1), (4, iv p0.Rd)] cf134 (ref02_Seventh_sim (hS9.bun [0, 1] [] rfl) _ hx8) ?_
  rintro _ T8 w10 im10 ⟨rfl, hS10, _⟩
  refine pu ?_
  obtain ⟨y9, hx9, hm⟩ := bindS hm
  refine sS [(32, iv p0.Imm), (20, iv p0.Rs2), (15, iv p0.Rs1), (4, iv p0.Rd)] cf129 (ref02_two_sim (hS10.bun [0, 1] [] rfl) _ hx9) ?_
  rintro _ T9 w11 im11 ⟨rfl, hS11, _⟩
  refine pu ?_
  obtain ⟨y10, hx10, hm⟩ := bindS hm
  refine sS [(20, iv p0.Rs2), (15, iv p0.Rs1), (4, iv p0.Rd)] cf135 (ref02_Spread_sim (hS11.bun [0, 1] [] rfl) _ hx10) ?_
  rintro _ T10 w12 im12 ⟨rfl, hS12, _⟩
  refine pu ?_
  refine se (t_thenR [(2, .int .u32 (IntKind.wrap .u32 (IntKind.wrap .i64 ((IntKind.wrap .i64 ((IntKind.wrap .i64 ((IntKind.wrap .i64 ((IntKind.wrap .i64 ((IntKind.wrap .i64 (y2 + (IntKind.wrap .i64 (p0.Rd * y3)))) + (IntKind.wrap .i64 (y4 * y5)))) + (IntKind.wrap .i64 (p0.Rs1 * y6)))) + (IntKind.wrap .i64 (p0.Rs2 * y7)))) + (IntKind.wrap .i64 (y8 * y9)))) + y10))))] ⟨rfl, trivial⟩ fun J => ?_)
  exact re hm (hS12.sel [0] rfl)

theorem ref02_Decode_sim {p0} (hS : Sep g T0 w0 [starL R])  : ∀ r, ref02_Decode p0 = some r →
    Calls Tryz.prog 39 #[.int .u32 p0] w0 (RetS T0 w0 fun T w v => v = .tuple #[.agg (cGInst r.1).toArray, iv r.2] ∧ Sep g T w (R ++ []) ∧ True) := by
  intro r hm
  refine enter Tryz.func39 rfl Tryz.ntmps39 rfl fun J => ?_
  unfold ref02_Decode at hm
  refine sq2 (aL [iv 0, iv 0, iv 0, iv 0, iv 0] hS ?_)
  intro w1 b1 im1 hS1
  refine pn ?_
  refine sq2 (pn ?_)
  refine sq2 (sq2 (pn ?_))
  refine lpJ hm (fun bd1 o1 m a w2 => ∃ T1 x1, JR (nf 46) g T0 w1 a w2 T1 (loopM bd1 m x1 = some o1) [(0, .int .u32 p0), (2, pt b1 0), (4, iv (IntKind.wrap .i64 p0)), (5, iv x1)] [starL R, boxA b1 [iv 0, iv 0, iv 0, iv 0, iv 0]]) (fun _ _ h => je h (hS1.sel [1, 0] rfl)) ?_
  rintro bd1 hbd1 o1 hq1 _ _ w2 ⟨T1, x1, J, ho1, rfl, hS2, im2⟩
  obtain ⟨m1, z1, rfl, hm, hn1⟩ := lrE ho1 hbd1
  refine sq2 (sq2 (cd hm ?_ ?_)) <;> intro hb1 hm
  · refine pn ?_
    refine sq2 (blk (sq2 (pu ?_)))
    refine cB cf70 hm (ref02_Form_sim (hS2.bun [0, 1] [] rfl)) ?_
    rintro y1 _ T2 w3 im3 ⟨rfl, hS3, _⟩ hm
    refine pn ?_
    refine sq2 (pu ?_)
    refine cB cf71 hm (ref02_Gather_sim (hS3.bun [0, 1] [] rfl)) ?_
    rintro y2 _ T3 w4 im4 ⟨rfl, hS4, _⟩ hm
    refine pv (r_bd (by kernel_rfl) rfl (u := .agg #[iv x1, iv 0, iv 0, iv 0, iv y2])) (aL [iv 0, iv 0, iv 0, iv 0, iv 0] hS4 ?_)
    intro w5 b2 im5 hS5
    refine sT 0 hS5 ?_
    intro w6 im6 hS6
    refine pn ?_
    refine cutJ hm (fun kk1 a w7 => ∃ (T4 : _) (x2 : GInst), JR (nf 46) g T3 w6 a w7 T4 (kk1 x2 = some z1) [(0, .int .u32 p0), (2, pt b1 0), (4, iv (IntKind.wrap .i64 p0)), (5, iv x1), (6, .int .u8 y1), (7, pt b2 0)] [starL R, boxA b1 [iv 0, iv 0, iv 0, iv 0, iv 0], boxA b2 (cGInst x2)]) (fun kk1 hm => ?_) ?_
    · refine sq2 (pu ?_)
      refine cB cf72 hm (ref02_has_sim (hS6.bun [0, 1, 2] [] rfl)) ?_
      rintro y3 _ T5 w8 im8 ⟨rfl, hS7, _⟩ hm
      refine cd hm ?_ ?_ <;> intro hb2 hm
      · refine pu ?_
        refine cB cf73 hm (ref02_move_sim (hS7.bun [0, 1, 2] [] rfl)) ?_
        rintro y4 _ T6 w9 im9 ⟨rfl, hS8, _⟩ hm
        refine sT 0 hS8 ?_
        intro w10 im10 hS9
        exact je hm (hS9.sel [1, 2, 0] rfl)
      exact je hm (hS7.sel [1, 2, 0] rfl)
    rintro _ w7 ⟨T4, x2, J, hm, rfl, hS10, im7⟩
    refine cutJ hm (fun kk2 a w11 => ∃ (T7 : _) (x3 : GInst), JR (nf 46) g T4 w7 a w11 T7 (kk2 x3 = some z1) [(0, .int .u32 p0), (2, pt b1 0), (4, iv (IntKind.wrap .i64 p0)), (5, iv x1), (6, .int .u8 y1), (7, pt b2 0)] [starL R, boxA b1 [iv 0, iv 0, iv 0, iv 0, iv 0], boxA b2 (cGInst x3)]) (fun kk2 hm => ?_) ?_
    · refine sq2 (pu ?_)
      refine cB cf72 hm (ref02_has_sim (hS10.bun [0, 1, 2] [] rfl)) ?_
      rintro y5 _ T8 w12 im12 ⟨rfl, hS11, _⟩ hm
      refine cd hm ?_ ?_ <;> intro hb3 hm
      · refine pu ?_
        refine cB cf73 hm (ref02_move_sim (hS11.bun [0, 1, 2] [] rfl)) ?_
        rintro y6 _ T9 w13 im13 ⟨rfl, hS12, _⟩ hm
        refine sT 2 hS12 ?_
        intro w14 im14 hS13
        exact je hm (hS13.sel [0, 1, 2] rfl)
      exact je hm (hS11.sel [0, 1, 2] rfl)
    rintro _ w11 ⟨T7, x3, J, hm, rfl, hS14, im11⟩
    refine cutJ hm (fun kk3 a w15 => ∃ (T10 : _) (x4 : GInst), JR (nf 46) g T7 w11 a w15 T10 (kk3 x4 = some z1) [(0, .int .u32 p0), (2, pt b1 0), (4, iv (IntKind.wrap .i64 p0)), (5, iv x1), (7, pt b2 0)] [starL R, boxA b1 [iv 0, iv 0, iv 0, iv 0, iv 0], boxA b2 (cGInst x4)]) (fun kk3 hm => ?_) ?_
    · refine sq2 (pu ?_)
      refine cB cf72 hm (ref02_has_sim (hS14.bun [0, 1, 2] [] rfl)) ?_
      rintro y7 _ T11 w16 im16 ⟨rfl, hS15, _⟩ hm
      refine cd hm ?_ ?_ <;> intro hb4 hm
      · refine pu ?_
        refine cB cf73 hm (ref02_move_sim (hS15.bun [0, 1, 2] [] rfl)) ?_
        rintro y8 _ T12 w17 im17 ⟨rfl, hS16, _⟩ hm
        refine sT 2 hS16 ?_
        intro w18 im18 hS17
        exact je hm (hS17.sel [0, 1, 2] rfl)
      exact je hm (hS15.sel [0, 1, 2] rfl)
    rintro _ w15 ⟨T10, x4, J, hm, rfl, hS18, im15⟩
    refine sq2 (pu ?_)
    refine cB cf74 hm (ref02_Right_sim (hS18.bun [0, 1, 2] [] rfl)) ?_
    rintro y9 _ T13 w19 im19 ⟨rfl, hS19, _⟩ hm
    refine pu ?_
    rcases bc hm with ⟨hb5, hm⟩ | ⟨hb5, hm⟩
    · refine pu ?_
      refine cB cf75 hm (ref02_Word_sim (hS19.bun [0, 1, 2] [] rfl)) ?_
      rintro y10 _ T14 w20 im20 ⟨rfl, hS20, _⟩ hm
      refine cd hm ?_ ?_ <;> intro hb6 hm
      · refine sq2 (sT 1 hS20 ?_)
        intro w21 im21 hS21
        refine pn ?_
        have hm := retE hm hn1 hq1
        exact re hm (hS21.sel [0] rfl)
      exact lg hm hn1 (hS20.sel [0, 1] rfl)
    refine pn ?_
    refine cnd (b := false) rfl (fun h => nomatch h) (fun _ => ?_)
    exact lg hm hn1 (hS19.sel [0, 1] rfl)
  have hm := brkE hm hn1 hq1
  refine pn ?_
  refine sq2 (pu ?_)
  refine pv (r_bd (by kernel_rfl) rfl (u := .agg #[iv 0, iv 0, iv 0, iv 0, iv 0])) (sT 1 hS2 ?_)
  intro w22 im22 hS22
  exact re hm (hS22.sel [0] rfl)

theorem ref30_Read_sim {p0 : List Int} {a1 c1} (hS : Sep g T0 w0 [starL R]) (h1 : SlR (rInt .u32) T0 w0 (sv a1 p0 c1) p0) : ∀ r, ref30_Read p0 = some r →
    Calls Tryz.prog 20 #[sv a1 p0 c1] w0 (RetS T0 w0 fun T w v => ∃ a15 c15 a16 c16 a17 c17, v = .tuple #[.agg #[sv a15 r.1.L c15, sv a16 r.1.Backs c16, sv a17 r.1.Marks c17], iv r.2] ∧ Sep g T w (R ++ []) ∧ SlR rGInst T w (sv a15 r.1.L c15) r.1.L ∧ SlR (rInt .i64) T w (sv a16 r.1.Backs c16) r.1.Backs ∧ SlR (rInt .i64) T w (sv a17 r.1.Marks c17) r.1.Marks ∧ True) := by
  intro r hm
  refine enter Tryz.func20 rfl Tryz.ntmps20 rfl fun J => ?_
  unfold ref30_Read at hm
  refine sq2 (aL zv1 hS ?_)
  intro w1 b1 im1 hS1
  refine pn ?_
  refine sq2 (aL zv1 hS1 ?_)
  intro w2 b2 im2 hS2
  refine pn ?_
  refine sq2 (sq2 (pn ?_))
  have hS3 := hS2.nilO rGInst 111
  have hS4 := hS3.nilO (rInt .i64) 3
  have hS5 := hS4.nilO (rInt .i64) 3
  refine lpJ hm (fun bd1 o1 m a w3 => ∃ (T1 : _) (x5 : ref30Code) (a2 : _) (n1 : _) (c2 : _) (a3 : _) (n2 : _) (c3 : _) (a4 : _) (n3 : _) (c4 : _) (x4 : _), JR (nf 61) g T0 w2 a w3 T1 (loopM bd1 m (x4, x5) = some o1) [(0, sv a1 p0 c1), (2, pt b1 0), (4, pt b2 0), (5, iv x4)] [starL R, boxA b1 zv1, boxA b2 [.slice a2 n1 c2, .slice a3 n2 c3, .slice a4 n3 c4], ownA rGInst 111 (.slice a2 n1 c2) x5.L, ownA (rInt .i64) 3 (.slice a3 n2 c3) x5.Backs, ownA (rInt .i64) 3 (.slice a4 n3 c4) x5.Marks]) (fun _ _ h => je h (hS5.sel [5, 4, 3, 2, 1, 0] rfl)) ?_
  rintro bd1 hbd1 o1 hq1 _ _ w3 ⟨T1, x5, a2, n1, c2, a3, n2, c3, a4, n3, c4, x4, J, ho1, rfl, hS6, im3⟩
  obtain ⟨m1, z1, rfl, hm, hn1⟩ := lrE ho1 hbd1
  refine sq2 (sq2 (cd hm ?_ ?_)) <;> intro hb1 hm
  · refine pn ?_
    refine cutJ hm (fun kk1 a w4 => ∃ (T2 : _) (x9 : ref30Code) (a5 : _) (n4 : _) (c5 : _) (a6 : _) (n5 : _) (c6 : _) (a7 : _) (n6 : _) (c7 : _), JR (nf 61) g T1 w3 a w4 T2 (kk1 x9 = some z1) [(0, sv a1 p0 c1), (2, pt b1 0), (4, pt b2 0), (5, iv x4)] [starL R, boxA b1 zv1, boxA b2 [.slice a5 n4 c5, .slice a6 n5 c6, .slice a7 n6 c7], ownA rGInst 111 (.slice a5 n4 c5) x9.L, ownA (rInt .i64) 3 (.slice a6 n5 c6) x9.Backs, ownA (rInt .i64) 3 (.slice a7 n6 c7) x9.Marks]) (fun kk1 hm => ?_) ?_
    · refine blk (sq2 ?_)
      obtain ⟨u1, hx1, hm⟩ := bindS hm
      refine pu ?_
      refine cB cf39 hm (ref02_Decode_sim (hS6.bun (nrow 0 6) [] rfl)) ?_
      rintro y1 _ T3 w5 im5 ⟨rfl, hS7, _⟩ hm
      refine aL [iv 0, iv 0, iv 0, iv 0, iv 0] hS7 ?_
      intro w6 b3 im6 hS8
      refine sT 0 hS8 ?_
      intro w7 im7 hS9
      refine pn ?_
      refine sq2 (sq2 (cd hm ?_ ?_)) <;> intro hb2 hm
      · refine sq2 (pu ?_)
        refine pv (r_bd (by kernel_rfl) rfl (u := .agg #[.slice none 0 0, .slice none 0 0, .slice none 0 0])) (sT 2 hS9 ?_)
        intro w8 im8 hS10
        refine pn ?_
        have hm := retE hm hn1 hq1
        exact re hm (hS10.sel [1] rfl)
      refine pn ?_
      refine sq2 (bS (r := rGInst) (l := ([y1.1] : List GInst)) (css := [(cGInst y1.1)]) hS9 ⟨(rGInst_mk (x := y1.1)  : rGInst.rp _ _ _ _), trivial⟩ ?_)
      intro w9 a8 n7 c8 im9 hS11
      obtain ⟨z_1, hro1, hm⟩ := bindS hm
      refine aO 5 hS11 (room_some hro1) ?_
      intro w10 a9 n8 c9 im10 hS12
      refine sT 4 hS12 ?_
      intro w11 im11 hS13
      refine pn ?_
      refine cutJ hm (fun kk2 a w12 => ∃ (T4 : _) (x13 : ref30Code) (a10 : _) (n9 : _) (c10 : _), JR (nf 61) g T3 w11 a w12 T4 (kk2 x13 = some z1) [(0, sv a1 p0 c1), (2, pt b1 0), (4, pt b2 0), (5, iv x4), (6, pt b3 0)] [starL R, boxA b1 zv1, boxA b2 [.slice a9 n8 c9, .slice a10 n9 c10, .slice a4 n3 c4], ownA rGInst 111 (.slice a9 n8 c9) x13.L, ownA (rInt .i64) 3 (.slice a10 n9 c10) x13.Backs, ownA (rInt .i64) 3 (.slice a4 n3 c4) x13.Marks, boxA b3 (cGInst y1.1)]) (fun kk2 hm => ?_) ?_
      · refine sq2 (pu ?_)
        refine fkN (d := 38) (c := ((y1.1.Op == 3) && (y1.1.Rd == 1))) 4 [(0, sv a1 p0 c1), (2, pt b1 0), (4, pt b2 0), (5, iv x4), (6, pt b3 0)] rfl (fun hk => ?_) fun J => ?_
        · rcases Bool.eq_false_or_eq_true (y1.1.Op == 3) with hb3 | hb3
          · exact  gT (d0 := 34) rfl rfl hb3 (pv (r_fa rfl underlying111 rfl sizeOf3 rfl) (gT (d0 := 34) rfl rfl hb3 (pv (r_ld rfl isAgg3 (hS13.cell0 (i := 1) ⟨rfl, rfl⟩ (j := 1) rfl)) (gT (d0 := 34) rfl rfl hb3 (pv (r_ib rfl rfl rfl) (pv (r_pkt rfl hb3 rfl) (wlR (fun J => hk J _ (by rw [hb3]; rfl)) ⟨rfl, rfl, rfl, rfl, rfl, rfl, trivial⟩)))))))
          exact  gF3 (d0 := 34) rfl rfl (by rw [hb3]; rfl) (pv (r_pkf rfl hb3 rfl) (wlR (fun J => hk J _ (by rw [hb3]; rfl)) ⟨rfl, rfl, rfl, rfl, rfl, rfl, trivial⟩))
        refine cd hm ?_ ?_ <;> intro hb4 hm
        · refine bS (r := (rInt .i64)) (l := ([IntKind.wrap .i64 (x4 + 1)] : List Int)) (css := [[iv (IntKind.wrap .i64 (x4 + 1))]]) hS13 ⟨rfl, trivial⟩ ?_
          intro w13 a11 n10 c11 im13 hS14
          obtain ⟨z_2, hro2, hm⟩ := bindS hm
          refine aO 7 hS14 (room_some hro2) ?_
          intro w14 a12 n11 c12 im14 hS15
          refine sT 5 hS15 ?_
          intro w15 im15 hS16
          exact je hm (hS16.sel (nrow 3 6 ++ [2]) rfl)
        exact je hm (hS13.sel (nrow 2 6 ++ [1]) rfl)
      rintro _ w12 ⟨T4, x13, a10, n9, c10, J, hm, rfl, hS17, im12⟩
      refine sq2 (pu ?_)
      refine fkN (d := 53) (c := ((y1.1.Op == 3) && (y1.1.Rd == 5))) 4 [(0, sv a1 p0 c1), (2, pt b1 0), (4, pt b2 0), (5, iv x4)] rfl (fun hk => ?_) fun J => ?_
      · rcases Bool.eq_false_or_eq_true (y1.1.Op == 3) with hb5 | hb5
        · exact  gT (d0 := 49) rfl rfl hb5 (pv (r_fa rfl underlying111 rfl sizeOf3 rfl) (gT (d0 := 49) rfl rfl hb5 (pv (r_ld rfl isAgg3 (hS17.cell0 (i := 6) ⟨rfl, rfl⟩ (j := 1) rfl)) (gT (d0 := 49) rfl rfl hb5 (pv (r_ib rfl rfl rfl) (pv (r_pkt rfl hb5 rfl) (wlR (fun J => hk J _ (by rw [hb5]; rfl)) ⟨rfl, rfl, rfl, rfl, rfl, trivial⟩)))))))
        exact  gF3 (d0 := 49) rfl rfl (by rw [hb5]; rfl) (pv (r_pkf rfl hb5 rfl) (wlR (fun J => hk J _ (by rw [hb5]; rfl)) ⟨rfl, rfl, rfl, rfl, rfl, trivial⟩))
      refine cd hm ?_ ?_ <;> intro hb6 hm
      · refine bS (r := (rInt .i64)) (l := ([x4] : List Int)) (css := [[iv x4]]) hS17 ⟨rfl, trivial⟩ ?_
        intro w16 a13 n12 c13 im16 hS18
        obtain ⟨z_3, hro3, hm⟩ := bindS hm
        refine aO 6 hS18 (room_some hro3) ?_
        intro w17 a14 n13 c14 im17 hS19
        refine sT 3 hS19 ?_
        intro w18 im18 hS20
        exact je hm (hS20.sel (nrow 1 6) rfl)
      exact je hm (hS17.sel (nrow 0 6) rfl)
    rintro _ w4 ⟨T2, x9, a5, n4, c5, a6, n5, c6, a7, n6, c7, J, hm, rfl, hS21, im4⟩
    exact lg hm hn1 (hS21.sel (nrow 0 6) rfl)
  have hm := brkE hm hn1 hq1
  refine pn ?_
  refine sq2 (sT 1 hS6 ?_)
  intro w19 im19 hS22
  refine pn ?_
  obtain ⟨T5, im20, hS23, h2, rfl⟩ := hS22.sl 3
  obtain ⟨T6, im21, hS24, h3, rfl⟩ := hS23.sl 4
  obtain ⟨T7, im22, hS25, h4, rfl⟩ := hS24.sl 5
  exact re hm (hS25.sel [0] rfl)

theorem ref30_mark_sim {p0 : ref30Code} {a1 c1 a2 c2 a3 c3} (hS : Sep g T0 w0 [starL R]) (h1 : SlR rGInst T0 w0 (sv a1 p0.L c1) p0.L) (h2 : SlR (rInt .i64) T0 w0 (sv a2 p0.Backs c2) p0.Backs) (h3 : SlR (rInt .i64) T0 w0 (sv a3 p0.Marks c3) p0.Marks) : ∀ r, ref30_mark p0 = some r →
    Calls Tryz.prog 21 #[.agg #[sv a1 p0.L c1, sv a2 p0.Backs c2, sv a3 p0.Marks c3]] w0 (RetS T0 w0 fun T w v => v = iv r ∧ Sep g T w (R ++ []) ∧ True) := by
  intro r hm
  refine enter Tryz.func21 rfl Tryz.ntmps21 rfl fun J => ?_
  unfold ref30_mark at hm
  refine sq2 (bX [sv a1 p0.L c1, sv a2 p0.Backs c2, sv a3 p0.Marks c3] hS ?_)
  intro w1 b1 im1 hS1
  refine pn ?_
  refine sq2 ?_
  obtain ⟨u1, hx1, hm⟩ := bindS hm
  obtain ⟨u2, hx2, hm⟩ := bindS hm
  obtain rfl : u1 = u2 := oI (hx1.symm.trans hx2)
  obtain ⟨u3, hx3, hm⟩ := bindS hm
  refine rqS hS1 (pn ?_)
  intro w2 T1 im2 hS2
  refine pn ?_
  refine sq2 (sq2 (pn ?_))
  refine lpJ hm (fun bd1 o1 m a w3 => ∃ T2 x1, JR (nf 44) g T1 w2 a w3 T2 (loopM bd1 m x1 = some o1) [(1, pt b1 0), (3, iv (IntKind.wrap .i64 (u1 + (IntKind.wrap .i64 (Int.tdiv u3.Imm 4))))), (4, iv x1)] [starL R, boxA b1 [sv a1 p0.L c1, sv a2 p0.Backs c2, sv a3 p0.Marks c3]]) (fun _ _ h => je h (hS2.sel [1, 0] rfl)) ?_
  rintro bd1 hbd1 o1 hq1 _ _ w3 ⟨T2, x1, J, ho1, rfl, hS3, im3⟩
  obtain ⟨m1, z1, rfl, hm, hn1⟩ := lrE ho1 hbd1
  refine sq2 (sq2 (pu ?_))
  refine fkN (d := 30) (c := ((decide (0 ≤ (IntKind.wrap .i64 (u1 + (IntKind.wrap .i64 (Int.tdiv u3.Imm 4)))))) && (decide ((IntKind.wrap .i64 ((IntKind.wrap .i64 (u1 + (IntKind.wrap .i64 (Int.tdiv u3.Imm 4)))) + x1)) < (List.length p0.L : Int))))) 8 [(1, pt b1 0), (3, iv (IntKind.wrap .i64 (u1 + (IntKind.wrap .i64 (Int.tdiv u3.Imm 4))))), (4, iv x1)] rfl (fun hk => ?_) fun J => ?_
  · rcases Bool.eq_false_or_eq_true (decide (0 ≤ (IntKind.wrap .i64 (u1 + (IntKind.wrap .i64 (Int.tdiv u3.Imm 4)))))) with hb1 | hb1
    · exact  gT (d0 := 22) rfl rfl hb1 (pv (r_mi rfl) (gT (d0 := 22) rfl rfl hb1 (pv (r_mi rfl) (gT (d0 := 22) rfl rfl hb1 (pv (r_ib rfl rfl rfl) (gT (d0 := 22) rfl rfl hb1 (pv (r_fa rfl underlying67 rfl sizeOf65 rfl) (gT (d0 := 22) rfl rfl hb1 (pv (r_ld rfl isAgg65 (hS3.cell0 (i := 1) ⟨rfl, rfl⟩ (j := 0) rfl)) (gT (d0 := 22) rfl rfl hb1 (pv (r_ln rfl underlying65) (gT (d0 := 22) rfl rfl hb1 (pv (r_ib rfl rfl rfl) (pv (r_pkt rfl hb1 rfl) (wlR (fun J => hk J _ (by rw [hb1]; rfl)) ⟨rfl, rfl, rfl, rfl, trivial⟩)))))))))))))))
    exact  gF7 (d0 := 22) rfl rfl (by rw [hb1]; rfl) (pv (r_pkf rfl hb1 rfl) (wlR (fun J => hk J _ (by rw [hb1]; rfl)) ⟨rfl, rfl, rfl, rfl, trivial⟩))
  refine cd hm ?_ ?_ <;> intro hb2 hm
  · refine pn ?_
    refine sq2 (blk (sq2 ?_))
    obtain ⟨u4, hx4, hm⟩ := bindS hm
    refine cd hm ?_ ?_ <;> intro hb3 hm
    · refine sq2 (pn ?_)
      have hm := retE hm hn1 hq1
      exact re hm (hS3.sel [0] rfl)
    exact lg hm hn1 (hS3.sel [0, 1] rfl)
  have hm := brkE hm hn1 hq1
  refine pn ?_
  exact sq2 (re hm (hS3.sel [0] rfl))

theorem ref30_in_sim {p0 : ref30Code} {a1 c1 a2 c2 a3 c3} {p1 : List Int} {a4 c4} (hS : Sep g T0 w0 [starL R]) (h1 : SlR rGInst T0 w0 (sv a1 p0.L c1) p0.L) (h2 : SlR (rInt .i64) T0 w0 (sv a2 p0.Backs c2) p0.Backs) (h3 : SlR (rInt .i64) T0 w0 (sv a3 p0.Marks c3) p0.Marks) (h4 : SlR (rInt .i64) T0 w0 (sv a4 p1 c4) p1) : ∀ r, ref30_in p0 p1 = some r →
    Calls Tryz.prog 40 #[.agg #[sv a1 p0.L c1, sv a2 p0.Backs c2, sv a3 p0.Marks c3], sv a4 p1 c4] w0 (RetS T0 w0 fun T w v => ∃ a9 n5 c9, v = .slice a9 n5 c9 ∧ Sep g T w (R ++ [ownA (rInt .i64) 3 (.slice a9 n5 c9) r]) ∧ True) := by
  intro r hm
  refine enter Tryz.func40 rfl Tryz.ntmps40 rfl fun J => ?_
  unfold ref30_in at hm
  refine sq2 (bX [sv a1 p0.L c1, sv a2 p0.Backs c2, sv a3 p0.Marks c3] hS ?_)
  intro w1 b1 im1 hS1
  refine pn ?_
  refine sq2 (pn ?_)
  refine sq2 (sq2 (pn ?_))
  have hS2 := hS1.nilO (rInt .i64) 3
  refine lpJ hm (fun bd1 o1 m a w2 => ∃ (T1 : _) (x1 : List Int) (a5 : _) (n1 : _) (c5 : _) (x2 : _), JR (nf 36) g T0 w1 a w2 T1 (loopM bd1 m (x1, x2) = some o1) [(1, sv a4 p1 c4), (2, pt b1 0), (5, .slice a5 n1 c5), (6, iv x2)] [starL R, boxA b1 [sv a1 p0.L c1, sv a2 p0.Backs c2, sv a3 p0.Marks c3], ownA (rInt .i64) 3 (.slice a5 n1 c5) x1]) (fun _ _ h => je h (hS2.sel [2, 1, 0] rfl)) ?_
  rintro bd1 hbd1 o1 hq1 _ _ w2 ⟨T1, x1, a5, n1, c5, x2, J, ho1, rfl, hS3, im2⟩
  obtain ⟨m1, z1, rfl, hm, hn1⟩ := lrE ho1 hbd1
  refine sq2 (sq2 (cd hm ?_ ?_)) <;> intro hb1 hm
  · refine pn ?_
    refine cutJ hm (fun kk1 a w3 => ∃ (T2 : _) (x3 : List Int) (a6 : _) (n2 : _) (c6 : _), JR (nf 36) g T1 w2 a w3 T2 (kk1 x3 = some z1) [(1, sv a4 p1 c4), (2, pt b1 0), (5, .slice a6 n2 c6), (6, iv x2)] [starL R, boxA b1 [sv a1 p0.L c1, sv a2 p0.Backs c2, sv a3 p0.Marks c3], ownA (rInt .i64) 3 (.slice a6 n2 c6) x3]) (fun kk1 hm => ?_) ?_
    · refine blk (sq2 ?_)
      obtain ⟨u1, hx1, hm⟩ := bindS hm
      refine rqS hS3 (pu ?_)
      rcases bc hm with ⟨hb2, hm⟩ | ⟨hb2, hm⟩
      · obtain ⟨u2, hx2, hm⟩ := bindS hm
        obtain rfl : u1 = u2 := oI (hx1.symm.trans hx2)
        refine pn ?_
        intro w4 T3 im4 hS4
        refine cd hm ?_ ?_ <;> intro hb3 hm
        · obtain ⟨u3, hx3, hm⟩ := bindS hm
          obtain rfl : u1 = u3 := oI (hx2.symm.trans hx3)
          refine bS (r := (rInt .i64)) (l := ([u1] : List Int)) (css := [[iv u1]]) hS4 ⟨rfl, trivial⟩ ?_
          intro w5 a7 n3 c7 im5 hS5
          obtain ⟨z_1, hro1, hm⟩ := bindS hm
          refine aO 3 hS5 (room_some hro1) ?_
          intro w6 a8 n4 c8 im6 hS6
          exact je hm (hS6.sel [1, 2, 3] rfl)
        exact je hm (hS4.sel [0, 1, 2] rfl)
      refine pn ?_
      intro w7 T4 im7 hS7
      refine pn ?_
      refine cnd (b := false) rfl (fun h => nomatch h) (fun _ => ?_)
      exact je hm (hS7.sel [0, 1, 2] rfl)
    rintro _ w3 ⟨T2, x3, a6, n2, c6, J, hm, rfl, hS8, im3⟩
    exact lg hm hn1 (hS8.sel [0, 1, 2] rfl)
  have hm := brkE hm hn1 hq1
  refine pn ?_
  exact sq2 (re hm (hS3.sel [0, 2] rfl))

theorem ref30_Leads_sim {p0 : ref30Code} {a1 c1 a2 c2 a3 c3 p1} (hS : Sep g T0 w0 [starL R]) (h1 : SlR rGInst T0 w0 (sv a1 p0.L c1) p0.L) (h2 : SlR (rInt .i64) T0 w0 (sv a2 p0.Backs c2) p0.Backs) (h3 : SlR (rInt .i64) T0 w0 (sv a3 p0.Marks c3) p0.Marks) : ∀ r, ref30_Leads p0 p1 = some r →
    Calls Tryz.prog 23 #[.agg #[sv a1 p0.L c1, sv a2 p0.Backs c2, sv a3 p0.Marks c3], iv p1] w0 (RetS T0 w0 fun T w v => ∃ a11 n8 c11, v = .slice a11 n8 c11 ∧ Sep g T w (R ++ [ownA (rInt .i64) 3 (.slice a11 n8 c11) r]) ∧ True) := by
  intro r hm
  refine enter Tryz.func23 rfl Tryz.ntmps23 rfl fun J => ?_
  unfold ref30_Leads at hm
  refine sq2 (bX [sv a1 p0.L c1, sv a2 p0.Backs c2, sv a3 p0.Marks c3] hS ?_)
  intro w1 b1 im1 hS1
  refine pn ?_
  refine sq2 ?_
  obtain ⟨u1, hx1, hm⟩ := bindS hm
  refine aL [iv 0, iv 0, iv 0, iv 0, iv 0] hS1 ?_
  intro w2 b2 im2 hS2
  refine sT 0 hS2 ?_
  intro w3 im3 hS3
  refine pn ?_
  refine sq2 (pn ?_)
  refine sq2 (sq2 (pu ?_))
  refine fkN (d := 24) (c := ((u1.Op == 3) && (u1.Rd == 5))) 4 [(1, iv p1), (2, pt b1 0), (5, pt b2 0), (6, iv (IntKind.wrap .i64 (p1 + (IntKind.wrap .i64 (Int.tdiv u1.Imm 4)))))] rfl (fun hk => ?_) fun J => ?_
  · rcases Bool.eq_false_or_eq_true (u1.Op == 3) with hb1 | hb1
    · exact  gT (d0 := 20) rfl rfl hb1 (pv (r_fa rfl underlying111 rfl sizeOf3 rfl) (gT (d0 := 20) rfl rfl hb1 (pv (r_ld rfl isAgg3 (hS3.cell0 (i := 0) ⟨rfl, rfl⟩ (j := 1) rfl)) (gT (d0 := 20) rfl rfl hb1 (pv (r_ib rfl rfl rfl) (pv (r_pkt rfl hb1 rfl) (wlR (fun J => hk J _ (by rw [hb1]; rfl)) ⟨rfl, rfl, rfl, rfl, rfl, trivial⟩)))))))
    exact  gF3 (d0 := 20) rfl rfl (by rw [hb1]; rfl) (pv (r_pkf rfl hb1 rfl) (wlR (fun J => hk J _ (by rw [hb1]; rfl)) ⟨rfl, rfl, rfl, rfl, rfl, trivial⟩))
  refine cd hm ?_ ?_ <;> intro hb2 hm
  · refine sq2 (pn ?_)
    have hS4 := hS3.nilO (rInt .i64) 3
    exact re hm (hS4.sel [3, 0] rfl)
  refine pn ?_
  refine sq2 (sq2 (cd hm ?_ ?_)) <;> intro hb3 hm
  · refine sq2 (bS (r := (rInt .i64)) (l := ([IntKind.wrap .i64 (p1 + (IntKind.wrap .i64 (Int.tdiv u1.Imm 4)))] : List Int)) (css := [[iv (IntKind.wrap .i64 (p1 + (IntKind.wrap .i64 (Int.tdiv u1.Imm 4))))]]) hS3 ⟨rfl, trivial⟩ ?_)
    intro w4 a4 n1 c4 im4 hS5
    obtain ⟨T1, im5, hS6, h4, rfl⟩ := hS5.sl 0
    refine cB cf40 hm (ref30_in_sim (hS6.bun [3] [] rfl) (h1.mono ch) (h2.mono ch) (h3.mono ch) h4) ?_
    rintro y1 _ T2 w5 im6 ⟨a5, n2, c5, rfl, hS7, _⟩ hm
    exact re hm (hS7.sel [0, 1] rfl)
  refine pn ?_
  refine sq2 (sq2 (pu ?_))
  refine fkC (d := 39) (c := ((u1.Op == 4) && (u1.Rd == 0))) 4 [(1, iv p1), (2, pt b1 0), (5, pt b2 0), (6, iv (IntKind.wrap .i64 (p1 + (IntKind.wrap .i64 (Int.tdiv u1.Imm 4)))))] rfl (fun hk => ?_) fun J => ?_
  · rcases Bool.eq_false_or_eq_true (u1.Op == 4) with hb4 | hb4
    · exact  gT (d0 := 35) rfl rfl hb4 (pv (r_fa rfl underlying111 rfl sizeOf3 rfl) (gT (d0 := 35) rfl rfl hb4 (pv (r_ld rfl isAgg3 (hS3.cell0 (i := 0) ⟨rfl, rfl⟩ (j := 1) rfl)) (gT (d0 := 35) rfl rfl hb4 (pv (r_ib rfl rfl rfl) (pv (r_pkt rfl hb4 rfl) (wlR (fun J => hk J _ (by rw [hb4]; rfl)) ⟨rfl, rfl, rfl, rfl, rfl, trivial⟩)))))))
    exact  gF3 (d0 := 35) rfl rfl (by rw [hb4]; rfl) (pv (r_pkf rfl hb4 rfl) (wlR (fun J => hk J _ (by rw [hb4]; rfl)) ⟨rfl, rfl, rfl, rfl, rfl, trivial⟩))
  refine pu ?_
  refine fkC (d := 44) (c := (((u1.Op == 4) && (u1.Rd == 0)) && (u1.Rs1 == 1))) 4 [(1, iv p1), (2, pt b1 0), (5, pt b2 0), (6, iv (IntKind.wrap .i64 (p1 + (IntKind.wrap .i64 (Int.tdiv u1.Imm 4)))))] rfl (fun hk => ?_) fun J => ?_
  · rcases Bool.eq_false_or_eq_true ((u1.Op == 4) && (u1.Rd == 0)) with hb5 | hb5
    · exact  gT (d0 := 40) rfl rfl hb5 (pv (r_fa rfl underlying111 rfl sizeOf3 rfl) (gT (d0 := 40) rfl rfl hb5 (pv (r_ld rfl isAgg3 (hS3.cell0 (i := 0) ⟨rfl, rfl⟩ (j := 2) rfl)) (gT (d0 := 40) rfl rfl hb5 (pv (r_ib rfl rfl rfl) (pv (r_pkt rfl hb5 rfl) (wlR (fun J => hk J _ (by rw [hb5]; rfl)) ⟨rfl, rfl, rfl, rfl, rfl, trivial⟩)))))))
    exact  gF3 (d0 := 40) rfl rfl (by rw [hb5]; rfl) (pv (r_pkf rfl hb5 rfl) (wlR (fun J => hk J _ (by rw [hb5]; rfl)) ⟨rfl, rfl, rfl, rfl, rfl, trivial⟩))
  refine pu ?_
  refine fkN (d := 49) (c := ((((u1.Op == 4) && (u1.Rd == 0)) && (u1.Rs1 == 1)) && (u1.Imm == 0))) 4 [(1, iv p1), (2, pt b1 0), (5, pt b2 0), (6, iv (IntKind.wrap .i64 (p1 + (IntKind.wrap .i64 (Int.tdiv u1.Imm 4)))))] rfl (fun hk => ?_) fun J => ?_
  · rcases Bool.eq_false_or_eq_true (((u1.Op == 4) && (u1.Rd == 0)) && (u1.Rs1 == 1)) with hb6 | hb6
    · exact  gT (d0 := 45) rfl rfl hb6 (pv (r_fa rfl underlying111 rfl sizeOf3 rfl) (gT (d0 := 45) rfl rfl hb6 (pv (r_ld rfl isAgg3 (hS3.cell0 (i := 0) ⟨rfl, rfl⟩ (j := 4) rfl)) (gT (d0 := 45) rfl rfl hb6 (pv (r_ib rfl rfl rfl) (pv (r_pkt rfl hb6 rfl) (wlR (fun J => hk J _ (by rw [hb6]; rfl)) ⟨rfl, rfl, rfl, rfl, rfl, trivial⟩)))))))
    exact  gF3 (d0 := 45) rfl rfl (by rw [hb6]; rfl) (pv (r_pkf rfl hb6 rfl) (wlR (fun J => hk J _ (by rw [hb6]; rfl)) ⟨rfl, rfl, rfl, rfl, rfl, trivial⟩))
  refine cd hm ?_ ?_ <;> intro hb7 hm
  · refine sq2 (pu ?_)
    refine cB cf40 hm (ref30_in_sim (hS3.bun [2] [] rfl) (h1.mono ch) (h2.mono ch) (h3.mono ch) (h2.mono ch)) ?_
    rintro y2 _ T3 w6 im7 ⟨a6, n3, c6, rfl, hS8, _⟩ hm
    exact re hm (hS8.sel [0, 1] rfl)
  refine pn ?_
  refine sq2 (sq2 (cd hm ?_ ?_)) <;> intro hb8 hm
  · refine sq2 (pn ?_)
    have hS9 := hS3.nilO (rInt .i64) 3
    exact re hm (hS9.sel [3, 0] rfl)
  refine pn ?_
  refine sq2 (sq2 (pu ?_))
  refine fkN (d := 64) (c := ((decide (5 ≤ u1.Op)) && (decide (u1.Op ≤ 10)))) 4 [(1, iv p1), (2, pt b1 0), (6, iv (IntKind.wrap .i64 (p1 + (IntKind.wrap .i64 (Int.tdiv u1.Imm 4)))))] rfl (fun hk => ?_) fun J => ?_
  · rcases Bool.eq_false_or_eq_true (decide (5 ≤ u1.Op)) with hb9 | hb9
    · exact  gT (d0 := 60) rfl rfl hb9 (pv (r_fa rfl underlying111 rfl sizeOf3 rfl) (gT (d0 := 60) rfl rfl hb9 (pv (r_ld rfl isAgg3 (hS3.cell0 (i := 0) ⟨rfl, rfl⟩ (j := 0) rfl)) (gT (d0 := 60) rfl rfl hb9 (pv (r_ib rfl rfl rfl) (pv (r_pkt rfl hb9 rfl) (wlR (fun J => hk J _ (by rw [hb9]; rfl)) ⟨rfl, rfl, rfl, rfl, trivial⟩)))))))
    exact  gF3 (d0 := 60) rfl rfl (by rw [hb9]; rfl) (pv (r_pkf rfl hb9 rfl) (wlR (fun J => hk J _ (by rw [hb9]; rfl)) ⟨rfl, rfl, rfl, rfl, trivial⟩))
  refine cd hm ?_ ?_ <;> intro hb10 hm
  · refine sq2 (bS (r := (rInt .i64)) (l := ([IntKind.wrap .i64 (p1 + (IntKind.wrap .i64 (Int.tdiv u1.Imm 4))), IntKind.wrap .i64 (p1 + 1)] : List Int)) (css := [[iv (IntKind.wrap .i64 (p1 + (IntKind.wrap .i64 (Int.tdiv u1.Imm 4))))], [iv (IntKind.wrap .i64 (p1 + 1))]]) hS3 ⟨rfl, rfl, trivial⟩ ?_)
    intro w7 a7 n4 c7 im8 hS10
    obtain ⟨T4, im9, hS11, h5, rfl⟩ := hS10.sl 0
    refine cB cf40 hm (ref30_in_sim (hS11.bun [3] [] rfl) (h1.mono ch) (h2.mono ch) (h3.mono ch) h5) ?_
    rintro y3 _ T5 w8 im10 ⟨a8, n5, c8, rfl, hS12, _⟩ hm
    exact re hm (hS12.sel [0, 1] rfl)
  refine pn ?_
  refine sq2 (bS (r := (rInt .i64)) (l := ([IntKind.wrap .i64 (p1 + 1)] : List Int)) (css := [[iv (IntKind.wrap .i64 (p1 + 1))]]) hS3 ⟨rfl, trivial⟩ ?_)
  intro w9 a9 n6 c9 im11 hS13
  obtain ⟨T6, im12, hS14, h6, rfl⟩ := hS13.sl 0
  refine cB cf40 hm (ref30_in_sim (hS14.bun [3] [] rfl) (h1.mono ch) (h2.mono ch) (h3.mono ch) h6) ?_
  rintro y4 _ T7 w10 im13 ⟨a10, n7, c10, rfl, hS15, _⟩ hm
  exact re hm (hS15.sel [0, 1] rfl)

theorem ref30_reach_sim {p0 : ref30Code} {a1 c1 a2 c2 a3 c3} (hS : Sep g T0 w0 [starL R]) (h1 : SlR rGInst T0 w0 (sv a1 p0.L c1) p0.L) (h2 : SlR (rInt .i64) T0 w0 (sv a2 p0.Backs c2) p0.Backs) (h3 : SlR (rInt .i64) T0 w0 (sv a3 p0.Marks c3) p0.Marks) : ∀ r, ref30_reach p0 = some r →
    Calls Tryz.prog 22 #[.agg #[sv a1 p0.L c1, sv a2 p0.Backs c2, sv a3 p0.Marks c3]] w0 (RetS T0 w0 fun T w v => ∃ a15 n12 c15, v = .slice a15 n12 c15 ∧ Sep g T w (R ++ [ownA rBool 4 (.slice a15 n12 c15) r]) ∧ True) := by
  intro r hm
  refine enter Tryz.func22 rfl Tryz.ntmps22 rfl fun J => ?_
  unfold ref30_reach at hm
  refine sq2 (bX [sv a1 p0.L c1, sv a2 p0.Backs c2, sv a3 p0.Marks c3] hS ?_)
  intro w1 b1 im1 hS1
  refine pn ?_
  refine sq2 ?_
  obtain ⟨u1, hx1, hm⟩ := bindS hm
  refine pu ?_
  refine wl rfl (msS (r := rBool) hS1 rfl rfl underlying71 el4 zeroValue4 rfl hx1 fun w2 a4 n1 c4 im2 hS2 => ?_)
  refine pn ?_
  refine sq2 (pn ?_)
  refine sq2 (sq2 (pn ?_))
  have hS3 := hS2.nilO (rInt .i64) 3
  refine lpJ hm (fun bd1 o1 m a w3 => ∃ (T1 : _) (x1 : List Int) (a5 : _) (n2 : _) (c5 : _) (x2 : _), JR (nf 71) g T0 w2 a w3 T1 (loopM bd1 m (x1, x2) = some o1) [(1, pt b1 0), (3, .slice a4 n1 c4), (4, .slice a5 n2 c5), (5, iv x2)] [starL R, boxA b1 [sv a1 p0.L c1, sv a2 p0.Backs c2, sv a3 p0.Marks c3], ownA rBool 4 (.slice a4 n1 c4) u1, ownA (rInt .i64) 3 (.slice a5 n2 c5) x1]) (fun _ _ h => je h (hS3.sel [3, 2, 1, 0] rfl)) ?_
  rintro bd1 hbd1 o1 hq1 _ _ w3 ⟨T1, x1, a5, n2, c5, x2, J, ho1, rfl, hS4, im3⟩
  obtain ⟨m1, z1, rfl, hm, hn1⟩ := lrE ho1 hbd1
  refine sq2 (sq2 (cd hm ?_ ?_)) <;> intro hb1 hm
  · refine pn ?_
    refine sq2 (blk ?_)
    obtain ⟨u2, hx2, hm⟩ := bindS hm
    refine bS (r := (rInt .i64)) (l := ([IntKind.wrap .i64 (u2 + 1)] : List Int)) (css := [[iv (IntKind.wrap .i64 (u2 + 1))]]) hS4 ⟨rfl, trivial⟩ ?_
    intro w4 a6 n3 c6 im4 hS5
    obtain ⟨z_1, hro1, hm⟩ := bindS hm
    refine aO 4 hS5 (room_some hro1) ?_
    intro w5 a7 n4 c7 im5 hS6
    exact lg hm hn1 (hS6.sel (nrow 1 4) rfl)
  have hm := brkE hm hn1 hq1
  refine pn ?_
  refine sq2 (pu ?_)
  obtain ⟨T2, im6, hS7, h4, rfl⟩ := hS4.sl 3
  refine cB cf40 hm (ref30_in_sim (hS7.bun [0, 1, 2] [] rfl) (h1.mono ch) (h2.mono ch) (h3.mono ch) h4) ?_
  rintro y1 _ T3 w6 im7 ⟨a8, n5, c8, rfl, hS8, _⟩ hm
  refine pn ?_
  refine sq2 (sq2 (pn ?_))
  refine lpJ hm (fun bd1 o1 m a w7 => ∃ (T4 : _) (x3 : List Bool) (x4 : List Int) (a9 : _) (n6 : _) (c9 : _) (x5 : _), JR (nf 71) g T3 w6 a w7 T4 (loopM bd1 m (x3, x4, x5) = some o1) [(1, pt b1 0), (3, .slice a4 n1 c4), (4, .slice a9 n6 c9), (6, iv x5)] [starL R, boxA b1 [sv a1 p0.L c1, sv a2 p0.Backs c2, sv a3 p0.Marks c3], ownA rBool 4 (.slice a4 n1 c4) x3, ownA (rInt .i64) 3 (.slice a9 n6 c9) x4]) (fun _ _ h => je h (hS8.sel (nrow 0 4) rfl)) ?_
  rintro bd1 hbd1 o1 hq1 _ _ w7 ⟨T4, x3, x4, a9, n6, c9, x5, J, ho1, rfl, hS9, im8⟩
  obtain ⟨m1, z1, rfl, hm, hn1⟩ := lrE ho1 hbd1
  refine sq2 (sq2 (cd hm ?_ ?_)) <;> intro hb2 hm
  · refine pn ?_
    refine cutJ hm (fun kk1 a w8 => ∃ (T5 : _) (x6 : List Bool) (x7 : List Int) (a10 : _) (n7 : _) (c10 : _), JR (nf 71) g T4 w7 a w8 T5 (kk1 x6 x7 = some z1) [(1, pt b1 0), (3, .slice a4 n1 c4), (4, .slice a10 n7 c10), (6, iv x5)] [starL R, boxA b1 [sv a1 p0.L c1, sv a2 p0.Backs c2, sv a3 p0.Marks c3], ownA rBool 4 (.slice a4 n1 c4) x6, ownA (rInt .i64) 3 (.slice a10 n7 c10) x7]) (fun kk1 hm => ?_) ?_
    · refine blk (sq2 (sq2 ?_))
      obtain ⟨u3, hx4, hm⟩ := bindS hm
      obtain ⟨u4, hx5, hm⟩ := bindS hm
      refine cd hm ?_ ?_ <;> intro hb3 hm
      · exact je hm (hS9.sel (nrow 0 4) rfl)
      refine pn ?_
      refine sq2 ?_
      obtain ⟨u5, hx6, hm⟩ := bindS hm
      obtain rfl : u3 = u5 := oI (hx4.symm.trans hx6)
      obtain ⟨u6, hx7, hm⟩ := bindS hm
      obtain ⟨u7, hx8, hm⟩ := bindS hm
      obtain rfl : u6 = u7 := oI (hx7.symm.trans hx8)
      refine pu ?_
      refine wl rfl (stOc (q := 2) (j := 0) (u' := true) hS9 ⟨rfl, rfl⟩ hx8 rfl rfl rfl sizeOf4 rfl rfl rfl (fun c0 hc0 => by rw [storeL_all (r := rBool) hc0 rfl]; exact rfl) fun w9 im10 hS10 => ?_)
      refine pn ?_
      refine sq2 (rsS [1, 0, 0, 0, 1, 2, 0] [0, 1, 2, 3, 4, 5, 6] hS10 fun w10 im11 hS11 => ?_)
      obtain ⟨u8, hx9, hm⟩ := bindS hm
      obtain rfl : u3 = u8 := oI (hx6.symm.trans hx9)
      obtain ⟨y2, hx10, hm⟩ := bindS hm
      refine sS [] cf23 (ref30_Leads_sim (hS11.bun (nrow 0 4) [] rfl) (h1.mono ch) (h2.mono ch) (h3.mono ch) _ hx10) ?_
      rintro _ T6 w11 im12 ⟨a11, n8, c11, rfl, hS12, _⟩
      refine pn ?_
      refine sq2 (pn ?_)
      refine lpJ hm (fun bd2 o2 m a w12 => ∃ (T7 : _) (x8 : List Int) (a12 : _) (n9 : _) (c12 : _) (x9 : _), JR (nf 71) g T6 w11 a w12 T7 (loopM bd2 m (x8, x9) = some o2) [(1, pt b1 0), (3, .slice a4 n1 c4), (4, .slice a12 n9 c12), (6, iv x5), (7, .slice a11 n8 c11), (8, iv x9)] [starL R, boxA b1 [sv a1 p0.L c1, sv a2 p0.Backs c2, sv a3 p0.Marks c3], ownA rBool 4 (.slice a4 n1 c4) (List.set x3 (Int.toNat u3) true), ownA (rInt .i64) 3 (.slice a12 n9 c12) x8, ownA (rInt .i64) 3 (.slice a11 n8 c11) y2]) (fun _ _ h => je h (hS12.sel (nrow 0 5) rfl)) ?_
      rintro bd2 hbd2 o2 hq2 _ _ w12 ⟨T7, x8, a12, n9, c12, x9, J, ho2, rfl, hS13, im13⟩
      obtain ⟨m2, z2, rfl, hm, hn2⟩ := lrE ho2 hbd2
      refine sq2 (sq2 (cd hm ?_ ?_)) <;> intro hb4 hm
      · refine pn ?_
        refine sq2 (blk ?_)
        obtain ⟨u9, hx11, hm⟩ := bindS hm
        refine bS (r := (rInt .i64)) (l := ([u9] : List Int)) (css := [[iv u9]]) hS13 ⟨rfl, trivial⟩ ?_
        intro w13 a13 n10 c13 im14 hS14
        obtain ⟨z_2, hro2, hm⟩ := bindS hm
        refine aO 4 hS14 (room_some hro2) ?_
        intro w14 a14 n11 c14 im15 hS15
        exact lg hm hn2 (hS15.sel (nrow 1 5) rfl)
      have hm := brkE hm hn2 hq2
      exact je hm (hS13.sel (nrow 0 4) rfl)
    rintro _ w8 ⟨T5, x6, x7, a10, n7, c10, J, hm, rfl, hS16, im9⟩
    exact lg hm hn1 (hS16.sel (nrow 0 4) rfl)
  have hm := brkE hm hn1 hq1
  refine pn ?_
  exact sq2 (re hm (hS9.sel [0, 2] rfl))

theorem ref30_Region_sim {p0 : List Int} {a1 c1} (hS : Sep g T0 w0 [starL R]) (h1 : SlR (rInt .u32) T0 w0 (sv a1 p0 c1) p0) : ∀ r, ref30_Region p0 = some r →
    Calls Tryz.prog 9 #[sv a1 p0 c1] w0 (RetS T0 w0 fun T w v => v = .tuple #[iv r.1, iv r.2] ∧ Sep g T w (R ++ []) ∧ True) := by
  intro r hm
  refine enter Tryz.func9 rfl Tryz.ntmps9 rfl fun J => ?_
  unfold ref30_Region at hm
  refine sq2 (pn ?_)
  refine sq2 (pu ?_)
  refine cB cf20 hm (ref30_Read_sim (hS.bun [0] [] rfl) h1) ?_
  rintro y1 _ T1 w1 im1 ⟨a2, c2, a3, c3, a4, c4, rfl, hS1, h2, h3, h4, _⟩ hm
  refine aL zv1 hS1 ?_
  intro w2 b1 im2 hS2
  refine sT 0 hS2 ?_
  intro w3 im3 hS3
  refine pn ?_
  refine sq2 (sq2 (cd hm ?_ ?_)) <;> intro hb1 hm
  · exact sq2 (re hm (hS3.sel [1] rfl))
  refine pn ?_
  refine sq2 (sq2 (pu ?_))
  rcases bc hm with ⟨hb2, hm⟩ | ⟨hb2, hm⟩
  · refine pn ?_
    refine cnd (b := true) rfl (fun _ => ?_) (fun h => nomatch h)
    exact sq2 (re hm (hS3.sel [1] rfl))
  refine pu ?_
  refine cB cf21 hm (ref30_mark_sim (hS3.bun [0, 1] [] rfl) (h2.mono ch) (h3.mono ch) (h4.mono ch)) ?_
  rintro y2 _ T2 w4 im4 ⟨rfl, hS4, _⟩ hm
  refine cd hm ?_ ?_ <;> intro hb3 hm
  · exact sq2 (re hm (hS4.sel [1] rfl))
  refine pn ?_
  refine sq2 (pu ?_)
  refine cB cf22 hm (ref30_reach_sim (hS4.bun [0, 1] [] rfl) (h2.mono ch) (h3.mono ch) (h4.mono ch)) ?_
  rintro y3 _ T3 w5 im5 ⟨a5, n1, c5, rfl, hS5, _⟩ hm
  refine pn ?_
  refine sq2 ?_
  obtain ⟨u1, hx4, hm⟩ := bindS hm
  refine pu ?_
  refine wl rfl (msS (r := (rInt .i64)) hS5 rfl rfl underlying57 el3 zeroValue3 rfl hx4 fun w6 a6 n2 c6 im6 hS6 => ?_)
  refine pu ?_
  refine nil (t_thenR [(4, pt b1 0), (6, .slice a5 n1 c5), (7, .slice a6 n2 c6)] ⟨rfl, rfl, rfl, trivial⟩ fun J => ?_)
  refine sq2 (pn ?_)
  refine sq2 (sq2 (pn ?_))
  refine lpJ hm (fun bd1 o1 m a w7 => ∃ (T4 : _) (x1 : List Int) (x2 : _) (x3 : _), JR (nf 121) g T3 w6 a w7 T4 (loopM bd1 m (x1, x2, x3) = some o1) [(4, pt b1 0), (6, .slice a5 n1 c5), (7, .slice a6 n2 c6), (8, .bool x2), (9, iv x3)] [starL R, boxA b1 [sv a2 y1.1.L c2, sv a3 y1.1.Backs c3, sv a4 y1.1.Marks c4], ownA rBool 4 (.slice a5 n1 c5) y3, ownA (rInt .i64) 3 (.slice a6 n2 c6) x1]) (fun _ _ h => je h (hS6.sel [2, 1, 3, 0] rfl)) ?_
  rintro bd1 hbd1 o1 hq1 _ _ w7 ⟨T4, x1, x2, x3, J, ho1, rfl, hS7, im7⟩
  obtain ⟨m1, z1, rfl, hm, hn1⟩ := lrE ho1 hbd1
  refine sq2 (sq2 (cd hm ?_ ?_)) <;> intro hb4 hm
  · refine pn ?_
    refine sq2 (blk (sq2 (sq2 (cd hm ?_ ?_)))) <;> intro hb5 hm
    · refine sq2 (pn ?_)
      have hm := retE hm hn1 hq1
      exact re hm (hS7.sel [0] rfl)
    refine pn ?_
    refine sq2 (pn ?_)
    refine sq2 (pn ?_)
    refine lpJ hm (fun bd2 o2 m a w8 => ∃ (T5 : _) (x4 : List Int) (x5 : _) (x6 : _), JR (nf 121) g T4 w7 a w8 T5 (loopM bd2 m (x4, x5, x6) = some o2) [(4, pt b1 0), (6, .slice a5 n1 c5), (7, .slice a6 n2 c6), (8, .bool x5), (9, iv x3), (10, iv x6)] [starL R, boxA b1 [sv a2 y1.1.L c2, sv a3 y1.1.Backs c3, sv a4 y1.1.Marks c4], ownA rBool 4 (.slice a5 n1 c5) y3, ownA (rInt .i64) 3 (.slice a6 n2 c6) x4]) (fun _ _ h => je h (hS7.sel (nrow 0 4) rfl)) ?_
    rintro bd2 hbd2 o2 hq2 _ _ w8 ⟨T5, x4, x5, x6, J, ho2, rfl, hS8, im8⟩
    obtain ⟨m2, z2, rfl, hm, hn2⟩ := lrE ho2 hbd2
    refine sq2 (sq2 (cd hm ?_ ?_)) <;> intro hb6 hm
    · refine pn ?_
      refine cutJ hm (fun kk1 a w9 => ∃ (T6 : _) (x7 : List Int) (x8 : _), JR (nf 121) g T5 w8 a w9 T6 (kk1 x7 x8 = some z2) [(4, pt b1 0), (6, .slice a5 n1 c5), (7, .slice a6 n2 c6), (8, .bool x8), (9, iv x3), (10, iv x6)] [starL R, boxA b1 [sv a2 y1.1.L c2, sv a3 y1.1.Backs c3, sv a4 y1.1.Marks c4], ownA rBool 4 (.slice a5 n1 c5) y3, ownA (rInt .i64) 3 (.slice a6 n2 c6) x7]) (fun kk1 hm => ?_) ?_
      · refine blk (sq2 (sq2 ?_))
        obtain ⟨u2, hx5, hm⟩ := bindS hm
        refine cd hm ?_ ?_ <;> intro hb7 hm
        · exact je hm (hS8.sel (nrow 0 4) rfl)
        refine pn ?_
        refine sq2 (pn ?_)
        refine sq2 (pu ?_)
        refine cB cf23 hm (ref30_Leads_sim (hS8.bun (nrow 0 4) [] rfl) (h2.mono ch) (h3.mono ch) (h4.mono ch)) ?_
        rintro y4 _ T7 w10 im10 ⟨a7, n3, c7, rfl, hS9, _⟩ hm
        refine pn ?_
        refine sq2 (sq2 (pn ?_))
        refine lpJ hm (fun bd3 o3 m a w11 => ∃ T8 x9 x10, JR (nf 121) g T7 w10 a w11 T8 (loopM bd3 m (x9, x10) = some o3) [(4, pt b1 0), (6, .slice a5 n1 c5), (7, .slice a6 n2 c6), (8, .bool x5), (9, iv x3), (10, iv x6), (11, iv x9), (12, .slice a7 n3 c7), (13, iv x10)] [starL R, boxA b1 [sv a2 y1.1.L c2, sv a3 y1.1.Backs c3, sv a4 y1.1.Marks c4], ownA rBool 4 (.slice a5 n1 c5) y3, ownA (rInt .i64) 3 (.slice a6 n2 c6) x4, ownA (rInt .i64) 3 (.slice a7 n3 c7) y4]) (fun _ _ h => je h (hS9.sel (nrow 0 5) rfl)) ?_
        rintro bd3 hbd3 o3 hq3 _ _ w11 ⟨T8, x9, x10, J, ho3, rfl, hS10, im11⟩
        obtain ⟨m3, z3, rfl, hm, hn3⟩ := lrE ho3 hbd3
        refine sq2 (sq2 (cd hm ?_ ?_)) <;> intro hb8 hm
        · refine pn ?_
          refine sq2 (blk ?_)
          obtain ⟨u3, hx7, hm⟩ := bindS hm
          obtain ⟨u4, hx8, hm⟩ := bindS hm
          refine pu ?_
          exact pv (r_imx rfl rfl) (lg hm hn3 (hS10.sel (nrow 0 5) rfl))
        have hm := brkE hm hn3 hq3
        refine pn ?_
        refine sq2 ?_
        obtain ⟨u5, hx9, hm⟩ := bindS hm
        refine cd hm ?_ ?_ <;> intro hb9 hm
        · refine sq2 ?_
          obtain ⟨u6, hx10, hm⟩ := bindS hm
          obtain rfl : u5 = u6 := oI (hx9.symm.trans hx10)
          obtain ⟨u7, hx11, hm⟩ := bindS hm
          obtain rfl : u5 = u7 := oI (hx10.symm.trans hx11)
          refine pu ?_
          refine wl rfl (stOc (q := 3) (j := 0) (u' := x9) hS10 ⟨rfl, rfl⟩ hx11 rfl rfl rfl sizeOf3 rfl rfl rfl (fun c0 hc0 => by rw [storeL_all (r := (rInt .i64)) hc0 rfl]; exact rfl) fun w12 im12 hS11 => ?_)
          exact je hm (hS11.sel (nrow 0 4) rfl)
        exact je hm (hS10.sel (nrow 0 4) rfl)
      rintro _ w9 ⟨T6, x7, x8, J, hm, rfl, hS12, im9⟩
      exact lg hm hn2 (hS12.sel (nrow 0 4) rfl)
    have hm := brkE hm hn2 hq2
    exact lg hm hn1 (hS8.sel (nrow 0 4) rfl)
  have hm := brkE hm hn1 hq1
  refine pn ?_
  refine sq2 (pn ?_)
  refine sq2 (sq2 (pn ?_))
  refine lpJ hm (fun bd1 o1 m a w13 => ∃ T9 x11 x12, JR (nf 121) g T4 w7 a w13 T9 (loopM bd1 m (x11, x12) = some o1) [(4, pt b1 0), (7, .slice a6 n2 c6), (14, iv x11), (15, iv x12)] [starL R, boxA b1 [sv a2 y1.1.L c2, sv a3 y1.1.Backs c3, sv a4 y1.1.Marks c4], ownA (rInt .i64) 3 (.slice a6 n2 c6) x1]) (fun _ _ h => je h (hS7.sel [0, 1, 3] rfl)) ?_
  rintro bd1 hbd1 o1 hq1 _ _ w13 ⟨T9, x11, x12, J, ho1, rfl, hS13, im13⟩
  obtain ⟨m1, z1, rfl, hm, hn1⟩ := lrE ho1 hbd1
  refine sq2 (sq2 (cd hm ?_ ?_)) <;> intro hb10 hm
  · refine pn ?_
    refine cutJ hm (fun kk2 a w14 => ∃ T10 x13, JR (nf 121) g T9 w13 a w14 T10 (kk2 x13 = some z1) [(4, pt b1 0), (7, .slice a6 n2 c6), (14, iv x13), (15, iv x12)] [starL R, boxA b1 [sv a2 y1.1.L c2, sv a3 y1.1.Backs c3, sv a4 y1.1.Marks c4], ownA (rInt .i64) 3 (.slice a6 n2 c6) x1]) (fun kk2 hm => ?_) ?_
    · refine blk (sq2 ?_)
      obtain ⟨u8, hx12, hm⟩ := bindS hm
      refine cd hm ?_ ?_ <;> intro hb11 hm
      · obtain ⟨u9, hx13, hm⟩ := bindS hm
        obtain rfl : u8 = u9 := oI (hx12.symm.trans hx13)
        obtain ⟨u10, hx14, hm⟩ := bindS hm
        refine pu ?_
        exact pv (r_imx rfl rfl) (je hm (hS13.sel [0, 1, 2] rfl))
      exact je hm (hS13.sel [0, 1, 2] rfl)
    rintro _ w14 ⟨T10, x13, J, hm, rfl, hS14, im14⟩
    exact lg hm hn1 (hS14.sel [0, 1, 2] rfl)
  have hm := brkE hm hn1 hq1
  refine pn ?_
  refine sq2 (pu ?_)
  refine cB cf21 hm (ref30_mark_sim (hS13.bun [0] [] rfl) (h2.mono ch) (h3.mono ch) (h4.mono ch)) ?_
  rintro y5 _ T11 w15 im15 ⟨rfl, hS15, _⟩ hm
  exact re hm (hS15.sel [0] rfl)

theorem bound_Boot_sim {p0 : GImage} {a1 c1 a2 c2} (hS : Sep g T0 w0 [starL R]) (h1 : SlR (rInt .u32) T0 w0 (sv a1 p0.Code c1) p0.Code) (h2 : SlR (rInt .u8) T0 w0 (sv a2 p0.Data c2) p0.Data) : ∀ r, bound_Boot p0 = some r →
    Calls Tryz.prog 11 #[.agg #[sv a1 p0.Code c1, sv a2 p0.Data c2, iv p0.Limit, iv p0.Notes]] w0 (RetS T0 w0 fun T w v => v = iv r ∧ Sep g T w (R ++ []) ∧ True) := by
  intro r hm
  refine enter Tryz.func11 rfl Tryz.ntmps11 rfl fun J => ?_
  unfold bound_Boot at hm
  refine sq2 (bX [sv a1 p0.Code c1, sv a2 p0.Data c2, iv p0.Limit, iv p0.Notes] hS ?_)
  intro w1 b1 im1 hS1
  refine pn ?_
  refine sq2 (pu ?_)
  exact pv (r_imx rfl rfl) (pv (r_imn rfl rfl) (re hm (hS1.sel [1] rfl)))

theorem bound_Bound_sim {p0 : GImage} {a1 c1 a2 c2} (hS : Sep g T0 w0 [starL R]) (h1 : SlR (rInt .u32) T0 w0 (sv a1 p0.Code c1) p0.Code) (h2 : SlR (rInt .u8) T0 w0 (sv a2 p0.Data c2) p0.Data) : ∀ r, bound_Bound p0 = some r →
    Calls Tryz.prog 7 #[.agg #[sv a1 p0.Code c1, sv a2 p0.Data c2, iv p0.Limit, iv p0.Notes]] w0 (RetS T0 w0 fun T w v => v = .tuple #[iv r.1, iv r.2] ∧ Sep g T w (R ++ []) ∧ True) := by
  intro r hm
  refine enter Tryz.func7 rfl Tryz.ntmps7 rfl fun J => ?_
  unfold bound_Bound at hm
  refine sq2 (bX [sv a1 p0.Code c1, sv a2 p0.Data c2, iv p0.Limit, iv p0.Notes] hS ?_)
  intro w1 b1 im1 hS1
  refine pn ?_
  refine sq2 (pu ?_)
  refine cB cf8 hm (bound_Region_sim (hS1.bun [0, 1] [] rfl) (h1.mono im1) (h2.mono im1)) ?_
  rintro y1 _ T1 w2 im2 ⟨rfl, hS2, _⟩ hm
  refine pn ?_
  refine sq2 (sq2 (cd hm ?_ ?_)) <;> intro hb1 hm
  · exact sq2 (re hm (hS2.sel [1] rfl))
  refine pn ?_
  refine sq2 (pu ?_)
  refine cB cf11 hm (bound_Boot_sim (hS2.bun [1] [] rfl) (h1.mono ch) (h2.mono ch)) ?_
  rintro y2 _ T2 w3 im3 ⟨rfl, hS3, _⟩ hm
  exact re hm (hS3.sel [0] rfl)

theorem ref30_Boot_sim {p0} (hS : Sep g T0 w0 [starL R])  : ∀ r, ref30_Boot p0 = some r →
    Calls Tryz.prog 10 #[iv p0] w0 (RetS T0 w0 fun T w v => v = iv r ∧ Sep g T w (R ++ []) ∧ True) := by
  intro r hm
  refine enter Tryz.func10 rfl Tryz.ntmps10 rfl fun J => ?_
  unfold ref30_Boot at hm
  refine sq2 (pn ?_)
  refine sq2 (sq2 (cd hm ?_ ?_)) <;> intro hb1 hm
  · exact sq2 (re hm (hS.sel [0] rfl))
  refine pn ?_
  refine sq2 (sq2 (cd hm ?_ ?_)) <;> intro hb2 hm
  · exact sq2 (re hm (hS.sel [0] rfl))
  refine pn ?_
  exact sq2 (re hm (hS.sel [0] rfl))

theorem law30_same_sim {p0 : GImage} {a1 c1 a2 c2} (hS : Sep g T0 w0 [starL R]) (h1 : SlR (rInt .u32) T0 w0 (sv a1 p0.Code c1) p0.Code) (h2 : SlR (rInt .u8) T0 w0 (sv a2 p0.Data c2) p0.Data) : ∀ r, law30_same p0 = some r →
    Calls Tryz.prog 5 #[.agg #[sv a1 p0.Code c1, sv a2 p0.Data c2, iv p0.Limit, iv p0.Notes]] w0 (RetS T0 w0 fun T w v => v = .bool r ∧ Sep g T w (R ++ []) ∧ True) := by
  intro r hm
  refine enter Tryz.func5 rfl Tryz.ntmps5 rfl fun J => ?_
  unfold law30_same at hm
  refine sq2 (bX [sv a1 p0.Code c1, sv a2 p0.Data c2, iv p0.Limit, iv p0.Notes] hS ?_)
  intro w1 b1 im1 hS1
  refine pn ?_
  refine sq2 (pu ?_)
  refine cB cf8 hm (bound_Region_sim (hS1.bun [0, 1] [] rfl) (h1.mono im1) (h2.mono im1)) ?_
  rintro y1 _ T1 w2 im2 ⟨rfl, hS2, _⟩ hm
  refine pn ?_
  refine sq2 (pu ?_)
  refine cB cf9 hm (ref30_Region_sim (hS2.bun [0, 1] [] rfl) (h1.mono ch)) ?_
  rintro y2 _ T2 w3 im3 ⟨rfl, hS3, _⟩ hm
  refine pn ?_
  refine sq2 (pu ?_)
  refine cB cf7 hm (bound_Bound_sim (hS3.bun [0, 1] [] rfl) (h1.mono ch) (h2.mono ch)) ?_
  rintro y3 _ T3 w4 im4 ⟨rfl, hS4, _⟩ hm
  refine pn ?_
  refine sq2 (pn ?_)
  refine cutJ hm (fun kk1 a w5 => ∃ T4 x1, JR (nf 59) g T3 w4 a w5 T4 (kk1 x1 = some r) [(1, pt b1 0), (3, iv y1.1), (4, iv y1.2), (5, iv y2.1), (6, iv y2.2), (7, iv y3.1), (8, iv y3.2), (9, iv x1)] [starL R, boxA b1 [sv a1 p0.Code c1, sv a2 p0.Data c2, iv p0.Limit, iv p0.Notes]]) (fun kk1 hm => ?_) ?_
  · refine sq2 (cd hm ?_ ?_) <;> intro hb1 hm
    · refine pu ?_
      refine cB cf10 hm (ref30_Boot_sim (hS4.bun [0, 1] [] rfl)) ?_
      rintro y4 _ T5 w6 im6 ⟨rfl, hS5, _⟩ hm
      exact je hm (hS5.sel [1, 0] rfl)
    exact je hm (hS4.sel [1, 0] rfl)
  rintro _ w5 ⟨T4, x1, J, hm, rfl, hS6, im5⟩
  refine sq2 (rsS [0, 0, 0, 0, 0, 0, 0, 0, 0, 0, 0, 0, 0, 0, 0, 0, 0, 0, 0, 1, 2, 0, 1, 2, 0, 0, 0] [0, 1, 2, 3, 4, 5, 6, 7, 8, 9, 10, 11, 12, 13, 14, 15, 16, 17, 18, 19, 21, 22, 20, 23, 24, 25, 26] hS6 fun w7 im7 hS7 => ?_)
  refine pu ?_
  rcases bc hm with ⟨hb2, hm⟩ | ⟨hb2, hm⟩
  · refine pu ?_
    rcases bc hm with ⟨hb3, hm⟩ | ⟨hb3, hm⟩
    · refine pu ?_
      rcases bc hm with ⟨hb4, hm⟩ | ⟨hb4, hm⟩
      · refine pu ?_
        rcases bc hm with ⟨hb5, hm⟩ | ⟨hb5, hm⟩
        · obtain ⟨y5, hx5, hm⟩ := bindS hm
          refine sS [(22, iv p0.Notes)] cf11 (bound_Boot_sim (hS7.bun [0, 1] [] rfl) (h1.mono ch) (h2.mono ch) _ hx5) ?_
          rintro _ T6 w8 im8 ⟨rfl, hS8, _⟩
          refine pu ?_
          obtain ⟨y6, hx6, hm⟩ := bindS hm
          refine sS [] cf10 (ref30_Boot_sim (hS8.bun [0, 1] [] rfl) _ hx6) ?_
          rintro _ T7 w9 im9 ⟨rfl, hS9, _⟩
          refine pu ?_
          refine se (t_thenR [(2, .bool (y5 == y6))] ⟨rfl, trivial⟩ fun J => ?_)
          exact re hm (hS9.sel [0] rfl)
        refine pu ?_
        refine se (t_thenR [(2, .bool false)] ⟨rfl, trivial⟩ fun J => ?_)
        exact re hm (hS7.sel [0] rfl)
      refine pu ?_
      refine se (t_thenR [(2, .bool false)] ⟨rfl, trivial⟩ fun J => ?_)
      exact re hm (hS7.sel [0] rfl)
    refine pu ?_
    refine se (t_thenR [(2, .bool false)] ⟨rfl, trivial⟩ fun J => ?_)
    exact re hm (hS7.sel [0] rfl)
  refine pu ?_
  refine se (t_thenR [(2, .bool false)] ⟨rfl, trivial⟩ fun J => ?_)
  exact re hm (hS7.sel [0] rfl)
end Go.Proofs.YtlnamhpmhcgcpaaGreatDoor
