/- That Go functions compute their models. Printed by gen2.py. -/
import Derived.Test.YtbolaohekbmndaaGreatDoorRows
import Derived.Test.YtbolaohekbmndaaGreatDoorFoc
import Derived.Test.YtbolaohekbmndaaGreatDoorTree
import Derived.Test.YtbolaohekbmndaaGreatDoorArr
import Derived.Test.YtbolaohekbmndaaGreatDoorRcs
import Derived.Test.YtbolaohekbmndaaGreatDoorH
import Derived.Test.YtbolaohekbmndaaGreatDoorPan
import Derived.Test.YtbolaohekbmndaaGreatDoorM
set_option linter.unusedVariables false
namespace Go.Proofs.YtbolaohekbmndaaGreatDoor
open _root_.Go.Proofs.Tryz
set_option maxRecDepth 100000
set_option maxHeartbeats 8000000
attribute [local irreducible] wpList wpQuiet Code.wp
variable {g : World} {T0 : Nat → Prop} {w0 : World} {R : Assn}
def rPos : Rp Pos := ((rPair (rInt .i64) (rInt .i64))).iso fun x => (x.Line, x.Col)
theorem rPos_open {T : Nat → Prop} {w : World} {cs : List Value} {x : Pos} (h : rPos.rp T w cs x) : cs = [.int .i64 x.Line, .int .i64 x.Col] := by
  obtain ⟨q1, y1, rfl, f1, g1⟩ := h
  cases f1
  cases g1
  exact rfl
theorem rPos_mk {T : Nat → Prop} {w : World} {x : Pos}   : rPos.rp T w [.int .i64 x.Line, .int .i64 x.Col] x := ⟨_, _, rfl, rfl, rfl⟩
def rTypeName : Rp TypeName := ((rPair rStr (rPair rStr (rInt .i64)))).iso fun x => (x.Word, x.Name, x.Stars)
theorem rTypeName_open {T : Nat → Prop} {w : World} {cs : List Value} {x : TypeName} (h : rTypeName.rp T w cs x) : cs = [.string ⟨x.Word.toArray⟩, .string ⟨x.Name.toArray⟩, .int .i64 x.Stars] := by
  obtain ⟨q1, y1, rfl, f1, g1⟩ := h
  cases f1
  obtain ⟨q2, y2, rfl, f2, g2⟩ := g1
  cases f2
  cases g2
  exact rfl
theorem rTypeName_mk {T : Nat → Prop} {w : World} {x : TypeName}   : rTypeName.rp T w [.string ⟨x.Word.toArray⟩, .string ⟨x.Name.toArray⟩, .int .i64 x.Stars] x := ⟨_, _, rfl, rfl, ⟨_, _, rfl, rfl, rfl⟩⟩
def FGExpr (r : Rp GExpr) : Rp GExpr := ((rPair (rInt .i64) (rPair rPos (rPair rStr (rPair rStr (rPair (rInt .u32) (rPair rTypeName (rSl r)))))))).iso fun x => (x.Kind, x.Pos, x.Op, x.Name, x.Num, x.Type_, x.Kids)
def rGExpr : Rp GExpr := rFix FGExpr 10 true (fun _ => rfl)
theorem gGExpr : Grow FGExpr := gIso _ (gPair (gK (rInt .i64)) (gPair (gK rPos) (gPair (gK rStr) (gPair (gK rStr) (gPair (gK (rInt .u32)) (gPair (gK rTypeName) (gSl gId)))))))
theorem rGExpr_open {T : Nat → Prop} {w : World} {cs : List Value} {x : GExpr} (h : rGExpr.rp T w cs x) : ∃ (a9 : Option Addr) (c9 : Nat), cs = [.int .i64 x.Kind, .int .i64 x.Pos.Line, .int .i64 x.Pos.Col, .string ⟨x.Op.toArray⟩, .string ⟨x.Name.toArray⟩, .int .u32 x.Num, .string ⟨x.Type_.Word.toArray⟩, .string ⟨x.Type_.Name.toArray⟩, .int .i64 x.Type_.Stars, .slice a9 (List.length x.Kids) c9] ∧ SlR rGExpr T w (.slice a9 (List.length x.Kids) c9) x.Kids := by
  have h := fix_open gGExpr h
  obtain ⟨q1, y1, rfl, f1, g1⟩ := h
  cases f1
  obtain ⟨q2, y2, rfl, f2, g2⟩ := g1
  cases rPos_open f2
  obtain ⟨q3, y3, rfl, f3, g3⟩ := g2
  cases f3
  obtain ⟨q4, y4, rfl, f4, g4⟩ := g3
  cases f4
  obtain ⟨q5, y5, rfl, f5, g5⟩ := g4
  cases f5
  obtain ⟨q6, y6, rfl, f6, g6⟩ := g5
  cases rTypeName_open f6
  obtain ⟨v7, rfl, s7⟩ := g6
  obtain ⟨b7, k7, rfl⟩ := s7.shape
  exact ⟨b7, k7, rfl, s7⟩
theorem rGExpr_mk {T : Nat → Prop} {w : World} {x : GExpr} {a9 : Option Addr} {c9 : Nat} (e0 : SlR rGExpr T w (.slice a9 (List.length x.Kids) c9) x.Kids) : rGExpr.rp T w [.int .i64 x.Kind, .int .i64 x.Pos.Line, .int .i64 x.Pos.Col, .string ⟨x.Op.toArray⟩, .string ⟨x.Name.toArray⟩, .int .u32 x.Num, .string ⟨x.Type_.Word.toArray⟩, .string ⟨x.Type_.Name.toArray⟩, .int .i64 x.Type_.Stars, .slice a9 (List.length x.Kids) c9] x := fix_mk gGExpr ⟨_, _, rfl, rfl, ⟨_, _, rfl, rPos_mk, ⟨_, _, rfl, rfl, ⟨_, _, rfl, rfl, ⟨_, _, rfl, rfl, ⟨_, _, rfl, rTypeName_mk, ⟨_, rfl, e0⟩⟩⟩⟩⟩⟩⟩
def rGVar : Rp GVar := ((rPair rPos (rPair rTypeName (rPair rStr (rPair (rSl (rInt .u32)) (rPair (rSl rGExpr) rBool)))))).iso fun x => (x.Pos, x.Type_, x.Name, x.Dims, x.Init, x.Brace)
theorem rGVar_open {T : Nat → Prop} {w : World} {cs : List Value} {x : GVar} (h : rGVar.rp T w cs x) : ∃ (a6 : Option Addr) (c6 : Nat) (a7 : Option Addr) (c7 : Nat), cs = [.int .i64 x.Pos.Line, .int .i64 x.Pos.Col, .string ⟨x.Type_.Word.toArray⟩, .string ⟨x.Type_.Name.toArray⟩, .int .i64 x.Type_.Stars, .string ⟨x.Name.toArray⟩, .slice a6 (List.length x.Dims) c6, .slice a7 (List.length x.Init) c7, .bool x.Brace] ∧ SlR (rInt .u32) T w (.slice a6 (List.length x.Dims) c6) x.Dims ∧ SlR rGExpr T w (.slice a7 (List.length x.Init) c7) x.Init := by
  obtain ⟨q1, y1, rfl, f1, g1⟩ := h
  cases rPos_open f1
  obtain ⟨q2, y2, rfl, f2, g2⟩ := g1
  cases rTypeName_open f2
  obtain ⟨q3, y3, rfl, f3, g3⟩ := g2
  cases f3
  obtain ⟨q4, y4, rfl, f4, g4⟩ := g3
  obtain ⟨v5, rfl, s5⟩ := f4
  obtain ⟨b5, k5, rfl⟩ := s5.shape
  obtain ⟨q6, y6, rfl, f6, g6⟩ := g4
  obtain ⟨v7, rfl, s7⟩ := f6
  obtain ⟨b7, k7, rfl⟩ := s7.shape
  cases g6
  exact ⟨b5, k5, b7, k7, rfl, s5, s7⟩
theorem rGVar_mk {T : Nat → Prop} {w : World} {x : GVar} {a6 : Option Addr} {c6 : Nat} {a7 : Option Addr} {c7 : Nat} (e0 : SlR (rInt .u32) T w (.slice a6 (List.length x.Dims) c6) x.Dims) (e1 : SlR rGExpr T w (.slice a7 (List.length x.Init) c7) x.Init) : rGVar.rp T w [.int .i64 x.Pos.Line, .int .i64 x.Pos.Col, .string ⟨x.Type_.Word.toArray⟩, .string ⟨x.Type_.Name.toArray⟩, .int .i64 x.Type_.Stars, .string ⟨x.Name.toArray⟩, .slice a6 (List.length x.Dims) c6, .slice a7 (List.length x.Init) c7, .bool x.Brace] x := ⟨_, _, rfl, rPos_mk, ⟨_, _, rfl, rTypeName_mk, ⟨_, _, rfl, rfl, ⟨_, _, rfl, ⟨_, rfl, e0⟩, ⟨_, _, rfl, ⟨_, rfl, e1⟩, rfl⟩⟩⟩⟩⟩
def rGStruct : Rp GStruct := ((rPair rPos (rPair rStr (rSl rGVar)))).iso fun x => (x.Pos, x.Name, x.Fields)
theorem rGStruct_open {T : Nat → Prop} {w : World} {cs : List Value} {x : GStruct} (h : rGStruct.rp T w cs x) : ∃ (a3 : Option Addr) (c3 : Nat), cs = [.int .i64 x.Pos.Line, .int .i64 x.Pos.Col, .string ⟨x.Name.toArray⟩, .slice a3 (List.length x.Fields) c3] ∧ SlR rGVar T w (.slice a3 (List.length x.Fields) c3) x.Fields := by
  obtain ⟨q1, y1, rfl, f1, g1⟩ := h
  cases rPos_open f1
  obtain ⟨q2, y2, rfl, f2, g2⟩ := g1
  cases f2
  obtain ⟨v3, rfl, s3⟩ := g2
  obtain ⟨b3, k3, rfl⟩ := s3.shape
  exact ⟨b3, k3, rfl, s3⟩
theorem rGStruct_mk {T : Nat → Prop} {w : World} {x : GStruct} {a3 : Option Addr} {c3 : Nat} (e0 : SlR rGVar T w (.slice a3 (List.length x.Fields) c3) x.Fields) : rGStruct.rp T w [.int .i64 x.Pos.Line, .int .i64 x.Pos.Col, .string ⟨x.Name.toArray⟩, .slice a3 (List.length x.Fields) c3] x := ⟨_, _, rfl, rPos_mk, ⟨_, _, rfl, rfl, ⟨_, rfl, e0⟩⟩⟩
def FGCase (r : Rp Stmt) : Rp GCase := ((rPair rPos (rPair rBool (rPair (rInt .u32) (rSl r))))).iso fun x => (x.Pos, x.Default, x.Num, x.Body)
theorem gFGCase : Grow FGCase := gIso _ (gPair (gK rPos) (gPair (gK rBool) (gPair (gK (rInt .u32)) (gSl gId))))
def FStmt (r : Rp Stmt) : Rp Stmt := ((rPair (rInt .i64) (rPair rPos (rPair (rSl rGExpr) (rPair (rSl rGExpr) (rPair (rSl rGExpr) (rPair (rSl rGVar) (rPair (rSl r) (rPair (rSl r) (rSl (FGCase r))))))))))).iso fun x => (x.Kind, x.Pos, x.A, x.B, x.C, x.Var, x.Body, x.Else, x.Cases)
def rStmt : Rp Stmt := rFix FStmt 10 true (fun _ => rfl)
theorem gStmt : Grow FStmt := gIso _ (gPair (gK (rInt .i64)) (gPair (gK rPos) (gPair (gK (rSl rGExpr)) (gPair (gK (rSl rGExpr)) (gPair (gK (rSl rGExpr)) (gPair (gK (rSl rGVar)) (gPair (gSl gId) (gPair (gSl gId) (gSl gFGCase)))))))))
def rGCase : Rp GCase := FGCase rStmt
theorem rStmt_open {T : Nat → Prop} {w : World} {cs : List Value} {x : Stmt} (h : rStmt.rp T w cs x) : ∃ (a3 : Option Addr) (c3 : Nat) (a4 : Option Addr) (c4 : Nat) (a5 : Option Addr) (c5 : Nat) (a6 : Option Addr) (c6 : Nat) (a7 : Option Addr) (c7 : Nat) (a8 : Option Addr) (c8 : Nat) (a9 : Option Addr) (c9 : Nat), cs = [.int .i64 x.Kind, .int .i64 x.Pos.Line, .int .i64 x.Pos.Col, .slice a3 (List.length x.A) c3, .slice a4 (List.length x.B) c4, .slice a5 (List.length x.C) c5, .slice a6 (List.length x.Var) c6, .slice a7 (List.length x.Body) c7, .slice a8 (List.length x.Else) c8, .slice a9 (List.length x.Cases) c9] ∧ SlR rGExpr T w (.slice a3 (List.length x.A) c3) x.A ∧ SlR rGExpr T w (.slice a4 (List.length x.B) c4) x.B ∧ SlR rGExpr T w (.slice a5 (List.length x.C) c5) x.C ∧ SlR rGVar T w (.slice a6 (List.length x.Var) c6) x.Var ∧ SlR rStmt T w (.slice a7 (List.length x.Body) c7) x.Body ∧ SlR rStmt T w (.slice a8 (List.length x.Else) c8) x.Else ∧ SlR rGCase T w (.slice a9 (List.length x.Cases) c9) x.Cases := by
  have h := fix_open gStmt h
  obtain ⟨q1, y1, rfl, f1, g1⟩ := h
  cases f1
  obtain ⟨q2, y2, rfl, f2, g2⟩ := g1
  cases rPos_open f2
  obtain ⟨q3, y3, rfl, f3, g3⟩ := g2
  obtain ⟨v4, rfl, s4⟩ := f3
  obtain ⟨b4, k4, rfl⟩ := s4.shape
  obtain ⟨q5, y5, rfl, f5, g5⟩ := g3
  obtain ⟨v6, rfl, s6⟩ := f5
  obtain ⟨b6, k6, rfl⟩ := s6.shape
  obtain ⟨q7, y7, rfl, f7, g7⟩ := g5
  obtain ⟨v8, rfl, s8⟩ := f7
  obtain ⟨b8, k8, rfl⟩ := s8.shape
  obtain ⟨q9, y9, rfl, f9, g9⟩ := g7
  obtain ⟨v10, rfl, s10⟩ := f9
  obtain ⟨b10, k10, rfl⟩ := s10.shape
  obtain ⟨q11, y11, rfl, f11, g11⟩ := g9
  obtain ⟨v12, rfl, s12⟩ := f11
  obtain ⟨b12, k12, rfl⟩ := s12.shape
  obtain ⟨q13, y13, rfl, f13, g13⟩ := g11
  obtain ⟨v14, rfl, s14⟩ := f13
  obtain ⟨b14, k14, rfl⟩ := s14.shape
  obtain ⟨v15, rfl, s15⟩ := g13
  obtain ⟨b15, k15, rfl⟩ := s15.shape
  exact ⟨b4, k4, b6, k6, b8, k8, b10, k10, b12, k12, b14, k14, b15, k15, rfl, s4, s6, s8, s10, s12, s14, s15⟩
theorem rStmt_mk {T : Nat → Prop} {w : World} {x : Stmt} {a3 : Option Addr} {c3 : Nat} {a4 : Option Addr} {c4 : Nat} {a5 : Option Addr} {c5 : Nat} {a6 : Option Addr} {c6 : Nat} {a7 : Option Addr} {c7 : Nat} {a8 : Option Addr} {c8 : Nat} {a9 : Option Addr} {c9 : Nat} (e0 : SlR rGExpr T w (.slice a3 (List.length x.A) c3) x.A) (e1 : SlR rGExpr T w (.slice a4 (List.length x.B) c4) x.B) (e2 : SlR rGExpr T w (.slice a5 (List.length x.C) c5) x.C) (e3 : SlR rGVar T w (.slice a6 (List.length x.Var) c6) x.Var) (e4 : SlR rStmt T w (.slice a7 (List.length x.Body) c7) x.Body) (e5 : SlR rStmt T w (.slice a8 (List.length x.Else) c8) x.Else) (e6 : SlR rGCase T w (.slice a9 (List.length x.Cases) c9) x.Cases) : rStmt.rp T w [.int .i64 x.Kind, .int .i64 x.Pos.Line, .int .i64 x.Pos.Col, .slice a3 (List.length x.A) c3, .slice a4 (List.length x.B) c4, .slice a5 (List.length x.C) c5, .slice a6 (List.length x.Var) c6, .slice a7 (List.length x.Body) c7, .slice a8 (List.length x.Else) c8, .slice a9 (List.length x.Cases) c9] x := fix_mk gStmt ⟨_, _, rfl, rfl, ⟨_, _, rfl, rPos_mk, ⟨_, _, rfl, ⟨_, rfl, e0⟩, ⟨_, _, rfl, ⟨_, rfl, e1⟩, ⟨_, _, rfl, ⟨_, rfl, e2⟩, ⟨_, _, rfl, ⟨_, rfl, e3⟩, ⟨_, _, rfl, ⟨_, rfl, e4⟩, ⟨_, _, rfl, ⟨_, rfl, e5⟩, ⟨_, rfl, e6⟩⟩⟩⟩⟩⟩⟩⟩⟩
theorem rGCase_open {T : Nat → Prop} {w : World} {cs : List Value} {x : GCase} (h : rGCase.rp T w cs x) : ∃ (a4 : Option Addr) (c4 : Nat), cs = [.int .i64 x.Pos.Line, .int .i64 x.Pos.Col, .bool x.Default, .int .u32 x.Num, .slice a4 (List.length x.Body) c4] ∧ SlR rStmt T w (.slice a4 (List.length x.Body) c4) x.Body := by
  obtain ⟨q1, y1, rfl, f1, g1⟩ := h
  cases rPos_open f1
  obtain ⟨q2, y2, rfl, f2, g2⟩ := g1
  cases f2
  obtain ⟨q3, y3, rfl, f3, g3⟩ := g2
  cases f3
  obtain ⟨v4, rfl, s4⟩ := g3
  obtain ⟨b4, k4, rfl⟩ := s4.shape
  exact ⟨b4, k4, rfl, s4⟩
theorem rGCase_mk {T : Nat → Prop} {w : World} {x : GCase} {a4 : Option Addr} {c4 : Nat} (e0 : SlR rStmt T w (.slice a4 (List.length x.Body) c4) x.Body) : rGCase.rp T w [.int .i64 x.Pos.Line, .int .i64 x.Pos.Col, .bool x.Default, .int .u32 x.Num, .slice a4 (List.length x.Body) c4] x := ⟨_, _, rfl, rPos_mk, ⟨_, _, rfl, rfl, ⟨_, _, rfl, rfl, ⟨_, rfl, e0⟩⟩⟩⟩
def rGFunc : Rp GFunc := ((rPair rPos (rPair rTypeName (rPair rStr (rPair (rSl rGVar) (rSl rStmt)))))).iso fun x => (x.Pos, x.Ret, x.Name, x.Params, x.Body)
theorem rGFunc_open {T : Nat → Prop} {w : World} {cs : List Value} {x : GFunc} (h : rGFunc.rp T w cs x) : ∃ (a6 : Option Addr) (c6 : Nat) (a7 : Option Addr) (c7 : Nat), cs = [.int .i64 x.Pos.Line, .int .i64 x.Pos.Col, .string ⟨x.Ret.Word.toArray⟩, .string ⟨x.Ret.Name.toArray⟩, .int .i64 x.Ret.Stars, .string ⟨x.Name.toArray⟩, .slice a6 (List.length x.Params) c6, .slice a7 (List.length x.Body) c7] ∧ SlR rGVar T w (.slice a6 (List.length x.Params) c6) x.Params ∧ SlR rStmt T w (.slice a7 (List.length x.Body) c7) x.Body := by
  obtain ⟨q1, y1, rfl, f1, g1⟩ := h
  cases rPos_open f1
  obtain ⟨q2, y2, rfl, f2, g2⟩ := g1
  cases rTypeName_open f2
  obtain ⟨q3, y3, rfl, f3, g3⟩ := g2
  cases f3
  obtain ⟨q4, y4, rfl, f4, g4⟩ := g3
  obtain ⟨v5, rfl, s5⟩ := f4
  obtain ⟨b5, k5, rfl⟩ := s5.shape
  obtain ⟨v6, rfl, s6⟩ := g4
  obtain ⟨b6, k6, rfl⟩ := s6.shape
  exact ⟨b5, k5, b6, k6, rfl, s5, s6⟩
theorem rGFunc_mk {T : Nat → Prop} {w : World} {x : GFunc} {a6 : Option Addr} {c6 : Nat} {a7 : Option Addr} {c7 : Nat} (e0 : SlR rGVar T w (.slice a6 (List.length x.Params) c6) x.Params) (e1 : SlR rStmt T w (.slice a7 (List.length x.Body) c7) x.Body) : rGFunc.rp T w [.int .i64 x.Pos.Line, .int .i64 x.Pos.Col, .string ⟨x.Ret.Word.toArray⟩, .string ⟨x.Ret.Name.toArray⟩, .int .i64 x.Ret.Stars, .string ⟨x.Name.toArray⟩, .slice a6 (List.length x.Params) c6, .slice a7 (List.length x.Body) c7] x := ⟨_, _, rfl, rPos_mk, ⟨_, _, rfl, rTypeName_mk, ⟨_, _, rfl, rfl, ⟨_, _, rfl, ⟨_, rfl, e0⟩, ⟨_, rfl, e1⟩⟩⟩⟩⟩
def rGProgram : Rp GProgram := ((rPair (rSl rGStruct) (rPair (rSl rGVar) (rSl rGFunc)))).iso fun x => (x.Structs, x.Globals, x.Funcs)
theorem rGProgram_open {T : Nat → Prop} {w : World} {cs : List Value} {x : GProgram} (h : rGProgram.rp T w cs x) : ∃ (a0 : Option Addr) (c0 : Nat) (a1 : Option Addr) (c1 : Nat) (a2 : Option Addr) (c2 : Nat), cs = [.slice a0 (List.length x.Structs) c0, .slice a1 (List.length x.Globals) c1, .slice a2 (List.length x.Funcs) c2] ∧ SlR rGStruct T w (.slice a0 (List.length x.Structs) c0) x.Structs ∧ SlR rGVar T w (.slice a1 (List.length x.Globals) c1) x.Globals ∧ SlR rGFunc T w (.slice a2 (List.length x.Funcs) c2) x.Funcs := by
  obtain ⟨q1, y1, rfl, f1, g1⟩ := h
  obtain ⟨v2, rfl, s2⟩ := f1
  obtain ⟨b2, k2, rfl⟩ := s2.shape
  obtain ⟨q3, y3, rfl, f3, g3⟩ := g1
  obtain ⟨v4, rfl, s4⟩ := f3
  obtain ⟨b4, k4, rfl⟩ := s4.shape
  obtain ⟨v5, rfl, s5⟩ := g3
  obtain ⟨b5, k5, rfl⟩ := s5.shape
  exact ⟨b2, k2, b4, k4, b5, k5, rfl, s2, s4, s5⟩
theorem rGProgram_mk {T : Nat → Prop} {w : World} {x : GProgram} {a0 : Option Addr} {c0 : Nat} {a1 : Option Addr} {c1 : Nat} {a2 : Option Addr} {c2 : Nat} (e0 : SlR rGStruct T w (.slice a0 (List.length x.Structs) c0) x.Structs) (e1 : SlR rGVar T w (.slice a1 (List.length x.Globals) c1) x.Globals) (e2 : SlR rGFunc T w (.slice a2 (List.length x.Funcs) c2) x.Funcs) : rGProgram.rp T w [.slice a0 (List.length x.Structs) c0, .slice a1 (List.length x.Globals) c1, .slice a2 (List.length x.Funcs) c2] x := ⟨_, _, rfl, ⟨_, rfl, e0⟩, ⟨_, _, rfl, ⟨_, rfl, e1⟩, ⟨_, rfl, e2⟩⟩⟩
def rLexScanner : Rp LexScanner := ((rPair rStr rPos)).iso fun x => (x.s, x.pos)
theorem rLexScanner_open {T : Nat → Prop} {w : World} {cs : List Value} {x : LexScanner} (h : rLexScanner.rp T w cs x) : cs = [.string ⟨x.s.toArray⟩, .int .i64 x.pos.Line, .int .i64 x.pos.Col] := by
  obtain ⟨q1, y1, rfl, f1, g1⟩ := h
  cases f1
  cases rPos_open g1
  exact rfl
theorem rLexScanner_mk {T : Nat → Prop} {w : World} {x : LexScanner}   : rLexScanner.rp T w [.string ⟨x.s.toArray⟩, .int .i64 x.pos.Line, .int .i64 x.pos.Col] x := ⟨_, _, rfl, rfl, rPos_mk⟩
def rGToken : Rp GToken := ((rPair (rInt .i64) (rPair rStr (rPair (rInt .u32) rPos)))).iso fun x => (x.Kind, x.Text, x.Num, x.Pos)
theorem rGToken_open {T : Nat → Prop} {w : World} {cs : List Value} {x : GToken} (h : rGToken.rp T w cs x) : cs = [.int .i64 x.Kind, .string ⟨x.Text.toArray⟩, .int .u32 x.Num, .int .i64 x.Pos.Line, .int .i64 x.Pos.Col] := by
  obtain ⟨q1, y1, rfl, f1, g1⟩ := h
  cases f1
  obtain ⟨q2, y2, rfl, f2, g2⟩ := g1
  cases f2
  obtain ⟨q3, y3, rfl, f3, g3⟩ := g2
  cases f3
  cases rPos_open g3
  exact rfl
theorem rGToken_mk {T : Nat → Prop} {w : World} {x : GToken}   : rGToken.rp T w [.int .i64 x.Kind, .string ⟨x.Text.toArray⟩, .int .u32 x.Num, .int .i64 x.Pos.Line, .int .i64 x.Pos.Col] x := ⟨_, _, rfl, rfl, ⟨_, _, rfl, rfl, ⟨_, _, rfl, rfl, rPos_mk⟩⟩⟩
def rTreeReader : Rp TreeReader := ((rPair (rSl rGToken) (rPair rPos (rInt .i64)))).iso fun x => (x.l, x.end_, x.depth)
theorem rTreeReader_open {T : Nat → Prop} {w : World} {cs : List Value} {x : TreeReader} (h : rTreeReader.rp T w cs x) : ∃ (a0 : Option Addr) (c0 : Nat), cs = [.slice a0 (List.length x.l) c0, .int .i64 x.end_.Line, .int .i64 x.end_.Col, .int .i64 x.depth] ∧ SlR rGToken T w (.slice a0 (List.length x.l) c0) x.l := by
  obtain ⟨q1, y1, rfl, f1, g1⟩ := h
  obtain ⟨v2, rfl, s2⟩ := f1
  obtain ⟨b2, k2, rfl⟩ := s2.shape
  obtain ⟨q3, y3, rfl, f3, g3⟩ := g1
  cases rPos_open f3
  cases g3
  exact ⟨b2, k2, rfl, s2⟩
theorem rTreeReader_mk {T : Nat → Prop} {w : World} {x : TreeReader} {a0 : Option Addr} {c0 : Nat} (e0 : SlR rGToken T w (.slice a0 (List.length x.l) c0) x.l) : rTreeReader.rp T w [.slice a0 (List.length x.l) c0, .int .i64 x.end_.Line, .int .i64 x.end_.Col, .int .i64 x.depth] x := ⟨_, _, rfl, ⟨_, rfl, e0⟩, ⟨_, _, rfl, rPos_mk, rfl⟩⟩
def rTreeRefused : Rp TreeRefused := ((rPair rPos (rInt .i64))).iso fun x => (x.pos, x.e)
theorem rTreeRefused_open {T : Nat → Prop} {w : World} {cs : List Value} {x : TreeRefused} (h : rTreeRefused.rp T w cs x) : cs = [.int .i64 x.pos.Line, .int .i64 x.pos.Col, .int .i64 x.e] := by
  obtain ⟨q1, y1, rfl, f1, g1⟩ := h
  cases rPos_open f1
  cases g1
  exact rfl
theorem rTreeRefused_mk {T : Nat → Prop} {w : World} {x : TreeRefused}   : rTreeRefused.rp T w [.int .i64 x.pos.Line, .int .i64 x.pos.Col, .int .i64 x.e] x := ⟨_, _, rfl, rPos_mk, rfl⟩
def rTreeWriter : Rp TreeWriter := ((rSl rStr)).iso fun x => x.l
theorem rTreeWriter_open {T : Nat → Prop} {w : World} {cs : List Value} {x : TreeWriter} (h : rTreeWriter.rp T w cs x) : ∃ (a0 : Option Addr) (c0 : Nat), cs = [.slice a0 (List.length x.l) c0] ∧ SlR rStr T w (.slice a0 (List.length x.l) c0) x.l := by
  obtain ⟨v1, rfl, s1⟩ := h
  obtain ⟨b1, k1, rfl⟩ := s1.shape
  exact ⟨b1, k1, rfl, s1⟩
theorem rTreeWriter_mk {T : Nat → Prop} {w : World} {x : TreeWriter} {a0 : Option Addr} {c0 : Nat} (e0 : SlR rStr T w (.slice a0 (List.length x.l) c0) x.l) : rTreeWriter.rp T w [.slice a0 (List.length x.l) c0] x := ⟨_, rfl, e0⟩
theorem cf5 : CallOk Tryz.prog 5 := ⟨⟨_, Tryz.func5, by kernel_rfl, by kernel_rfl⟩⟩
theorem cf6 : CallOk Tryz.prog 6 := ⟨⟨_, Tryz.func6, by kernel_rfl, by kernel_rfl⟩⟩
theorem cf9 : CallOk Tryz.prog 9 := ⟨⟨_, Tryz.func9, by kernel_rfl, by kernel_rfl⟩⟩
theorem cf10 : CallOk Tryz.prog 10 := ⟨⟨_, Tryz.func10, by kernel_rfl, by kernel_rfl⟩⟩
theorem cf11 : CallOk Tryz.prog 11 := ⟨⟨_, Tryz.func11, by kernel_rfl, by kernel_rfl⟩⟩
theorem cf22 : CallOk Tryz.prog 22 := ⟨⟨_, Tryz.func22, by kernel_rfl, by kernel_rfl⟩⟩
theorem cf23 : CallOk Tryz.prog 23 := ⟨⟨_, Tryz.func23, by kernel_rfl, by kernel_rfl⟩⟩
theorem cf24 : CallOk Tryz.prog 24 := ⟨⟨_, Tryz.func24, by kernel_rfl, by kernel_rfl⟩⟩
theorem cf25 : CallOk Tryz.prog 25 := ⟨⟨_, Tryz.func25, by kernel_rfl, by kernel_rfl⟩⟩
theorem cf26 : CallOk Tryz.prog 26 := ⟨⟨_, Tryz.func26, by kernel_rfl, by kernel_rfl⟩⟩
theorem cf27 : CallOk Tryz.prog 27 := ⟨⟨_, Tryz.func27, by kernel_rfl, by kernel_rfl⟩⟩
theorem cf28 : CallOk Tryz.prog 28 := ⟨⟨_, Tryz.func28, by kernel_rfl, by kernel_rfl⟩⟩
theorem cf29 : CallOk Tryz.prog 29 := ⟨⟨_, Tryz.func29, by kernel_rfl, by kernel_rfl⟩⟩
theorem cf30 : CallOk Tryz.prog 30 := ⟨⟨_, Tryz.func30, by kernel_rfl, by kernel_rfl⟩⟩
theorem cf31 : CallOk Tryz.prog 31 := ⟨⟨_, Tryz.func31, by kernel_rfl, by kernel_rfl⟩⟩
theorem cf42 : CallOk Tryz.prog 42 := ⟨⟨_, Tryz.func42, by kernel_rfl, by kernel_rfl⟩⟩
theorem cf43 : CallOk Tryz.prog 43 := ⟨⟨_, Tryz.func43, by kernel_rfl, by kernel_rfl⟩⟩
theorem cf44 : CallOk Tryz.prog 44 := ⟨⟨_, Tryz.func44, by kernel_rfl, by kernel_rfl⟩⟩
theorem cf48 : CallOk Tryz.prog 48 := ⟨⟨_, Tryz.func48, by kernel_rfl, by kernel_rfl⟩⟩
theorem cf49 : CallOk Tryz.prog 49 := ⟨⟨_, Tryz.func49, by kernel_rfl, by kernel_rfl⟩⟩
theorem cf50 : CallOk Tryz.prog 50 := ⟨⟨_, Tryz.func50, by kernel_rfl, by kernel_rfl⟩⟩
theorem cf51 : CallOk Tryz.prog 51 := ⟨⟨_, Tryz.func51, by kernel_rfl, by kernel_rfl⟩⟩
theorem cf52 : CallOk Tryz.prog 52 := ⟨⟨_, Tryz.func52, by kernel_rfl, by kernel_rfl⟩⟩
theorem cf53 : CallOk Tryz.prog 53 := ⟨⟨_, Tryz.func53, by kernel_rfl, by kernel_rfl⟩⟩
theorem cf54 : CallOk Tryz.prog 54 := ⟨⟨_, Tryz.func54, by kernel_rfl, by kernel_rfl⟩⟩
theorem cf55 : CallOk Tryz.prog 55 := ⟨⟨_, Tryz.func55, by kernel_rfl, by kernel_rfl⟩⟩
theorem cf56 : CallOk Tryz.prog 56 := ⟨⟨_, Tryz.func56, by kernel_rfl, by kernel_rfl⟩⟩
theorem cf57 : CallOk Tryz.prog 57 := ⟨⟨_, Tryz.func57, by kernel_rfl, by kernel_rfl⟩⟩
theorem cf58 : CallOk Tryz.prog 58 := ⟨⟨_, Tryz.func58, by kernel_rfl, by kernel_rfl⟩⟩
theorem cf59 : CallOk Tryz.prog 59 := ⟨⟨_, Tryz.func59, by kernel_rfl, by kernel_rfl⟩⟩
theorem cf60 : CallOk Tryz.prog 60 := ⟨⟨_, Tryz.func60, by kernel_rfl, by kernel_rfl⟩⟩
theorem cf61 : CallOk Tryz.prog 61 := ⟨⟨_, Tryz.func61, by kernel_rfl, by kernel_rfl⟩⟩
theorem cf62 : CallOk Tryz.prog 62 := ⟨⟨_, Tryz.func62, by kernel_rfl, by kernel_rfl⟩⟩
theorem cf63 : CallOk Tryz.prog 63 := ⟨⟨_, Tryz.func63, by kernel_rfl, by kernel_rfl⟩⟩
theorem cf64 : CallOk Tryz.prog 64 := ⟨⟨_, Tryz.func64, by kernel_rfl, by kernel_rfl⟩⟩
theorem cf65 : CallOk Tryz.prog 65 := ⟨⟨_, Tryz.func65, by kernel_rfl, by kernel_rfl⟩⟩
theorem cf66 : CallOk Tryz.prog 66 := ⟨⟨_, Tryz.func66, by kernel_rfl, by kernel_rfl⟩⟩
theorem cf67 : CallOk Tryz.prog 67 := ⟨⟨_, Tryz.func67, by kernel_rfl, by kernel_rfl⟩⟩
theorem cf68 : CallOk Tryz.prog 68 := ⟨⟨_, Tryz.func68, by kernel_rfl, by kernel_rfl⟩⟩
theorem cf71 : CallOk Tryz.prog 71 := ⟨⟨_, Tryz.func71, by kernel_rfl, by kernel_rfl⟩⟩
theorem cf72 : CallOk Tryz.prog 72 := ⟨⟨_, Tryz.func72, by kernel_rfl, by kernel_rfl⟩⟩
theorem cf73 : CallOk Tryz.prog 73 := ⟨⟨_, Tryz.func73, by kernel_rfl, by kernel_rfl⟩⟩
theorem cf74 : CallOk Tryz.prog 74 := ⟨⟨_, Tryz.func74, by kernel_rfl, by kernel_rfl⟩⟩
theorem cf75 : CallOk Tryz.prog 75 := ⟨⟨_, Tryz.func75, by kernel_rfl, by kernel_rfl⟩⟩
theorem cf78 : CallOk Tryz.prog 78 := ⟨⟨_, Tryz.func78, by kernel_rfl, by kernel_rfl⟩⟩
theorem cf80 : CallOk Tryz.prog 80 := ⟨⟨_, Tryz.func80, by kernel_rfl, by kernel_rfl⟩⟩
theorem cf81 : CallOk Tryz.prog 81 := ⟨⟨_, Tryz.func81, by kernel_rfl, by kernel_rfl⟩⟩
theorem cf82 : CallOk Tryz.prog 82 := ⟨⟨_, Tryz.func82, by kernel_rfl, by kernel_rfl⟩⟩
theorem cf83 : CallOk Tryz.prog 83 := ⟨⟨_, Tryz.func83, by kernel_rfl, by kernel_rfl⟩⟩
theorem cf84 : CallOk Tryz.prog 84 := ⟨⟨_, Tryz.func84, by kernel_rfl, by kernel_rfl⟩⟩
theorem cf85 : CallOk Tryz.prog 85 := ⟨⟨_, Tryz.func85, by kernel_rfl, by kernel_rfl⟩⟩
theorem cf86 : CallOk Tryz.prog 86 := ⟨⟨_, Tryz.func86, by kernel_rfl, by kernel_rfl⟩⟩
theorem cf87 : CallOk Tryz.prog 87 := ⟨⟨_, Tryz.func87, by kernel_rfl, by kernel_rfl⟩⟩
theorem cf88 : CallOk Tryz.prog 88 := ⟨⟨_, Tryz.func88, by kernel_rfl, by kernel_rfl⟩⟩
theorem cf90 : CallOk Tryz.prog 90 := ⟨⟨_, Tryz.func90, by kernel_rfl, by kernel_rfl⟩⟩
theorem cf91 : CallOk Tryz.prog 91 := ⟨⟨_, Tryz.func91, by kernel_rfl, by kernel_rfl⟩⟩
theorem cf98 : CallOk Tryz.prog 98 := ⟨⟨_, Tryz.func98, by kernel_rfl, by kernel_rfl⟩⟩
theorem cf99 : CallOk Tryz.prog 99 := ⟨⟨_, Tryz.func99, by kernel_rfl, by kernel_rfl⟩⟩
theorem cf100 : CallOk Tryz.prog 100 := ⟨⟨_, Tryz.func100, by kernel_rfl, by kernel_rfl⟩⟩
theorem cf101 : CallOk Tryz.prog 101 := ⟨⟨_, Tryz.func101, by kernel_rfl, by kernel_rfl⟩⟩
theorem cf102 : CallOk Tryz.prog 102 := ⟨⟨_, Tryz.func102, by kernel_rfl, by kernel_rfl⟩⟩
theorem cf103 : CallOk Tryz.prog 103 := ⟨⟨_, Tryz.func103, by kernel_rfl, by kernel_rfl⟩⟩
theorem cf104 : CallOk Tryz.prog 104 := ⟨⟨_, Tryz.func104, by kernel_rfl, by kernel_rfl⟩⟩
theorem cf105 : CallOk Tryz.prog 105 := ⟨⟨_, Tryz.func105, by kernel_rfl, by kernel_rfl⟩⟩
theorem cf106 : CallOk Tryz.prog 106 := ⟨⟨_, Tryz.func106, by kernel_rfl, by kernel_rfl⟩⟩
theorem cf107 : CallOk Tryz.prog 107 := ⟨⟨_, Tryz.func107, by kernel_rfl, by kernel_rfl⟩⟩
theorem cf108 : CallOk Tryz.prog 108 := ⟨⟨_, Tryz.func108, by kernel_rfl, by kernel_rfl⟩⟩
theorem cf115 : CallOk Tryz.prog 115 := ⟨⟨_, Tryz.func115, by kernel_rfl, by kernel_rfl⟩⟩
theorem cf116 : CallOk Tryz.prog 116 := ⟨⟨_, Tryz.func116, by kernel_rfl, by kernel_rfl⟩⟩
theorem cf122 : CallOk Tryz.prog 122 := ⟨⟨_, Tryz.func122, by kernel_rfl, by kernel_rfl⟩⟩
theorem cf123 : CallOk Tryz.prog 123 := ⟨⟨_, Tryz.func123, by kernel_rfl, by kernel_rfl⟩⟩
theorem cf126 : CallOk Tryz.prog 126 := ⟨⟨_, Tryz.func126, by kernel_rfl, by kernel_rfl⟩⟩
theorem cf127 : CallOk Tryz.prog 127 := ⟨⟨_, Tryz.func127, by kernel_rfl, by kernel_rfl⟩⟩
theorem cf128 : CallOk Tryz.prog 128 := ⟨⟨_, Tryz.func128, by kernel_rfl, by kernel_rfl⟩⟩
theorem el9 : ElemOk Tryz.prog 9 1 := ⟨by kernel_rfl, by decide⟩
theorem el51 : ElemOk Tryz.prog 51 4 := ⟨by kernel_rfl, by decide⟩
theorem el58 : ElemOk Tryz.prog 58 9 := ⟨by kernel_rfl, by decide⟩
theorem el64 : ElemOk Tryz.prog 64 8 := ⟨by kernel_rfl, by decide⟩
theorem el68 : ElemOk Tryz.prog 68 10 := ⟨by kernel_rfl, by decide⟩
theorem el87 : ElemOk Tryz.prog 87 1 := ⟨by kernel_rfl, by decide⟩
theorem el89 : ElemOk Tryz.prog 89 5 := ⟨by kernel_rfl, by decide⟩
theorem el99 : ElemOk Tryz.prog 99 10 := ⟨by kernel_rfl, by decide⟩
theorem el105 : ElemOk Tryz.prog 105 5 := ⟨by kernel_rfl, by decide⟩
theorem eq_29 (a0 : Int) (a1 : Int) (b0 : Int) (b1 : Int) : ∀ x y w, (do eqGuard .eql 29 x y (.agg #[.int .i64 a0, .int .i64 a1]) (.agg #[.int .i64 b0, .int .i64 b1]); binOp .eql 29 (.agg #[.int .i64 a0, .int .i64 a1]) (.agg #[.int .i64 b0, .int .i64 b1]) : Sem Value).run Tryz.prog w = .ok (.bool ((a0 == b0) && (a1 == b1))) w := by
  intro x y w
  simp [go_sem]
  repeat' split
  all_goals simp_all
theorem mix : Tryz.prog.follows .mixedOrders = true := by kernel_rfl
abbrev cLexScanner (x : LexScanner)  : List Value := [.string ⟨x.s.toArray⟩, .int .i64 x.pos.Line, .int .i64 x.pos.Col]
abbrev cGToken (x : GToken)  : List Value := [.int .i64 x.Kind, .string ⟨x.Text.toArray⟩, .int .u32 x.Num, .int .i64 x.Pos.Line, .int .i64 x.Pos.Col]
abbrev cTreeRefused (x : TreeRefused)  : List Value := [.int .i64 x.pos.Line, .int .i64 x.pos.Col, .int .i64 x.e]
abbrev cTypeName (x : TypeName)  : List Value := [.string ⟨x.Word.toArray⟩, .string ⟨x.Name.toArray⟩, .int .i64 x.Stars]
abbrev cGExpr (x : GExpr) (a9 : Option Addr) (c9 : Nat) : List Value := [.int .i64 x.Kind, .int .i64 x.Pos.Line, .int .i64 x.Pos.Col, .string ⟨x.Op.toArray⟩, .string ⟨x.Name.toArray⟩, .int .u32 x.Num, .string ⟨x.Type_.Word.toArray⟩, .string ⟨x.Type_.Name.toArray⟩, .int .i64 x.Type_.Stars, .slice a9 (List.length x.Kids) c9]
abbrev cGVar (x : GVar) (a6 : Option Addr) (c6 : Nat) (a7 : Option Addr) (c7 : Nat) : List Value := [.int .i64 x.Pos.Line, .int .i64 x.Pos.Col, .string ⟨x.Type_.Word.toArray⟩, .string ⟨x.Type_.Name.toArray⟩, .int .i64 x.Type_.Stars, .string ⟨x.Name.toArray⟩, .slice a6 (List.length x.Dims) c6, .slice a7 (List.length x.Init) c7, .bool x.Brace]
abbrev cStmt (x : Stmt) (a3 : Option Addr) (c3 : Nat) (a4 : Option Addr) (c4 : Nat) (a5 : Option Addr) (c5 : Nat) (a6 : Option Addr) (c6 : Nat) (a7 : Option Addr) (c7 : Nat) (a8 : Option Addr) (c8 : Nat) (a9 : Option Addr) (c9 : Nat) : List Value := [.int .i64 x.Kind, .int .i64 x.Pos.Line, .int .i64 x.Pos.Col, .slice a3 (List.length x.A) c3, .slice a4 (List.length x.B) c4, .slice a5 (List.length x.C) c5, .slice a6 (List.length x.Var) c6, .slice a7 (List.length x.Body) c7, .slice a8 (List.length x.Else) c8, .slice a9 (List.length x.Cases) c9]
abbrev cGCase (x : GCase) (a4 : Option Addr) (c4 : Nat) : List Value := [.int .i64 x.Pos.Line, .int .i64 x.Pos.Col, .bool x.Default, .int .u32 x.Num, .slice a4 (List.length x.Body) c4]
abbrev cGStruct (x : GStruct) (a3 : Option Addr) (c3 : Nat) : List Value := [.int .i64 x.Pos.Line, .int .i64 x.Pos.Col, .string ⟨x.Name.toArray⟩, .slice a3 (List.length x.Fields) c3]
abbrev cGFunc (x : GFunc) (a6 : Option Addr) (c6 : Nat) (a7 : Option Addr) (c7 : Nat) : List Value := [.int .i64 x.Pos.Line, .int .i64 x.Pos.Col, .string ⟨x.Ret.Word.toArray⟩, .string ⟨x.Ret.Name.toArray⟩, .int .i64 x.Ret.Stars, .string ⟨x.Name.toArray⟩, .slice a6 (List.length x.Params) c6, .slice a7 (List.length x.Body) c7]
abbrev iv (x : Int) : Value := .int .i64 x
abbrev sv {α : Type} (a : Option Addr) (l : List α) (c : Nat) : Value := .slice a (List.length l) c
abbrev pt (b o : Nat) : Value := .pointer (some ⟨b, o, none⟩)
abbrev OA := Option Addr
abbrev JV := Nat → Value
abbrev TP := Nat → Prop

theorem stringslite_HasPrefix_sim {p0 : List UInt8} {p1 : List UInt8} {r : Bool} (hS : Sep g T0 w0 [R])  (hm : stringslite_HasPrefix p0 p1 = some r) :
    Calls Tryz.prog 78 #[.string ⟨p0.toArray⟩, .string ⟨p1.toArray⟩] w0 (RetS T0 w0 fun T w v => v = .bool r ∧ Sep g T w [R] ∧ True) := by
  refine enter (args := [.string ⟨p0.toArray⟩, .string ⟨p1.toArray⟩]) Tryz.func78 rfl Tryz.ntmps78 rfl fun J => ?_
  unfold stringslite_HasPrefix at hm
  refine sq2 (rg (pv (r_zb rfl) (nil (t_then ?_))))
  refine sq2 (rg (pv (r_mt rfl) (pv (r_lnt rfl underlying9) (pv (r_mt rfl) (pv (r_lnt rfl underlying9) (pv (r_ib rfl rfl rfl) (pv (r_mb rfl) (?_))))))))
  rcases Bool.eq_false_or_eq_true (decide ((List.length p1 : Int) ≤ (List.length p0 : Int))) with hb1 | hb1
  · have hm := ctrue hb1 hm
    obtain ⟨u1, hx1, hm⟩ := bindS hm
    refine gT (d0 := 10) rfl rfl hb1 (pv (r_mt rfl) (gT (d0 := 10) rfl rfl hb1 (pv (r_mt rfl) (gT (d0 := 10) rfl rfl hb1 (pv (r_lnt rfl underlying9) (gT (d0 := 10) rfl rfl hb1 (pv (r_ss rfl rfl ⟨_, rfl⟩ hx1 underlying9) (gT (d0 := 10) rfl rfl hb1 (pv (r_mt rfl) (gT (d0 := 10) rfl rfl hb1 (pv (r_sqL rfl rfl) (pv (r_pkt rfl hb1 rfl) (pv (r_zb rfl) (nil (t_then ?_)))))))))))))))
    have hm := oI hm; subst hm
    exact rtn (ret1 rfl rfl ⟨_, rfl, _, Im.refl, ⟨rfl, hS.sel [0] rfl, trivial⟩⟩)
  have hm := cfalse hb1 hm
  refine gF (d0 := 10) rfl rfl (by rw [hb1]; rfl) (gF (d0 := 10) rfl rfl (by rw [hb1]; rfl) (gF (d0 := 10) rfl rfl (by rw [hb1]; rfl) (gF (d0 := 10) rfl rfl (by rw [hb1]; rfl) (gF (d0 := 10) rfl rfl (by rw [hb1]; rfl) (gF (d0 := 10) rfl rfl (by rw [hb1]; rfl) (pv (r_pkf rfl hb1 rfl) (pv (r_zb rfl) (nil (t_then ?_)))))))))
  have hm := oI hm; subst hm
  exact rtn (ret1 rfl rfl ⟨_, rfl, _, Im.refl, ⟨rfl, hS.sel [0] rfl, trivial⟩⟩)

theorem strings_HasPrefix_sim {p0 : List UInt8} {p1 : List UInt8} {r : Bool} (hS : Sep g T0 w0 [R])  (hm : strings_HasPrefix p0 p1 = some r) :
    Calls Tryz.prog 48 #[.string ⟨p0.toArray⟩, .string ⟨p1.toArray⟩] w0 (RetS T0 w0 fun T w v => v = .bool r ∧ Sep g T w [R] ∧ True) := by
  refine enter (args := [.string ⟨p0.toArray⟩, .string ⟨p1.toArray⟩]) Tryz.func48 rfl Tryz.ntmps48 rfl fun J => ?_
  unfold strings_HasPrefix at hm
  refine sq2 (rg (pv (r_zb rfl) (nil (t_then ?_))))
  refine sq2 ?_
  obtain ⟨y1, hx1, hm⟩ := bindS hm
  refine rg (pv (r_mt rfl) (pv (r_mt rfl) (wl rfl (calS cf78 rfl (stringslite_HasPrefix_sim (p0 := p0) (p1 := p1) (hS.bun [0] [] rfl)  hx1) rfl fun v1 T1 w1 im1 rv1 => ?_))))
  obtain ⟨rfl, hS1, _⟩ := rv1
  have hS1 := hS1.unb
  refine pv (r_zb rfl) (nil (t_then ?_))
  have hm := oI hm; subst hm
  exact rtn (ret1 rfl rfl ⟨_, rfl, _, im1, ⟨rfl, hS1.sel [0] rfl, trivial⟩⟩)

theorem lex_blank_1_sim {p0 : Int} {r : Bool} (hS : Sep g T0 w0 [R])  (hm : lex_blank_1 p0 = some r) :
    Calls Tryz.prog 51 #[.int .u8 p0] w0 (RetS T0 w0 fun T w v => v = .bool r ∧ Sep g T w [R] ∧ True) := by
  refine enter (args := [.int .u8 p0]) Tryz.func51 rfl Tryz.ntmps51 rfl fun J => ?_
  unfold lex_blank_1 at hm
  refine sq2 (rg (pv (r_zb rfl) (nil (t_then ?_))))
  refine sq2 (rg (pv (r_mi rfl) (pv (r_ib rfl rfl rfl) (pv (r_mb rfl) (?_)))))
  rcases Bool.eq_false_or_eq_true (p0 == 32) with hb1 | hb1
  · have hm := ctrue hb1 hm
    refine gF (d0 := 5) rfl rfl (by rw [hb1]; rfl) (gF (d0 := 5) rfl rfl (by rw [hb1]; rfl) (pv (r_pkt rfl hb1 rfl) (pv (r_mb rfl) (gF (d0 := 9) rfl rfl rfl (gF (d0 := 9) rfl rfl rfl (pv (r_pkt rfl rfl rfl) (pv (r_mb rfl) (gF (d0 := 13) rfl rfl rfl (gF (d0 := 13) rfl rfl rfl (pv (r_pkt rfl rfl rfl) (pv (r_zb rfl) (nil (t_then ?_)))))))))))))
    have hm := oI hm; subst hm
    exact rtn (ret1 rfl rfl ⟨_, rfl, _, Im.refl, ⟨rfl, hS.sel [0] rfl, trivial⟩⟩)
  have hm := cfalse hb1 hm
  refine gT (d0 := 5) rfl rfl hb1 (pv (r_mi rfl) (gT (d0 := 5) rfl rfl hb1 (pv (r_ib rfl rfl rfl) (pv (r_pkf rfl hb1 rfl) (pv (r_mb rfl) (?_))))))
  rcases Bool.eq_false_or_eq_true (p0 == 9) with hb2 | hb2
  · have hm := ctrue hb2 hm
    refine gF (d0 := 9) rfl rfl (by rw [hb2]; rfl) (gF (d0 := 9) rfl rfl (by rw [hb2]; rfl) (pv (r_pkt rfl hb2 rfl) (pv (r_mb rfl) (gF (d0 := 13) rfl rfl rfl (gF (d0 := 13) rfl rfl rfl (pv (r_pkt rfl rfl rfl) (pv (r_zb rfl) (nil (t_then ?_)))))))))
    have hm := oI hm; subst hm
    exact rtn (ret1 rfl rfl ⟨_, rfl, _, Im.refl, ⟨rfl, hS.sel [0] rfl, trivial⟩⟩)
  have hm := cfalse hb2 hm
  refine gT (d0 := 9) rfl rfl hb2 (pv (r_mi rfl) (gT (d0 := 9) rfl rfl hb2 (pv (r_ib rfl rfl rfl) (pv (r_pkf rfl hb2 rfl) (pv (r_mb rfl) (?_))))))
  rcases Bool.eq_false_or_eq_true (p0 == 10) with hb3 | hb3
  · have hm := ctrue hb3 hm
    refine gF (d0 := 13) rfl rfl (by rw [hb3]; rfl) (gF (d0 := 13) rfl rfl (by rw [hb3]; rfl) (pv (r_pkt rfl hb3 rfl) (pv (r_zb rfl) (nil (t_then ?_)))))
    have hm := oI hm; subst hm
    exact rtn (ret1 rfl rfl ⟨_, rfl, _, Im.refl, ⟨rfl, hS.sel [0] rfl, trivial⟩⟩)
  have hm := cfalse hb3 hm
  refine gT (d0 := 13) rfl rfl hb3 (pv (r_mi rfl) (gT (d0 := 13) rfl rfl hb3 (pv (r_ib rfl rfl rfl) (pv (r_pkf rfl hb3 rfl) (pv (r_zb rfl) (nil (t_then ?_)))))))
  have hm := oI hm; subst hm
  exact rtn (ret1 rfl rfl ⟨_, rfl, _, Im.refl, ⟨rfl, hS.sel [0] rfl, trivial⟩⟩)

theorem lex_span_sim {p0 : List UInt8} {r : Int} (hS : Sep g T0 w0 [R])  (hm : lex_span p0 = some r) :
    Calls Tryz.prog 50 #[.string ⟨p0.toArray⟩, .func (.func 51) #[] #[]] w0 (RetS T0 w0 fun T w v => v = iv r ∧ Sep g T w [R] ∧ True) := by
  refine enter (args := [.string ⟨p0.toArray⟩, .func (.func 51) #[] #[]]) Tryz.func50 rfl Tryz.ntmps50 rfl fun J => ?_
  unfold lex_span at hm
  refine sq2 (rg (pv (r_zi rfl) (nil (t_then ?_))))
  refine sq2 (rg (pv (r_zi rfl) (nil (t_then ?_))))
  refine sq2 ?_
  obtain ⟨o1, ho1, hq1⟩ := bindS hm
  obtain ⟨bd1, hbd1, ho1⟩ := loop_open ho1
  refine blk (wp_loop_ghost (fun m a w1 => ∃ (J : JV) (T1 : TP) (x1 : Int), a = env (nf 20) J [(0, .string ⟨p0.toArray⟩), (1, .func (.func 51) #[] #[]), (5, iv x1)] ∧ Im T0 w0 T1 w1 ∧ Sep g T1 w1 [R] ∧ loopM bd1 m x1 = some o1) NN ⟨_, _, 0, env_has ⟨rfl, rfl, rfl, trivial⟩, Im.refl, hS.sel [0] rfl, ho1⟩ ?_)
  rintro m _ w1 ⟨J, T1, x1, rfl, im1, hS1, ho1⟩
  obtain ⟨m1, z1, rfl, hm, hn1⟩ := loop_round ho1
  rw [hbd1] at hm
  refine sq2 (sq2 (rg (pv (r_mi rfl) (pv (r_mt rfl) (pv (r_lnt rfl underlying9) (pv (r_ib rfl rfl rfl) (pv (r_mb rfl) (?_))))))))
  rcases Bool.eq_false_or_eq_true (decide (x1 < (List.length p0 : Int))) with hb1 | hb1
  · have hm := ctrue hb1 hm
    obtain ⟨u1, hx1, hm⟩ := bindS hm
    obtain ⟨y1, hx2, hm⟩ := bindS hm
    refine gT (d0 := 10) rfl rfl hb1 (pv (r_mf rfl) (gT (d0 := 10) rfl rfl hb1 (pv (r_mt rfl) (gT (d0 := 10) rfl rfl hb1 (pv (r_mi rfl) (gT (d0 := 10) rfl rfl hb1 (pv (r_sx rfl rfl hx1 underlying9) (gT (d0 := 10) rfl rfl hb1 (wl rfl (calS cf51 rfl (lex_blank_1_sim (p0 := (UInt8.toNat u1 : Int)) (hS1.bun [0] [] rfl)  hx2) rfl fun v1 T2 w2 im2 rv1 => ?_))))))))))
    obtain ⟨rfl, hS2, _⟩ := rv1
    have hS2 := hS2.unb
    refine pv (r_pkt rfl hb1 rfl) (nil (t_then ?_))
    refine cnd rfl (fun hb2 => ?_) (fun hb2 => ?_)
    · have hm := ctrue hb2 hm
      refine skp (t_then ?_)
      refine blk ?_
      have hm := oI hm; subst hm
      exact rg (pv (r_mi rfl) (pv (r_ib rfl rfl rfl) (pv (r_zi rfl) (nil (t_blk (t_then ⟨m1, Nat.lt_succ_self _, _, _, (IntKind.wrap .i64 (x1 + 1)), env_has ⟨rfl, rfl, rfl, trivial⟩, (iT im1 im2), hS2.sel [0] rfl, hn1⟩))))))
    have hm := cfalse hb2 hm
    have hm := oI hm; subst hm
    have hn1 : _ = Lp.brk _ := hn1
    subst hn1
    have hm := thn_brk hq1
    refine xt (x_then (x_then (x_eq (t_then ?_))))
    refine sq2 (rg (pv (r_mi rfl) (pv (r_zi rfl) (nil (t_then ?_)))))
    have hm := oI hm; subst hm
    exact rtn (ret1 rfl rfl ⟨_, rfl, _, (iT im1 im2), ⟨rfl, hS2.sel [0] rfl, trivial⟩⟩)
  have hm := cfalse hb1 hm
  refine gF (d0 := 10) rfl rfl (by rw [hb1]; rfl) (gF (d0 := 10) rfl rfl (by rw [hb1]; rfl) (gF (d0 := 10) rfl rfl (by rw [hb1]; rfl) (gF (d0 := 10) rfl rfl (by rw [hb1]; rfl) (gF (d0 := 10) rfl rfl (by rw [hb1]; rfl) (pv (r_pkf rfl hb1 rfl) (nil (t_then ?_)))))))
  refine cnd (b := false) rfl (fun h => nomatch h) (fun _ => ?_)
  have hm := oI hm; subst hm
  have hn1 : _ = Lp.brk _ := hn1
  subst hn1
  have hm := thn_brk hq1
  refine xt (x_then (x_then (x_eq (t_then ?_))))
  refine sq2 (rg (pv (r_mi rfl) (pv (r_zi rfl) (nil (t_then ?_)))))
  have hm := oI hm; subst hm
  exact rtn (ret1 rfl rfl ⟨_, rfl, _, im1, ⟨rfl, hS1.sel [0] rfl, trivial⟩⟩)

theorem lex_blank_sim {p0 : List UInt8} {r : Int} (hS : Sep g T0 w0 [R]) (hG0 : Gi T0 w0 0) (hm : lex_blank p0 = some r) :
    Calls Tryz.prog 27 #[.string ⟨p0.toArray⟩] w0 (RetS T0 w0 fun T w v => v = iv r ∧ Sep g T w [R] ∧ True) := by
  refine enter (args := [.string ⟨p0.toArray⟩]) Tryz.func27 rfl Tryz.ntmps27 rfl fun J => ?_
  unfold lex_blank at hm
  refine sq2 (rg (pv (r_zi rfl) (nil (t_then ?_))))
  refine sq2 (sq2 ?_)
  obtain ⟨y1, hx1, hm⟩ := bindS hm
  refine rg (pv (r_mt rfl) (wl rfl (calS cf48 rfl (strings_HasPrefix_sim (p0 := p0) (p1 := ([47, 47] : List UInt8)) (hS.bun [0] [] rfl)  hx1) rfl fun v1 T1 w1 im1 rv1 => ?_)))
  obtain ⟨rfl, hS1, _⟩ := rv1
  have hS1 := hS1.unb
  refine nil (t_then ?_)
  refine cnd rfl (fun hb1 => ?_) (fun hb1 => ?_)
  · have hm := ctrue hb1 hm
    refine sq2 (sq2 ?_)
    obtain ⟨y2, hx2, hm⟩ := bindS hm
    refine rg (pv (r_mt rfl) (wl rfl (calS cf49 rfl (strings_Index_sim (p0 := p0) (p1 := ([10] : List UInt8)) (hS1.bun [0] [] rfl) (hG0.mono im1) hx2) rfl fun v2 T2 w2 im2 rv2 => ?_)))
    obtain ⟨rfl, hS2, _⟩ := rv2
    have hS2 := hS2.unb
    refine pv (r_zi rfl) (nil (t_then ?_))
    refine sq2 (rg (pv (r_mi rfl) (pv (r_ib rfl rfl rfl) (nil (t_then ?_)))))
    refine cnd rfl (fun hb2 => ?_) (fun hb2 => ?_)
    · have hm := ctrue hb2 hm
      refine sq2 (rg (pv (r_mi rfl) (pv (r_zi rfl) (nil (t_then ?_)))))
      have hm := oI hm; subst hm
      exact rtn (r_then (r_then (ret1 rfl rfl ⟨_, rfl, _, (iT im1 im2), ⟨rfl, hS2.sel [0] rfl, trivial⟩⟩)))
    have hm := cfalse hb2 hm
    refine skp (t_then ?_)
    refine sq2 (rg (pv (r_mt rfl) (pv (r_lnt rfl underlying9) (pv (r_zi rfl) (nil (t_then ?_))))))
    have hm := oI hm; subst hm
    exact rtn (r_then (ret1 rfl rfl ⟨_, rfl, _, (iT im1 im2), ⟨rfl, hS2.sel [0] rfl, trivial⟩⟩))
  have hm := cfalse hb1 hm
  refine skp (t_then ?_)
  refine sq2 (sq2 ?_)
  obtain ⟨y3, hx3, hm⟩ := bindS hm
  refine rg (pv (r_mt rfl) (wl rfl (calS cf48 rfl (strings_HasPrefix_sim (p0 := p0) (p1 := ([47, 42] : List UInt8)) (hS1.bun [0] [] rfl)  hx3) rfl fun v3 T3 w3 im3 rv3 => ?_)))
  obtain ⟨rfl, hS3, _⟩ := rv3
  have hS3 := hS3.unb
  refine nil (t_then ?_)
  refine cnd rfl (fun hb3 => ?_) (fun hb3 => ?_)
  · have hm := ctrue hb3 hm
    refine sq2 ?_
    obtain ⟨u1, hx4, hm⟩ := bindS hm
    obtain ⟨y4, hx5, hm⟩ := bindS hm
    refine rg (pv (r_mt rfl) (pv (r_ss rfl ⟨_, rfl⟩ rfl hx4 underlying9) (wl rfl (calS cf49 rfl (strings_Index_sim (p0 := u1) (p1 := ([42, 47] : List UInt8)) (hS3.bun [0] [] rfl) (hG0.mono (iT im1 im3)) hx5) rfl fun v4 T4 w4 im4 rv4 => ?_))))
    obtain ⟨rfl, hS4, _⟩ := rv4
    have hS4 := hS4.unb
    refine pv (r_zi rfl) (nil (t_then ?_))
    refine sq2 (sq2 (rg (pv (r_mi rfl) (pv (r_ib rfl rfl rfl) (nil (t_then ?_))))))
    refine cnd rfl (fun hb4 => ?_) (fun hb4 => ?_)
    · have hm := ctrue hb4 hm
      refine sq2 (rg (pv (r_zi rfl) (nil (t_then ?_))))
      have hm := oI hm; subst hm
      exact rtn (r_then (r_then (ret1 rfl rfl ⟨_, rfl, _, (iT im1 (iT im3 im4)), ⟨rfl, hS4.sel [0] rfl, trivial⟩⟩)))
    have hm := cfalse hb4 hm
    refine skp (t_then ?_)
    refine sq2 (rg (pv (r_mi rfl) (pv (r_ib rfl rfl rfl) (pv (r_zi rfl) (nil (t_then ?_))))))
    have hm := oI hm; subst hm
    exact rtn (r_then (ret1 rfl rfl ⟨_, rfl, _, (iT im1 (iT im3 im4)), ⟨rfl, hS4.sel [0] rfl, trivial⟩⟩))
  have hm := cfalse hb3 hm
  refine skp (t_then ?_)
  refine sq2 ?_
  obtain ⟨y5, hx6, hm⟩ := bindS hm
  refine rg (pv (r_mt rfl) (wl rfl (calS cf50 rfl (lex_span_sim (p0 := p0) (hS3.bun [0] [] rfl)  hx6) rfl fun v5 T5 w5 im5 rv5 => ?_)))
  obtain ⟨rfl, hS5, _⟩ := rv5
  have hS5 := hS5.unb
  refine pv (r_zi rfl) (nil (t_then ?_))
  have hm := oI hm; subst hm
  exact rtn (ret1 rfl rfl ⟨_, rfl, _, (iT im1 (iT im3 im5)), ⟨rfl, hS5.sel [0] rfl, trivial⟩⟩)

theorem lex_scanner_skip_sim {p0 : LexScanner} {b_p0 o_p0 : Nat} {H_p0 : List Value → Assn} {p1 : Int} {r : LexScanner} (hS : Sep g T0 w0 [R, H_p0 (cLexScanner p0)]) (hL_p0 : Ln b_p0 o_p0 H_p0) (hm : lex_scanner_skip p0 p1 = some r) :
    Calls Tryz.prog 28 #[pt b_p0 o_p0, iv p1] w0 (RetS T0 w0 fun T w v => v = .tuple #[] ∧ Sep g T w [R, H_p0 (cLexScanner r)] ∧ True) := by
  refine enter (args := [pt b_p0 o_p0, iv p1]) Tryz.func28 rfl Tryz.ntmps28 rfl fun J => ?_
  unfold lex_scanner_skip at hm
  refine sq2 (sq2 ?_)
  obtain ⟨u1, hx1, hm⟩ := bindS hm
  obtain ⟨z_1, hro1, hm⟩ := bindS hm
  refine rg (pv (r_mp rfl) (pv (r_nc rfl) (pv (r_fa rfl underlying84 rfl sizeOf9 rfl) (pv (r_ld rfl isAgg9 (hS.cellB (i := 1) ⟨rfl, rfl⟩ hL_p0 (j := 0) rfl)) (pv (r_mi rfl) (pv (r_ss rfl rfl ⟨_, rfl⟩ hx1 underlying9) (wl rfl (cvB hS rfl underlying9 underlying112 underlying5 (room_some hro1) fun T1 w1 a1 c1 im1 hS1 h1 => ?_))))))))
  refine pv (r_ln rfl underlying112) (pv (r_mi rfl) (nil (t_then ?_)))
  obtain ⟨o1, ho1, hq1⟩ := bindS hm
  obtain ⟨bd1, hbd1, ho1⟩ := loop_open ho1
  refine blk (wp_loop_ghost (fun m a w2 => ∃ (J : JV) (T2 : TP) (x2 : LexScanner) (x1 : Int), a = env (nf 49) J [(0, pt b_p0 o_p0), (1, iv p1), (12, .slice a1 (List.length (strBytes u1)) c1), (13, iv (List.length (strBytes u1) : Int)), (14, iv x1)] ∧ Im T1 w1 T2 w2 ∧ Sep g T2 w2 [R, H_p0 (cLexScanner x2)] ∧ loopM bd1 m (x1, x2) = some o1) NN ⟨_, _, p0, 0, env_has ⟨rfl, rfl, rfl, rfl, rfl, trivial⟩, Im.refl, hS1.sel [0, 1] rfl, ho1⟩ ?_)
  rintro m _ w2 ⟨J, T2, x2, x1, rfl, im2, hS2, ho1⟩
  obtain ⟨m1, z1, rfl, hm, hn1⟩ := loop_round ho1
  rw [hbd1] at hm
  refine sq2 (rg (pv (r_ib rfl rfl rfl) (nil (t_then ?_))))
  refine sq2 (cnd rfl (fun hb1 => ?_) (fun hb1 => ?_))
  · have hm := ctrue hb1 hm
    refine skp (t_then ?_)
    obtain ⟨kk1, hkk1, hm⟩ := jn_open hm
    refine cut (fun a w3 => ∃ (J : JV) (T3 : TP) (x3 : LexScanner), a = env (nf 49) J [(0, pt b_p0 o_p0), (1, iv p1), (12, .slice a1 (List.length (strBytes u1)) c1), (13, iv (List.length (strBytes u1) : Int)), (14, iv x1)] ∧ Im T2 w2 T3 w3 ∧ Sep g T3 w3 [R, H_p0 (cLexScanner x3)] ∧ kk1 x3 = some z1) ?_ ?_
    · refine blk (sq2 ?_)
      obtain ⟨u2, hx2, hm⟩ := bindS hm
      obtain ⟨b1, of1, cs1, k1, cp1, hv1, hp1, hl1, he1, hr1, hc1, hT1⟩ := (h1.mono im2).ixT hx2 rfl
      cases hr1
      refine rg (pv (r_ixe hv1 rfl underlying112 sizeOf5 hp1 hl1 he1) (pv (r_ld rfl isAgg5 (hc1.get (j := 0) rfl)) (pv (r_zi rfl) (nil (t_then ?_)))))
      refine sq2 (rg (pv (r_mp rfl) (pv (r_nc rfl) (pv (r_fa rfl underlying84 rfl sizeOf29 rfl) (pv (r_fa rfl underlying29 rfl sizeOf3 rfl) (pv (r_ld rfl isAgg3 (hS2.cellB (i := 1) ⟨rfl, rfl⟩ hL_p0 (j := 2) rfl)) (pv (r_ib rfl rfl rfl) (pv (r_nc rfl) (pv (r_fa rfl underlying84 rfl sizeOf29 rfl) (pv (r_fa rfl underlying29 rfl sizeOf3 rfl) (wl rfl (stB (q := 1) (j := 2) hS2 ⟨rfl, rfl⟩ hL_p0 rfl rfl rfl sizeOf3 rfl rfl rfl fun w4 im4 hS3 => ?_))))))))))))
      refine nil (t_then ?_)
      refine sq2 (rg (pv (r_mi rfl) (pv (r_ib rfl rfl rfl) (nil (t_then ?_)))))
      refine cnd rfl (fun hb2 => ?_) (fun hb2 => ?_)
      · have hm := ctrue hb2 hm
        refine rg (pv (r_mp rfl) (pv (r_mp rfl) (pv (r_nc rfl) (pv (r_fa rfl underlying84 rfl sizeOf29 rfl) (pv (r_fa rfl underlying29 rfl sizeOf3 rfl) (pv (r_ld rfl isAgg3 (hS3.cellB (i := 1) ⟨rfl, rfl⟩ hL_p0 (j := 1) rfl)) (pv (r_ib rfl rfl rfl) (pv (r_bd (by kernel_rfl) rfl (u := .agg #[iv (IntKind.wrap .i64 (x2.pos.Line + 1)), iv 1])) (pv (r_nc rfl) (pv (r_fa rfl underlying84 rfl sizeOf29 rfl) (wl rfl (stB (q := 1) (j := 1) hS3 ⟨rfl, rfl⟩ hL_p0 rfl rfl rfl sizeOf29 rfl rfl rfl fun w5 im5 hS4 => ?_))))))))))))
        exact nil (t_blk (t_then ⟨_, _, (⟨x2.s, (⟨IntKind.wrap .i64 (x2.pos.Line + 1), 1⟩ : Pos)⟩ : LexScanner), env_has ⟨rfl, rfl, rfl, rfl, rfl, trivial⟩, (iT im4 im5), hS4.sel [0, 1] rfl, hm⟩))
      have hm := cfalse hb2 hm
      exact skp (t_blk (t_then ⟨_, _, (⟨x2.s, (⟨x2.pos.Line, IntKind.wrap .i64 (x2.pos.Col + 1)⟩ : Pos)⟩ : LexScanner), env_has ⟨rfl, rfl, rfl, rfl, rfl, trivial⟩, im4, hS3.sel [0, 1] rfl, hm⟩))
    rintro _ w3 ⟨J, T3, x3, rfl, im3, hS5, hm⟩
    rw [hkk1] at hm
    have hm := oI hm; subst hm
    exact rg (pv (r_ib rfl rfl rfl) (pv (r_mi rfl) (nil (t_then ⟨m1, Nat.lt_succ_self _, _, _, x3, (IntKind.wrap .i64 (x1 + 1)), env_has ⟨rfl, rfl, rfl, rfl, rfl, trivial⟩, (iT im2 im3), hS5.sel [0, 1] rfl, hn1⟩))))
  have hm := cfalse hb1 hm
  have hm := oI hm; subst hm
  have hn1 : _ = Lp.brk _ := hn1
  subst hn1
  have hm := thn_brk hq1
  refine xt (x_then (x_then (x_eq (t_then ?_))))
  obtain ⟨u3, hx3, hm⟩ := bindS hm
  refine rg (pv (r_mp rfl) (pv (r_mp rfl) (pv (r_nc rfl) (pv (r_fa rfl underlying84 rfl sizeOf9 rfl) (pv (r_ld rfl isAgg9 (hS2.cellB (i := 1) ⟨rfl, rfl⟩ hL_p0 (j := 0) rfl)) (pv (r_mi rfl) (pv (r_ss rfl ⟨_, rfl⟩ rfl hx3 underlying9) (pv (r_nc rfl) (pv (r_fa rfl underlying84 rfl sizeOf9 rfl) (wl rfl (stB (q := 1) (j := 0) hS2 ⟨rfl, rfl⟩ hL_p0 rfl rfl rfl sizeOf9 rfl rfl rfl fun w6 im6 hS6 => ?_)))))))))))
  have hm := oI hm; subst hm
  exact nil (end0 rfl ⟨_, rfl, _, (iT im1 (iT im2 im6)), ⟨rfl, hS6.sel [0, 1] rfl, trivial⟩⟩)

theorem lex_letter_sim {p0 : Int} {r : Bool} (hS : Sep g T0 w0 [R])  (hm : lex_letter p0 = some r) :
    Calls Tryz.prog 52 #[.int .u8 p0] w0 (RetS T0 w0 fun T w v => v = .bool r ∧ Sep g T w [R] ∧ True) := by
  refine enter (args := [.int .u8 p0]) Tryz.func52 rfl Tryz.ntmps52 rfl fun J => ?_
  unfold lex_letter at hm
  refine sq2 (rg (pv (r_zb rfl) (nil (t_then ?_))))
  refine sq2 (rg (pv (r_mi rfl) (pv (r_ib rfl rfl rfl) (pv (r_mb rfl) (?_)))))
  rcases Bool.eq_false_or_eq_true (decide (97 ≤ p0)) with hb1 | hb1
  · have hm := ctrue hb1 hm
    refine gT (d0 := 5) rfl rfl hb1 (pv (r_mi rfl) (gT (d0 := 5) rfl rfl hb1 (pv (r_ib rfl rfl rfl) (pv (r_pkt rfl hb1 rfl) (pv (r_mb rfl) (?_))))))
    rcases Bool.eq_false_or_eq_true (decide (p0 ≤ 122)) with hb2 | hb2
    · have hm := ctrue hb2 hm
      refine gF (d0 := 9) rfl rfl (by rw [hb2]; rfl) (gF (d0 := 9) rfl rfl (by rw [hb2]; rfl) (gF (d0 := 9) rfl rfl (by rw [hb2]; rfl) (gU (d0 := 12) rfl rfl (gU (d0 := 12) rfl rfl (gF (d0 := 9) rfl rfl (by rw [hb2]; rfl) (pv (r_pkt rfl hb2 rfl) (pv (r_mb rfl) (gF (d0 := 17) rfl rfl rfl (gF (d0 := 17) rfl rfl rfl (pv (r_pkt rfl rfl rfl) (pv (r_zb rfl) (nil (t_then ?_)))))))))))))
      have hm := oI hm; subst hm
      exact rtn (ret1 rfl rfl ⟨_, rfl, _, Im.refl, ⟨rfl, hS.sel [0] rfl, trivial⟩⟩)
    have hm := cfalse hb2 hm
    refine gT (d0 := 9) rfl rfl hb2 (pv (r_mi rfl) (gT (d0 := 9) rfl rfl hb2 (pv (r_ib rfl rfl rfl) (gT (d0 := 9) rfl rfl hb2 (pv (r_mb rfl) (?_))))))
    rcases Bool.eq_false_or_eq_true (decide (65 ≤ p0)) with hb3 | hb3
    · have hm := ctrue hb3 hm
      refine gT (d0 := 12) rfl rfl hb3 (pv (r_mi rfl) (gT (d0 := 12) rfl rfl hb3 (pv (r_ib rfl rfl rfl) (gT (d0 := 9) rfl rfl hb2 (pv (r_pkt rfl hb3 rfl) (pv (r_pkf rfl hb2 rfl) (pv (r_mb rfl) (?_))))))))
      rcases Bool.eq_false_or_eq_true (decide (p0 ≤ 90)) with hb4 | hb4
      · have hm := ctrue hb4 hm
        refine gF (d0 := 17) rfl rfl (by rw [hb4]; rfl) (gF (d0 := 17) rfl rfl (by rw [hb4]; rfl) (pv (r_pkt rfl hb4 rfl) (pv (r_zb rfl) (nil (t_then ?_)))))
        have hm := oI hm; subst hm
        exact rtn (ret1 rfl rfl ⟨_, rfl, _, Im.refl, ⟨rfl, hS.sel [0] rfl, trivial⟩⟩)
      have hm := cfalse hb4 hm
      refine gT (d0 := 17) rfl rfl hb4 (pv (r_mi rfl) (gT (d0 := 17) rfl rfl hb4 (pv (r_ib rfl rfl rfl) (pv (r_pkf rfl hb4 rfl) (pv (r_zb rfl) (nil (t_then ?_)))))))
      have hm := oI hm; subst hm
      exact rtn (ret1 rfl rfl ⟨_, rfl, _, Im.refl, ⟨rfl, hS.sel [0] rfl, trivial⟩⟩)
    have hm := cfalse hb3 hm
    refine gF (d0 := 12) rfl rfl (by rw [hb3]; rfl) (gF (d0 := 12) rfl rfl (by rw [hb3]; rfl) (gT (d0 := 9) rfl rfl hb2 (pv (r_pkf rfl hb3 rfl) (pv (r_pkf rfl hb2 rfl) (pv (r_mb rfl) (gT (d0 := 17) rfl rfl rfl (pv (r_mi rfl) (gT (d0 := 17) rfl rfl rfl (pv (r_ib rfl rfl rfl) (pv (r_pkf rfl rfl rfl) (pv (r_zb rfl) (nil (t_then ?_)))))))))))))
    have hm := oI hm; subst hm
    exact rtn (ret1 rfl rfl ⟨_, rfl, _, Im.refl, ⟨rfl, hS.sel [0] rfl, trivial⟩⟩)
  have hm := cfalse hb1 hm
  refine gF (d0 := 5) rfl rfl (by rw [hb1]; rfl) (gF (d0 := 5) rfl rfl (by rw [hb1]; rfl) (pv (r_pkf rfl hb1 rfl) (pv (r_mb rfl) (gT (d0 := 9) rfl rfl rfl (pv (r_mi rfl) (gT (d0 := 9) rfl rfl rfl (pv (r_ib rfl rfl rfl) (gT (d0 := 9) rfl rfl rfl (pv (r_mb rfl) (?_))))))))))
  rcases Bool.eq_false_or_eq_true (decide (65 ≤ p0)) with hb5 | hb5
  · have hm := ctrue hb5 hm
    refine gT (d0 := 12) rfl rfl hb5 (pv (r_mi rfl) (gT (d0 := 12) rfl rfl hb5 (pv (r_ib rfl rfl rfl) (gT (d0 := 9) rfl rfl rfl (pv (r_pkt rfl hb5 rfl) (pv (r_pkf rfl rfl rfl) (pv (r_mb rfl) (?_))))))))
    rcases Bool.eq_false_or_eq_true (decide (p0 ≤ 90)) with hb6 | hb6
    · have hm := ctrue hb6 hm
      refine gF (d0 := 17) rfl rfl (by rw [hb6]; rfl) (gF (d0 := 17) rfl rfl (by rw [hb6]; rfl) (pv (r_pkt rfl hb6 rfl) (pv (r_zb rfl) (nil (t_then ?_)))))
      have hm := oI hm; subst hm
      exact rtn (ret1 rfl rfl ⟨_, rfl, _, Im.refl, ⟨rfl, hS.sel [0] rfl, trivial⟩⟩)
    have hm := cfalse hb6 hm
    refine gT (d0 := 17) rfl rfl hb6 (pv (r_mi rfl) (gT (d0 := 17) rfl rfl hb6 (pv (r_ib rfl rfl rfl) (pv (r_pkf rfl hb6 rfl) (pv (r_zb rfl) (nil (t_then ?_)))))))
    have hm := oI hm; subst hm
    exact rtn (ret1 rfl rfl ⟨_, rfl, _, Im.refl, ⟨rfl, hS.sel [0] rfl, trivial⟩⟩)
  have hm := cfalse hb5 hm
  refine gF (d0 := 12) rfl rfl (by rw [hb5]; rfl) (gF (d0 := 12) rfl rfl (by rw [hb5]; rfl) (gT (d0 := 9) rfl rfl rfl (pv (r_pkf rfl hb5 rfl) (pv (r_pkf rfl rfl rfl) (pv (r_mb rfl) (gT (d0 := 17) rfl rfl rfl (pv (r_mi rfl) (gT (d0 := 17) rfl rfl rfl (pv (r_ib rfl rfl rfl) (pv (r_pkf rfl rfl rfl) (pv (r_zb rfl) (nil (t_then ?_)))))))))))))
  have hm := oI hm; subst hm
  exact rtn (ret1 rfl rfl ⟨_, rfl, _, Im.refl, ⟨rfl, hS.sel [0] rfl, trivial⟩⟩)

theorem lex_digit_sim {p0 : Int} {r : Bool} (hS : Sep g T0 w0 [R])  (hm : lex_digit p0 = some r) :
    Calls Tryz.prog 55 #[.int .u8 p0] w0 (RetS T0 w0 fun T w v => v = .bool r ∧ Sep g T w [R] ∧ True) := by
  refine enter (args := [.int .u8 p0]) Tryz.func55 rfl Tryz.ntmps55 rfl fun J => ?_
  unfold lex_digit at hm
  refine sq2 (rg (pv (r_zb rfl) (nil (t_then ?_))))
  refine sq2 (rg (pv (r_mi rfl) (pv (r_ib rfl rfl rfl) (pv (r_mb rfl) (?_)))))
  rcases Bool.eq_false_or_eq_true (decide (48 ≤ p0)) with hb1 | hb1
  · have hm := ctrue hb1 hm
    refine gT (d0 := 5) rfl rfl hb1 (pv (r_mi rfl) (gT (d0 := 5) rfl rfl hb1 (pv (r_ib rfl rfl rfl) (pv (r_pkt rfl hb1 rfl) (pv (r_zb rfl) (nil (t_then ?_)))))))
    have hm := oI hm; subst hm
    exact rtn (ret1 rfl rfl ⟨_, rfl, _, Im.refl, ⟨rfl, hS.sel [0] rfl, trivial⟩⟩)
  have hm := cfalse hb1 hm
  refine gF (d0 := 5) rfl rfl (by rw [hb1]; rfl) (gF (d0 := 5) rfl rfl (by rw [hb1]; rfl) (pv (r_pkf rfl hb1 rfl) (pv (r_zb rfl) (nil (t_then ?_)))))
  have hm := oI hm; subst hm
  exact rtn (ret1 rfl rfl ⟨_, rfl, _, Im.refl, ⟨rfl, hS.sel [0] rfl, trivial⟩⟩)

theorem lex_more_sim {p0 : Int} {r : Bool} (hS : Sep g T0 w0 [R])  (hm : lex_more p0 = some r) :
    Calls Tryz.prog 53 #[.int .u8 p0] w0 (RetS T0 w0 fun T w v => v = .bool r ∧ Sep g T w [R] ∧ True) := by
  refine enter (args := [.int .u8 p0]) Tryz.func53 rfl Tryz.ntmps53 rfl fun J => ?_
  unfold lex_more at hm
  refine sq2 (rg (pv (r_zb rfl) (nil (t_then ?_))))
  refine sq2 ?_
  obtain ⟨y1, hx1, hm⟩ := bindS hm
  refine rg (pv (r_mi rfl) (wl rfl (calS cf52 rfl (lex_letter_sim (p0 := p0) (hS.bun [0] [] rfl)  hx1) rfl fun v1 T1 w1 im1 rv1 => ?_)))
  obtain ⟨rfl, hS1, _⟩ := rv1
  have hS1 := hS1.unb
  refine pv (r_mb rfl) (?_)
  rcases Bool.eq_false_or_eq_true y1 with hb1 | hb1
  · have hm := ctrue hb1 hm
    refine gF (d0 := 5) rfl rfl (by rw [hb1]; rfl) (gF (d0 := 5) rfl rfl (by rw [hb1]; rfl) (pv (r_pkt rfl hb1 rfl) (pv (r_zb rfl) (nil (t_then ?_)))))
    have hm := oI hm; subst hm
    exact rtn (ret1 rfl rfl ⟨_, rfl, _, im1, ⟨rfl, hS1.sel [0] rfl, trivial⟩⟩)
  have hm := cfalse hb1 hm
  obtain ⟨y2, hx2, hm⟩ := bindS hm
  refine gT (d0 := 5) rfl rfl hb1 (pv (r_mi rfl) (gT (d0 := 5) rfl rfl hb1 (wl rfl (calS cf55 rfl (lex_digit_sim (p0 := p0) (hS1.bun [0] [] rfl)  hx2) rfl fun v2 T2 w2 im2 rv2 => ?_))))
  obtain ⟨rfl, hS2, _⟩ := rv2
  have hS2 := hS2.unb
  refine pv (r_pkf rfl hb1 rfl) (pv (r_zb rfl) (nil (t_then ?_)))
  have hm := oI hm; subst hm
  exact rtn (ret1 rfl rfl ⟨_, rfl, _, (iT im1 im2), ⟨rfl, hS2.sel [0] rfl, trivial⟩⟩)

theorem lex_span_2_sim {p0 : List UInt8} {r : Int} (hS : Sep g T0 w0 [R])  (hm : lex_span_2 p0 = some r) :
    Calls Tryz.prog 50 #[.string ⟨p0.toArray⟩, .func (.func 53) #[] #[]] w0 (RetS T0 w0 fun T w v => v = iv r ∧ Sep g T w [R] ∧ True) := by
  refine enter (args := [.string ⟨p0.toArray⟩, .func (.func 53) #[] #[]]) Tryz.func50 rfl Tryz.ntmps50 rfl fun J => ?_
  unfold lex_span_2 at hm
  refine sq2 (rg (pv (r_zi rfl) (nil (t_then ?_))))
  refine sq2 (rg (pv (r_zi rfl) (nil (t_then ?_))))
  refine sq2 ?_
  obtain ⟨o1, ho1, hq1⟩ := bindS hm
  obtain ⟨bd1, hbd1, ho1⟩ := loop_open ho1
  refine blk (wp_loop_ghost (fun m a w1 => ∃ (J : JV) (T1 : TP) (x1 : Int), a = env (nf 20) J [(0, .string ⟨p0.toArray⟩), (1, .func (.func 53) #[] #[]), (5, iv x1)] ∧ Im T0 w0 T1 w1 ∧ Sep g T1 w1 [R] ∧ loopM bd1 m x1 = some o1) NN ⟨_, _, 0, env_has ⟨rfl, rfl, rfl, trivial⟩, Im.refl, hS.sel [0] rfl, ho1⟩ ?_)
  rintro m _ w1 ⟨J, T1, x1, rfl, im1, hS1, ho1⟩
  obtain ⟨m1, z1, rfl, hm, hn1⟩ := loop_round ho1
  rw [hbd1] at hm
  refine sq2 (sq2 (rg (pv (r_mi rfl) (pv (r_mt rfl) (pv (r_lnt rfl underlying9) (pv (r_ib rfl rfl rfl) (pv (r_mb rfl) (?_))))))))
  rcases Bool.eq_false_or_eq_true (decide (x1 < (List.length p0 : Int))) with hb1 | hb1
  · have hm := ctrue hb1 hm
    obtain ⟨u1, hx1, hm⟩ := bindS hm
    obtain ⟨y1, hx2, hm⟩ := bindS hm
    refine gT (d0 := 10) rfl rfl hb1 (pv (r_mf rfl) (gT (d0 := 10) rfl rfl hb1 (pv (r_mt rfl) (gT (d0 := 10) rfl rfl hb1 (pv (r_mi rfl) (gT (d0 := 10) rfl rfl hb1 (pv (r_sx rfl rfl hx1 underlying9) (gT (d0 := 10) rfl rfl hb1 (wl rfl (calS cf53 rfl (lex_more_sim (p0 := (UInt8.toNat u1 : Int)) (hS1.bun [0] [] rfl)  hx2) rfl fun v1 T2 w2 im2 rv1 => ?_))))))))))
    obtain ⟨rfl, hS2, _⟩ := rv1
    have hS2 := hS2.unb
    refine pv (r_pkt rfl hb1 rfl) (nil (t_then ?_))
    refine cnd rfl (fun hb2 => ?_) (fun hb2 => ?_)
    · have hm := ctrue hb2 hm
      refine skp (t_then ?_)
      refine blk ?_
      have hm := oI hm; subst hm
      exact rg (pv (r_mi rfl) (pv (r_ib rfl rfl rfl) (pv (r_zi rfl) (nil (t_blk (t_then ⟨m1, Nat.lt_succ_self _, _, _, (IntKind.wrap .i64 (x1 + 1)), env_has ⟨rfl, rfl, rfl, trivial⟩, (iT im1 im2), hS2.sel [0] rfl, hn1⟩))))))
    have hm := cfalse hb2 hm
    have hm := oI hm; subst hm
    have hn1 : _ = Lp.brk _ := hn1
    subst hn1
    have hm := thn_brk hq1
    refine xt (x_then (x_then (x_eq (t_then ?_))))
    refine sq2 (rg (pv (r_mi rfl) (pv (r_zi rfl) (nil (t_then ?_)))))
    have hm := oI hm; subst hm
    exact rtn (ret1 rfl rfl ⟨_, rfl, _, (iT im1 im2), ⟨rfl, hS2.sel [0] rfl, trivial⟩⟩)
  have hm := cfalse hb1 hm
  refine gF (d0 := 10) rfl rfl (by rw [hb1]; rfl) (gF (d0 := 10) rfl rfl (by rw [hb1]; rfl) (gF (d0 := 10) rfl rfl (by rw [hb1]; rfl) (gF (d0 := 10) rfl rfl (by rw [hb1]; rfl) (gF (d0 := 10) rfl rfl (by rw [hb1]; rfl) (pv (r_pkf rfl hb1 rfl) (nil (t_then ?_)))))))
  refine cnd (b := false) rfl (fun h => nomatch h) (fun _ => ?_)
  have hm := oI hm; subst hm
  have hn1 : _ = Lp.brk _ := hn1
  subst hn1
  have hm := thn_brk hq1
  refine xt (x_then (x_then (x_eq (t_then ?_))))
  refine sq2 (rg (pv (r_mi rfl) (pv (r_zi rfl) (nil (t_then ?_)))))
  have hm := oI hm; subst hm
  exact rtn (ret1 rfl rfl ⟨_, rfl, _, im1, ⟨rfl, hS1.sel [0] rfl, trivial⟩⟩)

theorem lex_Word_sim {p0 : List UInt8} {r : Bool} (hS : Sep g T0 w0 [R])  (hm : lex_Word p0 = some r) :
    Calls Tryz.prog 54 #[.string ⟨p0.toArray⟩] w0 (RetS T0 w0 fun T w v => v = .bool r ∧ Sep g T w [R] ∧ True) := by
  refine enter (args := [.string ⟨p0.toArray⟩]) Tryz.func54 rfl Tryz.ntmps54 rfl fun J => ?_
  unfold lex_Word at hm
  refine sq2 (rg (pv (r_zb rfl) (nil (t_then ?_))))
  refine sq2 (sq2 (rg (pv (r_mt rfl) (nil (t_then ?_)))))
  refine blk ?_
  obtain ⟨kk1, hkk1, hm⟩ := jn_open hm
  refine cut (fun a w1 => ∃ (J : JV) (T1 : TP) (x1 : Bool), a = env (nf 23) J [(4, .bool x1)] ∧ Im T0 w0 T1 w1 ∧ Sep g T1 w1 [R] ∧ kk1 x1 = some r) ?_ ?_
  · refine sq2 (rg (pv (r_sqL rfl rfl) (pv (r_zb rfl) (nil (t_then ?_)))))
    refine cnd rfl (fun hb1 => ?_) (fun hb1 => ?_)
    · have hm := ctrue hb1 hm
      exact skp (t_then ⟨_, _, (decide (p0 = ([98, 114, 101, 97, 107] : List UInt8))), env_has ⟨rfl, trivial⟩, Im.refl, hS.sel [0] rfl, hm⟩)
    have hm := cfalse hb1 hm
    refine sq2 (rg (pv (r_sqL rfl rfl) (pv (r_zb rfl) (nil (t_then ?_)))))
    refine cnd rfl (fun hb2 => ?_) (fun hb2 => ?_)
    · have hm := ctrue hb2 hm
      exact skp (t_then ⟨_, _, (decide (p0 = ([99, 97, 115, 101] : List UInt8))), env_has ⟨rfl, trivial⟩, Im.refl, hS.sel [0] rfl, hm⟩)
    have hm := cfalse hb2 hm
    refine sq2 (rg (pv (r_sqL rfl rfl) (pv (r_zb rfl) (nil (t_then ?_)))))
    refine cnd rfl (fun hb3 => ?_) (fun hb3 => ?_)
    · have hm := ctrue hb3 hm
      exact skp (t_then ⟨_, _, (decide (p0 = ([99, 104, 97, 114] : List UInt8))), env_has ⟨rfl, trivial⟩, Im.refl, hS.sel [0] rfl, hm⟩)
    have hm := cfalse hb3 hm
    refine sq2 (rg (pv (r_sqL rfl rfl) (pv (r_zb rfl) (nil (t_then ?_)))))
    refine cnd rfl (fun hb4 => ?_) (fun hb4 => ?_)
    · have hm := ctrue hb4 hm
      exact skp (t_then ⟨_, _, (decide (p0 = ([99, 111, 110, 116, 105, 110, 117, 101] : List UInt8))), env_has ⟨rfl, trivial⟩, Im.refl, hS.sel [0] rfl, hm⟩)
    have hm := cfalse hb4 hm
    refine sq2 (rg (pv (r_sqL rfl rfl) (pv (r_zb rfl) (nil (t_then ?_)))))
    refine cnd rfl (fun hb5 => ?_) (fun hb5 => ?_)
    · have hm := ctrue hb5 hm
      exact skp (t_then ⟨_, _, (decide (p0 = ([100, 101, 102, 97, 117, 108, 116] : List UInt8))), env_has ⟨rfl, trivial⟩, Im.refl, hS.sel [0] rfl, hm⟩)
    have hm := cfalse hb5 hm
    refine sq2 (rg (pv (r_sqL rfl rfl) (pv (r_zb rfl) (nil (t_then ?_)))))
    refine cnd rfl (fun hb6 => ?_) (fun hb6 => ?_)
    · have hm := ctrue hb6 hm
      exact skp (t_then ⟨_, _, (decide (p0 = ([100, 111] : List UInt8))), env_has ⟨rfl, trivial⟩, Im.refl, hS.sel [0] rfl, hm⟩)
    have hm := cfalse hb6 hm
    refine sq2 (rg (pv (r_sqL rfl rfl) (pv (r_zb rfl) (nil (t_then ?_)))))
    refine cnd rfl (fun hb7 => ?_) (fun hb7 => ?_)
    · have hm := ctrue hb7 hm
      exact skp (t_then ⟨_, _, (decide (p0 = ([101, 108, 115, 101] : List UInt8))), env_has ⟨rfl, trivial⟩, Im.refl, hS.sel [0] rfl, hm⟩)
    have hm := cfalse hb7 hm
    refine sq2 (rg (pv (r_sqL rfl rfl) (pv (r_zb rfl) (nil (t_then ?_)))))
    refine cnd rfl (fun hb8 => ?_) (fun hb8 => ?_)
    · have hm := ctrue hb8 hm
      exact skp (t_then ⟨_, _, (decide (p0 = ([102, 111, 114] : List UInt8))), env_has ⟨rfl, trivial⟩, Im.refl, hS.sel [0] rfl, hm⟩)
    have hm := cfalse hb8 hm
    refine sq2 (rg (pv (r_sqL rfl rfl) (pv (r_zb rfl) (nil (t_then ?_)))))
    refine cnd rfl (fun hb9 => ?_) (fun hb9 => ?_)
    · have hm := ctrue hb9 hm
      exact skp (t_then ⟨_, _, (decide (p0 = ([105, 102] : List UInt8))), env_has ⟨rfl, trivial⟩, Im.refl, hS.sel [0] rfl, hm⟩)
    have hm := cfalse hb9 hm
    refine sq2 (rg (pv (r_sqL rfl rfl) (pv (r_zb rfl) (nil (t_then ?_)))))
    refine cnd rfl (fun hb10 => ?_) (fun hb10 => ?_)
    · have hm := ctrue hb10 hm
      exact skp (t_then ⟨_, _, (decide (p0 = ([105, 110] : List UInt8))), env_has ⟨rfl, trivial⟩, Im.refl, hS.sel [0] rfl, hm⟩)
    have hm := cfalse hb10 hm
    refine sq2 (rg (pv (r_sqL rfl rfl) (pv (r_zb rfl) (nil (t_then ?_)))))
    refine cnd rfl (fun hb11 => ?_) (fun hb11 => ?_)
    · have hm := ctrue hb11 hm
      exact skp (t_then ⟨_, _, (decide (p0 = ([105, 110, 116] : List UInt8))), env_has ⟨rfl, trivial⟩, Im.refl, hS.sel [0] rfl, hm⟩)
    have hm := cfalse hb11 hm
    refine sq2 (rg (pv (r_sqL rfl rfl) (pv (r_zb rfl) (nil (t_thenR [(3, .string ⟨p0.toArray⟩), (4, .bool (decide (p0 = ([111, 117, 116] : List UInt8))))] ⟨rfl, rfl, trivial⟩ fun J => ?_)))))
    refine cnd rfl (fun hb12 => ?_) (fun hb12 => ?_)
    · have hm := ctrue hb12 hm
      exact skp (t_then ⟨_, _, (decide (p0 = ([111, 117, 116] : List UInt8))), env_has ⟨rfl, trivial⟩, Im.refl, hS.sel [0] rfl, hm⟩)
    have hm := cfalse hb12 hm
    refine sq2 (rg (pv (r_sqL rfl rfl) (pv (r_zb rfl) (nil (t_then ?_)))))
    refine cnd rfl (fun hb13 => ?_) (fun hb13 => ?_)
    · have hm := ctrue hb13 hm
      exact skp (t_then ⟨_, _, (decide (p0 = ([114, 101, 116, 117, 114, 110] : List UInt8))), env_has ⟨rfl, trivial⟩, Im.refl, hS.sel [0] rfl, hm⟩)
    have hm := cfalse hb13 hm
    refine sq2 (rg (pv (r_sqL rfl rfl) (pv (r_zb rfl) (nil (t_then ?_)))))
    refine cnd rfl (fun hb14 => ?_) (fun hb14 => ?_)
    · have hm := ctrue hb14 hm
      exact skp (t_then ⟨_, _, (decide (p0 = ([115, 105, 122, 101, 111, 102] : List UInt8))), env_has ⟨rfl, trivial⟩, Im.refl, hS.sel [0] rfl, hm⟩)
    have hm := cfalse hb14 hm
    refine sq2 (rg (pv (r_sqL rfl rfl) (pv (r_zb rfl) (nil (t_then ?_)))))
    refine cnd rfl (fun hb15 => ?_) (fun hb15 => ?_)
    · have hm := ctrue hb15 hm
      exact skp (t_then ⟨_, _, (decide (p0 = ([115, 116, 114, 117, 99, 116] : List UInt8))), env_has ⟨rfl, trivial⟩, Im.refl, hS.sel [0] rfl, hm⟩)
    have hm := cfalse hb15 hm
    refine sq2 (rg (pv (r_sqL rfl rfl) (pv (r_zb rfl) (nil (t_then ?_)))))
    refine cnd rfl (fun hb16 => ?_) (fun hb16 => ?_)
    · have hm := ctrue hb16 hm
      exact skp (t_then ⟨_, _, (decide (p0 = ([115, 119, 105, 116, 99, 104] : List UInt8))), env_has ⟨rfl, trivial⟩, Im.refl, hS.sel [0] rfl, hm⟩)
    have hm := cfalse hb16 hm
    refine sq2 (rg (pv (r_sqL rfl rfl) (pv (r_zb rfl) (nil (t_then ?_)))))
    refine cnd rfl (fun hb17 => ?_) (fun hb17 => ?_)
    · have hm := ctrue hb17 hm
      exact skp (t_then ⟨_, _, (decide (p0 = ([118, 111, 105, 100] : List UInt8))), env_has ⟨rfl, trivial⟩, Im.refl, hS.sel [0] rfl, hm⟩)
    have hm := cfalse hb17 hm
    exact rg (pv (r_sqL rfl rfl) (pv (r_zb rfl) (nil (t_then ⟨_, _, (decide (p0 = ([119, 104, 105, 108, 101] : List UInt8))), env_has ⟨rfl, trivial⟩, Im.refl, hS.sel [0] rfl, hm⟩))))
  rintro _ w1 ⟨J, T1, x1, rfl, im1, hS1, hm⟩
  rw [hkk1] at hm
  refine cnd rfl (fun hb18 => ?_) (fun hb18 => ?_)
  · have hm := ctrue hb18 hm
    refine sq2 (rg (pv (r_zb rfl) (nil (t_then ?_))))
    have hm := oI hm; subst hm
    exact rtn (r_blk (r_then (ret1 rfl rfl ⟨_, rfl, _, im1, ⟨rfl, hS1.sel [0] rfl, trivial⟩⟩)))
  have hm := cfalse hb18 hm
  refine skp (t_blk (t_then ?_))
  refine sq2 (rg (pv (r_zb rfl) (nil (t_then ?_))))
  have hm := oI hm; subst hm
  exact rtn (ret1 rfl rfl ⟨_, rfl, _, im1, ⟨rfl, hS1.sel [0] rfl, trivial⟩⟩)

theorem lex_worth_sim {p0 : Int} {r : Int} (hS : Sep g T0 w0 [R])  (hm : lex_worth p0 = some r) :
    Calls Tryz.prog 80 #[.int .u8 p0] w0 (RetS T0 w0 fun T w v => v = .int .u64 r ∧ Sep g T w [R] ∧ True) := by
  refine enter (args := [.int .u8 p0]) Tryz.func80 rfl Tryz.ntmps80 rfl fun J => ?_
  unfold lex_worth at hm
  refine sq2 (rg (pv (r_zi rfl) (nil (t_then ?_))))
  refine sq2 (blk (sq2 ?_))
  obtain ⟨y1, hx1, hm⟩ := bindS hm
  refine rg (pv (r_mi rfl) (wl rfl (calS cf55 rfl (lex_digit_sim (p0 := p0) (hS.bun [0] [] rfl)  hx1) rfl fun v1 T1 w1 im1 rv1 => ?_)))
  obtain ⟨rfl, hS1, _⟩ := rv1
  have hS1 := hS1.unb
  refine pv (r_zb rfl) (nil (t_then ?_))
  refine cnd rfl (fun hb1 => ?_) (fun hb1 => ?_)
  · have hm := ctrue hb1 hm
    refine sq2 (rg (pv (r_mi rfl) (pv (r_ib rfl rfl rfl) (pv (r_cv rfl underlying5 underlying134) (pv (r_zi rfl) (nil (t_then ?_)))))))
    have hm := oI hm; subst hm
    exact rtn (r_blk (r_then (ret1 rfl rfl ⟨_, rfl, _, im1, ⟨rfl, hS1.sel [0] rfl, trivial⟩⟩)))
  have hm := cfalse hb1 hm
  refine sq2 (rg (pv (r_mi rfl) (pv (r_ib rfl rfl rfl) (pv (r_mb rfl) (?_)))))
  rcases Bool.eq_false_or_eq_true (decide (97 ≤ p0)) with hb2 | hb2
  · have hm := ctrue hb2 hm
    refine gT (d0 := 12) rfl rfl hb2 (pv (r_mi rfl) (gT (d0 := 12) rfl rfl hb2 (pv (r_ib rfl rfl rfl) (pv (r_pkt rfl hb2 rfl) (pv (r_zb rfl) (nil (t_then ?_)))))))
    refine cnd rfl (fun hb3 => ?_) (fun hb3 => ?_)
    · have hm := ctrue hb3 hm
      refine sq2 (rg (pv (r_mi rfl) (pv (r_ib rfl rfl rfl) (pv (r_cv rfl underlying5 underlying134) (pv (r_ib rfl rfl rfl) (pv (r_zi rfl) (nil (t_then ?_))))))))
      have hm := oI hm; subst hm
      exact rtn (r_blk (r_then (ret1 rfl rfl ⟨_, rfl, _, im1, ⟨rfl, hS1.sel [0] rfl, trivial⟩⟩)))
    have hm := cfalse hb3 hm
    refine sq2 (rg (pv (r_mi rfl) (pv (r_ib rfl rfl rfl) (pv (r_mb rfl) (?_)))))
    rcases Bool.eq_false_or_eq_true (decide (65 ≤ p0)) with hb4 | hb4
    · have hm := ctrue hb4 hm
      refine gT (d0 := 23) rfl rfl hb4 (pv (r_mi rfl) (gT (d0 := 23) rfl rfl hb4 (pv (r_ib rfl rfl rfl) (pv (r_pkt rfl hb4 rfl) (pv (r_zb rfl) (nil (t_then ?_)))))))
      refine cnd rfl (fun hb5 => ?_) (fun hb5 => ?_)
      · have hm := ctrue hb5 hm
        refine sq2 (rg (pv (r_mi rfl) (pv (r_ib rfl rfl rfl) (pv (r_cv rfl underlying5 underlying134) (pv (r_ib rfl rfl rfl) (pv (r_zi rfl) (nil (t_then ?_))))))))
        have hm := oI hm; subst hm
        exact rtn (r_blk (r_then (ret1 rfl rfl ⟨_, rfl, _, im1, ⟨rfl, hS1.sel [0] rfl, trivial⟩⟩)))
      have hm := cfalse hb5 hm
      refine skp (t_blk (t_then ?_))
      refine sq2 (rg (pv (r_zi rfl) (nil (t_then ?_))))
      have hm := oI hm; subst hm
      exact rtn (ret1 rfl rfl ⟨_, rfl, _, im1, ⟨rfl, hS1.sel [0] rfl, trivial⟩⟩)
    have hm := cfalse hb4 hm
    refine gF (d0 := 23) rfl rfl (by rw [hb4]; rfl) (gF (d0 := 23) rfl rfl (by rw [hb4]; rfl) (pv (r_pkf rfl hb4 rfl) (pv (r_zb rfl) (nil (t_then ?_)))))
    refine cnd (b := false) rfl (fun h => nomatch h) (fun _ => ?_)
    refine skp (t_blk (t_then ?_))
    refine sq2 (rg (pv (r_zi rfl) (nil (t_then ?_))))
    have hm := oI hm; subst hm
    exact rtn (ret1 rfl rfl ⟨_, rfl, _, im1, ⟨rfl, hS1.sel [0] rfl, trivial⟩⟩)
  have hm := cfalse hb2 hm
  refine gF (d0 := 12) rfl rfl (by rw [hb2]; rfl) (gF (d0 := 12) rfl rfl (by rw [hb2]; rfl) (pv (r_pkf rfl hb2 rfl) (pv (r_zb rfl) (nil (t_then ?_)))))
  refine cnd (b := false) rfl (fun h => nomatch h) (fun _ => ?_)
  refine sq2 (rg (pv (r_mi rfl) (pv (r_ib rfl rfl rfl) (pv (r_mb rfl) (?_)))))
  rcases Bool.eq_false_or_eq_true (decide (65 ≤ p0)) with hb8 | hb8
  · have hm := ctrue hb8 hm
    refine gT (d0 := 23) rfl rfl hb8 (pv (r_mi rfl) (gT (d0 := 23) rfl rfl hb8 (pv (r_ib rfl rfl rfl) (pv (r_pkt rfl hb8 rfl) (pv (r_zb rfl) (nil (t_then ?_)))))))
    refine cnd rfl (fun hb9 => ?_) (fun hb9 => ?_)
    · have hm := ctrue hb9 hm
      refine sq2 (rg (pv (r_mi rfl) (pv (r_ib rfl rfl rfl) (pv (r_cv rfl underlying5 underlying134) (pv (r_ib rfl rfl rfl) (pv (r_zi rfl) (nil (t_then ?_))))))))
      have hm := oI hm; subst hm
      exact rtn (r_blk (r_then (ret1 rfl rfl ⟨_, rfl, _, im1, ⟨rfl, hS1.sel [0] rfl, trivial⟩⟩)))
    have hm := cfalse hb9 hm
    refine skp (t_blk (t_then ?_))
    refine sq2 (rg (pv (r_zi rfl) (nil (t_then ?_))))
    have hm := oI hm; subst hm
    exact rtn (ret1 rfl rfl ⟨_, rfl, _, im1, ⟨rfl, hS1.sel [0] rfl, trivial⟩⟩)
  have hm := cfalse hb8 hm
  refine gF (d0 := 23) rfl rfl (by rw [hb8]; rfl) (gF (d0 := 23) rfl rfl (by rw [hb8]; rfl) (pv (r_pkf rfl hb8 rfl) (pv (r_zb rfl) (nil (t_then ?_)))))
  refine cnd (b := false) rfl (fun h => nomatch h) (fun _ => ?_)
  refine skp (t_blk (t_then ?_))
  refine sq2 (rg (pv (r_zi rfl) (nil (t_then ?_))))
  have hm := oI hm; subst hm
  exact rtn (ret1 rfl rfl ⟨_, rfl, _, im1, ⟨rfl, hS1.sel [0] rfl, trivial⟩⟩)

theorem lex_number_sim {p0 : List UInt8} {r : GToken × Int} (hS : Sep g T0 w0 [R])  (hm : lex_number p0 = some r) :
    Calls Tryz.prog 56 #[.string ⟨p0.toArray⟩] w0 (RetS T0 w0 fun T w v => v = .tuple #[.agg (cGToken r.1).toArray, iv r.2] ∧ Sep g T w [R] ∧ True) := by
  refine enter (args := [.string ⟨p0.toArray⟩]) Tryz.func56 rfl Tryz.ntmps56 rfl fun J => ?_
  unfold lex_number at hm
  refine sq2 (rg (wl rfl (alS (zs := [iv 0, .string ⟨([] : List UInt8).toArray⟩, .int .u32 0, iv 0, iv 0]) zeroValue89 rfl hS fun w1 b1 im1 hS1 => ?_)))
  refine pv (r_zi rfl) (nil (t_then ?_))
  refine sq2 ?_
  obtain ⟨y1, hx1, hm⟩ := bindS hm
  refine rg (pv (r_mt rfl) (pv (r_mt rfl) (wl rfl (calS cf50 rfl (lex_span_2_sim (p0 := p0) (hS1.bun [0, 1] [] rfl)  hx1) rfl fun v1 T1 w2 im2 rv1 => ?_))))
  obtain ⟨rfl, hS2, _⟩ := rv1
  have hS2 := hS2.unb
  obtain ⟨u1, hx2, hm⟩ := bindS hm
  refine pv (r_ss rfl rfl ⟨_, rfl⟩ hx2 underlying9) (pv (r_zt rfl) (nil (t_then ?_)))
  refine sq2 (rg (pv (r_mt rfl) (pv (r_zt rfl) (pv (r_zi rfl) (nil (t_then ?_))))))
  obtain ⟨kk1, hkk1, hm⟩ := jn_open hm
  refine cut (fun a w3 => ∃ (J : JV) (T2 : TP) (x1 : List UInt8) (x2 : Int), a = env (nf 54) J [(2, pt b1 0), (4, .string ⟨u1.toArray⟩), (5, .string ⟨x1.toArray⟩), (6, .int .u64 x2)] ∧ Im T1 w2 T2 w3 ∧ Sep g T2 w3 [boxA b1 [iv 0, .string ⟨([] : List UInt8).toArray⟩, .int .u32 0, iv 0, iv 0], R] ∧ kk1 x1 x2 = some r) ?_ ?_
  · refine sq2 ?_
    obtain ⟨y2, hx3, hm⟩ := bindS hm
    refine rg (pv (r_mt rfl) (wl rfl (calS cf48 rfl (strings_HasPrefix_sim (p0 := u1) (p1 := ([48, 120] : List UInt8)) (hS2.bun [0, 1] [] rfl)  hx3) rfl fun v2 T3 w4 im4 rv2 => ?_)))
    obtain ⟨rfl, hS3, _⟩ := rv2
    have hS3 := hS3.unb
    refine pv (r_mb rfl) (?_)
    rcases Bool.eq_false_or_eq_true y2 with hb1 | hb1
    · have hm := ctrue hb1 hm
      refine gF (d0 := 18) rfl rfl (by rw [hb1]; rfl) (gF (d0 := 18) rfl rfl (by rw [hb1]; rfl) (pv (r_pkt rfl hb1 rfl) (nil (t_then ?_))))
      refine cnd (b := true) rfl (fun _ => ?_) (fun h => nomatch h)
      obtain ⟨u3, hx6, hm⟩ := bindS hm
      exact rg (pv (r_mt rfl) (pv (r_ss rfl ⟨_, rfl⟩ rfl hx6 underlying9) (pv (r_zt rfl) (pv (r_zi rfl) (nil (t_then ⟨_, _, u3, 16, env_has ⟨rfl, rfl, rfl, rfl, trivial⟩, im4, hS3.sel [0, 1] rfl, hm⟩))))))
    have hm := cfalse hb1 hm
    obtain ⟨y3, hx4, hm⟩ := bindS hm
    refine gT (d0 := 18) rfl rfl hb1 (pv (r_mt rfl) (gT (d0 := 18) rfl rfl hb1 (wl rfl (calS cf48 rfl (strings_HasPrefix_sim (p0 := u1) (p1 := ([48, 88] : List UInt8)) (hS3.bun [0, 1] [] rfl)  hx4) rfl fun v3 T4 w5 im5 rv3 => ?_))))
    obtain ⟨rfl, hS4, _⟩ := rv3
    have hS4 := hS4.unb
    refine pv (r_pkf rfl hb1 rfl) (nil (t_then ?_))
    refine cnd rfl (fun hb2 => ?_) (fun hb2 => ?_)
    · have hm := ctrue hb2 hm
      obtain ⟨u2, hx5, hm⟩ := bindS hm
      exact rg (pv (r_mt rfl) (pv (r_ss rfl ⟨_, rfl⟩ rfl hx5 underlying9) (pv (r_zt rfl) (pv (r_zi rfl) (nil (t_then ⟨_, _, u2, 16, env_has ⟨rfl, rfl, rfl, rfl, trivial⟩, (iT im4 im5), hS4.sel [0, 1] rfl, hm⟩))))))
    have hm := cfalse hb2 hm
    exact skp (t_then ⟨_, _, u1, 10, env_has ⟨rfl, rfl, rfl, rfl, trivial⟩, (iT im4 im5), hS4.sel [0, 1] rfl, hm⟩)
  rintro _ w3 ⟨J, T2, x1, x2, rfl, im3, hS5, hm⟩
  rw [hkk1] at hm
  refine sq2 (sq2 (rg (pv (r_mt rfl) (pv (r_sqL rfl rfl) (nil (t_then ?_))))))
  refine cnd rfl (fun hb4 => ?_) (fun hb4 => ?_)
  · have hm := ctrue hb4 hm
    refine sq2 (rg (pv (r_bd (by kernel_rfl) rfl (u := .agg #[iv 0, .string ⟨([] : List UInt8).toArray⟩, .int .u32 0, iv 0, iv 0])) (wl rfl (st0B (q := 0) hS5 ⟨rfl, rfl⟩ rfl rfl rfl sizeOf89 rfl rfl rfl fun w6 im6 hS6 => ?_))))
    refine pv (r_zi rfl) (nil (t_then ?_))
    have hm := oI hm; subst hm
    exact rtn (r_then (retN (vs := [.agg #[iv 0, .string ⟨([] : List UInt8).toArray⟩, .int .u32 0, iv 0, iv 0], iv 3]) rfl ⟨rvS rfl isAgg89 sizeOf89 rfl (hS6.bx (i := 0) ⟨rfl, rfl⟩), rfl, trivial⟩ rfl ⟨_, rfl, _, (iT im1 (iT im2 (iT im3 im6))), ⟨rfl, hS6.sel [1] rfl, trivial⟩⟩))
  have hm := cfalse hb4 hm
  refine skp (t_then ?_)
  refine sq2 (rg (pv (r_zi rfl) (nil (t_then ?_))))
  refine sq2 (rg (pv (r_zb rfl) (nil (t_then ?_))))
  refine sq2 (sq2 ?_)
  obtain ⟨z_1, hro1, hm⟩ := bindS hm
  refine rg (pv (r_mt rfl) (wl rfl (cvB hS5 rfl underlying9 underlying112 underlying5 (room_some hro1) fun T5 w7 a1 c1 im7 hS7 h1 => ?_)))
  refine pv (r_ln rfl underlying112) (pv (r_mi rfl) (nil (t_then ?_)))
  obtain ⟨o1, ho1, hq1⟩ := bindS hm
  obtain ⟨bd1, hbd1, ho1⟩ := loop_open ho1
  refine blk (wp_loop_ghost (fun m a w8 => ∃ (J : JV) (T6 : TP) (x3 : Int) (x4 : Bool) (x5 : Int), a = env (nf 54) J [(2, pt b1 0), (4, .string ⟨u1.toArray⟩), (6, .int .u64 x2), (7, .int .u64 x3), (8, .bool x4), (28, .slice a1 (List.length (strBytes x1)) c1), (29, iv (List.length (strBytes x1) : Int)), (30, iv x5)] ∧ Im T5 w7 T6 w8 ∧ Sep g T6 w8 [boxA b1 [iv 0, .string ⟨([] : List UInt8).toArray⟩, .int .u32 0, iv 0, iv 0], R] ∧ loopM bd1 m (x3, x4, x5) = some o1) NN ⟨_, _, 0, false, 0, env_has ⟨rfl, rfl, rfl, rfl, rfl, rfl, rfl, rfl, trivial⟩, Im.refl, hS7.sel [0, 1] rfl, ho1⟩ ?_)
  rintro m _ w8 ⟨J, T6, x3, x4, x5, rfl, im8, hS8, ho1⟩
  obtain ⟨m1, z1, rfl, hm, hn1⟩ := loop_round ho1
  rw [hbd1] at hm
  refine sq2 (rg (pv (r_ib rfl rfl rfl) (nil (t_then ?_))))
  refine sq2 (cnd rfl (fun hb5 => ?_) (fun hb5 => ?_))
  · have hm := ctrue hb5 hm
    refine skp (t_then ?_)
    obtain ⟨kk2, hkk2, hm⟩ := jn_open hm
    refine cut (fun a w9 => ∃ (J : JV) (T7 : TP) (x6 : Int) (x7 : Bool), a = env (nf 54) J [(2, pt b1 0), (4, .string ⟨u1.toArray⟩), (6, .int .u64 x2), (7, .int .u64 x6), (8, .bool x7), (28, .slice a1 (List.length (strBytes x1)) c1), (29, iv (List.length (strBytes x1) : Int)), (30, iv x5)] ∧ Im T6 w8 T7 w9 ∧ Sep g T7 w9 [boxA b1 [iv 0, .string ⟨([] : List UInt8).toArray⟩, .int .u32 0, iv 0, iv 0], R] ∧ kk2 x6 x7 = some z1) ?_ ?_
    · refine blk (sq2 ?_)
      obtain ⟨u4, hx7, hm⟩ := bindS hm
      obtain ⟨b2, of1, cs1, k1, cp1, hv1, hp1, hl1, he1, hr1, hc1, hT1⟩ := (h1.mono im8).ixT hx7 rfl
      cases hr1
      refine rg (pv (r_ixe hv1 rfl underlying112 sizeOf5 hp1 hl1 he1) (pv (r_ld rfl isAgg5 (hc1.get (j := 0) rfl)) (pv (r_zi rfl) (nil (t_then ?_)))))
      refine sq2 (sq2 ?_)
      obtain ⟨y4, hx8, hm⟩ := bindS hm
      refine rg (pv (r_mi rfl) (wl rfl (calS cf80 rfl (lex_worth_sim (p0 := u4) (hS8.bun [0, 1] [] rfl)  hx8) rfl fun v4 T8 w10 im10 rv4 => ?_)))
      obtain ⟨rfl, hS9, _⟩ := rv4
      have hS9 := hS9.unb
      refine pv (r_mi rfl) (pv (r_ib rfl rfl rfl) (nil (t_then ?_)))
      refine cnd rfl (fun hb6 => ?_) (fun hb6 => ?_)
      · have hm := ctrue hb6 hm
        refine sq2 (rg (pv (r_bd (by kernel_rfl) rfl (u := .agg #[iv 0, .string ⟨([] : List UInt8).toArray⟩, .int .u32 0, iv 0, iv 0])) (wl rfl (st0B (q := 0) hS9 ⟨rfl, rfl⟩ rfl rfl rfl sizeOf89 rfl rfl rfl fun w11 im11 hS10 => ?_))))
        refine pv (r_zi rfl) (nil (t_then ?_))
        have hm := oI hm; subst hm
        have hn1 : _ = Lp.ret _ := hn1
        subst hn1
        have hm := thn_ret hq1
        have hm := oI hm; subst hm
        exact rtn (r_then (r_blk (r_then (r_then (r_blk (r_then (retN (vs := [.agg #[iv 0, .string ⟨([] : List UInt8).toArray⟩, .int .u32 0, iv 0, iv 0], iv 3]) rfl ⟨rvS rfl isAgg89 sizeOf89 rfl (hS10.bx (i := 0) ⟨rfl, rfl⟩), rfl, trivial⟩ rfl ⟨_, rfl, _, (iT im1 (iT im2 (iT im3 (iT im7 (iT im8 (iT im10 im11)))))), ⟨rfl, hS10.sel [1] rfl, trivial⟩⟩)))))))
      have hm := cfalse hb6 hm
      refine skp (t_then ?_)
      refine sq2 ?_
      obtain ⟨y5, hx9, hm⟩ := bindS hm
      refine rg (pv (r_mi rfl) (pv (r_mi rfl) (pv (r_ib rfl rfl rfl) (pv (r_mi rfl) (wl rfl (calS cf80 rfl (lex_worth_sim (p0 := u4) (hS9.bun [0, 1] [] rfl)  hx9) rfl fun v5 T9 w12 im12 rv5 => ?_))))))
      obtain ⟨rfl, hS11, _⟩ := rv5
      have hS11 := hS11.unb
      refine pv (r_ib rfl rfl rfl) (pv (r_zi rfl) (nil (t_then ?_)))
      refine sq2 (rg (pv (r_mi rfl) (pv (r_ib rfl rfl rfl) (nil (t_then ?_)))))
      refine cnd rfl (fun hb7 => ?_) (fun hb7 => ?_)
      · have hm := ctrue hb7 hm
        exact rg (pv (r_zi rfl) (pv (r_zb rfl) (nil (t_blk (t_then ⟨_, _, 4294967295, true, env_has ⟨rfl, rfl, rfl, rfl, rfl, rfl, rfl, rfl, trivial⟩, (iT im10 im12), hS11.sel [0, 1] rfl, hm⟩)))))
      have hm := cfalse hb7 hm
      exact skp (t_blk (t_then ⟨_, _, (IntKind.wrap .u64 ((IntKind.wrap .u64 (x3 * x2)) + y5)), x4, env_has ⟨rfl, rfl, rfl, rfl, rfl, rfl, rfl, rfl, trivial⟩, (iT im10 im12), hS11.sel [0, 1] rfl, hm⟩))
    rintro _ w9 ⟨J, T7, x6, x7, rfl, im9, hS12, hm⟩
    rw [hkk2] at hm
    have hm := oI hm; subst hm
    exact rg (pv (r_ib rfl rfl rfl) (pv (r_mi rfl) (nil (t_then ⟨m1, Nat.lt_succ_self _, _, _, x6, x7, (IntKind.wrap .i64 (x5 + 1)), env_has ⟨rfl, rfl, rfl, rfl, rfl, rfl, rfl, rfl, trivial⟩, (iT im8 im9), hS12.sel [0, 1] rfl, hn1⟩))))
  have hm := cfalse hb5 hm
  have hm := oI hm; subst hm
  have hn1 : _ = Lp.brk _ := hn1
  subst hn1
  have hm := thn_brk hq1
  refine xt (x_then (x_then (x_eq (t_then ?_))))
  refine sq2 (sq2 (rg (pv (r_mb rfl) (nil (t_then ?_)))))
  refine cnd rfl (fun hb8 => ?_) (fun hb8 => ?_)
  · have hm := ctrue hb8 hm
    refine sq2 (rg (pv (r_bd (by kernel_rfl) rfl (u := .agg #[iv 0, .string ⟨([] : List UInt8).toArray⟩, .int .u32 0, iv 0, iv 0])) (wl rfl (st0B (q := 0) hS8 ⟨rfl, rfl⟩ rfl rfl rfl sizeOf89 rfl rfl rfl fun w13 im13 hS13 => ?_))))
    refine pv (r_zi rfl) (nil (t_then ?_))
    have hm := oI hm; subst hm
    exact rtn (r_then (retN (vs := [.agg #[iv 0, .string ⟨([] : List UInt8).toArray⟩, .int .u32 0, iv 0, iv 0], iv 7]) rfl ⟨rvS rfl isAgg89 sizeOf89 rfl (hS13.bx (i := 0) ⟨rfl, rfl⟩), rfl, trivial⟩ rfl ⟨_, rfl, _, (iT im1 (iT im2 (iT im3 (iT im7 (iT im8 im13))))), ⟨rfl, hS13.sel [1] rfl, trivial⟩⟩))
  have hm := cfalse hb8 hm
  refine skp (t_then ?_)
  refine sq2 (rg (pv (r_mt rfl) (pv (r_mi rfl) (pv (r_cv rfl underlying134 underlying87) (pv (r_bd (by kernel_rfl) rfl (u := .agg #[iv 3, .string ⟨u1.toArray⟩, .int .u32 (IntKind.wrap .u32 x3), iv 0, iv 0])) (wl rfl (st0B (q := 0) hS8 ⟨rfl, rfl⟩ rfl rfl rfl sizeOf89 rfl rfl rfl fun w14 im14 hS14 => ?_)))))))
  refine pv (r_zi rfl) (nil (t_then ?_))
  have hm := oI hm; subst hm
  exact rtn (retN (vs := [.agg #[iv 3, .string ⟨u1.toArray⟩, .int .u32 (IntKind.wrap .u32 x3), iv 0, iv 0], iv 0]) rfl ⟨rvS rfl isAgg89 sizeOf89 rfl (hS14.bx (i := 0) ⟨rfl, rfl⟩), rfl, trivial⟩ rfl ⟨_, rfl, _, (iT im1 (iT im2 (iT im3 (iT im7 (iT im8 im14))))), ⟨rfl, hS14.sel [1] rfl, trivial⟩⟩)

theorem lex_escape_sim {p0 : Int} {r : Int × Bool} (hS : Sep g T0 w0 [R])  (hm : lex_escape p0 = some r) :
    Calls Tryz.prog 81 #[.int .u8 p0] w0 (RetS T0 w0 fun T w v => v = .tuple #[.int .u8 r.1, .bool r.2] ∧ Sep g T w [R] ∧ True) := by
  refine enter (args := [.int .u8 p0]) Tryz.func81 rfl Tryz.ntmps81 rfl fun J => ?_
  unfold lex_escape at hm
  refine sq2 (rg (pv (r_zi rfl) (pv (r_zb rfl) (nil (t_then ?_)))))
  refine sq2 (sq2 (rg (pv (r_mi rfl) (nil (t_then ?_)))))
  refine blk (sq2 (rg (pv (r_ib rfl rfl rfl) (pv (r_zb rfl) (nil (t_then ?_))))))
  refine cnd rfl (fun hb1 => ?_) (fun hb1 => ?_)
  · have hm := ctrue hb1 hm
    refine sq2 (rg (pv (r_zi rfl) (pv (r_zb rfl) (nil (t_then ?_)))))
    have hm := oI hm; subst hm
    exact rtn (r_blk (r_then (retN (vs := [.int .u8 10, .bool true]) rfl ⟨rfl, rfl, trivial⟩ rfl ⟨_, rfl, _, Im.refl, ⟨rfl, hS.sel [0] rfl, trivial⟩⟩)))
  have hm := cfalse hb1 hm
  refine sq2 (rg (pv (r_ib rfl rfl rfl) (pv (r_zb rfl) (nil (t_then ?_)))))
  refine cnd rfl (fun hb2 => ?_) (fun hb2 => ?_)
  · have hm := ctrue hb2 hm
    refine sq2 (rg (pv (r_zi rfl) (pv (r_zb rfl) (nil (t_then ?_)))))
    have hm := oI hm; subst hm
    exact rtn (r_blk (r_then (retN (vs := [.int .u8 9, .bool true]) rfl ⟨rfl, rfl, trivial⟩ rfl ⟨_, rfl, _, Im.refl, ⟨rfl, hS.sel [0] rfl, trivial⟩⟩)))
  have hm := cfalse hb2 hm
  refine sq2 (rg (pv (r_ib rfl rfl rfl) (pv (r_zb rfl) (nil (t_then ?_)))))
  refine cnd rfl (fun hb3 => ?_) (fun hb3 => ?_)
  · have hm := ctrue hb3 hm
    refine sq2 (rg (pv (r_zi rfl) (pv (r_zb rfl) (nil (t_then ?_)))))
    have hm := oI hm; subst hm
    exact rtn (r_blk (r_then (retN (vs := [.int .u8 13, .bool true]) rfl ⟨rfl, rfl, trivial⟩ rfl ⟨_, rfl, _, Im.refl, ⟨rfl, hS.sel [0] rfl, trivial⟩⟩)))
  have hm := cfalse hb3 hm
  refine sq2 (rg (pv (r_ib rfl rfl rfl) (pv (r_zb rfl) (nil (t_then ?_)))))
  refine cnd rfl (fun hb4 => ?_) (fun hb4 => ?_)
  · have hm := ctrue hb4 hm
    refine sq2 (rg (pv (r_zi rfl) (pv (r_zb rfl) (nil (t_then ?_)))))
    have hm := oI hm; subst hm
    exact rtn (r_blk (r_then (retN (vs := [.int .u8 0, .bool true]) rfl ⟨rfl, rfl, trivial⟩ rfl ⟨_, rfl, _, Im.refl, ⟨rfl, hS.sel [0] rfl, trivial⟩⟩)))
  have hm := cfalse hb4 hm
  obtain ⟨kk1, hkk1, hm⟩ := jn_open hm
  refine cut (fun a w1 => ∃ (J : JV) (T1 : TP) (x1 : Bool), a = env (nf 17) J [(0, .int .u8 p0), (13, .bool x1)] ∧ Im T0 w0 T1 w1 ∧ Sep g T1 w1 [R] ∧ kk1 x1 = some r) ?_ ?_
  · refine sq2 (rg (pv (r_ib rfl rfl rfl) (pv (r_zb rfl) (nil (t_then ?_)))))
    refine cnd rfl (fun hb5 => ?_) (fun hb5 => ?_)
    · have hm := ctrue hb5 hm
      exact skp (t_then ⟨_, _, (p0 == 92), env_has ⟨rfl, rfl, trivial⟩, Im.refl, hS.sel [0] rfl, hm⟩)
    have hm := cfalse hb5 hm
    exact rg (pv (r_ib rfl rfl rfl) (pv (r_zb rfl) (nil (t_then ⟨_, _, (p0 == 39), env_has ⟨rfl, rfl, trivial⟩, Im.refl, hS.sel [0] rfl, hm⟩))))
  rintro _ w1 ⟨J, T1, x1, rfl, im1, hS1, hm⟩
  rw [hkk1] at hm
  refine cnd rfl (fun hb6 => ?_) (fun hb6 => ?_)
  · have hm := ctrue hb6 hm
    refine sq2 (rg (pv (r_mi rfl) (pv (r_zi rfl) (pv (r_zb rfl) (nil (t_then ?_))))))
    have hm := oI hm; subst hm
    exact rtn (r_blk (r_then (retN (vs := [.int .u8 p0, .bool true]) rfl ⟨rfl, rfl, trivial⟩ rfl ⟨_, rfl, _, im1, ⟨rfl, hS1.sel [0] rfl, trivial⟩⟩)))
  have hm := cfalse hb6 hm
  refine skp (t_blk (t_then ?_))
  refine sq2 (rg (pv (r_zi rfl) (pv (r_zb rfl) (nil (t_then ?_)))))
  have hm := oI hm; subst hm
  exact rtn (retN (vs := [.int .u8 0, .bool false]) rfl ⟨rfl, rfl, trivial⟩ rfl ⟨_, rfl, _, im1, ⟨rfl, hS1.sel [0] rfl, trivial⟩⟩)

theorem lex_char_sim {p0 : List UInt8} {r : GToken × Int} (hS : Sep g T0 w0 [R])  (hm : lex_char p0 = some r) :
    Calls Tryz.prog 57 #[.string ⟨p0.toArray⟩] w0 (RetS T0 w0 fun T w v => v = .tuple #[.agg (cGToken r.1).toArray, iv r.2] ∧ Sep g T w [R] ∧ True) := by
  refine enter (args := [.string ⟨p0.toArray⟩]) Tryz.func57 rfl Tryz.ntmps57 rfl fun J => ?_
  unfold lex_char at hm
  refine sq2 (rg (wl rfl (alS (zs := [iv 0, .string ⟨([] : List UInt8).toArray⟩, .int .u32 0, iv 0, iv 0]) zeroValue89 rfl hS fun w1 b1 im1 hS1 => ?_)))
  refine pv (r_zi rfl) (nil (t_then ?_))
  refine sq2 (sq2 (rg (pv (r_mt rfl) (pv (r_lnt rfl underlying9) (pv (r_ib rfl rfl rfl) (pv (r_mb rfl) (?_)))))))
  rcases Bool.eq_false_or_eq_true (decide (4 ≤ (List.length p0 : Int))) with hb1 | hb1
  · have hm := ctrue hb1 hm
    obtain ⟨u1, hx1, hm⟩ := bindS hm
    refine gT (d0 := 9) rfl rfl hb1 (pv (r_mt rfl) (gT (d0 := 9) rfl rfl hb1 (pv (r_sx rfl rfl hx1 underlying9) (gT (d0 := 9) rfl rfl hb1 (pv (r_ib rfl rfl rfl) (pv (r_pkt rfl hb1 rfl) (pv (r_mb rfl) (?_))))))))
    rcases Bool.eq_false_or_eq_true ((UInt8.toNat u1 : Int) == 92) with hb2 | hb2
    · have hm := ctrue hb2 hm
      obtain ⟨u2, hx2, hm⟩ := bindS hm
      refine gT (d0 := 14) rfl rfl hb2 (pv (r_mt rfl) (gT (d0 := 14) rfl rfl hb2 (pv (r_sx rfl rfl hx2 underlying9) (gT (d0 := 14) rfl rfl hb2 (pv (r_ib rfl rfl rfl) (pv (r_pkt rfl hb2 rfl) (nil (t_then ?_))))))))
      refine cnd rfl (fun hb3 => ?_) (fun hb3 => ?_)
      · have hm := ctrue hb3 hm
        refine sq2 (sq2 ?_)
        obtain ⟨u3, hx3, hm⟩ := bindS hm
        obtain ⟨y1, hx4, hm⟩ := bindS hm
        refine rg (pv (r_mt rfl) (pv (r_sx rfl rfl hx3 underlying9) (wl rfl (calS cf81 rfl (lex_escape_sim (p0 := (UInt8.toNat u3 : Int)) (hS1.bun [0, 1] [] rfl)  hx4) rfl fun v1 T1 w2 im2 rv1 => ?_))))
        obtain ⟨rfl, hS2, _⟩ := rv1
        have hS2 := hS2.unb
        refine pv (r_mv rfl) (pv (r_ex (v := .int .u8 y1.1) rfl rfl) (pv (r_ex (v := .bool y1.2) rfl rfl) (pv (r_zi rfl) (pv (r_zb rfl) (nil (t_then ?_))))))
        refine sq2 (rg (pv (r_mb rfl) (nil (t_then ?_))))
        refine cnd rfl (fun hb4 => ?_) (fun hb4 => ?_)
        · have hm := ctrue hb4 hm
          refine sq2 ?_
          obtain ⟨u4, hx5, hm⟩ := bindS hm
          refine rg (pv (r_mt rfl) (pv (r_ss rfl rfl ⟨_, rfl⟩ hx5 underlying9) (pv (r_mi rfl) (pv (r_cv rfl underlying5 underlying87) (pv (r_bd (by kernel_rfl) rfl (u := .agg #[iv 3, .string ⟨u4.toArray⟩, .int .u32 (IntKind.wrap .u32 y1.1), iv 0, iv 0])) (wl rfl (st0B (q := 0) hS2 ⟨rfl, rfl⟩ rfl rfl rfl sizeOf89 rfl rfl rfl fun w3 im3 hS3 => ?_)))))))
          refine pv (r_zi rfl) (nil (t_thenR [(2, pt b1 0), (3, iv 0)] ⟨rfl, rfl, trivial⟩ fun J => ?_))
          have hm := oI hm; subst hm
          exact rtn (r_then (r_then (retN (vs := [.agg #[iv 3, .string ⟨u4.toArray⟩, .int .u32 (IntKind.wrap .u32 y1.1), iv 0, iv 0], iv 0]) rfl ⟨rvS rfl isAgg89 sizeOf89 rfl (hS3.bx (i := 0) ⟨rfl, rfl⟩), rfl, trivial⟩ rfl ⟨_, rfl, _, (iT im1 (iT im2 im3)), ⟨rfl, hS3.sel [1] rfl, trivial⟩⟩)))
        have hm := cfalse hb4 hm
        refine skp (t_then ?_)
        refine sq2 (rg (pv (r_bd (by kernel_rfl) rfl (u := .agg #[iv 0, .string ⟨([] : List UInt8).toArray⟩, .int .u32 0, iv 0, iv 0])) (wl rfl (st0B (q := 0) hS2 ⟨rfl, rfl⟩ rfl rfl rfl sizeOf89 rfl rfl rfl fun w4 im4 hS4 => ?_))))
        refine pv (r_zi rfl) (nil (t_thenR [(2, pt b1 0), (3, iv 3)] ⟨rfl, rfl, trivial⟩ fun J => ?_))
        have hm := oI hm; subst hm
        exact rtn (r_then (retN (vs := [.agg #[iv 0, .string ⟨([] : List UInt8).toArray⟩, .int .u32 0, iv 0, iv 0], iv 3]) rfl ⟨rvS rfl isAgg89 sizeOf89 rfl (hS4.bx (i := 0) ⟨rfl, rfl⟩), rfl, trivial⟩ rfl ⟨_, rfl, _, (iT im1 (iT im2 im4)), ⟨rfl, hS4.sel [1] rfl, trivial⟩⟩))
      have hm := cfalse hb3 hm
      refine skp (t_then ?_)
      refine sq2 (sq2 (rg (pv (r_mt rfl) (pv (r_lnt rfl underlying9) (pv (r_ib rfl rfl rfl) (pv (r_mb rfl) (?_)))))))
      rcases Bool.eq_false_or_eq_true (decide (3 ≤ (List.length p0 : Int))) with hb5 | hb5
      · have hm := ctrue hb5 hm
        obtain ⟨u5, hx6, hm⟩ := bindS hm
        refine gT (d0 := 35) rfl rfl hb5 (pv (r_mt rfl) (gT (d0 := 35) rfl rfl hb5 (pv (r_sx rfl rfl hx6 underlying9) (gT (d0 := 35) rfl rfl hb5 (pv (r_ib rfl rfl rfl) (pv (r_pkt rfl hb5 rfl) (pv (r_mb rfl) (?_))))))))
        rcases Bool.eq_false_or_eq_true ((UInt8.toNat u5 : Int) == 39) with hb6 | hb6
        · have hm := ctrue hb6 hm
          obtain ⟨u6, hx7, hm⟩ := bindS hm
          refine gT (d0 := 40) rfl rfl hb6 (pv (r_mt rfl) (gT (d0 := 40) rfl rfl hb6 (pv (r_sx rfl rfl hx7 underlying9) (gT (d0 := 40) rfl rfl hb6 (pv (r_ib rfl rfl rfl) (pv (r_pkt rfl hb6 rfl) (pv (r_mb rfl) (?_))))))))
          rcases Bool.eq_false_or_eq_true (decide (32 ≤ (UInt8.toNat u6 : Int))) with hb7 | hb7
          · have hm := ctrue hb7 hm
            obtain ⟨u7, hx8, hm⟩ := bindS hm
            refine gT (d0 := 45) rfl rfl hb7 (pv (r_mt rfl) (gT (d0 := 45) rfl rfl hb7 (pv (r_sx rfl rfl hx8 underlying9) (gT (d0 := 45) rfl rfl hb7 (pv (r_ib rfl rfl rfl) (pv (r_pkt rfl hb7 rfl) (pv (r_mb rfl) (?_))))))))
            rcases Bool.eq_false_or_eq_true (decide ((UInt8.toNat u7 : Int) ≤ 126)) with hb8 | hb8
            · have hm := ctrue hb8 hm
              obtain ⟨u8, hx9, hm⟩ := bindS hm
              refine gT (d0 := 50) rfl rfl hb8 (pv (r_mt rfl) (gT (d0 := 50) rfl rfl hb8 (pv (r_sx rfl rfl hx9 underlying9) (gT (d0 := 50) rfl rfl hb8 (pv (r_ib rfl rfl rfl) (pv (r_pkt rfl hb8 rfl) (pv (r_mb rfl) (?_))))))))
              rcases Bool.eq_false_or_eq_true ((UInt8.toNat u8 : Int) != 39) with hb9 | hb9
              · have hm := ctrue hb9 hm
                obtain ⟨u9, hx10, hm⟩ := bindS hm
                refine gT (d0 := 55) rfl rfl hb9 (pv (r_mt rfl) (gT (d0 := 55) rfl rfl hb9 (pv (r_sx rfl rfl hx10 underlying9) (gT (d0 := 55) rfl rfl hb9 (pv (r_ib rfl rfl rfl) (pv (r_pkt rfl hb9 rfl) (nil (t_thenR [(0, .string ⟨p0.toArray⟩), (2, pt b1 0), (59, .bool ((UInt8.toNat u9 : Int) != 92))] ⟨rfl, rfl, rfl, trivial⟩ fun J => ?_))))))))
                refine cnd rfl (fun hb10 => ?_) (fun hb10 => ?_)
                · have hm := ctrue hb10 hm
                  refine sq2 (rs [0, 0, 0, 0, 0, 0, 2, 0] [0, 1, 2, 3, 4, 5, 6, 7] mix (by kernel_rfl) hS1.lt fun w5 i1 => ?_)
                  have im5 := i1.imm
                  have hS5 := hS1.keep i1 (fun _ h => h)
                  obtain ⟨u10, hx11, hm⟩ := bindS hm
                  obtain ⟨u11, hx12, hm⟩ := bindS hm
                  refine s0 rfl trivial (fun _ => r_mt rfl) rfl (s0 rfl trivial (fun _ => r_ss rfl rfl ⟨_, rfl⟩ hx11 underlying9) rfl (s0 rfl trivial (fun _ => r_mt rfl) rfl (s0 rfl trivial (fun _ => r_sx rfl rfl hx12 underlying9) rfl (s0 rfl trivial (fun _ => r_cv rfl underlying5 underlying87) rfl (s0 rfl trivial (fun _ => r_bd (by kernel_rfl) rfl (u := .agg #[iv 3, .string ⟨u10.toArray⟩, .int .u32 (IntKind.wrap .u32 (UInt8.toNat u11 : Int)), iv 0, iv 0])) rfl (s2 [] rfl trivial rfl (by kernel_rfl) (st0B (q := 0) hS5 ⟨rfl, rfl⟩ rfl rfl rfl sizeOf89 rfl rfl rfl fun w6 im6 hS6 => ?_)))))))
                  refine ⟨st0, ?_⟩
                  refine s0 rfl trivial (fun _ => r_zi rfl) rfl (se (t_then ?_))
                  have hm := oI hm; subst hm
                  exact rtn (r_then (retN (vs := [.agg #[iv 3, .string ⟨u10.toArray⟩, .int .u32 (IntKind.wrap .u32 (UInt8.toNat u11 : Int)), iv 0, iv 0], iv 0]) rfl ⟨rvS rfl isAgg89 sizeOf89 rfl (hS6.bx (i := 0) ⟨rfl, rfl⟩), rfl, trivial⟩ rfl ⟨_, rfl, _, (iT im1 (iT im5 im6)), ⟨rfl, hS6.sel [1] rfl, trivial⟩⟩))
                have hm := cfalse hb10 hm
                refine skp (t_then ?_)
                refine sq2 (rg (pv (r_bd (by kernel_rfl) rfl (u := .agg #[iv 0, .string ⟨([] : List UInt8).toArray⟩, .int .u32 0, iv 0, iv 0])) (wl rfl (st0B (q := 0) hS1 ⟨rfl, rfl⟩ rfl rfl rfl sizeOf89 rfl rfl rfl fun w7 im7 hS7 => ?_))))
                refine pv (r_zi rfl) (nil (t_then ?_))
                have hm := oI hm; subst hm
                exact rtn (retN (vs := [.agg #[iv 0, .string ⟨([] : List UInt8).toArray⟩, .int .u32 0, iv 0, iv 0], iv 3]) rfl ⟨rvS rfl isAgg89 sizeOf89 rfl (hS7.bx (i := 0) ⟨rfl, rfl⟩), rfl, trivial⟩ rfl ⟨_, rfl, _, (iT im1 im7), ⟨rfl, hS7.sel [1] rfl, trivial⟩⟩)
              have hm := cfalse hb9 hm
              refine gF (d0 := 55) rfl rfl (by rw [hb9]; rfl) (gF (d0 := 55) rfl rfl (by rw [hb9]; rfl) (gF (d0 := 55) rfl rfl (by rw [hb9]; rfl) (pv (r_pkf rfl hb9 rfl) (nil (t_thenR [(0, .string ⟨p0.toArray⟩), (2, pt b1 0), (59, .bool false)] ⟨rfl, rfl, rfl, trivial⟩ fun J => ?_)))))
              refine cnd (b := false) rfl (fun h => nomatch h) (fun _ => ?_)
              refine skp (t_then ?_)
              refine sq2 (rg (pv (r_bd (by kernel_rfl) rfl (u := .agg #[iv 0, .string ⟨([] : List UInt8).toArray⟩, .int .u32 0, iv 0, iv 0])) (wl rfl (st0B (q := 0) hS1 ⟨rfl, rfl⟩ rfl rfl rfl sizeOf89 rfl rfl rfl fun w8 im8 hS8 => ?_))))
              refine pv (r_zi rfl) (nil (t_then ?_))
              have hm := oI hm; subst hm
              exact rtn (retN (vs := [.agg #[iv 0, .string ⟨([] : List UInt8).toArray⟩, .int .u32 0, iv 0, iv 0], iv 3]) rfl ⟨rvS rfl isAgg89 sizeOf89 rfl (hS8.bx (i := 0) ⟨rfl, rfl⟩), rfl, trivial⟩ rfl ⟨_, rfl, _, (iT im1 im8), ⟨rfl, hS8.sel [1] rfl, trivial⟩⟩)
            have hm := cfalse hb8 hm
            refine gF (d0 := 50) rfl rfl (by rw [hb8]; rfl) (gF (d0 := 50) rfl rfl (by rw [hb8]; rfl) (gF (d0 := 50) rfl rfl (by rw [hb8]; rfl) (pv (r_pkf rfl hb8 rfl) (pv (r_mb rfl) (gF (d0 := 55) rfl rfl rfl (gF (d0 := 55) rfl rfl rfl (gF (d0 := 55) rfl rfl rfl (pv (r_pkf rfl rfl rfl) (nil (t_thenR [(0, .string ⟨p0.toArray⟩), (2, pt b1 0), (59, .bool false)] ⟨rfl, rfl, rfl, trivial⟩ fun J => ?_))))))))))
            refine cnd (b := false) rfl (fun h => nomatch h) (fun _ => ?_)
            refine skp (t_then ?_)
            refine sq2 (rg (pv (r_bd (by kernel_rfl) rfl (u := .agg #[iv 0, .string ⟨([] : List UInt8).toArray⟩, .int .u32 0, iv 0, iv 0])) (wl rfl (st0B (q := 0) hS1 ⟨rfl, rfl⟩ rfl rfl rfl sizeOf89 rfl rfl rfl fun w9 im9 hS9 => ?_))))
            refine pv (r_zi rfl) (nil (t_then ?_))
            have hm := oI hm; subst hm
            exact rtn (retN (vs := [.agg #[iv 0, .string ⟨([] : List UInt8).toArray⟩, .int .u32 0, iv 0, iv 0], iv 3]) rfl ⟨rvS rfl isAgg89 sizeOf89 rfl (hS9.bx (i := 0) ⟨rfl, rfl⟩), rfl, trivial⟩ rfl ⟨_, rfl, _, (iT im1 im9), ⟨rfl, hS9.sel [1] rfl, trivial⟩⟩)
          have hm := cfalse hb7 hm
          refine gF (d0 := 45) rfl rfl (by rw [hb7]; rfl) (gF (d0 := 45) rfl rfl (by rw [hb7]; rfl) (gF (d0 := 45) rfl rfl (by rw [hb7]; rfl) (pv (r_pkf rfl hb7 rfl) (pv (r_mb rfl) (gF (d0 := 50) rfl rfl rfl (gF (d0 := 50) rfl rfl rfl (gF (d0 := 50) rfl rfl rfl (pv (r_pkf rfl rfl rfl) (pv (r_mb rfl) (gF (d0 := 55) rfl rfl rfl (gF (d0 := 55) rfl rfl rfl (gF (d0 := 55) rfl rfl rfl (pv (r_pkf rfl rfl rfl) (nil (t_thenR [(0, .string ⟨p0.toArray⟩), (2, pt b1 0), (59, .bool false)] ⟨rfl, rfl, rfl, trivial⟩ fun J => ?_)))))))))))))))
          refine cnd (b := false) rfl (fun h => nomatch h) (fun _ => ?_)
          refine skp (t_then ?_)
          refine sq2 (rg (pv (r_bd (by kernel_rfl) rfl (u := .agg #[iv 0, .string ⟨([] : List UInt8).toArray⟩, .int .u32 0, iv 0, iv 0])) (wl rfl (st0B (q := 0) hS1 ⟨rfl, rfl⟩ rfl rfl rfl sizeOf89 rfl rfl rfl fun w10 im10 hS10 => ?_))))
          refine pv (r_zi rfl) (nil (t_then ?_))
          have hm := oI hm; subst hm
          exact rtn (retN (vs := [.agg #[iv 0, .string ⟨([] : List UInt8).toArray⟩, .int .u32 0, iv 0, iv 0], iv 3]) rfl ⟨rvS rfl isAgg89 sizeOf89 rfl (hS10.bx (i := 0) ⟨rfl, rfl⟩), rfl, trivial⟩ rfl ⟨_, rfl, _, (iT im1 im10), ⟨rfl, hS10.sel [1] rfl, trivial⟩⟩)
        have hm := cfalse hb6 hm
        refine gF (d0 := 40) rfl rfl (by rw [hb6]; rfl) (gF (d0 := 40) rfl rfl (by rw [hb6]; rfl) (gF (d0 := 40) rfl rfl (by rw [hb6]; rfl) (pv (r_pkf rfl hb6 rfl) (pv (r_mb rfl) (gF (d0 := 45) rfl rfl rfl (gF (d0 := 45) rfl rfl rfl (gF (d0 := 45) rfl rfl rfl (pv (r_pkf rfl rfl rfl) (pv (r_mb rfl) (gF (d0 := 50) rfl rfl rfl (gF (d0 := 50) rfl rfl rfl (gF (d0 := 50) rfl rfl rfl (pv (r_pkf rfl rfl rfl) (pv (r_mb rfl) (gF (d0 := 55) rfl rfl rfl (gF (d0 := 55) rfl rfl rfl (gF (d0 := 55) rfl rfl rfl (pv (r_pkf rfl rfl rfl) (nil (t_thenR [(0, .string ⟨p0.toArray⟩), (2, pt b1 0), (59, .bool false)] ⟨rfl, rfl, rfl, trivial⟩ fun J => ?_))))))))))))))))))))
        refine cnd (b := false) rfl (fun h => nomatch h) (fun _ => ?_)
        refine skp (t_then ?_)
        refine sq2 (rg (pv (r_bd (by kernel_rfl) rfl (u := .agg #[iv 0, .string ⟨([] : List UInt8).toArray⟩, .int .u32 0, iv 0, iv 0])) (wl rfl (st0B (q := 0) hS1 ⟨rfl, rfl⟩ rfl rfl rfl sizeOf89 rfl rfl rfl fun w11 im11 hS11 => ?_))))
        refine pv (r_zi rfl) (nil (t_then ?_))
        have hm := oI hm; subst hm
        exact rtn (retN (vs := [.agg #[iv 0, .string ⟨([] : List UInt8).toArray⟩, .int .u32 0, iv 0, iv 0], iv 3]) rfl ⟨rvS rfl isAgg89 sizeOf89 rfl (hS11.bx (i := 0) ⟨rfl, rfl⟩), rfl, trivial⟩ rfl ⟨_, rfl, _, (iT im1 im11), ⟨rfl, hS11.sel [1] rfl, trivial⟩⟩)
      have hm := cfalse hb5 hm
      refine gF (d0 := 35) rfl rfl (by rw [hb5]; rfl) (gF (d0 := 35) rfl rfl (by rw [hb5]; rfl) (gF (d0 := 35) rfl rfl (by rw [hb5]; rfl) (pv (r_pkf rfl hb5 rfl) (pv (r_mb rfl) (gF (d0 := 40) rfl rfl rfl (gF (d0 := 40) rfl rfl rfl (gF (d0 := 40) rfl rfl rfl (pv (r_pkf rfl rfl rfl) (pv (r_mb rfl) (gF (d0 := 45) rfl rfl rfl (gF (d0 := 45) rfl rfl rfl (gF (d0 := 45) rfl rfl rfl (pv (r_pkf rfl rfl rfl) (pv (r_mb rfl) (gF (d0 := 50) rfl rfl rfl (gF (d0 := 50) rfl rfl rfl (gF (d0 := 50) rfl rfl rfl (pv (r_pkf rfl rfl rfl) (pv (r_mb rfl) (gF (d0 := 55) rfl rfl rfl (gF (d0 := 55) rfl rfl rfl (gF (d0 := 55) rfl rfl rfl (pv (r_pkf rfl rfl rfl) (nil (t_thenR [(0, .string ⟨p0.toArray⟩), (2, pt b1 0), (59, .bool false)] ⟨rfl, rfl, rfl, trivial⟩ fun J => ?_)))))))))))))))))))))))))
      refine cnd (b := false) rfl (fun h => nomatch h) (fun _ => ?_)
      refine skp (t_then ?_)
      refine sq2 (rg (pv (r_bd (by kernel_rfl) rfl (u := .agg #[iv 0, .string ⟨([] : List UInt8).toArray⟩, .int .u32 0, iv 0, iv 0])) (wl rfl (st0B (q := 0) hS1 ⟨rfl, rfl⟩ rfl rfl rfl sizeOf89 rfl rfl rfl fun w12 im12 hS12 => ?_))))
      refine pv (r_zi rfl) (nil (t_then ?_))
      have hm := oI hm; subst hm
      exact rtn (retN (vs := [.agg #[iv 0, .string ⟨([] : List UInt8).toArray⟩, .int .u32 0, iv 0, iv 0], iv 3]) rfl ⟨rvS rfl isAgg89 sizeOf89 rfl (hS12.bx (i := 0) ⟨rfl, rfl⟩), rfl, trivial⟩ rfl ⟨_, rfl, _, (iT im1 im12), ⟨rfl, hS12.sel [1] rfl, trivial⟩⟩)
    have hm := cfalse hb2 hm
    refine gF (d0 := 14) rfl rfl (by rw [hb2]; rfl) (gF (d0 := 14) rfl rfl (by rw [hb2]; rfl) (gF (d0 := 14) rfl rfl (by rw [hb2]; rfl) (pv (r_pkf rfl hb2 rfl) (nil (t_then ?_)))))
    refine cnd (b := false) rfl (fun h => nomatch h) (fun _ => ?_)
    refine skp (t_then ?_)
    refine sq2 (sq2 (rg (pv (r_mt rfl) (pv (r_lnt rfl underlying9) (pv (r_ib rfl rfl rfl) (pv (r_mb rfl) (?_)))))))
    rcases Bool.eq_false_or_eq_true (decide (3 ≤ (List.length p0 : Int))) with hb17 | hb17
    · have hm := ctrue hb17 hm
      obtain ⟨u12, hx13, hm⟩ := bindS hm
      refine gT (d0 := 35) rfl rfl hb17 (pv (r_mt rfl) (gT (d0 := 35) rfl rfl hb17 (pv (r_sx rfl rfl hx13 underlying9) (gT (d0 := 35) rfl rfl hb17 (pv (r_ib rfl rfl rfl) (pv (r_pkt rfl hb17 rfl) (pv (r_mb rfl) (?_))))))))
      rcases Bool.eq_false_or_eq_true ((UInt8.toNat u12 : Int) == 39) with hb18 | hb18
      · have hm := ctrue hb18 hm
        obtain ⟨u13, hx14, hm⟩ := bindS hm
        refine gT (d0 := 40) rfl rfl hb18 (pv (r_mt rfl) (gT (d0 := 40) rfl rfl hb18 (pv (r_sx rfl rfl hx14 underlying9) (gT (d0 := 40) rfl rfl hb18 (pv (r_ib rfl rfl rfl) (pv (r_pkt rfl hb18 rfl) (pv (r_mb rfl) (?_))))))))
        rcases Bool.eq_false_or_eq_true (decide (32 ≤ (UInt8.toNat u13 : Int))) with hb19 | hb19
        · have hm := ctrue hb19 hm
          obtain ⟨u14, hx15, hm⟩ := bindS hm
          refine gT (d0 := 45) rfl rfl hb19 (pv (r_mt rfl) (gT (d0 := 45) rfl rfl hb19 (pv (r_sx rfl rfl hx15 underlying9) (gT (d0 := 45) rfl rfl hb19 (pv (r_ib rfl rfl rfl) (pv (r_pkt rfl hb19 rfl) (pv (r_mb rfl) (?_))))))))
          rcases Bool.eq_false_or_eq_true (decide ((UInt8.toNat u14 : Int) ≤ 126)) with hb20 | hb20
          · have hm := ctrue hb20 hm
            obtain ⟨u15, hx16, hm⟩ := bindS hm
            refine gT (d0 := 50) rfl rfl hb20 (pv (r_mt rfl) (gT (d0 := 50) rfl rfl hb20 (pv (r_sx rfl rfl hx16 underlying9) (gT (d0 := 50) rfl rfl hb20 (pv (r_ib rfl rfl rfl) (pv (r_pkt rfl hb20 rfl) (pv (r_mb rfl) (?_))))))))
            rcases Bool.eq_false_or_eq_true ((UInt8.toNat u15 : Int) != 39) with hb21 | hb21
            · have hm := ctrue hb21 hm
              obtain ⟨u16, hx17, hm⟩ := bindS hm
              refine gT (d0 := 55) rfl rfl hb21 (pv (r_mt rfl) (gT (d0 := 55) rfl rfl hb21 (pv (r_sx rfl rfl hx17 underlying9) (gT (d0 := 55) rfl rfl hb21 (pv (r_ib rfl rfl rfl) (pv (r_pkt rfl hb21 rfl) (nil (t_thenR [(0, .string ⟨p0.toArray⟩), (2, pt b1 0), (59, .bool ((UInt8.toNat u16 : Int) != 92))] ⟨rfl, rfl, rfl, trivial⟩ fun J => ?_))))))))
              refine cnd rfl (fun hb22 => ?_) (fun hb22 => ?_)
              · have hm := ctrue hb22 hm
                refine sq2 (rs [0, 0, 0, 0, 0, 0, 2, 0] [0, 1, 2, 3, 4, 5, 6, 7] mix (by kernel_rfl) hS1.lt fun w13 i2 => ?_)
                have im13 := i2.imm
                have hS13 := hS1.keep i2 (fun _ h => h)
                obtain ⟨u17, hx18, hm⟩ := bindS hm
                obtain ⟨u18, hx19, hm⟩ := bindS hm
                refine s0 rfl trivial (fun _ => r_mt rfl) rfl (s0 rfl trivial (fun _ => r_ss rfl rfl ⟨_, rfl⟩ hx18 underlying9) rfl (s0 rfl trivial (fun _ => r_mt rfl) rfl (s0 rfl trivial (fun _ => r_sx rfl rfl hx19 underlying9) rfl (s0 rfl trivial (fun _ => r_cv rfl underlying5 underlying87) rfl (s0 rfl trivial (fun _ => r_bd (by kernel_rfl) rfl (u := .agg #[iv 3, .string ⟨u17.toArray⟩, .int .u32 (IntKind.wrap .u32 (UInt8.toNat u18 : Int)), iv 0, iv 0])) rfl (s2 [] rfl trivial rfl (by kernel_rfl) (st0B (q := 0) hS13 ⟨rfl, rfl⟩ rfl rfl rfl sizeOf89 rfl rfl rfl fun w14 im14 hS14 => ?_)))))))
                refine ⟨st0, ?_⟩
                refine s0 rfl trivial (fun _ => r_zi rfl) rfl (se (t_then ?_))
                have hm := oI hm; subst hm
                exact rtn (r_then (retN (vs := [.agg #[iv 3, .string ⟨u17.toArray⟩, .int .u32 (IntKind.wrap .u32 (UInt8.toNat u18 : Int)), iv 0, iv 0], iv 0]) rfl ⟨rvS rfl isAgg89 sizeOf89 rfl (hS14.bx (i := 0) ⟨rfl, rfl⟩), rfl, trivial⟩ rfl ⟨_, rfl, _, (iT im1 (iT im13 im14)), ⟨rfl, hS14.sel [1] rfl, trivial⟩⟩))
              have hm := cfalse hb22 hm
              refine skp (t_then ?_)
              refine sq2 (rg (pv (r_bd (by kernel_rfl) rfl (u := .agg #[iv 0, .string ⟨([] : List UInt8).toArray⟩, .int .u32 0, iv 0, iv 0])) (wl rfl (st0B (q := 0) hS1 ⟨rfl, rfl⟩ rfl rfl rfl sizeOf89 rfl rfl rfl fun w15 im15 hS15 => ?_))))
              refine pv (r_zi rfl) (nil (t_then ?_))
              have hm := oI hm; subst hm
              exact rtn (retN (vs := [.agg #[iv 0, .string ⟨([] : List UInt8).toArray⟩, .int .u32 0, iv 0, iv 0], iv 3]) rfl ⟨rvS rfl isAgg89 sizeOf89 rfl (hS15.bx (i := 0) ⟨rfl, rfl⟩), rfl, trivial⟩ rfl ⟨_, rfl, _, (iT im1 im15), ⟨rfl, hS15.sel [1] rfl, trivial⟩⟩)
            have hm := cfalse hb21 hm
            refine gF (d0 := 55) rfl rfl (by rw [hb21]; rfl) (gF (d0 := 55) rfl rfl (by rw [hb21]; rfl) (gF (d0 := 55) rfl rfl (by rw [hb21]; rfl) (pv (r_pkf rfl hb21 rfl) (nil (t_thenR [(0, .string ⟨p0.toArray⟩), (2, pt b1 0), (59, .bool false)] ⟨rfl, rfl, rfl, trivial⟩ fun J => ?_)))))
            refine cnd (b := false) rfl (fun h => nomatch h) (fun _ => ?_)
            refine skp (t_then ?_)
            refine sq2 (rg (pv (r_bd (by kernel_rfl) rfl (u := .agg #[iv 0, .string ⟨([] : List UInt8).toArray⟩, .int .u32 0, iv 0, iv 0])) (wl rfl (st0B (q := 0) hS1 ⟨rfl, rfl⟩ rfl rfl rfl sizeOf89 rfl rfl rfl fun w16 im16 hS16 => ?_))))
            refine pv (r_zi rfl) (nil (t_then ?_))
            have hm := oI hm; subst hm
            exact rtn (retN (vs := [.agg #[iv 0, .string ⟨([] : List UInt8).toArray⟩, .int .u32 0, iv 0, iv 0], iv 3]) rfl ⟨rvS rfl isAgg89 sizeOf89 rfl (hS16.bx (i := 0) ⟨rfl, rfl⟩), rfl, trivial⟩ rfl ⟨_, rfl, _, (iT im1 im16), ⟨rfl, hS16.sel [1] rfl, trivial⟩⟩)
          have hm := cfalse hb20 hm
          refine gF (d0 := 50) rfl rfl (by rw [hb20]; rfl) (gF (d0 := 50) rfl rfl (by rw [hb20]; rfl) (gF (d0 := 50) rfl rfl (by rw [hb20]; rfl) (pv (r_pkf rfl hb20 rfl) (pv (r_mb rfl) (gF (d0 := 55) rfl rfl rfl (gF (d0 := 55) rfl rfl rfl (gF (d0 := 55) rfl rfl rfl (pv (r_pkf rfl rfl rfl) (nil (t_thenR [(0, .string ⟨p0.toArray⟩), (2, pt b1 0), (59, .bool false)] ⟨rfl, rfl, rfl, trivial⟩ fun J => ?_))))))))))
          refine cnd (b := false) rfl (fun h => nomatch h) (fun _ => ?_)
          refine skp (t_then ?_)
          refine sq2 (rg (pv (r_bd (by kernel_rfl) rfl (u := .agg #[iv 0, .string ⟨([] : List UInt8).toArray⟩, .int .u32 0, iv 0, iv 0])) (wl rfl (st0B (q := 0) hS1 ⟨rfl, rfl⟩ rfl rfl rfl sizeOf89 rfl rfl rfl fun w17 im17 hS17 => ?_))))
          refine pv (r_zi rfl) (nil (t_then ?_))
          have hm := oI hm; subst hm
          exact rtn (retN (vs := [.agg #[iv 0, .string ⟨([] : List UInt8).toArray⟩, .int .u32 0, iv 0, iv 0], iv 3]) rfl ⟨rvS rfl isAgg89 sizeOf89 rfl (hS17.bx (i := 0) ⟨rfl, rfl⟩), rfl, trivial⟩ rfl ⟨_, rfl, _, (iT im1 im17), ⟨rfl, hS17.sel [1] rfl, trivial⟩⟩)
        have hm := cfalse hb19 hm
        refine gF (d0 := 45) rfl rfl (by rw [hb19]; rfl) (gF (d0 := 45) rfl rfl (by rw [hb19]; rfl) (gF (d0 := 45) rfl rfl (by rw [hb19]; rfl) (pv (r_pkf rfl hb19 rfl) (pv (r_mb rfl) (gF (d0 := 50) rfl rfl rfl (gF (d0 := 50) rfl rfl rfl (gF (d0 := 50) rfl rfl rfl (pv (r_pkf rfl rfl rfl) (pv (r_mb rfl) (gF (d0 := 55) rfl rfl rfl (gF (d0 := 55) rfl rfl rfl (gF (d0 := 55) rfl rfl rfl (pv (r_pkf rfl rfl rfl) (nil (t_thenR [(0, .string ⟨p0.toArray⟩), (2, pt b1 0), (59, .bool false)] ⟨rfl, rfl, rfl, trivial⟩ fun J => ?_)))))))))))))))
        refine cnd (b := false) rfl (fun h => nomatch h) (fun _ => ?_)
        refine skp (t_then ?_)
        refine sq2 (rg (pv (r_bd (by kernel_rfl) rfl (u := .agg #[iv 0, .string ⟨([] : List UInt8).toArray⟩, .int .u32 0, iv 0, iv 0])) (wl rfl (st0B (q := 0) hS1 ⟨rfl, rfl⟩ rfl rfl rfl sizeOf89 rfl rfl rfl fun w18 im18 hS18 => ?_))))
        refine pv (r_zi rfl) (nil (t_then ?_))
        have hm := oI hm; subst hm
        exact rtn (retN (vs := [.agg #[iv 0, .string ⟨([] : List UInt8).toArray⟩, .int .u32 0, iv 0, iv 0], iv 3]) rfl ⟨rvS rfl isAgg89 sizeOf89 rfl (hS18.bx (i := 0) ⟨rfl, rfl⟩), rfl, trivial⟩ rfl ⟨_, rfl, _, (iT im1 im18), ⟨rfl, hS18.sel [1] rfl, trivial⟩⟩)
      have hm := cfalse hb18 hm
      refine gF (d0 := 40) rfl rfl (by rw [hb18]; rfl) (gF (d0 := 40) rfl rfl (by rw [hb18]; rfl) (gF (d0 := 40) rfl rfl (by rw [hb18]; rfl) (pv (r_pkf rfl hb18 rfl) (pv (r_mb rfl) (gF (d0 := 45) rfl rfl rfl (gF (d0 := 45) rfl rfl rfl (gF (d0 := 45) rfl rfl rfl (pv (r_pkf rfl rfl rfl) (pv (r_mb rfl) (gF (d0 := 50) rfl rfl rfl (gF (d0 := 50) rfl rfl rfl (gF (d0 := 50) rfl rfl rfl (pv (r_pkf rfl rfl rfl) (pv (r_mb rfl) (gF (d0 := 55) rfl rfl rfl (gF (d0 := 55) rfl rfl rfl (gF (d0 := 55) rfl rfl rfl (pv (r_pkf rfl rfl rfl) (nil (t_thenR [(0, .string ⟨p0.toArray⟩), (2, pt b1 0), (59, .bool false)] ⟨rfl, rfl, rfl, trivial⟩ fun J => ?_))))))))))))))))))))
      refine cnd (b := false) rfl (fun h => nomatch h) (fun _ => ?_)
      refine skp (t_then ?_)
      refine sq2 (rg (pv (r_bd (by kernel_rfl) rfl (u := .agg #[iv 0, .string ⟨([] : List UInt8).toArray⟩, .int .u32 0, iv 0, iv 0])) (wl rfl (st0B (q := 0) hS1 ⟨rfl, rfl⟩ rfl rfl rfl sizeOf89 rfl rfl rfl fun w19 im19 hS19 => ?_))))
      refine pv (r_zi rfl) (nil (t_then ?_))
      have hm := oI hm; subst hm
      exact rtn (retN (vs := [.agg #[iv 0, .string ⟨([] : List UInt8).toArray⟩, .int .u32 0, iv 0, iv 0], iv 3]) rfl ⟨rvS rfl isAgg89 sizeOf89 rfl (hS19.bx (i := 0) ⟨rfl, rfl⟩), rfl, trivial⟩ rfl ⟨_, rfl, _, (iT im1 im19), ⟨rfl, hS19.sel [1] rfl, trivial⟩⟩)
    have hm := cfalse hb17 hm
    refine gF (d0 := 35) rfl rfl (by rw [hb17]; rfl) (gF (d0 := 35) rfl rfl (by rw [hb17]; rfl) (gF (d0 := 35) rfl rfl (by rw [hb17]; rfl) (pv (r_pkf rfl hb17 rfl) (pv (r_mb rfl) (gF (d0 := 40) rfl rfl rfl (gF (d0 := 40) rfl rfl rfl (gF (d0 := 40) rfl rfl rfl (pv (r_pkf rfl rfl rfl) (pv (r_mb rfl) (gF (d0 := 45) rfl rfl rfl (gF (d0 := 45) rfl rfl rfl (gF (d0 := 45) rfl rfl rfl (pv (r_pkf rfl rfl rfl) (pv (r_mb rfl) (gF (d0 := 50) rfl rfl rfl (gF (d0 := 50) rfl rfl rfl (gF (d0 := 50) rfl rfl rfl (pv (r_pkf rfl rfl rfl) (pv (r_mb rfl) (gF (d0 := 55) rfl rfl rfl (gF (d0 := 55) rfl rfl rfl (gF (d0 := 55) rfl rfl rfl (pv (r_pkf rfl rfl rfl) (nil (t_thenR [(0, .string ⟨p0.toArray⟩), (2, pt b1 0), (59, .bool false)] ⟨rfl, rfl, rfl, trivial⟩ fun J => ?_)))))))))))))))))))))))))
    refine cnd (b := false) rfl (fun h => nomatch h) (fun _ => ?_)
    refine skp (t_then ?_)
    refine sq2 (rg (pv (r_bd (by kernel_rfl) rfl (u := .agg #[iv 0, .string ⟨([] : List UInt8).toArray⟩, .int .u32 0, iv 0, iv 0])) (wl rfl (st0B (q := 0) hS1 ⟨rfl, rfl⟩ rfl rfl rfl sizeOf89 rfl rfl rfl fun w20 im20 hS20 => ?_))))
    refine pv (r_zi rfl) (nil (t_then ?_))
    have hm := oI hm; subst hm
    exact rtn (retN (vs := [.agg #[iv 0, .string ⟨([] : List UInt8).toArray⟩, .int .u32 0, iv 0, iv 0], iv 3]) rfl ⟨rvS rfl isAgg89 sizeOf89 rfl (hS20.bx (i := 0) ⟨rfl, rfl⟩), rfl, trivial⟩ rfl ⟨_, rfl, _, (iT im1 im20), ⟨rfl, hS20.sel [1] rfl, trivial⟩⟩)
  have hm := cfalse hb1 hm
  refine gF (d0 := 9) rfl rfl (by rw [hb1]; rfl) (gF (d0 := 9) rfl rfl (by rw [hb1]; rfl) (gF (d0 := 9) rfl rfl (by rw [hb1]; rfl) (pv (r_pkf rfl hb1 rfl) (pv (r_mb rfl) (gF (d0 := 14) rfl rfl rfl (gF (d0 := 14) rfl rfl rfl (gF (d0 := 14) rfl rfl rfl (pv (r_pkf rfl rfl rfl) (nil (t_then ?_))))))))))
  refine cnd (b := false) rfl (fun h => nomatch h) (fun _ => ?_)
  refine skp (t_then ?_)
  refine sq2 (sq2 (rg (pv (r_mt rfl) (pv (r_lnt rfl underlying9) (pv (r_ib rfl rfl rfl) (pv (r_mb rfl) (?_)))))))
  rcases Bool.eq_false_or_eq_true (decide (3 ≤ (List.length p0 : Int))) with hb29 | hb29
  · have hm := ctrue hb29 hm
    obtain ⟨u19, hx20, hm⟩ := bindS hm
    refine gT (d0 := 35) rfl rfl hb29 (pv (r_mt rfl) (gT (d0 := 35) rfl rfl hb29 (pv (r_sx rfl rfl hx20 underlying9) (gT (d0 := 35) rfl rfl hb29 (pv (r_ib rfl rfl rfl) (pv (r_pkt rfl hb29 rfl) (pv (r_mb rfl) (?_))))))))
    rcases Bool.eq_false_or_eq_true ((UInt8.toNat u19 : Int) == 39) with hb30 | hb30
    · have hm := ctrue hb30 hm
      obtain ⟨u20, hx21, hm⟩ := bindS hm
      refine gT (d0 := 40) rfl rfl hb30 (pv (r_mt rfl) (gT (d0 := 40) rfl rfl hb30 (pv (r_sx rfl rfl hx21 underlying9) (gT (d0 := 40) rfl rfl hb30 (pv (r_ib rfl rfl rfl) (pv (r_pkt rfl hb30 rfl) (pv (r_mb rfl) (?_))))))))
      rcases Bool.eq_false_or_eq_true (decide (32 ≤ (UInt8.toNat u20 : Int))) with hb31 | hb31
      · have hm := ctrue hb31 hm
        obtain ⟨u21, hx22, hm⟩ := bindS hm
        refine gT (d0 := 45) rfl rfl hb31 (pv (r_mt rfl) (gT (d0 := 45) rfl rfl hb31 (pv (r_sx rfl rfl hx22 underlying9) (gT (d0 := 45) rfl rfl hb31 (pv (r_ib rfl rfl rfl) (pv (r_pkt rfl hb31 rfl) (pv (r_mb rfl) (?_))))))))
        rcases Bool.eq_false_or_eq_true (decide ((UInt8.toNat u21 : Int) ≤ 126)) with hb32 | hb32
        · have hm := ctrue hb32 hm
          obtain ⟨u22, hx23, hm⟩ := bindS hm
          refine gT (d0 := 50) rfl rfl hb32 (pv (r_mt rfl) (gT (d0 := 50) rfl rfl hb32 (pv (r_sx rfl rfl hx23 underlying9) (gT (d0 := 50) rfl rfl hb32 (pv (r_ib rfl rfl rfl) (pv (r_pkt rfl hb32 rfl) (pv (r_mb rfl) (?_))))))))
          rcases Bool.eq_false_or_eq_true ((UInt8.toNat u22 : Int) != 39) with hb33 | hb33
          · have hm := ctrue hb33 hm
            obtain ⟨u23, hx24, hm⟩ := bindS hm
            refine gT (d0 := 55) rfl rfl hb33 (pv (r_mt rfl) (gT (d0 := 55) rfl rfl hb33 (pv (r_sx rfl rfl hx24 underlying9) (gT (d0 := 55) rfl rfl hb33 (pv (r_ib rfl rfl rfl) (pv (r_pkt rfl hb33 rfl) (nil (t_thenR [(0, .string ⟨p0.toArray⟩), (2, pt b1 0), (59, .bool ((UInt8.toNat u23 : Int) != 92))] ⟨rfl, rfl, rfl, trivial⟩ fun J => ?_))))))))
            refine cnd rfl (fun hb34 => ?_) (fun hb34 => ?_)
            · have hm := ctrue hb34 hm
              refine sq2 (rs [0, 0, 0, 0, 0, 0, 2, 0] [0, 1, 2, 3, 4, 5, 6, 7] mix (by kernel_rfl) hS1.lt fun w21 i3 => ?_)
              have im21 := i3.imm
              have hS21 := hS1.keep i3 (fun _ h => h)
              obtain ⟨u24, hx25, hm⟩ := bindS hm
              obtain ⟨u25, hx26, hm⟩ := bindS hm
              refine s0 rfl trivial (fun _ => r_mt rfl) rfl (s0 rfl trivial (fun _ => r_ss rfl rfl ⟨_, rfl⟩ hx25 underlying9) rfl (s0 rfl trivial (fun _ => r_mt rfl) rfl (s0 rfl trivial (fun _ => r_sx rfl rfl hx26 underlying9) rfl (s0 rfl trivial (fun _ => r_cv rfl underlying5 underlying87) rfl (s0 rfl trivial (fun _ => r_bd (by kernel_rfl) rfl (u := .agg #[iv 3, .string ⟨u24.toArray⟩, .int .u32 (IntKind.wrap .u32 (UInt8.toNat u25 : Int)), iv 0, iv 0])) rfl (s2 [] rfl trivial rfl (by kernel_rfl) (st0B (q := 0) hS21 ⟨rfl, rfl⟩ rfl rfl rfl sizeOf89 rfl rfl rfl fun w22 im22 hS22 => ?_)))))))
              refine ⟨st0, ?_⟩
              refine s0 rfl trivial (fun _ => r_zi rfl) rfl (se (t_then ?_))
              have hm := oI hm; subst hm
              exact rtn (r_then (retN (vs := [.agg #[iv 3, .string ⟨u24.toArray⟩, .int .u32 (IntKind.wrap .u32 (UInt8.toNat u25 : Int)), iv 0, iv 0], iv 0]) rfl ⟨rvS rfl isAgg89 sizeOf89 rfl (hS22.bx (i := 0) ⟨rfl, rfl⟩), rfl, trivial⟩ rfl ⟨_, rfl, _, (iT im1 (iT im21 im22)), ⟨rfl, hS22.sel [1] rfl, trivial⟩⟩))
            have hm := cfalse hb34 hm
            refine skp (t_then ?_)
            refine sq2 (rg (pv (r_bd (by kernel_rfl) rfl (u := .agg #[iv 0, .string ⟨([] : List UInt8).toArray⟩, .int .u32 0, iv 0, iv 0])) (wl rfl (st0B (q := 0) hS1 ⟨rfl, rfl⟩ rfl rfl rfl sizeOf89 rfl rfl rfl fun w23 im23 hS23 => ?_))))
            refine pv (r_zi rfl) (nil (t_then ?_))
            have hm := oI hm; subst hm
            exact rtn (retN (vs := [.agg #[iv 0, .string ⟨([] : List UInt8).toArray⟩, .int .u32 0, iv 0, iv 0], iv 3]) rfl ⟨rvS rfl isAgg89 sizeOf89 rfl (hS23.bx (i := 0) ⟨rfl, rfl⟩), rfl, trivial⟩ rfl ⟨_, rfl, _, (iT im1 im23), ⟨rfl, hS23.sel [1] rfl, trivial⟩⟩)
          have hm := cfalse hb33 hm
          refine gF (d0 := 55) rfl rfl (by rw [hb33]; rfl) (gF (d0 := 55) rfl rfl (by rw [hb33]; rfl) (gF (d0 := 55) rfl rfl (by rw [hb33]; rfl) (pv (r_pkf rfl hb33 rfl) (nil (t_thenR [(0, .string ⟨p0.toArray⟩), (2, pt b1 0), (59, .bool false)] ⟨rfl, rfl, rfl, trivial⟩ fun J => ?_)))))
          refine cnd (b := false) rfl (fun h => nomatch h) (fun _ => ?_)
          refine skp (t_then ?_)
          refine sq2 (rg (pv (r_bd (by kernel_rfl) rfl (u := .agg #[iv 0, .string ⟨([] : List UInt8).toArray⟩, .int .u32 0, iv 0, iv 0])) (wl rfl (st0B (q := 0) hS1 ⟨rfl, rfl⟩ rfl rfl rfl sizeOf89 rfl rfl rfl fun w24 im24 hS24 => ?_))))
          refine pv (r_zi rfl) (nil (t_then ?_))
          have hm := oI hm; subst hm
          exact rtn (retN (vs := [.agg #[iv 0, .string ⟨([] : List UInt8).toArray⟩, .int .u32 0, iv 0, iv 0], iv 3]) rfl ⟨rvS rfl isAgg89 sizeOf89 rfl (hS24.bx (i := 0) ⟨rfl, rfl⟩), rfl, trivial⟩ rfl ⟨_, rfl, _, (iT im1 im24), ⟨rfl, hS24.sel [1] rfl, trivial⟩⟩)
        have hm := cfalse hb32 hm
        refine gF (d0 := 50) rfl rfl (by rw [hb32]; rfl) (gF (d0 := 50) rfl rfl (by rw [hb32]; rfl) (gF (d0 := 50) rfl rfl (by rw [hb32]; rfl) (pv (r_pkf rfl hb32 rfl) (pv (r_mb rfl) (gF (d0 := 55) rfl rfl rfl (gF (d0 := 55) rfl rfl rfl (gF (d0 := 55) rfl rfl rfl (pv (r_pkf rfl rfl rfl) (nil (t_thenR [(0, .string ⟨p0.toArray⟩), (2, pt b1 0), (59, .bool false)] ⟨rfl, rfl, rfl, trivial⟩ fun J => ?_))))))))))
        refine cnd (b := false) rfl (fun h => nomatch h) (fun _ => ?_)
        refine skp (t_then ?_)
        refine sq2 (rg (pv (r_bd (by kernel_rfl) rfl (u := .agg #[iv 0, .string ⟨([] : List UInt8).toArray⟩, .int .u32 0, iv 0, iv 0])) (wl rfl (st0B (q := 0) hS1 ⟨rfl, rfl⟩ rfl rfl rfl sizeOf89 rfl rfl rfl fun w25 im25 hS25 => ?_))))
        refine pv (r_zi rfl) (nil (t_then ?_))
        have hm := oI hm; subst hm
        exact rtn (retN (vs := [.agg #[iv 0, .string ⟨([] : List UInt8).toArray⟩, .int .u32 0, iv 0, iv 0], iv 3]) rfl ⟨rvS rfl isAgg89 sizeOf89 rfl (hS25.bx (i := 0) ⟨rfl, rfl⟩), rfl, trivial⟩ rfl ⟨_, rfl, _, (iT im1 im25), ⟨rfl, hS25.sel [1] rfl, trivial⟩⟩)
      have hm := cfalse hb31 hm
      refine gF (d0 := 45) rfl rfl (by rw [hb31]; rfl) (gF (d0 := 45) rfl rfl (by rw [hb31]; rfl) (gF (d0 := 45) rfl rfl (by rw [hb31]; rfl) (pv (r_pkf rfl hb31 rfl) (pv (r_mb rfl) (gF (d0 := 50) rfl rfl rfl (gF (d0 := 50) rfl rfl rfl (gF (d0 := 50) rfl rfl rfl (pv (r_pkf rfl rfl rfl) (pv (r_mb rfl) (gF (d0 := 55) rfl rfl rfl (gF (d0 := 55) rfl rfl rfl (gF (d0 := 55) rfl rfl rfl (pv (r_pkf rfl rfl rfl) (nil (t_thenR [(0, .string ⟨p0.toArray⟩), (2, pt b1 0), (59, .bool false)] ⟨rfl, rfl, rfl, trivial⟩ fun J => ?_)))))))))))))))
      refine cnd (b := false) rfl (fun h => nomatch h) (fun _ => ?_)
      refine skp (t_then ?_)
      refine sq2 (rg (pv (r_bd (by kernel_rfl) rfl (u := .agg #[iv 0, .string ⟨([] : List UInt8).toArray⟩, .int .u32 0, iv 0, iv 0])) (wl rfl (st0B (q := 0) hS1 ⟨rfl, rfl⟩ rfl rfl rfl sizeOf89 rfl rfl rfl fun w26 im26 hS26 => ?_))))
      refine pv (r_zi rfl) (nil (t_then ?_))
      have hm := oI hm; subst hm
      exact rtn (retN (vs := [.agg #[iv 0, .string ⟨([] : List UInt8).toArray⟩, .int .u32 0, iv 0, iv 0], iv 3]) rfl ⟨rvS rfl isAgg89 sizeOf89 rfl (hS26.bx (i := 0) ⟨rfl, rfl⟩), rfl, trivial⟩ rfl ⟨_, rfl, _, (iT im1 im26), ⟨rfl, hS26.sel [1] rfl, trivial⟩⟩)
    have hm := cfalse hb30 hm
    refine gF (d0 := 40) rfl rfl (by rw [hb30]; rfl) (gF (d0 := 40) rfl rfl (by rw [hb30]; rfl) (gF (d0 := 40) rfl rfl (by rw [hb30]; rfl) (pv (r_pkf rfl hb30 rfl) (pv (r_mb rfl) (gF (d0 := 45) rfl rfl rfl (gF (d0 := 45) rfl rfl rfl (gF (d0 := 45) rfl rfl rfl (pv (r_pkf rfl rfl rfl) (pv (r_mb rfl) (gF (d0 := 50) rfl rfl rfl (gF (d0 := 50) rfl rfl rfl (gF (d0 := 50) rfl rfl rfl (pv (r_pkf rfl rfl rfl) (pv (r_mb rfl) (gF (d0 := 55) rfl rfl rfl (gF (d0 := 55) rfl rfl rfl (gF (d0 := 55) rfl rfl rfl (pv (r_pkf rfl rfl rfl) (nil (t_thenR [(0, .string ⟨p0.toArray⟩), (2, pt b1 0), (59, .bool false)] ⟨rfl, rfl, rfl, trivial⟩ fun J => ?_))))))))))))))))))))
    refine cnd (b := false) rfl (fun h => nomatch h) (fun _ => ?_)
    refine skp (t_then ?_)
    refine sq2 (rg (pv (r_bd (by kernel_rfl) rfl (u := .agg #[iv 0, .string ⟨([] : List UInt8).toArray⟩, .int .u32 0, iv 0, iv 0])) (wl rfl (st0B (q := 0) hS1 ⟨rfl, rfl⟩ rfl rfl rfl sizeOf89 rfl rfl rfl fun w27 im27 hS27 => ?_))))
    refine pv (r_zi rfl) (nil (t_then ?_))
    have hm := oI hm; subst hm
    exact rtn (retN (vs := [.agg #[iv 0, .string ⟨([] : List UInt8).toArray⟩, .int .u32 0, iv 0, iv 0], iv 3]) rfl ⟨rvS rfl isAgg89 sizeOf89 rfl (hS27.bx (i := 0) ⟨rfl, rfl⟩), rfl, trivial⟩ rfl ⟨_, rfl, _, (iT im1 im27), ⟨rfl, hS27.sel [1] rfl, trivial⟩⟩)
  have hm := cfalse hb29 hm
  refine gF (d0 := 35) rfl rfl (by rw [hb29]; rfl) (gF (d0 := 35) rfl rfl (by rw [hb29]; rfl) (gF (d0 := 35) rfl rfl (by rw [hb29]; rfl) (pv (r_pkf rfl hb29 rfl) (pv (r_mb rfl) (gF (d0 := 40) rfl rfl rfl (gF (d0 := 40) rfl rfl rfl (gF (d0 := 40) rfl rfl rfl (pv (r_pkf rfl rfl rfl) (pv (r_mb rfl) (gF (d0 := 45) rfl rfl rfl (gF (d0 := 45) rfl rfl rfl (gF (d0 := 45) rfl rfl rfl (pv (r_pkf rfl rfl rfl) (pv (r_mb rfl) (gF (d0 := 50) rfl rfl rfl (gF (d0 := 50) rfl rfl rfl (gF (d0 := 50) rfl rfl rfl (pv (r_pkf rfl rfl rfl) (pv (r_mb rfl) (gF (d0 := 55) rfl rfl rfl (gF (d0 := 55) rfl rfl rfl (gF (d0 := 55) rfl rfl rfl (pv (r_pkf rfl rfl rfl) (nil (t_thenR [(0, .string ⟨p0.toArray⟩), (2, pt b1 0), (59, .bool false)] ⟨rfl, rfl, rfl, trivial⟩ fun J => ?_)))))))))))))))))))))))))
  refine cnd (b := false) rfl (fun h => nomatch h) (fun _ => ?_)
  refine skp (t_then ?_)
  refine sq2 (rg (pv (r_bd (by kernel_rfl) rfl (u := .agg #[iv 0, .string ⟨([] : List UInt8).toArray⟩, .int .u32 0, iv 0, iv 0])) (wl rfl (st0B (q := 0) hS1 ⟨rfl, rfl⟩ rfl rfl rfl sizeOf89 rfl rfl rfl fun w28 im28 hS28 => ?_))))
  refine pv (r_zi rfl) (nil (t_then ?_))
  have hm := oI hm; subst hm
  exact rtn (retN (vs := [.agg #[iv 0, .string ⟨([] : List UInt8).toArray⟩, .int .u32 0, iv 0, iv 0], iv 3]) rfl ⟨rvS rfl isAgg89 sizeOf89 rfl (hS28.bx (i := 0) ⟨rfl, rfl⟩), rfl, trivial⟩ rfl ⟨_, rfl, _, (iT im1 im28), ⟨rfl, hS28.sel [1] rfl, trivial⟩⟩)

theorem lex_mark_sim {p0 : List UInt8} {r : (List UInt8)} (hS : Sep g T0 w0 [R])  (hm : lex_mark p0 = some r) :
    Calls Tryz.prog 58 #[.string ⟨p0.toArray⟩] w0 (RetS T0 w0 fun T w v => v = .string ⟨r.toArray⟩ ∧ Sep g T w [R] ∧ True) := by
  refine enter (args := [.string ⟨p0.toArray⟩]) Tryz.func58 rfl Tryz.ntmps58 rfl fun J => ?_
  unfold lex_mark at hm
  refine sq2 (rg (pv (r_zt rfl) (nil (t_then ?_))))
  refine sq2 (rg (pv (r_bd (by kernel_rfl) rfl (u := .agg #[.string ⟨([60, 60, 61] : List UInt8).toArray⟩, .string ⟨([62, 62, 61] : List UInt8).toArray⟩, .string ⟨([45, 62] : List UInt8).toArray⟩, .string ⟨([43, 43] : List UInt8).toArray⟩, .string ⟨([45, 45] : List UInt8).toArray⟩, .string ⟨([60, 60] : List UInt8).toArray⟩, .string ⟨([62, 62] : List UInt8).toArray⟩, .string ⟨([60, 61] : List UInt8).toArray⟩, .string ⟨([62, 61] : List UInt8).toArray⟩, .string ⟨([61, 61] : List UInt8).toArray⟩, .string ⟨([33, 61] : List UInt8).toArray⟩, .string ⟨([38, 38] : List UInt8).toArray⟩, .string ⟨([124, 124] : List UInt8).toArray⟩, .string ⟨([43, 61] : List UInt8).toArray⟩, .string ⟨([45, 61] : List UInt8).toArray⟩, .string ⟨([42, 61] : List UInt8).toArray⟩, .string ⟨([47, 61] : List UInt8).toArray⟩, .string ⟨([37, 61] : List UInt8).toArray⟩, .string ⟨([38, 61] : List UInt8).toArray⟩, .string ⟨([124, 61] : List UInt8).toArray⟩, .string ⟨([94, 61] : List UInt8).toArray⟩, .string ⟨([43] : List UInt8).toArray⟩, .string ⟨([45] : List UInt8).toArray⟩, .string ⟨([42] : List UInt8).toArray⟩, .string ⟨([47] : List UInt8).toArray⟩, .string ⟨([37] : List UInt8).toArray⟩, .string ⟨([38] : List UInt8).toArray⟩, .string ⟨([124] : List UInt8).toArray⟩, .string ⟨([94] : List UInt8).toArray⟩, .string ⟨([126] : List UInt8).toArray⟩, .string ⟨([33] : List UInt8).toArray⟩, .string ⟨([60] : List UInt8).toArray⟩, .string ⟨([62] : List UInt8).toArray⟩, .string ⟨([61] : List UInt8).toArray⟩, .string ⟨([63] : List UInt8).toArray⟩, .string ⟨([58] : List UInt8).toArray⟩, .string ⟨([59] : List UInt8).toArray⟩, .string ⟨([44] : List UInt8).toArray⟩, .string ⟨([46] : List UInt8).toArray⟩, .string ⟨([40] : List UInt8).toArray⟩, .string ⟨([41] : List UInt8).toArray⟩, .string ⟨([91] : List UInt8).toArray⟩, .string ⟨([93] : List UInt8).toArray⟩, .string ⟨([123] : List UInt8).toArray⟩, .string ⟨([125] : List UInt8).toArray⟩])) (wl rfl (alS (zs := [.string ⟨([] : List UInt8).toArray⟩, .string ⟨([] : List UInt8).toArray⟩, .string ⟨([] : List UInt8).toArray⟩, .string ⟨([] : List UInt8).toArray⟩, .string ⟨([] : List UInt8).toArray⟩, .string ⟨([] : List UInt8).toArray⟩, .string ⟨([] : List UInt8).toArray⟩, .string ⟨([] : List UInt8).toArray⟩, .string ⟨([] : List UInt8).toArray⟩, .string ⟨([] : List UInt8).toArray⟩, .string ⟨([] : List UInt8).toArray⟩, .string ⟨([] : List UInt8).toArray⟩, .string ⟨([] : List UInt8).toArray⟩, .string ⟨([] : List UInt8).toArray⟩, .string ⟨([] : List UInt8).toArray⟩, .string ⟨([] : List UInt8).toArray⟩, .string ⟨([] : List UInt8).toArray⟩, .string ⟨([] : List UInt8).toArray⟩, .string ⟨([] : List UInt8).toArray⟩, .string ⟨([] : List UInt8).toArray⟩, .string ⟨([] : List UInt8).toArray⟩, .string ⟨([] : List UInt8).toArray⟩, .string ⟨([] : List UInt8).toArray⟩, .string ⟨([] : List UInt8).toArray⟩, .string ⟨([] : List UInt8).toArray⟩, .string ⟨([] : List UInt8).toArray⟩, .string ⟨([] : List UInt8).toArray⟩, .string ⟨([] : List UInt8).toArray⟩, .string ⟨([] : List UInt8).toArray⟩, .string ⟨([] : List UInt8).toArray⟩, .string ⟨([] : List UInt8).toArray⟩, .string ⟨([] : List UInt8).toArray⟩, .string ⟨([] : List UInt8).toArray⟩, .string ⟨([] : List UInt8).toArray⟩, .string ⟨([] : List UInt8).toArray⟩, .string ⟨([] : List UInt8).toArray⟩, .string ⟨([] : List UInt8).toArray⟩, .string ⟨([] : List UInt8).toArray⟩, .string ⟨([] : List UInt8).toArray⟩, .string ⟨([] : List UInt8).toArray⟩, .string ⟨([] : List UInt8).toArray⟩, .string ⟨([] : List UInt8).toArray⟩, .string ⟨([] : List UInt8).toArray⟩, .string ⟨([] : List UInt8).toArray⟩, .string ⟨([] : List UInt8).toArray⟩]) zeroValue142 rfl hS fun w1 b1 im1 hS1 => ?_))))
  refine wl rfl (st0B (q := 0) hS1 ⟨rfl, rfl⟩ rfl rfl rfl sizeOf142 rfl rfl rfl fun w2 im2 hS2 => ?_)
  refine nil (t_then ?_)
  refine sq2 (sq2 (rg (pv (r_ldS rfl isAgg142 sizeOf142 rfl (hS2.cells0 (i := 0) ⟨rfl, rfl⟩ (o := 0) rfl) (cs := [.string ⟨([60, 60, 61] : List UInt8).toArray⟩, .string ⟨([62, 62, 61] : List UInt8).toArray⟩, .string ⟨([45, 62] : List UInt8).toArray⟩, .string ⟨([43, 43] : List UInt8).toArray⟩, .string ⟨([45, 45] : List UInt8).toArray⟩, .string ⟨([60, 60] : List UInt8).toArray⟩, .string ⟨([62, 62] : List UInt8).toArray⟩, .string ⟨([60, 61] : List UInt8).toArray⟩, .string ⟨([62, 61] : List UInt8).toArray⟩, .string ⟨([61, 61] : List UInt8).toArray⟩, .string ⟨([33, 61] : List UInt8).toArray⟩, .string ⟨([38, 38] : List UInt8).toArray⟩, .string ⟨([124, 124] : List UInt8).toArray⟩, .string ⟨([43, 61] : List UInt8).toArray⟩, .string ⟨([45, 61] : List UInt8).toArray⟩, .string ⟨([42, 61] : List UInt8).toArray⟩, .string ⟨([47, 61] : List UInt8).toArray⟩, .string ⟨([37, 61] : List UInt8).toArray⟩, .string ⟨([38, 61] : List UInt8).toArray⟩, .string ⟨([124, 61] : List UInt8).toArray⟩, .string ⟨([94, 61] : List UInt8).toArray⟩, .string ⟨([43] : List UInt8).toArray⟩, .string ⟨([45] : List UInt8).toArray⟩, .string ⟨([42] : List UInt8).toArray⟩, .string ⟨([47] : List UInt8).toArray⟩, .string ⟨([37] : List UInt8).toArray⟩, .string ⟨([38] : List UInt8).toArray⟩, .string ⟨([124] : List UInt8).toArray⟩, .string ⟨([94] : List UInt8).toArray⟩, .string ⟨([126] : List UInt8).toArray⟩, .string ⟨([33] : List UInt8).toArray⟩, .string ⟨([60] : List UInt8).toArray⟩, .string ⟨([62] : List UInt8).toArray⟩, .string ⟨([61] : List UInt8).toArray⟩, .string ⟨([63] : List UInt8).toArray⟩, .string ⟨([58] : List UInt8).toArray⟩, .string ⟨([59] : List UInt8).toArray⟩, .string ⟨([44] : List UInt8).toArray⟩, .string ⟨([46] : List UInt8).toArray⟩, .string ⟨([40] : List UInt8).toArray⟩, .string ⟨([41] : List UInt8).toArray⟩, .string ⟨([91] : List UInt8).toArray⟩, .string ⟨([93] : List UInt8).toArray⟩, .string ⟨([123] : List UInt8).toArray⟩, .string ⟨([125] : List UInt8).toArray⟩])) (pv (r_mi rfl) (nil (t_then ?_))))))
  obtain ⟨o1, ho1, hq1⟩ := bindS hm
  obtain ⟨bd1, hbd1, ho1⟩ := loop_open ho1
  refine blk (wp_loop_ghost (fun m a w3 => ∃ (J : JV) (T1 : TP) (x1 : Int), a = env (nf 16) J [(0, .string ⟨p0.toArray⟩), (7, .agg #[.string ⟨([60, 60, 61] : List UInt8).toArray⟩, .string ⟨([62, 62, 61] : List UInt8).toArray⟩, .string ⟨([45, 62] : List UInt8).toArray⟩, .string ⟨([43, 43] : List UInt8).toArray⟩, .string ⟨([45, 45] : List UInt8).toArray⟩, .string ⟨([60, 60] : List UInt8).toArray⟩, .string ⟨([62, 62] : List UInt8).toArray⟩, .string ⟨([60, 61] : List UInt8).toArray⟩, .string ⟨([62, 61] : List UInt8).toArray⟩, .string ⟨([61, 61] : List UInt8).toArray⟩, .string ⟨([33, 61] : List UInt8).toArray⟩, .string ⟨([38, 38] : List UInt8).toArray⟩, .string ⟨([124, 124] : List UInt8).toArray⟩, .string ⟨([43, 61] : List UInt8).toArray⟩, .string ⟨([45, 61] : List UInt8).toArray⟩, .string ⟨([42, 61] : List UInt8).toArray⟩, .string ⟨([47, 61] : List UInt8).toArray⟩, .string ⟨([37, 61] : List UInt8).toArray⟩, .string ⟨([38, 61] : List UInt8).toArray⟩, .string ⟨([124, 61] : List UInt8).toArray⟩, .string ⟨([94, 61] : List UInt8).toArray⟩, .string ⟨([43] : List UInt8).toArray⟩, .string ⟨([45] : List UInt8).toArray⟩, .string ⟨([42] : List UInt8).toArray⟩, .string ⟨([47] : List UInt8).toArray⟩, .string ⟨([37] : List UInt8).toArray⟩, .string ⟨([38] : List UInt8).toArray⟩, .string ⟨([124] : List UInt8).toArray⟩, .string ⟨([94] : List UInt8).toArray⟩, .string ⟨([126] : List UInt8).toArray⟩, .string ⟨([33] : List UInt8).toArray⟩, .string ⟨([60] : List UInt8).toArray⟩, .string ⟨([62] : List UInt8).toArray⟩, .string ⟨([61] : List UInt8).toArray⟩, .string ⟨([63] : List UInt8).toArray⟩, .string ⟨([58] : List UInt8).toArray⟩, .string ⟨([59] : List UInt8).toArray⟩, .string ⟨([44] : List UInt8).toArray⟩, .string ⟨([46] : List UInt8).toArray⟩, .string ⟨([40] : List UInt8).toArray⟩, .string ⟨([41] : List UInt8).toArray⟩, .string ⟨([91] : List UInt8).toArray⟩, .string ⟨([93] : List UInt8).toArray⟩, .string ⟨([123] : List UInt8).toArray⟩, .string ⟨([125] : List UInt8).toArray⟩]), (8, iv x1)] ∧ Im T0 w2 T1 w3 ∧ Sep g T1 w3 [R] ∧ loopM bd1 m x1 = some o1) NN ⟨_, _, 0, env_has ⟨rfl, rfl, rfl, trivial⟩, Im.refl, hS2.sel [1] rfl, ho1⟩ ?_)
  rintro m _ w3 ⟨J, T1, x1, rfl, im3, hS3, ho1⟩
  obtain ⟨m1, z1, rfl, hm, hn1⟩ := loop_round ho1
  rw [hbd1] at hm
  refine sq2 (rg (pv (r_ib rfl rfl rfl) (nil (t_then ?_))))
  refine sq2 (cnd rfl (fun hb1 => ?_) (fun hb1 => ?_))
  · have hm := ctrue hb1 hm
    refine skp (t_then ?_)
    refine sq2 (blk (sq2 ?_))
    obtain ⟨u1, hx1, hm⟩ := bindS hm
    refine rg (pv (r_axi rfl rfl (idx_map (fun z : List UInt8 => Value.string ⟨z.toArray⟩) hx1) rfl underlying142 sizeOf9 isAgg9) (pv (r_zt rfl) (nil (t_then ?_))))
    refine sq2 ?_
    obtain ⟨y1, hx2, hm⟩ := bindS hm
    refine rg (pv (r_mt rfl) (pv (r_mt rfl) (wl rfl (calS cf48 rfl (strings_HasPrefix_sim (p0 := p0) (p1 := u1) (hS3.bun [0] [] rfl)  hx2) rfl fun v1 T2 w4 im4 rv1 => ?_))))
    obtain ⟨rfl, hS4, _⟩ := rv1
    have hS4 := hS4.unb
    refine nil (t_then ?_)
    refine cnd rfl (fun hb2 => ?_) (fun hb2 => ?_)
    · have hm := ctrue hb2 hm
      refine sq2 (rg (pv (r_mt rfl) (pv (r_zt rfl) (nil (t_then ?_)))))
      have hm := oI hm; subst hm
      have hn1 : _ = Lp.ret _ := hn1
      subst hn1
      have hm := thn_ret hq1
      have hm := oI hm; subst hm
      exact rtn (r_blk (r_then (r_then (r_blk (r_then (ret1 rfl rfl ⟨_, rfl, _, (iT im1 (iT im2 (iT im3 im4))), ⟨rfl, hS4.sel [0] rfl, trivial⟩⟩))))))
    have hm := cfalse hb2 hm
    refine skp (t_blk (t_then ?_))
    have hm := oI hm; subst hm
    exact rg (pv (r_ib rfl rfl rfl) (pv (r_mi rfl) (nil (t_then ⟨m1, Nat.lt_succ_self _, _, _, (IntKind.wrap .i64 (x1 + 1)), env_has ⟨rfl, rfl, rfl, trivial⟩, (iT im3 im4), hS4.sel [0] rfl, hn1⟩))))
  have hm := cfalse hb1 hm
  have hm := oI hm; subst hm
  have hn1 : _ = Lp.brk _ := hn1
  subst hn1
  have hm := thn_brk hq1
  refine xt (x_then (x_then (x_eq (t_then ?_))))
  refine sq2 (rg (pv (r_zt rfl) (nil (t_then ?_))))
  have hm := oI hm; subst hm
  exact rtn (ret1 rfl rfl ⟨_, rfl, _, (iT im1 (iT im2 im3)), ⟨rfl, hS3.sel [0] rfl, trivial⟩⟩)

theorem lex_token_sim {p0 : List UInt8} {r : GToken × Int} (hS : Sep g T0 w0 [R])  (hm : lex_token p0 = some r) :
    Calls Tryz.prog 29 #[.string ⟨p0.toArray⟩] w0 (RetS T0 w0 fun T w v => v = .tuple #[.agg (cGToken r.1).toArray, iv r.2] ∧ Sep g T w [R] ∧ True) := by
  refine enter (args := [.string ⟨p0.toArray⟩]) Tryz.func29 rfl Tryz.ntmps29 rfl fun J => ?_
  unfold lex_token at hm
  refine sq2 (rg (wl rfl (alS (zs := [iv 0, .string ⟨([] : List UInt8).toArray⟩, .int .u32 0, iv 0, iv 0]) zeroValue89 rfl hS fun w1 b1 im1 hS1 => ?_)))
  refine pv (r_zi rfl) (nil (t_then ?_))
  refine sq2 (blk (sq2 ?_))
  obtain ⟨u1, hx1, hm⟩ := bindS hm
  obtain ⟨y1, hx2, hm⟩ := bindS hm
  refine rg (pv (r_mt rfl) (pv (r_sx rfl rfl hx1 underlying9) (wl rfl (calS cf52 rfl (lex_letter_sim (p0 := (UInt8.toNat u1 : Int)) (hS1.bun [0, 1] [] rfl)  hx2) rfl fun v1 T1 w2 im2 rv1 => ?_))))
  obtain ⟨rfl, hS2, _⟩ := rv1
  have hS2 := hS2.unb
  refine pv (r_zb rfl) (nil (t_then ?_))
  refine cnd rfl (fun hb1 => ?_) (fun hb1 => ?_)
  · have hm := ctrue hb1 hm
    refine sq2 ?_
    obtain ⟨y2, hx3, hm⟩ := bindS hm
    refine rg (pv (r_mt rfl) (wl rfl (calS cf50 rfl (lex_span_2_sim (p0 := p0) (hS2.bun [0, 1] [] rfl)  hx3) rfl fun v2 T2 w3 im3 rv2 => ?_)))
    obtain ⟨rfl, hS3, _⟩ := rv2
    have hS3 := hS3.unb
    refine pv (r_zi rfl) (nil (t_then ?_))
    refine sq2 ?_
    obtain ⟨u2, hx4, hm⟩ := bindS hm
    refine rg (pv (r_mt rfl) (pv (r_mi rfl) (pv (r_ss rfl rfl ⟨_, rfl⟩ hx4 underlying9) (pv (r_bd (by kernel_rfl) rfl (u := .agg #[iv 1, .string ⟨u2.toArray⟩, .int .u32 0, iv 0, iv 0])) (wl rfl (alS (zs := [iv 0, .string ⟨([] : List UInt8).toArray⟩, .int .u32 0, iv 0, iv 0]) zeroValue89 rfl hS3 fun w4 b2 im4 hS4 => ?_))))))
    refine wl rfl (st0B (q := 0) hS4 ⟨rfl, rfl⟩ rfl rfl rfl sizeOf89 rfl rfl rfl fun w5 im5 hS5 => ?_)
    refine nil (t_then ?_)
    refine sq2 (sq2 (rg (pv (r_mi rfl) (pv (r_ib rfl rfl rfl) (nil (t_then ?_))))))
    refine cnd rfl (fun hb2 => ?_) (fun hb2 => ?_)
    · have hm := ctrue hb2 hm
      refine sq2 (rg (pv (r_ldS rfl isAgg89 sizeOf89 rfl (hS5.cells0 (i := 0) ⟨rfl, rfl⟩ (o := 0) rfl) (cs := [iv 1, .string ⟨u2.toArray⟩, .int .u32 0, iv 0, iv 0])) (wl rfl (st0B (q := 1) hS5 ⟨rfl, rfl⟩ rfl rfl rfl sizeOf89 rfl rfl rfl fun w6 im6 hS6 => ?_))))
      refine pv (r_zi rfl) (nil (t_then ?_))
      have hm := oI hm; subst hm
      exact rtn (r_then (r_blk (r_then (retN (vs := [.agg #[iv 1, .string ⟨u2.toArray⟩, .int .u32 0, iv 0, iv 0], iv 2]) rfl ⟨rvS rfl isAgg89 sizeOf89 rfl (hS6.bx (i := 1) ⟨rfl, rfl⟩), rfl, trivial⟩ rfl ⟨_, rfl, _, (iT im1 (iT im2 (iT im3 (iT im4 (iT im5 im6))))), ⟨rfl, hS6.sel [2] rfl, trivial⟩⟩))))
    have hm := cfalse hb2 hm
    refine skp (t_then ?_)
    obtain ⟨kk1, hkk1, hm⟩ := jn_open hm
    refine cut (fun a w7 => ∃ (J : JV) (T3 : TP) (x1 : GToken), a = env (nf 48) J [(2, pt b1 0), (5, pt b2 0)] ∧ Im T2 w5 T3 w7 ∧ Sep g T3 w7 [boxA b2 (cGToken x1), boxA b1 [iv 0, .string ⟨([] : List UInt8).toArray⟩, .int .u32 0, iv 0, iv 0], R] ∧ kk1 x1 = some r) ?_ ?_
    · refine sq2 ?_
      obtain ⟨y3, hx5, hm⟩ := bindS hm
      refine rg (pv (r_fa rfl underlying89 rfl sizeOf9 rfl) (pv (r_ld rfl isAgg9 (hS5.cell0 (i := 0) ⟨rfl, rfl⟩ (j := 1) rfl)) (wl rfl (calS cf54 rfl (lex_Word_sim (p0 := u2) (hS5.bun [0, 1, 2] [] rfl)  hx5) rfl fun v3 T4 w8 im8 rv3 => ?_))))
      obtain ⟨rfl, hS7, _⟩ := rv3
      have hS7 := hS7.unb
      refine nil (t_then ?_)
      refine cnd rfl (fun hb3 => ?_) (fun hb3 => ?_)
      · have hm := ctrue hb3 hm
        refine rg (pv (r_fa rfl underlying89 rfl sizeOf3 rfl) (wl rfl (st0B (q := 0) hS7 ⟨rfl, rfl⟩ rfl rfl rfl sizeOf3 rfl rfl rfl fun w9 im9 hS8 => ?_)))
        exact nil (t_then ⟨_, _, (⟨2, u2, 0, (⟨0, 0⟩ : Pos)⟩ : GToken), env_has ⟨rfl, rfl, trivial⟩, (iT im8 im9), hS8.sel [0, 1, 2] rfl, hm⟩)
      have hm := cfalse hb3 hm
      exact skp (t_then ⟨_, _, (⟨1, u2, 0, (⟨0, 0⟩ : Pos)⟩ : GToken), env_has ⟨rfl, rfl, trivial⟩, im8, hS7.sel [0, 1, 2] rfl, hm⟩)
    rintro _ w7 ⟨J, T3, x1, rfl, im7, hS9, hm⟩
    rw [hkk1] at hm
    refine sq2 (rg (pv (r_ldS rfl isAgg89 sizeOf89 rfl (hS9.cells0 (i := 0) ⟨rfl, rfl⟩ (o := 0) rfl) (cs := (cGToken x1))) (wl rfl (st0B (q := 1) hS9 ⟨rfl, rfl⟩ rfl rfl rfl sizeOf89 rfl rfl rfl fun w10 im10 hS10 => ?_))))
    refine pv (r_zi rfl) (nil (t_then ?_))
    have hm := oI hm; subst hm
    exact rtn (r_blk (r_then (retN (vs := [.agg (cGToken x1).toArray, iv 0]) rfl ⟨rvS rfl isAgg89 sizeOf89 rfl (hS10.bx (i := 1) ⟨rfl, rfl⟩), rfl, trivial⟩ rfl ⟨_, rfl, _, (iT im1 (iT im2 (iT im3 (iT im4 (iT im5 (iT im7 im10)))))), ⟨rfl, hS10.sel [2] rfl, trivial⟩⟩)))
  have hm := cfalse hb1 hm
  refine sq2 ?_
  obtain ⟨u3, hx6, hm⟩ := bindS hm
  obtain ⟨y4, hx7, hm⟩ := bindS hm
  refine rg (pv (r_mt rfl) (pv (r_sx rfl rfl hx6 underlying9) (wl rfl (calS cf55 rfl (lex_digit_sim (p0 := (UInt8.toNat u3 : Int)) (hS2.bun [0, 1] [] rfl)  hx7) rfl fun v4 T5 w11 im11 rv4 => ?_))))
  obtain ⟨rfl, hS11, _⟩ := rv4
  have hS11 := hS11.unb
  refine pv (r_zb rfl) (nil (t_then ?_))
  refine cnd rfl (fun hb4 => ?_) (fun hb4 => ?_)
  · have hm := ctrue hb4 hm
    refine sq2 ?_
    obtain ⟨y5, hx8, hm⟩ := bindS hm
    refine rg (pv (r_mt rfl) (wl rfl (calS cf56 rfl (lex_number_sim (p0 := p0) (hS11.bun [0, 1] [] rfl)  hx8) rfl fun v5 T6 w12 im12 rv5 => ?_)))
    obtain ⟨rfl, hS12, _⟩ := rv5
    have hS12 := hS12.unb
    refine pv (r_ex (v := .agg (cGToken y5.1).toArray) rfl rfl) (pv (r_ex (v := iv y5.2) rfl rfl) (wl rfl (st0B (q := 0) hS12 ⟨rfl, rfl⟩ rfl rfl rfl sizeOf89 rfl rfl rfl fun w13 im13 hS13 => ?_)))
    refine pv (r_zi rfl) (nil (t_then ?_))
    have hm := oI hm; subst hm
    exact rtn (r_blk (r_then (retN (vs := [.agg (cGToken y5.1).toArray, iv y5.2]) rfl ⟨rvS rfl isAgg89 sizeOf89 rfl (hS13.bx (i := 0) ⟨rfl, rfl⟩), rfl, trivial⟩ rfl ⟨_, rfl, _, (iT im1 (iT im2 (iT im11 (iT im12 im13)))), ⟨rfl, hS13.sel [1] rfl, trivial⟩⟩)))
  have hm := cfalse hb4 hm
  refine sq2 ?_
  obtain ⟨u4, hx9, hm⟩ := bindS hm
  refine rg (pv (r_mt rfl) (pv (r_sx rfl rfl hx9 underlying9) (pv (r_ib rfl rfl rfl) (pv (r_zb rfl) (nil (t_then ?_))))))
  refine cnd rfl (fun hb5 => ?_) (fun hb5 => ?_)
  · have hm := ctrue hb5 hm
    refine sq2 ?_
    obtain ⟨y6, hx10, hm⟩ := bindS hm
    refine rg (pv (r_mt rfl) (wl rfl (calS cf57 rfl (lex_char_sim (p0 := p0) (hS11.bun [0, 1] [] rfl)  hx10) rfl fun v6 T7 w14 im14 rv6 => ?_)))
    obtain ⟨rfl, hS14, _⟩ := rv6
    have hS14 := hS14.unb
    refine pv (r_ex (v := .agg (cGToken y6.1).toArray) rfl rfl) (pv (r_ex (v := iv y6.2) rfl rfl) (wl rfl (st0B (q := 0) hS14 ⟨rfl, rfl⟩ rfl rfl rfl sizeOf89 rfl rfl rfl fun w15 im15 hS15 => ?_)))
    refine pv (r_zi rfl) (nil (t_then ?_))
    have hm := oI hm; subst hm
    exact rtn (r_blk (r_then (retN (vs := [.agg (cGToken y6.1).toArray, iv y6.2]) rfl ⟨rvS rfl isAgg89 sizeOf89 rfl (hS15.bx (i := 0) ⟨rfl, rfl⟩), rfl, trivial⟩ rfl ⟨_, rfl, _, (iT im1 (iT im2 (iT im11 (iT im14 im15)))), ⟨rfl, hS15.sel [1] rfl, trivial⟩⟩)))
  have hm := cfalse hb5 hm
  refine skp (t_blk (t_then ?_))
  refine sq2 ?_
  obtain ⟨y7, hx11, hm⟩ := bindS hm
  refine rg (pv (r_mt rfl) (wl rfl (calS cf58 rfl (lex_mark_sim (p0 := p0) (hS11.bun [0, 1] [] rfl)  hx11) rfl fun v7 T8 w16 im16 rv7 => ?_)))
  obtain ⟨rfl, hS16, _⟩ := rv7
  have hS16 := hS16.unb
  refine pv (r_zt rfl) (nil (t_then ?_))
  refine sq2 (sq2 (rg (pv (r_mt rfl) (pv (r_sqL rfl rfl) (nil (t_then ?_))))))
  refine cnd rfl (fun hb6 => ?_) (fun hb6 => ?_)
  · have hm := ctrue hb6 hm
    refine sq2 (rg (pv (r_bd (by kernel_rfl) rfl (u := .agg #[iv 0, .string ⟨([] : List UInt8).toArray⟩, .int .u32 0, iv 0, iv 0])) (wl rfl (st0B (q := 0) hS16 ⟨rfl, rfl⟩ rfl rfl rfl sizeOf89 rfl rfl rfl fun w17 im17 hS17 => ?_))))
    refine pv (r_zi rfl) (nil (t_then ?_))
    have hm := oI hm; subst hm
    exact rtn (r_then (retN (vs := [.agg #[iv 0, .string ⟨([] : List UInt8).toArray⟩, .int .u32 0, iv 0, iv 0], iv 3]) rfl ⟨rvS rfl isAgg89 sizeOf89 rfl (hS17.bx (i := 0) ⟨rfl, rfl⟩), rfl, trivial⟩ rfl ⟨_, rfl, _, (iT im1 (iT im2 (iT im11 (iT im16 im17)))), ⟨rfl, hS17.sel [1] rfl, trivial⟩⟩))
  have hm := cfalse hb6 hm
  refine skp (t_then ?_)
  refine sq2 (rg (pv (r_mt rfl) (pv (r_bd (by kernel_rfl) rfl (u := .agg #[iv 4, .string ⟨y7.toArray⟩, .int .u32 0, iv 0, iv 0])) (wl rfl (st0B (q := 0) hS16 ⟨rfl, rfl⟩ rfl rfl rfl sizeOf89 rfl rfl rfl fun w18 im18 hS18 => ?_)))))
  refine pv (r_zi rfl) (nil (t_then ?_))
  have hm := oI hm; subst hm
  exact rtn (retN (vs := [.agg #[iv 4, .string ⟨y7.toArray⟩, .int .u32 0, iv 0, iv 0], iv 0]) rfl ⟨rvS rfl isAgg89 sizeOf89 rfl (hS18.bx (i := 0) ⟨rfl, rfl⟩), rfl, trivial⟩ rfl ⟨_, rfl, _, (iT im1 (iT im2 (iT im11 (iT im16 im18)))), ⟨rfl, hS18.sel [1] rfl, trivial⟩⟩)

theorem lex_Lex_sim {p0 : List UInt8} {r : (List GToken) × Pos × Int} (hS : Sep g T0 w0 [R]) (hG0 : Gi T0 w0 0) (hm : lex_Lex p0 = some r) :
    Calls Tryz.prog 10 #[.string ⟨p0.toArray⟩] w0 (RetS T0 w0 fun T w v => ∃ (a4 : OA) (n4 : Nat) (c4 : Nat), v = .tuple #[.slice a4 n4 c4, .agg #[iv r.2.1.Line, iv r.2.1.Col], iv r.2.2] ∧ Sep g T w [R, ownA rGToken 89 (.slice a4 n4 c4) r.1] ∧ True) := by
  refine enter (args := [.string ⟨p0.toArray⟩]) Tryz.func10 rfl Tryz.ntmps10 rfl fun J => ?_
  unfold lex_Lex at hm
  refine sq2 (rg (pv (r_zs rfl) (wl rfl (alS (zs := [iv 0, iv 0]) zeroValue29 rfl hS fun w1 b1 im1 hS1 => ?_))))
  refine pv (r_zi rfl) (nil (t_then ?_))
  refine sq2 (rg (pv (r_mt rfl) (pv (r_bd (by kernel_rfl) rfl (u := .agg #[iv 1, iv 1])) (pv (r_bd (by kernel_rfl) rfl (u := .agg #[.string ⟨p0.toArray⟩, iv 1, iv 1])) (wl rfl (bxS (cs := [.string ⟨p0.toArray⟩, iv 1, iv 1]) rfl rfl hS1 fun w2 b2 im2 hS2 => ?_))))))
  refine pv (r_zp rfl) (nil (t_then ?_))
  refine sq2 (sq2 (rg (pv (r_mt rfl) (pv (r_lnt rfl underlying9) (pv (r_ib rfl rfl rfl) (nil (t_then ?_)))))))
  refine cnd rfl (fun hb1 => ?_) (fun hb1 => ?_)
  · have hm := ctrue hb1 hm
    refine sq2 (rs [0, 0, 0, 1, 0, 2, 0] [0, 1, 2, 3, 4, 5, 6] mix (by kernel_rfl) hS2.lt fun w3 i1 => ?_)
    have im3 := i1.imm
    have hS3 := hS2.keep i1 (fun _ h => h)
    refine s0 rfl trivial (fun _ => r_mp rfl) rfl (s0 rfl trivial (fun _ => r_nc rfl) rfl (s0 rfl trivial (fun _ => r_fa rfl underlying84 rfl sizeOf29 rfl) rfl (s1 rfl trivial (r_ldS rfl isAgg29 sizeOf29 rfl (hS3.cells0 (i := 0) ⟨rfl, rfl⟩ (o := 1) rfl) (cs := [iv 1, iv 1])) rfl (s0 rfl trivial (fun _ => r_zs rfl) rfl (s2 [] rfl trivial rfl (by kernel_rfl) (st0B (q := 1) hS3 ⟨rfl, rfl⟩ rfl rfl rfl sizeOf29 rfl rfl rfl fun w4 im4 hS4 => ?_))))))
    refine ⟨st0, ?_⟩
    refine s0 rfl trivial (fun _ => r_zi rfl) rfl (se (t_then ?_))
    have hS5 := hS4.nilO rGToken 89
    have hm := oI hm; subst hm
    exact rtn (r_then (retN (vs := [.slice none 0 0, .agg #[iv 1, iv 1], iv 2]) rfl ⟨rfl, rvS rfl isAgg29 sizeOf29 rfl (hS5.bx (i := 2) ⟨rfl, rfl⟩), rfl, trivial⟩ rfl ⟨_, rfl, _, (iT im1 (iT im2 (iT im3 im4))), ⟨_, _, _, rfl, hS5.sel [3, 0] rfl, trivial⟩⟩))
  have hm := cfalse hb1 hm
  refine skp (t_then ?_)
  refine sq2 (rg (pv (r_zs rfl) (nil (t_then ?_))))
  refine sq2 ?_
  obtain ⟨o1, ho1, hq1⟩ := bindS hm
  obtain ⟨bd1, hbd1, ho1⟩ := loop_open ho1
  have hS6 := hS2.nilO rGToken 89
  refine blk (wp_loop_ghost (fun m a w5 => ∃ (J : JV) (T1 : TP) (x2 : LexScanner) (x1 : List GToken) (a1 : OA) (n1 : Nat) (c1 : Nat), a = env (nf 76) J [(3, pt b1 0), (5, pt b2 0), (6, .slice a1 n1 c1)] ∧ Im T0 w2 T1 w5 ∧ Sep g T1 w5 [ownA rGToken 89 (.slice a1 n1 c1) x1, boxA b2 (cLexScanner x2), boxA b1 [iv 0, iv 0], R] ∧ loopM bd1 m (x1, x2) = some o1) NN ⟨_, _, (⟨p0, (⟨1, 1⟩ : Pos)⟩ : LexScanner), [], _, _, _, env_has ⟨rfl, rfl, rfl, trivial⟩, Im.refl, hS6.sel [0, 1, 2, 3] rfl, ho1⟩ ?_)
  rintro m _ w5 ⟨J, T1, x2, x1, a1, n1, c1, rfl, im5, hS7, ho1⟩
  obtain ⟨m1, z1, rfl, hm, hn1⟩ := loop_round ho1
  rw [hbd1] at hm
  refine sq2 (sq2 (rg (pv (r_mp rfl) (pv (r_nc rfl) (pv (r_fa rfl underlying84 rfl sizeOf9 rfl) (pv (r_ld rfl isAgg9 (hS7.cell0 (i := 1) ⟨rfl, rfl⟩ (j := 0) rfl)) (pv (r_snL rfl rfl) (nil (t_then ?_)))))))))
  refine cnd rfl (fun hb2 => ?_) (fun hb2 => ?_)
  · have hm := ctrue hb2 hm
    refine skp (t_then ?_)
    refine blk (sq2 ?_)
    obtain ⟨y1, hx1, hm⟩ := bindS hm
    refine rg (pv (r_mp rfl) (pv (r_nc rfl) (pv (r_fa rfl underlying84 rfl sizeOf9 rfl) (pv (r_ld rfl isAgg9 (hS7.cell0 (i := 1) ⟨rfl, rfl⟩ (j := 0) rfl)) (wl rfl (calS cf27 rfl (lex_blank_sim (p0 := x2.s) (hS7.bun [0, 1, 2, 3] [] rfl) (hG0.mono (iT im1 (iT im2 im5))) hx1) rfl fun v1 T2 w6 im6 rv1 => ?_))))))
    obtain ⟨rfl, hS8, _⟩ := rv1
    have hS8 := hS8.unb
    refine pv (r_zi rfl) (nil (t_then ?_))
    refine sq2 (sq2 (rg (pv (r_mi rfl) (pv (r_ib rfl rfl rfl) (nil (t_then ?_))))))
    refine cnd rfl (fun hb3 => ?_) (fun hb3 => ?_)
    · have hm := ctrue hb3 hm
      refine sq2 (rs [0, 0, 0, 1, 0, 2, 0] [0, 1, 2, 3, 4, 5, 6] mix (by kernel_rfl) hS8.lt fun w7 i2 => ?_)
      have im7 := i2.imm
      have hS9 := hS8.keep i2 (fun _ h => h)
      refine s0 rfl trivial (fun _ => r_mp rfl) rfl (s0 rfl trivial (fun _ => r_nc rfl) rfl (s0 rfl trivial (fun _ => r_fa rfl underlying84 rfl sizeOf29 rfl) rfl (s1 rfl trivial (r_ldS rfl isAgg29 sizeOf29 rfl (hS9.cells0 (i := 1) ⟨rfl, rfl⟩ (o := 1) rfl) (cs := [iv x2.pos.Line, iv x2.pos.Col])) rfl (s0 rfl trivial (fun _ => r_zs rfl) rfl (s2 [] rfl trivial rfl (by kernel_rfl) (st0B (q := 2) hS9 ⟨rfl, rfl⟩ rfl rfl rfl sizeOf29 rfl rfl rfl fun w8 im8 hS10 => ?_))))))
      refine ⟨st0, ?_⟩
      refine s0 rfl trivial (fun _ => r_zi rfl) rfl (se (t_then ?_))
      have hS11 := hS10.nilO rGToken 89
      have hm := oI hm; subst hm
      have hn1 : _ = Lp.ret _ := hn1
      subst hn1
      have hm := thn_ret hq1
      have hm := oI hm; subst hm
      exact rtn (r_then (r_blk (r_then (r_blk (r_then (retN (vs := [.slice none 0 0, .agg #[iv x2.pos.Line, iv x2.pos.Col], iv 3]) rfl ⟨rfl, rvS rfl isAgg29 sizeOf29 rfl (hS11.bx (i := 3) ⟨rfl, rfl⟩), rfl, trivial⟩ rfl ⟨_, rfl, _, (iT im1 (iT im2 (iT im5 (iT im6 (iT im7 im8))))), ⟨_, _, _, rfl, hS11.sel [4, 0] rfl, trivial⟩⟩))))))
    have hm := cfalse hb3 hm
    refine skp (t_then ?_)
    refine sq2 (sq2 (rg (pv (r_mi rfl) (pv (r_ib rfl rfl rfl) (nil (t_then ?_))))))
    refine cnd rfl (fun hb4 => ?_) (fun hb4 => ?_)
    · have hm := ctrue hb4 hm
      refine sq2 ?_
      obtain ⟨y2, hx2, hm⟩ := bindS hm
      refine rg (pv (r_mp rfl) (pv (r_mi rfl) (wl rfl (calS cf28 rfl (lex_scanner_skip_sim (p0 := x2) (H_p0 := boxA b2) (p1 := y1) (hS8.bun [0, 2, 3] [1] rfl) (lnBox b2) hx2) rfl fun v2 T3 w9 im9 rv2 => ?_))))
      obtain ⟨rfl, hS12, _⟩ := rv2
      have hS12 := hS12.unb
      refine nil (t_then ?_)
      have hm := oI hm; subst hm
      exact xt (x_then (x_eq (t_then ⟨m1, Nat.lt_succ_self _, _, _, y2, x1, _, _, _, env_has ⟨rfl, rfl, rfl, trivial⟩, (iT im5 (iT im6 im9)), hS12.sel [0, 3, 1, 2] rfl, hn1⟩)))
    have hm := cfalse hb4 hm
    refine skp (t_then ?_)
    refine sq2 ?_
    obtain ⟨y3, hx3, hm⟩ := bindS hm
    refine rg (pv (r_mp rfl) (pv (r_nc rfl) (pv (r_fa rfl underlying84 rfl sizeOf9 rfl) (pv (r_ld rfl isAgg9 (hS8.cell0 (i := 1) ⟨rfl, rfl⟩ (j := 0) rfl)) (wl rfl (calS cf29 rfl (lex_token_sim (p0 := x2.s) (hS8.bun [0, 1, 2, 3] [] rfl)  hx3) rfl fun v3 T4 w10 im10 rv3 => ?_))))))
    obtain ⟨rfl, hS13, _⟩ := rv3
    have hS13 := hS13.unb
    refine pv (r_mv rfl) (pv (r_ex (v := .agg (cGToken y3.1).toArray) rfl rfl) (pv (r_ex (v := iv y3.2) rfl rfl) (wl rfl (alS (zs := [iv 0, .string ⟨([] : List UInt8).toArray⟩, .int .u32 0, iv 0, iv 0]) zeroValue89 rfl hS13 fun w11 b3 im11 hS14 => ?_))))
    refine wl rfl (st0B (q := 0) hS14 ⟨rfl, rfl⟩ rfl rfl rfl sizeOf89 rfl rfl rfl fun w12 im12 hS15 => ?_)
    refine pv (r_zi rfl) (nil (t_then ?_))
    refine sq2 (sq2 (rg (pv (r_mi rfl) (pv (r_ib rfl rfl rfl) (nil (t_then ?_))))))
    refine cnd rfl (fun hb5 => ?_) (fun hb5 => ?_)
    · have hm := ctrue hb5 hm
      refine sq2 (rs [0, 0, 0, 1, 0, 0, 2, 0] [0, 1, 2, 3, 4, 5, 6, 7] mix (by kernel_rfl) hS15.lt fun w13 i3 => ?_)
      have im13 := i3.imm
      have hS16 := hS15.keep i3 (fun _ h => h)
      refine s0 rfl trivial (fun _ => r_mp rfl) rfl (s0 rfl trivial (fun _ => r_nc rfl) rfl (s0 rfl trivial (fun _ => r_fa rfl underlying84 rfl sizeOf29 rfl) rfl (s1 rfl trivial (r_ldS rfl isAgg29 sizeOf29 rfl (hS16.cells0 (i := 2) ⟨rfl, rfl⟩ (o := 1) rfl) (cs := [iv x2.pos.Line, iv x2.pos.Col])) rfl (s0 rfl trivial (fun _ => r_mi rfl) rfl (s0 rfl trivial (fun _ => r_zs rfl) rfl (s2 [] rfl trivial rfl (by kernel_rfl) (st0B (q := 3) hS16 ⟨rfl, rfl⟩ rfl rfl rfl sizeOf29 rfl rfl rfl fun w14 im14 hS17 => ?_)))))))
      refine ⟨st0, ?_⟩
      refine s0 rfl trivial (fun _ => r_zi rfl) rfl (se (t_thenR [(2, .slice none 0 0), (3, pt b1 0), (4, iv y3.2)] ⟨rfl, rfl, rfl, trivial⟩ fun J => ?_))
      have hS18 := hS17.nilO rGToken 89
      have hm := oI hm; subst hm
      have hn1 : _ = Lp.ret _ := hn1
      subst hn1
      have hm := thn_ret hq1
      have hm := oI hm; subst hm
      exact rtn (r_then (r_blk (r_then (r_blk (r_then (retN (vs := [.slice none 0 0, .agg #[iv x2.pos.Line, iv x2.pos.Col], iv y3.2]) rfl ⟨rfl, rvS rfl isAgg29 sizeOf29 rfl (hS18.bx (i := 4) ⟨rfl, rfl⟩), rfl, trivial⟩ rfl ⟨_, rfl, _, (iT im1 (iT im2 (iT im5 (iT im6 (iT im10 (iT im11 (iT im12 (iT im13 im14)))))))), ⟨_, _, _, rfl, hS18.sel [5, 0] rfl, trivial⟩⟩))))))
    have hm := cfalse hb5 hm
    refine skp (t_thenR [(3, pt b1 0), (5, pt b2 0), (6, .slice a1 n1 c1), (8, pt b3 0)] ⟨rfl, rfl, rfl, rfl, trivial⟩ fun J => ?_)
    refine sq2 (rg (pv (r_mp rfl) (pv (r_nc rfl) (pv (r_fa rfl underlying84 rfl sizeOf29 rfl) (pv (r_ldS rfl isAgg29 sizeOf29 rfl (hS15.cells0 (i := 2) ⟨rfl, rfl⟩ (o := 1) rfl) (cs := [iv x2.pos.Line, iv x2.pos.Col])) (pv (r_fa rfl underlying89 rfl sizeOf29 rfl) (wl rfl (st0B (q := 0) hS15 ⟨rfl, rfl⟩ rfl rfl rfl sizeOf29 rfl rfl rfl fun w15 im15 hS19 => ?_))))))))
    refine nil (t_then ?_)
    refine sq2 (rg (pv (r_ms rfl) (pv (r_ldS rfl isAgg89 sizeOf89 rfl (hS19.cells0 (i := 0) ⟨rfl, rfl⟩ (o := 0) rfl) (cs := [iv y3.1.Kind, .string ⟨y3.1.Text.toArray⟩, .int .u32 y3.1.Num, iv x2.pos.Line, iv x2.pos.Col])) (wl rfl (bsS (r := rGToken) (l := ([{ y3.1 with Pos := x2.pos }] : List GToken)) (css := [[iv y3.1.Kind, .string ⟨y3.1.Text.toArray⟩, .int .u32 y3.1.Num, iv x2.pos.Line, iv x2.pos.Col]]) hS19 underlying38 sizeOf89 zeroValue89 rfl rfl (by kernel_rfl) rfl ⟨(rGToken_mk (x := { y3.1 with Pos := x2.pos })  : rGToken.rp _ _ _ _), trivial⟩ rfl rfl fun w16 a2 n2 c2 im16 hS20 => ?_)))))
    obtain ⟨z_1, hro1, hm⟩ := bindS hm
    refine wl rfl (apO (q := 2) (l := x1) (us := ([{ y3.1 with Pos := x2.pos }] : List GToken)) hS20 ⟨rfl, rfl⟩ rfl rfl (hS20.own (i := 0) ⟨rfl, rfl⟩).v underlying38 el89 (room_some hro1) fun w17 a3 n3 c3 im17 hS21 => ?_)
    refine pv (r_zs rfl) (nil (t_then ?_))
    obtain ⟨y4, hx4, hm⟩ := bindS hm
    refine rg (pv (r_mp rfl) (pv (r_fa rfl underlying89 rfl sizeOf9 rfl) (pv (r_ld rfl isAgg9 (hS21.cell0 (i := 1) ⟨rfl, rfl⟩ (j := 1) rfl)) (pv (r_lnt rfl underlying9) (wl rfl (calS cf28 rfl (lex_scanner_skip_sim (p0 := x2) (H_p0 := boxA b2) (p1 := (List.length y3.1.Text : Int)) (hS21.bun [2, 4, 5] [3] rfl) (lnBox b2) hx4) rfl fun v4 T5 w18 im18 rv4 => ?_))))))
    obtain ⟨rfl, hS22, _⟩ := rv4
    have hS22 := hS22.unb
    have hm := oI hm; subst hm
    exact nil (t_blk (t_then ⟨m1, Nat.lt_succ_self _, _, _, y4, (x1 ++ ([{ y3.1 with Pos := x2.pos }] : List GToken)), _, _, _, env_has ⟨rfl, rfl, rfl, trivial⟩, (iT im5 (iT im6 (iT im10 (iT im11 (iT im12 (iT im15 (iT im16 (iT im17 im18)))))))), hS22.sel [0, 3, 1, 2] rfl, hn1⟩))
  have hm := cfalse hb2 hm
  have hm := oI hm; subst hm
  have hn1 : _ = Lp.brk _ := hn1
  subst hn1
  have hm := thn_brk hq1
  refine xt (x_then (x_then (x_eq (t_then ?_))))
  refine sq2 (rs [0, 0, 0, 0, 1, 0, 2, 0] [0, 1, 2, 3, 4, 5, 6, 7] mix (by kernel_rfl) hS7.lt fun w19 i4 => ?_)
  have im19 := i4.imm
  have hS23 := hS7.keep i4 (fun _ h => h)
  refine s0 rfl trivial (fun _ => r_ms rfl) rfl (s0 rfl trivial (fun _ => r_mp rfl) rfl (s0 rfl trivial (fun _ => r_nc rfl) rfl (s0 rfl trivial (fun _ => r_fa rfl underlying84 rfl sizeOf29 rfl) rfl (s1 rfl trivial (r_ldS rfl isAgg29 sizeOf29 rfl (hS23.cells0 (i := 1) ⟨rfl, rfl⟩ (o := 1) rfl) (cs := [iv x2.pos.Line, iv x2.pos.Col])) rfl (s0 rfl trivial (fun _ => r_zs rfl) rfl (s2 [] rfl trivial rfl (by kernel_rfl) (st0B (q := 2) hS23 ⟨rfl, rfl⟩ rfl rfl rfl sizeOf29 rfl rfl rfl fun w20 im20 hS24 => ?_)))))))
  refine ⟨st0, ?_⟩
  refine s0 rfl trivial (fun _ => r_zi rfl) rfl (se (t_then ?_))
  have hm := oI hm; subst hm
  exact rtn (retN (vs := [.slice a1 n1 c1, .agg #[iv x2.pos.Line, iv x2.pos.Col], iv 0]) rfl ⟨rfl, rvS rfl isAgg29 sizeOf29 rfl (hS24.bx (i := 2) ⟨rfl, rfl⟩), rfl, trivial⟩ rfl ⟨_, rfl, _, (iT im1 (iT im2 (iT im5 (iT im19 im20)))), ⟨_, _, _, rfl, hS24.sel [3, 0] rfl, trivial⟩⟩)

theorem tree_reader_pos_sim {p0 : TreeReader} {b_p0 o_p0 : Nat} {H_p0 : List Value → Assn} {a1 : OA} {c1 : Nat} {r : Pos} (hS : Sep g T0 w0 [R, H_p0 [sv a1 p0.l c1, iv p0.end_.Line, iv p0.end_.Col, iv p0.depth]]) (hL_p0 : Ln b_p0 o_p0 H_p0) (h1 : SlR rGToken T0 w0 (sv a1 p0.l c1) p0.l) (hm : tree_reader_pos p0 = some r) :
    Calls Tryz.prog 59 #[pt b_p0 o_p0] w0 (RetS T0 w0 fun T w v => v = .agg #[iv r.Line, iv r.Col] ∧ Sep g T w [R, H_p0 [sv a1 p0.l c1, iv p0.end_.Line, iv p0.end_.Col, iv p0.depth]] ∧ True) := by
  refine enter (args := [pt b_p0 o_p0]) Tryz.func59 rfl Tryz.ntmps59 rfl fun J => ?_
  unfold tree_reader_pos at hm
  refine sq2 (rg (wl rfl (alS (zs := [iv 0, iv 0]) zeroValue29 rfl hS fun w1 b1 im1 hS1 => ?_)))
  refine nil (t_then ?_)
  refine sq2 (sq2 (rg (pv (r_mp rfl) (pv (r_nc rfl) (pv (r_fa rfl underlying43 rfl sizeOf38 rfl) (pv (r_ld rfl isAgg38 (hS1.cellB (i := 2) ⟨rfl, rfl⟩ hL_p0 (j := 0) rfl)) (pv (r_ln rfl underlying38) (pv (r_ib rfl rfl rfl) (nil (t_then ?_))))))))))
  refine cnd rfl (fun hb1 => ?_) (fun hb1 => ?_)
  · have hm := ctrue hb1 hm
    refine sq2 (rg (pv (r_mp rfl) (pv (r_nc rfl) (pv (r_fa rfl underlying43 rfl sizeOf29 rfl) (pv (r_ldS rfl isAgg29 sizeOf29 rfl ((hS1.cellsB (i := 2) ⟨rfl, rfl⟩ hL_p0).sub 1 rfl) (cs := [iv p0.end_.Line, iv p0.end_.Col])) (wl rfl (st0B (q := 0) hS1 ⟨rfl, rfl⟩ rfl rfl rfl sizeOf29 rfl rfl rfl fun w2 im2 hS2 => ?_)))))))
    refine nil (t_then ?_)
    have hm := oI hm; subst hm
    exact rtn (r_then (retN (vs := [.agg #[iv p0.end_.Line, iv p0.end_.Col]]) rfl ⟨rvS rfl isAgg29 sizeOf29 rfl (hS2.bx (i := 0) ⟨rfl, rfl⟩), trivial⟩ rfl ⟨_, rfl, _, (iT im1 im2), ⟨rfl, hS2.sel [1, 2] rfl, trivial⟩⟩))
  have hm := cfalse hb1 hm
  refine skp (t_then ?_)
  refine sq2 ?_
  obtain ⟨u1, hx1, hm⟩ := bindS hm
  obtain ⟨b2, of1, cs1, k1, cp1, hv1, hp1, hl1, he1, hr1, hc1, hT1⟩ := (h1.mono im1).ixT hx1 rfl
  cases rGToken_open hr1
  refine rg (pv (r_mp rfl) (pv (r_nc rfl) (pv (r_fa rfl underlying43 rfl sizeOf38 rfl) (pv (r_ld rfl isAgg38 (hS1.cellB (i := 2) ⟨rfl, rfl⟩ hL_p0 (j := 0) rfl)) (pv (r_ixe hv1 rfl underlying38 sizeOf89 hp1 hl1 he1) (pv (r_fa rfl underlying89 rfl sizeOf29 rfl) (pv (r_ldS rfl isAgg29 sizeOf29 rfl (hc1.sub 3 rfl) (cs := [iv u1.Pos.Line, iv u1.Pos.Col])) (wl rfl (st0B (q := 0) hS1 ⟨rfl, rfl⟩ rfl rfl rfl sizeOf29 rfl rfl rfl fun w3 im3 hS3 => ?_)))))))))
  refine nil (t_then ?_)
  have hm := oI hm; subst hm
  exact rtn (retN (vs := [.agg #[iv u1.Pos.Line, iv u1.Pos.Col]]) rfl ⟨rvS rfl isAgg29 sizeOf29 rfl (hS3.bx (i := 0) ⟨rfl, rfl⟩), trivial⟩ rfl ⟨_, rfl, _, (iT im1 im3), ⟨rfl, hS3.sel [1, 2] rfl, trivial⟩⟩)

theorem tree_reader_peek_sim {p0 : TreeReader} {b_p0 o_p0 : Nat} {H_p0 : List Value → Assn} {a1 : OA} {c1 : Nat} {p1 : Int} {p2 : List UInt8} {r : Bool} (hS : Sep g T0 w0 [R, H_p0 [sv a1 p0.l c1, iv p0.end_.Line, iv p0.end_.Col, iv p0.depth]]) (hL_p0 : Ln b_p0 o_p0 H_p0) (h1 : SlR rGToken T0 w0 (sv a1 p0.l c1) p0.l) (hm : tree_reader_peek p0 p1 p2 = some r) :
    Calls Tryz.prog 61 #[pt b_p0 o_p0, iv p1, .string ⟨p2.toArray⟩] w0 (RetS T0 w0 fun T w v => v = .bool r ∧ Sep g T w [R, H_p0 [sv a1 p0.l c1, iv p0.end_.Line, iv p0.end_.Col, iv p0.depth]] ∧ True) := by
  refine enter (args := [pt b_p0 o_p0, iv p1, .string ⟨p2.toArray⟩]) Tryz.func61 rfl Tryz.ntmps61 rfl fun J => ?_
  unfold tree_reader_peek at hm
  refine sq2 (rg (pv (r_zb rfl) (nil (t_then ?_))))
  refine sq2 (rg (pv (r_mi rfl) (pv (r_mp rfl) (pv (r_nc rfl) (pv (r_fa rfl underlying43 rfl sizeOf38 rfl) (pv (r_ld rfl isAgg38 (hS.cellB (i := 1) ⟨rfl, rfl⟩ hL_p0 (j := 0) rfl)) (pv (r_ln rfl underlying38) (pv (r_ib rfl rfl rfl) (pv (r_mb rfl) (?_))))))))))
  rcases Bool.eq_false_or_eq_true (decide (p1 < (List.length p0.l : Int))) with hb1 | hb1
  · have hm := ctrue hb1 hm
    obtain ⟨u1, hx1, hm⟩ := bindS hm
    obtain ⟨b1, of1, cs1, k1, cp1, hv1, hp1, hl1, he1, hr1, hc1, hT1⟩ := h1.ixT hx1 rfl
    cases rGToken_open hr1
    refine gT (d0 := 14) rfl rfl hb1 (pv (r_mp rfl) (gT (d0 := 14) rfl rfl hb1 (pv (r_nc rfl) (gT (d0 := 14) rfl rfl hb1 (pv (r_fa rfl underlying43 rfl sizeOf38 rfl) (gT (d0 := 14) rfl rfl hb1 (pv (r_ld rfl isAgg38 (hS.cellB (i := 1) ⟨rfl, rfl⟩ hL_p0 (j := 0) rfl)) (gT (d0 := 14) rfl rfl hb1 (pv (r_mi rfl) (gT (d0 := 14) rfl rfl hb1 (pv (r_ixe hv1 rfl underlying38 sizeOf89 hp1 hl1 he1) (gT (d0 := 14) rfl rfl hb1 (pv (r_fa rfl underlying89 rfl sizeOf9 rfl) (gT (d0 := 14) rfl rfl hb1 (pv (r_ld rfl isAgg9 (hc1.get (j := 1) rfl)) (gT (d0 := 14) rfl rfl hb1 (pv (r_mt rfl) (gT (d0 := 14) rfl rfl hb1 (pv (r_sqL rfl rfl) (pv (r_pkt rfl hb1 rfl) (pv (r_mb rfl) (?_))))))))))))))))))))))
    rcases Bool.eq_false_or_eq_true (decide (u1.Text = p2)) with hb2 | hb2
    · have hm := ctrue hb2 hm
      obtain ⟨u2, hx2, hm⟩ := bindS hm
      obtain ⟨b2, of2, cs2, k2, cp2, hv2, hp2, hl2, he2, hr2, hc2, hT2⟩ := h1.ixT hx2 rfl
      cases rGToken_open hr2
      refine gT (d0 := 26) rfl rfl hb2 (pv (r_mp rfl) (gT (d0 := 26) rfl rfl hb2 (pv (r_nc rfl) (gT (d0 := 26) rfl rfl hb2 (pv (r_fa rfl underlying43 rfl sizeOf38 rfl) (gT (d0 := 26) rfl rfl hb2 (pv (r_ld rfl isAgg38 (hS.cellB (i := 1) ⟨rfl, rfl⟩ hL_p0 (j := 0) rfl)) (gT (d0 := 26) rfl rfl hb2 (pv (r_mi rfl) (gT (d0 := 26) rfl rfl hb2 (pv (r_ixe hv2 rfl underlying38 sizeOf89 hp2 hl2 he2) (gT (d0 := 26) rfl rfl hb2 (pv (r_fa rfl underlying89 rfl sizeOf3 rfl) (gT (d0 := 26) rfl rfl hb2 (pv (r_ld rfl isAgg3 (hc2.get (j := 0) rfl)) (gT (d0 := 26) rfl rfl hb2 (pv (r_ib rfl rfl rfl) (gT (d0 := 26) rfl rfl hb2 (pv (r_mb rfl) (?_))))))))))))))))))))
      rcases Bool.eq_false_or_eq_true (u2.Kind == 2) with hb3 | hb3
      · have hm := ctrue hb3 hm
        refine gF (d0 := 36) rfl rfl (by rw [hb3]; rfl) (gF (d0 := 36) rfl rfl (by rw [hb3]; rfl) (gF (d0 := 36) rfl rfl (by rw [hb3]; rfl) (gF (d0 := 36) rfl rfl (by rw [hb3]; rfl) (gF (d0 := 36) rfl rfl (by rw [hb3]; rfl) (gF (d0 := 36) rfl rfl (by rw [hb3]; rfl) (gF (d0 := 36) rfl rfl (by rw [hb3]; rfl) (gF (d0 := 36) rfl rfl (by rw [hb3]; rfl) (gF (d0 := 36) rfl rfl (by rw [hb3]; rfl) (gT (d0 := 26) rfl rfl hb2 (pv (r_pkt rfl hb3 rfl) (pv (r_pkt rfl hb2 rfl) (pv (r_zb rfl) (nil (t_thenR [(6, .bool true)] ⟨rfl, trivial⟩ fun J => ?_))))))))))))))
        have hm := oI hm; subst hm
        exact rtn (ret1 rfl rfl ⟨_, rfl, _, Im.refl, ⟨rfl, hS.sel [0, 1] rfl, trivial⟩⟩)
      have hm := cfalse hb3 hm
      obtain ⟨u3, hx3, hm⟩ := bindS hm
      obtain ⟨b3, of3, cs3, k3, cp3, hv3, hp3, hl3, he3, hr3, hc3, hT3⟩ := h1.ixT hx3 rfl
      cases rGToken_open hr3
      refine gT (d0 := 36) rfl rfl hb3 (pv (r_mp rfl) (gT (d0 := 36) rfl rfl hb3 (pv (r_nc rfl) (gT (d0 := 36) rfl rfl hb3 (pv (r_fa rfl underlying43 rfl sizeOf38 rfl) (gT (d0 := 36) rfl rfl hb3 (pv (r_ld rfl isAgg38 (hS.cellB (i := 1) ⟨rfl, rfl⟩ hL_p0 (j := 0) rfl)) (gT (d0 := 36) rfl rfl hb3 (pv (r_mi rfl) (gT (d0 := 36) rfl rfl hb3 (pv (r_ixe hv3 rfl underlying38 sizeOf89 hp3 hl3 he3) (gT (d0 := 36) rfl rfl hb3 (pv (r_fa rfl underlying89 rfl sizeOf3 rfl) (gT (d0 := 36) rfl rfl hb3 (pv (r_ld rfl isAgg3 (hc3.get (j := 0) rfl)) (gT (d0 := 36) rfl rfl hb3 (pv (r_ib rfl rfl rfl) (gT (d0 := 26) rfl rfl hb2 (pv (r_pkf rfl hb3 rfl) (pv (r_pkt rfl hb2 rfl) (pv (r_zb rfl) (nil (t_thenR [(6, .bool (u3.Kind == 4))] ⟨rfl, trivial⟩ fun J => ?_)))))))))))))))))))))))
      have hm := oI hm; subst hm
      exact rtn (ret1 rfl rfl ⟨_, rfl, _, Im.refl, ⟨rfl, hS.sel [0, 1] rfl, trivial⟩⟩)
    have hm := cfalse hb2 hm
    refine gF (d0 := 26) rfl rfl (by rw [hb2]; rfl) (gF (d0 := 26) rfl rfl (by rw [hb2]; rfl) (gF (d0 := 26) rfl rfl (by rw [hb2]; rfl) (gF (d0 := 26) rfl rfl (by rw [hb2]; rfl) (gF (d0 := 26) rfl rfl (by rw [hb2]; rfl) (gF (d0 := 26) rfl rfl (by rw [hb2]; rfl) (gF (d0 := 26) rfl rfl (by rw [hb2]; rfl) (gF (d0 := 26) rfl rfl (by rw [hb2]; rfl) (gF (d0 := 26) rfl rfl (by rw [hb2]; rfl) (gF (d0 := 26) rfl rfl (by rw [hb2]; rfl) (gU (d0 := 36) rfl rfl (gU (d0 := 36) rfl rfl (gU (d0 := 36) rfl rfl (gU (d0 := 36) rfl rfl (gU (d0 := 36) rfl rfl (gU (d0 := 36) rfl rfl (gU (d0 := 36) rfl rfl (gU (d0 := 36) rfl rfl (gU (d0 := 36) rfl rfl (gF (d0 := 26) rfl rfl (by rw [hb2]; rfl) (pv (r_pkf rfl hb2 rfl) (pv (r_zb rfl) (nil (t_thenR [(6, .bool false)] ⟨rfl, trivial⟩ fun J => ?_)))))))))))))))))))))))
    have hm := oI hm; subst hm
    exact rtn (ret1 rfl rfl ⟨_, rfl, _, Im.refl, ⟨rfl, hS.sel [0, 1] rfl, trivial⟩⟩)
  have hm := cfalse hb1 hm
  refine gF (d0 := 14) rfl rfl (by rw [hb1]; rfl) (gF (d0 := 14) rfl rfl (by rw [hb1]; rfl) (gF (d0 := 14) rfl rfl (by rw [hb1]; rfl) (gF (d0 := 14) rfl rfl (by rw [hb1]; rfl) (gF (d0 := 14) rfl rfl (by rw [hb1]; rfl) (gF (d0 := 14) rfl rfl (by rw [hb1]; rfl) (gF (d0 := 14) rfl rfl (by rw [hb1]; rfl) (gF (d0 := 14) rfl rfl (by rw [hb1]; rfl) (gF (d0 := 14) rfl rfl (by rw [hb1]; rfl) (gF (d0 := 14) rfl rfl (by rw [hb1]; rfl) (pv (r_pkf rfl hb1 rfl) (pv (r_mb rfl) (gF (d0 := 26) rfl rfl rfl (gF (d0 := 26) rfl rfl rfl (gF (d0 := 26) rfl rfl rfl (gF (d0 := 26) rfl rfl rfl (gF (d0 := 26) rfl rfl rfl (gF (d0 := 26) rfl rfl rfl (gF (d0 := 26) rfl rfl rfl (gF (d0 := 26) rfl rfl rfl (gF (d0 := 26) rfl rfl rfl (gF (d0 := 26) rfl rfl rfl (gU (d0 := 36) rfl rfl (gU (d0 := 36) rfl rfl (gU (d0 := 36) rfl rfl (gU (d0 := 36) rfl rfl (gU (d0 := 36) rfl rfl (gU (d0 := 36) rfl rfl (gU (d0 := 36) rfl rfl (gU (d0 := 36) rfl rfl (gU (d0 := 36) rfl rfl (gF (d0 := 26) rfl rfl rfl (pv (r_pkf rfl rfl rfl) (pv (r_zb rfl) (nil (t_thenR [(6, .bool false)] ⟨rfl, trivial⟩ fun J => ?_)))))))))))))))))))))))))))))))))))
  have hm := oI hm; subst hm
  exact rtn (ret1 rfl rfl ⟨_, rfl, _, Im.refl, ⟨rfl, hS.sel [0, 1] rfl, trivial⟩⟩)

theorem tree_reader_is_sim {p0 : TreeReader} {b_p0 o_p0 : Nat} {H_p0 : List Value → Assn} {a1 : OA} {c1 : Nat} {p1 : List UInt8} {r : Bool} (hS : Sep g T0 w0 [R, H_p0 [sv a1 p0.l c1, iv p0.end_.Line, iv p0.end_.Col, iv p0.depth]]) (hL_p0 : Ln b_p0 o_p0 H_p0) (h1 : SlR rGToken T0 w0 (sv a1 p0.l c1) p0.l) (hm : tree_reader_is p0 p1 = some r) :
    Calls Tryz.prog 60 #[pt b_p0 o_p0, .string ⟨p1.toArray⟩] w0 (RetS T0 w0 fun T w v => v = .bool r ∧ Sep g T w [R, H_p0 [sv a1 p0.l c1, iv p0.end_.Line, iv p0.end_.Col, iv p0.depth]] ∧ True) := by
  refine enter (args := [pt b_p0 o_p0, .string ⟨p1.toArray⟩]) Tryz.func60 rfl Tryz.ntmps60 rfl fun J => ?_
  unfold tree_reader_is at hm
  refine sq2 (rg (pv (r_zb rfl) (nil (t_then ?_))))
  refine sq2 ?_
  obtain ⟨y1, hx1, hm⟩ := bindS hm
  refine rg (pv (r_mp rfl) (pv (r_mt rfl) (wl rfl (calS cf61 rfl (tree_reader_peek_sim (p0 := p0) (H_p0 := H_p0) (p1 := 0) (p2 := p1) (hS.bun [0] [1] rfl) hL_p0 h1 hx1) rfl fun v1 T1 w1 im1 rv1 => ?_))))
  obtain ⟨rfl, hS1, _⟩ := rv1
  have hS1 := hS1.unb
  refine pv (r_zb rfl) (nil (t_then ?_))
  have hm := oI hm; subst hm
  exact rtn (ret1 rfl rfl ⟨_, rfl, _, im1, ⟨rfl, hS1.sel [0, 1] rfl, trivial⟩⟩)

theorem tree_reader_take_sim {p0 : TreeReader} {b_p0 o_p0 : Nat} {H_p0 : List Value → Assn} {a1 : OA} {c1 : Nat} {p1 : List UInt8} {r : Bool × TreeReader} (hS : Sep g T0 w0 [R, H_p0 [sv a1 p0.l c1, iv p0.end_.Line, iv p0.end_.Col, iv p0.depth]]) (hL_p0 : Ln b_p0 o_p0 H_p0) (h1 : SlR rGToken T0 w0 (sv a1 p0.l c1) p0.l) (hm : tree_reader_take p0 p1 = some r) :
    Calls Tryz.prog 82 #[pt b_p0 o_p0, .string ⟨p1.toArray⟩] w0 (RetS T0 w0 fun T w v => ∃ (a3 : OA) (c3 : Nat), v = .bool r.1 ∧ Sep g T w [R, H_p0 [sv a3 r.2.l c3, iv r.2.end_.Line, iv r.2.end_.Col, iv r.2.depth]] ∧ SlR rGToken T w (sv a3 r.2.l c3) r.2.l ∧ True) := by
  refine enter (args := [pt b_p0 o_p0, .string ⟨p1.toArray⟩]) Tryz.func82 rfl Tryz.ntmps82 rfl fun J => ?_
  unfold tree_reader_take at hm
  refine sq2 (rg (pv (r_zb rfl) (nil (t_then ?_))))
  refine sq2 (sq2 ?_)
  obtain ⟨y1, hx1, hm⟩ := bindS hm
  refine rg (pv (r_mp rfl) (pv (r_mt rfl) (wl rfl (calS cf60 rfl (tree_reader_is_sim (p0 := p0) (H_p0 := H_p0) (p1 := p1) (hS.bun [0] [1] rfl) hL_p0 h1 hx1) rfl fun v1 T1 w1 im1 rv1 => ?_))))
  obtain ⟨rfl, hS1, _⟩ := rv1
  have hS1 := hS1.unb
  refine pv (r_nt rfl) (nil (t_then ?_))
  refine cnd rfl (fun hb1 => ?_) (fun hb1 => ?_)
  · have hm := ctrue hb1 hm
    refine sq2 (rg (pv (r_zb rfl) (nil (t_then ?_))))
    have hm := oI hm; subst hm
    exact rtn (r_then (ret1 rfl rfl ⟨_, rfl, _, im1, ⟨_, _, rfl, hS1.sel [0, 1] rfl, (h1.mono im1), trivial⟩⟩))
  have hm := cfalse hb1 hm
  refine skp (t_then ?_)
  refine sq2 ?_
  obtain ⟨u1, hx2, hm⟩ := bindS hm
  obtain ⟨a2, c2, he1, h2⟩ := (h1.mono im1).part hx2
  refine rg (pv (r_mp rfl) (pv (r_mp rfl) (pv (r_nc rfl) (pv (r_fa rfl underlying43 rfl sizeOf38 rfl) (pv (r_ld rfl isAgg38 (hS1.cellB (i := 1) ⟨rfl, rfl⟩ hL_p0 (j := 0) rfl)) (pv (r_slR rfl (h1.mono im1) ⟨_, rfl⟩ rfl hx2 underlying38 sizeOf89 rfl he1) (pv (r_nc rfl) (pv (r_fa rfl underlying43 rfl sizeOf38 rfl) (wl rfl (stB (q := 1) (j := 0) hS1 ⟨rfl, rfl⟩ hL_p0 rfl rfl rfl sizeOf38 rfl rfl rfl fun w2 im2 hS2 => ?_))))))))))
  refine nil (t_then ?_)
  refine sq2 (rg (pv (r_zb rfl) (nil (t_then ?_))))
  have hm := oI hm; subst hm
  exact rtn (ret1 rfl rfl ⟨_, rfl, _, (iT im1 im2), ⟨_, _, rfl, hS2.sel [0, 1] rfl, (h2.mono im2), trivial⟩⟩)

theorem tree_reader_fail_sim {p0 : TreeReader} {b_p0 o_p0 : Nat} {H_p0 : List Value → Assn} {a1 : OA} {c1 : Nat} {p1 : Int} {r : Except (TreeRefused) (Unit)} (hS : Sep g T0 w0 [R, H_p0 [sv a1 p0.l c1, iv p0.end_.Line, iv p0.end_.Col, iv p0.depth]]) (hL_p0 : Ln b_p0 o_p0 H_p0) (h1 : SlR rGToken T0 w0 (sv a1 p0.l c1) p0.l) (hm : tree_reader_fail p0 p1 = some r) :
    Calls Tryz.prog 83 #[pt b_p0 o_p0, iv p1] w0 (exR r (fun r => RetS T0 w0 fun T w v => v = .tuple #[] ∧ Sep g T w [R, H_p0 [sv a1 p0.l c1, iv p0.end_.Line, iv p0.end_.Col, iv p0.depth]] ∧ True) (fun r => PanS T0 w0 fun T w v => v = .iface 48 (.agg (cTreeRefused r).toArray) ∧ Sep g T w [R, H_p0 [sv a1 p0.l c1, iv p0.end_.Line, iv p0.end_.Col, iv p0.depth]] ∧ True)) := by
  refine enter (args := [pt b_p0 o_p0, iv p1]) Tryz.func83 rfl Tryz.ntmps83 rfl fun J => ?_
  unfold tree_reader_fail at hm
  obtain ⟨y1, hx1, hm⟩ := bindS hm
  refine rg (pv (r_mp rfl) (wl rfl (calS cf59 rfl (tree_reader_pos_sim (p0 := p0) (H_p0 := H_p0) (hS.bun [0] [1] rfl) hL_p0 h1 hx1) rfl fun v1 T1 w1 im1 rv1 => ?_)))
  obtain ⟨rfl, hS1, _⟩ := rv1
  have hS1 := hS1.unb
  refine pv (r_mi rfl) (pv (r_bd (by kernel_rfl) rfl (u := .agg #[iv y1.Line, iv y1.Col, iv p1])) (pv (r_mif rfl underlying48) (wl rfl (panO rfl ?_))))
  have hm := oI hm; subst hm
  exact panE ⟨_, rfl, _, im1, ⟨rfl, hS1.sel [0, 1] rfl, trivial⟩⟩

theorem tree_reader_must_sim {p0 : TreeReader} {b_p0 o_p0 : Nat} {H_p0 : List Value → Assn} {a1 : OA} {c1 : Nat} {p1 : List UInt8} {r : Except (TreeRefused × TreeReader) (TreeReader)} (hS : Sep g T0 w0 [R, H_p0 [sv a1 p0.l c1, iv p0.end_.Line, iv p0.end_.Col, iv p0.depth]]) (hL_p0 : Ln b_p0 o_p0 H_p0) (h1 : SlR rGToken T0 w0 (sv a1 p0.l c1) p0.l) (hm : tree_reader_must p0 p1 = some r) :
    Calls Tryz.prog 62 #[pt b_p0 o_p0, .string ⟨p1.toArray⟩] w0 (exR r (fun r => RetS T0 w0 fun T w v => ∃ (a3 : OA) (c3 : Nat), v = .tuple #[] ∧ Sep g T w [R, H_p0 [sv a3 r.l c3, iv r.end_.Line, iv r.end_.Col, iv r.depth]] ∧ SlR rGToken T w (sv a3 r.l c3) r.l ∧ True) (fun r => PanS T0 w0 fun T w v => ∃ (a3 : OA) (c3 : Nat), v = .iface 48 (.agg (cTreeRefused r.1).toArray) ∧ Sep g T w [R, H_p0 [sv a3 r.2.l c3, iv r.2.end_.Line, iv r.2.end_.Col, iv r.2.depth]] ∧ SlR rGToken T w (sv a3 r.2.l c3) r.2.l ∧ True)) := by
  refine enter (args := [pt b_p0 o_p0, .string ⟨p1.toArray⟩]) Tryz.func62 rfl Tryz.ntmps62 rfl fun J => ?_
  unfold tree_reader_must at hm
  refine sq2 ?_
  obtain ⟨y1, hx1, hm⟩ := bindS hm
  refine rg (pv (r_mp rfl) (pv (r_mt rfl) (wl rfl (calS cf82 rfl (tree_reader_take_sim (p0 := p0) (H_p0 := H_p0) (p1 := p1) (hS.bun [0] [1] rfl) hL_p0 h1 hx1) rfl fun v1 T1 w1 im1 rv1 => ?_))))
  obtain ⟨a2, c2, rfl, hS1, h2, _⟩ := rv1
  have hS1 := hS1.unb
  refine pv (r_nt rfl) (nil (t_then ?_))
  refine cnd rfl (fun hb1 => ?_) (fun hb1 => ?_)
  · have hm := ctrue hb1 hm
    refine rg (pv (r_mp rfl) (?_))
    obtain ⟨y2, hx2, hm⟩ := bindS hm
    rcases y2 with e1 | y2
    · have hm := exC_error hm
      refine wl rfl (calP cf83 rfl (tree_reader_fail_sim (p0 := y1.2) (H_p0 := H_p0) (p1 := 3) (hS1.bun [0] [1] rfl) hL_p0 h2 hx2) rfl fun v3 T3 w3 im3 rv3 => ?_)
      obtain ⟨rfl, hS3, _⟩ := rv3
      have hS3 := hS3.unb
      have hm := oI hm; subst hm
      exact panE ⟨_, rfl, _, (iT im1 im3), ⟨_, _, rfl, hS3.sel [0, 1] rfl, (h2.mono im3), trivial⟩⟩
    have hm := exC_ok hm
    refine wl rfl (calS cf83 rfl (tree_reader_fail_sim (p0 := y1.2) (H_p0 := H_p0) (p1 := 3) (hS1.bun [0] [1] rfl) hL_p0 h2 hx2) rfl fun v2 T2 w2 im2 rv2 => ?_)
    obtain ⟨rfl, hS2, _⟩ := rv2
    have hS2 := hS2.unb
    have hm := oI hm; subst hm
    exact nil (end0 rfl ⟨_, rfl, _, (iT im1 im2), ⟨_, _, rfl, hS2.sel [0, 1] rfl, (h2.mono im2), trivial⟩⟩)
  have hm := cfalse hb1 hm
  have hm := oI hm; subst hm
  exact skp (end0 rfl ⟨_, rfl, _, im1, ⟨_, _, rfl, hS1.sel [0, 1] rfl, h2, trivial⟩⟩)

theorem tree_reader_kind_sim {p0 : TreeReader} {b_p0 o_p0 : Nat} {H_p0 : List Value → Assn} {a1 : OA} {c1 : Nat} {p1 : Int} {r : Except (TreeRefused × TreeReader) (GToken × TreeReader)} (hS : Sep g T0 w0 [R, H_p0 [sv a1 p0.l c1, iv p0.end_.Line, iv p0.end_.Col, iv p0.depth]]) (hL_p0 : Ln b_p0 o_p0 H_p0) (h1 : SlR rGToken T0 w0 (sv a1 p0.l c1) p0.l) (hm : tree_reader_kind p0 p1 = some r) :
    Calls Tryz.prog 84 #[pt b_p0 o_p0, iv p1] w0 (exR r (fun r => RetS T0 w0 fun T w v => ∃ (a3 : OA) (c3 : Nat), v = .agg (cGToken r.1).toArray ∧ Sep g T w [R, H_p0 [sv a3 r.2.l c3, iv r.2.end_.Line, iv r.2.end_.Col, iv r.2.depth]] ∧ SlR rGToken T w (sv a3 r.2.l c3) r.2.l ∧ True) (fun r => PanS T0 w0 fun T w v => ∃ (a3 : OA) (c3 : Nat), v = .iface 48 (.agg (cTreeRefused r.1).toArray) ∧ Sep g T w [R, H_p0 [sv a3 r.2.l c3, iv r.2.end_.Line, iv r.2.end_.Col, iv r.2.depth]] ∧ SlR rGToken T w (sv a3 r.2.l c3) r.2.l ∧ True)) := by
  refine enter (args := [pt b_p0 o_p0, iv p1]) Tryz.func84 rfl Tryz.ntmps84 rfl fun J => ?_
  unfold tree_reader_kind at hm
  refine sq2 (rg (wl rfl (alS (zs := [iv 0, .string ⟨([] : List UInt8).toArray⟩, .int .u32 0, iv 0, iv 0]) zeroValue89 rfl hS fun w1 b1 im1 hS1 => ?_)))
  refine nil (t_then ?_)
  obtain ⟨kk1, hkk1, hm⟩ := jn_open hm
  refine cut (fun a w2 => ∃ (J : JV) (T1 : TP) , a = env (nf 40) J [(0, pt b_p0 o_p0), (4, pt b1 0)] ∧ Im T0 w1 T1 w2 ∧ Sep g T1 w2 [boxA b1 [iv 0, .string ⟨([] : List UInt8).toArray⟩, .int .u32 0, iv 0, iv 0], R, H_p0 [sv a1 p0.l c1, iv p0.end_.Line, iv p0.end_.Col, iv p0.depth]] ∧ kk1 () = some r) ?_ ?_
  · refine sq2 (rg (pv (r_mp rfl) (pv (r_nc rfl) (pv (r_fa rfl underlying43 rfl sizeOf38 rfl) (pv (r_ld rfl isAgg38 (hS1.cellB (i := 2) ⟨rfl, rfl⟩ hL_p0 (j := 0) rfl)) (pv (r_ln rfl underlying38) (pv (r_ib rfl rfl rfl) (pv (r_mb rfl) (?_)))))))))
    rcases Bool.eq_false_or_eq_true ((List.length p0.l : Int) == 0) with hb1 | hb1
    · have hm := ctrue hb1 hm
      refine gF (d0 := 12) rfl rfl (by rw [hb1]; rfl) (gF (d0 := 12) rfl rfl (by rw [hb1]; rfl) (gF (d0 := 12) rfl rfl (by rw [hb1]; rfl) (gF (d0 := 12) rfl rfl (by rw [hb1]; rfl) (gF (d0 := 12) rfl rfl (by rw [hb1]; rfl) (gF (d0 := 12) rfl rfl (by rw [hb1]; rfl) (gF (d0 := 12) rfl rfl (by rw [hb1]; rfl) (gF (d0 := 12) rfl rfl (by rw [hb1]; rfl) (gF (d0 := 12) rfl rfl (by rw [hb1]; rfl) (pv (r_pkt rfl hb1 rfl) (nil (t_then ?_)))))))))))
      refine cnd (b := true) rfl (fun _ => ?_) (fun h => nomatch h)
      refine rg (pv (r_mp rfl) (?_))
      obtain ⟨y2, hx3, hm⟩ := bindS hm
      rcases y2 with e2 | y2
      · have hm := exC_error hm
        refine wl rfl (calP cf83 rfl (tree_reader_fail_sim (p0 := p0) (H_p0 := H_p0) (p1 := 3) (hS1.bun [0, 1] [2] rfl) hL_p0 (h1.mono im1) hx3) rfl fun v4 T5 w6 im6 rv4 => ?_)
        obtain ⟨rfl, hS5, _⟩ := rv4
        have hS5 := hS5.unb
        have hm := oI hm; subst hm
        exact p_then (panE ⟨_, rfl, _, (iT im1 im6), ⟨_, _, rfl, hS5.sel [1, 2] rfl, (h1.mono (iT im1 im6)), trivial⟩⟩)
      have hm := exC_ok hm
      refine wl rfl (calS cf83 rfl (tree_reader_fail_sim (p0 := p0) (H_p0 := H_p0) (p1 := 3) (hS1.bun [0, 1] [2] rfl) hL_p0 (h1.mono im1) hx3) rfl fun v3 T4 w5 im5 rv3 => ?_)
      obtain ⟨rfl, hS4, _⟩ := rv3
      have hS4 := hS4.unb
      exact nil (t_then ⟨_, _, env_has ⟨rfl, rfl, trivial⟩, im5, hS4.sel [0, 1, 2] rfl, hm⟩)
    have hm := cfalse hb1 hm
    obtain ⟨u1, hx1, hm⟩ := bindS hm
    obtain ⟨b2, of1, cs1, k1, cp1, hv1, hp1, hl1, he1, hr1, hc1, hT1⟩ := (h1.mono im1).ixT hx1 rfl
    cases rGToken_open hr1
    refine gT (d0 := 12) rfl rfl hb1 (pv (r_mp rfl) (gT (d0 := 12) rfl rfl hb1 (pv (r_nc rfl) (gT (d0 := 12) rfl rfl hb1 (pv (r_fa rfl underlying43 rfl sizeOf38 rfl) (gT (d0 := 12) rfl rfl hb1 (pv (r_ld rfl isAgg38 (hS1.cellB (i := 2) ⟨rfl, rfl⟩ hL_p0 (j := 0) rfl)) (gT (d0 := 12) rfl rfl hb1 (pv (r_ixe hv1 rfl underlying38 sizeOf89 hp1 hl1 he1) (gT (d0 := 12) rfl rfl hb1 (pv (r_fa rfl underlying89 rfl sizeOf3 rfl) (gT (d0 := 12) rfl rfl hb1 (pv (r_ld rfl isAgg3 (hc1.get (j := 0) rfl)) (gT (d0 := 12) rfl rfl hb1 (pv (r_mi rfl) (gT (d0 := 12) rfl rfl hb1 (pv (r_ib rfl rfl rfl) (pv (r_pkf rfl hb1 rfl) (nil (t_then ?_))))))))))))))))))))
    refine cnd rfl (fun hb2 => ?_) (fun hb2 => ?_)
    · have hm := ctrue hb2 hm
      refine rg (pv (r_mp rfl) (?_))
      obtain ⟨y1, hx2, hm⟩ := bindS hm
      rcases y1 with e1 | y1
      · have hm := exC_error hm
        refine wl rfl (calP cf83 rfl (tree_reader_fail_sim (p0 := p0) (H_p0 := H_p0) (p1 := 3) (hS1.bun [0, 1] [2] rfl) hL_p0 (h1.mono im1) hx2) rfl fun v2 T3 w4 im4 rv2 => ?_)
        obtain ⟨rfl, hS3, _⟩ := rv2
        have hS3 := hS3.unb
        have hm := oI hm; subst hm
        exact p_then (panE ⟨_, rfl, _, (iT im1 im4), ⟨_, _, rfl, hS3.sel [1, 2] rfl, (h1.mono (iT im1 im4)), trivial⟩⟩)
      have hm := exC_ok hm
      refine wl rfl (calS cf83 rfl (tree_reader_fail_sim (p0 := p0) (H_p0 := H_p0) (p1 := 3) (hS1.bun [0, 1] [2] rfl) hL_p0 (h1.mono im1) hx2) rfl fun v1 T2 w3 im3 rv1 => ?_)
      obtain ⟨rfl, hS2, _⟩ := rv1
      have hS2 := hS2.unb
      exact nil (t_then ⟨_, _, env_has ⟨rfl, rfl, trivial⟩, im3, hS2.sel [0, 1, 2] rfl, hm⟩)
    have hm := cfalse hb2 hm
    exact skp (t_then ⟨_, _, env_has ⟨rfl, rfl, trivial⟩, Im.refl, hS1.sel [0, 1, 2] rfl, hm⟩)
  rintro _ w2 ⟨J, T1, rfl, im2, hS6, hm⟩
  rw [hkk1] at hm
  refine sq2 ?_
  obtain ⟨u4, hx4, hm⟩ := bindS hm
  obtain ⟨b3, of2, cs2, k2, cp2, hv2, hp2, hl2, he2, hr2, hc2, hT2⟩ := (h1.mono (iT im1 im2)).ixT hx4 rfl
  cases rGToken_open hr2
  refine rg (pv (r_mp rfl) (pv (r_nc rfl) (pv (r_fa rfl underlying43 rfl sizeOf38 rfl) (pv (r_ld rfl isAgg38 (hS6.cellB (i := 2) ⟨rfl, rfl⟩ hL_p0 (j := 0) rfl)) (pv (r_ixe hv2 rfl underlying38 sizeOf89 hp2 hl2 he2) (pv (r_ldS rfl isAgg89 sizeOf89 rfl hc2 (cs := (cGToken u4))) (wl rfl (alS (zs := [iv 0, .string ⟨([] : List UInt8).toArray⟩, .int .u32 0, iv 0, iv 0]) zeroValue89 rfl hS6 fun w7 b4 im7 hS7 => ?_))))))))
  refine wl rfl (st0B (q := 0) hS7 ⟨rfl, rfl⟩ rfl rfl rfl sizeOf89 rfl rfl rfl fun w8 im8 hS8 => ?_)
  refine nil (t_then ?_)
  refine sq2 ?_
  obtain ⟨u5, hx5, hm⟩ := bindS hm
  obtain ⟨a2, c2, he3, h2⟩ := (h1.mono (iT im1 (iT im2 (iT im7 im8)))).part hx5
  refine rg (pv (r_mp rfl) (pv (r_mp rfl) (pv (r_nc rfl) (pv (r_fa rfl underlying43 rfl sizeOf38 rfl) (pv (r_ld rfl isAgg38 (hS8.cellB (i := 3) ⟨rfl, rfl⟩ hL_p0 (j := 0) rfl)) (pv (r_slR rfl (h1.mono (iT im1 (iT im2 (iT im7 im8)))) ⟨_, rfl⟩ rfl hx5 underlying38 sizeOf89 rfl he3) (pv (r_nc rfl) (pv (r_fa rfl underlying43 rfl sizeOf38 rfl) (wl rfl (stB (q := 3) (j := 0) hS8 ⟨rfl, rfl⟩ hL_p0 rfl rfl rfl sizeOf38 rfl rfl rfl fun w9 im9 hS9 => ?_))))))))))
  refine nil (t_then ?_)
  refine sq2 (rg (pv (r_ldS rfl isAgg89 sizeOf89 rfl (hS9.cells0 (i := 0) ⟨rfl, rfl⟩ (o := 0) rfl) (cs := (cGToken u4))) (wl rfl (st0B (q := 1) hS9 ⟨rfl, rfl⟩ rfl rfl rfl sizeOf89 rfl rfl rfl fun w10 im10 hS10 => ?_))))
  refine nil (t_then ?_)
  have hm := oI hm; subst hm
  exact rtn (retN (vs := [.agg (cGToken u4).toArray]) rfl ⟨rvS rfl isAgg89 sizeOf89 rfl (hS10.bx (i := 1) ⟨rfl, rfl⟩), trivial⟩ rfl ⟨_, rfl, _, (iT im1 (iT im2 (iT im7 (iT im8 (iT im9 im10))))), ⟨_, _, rfl, hS10.sel [2, 3] rfl, (h2.mono (iT im9 im10)), trivial⟩⟩)

theorem tree_reader_name_sim {p0 : TreeReader} {b_p0 o_p0 : Nat} {H_p0 : List Value → Assn} {a1 : OA} {c1 : Nat} {r : Except (TreeRefused × TreeReader) ((List UInt8) × TreeReader)} (hS : Sep g T0 w0 [R, H_p0 [sv a1 p0.l c1, iv p0.end_.Line, iv p0.end_.Col, iv p0.depth]]) (hL_p0 : Ln b_p0 o_p0 H_p0) (h1 : SlR rGToken T0 w0 (sv a1 p0.l c1) p0.l) (hm : tree_reader_name p0 = some r) :
    Calls Tryz.prog 63 #[pt b_p0 o_p0] w0 (exR r (fun r => RetS T0 w0 fun T w v => ∃ (a4 : OA) (c4 : Nat), v = .string ⟨r.1.toArray⟩ ∧ Sep g T w [R, H_p0 [sv a4 r.2.l c4, iv r.2.end_.Line, iv r.2.end_.Col, iv r.2.depth]] ∧ SlR rGToken T w (sv a4 r.2.l c4) r.2.l ∧ True) (fun r => PanS T0 w0 fun T w v => ∃ (a4 : OA) (c4 : Nat), v = .iface 48 (.agg (cTreeRefused r.1).toArray) ∧ Sep g T w [R, H_p0 [sv a4 r.2.l c4, iv r.2.end_.Line, iv r.2.end_.Col, iv r.2.depth]] ∧ SlR rGToken T w (sv a4 r.2.l c4) r.2.l ∧ True)) := by
  refine enter (args := [pt b_p0 o_p0]) Tryz.func63 rfl Tryz.ntmps63 rfl fun J => ?_
  unfold tree_reader_name at hm
  refine sq2 (rg (pv (r_zt rfl) (nil (t_then ?_))))
  refine sq2 (rg (pv (r_mp rfl) (?_)))
  obtain ⟨y1, hx1, hm⟩ := bindS hm
  rcases y1 with e1 | y1
  · have hm := exC_error hm
    refine wl rfl (calP cf84 rfl (tree_reader_kind_sim (p0 := p0) (H_p0 := H_p0) (p1 := 1) (hS.bun [0] [1] rfl) hL_p0 h1 hx1) rfl fun v2 T2 w2 im2 rv2 => ?_)
    obtain ⟨a3, c3, rfl, hS2, h3, _⟩ := rv2
    have hS2 := hS2.unb
    have hm := oI hm; subst hm
    exact p_then (panE ⟨_, rfl, _, im2, ⟨_, _, rfl, hS2.sel [0, 1] rfl, h3, trivial⟩⟩)
  have hm := exC_ok hm
  refine wl rfl (calS cf84 rfl (tree_reader_kind_sim (p0 := p0) (H_p0 := H_p0) (p1 := 1) (hS.bun [0] [1] rfl) hL_p0 h1 hx1) rfl fun v1 T1 w1 im1 rv1 => ?_)
  obtain ⟨a2, c2, rfl, hS1, h2, _⟩ := rv1
  have hS1 := hS1.unb
  refine pv (r_fd1 rfl underlying89 rfl isAgg9 rfl) (pv (r_zt rfl) (nil (t_then ?_)))
  have hm := oI hm; subst hm
  exact rtn (ret1 rfl rfl ⟨_, rfl, _, im1, ⟨_, _, rfl, hS1.sel [0, 1] rfl, h2, trivial⟩⟩)

theorem tree_reader_types_sim {p0 : TreeReader} {b_p0 o_p0 : Nat} {H_p0 : List Value → Assn} {a1 : OA} {c1 : Nat} {r : Bool} (hS : Sep g T0 w0 [R, H_p0 [sv a1 p0.l c1, iv p0.end_.Line, iv p0.end_.Col, iv p0.depth]]) (hL_p0 : Ln b_p0 o_p0 H_p0) (h1 : SlR rGToken T0 w0 (sv a1 p0.l c1) p0.l) (hm : tree_reader_types p0 = some r) :
    Calls Tryz.prog 86 #[pt b_p0 o_p0] w0 (RetS T0 w0 fun T w v => v = .bool r ∧ Sep g T w [R, H_p0 [sv a1 p0.l c1, iv p0.end_.Line, iv p0.end_.Col, iv p0.depth]] ∧ True) := by
  refine enter (args := [pt b_p0 o_p0]) Tryz.func86 rfl Tryz.ntmps86 rfl fun J => ?_
  unfold tree_reader_types at hm
  refine sq2 (rg (pv (r_zb rfl) (nil (t_then ?_))))
  refine sq2 ?_
  obtain ⟨y1, hx1, hm⟩ := bindS hm
  refine rg (pv (r_mp rfl) (wl rfl (calS cf60 rfl (tree_reader_is_sim (p0 := p0) (H_p0 := H_p0) (p1 := ([105, 110, 116] : List UInt8)) (hS.bun [0] [1] rfl) hL_p0 h1 hx1) rfl fun v1 T1 w1 im1 rv1 => ?_)))
  obtain ⟨rfl, hS1, _⟩ := rv1
  have hS1 := hS1.unb
  refine pv (r_mb rfl) (?_)
  rcases Bool.eq_false_or_eq_true y1 with hb1 | hb1
  · have hm := ctrue hb1 hm
    refine gF (d0 := 5) rfl rfl (by rw [hb1]; rfl) (gF (d0 := 5) rfl rfl (by rw [hb1]; rfl) (pv (r_pkt rfl hb1 rfl) (pv (r_mb rfl) (gF (d0 := 9) rfl rfl rfl (gF (d0 := 9) rfl rfl rfl (pv (r_pkt rfl rfl rfl) (pv (r_mb rfl) (gF (d0 := 13) rfl rfl rfl (gF (d0 := 13) rfl rfl rfl (pv (r_pkt rfl rfl rfl) (pv (r_zb rfl) (nil (t_then ?_)))))))))))))
    have hm := oI hm; subst hm
    exact rtn (ret1 rfl rfl ⟨_, rfl, _, im1, ⟨rfl, hS1.sel [0, 1] rfl, trivial⟩⟩)
  have hm := cfalse hb1 hm
  obtain ⟨y2, hx2, hm⟩ := bindS hm
  refine gT (d0 := 5) rfl rfl hb1 (pv (r_mp rfl) (gT (d0 := 5) rfl rfl hb1 (wl rfl (calS cf60 rfl (tree_reader_is_sim (p0 := p0) (H_p0 := H_p0) (p1 := ([99, 104, 97, 114] : List UInt8)) (hS1.bun [0] [1] rfl) hL_p0 (h1.mono im1) hx2) rfl fun v2 T2 w2 im2 rv2 => ?_))))
  obtain ⟨rfl, hS2, _⟩ := rv2
  have hS2 := hS2.unb
  refine pv (r_pkf rfl hb1 rfl) (pv (r_mb rfl) (?_))
  rcases Bool.eq_false_or_eq_true y2 with hb2 | hb2
  · have hm := ctrue hb2 hm
    refine gF (d0 := 9) rfl rfl (by rw [hb2]; rfl) (gF (d0 := 9) rfl rfl (by rw [hb2]; rfl) (pv (r_pkt rfl hb2 rfl) (pv (r_mb rfl) (gF (d0 := 13) rfl rfl rfl (gF (d0 := 13) rfl rfl rfl (pv (r_pkt rfl rfl rfl) (pv (r_zb rfl) (nil (t_then ?_)))))))))
    have hm := oI hm; subst hm
    exact rtn (ret1 rfl rfl ⟨_, rfl, _, (iT im1 im2), ⟨rfl, hS2.sel [0, 1] rfl, trivial⟩⟩)
  have hm := cfalse hb2 hm
  obtain ⟨y3, hx3, hm⟩ := bindS hm
  refine gT (d0 := 9) rfl rfl hb2 (pv (r_mp rfl) (gT (d0 := 9) rfl rfl hb2 (wl rfl (calS cf60 rfl (tree_reader_is_sim (p0 := p0) (H_p0 := H_p0) (p1 := ([118, 111, 105, 100] : List UInt8)) (hS2.bun [0] [1] rfl) hL_p0 (h1.mono (iT im1 im2)) hx3) rfl fun v3 T3 w3 im3 rv3 => ?_))))
  obtain ⟨rfl, hS3, _⟩ := rv3
  have hS3 := hS3.unb
  refine pv (r_pkf rfl hb2 rfl) (pv (r_mb rfl) (?_))
  rcases Bool.eq_false_or_eq_true y3 with hb3 | hb3
  · have hm := ctrue hb3 hm
    refine gF (d0 := 13) rfl rfl (by rw [hb3]; rfl) (gF (d0 := 13) rfl rfl (by rw [hb3]; rfl) (pv (r_pkt rfl hb3 rfl) (pv (r_zb rfl) (nil (t_then ?_)))))
    have hm := oI hm; subst hm
    exact rtn (ret1 rfl rfl ⟨_, rfl, _, (iT im1 (iT im2 im3)), ⟨rfl, hS3.sel [0, 1] rfl, trivial⟩⟩)
  have hm := cfalse hb3 hm
  obtain ⟨y4, hx4, hm⟩ := bindS hm
  refine gT (d0 := 13) rfl rfl hb3 (pv (r_mp rfl) (gT (d0 := 13) rfl rfl hb3 (wl rfl (calS cf60 rfl (tree_reader_is_sim (p0 := p0) (H_p0 := H_p0) (p1 := ([115, 116, 114, 117, 99, 116] : List UInt8)) (hS3.bun [0] [1] rfl) hL_p0 (h1.mono (iT im1 (iT im2 im3))) hx4) rfl fun v4 T4 w4 im4 rv4 => ?_))))
  obtain ⟨rfl, hS4, _⟩ := rv4
  have hS4 := hS4.unb
  refine pv (r_pkf rfl hb3 rfl) (pv (r_zb rfl) (nil (t_then ?_)))
  have hm := oI hm; subst hm
  exact rtn (ret1 rfl rfl ⟨_, rfl, _, (iT im1 (iT im2 (iT im3 im4))), ⟨rfl, hS4.sel [0, 1] rfl, trivial⟩⟩)

theorem tree_reader_typeName_sim {p0 : TreeReader} {b_p0 o_p0 : Nat} {H_p0 : List Value → Assn} {a1 : OA} {c1 : Nat} {r : Except (TreeRefused × TreeReader) (TypeName × TreeReader)} (hS : Sep g T0 w0 [R, H_p0 [sv a1 p0.l c1, iv p0.end_.Line, iv p0.end_.Col, iv p0.depth]]) (hL_p0 : Ln b_p0 o_p0 H_p0) (h1 : SlR rGToken T0 w0 (sv a1 p0.l c1) p0.l) (hm : tree_reader_typeName p0 = some r) :
    Calls Tryz.prog 65 #[pt b_p0 o_p0] w0 (exR r (fun r => RetS T0 w0 fun T w v => ∃ (a8 : OA) (c8 : Nat), v = .agg (cTypeName r.1).toArray ∧ Sep g T w [R, H_p0 [sv a8 r.2.l c8, iv r.2.end_.Line, iv r.2.end_.Col, iv r.2.depth]] ∧ SlR rGToken T w (sv a8 r.2.l c8) r.2.l ∧ True) (fun r => PanS T0 w0 fun T w v => ∃ (a8 : OA) (c8 : Nat), v = .iface 48 (.agg (cTreeRefused r.1).toArray) ∧ Sep g T w [R, H_p0 [sv a8 r.2.l c8, iv r.2.end_.Line, iv r.2.end_.Col, iv r.2.depth]] ∧ SlR rGToken T w (sv a8 r.2.l c8) r.2.l ∧ True)) := by
  refine enter (args := [pt b_p0 o_p0]) Tryz.func65 rfl Tryz.ntmps65 rfl fun J => ?_
  unfold tree_reader_typeName at hm
  refine sq2 (rg (wl rfl (alS (zs := [.string ⟨([] : List UInt8).toArray⟩, .string ⟨([] : List UInt8).toArray⟩, iv 0]) zeroValue54 rfl hS fun w1 b1 im1 hS1 => ?_)))
  refine nil (t_then ?_)
  obtain ⟨kk1, hkk1, hm⟩ := jn_open hm
  refine cut (fun a w2 => ∃ (J : JV) (T1 : TP) , a = env (nf 38) J [(0, pt b_p0 o_p0), (2, pt b1 0)] ∧ Im T0 w1 T1 w2 ∧ Sep g T1 w2 [boxA b1 [.string ⟨([] : List UInt8).toArray⟩, .string ⟨([] : List UInt8).toArray⟩, iv 0], R, H_p0 [sv a1 p0.l c1, iv p0.end_.Line, iv p0.end_.Col, iv p0.depth]] ∧ kk1 () = some r) ?_ ?_
  · refine sq2 ?_
    obtain ⟨y1, hx1, hm⟩ := bindS hm
    refine rg (pv (r_mp rfl) (wl rfl (calS cf86 rfl (tree_reader_types_sim (p0 := p0) (H_p0 := H_p0) (hS1.bun [0, 1] [2] rfl) hL_p0 (h1.mono im1) hx1) rfl fun v1 T2 w3 im3 rv1 => ?_)))
    obtain ⟨rfl, hS2, _⟩ := rv1
    have hS2 := hS2.unb
    refine pv (r_nt rfl) (nil (t_then ?_))
    refine cnd rfl (fun hb1 => ?_) (fun hb1 => ?_)
    · have hm := ctrue hb1 hm
      refine rg (pv (r_mp rfl) (?_))
      obtain ⟨y2, hx2, hm⟩ := bindS hm
      rcases y2 with e1 | y2
      · have hm := exC_error hm
        refine wl rfl (calP cf83 rfl (tree_reader_fail_sim (p0 := p0) (H_p0 := H_p0) (p1 := 3) (hS2.bun [0, 1] [2] rfl) hL_p0 (h1.mono (iT im1 im3)) hx2) rfl fun v3 T4 w5 im5 rv3 => ?_)
        obtain ⟨rfl, hS4, _⟩ := rv3
        have hS4 := hS4.unb
        have hm := oI hm; subst hm
        exact p_then (panE ⟨_, rfl, _, (iT im1 (iT im3 im5)), ⟨_, _, rfl, hS4.sel [1, 2] rfl, (h1.mono (iT im1 (iT im3 im5))), trivial⟩⟩)
      have hm := exC_ok hm
      refine wl rfl (calS cf83 rfl (tree_reader_fail_sim (p0 := p0) (H_p0 := H_p0) (p1 := 3) (hS2.bun [0, 1] [2] rfl) hL_p0 (h1.mono (iT im1 im3)) hx2) rfl fun v2 T3 w4 im4 rv2 => ?_)
      obtain ⟨rfl, hS3, _⟩ := rv2
      have hS3 := hS3.unb
      exact nil (t_then ⟨_, _, env_has ⟨rfl, rfl, trivial⟩, (iT im3 im4), hS3.sel [0, 1, 2] rfl, hm⟩)
    have hm := cfalse hb1 hm
    exact skp (t_then ⟨_, _, env_has ⟨rfl, rfl, trivial⟩, im3, hS2.sel [0, 1, 2] rfl, hm⟩)
  rintro _ w2 ⟨J, T1, rfl, im2, hS5, hm⟩
  rw [hkk1] at hm
  refine sq2 ?_
  obtain ⟨u2, hx3, hm⟩ := bindS hm
  obtain ⟨b2, of1, cs1, k1, cp1, hv1, hp1, hl1, he1, hr1, hc1, hT1⟩ := (h1.mono (iT im1 im2)).ixT hx3 rfl
  cases rGToken_open hr1
  refine rg (pv (r_mp rfl) (pv (r_nc rfl) (pv (r_fa rfl underlying43 rfl sizeOf38 rfl) (pv (r_ld rfl isAgg38 (hS5.cellB (i := 2) ⟨rfl, rfl⟩ hL_p0 (j := 0) rfl)) (pv (r_ixe hv1 rfl underlying38 sizeOf89 hp1 hl1 he1) (pv (r_fa rfl underlying89 rfl sizeOf9 rfl) (pv (r_ld rfl isAgg9 (hc1.get (j := 1) rfl)) (pv (r_bd (by kernel_rfl) rfl (u := .agg #[.string ⟨u2.Text.toArray⟩, .string ⟨([] : List UInt8).toArray⟩, iv 0])) (wl rfl (alS (zs := [.string ⟨([] : List UInt8).toArray⟩, .string ⟨([] : List UInt8).toArray⟩, iv 0]) zeroValue54 rfl hS5 fun w6 b3 im6 hS6 => ?_))))))))))
  refine wl rfl (st0B (q := 0) hS6 ⟨rfl, rfl⟩ rfl rfl rfl sizeOf54 rfl rfl rfl fun w7 im7 hS7 => ?_)
  refine nil (t_then ?_)
  refine sq2 ?_
  obtain ⟨u3, hx4, hm⟩ := bindS hm
  obtain ⟨a2, c2, he2, h2⟩ := (h1.mono (iT im1 (iT im2 (iT im6 im7)))).part hx4
  refine rg (pv (r_mp rfl) (pv (r_mp rfl) (pv (r_nc rfl) (pv (r_fa rfl underlying43 rfl sizeOf38 rfl) (pv (r_ld rfl isAgg38 (hS7.cellB (i := 3) ⟨rfl, rfl⟩ hL_p0 (j := 0) rfl)) (pv (r_slR rfl (h1.mono (iT im1 (iT im2 (iT im6 im7)))) ⟨_, rfl⟩ rfl hx4 underlying38 sizeOf89 rfl he2) (pv (r_nc rfl) (pv (r_fa rfl underlying43 rfl sizeOf38 rfl) (wl rfl (stB (q := 3) (j := 0) hS7 ⟨rfl, rfl⟩ hL_p0 rfl rfl rfl sizeOf38 rfl rfl rfl fun w8 im8 hS8 => ?_))))))))))
  refine nil (t_then ?_)
  obtain ⟨kk2, hkk2, hm⟩ := jn_open hm
  refine cut (fun a w9 => ∃ (J : JV) (T5 : TP) (x2 : TreeReader) (x1 : TypeName) (a3 : OA) (c3 : Nat), a = env (nf 38) J [(0, pt b_p0 o_p0), (2, pt b1 0), (3, pt b3 0)] ∧ Im T1 w8 T5 w9 ∧ Sep g T5 w9 [boxA b3 (cTypeName x1), boxA b1 [.string ⟨([] : List UInt8).toArray⟩, .string ⟨([] : List UInt8).toArray⟩, iv 0], R, H_p0 [sv a3 x2.l c3, iv x2.end_.Line, iv x2.end_.Col, iv x2.depth]] ∧ SlR rGToken T5 w9 (sv a3 x2.l c3) x2.l ∧ kk2 x1 x2 = some r) ?_ ?_
  · refine sq2 (rg (pv (r_fa rfl underlying54 rfl sizeOf9 rfl) (pv (r_ld rfl isAgg9 (hS8.cell0 (i := 0) ⟨rfl, rfl⟩ (j := 0) rfl)) (pv (r_sqL rfl rfl) (nil (t_then ?_))))))
    refine cnd rfl (fun hb2 => ?_) (fun hb2 => ?_)
    · have hm := ctrue hb2 hm
      refine rg (pv (r_mp rfl) (?_))
      obtain ⟨y3, hx5, hm⟩ := bindS hm
      rcases y3 with e2 | y3
      · have hm := exC_error hm
        refine wl rfl (calP cf63 rfl (tree_reader_name_sim (p0 := { p0 with l := u3 }) (H_p0 := H_p0) (hS8.bun [0, 1, 2] [3] rfl) hL_p0 (h2.mono im8) hx5) rfl fun v5 T7 w12 im12 rv5 => ?_)
        obtain ⟨a5, c5, rfl, hS11, h5, _⟩ := rv5
        have hS11 := hS11.unb
        have hm := oI hm; subst hm
        exact p_then (panE ⟨_, rfl, _, (iT im1 (iT im2 (iT im6 (iT im7 (iT im8 im12))))), ⟨_, _, rfl, hS11.sel [2, 3] rfl, h5, trivial⟩⟩)
      have hm := exC_ok hm
      refine wl rfl (calS cf63 rfl (tree_reader_name_sim (p0 := { p0 with l := u3 }) (H_p0 := H_p0) (hS8.bun [0, 1, 2] [3] rfl) hL_p0 (h2.mono im8) hx5) rfl fun v4 T6 w10 im10 rv4 => ?_)
      obtain ⟨a4, c4, rfl, hS9, h4, _⟩ := rv4
      have hS9 := hS9.unb
      refine pv (r_fa rfl underlying54 rfl sizeOf9 rfl) (wl rfl (st0B (q := 0) hS9 ⟨rfl, rfl⟩ rfl rfl rfl sizeOf9 rfl rfl rfl fun w11 im11 hS10 => ?_))
      exact nil (t_then ⟨_, _, y3.2, (⟨u2.Text, y3.1, 0⟩ : TypeName), _, _, env_has ⟨rfl, rfl, rfl, trivial⟩, (iT im10 im11), hS10.sel [0, 1, 2, 3] rfl, (h4.mono im11), hm⟩)
    have hm := cfalse hb2 hm
    exact skp (t_then ⟨_, _, ({ p0 with l := u3 }), (⟨u2.Text, ([] : List UInt8), 0⟩ : TypeName), _, _, env_has ⟨rfl, rfl, rfl, trivial⟩, Im.refl, hS8.sel [0, 1, 2, 3] rfl, (h2.mono im8), hm⟩)
  rintro _ w9 ⟨J, T5, x2, x1, a3, c3, rfl, im9, hS12, h3, hm⟩
  rw [hkk2] at hm
  refine sq2 ?_
  obtain ⟨o1, ho1, hq1⟩ := bindS hm
  obtain ⟨bd1, hbd1, ho1⟩ := loop_open ho1
  refine blk (wp_loop_ghost (fun m a w13 => ∃ (J : JV) (T8 : TP) (x4 : TreeReader) (x3 : TypeName) (a6 : OA) (c6 : Nat), a = env (nf 38) J [(0, pt b_p0 o_p0), (2, pt b1 0), (3, pt b3 0)] ∧ Im T5 w9 T8 w13 ∧ Sep g T8 w13 [boxA b3 (cTypeName x3), boxA b1 [.string ⟨([] : List UInt8).toArray⟩, .string ⟨([] : List UInt8).toArray⟩, iv 0], R, H_p0 [sv a6 x4.l c6, iv x4.end_.Line, iv x4.end_.Col, iv x4.depth]] ∧ SlR rGToken T8 w13 (sv a6 x4.l c6) x4.l ∧ loopM bd1 m (x3, x4) = some o1) NN ⟨_, _, x2, x1, _, _, env_has ⟨rfl, rfl, rfl, trivial⟩, Im.refl, hS12.sel [0, 1, 2, 3] rfl, h3, ho1⟩ ?_)
  rintro m _ w13 ⟨J, T8, x4, x3, a6, c6, rfl, im13, hS13, h6, ho1⟩
  obtain ⟨m1, z1, rfl, hm, hn1⟩ := loop_round ho1
  rw [hbd1] at hm
  refine sq2 (sq2 ?_)
  obtain ⟨y4, hx6, hm⟩ := bindS hm
  refine rg (pv (r_mp rfl) (wl rfl (calS cf82 rfl (tree_reader_take_sim (p0 := x4) (H_p0 := H_p0) (p1 := ([42] : List UInt8)) (hS13.bun [0, 1, 2] [3] rfl) hL_p0 h6 hx6) rfl fun v6 T9 w14 im14 rv6 => ?_)))
  obtain ⟨a7, c7, rfl, hS14, h7, _⟩ := rv6
  have hS14 := hS14.unb
  refine nil (t_then ?_)
  refine cnd rfl (fun hb3 => ?_) (fun hb3 => ?_)
  · have hm := ctrue hb3 hm
    refine skp (t_then ?_)
    refine blk (rg (pv (r_fa rfl underlying54 rfl sizeOf3 rfl) (pv (r_ld rfl isAgg3 (hS14.cell0 (i := 0) ⟨rfl, rfl⟩ (j := 2) rfl)) (pv (r_ib rfl rfl rfl) (pv (r_fa rfl underlying54 rfl sizeOf3 rfl) (wl rfl (st0B (q := 0) hS14 ⟨rfl, rfl⟩ rfl rfl rfl sizeOf3 rfl rfl rfl fun w15 im15 hS15 => ?_)))))))
    have hm := oI hm; subst hm
    exact nil (t_blk (t_then ⟨m1, Nat.lt_succ_self _, _, _, y4.2, ({ x3 with Stars := IntKind.wrap .i64 (x3.Stars + 1) }), _, _, env_has ⟨rfl, rfl, rfl, trivial⟩, (iT im13 (iT im14 im15)), hS15.sel [0, 1, 2, 3] rfl, (h7.mono im15), hn1⟩))
  have hm := cfalse hb3 hm
  have hm := oI hm; subst hm
  have hn1 : _ = Lp.brk _ := hn1
  subst hn1
  have hm := thn_brk hq1
  refine xt (x_then (x_then (x_eq (t_then ?_))))
  refine sq2 (rg (pv (r_ldS rfl isAgg54 sizeOf54 rfl (hS14.cells0 (i := 0) ⟨rfl, rfl⟩ (o := 0) rfl) (cs := (cTypeName x3))) (wl rfl (st0B (q := 1) hS14 ⟨rfl, rfl⟩ rfl rfl rfl sizeOf54 rfl rfl rfl fun w17 im17 hS17 => ?_))))
  refine nil (t_then ?_)
  have hm := oI hm; subst hm
  exact rtn (retN (vs := [.agg (cTypeName x3).toArray]) rfl ⟨rvS rfl isAgg54 sizeOf54 rfl (hS17.bx (i := 1) ⟨rfl, rfl⟩), trivial⟩ rfl ⟨_, rfl, _, (iT im1 (iT im2 (iT im6 (iT im7 (iT im8 (iT im9 (iT im13 (iT im14 im17)))))))), ⟨_, _, rfl, hS17.sel [2, 3] rfl, (h7.mono im17), trivial⟩⟩)

theorem tree_reader_dims_sim {p0 : TreeReader} {b_p0 o_p0 : Nat} {H_p0 : List Value → Assn} {a1 : OA} {c1 : Nat} {r : Except (TreeRefused × TreeReader) ((List Int) × TreeReader)} (hS : Sep g T0 w0 [R, H_p0 [sv a1 p0.l c1, iv p0.end_.Line, iv p0.end_.Col, iv p0.depth]]) (hL_p0 : Ln b_p0 o_p0 H_p0) (h1 : SlR rGToken T0 w0 (sv a1 p0.l c1) p0.l) (hm : tree_reader_dims p0 = some r) :
    Calls Tryz.prog 85 #[pt b_p0 o_p0] w0 (exR r (fun r => RetS T0 w0 fun T w v => ∃ (a11 : OA) (n4 : Nat) (c11 : Nat) (a12 : OA) (c12 : Nat), v = .slice a11 n4 c11 ∧ Sep g T w [R, H_p0 [sv a12 r.2.l c12, iv r.2.end_.Line, iv r.2.end_.Col, iv r.2.depth], ownA (rInt .u32) 87 (.slice a11 n4 c11) r.1] ∧ SlR rGToken T w (sv a12 r.2.l c12) r.2.l ∧ True) (fun r => PanS T0 w0 fun T w v => ∃ (a11 : OA) (c11 : Nat), v = .iface 48 (.agg (cTreeRefused r.1).toArray) ∧ Sep g T w [R, H_p0 [sv a11 r.2.l c11, iv r.2.end_.Line, iv r.2.end_.Col, iv r.2.depth]] ∧ SlR rGToken T w (sv a11 r.2.l c11) r.2.l ∧ True)) := by
  refine enter (args := [pt b_p0 o_p0]) Tryz.func85 rfl Tryz.ntmps85 rfl fun J => ?_
  unfold tree_reader_dims at hm
  refine sq2 (rg (pv (r_zs rfl) (nil (t_then ?_))))
  refine sq2 (rg (pv (r_zs rfl) (nil (t_then ?_))))
  refine sq2 ?_
  obtain ⟨o1, ho1, hq1⟩ := bindS hm
  obtain ⟨bd1, hbd1, ho1⟩ := loop_open ho1
  have hS1 := hS.nilO (rInt .u32) 87
  refine blk (wp_loop_ghost (fun m a w1 => ∃ (J : JV) (T1 : TP) (x2 : TreeReader) (x1 : List Int) (a2 : OA) (n1 : Nat) (c2 : Nat) (a3 : OA) (c3 : Nat), a = env (nf 15) J [(0, pt b_p0 o_p0), (3, .slice a2 n1 c2)] ∧ Im T0 w0 T1 w1 ∧ Sep g T1 w1 [ownA (rInt .u32) 87 (.slice a2 n1 c2) x1, R, H_p0 [sv a3 x2.l c3, iv x2.end_.Line, iv x2.end_.Col, iv x2.depth]] ∧ SlR rGToken T1 w1 (sv a3 x2.l c3) x2.l ∧ loopM bd1 m (x1, x2) = some o1) NN ⟨_, _, p0, [], _, _, _, _, _, env_has ⟨rfl, rfl, trivial⟩, Im.refl, hS1.sel [0, 1, 2] rfl, h1, ho1⟩ ?_)
  rintro m _ w1 ⟨J, T1, x2, x1, a2, n1, c2, a3, c3, rfl, im1, hS2, h2, ho1⟩
  obtain ⟨m1, z1, rfl, hm, hn1⟩ := loop_round ho1
  rw [hbd1] at hm
  refine sq2 (sq2 ?_)
  obtain ⟨y1, hx1, hm⟩ := bindS hm
  refine rg (pv (r_mp rfl) (wl rfl (calS cf82 rfl (tree_reader_take_sim (p0 := x2) (H_p0 := H_p0) (p1 := ([91] : List UInt8)) (hS2.bun [0, 1] [2] rfl) hL_p0 h2 hx1) rfl fun v1 T2 w2 im2 rv1 => ?_)))
  obtain ⟨a4, c4, rfl, hS3, h3, _⟩ := rv1
  have hS3 := hS3.unb
  refine nil (t_then ?_)
  refine cnd rfl (fun hb1 => ?_) (fun hb1 => ?_)
  · have hm := ctrue hb1 hm
    refine skp (t_then ?_)
    refine blk (sq2 (rg (pv (r_ms rfl) (pv (r_mp rfl) (?_)))))
    obtain ⟨y2, hx2, hm⟩ := bindS hm
    rcases y2 with e2 | y2
    · have hm := exC_error hm
      refine wl rfl (calP cf84 rfl (tree_reader_kind_sim (p0 := y1.2) (H_p0 := H_p0) (p1 := 3) (hS3.bun [0, 1] [2] rfl) hL_p0 h3 hx2) rfl fun v5 T6 w8 im8 rv5 => ?_)
      obtain ⟨a10, c10, rfl, hS9, h7, _⟩ := rv5
      have hS9 := hS9.unb
      have hm := oI hm; subst hm
      have hn1 : _ = Lp.ret _ := hn1
      subst hn1
      have hm := thn_ret hq1
      have hm := oI hm; subst hm
      exact p_then (p_blk (p_then (p_blk (p_then (panE ⟨_, rfl, _, (iT im1 (iT im2 im8)), ⟨_, _, rfl, hS9.sel [1, 2] rfl, h7, trivial⟩⟩)))))
    have hm := exC_ok hm
    refine wl rfl (calS cf84 rfl (tree_reader_kind_sim (p0 := y1.2) (H_p0 := H_p0) (p1 := 3) (hS3.bun [0, 1] [2] rfl) hL_p0 h3 hx2) rfl fun v2 T3 w3 im3 rv2 => ?_)
    obtain ⟨a5, c5, rfl, hS4, h4, _⟩ := rv2
    have hS4 := hS4.unb
    refine pv (r_fd1 rfl underlying89 rfl isAgg87 rfl) (wl rfl (bsS (r := (rInt .u32)) (l := ([y2.1.Num] : List Int)) (css := [[.int .u32 y2.1.Num]]) hS4 underlying55 sizeOf87 zeroValue87 rfl rfl (by kernel_rfl) rfl ⟨rfl, trivial⟩ rfl rfl fun w4 a6 n2 c6 im4 hS5 => ?_))
    obtain ⟨z_1, hro1, hm⟩ := bindS hm
    refine wl rfl (apO (q := 1) (l := x1) (us := ([y2.1.Num] : List Int)) hS5 ⟨rfl, rfl⟩ rfl rfl (hS5.own (i := 0) ⟨rfl, rfl⟩).v underlying55 el87 (room_some hro1) fun w5 a7 n3 c7 im5 hS6 => ?_)
    refine pv (r_zs rfl) (nil (t_then ?_))
    refine rg (pv (r_mp rfl) (?_))
    obtain ⟨y3, hx3, hm⟩ := bindS hm
    rcases y3 with e1 | y3
    · have hm := exC_error hm
      refine wl rfl (calP cf62 rfl (tree_reader_must_sim (p0 := y2.2) (H_p0 := H_p0) (p1 := ([93] : List UInt8)) (hS6.bun [1, 2] [3] rfl) hL_p0 (h4.mono (iT im4 im5)) hx3) rfl fun v4 T5 w7 im7 rv4 => ?_)
      obtain ⟨a9, c9, rfl, hS8, h6, _⟩ := rv4
      have hS8 := hS8.unb
      have hm := oI hm; subst hm
      have hn1 : _ = Lp.ret _ := hn1
      subst hn1
      have hm := thn_ret hq1
      have hm := oI hm; subst hm
      exact p_blk (p_then (p_blk (p_then (panE ⟨_, rfl, _, (iT im1 (iT im2 (iT im3 (iT im4 (iT im5 im7))))), ⟨_, _, rfl, hS8.sel [1, 2] rfl, h6, trivial⟩⟩))))
    have hm := exC_ok hm
    refine wl rfl (calS cf62 rfl (tree_reader_must_sim (p0 := y2.2) (H_p0 := H_p0) (p1 := ([93] : List UInt8)) (hS6.bun [1, 2] [3] rfl) hL_p0 (h4.mono (iT im4 im5)) hx3) rfl fun v3 T4 w6 im6 rv3 => ?_)
    obtain ⟨a8, c8, rfl, hS7, h5, _⟩ := rv3
    have hS7 := hS7.unb
    have hm := oI hm; subst hm
    exact nil (t_blk (t_then ⟨m1, Nat.lt_succ_self _, _, _, y3, (x1 ++ ([y2.1.Num] : List Int)), _, _, _, _, _, env_has ⟨rfl, rfl, trivial⟩, (iT im1 (iT im2 (iT im3 (iT im4 (iT im5 im6))))), hS7.sel [0, 1, 2] rfl, h5, hn1⟩))
  have hm := cfalse hb1 hm
  have hm := oI hm; subst hm
  have hn1 : _ = Lp.brk _ := hn1
  subst hn1
  have hm := thn_brk hq1
  refine xt (x_then (x_then (x_eq (t_then ?_))))
  refine sq2 (rg (pv (r_ms rfl) (pv (r_zs rfl) (nil (t_then ?_)))))
  have hm := oI hm; subst hm
  exact rtn (ret1 rfl rfl ⟨_, rfl, _, (iT im1 im2), ⟨_, _, _, _, _, rfl, hS3.sel [1, 2, 0] rfl, h3, trivial⟩⟩)

theorem tree_reader_fields_sim {p0 : TreeReader} {b_p0 o_p0 : Nat} {H_p0 : List Value → Assn} {a1 : OA} {c1 : Nat} {r : Except (TreeRefused × TreeReader) ((List GVar) × TreeReader)} (hS : Sep g T0 w0 [R, H_p0 [sv a1 p0.l c1, iv p0.end_.Line, iv p0.end_.Col, iv p0.depth]]) (hL_p0 : Ln b_p0 o_p0 H_p0) (h1 : SlR rGToken T0 w0 (sv a1 p0.l c1) p0.l) (hm : tree_reader_fields p0 = some r) :
    Calls Tryz.prog 64 #[pt b_p0 o_p0] w0 (exR r (fun r => RetS T0 w0 fun T w v => ∃ (a22 : OA) (n5 : Nat) (c22 : Nat) (a23 : OA) (c23 : Nat), v = .slice a22 n5 c22 ∧ Sep g T w [R, H_p0 [sv a23 r.2.l c23, iv r.2.end_.Line, iv r.2.end_.Col, iv r.2.depth], ownA rGVar 58 (.slice a22 n5 c22) r.1] ∧ SlR rGToken T w (sv a23 r.2.l c23) r.2.l ∧ True) (fun r => PanS T0 w0 fun T w v => ∃ (a22 : OA) (c22 : Nat), v = .iface 48 (.agg (cTreeRefused r.1).toArray) ∧ Sep g T w [R, H_p0 [sv a22 r.2.l c22, iv r.2.end_.Line, iv r.2.end_.Col, iv r.2.depth]] ∧ SlR rGToken T w (sv a22 r.2.l c22) r.2.l ∧ True)) := by
  refine enter (args := [pt b_p0 o_p0]) Tryz.func64 rfl Tryz.ntmps64 rfl fun J => ?_
  unfold tree_reader_fields at hm
  refine sq2 (rg (pv (r_zs rfl) (nil (t_then ?_))))
  refine sq2 (rg (pv (r_zs rfl) (nil (t_then ?_))))
  refine sq2 (rg (pv (r_mp rfl) (?_)))
  obtain ⟨y1, hx1, hm⟩ := bindS hm
  rcases y1 with e7 | y1
  · have hm := exC_error hm
    refine wl rfl (calP cf62 rfl (tree_reader_must_sim (p0 := p0) (H_p0 := H_p0) (p1 := ([123] : List UInt8)) (hS.bun [0] [1] rfl) hL_p0 h1 hx1) rfl fun v16 T18 w23 im24 rv16 => ?_)
    obtain ⟨a21, c21, rfl, hS25, h18, _⟩ := rv16
    have hS25 := hS25.unb
    have hm := oI hm; subst hm
    exact p_then (panE ⟨_, rfl, _, im24, ⟨_, _, rfl, hS25.sel [0, 1] rfl, h18, trivial⟩⟩)
  have hm := exC_ok hm
  refine wl rfl (calS cf62 rfl (tree_reader_must_sim (p0 := p0) (H_p0 := H_p0) (p1 := ([123] : List UInt8)) (hS.bun [0] [1] rfl) hL_p0 h1 hx1) rfl fun v1 T1 w1 im1 rv1 => ?_)
  obtain ⟨a2, c2, rfl, hS1, h2, _⟩ := rv1
  have hS1 := hS1.unb
  refine nil (t_then ?_)
  refine sq2 ?_
  obtain ⟨o1, ho1, hq1⟩ := bindS hm
  obtain ⟨bd1, hbd1, ho1⟩ := loop_open ho1
  have hS2 := hS1.nilO rGVar 58
  refine blk (wp_loop_ghost (fun m a w2 => ∃ (J : JV) (T2 : TP) (x2 : TreeReader) (x1 : List GVar) (a3 : OA) (n1 : Nat) (c3 : Nat) (a4 : OA) (c4 : Nat), a = env (nf 30) J [(0, pt b_p0 o_p0), (3, .slice a3 n1 c3)] ∧ Im T1 w1 T2 w2 ∧ Sep g T2 w2 [ownA rGVar 58 (.slice a3 n1 c3) x1, R, H_p0 [sv a4 x2.l c4, iv x2.end_.Line, iv x2.end_.Col, iv x2.depth]] ∧ SlR rGToken T2 w2 (sv a4 x2.l c4) x2.l ∧ loopM bd1 m (x1, x2) = some o1) NN ⟨_, _, y1, [], _, _, _, _, _, env_has ⟨rfl, rfl, trivial⟩, Im.refl, hS2.sel [0, 1, 2] rfl, h2, ho1⟩ ?_)
  rintro m _ w2 ⟨J, T2, x2, x1, a3, n1, c3, a4, c4, rfl, im2, hS3, h3, ho1⟩
  obtain ⟨m1, z1, rfl, hm, hn1⟩ := loop_round ho1
  rw [hbd1] at hm
  refine sq2 (sq2 ?_)
  obtain ⟨y2, hx2, hm⟩ := bindS hm
  refine rg (pv (r_mp rfl) (wl rfl (calS cf82 rfl (tree_reader_take_sim (p0 := x2) (H_p0 := H_p0) (p1 := ([125] : List UInt8)) (hS3.bun [0, 1] [2] rfl) hL_p0 h3 hx2) rfl fun v2 T3 w3 im3 rv2 => ?_)))
  obtain ⟨a5, c5, rfl, hS4, h4, _⟩ := rv2
  have hS4 := hS4.unb
  refine pv (r_nt rfl) (nil (t_then ?_))
  refine cnd rfl (fun hb1 => ?_) (fun hb1 => ?_)
  · have hm := ctrue hb1 hm
    refine skp (t_then ?_)
    refine blk (sq2 ?_)
    obtain ⟨y3, hx3, hm⟩ := bindS hm
    refine rg (pv (r_mp rfl) (wl rfl (calS cf59 rfl (tree_reader_pos_sim (p0 := y2.2) (H_p0 := H_p0) (hS4.bun [0, 1] [2] rfl) hL_p0 h4 hx3) rfl fun v3 T4 w4 im4 rv3 => ?_)))
    obtain ⟨rfl, hS5, _⟩ := rv3
    have hS5 := hS5.unb
    refine pv (r_mp rfl) (?_)
    obtain ⟨y4, hx4, hm⟩ := bindS hm
    rcases y4 with e4 | y4
    · have hm := exC_error hm
      refine wl rfl (calP cf65 rfl (tree_reader_typeName_sim (p0 := y2.2) (H_p0 := H_p0) (hS5.bun [0, 1] [2] rfl) hL_p0 (h4.mono im4) hx4) rfl fun v11 T13 w18 im19 rv11 => ?_)
      obtain ⟨a16, c16, rfl, hS20, h13, _⟩ := rv11
      have hS20 := hS20.unb
      have hm := oI hm; subst hm
      have hn1 : _ = Lp.ret _ := hn1
      subst hn1
      have hm := thn_ret hq1
      have hm := oI hm; subst hm
      exact p_then (p_blk (p_then (p_blk (p_then (panE ⟨_, rfl, _, (iT im1 (iT im2 (iT im3 (iT im4 im19)))), ⟨_, _, rfl, hS20.sel [1, 2] rfl, h13, trivial⟩⟩)))))
    have hm := exC_ok hm
    refine wl rfl (calS cf65 rfl (tree_reader_typeName_sim (p0 := y2.2) (H_p0 := H_p0) (hS5.bun [0, 1] [2] rfl) hL_p0 (h4.mono im4) hx4) rfl fun v4 T5 w5 im5 rv4 => ?_)
    obtain ⟨a6, c6, rfl, hS6, h5, _⟩ := rv4
    have hS6 := hS6.unb
    refine pv (r_bd (by kernel_rfl) rfl (u := .agg #[iv y3.Line, iv y3.Col, .string ⟨y4.1.Word.toArray⟩, .string ⟨y4.1.Name.toArray⟩, iv y4.1.Stars, .string ⟨([] : List UInt8).toArray⟩, .slice none 0 0, .slice none 0 0, .bool false])) (wl rfl (alS (zs := [iv 0, iv 0, .string ⟨([] : List UInt8).toArray⟩, .string ⟨([] : List UInt8).toArray⟩, iv 0, .string ⟨([] : List UInt8).toArray⟩, .slice none 0 0, .slice none 0 0, .bool false]) zeroValue58 rfl hS6 fun w6 b1 im6 hS7 => ?_))
    refine wl rfl (st0B (q := 0) hS7 ⟨rfl, rfl⟩ rfl rfl rfl sizeOf58 rfl rfl rfl fun w7 im7 hS8 => ?_)
    refine nil (t_then ?_)
    refine sq2 (rg (pv (r_mp rfl) (?_)))
    obtain ⟨y5, hx5, hm⟩ := bindS hm
    rcases y5 with e3 | y5
    · have hm := exC_error hm
      refine wl rfl (calP cf63 rfl (tree_reader_name_sim (p0 := y4.2) (H_p0 := H_p0) (hS8.bun [0, 1, 2] [3] rfl) hL_p0 (h5.mono (iT im6 im7)) hx5) rfl fun v10 T12 w17 im18 rv10 => ?_)
      obtain ⟨a15, c15, rfl, hS19, h12, _⟩ := rv10
      have hS19 := hS19.unb
      have hm := oI hm; subst hm
      have hn1 : _ = Lp.ret _ := hn1
      subst hn1
      have hm := thn_ret hq1
      have hm := oI hm; subst hm
      exact p_then (p_blk (p_then (p_blk (p_then (panE ⟨_, rfl, _, (iT im1 (iT im2 (iT im3 (iT im4 (iT im5 (iT im6 (iT im7 im18))))))), ⟨_, _, rfl, hS19.sel [2, 3] rfl, h12, trivial⟩⟩)))))
    have hm := exC_ok hm
    refine wl rfl (calS cf63 rfl (tree_reader_name_sim (p0 := y4.2) (H_p0 := H_p0) (hS8.bun [0, 1, 2] [3] rfl) hL_p0 (h5.mono (iT im6 im7)) hx5) rfl fun v5 T6 w8 im8 rv5 => ?_)
    obtain ⟨a7, c7, rfl, hS9, h6, _⟩ := rv5
    have hS9 := hS9.unb
    refine pv (r_fa rfl underlying58 rfl sizeOf9 rfl) (wl rfl (st0B (q := 0) hS9 ⟨rfl, rfl⟩ rfl rfl rfl sizeOf9 rfl rfl rfl fun w9 im9 hS10 => ?_))
    refine nil (t_then ?_)
    refine sq2 (rg (pv (r_mp rfl) (?_)))
    obtain ⟨y6, hx6, hm⟩ := bindS hm
    rcases y6 with e2 | y6
    · have hm := exC_error hm
      refine wl rfl (calP cf85 rfl (tree_reader_dims_sim (p0 := y5.2) (H_p0 := H_p0) (hS10.bun [0, 1, 2] [3] rfl) hL_p0 (h6.mono im9) hx6) rfl fun v9 T11 w16 im17 rv9 => ?_)
      obtain ⟨a14, c14, rfl, hS18, h11, _⟩ := rv9
      have hS18 := hS18.unb
      have hm := oI hm; subst hm
      have hn1 : _ = Lp.ret _ := hn1
      subst hn1
      have hm := thn_ret hq1
      have hm := oI hm; subst hm
      exact p_then (p_blk (p_then (p_blk (p_then (panE ⟨_, rfl, _, (iT im1 (iT im2 (iT im3 (iT im4 (iT im5 (iT im6 (iT im7 (iT im8 (iT im9 im17))))))))), ⟨_, _, rfl, hS18.sel [2, 3] rfl, h11, trivial⟩⟩)))))
    have hm := exC_ok hm
    refine wl rfl (calS cf85 rfl (tree_reader_dims_sim (p0 := y5.2) (H_p0 := H_p0) (hS10.bun [0, 1, 2] [3] rfl) hL_p0 (h6.mono im9) hx6) rfl fun v6 T7 w10 im10 rv6 => ?_)
    obtain ⟨a8, n2, c8, a9, c9, rfl, hS11, h7, _⟩ := rv6
    have hS11 := hS11.unb
    refine pv (r_fa rfl underlying58 rfl sizeOf55 rfl) (wl rfl (st0B (q := 0) hS11 ⟨rfl, rfl⟩ rfl rfl rfl sizeOf55 rfl rfl rfl fun w11 im11 hS12 => ?_))
    refine nil (t_then ?_)
    refine sq2 (rg (pv (r_mp rfl) (?_)))
    obtain ⟨y7, hx7, hm⟩ := bindS hm
    rcases y7 with e1 | y7
    · have hm := exC_error hm
      refine wl rfl (calP cf62 rfl (tree_reader_must_sim (p0 := y6.2) (H_p0 := H_p0) (p1 := ([59] : List UInt8)) (hS12.bun [0, 1, 2, 4] [3] rfl) hL_p0 (h7.mono im11) hx7) rfl fun v8 T10 w15 im16 rv8 => ?_)
      obtain ⟨a13, c13, rfl, hS17, h10, _⟩ := rv8
      have hS17 := hS17.unb
      have hm := oI hm; subst hm
      have hn1 : _ = Lp.ret _ := hn1
      subst hn1
      have hm := thn_ret hq1
      have hm := oI hm; subst hm
      exact p_then (p_blk (p_then (p_blk (p_then (panE ⟨_, rfl, _, (iT im1 (iT im2 (iT im3 (iT im4 (iT im5 (iT im6 (iT im7 (iT im8 (iT im9 (iT im10 (iT im11 im16))))))))))), ⟨_, _, rfl, hS17.sel [2, 4] rfl, h10, trivial⟩⟩)))))
    have hm := exC_ok hm
    refine wl rfl (calS cf62 rfl (tree_reader_must_sim (p0 := y6.2) (H_p0 := H_p0) (p1 := ([59] : List UInt8)) (hS12.bun [0, 1, 2, 4] [3] rfl) hL_p0 (h7.mono im11) hx7) rfl fun v7 T8 w12 im12 rv7 => ?_)
    obtain ⟨a10, c10, rfl, hS13, h8, _⟩ := rv7
    have hS13 := hS13.unb
    refine nil (t_then ?_)
    refine rg (pv (r_ms rfl) (pv (r_ldS rfl isAgg58 sizeOf58 rfl (hS13.cells0 (i := 0) ⟨rfl, rfl⟩ (o := 0) rfl) (cs := [iv y3.Line, iv y3.Col, .string ⟨y4.1.Word.toArray⟩, .string ⟨y4.1.Name.toArray⟩, iv y4.1.Stars, .string ⟨y5.1.toArray⟩, .slice a8 n2 c8, .slice none 0 0, .bool false])) (?_)))
    obtain ⟨T9, im13, hS14, h9⟩ := hS13.seal 3 ⟨rfl, rfl⟩
    have hsh := h9.len
    subst hsh
    refine wl rfl (bsS (r := rGVar) (l := ([(⟨y3, y4.1, y5.1, y6.1, [], false⟩ : GVar)] : List GVar)) (css := [[iv y3.Line, iv y3.Col, .string ⟨y4.1.Word.toArray⟩, .string ⟨y4.1.Name.toArray⟩, iv y4.1.Stars, .string ⟨y5.1.toArray⟩, sv a8 y6.1 c8, .slice none 0 0, .bool false]]) hS14 underlying24 sizeOf58 zeroValue58 rfl rfl (by kernel_rfl) rfl ⟨(rGVar_mk (x := (⟨y3, y4.1, y5.1, y6.1, [], false⟩ : GVar)) h9 SlR_nil : rGVar.rp _ _ _ _), trivial⟩ rfl rfl fun w13 a11 n3 c11 im14 hS15 => ?_)
    obtain ⟨z_1, hro1, hm⟩ := bindS hm
    refine wl rfl (apO (q := 2) (l := x1) (us := ([(⟨y3, y4.1, y5.1, y6.1, [], false⟩ : GVar)] : List GVar)) hS15 ⟨rfl, rfl⟩ rfl rfl (hS15.own (i := 0) ⟨rfl, rfl⟩).v underlying24 el58 (room_some hro1) fun w14 a12 n4 c12 im15 hS16 => ?_)
    have hm := oI hm; subst hm
    exact pv (r_zs rfl) (nil (t_blk (t_then ⟨m1, Nat.lt_succ_self _, _, _, y7, (x1 ++ ([(⟨y3, y4.1, y5.1, y6.1, [], false⟩ : GVar)] : List GVar)), _, _, _, _, _, env_has ⟨rfl, rfl, trivial⟩, (iT im2 (iT im3 (iT im4 (iT im5 (iT im6 (iT im7 (iT im8 (iT im9 (iT im10 (iT im11 (iT im12 (iT im13 (iT im14 im15))))))))))))), hS16.sel [2, 3, 5] rfl, (h8.mono (iT im13 (iT im14 im15))), hn1⟩)))
  have hm := cfalse hb1 hm
  have hm := oI hm; subst hm
  have hn1 : _ = Lp.brk _ := hn1
  subst hn1
  have hm := thn_brk hq1
  refine xt (x_then (x_then (x_eq (t_then ?_))))
  refine sq2 (rg (pv (r_mp rfl) (?_)))
  obtain ⟨y9, hx9, hm⟩ := bindS hm
  rcases y9 with e6 | y9
  · have hm := exC_error hm
    refine wl rfl (calP cf62 rfl (tree_reader_must_sim (p0 := y2.2) (H_p0 := H_p0) (p1 := ([59] : List UInt8)) (hS4.bun [0, 1] [2] rfl) hL_p0 h4 hx9) rfl fun v15 T17 w22 im23 rv15 => ?_)
    obtain ⟨a20, c20, rfl, hS24, h17, _⟩ := rv15
    have hS24 := hS24.unb
    have hm := oI hm; subst hm
    exact p_then (panE ⟨_, rfl, _, (iT im1 (iT im2 (iT im3 im23))), ⟨_, _, rfl, hS24.sel [1, 2] rfl, h17, trivial⟩⟩)
  have hm := exC_ok hm
  refine wl rfl (calS cf62 rfl (tree_reader_must_sim (p0 := y2.2) (H_p0 := H_p0) (p1 := ([59] : List UInt8)) (hS4.bun [0, 1] [2] rfl) hL_p0 h4 hx9) rfl fun v14 T16 w21 im22 rv14 => ?_)
  obtain ⟨a19, c19, rfl, hS23, h16, _⟩ := rv14
  have hS23 := hS23.unb
  refine nil (t_then ?_)
  refine sq2 (rg (pv (r_ms rfl) (pv (r_zs rfl) (nil (t_then ?_)))))
  have hm := oI hm; subst hm
  exact rtn (ret1 rfl rfl ⟨_, rfl, _, (iT im1 (iT im2 (iT im3 im22))), ⟨_, _, _, _, _, rfl, hS23.sel [1, 2, 0] rfl, h16, trivial⟩⟩)

theorem tree_reader_deeper_sim {p0 : TreeReader} {b_p0 o_p0 : Nat} {H_p0 : List Value → Assn} {a1 : OA} {c1 : Nat} {r : Except (TreeRefused × TreeReader) (TreeReader)} (hS : Sep g T0 w0 [R, H_p0 [sv a1 p0.l c1, iv p0.end_.Line, iv p0.end_.Col, iv p0.depth]]) (hL_p0 : Ln b_p0 o_p0 H_p0) (h1 : SlR rGToken T0 w0 (sv a1 p0.l c1) p0.l) (hm : tree_reader_deeper p0 = some r) :
    Calls Tryz.prog 98 #[pt b_p0 o_p0] w0 (exR r (fun r => RetS T0 w0 fun T w v => ∃ (b2 : Nat) (a2 : OA) (c2 : Nat), v = .func (.func 115) #[] #[pt b2 0] ∧ Sep g T w [R, H_p0 [sv a2 r.l c2, iv r.end_.Line, iv r.end_.Col, iv r.depth], boxA b2 [pt b_p0 o_p0]] ∧ SlR rGToken T w (sv a2 r.l c2) r.l ∧ True) (fun r => PanS T0 w0 fun T w v => ∃ (a2 : OA) (c2 : Nat), v = .iface 48 (.agg (cTreeRefused r.1).toArray) ∧ Sep g T w [R, H_p0 [sv a2 r.2.l c2, iv r.2.end_.Line, iv r.2.end_.Col, iv r.2.depth]] ∧ SlR rGToken T w (sv a2 r.2.l c2) r.2.l ∧ True)) := by
  refine enter (args := [pt b_p0 o_p0]) Tryz.func98 rfl Tryz.ntmps98 rfl fun J => ?_
  unfold tree_reader_deeper at hm
  refine sq2 (rg (wl rfl (bxS (cs := [pt b_p0 o_p0]) rfl rfl hS fun w1 b1 im1 hS1 => ?_)))
  refine pv (r_zx (v := .nilFunc) rfl) (nil (t_then ?_))
  obtain ⟨kk1, hkk1, hm⟩ := jn_open hm
  refine cut (fun a w2 => ∃ (J : JV) (T1 : TP) , a = env (nf 18) J [(1, pt b1 0)] ∧ Im T0 w1 T1 w2 ∧ Sep g T1 w2 [boxA b1 [pt b_p0 o_p0], R, H_p0 [sv a1 p0.l c1, iv p0.end_.Line, iv p0.end_.Col, iv p0.depth]] ∧ kk1 () = some r) ?_ ?_
  · refine sq2 (rg (pv (r_ld rfl isAgg41 (hS1.cell0 (i := 0) ⟨rfl, rfl⟩ (j := 0) rfl)) (pv (r_nc rfl) (pv (r_fa rfl underlying43 rfl sizeOf3 rfl) (pv (r_ld rfl isAgg3 (hS1.cellB (i := 2) ⟨rfl, rfl⟩ hL_p0 (j := 3) rfl)) (pv (r_ib rfl rfl rfl) (nil (t_then ?_))))))))
    refine cnd rfl (fun hb1 => ?_) (fun hb1 => ?_)
    · have hm := ctrue hb1 hm
      refine rg (pv (r_ld rfl isAgg41 (hS1.cell0 (i := 0) ⟨rfl, rfl⟩ (j := 0) rfl)) (?_))
      obtain ⟨y1, hx1, hm⟩ := bindS hm
      rcases y1 with e1 | y1
      · have hm := exC_error hm
        refine wl rfl (calP cf83 rfl (tree_reader_fail_sim (p0 := p0) (H_p0 := H_p0) (p1 := 2) (hS1.bun [0, 1] [2] rfl) hL_p0 (h1.mono im1) hx1) rfl fun v2 T3 w4 im4 rv2 => ?_)
        obtain ⟨rfl, hS3, _⟩ := rv2
        have hS3 := hS3.unb
        have hm := oI hm; subst hm
        exact p_then (panE ⟨_, rfl, _, (iT im1 im4), ⟨_, _, rfl, hS3.sel [1, 2] rfl, (h1.mono (iT im1 im4)), trivial⟩⟩)
      have hm := exC_ok hm
      refine wl rfl (calS cf83 rfl (tree_reader_fail_sim (p0 := p0) (H_p0 := H_p0) (p1 := 2) (hS1.bun [0, 1] [2] rfl) hL_p0 (h1.mono im1) hx1) rfl fun v1 T2 w3 im3 rv1 => ?_)
      obtain ⟨rfl, hS2, _⟩ := rv1
      have hS2 := hS2.unb
      exact nil (t_then ⟨_, _, env_has ⟨rfl, trivial⟩, im3, hS2.sel [0, 1, 2] rfl, hm⟩)
    have hm := cfalse hb1 hm
    exact skp (t_then ⟨_, _, env_has ⟨rfl, trivial⟩, Im.refl, hS1.sel [0, 1, 2] rfl, hm⟩)
  rintro _ w2 ⟨J, T1, rfl, im2, hS4, hm⟩
  rw [hkk1] at hm
  refine sq2 (rg (pv (r_ld rfl isAgg41 (hS4.cell0 (i := 0) ⟨rfl, rfl⟩ (j := 0) rfl)) (pv (r_nc rfl) (pv (r_fa rfl underlying43 rfl sizeOf3 rfl) (pv (r_ld rfl isAgg3 (hS4.cellB (i := 2) ⟨rfl, rfl⟩ hL_p0 (j := 3) rfl)) (pv (r_ib rfl rfl rfl) (pv (r_nc rfl) (pv (r_fa rfl underlying43 rfl sizeOf3 rfl) (wl rfl (stB (q := 2) (j := 3) hS4 ⟨rfl, rfl⟩ hL_p0 rfl rfl rfl sizeOf3 rfl rfl rfl fun w5 im5 hS5 => ?_))))))))))
  refine nil (t_then ?_)
  refine sq2 (rg (pv (r_mkf (u := .func (.func 115) #[] #[pt b1 0]) rfl) (pv (r_zf rfl) (nil (t_then ?_)))))
  have hm := oI hm; subst hm
  exact rtn (ret1 rfl rfl ⟨_, rfl, _, (iT im1 (iT im2 im5)), ⟨_, _, _, rfl, hS5.sel [1, 2, 0] rfl, (h1.mono (iT im1 (iT im2 im5))), trivial⟩⟩)

theorem tree_reader_mark_sim {p0 : TreeReader} {b_p0 o_p0 : Nat} {H_p0 : List Value → Assn} {a1 : OA} {c1 : Nat} {r : (List UInt8)} (hS : Sep g T0 w0 [R, H_p0 [sv a1 p0.l c1, iv p0.end_.Line, iv p0.end_.Col, iv p0.depth]]) (hL_p0 : Ln b_p0 o_p0 H_p0) (h1 : SlR rGToken T0 w0 (sv a1 p0.l c1) p0.l) (hm : tree_reader_mark p0 = some r) :
    Calls Tryz.prog 101 #[pt b_p0 o_p0] w0 (RetS T0 w0 fun T w v => v = .string ⟨r.toArray⟩ ∧ Sep g T w [R, H_p0 [sv a1 p0.l c1, iv p0.end_.Line, iv p0.end_.Col, iv p0.depth]] ∧ True) := by
  refine enter (args := [pt b_p0 o_p0]) Tryz.func101 rfl Tryz.ntmps101 rfl fun J => ?_
  unfold tree_reader_mark at hm
  refine sq2 (rg (pv (r_zt rfl) (nil (t_then ?_))))
  refine sq2 (sq2 (rg (pv (r_mp rfl) (pv (r_nc rfl) (pv (r_fa rfl underlying43 rfl sizeOf38 rfl) (pv (r_ld rfl isAgg38 (hS.cellB (i := 1) ⟨rfl, rfl⟩ hL_p0 (j := 0) rfl)) (pv (r_ln rfl underlying38) (pv (r_ib rfl rfl rfl) (pv (r_mb rfl) (?_))))))))))
  rcases Bool.eq_false_or_eq_true ((List.length p0.l : Int) == 0) with hb1 | hb1
  · have hm := ctrue hb1 hm
    refine gF (d0 := 9) rfl rfl (by rw [hb1]; rfl) (gF (d0 := 9) rfl rfl (by rw [hb1]; rfl) (gF (d0 := 9) rfl rfl (by rw [hb1]; rfl) (gF (d0 := 9) rfl rfl (by rw [hb1]; rfl) (gF (d0 := 9) rfl rfl (by rw [hb1]; rfl) (gF (d0 := 9) rfl rfl (by rw [hb1]; rfl) (gF (d0 := 9) rfl rfl (by rw [hb1]; rfl) (gF (d0 := 9) rfl rfl (by rw [hb1]; rfl) (pv (r_pkt rfl hb1 rfl) (nil (t_then ?_))))))))))
    refine cnd (b := true) rfl (fun _ => ?_) (fun h => nomatch h)
    refine sq2 (rg (pv (r_zt rfl) (nil (t_then ?_))))
    have hm := oI hm; subst hm
    exact rtn (r_then (ret1 rfl rfl ⟨_, rfl, _, Im.refl, ⟨rfl, hS.sel [0, 1] rfl, trivial⟩⟩))
  have hm := cfalse hb1 hm
  obtain ⟨u1, hx1, hm⟩ := bindS hm
  obtain ⟨b1, of1, cs1, k1, cp1, hv1, hp1, hl1, he1, hr1, hc1, hT1⟩ := h1.ixT hx1 rfl
  cases rGToken_open hr1
  refine gT (d0 := 9) rfl rfl hb1 (pv (r_mp rfl) (gT (d0 := 9) rfl rfl hb1 (pv (r_nc rfl) (gT (d0 := 9) rfl rfl hb1 (pv (r_fa rfl underlying43 rfl sizeOf38 rfl) (gT (d0 := 9) rfl rfl hb1 (pv (r_ld rfl isAgg38 (hS.cellB (i := 1) ⟨rfl, rfl⟩ hL_p0 (j := 0) rfl)) (gT (d0 := 9) rfl rfl hb1 (pv (r_ixe hv1 rfl underlying38 sizeOf89 hp1 hl1 he1) (gT (d0 := 9) rfl rfl hb1 (pv (r_fa rfl underlying89 rfl sizeOf3 rfl) (gT (d0 := 9) rfl rfl hb1 (pv (r_ld rfl isAgg3 (hc1.get (j := 0) rfl)) (gT (d0 := 9) rfl rfl hb1 (pv (r_ib rfl rfl rfl) (pv (r_pkf rfl hb1 rfl) (nil (t_then ?_))))))))))))))))))
  refine cnd rfl (fun hb2 => ?_) (fun hb2 => ?_)
  · have hm := ctrue hb2 hm
    refine sq2 (rg (pv (r_zt rfl) (nil (t_then ?_))))
    have hm := oI hm; subst hm
    exact rtn (r_then (ret1 rfl rfl ⟨_, rfl, _, Im.refl, ⟨rfl, hS.sel [0, 1] rfl, trivial⟩⟩))
  have hm := cfalse hb2 hm
  refine skp (t_then ?_)
  refine sq2 ?_
  obtain ⟨u2, hx2, hm⟩ := bindS hm
  obtain ⟨b2, of2, cs2, k2, cp2, hv2, hp2, hl2, he2, hr2, hc2, hT2⟩ := h1.ixT hx2 rfl
  cases rGToken_open hr2
  refine rg (pv (r_mp rfl) (pv (r_nc rfl) (pv (r_fa rfl underlying43 rfl sizeOf38 rfl) (pv (r_ld rfl isAgg38 (hS.cellB (i := 1) ⟨rfl, rfl⟩ hL_p0 (j := 0) rfl)) (pv (r_ixe hv2 rfl underlying38 sizeOf89 hp2 hl2 he2) (pv (r_fa rfl underlying89 rfl sizeOf9 rfl) (pv (r_ld rfl isAgg9 (hc2.get (j := 1) rfl)) (pv (r_zt rfl) (nil (t_thenR [(2, .string ⟨u2.Text.toArray⟩)] ⟨rfl, trivial⟩ fun J => ?_))))))))))
  have hm := oI hm; subst hm
  exact rtn (ret1 rfl rfl ⟨_, rfl, _, Im.refl, ⟨rfl, hS.sel [0, 1] rfl, trivial⟩⟩)

theorem tree_reader_operator_sim {p0 : TreeReader} {b_p0 o_p0 : Nat} {H_p0 : List Value → Assn} {a1 : OA} {c1 : Nat} {p1 : Int} {r : GExpr × TreeReader} (hS : Sep g T0 w0 [R, H_p0 [sv a1 p0.l c1, iv p0.end_.Line, iv p0.end_.Col, iv p0.depth]]) (hL_p0 : Ln b_p0 o_p0 H_p0) (h1 : SlR rGToken T0 w0 (sv a1 p0.l c1) p0.l) (hm : tree_reader_operator p0 p1 = some r) :
    Calls Tryz.prog 102 #[pt b_p0 o_p0, iv p1] w0 (RetS T0 w0 fun T w v => ∃ (a3 : OA) (c3 : Nat) (a4 : OA) (c4 : Nat), v = .agg (cGExpr r.1 a3 c3).toArray ∧ Sep g T w [R, H_p0 [sv a4 r.2.l c4, iv r.2.end_.Line, iv r.2.end_.Col, iv r.2.depth]] ∧ SlR rGExpr T w (sv a3 r.1.Kids c3) r.1.Kids ∧ SlR rGToken T w (sv a4 r.2.l c4) r.2.l ∧ True) := by
  refine enter (args := [pt b_p0 o_p0, iv p1]) Tryz.func102 rfl Tryz.ntmps102 rfl fun J => ?_
  unfold tree_reader_operator at hm
  refine sq2 (rg (wl rfl (alS (zs := [iv 0, iv 0, iv 0, .string ⟨([] : List UInt8).toArray⟩, .string ⟨([] : List UInt8).toArray⟩, .int .u32 0, .string ⟨([] : List UInt8).toArray⟩, .string ⟨([] : List UInt8).toArray⟩, iv 0, .slice none 0 0]) zeroValue99 rfl hS fun w1 b1 im1 hS1 => ?_)))
  refine nil (t_then ?_)
  refine sq2 ?_
  obtain ⟨y1, hx1, hm⟩ := bindS hm
  refine rg (pv (r_mi rfl) (pv (r_mp rfl) (wl rfl (calS cf59 rfl (tree_reader_pos_sim (p0 := p0) (H_p0 := H_p0) (hS1.bun [0, 1] [2] rfl) hL_p0 (h1.mono im1) hx1) rfl fun v1 T1 w2 im2 rv1 => ?_))))
  obtain ⟨rfl, hS2, _⟩ := rv1
  have hS2 := hS2.unb
  obtain ⟨y2, hx2, hm⟩ := bindS hm
  refine pv (r_mp rfl) (wl rfl (calS cf101 rfl (tree_reader_mark_sim (p0 := p0) (H_p0 := H_p0) (hS2.bun [0, 1] [2] rfl) hL_p0 (h1.mono (iT im1 im2)) hx2) rfl fun v2 T2 w3 im3 rv2 => ?_))
  obtain ⟨rfl, hS3, _⟩ := rv2
  have hS3 := hS3.unb
  refine pv (r_bd (by kernel_rfl) rfl (u := .agg #[iv p1, iv y1.Line, iv y1.Col, .string ⟨y2.toArray⟩, .string ⟨([] : List UInt8).toArray⟩, .int .u32 0, .string ⟨([] : List UInt8).toArray⟩, .string ⟨([] : List UInt8).toArray⟩, iv 0, .slice none 0 0])) (wl rfl (alS (zs := [iv 0, iv 0, iv 0, .string ⟨([] : List UInt8).toArray⟩, .string ⟨([] : List UInt8).toArray⟩, .int .u32 0, .string ⟨([] : List UInt8).toArray⟩, .string ⟨([] : List UInt8).toArray⟩, iv 0, .slice none 0 0]) zeroValue99 rfl hS3 fun w4 b2 im4 hS4 => ?_))
  refine wl rfl (st0B (q := 0) hS4 ⟨rfl, rfl⟩ rfl rfl rfl sizeOf99 rfl rfl rfl fun w5 im5 hS5 => ?_)
  refine nil (t_then ?_)
  refine sq2 ?_
  obtain ⟨u1, hx3, hm⟩ := bindS hm
  obtain ⟨a2, c2, he1, h2⟩ := (h1.mono (iT im1 (iT im2 (iT im3 (iT im4 im5))))).part hx3
  refine rg (pv (r_mp rfl) (pv (r_mp rfl) (pv (r_nc rfl) (pv (r_fa rfl underlying43 rfl sizeOf38 rfl) (pv (r_ld rfl isAgg38 (hS5.cellB (i := 3) ⟨rfl, rfl⟩ hL_p0 (j := 0) rfl)) (pv (r_slR rfl (h1.mono (iT im1 (iT im2 (iT im3 (iT im4 im5))))) ⟨_, rfl⟩ rfl hx3 underlying38 sizeOf89 rfl he1) (pv (r_nc rfl) (pv (r_fa rfl underlying43 rfl sizeOf38 rfl) (wl rfl (stB (q := 3) (j := 0) hS5 ⟨rfl, rfl⟩ hL_p0 rfl rfl rfl sizeOf38 rfl rfl rfl fun w6 im6 hS6 => ?_))))))))))
  refine nil (t_then ?_)
  refine sq2 (rg (pv (r_ldS rfl isAgg99 sizeOf99 rfl (hS6.cells0 (i := 0) ⟨rfl, rfl⟩ (o := 0) rfl) (cs := [iv p1, iv y1.Line, iv y1.Col, .string ⟨y2.toArray⟩, .string ⟨([] : List UInt8).toArray⟩, .int .u32 0, .string ⟨([] : List UInt8).toArray⟩, .string ⟨([] : List UInt8).toArray⟩, iv 0, .slice none 0 0])) (wl rfl (st0B (q := 1) hS6 ⟨rfl, rfl⟩ rfl rfl rfl sizeOf99 rfl rfl rfl fun w7 im7 hS7 => ?_))))
  refine nil (t_then ?_)
  have hm := oI hm; subst hm
  exact rtn (retN (vs := [.agg #[iv p1, iv y1.Line, iv y1.Col, .string ⟨y2.toArray⟩, .string ⟨([] : List UInt8).toArray⟩, .int .u32 0, .string ⟨([] : List UInt8).toArray⟩, .string ⟨([] : List UInt8).toArray⟩, iv 0, .slice none 0 0]]) rfl ⟨rvS rfl isAgg99 sizeOf99 rfl (hS7.bx (i := 1) ⟨rfl, rfl⟩), trivial⟩ rfl ⟨_, rfl, _, (iT im1 (iT im2 (iT im3 (iT im4 (iT im5 (iT im6 im7)))))), ⟨_, _, _, _, rfl, hS7.sel [2, 3] rfl, SlR_nil, (h2.mono (iT im6 im7)), trivial⟩⟩)
end Go.Proofs.YtbolaohekbmndaaGreatDoor
