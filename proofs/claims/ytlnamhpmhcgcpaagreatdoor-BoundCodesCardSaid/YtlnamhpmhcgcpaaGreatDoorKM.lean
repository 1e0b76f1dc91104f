/- The models of Go functions: what each computes. Printed by gen2.py. -/
import Derived.Test.YtlnamhpmhcgcpaaGreatDoorKModel
import Derived.Laws.Entries
set_option linter.unusedVariables false
namespace Go.Proofs.YtlnamhpmhcgcpaaGreatDoor

def law30_awake : Option Bool := some true
structure InstShape where
  name : List UInt8
  form : Int
  code : Int
  third : Int
  seventh : Int
  deriving DecidableEq
structure GInst where
  Op : Int
  Rd : Int
  Rs1 : Int
  Rs2 : Int
  Imm : Int
  deriving DecidableEq
structure GImage where
  Code : List Int
  Data : List Int
  Limit : Int
  Notes : Int
  deriving DecidableEq
structure BoundGraph where
  code : List GInst
  backs : List Int
  marks : List Int
  deriving DecidableEq
structure BoundWalk where
  x : BoundGraph
  state : List Int
  long : List Int
  deriving DecidableEq
structure ref30Code where
  L : List GInst
  Backs : List Int
  Marks : List Int
  deriving DecidableEq
def tbl1 : List InstShape := ([⟨([] : List UInt8), 0, 0, 0, 0⟩, ⟨([108, 117, 105] : List UInt8), 85, 55, 0, 0⟩, ⟨([97, 117, 105, 112, 99] : List UInt8), 85, 23, 0, 0⟩, ⟨([106, 97, 108] : List UInt8), 74, 111, 0, 0⟩, ⟨([106, 97, 108, 114] : List UInt8), 73, 103, 0, 0⟩, ⟨([98, 101, 113] : List UInt8), 66, 99, 0, 0⟩, ⟨([98, 110, 101] : List UInt8), 66, 99, 1, 0⟩, ⟨([98, 108, 116] : List UInt8), 66, 99, 4, 0⟩, ⟨([98, 103, 101] : List UInt8), 66, 99, 5, 0⟩, ⟨([98, 108, 116, 117] : List UInt8), 66, 99, 6, 0⟩, ⟨([98, 103, 101, 117] : List UInt8), 66, 99, 7, 0⟩, ⟨([108, 98] : List UInt8), 73, 3, 0, 0⟩, ⟨([108, 104] : List UInt8), 73, 3, 1, 0⟩, ⟨([108, 119] : List UInt8), 73, 3, 2, 0⟩, ⟨([108, 98, 117] : List UInt8), 73, 3, 4, 0⟩, ⟨([108, 104, 117] : List UInt8), 73, 3, 5, 0⟩, ⟨([115, 98] : List UInt8), 83, 35, 0, 0⟩, ⟨([115, 104] : List UInt8), 83, 35, 1, 0⟩, ⟨([115, 119] : List UInt8), 83, 35, 2, 0⟩, ⟨([97, 100, 100, 105] : List UInt8), 73, 19, 0, 0⟩, ⟨([115, 108, 116, 105] : List UInt8), 73, 19, 2, 0⟩, ⟨([115, 108, 116, 105, 117] : List UInt8), 73, 19, 3, 0⟩, ⟨([120, 111, 114, 105] : List UInt8), 73, 19, 4, 0⟩, ⟨([111, 114, 105] : List UInt8), 73, 19, 6, 0⟩, ⟨([97, 110, 100, 105] : List UInt8), 73, 19, 7, 0⟩, ⟨([115, 108, 108, 105] : List UInt8), 72, 19, 1, 0⟩, ⟨([115, 114, 108, 105] : List UInt8), 72, 19, 5, 0⟩, ⟨([115, 114, 97, 105] : List UInt8), 72, 19, 5, 32⟩, ⟨([97, 100, 100] : List UInt8), 82, 51, 0, 0⟩, ⟨([115, 117, 98] : List UInt8), 82, 51, 0, 32⟩, ⟨([115, 108, 108] : List UInt8), 82, 51, 1, 0⟩, ⟨([115, 108, 116] : List UInt8), 82, 51, 2, 0⟩, ⟨([115, 108, 116, 117] : List UInt8), 82, 51, 3, 0⟩, ⟨([120, 111, 114] : List UInt8), 82, 51, 4, 0⟩, ⟨([115, 114, 108] : List UInt8), 82, 51, 5, 0⟩, ⟨([115, 114, 97] : List UInt8), 82, 51, 5, 32⟩, ⟨([111, 114] : List UInt8), 82, 51, 6, 0⟩, ⟨([97, 110, 100] : List UInt8), 82, 51, 7, 0⟩, ⟨([109, 117, 108] : List UInt8), 82, 51, 0, 1⟩, ⟨([109, 117, 108, 104] : List UInt8), 82, 51, 1, 1⟩, ⟨([109, 117, 108, 104, 115, 117] : List UInt8), 82, 51, 2, 1⟩, ⟨([109, 117, 108, 104, 117] : List UInt8), 82, 51, 3, 1⟩, ⟨([100, 105, 118] : List UInt8), 82, 51, 4, 1⟩, ⟨([100, 105, 118, 117] : List UInt8), 82, 51, 5, 1⟩, ⟨([114, 101, 109] : List UInt8), 82, 51, 6, 1⟩, ⟨([114, 101, 109, 117] : List UInt8), 82, 51, 7, 1⟩] : List InstShape)


def inst_table  : Option ((List InstShape)) :=
  some tbl1

def inst_of (p0 : Int) : Option (InstShape) :=
  bif decide (p0 < 0) then (some (⟨([] : List UInt8), 0, 0, 0, 0⟩ : InstShape)) else (bif decide (46 ≤ p0) then (some (⟨([] : List UInt8), 0, 0, 0, 0⟩ : InstShape)) else ((inst_table).bind fun y1 => (lenOk y1 46).bind fun _ => (idx y1 p0).bind fun u1 => some u1))

def inst_bits (p0 : Int) (p1 : Int) (p2 : Int) : Option (Int) :=
  (nn p1).bind fun _ => (nn p2).bind fun _ => some (bits .and .u32 (Int.fdiv p0 (2 ^ (min (Int.toNat p1) (IntKind.bits .u32)))) (IntKind.wrap .u32 ((IntKind.wrap .u32 (1 * 2 ^ (min (Int.toNat p2) (IntKind.bits .u32)))) - 1)))

def inst_fits (p0 : InstShape) (p1 : Int) : Option (Bool) :=
  bif (bits .and .u32 p1 127) != p0.code then (some false) else (bif p0.form == 85 then (some true) else (bif p0.form == 74 then (some true) else ((inst_bits p1 12 3).bind fun y1 => bif y1 != p0.third then (some false) else (bif p0.form != 82 then (bif p0.form != 72 then (some true) else (some ((Int.fdiv p1 (2 ^ (min (Int.toNat 25) (IntKind.bits .u32)))) == p0.seventh))) else (some ((Int.fdiv p1 (2 ^ (min (Int.toNat 25) (IntKind.bits .u32)))) == p0.seventh))))))

def word_Sign (p0 : Int) (p1 : Int) : Option (Int) :=
  bif decide (p1 < 1) then (some p0) else (bif decide (31 < p1) then (some p0) else ((nn (IntKind.wrap .i64 (32 - p1))).bind fun _ => (nn (IntKind.wrap .i64 (32 - p1))).bind fun _ => some (IntKind.wrap .u32 (Int.fdiv (IntKind.wrap .i32 (IntKind.wrap .u32 (p0 * 2 ^ (min (Int.toNat (IntKind.wrap .i64 (32 - p1))) (IntKind.bits .u32))))) (2 ^ (min (Int.toNat (IntKind.wrap .i64 (32 - p1))) (IntKind.bits .i32)))))))

def inst_told (p0 : Int) (p1 : Int) : Option (Int) :=
  bif p0 == 85 then (some (IntKind.wrap .i64 (IntKind.wrap .i32 (bits .andNot .u32 p1 4095)))) else (bif p0 == 74 then ((inst_bits p1 31 1).bind fun y1 => (inst_bits p1 21 10).bind fun y2 => (inst_bits p1 20 1).bind fun y3 => (inst_bits p1 12 8).bind fun y4 => (word_Sign (bits .or .u32 (bits .or .u32 (bits .or .u32 (IntKind.wrap .u32 (y1 * 2 ^ (min (Int.toNat 20) (IntKind.bits .u32)))) (IntKind.wrap .u32 (y2 * 2 ^ (min (Int.toNat 1) (IntKind.bits .u32))))) (IntKind.wrap .u32 (y3 * 2 ^ (min (Int.toNat 11) (IntKind.bits .u32))))) (IntKind.wrap .u32 (y4 * 2 ^ (min (Int.toNat 12) (IntKind.bits .u32))))) 21).bind fun y5 => some (IntKind.wrap .i64 (IntKind.wrap .i32 y5))) else (bif p0 == 73 then (some (IntKind.wrap .i64 (Int.fdiv (IntKind.wrap .i32 p1) (2 ^ (min (Int.toNat 20) (IntKind.bits .i32)))))) else (bif p0 == 72 then ((inst_bits p1 20 5).bind fun y6 => some (IntKind.wrap .i64 y6)) else (bif p0 == 83 then ((inst_bits p1 25 7).bind fun y7 => (inst_bits p1 7 5).bind fun y8 => (word_Sign (bits .or .u32 (IntKind.wrap .u32 (y7 * 2 ^ (min (Int.toNat 5) (IntKind.bits .u32)))) y8) 12).bind fun y9 => some (IntKind.wrap .i64 (IntKind.wrap .i32 y9))) else (bif p0 == 66 then ((inst_bits p1 31 1).bind fun y10 => (inst_bits p1 25 6).bind fun y11 => (inst_bits p1 8 4).bind fun y12 => (inst_bits p1 7 1).bind fun y13 => (word_Sign (bits .or .u32 (bits .or .u32 (bits .or .u32 (IntKind.wrap .u32 (y10 * 2 ^ (min (Int.toNat 12) (IntKind.bits .u32)))) (IntKind.wrap .u32 (y11 * 2 ^ (min (Int.toNat 5) (IntKind.bits .u32))))) (IntKind.wrap .u32 (y12 * 2 ^ (min (Int.toNat 1) (IntKind.bits .u32))))) (IntKind.wrap .u32 (y13 * 2 ^ (min (Int.toNat 11) (IntKind.bits .u32))))) 13).bind fun y14 => some (IntKind.wrap .i64 (IntKind.wrap .i32 y14))) else (some (0 : Int)))))))

def inst_needs (p0 : Int) : Option (Bool × Bool × Bool × Bool) :=
  jn (fun kk1 => jn (fun kk2 => jn (fun kk3 => bif p0 == 82 then (kk3 true false) else (jn (fun kk4 => bif p0 == 73 then (kk4 (p0 == 73)) else (kk4 (p0 == 72))) (fun (x10 : Bool) => bif x10 then (kk3 false true) else (jn (fun kk5 => bif p0 == 85 then (kk5 (p0 == 85)) else (kk5 (p0 == 74))) (fun (x11 : Bool) => bif x11 then (kk2 false false true) else (jn (fun kk6 => bif p0 == 83 then (kk6 (p0 == 83)) else (kk6 (p0 == 66))) (fun (x12 : Bool) => bif x12 then (kk1 false true true true) else (kk1 false false false true)))))))) (fun (x8 : Bool) (x9 : Bool) => kk2 true x8 x9)) (fun (x5 : Bool) (x6 : Bool) (x7 : Bool) => kk1 true x5 x6 x7)) (fun (x1 : Bool) (x2 : Bool) (x3 : Bool) (x4 : Bool) => some (x1, x2, x3, x4))

def inst_Decode (p0 : Int) : Option (GInst × Int) :=
  (inst_table).bind fun y1 => (lenOk y1 46).bind fun _ => (loopM (fun (x1 : Int) => (bif decide (x1 ≤ 45) then ((idx y1 x1).bind fun u1 => (inst_fits u1 p0).bind fun y2 => bif !y2 then (some (Lp.go (IntKind.wrap .i64 (x1 + 1)))) else ((inst_told u1.form p0).bind fun y3 => (inst_needs u1.form).bind fun y4 => jn (fun kk1 => bif y4.1 then ((inst_bits p0 7 5).bind fun y5 => kk1 (⟨x1, IntKind.wrap .i64 y5, 0, 0, y3⟩ : GInst)) else (kk1 (⟨x1, 0, 0, 0, y3⟩ : GInst))) (fun (x2 : GInst) => jn (fun kk2 => bif y4.2.1 then ((inst_bits p0 15 5).bind fun y6 => kk2 ({ x2 with Rs1 := IntKind.wrap .i64 y6 })) else (kk2 x2)) (fun (x3 : GInst) => jn (fun kk3 => bif y4.2.2.1 then ((inst_bits p0 20 5).bind fun y7 => kk3 ({ x3 with Rs2 := IntKind.wrap .i64 y7 })) else (kk3 x3)) (fun (x4 : GInst) => some (Lp.ret (x4, (0 : Int)))))))) else (some (Lp.brk x1)) : Option (Lp (Int) (GInst × Int)))) NN (1 : Int)).bind fun o => o.thn (fun (x1 : Int) => some ((⟨0, 0, 0, 0, 0⟩ : GInst), (3 : Int))) (fun r => some r)

def bound_read (p0 : GImage) : Option (Except (BoundGraph × Int) (Int)) :=
  (loopM (fun (x4, x5) => (bif decide (x4 < (List.length p0.Code : Int)) then (jn (fun kk1 => (idx p0.Code x4).bind fun u1 => (inst_Decode u1).bind fun y1 => bif y1.2 != 0 then (some (Lp.ret (Except.ok (3 : Int)))) else ((room (List.length x5.code + List.length ([y1.1] : List GInst))).bind fun _ => bif y1.1.Op != 3 then (kk1 ({ x5 with code := x5.code ++ ([y1.1] : List GInst) })) else (bif y1.1.Rd == 1 then ((room (List.length x5.backs + List.length ([IntKind.wrap .i64 (x4 + 1)] : List Int))).bind fun _ => kk1 (⟨x5.code ++ ([y1.1] : List GInst), x5.backs ++ ([IntKind.wrap .i64 (x4 + 1)] : List Int), x5.marks⟩ : BoundGraph)) else (bif y1.1.Rd == 5 then ((room (List.length x5.marks + List.length ([x4] : List Int))).bind fun _ => kk1 (⟨x5.code ++ ([y1.1] : List GInst), x5.backs, x5.marks ++ ([x4] : List Int)⟩ : BoundGraph)) else (kk1 ({ x5 with code := x5.code ++ ([y1.1] : List GInst) })))))) (fun (x9 : BoundGraph) => some (Lp.go (IntKind.wrap .i64 (x4 + 1), x9)))) else (some (Lp.brk (x4, x5))) : Option (Lp (Int × BoundGraph) (Except (BoundGraph × Int) (Int))))) NN ((0 : Int), (⟨[], [], []⟩ : BoundGraph))).bind fun o => o.thn (fun (x4, x5) => some (Except.error (x5, (0 : Int)))) (fun r => some r)

def bound_target (p0 : Int) (p1 : GInst) : Option (Int) :=
  some (IntKind.wrap .i64 (p0 + (IntKind.wrap .i64 (Int.tdiv p1.Imm 4))))

def bound_graph_has (p0 : BoundGraph) (p1 : Int) : Option (Bool) :=
  some ((decide (0 ≤ p1)) && (decide (p1 < (List.length p0.code : Int))))

def bound_graph_mark (p0 : BoundGraph) : Option (Int) :=
  (idx p0.marks 0).bind fun u1 => (idx p0.marks 0).bind fun u2 => (idx p0.code u2).bind fun u3 => (bound_target u1 u3).bind fun y1 => (loopM (fun (x1 : Int) => ((bound_graph_has p0 (IntKind.wrap .i64 (y1 + x1))).bind fun y2 => bif y2 then ((idx p0.code (IntKind.wrap .i64 (y1 + x1))).bind fun u4 => bif u4.Op == 4 then (some (Lp.ret (IntKind.wrap .i64 (x1 + 1)))) else (some (Lp.go (IntKind.wrap .i64 (x1 + 1))))) else (some (Lp.brk x1)) : Option (Lp (Int) (Int)))) NN (0 : Int)).bind fun o => o.thn (fun (x1 : Int) => some ((-1) : Int)) (fun r => some r)

def bound_graph_on (p0 : BoundGraph) (p1 : Int) : Option (Int) :=
  some p1

def bound_graph_leads (p0 : BoundGraph) (p1 : Int) : Option ((List Int)) :=
  (idx p0.code p1).bind fun u1 => bif ((u1.Op == 3) && (u1.Rd == 5)) then (some []) else (bif u1.Op == 3 then ((bound_target p1 u1).bind fun y1 => some ([y1] : List Int)) else (bif ((((u1.Op == 4) && (u1.Rd == 0)) && (u1.Rs1 == 1)) && (u1.Imm == 0)) then (some p0.backs) else (bif u1.Op == 4 then (some []) else (bif ((decide (5 ≤ u1.Op)) && (decide (u1.Op ≤ 10))) then ((bound_target p1 u1).bind fun y2 => some ([y2, IntKind.wrap .i64 (p1 + 1)] : List Int)) else (some ([IntKind.wrap .i64 (p1 + 1)] : List Int))))))

def bound_graph_on_1 {σ ε : Type} (p0 : σ → Int → Option (Lp σ ε)) (p1 : σ) (p2 : BoundGraph) (p3 : Int) : Option ((Lp σ ε)) :=
  (bound_graph_leads p2 p3).bind fun y1 => (loopM (fun (x1, x2) => (bif decide (x2 < (List.length y1 : Int)) then ((idx y1 x2).bind fun u1 => (bound_graph_has p2 u1).bind fun y2 => bif y2 then ((p0 x1 u1).bind fun z1 => Lp.gone z1 (fun sg1 => some (Lp.go (sg1, IntKind.wrap .i64 (x2 + 1)))) (some (Lp.ret z1))) else (some (Lp.go (x1, IntKind.wrap .i64 (x2 + 1))))) else (some (Lp.brk (x1, x2))) : Option (Lp (σ × Int) ((Lp σ ε))))) NN (p1, (0 : Int))).bind fun o => o.thn (fun (x1, x2) => some (Lp.go x1)) (fun r => some r)

def bound_walk_from (p0 : BoundWalk) (p1 : Int) : Option (Bool × BoundWalk) :=
  (loopM (fun (x1, x2, x4, x5) => (bif decide (0 < (List.length x5 : Int)) then ((idx x5 (IntKind.wrap .i64 ((List.length x5 : Int) - 1))).bind fun u1 => (idx x1 u1).bind fun u2 => bif u2 == 2 then ((sub x5 0 (IntKind.wrap .i64 ((List.length x5 : Int) - 1))).bind fun u3 => some (Lp.go (x1, x2, x4, u3))) else ((idx x1 u1).bind fun u4 => (idx x1 u1).bind fun u5 => (idx x1 u1).bind fun u6 => (bound_graph_on p0.x u1).bind fun y1 => (bound_graph_on_1 (fun (sx : Bool × (List Int) × Int) (x10 : Int) => (match sx with | (x7, x8, x9) => (idx (List.set x1 (Int.toNat u1) 1) x10).bind fun u7 => bif u7 == 2 then ((idx x2 x10).bind fun u8 => some (Lp.go (x7, x8, max x9 u8))) else (bif u4 == 0 then ((idx (List.set x1 (Int.toNat u1) 1) x10).bind fun u9 => bif u9 == 0 then ((room (List.length x8 + List.length ([x10] : List Int))).bind fun _ => some (Lp.go (x7, x8 ++ ([x10] : List Int), x9))) else ((idx (List.set x1 (Int.toNat u1) 1) x10).bind fun u10 => bif u10 == 1 then (some (Lp.brk (false, x8, x9))) else (some (Lp.go (x7, x8, x9))))) else ((idx (List.set x1 (Int.toNat u1) 1) x10).bind fun u11 => bif u11 == 1 then (some (Lp.brk (false, x8, x9))) else (some (Lp.go (x7, x8, x9))))) : Option (Lp (Bool × (List Int) × Int) Unit))) (x4, x5, 0) p0.x y1).bind fun o => Lp.gob o (fun (x7, x8, x9) => bif !(u4 == 0) then ((idx (List.set x1 (Int.toNat u1) 1) u1).bind fun u12 => (idx (List.set x1 (Int.toNat u1) 1) u1).bind fun u13 => (idx x2 u1).bind fun u14 => (idx x2 u1).bind fun u15 => (sub x8 0 (IntKind.wrap .i64 ((List.length x8 : Int) - 1))).bind fun u16 => some (Lp.go (List.set (List.set x1 (Int.toNat u1) 1) (Int.toNat u1) 2, List.set x2 (Int.toNat u1) (IntKind.wrap .i64 (x9 + 1)), x7, u16))) else (some (Lp.go (List.set x1 (Int.toNat u1) 1, x2, x7, x8)))) (fun (x7, x8, x9) => some (Lp.ret (x7, (⟨p0.x, List.set x1 (Int.toNat u1) 1, x2⟩ : BoundWalk)))) none)) else (some (Lp.brk (x1, x2, x4, x5))) : Option (Lp ((List Int) × (List Int) × Bool × (List Int)) (Bool × BoundWalk)))) NN (p0.state, p0.long, false, ([p1] : List Int))).bind fun o => o.thn (fun (x1, x2, x4, x5) => some (true, (⟨p0.x, x1, x2⟩ : BoundWalk))) (fun r => some r)

def bound_Region (p0 : GImage) : Option (Int × Int) :=
  (bound_read p0).bind fun y1 => exC y1 (fun y1 => bif y1 != 0 then (some ((0 : Int), y1)) else none) (fun e1 => bif e1.2 != 0 then (some ((0 : Int), e1.2)) else (bif (List.length e1.1.marks : Int) == 0 then (some ((0 : Int), (4 : Int))) else ((bound_graph_mark e1.1).bind fun y2 => bif decide (y2 < 0) then (some ((0 : Int), (4 : Int))) else ((repl (List.length e1.1.code : Int) 0).bind fun u1 => (loopM (fun (x3, x4, x5, x6) => (bif decide (x4 < (List.length e1.1.marks : Int)) then (jn (fun kk1 => (idx e1.1.marks x4).bind fun u2 => (bound_graph_has x5 (IntKind.wrap .i64 (u2 + 1))).bind fun y3 => bif !y3 then (kk1 x6.state x6.long x3 x5) else ((bound_walk_from ({ x6 with x := x5 }) (IntKind.wrap .i64 (u2 + 1))).bind fun y4 => bif !y4.1 then (some (Lp.ret ((0 : Int), (9 : Int)))) else ((idx y4.2.long (IntKind.wrap .i64 (u2 + 1))).bind fun u3 => kk1 y4.2.state y4.2.long (max x3 u3) y4.2.x))) (fun (x7 : List Int) (x8 : List Int) (x9 : Int) (x10 : BoundGraph) => some (Lp.go (x9, IntKind.wrap .i64 (x4 + 1), x10, (⟨x10, x7, x8⟩ : BoundWalk))))) else (some (Lp.brk (x3, x4, x5, { x6 with x := x5 }))) : Option (Lp (Int × Int × BoundGraph × BoundWalk) (Int × Int)))) NN ((0 : Int), (0 : Int), e1.1, (⟨e1.1, u1, u1⟩ : BoundWalk))).bind fun o => o.thn (fun (x3, x4, x5, x6) => (bound_graph_mark x5).bind fun y5 => some (IntKind.wrap .i64 (x3 + y5), (0 : Int))) (fun r => some r)))))

def ref02_Form (p0 : Int) : Option (Int) :=
  bif decide (p0 < 1) then (some (0 : Int)) else (bif decide (45 < p0) then (some (0 : Int)) else (bif decide (p0 ≤ 2) then (some (85 : Int)) else (bif p0 == 3 then (some (74 : Int)) else (bif decide (5 ≤ p0) then (bif decide (p0 ≤ 10) then (some (66 : Int)) else (bif decide (16 ≤ p0) then (bif decide (p0 ≤ 18) then (some (83 : Int)) else (bif decide (25 ≤ p0) then (bif decide (p0 ≤ 27) then (some (72 : Int)) else (bif decide (28 ≤ p0) then (some (82 : Int)) else (some (73 : Int)))) else (bif decide (28 ≤ p0) then (some (82 : Int)) else (some (73 : Int))))) else (bif decide (25 ≤ p0) then (bif decide (p0 ≤ 27) then (some (72 : Int)) else (bif decide (28 ≤ p0) then (some (82 : Int)) else (some (73 : Int)))) else (bif decide (28 ≤ p0) then (some (82 : Int)) else (some (73 : Int)))))) else (bif decide (16 ≤ p0) then (bif decide (p0 ≤ 18) then (some (83 : Int)) else (bif decide (25 ≤ p0) then (bif decide (p0 ≤ 27) then (some (72 : Int)) else (bif decide (28 ≤ p0) then (some (82 : Int)) else (some (73 : Int)))) else (bif decide (28 ≤ p0) then (some (82 : Int)) else (some (73 : Int))))) else (bif decide (25 ≤ p0) then (bif decide (p0 ≤ 27) then (some (72 : Int)) else (bif decide (28 ≤ p0) then (some (82 : Int)) else (some (73 : Int)))) else (bif decide (28 ≤ p0) then (some (82 : Int)) else (some (73 : Int)))))))))

def ref02_two (p0 : Int) : Option (Int) :=
  (loopM (fun (x1, x2) => (bif decide (x2 < p0) then (some (Lp.go (IntKind.wrap .i64 (2 * x1), IntKind.wrap .i64 (x2 + 1)))) else (some (Lp.brk (x1, x2))) : Option (Lp (Int × Int) (Unit)))) NN ((1 : Int), (0 : Int))).bind fun o => o.thn (fun (x1, x2) => some x1) (fun _ => none)

def ref02_move (p0 : Int) (p1 : Int) (p2 : Int) (p3 : Int) : Option (Int) :=
  jn (fun kk1 => bif decide (p0 < 0) then (kk1 (IntKind.wrap .i64 (p0 + 4294967296))) else (kk1 p0)) (fun (x1 : Int) => (ref02_two p1).bind fun y1 => (nz y1).bind fun _ => (ref02_two (IntKind.wrap .i64 ((IntKind.wrap .i64 (p2 - p1)) + 1))).bind fun y2 => (nz y2).bind fun _ => (ref02_two p3).bind fun y3 => some (IntKind.wrap .i64 ((Int.tmod (IntKind.wrap .i64 (Int.tdiv x1 y1)) y2) * y3)))

def ref02_signed (p0 : Int) (p1 : Int) : Option (Int) :=
  (ref02_two (IntKind.wrap .i64 (p1 - 1))).bind fun y1 => bif decide (y1 ≤ p0) then ((ref02_two p1).bind fun y2 => some (IntKind.wrap .i64 (p0 - y2))) else (some p0)

def ref02_Gather (p0 : Int) (p1 : Int) : Option (Int) :=
  bif p0 == 85 then ((ref02_move p1 12 31 12).bind fun y1 => (ref02_signed y1 32).bind fun y2 => some y2) else (bif p0 == 74 then ((ref02_move p1 31 31 20).bind fun y3 => (ref02_move p1 21 30 1).bind fun y4 => (ref02_move p1 20 20 11).bind fun y5 => (ref02_move p1 12 19 12).bind fun y6 => (ref02_signed (IntKind.wrap .i64 ((IntKind.wrap .i64 ((IntKind.wrap .i64 (y3 + y4)) + y5)) + y6)) 21).bind fun y7 => some y7) else (bif p0 == 73 then ((ref02_move p1 20 31 0).bind fun y8 => (ref02_signed y8 12).bind fun y9 => some y9) else (bif p0 == 72 then ((ref02_move p1 20 24 0).bind fun y10 => some y10) else (bif p0 == 83 then ((ref02_move p1 7 11 0).bind fun y11 => (ref02_move p1 25 31 5).bind fun y12 => (ref02_signed (IntKind.wrap .i64 (y11 + y12)) 12).bind fun y13 => some y13) else (bif p0 == 66 then ((ref02_move p1 31 31 12).bind fun y14 => (ref02_move p1 25 30 5).bind fun y15 => (ref02_move p1 8 11 1).bind fun y16 => (ref02_move p1 7 7 11).bind fun y17 => (ref02_signed (IntKind.wrap .i64 ((IntKind.wrap .i64 ((IntKind.wrap .i64 (y14 + y15)) + y16)) + y17)) 13).bind fun y18 => some y18) else (some (0 : Int)))))))

def ref02_has (p0 : Int) (p1 : Int) : Option (Bool) :=
  bif p1 == 1 then (bif p0 != 83 then (some (p0 != 66)) else (some false)) else (bif p1 == 2 then (bif p0 != 85 then (some (p0 != 74)) else (some false)) else (bif p0 == 83 then (some true) else (bif p0 == 66 then (some true) else (some (p0 == 82)))))

def ref02_reg (p0 : Int) (p1 : Bool) : Option (Bool) :=
  bif !p1 then (some (p0 == 0)) else (bif decide (0 ≤ p0) then (some (decide (p0 ≤ 31))) else (some false))

def ref02_room (p0 : Int) (p1 : Int) : Option (Bool) :=
  bif p0 == 85 then (bif decide ((-2147483648) ≤ p1) then (bif decide (p1 ≤ 2147479552) then (some ((Int.tmod p1 4096) == 0)) else (some false)) else (some false)) else (bif p0 == 74 then (bif decide ((-1048576) ≤ p1) then (bif decide (p1 ≤ 1048574) then (some ((Int.tmod p1 2) == 0)) else (some false)) else (some false)) else (bif p0 == 73 then (bif decide ((-2048) ≤ p1) then (some (decide (p1 ≤ 2047))) else (some false)) else (bif p0 == 83 then (bif decide ((-2048) ≤ p1) then (some (decide (p1 ≤ 2047))) else (some false)) else (bif p0 == 72 then (bif decide (0 ≤ p1) then (some (decide (p1 ≤ 31))) else (some false)) else (bif p0 == 66 then (bif decide ((-4096) ≤ p1) then (bif decide (p1 ≤ 4094) then (some ((Int.tmod p1 2) == 0)) else (some false)) else (some false)) else (some (p1 == 0)))))))

def ref02_Right (p0 : GInst) : Option (Bool) :=
  (ref02_Form p0.Op).bind fun y1 => bif y1 != 0 then ((ref02_has y1 1).bind fun y2 => (ref02_reg p0.Rd y2).bind fun y3 => bif y3 then ((ref02_has y1 2).bind fun y4 => (ref02_reg p0.Rs1 y4).bind fun y5 => bif y5 then ((ref02_has y1 3).bind fun y6 => (ref02_reg p0.Rs2 y6).bind fun y7 => bif y7 then ((ref02_room y1 p0.Imm).bind fun y8 => some y8) else (some false)) else (some false)) else (some false)) else (some false)

def ref02_Code (p0 : Int) : Option (Int) :=
  bif p0 == 1 then (some (55 : Int)) else (bif p0 == 2 then (some (23 : Int)) else (bif p0 == 3 then (some (111 : Int)) else (bif p0 == 4 then (some (103 : Int)) else (bif decide (p0 ≤ 10) then (some (99 : Int)) else (bif decide (p0 ≤ 15) then (some (3 : Int)) else (bif decide (p0 ≤ 18) then (some (35 : Int)) else (bif decide (p0 ≤ 27) then (some (19 : Int)) else (some (51 : Int)))))))))

def ref02_Third (p0 : Int) : Option (Int) :=
  (idx ([0, 0, 0, 0, 0, 0, 1, 4, 5, 6, 7, 0, 1, 2, 4, 5, 0, 1, 2, 0, 2, 3, 4, 6, 7, 1, 5, 5, 0, 0, 1, 2, 3, 4, 5, 5, 6, 7, 0, 1, 2, 3, 4, 5, 6, 7] : List Int) p0).bind fun u1 => some u1

def ref02_Seventh (p0 : Int) : Option (Int) :=
  bif p0 == 27 then (some (32 : Int)) else (bif p0 == 29 then (some (32 : Int)) else (bif p0 == 35 then (some (32 : Int)) else (bif decide (38 ≤ p0) then (some (1 : Int)) else (some (0 : Int)))))

def ref02_Spread (p0 : Int) (p1 : Int) : Option (Int) :=
  bif p0 == 85 then ((ref02_move p1 12 31 12).bind fun y1 => some y1) else (bif p0 == 74 then ((ref02_move p1 20 20 31).bind fun y2 => (ref02_move p1 1 10 21).bind fun y3 => (ref02_move p1 11 11 20).bind fun y4 => (ref02_move p1 12 19 12).bind fun y5 => some (IntKind.wrap .i64 ((IntKind.wrap .i64 ((IntKind.wrap .i64 (y2 + y3)) + y4)) + y5))) else (bif p0 == 73 then ((ref02_move p1 0 11 20).bind fun y6 => some y6) else (bif p0 == 72 then ((ref02_move p1 0 4 20).bind fun y7 => some y7) else (bif p0 == 83 then ((ref02_move p1 0 4 7).bind fun y8 => (ref02_move p1 5 11 25).bind fun y9 => some (IntKind.wrap .i64 (y8 + y9))) else (bif p0 == 66 then ((ref02_move p1 12 12 31).bind fun y10 => (ref02_move p1 5 10 25).bind fun y11 => (ref02_move p1 1 4 8).bind fun y12 => (ref02_move p1 11 11 7).bind fun y13 => some (IntKind.wrap .i64 ((IntKind.wrap .i64 ((IntKind.wrap .i64 (y10 + y11)) + y12)) + y13))) else (some (0 : Int)))))))

def ref02_Word (p0 : GInst) : Option (Int) :=
  (ref02_Form p0.Op).bind fun y1 => (ref02_Code p0.Op).bind fun y2 => (ref02_two 7).bind fun y3 => (ref02_Third p0.Op).bind fun y4 => (ref02_two 12).bind fun y5 => (ref02_two 15).bind fun y6 => (ref02_two 20).bind fun y7 => (ref02_Seventh p0.Op).bind fun y8 => (ref02_two 25).bind fun y9 => (ref02_Spread y1 p0.Imm).bind fun y10 => some (IntKind.wrap .u32 (IntKind.wrap .i64 ((IntKind.wrap .i64 ((IntKind.wrap .i64 ((IntKind.wrap .i64 ((IntKind.wrap .i64 ((IntKind.wrap .i64 (y2 + (IntKind.wrap .i64 (p0.Rd * y3)))) + (IntKind.wrap .i64 (y4 * y5)))) + (IntKind.wrap .i64 (p0.Rs1 * y6)))) + (IntKind.wrap .i64 (p0.Rs2 * y7)))) + (IntKind.wrap .i64 (y8 * y9)))) + y10)))

def ref02_Decode (p0 : Int) : Option (GInst × Int) :=
  (loopM (fun (x1 : Int) => (bif decide (x1 ≤ 45) then ((ref02_Form x1).bind fun y1 => (ref02_Gather y1 (IntKind.wrap .i64 p0)).bind fun y2 => jn (fun kk1 => (ref02_has y1 1).bind fun y3 => bif y3 then ((ref02_move (IntKind.wrap .i64 p0) 7 11 0).bind fun y4 => kk1 (⟨x1, y4, 0, 0, y2⟩ : GInst)) else (kk1 (⟨x1, 0, 0, 0, y2⟩ : GInst))) (fun (x2 : GInst) => jn (fun kk2 => (ref02_has y1 2).bind fun y5 => bif y5 then ((ref02_move (IntKind.wrap .i64 p0) 15 19 0).bind fun y6 => kk2 ({ x2 with Rs1 := y6 })) else (kk2 x2)) (fun (x3 : GInst) => jn (fun kk3 => (ref02_has y1 3).bind fun y7 => bif y7 then ((ref02_move (IntKind.wrap .i64 p0) 20 24 0).bind fun y8 => kk3 ({ x3 with Rs2 := y8 })) else (kk3 x3)) (fun (x4 : GInst) => (ref02_Right x4).bind fun y9 => bif y9 then ((ref02_Word x4).bind fun y10 => bif y10 == p0 then (some (Lp.ret (x4, (0 : Int)))) else (some (Lp.go (IntKind.wrap .i64 (x1 + 1))))) else (some (Lp.go (IntKind.wrap .i64 (x1 + 1)))))))) else (some (Lp.brk x1)) : Option (Lp (Int) (GInst × Int)))) NN (1 : Int)).bind fun o => o.thn (fun (x1 : Int) => some ((⟨0, 0, 0, 0, 0⟩ : GInst), (3 : Int))) (fun r => some r)

def ref30_Read (p0 : List Int) : Option (ref30Code × Int) :=
  (loopM (fun (x4, x5) => (bif decide (x4 < (List.length p0 : Int)) then (jn (fun kk1 => (idx p0 x4).bind fun u1 => (ref02_Decode u1).bind fun y1 => bif y1.2 != 0 then (some (Lp.ret ((⟨[], [], []⟩ : ref30Code), (3 : Int)))) else ((room (List.length x5.L + List.length ([y1.1] : List GInst))).bind fun _ => jn (fun kk2 => bif ((y1.1.Op == 3) && (y1.1.Rd == 1)) then ((room (List.length x5.Backs + List.length ([IntKind.wrap .i64 (x4 + 1)] : List Int))).bind fun _ => kk2 (⟨x5.L ++ ([y1.1] : List GInst), x5.Backs ++ ([IntKind.wrap .i64 (x4 + 1)] : List Int), x5.Marks⟩ : ref30Code)) else (kk2 ({ x5 with L := x5.L ++ ([y1.1] : List GInst) }))) (fun (x13 : ref30Code) => bif ((y1.1.Op == 3) && (y1.1.Rd == 5)) then ((room (List.length x13.Marks + List.length ([x4] : List Int))).bind fun _ => kk1 ({ x13 with Marks := x13.Marks ++ ([x4] : List Int) })) else (kk1 x13)))) (fun (x9 : ref30Code) => some (Lp.go (IntKind.wrap .i64 (x4 + 1), x9)))) else (some (Lp.brk (x4, x5))) : Option (Lp (Int × ref30Code) (ref30Code × Int)))) NN ((0 : Int), (⟨[], [], []⟩ : ref30Code))).bind fun o => o.thn (fun (x4, x5) => some (x5, (0 : Int))) (fun r => some r)

def ref30_mark (p0 : ref30Code) : Option (Int) :=
  (idx p0.Marks 0).bind fun u1 => (idx p0.Marks 0).bind fun u2 => (idx p0.L u2).bind fun u3 => (loopM (fun (x1 : Int) => (bif ((decide (0 ≤ (IntKind.wrap .i64 (u1 + (IntKind.wrap .i64 (Int.tdiv u3.Imm 4)))))) && (decide ((IntKind.wrap .i64 ((IntKind.wrap .i64 (u1 + (IntKind.wrap .i64 (Int.tdiv u3.Imm 4)))) + x1)) < (List.length p0.L : Int)))) then ((idx p0.L (IntKind.wrap .i64 ((IntKind.wrap .i64 (u1 + (IntKind.wrap .i64 (Int.tdiv u3.Imm 4)))) + x1))).bind fun u4 => bif u4.Op == 4 then (some (Lp.ret (IntKind.wrap .i64 (x1 + 1)))) else (some (Lp.go (IntKind.wrap .i64 (x1 + 1))))) else (some (Lp.brk x1)) : Option (Lp (Int) (Int)))) NN (0 : Int)).bind fun o => o.thn (fun (x1 : Int) => some (0 : Int)) (fun r => some r)

def ref30_in (p0 : ref30Code) (p1 : List Int) : Option ((List Int)) :=
  (loopM (fun (x1, x2) => (bif decide (x2 < (List.length p1 : Int)) then (jn (fun kk1 => (idx p1 x2).bind fun u1 => bif decide (0 ≤ u1) then ((idx p1 x2).bind fun u2 => bif decide (u2 < (List.length p0.L : Int)) then ((idx p1 x2).bind fun u3 => (room (List.length x1 + List.length ([u3] : List Int))).bind fun _ => kk1 (x1 ++ ([u3] : List Int))) else (kk1 x1)) else (kk1 x1)) (fun (x3 : List Int) => some (Lp.go (x3, IntKind.wrap .i64 (x2 + 1))))) else (some (Lp.brk (x1, x2))) : Option (Lp ((List Int) × Int) (Unit)))) NN ([], (0 : Int))).bind fun o => o.thn (fun (x1, x2) => some x1) (fun _ => none)

def ref30_Leads (p0 : ref30Code) (p1 : Int) : Option ((List Int)) :=
  (idx p0.L p1).bind fun u1 => bif ((u1.Op == 3) && (u1.Rd == 5)) then (some []) else (bif u1.Op == 3 then ((ref30_in p0 ([IntKind.wrap .i64 (p1 + (IntKind.wrap .i64 (Int.tdiv u1.Imm 4)))] : List Int)).bind fun y1 => some y1) else (bif ((((u1.Op == 4) && (u1.Rd == 0)) && (u1.Rs1 == 1)) && (u1.Imm == 0)) then ((ref30_in p0 p0.Backs).bind fun y2 => some y2) else (bif u1.Op == 4 then (some []) else (bif ((decide (5 ≤ u1.Op)) && (decide (u1.Op ≤ 10))) then ((ref30_in p0 ([IntKind.wrap .i64 (p1 + (IntKind.wrap .i64 (Int.tdiv u1.Imm 4))), IntKind.wrap .i64 (p1 + 1)] : List Int)).bind fun y3 => some y3) else ((ref30_in p0 ([IntKind.wrap .i64 (p1 + 1)] : List Int)).bind fun y4 => some y4)))))

def ref30_reach (p0 : ref30Code) : Option ((List Bool)) :=
  (repl (List.length p0.L : Int) false).bind fun u1 => (loopM (fun (x1, x2) => (bif decide (x2 < (List.length p0.Marks : Int)) then ((idx p0.Marks x2).bind fun u2 => (room (List.length x1 + List.length ([IntKind.wrap .i64 (u2 + 1)] : List Int))).bind fun _ => some (Lp.go (x1 ++ ([IntKind.wrap .i64 (u2 + 1)] : List Int), IntKind.wrap .i64 (x2 + 1)))) else (some (Lp.brk (x1, x2))) : Option (Lp ((List Int) × Int) (Unit)))) NN ([], (0 : Int))).bind fun o => o.thn (fun (x1, x2) => (ref30_in p0 x1).bind fun y1 => (loopM (fun (x3, x4, x5) => (bif decide (x5 < (List.length x4 : Int)) then (jn (fun kk1 => (idx x4 x5).bind fun u3 => (idx x3 u3).bind fun u4 => bif u4 then (kk1 x3 x4) else ((idx x4 x5).bind fun u5 => (idx x3 u5).bind fun u6 => (idx x3 u5).bind fun u7 => (idx x4 x5).bind fun u8 => (ref30_Leads p0 u8).bind fun y2 => (loopM (fun (x8, x9) => (bif decide (x9 < (List.length y2 : Int)) then ((idx y2 x9).bind fun u9 => (room (List.length x8 + List.length ([u9] : List Int))).bind fun _ => some (Lp.go (x8 ++ ([u9] : List Int), IntKind.wrap .i64 (x9 + 1)))) else (some (Lp.brk (x8, x9))) : Option (Lp ((List Int) × Int) (Unit)))) NN (x4, (0 : Int))).bind fun o => o.thn (fun (x8, x9) => kk1 (List.set x3 (Int.toNat u5) true) x8) (fun _ => none))) (fun (x6 : List Bool) (x7 : List Int) => some (Lp.go (x6, x7, IntKind.wrap .i64 (x5 + 1))))) else (some (Lp.brk (x3, x4, x5))) : Option (Lp ((List Bool) × (List Int) × Int) (Unit)))) NN (u1, y1, (0 : Int))).bind fun o => o.thn (fun (x3, x4, x5) => some x3) (fun _ => none)) (fun _ => none)

def ref30_Region (p0 : List Int) : Option (Int × Int) :=
  (ref30_Read p0).bind fun y1 => bif y1.2 != 0 then (some ((0 : Int), y1.2)) else (bif (List.length y1.1.Marks : Int) == 0 then (some ((0 : Int), (4 : Int))) else ((ref30_mark y1.1).bind fun y2 => bif y2 == 0 then (some ((0 : Int), (4 : Int))) else ((ref30_reach y1.1).bind fun y3 => (repl (List.length y1.1.L : Int) 0).bind fun u1 => (loopM (fun (x1, x2, x3) => (bif x2 then (bif decide ((IntKind.wrap .i64 ((List.length y1.1.L : Int) + 1)) < x3) then (some (Lp.ret ((0 : Int), (9 : Int)))) else ((loopM (fun (x4, x5, x6) => (bif decide (0 ≤ x6) then (jn (fun kk1 => (idx y3 x6).bind fun u2 => bif !u2 then (kk1 x4 x5) else ((ref30_Leads y1.1 x6).bind fun y4 => (loopM (fun (x9, x10) => (bif decide (x10 < (List.length y4 : Int)) then ((idx y4 x10).bind fun u3 => (idx x4 u3).bind fun u4 => some (Lp.go (max x9 (IntKind.wrap .i64 (u4 + 1)), IntKind.wrap .i64 (x10 + 1)))) else (some (Lp.brk (x9, x10))) : Option (Lp (Int × Int) (Unit)))) NN ((1 : Int), (0 : Int))).bind fun o => o.thn (fun (x9, x10) => (idx x4 x6).bind fun u5 => bif decide (u5 < x9) then ((idx x4 x6).bind fun u6 => (idx x4 x6).bind fun u7 => kk1 (List.set x4 (Int.toNat x6) x9) true) else (kk1 x4 x5)) (fun _ => none))) (fun (x7 : List Int) (x8 : Bool) => some (Lp.go (x7, x8, IntKind.wrap .i64 (x6 - 1))))) else (some (Lp.brk (x4, x5, x6))) : Option (Lp ((List Int) × Bool × Int) (Unit)))) NN (x1, false, IntKind.wrap .i64 ((List.length y1.1.L : Int) - 1))).bind fun o => o.thn (fun (x4, x5, x6) => some (Lp.go (x4, x5, IntKind.wrap .i64 (x3 + 1)))) (fun _ => none))) else (some (Lp.brk (x1, x2, x3))) : Option (Lp ((List Int) × Bool × Int) (Int × Int)))) NN (u1, true, (0 : Int))).bind fun o => o.thn (fun (x1, x2, x3) => (loopM (fun (x11, x12) => (bif decide (x12 < (List.length y1.1.Marks : Int)) then (jn (fun kk2 => (idx y1.1.Marks x12).bind fun u8 => bif decide ((IntKind.wrap .i64 (u8 + 1)) < (List.length x1 : Int)) then ((idx y1.1.Marks x12).bind fun u9 => (idx x1 (IntKind.wrap .i64 (u9 + 1))).bind fun u10 => kk2 (max x11 u10)) else (kk2 x11)) (fun (x13 : Int) => some (Lp.go (x13, IntKind.wrap .i64 (x12 + 1))))) else (some (Lp.brk (x11, x12))) : Option (Lp (Int × Int) (Unit)))) NN ((0 : Int), (0 : Int))).bind fun o => o.thn (fun (x11, x12) => (ref30_mark y1.1).bind fun y5 => some (IntKind.wrap .i64 (x11 + y5), (0 : Int))) (fun _ => none)) (fun r => some r))))

def bound_Boot (p0 : GImage) : Option (Int) :=
  some (IntKind.wrap .i64 (60 + (IntKind.wrap .i64 (16 * (min (max p0.Notes 0) 64)))))

def bound_Bound (p0 : GImage) : Option (Int × Int) :=
  (bound_Region p0).bind fun y1 => bif y1.2 != 0 then (some ((0 : Int), y1.2)) else ((bound_Boot p0).bind fun y2 => some (IntKind.wrap .i64 (y1.1 + y2), (0 : Int)))

def ref30_Boot (p0 : Int) : Option (Int) :=
  bif decide (p0 < 0) then (some (60 : Int)) else (bif decide (64 < p0) then (some (1084 : Int)) else (some (IntKind.wrap .i64 (60 + (IntKind.wrap .i64 (16 * p0))))))

def law30_same (p0 : GImage) : Option (Bool) :=
  (bound_Region p0).bind fun y1 => (ref30_Region p0.Code).bind fun y2 => (bound_Bound p0).bind fun y3 => jn (fun kk1 => bif y2.2 == 0 then ((ref30_Boot p0.Notes).bind fun y4 => kk1 (IntKind.wrap .i64 (y2.1 + y4))) else (kk1 (0 : Int))) (fun (x1 : Int) => bif y1.1 == y2.1 then (bif y1.2 == y2.2 then (bif y3.1 == x1 then (bif y3.2 == y2.2 then ((bound_Boot p0).bind fun y5 => (ref30_Boot p0.Notes).bind fun y6 => some (y5 == y6)) else (some false)) else (some false)) else (some false)) else (some false))

def law30_BoundCodes (p0 : List Int) (p1 : Int) : Option (Bool) :=
  bif decide (200 < (List.length p0 : Int)) then ((law30_awake).bind fun y1 => some y1) else ((law30_awake).bind fun y2 => bif y2 then ((law30_same (⟨p0, [], 0, p1⟩ : GImage)).bind fun y3 => some y3) else (some false))
end Go.Proofs.YtlnamhpmhcgcpaaGreatDoor
