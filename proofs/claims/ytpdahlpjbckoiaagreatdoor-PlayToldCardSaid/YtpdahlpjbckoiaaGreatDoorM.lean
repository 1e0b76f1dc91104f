/- The models of Go functions: what each computes. Printed by gen2.py. -/
import Derived.Test.YtpdahlpjbckoiaaGreatDoorModel
import Derived.Laws.Entries
set_option linter.unusedVariables false
namespace Go.Proofs.YtpdahlpjbckoiaaGreatDoor

def law31_awake : Option Bool := some true
structure InstShape where
  name : List UInt8
  form : Int
  code : Int
  third : Int
  seventh : Int
  deriving DecidableEq
structure GInst where
  Op : Int
  Rd : Int
  Rs1 : Int
  Rs2 : Int
  Imm : Int
  deriving DecidableEq
structure GRecord where
  Seq : Int
  Val : Int
  deriving DecidableEq
structure GPlay where
  State : Int
  Exit : Int
  Steps : Int
  Log : List GRecord
  Fails : Int
  deriving DecidableEq
structure Outcome where
  Out : List Int
  Ins : Int
  Exit : Int
  E : Int
  deriving DecidableEq
def tbl1 : List InstShape := ([⟨([] : List UInt8), 0, 0, 0, 0⟩, ⟨([108, 117, 105] : List UInt8), 85, 55, 0, 0⟩, ⟨([97, 117, 105, 112, 99] : List UInt8), 85, 23, 0, 0⟩, ⟨([106, 97, 108] : List UInt8), 74, 111, 0, 0⟩, ⟨([106, 97, 108, 114] : List UInt8), 73, 103, 0, 0⟩, ⟨([98, 101, 113] : List UInt8), 66, 99, 0, 0⟩, ⟨([98, 110, 101] : List UInt8), 66, 99, 1, 0⟩, ⟨([98, 108, 116] : List UInt8), 66, 99, 4, 0⟩, ⟨([98, 103, 101] : List UInt8), 66, 99, 5, 0⟩, ⟨([98, 108, 116, 117] : List UInt8), 66, 99, 6, 0⟩, ⟨([98, 103, 101, 117] : List UInt8), 66, 99, 7, 0⟩, ⟨([108, 98] : List UInt8), 73, 3, 0, 0⟩, ⟨([108, 104] : List UInt8), 73, 3, 1, 0⟩, ⟨([108, 119] : List UInt8), 73, 3, 2, 0⟩, ⟨([108, 98, 117] : List UInt8), 73, 3, 4, 0⟩, ⟨([108, 104, 117] : List UInt8), 73, 3, 5, 0⟩, ⟨([115, 98] : List UInt8), 83, 35, 0, 0⟩, ⟨([115, 104] : List UInt8), 83, 35, 1, 0⟩, ⟨([115, 119] : List UInt8), 83, 35, 2, 0⟩, ⟨([97, 100, 100, 105] : List UInt8), 73, 19, 0, 0⟩, ⟨([115, 108, 116, 105] : List UInt8), 73, 19, 2, 0⟩, ⟨([115, 108, 116, 105, 117] : List UInt8), 73, 19, 3, 0⟩, ⟨([120, 111, 114, 105] : List UInt8), 73, 19, 4, 0⟩, ⟨([111, 114, 105] : List UInt8), 73, 19, 6, 0⟩, ⟨([97, 110, 100, 105] : List UInt8), 73, 19, 7, 0⟩, ⟨([115, 108, 108, 105] : List UInt8), 72, 19, 1, 0⟩, ⟨([115, 114, 108, 105] : List UInt8), 72, 19, 5, 0⟩, ⟨([115, 114, 97, 105] : List UInt8), 72, 19, 5, 32⟩, ⟨([97, 100, 100] : List UInt8), 82, 51, 0, 0⟩, ⟨([115, 117, 98] : List UInt8), 82, 51, 0, 32⟩, ⟨([115, 108, 108] : List UInt8), 82, 51, 1, 0⟩, ⟨([115, 108, 116] : List UInt8), 82, 51, 2, 0⟩, ⟨([115, 108, 116, 117] : List UInt8), 82, 51, 3, 0⟩, ⟨([120, 111, 114] : List UInt8), 82, 51, 4, 0⟩, ⟨([115, 114, 108] : List UInt8), 82, 51, 5, 0⟩, ⟨([115, 114, 97] : List UInt8), 82, 51, 5, 32⟩, ⟨([111, 114] : List UInt8), 82, 51, 6, 0⟩, ⟨([97, 110, 100] : List UInt8), 82, 51, 7, 0⟩, ⟨([109, 117, 108] : List UInt8), 82, 51, 0, 1⟩, ⟨([109, 117, 108, 104] : List UInt8), 82, 51, 1, 1⟩, ⟨([109, 117, 108, 104, 115, 117] : List UInt8), 82, 51, 2, 1⟩, ⟨([109, 117, 108, 104, 117] : List UInt8), 82, 51, 3, 1⟩, ⟨([100, 105, 118] : List UInt8), 82, 51, 4, 1⟩, ⟨([100, 105, 118, 117] : List UInt8), 82, 51, 5, 1⟩, ⟨([114, 101, 109] : List UInt8), 82, 51, 6, 1⟩, ⟨([114, 101, 109, 117] : List UInt8), 82, 51, 7, 1⟩] : List InstShape)


def inst_table  : Option ((List InstShape)) :=
  some tbl1

def inst_of (p0 : Int) : Option (InstShape) :=
  bif decide (p0 < 0) then (some (⟨([] : List UInt8), 0, 0, 0, 0⟩ : InstShape)) else (bif decide (46 ≤ p0) then (some (⟨([] : List UInt8), 0, 0, 0, 0⟩ : InstShape)) else ((inst_table).bind fun y1 => (lenOk y1 46).bind fun _ => (idx y1 p0).bind fun u1 => some u1))

def inst_bits (p0 : Int) (p1 : Int) (p2 : Int) : Option (Int) :=
  (nn p1).bind fun _ => (nn p2).bind fun _ => some (bits .and .u32 (Int.fdiv p0 (2 ^ (min (Int.toNat p1) (IntKind.bits .u32)))) (IntKind.wrap .u32 ((IntKind.wrap .u32 (1 * 2 ^ (min (Int.toNat p2) (IntKind.bits .u32)))) - 1)))

def inst_fits (p0 : InstShape) (p1 : Int) : Option (Bool) :=
  bif (bits .and .u32 p1 127) != p0.code then (some false) else (bif p0.form == 85 then (some true) else (bif p0.form == 74 then (some true) else ((inst_bits p1 12 3).bind fun y1 => bif y1 != p0.third then (some false) else (bif p0.form != 82 then (bif p0.form != 72 then (some true) else (some ((Int.fdiv p1 (2 ^ (min (Int.toNat 25) (IntKind.bits .u32)))) == p0.seventh))) else (some ((Int.fdiv p1 (2 ^ (min (Int.toNat 25) (IntKind.bits .u32)))) == p0.seventh))))))

def word_Sign (p0 : Int) (p1 : Int) : Option (Int) :=
  bif decide (p1 < 1) then (some p0) else (bif decide (31 < p1) then (some p0) else ((nn (IntKind.wrap .i64 (32 - p1))).bind fun _ => (nn (IntKind.wrap .i64 (32 - p1))).bind fun _ => some (IntKind.wrap .u32 (Int.fdiv (IntKind.wrap .i32 (IntKind.wrap .u32 (p0 * 2 ^ (min (Int.toNat (IntKind.wrap .i64 (32 - p1))) (IntKind.bits .u32))))) (2 ^ (min (Int.toNat (IntKind.wrap .i64 (32 - p1))) (IntKind.bits .i32)))))))

def inst_told (p0 : Int) (p1 : Int) : Option (Int) :=
  bif p0 == 85 then (some (IntKind.wrap .i64 (IntKind.wrap .i32 (bits .andNot .u32 p1 4095)))) else (bif p0 == 74 then ((inst_bits p1 31 1).bind fun y1 => (inst_bits p1 21 10).bind fun y2 => (inst_bits p1 20 1).bind fun y3 => (inst_bits p1 12 8).bind fun y4 => (word_Sign (bits .or .u32 (bits .or .u32 (bits .or .u32 (IntKind.wrap .u32 (y1 * 2 ^ (min (Int.toNat 20) (IntKind.bits .u32)))) (IntKind.wrap .u32 (y2 * 2 ^ (min (Int.toNat 1) (IntKind.bits .u32))))) (IntKind.wrap .u32 (y3 * 2 ^ (min (Int.toNat 11) (IntKind.bits .u32))))) (IntKind.wrap .u32 (y4 * 2 ^ (min (Int.toNat 12) (IntKind.bits .u32))))) 21).bind fun y5 => some (IntKind.wrap .i64 (IntKind.wrap .i32 y5))) else (bif p0 == 73 then (some (IntKind.wrap .i64 (Int.fdiv (IntKind.wrap .i32 p1) (2 ^ (min (Int.toNat 20) (IntKind.bits .i32)))))) else (bif p0 == 72 then ((inst_bits p1 20 5).bind fun y6 => some (IntKind.wrap .i64 y6)) else (bif p0 == 83 then ((inst_bits p1 25 7).bind fun y7 => (inst_bits p1 7 5).bind fun y8 => (word_Sign (bits .or .u32 (IntKind.wrap .u32 (y7 * 2 ^ (min (Int.toNat 5) (IntKind.bits .u32)))) y8) 12).bind fun y9 => some (IntKind.wrap .i64 (IntKind.wrap .i32 y9))) else (bif p0 == 66 then ((inst_bits p1 31 1).bind fun y10 => (inst_bits p1 25 6).bind fun y11 => (inst_bits p1 8 4).bind fun y12 => (inst_bits p1 7 1).bind fun y13 => (word_Sign (bits .or .u32 (bits .or .u32 (bits .or .u32 (IntKind.wrap .u32 (y10 * 2 ^ (min (Int.toNat 12) (IntKind.bits .u32)))) (IntKind.wrap .u32 (y11 * 2 ^ (min (Int.toNat 5) (IntKind.bits .u32))))) (IntKind.wrap .u32 (y12 * 2 ^ (min (Int.toNat 1) (IntKind.bits .u32))))) (IntKind.wrap .u32 (y13 * 2 ^ (min (Int.toNat 11) (IntKind.bits .u32))))) 13).bind fun y14 => some (IntKind.wrap .i64 (IntKind.wrap .i32 y14))) else (some (0 : Int)))))))

def inst_needs (p0 : Int) : Option (Bool × Bool × Bool × Bool) :=
  jn (fun kk1 => jn (fun kk2 => jn (fun kk3 => bif p0 == 82 then (kk3 true false) else (jn (fun kk4 => bif p0 == 73 then (kk4 (p0 == 73)) else (kk4 (p0 == 72))) (fun (x10 : Bool) => bif x10 then (kk3 false true) else (jn (fun kk5 => bif p0 == 85 then (kk5 (p0 == 85)) else (kk5 (p0 == 74))) (fun (x11 : Bool) => bif x11 then (kk2 false false true) else (jn (fun kk6 => bif p0 == 83 then (kk6 (p0 == 83)) else (kk6 (p0 == 66))) (fun (x12 : Bool) => bif x12 then (kk1 false true true true) else (kk1 false false false true)))))))) (fun (x8 : Bool) (x9 : Bool) => kk2 true x8 x9)) (fun (x5 : Bool) (x6 : Bool) (x7 : Bool) => kk1 true x5 x6 x7)) (fun (x1 : Bool) (x2 : Bool) (x3 : Bool) (x4 : Bool) => some (x1, x2, x3, x4))

def inst_Decode (p0 : Int) : Option (GInst × Int) :=
  (inst_table).bind fun y1 => (lenOk y1 46).bind fun _ => (loopM (fun (x1 : Int) => (bif decide (x1 ≤ 45) then ((idx y1 x1).bind fun u1 => (inst_fits u1 p0).bind fun y2 => bif !y2 then (some (Lp.go (IntKind.wrap .i64 (x1 + 1)))) else ((inst_told u1.form p0).bind fun y3 => (inst_needs u1.form).bind fun y4 => jn (fun kk1 => bif y4.1 then ((inst_bits p0 7 5).bind fun y5 => kk1 (⟨x1, IntKind.wrap .i64 y5, 0, 0, y3⟩ : GInst)) else (kk1 (⟨x1, 0, 0, 0, y3⟩ : GInst))) (fun (x2 : GInst) => jn (fun kk2 => bif y4.2.1 then ((inst_bits p0 15 5).bind fun y6 => kk2 ({ x2 with Rs1 := IntKind.wrap .i64 y6 })) else (kk2 x2)) (fun (x3 : GInst) => jn (fun kk3 => bif y4.2.2.1 then ((inst_bits p0 20 5).bind fun y7 => kk3 ({ x3 with Rs2 := IntKind.wrap .i64 y7 })) else (kk3 x3)) (fun (x4 : GInst) => some (Lp.ret (x4, (0 : Int)))))))) else (some (Lp.brk x1)) : Option (Lp (Int) (GInst × Int)))) NN (1 : Int)).bind fun o => o.thn (fun (x1 : Int) => some ((⟨0, 0, 0, 0, 0⟩ : GInst), (3 : Int))) (fun r => some r)

def record_First (p0 : List GRecord) : Option ((List GRecord)) :=
  (loopM (fun (x1, x2, x3) => (bif decide (x3 < (List.length p0 : Int)) then (jn (fun kk1 => (idx p0 x3).bind fun u1 => bif !((mGetO x2 u1.Seq).getD false) then ((x2).bind fun u2 => (room (List.length x1 + List.length ([u1] : List GRecord))).bind fun _ => kk1 (x1 ++ ([u1] : List GRecord)) (some (mSet u2 u1.Seq true))) else (kk1 x1 x2)) (fun (x4 : List GRecord) (x5 : Option (List (Int × Bool))) => some (Lp.go (x4, x5, IntKind.wrap .i64 (x3 + 1))))) else (some (Lp.brk (x1, x2, x3))) : Option (Lp ((List GRecord) × (Option (List (Int × Bool))) × Int) (Unit)))) NN ([], (some []), (0 : Int))).bind fun o => o.thn (fun (x1, x2, x3) => some x1) (fun _ => none)

def record_Values (p0 : List GRecord) : Option ((List Int)) :=
  (record_First p0).bind fun y1 => (loopM (fun (x1, x2) => (bif decide (x2 < (List.length y1 : Int)) then ((idx y1 x2).bind fun u1 => (room (List.length x1 + List.length ([u1.Val] : List Int))).bind fun _ => some (Lp.go (x1 ++ ([u1.Val] : List Int), IntKind.wrap .i64 (x2 + 1)))) else (some (Lp.brk (x1, x2))) : Option (Lp ((List Int) × Int) (Unit)))) NN ([], (0 : Int))).bind fun o => o.thn (fun (x1, x2) => some x1) (fun _ => none)

def record_Orderly (p0 : List GRecord) : Option (Bool) :=
  (loopM (fun (x1, x2) => (bif decide (x2 < (List.length p0 : Int)) then (jn (fun kk1 => (idx p0 x2).bind fun u1 => bif decide ((IntKind.wrap .u32 (List.length x1 : Int)) < u1.Seq) then (some (Lp.ret false)) else (bif u1.Seq == (IntKind.wrap .u32 (List.length x1 : Int)) then ((room (List.length x1 + List.length ([u1.Val] : List Int))).bind fun _ => kk1 (x1 ++ ([u1.Val] : List Int))) else ((idx x1 u1.Seq).bind fun u2 => bif u2 != u1.Val then (some (Lp.ret false)) else (kk1 x1)))) (fun (x3 : List Int) => some (Lp.go (x3, IntKind.wrap .i64 (x2 + 1))))) else (some (Lp.brk (x1, x2))) : Option (Lp ((List Int) × Int) (Bool)))) NN ([], (0 : Int))).bind fun o => o.thn (fun (x1, x2) => some true) (fun r => some r)

def play_Told (p0 : GPlay) : Option (Outcome) :=
  (record_Values p0.Log).bind fun y1 => jn (fun kk1 => (record_Orderly p0.Log).bind fun y2 => bif !y2 then (kk1 (⟨y1, 0, 0, 10⟩ : Outcome)) else (bif p0.State == 0 then (kk1 (⟨y1, 0, 0, 16⟩ : Outcome)) else (jn (fun kk2 => kk2 ((p0.State == 1) && (decide (p0.Exit < 256)))) (fun (x3 : Bool) => bif x3 then (kk1 (⟨y1, 0, p0.Exit, 0⟩ : Outcome)) else (bif ((p0.State == 1) && (p0.Exit == 256)) then (kk1 (⟨y1, 0, 0, 8⟩ : Outcome)) else (kk1 (⟨y1, 0, 0, 10⟩ : Outcome))))))) (fun (x2 : Outcome) => some x2)

def law04_Ref (p0 : List GRecord) : Option ((List GRecord)) :=
  (loopM (fun (x1, x2) => (bif decide (x2 < (List.length p0 : Int)) then ((idx p0 x2).bind fun u1 => (room (List.length x1 + List.length ([u1] : List GRecord))).bind fun _ => some (Lp.go (x1 ++ ([u1] : List GRecord), IntKind.wrap .i64 (x2 + 1)))) else (some (Lp.brk (x1, x2))) : Option (Lp ((List GRecord) × Int) (Unit)))) NN ([], (0 : Int))).bind fun o => o.thn (fun (x1, x2) => some x1) (fun _ => none)

def ref04_ahead (p0 : List GRecord) (p1 : Int) : Option (Int) :=
  (loopM (fun (x1 : Int) => (bif decide (x1 < p1) then ((idx p0 x1).bind fun u1 => (idx p0 p1).bind fun u2 => bif u1.Seq == u2.Seq then (some (Lp.ret x1)) else (some (Lp.go (IntKind.wrap .i64 (x1 + 1))))) else (some (Lp.brk x1)) : Option (Lp (Int) (Int)))) NN (0 : Int)).bind fun o => o.thn (fun (x1 : Int) => some ((-1) : Int)) (fun r => some r)

def ref04_First (p0 : List GRecord) : Option ((List GRecord)) :=
  (loopM (fun (x1, x2) => (bif decide (x2 < (List.length p0 : Int)) then (jn (fun kk1 => (ref04_ahead p0 x2).bind fun y1 => bif decide (y1 < 0) then ((idx p0 x2).bind fun u1 => (room (List.length x1 + List.length ([u1] : List GRecord))).bind fun _ => kk1 (x1 ++ ([u1] : List GRecord))) else (kk1 x1)) (fun (x3 : List GRecord) => some (Lp.go (x3, IntKind.wrap .i64 (x2 + 1))))) else (some (Lp.brk (x1, x2))) : Option (Lp ((List GRecord) × Int) (Unit)))) NN ([], (0 : Int))).bind fun o => o.thn (fun (x1, x2) => some x1) (fun _ => none)

def ref04_Orderly (p0 : List GRecord) : Option (Bool) :=
  (loopM (fun (x1 : Int) => (bif decide (x1 < (List.length p0 : Int)) then ((loopM (fun (x2, x3) => (bif decide (x3 < x1) then (jn (fun kk1 => (idx p0 x3).bind fun u1 => bif decide (x2 < (IntKind.wrap .i64 u1.Seq)) then ((idx p0 x3).bind fun u2 => kk1 (IntKind.wrap .i64 u2.Seq)) else (kk1 x2)) (fun (x4 : Int) => some (Lp.go (x4, IntKind.wrap .i64 (x3 + 1))))) else (some (Lp.brk (x2, x3))) : Option (Lp (Int × Int) (Unit)))) NN (((-1) : Int), (0 : Int))).bind fun o => o.thn (fun (x2, x3) => (idx p0 x1).bind fun u3 => bif decide ((IntKind.wrap .i64 (x2 + 1)) < (IntKind.wrap .i64 u3.Seq)) then (some (Lp.ret false)) else ((ref04_ahead p0 x1).bind fun y1 => bif decide (0 ≤ y1) then ((idx p0 y1).bind fun u4 => (idx p0 x1).bind fun u5 => bif u4.Val != u5.Val then (some (Lp.ret false)) else (some (Lp.go (IntKind.wrap .i64 (x1 + 1))))) else (some (Lp.go (IntKind.wrap .i64 (x1 + 1)))))) (fun _ => none)) else (some (Lp.brk x1)) : Option (Lp (Int) (Bool)))) NN (0 : Int)).bind fun o => o.thn (fun (x1 : Int) => some true) (fun r => some r)

def law12_Begins (p0 : List Int) (p1 : List Int) : Option (Bool) :=
  bif decide ((List.length p1 : Int) < (List.length p0 : Int)) then (some false) else ((loopM (fun (x1 : Int) => (bif decide (x1 < (List.length p0 : Int)) then ((idx p0 x1).bind fun u1 => (idx p1 x1).bind fun u2 => bif u1 != u2 then (some (Lp.ret false)) else (some (Lp.go (IntKind.wrap .i64 (x1 + 1))))) else (some (Lp.brk x1)) : Option (Lp (Int) (Bool)))) NN (0 : Int)).bind fun o => o.thn (fun (x1 : Int) => some true) (fun r => some r))

def law31_begins (p0 : List Int) (p1 : List Int) : Option (Bool) :=
  (law12_Begins p0 p1).bind fun y1 => some y1

def play_begins (p0 : List Int) (p1 : List Int) : Option (Bool) :=
  bif decide ((List.length p1 : Int) < (List.length p0 : Int)) then (some false) else ((loopM (fun (x1 : Int) => (bif decide (x1 < (List.length p0 : Int)) then ((idx p0 x1).bind fun u1 => (idx p1 x1).bind fun u2 => bif u1 != u2 then (some (Lp.ret false)) else (some (Lp.go (IntKind.wrap .i64 (x1 + 1))))) else (some (Lp.brk x1)) : Option (Lp (Int) (Bool)))) NN (0 : Int)).bind fun o => o.thn (fun (x1 : Int) => some true) (fun r => some r))

def play_Agrees (p0 : GPlay) (p1 : Outcome) : Option (Bool) :=
  (play_Told p0).bind fun y1 => jn (fun kk1 => kk1 ((y1.E == 8) || (y1.E == 16))) (fun (x1 : Bool) => jn (fun kk2 => kk2 ((p1.E != 0) && (p1.E != 16))) (fun (x2 : Bool) => bif x2 then (some true) else (bif y1.E == 10 then (some false) else (bif p1.E == 16 then ((play_begins p1.Out y1.Out).bind fun y2 => bif y2 then (some true) else (bif x1 then ((play_begins y1.Out p1.Out).bind fun y3 => some y3) else (some false))) else (bif x1 then ((play_begins y1.Out p1.Out).bind fun y4 => some y4) else ((play_begins y1.Out p1.Out).bind fun y5 => some ((y5 && ((List.length y1.Out : Int) == (List.length p1.Out : Int))) && (y1.Exit == p1.Exit))))))))

def law31_PlayTold (p0 : GPlay) (p1 : Outcome) : Option (Bool) :=
  bif ((decide (300 < (List.length p0.Log : Int))) || (decide (300 < (List.length p1.Out : Int)))) then ((law31_awake).bind fun y1 => some y1) else ((play_Told p0).bind fun y2 => (law04_Ref p0.Log).bind fun y3 => (ref04_First y3).bind fun y4 => jn (fun kk1 => bif p0.State == 0 then (kk1 (16 : Int)) else (kk1 (10 : Int))) (fun (x1 : Int) => jn (fun kk2 => bif ((p0.State == 1) && (p0.Exit == 256)) then (kk2 (8 : Int)) else (kk2 x1)) (fun (x2 : Int) => jn (fun kk3 => bif ((p0.State == 1) && (decide (p0.Exit < 256))) then (kk3 (0 : Int)) else (kk3 x2)) (fun (x3 : Int) => jn (fun kk4 => (ref04_Orderly y3).bind fun y5 => bif !y5 then (kk4 (10 : Int)) else (kk4 x3)) (fun (x4 : Int) => bif (((((y2.E != x4) || ((List.length y2.Out : Int) != (List.length y4 : Int))) || (y2.Ins != 0)) || ((y2.E == 0) && (y2.Exit != p0.Exit))) || ((y2.E != 0) && (y2.Exit != 0))) then (some false) else ((loopM (fun (x5 : Int) => (bif decide (x5 < (List.length y4 : Int)) then ((idx y2.Out x5).bind fun u1 => (idx y4 x5).bind fun u2 => bif u1 != u2.Val then (some (Lp.ret false)) else (some (Lp.go (IntKind.wrap .i64 (x5 + 1))))) else (some (Lp.brk x5)) : Option (Lp (Int) (Bool)))) NN (0 : Int)).bind fun o => o.thn (fun (x5 : Int) => jn (fun kk5 => kk5 ((x4 == 8) || (x4 == 16))) (fun (x6 : Bool) => jn (fun kk6 => bif p1.E == 0 then ((law31_begins y2.Out p1.Out).bind fun y6 => kk6 (y6 && (x6 || (((x4 == 0) && ((List.length y2.Out : Int) == (List.length p1.Out : Int))) && (y2.Exit == p1.Exit))))) else (kk6 true)) (fun (x7 : Bool) => jn (fun kk7 => bif p1.E == 16 then (bif x4 != 10 then ((law31_begins p1.Out y2.Out).bind fun y7 => bif y7 then (kk7 true) else (bif x6 then ((law31_begins y2.Out p1.Out).bind fun y8 => kk7 y8) else (kk7 false))) else (kk7 false)) else (kk7 x7)) (fun (x8 : Bool) => (law31_awake).bind fun y9 => bif y9 then ((play_Agrees p0 p1).bind fun y10 => some (y10 == x8)) else (some false))))) (fun r => some r)))))))
end Go.Proofs.YtpdahlpjbckoiaaGreatDoor
