/- The models of Go functions: what each computes. Printed by gen2.py. -/
import Derived.Test.YtgacfocekkckfaaGreatDoorModel
import Derived.Laws.Entries
set_option linter.unusedVariables false
namespace Go.Proofs.YtgacfocekkckfaaGreatDoor

def law31_awake : Option Bool := some true
structure InstShape where
  name : List UInt8
  form : Int
  code : Int
  third : Int
  seventh : Int
  deriving DecidableEq
structure GInst where
  Op : Int
  Rd : Int
  Rs1 : Int
  Rs2 : Int
  Imm : Int
  deriving DecidableEq
structure GImage where
  Code : List Int
  Data : List Int
  Limit : Int
  Notes : Int
  deriving DecidableEq
structure law31Fail where
  L : List Int
  First : Int
  Gap : Int
  N : Int
  deriving DecidableEq
structure GRecord where
  Seq : Int
  Val : Int
  deriving DecidableEq
structure GPlay where
  State : Int
  Exit : Int
  Steps : Int
  Log : List GRecord
  Fails : Int
  deriving DecidableEq
structure DeviceMet where
  seen : Bool
  is : Bool
  inst : GInst
  deriving DecidableEq
structure DeviceVolatile where
  regs : List Int
  pc : Int
  seq : Int
  index : Int
  deriving DecidableEq
structure DeviceMachine where
  volatile : DeviceVolatile
  code : List Int
  met : List DeviceMet
  data : List Int
  inputs : List Int
  log : List GRecord
  steps : Int
  state : Int
  exit : Int
  deriving DecidableEq
structure ref03Machine where
  Code : List Int
  Data : List Int
  Inputs : List Int
  Regs : List Int
  Pc : Int
  Seq : Int
  Index : Int
  Log : List GRecord
  Steps : Int
  State : Int
  Exit : Int
  deriving DecidableEq
def tbl1 : List InstShape := ([⟨([] : List UInt8), 0, 0, 0, 0⟩, ⟨([108, 117, 105] : List UInt8), 85, 55, 0, 0⟩, ⟨([97, 117, 105, 112, 99] : List UInt8), 85, 23, 0, 0⟩, ⟨([106, 97, 108] : List UInt8), 74, 111, 0, 0⟩, ⟨([106, 97, 108, 114] : List UInt8), 73, 103, 0, 0⟩, ⟨([98, 101, 113] : List UInt8), 66, 99, 0, 0⟩, ⟨([98, 110, 101] : List UInt8), 66, 99, 1, 0⟩, ⟨([98, 108, 116] : List UInt8), 66, 99, 4, 0⟩, ⟨([98, 103, 101] : List UInt8), 66, 99, 5, 0⟩, ⟨([98, 108, 116, 117] : List UInt8), 66, 99, 6, 0⟩, ⟨([98, 103, 101, 117] : List UInt8), 66, 99, 7, 0⟩, ⟨([108, 98] : List UInt8), 73, 3, 0, 0⟩, ⟨([108, 104] : List UInt8), 73, 3, 1, 0⟩, ⟨([108, 119] : List UInt8), 73, 3, 2, 0⟩, ⟨([108, 98, 117] : List UInt8), 73, 3, 4, 0⟩, ⟨([108, 104, 117] : List UInt8), 73, 3, 5, 0⟩, ⟨([115, 98] : List UInt8), 83, 35, 0, 0⟩, ⟨([115, 104] : List UInt8), 83, 35, 1, 0⟩, ⟨([115, 119] : List UInt8), 83, 35, 2, 0⟩, ⟨([97, 100, 100, 105] : List UInt8), 73, 19, 0, 0⟩, ⟨([115, 108, 116, 105] : List UInt8), 73, 19, 2, 0⟩, ⟨([115, 108, 116, 105, 117] : List UInt8), 73, 19, 3, 0⟩, ⟨([120, 111, 114, 105] : List UInt8), 73, 19, 4, 0⟩, ⟨([111, 114, 105] : List UInt8), 73, 19, 6, 0⟩, ⟨([97, 110, 100, 105] : List UInt8), 73, 19, 7, 0⟩, ⟨([115, 108, 108, 105] : List UInt8), 72, 19, 1, 0⟩, ⟨([115, 114, 108, 105] : List UInt8), 72, 19, 5, 0⟩, ⟨([115, 114, 97, 105] : List UInt8), 72, 19, 5, 32⟩, ⟨([97, 100, 100] : List UInt8), 82, 51, 0, 0⟩, ⟨([115, 117, 98] : List UInt8), 82, 51, 0, 32⟩, ⟨([115, 108, 108] : List UInt8), 82, 51, 1, 0⟩, ⟨([115, 108, 116] : List UInt8), 82, 51, 2, 0⟩, ⟨([115, 108, 116, 117] : List UInt8), 82, 51, 3, 0⟩, ⟨([120, 111, 114] : List UInt8), 82, 51, 4, 0⟩, ⟨([115, 114, 108] : List UInt8), 82, 51, 5, 0⟩, ⟨([115, 114, 97] : List UInt8), 82, 51, 5, 32⟩, ⟨([111, 114] : List UInt8), 82, 51, 6, 0⟩, ⟨([97, 110, 100] : List UInt8), 82, 51, 7, 0⟩, ⟨([109, 117, 108] : List UInt8), 82, 51, 0, 1⟩, ⟨([109, 117, 108, 104] : List UInt8), 82, 51, 1, 1⟩, ⟨([109, 117, 108, 104, 115, 117] : List UInt8), 82, 51, 2, 1⟩, ⟨([109, 117, 108, 104, 117] : List UInt8), 82, 51, 3, 1⟩, ⟨([100, 105, 118] : List UInt8), 82, 51, 4, 1⟩, ⟨([100, 105, 118, 117] : List UInt8), 82, 51, 5, 1⟩, ⟨([114, 101, 109] : List UInt8), 82, 51, 6, 1⟩, ⟨([114, 101, 109, 117] : List UInt8), 82, 51, 7, 1⟩] : List InstShape)


def inst_table  : Option ((List InstShape)) :=
  some tbl1

def inst_of (p0 : Int) : Option (InstShape) :=
  bif decide (p0 < 0) then (some (⟨([] : List UInt8), 0, 0, 0, 0⟩ : InstShape)) else (bif decide (46 ≤ p0) then (some (⟨([] : List UInt8), 0, 0, 0, 0⟩ : InstShape)) else ((inst_table).bind fun y1 => (lenOk y1 46).bind fun _ => (idx y1 p0).bind fun u1 => some u1))

def inst_bits (p0 : Int) (p1 : Int) (p2 : Int) : Option (Int) :=
  (nn p1).bind fun _ => (nn p2).bind fun _ => some (bits .and .u32 (Int.fdiv p0 (2 ^ (min (Int.toNat p1) (IntKind.bits .u32)))) (IntKind.wrap .u32 ((IntKind.wrap .u32 (1 * 2 ^ (min (Int.toNat p2) (IntKind.bits .u32)))) - 1)))

def inst_fits (p0 : InstShape) (p1 : Int) : Option (Bool) :=
  bif (bits .and .u32 p1 127) != p0.code then (some false) else (bif p0.form == 85 then (some true) else (bif p0.form == 74 then (some true) else ((inst_bits p1 12 3).bind fun y1 => bif y1 != p0.third then (some false) else (bif p0.form != 82 then (bif p0.form != 72 then (some true) else (some ((Int.fdiv p1 (2 ^ (min (Int.toNat 25) (IntKind.bits .u32)))) == p0.seventh))) else (some ((Int.fdiv p1 (2 ^ (min (Int.toNat 25) (IntKind.bits .u32)))) == p0.seventh))))))

def word_Sign (p0 : Int) (p1 : Int) : Option (Int) :=
  bif decide (p1 < 1) then (some p0) else (bif decide (31 < p1) then (some p0) else ((nn (IntKind.wrap .i64 (32 - p1))).bind fun _ => (nn (IntKind.wrap .i64 (32 - p1))).bind fun _ => some (IntKind.wrap .u32 (Int.fdiv (IntKind.wrap .i32 (IntKind.wrap .u32 (p0 * 2 ^ (min (Int.toNat (IntKind.wrap .i64 (32 - p1))) (IntKind.bits .u32))))) (2 ^ (min (Int.toNat (IntKind.wrap .i64 (32 - p1))) (IntKind.bits .i32)))))))

def inst_told (p0 : Int) (p1 : Int) : Option (Int) :=
  bif p0 == 85 then (some (IntKind.wrap .i64 (IntKind.wrap .i32 (bits .andNot .u32 p1 4095)))) else (bif p0 == 74 then ((inst_bits p1 31 1).bind fun y1 => (inst_bits p1 21 10).bind fun y2 => (inst_bits p1 20 1).bind fun y3 => (inst_bits p1 12 8).bind fun y4 => (word_Sign (bits .or .u32 (bits .or .u32 (bits .or .u32 (IntKind.wrap .u32 (y1 * 2 ^ (min (Int.toNat 20) (IntKind.bits .u32)))) (IntKind.wrap .u32 (y2 * 2 ^ (min (Int.toNat 1) (IntKind.bits .u32))))) (IntKind.wrap .u32 (y3 * 2 ^ (min (Int.toNat 11) (IntKind.bits .u32))))) (IntKind.wrap .u32 (y4 * 2 ^ (min (Int.toNat 12) (IntKind.bits .u32))))) 21).bind fun y5 => some (IntKind.wrap .i64 (IntKind.wrap .i32 y5))) else (bif p0 == 73 then (some (IntKind.wrap .i64 (Int.fdiv (IntKind.wrap .i32 p1) (2 ^ (min (Int.toNat 20) (IntKind.bits .i32)))))) else (bif p0 == 72 then ((inst_bits p1 20 5).bind fun y6 => some (IntKind.wrap .i64 y6)) else (bif p0 == 83 then ((inst_bits p1 25 7).bind fun y7 => (inst_bits p1 7 5).bind fun y8 => (word_Sign (bits .or .u32 (IntKind.wrap .u32 (y7 * 2 ^ (min (Int.toNat 5) (IntKind.bits .u32)))) y8) 12).bind fun y9 => some (IntKind.wrap .i64 (IntKind.wrap .i32 y9))) else (bif p0 == 66 then ((inst_bits p1 31 1).bind fun y10 => (inst_bits p1 25 6).bind fun y11 => (inst_bits p1 8 4).bind fun y12 => (inst_bits p1 7 1).bind fun y13 => (word_Sign (bits .or .u32 (bits .or .u32 (bits .or .u32 (IntKind.wrap .u32 (y10 * 2 ^ (min (Int.toNat 12) (IntKind.bits .u32)))) (IntKind.wrap .u32 (y11 * 2 ^ (min (Int.toNat 5) (IntKind.bits .u32))))) (IntKind.wrap .u32 (y12 * 2 ^ (min (Int.toNat 1) (IntKind.bits .u32))))) (IntKind.wrap .u32 (y13 * 2 ^ (min (Int.toNat 11) (IntKind.bits .u32))))) 13).bind fun y14 => some (IntKind.wrap .i64 (IntKind.wrap .i32 y14))) else (some (0 : Int)))))))

def inst_needs (p0 : Int) : Option (Bool × Bool × Bool × Bool) :=
  jn (fun kk1 => jn (fun kk2 => jn (fun kk3 => bif p0 == 82 then (kk3 true false) else (jn (fun kk4 => bif p0 == 73 then (kk4 (p0 == 73)) else (kk4 (p0 == 72))) (fun (x10 : Bool) => bif x10 then (kk3 false true) else (jn (fun kk5 => bif p0 == 85 then (kk5 (p0 == 85)) else (kk5 (p0 == 74))) (fun (x11 : Bool) => bif x11 then (kk2 false false true) else (jn (fun kk6 => bif p0 == 83 then (kk6 (p0 == 83)) else (kk6 (p0 == 66))) (fun (x12 : Bool) => bif x12 then (kk1 false true true true) else (kk1 false false false true)))))))) (fun (x8 : Bool) (x9 : Bool) => kk2 true x8 x9)) (fun (x5 : Bool) (x6 : Bool) (x7 : Bool) => kk1 true x5 x6 x7)) (fun (x1 : Bool) (x2 : Bool) (x3 : Bool) (x4 : Bool) => some (x1, x2, x3, x4))

def inst_Decode (p0 : Int) : Option (GInst × Int) :=
  (inst_table).bind fun y1 => (lenOk y1 46).bind fun _ => (loopM (fun (x1 : Int) => (bif decide (x1 ≤ 45) then ((idx y1 x1).bind fun u1 => (inst_fits u1 p0).bind fun y2 => bif !y2 then (some (Lp.go (IntKind.wrap .i64 (x1 + 1)))) else ((inst_told u1.form p0).bind fun y3 => (inst_needs u1.form).bind fun y4 => jn (fun kk1 => bif y4.1 then ((inst_bits p0 7 5).bind fun y5 => kk1 (⟨x1, IntKind.wrap .i64 y5, 0, 0, y3⟩ : GInst)) else (kk1 (⟨x1, 0, 0, 0, y3⟩ : GInst))) (fun (x2 : GInst) => jn (fun kk2 => bif y4.2.1 then ((inst_bits p0 15 5).bind fun y6 => kk2 ({ x2 with Rs1 := IntKind.wrap .i64 y6 })) else (kk2 x2)) (fun (x3 : GInst) => jn (fun kk3 => bif y4.2.2.1 then ((inst_bits p0 20 5).bind fun y7 => kk3 ({ x3 with Rs2 := IntKind.wrap .i64 y7 })) else (kk3 x3)) (fun (x4 : GInst) => some (Lp.ret (x4, (0 : Int)))))))) else (some (Lp.brk x1)) : Option (Lp (Int) (GInst × Int)))) NN (1 : Int)).bind fun o => o.thn (fun (x1 : Int) => some ((⟨0, 0, 0, 0, 0⟩ : GInst), (3 : Int))) (fun r => some r)

def play_each (p0 : Int) (p1 : Int) : Option (Int × Int) :=
  some (p0, p1)

def slices_Clone (p0 : List Int) : Option ((List Int)) :=
  (room (List.length ([] : List Int) + List.length p0)).bind fun _ => some (([] : List Int) ++ p0)

def slices_Clone_2 (p0 : List Int) : Option ((List Int)) :=
  (room (List.length ([] : List Int) + List.length p0)).bind fun _ => some (([] : List Int) ++ p0)

def device_New (p0 : List Int) (p1 : List Int) (p2 : List Int) : Option (Except (DeviceMachine × Int) (Int)) :=
  bif (((((decide ((List.length p0 : Int) < 1)) || (decide (32768 < (List.length p0 : Int)))) || (decide ((List.length p1 : Int) < 4))) || (decide (65536 < (List.length p1 : Int)))) || ((Int.tmod (List.length p1 : Int) 4) != 0)) then (some (Except.ok (1 : Int))) else ((slices_Clone p0).bind fun y1 => (repl (List.length p0 : Int) (⟨false, false, (⟨0, 0, 0, 0, 0⟩ : GInst)⟩ : DeviceMet)).bind fun u1 => (slices_Clone_2 p1).bind fun y2 => (slices_Clone p2).bind fun y3 => some (Except.error ((⟨(⟨List.replicate 32 0, 0, 0, 0⟩ : DeviceVolatile), y1, u1, y2, y3, [], 0, 0, 0⟩ : DeviceMachine), (0 : Int))))

def image_Load (p0 : GImage) (p1 : List Int) : Option (Except (DeviceMachine × Int) (Int)) :=
  (device_New p0.Code p0.Data p1).bind fun y1 => exC y1 (fun y1 => some (Except.ok y1)) (fun e1 => some (Except.error (e1.1, e1.2)))

def play_each_1 {σ ε : Type} (p0 : σ → Int → Option (Lp σ ε)) (p1 : σ) (p2 : Int) (p3 : Int) : Option ((Lp σ ε)) :=
  (loopM (S := σ × Int) (fun (x1, x2) => (bif decide (x2 < 20000000) then ((p0 x1 x2).bind fun z1 => Lp.gone z1 (fun sg1 => bif decide (20000000 < p3) then (some (Lp.ret (Lp.go sg1))) else (some (Lp.go (sg1, IntKind.wrap .i64 (x2 + p3))))) (some (Lp.ret z1))) else (some (Lp.brk (x1, x2))) : Option (Lp (σ × Int) ((Lp σ ε))))) NN (p1, p2)).bind fun o => o.thn (fun (x1, x2) => some (Lp.go x1)) (fun r => some r)

def device_Machine_Steps (p0 : DeviceMachine) : Option (Int) :=
  (lenOk p0.volatile.regs 32).bind fun _ => some p0.steps

def device_Machine_Fail (p0 : DeviceMachine) : Option (DeviceMachine) :=
  (lenOk p0.volatile.regs 32).bind fun _ => bif p0.state == 0 then (some ({ p0 with volatile := (⟨List.replicate 32 0, 0, 0, 0⟩ : DeviceVolatile) })) else (some p0)

def device_Machine_State (p0 : DeviceMachine) : Option (Int) :=
  (lenOk p0.volatile.regs 32).bind fun _ => some p0.state

def device_Machine_fetch (p0 : DeviceMachine) : Option (GInst × Bool × DeviceMachine) :=
  (lenOk p0.volatile.regs 32).bind fun _ => bif (Int.tmod p0.volatile.pc 4) != 0 then (some ((⟨0, 0, 0, 0, 0⟩ : GInst), false, p0)) else (bif decide ((IntKind.wrap .u32 (List.length p0.code : Int)) ≤ (IntKind.wrap .u32 (Int.tdiv p0.volatile.pc 4))) then (some ((⟨0, 0, 0, 0, 0⟩ : GInst), false, p0)) else ((idx p0.met (IntKind.wrap .u32 (Int.tdiv p0.volatile.pc 4))).bind fun u1 => jn (fun kk1 => bif !u1.seen then ((idx p0.code (IntKind.wrap .u32 (Int.tdiv p0.volatile.pc 4))).bind fun u2 => (inst_Decode u2).bind fun y1 => (idx p0.met (IntKind.wrap .u32 (Int.tdiv p0.volatile.pc 4))).bind fun u3 => kk1 (List.set p0.met (Int.toNat (IntKind.wrap .u32 (Int.tdiv p0.volatile.pc 4))) (⟨true, y1.2 == 0, y1.1⟩ : DeviceMet))) else (kk1 p0.met)) (fun (x1 : List DeviceMet) => (idx x1 (IntKind.wrap .u32 (Int.tdiv p0.volatile.pc 4))).bind fun u4 => (idx x1 (IntKind.wrap .u32 (Int.tdiv p0.volatile.pc 4))).bind fun u5 => some (u4.inst, u5.is, { p0 with met := x1 }))))

def word_bit (p0 : Bool) : Option (Int) :=
  bif p0 then (some (1 : Int)) else (some (0 : Int))

def word_Less (p0 : Int) (p1 : Int) : Option (Int) :=
  (word_bit (decide ((IntKind.wrap .i32 p0) < (IntKind.wrap .i32 p1)))).bind fun y1 => some y1

def word_LessU (p0 : Int) (p1 : Int) : Option (Int) :=
  (word_bit (decide (p0 < p1))).bind fun y1 => some y1

def device_branches (p0 : Int) (p1 : Int) (p2 : Int) : Option (Bool) :=
  bif p0 == 5 then (some (p1 == p2)) else (bif p0 == 6 then (some (p1 != p2)) else (bif p0 == 7 then ((word_Less p1 p2).bind fun y1 => some (y1 == 1)) else (bif p0 == 8 then ((word_Less p1 p2).bind fun y2 => some (y2 == 0)) else (bif p0 == 9 then ((word_LessU p1 p2).bind fun y3 => some (y3 == 1)) else ((word_LessU p1 p2).bind fun y4 => some (y4 == 0))))))

def device_size (p0 : Int) : Option (Int) :=
  jn (fun kk1 => bif p0 == 11 then (kk1 (p0 == 11)) else (bif p0 == 14 then (kk1 (p0 == 14)) else (kk1 (p0 == 16)))) (fun (x1 : Bool) => bif x1 then (some (1 : Int)) else (jn (fun kk2 => bif p0 == 12 then (kk2 (p0 == 12)) else (bif p0 == 15 then (kk2 (p0 == 15)) else (kk2 (p0 == 17)))) (fun (x2 : Bool) => bif x2 then (some (2 : Int)) else (some (4 : Int)))))

def device_Machine_place (p0 : DeviceMachine) (p1 : Int) (p2 : Int) : Option (Int × Bool) :=
  bif decide (p1 < 268435456) then (some ((0 : Int), false)) else ((nz (IntKind.wrap .u32 p2)).bind fun _ => bif (Int.tmod p1 (IntKind.wrap .u32 p2)) != 0 then (some ((0 : Int), false)) else ((lenOk p0.volatile.regs 32).bind fun _ => bif decide ((IntKind.wrap .u32 (IntKind.wrap .i64 ((List.length p0.data : Int) - p2))) < (IntKind.wrap .u32 (p1 - 268435456))) then (some ((0 : Int), false)) else (some (IntKind.wrap .i64 (IntKind.wrap .u32 (p1 - 268435456)), true))))

def device_Machine_load (p0 : DeviceMachine) (p1 : Int) (p2 : Int) : Option (Int × Bool) :=
  jn (fun kk1 => kk1 ((p1 == 13) && (p2 == 536870924))) (fun (x1 : Bool) => bif x1 then ((lenOk p0.volatile.regs 32).bind fun _ => bif decide (p0.volatile.index < (IntKind.wrap .u32 (List.length p0.inputs : Int))) then ((idx p0.inputs p0.volatile.index).bind fun u1 => some (u1, true)) else (some ((0 : Int), true))) else ((device_size p1).bind fun y1 => (device_Machine_place p0 p2 y1).bind fun y2 => bif !y2.2 then (some ((0 : Int), false)) else ((loopM (fun (x2, x3) => (bif decide (x3 < y1) then ((lenOk p0.volatile.regs 32).bind fun _ => (idx p0.data (IntKind.wrap .i64 (y2.1 + x3))).bind fun u2 => (nn (IntKind.wrap .i64 (8 * x3))).bind fun _ => some (Lp.go (bits .or .u32 x2 (IntKind.wrap .u32 ((IntKind.wrap .u32 u2) * 2 ^ (min (Int.toNat (IntKind.wrap .i64 (8 * x3))) (IntKind.bits .u32)))), IntKind.wrap .i64 (x3 + 1)))) else (some (Lp.brk (x2, x3))) : Option (Lp (Int × Int) (Unit)))) NN ((0 : Int), (0 : Int))).bind fun o => o.thn (fun (x2, x3) => jn (fun kk2 => bif ((p1 == 11) || (p1 == 12)) then ((word_Sign x2 (IntKind.wrap .i64 (8 * y1))).bind fun y3 => kk2 y3) else (kk2 x2)) (fun (x4 : Int) => some (x4, true))) (fun _ => none))))

def device_Machine_port (p0 : DeviceMachine) (p1 : Int) (p2 : Int) : Option (Bool × DeviceMachine) :=
  jn (fun kk1 => bif p1 == 536870912 then ((lenOk p0.volatile.regs 32).bind fun _ => kk1 ({ p0 with volatile := { p0.volatile with seq := p2 } })) else (bif p1 == 536870916 then ((lenOk p0.volatile.regs 32).bind fun _ => (room (List.length p0.log + List.length ([(⟨p0.volatile.seq, p2⟩ : GRecord)] : List GRecord))).bind fun _ => kk1 ({ p0 with log := p0.log ++ ([(⟨p0.volatile.seq, p2⟩ : GRecord)] : List GRecord) })) else (bif p1 == 536870920 then ((lenOk p0.volatile.regs 32).bind fun _ => kk1 ({ p0 with volatile := { p0.volatile with index := p2 } })) else (bif p1 == 536870928 then ((lenOk p0.volatile.regs 32).bind fun _ => kk1 ({ p0 with state := 1, exit := p2 })) else (some (false, p0)))))) (fun (x4 : DeviceMachine) => some (true, x4))

def device_Machine_store (p0 : DeviceMachine) (p1 : Int) (p2 : Int) (p3 : Int) : Option (Bool × DeviceMachine) :=
  bif p1 == 18 then ((device_Machine_port p0 p2 p3).bind fun y1 => bif y1.1 then (some (true, y1.2)) else ((device_size p1).bind fun y2 => (device_Machine_place y1.2 p2 y2).bind fun y3 => bif !y3.2 then (some (false, y1.2)) else ((loopM (fun (x1, x2) => (bif decide (x2 < y2) then ((lenOk y1.2.volatile.regs 32).bind fun _ => (nn (IntKind.wrap .i64 (8 * x2))).bind fun _ => (idx x1 (IntKind.wrap .i64 (y3.1 + x2))).bind fun u1 => (idx x1 (IntKind.wrap .i64 (y3.1 + x2))).bind fun u2 => some (Lp.go (List.set x1 (Int.toNat (IntKind.wrap .i64 (y3.1 + x2))) (IntKind.wrap .u8 (Int.fdiv p3 (2 ^ (min (Int.toNat (IntKind.wrap .i64 (8 * x2))) (IntKind.bits .u32))))), IntKind.wrap .i64 (x2 + 1)))) else (some (Lp.brk (x1, x2))) : Option (Lp ((List Int) × Int) (Unit)))) NN (y1.2.data, (0 : Int))).bind fun o => o.thn (fun (x1, x2) => some (true, { y1.2 with data := x1 })) (fun _ => none)))) else ((device_size p1).bind fun y4 => (device_Machine_place p0 p2 y4).bind fun y5 => bif !y5.2 then (some (false, p0)) else ((loopM (fun (x3, x4) => (bif decide (x4 < y4) then ((lenOk p0.volatile.regs 32).bind fun _ => (nn (IntKind.wrap .i64 (8 * x4))).bind fun _ => (idx x3 (IntKind.wrap .i64 (y5.1 + x4))).bind fun u3 => (idx x3 (IntKind.wrap .i64 (y5.1 + x4))).bind fun u4 => some (Lp.go (List.set x3 (Int.toNat (IntKind.wrap .i64 (y5.1 + x4))) (IntKind.wrap .u8 (Int.fdiv p3 (2 ^ (min (Int.toNat (IntKind.wrap .i64 (8 * x4))) (IntKind.bits .u32))))), IntKind.wrap .i64 (x4 + 1)))) else (some (Lp.brk (x3, x4))) : Option (Lp ((List Int) × Int) (Unit)))) NN (p0.data, (0 : Int))).bind fun o => o.thn (fun (x3, x4) => some (true, { p0 with data := x3 })) (fun _ => none)))

def word_Sub (p0 : Int) (p1 : Int) : Option (Int) :=
  some (IntKind.wrap .u32 (p0 - p1))

def word_Mul (p0 : Int) (p1 : Int) : Option (Int) :=
  some (IntKind.wrap .u32 (p0 * p1))

def word_High_1 (p0 : Int) (p1 : Int) : Option (Int) :=
  some (IntKind.wrap .i64 (p0 * p1))

def word_signed (p0 : Int) (p1 : Int) : Option (Int) :=
  (word_High_1 (IntKind.wrap .i64 (IntKind.wrap .i32 p0)) (IntKind.wrap .i64 (IntKind.wrap .i32 p1))).bind fun y1 => some y1

def word_High (p0 : Int) (p1 : Int) : Option (Int) :=
  (word_signed p0 p1).bind fun y1 => some (IntKind.wrap .u32 (Int.fdiv (IntKind.wrap .u64 y1) (2 ^ (min (Int.toNat 32) (IntKind.bits .u64)))))

def word_HighSU (p0 : Int) (p1 : Int) : Option (Int) :=
  some (IntKind.wrap .u32 (Int.fdiv (IntKind.wrap .u64 (IntKind.wrap .i64 ((IntKind.wrap .i64 (IntKind.wrap .i32 p0)) * (IntKind.wrap .i64 p1)))) (2 ^ (min (Int.toNat 32) (IntKind.bits .u64)))))

def word_HighU (p0 : Int) (p1 : Int) : Option (Int) :=
  some (IntKind.wrap .u32 (Int.fdiv (IntKind.wrap .u64 ((IntKind.wrap .u64 p0) * (IntKind.wrap .u64 p1))) (2 ^ (min (Int.toNat 32) (IntKind.bits .u64)))))

def word_Div_1 (p0 : Int) (p1 : Int) : Option (Int) :=
  (nz p1).bind fun _ => some (IntKind.wrap .i64 (Int.tdiv p0 p1))

def word_signed_2 (p0 : Int) (p1 : Int) : Option (Int) :=
  (word_Div_1 (IntKind.wrap .i64 (IntKind.wrap .i32 p0)) (IntKind.wrap .i64 (IntKind.wrap .i32 p1))).bind fun y1 => some y1

def word_Div (p0 : Int) (p1 : Int) : Option (Int) :=
  bif p1 == 0 then (some (4294967295 : Int)) else ((word_signed_2 p0 p1).bind fun y1 => some (IntKind.wrap .u32 y1))

def word_DivU (p0 : Int) (p1 : Int) : Option (Int) :=
  bif p1 == 0 then (some (4294967295 : Int)) else ((nz p1).bind fun _ => some (IntKind.wrap .u32 (Int.tdiv p0 p1)))

def word_Rem_1 (p0 : Int) (p1 : Int) : Option (Int) :=
  (nz p1).bind fun _ => some (Int.tmod p0 p1)

def word_signed_3 (p0 : Int) (p1 : Int) : Option (Int) :=
  (word_Rem_1 (IntKind.wrap .i64 (IntKind.wrap .i32 p0)) (IntKind.wrap .i64 (IntKind.wrap .i32 p1))).bind fun y1 => some y1

def word_Rem (p0 : Int) (p1 : Int) : Option (Int) :=
  bif p1 == 0 then (some p0) else ((word_signed_3 p0 p1).bind fun y1 => some (IntKind.wrap .u32 y1))

def word_RemU (p0 : Int) (p1 : Int) : Option (Int) :=
  bif p1 == 0 then (some p0) else ((nz p1).bind fun _ => some (Int.tmod p0 p1))

def device_product (p0 : Int) (p1 : Int) (p2 : Int) : Option (Int) :=
  bif p0 == 38 then ((word_Mul p1 p2).bind fun y1 => some y1) else (bif p0 == 39 then ((word_High p1 p2).bind fun y2 => some y2) else (bif p0 == 40 then ((word_HighSU p1 p2).bind fun y3 => some y3) else (bif p0 == 41 then ((word_HighU p1 p2).bind fun y4 => some y4) else (bif p0 == 42 then ((word_Div p1 p2).bind fun y5 => some y5) else (bif p0 == 43 then ((word_DivU p1 p2).bind fun y6 => some y6) else (bif p0 == 44 then ((word_Rem p1 p2).bind fun y7 => some y7) else ((word_RemU p1 p2).bind fun y8 => some y8)))))))

def word_Add (p0 : Int) (p1 : Int) : Option (Int) :=
  some (IntKind.wrap .u32 (p0 + p1))

def word_Left (p0 : Int) (p1 : Int) : Option (Int) :=
  (nn (bits .and .u32 p1 31)).bind fun _ => some (IntKind.wrap .u32 (p0 * 2 ^ (min (Int.toNat (bits .and .u32 p1 31)) (IntKind.bits .u32))))

def word_Right (p0 : Int) (p1 : Int) : Option (Int) :=
  (nn (bits .and .u32 p1 31)).bind fun _ => some (Int.fdiv p0 (2 ^ (min (Int.toNat (bits .and .u32 p1 31)) (IntKind.bits .u32))))

def word_RightS (p0 : Int) (p1 : Int) : Option (Int) :=
  (nn (bits .and .u32 p1 31)).bind fun _ => some (IntKind.wrap .u32 (Int.fdiv (IntKind.wrap .i32 p0) (2 ^ (min (Int.toNat (bits .and .u32 p1 31)) (IntKind.bits .i32)))))

def device_reckoned (p0 : Int) (p1 : Int) (p2 : Int) : Option (Int) :=
  jn (fun kk1 => jn (fun kk2 => jn (fun kk3 => jn (fun kk4 => jn (fun kk5 => jn (fun kk6 => jn (fun kk7 => jn (fun kk8 => jn (fun kk9 => bif p0 == 19 then (kk9 ()) else (bif p0 == 28 then (kk9 ()) else (bif p0 == 20 then (kk8 ()) else (bif p0 == 31 then (kk8 ()) else (bif p0 == 21 then (kk7 ()) else (bif p0 == 32 then (kk7 ()) else (bif p0 == 22 then (kk6 ()) else (bif p0 == 33 then (kk6 ()) else (bif p0 == 23 then (kk5 ()) else (bif p0 == 36 then (kk5 ()) else (bif p0 == 24 then (kk4 ()) else (bif p0 == 37 then (kk4 ()) else (bif p0 == 25 then (kk3 ()) else (bif p0 == 30 then (kk3 ()) else (bif p0 == 26 then (kk2 ()) else (bif p0 == 34 then (kk2 ()) else (bif p0 == 27 then (kk1 ()) else (bif p0 == 35 then (kk1 ()) else (bif p0 == 29 then ((word_Sub p1 p2).bind fun y1 => some y1) else ((device_product p0 p1 p2).bind fun y2 => some y2)))))))))))))))))))) (fun (_ : Unit) => (word_Add p1 p2).bind fun y3 => some y3)) (fun (_ : Unit) => (word_Less p1 p2).bind fun y4 => some y4)) (fun (_ : Unit) => (word_LessU p1 p2).bind fun y5 => some y5)) (fun (_ : Unit) => some (bits .xor .u32 p1 p2))) (fun (_ : Unit) => some (bits .or .u32 p1 p2))) (fun (_ : Unit) => some (bits .and .u32 p1 p2))) (fun (_ : Unit) => (word_Left p1 p2).bind fun y6 => some y6)) (fun (_ : Unit) => (word_Right p1 p2).bind fun y7 => some y7)) (fun (_ : Unit) => (word_RightS p1 p2).bind fun y8 => some y8)

def device_Machine_do (p0 : DeviceMachine) (p1 : GInst) : Option (Bool × DeviceMachine) :=
  (lenOk p0.volatile.regs 32).bind fun _ => (idx p0.volatile.regs p1.Rs1).bind fun u1 => (idx p0.volatile.regs p1.Rs2).bind fun u2 => jn (fun kk1 => bif p1.Op == 1 then ((idx p0.volatile.regs p1.Rd).bind fun u3 => (idx p0.volatile.regs p1.Rd).bind fun u4 => kk1 (IntKind.wrap .u32 (p0.volatile.pc + 4)) ({ p0 with volatile := { p0.volatile with regs := List.set p0.volatile.regs (Int.toNat p1.Rd) (IntKind.wrap .u32 p1.Imm) } })) else (bif p1.Op == 2 then ((idx p0.volatile.regs p1.Rd).bind fun u5 => (idx p0.volatile.regs p1.Rd).bind fun u6 => kk1 (IntKind.wrap .u32 (p0.volatile.pc + 4)) ({ p0 with volatile := { p0.volatile with regs := List.set p0.volatile.regs (Int.toNat p1.Rd) (IntKind.wrap .u32 (p0.volatile.pc + (IntKind.wrap .u32 p1.Imm))) } })) else (bif p1.Op == 3 then ((idx p0.volatile.regs p1.Rd).bind fun u7 => (idx p0.volatile.regs p1.Rd).bind fun u8 => kk1 (IntKind.wrap .u32 (p0.volatile.pc + (IntKind.wrap .u32 p1.Imm))) ({ p0 with volatile := { p0.volatile with regs := List.set p0.volatile.regs (Int.toNat p1.Rd) (IntKind.wrap .u32 (p0.volatile.pc + 4)) } })) else (bif p1.Op == 4 then ((idx p0.volatile.regs p1.Rd).bind fun u9 => (idx p0.volatile.regs p1.Rd).bind fun u10 => kk1 (bits .andNot .u32 (IntKind.wrap .u32 (u1 + (IntKind.wrap .u32 p1.Imm))) 1) ({ p0 with volatile := { p0.volatile with regs := List.set p0.volatile.regs (Int.toNat p1.Rd) (IntKind.wrap .u32 (p0.volatile.pc + 4)) } })) else (bif decide (p1.Op ≤ 10) then ((device_branches p1.Op u1 u2).bind fun y1 => bif y1 then (kk1 (IntKind.wrap .u32 (p0.volatile.pc + (IntKind.wrap .u32 p1.Imm))) p0) else (kk1 (IntKind.wrap .u32 (p0.volatile.pc + 4)) p0)) else (bif decide (p1.Op ≤ 15) then ((device_Machine_load p0 p1.Op (IntKind.wrap .u32 (u1 + (IntKind.wrap .u32 p1.Imm)))).bind fun y2 => bif !y2.2 then (some (false, p0)) else ((idx p0.volatile.regs p1.Rd).bind fun u11 => (idx p0.volatile.regs p1.Rd).bind fun u12 => kk1 (IntKind.wrap .u32 (p0.volatile.pc + 4)) ({ p0 with volatile := { p0.volatile with regs := List.set p0.volatile.regs (Int.toNat p1.Rd) y2.1 } }))) else (bif decide (p1.Op ≤ 18) then ((device_Machine_store p0 p1.Op (IntKind.wrap .u32 (u1 + (IntKind.wrap .u32 p1.Imm))) u2).bind fun y3 => bif !y3.1 then (some (false, y3.2)) else (kk1 (IntKind.wrap .u32 (p0.volatile.pc + 4)) y3.2)) else (bif decide (p1.Op ≤ 27) then ((device_reckoned p1.Op u1 (IntKind.wrap .u32 p1.Imm)).bind fun y4 => (idx p0.volatile.regs p1.Rd).bind fun u13 => (idx p0.volatile.regs p1.Rd).bind fun u14 => kk1 (IntKind.wrap .u32 (p0.volatile.pc + 4)) ({ p0 with volatile := { p0.volatile with regs := List.set p0.volatile.regs (Int.toNat p1.Rd) y4 } })) else ((device_reckoned p1.Op u1 u2).bind fun y5 => (idx p0.volatile.regs p1.Rd).bind fun u15 => (idx p0.volatile.regs p1.Rd).bind fun u16 => kk1 (IntKind.wrap .u32 (p0.volatile.pc + 4)) ({ p0 with volatile := { p0.volatile with regs := List.set p0.volatile.regs (Int.toNat p1.Rd) y5 } })))))))))) (fun (x4 : Int) (x5 : DeviceMachine) => (lenOk x5.volatile.regs 32).bind fun _ => some (true, { x5 with volatile := { x5.volatile with pc := x4 } }))

def device_Machine_Step (p0 : DeviceMachine) : Option (Int × DeviceMachine) :=
  (lenOk p0.volatile.regs 32).bind fun _ => bif p0.state != 0 then ((device_Machine_State p0).bind fun y1 => some (y1, p0)) else ((device_Machine_fetch p0).bind fun y2 => bif !y2.2.1 then ((lenOk y2.2.2.volatile.regs 32).bind fun _ => some ((2 : Int), { y2.2.2 with state := 2 })) else ((device_Machine_do y2.2.2 y2.1).bind fun y3 => bif !y3.1 then ((lenOk y3.2.volatile.regs 32).bind fun _ => some ((2 : Int), { y3.2 with state := 2 })) else ((lenOk y3.2.volatile.regs 32).bind fun _ => (idx y3.2.volatile.regs 0).bind fun u1 => (idx y3.2.volatile.regs 0).bind fun u2 => some (y3.2.state, { y3.2 with volatile := { y3.2.volatile with regs := List.set y3.2.volatile.regs (Int.toNat 0) 0 }, steps := IntKind.wrap .i64 (y3.2.steps + 1) }))))

def device_Machine_Run (p0 : DeviceMachine) (p1 : Int) (p2 : List Int) : Option (Int × DeviceMachine) :=
  (loopM (fun (x4, x5) => ((lenOk x5.volatile.regs 32).bind fun _ => bif ((x5.state == 0) && (decide (x5.steps < p1))) then (jn (fun kk1 => (loopM (fun (x7 : List Int) => (bif decide (0 < (List.length x7 : Int)) then ((idx x7 0).bind fun u1 => bif decide (u1 < x5.steps) then ((sub x7 1 (List.length x7 : Int)).bind fun u2 => some (Lp.go u2)) else (some (Lp.brk x7))) else (some (Lp.brk x7)) : Option (Lp ((List Int)) (Unit)))) NN x4).bind fun o => o.thn (fun (x7 : List Int) => kk1 x7) (fun _ => none)) (fun (x6 : List Int) => jn (fun kk2 => bif decide (0 < (List.length x6 : Int)) then ((idx x6 0).bind fun u3 => bif u3 == x5.steps then ((device_Machine_Fail x5).bind fun y1 => (sub x6 1 (List.length x6 : Int)).bind fun u4 => kk2 u4 y1) else (kk2 x6 x5)) else (kk2 x6 x5)) (fun (x11 : List Int) (x12 : DeviceMachine) => (device_Machine_Step x12).bind fun y2 => some (Lp.go (x11, y2.2))))) else (some (Lp.brk (x4, x5))) : Option (Lp ((List Int) × DeviceMachine) (Unit)))) NN (p2, p0)).bind fun o => o.thn (fun (x4, x5) => some (x5.state, x5)) (fun _ => none)

def play_runs (p0 : DeviceMachine) (p1 : Int) (p2 : Int) (p3 : Int) : Option (Int × DeviceMachine) :=
  (play_each_1 (fun (sx : Int × Int × DeviceMachine) (x7 : Int) => (match sx with | (x4, x5, x6) => (device_Machine_Steps x6).bind fun y1 => bif decide (x7 < y1) then (some (Lp.go (x4, x5, x6))) else ((device_Machine_Run x6 (min x7 p3) []).bind fun y2 => bif y2.1 != 0 then (some (Lp.brk (x4, x4, y2.2))) else ((device_Machine_Steps y2.2).bind fun y3 => bif decide (p3 ≤ y3) then (some (Lp.brk (x4, x4, y2.2))) else ((device_Machine_Fail y2.2).bind fun y4 => (device_Machine_Run y4 (min (IntKind.wrap .i64 (x7 + 1)) p3) []).bind fun y5 => some (Lp.go (IntKind.wrap .i64 (x4 + 1), x5, y5.2))))) : Option (Lp (Int × Int × DeviceMachine) Unit))) (0, 0, p0) p1 p2).bind fun o => Lp.gob o (fun (x4, x5, x6) => (device_Machine_Run x6 p3 []).bind fun y6 => some (x4, y6.2)) (fun (x4, x5, x6) => some (x5, x6)) none

def device_Machine_Exit (p0 : DeviceMachine) : Option (Int) :=
  (lenOk p0.volatile.regs 32).bind fun _ => some p0.exit

def slices_Clone_3 (p0 : List GRecord) : Option ((List GRecord)) :=
  (room (List.length ([] : List GRecord) + List.length p0)).bind fun _ => some (([] : List GRecord) ++ p0)

def device_Machine_Log (p0 : DeviceMachine) : Option ((List GRecord)) :=
  (lenOk p0.volatile.regs 32).bind fun _ => (slices_Clone_3 p0.log).bind fun y1 => some y1

def play_played (p0 : GImage) (p1 : List Int) (p2 : Int) (p3 : Int) (p4 : Int) : Option (GPlay × Int) :=
  (image_Load p0 p1).bind fun y1 => exC y1 (fun y1 => bif y1 != 0 then (some ((⟨0, 0, 0, [], 0⟩ : GPlay), y1)) else none) (fun e1 => bif e1.2 != 0 then (some ((⟨0, 0, 0, [], 0⟩ : GPlay), e1.2)) else ((play_runs e1.1 p2 p3 (min (max p4 0) 20000000)).bind fun y2 => (device_Machine_State y2.2).bind fun y3 => (device_Machine_Exit y2.2).bind fun y4 => (device_Machine_Steps y2.2).bind fun y5 => (device_Machine_Log y2.2).bind fun y6 => some ((⟨y3, y4, y5, y6, y2.1⟩ : GPlay), (0 : Int))))

def play_Often (p0 : GImage) (p1 : List Int) (p2 : Int) (p3 : Int) (p4 : Int) : Option (GPlay × Int) :=
  bif ((decide (p2 < 0)) || (decide (p3 < 1))) then (some ((⟨0, 0, 0, [], 0⟩ : GPlay), (1 : Int))) else ((play_each p2 p3).bind fun y1 => (play_played p0 p1 y1.1 y1.2 p4).bind fun y2 => some (y2.1, y2.2))

def ref03_May (p0 : Int) (p1 : Int) : Option (Int) :=
  bif (((((decide (p0 < 1)) || (decide (32768 < p0))) || (decide (p1 < 4))) || (decide (65536 < p1))) || ((Int.tmod p1 4) != 0)) then (some (1 : Int)) else (some (0 : Int))

def ref03_Begin (p0 : List Int) (p1 : List Int) (p2 : List Int) : Option (ref03Machine) :=
  (loopM (fun (x1, x2) => (bif decide (x2 < (List.length p1 : Int)) then ((idx p1 x2).bind fun u1 => (room (List.length x1 + List.length ([u1] : List Int))).bind fun _ => some (Lp.go (x1 ++ ([u1] : List Int), IntKind.wrap .i64 (x2 + 1)))) else (some (Lp.brk (x1, x2))) : Option (Lp ((List Int) × Int) (Unit)))) NN ([], (0 : Int))).bind fun o => o.thn (fun (x1, x2) => (repl 32 0).bind fun u2 => some (⟨p0, x1, p2, u2, 0, 0, 0, [], 0, 0, 0⟩ : ref03Machine)) (fun _ => none)

def ref03_Machine_Fail (p0 : ref03Machine) : Option (ref03Machine) :=
  bif p0.State == 0 then ((repl 32 0).bind fun u1 => some ({ p0 with Regs := u1, Pc := 0, Seq := 0, Index := 0 })) else (some p0)

def ref02_Form (p0 : Int) : Option (Int) :=
  bif decide (p0 < 1) then (some (0 : Int)) else (bif decide (45 < p0) then (some (0 : Int)) else (bif decide (p0 ≤ 2) then (some (85 : Int)) else (bif p0 == 3 then (some (74 : Int)) else (bif decide (5 ≤ p0) then (bif decide (p0 ≤ 10) then (some (66 : Int)) else (bif decide (16 ≤ p0) then (bif decide (p0 ≤ 18) then (some (83 : Int)) else (bif decide (25 ≤ p0) then (bif decide (p0 ≤ 27) then (some (72 : Int)) else (bif decide (28 ≤ p0) then (some (82 : Int)) else (some (73 : Int)))) else (bif decide (28 ≤ p0) then (some (82 : Int)) else (some (73 : Int))))) else (bif decide (25 ≤ p0) then (bif decide (p0 ≤ 27) then (some (72 : Int)) else (bif decide (28 ≤ p0) then (some (82 : Int)) else (some (73 : Int)))) else (bif decide (28 ≤ p0) then (some (82 : Int)) else (some (73 : Int)))))) else (bif decide (16 ≤ p0) then (bif decide (p0 ≤ 18) then (some (83 : Int)) else (bif decide (25 ≤ p0) then (bif decide (p0 ≤ 27) then (some (72 : Int)) else (bif decide (28 ≤ p0) then (some (82 : Int)) else (some (73 : Int)))) else (bif decide (28 ≤ p0) then (some (82 : Int)) else (some (73 : Int))))) else (bif decide (25 ≤ p0) then (bif decide (p0 ≤ 27) then (some (72 : Int)) else (bif decide (28 ≤ p0) then (some (82 : Int)) else (some (73 : Int)))) else (bif decide (28 ≤ p0) then (some (82 : Int)) else (some (73 : Int)))))))))

def ref02_two (p0 : Int) : Option (Int) :=
  (loopM (fun (x1, x2) => (bif decide (x2 < p0) then (some (Lp.go (IntKind.wrap .i64 (2 * x1), IntKind.wrap .i64 (x2 + 1)))) else (some (Lp.brk (x1, x2))) : Option (Lp (Int × Int) (Unit)))) NN ((1 : Int), (0 : Int))).bind fun o => o.thn (fun (x1, x2) => some x1) (fun _ => none)

def ref02_move (p0 : Int) (p1 : Int) (p2 : Int) (p3 : Int) : Option (Int) :=
  jn (fun kk1 => bif decide (p0 < 0) then (kk1 (IntKind.wrap .i64 (p0 + 4294967296))) else (kk1 p0)) (fun (x1 : Int) => (ref02_two p1).bind fun y1 => (nz y1).bind fun _ => (ref02_two (IntKind.wrap .i64 ((IntKind.wrap .i64 (p2 - p1)) + 1))).bind fun y2 => (nz y2).bind fun _ => (ref02_two p3).bind fun y3 => some (IntKind.wrap .i64 ((Int.tmod (IntKind.wrap .i64 (Int.tdiv x1 y1)) y2) * y3)))

def ref02_signed (p0 : Int) (p1 : Int) : Option (Int) :=
  (ref02_two (IntKind.wrap .i64 (p1 - 1))).bind fun y1 => bif decide (y1 ≤ p0) then ((ref02_two p1).bind fun y2 => some (IntKind.wrap .i64 (p0 - y2))) else (some p0)

def ref02_Gather (p0 : Int) (p1 : Int) : Option (Int) :=
  bif p0 == 85 then ((ref02_move p1 12 31 12).bind fun y1 => (ref02_signed y1 32).bind fun y2 => some y2) else (bif p0 == 74 then ((ref02_move p1 31 31 20).bind fun y3 => (ref02_move p1 21 30 1).bind fun y4 => (ref02_move p1 20 20 11).bind fun y5 => (ref02_move p1 12 19 12).bind fun y6 => (ref02_signed (IntKind.wrap .i64 ((IntKind.wrap .i64 ((IntKind.wrap .i64 (y3 + y4)) + y5)) + y6)) 21).bind fun y7 => some y7) else (bif p0 == 73 then ((ref02_move p1 20 31 0).bind fun y8 => (ref02_signed y8 12).bind fun y9 => some y9) else (bif p0 == 72 then ((ref02_move p1 20 24 0).bind fun y10 => some y10) else (bif p0 == 83 then ((ref02_move p1 7 11 0).bind fun y11 => (ref02_move p1 25 31 5).bind fun y12 => (ref02_signed (IntKind.wrap .i64 (y11 + y12)) 12).bind fun y13 => some y13) else (bif p0 == 66 then ((ref02_move p1 31 31 12).bind fun y14 => (ref02_move p1 25 30 5).bind fun y15 => (ref02_move p1 8 11 1).bind fun y16 => (ref02_move p1 7 7 11).bind fun y17 => (ref02_signed (IntKind.wrap .i64 ((IntKind.wrap .i64 ((IntKind.wrap .i64 (y14 + y15)) + y16)) + y17)) 13).bind fun y18 => some y18) else (some (0 : Int)))))))

def ref02_has (p0 : Int) (p1 : Int) : Option (Bool) :=
  bif p1 == 1 then (bif p0 != 83 then (some (p0 != 66)) else (some false)) else (bif p1 == 2 then (bif p0 != 85 then (some (p0 != 74)) else (some false)) else (bif p0 == 83 then (some true) else (bif p0 == 66 then (some true) else (some (p0 == 82)))))

def ref02_reg (p0 : Int) (p1 : Bool) : Option (Bool) :=
  bif !p1 then (some (p0 == 0)) else (bif decide (0 ≤ p0) then (some (decide (p0 ≤ 31))) else (some false))

def ref02_room (p0 : Int) (p1 : Int) : Option (Bool) :=
  bif p0 == 85 then (bif decide ((-2147483648) ≤ p1) then (bif decide (p1 ≤ 2147479552) then (some ((Int.tmod p1 4096) == 0)) else (some false)) else (some false)) else (bif p0 == 74 then (bif decide ((-1048576) ≤ p1) then (bif decide (p1 ≤ 1048574) then (some ((Int.tmod p1 2) == 0)) else (some false)) else (some false)) else (bif p0 == 73 then (bif decide ((-2048) ≤ p1) then (some (decide (p1 ≤ 2047))) else (some false)) else (bif p0 == 83 then (bif decide ((-2048) ≤ p1) then (some (decide (p1 ≤ 2047))) else (some false)) else (bif p0 == 72 then (bif decide (0 ≤ p1) then (some (decide (p1 ≤ 31))) else (some false)) else (bif p0 == 66 then (bif decide ((-4096) ≤ p1) then (bif decide (p1 ≤ 4094) then (some ((Int.tmod p1 2) == 0)) else (some false)) else (some false)) else (some (p1 == 0)))))))

def ref02_Right (p0 : GInst) : Option (Bool) :=
  (ref02_Form p0.Op).bind fun y1 => bif y1 != 0 then ((ref02_has y1 1).bind fun y2 => (ref02_reg p0.Rd y2).bind fun y3 => bif y3 then ((ref02_has y1 2).bind fun y4 => (ref02_reg p0.Rs1 y4).bind fun y5 => bif y5 then ((ref02_has y1 3).bind fun y6 => (ref02_reg p0.Rs2 y6).bind fun y7 => bif y7 then ((ref02_room y1 p0.Imm).bind fun y8 => some y8) else (some false)) else (some false)) else (some false)) else (some false)

def ref02_Code (p0 : Int) : Option (Int) :=
  bif p0 == 1 then (some (55 : Int)) else (bif p0 == 2 then (some (23 : Int)) else (bif p0 == 3 then (some (111 : Int)) else (bif p0 == 4 then (some (103 : Int)) else (bif decide (p0 ≤ 10) then (some (99 : Int)) else (bif decide (p0 ≤ 15) then (some (3 : Int)) else (bif decide (p0 ≤ 18) then (some (35 : Int)) else (bif decide (p0 ≤ 27) then (some (19 : Int)) else (some (51 : Int)))))))))

def ref02_Third (p0 : Int) : Option (Int) :=
  (idx ([0, 0, 0, 0, 0, 0, 1, 4, 5, 6, 7, 0, 1, 2, 4, 5, 0, 1, 2, 0, 2, 3, 4, 6, 7, 1, 5, 5, 0, 0, 1, 2, 3, 4, 5, 5, 6, 7, 0, 1, 2, 3, 4, 5, 6, 7] : List Int) p0).bind fun u1 => some u1

def ref02_Seventh (p0 : Int) : Option (Int) :=
  bif p0 == 27 then (some (32 : Int)) else (bif p0 == 29 then (some (32 : Int)) else (bif p0 == 35 then (some (32 : Int)) else (bif decide (38 ≤ p0) then (some (1 : Int)) else (some (0 : Int)))))

def ref02_Spread (p0 : Int) (p1 : Int) : Option (Int) :=
  bif p0 == 85 then ((ref02_move p1 12 31 12).bind fun y1 => some y1) else (bif p0 == 74 then ((ref02_move p1 20 20 31).bind fun y2 => (ref02_move p1 1 10 21).bind fun y3 => (ref02_move p1 11 11 20).bind fun y4 => (ref02_move p1 12 19 12).bind fun y5 => some (IntKind.wrap .i64 ((IntKind.wrap .i64 ((IntKind.wrap .i64 (y2 + y3)) + y4)) + y5))) else (bif p0 == 73 then ((ref02_move p1 0 11 20).bind fun y6 => some y6) else (bif p0 == 72 then ((ref02_move p1 0 4 20).bind fun y7 => some y7) else (bif p0 == 83 then ((ref02_move p1 0 4 7).bind fun y8 => (ref02_move p1 5 11 25).bind fun y9 => some (IntKind.wrap .i64 (y8 + y9))) else (bif p0 == 66 then ((ref02_move p1 12 12 31).bind fun y10 => (ref02_move p1 5 10 25).bind fun y11 => (ref02_move p1 1 4 8).bind fun y12 => (ref02_move p1 11 11 7).bind fun y13 => some (IntKind.wrap .i64 ((IntKind.wrap .i64 ((IntKind.wrap .i64 (y10 + y11)) + y12)) + y13))) else (some (0 : Int)))))))

def ref02_Word (p0 : GInst) : Option (Int) :=
  (ref02_Form p0.Op).bind fun y1 => (ref02_Code p0.Op).bind fun y2 => (ref02_two 7).bind fun y3 => (ref02_Third p0.Op).bind fun y4 => (ref02_two 12).bind fun y5 => (ref02_two 15).bind fun y6 => (ref02_two 20).bind fun y7 => (ref02_Seventh p0.Op).bind fun y8 => (ref02_two 25).bind fun y9 => (ref02_Spread y1 p0.Imm).bind fun y10 => some (IntKind.wrap .u32 (IntKind.wrap .i64 ((IntKind.wrap .i64 ((IntKind.wrap .i64 ((IntKind.wrap .i64 ((IntKind.wrap .i64 ((IntKind.wrap .i64 (y2 + (IntKind.wrap .i64 (p0.Rd * y3)))) + (IntKind.wrap .i64 (y4 * y5)))) + (IntKind.wrap .i64 (p0.Rs1 * y6)))) + (IntKind.wrap .i64 (p0.Rs2 * y7)))) + (IntKind.wrap .i64 (y8 * y9)))) + y10)))

def ref02_Decode (p0 : Int) : Option (GInst × Int) :=
  (loopM (fun (x1 : Int) => (bif decide (x1 ≤ 45) then ((ref02_Form x1).bind fun y1 => (ref02_Gather y1 (IntKind.wrap .i64 p0)).bind fun y2 => jn (fun kk1 => (ref02_has y1 1).bind fun y3 => bif y3 then ((ref02_move (IntKind.wrap .i64 p0) 7 11 0).bind fun y4 => kk1 (⟨x1, y4, 0, 0, y2⟩ : GInst)) else (kk1 (⟨x1, 0, 0, 0, y2⟩ : GInst))) (fun (x2 : GInst) => jn (fun kk2 => (ref02_has y1 2).bind fun y5 => bif y5 then ((ref02_move (IntKind.wrap .i64 p0) 15 19 0).bind fun y6 => kk2 ({ x2 with Rs1 := y6 })) else (kk2 x2)) (fun (x3 : GInst) => jn (fun kk3 => (ref02_has y1 3).bind fun y7 => bif y7 then ((ref02_move (IntKind.wrap .i64 p0) 20 24 0).bind fun y8 => kk3 ({ x3 with Rs2 := y8 })) else (kk3 x3)) (fun (x4 : GInst) => (ref02_Right x4).bind fun y9 => bif y9 then ((ref02_Word x4).bind fun y10 => bif y10 == p0 then (some (Lp.ret (x4, (0 : Int)))) else (some (Lp.go (IntKind.wrap .i64 (x1 + 1))))) else (some (Lp.go (IntKind.wrap .i64 (x1 + 1)))))))) else (some (Lp.brk x1)) : Option (Lp (Int) (GInst × Int)))) NN (1 : Int)).bind fun o => o.thn (fun (x1 : Int) => some ((⟨0, 0, 0, 0, 0⟩ : GInst), (3 : Int))) (fun r => some r)

def ref01_Cut (p0 : Int) : Option (Int) :=
  jn (fun kk1 => bif decide ((Int.tmod p0 4294967296) < 0) then (kk1 (IntKind.wrap .i64 ((Int.tmod p0 4294967296) + 4294967296))) else (kk1 (Int.tmod p0 4294967296))) (fun (x1 : Int) => some (IntKind.wrap .u32 x1))

def ref03_wrap (p0 : Int) : Option (Int) :=
  (ref01_Cut p0).bind fun y1 => some (IntKind.wrap .i64 y1)

def ref03_Machine_set (p0 : ref03Machine) (p1 : Int) (p2 : Int) : Option (ref03Machine) :=
  bif decide (0 < p1) then ((idx p0.Regs p1).bind fun u1 => (idx p0.Regs p1).bind fun u2 => some ({ p0 with Regs := List.set p0.Regs (Int.toNat p1) p2 })) else (some p0)

def ref01_Signed (p0 : Int) : Option (Int) :=
  bif decide (2147483648 ≤ p0) then (some (IntKind.wrap .i64 ((IntKind.wrap .i64 p0) - 4294967296))) else (some (IntKind.wrap .i64 p0))

def ref03_taken (p0 : Int) (p1 : Int) (p2 : Int) : Option (Bool) :=
  (ref01_Signed p1).bind fun y1 => (ref01_Signed p2).bind fun y2 => bif p0 == 5 then (some (p1 == p2)) else (bif p0 == 6 then (some (p1 != p2)) else (bif p0 == 7 then (some (decide (y1 < y2))) else (bif p0 == 8 then (some (decide (y2 ≤ y1))) else (bif p0 == 9 then (some (decide (p1 < p2))) else (some (decide (p2 ≤ p1)))))))

def ref03_Size (p0 : Int) : Option (Int) :=
  bif (((p0 == 11) || (p0 == 14)) || (p0 == 16)) then (some (1 : Int)) else (bif (((p0 == 12) || (p0 == 15)) || (p0 == 17)) then (some (2 : Int)) else (some (4 : Int)))

def ref03_Machine_in (p0 : ref03Machine) (p1 : Int) (p2 : Int) : Option (Bool) :=
  (nz p2).bind fun _ => some ((((Int.tmod p1 p2) == 0) && (decide (268435456 ≤ p1))) && (decide ((IntKind.wrap .i64 (p1 + p2)) ≤ (IntKind.wrap .i64 (268435456 + (List.length p0.Data : Int))))))

def ref03_Machine_load (p0 : ref03Machine) (p1 : Int) (p2 : Int) : Option (Int × Bool) :=
  (ref03_Size p1).bind fun y1 => jn (fun kk1 => kk1 ((p1 == 13) && (p2 == 536870924))) (fun (x1 : Bool) => bif x1 then (bif decide ((IntKind.wrap .i64 p0.Index) < (List.length p0.Inputs : Int)) then ((idx p0.Inputs p0.Index).bind fun u1 => some (u1, true)) else (some ((0 : Int), true))) else ((ref03_Machine_in p0 p2 y1).bind fun y2 => bif !y2 then (some ((0 : Int), false)) else ((loopM (fun (x2, x3) => (bif decide (0 ≤ x3) then ((idx p0.Data (IntKind.wrap .i64 ((IntKind.wrap .i64 (p2 - 268435456)) + x3))).bind fun u2 => some (Lp.go (IntKind.wrap .i64 ((IntKind.wrap .i64 (256 * x2)) + (IntKind.wrap .i64 u2)), IntKind.wrap .i64 (x3 - 1)))) else (some (Lp.brk (x2, x3))) : Option (Lp (Int × Int) (Unit)))) NN ((0 : Int), IntKind.wrap .i64 (y1 - 1))).bind fun o => o.thn (fun (x2, x3) => jn (fun kk2 => bif ((p1 == 11) && (decide (128 ≤ x2))) then (kk2 (IntKind.wrap .i64 (x2 - 256))) else (kk2 x2)) (fun (x4 : Int) => jn (fun kk3 => bif ((p1 == 12) && (decide (32768 ≤ x4))) then (kk3 (IntKind.wrap .i64 (x4 - 65536))) else (kk3 x4)) (fun (x5 : Int) => (ref01_Cut x5).bind fun y3 => some (y3, true)))) (fun _ => none))))

def ref03_Machine_store (p0 : ref03Machine) (p1 : Int) (p2 : Int) (p3 : Int) : Option (Bool × ref03Machine) :=
  bif ((p1 == 18) && ((IntKind.wrap .i64 (p2 - 536870912)) == 0)) then (some (true, { p0 with Seq := p3 })) else (jn (fun kk1 => kk1 ((p1 == 18) && ((IntKind.wrap .i64 (p2 - 536870912)) == 4))) (fun (x1 : Bool) => bif x1 then ((room (List.length p0.Log + List.length ([(⟨p0.Seq, p3⟩ : GRecord)] : List GRecord))).bind fun _ => some (true, { p0 with Log := p0.Log ++ ([(⟨p0.Seq, p3⟩ : GRecord)] : List GRecord) })) else (bif ((p1 == 18) && ((IntKind.wrap .i64 (p2 - 536870912)) == 8)) then (some (true, { p0 with Index := p3 })) else (bif ((p1 == 18) && ((IntKind.wrap .i64 (p2 - 536870912)) == 16)) then (some (true, { p0 with State := 1, Exit := p3 })) else ((ref03_Size p1).bind fun y1 => (ref03_Machine_in p0 p2 y1).bind fun y2 => bif !y2 then (some (false, p0)) else ((loopM (fun (x2, x3, x4) => (bif decide (x4 < y1) then ((idx x2 (IntKind.wrap .i64 ((IntKind.wrap .i64 (p2 - 268435456)) + x4))).bind fun u1 => (idx x2 (IntKind.wrap .i64 ((IntKind.wrap .i64 (p2 - 268435456)) + x4))).bind fun u2 => some (Lp.go (List.set x2 (Int.toNat (IntKind.wrap .i64 ((IntKind.wrap .i64 (p2 - 268435456)) + x4))) (IntKind.wrap .u8 (Int.tmod x3 256)), IntKind.wrap .i64 (Int.tdiv x3 256), IntKind.wrap .i64 (x4 + 1)))) else (some (Lp.brk (x2, x3, x4))) : Option (Lp ((List Int) × Int × Int) (Unit)))) NN (p0.Data, IntKind.wrap .i64 p3, (0 : Int))).bind fun o => o.thn (fun (x2, x3, x4) => some (true, { p0 with Data := x2 })) (fun _ => none)))))))

def ref01_Add (p0 : Int) (p1 : Int) : Option (Int) :=
  (ref01_Cut (IntKind.wrap .i64 ((IntKind.wrap .i64 p0) + (IntKind.wrap .i64 p1)))).bind fun y1 => some y1

def ref01_Sub (p0 : Int) (p1 : Int) : Option (Int) :=
  (ref01_Cut (IntKind.wrap .i64 ((IntKind.wrap .i64 p0) - (IntKind.wrap .i64 p1)))).bind fun y1 => some y1

def ref01_power (p0 : Int) : Option (Int) :=
  (loopM (fun (x1, x2) => (bif decide (x2 < (IntKind.wrap .i64 (Int.tmod p0 32))) then (some (Lp.go (IntKind.wrap .i64 (2 * x1), IntKind.wrap .i64 (x2 + 1)))) else (some (Lp.brk (x1, x2))) : Option (Lp (Int × Int) (Unit)))) NN ((1 : Int), (0 : Int))).bind fun o => o.thn (fun (x1, x2) => some x1) (fun _ => none)

def ref01_Left (p0 : Int) (p1 : Int) : Option (Int) :=
  (ref01_power p1).bind fun y1 => (nz y1).bind fun _ => (nz (IntKind.wrap .i64 (Int.tdiv 4294967296 y1))).bind fun _ => (ref01_power p1).bind fun y2 => (ref01_Cut (IntKind.wrap .i64 ((Int.tmod (IntKind.wrap .i64 p0) (IntKind.wrap .i64 (Int.tdiv 4294967296 y1))) * y2))).bind fun y3 => some y3

def ref01_Less (p0 : Int) (p1 : Int) : Option (Int) :=
  (ref01_Signed p0).bind fun y1 => (ref01_Signed p1).bind fun y2 => bif decide (y1 < y2) then (some (1 : Int)) else (some (0 : Int))

def ref01_LessU (p0 : Int) (p1 : Int) : Option (Int) :=
  bif decide (p0 < p1) then (some (1 : Int)) else (some (0 : Int))

def ref01_Right (p0 : Int) (p1 : Int) : Option (Int) :=
  (ref01_power p1).bind fun y1 => (nz y1).bind fun _ => some (IntKind.wrap .u32 (IntKind.wrap .i64 (Int.tdiv (IntKind.wrap .i64 p0) y1)))

def ref01_RightS (p0 : Int) (p1 : Int) : Option (Int) :=
  (ref01_Signed p0).bind fun y1 => (ref01_power p1).bind fun y2 => (nz y2).bind fun _ => jn (fun kk1 => bif decide (y1 < 0) then (bif (IntKind.wrap .i64 ((IntKind.wrap .i64 (Int.tdiv y1 y2)) * y2)) != y1 then (kk1 (IntKind.wrap .i64 ((IntKind.wrap .i64 (Int.tdiv y1 y2)) - 1))) else (kk1 (IntKind.wrap .i64 (Int.tdiv y1 y2)))) else (kk1 (IntKind.wrap .i64 (Int.tdiv y1 y2)))) (fun (x1 : Int) => (ref01_Cut x1).bind fun y3 => some y3)

def ref01_half (p0 : Int) (p1 : Int) : Option (Int × Int) :=
  some (IntKind.wrap .u32 (IntKind.wrap .i64 ((IntKind.wrap .i64 ((IntKind.wrap .i64 ((IntKind.wrap .i64 (Int.tdiv (IntKind.wrap .i64 p0) 65536)) * (IntKind.wrap .i64 (Int.tdiv (IntKind.wrap .i64 p1) 65536)))) + (IntKind.wrap .i64 (Int.tdiv (IntKind.wrap .i64 ((IntKind.wrap .i64 ((IntKind.wrap .i64 (Int.tdiv (IntKind.wrap .i64 p0) 65536)) * (Int.tmod (IntKind.wrap .i64 p1) 65536))) + (IntKind.wrap .i64 (Int.tdiv (IntKind.wrap .i64 ((Int.tmod (IntKind.wrap .i64 p0) 65536) * (Int.tmod (IntKind.wrap .i64 p1) 65536))) 65536)))) 65536)))) + (IntKind.wrap .i64 (Int.tdiv (IntKind.wrap .i64 ((IntKind.wrap .i64 ((Int.tmod (IntKind.wrap .i64 p0) 65536) * (IntKind.wrap .i64 (Int.tdiv (IntKind.wrap .i64 p1) 65536)))) + (Int.tmod (IntKind.wrap .i64 ((IntKind.wrap .i64 ((IntKind.wrap .i64 (Int.tdiv (IntKind.wrap .i64 p0) 65536)) * (Int.tmod (IntKind.wrap .i64 p1) 65536))) + (IntKind.wrap .i64 (Int.tdiv (IntKind.wrap .i64 ((Int.tmod (IntKind.wrap .i64 p0) 65536) * (Int.tmod (IntKind.wrap .i64 p1) 65536))) 65536)))) 65536))) 65536)))), IntKind.wrap .u32 (IntKind.wrap .i64 ((IntKind.wrap .i64 ((Int.tmod (IntKind.wrap .i64 ((IntKind.wrap .i64 ((Int.tmod (IntKind.wrap .i64 p0) 65536) * (IntKind.wrap .i64 (Int.tdiv (IntKind.wrap .i64 p1) 65536)))) + (Int.tmod (IntKind.wrap .i64 ((IntKind.wrap .i64 ((IntKind.wrap .i64 (Int.tdiv (IntKind.wrap .i64 p0) 65536)) * (Int.tmod (IntKind.wrap .i64 p1) 65536))) + (IntKind.wrap .i64 (Int.tdiv (IntKind.wrap .i64 ((Int.tmod (IntKind.wrap .i64 p0) 65536) * (Int.tmod (IntKind.wrap .i64 p1) 65536))) 65536)))) 65536))) 65536) * 65536)) + (Int.tmod (IntKind.wrap .i64 ((Int.tmod (IntKind.wrap .i64 p0) 65536) * (Int.tmod (IntKind.wrap .i64 p1) 65536))) 65536))))

def ref01_Mul (p0 : Int) (p1 : Int) : Option (Int) :=
  (ref01_half p0 p1).bind fun y1 => some y1.2

def ref01_HighU (p0 : Int) (p1 : Int) : Option (Int) :=
  (ref01_half p0 p1).bind fun y1 => some y1.1

def ref01_HighSU (p0 : Int) (p1 : Int) : Option (Int) :=
  (ref01_HighU p0 p1).bind fun y1 => (ref01_Signed p0).bind fun y2 => bif decide (y2 < 0) then ((ref01_Sub y1 p1).bind fun y3 => some y3) else (some y1)

def ref01_High (p0 : Int) (p1 : Int) : Option (Int) :=
  (ref01_HighSU p0 p1).bind fun y1 => (ref01_Signed p1).bind fun y2 => bif decide (y2 < 0) then ((ref01_Sub y1 p0).bind fun y3 => some y3) else (some y1)

def ref01_abs (p0 : Int) : Option (Int) :=
  bif decide (p0 < 0) then (some (IntKind.wrap .i64 (0 - p0))) else (some p0)

def ref01_Div (p0 : Int) (p1 : Int) : Option (Int) :=
  (ref01_Signed p0).bind fun y1 => (ref01_Signed p1).bind fun y2 => bif y2 == 0 then (some (4294967295 : Int)) else ((ref01_abs y1).bind fun y3 => (ref01_abs y2).bind fun y4 => (nz y4).bind fun _ => jn (fun kk1 => bif decide (y1 < 0) then (bif decide (0 < y2) then (kk1 (IntKind.wrap .i64 (0 - (IntKind.wrap .i64 (Int.tdiv y3 y4))))) else (bif decide (0 < y1) then (bif decide (y2 < 0) then (kk1 (IntKind.wrap .i64 (0 - (IntKind.wrap .i64 (Int.tdiv y3 y4))))) else (kk1 (IntKind.wrap .i64 (Int.tdiv y3 y4)))) else (kk1 (IntKind.wrap .i64 (Int.tdiv y3 y4))))) else (bif decide (0 < y1) then (bif decide (y2 < 0) then (kk1 (IntKind.wrap .i64 (0 - (IntKind.wrap .i64 (Int.tdiv y3 y4))))) else (kk1 (IntKind.wrap .i64 (Int.tdiv y3 y4)))) else (kk1 (IntKind.wrap .i64 (Int.tdiv y3 y4))))) (fun (x1 : Int) => (ref01_Cut x1).bind fun y5 => some y5))

def ref01_DivU (p0 : Int) (p1 : Int) : Option (Int) :=
  bif p1 == 0 then (some (4294967295 : Int)) else ((nz (IntKind.wrap .i64 p1)).bind fun _ => some (IntKind.wrap .u32 (IntKind.wrap .i64 (Int.tdiv (IntKind.wrap .i64 p0) (IntKind.wrap .i64 p1)))))

def ref01_Rem (p0 : Int) (p1 : Int) : Option (Int) :=
  (ref01_Signed p0).bind fun y1 => (ref01_Signed p1).bind fun y2 => bif y2 == 0 then (some p0) else ((ref01_abs y1).bind fun y3 => (ref01_abs y2).bind fun y4 => (nz y4).bind fun _ => jn (fun kk1 => bif decide (y1 < 0) then (kk1 (IntKind.wrap .i64 (0 - (Int.tmod y3 y4)))) else (kk1 (Int.tmod y3 y4))) (fun (x1 : Int) => (ref01_Cut x1).bind fun y5 => some y5))

def ref01_RemU (p0 : Int) (p1 : Int) : Option (Int) :=
  bif p1 == 0 then (some p0) else ((nz (IntKind.wrap .i64 p1)).bind fun _ => some (IntKind.wrap .u32 (Int.tmod (IntKind.wrap .i64 p0) (IntKind.wrap .i64 p1))))

def ref03_part (p0 : Int) (p1 : Int) (p2 : Int) : Option (Int) :=
  bif p0 == 38 then ((ref01_Mul p1 p2).bind fun y1 => some y1) else (bif p0 == 39 then ((ref01_High p1 p2).bind fun y2 => some y2) else (bif p0 == 40 then ((ref01_HighSU p1 p2).bind fun y3 => some y3) else (bif p0 == 41 then ((ref01_HighU p1 p2).bind fun y4 => some y4) else (bif p0 == 42 then ((ref01_Div p1 p2).bind fun y5 => some y5) else (bif p0 == 43 then ((ref01_DivU p1 p2).bind fun y6 => some y6) else (bif p0 == 44 then ((ref01_Rem p1 p2).bind fun y7 => some y7) else ((ref01_RemU p1 p2).bind fun y8 => some y8)))))))

def ref03_Reckon (p0 : Int) (p1 : Int) (p2 : Int) : Option (Int) :=
  jn (fun kk1 => bif ((decide (19 ≤ p0)) && (decide (p0 ≤ 27))) then ((idx ([28, 31, 32, 33, 36, 37, 30, 34, 35] : List Int) (IntKind.wrap .i64 (p0 - 19))).bind fun u1 => kk1 u1) else (kk1 p0)) (fun (x1 : Int) => bif x1 == 28 then ((ref01_Add p1 p2).bind fun y1 => some y1) else (bif x1 == 29 then ((ref01_Sub p1 p2).bind fun y2 => some y2) else (bif x1 == 30 then ((ref01_Left p1 p2).bind fun y3 => some y3) else (bif x1 == 31 then ((ref01_Less p1 p2).bind fun y4 => some y4) else (bif x1 == 32 then ((ref01_LessU p1 p2).bind fun y5 => some y5) else (bif x1 == 33 then (some (bits .xor .u32 p1 p2)) else (bif x1 == 34 then ((ref01_Right p1 p2).bind fun y6 => some y6) else (bif x1 == 35 then ((ref01_RightS p1 p2).bind fun y7 => some y7) else (bif x1 == 36 then (some (bits .or .u32 p1 p2)) else (bif x1 == 37 then (some (bits .and .u32 p1 p2)) else ((ref03_part x1 p1 p2).bind fun y8 => some y8)))))))))))

def ref03_Machine_do (p0 : ref03Machine) (p1 : GInst) : Option (Bool × ref03Machine) :=
  (idx p0.Regs p1.Rs1).bind fun u1 => (idx p0.Regs p1.Rs2).bind fun u2 => (ref03_wrap (IntKind.wrap .i64 ((IntKind.wrap .i64 u1) + p1.Imm))).bind fun y1 => (ref03_wrap (IntKind.wrap .i64 (p0.Pc + 4))).bind fun y2 => jn (fun kk1 => bif p1.Op == 1 then ((ref01_Cut p1.Imm).bind fun y3 => (ref03_Machine_set p0 p1.Rd y3).bind fun y4 => kk1 y2 y4) else (bif p1.Op == 2 then ((ref01_Cut (IntKind.wrap .i64 (p0.Pc + p1.Imm))).bind fun y5 => (ref03_Machine_set p0 p1.Rd y5).bind fun y6 => kk1 y2 y6) else (bif p1.Op == 3 then ((ref03_Machine_set p0 p1.Rd (IntKind.wrap .u32 y2)).bind fun y7 => (ref03_wrap (IntKind.wrap .i64 (y7.Pc + p1.Imm))).bind fun y8 => kk1 y8 y7) else (bif p1.Op == 4 then ((ref03_Machine_set p0 p1.Rd (IntKind.wrap .u32 y2)).bind fun y9 => kk1 (IntKind.wrap .i64 (y1 - (Int.tmod y1 2))) y9) else (bif decide (p1.Op ≤ 10) then ((ref03_taken p1.Op u1 u2).bind fun y10 => bif y10 then ((ref03_wrap (IntKind.wrap .i64 (p0.Pc + p1.Imm))).bind fun y11 => kk1 y11 p0) else (kk1 y2 p0)) else (bif decide (p1.Op ≤ 15) then ((ref03_Machine_load p0 p1.Op y1).bind fun y12 => bif !y12.2 then (some (false, p0)) else ((ref03_Machine_set p0 p1.Rd y12.1).bind fun y13 => kk1 y2 y13)) else (bif decide (p1.Op ≤ 18) then ((ref03_Machine_store p0 p1.Op y1 u2).bind fun y14 => bif !y14.1 then (some (false, y14.2)) else (kk1 y2 y14.2)) else (bif decide (p1.Op ≤ 27) then ((ref01_Cut p1.Imm).bind fun y15 => (ref03_Reckon p1.Op u1 y15).bind fun y16 => (ref03_Machine_set p0 p1.Rd y16).bind fun y17 => kk1 y2 y17) else ((ref03_Reckon p1.Op u1 u2).bind fun y18 => (ref03_Machine_set p0 p1.Rd y18).bind fun y19 => kk1 y2 y19))))))))) (fun (x4 : Int) (x5 : ref03Machine) => some (true, { x5 with Pc := x4 }))

def ref03_Machine_Step (p0 : ref03Machine) : Option (ref03Machine) :=
  bif p0.State != 0 then (some p0) else (bif (Int.tmod p0.Pc 4) != 0 then (some ({ p0 with State := 2 })) else (bif decide ((List.length p0.Code : Int) ≤ (IntKind.wrap .i64 (Int.tdiv p0.Pc 4))) then (some ({ p0 with State := 2 })) else ((idx p0.Code (IntKind.wrap .i64 (Int.tdiv p0.Pc 4))).bind fun u1 => (ref02_Decode u1).bind fun y1 => bif y1.2 != 0 then (some ({ p0 with State := 2 })) else ((ref03_Machine_do p0 y1.1).bind fun y2 => bif !y2.1 then (some ({ y2.2 with State := 2 })) else (some ({ y2.2 with Steps := IntKind.wrap .i64 (y2.2.Steps + 1) }))))))

def law31_run (p0 : ref03Machine) (p1 : Int) (p2 : List Int) : Option (Int × ref03Machine) :=
  (loopM (fun (x4, x5, x6) => (bif ((x6.State == 0) && (decide (x6.Steps < p1))) then (jn (fun kk1 => (loopM (fun (x8 : Int) => (bif decide (x8 < (List.length p2 : Int)) then ((idx p2 x8).bind fun u1 => bif decide (u1 < 0) then (some (Lp.go (IntKind.wrap .i64 (x8 + 1)))) else ((idx p2 x8).bind fun u2 => bif decide (u2 < x6.Steps) then (some (Lp.go (IntKind.wrap .i64 (x8 + 1)))) else (some (Lp.brk x8)))) else (some (Lp.brk x8)) : Option (Lp (Int) (Unit)))) NN x5).bind fun o => o.thn (fun (x8 : Int) => kk1 x8) (fun _ => none)) (fun (x7 : Int) => jn (fun kk2 => bif decide (x7 < (List.length p2 : Int)) then ((idx p2 x7).bind fun u3 => bif u3 == x6.Steps then ((ref03_Machine_Fail x6).bind fun y1 => kk2 (IntKind.wrap .i64 (x4 + 1)) (IntKind.wrap .i64 (x7 + 1)) y1) else (kk2 x4 x7 x6)) else (kk2 x4 x7 x6)) (fun (x12 : Int) (x13 : Int) (x14 : ref03Machine) => (ref03_Machine_Step x14).bind fun y2 => some (Lp.go (x12, x13, y2))))) else (some (Lp.brk (x4, x5, x6))) : Option (Lp (Int × Int × ref03Machine) (Unit)))) NN ((0 : Int), (0 : Int), p0)).bind fun o => o.thn (fun (x4, x5, x6) => some (x4, x6)) (fun _ => none)

def law31_same (p0 : GPlay) (p1 : ref03Machine) (p2 : Int) : Option (Bool) :=
  bif p0.State != p1.State then (some false) else (bif p0.Exit != p1.Exit then (some false) else (bif p0.Steps != p1.Steps then (some false) else (bif p0.Fails != p2 then (some false) else (bif (List.length p0.Log : Int) != (List.length p1.Log : Int) then (some false) else ((loopM (fun (x1 : Int) => (bif decide (x1 < (List.length p0.Log : Int)) then ((idx p0.Log x1).bind fun u1 => (idx p1.Log x1).bind fun u2 => bif !((u1.Seq == u2.Seq) && (u1.Val == u2.Val)) then (some (Lp.ret false)) else (some (Lp.go (IntKind.wrap .i64 (x1 + 1))))) else (some (Lp.brk x1)) : Option (Lp (Int) (Bool)))) NN (0 : Int)).bind fun o => o.thn (fun (x1 : Int) => some true) (fun r => some r))))))

def law31_PlayOften (p0 : GImage) (p1 : List Int) (p2 : law31Fail) : Option (Bool) :=
  bif ((((decide (200 < (List.length p0.Code : Int))) || (decide (2000 < (List.length p0.Data : Int)))) || (decide (40 < (List.length p1 : Int)))) || (decide (600 < p2.N))) then ((law31_awake).bind fun y1 => some y1) else ((play_Often p0 p1 p2.First p2.Gap p2.N).bind fun y2 => jn (fun kk1 => kk1 ((decide (p2.First < 0)) || (decide (p2.Gap < 1)))) (fun (x1 : Bool) => bif x1 then ((law31_awake).bind fun y3 => some ((y3 && (y2.2 == 1)) && (y2.1.Steps == 0))) else ((ref03_May (List.length p0.Code : Int) (List.length p0.Data : Int)).bind fun y4 => bif y2.2 != y4 then (some false) else (bif y2.2 != 0 then ((law31_awake).bind fun y5 => some y5) else ((loopM (S := (List Int) × Int) (fun (x2, x3) => (bif decide (x3 ≤ 600) then ((room (List.length x2 + List.length ([x3] : List Int))).bind fun _ => bif decide (600 < p2.Gap) then (some (Lp.brk (x2 ++ ([x3] : List Int), x3))) else (some (Lp.go (x2 ++ ([x3] : List Int), IntKind.wrap .i64 (x3 + p2.Gap))))) else (some (Lp.brk (x2, x3))) : Option (Lp ((List Int) × Int) (Unit)))) NN ([], p2.First)).bind fun o => o.thn (fun (x2, x3) => (ref03_Begin p0.Code p0.Data p1).bind fun y6 => (law31_run y6 p2.N x2).bind fun y7 => (law31_awake).bind fun y8 => bif y8 then ((law31_same y2.1 y7.2 y7.1).bind fun y9 => some y9) else (some false)) (fun _ => none))))))
end Go.Proofs.YtgacfocekkckfaaGreatDoor
