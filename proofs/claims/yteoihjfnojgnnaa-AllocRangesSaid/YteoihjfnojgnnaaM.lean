/- The models of Go functions: what each computes. Printed by gen2.py. -/
import Derived.Test.YteoihjfnojgnnaaModel
import Derived.Laws.Entries
set_option linter.unusedVariables false
namespace Go.Proofs.Yteoihjfnojgnnaa
structure GSlot where
  Name : List UInt8
  Size : Int
  Align : Int
  Cell : Int
  deriving DecidableEq
structure Ins where
  Op : Int
  D : Int
  A : Int
  B : Int
  Fn : Int
  Obj : Int
  Off : Int
  Size : Int
  Num : Int
  Args : List Int
  Log : Bool
  deriving DecidableEq
structure GBlock where
  Ins : List Ins
  End : Int
  A : Int
  To : Int
  Else : Int
  deriving DecidableEq
structure Proc where
  Name : List UInt8
  Void : Bool
  Params : Int
  Regs : Int
  Objects : List GSlot
  Blocks : List GBlock
  deriving DecidableEq
structure GModule where
  Globals : List GSlot
  Data : List (List Int)
  Procs : List Proc
  Main : Int
  deriving DecidableEq
structure IrLooker where
  m : GModule
  p : Proc
  deriving DecidableEq
structure AllocReach where
  r : Int
  from_ : Int
  to : Int
  is : Bool
  deriving DecidableEq
structure AllocHolder where
  reach : AllocReach
  came : Int
  held : Bool
  deriving DecidableEq
structure Seat where
  Reg : Int
  Slot : Int
  deriving DecidableEq
structure AllocDesk where
  hold : List AllocHolder
  regs : Int
  seats : List Seat
  slots : Int
  came : Int
  deriving DecidableEq
structure ref24Reach where
  R : Int
  From : Int
  To : Int
  Is : Bool
  deriving DecidableEq


def law13_ins (p0 : Ins) : Option (Bool) :=
  (loopM (fun (x1 : Int) => (bif decide (x1 < (List.length ([p0.Op, p0.D, p0.A, p0.B, p0.Fn, p0.Obj, p0.Off, p0.Size] : List Int) : Int)) then ((idx ([p0.Op, p0.D, p0.A, p0.B, p0.Fn, p0.Obj, p0.Off, p0.Size] : List Int) x1).bind fun u1 => bif decide (1099511627776 < u1) then (some (Lp.ret false)) else ((idx ([p0.Op, p0.D, p0.A, p0.B, p0.Fn, p0.Obj, p0.Off, p0.Size] : List Int) x1).bind fun u2 => bif decide (u2 < (-1099511627776)) then (some (Lp.ret false)) else (some (Lp.go (IntKind.wrap .i64 (x1 + 1)))))) else (some (Lp.brk x1)) : Option (Lp (Int) (Bool)))) NN 0).bind fun o => o.thn (fun (x1 : Int) => (loopM (fun (x2 : Int) => (bif decide (x2 < (List.length p0.Args : Int)) then ((idx p0.Args x2).bind fun u3 => bif decide (1099511627776 < u3) then (some (Lp.ret false)) else ((idx p0.Args x2).bind fun u4 => bif decide (u4 < (-1099511627776)) then (some (Lp.ret false)) else (some (Lp.go (IntKind.wrap .i64 (x2 + 1)))))) else (some (Lp.brk x2)) : Option (Lp (Int) (Bool)))) NN 0).bind fun o => o.thn (fun (x2 : Int) => some (decide ((List.length p0.Args : Int) ≤ 12))) (fun r => some r)) (fun r => some r)

def law13_Few (p0 : GModule) : Option (Bool) :=
  bif decide (6 < (List.length p0.Procs : Int)) then (some false) else (bif decide (20 < (List.length p0.Globals : Int)) then (some false) else (bif decide (20 < (List.length p0.Data : Int)) then (some false) else ((loopM (fun (x1 : Int) => (bif decide (x1 < (List.length p0.Procs : Int)) then ((idx p0.Procs x1).bind fun u1 => bif decide (40 < (List.length u1.Blocks : Int)) then (some (Lp.ret false)) else ((idx p0.Procs x1).bind fun u2 => bif decide (20 < (List.length u2.Objects : Int)) then (some (Lp.ret false)) else ((loopM (fun (x2 : Int) => ((idx p0.Procs x1).bind fun u3 => bif decide (x2 < (List.length u3.Blocks : Int)) then ((idx p0.Procs x1).bind fun u4 => (idx u4.Blocks x2).bind fun u5 => bif decide (60 < (List.length u5.Ins : Int)) then (some (Lp.ret false)) else ((loopM (fun (x3 : Int) => ((idx p0.Procs x1).bind fun u6 => (idx u6.Blocks x2).bind fun u7 => bif decide (x3 < (List.length u7.Ins : Int)) then ((idx p0.Procs x1).bind fun u8 => (idx u8.Blocks x2).bind fun u9 => (idx u9.Ins x3).bind fun u10 => (law13_ins u10).bind fun y1 => bif !y1 then (some (Lp.ret false)) else (some (Lp.go (IntKind.wrap .i64 (x3 + 1))))) else (some (Lp.brk x3)) : Option (Lp (Int) (Bool)))) NN 0).bind fun o => o.thn (fun (x3 : Int) => some (Lp.go (IntKind.wrap .i64 (x2 + 1)))) (fun r => some (Lp.ret r)))) else (some (Lp.brk x2)) : Option (Lp (Int) (Bool)))) NN 0).bind fun o => o.thn (fun (x2 : Int) => some (Lp.go (IntKind.wrap .i64 (x1 + 1)))) (fun r => some (Lp.ret r))))) else (some (Lp.brk x1)) : Option (Lp (Int) (Bool)))) NN 0).bind fun o => o.thn (fun (x1 : Int) => some true) (fun r => some r))))

def ir_slots (p0 : List GSlot) : Option (Bool) :=
  (loopM (fun (x1 : Int) => (bif decide (x1 < (List.length p0 : Int)) then ((idx p0 x1).bind fun u1 => bif decide (u1.Size < 1) then (some (Lp.ret false)) else (bif decide (32768 < u1.Size) then (some (Lp.ret false)) else (bif u1.Align != 1 then (bif u1.Align != 4 then (some (Lp.ret false)) else (some (Lp.go (IntKind.wrap .i64 (x1 + 1))))) else (some (Lp.go (IntKind.wrap .i64 (x1 + 1))))))) else (some (Lp.brk x1)) : Option (Lp (Int) (Bool)))) NN 0).bind fun o => o.thn (fun (x1 : Int) => some true) (fun r => some r)

def ir_Size (p0 : Proc) : Option (Int) :=
  (loopM (fun (x1, x2) => (bif decide (x2 < (List.length p0.Blocks : Int)) then ((idx p0.Blocks x2).bind fun u1 => some (Lp.go (IntKind.wrap .i64 (x1 + (List.length u1.Ins : Int)), IntKind.wrap .i64 (x2 + 1)))) else (some (Lp.brk (x1, x2))) : Option (Lp (Int × Int) (Unit)))) NN ((List.length p0.Blocks : Int), 0)).bind fun o => o.thn (fun (x1, x2) => some x1) (fun _ => none)

def ir_reads (p0 : Int) : Option (Bool × Bool) :=
  jn (fun kk1 => jn (fun kk2 => jn (fun kk3 => bif p0 == 3 then (kk3 (p0 == 3)) else (kk3 (p0 == 6))) (fun (x4 : Bool) => bif x4 then (kk2 true) else (jn (fun kk4 => bif p0 == 2 then (kk4 (p0 == 2)) else (bif p0 == 4 then (kk4 (p0 == 4)) else (bif p0 == 5 then (kk4 (p0 == 5)) else (kk4 (p0 == 10))))) (fun (x5 : Bool) => bif x5 then (kk2 false) else (kk1 false false))))) (fun (x3 : Bool) => kk1 true x3)) (fun (x1 : Bool) (x2 : Bool) => some (x1, x2))

def ir_Def (p0 : Ins) : Option (Int) :=
  jn (fun kk1 => bif p0.Op == 1 then (kk1 (p0.Op == 1)) else (bif p0.Op == 2 then (kk1 (p0.Op == 2)) else (bif p0.Op == 3 then (kk1 (p0.Op == 3)) else (bif p0.Op == 4 then (kk1 (p0.Op == 4)) else (bif p0.Op == 5 then (kk1 (p0.Op == 5)) else (bif p0.Op == 7 then (kk1 (p0.Op == 7)) else (bif p0.Op == 8 then (kk1 (p0.Op == 8)) else (bif p0.Op == 9 then (kk1 (p0.Op == 9)) else (kk1 (p0.Op == 11)))))))))) (fun (x1 : Bool) => bif x1 then (some p0.D) else (some ((-1) : Int)))

def ir_plain (p0 : Ins) : Option (Ins) :=
  jn (fun kk1 => bif p0.Op == 6 then (kk1 ({ p0 with Log := false })) else ((ir_Def p0).bind fun y1 => bif y1 != (-1) then (kk1 ({ p0 with Log := false })) else (kk1 p0))) (fun (x1 : Ins) => jn (fun kk2 => bif x1.Op == 1 then (kk2 ({ x1 with D := (-1), A := (-1), B := (-1), Num := 0, Args := [] })) else (jn (fun kk3 => bif x1.Op == 3 then (kk3 (x1.Op == 3)) else (kk3 (x1.Op == 4))) (fun (x3 : Bool) => bif x3 then (kk2 ({ x1 with D := (-1), A := (-1), B := (-1), Fn := 0, Args := [] })) else (jn (fun kk4 => bif x1.Op == 6 then (kk4 (x1.Op == 6)) else (kk4 (x1.Op == 5))) (fun (x4 : Bool) => bif x4 then (kk2 (⟨x1.Op, (-1), (-1), (-1), x1.Fn, x1.Obj, 0, 0, x1.Num, [], x1.Log⟩ : Ins)) else (jn (fun kk5 => bif x1.Op == 7 then (kk5 (x1.Op == 7)) else (kk5 (x1.Op == 8))) (fun (x5 : Bool) => bif x5 then (kk2 (⟨x1.Op, (-1), (-1), (-1), x1.Fn, 0, 0, x1.Size, x1.Num, [], x1.Log⟩ : Ins)) else (bif x1.Op == 9 then (kk2 ({ x1 with D := (-1), A := (-1), B := (-1), Obj := 0, Args := [] })) else (kk2 ({ x1 with D := (-1), A := (-1), B := (-1), Args := [] })))))))))) (fun (x2 : Ins) => some x2))

def ir_bare (p0 : Ins) : Option (Bool) :=
  (ir_plain p0).bind fun y1 => bif y1.Fn == 0 then (bif y1.Obj == 0 then (bif y1.Off == 0 then (bif y1.Size == 0 then (bif y1.Num == 0 then (bif !y1.Log then (bif p0.Op == 9 then (some true) else (some ((List.length p0.Args : Int) == 0))) else (some false)) else (some false)) else (some false)) else (some false)) else (some false)) else (some false)

def ir_looker_reg (p0 : IrLooker) (p1 : Int) (p2 : Bool) : Option (Bool) :=
  bif !p2 then (some (p1 == (-1))) else (bif decide (0 ≤ p1) then (some (decide (p1 < p0.p.Regs))) else (some false))

def ir_looker_call (p0 : IrLooker) (p1 : Ins) : Option (Bool) :=
  bif decide (p1.Obj < 0) then (some false) else (bif decide ((List.length p0.m.Procs : Int) ≤ p1.Obj) then (some false) else ((idx p0.m.Procs p1.Obj).bind fun u1 => bif (List.length p1.Args : Int) != u1.Params then (some false) else ((ir_looker_reg p0 p1.D (!u1.Void)).bind fun y1 => bif !y1 then (some false) else ((loopM (fun (x1 : Int) => (bif decide (x1 < (List.length p1.Args : Int)) then ((idx p1.Args x1).bind fun u2 => (ir_looker_reg p0 u2 true).bind fun y2 => bif !y2 then (some (Lp.ret false)) else (some (Lp.go (IntKind.wrap .i64 (x1 + 1))))) else (some (Lp.brk x1)) : Option (Lp (Int) (Bool)))) NN 0).bind fun o => o.thn (fun (x1 : Int) => some true) (fun r => some r)))))

def ir_off (p0 : Int) : Option (Bool) :=
  bif decide ((-32768) ≤ p0) then (some (decide (p0 ≤ 32768))) else (some false)

def ir_looker_ins (p0 : IrLooker) (p1 : Ins) : Option (Bool) :=
  (ir_reads p1.Op).bind fun y1 => jn (fun kk1 => bif p1.Op != 6 then (bif p1.Op != 10 then (kk1 (p1.Op != 12)) else (kk1 false)) else (kk1 false)) (fun (x1 : Bool) => bif decide (p1.Op < 1) then (some false) else (bif decide (12 < p1.Op) then (some false) else ((ir_bare p1).bind fun y2 => bif !y2 then (some false) else (bif p1.Op == 9 then ((ir_looker_call p0 p1).bind fun y3 => bif y3 then ((ir_looker_reg p0 p1.A false).bind fun y4 => bif y4 then ((ir_looker_reg p0 p1.B false).bind fun y5 => some y5) else (some false)) else (some false)) else ((ir_looker_reg p0 p1.D x1).bind fun y6 => bif !y6 then (some false) else ((ir_looker_reg p0 p1.A y1.1).bind fun y7 => bif !y7 then (some false) else ((ir_looker_reg p0 p1.B y1.2).bind fun y8 => bif !y8 then (some false) else (bif p1.Op == 3 then (bif decide (1 ≤ p1.Fn) then (some (decide (p1.Fn ≤ 16))) else (some false)) else (bif p1.Op == 4 then (bif decide (17 ≤ p1.Fn) then (some (decide (p1.Fn ≤ 19))) else (some false)) else (jn (fun kk2 => bif p1.Op == 5 then (kk2 (p1.Op == 5)) else (kk2 (p1.Op == 6))) (fun (x2 : Bool) => bif x2 then (bif p1.Size == 1 then ((ir_off p1.Off).bind fun y10 => some y10) else (bif p1.Size == 4 then ((ir_off p1.Off).bind fun y9 => some y9) else (some false))) else (bif p1.Op == 7 then (bif decide (0 ≤ p1.Obj) then (bif decide (p1.Obj < (List.length p0.p.Objects : Int)) then ((ir_off p1.Off).bind fun y11 => some y11) else (some false)) else (some false)) else (bif p1.Op == 8 then (bif decide (0 ≤ p1.Obj) then (bif decide (p1.Obj < (List.length p0.m.Globals : Int)) then ((ir_off p1.Off).bind fun y12 => some y12) else (some false)) else (some false)) else (some true))))))))))))))

def ir_looker_block (p0 : IrLooker) (p1 : Int) : Option (Bool) :=
  bif decide (0 ≤ p1) then (some (decide (p1 < (List.length p0.p.Blocks : Int)))) else (some false)

def ir_looker_end (p0 : IrLooker) (p1 : GBlock) : Option (Bool) :=
  bif p1.End == 1 then ((ir_looker_block p0 p1.To).bind fun y1 => bif y1 then (bif p1.A == (-1) then (some (p1.Else == 0)) else (some false)) else (some false)) else (bif p1.End == 2 then ((ir_looker_block p0 p1.To).bind fun y2 => bif y2 then ((ir_looker_block p0 p1.Else).bind fun y3 => bif y3 then ((ir_looker_reg p0 p1.A true).bind fun y4 => some y4) else (some false)) else (some false)) else (bif p1.End == 3 then ((ir_looker_reg p0 p1.A (!p0.p.Void)).bind fun y5 => bif y5 then (bif p1.To == 0 then (some (p1.Else == 0)) else (some false)) else (some false)) else (some false)))

def ir_looker_proc (p0 : IrLooker) : Option (Bool) :=
  bif decide (p0.p.Params < 0) then (some false) else (bif decide (6 < p0.p.Params) then (some false) else (bif decide (p0.p.Regs < p0.p.Params) then (some false) else (bif decide (8000 < p0.p.Regs) then (some false) else (bif decide (400 < (List.length p0.p.Objects : Int)) then (some false) else (bif decide ((List.length p0.p.Blocks : Int) < 1) then (some false) else (bif decide (4000 < (List.length p0.p.Blocks : Int)) then (some false) else ((ir_slots p0.p.Objects).bind fun y1 => bif !y1 then (some false) else ((ir_Size p0.p).bind fun y2 => bif decide (20000 < (IntKind.wrap .i64 (y2 - (List.length p0.p.Blocks : Int)))) then (some false) else ((loopM (fun (x1 : Int) => (bif decide (x1 < (List.length p0.p.Blocks : Int)) then ((idx p0.p.Blocks x1).bind fun u1 => (loopM (fun (x2 : Int) => (bif decide (x2 < (List.length u1.Ins : Int)) then ((idx u1.Ins x2).bind fun u2 => (ir_looker_ins p0 u2).bind fun y3 => bif !y3 then (some (Lp.ret false)) else (some (Lp.go (IntKind.wrap .i64 (x2 + 1))))) else (some (Lp.brk x2)) : Option (Lp (Int) (Bool)))) NN 0).bind fun o => o.thn (fun (x2 : Int) => (ir_looker_end p0 u1).bind fun y4 => bif !y4 then (some (Lp.ret false)) else (some (Lp.go (IntKind.wrap .i64 (x1 + 1))))) (fun r => some (Lp.ret r))) else (some (Lp.brk x1)) : Option (Lp (Int) (Bool)))) NN 0).bind fun o => o.thn (fun (x1 : Int) => some true) (fun r => some r))))))))))

def ir_Proc (p0 : GModule) (p1 : Int) : Option (Int) :=
  bif decide (p1 < 0) then (some (4 : Int)) else (bif decide ((List.length p0.Procs : Int) ≤ p1) then (some (4 : Int)) else ((idx p0.Procs p1).bind fun u1 => (ir_looker_proc (⟨p0, u1⟩ : IrLooker)).bind fun y1 => bif !y1 then (some (3 : Int)) else (some (0 : Int))))

def ir_Check (p0 : GModule) : Option (Int) :=
  bif (List.length p0.Data : Int) != (List.length p0.Globals : Int) then (some (3 : Int)) else (bif decide (200 < (List.length p0.Globals : Int)) then (some (3 : Int)) else ((ir_slots p0.Globals).bind fun y1 => bif !y1 then (some (3 : Int)) else (bif decide ((List.length p0.Procs : Int) < 1) then (some (3 : Int)) else (bif decide (200 < (List.length p0.Procs : Int)) then (some (3 : Int)) else (bif decide (p0.Main < 0) then (some (3 : Int)) else (bif decide ((List.length p0.Procs : Int) ≤ p0.Main) then (some (3 : Int)) else ((loopM (fun (x1 : Int) => (bif decide (x1 < (List.length p0.Data : Int)) then ((idx p0.Data x1).bind fun u1 => (idx p0.Globals x1).bind fun u2 => bif (List.length u1 : Int) != u2.Size then (some (Lp.ret (3 : Int))) else (some (Lp.go (IntKind.wrap .i64 (x1 + 1))))) else (some (Lp.brk x1)) : Option (Lp (Int) (Int)))) NN 0).bind fun o => o.thn (fun (x1 : Int) => (idx p0.Procs p0.Main).bind fun u3 => bif u3.Params != 0 then (some (3 : Int)) else (bif u3.Void then (some (3 : Int)) else ((loopM (fun (x2 : Int) => (bif decide (x2 < (List.length p0.Procs : Int)) then ((ir_Proc p0 x2).bind fun y2 => bif y2 != 0 then (some (Lp.ret (3 : Int))) else (some (Lp.go (IntKind.wrap .i64 (x2 + 1))))) else (some (Lp.brk x2)) : Option (Lp (Int) (Int)))) NN 0).bind fun o => o.thn (fun (x2 : Int) => some (0 : Int)) (fun r => some r)))) (fun r => some r))))))))

def law17_Right (p0 : GModule) (p1 : Int) : Option (Bool) :=
  (law13_Few p0).bind fun y1 => bif y1 then (bif decide (0 ≤ p1) then (bif decide (p1 < (List.length p0.Procs : Int)) then ((idx p0.Procs p1).bind fun u1 => bif decide (u1.Regs ≤ 40) then ((ir_Check p0).bind fun y2 => some (y2 == 0)) else (some false)) else (some false)) else (some false)) else (some false)

def law24_few (p0 : GModule) (p1 : Int) : Option (Bool) :=
  (law17_Right p0 p1).bind fun y1 => bif y1 then ((idx p0.Procs p1).bind fun u1 => some (decide ((List.length u1.Blocks : Int) ≤ 12))) else (some false)

def alloc_reach_at (p0 : AllocReach) (p1 : Int) : Option (AllocReach) :=
  bif !p0.is then (some (⟨p0.r, p1, p1, true⟩ : AllocReach)) else (some ({ p0 with from_ := min p0.from_ p1, to := max p0.to p1 }))

def flow_mark (p0 : List Bool) (p1 : Int) (p2 : Bool) : Option ((List Bool)) :=
  bif decide (0 ≤ p1) then (bif decide (p1 < (List.length p0 : Int)) then ((idx p0 p1).bind fun u1 => (idx p0 p1).bind fun u2 => some (List.set p0 (Int.toNat p1) p2)) else (some p0)) else (some p0)

def flow_ended (p0 : List Bool) (p1 : GBlock) : Option ((List Bool)) :=
  bif p1.End == 2 then ((flow_mark p0 p1.A true).bind fun y2 => some y2) else (bif p1.End == 3 then ((flow_mark p0 p1.A true).bind fun y1 => some y1) else (some p0))

def ir_Outs (p0 : GBlock) : Option ((List Int)) :=
  bif p0.End == 1 then (some ([p0.To] : List Int)) else (bif p0.End == 2 then (bif p0.To == p0.Else then (some ([p0.To] : List Int)) else (bif p0.End == 2 then (some ([p0.To, p0.Else] : List Int)) else (some []))) else (bif p0.End == 2 then (some ([p0.To, p0.Else] : List Int)) else (some [])))

def flow_outs_1 (p0 : Int) (p1 : Proc) : Option (Bool) :=
  bif decide (p0 < 0) then (some true) else (some (decide ((List.length p1.Blocks : Int) ≤ p0)))

def slices_IndexFunc (p0 : List Int) (p1 : Proc) : Option (Int) :=
  (loopM (fun (x1 : Int) => (bif decide (x1 < (List.length p0 : Int)) then ((idx p0 x1).bind fun u1 => (flow_outs_1 u1 p1).bind fun y1 => bif y1 then (some (Lp.ret x1)) else (some (Lp.go (IntKind.wrap .i64 (x1 + 1))))) else (some (Lp.brk x1)) : Option (Lp (Int) (Int)))) NN 0).bind fun o => o.thn (fun (x1 : Int) => some ((-1) : Int)) (fun r => some r)

def slices_DeleteFunc (p0 : List Int) (p1 : Proc) : Option ((List Int)) :=
  (slices_IndexFunc p0 p1).bind fun y1 => bif y1 == (-1) then (some p0) else ((loopM (fun (x1, x2, x3) => (bif decide (x3 < (List.length x1 : Int)) then (jn (fun kk1 => (idx x1 x3).bind fun u1 => (flow_outs_1 u1 p1).bind fun y2 => bif !y2 then ((idx x1 x2).bind fun u2 => (idx x1 x2).bind fun u3 => kk1 (List.set x1 (Int.toNat x2) u1) (IntKind.wrap .i64 (x2 + 1))) else (kk1 x1 x2)) (fun (x4 : List Int) (x5 : Int) => some (Lp.go (x4, x5, IntKind.wrap .i64 (x3 + 1))))) else (some (Lp.brk (x1, x2, x3))) : Option (Lp ((List Int) × Int × Int) (Unit)))) NN (p0, y1, IntKind.wrap .i64 (y1 + 1))).bind fun o => o.thn (fun (x1, x2, x3) => (sub x1 x2 (List.length x1 : Int)).bind fun u4 => (sub (List.take (Int.toNat x2) x1 ++ List.replicate (List.length x1 - Int.toNat x2) 0) 0 x2).bind fun u5 => some u5) (fun _ => none))

def flow_outs (p0 : Proc) (p1 : Int) : Option ((List Int)) :=
  (idx p0.Blocks p1).bind fun u1 => (ir_Outs u1).bind fun y1 => (slices_DeleteFunc y1 p0).bind fun y2 => some y2

def flow_join (p0 : List Bool) (p1 : List Bool) : Option (Bool × (List Bool)) :=
  (loopM (fun (x1, x2, x3) => (bif decide (x3 < (List.length p1 : Int)) then (jn (fun kk1 => (idx p1 x3).bind fun u1 => bif u1 then ((idx x1 x3).bind fun u2 => bif !u2 then ((idx x1 x3).bind fun u3 => (idx x1 x3).bind fun u4 => kk1 (List.set x1 (Int.toNat x3) true) true) else (kk1 x1 x2)) else (kk1 x1 x2)) (fun (x4 : List Bool) (x5 : Bool) => some (Lp.go (x4, x5, IntKind.wrap .i64 (x3 + 1))))) else (some (Lp.brk (x1, x2, x3))) : Option (Lp ((List Bool) × Bool × Int) (Unit)))) NN (p0, false, 0)).bind fun o => o.thn (fun (x1, x2, x3) => some (x2, x1)) (fun _ => none)

def slices_Clone (p0 : List Bool) : Option ((List Bool)) :=
  (room (List.length ([] : List Bool) + List.length p0)).bind fun _ => some (([] : List Bool) ++ p0)

def ir_Uses (p0 : Ins) : Option ((List Int)) :=
  (ir_reads p0.Op).bind fun y1 => jn (fun kk1 => bif y1.1 then (bif p0.A != (-1) then ((room (List.length ([] : List Int) + List.length ([p0.A] : List Int))).bind fun _ => kk1 (([] : List Int) ++ ([p0.A] : List Int))) else (kk1 [])) else (kk1 [])) (fun (x1 : List Int) => jn (fun kk2 => bif y1.2 then (bif p0.B != (-1) then ((room (List.length x1 + List.length ([p0.B] : List Int))).bind fun _ => kk2 (x1 ++ ([p0.B] : List Int))) else (kk2 x1)) else (kk2 x1)) (fun (x2 : List Int) => jn (fun kk3 => bif p0.Op == 9 then ((loopM (fun (x4, x5) => (bif decide (x5 < (List.length p0.Args : Int)) then (jn (fun kk4 => (idx p0.Args x5).bind fun u1 => bif u1 != (-1) then ((room (List.length x4 + List.length ([u1] : List Int))).bind fun _ => kk4 (x4 ++ ([u1] : List Int))) else (kk4 x4)) (fun (x6 : List Int) => some (Lp.go (x6, IntKind.wrap .i64 (x5 + 1))))) else (some (Lp.brk (x4, x5))) : Option (Lp ((List Int) × Int) (Unit)))) NN (x2, 0)).bind fun o => o.thn (fun (x4, x5) => kk3 x4) (fun _ => none)) else (kk3 x2)) (fun (x3 : List Int) => some x3)))

def flow_before (p0 : List Bool) (p1 : Ins) : Option ((List Bool)) :=
  (ir_Def p1).bind fun y1 => (flow_mark p0 y1 false).bind fun y2 => (ir_Uses p1).bind fun y3 => (loopM (fun (x1, x2) => (bif decide (x2 < (List.length y3 : Int)) then ((idx y3 x2).bind fun u1 => (flow_mark x1 u1 true).bind fun y4 => some (Lp.go (y4, IntKind.wrap .i64 (x2 + 1)))) else (some (Lp.brk (x1, x2))) : Option (Lp ((List Bool) × Int) (Unit)))) NN (y2, 0)).bind fun o => o.thn (fun (x1, x2) => some x1) (fun _ => none)

def flow_Live (p0 : Proc) : Option ((List (List Bool)) × (List (List Bool))) :=
  (loopM (fun (x1, x2, x3) => (bif decide (x3 < (List.length p0.Blocks : Int)) then ((repl (max p0.Regs 0) false).bind fun u1 => (room (List.length x2 + 1)).bind fun _ => (room (List.length x1 + 1)).bind fun _ => some (Lp.go (x1 ++ [u1], x2 ++ [u1], IntKind.wrap .i64 (x3 + 1)))) else (some (Lp.brk (x1, x2, x3))) : Option (Lp ((List (List Bool)) × (List (List Bool)) × Int) (Unit)))) NN ([], [], 0)).bind fun o => o.thn (fun (x1, x2, x3) => (loopM (fun (x4, x5) => (bif decide (x5 < (List.length p0.Blocks : Int)) then ((idx p0.Blocks x5).bind fun u2 => (idx x4 x5).bind fun u3 => (flow_ended u3 u2).bind fun y1 => some (Lp.go (List.set x4 (Int.toNat x5) y1, IntKind.wrap .i64 (x5 + 1)))) else (some (Lp.brk (x4, x5))) : Option (Lp ((List (List Bool)) × Int) (Unit)))) NN (x1, 0)).bind fun o => o.thn (fun (x4, x5) => (loopM (fun (x6, x7, x8) => (bif x8 then ((loopM (fun (x9, x10, x11, x12) => (bif decide (0 ≤ x12) then ((flow_outs p0 x12).bind fun y2 => (loopM (fun (x13, x14) => (bif decide (x14 < (List.length y2 : Int)) then ((idx y2 x14).bind fun u4 => (idx x13 x12).bind fun u5 => (idx x10 u4).bind fun u6 => (flow_join u5 u6).bind fun y3 => some (Lp.go (List.set x13 (Int.toNat x12) y3.2, IntKind.wrap .i64 (x14 + 1)))) else (some (Lp.brk (x13, x14))) : Option (Lp ((List (List Bool)) × Int) (Unit)))) NN (x9, 0)).bind fun o => o.thn (fun (x13, x14) => (idx x13 x12).bind fun u7 => (slices_Clone u7).bind fun y4 => (idx p0.Blocks x12).bind fun u8 => (loopM (fun (x15, x16) => (bif decide (0 ≤ x16) then ((idx u8.Ins x16).bind fun u9 => (flow_before x15 u9).bind fun y5 => some (Lp.go (y5, IntKind.wrap .i64 (x16 - 1)))) else (some (Lp.brk (x15, x16))) : Option (Lp ((List Bool) × Int) (Unit)))) NN (y4, IntKind.wrap .i64 ((List.length u8.Ins : Int) - 1))).bind fun o => o.thn (fun (x15, x16) => (idx x10 x12).bind fun u10 => (flow_join u10 x15).bind fun y6 => bif y6.1 then (some (Lp.go (x13, List.set x10 (Int.toNat x12) y6.2, true, IntKind.wrap .i64 (x12 - 1)))) else (some (Lp.go (x13, List.set x10 (Int.toNat x12) y6.2, x11, IntKind.wrap .i64 (x12 - 1))))) (fun _ => none)) (fun _ => none)) else (some (Lp.brk (x9, x10, x11, x12))) : Option (Lp ((List (List Bool)) × (List (List Bool)) × Bool × Int) (Unit)))) NN (x6, x7, false, IntKind.wrap .i64 ((List.length p0.Blocks : Int) - 1))).bind fun o => o.thn (fun (x9, x10, x11, x12) => some (Lp.go (x9, x10, x11))) (fun _ => none)) else (some (Lp.brk (x6, x7, x8))) : Option (Lp ((List (List Bool)) × (List (List Bool)) × Bool) (Unit)))) NN (x4, x2, true)).bind fun o => o.thn (fun (x6, x7, x8) => some (x7, x6)) (fun _ => none)) (fun _ => none)) (fun _ => none)

def alloc_ranges (p0 : Proc) : Option ((List AllocReach)) :=
  (repl (max p0.Regs 0) (⟨0, 0, 0, false⟩ : AllocReach)).bind fun u1 => (loopM (fun (x1, x2) => (bif decide (x2 < (List.length u1 : Int)) then (jn (fun kk1 => (idx x1 x2).bind fun u2 => (idx x1 x2).bind fun u3 => bif decide (x2 < p0.Params) then ((idx (List.set x1 (Int.toNat x2) ({ u3 with r := x2 })) x2).bind fun u4 => (idx (List.set x1 (Int.toNat x2) ({ u3 with r := x2 })) x2).bind fun u5 => (alloc_reach_at u5 0).bind fun y1 => kk1 (List.set (List.set x1 (Int.toNat x2) ({ u3 with r := x2 })) (Int.toNat x2) y1)) else (kk1 (List.set x1 (Int.toNat x2) ({ u3 with r := x2 })))) (fun (x3 : List AllocReach) => some (Lp.go (x3, IntKind.wrap .i64 (x2 + 1))))) else (some (Lp.brk (x1, x2))) : Option (Lp ((List AllocReach) × Int) (Unit)))) NN (u1, 0)).bind fun o => o.thn (fun (x1, x2) => (flow_Live p0).bind fun y2 => (loopM (fun (x4, x5, x6) => (bif decide (x6 < (List.length p0.Blocks : Int)) then ((idx p0.Blocks x6).bind fun u6 => (idx y2.1 x6).bind fun u7 => (loopM (fun (x7, x8) => (bif decide (x8 < (List.length u7 : Int)) then (jn (fun kk2 => (idx u7 x8).bind fun u8 => bif u8 then ((idx x7 x8).bind fun u9 => (idx x7 x8).bind fun u10 => (alloc_reach_at u10 x5).bind fun y3 => kk2 (List.set x7 (Int.toNat x8) y3)) else (kk2 x7)) (fun (x9 : List AllocReach) => some (Lp.go (x9, IntKind.wrap .i64 (x8 + 1))))) else (some (Lp.brk (x7, x8))) : Option (Lp ((List AllocReach) × Int) (Unit)))) NN (x4, 0)).bind fun o => o.thn (fun (x7, x8) => (loopM (fun (x10, x11, x12) => (bif decide (x12 < (List.length u6.Ins : Int)) then ((idx u6.Ins x12).bind fun u11 => (ir_Uses u11).bind fun y4 => (loopM (fun (x13, x14) => (bif decide (x14 < (List.length y4 : Int)) then ((idx y4 x14).bind fun u12 => (idx x13 u12).bind fun u13 => (idx x13 u12).bind fun u14 => (alloc_reach_at u14 x11).bind fun y5 => some (Lp.go (List.set x13 (Int.toNat u12) y5, IntKind.wrap .i64 (x14 + 1)))) else (some (Lp.brk (x13, x14))) : Option (Lp ((List AllocReach) × Int) (Unit)))) NN (x10, 0)).bind fun o => o.thn (fun (x13, x14) => jn (fun kk3 => (ir_Def u11).bind fun y6 => bif y6 != (-1) then ((idx x13 y6).bind fun u15 => (idx x13 y6).bind fun u16 => (alloc_reach_at u16 (IntKind.wrap .i64 (x11 + 1))).bind fun y7 => kk3 (List.set x13 (Int.toNat y6) y7)) else (kk3 x13)) (fun (x15 : List AllocReach) => some (Lp.go (x15, IntKind.wrap .i64 (x11 + 2), IntKind.wrap .i64 (x12 + 1))))) (fun _ => none)) else (some (Lp.brk (x10, x11, x12))) : Option (Lp ((List AllocReach) × Int × Int) (Unit)))) NN (x7, x5, 0)).bind fun o => o.thn (fun (x10, x11, x12) => (idx y2.2 x6).bind fun u17 => (loopM (fun (x16, x17) => (bif decide (x17 < (List.length u17 : Int)) then (jn (fun kk4 => (idx u17 x17).bind fun u18 => bif u18 then ((idx x16 x17).bind fun u19 => (idx x16 x17).bind fun u20 => (alloc_reach_at u20 x11).bind fun y8 => kk4 (List.set x16 (Int.toNat x17) y8)) else (kk4 x16)) (fun (x18 : List AllocReach) => some (Lp.go (x18, IntKind.wrap .i64 (x17 + 1))))) else (some (Lp.brk (x16, x17))) : Option (Lp ((List AllocReach) × Int) (Unit)))) NN (x10, 0)).bind fun o => o.thn (fun (x16, x17) => some (Lp.go (x16, IntKind.wrap .i64 (x11 + 1), IntKind.wrap .i64 (x6 + 1)))) (fun _ => none)) (fun _ => none)) (fun _ => none)) else (some (Lp.brk (x4, x5, x6))) : Option (Lp ((List AllocReach) × Int × Int) (Unit)))) NN (x1, 0, 0)).bind fun o => o.thn (fun (x4, x5, x6) => some x4) (fun _ => none)) (fun _ => none)

def alloc_Assign_1 (p0 : AllocReach) : Option (Bool) :=
  some (!p0.is)

def slices_IndexFunc_2 (p0 : List AllocReach) : Option (Int) :=
  (loopM (fun (x1 : Int) => (bif decide (x1 < (List.length p0 : Int)) then ((idx p0 x1).bind fun u1 => (alloc_Assign_1 u1).bind fun y1 => bif y1 then (some (Lp.ret x1)) else (some (Lp.go (IntKind.wrap .i64 (x1 + 1))))) else (some (Lp.brk x1)) : Option (Lp (Int) (Int)))) NN 0).bind fun o => o.thn (fun (x1 : Int) => some ((-1) : Int)) (fun r => some r)

def slices_DeleteFunc_2 (p0 : List AllocReach) : Option ((List AllocReach)) :=
  (slices_IndexFunc_2 p0).bind fun y1 => bif y1 == (-1) then (some p0) else ((loopM (fun (x1, x2, x3) => (bif decide (x3 < (List.length x1 : Int)) then (jn (fun kk1 => (idx x1 x3).bind fun u1 => (alloc_Assign_1 u1).bind fun y2 => bif !y2 then ((idx x1 x2).bind fun u2 => (idx x1 x2).bind fun u3 => kk1 (List.set x1 (Int.toNat x2) u1) (IntKind.wrap .i64 (x2 + 1))) else (kk1 x1 x2)) (fun (x4 : List AllocReach) (x5 : Int) => some (Lp.go (x4, x5, IntKind.wrap .i64 (x3 + 1))))) else (some (Lp.brk (x1, x2, x3))) : Option (Lp ((List AllocReach) × Int × Int) (Unit)))) NN (p0, y1, IntKind.wrap .i64 (y1 + 1))).bind fun o => o.thn (fun (x1, x2, x3) => (sub x1 x2 (List.length x1 : Int)).bind fun u4 => (sub (List.take (Int.toNat x2) x1 ++ List.replicate (List.length x1 - Int.toNat x2) (⟨0, 0, 0, false⟩ : AllocReach)) 0 x2).bind fun u5 => some u5) (fun _ => none))

def bits_Len64 (p0 : Int) : Option (Int) :=
  jn (fun kk1 => bif decide (4294967296 ≤ p0) then (kk1 (Int.fdiv p0 (2 ^ (min (Int.toNat 32) (IntKind.bits .u64)))) (32 : Int)) else (kk1 p0 (0 : Int))) (fun (x1 : Int) (x2 : Int) => jn (fun kk2 => bif decide (65536 ≤ x1) then (kk2 (Int.fdiv x1 (2 ^ (min (Int.toNat 16) (IntKind.bits .u64)))) (IntKind.wrap .i64 (x2 + 16))) else (kk2 x1 x2)) (fun (x3 : Int) (x4 : Int) => jn (fun kk3 => bif decide (256 ≤ x3) then (kk3 (Int.fdiv x3 (2 ^ (min (Int.toNat 8) (IntKind.bits .u64)))) (IntKind.wrap .i64 (x4 + 8))) else (kk3 x3 x4)) (fun (x5 : Int) (x6 : Int) => (idx ([0, 1, 2, 2, 3, 3, 3, 3, 4, 4, 4, 4, 4, 4, 4, 4, 5, 5, 5, 5, 5, 5, 5, 5, 5, 5, 5, 5, 5, 5, 5, 5, 6, 6, 6, 6, 6, 6, 6, 6, 6, 6, 6, 6, 6, 6, 6, 6, 6, 6, 6, 6, 6, 6, 6, 6, 6, 6, 6, 6, 6, 6, 6, 6, 7, 7, 7, 7, 7, 7, 7, 7, 7, 7, 7, 7, 7, 7, 7, 7, 7, 7, 7, 7, 7, 7, 7, 7, 7, 7, 7, 7, 7, 7, 7, 7, 7, 7, 7, 7, 7, 7, 7, 7, 7, 7, 7, 7, 7, 7, 7, 7, 7, 7, 7, 7, 7, 7, 7, 7, 7, 7, 7, 7, 7, 7, 7, 7, 8, 8, 8, 8, 8, 8, 8, 8, 8, 8, 8, 8, 8, 8, 8, 8, 8, 8, 8, 8, 8, 8, 8, 8, 8, 8, 8, 8, 8, 8, 8, 8, 8, 8, 8, 8, 8, 8, 8, 8, 8, 8, 8, 8, 8, 8, 8, 8, 8, 8, 8, 8, 8, 8, 8, 8, 8, 8, 8, 8, 8, 8, 8, 8, 8, 8, 8, 8, 8, 8, 8, 8, 8, 8, 8, 8, 8, 8, 8, 8, 8, 8, 8, 8, 8, 8, 8, 8, 8, 8, 8, 8, 8, 8, 8, 8, 8, 8, 8, 8, 8, 8, 8, 8, 8, 8, 8, 8, 8, 8, 8, 8, 8, 8, 8, 8, 8, 8, 8, 8, 8, 8, 8, 8, 8, 8, 8, 8] : List UInt8) (IntKind.wrap .u8 x5)).bind fun u1 => some (IntKind.wrap .i64 (x6 + (IntKind.wrap .i64 (UInt8.toNat u1 : Int)))))))

def bits_Len (p0 : Int) : Option (Int) :=
  (bits_Len64 p0).bind fun y1 => some y1

def cmp_isNaN (p0 : Int) : Option (Bool) :=
  some (p0 != p0)

def cmp_Compare (p0 : Int) (p1 : Int) : Option (Int) :=
  (cmp_isNaN p0).bind fun y1 => (cmp_isNaN p1).bind fun y2 => bif y1 then (bif y2 then (some (0 : Int)) else (some ((-1) : Int))) else (bif y2 then (some (1 : Int)) else (bif decide (p0 < p1) then (some ((-1) : Int)) else (bif decide (p1 < p0) then (some (1 : Int)) else (some (0 : Int)))))

def cmp_Or (p0 : List Int) : Option (Int) :=
  (loopM (fun (x1 : Int) => (bif decide (x1 < (List.length p0 : Int)) then ((idx p0 x1).bind fun u1 => bif u1 != 0 then (some (Lp.ret u1)) else (some (Lp.go (IntKind.wrap .i64 (x1 + 1))))) else (some (Lp.brk x1)) : Option (Lp (Int) (Int)))) NN 0).bind fun o => o.thn (fun (x1 : Int) => some (0 : Int)) (fun r => some r)

def alloc_Assign_2 (p0 : AllocReach) (p1 : AllocReach) : Option (Int) :=
  (cmp_Compare p0.from_ p1.from_).bind fun y1 => (cmp_Compare p0.to p1.to).bind fun y2 => (cmp_Compare p0.r p1.r).bind fun y3 => (cmp_Or ([y1, y2, y3] : List Int)).bind fun y4 => some y4

def slices_insertionSortCmpFunc (p0 : List AllocReach) (p1 : Int) (p2 : Int) : Option ((List AllocReach)) :=
  (loopM (fun (x1, x2) => (bif decide (x2 < p2) then ((loopM (fun (x3, x4) => (bif decide (p1 < x4) then ((idx x3 x4).bind fun u1 => (idx x3 (IntKind.wrap .i64 (x4 - 1))).bind fun u2 => (alloc_Assign_2 u1 u2).bind fun y1 => bif decide (y1 < 0) then ((idx x3 (IntKind.wrap .i64 (x4 - 1))).bind fun u3 => (idx x3 x4).bind fun u4 => (idx x3 x4).bind fun u5 => (idx x3 x4).bind fun u6 => (idx (List.set x3 (Int.toNat x4) u3) (IntKind.wrap .i64 (x4 - 1))).bind fun u7 => (idx (List.set x3 (Int.toNat x4) u3) (IntKind.wrap .i64 (x4 - 1))).bind fun u8 => some (Lp.go (List.set (List.set x3 (Int.toNat x4) u3) (Int.toNat (IntKind.wrap .i64 (x4 - 1))) u4, IntKind.wrap .i64 (x4 - 1)))) else (some (Lp.brk (x3, x4)))) else (some (Lp.brk (x3, x4))) : Option (Lp ((List AllocReach) × Int) (Unit)))) NN (x1, x2)).bind fun o => o.thn (fun (x3, x4) => some (Lp.go (x3, IntKind.wrap .i64 (x2 + 1)))) (fun _ => none)) else (some (Lp.brk (x1, x2))) : Option (Lp ((List AllocReach) × Int) (Unit)))) NN (p0, IntKind.wrap .i64 (p1 + 1))).bind fun o => o.thn (fun (x1, x2) => some x1) (fun _ => none)

def slices_pdqsortCmpFunc (p0 : List AllocReach) (p1 : Int) (p2 : Int) (p3 : Int) : Option ((List AllocReach)) :=
  (loopM (fun (x1, x2) => (bif decide ((IntKind.wrap .i64 (x2 - x1)) ≤ 12) then ((slices_insertionSortCmpFunc p0 x1 x2).bind fun y1 => some (Lp.ret y1)) else none : Option (Lp (Int × Int) ((List AllocReach))))) NN (p1, p2)).bind fun o => o.thn (fun (x1, x2) => none) (fun r => some r)

def slices_SortFunc (p0 : List AllocReach) : Option ((List AllocReach)) :=
  (bits_Len (IntKind.wrap .u64 (List.length p0 : Int))).bind fun y1 => (slices_pdqsortCmpFunc p0 0 (List.length p0 : Int) y1).bind fun y2 => some y2

def alloc_desk_free_1 (p0 : AllocHolder) : Option (Bool) :=
  some (!p0.held)

def slices_IndexFunc_3 (p0 : List AllocHolder) : Option (Int) :=
  (loopM (fun (x1 : Int) => (bif decide (x1 < (List.length p0 : Int)) then ((idx p0 x1).bind fun u1 => (alloc_desk_free_1 u1).bind fun y1 => bif y1 then (some (Lp.ret x1)) else (some (Lp.go (IntKind.wrap .i64 (x1 + 1))))) else (some (Lp.brk x1)) : Option (Lp (Int) (Int)))) NN 0).bind fun o => o.thn (fun (x1 : Int) => some ((-1) : Int)) (fun r => some r)

def alloc_desk_free (p0 : AllocDesk) : Option (Int) :=
  (lenOk p0.hold 12).bind fun _ => (sub p0.hold 0 p0.regs).bind fun u1 => (slices_IndexFunc_3 u1).bind fun y1 => some y1

def alloc_names  : Option ((List Int)) :=
  some ([8, 9, 18, 19, 20, 21, 22, 23, 24, 25, 26, 27] : List Int)

def alloc_desk_take (p0 : AllocDesk) (p1 : Int) (p2 : AllocReach) : Option (AllocDesk) :=
  (lenOk p0.hold 12).bind fun _ => (idx p0.hold p1).bind fun u1 => (idx p0.hold p1).bind fun u2 => (alloc_names).bind fun y1 => (idx ([List.getD y1 0 0, List.getD y1 1 0, List.getD y1 2 0, List.getD y1 3 0, List.getD y1 4 0, List.getD y1 5 0, List.getD y1 6 0, List.getD y1 7 0, List.getD y1 8 0, List.getD y1 9 0, List.getD y1 10 0, List.getD y1 11 0] : List Int) p1).bind fun u3 => (idx p0.seats p2.r).bind fun u4 => (idx p0.seats p2.r).bind fun u5 => some ({ p0 with hold := List.set p0.hold (Int.toNat p1) (⟨p2, p0.came, true⟩ : AllocHolder), seats := List.set p0.seats (Int.toNat p2.r) (⟨u3, (-1)⟩ : Seat) })

def alloc_desk_last (p0 : AllocDesk) : Option (Int) :=
  (lenOk p0.hold 12).bind fun _ => (sub p0.hold 0 p0.regs).bind fun u1 => (loopM (fun (x1, x2) => (bif decide (x2 < (List.length u1 : Int)) then (jn (fun kk1 => (idx u1 x2).bind fun u2 => bif decide (x1 < 0) then (kk1 x2) else ((idx p0.hold x1).bind fun u3 => bif decide (u3.reach.to < u2.reach.to) then (kk1 x2) else ((idx p0.hold x1).bind fun u4 => bif u2.reach.to == u4.reach.to then ((idx p0.hold x1).bind fun u5 => bif decide (u5.came < u2.came) then (kk1 x2) else (kk1 x1)) else (kk1 x1)))) (fun (x3 : Int) => some (Lp.go (x3, IntKind.wrap .i64 (x2 + 1))))) else (some (Lp.brk (x1, x2))) : Option (Lp (Int × Int) (Unit)))) NN ((-1), 0)).bind fun o => o.thn (fun (x1, x2) => some x1) (fun _ => none)

def alloc_desk_slot (p0 : AllocDesk) (p1 : Int) : Option (AllocDesk) :=
  (lenOk p0.hold 12).bind fun _ => (idx p0.seats p1).bind fun u1 => (idx p0.seats p1).bind fun u2 => some ({ p0 with seats := List.set p0.seats (Int.toNat p1) (⟨0, p0.slots⟩ : Seat), slots := IntKind.wrap .i64 (p0.slots + 1) })

def alloc_desk_step (p0 : AllocDesk) (p1 : AllocReach) : Option (AllocDesk) :=
  (lenOk p0.hold 12).bind fun _ => (sub p0.hold 0 p0.regs).bind fun u1 => (loopM (fun (x2, x3) => (bif decide (x2 < (List.length u1 : Int)) then (jn (fun kk1 => (lenOk x3.hold 12).bind fun _ => (idx x3.hold x2).bind fun u2 => bif u2.held then (bif decide (u2.reach.to < p1.from_) then ((idx x3.hold x2).bind fun u3 => kk1 ({ x3 with hold := List.set x3.hold (Int.toNat x2) ({ u3 with held := false }) })) else (kk1 x3)) else (kk1 x3)) (fun (x5 : AllocDesk) => some (Lp.go (IntKind.wrap .i64 (x2 + 1), x5)))) else (some (Lp.brk (x2, x3))) : Option (Lp (Int × AllocDesk) (Unit)))) NN (0, { p0 with came := IntKind.wrap .i64 (p0.came + 1) })).bind fun o => o.thn (fun (x2, x3) => (alloc_desk_free x3).bind fun y1 => bif decide (0 ≤ y1) then ((alloc_desk_take x3 y1 p1).bind fun y2 => some y2) else ((alloc_desk_last x3).bind fun y3 => bif decide (y3 < 0) then ((alloc_desk_slot x3 p1.r).bind fun y7 => some y7) else ((lenOk x3.hold 12).bind fun _ => (idx x3.hold y3).bind fun u4 => bif decide (u4.reach.to ≤ p1.to) then ((alloc_desk_slot x3 p1.r).bind fun y4 => some y4) else ((idx x3.hold y3).bind fun u5 => (alloc_desk_slot x3 u5.reach.r).bind fun y5 => (alloc_desk_take y5 y3 p1).bind fun y6 => some y6)))) (fun _ => none)

def alloc_Assign (p0 : Proc) (p1 : Int) : Option ((List Seat) × Int × Int) :=
  bif decide (p1 < 0) then (some ([], (0 : Int), (1 : Int))) else (bif decide (12 < p1) then (some ([], (0 : Int), (1 : Int))) else ((alloc_ranges p0).bind fun y1 => (loopM (fun (x2, x3) => (bif decide (x2 < (List.length y1 : Int)) then ((lenOk x3.hold 12).bind fun _ => (room (List.length x3.seats + List.length ([(⟨0, (-1)⟩ : Seat)] : List Seat))).bind fun _ => some (Lp.go (IntKind.wrap .i64 (x2 + 1), { x3 with seats := x3.seats ++ ([(⟨0, (-1)⟩ : Seat)] : List Seat) }))) else (some (Lp.brk (x2, x3))) : Option (Lp (Int × AllocDesk) (Unit)))) NN (0, (⟨List.replicate 12 (⟨(⟨0, 0, 0, false⟩ : AllocReach), 0, false⟩ : AllocHolder), p1, [], 0, 0⟩ : AllocDesk))).bind fun o => o.thn (fun (x2, x3) => (slices_DeleteFunc_2 y1).bind fun y2 => (slices_SortFunc y2).bind fun y3 => (loopM (fun (x5, x6) => (bif decide (x5 < (List.length y3 : Int)) then ((idx y3 x5).bind fun u1 => (alloc_desk_step x6 u1).bind fun y4 => some (Lp.go (IntKind.wrap .i64 (x5 + 1), y4))) else (some (Lp.brk (x5, x6))) : Option (Lp (Int × AllocDesk) (Unit)))) NN (0, x3)).bind fun o => o.thn (fun (x5, x6) => (lenOk x6.hold 12).bind fun _ => some (x6.seats, x6.slots, (0 : Int))) (fun _ => none)) (fun _ => none)))

def law24_awake  : Option (Bool) :=
  (alloc_Assign (⟨([] : List UInt8), true, 0, 3, [], ([(⟨([(⟨11, 0, (-1), (-1), 0, 0, 0, 0, 0, [], false⟩ : Ins), (⟨11, 1, (-1), (-1), 0, 0, 0, 0, 0, [], false⟩ : Ins), (⟨3, 2, 0, 1, 1, 0, 0, 0, 0, [], false⟩ : Ins), (⟨10, (-1), 2, (-1), 0, 0, 0, 0, 0, [], false⟩ : Ins)] : List Ins), 3, (-1), 0, 0⟩ : GBlock)] : List GBlock)⟩ : Proc) 12).bind fun y1 => bif y1.2.2 == 0 then (bif y1.2.1 == 0 then (bif (List.length y1.1 : Int) == 3 then ((idx y1.1 0).bind fun u1 => bif u1.Reg == 8 then ((idx y1.1 1).bind fun u2 => bif u2.Reg == 9 then ((idx y1.1 2).bind fun u3 => some (u3.Reg == 8)) else (some false)) else (some false)) else (some false)) else (some false)) else (some false)

def alloc_Range (p0 : Proc) (p1 : Int) : Option (Int × Int × Bool) :=
  bif decide (p1 < 0) then (some ((0 : Int), (0 : Int), false)) else (bif decide (p0.Regs ≤ p1) then (some ((0 : Int), (0 : Int), false)) else ((alloc_ranges p0).bind fun y1 => (idx y1 p1).bind fun u1 => some (u1.from_, u1.to, u1.is)))

def ref24_with (p0 : ref24Reach) (p1 : Int) : Option (ref24Reach) :=
  bif !p0.Is then (some (⟨p0.R, p1, p1, true⟩ : ref24Reach)) else (some (⟨p0.R, min p0.From p1, max p0.To p1, true⟩ : ref24Reach))

def ref13_fields (p0 : Int) : Option ((List Bool)) :=
  bif decide (p0 < 1) then (some []) else (bif decide (12 < p0) then (some []) else ((idx ([[], ([true, false, false, false, false, false, false, true, false, true] : List Bool), ([true, true, false, false, false, false, false, false, false, true] : List Bool), ([true, true, true, true, false, false, false, false, false, true] : List Bool), ([true, true, false, true, false, false, false, false, false, true] : List Bool), ([true, true, false, false, false, true, true, false, false, true] : List Bool), ([false, true, true, false, false, true, true, false, false, true] : List Bool), ([true, false, false, false, true, true, false, false, false, true] : List Bool), ([true, false, false, false, true, true, false, false, false, true] : List Bool), ([true, false, false, false, true, false, false, false, true, true] : List Bool), ([false, true, false, false, false, false, false, false, false, false] : List Bool), ([true, false, false, false, false, false, false, false, false, true] : List Bool), ([false, false, false, false, false, false, false, false, false, false] : List Bool)] : List (List Bool)) p0).bind fun u1 => some u1))

def ref13_Uses (p0 : Ins) : Option ((List Int)) :=
  (ref13_fields p0.Op).bind fun y1 => jn (fun kk1 => bif decide (0 < (List.length y1 : Int)) then ((idx y1 1).bind fun u1 => bif u1 then (bif p0.A != (-1) then ((room (List.length ([] : List Int) + List.length ([p0.A] : List Int))).bind fun _ => kk1 (([] : List Int) ++ ([p0.A] : List Int))) else (kk1 [])) else (kk1 [])) else (kk1 [])) (fun (x1 : List Int) => jn (fun kk2 => bif decide (0 < (List.length y1 : Int)) then ((idx y1 2).bind fun u2 => bif u2 then (bif p0.B != (-1) then ((room (List.length x1 + List.length ([p0.B] : List Int))).bind fun _ => kk2 (x1 ++ ([p0.B] : List Int))) else (kk2 x1)) else (kk2 x1)) else (kk2 x1)) (fun (x2 : List Int) => (loopM (fun (x3, x4) => (bif decide (0 < (List.length y1 : Int)) then ((idx y1 8).bind fun u3 => bif u3 then (bif decide (x4 < (List.length p0.Args : Int)) then (jn (fun kk3 => (idx p0.Args x4).bind fun u4 => bif u4 != (-1) then ((idx p0.Args x4).bind fun u5 => (room (List.length x3 + List.length ([u5] : List Int))).bind fun _ => kk3 (x3 ++ ([u5] : List Int))) else (kk3 x3)) (fun (x5 : List Int) => some (Lp.go (x5, IntKind.wrap .i64 (x4 + 1))))) else (some (Lp.brk (x3, x4)))) else (some (Lp.brk (x3, x4)))) else (some (Lp.brk (x3, x4))) : Option (Lp ((List Int) × Int) (Unit)))) NN (x2, 0)).bind fun o => o.thn (fun (x3, x4) => some x3) (fun _ => none)))

def ref16_has (p0 : List Int) (p1 : Int) : Option (Bool) :=
  (loopM (fun (x1 : Int) => (bif decide (x1 < (List.length p0 : Int)) then ((idx p0 x1).bind fun u1 => bif u1 == p1 then (some (Lp.ret true)) else (some (Lp.go (IntKind.wrap .i64 (x1 + 1))))) else (some (Lp.brk x1)) : Option (Lp (Int) (Bool)))) NN 0).bind fun o => o.thn (fun (x1 : Int) => some false) (fun r => some r)

def ref13_Def (p0 : Ins) : Option (Int) :=
  (ref13_fields p0.Op).bind fun y1 => bif (List.length y1 : Int) == 0 then (some ((-1) : Int)) else ((idx y1 0).bind fun u1 => bif !u1 then (some ((-1) : Int)) else (some p0.D))

def ref16_within (p0 : GBlock) (p1 : Int) (p2 : Int) : Option (Int) :=
  (loopM (fun (x1 : Int) => (bif decide (x1 < (List.length p0.Ins : Int)) then ((idx p0.Ins x1).bind fun u1 => (ref13_Uses u1).bind fun y1 => (ref16_has y1 p2).bind fun y2 => bif y2 then (some (Lp.ret (1 : Int))) else ((idx p0.Ins x1).bind fun u2 => (ref13_Def u2).bind fun y3 => bif y3 == p2 then (some (Lp.ret (2 : Int))) else (some (Lp.go (IntKind.wrap .i64 (x1 + 1)))))) else (some (Lp.brk x1)) : Option (Lp (Int) (Int)))) NN p1).bind fun o => o.thn (fun (x1 : Int) => bif p0.End == 2 then (bif p0.A == p2 then (some (1 : Int)) else (some (0 : Int))) else (bif p0.End == 3 then (bif p0.A == p2 then (some (1 : Int)) else (some (0 : Int))) else (some (0 : Int)))) (fun r => some r)

def ref13_Outs (p0 : GBlock) : Option ((List Int)) :=
  jn (fun kk1 => bif p0.End == 1 then ((room (List.length ([] : List Int) + List.length ([p0.To] : List Int))).bind fun _ => kk1 (([] : List Int) ++ ([p0.To] : List Int))) else (bif p0.End == 2 then ((room (List.length ([] : List Int) + List.length ([p0.To] : List Int))).bind fun _ => kk1 (([] : List Int) ++ ([p0.To] : List Int))) else (kk1 []))) (fun (x1 : List Int) => jn (fun kk2 => bif p0.End == 2 then (bif p0.Else != p0.To then ((room (List.length x1 + List.length ([p0.Else] : List Int))).bind fun _ => kk2 (x1 ++ ([p0.Else] : List Int))) else (kk2 x1)) else (kk2 x1)) (fun (x2 : List Int) => some x2))

def ref16_Outs (p0 : Proc) (p1 : Int) : Option ((List Int)) :=
  (idx p0.Blocks p1).bind fun u1 => (ref13_Outs u1).bind fun y1 => (loopM (fun (x1, x2) => (bif decide (x2 < (List.length y1 : Int)) then (jn (fun kk1 => (idx y1 x2).bind fun u2 => bif decide (0 ≤ u2) then ((idx y1 x2).bind fun u3 => bif decide (u3 < (List.length p0.Blocks : Int)) then ((idx y1 x2).bind fun u4 => (room (List.length x1 + List.length ([u4] : List Int))).bind fun _ => kk1 (x1 ++ ([u4] : List Int))) else (kk1 x1)) else (kk1 x1)) (fun (x3 : List Int) => some (Lp.go (x3, IntKind.wrap .i64 (x2 + 1))))) else (some (Lp.brk (x1, x2))) : Option (Lp ((List Int) × Int) (Unit)))) NN ([], 0)).bind fun o => o.thn (fun (x1, x2) => some x1) (fun _ => none)

def ref16_Live (p0 : Proc) (p1 : Int) (p2 : Int) (p3 : Int) : Option (Bool) :=
  (idx p0.Blocks p1).bind fun u1 => (ref16_within u1 p2 p3).bind fun y1 => bif decide (0 < y1) then (some (y1 == 1)) else ((repl (List.length p0.Blocks : Int) false).bind fun u2 => (ref16_Outs p0 p1).bind fun y2 => (loopM (fun (x1, x2, x3) => (bif decide (x3 < (List.length x2 : Int)) then (jn (fun kk1 => (idx x2 x3).bind fun u3 => (idx x1 u3).bind fun u4 => bif u4 then (kk1 x1 x2) else ((idx x1 u3).bind fun u5 => (idx x1 u3).bind fun u6 => (idx p0.Blocks u3).bind fun u7 => (ref16_within u7 0 p3).bind fun y3 => bif y3 == 1 then (some (Lp.ret true)) else (bif y3 == 0 then ((ref16_Outs p0 u3).bind fun y4 => (loopM (fun (x6, x7) => (bif decide (x7 < (List.length y4 : Int)) then ((idx y4 x7).bind fun u8 => (room (List.length x6 + List.length ([u8] : List Int))).bind fun _ => some (Lp.go (x6 ++ ([u8] : List Int), IntKind.wrap .i64 (x7 + 1)))) else (some (Lp.brk (x6, x7))) : Option (Lp ((List Int) × Int) (Unit)))) NN (x2, 0)).bind fun o => o.thn (fun (x6, x7) => kk1 (List.set x1 (Int.toNat u3) true) x6) (fun _ => none)) else (kk1 (List.set x1 (Int.toNat u3) true) x2)))) (fun (x4 : List Bool) (x5 : List Int) => some (Lp.go (x4, x5, IntKind.wrap .i64 (x3 + 1))))) else (some (Lp.brk (x1, x2, x3))) : Option (Lp ((List Bool) × (List Int) × Int) (Bool)))) NN (u2, y2, 0)).bind fun o => o.thn (fun (x1, x2, x3) => some false) (fun r => some r))

def ref24_Range (p0 : Proc) (p1 : Int) : Option (ref24Reach) :=
  jn (fun kk1 => bif decide (p1 < p0.Params) then ((ref24_with (⟨p1, 0, 0, false⟩ : ref24Reach) 0).bind fun y1 => kk1 y1) else (kk1 (⟨p1, 0, 0, false⟩ : ref24Reach))) (fun (x1 : ref24Reach) => (loopM (fun (x2, x3, x4) => (bif decide (x3 < (List.length p0.Blocks : Int)) then ((idx p0.Blocks x3).bind fun u1 => jn (fun kk2 => (ref16_Live p0 x3 0 p1).bind fun y2 => bif y2 then ((ref24_with x4 x2).bind fun y3 => kk2 y3) else (kk2 x4)) (fun (x5 : ref24Reach) => (loopM (fun (x6, x7, x8) => (bif decide (x7 < (List.length u1.Ins : Int)) then ((idx u1.Ins x7).bind fun u2 => (ref13_Uses u2).bind fun y4 => (loopM (fun (x9, x10) => (bif decide (x9 < (List.length y4 : Int)) then (jn (fun kk3 => (idx y4 x9).bind fun u3 => bif u3 == p1 then ((ref24_with x10 x6).bind fun y5 => kk3 y5) else (kk3 x10)) (fun (x11 : ref24Reach) => some (Lp.go (IntKind.wrap .i64 (x9 + 1), x11)))) else (some (Lp.brk (x9, x10))) : Option (Lp (Int × ref24Reach) (Unit)))) NN (0, x8)).bind fun o => o.thn (fun (x9, x10) => jn (fun kk4 => (idx u1.Ins x7).bind fun u4 => (ref13_Def u4).bind fun y6 => bif y6 == p1 then ((ref24_with x10 (IntKind.wrap .i64 (x6 + 1))).bind fun y7 => kk4 y7) else (kk4 x10)) (fun (x12 : ref24Reach) => some (Lp.go (IntKind.wrap .i64 (x6 + 2), IntKind.wrap .i64 (x7 + 1), x12)))) (fun _ => none)) else (some (Lp.brk (x6, x7, x8))) : Option (Lp (Int × Int × ref24Reach) (Unit)))) NN (x2, 0, x5)).bind fun o => o.thn (fun (x6, x7, x8) => jn (fun kk5 => (ref16_Live p0 x3 (List.length u1.Ins : Int) p1).bind fun y8 => bif y8 then ((ref24_with x8 x6).bind fun y9 => kk5 y9) else (kk5 x8)) (fun (x13 : ref24Reach) => some (Lp.go (IntKind.wrap .i64 (x6 + 1), IntKind.wrap .i64 (x3 + 1), x13)))) (fun _ => none))) else (some (Lp.brk (x2, x3, x4))) : Option (Lp (Int × Int × ref24Reach) (Unit)))) NN (0, 0, x1)).bind fun o => o.thn (fun (x2, x3, x4) => some x4) (fun _ => none))

def law24_AllocRanges (p0 : GModule) (p1 : Int) : Option (Bool) :=
  (law24_few p0 p1).bind fun y1 => bif !y1 then ((law24_awake).bind fun y2 => some y2) else ((idx p0.Procs p1).bind fun u1 => (loopM (fun (x1 : Int) => (bif decide (x1 ≤ u1.Regs) then ((alloc_Range u1 x1).bind fun y3 => jn (fun kk1 => bif decide (0 ≤ x1) then (bif decide (x1 < u1.Regs) then ((ref24_Range u1 x1).bind fun y4 => kk1 y4) else (kk1 (⟨0, 0, 0, false⟩ : ref24Reach))) else (kk1 (⟨0, 0, 0, false⟩ : ref24Reach))) (fun (x2 : ref24Reach) => bif y3.1 != x2.From then (some (Lp.ret false)) else (bif y3.2.1 != x2.To then (some (Lp.ret false)) else (bif !(y3.2.2 == x2.Is) then (some (Lp.ret false)) else (some (Lp.go (IntKind.wrap .i64 (x1 + 1)))))))) else (some (Lp.brk x1)) : Option (Lp (Int) (Bool)))) NN (-1)).bind fun o => o.thn (fun (x1 : Int) => (law24_awake).bind fun y5 => some y5) (fun r => some r))
end Go.Proofs.Yteoihjfnojgnnaa
