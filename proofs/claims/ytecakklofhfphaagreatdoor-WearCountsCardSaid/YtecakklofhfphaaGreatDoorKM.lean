/- The models of Go functions: what each computes. Printed by gen2.py. -/
import Derived.Test.YtecakklofhfphaaGreatDoorKModel
import Derived.Laws.Entries
import Derived.Test.YtecakklofhfphaaGreatDoorKSd
set_option linter.unusedVariables false
namespace Go.Proofs.YtecakklofhfphaaGreatDoor

def Q0g:Option Bool:=some true
structure J4 where
  name:List UInt8
  form:Int
  code:Int
  third:Int
  seventh:Int
  deriving DecidableEq
structure V4 where
  Op:Int
  Rd:Int
  Rs1:Int
  Rs2:Int
  Imm:Int
  deriving DecidableEq
structure X8 where
  Code:List Int
  Data:List Int
  Limit:Int
  Notes:Int
  deriving DecidableEq
structure I2 where
  L:List Int
  N:Int
  deriving DecidableEq
structure Z7 where
  Part:List Int
  Words:List Int
  Most:Int
  Steps:Int
  Fails:Int
  deriving DecidableEq
structure Y7 where
  seen:Bool
  is:Bool
  inst:V4
  deriving DecidableEq
structure Q1n where
  regs:List Int
  pc:Int
  seq:Int
  index:Int
  deriving DecidableEq
structure K8 where
  Seq:Int
  Val:Int
  deriving DecidableEq
structure Q1 where
  volatile:Q1n
  code:List Int
  met:List Y7
  data:List Int
  inputs:List Int
  log:List K8
  steps:Int
  state:Int
  exit:Int
  deriving DecidableEq
structure Y5 where
  Part:List Int
  Words:List Int
  Most:Int
  Steps:Int
  Fails:Int
  deriving DecidableEq
structure Q0 where
  Code:List Int
  Data:List Int
  Inputs:List Int
  Regs:List Int
  Pc:Int
  Seq:Int
  Index:Int
  Log:List K8
  Steps:Int
  State:Int
  Exit:Int
  deriving DecidableEq
def tbl1:List J4:=([⟨([]:List UInt8),0,0,0,0⟩,⟨([108,117,105]:List UInt8),85,55,0,0⟩,⟨([97,117,105,112,99]:List UInt8),85,23,0,0⟩,⟨([106,97,108]:List UInt8),74,111,0,0⟩,⟨([106,97,108,114]:List UInt8),73,103,0,0⟩,⟨([98,101,113]:List UInt8),66,99,0,0⟩,⟨([98,110,101]:List UInt8),66,99,1,0⟩,⟨([98,108,116]:List UInt8),66,99,4,0⟩,⟨([98,103,101]:List UInt8),66,99,5,0⟩,⟨([98,108,116,117]:List UInt8),66,99,6,0⟩,⟨([98,103,101,117]:List UInt8),66,99,7,0⟩,⟨([108,98]:List UInt8),73,3,0,0⟩,⟨([108,104]:List UInt8),73,3,1,0⟩,⟨([108,119]:List UInt8),73,3,2,0⟩,⟨([108,98,117]:List UInt8),73,3,4,0⟩,⟨([108,104,117]:List UInt8),73,3,5,0⟩,⟨([115,98]:List UInt8),83,35,0,0⟩,⟨([115,104]:List UInt8),83,35,1,0⟩,⟨([115,119]:List UInt8),83,35,2,0⟩,⟨([97,100,100,105]:List UInt8),73,19,0,0⟩,⟨([115,108,116,105]:List UInt8),73,19,2,0⟩,⟨([115,108,116,105,117]:List UInt8),73,19,3,0⟩,⟨([120,111,114,105]:List UInt8),73,19,4,0⟩,⟨([111,114,105]:List UInt8),73,19,6,0⟩,⟨([97,110,100,105]:List UInt8),73,19,7,0⟩,⟨([115,108,108,105]:List UInt8),72,19,1,0⟩,⟨([115,114,108,105]:List UInt8),72,19,5,0⟩,⟨([115,114,97,105]:List UInt8),72,19,5,32⟩,⟨([97,100,100]:List UInt8),82,51,0,0⟩,⟨([115,117,98]:List UInt8),82,51,0,32⟩,⟨([115,108,108]:List UInt8),82,51,1,0⟩,⟨([115,108,116]:List UInt8),82,51,2,0⟩,⟨([115,108,116,117]:List UInt8),82,51,3,0⟩,⟨([120,111,114]:List UInt8),82,51,4,0⟩,⟨([115,114,108]:List UInt8),82,51,5,0⟩,⟨([115,114,97]:List UInt8),82,51,5,32⟩,⟨([111,114]:List UInt8),82,51,6,0⟩,⟨([97,110,100]:List UInt8),82,51,7,0⟩,⟨([109,117,108]:List UInt8),82,51,0,1⟩,⟨([109,117,108,104]:List UInt8),82,51,1,1⟩,⟨([109,117,108,104,115,117]:List UInt8),82,51,2,1⟩,⟨([109,117,108,104,117]:List UInt8),82,51,3,1⟩,⟨([100,105,118]:List UInt8),82,51,4,1⟩,⟨([100,105,118,117]:List UInt8),82,51,5,1⟩,⟨([114,101,109]:List UInt8),82,51,6,1⟩,⟨([114,101,109,117]:List UInt8),82,51,7,1⟩]:List J4)


def S5  : Option ((List J4)) :=
  some tbl1

def Q7f (p0:Int):Option (J4) :=
  bif decide (p0 < 0) then (some (⟨([]:List UInt8),0,0,0,0⟩:J4)) else (bif decide (46≤p0) then (some (⟨([]:List UInt8),0,0,0,0⟩:J4)) else ((S5).bind fun y1=>(J0 y1 46).bind fun _=>(idx y1 p0).bind fun u1=>some u1))

def Y6 (p0:Int) (p1:Int) (p2:Int):Option (Int) :=
  (nn p1).bind fun _=>(nn p2).bind fun _=>some (bits .and .u32 (Int.fdiv p0 (2 ^ (min (Int.toNat p1) (IntKind.bits .u32)))) (IntKind.wrap .u32 ((IntKind.wrap .u32 (1 * 2 ^ (min (Int.toNat p2) (IntKind.bits .u32)))) - 1)))

def Q2s (p0:J4) (p1:Int):Option (Bool) :=
  bif (bits .and .u32 p1 127) != p0.code then (some false) else (bif p0.form == 85 then (some true) else (bif p0.form == 74 then (some true) else ((Y6 p1 12 3).bind fun y1=>bif y1 != p0.third then (some false) else (bif p0.form != 82 then (bif p0.form != 72 then (some true) else (some ((Int.fdiv p1 (2 ^ (min (Int.toNat 25) (IntKind.bits .u32)))) == p0.seventh))) else (some ((Int.fdiv p1 (2 ^ (min (Int.toNat 25) (IntKind.bits .u32)))) == p0.seventh))))))

def G0 (p0:Int) (p1:Int):Option (Int) :=
  bif decide (p1 < 1) then (some p0) else (bif decide (31 < p1) then (some p0) else ((nn (IntKind.wrap .i64 (32 - p1))).bind fun _=>(nn (IntKind.wrap .i64 (32 - p1))).bind fun _=>some (IntKind.wrap .u32 (Int.fdiv (IntKind.wrap .i32 (IntKind.wrap .u32 (p0 * 2 ^ (min (Int.toNat (IntKind.wrap .i64 (32 - p1))) (IntKind.bits .u32))))) (2 ^ (min (Int.toNat (IntKind.wrap .i64 (32 - p1))) (IntKind.bits .i32)))))))

def J3 (p0:Int) (p1:Int):Option (Int) :=
  bif p0 == 85 then (some (IntKind.wrap .i64 (IntKind.wrap .i32 (bits .andNot .u32 p1 4095)))) else (bif p0 == 74 then ((Y6 p1 31 1).bind fun y1=>(Y6 p1 21 10).bind fun y2=>(Y6 p1 20 1).bind fun y3=>(Y6 p1 12 8).bind fun y4=>(G0 (bits .or .u32 (bits .or .u32 (bits .or .u32 (IntKind.wrap .u32 (y1 * 2 ^ (min (Int.toNat 20) (IntKind.bits .u32)))) (IntKind.wrap .u32 (y2 * 2 ^ (min (Int.toNat 1) (IntKind.bits .u32))))) (IntKind.wrap .u32 (y3 * 2 ^ (min (Int.toNat 11) (IntKind.bits .u32))))) (IntKind.wrap .u32 (y4 * 2 ^ (min (Int.toNat 12) (IntKind.bits .u32))))) 21).bind fun y5=>some (IntKind.wrap .i64 (IntKind.wrap .i32 y5))) else (bif p0 == 73 then (some (IntKind.wrap .i64 (Int.fdiv (IntKind.wrap .i32 p1) (2 ^ (min (Int.toNat 20) (IntKind.bits .i32)))))) else (bif p0 == 72 then ((Y6 p1 20 5).bind fun y6=>some (IntKind.wrap .i64 y6)) else (bif p0 == 83 then ((Y6 p1 25 7).bind fun y7=>(Y6 p1 7 5).bind fun y8=>(G0 (bits .or .u32 (IntKind.wrap .u32 (y7 * 2 ^ (min (Int.toNat 5) (IntKind.bits .u32)))) y8) 12).bind fun y9=>some (IntKind.wrap .i64 (IntKind.wrap .i32 y9))) else (bif p0 == 66 then ((Y6 p1 31 1).bind fun y10=>(Y6 p1 25 6).bind fun y11=>(Y6 p1 8 4).bind fun y12=>(Y6 p1 7 1).bind fun y13=>(G0 (bits .or .u32 (bits .or .u32 (bits .or .u32 (IntKind.wrap .u32 (y10 * 2 ^ (min (Int.toNat 12) (IntKind.bits .u32)))) (IntKind.wrap .u32 (y11 * 2 ^ (min (Int.toNat 5) (IntKind.bits .u32))))) (IntKind.wrap .u32 (y12 * 2 ^ (min (Int.toNat 1) (IntKind.bits .u32))))) (IntKind.wrap .u32 (y13 * 2 ^ (min (Int.toNat 11) (IntKind.bits .u32))))) 13).bind fun y14=>some (IntKind.wrap .i64 (IntKind.wrap .i32 y14))) else (some (0:Int)))))))

def Q3k (p0:Int):Option (Bool×Bool×Bool×Bool) :=
  jn (fun kk1=>jn (fun kk2=>jn (fun kk3=>bif p0 == 82 then (kk3 true false) else (jn (fun kk4=>bif p0 == 73 then (kk4 (p0 == 73)) else (kk4 (p0 == 72))) (fun(x10:Bool)=>bif x10 then (kk3 false true) else (jn (fun kk5=>bif p0 == 85 then (kk5 (p0 == 85)) else (kk5 (p0 == 74))) (fun(x11:Bool)=>bif x11 then (kk2 false false true) else (jn (fun kk6=>bif p0 == 83 then (kk6 (p0 == 83)) else (kk6 (p0 == 66))) (fun(x12:Bool)=>bif x12 then (kk1 false true true true) else (kk1 false false false true)))))))) (fun(x8:Bool) (x9:Bool)=>kk2 true x8 x9)) (fun(x5:Bool) (x6:Bool) (x7:Bool)=>kk1 true x5 x6 x7)) (fun(x1:Bool) (x2:Bool) (x3:Bool) (x4:Bool)=>some (x1,x2,x3,x4))

def E6 (p0:Int):Option (V4×Int) :=
  (S5).bind fun y1=>(J0 y1 46).bind fun _=>(Y9 (fun(x1:Int)=>(bif decide (x1≤45) then ((idx y1 x1).bind fun u1=>(Q2s u1 p0).bind fun y2=>bif !y2 then (some (Lp.go (IntKind.wrap .i64 (x1+1)))) else ((J3 u1.form p0).bind fun y3=>(Q3k u1.form).bind fun y4=>jn (fun kk1=>bif y4.1 then ((Y6 p0 7 5).bind fun y5=>kk1 (⟨x1,IntKind.wrap .i64 y5,0,0,y3⟩:V4)) else (kk1 (⟨x1,0,0,0,y3⟩:V4))) (fun(x2:V4)=>jn (fun kk2=>bif y4.2.1 then ((Y6 p0 15 5).bind fun y6=>kk2 ({x2 with Rs1:=IntKind.wrap .i64 y6})) else (kk2 x2)) (fun(x3:V4)=>jn (fun kk3=>bif y4.2.2.1 then ((Y6 p0 20 5).bind fun y7=>kk3 ({x3 with Rs2:=IntKind.wrap .i64 y7})) else (kk3 x3)) (fun(x4:V4)=>some (Lp.ret (x4,(0:Int)))))))) else (some (Lp.brk x1)):Option (Lp (Int) (V4×Int)))) NN (1:Int)).bind fun o=>o.thn (fun(x1:Int)=>some ((⟨0,0,0,0,0⟩:V4),(3:Int))) (fun r=>some r)

def M7 (p0:List Int):Option ((List Int)) :=
  (room (List.length ([]:List Int)+List.length p0)).bind fun _=>some (([]:List Int)++p0)

def N6 (p0:List Int):Option ((List Int)) :=
  (room (List.length ([]:List Int)+List.length p0)).bind fun _=>some (([]:List Int)++p0)

def A6 (p0:List Int) (p1:List Int) (p2:List Int):Option (Except (Q1×Int) (Int)) :=
  bif (((((decide ((List.length p0:Int) < 1)) || (decide (32768 < (List.length p0:Int)))) || (decide ((List.length p1:Int) < 4))) || (decide (65536 < (List.length p1:Int)))) || ((Int.tmod (List.length p1:Int) 4) != 0)) then (some (Except.ok (1:Int))) else ((M7 p0).bind fun y1=>(Q3w (List.length p0:Int) (⟨false,false,(⟨0,0,0,0,0⟩:V4)⟩:Y7)).bind fun u1=>(N6 p1).bind fun y2=>(M7 p2).bind fun y3=>some (Except.error ((⟨(⟨List.replicate 32 0,0,0,0⟩:Q1n),y1,u1,y2,y3,[],0,0,0⟩:Q1),(0:Int))))

def S6 (p0:X8) (p1:List Int):Option (Except (Q1×Int) (Int)) :=
  (A6 p0.Code p0.Data p1).bind fun y1=>exC y1 (fun y1=>some (Except.ok y1)) (fun e1=>some (Except.error (e1.1,e1.2)))

def Q5u (p0:X8) (p1:Q1) (p2:List Int) (p3:Int) (p4:Int):Option (Int×(List Int)×X8) :=
  some (p3,p2,p0)

def V6 (p0:Q1):Option (Int) :=
  (J0 p0.volatile.regs 32).bind fun _=>some p0.state

def Y1 (p0:Q1):Option (Int) :=
  (J0 p0.volatile.regs 32).bind fun _=>some p0.steps

def G1 (p0:Q1):Option (Q1) :=
  (J0 p0.volatile.regs 32).bind fun _=>bif p0.state == 0 then (some ({p0 with volatile:=(⟨List.replicate 32 0,0,0,0⟩:Q1n)})) else (some p0)

def G6 (p0:Q1):Option (Int) :=
  (J0 p0.volatile.regs 32).bind fun _=>some p0.volatile.pc

def Q2t (p0:Int):Option (Int) :=
  (Q7f p0).bind fun y1=>some y1.form

def F6 (p0:Q1) (p1:Int):Option (Int) :=
  bif ((decide (p1 < 0)) || (decide (32≤p1))) then (some (0:Int)) else ((J0 p0.volatile.regs 32).bind fun _=>(idx p0.volatile.regs p1).bind fun u1=>some u1)

def H5 (p0:X8) (p1:Q1):Option (Int×Bool) :=
  (G6 p1).bind fun y1=>(G6 p1).bind fun y2=>bif (((Int.tmod (IntKind.wrap .i64 y2) 4) != 0) || (decide ((List.length p0.Code:Int)≤(IntKind.wrap .i64 (Int.tdiv (IntKind.wrap .i64 y1) 4))))) then (some ((0:Int),false)) else ((idx p0.Code (IntKind.wrap .i64 (Int.tdiv (IntKind.wrap .i64 y1) 4))).bind fun u1=>(E6 u1).bind fun y3=>bif y3.2 != 0 then (some ((0:Int),false)) else ((Q2t y3.1.Op).bind fun y4=>bif y4 != 83 then (some ((0:Int),false)) else ((F6 p1 y3.1.Rs1).bind fun y5=>bif decide (0≤(IntKind.wrap .i64 ((IntKind.wrap .i64 (IntKind.wrap .u32 (y5+(IntKind.wrap .u32 y3.1.Imm)))) - 268435456))) then (some (IntKind.wrap .i64 ((IntKind.wrap .i64 (IntKind.wrap .u32 (y5+(IntKind.wrap .u32 y3.1.Imm)))) - 268435456),decide ((IntKind.wrap .i64 ((IntKind.wrap .i64 (IntKind.wrap .u32 (y5+(IntKind.wrap .u32 y3.1.Imm)))) - 268435456)) < (List.length p0.Data:Int)))) else (some (IntKind.wrap .i64 ((IntKind.wrap .i64 (IntKind.wrap .u32 (y5+(IntKind.wrap .u32 y3.1.Imm)))) - 268435456),false)))))

def U7 (p0:Q1):Option (V4×Bool×Q1) :=
  (J0 p0.volatile.regs 32).bind fun _=>bif (Int.tmod p0.volatile.pc 4) != 0 then (some ((⟨0,0,0,0,0⟩:V4),false,p0)) else (bif decide ((IntKind.wrap .u32 (List.length p0.code:Int))≤(IntKind.wrap .u32 (Int.tdiv p0.volatile.pc 4))) then (some ((⟨0,0,0,0,0⟩:V4),false,p0)) else ((idx p0.met (IntKind.wrap .u32 (Int.tdiv p0.volatile.pc 4))).bind fun u1=>jn (fun kk1=>bif !u1.seen then ((idx p0.code (IntKind.wrap .u32 (Int.tdiv p0.volatile.pc 4))).bind fun u2=>(E6 u2).bind fun y1=>(idx p0.met (IntKind.wrap .u32 (Int.tdiv p0.volatile.pc 4))).bind fun u3=>kk1 (List.set p0.met (Int.toNat (IntKind.wrap .u32 (Int.tdiv p0.volatile.pc 4))) (⟨true,y1.2 == 0,y1.1⟩:Y7))) else (kk1 p0.met)) (fun(x1:List Y7)=>(idx x1 (IntKind.wrap .u32 (Int.tdiv p0.volatile.pc 4))).bind fun u4=>(idx x1 (IntKind.wrap .u32 (Int.tdiv p0.volatile.pc 4))).bind fun u5=>some (u4.inst,u5.is,{p0 with met:=x1}))))

def Q0w (p0:Bool):Option (Int) :=
  bif p0 then (some (1:Int)) else (some (0:Int))

def A9 (p0:Int) (p1:Int):Option (Int) :=
  (Q0w (decide ((IntKind.wrap .i32 p0) < (IntKind.wrap .i32 p1)))).bind fun y1=>some y1

def B7 (p0:Int) (p1:Int):Option (Int) :=
  (Q0w (decide (p0 < p1))).bind fun y1=>some y1

def P5 (p0:Int) (p1:Int) (p2:Int):Option (Bool) :=
  bif p0 == 5 then (some (p1 == p2)) else (bif p0 == 6 then (some (p1 != p2)) else (bif p0 == 7 then ((A9 p1 p2).bind fun y1=>some (y1 == 1)) else (bif p0 == 8 then ((A9 p1 p2).bind fun y2=>some (y2 == 0)) else (bif p0 == 9 then ((B7 p1 p2).bind fun y3=>some (y3 == 1)) else ((B7 p1 p2).bind fun y4=>some (y4 == 0))))))

def M4 (p0:Int):Option (Int) :=
  jn (fun kk1=>bif p0 == 11 then (kk1 (p0 == 11)) else (bif p0 == 14 then (kk1 (p0 == 14)) else (kk1 (p0 == 16)))) (fun(x1:Bool)=>bif x1 then (some (1:Int)) else (jn (fun kk2=>bif p0 == 12 then (kk2 (p0 == 12)) else (bif p0 == 15 then (kk2 (p0 == 15)) else (kk2 (p0 == 17)))) (fun(x2:Bool)=>bif x2 then (some (2:Int)) else (some (4:Int)))))

def V5 (p0:Q1) (p1:Int) (p2:Int):Option (Int×Bool) :=
  bif decide (p1 < 268435456) then (some ((0:Int),false)) else ((nz (IntKind.wrap .u32 p2)).bind fun _=>bif (Int.tmod p1 (IntKind.wrap .u32 p2)) != 0 then (some ((0:Int),false)) else ((J0 p0.volatile.regs 32).bind fun _=>bif decide ((IntKind.wrap .u32 (IntKind.wrap .i64 ((List.length p0.data:Int) - p2))) < (IntKind.wrap .u32 (p1 - 268435456))) then (some ((0:Int),false)) else (some (IntKind.wrap .i64 (IntKind.wrap .u32 (p1 - 268435456)),true))))

def U1 (p0:Q1) (p1:Int) (p2:Int):Option (Int×Bool) :=
  jn (fun kk1=>kk1 ((p1 == 13)&&(p2 == 536870924))) (fun(x1:Bool)=>bif x1 then ((J0 p0.volatile.regs 32).bind fun _=>bif decide (p0.volatile.index < (IntKind.wrap .u32 (List.length p0.inputs:Int))) then ((idx p0.inputs p0.volatile.index).bind fun u1=>some (u1,true)) else (some ((0:Int),true))) else ((M4 p1).bind fun y1=>(V5 p0 p2 y1).bind fun y2=>bif !y2.2 then (some ((0:Int),false)) else ((Y9 (fun(x2,x3)=>(bif decide (x3 < y1) then ((J0 p0.volatile.regs 32).bind fun _=>(idx p0.data (IntKind.wrap .i64 (y2.1+x3))).bind fun u2=>(nn (IntKind.wrap .i64 (8 * x3))).bind fun _=>some (Lp.go (bits .or .u32 x2 (IntKind.wrap .u32 ((IntKind.wrap .u32 u2) * 2 ^ (min (Int.toNat (IntKind.wrap .i64 (8 * x3))) (IntKind.bits .u32)))),IntKind.wrap .i64 (x3+1)))) else (some (Lp.brk (x2,x3))):Option (Lp (Int×Int) (Unit)))) NN ((0:Int),(0:Int))).bind fun o=>o.thn (fun(x2,x3)=>jn (fun kk2=>bif ((p1 == 11) || (p1 == 12)) then ((G0 x2 (IntKind.wrap .i64 (8 * y1))).bind fun y3=>kk2 y3) else (kk2 x2)) (fun(x4:Int)=>some (x4,true))) (fun _=>none))))

def D4 (p0:Q1) (p1:Int) (p2:Int):Option (Bool×Q1) :=
  jn (fun kk1=>bif p1 == 536870912 then ((J0 p0.volatile.regs 32).bind fun _=>kk1 ({p0 with volatile := {p0.volatile with seq:=p2}})) else (bif p1 == 536870916 then ((J0 p0.volatile.regs 32).bind fun _=>(room (List.length p0.log+List.length ([(⟨p0.volatile.seq,p2⟩:K8)]:List K8))).bind fun _=>kk1 ({p0 with log:=p0.log++([(⟨p0.volatile.seq,p2⟩:K8)]:List K8)})) else (bif p1 == 536870920 then ((J0 p0.volatile.regs 32).bind fun _=>kk1 ({p0 with volatile := {p0.volatile with index:=p2}})) else (bif p1 == 536870928 then ((J0 p0.volatile.regs 32).bind fun _=>kk1 ({p0 with state:=1,exit:=p2})) else (some (false,p0)))))) (fun(x4:Q1)=>some (true,x4))

def G4 (p0:Q1) (p1:Int) (p2:Int) (p3:Int):Option (Bool×Q1) :=
  bif p1 == 18 then ((D4 p0 p2 p3).bind fun y1=>bif y1.1 then (some (true,y1.2)) else ((M4 p1).bind fun y2=>(V5 y1.2 p2 y2).bind fun y3=>bif !y3.2 then (some (false,y1.2)) else ((Y9 (fun(x1,x2)=>(bif decide (x2 < y2) then ((J0 y1.2.volatile.regs 32).bind fun _=>(nn (IntKind.wrap .i64 (8 * x2))).bind fun _=>(idx x1 (IntKind.wrap .i64 (y3.1+x2))).bind fun u1=>(idx x1 (IntKind.wrap .i64 (y3.1+x2))).bind fun u2=>some (Lp.go (List.set x1 (Int.toNat (IntKind.wrap .i64 (y3.1+x2))) (IntKind.wrap .u8 (Int.fdiv p3 (2 ^ (min (Int.toNat (IntKind.wrap .i64 (8 * x2))) (IntKind.bits .u32))))),IntKind.wrap .i64 (x2+1)))) else (some (Lp.brk (x1,x2))):Option (Lp ((List Int)×Int) (Unit)))) NN (y1.2.data,(0:Int))).bind fun o=>o.thn (fun(x1,x2)=>some (true,{y1.2 with data:=x1})) (fun _=>none)))) else ((M4 p1).bind fun y4=>(V5 p0 p2 y4).bind fun y5=>bif !y5.2 then (some (false,p0)) else ((Y9 (fun(x3,x4)=>(bif decide (x4 < y4) then ((J0 p0.volatile.regs 32).bind fun _=>(nn (IntKind.wrap .i64 (8 * x4))).bind fun _=>(idx x3 (IntKind.wrap .i64 (y5.1+x4))).bind fun u3=>(idx x3 (IntKind.wrap .i64 (y5.1+x4))).bind fun u4=>some (Lp.go (List.set x3 (Int.toNat (IntKind.wrap .i64 (y5.1+x4))) (IntKind.wrap .u8 (Int.fdiv p3 (2 ^ (min (Int.toNat (IntKind.wrap .i64 (8 * x4))) (IntKind.bits .u32))))),IntKind.wrap .i64 (x4+1)))) else (some (Lp.brk (x3,x4))):Option (Lp ((List Int)×Int) (Unit)))) NN (p0.data,(0:Int))).bind fun o=>o.thn (fun(x3,x4)=>some (true,{p0 with data:=x3})) (fun _=>none)))

def Q4a (p0:Int) (p1:Int):Option (Int) :=
  some (IntKind.wrap .u32 (p0 - p1))

def Q4b (p0:Int) (p1:Int):Option (Int) :=
  some (IntKind.wrap .u32 (p0 * p1))

def Q1q (p0:Int) (p1:Int):Option (Int) :=
  some (IntKind.wrap .i64 (p0 * p1))

def Q1p (p0:Int) (p1:Int):Option (Int) :=
  (Q1q (IntKind.wrap .i64 (IntKind.wrap .i32 p0)) (IntKind.wrap .i64 (IntKind.wrap .i32 p1))).bind fun y1=>some y1

def Q0q (p0:Int) (p1:Int):Option (Int) :=
  (Q1p p0 p1).bind fun y1=>some (IntKind.wrap .u32 (Int.fdiv (IntKind.wrap .u64 y1) (2 ^ (min (Int.toNat 32) (IntKind.bits .u64)))))

def H0 (p0:Int) (p1:Int):Option (Int) :=
  some (IntKind.wrap .u32 (Int.fdiv (IntKind.wrap .u64 (IntKind.wrap .i64 ((IntKind.wrap .i64 (IntKind.wrap .i32 p0)) * (IntKind.wrap .i64 p1)))) (2 ^ (min (Int.toNat 32) (IntKind.bits .u64)))))

def O5 (p0:Int) (p1:Int):Option (Int) :=
  some (IntKind.wrap .u32 (Int.fdiv (IntKind.wrap .u64 ((IntKind.wrap .u64 p0) * (IntKind.wrap .u64 p1))) (2 ^ (min (Int.toNat 32) (IntKind.bits .u64)))))

def Q3b (p0:Int) (p1:Int):Option (Int) :=
  (nz p1).bind fun _=>some (IntKind.wrap .i64 (Int.tdiv p0 p1))

def W0 (p0:Int) (p1:Int):Option (Int) :=
  (Q3b (IntKind.wrap .i64 (IntKind.wrap .i32 p0)) (IntKind.wrap .i64 (IntKind.wrap .i32 p1))).bind fun y1=>some y1

def Q2i (p0:Int) (p1:Int):Option (Int) :=
  bif p1 == 0 then (some (4294967295:Int)) else ((W0 p0 p1).bind fun y1=>some (IntKind.wrap .u32 y1))

def Q2h (p0:Int) (p1:Int):Option (Int) :=
  bif p1 == 0 then (some (4294967295:Int)) else ((nz p1).bind fun _=>some (IntKind.wrap .u32 (Int.tdiv p0 p1)))

def Q3a (p0:Int) (p1:Int):Option (Int) :=
  (nz p1).bind fun _=>some (Int.tmod p0 p1)

def S9 (p0:Int) (p1:Int):Option (Int) :=
  (Q3a (IntKind.wrap .i64 (IntKind.wrap .i32 p0)) (IntKind.wrap .i64 (IntKind.wrap .i32 p1))).bind fun y1=>some y1

def Q2g (p0:Int) (p1:Int):Option (Int) :=
  bif p1 == 0 then (some p0) else ((S9 p0 p1).bind fun y1=>some (IntKind.wrap .u32 y1))

def Q2f (p0:Int) (p1:Int):Option (Int) :=
  bif p1 == 0 then (some p0) else ((nz p1).bind fun _=>some (Int.tmod p0 p1))

def Q1k (p0:Int) (p1:Int) (p2:Int):Option (Int) :=
  bif p0 == 38 then ((Q4b p1 p2).bind fun y1=>some y1) else (bif p0 == 39 then ((Q0q p1 p2).bind fun y2=>some y2) else (bif p0 == 40 then ((H0 p1 p2).bind fun y3=>some y3) else (bif p0 == 41 then ((O5 p1 p2).bind fun y4=>some y4) else (bif p0 == 42 then ((Q2i p1 p2).bind fun y5=>some y5) else (bif p0 == 43 then ((Q2h p1 p2).bind fun y6=>some y6) else (bif p0 == 44 then ((Q2g p1 p2).bind fun y7=>some y7) else ((Q2f p1 p2).bind fun y8=>some y8)))))))

def Q4c (p0:Int) (p1:Int):Option (Int) :=
  some (IntKind.wrap .u32 (p0+p1))

def Q0p (p0:Int) (p1:Int):Option (Int) :=
  (nn (bits .and .u32 p1 31)).bind fun _=>some (IntKind.wrap .u32 (p0 * 2 ^ (min (Int.toNat (bits .and .u32 p1 31)) (IntKind.bits .u32))))

def Q0x (p0:Int) (p1:Int):Option (Int) :=
  (nn (bits .and .u32 p1 31)).bind fun _=>some (Int.fdiv p0 (2 ^ (min (Int.toNat (bits .and .u32 p1 31)) (IntKind.bits .u32))))

def A8 (p0:Int) (p1:Int):Option (Int) :=
  (nn (bits .and .u32 p1 31)).bind fun _=>some (IntKind.wrap .u32 (Int.fdiv (IntKind.wrap .i32 p0) (2 ^ (min (Int.toNat (bits .and .u32 p1 31)) (IntKind.bits .i32)))))

def P4 (p0:Int) (p1:Int) (p2:Int):Option (Int) :=
  jn (fun kk1=>jn (fun kk2=>jn (fun kk3=>jn (fun kk4=>jn (fun kk5=>jn (fun kk6=>jn (fun kk7=>jn (fun kk8=>jn (fun kk9=>bif p0 == 19 then (kk9 ()) else (bif p0 == 28 then (kk9 ()) else (bif p0 == 20 then (kk8 ()) else (bif p0 == 31 then (kk8 ()) else (bif p0 == 21 then (kk7 ()) else (bif p0 == 32 then (kk7 ()) else (bif p0 == 22 then (kk6 ()) else (bif p0 == 33 then (kk6 ()) else (bif p0 == 23 then (kk5 ()) else (bif p0 == 36 then (kk5 ()) else (bif p0 == 24 then (kk4 ()) else (bif p0 == 37 then (kk4 ()) else (bif p0 == 25 then (kk3 ()) else (bif p0 == 30 then (kk3 ()) else (bif p0 == 26 then (kk2 ()) else (bif p0 == 34 then (kk2 ()) else (bif p0 == 27 then (kk1 ()) else (bif p0 == 35 then (kk1 ()) else (bif p0 == 29 then ((Q4a p1 p2).bind fun y1=>some y1) else ((Q1k p0 p1 p2).bind fun y2=>some y2)))))))))))))))))))) (fun(_:Unit)=>(Q4c p1 p2).bind fun y3=>some y3)) (fun(_:Unit)=>(A9 p1 p2).bind fun y4=>some y4)) (fun(_:Unit)=>(B7 p1 p2).bind fun y5=>some y5)) (fun(_:Unit)=>some (bits .xor .u32 p1 p2))) (fun(_:Unit)=>some (bits .or .u32 p1 p2))) (fun(_:Unit)=>some (bits .and .u32 p1 p2))) (fun(_:Unit)=>(Q0p p1 p2).bind fun y6=>some y6)) (fun(_:Unit)=>(Q0x p1 p2).bind fun y7=>some y7)) (fun(_:Unit)=>(A8 p1 p2).bind fun y8=>some y8)

def E8 (p0:Q1) (p1:V4):Option (Bool×Q1) :=
  (J0 p0.volatile.regs 32).bind fun _=>(idx p0.volatile.regs p1.Rs1).bind fun u1=>(idx p0.volatile.regs p1.Rs2).bind fun u2=>jn (fun kk1=>bif p1.Op == 1 then ((idx p0.volatile.regs p1.Rd).bind fun u3=>(idx p0.volatile.regs p1.Rd).bind fun u4=>kk1 (IntKind.wrap .u32 (p0.volatile.pc+4)) ({p0 with volatile := {p0.volatile with regs:=List.set p0.volatile.regs (Int.toNat p1.Rd) (IntKind.wrap .u32 p1.Imm)}})) else (bif p1.Op == 2 then ((idx p0.volatile.regs p1.Rd).bind fun u5=>(idx p0.volatile.regs p1.Rd).bind fun u6=>kk1 (IntKind.wrap .u32 (p0.volatile.pc+4)) ({p0 with volatile := {p0.volatile with regs:=List.set p0.volatile.regs (Int.toNat p1.Rd) (IntKind.wrap .u32 (p0.volatile.pc+(IntKind.wrap .u32 p1.Imm)))}})) else (bif p1.Op == 3 then ((idx p0.volatile.regs p1.Rd).bind fun u7=>(idx p0.volatile.regs p1.Rd).bind fun u8=>kk1 (IntKind.wrap .u32 (p0.volatile.pc+(IntKind.wrap .u32 p1.Imm))) ({p0 with volatile := {p0.volatile with regs:=List.set p0.volatile.regs (Int.toNat p1.Rd) (IntKind.wrap .u32 (p0.volatile.pc+4))}})) else (bif p1.Op == 4 then ((idx p0.volatile.regs p1.Rd).bind fun u9=>(idx p0.volatile.regs p1.Rd).bind fun u10=>kk1 (bits .andNot .u32 (IntKind.wrap .u32 (u1+(IntKind.wrap .u32 p1.Imm))) 1) ({p0 with volatile := {p0.volatile with regs:=List.set p0.volatile.regs (Int.toNat p1.Rd) (IntKind.wrap .u32 (p0.volatile.pc+4))}})) else (bif decide (p1.Op≤10) then ((P5 p1.Op u1 u2).bind fun y1=>bif y1 then (kk1 (IntKind.wrap .u32 (p0.volatile.pc+(IntKind.wrap .u32 p1.Imm))) p0) else (kk1 (IntKind.wrap .u32 (p0.volatile.pc+4)) p0)) else (bif decide (p1.Op≤15) then ((U1 p0 p1.Op (IntKind.wrap .u32 (u1+(IntKind.wrap .u32 p1.Imm)))).bind fun y2=>bif !y2.2 then (some (false,p0)) else ((idx p0.volatile.regs p1.Rd).bind fun u11=>(idx p0.volatile.regs p1.Rd).bind fun u12=>kk1 (IntKind.wrap .u32 (p0.volatile.pc+4)) ({p0 with volatile := {p0.volatile with regs:=List.set p0.volatile.regs (Int.toNat p1.Rd) y2.1}}))) else (bif decide (p1.Op≤18) then ((G4 p0 p1.Op (IntKind.wrap .u32 (u1+(IntKind.wrap .u32 p1.Imm))) u2).bind fun y3=>bif !y3.1 then (some (false,y3.2)) else (kk1 (IntKind.wrap .u32 (p0.volatile.pc+4)) y3.2)) else (bif decide (p1.Op≤27) then ((P4 p1.Op u1 (IntKind.wrap .u32 p1.Imm)).bind fun y4=>(idx p0.volatile.regs p1.Rd).bind fun u13=>(idx p0.volatile.regs p1.Rd).bind fun u14=>kk1 (IntKind.wrap .u32 (p0.volatile.pc+4)) ({p0 with volatile := {p0.volatile with regs:=List.set p0.volatile.regs (Int.toNat p1.Rd) y4}})) else ((P4 p1.Op u1 u2).bind fun y5=>(idx p0.volatile.regs p1.Rd).bind fun u15=>(idx p0.volatile.regs p1.Rd).bind fun u16=>kk1 (IntKind.wrap .u32 (p0.volatile.pc+4)) ({p0 with volatile := {p0.volatile with regs:=List.set p0.volatile.regs (Int.toNat p1.Rd) y5}})))))))))) (fun(x4:Int) (x5:Q1)=>(J0 x5.volatile.regs 32).bind fun _=>some (true,{x5 with volatile := {x5.volatile with pc:=x4}}))

def K4 (p0:Q1):Option (Int×Q1) :=
  (J0 p0.volatile.regs 32).bind fun _=>bif p0.state != 0 then ((V6 p0).bind fun y1=>some (y1,p0)) else ((U7 p0).bind fun y2=>bif !y2.2.1 then ((J0 y2.2.2.volatile.regs 32).bind fun _=>some ((2:Int),{y2.2.2 with state:=2})) else ((E8 y2.2.2 y2.1).bind fun y3=>bif !y3.1 then ((J0 y3.2.volatile.regs 32).bind fun _=>some ((2:Int),{y3.2 with state:=2})) else ((J0 y3.2.volatile.regs 32).bind fun _=>(idx y3.2.volatile.regs 0).bind fun u1=>(idx y3.2.volatile.regs 0).bind fun u2=>some (y3.2.state,{y3.2 with volatile := {y3.2.volatile with regs:=List.set y3.2.volatile.regs (Int.toNat 0) 0},steps:=IntKind.wrap .i64 (y3.2.steps+1)}))))

def I3 {σ ε : Type} (p0:Int × σ → Int→Option (Lp (Int × σ) ε)) (p1 : σ) (p2:Q1) (p3:Int) (p4:List Int) (p5:Int) (p6:X8):Option ((Lp (Int × σ) ε)×Q1×(List Int)) :=
  (Y9 (fun(x4,x5,x6,x7)=>((V6 x6).bind fun y1=>bif y1 == 0 then ((Y1 x6).bind fun y2=>bif decide (y2 < p3) then (jn (fun kk1=>(Y9 (fun(x9:List Int)=>(bif decide (0 < (List.length x9:Int)) then ((idx x9 0).bind fun u1=>(Y1 x6).bind fun y3=>bif decide (u1 < y3) then ((sub x9 1 (List.length x9:Int)).bind fun u2=>some (Lp.go u2)) else (some (Lp.brk x9))) else (some (Lp.brk x9)):Option (Lp ((List Int)) (Unit)))) NN x7).bind fun o=>o.thn (fun(x9:List Int)=>kk1 x9) (fun _=>none)) (fun(x8:List Int)=>jn (fun kk2=>jn (fun kk3=>bif decide (0 < (List.length x8:Int)) then ((idx x8 0).bind fun u3=>(Y1 x6).bind fun y4=>kk3 (u3 == y4)) else (kk3 false)) (fun(x17:Bool)=>bif x17 then ((G1 x6).bind fun y5=>(sub x8 1 (List.length x8:Int)).bind fun u4=>kk2 (IntKind.wrap .i64 (x4+1)) x5 y5 u4) else (kk2 x4 x5 x6 x8))) (fun(x13:Int) (x14 : σ) (x15:Q1) (x16:List Int)=>(H5 p6 x15).bind fun y6=>(Y1 x15).bind fun y7=>(K4 x15).bind fun y8=>bif y6.2 then ((Y1 y8.2).bind fun y9=>bif decide (y7 < y9) then ((p0 (x13,x14) y6.1).bind fun z1=>Lp.gone z1 (fun sg1=>some (Lp.go (sg1.1,sg1.2,y8.2,x16))) (some (Lp.ret (z1,y8.2,x16)))) else (some (Lp.go (x13,x14,y8.2,x16)))) else (some (Lp.go (x13,x14,y8.2,x16)))))) else (some (Lp.brk (x4,x5,x6,x7)))) else (some (Lp.brk (x4,x5,x6,x7))):Option (Lp (Int × σ × Q1×(List Int)) ((Lp (Int × σ) ε)×Q1×(List Int))))) NN (p5,p1,p2,p4)).bind fun o=>o.thn (fun(x4,x5,x6,x7)=>some ((Lp.go (x4,x5)),x6,x7)) (fun r=>some r)

def O6 (p0:X8) (p1:Int):Option (Int) :=
  jn (fun kk1=>kk1 ((decide (p1 < 0)) || (decide ((List.length p0.Data:Int)≤p1)))) (fun(x1:Bool)=>bif x1 then (some (6:Int)) else (bif decide (p1 < 4) then (some (0:Int)) else (bif decide (p1 < 12) then (some (1:Int)) else (jn (fun kk2=>kk2 ((decide (128≤p1))&&(decide (p1 < 384)))) (fun(x2:Bool)=>bif x2 then (some (2:Int)) else (jn (fun kk3=>kk3 ((decide (384≤p1))&&(decide (p1 < 1152)))) (fun(x3:Bool)=>bif x3 then (some (3:Int)) else (jn (fun kk4=>kk4 ((decide (1152≤p1))&&(decide (p1 < (IntKind.wrap .i64 (p0.Limit - 268435456)))))) (fun(x4:Bool)=>bif x4 then (some (4:Int)) else (bif ((decide (1152≤p1))&&(decide ((IntKind.wrap .i64 (p0.Limit - 268435456))≤p1))) then (some (5:Int)) else (some (6:Int))))))))))))

def O7 (p0:X8) (p1:List Int) (p2:List Int) (p3:Int):Option (Z7×Int) :=
  (S6 p0 p1).bind fun y1=>exC y1 (fun y1=>bif y1 != 0 then (some ((⟨([0,0,0,0,0,0,0]:List Int),[],0,0,0⟩:Z7),y1)) else ((Q3w (IntKind.wrap .i64 (Int.tdiv (List.length p0.Data:Int) 4)) (0:Int)).bind fun u1=>none)) (fun e1=>bif e1.2 != 0 then (some ((⟨([0,0,0,0,0,0,0]:List Int),[],0,0,0⟩:Z7),e1.2)) else ((Q3w (IntKind.wrap .i64 (Int.tdiv (List.length p0.Data:Int) 4)) (0:Int)).bind fun u2=>(Q5u p0 e1.1 p2 p3 0).bind fun y2=>(I3 (fun(sx:Int×Z7) (x4:Int)=>(match sx with | (x3,x2)=>(O6 p0 x4).bind fun y3=>(idx ([List.getD x2.Part 0 0,List.getD x2.Part 1 0,List.getD x2.Part 2 0,List.getD x2.Part 3 0,List.getD x2.Part 4 0,List.getD x2.Part 5 0,List.getD x2.Part 6 0]:List Int) y3).bind fun u3=>(idx ([List.getD x2.Part 0 0,List.getD x2.Part 1 0,List.getD x2.Part 2 0,List.getD x2.Part 3 0,List.getD x2.Part 4 0,List.getD x2.Part 5 0,List.getD x2.Part 6 0]:List Int) y3).bind fun u4=>(setD ([List.getD x2.Part 0 0,List.getD x2.Part 1 0,List.getD x2.Part 2 0,List.getD x2.Part 3 0,List.getD x2.Part 4 0,List.getD x2.Part 5 0,List.getD x2.Part 6 0]:List Int) y3 (IntKind.wrap .i64 (u3+1))).bind fun u5=>(idx x2.Words (IntKind.wrap .i64 (Int.tdiv x4 4))).bind fun u6=>(idx x2.Words (IntKind.wrap .i64 (Int.tdiv x4 4))).bind fun u7=>(idx x2.Words (IntKind.wrap .i64 (Int.tdiv x4 4))).bind fun u8=>(idx (List.set x2.Words (Int.toNat (IntKind.wrap .i64 (Int.tdiv x4 4))) (IntKind.wrap .i64 (u6+1))) (IntKind.wrap .i64 (Int.tdiv x4 4))).bind fun u9=>some (Lp.go (x3,(⟨u5,List.set x2.Words (Int.toNat (IntKind.wrap .i64 (Int.tdiv x4 4))) (IntKind.wrap .i64 (u6+1)),max x2.Most u9,x2.Steps,x3⟩:Z7))):Option (Lp (Int×Z7) Unit))) (⟨([0,0,0,0,0,0,0]:List Int),u2,0,0,0⟩:Z7) e1.1 y2.1 y2.2.1 0 y2.2.2).bind fun o=>Lp.gone o.1 (fun(x3,x2)=>(Y1 o.2.1).bind fun y4=>some ({x2 with Steps:=y4,Fails:=x3},(0:Int))) none))

def Q2o (p0:Int) (p1:Int):Option (Int) :=
  bif (((((decide (p0 < 1)) || (decide (32768 < p0))) || (decide (p1 < 4))) || (decide (65536 < p1))) || ((Int.tmod p1 4) != 0)) then (some (1:Int)) else (some (0:Int))

def H7 (p0:List Int) (p1:List Int) (p2:List Int):Option (Q0) :=
  (Y9 (fun(x1,x2)=>(bif decide (x2 < (List.length p1:Int)) then ((idx p1 x2).bind fun u1=>(room (List.length x1+List.length ([u1]:List Int))).bind fun _=>some (Lp.go (x1++([u1]:List Int),IntKind.wrap .i64 (x2+1)))) else (some (Lp.brk (x1,x2))):Option (Lp ((List Int)×Int) (Unit)))) NN ([],(0:Int))).bind fun o=>o.thn (fun(x1,x2)=>(Q3w 32 (0:Int)).bind fun u2=>some (⟨p0,x1,p2,u2,0,0,0,[],0,0,0⟩:Q0)) (fun _=>none)

def G2 (p0:Q0):Option (Q0) :=
  bif p0.State == 0 then ((Q3w 32 (0:Int)).bind fun u1=>some ({p0 with Regs:=u1,Pc:=0,Seq:=0,Index:=0})) else (some p0)

def M0 (p0:Int):Option (Int) :=
  bif decide (p0 < 1) then (some (0:Int)) else (bif decide (45 < p0) then (some (0:Int)) else (bif decide (p0≤2) then (some (85:Int)) else (bif p0 == 3 then (some (74:Int)) else (bif decide (5≤p0) then (bif decide (p0≤10) then (some (66:Int)) else (bif decide (16≤p0) then (bif decide (p0≤18) then (some (83:Int)) else (bif decide (25≤p0) then (bif decide (p0≤27) then (some (72:Int)) else (bif decide (28≤p0) then (some (82:Int)) else (some (73:Int)))) else (bif decide (28≤p0) then (some (82:Int)) else (some (73:Int))))) else (bif decide (25≤p0) then (bif decide (p0≤27) then (some (72:Int)) else (bif decide (28≤p0) then (some (82:Int)) else (some (73:Int)))) else (bif decide (28≤p0) then (some (82:Int)) else (some (73:Int)))))) else (bif decide (16≤p0) then (bif decide (p0≤18) then (some (83:Int)) else (bif decide (25≤p0) then (bif decide (p0≤27) then (some (72:Int)) else (bif decide (28≤p0) then (some (82:Int)) else (some (73:Int)))) else (bif decide (28≤p0) then (some (82:Int)) else (some (73:Int))))) else (bif decide (25≤p0) then (bif decide (p0≤27) then (some (72:Int)) else (bif decide (28≤p0) then (some (82:Int)) else (some (73:Int)))) else (bif decide (28≤p0) then (some (82:Int)) else (some (73:Int)))))))))

def J1 (p0:Int):Option (Int) :=
  (Y9 (fun(x1,x2)=>(bif decide (x2 < p0) then (some (Lp.go (IntKind.wrap .i64 (2 * x1),IntKind.wrap .i64 (x2+1)))) else (some (Lp.brk (x1,x2))):Option (Lp (Int×Int) (Unit)))) NN ((1:Int),(0:Int))).bind fun o=>o.thn (fun(x1,x2)=>some x1) (fun _=>none)

def Y0 (p0:Int) (p1:Int) (p2:Int) (p3:Int):Option (Int) :=
  jn (fun kk1=>bif decide (p0 < 0) then (kk1 (IntKind.wrap .i64 (p0+4294967296))) else (kk1 p0)) (fun(x1:Int)=>(J1 p1).bind fun y1=>(nz y1).bind fun _=>(J1 (IntKind.wrap .i64 ((IntKind.wrap .i64 (p2 - p1))+1))).bind fun y2=>(nz y2).bind fun _=>(J1 p3).bind fun y3=>some (IntKind.wrap .i64 ((Int.tmod (IntKind.wrap .i64 (Int.tdiv x1 y1)) y2) * y3)))

def F1 (p0:Int) (p1:Int):Option (Int) :=
  (J1 (IntKind.wrap .i64 (p1 - 1))).bind fun y1=>bif decide (y1≤p0) then ((J1 p1).bind fun y2=>some (IntKind.wrap .i64 (p0 - y2))) else (some p0)

def I7 (p0:Int) (p1:Int):Option (Int) :=
  bif p0 == 85 then ((Y0 p1 12 31 12).bind fun y1=>(F1 y1 32).bind fun y2=>some y2) else (bif p0 == 74 then ((Y0 p1 31 31 20).bind fun y3=>(Y0 p1 21 30 1).bind fun y4=>(Y0 p1 20 20 11).bind fun y5=>(Y0 p1 12 19 12).bind fun y6=>(F1 (IntKind.wrap .i64 ((IntKind.wrap .i64 ((IntKind.wrap .i64 (y3+y4))+y5))+y6)) 21).bind fun y7=>some y7) else (bif p0 == 73 then ((Y0 p1 20 31 0).bind fun y8=>(F1 y8 12).bind fun y9=>some y9) else (bif p0 == 72 then ((Y0 p1 20 24 0).bind fun y10=>some y10) else (bif p0 == 83 then ((Y0 p1 7 11 0).bind fun y11=>(Y0 p1 25 31 5).bind fun y12=>(F1 (IntKind.wrap .i64 (y11+y12)) 12).bind fun y13=>some y13) else (bif p0 == 66 then ((Y0 p1 31 31 12).bind fun y14=>(Y0 p1 25 30 5).bind fun y15=>(Y0 p1 8 11 1).bind fun y16=>(Y0 p1 7 7 11).bind fun y17=>(F1 (IntKind.wrap .i64 ((IntKind.wrap .i64 ((IntKind.wrap .i64 (y14+y15))+y16))+y17)) 13).bind fun y18=>some y18) else (some (0:Int)))))))

def G5 (p0:Int) (p1:Int):Option (Bool) :=
  bif p1 == 1 then (bif p0 != 83 then (some (p0 != 66)) else (some false)) else (bif p1 == 2 then (bif p0 != 85 then (some (p0 != 74)) else (some false)) else (bif p0 == 83 then (some true) else (bif p0 == 66 then (some true) else (some (p0 == 82)))))

def O9 (p0:Int) (p1:Bool):Option (Bool) :=
  bif !p1 then (some (p0 == 0)) else (bif decide (0≤p0) then (some (decide (p0≤31))) else (some false))

def N8 (p0:Int) (p1:Int):Option (Bool) :=
  bif p0 == 85 then (bif decide ((-2147483648)≤p1) then (bif decide (p1≤2147479552) then (some ((Int.tmod p1 4096) == 0)) else (some false)) else (some false)) else (bif p0 == 74 then (bif decide ((-1048576)≤p1) then (bif decide (p1≤1048574) then (some ((Int.tmod p1 2) == 0)) else (some false)) else (some false)) else (bif p0 == 73 then (bif decide ((-2048)≤p1) then (some (decide (p1≤2047))) else (some false)) else (bif p0 == 83 then (bif decide ((-2048)≤p1) then (some (decide (p1≤2047))) else (some false)) else (bif p0 == 72 then (bif decide (0≤p1) then (some (decide (p1≤31))) else (some false)) else (bif p0 == 66 then (bif decide ((-4096)≤p1) then (bif decide (p1≤4094) then (some ((Int.tmod p1 2) == 0)) else (some false)) else (some false)) else (some (p1 == 0)))))))

def N9 (p0:V4):Option (Bool) :=
  (M0 p0.Op).bind fun y1=>bif y1 != 0 then ((G5 y1 1).bind fun y2=>(O9 p0.Rd y2).bind fun y3=>bif y3 then ((G5 y1 2).bind fun y4=>(O9 p0.Rs1 y4).bind fun y5=>bif y5 then ((G5 y1 3).bind fun y6=>(O9 p0.Rs2 y6).bind fun y7=>bif y7 then ((N8 y1 p0.Imm).bind fun y8=>some y8) else (some false)) else (some false)) else (some false)) else (some false)

def R6 (p0:Int):Option (Int) :=
  bif p0 == 1 then (some (55:Int)) else (bif p0 == 2 then (some (23:Int)) else (bif p0 == 3 then (some (111:Int)) else (bif p0 == 4 then (some (103:Int)) else (bif decide (p0≤10) then (some (99:Int)) else (bif decide (p0≤15) then (some (3:Int)) else (bif decide (p0≤18) then (some (35:Int)) else (bif decide (p0≤27) then (some (19:Int)) else (some (51:Int)))))))))

def H8 (p0:Int):Option (Int) :=
  (idx ([0,0,0,0,0,0,1,4,5,6,7,0,1,2,4,5,0,1,2,0,2,3,4,6,7,1,5,5,0,0,1,2,3,4,5,5,6,7,0,1,2,3,4,5,6,7]:List Int) p0).bind fun u1=>some u1

def P7 (p0:Int):Option (Int) :=
  bif p0 == 27 then (some (32:Int)) else (bif p0 == 29 then (some (32:Int)) else (bif p0 == 35 then (some (32:Int)) else (bif decide (38≤p0) then (some (1:Int)) else (some (0:Int)))))

def M8 (p0:Int) (p1:Int):Option (Int) :=
  bif p0 == 85 then ((Y0 p1 12 31 12).bind fun y1=>some y1) else (bif p0 == 74 then ((Y0 p1 20 20 31).bind fun y2=>(Y0 p1 1 10 21).bind fun y3=>(Y0 p1 11 11 20).bind fun y4=>(Y0 p1 12 19 12).bind fun y5=>some (IntKind.wrap .i64 ((IntKind.wrap .i64 ((IntKind.wrap .i64 (y2+y3))+y4))+y5))) else (bif p0 == 73 then ((Y0 p1 0 11 20).bind fun y6=>some y6) else (bif p0 == 72 then ((Y0 p1 0 4 20).bind fun y7=>some y7) else (bif p0 == 83 then ((Y0 p1 0 4 7).bind fun y8=>(Y0 p1 5 11 25).bind fun y9=>some (IntKind.wrap .i64 (y8+y9))) else (bif p0 == 66 then ((Y0 p1 12 12 31).bind fun y10=>(Y0 p1 5 10 25).bind fun y11=>(Y0 p1 1 4 8).bind fun y12=>(Y0 p1 11 11 7).bind fun y13=>some (IntKind.wrap .i64 ((IntKind.wrap .i64 ((IntKind.wrap .i64 (y10+y11))+y12))+y13))) else (some (0:Int)))))))

def J7 (p0:V4):Option (Int) :=
  (M0 p0.Op).bind fun y1=>(R6 p0.Op).bind fun y2=>(J1 7).bind fun y3=>(H8 p0.Op).bind fun y4=>(J1 12).bind fun y5=>(J1 15).bind fun y6=>(J1 20).bind fun y7=>(P7 p0.Op).bind fun y8=>(J1 25).bind fun y9=>(M8 y1 p0.Imm).bind fun y10=>some (IntKind.wrap .u32 (IntKind.wrap .i64 ((IntKind.wrap .i64 ((IntKind.wrap .i64 ((IntKind.wrap .i64 ((IntKind.wrap .i64 ((IntKind.wrap .i64 (y2+(IntKind.wrap .i64 (p0.Rd * y3))))+(IntKind.wrap .i64 (y4 * y5))))+(IntKind.wrap .i64 (p0.Rs1 * y6))))+(IntKind.wrap .i64 (p0.Rs2 * y7))))+(IntKind.wrap .i64 (y8 * y9))))+y10)))

def E0 (p0:Int):Option (V4×Int) :=
  (Y9 (fun(x1:Int)=>(bif decide (x1≤45) then ((M0 x1).bind fun y1=>(I7 y1 (IntKind.wrap .i64 p0)).bind fun y2=>jn (fun kk1=>(G5 y1 1).bind fun y3=>bif y3 then ((Y0 (IntKind.wrap .i64 p0) 7 11 0).bind fun y4=>kk1 (⟨x1,y4,0,0,y2⟩:V4)) else (kk1 (⟨x1,0,0,0,y2⟩:V4))) (fun(x2:V4)=>jn (fun kk2=>(G5 y1 2).bind fun y5=>bif y5 then ((Y0 (IntKind.wrap .i64 p0) 15 19 0).bind fun y6=>kk2 ({x2 with Rs1:=y6})) else (kk2 x2)) (fun(x3:V4)=>jn (fun kk3=>(G5 y1 3).bind fun y7=>bif y7 then ((Y0 (IntKind.wrap .i64 p0) 20 24 0).bind fun y8=>kk3 ({x3 with Rs2:=y8})) else (kk3 x3)) (fun(x4:V4)=>(N9 x4).bind fun y9=>bif y9 then ((J7 x4).bind fun y10=>bif y10 == p0 then (some (Lp.ret (x4,(0:Int)))) else (some (Lp.go (IntKind.wrap .i64 (x1+1))))) else (some (Lp.go (IntKind.wrap .i64 (x1+1)))))))) else (some (Lp.brk x1)):Option (Lp (Int) (V4×Int)))) NN (1:Int)).bind fun o=>o.thn (fun(x1:Int)=>some ((⟨0,0,0,0,0⟩:V4),(3:Int))) (fun r=>some r)

def J2 (p0:Int):Option (Int) :=
  jn (fun kk1=>bif decide ((Int.tmod p0 4294967296) < 0) then (kk1 (IntKind.wrap .i64 ((Int.tmod p0 4294967296)+4294967296))) else (kk1 (Int.tmod p0 4294967296))) (fun(x1:Int)=>some (IntKind.wrap .u32 x1))

def H6 (p0:Q0):Option (Int) :=
  bif (Int.tmod p0.Pc 4) != 0 then (some ((-1):Int)) else (bif decide ((List.length p0.Code:Int)≤(IntKind.wrap .i64 (Int.tdiv p0.Pc 4))) then (some ((-1):Int)) else ((idx p0.Code (IntKind.wrap .i64 (Int.tdiv p0.Pc 4))).bind fun u1=>(E0 u1).bind fun y1=>bif (((y1.2 != 0) || (decide (y1.1.Op < 16))) || (decide (18 < y1.1.Op))) then (some ((-1):Int)) else ((idx p0.Regs y1.1.Rs1).bind fun u2=>(J2 (IntKind.wrap .i64 ((IntKind.wrap .i64 u2)+y1.1.Imm))).bind fun y2=>bif ((decide ((IntKind.wrap .i64 ((IntKind.wrap .i64 y2) - 268435456)) < 0)) || (decide ((List.length p0.Data:Int)≤(IntKind.wrap .i64 ((IntKind.wrap .i64 y2) - 268435456))))) then (some ((-1):Int)) else (some (IntKind.wrap .i64 ((IntKind.wrap .i64 y2) - 268435456))))))

def N7 (p0:Int):Option (Int) :=
  (J2 p0).bind fun y1=>some (IntKind.wrap .i64 y1)

def X5 (p0:Q0) (p1:Int) (p2:Int):Option (Q0) :=
  bif decide (0 < p1) then ((idx p0.Regs p1).bind fun u1=>(idx p0.Regs p1).bind fun u2=>some ({p0 with Regs:=List.set p0.Regs (Int.toNat p1) p2})) else (some p0)

def V7 (p0:Int):Option (Int) :=
  bif decide (2147483648≤p0) then (some (IntKind.wrap .i64 ((IntKind.wrap .i64 p0) - 4294967296))) else (some (IntKind.wrap .i64 p0))

def W9 (p0:Int) (p1:Int) (p2:Int):Option (Bool) :=
  (V7 p1).bind fun y1=>(V7 p2).bind fun y2=>bif p0 == 5 then (some (p1 == p2)) else (bif p0 == 6 then (some (p1 != p2)) else (bif p0 == 7 then (some (decide (y1 < y2))) else (bif p0 == 8 then (some (decide (y2≤y1))) else (bif p0 == 9 then (some (decide (p1 < p2))) else (some (decide (p2≤p1)))))))

def Q1b (p0:Int):Option (Int) :=
  bif (((p0 == 11) || (p0 == 14)) || (p0 == 16)) then (some (1:Int)) else (bif (((p0 == 12) || (p0 == 15)) || (p0 == 17)) then (some (2:Int)) else (some (4:Int)))

def F5 (p0:Q0) (p1:Int) (p2:Int):Option (Bool) :=
  (nz p2).bind fun _=>some ((((Int.tmod p1 p2) == 0)&&(decide (268435456≤p1)))&&(decide ((IntKind.wrap .i64 (p1+p2))≤(IntKind.wrap .i64 (268435456+(List.length p0.Data:Int))))))

def U5 (p0:Q0) (p1:Int) (p2:Int):Option (Int×Bool) :=
  (Q1b p1).bind fun y1=>jn (fun kk1=>kk1 ((p1 == 13)&&(p2 == 536870924))) (fun(x1:Bool)=>bif x1 then (bif decide ((IntKind.wrap .i64 p0.Index) < (List.length p0.Inputs:Int)) then ((idx p0.Inputs p0.Index).bind fun u1=>some (u1,true)) else (some ((0:Int),true))) else ((F5 p0 p2 y1).bind fun y2=>bif !y2 then (some ((0:Int),false)) else ((Y9 (fun(x2,x3)=>(bif decide (0≤x3) then ((idx p0.Data (IntKind.wrap .i64 ((IntKind.wrap .i64 (p2 - 268435456))+x3))).bind fun u2=>some (Lp.go (IntKind.wrap .i64 ((IntKind.wrap .i64 (256 * x2))+(IntKind.wrap .i64 u2)),IntKind.wrap .i64 (x3 - 1)))) else (some (Lp.brk (x2,x3))):Option (Lp (Int×Int) (Unit)))) NN ((0:Int),IntKind.wrap .i64 (y1 - 1))).bind fun o=>o.thn (fun(x2,x3)=>jn (fun kk2=>bif ((p1 == 11)&&(decide (128≤x2))) then (kk2 (IntKind.wrap .i64 (x2 - 256))) else (kk2 x2)) (fun(x4:Int)=>jn (fun kk3=>bif ((p1 == 12)&&(decide (32768≤x4))) then (kk3 (IntKind.wrap .i64 (x4 - 65536))) else (kk3 x4)) (fun(x5:Int)=>(J2 x5).bind fun y3=>some (y3,true)))) (fun _=>none))))

def G8 (p0:Q0) (p1:Int) (p2:Int) (p3:Int):Option (Bool×Q0) :=
  bif ((p1 == 18)&&((IntKind.wrap .i64 (p2 - 536870912)) == 0)) then (some (true,{p0 with Seq:=p3})) else (jn (fun kk1=>kk1 ((p1 == 18)&&((IntKind.wrap .i64 (p2 - 536870912)) == 4))) (fun(x1:Bool)=>bif x1 then ((room (List.length p0.Log+List.length ([(⟨p0.Seq,p3⟩:K8)]:List K8))).bind fun _=>some (true,{p0 with Log:=p0.Log++([(⟨p0.Seq,p3⟩:K8)]:List K8)})) else (bif ((p1 == 18)&&((IntKind.wrap .i64 (p2 - 536870912)) == 8)) then (some (true,{p0 with Index:=p3})) else (bif ((p1 == 18)&&((IntKind.wrap .i64 (p2 - 536870912)) == 16)) then (some (true,{p0 with State:=1,Exit:=p3})) else ((Q1b p1).bind fun y1=>(F5 p0 p2 y1).bind fun y2=>bif !y2 then (some (false,p0)) else ((Y9 (fun(x2,x3,x4)=>(bif decide (x4 < y1) then ((idx x2 (IntKind.wrap .i64 ((IntKind.wrap .i64 (p2 - 268435456))+x4))).bind fun u1=>(idx x2 (IntKind.wrap .i64 ((IntKind.wrap .i64 (p2 - 268435456))+x4))).bind fun u2=>some (Lp.go (List.set x2 (Int.toNat (IntKind.wrap .i64 ((IntKind.wrap .i64 (p2 - 268435456))+x4))) (IntKind.wrap .u8 (Int.tmod x3 256)),IntKind.wrap .i64 (Int.tdiv x3 256),IntKind.wrap .i64 (x4+1)))) else (some (Lp.brk (x2,x3,x4))):Option (Lp ((List Int)×Int×Int) (Unit)))) NN (p0.Data,IntKind.wrap .i64 p3,(0:Int))).bind fun o=>o.thn (fun(x2,x3,x4)=>some (true,{p0 with Data:=x2})) (fun _=>none)))))))

def Q0s (p0:Int) (p1:Int):Option (Int) :=
  (J2 (IntKind.wrap .i64 ((IntKind.wrap .i64 p0)+(IntKind.wrap .i64 p1)))).bind fun y1=>some y1

def I1 (p0:Int) (p1:Int):Option (Int) :=
  (J2 (IntKind.wrap .i64 ((IntKind.wrap .i64 p0) - (IntKind.wrap .i64 p1)))).bind fun y1=>some y1

def B5 (p0:Int):Option (Int) :=
  (Y9 (fun(x1,x2)=>(bif decide (x2 < (IntKind.wrap .i64 (Int.tmod p0 32))) then (some (Lp.go (IntKind.wrap .i64 (2 * x1),IntKind.wrap .i64 (x2+1)))) else (some (Lp.brk (x1,x2))):Option (Lp (Int×Int) (Unit)))) NN ((1:Int),(0:Int))).bind fun o=>o.thn (fun(x1,x2)=>some x1) (fun _=>none)

def R8 (p0:Int) (p1:Int):Option (Int) :=
  (B5 p1).bind fun y1=>(nz y1).bind fun _=>(nz (IntKind.wrap .i64 (Int.tdiv 4294967296 y1))).bind fun _=>(B5 p1).bind fun y2=>(J2 (IntKind.wrap .i64 ((Int.tmod (IntKind.wrap .i64 p0) (IntKind.wrap .i64 (Int.tdiv 4294967296 y1))) * y2))).bind fun y3=>some y3

def Q1e (p0:Int) (p1:Int):Option (Int) :=
  (V7 p0).bind fun y1=>(V7 p1).bind fun y2=>bif decide (y1 < y2) then (some (1:Int)) else (some (0:Int))

def Q0d (p0:Int) (p1:Int):Option (Int) :=
  bif decide (p0 < p1) then (some (1:Int)) else (some (0:Int))

def Q0c (p0:Int) (p1:Int):Option (Int) :=
  (B5 p1).bind fun y1=>(nz y1).bind fun _=>some (IntKind.wrap .u32 (IntKind.wrap .i64 (Int.tdiv (IntKind.wrap .i64 p0) y1)))

def C0 (p0:Int) (p1:Int):Option (Int) :=
  (V7 p0).bind fun y1=>(B5 p1).bind fun y2=>(nz y2).bind fun _=>jn (fun kk1=>bif decide (y1 < 0) then (bif (IntKind.wrap .i64 ((IntKind.wrap .i64 (Int.tdiv y1 y2)) * y2)) != y1 then (kk1 (IntKind.wrap .i64 ((IntKind.wrap .i64 (Int.tdiv y1 y2)) - 1))) else (kk1 (IntKind.wrap .i64 (Int.tdiv y1 y2)))) else (kk1 (IntKind.wrap .i64 (Int.tdiv y1 y2)))) (fun(x1:Int)=>(J2 x1).bind fun y3=>some y3)

def A4 (p0:Int) (p1:Int):Option (Int×Int) :=
  some (IntKind.wrap .u32 (IntKind.wrap .i64 ((IntKind.wrap .i64 ((IntKind.wrap .i64 ((IntKind.wrap .i64 (Int.tdiv (IntKind.wrap .i64 p0) 65536)) * (IntKind.wrap .i64 (Int.tdiv (IntKind.wrap .i64 p1) 65536))))+(IntKind.wrap .i64 (Int.tdiv (IntKind.wrap .i64 ((IntKind.wrap .i64 ((IntKind.wrap .i64 (Int.tdiv (IntKind.wrap .i64 p0) 65536)) * (Int.tmod (IntKind.wrap .i64 p1) 65536)))+(IntKind.wrap .i64 (Int.tdiv (IntKind.wrap .i64 ((Int.tmod (IntKind.wrap .i64 p0) 65536) * (Int.tmod (IntKind.wrap .i64 p1) 65536))) 65536)))) 65536))))+(IntKind.wrap .i64 (Int.tdiv (IntKind.wrap .i64 ((IntKind.wrap .i64 ((Int.tmod (IntKind.wrap .i64 p0) 65536) * (IntKind.wrap .i64 (Int.tdiv (IntKind.wrap .i64 p1) 65536))))+(Int.tmod (IntKind.wrap .i64 ((IntKind.wrap .i64 ((IntKind.wrap .i64 (Int.tdiv (IntKind.wrap .i64 p0) 65536)) * (Int.tmod (IntKind.wrap .i64 p1) 65536)))+(IntKind.wrap .i64 (Int.tdiv (IntKind.wrap .i64 ((Int.tmod (IntKind.wrap .i64 p0) 65536) * (Int.tmod (IntKind.wrap .i64 p1) 65536))) 65536)))) 65536))) 65536)))),IntKind.wrap .u32 (IntKind.wrap .i64 ((IntKind.wrap .i64 ((Int.tmod (IntKind.wrap .i64 ((IntKind.wrap .i64 ((Int.tmod (IntKind.wrap .i64 p0) 65536) * (IntKind.wrap .i64 (Int.tdiv (IntKind.wrap .i64 p1) 65536))))+(Int.tmod (IntKind.wrap .i64 ((IntKind.wrap .i64 ((IntKind.wrap .i64 (Int.tdiv (IntKind.wrap .i64 p0) 65536)) * (Int.tmod (IntKind.wrap .i64 p1) 65536)))+(IntKind.wrap .i64 (Int.tdiv (IntKind.wrap .i64 ((Int.tmod (IntKind.wrap .i64 p0) 65536) * (Int.tmod (IntKind.wrap .i64 p1) 65536))) 65536)))) 65536))) 65536) * 65536))+(Int.tmod (IntKind.wrap .i64 ((Int.tmod (IntKind.wrap .i64 p0) 65536) * (Int.tmod (IntKind.wrap .i64 p1) 65536))) 65536))))

def Q0r (p0:Int) (p1:Int):Option (Int) :=
  (A4 p0 p1).bind fun y1=>some y1.2

def M1 (p0:Int) (p1:Int):Option (Int) :=
  (A4 p0 p1).bind fun y1=>some y1.1

def B9 (p0:Int) (p1:Int):Option (Int) :=
  (M1 p0 p1).bind fun y1=>(V7 p0).bind fun y2=>bif decide (y2 < 0) then ((I1 y1 p1).bind fun y3=>some y3) else (some y1)

def R9 (p0:Int) (p1:Int):Option (Int) :=
  (B9 p0 p1).bind fun y1=>(V7 p1).bind fun y2=>bif decide (y2 < 0) then ((I1 y1 p0).bind fun y3=>some y3) else (some y1)

def H9 (p0:Int):Option (Int) :=
  bif decide (p0 < 0) then (some (IntKind.wrap .i64 (0 - p0))) else (some p0)

def S0 (p0:Int) (p1:Int):Option (Int) :=
  (V7 p0).bind fun y1=>(V7 p1).bind fun y2=>bif y2 == 0 then (some (4294967295:Int)) else ((H9 y1).bind fun y3=>(H9 y2).bind fun y4=>(nz y4).bind fun _=>jn (fun kk1=>bif decide (y1 < 0) then (bif decide (0 < y2) then (kk1 (IntKind.wrap .i64 (0 - (IntKind.wrap .i64 (Int.tdiv y3 y4))))) else (bif decide (0 < y1) then (bif decide (y2 < 0) then (kk1 (IntKind.wrap .i64 (0 - (IntKind.wrap .i64 (Int.tdiv y3 y4))))) else (kk1 (IntKind.wrap .i64 (Int.tdiv y3 y4)))) else (kk1 (IntKind.wrap .i64 (Int.tdiv y3 y4))))) else (bif decide (0 < y1) then (bif decide (y2 < 0) then (kk1 (IntKind.wrap .i64 (0 - (IntKind.wrap .i64 (Int.tdiv y3 y4))))) else (kk1 (IntKind.wrap .i64 (Int.tdiv y3 y4)))) else (kk1 (IntKind.wrap .i64 (Int.tdiv y3 y4))))) (fun(x1:Int)=>(J2 x1).bind fun y5=>some y5))

def Q1f (p0:Int) (p1:Int):Option (Int) :=
  bif p1 == 0 then (some (4294967295:Int)) else ((nz (IntKind.wrap .i64 p1)).bind fun _=>some (IntKind.wrap .u32 (IntKind.wrap .i64 (Int.tdiv (IntKind.wrap .i64 p0) (IntKind.wrap .i64 p1)))))

def R7 (p0:Int) (p1:Int):Option (Int) :=
  (V7 p0).bind fun y1=>(V7 p1).bind fun y2=>bif y2 == 0 then (some p0) else ((H9 y1).bind fun y3=>(H9 y2).bind fun y4=>(nz y4).bind fun _=>jn (fun kk1=>bif decide (y1 < 0) then (kk1 (IntKind.wrap .i64 (0 - (Int.tmod y3 y4)))) else (kk1 (Int.tmod y3 y4))) (fun(x1:Int)=>(J2 x1).bind fun y5=>some y5))

def Q1d (p0:Int) (p1:Int):Option (Int) :=
  bif p1 == 0 then (some p0) else ((nz (IntKind.wrap .i64 p1)).bind fun _=>some (IntKind.wrap .u32 (Int.tmod (IntKind.wrap .i64 p0) (IntKind.wrap .i64 p1))))

def Q5z (p0:Int) (p1:Int) (p2:Int):Option (Int) :=
  bif p0 == 38 then ((Q0r p1 p2).bind fun y1=>some y1) else (bif p0 == 39 then ((R9 p1 p2).bind fun y2=>some y2) else (bif p0 == 40 then ((B9 p1 p2).bind fun y3=>some y3) else (bif p0 == 41 then ((M1 p1 p2).bind fun y4=>some y4) else (bif p0 == 42 then ((S0 p1 p2).bind fun y5=>some y5) else (bif p0 == 43 then ((Q1f p1 p2).bind fun y6=>some y6) else (bif p0 == 44 then ((R7 p1 p2).bind fun y7=>some y7) else ((Q1d p1 p2).bind fun y8=>some y8)))))))

def I6 (p0:Int) (p1:Int) (p2:Int):Option (Int) :=
  jn (fun kk1=>bif ((decide (19≤p0))&&(decide (p0≤27))) then ((idx ([28,31,32,33,36,37,30,34,35]:List Int) (IntKind.wrap .i64 (p0 - 19))).bind fun u1=>kk1 u1) else (kk1 p0)) (fun(x1:Int)=>bif x1 == 28 then ((Q0s p1 p2).bind fun y1=>some y1) else (bif x1 == 29 then ((I1 p1 p2).bind fun y2=>some y2) else (bif x1 == 30 then ((R8 p1 p2).bind fun y3=>some y3) else (bif x1 == 31 then ((Q1e p1 p2).bind fun y4=>some y4) else (bif x1 == 32 then ((Q0d p1 p2).bind fun y5=>some y5) else (bif x1 == 33 then (some (bits .xor .u32 p1 p2)) else (bif x1 == 34 then ((Q0c p1 p2).bind fun y6=>some y6) else (bif x1 == 35 then ((C0 p1 p2).bind fun y7=>some y7) else (bif x1 == 36 then (some (bits .or .u32 p1 p2)) else (bif x1 == 37 then (some (bits .and .u32 p1 p2)) else ((Q5z x1 p1 p2).bind fun y8=>some y8)))))))))))

def D6 (p0:Q0) (p1:V4):Option (Bool×Q0) :=
  (idx p0.Regs p1.Rs1).bind fun u1=>(idx p0.Regs p1.Rs2).bind fun u2=>(N7 (IntKind.wrap .i64 ((IntKind.wrap .i64 u1)+p1.Imm))).bind fun y1=>(N7 (IntKind.wrap .i64 (p0.Pc+4))).bind fun y2=>jn (fun kk1=>bif p1.Op == 1 then ((J2 p1.Imm).bind fun y3=>(X5 p0 p1.Rd y3).bind fun y4=>kk1 y2 y4) else (bif p1.Op == 2 then ((J2 (IntKind.wrap .i64 (p0.Pc+p1.Imm))).bind fun y5=>(X5 p0 p1.Rd y5).bind fun y6=>kk1 y2 y6) else (bif p1.Op == 3 then ((X5 p0 p1.Rd (IntKind.wrap .u32 y2)).bind fun y7=>(N7 (IntKind.wrap .i64 (y7.Pc+p1.Imm))).bind fun y8=>kk1 y8 y7) else (bif p1.Op == 4 then ((X5 p0 p1.Rd (IntKind.wrap .u32 y2)).bind fun y9=>kk1 (IntKind.wrap .i64 (y1 - (Int.tmod y1 2))) y9) else (bif decide (p1.Op≤10) then ((W9 p1.Op u1 u2).bind fun y10=>bif y10 then ((N7 (IntKind.wrap .i64 (p0.Pc+p1.Imm))).bind fun y11=>kk1 y11 p0) else (kk1 y2 p0)) else (bif decide (p1.Op≤15) then ((U5 p0 p1.Op y1).bind fun y12=>bif !y12.2 then (some (false,p0)) else ((X5 p0 p1.Rd y12.1).bind fun y13=>kk1 y2 y13)) else (bif decide (p1.Op≤18) then ((G8 p0 p1.Op y1 u2).bind fun y14=>bif !y14.1 then (some (false,y14.2)) else (kk1 y2 y14.2)) else (bif decide (p1.Op≤27) then ((J2 p1.Imm).bind fun y15=>(I6 p1.Op u1 y15).bind fun y16=>(X5 p0 p1.Rd y16).bind fun y17=>kk1 y2 y17) else ((I6 p1.Op u1 u2).bind fun y18=>(X5 p0 p1.Rd y18).bind fun y19=>kk1 y2 y19))))))))) (fun(x4:Int) (x5:Q0)=>some (true,{x5 with Pc:=x4}))

def U6 (p0:Q0):Option (Q0) :=
  bif p0.State != 0 then (some p0) else (bif (Int.tmod p0.Pc 4) != 0 then (some ({p0 with State:=2})) else (bif decide ((List.length p0.Code:Int)≤(IntKind.wrap .i64 (Int.tdiv p0.Pc 4))) then (some ({p0 with State:=2})) else ((idx p0.Code (IntKind.wrap .i64 (Int.tdiv p0.Pc 4))).bind fun u1=>(E0 u1).bind fun y1=>bif y1.2 != 0 then (some ({p0 with State:=2})) else ((D6 p0 y1.1).bind fun y2=>bif !y2.1 then (some ({y2.2 with State:=2})) else (some ({y2.2 with Steps:=IntKind.wrap .i64 (y2.2.Steps+1)}))))))

def O8 (p0:Int) (p1:Int) (p2:Int):Option (Int) :=
  bif ((decide (p2 < 0)) || (decide (p0≤p2))) then (some (6:Int)) else (bif decide (p2≤3) then (some (0:Int)) else (bif decide (p2≤11) then (some (1:Int)) else (bif ((decide (128≤p2))&&(decide (p2≤383))) then (some (2:Int)) else (bif ((decide (384≤p2))&&(decide (p2≤1151))) then (some (3:Int)) else (bif decide (p2 < 1152) then (some (6:Int)) else (bif decide (p2 < (IntKind.wrap .i64 (p1 - 268435456))) then (some (4:Int)) else (some (5:Int))))))))

def W8 (p0:X8) (p1:List Int) (p2:List Int) (p3:Int):Option (Y5) :=
  (H7 p0.Code p0.Data p1).bind fun y1=>jn (fun kk1=>(Q3w 7 (0:Int)).bind fun u1=>(Q3w (IntKind.wrap .i64 (Int.tdiv (List.length p0.Data:Int) 4)) (0:Int)).bind fun u2=>kk1 (⟨u1,u2,0,0,0⟩:Y5)) (fun(x1:Y5)=>(Y9 (fun(x7,x8,x9)=>(bif ((x8.State == 0)&&(decide (x8.Steps < p3))) then (jn (fun kk2=>(Y9 (fun(x11:Int)=>(bif decide (x11 < (List.length p2:Int)) then ((idx p2 x11).bind fun u3=>bif decide (u3 < x8.Steps) then (some (Lp.go (IntKind.wrap .i64 (x11+1)))) else (some (Lp.brk x11))) else (some (Lp.brk x11)):Option (Lp (Int) (Unit)))) NN x7).bind fun o=>o.thn (fun(x11:Int)=>kk2 x11) (fun _=>none)) (fun(x10:Int)=>jn (fun kk3=>bif decide (x10 < (List.length p2:Int)) then ((idx p2 x10).bind fun u4=>bif u4 == x8.Steps then ((G2 x8).bind fun y2=>kk3 (IntKind.wrap .i64 (x10+1)) y2 ({x9 with Fails:=IntKind.wrap .i64 (x9.Fails+1)})) else (kk3 x10 x8 x9)) else (kk3 x10 x8 x9)) (fun(x17:Int) (x18:Q0) (x19:Y5)=>(H6 x18).bind fun y3=>(U6 x18).bind fun y4=>jn (fun kk4=>kk4 ((decide (0≤y3))&&(decide (x18.Steps < y4.Steps)))) (fun(x20:Bool)=>bif x20 then ((O8 (List.length p0.Data:Int) p0.Limit y3).bind fun y5=>(idx x19.Part y5).bind fun u5=>(idx x19.Part y5).bind fun u6=>(idx x19.Part y5).bind fun u7=>(idx x19.Words (IntKind.wrap .i64 (Int.tdiv y3 4))).bind fun u8=>(idx x19.Words (IntKind.wrap .i64 (Int.tdiv y3 4))).bind fun u9=>(idx x19.Words (IntKind.wrap .i64 (Int.tdiv y3 4))).bind fun u10=>(idx (List.set x19.Words (Int.toNat (IntKind.wrap .i64 (Int.tdiv y3 4))) (IntKind.wrap .i64 (u8+1))) (IntKind.wrap .i64 (Int.tdiv y3 4))).bind fun u11=>some (Lp.go (x17,y4,(⟨List.set x19.Part (Int.toNat y5) (IntKind.wrap .i64 (u5+1)),List.set x19.Words (Int.toNat (IntKind.wrap .i64 (Int.tdiv y3 4))) (IntKind.wrap .i64 (u8+1)),max x19.Most u11,x19.Steps,x19.Fails⟩:Y5)))) else (some (Lp.go (x17,y4,x19))))))) else (some (Lp.brk (x7,x8,x9))):Option (Lp (Int×Q0×Y5) (Unit)))) NN ((0:Int),y1,x1)).bind fun o=>o.thn (fun(x7,x8,x9)=>some ({x9 with Steps:=x8.Steps})) (fun _=>none))

def S4 (p0:Z7) (p1:Y5):Option (Bool) :=
  bif (((((List.length p0.Words:Int) != (List.length p1.Words:Int)) || (p0.Most != p1.Most)) || (p0.Steps != p1.Steps)) || (p0.Fails != p1.Fails)) then (some false) else ((Y9 (fun(x1:Int)=>(bif decide (x1 < 7) then ((idx ([List.getD p0.Part 0 0,List.getD p0.Part 1 0,List.getD p0.Part 2 0,List.getD p0.Part 3 0,List.getD p0.Part 4 0,List.getD p0.Part 5 0,List.getD p0.Part 6 0]:List Int) x1).bind fun u1=>(idx p1.Part x1).bind fun u2=>bif u1 != u2 then (some (Lp.ret false)) else (some (Lp.go (IntKind.wrap .i64 (x1+1))))) else (some (Lp.brk x1)):Option (Lp (Int) (Bool)))) NN (0:Int)).bind fun o=>o.thn (fun(x1:Int)=>(Y9 (fun(x2:Int)=>(bif decide (x2 < (List.length p0.Words:Int)) then ((idx p0.Words x2).bind fun u3=>(idx p1.Words x2).bind fun u4=>bif u3 != u4 then (some (Lp.ret false)) else (some (Lp.go (IntKind.wrap .i64 (x2+1))))) else (some (Lp.brk x2)):Option (Lp (Int) (Bool)))) NN (0:Int)).bind fun o=>o.thn (fun(x2:Int)=>some true) (fun r=>some r)) (fun r=>some r))

def D9 (p0:X8) (p1:List Int) (p2:I2):Option (Bool) :=
  bif (((((((decide (200 < (List.length p0.Code:Int))) || (decide (3000 < (List.length p0.Data:Int)))) || (decide (40 < (List.length p1:Int)))) || (decide (100 < (List.length p2.L:Int)))) || (decide (600 < p2.N))) || (decide (1099511627776 < p0.Limit))) || (decide (p0.Limit < (-1099511627776)))) then ((Q0g).bind fun y1=>some y1) else ((O7 p0 p1 p2.L p2.N).bind fun y2=>(Q2o (List.length p0.Code:Int) (List.length p0.Data:Int)).bind fun y3=>bif y2.2 != y3 then (some false) else (bif y2.2 != 0 then ((Q0g).bind fun y4=>some ((y4&&((List.length y2.1.Words:Int) == 0))&&(y2.1.Steps == 0))) else ((Q0g).bind fun y5=>bif y5 then ((W8 p0 p1 p2.L p2.N).bind fun y6=>(S4 y2.1 y6).bind fun y7=>some y7) else (some false))))
end Go.Proofs.YtecakklofhfphaaGreatDoor
