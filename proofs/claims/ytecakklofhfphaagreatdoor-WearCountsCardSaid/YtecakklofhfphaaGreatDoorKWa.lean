/- That Go functions compute their models. Printed by gen2.py. -/
import Derived.Test.YtecakklofhfphaaGreatDoorProg
import Derived.KernelRfl
import Derived.Test.YtecakklofhfphaaGreatDoorKFoc
import Derived.Test.YtecakklofhfphaaGreatDoorKTree
import Derived.Test.YtecakklofhfphaaGreatDoorKAuto
import Derived.Test.YtecakklofhfphaaGreatDoorKAuP
import Derived.Test.YtecakklofhfphaaGreatDoorKSeg
import Derived.Test.YtecakklofhfphaaGreatDoorKArr
import Derived.Test.YtecakklofhfphaaGreatDoorKErr
import Derived.Test.YtecakklofhfphaaGreatDoorKFlat
import Derived.Test.YtecakklofhfphaaGreatDoorKRangeM
import Derived.Test.YtecakklofhfphaaGreatDoorKPan
import Derived.Test.YtecakklofhfphaaGreatDoorKRange
import Derived.Test.YtecakklofhfphaaGreatDoorKM
set_option linter.unusedVariables false
namespace Go.Proofs.YtecakklofhfphaaGreatDoor
abbrev qZs (l:List UInt8):Value := .string ⟨l.toArray⟩
theorem qZt:True:=trivial
open _root_.Go.Proofs.Tryz
set_option maxRecDepth 100000
set_option maxHeartbeats 8000000
attribute [local irreducible] wpList wpQuiet Code.wp
variable {g:World} {T0:Nat→Prop} {w0:World} {R:List Z4}
def Q6a:Rp J4:=((F8 rStr (F8 (Q2 .u8) (F8 (Q2 .u32) (F8 (Q2 .u32) (Q2 .u32)))))).iso fun x=>(x.name,x.form,x.code,x.third,x.seventh)
theorem Q9v {T:Nat→Prop} {w:World} {cs:List Value} {x:J4} (h:Q6a.rp T w cs x):cs = [qZs x.name,.int .u8 x.form,.int .u32 x.code,.int .u32 x.third,.int .u32 x.seventh]:=by
  obtain⟨q1,y1,rfl,f1,g1⟩:=h
  cases f1
  obtain⟨q2,y2,rfl,f2,g2⟩:=g1
  cases f2
  obtain⟨q3,y3,rfl,f3,g3⟩:=g2
  cases f3
  obtain⟨q4,y4,rfl,f4,g4⟩:=g3
  cases f4
  cases g4
  exact rfl
theorem Z4a {T:Nat→Prop} {w:World} {x:J4}   : Q6a.rp T w [qZs x.name,.int .u8 x.form,.int .u32 x.code,.int .u32 x.third,.int .u32 x.seventh] x:=⟨_,_,rfl,rfl,⟨_,_,rfl,rfl,⟨_,_,rfl,rfl,⟨_,_,rfl,rfl,rfl⟩⟩⟩⟩
def Z9o:Rp V4:=((F8 (Q2 .i64) (F8 (Q2 .i64) (F8 (Q2 .i64) (F8 (Q2 .i64) (Q2 .i64)))))).iso fun x=>(x.Op,x.Rd,x.Rs1,x.Rs2,x.Imm)
theorem Q8t {T:Nat→Prop} {w:World} {cs:List Value} {x:V4} (h:Z9o.rp T w cs x):cs = [.int .i64 x.Op,.int .i64 x.Rd,.int .i64 x.Rs1,.int .i64 x.Rs2,.int .i64 x.Imm]:=by
  obtain⟨q1,y1,rfl,f1,g1⟩:=h
  cases f1
  obtain⟨q2,y2,rfl,f2,g2⟩:=g1
  cases f2
  obtain⟨q3,y3,rfl,f3,g3⟩:=g2
  cases f3
  obtain⟨q4,y4,rfl,f4,g4⟩:=g3
  cases f4
  cases g4
  exact rfl
theorem Y2g {T:Nat→Prop} {w:World} {x:V4}   : Z9o.rp T w [.int .i64 x.Op,.int .i64 x.Rd,.int .i64 x.Rs1,.int .i64 x.Rs2,.int .i64 x.Imm] x:=⟨_,_,rfl,rfl,⟨_,_,rfl,rfl,⟨_,_,rfl,rfl,⟨_,_,rfl,rfl,rfl⟩⟩⟩⟩
def Z6a:Rp X8:=((F8 (rSl (Q2 .u32)) (F8 (rSl (Q2 .u8)) (F8 (Q2 .i64) (Q2 .i64))))).iso fun x=>(x.Code,x.Data,x.Limit,x.Notes)
theorem Z5z {T:Nat→Prop} {w:World} {cs:List Value} {x:X8} (h:Z6a.rp T w cs x) : ∃(a0:Option Addr) (c0:Nat) (a1:Option Addr) (c1:Nat),cs = [.slice a0 (List.length x.Code) c0,.slice a1 (List.length x.Data) c1,.int .i64 x.Limit,.int .i64 x.Notes]∧SlR (Q2 .u32) T w (.slice a0 (List.length x.Code) c0) x.Code∧SlR (Q2 .u8) T w (.slice a1 (List.length x.Data) c1) x.Data:=by
  obtain⟨q1,y1,rfl,f1,g1⟩:=h
  obtain⟨v2,rfl,s2⟩:=f1
  obtain⟨b2,k2,rfl⟩:=s2.shape
  obtain⟨q3,y3,rfl,f3,g3⟩:=g1
  obtain⟨v4,rfl,s4⟩:=f3
  obtain⟨b4,k4,rfl⟩:=s4.shape
  obtain⟨q5,y5,rfl,f5,g5⟩:=g3
  cases f5
  cases g5
  exact⟨b2,k2,b4,k4,rfl,s2,s4⟩
theorem rGImage_mk {T:Nat→Prop} {w:World} {x:X8} {a0:Option Addr} {c0:Nat} {a1:Option Addr} {c1:Nat} (e0:SlR (Q2 .u32) T w (.slice a0 (List.length x.Code) c0) x.Code) (e1:SlR (Q2 .u8) T w (.slice a1 (List.length x.Data) c1) x.Data):Z6a.rp T w [.slice a0 (List.length x.Code) c0,.slice a1 (List.length x.Data) c1,.int .i64 x.Limit,.int .i64 x.Notes] x:=⟨_,_,rfl,⟨_,rfl,e0⟩,⟨_,_,rfl,⟨_,rfl,e1⟩,⟨_,_,rfl,rfl,rfl⟩⟩⟩
def Q5y:Rp I2:=((F8 (rSl (Q2 .i64)) (Q2 .i64))).iso fun x=>(x.L,x.N)
theorem Q9m {T:Nat→Prop} {w:World} {cs:List Value} {x:I2} (h:Q5y.rp T w cs x) : ∃(a0:Option Addr) (c0:Nat),cs = [.slice a0 (List.length x.L) c0,.int .i64 x.N]∧SlR (Q2 .i64) T w (.slice a0 (List.length x.L) c0) x.L:=by
  obtain⟨q1,y1,rfl,f1,g1⟩:=h
  obtain⟨v2,rfl,s2⟩:=f1
  obtain⟨b2,k2,rfl⟩:=s2.shape
  cases g1
  exact⟨b2,k2,rfl,s2⟩
theorem rlaw34Fail_mk {T:Nat→Prop} {w:World} {x:I2} {a0:Option Addr} {c0:Nat} (e0:SlR (Q2 .i64) T w (.slice a0 (List.length x.L) c0) x.L):Q5y.rp T w [.slice a0 (List.length x.L) c0,.int .i64 x.N] x:=⟨_,_,rfl,⟨_,rfl,e0⟩,rfl⟩
def Q6:Rp Y7:=((F8 rBool (F8 rBool Z9o))).iso fun x=>(x.seen,x.is,x.inst)
theorem Q9w {T:Nat→Prop} {w:World} {cs:List Value} {x:Y7} (h:Q6.rp T w cs x):cs = [.bool x.seen,.bool x.is,.int .i64 x.inst.Op,.int .i64 x.inst.Rd,.int .i64 x.inst.Rs1,.int .i64 x.inst.Rs2,.int .i64 x.inst.Imm]:=by
  obtain⟨q1,y1,rfl,f1,g1⟩:=h
  cases f1
  obtain⟨q2,y2,rfl,f2,g2⟩:=g1
  cases f2
  cases Q8t g2
  exact rfl
theorem P8 {T:Nat→Prop} {w:World} {x:Y7}   : Q6.rp T w [.bool x.seen,.bool x.is,.int .i64 x.inst.Op,.int .i64 x.inst.Rd,.int .i64 x.inst.Rs1,.int .i64 x.inst.Rs2,.int .i64 x.inst.Imm] x:=⟨_,_,rfl,rfl,⟨_,_,rfl,rfl,Y2g⟩⟩
def Z1:Rp K8:=((F8 (Q2 .u32) (Q2 .u32))).iso fun x=>(x.Seq,x.Val)
theorem Z4b {T:Nat→Prop} {w:World} {cs:List Value} {x:K8} (h:Z1.rp T w cs x):cs = [.int .u32 x.Seq,.int .u32 x.Val]:=by
  obtain⟨q1,y1,rfl,f1,g1⟩:=h
  cases f1
  cases g1
  exact rfl
theorem Q8s {T:Nat→Prop} {w:World} {x:K8}   : Z1.rp T w [.int .u32 x.Seq,.int .u32 x.Val] x:=⟨_,_,rfl,rfl,rfl⟩
def Q8q:Rp Y5:=((F8 (rSl (Q2 .i64)) (F8 (rSl (Q2 .i64)) (F8 (Q2 .i64) (F8 (Q2 .i64) (Q2 .i64)))))).iso fun x=>(x.Part,x.Words,x.Most,x.Steps,x.Fails)
theorem Y2c {T:Nat→Prop} {w:World} {cs:List Value} {x:Y5} (h:Q8q.rp T w cs x) : ∃(a0:Option Addr) (c0:Nat) (a1:Option Addr) (c1:Nat),cs = [.slice a0 (List.length x.Part) c0,.slice a1 (List.length x.Words) c1,.int .i64 x.Most,.int .i64 x.Steps,.int .i64 x.Fails]∧SlR (Q2 .i64) T w (.slice a0 (List.length x.Part) c0) x.Part∧SlR (Q2 .i64) T w (.slice a1 (List.length x.Words) c1) x.Words:=by
  obtain⟨q1,y1,rfl,f1,g1⟩:=h
  obtain⟨v2,rfl,s2⟩:=f1
  obtain⟨b2,k2,rfl⟩:=s2.shape
  obtain⟨q3,y3,rfl,f3,g3⟩:=g1
  obtain⟨v4,rfl,s4⟩:=f3
  obtain⟨b4,k4,rfl⟩:=s4.shape
  obtain⟨q5,y5,rfl,f5,g5⟩:=g3
  cases f5
  obtain⟨q6,y6,rfl,f6,g6⟩:=g5
  cases f6
  cases g6
  exact⟨b2,k2,b4,k4,rfl,s2,s4⟩
theorem rref34Tally_mk {T:Nat→Prop} {w:World} {x:Y5} {a0:Option Addr} {c0:Nat} {a1:Option Addr} {c1:Nat} (e0:SlR (Q2 .i64) T w (.slice a0 (List.length x.Part) c0) x.Part) (e1:SlR (Q2 .i64) T w (.slice a1 (List.length x.Words) c1) x.Words):Q8q.rp T w [.slice a0 (List.length x.Part) c0,.slice a1 (List.length x.Words) c1,.int .i64 x.Most,.int .i64 x.Steps,.int .i64 x.Fails] x:=⟨_,_,rfl,⟨_,rfl,e0⟩,⟨_,_,rfl,⟨_,rfl,e1⟩,⟨_,_,rfl,rfl,⟨_,_,rfl,rfl,rfl⟩⟩⟩⟩
def Q5p:Rp Q0:=((F8 (rSl (Q2 .u32)) (F8 (rSl (Q2 .u8)) (F8 (rSl (Q2 .u32)) (F8 (rSl (Q2 .u32)) (F8 (Q2 .i64) (F8 (Q2 .u32) (F8 (Q2 .u32) (F8 (rSl Z1) (F8 (Q2 .i64) (F8 (Q2 .i64) (Q2 .u32)))))))))))).iso fun x=>(x.Code,x.Data,x.Inputs,x.Regs,x.Pc,x.Seq,x.Index,x.Log,x.Steps,x.State,x.Exit)
theorem Z9l {T:Nat→Prop} {w:World} {cs:List Value} {x:Q0} (h:Q5p.rp T w cs x) : ∃(a0:Option Addr) (c0:Nat) (a1:Option Addr) (c1:Nat) (a2:Option Addr) (c2:Nat) (a3:Option Addr) (c3:Nat) (a7:Option Addr) (c7:Nat),cs = [.slice a0 (List.length x.Code) c0,.slice a1 (List.length x.Data) c1,.slice a2 (List.length x.Inputs) c2,.slice a3 (List.length x.Regs) c3,.int .i64 x.Pc,.int .u32 x.Seq,.int .u32 x.Index,.slice a7 (List.length x.Log) c7,.int .i64 x.Steps,.int .i64 x.State,.int .u32 x.Exit]∧SlR (Q2 .u32) T w (.slice a0 (List.length x.Code) c0) x.Code∧SlR (Q2 .u8) T w (.slice a1 (List.length x.Data) c1) x.Data∧SlR (Q2 .u32) T w (.slice a2 (List.length x.Inputs) c2) x.Inputs∧SlR (Q2 .u32) T w (.slice a3 (List.length x.Regs) c3) x.Regs∧SlR Z1 T w (.slice a7 (List.length x.Log) c7) x.Log:=by
  obtain⟨q1,y1,rfl,f1,g1⟩:=h
  obtain⟨v2,rfl,s2⟩:=f1
  obtain⟨b2,k2,rfl⟩:=s2.shape
  obtain⟨q3,y3,rfl,f3,g3⟩:=g1
  obtain⟨v4,rfl,s4⟩:=f3
  obtain⟨b4,k4,rfl⟩:=s4.shape
  obtain⟨q5,y5,rfl,f5,g5⟩:=g3
  obtain⟨v6,rfl,s6⟩:=f5
  obtain⟨b6,k6,rfl⟩:=s6.shape
  obtain⟨q7,y7,rfl,f7,g7⟩:=g5
  obtain⟨v8,rfl,s8⟩:=f7
  obtain⟨b8,k8,rfl⟩:=s8.shape
  obtain⟨q9,y9,rfl,f9,g9⟩:=g7
  cases f9
  obtain⟨q10,y10,rfl,f10,g10⟩:=g9
  cases f10
  obtain⟨q11,y11,rfl,f11,g11⟩:=g10
  cases f11
  obtain⟨q12,y12,rfl,f12,g12⟩:=g11
  obtain⟨v13,rfl,s13⟩:=f12
  obtain⟨b13,k13,rfl⟩:=s13.shape
  obtain⟨q14,y14,rfl,f14,g14⟩:=g12
  cases f14
  obtain⟨q15,y15,rfl,f15,g15⟩:=g14
  cases f15
  cases g15
  exact⟨b2,k2,b4,k4,b6,k6,b8,k8,b13,k13,rfl,s2,s4,s6,s8,s13⟩
theorem Y2d {T:Nat→Prop} {w:World} {x:Q0} {a0:Option Addr} {c0:Nat} {a1:Option Addr} {c1:Nat} {a2:Option Addr} {c2:Nat} {a3:Option Addr} {c3:Nat} {a7:Option Addr} {c7:Nat} (e0:SlR (Q2 .u32) T w (.slice a0 (List.length x.Code) c0) x.Code) (e1:SlR (Q2 .u8) T w (.slice a1 (List.length x.Data) c1) x.Data) (e2:SlR (Q2 .u32) T w (.slice a2 (List.length x.Inputs) c2) x.Inputs) (e3:SlR (Q2 .u32) T w (.slice a3 (List.length x.Regs) c3) x.Regs) (e4:SlR Z1 T w (.slice a7 (List.length x.Log) c7) x.Log):Q5p.rp T w [.slice a0 (List.length x.Code) c0,.slice a1 (List.length x.Data) c1,.slice a2 (List.length x.Inputs) c2,.slice a3 (List.length x.Regs) c3,.int .i64 x.Pc,.int .u32 x.Seq,.int .u32 x.Index,.slice a7 (List.length x.Log) c7,.int .i64 x.Steps,.int .i64 x.State,.int .u32 x.Exit] x:=⟨_,_,rfl,⟨_,rfl,e0⟩,⟨_,_,rfl,⟨_,rfl,e1⟩,⟨_,_,rfl,⟨_,rfl,e2⟩,⟨_,_,rfl,⟨_,rfl,e3⟩,⟨_,_,rfl,rfl,⟨_,_,rfl,rfl,⟨_,_,rfl,rfl,⟨_,_,rfl,⟨_,rfl,e4⟩,⟨_,_,rfl,rfl,⟨_,_,rfl,rfl,rfl⟩⟩⟩⟩⟩⟩⟩⟩⟩⟩
abbrev Z8 (p:Q0) (H1:List Value→Z4) (a1:Option Addr) (c1:Nat) (a2:Option Addr) (n1:Nat) (c2:Nat) (a3:Option Addr) (c3:Nat) (a4:Option Addr) (n2:Nat) (c4:Nat) (a5:Option Addr) (n3:Nat) (c5:Nat):List Z4 := [H1 [.slice a1 (List.length p.Code) c1,.slice a2 n1 c2,.slice a3 (List.length p.Inputs) c3,.slice a4 n2 c4,.int .i64 p.Pc,.int .u32 p.Seq,.int .u32 p.Index,.slice a5 n3 c5,.int .i64 p.Steps,.int .i64 p.State,.int .u32 p.Exit],Z0 (Q2 .u8) 5 (.slice a2 n1 c2) p.Data,Z0 (Q2 .u32) 59 (.slice a4 n2 c4) p.Regs,Z0 Z1 224 (.slice a5 n3 c5) p.Log]
def Z2u (x:Int):List Value := [.int .i64 x]
theorem Q3q : ∀ x,(Z2u x).length=1:=fun _=>rfl
theorem enI_i64'_rp (T:Nat→Prop) (w:World) (x:Int):(Q2 .i64).rp T w (Z2u x) x:=rfl
def Z9 (x:Int):List Value := [.int .u32 x]
theorem Q5 : ∀ x,(Z9 x).length=1:=fun _=>rfl
theorem enI_u32'_rp (T:Nat→Prop) (w:World) (x:Int):(Q2 .u32).rp T w (Z9 x) x:=rfl
def E7 (x:J4):List Value := [qZs x.name,.int .u8 x.form,.int .u32 x.code,.int .u32 x.third,.int .u32 x.seventh]
theorem B0 : ∀ x,(E7 x).length=5:=fun _=>rfl
theorem Y3h (T:Nat→Prop) (w:World) (x:J4):Q6a.rp T w (E7 x) x:=Z4a
theorem cf4:Q7 Tryz.prog 4:=⟨⟨_,Tryz.func4,by kernel_rfl,by kernel_rfl⟩⟩
theorem cf5:Q7 Tryz.prog 5:=⟨⟨_,Tryz.func5,by kernel_rfl,by kernel_rfl⟩⟩
theorem cf6:Q7 Tryz.prog 6:=⟨⟨_,Tryz.func6,by kernel_rfl,by kernel_rfl⟩⟩
theorem cf7:Q7 Tryz.prog 7:=⟨⟨_,Tryz.func7,by kernel_rfl,by kernel_rfl⟩⟩
theorem cf8:Q7 Tryz.prog 8:=⟨⟨_,Tryz.func8,by kernel_rfl,by kernel_rfl⟩⟩
theorem cf10:Q7 Tryz.prog 10:=⟨⟨_,Tryz.func10,by kernel_rfl,by kernel_rfl⟩⟩
theorem cf11:Q7 Tryz.prog 11:=⟨⟨_,Tryz.func11,by kernel_rfl,by kernel_rfl⟩⟩
theorem cf12:Q7 Tryz.prog 12:=⟨⟨_,Tryz.func12,by kernel_rfl,by kernel_rfl⟩⟩
theorem cf13:Q7 Tryz.prog 13:=⟨⟨_,Tryz.func13,by kernel_rfl,by kernel_rfl⟩⟩
theorem cf14:Q7 Tryz.prog 14:=⟨⟨_,Tryz.func14,by kernel_rfl,by kernel_rfl⟩⟩
theorem cf15:Q7 Tryz.prog 15:=⟨⟨_,Tryz.func15,by kernel_rfl,by kernel_rfl⟩⟩
theorem cf16:Q7 Tryz.prog 16:=⟨⟨_,Tryz.func16,by kernel_rfl,by kernel_rfl⟩⟩
theorem cf17:Q7 Tryz.prog 17:=⟨⟨_,Tryz.func17,by kernel_rfl,by kernel_rfl⟩⟩
theorem cf18:Q7 Tryz.prog 18:=⟨⟨_,Tryz.func18,by kernel_rfl,by kernel_rfl⟩⟩
theorem cf23:Q7 Tryz.prog 23:=⟨⟨_,Tryz.func23,by kernel_rfl,by kernel_rfl⟩⟩
theorem cf24:Q7 Tryz.prog 24:=⟨⟨_,Tryz.func24,by kernel_rfl,by kernel_rfl⟩⟩
theorem cf25:Q7 Tryz.prog 25:=⟨⟨_,Tryz.func25,by kernel_rfl,by kernel_rfl⟩⟩
theorem cf26:Q7 Tryz.prog 26:=⟨⟨_,Tryz.func26,by kernel_rfl,by kernel_rfl⟩⟩
theorem cf27:Q7 Tryz.prog 27:=⟨⟨_,Tryz.func27,by kernel_rfl,by kernel_rfl⟩⟩
theorem cf28:Q7 Tryz.prog 28:=⟨⟨_,Tryz.func28,by kernel_rfl,by kernel_rfl⟩⟩
theorem cf29:Q7 Tryz.prog 29:=⟨⟨_,Tryz.func29,by kernel_rfl,by kernel_rfl⟩⟩
theorem Q8h:Q7 Tryz.prog 30:=⟨⟨_,Tryz.func30,by kernel_rfl,by kernel_rfl⟩⟩
theorem cf31:Q7 Tryz.prog 31:=⟨⟨_,Tryz.func31,by kernel_rfl,by kernel_rfl⟩⟩
theorem cf44:Q7 Tryz.prog 44:=⟨⟨_,Tryz.func44,by kernel_rfl,by kernel_rfl⟩⟩
theorem cf45:Q7 Tryz.prog 45:=⟨⟨_,Tryz.func45,by kernel_rfl,by kernel_rfl⟩⟩
theorem cf46:Q7 Tryz.prog 46:=⟨⟨_,Tryz.func46,by kernel_rfl,by kernel_rfl⟩⟩
theorem cf47:Q7 Tryz.prog 47:=⟨⟨_,Tryz.func47,by kernel_rfl,by kernel_rfl⟩⟩
theorem cf48:Q7 Tryz.prog 48:=⟨⟨_,Tryz.func48,by kernel_rfl,by kernel_rfl⟩⟩
theorem cf49:Q7 Tryz.prog 49:=⟨⟨_,Tryz.func49,by kernel_rfl,by kernel_rfl⟩⟩
theorem cf50:Q7 Tryz.prog 50:=⟨⟨_,Tryz.func50,by kernel_rfl,by kernel_rfl⟩⟩
theorem cf51:Q7 Tryz.prog 51:=⟨⟨_,Tryz.func51,by kernel_rfl,by kernel_rfl⟩⟩
theorem cf52:Q7 Tryz.prog 52:=⟨⟨_,Tryz.func52,by kernel_rfl,by kernel_rfl⟩⟩
theorem cf53:Q7 Tryz.prog 53:=⟨⟨_,Tryz.func53,by kernel_rfl,by kernel_rfl⟩⟩
theorem cf54:Q7 Tryz.prog 54:=⟨⟨_,Tryz.func54,by kernel_rfl,by kernel_rfl⟩⟩
theorem L6:Q7 Tryz.prog 55:=⟨⟨_,Tryz.func55,by kernel_rfl,by kernel_rfl⟩⟩
theorem cf56:Q7 Tryz.prog 56:=⟨⟨_,Tryz.func56,by kernel_rfl,by kernel_rfl⟩⟩
theorem cf57:Q7 Tryz.prog 57:=⟨⟨_,Tryz.func57,by kernel_rfl,by kernel_rfl⟩⟩
theorem cf58:Q7 Tryz.prog 58:=⟨⟨_,Tryz.func58,by kernel_rfl,by kernel_rfl⟩⟩
theorem cf59:Q7 Tryz.prog 59:=⟨⟨_,Tryz.func59,by kernel_rfl,by kernel_rfl⟩⟩
theorem cf60:Q7 Tryz.prog 60:=⟨⟨_,Tryz.func60,by kernel_rfl,by kernel_rfl⟩⟩
theorem cf61:Q7 Tryz.prog 61:=⟨⟨_,Tryz.func61,by kernel_rfl,by kernel_rfl⟩⟩
theorem cf62:Q7 Tryz.prog 62:=⟨⟨_,Tryz.func62,by kernel_rfl,by kernel_rfl⟩⟩
theorem cf63:Q7 Tryz.prog 63:=⟨⟨_,Tryz.func63,by kernel_rfl,by kernel_rfl⟩⟩
theorem cf86:Q7 Tryz.prog 86:=⟨⟨_,Tryz.func86,by kernel_rfl,by kernel_rfl⟩⟩
theorem cf87:Q7 Tryz.prog 87:=⟨⟨_,Tryz.func87,by kernel_rfl,by kernel_rfl⟩⟩
theorem cf88:Q7 Tryz.prog 88:=⟨⟨_,Tryz.func88,by kernel_rfl,by kernel_rfl⟩⟩
theorem cf89:Q7 Tryz.prog 89:=⟨⟨_,Tryz.func89,by kernel_rfl,by kernel_rfl⟩⟩
theorem Q6i:Q7 Tryz.prog 90:=⟨⟨_,Tryz.func90,by kernel_rfl,by kernel_rfl⟩⟩
theorem cf91:Q7 Tryz.prog 91:=⟨⟨_,Tryz.func91,by kernel_rfl,by kernel_rfl⟩⟩
theorem cf92:Q7 Tryz.prog 92:=⟨⟨_,Tryz.func92,by kernel_rfl,by kernel_rfl⟩⟩
theorem cf93:Q7 Tryz.prog 93:=⟨⟨_,Tryz.func93,by kernel_rfl,by kernel_rfl⟩⟩
theorem cf94:Q7 Tryz.prog 94:=⟨⟨_,Tryz.func94,by kernel_rfl,by kernel_rfl⟩⟩
theorem cf95:Q7 Tryz.prog 95:=⟨⟨_,Tryz.func95,by kernel_rfl,by kernel_rfl⟩⟩
theorem cf96:Q7 Tryz.prog 96:=⟨⟨_,Tryz.func96,by kernel_rfl,by kernel_rfl⟩⟩
theorem cf97:Q7 Tryz.prog 97:=⟨⟨_,Tryz.func97,by kernel_rfl,by kernel_rfl⟩⟩
theorem cf98:Q7 Tryz.prog 98:=⟨⟨_,Tryz.func98,by kernel_rfl,by kernel_rfl⟩⟩
theorem cf99:Q7 Tryz.prog 99:=⟨⟨_,Tryz.func99,by kernel_rfl,by kernel_rfl⟩⟩
theorem cf100:Q7 Tryz.prog 100:=⟨⟨_,Tryz.func100,by kernel_rfl,by kernel_rfl⟩⟩
theorem cf101:Q7 Tryz.prog 101:=⟨⟨_,Tryz.func101,by kernel_rfl,by kernel_rfl⟩⟩
theorem cf102:Q7 Tryz.prog 102:=⟨⟨_,Tryz.func102,by kernel_rfl,by kernel_rfl⟩⟩
theorem cf103:Q7 Tryz.prog 103:=⟨⟨_,Tryz.func103,by kernel_rfl,by kernel_rfl⟩⟩
theorem Q4z:Q7 Tryz.prog 104:=⟨⟨_,Tryz.func104,by kernel_rfl,by kernel_rfl⟩⟩
theorem cf105:Q7 Tryz.prog 105:=⟨⟨_,Tryz.func105,by kernel_rfl,by kernel_rfl⟩⟩
theorem cf106:Q7 Tryz.prog 106:=⟨⟨_,Tryz.func106,by kernel_rfl,by kernel_rfl⟩⟩
theorem cf107:Q7 Tryz.prog 107:=⟨⟨_,Tryz.func107,by kernel_rfl,by kernel_rfl⟩⟩
theorem cf108:Q7 Tryz.prog 108:=⟨⟨_,Tryz.func108,by kernel_rfl,by kernel_rfl⟩⟩
theorem cf109:Q7 Tryz.prog 109:=⟨⟨_,Tryz.func109,by kernel_rfl,by kernel_rfl⟩⟩
theorem cf110:Q7 Tryz.prog 110:=⟨⟨_,Tryz.func110,by kernel_rfl,by kernel_rfl⟩⟩
theorem cf111:Q7 Tryz.prog 111:=⟨⟨_,Tryz.func111,by kernel_rfl,by kernel_rfl⟩⟩
theorem cf112:Q7 Tryz.prog 112:=⟨⟨_,Tryz.func112,by kernel_rfl,by kernel_rfl⟩⟩
theorem cf113:Q7 Tryz.prog 113:=⟨⟨_,Tryz.func113,by kernel_rfl,by kernel_rfl⟩⟩
theorem cf114:Q7 Tryz.prog 114:=⟨⟨_,Tryz.func114,by kernel_rfl,by kernel_rfl⟩⟩
theorem cf165:Q7 Tryz.prog 165:=⟨⟨_,Tryz.func165,by kernel_rfl,by kernel_rfl⟩⟩
theorem cf166:Q7 Tryz.prog 166:=⟨⟨_,Tryz.func166,by kernel_rfl,by kernel_rfl⟩⟩
theorem cf167:Q7 Tryz.prog 167:=⟨⟨_,Tryz.func167,by kernel_rfl,by kernel_rfl⟩⟩
theorem cf168:Q7 Tryz.prog 168:=⟨⟨_,Tryz.func168,by kernel_rfl,by kernel_rfl⟩⟩
theorem cf169:Q7 Tryz.prog 169:=⟨⟨_,Tryz.func169,by kernel_rfl,by kernel_rfl⟩⟩
theorem cf170:Q7 Tryz.prog 170:=⟨⟨_,Tryz.func170,by kernel_rfl,by kernel_rfl⟩⟩
theorem cf171:Q7 Tryz.prog 171:=⟨⟨_,Tryz.func171,by kernel_rfl,by kernel_rfl⟩⟩
theorem cf172:Q7 Tryz.prog 172:=⟨⟨_,Tryz.func172,by kernel_rfl,by kernel_rfl⟩⟩
theorem cf173:Q7 Tryz.prog 173:=⟨⟨_,Tryz.func173,by kernel_rfl,by kernel_rfl⟩⟩
theorem cf174:Q7 Tryz.prog 174:=⟨⟨_,Tryz.func174,by kernel_rfl,by kernel_rfl⟩⟩
theorem cf175:Q7 Tryz.prog 175:=⟨⟨_,Tryz.func175,by kernel_rfl,by kernel_rfl⟩⟩
theorem cf176:Q7 Tryz.prog 176:=⟨⟨_,Tryz.func176,by kernel_rfl,by kernel_rfl⟩⟩
theorem cf177:Q7 Tryz.prog 177:=⟨⟨_,Tryz.func177,by kernel_rfl,by kernel_rfl⟩⟩
theorem cf178:Q7 Tryz.prog 178:=⟨⟨_,Tryz.func178,by kernel_rfl,by kernel_rfl⟩⟩
theorem cf179:Q7 Tryz.prog 179:=⟨⟨_,Tryz.func179,by kernel_rfl,by kernel_rfl⟩⟩
theorem cf180:Q7 Tryz.prog 180:=⟨⟨_,Tryz.func180,by kernel_rfl,by kernel_rfl⟩⟩
theorem cf181:Q7 Tryz.prog 181:=⟨⟨_,Tryz.func181,by kernel_rfl,by kernel_rfl⟩⟩
theorem cf182:Q7 Tryz.prog 182:=⟨⟨_,Tryz.func182,by kernel_rfl,by kernel_rfl⟩⟩
theorem cf183:Q7 Tryz.prog 183:=⟨⟨_,Tryz.func183,by kernel_rfl,by kernel_rfl⟩⟩
theorem cf184:Q7 Tryz.prog 184:=⟨⟨_,Tryz.func184,by kernel_rfl,by kernel_rfl⟩⟩
theorem cf185:Q7 Tryz.prog 185:=⟨⟨_,Tryz.func185,by kernel_rfl,by kernel_rfl⟩⟩
theorem cf300:Q7 Tryz.prog 300:=⟨⟨_,Tryz.func300,by kernel_rfl,by kernel_rfl⟩⟩
theorem cf301:Q7 Tryz.prog 301:=⟨⟨_,Tryz.func301,by kernel_rfl,by kernel_rfl⟩⟩
theorem cf302:Q7 Tryz.prog 302:=⟨⟨_,Tryz.func302,by kernel_rfl,by kernel_rfl⟩⟩
theorem cf303:Q7 Tryz.prog 303:=⟨⟨_,Tryz.func303,by kernel_rfl,by kernel_rfl⟩⟩
theorem cf304:Q7 Tryz.prog 304:=⟨⟨_,Tryz.func304,by kernel_rfl,by kernel_rfl⟩⟩
theorem cf305:Q7 Tryz.prog 305:=⟨⟨_,Tryz.func305,by kernel_rfl,by kernel_rfl⟩⟩
theorem cf306:Q7 Tryz.prog 306:=⟨⟨_,Tryz.func306,by kernel_rfl,by kernel_rfl⟩⟩
theorem cf307:Q7 Tryz.prog 307:=⟨⟨_,Tryz.func307,by kernel_rfl,by kernel_rfl⟩⟩
theorem cf308:Q7 Tryz.prog 308:=⟨⟨_,Tryz.func308,by kernel_rfl,by kernel_rfl⟩⟩
theorem cf309:Q7 Tryz.prog 309:=⟨⟨_,Tryz.func309,by kernel_rfl,by kernel_rfl⟩⟩
theorem cf310:Q7 Tryz.prog 310:=⟨⟨_,Tryz.func310,by kernel_rfl,by kernel_rfl⟩⟩
theorem cf402:Q7 Tryz.prog 402:=⟨⟨_,Tryz.func402,by kernel_rfl,by kernel_rfl⟩⟩
theorem cf403:Q7 Tryz.prog 403:=⟨⟨_,Tryz.func403,by kernel_rfl,by kernel_rfl⟩⟩
theorem cf404:Q7 Tryz.prog 404:=⟨⟨_,Tryz.func404,by kernel_rfl,by kernel_rfl⟩⟩
theorem cf405:Q7 Tryz.prog 405:=⟨⟨_,Tryz.func405,by kernel_rfl,by kernel_rfl⟩⟩
theorem el3:A7 Tryz.prog 3 1:=⟨by kernel_rfl,by decide⟩
theorem el5:A7 Tryz.prog 5 1:=⟨by kernel_rfl,by decide⟩
theorem el59:A7 Tryz.prog 59 1:=⟨by kernel_rfl,by decide⟩
theorem Z8m:A7 Tryz.prog 218 7:=⟨by kernel_rfl,by decide⟩
theorem el224:A7 Tryz.prog 224 2:=⟨by kernel_rfl,by decide⟩
theorem el403:A7 Tryz.prog 403 2:=⟨by kernel_rfl,by decide⟩
theorem mix:Tryz.prog.follows .mixedOrders=true:=by kernel_rfl
attribute [local irreducible] K6 B3 execOp Program.underlying sizeOf isAgg zeroValue
/-! Steps that find by themselves what they need. -/
theorem tyU {t:TypeId} {d:TypeDesc} (h:Tryz.prog.underlying t=some d:=by first | exact Tryz.underlying26 | exact Tryz.underlying59 | exact Tryz.underlying62 | exact Tryz.underlying3 | exact Tryz.underlying88 | exact Tryz.underlying86 | exact Tryz.underlying22 | exact Tryz.underlying23 | exact Tryz.underlying21 | exact Tryz.underlying124 | exact Tryz.underlying82 | exact Tryz.underlying25 | exact Tryz.underlying32 | exact Tryz.underlying39 | exact Tryz.underlying2 | exact Tryz.underlying207 | exact Tryz.underlying80 | exact Tryz.underlying83 | exact Tryz.underlying405 | exact Tryz.underlying49 | exact Tryz.underlying28 | exact Tryz.underlying5 | exact Tryz.underlying218 | exact Tryz.underlying30 | exact Tryz.underlying208 | exact Tryz.underlying84 | exact Tryz.underlying60):Tryz.prog.underlying t=some d:=h
theorem tyS {t:TypeId} {z:Nat} (h : ∀ w,(sizeOf t).run Tryz.prog w = .ok z w:=by first | exact Tryz.sizeOf3 | exact Tryz.sizeOf59 | exact Tryz.sizeOf124 | exact Tryz.sizeOf5 | exact Tryz.sizeOf82 | exact Tryz.sizeOf22 | exact Tryz.sizeOf88 | exact Tryz.sizeOf23 | exact Tryz.sizeOf26 | exact Tryz.sizeOf25 | exact Tryz.sizeOf207 | exact Tryz.sizeOf32 | exact Tryz.sizeOf80 | exact Tryz.sizeOf39 | exact Tryz.sizeOf4 | exact Tryz.sizeOf218 | exact Tryz.sizeOf208 | exact Tryz.sizeOf84 | exact Tryz.sizeOf30 | exact Tryz.sizeOf60 | exact Tryz.sizeOf83 | exact Tryz.sizeOf403 | exact Tryz.sizeOf224) : ∀ w,(sizeOf t).run Tryz.prog w = .ok z w:=h
theorem tyA {t:TypeId} {z:Bool} (h : ∀ w,(isAgg t).run Tryz.prog w = .ok z w:=by first | exact Tryz.isAgg3 | exact Tryz.isAgg59 | exact Tryz.isAgg124 | exact Tryz.isAgg26 | exact Tryz.isAgg22 | exact Tryz.isAgg23 | exact Tryz.isAgg25 | exact Tryz.isAgg5 | exact Tryz.isAgg88 | exact Tryz.isAgg207 | exact Tryz.isAgg49 | exact Tryz.isAgg32 | exact Tryz.isAgg4 | exact Tryz.isAgg39 | exact Tryz.isAgg84 | exact Tryz.isAgg60 | exact Tryz.isAgg208 | exact Tryz.isAgg83 | exact Tryz.isAgg55) : ∀ w,(isAgg t).run Tryz.prog w = .ok z w:=h
theorem tyZ {t:TypeId} {z:Value} (h : ∀ w,(zeroValue t).run Tryz.prog w = .ok z w:=by first | exact Tryz.zeroValue3 | exact Tryz.zeroValue124 | exact Tryz.zeroValue88 | exact Tryz.zeroValue39 | exact Tryz.zeroValue218 | exact Tryz.zeroValue32 | exact Tryz.zeroValue208 | exact Tryz.zeroValue207 | exact Tryz.zeroValue59 | exact Tryz.zeroValue403 | exact Tryz.zeroValue5 | exact Tryz.zeroValue224) : ∀ w,(zeroValue t).run Tryz.prog w = .ok z w:=h
theorem opnS {α : Type} {r:Rp α} {T:Nat→Prop} {w:World} {u : α} {cs:List Value} (h : ∀ c0,r.rp T w c0 u→c0=cs:=by first | exact fun _ h=>h | exact fun _ h=>Q9v h | exact fun _ h=>Q8t h | exact fun _ h=>Q9w h | exact fun _ h=>Z4b h) : ∀ c0,r.rp T w c0 u→c0=cs:=h
theorem opv {P:Program} {n:NF} {J:Nat→Value} {L:List (Nat×Value)} {w:World} {o:Oper} {v:Value} (h:(execOp (ev n J L) o).run P w = .ok (.value v) w:=by
  first | ((with_reducible apply r_mx); first | exact(rfl:_=Value.int _ _) | exact(rfl:_=Value.bool _) | exact(rfl:_=Value.slice _ _ _) | exact(rfl:_=Value.pointer _) | exact(rfl:_=Value.string _) | exact(rfl:_=Value.agg _) | exact(rfl:_=Value.func _ _ _) | exact(rfl:_=Value.tuple _) | exact(rfl:_=Value.map _)) | ((with_reducible apply r_zx); first | exact(rfl:_=Value.int _ _) | exact(rfl:_=Value.bool _) | exact(rfl:_=Value.slice _ _ _) | exact(rfl:_=Value.pointer _) | exact(rfl:_=Value.string _) | exact(rfl:_=Value.agg _) | exact(rfl:_=Value.func _ _ _) | exact(rfl:_=Value.tuple _) | exact(rfl:_=Value.map _)) | ((with_reducible apply J8); (exact rfl); (exact rfl); (exact rfl)) | ((with_reducible apply r_faP); (exact rfl); (exact tyU); (exact rfl); (exact tyS); (exact rfl)) | ((with_reducible apply I8); (exact rfl); (exact tyU); (exact rfl); (exact tyS); (exact rfl)) | ((with_reducible apply K3); (exact rfl); (exact tyA); (first | exact Sep.cell0 (by assumption) atS (by exact rfl) | exact cellsAt.get (by assumption) (by exact rfl) | exact cellsAt.get0 (by assumption) (by exact rfl) | exact elG Q7t (by assumption) (by exact rfl) opnS (by exact rfl) | exact elG0 Q7t (by assumption) (by exact rfl) opnS (by exact rfl) | exact Sep.cellL (by assumption) (by assumption) atS (by exact rfl) | exact Sep.cellL0 (by assumption) (by assumption) atS (by exact rfl) | exact cellsAt.get (cellsAt.sameT (by assumption) (by assumption) ch) (by exact rfl) | exact cellsAt.get0 (cellsAt.sameT (by assumption) (by assumption) ch) (by exact rfl))) | ((with_reducible apply V2); (exact rfl); (first | assumption | exact rfl); (exact rfl)) | ((with_reducible apply V1); (exact rfl); (first | assumption | exact rfl); (exact rfl)) | ((with_reducible apply r_ex0); (exact rfl)) | ((with_reducible apply r_ex1); (exact rfl)) | ((with_reducible apply r_ex2); (exact rfl)) | ((with_reducible apply r_ex3); (exact rfl)) | ((with_reducible apply r_ixc); (exact rfl); (exact rfl); (exact tyU); (exact tyS); (exact Q7t); (exact rfl); (assumption)) | ((with_reducible apply r_ixf); (assumption); (exact rfl); (exact tyU); (exact tyS); (assumption); (assumption); (assumption)) | ((with_reducible apply r_ldE); (exact rfl); (exact tyA); (exact tyS); (first | assumption | exact Sep.cellsA (by assumption) atS | exact elS Q7t (by assumption) (by exact rfl) opnS | exact Sep.cellsP (by assumption) (by assumption) atS | exact cellsAt.sameT (by assumption) (by assumption) ch); (exact rfl)) | ((with_reducible apply r_ldP); (exact rfl); (exact tyA); (exact tyS); (assumption); (exact atS); (first | exact(rfl:_ = [_]) | exact(rfl:_ = [_,_]) | exact(rfl:_ = [_,_,_]) | exact(rfl:_ = [_,_,_,_]) | exact(rfl:_ = [_,_,_,_,_]) | exact(rfl:_ = [_,_,_,_,_,_]) | exact(rfl:_ = [_,_,_,_,_,_,_]) | exact(rfl:_ = [_,_,_,_,_,_,_,_]) | exact(rfl:_ = [_,_,_,_,_,_,_,_,_]) | exact(rfl:_ = [_,_,_,_,_,_,_,_,_,_]) | exact(rfl:_ = [_,_,_,_,_,_,_,_,_,_,_]) | exact(rfl:_ = [_,_,_,_,_,_,_,_,_,_,_,_]) | exact(rfl:_ = [_,_,_,_,_,_,_,_,_,_,_,_,_]) | exact(rfl:_ = [_,_,_,_,_,_,_,_,_,_,_,_,_,_]) | exact(rfl:_ = [_,_,_,_,_,_,_,_,_,_,_,_,_,_,_])); (exact rfl)) | ((with_reducible apply r_cv); (exact rfl); (exact tyU); (exact tyU)) | ((with_reducible apply r_lnt); (exact rfl); (exact tyU)) | ((with_reducible apply r_lnW); (exact rfl); (exact tyU); (exact Q7t)) | ((with_reducible apply Q7x); (exact rfl); (exact tyU)) | ((with_reducible apply r_sqL); (exact rfl); (exact rfl)) | ((with_reducible apply r_snL); (exact rfl); (exact rfl)) | ((with_reducible apply r_nt); (exact rfl)) | ((with_reducible apply r_nc); (exact rfl)) | ((with_reducible apply r_ng); (exact rfl)) | ((with_reducible apply r_cm); (exact rfl)) | ((with_reducible apply Q7y); (exact rfl); (exact rfl); (decide)) | ((with_reducible apply Q4l); (exact rfl); (exact rfl); (decide)) | ((with_reducible apply Q3u); (exact rfl); (exact rfl); (decide)) | ((with_reducible apply r_iq); (exact rfl); (exact rfl); (decide))):(execOp (ev n J L) o).run P w = .ok (.value v) w:=h
theorem opq {P:Program} {n:NF} {J:Nat→Value} {L:List (Nat×Value)} {w:World} {o:Oper} {v:Value} (h:(execOp (ev n J L) o).run P w = .ok (.value v) w:=by
  first | ((with_reducible apply r_mx); first | exact(rfl:_=Value.int _ _) | exact(rfl:_=Value.bool _) | exact(rfl:_=Value.slice _ _ _) | exact(rfl:_=Value.pointer _) | exact(rfl:_=Value.string _) | exact(rfl:_=Value.agg _) | exact(rfl:_=Value.func _ _ _) | exact(rfl:_=Value.tuple _) | exact(rfl:_=Value.map _)) | ((with_reducible apply r_zx); first | exact(rfl:_=Value.int _ _) | exact(rfl:_=Value.bool _) | exact(rfl:_=Value.slice _ _ _) | exact(rfl:_=Value.pointer _) | exact(rfl:_=Value.string _) | exact(rfl:_=Value.agg _) | exact(rfl:_=Value.func _ _ _) | exact(rfl:_=Value.tuple _) | exact(rfl:_=Value.map _)) | ((with_reducible apply J8); (exact rfl); (exact rfl); (exact rfl)) | ((with_reducible apply r_faP); (exact rfl); (exact tyU); (exact rfl); (exact tyS); (exact rfl)) | ((with_reducible apply I8); (exact rfl); (exact tyU); (exact rfl); (exact tyS); (exact rfl)) | ((with_reducible apply K3); (exact rfl); (exact tyA); (apply QC.cell; assumption; (first | exact Sep.cell0 (by assumption) atS (by exact rfl) | exact cellsAt.get (by assumption) (by exact rfl) | exact cellsAt.get0 (by assumption) (by exact rfl) | exact elG Q7t (by assumption) (by exact rfl) opnS (by exact rfl) | exact elG0 Q7t (by assumption) (by exact rfl) opnS (by exact rfl) | exact Sep.cellL (by assumption) (by assumption) atS (by exact rfl) | exact Sep.cellL0 (by assumption) (by assumption) atS (by exact rfl) | exact cellsAt.get (cellsAt.sameT (by assumption) (by assumption) ch) (by exact rfl) | exact cellsAt.get0 (cellsAt.sameT (by assumption) (by assumption) ch) (by exact rfl)))) | ((with_reducible apply V2); (exact rfl); (first | assumption | exact rfl); (exact rfl)) | ((with_reducible apply V1); (exact rfl); (first | assumption | exact rfl); (exact rfl)) | ((with_reducible apply r_ex0); (exact rfl)) | ((with_reducible apply r_ex1); (exact rfl)) | ((with_reducible apply r_ex2); (exact rfl)) | ((with_reducible apply r_ex3); (exact rfl)) | ((with_reducible apply r_ixc); (exact rfl); (exact rfl); (exact tyU); (exact tyS); (exact Q7t); (exact rfl); (assumption)) | ((with_reducible apply r_ixf); (assumption); (exact rfl); (exact tyU); (exact tyS); (assumption); (assumption); (assumption)) | ((with_reducible apply r_ldE); (exact rfl); (exact tyA); (exact tyS); (apply QC.cellsAt; assumption; (first | assumption | exact Sep.cellsA (by assumption) atS | exact elS Q7t (by assumption) (by exact rfl) opnS | exact Sep.cellsP (by assumption) (by assumption) atS | exact cellsAt.sameT (by assumption) (by assumption) ch)); (exact rfl)) | ((with_reducible apply r_ldP); (exact rfl); (exact tyA); (exact tyS); (assumption); (exact atS); (first | exact(rfl:_ = [_]) | exact(rfl:_ = [_,_]) | exact(rfl:_ = [_,_,_]) | exact(rfl:_ = [_,_,_,_]) | exact(rfl:_ = [_,_,_,_,_]) | exact(rfl:_ = [_,_,_,_,_,_]) | exact(rfl:_ = [_,_,_,_,_,_,_]) | exact(rfl:_ = [_,_,_,_,_,_,_,_]) | exact(rfl:_ = [_,_,_,_,_,_,_,_,_]) | exact(rfl:_ = [_,_,_,_,_,_,_,_,_,_]) | exact(rfl:_ = [_,_,_,_,_,_,_,_,_,_,_]) | exact(rfl:_ = [_,_,_,_,_,_,_,_,_,_,_,_]) | exact(rfl:_ = [_,_,_,_,_,_,_,_,_,_,_,_,_]) | exact(rfl:_ = [_,_,_,_,_,_,_,_,_,_,_,_,_,_]) | exact(rfl:_ = [_,_,_,_,_,_,_,_,_,_,_,_,_,_,_])); (exact rfl)) | ((with_reducible apply r_cv); (exact rfl); (exact tyU); (exact tyU)) | ((with_reducible apply r_lnt); (exact rfl); (exact tyU)) | ((with_reducible apply r_lnW); (exact rfl); (exact tyU); (exact Q7t)) | ((with_reducible apply Q7x); (exact rfl); (exact tyU)) | ((with_reducible apply r_sqL); (exact rfl); (exact rfl)) | ((with_reducible apply r_snL); (exact rfl); (exact rfl)) | ((with_reducible apply r_nt); (exact rfl)) | ((with_reducible apply r_nc); (exact rfl)) | ((with_reducible apply r_ng); (exact rfl)) | ((with_reducible apply r_cm); (exact rfl)) | ((with_reducible apply Q7y); (exact rfl); (exact rfl); (decide)) | ((with_reducible apply Q4l); (exact rfl); (exact rfl); (decide)) | ((with_reducible apply Q3u); (exact rfl); (exact rfl); (decide)) | ((with_reducible apply r_iq); (exact rfl); (exact rfl); (decide))):(execOp (ev n J L) o).run P w = .ok (.value v) w:=h
theorem gwS {l:List Oper} {n:NF} {J:Nat→Value} {L:List (Nat×Value)} {gd:Option (Nat×Bool)} (h:Wt l n J L gd:=by first | exact qZt | exact⟨_,rfl,congrArg Value.bool (by assumption)⟩ | exact⟨_,rfl,rfl⟩):Wt l n J L gd:=h
theorem gUS {l:List Oper} {n:NF} {J:Nat→Value} {L:List (Nat×Value)} {gd:Option (Nat×Bool)} (h:Wf l n J L gd:=by first | exact gI rfl rfl (by assumption) | exact gI rfl rfl rfl | exact⟨_,rfl,.inr rfl⟩):Wf l n J L gd:=h
theorem stS {P:Program} {l:List Oper} {n:NF} {J:Nat→Value} {L:List (Nat×Value)} {w:World} {pd:List (Nat×Value)} (h:O1 P l pd (env n J L) w:=by repeat (first | exact st0 | refine st1 rfl opv ?_)):O1 P l pd (env n J L) w:=h
theorem pu {A B:Prop} (k:B) (h:Kp B→A:=by
  intro k
  repeat (first | with_reducible refine rg ?_ | ((with_reducible apply pv); (exact opv)) | ((with_reducible apply gT); (exact rfl); (exact rfl); (first | assumption | exact rfl)) | ((with_reducible apply gF); (exact rfl); (exact rfl); (first | assumption | exact rfl)) | ((with_reducible apply gU); (exact rfl); (exact rfl)) | ((with_reducible apply s0a); (exact rfl); (exact rfl); (exact gwS); (intro _; exact opv)) | ((with_reducible apply sUa); (exact rfl); (exact gUS)) | ((with_reducible apply s1a); (exact rfl); (exact rfl); (exact gwS); (exact opv)) | ((with_reducible apply And.intro); (exact stS)) | ((with_reducible apply qv); (intro _ _; exact opq)) | ((with_reducible apply qgT); (exact rfl); (exact rfl); (first | assumption | exact rfl)) | ((with_reducible apply qgF); (exact rfl); (exact rfl); (first | assumption | exact rfl)) | ((with_reducible apply qgU); (exact rfl); (exact rfl)) | ((with_reducible apply t0a); (exact rfl); (exact rfl); (exact rfl); (exact gwS); (intro _; exact opv)) | ((with_reducible apply tUa); (exact rfl); (exact rfl); (exact gUS); (kernel_rfl)) | ((with_reducible apply t1a); (exact rfl); (exact rfl); (exact rfl); (exact gwS); (exact opv)))
  exact k.out):A:=h ⟨k⟩
theorem pn {A B:Prop} (k:B) (h:Kp B→A:=by
  intro k
  repeat (first | with_reducible refine rg ?_ | ((with_reducible apply pv); (exact opv)) | ((with_reducible apply gT); (exact rfl); (exact rfl); (first | assumption | exact rfl)) | ((with_reducible apply gF); (exact rfl); (exact rfl); (first | assumption | exact rfl)) | ((with_reducible apply gU); (exact rfl); (exact rfl)) | ((with_reducible apply s0a); (exact rfl); (exact rfl); (exact gwS); (intro _; exact opv)) | ((with_reducible apply sUa); (exact rfl); (exact gUS)) | ((with_reducible apply s1a); (exact rfl); (exact rfl); (exact gwS); (exact opv)) | ((with_reducible apply And.intro); (exact stS)) | ((with_reducible apply qv); (intro _ _; exact opq)) | ((with_reducible apply qgT); (exact rfl); (exact rfl); (first | assumption | exact rfl)) | ((with_reducible apply qgF); (exact rfl); (exact rfl); (first | assumption | exact rfl)) | ((with_reducible apply qgU); (exact rfl); (exact rfl)) | ((with_reducible apply t0a); (exact rfl); (exact rfl); (exact rfl); (exact gwS); (intro _; exact opv)) | ((with_reducible apply tUa); (exact rfl); (exact rfl); (exact gUS); (kernel_rfl)) | ((with_reducible apply t1a); (exact rfl); (exact rfl); (exact rfl); (exact gwS); (exact opv)) | with_reducible refine nil ?_ | with_reducible refine Z5s ?_ | with_reducible refine t_blk ?_ | with_reducible refine se ?_ | with_reducible refine te ?_ | with_reducible refine qn ?_ | with_reducible refine skp ?_ | with_reducible refine xt ?_ | with_reducible refine x_then ?_ | with_reducible refine x_eq ?_ | with_reducible refine x_ne (by decide) ?_ | with_reducible refine rtn ?_ | with_reducible refine r_then ?_ | with_reducible refine r_blk ?_)
  exact k.out):A:=h ⟨k⟩
theorem cd {A B1 B2:Prop} {α : Type} {b:Bool} {X Y Z : α} (hm:(bif b then X else Y)=Z) (h1:B1) (h2:B2) (h:(bif b then X else Y)=Z→Kp B1→Kp B2→A:=by
  intro hm k1 k2
  refine pn ?_
  exact cndH rfl hm k1.out k2.out):A:=h hm ⟨h1⟩ ⟨h2⟩
theorem t1W {A B:Prop} (js R ks:List Nat) (k:B) (h:KN js→KN R→KN ks→Kp B→A:=by
  intro a b c k
  refine pu ?_
  refine twK a rfl (wt_of rfl rfl gwS) rfl (by kernel_rfl) (by kernel_rfl) ⟨?_,qZt⟩
  refine brK b c rfl (by kernel_rfl) (by kernel_rfl) gwS (by kernel_rfl) ?_
  exact k.out):A:=h ⟨qZt⟩ ⟨qZt⟩ ⟨qZt⟩ ⟨k⟩
theorem tF {A B:Prop} (js:List Nat) (k:B) (h:KN js→Kp B→A:=by
  intro a k
  refine pu ?_
  refine twK a rfl (wt_of rfl rfl gwS) rfl (by kernel_rfl) (by kernel_rfl) ?_
  exact k.out):A:=h ⟨qZt⟩ ⟨k⟩
theorem brW {A B:Prop} (R ks:List Nat) (k:B) (h:KN R→KN ks→Kp B→A:=by
  intro b c k
  refine brK b c rfl (by kernel_rfl) (by kernel_rfl) gwS (by kernel_rfl) ?_
  exact k.out):A:=h ⟨qZt⟩ ⟨qZt⟩ ⟨k⟩
theorem s2W {A B:Prop} (ks:List Nat) (k:B) (h:KN ks→Kp B→A:=by
  intro c k
  refine pu ?_
  refine s2K c rfl gwS rfl (by kernel_rfl) ?_
  exact k.out):A:=h ⟨qZt⟩ ⟨k⟩
theorem je {A F:Prop} {g:World} {T:Nat→Prop} {w:World} {G:List Z4} (hm:F) (S:Sep g T w G) (h:F→Kp (Sep g T w G)→A:=by
  intro hm S
  refine pn ?_
  repeat' (first | with_reducible apply Exists.intro | with_reducible apply And.intro | exact hm | exact envS | exact S.out | exact ch | exact qZt | assumption | exact Z4u (by assumption) ch | exact Q1x)):A:=h hm ⟨S⟩
theorem lg {A N:Prop} {α : Type} {x z : α} {g:World} {T:Nat→Prop} {w:World} {G:List Z4} (hm:some x=some z) (hn:N) (S:Sep g T w G) (h:some x=some z→N→Kp (Sep g T w G)→A:=by
  intro hm hn S
  cases oI hm
  refine pn ?_
  refine⟨_,Nat.lt_succ_self _,?_⟩
  repeat' (first | with_reducible apply Exists.intro | with_reducible apply And.intro | exact hn | exact envS | exact S.out | exact ch | exact qZt | assumption | exact Z4u (by assumption) ch | exact Q1x)):A:=h hm hn ⟨S⟩
theorem rvsS {n:NF} {J:Nat→Value} {L:List (Nat×Value)} {w:World} {rs:List ResultVar} {vs:List Value} (h:RVs Tryz.prog n J L w rs vs:=by repeat (first | exact rv0 | (apply rvT; (exact rfl)) | (apply rvC; (exact rfl); (exact tyA); (exact Sep.bx (by assumption) atS)) | (apply rvG; (exact rfl); (exact tyA); (exact tyS); (exact Sep.bx (by assumption) atS); (exact rfl)))):RVs Tryz.prog n J L w rs vs:=h
theorem re {A:Prop} {α : Type} {x z : α} {g:World} {T:Nat→Prop} {w:World} {G:List Z4} (hm:some x=some z) (S:Sep g T w G) (h:some x=some z→Kp (Sep g T w G)→A:=by
  intro hm S
  cases oI hm
  refine pn ?_
  first | refine ret1 rfl rfl ?_ | refine ret0 rfl ?_ | refine ret2 rfl rfl rfl ?_ | (apply retN; (exact rfl); (exact rvsS); (exact rfl))
  refine rsm S.out ch ?_
  repeat' (first | with_reducible apply Exists.intro | with_reducible apply And.intro | exact rfl | exact S.out.unb | exact qZt | assumption | exact Z4u (by assumption) ch | exact Q1x)):A:=h hm ⟨S⟩
theorem sS {A B H1 H2:Prop} (l:List (Nat×Value)) (a:H1) (b:H2) (k:B) (h:Kl l→H1→H2→Kp B→A:=by
  intro l a b k
  refine pu ?_
  refine s2k l rfl gwS rfl (by kernel_rfl) ?_
  exact calS a rfl b rfl k.out):A:=h ⟨qZt⟩ a b ⟨k⟩
theorem sN {A B H1 H2:Prop} (l:List (Nat×Value)) (a:H1) (b:H2) (k:B) (h:Kl l→H1→H2→Kp B→A:=by
  intro l a b k
  refine pu ?_
  refine s2k l rfl gwS rfl (by kernel_rfl) ?_
  exact calN a rfl b rfl k.out):A:=h ⟨qZt⟩ a b ⟨k⟩
theorem osT {A B:Prop} (q:Nat) {g:World} {T:Nat→Prop} {w:World} {G:List Z4} (hS:Sep g T w G) (k:B) (h:Kq q→Sep g T w G→Kp B→A:=by
  intro q hS k
  exact ost q hS tyS k.out):A:=h ⟨qZt⟩ hS ⟨k⟩
theorem osB {A B:Prop} (q j:Nat) {b o:Nat} {H:List Value→Z4} (hL:Ln b o H) {g:World} {T:Nat→Prop} {w:World} {G:List Z4} (hS:Sep g T w G) (k:B) (h:Kq q→Kq j→Ln b o H→Sep g T w G→Kp B→A:=by
  intro q j hL hS k
  exact osb q j hL hS tyS k.out):A:=h ⟨qZt⟩ ⟨qZt⟩ hL hS ⟨k⟩
theorem oaL {A B:Prop} (zs:List Value) {g:World} {T:Nat→Prop} {w:World} {G:List Z4} (hS:Sep g T w G) (k:B) (h:Kv zs→Sep g T w G→Kp B→A:=by
  intro zs hS k
  exact oal zs hS tyZ k.out):A:=h ⟨qZt⟩ hS ⟨k⟩
theorem obX {A B:Prop} (cs:List Value) {g:World} {T:Nat→Prop} {w:World} {G:List Z4} (hS:Sep g T w G) (k:B) (h:Kv cs→Sep g T w G→Kp B→A:=by
  intro cs hS k
  exact obx cs hS k.out):A:=h ⟨qZt⟩ hS ⟨k⟩
theorem obS {A B:Prop} {g:World} {T:Nat→Prop} {w:World} {G:List Z4} {α : Type} {r:Rp α} {l:List α} {css:List (List Value)} (hS:Sep g T w G) (a:Q7p r T w css l) (k:B) (h:Sep g T w G→Q7p r T w css l→Kp B→A:=by
  intro hS a k
  exact obs hS a tyU tyS tyZ k.out):A:=h hS a ⟨k⟩
theorem oS {A B H1 H2:Prop} (a:H1) (b:H2) (k:B) (h:H1→H2→Kp B→A:=by
  intro a b k
  exact calS a rfl b rfl k.out):A:=h a b ⟨k⟩
theorem oN {A B H1 H2:Prop} (a:H1) (b:H2) (k:B) (h:H1→H2→Kp B→A:=by
  intro a b k
  exact calN a rfl b rfl k.out):A:=h a b ⟨k⟩
theorem oP {A B H1 H2:Prop} (a:H1) (b:H2) (k:B) (h:H1→H2→Kp B→A:=by
  intro a b k
  exact calP a rfl b rfl k.out):A:=h a b ⟨k⟩
theorem sT {A B:Prop} (q:Nat) {g:World} {T:Nat→Prop} {w:World} {G:List Z4} (hS:Sep g T w G) (k:B) (h:Kq q→Sep g T w G→Kp B→A:=by
  intro q hS k
  refine pu ?_
  exact wst q hS tyS k.out):A:=h ⟨qZt⟩ hS ⟨k⟩
theorem sB {A B:Prop} (q j:Nat) {b o:Nat} {H:List Value→Z4} (hL:Ln b o H) {g:World} {T:Nat→Prop} {w:World} {G:List Z4} (hS:Sep g T w G) (k:B) (h:Kq q→Kq j→Ln b o H→Sep g T w G→Kp B→A:=by
  intro q j hL hS k
  refine pu ?_
  exact wsb q j hL hS tyS k.out):A:=h ⟨qZt⟩ ⟨qZt⟩ hL hS ⟨k⟩
theorem aL {A B:Prop} (zs:List Value) {g:World} {T:Nat→Prop} {w:World} {G:List Z4} (hS:Sep g T w G) (k:B) (h:Kv zs→Sep g T w G→Kp B→A:=by
  intro zs hS k
  refine pu ?_
  exact wal zs hS tyZ k.out):A:=h ⟨qZt⟩ hS ⟨k⟩
theorem bX {A B:Prop} (cs:List Value) {g:World} {T:Nat→Prop} {w:World} {G:List Z4} (hS:Sep g T w G) (k:B) (h:Kv cs→Sep g T w G→Kp B→A:=by
  intro cs hS k
  refine pu ?_
  exact wbx cs hS k.out):A:=h ⟨qZt⟩ hS ⟨k⟩
theorem bS {A B:Prop} {g:World} {T:Nat→Prop} {w:World} {G:List Z4} {α : Type} {r:Rp α} {l:List α} {css:List (List Value)} (hS:Sep g T w G) (a:Q7p r T w css l) (k:B) (h:Sep g T w G→Q7p r T w css l→Kp B→A:=by
  intro hS a k
  refine pu ?_
  exact wbs hS a tyU tyS tyZ k.out):A:=h hS a ⟨k⟩
theorem tyE {e z:Nat} (h:A7 Tryz.prog e z:=by first | exact el59 | exact el5 | exact Z8m | exact el403 | exact el3 | exact el224):A7 Tryz.prog e z:=h
theorem oaO {A B:Prop} (q:Nat) {g:World} {T:Nat→Prop} {w:World} {G:List Z4} {m:Nat} (hS:Sep g T w G) (a:m≤8589934592) (k:B) (h:Kq q→Sep g T w G→m≤8589934592→Kp B→A:=by
  intro q hS a k
  exact oao q hS Q7t tyU tyE a k.out):A:=h ⟨qZt⟩ hS a ⟨k⟩
theorem aO {A B:Prop} (q:Nat) {g:World} {T:Nat→Prop} {w:World} {G:List Z4} {m:Nat} (hS:Sep g T w G) (a:m≤8589934592) (k:B) (h:Kq q→Sep g T w G→m≤8589934592→Kp B→A:=by
  intro q hS a k
  refine pu ?_
  exact wao q hS Q7t tyU tyE a k.out):A:=h ⟨qZt⟩ hS a ⟨k⟩
theorem cS {A B H1 H2:Prop} (a:H1) (b:H2) (k:B) (h:H1→H2→Kp B→A:=by
  intro a b k
  refine pu ?_
  exact wcS a b k.out):A:=h a b ⟨k⟩
theorem cN {A B H1 H2:Prop} (a:H1) (b:H2) (k:B) (h:H1→H2→Kp B→A:=by
  intro a b k
  refine pu ?_
  exact wcN a b k.out):A:=h a b ⟨k⟩
theorem cB {A B H1 H2 H3:Prop} (a:H1) (hm:H2) (c:H3) (k:B) (h:H1→H2→H3→Kp B→A:=by
  intro a hm c k
  refine pu ?_
  exact wcB a hm c k.out):A:=h a hm c ⟨k⟩
theorem cBN {A B H1 H2 H3:Prop} (a:H1) (hm:H2) (c:H3) (k:B) (h:H1→H2→H3→Kp B→A:=by
  intro a hm c k
  refine pu ?_
  exact wcBN a hm c k.out):A:=h a hm c ⟨k⟩
theorem cP {A B B2 H1 H2 H3:Prop} (a:H1) (hm:H2) (c:H3) (k:B) (k2:B2) (h:H1→H2→H3→Kp B→Kp B2→A:=by
  intro a hm c k k2
  refine pu ?_
  exact wcP a hm c k.out k2.out):A:=h a hm c ⟨k⟩ ⟨k2⟩
theorem cPN {A B B2 H1 H2 H3:Prop} (a:H1) (hm:H2) (c:H3) (k:B) (k2:B2) (h:H1→H2→H3→Kp B→Kp B2→A:=by
  intro a hm c k k2
  refine pu ?_
  exact wcPN a hm c k.out k2.out):A:=h a hm c ⟨k⟩ ⟨k2⟩
theorem pe {A:Prop} {α : Type} {x z : α} {g:World} {T:Nat→Prop} {w:World} {G:List Z4} (hm:some x=some z) (S:Sep g T w G) (h:some x=some z→Kp (Sep g T w G)→A:=by
  intro hm S
  cases oI hm
  refine pn ?_
  repeat (first | with_reducible refine p_then ?_ | with_reducible refine p_blk ?_)
  first | refine panED ?_ | refine panE ?_ | refine endO rfl ?_ | refine endR rfl ?_
  refine psm S.out ch ?_
  repeat' (first | with_reducible apply Exists.intro | with_reducible apply And.intro | exact rfl | exact S.out.unb | exact qZt | assumption | exact Z4u (by assumption) ch | exact Q1x)):A:=h hm ⟨S⟩
theorem eo {A:Prop} {α : Type} {x z : α} {g:World} {T:Nat→Prop} {w:World} {G:List Z4} (hm:some x=some z) (S:Sep g T w G) (h:some x=some z→Kp (Sep g T w G)→A:=by
  intro hm S
  cases oI hm
  refine pn ?_
  repeat (first | with_reducible refine p_then ?_ | with_reducible refine p_blk ?_)
  first | refine endO rfl ?_ | refine endR rfl ?_
  refine eoR (resN rfl rvsS rfl) ?_
  refine rsm S.out ch ?_
  repeat' (first | with_reducible apply Exists.intro | with_reducible apply And.intro | exact rfl | exact S.out.unb | exact qZt | assumption | exact Z4u (by assumption) ch | exact Q1x)):A:=h hm ⟨S⟩
theorem rqS {l:List Oper} {Q:Exit→Act→World→Prop} {T:Nat→Prop} {w:World} {G:List Z4} {a:Act} {id:Nat} (hS:Sep g T w G) (h:wpQuiet Tryz.prog l.toArray (QC T w) (fun a1 => ∀ w1 T1,Im T w T1 w1→Sep g T1 w1 G→Q .normal a1 w1) l a) (hB:Region.lexB .any l.toArray=true:=by kernel_rfl):(Code.region id l.toArray true).wp Tryz.prog Q a w :=
  rq mix hB hS.lt (quiet_mono (fun a1 h w1 T1 i=>h w1 T1 i.imm (hS.keep i fun _ h=>h)) h)
theorem rsS {l:List Oper} {Q:Exit→Act→World→Prop} {g:World} {T:Nat→Prop} {w:World} {G:List Z4} {n:NF} {J:Nat→Value} {L:List (Nat×Value)} {id:Nat} (fl ord:List Nat) (hS:Sep g T w G) (k : ∀ w1,Im T w T w1→Sep g T w1 G→K6 Tryz.prog l fl (NoPanic Q) [] ord (env n J L) w1) (hB:serB l fl ord=true:=by kernel_rfl):(Code.region id l.toArray true).wp Tryz.prog Q (env n J L) w :=
  rs fl ord mix hB hS.lt fun w1 i=>k w1 i.imm (hS.keep i fun _ h=>h)
theorem rtS {l:List Oper} {Q:Exit→Act→World→Prop} {g:World} {T:Nat→Prop} {w:World} {G:List Z4} {n:NF} {J:Nat→Value} {L:List (Nat×Value)} {id:Nat} (fl ord:List Nat) (hS:Sep g T w G) (k : ∀ w1,Im T w T w1→Sep g T w1 G→B3 Tryz.prog l fl (NoPanic Q) ord.length [] ord (env n J L) w1) (hB:trB l fl ord=true:=by kernel_rfl):(Code.region id l.toArray true).wp Tryz.prog Q (env n J L) w :=
  rt fl ord mix hB hS.lt fun w1 i=>k w1 i.imm (hS.keep i fun _ h=>h)
abbrev S7 (x:J4)  : List Value := [qZs x.name,.int .u8 x.form,.int .u32 x.code,.int .u32 x.third,.int .u32 x.seventh]
abbrev P1 (x:V4)  : List Value := [.int .i64 x.Op,.int .i64 x.Rd,.int .i64 x.Rs1,.int .i64 x.Rs2,.int .i64 x.Imm]
abbrev iv (x:Int):Value := .int .i64 x
abbrev sv {α : Type} (a:Option Addr) (l:List α) (c:Nat):Value := .slice a (List.length l) c
abbrev pt (b o:Nat):Value := .pointer (some ⟨b,o,none⟩)
abbrev OA:=Option Addr
abbrev JV:=Nat→Value
abbrev TP:=Nat→Prop
abbrev zv1:List Value := [iv 0,iv 0,iv 0,iv 0,iv 0,iv 0,iv 0,.slice none 0 0,iv 0,iv 0,iv 0]
abbrev zv2:List Value := [.slice none 0 0,.slice none 0 0,iv 0,iv 0,iv 0]
abbrev zv3:List Value := [qZs [],.int .u8 0,.int .u32 0,.int .u32 0,.int .u32 0]

theorem Q4u  (hS:Sep g T0 w0 [Q3 R])  : ∀ r,S5=some r →
    Calls Tryz.prog 86 #[] w0 (Y4 T0 w0 fun T w v=>v = .agg (Q3v E7 r).toArray∧Sep g T w (R ++ [])∧True):=by
  intro r hm
  refine enter Tryz.func86 rfl Tryz.ntmps86 rfl fun J => ?_
  unfold S5 at hm
  refine sq2 (pu ?_)
  refine wl rfl (alS (zs:=(List.map E7 (List.replicate 46 (⟨([]:List UInt8),0,0,0,0⟩:J4))).flatten ++ []) zeroValue208 (by kernel_rfl) hS fun w1 b1 im1 hS1 => ?_)
  refine pn ?_
  refine sq2 (pu ?_)
  refine pv (U3 (by kernel_rfl) rfl (u := .agg #[qZs [],.int .u8 0,.int .u32 0,.int .u32 0,.int .u32 0])) (pv (U3 (by kernel_rfl) rfl (u := .agg #[qZs [108,117,105],.int .u8 85,.int .u32 55,.int .u32 0,.int .u32 0])) (pv (U3 (by kernel_rfl) rfl (u := .agg #[qZs [97,117,105,112,99],.int .u8 85,.int .u32 23,.int .u32 0,.int .u32 0])) (pv (U3 (by kernel_rfl) rfl (u := .agg #[qZs [106,97,108],.int .u8 74,.int .u32 111,.int .u32 0,.int .u32 0])) (pv (U3 (by kernel_rfl) rfl (u := .agg #[qZs [106,97,108,114],.int .u8 73,.int .u32 103,.int .u32 0,.int .u32 0])) (pv (U3 (by kernel_rfl) rfl (u := .agg #[qZs [98,101,113],.int .u8 66,.int .u32 99,.int .u32 0,.int .u32 0])) (pv (U3 (by kernel_rfl) rfl (u := .agg #[qZs [98,110,101],.int .u8 66,.int .u32 99,.int .u32 1,.int .u32 0])) (pv (U3 (by kernel_rfl) rfl (u := .agg #[qZs [98,108,116],.int .u8 66,.int .u32 99,.int .u32 4,.int .u32 0])) (pv (U3 (by kernel_rfl) rfl (u := .agg #[qZs [98,103,101],.int .u8 66,.int .u32 99,.int .u32 5,.int .u32 0])) (pv (U3 (by kernel_rfl) rfl (u := .agg #[qZs [98,108,116,117],.int .u8 66,.int .u32 99,.int .u32 6,.int .u32 0])) (pv (U3 (by kernel_rfl) rfl (u := .agg #[qZs [98,103,101,117],.int .u8 66,.int .u32 99,.int .u32 7,.int .u32 0])) (pv (U3 (by kernel_rfl) rfl (u := .agg #[qZs [108,98],.int .u8 73,.int .u32 3,.int .u32 0,.int .u32 0])) (pv (U3 (by kernel_rfl) rfl (u := .agg #[qZs [108,104],.int .u8 73,.int .u32 3,.int .u32 1,.int .u32 0])) (pv (U3 (by kernel_rfl) rfl (u := .agg #[qZs [108,119],.int .u8 73,.int .u32 3,.int .u32 2,.int .u32 0])) (pv (U3 (by kernel_rfl) rfl (u := .agg #[qZs [108,98,117],.int .u8 73,.int .u32 3,.int .u32 4,.int .u32 0])) (pv (U3 (by kernel_rfl) rfl (u := .agg #[qZs [108,104,117],.int .u8 73,.int .u32 3,.int .u32 5,.int .u32 0])) (pv (U3 (by kernel_rfl) rfl (u := .agg #[qZs [115,98],.int .u8 83,.int .u32 35,.int .u32 0,.int .u32 0])) (pv (U3 (by kernel_rfl) rfl (u := .agg #[qZs [115,104],.int .u8 83,.int .u32 35,.int .u32 1,.int .u32 0])) (pv (U3 (by kernel_rfl) rfl (u := .agg #[qZs [115,119],.int .u8 83,.int .u32 35,.int .u32 2,.int .u32 0])) (pv (U3 (by kernel_rfl) rfl (u := .agg #[qZs [97,100,100,105],.int .u8 73,.int .u32 19,.int .u32 0,.int .u32 0])) (pv (U3 (by kernel_rfl) rfl (u := .agg #[qZs [115,108,116,105],.int .u8 73,.int .u32 19,.int .u32 2,.int .u32 0])) (pv (U3 (by kernel_rfl) rfl (u := .agg #[qZs [115,108,116,105,117],.int .u8 73,.int .u32 19,.int .u32 3,.int .u32 0])) (pv (U3 (by kernel_rfl) rfl (u := .agg #[qZs [120,111,114,105],.int .u8 73,.int .u32 19,.int .u32 4,.int .u32 0])) (pv (U3 (by kernel_rfl) rfl (u := .agg #[qZs [111,114,105],.int .u8 73,.int .u32 19,.int .u32 6,.int .u32 0])) (pv (U3 (by kernel_rfl) rfl (u := .agg #[qZs [97,110,100,105],.int .u8 73,.int .u32 19,.int .u32 7,.int .u32 0])) (pv (U3 (by kernel_rfl) rfl (u := .agg #[qZs [115,108,108,105],.int .u8 72,.int .u32 19,.int .u32 1,.int .u32 0])) (pv (U3 (by kernel_rfl) rfl (u := .agg #[qZs [115,114,108,105],.int .u8 72,.int .u32 19,.int .u32 5,.int .u32 0])) (pv (U3 (by kernel_rfl) rfl (u := .agg #[qZs [115,114,97,105],.int .u8 72,.int .u32 19,.int .u32 5,.int .u32 32])) (pv (U3 (by kernel_rfl) rfl (u := .agg #[qZs [97,100,100],.int .u8 82,.int .u32 51,.int .u32 0,.int .u32 0])) (pv (U3 (by kernel_rfl) rfl (u := .agg #[qZs [115,117,98],.int .u8 82,.int .u32 51,.int .u32 0,.int .u32 32])) (pv (U3 (by kernel_rfl) rfl (u := .agg #[qZs [115,108,108],.int .u8 82,.int .u32 51,.int .u32 1,.int .u32 0])) (pv (U3 (by kernel_rfl) rfl (u := .agg #[qZs [115,108,116],.int .u8 82,.int .u32 51,.int .u32 2,.int .u32 0])) (pv (U3 (by kernel_rfl) rfl (u := .agg #[qZs [115,108,116,117],.int .u8 82,.int .u32 51,.int .u32 3,.int .u32 0])) (pv (U3 (by kernel_rfl) rfl (u := .agg #[qZs [120,111,114],.int .u8 82,.int .u32 51,.int .u32 4,.int .u32 0])) (pv (U3 (by kernel_rfl) rfl (u := .agg #[qZs [115,114,108],.int .u8 82,.int .u32 51,.int .u32 5,.int .u32 0])) (pv (U3 (by kernel_rfl) rfl (u := .agg #[qZs [115,114,97],.int .u8 82,.int .u32 51,.int .u32 5,.int .u32 32])) (pv (U3 (by kernel_rfl) rfl (u := .agg #[qZs [111,114],.int .u8 82,.int .u32 51,.int .u32 6,.int .u32 0])) (pv (U3 (by kernel_rfl) rfl (u := .agg #[qZs [97,110,100],.int .u8 82,.int .u32 51,.int .u32 7,.int .u32 0])) (pv (U3 (by kernel_rfl) rfl (u := .agg #[qZs [109,117,108],.int .u8 82,.int .u32 51,.int .u32 0,.int .u32 1])) (pv (U3 (by kernel_rfl) rfl (u := .agg #[qZs [109,117,108,104],.int .u8 82,.int .u32 51,.int .u32 1,.int .u32 1])) (pv (U3 (by kernel_rfl) rfl (u := .agg #[qZs [109,117,108,104,115,117],.int .u8 82,.int .u32 51,.int .u32 2,.int .u32 1])) (pv (U3 (by kernel_rfl) rfl (u := .agg #[qZs [109,117,108,104,117],.int .u8 82,.int .u32 51,.int .u32 3,.int .u32 1])) (pv (U3 (by kernel_rfl) rfl (u := .agg #[qZs [100,105,118],.int .u8 82,.int .u32 51,.int .u32 4,.int .u32 1])) (pv (U3 (by kernel_rfl) rfl (u := .agg #[qZs [100,105,118,117],.int .u8 82,.int .u32 51,.int .u32 5,.int .u32 1])) (pv (U3 (by kernel_rfl) rfl (u := .agg #[qZs [114,101,109],.int .u8 82,.int .u32 51,.int .u32 6,.int .u32 1])) (pv (U3 (by kernel_rfl) rfl (u := .agg #[qZs [114,101,109,117],.int .u8 82,.int .u32 51,.int .u32 7,.int .u32 1])) (pv (U3 (cells:=(Q3v E7 tbl1).toArray) (by kernel_rfl) rfl) (wl rfl (stArr (q:=0) hS1 ⟨rfl,rfl⟩ (C3 b1) rfl rfl B0 (fun _=>rfl) rfl rfl rfl sizeOf208 fun w2 im2 hS2 => ?_))))))))))))))))))))))))))))))))))))))))))))))))
  refine nil (Z3 [(0,pt b1 0)] ⟨rfl,qZt⟩ fun J => ?_)
  cases oI hm
  refine pn ?_
  exact retN (vs := [.agg (Q3v E7 tbl1).toArray]) rfl ⟨rvS rfl isAgg208 sizeOf208 (Z9k B0 rfl rfl) (hS2.segBx (i:=0) ⟨rfl,rfl⟩),qZt⟩ rfl ⟨_,rfl,_,ch,⟨rfl,(hS2.sel [1] rfl).unb,qZt⟩⟩

theorem Q8z {p0} (hS:Sep g T0 w0 [Q3 R])  : ∀ r,Q7f p0=some r →
    Calls Tryz.prog 91 #[iv p0] w0 (Y4 T0 w0 fun T w v=>v = .agg (S7 r).toArray∧Sep g T w (R ++ [])∧True):=by
  intro r hm
  refine enter Tryz.func91 rfl Tryz.ntmps91 rfl fun J => ?_
  unfold Q7f at hm
  refine sq2 (aL zv3 hS ?_)
  intro w1 b1 im1 hS1
  refine pn ?_
  refine sq2 (sq2 (pu ?_))
  rcases bc hm with ⟨hb1,hm⟩ | ⟨hb1,hm⟩
  · refine pn ?_
    refine cnd (b:=true) rfl (fun _ => ?_) (fun h=>nomatch h)
    refine sq2 (pu ?_)
    refine pv (U3 (by kernel_rfl) rfl (u := .agg #[qZs [],.int .u8 0,.int .u32 0,.int .u32 0,.int .u32 0])) (sT 0 hS1 ?_)
    intro w5 im5 hS5
    exact re hm (hS5.sel [1] rfl)
  refine cd hm ?_ ?_ <;> intro hb2 hm
  · refine sq2 (pu ?_)
    refine pv (U3 (by kernel_rfl) rfl (u := .agg #[qZs [],.int .u8 0,.int .u32 0,.int .u32 0,.int .u32 0])) (sT 0 hS1 ?_)
    intro w2 im2 hS2
    exact re hm (hS2.sel [1] rfl)
  refine pn ?_
  refine sq2 (pu ?_)
  refine cB cf86 hm (Q4u (hS1.bun [0,1] [] rfl)) ?_
  rintro y1 _ T1 w3 im3 ⟨rfl,hS3,_⟩ hm
  obtain⟨z_1,hln1,hm⟩:=Q4 hm
  obtain⟨u1,hx2,hm⟩:=Q4 hm
  refine pu ?_
  refine pv (r_axs (u:=(S7 u1)) rfl rfl hx2 B0 rfl (Q8 hln1) underlying208 sizeOf207 isAgg207) (sT 0 hS3 ?_)
  intro w4 im4 hS4
  exact re hm (hS4.sel [1] rfl)

theorem X7 {p0 p1 p2} (hS:Sep g T0 w0 [Q3 R])  : ∀ r,Y6 p0 p1 p2=some r →
    Calls Tryz.prog 90 #[.int .u32 p0,iv p1,iv p2] w0 (Y4 T0 w0 fun T w v=>v = .int .u32 r∧Sep g T w (R ++ [])∧True):=by
  intro r hm
  refine enter Tryz.func90 rfl Tryz.ntmps90 rfl fun J => ?_
  unfold Y6 at hm
  refine sq2 (pn ?_)
  refine sq2 ?_
  obtain⟨_,hz1,hm⟩:=Q4 hm
  have hz1:=W5 hz1
  obtain⟨_,hz2,hm⟩:=Q4 hm
  have hz2:=W5 hz2
  refine rqS hS (pu ?_)
  refine qv (fun _ hq=>Q4l rfl rfl hz1) (pu ?_)
  refine qv (fun _ hq=>Q7y rfl rfl hz2) (pn ?_)
  intro w1 T1 im1 hS1
  exact re hm (hS1.sel [0] rfl)

theorem Z4d {p0:J4} {p1} (hS:Sep g T0 w0 [Q3 R])  : ∀ r,Q2s p0 p1=some r →
    Calls Tryz.prog 87 #[.agg (S7 p0).toArray,.int .u32 p1] w0 (Y4 T0 w0 fun T w v=>v = .bool r∧Sep g T w (R ++ [])∧True):=by
  intro r hm
  refine enter Tryz.func87 rfl Tryz.ntmps87 rfl fun J => ?_
  unfold Q2s at hm
  refine sq2 (bX (S7 p0) hS ?_)
  intro w1 b1 im1 hS1
  refine pn ?_
  refine sq2 (blk (sq2 (cd hm ?_ ?_))) <;> intro hb1 hm
  · exact sq2 (re hm (hS1.sel [1] rfl))
  refine sq2 (pu ?_)
  rcases bc hm with ⟨hb2,hm⟩ | ⟨hb2,hm⟩
  · refine pn ?_
    refine cnd (b:=true) rfl (fun _ => ?_) (fun h=>nomatch h)
    exact sq2 (re hm (hS1.sel [1] rfl))
  refine cd hm ?_ ?_ <;> intro hb3 hm
  · exact sq2 (re hm (hS1.sel [1] rfl))
  refine sq2 (rsS [0,2,0,1,0,0] [0,2,3,1,4,5] hS1 fun w2 im2 hS2 => ?_)
  obtain⟨y1,hx1,hm⟩:=Q4 hm
  refine sS [(3,.int .u32 p0.third)] Q6i (X7 (hS2.bun [0,1] [] rfl) _ hx1) ?_
  rintro _ T1 w3 im3 ⟨rfl,hS3,_⟩
  refine cd hm ?_ ?_ <;> intro hb4 hm
  · refine sq2 (pu ?_)
    refine nil (Z3 [(4,.bool false)] ⟨rfl,qZt⟩ fun J => ?_)
    exact re hm (hS3.sel [1] rfl)
  refine pn ?_
  refine sq2 (pu ?_)
  rcases bc hm with ⟨hb5,hm⟩ | ⟨hb5,hm⟩
  · refine pu ?_
    rcases bc hm with ⟨hb6,hm⟩ | ⟨hb6,hm⟩
    · refine pu ?_
      refine nil (Z3 [(4,.bool true)] ⟨rfl,qZt⟩ fun J => ?_)
      exact re hm (hS3.sel [1] rfl)
    refine pu ?_
    refine nil (Z3 [(4,.bool ((Int.fdiv p1 (2 ^ (min (Int.toNat 25) (IntKind.bits .u32)))) == p0.seventh))] ⟨rfl,qZt⟩ fun J => ?_)
    exact re hm (hS3.sel [1] rfl)
  refine pu ?_
  refine nil (Z3 [(4,.bool ((Int.fdiv p1 (2 ^ (min (Int.toNat 25) (IntKind.bits .u32)))) == p0.seventh))] ⟨rfl,qZt⟩ fun J => ?_)
  exact re hm (hS3.sel [1] rfl)

theorem W2 {p0 p1} (hS:Sep g T0 w0 [Q3 R])  : ∀ r,G0 p0 p1=some r →
    Calls Tryz.prog 165 #[.int .u32 p0,iv p1] w0 (Y4 T0 w0 fun T w v=>v = .int .u32 r∧Sep g T w (R ++ [])∧True):=by
  intro r hm
  refine enter Tryz.func165 rfl Tryz.ntmps165 rfl fun J => ?_
  unfold G0 at hm
  refine sq2 (pn ?_)
  refine sq2 (sq2 (pu ?_))
  rcases bc hm with ⟨hb1,hm⟩ | ⟨hb1,hm⟩
  · refine pn ?_
    refine cnd (b:=true) rfl (fun _ => ?_) (fun h=>nomatch h)
    exact sq2 (re hm (hS.sel [0] rfl))
  refine cd hm ?_ ?_ <;> intro hb2 hm
  · exact sq2 (re hm (hS.sel [0] rfl))
  refine pn ?_
  refine sq2 (pn ?_)
  refine sq2 ?_
  obtain⟨_,hz1,hm⟩:=Q4 hm
  have hz1:=W5 hz1
  obtain⟨_,hz2,hm⟩:=Q4 hm
  have hz2:=W5 hz2
  refine pu ?_
  refine pv (Q7y rfl rfl hz1) (pu ?_)
  exact pv (Q4l rfl rfl hz2) (re hm (hS.sel [0] rfl))

theorem Z4c {p0 p1} (hS:Sep g T0 w0 [Q3 R])  : ∀ r,J3 p0 p1=some r →
    Calls Tryz.prog 88 #[.int .u8 p0,.int .u32 p1] w0 (Y4 T0 w0 fun T w v=>v=iv r∧Sep g T w (R ++ [])∧True):=by
  intro r hm
  refine enter Tryz.func88 rfl Tryz.ntmps88 rfl fun J => ?_
  unfold J3 at hm
  refine sq2 (pn ?_)
  refine sq2 (sq2 (pn ?_))
  refine blk (sq2 (cd hm ?_ ?_)) <;> intro hb1 hm
  · exact sq2 (re hm (hS.sel [0] rfl))
  refine sq2 (cd hm ?_ ?_) <;> intro hb2 hm
  · refine sq2 (pu ?_)
    refine cB Q6i hm (X7 (hS.bun [0] [] rfl)) ?_
    rintro y1 _ T1 w1 im1 ⟨rfl,hS1,_⟩ hm
    refine pu ?_
    refine cB Q6i hm (X7 (hS1.bun [0] [] rfl)) ?_
    rintro y2 _ T2 w2 im2 ⟨rfl,hS2,_⟩ hm
    refine pu ?_
    refine cB Q6i hm (X7 (hS2.bun [0] [] rfl)) ?_
    rintro y3 _ T3 w3 im3 ⟨rfl,hS3,_⟩ hm
    refine pu ?_
    refine cB Q6i hm (X7 (hS3.bun [0] [] rfl)) ?_
    rintro y4 _ T4 w4 im4 ⟨rfl,hS4,_⟩ hm
    refine pn ?_
    refine sq2 (pu ?_)
    refine cB cf165 hm (W2 (hS4.bun [0] [] rfl)) ?_
    rintro y5 _ T5 w5 im5 ⟨rfl,hS5,_⟩ hm
    refine pu ?_
    refine nil (Z3 [(4,iv (IntKind.wrap .i64 (IntKind.wrap .i32 y5)))] ⟨rfl,qZt⟩ fun J => ?_)
    exact re hm (hS5.sel [0] rfl)
  refine sq2 (cd hm ?_ ?_) <;> intro hb3 hm
  · exact sq2 (re hm (hS.sel [0] rfl))
  refine sq2 (cd hm ?_ ?_) <;> intro hb4 hm
  · refine sq2 (pu ?_)
    refine cB Q6i hm (X7 (hS.bun [0] [] rfl)) ?_
    rintro y6 _ T6 w6 im6 ⟨rfl,hS6,_⟩ hm
    exact re hm (hS6.sel [0] rfl)
  refine sq2 (cd hm ?_ ?_) <;> intro hb5 hm
  · refine sq2 (pu ?_)
    refine cB Q6i hm (X7 (hS.bun [0] [] rfl)) ?_
    rintro y7 _ T7 w7 im7 ⟨rfl,hS7,_⟩ hm
    refine pu ?_
    refine cB Q6i hm (X7 (hS7.bun [0] [] rfl)) ?_
    rintro y8 _ T8 w8 im8 ⟨rfl,hS8,_⟩ hm
    refine pu ?_
    refine cB cf165 hm (W2 (hS8.bun [0] [] rfl)) ?_
    rintro y9 _ T9 w9 im9 ⟨rfl,hS9,_⟩ hm
    exact re hm (hS9.sel [0] rfl)
  refine sq2 (cd hm ?_ ?_) <;> intro hb6 hm
  · refine sq2 (pu ?_)
    refine cB Q6i hm (X7 (hS.bun [0] [] rfl)) ?_
    rintro y10 _ T10 w10 im10 ⟨rfl,hS10,_⟩ hm
    refine pu ?_
    refine cB Q6i hm (X7 (hS10.bun [0] [] rfl)) ?_
    rintro y11 _ T11 w11 im11 ⟨rfl,hS11,_⟩ hm
    refine pu ?_
    refine cB Q6i hm (X7 (hS11.bun [0] [] rfl)) ?_
    rintro y12 _ T12 w12 im12 ⟨rfl,hS12,_⟩ hm
    refine pu ?_
    refine cB Q6i hm (X7 (hS12.bun [0] [] rfl)) ?_
    rintro y13 _ T13 w13 im13 ⟨rfl,hS13,_⟩ hm
    refine pu ?_
    refine nil (Z3 [(6,.int .u32 (bits .or .u32 (bits .or .u32 (bits .or .u32 (IntKind.wrap .u32 (y10 * 2 ^ (min (Int.toNat 12) (IntKind.bits .u32)))) (IntKind.wrap .u32 (y11 * 2 ^ (min (Int.toNat 5) (IntKind.bits .u32))))) (IntKind.wrap .u32 (y12 * 2 ^ (min (Int.toNat 1) (IntKind.bits .u32))))) (IntKind.wrap .u32 (y13 * 2 ^ (min (Int.toNat 11) (IntKind.bits .u32))))))] ⟨rfl,qZt⟩ fun J => ?_)
    refine sq2 (pu ?_)
    refine cB cf165 hm (W2 (hS13.bun [0] [] rfl)) ?_
    rintro y14 _ T14 w14 im14 ⟨rfl,hS14,_⟩ hm
    exact re hm (hS14.sel [0] rfl)
  refine pn ?_
  exact sq2 (re hm (hS.sel [0] rfl))

theorem Z2k {p0} (hS:Sep g T0 w0 [Q3 R])  : ∀ r,Q3k p0=some r →
    Calls Tryz.prog 89 #[.int .u8 p0] w0 (Y4 T0 w0 fun T w v=>v = .tuple #[.bool r.1,.bool r.2.1,.bool r.2.2.1,.bool r.2.2.2]∧Sep g T w (R ++ [])∧True):=by
  intro r hm
  refine enter Tryz.func89 rfl Tryz.ntmps89 rfl fun J => ?_
  unfold Q3k at hm
  refine sq2 (pn ?_)
  refine sq2 (pn ?_)
  refine F0 hm (fun kk1 a w1 => ∃ T1 x1 x2 x3 x4,JR (nf 22) g T0 w0 a w1 T1 (kk1 x1 x2 x3 x4=some r) [(2,.bool x1),(3,.bool x2),(4,.bool x3),(5,.bool x4)] [Q3 R]) (fun kk1 hm => ?_) ?_
  · refine sq2 (pn ?_)
    refine blk (sq2 (blk (F0 hm (fun kk2 a w2 => ∃ T2 x5 x6 x7,JR (nf 22) g T0 w0 a w2 T2 (kk2 x5 x6 x7=some r) [(3,.bool x5),(4,.bool x6),(5,.bool x7)] [Q3 R]) (fun kk2 hm => ?_) ?_)))
    · refine blk (F0 hm (fun kk3 a w3 => ∃ T3 x8 x9,JR (nf 22) g T0 w0 a w3 T3 (kk3 x8 x9=some r) [(4,.bool x8),(5,.bool x9)] [Q3 R]) (fun kk3 hm => ?_) ?_)
      · refine blk (sq2 (blk (sq2 (sq2 (sq2 (cd hm ?_ ?_)))))) <;> intro hb1 hm
        · exact je hm (hS.sel [0] rfl)
        refine pn ?_
        refine sq2 (F0 hm (fun kk4 a w4 => ∃ T4 x10,JR (nf 22) g T0 w0 a w4 T4 (kk4 x10=some r) [(2,.bool false),(3,.bool false),(4,.bool false),(5,.bool true),(6,.int .u8 p0),(9,.bool x10)] [Q3 R]) (fun kk4 hm => ?_) ?_)
        · refine sq2 (cd hm ?_ ?_) <;> intro hb2 hm
          · exact je hm (hS.sel [0] rfl)
          exact je hm (hS.sel [0] rfl)
        rintro _ w4 ⟨T4,x10,J,hm,rfl,hS1,im4⟩
        refine cd hm ?_ ?_ <;> intro hb3 hm
        · exact je hm (hS1.sel [0] rfl)
        refine pn ?_
        refine sq2 (F0 hm (fun kk5 a w5 => ∃ T5 x11,JR (nf 22) g T4 w4 a w5 T5 (kk5 x11=some r) [(2,.bool false),(3,.bool false),(4,.bool false),(5,.bool true),(6,.int .u8 p0),(12,.bool x11)] [Q3 R]) (fun kk5 hm => ?_) ?_)
        · refine sq2 (cd hm ?_ ?_) <;> intro hb4 hm
          · exact je hm (hS1.sel [0] rfl)
          exact je hm (hS1.sel [0] rfl)
        rintro _ w5 ⟨T5,x11,J,hm,rfl,hS2,im5⟩
        refine cd hm ?_ ?_ <;> intro hb5 hm
        · exact je hm (hS2.sel [0] rfl)
        refine pn ?_
        refine F0 hm (fun kk6 a w6 => ∃ T6 x12,JR (nf 22) g T5 w5 a w6 T6 (kk6 x12=some r) [(2,.bool false),(3,.bool false),(4,.bool false),(5,.bool true),(15,.bool x12)] [Q3 R]) (fun kk6 hm => ?_) ?_
        · refine sq2 (cd hm ?_ ?_) <;> intro hb6 hm
          · exact je hm (hS2.sel [0] rfl)
          exact je hm (hS2.sel [0] rfl)
        rintro _ w6 ⟨T6,x12,J,hm,rfl,hS3,im6⟩
        refine cd hm ?_ ?_ <;> intro hb7 hm
        · refine pn ?_
          exact sq2 (je hm (hS3.sel [0] rfl))
        exact je hm (hS3.sel [0] rfl)
      rintro _ w3 ⟨T3,x8,x9,J,hm,rfl,hS4,im3⟩
      exact je hm (hS4.sel [0] rfl)
    rintro _ w2 ⟨T2,x5,x6,x7,J,hm,rfl,hS5,im2⟩
    exact sq2 (je hm (hS5.sel [0] rfl))
  rintro _ w1 ⟨T1,x1,x2,x3,x4,J,hm,rfl,hS6,im1⟩
  exact sq2 (re hm (hS6.sel [0] rfl))

theorem A1 {p0} (hS:Sep g T0 w0 [Q3 R])  : ∀ r,E6 p0=some r →
    Calls Tryz.prog 47 #[.int .u32 p0] w0 (Y4 T0 w0 fun T w v=>v = .tuple #[.agg (P1 r.1).toArray,iv r.2]∧Sep g T w (R ++ [])∧True):=by
  intro r hm
  refine enter Tryz.func47 rfl Tryz.ntmps47 rfl fun J => ?_
  unfold E6 at hm
  refine sq2 (aL [iv 0,iv 0,iv 0,iv 0,iv 0] hS ?_)
  intro w1 b1 im1 hS1
  refine pn ?_
  refine sq2 (pu ?_)
  refine cB cf86 hm (Q4u (hS1.bun [0,1] [] rfl)) ?_
  rintro y1 _ T1 w2 im2 ⟨rfl,hS2,_⟩ hm
  refine wl rfl (alS (zs:=(List.map E7 (List.replicate 46 (⟨([]:List UInt8),0,0,0,0⟩:J4))).flatten ++ []) zeroValue208 (by kernel_rfl) hS2 fun w3 b2 im3 hS3 => ?_)
  obtain⟨z_1,hln1,hm⟩:=Q4 hm
  refine wl rfl (stArr (q:=0) hS3 ⟨rfl,rfl⟩ (C3 b2) rfl rfl B0 (fun _=>rfl) rfl (Q8 hln1) rfl sizeOf208 fun w4 im4 hS4 => ?_)
  refine pn ?_
  refine sq2 (sq2 (pn ?_))
  refine lpJ hm (fun bd1 o1 m a w5 => ∃ T2 x1,JR (nf 55) g T1 w4 a w5 T2 (Y9 bd1 m x1=some o1) [(0,.int .u32 p0),(2,pt b1 0),(4,pt b2 0),(5,iv x1)] [Q3 R,Y2 b1 [iv 0,iv 0,iv 0,iv 0,iv 0],U9 (Y2 b2) E7 y1 []]) (fun _ _ h=>je h (hS4.sel [2,1,0] rfl)) ?_
  rintro bd1 hbd1 o1 hq1 _ _ w5 ⟨T2,x1,J,ho1,rfl,hS5,im5⟩
  obtain⟨m1,z1,rfl,hm,hn1⟩:=lrE ho1 hbd1
  refine sq2 (sq2 (cd hm ?_ ?_)) <;> intro hb1 hm
  · refine pn ?_
    refine sq2 (blk (sq2 ?_))
    obtain⟨u1,hx2,hm⟩:=Q4 hm
    obtain⟨of1,he1⟩ : ∃ z:Nat,z=(0+0)+(Int.toNat x1) * 5:=⟨_,rfl⟩
    refine pu ?_
    refine pv (Q1g rfl rfl (Q8 hln1) hx2 underlying208 sizeOf207 he1) (pv (r_ldS rfl isAgg207 sizeOf207 rfl ((Sep.segEl hS5 (q:=2) ⟨rfl,rfl⟩ (C3 b2) B0 hx2 he1).sub 0 rfl) (cs:=(S7 u1))) (aL zv3 hS5 ?_))
    intro w6 b3 im6 hS6
    refine sT 0 hS6 ?_
    intro w7 im7 hS7
    refine pn ?_
    refine sq2 (sq2 (pu ?_))
    refine cB cf87 hm (Z4d (hS7.bun (Q9 0 4) [] rfl)) ?_
    rintro y2 _ T3 w8 im8 ⟨rfl,hS8,_⟩ hm
    refine cd hm ?_ ?_ <;> intro hb2 hm
    · exact lg hm hn1 (hS8.sel [1,2,3] rfl)
    refine pn ?_
    refine sq2 (pu ?_)
    refine cB cf88 hm (Z4c (hS8.bun [0,1,2] [] rfl)) ?_
    rintro y3 _ T4 w9 im9 ⟨rfl,hS9,_⟩ hm
    refine pv (U3 (by kernel_rfl) rfl (u := .agg #[iv x1,iv 0,iv 0,iv 0,iv y3])) (aL [iv 0,iv 0,iv 0,iv 0,iv 0] hS9 ?_)
    intro w10 b4 im10 hS10
    refine sT 0 hS10 ?_
    intro w11 im11 hS11
    refine pn ?_
    refine sq2 (pu ?_)
    refine cB cf89 hm (Z2k (hS11.bun [0,2,3] [] rfl)) ?_
    rintro y4 _ T5 w12 im12 ⟨rfl,hS12,_⟩ hm
    refine pu ?_
    refine nil (Z3 [(0,.int .u32 p0),(2,pt b1 0),(7,pt b4 0),(8,.bool y4.1),(9,.bool y4.2.1),(10,.bool y4.2.2.1)] ⟨rfl,rfl,rfl,rfl,rfl,rfl,qZt⟩ fun J => ?_)
    refine F0 hm (fun kk1 a w13 => ∃(T6:_) (x2:V4),JR (nf 55) g T5 w12 a w13 T6 (kk1 x2=some z1) [(0,.int .u32 p0),(2,pt b1 0),(7,pt b4 0),(9,.bool y4.2.1),(10,.bool y4.2.2.1)] [Q3 R,Y2 b1 [iv 0,iv 0,iv 0,iv 0,iv 0],Y2 b4 (P1 x2)]) (fun kk1 hm => ?_) ?_
    · refine sq2 (cd hm ?_ ?_) <;> intro hb3 hm
      · refine pu ?_
        refine cB Q6i hm (X7 (hS12.bun [0,1,2] [] rfl)) ?_
        rintro y5 _ T7 w14 im14 ⟨rfl,hS13,_⟩ hm
        refine sT 0 hS13 ?_
        intro w15 im15 hS14
        exact je hm (hS14.sel [1,2,0] rfl)
      exact je hm (hS12.sel [1,2,0] rfl)
    rintro _ w13 ⟨T6,x2,J,hm,rfl,hS15,im13⟩
    refine F0 hm (fun kk2 a w16 => ∃(T8:_) (x3:V4),JR (nf 55) g T6 w13 a w16 T8 (kk2 x3=some z1) [(0,.int .u32 p0),(2,pt b1 0),(7,pt b4 0),(10,.bool y4.2.2.1)] [Q3 R,Y2 b1 [iv 0,iv 0,iv 0,iv 0,iv 0],Y2 b4 (P1 x3)]) (fun kk2 hm => ?_) ?_
    · refine sq2 (cd hm ?_ ?_) <;> intro hb4 hm
      · refine pu ?_
        refine cB Q6i hm (X7 (hS15.bun [0,1,2] [] rfl)) ?_
        rintro y6 _ T9 w17 im17 ⟨rfl,hS16,_⟩ hm
        refine sT 2 hS16 ?_
        intro w18 im18 hS17
        exact je hm (hS17.sel [0,1,2] rfl)
      exact je hm (hS15.sel [0,1,2] rfl)
    rintro _ w16 ⟨T8,x3,J,hm,rfl,hS18,im16⟩
    refine F0 hm (fun kk3 a w19 => ∃(T10:_) (x4:V4),JR (nf 55) g T8 w16 a w19 T10 (kk3 x4=some z1) [(2,pt b1 0),(7,pt b4 0)] [Q3 R,Y2 b1 [iv 0,iv 0,iv 0,iv 0,iv 0],Y2 b4 (P1 x4)]) (fun kk3 hm => ?_) ?_
    · refine sq2 (cd hm ?_ ?_) <;> intro hb5 hm
      · refine pu ?_
        refine cB Q6i hm (X7 (hS18.bun [0,1,2] [] rfl)) ?_
        rintro y7 _ T11 w20 im20 ⟨rfl,hS19,_⟩ hm
        refine sT 2 hS19 ?_
        intro w21 im21 hS20
        exact je hm (hS20.sel [0,1,2] rfl)
      exact je hm (hS18.sel [0,1,2] rfl)
    rintro _ w19 ⟨T10,x4,J,hm,rfl,hS21,im19⟩
    refine sq2 (sT 1 hS21 ?_)
    intro w22 im22 hS22
    refine pn ?_
    have hm:=retE hm hn1 hq1
    exact re hm (hS22.sel [0] rfl)
  have hm:=Q3s hm hn1 hq1
  refine pn ?_
  refine sq2 (pu ?_)
  refine pv (U3 (by kernel_rfl) rfl (u := .agg #[iv 0,iv 0,iv 0,iv 0,iv 0])) (sT 1 hS5 ?_)
  intro w23 im23 hS23
  exact re hm (hS23.sel [0] rfl)

theorem F4 {p0:List Int} {a1 c1} (hS:Sep g T0 w0 [Q3 R]) (h1:SlR (Q2 .u32) T0 w0 (sv a1 p0 c1) p0) : ∀ r,M7 p0=some r →
    Calls Tryz.prog 44 #[sv a1 p0 c1] w0 (Y4 T0 w0 fun T w v => ∃ a4 n3 c4,v = .slice a4 n3 c4∧Sep g T w (R ++ [Z0 (Q2 .u32) 59 (.slice a4 n3 c4) r])∧True):=by
  intro r hm
  refine enter Tryz.func44 rfl Tryz.ntmps44 rfl fun J => ?_
  unfold M7 at hm
  refine sq2 (pn ?_)
  refine sq2 (sq2 (pu ?_))
  refine pv (r_sne rfl rfl rfl underlying22) (pn ?_)
  rcases SlR.nilOr h1 with ⟨hb1,hl0⟩ | hb1
  · subst hb1
    subst hl0
    have hm:some []=some r:=hm
    refine cnd (b:=true) rfl (fun _ => ?_) (fun h=>nomatch h)
    refine sq2 (pn ?_)
    have hS1:=hS.nilO (Q2 .u32) 59
    exact re hm (hS1.sel [1,0] rfl)
  refine cnd rfl (fun h=>absurd (h.symm.trans hb1) (fun h=>nomatch h)) (fun _ => ?_)
  refine pn ?_
  refine sq2 (pu ?_)
  refine wl rfl (bs0S (Q2 .u32) hS underlying22 sizeOf59 fun w1 a2 n1 c2 im1 hS2 => ?_)
  obtain⟨z_1,hro1,hm⟩:=Q4 hm
  refine pu ?_
  refine wl rfl (apO (q:=0) (l:=([]:List Int)) (us:=p0) hS2 ⟨rfl,rfl⟩ rfl rfl (h1.mono im1).v underlying22 el59 (Q2m hro1) fun w2 a3 n2 c3 im2 hS3 => ?_)
  exact re hm (hS3.sel [1,0] rfl)

theorem A3 {p0:List Int} {a1 c1} (hS:Sep g T0 w0 [Q3 R]) (h1:SlR (Q2 .u8) T0 w0 (sv a1 p0 c1) p0) : ∀ r,N6 p0=some r →
    Calls Tryz.prog 45 #[sv a1 p0 c1] w0 (Y4 T0 w0 fun T w v => ∃ a4 n3 c4,v = .slice a4 n3 c4∧Sep g T w (R ++ [Z0 (Q2 .u8) 5 (.slice a4 n3 c4) r])∧True):=by
  intro r hm
  refine enter Tryz.func45 rfl Tryz.ntmps45 rfl fun J => ?_
  unfold N6 at hm
  refine sq2 (pn ?_)
  refine sq2 (sq2 (pu ?_))
  refine pv (r_sne rfl rfl rfl underlying23) (pn ?_)
  rcases SlR.nilOr h1 with ⟨hb1,hl0⟩ | hb1
  · subst hb1
    subst hl0
    have hm:some []=some r:=hm
    refine cnd (b:=true) rfl (fun _ => ?_) (fun h=>nomatch h)
    refine sq2 (pn ?_)
    have hS1:=hS.nilO (Q2 .u8) 5
    exact re hm (hS1.sel [1,0] rfl)
  refine cnd rfl (fun h=>absurd (h.symm.trans hb1) (fun h=>nomatch h)) (fun _ => ?_)
  refine pn ?_
  refine sq2 (pu ?_)
  refine wl rfl (bs0S (Q2 .u8) hS underlying23 sizeOf5 fun w1 a2 n1 c2 im1 hS2 => ?_)
  obtain⟨z_1,hro1,hm⟩:=Q4 hm
  refine pu ?_
  refine wl rfl (apO (q:=0) (l:=([]:List Int)) (us:=p0) hS2 ⟨rfl,rfl⟩ rfl rfl (h1.mono im1).v underlying23 el5 (Q2m hro1) fun w2 a3 n2 c3 im2 hS3 => ?_)
  exact re hm (hS3.sel [1,0] rfl)

theorem Q4y {p0:List Int} {a1 c1} {p1:List Int} {a2 c2} {p2:List Int} {a3 c3} (hS:Sep g T0 w0 [Q3 R]) (h1:SlR (Q2 .u32) T0 w0 (sv a1 p0 c1) p0) (h2:SlR (Q2 .u8) T0 w0 (sv a2 p1 c2) p1) (h3:SlR (Q2 .u32) T0 w0 (sv a3 p2 c3) p2) : ∀ r,A6 p0 p1 p2=some r →
    Calls Tryz.prog 23 #[sv a1 p0 c1,sv a2 p1 c2,sv a3 p2 c3] w0 (exR r (fun r=>Y4 T0 w0 fun T w v=>v = .tuple #[.pointer none,iv r]∧Sep g T w (R ++ [])∧True) (fun r=>Y4 T0 w0 fun T w v => ∃ b2 a8 c8 a9 n5 c9 a10 n6 c10 a11 c11 a12 n7 c12,v = .tuple #[pt b2 0,iv r.2]∧Sep g T w (R ++ [U9 (Y2 b2) Z9 r.1.volatile.regs [.int .u32 r.1.volatile.pc,.int .u32 r.1.volatile.seq,.int .u32 r.1.volatile.index,sv a8 r.1.code c8,.slice a9 n5 c9,.slice a10 n6 c10,sv a11 r.1.inputs c11,.slice a12 n7 c12,iv r.1.steps,iv r.1.state,.int .u32 r.1.exit],Z0 Q6 218 (.slice a9 n5 c9) r.1.met,Z0 (Q2 .u8) 5 (.slice a10 n6 c10) r.1.data,Z0 Z1 403 (.slice a12 n7 c12) r.1.log])∧SlR (Q2 .u32) T w (sv a8 r.1.code c8) r.1.code∧SlR (Q2 .u32) T w (sv a11 r.1.inputs c11) r.1.inputs∧True)):=by
  intro r hm
  refine enter Tryz.func23 rfl Tryz.ntmps23 rfl fun J => ?_
  unfold A6 at hm
  refine sq2 (pn ?_)
  refine sq2 (sq2 (pu ?_))
  refine fkC (d:=15) (c:=((decide ((List.length p0:Int) < 1)) || (decide (32768 < (List.length p0:Int))))) 4 [(0,sv a1 p0 c1),(1,sv a2 p1 c2),(2,sv a3 p2 c3)] rfl (fun hk => ?_) fun J => ?_
  · rcases Bool.eq_false_or_eq_true (decide ((List.length p0:Int) < 1)) with hb1 | hb1
    · exact  gF3 (d0:=11) rfl rfl (by rw [hb1]; rfl) (pv (V1 rfl hb1 rfl) (wlR (fun J=>hk J _ (by rw [hb1]; rfl)) ⟨rfl,rfl,rfl,rfl,qZt⟩))
    exact  gT (d0:=11) rfl rfl hb1 (pv (r_ms rfl) (gT (d0:=11) rfl rfl hb1 (pv (Q7x rfl underlying22) (gT (d0:=11) rfl rfl hb1 (pv (J8 rfl rfl rfl) (pv (V2 rfl hb1 rfl) (wlR (fun J=>hk J _ (by rw [hb1]; rfl)) ⟨rfl,rfl,rfl,rfl,qZt⟩)))))))
  refine pu ?_
  refine fkC (d:=20) (c:=(((decide ((List.length p0:Int) < 1)) || (decide (32768 < (List.length p0:Int)))) || (decide ((List.length p1:Int) < 4)))) 4 [(0,sv a1 p0 c1),(1,sv a2 p1 c2),(2,sv a3 p2 c3)] rfl (fun hk => ?_) fun J => ?_
  · rcases Bool.eq_false_or_eq_true ((decide ((List.length p0:Int) < 1)) || (decide (32768 < (List.length p0:Int)))) with hb2 | hb2
    · exact  gF3 (d0:=16) rfl rfl (by rw [hb2]; rfl) (pv (V1 rfl hb2 rfl) (wlR (fun J=>hk J _ (by rw [hb2]; rfl)) ⟨rfl,rfl,rfl,rfl,qZt⟩))
    exact  gT (d0:=16) rfl rfl hb2 (pv (r_ms rfl) (gT (d0:=16) rfl rfl hb2 (pv (Q7x rfl underlying23) (gT (d0:=16) rfl rfl hb2 (pv (J8 rfl rfl rfl) (pv (V2 rfl hb2 rfl) (wlR (fun J=>hk J _ (by rw [hb2]; rfl)) ⟨rfl,rfl,rfl,rfl,qZt⟩)))))))
  refine pu ?_
  refine fkC (d:=25) (c:=((((decide ((List.length p0:Int) < 1)) || (decide (32768 < (List.length p0:Int)))) || (decide ((List.length p1:Int) < 4))) || (decide (65536 < (List.length p1:Int))))) 4 [(0,sv a1 p0 c1),(1,sv a2 p1 c2),(2,sv a3 p2 c3)] rfl (fun hk => ?_) fun J => ?_
  · rcases Bool.eq_false_or_eq_true (((decide ((List.length p0:Int) < 1)) || (decide (32768 < (List.length p0:Int)))) || (decide ((List.length p1:Int) < 4))) with hb3 | hb3
    · exact  gF3 (d0:=21) rfl rfl (by rw [hb3]; rfl) (pv (V1 rfl hb3 rfl) (wlR (fun J=>hk J _ (by rw [hb3]; rfl)) ⟨rfl,rfl,rfl,rfl,qZt⟩))
    exact  gT (d0:=21) rfl rfl hb3 (pv (r_ms rfl) (gT (d0:=21) rfl rfl hb3 (pv (Q7x rfl underlying23) (gT (d0:=21) rfl rfl hb3 (pv (J8 rfl rfl rfl) (pv (V2 rfl hb3 rfl) (wlR (fun J=>hk J _ (by rw [hb3]; rfl)) ⟨rfl,rfl,rfl,rfl,qZt⟩)))))))
  refine pu ?_
  refine fkN (d:=31) (c:=(((((decide ((List.length p0:Int) < 1)) || (decide (32768 < (List.length p0:Int)))) || (decide ((List.length p1:Int) < 4))) || (decide (65536 < (List.length p1:Int)))) || ((Int.tmod (List.length p1:Int) 4) != 0))) 5 [(0,sv a1 p0 c1),(1,sv a2 p1 c2),(2,sv a3 p2 c3)] rfl (fun hk => ?_) fun J => ?_
  · rcases Bool.eq_false_or_eq_true ((((decide ((List.length p0:Int) < 1)) || (decide (32768 < (List.length p0:Int)))) || (decide ((List.length p1:Int) < 4))) || (decide (65536 < (List.length p1:Int)))) with hb4 | hb4
    · exact  gF4 (d0:=26) rfl rfl (by rw [hb4]; rfl) (pv (V1 rfl hb4 rfl) (wlR (fun J=>hk J _ (by rw [hb4]; rfl)) ⟨rfl,rfl,rfl,rfl,qZt⟩))
    exact  gT (d0:=26) rfl rfl hb4 (pv (r_ms rfl) (gT (d0:=26) rfl rfl hb4 (pv (Q7x rfl underlying23) (gT (d0:=26) rfl rfl hb4 (pv (Q3u rfl rfl (by decide)) (gT (d0:=26) rfl rfl hb4 (pv (J8 rfl rfl rfl) (pv (V2 rfl hb4 rfl) (wlR (fun J=>hk J _ (by rw [hb4]; rfl)) ⟨rfl,rfl,rfl,rfl,qZt⟩)))))))))
  refine cd hm ?_ ?_ <;> intro hb5 hm
  · exact sq2 (re hm (hS.sel [0] rfl))
  refine pn ?_
  refine sq2 (rtS [0,2,0,0,2,0,2,0,2,0,2,0,0] [0,2,3,5,7,1,4,6,8,9,10,11,12] hS fun w1 im1 hS1 => ?_)
  obtain⟨y1,hx1,hm⟩:=Q4 hm
  obtain⟨u1,hx2,hm⟩:=Q4 hm
  obtain⟨y2,hx3,hm⟩:=Q4 hm
  obtain⟨y3,hx4,hm⟩:=Q4 hm
  refine tF [1,4] ?_
  refine⟨?_,?_,qZt⟩
  · refine brW [4,6,8,9,10,11,12] [] ?_
    refine oS cf44 (F4 (hS1.bun [0] [] rfl) (h1.mono im1) _ hx1) ?_
    rintro _ T1 w2 im2 ⟨a4,n1,c4,rfl,hS2,_⟩
    refine tF [4,6] ?_
    refine⟨?_,?_,qZt⟩
    · refine brW [6,8,9,10,11,12] [] ?_
      refine msS (r:=Q6) hS2 rfl rfl underlying83 Z8m zeroValue218 (P8 (x:=(⟨false,false,(⟨0,0,0,0,0⟩:V4)⟩:Y7))  : Q6.rp _ _ _ _) hx2 fun w3 a5 n2 c5 im3 hS3 => ?_
      refine t1W [6] [8,9,10,11,12] [] ?_
      refine oS cf45 (A3 (hS3.bun [0,1,2] [] rfl) (h2.mono ch) _ hx3) ?_
      rintro _ T2 w4 im4 ⟨a6,n3,c6,rfl,hS4,_⟩
      refine t1W [8] [9,10,11,12] [] ?_
      refine oS cf44 (F4 (hS4.bun (Q9 0 4) [] rfl) (h3.mono ch) _ hx4) ?_
      rintro _ T3 w5 im5 ⟨a7,n4,c7,rfl,hS5,_⟩
      refine pu ?_
      refine t0 rfl qZt (fun _=>U3 (by kernel_rfl) rfl (u := .agg #[.int .u32 0,.int .u32 0,.int .u32 0,.int .u32 0,.int .u32 0,.int .u32 0,.int .u32 0,.int .u32 0,.int .u32 0,.int .u32 0,.int .u32 0,.int .u32 0,.int .u32 0,.int .u32 0,.int .u32 0,.int .u32 0,.int .u32 0,.int .u32 0,.int .u32 0,.int .u32 0,.int .u32 0,.int .u32 0,.int .u32 0,.int .u32 0,.int .u32 0,.int .u32 0,.int .u32 0,.int .u32 0,.int .u32 0,.int .u32 0,.int .u32 0,.int .u32 0,.int .u32 0,.int .u32 0,.int .u32 0,.slice a4 n1 c4,.slice a5 n2 c5,.slice a6 n3 c6,.slice a7 n4 c7,.slice none 0 0,iv 0,iv 0,.int .u32 0])) rfl (?_)
      refine t1W [10] [11,12] [] ?_
      refine obX [.int .u32 0,.int .u32 0,.int .u32 0,.int .u32 0,.int .u32 0,.int .u32 0,.int .u32 0,.int .u32 0,.int .u32 0,.int .u32 0,.int .u32 0,.int .u32 0,.int .u32 0,.int .u32 0,.int .u32 0,.int .u32 0,.int .u32 0,.int .u32 0,.int .u32 0,.int .u32 0,.int .u32 0,.int .u32 0,.int .u32 0,.int .u32 0,.int .u32 0,.int .u32 0,.int .u32 0,.int .u32 0,.int .u32 0,.int .u32 0,.int .u32 0,.int .u32 0,.int .u32 0,.int .u32 0,.int .u32 0,.slice a4 n1 c4,.slice a5 n2 c5,.slice a6 n3 c6,.slice a7 n4 c7,.slice none 0 0,iv 0,iv 0,.int .u32 0] hS5 ?_
      intro w6 b1 im6 hS6
      refine pn ?_
      obtain⟨T4,im7,hS7,h4,rfl⟩:=hS6.sl 3
      obtain⟨T5,im8,hS8,h5,rfl⟩:=hS7.sl 5
      have hS9:=hS8.nilO Z1 403
      exact re hm (hS9.sel [3,1,2,5,0] rfl)
    refine brW [4,8,9,10,11,12] [] ?_
    refine oS cf45 (A3 (hS2.bun [0,1] [] rfl) (h2.mono ch) _ hx3) ?_
    rintro _ T2 w3 im3 ⟨a5,n2,c5,rfl,hS3,_⟩
    refine tF [4,8] ?_
    refine⟨?_,?_,qZt⟩
    · refine brW [8,9,10,11,12] [] ?_
      refine msS (r:=Q6) hS3 rfl rfl underlying83 Z8m zeroValue218 (P8 (x:=(⟨false,false,(⟨0,0,0,0,0⟩:V4)⟩:Y7))  : Q6.rp _ _ _ _) hx2 fun w4 a6 n3 c6 im4 hS4 => ?_
      refine t1W [8] [9,10,11,12] [] ?_
      refine oS cf44 (F4 (hS4.bun (Q9 0 4) [] rfl) (h3.mono ch) _ hx4) ?_
      rintro _ T3 w5 im5 ⟨a7,n4,c7,rfl,hS5,_⟩
      refine pu ?_
      refine t0 rfl qZt (fun _=>U3 (by kernel_rfl) rfl (u := .agg #[.int .u32 0,.int .u32 0,.int .u32 0,.int .u32 0,.int .u32 0,.int .u32 0,.int .u32 0,.int .u32 0,.int .u32 0,.int .u32 0,.int .u32 0,.int .u32 0,.int .u32 0,.int .u32 0,.int .u32 0,.int .u32 0,.int .u32 0,.int .u32 0,.int .u32 0,.int .u32 0,.int .u32 0,.int .u32 0,.int .u32 0,.int .u32 0,.int .u32 0,.int .u32 0,.int .u32 0,.int .u32 0,.int .u32 0,.int .u32 0,.int .u32 0,.int .u32 0,.int .u32 0,.int .u32 0,.int .u32 0,.slice a4 n1 c4,.slice a6 n3 c6,.slice a5 n2 c5,.slice a7 n4 c7,.slice none 0 0,iv 0,iv 0,.int .u32 0])) rfl (?_)
      refine t1W [10] [11,12] [] ?_
      refine obX [.int .u32 0,.int .u32 0,.int .u32 0,.int .u32 0,.int .u32 0,.int .u32 0,.int .u32 0,.int .u32 0,.int .u32 0,.int .u32 0,.int .u32 0,.int .u32 0,.int .u32 0,.int .u32 0,.int .u32 0,.int .u32 0,.int .u32 0,.int .u32 0,.int .u32 0,.int .u32 0,.int .u32 0,.int .u32 0,.int .u32 0,.int .u32 0,.int .u32 0,.int .u32 0,.int .u32 0,.int .u32 0,.int .u32 0,.int .u32 0,.int .u32 0,.int .u32 0,.int .u32 0,.int .u32 0,.int .u32 0,.slice a4 n1 c4,.slice a6 n3 c6,.slice a5 n2 c5,.slice a7 n4 c7,.slice none 0 0,iv 0,iv 0,.int .u32 0] hS5 ?_
      intro w6 b1 im6 hS6
      refine pn ?_
      obtain⟨T4,im7,hS7,h4,rfl⟩:=hS6.sl 3
      obtain⟨T5,im8,hS8,h5,rfl⟩:=hS7.sl 5
      have hS9:=hS8.nilO Z1 403
      exact re hm (hS9.sel [3,1,2,5,0] rfl)
    refine brW [4,9,10,11,12] [] ?_
    refine oS cf44 (F4 (hS3.bun [0,1,2] [] rfl) (h3.mono ch) _ hx4) ?_
    rintro _ T3 w4 im4 ⟨a6,n3,c6,rfl,hS4,_⟩
    refine t1W [4] [9,10,11,12] [] ?_
    refine msS (r:=Q6) hS4 rfl rfl underlying83 Z8m zeroValue218 (P8 (x:=(⟨false,false,(⟨0,0,0,0,0⟩:V4)⟩:Y7))  : Q6.rp _ _ _ _) hx2 fun w5 a7 n4 c7 im5 hS5 => ?_
    refine pu ?_
    refine t0 rfl qZt (fun _=>U3 (by kernel_rfl) rfl (u := .agg #[.int .u32 0,.int .u32 0,.int .u32 0,.int .u32 0,.int .u32 0,.int .u32 0,.int .u32 0,.int .u32 0,.int .u32 0,.int .u32 0,.int .u32 0,.int .u32 0,.int .u32 0,.int .u32 0,.int .u32 0,.int .u32 0,.int .u32 0,.int .u32 0,.int .u32 0,.int .u32 0,.int .u32 0,.int .u32 0,.int .u32 0,.int .u32 0,.int .u32 0,.int .u32 0,.int .u32 0,.int .u32 0,.int .u32 0,.int .u32 0,.int .u32 0,.int .u32 0,.int .u32 0,.int .u32 0,.int .u32 0,.slice a4 n1 c4,.slice a7 n4 c7,.slice a5 n2 c5,.slice a6 n3 c6,.slice none 0 0,iv 0,iv 0,.int .u32 0])) rfl (?_)
    refine t1W [10] [11,12] [] ?_
    refine obX [.int .u32 0,.int .u32 0,.int .u32 0,.int .u32 0,.int .u32 0,.int .u32 0,.int .u32 0,.int .u32 0,.int .u32 0,.int .u32 0,.int .u32 0,.int .u32 0,.int .u32 0,.int .u32 0,.int .u32 0,.int .u32 0,.int .u32 0,.int .u32 0,.int .u32 0,.int .u32 0,.int .u32 0,.int .u32 0,.int .u32 0,.int .u32 0,.int .u32 0,.int .u32 0,.int .u32 0,.int .u32 0,.int .u32 0,.int .u32 0,.int .u32 0,.int .u32 0,.int .u32 0,.int .u32 0,.int .u32 0,.slice a4 n1 c4,.slice a7 n4 c7,.slice a5 n2 c5,.slice a6 n3 c6,.slice none 0 0,iv 0,iv 0,.int .u32 0] hS5 ?_
    intro w6 b1 im6 hS6
    refine pn ?_
    obtain⟨T4,im7,hS7,h4,rfl⟩:=hS6.sl 3
    obtain⟨T5,im8,hS8,h5,rfl⟩:=hS7.sl 5
    have hS9:=hS8.nilO Z1 403
    exact re hm (hS9.sel [3,1,2,5,0] rfl)
  refine brW [1,6,8,9,10,11,12] [] ?_
  refine msS (r:=Q6) hS1 rfl rfl underlying83 Z8m zeroValue218 (P8 (x:=(⟨false,false,(⟨0,0,0,0,0⟩:V4)⟩:Y7))  : Q6.rp _ _ _ _) hx2 fun w2 a4 n1 c4 im2 hS2 => ?_
  refine t1W [1] [6,8,9,10,11,12] [] ?_
  refine oS cf44 (F4 (hS2.bun [0,1] [] rfl) (h1.mono ch) _ hx1) ?_
  rintro _ T1 w3 im3 ⟨a5,n2,c5,rfl,hS3,_⟩
  refine t1W [6] [8,9,10,11,12] [] ?_
  refine oS cf45 (A3 (hS3.bun [0,1,2] [] rfl) (h2.mono ch) _ hx3) ?_
  rintro _ T2 w4 im4 ⟨a6,n3,c6,rfl,hS4,_⟩
  refine t1W [8] [9,10,11,12] [] ?_
  refine oS cf44 (F4 (hS4.bun (Q9 0 4) [] rfl) (h3.mono ch) _ hx4) ?_
  rintro _ T3 w5 im5 ⟨a7,n4,c7,rfl,hS5,_⟩
  refine pu ?_
  refine t0 rfl qZt (fun _=>U3 (by kernel_rfl) rfl (u := .agg #[.int .u32 0,.int .u32 0,.int .u32 0,.int .u32 0,.int .u32 0,.int .u32 0,.int .u32 0,.int .u32 0,.int .u32 0,.int .u32 0,.int .u32 0,.int .u32 0,.int .u32 0,.int .u32 0,.int .u32 0,.int .u32 0,.int .u32 0,.int .u32 0,.int .u32 0,.int .u32 0,.int .u32 0,.int .u32 0,.int .u32 0,.int .u32 0,.int .u32 0,.int .u32 0,.int .u32 0,.int .u32 0,.int .u32 0,.int .u32 0,.int .u32 0,.int .u32 0,.int .u32 0,.int .u32 0,.int .u32 0,.slice a5 n2 c5,.slice a4 n1 c4,.slice a6 n3 c6,.slice a7 n4 c7,.slice none 0 0,iv 0,iv 0,.int .u32 0])) rfl (?_)
  refine t1W [10] [11,12] [] ?_
  refine obX [.int .u32 0,.int .u32 0,.int .u32 0,.int .u32 0,.int .u32 0,.int .u32 0,.int .u32 0,.int .u32 0,.int .u32 0,.int .u32 0,.int .u32 0,.int .u32 0,.int .u32 0,.int .u32 0,.int .u32 0,.int .u32 0,.int .u32 0,.int .u32 0,.int .u32 0,.int .u32 0,.int .u32 0,.int .u32 0,.int .u32 0,.int .u32 0,.int .u32 0,.int .u32 0,.int .u32 0,.int .u32 0,.int .u32 0,.int .u32 0,.int .u32 0,.int .u32 0,.int .u32 0,.int .u32 0,.int .u32 0,.slice a5 n2 c5,.slice a4 n1 c4,.slice a6 n3 c6,.slice a7 n4 c7,.slice none 0 0,iv 0,iv 0,.int .u32 0] hS5 ?_
  intro w6 b1 im6 hS6
  refine pn ?_
  obtain⟨T4,im7,hS7,h4,rfl⟩:=hS6.sl 3
  obtain⟨T5,im8,hS8,h5,rfl⟩:=hS7.sl 5
  have hS9:=hS8.nilO Z1 403
  exact re hm (hS9.sel [3,1,2,5,0] rfl)

theorem Q4v {p0:X8} {a1 c1 a2 c2} {p1:List Int} {a3 c3} (hS:Sep g T0 w0 [Q3 R]) (h1:SlR (Q2 .u32) T0 w0 (sv a1 p0.Code c1) p0.Code) (h2:SlR (Q2 .u8) T0 w0 (sv a2 p0.Data c2) p0.Data) (h3:SlR (Q2 .u32) T0 w0 (sv a3 p1 c3) p1) : ∀ r,S6 p0 p1=some r →
    Calls Tryz.prog 11 #[.agg #[sv a1 p0.Code c1,sv a2 p0.Data c2,iv p0.Limit,iv p0.Notes],sv a3 p1 c3] w0 (exR r (fun r=>Y4 T0 w0 fun T w v=>v = .tuple #[.pointer none,iv r]∧Sep g T w (R ++ [])∧True) (fun r=>Y4 T0 w0 fun T w v => ∃ b3 a9 c9 a10 n4 c10 a11 n5 c11 a12 c12 a13 n6 c13,v = .tuple #[pt b3 0,iv r.2]∧Sep g T w (R ++ [U9 (Y2 b3) Z9 r.1.volatile.regs [.int .u32 r.1.volatile.pc,.int .u32 r.1.volatile.seq,.int .u32 r.1.volatile.index,sv a9 r.1.code c9,.slice a10 n4 c10,.slice a11 n5 c11,sv a12 r.1.inputs c12,.slice a13 n6 c13,iv r.1.steps,iv r.1.state,.int .u32 r.1.exit],Z0 Q6 218 (.slice a10 n4 c10) r.1.met,Z0 (Q2 .u8) 5 (.slice a11 n5 c11) r.1.data,Z0 Z1 403 (.slice a13 n6 c13) r.1.log])∧SlR (Q2 .u32) T w (sv a9 r.1.code c9) r.1.code∧SlR (Q2 .u32) T w (sv a12 r.1.inputs c12) r.1.inputs∧True)):=by
  intro r hm
  refine enter Tryz.func11 rfl Tryz.ntmps11 rfl fun J => ?_
  unfold S6 at hm
  refine sq2 (bX [sv a1 p0.Code c1,sv a2 p0.Data c2,iv p0.Limit,iv p0.Notes] hS ?_)
  intro w1 b1 im1 hS1
  refine pn ?_
  refine sq2 (pu ?_)
  obtain⟨y1,hx1,hm⟩:=Q4 hm
  rcases y1 with e1 | y1
  · have hm:=Q5g hm
    refine cS cf23 (Q4y (hS1.bun [1] [] rfl) (h1.mono im1) (h2.mono im1) (h3.mono im1) _ hx1) ?_
    rintro _ T2 w3 im3 ⟨b2,a4,c4,a5,n1,c5,a6,n2,c6,a7,c7,a8,n3,c8,rfl,hS3,h4,h5,_⟩
    exact re hm (hS3.sel (Q9 0 5) rfl)
  have hm:=Z6q hm
  refine cS cf23 (Q4y (hS1.bun [1] [] rfl) (h1.mono im1) (h2.mono im1) (h3.mono im1) _ hx1) ?_
  rintro _ T1 w2 im2 ⟨rfl,hS2,_⟩
  exact re hm (hS2.sel [0] rfl)

theorem Z0p {p0:X8} {a1 c1 a2 c2} {p1:Q1} {b_p1 o_p1:Nat} {H_p1:List Value→Z4} {a3 c3 a4 n1 c4 a5 n2 c5 a6 c6 a7 n3 c7} {p2:List Int} {a8 c8 p3 p4} {Q5o Q5k:Nat} {Q8k:List Value→Z4} (hS:Sep g T0 w0 [Q3 R,U9 (H_p1) Z9 p1.volatile.regs [.int .u32 p1.volatile.pc,.int .u32 p1.volatile.seq,.int .u32 p1.volatile.index,sv a3 p1.code c3,.slice a4 n1 c4,.slice a5 n2 c5,sv a6 p1.inputs c6,.slice a7 n3 c7,iv p1.steps,iv p1.state,.int .u32 p1.exit],Z0 Q6 218 (.slice a4 n1 c4) p1.met,Z0 (Q2 .u8) 5 (.slice a5 n2 c5) p1.data,Z0 Z1 403 (.slice a7 n3 c7) p1.log,Q8k [iv p4]]) (h1:SlR (Q2 .u32) T0 w0 (sv a1 p0.Code c1) p0.Code) (h2:SlR (Q2 .u8) T0 w0 (sv a2 p0.Data c2) p0.Data) (hL_p1:Ln b_p1 o_p1 H_p1) (h3:SlR (Q2 .u32) T0 w0 (sv a3 p1.code c3) p1.code) (h4:SlR (Q2 .u32) T0 w0 (sv a6 p1.inputs c6) p1.inputs) (h5:SlR (Q2 .i64) T0 w0 (sv a8 p2 c8) p2) (hL_p4:Ln Q5o Q5k Q8k) : ∀ r,Q5u p0 p1 p2 p3 p4=some r →
    Calls Tryz.prog 12 #[.agg #[sv a1 p0.Code c1,sv a2 p0.Data c2,iv p0.Limit,iv p0.Notes],pt b_p1 o_p1,sv a8 p2 c8,iv p3,pt Q5o Q5k] w0 (Y4 T0 w0 fun T w v => ∃ b6 b7 b8 a9 c9 b9 b10 a10 c10 a11 c11,v = .func (.func 24) #[] #[pt b6 0,pt b7 0,pt b8 0,pt b9 0,pt b10 0]∧Sep g T w (R ++ [U9 (H_p1) Z9 p1.volatile.regs [.int .u32 p1.volatile.pc,.int .u32 p1.volatile.seq,.int .u32 p1.volatile.index,sv a3 p1.code c3,.slice a4 n1 c4,.slice a5 n2 c5,sv a6 p1.inputs c6,.slice a7 n3 c7,iv p1.steps,iv p1.state,.int .u32 p1.exit],Z0 Q6 218 (.slice a4 n1 c4) p1.met,Z0 (Q2 .u8) 5 (.slice a5 n2 c5) p1.data,Z0 Z1 403 (.slice a7 n3 c7) p1.log,Q8k [iv p4],Y2 b6 [pt b_p1 o_p1],Y2 b7 [iv r.1],Y2 b8 [sv a9 r.2.1 c9],Y2 b9 [pt Q5o Q5k],Y2 b10 [sv a10 r.2.2.Code c10,sv a11 r.2.2.Data c11,iv r.2.2.Limit,iv r.2.2.Notes]])∧SlR (Q2 .i64) T w (sv a9 r.2.1 c9) r.2.1∧SlR (Q2 .u32) T w (sv a10 r.2.2.Code c10) r.2.2.Code∧SlR (Q2 .u8) T w (sv a11 r.2.2.Data c11) r.2.2.Data∧True):=by
  intro r hm
  refine enter Tryz.func12 rfl Tryz.ntmps12 rfl fun J => ?_
  unfold Q5u at hm
  refine sq2 (bX [sv a1 p0.Code c1,sv a2 p0.Data c2,iv p0.Limit,iv p0.Notes] hS ?_)
  intro w1 b1 im1 hS1
  refine bX [pt b_p1 o_p1] hS1 ?_
  intro w2 b2 im2 hS2
  refine bX [sv a8 p2 c8] hS2 ?_
  intro w3 b3 im3 hS3
  refine bX [iv p3] hS3 ?_
  intro w4 b4 im4 hS4
  refine bX [pt Q5o Q5k] hS4 ?_
  intro w5 b5 im5 hS5
  refine pv (r_zx (v := .nilFunc) rfl) (pn ?_)
  refine sq2 (pu ?_)
  exact pv (r_mkf (u := .func (.func 24) #[] #[pt b2 0,pt b4 0,pt b3 0,pt b5 0,pt b1 0]) rfl) (pv (r_zf rfl) (re hm (hS5.sel (Q9 5 6 ++ [3,1,2,0,4]) rfl)))

theorem C7 {p0:Q1} {X3 Y8:Nat} {X4:List Value→Z4} {a1 c1 a2 n1 c2 a3 n2 c3 a4 c4 a5 n3 c5} (hS:Sep g T0 w0 [Q3 R,U9 (X4) Z9 p0.volatile.regs [.int .u32 p0.volatile.pc,.int .u32 p0.volatile.seq,.int .u32 p0.volatile.index,sv a1 p0.code c1,.slice a2 n1 c2,.slice a3 n2 c3,sv a4 p0.inputs c4,.slice a5 n3 c5,iv p0.steps,iv p0.state,.int .u32 p0.exit],Z0 Q6 218 (.slice a2 n1 c2) p0.met,Z0 (Q2 .u8) 5 (.slice a3 n2 c3) p0.data,Z0 Z1 403 (.slice a5 n3 c5) p0.log]) (Z6:Ln X3 Y8 X4) (h1:SlR (Q2 .u32) T0 w0 (sv a1 p0.code c1) p0.code) (h2:SlR (Q2 .u32) T0 w0 (sv a4 p0.inputs c4) p0.inputs) : ∀ r,V6 p0=some r →
    Calls Tryz.prog 25 #[pt X3 Y8] w0 (Y4 T0 w0 fun T w v=>v=iv r∧Sep g T w (R ++ [U9 (X4) Z9 p0.volatile.regs [.int .u32 p0.volatile.pc,.int .u32 p0.volatile.seq,.int .u32 p0.volatile.index,sv a1 p0.code c1,.slice a2 n1 c2,.slice a3 n2 c3,sv a4 p0.inputs c4,.slice a5 n3 c5,iv p0.steps,iv p0.state,.int .u32 p0.exit],Z0 Q6 218 (.slice a2 n1 c2) p0.met,Z0 (Q2 .u8) 5 (.slice a3 n2 c3) p0.data,Z0 Z1 403 (.slice a5 n3 c5) p0.log])∧True):=by
  intro r hm
  refine enter Tryz.func25 rfl Tryz.ntmps25 rfl fun J => ?_
  unfold V6 at hm
  refine sq2 (pn ?_)
  refine sq2 (sq2 (pu ?_))
  refine pv (Z7o rfl rfl rfl underlying49) (pn ?_)
  refine cnd (b:=false) rfl (fun h=>nomatch h) (fun _ => ?_)
  refine pn ?_
  refine sq2 ?_
  obtain⟨z_1,hln1,hm⟩:=Q4 hm
  refine pu ?_
  exact pv (K3 rfl isAgg3 (hS.cellB (i:=1) ⟨rfl,rfl⟩ (K9 (k:=32) Z6 (Q8 hln1) Q5 rfl) (j:=9) rfl)) (re hm (hS.sel (Q9 0 5) rfl))

theorem U0 {p0:Q1} {X3 Y8:Nat} {X4:List Value→Z4} {a1 c1 a2 n1 c2 a3 n2 c3 a4 c4 a5 n3 c5} (hS:Sep g T0 w0 [Q3 R,U9 (X4) Z9 p0.volatile.regs [.int .u32 p0.volatile.pc,.int .u32 p0.volatile.seq,.int .u32 p0.volatile.index,sv a1 p0.code c1,.slice a2 n1 c2,.slice a3 n2 c3,sv a4 p0.inputs c4,.slice a5 n3 c5,iv p0.steps,iv p0.state,.int .u32 p0.exit],Z0 Q6 218 (.slice a2 n1 c2) p0.met,Z0 (Q2 .u8) 5 (.slice a3 n2 c3) p0.data,Z0 Z1 403 (.slice a5 n3 c5) p0.log]) (Z6:Ln X3 Y8 X4) (h1:SlR (Q2 .u32) T0 w0 (sv a1 p0.code c1) p0.code) (h2:SlR (Q2 .u32) T0 w0 (sv a4 p0.inputs c4) p0.inputs) : ∀ r,Y1 p0=some r →
    Calls Tryz.prog 13 #[pt X3 Y8] w0 (Y4 T0 w0 fun T w v=>v=iv r∧Sep g T w (R ++ [U9 (X4) Z9 p0.volatile.regs [.int .u32 p0.volatile.pc,.int .u32 p0.volatile.seq,.int .u32 p0.volatile.index,sv a1 p0.code c1,.slice a2 n1 c2,.slice a3 n2 c3,sv a4 p0.inputs c4,.slice a5 n3 c5,iv p0.steps,iv p0.state,.int .u32 p0.exit],Z0 Q6 218 (.slice a2 n1 c2) p0.met,Z0 (Q2 .u8) 5 (.slice a3 n2 c3) p0.data,Z0 Z1 403 (.slice a5 n3 c5) p0.log])∧True):=by
  intro r hm
  refine enter Tryz.func13 rfl Tryz.ntmps13 rfl fun J => ?_
  unfold Y1 at hm
  refine sq2 (pn ?_)
  refine sq2 (sq2 (pu ?_))
  refine pv (Z7o rfl rfl rfl underlying49) (pn ?_)
  refine cnd (b:=false) rfl (fun h=>nomatch h) (fun _ => ?_)
  refine pn ?_
  refine sq2 ?_
  obtain⟨z_1,hln1,hm⟩:=Q4 hm
  refine pu ?_
  exact pv (K3 rfl isAgg3 (hS.cellB (i:=1) ⟨rfl,rfl⟩ (K9 (k:=32) Z6 (Q8 hln1) Q5 rfl) (j:=8) rfl)) (re hm (hS.sel (Q9 0 5) rfl))

theorem Q2y {p0:Q1} {X3 Y8:Nat} {X4:List Value→Z4} {a1 c1 a2 n1 c2 a3 n2 c3 a4 c4 a5 n3 c5} (hS:Sep g T0 w0 [Q3 R,U9 (X4) Z9 p0.volatile.regs [.int .u32 p0.volatile.pc,.int .u32 p0.volatile.seq,.int .u32 p0.volatile.index,sv a1 p0.code c1,.slice a2 n1 c2,.slice a3 n2 c3,sv a4 p0.inputs c4,.slice a5 n3 c5,iv p0.steps,iv p0.state,.int .u32 p0.exit],Z0 Q6 218 (.slice a2 n1 c2) p0.met,Z0 (Q2 .u8) 5 (.slice a3 n2 c3) p0.data,Z0 Z1 403 (.slice a5 n3 c5) p0.log]) (Z6:Ln X3 Y8 X4) (h1:SlR (Q2 .u32) T0 w0 (sv a1 p0.code c1) p0.code) (h2:SlR (Q2 .u32) T0 w0 (sv a4 p0.inputs c4) p0.inputs) : ∀ r,G1 p0=some r →
    Calls Tryz.prog 26 #[pt X3 Y8] w0 (Y4 T0 w0 fun T w v => ∃ a6 c6 a7 c7,v = .tuple #[]∧Sep g T w (R ++ [U9 (X4) Z9 r.volatile.regs [.int .u32 r.volatile.pc,.int .u32 r.volatile.seq,.int .u32 r.volatile.index,sv a6 r.code c6,.slice a2 n1 c2,.slice a3 n2 c3,sv a7 r.inputs c7,.slice a5 n3 c5,iv r.steps,iv r.state,.int .u32 r.exit],Z0 Q6 218 (.slice a2 n1 c2) r.met,Z0 (Q2 .u8) 5 (.slice a3 n2 c3) r.data,Z0 Z1 403 (.slice a5 n3 c5) r.log])∧SlR (Q2 .u32) T w (sv a6 r.code c6) r.code∧SlR (Q2 .u32) T w (sv a7 r.inputs c7) r.inputs∧True):=by
  intro r hm
  refine enter Tryz.func26 rfl Tryz.ntmps26 rfl fun J => ?_
  unfold G1 at hm
  refine sq2 ?_
  obtain⟨z_1,hln1,hm⟩:=Q4 hm
  refine pu ?_
  refine pv (r_pnn rfl rfl rfl underlying49) (pu ?_)
  refine pv (K3 rfl isAgg3 (hS.cellB (i:=1) ⟨rfl,rfl⟩ (K9 (k:=32) Z6 (Q8 hln1) Q5 rfl) (j:=9) rfl)) (cd hm ?_ ?_) <;> intro hb1 hm
  · refine pu ?_
    refine pv (U3 (by kernel_rfl) rfl (u := .agg #[.int .u32 0,.int .u32 0,.int .u32 0,.int .u32 0,.int .u32 0,.int .u32 0,.int .u32 0,.int .u32 0,.int .u32 0,.int .u32 0,.int .u32 0,.int .u32 0,.int .u32 0,.int .u32 0,.int .u32 0,.int .u32 0,.int .u32 0,.int .u32 0,.int .u32 0,.int .u32 0,.int .u32 0,.int .u32 0,.int .u32 0,.int .u32 0,.int .u32 0,.int .u32 0,.int .u32 0,.int .u32 0,.int .u32 0,.int .u32 0,.int .u32 0,.int .u32 0,.int .u32 0,.int .u32 0,.int .u32 0])) (pu ?_)
    refine wl rfl (stSegW (q:=1) (l' := List.replicate 32 0) (n2 := [.int .u32 0,.int .u32 0,.int .u32 0]) hS ⟨rfl,rfl⟩ Z6 (Q8 hln1) Q5 rfl rfl rfl sizeOf82 rfl rfl (by kernel_rfl) rfl rfl fun w1 im1 hS1 => ?_)
    cases oI hm
    refine pn ?_
    exact end0 rfl ⟨_,rfl,_,im1,⟨_,_,_,_,rfl,(hS1.sel (Q9 0 5) rfl).unb,(h1.mono im1),(h2.mono im1),qZt⟩⟩
  cases oI hm
  refine pn ?_
  exact end0 rfl ⟨_,rfl,_,Im.refl,⟨_,_,_,_,rfl,(hS.sel (Q9 0 5) rfl).unb,h1,h2,qZt⟩⟩

theorem O0 {p0:Q1} {X3 Y8:Nat} {X4:List Value→Z4} {a1 c1 a2 n1 c2 a3 n2 c3 a4 c4 a5 n3 c5} (hS:Sep g T0 w0 [Q3 R,U9 (X4) Z9 p0.volatile.regs [.int .u32 p0.volatile.pc,.int .u32 p0.volatile.seq,.int .u32 p0.volatile.index,sv a1 p0.code c1,.slice a2 n1 c2,.slice a3 n2 c3,sv a4 p0.inputs c4,.slice a5 n3 c5,iv p0.steps,iv p0.state,.int .u32 p0.exit],Z0 Q6 218 (.slice a2 n1 c2) p0.met,Z0 (Q2 .u8) 5 (.slice a3 n2 c3) p0.data,Z0 Z1 403 (.slice a5 n3 c5) p0.log]) (Z6:Ln X3 Y8 X4) (h1:SlR (Q2 .u32) T0 w0 (sv a1 p0.code c1) p0.code) (h2:SlR (Q2 .u32) T0 w0 (sv a4 p0.inputs c4) p0.inputs) : ∀ r,G6 p0=some r →
    Calls Tryz.prog 46 #[pt X3 Y8] w0 (Y4 T0 w0 fun T w v=>v = .int .u32 r∧Sep g T w (R ++ [U9 (X4) Z9 p0.volatile.regs [.int .u32 p0.volatile.pc,.int .u32 p0.volatile.seq,.int .u32 p0.volatile.index,sv a1 p0.code c1,.slice a2 n1 c2,.slice a3 n2 c3,sv a4 p0.inputs c4,.slice a5 n3 c5,iv p0.steps,iv p0.state,.int .u32 p0.exit],Z0 Q6 218 (.slice a2 n1 c2) p0.met,Z0 (Q2 .u8) 5 (.slice a3 n2 c3) p0.data,Z0 Z1 403 (.slice a5 n3 c5) p0.log])∧True):=by
  intro r hm
  refine enter Tryz.func46 rfl Tryz.ntmps46 rfl fun J => ?_
  unfold G6 at hm
  refine sq2 (pn ?_)
  refine sq2 (sq2 (pu ?_))
  refine pv (Z7o rfl rfl rfl underlying49) (pn ?_)
  refine cnd (b:=false) rfl (fun h=>nomatch h) (fun _ => ?_)
  refine pn ?_
  refine sq2 ?_
  obtain⟨z_1,hln1,hm⟩:=Q4 hm
  refine pu ?_
  exact pv (K3 rfl isAgg59 (hS.cellB (i:=1) ⟨rfl,rfl⟩ (K9 (k:=32) Z6 (Q8 hln1) Q5 rfl) (j:=0) rfl)) (re hm (hS.sel (Q9 0 5) rfl))

theorem Z4e {p0} (hS:Sep g T0 w0 [Q3 R])  : ∀ r,Q2t p0=some r →
    Calls Tryz.prog 48 #[iv p0] w0 (Y4 T0 w0 fun T w v=>v = .int .u8 r∧Sep g T w (R ++ [])∧True):=by
  intro r hm
  refine enter Tryz.func48 rfl Tryz.ntmps48 rfl fun J => ?_
  unfold Q2t at hm
  refine sq2 (pn ?_)
  refine sq2 (pu ?_)
  refine cB cf91 hm (Q8z (hS.bun [0] [] rfl)) ?_
  rintro y1 _ T1 w1 im1 ⟨rfl,hS1,_⟩ hm
  exact pv (r_fd1 rfl underlying207 rfl isAgg5 rfl) (re hm (hS1.sel [0] rfl))

theorem Q3r {p0:Q1} {X3 Y8:Nat} {X4:List Value→Z4} {a1 c1 a2 n1 c2 a3 n2 c3 a4 c4 a5 n3 c5 p1} (hS:Sep g T0 w0 [Q3 R,U9 (X4) Z9 p0.volatile.regs [.int .u32 p0.volatile.pc,.int .u32 p0.volatile.seq,.int .u32 p0.volatile.index,sv a1 p0.code c1,.slice a2 n1 c2,.slice a3 n2 c3,sv a4 p0.inputs c4,.slice a5 n3 c5,iv p0.steps,iv p0.state,.int .u32 p0.exit],Z0 Q6 218 (.slice a2 n1 c2) p0.met,Z0 (Q2 .u8) 5 (.slice a3 n2 c3) p0.data,Z0 Z1 403 (.slice a5 n3 c5) p0.log]) (Z6:Ln X3 Y8 X4) (h1:SlR (Q2 .u32) T0 w0 (sv a1 p0.code c1) p0.code) (h2:SlR (Q2 .u32) T0 w0 (sv a4 p0.inputs c4) p0.inputs) : ∀ r,F6 p0 p1=some r →
    Calls Tryz.prog 49 #[pt X3 Y8,iv p1] w0 (Y4 T0 w0 fun T w v=>v = .int .u32 r∧Sep g T w (R ++ [U9 (X4) Z9 p0.volatile.regs [.int .u32 p0.volatile.pc,.int .u32 p0.volatile.seq,.int .u32 p0.volatile.index,sv a1 p0.code c1,.slice a2 n1 c2,.slice a3 n2 c3,sv a4 p0.inputs c4,.slice a5 n3 c5,iv p0.steps,iv p0.state,.int .u32 p0.exit],Z0 Q6 218 (.slice a2 n1 c2) p0.met,Z0 (Q2 .u8) 5 (.slice a3 n2 c3) p0.data,Z0 Z1 403 (.slice a5 n3 c5) p0.log])∧True):=by
  intro r hm
  refine enter Tryz.func49 rfl Tryz.ntmps49 rfl fun J => ?_
  unfold F6 at hm
  refine sq2 (pn ?_)
  refine sq2 (sq2 (pu ?_))
  refine pv (Z7o rfl rfl rfl underlying49) (pu ?_)
  refine fkN (d:=14) (c:=((decide (p1 < 0)) || (decide (32≤p1)))) 3 [(0,pt X3 Y8),(1,iv p1)] rfl (fun hk => ?_) fun J => ?_
  · rcases Bool.eq_false_or_eq_true (decide (p1 < 0)) with hb1 | hb1
    · exact  gF2 (d0:=11) rfl rfl (by rw [hb1]; rfl) (pv (V1 rfl hb1 rfl) (wlR (fun J=>hk J _ (by rw [hb1]; rfl)) ⟨rfl,rfl,rfl,qZt⟩))
    exact  gT (d0:=11) rfl rfl hb1 (pv (N2 rfl) (gT (d0:=11) rfl rfl hb1 (pv (J8 rfl rfl rfl) (pv (V2 rfl hb1 rfl) (wlR (fun J=>hk J _ (by rw [hb1]; rfl)) ⟨rfl,rfl,rfl,qZt⟩)))))
  refine cd hm ?_ ?_ <;> intro hb2 hm
  · exact sq2 (re hm (hS.sel (Q9 0 5) rfl))
  refine pn ?_
  refine sq2 ?_
  obtain⟨z_1,hln1,hm⟩:=Q4 hm
  obtain⟨u1,hx1,hm⟩:=Q4 hm
  obtain⟨of1,he1⟩ : ∃ z:Nat,z=(Y8+0)+(Int.toNat p1) * 1:=⟨_,rfl⟩
  refine pu ?_
  exact pv (Q1g rfl rfl (Q8 hln1) hx1 underlying80 sizeOf59 he1) (pv (K3 rfl isAgg59 ((Sep.segEl hS (q:=1) ⟨rfl,rfl⟩ Z6 Q5 hx1 he1).get (j:=0) rfl)) (re hm (hS.sel (Q9 0 5) rfl)))

theorem Q9l {p0:X8} {a1 c1 a2 c2} {p1:Q1} {b_p1 o_p1:Nat} {H_p1:List Value→Z4} {a3 c3 a4 n1 c4 a5 n2 c5 a6 c6 a7 n3 c7} (hS:Sep g T0 w0 [Q3 R,U9 (H_p1) Z9 p1.volatile.regs [.int .u32 p1.volatile.pc,.int .u32 p1.volatile.seq,.int .u32 p1.volatile.index,sv a3 p1.code c3,.slice a4 n1 c4,.slice a5 n2 c5,sv a6 p1.inputs c6,.slice a7 n3 c7,iv p1.steps,iv p1.state,.int .u32 p1.exit],Z0 Q6 218 (.slice a4 n1 c4) p1.met,Z0 (Q2 .u8) 5 (.slice a5 n2 c5) p1.data,Z0 Z1 403 (.slice a7 n3 c7) p1.log]) (h1:SlR (Q2 .u32) T0 w0 (sv a1 p0.Code c1) p0.Code) (h2:SlR (Q2 .u8) T0 w0 (sv a2 p0.Data c2) p0.Data) (hL_p1:Ln b_p1 o_p1 H_p1) (h3:SlR (Q2 .u32) T0 w0 (sv a3 p1.code c3) p1.code) (h4:SlR (Q2 .u32) T0 w0 (sv a6 p1.inputs c6) p1.inputs) : ∀ r,H5 p0 p1=some r →
    Calls Tryz.prog 27 #[.agg #[sv a1 p0.Code c1,sv a2 p0.Data c2,iv p0.Limit,iv p0.Notes],pt b_p1 o_p1] w0 (Y4 T0 w0 fun T w v=>v = .tuple #[iv r.1,.bool r.2]∧Sep g T w (R ++ [U9 (H_p1) Z9 p1.volatile.regs [.int .u32 p1.volatile.pc,.int .u32 p1.volatile.seq,.int .u32 p1.volatile.index,sv a3 p1.code c3,.slice a4 n1 c4,.slice a5 n2 c5,sv a6 p1.inputs c6,.slice a7 n3 c7,iv p1.steps,iv p1.state,.int .u32 p1.exit],Z0 Q6 218 (.slice a4 n1 c4) p1.met,Z0 (Q2 .u8) 5 (.slice a5 n2 c5) p1.data,Z0 Z1 403 (.slice a7 n3 c7) p1.log])∧True):=by
  intro r hm
  refine enter Tryz.func27 rfl Tryz.ntmps27 rfl fun J => ?_
  unfold H5 at hm
  refine sq2 (bX [sv a1 p0.Code c1,sv a2 p0.Data c2,iv p0.Limit,iv p0.Notes] hS ?_)
  intro w1 b1 im1 hS1
  refine pn ?_
  refine sq2 (pu ?_)
  refine cB cf46 hm (O0 (hS1.bun [0,1] (Q9 2 4) rfl) hL_p1 (h3.mono im1) (h4.mono im1)) ?_
  rintro y1 _ T1 w2 im2 ⟨rfl,hS2,_⟩ hm
  refine pn ?_
  refine sq2 (sq2 (pu ?_))
  refine cB cf46 hm (O0 (hS2.bun [0,1] (Q9 2 4) rfl) hL_p1 (h3.mono ch) (h4.mono ch)) ?_
  rintro y2 _ T2 w3 im3 ⟨rfl,hS3,_⟩ hm
  refine pu ?_
  refine fkN (d:=25) (c:=(((Int.tmod (IntKind.wrap .i64 y2) 4) != 0) || (decide ((List.length p0.Code:Int)≤(IntKind.wrap .i64 (Int.tdiv (IntKind.wrap .i64 y1) 4)))))) 6 [(1,pt b_p1 o_p1),(2,pt b1 0),(6,iv (IntKind.wrap .i64 (Int.tdiv (IntKind.wrap .i64 y1) 4)))] rfl (fun hk => ?_) fun J => ?_
  · rcases Bool.eq_false_or_eq_true ((Int.tmod (IntKind.wrap .i64 y2) 4) != 0) with hb1 | hb1
    · exact  gF5 (d0:=19) rfl rfl (by rw [hb1]; rfl) (pv (V1 rfl hb1 rfl) (wlR (fun J=>hk J _ (by rw [hb1]; rfl)) ⟨rfl,rfl,rfl,rfl,qZt⟩))
    exact  gT (d0:=19) rfl rfl hb1 (pv (N2 rfl) (gT (d0:=19) rfl rfl hb1 (pv (I8 rfl underlying25 rfl sizeOf22 rfl) (gT (d0:=19) rfl rfl hb1 (pv (K3 rfl isAgg22 (hS3.cell0 (i:=0) ⟨rfl,rfl⟩ (j:=0) rfl)) (gT (d0:=19) rfl rfl hb1 (pv (Q7x rfl underlying22) (gT (d0:=19) rfl rfl hb1 (pv (J8 rfl rfl rfl) (pv (V2 rfl hb1 rfl) (wlR (fun J=>hk J _ (by rw [hb1]; rfl)) ⟨rfl,rfl,rfl,rfl,qZt⟩)))))))))))
  refine cd hm ?_ ?_ <;> intro hb2 hm
  · exact sq2 (re hm (hS3.sel (Q9 1 5) rfl))
  refine pn ?_
  refine sq2 ?_
  obtain⟨u1,hx3,hm⟩:=Q4 hm
  refine pu ?_
  refine cB cf47 hm (A1 (hS3.bun (Q9 0 6) [] rfl)) ?_
  rintro y3 _ T3 w4 im4 ⟨rfl,hS4,_⟩ hm
  refine aL [iv 0,iv 0,iv 0,iv 0,iv 0] hS4 ?_
  intro w5 b2 im5 hS5
  refine sT 0 hS5 ?_
  intro w6 im6 hS6
  refine pn ?_
  refine sq2 (sq2 (pu ?_))
  rcases bc hm with ⟨hb3,hm⟩ | ⟨hb3,hm⟩
  · refine pn ?_
    refine cnd (b:=true) rfl (fun _ => ?_) (fun h=>nomatch h)
    exact sq2 (re hm (hS6.sel (Q9 2 5) rfl))
  refine pu ?_
  refine cB cf48 hm (Z4e (hS6.bun (Q9 0 7) [] rfl)) ?_
  rintro y4 _ T4 w7 im7 ⟨rfl,hS7,_⟩ hm
  refine cd hm ?_ ?_ <;> intro hb4 hm
  · exact sq2 (re hm (hS7.sel (Q9 2 5) rfl))
  refine pn ?_
  refine sq2 (rsS [0,0,1,2,0,1,0,0,0,0,0] [0,1,2,4,5,6,3,7,8,9,10] hS7 fun w8 im8 hS8 => ?_)
  obtain⟨y5,hx6,hm⟩:=Q4 hm
  refine sS [(5,iv y3.1.Imm)] cf49 (Q3r (hS8.bun [1,2,0] (Q9 3 4) rfl) hL_p1 (h3.mono ch) (h4.mono ch) _ hx6) ?_
  rintro _ T5 w9 im9 ⟨rfl,hS9,_⟩
  refine pu ?_
  refine se (Z3 [(2,pt b1 0),(9,iv (IntKind.wrap .i64 ((IntKind.wrap .i64 (IntKind.wrap .u32 (y5+(IntKind.wrap .u32 y3.1.Imm)))) - 268435456)))] ⟨rfl,rfl,qZt⟩ fun J => ?_)
  refine sq2 (rqS hS9 (pu ?_))
  rcases bc hm with ⟨hb5,hm⟩ | ⟨hb5,hm⟩
  · refine pn ?_
    intro w10 T6 im10 hS10
    exact re hm (hS10.sel [1,3,4,5,6] rfl)
  refine pn ?_
  intro w11 T7 im11 hS11
  exact re hm (hS11.sel [1,3,4,5,6] rfl)

theorem Q2d {p0:Q1} {X3 Y8:Nat} {X4:List Value→Z4} {a1 c1 a2 n1 c2 a3 n2 c3 a4 c4 a5 n3 c5} (hS:Sep g T0 w0 [Q3 R,U9 (X4) Z9 p0.volatile.regs [.int .u32 p0.volatile.pc,.int .u32 p0.volatile.seq,.int .u32 p0.volatile.index,sv a1 p0.code c1,.slice a2 n1 c2,.slice a3 n2 c3,sv a4 p0.inputs c4,.slice a5 n3 c5,iv p0.steps,iv p0.state,.int .u32 p0.exit],Z0 Q6 218 (.slice a2 n1 c2) p0.met,Z0 (Q2 .u8) 5 (.slice a3 n2 c3) p0.data,Z0 Z1 403 (.slice a5 n3 c5) p0.log]) (Z6:Ln X3 Y8 X4) (h1:SlR (Q2 .u32) T0 w0 (sv a1 p0.code c1) p0.code) (h2:SlR (Q2 .u32) T0 w0 (sv a4 p0.inputs c4) p0.inputs) : ∀ r,U7 p0=some r →
    Calls Tryz.prog 50 #[pt X3 Y8] w0 (Y4 T0 w0 fun T w v => ∃ a6 c6 a7 c7,v = .tuple #[.agg (P1 r.1).toArray,.bool r.2.1]∧Sep g T w (R ++ [U9 (X4) Z9 r.2.2.volatile.regs [.int .u32 r.2.2.volatile.pc,.int .u32 r.2.2.volatile.seq,.int .u32 r.2.2.volatile.index,sv a6 r.2.2.code c6,.slice a2 n1 c2,.slice a3 n2 c3,sv a7 r.2.2.inputs c7,.slice a5 n3 c5,iv r.2.2.steps,iv r.2.2.state,.int .u32 r.2.2.exit],Z0 Q6 218 (.slice a2 n1 c2) r.2.2.met,Z0 (Q2 .u8) 5 (.slice a3 n2 c3) r.2.2.data,Z0 Z1 403 (.slice a5 n3 c5) r.2.2.log])∧SlR (Q2 .u32) T w (sv a6 r.2.2.code c6) r.2.2.code∧SlR (Q2 .u32) T w (sv a7 r.2.2.inputs c7) r.2.2.inputs∧True):=by
  intro r hm
  refine enter Tryz.func50 rfl Tryz.ntmps50 rfl fun J => ?_
  unfold U7 at hm
  refine sq2 (aL [iv 0,iv 0,iv 0,iv 0,iv 0] hS ?_)
  intro w1 b1 im1 hS1
  refine pn ?_
  refine sq2 (sq2 ?_)
  obtain⟨z_1,hln1,hm⟩:=Q4 hm
  refine rqS hS1 (pu ?_)
  refine qv (fun _ hq=>K3 rfl isAgg59 (hq.cell (hS1.cellB (i:=2) ⟨rfl,rfl⟩ (K9 (k:=32) Z6 (Q8 hln1) Q5 rfl) (j:=0) rfl))) (pu ?_)
  rcases bc hm with ⟨hb1,hm⟩ | ⟨hb1,hm⟩
  · refine pn ?_
    intro w13 T5 im13 hS13
    refine pn ?_
    refine cnd (b:=true) rfl (fun _ => ?_) (fun h=>nomatch h)
    refine sq2 (pu ?_)
    refine pv (U3 (by kernel_rfl) rfl (u := .agg #[iv 0,iv 0,iv 0,iv 0,iv 0])) (sT 0 hS13 ?_)
    intro w14 im14 hS14
    refine pu ?_
    refine nil (Z3 [(2,pt b1 0),(3,.bool false)] ⟨rfl,rfl,qZt⟩ fun J => ?_)
    exact re hm (hS14.sel (Q9 1 5) rfl)
  refine pu ?_
  refine qv (fun _ hq=>K3 rfl isAgg59 (hq.cell (hS1.cellB (i:=2) ⟨rfl,rfl⟩ (K9 (k:=32) Z6 (Q8 hln1) Q5 rfl) (j:=0) rfl))) (pu ?_)
  refine qv (fun _ hq=>K3 rfl isAgg22 (hq.cell (hS1.cellB (i:=2) ⟨rfl,rfl⟩ (K9 (k:=32) Z6 (Q8 hln1) Q5 rfl) (j:=3) rfl))) (pn ?_)
  intro w2 T1 im2 hS2
  refine cd hm ?_ ?_ <;> intro hb2 hm
  · refine sq2 (pu ?_)
    refine pv (U3 (by kernel_rfl) rfl (u := .agg #[iv 0,iv 0,iv 0,iv 0,iv 0])) (sT 0 hS2 ?_)
    intro w3 im3 hS3
    refine pu ?_
    refine nil (Z3 [(2,pt b1 0),(3,.bool false)] ⟨rfl,rfl,qZt⟩ fun J => ?_)
    exact re hm (hS3.sel (Q9 1 5) rfl)
  refine pn ?_
  refine sq2 ?_
  obtain⟨u1,hx1,hm⟩:=Q4 hm
  refine rqS hS2 (pu ?_)
  refine qv (fun _ hq=>K3 rfl isAgg83 (hq.cell (hS2.cellB (i:=2) ⟨rfl,rfl⟩ (K9 (k:=32) Z6 (Q8 hln1) Q5 rfl) (j:=4) rfl))) (pu ?_)
  refine qv (fun _ hq=>K3 rfl isAgg59 (hq.cell (hS2.cellB (i:=2) ⟨rfl,rfl⟩ (K9 (k:=32) Z6 (Q8 hln1) Q5 rfl) (j:=0) rfl))) (pn ?_)
  intro w4 T2 im4 hS4
  refine Z3 [(0,pt X3 Y8),(2,pt b1 0),(4,.pointer (some ⟨(eBk (.slice a2 n1 c2)),(eOf (.slice a2 n1 c2) (IntKind.wrap .u32 (Int.tdiv p0.volatile.pc 4)) 7),none⟩))] ⟨rfl,rfl,rfl,qZt⟩ fun J => ?_
  refine F0 hm (fun kk1 a w5 => ∃(T3:_) (x1:List Y7),JR (nf 76) g T2 w4 a w5 T3 (kk1 x1=some r) [(2,pt b1 0),(4,.pointer (some ⟨(eBk (.slice a2 n1 c2)),(eOf (.slice a2 n1 c2) (IntKind.wrap .u32 (Int.tdiv p0.volatile.pc 4)) 7),none⟩))] [Q3 R,U9 (X4) Z9 p0.volatile.regs [.int .u32 p0.volatile.pc,.int .u32 p0.volatile.seq,.int .u32 p0.volatile.index,sv a1 p0.code c1,.slice a2 n1 c2,.slice a3 n2 c3,sv a4 p0.inputs c4,.slice a5 n3 c5,iv p0.steps,iv p0.state,.int .u32 p0.exit],Z0 Q6 218 (.slice a2 n1 c2) x1,Z0 (Q2 .u8) 5 (.slice a3 n2 c3) p0.data,Z0 Z1 403 (.slice a5 n3 c5) p0.log,Y2 b1 [iv 0,iv 0,iv 0,iv 0,iv 0]]) (fun kk1 hm => ?_) ?_
  · refine sq2 (cd hm ?_ ?_) <;> intro hb3 hm
    · refine sq2 (rtS [0,0,0,1,0,0,0,0,1,0,0,1,2,0,0,0,2,2,0] [0,1,2,3,4,5,6,7,8,9,10,11,12,13,14,15,16,17,18] hS4 fun w6 im6 hS5 => ?_)
      obtain⟨u2,hx2,hm⟩:=Q4 hm
      obtain⟨y1,hx3,hm⟩:=Q4 hm
      refine pu ?_
      refine t1 rfl qZt (K3 rfl isAgg22 (hS5.cellB (i:=2) ⟨rfl,rfl⟩ (K9 (k:=32) Z6 (Q8 hln1) Q5 rfl) (j:=3) rfl)) rfl (pu ?_)
      refine t1 rfl qZt (K3 rfl isAgg59 (hS5.cellB (i:=2) ⟨rfl,rfl⟩ (K9 (k:=32) Z6 (Q8 hln1) Q5 rfl) (j:=0) rfl)) rfl (pu ?_)
      refine tF [12,16] ?_
      refine⟨?_,?_,qZt⟩
      · refine brW [13,14,15,16,17,18] [0,0,0] ?_
        refine oS cf47 (A1 (hS5.bun (Q9 0 6) [] rfl) _ hx3) ?_
        rintro _ T4 w7 im7 ⟨rfl,hS6,_⟩
        refine t1W [16] [17,18] [] ?_
        refine oaL [iv 0,iv 0,iv 0,iv 0,iv 0] hS6 ?_
        intro w8 b2 im8 hS7
        refine t1W [17] [18] [] ?_
        refine osT 0 hS7 ?_
        intro w9 im9 hS8
        refine pn ?_
        obtain⟨u3,hx4,hm⟩:=Q4 hm
        obtain rfl:u1=u3:=oI (hx1.symm.trans hx4)
        refine pu ?_
        refine pv (U3 (by kernel_rfl) rfl (u := .agg #[.bool true,.bool (y1.2 == 0),iv y1.1.Op,iv y1.1.Rd,iv y1.1.Rs1,iv y1.1.Rs2,iv y1.1.Imm])) (pu ?_)
        refine wl rfl (stOc (q:=4) (j:=0) (u' := (⟨true,y1.2 == 0,y1.1⟩:Y7)) hS8 ⟨rfl,rfl⟩ hx4 rfl rfl rfl sizeOf218 rfl rfl rfl (fun c0 hc0=>by rw [B8 (r:=Q6) hc0 rfl]; exact(P8 (x:=(⟨true,y1.2 == 0,y1.1⟩:Y7))  : Q6.rp _ _ _ _)) fun w10 im10 hS9 => ?_)
        exact je hm (hS9.sel (Q9 2 5 ++ [1]) rfl)
      refine brW [12,13,14,15,17,18] [] ?_
      refine oaL [iv 0,iv 0,iv 0,iv 0,iv 0] hS5 ?_
      intro w7 b2 im7 hS6
      refine⟨st1 rfl opv (st1 rfl (K3 rfl isAgg59 (hS6.cellB (i:=3) ⟨rfl,rfl⟩ (K9 (k:=32) Z6 (Q8 hln1) Q5 rfl) (j:=0) rfl)) (st1 rfl (K3 rfl isAgg22 (hS6.cellB (i:=3) ⟨rfl,rfl⟩ (K9 (k:=32) Z6 (Q8 hln1) Q5 rfl) (j:=3) rfl)) (st0))),?_⟩
      refine t1W [12] [13,14,15,17,18] [0,0,0] ?_
      refine oS cf47 (A1 (hS6.bun (Q9 0 7) [] rfl) _ hx3) ?_
      rintro _ T4 w8 im8 ⟨rfl,hS7,_⟩
      refine t1W [17] [18] [] ?_
      refine osT 0 hS7 ?_
      intro w9 im9 hS8
      refine pn ?_
      obtain⟨u3,hx4,hm⟩:=Q4 hm
      obtain rfl:u1=u3:=oI (hx1.symm.trans hx4)
      refine pu ?_
      refine pv (U3 (by kernel_rfl) rfl (u := .agg #[.bool true,.bool (y1.2 == 0),iv y1.1.Op,iv y1.1.Rd,iv y1.1.Rs1,iv y1.1.Rs2,iv y1.1.Imm])) (pu ?_)
      refine wl rfl (stOc (q:=4) (j:=0) (u' := (⟨true,y1.2 == 0,y1.1⟩:Y7)) hS8 ⟨rfl,rfl⟩ hx4 rfl rfl rfl sizeOf218 rfl rfl rfl (fun c0 hc0=>by rw [B8 (r:=Q6) hc0 rfl]; exact(P8 (x:=(⟨true,y1.2 == 0,y1.1⟩:Y7))  : Q6.rp _ _ _ _)) fun w10 im10 hS9 => ?_)
      exact je hm (hS9.sel (Q9 2 5 ++ [1]) rfl)
    exact je hm (hS4.sel (Q9 1 5 ++ [0]) rfl)
  rintro _ w5 ⟨T3,x1,J,hm,rfl,hS10,im5⟩
  refine sq2 (rsS [0,0,0,1,0,0,0,1,2,0] [0,1,2,3,4,5,6,7,8,9] hS10 fun w11 im11 hS11 => ?_)
  obtain⟨u4,hx5,hm⟩:=Q4 hm
  obtain⟨u5,hx6,hm⟩:=Q4 hm
  obtain rfl:u4=u5:=oI (hx5.symm.trans hx6)
  refine pu ?_
  refine s1 rfl qZt (r_ldS rfl isAgg124 sizeOf124 rfl ((elS Q7t hx5 (by exact rfl) opnS).sub 2 rfl) (cs:=(P1 u4.inst))) rfl (pu ?_)
  refine s2W [1,0] ?_
  refine osT 5 hS11 ?_
  intro w12 im12 hS12
  exact re hm (hS12.sel (Q9 0 5) rfl)

theorem Q6n {p0} (hS:Sep g T0 w0 [Q3 R])  : ∀ r,Q0w p0=some r →
    Calls Tryz.prog 300 #[.bool p0] w0 (Y4 T0 w0 fun T w v=>v = .int .u32 r∧Sep g T w (R ++ [])∧True):=by
  intro r hm
  refine enter Tryz.func300 rfl Tryz.ntmps300 rfl fun J => ?_
  unfold Q0w at hm
  refine sq2 (pn ?_)
  refine sq2 (sq2 (cd hm ?_ ?_)) <;> intro hb1 hm
  · exact sq2 (re hm (hS.sel [0] rfl))
  refine pn ?_
  exact sq2 (re hm (hS.sel [0] rfl))

theorem Q1y {p0 p1} (hS:Sep g T0 w0 [Q3 R])  : ∀ r,A9 p0 p1=some r →
    Calls Tryz.prog 166 #[.int .u32 p0,.int .u32 p1] w0 (Y4 T0 w0 fun T w v=>v = .int .u32 r∧Sep g T w (R ++ [])∧True):=by
  intro r hm
  refine enter Tryz.func166 rfl Tryz.ntmps166 rfl fun J => ?_
  unfold A9 at hm
  refine sq2 (pn ?_)
  refine sq2 (pu ?_)
  refine cB cf300 hm (Q6n (hS.bun [0] [] rfl)) ?_
  rintro y1 _ T1 w1 im1 ⟨rfl,hS1,_⟩ hm
  exact re hm (hS1.sel [0] rfl)

theorem Q0y {p0 p1} (hS:Sep g T0 w0 [Q3 R])  : ∀ r,B7 p0 p1=some r →
    Calls Tryz.prog 167 #[.int .u32 p0,.int .u32 p1] w0 (Y4 T0 w0 fun T w v=>v = .int .u32 r∧Sep g T w (R ++ [])∧True):=by
  intro r hm
  refine enter Tryz.func167 rfl Tryz.ntmps167 rfl fun J => ?_
  unfold B7 at hm
  refine sq2 (pn ?_)
  refine sq2 (pu ?_)
  refine cB cf300 hm (Q6n (hS.bun [0] [] rfl)) ?_
  rintro y1 _ T1 w1 im1 ⟨rfl,hS1,_⟩ hm
  exact re hm (hS1.sel [0] rfl)

theorem Q5n {p0 p1 p2} (hS:Sep g T0 w0 [Q3 R])  : ∀ r,P5 p0 p1 p2=some r →
    Calls Tryz.prog 92 #[iv p0,.int .u32 p1,.int .u32 p2] w0 (Y4 T0 w0 fun T w v=>v = .bool r∧Sep g T w (R ++ [])∧True):=by
  intro r hm
  refine enter Tryz.func92 rfl Tryz.ntmps92 rfl fun J => ?_
  unfold P5 at hm
  refine sq2 (pn ?_)
  refine sq2 (sq2 (pn ?_))
  refine blk (sq2 (cd hm ?_ ?_)) <;> intro hb1 hm
  · exact sq2 (re hm (hS.sel [0] rfl))
  refine sq2 (cd hm ?_ ?_) <;> intro hb2 hm
  · exact sq2 (re hm (hS.sel [0] rfl))
  refine sq2 (cd hm ?_ ?_) <;> intro hb3 hm
  · refine sq2 (pu ?_)
    refine cB cf166 hm (Q1y (hS.bun [0] [] rfl)) ?_
    rintro y1 _ T1 w1 im1 ⟨rfl,hS1,_⟩ hm
    exact re hm (hS1.sel [0] rfl)
  refine sq2 (cd hm ?_ ?_) <;> intro hb4 hm
  · refine sq2 (pu ?_)
    refine cB cf166 hm (Q1y (hS.bun [0] [] rfl)) ?_
    rintro y2 _ T2 w2 im2 ⟨rfl,hS2,_⟩ hm
    exact re hm (hS2.sel [0] rfl)
  refine sq2 (cd hm ?_ ?_) <;> intro hb5 hm
  · refine sq2 (pu ?_)
    refine cB cf167 hm (Q0y (hS.bun [0] [] rfl)) ?_
    rintro y3 _ T3 w3 im3 ⟨rfl,hS3,_⟩ hm
    exact re hm (hS3.sel [0] rfl)
  refine pn ?_
  refine sq2 (pu ?_)
  refine cB cf167 hm (Q0y (hS.bun [0] [] rfl)) ?_
  rintro y4 _ T4 w4 im4 ⟨rfl,hS4,_⟩ hm
  exact re hm (hS4.sel [0] rfl)

theorem Q0k {p0} (hS:Sep g T0 w0 [Q3 R])  : ∀ r,M4 p0=some r →
    Calls Tryz.prog 168 #[iv p0] w0 (Y4 T0 w0 fun T w v=>v=iv r∧Sep g T w (R ++ [])∧True):=by
  intro r hm
  refine enter Tryz.func168 rfl Tryz.ntmps168 rfl fun J => ?_
  unfold M4 at hm
  refine sq2 (pn ?_)
  refine sq2 (sq2 (pn ?_))
  refine blk (F0 hm (fun kk1 a w1 => ∃ T1 x1,JR (nf 12) g T0 w0 a w1 T1 (kk1 x1=some r) [(3,iv p0),(4,.bool x1)] [Q3 R]) (fun kk1 hm => ?_) ?_)
  · refine sq2 (cd hm ?_ ?_) <;> intro hb1 hm
    · exact je hm (hS.sel [0] rfl)
    refine sq2 (cd hm ?_ ?_) <;> intro hb2 hm
    · exact je hm (hS.sel [0] rfl)
    exact je hm (hS.sel [0] rfl)
  rintro _ w1 ⟨T1,x1,J,hm,rfl,hS1,im1⟩
  refine cd hm ?_ ?_ <;> intro hb3 hm
  · exact sq2 (re hm (hS1.sel [0] rfl))
  refine F0 hm (fun kk2 a w2 => ∃ T2 x2,JR (nf 12) g T1 w1 a w2 T2 (kk2 x2=some r) [(8,.bool x2)] [Q3 R]) (fun kk2 hm => ?_) ?_
  · refine sq2 (cd hm ?_ ?_) <;> intro hb4 hm
    · exact je hm (hS1.sel [0] rfl)
    refine sq2 (cd hm ?_ ?_) <;> intro hb5 hm
    · exact je hm (hS1.sel [0] rfl)
    exact je hm (hS1.sel [0] rfl)
  rintro _ w2 ⟨T2,x2,J,hm,rfl,hS2,im2⟩
  refine cd hm ?_ ?_ <;> intro hb6 hm
  · exact sq2 (re hm (hS2.sel [0] rfl))
  refine pn ?_
  exact sq2 (re hm (hS2.sel [0] rfl))

theorem E9 {p0:Q1} {X3 Y8:Nat} {X4:List Value→Z4} {a1 c1 a2 n1 c2 a3 n2 c3 a4 c4 a5 n3 c5 p1 p2} (hS:Sep g T0 w0 [Q3 R,U9 (X4) Z9 p0.volatile.regs [.int .u32 p0.volatile.pc,.int .u32 p0.volatile.seq,.int .u32 p0.volatile.index,sv a1 p0.code c1,.slice a2 n1 c2,.slice a3 n2 c3,sv a4 p0.inputs c4,.slice a5 n3 c5,iv p0.steps,iv p0.state,.int .u32 p0.exit],Z0 Q6 218 (.slice a2 n1 c2) p0.met,Z0 (Q2 .u8) 5 (.slice a3 n2 c3) p0.data,Z0 Z1 403 (.slice a5 n3 c5) p0.log]) (Z6:Ln X3 Y8 X4) (h1:SlR (Q2 .u32) T0 w0 (sv a1 p0.code c1) p0.code) (h2:SlR (Q2 .u32) T0 w0 (sv a4 p0.inputs c4) p0.inputs) : ∀ r,V5 p0 p1 p2=some r →
    Calls Tryz.prog 169 #[pt X3 Y8,.int .u32 p1,iv p2] w0 (Y4 T0 w0 fun T w v=>v = .tuple #[iv r.1,.bool r.2]∧Sep g T w (R ++ [U9 (X4) Z9 p0.volatile.regs [.int .u32 p0.volatile.pc,.int .u32 p0.volatile.seq,.int .u32 p0.volatile.index,sv a1 p0.code c1,.slice a2 n1 c2,.slice a3 n2 c3,sv a4 p0.inputs c4,.slice a5 n3 c5,iv p0.steps,iv p0.state,.int .u32 p0.exit],Z0 Q6 218 (.slice a2 n1 c2) p0.met,Z0 (Q2 .u8) 5 (.slice a3 n2 c3) p0.data,Z0 Z1 403 (.slice a5 n3 c5) p0.log])∧True):=by
  intro r hm
  refine enter Tryz.func169 rfl Tryz.ntmps169 rfl fun J => ?_
  unfold V5 at hm
  refine sq2 (pn ?_)
  refine sq2 (sq2 (pu ?_))
  rcases bc hm with ⟨hb1,hm⟩ | ⟨hb1,hm⟩
  · refine pu ?_
    refine nil (Z3 [(1,.int .u32 p1),(29,.bool true)] ⟨rfl,rfl,qZt⟩ fun J => ?_)
    refine cnd (b:=true) rfl (fun _ => ?_) (fun h=>nomatch h)
    exact sq2 (re hm (hS.sel (Q9 0 5) rfl))
  obtain⟨_,hz1,hm⟩:=Q4 hm
  have hz1:=D3 hz1
  refine pu ?_
  refine pv (Q3u rfl rfl hz1) (pu ?_)
  rcases bc hm with ⟨hb2,hm⟩ | ⟨hb2,hm⟩
  · refine pu ?_
    refine nil (Z3 [(1,.int .u32 p1),(29,.bool true)] ⟨rfl,rfl,qZt⟩ fun J => ?_)
    refine cnd (b:=true) rfl (fun _ => ?_) (fun h=>nomatch h)
    exact sq2 (re hm (hS.sel (Q9 0 5) rfl))
  obtain⟨z_1,hln1,hm⟩:=Q4 hm
  refine pu ?_
  refine pv (K3 rfl isAgg23 (hS.cellB (i:=1) ⟨rfl,rfl⟩ (K9 (k:=32) Z6 (Q8 hln1) Q5 rfl) (j:=5) rfl)) (pu ?_)
  refine nil (Z3 [(1,.int .u32 p1),(29,.bool (decide ((IntKind.wrap .u32 (IntKind.wrap .i64 ((List.length p0.data:Int) - p2))) < (IntKind.wrap .u32 (p1 - 268435456)))))] ⟨rfl,rfl,qZt⟩ fun J => ?_)
  refine cd hm ?_ ?_ <;> intro hb3 hm
  · exact sq2 (re hm (hS.sel (Q9 0 5) rfl))
  refine pn ?_
  exact sq2 (re hm (hS.sel (Q9 0 5) rfl))

theorem Q2w {p0:Q1} {X3 Y8:Nat} {X4:List Value→Z4} {a1 c1 a2 n1 c2 a3 n2 c3 a4 c4 a5 n3 c5 p1 p2} (hS:Sep g T0 w0 [Q3 R,U9 (X4) Z9 p0.volatile.regs [.int .u32 p0.volatile.pc,.int .u32 p0.volatile.seq,.int .u32 p0.volatile.index,sv a1 p0.code c1,.slice a2 n1 c2,.slice a3 n2 c3,sv a4 p0.inputs c4,.slice a5 n3 c5,iv p0.steps,iv p0.state,.int .u32 p0.exit],Z0 Q6 218 (.slice a2 n1 c2) p0.met,Z0 (Q2 .u8) 5 (.slice a3 n2 c3) p0.data,Z0 Z1 403 (.slice a5 n3 c5) p0.log]) (Z6:Ln X3 Y8 X4) (h1:SlR (Q2 .u32) T0 w0 (sv a1 p0.code c1) p0.code) (h2:SlR (Q2 .u32) T0 w0 (sv a4 p0.inputs c4) p0.inputs) : ∀ r,U1 p0 p1 p2=some r →
    Calls Tryz.prog 93 #[pt X3 Y8,iv p1,.int .u32 p2] w0 (Y4 T0 w0 fun T w v=>v = .tuple #[.int .u32 r.1,.bool r.2]∧Sep g T w (R ++ [U9 (X4) Z9 p0.volatile.regs [.int .u32 p0.volatile.pc,.int .u32 p0.volatile.seq,.int .u32 p0.volatile.index,sv a1 p0.code c1,.slice a2 n1 c2,.slice a3 n2 c3,sv a4 p0.inputs c4,.slice a5 n3 c5,iv p0.steps,iv p0.state,.int .u32 p0.exit],Z0 Q6 218 (.slice a2 n1 c2) p0.met,Z0 (Q2 .u8) 5 (.slice a3 n2 c3) p0.data,Z0 Z1 403 (.slice a5 n3 c5) p0.log])∧True):=by
  intro r hm
  refine enter Tryz.func93 rfl Tryz.ntmps93 rfl fun J => ?_
  unfold U1 at hm
  refine sq2 (pn ?_)
  refine sq2 (F0 hm (fun kk1 a w1 => ∃ T1 x1,JR (nf 84) g T0 w0 a w1 T1 (kk1 x1=some r) [(0,pt X3 Y8),(1,iv p1),(2,.int .u32 p2),(18,.bool x1)] [Q3 R,U9 (X4) Z9 p0.volatile.regs [.int .u32 p0.volatile.pc,.int .u32 p0.volatile.seq,.int .u32 p0.volatile.index,sv a1 p0.code c1,.slice a2 n1 c2,.slice a3 n2 c3,sv a4 p0.inputs c4,.slice a5 n3 c5,iv p0.steps,iv p0.state,.int .u32 p0.exit],Z0 Q6 218 (.slice a2 n1 c2) p0.met,Z0 (Q2 .u8) 5 (.slice a3 n2 c3) p0.data,Z0 Z1 403 (.slice a5 n3 c5) p0.log]) (fun kk1 hm => ?_) ?_)
  · refine pu ?_
    refine fkN (d:=18) (c:=((p1 == 13)&&(p2 == 536870924))) 3 [(0,pt X3 Y8),(1,iv p1),(2,.int .u32 p2)] rfl (fun hk => ?_) fun J => ?_
    · rcases Bool.eq_false_or_eq_true (p1 == 13) with hb1 | hb1
      · exact  gT (d0:=15) rfl rfl hb1 (pv (N2 rfl) (gT (d0:=15) rfl rfl hb1 (pv (J8 rfl rfl rfl) (pv (V1 rfl hb1 rfl) (wlR (fun J=>hk J _ (by rw [hb1]; rfl)) ⟨rfl,rfl,rfl,rfl,qZt⟩)))))
      exact  gF2 (d0:=15) rfl rfl (by rw [hb1]; rfl) (pv (V2 rfl hb1 rfl) (wlR (fun J=>hk J _ (by rw [hb1]; rfl)) ⟨rfl,rfl,rfl,rfl,qZt⟩))
    exact je hm (hS.sel (Q9 0 5) rfl)
  rintro _ w1 ⟨T1,x1,J,hm,rfl,hS1,im1⟩
  refine cd hm ?_ ?_ <;> intro hb2 hm
  · refine sq2 (sq2 ?_)
    obtain⟨z_1,hln1,hm⟩:=Q4 hm
    refine rqS hS1 (pu ?_)
    refine qv (fun _ hq=>K3 rfl isAgg59 (hq.cell (hS1.cellB (i:=1) ⟨rfl,rfl⟩ (K9 (k:=32) Z6 (Q8 hln1) Q5 rfl) (j:=2) rfl))) (pu ?_)
    refine qv (fun _ hq=>K3 rfl isAgg22 (hq.cell (hS1.cellB (i:=1) ⟨rfl,rfl⟩ (K9 (k:=32) Z6 (Q8 hln1) Q5 rfl) (j:=6) rfl))) (pn ?_)
    intro w2 T2 im2 hS2
    refine cd hm ?_ ?_ <;> intro hb3 hm
    · refine sq2 ?_
      obtain⟨u1,hx1,hm⟩:=Q4 hm
      refine rqS hS2 (pu ?_)
      refine qv (fun _ hq=>K3 rfl isAgg22 (hq.cell (hS2.cellB (i:=1) ⟨rfl,rfl⟩ (K9 (k:=32) Z6 (Q8 hln1) Q5 rfl) (j:=6) rfl))) (pu ?_)
      refine qv (fun _ hq=>K3 rfl isAgg59 (hq.cell (hS2.cellB (i:=1) ⟨rfl,rfl⟩ (K9 (k:=32) Z6 (Q8 hln1) Q5 rfl) (j:=2) rfl))) (pn ?_)
      intro w3 T3 im3 hS3
      refine Z3 [(6,.int .u32 u1),(7,.bool true)] ⟨rfl,rfl,qZt⟩ fun J => ?_
      exact re hm (hS3.sel (Q9 0 5) rfl)
    refine pn ?_
    exact sq2 (re hm (hS2.sel (Q9 0 5) rfl))
  refine pn ?_
  refine sq2 (pu ?_)
  refine cB cf168 hm (Q0k (hS1.bun (Q9 0 5) [] rfl)) ?_
  rintro y1 _ T4 w4 im4 ⟨rfl,hS4,_⟩ hm
  refine pn ?_
  refine sq2 (pu ?_)
  refine cB cf169 hm (E9 (hS4.bun [0] (Q9 1 4) rfl) Z6 (h1.mono ch) (h2.mono ch)) ?_
  rintro y2 _ T5 w5 im5 ⟨rfl,hS5,_⟩ hm
  refine pn ?_
  refine sq2 (sq2 (cd hm ?_ ?_)) <;> intro hb4 hm
  · exact sq2 (re hm (hS5.sel (Q9 0 5) rfl))
  refine pn ?_
  refine sq2 (pn ?_)
  refine sq2 (sq2 (pn ?_))
  refine lpJ hm (fun bd1 o1 m a w6 => ∃ T6 x2 x3,JR (nf 84) g T5 w5 a w6 T6 (Y9 bd1 m (x2,x3)=some o1) [(0,pt X3 Y8),(1,iv p1),(8,iv y1),(9,iv y2.1),(11,.int .u32 x2),(53,iv y1),(54,iv x3)] [Q3 R,U9 (X4) Z9 p0.volatile.regs [.int .u32 p0.volatile.pc,.int .u32 p0.volatile.seq,.int .u32 p0.volatile.index,sv a1 p0.code c1,.slice a2 n1 c2,.slice a3 n2 c3,sv a4 p0.inputs c4,.slice a5 n3 c5,iv p0.steps,iv p0.state,.int .u32 p0.exit],Z0 Q6 218 (.slice a2 n1 c2) p0.met,Z0 (Q2 .u8) 5 (.slice a3 n2 c3) p0.data,Z0 Z1 403 (.slice a5 n3 c5) p0.log]) (fun _ _ h=>je h (hS5.sel (Q9 0 5) rfl)) ?_
  rintro bd1 hbd1 o1 hq1 _ _ w6 ⟨T6,x2,x3,J,ho1,rfl,hS6,im6⟩
  obtain⟨m1,z1,rfl,hm,hn1⟩:=lrE ho1 hbd1
  refine sq2 (pn ?_)
  refine sq2 (cd hm ?_ ?_) <;> intro hb5 hm
  · refine pn ?_
    refine sq2 (blk (sq2 (pn ?_)))
    obtain⟨z_2,hln2,hm⟩:=Q4 hm
    obtain⟨u2,hx4,hm⟩:=Q4 hm
    obtain⟨_,hz1,hm⟩:=Q4 hm
    have hz1:=W5 hz1
    refine pu ?_
    refine pv (K3 rfl isAgg23 (hS6.cellB (i:=1) ⟨rfl,rfl⟩ (K9 (k:=32) Z6 (Q8 hln2) Q5 rfl) (j:=5) rfl)) (pu ?_)
    exact pv (Q7y rfl rfl hz1) (lg hm hn1 (hS6.sel (Q9 0 5) rfl))
  have hm:=Q3s hm hn1 hq1
  refine pn ?_
  refine F0 hm (fun kk2 a w7 => ∃ T7 x4,JR (nf 84) g T6 w6 a w7 T7 (kk2 x4=some r) [(11,.int .u32 x4)] [Q3 R,U9 (X4) Z9 p0.volatile.regs [.int .u32 p0.volatile.pc,.int .u32 p0.volatile.seq,.int .u32 p0.volatile.index,sv a1 p0.code c1,.slice a2 n1 c2,.slice a3 n2 c3,sv a4 p0.inputs c4,.slice a5 n3 c5,iv p0.steps,iv p0.state,.int .u32 p0.exit],Z0 Q6 218 (.slice a2 n1 c2) p0.met,Z0 (Q2 .u8) 5 (.slice a3 n2 c3) p0.data,Z0 Z1 403 (.slice a5 n3 c5) p0.log]) (fun kk2 hm => ?_) ?_
  · refine sq2 (pu ?_)
    refine fkN (d:=78) (c:=((p1 == 11) || (p1 == 12))) 3 [(8,iv y1),(11,.int .u32 x2)] rfl (fun hk => ?_) fun J => ?_
    · rcases Bool.eq_false_or_eq_true (p1 == 11) with hb6 | hb6
      · exact  gF2 (d0:=75) rfl rfl (by rw [hb6]; rfl) (pv (V1 rfl hb6 rfl) (wlR (fun J=>hk J _ (by rw [hb6]; rfl)) ⟨rfl,rfl,rfl,qZt⟩))
      exact  gT (d0:=75) rfl rfl hb6 (pv (N2 rfl) (gT (d0:=75) rfl rfl hb6 (pv (J8 rfl rfl rfl) (pv (V2 rfl hb6 rfl) (wlR (fun J=>hk J _ (by rw [hb6]; rfl)) ⟨rfl,rfl,rfl,qZt⟩)))))
    refine cd hm ?_ ?_ <;> intro hb7 hm
    · refine pu ?_
      refine cB cf165 hm (W2 (hS6.bun (Q9 0 5) [] rfl)) ?_
      rintro y3 _ T8 w8 im8 ⟨rfl,hS7,_⟩ hm
      exact je hm (hS7.sel (Q9 0 5) rfl)
    exact je hm (hS6.sel (Q9 0 5) rfl)
  rintro _ w7 ⟨T7,x4,J,hm,rfl,hS8,im7⟩
  exact sq2 (re hm (hS8.sel (Q9 0 5) rfl))

theorem Q2v {p0:Q1} {X3 Y8:Nat} {X4:List Value→Z4} {a1 c1 a2 n1 c2 a3 n2 c3 a4 c4 a5 n3 c5 p1 p2} (hS:Sep g T0 w0 [Q3 R,U9 (X4) Z9 p0.volatile.regs [.int .u32 p0.volatile.pc,.int .u32 p0.volatile.seq,.int .u32 p0.volatile.index,sv a1 p0.code c1,.slice a2 n1 c2,.slice a3 n2 c3,sv a4 p0.inputs c4,.slice a5 n3 c5,iv p0.steps,iv p0.state,.int .u32 p0.exit],Z0 Q6 218 (.slice a2 n1 c2) p0.met,Z0 (Q2 .u8) 5 (.slice a3 n2 c3) p0.data,Z0 Z1 403 (.slice a5 n3 c5) p0.log]) (Z6:Ln X3 Y8 X4) (h1:SlR (Q2 .u32) T0 w0 (sv a1 p0.code c1) p0.code) (h2:SlR (Q2 .u32) T0 w0 (sv a4 p0.inputs c4) p0.inputs) : ∀ r,D4 p0 p1 p2=some r →
    Calls Tryz.prog 170 #[pt X3 Y8,.int .u32 p1,.int .u32 p2] w0 (Y4 T0 w0 fun T w v => ∃ a11 c11 a12 c12 a13 n7 c13,v = .bool r.1∧Sep g T w (R ++ [U9 (X4) Z9 r.2.volatile.regs [.int .u32 r.2.volatile.pc,.int .u32 r.2.volatile.seq,.int .u32 r.2.volatile.index,sv a11 r.2.code c11,.slice a2 n1 c2,.slice a3 n2 c3,sv a12 r.2.inputs c12,.slice a13 n7 c13,iv r.2.steps,iv r.2.state,.int .u32 r.2.exit],Z0 Q6 218 (.slice a2 n1 c2) r.2.met,Z0 (Q2 .u8) 5 (.slice a3 n2 c3) r.2.data,Z0 Z1 403 (.slice a13 n7 c13) r.2.log])∧SlR (Q2 .u32) T w (sv a11 r.2.code c11) r.2.code∧SlR (Q2 .u32) T w (sv a12 r.2.inputs c12) r.2.inputs∧True):=by
  intro r hm
  refine enter Tryz.func170 rfl Tryz.ntmps170 rfl fun J => ?_
  unfold D4 at hm
  refine sq2 (pn ?_)
  refine F0 hm (fun kk1 a w1 => ∃(T1:_) (x4:Q1) (a6:_) (n4:_) (c6:_) (a7:_) (c7:_) (a8:_) (c8:_),JR (nf 49) g T0 w0 a w1 T1 (kk1 x4=some r) [] [Q3 R,U9 (X4) Z9 x4.volatile.regs [.int .u32 x4.volatile.pc,.int .u32 x4.volatile.seq,.int .u32 x4.volatile.index,sv a7 x4.code c7,.slice a2 n1 c2,.slice a3 n2 c3,sv a8 x4.inputs c8,.slice a6 n4 c6,iv x4.steps,iv x4.state,.int .u32 x4.exit],Z0 Q6 218 (.slice a2 n1 c2) x4.met,Z0 (Q2 .u8) 5 (.slice a3 n2 c3) x4.data,Z0 Z1 403 (.slice a6 n4 c6) x4.log]∧SlR (Q2 .u32) T1 w1 (sv a7 x4.code c7) x4.code∧SlR (Q2 .u32) T1 w1 (sv a8 x4.inputs c8) x4.inputs) (fun kk1 hm => ?_) ?_
  · refine sq2 (pn ?_)
    refine blk (sq2 (cd hm ?_ ?_)) <;> intro hb1 hm
    · obtain⟨z_1,hln1,hm⟩:=Q4 hm
      refine pu ?_
      refine wl rfl (stB (q:=1) (j:=1) hS ⟨rfl,rfl⟩ (K9 (k:=32) Z6 (Q8 hln1) Q5 rfl) rfl rfl rfl sizeOf59 rfl rfl rfl fun w2 im2 hS1 => ?_)
      exact je hm (hS1.sel (Q9 0 5) rfl)
    refine sq2 (cd hm ?_ ?_) <;> intro hb2 hm
    · refine rsS [0,0,0,0,1,0,0,0,0,1,0,0,2,2,0,0,2] [0,1,2,3,4,5,6,7,8,9,10,11,12,13,14,15,16] hS fun w3 im3 hS2 => ?_
      obtain⟨z_2,hln2,hm⟩:=Q4 hm
      refine pu ?_
      refine s1 rfl qZt (K3 rfl isAgg84 (hS2.cellB (i:=1) ⟨rfl,rfl⟩ (K9 (k:=32) Z6 (Q8 hln2) Q5 rfl) (j:=7) rfl)) rfl (pu ?_)
      refine s1 rfl qZt (K3 rfl isAgg59 (hS2.cellB (i:=1) ⟨rfl,rfl⟩ (K9 (k:=32) Z6 (Q8 hln2) Q5 rfl) (j:=1) rfl)) rfl (pu ?_)
      refine s0 rfl qZt (fun _=>U3 (by kernel_rfl) rfl (u := .agg #[.int .u32 p0.volatile.seq,.int .u32 p2])) rfl ?_
      refine s2W [0] ?_
      refine obS (r:=Z1) (l:=([(⟨p0.volatile.seq,p2⟩:K8)]:List K8)) (css := [[.int .u32 p0.volatile.seq,.int .u32 p2]]) hS2 ⟨(Q8s (x:=(⟨p0.volatile.seq,p2⟩:K8))  : Z1.rp _ _ _ _),qZt⟩ ?_
      intro w4 a9 n5 c9 im4 hS3
      refine⟨st1 rfl (K3 rfl isAgg84 (hS3.cellB (i:=2) ⟨rfl,rfl⟩ (K9 (k:=32) Z6 (Q8 hln2) Q5 rfl) (j:=7) rfl)) (st0),?_⟩
      obtain⟨z_3,hro1,hm⟩:=Q4 hm
      refine s2W [0] ?_
      refine oaO 5 hS3 (Q2m hro1) ?_
      intro w5 a10 n6 c10 im5 hS4
      refine s2W [] ?_
      refine stB (q:=2) (j:=7) hS4 ⟨rfl,rfl⟩ (K9 (k:=32) Z6 (Q8 hln2) Q5 rfl) rfl rfl rfl sizeOf84 rfl rfl rfl fun w6 im6 hS5 => ?_
      refine pu ?_
      exact je hm (hS5.sel (Q9 1 5) rfl)
    refine sq2 (cd hm ?_ ?_) <;> intro hb3 hm
    · obtain⟨z_4,hln3,hm⟩:=Q4 hm
      refine pu ?_
      refine wl rfl (stB (q:=1) (j:=2) hS ⟨rfl,rfl⟩ (K9 (k:=32) Z6 (Q8 hln3) Q5 rfl) rfl rfl rfl sizeOf59 rfl rfl rfl fun w7 im7 hS6 => ?_)
      exact je hm (hS6.sel (Q9 0 5) rfl)
    refine sq2 (cd hm ?_ ?_) <;> intro hb4 hm
    · obtain⟨z_5,hln4,hm⟩:=Q4 hm
      refine pu ?_
      refine wl rfl (stB (q:=1) (j:=9) hS ⟨rfl,rfl⟩ (K9 (k:=32) Z6 (Q8 hln4) Q5 rfl) rfl rfl rfl sizeOf3 rfl rfl rfl fun w8 im8 hS7 => ?_)
      refine pu ?_
      refine wl rfl (stB (q:=1) (j:=10) hS7 ⟨rfl,rfl⟩ (K9 (k:=32) Z6 (Q8 hln4) Q5 rfl) rfl rfl rfl sizeOf59 rfl rfl rfl fun w9 im9 hS8 => ?_)
      exact je hm (hS8.sel (Q9 0 5) rfl)
    exact sq2 (re hm (hS.sel (Q9 0 5) rfl))
  rintro _ w1 ⟨T1,x4,a6,n4,c6,a7,c7,a8,c8,⟨J,hm,rfl,hS9,im1⟩,h3,h4⟩
  exact sq2 (re hm (hS9.sel (Q9 0 5) rfl))

theorem Q2c {p0:Q1} {X3 Y8:Nat} {X4:List Value→Z4} {a1 c1 a2 n1 c2 a3 n2 c3 a4 c4 a5 n3 c5 p1 p2 p3} (hS:Sep g T0 w0 [Q3 R,U9 (X4) Z9 p0.volatile.regs [.int .u32 p0.volatile.pc,.int .u32 p0.volatile.seq,.int .u32 p0.volatile.index,sv a1 p0.code c1,.slice a2 n1 c2,.slice a3 n2 c3,sv a4 p0.inputs c4,.slice a5 n3 c5,iv p0.steps,iv p0.state,.int .u32 p0.exit],Z0 Q6 218 (.slice a2 n1 c2) p0.met,Z0 (Q2 .u8) 5 (.slice a3 n2 c3) p0.data,Z0 Z1 403 (.slice a5 n3 c5) p0.log]) (Z6:Ln X3 Y8 X4) (h1:SlR (Q2 .u32) T0 w0 (sv a1 p0.code c1) p0.code) (h2:SlR (Q2 .u32) T0 w0 (sv a4 p0.inputs c4) p0.inputs) : ∀ r,G4 p0 p1 p2 p3=some r →
    Calls Tryz.prog 94 #[pt X3 Y8,iv p1,.int .u32 p2,.int .u32 p3] w0 (Y4 T0 w0 fun T w v => ∃ a9 c9 a10 c10 a11 n5 c11,v = .bool r.1∧Sep g T w (R ++ [U9 (X4) Z9 r.2.volatile.regs [.int .u32 r.2.volatile.pc,.int .u32 r.2.volatile.seq,.int .u32 r.2.volatile.index,sv a9 r.2.code c9,.slice a2 n1 c2,.slice a3 n2 c3,sv a10 r.2.inputs c10,.slice a11 n5 c11,iv r.2.steps,iv r.2.state,.int .u32 r.2.exit],Z0 Q6 218 (.slice a2 n1 c2) r.2.met,Z0 (Q2 .u8) 5 (.slice a3 n2 c3) r.2.data,Z0 Z1 403 (.slice a11 n5 c11) r.2.log])∧SlR (Q2 .u32) T w (sv a9 r.2.code c9) r.2.code∧SlR (Q2 .u32) T w (sv a10 r.2.inputs c10) r.2.inputs∧True):=by
  intro r hm
  refine enter Tryz.func94 rfl Tryz.ntmps94 rfl fun J => ?_
  unfold G4 at hm
  refine sq2 (pn ?_)
  refine sq2 (sq2 (pu ?_))
  rcases bc hm with ⟨hb1,hm⟩ | ⟨hb1,hm⟩
  · refine pu ?_
    refine cB cf170 hm (Q2v (hS.bun [0] (Q9 1 4) rfl) Z6 h1 h2) ?_
    rintro y1 _ T1 w1 im1 ⟨a6,c6,a7,c7,a8,n4,c8,rfl,hS1,h3,h4,_⟩ hm
    refine cd hm ?_ ?_ <;> intro hb2 hm
    · exact sq2 (re hm (hS1.sel (Q9 0 5) rfl))
    refine pn ?_
    refine sq2 (pu ?_)
    refine cB cf168 hm (Q0k (hS1.bun (Q9 0 5) [] rfl)) ?_
    rintro y2 _ T2 w2 im2 ⟨rfl,hS2,_⟩ hm
    refine pn ?_
    refine sq2 (pu ?_)
    refine cB cf169 hm (E9 (hS2.bun [0] (Q9 1 4) rfl) Z6 (h3.mono im2) (h4.mono im2)) ?_
    rintro y3 _ T3 w3 im3 ⟨rfl,hS3,_⟩ hm
    refine pn ?_
    refine sq2 (sq2 (cd hm ?_ ?_)) <;> intro hb3 hm
    · refine sq2 (pu ?_)
      refine nil (Z3 [(8,.bool false)] ⟨rfl,qZt⟩ fun J => ?_)
      exact re hm (hS3.sel (Q9 0 5) rfl)
    refine pn ?_
    refine sq2 (sq2 (pn ?_))
    refine lpJ hm (fun bd1 o1 m a w4 => ∃(T4:_) (x1:List Int) (x2:_),JR (nf 50) g T3 w3 a w4 T4 (Y9 bd1 m (x1,x2)=some o1) [(0,pt X3 Y8),(3,.int .u32 p3),(10,iv y3.1),(32,iv y2),(33,iv x2)] [Q3 R,U9 (X4) Z9 y1.2.volatile.regs [.int .u32 y1.2.volatile.pc,.int .u32 y1.2.volatile.seq,.int .u32 y1.2.volatile.index,sv a6 y1.2.code c6,.slice a2 n1 c2,.slice a3 n2 c3,sv a7 y1.2.inputs c7,.slice a8 n4 c8,iv y1.2.steps,iv y1.2.state,.int .u32 y1.2.exit],Z0 Q6 218 (.slice a2 n1 c2) y1.2.met,Z0 (Q2 .u8) 5 (.slice a3 n2 c3) x1,Z0 Z1 403 (.slice a8 n4 c8) y1.2.log]) (fun _ _ h=>je h (hS3.sel (Q9 0 5) rfl)) ?_
    rintro bd1 hbd1 o1 hq1 _ _ w4 ⟨T4,x1,x2,J,ho1,rfl,hS4,im4⟩
    obtain⟨m1,z1,rfl,hm,hn1⟩:=lrE ho1 hbd1
    refine sq2 (pn ?_)
    refine sq2 (cd hm ?_ ?_) <;> intro hb4 hm
    · refine pn ?_
      refine sq2 (blk (sq2 (pn ?_)))
      refine rsS [0,0,0,1,0,0,0,0,0,0,0,0,0,2] [0,1,2,3,4,5,6,7,8,9,10,11,12,13] hS4 fun w5 im5 hS5 => ?_
      obtain⟨z_1,hln1,hm⟩:=Q4 hm
      obtain⟨_,hz1,hm⟩:=Q4 hm
      have hz1:=W5 hz1
      obtain⟨u1,hx4,hm⟩:=Q4 hm
      obtain⟨u2,hx5,hm⟩:=Q4 hm
      obtain rfl:u1=u2:=oI (hx4.symm.trans hx5)
      refine pu ?_
      refine s1 rfl qZt (K3 rfl isAgg23 (hS5.cellB (i:=1) ⟨rfl,rfl⟩ (K9 (k:=32) Z6 (Q8 hln1) Q5 rfl) (j:=5) rfl)) rfl (pu ?_)
      refine s0 rfl qZt (fun _=>Q4l rfl rfl hz1) rfl (pu ?_)
      refine s2W [0] ?_
      refine stOc (q:=3) (j:=0) (u' := IntKind.wrap .u8 (Int.fdiv p3 (2 ^ (min (Int.toNat (IntKind.wrap .i64 (8 * x2))) (IntKind.bits .u32))))) hS5 ⟨rfl,rfl⟩ hx5 rfl rfl rfl sizeOf5 rfl rfl rfl (fun c0 hc0=>by rw [B8 (r:=(Q2 .u8)) hc0 rfl]; exact rfl) fun w6 im6 hS6 => ?_
      exact lg hm hn1 (hS6.sel (Q9 0 5) rfl)
    have hm:=Q3s hm hn1 hq1
    refine pn ?_
    exact sq2 (re hm (hS4.sel (Q9 0 5) rfl))
  refine pn ?_
  refine cnd (b:=false) rfl (fun h=>nomatch h) (fun _ => ?_)
  refine pn ?_
  refine sq2 (pu ?_)
  refine cB cf168 hm (Q0k (hS.bun (Q9 0 5) [] rfl)) ?_
  rintro y4 _ T5 w7 im7 ⟨rfl,hS7,_⟩ hm
  refine pn ?_
  refine sq2 (pu ?_)
  refine cB cf169 hm (E9 (hS7.bun [0] (Q9 1 4) rfl) Z6 (h1.mono im7) (h2.mono im7)) ?_
  rintro y5 _ T6 w8 im8 ⟨rfl,hS8,_⟩ hm
  refine pn ?_
  refine sq2 (sq2 (cd hm ?_ ?_)) <;> intro hb6 hm
  · refine sq2 (pu ?_)
    refine nil (Z3 [(8,.bool false)] ⟨rfl,qZt⟩ fun J => ?_)
    exact re hm (hS8.sel (Q9 0 5) rfl)
  refine pn ?_
  refine sq2 (sq2 (pn ?_))
  refine lpJ hm (fun bd1 o1 m a w9 => ∃(T7:_) (x3:List Int) (x4:_),JR (nf 50) g T6 w8 a w9 T7 (Y9 bd1 m (x3,x4)=some o1) [(0,pt X3 Y8),(3,.int .u32 p3),(10,iv y5.1),(32,iv y4),(33,iv x4)] [Q3 R,U9 (X4) Z9 p0.volatile.regs [.int .u32 p0.volatile.pc,.int .u32 p0.volatile.seq,.int .u32 p0.volatile.index,sv a1 p0.code c1,.slice a2 n1 c2,.slice a3 n2 c3,sv a4 p0.inputs c4,.slice a5 n3 c5,iv p0.steps,iv p0.state,.int .u32 p0.exit],Z0 Q6 218 (.slice a2 n1 c2) p0.met,Z0 (Q2 .u8) 5 (.slice a3 n2 c3) x3,Z0 Z1 403 (.slice a5 n3 c5) p0.log]) (fun _ _ h=>je h (hS8.sel (Q9 0 5) rfl)) ?_
  rintro bd1 hbd1 o1 hq1 _ _ w9 ⟨T7,x3,x4,J,ho1,rfl,hS9,im9⟩
  obtain⟨m1,z1,rfl,hm,hn1⟩:=lrE ho1 hbd1
  refine sq2 (pn ?_)
  refine sq2 (cd hm ?_ ?_) <;> intro hb7 hm
  · refine pn ?_
    refine sq2 (blk (sq2 (pn ?_)))
    refine rsS [0,0,0,1,0,0,0,0,0,0,0,0,0,2] [0,1,2,3,4,5,6,7,8,9,10,11,12,13] hS9 fun w10 im10 hS10 => ?_
    obtain⟨z_2,hln2,hm⟩:=Q4 hm
    obtain⟨_,hz2,hm⟩:=Q4 hm
    have hz2:=W5 hz2
    obtain⟨u3,hx8,hm⟩:=Q4 hm
    obtain⟨u4,hx9,hm⟩:=Q4 hm
    obtain rfl:u3=u4:=oI (hx8.symm.trans hx9)
    refine pu ?_
    refine s1 rfl qZt (K3 rfl isAgg23 (hS10.cellB (i:=1) ⟨rfl,rfl⟩ (K9 (k:=32) Z6 (Q8 hln2) Q5 rfl) (j:=5) rfl)) rfl (pu ?_)
    refine s0 rfl qZt (fun _=>Q4l rfl rfl hz2) rfl (pu ?_)
    refine s2W [0] ?_
    refine stOc (q:=3) (j:=0) (u' := IntKind.wrap .u8 (Int.fdiv p3 (2 ^ (min (Int.toNat (IntKind.wrap .i64 (8 * x4))) (IntKind.bits .u32))))) hS10 ⟨rfl,rfl⟩ hx9 rfl rfl rfl sizeOf5 rfl rfl rfl (fun c0 hc0=>by rw [B8 (r:=(Q2 .u8)) hc0 rfl]; exact rfl) fun w11 im11 hS11 => ?_
    exact lg hm hn1 (hS11.sel (Q9 0 5) rfl)
  have hm:=Q3s hm hn1 hq1
  refine pn ?_
  exact sq2 (re hm (hS9.sel (Q9 0 5) rfl))

theorem Z5l {p0 p1} (hS:Sep g T0 w0 [Q3 R])  : ∀ r,Q4a p0 p1=some r →
    Calls Tryz.prog 175 #[.int .u32 p0,.int .u32 p1] w0 (Y4 T0 w0 fun T w v=>v = .int .u32 r∧Sep g T w (R ++ [])∧True):=by
  intro r hm
  refine enter Tryz.func175 rfl Tryz.ntmps175 rfl fun J => ?_
  unfold Q4a at hm
  refine sq2 (pn ?_)
  exact sq2 (re hm (hS.sel [0] rfl))

theorem Z5n {p0 p1} (hS:Sep g T0 w0 [Q3 R])  : ∀ r,Q4b p0 p1=some r →
    Calls Tryz.prog 301 #[.int .u32 p0,.int .u32 p1] w0 (Y4 T0 w0 fun T w v=>v = .int .u32 r∧Sep g T w (R ++ [])∧True):=by
  intro r hm
  refine enter Tryz.func301 rfl Tryz.ntmps301 rfl fun J => ?_
  unfold Q4b at hm
  refine sq2 (pn ?_)
  exact sq2 (re hm (hS.sel [0] rfl))

theorem Q9j {p0 p1} (hS:Sep g T0 w0 [Q3 R])  : ∀ r,Q1q p0 p1=some r →
    Calls Tryz.prog 403 #[iv p0,iv p1] w0 (Y4 T0 w0 fun T w v=>v=iv r∧Sep g T w (R ++ [])∧True):=by
  intro r hm
  refine enter Tryz.func403 rfl Tryz.ntmps403 rfl fun J => ?_
  unfold Q1q at hm
  refine sq2 (pn ?_)
  exact sq2 (re hm (hS.sel [0] rfl))

theorem Q9h {p0 p1} (hS:Sep g T0 w0 [Q3 R])  : ∀ r,Q1p p0 p1=some r →
    Calls Tryz.prog 402 #[.int .u32 p0,.int .u32 p1,.func (.func 403) #[] #[]] w0 (Y4 T0 w0 fun T w v=>v=iv r∧Sep g T w (R ++ [])∧True):=by
  intro r hm
  refine enter Tryz.func402 rfl Tryz.ntmps402 rfl fun J => ?_
  unfold Q1p at hm
  refine sq2 (pn ?_)
  refine sq2 (pu ?_)
  refine cB cf403 hm (Q9j (hS.bun [0] [] rfl)) ?_
  rintro y1 _ T1 w1 im1 ⟨rfl,hS1,_⟩ hm
  exact re hm (hS1.sel [0] rfl)

theorem Z3r {p0 p1} (hS:Sep g T0 w0 [Q3 R])  : ∀ r,Q0q p0 p1=some r →
    Calls Tryz.prog 302 #[.int .u32 p0,.int .u32 p1] w0 (Y4 T0 w0 fun T w v=>v = .int .u32 r∧Sep g T w (R ++ [])∧True):=by
  intro r hm
  refine enter Tryz.func302 rfl Tryz.ntmps302 rfl fun J => ?_
  unfold Q0q at hm
  refine sq2 (pn ?_)
  refine sq2 (pu ?_)
  refine cB cf402 hm (Q9h (hS.bun [0] [] rfl)) ?_
  rintro y1 _ T1 w1 im1 ⟨rfl,hS1,_⟩ hm
  exact re hm (hS1.sel [0] rfl)

theorem Q9k {p0 p1} (hS:Sep g T0 w0 [Q3 R])  : ∀ r,H0 p0 p1=some r →
    Calls Tryz.prog 303 #[.int .u32 p0,.int .u32 p1] w0 (Y4 T0 w0 fun T w v=>v = .int .u32 r∧Sep g T w (R ++ [])∧True):=by
  intro r hm
  refine enter Tryz.func303 rfl Tryz.ntmps303 rfl fun J => ?_
  unfold H0 at hm
  refine sq2 (pn ?_)
  exact sq2 (re hm (hS.sel [0] rfl))

theorem Z0n {p0 p1} (hS:Sep g T0 w0 [Q3 R])  : ∀ r,O5 p0 p1=some r →
    Calls Tryz.prog 304 #[.int .u32 p0,.int .u32 p1] w0 (Y4 T0 w0 fun T w v=>v = .int .u32 r∧Sep g T w (R ++ [])∧True):=by
  intro r hm
  refine enter Tryz.func304 rfl Tryz.ntmps304 rfl fun J => ?_
  unfold O5 at hm
  refine sq2 (pn ?_)
  exact sq2 (re hm (hS.sel [0] rfl))

theorem Z0o {p0 p1} (hS:Sep g T0 w0 [Q3 R])  : ∀ r,Q3b p0 p1=some r →
    Calls Tryz.prog 404 #[iv p0,iv p1] w0 (Y4 T0 w0 fun T w v=>v=iv r∧Sep g T w (R ++ [])∧True):=by
  intro r hm
  refine enter Tryz.func404 rfl Tryz.ntmps404 rfl fun J => ?_
  unfold Q3b at hm
  refine sq2 (pn ?_)
  refine sq2 ?_
  obtain⟨_,hz1,hm⟩:=Q4 hm
  have hz1:=D3 hz1
  refine pu ?_
  exact pv (r_iq rfl rfl hz1) (re hm (hS.sel [0] rfl))

theorem Q6m {p0 p1} (hS:Sep g T0 w0 [Q3 R])  : ∀ r,W0 p0 p1=some r →
    Calls Tryz.prog 402 #[.int .u32 p0,.int .u32 p1,.func (.func 404) #[] #[]] w0 (Y4 T0 w0 fun T w v=>v=iv r∧Sep g T w (R ++ [])∧True):=by
  intro r hm
  refine enter Tryz.func402 rfl Tryz.ntmps402 rfl fun J => ?_
  unfold W0 at hm
  refine sq2 (pn ?_)
  refine sq2 (pu ?_)
  refine cB cf404 hm (Z0o (hS.bun [0] [] rfl)) ?_
  rintro y1 _ T1 w1 im1 ⟨rfl,hS1,_⟩ hm
  exact re hm (hS1.sel [0] rfl)

theorem Z5o {p0 p1} (hS:Sep g T0 w0 [Q3 R])  : ∀ r,Q2i p0 p1=some r →
    Calls Tryz.prog 305 #[.int .u32 p0,.int .u32 p1] w0 (Y4 T0 w0 fun T w v=>v = .int .u32 r∧Sep g T w (R ++ [])∧True):=by
  intro r hm
  refine enter Tryz.func305 rfl Tryz.ntmps305 rfl fun J => ?_
  unfold Q2i at hm
  refine sq2 (pn ?_)
  refine sq2 (sq2 (cd hm ?_ ?_)) <;> intro hb1 hm
  · exact sq2 (re hm (hS.sel [0] rfl))
  refine pn ?_
  refine sq2 (pu ?_)
  refine cB cf402 hm (Q6m (hS.bun [0] [] rfl)) ?_
  rintro y1 _ T1 w1 im1 ⟨rfl,hS1,_⟩ hm
  exact re hm (hS1.sel [0] rfl)

theorem Z3s {p0 p1} (hS:Sep g T0 w0 [Q3 R])  : ∀ r,Q2h p0 p1=some r →
    Calls Tryz.prog 306 #[.int .u32 p0,.int .u32 p1] w0 (Y4 T0 w0 fun T w v=>v = .int .u32 r∧Sep g T w (R ++ [])∧True):=by
  intro r hm
  refine enter Tryz.func306 rfl Tryz.ntmps306 rfl fun J => ?_
  unfold Q2h at hm
  refine sq2 (pn ?_)
  refine sq2 (sq2 (cd hm ?_ ?_)) <;> intro hb1 hm
  · exact sq2 (re hm (hS.sel [0] rfl))
  refine pn ?_
  refine sq2 ?_
  obtain⟨_,hz1,hm⟩:=Q4 hm
  have hz1:=D3 hz1
  refine pu ?_
  exact pv (r_iq rfl rfl hz1) (re hm (hS.sel [0] rfl))

theorem Z0m {p0 p1} (hS:Sep g T0 w0 [Q3 R])  : ∀ r,Q3a p0 p1=some r →
    Calls Tryz.prog 405 #[iv p0,iv p1] w0 (Y4 T0 w0 fun T w v=>v=iv r∧Sep g T w (R ++ [])∧True):=by
  intro r hm
  refine enter Tryz.func405 rfl Tryz.ntmps405 rfl fun J => ?_
  unfold Q3a at hm
  refine sq2 (pn ?_)
  refine sq2 ?_
  obtain⟨_,hz1,hm⟩:=Q4 hm
  have hz1:=D3 hz1
  refine pu ?_
  exact pv (Q3u rfl rfl hz1) (re hm (hS.sel [0] rfl))

theorem Q6l {p0 p1} (hS:Sep g T0 w0 [Q3 R])  : ∀ r,S9 p0 p1=some r →
    Calls Tryz.prog 402 #[.int .u32 p0,.int .u32 p1,.func (.func 405) #[] #[]] w0 (Y4 T0 w0 fun T w v=>v=iv r∧Sep g T w (R ++ [])∧True):=by
  intro r hm
  refine enter Tryz.func402 rfl Tryz.ntmps402 rfl fun J => ?_
  unfold S9 at hm
  refine sq2 (pn ?_)
  refine sq2 (pu ?_)
  refine cB cf405 hm (Z0m (hS.bun [0] [] rfl)) ?_
  rintro y1 _ T1 w1 im1 ⟨rfl,hS1,_⟩ hm
  exact re hm (hS1.sel [0] rfl)

theorem Z5m {p0 p1} (hS:Sep g T0 w0 [Q3 R])  : ∀ r,Q2g p0 p1=some r →
    Calls Tryz.prog 307 #[.int .u32 p0,.int .u32 p1] w0 (Y4 T0 w0 fun T w v=>v = .int .u32 r∧Sep g T w (R ++ [])∧True):=by
  intro r hm
  refine enter Tryz.func307 rfl Tryz.ntmps307 rfl fun J => ?_
  unfold Q2g at hm
  refine sq2 (pn ?_)
  refine sq2 (sq2 (cd hm ?_ ?_)) <;> intro hb1 hm
  · exact sq2 (re hm (hS.sel [0] rfl))
  refine pn ?_
  refine sq2 (pu ?_)
  refine cB cf402 hm (Q6l (hS.bun [0] [] rfl)) ?_
  rintro y1 _ T1 w1 im1 ⟨rfl,hS1,_⟩ hm
  exact re hm (hS1.sel [0] rfl)

theorem Z3p {p0 p1} (hS:Sep g T0 w0 [Q3 R])  : ∀ r,Q2f p0 p1=some r →
    Calls Tryz.prog 308 #[.int .u32 p0,.int .u32 p1] w0 (Y4 T0 w0 fun T w v=>v = .int .u32 r∧Sep g T w (R ++ [])∧True):=by
  intro r hm
  refine enter Tryz.func308 rfl Tryz.ntmps308 rfl fun J => ?_
  unfold Q2f at hm
  refine sq2 (pn ?_)
  refine sq2 (sq2 (cd hm ?_ ?_)) <;> intro hb1 hm
  · exact sq2 (re hm (hS.sel [0] rfl))
  refine pn ?_
  refine sq2 ?_
  obtain⟨_,hz1,hm⟩:=Q4 hm
  have hz1:=D3 hz1
  refine pu ?_
  exact pv (Q3u rfl rfl hz1) (re hm (hS.sel [0] rfl))

theorem Q6g {p0 p1 p2} (hS:Sep g T0 w0 [Q3 R])  : ∀ r,Q1k p0 p1 p2=some r →
    Calls Tryz.prog 176 #[iv p0,.int .u32 p1,.int .u32 p2] w0 (Y4 T0 w0 fun T w v=>v = .int .u32 r∧Sep g T w (R ++ [])∧True):=by
  intro r hm
  refine enter Tryz.func176 rfl Tryz.ntmps176 rfl fun J => ?_
  unfold Q1k at hm
  refine sq2 (pn ?_)
  refine sq2 (sq2 (pn ?_))
  refine blk (sq2 (cd hm ?_ ?_)) <;> intro hb1 hm
  · refine sq2 (pu ?_)
    refine cB cf301 hm (Z5n (hS.bun [0] [] rfl)) ?_
    rintro y1 _ T1 w1 im1 ⟨rfl,hS1,_⟩ hm
    exact re hm (hS1.sel [0] rfl)
  refine sq2 (cd hm ?_ ?_) <;> intro hb2 hm
  · refine sq2 (pu ?_)
    refine cB cf302 hm (Z3r (hS.bun [0] [] rfl)) ?_
    rintro y2 _ T2 w2 im2 ⟨rfl,hS2,_⟩ hm
    exact re hm (hS2.sel [0] rfl)
  refine sq2 (cd hm ?_ ?_) <;> intro hb3 hm
  · refine sq2 (pu ?_)
    refine cB cf303 hm (Q9k (hS.bun [0] [] rfl)) ?_
    rintro y3 _ T3 w3 im3 ⟨rfl,hS3,_⟩ hm
    exact re hm (hS3.sel [0] rfl)
  refine sq2 (cd hm ?_ ?_) <;> intro hb4 hm
  · refine sq2 (pu ?_)
    refine cB cf304 hm (Z0n (hS.bun [0] [] rfl)) ?_
    rintro y4 _ T4 w4 im4 ⟨rfl,hS4,_⟩ hm
    exact re hm (hS4.sel [0] rfl)
  refine sq2 (cd hm ?_ ?_) <;> intro hb5 hm
  · refine sq2 (pu ?_)
    refine cB cf305 hm (Z5o (hS.bun [0] [] rfl)) ?_
    rintro y5 _ T5 w5 im5 ⟨rfl,hS5,_⟩ hm
    exact re hm (hS5.sel [0] rfl)
  refine sq2 (cd hm ?_ ?_) <;> intro hb6 hm
  · refine sq2 (pu ?_)
    refine cB cf306 hm (Z3s (hS.bun [0] [] rfl)) ?_
    rintro y6 _ T6 w6 im6 ⟨rfl,hS6,_⟩ hm
    exact re hm (hS6.sel [0] rfl)
  refine sq2 (cd hm ?_ ?_) <;> intro hb7 hm
  · refine sq2 (pu ?_)
    refine cB cf307 hm (Z5m (hS.bun [0] [] rfl)) ?_
    rintro y7 _ T7 w7 im7 ⟨rfl,hS7,_⟩ hm
    exact re hm (hS7.sel [0] rfl)
  refine pn ?_
  refine sq2 (pu ?_)
  refine cB cf308 hm (Z3p (hS.bun [0] [] rfl)) ?_
  rintro y8 _ T8 w8 im8 ⟨rfl,hS8,_⟩ hm
  exact re hm (hS8.sel [0] rfl)

theorem Z5p {p0 p1} (hS:Sep g T0 w0 [Q3 R])  : ∀ r,Q4c p0 p1=some r →
    Calls Tryz.prog 171 #[.int .u32 p0,.int .u32 p1] w0 (Y4 T0 w0 fun T w v=>v = .int .u32 r∧Sep g T w (R ++ [])∧True):=by
  intro r hm
  refine enter Tryz.func171 rfl Tryz.ntmps171 rfl fun J => ?_
  unfold Q4c at hm
  refine sq2 (pn ?_)
  exact sq2 (re hm (hS.sel [0] rfl))

theorem Z3q {p0 p1} (hS:Sep g T0 w0 [Q3 R])  : ∀ r,Q0p p0 p1=some r →
    Calls Tryz.prog 172 #[.int .u32 p0,.int .u32 p1] w0 (Y4 T0 w0 fun T w v=>v = .int .u32 r∧Sep g T w (R ++ [])∧True):=by
  intro r hm
  refine enter Tryz.func172 rfl Tryz.ntmps172 rfl fun J => ?_
  unfold Q0p at hm
  refine sq2 (pn ?_)
  refine sq2 ?_
  obtain⟨_,hz1,hm⟩:=Q4 hm
  have hz1:=W5 hz1
  refine pu ?_
  exact pv (Q7y rfl rfl hz1) (re hm (hS.sel [0] rfl))

theorem Z0l {p0 p1} (hS:Sep g T0 w0 [Q3 R])  : ∀ r,Q0x p0 p1=some r →
    Calls Tryz.prog 173 #[.int .u32 p0,.int .u32 p1] w0 (Y4 T0 w0 fun T w v=>v = .int .u32 r∧Sep g T w (R ++ [])∧True):=by
  intro r hm
  refine enter Tryz.func173 rfl Tryz.ntmps173 rfl fun J => ?_
  unfold Q0x at hm
  refine sq2 (pn ?_)
  refine sq2 ?_
  obtain⟨_,hz1,hm⟩:=Q4 hm
  have hz1:=W5 hz1
  refine pu ?_
  exact pv (Q4l rfl rfl hz1) (re hm (hS.sel [0] rfl))

theorem Q9i {p0 p1} (hS:Sep g T0 w0 [Q3 R])  : ∀ r,A8 p0 p1=some r →
    Calls Tryz.prog 174 #[.int .u32 p0,.int .u32 p1] w0 (Y4 T0 w0 fun T w v=>v = .int .u32 r∧Sep g T w (R ++ [])∧True):=by
  intro r hm
  refine enter Tryz.func174 rfl Tryz.ntmps174 rfl fun J => ?_
  unfold A8 at hm
  refine sq2 (pn ?_)
  refine sq2 ?_
  obtain⟨_,hz1,hm⟩:=Q4 hm
  have hz1:=W5 hz1
  refine pu ?_
  exact pv (Q4l rfl rfl hz1) (re hm (hS.sel [0] rfl))

theorem Q0l {p0 p1 p2} (hS:Sep g T0 w0 [Q3 R])  : ∀ r,P4 p0 p1 p2=some r →
    Calls Tryz.prog 95 #[iv p0,.int .u32 p1,.int .u32 p2] w0 (Y4 T0 w0 fun T w v=>v = .int .u32 r∧Sep g T w (R ++ [])∧True):=by
  intro r hm
  refine enter Tryz.func95 rfl Tryz.ntmps95 rfl fun J => ?_
  unfold P4 at hm
  refine sq2 (pn ?_)
  refine sq2 (sq2 (pn ?_))
  refine blk (sq2 (blk (F0 hm (fun kk1 a w1 => ∃ T1,JR (nf 80) g T0 w0 a w1 T1 (kk1 ()=some r) [(1,.int .u32 p1),(2,.int .u32 p2)] [Q3 R]) (fun kk1 hm => ?_) ?_)))
  · refine blk (blk (F0 hm (fun kk2 a w2 => ∃ T2,JR (nf 80) g T0 w0 a w2 T2 (kk2 ()=some r) [(1,.int .u32 p1),(2,.int .u32 p2)] [Q3 R]) (fun kk2 hm => ?_) ?_))
    · refine blk (blk (F0 hm (fun kk3 a w3 => ∃ T3,JR (nf 80) g T0 w0 a w3 T3 (kk3 ()=some r) [(1,.int .u32 p1),(2,.int .u32 p2)] [Q3 R]) (fun kk3 hm => ?_) ?_))
      · refine blk (blk (F0 hm (fun kk4 a w4 => ∃ T4,JR (nf 80) g T0 w0 a w4 T4 (kk4 ()=some r) [(1,.int .u32 p1),(2,.int .u32 p2)] [Q3 R]) (fun kk4 hm => ?_) ?_))
        · refine blk (blk (F0 hm (fun kk5 a w5 => ∃ T5,JR (nf 80) g T0 w0 a w5 T5 (kk5 ()=some r) [(1,.int .u32 p1),(2,.int .u32 p2)] [Q3 R]) (fun kk5 hm => ?_) ?_))
          · refine blk (blk (F0 hm (fun kk6 a w6 => ∃ T6,JR (nf 80) g T0 w0 a w6 T6 (kk6 ()=some r) [(1,.int .u32 p1),(2,.int .u32 p2)] [Q3 R]) (fun kk6 hm => ?_) ?_))
            · refine blk (blk (F0 hm (fun kk7 a w7 => ∃ T7,JR (nf 80) g T0 w0 a w7 T7 (kk7 ()=some r) [(1,.int .u32 p1),(2,.int .u32 p2)] [Q3 R]) (fun kk7 hm => ?_) ?_))
              · refine blk (blk (F0 hm (fun kk8 a w8 => ∃ T8,JR (nf 80) g T0 w0 a w8 T8 (kk8 ()=some r) [(1,.int .u32 p1),(2,.int .u32 p2)] [Q3 R]) (fun kk8 hm => ?_) ?_))
                · refine blk (blk (F0 hm (fun kk9 a w9 => ∃ T9,JR (nf 80) g T0 w0 a w9 T9 (kk9 ()=some r) [(1,.int .u32 p1),(2,.int .u32 p2)] [Q3 R]) (fun kk9 hm => ?_) ?_))
                  · refine blk (blk (sq2 (sq2 (sq2 (cd hm ?_ ?_))))) <;> intro hb1 hm
                    · exact je hm (hS.sel [0] rfl)
                    refine pn ?_
                    refine sq2 (sq2 (cd hm ?_ ?_)) <;> intro hb2 hm
                    · exact je hm (hS.sel [0] rfl)
                    refine pn ?_
                    refine sq2 (sq2 (cd hm ?_ ?_)) <;> intro hb3 hm
                    · exact je hm (hS.sel [0] rfl)
                    refine pn ?_
                    refine sq2 (sq2 (cd hm ?_ ?_)) <;> intro hb4 hm
                    · exact je hm (hS.sel [0] rfl)
                    refine pn ?_
                    refine sq2 (sq2 (cd hm ?_ ?_)) <;> intro hb5 hm
                    · exact je hm (hS.sel [0] rfl)
                    refine pn ?_
                    refine sq2 (sq2 (cd hm ?_ ?_)) <;> intro hb6 hm
                    · exact je hm (hS.sel [0] rfl)
                    refine pn ?_
                    refine sq2 (sq2 (cd hm ?_ ?_)) <;> intro hb7 hm
                    · exact je hm (hS.sel [0] rfl)
                    refine pn ?_
                    refine sq2 (sq2 (cd hm ?_ ?_)) <;> intro hb8 hm
                    · exact je hm (hS.sel [0] rfl)
                    refine pn ?_
                    refine sq2 (sq2 (cd hm ?_ ?_)) <;> intro hb9 hm
                    · exact je hm (hS.sel [0] rfl)
                    refine pn ?_
                    refine sq2 (sq2 (cd hm ?_ ?_)) <;> intro hb10 hm
                    · exact je hm (hS.sel [0] rfl)
                    refine pn ?_
                    refine sq2 (sq2 (cd hm ?_ ?_)) <;> intro hb11 hm
                    · exact je hm (hS.sel [0] rfl)
                    refine pn ?_
                    refine sq2 (sq2 (cd hm ?_ ?_)) <;> intro hb12 hm
                    · exact je hm (hS.sel [0] rfl)
                    refine skp (Z3 [(0,iv p0),(1,.int .u32 p1),(2,.int .u32 p2),(7,iv p0)] ⟨rfl,rfl,rfl,rfl,qZt⟩ fun J => ?_)
                    refine sq2 (sq2 (cd hm ?_ ?_)) <;> intro hb13 hm
                    · exact je hm (hS.sel [0] rfl)
                    refine pn ?_
                    refine sq2 (sq2 (cd hm ?_ ?_)) <;> intro hb14 hm
                    · exact je hm (hS.sel [0] rfl)
                    refine pn ?_
                    refine sq2 (sq2 (cd hm ?_ ?_)) <;> intro hb15 hm
                    · exact je hm (hS.sel [0] rfl)
                    refine pn ?_
                    refine sq2 (sq2 (cd hm ?_ ?_)) <;> intro hb16 hm
                    · exact je hm (hS.sel [0] rfl)
                    refine pn ?_
                    refine sq2 (sq2 (cd hm ?_ ?_)) <;> intro hb17 hm
                    · exact je hm (hS.sel [0] rfl)
                    refine pn ?_
                    refine sq2 (sq2 (cd hm ?_ ?_)) <;> intro hb18 hm
                    · exact je hm (hS.sel [0] rfl)
                    refine pn ?_
                    refine sq2 (cd hm ?_ ?_) <;> intro hb19 hm
                    · refine pn ?_
                      refine sq2 (sq2 (pu ?_))
                      refine cB cf175 hm (Z5l (hS.bun [0] [] rfl)) ?_
                      rintro y1 _ T10 w10 im10 ⟨rfl,hS1,_⟩ hm
                      exact re hm (hS1.sel [0] rfl)
                    refine pn ?_
                    refine pn ?_
                    refine sq2 (pu ?_)
                    refine cB cf176 hm (Q6g (hS.bun [0] [] rfl)) ?_
                    rintro y2 _ T11 w11 im11 ⟨rfl,hS2,_⟩ hm
                    exact re hm (hS2.sel [0] rfl)
                  rintro _ w9 ⟨T9,J,hm,rfl,hS3,im9⟩
                  refine sq2 (sq2 (pu ?_))
                  refine cB cf171 hm (Z5p (hS3.bun [0] [] rfl)) ?_
                  rintro y3 _ T12 w12 im12 ⟨rfl,hS4,_⟩ hm
                  exact re hm (hS4.sel [0] rfl)
                rintro _ w8 ⟨T8,J,hm,rfl,hS5,im8⟩
                refine sq2 (sq2 (pu ?_))
                refine cB cf166 hm (Q1y (hS5.bun [0] [] rfl)) ?_
                rintro y4 _ T13 w13 im13 ⟨rfl,hS6,_⟩ hm
                exact re hm (hS6.sel [0] rfl)
              rintro _ w7 ⟨T7,J,hm,rfl,hS7,im7⟩
              refine sq2 (sq2 (pu ?_))
              refine cB cf167 hm (Q0y (hS7.bun [0] [] rfl)) ?_
              rintro y5 _ T14 w14 im14 ⟨rfl,hS8,_⟩ hm
              exact re hm (hS8.sel [0] rfl)
            rintro _ w6 ⟨T6,J,hm,rfl,hS9,im6⟩
            exact sq2 (sq2 (re hm (hS9.sel [0] rfl)))
          rintro _ w5 ⟨T5,J,hm,rfl,hS10,im5⟩
          exact sq2 (sq2 (re hm (hS10.sel [0] rfl)))
        rintro _ w4 ⟨T4,J,hm,rfl,hS11,im4⟩
        exact sq2 (sq2 (re hm (hS11.sel [0] rfl)))
      rintro _ w3 ⟨T3,J,hm,rfl,hS12,im3⟩
      refine sq2 (sq2 (pu ?_))
      refine cB cf172 hm (Z3q (hS12.bun [0] [] rfl)) ?_
      rintro y6 _ T15 w15 im15 ⟨rfl,hS13,_⟩ hm
      exact re hm (hS13.sel [0] rfl)
    rintro _ w2 ⟨T2,J,hm,rfl,hS14,im2⟩
    refine sq2 (sq2 (pu ?_))
    refine cB cf173 hm (Z0l (hS14.bun [0] [] rfl)) ?_
    rintro y7 _ T16 w16 im16 ⟨rfl,hS15,_⟩ hm
    exact re hm (hS15.sel [0] rfl)
  rintro _ w1 ⟨T1,J,hm,rfl,hS16,im1⟩
  refine sq2 (sq2 (pu ?_))
  refine cB cf174 hm (Q9i (hS16.bun [0] [] rfl)) ?_
  rintro y8 _ T17 w17 im17 ⟨rfl,hS17,_⟩ hm
  exact re hm (hS17.sel [0] rfl)

theorem Q3y {p0:Q1} {X3 Y8:Nat} {X4:List Value→Z4} {a1 c1 a2 n1 c2 a3 n2 c3 a4 c4 a5 n3 c5} {p1:V4} (hS:Sep g T0 w0 [Q3 R,U9 (X4) Z9 p0.volatile.regs [.int .u32 p0.volatile.pc,.int .u32 p0.volatile.seq,.int .u32 p0.volatile.index,sv a1 p0.code c1,.slice a2 n1 c2,.slice a3 n2 c3,sv a4 p0.inputs c4,.slice a5 n3 c5,iv p0.steps,iv p0.state,.int .u32 p0.exit],Z0 Q6 218 (.slice a2 n1 c2) p0.met,Z0 (Q2 .u8) 5 (.slice a3 n2 c3) p0.data,Z0 Z1 403 (.slice a5 n3 c5) p0.log]) (Z6:Ln X3 Y8 X4) (h1:SlR (Q2 .u32) T0 w0 (sv a1 p0.code c1) p0.code) (h2:SlR (Q2 .u32) T0 w0 (sv a4 p0.inputs c4) p0.inputs) : ∀ r,E8 p0 p1=some r →
    Calls Tryz.prog 51 #[pt X3 Y8,.agg (P1 p1).toArray] w0 (Y4 T0 w0 fun T w v => ∃ a12 c12 a13 c13 a14 n6 c14,v = .bool r.1∧Sep g T w (R ++ [U9 (X4) Z9 r.2.volatile.regs [.int .u32 r.2.volatile.pc,.int .u32 r.2.volatile.seq,.int .u32 r.2.volatile.index,sv a12 r.2.code c12,.slice a2 n1 c2,.slice a3 n2 c3,sv a13 r.2.inputs c13,.slice a14 n6 c14,iv r.2.steps,iv r.2.state,.int .u32 r.2.exit],Z0 Q6 218 (.slice a2 n1 c2) r.2.met,Z0 (Q2 .u8) 5 (.slice a3 n2 c3) r.2.data,Z0 Z1 403 (.slice a14 n6 c14) r.2.log])∧SlR (Q2 .u32) T w (sv a12 r.2.code c12) r.2.code∧SlR (Q2 .u32) T w (sv a13 r.2.inputs c13) r.2.inputs∧True):=by
  intro r hm
  refine enter Tryz.func51 rfl Tryz.ntmps51 rfl fun J => ?_
  unfold E8 at hm
  refine sq2 (bX (P1 p1) hS ?_)
  intro w1 b1 im1 hS1
  refine pn ?_
  refine sq2 ?_
  obtain⟨z_1,hln1,hm⟩:=Q4 hm
  obtain⟨u1,hx1,hm⟩:=Q4 hm
  obtain⟨of1,he1⟩ : ∃ z:Nat,z=(Y8+0)+(Int.toNat p1.Rs1) * 1:=⟨_,rfl⟩
  obtain⟨u2,hx2,hm⟩:=Q4 hm
  obtain⟨of2,he2⟩ : ∃ z:Nat,z=(Y8+0)+(Int.toNat p1.Rs2) * 1:=⟨_,rfl⟩
  refine rqS hS1 (pu ?_)
  refine qv (fun _ hq=>Q1g rfl rfl (Q8 hln1) hx1 underlying80 sizeOf59 he1) (qv (fun _ hq=>K3 rfl isAgg59 (hq.cell ((Sep.segEl hS1 (q:=2) ⟨rfl,rfl⟩ Z6 Q5 hx1 he1).get (j:=0) rfl))) (pu ?_))
  refine qv (fun _ hq=>Q1g rfl rfl (Q8 hln1) hx2 underlying80 sizeOf59 he2) (qv (fun _ hq=>K3 rfl isAgg59 (hq.cell ((Sep.segEl hS1 (q:=2) ⟨rfl,rfl⟩ Z6 Q5 hx2 he2).get (j:=0) rfl))) (pn ?_))
  intro w2 T1 im2 hS2
  refine Z5s ?_
  refine sq2 (pu ?_)
  refine pv (K3 rfl isAgg59 (hS2.cellB (i:=2) ⟨rfl,rfl⟩ (K9 (k:=32) Z6 (Q8 hln1) Q5 rfl) (j:=0) rfl)) (pu ?_)
  refine nil (Z3 [(0,pt X3 Y8),(3,pt b1 0),(5,.int .u32 u1),(6,.int .u32 u2),(7,.int .u32 (IntKind.wrap .u32 p1.Imm)),(8,.int .u32 (IntKind.wrap .u32 (p0.volatile.pc+4)))] ⟨rfl,rfl,rfl,rfl,rfl,rfl,qZt⟩ fun J => ?_)
  refine F0 hm (fun kk1 a w3 => ∃(T2:_) (x5:Q1) (a6:_) (n4:_) (c6:_) (x4:_) (a7:_) (c7:_) (a8:_) (c8:_),JR (nf 187) g T1 w2 a w3 T2 (kk1 x4 x5=some r) [(0,pt X3 Y8),(8,.int .u32 x4)] [Q3 R,U9 (X4) Z9 x5.volatile.regs [.int .u32 x5.volatile.pc,.int .u32 x5.volatile.seq,.int .u32 x5.volatile.index,sv a7 x5.code c7,.slice a2 n1 c2,.slice a3 n2 c3,sv a8 x5.inputs c8,.slice a6 n4 c6,iv x5.steps,iv x5.state,.int .u32 x5.exit],Z0 Q6 218 (.slice a2 n1 c2) x5.met,Z0 (Q2 .u8) 5 (.slice a3 n2 c3) x5.data,Z0 Z1 403 (.slice a6 n4 c6) x5.log]∧SlR (Q2 .u32) T2 w3 (sv a7 x5.code c7) x5.code∧SlR (Q2 .u32) T2 w3 (sv a8 x5.inputs c8) x5.inputs) (fun kk1 hm => ?_) ?_
  · refine blk (sq2 (cd hm ?_ ?_)) <;> intro hb1 hm
    · refine rsS [0,0,1,0,0,0,0,0,2] [0,1,2,3,4,5,6,7,8] hS2 fun w4 im4 hS3 => ?_
      obtain⟨u3,hx3,hm⟩:=Q4 hm
      obtain⟨of3,he3⟩ : ∃ z:Nat,z=(Y8+0)+(Int.toNat p1.Rd) * 1:=⟨_,rfl⟩
      obtain⟨u4,hx4,hm⟩:=Q4 hm
      obtain rfl:u3=u4:=oI (hx3.symm.trans hx4)
      refine pu ?_
      refine s0 rfl qZt (fun _=>Q1g rfl rfl (Q8 hln1) hx3 underlying80 sizeOf59 he3) rfl ?_
      refine s2W [0] ?_
      refine Q6r (q:=2) (i:=p1.Rd) (j:=0) (u:=u3) (u' := IntKind.wrap .u32 p1.Imm) hS3 ⟨rfl,rfl⟩ Z6 Q5 hx4 he3 rfl rfl rfl sizeOf59 rfl rfl rfl rfl fun w5 im5 hS4 => ?_
      refine pu ?_
      exact je hm (hS4.sel (Q9 1 5) rfl)
    refine sq2 (cd hm ?_ ?_) <;> intro hb2 hm
    · refine rsS [0,0,1,0,0,0,0,1,0,0,0,0,0,0,2] [0,1,2,3,4,5,6,7,8,9,10,11,12,13,14] hS2 fun w6 im6 hS5 => ?_
      obtain⟨u5,hx5,hm⟩:=Q4 hm
      obtain⟨of4,he4⟩ : ∃ z:Nat,z=(Y8+0)+(Int.toNat p1.Rd) * 1:=⟨_,rfl⟩
      obtain⟨u6,hx6,hm⟩:=Q4 hm
      obtain rfl:u5=u6:=oI (hx5.symm.trans hx6)
      refine pu ?_
      refine s1 rfl qZt (K3 rfl isAgg59 (hS5.cellB (i:=2) ⟨rfl,rfl⟩ (K9 (k:=32) Z6 (Q8 hln1) Q5 rfl) (j:=0) rfl)) rfl (pu ?_)
      refine s0 rfl qZt (fun _=>Q1g rfl rfl (Q8 hln1) hx5 underlying80 sizeOf59 he4) rfl ?_
      refine s2W [0,0] ?_
      refine Q6r (q:=2) (i:=p1.Rd) (j:=0) (u:=u5) (u' := IntKind.wrap .u32 (p0.volatile.pc+(IntKind.wrap .u32 p1.Imm))) hS5 ⟨rfl,rfl⟩ Z6 Q5 hx6 he4 rfl rfl rfl sizeOf59 rfl rfl rfl rfl fun w7 im7 hS6 => ?_
      refine pu ?_
      exact je hm (hS6.sel (Q9 1 5) rfl)
    refine sq2 (cd hm ?_ ?_) <;> intro hb3 hm
    · refine rsS [0,0,1,0,0,0,0,0,1,0,0,0,0,0,0,2,0] [0,1,2,3,4,5,6,7,8,9,10,11,12,13,14,15,16] hS2 fun w8 im8 hS7 => ?_
      obtain⟨u7,hx7,hm⟩:=Q4 hm
      obtain⟨of5,he5⟩ : ∃ z:Nat,z=(Y8+0)+(Int.toNat p1.Rd) * 1:=⟨_,rfl⟩
      obtain⟨u8,hx8,hm⟩:=Q4 hm
      obtain rfl:u7=u8:=oI (hx7.symm.trans hx8)
      refine pu ?_
      refine s1 rfl qZt (K3 rfl isAgg59 (hS7.cellB (i:=2) ⟨rfl,rfl⟩ (K9 (k:=32) Z6 (Q8 hln1) Q5 rfl) (j:=0) rfl)) rfl (pu ?_)
      refine s0 rfl qZt (fun _=>Q1g rfl rfl (Q8 hln1) hx7 underlying80 sizeOf59 he5) rfl ?_
      refine s2W [0,0] ?_
      refine Q6r (q:=2) (i:=p1.Rd) (j:=0) (u:=u7) (u' := IntKind.wrap .u32 (p0.volatile.pc+4)) hS7 ⟨rfl,rfl⟩ Z6 Q5 hx8 he5 rfl rfl rfl sizeOf59 rfl rfl rfl rfl fun w9 im9 hS8 => ?_
      refine pu ?_
      exact je hm (hS8.sel (Q9 1 5) rfl)
    refine sq2 (cd hm ?_ ?_) <;> intro hb4 hm
    · refine rsS [0,0,1,0,0,0,0,0,0,0,0,0,2,0] [0,1,2,3,4,5,6,7,8,9,10,11,12,13] hS2 fun w10 im10 hS9 => ?_
      obtain⟨u9,hx9,hm⟩:=Q4 hm
      obtain⟨of6,he6⟩ : ∃ z:Nat,z=(Y8+0)+(Int.toNat p1.Rd) * 1:=⟨_,rfl⟩
      obtain⟨u10,hx10,hm⟩:=Q4 hm
      obtain rfl:u9=u10:=oI (hx9.symm.trans hx10)
      refine pu ?_
      refine s0 rfl qZt (fun _=>Q1g rfl rfl (Q8 hln1) hx9 underlying80 sizeOf59 he6) rfl ?_
      refine s2W [0] ?_
      refine Q6r (q:=2) (i:=p1.Rd) (j:=0) (u:=u9) (u' := IntKind.wrap .u32 (p0.volatile.pc+4)) hS9 ⟨rfl,rfl⟩ Z6 Q5 hx10 he6 rfl rfl rfl sizeOf59 rfl rfl rfl rfl fun w11 im11 hS10 => ?_
      refine pu ?_
      exact je hm (hS10.sel (Q9 1 5) rfl)
    refine sq2 (cd hm ?_ ?_) <;> intro hb5 hm
    · refine sq2 (pu ?_)
      refine cB cf92 hm (Q5n (hS2.bun (Q9 1 5) [] rfl)) ?_
      rintro y1 _ T3 w12 im12 ⟨rfl,hS11,_⟩ hm
      refine nil (Z3 [(0,pt X3 Y8),(7,.int .u32 (IntKind.wrap .u32 p1.Imm)),(8,.int .u32 (IntKind.wrap .u32 (p0.volatile.pc+4))),(121,.bool y1)] ⟨rfl,rfl,rfl,rfl,qZt⟩ fun J => ?_)
      refine cd hm ?_ ?_ <;> intro hb6 hm
      · refine pu ?_
        exact pv (K3 rfl isAgg59 (hS11.cellB (i:=1) ⟨rfl,rfl⟩ (K9 (k:=32) Z6 (Q8 hln1) Q5 rfl) (j:=0) rfl)) (je hm (hS11.sel (Q9 0 5) rfl))
      exact je hm (hS11.sel (Q9 0 5) rfl)
    refine sq2 (cd hm ?_ ?_) <;> intro hb7 hm
    · refine sq2 (pu ?_)
      refine cB cf93 hm (Q2w (hS2.bun [0,1] (Q9 2 4) rfl) Z6 (h1.mono ch) (h2.mono ch)) ?_
      rintro y2 _ T4 w13 im13 ⟨rfl,hS12,_⟩ hm
      refine pu ?_
      refine nil (Z3 [(0,pt X3 Y8),(3,pt b1 0),(8,.int .u32 (IntKind.wrap .u32 (p0.volatile.pc+4))),(9,.int .u32 y2.1),(10,.bool y2.2)] ⟨rfl,rfl,rfl,rfl,rfl,qZt⟩ fun J => ?_)
      refine sq2 (sq2 (cd hm ?_ ?_)) <;> intro hb8 hm
      · exact sq2 (re hm (hS12.sel (Q9 1 5) rfl))
      refine pn ?_
      refine rsS [0,0,1,0,0,0,0,0,2] [0,1,2,3,4,5,6,7,8] hS12 fun w14 im14 hS13 => ?_
      obtain⟨u11,hx13,hm⟩:=Q4 hm
      obtain⟨of7,he7⟩ : ∃ z:Nat,z=(Y8+0)+(Int.toNat p1.Rd) * 1:=⟨_,rfl⟩
      obtain⟨u12,hx14,hm⟩:=Q4 hm
      obtain rfl:u11=u12:=oI (hx13.symm.trans hx14)
      refine pu ?_
      refine s0 rfl qZt (fun _=>Q1g rfl rfl (Q8 hln1) hx13 underlying80 sizeOf59 he7) rfl ?_
      refine s2W [0] ?_
      refine Q6r (q:=2) (i:=p1.Rd) (j:=0) (u:=u11) (u' := y2.1) hS13 ⟨rfl,rfl⟩ Z6 Q5 hx14 he7 rfl rfl rfl sizeOf59 rfl rfl rfl rfl fun w15 im15 hS14 => ?_
      refine pu ?_
      exact je hm (hS14.sel (Q9 1 5) rfl)
    refine sq2 (pu ?_)
    refine nil (Z3 [(0,pt X3 Y8),(3,pt b1 0),(5,.int .u32 u1),(6,.int .u32 u2),(7,.int .u32 (IntKind.wrap .u32 p1.Imm)),(8,.int .u32 (IntKind.wrap .u32 (p0.volatile.pc+4))),(153,.bool (decide (p1.Op≤18)))] ⟨rfl,rfl,rfl,rfl,rfl,rfl,rfl,qZt⟩ fun J => ?_)
    refine cd hm ?_ ?_ <;> intro hb9 hm
    · refine sq2 (pu ?_)
      refine cB cf94 hm (Q2c (hS2.bun [1] (Q9 2 4) rfl) Z6 (h1.mono ch) (h2.mono ch)) ?_
      rintro y3 _ T5 w16 im16 ⟨a9,c9,a10,c10,a11,n5,c11,rfl,hS15,h5,h6,_⟩ hm
      refine cd hm ?_ ?_ <;> intro hb10 hm
      · exact sq2 (re hm (hS15.sel (Q9 0 5) rfl))
      exact je hm (hS15.sel (Q9 0 5) rfl)
    refine sq2 (cd hm ?_ ?_) <;> intro hb11 hm
    · refine rsS [0,0,1,0,1,0,0,2,0,0,0,0,2] [0,1,2,3,4,5,6,8,9,10,7,11,12] hS2 fun w17 im17 hS16 => ?_
      obtain⟨y4,hx16,hm⟩:=Q4 hm
      refine sS [(2,iv p1.Rd)] cf95 (Q0l (hS16.bun (Q9 1 5 ++ [0]) [] rfl) _ hx16) ?_
      rintro _ T6 w18 im18 ⟨rfl,hS17,_⟩
      refine pu ?_
      obtain⟨u13,hx17,hm⟩:=Q4 hm
      obtain⟨of8,he8⟩ : ∃ z:Nat,z=(Y8+0)+(Int.toNat p1.Rd) * 1:=⟨_,rfl⟩
      obtain⟨u14,hx18,hm⟩:=Q4 hm
      obtain rfl:u13=u14:=oI (hx17.symm.trans hx18)
      refine s0 rfl qZt (fun _=>Q1g rfl rfl (Q8 hln1) hx17 underlying80 sizeOf59 he8) rfl (?_)
      refine s2W [0] ?_
      refine Q6r (q:=1) (i:=p1.Rd) (j:=0) (u:=u13) (u' := y4) hS17 ⟨rfl,rfl⟩ Z6 Q5 hx18 he8 rfl rfl rfl sizeOf59 rfl rfl rfl rfl fun w19 im19 hS18 => ?_
      refine pu ?_
      exact je hm (hS18.sel (Q9 0 5) rfl)
    refine rsS [0,0,1,0,1,0,0,2,0,0,0,0,2] [0,1,2,3,4,5,6,8,9,10,7,11,12] hS2 fun w20 im20 hS19 => ?_
    obtain⟨y5,hx19,hm⟩:=Q4 hm
    refine sS [(2,iv p1.Rd)] cf95 (Q0l (hS19.bun (Q9 1 5 ++ [0]) [] rfl) _ hx19) ?_
    rintro _ T7 w21 im21 ⟨rfl,hS20,_⟩
    refine pu ?_
    obtain⟨u15,hx20,hm⟩:=Q4 hm
    obtain⟨of9,he9⟩ : ∃ z:Nat,z=(Y8+0)+(Int.toNat p1.Rd) * 1:=⟨_,rfl⟩
    obtain⟨u16,hx21,hm⟩:=Q4 hm
    obtain rfl:u15=u16:=oI (hx20.symm.trans hx21)
    refine s0 rfl qZt (fun _=>Q1g rfl rfl (Q8 hln1) hx20 underlying80 sizeOf59 he9) rfl (?_)
    refine s2W [0] ?_
    refine Q6r (q:=1) (i:=p1.Rd) (j:=0) (u:=u15) (u' := y5) hS20 ⟨rfl,rfl⟩ Z6 Q5 hx21 he9 rfl rfl rfl sizeOf59 rfl rfl rfl rfl fun w22 im22 hS21 => ?_
    refine pu ?_
    exact je hm (hS21.sel (Q9 0 5) rfl)
  rintro _ w3 ⟨T2,x5,a6,n4,c6,x4,a7,c7,a8,c8,⟨J,hm,rfl,hS22,im3⟩,h3,h4⟩
  refine sq2 ?_
  obtain⟨z_2,hln2,hm⟩:=Q4 hm
  refine pu ?_
  refine wl rfl (stB (q:=1) (j:=0) hS22 ⟨rfl,rfl⟩ (K9 (k:=32) Z6 (Q8 hln2) Q5 rfl) rfl rfl rfl sizeOf59 rfl rfl rfl fun w23 im23 hS23 => ?_)
  refine pn ?_
  exact sq2 (re hm (hS23.sel (Q9 0 5) rfl))

theorem Q2x {p0:Q1} {X3 Y8:Nat} {X4:List Value→Z4} {a1 c1 a2 n1 c2 a3 n2 c3 a4 c4 a5 n3 c5} (hS:Sep g T0 w0 [Q3 R,U9 (X4) Z9 p0.volatile.regs [.int .u32 p0.volatile.pc,.int .u32 p0.volatile.seq,.int .u32 p0.volatile.index,sv a1 p0.code c1,.slice a2 n1 c2,.slice a3 n2 c3,sv a4 p0.inputs c4,.slice a5 n3 c5,iv p0.steps,iv p0.state,.int .u32 p0.exit],Z0 Q6 218 (.slice a2 n1 c2) p0.met,Z0 (Q2 .u8) 5 (.slice a3 n2 c3) p0.data,Z0 Z1 403 (.slice a5 n3 c5) p0.log]) (Z6:Ln X3 Y8 X4) (h1:SlR (Q2 .u32) T0 w0 (sv a1 p0.code c1) p0.code) (h2:SlR (Q2 .u32) T0 w0 (sv a4 p0.inputs c4) p0.inputs) : ∀ r,K4 p0=some r →
    Calls Tryz.prog 28 #[pt X3 Y8] w0 (Y4 T0 w0 fun T w v => ∃ a11 c11 a12 c12 a13 n5 c13,v=iv r.1∧Sep g T w (R ++ [U9 (X4) Z9 r.2.volatile.regs [.int .u32 r.2.volatile.pc,.int .u32 r.2.volatile.seq,.int .u32 r.2.volatile.index,sv a11 r.2.code c11,.slice a2 n1 c2,.slice a3 n2 c3,sv a12 r.2.inputs c12,.slice a13 n5 c13,iv r.2.steps,iv r.2.state,.int .u32 r.2.exit],Z0 Q6 218 (.slice a2 n1 c2) r.2.met,Z0 (Q2 .u8) 5 (.slice a3 n2 c3) r.2.data,Z0 Z1 403 (.slice a13 n5 c13) r.2.log])∧SlR (Q2 .u32) T w (sv a11 r.2.code c11) r.2.code∧SlR (Q2 .u32) T w (sv a12 r.2.inputs c12) r.2.inputs∧True):=by
  intro r hm
  refine enter Tryz.func28 rfl Tryz.ntmps28 rfl fun J => ?_
  unfold K4 at hm
  refine sq2 (pn ?_)
  refine sq2 (sq2 ?_)
  obtain⟨z_1,hln1,hm⟩:=Q4 hm
  refine pu ?_
  refine pv (Z7o rfl rfl rfl underlying49) (pu ?_)
  refine pv (K3 rfl isAgg3 (hS.cellB (i:=1) ⟨rfl,rfl⟩ (K9 (k:=32) Z6 (Q8 hln1) Q5 rfl) (j:=9) rfl)) (cd hm ?_ ?_) <;> intro hb1 hm
  · refine sq2 (pu ?_)
    refine cB cf25 hm (C7 (hS.bun [0] (Q9 1 4) rfl) Z6 h1 h2) ?_
    rintro y1 _ T1 w1 im1 ⟨rfl,hS1,_⟩ hm
    exact re hm (hS1.sel (Q9 0 5) rfl)
  refine pn ?_
  refine sq2 (pu ?_)
  refine cB cf50 hm (Q2d (hS.bun [0] (Q9 1 4) rfl) Z6 h1 h2) ?_
  rintro y2 _ T2 w2 im2 ⟨a6,c6,a7,c7,rfl,hS2,h3,h4,_⟩ hm
  refine aL [iv 0,iv 0,iv 0,iv 0,iv 0] hS2 ?_
  intro w3 b1 im3 hS3
  refine sT 0 hS3 ?_
  intro w4 im4 hS4
  refine pn ?_
  refine sq2 (sq2 (pu ?_))
  rcases bc hm with ⟨hb2,hm⟩ | ⟨hb2,hm⟩
  · refine pn ?_
    refine cnd (b:=true) rfl (fun _ => ?_) (fun h=>nomatch h)
    refine sq2 ?_
    obtain⟨z_4,hln4,hm⟩:=Q4 hm
    refine pu ?_
    refine wl rfl (stB (q:=2) (j:=9) hS4 ⟨rfl,rfl⟩ (K9 (k:=32) Z6 (Q8 hln4) Q5 rfl) rfl rfl rfl sizeOf3 rfl rfl rfl fun w9 im9 hS9 => ?_)
    refine nil (Z3 [(0,pt X3 Y8)] ⟨rfl,qZt⟩ fun J => ?_)
    refine sq2 (pu ?_)
    exact pv (K3 rfl isAgg3 (hS9.cellB (i:=2) ⟨rfl,rfl⟩ (K9 (k:=32) Z6 (Q8 hln4) Q5 rfl) (j:=9) rfl)) (re hm (hS9.sel (Q9 1 5) rfl))
  refine pu ?_
  refine cB cf51 hm (Q3y (hS4.bun [1] (Q9 2 4) rfl) Z6 (h3.mono ch) (h4.mono ch)) ?_
  rintro y3 _ T3 w5 im5 ⟨a8,c8,a9,c9,a10,n4,c10,rfl,hS5,h5,h6,_⟩ hm
  refine cd hm ?_ ?_ <;> intro hb3 hm
  · refine sq2 ?_
    obtain⟨z_2,hln2,hm⟩:=Q4 hm
    refine pu ?_
    refine wl rfl (stB (q:=1) (j:=9) hS5 ⟨rfl,rfl⟩ (K9 (k:=32) Z6 (Q8 hln2) Q5 rfl) rfl rfl rfl sizeOf3 rfl rfl rfl fun w6 im6 hS6 => ?_)
    refine nil (Z3 [(0,pt X3 Y8)] ⟨rfl,qZt⟩ fun J => ?_)
    refine sq2 (pu ?_)
    exact pv (K3 rfl isAgg3 (hS6.cellB (i:=1) ⟨rfl,rfl⟩ (K9 (k:=32) Z6 (Q8 hln2) Q5 rfl) (j:=9) rfl)) (re hm (hS6.sel (Q9 0 5) rfl))
  refine skp (Z3 [(0,pt X3 Y8)] ⟨rfl,qZt⟩ fun J => ?_)
  refine sq2 ?_
  obtain⟨z_3,hln3,hm⟩:=Q4 hm
  obtain⟨u1,hx4,hm⟩:=Q4 hm
  obtain⟨of1,he1⟩ : ∃ z:Nat,z=(Y8+0)+(Int.toNat 0) * 1:=⟨_,rfl⟩
  obtain⟨u2,hx5,hm⟩:=Q4 hm
  obtain rfl:u1=u2:=oI (hx4.symm.trans hx5)
  refine pu ?_
  refine pv (Q1g rfl rfl (Q8 hln3) hx4 underlying80 sizeOf59 he1) (wl rfl (Q6r (q:=1) (i:=0) (j:=0) (u:=u1) (u' := 0) hS5 ⟨rfl,rfl⟩ Z6 Q5 hx5 he1 rfl rfl rfl sizeOf59 rfl rfl rfl rfl fun w7 im7 hS7 => ?_))
  refine pn ?_
  refine sq2 (pu ?_)
  refine pv (K3 rfl isAgg3 (hS7.cellB (i:=1) ⟨rfl,rfl⟩ (K9 (k:=32) Z6 (Z6h (Q8 hln3)) Q5 rfl) (j:=8) rfl)) (pu ?_)
  refine wl rfl (stB (q:=1) (j:=8) hS7 ⟨rfl,rfl⟩ (K9 (k:=32) Z6 (Z6h (Q8 hln3)) Q5 rfl) rfl rfl rfl sizeOf3 rfl rfl rfl fun w8 im8 hS8 => ?_)
  refine pn ?_
  refine sq2 (pu ?_)
  exact pv (K3 rfl isAgg3 (hS8.cellB (i:=1) ⟨rfl,rfl⟩ (K9 (k:=32) Z6 (Z6h (Q8 hln3)) Q5 rfl) (j:=9) rfl)) (re hm (hS8.sel (Q9 0 5) rfl))

theorem Q7q {σ ε : Type} {p0:Int × σ → Int→Option (Lp (Int × σ) ε)} {p1 : σ} {U_p0:Lp (Int × σ) ε → Z4} {l_p0} {p2:Q1} {Z3e Z1y:Nat} {H_p2:List Value→Z4} {b1 oo1} {H1:List Value→Z4} {a1 c1 a2 n1 c2 a3 n2 c3 a4 c4 a5 n3 c5 p3} {Z3d Z1x:Nat} {H_p3:List Value→Z4} {p4:List Int} {Q5o Q5k:Nat} {Q8k:List Value→Z4} {a6 c6 p5} {Z3c Z1w:Nat} {H_p5:List Value→Z4} {b2 oo2} {H2 : σ → List Value→Z4} {p6:X8} {Z3b Z1v:Nat} {H_p6:List Value→Z4} {a7 c7 a8 c8} (hS:Sep g T0 w0 [Q3 R,H_p2 [pt b1 oo1],U9 (H1) Z9 p2.volatile.regs [.int .u32 p2.volatile.pc,.int .u32 p2.volatile.seq,.int .u32 p2.volatile.index,sv a1 p2.code c1,.slice a2 n1 c2,.slice a3 n2 c3,sv a4 p2.inputs c4,.slice a5 n3 c5,iv p2.steps,iv p2.state,.int .u32 p2.exit],Z0 Q6 218 (.slice a2 n1 c2) p2.met,Z0 (Q2 .u8) 5 (.slice a3 n2 c3) p2.data,Z0 Z1 403 (.slice a5 n3 c5) p2.log,H_p3 [iv p3],Q8k [sv a6 p4 c6],H_p5 [pt b2 oo2],(H2 p1) [iv p5],H_p6 [sv a7 p6.Code c7,sv a8 p6.Data c8,iv p6.Limit,iv p6.Notes]]) (hY_p0 : ∀(T2:TP) (w2:World) (x:Int) (s : σ) (q0:Int) (z:Lp (Int × σ) ε) (R2:Z4),Im T0 w0 T2 w2→Sep g T2 w2 [R2,H2 s [iv x]]→p0 (x,s) q0=some z→Y0l Tryz.prog l_p0 #[iv q0] T2 w2 fun T3 w3 b=>b=z.isGo∧Sep g T3 w3 [R2,Uy H2 U_p0 z]) (hL_p2:Ln Z3e Z1y H_p2) (hL1:Ln b1 oo1 H1) (h1:SlR (Q2 .u32) T0 w0 (sv a1 p2.code c1) p2.code) (h2:SlR (Q2 .u32) T0 w0 (sv a4 p2.inputs c4) p2.inputs) (hL_p3:Ln Z3d Z1x H_p3) (hL_p4:Ln Q5o Q5k Q8k) (h3:SlR (Q2 .i64) T0 w0 (sv a6 p4 c6) p4) (hL_p5:Ln Z3c Z1w H_p5) (hL2 : ∀ s : σ,Ln b2 oo2 (H2 s)) (hL_p6:Ln Z3b Z1v H_p6) (h4:SlR (Q2 .u32) T0 w0 (sv a7 p6.Code c7) p6.Code) (h5:SlR (Q2 .u8) T0 w0 (sv a8 p6.Data c8) p6.Data) : ∀ r,I3 p0 p1 p2 p3 p4 p5 p6=some r →
    Calls Tryz.prog 24 #[.func (.yield l_p0) #[] #[],pt Z3e Z1y,pt Z3d Z1x,pt Q5o Q5k,pt Z3c Z1w,pt Z3b Z1v] w0 (Y4 T0 w0 fun T w v => ∃ a25 c25 a26 c26 a27 n6 c27 a28 c28,v = .tuple #[]∧Sep g T w (R ++ [H_p2 [pt b1 oo1],U9 (H1) Z9 r.2.1.volatile.regs [.int .u32 r.2.1.volatile.pc,.int .u32 r.2.1.volatile.seq,.int .u32 r.2.1.volatile.index,sv a25 r.2.1.code c25,.slice a2 n1 c2,.slice a3 n2 c3,sv a26 r.2.1.inputs c26,.slice a27 n6 c27,iv r.2.1.steps,iv r.2.1.state,.int .u32 r.2.1.exit],Z0 Q6 218 (.slice a2 n1 c2) r.2.1.met,Z0 (Q2 .u8) 5 (.slice a3 n2 c3) r.2.1.data,Z0 Z1 403 (.slice a27 n6 c27) r.2.1.log,H_p3 [iv p3],Q8k [sv a28 r.2.2 c28],H_p5 [pt b2 oo2],Uy H2 U_p0 r.1,H_p6 [sv a7 p6.Code c7,sv a8 p6.Data c8,iv p6.Limit,iv p6.Notes]])∧SlR (Q2 .u32) T w (sv a25 r.2.1.code c25) r.2.1.code∧SlR (Q2 .u32) T w (sv a26 r.2.1.inputs c26) r.2.1.inputs∧SlR (Q2 .i64) T w (sv a28 r.2.2 c28) r.2.2∧True):=by
  intro r hm
  refine enter Tryz.func24 rfl Tryz.ntmps24 rfl fun J => ?_
  unfold I3 at hm
  refine lpJ hm (fun bd1 o1 m a w1 => ∃(T1:_) (x7:List Int) (x6:Q1) (x5 : σ) (x4:_) (a9:_) (n4:_) (c9:_) (a10:_) (c10:_) (a11:_) (c11:_) (a12:_) (c12:_),JR (nf 75) g T0 w0 a w1 T1 (Y9 bd1 m (x4,x5,x6,x7)=some o1) [(0,.func (.yield l_p0) #[] #[]),(1,pt Z3e Z1y),(2,pt Z3d Z1x),(3,pt Q5o Q5k),(4,pt Z3c Z1w),(5,pt Z3b Z1v)] [Q3 R,(H2 x5) [iv x4],H_p2 [pt b1 oo1],U9 (H1) Z9 x6.volatile.regs [.int .u32 x6.volatile.pc,.int .u32 x6.volatile.seq,.int .u32 x6.volatile.index,sv a10 x6.code c10,.slice a2 n1 c2,.slice a3 n2 c3,sv a11 x6.inputs c11,.slice a9 n4 c9,iv x6.steps,iv x6.state,.int .u32 x6.exit],Z0 Q6 218 (.slice a2 n1 c2) x6.met,Z0 (Q2 .u8) 5 (.slice a3 n2 c3) x6.data,Z0 Z1 403 (.slice a9 n4 c9) x6.log,H_p3 [iv p3],Q8k [sv a12 x7 c12],H_p5 [pt b2 oo2],H_p6 [sv a7 p6.Code c7,sv a8 p6.Data c8,iv p6.Limit,iv p6.Notes]]∧SlR (Q2 .u32) T1 w1 (sv a10 x6.code c10) x6.code∧SlR (Q2 .u32) T1 w1 (sv a11 x6.inputs c11) x6.inputs∧SlR (Q2 .i64) T1 w1 (sv a12 x7 c12) x7) (fun _ _ h=>je h (hS.sel ([0,9]++Q9 1 8 ++ [10]) rfl)) ?_
  rintro bd1 hbd1 o1 hq1 _ _ w1 ⟨T1,x7,x6,x5,x4,a9,n4,c9,a10,c10,a11,c11,a12,c12,⟨J,ho1,rfl,hS1,im1⟩,h6,h7,h8⟩
  obtain⟨m1,z1,rfl,hm,hn1⟩:=lrE ho1 hbd1
  refine sq2 (sq2 (rsS [1,2,0,0,1,2,1,0,0] [0,1,2,3,4,6,5,7,8] hS1 fun w2 im2 hS2 => ?_))
  obtain⟨y1,hx1,hm⟩:=Q4 hm
  refine sS [] cf25 (C7 (hS2.bun [0,1,2,7,8,9,10] (Q9 3 4) rfl) hL1 (h6.mono im2) (h7.mono im2) _ hx1) ?_
  rintro _ T2 w3 im3 ⟨rfl,hS3,_⟩
  refine pu ?_
  rcases bc hm with ⟨hb1,hm⟩ | ⟨hb1,hm⟩
  · obtain⟨y2,hx2,hm⟩:=Q4 hm
    refine sS [(6,iv p3)] cf13 (U0 (hS3.bun (Q9 0 7) (Q9 7 4) rfl) hL1 (h6.mono ch) (h7.mono ch) _ hx2) ?_
    rintro _ T3 w4 im4 ⟨rfl,hS4,_⟩
    refine cd hm ?_ ?_ <;> intro hb2 hm
    · refine pn ?_
      refine blk (F0 hm (fun kk1 a w5 => ∃(T4:_) (x8:List Int) (a13:_) (c13:_),JR (nf 75) g T3 w4 a w5 T4 (kk1 x8=some z1) [(0,.func (.yield l_p0) #[] #[]),(1,pt Z3e Z1y),(2,pt Z3d Z1x),(3,pt Q5o Q5k),(4,pt Z3c Z1w),(5,pt Z3b Z1v)] [Q3 R,(H2 x5) [iv x4],H_p2 [pt b1 oo1],U9 (H1) Z9 x6.volatile.regs [.int .u32 x6.volatile.pc,.int .u32 x6.volatile.seq,.int .u32 x6.volatile.index,sv a10 x6.code c10,.slice a2 n1 c2,.slice a3 n2 c3,sv a11 x6.inputs c11,.slice a9 n4 c9,iv x6.steps,iv x6.state,.int .u32 x6.exit],Z0 Q6 218 (.slice a2 n1 c2) x6.met,Z0 (Q2 .u8) 5 (.slice a3 n2 c3) x6.data,Z0 Z1 403 (.slice a9 n4 c9) x6.log,H_p3 [iv p3],Q8k [sv a13 x8 c13],H_p5 [pt b2 oo2],H_p6 [sv a7 p6.Code c7,sv a8 p6.Data c8,iv p6.Limit,iv p6.Notes]]∧SlR (Q2 .i64) T4 w5 (sv a13 x8 c13) x8) (fun kk1 hm => ?_) ?_)
      · refine lpJ hm (fun bd2 o2 m a w6 => ∃(T5:_) (x9:List Int) (a14:_) (c14:_),JR (nf 75) g T3 w4 a w6 T5 (Y9 bd2 m x9=some o2) [(0,.func (.yield l_p0) #[] #[]),(1,pt Z3e Z1y),(2,pt Z3d Z1x),(3,pt Q5o Q5k),(4,pt Z3c Z1w),(5,pt Z3b Z1v)] [Q3 R,(H2 x5) [iv x4],H_p2 [pt b1 oo1],U9 (H1) Z9 x6.volatile.regs [.int .u32 x6.volatile.pc,.int .u32 x6.volatile.seq,.int .u32 x6.volatile.index,sv a10 x6.code c10,.slice a2 n1 c2,.slice a3 n2 c3,sv a11 x6.inputs c11,.slice a9 n4 c9,iv x6.steps,iv x6.state,.int .u32 x6.exit],Z0 Q6 218 (.slice a2 n1 c2) x6.met,Z0 (Q2 .u8) 5 (.slice a3 n2 c3) x6.data,Z0 Z1 403 (.slice a9 n4 c9) x6.log,H_p3 [iv p3],Q8k [sv a14 x9 c14],H_p5 [pt b2 oo2],H_p6 [sv a7 p6.Code c7,sv a8 p6.Data c8,iv p6.Limit,iv p6.Notes]]∧SlR (Q2 .i64) T5 w6 (sv a14 x9 c14) x9) (fun _ _ h=>je h (hS4.sel [0,1,2,7,8,9,10,3,4,5,6] rfl)) ?_
        rintro bd2 hbd2 o2 hq2 _ _ w6 ⟨T5,x9,a14,c14,⟨J,ho2,rfl,hS5,im6⟩,h10⟩
        obtain⟨m2,z2,rfl,hm,hn2⟩:=lrE ho2 hbd2
        refine sq2 (sq2 (rsS [1,0,0,0,1,0,1,1,2,0,0] [0,1,2,3,4,5,6,7,8,9,10] hS5 fun w7 im7 hS6 => ?_))
        refine pu ?_
        rcases bc hm with ⟨hb3,hm⟩ | ⟨hb3,hm⟩
        · obtain⟨u1,hx3,hm⟩:=Q4 hm
          obtain⟨y3,hx4,hm⟩:=Q4 hm
          refine sS [(6,iv u1),(4,sv a14 x9 c14)] cf13 (U0 (hS6.bun [0,1,2,7,8,9,10] (Q9 3 4) rfl) hL1 (h6.mono ch) (h7.mono ch) _ hx4) ?_
          rintro _ T6 w8 im8 ⟨rfl,hS7,_⟩
          refine cd hm ?_ ?_ <;> intro hb4 hm
          · refine pn ?_
            refine blk ?_
            obtain⟨u2,hx5,hm⟩:=Q4 hm
            obtain⟨a15,c15,he1,h11⟩:=(h10.mono (iT im7 im8)).part hx5
            refine pu ?_
            refine pv (r_slR rfl (h10.mono ch) ⟨_,rfl⟩ rfl hx5 underlying26 sizeOf3 rfl he1) (sB 4 0 hL_p4 hS7 ?_)
            intro w9 im9 hS8
            exact lg hm hn2 (hS8.sel [0,1,2,7,8,9,10,3,4,5,6] rfl)
          have hm:=Q3s hm hn2 hq2
          exact je hm (hS7.sel [0,1,2,7,8,9,10,3,4,5,6] rfl)
        refine pn ?_
        refine cnd (b:=false) rfl (fun h=>nomatch h) (fun _ => ?_)
        have hm:=Q3s hm hn2 hq2
        exact je hm (hS6.sel (Q9 0 11) rfl)
      rintro _ w5 ⟨T4,x8,a13,c13,⟨J,hm,rfl,hS9,im5⟩,h9⟩
      refine F0 hm (fun kk2 a w10 => ∃(T7:_) (x16:List Int) (x15:Q1) (x14 : σ) (x13:_) (a16:_) (c16:_) (a17:_) (c17:_) (a18:_) (c18:_),JR (nf 75) g T4 w5 a w10 T7 (kk2 x13 x14 x15 x16=some z1) [(0,.func (.yield l_p0) #[] #[]),(1,pt Z3e Z1y),(2,pt Z3d Z1x),(3,pt Q5o Q5k),(4,pt Z3c Z1w),(5,pt Z3b Z1v)] [Q3 R,(H2 x14) [iv x13],H_p2 [pt b1 oo1],U9 (H1) Z9 x15.volatile.regs [.int .u32 x15.volatile.pc,.int .u32 x15.volatile.seq,.int .u32 x15.volatile.index,sv a16 x15.code c16,.slice a2 n1 c2,.slice a3 n2 c3,sv a17 x15.inputs c17,.slice a9 n4 c9,iv x15.steps,iv x15.state,.int .u32 x15.exit],Z0 Q6 218 (.slice a2 n1 c2) x15.met,Z0 (Q2 .u8) 5 (.slice a3 n2 c3) x15.data,Z0 Z1 403 (.slice a9 n4 c9) x15.log,H_p3 [iv p3],Q8k [sv a18 x16 c18],H_p5 [pt b2 oo2],H_p6 [sv a7 p6.Code c7,sv a8 p6.Data c8,iv p6.Limit,iv p6.Notes]]∧SlR (Q2 .u32) T7 w10 (sv a16 x15.code c16) x15.code∧SlR (Q2 .u32) T7 w10 (sv a17 x15.inputs c17) x15.inputs∧SlR (Q2 .i64) T7 w10 (sv a18 x16 c18) x16) (fun kk2 hm => ?_) ?_
      · refine F0 hm (fun kk3 a w11 => ∃ T8 x17,JR (nf 75) g T4 w5 a w11 T8 (kk3 x17=some z1) [(0,.func (.yield l_p0) #[] #[]),(1,pt Z3e Z1y),(2,pt Z3d Z1x),(3,pt Q5o Q5k),(4,pt Z3c Z1w),(5,pt Z3b Z1v),(42,.bool x17)] [Q3 R,(H2 x5) [iv x4],H_p2 [pt b1 oo1],U9 (H1) Z9 x6.volatile.regs [.int .u32 x6.volatile.pc,.int .u32 x6.volatile.seq,.int .u32 x6.volatile.index,sv a10 x6.code c10,.slice a2 n1 c2,.slice a3 n2 c3,sv a11 x6.inputs c11,.slice a9 n4 c9,iv x6.steps,iv x6.state,.int .u32 x6.exit],Z0 Q6 218 (.slice a2 n1 c2) x6.met,Z0 (Q2 .u8) 5 (.slice a3 n2 c3) x6.data,Z0 Z1 403 (.slice a9 n4 c9) x6.log,H_p3 [iv p3],Q8k [sv a13 x8 c13],H_p5 [pt b2 oo2],H_p6 [sv a7 p6.Code c7,sv a8 p6.Data c8,iv p6.Limit,iv p6.Notes]]) (fun kk3 hm => ?_) ?_
        · refine rsS [1,0,0,0,1,0,1,1,2,0,0] [0,1,2,3,4,5,6,7,8,9,10] hS9 fun w12 im12 hS10 => ?_
          refine pu ?_
          rcases bc hm with ⟨hb6,hm⟩ | ⟨hb6,hm⟩
          · obtain⟨u3,hx6,hm⟩:=Q4 hm
            obtain⟨y4,hx7,hm⟩:=Q4 hm
            refine sS [(6,iv u3),(4,sv a13 x8 c13)] cf13 (U0 (hS10.bun [0,1,2,7,8,9,10] (Q9 3 4) rfl) hL1 (h6.mono ch) (h7.mono ch) _ hx7) ?_
            rintro _ T9 w13 im13 ⟨rfl,hS11,_⟩
            refine pu ?_
            exact je hm (hS11.sel [0,1,2,7,8,9,10,3,4,5,6] rfl)
          exact je hm (hS10.sel (Q9 0 11) rfl)
        rintro _ w11 ⟨T8,x17,J,hm,rfl,hS12,im11⟩
        refine cd hm ?_ ?_ <;> intro hb7 hm
        · refine sq2 (pu ?_)
          refine cB cf26 hm (Q2y (hS12.bun [0,1,2,7,8,9,10] (Q9 3 4) rfl) hL1 (h6.mono ch) (h7.mono ch)) ?_
          rintro y5 _ T10 w14 im14 ⟨a19,c19,a20,c20,rfl,hS13,h15,h16,_⟩ hm
          refine pn ?_
          refine sq2 ?_
          obtain⟨u4,hx9,hm⟩:=Q4 hm
          obtain⟨a21,c21,he2,h17⟩:=(h9.mono (iT im11 im14)).part hx9
          refine pu ?_
          refine pv (r_slR rfl (h9.mono ch) ⟨_,rfl⟩ rfl hx9 underlying26 sizeOf3 rfl he2) (sB 4 0 hL_p4 hS13 ?_)
          intro w15 im15 hS14
          refine pn ?_
          refine pv (K3 rfl isAgg3 (hS14.cellB (i:=1) ⟨rfl,rfl⟩ (hL2 x5) (j:=0) rfl)) (pu ?_)
          refine wl rfl (stB (q:=1) (j:=0) hS14 ⟨rfl,rfl⟩ (hL2 x5) rfl rfl rfl sizeOf3 rfl rfl rfl fun w16 im16 hS15 => ?_)
          exact je hm (hS15.sel [0,1,2,7,8,9,10,3,4,5,6] rfl)
        exact je hm (hS12.sel (Q9 0 11) rfl)
      rintro _ w10 ⟨T7,x16,x15,x14,x13,a16,c16,a17,c17,a18,c18,⟨J,hm,rfl,hS16,im10⟩,h12,h13,h14⟩
      refine sq2 (pu ?_)
      refine cB cf27 hm (Q9l (hS16.bun [0,1,2,7,8,9,10] (Q9 3 4) rfl) (h4.mono ch) (h5.mono ch) hL1 h12 h13) ?_
      rintro y6 _ T11 w17 im17 ⟨rfl,hS17,_⟩ hm
      refine pn ?_
      refine sq2 (pu ?_)
      refine cB cf13 hm (U0 (hS17.bun (Q9 0 7) (Q9 7 4) rfl) hL1 (h12.mono im17) (h13.mono im17)) ?_
      rintro y7 _ T12 w18 im18 ⟨rfl,hS18,_⟩ hm
      refine pn ?_
      refine sq2 (pu ?_)
      refine cB cf28 hm (Q2x (hS18.bun (Q9 0 7) (Q9 7 4) rfl) hL1 (h12.mono ch) (h13.mono ch)) ?_
      rintro y8 _ T13 w19 im19 ⟨a22,c22,a23,c23,a24,n5,c24,rfl,hS19,h18,h19,_⟩ hm
      refine pn ?_
      refine sq2 (ry [0,0,1,2,0,0,0,0,0,0,2,0,0] [0,1,2,3,4,5,6,7,8,9,10,11,12] rfl ?_)
      refine pu ?_
      rcases bc hm with ⟨hb8,hm⟩ | ⟨hb8,hm⟩
      · obtain⟨y9,hx13,hm⟩:=Q4 hm
        refine sS [] cf13 (U0 (hS19.bun (Q9 0 7) (Q9 7 4) rfl) hL1 h18 h19 _ hx13) ?_
        rintro _ T14 w20 im20 ⟨rfl,hS20,_⟩
        refine pu ?_
        rcases bc hm with ⟨hb9,hm⟩ | ⟨hb9,hm⟩
        · obtain⟨z1,hx14,hm⟩:=Q4 hm
          refine pu ?_
          refine s2I [] rfl ⟨_,rfl,congrArg Value.bool hb9⟩ rfl (by kernel_rfl) (yS rfl rfl (hY_p0 _ _ _ _ _ _ _ ch (hS20.bun ([0]++Q9 2 9) [1] rfl) hx14) fun b3 T15 w21 im21 rv10 => ?_)
          obtain⟨hb10,hS21⟩:=rv10
          have hS21:=hS21.unb
          refine pu ?_
          rcases go_or z1 with ⟨sg1,rfl⟩ | hz1
          · have hb10:b3=true:=hb10
            subst hb10
            have hm:=Y1e hm
            refine pu ?_
            refine se (Z3 [(0,.func (.yield l_p0) #[] #[]),(1,pt Z3e Z1y),(2,pt Z3d Z1x),(3,pt Q5o Q5k),(4,pt Z3c Z1w),(5,pt Z3b Z1v),(74,.bool false)] ⟨rfl,rfl,rfl,rfl,rfl,rfl,rfl,qZt⟩ fun J => ?_)
            refine cnd (b:=false) rfl (fun h=>nomatch h) (fun _ => ?_)
            exact lg hm hn1 (hS21.sel [0,10,1,6,7,8,9,2,3,4,5] rfl)
          have hb10:b3=false:=hb10.trans hz1
          subst hb10
          have hm:=Y1d hz1 hm
          refine pu ?_
          refine se (Z3 [(0,.func (.yield l_p0) #[] #[]),(1,pt Z3e Z1y),(2,pt Z3d Z1x),(3,pt Q5o Q5k),(4,pt Z3c Z1w),(5,pt Z3b Z1v),(74,.bool true)] ⟨rfl,rfl,rfl,rfl,rfl,rfl,rfl,qZt⟩ fun J => ?_)
          refine cnd (b:=true) rfl (fun _ => ?_) (fun h=>nomatch h)
          have hm:=retE hm hn1 hq1
          exact re hm (hS21.sel [0,1,6,7,8,9,2,3,4,10,5] rfl)
        refine pu ?_
        refine se (Z3 [(0,.func (.yield l_p0) #[] #[]),(1,pt Z3e Z1y),(2,pt Z3d Z1x),(3,pt Q5o Q5k),(4,pt Z3c Z1w),(5,pt Z3b Z1v),(74,.bool false)] ⟨rfl,rfl,rfl,rfl,rfl,rfl,rfl,qZt⟩ fun J => ?_)
        refine cnd (b:=false) rfl (fun h=>nomatch h) (fun _ => ?_)
        exact lg hm hn1 (hS20.sel [0,1,2,7,8,9,10,3,4,5,6] rfl)
      refine pu ?_
      refine se (Z3 [(0,.func (.yield l_p0) #[] #[]),(1,pt Z3e Z1y),(2,pt Z3d Z1x),(3,pt Q5o Q5k),(4,pt Z3c Z1w),(5,pt Z3b Z1v),(74,.bool false)] ⟨rfl,rfl,rfl,rfl,rfl,rfl,rfl,qZt⟩ fun J => ?_)
      refine cnd (b:=false) rfl (fun h=>nomatch h) (fun _ => ?_)
      exact lg hm hn1 (hS19.sel [0,1,2,7,8,9,10,3,4,5,6] rfl)
    have hm:=Q3s hm hn1 hq1
    cases oI hm
    refine pn ?_
    exact end0 rfl ⟨_,rfl,_,ch,⟨_,_,_,_,_,_,_,_,_,rfl,(hS4.sel [0,2,7,8,9,10,3,4,5,1,6] rfl).unb,(h6.mono ch),(h7.mono ch),(h8.mono ch),qZt⟩⟩
  refine pn ?_
  refine cnd (b:=false) rfl (fun h=>nomatch h) (fun _ => ?_)
  have hm:=Q3s hm hn1 hq1
  cases oI hm
  refine pn ?_
  exact end0 rfl ⟨_,rfl,_,ch,⟨_,_,_,_,_,_,_,_,_,rfl,(hS3.sel [0,2,7,8,9,10,3,4,5,1,6] rfl).unb,(h6.mono ch),(h7.mono ch),(h8.mono ch),qZt⟩⟩

theorem Z3t {p0:X8} {a1 c1 a2 c2 p1} (hS:Sep g T0 w0 [Q3 R]) (h1:SlR (Q2 .u32) T0 w0 (sv a1 p0.Code c1) p0.Code) (h2:SlR (Q2 .u8) T0 w0 (sv a2 p0.Data c2) p0.Data) : ∀ r,O6 p0 p1=some r →
    Calls Tryz.prog 10 #[.agg #[sv a1 p0.Code c1,sv a2 p0.Data c2,iv p0.Limit,iv p0.Notes],iv p1] w0 (Y4 T0 w0 fun T w v=>v=iv r∧Sep g T w (R ++ [])∧True):=by
  intro r hm
  refine enter Tryz.func10 rfl Tryz.ntmps10 rfl fun J => ?_
  unfold O6 at hm
  refine sq2 (bX [sv a1 p0.Code c1,sv a2 p0.Data c2,iv p0.Limit,iv p0.Notes] hS ?_)
  intro w1 b1 im1 hS1
  refine pn ?_
  refine sq2 (blk (F0 hm (fun kk1 a w2 => ∃ T1 x1,JR (nf 55) g T0 w1 a w2 T1 (kk1 x1=some r) [(1,iv p1),(2,pt b1 0),(5,.bool x1)] [Q3 R,Y2 b1 [sv a1 p0.Code c1,sv a2 p0.Data c2,iv p0.Limit,iv p0.Notes]]) (fun kk1 hm => ?_) ?_))
  · refine pu ?_
    refine fkC (d:=14) (c:=((decide (p1 < 0)) || (decide ((List.length p0.Data:Int)≤p1)))) 6 [(1,iv p1),(2,pt b1 0)] rfl (fun hk => ?_) fun J => ?_
    · rcases Bool.eq_false_or_eq_true (decide (p1 < 0)) with hb1 | hb1
      · exact  gF5 (d0:=8) rfl rfl (by rw [hb1]; rfl) (pv (V1 rfl hb1 rfl) (wlR (fun J=>hk J _ (by rw [hb1]; rfl)) ⟨rfl,rfl,rfl,qZt⟩))
      exact  gT (d0:=8) rfl rfl hb1 (pv (N2 rfl) (gT (d0:=8) rfl rfl hb1 (pv (I8 rfl underlying25 rfl sizeOf23 rfl) (gT (d0:=8) rfl rfl hb1 (pv (K3 rfl isAgg23 (hS1.cell0 (i:=0) ⟨rfl,rfl⟩ (j:=1) rfl)) (gT (d0:=8) rfl rfl hb1 (pv (Q7x rfl underlying23) (gT (d0:=8) rfl rfl hb1 (pv (J8 rfl rfl rfl) (pv (V2 rfl hb1 rfl) (wlR (fun J=>hk J _ (by rw [hb1]; rfl)) ⟨rfl,rfl,rfl,qZt⟩)))))))))))
    exact je hm (hS1.sel [1,0] rfl)
  rintro _ w2 ⟨T1,x1,J,hm,rfl,hS2,im2⟩
  refine cd hm ?_ ?_ <;> intro hb2 hm
  · exact sq2 (re hm (hS2.sel [0] rfl))
  refine sq2 (cd hm ?_ ?_) <;> intro hb3 hm
  · exact sq2 (re hm (hS2.sel [0] rfl))
  refine sq2 (cd hm ?_ ?_) <;> intro hb4 hm
  · exact sq2 (re hm (hS2.sel [0] rfl))
  refine F0 hm (fun kk2 a w3 => ∃ T2 x2,JR (nf 55) g T1 w2 a w3 T2 (kk2 x2=some r) [(1,iv p1),(2,pt b1 0),(21,.bool x2)] [Q3 R,Y2 b1 [sv a1 p0.Code c1,sv a2 p0.Data c2,iv p0.Limit,iv p0.Notes]]) (fun kk2 hm => ?_) ?_
  · refine pu ?_
    refine fkC (d:=27) (c:=((decide (128≤p1))&&(decide (p1 < 384)))) 3 [(1,iv p1),(2,pt b1 0)] rfl (fun hk => ?_) fun J => ?_
    · rcases Bool.eq_false_or_eq_true (decide (128≤p1)) with hb5 | hb5
      · exact  gT (d0:=24) rfl rfl hb5 (pv (N2 rfl) (gT (d0:=24) rfl rfl hb5 (pv (J8 rfl rfl rfl) (pv (V1 rfl hb5 rfl) (wlR (fun J=>hk J _ (by rw [hb5]; rfl)) ⟨rfl,rfl,rfl,qZt⟩)))))
      exact  gF2 (d0:=24) rfl rfl (by rw [hb5]; rfl) (pv (V2 rfl hb5 rfl) (wlR (fun J=>hk J _ (by rw [hb5]; rfl)) ⟨rfl,rfl,rfl,qZt⟩))
    exact je hm (hS2.sel [0,1] rfl)
  rintro _ w3 ⟨T2,x2,J,hm,rfl,hS3,im3⟩
  refine cd hm ?_ ?_ <;> intro hb6 hm
  · exact sq2 (re hm (hS3.sel [0] rfl))
  refine F0 hm (fun kk3 a w4 => ∃ T3 x3,JR (nf 55) g T2 w3 a w4 T3 (kk3 x3=some r) [(1,iv p1),(2,pt b1 0),(28,.bool x3)] [Q3 R,Y2 b1 [sv a1 p0.Code c1,sv a2 p0.Data c2,iv p0.Limit,iv p0.Notes]]) (fun kk3 hm => ?_) ?_
  · refine pu ?_
    refine fkC (d:=34) (c:=((decide (384≤p1))&&(decide (p1 < 1152)))) 3 [(1,iv p1),(2,pt b1 0)] rfl (fun hk => ?_) fun J => ?_
    · rcases Bool.eq_false_or_eq_true (decide (384≤p1)) with hb7 | hb7
      · exact  gT (d0:=31) rfl rfl hb7 (pv (N2 rfl) (gT (d0:=31) rfl rfl hb7 (pv (J8 rfl rfl rfl) (pv (V1 rfl hb7 rfl) (wlR (fun J=>hk J _ (by rw [hb7]; rfl)) ⟨rfl,rfl,rfl,qZt⟩)))))
      exact  gF2 (d0:=31) rfl rfl (by rw [hb7]; rfl) (pv (V2 rfl hb7 rfl) (wlR (fun J=>hk J _ (by rw [hb7]; rfl)) ⟨rfl,rfl,rfl,qZt⟩))
    exact je hm (hS3.sel [0,1] rfl)
  rintro _ w4 ⟨T3,x3,J,hm,rfl,hS4,im4⟩
  refine cd hm ?_ ?_ <;> intro hb8 hm
  · exact sq2 (re hm (hS4.sel [0] rfl))
  refine F0 hm (fun kk4 a w5 => ∃ T4 x4,JR (nf 55) g T3 w4 a w5 T4 (kk4 x4=some r) [(1,iv p1),(2,pt b1 0),(35,.bool x4)] [Q3 R,Y2 b1 [sv a1 p0.Code c1,sv a2 p0.Data c2,iv p0.Limit,iv p0.Notes]]) (fun kk4 hm => ?_) ?_
  · refine pu ?_
    refine fkC (d:=44) (c:=((decide (1152≤p1))&&(decide (p1 < (IntKind.wrap .i64 (p0.Limit - 268435456)))))) 6 [(1,iv p1),(2,pt b1 0)] rfl (fun hk => ?_) fun J => ?_
    · rcases Bool.eq_false_or_eq_true (decide (1152≤p1)) with hb9 | hb9
      · exact  gT (d0:=38) rfl rfl hb9 (pv (N2 rfl) (gT (d0:=38) rfl rfl hb9 (pv (I8 rfl underlying25 rfl sizeOf3 rfl) (gT (d0:=38) rfl rfl hb9 (pv (K3 rfl isAgg3 (hS4.cell0 (i:=1) ⟨rfl,rfl⟩ (j:=2) rfl)) (gT (d0:=38) rfl rfl hb9 (pv (J8 rfl rfl rfl) (gT (d0:=38) rfl rfl hb9 (pv (J8 rfl rfl rfl) (pv (V1 rfl hb9 rfl) (wlR (fun J=>hk J _ (by rw [hb9]; rfl)) ⟨rfl,rfl,rfl,qZt⟩)))))))))))
      exact  gF5 (d0:=38) rfl rfl (by rw [hb9]; rfl) (pv (V2 rfl hb9 rfl) (wlR (fun J=>hk J _ (by rw [hb9]; rfl)) ⟨rfl,rfl,rfl,qZt⟩))
    exact je hm (hS4.sel [0,1] rfl)
  rintro _ w5 ⟨T4,x4,J,hm,rfl,hS5,im5⟩
  refine cd hm ?_ ?_ <;> intro hb10 hm
  · exact sq2 (re hm (hS5.sel [0] rfl))
  refine sq2 (pu ?_)
  refine fkC (d:=54) (c:=((decide (1152≤p1))&&(decide ((IntKind.wrap .i64 (p0.Limit - 268435456))≤p1)))) 6 [] rfl (fun hk => ?_) fun J => ?_
  · rcases Bool.eq_false_or_eq_true (decide (1152≤p1)) with hb11 | hb11
    · exact  gT (d0:=48) rfl rfl hb11 (pv (N2 rfl) (gT (d0:=48) rfl rfl hb11 (pv (I8 rfl underlying25 rfl sizeOf3 rfl) (gT (d0:=48) rfl rfl hb11 (pv (K3 rfl isAgg3 (hS5.cell0 (i:=1) ⟨rfl,rfl⟩ (j:=2) rfl)) (gT (d0:=48) rfl rfl hb11 (pv (J8 rfl rfl rfl) (gT (d0:=48) rfl rfl hb11 (pv (J8 rfl rfl rfl) (pv (V1 rfl hb11 rfl) (wlR (fun J=>hk J _ (by rw [hb11]; rfl)) ⟨rfl,qZt⟩)))))))))))
    exact  gF5 (d0:=48) rfl rfl (by rw [hb11]; rfl) (pv (V2 rfl hb11 rfl) (wlR (fun J=>hk J _ (by rw [hb11]; rfl)) ⟨rfl,qZt⟩))
  refine cd hm ?_ ?_ <;> intro hb12 hm
  · exact sq2 (re hm (hS5.sel [0] rfl))
  refine pn ?_
  exact sq2 (re hm (hS5.sel [0] rfl))
end Go.Proofs.YtecakklofhfphaaGreatDoor
