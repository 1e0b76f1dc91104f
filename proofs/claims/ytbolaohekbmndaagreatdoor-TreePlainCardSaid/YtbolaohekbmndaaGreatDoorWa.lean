/- That Go functions compute their models. Printed by gen2.py. -/
import Derived.Test.YtbolaohekbmndaaGreatDoorRows
import Derived.Test.YtbolaohekbmndaaGreatDoorFoc
import Derived.Test.YtbolaohekbmndaaGreatDoorTree
import Derived.Test.YtbolaohekbmndaaGreatDoorArr
import Derived.Test.YtbolaohekbmndaaGreatDoorRcs
import Derived.Test.YtbolaohekbmndaaGreatDoorH
import Derived.Test.YtbolaohekbmndaaGreatDoorPan
import Derived.Test.YtbolaohekbmndaaGreatDoorM
set_option linter.unusedVariables false
namespace Go.Proofs.YtbolaohekbmndaaGreatDoor
abbrev qZs (l:List UInt8):Value := .string ⟨l.toArray⟩
theorem qZt:True:=trivial
open _root_.Go.Proofs.Tryz
set_option maxRecDepth 100000
set_option maxHeartbeats 8000000
attribute [local irreducible] wpList wpQuiet Code.wp
variable {g:World} {T0:Nat→Prop} {w0:World} {R:J7}
def Q8n:Rp Pos:=((A7 (Q0m .i64) (Q0m .i64))).iso fun x=>(x.Line,x.Col)
theorem Q0u {T:Nat→Prop} {w:World} {cs:List Value} {x:Pos} (h:Q8n.rp T w cs x):cs = [.int .i64 x.Line,.int .i64 x.Col]:=by
  obtain⟨q1,y1,rfl,f1,g1⟩:=h
  cases f1
  cases g1
  exact rfl
theorem Q3c {T:Nat→Prop} {w:World} {x:Pos}   : Q8n.rp T w [.int .i64 x.Line,.int .i64 x.Col] x:=⟨_,_,rfl,rfl,rfl⟩
def Q3w:Rp G5:=((A7 G9 (A7 G9 (Q0m .i64)))).iso fun x=>(x.Word,x.Name,x.Stars)
theorem Q4l {T:Nat→Prop} {w:World} {cs:List Value} {x:G5} (h:Q3w.rp T w cs x):cs = [qZs x.Word,qZs x.Name,.int .i64 x.Stars]:=by
  obtain⟨q1,y1,rfl,f1,g1⟩:=h
  cases f1
  obtain⟨q2,y2,rfl,f2,g2⟩:=g1
  cases f2
  cases g2
  exact rfl
theorem Q5s {T:Nat→Prop} {w:World} {x:G5}   : Q3w.rp T w [qZs x.Word,qZs x.Name,.int .i64 x.Stars] x:=⟨_,_,rfl,rfl,⟨_,_,rfl,rfl,rfl⟩⟩
def FGExpr (r:Rp Z6):Rp Z6:=((A7 (Q0m .i64) (A7 Q8n (A7 G9 (A7 G9 (A7 (Q0m .u32) (A7 Q3w (rSl r)))))))).iso fun x=>(x.Kind,x.Pos,x.Op,x.Name,x.Num,x.Type_,x.Kids)
def X0:Rp Z6:=Z1q FGExpr 10 true (fun _=>rfl)
theorem gGExpr:Q7z FGExpr:=gIso _ (Q3m (gK (Q0m .i64)) (Q3m (gK Q8n) (Q3m (gK G9) (Q3m (gK G9) (Q3m (gK (Q0m .u32)) (Q3m (gK Q3w) (gSl gId)))))))
theorem H4 {T:Nat→Prop} {w:World} {cs:List Value} {x:Z6} (h:X0.rp T w cs x) : ∃(a9:Option Addr) (c9:Nat),cs = [.int .i64 x.Kind,.int .i64 x.Pos.Line,.int .i64 x.Pos.Col,qZs x.Op,qZs x.Name,.int .u32 x.Num,qZs x.Type_.Word,qZs x.Type_.Name,.int .i64 x.Type_.Stars,.slice a9 (List.length x.Kids) c9]∧SlR X0 T w (.slice a9 (List.length x.Kids) c9) x.Kids:=by
  have h:=Z4z gGExpr h
  obtain⟨q1,y1,rfl,f1,g1⟩:=h
  cases f1
  obtain⟨q2,y2,rfl,f2,g2⟩:=g1
  cases Q0u f2
  obtain⟨q3,y3,rfl,f3,g3⟩:=g2
  cases f3
  obtain⟨q4,y4,rfl,f4,g4⟩:=g3
  cases f4
  obtain⟨q5,y5,rfl,f5,g5⟩:=g4
  cases f5
  obtain⟨q6,y6,rfl,f6,g6⟩:=g5
  cases Q4l f6
  obtain⟨v7,rfl,s7⟩:=g6
  obtain⟨b7,k7,rfl⟩:=s7.shape
  exact⟨b7,k7,rfl,s7⟩
theorem M2 {T:Nat→Prop} {w:World} {x:Z6} {a9:Option Addr} {c9:Nat} (e0:SlR X0 T w (.slice a9 (List.length x.Kids) c9) x.Kids):X0.rp T w [.int .i64 x.Kind,.int .i64 x.Pos.Line,.int .i64 x.Pos.Col,qZs x.Op,qZs x.Name,.int .u32 x.Num,qZs x.Type_.Word,qZs x.Type_.Name,.int .i64 x.Type_.Stars,.slice a9 (List.length x.Kids) c9] x:=Z5w gGExpr ⟨_,_,rfl,rfl,⟨_,_,rfl,Q3c,⟨_,_,rfl,rfl,⟨_,_,rfl,rfl,⟨_,_,rfl,rfl,⟨_,_,rfl,Q5s,⟨_,rfl,e0⟩⟩⟩⟩⟩⟩⟩
def G7:Rp J8:=((A7 Q8n (A7 Q3w (A7 G9 (A7 (rSl (Q0m .u32)) (A7 (rSl X0) rBool)))))).iso fun x=>(x.Pos,x.Type_,x.Name,x.Dims,x.Init,x.Brace)
theorem Q1e {T:Nat→Prop} {w:World} {cs:List Value} {x:J8} (h:G7.rp T w cs x) : ∃(a6:Option Addr) (c6:Nat) (a7:Option Addr) (c7:Nat),cs = [.int .i64 x.Pos.Line,.int .i64 x.Pos.Col,qZs x.Type_.Word,qZs x.Type_.Name,.int .i64 x.Type_.Stars,qZs x.Name,.slice a6 (List.length x.Dims) c6,.slice a7 (List.length x.Init) c7,.bool x.Brace]∧SlR (Q0m .u32) T w (.slice a6 (List.length x.Dims) c6) x.Dims∧SlR X0 T w (.slice a7 (List.length x.Init) c7) x.Init:=by
  obtain⟨q1,y1,rfl,f1,g1⟩:=h
  cases Q0u f1
  obtain⟨q2,y2,rfl,f2,g2⟩:=g1
  cases Q4l f2
  obtain⟨q3,y3,rfl,f3,g3⟩:=g2
  cases f3
  obtain⟨q4,y4,rfl,f4,g4⟩:=g3
  obtain⟨v5,rfl,s5⟩:=f4
  obtain⟨b5,k5,rfl⟩:=s5.shape
  obtain⟨q6,y6,rfl,f6,g6⟩:=g4
  obtain⟨v7,rfl,s7⟩:=f6
  obtain⟨b7,k7,rfl⟩:=s7.shape
  cases g6
  exact⟨b5,k5,b7,k7,rfl,s5,s7⟩
theorem Q5h {T:Nat→Prop} {w:World} {x:J8} {a6:Option Addr} {c6:Nat} {a7:Option Addr} {c7:Nat} (e0:SlR (Q0m .u32) T w (.slice a6 (List.length x.Dims) c6) x.Dims) (e1:SlR X0 T w (.slice a7 (List.length x.Init) c7) x.Init):G7.rp T w [.int .i64 x.Pos.Line,.int .i64 x.Pos.Col,qZs x.Type_.Word,qZs x.Type_.Name,.int .i64 x.Type_.Stars,qZs x.Name,.slice a6 (List.length x.Dims) c6,.slice a7 (List.length x.Init) c7,.bool x.Brace] x:=⟨_,_,rfl,Q3c,⟨_,_,rfl,Q5s,⟨_,_,rfl,rfl,⟨_,_,rfl,⟨_,rfl,e0⟩,⟨_,_,rfl,⟨_,rfl,e1⟩,rfl⟩⟩⟩⟩⟩
def D3:Rp F7:=((A7 Q8n (A7 G9 (rSl G7)))).iso fun x=>(x.Pos,x.Name,x.Fields)
theorem Q1l {T:Nat→Prop} {w:World} {cs:List Value} {x:F7} (h:D3.rp T w cs x) : ∃(a3:Option Addr) (c3:Nat),cs = [.int .i64 x.Pos.Line,.int .i64 x.Pos.Col,qZs x.Name,.slice a3 (List.length x.Fields) c3]∧SlR G7 T w (.slice a3 (List.length x.Fields) c3) x.Fields:=by
  obtain⟨q1,y1,rfl,f1,g1⟩:=h
  cases Q0u f1
  obtain⟨q2,y2,rfl,f2,g2⟩:=g1
  cases f2
  obtain⟨v3,rfl,s3⟩:=g2
  obtain⟨b3,k3,rfl⟩:=s3.shape
  exact⟨b3,k3,rfl,s3⟩
theorem Z0l {T:Nat→Prop} {w:World} {x:F7} {a3:Option Addr} {c3:Nat} (e0:SlR G7 T w (.slice a3 (List.length x.Fields) c3) x.Fields):D3.rp T w [.int .i64 x.Pos.Line,.int .i64 x.Pos.Col,qZs x.Name,.slice a3 (List.length x.Fields) c3] x:=⟨_,_,rfl,Q3c,⟨_,_,rfl,rfl,⟨_,rfl,e0⟩⟩⟩
def Z6b (r:Rp U5):Rp K7:=((A7 Q8n (A7 rBool (A7 (Q0m .u32) (rSl r))))).iso fun x=>(x.Pos,x.Default,x.Num,x.Body)
theorem gFGCase:Q7z Z6b:=gIso _ (Q3m (gK Q8n) (Q3m (gK rBool) (Q3m (gK (Q0m .u32)) (gSl gId))))
def FStmt (r:Rp U5):Rp U5:=((A7 (Q0m .i64) (A7 Q8n (A7 (rSl X0) (A7 (rSl X0) (A7 (rSl X0) (A7 (rSl G7) (A7 (rSl r) (A7 (rSl r) (rSl (Z6b r))))))))))).iso fun x=>(x.Kind,x.Pos,x.A,x.B,x.C,x.Var,x.Body,x.Else,x.Cases)
def E1:Rp U5:=Z1q FStmt 10 true (fun _=>rfl)
theorem gStmt:Q7z FStmt:=gIso _ (Q3m (gK (Q0m .i64)) (Q3m (gK Q8n) (Q3m (gK (rSl X0)) (Q3m (gK (rSl X0)) (Q3m (gK (rSl X0)) (Q3m (gK (rSl G7)) (Q3m (gSl gId) (Q3m (gSl gId) (gSl gFGCase)))))))))
def C0:Rp K7:=Z6b E1
theorem Q2r {T:Nat→Prop} {w:World} {cs:List Value} {x:U5} (h:E1.rp T w cs x) : ∃(a3:Option Addr) (c3:Nat) (a4:Option Addr) (c4:Nat) (a5:Option Addr) (c5:Nat) (a6:Option Addr) (c6:Nat) (a7:Option Addr) (c7:Nat) (a8:Option Addr) (c8:Nat) (a9:Option Addr) (c9:Nat),cs = [.int .i64 x.Kind,.int .i64 x.Pos.Line,.int .i64 x.Pos.Col,.slice a3 (List.length x.A) c3,.slice a4 (List.length x.B) c4,.slice a5 (List.length x.C) c5,.slice a6 (List.length x.Var) c6,.slice a7 (List.length x.Body) c7,.slice a8 (List.length x.Else) c8,.slice a9 (List.length x.Cases) c9]∧SlR X0 T w (.slice a3 (List.length x.A) c3) x.A∧SlR X0 T w (.slice a4 (List.length x.B) c4) x.B∧SlR X0 T w (.slice a5 (List.length x.C) c5) x.C∧SlR G7 T w (.slice a6 (List.length x.Var) c6) x.Var∧SlR E1 T w (.slice a7 (List.length x.Body) c7) x.Body∧SlR E1 T w (.slice a8 (List.length x.Else) c8) x.Else∧SlR C0 T w (.slice a9 (List.length x.Cases) c9) x.Cases:=by
  have h:=Z4z gStmt h
  obtain⟨q1,y1,rfl,f1,g1⟩:=h
  cases f1
  obtain⟨q2,y2,rfl,f2,g2⟩:=g1
  cases Q0u f2
  obtain⟨q3,y3,rfl,f3,g3⟩:=g2
  obtain⟨v4,rfl,s4⟩:=f3
  obtain⟨b4,k4,rfl⟩:=s4.shape
  obtain⟨q5,y5,rfl,f5,g5⟩:=g3
  obtain⟨v6,rfl,s6⟩:=f5
  obtain⟨b6,k6,rfl⟩:=s6.shape
  obtain⟨q7,y7,rfl,f7,g7⟩:=g5
  obtain⟨v8,rfl,s8⟩:=f7
  obtain⟨b8,k8,rfl⟩:=s8.shape
  obtain⟨q9,y9,rfl,f9,g9⟩:=g7
  obtain⟨v10,rfl,s10⟩:=f9
  obtain⟨b10,k10,rfl⟩:=s10.shape
  obtain⟨q11,y11,rfl,f11,g11⟩:=g9
  obtain⟨v12,rfl,s12⟩:=f11
  obtain⟨b12,k12,rfl⟩:=s12.shape
  obtain⟨q13,y13,rfl,f13,g13⟩:=g11
  obtain⟨v14,rfl,s14⟩:=f13
  obtain⟨b14,k14,rfl⟩:=s14.shape
  obtain⟨v15,rfl,s15⟩:=g13
  obtain⟨b15,k15,rfl⟩:=s15.shape
  exact⟨b4,k4,b6,k6,b8,k8,b10,k10,b12,k12,b14,k14,b15,k15,rfl,s4,s6,s8,s10,s12,s14,s15⟩
theorem Q9e {T:Nat→Prop} {w:World} {x:U5} {a3:Option Addr} {c3:Nat} {a4:Option Addr} {c4:Nat} {a5:Option Addr} {c5:Nat} {a6:Option Addr} {c6:Nat} {a7:Option Addr} {c7:Nat} {a8:Option Addr} {c8:Nat} {a9:Option Addr} {c9:Nat} (e0:SlR X0 T w (.slice a3 (List.length x.A) c3) x.A) (e1:SlR X0 T w (.slice a4 (List.length x.B) c4) x.B) (e2:SlR X0 T w (.slice a5 (List.length x.C) c5) x.C) (e3:SlR G7 T w (.slice a6 (List.length x.Var) c6) x.Var) (e4:SlR E1 T w (.slice a7 (List.length x.Body) c7) x.Body) (e5:SlR E1 T w (.slice a8 (List.length x.Else) c8) x.Else) (e6:SlR C0 T w (.slice a9 (List.length x.Cases) c9) x.Cases):E1.rp T w [.int .i64 x.Kind,.int .i64 x.Pos.Line,.int .i64 x.Pos.Col,.slice a3 (List.length x.A) c3,.slice a4 (List.length x.B) c4,.slice a5 (List.length x.C) c5,.slice a6 (List.length x.Var) c6,.slice a7 (List.length x.Body) c7,.slice a8 (List.length x.Else) c8,.slice a9 (List.length x.Cases) c9] x:=Z5w gStmt ⟨_,_,rfl,rfl,⟨_,_,rfl,Q3c,⟨_,_,rfl,⟨_,rfl,e0⟩,⟨_,_,rfl,⟨_,rfl,e1⟩,⟨_,_,rfl,⟨_,rfl,e2⟩,⟨_,_,rfl,⟨_,rfl,e3⟩,⟨_,_,rfl,⟨_,rfl,e4⟩,⟨_,_,rfl,⟨_,rfl,e5⟩,⟨_,rfl,e6⟩⟩⟩⟩⟩⟩⟩⟩⟩
theorem Q1f {T:Nat→Prop} {w:World} {cs:List Value} {x:K7} (h:C0.rp T w cs x) : ∃(a4:Option Addr) (c4:Nat),cs = [.int .i64 x.Pos.Line,.int .i64 x.Pos.Col,.bool x.Default,.int .u32 x.Num,.slice a4 (List.length x.Body) c4]∧SlR E1 T w (.slice a4 (List.length x.Body) c4) x.Body:=by
  obtain⟨q1,y1,rfl,f1,g1⟩:=h
  cases Q0u f1
  obtain⟨q2,y2,rfl,f2,g2⟩:=g1
  cases f2
  obtain⟨q3,y3,rfl,f3,g3⟩:=g2
  cases f3
  obtain⟨v4,rfl,s4⟩:=g3
  obtain⟨b4,k4,rfl⟩:=s4.shape
  exact⟨b4,k4,rfl,s4⟩
theorem Q7j {T:Nat→Prop} {w:World} {x:K7} {a4:Option Addr} {c4:Nat} (e0:SlR E1 T w (.slice a4 (List.length x.Body) c4) x.Body):C0.rp T w [.int .i64 x.Pos.Line,.int .i64 x.Pos.Col,.bool x.Default,.int .u32 x.Num,.slice a4 (List.length x.Body) c4] x:=⟨_,_,rfl,Q3c,⟨_,_,rfl,rfl,⟨_,_,rfl,rfl,⟨_,rfl,e0⟩⟩⟩⟩
def A1:Rp P4:=((A7 Q8n (A7 Q3w (A7 G9 (A7 (rSl G7) (rSl E1)))))).iso fun x=>(x.Pos,x.Ret,x.Name,x.Params,x.Body)
theorem Q3i {T:Nat→Prop} {w:World} {cs:List Value} {x:P4} (h:A1.rp T w cs x) : ∃(a6:Option Addr) (c6:Nat) (a7:Option Addr) (c7:Nat),cs = [.int .i64 x.Pos.Line,.int .i64 x.Pos.Col,qZs x.Ret.Word,qZs x.Ret.Name,.int .i64 x.Ret.Stars,qZs x.Name,.slice a6 (List.length x.Params) c6,.slice a7 (List.length x.Body) c7]∧SlR G7 T w (.slice a6 (List.length x.Params) c6) x.Params∧SlR E1 T w (.slice a7 (List.length x.Body) c7) x.Body:=by
  obtain⟨q1,y1,rfl,f1,g1⟩:=h
  cases Q0u f1
  obtain⟨q2,y2,rfl,f2,g2⟩:=g1
  cases Q4l f2
  obtain⟨q3,y3,rfl,f3,g3⟩:=g2
  cases f3
  obtain⟨q4,y4,rfl,f4,g4⟩:=g3
  obtain⟨v5,rfl,s5⟩:=f4
  obtain⟨b5,k5,rfl⟩:=s5.shape
  obtain⟨v6,rfl,s6⟩:=g4
  obtain⟨b6,k6,rfl⟩:=s6.shape
  exact⟨b5,k5,b6,k6,rfl,s5,s6⟩
theorem Q9v {T:Nat→Prop} {w:World} {x:P4} {a6:Option Addr} {c6:Nat} {a7:Option Addr} {c7:Nat} (e0:SlR G7 T w (.slice a6 (List.length x.Params) c6) x.Params) (e1:SlR E1 T w (.slice a7 (List.length x.Body) c7) x.Body):A1.rp T w [.int .i64 x.Pos.Line,.int .i64 x.Pos.Col,qZs x.Ret.Word,qZs x.Ret.Name,.int .i64 x.Ret.Stars,qZs x.Name,.slice a6 (List.length x.Params) c6,.slice a7 (List.length x.Body) c7] x:=⟨_,_,rfl,Q3c,⟨_,_,rfl,Q5s,⟨_,_,rfl,rfl,⟨_,_,rfl,⟨_,rfl,e0⟩,⟨_,rfl,e1⟩⟩⟩⟩⟩
def Z2w:Rp K4:=((A7 (rSl D3) (A7 (rSl G7) (rSl A1)))).iso fun x=>(x.Structs,x.Globals,x.Funcs)
theorem rGProgram_open {T:Nat→Prop} {w:World} {cs:List Value} {x:K4} (h:Z2w.rp T w cs x) : ∃(a0:Option Addr) (c0:Nat) (a1:Option Addr) (c1:Nat) (a2:Option Addr) (c2:Nat),cs = [.slice a0 (List.length x.Structs) c0,.slice a1 (List.length x.Globals) c1,.slice a2 (List.length x.Funcs) c2]∧SlR D3 T w (.slice a0 (List.length x.Structs) c0) x.Structs∧SlR G7 T w (.slice a1 (List.length x.Globals) c1) x.Globals∧SlR A1 T w (.slice a2 (List.length x.Funcs) c2) x.Funcs:=by
  obtain⟨q1,y1,rfl,f1,g1⟩:=h
  obtain⟨v2,rfl,s2⟩:=f1
  obtain⟨b2,k2,rfl⟩:=s2.shape
  obtain⟨q3,y3,rfl,f3,g3⟩:=g1
  obtain⟨v4,rfl,s4⟩:=f3
  obtain⟨b4,k4,rfl⟩:=s4.shape
  obtain⟨v5,rfl,s5⟩:=g3
  obtain⟨b5,k5,rfl⟩:=s5.shape
  exact⟨b2,k2,b4,k4,b5,k5,rfl,s2,s4,s5⟩
theorem rGProgram_mk {T:Nat→Prop} {w:World} {x:K4} {a0:Option Addr} {c0:Nat} {a1:Option Addr} {c1:Nat} {a2:Option Addr} {c2:Nat} (e0:SlR D3 T w (.slice a0 (List.length x.Structs) c0) x.Structs) (e1:SlR G7 T w (.slice a1 (List.length x.Globals) c1) x.Globals) (e2:SlR A1 T w (.slice a2 (List.length x.Funcs) c2) x.Funcs):Z2w.rp T w [.slice a0 (List.length x.Structs) c0,.slice a1 (List.length x.Globals) c1,.slice a2 (List.length x.Funcs) c2] x:=⟨_,_,rfl,⟨_,rfl,e0⟩,⟨_,_,rfl,⟨_,rfl,e1⟩,⟨_,rfl,e2⟩⟩⟩
def Z0k:Rp F9:=((A7 G9 Q8n)).iso fun x=>(x.s,x.pos)
theorem Z7e {T:Nat→Prop} {w:World} {cs:List Value} {x:F9} (h:Z0k.rp T w cs x):cs = [qZs x.s,.int .i64 x.pos.Line,.int .i64 x.pos.Col]:=by
  obtain⟨q1,y1,rfl,f1,g1⟩:=h
  cases f1
  cases Q0u g1
  exact rfl
theorem rLexScanner_mk {T:Nat→Prop} {w:World} {x:F9}   : Z0k.rp T w [qZs x.s,.int .i64 x.pos.Line,.int .i64 x.pos.Col] x:=⟨_,_,rfl,rfl,Q3c⟩
def Y3:Rp Y6:=((A7 (Q0m .i64) (A7 G9 (A7 (Q0m .u32) Q8n)))).iso fun x=>(x.Kind,x.Text,x.Num,x.Pos)
theorem I3 {T:Nat→Prop} {w:World} {cs:List Value} {x:Y6} (h:Y3.rp T w cs x):cs = [.int .i64 x.Kind,qZs x.Text,.int .u32 x.Num,.int .i64 x.Pos.Line,.int .i64 x.Pos.Col]:=by
  obtain⟨q1,y1,rfl,f1,g1⟩:=h
  cases f1
  obtain⟨q2,y2,rfl,f2,g2⟩:=g1
  cases f2
  obtain⟨q3,y3,rfl,f3,g3⟩:=g2
  cases f3
  cases Q0u g3
  exact rfl
theorem Z5o {T:Nat→Prop} {w:World} {x:Y6}   : Y3.rp T w [.int .i64 x.Kind,qZs x.Text,.int .u32 x.Num,.int .i64 x.Pos.Line,.int .i64 x.Pos.Col] x:=⟨_,_,rfl,rfl,⟨_,_,rfl,rfl,⟨_,_,rfl,rfl,Q3c⟩⟩⟩
def Z0j:Rp Q1:=((A7 (rSl Y3) (A7 Q8n (Q0m .i64)))).iso fun x=>(x.l,x.end_,x.depth)
theorem Z7d {T:Nat→Prop} {w:World} {cs:List Value} {x:Q1} (h:Z0j.rp T w cs x) : ∃(a0:Option Addr) (c0:Nat),cs = [.slice a0 (List.length x.l) c0,.int .i64 x.end_.Line,.int .i64 x.end_.Col,.int .i64 x.depth]∧SlR Y3 T w (.slice a0 (List.length x.l) c0) x.l:=by
  obtain⟨q1,y1,rfl,f1,g1⟩:=h
  obtain⟨v2,rfl,s2⟩:=f1
  obtain⟨b2,k2,rfl⟩:=s2.shape
  obtain⟨q3,y3,rfl,f3,g3⟩:=g1
  cases Q0u f3
  cases g3
  exact⟨b2,k2,rfl,s2⟩
theorem rTreeReader_mk {T:Nat→Prop} {w:World} {x:Q1} {a0:Option Addr} {c0:Nat} (e0:SlR Y3 T w (.slice a0 (List.length x.l) c0) x.l):Z0j.rp T w [.slice a0 (List.length x.l) c0,.int .i64 x.end_.Line,.int .i64 x.end_.Col,.int .i64 x.depth] x:=⟨_,_,rfl,⟨_,rfl,e0⟩,⟨_,_,rfl,Q3c,rfl⟩⟩
def Q9d:Rp Q8:=((A7 Q8n (Q0m .i64))).iso fun x=>(x.pos,x.e)
theorem Z6j {T:Nat→Prop} {w:World} {cs:List Value} {x:Q8} (h:Q9d.rp T w cs x):cs = [.int .i64 x.pos.Line,.int .i64 x.pos.Col,.int .i64 x.e]:=by
  obtain⟨q1,y1,rfl,f1,g1⟩:=h
  cases Q0u f1
  cases g1
  exact rfl
theorem Z7v {T:Nat→Prop} {w:World} {x:Q8}   : Q9d.rp T w [.int .i64 x.pos.Line,.int .i64 x.pos.Col,.int .i64 x.e] x:=⟨_,_,rfl,Q3c,rfl⟩
def Z0i:Rp Q5:=((rSl G9)).iso fun x=>x.l
theorem Z7c {T:Nat→Prop} {w:World} {cs:List Value} {x:Q5} (h:Z0i.rp T w cs x) : ∃(a0:Option Addr) (c0:Nat),cs = [.slice a0 (List.length x.l) c0]∧SlR G9 T w (.slice a0 (List.length x.l) c0) x.l:=by
  obtain⟨v1,rfl,s1⟩:=h
  obtain⟨b1,k1,rfl⟩:=s1.shape
  exact⟨b1,k1,rfl,s1⟩
theorem rTreeWriter_mk {T:Nat→Prop} {w:World} {x:Q5} {a0:Option Addr} {c0:Nat} (e0:SlR G9 T w (.slice a0 (List.length x.l) c0) x.l):Z0i.rp T w [.slice a0 (List.length x.l) c0] x:=⟨_,rfl,e0⟩
theorem cf5:V5 Tryz.prog 5:=⟨⟨_,Tryz.func5,by kernel_rfl,by kernel_rfl⟩⟩
theorem cf6:V5 Tryz.prog 6:=⟨⟨_,Tryz.func6,by kernel_rfl,by kernel_rfl⟩⟩
theorem cf7:V5 Tryz.prog 7:=⟨⟨_,Tryz.func7,by kernel_rfl,by kernel_rfl⟩⟩
theorem cf8:V5 Tryz.prog 8:=⟨⟨_,Tryz.func8,by kernel_rfl,by kernel_rfl⟩⟩
theorem cf9:V5 Tryz.prog 9:=⟨⟨_,Tryz.func9,by kernel_rfl,by kernel_rfl⟩⟩
theorem cf10:V5 Tryz.prog 10:=⟨⟨_,Tryz.func10,by kernel_rfl,by kernel_rfl⟩⟩
theorem cf11:V5 Tryz.prog 11:=⟨⟨_,Tryz.func11,by kernel_rfl,by kernel_rfl⟩⟩
theorem cf12:V5 Tryz.prog 12:=⟨⟨_,Tryz.func12,by kernel_rfl,by kernel_rfl⟩⟩
theorem cf13:V5 Tryz.prog 13:=⟨⟨_,Tryz.func13,by kernel_rfl,by kernel_rfl⟩⟩
theorem cf14:V5 Tryz.prog 14:=⟨⟨_,Tryz.func14,by kernel_rfl,by kernel_rfl⟩⟩
theorem cf15:V5 Tryz.prog 15:=⟨⟨_,Tryz.func15,by kernel_rfl,by kernel_rfl⟩⟩
theorem cf16:V5 Tryz.prog 16:=⟨⟨_,Tryz.func16,by kernel_rfl,by kernel_rfl⟩⟩
theorem cf17:V5 Tryz.prog 17:=⟨⟨_,Tryz.func17,by kernel_rfl,by kernel_rfl⟩⟩
theorem cf18:V5 Tryz.prog 18:=⟨⟨_,Tryz.func18,by kernel_rfl,by kernel_rfl⟩⟩
theorem cf19:V5 Tryz.prog 19:=⟨⟨_,Tryz.func19,by kernel_rfl,by kernel_rfl⟩⟩
theorem cf20:V5 Tryz.prog 20:=⟨⟨_,Tryz.func20,by kernel_rfl,by kernel_rfl⟩⟩
theorem cf21:V5 Tryz.prog 21:=⟨⟨_,Tryz.func21,by kernel_rfl,by kernel_rfl⟩⟩
theorem I6:V5 Tryz.prog 22:=⟨⟨_,Tryz.func22,by kernel_rfl,by kernel_rfl⟩⟩
theorem cf23:V5 Tryz.prog 23:=⟨⟨_,Tryz.func23,by kernel_rfl,by kernel_rfl⟩⟩
theorem cf24:V5 Tryz.prog 24:=⟨⟨_,Tryz.func24,by kernel_rfl,by kernel_rfl⟩⟩
theorem cf25:V5 Tryz.prog 25:=⟨⟨_,Tryz.func25,by kernel_rfl,by kernel_rfl⟩⟩
theorem cf26:V5 Tryz.prog 26:=⟨⟨_,Tryz.func26,by kernel_rfl,by kernel_rfl⟩⟩
theorem cf27:V5 Tryz.prog 27:=⟨⟨_,Tryz.func27,by kernel_rfl,by kernel_rfl⟩⟩
theorem cf28:V5 Tryz.prog 28:=⟨⟨_,Tryz.func28,by kernel_rfl,by kernel_rfl⟩⟩
theorem cf29:V5 Tryz.prog 29:=⟨⟨_,Tryz.func29,by kernel_rfl,by kernel_rfl⟩⟩
theorem cf30:V5 Tryz.prog 30:=⟨⟨_,Tryz.func30,by kernel_rfl,by kernel_rfl⟩⟩
theorem cf31:V5 Tryz.prog 31:=⟨⟨_,Tryz.func31,by kernel_rfl,by kernel_rfl⟩⟩
theorem cf32:V5 Tryz.prog 32:=⟨⟨_,Tryz.func32,by kernel_rfl,by kernel_rfl⟩⟩
theorem cf33:V5 Tryz.prog 33:=⟨⟨_,Tryz.func33,by kernel_rfl,by kernel_rfl⟩⟩
theorem cf34:V5 Tryz.prog 34:=⟨⟨_,Tryz.func34,by kernel_rfl,by kernel_rfl⟩⟩
theorem cf35:V5 Tryz.prog 35:=⟨⟨_,Tryz.func35,by kernel_rfl,by kernel_rfl⟩⟩
theorem cf36:V5 Tryz.prog 36:=⟨⟨_,Tryz.func36,by kernel_rfl,by kernel_rfl⟩⟩
theorem cf37:V5 Tryz.prog 37:=⟨⟨_,Tryz.func37,by kernel_rfl,by kernel_rfl⟩⟩
theorem cf38:V5 Tryz.prog 38:=⟨⟨_,Tryz.func38,by kernel_rfl,by kernel_rfl⟩⟩
theorem cf39:V5 Tryz.prog 39:=⟨⟨_,Tryz.func39,by kernel_rfl,by kernel_rfl⟩⟩
theorem cf40:V5 Tryz.prog 40:=⟨⟨_,Tryz.func40,by kernel_rfl,by kernel_rfl⟩⟩
theorem cf41:V5 Tryz.prog 41:=⟨⟨_,Tryz.func41,by kernel_rfl,by kernel_rfl⟩⟩
theorem cf42:V5 Tryz.prog 42:=⟨⟨_,Tryz.func42,by kernel_rfl,by kernel_rfl⟩⟩
theorem cf43:V5 Tryz.prog 43:=⟨⟨_,Tryz.func43,by kernel_rfl,by kernel_rfl⟩⟩
theorem cf44:V5 Tryz.prog 44:=⟨⟨_,Tryz.func44,by kernel_rfl,by kernel_rfl⟩⟩
theorem cf48:V5 Tryz.prog 48:=⟨⟨_,Tryz.func48,by kernel_rfl,by kernel_rfl⟩⟩
theorem cf49:V5 Tryz.prog 49:=⟨⟨_,Tryz.func49,by kernel_rfl,by kernel_rfl⟩⟩
theorem cf50:V5 Tryz.prog 50:=⟨⟨_,Tryz.func50,by kernel_rfl,by kernel_rfl⟩⟩
theorem cf51:V5 Tryz.prog 51:=⟨⟨_,Tryz.func51,by kernel_rfl,by kernel_rfl⟩⟩
theorem cf52:V5 Tryz.prog 52:=⟨⟨_,Tryz.func52,by kernel_rfl,by kernel_rfl⟩⟩
theorem cf53:V5 Tryz.prog 53:=⟨⟨_,Tryz.func53,by kernel_rfl,by kernel_rfl⟩⟩
theorem cf54:V5 Tryz.prog 54:=⟨⟨_,Tryz.func54,by kernel_rfl,by kernel_rfl⟩⟩
theorem cf55:V5 Tryz.prog 55:=⟨⟨_,Tryz.func55,by kernel_rfl,by kernel_rfl⟩⟩
theorem cf56:V5 Tryz.prog 56:=⟨⟨_,Tryz.func56,by kernel_rfl,by kernel_rfl⟩⟩
theorem cf57:V5 Tryz.prog 57:=⟨⟨_,Tryz.func57,by kernel_rfl,by kernel_rfl⟩⟩
theorem cf58:V5 Tryz.prog 58:=⟨⟨_,Tryz.func58,by kernel_rfl,by kernel_rfl⟩⟩
theorem cf59:V5 Tryz.prog 59:=⟨⟨_,Tryz.func59,by kernel_rfl,by kernel_rfl⟩⟩
theorem Q8q:V5 Tryz.prog 60:=⟨⟨_,Tryz.func60,by kernel_rfl,by kernel_rfl⟩⟩
theorem cf61:V5 Tryz.prog 61:=⟨⟨_,Tryz.func61,by kernel_rfl,by kernel_rfl⟩⟩
theorem A3:V5 Tryz.prog 62:=⟨⟨_,Tryz.func62,by kernel_rfl,by kernel_rfl⟩⟩
theorem Q4s:V5 Tryz.prog 63:=⟨⟨_,Tryz.func63,by kernel_rfl,by kernel_rfl⟩⟩
theorem cf64:V5 Tryz.prog 64:=⟨⟨_,Tryz.func64,by kernel_rfl,by kernel_rfl⟩⟩
theorem Q9l:V5 Tryz.prog 65:=⟨⟨_,Tryz.func65,by kernel_rfl,by kernel_rfl⟩⟩
theorem cf66:V5 Tryz.prog 66:=⟨⟨_,Tryz.func66,by kernel_rfl,by kernel_rfl⟩⟩
theorem cf67:V5 Tryz.prog 67:=⟨⟨_,Tryz.func67,by kernel_rfl,by kernel_rfl⟩⟩
theorem cf68:V5 Tryz.prog 68:=⟨⟨_,Tryz.func68,by kernel_rfl,by kernel_rfl⟩⟩
theorem cf69:V5 Tryz.prog 69:=⟨⟨_,Tryz.func69,by kernel_rfl,by kernel_rfl⟩⟩
theorem cf70:V5 Tryz.prog 70:=⟨⟨_,Tryz.func70,by kernel_rfl,by kernel_rfl⟩⟩
theorem cf71:V5 Tryz.prog 71:=⟨⟨_,Tryz.func71,by kernel_rfl,by kernel_rfl⟩⟩
theorem cf72:V5 Tryz.prog 72:=⟨⟨_,Tryz.func72,by kernel_rfl,by kernel_rfl⟩⟩
theorem cf73:V5 Tryz.prog 73:=⟨⟨_,Tryz.func73,by kernel_rfl,by kernel_rfl⟩⟩
theorem cf74:V5 Tryz.prog 74:=⟨⟨_,Tryz.func74,by kernel_rfl,by kernel_rfl⟩⟩
theorem cf75:V5 Tryz.prog 75:=⟨⟨_,Tryz.func75,by kernel_rfl,by kernel_rfl⟩⟩
theorem cf78:V5 Tryz.prog 78:=⟨⟨_,Tryz.func78,by kernel_rfl,by kernel_rfl⟩⟩
theorem cf80:V5 Tryz.prog 80:=⟨⟨_,Tryz.func80,by kernel_rfl,by kernel_rfl⟩⟩
theorem cf81:V5 Tryz.prog 81:=⟨⟨_,Tryz.func81,by kernel_rfl,by kernel_rfl⟩⟩
theorem Q1u:V5 Tryz.prog 82:=⟨⟨_,Tryz.func82,by kernel_rfl,by kernel_rfl⟩⟩
theorem cf83:V5 Tryz.prog 83:=⟨⟨_,Tryz.func83,by kernel_rfl,by kernel_rfl⟩⟩
theorem cf84:V5 Tryz.prog 84:=⟨⟨_,Tryz.func84,by kernel_rfl,by kernel_rfl⟩⟩
theorem cf85:V5 Tryz.prog 85:=⟨⟨_,Tryz.func85,by kernel_rfl,by kernel_rfl⟩⟩
theorem cf86:V5 Tryz.prog 86:=⟨⟨_,Tryz.func86,by kernel_rfl,by kernel_rfl⟩⟩
theorem Q4r:V5 Tryz.prog 87:=⟨⟨_,Tryz.func87,by kernel_rfl,by kernel_rfl⟩⟩
theorem cf88:V5 Tryz.prog 88:=⟨⟨_,Tryz.func88,by kernel_rfl,by kernel_rfl⟩⟩
theorem cf90:V5 Tryz.prog 90:=⟨⟨_,Tryz.func90,by kernel_rfl,by kernel_rfl⟩⟩
theorem cf91:V5 Tryz.prog 91:=⟨⟨_,Tryz.func91,by kernel_rfl,by kernel_rfl⟩⟩
theorem cf98:V5 Tryz.prog 98:=⟨⟨_,Tryz.func98,by kernel_rfl,by kernel_rfl⟩⟩
theorem cf99:V5 Tryz.prog 99:=⟨⟨_,Tryz.func99,by kernel_rfl,by kernel_rfl⟩⟩
theorem cf100:V5 Tryz.prog 100:=⟨⟨_,Tryz.func100,by kernel_rfl,by kernel_rfl⟩⟩
theorem Z3c:V5 Tryz.prog 101:=⟨⟨_,Tryz.func101,by kernel_rfl,by kernel_rfl⟩⟩
theorem Z0r:V5 Tryz.prog 102:=⟨⟨_,Tryz.func102,by kernel_rfl,by kernel_rfl⟩⟩
theorem cf103:V5 Tryz.prog 103:=⟨⟨_,Tryz.func103,by kernel_rfl,by kernel_rfl⟩⟩
theorem Q8e:V5 Tryz.prog 104:=⟨⟨_,Tryz.func104,by kernel_rfl,by kernel_rfl⟩⟩
theorem Q8d:V5 Tryz.prog 105:=⟨⟨_,Tryz.func105,by kernel_rfl,by kernel_rfl⟩⟩
theorem Z0q:V5 Tryz.prog 106:=⟨⟨_,Tryz.func106,by kernel_rfl,by kernel_rfl⟩⟩
theorem cf107:V5 Tryz.prog 107:=⟨⟨_,Tryz.func107,by kernel_rfl,by kernel_rfl⟩⟩
theorem cf108:V5 Tryz.prog 108:=⟨⟨_,Tryz.func108,by kernel_rfl,by kernel_rfl⟩⟩
theorem H7:V5 Tryz.prog 115:=⟨⟨_,Tryz.func115,by kernel_rfl,by kernel_rfl⟩⟩
theorem cf116:V5 Tryz.prog 116:=⟨⟨_,Tryz.func116,by kernel_rfl,by kernel_rfl⟩⟩
theorem Z3b:V5 Tryz.prog 122:=⟨⟨_,Tryz.func122,by kernel_rfl,by kernel_rfl⟩⟩
theorem cf123:V5 Tryz.prog 123:=⟨⟨_,Tryz.func123,by kernel_rfl,by kernel_rfl⟩⟩
theorem cf126:V5 Tryz.prog 126:=⟨⟨_,Tryz.func126,by kernel_rfl,by kernel_rfl⟩⟩
theorem cf127:V5 Tryz.prog 127:=⟨⟨_,Tryz.func127,by kernel_rfl,by kernel_rfl⟩⟩
theorem cf128:V5 Tryz.prog 128:=⟨⟨_,Tryz.func128,by kernel_rfl,by kernel_rfl⟩⟩
theorem el9:Q2y Tryz.prog 9 1:=⟨by kernel_rfl,by decide⟩
theorem el51:Q2y Tryz.prog 51 4:=⟨by kernel_rfl,by decide⟩
theorem el58:Q2y Tryz.prog 58 9:=⟨by kernel_rfl,by decide⟩
theorem el64:Q2y Tryz.prog 64 8:=⟨by kernel_rfl,by decide⟩
theorem el68:Q2y Tryz.prog 68 10:=⟨by kernel_rfl,by decide⟩
theorem el87:Q2y Tryz.prog 87 1:=⟨by kernel_rfl,by decide⟩
theorem el89:Q2y Tryz.prog 89 5:=⟨by kernel_rfl,by decide⟩
theorem el99:Q2y Tryz.prog 99 10:=⟨by kernel_rfl,by decide⟩
theorem el105:Q2y Tryz.prog 105 5:=⟨by kernel_rfl,by decide⟩
theorem Z1s (a0:Int) (a1:Int) (b0:Int) (b1:Int) : ∀ x y w,(do eqGuard .neq 29 x y (.agg #[.int .i64 a0,.int .i64 a1]) (.agg #[.int .i64 b0,.int .i64 b1]); binOp .neq 29 (.agg #[.int .i64 a0,.int .i64 a1]) (.agg #[.int .i64 b0,.int .i64 b1]):Sem Value).run Tryz.prog w = .ok (.bool (!((a0 == b0)&&(a1 == b1)))) w:=by
  intro x y w
  simp [go_sem]
  repeat' split
  all_goals simp_all
theorem Z2y (a0:List UInt8) (a1:List UInt8) (a2:Int) (b0:List UInt8) (b1:List UInt8) (b2:Int) : ∀ x y w,(do eqGuard .neq 54 x y (.agg #[.string ⟨List.toArray a0⟩,.string ⟨List.toArray a1⟩,.int .i64 a2]) (.agg #[.string ⟨List.toArray b0⟩,.string ⟨List.toArray b1⟩,.int .i64 b2]); binOp .neq 54 (.agg #[.string ⟨List.toArray a0⟩,.string ⟨List.toArray a1⟩,.int .i64 a2]) (.agg #[.string ⟨List.toArray b0⟩,.string ⟨List.toArray b1⟩,.int .i64 b2]):Sem Value).run Tryz.prog w = .ok (.bool (!((decide (a0=b0))&&(decide (a1=b1))&&(a2 == b2)))) w:=by
  intro x y w
  simp [go_sem,ByteArray.toList_eq]
  repeat' split
  all_goals simp_all
theorem mix:Tryz.prog.follows .mixedOrders=true:=by kernel_rfl
abbrev Q3n (x:F9)  : List Value := [qZs x.s,.int .i64 x.pos.Line,.int .i64 x.pos.Col]
abbrev Q0o (x:Y6)  : List Value := [.int .i64 x.Kind,qZs x.Text,.int .u32 x.Num,.int .i64 x.Pos.Line,.int .i64 x.Pos.Col]
abbrev K6 (x:Q8)  : List Value := [.int .i64 x.pos.Line,.int .i64 x.pos.Col,.int .i64 x.e]
abbrev U3 (x:G5)  : List Value := [qZs x.Word,qZs x.Name,.int .i64 x.Stars]
abbrev X8 (x:Z6) (a9:Option Addr) (c9:Nat):List Value := [.int .i64 x.Kind,.int .i64 x.Pos.Line,.int .i64 x.Pos.Col,qZs x.Op,qZs x.Name,.int .u32 x.Num,qZs x.Type_.Word,qZs x.Type_.Name,.int .i64 x.Type_.Stars,.slice a9 (List.length x.Kids) c9]
abbrev N1 (x:J8) (a6:Option Addr) (c6:Nat) (a7:Option Addr) (c7:Nat):List Value := [.int .i64 x.Pos.Line,.int .i64 x.Pos.Col,qZs x.Type_.Word,qZs x.Type_.Name,.int .i64 x.Type_.Stars,qZs x.Name,.slice a6 (List.length x.Dims) c6,.slice a7 (List.length x.Init) c7,.bool x.Brace]
abbrev B4 (x:U5) (a3:Option Addr) (c3:Nat) (a4:Option Addr) (c4:Nat) (a5:Option Addr) (c5:Nat) (a6:Option Addr) (c6:Nat) (a7:Option Addr) (c7:Nat) (a8:Option Addr) (c8:Nat) (a9:Option Addr) (c9:Nat):List Value := [.int .i64 x.Kind,.int .i64 x.Pos.Line,.int .i64 x.Pos.Col,.slice a3 (List.length x.A) c3,.slice a4 (List.length x.B) c4,.slice a5 (List.length x.C) c5,.slice a6 (List.length x.Var) c6,.slice a7 (List.length x.Body) c7,.slice a8 (List.length x.Else) c8,.slice a9 (List.length x.Cases) c9]
abbrev F4 (x:K7) (a4:Option Addr) (c4:Nat):List Value := [.int .i64 x.Pos.Line,.int .i64 x.Pos.Col,.bool x.Default,.int .u32 x.Num,.slice a4 (List.length x.Body) c4]
abbrev D8 (x:F7) (a3:Option Addr) (c3:Nat):List Value := [.int .i64 x.Pos.Line,.int .i64 x.Pos.Col,qZs x.Name,.slice a3 (List.length x.Fields) c3]
abbrev A2 (x:P4) (a6:Option Addr) (c6:Nat) (a7:Option Addr) (c7:Nat):List Value := [.int .i64 x.Pos.Line,.int .i64 x.Pos.Col,qZs x.Ret.Word,qZs x.Ret.Name,.int .i64 x.Ret.Stars,qZs x.Name,.slice a6 (List.length x.Params) c6,.slice a7 (List.length x.Body) c7]
abbrev iv (x:Int):Value := .int .i64 x
abbrev sv {α : Type} (a:Option Addr) (l:List α) (c:Nat):Value := .slice a (List.length l) c
abbrev pt (b o:Nat):Value := .pointer (some ⟨b,o,none⟩)
abbrev OA:=Option Addr
abbrev JV:=Nat→Value
abbrev TP:=Nat→Prop

theorem Q4p {p0:List UInt8} {p1:List UInt8} {r:Bool} (hS:Sep g T0 w0 [R])  (hm:O9 p0 p1=some r) :
    Calls Tryz.prog 78 #[qZs p0,qZs p1] w0 (E6 T0 w0 fun T w v=>v = .bool r∧Sep g T w [R]∧True):=by
  refine enter (args := [qZs p0,qZs p1]) Tryz.func78 rfl Tryz.ntmps78 rfl fun J => ?_
  unfold O9 at hm
  refine sq2 (rg (pv (X5 rfl) (nil (Q0 ?_))))
  refine sq2 (rg (pv (P2 rfl) (pv (Q5g rfl underlying9) (pv (P2 rfl) (pv (Q5g rfl underlying9) (pv (X7 rfl rfl rfl) (pv (Y7 rfl) (?_))))))))
  rcases Bool.eq_false_or_eq_true (decide ((List.length p1:Int)≤(List.length p0:Int))) with hb1 | hb1
  · have hm:=V8 hb1 hm
    obtain⟨u1,hx1,hm⟩:=Q4 hm
    refine gT (d0:=10) rfl rfl hb1 (pv (P2 rfl) (gT (d0:=10) rfl rfl hb1 (pv (P2 rfl) (gT (d0:=10) rfl rfl hb1 (pv (Q5g rfl underlying9) (gT (d0:=10) rfl rfl hb1 (pv (Z0u rfl rfl ⟨_,rfl⟩ hx1 underlying9) (gT (d0:=10) rfl rfl hb1 (pv (P2 rfl) (gT (d0:=10) rfl rfl hb1 (pv (E7 rfl rfl) (pv (Y1 rfl hb1 rfl) (pv (X5 rfl) (nil (Q0 ?_)))))))))))))))
    cases oI hm
    exact rtn (U2 rfl rfl ⟨_,rfl,_,Im.refl,⟨rfl,hS.sel [0] rfl,qZt⟩⟩)
  have hm:=X3 hb1 hm
  refine gF (d0:=10) rfl rfl (by rw [hb1]; rfl) (gF (d0:=10) rfl rfl (by rw [hb1]; rfl) (gF (d0:=10) rfl rfl (by rw [hb1]; rfl) (gF (d0:=10) rfl rfl (by rw [hb1]; rfl) (gF (d0:=10) rfl rfl (by rw [hb1]; rfl) (gF (d0:=10) rfl rfl (by rw [hb1]; rfl) (pv (X9 rfl hb1 rfl) (pv (X5 rfl) (nil (Q0 ?_)))))))))
  cases oI hm
  exact rtn (U2 rfl rfl ⟨_,rfl,_,Im.refl,⟨rfl,hS.sel [0] rfl,qZt⟩⟩)

theorem H8 {p0:List UInt8} {p1:List UInt8} {r:Bool} (hS:Sep g T0 w0 [R])  (hm:P1 p0 p1=some r) :
    Calls Tryz.prog 48 #[qZs p0,qZs p1] w0 (E6 T0 w0 fun T w v=>v = .bool r∧Sep g T w [R]∧True):=by
  refine enter (args := [qZs p0,qZs p1]) Tryz.func48 rfl Tryz.ntmps48 rfl fun J => ?_
  unfold P1 at hm
  refine sq2 (rg (pv (X5 rfl) (nil (Q0 ?_))))
  refine sq2 ?_
  obtain⟨y1,hx1,hm⟩:=Q4 hm
  refine rg (pv (P2 rfl) (pv (P2 rfl) (wl rfl (Z7 cf78 rfl (Q4p (p0:=p0) (p1:=p1) (hS.bun [0] [] rfl)  hx1) rfl fun v1 T1 w1 im1 rv1 => ?_))))
  obtain⟨rfl,hS1,_⟩:=rv1
  have hS1:=hS1.unb
  refine pv (X5 rfl) (nil (Q0 ?_))
  cases oI hm
  exact rtn (U2 rfl rfl ⟨_,rfl,_,im1,⟨rfl,hS1.sel [0] rfl,qZt⟩⟩)

theorem Z0x {p0:Int} {r:Bool} (hS:Sep g T0 w0 [R])  (hm:Q3l p0=some r) :
    Calls Tryz.prog 51 #[.int .u8 p0] w0 (E6 T0 w0 fun T w v=>v = .bool r∧Sep g T w [R]∧True):=by
  refine enter (args := [.int .u8 p0]) Tryz.func51 rfl Tryz.ntmps51 rfl fun J => ?_
  unfold Q3l at hm
  refine sq2 (rg (pv (X5 rfl) (nil (Q0 ?_))))
  refine sq2 (rg (pv (U1 rfl) (pv (X7 rfl rfl rfl) (pv (Y7 rfl) (?_)))))
  rcases Bool.eq_false_or_eq_true (p0 == 32) with hb1 | hb1
  · have hm:=V8 hb1 hm
    refine gF (d0:=5) rfl rfl (by rw [hb1]; rfl) (gF (d0:=5) rfl rfl (by rw [hb1]; rfl) (pv (Y1 rfl hb1 rfl) (pv (Y7 rfl) (gF (d0:=9) rfl rfl rfl (gF (d0:=9) rfl rfl rfl (pv (Y1 rfl rfl rfl) (pv (Y7 rfl) (gF (d0:=13) rfl rfl rfl (gF (d0:=13) rfl rfl rfl (pv (Y1 rfl rfl rfl) (pv (X5 rfl) (nil (Q0 ?_)))))))))))))
    cases oI hm
    exact rtn (U2 rfl rfl ⟨_,rfl,_,Im.refl,⟨rfl,hS.sel [0] rfl,qZt⟩⟩)
  have hm:=X3 hb1 hm
  refine gT (d0:=5) rfl rfl hb1 (pv (U1 rfl) (gT (d0:=5) rfl rfl hb1 (pv (X7 rfl rfl rfl) (pv (X9 rfl hb1 rfl) (pv (Y7 rfl) (?_))))))
  rcases Bool.eq_false_or_eq_true (p0 == 9) with hb2 | hb2
  · have hm:=V8 hb2 hm
    refine gF (d0:=9) rfl rfl (by rw [hb2]; rfl) (gF (d0:=9) rfl rfl (by rw [hb2]; rfl) (pv (Y1 rfl hb2 rfl) (pv (Y7 rfl) (gF (d0:=13) rfl rfl rfl (gF (d0:=13) rfl rfl rfl (pv (Y1 rfl rfl rfl) (pv (X5 rfl) (nil (Q0 ?_)))))))))
    cases oI hm
    exact rtn (U2 rfl rfl ⟨_,rfl,_,Im.refl,⟨rfl,hS.sel [0] rfl,qZt⟩⟩)
  have hm:=X3 hb2 hm
  refine gT (d0:=9) rfl rfl hb2 (pv (U1 rfl) (gT (d0:=9) rfl rfl hb2 (pv (X7 rfl rfl rfl) (pv (X9 rfl hb2 rfl) (pv (Y7 rfl) (?_))))))
  rcases Bool.eq_false_or_eq_true (p0 == 10) with hb3 | hb3
  · have hm:=V8 hb3 hm
    refine gF (d0:=13) rfl rfl (by rw [hb3]; rfl) (gF (d0:=13) rfl rfl (by rw [hb3]; rfl) (pv (Y1 rfl hb3 rfl) (pv (X5 rfl) (nil (Q0 ?_)))))
    cases oI hm
    exact rtn (U2 rfl rfl ⟨_,rfl,_,Im.refl,⟨rfl,hS.sel [0] rfl,qZt⟩⟩)
  have hm:=X3 hb3 hm
  refine gT (d0:=13) rfl rfl hb3 (pv (U1 rfl) (gT (d0:=13) rfl rfl hb3 (pv (X7 rfl rfl rfl) (pv (X9 rfl hb3 rfl) (pv (X5 rfl) (nil (Q0 ?_)))))))
  cases oI hm
  exact rtn (U2 rfl rfl ⟨_,rfl,_,Im.refl,⟨rfl,hS.sel [0] rfl,qZt⟩⟩)

theorem Z3o {p0:List UInt8} {r:Int} (hS:Sep g T0 w0 [R])  (hm:Q6y p0=some r) :
    Calls Tryz.prog 50 #[qZs p0,.func (.func 51) #[] #[]] w0 (E6 T0 w0 fun T w v=>v=iv r∧Sep g T w [R]∧True):=by
  refine enter (args := [qZs p0,.func (.func 51) #[] #[]]) Tryz.func50 rfl Tryz.ntmps50 rfl fun J => ?_
  unfold Q6y at hm
  refine sq2 (rg (pv (J0 rfl) (nil (Q0 ?_))))
  refine sq2 (rg (pv (J0 rfl) (nil (Q0 ?_))))
  refine sq2 ?_
  obtain⟨o1,ho1,hq1⟩:=Q4 hm
  obtain⟨bd1,hbd1,ho1⟩:=K3 ho1
  refine blk (wp_loop_ghost (fun m a w1 => ∃(J:JV) (T1:TP) (x1:Int),a=env (nf 20) J [(0,(qZs p0)),(1,.func (.func 51) #[] #[]),(5,iv x1)]∧Im T0 w0 T1 w1∧Sep g T1 w1 [R]∧V7 bd1 m x1=some o1) NN ⟨_,_,0,Q7 ⟨rfl,rfl,rfl,qZt⟩,Im.refl,hS.sel [0] rfl,ho1⟩ ?_)
  rintro m _ w1 ⟨J,T1,x1,rfl,im1,hS1,ho1⟩
  obtain⟨m1,z1,rfl,hm,hn1⟩:=U4 ho1
  rw [hbd1] at hm
  refine sq2 (sq2 (rg (pv (U1 rfl) (pv (P2 rfl) (pv (Q5g rfl underlying9) (pv (X7 rfl rfl rfl) (pv (Y7 rfl) (?_))))))))
  rcases Bool.eq_false_or_eq_true (decide (x1 < (List.length p0:Int))) with hb1 | hb1
  · have hm:=V8 hb1 hm
    obtain⟨u1,hx1,hm⟩:=Q4 hm
    obtain⟨y1,hx2,hm⟩:=Q4 hm
    refine gT (d0:=10) rfl rfl hb1 (pv (r_mf rfl) (gT (d0:=10) rfl rfl hb1 (pv (P2 rfl) (gT (d0:=10) rfl rfl hb1 (pv (U1 rfl) (gT (d0:=10) rfl rfl hb1 (pv (Q3h rfl rfl hx1 underlying9) (gT (d0:=10) rfl rfl hb1 (wl rfl (Z7 cf51 rfl (Z0x (p0:=(UInt8.toNat u1:Int)) (hS1.bun [0] [] rfl)  hx2) rfl fun v1 T2 w2 im2 rv1 => ?_))))))))))
    obtain⟨rfl,hS2,_⟩:=rv1
    have hS2:=hS2.unb
    refine pv (Y1 rfl hb1 rfl) (nil (Q0 ?_))
    refine V3 rfl hm (fun hb2 hm => ?_) fun hb2 hm => ?_
    · refine skp (Q0 ?_)
      refine blk ?_
      cases oI hm
      exact rg (pv (U1 rfl) (pv (X7 rfl rfl rfl) (pv (J0 rfl) (nil (U6 (Q0 ⟨m1,Nat.lt_succ_self _,_,_,(IntKind.wrap .i64 (x1+1)),Q7 ⟨rfl,rfl,rfl,qZt⟩,(iT im1 im2),hS2.sel [0] rfl,hn1⟩))))))
    cases oI hm
    have hn1:_=Lp.brk _:=hn1
    subst hn1
    have hm:=F1 hq1
    refine xt (V9 (V9 (L5 (Q0 ?_))))
    refine sq2 (rg (pv (U1 rfl) (pv (J0 rfl) (nil (Q0 ?_)))))
    cases oI hm
    exact rtn (U2 rfl rfl ⟨_,rfl,_,(iT im1 im2),⟨rfl,hS2.sel [0] rfl,qZt⟩⟩)
  have hm:=X3 hb1 hm
  refine gF (d0:=10) rfl rfl (by rw [hb1]; rfl) (gF (d0:=10) rfl rfl (by rw [hb1]; rfl) (gF (d0:=10) rfl rfl (by rw [hb1]; rfl) (gF (d0:=10) rfl rfl (by rw [hb1]; rfl) (gF (d0:=10) rfl rfl (by rw [hb1]; rfl) (pv (X9 rfl hb1 rfl) (nil (Q0 ?_)))))))
  refine cnd (b:=false) rfl (fun h=>nomatch h) (fun _ => ?_)
  cases oI hm
  have hn1:_=Lp.brk _:=hn1
  subst hn1
  have hm:=F1 hq1
  refine xt (V9 (V9 (L5 (Q0 ?_))))
  refine sq2 (rg (pv (U1 rfl) (pv (J0 rfl) (nil (Q0 ?_)))))
  cases oI hm
  exact rtn (U2 rfl rfl ⟨_,rfl,_,im1,⟨rfl,hS1.sel [0] rfl,qZt⟩⟩)

theorem Z2n {p0:List UInt8} {r:Int} (hS:Sep g T0 w0 [R]) (hG0:Gi T0 w0 0) (hm:Q3y p0=some r) :
    Calls Tryz.prog 27 #[qZs p0] w0 (E6 T0 w0 fun T w v=>v=iv r∧Sep g T w [R]∧True):=by
  refine enter (args := [qZs p0]) Tryz.func27 rfl Tryz.ntmps27 rfl fun J => ?_
  unfold Q3y at hm
  refine sq2 (rg (pv (J0 rfl) (nil (Q0 ?_))))
  refine sq2 (sq2 ?_)
  obtain⟨y1,hx1,hm⟩:=Q4 hm
  refine rg (pv (P2 rfl) (wl rfl (Z7 cf48 rfl (H8 (p0:=p0) (p1 := [47,47]) (hS.bun [0] [] rfl)  hx1) rfl fun v1 T1 w1 im1 rv1 => ?_)))
  obtain⟨rfl,hS1,_⟩:=rv1
  have hS1:=hS1.unb
  refine nil (Q0 ?_)
  refine V3 rfl hm (fun hb1 hm => ?_) fun hb1 hm => ?_
  · refine sq2 (sq2 ?_)
    obtain⟨y2,hx2,hm⟩:=Q4 hm
    refine rg (pv (P2 rfl) (wl rfl (Z7 cf49 rfl (Q4v (p0:=p0) (p1 := [10]) (hS1.bun [0] [] rfl) (hG0.mono im1) hx2) rfl fun v2 T2 w2 im2 rv2 => ?_)))
    obtain⟨rfl,hS2,_⟩:=rv2
    have hS2:=hS2.unb
    refine pv (J0 rfl) (nil (Q0 ?_))
    refine sq2 (rg (pv (U1 rfl) (pv (X7 rfl rfl rfl) (nil (Q0 ?_)))))
    refine V3 rfl hm (fun hb2 hm => ?_) fun hb2 hm => ?_
    · refine sq2 (rg (pv (U1 rfl) (pv (J0 rfl) (nil (Q0 ?_)))))
      cases oI hm
      exact rtn (Q6 (Q6 (U2 rfl rfl ⟨_,rfl,_,(iT im1 im2),⟨rfl,hS2.sel [0] rfl,qZt⟩⟩)))
    refine skp (Q0 ?_)
    refine sq2 (rg (pv (P2 rfl) (pv (Q5g rfl underlying9) (pv (J0 rfl) (nil (Q0 ?_))))))
    cases oI hm
    exact rtn (Q6 (U2 rfl rfl ⟨_,rfl,_,(iT im1 im2),⟨rfl,hS2.sel [0] rfl,qZt⟩⟩))
  refine skp (Q0 ?_)
  refine sq2 (sq2 ?_)
  obtain⟨y3,hx3,hm⟩:=Q4 hm
  refine rg (pv (P2 rfl) (wl rfl (Z7 cf48 rfl (H8 (p0:=p0) (p1 := [47,42]) (hS1.bun [0] [] rfl)  hx3) rfl fun v3 T3 w3 im3 rv3 => ?_)))
  obtain⟨rfl,hS3,_⟩:=rv3
  have hS3:=hS3.unb
  refine nil (Q0 ?_)
  refine V3 rfl hm (fun hb3 hm => ?_) fun hb3 hm => ?_
  · refine sq2 ?_
    obtain⟨u1,hx4,hm⟩:=Q4 hm
    obtain⟨y4,hx5,hm⟩:=Q4 hm
    refine rg (pv (P2 rfl) (pv (Z0u rfl ⟨_,rfl⟩ rfl hx4 underlying9) (wl rfl (Z7 cf49 rfl (Q4v (p0:=u1) (p1 := [42,47]) (hS3.bun [0] [] rfl) (hG0.mono (iT im1 im3)) hx5) rfl fun v4 T4 w4 im4 rv4 => ?_))))
    obtain⟨rfl,hS4,_⟩:=rv4
    have hS4:=hS4.unb
    refine pv (J0 rfl) (nil (Q0 ?_))
    refine sq2 (sq2 (rg (pv (U1 rfl) (pv (X7 rfl rfl rfl) (nil (Q0 ?_))))))
    refine V3 rfl hm (fun hb4 hm => ?_) fun hb4 hm => ?_
    · refine sq2 (rg (pv (J0 rfl) (nil (Q0 ?_))))
      cases oI hm
      exact rtn (Q6 (Q6 (U2 rfl rfl ⟨_,rfl,_,(iT im1 (iT im3 im4)),⟨rfl,hS4.sel [0] rfl,qZt⟩⟩)))
    refine skp (Q0 ?_)
    refine sq2 (rg (pv (U1 rfl) (pv (X7 rfl rfl rfl) (pv (J0 rfl) (nil (Q0 ?_))))))
    cases oI hm
    exact rtn (Q6 (U2 rfl rfl ⟨_,rfl,_,(iT im1 (iT im3 im4)),⟨rfl,hS4.sel [0] rfl,qZt⟩⟩))
  refine skp (Q0 ?_)
  refine sq2 ?_
  obtain⟨y5,hx6,hm⟩:=Q4 hm
  refine rg (pv (P2 rfl) (wl rfl (Z7 cf50 rfl (Z3o (p0:=p0) (hS3.bun [0] [] rfl)  hx6) rfl fun v5 T5 w5 im5 rv5 => ?_)))
  obtain⟨rfl,hS5,_⟩:=rv5
  have hS5:=hS5.unb
  refine pv (J0 rfl) (nil (Q0 ?_))
  cases oI hm
  exact rtn (U2 rfl rfl ⟨_,rfl,_,(iT im1 (iT im3 im5)),⟨rfl,hS5.sel [0] rfl,qZt⟩⟩)

theorem Q3k {p0:F9} {X4 X2:Nat} {Q2:List Value→J7} {p1:Int} {r:F9} (hS:Sep g T0 w0 [R,Q2 (Q3n p0)]) (Q3:Ln X4 X2 Q2) (hm:H5 p0 p1=some r) :
    Calls Tryz.prog 28 #[pt X4 X2,iv p1] w0 (E6 T0 w0 fun T w v=>v = .tuple #[]∧Sep g T w [R,Q2 (Q3n r)]∧True):=by
  refine enter (args := [pt X4 X2,iv p1]) Tryz.func28 rfl Tryz.ntmps28 rfl fun J => ?_
  unfold H5 at hm
  refine sq2 (sq2 ?_)
  obtain⟨u1,hx1,hm⟩:=Q4 hm
  obtain⟨z_1,hro1,hm⟩:=Q4 hm
  refine rg (pv (Z9 rfl) (pv (J1 rfl) (pv (Z1 rfl underlying84 rfl sizeOf9 rfl) (pv (Z4 rfl isAgg9 (hS.cellB (i:=1) ⟨rfl,rfl⟩ Q3 (j:=0) rfl)) (pv (U1 rfl) (pv (Z0u rfl rfl ⟨_,rfl⟩ hx1 underlying9) (wl rfl (cvB hS rfl underlying9 underlying112 underlying5 (D5 hro1) fun T1 w1 a1 c1 im1 hS1 h1 => ?_))))))))
  refine pv (L3 rfl underlying112) (pv (U1 rfl) (nil (Q0 ?_)))
  obtain⟨o1,ho1,hq1⟩:=Q4 hm
  obtain⟨bd1,hbd1,ho1⟩:=K3 ho1
  refine blk (wp_loop_ghost (fun m a w2 => ∃(J:JV) (T2:TP) (x2:F9) (x1:Int),a=env (nf 49) J [(0,pt X4 X2),(1,iv p1),(12,.slice a1 (List.length (D7 u1)) c1),(13,iv (List.length (D7 u1):Int)),(14,iv x1)]∧Im T1 w1 T2 w2∧Sep g T2 w2 [R,Q2 (Q3n x2)]∧V7 bd1 m (x1,x2)=some o1) NN ⟨_,_,p0,0,Q7 ⟨rfl,rfl,rfl,rfl,rfl,qZt⟩,Im.refl,hS1.sel [0,1] rfl,ho1⟩ ?_)
  rintro m _ w2 ⟨J,T2,x2,x1,rfl,im2,hS2,ho1⟩
  obtain⟨m1,z1,rfl,hm,hn1⟩:=U4 ho1
  rw [hbd1] at hm
  refine sq2 (rg (pv (X7 rfl rfl rfl) (nil (Q0 ?_))))
  refine sq2 (cnd rfl (fun hb1 => ?_) (fun hb1 => ?_))
  · have hm:=V8 hb1 hm
    refine skp (Q0 ?_)
    obtain⟨kk1,hkk1,hm⟩:=F6 hm
    refine cut (fun a w3 => ∃(J:JV) (T3:TP) (x3:F9),a=env (nf 49) J [(0,pt X4 X2),(1,iv p1),(12,.slice a1 (List.length (D7 u1)) c1),(13,iv (List.length (D7 u1):Int)),(14,iv x1)]∧Im T2 w2 T3 w3∧Sep g T3 w3 [R,Q2 (Q3n x3)]∧kk1 x3=some z1) ?_ ?_
    · refine blk (sq2 ?_)
      obtain⟨u2,hx2,hm⟩:=Q4 hm
      obtain⟨b1,of1,cs1,k1,cp1,hv1,hp1,hl1,he1,hr1,hc1,hT1⟩:=(h1.mono im2).ixT hx2 rfl
      cases hr1
      refine rg (pv (B2 hv1 rfl underlying112 sizeOf5 hp1 hl1 he1) (pv (Z4 rfl isAgg5 (hc1.get (j:=0) rfl)) (pv (J0 rfl) (nil (Q0 ?_)))))
      refine sq2 (rg (pv (Z9 rfl) (pv (J1 rfl) (pv (Z1 rfl underlying84 rfl sizeOf29 rfl) (pv (Z1 rfl underlying29 rfl sizeOf3 rfl) (pv (Z4 rfl isAgg3 (hS2.cellB (i:=1) ⟨rfl,rfl⟩ Q3 (j:=2) rfl)) (pv (X7 rfl rfl rfl) (pv (J1 rfl) (pv (Z1 rfl underlying84 rfl sizeOf29 rfl) (pv (Z1 rfl underlying29 rfl sizeOf3 rfl) (wl rfl (stB (q:=1) (j:=2) hS2 ⟨rfl,rfl⟩ Q3 rfl rfl rfl sizeOf3 rfl rfl rfl fun w4 im4 hS3 => ?_))))))))))))
      refine nil (Q0 ?_)
      refine sq2 (rg (pv (U1 rfl) (pv (X7 rfl rfl rfl) (nil (Q0 ?_)))))
      refine V3 rfl hm (fun hb2 hm => ?_) fun hb2 hm => ?_
      · refine rg (pv (Z9 rfl) (pv (Z9 rfl) (pv (J1 rfl) (pv (Z1 rfl underlying84 rfl sizeOf29 rfl) (pv (Z1 rfl underlying29 rfl sizeOf3 rfl) (pv (Z4 rfl isAgg3 (hS3.cellB (i:=1) ⟨rfl,rfl⟩ Q3 (j:=1) rfl)) (pv (X7 rfl rfl rfl) (pv (A8 (by kernel_rfl) rfl (u := .agg #[iv (IntKind.wrap .i64 (x2.pos.Line+1)),iv 1])) (pv (J1 rfl) (pv (Z1 rfl underlying84 rfl sizeOf29 rfl) (wl rfl (stB (q:=1) (j:=1) hS3 ⟨rfl,rfl⟩ Q3 rfl rfl rfl sizeOf29 rfl rfl rfl fun w5 im5 hS4 => ?_))))))))))))
        exact nil (U6 (Q0 ⟨_,_,(⟨x2.s,(⟨IntKind.wrap .i64 (x2.pos.Line+1),1⟩:Pos)⟩:F9),Q7 ⟨rfl,rfl,rfl,rfl,rfl,qZt⟩,(iT im4 im5),hS4.sel [0,1] rfl,hm⟩))
      exact skp (U6 (Q0 ⟨_,_,(⟨x2.s,(⟨x2.pos.Line,IntKind.wrap .i64 (x2.pos.Col+1)⟩:Pos)⟩:F9),Q7 ⟨rfl,rfl,rfl,rfl,rfl,qZt⟩,im4,hS3.sel [0,1] rfl,hm⟩))
    rintro _ w3 ⟨J,T3,x3,rfl,im3,hS5,hm⟩
    rw [hkk1] at hm
    cases oI hm
    exact rg (pv (X7 rfl rfl rfl) (pv (U1 rfl) (nil (Q0 ⟨m1,Nat.lt_succ_self _,_,_,x3,(IntKind.wrap .i64 (x1+1)),Q7 ⟨rfl,rfl,rfl,rfl,rfl,qZt⟩,(iT im2 im3),hS5.sel [0,1] rfl,hn1⟩))))
  have hm:=X3 hb1 hm
  cases oI hm
  have hn1:_=Lp.brk _:=hn1
  subst hn1
  have hm:=F1 hq1
  refine xt (V9 (V9 (L5 (Q0 ?_))))
  obtain⟨u3,hx3,hm⟩:=Q4 hm
  refine rg (pv (Z9 rfl) (pv (Z9 rfl) (pv (J1 rfl) (pv (Z1 rfl underlying84 rfl sizeOf9 rfl) (pv (Z4 rfl isAgg9 (hS2.cellB (i:=1) ⟨rfl,rfl⟩ Q3 (j:=0) rfl)) (pv (U1 rfl) (pv (Z0u rfl ⟨_,rfl⟩ rfl hx3 underlying9) (pv (J1 rfl) (pv (Z1 rfl underlying84 rfl sizeOf9 rfl) (wl rfl (stB (q:=1) (j:=0) hS2 ⟨rfl,rfl⟩ Q3 rfl rfl rfl sizeOf9 rfl rfl rfl fun w6 im6 hS6 => ?_)))))))))))
  cases oI hm
  exact nil (S7 rfl ⟨_,rfl,_,(iT im1 (iT im2 im6)),⟨rfl,hS6.sel [0,1] rfl,qZt⟩⟩)

theorem Q7a {p0:Int} {r:Bool} (hS:Sep g T0 w0 [R])  (hm:Q2t p0=some r) :
    Calls Tryz.prog 52 #[.int .u8 p0] w0 (E6 T0 w0 fun T w v=>v = .bool r∧Sep g T w [R]∧True):=by
  refine enter (args := [.int .u8 p0]) Tryz.func52 rfl Tryz.ntmps52 rfl fun J => ?_
  unfold Q2t at hm
  refine sq2 (rg (pv (X5 rfl) (nil (Q0 ?_))))
  refine sq2 (rg (pv (U1 rfl) (pv (X7 rfl rfl rfl) (pv (Y7 rfl) (?_)))))
  rcases Bool.eq_false_or_eq_true (decide (97≤p0)) with hb1 | hb1
  · have hm:=V8 hb1 hm
    refine gT (d0:=5) rfl rfl hb1 (pv (U1 rfl) (gT (d0:=5) rfl rfl hb1 (pv (X7 rfl rfl rfl) (pv (Y1 rfl hb1 rfl) (pv (Y7 rfl) (?_))))))
    rcases Bool.eq_false_or_eq_true (decide (p0≤122)) with hb2 | hb2
    · have hm:=V8 hb2 hm
      refine gF (d0:=9) rfl rfl (by rw [hb2]; rfl) (gF (d0:=9) rfl rfl (by rw [hb2]; rfl) (gF (d0:=9) rfl rfl (by rw [hb2]; rfl) (gU (d0:=12) rfl rfl (gU (d0:=12) rfl rfl (gF (d0:=9) rfl rfl (by rw [hb2]; rfl) (pv (Y1 rfl hb2 rfl) (pv (Y7 rfl) (gF (d0:=17) rfl rfl rfl (gF (d0:=17) rfl rfl rfl (pv (Y1 rfl rfl rfl) (pv (X5 rfl) (nil (Q0 ?_)))))))))))))
      cases oI hm
      exact rtn (U2 rfl rfl ⟨_,rfl,_,Im.refl,⟨rfl,hS.sel [0] rfl,qZt⟩⟩)
    have hm:=X3 hb2 hm
    refine gT (d0:=9) rfl rfl hb2 (pv (U1 rfl) (gT (d0:=9) rfl rfl hb2 (pv (X7 rfl rfl rfl) (gT (d0:=9) rfl rfl hb2 (pv (Y7 rfl) (?_))))))
    rcases Bool.eq_false_or_eq_true (decide (65≤p0)) with hb3 | hb3
    · have hm:=V8 hb3 hm
      refine gT (d0:=12) rfl rfl hb3 (pv (U1 rfl) (gT (d0:=12) rfl rfl hb3 (pv (X7 rfl rfl rfl) (gT (d0:=9) rfl rfl hb2 (pv (Y1 rfl hb3 rfl) (pv (X9 rfl hb2 rfl) (pv (Y7 rfl) (?_))))))))
      rcases Bool.eq_false_or_eq_true (decide (p0≤90)) with hb4 | hb4
      · have hm:=V8 hb4 hm
        refine gF (d0:=17) rfl rfl (by rw [hb4]; rfl) (gF (d0:=17) rfl rfl (by rw [hb4]; rfl) (pv (Y1 rfl hb4 rfl) (pv (X5 rfl) (nil (Q0 ?_)))))
        cases oI hm
        exact rtn (U2 rfl rfl ⟨_,rfl,_,Im.refl,⟨rfl,hS.sel [0] rfl,qZt⟩⟩)
      have hm:=X3 hb4 hm
      refine gT (d0:=17) rfl rfl hb4 (pv (U1 rfl) (gT (d0:=17) rfl rfl hb4 (pv (X7 rfl rfl rfl) (pv (X9 rfl hb4 rfl) (pv (X5 rfl) (nil (Q0 ?_)))))))
      cases oI hm
      exact rtn (U2 rfl rfl ⟨_,rfl,_,Im.refl,⟨rfl,hS.sel [0] rfl,qZt⟩⟩)
    have hm:=X3 hb3 hm
    refine gF (d0:=12) rfl rfl (by rw [hb3]; rfl) (gF (d0:=12) rfl rfl (by rw [hb3]; rfl) (gT (d0:=9) rfl rfl hb2 (pv (X9 rfl hb3 rfl) (pv (X9 rfl hb2 rfl) (pv (Y7 rfl) (gT (d0:=17) rfl rfl rfl (pv (U1 rfl) (gT (d0:=17) rfl rfl rfl (pv (X7 rfl rfl rfl) (pv (X9 rfl rfl rfl) (pv (X5 rfl) (nil (Q0 ?_)))))))))))))
    cases oI hm
    exact rtn (U2 rfl rfl ⟨_,rfl,_,Im.refl,⟨rfl,hS.sel [0] rfl,qZt⟩⟩)
  have hm:=X3 hb1 hm
  refine gF (d0:=5) rfl rfl (by rw [hb1]; rfl) (gF (d0:=5) rfl rfl (by rw [hb1]; rfl) (pv (X9 rfl hb1 rfl) (pv (Y7 rfl) (gT (d0:=9) rfl rfl rfl (pv (U1 rfl) (gT (d0:=9) rfl rfl rfl (pv (X7 rfl rfl rfl) (gT (d0:=9) rfl rfl rfl (pv (Y7 rfl) (?_))))))))))
  rcases Bool.eq_false_or_eq_true (decide (65≤p0)) with hb5 | hb5
  · have hm:=V8 hb5 hm
    refine gT (d0:=12) rfl rfl hb5 (pv (U1 rfl) (gT (d0:=12) rfl rfl hb5 (pv (X7 rfl rfl rfl) (gT (d0:=9) rfl rfl rfl (pv (Y1 rfl hb5 rfl) (pv (X9 rfl rfl rfl) (pv (Y7 rfl) (?_))))))))
    rcases Bool.eq_false_or_eq_true (decide (p0≤90)) with hb6 | hb6
    · have hm:=V8 hb6 hm
      refine gF (d0:=17) rfl rfl (by rw [hb6]; rfl) (gF (d0:=17) rfl rfl (by rw [hb6]; rfl) (pv (Y1 rfl hb6 rfl) (pv (X5 rfl) (nil (Q0 ?_)))))
      cases oI hm
      exact rtn (U2 rfl rfl ⟨_,rfl,_,Im.refl,⟨rfl,hS.sel [0] rfl,qZt⟩⟩)
    have hm:=X3 hb6 hm
    refine gT (d0:=17) rfl rfl hb6 (pv (U1 rfl) (gT (d0:=17) rfl rfl hb6 (pv (X7 rfl rfl rfl) (pv (X9 rfl hb6 rfl) (pv (X5 rfl) (nil (Q0 ?_)))))))
    cases oI hm
    exact rtn (U2 rfl rfl ⟨_,rfl,_,Im.refl,⟨rfl,hS.sel [0] rfl,qZt⟩⟩)
  have hm:=X3 hb5 hm
  refine gF (d0:=12) rfl rfl (by rw [hb5]; rfl) (gF (d0:=12) rfl rfl (by rw [hb5]; rfl) (gT (d0:=9) rfl rfl rfl (pv (X9 rfl hb5 rfl) (pv (X9 rfl rfl rfl) (pv (Y7 rfl) (gT (d0:=17) rfl rfl rfl (pv (U1 rfl) (gT (d0:=17) rfl rfl rfl (pv (X7 rfl rfl rfl) (pv (X9 rfl rfl rfl) (pv (X5 rfl) (nil (Q0 ?_)))))))))))))
  cases oI hm
  exact rtn (U2 rfl rfl ⟨_,rfl,_,Im.refl,⟨rfl,hS.sel [0] rfl,qZt⟩⟩)

theorem Q5e {p0:Int} {r:Bool} (hS:Sep g T0 w0 [R])  (hm:Q2u p0=some r) :
    Calls Tryz.prog 55 #[.int .u8 p0] w0 (E6 T0 w0 fun T w v=>v = .bool r∧Sep g T w [R]∧True):=by
  refine enter (args := [.int .u8 p0]) Tryz.func55 rfl Tryz.ntmps55 rfl fun J => ?_
  unfold Q2u at hm
  refine sq2 (rg (pv (X5 rfl) (nil (Q0 ?_))))
  refine sq2 (rg (pv (U1 rfl) (pv (X7 rfl rfl rfl) (pv (Y7 rfl) (?_)))))
  rcases Bool.eq_false_or_eq_true (decide (48≤p0)) with hb1 | hb1
  · have hm:=V8 hb1 hm
    refine gT (d0:=5) rfl rfl hb1 (pv (U1 rfl) (gT (d0:=5) rfl rfl hb1 (pv (X7 rfl rfl rfl) (pv (Y1 rfl hb1 rfl) (pv (X5 rfl) (nil (Q0 ?_)))))))
    cases oI hm
    exact rtn (U2 rfl rfl ⟨_,rfl,_,Im.refl,⟨rfl,hS.sel [0] rfl,qZt⟩⟩)
  have hm:=X3 hb1 hm
  refine gF (d0:=5) rfl rfl (by rw [hb1]; rfl) (gF (d0:=5) rfl rfl (by rw [hb1]; rfl) (pv (X9 rfl hb1 rfl) (pv (X5 rfl) (nil (Q0 ?_)))))
  cases oI hm
  exact rtn (U2 rfl rfl ⟨_,rfl,_,Im.refl,⟨rfl,hS.sel [0] rfl,qZt⟩⟩)

theorem Z3p {p0:Int} {r:Bool} (hS:Sep g T0 w0 [R])  (hm:Q6z p0=some r) :
    Calls Tryz.prog 53 #[.int .u8 p0] w0 (E6 T0 w0 fun T w v=>v = .bool r∧Sep g T w [R]∧True):=by
  refine enter (args := [.int .u8 p0]) Tryz.func53 rfl Tryz.ntmps53 rfl fun J => ?_
  unfold Q6z at hm
  refine sq2 (rg (pv (X5 rfl) (nil (Q0 ?_))))
  refine sq2 ?_
  obtain⟨y1,hx1,hm⟩:=Q4 hm
  refine rg (pv (U1 rfl) (wl rfl (Z7 cf52 rfl (Q7a (p0:=p0) (hS.bun [0] [] rfl)  hx1) rfl fun v1 T1 w1 im1 rv1 => ?_)))
  obtain⟨rfl,hS1,_⟩:=rv1
  have hS1:=hS1.unb
  refine pv (Y7 rfl) (?_)
  rcases Bool.eq_false_or_eq_true y1 with hb1 | hb1
  · have hm:=V8 hb1 hm
    refine gF (d0:=5) rfl rfl (by rw [hb1]; rfl) (gF (d0:=5) rfl rfl (by rw [hb1]; rfl) (pv (Y1 rfl hb1 rfl) (pv (X5 rfl) (nil (Q0 ?_)))))
    cases oI hm
    exact rtn (U2 rfl rfl ⟨_,rfl,_,im1,⟨rfl,hS1.sel [0] rfl,qZt⟩⟩)
  have hm:=X3 hb1 hm
  obtain⟨y2,hx2,hm⟩:=Q4 hm
  refine gT (d0:=5) rfl rfl hb1 (pv (U1 rfl) (gT (d0:=5) rfl rfl hb1 (wl rfl (Z7 cf55 rfl (Q5e (p0:=p0) (hS1.bun [0] [] rfl)  hx2) rfl fun v2 T2 w2 im2 rv2 => ?_))))
  obtain⟨rfl,hS2,_⟩:=rv2
  have hS2:=hS2.unb
  refine pv (X9 rfl hb1 rfl) (pv (X5 rfl) (nil (Q0 ?_)))
  cases oI hm
  exact rtn (U2 rfl rfl ⟨_,rfl,_,(iT im1 im2),⟨rfl,hS2.sel [0] rfl,qZt⟩⟩)

theorem Q6x {p0:List UInt8} {r:Int} (hS:Sep g T0 w0 [R])  (hm:Q1r p0=some r) :
    Calls Tryz.prog 50 #[qZs p0,.func (.func 53) #[] #[]] w0 (E6 T0 w0 fun T w v=>v=iv r∧Sep g T w [R]∧True):=by
  refine enter (args := [qZs p0,.func (.func 53) #[] #[]]) Tryz.func50 rfl Tryz.ntmps50 rfl fun J => ?_
  unfold Q1r at hm
  refine sq2 (rg (pv (J0 rfl) (nil (Q0 ?_))))
  refine sq2 (rg (pv (J0 rfl) (nil (Q0 ?_))))
  refine sq2 ?_
  obtain⟨o1,ho1,hq1⟩:=Q4 hm
  obtain⟨bd1,hbd1,ho1⟩:=K3 ho1
  refine blk (wp_loop_ghost (fun m a w1 => ∃(J:JV) (T1:TP) (x1:Int),a=env (nf 20) J [(0,(qZs p0)),(1,.func (.func 53) #[] #[]),(5,iv x1)]∧Im T0 w0 T1 w1∧Sep g T1 w1 [R]∧V7 bd1 m x1=some o1) NN ⟨_,_,0,Q7 ⟨rfl,rfl,rfl,qZt⟩,Im.refl,hS.sel [0] rfl,ho1⟩ ?_)
  rintro m _ w1 ⟨J,T1,x1,rfl,im1,hS1,ho1⟩
  obtain⟨m1,z1,rfl,hm,hn1⟩:=U4 ho1
  rw [hbd1] at hm
  refine sq2 (sq2 (rg (pv (U1 rfl) (pv (P2 rfl) (pv (Q5g rfl underlying9) (pv (X7 rfl rfl rfl) (pv (Y7 rfl) (?_))))))))
  rcases Bool.eq_false_or_eq_true (decide (x1 < (List.length p0:Int))) with hb1 | hb1
  · have hm:=V8 hb1 hm
    obtain⟨u1,hx1,hm⟩:=Q4 hm
    obtain⟨y1,hx2,hm⟩:=Q4 hm
    refine gT (d0:=10) rfl rfl hb1 (pv (r_mf rfl) (gT (d0:=10) rfl rfl hb1 (pv (P2 rfl) (gT (d0:=10) rfl rfl hb1 (pv (U1 rfl) (gT (d0:=10) rfl rfl hb1 (pv (Q3h rfl rfl hx1 underlying9) (gT (d0:=10) rfl rfl hb1 (wl rfl (Z7 cf53 rfl (Z3p (p0:=(UInt8.toNat u1:Int)) (hS1.bun [0] [] rfl)  hx2) rfl fun v1 T2 w2 im2 rv1 => ?_))))))))))
    obtain⟨rfl,hS2,_⟩:=rv1
    have hS2:=hS2.unb
    refine pv (Y1 rfl hb1 rfl) (nil (Q0 ?_))
    refine V3 rfl hm (fun hb2 hm => ?_) fun hb2 hm => ?_
    · refine skp (Q0 ?_)
      refine blk ?_
      cases oI hm
      exact rg (pv (U1 rfl) (pv (X7 rfl rfl rfl) (pv (J0 rfl) (nil (U6 (Q0 ⟨m1,Nat.lt_succ_self _,_,_,(IntKind.wrap .i64 (x1+1)),Q7 ⟨rfl,rfl,rfl,qZt⟩,(iT im1 im2),hS2.sel [0] rfl,hn1⟩))))))
    cases oI hm
    have hn1:_=Lp.brk _:=hn1
    subst hn1
    have hm:=F1 hq1
    refine xt (V9 (V9 (L5 (Q0 ?_))))
    refine sq2 (rg (pv (U1 rfl) (pv (J0 rfl) (nil (Q0 ?_)))))
    cases oI hm
    exact rtn (U2 rfl rfl ⟨_,rfl,_,(iT im1 im2),⟨rfl,hS2.sel [0] rfl,qZt⟩⟩)
  have hm:=X3 hb1 hm
  refine gF (d0:=10) rfl rfl (by rw [hb1]; rfl) (gF (d0:=10) rfl rfl (by rw [hb1]; rfl) (gF (d0:=10) rfl rfl (by rw [hb1]; rfl) (gF (d0:=10) rfl rfl (by rw [hb1]; rfl) (gF (d0:=10) rfl rfl (by rw [hb1]; rfl) (pv (X9 rfl hb1 rfl) (nil (Q0 ?_)))))))
  refine cnd (b:=false) rfl (fun h=>nomatch h) (fun _ => ?_)
  cases oI hm
  have hn1:_=Lp.brk _:=hn1
  subst hn1
  have hm:=F1 hq1
  refine xt (V9 (V9 (L5 (Q0 ?_))))
  refine sq2 (rg (pv (U1 rfl) (pv (J0 rfl) (nil (Q0 ?_)))))
  cases oI hm
  exact rtn (U2 rfl rfl ⟨_,rfl,_,im1,⟨rfl,hS1.sel [0] rfl,qZt⟩⟩)

theorem Z3s {p0:List UInt8} {r:Bool} (hS:Sep g T0 w0 [R])  (hm:Q4n p0=some r) :
    Calls Tryz.prog 54 #[qZs p0] w0 (E6 T0 w0 fun T w v=>v = .bool r∧Sep g T w [R]∧True):=by
  refine enter (args := [qZs p0]) Tryz.func54 rfl Tryz.ntmps54 rfl fun J => ?_
  unfold Q4n at hm
  refine sq2 (rg (pv (X5 rfl) (nil (Q0 ?_))))
  refine sq2 (sq2 (rg (pv (P2 rfl) (nil (Q0 ?_)))))
  refine blk ?_
  obtain⟨kk1,hkk1,hm⟩:=F6 hm
  refine cut (fun a w1 => ∃(J:JV) (T1:TP) (x1:Bool),a=env (nf 23) J [(4,.bool x1)]∧Im T0 w0 T1 w1∧Sep g T1 w1 [R]∧kk1 x1=some r) ?_ ?_
  · refine sq2 (rg (pv (E7 rfl rfl) (pv (X5 rfl) (nil (Q0 ?_)))))
    refine V3 rfl hm (fun hb1 hm => ?_) fun hb1 hm => ?_
    · exact skp (Q0 ⟨_,_,(decide (p0=([98,114,101,97,107]:List UInt8))),Q7 ⟨rfl,qZt⟩,Im.refl,hS.sel [0] rfl,hm⟩)
    refine sq2 (rg (pv (E7 rfl rfl) (pv (X5 rfl) (nil (Q0 ?_)))))
    refine V3 rfl hm (fun hb2 hm => ?_) fun hb2 hm => ?_
    · exact skp (Q0 ⟨_,_,(decide (p0=([99,97,115,101]:List UInt8))),Q7 ⟨rfl,qZt⟩,Im.refl,hS.sel [0] rfl,hm⟩)
    refine sq2 (rg (pv (E7 rfl rfl) (pv (X5 rfl) (nil (Q0 ?_)))))
    refine V3 rfl hm (fun hb3 hm => ?_) fun hb3 hm => ?_
    · exact skp (Q0 ⟨_,_,(decide (p0=([99,104,97,114]:List UInt8))),Q7 ⟨rfl,qZt⟩,Im.refl,hS.sel [0] rfl,hm⟩)
    refine sq2 (rg (pv (E7 rfl rfl) (pv (X5 rfl) (nil (Q0 ?_)))))
    refine V3 rfl hm (fun hb4 hm => ?_) fun hb4 hm => ?_
    · exact skp (Q0 ⟨_,_,(decide (p0=([99,111,110,116,105,110,117,101]:List UInt8))),Q7 ⟨rfl,qZt⟩,Im.refl,hS.sel [0] rfl,hm⟩)
    refine sq2 (rg (pv (E7 rfl rfl) (pv (X5 rfl) (nil (Q0 ?_)))))
    refine V3 rfl hm (fun hb5 hm => ?_) fun hb5 hm => ?_
    · exact skp (Q0 ⟨_,_,(decide (p0=([100,101,102,97,117,108,116]:List UInt8))),Q7 ⟨rfl,qZt⟩,Im.refl,hS.sel [0] rfl,hm⟩)
    refine sq2 (rg (pv (E7 rfl rfl) (pv (X5 rfl) (nil (Q0 ?_)))))
    refine V3 rfl hm (fun hb6 hm => ?_) fun hb6 hm => ?_
    · exact skp (Q0 ⟨_,_,(decide (p0=([100,111]:List UInt8))),Q7 ⟨rfl,qZt⟩,Im.refl,hS.sel [0] rfl,hm⟩)
    refine sq2 (rg (pv (E7 rfl rfl) (pv (X5 rfl) (nil (Q0 ?_)))))
    refine V3 rfl hm (fun hb7 hm => ?_) fun hb7 hm => ?_
    · exact skp (Q0 ⟨_,_,(decide (p0=([101,108,115,101]:List UInt8))),Q7 ⟨rfl,qZt⟩,Im.refl,hS.sel [0] rfl,hm⟩)
    refine sq2 (rg (pv (E7 rfl rfl) (pv (X5 rfl) (nil (Q0 ?_)))))
    refine V3 rfl hm (fun hb8 hm => ?_) fun hb8 hm => ?_
    · exact skp (Q0 ⟨_,_,(decide (p0=([102,111,114]:List UInt8))),Q7 ⟨rfl,qZt⟩,Im.refl,hS.sel [0] rfl,hm⟩)
    refine sq2 (rg (pv (E7 rfl rfl) (pv (X5 rfl) (nil (Q0 ?_)))))
    refine V3 rfl hm (fun hb9 hm => ?_) fun hb9 hm => ?_
    · exact skp (Q0 ⟨_,_,(decide (p0=([105,102]:List UInt8))),Q7 ⟨rfl,qZt⟩,Im.refl,hS.sel [0] rfl,hm⟩)
    refine sq2 (rg (pv (E7 rfl rfl) (pv (X5 rfl) (nil (Q0 ?_)))))
    refine V3 rfl hm (fun hb10 hm => ?_) fun hb10 hm => ?_
    · exact skp (Q0 ⟨_,_,(decide (p0=([105,110]:List UInt8))),Q7 ⟨rfl,qZt⟩,Im.refl,hS.sel [0] rfl,hm⟩)
    refine sq2 (rg (pv (E7 rfl rfl) (pv (X5 rfl) (nil (Q0 ?_)))))
    refine V3 rfl hm (fun hb11 hm => ?_) fun hb11 hm => ?_
    · exact skp (Q0 ⟨_,_,(decide (p0=([105,110,116]:List UInt8))),Q7 ⟨rfl,qZt⟩,Im.refl,hS.sel [0] rfl,hm⟩)
    refine sq2 (rg (pv (E7 rfl rfl) (pv (X5 rfl) (nil (Y9 [(3,(qZs p0)),(4,.bool (decide (p0=([111,117,116]:List UInt8))))] ⟨rfl,rfl,qZt⟩ fun J => ?_)))))
    refine V3 rfl hm (fun hb12 hm => ?_) fun hb12 hm => ?_
    · exact skp (Q0 ⟨_,_,(decide (p0=([111,117,116]:List UInt8))),Q7 ⟨rfl,qZt⟩,Im.refl,hS.sel [0] rfl,hm⟩)
    refine sq2 (rg (pv (E7 rfl rfl) (pv (X5 rfl) (nil (Q0 ?_)))))
    refine V3 rfl hm (fun hb13 hm => ?_) fun hb13 hm => ?_
    · exact skp (Q0 ⟨_,_,(decide (p0=([114,101,116,117,114,110]:List UInt8))),Q7 ⟨rfl,qZt⟩,Im.refl,hS.sel [0] rfl,hm⟩)
    refine sq2 (rg (pv (E7 rfl rfl) (pv (X5 rfl) (nil (Q0 ?_)))))
    refine V3 rfl hm (fun hb14 hm => ?_) fun hb14 hm => ?_
    · exact skp (Q0 ⟨_,_,(decide (p0=([115,105,122,101,111,102]:List UInt8))),Q7 ⟨rfl,qZt⟩,Im.refl,hS.sel [0] rfl,hm⟩)
    refine sq2 (rg (pv (E7 rfl rfl) (pv (X5 rfl) (nil (Q0 ?_)))))
    refine V3 rfl hm (fun hb15 hm => ?_) fun hb15 hm => ?_
    · exact skp (Q0 ⟨_,_,(decide (p0=([115,116,114,117,99,116]:List UInt8))),Q7 ⟨rfl,qZt⟩,Im.refl,hS.sel [0] rfl,hm⟩)
    refine sq2 (rg (pv (E7 rfl rfl) (pv (X5 rfl) (nil (Q0 ?_)))))
    refine V3 rfl hm (fun hb16 hm => ?_) fun hb16 hm => ?_
    · exact skp (Q0 ⟨_,_,(decide (p0=([115,119,105,116,99,104]:List UInt8))),Q7 ⟨rfl,qZt⟩,Im.refl,hS.sel [0] rfl,hm⟩)
    refine sq2 (rg (pv (E7 rfl rfl) (pv (X5 rfl) (nil (Q0 ?_)))))
    refine V3 rfl hm (fun hb17 hm => ?_) fun hb17 hm => ?_
    · exact skp (Q0 ⟨_,_,(decide (p0=([118,111,105,100]:List UInt8))),Q7 ⟨rfl,qZt⟩,Im.refl,hS.sel [0] rfl,hm⟩)
    exact rg (pv (E7 rfl rfl) (pv (X5 rfl) (nil (Q0 ⟨_,_,(decide (p0=([119,104,105,108,101]:List UInt8))),Q7 ⟨rfl,qZt⟩,Im.refl,hS.sel [0] rfl,hm⟩))))
  rintro _ w1 ⟨J,T1,x1,rfl,im1,hS1,hm⟩
  rw [hkk1] at hm
  refine V3 rfl hm (fun hb18 hm => ?_) fun hb18 hm => ?_
  · refine sq2 (rg (pv (X5 rfl) (nil (Q0 ?_))))
    cases oI hm
    exact rtn (Y5 (Q6 (U2 rfl rfl ⟨_,rfl,_,im1,⟨rfl,hS1.sel [0] rfl,qZt⟩⟩)))
  refine skp (U6 (Q0 ?_))
  refine sq2 (rg (pv (X5 rfl) (nil (Q0 ?_))))
  cases oI hm
  exact rtn (U2 rfl rfl ⟨_,rfl,_,im1,⟨rfl,hS1.sel [0] rfl,qZt⟩⟩)

theorem Q8c {p0:Int} {r:Int} (hS:Sep g T0 w0 [R])  (hm:Q0v p0=some r) :
    Calls Tryz.prog 80 #[.int .u8 p0] w0 (E6 T0 w0 fun T w v=>v = .int .u64 r∧Sep g T w [R]∧True):=by
  refine enter (args := [.int .u8 p0]) Tryz.func80 rfl Tryz.ntmps80 rfl fun J => ?_
  unfold Q0v at hm
  refine sq2 (rg (pv (J0 rfl) (nil (Q0 ?_))))
  refine sq2 (blk (sq2 ?_))
  obtain⟨y1,hx1,hm⟩:=Q4 hm
  refine rg (pv (U1 rfl) (wl rfl (Z7 cf55 rfl (Q5e (p0:=p0) (hS.bun [0] [] rfl)  hx1) rfl fun v1 T1 w1 im1 rv1 => ?_)))
  obtain⟨rfl,hS1,_⟩:=rv1
  have hS1:=hS1.unb
  refine pv (X5 rfl) (nil (Q0 ?_))
  refine V3 rfl hm (fun hb1 hm => ?_) fun hb1 hm => ?_
  · refine sq2 (rg (pv (U1 rfl) (pv (X7 rfl rfl rfl) (pv (r_cv rfl underlying5 underlying134) (pv (J0 rfl) (nil (Q0 ?_)))))))
    cases oI hm
    exact rtn (Y5 (Q6 (U2 rfl rfl ⟨_,rfl,_,im1,⟨rfl,hS1.sel [0] rfl,qZt⟩⟩)))
  refine sq2 (rg (pv (U1 rfl) (pv (X7 rfl rfl rfl) (pv (Y7 rfl) (?_)))))
  rcases Bool.eq_false_or_eq_true (decide (97≤p0)) with hb2 | hb2
  · have hm:=V8 hb2 hm
    refine gT (d0:=12) rfl rfl hb2 (pv (U1 rfl) (gT (d0:=12) rfl rfl hb2 (pv (X7 rfl rfl rfl) (pv (Y1 rfl hb2 rfl) (pv (X5 rfl) (nil (Q0 ?_)))))))
    refine V3 rfl hm (fun hb3 hm => ?_) fun hb3 hm => ?_
    · refine sq2 (rg (pv (U1 rfl) (pv (X7 rfl rfl rfl) (pv (r_cv rfl underlying5 underlying134) (pv (X7 rfl rfl rfl) (pv (J0 rfl) (nil (Q0 ?_))))))))
      cases oI hm
      exact rtn (Y5 (Q6 (U2 rfl rfl ⟨_,rfl,_,im1,⟨rfl,hS1.sel [0] rfl,qZt⟩⟩)))
    refine sq2 (rg (pv (U1 rfl) (pv (X7 rfl rfl rfl) (pv (Y7 rfl) (?_)))))
    rcases Bool.eq_false_or_eq_true (decide (65≤p0)) with hb4 | hb4
    · have hm:=V8 hb4 hm
      refine gT (d0:=23) rfl rfl hb4 (pv (U1 rfl) (gT (d0:=23) rfl rfl hb4 (pv (X7 rfl rfl rfl) (pv (Y1 rfl hb4 rfl) (pv (X5 rfl) (nil (Q0 ?_)))))))
      refine V3 rfl hm (fun hb5 hm => ?_) fun hb5 hm => ?_
      · refine sq2 (rg (pv (U1 rfl) (pv (X7 rfl rfl rfl) (pv (r_cv rfl underlying5 underlying134) (pv (X7 rfl rfl rfl) (pv (J0 rfl) (nil (Q0 ?_))))))))
        cases oI hm
        exact rtn (Y5 (Q6 (U2 rfl rfl ⟨_,rfl,_,im1,⟨rfl,hS1.sel [0] rfl,qZt⟩⟩)))
      refine skp (U6 (Q0 ?_))
      refine sq2 (rg (pv (J0 rfl) (nil (Q0 ?_))))
      cases oI hm
      exact rtn (U2 rfl rfl ⟨_,rfl,_,im1,⟨rfl,hS1.sel [0] rfl,qZt⟩⟩)
    have hm:=X3 hb4 hm
    refine gF (d0:=23) rfl rfl (by rw [hb4]; rfl) (gF (d0:=23) rfl rfl (by rw [hb4]; rfl) (pv (X9 rfl hb4 rfl) (pv (X5 rfl) (nil (Q0 ?_)))))
    refine cnd (b:=false) rfl (fun h=>nomatch h) (fun _ => ?_)
    refine skp (U6 (Q0 ?_))
    refine sq2 (rg (pv (J0 rfl) (nil (Q0 ?_))))
    cases oI hm
    exact rtn (U2 rfl rfl ⟨_,rfl,_,im1,⟨rfl,hS1.sel [0] rfl,qZt⟩⟩)
  have hm:=X3 hb2 hm
  refine gF (d0:=12) rfl rfl (by rw [hb2]; rfl) (gF (d0:=12) rfl rfl (by rw [hb2]; rfl) (pv (X9 rfl hb2 rfl) (pv (X5 rfl) (nil (Q0 ?_)))))
  refine cnd (b:=false) rfl (fun h=>nomatch h) (fun _ => ?_)
  refine sq2 (rg (pv (U1 rfl) (pv (X7 rfl rfl rfl) (pv (Y7 rfl) (?_)))))
  rcases Bool.eq_false_or_eq_true (decide (65≤p0)) with hb8 | hb8
  · have hm:=V8 hb8 hm
    refine gT (d0:=23) rfl rfl hb8 (pv (U1 rfl) (gT (d0:=23) rfl rfl hb8 (pv (X7 rfl rfl rfl) (pv (Y1 rfl hb8 rfl) (pv (X5 rfl) (nil (Q0 ?_)))))))
    refine V3 rfl hm (fun hb9 hm => ?_) fun hb9 hm => ?_
    · refine sq2 (rg (pv (U1 rfl) (pv (X7 rfl rfl rfl) (pv (r_cv rfl underlying5 underlying134) (pv (X7 rfl rfl rfl) (pv (J0 rfl) (nil (Q0 ?_))))))))
      cases oI hm
      exact rtn (Y5 (Q6 (U2 rfl rfl ⟨_,rfl,_,im1,⟨rfl,hS1.sel [0] rfl,qZt⟩⟩)))
    refine skp (U6 (Q0 ?_))
    refine sq2 (rg (pv (J0 rfl) (nil (Q0 ?_))))
    cases oI hm
    exact rtn (U2 rfl rfl ⟨_,rfl,_,im1,⟨rfl,hS1.sel [0] rfl,qZt⟩⟩)
  have hm:=X3 hb8 hm
  refine gF (d0:=23) rfl rfl (by rw [hb8]; rfl) (gF (d0:=23) rfl rfl (by rw [hb8]; rfl) (pv (X9 rfl hb8 rfl) (pv (X5 rfl) (nil (Q0 ?_)))))
  refine cnd (b:=false) rfl (fun h=>nomatch h) (fun _ => ?_)
  refine skp (U6 (Q0 ?_))
  refine sq2 (rg (pv (J0 rfl) (nil (Q0 ?_))))
  cases oI hm
  exact rtn (U2 rfl rfl ⟨_,rfl,_,im1,⟨rfl,hS1.sel [0] rfl,qZt⟩⟩)

theorem Z1u {p0:List UInt8} {r:Y6×Int} (hS:Sep g T0 w0 [R])  (hm:Q2s p0=some r) :
    Calls Tryz.prog 56 #[qZs p0] w0 (E6 T0 w0 fun T w v=>v = .tuple #[.agg (Q0o r.1).toArray,iv r.2]∧Sep g T w [R]∧True):=by
  refine enter (args := [qZs p0]) Tryz.func56 rfl Tryz.ntmps56 rfl fun J => ?_
  unfold Q2s at hm
  refine sq2 (rg (wl rfl (alS (zs := [iv 0,qZs [],.int .u32 0,iv 0,iv 0]) zeroValue89 rfl hS fun w1 b1 im1 hS1 => ?_)))
  refine pv (J0 rfl) (nil (Q0 ?_))
  refine sq2 ?_
  obtain⟨y1,hx1,hm⟩:=Q4 hm
  refine rg (pv (P2 rfl) (pv (P2 rfl) (wl rfl (Z7 cf50 rfl (Q6x (p0:=p0) (hS1.bun [0,1] [] rfl)  hx1) rfl fun v1 T1 w2 im2 rv1 => ?_))))
  obtain⟨rfl,hS2,_⟩:=rv1
  have hS2:=hS2.unb
  obtain⟨u1,hx2,hm⟩:=Q4 hm
  refine pv (Z0u rfl rfl ⟨_,rfl⟩ hx2 underlying9) (pv (Q5r rfl) (nil (Q0 ?_)))
  refine sq2 (rg (pv (P2 rfl) (pv (Q5r rfl) (pv (J0 rfl) (nil (Q0 ?_))))))
  obtain⟨kk1,hkk1,hm⟩:=F6 hm
  refine cut (fun a w3 => ∃(J:JV) (T2:TP) (x1:List UInt8) (x2:Int),a=env (nf 54) J [(2,pt b1 0),(4,(qZs u1)),(5,(qZs x1)),(6,.int .u64 x2)]∧Im T1 w2 T2 w3∧Sep g T2 w3 [J6 b1 [iv 0,qZs [],.int .u32 0,iv 0,iv 0],R]∧kk1 x1 x2=some r) ?_ ?_
  · refine sq2 ?_
    obtain⟨y2,hx3,hm⟩:=Q4 hm
    refine rg (pv (P2 rfl) (wl rfl (Z7 cf48 rfl (H8 (p0:=u1) (p1 := [48,120]) (hS2.bun [0,1] [] rfl)  hx3) rfl fun v2 T3 w4 im4 rv2 => ?_)))
    obtain⟨rfl,hS3,_⟩:=rv2
    have hS3:=hS3.unb
    refine pv (Y7 rfl) (?_)
    rcases Bool.eq_false_or_eq_true y2 with hb1 | hb1
    · have hm:=V8 hb1 hm
      refine gF (d0:=18) rfl rfl (by rw [hb1]; rfl) (gF (d0:=18) rfl rfl (by rw [hb1]; rfl) (pv (Y1 rfl hb1 rfl) (nil (Q0 ?_))))
      refine cnd (b:=true) rfl (fun _ => ?_) (fun h=>nomatch h)
      obtain⟨u3,hx6,hm⟩:=Q4 hm
      exact rg (pv (P2 rfl) (pv (Z0u rfl ⟨_,rfl⟩ rfl hx6 underlying9) (pv (Q5r rfl) (pv (J0 rfl) (nil (Q0 ⟨_,_,u3,16,Q7 ⟨rfl,rfl,rfl,rfl,qZt⟩,im4,hS3.sel [0,1] rfl,hm⟩))))))
    have hm:=X3 hb1 hm
    obtain⟨y3,hx4,hm⟩:=Q4 hm
    refine gT (d0:=18) rfl rfl hb1 (pv (P2 rfl) (gT (d0:=18) rfl rfl hb1 (wl rfl (Z7 cf48 rfl (H8 (p0:=u1) (p1 := [48,88]) (hS3.bun [0,1] [] rfl)  hx4) rfl fun v3 T4 w5 im5 rv3 => ?_))))
    obtain⟨rfl,hS4,_⟩:=rv3
    have hS4:=hS4.unb
    refine pv (X9 rfl hb1 rfl) (nil (Q0 ?_))
    refine V3 rfl hm (fun hb2 hm => ?_) fun hb2 hm => ?_
    · obtain⟨u2,hx5,hm⟩:=Q4 hm
      exact rg (pv (P2 rfl) (pv (Z0u rfl ⟨_,rfl⟩ rfl hx5 underlying9) (pv (Q5r rfl) (pv (J0 rfl) (nil (Q0 ⟨_,_,u2,16,Q7 ⟨rfl,rfl,rfl,rfl,qZt⟩,(iT im4 im5),hS4.sel [0,1] rfl,hm⟩))))))
    exact skp (Q0 ⟨_,_,u1,10,Q7 ⟨rfl,rfl,rfl,rfl,qZt⟩,(iT im4 im5),hS4.sel [0,1] rfl,hm⟩)
  rintro _ w3 ⟨J,T2,x1,x2,rfl,im3,hS5,hm⟩
  rw [hkk1] at hm
  refine sq2 (sq2 (rg (pv (P2 rfl) (pv (E7 rfl rfl) (nil (Q0 ?_))))))
  refine V3 rfl hm (fun hb4 hm => ?_) fun hb4 hm => ?_
  · refine sq2 (rg (pv (A8 (by kernel_rfl) rfl (u := .agg #[iv 0,qZs [],.int .u32 0,iv 0,iv 0])) (wl rfl (X6 (q:=0) hS5 ⟨rfl,rfl⟩ rfl rfl rfl sizeOf89 rfl rfl rfl fun w6 im6 hS6 => ?_))))
    refine pv (J0 rfl) (nil (Q0 ?_))
    cases oI hm
    exact rtn (Q6 (A5 (vs := [.agg #[iv 0,qZs [],.int .u32 0,iv 0,iv 0],iv 3]) rfl ⟨rvS rfl isAgg89 sizeOf89 rfl (hS6.bx (i:=0) ⟨rfl,rfl⟩),rfl,qZt⟩ rfl ⟨_,rfl,_,(iT im1 (iT im2 (iT im3 im6))),⟨rfl,hS6.sel [1] rfl,qZt⟩⟩))
  refine skp (Q0 ?_)
  refine sq2 (rg (pv (J0 rfl) (nil (Q0 ?_))))
  refine sq2 (rg (pv (X5 rfl) (nil (Q0 ?_))))
  refine sq2 (sq2 ?_)
  obtain⟨z_1,hro1,hm⟩:=Q4 hm
  refine rg (pv (P2 rfl) (wl rfl (cvB hS5 rfl underlying9 underlying112 underlying5 (D5 hro1) fun T5 w7 a1 c1 im7 hS7 h1 => ?_)))
  refine pv (L3 rfl underlying112) (pv (U1 rfl) (nil (Q0 ?_)))
  obtain⟨o1,ho1,hq1⟩:=Q4 hm
  obtain⟨bd1,hbd1,ho1⟩:=K3 ho1
  refine blk (wp_loop_ghost (fun m a w8 => ∃(J:JV) (T6:TP) (x3:Int) (x4:Bool) (x5:Int),a=env (nf 54) J [(2,pt b1 0),(4,(qZs u1)),(6,.int .u64 x2),(7,.int .u64 x3),(8,.bool x4),(28,.slice a1 (List.length (D7 x1)) c1),(29,iv (List.length (D7 x1):Int)),(30,iv x5)]∧Im T5 w7 T6 w8∧Sep g T6 w8 [J6 b1 [iv 0,qZs [],.int .u32 0,iv 0,iv 0],R]∧V7 bd1 m (x3,x4,x5)=some o1) NN ⟨_,_,0,false,0,Q7 ⟨rfl,rfl,rfl,rfl,rfl,rfl,rfl,rfl,qZt⟩,Im.refl,hS7.sel [0,1] rfl,ho1⟩ ?_)
  rintro m _ w8 ⟨J,T6,x3,x4,x5,rfl,im8,hS8,ho1⟩
  obtain⟨m1,z1,rfl,hm,hn1⟩:=U4 ho1
  rw [hbd1] at hm
  refine sq2 (rg (pv (X7 rfl rfl rfl) (nil (Q0 ?_))))
  refine sq2 (cnd rfl (fun hb5 => ?_) (fun hb5 => ?_))
  · have hm:=V8 hb5 hm
    refine skp (Q0 ?_)
    obtain⟨kk2,hkk2,hm⟩:=F6 hm
    refine cut (fun a w9 => ∃(J:JV) (T7:TP) (x6:Int) (x7:Bool),a=env (nf 54) J [(2,pt b1 0),(4,(qZs u1)),(6,.int .u64 x2),(7,.int .u64 x6),(8,.bool x7),(28,.slice a1 (List.length (D7 x1)) c1),(29,iv (List.length (D7 x1):Int)),(30,iv x5)]∧Im T6 w8 T7 w9∧Sep g T7 w9 [J6 b1 [iv 0,qZs [],.int .u32 0,iv 0,iv 0],R]∧kk2 x6 x7=some z1) ?_ ?_
    · refine blk (sq2 ?_)
      obtain⟨u4,hx7,hm⟩:=Q4 hm
      obtain⟨b2,of1,cs1,k1,cp1,hv1,hp1,hl1,he1,hr1,hc1,hT1⟩:=(h1.mono im8).ixT hx7 rfl
      cases hr1
      refine rg (pv (B2 hv1 rfl underlying112 sizeOf5 hp1 hl1 he1) (pv (Z4 rfl isAgg5 (hc1.get (j:=0) rfl)) (pv (J0 rfl) (nil (Q0 ?_)))))
      refine sq2 (sq2 ?_)
      obtain⟨y4,hx8,hm⟩:=Q4 hm
      refine rg (pv (U1 rfl) (wl rfl (Z7 cf80 rfl (Q8c (p0:=u4) (hS8.bun [0,1] [] rfl)  hx8) rfl fun v4 T8 w10 im10 rv4 => ?_)))
      obtain⟨rfl,hS9,_⟩:=rv4
      have hS9:=hS9.unb
      refine pv (U1 rfl) (pv (X7 rfl rfl rfl) (nil (Q0 ?_)))
      refine V3 rfl hm (fun hb6 hm => ?_) fun hb6 hm => ?_
      · refine sq2 (rg (pv (A8 (by kernel_rfl) rfl (u := .agg #[iv 0,qZs [],.int .u32 0,iv 0,iv 0])) (wl rfl (X6 (q:=0) hS9 ⟨rfl,rfl⟩ rfl rfl rfl sizeOf89 rfl rfl rfl fun w11 im11 hS10 => ?_))))
        refine pv (J0 rfl) (nil (Q0 ?_))
        cases oI hm
        have hn1:_=Lp.ret _:=hn1
        subst hn1
        have hm:=X1 hq1
        cases oI hm
        exact rtn (Q6 (Y5 (Q6 (Q6 (Y5 (Q6 (A5 (vs := [.agg #[iv 0,qZs [],.int .u32 0,iv 0,iv 0],iv 3]) rfl ⟨rvS rfl isAgg89 sizeOf89 rfl (hS10.bx (i:=0) ⟨rfl,rfl⟩),rfl,qZt⟩ rfl ⟨_,rfl,_,(iT im1 (iT im2 (iT im3 (iT im7 (iT im8 (iT im10 im11)))))),⟨rfl,hS10.sel [1] rfl,qZt⟩⟩)))))))
      refine skp (Q0 ?_)
      refine sq2 ?_
      obtain⟨y5,hx9,hm⟩:=Q4 hm
      refine rg (pv (U1 rfl) (pv (U1 rfl) (pv (X7 rfl rfl rfl) (pv (U1 rfl) (wl rfl (Z7 cf80 rfl (Q8c (p0:=u4) (hS9.bun [0,1] [] rfl)  hx9) rfl fun v5 T9 w12 im12 rv5 => ?_))))))
      obtain⟨rfl,hS11,_⟩:=rv5
      have hS11:=hS11.unb
      refine pv (X7 rfl rfl rfl) (pv (J0 rfl) (nil (Q0 ?_)))
      refine sq2 (rg (pv (U1 rfl) (pv (X7 rfl rfl rfl) (nil (Q0 ?_)))))
      refine V3 rfl hm (fun hb7 hm => ?_) fun hb7 hm => ?_
      · exact rg (pv (J0 rfl) (pv (X5 rfl) (nil (U6 (Q0 ⟨_,_,4294967295,true,Q7 ⟨rfl,rfl,rfl,rfl,rfl,rfl,rfl,rfl,qZt⟩,(iT im10 im12),hS11.sel [0,1] rfl,hm⟩)))))
      exact skp (U6 (Q0 ⟨_,_,(IntKind.wrap .u64 ((IntKind.wrap .u64 (x3 * x2))+y5)),x4,Q7 ⟨rfl,rfl,rfl,rfl,rfl,rfl,rfl,rfl,qZt⟩,(iT im10 im12),hS11.sel [0,1] rfl,hm⟩))
    rintro _ w9 ⟨J,T7,x6,x7,rfl,im9,hS12,hm⟩
    rw [hkk2] at hm
    cases oI hm
    exact rg (pv (X7 rfl rfl rfl) (pv (U1 rfl) (nil (Q0 ⟨m1,Nat.lt_succ_self _,_,_,x6,x7,(IntKind.wrap .i64 (x5+1)),Q7 ⟨rfl,rfl,rfl,rfl,rfl,rfl,rfl,rfl,qZt⟩,(iT im8 im9),hS12.sel [0,1] rfl,hn1⟩))))
  have hm:=X3 hb5 hm
  cases oI hm
  have hn1:_=Lp.brk _:=hn1
  subst hn1
  have hm:=F1 hq1
  refine xt (V9 (V9 (L5 (Q0 ?_))))
  refine sq2 (sq2 (rg (pv (Y7 rfl) (nil (Q0 ?_)))))
  refine V3 rfl hm (fun hb8 hm => ?_) fun hb8 hm => ?_
  · refine sq2 (rg (pv (A8 (by kernel_rfl) rfl (u := .agg #[iv 0,qZs [],.int .u32 0,iv 0,iv 0])) (wl rfl (X6 (q:=0) hS8 ⟨rfl,rfl⟩ rfl rfl rfl sizeOf89 rfl rfl rfl fun w13 im13 hS13 => ?_))))
    refine pv (J0 rfl) (nil (Q0 ?_))
    cases oI hm
    exact rtn (Q6 (A5 (vs := [.agg #[iv 0,qZs [],.int .u32 0,iv 0,iv 0],iv 7]) rfl ⟨rvS rfl isAgg89 sizeOf89 rfl (hS13.bx (i:=0) ⟨rfl,rfl⟩),rfl,qZt⟩ rfl ⟨_,rfl,_,(iT im1 (iT im2 (iT im3 (iT im7 (iT im8 im13))))),⟨rfl,hS13.sel [1] rfl,qZt⟩⟩))
  refine skp (Q0 ?_)
  refine sq2 (rg (pv (P2 rfl) (pv (U1 rfl) (pv (r_cv rfl underlying134 underlying87) (pv (A8 (by kernel_rfl) rfl (u := .agg #[iv 3,qZs u1,.int .u32 (IntKind.wrap .u32 x3),iv 0,iv 0])) (wl rfl (X6 (q:=0) hS8 ⟨rfl,rfl⟩ rfl rfl rfl sizeOf89 rfl rfl rfl fun w14 im14 hS14 => ?_)))))))
  refine pv (J0 rfl) (nil (Q0 ?_))
  cases oI hm
  exact rtn (A5 (vs := [.agg #[iv 3,qZs u1,.int .u32 (IntKind.wrap .u32 x3),iv 0,iv 0],iv 0]) rfl ⟨rvS rfl isAgg89 sizeOf89 rfl (hS14.bx (i:=0) ⟨rfl,rfl⟩),rfl,qZt⟩ rfl ⟨_,rfl,_,(iT im1 (iT im2 (iT im3 (iT im7 (iT im8 im14))))),⟨rfl,hS14.sel [1] rfl,qZt⟩⟩)

theorem Z1v {p0:Int} {r:Int×Bool} (hS:Sep g T0 w0 [R])  (hm:Q1s p0=some r) :
    Calls Tryz.prog 81 #[.int .u8 p0] w0 (E6 T0 w0 fun T w v=>v = .tuple #[.int .u8 r.1,.bool r.2]∧Sep g T w [R]∧True):=by
  refine enter (args := [.int .u8 p0]) Tryz.func81 rfl Tryz.ntmps81 rfl fun J => ?_
  unfold Q1s at hm
  refine sq2 (rg (pv (J0 rfl) (pv (X5 rfl) (nil (Q0 ?_)))))
  refine sq2 (sq2 (rg (pv (U1 rfl) (nil (Q0 ?_)))))
  refine blk (sq2 (rg (pv (X7 rfl rfl rfl) (pv (X5 rfl) (nil (Q0 ?_))))))
  refine V3 rfl hm (fun hb1 hm => ?_) fun hb1 hm => ?_
  · refine sq2 (rg (pv (J0 rfl) (pv (X5 rfl) (nil (Q0 ?_)))))
    cases oI hm
    exact rtn (Y5 (Q6 (A5 (vs := [.int .u8 10,.bool true]) rfl ⟨rfl,rfl,qZt⟩ rfl ⟨_,rfl,_,Im.refl,⟨rfl,hS.sel [0] rfl,qZt⟩⟩)))
  refine sq2 (rg (pv (X7 rfl rfl rfl) (pv (X5 rfl) (nil (Q0 ?_)))))
  refine V3 rfl hm (fun hb2 hm => ?_) fun hb2 hm => ?_
  · refine sq2 (rg (pv (J0 rfl) (pv (X5 rfl) (nil (Q0 ?_)))))
    cases oI hm
    exact rtn (Y5 (Q6 (A5 (vs := [.int .u8 9,.bool true]) rfl ⟨rfl,rfl,qZt⟩ rfl ⟨_,rfl,_,Im.refl,⟨rfl,hS.sel [0] rfl,qZt⟩⟩)))
  refine sq2 (rg (pv (X7 rfl rfl rfl) (pv (X5 rfl) (nil (Q0 ?_)))))
  refine V3 rfl hm (fun hb3 hm => ?_) fun hb3 hm => ?_
  · refine sq2 (rg (pv (J0 rfl) (pv (X5 rfl) (nil (Q0 ?_)))))
    cases oI hm
    exact rtn (Y5 (Q6 (A5 (vs := [.int .u8 13,.bool true]) rfl ⟨rfl,rfl,qZt⟩ rfl ⟨_,rfl,_,Im.refl,⟨rfl,hS.sel [0] rfl,qZt⟩⟩)))
  refine sq2 (rg (pv (X7 rfl rfl rfl) (pv (X5 rfl) (nil (Q0 ?_)))))
  refine V3 rfl hm (fun hb4 hm => ?_) fun hb4 hm => ?_
  · refine sq2 (rg (pv (J0 rfl) (pv (X5 rfl) (nil (Q0 ?_)))))
    cases oI hm
    exact rtn (Y5 (Q6 (A5 (vs := [.int .u8 0,.bool true]) rfl ⟨rfl,rfl,qZt⟩ rfl ⟨_,rfl,_,Im.refl,⟨rfl,hS.sel [0] rfl,qZt⟩⟩)))
  obtain⟨kk1,hkk1,hm⟩:=F6 hm
  refine cut (fun a w1 => ∃(J:JV) (T1:TP) (x1:Bool),a=env (nf 17) J [(0,.int .u8 p0),(13,.bool x1)]∧Im T0 w0 T1 w1∧Sep g T1 w1 [R]∧kk1 x1=some r) ?_ ?_
  · refine sq2 (rg (pv (X7 rfl rfl rfl) (pv (X5 rfl) (nil (Q0 ?_)))))
    refine V3 rfl hm (fun hb5 hm => ?_) fun hb5 hm => ?_
    · exact skp (Q0 ⟨_,_,(p0 == 92),Q7 ⟨rfl,rfl,qZt⟩,Im.refl,hS.sel [0] rfl,hm⟩)
    exact rg (pv (X7 rfl rfl rfl) (pv (X5 rfl) (nil (Q0 ⟨_,_,(p0 == 39),Q7 ⟨rfl,rfl,qZt⟩,Im.refl,hS.sel [0] rfl,hm⟩))))
  rintro _ w1 ⟨J,T1,x1,rfl,im1,hS1,hm⟩
  rw [hkk1] at hm
  refine V3 rfl hm (fun hb6 hm => ?_) fun hb6 hm => ?_
  · refine sq2 (rg (pv (U1 rfl) (pv (J0 rfl) (pv (X5 rfl) (nil (Q0 ?_))))))
    cases oI hm
    exact rtn (Y5 (Q6 (A5 (vs := [.int .u8 p0,.bool true]) rfl ⟨rfl,rfl,qZt⟩ rfl ⟨_,rfl,_,im1,⟨rfl,hS1.sel [0] rfl,qZt⟩⟩)))
  refine skp (U6 (Q0 ?_))
  refine sq2 (rg (pv (J0 rfl) (pv (X5 rfl) (nil (Q0 ?_)))))
  cases oI hm
  exact rtn (A5 (vs := [.int .u8 0,.bool false]) rfl ⟨rfl,rfl,qZt⟩ rfl ⟨_,rfl,_,im1,⟨rfl,hS1.sel [0] rfl,qZt⟩⟩)

theorem Z3r {p0:List UInt8} {r:Y6×Int} (hS:Sep g T0 w0 [R])  (hm:O2 p0=some r) :
    Calls Tryz.prog 57 #[qZs p0] w0 (E6 T0 w0 fun T w v=>v = .tuple #[.agg (Q0o r.1).toArray,iv r.2]∧Sep g T w [R]∧True):=by
  refine enter (args := [qZs p0]) Tryz.func57 rfl Tryz.ntmps57 rfl fun J => ?_
  unfold O2 at hm
  refine sq2 (rg (wl rfl (alS (zs := [iv 0,qZs [],.int .u32 0,iv 0,iv 0]) zeroValue89 rfl hS fun w1 b1 im1 hS1 => ?_)))
  refine pv (J0 rfl) (nil (Q0 ?_))
  refine sq2 (sq2 (rg (pv (P2 rfl) (pv (Q5g rfl underlying9) (pv (X7 rfl rfl rfl) (pv (Y7 rfl) (?_)))))))
  rcases Bool.eq_false_or_eq_true (decide (4≤(List.length p0:Int))) with hb1 | hb1
  · have hm:=V8 hb1 hm
    obtain⟨u1,hx1,hm⟩:=Q4 hm
    refine gT (d0:=9) rfl rfl hb1 (pv (P2 rfl) (gT (d0:=9) rfl rfl hb1 (pv (Q3h rfl rfl hx1 underlying9) (gT (d0:=9) rfl rfl hb1 (pv (X7 rfl rfl rfl) (pv (Y1 rfl hb1 rfl) (pv (Y7 rfl) (?_))))))))
    rcases Bool.eq_false_or_eq_true ((UInt8.toNat u1:Int) == 92) with hb2 | hb2
    · have hm:=V8 hb2 hm
      obtain⟨u2,hx2,hm⟩:=Q4 hm
      refine gT (d0:=14) rfl rfl hb2 (pv (P2 rfl) (gT (d0:=14) rfl rfl hb2 (pv (Q3h rfl rfl hx2 underlying9) (gT (d0:=14) rfl rfl hb2 (pv (X7 rfl rfl rfl) (pv (Y1 rfl hb2 rfl) (nil (Q0 ?_))))))))
      refine V3 rfl hm (fun hb3 hm => ?_) fun hb3 hm => ?_
      · refine sq2 (sq2 ?_)
        obtain⟨u3,hx3,hm⟩:=Q4 hm
        obtain⟨y1,hx4,hm⟩:=Q4 hm
        refine rg (pv (P2 rfl) (pv (Q3h rfl rfl hx3 underlying9) (wl rfl (Z7 cf81 rfl (Z1v (p0:=(UInt8.toNat u3:Int)) (hS1.bun [0,1] [] rfl)  hx4) rfl fun v1 T1 w2 im2 rv1 => ?_))))
        obtain⟨rfl,hS2,_⟩:=rv1
        have hS2:=hS2.unb
        refine pv (r_mv rfl) (pv (Q4q (v := .int .u8 y1.1) rfl rfl) (pv (Q4q (v := .bool y1.2) rfl rfl) (pv (J0 rfl) (pv (X5 rfl) (nil (Q0 ?_))))))
        refine sq2 (rg (pv (Y7 rfl) (nil (Q0 ?_))))
        refine V3 rfl hm (fun hb4 hm => ?_) fun hb4 hm => ?_
        · refine sq2 ?_
          obtain⟨u4,hx5,hm⟩:=Q4 hm
          refine rg (pv (P2 rfl) (pv (Z0u rfl rfl ⟨_,rfl⟩ hx5 underlying9) (pv (U1 rfl) (pv (r_cv rfl underlying5 underlying87) (pv (A8 (by kernel_rfl) rfl (u := .agg #[iv 3,qZs u4,.int .u32 (IntKind.wrap .u32 y1.1),iv 0,iv 0])) (wl rfl (X6 (q:=0) hS2 ⟨rfl,rfl⟩ rfl rfl rfl sizeOf89 rfl rfl rfl fun w3 im3 hS3 => ?_)))))))
          refine pv (J0 rfl) (nil (Y9 [(2,pt b1 0),(3,iv 0)] ⟨rfl,rfl,qZt⟩ fun J => ?_))
          cases oI hm
          exact rtn (Q6 (Q6 (A5 (vs := [.agg #[iv 3,qZs u4,.int .u32 (IntKind.wrap .u32 y1.1),iv 0,iv 0],iv 0]) rfl ⟨rvS rfl isAgg89 sizeOf89 rfl (hS3.bx (i:=0) ⟨rfl,rfl⟩),rfl,qZt⟩ rfl ⟨_,rfl,_,(iT im1 (iT im2 im3)),⟨rfl,hS3.sel [1] rfl,qZt⟩⟩)))
        refine skp (Q0 ?_)
        refine sq2 (rg (pv (A8 (by kernel_rfl) rfl (u := .agg #[iv 0,qZs [],.int .u32 0,iv 0,iv 0])) (wl rfl (X6 (q:=0) hS2 ⟨rfl,rfl⟩ rfl rfl rfl sizeOf89 rfl rfl rfl fun w4 im4 hS4 => ?_))))
        refine pv (J0 rfl) (nil (Y9 [(2,pt b1 0),(3,iv 3)] ⟨rfl,rfl,qZt⟩ fun J => ?_))
        cases oI hm
        exact rtn (Q6 (A5 (vs := [.agg #[iv 0,qZs [],.int .u32 0,iv 0,iv 0],iv 3]) rfl ⟨rvS rfl isAgg89 sizeOf89 rfl (hS4.bx (i:=0) ⟨rfl,rfl⟩),rfl,qZt⟩ rfl ⟨_,rfl,_,(iT im1 (iT im2 im4)),⟨rfl,hS4.sel [1] rfl,qZt⟩⟩))
      refine skp (Q0 ?_)
      refine sq2 (sq2 (rg (pv (P2 rfl) (pv (Q5g rfl underlying9) (pv (X7 rfl rfl rfl) (pv (Y7 rfl) (?_)))))))
      rcases Bool.eq_false_or_eq_true (decide (3≤(List.length p0:Int))) with hb5 | hb5
      · have hm:=V8 hb5 hm
        obtain⟨u5,hx6,hm⟩:=Q4 hm
        refine gT (d0:=35) rfl rfl hb5 (pv (P2 rfl) (gT (d0:=35) rfl rfl hb5 (pv (Q3h rfl rfl hx6 underlying9) (gT (d0:=35) rfl rfl hb5 (pv (X7 rfl rfl rfl) (pv (Y1 rfl hb5 rfl) (pv (Y7 rfl) (?_))))))))
        rcases Bool.eq_false_or_eq_true ((UInt8.toNat u5:Int) == 39) with hb6 | hb6
        · have hm:=V8 hb6 hm
          obtain⟨u6,hx7,hm⟩:=Q4 hm
          refine gT (d0:=40) rfl rfl hb6 (pv (P2 rfl) (gT (d0:=40) rfl rfl hb6 (pv (Q3h rfl rfl hx7 underlying9) (gT (d0:=40) rfl rfl hb6 (pv (X7 rfl rfl rfl) (pv (Y1 rfl hb6 rfl) (pv (Y7 rfl) (?_))))))))
          rcases Bool.eq_false_or_eq_true (decide (32≤(UInt8.toNat u6:Int))) with hb7 | hb7
          · have hm:=V8 hb7 hm
            obtain⟨u7,hx8,hm⟩:=Q4 hm
            refine gT (d0:=45) rfl rfl hb7 (pv (P2 rfl) (gT (d0:=45) rfl rfl hb7 (pv (Q3h rfl rfl hx8 underlying9) (gT (d0:=45) rfl rfl hb7 (pv (X7 rfl rfl rfl) (pv (Y1 rfl hb7 rfl) (pv (Y7 rfl) (?_))))))))
            rcases Bool.eq_false_or_eq_true (decide ((UInt8.toNat u7:Int)≤126)) with hb8 | hb8
            · have hm:=V8 hb8 hm
              obtain⟨u8,hx9,hm⟩:=Q4 hm
              refine gT (d0:=50) rfl rfl hb8 (pv (P2 rfl) (gT (d0:=50) rfl rfl hb8 (pv (Q3h rfl rfl hx9 underlying9) (gT (d0:=50) rfl rfl hb8 (pv (X7 rfl rfl rfl) (pv (Y1 rfl hb8 rfl) (pv (Y7 rfl) (?_))))))))
              rcases Bool.eq_false_or_eq_true ((UInt8.toNat u8:Int) != 39) with hb9 | hb9
              · have hm:=V8 hb9 hm
                obtain⟨u9,hx10,hm⟩:=Q4 hm
                refine gT (d0:=55) rfl rfl hb9 (pv (P2 rfl) (gT (d0:=55) rfl rfl hb9 (pv (Q3h rfl rfl hx10 underlying9) (gT (d0:=55) rfl rfl hb9 (pv (X7 rfl rfl rfl) (pv (Y1 rfl hb9 rfl) (nil (Y9 [(0,(qZs p0)),(2,pt b1 0),(59,.bool ((UInt8.toNat u9:Int) != 92))] ⟨rfl,rfl,rfl,qZt⟩ fun J => ?_))))))))
                refine V3 rfl hm (fun hb10 hm => ?_) fun hb10 hm => ?_
                · refine sq2 (rs [0,0,0,0,0,0,2,0] [0,1,2,3,4,5,6,7] mix (by kernel_rfl) hS1.lt fun w5 i1 => ?_)
                  have im5:=i1.imm
                  have hS5:=hS1.keep i1 (fun _ h=>h)
                  obtain⟨u10,hx11,hm⟩:=Q4 hm
                  obtain⟨u11,hx12,hm⟩:=Q4 hm
                  refine s0 rfl qZt (fun _=>P2 rfl) rfl (s0 rfl qZt (fun _=>Z0u rfl rfl ⟨_,rfl⟩ hx11 underlying9) rfl (s0 rfl qZt (fun _=>P2 rfl) rfl (s0 rfl qZt (fun _=>Q3h rfl rfl hx12 underlying9) rfl (s0 rfl qZt (fun _=>r_cv rfl underlying5 underlying87) rfl (s0 rfl qZt (fun _=>A8 (by kernel_rfl) rfl (u := .agg #[iv 3,qZs u10,.int .u32 (IntKind.wrap .u32 (UInt8.toNat u11:Int)),iv 0,iv 0])) rfl (s2 [] rfl qZt rfl (by kernel_rfl) (X6 (q:=0) hS5 ⟨rfl,rfl⟩ rfl rfl rfl sizeOf89 rfl rfl rfl fun w6 im6 hS6 => ?_)))))))
                  refine⟨st0,?_⟩
                  refine s0 rfl qZt (fun _=>J0 rfl) rfl (se (Q0 ?_))
                  cases oI hm
                  exact rtn (Q6 (A5 (vs := [.agg #[iv 3,qZs u10,.int .u32 (IntKind.wrap .u32 (UInt8.toNat u11:Int)),iv 0,iv 0],iv 0]) rfl ⟨rvS rfl isAgg89 sizeOf89 rfl (hS6.bx (i:=0) ⟨rfl,rfl⟩),rfl,qZt⟩ rfl ⟨_,rfl,_,(iT im1 (iT im5 im6)),⟨rfl,hS6.sel [1] rfl,qZt⟩⟩))
                refine skp (Q0 ?_)
                refine sq2 (rg (pv (A8 (by kernel_rfl) rfl (u := .agg #[iv 0,qZs [],.int .u32 0,iv 0,iv 0])) (wl rfl (X6 (q:=0) hS1 ⟨rfl,rfl⟩ rfl rfl rfl sizeOf89 rfl rfl rfl fun w7 im7 hS7 => ?_))))
                refine pv (J0 rfl) (nil (Q0 ?_))
                cases oI hm
                exact rtn (A5 (vs := [.agg #[iv 0,qZs [],.int .u32 0,iv 0,iv 0],iv 3]) rfl ⟨rvS rfl isAgg89 sizeOf89 rfl (hS7.bx (i:=0) ⟨rfl,rfl⟩),rfl,qZt⟩ rfl ⟨_,rfl,_,(iT im1 im7),⟨rfl,hS7.sel [1] rfl,qZt⟩⟩)
              have hm:=X3 hb9 hm
              refine gF (d0:=55) rfl rfl (by rw [hb9]; rfl) (gF (d0:=55) rfl rfl (by rw [hb9]; rfl) (gF (d0:=55) rfl rfl (by rw [hb9]; rfl) (pv (X9 rfl hb9 rfl) (nil (Y9 [(0,(qZs p0)),(2,pt b1 0),(59,.bool false)] ⟨rfl,rfl,rfl,qZt⟩ fun J => ?_)))))
              refine cnd (b:=false) rfl (fun h=>nomatch h) (fun _ => ?_)
              refine skp (Q0 ?_)
              refine sq2 (rg (pv (A8 (by kernel_rfl) rfl (u := .agg #[iv 0,qZs [],.int .u32 0,iv 0,iv 0])) (wl rfl (X6 (q:=0) hS1 ⟨rfl,rfl⟩ rfl rfl rfl sizeOf89 rfl rfl rfl fun w8 im8 hS8 => ?_))))
              refine pv (J0 rfl) (nil (Q0 ?_))
              cases oI hm
              exact rtn (A5 (vs := [.agg #[iv 0,qZs [],.int .u32 0,iv 0,iv 0],iv 3]) rfl ⟨rvS rfl isAgg89 sizeOf89 rfl (hS8.bx (i:=0) ⟨rfl,rfl⟩),rfl,qZt⟩ rfl ⟨_,rfl,_,(iT im1 im8),⟨rfl,hS8.sel [1] rfl,qZt⟩⟩)
            have hm:=X3 hb8 hm
            refine gF (d0:=50) rfl rfl (by rw [hb8]; rfl) (gF (d0:=50) rfl rfl (by rw [hb8]; rfl) (gF (d0:=50) rfl rfl (by rw [hb8]; rfl) (pv (X9 rfl hb8 rfl) (pv (Y7 rfl) (gF (d0:=55) rfl rfl rfl (gF (d0:=55) rfl rfl rfl (gF (d0:=55) rfl rfl rfl (pv (X9 rfl rfl rfl) (nil (Y9 [(0,(qZs p0)),(2,pt b1 0),(59,.bool false)] ⟨rfl,rfl,rfl,qZt⟩ fun J => ?_))))))))))
            refine cnd (b:=false) rfl (fun h=>nomatch h) (fun _ => ?_)
            refine skp (Q0 ?_)
            refine sq2 (rg (pv (A8 (by kernel_rfl) rfl (u := .agg #[iv 0,qZs [],.int .u32 0,iv 0,iv 0])) (wl rfl (X6 (q:=0) hS1 ⟨rfl,rfl⟩ rfl rfl rfl sizeOf89 rfl rfl rfl fun w9 im9 hS9 => ?_))))
            refine pv (J0 rfl) (nil (Q0 ?_))
            cases oI hm
            exact rtn (A5 (vs := [.agg #[iv 0,qZs [],.int .u32 0,iv 0,iv 0],iv 3]) rfl ⟨rvS rfl isAgg89 sizeOf89 rfl (hS9.bx (i:=0) ⟨rfl,rfl⟩),rfl,qZt⟩ rfl ⟨_,rfl,_,(iT im1 im9),⟨rfl,hS9.sel [1] rfl,qZt⟩⟩)
          have hm:=X3 hb7 hm
          refine gF (d0:=45) rfl rfl (by rw [hb7]; rfl) (gF (d0:=45) rfl rfl (by rw [hb7]; rfl) (gF (d0:=45) rfl rfl (by rw [hb7]; rfl) (pv (X9 rfl hb7 rfl) (pv (Y7 rfl) (gF (d0:=50) rfl rfl rfl (gF (d0:=50) rfl rfl rfl (gF (d0:=50) rfl rfl rfl (pv (X9 rfl rfl rfl) (pv (Y7 rfl) (gF (d0:=55) rfl rfl rfl (gF (d0:=55) rfl rfl rfl (gF (d0:=55) rfl rfl rfl (pv (X9 rfl rfl rfl) (nil (Y9 [(0,(qZs p0)),(2,pt b1 0),(59,.bool false)] ⟨rfl,rfl,rfl,qZt⟩ fun J => ?_)))))))))))))))
          refine cnd (b:=false) rfl (fun h=>nomatch h) (fun _ => ?_)
          refine skp (Q0 ?_)
          refine sq2 (rg (pv (A8 (by kernel_rfl) rfl (u := .agg #[iv 0,qZs [],.int .u32 0,iv 0,iv 0])) (wl rfl (X6 (q:=0) hS1 ⟨rfl,rfl⟩ rfl rfl rfl sizeOf89 rfl rfl rfl fun w10 im10 hS10 => ?_))))
          refine pv (J0 rfl) (nil (Q0 ?_))
          cases oI hm
          exact rtn (A5 (vs := [.agg #[iv 0,qZs [],.int .u32 0,iv 0,iv 0],iv 3]) rfl ⟨rvS rfl isAgg89 sizeOf89 rfl (hS10.bx (i:=0) ⟨rfl,rfl⟩),rfl,qZt⟩ rfl ⟨_,rfl,_,(iT im1 im10),⟨rfl,hS10.sel [1] rfl,qZt⟩⟩)
        have hm:=X3 hb6 hm
        refine gF (d0:=40) rfl rfl (by rw [hb6]; rfl) (gF (d0:=40) rfl rfl (by rw [hb6]; rfl) (gF (d0:=40) rfl rfl (by rw [hb6]; rfl) (pv (X9 rfl hb6 rfl) (pv (Y7 rfl) (gF (d0:=45) rfl rfl rfl (gF (d0:=45) rfl rfl rfl (gF (d0:=45) rfl rfl rfl (pv (X9 rfl rfl rfl) (pv (Y7 rfl) (gF (d0:=50) rfl rfl rfl (gF (d0:=50) rfl rfl rfl (gF (d0:=50) rfl rfl rfl (pv (X9 rfl rfl rfl) (pv (Y7 rfl) (gF (d0:=55) rfl rfl rfl (gF (d0:=55) rfl rfl rfl (gF (d0:=55) rfl rfl rfl (pv (X9 rfl rfl rfl) (nil (Y9 [(0,(qZs p0)),(2,pt b1 0),(59,.bool false)] ⟨rfl,rfl,rfl,qZt⟩ fun J => ?_))))))))))))))))))))
        refine cnd (b:=false) rfl (fun h=>nomatch h) (fun _ => ?_)
        refine skp (Q0 ?_)
        refine sq2 (rg (pv (A8 (by kernel_rfl) rfl (u := .agg #[iv 0,qZs [],.int .u32 0,iv 0,iv 0])) (wl rfl (X6 (q:=0) hS1 ⟨rfl,rfl⟩ rfl rfl rfl sizeOf89 rfl rfl rfl fun w11 im11 hS11 => ?_))))
        refine pv (J0 rfl) (nil (Q0 ?_))
        cases oI hm
        exact rtn (A5 (vs := [.agg #[iv 0,qZs [],.int .u32 0,iv 0,iv 0],iv 3]) rfl ⟨rvS rfl isAgg89 sizeOf89 rfl (hS11.bx (i:=0) ⟨rfl,rfl⟩),rfl,qZt⟩ rfl ⟨_,rfl,_,(iT im1 im11),⟨rfl,hS11.sel [1] rfl,qZt⟩⟩)
      have hm:=X3 hb5 hm
      refine gF (d0:=35) rfl rfl (by rw [hb5]; rfl) (gF (d0:=35) rfl rfl (by rw [hb5]; rfl) (gF (d0:=35) rfl rfl (by rw [hb5]; rfl) (pv (X9 rfl hb5 rfl) (pv (Y7 rfl) (gF (d0:=40) rfl rfl rfl (gF (d0:=40) rfl rfl rfl (gF (d0:=40) rfl rfl rfl (pv (X9 rfl rfl rfl) (pv (Y7 rfl) (gF (d0:=45) rfl rfl rfl (gF (d0:=45) rfl rfl rfl (gF (d0:=45) rfl rfl rfl (pv (X9 rfl rfl rfl) (pv (Y7 rfl) (gF (d0:=50) rfl rfl rfl (gF (d0:=50) rfl rfl rfl (gF (d0:=50) rfl rfl rfl (pv (X9 rfl rfl rfl) (pv (Y7 rfl) (gF (d0:=55) rfl rfl rfl (gF (d0:=55) rfl rfl rfl (gF (d0:=55) rfl rfl rfl (pv (X9 rfl rfl rfl) (nil (Y9 [(0,(qZs p0)),(2,pt b1 0),(59,.bool false)] ⟨rfl,rfl,rfl,qZt⟩ fun J => ?_)))))))))))))))))))))))))
      refine cnd (b:=false) rfl (fun h=>nomatch h) (fun _ => ?_)
      refine skp (Q0 ?_)
      refine sq2 (rg (pv (A8 (by kernel_rfl) rfl (u := .agg #[iv 0,qZs [],.int .u32 0,iv 0,iv 0])) (wl rfl (X6 (q:=0) hS1 ⟨rfl,rfl⟩ rfl rfl rfl sizeOf89 rfl rfl rfl fun w12 im12 hS12 => ?_))))
      refine pv (J0 rfl) (nil (Q0 ?_))
      cases oI hm
      exact rtn (A5 (vs := [.agg #[iv 0,qZs [],.int .u32 0,iv 0,iv 0],iv 3]) rfl ⟨rvS rfl isAgg89 sizeOf89 rfl (hS12.bx (i:=0) ⟨rfl,rfl⟩),rfl,qZt⟩ rfl ⟨_,rfl,_,(iT im1 im12),⟨rfl,hS12.sel [1] rfl,qZt⟩⟩)
    have hm:=X3 hb2 hm
    refine gF (d0:=14) rfl rfl (by rw [hb2]; rfl) (gF (d0:=14) rfl rfl (by rw [hb2]; rfl) (gF (d0:=14) rfl rfl (by rw [hb2]; rfl) (pv (X9 rfl hb2 rfl) (nil (Q0 ?_)))))
    refine cnd (b:=false) rfl (fun h=>nomatch h) (fun _ => ?_)
    refine skp (Q0 ?_)
    refine sq2 (sq2 (rg (pv (P2 rfl) (pv (Q5g rfl underlying9) (pv (X7 rfl rfl rfl) (pv (Y7 rfl) (?_)))))))
    rcases Bool.eq_false_or_eq_true (decide (3≤(List.length p0:Int))) with hb17 | hb17
    · have hm:=V8 hb17 hm
      obtain⟨u12,hx13,hm⟩:=Q4 hm
      refine gT (d0:=35) rfl rfl hb17 (pv (P2 rfl) (gT (d0:=35) rfl rfl hb17 (pv (Q3h rfl rfl hx13 underlying9) (gT (d0:=35) rfl rfl hb17 (pv (X7 rfl rfl rfl) (pv (Y1 rfl hb17 rfl) (pv (Y7 rfl) (?_))))))))
      rcases Bool.eq_false_or_eq_true ((UInt8.toNat u12:Int) == 39) with hb18 | hb18
      · have hm:=V8 hb18 hm
        obtain⟨u13,hx14,hm⟩:=Q4 hm
        refine gT (d0:=40) rfl rfl hb18 (pv (P2 rfl) (gT (d0:=40) rfl rfl hb18 (pv (Q3h rfl rfl hx14 underlying9) (gT (d0:=40) rfl rfl hb18 (pv (X7 rfl rfl rfl) (pv (Y1 rfl hb18 rfl) (pv (Y7 rfl) (?_))))))))
        rcases Bool.eq_false_or_eq_true (decide (32≤(UInt8.toNat u13:Int))) with hb19 | hb19
        · have hm:=V8 hb19 hm
          obtain⟨u14,hx15,hm⟩:=Q4 hm
          refine gT (d0:=45) rfl rfl hb19 (pv (P2 rfl) (gT (d0:=45) rfl rfl hb19 (pv (Q3h rfl rfl hx15 underlying9) (gT (d0:=45) rfl rfl hb19 (pv (X7 rfl rfl rfl) (pv (Y1 rfl hb19 rfl) (pv (Y7 rfl) (?_))))))))
          rcases Bool.eq_false_or_eq_true (decide ((UInt8.toNat u14:Int)≤126)) with hb20 | hb20
          · have hm:=V8 hb20 hm
            obtain⟨u15,hx16,hm⟩:=Q4 hm
            refine gT (d0:=50) rfl rfl hb20 (pv (P2 rfl) (gT (d0:=50) rfl rfl hb20 (pv (Q3h rfl rfl hx16 underlying9) (gT (d0:=50) rfl rfl hb20 (pv (X7 rfl rfl rfl) (pv (Y1 rfl hb20 rfl) (pv (Y7 rfl) (?_))))))))
            rcases Bool.eq_false_or_eq_true ((UInt8.toNat u15:Int) != 39) with hb21 | hb21
            · have hm:=V8 hb21 hm
              obtain⟨u16,hx17,hm⟩:=Q4 hm
              refine gT (d0:=55) rfl rfl hb21 (pv (P2 rfl) (gT (d0:=55) rfl rfl hb21 (pv (Q3h rfl rfl hx17 underlying9) (gT (d0:=55) rfl rfl hb21 (pv (X7 rfl rfl rfl) (pv (Y1 rfl hb21 rfl) (nil (Y9 [(0,(qZs p0)),(2,pt b1 0),(59,.bool ((UInt8.toNat u16:Int) != 92))] ⟨rfl,rfl,rfl,qZt⟩ fun J => ?_))))))))
              refine V3 rfl hm (fun hb22 hm => ?_) fun hb22 hm => ?_
              · refine sq2 (rs [0,0,0,0,0,0,2,0] [0,1,2,3,4,5,6,7] mix (by kernel_rfl) hS1.lt fun w13 i2 => ?_)
                have im13:=i2.imm
                have hS13:=hS1.keep i2 (fun _ h=>h)
                obtain⟨u17,hx18,hm⟩:=Q4 hm
                obtain⟨u18,hx19,hm⟩:=Q4 hm
                refine s0 rfl qZt (fun _=>P2 rfl) rfl (s0 rfl qZt (fun _=>Z0u rfl rfl ⟨_,rfl⟩ hx18 underlying9) rfl (s0 rfl qZt (fun _=>P2 rfl) rfl (s0 rfl qZt (fun _=>Q3h rfl rfl hx19 underlying9) rfl (s0 rfl qZt (fun _=>r_cv rfl underlying5 underlying87) rfl (s0 rfl qZt (fun _=>A8 (by kernel_rfl) rfl (u := .agg #[iv 3,qZs u17,.int .u32 (IntKind.wrap .u32 (UInt8.toNat u18:Int)),iv 0,iv 0])) rfl (s2 [] rfl qZt rfl (by kernel_rfl) (X6 (q:=0) hS13 ⟨rfl,rfl⟩ rfl rfl rfl sizeOf89 rfl rfl rfl fun w14 im14 hS14 => ?_)))))))
                refine⟨st0,?_⟩
                refine s0 rfl qZt (fun _=>J0 rfl) rfl (se (Q0 ?_))
                cases oI hm
                exact rtn (Q6 (A5 (vs := [.agg #[iv 3,qZs u17,.int .u32 (IntKind.wrap .u32 (UInt8.toNat u18:Int)),iv 0,iv 0],iv 0]) rfl ⟨rvS rfl isAgg89 sizeOf89 rfl (hS14.bx (i:=0) ⟨rfl,rfl⟩),rfl,qZt⟩ rfl ⟨_,rfl,_,(iT im1 (iT im13 im14)),⟨rfl,hS14.sel [1] rfl,qZt⟩⟩))
              refine skp (Q0 ?_)
              refine sq2 (rg (pv (A8 (by kernel_rfl) rfl (u := .agg #[iv 0,qZs [],.int .u32 0,iv 0,iv 0])) (wl rfl (X6 (q:=0) hS1 ⟨rfl,rfl⟩ rfl rfl rfl sizeOf89 rfl rfl rfl fun w15 im15 hS15 => ?_))))
              refine pv (J0 rfl) (nil (Q0 ?_))
              cases oI hm
              exact rtn (A5 (vs := [.agg #[iv 0,qZs [],.int .u32 0,iv 0,iv 0],iv 3]) rfl ⟨rvS rfl isAgg89 sizeOf89 rfl (hS15.bx (i:=0) ⟨rfl,rfl⟩),rfl,qZt⟩ rfl ⟨_,rfl,_,(iT im1 im15),⟨rfl,hS15.sel [1] rfl,qZt⟩⟩)
            have hm:=X3 hb21 hm
            refine gF (d0:=55) rfl rfl (by rw [hb21]; rfl) (gF (d0:=55) rfl rfl (by rw [hb21]; rfl) (gF (d0:=55) rfl rfl (by rw [hb21]; rfl) (pv (X9 rfl hb21 rfl) (nil (Y9 [(0,(qZs p0)),(2,pt b1 0),(59,.bool false)] ⟨rfl,rfl,rfl,qZt⟩ fun J => ?_)))))
            refine cnd (b:=false) rfl (fun h=>nomatch h) (fun _ => ?_)
            refine skp (Q0 ?_)
            refine sq2 (rg (pv (A8 (by kernel_rfl) rfl (u := .agg #[iv 0,qZs [],.int .u32 0,iv 0,iv 0])) (wl rfl (X6 (q:=0) hS1 ⟨rfl,rfl⟩ rfl rfl rfl sizeOf89 rfl rfl rfl fun w16 im16 hS16 => ?_))))
            refine pv (J0 rfl) (nil (Q0 ?_))
            cases oI hm
            exact rtn (A5 (vs := [.agg #[iv 0,qZs [],.int .u32 0,iv 0,iv 0],iv 3]) rfl ⟨rvS rfl isAgg89 sizeOf89 rfl (hS16.bx (i:=0) ⟨rfl,rfl⟩),rfl,qZt⟩ rfl ⟨_,rfl,_,(iT im1 im16),⟨rfl,hS16.sel [1] rfl,qZt⟩⟩)
          have hm:=X3 hb20 hm
          refine gF (d0:=50) rfl rfl (by rw [hb20]; rfl) (gF (d0:=50) rfl rfl (by rw [hb20]; rfl) (gF (d0:=50) rfl rfl (by rw [hb20]; rfl) (pv (X9 rfl hb20 rfl) (pv (Y7 rfl) (gF (d0:=55) rfl rfl rfl (gF (d0:=55) rfl rfl rfl (gF (d0:=55) rfl rfl rfl (pv (X9 rfl rfl rfl) (nil (Y9 [(0,(qZs p0)),(2,pt b1 0),(59,.bool false)] ⟨rfl,rfl,rfl,qZt⟩ fun J => ?_))))))))))
          refine cnd (b:=false) rfl (fun h=>nomatch h) (fun _ => ?_)
          refine skp (Q0 ?_)
          refine sq2 (rg (pv (A8 (by kernel_rfl) rfl (u := .agg #[iv 0,qZs [],.int .u32 0,iv 0,iv 0])) (wl rfl (X6 (q:=0) hS1 ⟨rfl,rfl⟩ rfl rfl rfl sizeOf89 rfl rfl rfl fun w17 im17 hS17 => ?_))))
          refine pv (J0 rfl) (nil (Q0 ?_))
          cases oI hm
          exact rtn (A5 (vs := [.agg #[iv 0,qZs [],.int .u32 0,iv 0,iv 0],iv 3]) rfl ⟨rvS rfl isAgg89 sizeOf89 rfl (hS17.bx (i:=0) ⟨rfl,rfl⟩),rfl,qZt⟩ rfl ⟨_,rfl,_,(iT im1 im17),⟨rfl,hS17.sel [1] rfl,qZt⟩⟩)
        have hm:=X3 hb19 hm
        refine gF (d0:=45) rfl rfl (by rw [hb19]; rfl) (gF (d0:=45) rfl rfl (by rw [hb19]; rfl) (gF (d0:=45) rfl rfl (by rw [hb19]; rfl) (pv (X9 rfl hb19 rfl) (pv (Y7 rfl) (gF (d0:=50) rfl rfl rfl (gF (d0:=50) rfl rfl rfl (gF (d0:=50) rfl rfl rfl (pv (X9 rfl rfl rfl) (pv (Y7 rfl) (gF (d0:=55) rfl rfl rfl (gF (d0:=55) rfl rfl rfl (gF (d0:=55) rfl rfl rfl (pv (X9 rfl rfl rfl) (nil (Y9 [(0,(qZs p0)),(2,pt b1 0),(59,.bool false)] ⟨rfl,rfl,rfl,qZt⟩ fun J => ?_)))))))))))))))
        refine cnd (b:=false) rfl (fun h=>nomatch h) (fun _ => ?_)
        refine skp (Q0 ?_)
        refine sq2 (rg (pv (A8 (by kernel_rfl) rfl (u := .agg #[iv 0,qZs [],.int .u32 0,iv 0,iv 0])) (wl rfl (X6 (q:=0) hS1 ⟨rfl,rfl⟩ rfl rfl rfl sizeOf89 rfl rfl rfl fun w18 im18 hS18 => ?_))))
        refine pv (J0 rfl) (nil (Q0 ?_))
        cases oI hm
        exact rtn (A5 (vs := [.agg #[iv 0,qZs [],.int .u32 0,iv 0,iv 0],iv 3]) rfl ⟨rvS rfl isAgg89 sizeOf89 rfl (hS18.bx (i:=0) ⟨rfl,rfl⟩),rfl,qZt⟩ rfl ⟨_,rfl,_,(iT im1 im18),⟨rfl,hS18.sel [1] rfl,qZt⟩⟩)
      have hm:=X3 hb18 hm
      refine gF (d0:=40) rfl rfl (by rw [hb18]; rfl) (gF (d0:=40) rfl rfl (by rw [hb18]; rfl) (gF (d0:=40) rfl rfl (by rw [hb18]; rfl) (pv (X9 rfl hb18 rfl) (pv (Y7 rfl) (gF (d0:=45) rfl rfl rfl (gF (d0:=45) rfl rfl rfl (gF (d0:=45) rfl rfl rfl (pv (X9 rfl rfl rfl) (pv (Y7 rfl) (gF (d0:=50) rfl rfl rfl (gF (d0:=50) rfl rfl rfl (gF (d0:=50) rfl rfl rfl (pv (X9 rfl rfl rfl) (pv (Y7 rfl) (gF (d0:=55) rfl rfl rfl (gF (d0:=55) rfl rfl rfl (gF (d0:=55) rfl rfl rfl (pv (X9 rfl rfl rfl) (nil (Y9 [(0,(qZs p0)),(2,pt b1 0),(59,.bool false)] ⟨rfl,rfl,rfl,qZt⟩ fun J => ?_))))))))))))))))))))
      refine cnd (b:=false) rfl (fun h=>nomatch h) (fun _ => ?_)
      refine skp (Q0 ?_)
      refine sq2 (rg (pv (A8 (by kernel_rfl) rfl (u := .agg #[iv 0,qZs [],.int .u32 0,iv 0,iv 0])) (wl rfl (X6 (q:=0) hS1 ⟨rfl,rfl⟩ rfl rfl rfl sizeOf89 rfl rfl rfl fun w19 im19 hS19 => ?_))))
      refine pv (J0 rfl) (nil (Q0 ?_))
      cases oI hm
      exact rtn (A5 (vs := [.agg #[iv 0,qZs [],.int .u32 0,iv 0,iv 0],iv 3]) rfl ⟨rvS rfl isAgg89 sizeOf89 rfl (hS19.bx (i:=0) ⟨rfl,rfl⟩),rfl,qZt⟩ rfl ⟨_,rfl,_,(iT im1 im19),⟨rfl,hS19.sel [1] rfl,qZt⟩⟩)
    have hm:=X3 hb17 hm
    refine gF (d0:=35) rfl rfl (by rw [hb17]; rfl) (gF (d0:=35) rfl rfl (by rw [hb17]; rfl) (gF (d0:=35) rfl rfl (by rw [hb17]; rfl) (pv (X9 rfl hb17 rfl) (pv (Y7 rfl) (gF (d0:=40) rfl rfl rfl (gF (d0:=40) rfl rfl rfl (gF (d0:=40) rfl rfl rfl (pv (X9 rfl rfl rfl) (pv (Y7 rfl) (gF (d0:=45) rfl rfl rfl (gF (d0:=45) rfl rfl rfl (gF (d0:=45) rfl rfl rfl (pv (X9 rfl rfl rfl) (pv (Y7 rfl) (gF (d0:=50) rfl rfl rfl (gF (d0:=50) rfl rfl rfl (gF (d0:=50) rfl rfl rfl (pv (X9 rfl rfl rfl) (pv (Y7 rfl) (gF (d0:=55) rfl rfl rfl (gF (d0:=55) rfl rfl rfl (gF (d0:=55) rfl rfl rfl (pv (X9 rfl rfl rfl) (nil (Y9 [(0,(qZs p0)),(2,pt b1 0),(59,.bool false)] ⟨rfl,rfl,rfl,qZt⟩ fun J => ?_)))))))))))))))))))))))))
    refine cnd (b:=false) rfl (fun h=>nomatch h) (fun _ => ?_)
    refine skp (Q0 ?_)
    refine sq2 (rg (pv (A8 (by kernel_rfl) rfl (u := .agg #[iv 0,qZs [],.int .u32 0,iv 0,iv 0])) (wl rfl (X6 (q:=0) hS1 ⟨rfl,rfl⟩ rfl rfl rfl sizeOf89 rfl rfl rfl fun w20 im20 hS20 => ?_))))
    refine pv (J0 rfl) (nil (Q0 ?_))
    cases oI hm
    exact rtn (A5 (vs := [.agg #[iv 0,qZs [],.int .u32 0,iv 0,iv 0],iv 3]) rfl ⟨rvS rfl isAgg89 sizeOf89 rfl (hS20.bx (i:=0) ⟨rfl,rfl⟩),rfl,qZt⟩ rfl ⟨_,rfl,_,(iT im1 im20),⟨rfl,hS20.sel [1] rfl,qZt⟩⟩)
  have hm:=X3 hb1 hm
  refine gF (d0:=9) rfl rfl (by rw [hb1]; rfl) (gF (d0:=9) rfl rfl (by rw [hb1]; rfl) (gF (d0:=9) rfl rfl (by rw [hb1]; rfl) (pv (X9 rfl hb1 rfl) (pv (Y7 rfl) (gF (d0:=14) rfl rfl rfl (gF (d0:=14) rfl rfl rfl (gF (d0:=14) rfl rfl rfl (pv (X9 rfl rfl rfl) (nil (Q0 ?_))))))))))
  refine cnd (b:=false) rfl (fun h=>nomatch h) (fun _ => ?_)
  refine skp (Q0 ?_)
  refine sq2 (sq2 (rg (pv (P2 rfl) (pv (Q5g rfl underlying9) (pv (X7 rfl rfl rfl) (pv (Y7 rfl) (?_)))))))
  rcases Bool.eq_false_or_eq_true (decide (3≤(List.length p0:Int))) with hb29 | hb29
  · have hm:=V8 hb29 hm
    obtain⟨u19,hx20,hm⟩:=Q4 hm
    refine gT (d0:=35) rfl rfl hb29 (pv (P2 rfl) (gT (d0:=35) rfl rfl hb29 (pv (Q3h rfl rfl hx20 underlying9) (gT (d0:=35) rfl rfl hb29 (pv (X7 rfl rfl rfl) (pv (Y1 rfl hb29 rfl) (pv (Y7 rfl) (?_))))))))
    rcases Bool.eq_false_or_eq_true ((UInt8.toNat u19:Int) == 39) with hb30 | hb30
    · have hm:=V8 hb30 hm
      obtain⟨u20,hx21,hm⟩:=Q4 hm
      refine gT (d0:=40) rfl rfl hb30 (pv (P2 rfl) (gT (d0:=40) rfl rfl hb30 (pv (Q3h rfl rfl hx21 underlying9) (gT (d0:=40) rfl rfl hb30 (pv (X7 rfl rfl rfl) (pv (Y1 rfl hb30 rfl) (pv (Y7 rfl) (?_))))))))
      rcases Bool.eq_false_or_eq_true (decide (32≤(UInt8.toNat u20:Int))) with hb31 | hb31
      · have hm:=V8 hb31 hm
        obtain⟨u21,hx22,hm⟩:=Q4 hm
        refine gT (d0:=45) rfl rfl hb31 (pv (P2 rfl) (gT (d0:=45) rfl rfl hb31 (pv (Q3h rfl rfl hx22 underlying9) (gT (d0:=45) rfl rfl hb31 (pv (X7 rfl rfl rfl) (pv (Y1 rfl hb31 rfl) (pv (Y7 rfl) (?_))))))))
        rcases Bool.eq_false_or_eq_true (decide ((UInt8.toNat u21:Int)≤126)) with hb32 | hb32
        · have hm:=V8 hb32 hm
          obtain⟨u22,hx23,hm⟩:=Q4 hm
          refine gT (d0:=50) rfl rfl hb32 (pv (P2 rfl) (gT (d0:=50) rfl rfl hb32 (pv (Q3h rfl rfl hx23 underlying9) (gT (d0:=50) rfl rfl hb32 (pv (X7 rfl rfl rfl) (pv (Y1 rfl hb32 rfl) (pv (Y7 rfl) (?_))))))))
          rcases Bool.eq_false_or_eq_true ((UInt8.toNat u22:Int) != 39) with hb33 | hb33
          · have hm:=V8 hb33 hm
            obtain⟨u23,hx24,hm⟩:=Q4 hm
            refine gT (d0:=55) rfl rfl hb33 (pv (P2 rfl) (gT (d0:=55) rfl rfl hb33 (pv (Q3h rfl rfl hx24 underlying9) (gT (d0:=55) rfl rfl hb33 (pv (X7 rfl rfl rfl) (pv (Y1 rfl hb33 rfl) (nil (Y9 [(0,(qZs p0)),(2,pt b1 0),(59,.bool ((UInt8.toNat u23:Int) != 92))] ⟨rfl,rfl,rfl,qZt⟩ fun J => ?_))))))))
            refine V3 rfl hm (fun hb34 hm => ?_) fun hb34 hm => ?_
            · refine sq2 (rs [0,0,0,0,0,0,2,0] [0,1,2,3,4,5,6,7] mix (by kernel_rfl) hS1.lt fun w21 i3 => ?_)
              have im21:=i3.imm
              have hS21:=hS1.keep i3 (fun _ h=>h)
              obtain⟨u24,hx25,hm⟩:=Q4 hm
              obtain⟨u25,hx26,hm⟩:=Q4 hm
              refine s0 rfl qZt (fun _=>P2 rfl) rfl (s0 rfl qZt (fun _=>Z0u rfl rfl ⟨_,rfl⟩ hx25 underlying9) rfl (s0 rfl qZt (fun _=>P2 rfl) rfl (s0 rfl qZt (fun _=>Q3h rfl rfl hx26 underlying9) rfl (s0 rfl qZt (fun _=>r_cv rfl underlying5 underlying87) rfl (s0 rfl qZt (fun _=>A8 (by kernel_rfl) rfl (u := .agg #[iv 3,qZs u24,.int .u32 (IntKind.wrap .u32 (UInt8.toNat u25:Int)),iv 0,iv 0])) rfl (s2 [] rfl qZt rfl (by kernel_rfl) (X6 (q:=0) hS21 ⟨rfl,rfl⟩ rfl rfl rfl sizeOf89 rfl rfl rfl fun w22 im22 hS22 => ?_)))))))
              refine⟨st0,?_⟩
              refine s0 rfl qZt (fun _=>J0 rfl) rfl (se (Q0 ?_))
              cases oI hm
              exact rtn (Q6 (A5 (vs := [.agg #[iv 3,qZs u24,.int .u32 (IntKind.wrap .u32 (UInt8.toNat u25:Int)),iv 0,iv 0],iv 0]) rfl ⟨rvS rfl isAgg89 sizeOf89 rfl (hS22.bx (i:=0) ⟨rfl,rfl⟩),rfl,qZt⟩ rfl ⟨_,rfl,_,(iT im1 (iT im21 im22)),⟨rfl,hS22.sel [1] rfl,qZt⟩⟩))
            refine skp (Q0 ?_)
            refine sq2 (rg (pv (A8 (by kernel_rfl) rfl (u := .agg #[iv 0,qZs [],.int .u32 0,iv 0,iv 0])) (wl rfl (X6 (q:=0) hS1 ⟨rfl,rfl⟩ rfl rfl rfl sizeOf89 rfl rfl rfl fun w23 im23 hS23 => ?_))))
            refine pv (J0 rfl) (nil (Q0 ?_))
            cases oI hm
            exact rtn (A5 (vs := [.agg #[iv 0,qZs [],.int .u32 0,iv 0,iv 0],iv 3]) rfl ⟨rvS rfl isAgg89 sizeOf89 rfl (hS23.bx (i:=0) ⟨rfl,rfl⟩),rfl,qZt⟩ rfl ⟨_,rfl,_,(iT im1 im23),⟨rfl,hS23.sel [1] rfl,qZt⟩⟩)
          have hm:=X3 hb33 hm
          refine gF (d0:=55) rfl rfl (by rw [hb33]; rfl) (gF (d0:=55) rfl rfl (by rw [hb33]; rfl) (gF (d0:=55) rfl rfl (by rw [hb33]; rfl) (pv (X9 rfl hb33 rfl) (nil (Y9 [(0,(qZs p0)),(2,pt b1 0),(59,.bool false)] ⟨rfl,rfl,rfl,qZt⟩ fun J => ?_)))))
          refine cnd (b:=false) rfl (fun h=>nomatch h) (fun _ => ?_)
          refine skp (Q0 ?_)
          refine sq2 (rg (pv (A8 (by kernel_rfl) rfl (u := .agg #[iv 0,qZs [],.int .u32 0,iv 0,iv 0])) (wl rfl (X6 (q:=0) hS1 ⟨rfl,rfl⟩ rfl rfl rfl sizeOf89 rfl rfl rfl fun w24 im24 hS24 => ?_))))
          refine pv (J0 rfl) (nil (Q0 ?_))
          cases oI hm
          exact rtn (A5 (vs := [.agg #[iv 0,qZs [],.int .u32 0,iv 0,iv 0],iv 3]) rfl ⟨rvS rfl isAgg89 sizeOf89 rfl (hS24.bx (i:=0) ⟨rfl,rfl⟩),rfl,qZt⟩ rfl ⟨_,rfl,_,(iT im1 im24),⟨rfl,hS24.sel [1] rfl,qZt⟩⟩)
        have hm:=X3 hb32 hm
        refine gF (d0:=50) rfl rfl (by rw [hb32]; rfl) (gF (d0:=50) rfl rfl (by rw [hb32]; rfl) (gF (d0:=50) rfl rfl (by rw [hb32]; rfl) (pv (X9 rfl hb32 rfl) (pv (Y7 rfl) (gF (d0:=55) rfl rfl rfl (gF (d0:=55) rfl rfl rfl (gF (d0:=55) rfl rfl rfl (pv (X9 rfl rfl rfl) (nil (Y9 [(0,(qZs p0)),(2,pt b1 0),(59,.bool false)] ⟨rfl,rfl,rfl,qZt⟩ fun J => ?_))))))))))
        refine cnd (b:=false) rfl (fun h=>nomatch h) (fun _ => ?_)
        refine skp (Q0 ?_)
        refine sq2 (rg (pv (A8 (by kernel_rfl) rfl (u := .agg #[iv 0,qZs [],.int .u32 0,iv 0,iv 0])) (wl rfl (X6 (q:=0) hS1 ⟨rfl,rfl⟩ rfl rfl rfl sizeOf89 rfl rfl rfl fun w25 im25 hS25 => ?_))))
        refine pv (J0 rfl) (nil (Q0 ?_))
        cases oI hm
        exact rtn (A5 (vs := [.agg #[iv 0,qZs [],.int .u32 0,iv 0,iv 0],iv 3]) rfl ⟨rvS rfl isAgg89 sizeOf89 rfl (hS25.bx (i:=0) ⟨rfl,rfl⟩),rfl,qZt⟩ rfl ⟨_,rfl,_,(iT im1 im25),⟨rfl,hS25.sel [1] rfl,qZt⟩⟩)
      have hm:=X3 hb31 hm
      refine gF (d0:=45) rfl rfl (by rw [hb31]; rfl) (gF (d0:=45) rfl rfl (by rw [hb31]; rfl) (gF (d0:=45) rfl rfl (by rw [hb31]; rfl) (pv (X9 rfl hb31 rfl) (pv (Y7 rfl) (gF (d0:=50) rfl rfl rfl (gF (d0:=50) rfl rfl rfl (gF (d0:=50) rfl rfl rfl (pv (X9 rfl rfl rfl) (pv (Y7 rfl) (gF (d0:=55) rfl rfl rfl (gF (d0:=55) rfl rfl rfl (gF (d0:=55) rfl rfl rfl (pv (X9 rfl rfl rfl) (nil (Y9 [(0,(qZs p0)),(2,pt b1 0),(59,.bool false)] ⟨rfl,rfl,rfl,qZt⟩ fun J => ?_)))))))))))))))
      refine cnd (b:=false) rfl (fun h=>nomatch h) (fun _ => ?_)
      refine skp (Q0 ?_)
      refine sq2 (rg (pv (A8 (by kernel_rfl) rfl (u := .agg #[iv 0,qZs [],.int .u32 0,iv 0,iv 0])) (wl rfl (X6 (q:=0) hS1 ⟨rfl,rfl⟩ rfl rfl rfl sizeOf89 rfl rfl rfl fun w26 im26 hS26 => ?_))))
      refine pv (J0 rfl) (nil (Q0 ?_))
      cases oI hm
      exact rtn (A5 (vs := [.agg #[iv 0,qZs [],.int .u32 0,iv 0,iv 0],iv 3]) rfl ⟨rvS rfl isAgg89 sizeOf89 rfl (hS26.bx (i:=0) ⟨rfl,rfl⟩),rfl,qZt⟩ rfl ⟨_,rfl,_,(iT im1 im26),⟨rfl,hS26.sel [1] rfl,qZt⟩⟩)
    have hm:=X3 hb30 hm
    refine gF (d0:=40) rfl rfl (by rw [hb30]; rfl) (gF (d0:=40) rfl rfl (by rw [hb30]; rfl) (gF (d0:=40) rfl rfl (by rw [hb30]; rfl) (pv (X9 rfl hb30 rfl) (pv (Y7 rfl) (gF (d0:=45) rfl rfl rfl (gF (d0:=45) rfl rfl rfl (gF (d0:=45) rfl rfl rfl (pv (X9 rfl rfl rfl) (pv (Y7 rfl) (gF (d0:=50) rfl rfl rfl (gF (d0:=50) rfl rfl rfl (gF (d0:=50) rfl rfl rfl (pv (X9 rfl rfl rfl) (pv (Y7 rfl) (gF (d0:=55) rfl rfl rfl (gF (d0:=55) rfl rfl rfl (gF (d0:=55) rfl rfl rfl (pv (X9 rfl rfl rfl) (nil (Y9 [(0,(qZs p0)),(2,pt b1 0),(59,.bool false)] ⟨rfl,rfl,rfl,qZt⟩ fun J => ?_))))))))))))))))))))
    refine cnd (b:=false) rfl (fun h=>nomatch h) (fun _ => ?_)
    refine skp (Q0 ?_)
    refine sq2 (rg (pv (A8 (by kernel_rfl) rfl (u := .agg #[iv 0,qZs [],.int .u32 0,iv 0,iv 0])) (wl rfl (X6 (q:=0) hS1 ⟨rfl,rfl⟩ rfl rfl rfl sizeOf89 rfl rfl rfl fun w27 im27 hS27 => ?_))))
    refine pv (J0 rfl) (nil (Q0 ?_))
    cases oI hm
    exact rtn (A5 (vs := [.agg #[iv 0,qZs [],.int .u32 0,iv 0,iv 0],iv 3]) rfl ⟨rvS rfl isAgg89 sizeOf89 rfl (hS27.bx (i:=0) ⟨rfl,rfl⟩),rfl,qZt⟩ rfl ⟨_,rfl,_,(iT im1 im27),⟨rfl,hS27.sel [1] rfl,qZt⟩⟩)
  have hm:=X3 hb29 hm
  refine gF (d0:=35) rfl rfl (by rw [hb29]; rfl) (gF (d0:=35) rfl rfl (by rw [hb29]; rfl) (gF (d0:=35) rfl rfl (by rw [hb29]; rfl) (pv (X9 rfl hb29 rfl) (pv (Y7 rfl) (gF (d0:=40) rfl rfl rfl (gF (d0:=40) rfl rfl rfl (gF (d0:=40) rfl rfl rfl (pv (X9 rfl rfl rfl) (pv (Y7 rfl) (gF (d0:=45) rfl rfl rfl (gF (d0:=45) rfl rfl rfl (gF (d0:=45) rfl rfl rfl (pv (X9 rfl rfl rfl) (pv (Y7 rfl) (gF (d0:=50) rfl rfl rfl (gF (d0:=50) rfl rfl rfl (gF (d0:=50) rfl rfl rfl (pv (X9 rfl rfl rfl) (pv (Y7 rfl) (gF (d0:=55) rfl rfl rfl (gF (d0:=55) rfl rfl rfl (gF (d0:=55) rfl rfl rfl (pv (X9 rfl rfl rfl) (nil (Y9 [(0,(qZs p0)),(2,pt b1 0),(59,.bool false)] ⟨rfl,rfl,rfl,qZt⟩ fun J => ?_)))))))))))))))))))))))))
  refine cnd (b:=false) rfl (fun h=>nomatch h) (fun _ => ?_)
  refine skp (Q0 ?_)
  refine sq2 (rg (pv (A8 (by kernel_rfl) rfl (u := .agg #[iv 0,qZs [],.int .u32 0,iv 0,iv 0])) (wl rfl (X6 (q:=0) hS1 ⟨rfl,rfl⟩ rfl rfl rfl sizeOf89 rfl rfl rfl fun w28 im28 hS28 => ?_))))
  refine pv (J0 rfl) (nil (Q0 ?_))
  cases oI hm
  exact rtn (A5 (vs := [.agg #[iv 0,qZs [],.int .u32 0,iv 0,iv 0],iv 3]) rfl ⟨rvS rfl isAgg89 sizeOf89 rfl (hS28.bx (i:=0) ⟨rfl,rfl⟩),rfl,qZt⟩ rfl ⟨_,rfl,_,(iT im1 im28),⟨rfl,hS28.sel [1] rfl,qZt⟩⟩)

theorem Z3q {p0:List UInt8} {r:(List UInt8)} (hS:Sep g T0 w0 [R])  (hm:Q5m p0=some r) :
    Calls Tryz.prog 58 #[qZs p0] w0 (E6 T0 w0 fun T w v=>v=(qZs r)∧Sep g T w [R]∧True):=by
  refine enter (args := [qZs p0]) Tryz.func58 rfl Tryz.ntmps58 rfl fun J => ?_
  unfold Q5m at hm
  refine sq2 (rg (pv (Q5r rfl) (nil (Q0 ?_))))
  refine sq2 (rg (pv (A8 (by kernel_rfl) rfl (u := .agg #[qZs [60,60,61],qZs [62,62,61],qZs [45,62],qZs [43,43],qZs [45,45],qZs [60,60],qZs [62,62],qZs [60,61],qZs [62,61],qZs [61,61],qZs [33,61],qZs [38,38],qZs [124,124],qZs [43,61],qZs [45,61],qZs [42,61],qZs [47,61],qZs [37,61],qZs [38,61],qZs [124,61],qZs [94,61],qZs [43],qZs [45],qZs [42],qZs [47],qZs [37],qZs [38],qZs [124],qZs [94],qZs [126],qZs [33],qZs [60],qZs [62],qZs [61],qZs [63],qZs [58],qZs [59],qZs [44],qZs [46],qZs [40],qZs [41],qZs [91],qZs [93],qZs [123],qZs [125]])) (wl rfl (alS (zs := [qZs [],qZs [],qZs [],qZs [],qZs [],qZs [],qZs [],qZs [],qZs [],qZs [],qZs [],qZs [],qZs [],qZs [],qZs [],qZs [],qZs [],qZs [],qZs [],qZs [],qZs [],qZs [],qZs [],qZs [],qZs [],qZs [],qZs [],qZs [],qZs [],qZs [],qZs [],qZs [],qZs [],qZs [],qZs [],qZs [],qZs [],qZs [],qZs [],qZs [],qZs [],qZs [],qZs [],qZs [],qZs []]) zeroValue142 rfl hS fun w1 b1 im1 hS1 => ?_))))
  refine wl rfl (X6 (q:=0) hS1 ⟨rfl,rfl⟩ rfl rfl rfl sizeOf142 rfl rfl rfl fun w2 im2 hS2 => ?_)
  refine nil (Q0 ?_)
  refine sq2 (sq2 (rg (pv (Z5 rfl isAgg142 sizeOf142 rfl (hS2.cells0 (i:=0) ⟨rfl,rfl⟩ (o:=0) rfl) (cs := [qZs [60,60,61],qZs [62,62,61],qZs [45,62],qZs [43,43],qZs [45,45],qZs [60,60],qZs [62,62],qZs [60,61],qZs [62,61],qZs [61,61],qZs [33,61],qZs [38,38],qZs [124,124],qZs [43,61],qZs [45,61],qZs [42,61],qZs [47,61],qZs [37,61],qZs [38,61],qZs [124,61],qZs [94,61],qZs [43],qZs [45],qZs [42],qZs [47],qZs [37],qZs [38],qZs [124],qZs [94],qZs [126],qZs [33],qZs [60],qZs [62],qZs [61],qZs [63],qZs [58],qZs [59],qZs [44],qZs [46],qZs [40],qZs [41],qZs [91],qZs [93],qZs [123],qZs [125]])) (pv (U1 rfl) (nil (Q0 ?_))))))
  obtain⟨o1,ho1,hq1⟩:=Q4 hm
  obtain⟨bd1,hbd1,ho1⟩:=K3 ho1
  refine blk (wp_loop_ghost (fun m a w3 => ∃(J:JV) (T1:TP) (x1:Int),a=env (nf 16) J [(0,(qZs p0)),(7,.agg #[qZs [60,60,61],qZs [62,62,61],qZs [45,62],qZs [43,43],qZs [45,45],qZs [60,60],qZs [62,62],qZs [60,61],qZs [62,61],qZs [61,61],qZs [33,61],qZs [38,38],qZs [124,124],qZs [43,61],qZs [45,61],qZs [42,61],qZs [47,61],qZs [37,61],qZs [38,61],qZs [124,61],qZs [94,61],qZs [43],qZs [45],qZs [42],qZs [47],qZs [37],qZs [38],qZs [124],qZs [94],qZs [126],qZs [33],qZs [60],qZs [62],qZs [61],qZs [63],qZs [58],qZs [59],qZs [44],qZs [46],qZs [40],qZs [41],qZs [91],qZs [93],qZs [123],qZs [125]]),(8,iv x1)]∧Im T0 w2 T1 w3∧Sep g T1 w3 [R]∧V7 bd1 m x1=some o1) NN ⟨_,_,0,Q7 ⟨rfl,rfl,rfl,qZt⟩,Im.refl,hS2.sel [1] rfl,ho1⟩ ?_)
  rintro m _ w3 ⟨J,T1,x1,rfl,im3,hS3,ho1⟩
  obtain⟨m1,z1,rfl,hm,hn1⟩:=U4 ho1
  rw [hbd1] at hm
  refine sq2 (rg (pv (X7 rfl rfl rfl) (nil (Q0 ?_))))
  refine sq2 (cnd rfl (fun hb1 => ?_) (fun hb1 => ?_))
  · have hm:=V8 hb1 hm
    refine skp (Q0 ?_)
    refine sq2 (blk (sq2 ?_))
    obtain⟨u1,hx1,hm⟩:=Q4 hm
    refine rg (pv (r_axi rfl rfl (idx_map (fun z:List UInt8=>(qZs z)) hx1) rfl underlying142 sizeOf9 isAgg9) (pv (Q5r rfl) (nil (Q0 ?_))))
    refine sq2 ?_
    obtain⟨y1,hx2,hm⟩:=Q4 hm
    refine rg (pv (P2 rfl) (pv (P2 rfl) (wl rfl (Z7 cf48 rfl (H8 (p0:=p0) (p1:=u1) (hS3.bun [0] [] rfl)  hx2) rfl fun v1 T2 w4 im4 rv1 => ?_))))
    obtain⟨rfl,hS4,_⟩:=rv1
    have hS4:=hS4.unb
    refine nil (Q0 ?_)
    refine V3 rfl hm (fun hb2 hm => ?_) fun hb2 hm => ?_
    · refine sq2 (rg (pv (P2 rfl) (pv (Q5r rfl) (nil (Q0 ?_)))))
      cases oI hm
      have hn1:_=Lp.ret _:=hn1
      subst hn1
      have hm:=X1 hq1
      cases oI hm
      exact rtn (Y5 (Q6 (Q6 (Y5 (Q6 (U2 rfl rfl ⟨_,rfl,_,(iT im1 (iT im2 (iT im3 im4))),⟨rfl,hS4.sel [0] rfl,qZt⟩⟩))))))
    refine skp (U6 (Q0 ?_))
    cases oI hm
    exact rg (pv (X7 rfl rfl rfl) (pv (U1 rfl) (nil (Q0 ⟨m1,Nat.lt_succ_self _,_,_,(IntKind.wrap .i64 (x1+1)),Q7 ⟨rfl,rfl,rfl,qZt⟩,(iT im3 im4),hS4.sel [0] rfl,hn1⟩))))
  have hm:=X3 hb1 hm
  cases oI hm
  have hn1:_=Lp.brk _:=hn1
  subst hn1
  have hm:=F1 hq1
  refine xt (V9 (V9 (L5 (Q0 ?_))))
  refine sq2 (rg (pv (Q5r rfl) (nil (Q0 ?_))))
  cases oI hm
  exact rtn (U2 rfl rfl ⟨_,rfl,_,(iT im1 (iT im2 im3)),⟨rfl,hS3.sel [0] rfl,qZt⟩⟩)

theorem Z2m {p0:List UInt8} {r:Y6×Int} (hS:Sep g T0 w0 [R])  (hm:W6 p0=some r) :
    Calls Tryz.prog 29 #[qZs p0] w0 (E6 T0 w0 fun T w v=>v = .tuple #[.agg (Q0o r.1).toArray,iv r.2]∧Sep g T w [R]∧True):=by
  refine enter (args := [qZs p0]) Tryz.func29 rfl Tryz.ntmps29 rfl fun J => ?_
  unfold W6 at hm
  refine sq2 (rg (wl rfl (alS (zs := [iv 0,qZs [],.int .u32 0,iv 0,iv 0]) zeroValue89 rfl hS fun w1 b1 im1 hS1 => ?_)))
  refine pv (J0 rfl) (nil (Q0 ?_))
  refine sq2 (blk (sq2 ?_))
  obtain⟨u1,hx1,hm⟩:=Q4 hm
  obtain⟨y1,hx2,hm⟩:=Q4 hm
  refine rg (pv (P2 rfl) (pv (Q3h rfl rfl hx1 underlying9) (wl rfl (Z7 cf52 rfl (Q7a (p0:=(UInt8.toNat u1:Int)) (hS1.bun [0,1] [] rfl)  hx2) rfl fun v1 T1 w2 im2 rv1 => ?_))))
  obtain⟨rfl,hS2,_⟩:=rv1
  have hS2:=hS2.unb
  refine pv (X5 rfl) (nil (Q0 ?_))
  refine V3 rfl hm (fun hb1 hm => ?_) fun hb1 hm => ?_
  · refine sq2 ?_
    obtain⟨y2,hx3,hm⟩:=Q4 hm
    refine rg (pv (P2 rfl) (wl rfl (Z7 cf50 rfl (Q6x (p0:=p0) (hS2.bun [0,1] [] rfl)  hx3) rfl fun v2 T2 w3 im3 rv2 => ?_)))
    obtain⟨rfl,hS3,_⟩:=rv2
    have hS3:=hS3.unb
    refine pv (J0 rfl) (nil (Q0 ?_))
    refine sq2 ?_
    obtain⟨u2,hx4,hm⟩:=Q4 hm
    refine rg (pv (P2 rfl) (pv (U1 rfl) (pv (Z0u rfl rfl ⟨_,rfl⟩ hx4 underlying9) (pv (A8 (by kernel_rfl) rfl (u := .agg #[iv 1,qZs u2,.int .u32 0,iv 0,iv 0])) (wl rfl (alS (zs := [iv 0,qZs [],.int .u32 0,iv 0,iv 0]) zeroValue89 rfl hS3 fun w4 b2 im4 hS4 => ?_))))))
    refine wl rfl (X6 (q:=0) hS4 ⟨rfl,rfl⟩ rfl rfl rfl sizeOf89 rfl rfl rfl fun w5 im5 hS5 => ?_)
    refine nil (Q0 ?_)
    refine sq2 (sq2 (rg (pv (U1 rfl) (pv (X7 rfl rfl rfl) (nil (Q0 ?_))))))
    refine V3 rfl hm (fun hb2 hm => ?_) fun hb2 hm => ?_
    · refine sq2 (rg (pv (Z5 rfl isAgg89 sizeOf89 rfl (hS5.cells0 (i:=0) ⟨rfl,rfl⟩ (o:=0) rfl) (cs := [iv 1,qZs u2,.int .u32 0,iv 0,iv 0])) (wl rfl (X6 (q:=1) hS5 ⟨rfl,rfl⟩ rfl rfl rfl sizeOf89 rfl rfl rfl fun w6 im6 hS6 => ?_))))
      refine pv (J0 rfl) (nil (Q0 ?_))
      cases oI hm
      exact rtn (Q6 (Y5 (Q6 (A5 (vs := [.agg #[iv 1,qZs u2,.int .u32 0,iv 0,iv 0],iv 2]) rfl ⟨rvS rfl isAgg89 sizeOf89 rfl (hS6.bx (i:=1) ⟨rfl,rfl⟩),rfl,qZt⟩ rfl ⟨_,rfl,_,(iT im1 (iT im2 (iT im3 (iT im4 (iT im5 im6))))),⟨rfl,hS6.sel [2] rfl,qZt⟩⟩))))
    refine skp (Q0 ?_)
    obtain⟨kk1,hkk1,hm⟩:=F6 hm
    refine cut (fun a w7 => ∃(J:JV) (T3:TP) (x1:Y6),a=env (nf 48) J [(2,pt b1 0),(5,pt b2 0)]∧Im T2 w5 T3 w7∧Sep g T3 w7 [J6 b2 (Q0o x1),J6 b1 [iv 0,qZs [],.int .u32 0,iv 0,iv 0],R]∧kk1 x1=some r) ?_ ?_
    · refine sq2 ?_
      obtain⟨y3,hx5,hm⟩:=Q4 hm
      refine rg (pv (Z1 rfl underlying89 rfl sizeOf9 rfl) (pv (Z4 rfl isAgg9 (hS5.cell0 (i:=0) ⟨rfl,rfl⟩ (j:=1) rfl)) (wl rfl (Z7 cf54 rfl (Z3s (p0:=u2) (hS5.bun [0,1,2] [] rfl)  hx5) rfl fun v3 T4 w8 im8 rv3 => ?_))))
      obtain⟨rfl,hS7,_⟩:=rv3
      have hS7:=hS7.unb
      refine nil (Q0 ?_)
      refine V3 rfl hm (fun hb3 hm => ?_) fun hb3 hm => ?_
      · refine rg (pv (Z1 rfl underlying89 rfl sizeOf3 rfl) (wl rfl (X6 (q:=0) hS7 ⟨rfl,rfl⟩ rfl rfl rfl sizeOf3 rfl rfl rfl fun w9 im9 hS8 => ?_)))
        exact nil (Q0 ⟨_,_,(⟨2,u2,0,(⟨0,0⟩:Pos)⟩:Y6),Q7 ⟨rfl,rfl,qZt⟩,(iT im8 im9),hS8.sel [0,1,2] rfl,hm⟩)
      exact skp (Q0 ⟨_,_,(⟨1,u2,0,(⟨0,0⟩:Pos)⟩:Y6),Q7 ⟨rfl,rfl,qZt⟩,im8,hS7.sel [0,1,2] rfl,hm⟩)
    rintro _ w7 ⟨J,T3,x1,rfl,im7,hS9,hm⟩
    rw [hkk1] at hm
    refine sq2 (rg (pv (Z5 rfl isAgg89 sizeOf89 rfl (hS9.cells0 (i:=0) ⟨rfl,rfl⟩ (o:=0) rfl) (cs:=(Q0o x1))) (wl rfl (X6 (q:=1) hS9 ⟨rfl,rfl⟩ rfl rfl rfl sizeOf89 rfl rfl rfl fun w10 im10 hS10 => ?_))))
    refine pv (J0 rfl) (nil (Q0 ?_))
    cases oI hm
    exact rtn (Y5 (Q6 (A5 (vs := [.agg (Q0o x1).toArray,iv 0]) rfl ⟨rvS rfl isAgg89 sizeOf89 rfl (hS10.bx (i:=1) ⟨rfl,rfl⟩),rfl,qZt⟩ rfl ⟨_,rfl,_,(iT im1 (iT im2 (iT im3 (iT im4 (iT im5 (iT im7 im10)))))),⟨rfl,hS10.sel [2] rfl,qZt⟩⟩)))
  refine sq2 ?_
  obtain⟨u3,hx6,hm⟩:=Q4 hm
  obtain⟨y4,hx7,hm⟩:=Q4 hm
  refine rg (pv (P2 rfl) (pv (Q3h rfl rfl hx6 underlying9) (wl rfl (Z7 cf55 rfl (Q5e (p0:=(UInt8.toNat u3:Int)) (hS2.bun [0,1] [] rfl)  hx7) rfl fun v4 T5 w11 im11 rv4 => ?_))))
  obtain⟨rfl,hS11,_⟩:=rv4
  have hS11:=hS11.unb
  refine pv (X5 rfl) (nil (Q0 ?_))
  refine V3 rfl hm (fun hb4 hm => ?_) fun hb4 hm => ?_
  · refine sq2 ?_
    obtain⟨y5,hx8,hm⟩:=Q4 hm
    refine rg (pv (P2 rfl) (wl rfl (Z7 cf56 rfl (Z1u (p0:=p0) (hS11.bun [0,1] [] rfl)  hx8) rfl fun v5 T6 w12 im12 rv5 => ?_)))
    obtain⟨rfl,hS12,_⟩:=rv5
    have hS12:=hS12.unb
    refine pv (Q4q (v := .agg (Q0o y5.1).toArray) rfl rfl) (pv (Q4q (v:=iv y5.2) rfl rfl) (wl rfl (X6 (q:=0) hS12 ⟨rfl,rfl⟩ rfl rfl rfl sizeOf89 rfl rfl rfl fun w13 im13 hS13 => ?_)))
    refine pv (J0 rfl) (nil (Q0 ?_))
    cases oI hm
    exact rtn (Y5 (Q6 (A5 (vs := [.agg (Q0o y5.1).toArray,iv y5.2]) rfl ⟨rvS rfl isAgg89 sizeOf89 rfl (hS13.bx (i:=0) ⟨rfl,rfl⟩),rfl,qZt⟩ rfl ⟨_,rfl,_,(iT im1 (iT im2 (iT im11 (iT im12 im13)))),⟨rfl,hS13.sel [1] rfl,qZt⟩⟩)))
  refine sq2 ?_
  obtain⟨u4,hx9,hm⟩:=Q4 hm
  refine rg (pv (P2 rfl) (pv (Q3h rfl rfl hx9 underlying9) (pv (X7 rfl rfl rfl) (pv (X5 rfl) (nil (Q0 ?_))))))
  refine V3 rfl hm (fun hb5 hm => ?_) fun hb5 hm => ?_
  · refine sq2 ?_
    obtain⟨y6,hx10,hm⟩:=Q4 hm
    refine rg (pv (P2 rfl) (wl rfl (Z7 cf57 rfl (Z3r (p0:=p0) (hS11.bun [0,1] [] rfl)  hx10) rfl fun v6 T7 w14 im14 rv6 => ?_)))
    obtain⟨rfl,hS14,_⟩:=rv6
    have hS14:=hS14.unb
    refine pv (Q4q (v := .agg (Q0o y6.1).toArray) rfl rfl) (pv (Q4q (v:=iv y6.2) rfl rfl) (wl rfl (X6 (q:=0) hS14 ⟨rfl,rfl⟩ rfl rfl rfl sizeOf89 rfl rfl rfl fun w15 im15 hS15 => ?_)))
    refine pv (J0 rfl) (nil (Q0 ?_))
    cases oI hm
    exact rtn (Y5 (Q6 (A5 (vs := [.agg (Q0o y6.1).toArray,iv y6.2]) rfl ⟨rvS rfl isAgg89 sizeOf89 rfl (hS15.bx (i:=0) ⟨rfl,rfl⟩),rfl,qZt⟩ rfl ⟨_,rfl,_,(iT im1 (iT im2 (iT im11 (iT im14 im15)))),⟨rfl,hS15.sel [1] rfl,qZt⟩⟩)))
  refine skp (U6 (Q0 ?_))
  refine sq2 ?_
  obtain⟨y7,hx11,hm⟩:=Q4 hm
  refine rg (pv (P2 rfl) (wl rfl (Z7 cf58 rfl (Z3q (p0:=p0) (hS11.bun [0,1] [] rfl)  hx11) rfl fun v7 T8 w16 im16 rv7 => ?_)))
  obtain⟨rfl,hS16,_⟩:=rv7
  have hS16:=hS16.unb
  refine pv (Q5r rfl) (nil (Q0 ?_))
  refine sq2 (sq2 (rg (pv (P2 rfl) (pv (E7 rfl rfl) (nil (Q0 ?_))))))
  refine V3 rfl hm (fun hb6 hm => ?_) fun hb6 hm => ?_
  · refine sq2 (rg (pv (A8 (by kernel_rfl) rfl (u := .agg #[iv 0,qZs [],.int .u32 0,iv 0,iv 0])) (wl rfl (X6 (q:=0) hS16 ⟨rfl,rfl⟩ rfl rfl rfl sizeOf89 rfl rfl rfl fun w17 im17 hS17 => ?_))))
    refine pv (J0 rfl) (nil (Q0 ?_))
    cases oI hm
    exact rtn (Q6 (A5 (vs := [.agg #[iv 0,qZs [],.int .u32 0,iv 0,iv 0],iv 3]) rfl ⟨rvS rfl isAgg89 sizeOf89 rfl (hS17.bx (i:=0) ⟨rfl,rfl⟩),rfl,qZt⟩ rfl ⟨_,rfl,_,(iT im1 (iT im2 (iT im11 (iT im16 im17)))),⟨rfl,hS17.sel [1] rfl,qZt⟩⟩))
  refine skp (Q0 ?_)
  refine sq2 (rg (pv (P2 rfl) (pv (A8 (by kernel_rfl) rfl (u := .agg #[iv 4,qZs y7,.int .u32 0,iv 0,iv 0])) (wl rfl (X6 (q:=0) hS16 ⟨rfl,rfl⟩ rfl rfl rfl sizeOf89 rfl rfl rfl fun w18 im18 hS18 => ?_)))))
  refine pv (J0 rfl) (nil (Q0 ?_))
  cases oI hm
  exact rtn (A5 (vs := [.agg #[iv 4,qZs y7,.int .u32 0,iv 0,iv 0],iv 0]) rfl ⟨rvS rfl isAgg89 sizeOf89 rfl (hS18.bx (i:=0) ⟨rfl,rfl⟩),rfl,qZt⟩ rfl ⟨_,rfl,_,(iT im1 (iT im2 (iT im11 (iT im16 im18)))),⟨rfl,hS18.sel [1] rfl,qZt⟩⟩)

theorem Z4s {p0:List UInt8} {r:(List Y6)×Pos×Int} (hS:Sep g T0 w0 [R]) (hG0:Gi T0 w0 0) (hm:Q5u p0=some r) :
    Calls Tryz.prog 10 #[qZs p0] w0 (E6 T0 w0 fun T w v => ∃(a4:OA) (n4:Nat) (c4:Nat),v = .tuple #[.slice a4 n4 c4,.agg #[iv r.2.1.Line,iv r.2.1.Col],iv r.2.2]∧Sep g T w [R,G3 Y3 89 (.slice a4 n4 c4) r.1]∧True):=by
  refine enter (args := [qZs p0]) Tryz.func10 rfl Tryz.ntmps10 rfl fun J => ?_
  unfold Q5u at hm
  refine sq2 (rg (pv (P8 rfl) (wl rfl (alS (zs := [iv 0,iv 0]) zeroValue29 rfl hS fun w1 b1 im1 hS1 => ?_))))
  refine pv (J0 rfl) (nil (Q0 ?_))
  refine sq2 (rg (pv (P2 rfl) (pv (A8 (by kernel_rfl) rfl (u := .agg #[iv 1,iv 1])) (pv (A8 (by kernel_rfl) rfl (u := .agg #[qZs p0,iv 1,iv 1])) (wl rfl (bxS (cs := [qZs p0,iv 1,iv 1]) rfl rfl hS1 fun w2 b2 im2 hS2 => ?_))))))
  refine pv (r_zp rfl) (nil (Q0 ?_))
  refine sq2 (sq2 (rg (pv (P2 rfl) (pv (Q5g rfl underlying9) (pv (X7 rfl rfl rfl) (nil (Q0 ?_)))))))
  refine V3 rfl hm (fun hb1 hm => ?_) fun hb1 hm => ?_
  · refine sq2 (rs [0,0,0,1,0,2,0] [0,1,2,3,4,5,6] mix (by kernel_rfl) hS2.lt fun w3 i1 => ?_)
    have im3:=i1.imm
    have hS3:=hS2.keep i1 (fun _ h=>h)
    refine s0 rfl qZt (fun _=>Z9 rfl) rfl (s0 rfl qZt (fun _=>J1 rfl) rfl (s0 rfl qZt (fun _=>Z1 rfl underlying84 rfl sizeOf29 rfl) rfl (s1 rfl qZt (Z5 rfl isAgg29 sizeOf29 rfl (hS3.cells0 (i:=0) ⟨rfl,rfl⟩ (o:=1) rfl) (cs := [iv 1,iv 1])) rfl (s0 rfl qZt (fun _=>P8 rfl) rfl (s2 [] rfl qZt rfl (by kernel_rfl) (X6 (q:=1) hS3 ⟨rfl,rfl⟩ rfl rfl rfl sizeOf29 rfl rfl rfl fun w4 im4 hS4 => ?_))))))
    refine⟨st0,?_⟩
    refine s0 rfl qZt (fun _=>J0 rfl) rfl (se (Q0 ?_))
    have hS5:=hS4.nilO Y3 89
    cases oI hm
    exact rtn (Q6 (A5 (vs := [.slice none 0 0,.agg #[iv 1,iv 1],iv 2]) rfl ⟨rfl,rvS rfl isAgg29 sizeOf29 rfl (hS5.bx (i:=2) ⟨rfl,rfl⟩),rfl,qZt⟩ rfl ⟨_,rfl,_,(iT im1 (iT im2 (iT im3 im4))),⟨_,_,_,rfl,hS5.sel [3,0] rfl,qZt⟩⟩))
  refine skp (Q0 ?_)
  refine sq2 (rg (pv (P8 rfl) (nil (Q0 ?_))))
  refine sq2 ?_
  obtain⟨o1,ho1,hq1⟩:=Q4 hm
  obtain⟨bd1,hbd1,ho1⟩:=K3 ho1
  have hS6:=hS2.nilO Y3 89
  refine blk (wp_loop_ghost (fun m a w5 => ∃(J:JV) (T1:TP) (x2:F9) (x1:List Y6) (a1:OA) (n1:Nat) (c1:Nat),a=env (nf 76) J [(3,pt b1 0),(5,pt b2 0),(6,.slice a1 n1 c1)]∧Im T0 w2 T1 w5∧Sep g T1 w5 [G3 Y3 89 (.slice a1 n1 c1) x1,J6 b2 (Q3n x2),J6 b1 [iv 0,iv 0],R]∧V7 bd1 m (x1,x2)=some o1) NN ⟨_,_,(⟨p0,(⟨1,1⟩:Pos)⟩:F9),[],_,_,_,Q7 ⟨rfl,rfl,rfl,qZt⟩,Im.refl,hS6.sel [0,1,2,3] rfl,ho1⟩ ?_)
  rintro m _ w5 ⟨J,T1,x2,x1,a1,n1,c1,rfl,im5,hS7,ho1⟩
  obtain⟨m1,z1,rfl,hm,hn1⟩:=U4 ho1
  rw [hbd1] at hm
  refine sq2 (sq2 (rg (pv (Z9 rfl) (pv (J1 rfl) (pv (Z1 rfl underlying84 rfl sizeOf9 rfl) (pv (Z4 rfl isAgg9 (hS7.cell0 (i:=1) ⟨rfl,rfl⟩ (j:=0) rfl)) (pv (Q8b rfl rfl) (nil (Q0 ?_)))))))))
  refine V3 rfl hm (fun hb2 hm => ?_) fun hb2 hm => ?_
  · refine skp (Q0 ?_)
    refine blk (sq2 ?_)
    obtain⟨y1,hx1,hm⟩:=Q4 hm
    refine rg (pv (Z9 rfl) (pv (J1 rfl) (pv (Z1 rfl underlying84 rfl sizeOf9 rfl) (pv (Z4 rfl isAgg9 (hS7.cell0 (i:=1) ⟨rfl,rfl⟩ (j:=0) rfl)) (wl rfl (Z7 cf27 rfl (Z2n (p0:=x2.s) (hS7.bun [0,1,2,3] [] rfl) (hG0.mono (iT im1 (iT im2 im5))) hx1) rfl fun v1 T2 w6 im6 rv1 => ?_))))))
    obtain⟨rfl,hS8,_⟩:=rv1
    have hS8:=hS8.unb
    refine pv (J0 rfl) (nil (Q0 ?_))
    refine sq2 (sq2 (rg (pv (U1 rfl) (pv (X7 rfl rfl rfl) (nil (Q0 ?_))))))
    refine V3 rfl hm (fun hb3 hm => ?_) fun hb3 hm => ?_
    · refine sq2 (rs [0,0,0,1,0,2,0] [0,1,2,3,4,5,6] mix (by kernel_rfl) hS8.lt fun w7 i2 => ?_)
      have im7:=i2.imm
      have hS9:=hS8.keep i2 (fun _ h=>h)
      refine s0 rfl qZt (fun _=>Z9 rfl) rfl (s0 rfl qZt (fun _=>J1 rfl) rfl (s0 rfl qZt (fun _=>Z1 rfl underlying84 rfl sizeOf29 rfl) rfl (s1 rfl qZt (Z5 rfl isAgg29 sizeOf29 rfl (hS9.cells0 (i:=1) ⟨rfl,rfl⟩ (o:=1) rfl) (cs := [iv x2.pos.Line,iv x2.pos.Col])) rfl (s0 rfl qZt (fun _=>P8 rfl) rfl (s2 [] rfl qZt rfl (by kernel_rfl) (X6 (q:=2) hS9 ⟨rfl,rfl⟩ rfl rfl rfl sizeOf29 rfl rfl rfl fun w8 im8 hS10 => ?_))))))
      refine⟨st0,?_⟩
      refine s0 rfl qZt (fun _=>J0 rfl) rfl (se (Q0 ?_))
      have hS11:=hS10.nilO Y3 89
      cases oI hm
      have hn1:_=Lp.ret _:=hn1
      subst hn1
      have hm:=X1 hq1
      cases oI hm
      exact rtn (Q6 (Y5 (Q6 (Y5 (Q6 (A5 (vs := [.slice none 0 0,.agg #[iv x2.pos.Line,iv x2.pos.Col],iv 3]) rfl ⟨rfl,rvS rfl isAgg29 sizeOf29 rfl (hS11.bx (i:=3) ⟨rfl,rfl⟩),rfl,qZt⟩ rfl ⟨_,rfl,_,(iT im1 (iT im2 (iT im5 (iT im6 (iT im7 im8))))),⟨_,_,_,rfl,hS11.sel [4,0] rfl,qZt⟩⟩))))))
    refine skp (Q0 ?_)
    refine sq2 (sq2 (rg (pv (U1 rfl) (pv (X7 rfl rfl rfl) (nil (Q0 ?_))))))
    refine V3 rfl hm (fun hb4 hm => ?_) fun hb4 hm => ?_
    · refine sq2 ?_
      obtain⟨y2,hx2,hm⟩:=Q4 hm
      refine rg (pv (Z9 rfl) (pv (U1 rfl) (wl rfl (Z7 cf28 rfl (Q3k (p0:=x2) (Q2:=J6 b2) (p1:=y1) (hS8.bun [0,2,3] [1] rfl) (Q0x b2) hx2) rfl fun v2 T3 w9 im9 rv2 => ?_))))
      obtain⟨rfl,hS12,_⟩:=rv2
      have hS12:=hS12.unb
      refine nil (Q0 ?_)
      cases oI hm
      exact xt (V9 (L5 (Q0 ⟨m1,Nat.lt_succ_self _,_,_,y2,x1,_,_,_,Q7 ⟨rfl,rfl,rfl,qZt⟩,(iT im5 (iT im6 im9)),hS12.sel [0,3,1,2] rfl,hn1⟩)))
    refine skp (Q0 ?_)
    refine sq2 ?_
    obtain⟨y3,hx3,hm⟩:=Q4 hm
    refine rg (pv (Z9 rfl) (pv (J1 rfl) (pv (Z1 rfl underlying84 rfl sizeOf9 rfl) (pv (Z4 rfl isAgg9 (hS8.cell0 (i:=1) ⟨rfl,rfl⟩ (j:=0) rfl)) (wl rfl (Z7 cf29 rfl (Z2m (p0:=x2.s) (hS8.bun [0,1,2,3] [] rfl)  hx3) rfl fun v3 T4 w10 im10 rv3 => ?_))))))
    obtain⟨rfl,hS13,_⟩:=rv3
    have hS13:=hS13.unb
    refine pv (r_mv rfl) (pv (Q4q (v := .agg (Q0o y3.1).toArray) rfl rfl) (pv (Q4q (v:=iv y3.2) rfl rfl) (wl rfl (alS (zs := [iv 0,qZs [],.int .u32 0,iv 0,iv 0]) zeroValue89 rfl hS13 fun w11 b3 im11 hS14 => ?_))))
    refine wl rfl (X6 (q:=0) hS14 ⟨rfl,rfl⟩ rfl rfl rfl sizeOf89 rfl rfl rfl fun w12 im12 hS15 => ?_)
    refine pv (J0 rfl) (nil (Q0 ?_))
    refine sq2 (sq2 (rg (pv (U1 rfl) (pv (X7 rfl rfl rfl) (nil (Q0 ?_))))))
    refine V3 rfl hm (fun hb5 hm => ?_) fun hb5 hm => ?_
    · refine sq2 (rs [0,0,0,1,0,0,2,0] [0,1,2,3,4,5,6,7] mix (by kernel_rfl) hS15.lt fun w13 i3 => ?_)
      have im13:=i3.imm
      have hS16:=hS15.keep i3 (fun _ h=>h)
      refine s0 rfl qZt (fun _=>Z9 rfl) rfl (s0 rfl qZt (fun _=>J1 rfl) rfl (s0 rfl qZt (fun _=>Z1 rfl underlying84 rfl sizeOf29 rfl) rfl (s1 rfl qZt (Z5 rfl isAgg29 sizeOf29 rfl (hS16.cells0 (i:=2) ⟨rfl,rfl⟩ (o:=1) rfl) (cs := [iv x2.pos.Line,iv x2.pos.Col])) rfl (s0 rfl qZt (fun _=>U1 rfl) rfl (s0 rfl qZt (fun _=>P8 rfl) rfl (s2 [] rfl qZt rfl (by kernel_rfl) (X6 (q:=3) hS16 ⟨rfl,rfl⟩ rfl rfl rfl sizeOf29 rfl rfl rfl fun w14 im14 hS17 => ?_)))))))
      refine⟨st0,?_⟩
      refine s0 rfl qZt (fun _=>J0 rfl) rfl (se (Y9 [(2,.slice none 0 0),(3,pt b1 0),(4,iv y3.2)] ⟨rfl,rfl,rfl,qZt⟩ fun J => ?_))
      have hS18:=hS17.nilO Y3 89
      cases oI hm
      have hn1:_=Lp.ret _:=hn1
      subst hn1
      have hm:=X1 hq1
      cases oI hm
      exact rtn (Q6 (Y5 (Q6 (Y5 (Q6 (A5 (vs := [.slice none 0 0,.agg #[iv x2.pos.Line,iv x2.pos.Col],iv y3.2]) rfl ⟨rfl,rvS rfl isAgg29 sizeOf29 rfl (hS18.bx (i:=4) ⟨rfl,rfl⟩),rfl,qZt⟩ rfl ⟨_,rfl,_,(iT im1 (iT im2 (iT im5 (iT im6 (iT im10 (iT im11 (iT im12 (iT im13 im14)))))))),⟨_,_,_,rfl,hS18.sel [5,0] rfl,qZt⟩⟩))))))
    refine skp (Y9 [(3,pt b1 0),(5,pt b2 0),(6,.slice a1 n1 c1),(8,pt b3 0)] ⟨rfl,rfl,rfl,rfl,qZt⟩ fun J => ?_)
    refine sq2 (rg (pv (Z9 rfl) (pv (J1 rfl) (pv (Z1 rfl underlying84 rfl sizeOf29 rfl) (pv (Z5 rfl isAgg29 sizeOf29 rfl (hS15.cells0 (i:=2) ⟨rfl,rfl⟩ (o:=1) rfl) (cs := [iv x2.pos.Line,iv x2.pos.Col])) (pv (Z1 rfl underlying89 rfl sizeOf29 rfl) (wl rfl (X6 (q:=0) hS15 ⟨rfl,rfl⟩ rfl rfl rfl sizeOf29 rfl rfl rfl fun w15 im15 hS19 => ?_))))))))
    refine nil (Q0 ?_)
    refine sq2 (rg (pv (N2 rfl) (pv (Z5 rfl isAgg89 sizeOf89 rfl (hS19.cells0 (i:=0) ⟨rfl,rfl⟩ (o:=0) rfl) (cs := [iv y3.1.Kind,qZs y3.1.Text,.int .u32 y3.1.Num,iv x2.pos.Line,iv x2.pos.Col])) (wl rfl (bsS (r:=Y3) (l:=([{y3.1 with Pos:=x2.pos}]:List Y6)) (css := [[iv y3.1.Kind,qZs y3.1.Text,.int .u32 y3.1.Num,iv x2.pos.Line,iv x2.pos.Col]]) hS19 underlying38 sizeOf89 zeroValue89 rfl rfl (by kernel_rfl) rfl ⟨(Z5o (x := {y3.1 with Pos:=x2.pos})  : Y3.rp _ _ _ _),qZt⟩ rfl rfl fun w16 a2 n2 c2 im16 hS20 => ?_)))))
    obtain⟨z_1,hro1,hm⟩:=Q4 hm
    refine wl rfl (apO (q:=2) (l:=x1) (us:=([{y3.1 with Pos:=x2.pos}]:List Y6)) hS20 ⟨rfl,rfl⟩ rfl rfl (hS20.own (i:=0) ⟨rfl,rfl⟩).v underlying38 el89 (D5 hro1) fun w17 a3 n3 c3 im17 hS21 => ?_)
    refine pv (P8 rfl) (nil (Q0 ?_))
    obtain⟨y4,hx4,hm⟩:=Q4 hm
    refine rg (pv (Z9 rfl) (pv (Z1 rfl underlying89 rfl sizeOf9 rfl) (pv (Z4 rfl isAgg9 (hS21.cell0 (i:=1) ⟨rfl,rfl⟩ (j:=1) rfl)) (pv (Q5g rfl underlying9) (wl rfl (Z7 cf28 rfl (Q3k (p0:=x2) (Q2:=J6 b2) (p1:=(List.length y3.1.Text:Int)) (hS21.bun [2,4,5] [3] rfl) (Q0x b2) hx4) rfl fun v4 T5 w18 im18 rv4 => ?_))))))
    obtain⟨rfl,hS22,_⟩:=rv4
    have hS22:=hS22.unb
    cases oI hm
    exact nil (U6 (Q0 ⟨m1,Nat.lt_succ_self _,_,_,y4,(x1++([{y3.1 with Pos:=x2.pos}]:List Y6)),_,_,_,Q7 ⟨rfl,rfl,rfl,qZt⟩,(iT im5 (iT im6 (iT im10 (iT im11 (iT im12 (iT im15 (iT im16 (iT im17 im18)))))))),hS22.sel [0,3,1,2] rfl,hn1⟩))
  cases oI hm
  have hn1:_=Lp.brk _:=hn1
  subst hn1
  have hm:=F1 hq1
  refine xt (V9 (V9 (L5 (Q0 ?_))))
  refine sq2 (rs [0,0,0,0,1,0,2,0] [0,1,2,3,4,5,6,7] mix (by kernel_rfl) hS7.lt fun w19 i4 => ?_)
  have im19:=i4.imm
  have hS23:=hS7.keep i4 (fun _ h=>h)
  refine s0 rfl qZt (fun _=>N2 rfl) rfl (s0 rfl qZt (fun _=>Z9 rfl) rfl (s0 rfl qZt (fun _=>J1 rfl) rfl (s0 rfl qZt (fun _=>Z1 rfl underlying84 rfl sizeOf29 rfl) rfl (s1 rfl qZt (Z5 rfl isAgg29 sizeOf29 rfl (hS23.cells0 (i:=1) ⟨rfl,rfl⟩ (o:=1) rfl) (cs := [iv x2.pos.Line,iv x2.pos.Col])) rfl (s0 rfl qZt (fun _=>P8 rfl) rfl (s2 [] rfl qZt rfl (by kernel_rfl) (X6 (q:=2) hS23 ⟨rfl,rfl⟩ rfl rfl rfl sizeOf29 rfl rfl rfl fun w20 im20 hS24 => ?_)))))))
  refine⟨st0,?_⟩
  refine s0 rfl qZt (fun _=>J0 rfl) rfl (se (Q0 ?_))
  cases oI hm
  exact rtn (A5 (vs := [.slice a1 n1 c1,.agg #[iv x2.pos.Line,iv x2.pos.Col],iv 0]) rfl ⟨rfl,rvS rfl isAgg29 sizeOf29 rfl (hS24.bx (i:=2) ⟨rfl,rfl⟩),rfl,qZt⟩ rfl ⟨_,rfl,_,(iT im1 (iT im2 (iT im5 (iT im19 im20)))),⟨_,_,_,rfl,hS24.sel [3,0] rfl,qZt⟩⟩)

theorem B0 {p0:Q1} {X4 X2:Nat} {Q2:List Value→J7} {a1:OA} {c1:Nat} {r:Pos} (hS:Sep g T0 w0 [R,Q2 [sv a1 p0.l c1,iv p0.end_.Line,iv p0.end_.Col,iv p0.depth]]) (Q3:Ln X4 X2 Q2) (h1:SlR Y3 T0 w0 (sv a1 p0.l c1) p0.l) (hm:G6 p0=some r) :
    Calls Tryz.prog 59 #[pt X4 X2] w0 (E6 T0 w0 fun T w v=>v = .agg #[iv r.Line,iv r.Col]∧Sep g T w [R,Q2 [sv a1 p0.l c1,iv p0.end_.Line,iv p0.end_.Col,iv p0.depth]]∧True):=by
  refine enter (args := [pt X4 X2]) Tryz.func59 rfl Tryz.ntmps59 rfl fun J => ?_
  unfold G6 at hm
  refine sq2 (rg (wl rfl (alS (zs := [iv 0,iv 0]) zeroValue29 rfl hS fun w1 b1 im1 hS1 => ?_)))
  refine nil (Q0 ?_)
  refine sq2 (sq2 (rg (pv (Z9 rfl) (pv (J1 rfl) (pv (Z1 rfl underlying43 rfl sizeOf38 rfl) (pv (Z4 rfl isAgg38 (hS1.cellB (i:=2) ⟨rfl,rfl⟩ Q3 (j:=0) rfl)) (pv (L3 rfl underlying38) (pv (X7 rfl rfl rfl) (nil (Q0 ?_))))))))))
  refine V3 rfl hm (fun hb1 hm => ?_) fun hb1 hm => ?_
  · refine sq2 (rg (pv (Z9 rfl) (pv (J1 rfl) (pv (Z1 rfl underlying43 rfl sizeOf29 rfl) (pv (Z5 rfl isAgg29 sizeOf29 rfl ((hS1.cellsB (i:=2) ⟨rfl,rfl⟩ Q3).sub 1 rfl) (cs := [iv p0.end_.Line,iv p0.end_.Col])) (wl rfl (X6 (q:=0) hS1 ⟨rfl,rfl⟩ rfl rfl rfl sizeOf29 rfl rfl rfl fun w2 im2 hS2 => ?_)))))))
    refine nil (Q0 ?_)
    cases oI hm
    exact rtn (Q6 (A5 (vs := [.agg #[iv p0.end_.Line,iv p0.end_.Col]]) rfl ⟨rvS rfl isAgg29 sizeOf29 rfl (hS2.bx (i:=0) ⟨rfl,rfl⟩),qZt⟩ rfl ⟨_,rfl,_,(iT im1 im2),⟨rfl,hS2.sel [1,2] rfl,qZt⟩⟩))
  refine skp (Q0 ?_)
  refine sq2 ?_
  obtain⟨u1,hx1,hm⟩:=Q4 hm
  obtain⟨b2,of1,cs1,k1,cp1,hv1,hp1,hl1,he1,hr1,hc1,hT1⟩:=(h1.mono im1).ixT hx1 rfl
  cases I3 hr1
  refine rg (pv (Z9 rfl) (pv (J1 rfl) (pv (Z1 rfl underlying43 rfl sizeOf38 rfl) (pv (Z4 rfl isAgg38 (hS1.cellB (i:=2) ⟨rfl,rfl⟩ Q3 (j:=0) rfl)) (pv (B2 hv1 rfl underlying38 sizeOf89 hp1 hl1 he1) (pv (Z1 rfl underlying89 rfl sizeOf29 rfl) (pv (Z5 rfl isAgg29 sizeOf29 rfl (hc1.sub 3 rfl) (cs := [iv u1.Pos.Line,iv u1.Pos.Col])) (wl rfl (X6 (q:=0) hS1 ⟨rfl,rfl⟩ rfl rfl rfl sizeOf29 rfl rfl rfl fun w3 im3 hS3 => ?_)))))))))
  refine nil (Q0 ?_)
  cases oI hm
  exact rtn (A5 (vs := [.agg #[iv u1.Pos.Line,iv u1.Pos.Col]]) rfl ⟨rvS rfl isAgg29 sizeOf29 rfl (hS3.bx (i:=0) ⟨rfl,rfl⟩),qZt⟩ rfl ⟨_,rfl,_,(iT im1 im3),⟨rfl,hS3.sel [1,2] rfl,qZt⟩⟩)

theorem Q1a {p0:Q1} {X4 X2:Nat} {Q2:List Value→J7} {a1:OA} {c1:Nat} {p1:Int} {p2:List UInt8} {r:Bool} (hS:Sep g T0 w0 [R,Q2 [sv a1 p0.l c1,iv p0.end_.Line,iv p0.end_.Col,iv p0.depth]]) (Q3:Ln X4 X2 Q2) (h1:SlR Y3 T0 w0 (sv a1 p0.l c1) p0.l) (hm:M1 p0 p1 p2=some r) :
    Calls Tryz.prog 61 #[pt X4 X2,iv p1,qZs p2] w0 (E6 T0 w0 fun T w v=>v = .bool r∧Sep g T w [R,Q2 [sv a1 p0.l c1,iv p0.end_.Line,iv p0.end_.Col,iv p0.depth]]∧True):=by
  refine enter (args := [pt X4 X2,iv p1,qZs p2]) Tryz.func61 rfl Tryz.ntmps61 rfl fun J => ?_
  unfold M1 at hm
  refine sq2 (rg (pv (X5 rfl) (nil (Q0 ?_))))
  refine sq2 (rg (pv (U1 rfl) (pv (Z9 rfl) (pv (J1 rfl) (pv (Z1 rfl underlying43 rfl sizeOf38 rfl) (pv (Z4 rfl isAgg38 (hS.cellB (i:=1) ⟨rfl,rfl⟩ Q3 (j:=0) rfl)) (pv (L3 rfl underlying38) (pv (X7 rfl rfl rfl) (pv (Y7 rfl) (?_))))))))))
  rcases Bool.eq_false_or_eq_true (decide (p1 < (List.length p0.l:Int))) with hb1 | hb1
  · have hm:=V8 hb1 hm
    obtain⟨u1,hx1,hm⟩:=Q4 hm
    obtain⟨b1,of1,cs1,k1,cp1,hv1,hp1,hl1,he1,hr1,hc1,hT1⟩:=h1.ixT hx1 rfl
    cases I3 hr1
    refine gT (d0:=14) rfl rfl hb1 (pv (Z9 rfl) (gT (d0:=14) rfl rfl hb1 (pv (J1 rfl) (gT (d0:=14) rfl rfl hb1 (pv (Z1 rfl underlying43 rfl sizeOf38 rfl) (gT (d0:=14) rfl rfl hb1 (pv (Z4 rfl isAgg38 (hS.cellB (i:=1) ⟨rfl,rfl⟩ Q3 (j:=0) rfl)) (gT (d0:=14) rfl rfl hb1 (pv (U1 rfl) (gT (d0:=14) rfl rfl hb1 (pv (B2 hv1 rfl underlying38 sizeOf89 hp1 hl1 he1) (gT (d0:=14) rfl rfl hb1 (pv (Z1 rfl underlying89 rfl sizeOf9 rfl) (gT (d0:=14) rfl rfl hb1 (pv (Z4 rfl isAgg9 (hc1.get (j:=1) rfl)) (gT (d0:=14) rfl rfl hb1 (pv (P2 rfl) (gT (d0:=14) rfl rfl hb1 (pv (E7 rfl rfl) (pv (Y1 rfl hb1 rfl) (pv (Y7 rfl) (?_))))))))))))))))))))))
    rcases Bool.eq_false_or_eq_true (decide (u1.Text=p2)) with hb2 | hb2
    · have hm:=V8 hb2 hm
      obtain⟨u2,hx2,hm⟩:=Q4 hm
      obtain⟨b2,of2,cs2,k2,cp2,hv2,hp2,hl2,he2,hr2,hc2,hT2⟩:=h1.ixT hx2 rfl
      cases I3 hr2
      refine gT (d0:=26) rfl rfl hb2 (pv (Z9 rfl) (gT (d0:=26) rfl rfl hb2 (pv (J1 rfl) (gT (d0:=26) rfl rfl hb2 (pv (Z1 rfl underlying43 rfl sizeOf38 rfl) (gT (d0:=26) rfl rfl hb2 (pv (Z4 rfl isAgg38 (hS.cellB (i:=1) ⟨rfl,rfl⟩ Q3 (j:=0) rfl)) (gT (d0:=26) rfl rfl hb2 (pv (U1 rfl) (gT (d0:=26) rfl rfl hb2 (pv (B2 hv2 rfl underlying38 sizeOf89 hp2 hl2 he2) (gT (d0:=26) rfl rfl hb2 (pv (Z1 rfl underlying89 rfl sizeOf3 rfl) (gT (d0:=26) rfl rfl hb2 (pv (Z4 rfl isAgg3 (hc2.get (j:=0) rfl)) (gT (d0:=26) rfl rfl hb2 (pv (X7 rfl rfl rfl) (gT (d0:=26) rfl rfl hb2 (pv (Y7 rfl) (?_))))))))))))))))))))
      rcases Bool.eq_false_or_eq_true (u2.Kind == 2) with hb3 | hb3
      · have hm:=V8 hb3 hm
        refine gF (d0:=36) rfl rfl (by rw [hb3]; rfl) (gF (d0:=36) rfl rfl (by rw [hb3]; rfl) (gF (d0:=36) rfl rfl (by rw [hb3]; rfl) (gF (d0:=36) rfl rfl (by rw [hb3]; rfl) (gF (d0:=36) rfl rfl (by rw [hb3]; rfl) (gF (d0:=36) rfl rfl (by rw [hb3]; rfl) (gF (d0:=36) rfl rfl (by rw [hb3]; rfl) (gF (d0:=36) rfl rfl (by rw [hb3]; rfl) (gF (d0:=36) rfl rfl (by rw [hb3]; rfl) (gT (d0:=26) rfl rfl hb2 (pv (Y1 rfl hb3 rfl) (pv (Y1 rfl hb2 rfl) (pv (X5 rfl) (nil (Y9 [(6,.bool true)] ⟨rfl,qZt⟩ fun J => ?_))))))))))))))
        cases oI hm
        exact rtn (U2 rfl rfl ⟨_,rfl,_,Im.refl,⟨rfl,hS.sel [0,1] rfl,qZt⟩⟩)
      have hm:=X3 hb3 hm
      obtain⟨u3,hx3,hm⟩:=Q4 hm
      obtain⟨b3,of3,cs3,k3,cp3,hv3,hp3,hl3,he3,hr3,hc3,hT3⟩:=h1.ixT hx3 rfl
      cases I3 hr3
      refine gT (d0:=36) rfl rfl hb3 (pv (Z9 rfl) (gT (d0:=36) rfl rfl hb3 (pv (J1 rfl) (gT (d0:=36) rfl rfl hb3 (pv (Z1 rfl underlying43 rfl sizeOf38 rfl) (gT (d0:=36) rfl rfl hb3 (pv (Z4 rfl isAgg38 (hS.cellB (i:=1) ⟨rfl,rfl⟩ Q3 (j:=0) rfl)) (gT (d0:=36) rfl rfl hb3 (pv (U1 rfl) (gT (d0:=36) rfl rfl hb3 (pv (B2 hv3 rfl underlying38 sizeOf89 hp3 hl3 he3) (gT (d0:=36) rfl rfl hb3 (pv (Z1 rfl underlying89 rfl sizeOf3 rfl) (gT (d0:=36) rfl rfl hb3 (pv (Z4 rfl isAgg3 (hc3.get (j:=0) rfl)) (gT (d0:=36) rfl rfl hb3 (pv (X7 rfl rfl rfl) (gT (d0:=26) rfl rfl hb2 (pv (X9 rfl hb3 rfl) (pv (Y1 rfl hb2 rfl) (pv (X5 rfl) (nil (Y9 [(6,.bool (u3.Kind == 4))] ⟨rfl,qZt⟩ fun J => ?_)))))))))))))))))))))))
      cases oI hm
      exact rtn (U2 rfl rfl ⟨_,rfl,_,Im.refl,⟨rfl,hS.sel [0,1] rfl,qZt⟩⟩)
    have hm:=X3 hb2 hm
    refine gF (d0:=26) rfl rfl (by rw [hb2]; rfl) (gF (d0:=26) rfl rfl (by rw [hb2]; rfl) (gF (d0:=26) rfl rfl (by rw [hb2]; rfl) (gF (d0:=26) rfl rfl (by rw [hb2]; rfl) (gF (d0:=26) rfl rfl (by rw [hb2]; rfl) (gF (d0:=26) rfl rfl (by rw [hb2]; rfl) (gF (d0:=26) rfl rfl (by rw [hb2]; rfl) (gF (d0:=26) rfl rfl (by rw [hb2]; rfl) (gF (d0:=26) rfl rfl (by rw [hb2]; rfl) (gF (d0:=26) rfl rfl (by rw [hb2]; rfl) (gU (d0:=36) rfl rfl (gU (d0:=36) rfl rfl (gU (d0:=36) rfl rfl (gU (d0:=36) rfl rfl (gU (d0:=36) rfl rfl (gU (d0:=36) rfl rfl (gU (d0:=36) rfl rfl (gU (d0:=36) rfl rfl (gU (d0:=36) rfl rfl (gF (d0:=26) rfl rfl (by rw [hb2]; rfl) (pv (X9 rfl hb2 rfl) (pv (X5 rfl) (nil (Y9 [(6,.bool false)] ⟨rfl,qZt⟩ fun J => ?_)))))))))))))))))))))))
    cases oI hm
    exact rtn (U2 rfl rfl ⟨_,rfl,_,Im.refl,⟨rfl,hS.sel [0,1] rfl,qZt⟩⟩)
  have hm:=X3 hb1 hm
  refine gF (d0:=14) rfl rfl (by rw [hb1]; rfl) (gF (d0:=14) rfl rfl (by rw [hb1]; rfl) (gF (d0:=14) rfl rfl (by rw [hb1]; rfl) (gF (d0:=14) rfl rfl (by rw [hb1]; rfl) (gF (d0:=14) rfl rfl (by rw [hb1]; rfl) (gF (d0:=14) rfl rfl (by rw [hb1]; rfl) (gF (d0:=14) rfl rfl (by rw [hb1]; rfl) (gF (d0:=14) rfl rfl (by rw [hb1]; rfl) (gF (d0:=14) rfl rfl (by rw [hb1]; rfl) (gF (d0:=14) rfl rfl (by rw [hb1]; rfl) (pv (X9 rfl hb1 rfl) (pv (Y7 rfl) (gF (d0:=26) rfl rfl rfl (gF (d0:=26) rfl rfl rfl (gF (d0:=26) rfl rfl rfl (gF (d0:=26) rfl rfl rfl (gF (d0:=26) rfl rfl rfl (gF (d0:=26) rfl rfl rfl (gF (d0:=26) rfl rfl rfl (gF (d0:=26) rfl rfl rfl (gF (d0:=26) rfl rfl rfl (gF (d0:=26) rfl rfl rfl (gU (d0:=36) rfl rfl (gU (d0:=36) rfl rfl (gU (d0:=36) rfl rfl (gU (d0:=36) rfl rfl (gU (d0:=36) rfl rfl (gU (d0:=36) rfl rfl (gU (d0:=36) rfl rfl (gU (d0:=36) rfl rfl (gU (d0:=36) rfl rfl (gF (d0:=26) rfl rfl rfl (pv (X9 rfl rfl rfl) (pv (X5 rfl) (nil (Y9 [(6,.bool false)] ⟨rfl,qZt⟩ fun J => ?_)))))))))))))))))))))))))))))))))))
  cases oI hm
  exact rtn (U2 rfl rfl ⟨_,rfl,_,Im.refl,⟨rfl,hS.sel [0,1] rfl,qZt⟩⟩)

theorem G0 {p0:Q1} {X4 X2:Nat} {Q2:List Value→J7} {a1:OA} {c1:Nat} {p1:List UInt8} {r:Bool} (hS:Sep g T0 w0 [R,Q2 [sv a1 p0.l c1,iv p0.end_.Line,iv p0.end_.Col,iv p0.depth]]) (Q3:Ln X4 X2 Q2) (h1:SlR Y3 T0 w0 (sv a1 p0.l c1) p0.l) (hm:U0 p0 p1=some r) :
    Calls Tryz.prog 60 #[pt X4 X2,qZs p1] w0 (E6 T0 w0 fun T w v=>v = .bool r∧Sep g T w [R,Q2 [sv a1 p0.l c1,iv p0.end_.Line,iv p0.end_.Col,iv p0.depth]]∧True):=by
  refine enter (args := [pt X4 X2,qZs p1]) Tryz.func60 rfl Tryz.ntmps60 rfl fun J => ?_
  unfold U0 at hm
  refine sq2 (rg (pv (X5 rfl) (nil (Q0 ?_))))
  refine sq2 ?_
  obtain⟨y1,hx1,hm⟩:=Q4 hm
  refine rg (pv (Z9 rfl) (pv (P2 rfl) (wl rfl (Z7 cf61 rfl (Q1a (p0:=p0) (Q2:=Q2) (p1:=0) (p2:=p1) (hS.bun [0] [1] rfl) Q3 h1 hx1) rfl fun v1 T1 w1 im1 rv1 => ?_))))
  obtain⟨rfl,hS1,_⟩:=rv1
  have hS1:=hS1.unb
  refine pv (X5 rfl) (nil (Q0 ?_))
  cases oI hm
  exact rtn (U2 rfl rfl ⟨_,rfl,_,im1,⟨rfl,hS1.sel [0,1] rfl,qZt⟩⟩)

theorem Y8 {p0:Q1} {X4 X2:Nat} {Q2:List Value→J7} {a1:OA} {c1:Nat} {p1:List UInt8} {r:Bool×Q1} (hS:Sep g T0 w0 [R,Q2 [sv a1 p0.l c1,iv p0.end_.Line,iv p0.end_.Col,iv p0.depth]]) (Q3:Ln X4 X2 Q2) (h1:SlR Y3 T0 w0 (sv a1 p0.l c1) p0.l) (hm:Y4 p0 p1=some r) :
    Calls Tryz.prog 82 #[pt X4 X2,qZs p1] w0 (E6 T0 w0 fun T w v => ∃(a3:OA) (c3:Nat),v = .bool r.1∧Sep g T w [R,Q2 [sv a3 r.2.l c3,iv r.2.end_.Line,iv r.2.end_.Col,iv r.2.depth]]∧SlR Y3 T w (sv a3 r.2.l c3) r.2.l∧True):=by
  refine enter (args := [pt X4 X2,qZs p1]) Tryz.func82 rfl Tryz.ntmps82 rfl fun J => ?_
  unfold Y4 at hm
  refine sq2 (rg (pv (X5 rfl) (nil (Q0 ?_))))
  refine sq2 (sq2 ?_)
  obtain⟨y1,hx1,hm⟩:=Q4 hm
  refine rg (pv (Z9 rfl) (pv (P2 rfl) (wl rfl (Z7 Q8q rfl (G0 (p0:=p0) (Q2:=Q2) (p1:=p1) (hS.bun [0] [1] rfl) Q3 h1 hx1) rfl fun v1 T1 w1 im1 rv1 => ?_))))
  obtain⟨rfl,hS1,_⟩:=rv1
  have hS1:=hS1.unb
  refine pv (L7 rfl) (nil (Q0 ?_))
  refine V3 rfl hm (fun hb1 hm => ?_) fun hb1 hm => ?_
  · refine sq2 (rg (pv (X5 rfl) (nil (Q0 ?_))))
    cases oI hm
    exact rtn (Q6 (U2 rfl rfl ⟨_,rfl,_,im1,⟨_,_,rfl,hS1.sel [0,1] rfl,(h1.mono im1),qZt⟩⟩))
  refine skp (Q0 ?_)
  refine sq2 ?_
  obtain⟨u1,hx2,hm⟩:=Q4 hm
  obtain⟨a2,c2,he1,h2⟩:=(h1.mono im1).part hx2
  refine rg (pv (Z9 rfl) (pv (Z9 rfl) (pv (J1 rfl) (pv (Z1 rfl underlying43 rfl sizeOf38 rfl) (pv (Z4 rfl isAgg38 (hS1.cellB (i:=1) ⟨rfl,rfl⟩ Q3 (j:=0) rfl)) (pv (r_slR rfl (h1.mono im1) ⟨_,rfl⟩ rfl hx2 underlying38 sizeOf89 rfl he1) (pv (J1 rfl) (pv (Z1 rfl underlying43 rfl sizeOf38 rfl) (wl rfl (stB (q:=1) (j:=0) hS1 ⟨rfl,rfl⟩ Q3 rfl rfl rfl sizeOf38 rfl rfl rfl fun w2 im2 hS2 => ?_))))))))))
  refine nil (Q0 ?_)
  refine sq2 (rg (pv (X5 rfl) (nil (Q0 ?_))))
  cases oI hm
  exact rtn (U2 rfl rfl ⟨_,rfl,_,(iT im1 im2),⟨_,_,rfl,hS2.sel [0,1] rfl,(h2.mono im2),qZt⟩⟩)

theorem E9 {p0:Q1} {X4 X2:Nat} {Q2:List Value→J7} {a1:OA} {c1:Nat} {p1:Int} {r:Except (Q8) (Unit)} (hS:Sep g T0 w0 [R,Q2 [sv a1 p0.l c1,iv p0.end_.Line,iv p0.end_.Col,iv p0.depth]]) (Q3:Ln X4 X2 Q2) (h1:SlR Y3 T0 w0 (sv a1 p0.l c1) p0.l) (hm:C8 p0 p1=some r) :
    Calls Tryz.prog 83 #[pt X4 X2,iv p1] w0 (exR r (fun r=>E6 T0 w0 fun T w v=>v = .tuple #[]∧Sep g T w [R,Q2 [sv a1 p0.l c1,iv p0.end_.Line,iv p0.end_.Col,iv p0.depth]]∧True) (fun r=>Q2x T0 w0 fun T w v=>v = .iface 48 (.agg (K6 r).toArray)∧Sep g T w [R,Q2 [sv a1 p0.l c1,iv p0.end_.Line,iv p0.end_.Col,iv p0.depth]]∧True)):=by
  refine enter (args := [pt X4 X2,iv p1]) Tryz.func83 rfl Tryz.ntmps83 rfl fun J => ?_
  unfold C8 at hm
  obtain⟨y1,hx1,hm⟩:=Q4 hm
  refine rg (pv (Z9 rfl) (wl rfl (Z7 cf59 rfl (B0 (p0:=p0) (Q2:=Q2) (hS.bun [0] [1] rfl) Q3 h1 hx1) rfl fun v1 T1 w1 im1 rv1 => ?_)))
  obtain⟨rfl,hS1,_⟩:=rv1
  have hS1:=hS1.unb
  refine pv (U1 rfl) (pv (A8 (by kernel_rfl) rfl (u := .agg #[iv y1.Line,iv y1.Col,iv p1])) (pv (r_mif rfl underlying48) (wl rfl (panO rfl ?_))))
  cases oI hm
  exact P3 ⟨_,rfl,_,im1,⟨rfl,hS1.sel [0,1] rfl,qZt⟩⟩

theorem Q9 {p0:Q1} {X4 X2:Nat} {Q2:List Value→J7} {a1:OA} {c1:Nat} {p1:List UInt8} {r:Except (Q8×Q1) (Q1)} (hS:Sep g T0 w0 [R,Q2 [sv a1 p0.l c1,iv p0.end_.Line,iv p0.end_.Col,iv p0.depth]]) (Q3:Ln X4 X2 Q2) (h1:SlR Y3 T0 w0 (sv a1 p0.l c1) p0.l) (hm:Y0 p0 p1=some r) :
    Calls Tryz.prog 62 #[pt X4 X2,qZs p1] w0 (exR r (fun r=>E6 T0 w0 fun T w v => ∃(a3:OA) (c3:Nat),v = .tuple #[]∧Sep g T w [R,Q2 [sv a3 r.l c3,iv r.end_.Line,iv r.end_.Col,iv r.depth]]∧SlR Y3 T w (sv a3 r.l c3) r.l∧True) (fun r=>Q2x T0 w0 fun T w v => ∃(a3:OA) (c3:Nat),v = .iface 48 (.agg (K6 r.1).toArray)∧Sep g T w [R,Q2 [sv a3 r.2.l c3,iv r.2.end_.Line,iv r.2.end_.Col,iv r.2.depth]]∧SlR Y3 T w (sv a3 r.2.l c3) r.2.l∧True)):=by
  refine enter (args := [pt X4 X2,qZs p1]) Tryz.func62 rfl Tryz.ntmps62 rfl fun J => ?_
  unfold Y0 at hm
  refine sq2 ?_
  obtain⟨y1,hx1,hm⟩:=Q4 hm
  refine rg (pv (Z9 rfl) (pv (P2 rfl) (wl rfl (Z7 Q1u rfl (Y8 (p0:=p0) (Q2:=Q2) (p1:=p1) (hS.bun [0] [1] rfl) Q3 h1 hx1) rfl fun v1 T1 w1 im1 rv1 => ?_))))
  obtain⟨a2,c2,rfl,hS1,h2,_⟩:=rv1
  have hS1:=hS1.unb
  refine pv (L7 rfl) (nil (Q0 ?_))
  refine V3 rfl hm (fun hb1 hm => ?_) fun hb1 hm => ?_
  · refine rg (pv (Z9 rfl) (?_))
    obtain⟨y2,hx2,hm⟩:=Q4 hm
    rcases y2 with e1 | y2
    · have hm:=Z3 hm
      refine wl rfl (G8 cf83 rfl (E9 (p0:=y1.2) (Q2:=Q2) (p1:=3) (hS1.bun [0] [1] rfl) Q3 h2 hx2) rfl fun v3 T3 w3 im3 rv3 => ?_)
      obtain⟨rfl,hS3,_⟩:=rv3
      have hS3:=hS3.unb
      cases oI hm
      exact P3 ⟨_,rfl,_,(iT im1 im3),⟨_,_,rfl,hS3.sel [0,1] rfl,(h2.mono im3),qZt⟩⟩
    have hm:=V1 hm
    refine wl rfl (Z7 cf83 rfl (E9 (p0:=y1.2) (Q2:=Q2) (p1:=3) (hS1.bun [0] [1] rfl) Q3 h2 hx2) rfl fun v2 T2 w2 im2 rv2 => ?_)
    obtain⟨rfl,hS2,_⟩:=rv2
    have hS2:=hS2.unb
    cases oI hm
    exact nil (S7 rfl ⟨_,rfl,_,(iT im1 im2),⟨_,_,rfl,hS2.sel [0,1] rfl,(h2.mono im2),qZt⟩⟩)
  cases oI hm
  exact skp (S7 rfl ⟨_,rfl,_,im1,⟨_,_,rfl,hS1.sel [0,1] rfl,h2,qZt⟩⟩)

theorem N4 {p0:Q1} {X4 X2:Nat} {Q2:List Value→J7} {a1:OA} {c1:Nat} {p1:Int} {r:Except (Q8×Q1) (Y6×Q1)} (hS:Sep g T0 w0 [R,Q2 [sv a1 p0.l c1,iv p0.end_.Line,iv p0.end_.Col,iv p0.depth]]) (Q3:Ln X4 X2 Q2) (h1:SlR Y3 T0 w0 (sv a1 p0.l c1) p0.l) (hm:P9 p0 p1=some r) :
    Calls Tryz.prog 84 #[pt X4 X2,iv p1] w0 (exR r (fun r=>E6 T0 w0 fun T w v => ∃(a3:OA) (c3:Nat),v = .agg (Q0o r.1).toArray∧Sep g T w [R,Q2 [sv a3 r.2.l c3,iv r.2.end_.Line,iv r.2.end_.Col,iv r.2.depth]]∧SlR Y3 T w (sv a3 r.2.l c3) r.2.l∧True) (fun r=>Q2x T0 w0 fun T w v => ∃(a3:OA) (c3:Nat),v = .iface 48 (.agg (K6 r.1).toArray)∧Sep g T w [R,Q2 [sv a3 r.2.l c3,iv r.2.end_.Line,iv r.2.end_.Col,iv r.2.depth]]∧SlR Y3 T w (sv a3 r.2.l c3) r.2.l∧True)):=by
  refine enter (args := [pt X4 X2,iv p1]) Tryz.func84 rfl Tryz.ntmps84 rfl fun J => ?_
  unfold P9 at hm
  refine sq2 (rg (wl rfl (alS (zs := [iv 0,qZs [],.int .u32 0,iv 0,iv 0]) zeroValue89 rfl hS fun w1 b1 im1 hS1 => ?_)))
  refine nil (Q0 ?_)
  obtain⟨kk1,hkk1,hm⟩:=F6 hm
  refine cut (fun a w2 => ∃(J:JV) (T1:TP),a=env (nf 40) J [(0,pt X4 X2),(4,pt b1 0)]∧Im T0 w1 T1 w2∧Sep g T1 w2 [J6 b1 [iv 0,qZs [],.int .u32 0,iv 0,iv 0],R,Q2 [sv a1 p0.l c1,iv p0.end_.Line,iv p0.end_.Col,iv p0.depth]]∧kk1 ()=some r) ?_ ?_
  · refine sq2 (rg (pv (Z9 rfl) (pv (J1 rfl) (pv (Z1 rfl underlying43 rfl sizeOf38 rfl) (pv (Z4 rfl isAgg38 (hS1.cellB (i:=2) ⟨rfl,rfl⟩ Q3 (j:=0) rfl)) (pv (L3 rfl underlying38) (pv (X7 rfl rfl rfl) (pv (Y7 rfl) (?_)))))))))
    rcases Bool.eq_false_or_eq_true ((List.length p0.l:Int) == 0) with hb1 | hb1
    · have hm:=V8 hb1 hm
      refine gF (d0:=12) rfl rfl (by rw [hb1]; rfl) (gF (d0:=12) rfl rfl (by rw [hb1]; rfl) (gF (d0:=12) rfl rfl (by rw [hb1]; rfl) (gF (d0:=12) rfl rfl (by rw [hb1]; rfl) (gF (d0:=12) rfl rfl (by rw [hb1]; rfl) (gF (d0:=12) rfl rfl (by rw [hb1]; rfl) (gF (d0:=12) rfl rfl (by rw [hb1]; rfl) (gF (d0:=12) rfl rfl (by rw [hb1]; rfl) (gF (d0:=12) rfl rfl (by rw [hb1]; rfl) (pv (Y1 rfl hb1 rfl) (nil (Q0 ?_)))))))))))
      refine cnd (b:=true) rfl (fun _ => ?_) (fun h=>nomatch h)
      refine rg (pv (Z9 rfl) (?_))
      obtain⟨y2,hx3,hm⟩:=Q4 hm
      rcases y2 with e2 | y2
      · have hm:=Z3 hm
        refine wl rfl (G8 cf83 rfl (E9 (p0:=p0) (Q2:=Q2) (p1:=3) (hS1.bun [0,1] [2] rfl) Q3 (h1.mono im1) hx3) rfl fun v4 T5 w6 im6 rv4 => ?_)
        obtain⟨rfl,hS5,_⟩:=rv4
        have hS5:=hS5.unb
        cases oI hm
        exact Z8 (P3 ⟨_,rfl,_,(iT im1 im6),⟨_,_,rfl,hS5.sel [1,2] rfl,(h1.mono (iT im1 im6)),qZt⟩⟩)
      have hm:=V1 hm
      refine wl rfl (Z7 cf83 rfl (E9 (p0:=p0) (Q2:=Q2) (p1:=3) (hS1.bun [0,1] [2] rfl) Q3 (h1.mono im1) hx3) rfl fun v3 T4 w5 im5 rv3 => ?_)
      obtain⟨rfl,hS4,_⟩:=rv3
      have hS4:=hS4.unb
      exact nil (Q0 ⟨_,_,Q7 ⟨rfl,rfl,qZt⟩,im5,hS4.sel [0,1,2] rfl,hm⟩)
    have hm:=X3 hb1 hm
    obtain⟨u1,hx1,hm⟩:=Q4 hm
    obtain⟨b2,of1,cs1,k1,cp1,hv1,hp1,hl1,he1,hr1,hc1,hT1⟩:=(h1.mono im1).ixT hx1 rfl
    cases I3 hr1
    refine gT (d0:=12) rfl rfl hb1 (pv (Z9 rfl) (gT (d0:=12) rfl rfl hb1 (pv (J1 rfl) (gT (d0:=12) rfl rfl hb1 (pv (Z1 rfl underlying43 rfl sizeOf38 rfl) (gT (d0:=12) rfl rfl hb1 (pv (Z4 rfl isAgg38 (hS1.cellB (i:=2) ⟨rfl,rfl⟩ Q3 (j:=0) rfl)) (gT (d0:=12) rfl rfl hb1 (pv (B2 hv1 rfl underlying38 sizeOf89 hp1 hl1 he1) (gT (d0:=12) rfl rfl hb1 (pv (Z1 rfl underlying89 rfl sizeOf3 rfl) (gT (d0:=12) rfl rfl hb1 (pv (Z4 rfl isAgg3 (hc1.get (j:=0) rfl)) (gT (d0:=12) rfl rfl hb1 (pv (U1 rfl) (gT (d0:=12) rfl rfl hb1 (pv (X7 rfl rfl rfl) (pv (X9 rfl hb1 rfl) (nil (Q0 ?_))))))))))))))))))))
    refine V3 rfl hm (fun hb2 hm => ?_) fun hb2 hm => ?_
    · refine rg (pv (Z9 rfl) (?_))
      obtain⟨y1,hx2,hm⟩:=Q4 hm
      rcases y1 with e1 | y1
      · have hm:=Z3 hm
        refine wl rfl (G8 cf83 rfl (E9 (p0:=p0) (Q2:=Q2) (p1:=3) (hS1.bun [0,1] [2] rfl) Q3 (h1.mono im1) hx2) rfl fun v2 T3 w4 im4 rv2 => ?_)
        obtain⟨rfl,hS3,_⟩:=rv2
        have hS3:=hS3.unb
        cases oI hm
        exact Z8 (P3 ⟨_,rfl,_,(iT im1 im4),⟨_,_,rfl,hS3.sel [1,2] rfl,(h1.mono (iT im1 im4)),qZt⟩⟩)
      have hm:=V1 hm
      refine wl rfl (Z7 cf83 rfl (E9 (p0:=p0) (Q2:=Q2) (p1:=3) (hS1.bun [0,1] [2] rfl) Q3 (h1.mono im1) hx2) rfl fun v1 T2 w3 im3 rv1 => ?_)
      obtain⟨rfl,hS2,_⟩:=rv1
      have hS2:=hS2.unb
      exact nil (Q0 ⟨_,_,Q7 ⟨rfl,rfl,qZt⟩,im3,hS2.sel [0,1,2] rfl,hm⟩)
    exact skp (Q0 ⟨_,_,Q7 ⟨rfl,rfl,qZt⟩,Im.refl,hS1.sel [0,1,2] rfl,hm⟩)
  rintro _ w2 ⟨J,T1,rfl,im2,hS6,hm⟩
  rw [hkk1] at hm
  refine sq2 ?_
  obtain⟨u4,hx4,hm⟩:=Q4 hm
  obtain⟨b3,of2,cs2,k2,cp2,hv2,hp2,hl2,he2,hr2,hc2,hT2⟩:=(h1.mono (iT im1 im2)).ixT hx4 rfl
  cases I3 hr2
  refine rg (pv (Z9 rfl) (pv (J1 rfl) (pv (Z1 rfl underlying43 rfl sizeOf38 rfl) (pv (Z4 rfl isAgg38 (hS6.cellB (i:=2) ⟨rfl,rfl⟩ Q3 (j:=0) rfl)) (pv (B2 hv2 rfl underlying38 sizeOf89 hp2 hl2 he2) (pv (Z5 rfl isAgg89 sizeOf89 rfl hc2 (cs:=(Q0o u4))) (wl rfl (alS (zs := [iv 0,qZs [],.int .u32 0,iv 0,iv 0]) zeroValue89 rfl hS6 fun w7 b4 im7 hS7 => ?_))))))))
  refine wl rfl (X6 (q:=0) hS7 ⟨rfl,rfl⟩ rfl rfl rfl sizeOf89 rfl rfl rfl fun w8 im8 hS8 => ?_)
  refine nil (Q0 ?_)
  refine sq2 ?_
  obtain⟨u5,hx5,hm⟩:=Q4 hm
  obtain⟨a2,c2,he3,h2⟩:=(h1.mono (iT im1 (iT im2 (iT im7 im8)))).part hx5
  refine rg (pv (Z9 rfl) (pv (Z9 rfl) (pv (J1 rfl) (pv (Z1 rfl underlying43 rfl sizeOf38 rfl) (pv (Z4 rfl isAgg38 (hS8.cellB (i:=3) ⟨rfl,rfl⟩ Q3 (j:=0) rfl)) (pv (r_slR rfl (h1.mono (iT im1 (iT im2 (iT im7 im8)))) ⟨_,rfl⟩ rfl hx5 underlying38 sizeOf89 rfl he3) (pv (J1 rfl) (pv (Z1 rfl underlying43 rfl sizeOf38 rfl) (wl rfl (stB (q:=3) (j:=0) hS8 ⟨rfl,rfl⟩ Q3 rfl rfl rfl sizeOf38 rfl rfl rfl fun w9 im9 hS9 => ?_))))))))))
  refine nil (Q0 ?_)
  refine sq2 (rg (pv (Z5 rfl isAgg89 sizeOf89 rfl (hS9.cells0 (i:=0) ⟨rfl,rfl⟩ (o:=0) rfl) (cs:=(Q0o u4))) (wl rfl (X6 (q:=1) hS9 ⟨rfl,rfl⟩ rfl rfl rfl sizeOf89 rfl rfl rfl fun w10 im10 hS10 => ?_))))
  refine nil (Q0 ?_)
  cases oI hm
  exact rtn (A5 (vs := [.agg (Q0o u4).toArray]) rfl ⟨rvS rfl isAgg89 sizeOf89 rfl (hS10.bx (i:=1) ⟨rfl,rfl⟩),qZt⟩ rfl ⟨_,rfl,_,(iT im1 (iT im2 (iT im7 (iT im8 (iT im9 im10))))),⟨_,_,rfl,hS10.sel [2,3] rfl,(h2.mono (iT im9 im10)),qZt⟩⟩)

theorem V6 {p0:Q1} {X4 X2:Nat} {Q2:List Value→J7} {a1:OA} {c1:Nat} {r:Except (Q8×Q1) ((List UInt8)×Q1)} (hS:Sep g T0 w0 [R,Q2 [sv a1 p0.l c1,iv p0.end_.Line,iv p0.end_.Col,iv p0.depth]]) (Q3:Ln X4 X2 Q2) (h1:SlR Y3 T0 w0 (sv a1 p0.l c1) p0.l) (hm:K8 p0=some r) :
    Calls Tryz.prog 63 #[pt X4 X2] w0 (exR r (fun r=>E6 T0 w0 fun T w v => ∃(a4:OA) (c4:Nat),v=(qZs r.1)∧Sep g T w [R,Q2 [sv a4 r.2.l c4,iv r.2.end_.Line,iv r.2.end_.Col,iv r.2.depth]]∧SlR Y3 T w (sv a4 r.2.l c4) r.2.l∧True) (fun r=>Q2x T0 w0 fun T w v => ∃(a4:OA) (c4:Nat),v = .iface 48 (.agg (K6 r.1).toArray)∧Sep g T w [R,Q2 [sv a4 r.2.l c4,iv r.2.end_.Line,iv r.2.end_.Col,iv r.2.depth]]∧SlR Y3 T w (sv a4 r.2.l c4) r.2.l∧True)):=by
  refine enter (args := [pt X4 X2]) Tryz.func63 rfl Tryz.ntmps63 rfl fun J => ?_
  unfold K8 at hm
  refine sq2 (rg (pv (Q5r rfl) (nil (Q0 ?_))))
  refine sq2 (rg (pv (Z9 rfl) (?_)))
  obtain⟨y1,hx1,hm⟩:=Q4 hm
  rcases y1 with e1 | y1
  · have hm:=Z3 hm
    refine wl rfl (G8 cf84 rfl (N4 (p0:=p0) (Q2:=Q2) (p1:=1) (hS.bun [0] [1] rfl) Q3 h1 hx1) rfl fun v2 T2 w2 im2 rv2 => ?_)
    obtain⟨a3,c3,rfl,hS2,h3,_⟩:=rv2
    have hS2:=hS2.unb
    cases oI hm
    exact Z8 (P3 ⟨_,rfl,_,im2,⟨_,_,rfl,hS2.sel [0,1] rfl,h3,qZt⟩⟩)
  have hm:=V1 hm
  refine wl rfl (Z7 cf84 rfl (N4 (p0:=p0) (Q2:=Q2) (p1:=1) (hS.bun [0] [1] rfl) Q3 h1 hx1) rfl fun v1 T1 w1 im1 rv1 => ?_)
  obtain⟨a2,c2,rfl,hS1,h2,_⟩:=rv1
  have hS1:=hS1.unb
  refine pv (r_fd1 rfl underlying89 rfl isAgg9 rfl) (pv (Q5r rfl) (nil (Q0 ?_)))
  cases oI hm
  exact rtn (U2 rfl rfl ⟨_,rfl,_,im1,⟨_,_,rfl,hS1.sel [0,1] rfl,h2,qZt⟩⟩)

theorem Q2d {p0:Q1} {X4 X2:Nat} {Q2:List Value→J7} {a1:OA} {c1:Nat} {r:Bool} (hS:Sep g T0 w0 [R,Q2 [sv a1 p0.l c1,iv p0.end_.Line,iv p0.end_.Col,iv p0.depth]]) (Q3:Ln X4 X2 Q2) (h1:SlR Y3 T0 w0 (sv a1 p0.l c1) p0.l) (hm:I7 p0=some r) :
    Calls Tryz.prog 86 #[pt X4 X2] w0 (E6 T0 w0 fun T w v=>v = .bool r∧Sep g T w [R,Q2 [sv a1 p0.l c1,iv p0.end_.Line,iv p0.end_.Col,iv p0.depth]]∧True):=by
  refine enter (args := [pt X4 X2]) Tryz.func86 rfl Tryz.ntmps86 rfl fun J => ?_
  unfold I7 at hm
  refine sq2 (rg (pv (X5 rfl) (nil (Q0 ?_))))
  refine sq2 ?_
  obtain⟨y1,hx1,hm⟩:=Q4 hm
  refine rg (pv (Z9 rfl) (wl rfl (Z7 Q8q rfl (G0 (p0:=p0) (Q2:=Q2) (p1 := [105,110,116]) (hS.bun [0] [1] rfl) Q3 h1 hx1) rfl fun v1 T1 w1 im1 rv1 => ?_)))
  obtain⟨rfl,hS1,_⟩:=rv1
  have hS1:=hS1.unb
  refine pv (Y7 rfl) (?_)
  rcases Bool.eq_false_or_eq_true y1 with hb1 | hb1
  · have hm:=V8 hb1 hm
    refine gF (d0:=5) rfl rfl (by rw [hb1]; rfl) (gF (d0:=5) rfl rfl (by rw [hb1]; rfl) (pv (Y1 rfl hb1 rfl) (pv (Y7 rfl) (gF (d0:=9) rfl rfl rfl (gF (d0:=9) rfl rfl rfl (pv (Y1 rfl rfl rfl) (pv (Y7 rfl) (gF (d0:=13) rfl rfl rfl (gF (d0:=13) rfl rfl rfl (pv (Y1 rfl rfl rfl) (pv (X5 rfl) (nil (Q0 ?_)))))))))))))
    cases oI hm
    exact rtn (U2 rfl rfl ⟨_,rfl,_,im1,⟨rfl,hS1.sel [0,1] rfl,qZt⟩⟩)
  have hm:=X3 hb1 hm
  obtain⟨y2,hx2,hm⟩:=Q4 hm
  refine gT (d0:=5) rfl rfl hb1 (pv (Z9 rfl) (gT (d0:=5) rfl rfl hb1 (wl rfl (Z7 Q8q rfl (G0 (p0:=p0) (Q2:=Q2) (p1 := [99,104,97,114]) (hS1.bun [0] [1] rfl) Q3 (h1.mono im1) hx2) rfl fun v2 T2 w2 im2 rv2 => ?_))))
  obtain⟨rfl,hS2,_⟩:=rv2
  have hS2:=hS2.unb
  refine pv (X9 rfl hb1 rfl) (pv (Y7 rfl) (?_))
  rcases Bool.eq_false_or_eq_true y2 with hb2 | hb2
  · have hm:=V8 hb2 hm
    refine gF (d0:=9) rfl rfl (by rw [hb2]; rfl) (gF (d0:=9) rfl rfl (by rw [hb2]; rfl) (pv (Y1 rfl hb2 rfl) (pv (Y7 rfl) (gF (d0:=13) rfl rfl rfl (gF (d0:=13) rfl rfl rfl (pv (Y1 rfl rfl rfl) (pv (X5 rfl) (nil (Q0 ?_)))))))))
    cases oI hm
    exact rtn (U2 rfl rfl ⟨_,rfl,_,(iT im1 im2),⟨rfl,hS2.sel [0,1] rfl,qZt⟩⟩)
  have hm:=X3 hb2 hm
  obtain⟨y3,hx3,hm⟩:=Q4 hm
  refine gT (d0:=9) rfl rfl hb2 (pv (Z9 rfl) (gT (d0:=9) rfl rfl hb2 (wl rfl (Z7 Q8q rfl (G0 (p0:=p0) (Q2:=Q2) (p1 := [118,111,105,100]) (hS2.bun [0] [1] rfl) Q3 (h1.mono (iT im1 im2)) hx3) rfl fun v3 T3 w3 im3 rv3 => ?_))))
  obtain⟨rfl,hS3,_⟩:=rv3
  have hS3:=hS3.unb
  refine pv (X9 rfl hb2 rfl) (pv (Y7 rfl) (?_))
  rcases Bool.eq_false_or_eq_true y3 with hb3 | hb3
  · have hm:=V8 hb3 hm
    refine gF (d0:=13) rfl rfl (by rw [hb3]; rfl) (gF (d0:=13) rfl rfl (by rw [hb3]; rfl) (pv (Y1 rfl hb3 rfl) (pv (X5 rfl) (nil (Q0 ?_)))))
    cases oI hm
    exact rtn (U2 rfl rfl ⟨_,rfl,_,(iT im1 (iT im2 im3)),⟨rfl,hS3.sel [0,1] rfl,qZt⟩⟩)
  have hm:=X3 hb3 hm
  obtain⟨y4,hx4,hm⟩:=Q4 hm
  refine gT (d0:=13) rfl rfl hb3 (pv (Z9 rfl) (gT (d0:=13) rfl rfl hb3 (wl rfl (Z7 Q8q rfl (G0 (p0:=p0) (Q2:=Q2) (p1 := [115,116,114,117,99,116]) (hS3.bun [0] [1] rfl) Q3 (h1.mono (iT im1 (iT im2 im3))) hx4) rfl fun v4 T4 w4 im4 rv4 => ?_))))
  obtain⟨rfl,hS4,_⟩:=rv4
  have hS4:=hS4.unb
  refine pv (X9 rfl hb3 rfl) (pv (X5 rfl) (nil (Q0 ?_)))
  cases oI hm
  exact rtn (U2 rfl rfl ⟨_,rfl,_,(iT im1 (iT im2 (iT im3 im4))),⟨rfl,hS4.sel [0,1] rfl,qZt⟩⟩)

theorem K0 {p0:Q1} {X4 X2:Nat} {Q2:List Value→J7} {a1:OA} {c1:Nat} {r:Except (Q8×Q1) (G5×Q1)} (hS:Sep g T0 w0 [R,Q2 [sv a1 p0.l c1,iv p0.end_.Line,iv p0.end_.Col,iv p0.depth]]) (Q3:Ln X4 X2 Q2) (h1:SlR Y3 T0 w0 (sv a1 p0.l c1) p0.l) (hm:J5 p0=some r) :
    Calls Tryz.prog 65 #[pt X4 X2] w0 (exR r (fun r=>E6 T0 w0 fun T w v => ∃(a8:OA) (c8:Nat),v = .agg (U3 r.1).toArray∧Sep g T w [R,Q2 [sv a8 r.2.l c8,iv r.2.end_.Line,iv r.2.end_.Col,iv r.2.depth]]∧SlR Y3 T w (sv a8 r.2.l c8) r.2.l∧True) (fun r=>Q2x T0 w0 fun T w v => ∃(a8:OA) (c8:Nat),v = .iface 48 (.agg (K6 r.1).toArray)∧Sep g T w [R,Q2 [sv a8 r.2.l c8,iv r.2.end_.Line,iv r.2.end_.Col,iv r.2.depth]]∧SlR Y3 T w (sv a8 r.2.l c8) r.2.l∧True)):=by
  refine enter (args := [pt X4 X2]) Tryz.func65 rfl Tryz.ntmps65 rfl fun J => ?_
  unfold J5 at hm
  refine sq2 (rg (wl rfl (alS (zs := [qZs [],qZs [],iv 0]) zeroValue54 rfl hS fun w1 b1 im1 hS1 => ?_)))
  refine nil (Q0 ?_)
  obtain⟨kk1,hkk1,hm⟩:=F6 hm
  refine cut (fun a w2 => ∃(J:JV) (T1:TP),a=env (nf 38) J [(0,pt X4 X2),(2,pt b1 0)]∧Im T0 w1 T1 w2∧Sep g T1 w2 [J6 b1 [qZs [],qZs [],iv 0],R,Q2 [sv a1 p0.l c1,iv p0.end_.Line,iv p0.end_.Col,iv p0.depth]]∧kk1 ()=some r) ?_ ?_
  · refine sq2 ?_
    obtain⟨y1,hx1,hm⟩:=Q4 hm
    refine rg (pv (Z9 rfl) (wl rfl (Z7 cf86 rfl (Q2d (p0:=p0) (Q2:=Q2) (hS1.bun [0,1] [2] rfl) Q3 (h1.mono im1) hx1) rfl fun v1 T2 w3 im3 rv1 => ?_)))
    obtain⟨rfl,hS2,_⟩:=rv1
    have hS2:=hS2.unb
    refine pv (L7 rfl) (nil (Q0 ?_))
    refine V3 rfl hm (fun hb1 hm => ?_) fun hb1 hm => ?_
    · refine rg (pv (Z9 rfl) (?_))
      obtain⟨y2,hx2,hm⟩:=Q4 hm
      rcases y2 with e1 | y2
      · have hm:=Z3 hm
        refine wl rfl (G8 cf83 rfl (E9 (p0:=p0) (Q2:=Q2) (p1:=3) (hS2.bun [0,1] [2] rfl) Q3 (h1.mono (iT im1 im3)) hx2) rfl fun v3 T4 w5 im5 rv3 => ?_)
        obtain⟨rfl,hS4,_⟩:=rv3
        have hS4:=hS4.unb
        cases oI hm
        exact Z8 (P3 ⟨_,rfl,_,(iT im1 (iT im3 im5)),⟨_,_,rfl,hS4.sel [1,2] rfl,(h1.mono (iT im1 (iT im3 im5))),qZt⟩⟩)
      have hm:=V1 hm
      refine wl rfl (Z7 cf83 rfl (E9 (p0:=p0) (Q2:=Q2) (p1:=3) (hS2.bun [0,1] [2] rfl) Q3 (h1.mono (iT im1 im3)) hx2) rfl fun v2 T3 w4 im4 rv2 => ?_)
      obtain⟨rfl,hS3,_⟩:=rv2
      have hS3:=hS3.unb
      exact nil (Q0 ⟨_,_,Q7 ⟨rfl,rfl,qZt⟩,(iT im3 im4),hS3.sel [0,1,2] rfl,hm⟩)
    exact skp (Q0 ⟨_,_,Q7 ⟨rfl,rfl,qZt⟩,im3,hS2.sel [0,1,2] rfl,hm⟩)
  rintro _ w2 ⟨J,T1,rfl,im2,hS5,hm⟩
  rw [hkk1] at hm
  refine sq2 ?_
  obtain⟨u2,hx3,hm⟩:=Q4 hm
  obtain⟨b2,of1,cs1,k1,cp1,hv1,hp1,hl1,he1,hr1,hc1,hT1⟩:=(h1.mono (iT im1 im2)).ixT hx3 rfl
  cases I3 hr1
  refine rg (pv (Z9 rfl) (pv (J1 rfl) (pv (Z1 rfl underlying43 rfl sizeOf38 rfl) (pv (Z4 rfl isAgg38 (hS5.cellB (i:=2) ⟨rfl,rfl⟩ Q3 (j:=0) rfl)) (pv (B2 hv1 rfl underlying38 sizeOf89 hp1 hl1 he1) (pv (Z1 rfl underlying89 rfl sizeOf9 rfl) (pv (Z4 rfl isAgg9 (hc1.get (j:=1) rfl)) (pv (A8 (by kernel_rfl) rfl (u := .agg #[qZs u2.Text,qZs [],iv 0])) (wl rfl (alS (zs := [qZs [],qZs [],iv 0]) zeroValue54 rfl hS5 fun w6 b3 im6 hS6 => ?_))))))))))
  refine wl rfl (X6 (q:=0) hS6 ⟨rfl,rfl⟩ rfl rfl rfl sizeOf54 rfl rfl rfl fun w7 im7 hS7 => ?_)
  refine nil (Q0 ?_)
  refine sq2 ?_
  obtain⟨u3,hx4,hm⟩:=Q4 hm
  obtain⟨a2,c2,he2,h2⟩:=(h1.mono (iT im1 (iT im2 (iT im6 im7)))).part hx4
  refine rg (pv (Z9 rfl) (pv (Z9 rfl) (pv (J1 rfl) (pv (Z1 rfl underlying43 rfl sizeOf38 rfl) (pv (Z4 rfl isAgg38 (hS7.cellB (i:=3) ⟨rfl,rfl⟩ Q3 (j:=0) rfl)) (pv (r_slR rfl (h1.mono (iT im1 (iT im2 (iT im6 im7)))) ⟨_,rfl⟩ rfl hx4 underlying38 sizeOf89 rfl he2) (pv (J1 rfl) (pv (Z1 rfl underlying43 rfl sizeOf38 rfl) (wl rfl (stB (q:=3) (j:=0) hS7 ⟨rfl,rfl⟩ Q3 rfl rfl rfl sizeOf38 rfl rfl rfl fun w8 im8 hS8 => ?_))))))))))
  refine nil (Q0 ?_)
  obtain⟨kk2,hkk2,hm⟩:=F6 hm
  refine cut (fun a w9 => ∃(J:JV) (T5:TP) (x2:Q1) (x1:G5) (a3:OA) (c3:Nat),a=env (nf 38) J [(0,pt X4 X2),(2,pt b1 0),(3,pt b3 0)]∧Im T1 w8 T5 w9∧Sep g T5 w9 [J6 b3 (U3 x1),J6 b1 [qZs [],qZs [],iv 0],R,Q2 [sv a3 x2.l c3,iv x2.end_.Line,iv x2.end_.Col,iv x2.depth]]∧SlR Y3 T5 w9 (sv a3 x2.l c3) x2.l∧kk2 x1 x2=some r) ?_ ?_
  · refine sq2 (rg (pv (Z1 rfl underlying54 rfl sizeOf9 rfl) (pv (Z4 rfl isAgg9 (hS8.cell0 (i:=0) ⟨rfl,rfl⟩ (j:=0) rfl)) (pv (E7 rfl rfl) (nil (Q0 ?_))))))
    refine V3 rfl hm (fun hb2 hm => ?_) fun hb2 hm => ?_
    · refine rg (pv (Z9 rfl) (?_))
      obtain⟨y3,hx5,hm⟩:=Q4 hm
      rcases y3 with e2 | y3
      · have hm:=Z3 hm
        refine wl rfl (G8 Q4s rfl (V6 (p0 := {p0 with l:=u3}) (Q2:=Q2) (hS8.bun [0,1,2] [3] rfl) Q3 (h2.mono im8) hx5) rfl fun v5 T7 w12 im12 rv5 => ?_)
        obtain⟨a5,c5,rfl,hS11,h5,_⟩:=rv5
        have hS11:=hS11.unb
        cases oI hm
        exact Z8 (P3 ⟨_,rfl,_,(iT im1 (iT im2 (iT im6 (iT im7 (iT im8 im12))))),⟨_,_,rfl,hS11.sel [2,3] rfl,h5,qZt⟩⟩)
      have hm:=V1 hm
      refine wl rfl (Z7 Q4s rfl (V6 (p0 := {p0 with l:=u3}) (Q2:=Q2) (hS8.bun [0,1,2] [3] rfl) Q3 (h2.mono im8) hx5) rfl fun v4 T6 w10 im10 rv4 => ?_)
      obtain⟨a4,c4,rfl,hS9,h4,_⟩:=rv4
      have hS9:=hS9.unb
      refine pv (Z1 rfl underlying54 rfl sizeOf9 rfl) (wl rfl (X6 (q:=0) hS9 ⟨rfl,rfl⟩ rfl rfl rfl sizeOf9 rfl rfl rfl fun w11 im11 hS10 => ?_))
      exact nil (Q0 ⟨_,_,y3.2,(⟨u2.Text,y3.1,0⟩:G5),_,_,Q7 ⟨rfl,rfl,rfl,qZt⟩,(iT im10 im11),hS10.sel [0,1,2,3] rfl,(h4.mono im11),hm⟩)
    exact skp (Q0 ⟨_,_,({p0 with l:=u3}),(⟨u2.Text,([]:List UInt8),0⟩:G5),_,_,Q7 ⟨rfl,rfl,rfl,qZt⟩,Im.refl,hS8.sel [0,1,2,3] rfl,(h2.mono im8),hm⟩)
  rintro _ w9 ⟨J,T5,x2,x1,a3,c3,rfl,im9,hS12,h3,hm⟩
  rw [hkk2] at hm
  refine sq2 ?_
  obtain⟨o1,ho1,hq1⟩:=Q4 hm
  obtain⟨bd1,hbd1,ho1⟩:=K3 ho1
  refine blk (wp_loop_ghost (fun m a w13 => ∃(J:JV) (T8:TP) (x4:Q1) (x3:G5) (a6:OA) (c6:Nat),a=env (nf 38) J [(0,pt X4 X2),(2,pt b1 0),(3,pt b3 0)]∧Im T5 w9 T8 w13∧Sep g T8 w13 [J6 b3 (U3 x3),J6 b1 [qZs [],qZs [],iv 0],R,Q2 [sv a6 x4.l c6,iv x4.end_.Line,iv x4.end_.Col,iv x4.depth]]∧SlR Y3 T8 w13 (sv a6 x4.l c6) x4.l∧V7 bd1 m (x3,x4)=some o1) NN ⟨_,_,x2,x1,_,_,Q7 ⟨rfl,rfl,rfl,qZt⟩,Im.refl,hS12.sel [0,1,2,3] rfl,h3,ho1⟩ ?_)
  rintro m _ w13 ⟨J,T8,x4,x3,a6,c6,rfl,im13,hS13,h6,ho1⟩
  obtain⟨m1,z1,rfl,hm,hn1⟩:=U4 ho1
  rw [hbd1] at hm
  refine sq2 (sq2 ?_)
  obtain⟨y4,hx6,hm⟩:=Q4 hm
  refine rg (pv (Z9 rfl) (wl rfl (Z7 Q1u rfl (Y8 (p0:=x4) (Q2:=Q2) (p1 := [42]) (hS13.bun [0,1,2] [3] rfl) Q3 h6 hx6) rfl fun v6 T9 w14 im14 rv6 => ?_)))
  obtain⟨a7,c7,rfl,hS14,h7,_⟩:=rv6
  have hS14:=hS14.unb
  refine nil (Q0 ?_)
  refine V3 rfl hm (fun hb3 hm => ?_) fun hb3 hm => ?_
  · refine skp (Q0 ?_)
    refine blk (rg (pv (Z1 rfl underlying54 rfl sizeOf3 rfl) (pv (Z4 rfl isAgg3 (hS14.cell0 (i:=0) ⟨rfl,rfl⟩ (j:=2) rfl)) (pv (X7 rfl rfl rfl) (pv (Z1 rfl underlying54 rfl sizeOf3 rfl) (wl rfl (X6 (q:=0) hS14 ⟨rfl,rfl⟩ rfl rfl rfl sizeOf3 rfl rfl rfl fun w15 im15 hS15 => ?_)))))))
    cases oI hm
    exact nil (U6 (Q0 ⟨m1,Nat.lt_succ_self _,_,_,y4.2,({x3 with Stars:=IntKind.wrap .i64 (x3.Stars+1)}),_,_,Q7 ⟨rfl,rfl,rfl,qZt⟩,(iT im13 (iT im14 im15)),hS15.sel [0,1,2,3] rfl,(h7.mono im15),hn1⟩))
  cases oI hm
  have hn1:_=Lp.brk _:=hn1
  subst hn1
  have hm:=F1 hq1
  refine xt (V9 (V9 (L5 (Q0 ?_))))
  refine sq2 (rg (pv (Z5 rfl isAgg54 sizeOf54 rfl (hS14.cells0 (i:=0) ⟨rfl,rfl⟩ (o:=0) rfl) (cs:=(U3 x3))) (wl rfl (X6 (q:=1) hS14 ⟨rfl,rfl⟩ rfl rfl rfl sizeOf54 rfl rfl rfl fun w17 im17 hS17 => ?_))))
  refine nil (Q0 ?_)
  cases oI hm
  exact rtn (A5 (vs := [.agg (U3 x3).toArray]) rfl ⟨rvS rfl isAgg54 sizeOf54 rfl (hS17.bx (i:=1) ⟨rfl,rfl⟩),qZt⟩ rfl ⟨_,rfl,_,(iT im1 (iT im2 (iT im6 (iT im7 (iT im8 (iT im9 (iT im13 (iT im14 im17)))))))),⟨_,_,rfl,hS17.sel [2,3] rfl,(h7.mono im17),qZt⟩⟩)

theorem R6 {p0:Q1} {X4 X2:Nat} {Q2:List Value→J7} {a1:OA} {c1:Nat} {r:Except (Q8×Q1) ((List Int)×Q1)} (hS:Sep g T0 w0 [R,Q2 [sv a1 p0.l c1,iv p0.end_.Line,iv p0.end_.Col,iv p0.depth]]) (Q3:Ln X4 X2 Q2) (h1:SlR Y3 T0 w0 (sv a1 p0.l c1) p0.l) (hm:L6 p0=some r) :
    Calls Tryz.prog 85 #[pt X4 X2] w0 (exR r (fun r=>E6 T0 w0 fun T w v => ∃(a11:OA) (n4:Nat) (c11:Nat) (a12:OA) (c12:Nat),v = .slice a11 n4 c11∧Sep g T w [R,Q2 [sv a12 r.2.l c12,iv r.2.end_.Line,iv r.2.end_.Col,iv r.2.depth],G3 (Q0m .u32) 87 (.slice a11 n4 c11) r.1]∧SlR Y3 T w (sv a12 r.2.l c12) r.2.l∧True) (fun r=>Q2x T0 w0 fun T w v => ∃(a11:OA) (c11:Nat),v = .iface 48 (.agg (K6 r.1).toArray)∧Sep g T w [R,Q2 [sv a11 r.2.l c11,iv r.2.end_.Line,iv r.2.end_.Col,iv r.2.depth]]∧SlR Y3 T w (sv a11 r.2.l c11) r.2.l∧True)):=by
  refine enter (args := [pt X4 X2]) Tryz.func85 rfl Tryz.ntmps85 rfl fun J => ?_
  unfold L6 at hm
  refine sq2 (rg (pv (P8 rfl) (nil (Q0 ?_))))
  refine sq2 (rg (pv (P8 rfl) (nil (Q0 ?_))))
  refine sq2 ?_
  obtain⟨o1,ho1,hq1⟩:=Q4 hm
  obtain⟨bd1,hbd1,ho1⟩:=K3 ho1
  have hS1:=hS.nilO (Q0m .u32) 87
  refine blk (wp_loop_ghost (fun m a w1 => ∃(J:JV) (T1:TP) (x2:Q1) (x1:List Int) (a2:OA) (n1:Nat) (c2:Nat) (a3:OA) (c3:Nat),a=env (nf 15) J [(0,pt X4 X2),(3,.slice a2 n1 c2)]∧Im T0 w0 T1 w1∧Sep g T1 w1 [G3 (Q0m .u32) 87 (.slice a2 n1 c2) x1,R,Q2 [sv a3 x2.l c3,iv x2.end_.Line,iv x2.end_.Col,iv x2.depth]]∧SlR Y3 T1 w1 (sv a3 x2.l c3) x2.l∧V7 bd1 m (x1,x2)=some o1) NN ⟨_,_,p0,[],_,_,_,_,_,Q7 ⟨rfl,rfl,qZt⟩,Im.refl,hS1.sel [0,1,2] rfl,h1,ho1⟩ ?_)
  rintro m _ w1 ⟨J,T1,x2,x1,a2,n1,c2,a3,c3,rfl,im1,hS2,h2,ho1⟩
  obtain⟨m1,z1,rfl,hm,hn1⟩:=U4 ho1
  rw [hbd1] at hm
  refine sq2 (sq2 ?_)
  obtain⟨y1,hx1,hm⟩:=Q4 hm
  refine rg (pv (Z9 rfl) (wl rfl (Z7 Q1u rfl (Y8 (p0:=x2) (Q2:=Q2) (p1 := [91]) (hS2.bun [0,1] [2] rfl) Q3 h2 hx1) rfl fun v1 T2 w2 im2 rv1 => ?_)))
  obtain⟨a4,c4,rfl,hS3,h3,_⟩:=rv1
  have hS3:=hS3.unb
  refine nil (Q0 ?_)
  refine V3 rfl hm (fun hb1 hm => ?_) fun hb1 hm => ?_
  · refine skp (Q0 ?_)
    refine blk (sq2 (rg (pv (N2 rfl) (pv (Z9 rfl) (?_)))))
    obtain⟨y2,hx2,hm⟩:=Q4 hm
    rcases y2 with e2 | y2
    · have hm:=Z3 hm
      refine wl rfl (G8 cf84 rfl (N4 (p0:=y1.2) (Q2:=Q2) (p1:=3) (hS3.bun [0,1] [2] rfl) Q3 h3 hx2) rfl fun v5 T6 w8 im8 rv5 => ?_)
      obtain⟨a10,c10,rfl,hS9,h7,_⟩:=rv5
      have hS9:=hS9.unb
      cases oI hm
      have hn1:_=Lp.ret _:=hn1
      subst hn1
      have hm:=X1 hq1
      cases oI hm
      exact Z8 (G4 (Z8 (G4 (Z8 (P3 ⟨_,rfl,_,(iT im1 (iT im2 im8)),⟨_,_,rfl,hS9.sel [1,2] rfl,h7,qZt⟩⟩)))))
    have hm:=V1 hm
    refine wl rfl (Z7 cf84 rfl (N4 (p0:=y1.2) (Q2:=Q2) (p1:=3) (hS3.bun [0,1] [2] rfl) Q3 h3 hx2) rfl fun v2 T3 w3 im3 rv2 => ?_)
    obtain⟨a5,c5,rfl,hS4,h4,_⟩:=rv2
    have hS4:=hS4.unb
    refine pv (r_fd1 rfl underlying89 rfl isAgg87 rfl) (wl rfl (bsS (r:=(Q0m .u32)) (l:=([y2.1.Num]:List Int)) (css := [[.int .u32 y2.1.Num]]) hS4 underlying55 sizeOf87 zeroValue87 rfl rfl (by kernel_rfl) rfl ⟨rfl,qZt⟩ rfl rfl fun w4 a6 n2 c6 im4 hS5 => ?_))
    obtain⟨z_1,hro1,hm⟩:=Q4 hm
    refine wl rfl (apO (q:=1) (l:=x1) (us:=([y2.1.Num]:List Int)) hS5 ⟨rfl,rfl⟩ rfl rfl (hS5.own (i:=0) ⟨rfl,rfl⟩).v underlying55 el87 (D5 hro1) fun w5 a7 n3 c7 im5 hS6 => ?_)
    refine pv (P8 rfl) (nil (Q0 ?_))
    refine rg (pv (Z9 rfl) (?_))
    obtain⟨y3,hx3,hm⟩:=Q4 hm
    rcases y3 with e1 | y3
    · have hm:=Z3 hm
      refine wl rfl (G8 A3 rfl (Q9 (p0:=y2.2) (Q2:=Q2) (p1 := [93]) (hS6.bun [1,2] [3] rfl) Q3 (h4.mono (iT im4 im5)) hx3) rfl fun v4 T5 w7 im7 rv4 => ?_)
      obtain⟨a9,c9,rfl,hS8,h6,_⟩:=rv4
      have hS8:=hS8.unb
      cases oI hm
      have hn1:_=Lp.ret _:=hn1
      subst hn1
      have hm:=X1 hq1
      cases oI hm
      exact G4 (Z8 (G4 (Z8 (P3 ⟨_,rfl,_,(iT im1 (iT im2 (iT im3 (iT im4 (iT im5 im7))))),⟨_,_,rfl,hS8.sel [1,2] rfl,h6,qZt⟩⟩))))
    have hm:=V1 hm
    refine wl rfl (Z7 A3 rfl (Q9 (p0:=y2.2) (Q2:=Q2) (p1 := [93]) (hS6.bun [1,2] [3] rfl) Q3 (h4.mono (iT im4 im5)) hx3) rfl fun v3 T4 w6 im6 rv3 => ?_)
    obtain⟨a8,c8,rfl,hS7,h5,_⟩:=rv3
    have hS7:=hS7.unb
    cases oI hm
    exact nil (U6 (Q0 ⟨m1,Nat.lt_succ_self _,_,_,y3,(x1++([y2.1.Num]:List Int)),_,_,_,_,_,Q7 ⟨rfl,rfl,qZt⟩,(iT im1 (iT im2 (iT im3 (iT im4 (iT im5 im6))))),hS7.sel [0,1,2] rfl,h5,hn1⟩))
  cases oI hm
  have hn1:_=Lp.brk _:=hn1
  subst hn1
  have hm:=F1 hq1
  refine xt (V9 (V9 (L5 (Q0 ?_))))
  refine sq2 (rg (pv (N2 rfl) (pv (P8 rfl) (nil (Q0 ?_)))))
  cases oI hm
  exact rtn (U2 rfl rfl ⟨_,rfl,_,(iT im1 im2),⟨_,_,_,_,_,rfl,hS3.sel [1,2,0] rfl,h3,qZt⟩⟩)

theorem Q1w {p0:Q1} {X4 X2:Nat} {Q2:List Value→J7} {a1:OA} {c1:Nat} {r:Except (Q8×Q1) ((List J8)×Q1)} (hS:Sep g T0 w0 [R,Q2 [sv a1 p0.l c1,iv p0.end_.Line,iv p0.end_.Col,iv p0.depth]]) (Q3:Ln X4 X2 Q2) (h1:SlR Y3 T0 w0 (sv a1 p0.l c1) p0.l) (hm:L9 p0=some r) :
    Calls Tryz.prog 64 #[pt X4 X2] w0 (exR r (fun r=>E6 T0 w0 fun T w v => ∃(a22:OA) (n5:Nat) (c22:Nat) (a23:OA) (c23:Nat),v = .slice a22 n5 c22∧Sep g T w [R,Q2 [sv a23 r.2.l c23,iv r.2.end_.Line,iv r.2.end_.Col,iv r.2.depth],G3 G7 58 (.slice a22 n5 c22) r.1]∧SlR Y3 T w (sv a23 r.2.l c23) r.2.l∧True) (fun r=>Q2x T0 w0 fun T w v => ∃(a22:OA) (c22:Nat),v = .iface 48 (.agg (K6 r.1).toArray)∧Sep g T w [R,Q2 [sv a22 r.2.l c22,iv r.2.end_.Line,iv r.2.end_.Col,iv r.2.depth]]∧SlR Y3 T w (sv a22 r.2.l c22) r.2.l∧True)):=by
  refine enter (args := [pt X4 X2]) Tryz.func64 rfl Tryz.ntmps64 rfl fun J => ?_
  unfold L9 at hm
  refine sq2 (rg (pv (P8 rfl) (nil (Q0 ?_))))
  refine sq2 (rg (pv (P8 rfl) (nil (Q0 ?_))))
  refine sq2 (rg (pv (Z9 rfl) (?_)))
  obtain⟨y1,hx1,hm⟩:=Q4 hm
  rcases y1 with e7 | y1
  · have hm:=Z3 hm
    refine wl rfl (G8 A3 rfl (Q9 (p0:=p0) (Q2:=Q2) (p1 := [123]) (hS.bun [0] [1] rfl) Q3 h1 hx1) rfl fun v16 T18 w23 im24 rv16 => ?_)
    obtain⟨a21,c21,rfl,hS25,h18,_⟩:=rv16
    have hS25:=hS25.unb
    cases oI hm
    exact Z8 (P3 ⟨_,rfl,_,im24,⟨_,_,rfl,hS25.sel [0,1] rfl,h18,qZt⟩⟩)
  have hm:=V1 hm
  refine wl rfl (Z7 A3 rfl (Q9 (p0:=p0) (Q2:=Q2) (p1 := [123]) (hS.bun [0] [1] rfl) Q3 h1 hx1) rfl fun v1 T1 w1 im1 rv1 => ?_)
  obtain⟨a2,c2,rfl,hS1,h2,_⟩:=rv1
  have hS1:=hS1.unb
  refine nil (Q0 ?_)
  refine sq2 ?_
  obtain⟨o1,ho1,hq1⟩:=Q4 hm
  obtain⟨bd1,hbd1,ho1⟩:=K3 ho1
  have hS2:=hS1.nilO G7 58
  refine blk (wp_loop_ghost (fun m a w2 => ∃(J:JV) (T2:TP) (x2:Q1) (x1:List J8) (a3:OA) (n1:Nat) (c3:Nat) (a4:OA) (c4:Nat),a=env (nf 30) J [(0,pt X4 X2),(3,.slice a3 n1 c3)]∧Im T1 w1 T2 w2∧Sep g T2 w2 [G3 G7 58 (.slice a3 n1 c3) x1,R,Q2 [sv a4 x2.l c4,iv x2.end_.Line,iv x2.end_.Col,iv x2.depth]]∧SlR Y3 T2 w2 (sv a4 x2.l c4) x2.l∧V7 bd1 m (x1,x2)=some o1) NN ⟨_,_,y1,[],_,_,_,_,_,Q7 ⟨rfl,rfl,qZt⟩,Im.refl,hS2.sel [0,1,2] rfl,h2,ho1⟩ ?_)
  rintro m _ w2 ⟨J,T2,x2,x1,a3,n1,c3,a4,c4,rfl,im2,hS3,h3,ho1⟩
  obtain⟨m1,z1,rfl,hm,hn1⟩:=U4 ho1
  rw [hbd1] at hm
  refine sq2 (sq2 ?_)
  obtain⟨y2,hx2,hm⟩:=Q4 hm
  refine rg (pv (Z9 rfl) (wl rfl (Z7 Q1u rfl (Y8 (p0:=x2) (Q2:=Q2) (p1 := [125]) (hS3.bun [0,1] [2] rfl) Q3 h3 hx2) rfl fun v2 T3 w3 im3 rv2 => ?_)))
  obtain⟨a5,c5,rfl,hS4,h4,_⟩:=rv2
  have hS4:=hS4.unb
  refine pv (L7 rfl) (nil (Q0 ?_))
  refine V3 rfl hm (fun hb1 hm => ?_) fun hb1 hm => ?_
  · refine skp (Q0 ?_)
    refine blk (sq2 ?_)
    obtain⟨y3,hx3,hm⟩:=Q4 hm
    refine rg (pv (Z9 rfl) (wl rfl (Z7 cf59 rfl (B0 (p0:=y2.2) (Q2:=Q2) (hS4.bun [0,1] [2] rfl) Q3 h4 hx3) rfl fun v3 T4 w4 im4 rv3 => ?_)))
    obtain⟨rfl,hS5,_⟩:=rv3
    have hS5:=hS5.unb
    refine pv (Z9 rfl) (?_)
    obtain⟨y4,hx4,hm⟩:=Q4 hm
    rcases y4 with e4 | y4
    · have hm:=Z3 hm
      refine wl rfl (G8 Q9l rfl (K0 (p0:=y2.2) (Q2:=Q2) (hS5.bun [0,1] [2] rfl) Q3 (h4.mono im4) hx4) rfl fun v11 T13 w18 im19 rv11 => ?_)
      obtain⟨a16,c16,rfl,hS20,h13,_⟩:=rv11
      have hS20:=hS20.unb
      cases oI hm
      have hn1:_=Lp.ret _:=hn1
      subst hn1
      have hm:=X1 hq1
      cases oI hm
      exact Z8 (G4 (Z8 (G4 (Z8 (P3 ⟨_,rfl,_,(iT im1 (iT im2 (iT im3 (iT im4 im19)))),⟨_,_,rfl,hS20.sel [1,2] rfl,h13,qZt⟩⟩)))))
    have hm:=V1 hm
    refine wl rfl (Z7 Q9l rfl (K0 (p0:=y2.2) (Q2:=Q2) (hS5.bun [0,1] [2] rfl) Q3 (h4.mono im4) hx4) rfl fun v4 T5 w5 im5 rv4 => ?_)
    obtain⟨a6,c6,rfl,hS6,h5,_⟩:=rv4
    have hS6:=hS6.unb
    refine pv (A8 (by kernel_rfl) rfl (u := .agg #[iv y3.Line,iv y3.Col,qZs y4.1.Word,qZs y4.1.Name,iv y4.1.Stars,qZs [],.slice none 0 0,.slice none 0 0,.bool false])) (wl rfl (alS (zs := [iv 0,iv 0,qZs [],qZs [],iv 0,qZs [],.slice none 0 0,.slice none 0 0,.bool false]) zeroValue58 rfl hS6 fun w6 b1 im6 hS7 => ?_))
    refine wl rfl (X6 (q:=0) hS7 ⟨rfl,rfl⟩ rfl rfl rfl sizeOf58 rfl rfl rfl fun w7 im7 hS8 => ?_)
    refine nil (Q0 ?_)
    refine sq2 (rg (pv (Z9 rfl) (?_)))
    obtain⟨y5,hx5,hm⟩:=Q4 hm
    rcases y5 with e3 | y5
    · have hm:=Z3 hm
      refine wl rfl (G8 Q4s rfl (V6 (p0:=y4.2) (Q2:=Q2) (hS8.bun [0,1,2] [3] rfl) Q3 (h5.mono (iT im6 im7)) hx5) rfl fun v10 T12 w17 im18 rv10 => ?_)
      obtain⟨a15,c15,rfl,hS19,h12,_⟩:=rv10
      have hS19:=hS19.unb
      cases oI hm
      have hn1:_=Lp.ret _:=hn1
      subst hn1
      have hm:=X1 hq1
      cases oI hm
      exact Z8 (G4 (Z8 (G4 (Z8 (P3 ⟨_,rfl,_,(iT im1 (iT im2 (iT im3 (iT im4 (iT im5 (iT im6 (iT im7 im18))))))),⟨_,_,rfl,hS19.sel [2,3] rfl,h12,qZt⟩⟩)))))
    have hm:=V1 hm
    refine wl rfl (Z7 Q4s rfl (V6 (p0:=y4.2) (Q2:=Q2) (hS8.bun [0,1,2] [3] rfl) Q3 (h5.mono (iT im6 im7)) hx5) rfl fun v5 T6 w8 im8 rv5 => ?_)
    obtain⟨a7,c7,rfl,hS9,h6,_⟩:=rv5
    have hS9:=hS9.unb
    refine pv (Z1 rfl underlying58 rfl sizeOf9 rfl) (wl rfl (X6 (q:=0) hS9 ⟨rfl,rfl⟩ rfl rfl rfl sizeOf9 rfl rfl rfl fun w9 im9 hS10 => ?_))
    refine nil (Q0 ?_)
    refine sq2 (rg (pv (Z9 rfl) (?_)))
    obtain⟨y6,hx6,hm⟩:=Q4 hm
    rcases y6 with e2 | y6
    · have hm:=Z3 hm
      refine wl rfl (G8 cf85 rfl (R6 (p0:=y5.2) (Q2:=Q2) (hS10.bun [0,1,2] [3] rfl) Q3 (h6.mono im9) hx6) rfl fun v9 T11 w16 im17 rv9 => ?_)
      obtain⟨a14,c14,rfl,hS18,h11,_⟩:=rv9
      have hS18:=hS18.unb
      cases oI hm
      have hn1:_=Lp.ret _:=hn1
      subst hn1
      have hm:=X1 hq1
      cases oI hm
      exact Z8 (G4 (Z8 (G4 (Z8 (P3 ⟨_,rfl,_,(iT im1 (iT im2 (iT im3 (iT im4 (iT im5 (iT im6 (iT im7 (iT im8 (iT im9 im17))))))))),⟨_,_,rfl,hS18.sel [2,3] rfl,h11,qZt⟩⟩)))))
    have hm:=V1 hm
    refine wl rfl (Z7 cf85 rfl (R6 (p0:=y5.2) (Q2:=Q2) (hS10.bun [0,1,2] [3] rfl) Q3 (h6.mono im9) hx6) rfl fun v6 T7 w10 im10 rv6 => ?_)
    obtain⟨a8,n2,c8,a9,c9,rfl,hS11,h7,_⟩:=rv6
    have hS11:=hS11.unb
    refine pv (Z1 rfl underlying58 rfl sizeOf55 rfl) (wl rfl (X6 (q:=0) hS11 ⟨rfl,rfl⟩ rfl rfl rfl sizeOf55 rfl rfl rfl fun w11 im11 hS12 => ?_))
    refine nil (Q0 ?_)
    refine sq2 (rg (pv (Z9 rfl) (?_)))
    obtain⟨y7,hx7,hm⟩:=Q4 hm
    rcases y7 with e1 | y7
    · have hm:=Z3 hm
      refine wl rfl (G8 A3 rfl (Q9 (p0:=y6.2) (Q2:=Q2) (p1 := [59]) (hS12.bun [0,1,2,4] [3] rfl) Q3 (h7.mono im11) hx7) rfl fun v8 T10 w15 im16 rv8 => ?_)
      obtain⟨a13,c13,rfl,hS17,h10,_⟩:=rv8
      have hS17:=hS17.unb
      cases oI hm
      have hn1:_=Lp.ret _:=hn1
      subst hn1
      have hm:=X1 hq1
      cases oI hm
      exact Z8 (G4 (Z8 (G4 (Z8 (P3 ⟨_,rfl,_,(iT im1 (iT im2 (iT im3 (iT im4 (iT im5 (iT im6 (iT im7 (iT im8 (iT im9 (iT im10 (iT im11 im16))))))))))),⟨_,_,rfl,hS17.sel [2,4] rfl,h10,qZt⟩⟩)))))
    have hm:=V1 hm
    refine wl rfl (Z7 A3 rfl (Q9 (p0:=y6.2) (Q2:=Q2) (p1 := [59]) (hS12.bun [0,1,2,4] [3] rfl) Q3 (h7.mono im11) hx7) rfl fun v7 T8 w12 im12 rv7 => ?_)
    obtain⟨a10,c10,rfl,hS13,h8,_⟩:=rv7
    have hS13:=hS13.unb
    refine nil (Q0 ?_)
    refine rg (pv (N2 rfl) (pv (Z5 rfl isAgg58 sizeOf58 rfl (hS13.cells0 (i:=0) ⟨rfl,rfl⟩ (o:=0) rfl) (cs := [iv y3.Line,iv y3.Col,qZs y4.1.Word,qZs y4.1.Name,iv y4.1.Stars,qZs y5.1,.slice a8 n2 c8,.slice none 0 0,.bool false])) (?_)))
    obtain⟨T9,im13,hS14,h9⟩:=hS13.seal 3 ⟨rfl,rfl⟩
    have hsh:=h9.len
    subst hsh
    refine wl rfl (bsS (r:=G7) (l:=([(⟨y3,y4.1,y5.1,y6.1,[],false⟩:J8)]:List J8)) (css := [[iv y3.Line,iv y3.Col,qZs y4.1.Word,qZs y4.1.Name,iv y4.1.Stars,qZs y5.1,sv a8 y6.1 c8,.slice none 0 0,.bool false]]) hS14 underlying24 sizeOf58 zeroValue58 rfl rfl (by kernel_rfl) rfl ⟨(Q5h (x:=(⟨y3,y4.1,y5.1,y6.1,[],false⟩:J8)) h9 V2:G7.rp _ _ _ _),qZt⟩ rfl rfl fun w13 a11 n3 c11 im14 hS15 => ?_)
    obtain⟨z_1,hro1,hm⟩:=Q4 hm
    refine wl rfl (apO (q:=2) (l:=x1) (us:=([(⟨y3,y4.1,y5.1,y6.1,[],false⟩:J8)]:List J8)) hS15 ⟨rfl,rfl⟩ rfl rfl (hS15.own (i:=0) ⟨rfl,rfl⟩).v underlying24 el58 (D5 hro1) fun w14 a12 n4 c12 im15 hS16 => ?_)
    cases oI hm
    exact pv (P8 rfl) (nil (U6 (Q0 ⟨m1,Nat.lt_succ_self _,_,_,y7,(x1++([(⟨y3,y4.1,y5.1,y6.1,[],false⟩:J8)]:List J8)),_,_,_,_,_,Q7 ⟨rfl,rfl,qZt⟩,(iT im2 (iT im3 (iT im4 (iT im5 (iT im6 (iT im7 (iT im8 (iT im9 (iT im10 (iT im11 (iT im12 (iT im13 (iT im14 im15))))))))))))),hS16.sel [2,3,5] rfl,(h8.mono (iT im13 (iT im14 im15))),hn1⟩)))
  cases oI hm
  have hn1:_=Lp.brk _:=hn1
  subst hn1
  have hm:=F1 hq1
  refine xt (V9 (V9 (L5 (Q0 ?_))))
  refine sq2 (rg (pv (Z9 rfl) (?_)))
  obtain⟨y9,hx9,hm⟩:=Q4 hm
  rcases y9 with e6 | y9
  · have hm:=Z3 hm
    refine wl rfl (G8 A3 rfl (Q9 (p0:=y2.2) (Q2:=Q2) (p1 := [59]) (hS4.bun [0,1] [2] rfl) Q3 h4 hx9) rfl fun v15 T17 w22 im23 rv15 => ?_)
    obtain⟨a20,c20,rfl,hS24,h17,_⟩:=rv15
    have hS24:=hS24.unb
    cases oI hm
    exact Z8 (P3 ⟨_,rfl,_,(iT im1 (iT im2 (iT im3 im23))),⟨_,_,rfl,hS24.sel [1,2] rfl,h17,qZt⟩⟩)
  have hm:=V1 hm
  refine wl rfl (Z7 A3 rfl (Q9 (p0:=y2.2) (Q2:=Q2) (p1 := [59]) (hS4.bun [0,1] [2] rfl) Q3 h4 hx9) rfl fun v14 T16 w21 im22 rv14 => ?_)
  obtain⟨a19,c19,rfl,hS23,h16,_⟩:=rv14
  have hS23:=hS23.unb
  refine nil (Q0 ?_)
  refine sq2 (rg (pv (N2 rfl) (pv (P8 rfl) (nil (Q0 ?_)))))
  cases oI hm
  exact rtn (U2 rfl rfl ⟨_,rfl,_,(iT im1 (iT im2 (iT im3 im22))),⟨_,_,_,_,_,rfl,hS23.sel [1,2,0] rfl,h16,qZt⟩⟩)

theorem B7 {p0:Q1} {X4 X2:Nat} {Q2:List Value→J7} {a1:OA} {c1:Nat} {r:Except (Q8×Q1) (Q1)} (hS:Sep g T0 w0 [R,Q2 [sv a1 p0.l c1,iv p0.end_.Line,iv p0.end_.Col,iv p0.depth]]) (Q3:Ln X4 X2 Q2) (h1:SlR Y3 T0 w0 (sv a1 p0.l c1) p0.l) (hm:E3 p0=some r) :
    Calls Tryz.prog 98 #[pt X4 X2] w0 (exR r (fun r=>E6 T0 w0 fun T w v => ∃(b2:Nat) (a2:OA) (c2:Nat),v = .func (.func 115) #[] #[pt b2 0]∧Sep g T w [R,Q2 [sv a2 r.l c2,iv r.end_.Line,iv r.end_.Col,iv r.depth],J6 b2 [pt X4 X2]]∧SlR Y3 T w (sv a2 r.l c2) r.l∧True) (fun r=>Q2x T0 w0 fun T w v => ∃(a2:OA) (c2:Nat),v = .iface 48 (.agg (K6 r.1).toArray)∧Sep g T w [R,Q2 [sv a2 r.2.l c2,iv r.2.end_.Line,iv r.2.end_.Col,iv r.2.depth]]∧SlR Y3 T w (sv a2 r.2.l c2) r.2.l∧True)):=by
  refine enter (args := [pt X4 X2]) Tryz.func98 rfl Tryz.ntmps98 rfl fun J => ?_
  unfold E3 at hm
  refine sq2 (rg (wl rfl (bxS (cs := [pt X4 X2]) rfl rfl hS fun w1 b1 im1 hS1 => ?_)))
  refine pv (r_zx (v := .nilFunc) rfl) (nil (Q0 ?_))
  obtain⟨kk1,hkk1,hm⟩:=F6 hm
  refine cut (fun a w2 => ∃(J:JV) (T1:TP),a=env (nf 18) J [(1,pt b1 0)]∧Im T0 w1 T1 w2∧Sep g T1 w2 [J6 b1 [pt X4 X2],R,Q2 [sv a1 p0.l c1,iv p0.end_.Line,iv p0.end_.Col,iv p0.depth]]∧kk1 ()=some r) ?_ ?_
  · refine sq2 (rg (pv (Z4 rfl isAgg41 (hS1.cell0 (i:=0) ⟨rfl,rfl⟩ (j:=0) rfl)) (pv (J1 rfl) (pv (Z1 rfl underlying43 rfl sizeOf3 rfl) (pv (Z4 rfl isAgg3 (hS1.cellB (i:=2) ⟨rfl,rfl⟩ Q3 (j:=3) rfl)) (pv (X7 rfl rfl rfl) (nil (Q0 ?_))))))))
    refine V3 rfl hm (fun hb1 hm => ?_) fun hb1 hm => ?_
    · refine rg (pv (Z4 rfl isAgg41 (hS1.cell0 (i:=0) ⟨rfl,rfl⟩ (j:=0) rfl)) (?_))
      obtain⟨y1,hx1,hm⟩:=Q4 hm
      rcases y1 with e1 | y1
      · have hm:=Z3 hm
        refine wl rfl (G8 cf83 rfl (E9 (p0:=p0) (Q2:=Q2) (p1:=2) (hS1.bun [0,1] [2] rfl) Q3 (h1.mono im1) hx1) rfl fun v2 T3 w4 im4 rv2 => ?_)
        obtain⟨rfl,hS3,_⟩:=rv2
        have hS3:=hS3.unb
        cases oI hm
        exact Z8 (P3 ⟨_,rfl,_,(iT im1 im4),⟨_,_,rfl,hS3.sel [1,2] rfl,(h1.mono (iT im1 im4)),qZt⟩⟩)
      have hm:=V1 hm
      refine wl rfl (Z7 cf83 rfl (E9 (p0:=p0) (Q2:=Q2) (p1:=2) (hS1.bun [0,1] [2] rfl) Q3 (h1.mono im1) hx1) rfl fun v1 T2 w3 im3 rv1 => ?_)
      obtain⟨rfl,hS2,_⟩:=rv1
      have hS2:=hS2.unb
      exact nil (Q0 ⟨_,_,Q7 ⟨rfl,qZt⟩,im3,hS2.sel [0,1,2] rfl,hm⟩)
    exact skp (Q0 ⟨_,_,Q7 ⟨rfl,qZt⟩,Im.refl,hS1.sel [0,1,2] rfl,hm⟩)
  rintro _ w2 ⟨J,T1,rfl,im2,hS4,hm⟩
  rw [hkk1] at hm
  refine sq2 (rg (pv (Z4 rfl isAgg41 (hS4.cell0 (i:=0) ⟨rfl,rfl⟩ (j:=0) rfl)) (pv (J1 rfl) (pv (Z1 rfl underlying43 rfl sizeOf3 rfl) (pv (Z4 rfl isAgg3 (hS4.cellB (i:=2) ⟨rfl,rfl⟩ Q3 (j:=3) rfl)) (pv (X7 rfl rfl rfl) (pv (J1 rfl) (pv (Z1 rfl underlying43 rfl sizeOf3 rfl) (wl rfl (stB (q:=2) (j:=3) hS4 ⟨rfl,rfl⟩ Q3 rfl rfl rfl sizeOf3 rfl rfl rfl fun w5 im5 hS5 => ?_))))))))))
  refine nil (Q0 ?_)
  refine sq2 (rg (pv (r_mkf (u := .func (.func 115) #[] #[pt b1 0]) rfl) (pv (r_zf rfl) (nil (Q0 ?_)))))
  cases oI hm
  exact rtn (U2 rfl rfl ⟨_,rfl,_,(iT im1 (iT im2 im5)),⟨_,_,_,rfl,hS5.sel [1,2,0] rfl,(h1.mono (iT im1 (iT im2 im5))),qZt⟩⟩)

theorem H2 {p0:Q1} {X4 X2:Nat} {Q2:List Value→J7} {a1:OA} {c1:Nat} {r:(List UInt8)} (hS:Sep g T0 w0 [R,Q2 [sv a1 p0.l c1,iv p0.end_.Line,iv p0.end_.Col,iv p0.depth]]) (Q3:Ln X4 X2 Q2) (h1:SlR Y3 T0 w0 (sv a1 p0.l c1) p0.l) (hm:E2 p0=some r) :
    Calls Tryz.prog 101 #[pt X4 X2] w0 (E6 T0 w0 fun T w v=>v=(qZs r)∧Sep g T w [R,Q2 [sv a1 p0.l c1,iv p0.end_.Line,iv p0.end_.Col,iv p0.depth]]∧True):=by
  refine enter (args := [pt X4 X2]) Tryz.func101 rfl Tryz.ntmps101 rfl fun J => ?_
  unfold E2 at hm
  refine sq2 (rg (pv (Q5r rfl) (nil (Q0 ?_))))
  refine sq2 (sq2 (rg (pv (Z9 rfl) (pv (J1 rfl) (pv (Z1 rfl underlying43 rfl sizeOf38 rfl) (pv (Z4 rfl isAgg38 (hS.cellB (i:=1) ⟨rfl,rfl⟩ Q3 (j:=0) rfl)) (pv (L3 rfl underlying38) (pv (X7 rfl rfl rfl) (pv (Y7 rfl) (?_))))))))))
  rcases Bool.eq_false_or_eq_true ((List.length p0.l:Int) == 0) with hb1 | hb1
  · have hm:=V8 hb1 hm
    refine gF (d0:=9) rfl rfl (by rw [hb1]; rfl) (gF (d0:=9) rfl rfl (by rw [hb1]; rfl) (gF (d0:=9) rfl rfl (by rw [hb1]; rfl) (gF (d0:=9) rfl rfl (by rw [hb1]; rfl) (gF (d0:=9) rfl rfl (by rw [hb1]; rfl) (gF (d0:=9) rfl rfl (by rw [hb1]; rfl) (gF (d0:=9) rfl rfl (by rw [hb1]; rfl) (gF (d0:=9) rfl rfl (by rw [hb1]; rfl) (pv (Y1 rfl hb1 rfl) (nil (Q0 ?_))))))))))
    refine cnd (b:=true) rfl (fun _ => ?_) (fun h=>nomatch h)
    refine sq2 (rg (pv (Q5r rfl) (nil (Q0 ?_))))
    cases oI hm
    exact rtn (Q6 (U2 rfl rfl ⟨_,rfl,_,Im.refl,⟨rfl,hS.sel [0,1] rfl,qZt⟩⟩))
  have hm:=X3 hb1 hm
  obtain⟨u1,hx1,hm⟩:=Q4 hm
  obtain⟨b1,of1,cs1,k1,cp1,hv1,hp1,hl1,he1,hr1,hc1,hT1⟩:=h1.ixT hx1 rfl
  cases I3 hr1
  refine gT (d0:=9) rfl rfl hb1 (pv (Z9 rfl) (gT (d0:=9) rfl rfl hb1 (pv (J1 rfl) (gT (d0:=9) rfl rfl hb1 (pv (Z1 rfl underlying43 rfl sizeOf38 rfl) (gT (d0:=9) rfl rfl hb1 (pv (Z4 rfl isAgg38 (hS.cellB (i:=1) ⟨rfl,rfl⟩ Q3 (j:=0) rfl)) (gT (d0:=9) rfl rfl hb1 (pv (B2 hv1 rfl underlying38 sizeOf89 hp1 hl1 he1) (gT (d0:=9) rfl rfl hb1 (pv (Z1 rfl underlying89 rfl sizeOf3 rfl) (gT (d0:=9) rfl rfl hb1 (pv (Z4 rfl isAgg3 (hc1.get (j:=0) rfl)) (gT (d0:=9) rfl rfl hb1 (pv (X7 rfl rfl rfl) (pv (X9 rfl hb1 rfl) (nil (Q0 ?_))))))))))))))))))
  refine V3 rfl hm (fun hb2 hm => ?_) fun hb2 hm => ?_
  · refine sq2 (rg (pv (Q5r rfl) (nil (Q0 ?_))))
    cases oI hm
    exact rtn (Q6 (U2 rfl rfl ⟨_,rfl,_,Im.refl,⟨rfl,hS.sel [0,1] rfl,qZt⟩⟩))
  refine skp (Q0 ?_)
  refine sq2 ?_
  obtain⟨u2,hx2,hm⟩:=Q4 hm
  obtain⟨b2,of2,cs2,k2,cp2,hv2,hp2,hl2,he2,hr2,hc2,hT2⟩:=h1.ixT hx2 rfl
  cases I3 hr2
  refine rg (pv (Z9 rfl) (pv (J1 rfl) (pv (Z1 rfl underlying43 rfl sizeOf38 rfl) (pv (Z4 rfl isAgg38 (hS.cellB (i:=1) ⟨rfl,rfl⟩ Q3 (j:=0) rfl)) (pv (B2 hv2 rfl underlying38 sizeOf89 hp2 hl2 he2) (pv (Z1 rfl underlying89 rfl sizeOf9 rfl) (pv (Z4 rfl isAgg9 (hc2.get (j:=1) rfl)) (pv (Q5r rfl) (nil (Y9 [(2,(qZs u2.Text))] ⟨rfl,qZt⟩ fun J => ?_))))))))))
  cases oI hm
  exact rtn (U2 rfl rfl ⟨_,rfl,_,Im.refl,⟨rfl,hS.sel [0,1] rfl,qZt⟩⟩)

theorem E8 {p0:Q1} {X4 X2:Nat} {Q2:List Value→J7} {a1:OA} {c1:Nat} {p1:Int} {r:Z6×Q1} (hS:Sep g T0 w0 [R,Q2 [sv a1 p0.l c1,iv p0.end_.Line,iv p0.end_.Col,iv p0.depth]]) (Q3:Ln X4 X2 Q2) (h1:SlR Y3 T0 w0 (sv a1 p0.l c1) p0.l) (hm:K9 p0 p1=some r) :
    Calls Tryz.prog 102 #[pt X4 X2,iv p1] w0 (E6 T0 w0 fun T w v => ∃(a3:OA) (c3:Nat) (a4:OA) (c4:Nat),v = .agg (X8 r.1 a3 c3).toArray∧Sep g T w [R,Q2 [sv a4 r.2.l c4,iv r.2.end_.Line,iv r.2.end_.Col,iv r.2.depth]]∧SlR X0 T w (sv a3 r.1.Kids c3) r.1.Kids∧SlR Y3 T w (sv a4 r.2.l c4) r.2.l∧True):=by
  refine enter (args := [pt X4 X2,iv p1]) Tryz.func102 rfl Tryz.ntmps102 rfl fun J => ?_
  unfold K9 at hm
  refine sq2 (rg (wl rfl (alS (zs := [iv 0,iv 0,iv 0,qZs [],qZs [],.int .u32 0,qZs [],qZs [],iv 0,.slice none 0 0]) zeroValue99 rfl hS fun w1 b1 im1 hS1 => ?_)))
  refine nil (Q0 ?_)
  refine sq2 ?_
  obtain⟨y1,hx1,hm⟩:=Q4 hm
  refine rg (pv (U1 rfl) (pv (Z9 rfl) (wl rfl (Z7 cf59 rfl (B0 (p0:=p0) (Q2:=Q2) (hS1.bun [0,1] [2] rfl) Q3 (h1.mono im1) hx1) rfl fun v1 T1 w2 im2 rv1 => ?_))))
  obtain⟨rfl,hS2,_⟩:=rv1
  have hS2:=hS2.unb
  obtain⟨y2,hx2,hm⟩:=Q4 hm
  refine pv (Z9 rfl) (wl rfl (Z7 Z3c rfl (H2 (p0:=p0) (Q2:=Q2) (hS2.bun [0,1] [2] rfl) Q3 (h1.mono (iT im1 im2)) hx2) rfl fun v2 T2 w3 im3 rv2 => ?_))
  obtain⟨rfl,hS3,_⟩:=rv2
  have hS3:=hS3.unb
  refine pv (A8 (by kernel_rfl) rfl (u := .agg #[iv p1,iv y1.Line,iv y1.Col,qZs y2,qZs [],.int .u32 0,qZs [],qZs [],iv 0,.slice none 0 0])) (wl rfl (alS (zs := [iv 0,iv 0,iv 0,qZs [],qZs [],.int .u32 0,qZs [],qZs [],iv 0,.slice none 0 0]) zeroValue99 rfl hS3 fun w4 b2 im4 hS4 => ?_))
  refine wl rfl (X6 (q:=0) hS4 ⟨rfl,rfl⟩ rfl rfl rfl sizeOf99 rfl rfl rfl fun w5 im5 hS5 => ?_)
  refine nil (Q0 ?_)
  refine sq2 ?_
  obtain⟨u1,hx3,hm⟩:=Q4 hm
  obtain⟨a2,c2,he1,h2⟩:=(h1.mono (iT im1 (iT im2 (iT im3 (iT im4 im5))))).part hx3
  refine rg (pv (Z9 rfl) (pv (Z9 rfl) (pv (J1 rfl) (pv (Z1 rfl underlying43 rfl sizeOf38 rfl) (pv (Z4 rfl isAgg38 (hS5.cellB (i:=3) ⟨rfl,rfl⟩ Q3 (j:=0) rfl)) (pv (r_slR rfl (h1.mono (iT im1 (iT im2 (iT im3 (iT im4 im5))))) ⟨_,rfl⟩ rfl hx3 underlying38 sizeOf89 rfl he1) (pv (J1 rfl) (pv (Z1 rfl underlying43 rfl sizeOf38 rfl) (wl rfl (stB (q:=3) (j:=0) hS5 ⟨rfl,rfl⟩ Q3 rfl rfl rfl sizeOf38 rfl rfl rfl fun w6 im6 hS6 => ?_))))))))))
  refine nil (Q0 ?_)
  refine sq2 (rg (pv (Z5 rfl isAgg99 sizeOf99 rfl (hS6.cells0 (i:=0) ⟨rfl,rfl⟩ (o:=0) rfl) (cs := [iv p1,iv y1.Line,iv y1.Col,qZs y2,qZs [],.int .u32 0,qZs [],qZs [],iv 0,.slice none 0 0])) (wl rfl (X6 (q:=1) hS6 ⟨rfl,rfl⟩ rfl rfl rfl sizeOf99 rfl rfl rfl fun w7 im7 hS7 => ?_))))
  refine nil (Q0 ?_)
  cases oI hm
  exact rtn (A5 (vs := [.agg #[iv p1,iv y1.Line,iv y1.Col,qZs y2,qZs [],.int .u32 0,qZs [],qZs [],iv 0,.slice none 0 0]]) rfl ⟨rvS rfl isAgg99 sizeOf99 rfl (hS7.bx (i:=1) ⟨rfl,rfl⟩),qZt⟩ rfl ⟨_,rfl,_,(iT im1 (iT im2 (iT im3 (iT im4 (iT im5 (iT im6 im7)))))),⟨_,_,_,_,rfl,hS7.sel [2,3] rfl,V2,(h2.mono (iT im6 im7)),qZt⟩⟩)
end Go.Proofs.YtbolaohekbmndaaGreatDoor
