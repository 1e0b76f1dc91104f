/- That Go functions compute their models. Printed by gen2.py. -/
import Derived.Test.YtbfpdnogfkbiaaaGreatProg
import Derived.KernelRfl
import Derived.Test.YtbfpdnogfkbiaaaGreatKH
set_option linter.unusedVariables false
namespace Go.Proofs.YtbfpdnogfkbiaaaGreat
open List renaming length → qQ
abbrev qZs (l:List UInt8):Value := .string ⟨l.toArray⟩
theorem qZt:True:=trivial
open _root_.Go.Proofs.Tryz
set_option maxRecDepth 100000
set_option maxHeartbeats 8000000
attribute [local irreducible] wpList wpQuiet Code.wp
variable {g:World} {T0:Nat→Prop} {w0:World} {R:List Y9}
def Y1y:Rp Pos:=((J8 (J6 .i64) (J6 .i64))).iso fun x=>(x.Line,x.Col)
theorem Q2p {T:Nat→Prop} {w:World} {cs:List Value} {x:Pos} (h:Y1y.rp T w cs x):cs = [.int .i64 x.Line,.int .i64 x.Col]:=by
  obtain⟨_,_,rfl,D,E⟩:=h;cases D;cases E;exact rfl
theorem Z1r {T:Nat→Prop} {w:World} {x:Pos}   : Y1y.rp T w [.int .i64 x.Line,.int .i64 x.Col] x:=⟨_,_,rfl,rfl,rfl⟩
def Z5c:Rp P9:=((J8 Y0n (J8 Y0n (J6 .i64)))).iso fun x=>(x.Word,x.Name,x.Stars)
theorem Q8c {T:Nat→Prop} {w:World} {cs:List Value} {x:P9} (h:Z5c.rp T w cs x):cs = [qZs x.Word,qZs x.Name,.int .i64 x.Stars]:=by
  obtain⟨_,_,rfl,D,E⟩:=h;cases D;obtain⟨_,_,rfl,I,K⟩:=E;cases I;cases K;exact rfl
theorem Z4x {T:Nat→Prop} {w:World} {x:P9}   : Z5c.rp T w [qZs x.Word,qZs x.Name,.int .i64 x.Stars] x:=⟨_,_,rfl,rfl,⟨_,_,rfl,rfl,rfl⟩⟩
def FGExpr (r:Rp Y7):Rp Y7:=((J8 (J6 .i64) (J8 Y1y (J8 Y0n (J8 Y0n (J8 (J6 .u32) (J8 Z5c (rSl r)))))))).iso fun x=>(x.Kind,x.Pos,x.Op,x.Name,x.Num,x.Type_,x.Kids)
def F0:Rp Y7:=rFix FGExpr 10 true (fun _=>rfl)
theorem gGExpr:Z9y FGExpr:=gIso _ (Q2t (gK (J6 .i64)) (Q2t (gK Y1y) (Q2t (gK Y0n) (Q2t (gK Y0n) (Q2t (gK (J6 .u32)) (Q2t (gK Z5c) (gSl gId)))))))
theorem G4 {T:Nat→Prop} {w:World} {cs:List Value} {x:Y7} (h:F0.rp T w cs x) : ∃(a9:Option Addr) (c9:Nat),cs = [.int .i64 x.Kind,.int .i64 x.Pos.Line,.int .i64 x.Pos.Col,qZs x.Op,qZs x.Name,.int .u32 x.Num,qZs x.Type_.Word,qZs x.Type_.Name,.int .i64 x.Type_.Stars,.slice a9 (qQ x.Kids) c9]∧SlR F0 T w (.slice a9 (qQ x.Kids) c9) x.Kids:=by
  have h:=Y4d gGExpr h;obtain⟨_,_,rfl,E,I⟩:=h;cases E;obtain⟨_,_,rfl,K,O⟩:=I;cases Q2p K;obtain⟨_,_,rfl,U,V⟩:=O;cases U;obtain⟨_,_,rfl,W,g4⟩:=V;cases W;obtain⟨_,_,rfl,f5,g5⟩:=g4;cases f5;obtain⟨_,_,rfl,f6,g6⟩:=g5;cases Q8c f6;obtain⟨_,rfl,D⟩:=g6;obtain⟨b7,k7,rfl⟩:=D.shape;exact⟨b7,k7,rfl,D⟩
theorem Q2r {T:Nat→Prop} {w:World} {x:Y7} {a9:Option Addr} {c9:Nat} (e0:SlR F0 T w (.slice a9 (qQ x.Kids) c9) x.Kids):F0.rp T w [.int .i64 x.Kind,.int .i64 x.Pos.Line,.int .i64 x.Pos.Col,qZs x.Op,qZs x.Name,.int .u32 x.Num,qZs x.Type_.Word,qZs x.Type_.Name,.int .i64 x.Type_.Stars,.slice a9 (qQ x.Kids) c9] x:=Y9o gGExpr ⟨_,_,rfl,rfl,⟨_,_,rfl,Z1r,⟨_,_,rfl,rfl,⟨_,_,rfl,rfl,⟨_,_,rfl,rfl,⟨_,_,rfl,Z4x,⟨_,rfl,e0⟩⟩⟩⟩⟩⟩⟩
def Q1r:Rp N0:=((J8 Y1y (J8 Z5c (J8 Y0n (J8 (rSl (J6 .u32)) (J8 (rSl F0) Q3l)))))).iso fun x=>(x.Pos,x.Type_,x.Name,x.Dims,x.Init,x.Brace)
theorem Z1w {T:Nat→Prop} {w:World} {cs:List Value} {x:N0} (h:Q1r.rp T w cs x) : ∃(a6:Option Addr) (c6:Nat) (a7:Option Addr) (c7:Nat),cs = [.int .i64 x.Pos.Line,.int .i64 x.Pos.Col,qZs x.Type_.Word,qZs x.Type_.Name,.int .i64 x.Type_.Stars,qZs x.Name,.slice a6 (qQ x.Dims) c6,.slice a7 (qQ x.Init) c7,.bool x.Brace]∧SlR (J6 .u32) T w (.slice a6 (qQ x.Dims) c6) x.Dims∧SlR F0 T w (.slice a7 (qQ x.Init) c7) x.Init:=by
  obtain⟨_,_,rfl,I,K⟩:=h;cases Q2p I;obtain⟨_,_,rfl,O,U⟩:=K;cases Q8c O;obtain⟨_,_,rfl,V,W⟩:=U;cases V;obtain⟨_,_,rfl,f4,g4⟩:=W;obtain⟨_,rfl,D⟩:=f4;obtain⟨b5,k5,rfl⟩:=D.shape;obtain⟨_,_,rfl,f6,g6⟩:=g4;obtain⟨_,rfl,E⟩:=f6;obtain⟨b7,k7,rfl⟩:=E.shape;cases g6;exact⟨b5,k5,b7,k7,rfl,D,E⟩
theorem Z6x {T:Nat→Prop} {w:World} {x:N0} {a6:Option Addr} {c6:Nat} {a7:Option Addr} {c7:Nat} (e0:SlR (J6 .u32) T w (.slice a6 (qQ x.Dims) c6) x.Dims) (e1:SlR F0 T w (.slice a7 (qQ x.Init) c7) x.Init):Q1r.rp T w [.int .i64 x.Pos.Line,.int .i64 x.Pos.Col,qZs x.Type_.Word,qZs x.Type_.Name,.int .i64 x.Type_.Stars,qZs x.Name,.slice a6 (qQ x.Dims) c6,.slice a7 (qQ x.Init) c7,.bool x.Brace] x:=⟨_,_,rfl,Z1r,⟨_,_,rfl,Z4x,⟨_,_,rfl,rfl,⟨_,_,rfl,⟨_,rfl,e0⟩,⟨_,_,rfl,⟨_,rfl,e1⟩,rfl⟩⟩⟩⟩⟩
def Q9j:Rp Q3b:=((J8 Y1y (J8 Y0n (rSl Q1r)))).iso fun x=>(x.Pos,x.Name,x.Fields)
theorem Z4b {T:Nat→Prop} {w:World} {cs:List Value} {x:Q3b} (h:Q9j.rp T w cs x) : ∃(a3:Option Addr) (c3:Nat),cs = [.int .i64 x.Pos.Line,.int .i64 x.Pos.Col,qZs x.Name,.slice a3 (qQ x.Fields) c3]∧SlR Q1r T w (.slice a3 (qQ x.Fields) c3) x.Fields:=by
  obtain⟨_,_,rfl,E,I⟩:=h;cases Q2p E;obtain⟨_,_,rfl,K,O⟩:=I;cases K;obtain⟨_,rfl,D⟩:=O;obtain⟨U,V,rfl⟩:=D.shape;exact⟨U,V,rfl,D⟩
theorem Y5f {T:Nat→Prop} {w:World} {x:Q3b} {a3:Option Addr} {c3:Nat} (e0:SlR Q1r T w (.slice a3 (qQ x.Fields) c3) x.Fields):Q9j.rp T w [.int .i64 x.Pos.Line,.int .i64 x.Pos.Col,qZs x.Name,.slice a3 (qQ x.Fields) c3] x:=⟨_,_,rfl,Z1r,⟨_,_,rfl,rfl,⟨_,rfl,e0⟩⟩⟩
def X2v (r:Rp F6):Rp Q0o:=((J8 Y1y (J8 Q3l (J8 (J6 .u32) (rSl r))))).iso fun x=>(x.Pos,x.Default,x.Num,x.Body)
theorem gFGCase:Z9y X2v:=gIso _ (Q2t (gK Y1y) (Q2t (gK Q3l) (Q2t (gK (J6 .u32)) (gSl gId))))
def FStmt (r:Rp F6):Rp F6:=((J8 (J6 .i64) (J8 Y1y (J8 (rSl F0) (J8 (rSl F0) (J8 (rSl F0) (J8 (rSl Q1r) (J8 (rSl r) (J8 (rSl r) (rSl (X2v r))))))))))).iso fun x=>(x.Kind,x.Pos,x.A,x.B,x.C,x.Var,x.Body,x.Else,x.Cases)
def Q7l:Rp F6:=rFix FStmt 10 true (fun _=>rfl)
theorem gStmt:Z9y FStmt:=gIso _ (Q2t (gK (J6 .i64)) (Q2t (gK Y1y) (Q2t (gK (rSl F0)) (Q2t (gK (rSl F0)) (Q2t (gK (rSl F0)) (Q2t (gK (rSl Q1r)) (Q2t (gSl gId) (Q2t (gSl gId) (gSl gFGCase)))))))))
def Z0j:Rp Q0o:=X2v Q7l
theorem Y2r {T:Nat→Prop} {w:World} {cs:List Value} {x:F6} (h:Q7l.rp T w cs x) : ∃(a3:Option Addr) (c3:Nat) (a4:Option Addr) (c4:Nat) (a5:Option Addr) (c5:Nat) (a6:Option Addr) (c6:Nat) (a7:Option Addr) (c7:Nat) (a8:Option Addr) (c8:Nat) (a9:Option Addr) (c9:Nat),cs = [.int .i64 x.Kind,.int .i64 x.Pos.Line,.int .i64 x.Pos.Col,.slice a3 (qQ x.A) c3,.slice a4 (qQ x.B) c4,.slice a5 (qQ x.C) c5,.slice a6 (qQ x.Var) c6,.slice a7 (qQ x.Body) c7,.slice a8 (qQ x.Else) c8,.slice a9 (qQ x.Cases) c9]∧SlR F0 T w (.slice a3 (qQ x.A) c3) x.A∧SlR F0 T w (.slice a4 (qQ x.B) c4) x.B∧SlR F0 T w (.slice a5 (qQ x.C) c5) x.C∧SlR Q1r T w (.slice a6 (qQ x.Var) c6) x.Var∧SlR Q7l T w (.slice a7 (qQ x.Body) c7) x.Body∧SlR Q7l T w (.slice a8 (qQ x.Else) c8) x.Else∧SlR Z0j T w (.slice a9 (qQ x.Cases) c9) x.Cases:=by
  have h:=Y4d gStmt h;obtain⟨_,_,rfl,W,g1⟩:=h;cases W;obtain⟨_,_,rfl,f2,g2⟩:=g1;cases Q2p f2;obtain⟨_,_,rfl,f3,g3⟩:=g2;obtain⟨_,rfl,D⟩:=f3;obtain⟨b4,k4,rfl⟩:=D.shape;obtain⟨_,_,rfl,f5,g5⟩:=g3;obtain⟨_,rfl,E⟩:=f5;obtain⟨b6,k6,rfl⟩:=E.shape;obtain⟨_,_,rfl,f7,g7⟩:=g5;obtain⟨_,rfl,I⟩:=f7;obtain⟨b8,k8,rfl⟩:=I.shape;obtain⟨_,_,rfl,f9,g9⟩:=g7;obtain⟨_,rfl,K⟩:=f9;obtain⟨au,av,rfl⟩:=K.shape;obtain⟨_,_,rfl,aw,ax⟩:=g9;obtain⟨_,rfl,O⟩:=aw;obtain⟨ay,az,rfl⟩:=O.shape;obtain⟨_,_,rfl,aA,aB⟩:=ax;obtain⟨_,rfl,U⟩:=aA;obtain⟨aC,aD,rfl⟩:=U.shape;obtain⟨_,rfl,V⟩:=aB;obtain⟨aE,aF,rfl⟩:=V.shape;exact⟨b4,k4,b6,k6,b8,k8,au,av,ay,az,aC,aD,aE,aF,rfl,D,E,I,K,O,U,V⟩
theorem Y6k {T:Nat→Prop} {w:World} {x:F6} {a3:Option Addr} {c3:Nat} {a4:Option Addr} {c4:Nat} {a5:Option Addr} {c5:Nat} {a6:Option Addr} {c6:Nat} {a7:Option Addr} {c7:Nat} {a8:Option Addr} {c8:Nat} {a9:Option Addr} {c9:Nat} (e0:SlR F0 T w (.slice a3 (qQ x.A) c3) x.A) (e1:SlR F0 T w (.slice a4 (qQ x.B) c4) x.B) (e2:SlR F0 T w (.slice a5 (qQ x.C) c5) x.C) (e3:SlR Q1r T w (.slice a6 (qQ x.Var) c6) x.Var) (e4:SlR Q7l T w (.slice a7 (qQ x.Body) c7) x.Body) (e5:SlR Q7l T w (.slice a8 (qQ x.Else) c8) x.Else) (e6:SlR Z0j T w (.slice a9 (qQ x.Cases) c9) x.Cases):Q7l.rp T w [.int .i64 x.Kind,.int .i64 x.Pos.Line,.int .i64 x.Pos.Col,.slice a3 (qQ x.A) c3,.slice a4 (qQ x.B) c4,.slice a5 (qQ x.C) c5,.slice a6 (qQ x.Var) c6,.slice a7 (qQ x.Body) c7,.slice a8 (qQ x.Else) c8,.slice a9 (qQ x.Cases) c9] x:=Y9o gStmt ⟨_,_,rfl,rfl,⟨_,_,rfl,Z1r,⟨_,_,rfl,⟨_,rfl,e0⟩,⟨_,_,rfl,⟨_,rfl,e1⟩,⟨_,_,rfl,⟨_,rfl,e2⟩,⟨_,_,rfl,⟨_,rfl,e3⟩,⟨_,_,rfl,⟨_,rfl,e4⟩,⟨_,_,rfl,⟨_,rfl,e5⟩,⟨_,rfl,e6⟩⟩⟩⟩⟩⟩⟩⟩⟩
theorem Y0r {T:Nat→Prop} {w:World} {cs:List Value} {x:Q0o} (h:Z0j.rp T w cs x) : ∃(a4:Option Addr) (c4:Nat),cs = [.int .i64 x.Pos.Line,.int .i64 x.Pos.Col,.bool x.Default,.int .u32 x.Num,.slice a4 (qQ x.Body) c4]∧SlR Q7l T w (.slice a4 (qQ x.Body) c4) x.Body:=by
  obtain⟨_,_,rfl,E,I⟩:=h;cases Q2p E;obtain⟨_,_,rfl,K,O⟩:=I;cases K;obtain⟨_,_,rfl,U,V⟩:=O;cases U;obtain⟨_,rfl,D⟩:=V;obtain⟨W,k4,rfl⟩:=D.shape;exact⟨W,k4,rfl,D⟩
theorem Y1m {T:Nat→Prop} {w:World} {x:Q0o} {a4:Option Addr} {c4:Nat} (e0:SlR Q7l T w (.slice a4 (qQ x.Body) c4) x.Body):Z0j.rp T w [.int .i64 x.Pos.Line,.int .i64 x.Pos.Col,.bool x.Default,.int .u32 x.Num,.slice a4 (qQ x.Body) c4] x:=⟨_,_,rfl,Z1r,⟨_,_,rfl,rfl,⟨_,_,rfl,rfl,⟨_,rfl,e0⟩⟩⟩⟩
def Z2v:Rp Q0n:=((J8 Y1y (J8 Z5c (J8 Y0n (J8 (rSl Q1r) (rSl Q7l)))))).iso fun x=>(x.Pos,x.Ret,x.Name,x.Params,x.Body)
theorem Z2g {T:Nat→Prop} {w:World} {cs:List Value} {x:Q0n} (h:Z2v.rp T w cs x) : ∃(a6:Option Addr) (c6:Nat) (a7:Option Addr) (c7:Nat),cs = [.int .i64 x.Pos.Line,.int .i64 x.Pos.Col,qZs x.Ret.Word,qZs x.Ret.Name,.int .i64 x.Ret.Stars,qZs x.Name,.slice a6 (qQ x.Params) c6,.slice a7 (qQ x.Body) c7]∧SlR Q1r T w (.slice a6 (qQ x.Params) c6) x.Params∧SlR Q7l T w (.slice a7 (qQ x.Body) c7) x.Body:=by
  obtain⟨_,_,rfl,I,K⟩:=h;cases Q2p I;obtain⟨_,_,rfl,O,U⟩:=K;cases Q8c O;obtain⟨_,_,rfl,V,W⟩:=U;cases V;obtain⟨_,_,rfl,f4,g4⟩:=W;obtain⟨_,rfl,D⟩:=f4;obtain⟨b5,k5,rfl⟩:=D.shape;obtain⟨_,rfl,E⟩:=g4;obtain⟨b6,k6,rfl⟩:=E.shape;exact⟨b5,k5,b6,k6,rfl,D,E⟩
theorem Y4p {T:Nat→Prop} {w:World} {x:Q0n} {a6:Option Addr} {c6:Nat} {a7:Option Addr} {c7:Nat} (e0:SlR Q1r T w (.slice a6 (qQ x.Params) c6) x.Params) (e1:SlR Q7l T w (.slice a7 (qQ x.Body) c7) x.Body):Z2v.rp T w [.int .i64 x.Pos.Line,.int .i64 x.Pos.Col,qZs x.Ret.Word,qZs x.Ret.Name,.int .i64 x.Ret.Stars,qZs x.Name,.slice a6 (qQ x.Params) c6,.slice a7 (qQ x.Body) c7] x:=⟨_,_,rfl,Z1r,⟨_,_,rfl,Z4x,⟨_,_,rfl,rfl,⟨_,_,rfl,⟨_,rfl,e0⟩,⟨_,rfl,e1⟩⟩⟩⟩⟩
def Y8d:Rp E3:=((J8 (rSl Q9j) (J8 (rSl Q1r) (rSl Z2v)))).iso fun x=>(x.Structs,x.Globals,x.Funcs)
theorem Y0q {T:Nat→Prop} {w:World} {cs:List Value} {x:E3} (h:Y8d.rp T w cs x) : ∃(a0:Option Addr) (c0:Nat) (a1:Option Addr) (c1:Nat) (a2:Option Addr) (c2:Nat),cs = [.slice a0 (qQ x.Structs) c0,.slice a1 (qQ x.Globals) c1,.slice a2 (qQ x.Funcs) c2]∧SlR Q9j T w (.slice a0 (qQ x.Structs) c0) x.Structs∧SlR Q1r T w (.slice a1 (qQ x.Globals) c1) x.Globals∧SlR Z2v T w (.slice a2 (qQ x.Funcs) c2) x.Funcs:=by
  obtain⟨_,_,rfl,I,K⟩:=h;obtain⟨_,rfl,s2⟩:=I;obtain⟨O,k2,rfl⟩:=s2.shape;obtain⟨_,_,rfl,U,V⟩:=K;obtain⟨_,rfl,D⟩:=U;obtain⟨W,k4,rfl⟩:=D.shape;obtain⟨_,rfl,E⟩:=V;obtain⟨b5,k5,rfl⟩:=E.shape;exact⟨O,k2,W,k4,b5,k5,rfl,s2,D,E⟩
theorem Y9c {T:Nat→Prop} {w:World} {x:E3} {a0:Option Addr} {c0:Nat} {a1:Option Addr} {c1:Nat} {a2:Option Addr} {c2:Nat} (e0:SlR Q9j T w (.slice a0 (qQ x.Structs) c0) x.Structs) (e1:SlR Q1r T w (.slice a1 (qQ x.Globals) c1) x.Globals) (e2:SlR Z2v T w (.slice a2 (qQ x.Funcs) c2) x.Funcs):Y8d.rp T w [.slice a0 (qQ x.Structs) c0,.slice a1 (qQ x.Globals) c1,.slice a2 (qQ x.Funcs) c2] x:=⟨_,_,rfl,⟨_,rfl,e0⟩,⟨_,_,rfl,⟨_,rfl,e1⟩,⟨_,rfl,e2⟩⟩⟩
def Y5d:Rp B0:=((J8 Y0n Y1y)).iso fun x=>(x.s,x.pos)
theorem Z3u {T:Nat→Prop} {w:World} {cs:List Value} {x:B0} (h:Y5d.rp T w cs x):cs = [qZs x.s,.int .i64 x.pos.Line,.int .i64 x.pos.Col]:=by
  obtain⟨_,_,rfl,D,E⟩:=h;cases D;cases Q2p E;exact rfl
theorem Y6l {T:Nat→Prop} {w:World} {x:B0}   : Y5d.rp T w [qZs x.s,.int .i64 x.pos.Line,.int .i64 x.pos.Col] x:=⟨_,_,rfl,rfl,Z1r⟩
def Q8u:Rp U1:=((J8 (J6 .i64) (J8 Y0n (J8 (J6 .u32) Y1y)))).iso fun x=>(x.Kind,x.Text,x.Num,x.Pos)
theorem Z7w {T:Nat→Prop} {w:World} {cs:List Value} {x:U1} (h:Q8u.rp T w cs x):cs = [.int .i64 x.Kind,qZs x.Text,.int .u32 x.Num,.int .i64 x.Pos.Line,.int .i64 x.Pos.Col]:=by
  obtain⟨_,_,rfl,D,E⟩:=h;cases D;obtain⟨_,_,rfl,I,K⟩:=E;cases I;obtain⟨_,_,rfl,O,U⟩:=K;cases O;cases Q2p U;exact rfl
theorem Y6n {T:Nat→Prop} {w:World} {x:U1}   : Q8u.rp T w [.int .i64 x.Kind,qZs x.Text,.int .u32 x.Num,.int .i64 x.Pos.Line,.int .i64 x.Pos.Col] x:=⟨_,_,rfl,rfl,⟨_,_,rfl,rfl,⟨_,_,rfl,rfl,Z1r⟩⟩⟩
def Y5b:Rp Z0:=((J8 (rSl Q8u) (J8 Y1y (J6 .i64)))).iso fun x=>(x.l,x.end_,x.depth)
theorem Z6v {T:Nat→Prop} {w:World} {cs:List Value} {x:Z0} (h:Y5b.rp T w cs x) : ∃(a0:Option Addr) (c0:Nat),cs = [.slice a0 (qQ x.l) c0,.int .i64 x.end_.Line,.int .i64 x.end_.Col,.int .i64 x.depth]∧SlR Q8u T w (.slice a0 (qQ x.l) c0) x.l:=by
  obtain⟨_,_,rfl,D,E⟩:=h;obtain⟨_,rfl,s2⟩:=D;obtain⟨I,k2,rfl⟩:=s2.shape;obtain⟨_,_,rfl,K,O⟩:=E;cases Q2p K;cases O;exact⟨I,k2,rfl,s2⟩
theorem Y6i {T:Nat→Prop} {w:World} {x:Z0} {a0:Option Addr} {c0:Nat} (e0:SlR Q8u T w (.slice a0 (qQ x.l) c0) x.l):Y5b.rp T w [.slice a0 (qQ x.l) c0,.int .i64 x.end_.Line,.int .i64 x.end_.Col,.int .i64 x.depth] x:=⟨_,_,rfl,⟨_,rfl,e0⟩,⟨_,_,rfl,Z1r,rfl⟩⟩
def Y3p:Rp Y2:=((J8 Y1y (J6 .i64))).iso fun x=>(x.pos,x.e)
theorem Z2s {T:Nat→Prop} {w:World} {cs:List Value} {x:Y2} (h:Y3p.rp T w cs x):cs = [.int .i64 x.pos.Line,.int .i64 x.pos.Col,.int .i64 x.e]:=by
  obtain⟨_,_,rfl,D,E⟩:=h;cases Q2p D;cases E;exact rfl
theorem Y5o {T:Nat→Prop} {w:World} {x:Y2}   : Y3p.rp T w [.int .i64 x.pos.Line,.int .i64 x.pos.Col,.int .i64 x.e] x:=⟨_,_,rfl,Z1r,rfl⟩
def Q3t:Rp Z3n:=((J8 Y0n (J8 (J6 .i64) (J8 (J6 .i64) (J6 .i64))))).iso fun x=>(x.Name,x.Size,x.Align,x.Cell)
theorem Y0p {T:Nat→Prop} {w:World} {cs:List Value} {x:Z3n} (h:Q3t.rp T w cs x):cs = [qZs x.Name,.int .i64 x.Size,.int .i64 x.Align,.int .i64 x.Cell]:=by
  obtain⟨_,_,rfl,D,E⟩:=h;cases D;obtain⟨_,_,rfl,I,K⟩:=E;cases I;obtain⟨_,_,rfl,O,U⟩:=K;cases O;cases U;exact rfl
theorem Y4o {T:Nat→Prop} {w:World} {x:Z3n}   : Q3t.rp T w [qZs x.Name,.int .i64 x.Size,.int .i64 x.Align,.int .i64 x.Cell] x:=⟨_,_,rfl,rfl,⟨_,_,rfl,rfl,⟨_,_,rfl,rfl,rfl⟩⟩⟩
def FGTerm (r:Rp Y5):Rp Y5:=((J8 (J6 .i64) (J8 (J6 .i64) (J8 (J6 .u32) (J8 (J6 .i64) (J8 Q3l (J8 (J6 .i64) (J8 Q3l (J8 Q3l (rSl r)))))))))).iso fun x=>(x.Kind,x.Fn,x.Num,x.Var,x.Global,x.Size,x.Post,x.Ptr,x.Kids)
def X6:Rp Y5:=rFix FGTerm 9 true (fun _=>rfl)
theorem gGTerm:Z9y FGTerm:=gIso _ (Q2t (gK (J6 .i64)) (Q2t (gK (J6 .i64)) (Q2t (gK (J6 .u32)) (Q2t (gK (J6 .i64)) (Q2t (gK Q3l) (Q2t (gK (J6 .i64)) (Q2t (gK Q3l) (Q2t (gK Q3l) (gSl gId)))))))))
theorem H0 {T:Nat→Prop} {w:World} {cs:List Value} {x:Y5} (h:X6.rp T w cs x) : ∃(a8:Option Addr) (c8:Nat),cs = [.int .i64 x.Kind,.int .i64 x.Fn,.int .u32 x.Num,.int .i64 x.Var,.bool x.Global,.int .i64 x.Size,.bool x.Post,.bool x.Ptr,.slice a8 (qQ x.Kids) c8]∧SlR X6 T w (.slice a8 (qQ x.Kids) c8) x.Kids:=by
  have h:=Y4d gGTerm h;obtain⟨_,_,rfl,E,I⟩:=h;cases E;obtain⟨_,_,rfl,K,O⟩:=I;cases K;obtain⟨_,_,rfl,U,V⟩:=O;cases U;obtain⟨_,_,rfl,W,g4⟩:=V;cases W;obtain⟨_,_,rfl,f5,g5⟩:=g4;cases f5;obtain⟨_,_,rfl,f6,g6⟩:=g5;cases f6;obtain⟨_,_,rfl,f7,g7⟩:=g6;cases f7;obtain⟨_,_,rfl,f8,g8⟩:=g7;cases f8;obtain⟨_,rfl,D⟩:=g8;obtain⟨b9,k9,rfl⟩:=D.shape;exact⟨b9,k9,rfl,D⟩
theorem V7 {T:Nat→Prop} {w:World} {x:Y5} {a8:Option Addr} {c8:Nat} (e0:SlR X6 T w (.slice a8 (qQ x.Kids) c8) x.Kids):X6.rp T w [.int .i64 x.Kind,.int .i64 x.Fn,.int .u32 x.Num,.int .i64 x.Var,.bool x.Global,.int .i64 x.Size,.bool x.Post,.bool x.Ptr,.slice a8 (qQ x.Kids) c8] x:=Y9o gGTerm ⟨_,_,rfl,rfl,⟨_,_,rfl,rfl,⟨_,_,rfl,rfl,⟨_,_,rfl,rfl,⟨_,_,rfl,rfl,⟨_,_,rfl,rfl,⟨_,_,rfl,rfl,⟨_,_,rfl,rfl,⟨_,rfl,e0⟩⟩⟩⟩⟩⟩⟩⟩⟩
def X0c (r:Rp U7):Rp Z3z:=((J8 Q3l (J8 (J6 .u32) (rSl r)))).iso fun x=>(x.Default,x.Num,x.Body)
theorem gFChoice:Z9y X0c:=gIso _ (Q2t (gK Q3l) (Q2t (gK (J6 .u32)) (gSl gId)))
def FGAct (r:Rp U7):Rp U7:=((J8 (J6 .i64) (J8 (rSl X6) (J8 (rSl X6) (J8 Q3l (J8 (rSl r) (J8 (rSl r) (J8 (rSl (X0c r)) (J6 .i64))))))))).iso fun x=>(x.Kind,x.A,x.Post,x.First,x.Body,x.Else,x.Cases,x.Var)
def C2:Rp U7:=rFix FGAct 8 true (fun _=>rfl)
theorem gGAct:Z9y FGAct:=gIso _ (Q2t (gK (J6 .i64)) (Q2t (gK (rSl X6)) (Q2t (gK (rSl X6)) (Q2t (gK Q3l) (Q2t (gSl gId) (Q2t (gSl gId) (Q2t (gSl gFChoice) (gK (J6 .i64)))))))))
def Q6l:Rp Z3z:=X0c C2
theorem Z5k {T:Nat→Prop} {w:World} {cs:List Value} {x:U7} (h:C2.rp T w cs x) : ∃(a1:Option Addr) (c1:Nat) (a2:Option Addr) (c2:Nat) (a4:Option Addr) (c4:Nat) (a5:Option Addr) (c5:Nat) (a6:Option Addr) (c6:Nat),cs = [.int .i64 x.Kind,.slice a1 (qQ x.A) c1,.slice a2 (qQ x.Post) c2,.bool x.First,.slice a4 (qQ x.Body) c4,.slice a5 (qQ x.Else) c5,.slice a6 (qQ x.Cases) c6,.int .i64 x.Var]∧SlR X6 T w (.slice a1 (qQ x.A) c1) x.A∧SlR X6 T w (.slice a2 (qQ x.Post) c2) x.Post∧SlR C2 T w (.slice a4 (qQ x.Body) c4) x.Body∧SlR C2 T w (.slice a5 (qQ x.Else) c5) x.Else∧SlR Q6l T w (.slice a6 (qQ x.Cases) c6) x.Cases:=by
  have h:=Y4d gGAct h;obtain⟨_,_,rfl,U,V⟩:=h;cases U;obtain⟨_,_,rfl,W,g2⟩:=V;obtain⟨_,rfl,D⟩:=W;obtain⟨b3,k3,rfl⟩:=D.shape;obtain⟨_,_,rfl,f4,g4⟩:=g2;obtain⟨_,rfl,E⟩:=f4;obtain⟨b5,k5,rfl⟩:=E.shape;obtain⟨_,_,rfl,f6,g6⟩:=g4;cases f6;obtain⟨_,_,rfl,f7,g7⟩:=g6;obtain⟨_,rfl,I⟩:=f7;obtain⟨b8,k8,rfl⟩:=I.shape;obtain⟨_,_,rfl,f9,g9⟩:=g7;obtain⟨_,rfl,K⟩:=f9;obtain⟨aq,ar,rfl⟩:=K.shape;obtain⟨_,_,rfl,au,av⟩:=g9;obtain⟨_,rfl,O⟩:=au;obtain⟨aw,ax,rfl⟩:=O.shape;cases av;exact⟨b3,k3,b5,k5,b8,k8,aq,ar,aw,ax,rfl,D,E,I,K,O⟩
theorem Q1s {T:Nat→Prop} {w:World} {x:U7} {a1:Option Addr} {c1:Nat} {a2:Option Addr} {c2:Nat} {a4:Option Addr} {c4:Nat} {a5:Option Addr} {c5:Nat} {a6:Option Addr} {c6:Nat} (e0:SlR X6 T w (.slice a1 (qQ x.A) c1) x.A) (e1:SlR X6 T w (.slice a2 (qQ x.Post) c2) x.Post) (e2:SlR C2 T w (.slice a4 (qQ x.Body) c4) x.Body) (e3:SlR C2 T w (.slice a5 (qQ x.Else) c5) x.Else) (e4:SlR Q6l T w (.slice a6 (qQ x.Cases) c6) x.Cases):C2.rp T w [.int .i64 x.Kind,.slice a1 (qQ x.A) c1,.slice a2 (qQ x.Post) c2,.bool x.First,.slice a4 (qQ x.Body) c4,.slice a5 (qQ x.Else) c5,.slice a6 (qQ x.Cases) c6,.int .i64 x.Var] x:=Y9o gGAct ⟨_,_,rfl,rfl,⟨_,_,rfl,⟨_,rfl,e0⟩,⟨_,_,rfl,⟨_,rfl,e1⟩,⟨_,_,rfl,rfl,⟨_,_,rfl,⟨_,rfl,e2⟩,⟨_,_,rfl,⟨_,rfl,e3⟩,⟨_,_,rfl,⟨_,rfl,e4⟩,rfl⟩⟩⟩⟩⟩⟩⟩
theorem Z2w {T:Nat→Prop} {w:World} {cs:List Value} {x:Z3z} (h:Q6l.rp T w cs x) : ∃(a2:Option Addr) (c2:Nat),cs = [.bool x.Default,.int .u32 x.Num,.slice a2 (qQ x.Body) c2]∧SlR C2 T w (.slice a2 (qQ x.Body) c2) x.Body:=by
  obtain⟨_,_,rfl,E,I⟩:=h;cases E;obtain⟨_,_,rfl,K,O⟩:=I;cases K;obtain⟨_,rfl,D⟩:=O;obtain⟨U,V,rfl⟩:=D.shape;exact⟨U,V,rfl,D⟩
theorem Y2t {T:Nat→Prop} {w:World} {x:Z3z} {a2:Option Addr} {c2:Nat} (e0:SlR C2 T w (.slice a2 (qQ x.Body) c2) x.Body):Q6l.rp T w [.bool x.Default,.int .u32 x.Num,.slice a2 (qQ x.Body) c2] x:=⟨_,_,rfl,rfl,⟨_,_,rfl,rfl,⟨_,rfl,e0⟩⟩⟩
def Q8v:Rp Q5s:=((J8 Y0n (J8 Q3l (J8 (J6 .i64) (J8 (rSl Q3t) (rSl C2)))))).iso fun x=>(x.Name,x.Void,x.Params,x.Slots,x.Body)
theorem Z0i {T:Nat→Prop} {w:World} {cs:List Value} {x:Q5s} (h:Q8v.rp T w cs x) : ∃(a3:Option Addr) (c3:Nat) (a4:Option Addr) (c4:Nat),cs = [qZs x.Name,.bool x.Void,.int .i64 x.Params,.slice a3 (qQ x.Slots) c3,.slice a4 (qQ x.Body) c4]∧SlR Q3t T w (.slice a3 (qQ x.Slots) c3) x.Slots∧SlR C2 T w (.slice a4 (qQ x.Body) c4) x.Body:=by
  obtain⟨_,_,rfl,I,K⟩:=h;cases I;obtain⟨_,_,rfl,O,U⟩:=K;cases O;obtain⟨_,_,rfl,V,W⟩:=U;cases V;obtain⟨_,_,rfl,f4,g4⟩:=W;obtain⟨_,rfl,D⟩:=f4;obtain⟨b5,k5,rfl⟩:=D.shape;obtain⟨_,rfl,E⟩:=g4;obtain⟨b6,k6,rfl⟩:=E.shape;exact⟨b5,k5,b6,k6,rfl,D,E⟩
theorem Z6y {T:Nat→Prop} {w:World} {x:Q5s} {a3:Option Addr} {c3:Nat} {a4:Option Addr} {c4:Nat} (e0:SlR Q3t T w (.slice a3 (qQ x.Slots) c3) x.Slots) (e1:SlR C2 T w (.slice a4 (qQ x.Body) c4) x.Body):Q8v.rp T w [qZs x.Name,.bool x.Void,.int .i64 x.Params,.slice a3 (qQ x.Slots) c3,.slice a4 (qQ x.Body) c4] x:=⟨_,_,rfl,rfl,⟨_,_,rfl,rfl,⟨_,_,rfl,rfl,⟨_,_,rfl,⟨_,rfl,e0⟩,⟨_,rfl,e1⟩⟩⟩⟩⟩
def rGUnit:Rp Q8k:=((J8 (rSl Q3t) (J8 (rSl (rSl (J6 .u8))) (J8 (rSl Q8v) (J6 .i64))))).iso fun x=>(x.Globals,x.Data,x.Codes,x.Main)
theorem Y5e {T:Nat→Prop} {w:World} {cs:List Value} {x:Q8k} (h:rGUnit.rp T w cs x) : ∃(a0:Option Addr) (c0:Nat) (a1:Option Addr) (c1:Nat) (a2:Option Addr) (c2:Nat),cs = [.slice a0 (qQ x.Globals) c0,.slice a1 (qQ x.Data) c1,.slice a2 (qQ x.Codes) c2,.int .i64 x.Main]∧SlR Q3t T w (.slice a0 (qQ x.Globals) c0) x.Globals∧SlR (rSl (J6 .u8)) T w (.slice a1 (qQ x.Data) c1) x.Data∧SlR Q8v T w (.slice a2 (qQ x.Codes) c2) x.Codes:=by
  obtain⟨_,_,rfl,I,K⟩:=h;obtain⟨_,rfl,s2⟩:=I;obtain⟨O,k2,rfl⟩:=s2.shape;obtain⟨_,_,rfl,U,V⟩:=K;obtain⟨_,rfl,D⟩:=U;obtain⟨W,k4,rfl⟩:=D.shape;obtain⟨_,_,rfl,f5,g5⟩:=V;obtain⟨_,rfl,E⟩:=f5;obtain⟨b6,k6,rfl⟩:=E.shape;cases g5;exact⟨O,k2,W,k4,b6,k6,rfl,s2,D,E⟩
theorem X3u {T:Nat→Prop} {w:World} {x:Q8k} {a0:Option Addr} {c0:Nat} {a1:Option Addr} {c1:Nat} {a2:Option Addr} {c2:Nat} (e0:SlR Q3t T w (.slice a0 (qQ x.Globals) c0) x.Globals) (e1:SlR (rSl (J6 .u8)) T w (.slice a1 (qQ x.Data) c1) x.Data) (e2:SlR Q8v T w (.slice a2 (qQ x.Codes) c2) x.Codes):rGUnit.rp T w [.slice a0 (qQ x.Globals) c0,.slice a1 (qQ x.Data) c1,.slice a2 (qQ x.Codes) c2,.int .i64 x.Main] x:=⟨_,_,rfl,⟨_,rfl,e0⟩,⟨_,_,rfl,⟨_,rfl,e1⟩,⟨_,_,rfl,⟨_,rfl,e2⟩,rfl⟩⟩⟩
def Q2q:Rp K5:=((J8 Y0n (J8 (J6 .i64) (J6 .i64)))).iso fun x=>(x.Name,x.Type_,x.At)
theorem Z4y {T:Nat→Prop} {w:World} {cs:List Value} {x:K5} (h:Q2q.rp T w cs x):cs = [qZs x.Name,.int .i64 x.Type_,.int .i64 x.At]:=by
  obtain⟨_,_,rfl,D,E⟩:=h;cases D;obtain⟨_,_,rfl,I,K⟩:=E;cases I;cases K;exact rfl
theorem Y2s {T:Nat→Prop} {w:World} {x:K5}   : Q2q.rp T w [qZs x.Name,.int .i64 x.Type_,.int .i64 x.At] x:=⟨_,_,rfl,rfl,⟨_,_,rfl,rfl,rfl⟩⟩
def X2h:Rp Q8l:=((J8 (J6 .i64) (J8 (J6 .i64) (J8 (J6 .i64) (J8 Y0n (rSl Q2q)))))).iso fun x=>(x.Kind,x.Elem,x.Len,x.Name,x.Fields)
theorem Y0o {T:Nat→Prop} {w:World} {cs:List Value} {x:Q8l} (h:X2h.rp T w cs x) : ∃(a4:Option Addr) (c4:Nat),cs = [.int .i64 x.Kind,.int .i64 x.Elem,.int .i64 x.Len,qZs x.Name,.slice a4 (qQ x.Fields) c4]∧SlR Q2q T w (.slice a4 (qQ x.Fields) c4) x.Fields:=by
  obtain⟨_,_,rfl,E,I⟩:=h;cases E;obtain⟨_,_,rfl,K,O⟩:=I;cases K;obtain⟨_,_,rfl,U,V⟩:=O;cases U;obtain⟨_,_,rfl,W,g4⟩:=V;cases W;obtain⟨_,rfl,D⟩:=g4;obtain⟨b5,k5,rfl⟩:=D.shape;exact⟨b5,k5,rfl,D⟩
theorem Y8c {T:Nat→Prop} {w:World} {x:Q8l} {a4:Option Addr} {c4:Nat} (e0:SlR Q2q T w (.slice a4 (qQ x.Fields) c4) x.Fields):X2h.rp T w [.int .i64 x.Kind,.int .i64 x.Elem,.int .i64 x.Len,qZs x.Name,.slice a4 (qQ x.Fields) c4] x:=⟨_,_,rfl,rfl,⟨_,_,rfl,rfl,⟨_,_,rfl,rfl,⟨_,_,rfl,rfl,⟨_,rfl,e0⟩⟩⟩⟩⟩
def P4:Rp K0:=((J8 X2h (J8 (J6 .i64) (J8 (J6 .i64) Q3l)))).iso fun x=>(x.Type_,x.size,x.align,x.open_)
theorem M9 {T:Nat→Prop} {w:World} {cs:List Value} {x:K0} (h:P4.rp T w cs x) : ∃(a4:Option Addr) (c4:Nat),cs = [.int .i64 x.Type_.Kind,.int .i64 x.Type_.Elem,.int .i64 x.Type_.Len,qZs x.Type_.Name,.slice a4 (qQ x.Type_.Fields) c4,.int .i64 x.size,.int .i64 x.align,.bool x.open_]∧SlR Q2q T w (.slice a4 (qQ x.Type_.Fields) c4) x.Type_.Fields:=by
  obtain⟨_,_,rfl,D,E⟩:=h;obtain⟨I,k2,rfl,s2⟩:=Y0o D;obtain⟨_,_,rfl,K,O⟩:=E;cases K;obtain⟨_,_,rfl,U,V⟩:=O;cases U;cases V;exact⟨I,k2,rfl,s2⟩
theorem Q1j {T:Nat→Prop} {w:World} {x:K0} {a4:Option Addr} {c4:Nat} (e0:SlR Q2q T w (.slice a4 (qQ x.Type_.Fields) c4) x.Type_.Fields):P4.rp T w [.int .i64 x.Type_.Kind,.int .i64 x.Type_.Elem,.int .i64 x.Type_.Len,qZs x.Type_.Name,.slice a4 (qQ x.Type_.Fields) c4,.int .i64 x.size,.int .i64 x.align,.bool x.open_] x:=⟨_,_,rfl,(Y8c e0),⟨_,_,rfl,rfl,⟨_,_,rfl,rfl,rfl⟩⟩⟩
def Y6m:Rp Z7:=((rSl P4)).iso fun x=>x.list
theorem Z8z {T:Nat→Prop} {w:World} {cs:List Value} {x:Z7} (h:Y6m.rp T w cs x) : ∃(a0:Option Addr) (c0:Nat),cs = [.slice a0 (qQ x.list) c0]∧SlR P4 T w (.slice a0 (qQ x.list) c0) x.list:=by
  obtain⟨_,rfl,s1⟩:=h;obtain⟨D,k1,rfl⟩:=s1.shape;exact⟨D,k1,rfl,s1⟩
theorem Y7n {T:Nat→Prop} {w:World} {x:Z7} {a0:Option Addr} {c0:Nat} (e0:SlR P4 T w (.slice a0 (qQ x.list) c0) x.list):Y6m.rp T w [.slice a0 (qQ x.list) c0] x:=⟨_,rfl,e0⟩
def Q4v:Rp M4:=((J8 (J6 .i64) (rSl (J6 .i64)))).iso fun x=>(x.ret,x.params)
theorem Q5y {T:Nat→Prop} {w:World} {cs:List Value} {x:M4} (h:Q4v.rp T w cs x) : ∃(a1:Option Addr) (c1:Nat),cs = [.int .i64 x.ret,.slice a1 (qQ x.params) c1]∧SlR (J6 .i64) T w (.slice a1 (qQ x.params) c1) x.params:=by
  obtain⟨_,_,rfl,D,E⟩:=h;cases D;obtain⟨_,rfl,s2⟩:=E;obtain⟨I,k2,rfl⟩:=s2.shape;exact⟨I,k2,rfl,s2⟩
theorem Z6m {T:Nat→Prop} {w:World} {x:M4} {a1:Option Addr} {c1:Nat} (e0:SlR (J6 .i64) T w (.slice a1 (qQ x.params) c1) x.params):Q4v.rp T w [.int .i64 x.ret,.slice a1 (qQ x.params) c1] x:=⟨_,_,rfl,rfl,⟨_,rfl,e0⟩⟩
def Y5g:Rp Y1:=((J8 (J6 .i64) (J8 X6 Q3l))).iso fun x=>(x.n,x.term,x.lies)
theorem Z6z {T:Nat→Prop} {w:World} {cs:List Value} {x:Y1} (h:Y5g.rp T w cs x) : ∃(a9:Option Addr) (c9:Nat),cs = [.int .i64 x.n,.int .i64 x.term.Kind,.int .i64 x.term.Fn,.int .u32 x.term.Num,.int .i64 x.term.Var,.bool x.term.Global,.int .i64 x.term.Size,.bool x.term.Post,.bool x.term.Ptr,.slice a9 (qQ x.term.Kids) c9,.bool x.lies]∧SlR X6 T w (.slice a9 (qQ x.term.Kids) c9) x.term.Kids:=by
  obtain⟨_,_,rfl,D,E⟩:=h;cases D;obtain⟨_,_,rfl,I,K⟩:=E;obtain⟨O,U,rfl,V⟩:=H0 I;cases K;exact⟨O,U,rfl,V⟩
theorem Y6o {T:Nat→Prop} {w:World} {x:Y1} {a9:Option Addr} {c9:Nat} (e0:SlR X6 T w (.slice a9 (qQ x.term.Kids) c9) x.term.Kids):Y5g.rp T w [.int .i64 x.n,.int .i64 x.term.Kind,.int .i64 x.term.Fn,.int .u32 x.term.Num,.int .i64 x.term.Var,.bool x.term.Global,.int .i64 x.term.Size,.bool x.term.Post,.bool x.term.Ptr,.slice a9 (qQ x.term.Kids) c9,.bool x.lies] x:=⟨_,_,rfl,rfl,⟨_,_,rfl,(V7 e0),rfl⟩⟩
def Y2h:Rp Z4:=((J8 Y1y (J6 .i64))).iso fun x=>(x.pos,x.e)
theorem Z1x {T:Nat→Prop} {w:World} {cs:List Value} {x:Z4} (h:Y2h.rp T w cs x):cs = [.int .i64 x.pos.Line,.int .i64 x.pos.Col,.int .i64 x.e]:=by
  obtain⟨_,_,rfl,D,E⟩:=h;cases Q2p D;cases E;exact rfl
theorem Y4q {T:Nat→Prop} {w:World} {x:Z4}   : Y2h.rp T w [.int .i64 x.pos.Line,.int .i64 x.pos.Col,.int .i64 x.e] x:=⟨_,_,rfl,Z1r,rfl⟩
def X0u:Rp Z3g:=((J8 (rSl (J6 .u32)) (J8 (J6 .i64) (J8 (J6 .u32) (J6 .i64))))).iso fun x=>(x.Out,x.Ins,x.Exit,x.E)
theorem Y2g {T:Nat→Prop} {w:World} {cs:List Value} {x:Z3g} (h:X0u.rp T w cs x) : ∃(a0:Option Addr) (c0:Nat),cs = [.slice a0 (qQ x.Out) c0,.int .i64 x.Ins,.int .u32 x.Exit,.int .i64 x.E]∧SlR (J6 .u32) T w (.slice a0 (qQ x.Out) c0) x.Out:=by
  obtain⟨_,_,rfl,D,I⟩:=h;obtain⟨_,rfl,s2⟩:=D;obtain⟨K,k2,rfl⟩:=s2.shape;obtain⟨_,_,rfl,O,U⟩:=I;cases O;obtain⟨_,_,rfl,V,W⟩:=U;cases V;cases W;exact⟨K,k2,rfl,s2⟩
theorem X0t {T:Nat→Prop} {w:World} {x:Z3g} {a0:Option Addr} {c0:Nat} (e0:SlR (J6 .u32) T w (.slice a0 (qQ x.Out) c0) x.Out):X0u.rp T w [.slice a0 (qQ x.Out) c0,.int .i64 x.Ins,.int .u32 x.Exit,.int .i64 x.E] x:=⟨_,_,rfl,⟨_,rfl,e0⟩,⟨_,_,rfl,rfl,⟨_,_,rfl,rfl,rfl⟩⟩⟩
def Y5c:Rp A1:=((J8 (rSl (J6 .u8)) (rSl Q3l))).iso fun x=>(x.data,x.set_)
theorem Z6w {T:Nat→Prop} {w:World} {cs:List Value} {x:A1} (h:Y5c.rp T w cs x) : ∃(a0:Option Addr) (c0:Nat) (a1:Option Addr) (c1:Nat),cs = [.slice a0 (qQ x.data) c0,.slice a1 (qQ x.set_) c1]∧SlR (J6 .u8) T w (.slice a0 (qQ x.data) c0) x.data∧SlR Q3l T w (.slice a1 (qQ x.set_) c1) x.set_:=by
  obtain⟨_,_,rfl,E,I⟩:=h;obtain⟨_,rfl,s2⟩:=E;obtain⟨K,k2,rfl⟩:=s2.shape;obtain⟨_,rfl,D⟩:=I;obtain⟨O,U,rfl⟩:=D.shape;exact⟨K,k2,O,U,rfl,s2,D⟩
theorem Y6j {T:Nat→Prop} {w:World} {x:A1} {a0:Option Addr} {c0:Nat} {a1:Option Addr} {c1:Nat} (e0:SlR (J6 .u8) T w (.slice a0 (qQ x.data) c0) x.data) (e1:SlR Q3l T w (.slice a1 (qQ x.set_) c1) x.set_):Y5c.rp T w [.slice a0 (qQ x.data) c0,.slice a1 (qQ x.set_) c1] x:=⟨_,_,rfl,⟨_,rfl,e0⟩,⟨_,rfl,e1⟩⟩
def Q5x:Rp X9:=((J8 (J6 .i64) (J8 (J6 .i64) (J8 (J6 .i64) (J6 .i64))))).iso fun x=>(x.Obj,x.Lo,x.Hi,x.Off)
theorem Z2u {T:Nat→Prop} {w:World} {cs:List Value} {x:X9} (h:Q5x.rp T w cs x):cs = [.int .i64 x.Obj,.int .i64 x.Lo,.int .i64 x.Hi,.int .i64 x.Off]:=by
  obtain⟨_,_,rfl,D,E⟩:=h;cases D;obtain⟨_,_,rfl,I,K⟩:=E;cases I;obtain⟨_,_,rfl,O,U⟩:=K;cases O;cases U;exact rfl
theorem Z7v {T:Nat→Prop} {w:World} {x:X9}   : Q5x.rp T w [.int .i64 x.Obj,.int .i64 x.Lo,.int .i64 x.Hi,.int .i64 x.Off] x:=⟨_,_,rfl,rfl,⟨_,_,rfl,rfl,⟨_,_,rfl,rfl,rfl⟩⟩⟩
def A9:Rp Y4:=((J8 (J6 .u32) (J8 Q5x Q3l))).iso fun x=>(x.Num,x.Ptr,x.Is)
theorem Z3t {T:Nat→Prop} {w:World} {cs:List Value} {x:Y4} (h:A9.rp T w cs x):cs = [.int .u32 x.Num,.int .i64 x.Ptr.Obj,.int .i64 x.Ptr.Lo,.int .i64 x.Ptr.Hi,.int .i64 x.Ptr.Off,.bool x.Is]:=by
  obtain⟨_,_,rfl,D,E⟩:=h;cases D;obtain⟨_,_,rfl,I,K⟩:=E;cases Z2u I;cases K;exact rfl
theorem Z2t {T:Nat→Prop} {w:World} {x:Y4}   : A9.rp T w [.int .u32 x.Num,.int .i64 x.Ptr.Obj,.int .i64 x.Ptr.Lo,.int .i64 x.Ptr.Hi,.int .i64 x.Ptr.Off,.bool x.Is] x:=⟨_,_,rfl,rfl,⟨_,_,rfl,Z7v,rfl⟩⟩
def Q6u (x:X9):Value := .agg #[.int .i64 x.Obj,.int .i64 x.Lo,.int .i64 x.Hi,.int .i64 x.Off]
def Y2i:En (Option (List ((List UInt8)×Int))) where
  sz:=1
  A:=fun x cs=>exA fun t:(Option Nat)=>pA (cs = [.map (t)]) (Y6 [Z5l Y1j (Value.int .i64) (.map (t)) x])
  len:=fun h=>by obtain⟨t,h,_⟩:=h; subst h; rfl
  one:=fun h c hc=>by obtain⟨t,h,_⟩:=h; subst h; exact(List.all_eq_true (p:=Value.oneCell')).1 rfl c hc
def K4:En (J0) where
  sz:=4
  A:=fun x cs=>exA fun t:(Option Addr)×Nat×Nat×(Option Addr)×Nat×Nat×(Option Nat)=>pA (cs = [.slice (t.1) (t.2.1) (t.2.2.1),.slice (t.2.2.2.1) (t.2.2.2.2.1) (t.2.2.2.2.2.1),.map (t.2.2.2.2.2.2),.bool x.gone]) (Y6 [J2 (J6 .u8) 5 (.slice (t.1) (t.2.1) (t.2.2.1)) x.bytes.data,J2 Q3l 4 (.slice (t.2.2.2.1) (t.2.2.2.2.1) (t.2.2.2.2.2.1)) x.bytes.set_,Z5l (Value.int .i64) Q6u (.map (t.2.2.2.2.2.2)) x.ptrs])
  len:=fun h=>by obtain⟨t,h,_⟩:=h; subst h; rfl
  one:=fun h c hc=>by obtain⟨t,h,_⟩:=h; subst h; exact(List.all_eq_true (p:=Value.oneCell')).1 rfl c hc
def U5:En (J7) where
  sz:=6
  A:=fun x cs=>exA fun t:(Option Addr)×Nat×Nat×(Option Addr)×Nat×Nat×(Option Addr)×Nat×Nat=>pA (cs = [.int .i64 x.ret,.slice (t.1) (t.2.1) (t.2.2.1),.slice (t.2.2.2.1) (t.2.2.2.2.1) (t.2.2.2.2.2.1),.slice (t.2.2.2.2.2.2.1) (t.2.2.2.2.2.2.2.1) (t.2.2.2.2.2.2.2.2),.int .i64 x.loops,.int .i64 x.breaks]) (Y6 [J2 Q3t 94 (.slice (t.1) (t.2.1) (t.2.2.1)) x.slots,J2 (J6 .i64) 3 (.slice (t.2.2.2.1) (t.2.2.2.2.1) (t.2.2.2.2.2.1)) x.types,Q9w Y2i 80 (.slice (t.2.2.2.2.2.2.1) (t.2.2.2.2.2.2.2.1) (t.2.2.2.2.2.2.2.2)) x.scopes])
  len:=fun h=>by obtain⟨t,h,_⟩:=h; subst h; rfl
  one:=fun h c hc=>by obtain⟨t,h,_⟩:=h; subst h; exact(List.all_eq_true (p:=Value.oneCell')).1 rfl c hc
abbrev Z5g (p:E3) (H1:List Value→Y9) (a1:Option Addr) (n1:Nat) (c1:Nat) (a2:Option Addr) (n2:Nat) (c2:Nat) (a3:Option Addr) (n3:Nat) (c3:Nat):List Y9 := [H1 [.slice a1 n1 c1,.slice a2 n2 c2,.slice a3 n3 c3],J2 Q9j 168 (.slice a1 n1 c1) p.Structs,J2 Q1r 132 (.slice a2 n2 c2) p.Globals,J2 Z2v 136 (.slice a3 n3 c3) p.Funcs]
abbrev X3 (p:Q0) (H1 H2:List Value→Y9) (b1:Nat) (o1:Nat) (a1:Option Addr) (n1:Nat) (c1:Nat) (a2:Option Addr) (n2:Nat) (c2:Nat) (a3:Option Addr) (n3:Nat) (c3:Nat) (a4:Option Addr) (n4:Nat) (c4:Nat) (r1:Option Nat) (r2:Option Nat) (a5:Option Addr) (n5:Nat) (c5:Nat) (a6:Option Addr) (n6:Nat) (c6:Nat) (pv1:Value):List Y9 := [H1 [.pointer (some ⟨b1,o1,none⟩),.slice a2 n2 c2,.slice a3 n3 c3,.slice a4 n4 c4,.int .i64 p.u.Main,.map r1,.map r2,.slice a5 n5 c5,.slice a6 n6 c6,pv1],H2 [.slice a1 n1 c1],J2 P4 123 (.slice a1 n1 c1) p.t.list,J2 Q3t 94 (.slice a2 n2 c2) p.u.Globals,J2 (rSl (J6 .u8)) 99 (.slice a3 n3 c3) p.u.Data,J2 Q8v 103 (.slice a4 n4 c4) p.u.Codes,Z5l Y1j (Value.int .i64) (.map r1) p.globals,Z5l Y1j (Value.int .i64) (.map r2) p.codes,J2 (J6 .i64) 3 (.slice a5 n5 c5) p.gtypes,J2 Q4v 186 (.slice a6 n6 c6) p.signs]
abbrev Z5s (p:J7) (H1:List Value→Y9) (a1:Option Addr) (n1:Nat) (c1:Nat) (a2:Option Addr) (n2:Nat) (c2:Nat) (a3:Option Addr) (n3:Nat) (c3:Nat):List Y9 := [H1 [.int .i64 p.ret,.slice a1 n1 c1,.slice a2 n2 c2,.slice a3 n3 c3,.int .i64 p.loops,.int .i64 p.breaks],J2 Q3t 94 (.slice a1 n1 c1) p.slots,J2 (J6 .i64) 3 (.slice a2 n2 c2) p.types,Q9w Y2i 80 (.slice a3 n3 c3) p.scopes]
abbrev K9 (p:Z1) (H1 H2:List Value→Y9) (a1:Option Addr) (c1:Nat) (a2:Option Addr) (c2:Nat) (a3:Option Addr) (c3:Nat) (b1:Nat) (o1:Nat) (a4:Option Addr) (n1:Nat) (c4:Nat) (a5:Option Addr) (c5:Nat) (a6:Option Addr) (n2:Nat) (c6:Nat) (a7:Option Addr) (c7:Nat):List Y9 := [H1 [.slice a1 (qQ p.u.Globals) c1,.slice a2 (qQ p.u.Data) c2,.slice a3 (qQ p.u.Codes) c3,.int .i64 p.u.Main,.pointer (some ⟨b1,o1,none⟩),.slice a5 (qQ p.inputs) c5,.slice a6 n2 c6,.int .i64 p.out.Ins,.int .u32 p.out.Exit,.int .i64 p.out.E,.int .i64 p.fuel,.int .i64 p.deep,.slice a7 (qQ p.vars) c7,.int .u32 p.ret.Num,.int .i64 p.ret.Ptr.Obj,.int .i64 p.ret.Ptr.Lo,.int .i64 p.ret.Ptr.Hi,.int .i64 p.ret.Ptr.Off,.bool p.ret.Is],H2 [.slice a4 n1 c4],Q9w K4 145 (.slice a4 n1 c4) p.mem.list,J2 (J6 .u32) 33 (.slice a6 n2 c6) p.out.Out]
abbrev Z8i (p:J0) (H1:List Value→Y9) (a1:Option Addr) (n1:Nat) (c1:Nat) (a2:Option Addr) (n2:Nat) (c2:Nat) (r1:Option Nat):List Y9 := [H1 [.slice a1 n1 c1,.slice a2 n2 c2,.map r1,.bool p.gone],J2 (J6 .u8) 5 (.slice a1 n1 c1) p.bytes.data,J2 Q3l 4 (.slice a2 n2 c2) p.bytes.set_,Z5l (Value.int .i64) Q6u (.map r1) p.ptrs]
theorem Sep.sE {g:World} {T:Nat→Prop} {w:World} {L:List Y9} (h:Sep g T w L) (ix:List Nat) (hx:Y4t (J3 L) ix=true:=by exact rfl):Sep g T w (Z6u L ix):=h.sel ix hx
theorem Sep.bE {g:World} {T:Nat→Prop} {w:World} {L:List Y9} (h:Sep g T w L) (rest ix:List Nat) (hx:Y4t (J3 L) (ix++rest)=true:=by exact rfl):Sep g T w (Y6 (Z6u L rest)::Z6u L ix):=h.bun rest ix hx
abbrev Cl:=Calls Tryz.prog
abbrev CF (n:Nat):=Z3h Tryz.prog n
theorem cfm {n : Nat} {fn : Func} (h : Tryz.prog.funcs[n]? = some fn) (a : (fn.name == "runtime.NumGoroutine") = false := by kernel_rfl) (b : fn.body.isNone = false := by kernel_rfl) : CF n := ⟨fn, h, a, b⟩
abbrev Ct (n:Nat) {C:Prop} (_:C):=Ctr Tryz.prog n C
theorem cf6:CF 6:=cfm func6
theorem cf7:CF 7:=cfm func7
theorem cf8:CF 8:=cfm func8
theorem cf11:CF 11:=cfm func11
theorem cf12:CF 12:=cfm func12
theorem cf13:CF 13:=cfm func13
theorem cf14:CF 14:=cfm func14
theorem cf15:CF 15:=cfm func15
theorem cf16:CF 16:=cfm func16
theorem cf17:CF 17:=cfm func17
theorem cf18:CF 18:=cfm func18
theorem cf19:CF 19:=cfm func19
theorem cf20:CF 20:=cfm func20
theorem cf21:CF 21:=cfm func21
theorem cf22:CF 22:=cfm func22
theorem cf23:CF 23:=cfm func23
theorem cf24:CF 24:=cfm func24
theorem cf25:CF 25:=cfm func25
theorem cf26:CF 26:=cfm func26
theorem cf27:CF 27:=cfm func27
theorem cf28:CF 28:=cfm func28
theorem cf29:CF 29:=cfm func29
theorem cf30:CF 30:=cfm func30
theorem cf31:CF 31:=cfm func31
theorem cf32:CF 32:=cfm func32
theorem cf33:CF 33:=cfm func33
theorem cf34:CF 34:=cfm func34
theorem cf35:CF 35:=cfm func35
theorem cf36:CF 36:=cfm func36
theorem cf37:CF 37:=cfm func37
theorem cf38:CF 38:=cfm func38
theorem cf39:CF 39:=cfm func39
theorem cf40:CF 40:=cfm func40
theorem cf41:CF 41:=cfm func41
theorem cf42:CF 42:=cfm func42
theorem cf43:CF 43:=cfm func43
theorem cf44:CF 44:=cfm func44
theorem cf45:CF 45:=cfm func45
theorem cf46:CF 46:=cfm func46
theorem cf47:CF 47:=cfm func47
theorem cf48:CF 48:=cfm func48
theorem cf49:CF 49:=cfm func49
theorem cf50:CF 50:=cfm func50
theorem cf51:CF 51:=cfm func51
theorem cf52:CF 52:=cfm func52
theorem cf53:CF 53:=cfm func53
theorem cf54:CF 54:=cfm func54
theorem cf55:CF 55:=cfm func55
theorem cf56:CF 56:=cfm func56
theorem cf57:CF 57:=cfm func57
theorem Z6q:CF 58:=cfm func58
theorem cf59:CF 59:=cfm func59
theorem cf60:CF 60:=cfm func60
theorem cf61:CF 61:=cfm func61
theorem cf62:CF 62:=cfm func62
theorem cf63:CF 63:=cfm func63
theorem cf64:CF 64:=cfm func64
theorem cf65:CF 65:=cfm func65
theorem cf66:CF 66:=cfm func66
theorem cf67:CF 67:=cfm func67
theorem cf68:CF 68:=cfm func68
theorem cf69:CF 69:=cfm func69
theorem cf70:CF 70:=cfm func70
theorem cf71:CF 71:=cfm func71
theorem cf72:CF 72:=cfm func72
theorem cf73:CF 73:=cfm func73
theorem cf74:CF 74:=cfm func74
theorem Y2y:CF 75:=cfm func75
theorem cf76:CF 76:=cfm func76
theorem cf77:CF 77:=cfm func77
theorem cf78:CF 78:=cfm func78
theorem cf79:CF 79:=cfm func79
theorem cf80:CF 80:=cfm func80
theorem cf81:CF 81:=cfm func81
theorem cf82:CF 82:=cfm func82
theorem cf83:CF 83:=cfm func83
theorem cf84:CF 84:=cfm func84
theorem cf85:CF 85:=cfm func85
theorem cf87:CF 87:=cfm func87
theorem cf88:CF 88:=cfm func88
theorem Z5a:CF 89:=cfm func89
theorem cf90:CF 90:=cfm func90
theorem cf91:CF 91:=cfm func91
theorem cf92:CF 92:=cfm func92
theorem cf93:CF 93:=cfm func93
theorem Y2x:CF 94:=cfm func94
theorem cf95:CF 95:=cfm func95
theorem cf96:CF 96:=cfm func96
theorem cf97:CF 97:=cfm func97
theorem cf98:CF 98:=cfm func98
theorem cf99:CF 99:=cfm func99
theorem cf100:CF 100:=cfm func100
theorem cf101:CF 101:=cfm func101
theorem cf102:CF 102:=cfm func102
theorem cf103:CF 103:=cfm func103
theorem Z1i:CF 104:=cfm func104
theorem cf105:CF 105:=cfm func105
theorem cf106:CF 106:=cfm func106
theorem Z4v:CF 107:=cfm func107
theorem M7:CF 108:=cfm func108
theorem Y2m:CF 109:=cfm func109
theorem cf110:CF 110:=cfm func110
theorem cf111:CF 111:=cfm func111
theorem cf112:CF 112:=cfm func112
theorem cf113:CF 113:=cfm func113
theorem cf114:CF 114:=cfm func114
theorem cf115:CF 115:=cfm func115
theorem cf116:CF 116:=cfm func116
theorem cf117:CF 117:=cfm func117
theorem cf118:CF 118:=cfm func118
theorem cf119:CF 119:=cfm func119
theorem cf120:CF 120:=cfm func120
theorem cf121:CF 121:=cfm func121
theorem X1r:CF 126:=cfm func126
theorem cf127:CF 127:=cfm func127
theorem cf128:CF 128:=cfm func128
theorem Y8s:CF 129:=cfm func129
theorem Y7e:CF 130:=cfm func130
theorem cf131:CF 131:=cfm func131
theorem X1q:CF 132:=cfm func132
theorem X1p:CF 133:=cfm func133
theorem cf134:CF 134:=cfm func134
theorem cf135:CF 135:=cfm func135
theorem cf136:CF 136:=cfm func136
theorem cf137:CF 137:=cfm func137
theorem cf138:CF 138:=cfm func138
theorem cf139:CF 139:=cfm func139
theorem Y7d:CF 140:=cfm func140
theorem cf141:CF 141:=cfm func141
theorem cf142:CF 142:=cfm func142
theorem cf143:CF 143:=cfm func143
theorem cf144:CF 144:=cfm func144
theorem Y8r:CF 145:=cfm func145
theorem Q1c:CF 146:=cfm func146
theorem Y8q:CF 147:=cfm func147
theorem X1o:CF 148:=cfm func148
theorem cf149:CF 149:=cfm func149
theorem Y8p:CF 150:=cfm func150
theorem cf151:CF 151:=cfm func151
theorem cf152:CF 152:=cfm func152
theorem cf153:CF 153:=cfm func153
theorem cf154:CF 154:=cfm func154
theorem cf155:CF 155:=cfm func155
theorem Y5m:CF 156:=cfm func156
theorem cf157:CF 157:=cfm func157
theorem cf158:CF 158:=cfm func158
theorem cf159:CF 159:=cfm func159
theorem cf160:CF 160:=cfm func160
theorem cf161:CF 161:=cfm func161
theorem cf162:CF 162:=cfm func162
theorem cf163:CF 163:=cfm func163
theorem cf164:CF 164:=cfm func164
theorem cf165:CF 165:=cfm func165
theorem cf166:CF 166:=cfm func166
theorem Q0d:CF 169:=cfm func169
theorem cf170:CF 170:=cfm func170
theorem cf171:CF 171:=cfm func171
theorem cf172:CF 172:=cfm func172
theorem cf173:CF 173:=cfm func173
theorem cf174:CF 174:=cfm func174
theorem cf175:CF 175:=cfm func175
theorem cf176:CF 176:=cfm func176
theorem cf177:CF 177:=cfm func177
theorem cf178:CF 178:=cfm func178
theorem cf179:CF 179:=cfm func179
theorem cf180:CF 180:=cfm func180
theorem Y8o:CF 181:=cfm func181
theorem cf182:CF 182:=cfm func182
theorem cf183:CF 183:=cfm func183
theorem cf184:CF 184:=cfm func184
theorem cf185:CF 185:=cfm func185
theorem cf186:CF 186:=cfm func186
theorem cf187:CF 187:=cfm func187
theorem Y5l:CF 188:=cfm func188
theorem X1n:CF 189:=cfm func189
theorem cf190:CF 190:=cfm func190
theorem cf191:CF 191:=cfm func191
theorem cf192:CF 192:=cfm func192
theorem cf193:CF 193:=cfm func193
theorem cf194:CF 194:=cfm func194
theorem cf195:CF 195:=cfm func195
theorem cf196:CF 196:=cfm func196
theorem cf197:CF 197:=cfm func197
theorem cf198:CF 198:=cfm func198
theorem cf199:CF 199:=cfm func199
theorem cf200:CF 200:=cfm func200
theorem cf201:CF 201:=cfm func201
theorem cf202:CF 202:=cfm func202
theorem cf203:CF 203:=cfm func203
theorem cf204:CF 204:=cfm func204
theorem cf205:CF 205:=cfm func205
theorem cf206:CF 206:=cfm func206
theorem cf207:CF 207:=cfm func207
theorem cf208:CF 208:=cfm func208
theorem cf209:CF 209:=cfm func209
theorem cf210:CF 210:=cfm func210
theorem cf211:CF 211:=cfm func211
theorem cf212:CF 212:=cfm func212
theorem cf213:CF 213:=cfm func213
theorem cf214:CF 214:=cfm func214
theorem cf215:CF 215:=cfm func215
theorem cf216:CF 216:=cfm func216
theorem el3:L1 Tryz.prog 3 1:=⟨by kernel_rfl,by decide⟩
theorem el4:L1 Tryz.prog 4 1:=⟨by kernel_rfl,by decide⟩
theorem el5:L1 Tryz.prog 5 1:=⟨by kernel_rfl,by decide⟩
theorem el33:L1 Tryz.prog 33 1:=⟨by kernel_rfl,by decide⟩
theorem el59:L1 Tryz.prog 59 4:=⟨by kernel_rfl,by decide⟩
theorem el61:L1 Tryz.prog 61 6:=⟨by kernel_rfl,by decide⟩
theorem el80:L1 Tryz.prog 80 1:=⟨by kernel_rfl,by decide⟩
theorem el94:L1 Tryz.prog 94 4:=⟨by kernel_rfl,by decide⟩
theorem el99:L1 Tryz.prog 99 1:=⟨by kernel_rfl,by decide⟩
theorem el103:L1 Tryz.prog 103 5:=⟨by kernel_rfl,by decide⟩
theorem el114:L1 Tryz.prog 114 5:=⟨by kernel_rfl,by decide⟩
theorem el123:L1 Tryz.prog 123 8:=⟨by kernel_rfl,by decide⟩
theorem el132:L1 Tryz.prog 132 9:=⟨by kernel_rfl,by decide⟩
theorem el136:L1 Tryz.prog 136 8:=⟨by kernel_rfl,by decide⟩
theorem el145:L1 Tryz.prog 145 4:=⟨by kernel_rfl,by decide⟩
theorem el155:L1 Tryz.prog 155 8:=⟨by kernel_rfl,by decide⟩
theorem el168:L1 Tryz.prog 168 4:=⟨by kernel_rfl,by decide⟩
theorem el178:L1 Tryz.prog 178 3:=⟨by kernel_rfl,by decide⟩
theorem el186:L1 Tryz.prog 186 2:=⟨by kernel_rfl,by decide⟩
theorem el197:L1 Tryz.prog 197 9:=⟨by kernel_rfl,by decide⟩
theorem el208:L1 Tryz.prog 208 10:=⟨by kernel_rfl,by decide⟩
theorem el212:L1 Tryz.prog 212 10:=⟨by kernel_rfl,by decide⟩
theorem el236:L1 Tryz.prog 236 3:=⟨by kernel_rfl,by decide⟩
theorem el274:L1 Tryz.prog 274 5:=⟨by kernel_rfl,by decide⟩
theorem mix:Tryz.prog.follows .mixedOrders=true:=by kernel_rfl
attribute [local irreducible] N2 S0 execOp Program.underlying sizeOf isAgg zeroValue
/-! Steps that find by themselves what they need. -/
theorem tyU {t:TypeId} {d:TypeDesc} (h:Tryz.prog.underlying t=some d:=by first | exact Tryz.underlying152 | exact Tryz.underlying130 | exact Tryz.underlying66 | exact Tryz.underlying153 | exact Tryz.underlying208 | exact Tryz.underlying71 | exact Tryz.underlying226 | exact Tryz.underlying85 | exact Tryz.underlying197 | exact Tryz.underlying9 | exact Tryz.underlying63 | exact Tryz.underlying44 | exact Tryz.underlying212 | exact Tryz.underlying81 | exact Tryz.underlying132 | exact Tryz.underlying82 | exact Tryz.underlying155 | exact Tryz.underlying100 | exact Tryz.underlying210 | exact Tryz.underlying190 | exact Tryz.underlying99 | exact Tryz.underlying124 | exact Tryz.underlying59 | exact Tryz.underlying57 | exact Tryz.underlying101 | exact Tryz.underlying33 | exact Tryz.underlying45 | exact Tryz.underlying121 | exact Tryz.underlying119 | exact Tryz.underlying25 | exact Tryz.underlying61 | exact Tryz.underlying123 | exact Tryz.underlying136 | exact Tryz.underlying145 | exact Tryz.underlying36 | exact Tryz.underlying274 | exact Tryz.underlying22 | exact Tryz.underlying126 | exact Tryz.underlying114 | exact Tryz.underlying80 | exact Tryz.underlying29 | exact Tryz.underlying110 | exact Tryz.underlying47 | exact Tryz.underlying43 | exact Tryz.underlying178 | exact Tryz.underlying21 | exact Tryz.underlying27 | exact Tryz.underlying5 | exact Tryz.underlying186 | exact Tryz.underlying90 | exact Tryz.underlying92 | exact Tryz.underlying3 | exact Tryz.underlying140 | exact Tryz.underlying142 | exact Tryz.underlying134 | exact Tryz.underlying188 | exact Tryz.underlying78 | exact Tryz.underlying129 | exact Tryz.underlying2 | exact Tryz.underlying168 | exact Tryz.underlying4 | exact Tryz.underlying103 | exact Tryz.underlying199 | exact Tryz.underlying143 | exact Tryz.underlying94 | exact Tryz.underlying26 | exact Tryz.underlying55 | exact Tryz.underlying236 | exact Tryz.underlying49 | exact Tryz.underlying76 | exact Tryz.underlying89 | exact Tryz.underlying283 | exact Tryz.underlying72 | exact Tryz.underlying83 | exact Tryz.underlying86 | exact Tryz.underlying203):Tryz.prog.underlying t=some d:=h
theorem tyS {t:TypeId} {z:Nat} (h : ∀ w,(sizeOf t).run Tryz.prog w = .ok z w:=by first | exact Tryz.sizeOf208 | exact Tryz.sizeOf197 | exact Tryz.sizeOf61 | exact Tryz.sizeOf3 | exact Tryz.sizeOf226 | exact Tryz.sizeOf49 | exact Tryz.sizeOf114 | exact Tryz.sizeOf155 | exact Tryz.sizeOf236 | exact Tryz.sizeOf59 | exact Tryz.sizeOf132 | exact Tryz.sizeOf274 | exact Tryz.sizeOf212 | exact Tryz.sizeOf130 | exact Tryz.sizeOf9 | exact Tryz.sizeOf33 | exact Tryz.sizeOf36 | exact Tryz.sizeOf4 | exact Tryz.sizeOf136 | exact Tryz.sizeOf186 | exact Tryz.sizeOf86 | exact Tryz.sizeOf178 | exact Tryz.sizeOf29 | exact Tryz.sizeOf152 | exact Tryz.sizeOf78 | exact Tryz.sizeOf121 | exact Tryz.sizeOf123 | exact Tryz.sizeOf94 | exact Tryz.sizeOf129 | exact Tryz.sizeOf5 | exact Tryz.sizeOf103 | exact Tryz.sizeOf134 | exact Tryz.sizeOf66 | exact Tryz.sizeOf47 | exact Tryz.sizeOf101 | exact Tryz.sizeOf168 | exact Tryz.sizeOf83 | exact Tryz.sizeOf44 | exact Tryz.sizeOf124 | exact Tryz.sizeOf81 | exact Tryz.sizeOf25 | exact Tryz.sizeOf80 | exact Tryz.sizeOf142 | exact Tryz.sizeOf90 | exact Tryz.sizeOf22 | exact Tryz.sizeOf153 | exact Tryz.sizeOf55 | exact Tryz.sizeOf34 | exact Tryz.sizeOf57 | exact Tryz.sizeOf188 | exact Tryz.sizeOf82 | exact Tryz.sizeOf99 | exact Tryz.sizeOf143 | exact Tryz.sizeOf45 | exact Tryz.sizeOf27 | exact Tryz.sizeOf145 | exact Tryz.sizeOf72 | exact Tryz.sizeOf119 | exact Tryz.sizeOf89 | exact Tryz.sizeOf43 | exact Tryz.sizeOf26 | exact Tryz.sizeOf203 | exact Tryz.sizeOf210 | exact Tryz.sizeOf140 | exact Tryz.sizeOf76) : ∀ w,(sizeOf t).run Tryz.prog w = .ok z w:=h
theorem tyA {t:TypeId} {z:Bool} (h : ∀ w,(isAgg t).run Tryz.prog w = .ok z w:=by first | exact Tryz.isAgg208 | exact Tryz.isAgg61 | exact Tryz.isAgg197 | exact Tryz.isAgg3 | exact Tryz.isAgg226 | exact Tryz.isAgg155 | exact Tryz.isAgg49 | exact Tryz.isAgg59 | exact Tryz.isAgg212 | exact Tryz.isAgg130 | exact Tryz.isAgg114 | exact Tryz.isAgg274 | exact Tryz.isAgg78 | exact Tryz.isAgg132 | exact Tryz.isAgg9 | exact Tryz.isAgg86 | exact Tryz.isAgg33 | exact Tryz.isAgg69 | exact Tryz.isAgg4 | exact Tryz.isAgg77 | exact Tryz.isAgg152 | exact Tryz.isAgg136 | exact Tryz.isAgg129 | exact Tryz.isAgg29 | exact Tryz.isAgg178 | exact Tryz.isAgg66 | exact Tryz.isAgg83 | exact Tryz.isAgg55 | exact Tryz.isAgg124 | exact Tryz.isAgg47 | exact Tryz.isAgg44 | exact Tryz.isAgg25 | exact Tryz.isAgg90 | exact Tryz.isAgg101 | exact Tryz.isAgg103 | exact Tryz.isAgg134 | exact Tryz.isAgg186 | exact Tryz.isAgg153 | exact Tryz.isAgg34 | exact Tryz.isAgg80 | exact Tryz.isAgg81 | exact Tryz.isAgg99 | exact Tryz.isAgg5 | exact Tryz.isAgg94 | exact Tryz.isAgg82 | exact Tryz.isAgg57 | exact Tryz.isAgg22 | exact Tryz.isAgg45 | exact Tryz.isAgg121 | exact Tryz.isAgg188 | exact Tryz.isAgg27 | exact Tryz.isAgg168 | exact Tryz.isAgg36 | exact Tryz.isAgg123 | exact Tryz.isAgg143 | exact Tryz.isAgg26 | exact Tryz.isAgg72 | exact Tryz.isAgg43 | exact Tryz.isAgg140 | exact Tryz.isAgg119 | exact Tryz.isAgg203 | exact Tryz.isAgg210 | exact Tryz.isAgg236) : ∀ w,(isAgg t).run Tryz.prog w = .ok z w:=h
theorem tyZ {t:TypeId} {z:Value} (h : ∀ w,(zeroValue t).run Tryz.prog w = .ok z w:=by first | exact Tryz.zeroValue197 | exact Tryz.zeroValue226 | exact Tryz.zeroValue208 | exact Tryz.zeroValue61 | exact Tryz.zeroValue36 | exact Tryz.zeroValue155 | exact Tryz.zeroValue3 | exact Tryz.zeroValue59 | exact Tryz.zeroValue132 | exact Tryz.zeroValue121 | exact Tryz.zeroValue136 | exact Tryz.zeroValue49 | exact Tryz.zeroValue114 | exact Tryz.zeroValue33 | exact Tryz.zeroValue212 | exact Tryz.zeroValue168 | exact Tryz.zeroValue178 | exact Tryz.zeroValue29 | exact Tryz.zeroValue274 | exact Tryz.zeroValue47 | exact Tryz.zeroValue94 | exact Tryz.zeroValue186 | exact Tryz.zeroValue5 | exact Tryz.zeroValue103 | exact Tryz.zeroValue4 | exact Tryz.zeroValue89 | exact Tryz.zeroValue129 | exact Tryz.zeroValue123 | exact Tryz.zeroValue236 | exact Tryz.zeroValue80 | exact Tryz.zeroValue145 | exact Tryz.zeroValue203 | exact Tryz.zeroValue72 | exact Tryz.zeroValue76 | exact Tryz.zeroValue99 | exact Tryz.zeroValue101 | exact Tryz.zeroValue86) : ∀ w,(zeroValue t).run Tryz.prog w = .ok z w:=h
theorem opnS {α : Type} {r:Rp α} {T:Nat→Prop} {w:World} {u : α} {cs:List Value} (h : ∀ c0,r.rp T w c0 u→c0=cs:=by first | exact fun _ h=>h | exact fun _ h=>Q2p h | exact fun _ h=>Q8c h | exact fun _ h=>Z3u h | exact fun _ h=>Z7w h | exact fun _ h=>Z2s h | exact fun _ h=>Y0p h | exact fun _ h=>Z4y h | exact fun _ h=>Z1x h | exact fun _ h=>Z2u h | exact fun _ h=>Z3t h) : ∀ c0,r.rp T w c0 u→c0=cs:=h
theorem lsS {α : Type} {x y:List α} (h:x=y:=by first | exact(rfl:_ = [_]) | exact(rfl:_ = [_,_]) | exact(rfl:_ = [_,_,_]) | exact(rfl:_ = [_,_,_,_]) | exact(rfl:_ = [_,_,_,_,_]) | exact(rfl:_ = [_,_,_,_,_,_]) | exact(rfl:_ = [_,_,_,_,_,_,_]) | exact(rfl:_ = [_,_,_,_,_,_,_,_]) | exact(rfl:_ = [_,_,_,_,_,_,_,_,_]) | exact(rfl:_ = [_,_,_,_,_,_,_,_,_,_]) | exact(rfl:_ = [_,_,_,_,_,_,_,_,_,_,_]) | exact(rfl:_ = [_,_,_,_,_,_,_,_,_,_,_,_]) | exact(rfl:_ = [_,_,_,_,_,_,_,_,_,_,_,_,_]) | exact(rfl:_ = [_,_,_,_,_,_,_,_,_,_,_,_,_,_]) | exact(rfl:_ = [_,_,_,_,_,_,_,_,_,_,_,_,_,_,_]) | exact(rfl:_ = [_,_,_,_,_,_,_,_,_,_,_,_,_,_,_,_]) | exact(rfl:_ = [_,_,_,_,_,_,_,_,_,_,_,_,_,_,_,_,_])):x=y:=h
theorem lsZ {α : Type} {x y:List α} (h:x=y:=by first | exact(rfl:_ = []) | exact(rfl:_ = [_]) | exact(rfl:_ = [_,_]) | exact(rfl:_ = [_,_,_]) | exact(rfl:_ = [_,_,_,_]) | exact(rfl:_ = [_,_,_,_,_]) | exact(rfl:_ = [_,_,_,_,_,_]) | exact(rfl:_ = [_,_,_,_,_,_,_]) | exact(rfl:_ = [_,_,_,_,_,_,_,_]) | exact(rfl:_ = [_,_,_,_,_,_,_,_,_]) | exact(rfl:_ = [_,_,_,_,_,_,_,_,_,_]) | exact(rfl:_ = [_,_,_,_,_,_,_,_,_,_,_]) | exact(rfl:_ = [_,_,_,_,_,_,_,_,_,_,_,_]) | exact(rfl:_ = [_,_,_,_,_,_,_,_,_,_,_,_,_]) | exact(rfl:_ = [_,_,_,_,_,_,_,_,_,_,_,_,_,_]) | exact(rfl:_ = [_,_,_,_,_,_,_,_,_,_,_,_,_,_,_])):x=y:=h
theorem opv {P:Program} {n:NF} {J:Nat→Value} {L:List (Nat×Value)} {w:World} {o:Oper} {v:Value} (h:(execOp (ev n J L) o).run P w = .ok (.value v) w:=by
  first | ((with_reducible apply Z1k); first | exact(rfl:_=Value.int _ _) | exact(rfl:_=Value.bool _) | exact(rfl:_=Value.slice _ _ _) | exact(rfl:_=Value.pointer _) | exact(rfl:_=Value.string _) | exact(rfl:_=Value.agg _) | exact(rfl:_=Value.func _ _ _) | exact(rfl:_=Value.tuple _) | exact(rfl:_=Value.map _)) | ((with_reducible apply Y4n); first | exact(rfl:_=Value.int _ _) | exact(rfl:_=Value.bool _) | exact(rfl:_=Value.slice _ _ _) | exact(rfl:_=Value.pointer _) | exact(rfl:_=Value.string _) | exact(rfl:_=Value.agg _) | exact(rfl:_=Value.func _ _ _) | exact(rfl:_=Value.tuple _) | exact(rfl:_=Value.map _)) | ((with_reducible apply r_ib); (exact rfl); (exact rfl); (exact rfl)) | ((with_reducible apply r_faP); (exact rfl); (exact tyU); (exact rfl); (exact tyS); (exact rfl)) | ((with_reducible apply r_fa); (exact rfl); (exact tyU); (exact rfl); (exact tyS); (exact rfl)) | ((with_reducible apply Z2r); (exact rfl); (exact tyA); (first | exact Sep.cell0 (by assumption) atS (by exact rfl) | exact cellsAt.get (by assumption) (by exact rfl) | exact cellsAt.get0 (by assumption) (by exact rfl) | exact elG Y2q (by assumption) (by exact rfl) opnS (by exact rfl) | exact elG0 Y2q (by assumption) (by exact rfl) opnS (by exact rfl) | exact Sep.cellL (by assumption) (by assumption) atS (by exact rfl) | exact Sep.cellL0 (by assumption) (by assumption) atS (by exact rfl) | exact cellsAt.get (cellsAt.sameT (by assumption) (by assumption) ch) (by exact rfl) | exact cellsAt.get0 (cellsAt.sameT (by assumption) (by assumption) ch) (by exact rfl))) | ((with_reducible apply Y5a); (exact rfl); (first | assumption | exact rfl); (exact rfl)) | ((with_reducible apply Y4z); (exact rfl); (first | assumption | exact rfl); (exact rfl)) | ((with_reducible apply r_ex0); (exact rfl)) | ((with_reducible apply r_ex1); (exact rfl)) | ((with_reducible apply r_ex2); (exact rfl)) | ((with_reducible apply r_ex3); (exact rfl)) | ((with_reducible apply r_ixc); (exact rfl); (exact rfl); (exact tyU); (exact tyS); (exact Y2q); (exact rfl); (assumption)) | ((with_reducible apply r_ixf); (assumption); (exact rfl); (exact tyU); (exact tyS); (assumption); (assumption); (assumption)) | ((with_reducible apply r_ixv); (assumption); (assumption); (exact atS); (exact rfl); (exact rfl); (exact tyU); (exact tyS); (exact rfl); (assumption)) | ((with_reducible apply r_ldE); (exact rfl); (exact tyA); (exact tyS); (first | assumption | exact Sep.cellsA (by assumption) atS | exact elS Y2q (by assumption) (by exact rfl) opnS | exact Sep.cellsP (by assumption) (by assumption) atS | exact cellsAt.sameT (by assumption) (by assumption) ch); (exact rfl)) | ((with_reducible apply r_ldP); (exact rfl); (exact tyA); (exact tyS); (assumption); (exact atS); (exact lsS); (exact rfl)) | ((with_reducible apply r_cv); (exact rfl); (exact tyU); (exact tyU)) | ((with_reducible apply r_lnt); (exact rfl); (exact tyU)) | ((with_reducible apply r_lnW); (exact rfl); (exact tyU); (exact Y2q)) | ((with_reducible apply r_lnN); (assumption); (exact atS); (exact rfl); (exact tyU)) | ((with_reducible apply r_ln); (exact rfl); (exact tyU)) | ((with_reducible apply r_sqL); (exact rfl); (exact rfl)) | ((with_reducible apply r_snL); (exact rfl); (exact rfl)) | ((with_reducible apply r_nt); (exact rfl)) | ((with_reducible apply r_nc); (exact rfl)) | ((with_reducible apply r_ng); (exact rfl)) | ((with_reducible apply r_cm); (exact rfl)) | ((with_reducible apply Y9b); (exact rfl); (exact rfl); (decide)) | ((with_reducible apply Y6h); (exact rfl); (exact rfl); (decide)) | ((with_reducible apply r_irm); (exact rfl); (exact rfl); (decide)) | ((with_reducible apply r_iq); (exact rfl); (exact rfl); (decide))):(execOp (ev n J L) o).run P w = .ok (.value v) w:=h
theorem opq {P:Program} {n:NF} {J:Nat→Value} {L:List (Nat×Value)} {w:World} {o:Oper} {v:Value} (h:(execOp (ev n J L) o).run P w = .ok (.value v) w:=by
  first | ((with_reducible apply Z1k); first | exact(rfl:_=Value.int _ _) | exact(rfl:_=Value.bool _) | exact(rfl:_=Value.slice _ _ _) | exact(rfl:_=Value.pointer _) | exact(rfl:_=Value.string _) | exact(rfl:_=Value.agg _) | exact(rfl:_=Value.func _ _ _) | exact(rfl:_=Value.tuple _) | exact(rfl:_=Value.map _)) | ((with_reducible apply Y4n); first | exact(rfl:_=Value.int _ _) | exact(rfl:_=Value.bool _) | exact(rfl:_=Value.slice _ _ _) | exact(rfl:_=Value.pointer _) | exact(rfl:_=Value.string _) | exact(rfl:_=Value.agg _) | exact(rfl:_=Value.func _ _ _) | exact(rfl:_=Value.tuple _) | exact(rfl:_=Value.map _)) | ((with_reducible apply r_ib); (exact rfl); (exact rfl); (exact rfl)) | ((with_reducible apply r_faP); (exact rfl); (exact tyU); (exact rfl); (exact tyS); (exact rfl)) | ((with_reducible apply r_fa); (exact rfl); (exact tyU); (exact rfl); (exact tyS); (exact rfl)) | ((with_reducible apply Z2r); (exact rfl); (exact tyA); (apply QC.cell; assumption; (first | exact Sep.cell0 (by assumption) atS (by exact rfl) | exact cellsAt.get (by assumption) (by exact rfl) | exact cellsAt.get0 (by assumption) (by exact rfl) | exact elG Y2q (by assumption) (by exact rfl) opnS (by exact rfl) | exact elG0 Y2q (by assumption) (by exact rfl) opnS (by exact rfl) | exact Sep.cellL (by assumption) (by assumption) atS (by exact rfl) | exact Sep.cellL0 (by assumption) (by assumption) atS (by exact rfl) | exact cellsAt.get (cellsAt.sameT (by assumption) (by assumption) ch) (by exact rfl) | exact cellsAt.get0 (cellsAt.sameT (by assumption) (by assumption) ch) (by exact rfl)))) | ((with_reducible apply Y5a); (exact rfl); (first | assumption | exact rfl); (exact rfl)) | ((with_reducible apply Y4z); (exact rfl); (first | assumption | exact rfl); (exact rfl)) | ((with_reducible apply r_ex0); (exact rfl)) | ((with_reducible apply r_ex1); (exact rfl)) | ((with_reducible apply r_ex2); (exact rfl)) | ((with_reducible apply r_ex3); (exact rfl)) | ((with_reducible apply r_ixc); (exact rfl); (exact rfl); (exact tyU); (exact tyS); (exact Y2q); (exact rfl); (assumption)) | ((with_reducible apply r_ixf); (assumption); (exact rfl); (exact tyU); (exact tyS); (assumption); (assumption); (assumption)) | ((with_reducible apply r_ixv); (assumption); (assumption); (exact atS); (exact rfl); (exact rfl); (exact tyU); (exact tyS); (exact rfl); (assumption)) | ((with_reducible apply r_ldE); (exact rfl); (exact tyA); (exact tyS); (apply QC.cellsAt; assumption; (first | assumption | exact Sep.cellsA (by assumption) atS | exact elS Y2q (by assumption) (by exact rfl) opnS | exact Sep.cellsP (by assumption) (by assumption) atS | exact cellsAt.sameT (by assumption) (by assumption) ch)); (exact rfl)) | ((with_reducible apply r_ldP); (exact rfl); (exact tyA); (exact tyS); (assumption); (exact atS); (exact lsS); (exact rfl)) | ((with_reducible apply r_cv); (exact rfl); (exact tyU); (exact tyU)) | ((with_reducible apply r_lnt); (exact rfl); (exact tyU)) | ((with_reducible apply r_lnW); (exact rfl); (exact tyU); (exact Y2q)) | ((with_reducible apply r_lnN); (assumption); (exact atS); (exact rfl); (exact tyU)) | ((with_reducible apply r_ln); (exact rfl); (exact tyU)) | ((with_reducible apply r_sqL); (exact rfl); (exact rfl)) | ((with_reducible apply r_snL); (exact rfl); (exact rfl)) | ((with_reducible apply r_nt); (exact rfl)) | ((with_reducible apply r_nc); (exact rfl)) | ((with_reducible apply r_ng); (exact rfl)) | ((with_reducible apply r_cm); (exact rfl)) | ((with_reducible apply Y9b); (exact rfl); (exact rfl); (decide)) | ((with_reducible apply Y6h); (exact rfl); (exact rfl); (decide)) | ((with_reducible apply r_irm); (exact rfl); (exact rfl); (decide)) | ((with_reducible apply r_iq); (exact rfl); (exact rfl); (decide))):(execOp (ev n J L) o).run P w = .ok (.value v) w:=h
theorem gwS {l:List Oper} {n:NF} {J:Nat→Value} {L:List (Nat×Value)} {gd:Option (Nat×Bool)} (h:Wt l n J L gd:=by first | exact qZt | exact⟨_,rfl,congrArg Value.bool (by assumption)⟩ | exact⟨_,rfl,rfl⟩):Wt l n J L gd:=h
theorem gUS {l:List Oper} {n:NF} {J:Nat→Value} {L:List (Nat×Value)} {gd:Option (Nat×Bool)} (h:Wf l n J L gd:=by first | exact gI rfl rfl (by assumption) | exact gI rfl rfl rfl | exact⟨_,rfl,.inr rfl⟩):Wf l n J L gd:=h
theorem stS {P:Program} {l:List Oper} {n:NF} {J:Nat→Value} {L:List (Nat×Value)} {w:World} {pd:List (Nat×Value)} (h:Z3e P l pd (env n J L) w:=by repeat (first | exact st0 | refine st1 rfl opv ?_)):Z3e P l pd (env n J L) w:=h
theorem pu {A B:Prop} (k:B) (h:Kp B→A:=by
  intro k
  repeat (first | with_reducible refine rg ?_ | ((with_reducible apply pv); (exact opv)) | ((with_reducible apply gT); (exact rfl); (exact rfl); (first | assumption | exact rfl)) | ((with_reducible apply gF); (exact rfl); (exact rfl); (first | assumption | exact rfl)) | ((with_reducible apply gU); (exact rfl); (exact rfl)) | ((with_reducible apply s0a); (exact rfl); (exact rfl); (exact gwS); (intro _; exact opv)) | ((with_reducible apply sUa); (exact rfl); (exact gUS)) | ((with_reducible apply s1a); (exact rfl); (exact rfl); (exact gwS); (exact opv)) | ((with_reducible apply And.intro); (exact stS)) | ((with_reducible apply qv); (intro _ _; exact opq)) | ((with_reducible apply qgT); (exact rfl); (exact rfl); (first | assumption | exact rfl)) | ((with_reducible apply qgF); (exact rfl); (exact rfl); (first | assumption | exact rfl)) | ((with_reducible apply qgU); (exact rfl); (exact rfl)) | ((with_reducible apply t0a); (exact rfl); (exact rfl); (exact rfl); (exact gwS); (intro _; exact opv)) | ((with_reducible apply tUa); (exact rfl); (exact rfl); (exact gUS); (kernel_rfl)) | ((with_reducible apply t1a); (exact rfl); (exact rfl); (exact rfl); (exact gwS); (exact opv)))
  exact k.out):A:=h ⟨k⟩
theorem pn {A B:Prop} (k:B) (h:Kp B→A:=by
  intro k
  repeat (first | with_reducible refine rg ?_ | ((with_reducible apply pv); (exact opv)) | ((with_reducible apply gT); (exact rfl); (exact rfl); (first | assumption | exact rfl)) | ((with_reducible apply gF); (exact rfl); (exact rfl); (first | assumption | exact rfl)) | ((with_reducible apply gU); (exact rfl); (exact rfl)) | ((with_reducible apply s0a); (exact rfl); (exact rfl); (exact gwS); (intro _; exact opv)) | ((with_reducible apply sUa); (exact rfl); (exact gUS)) | ((with_reducible apply s1a); (exact rfl); (exact rfl); (exact gwS); (exact opv)) | ((with_reducible apply And.intro); (exact stS)) | ((with_reducible apply qv); (intro _ _; exact opq)) | ((with_reducible apply qgT); (exact rfl); (exact rfl); (first | assumption | exact rfl)) | ((with_reducible apply qgF); (exact rfl); (exact rfl); (first | assumption | exact rfl)) | ((with_reducible apply qgU); (exact rfl); (exact rfl)) | ((with_reducible apply t0a); (exact rfl); (exact rfl); (exact rfl); (exact gwS); (intro _; exact opv)) | ((with_reducible apply tUa); (exact rfl); (exact rfl); (exact gUS); (kernel_rfl)) | ((with_reducible apply t1a); (exact rfl); (exact rfl); (exact rfl); (exact gwS); (exact opv)) | with_reducible refine nil ?_ | with_reducible refine Y6c ?_ | with_reducible refine t_blk ?_ | with_reducible refine se ?_ | with_reducible refine seP ?_ | with_reducible refine te ?_ | with_reducible refine teP ?_ | with_reducible refine qn ?_ | with_reducible refine skp ?_ | with_reducible refine xt ?_ | with_reducible refine x_then ?_ | with_reducible refine x_eq ?_ | with_reducible refine x_ne (by decide) ?_ | with_reducible refine rtn ?_ | with_reducible refine r_then ?_ | with_reducible refine r_blk ?_)
  exact k.out):A:=h ⟨k⟩
theorem cd {A B1 B2:Prop} {α : Type} {b:Bool} {X Y Z : α} (hm:(bif b then X else Y)=Z) (h1:B1) (h2:B2) (h:(bif b then X else Y)=Z→Kp B1→Kp B2→A:=by
  intro hm k1 k2
  refine pn ?_
  exact cndH rfl hm k1.out k2.out):A:=h hm ⟨h1⟩ ⟨h2⟩
theorem t1W {A B:Prop} (js R ks:List Nat) (k:B) (h:KN js→KN R→KN ks→Kp B→A:=by
  intro a b c k
  refine pu ?_
  refine twK a rfl (wt_of rfl rfl gwS) rfl (by kernel_rfl) (by kernel_rfl) ⟨?_,qZt⟩
  refine brK b c rfl (by kernel_rfl) (by kernel_rfl) gwS (by kernel_rfl) ?_
  exact k.out):A:=h ⟨qZt⟩ ⟨qZt⟩ ⟨qZt⟩ ⟨k⟩
theorem tF {A B:Prop} (js:List Nat) (k:B) (h:KN js→Kp B→A:=by
  intro a k
  refine pu ?_
  refine twK a rfl (wt_of rfl rfl gwS) rfl (by kernel_rfl) (by kernel_rfl) ?_
  exact k.out):A:=h ⟨qZt⟩ ⟨k⟩
theorem brW {A B:Prop} (R ks:List Nat) (k:B) (h:KN R→KN ks→Kp B→A:=by
  intro b c k
  refine brK b c rfl (by kernel_rfl) (by kernel_rfl) gwS (by kernel_rfl) ?_
  exact k.out):A:=h ⟨qZt⟩ ⟨qZt⟩ ⟨k⟩
theorem s2W {A B:Prop} (ks:List Nat) (k:B) (h:KN ks→Kp B→A:=by
  intro c k
  refine pu ?_
  refine s2K c rfl gwS rfl (by kernel_rfl) ?_
  exact k.out):A:=h ⟨qZt⟩ ⟨k⟩
theorem je {A F:Prop} {g:World} {T:Nat→Prop} {w:World} {G:List Y9} (hm:F) (S:Sep g T w G) (h:F→Kp (Sep g T w G)→A:=by
  intro hm S
  refine pn ?_
  repeat' (first | with_reducible apply Exists.intro | with_reducible apply And.intro | exact hm | exact Y1z | exact S.out | exact ch | exact Y6u | ((apply X1b) <;> assumption) | exact qZt | assumption | exact Y6s (by assumption) ch | exact X7)):A:=h hm ⟨S⟩
theorem lg {A N:Prop} {α : Type} {x z : α} {g:World} {T:Nat→Prop} {w:World} {G:List Y9} (hm:some x=some z) (hn:N) (S:Sep g T w G) (h:some x=some z→N→Kp (Sep g T w G)→A:=by
  intro hm hn S
  cases oI hm
  refine pn ?_
  refine⟨_,Nat.lt_succ_self _,?_⟩
  repeat' (first | with_reducible apply Exists.intro | with_reducible apply And.intro | exact hn | exact Y1z | exact S.out | exact ch | exact Y6u | ((apply X1b) <;> assumption) | exact qZt | assumption | exact Y6s (by assumption) ch | exact X7)):A:=h hm hn ⟨S⟩
theorem rvsS {n:NF} {J:Nat→Value} {L:List (Nat×Value)} {w:World} {rs:List ResultVar} {vs:List Value} (h:RVs Tryz.prog n J L w rs vs:=by repeat (first | exact rv0 | (apply rvT; (exact rfl)) | (apply rvC; (exact rfl); (exact tyA); (exact Sep.bx (by assumption) atS)) | (apply rvG; (exact rfl); (exact tyA); (exact tyS); (exact Sep.bx (by assumption) atS); (exact rfl)))):RVs Tryz.prog n J L w rs vs:=h
theorem re {A:Prop} {α : Type} {x z : α} {g:World} {T:Nat→Prop} {w:World} {G:List Y9} (hm:some x=some z) (S:Sep g T w G) (h:some x=some z→Kp (Sep g T w G)→A:=by
  intro hm S
  cases oI hm
  refine pn ?_
  first | refine ret1 rfl rfl ?_ | refine ret0 rfl ?_ | refine ret2 rfl rfl rfl ?_ | (apply retN; (exact rfl); (exact rvsS); (exact rfl))
  refine rsm S.out ch ?_
  repeat' (first | with_reducible apply Exists.intro | with_reducible apply And.intro | exact rfl | exact S.out.unb | exact Y6u | ((apply X1b) <;> assumption) | exact qZt | assumption | exact Y6s (by assumption) ch | exact X7)):A:=h hm ⟨S⟩
theorem sS {A B H1 H2:Prop} (l:List (Nat×Value)) (a:H1) (b:H2) (k:B) (h:Kl l→H1→H2→Kp B→A:=by
  intro l a b k
  refine pu ?_
  refine s2k l rfl gwS rfl (by kernel_rfl) ?_
  exact calS a rfl b rfl k.out):A:=h ⟨qZt⟩ a b ⟨k⟩
theorem sN {A B H1 H2:Prop} (l:List (Nat×Value)) (a:H1) (b:H2) (k:B) (h:Kl l→H1→H2→Kp B→A:=by
  intro l a b k
  refine pu ?_
  refine s2k l rfl gwS rfl (by kernel_rfl) ?_
  exact calN a rfl b rfl k.out):A:=h ⟨qZt⟩ a b ⟨k⟩
theorem osT {A B:Prop} (q:Nat) {g:World} {T:Nat→Prop} {w:World} {G:List Y9} (hS:Sep g T w G) (k:B) (h:Kq q→Sep g T w G→Kp B→A:=by
  intro q hS k
  exact ost q hS tyS k.out):A:=h ⟨qZt⟩ hS ⟨k⟩
theorem osB {A B:Prop} (q j:Nat) {b o:Nat} {H:List Value→Y9} (hL:Ln b o H) {g:World} {T:Nat→Prop} {w:World} {G:List Y9} (hS:Sep g T w G) (k:B) (h:Kq q→Kq j→Ln b o H→Sep g T w G→Kp B→A:=by
  intro q j hL hS k
  exact osb q j hL hS tyS k.out):A:=h ⟨qZt⟩ ⟨qZt⟩ hL hS ⟨k⟩
theorem oaL {A B:Prop} (zs:List Value) {g:World} {T:Nat→Prop} {w:World} {G:List Y9} (hS:Sep g T w G) (k:B) (h:Kv zs→Sep g T w G→Kp B→A:=by
  intro zs hS k
  exact oal zs hS tyZ k.out):A:=h ⟨qZt⟩ hS ⟨k⟩
theorem obX {A B:Prop} (cs:List Value) {g:World} {T:Nat→Prop} {w:World} {G:List Y9} (hS:Sep g T w G) (k:B) (h:Kv cs→Sep g T w G→Kp B→A:=by
  intro cs hS k
  exact obx cs hS k.out):A:=h ⟨qZt⟩ hS ⟨k⟩
theorem obS {A B:Prop} {g:World} {T:Nat→Prop} {w:World} {G:List Y9} {α : Type} {r:Rp α} {l:List α} {css:List (List Value)} (hS:Sep g T w G) (a:Y2a r T w css l) (k:B) (h:Sep g T w G→Y2a r T w css l→Kp B→A:=by
  intro hS a k
  exact obs hS a tyU tyS tyZ k.out):A:=h hS a ⟨k⟩
theorem oS {A B H1 H2:Prop} (a:H1) (b:H2) (k:B) (h:H1→H2→Kp B→A:=by
  intro a b k
  exact calS a rfl b rfl k.out):A:=h a b ⟨k⟩
theorem oN {A B H1 H2:Prop} (a:H1) (b:H2) (k:B) (h:H1→H2→Kp B→A:=by
  intro a b k
  exact calN a rfl b rfl k.out):A:=h a b ⟨k⟩
theorem oP {A B H1 H2:Prop} (a:H1) (b:H2) (k:B) (h:H1→H2→Kp B→A:=by
  intro a b k
  exact Z1p a rfl b rfl k.out):A:=h a b ⟨k⟩
theorem sT {A B:Prop} (q:Nat) {g:World} {T:Nat→Prop} {w:World} {G:List Y9} (hS:Sep g T w G) (k:B) (h:Kq q→Sep g T w G→Kp B→A:=by
  intro q hS k
  refine pu ?_
  exact wst q hS tyS k.out):A:=h ⟨qZt⟩ hS ⟨k⟩
theorem sB {A B:Prop} (q j:Nat) {b o:Nat} {H:List Value→Y9} (hL:Ln b o H) {g:World} {T:Nat→Prop} {w:World} {G:List Y9} (hS:Sep g T w G) (k:B) (h:Kq q→Kq j→Ln b o H→Sep g T w G→Kp B→A:=by
  intro q j hL hS k
  refine pu ?_
  exact wsb q j hL hS tyS k.out):A:=h ⟨qZt⟩ ⟨qZt⟩ hL hS ⟨k⟩
theorem aL {A B:Prop} (zs:List Value) {g:World} {T:Nat→Prop} {w:World} {G:List Y9} (hS:Sep g T w G) (k:B) (h:Kv zs→Sep g T w G→Kp B→A:=by
  intro zs hS k
  refine pu ?_
  exact wal zs hS tyZ k.out):A:=h ⟨qZt⟩ hS ⟨k⟩
theorem bX {A B:Prop} (cs:List Value) {g:World} {T:Nat→Prop} {w:World} {G:List Y9} (hS:Sep g T w G) (k:B) (h:Kv cs→Sep g T w G→Kp B→A:=by
  intro cs hS k
  refine pu ?_
  exact wbx cs hS k.out):A:=h ⟨qZt⟩ hS ⟨k⟩
theorem bS {A B:Prop} {g:World} {T:Nat→Prop} {w:World} {G:List Y9} {α : Type} {r:Rp α} {l:List α} {css:List (List Value)} (hS:Sep g T w G) (a:Y2a r T w css l) (k:B) (h:Sep g T w G→Y2a r T w css l→Kp B→A:=by
  intro hS a k
  refine pu ?_
  exact wbs hS a tyU tyS tyZ k.out):A:=h hS a ⟨k⟩
theorem tyE {e z:Nat} (h:L1 Tryz.prog e z:=by first | exact el114 | exact el33 | exact el132 | exact el208 | exact el212 | exact el274 | exact el168 | exact el136 | exact el123 | exact el178 | exact el197 | exact el5 | exact el94 | exact el3 | exact el99 | exact el186 | exact el103 | exact el155 | exact el80 | exact el236 | exact el4 | exact el145 | exact el59 | exact el61):L1 Tryz.prog e z:=h
theorem oaO {A B:Prop} (q:Nat) {g:World} {T:Nat→Prop} {w:World} {G:List Y9} {m:Nat} (hS:Sep g T w G) (a:m≤8589934592) (k:B) (h:Kq q→Sep g T w G→m≤8589934592→Kp B→A:=by
  intro q hS a k
  exact oao q hS Y2q tyU tyE a k.out):A:=h ⟨qZt⟩ hS a ⟨k⟩
theorem aO {A B:Prop} (q:Nat) {g:World} {T:Nat→Prop} {w:World} {G:List Y9} {m:Nat} (hS:Sep g T w G) (a:m≤8589934592) (k:B) (h:Kq q→Sep g T w G→m≤8589934592→Kp B→A:=by
  intro q hS a k
  refine pu ?_
  exact wao q hS Y2q tyU tyE a k.out):A:=h ⟨qZt⟩ hS a ⟨k⟩
theorem cS {A B H1 H2:Prop} (a:H1) (b:H2) (k:B) (h:H1→H2→Kp B→A:=by
  intro a b k
  refine pu ?_
  exact wcS a b k.out):A:=h a b ⟨k⟩
theorem cN {A B H1 H2:Prop} (a:H1) (b:H2) (k:B) (h:H1→H2→Kp B→A:=by
  intro a b k
  refine pu ?_
  exact wcN a b k.out):A:=h a b ⟨k⟩
theorem cB {A B H1 H2 H3:Prop} (a:H1) (hm:H2) (c:H3) (k:B) (h:H1→H2→H3→Kp B→A:=by
  intro a hm c k
  refine pu ?_
  exact wcB a hm c k.out):A:=h a hm c ⟨k⟩
theorem cBN {A B H1 H2 H3:Prop} (a:H1) (hm:H2) (c:H3) (k:B) (h:H1→H2→H3→Kp B→A:=by
  intro a hm c k
  refine pu ?_
  exact wcBN a hm c k.out):A:=h a hm c ⟨k⟩
theorem cP {A B B2 H1 H2 H3:Prop} (a:H1) (hm:H2) (c:H3) (k:B) (k2:B2) (h:H1→H2→H3→Kp B→Kp B2→A:=by
  intro a hm c k k2
  refine pu ?_
  exact wcP a hm c k.out k2.out):A:=h a hm c ⟨k⟩ ⟨k2⟩
theorem cPN {A B B2 H1 H2 H3:Prop} (a:H1) (hm:H2) (c:H3) (k:B) (k2:B2) (h:H1→H2→H3→Kp B→Kp B2→A:=by
  intro a hm c k k2
  refine pu ?_
  exact wcPN a hm c k.out k2.out):A:=h a hm c ⟨k⟩ ⟨k2⟩
theorem pe {A:Prop} {α : Type} {x z : α} {g:World} {T:Nat→Prop} {w:World} {G:List Y9} (hm:some x=some z) (S:Sep g T w G) (h:some x=some z→Kp (Sep g T w G)→A:=by
  intro hm S
  cases oI hm
  refine pn ?_
  repeat (first | with_reducible refine Y9g ?_ | with_reducible refine p_blk ?_)
  first | refine panED ?_ | refine panE ?_ | refine endO rfl ?_ | refine endR rfl ?_
  refine psm S.out ch ?_
  repeat' (first | with_reducible apply Exists.intro | with_reducible apply And.intro | exact rfl | exact S.out.unb | exact Y6u | ((apply X1b) <;> assumption) | exact qZt | assumption | exact Y6s (by assumption) ch | exact X7)):A:=h hm ⟨S⟩
theorem eo {A:Prop} {α : Type} {x z : α} {g:World} {T:Nat→Prop} {w:World} {G:List Y9} (hm:some x=some z) (S:Sep g T w G) (h:some x=some z→Kp (Sep g T w G)→A:=by
  intro hm S
  cases oI hm
  refine pn ?_
  repeat (first | with_reducible refine Y9g ?_ | with_reducible refine p_blk ?_)
  first | refine endO rfl ?_ | refine endR rfl ?_
  refine eoR (resN rfl rvsS rfl) ?_
  refine rsm S.out ch ?_
  repeat' (first | with_reducible apply Exists.intro | with_reducible apply And.intro | exact rfl | exact S.out.unb | exact Y6u | ((apply X1b) <;> assumption) | exact qZt | assumption | exact Y6s (by assumption) ch | exact X7)):A:=h hm ⟨S⟩
theorem rqS {l:List Oper} {Q:Exit→Act→World→Prop} {T:Nat→Prop} {w:World} {G:List Y9} {a:Act} {id:Nat} (hS:Sep g T w G) (h:wpQuiet Tryz.prog l.toArray (QC T w) (fun a1 => ∀ w1 T1,Im T w T1 w1→Sep g T1 w1 G→Q .normal a1 w1) l a) (hB:Region.lexB .any l.toArray=true:=by kernel_rfl):(Code.region id l.toArray true).wp Tryz.prog Q a w :=
  rq mix hB hS.lt (quiet_mono (fun a1 h w1 T1 i=>h w1 T1 i.imm (hS.keep i fun _ h=>h)) h)
theorem rsS {l:List Oper} {Q:Exit→Act→World→Prop} {g:World} {T:Nat→Prop} {w:World} {G:List Y9} {n:NF} {J:Nat→Value} {L:List (Nat×Value)} {id:Nat} (fl ord:List Nat) (hS:Sep g T w G) (k : ∀ w1,Im T w T w1→Sep g T w1 G→N2 Tryz.prog l fl (NoPanic Q) [] ord (env n J L) w1) (hB:serB l fl ord=true:=by kernel_rfl):(Code.region id l.toArray true).wp Tryz.prog Q (env n J L) w :=
  rs fl ord mix hB hS.lt fun w1 i=>k w1 i.imm (hS.keep i fun _ h=>h)
theorem Z2k {l:List Oper} {Q:Exit→Act→World→Prop} {g:World} {T:Nat→Prop} {w:World} {G:List Y9} {n:NF} {J:Nat→Value} {L:List (Nat×Value)} {id:Nat} (fl ord:List Nat) (hS:Sep g T w G) (hQ:PQ l Q) (k : ∀ w1,Im T w T w1→Sep g T w1 G→N2 Tryz.prog l fl Q [] ord (env n J L) w1) (hB:serB l fl ord=true:=by kernel_rfl):(Code.region id l.toArray true).wp Tryz.prog Q (env n J L) w :=
  rsP fl ord mix hB hS.lt hQ fun w1 i=>k w1 i.imm (hS.keep i fun _ h=>h)
theorem rtS {l:List Oper} {Q:Exit→Act→World→Prop} {g:World} {T:Nat→Prop} {w:World} {G:List Y9} {n:NF} {J:Nat→Value} {L:List (Nat×Value)} {id:Nat} (fl ord:List Nat) (hS:Sep g T w G) (k : ∀ w1,Im T w T w1→Sep g T w1 G→S0 Tryz.prog l fl (NoPanic Q) ord.length [] ord (env n J L) w1) (hB:trB l fl ord=true:=by kernel_rfl):(Code.region id l.toArray true).wp Tryz.prog Q (env n J L) w :=
  rt fl ord mix hB hS.lt fun w1 i=>k w1 i.imm (hS.keep i fun _ h=>h)
theorem rtPS {l:List Oper} {Q:Exit→Act→World→Prop} {g:World} {T:Nat→Prop} {w:World} {G:List Y9} {n:NF} {J:Nat→Value} {L:List (Nat×Value)} {id:Nat} (fl ord:List Nat) (hS:Sep g T w G) (hQ:PQ l Q) (k : ∀ w1,Im T w T w1→Sep g T w1 G→S0 Tryz.prog l fl Q ord.length [] ord (env n J L) w1) (hB:trB l fl ord=true:=by kernel_rfl):(Code.region id l.toArray true).wp Tryz.prog Q (env n J L) w :=
  rtP fl ord mix hB hS.lt hQ fun w1 i=>k w1 i.imm (hS.keep i fun _ h=>h)
abbrev Z4r (x:B0)  : List Value := [qZs x.s,.int .i64 x.pos.Line,.int .i64 x.pos.Col]
abbrev Y9x (x:U1)  : List Value := [.int .i64 x.Kind,qZs x.Text,.int .u32 x.Num,.int .i64 x.Pos.Line,.int .i64 x.Pos.Col]
abbrev B9 (pos:Pos) (e:Int)  : List Value := [.int .i64 pos.Line,.int .i64 pos.Col,.int .i64 e]
abbrev Z5i (x:P9)  : List Value := [qZs x.Word,qZs x.Name,.int .i64 x.Stars]
abbrev F5 (x:Y7) (a9:Option Addr) (c9:Nat):List Value := [.int .i64 x.Kind,.int .i64 x.Pos.Line,.int .i64 x.Pos.Col,qZs x.Op,qZs x.Name,.int .u32 x.Num,qZs x.Type_.Word,qZs x.Type_.Name,.int .i64 x.Type_.Stars,.slice a9 (qQ x.Kids) c9]
abbrev Y1k (x:N0) (a6:Option Addr) (c6:Nat) (a7:Option Addr) (c7:Nat):List Value := [.int .i64 x.Pos.Line,.int .i64 x.Pos.Col,qZs x.Type_.Word,qZs x.Type_.Name,.int .i64 x.Type_.Stars,qZs x.Name,.slice a6 (qQ x.Dims) c6,.slice a7 (qQ x.Init) c7,.bool x.Brace]
abbrev Z3l (x:F6) (a3:Option Addr) (c3:Nat) (a4:Option Addr) (c4:Nat) (a5:Option Addr) (c5:Nat) (a6:Option Addr) (c6:Nat) (a7:Option Addr) (c7:Nat) (a8:Option Addr) (c8:Nat) (a9:Option Addr) (c9:Nat):List Value := [.int .i64 x.Kind,.int .i64 x.Pos.Line,.int .i64 x.Pos.Col,.slice a3 (qQ x.A) c3,.slice a4 (qQ x.B) c4,.slice a5 (qQ x.C) c5,.slice a6 (qQ x.Var) c6,.slice a7 (qQ x.Body) c7,.slice a8 (qQ x.Else) c8,.slice a9 (qQ x.Cases) c9]
abbrev Y9y (x:Q0o) (a4:Option Addr) (c4:Nat):List Value := [.int .i64 x.Pos.Line,.int .i64 x.Pos.Col,.bool x.Default,.int .u32 x.Num,.slice a4 (qQ x.Body) c4]
abbrev X1s (x:Q3b) (a3:Option Addr) (c3:Nat):List Value := [.int .i64 x.Pos.Line,.int .i64 x.Pos.Col,qZs x.Name,.slice a3 (qQ x.Fields) c3]
abbrev Y2z (x:Q0n) (a6:Option Addr) (c6:Nat) (a7:Option Addr) (c7:Nat):List Value := [.int .i64 x.Pos.Line,.int .i64 x.Pos.Col,qZs x.Ret.Word,qZs x.Ret.Name,.int .i64 x.Ret.Stars,qZs x.Name,.slice a6 (qQ x.Params) c6,.slice a7 (qQ x.Body) c7]
abbrev Q3e (x:K0) (a4:Option Addr) (c4:Nat):List Value := [.int .i64 x.Type_.Kind,.int .i64 x.Type_.Elem,.int .i64 x.Type_.Len,qZs x.Type_.Name,.slice a4 (qQ x.Type_.Fields) c4,.int .i64 x.size,.int .i64 x.align,.bool x.open_]
abbrev Z1v (x:K5)  : List Value := [qZs x.Name,.int .i64 x.Type_,.int .i64 x.At]
abbrev X2r (x:Z3n)  : List Value := [qZs x.Name,.int .i64 x.Size,.int .i64 x.Align,.int .i64 x.Cell]
abbrev Y7g (x:Q8l) (a4:Option Addr) (c4:Nat):List Value := [.int .i64 x.Kind,.int .i64 x.Elem,.int .i64 x.Len,qZs x.Name,.slice a4 (qQ x.Fields) c4]
abbrev R8 (x:Y1) (a9:Option Addr) (c9:Nat):List Value := [.int .i64 x.n,.int .i64 x.term.Kind,.int .i64 x.term.Fn,.int .u32 x.term.Num,.int .i64 x.term.Var,.bool x.term.Global,.int .i64 x.term.Size,.bool x.term.Post,.bool x.term.Ptr,.slice a9 (qQ x.term.Kids) c9,.bool x.lies]
abbrev V8 (x:Y5) (a8:Option Addr) (c8:Nat):List Value := [.int .i64 x.Kind,.int .i64 x.Fn,.int .u32 x.Num,.int .i64 x.Var,.bool x.Global,.int .i64 x.Size,.bool x.Post,.bool x.Ptr,.slice a8 (qQ x.Kids) c8]
abbrev Z3m (x:U7) (a1:Option Addr) (c1:Nat) (a2:Option Addr) (c2:Nat) (a4:Option Addr) (c4:Nat) (a5:Option Addr) (c5:Nat) (a6:Option Addr) (c6:Nat):List Value := [.int .i64 x.Kind,.slice a1 (qQ x.A) c1,.slice a2 (qQ x.Post) c2,.bool x.First,.slice a4 (qQ x.Body) c4,.slice a5 (qQ x.Else) c5,.slice a6 (qQ x.Cases) c6,.int .i64 x.Var]
abbrev O4 (x:X9)  : List Value := [.int .i64 x.Obj,.int .i64 x.Lo,.int .i64 x.Hi,.int .i64 x.Off]
abbrev I3 (x:Y4)  : List Value := [.int .u32 x.Num,.int .i64 x.Ptr.Obj,.int .i64 x.Ptr.Lo,.int .i64 x.Ptr.Hi,.int .i64 x.Ptr.Off,.bool x.Is]
abbrev Y7h (x:Q5s) (a3:Option Addr) (c3:Nat) (a4:Option Addr) (c4:Nat):List Value := [qZs x.Name,.bool x.Void,.int .i64 x.Params,.slice a3 (qQ x.Slots) c3,.slice a4 (qQ x.Body) c4]
abbrev cChoice (x:Z3z) (a2:Option Addr) (c2:Nat):List Value := [.bool x.Default,.int .u32 x.Num,.slice a2 (qQ x.Body) c2]
abbrev iv (x:Int):Value := .int .i64 x
abbrev sv {α : Type} (a:Option Addr) (l:List α) (c:Nat):Value := .slice a (qQ l) c
abbrev pt (b o:Nat):Value := .pointer (some ⟨b,o,none⟩)
abbrev OA:=Option Addr
abbrev JV:=Nat→Value
abbrev TP:=Nat→Prop
abbrev zv1:List Value := [iv 0,iv 0,iv 0,.int .u32 0,iv 0,.bool false,iv 0,.bool false,.bool false,.slice none 0 0,.bool false]
abbrev zv2:List Value := [iv 0,iv 0,iv 0,qZs [],qZs [],.int .u32 0,qZs [],qZs [],iv 0,.slice none 0 0]
abbrev zv3:List Value := [iv 0,iv 0,.int .u32 0,iv 0,.bool false,iv 0,.bool false,.bool false,.slice none 0 0]
abbrev zv4:List Value := [iv 0,iv 0,qZs [],qZs [],iv 0,qZs [],.slice none 0 0,.slice none 0 0,.bool false]
abbrev zv5:List Value := [.int .u32 0,iv 0,iv 0,iv 0,iv 0,.bool false]
abbrev zv6:List Value := [iv 0,.slice none 0 0,.slice none 0 0,.bool false,.slice none 0 0,.slice none 0 0,.slice none 0 0,iv 0]
abbrev zv7:List Value := [iv 0,iv 0,qZs [],qZs [],iv 0,qZs [],.slice none 0 0,.slice none 0 0]
abbrev zv8:List Value := [.slice none 0 0,iv 0,.int .u32 0,iv 0]
abbrev zv9:List Value := [iv 0,iv 0,iv 0,qZs [],.slice none 0 0]
abbrev Y5y:List Value := [iv 0,qZs [],.int .u32 0,iv 0,iv 0]
abbrev zv11:List Value := [iv 0,iv 0,iv 0,.slice none 0 0,.slice none 0 0,.slice none 0 0,.slice none 0 0,.slice none 0 0,.slice none 0 0,.slice none 0 0]
abbrev zv12:List Value := [qZs [],qZs [],iv 0]
abbrev zv13:List Value := [.slice none 0 0,.slice none 0 0,.slice none 0 0,iv 0]
abbrev zv14:List Value := [iv 0,iv 0,qZs [],.slice none 0 0]
abbrev zv15:List Value := [qZs [],iv 0,iv 0]
abbrev zv16:List Value := [qZs [],.bool false,iv 0,.slice none 0 0,.slice none 0 0]
abbrev zv17:List Value := [.slice none 0 0,.slice none 0 0,.slice none 0 0]
abbrev zv18:List Value := [iv 0,iv 0,iv 0,qZs [],.slice none 0 0,iv 0,iv 0,.bool false]
abbrev zv19:List Value := [qZs [],iv 0,iv 0,iv 0]
abbrev zv20:List Value := [iv 0,iv 0,.bool false,.int .u32 0,.slice none 0 0]

theorem lnS {b o:Nat} {H:List Value→Y9} (h:Ln b o H:=by first | assumption | exact Q3m _):Ln b o H:=h
theorem slS {α : Type} {r:Rp α} {T:Nat→Prop} {w:World} {v:Value} {l:List α} (h:SlR r T w v l:=by first | assumption | exact X7 | exact Y6s (by assumption) ch):SlR r T w v l:=h
theorem giS {T:Nat→Prop} {w:World} {k:Nat} (h:Gi T w k:=by first | assumption | exact Gi.mono (by assumption) ch):Gi T w k:=h
theorem eqS {α : Type} {m:Option α} {r : α} (h:m=some r:=by assumption):m=some r:=h
theorem hcE {H:List Value→Y9} {a b:List Value} (h:a=b):H a=H b:=by rw [h]
theorem owE {α : Type} {r:Rp α} {e:TypeId} {v:Value} {a b:List α} (h:a=b):J2 r e v a=J2 r e v b:=by rw [h]
theorem rmS {G G2:List Y9} {A:Y9} (h:Rmv G A G2:=by repeat (first | ((apply rmH); (exact rfl); (first | (with_reducible exact rfl) | ((with_reducible apply hcE); (exact rfl)) | ((with_reducible apply owE); (exact rfl)))) | ((apply rmT); (exact rfl)))):Rmv G A G2:=h
theorem pkZ {G N rest:List Y9} (h:Pks G N rest:=by repeat (first | exact pk0 | ((apply pkC); (exact rmS)))):Pks G N rest:=h
theorem ctS {C X:Prop} {g:World} {T:Nat→Prop} {w:World} {G:List Y9} (c:C) (hS:Sep g T w G) (h:C→Sep g T w G→X:=by
  intro c hS
  apply c
  try any_goals (with_reducible exact eqS)
  try any_goals ((fail_if_success (show Ln 123456789 _ _)); (with_reducible exact lnS))
  try any_goals ((apply Sep.pkC); (exact hS))
  repeat ((any_goals ((apply pkC); (exact rmS))); (try any_goals ((fail_if_success (show Ln 123456789 _ _)); (with_reducible exact lnS))))
  try any_goals (exact pk0)
  try any_goals (exact slS)
  try any_goals (exact giS)
  all_goals assumption):X:=h c hS
theorem reZ {A:Prop} {α : Type} {x z : α} {g:World} {T:Nat→Prop} {w:World} {G:List Y9} (hm:some x=some z) (hS:Sep g T w G) (h:some x=some z→Sep g T w G→A:=by
  intro hm hS
  cases oI hm
  first | refine ret1 rfl rfl ?_ | refine ret0 rfl ?_ | refine ret2 rfl rfl rfl ?_ | refine end0 rfl ?_ | (apply retN; (exact rfl); (exact rvsS); (exact rfl))
  first | (refine rsm hS ch ?_; (repeat' (first | with_reducible apply Exists.intro | with_reducible apply And.intro | exact rfl | exact Sep.pkR hS pkZ | exact qZt | assumption | exact slS)); done) | (obtain⟨_,_,hS,_,rfl⟩:=hS.sl 0; refine rsm hS ch ?_; (repeat' (first | with_reducible apply Exists.intro | with_reducible apply And.intro | exact rfl | exact Sep.pkR hS pkZ | exact qZt | assumption | exact slS)); done) | (obtain⟨_,_,hS,_,rfl⟩:=hS.sl 1; refine rsm hS ch ?_; (repeat' (first | with_reducible apply Exists.intro | with_reducible apply And.intro | exact rfl | exact Sep.pkR hS pkZ | exact qZt | assumption | exact slS)); done) | (obtain⟨_,_,hS,_,rfl⟩:=hS.sl 2; refine rsm hS ch ?_; (repeat' (first | with_reducible apply Exists.intro | with_reducible apply And.intro | exact rfl | exact Sep.pkR hS pkZ | exact qZt | assumption | exact slS)); done) | (obtain⟨_,_,hS,_,rfl⟩:=hS.sl 3; refine rsm hS ch ?_; (repeat' (first | with_reducible apply Exists.intro | with_reducible apply And.intro | exact rfl | exact Sep.pkR hS pkZ | exact qZt | assumption | exact slS)); done) | (obtain⟨_,_,hS,_,rfl⟩:=hS.sl 4; refine rsm hS ch ?_; (repeat' (first | with_reducible apply Exists.intro | with_reducible apply And.intro | exact rfl | exact Sep.pkR hS pkZ | exact qZt | assumption | exact slS)); done) | (obtain⟨_,_,hS,_,rfl⟩:=hS.sl 5; refine rsm hS ch ?_; (repeat' (first | with_reducible apply Exists.intro | with_reducible apply And.intro | exact rfl | exact Sep.pkR hS pkZ | exact qZt | assumption | exact slS)); done)):A:=h hm hS
theorem peZ {A:Prop} {α : Type} {x z : α} {g:World} {T:Nat→Prop} {w:World} {G:List Y9} (hm:some x=some z) (hS:Sep g T w G) (h:some x=some z→Sep g T w G→A:=by
  intro hm hS
  cases oI hm
  repeat (first | with_reducible refine Y9g ?_ | with_reducible refine p_blk ?_)
  first | refine panED ?_ | refine panE ?_ | refine endO rfl ?_ | refine endR rfl ?_
  first | (refine psm hS ch ?_; (repeat' (first | with_reducible apply Exists.intro | with_reducible apply And.intro | exact rfl | exact Sep.pkR hS pkZ | exact qZt | assumption | exact slS)); done) | (obtain⟨_,_,hS,_,rfl⟩:=hS.sl 0; refine psm hS ch ?_; (repeat' (first | with_reducible apply Exists.intro | with_reducible apply And.intro | exact rfl | exact Sep.pkR hS pkZ | exact qZt | assumption | exact slS)); done) | (obtain⟨_,_,hS,_,rfl⟩:=hS.sl 1; refine psm hS ch ?_; (repeat' (first | with_reducible apply Exists.intro | with_reducible apply And.intro | exact rfl | exact Sep.pkR hS pkZ | exact qZt | assumption | exact slS)); done) | (obtain⟨_,_,hS,_,rfl⟩:=hS.sl 2; refine psm hS ch ?_; (repeat' (first | with_reducible apply Exists.intro | with_reducible apply And.intro | exact rfl | exact Sep.pkR hS pkZ | exact qZt | assumption | exact slS)); done) | (obtain⟨_,_,hS,_,rfl⟩:=hS.sl 3; refine psm hS ch ?_; (repeat' (first | with_reducible apply Exists.intro | with_reducible apply And.intro | exact rfl | exact Sep.pkR hS pkZ | exact qZt | assumption | exact slS)); done) | (obtain⟨_,_,hS,_,rfl⟩:=hS.sl 4; refine psm hS ch ?_; (repeat' (first | with_reducible apply Exists.intro | with_reducible apply And.intro | exact rfl | exact Sep.pkR hS pkZ | exact qZt | assumption | exact slS)); done) | (obtain⟨_,_,hS,_,rfl⟩:=hS.sl 5; refine psm hS ch ?_; (repeat' (first | with_reducible apply Exists.intro | with_reducible apply And.intro | exact rfl | exact Sep.pkR hS pkZ | exact qZt | assumption | exact slS)); done)):A:=h hm hS
theorem opx {P:Program} {n:NF} {J:Nat→Value} {L:List (Nat×Value)} {w:World} {o:Oper} {v:Value} (h:(execOp (ev n J L) o).run P w = .ok (.value v) w:=by
  first | ((with_reducible apply r_ss); (exact rfl); (first | exact rfl | exact⟨_,rfl⟩); (first | exact rfl | exact⟨_,rfl⟩); (assumption); (exact tyU)) | ((with_reducible apply Z7t); (exact rfl); (exact rfl); (assumption); (exact tyU)) | ((with_reducible apply r_slR); (exact rfl); (exact slS); (first | exact rfl | exact⟨_,rfl⟩); (first | exact rfl | exact⟨_,rfl⟩); (assumption); (exact tyU); (exact tyS); (exact rfl); (assumption)) | ((with_reducible apply r_fd1); (exact rfl); (exact tyU); (exact rfl); (exact tyA); (exact rfl)) | ((with_reducible apply zbd); (exact tyZ); (exact tyU); (exact lsS); (kernel_rfl)) | ((with_reducible apply r_zf); (exact rfl)) | ((with_reducible apply Y3o); (exact(rfl:_=Value.func _ _ _))) | ((with_reducible apply r_iq); (exact rfl); (exact rfl); (assumption)) | ((with_reducible apply r_irm); (exact rfl); (exact rfl); (assumption)) | ((with_reducible apply r_bn); (exact rfl); (exact rfl); (exact tyU)) | ((with_reducible apply r_bq); (exact rfl); (exact rfl); (exact tyU)) | ((with_reducible apply r_mif); (exact rfl); (exact tyU)) | ((with_reducible apply Y4y); (exact rfl); (exact rfl); (exact rfl); (exact tyU)) | ((with_reducible apply Y6g); (exact rfl); (exact rfl); (exact rfl); (exact tyU)) | ((with_reducible apply r_sne); (exact rfl); (exact rfl); (exact rfl); (exact tyU)) | ((with_reducible apply r_ldZ); (exact rfl); (exact tyA); (exact tyS); (first | assumption | exact cellsAt.sameT (by assumption) (by assumption) ch); (exact lsS); (exact rfl)) | ((with_reducible apply r_ldQ); (assumption); (exact rfl); (exact tyA); (exact tyS); (assumption); (exact atS); (exact lsS); (exact rfl))):(execOp (ev n J L) o).run P w = .ok (.value v) w:=h
theorem mkS {α : Type} {r:Rp α} {T:Nat→Prop} {w:World} {cs:List Value} {x : α} (h:r.rp T w cs x:=by first | assumption | exact rfl | ((apply Z1r) <;> (exact slS)) | ((apply Z4x) <;> (exact slS)) | ((apply Q2r) <;> (exact slS)) | ((apply Z6x) <;> (exact slS)) | ((apply Y5f) <;> (exact slS)) | ((apply Y6k) <;> (exact slS)) | ((apply Y1m) <;> (exact slS)) | ((apply Y4p) <;> (exact slS)) | ((apply Y9c) <;> (exact slS)) | ((apply Y6l) <;> (exact slS)) | ((apply Y6n) <;> (exact slS)) | ((apply Y6i) <;> (exact slS)) | ((apply Y5o) <;> (exact slS)) | ((apply Y4o) <;> (exact slS)) | ((apply V7) <;> (exact slS)) | ((apply Q1s) <;> (exact slS)) | ((apply Y2t) <;> (exact slS)) | ((apply Z6y) <;> (exact slS)) | ((apply X3u) <;> (exact slS)) | ((apply Y2s) <;> (exact slS)) | ((apply Y8c) <;> (exact slS)) | ((apply Q1j) <;> (exact slS)) | ((apply Y7n) <;> (exact slS)) | ((apply Z6m) <;> (exact slS)) | ((apply Y6o) <;> (exact slS)) | ((apply Y4q) <;> (exact slS)) | ((apply X0t) <;> (exact slS)) | ((apply Y6j) <;> (exact slS)) | ((apply Z7v) <;> (exact slS)) | ((apply Z2t) <;> (exact slS))):r.rp T w cs x:=h
theorem jeZ {A F:Prop} {g:World} {T:Nat→Prop} {w:World} {G:List Y9} (hm:F) (hS:Sep g T w G) (h:F→Sep g T w G→A:=by
  intro hm hS
  first | ((repeat' (first | with_reducible apply Exists.intro | with_reducible apply And.intro | exact hm | exact rfl | exact Y1z | exact Sep.pkE hS pkZ | exact ch | exact qZt | assumption | exact slS)); done) | (obtain⟨_,_,hS,_,rfl⟩:=hS.sl 0; (repeat' (first | with_reducible apply Exists.intro | with_reducible apply And.intro | exact hm | exact rfl | exact Y1z | exact Sep.pkE hS pkZ | exact ch | exact qZt | assumption | exact slS)); done) | (obtain⟨_,_,hS,_,rfl⟩:=hS.sl 1; (repeat' (first | with_reducible apply Exists.intro | with_reducible apply And.intro | exact hm | exact rfl | exact Y1z | exact Sep.pkE hS pkZ | exact ch | exact qZt | assumption | exact slS)); done) | (obtain⟨_,_,hS,_,rfl⟩:=hS.sl 2; (repeat' (first | with_reducible apply Exists.intro | with_reducible apply And.intro | exact hm | exact rfl | exact Y1z | exact Sep.pkE hS pkZ | exact ch | exact qZt | assumption | exact slS)); done) | (obtain⟨_,_,hS,_,rfl⟩:=hS.sl 3; (repeat' (first | with_reducible apply Exists.intro | with_reducible apply And.intro | exact hm | exact rfl | exact Y1z | exact Sep.pkE hS pkZ | exact ch | exact qZt | assumption | exact slS)); done) | (obtain⟨_,_,hS,_,rfl⟩:=hS.sl 4; (repeat' (first | with_reducible apply Exists.intro | with_reducible apply And.intro | exact hm | exact rfl | exact Y1z | exact Sep.pkE hS pkZ | exact ch | exact qZt | assumption | exact slS)); done) | (obtain⟨_,_,hS,_,rfl⟩:=hS.sl 5; (repeat' (first | with_reducible apply Exists.intro | with_reducible apply And.intro | exact hm | exact rfl | exact Y1z | exact Sep.pkE hS pkZ | exact ch | exact qZt | assumption | exact slS)); done)):A:=h hm hS
theorem lgZ {A:Prop} {α : Type} {x z : α} {g:World} {T:Nat→Prop} {w:World} {G:List Y9} (hm:some x=some z) (hS:Sep g T w G) (h:some x=some z→Sep g T w G→A:=by
  intro hm hS
  cases oI hm
  refine⟨_,Nat.lt_succ_self _,?_⟩
  first | ((repeat' (first | with_reducible apply Exists.intro | with_reducible apply And.intro | exact hm | exact rfl | exact Y1z | exact Sep.pkE hS pkZ | exact ch | exact qZt | assumption | exact slS)); done) | (obtain⟨_,_,hS,_,rfl⟩:=hS.sl 0; (repeat' (first | with_reducible apply Exists.intro | with_reducible apply And.intro | exact hm | exact rfl | exact Y1z | exact Sep.pkE hS pkZ | exact ch | exact qZt | assumption | exact slS)); done) | (obtain⟨_,_,hS,_,rfl⟩:=hS.sl 1; (repeat' (first | with_reducible apply Exists.intro | with_reducible apply And.intro | exact hm | exact rfl | exact Y1z | exact Sep.pkE hS pkZ | exact ch | exact qZt | assumption | exact slS)); done) | (obtain⟨_,_,hS,_,rfl⟩:=hS.sl 2; (repeat' (first | with_reducible apply Exists.intro | with_reducible apply And.intro | exact hm | exact rfl | exact Y1z | exact Sep.pkE hS pkZ | exact ch | exact qZt | assumption | exact slS)); done) | (obtain⟨_,_,hS,_,rfl⟩:=hS.sl 3; (repeat' (first | with_reducible apply Exists.intro | with_reducible apply And.intro | exact hm | exact rfl | exact Y1z | exact Sep.pkE hS pkZ | exact ch | exact qZt | assumption | exact slS)); done) | (obtain⟨_,_,hS,_,rfl⟩:=hS.sl 4; (repeat' (first | with_reducible apply Exists.intro | with_reducible apply And.intro | exact hm | exact rfl | exact Y1z | exact Sep.pkE hS pkZ | exact ch | exact qZt | assumption | exact slS)); done) | (obtain⟨_,_,hS,_,rfl⟩:=hS.sl 5; (repeat' (first | with_reducible apply Exists.intro | with_reducible apply And.intro | exact hm | exact rfl | exact Y1z | exact Sep.pkE hS pkZ | exact ch | exact qZt | assumption | exact slS)); done)):A:=h hm hS
theorem eoZ {A:Prop} {α : Type} {x z : α} {g:World} {T:Nat→Prop} {w:World} {G:List Y9} (hm:some x=some z) (hS:Sep g T w G) (h:some x=some z→Sep g T w G→A:=by
  intro hm hS
  cases oI hm
  repeat (first | with_reducible refine Y9g ?_ | with_reducible refine p_blk ?_)
  first | refine endO rfl ?_ | refine endR rfl ?_
  refine eoR (resN rfl rvsS rfl) ?_
  first | (refine rsm hS ch ?_; (repeat' (first | with_reducible apply Exists.intro | with_reducible apply And.intro | exact rfl | exact Sep.pkR hS pkZ | exact qZt | assumption | exact slS)); done) | (obtain⟨_,_,hS,_,rfl⟩:=hS.sl 0; refine rsm hS ch ?_; (repeat' (first | with_reducible apply Exists.intro | with_reducible apply And.intro | exact rfl | exact Sep.pkR hS pkZ | exact qZt | assumption | exact slS)); done) | (obtain⟨_,_,hS,_,rfl⟩:=hS.sl 1; refine rsm hS ch ?_; (repeat' (first | with_reducible apply Exists.intro | with_reducible apply And.intro | exact rfl | exact Sep.pkR hS pkZ | exact qZt | assumption | exact slS)); done) | (obtain⟨_,_,hS,_,rfl⟩:=hS.sl 2; refine rsm hS ch ?_; (repeat' (first | with_reducible apply Exists.intro | with_reducible apply And.intro | exact rfl | exact Sep.pkR hS pkZ | exact qZt | assumption | exact slS)); done) | (obtain⟨_,_,hS,_,rfl⟩:=hS.sl 3; refine rsm hS ch ?_; (repeat' (first | with_reducible apply Exists.intro | with_reducible apply And.intro | exact rfl | exact Sep.pkR hS pkZ | exact qZt | assumption | exact slS)); done) | (obtain⟨_,_,hS,_,rfl⟩:=hS.sl 4; refine rsm hS ch ?_; (repeat' (first | with_reducible apply Exists.intro | with_reducible apply And.intro | exact rfl | exact Sep.pkR hS pkZ | exact qZt | assumption | exact slS)); done) | (obtain⟨_,_,hS,_,rfl⟩:=hS.sl 5; refine rsm hS ch ?_; (repeat' (first | with_reducible apply Exists.intro | with_reducible apply And.intro | exact rfl | exact Sep.pkR hS pkZ | exact qZt | assumption | exact slS)); done)):A:=h hm hS
theorem zr {A H:Prop} {g:World} {T:Nat→Prop} {w:World} {G:List Y9} (hm:H) (hS:Sep g T w G) (h:H→Sep g T w G→A:=by
  intro hm hS
  try simp only [Z6u,atA,N7,List.range',List.cons_append,List.nil_append,List.append_nil,List.append_assoc] at hS
  repeat' (first | (obtain⟨_,hx,hm⟩:=bindI hm; (try (first | (obtain⟨_,hr,_,_⟩:=ixS hS hx (by assumption); (first | (obtain rfl:=Q2p hr) | (obtain rfl:=Q8c hr) | (obtain⟨_,_,rfl,_⟩:=G4 hr) | (obtain⟨_,_,_,_,rfl,_,_⟩:=Z1w hr) | (obtain⟨_,_,rfl,_⟩:=Z4b hr) | (obtain⟨_,_,_,_,_,_,_,_,_,_,_,_,_,_,rfl,_,_,_,_,_,_,_⟩:=Y2r hr) | (obtain⟨_,_,rfl,_⟩:=Y0r hr) | (obtain⟨_,_,_,_,rfl,_,_⟩:=Z2g hr) | (obtain⟨_,_,_,_,_,_,rfl,_,_,_⟩:=Y0q hr) | (obtain rfl:=Z3u hr) | (obtain rfl:=Z7w hr) | (obtain⟨_,_,rfl,_⟩:=Z6v hr) | (obtain rfl:=Z2s hr) | (obtain rfl:=Y0p hr) | (obtain⟨_,_,rfl,_⟩:=H0 hr) | (obtain⟨_,_,_,_,_,_,_,_,_,_,rfl,_,_,_,_,_⟩:=Z5k hr) | (obtain⟨_,_,rfl,_⟩:=Z2w hr) | (obtain⟨_,_,_,_,rfl,_,_⟩:=Z0i hr) | (obtain⟨_,_,_,_,_,_,rfl,_,_,_⟩:=Y5e hr) | (obtain rfl:=Z4y hr) | (obtain⟨_,_,rfl,_⟩:=Y0o hr) | (obtain⟨_,_,rfl,_⟩:=M9 hr) | (obtain⟨_,_,rfl,_⟩:=Z8z hr) | (obtain⟨_,_,rfl,_⟩:=Q5y hr) | (obtain⟨_,_,rfl,_⟩:=Z6z hr) | (obtain rfl:=Z1x hr) | (obtain⟨_,_,rfl,_⟩:=Y2g hr) | (obtain⟨_,_,_,_,rfl,_,_⟩:=Z6w hr) | (obtain rfl:=Z2u hr) | (obtain rfl:=Z3t hr))) | (obtain⟨_,hr,_⟩:=SlV.ixcS (Sep.own hS atS).v hx rfl; (first | (obtain rfl:=Q2p hr) | (obtain rfl:=Q8c hr) | (obtain⟨_,_,rfl,_⟩:=G4 hr) | (obtain⟨_,_,_,_,rfl,_,_⟩:=Z1w hr) | (obtain⟨_,_,rfl,_⟩:=Z4b hr) | (obtain⟨_,_,_,_,_,_,_,_,_,_,_,_,_,_,rfl,_,_,_,_,_,_,_⟩:=Y2r hr) | (obtain⟨_,_,rfl,_⟩:=Y0r hr) | (obtain⟨_,_,_,_,rfl,_,_⟩:=Z2g hr) | (obtain⟨_,_,_,_,_,_,rfl,_,_,_⟩:=Y0q hr) | (obtain rfl:=Z3u hr) | (obtain rfl:=Z7w hr) | (obtain⟨_,_,rfl,_⟩:=Z6v hr) | (obtain rfl:=Z2s hr) | (obtain rfl:=Y0p hr) | (obtain⟨_,_,rfl,_⟩:=H0 hr) | (obtain⟨_,_,_,_,_,_,_,_,_,_,rfl,_,_,_,_,_⟩:=Z5k hr) | (obtain⟨_,_,rfl,_⟩:=Z2w hr) | (obtain⟨_,_,_,_,rfl,_,_⟩:=Z0i hr) | (obtain⟨_,_,_,_,_,_,rfl,_,_,_⟩:=Y5e hr) | (obtain rfl:=Z4y hr) | (obtain⟨_,_,rfl,_⟩:=Y0o hr) | (obtain⟨_,_,rfl,_⟩:=M9 hr) | (obtain⟨_,_,rfl,_⟩:=Z8z hr) | (obtain⟨_,_,rfl,_⟩:=Q5y hr) | (obtain⟨_,_,rfl,_⟩:=Z6z hr) | (obtain rfl:=Z1x hr) | (obtain⟨_,_,rfl,_⟩:=Y2g hr) | (obtain⟨_,_,_,_,rfl,_,_⟩:=Z6w hr) | (obtain rfl:=Z2u hr) | (obtain rfl:=Z3t hr)))))) | (obtain⟨hro,hm⟩:=bindR hm) | (obtain⟨hnz,hm⟩:=bindN hm) | (obtain⟨_,hx,hm⟩:=bindU hm; (try (obtain⟨_,_,he,_⟩:=SlR.part (slS (by assumption)) hx))) | with_reducible refine rg ?_ | ((with_reducible apply pv); (exact opv)) | ((with_reducible apply gT); (exact rfl); (exact rfl); (first | assumption | exact rfl)) | ((with_reducible apply gF); (exact rfl); (exact rfl); (first | assumption | exact rfl)) | ((with_reducible apply gU); (exact rfl); (exact rfl)) | ((with_reducible apply s0a); (exact rfl); (exact rfl); (exact gwS); (intro _; exact opv)) | ((with_reducible apply sUa); (exact rfl); (exact gUS)) | ((with_reducible apply s1a); (exact rfl); (exact rfl); (exact gwS); (exact opv)) | ((with_reducible apply And.intro); (exact stS)) | ((with_reducible apply qv); (intro _ _; exact opq)) | ((with_reducible apply qgT); (exact rfl); (exact rfl); (first | assumption | exact rfl)) | ((with_reducible apply qgF); (exact rfl); (exact rfl); (first | assumption | exact rfl)) | ((with_reducible apply qgU); (exact rfl); (exact rfl)) | ((with_reducible apply t0a); (exact rfl); (exact rfl); (exact rfl); (exact gwS); (intro _; exact opv)) | ((with_reducible apply tUa); (exact rfl); (exact rfl); (exact gUS); (kernel_rfl)) | ((with_reducible apply t1a); (exact rfl); (exact rfl); (exact rfl); (exact gwS); (exact opv)) | with_reducible refine nil ?_ | with_reducible refine Y6c ?_ | with_reducible refine t_blk ?_ | with_reducible refine se ?_ | with_reducible refine seP ?_ | with_reducible refine te ?_ | with_reducible refine teP ?_ | with_reducible refine qn ?_ | with_reducible refine skp ?_ | with_reducible refine xt ?_ | with_reducible refine x_then ?_ | with_reducible refine x_eq ?_ | with_reducible refine x_ne (by decide) ?_ | with_reducible refine rtn ?_ | with_reducible refine r_then ?_ | with_reducible refine r_blk ?_ | ((with_reducible apply pv); (exact opx)) | ((with_reducible apply zcP); (exact hS); (exact hm); (exact rfl); (exact inferInstance); (exact rfl); (intro c; exact ctS c hS); (all_goals (intro y v T w im h hm; (repeat (first | (obtain⟨rfl,h⟩:=h) | (obtain⟨_,h⟩:=h))); (have hS:=(by assumption:Sep _ _ w _))))) | ((with_reducible apply zcPN); (exact hS); (exact hm); (exact rfl); (exact inferInstance); (exact rfl); (intro c; exact ctS c hS); (all_goals (intro y v T w im h hm; (repeat (first | (obtain⟨rfl,h⟩:=h) | (obtain⟨_,h⟩:=h))); (have hS:=(by assumption:Sep _ _ w _))))) | ((with_reducible apply zcB); (exact hS); (exact hm); (exact rfl); (exact inferInstance); (exact rfl); (intro c; exact ctS c hS); (all_goals (intro y v T w im h hm; (repeat (first | (obtain⟨rfl,h⟩:=h) | (obtain⟨_,h⟩:=h))); (have hS:=(by assumption:Sep _ _ w _))))) | ((with_reducible apply zcBN); (exact hS); (exact hm); (exact rfl); (exact inferInstance); (exact rfl); (intro c; exact ctS c hS); (all_goals (intro y v T w im h hm; (repeat (first | (obtain⟨rfl,h⟩:=h) | (obtain⟨_,h⟩:=h))); (have hS:=(by assumption:Sep _ _ w _))))) | ((with_reducible apply zst); (exact hS); (exact rfl); (exact atS); (exact tyS); (exact rfl); (exact lsS); (exact rfl); (exact rfl); (exact rfl); (intro w im hS)) | ((with_reducible apply zsb); (exact hS); (exact rfl); (exact lnS); (exact atS); (exact tyS); (exact rfl); (exact lsS); (exact rfl); (exact rfl); (exact rfl); (intro w im hS)) | ((with_reducible apply zal); (exact hS); (exact tyZ); (exact lsS); (intro w b im hS)) | ((with_reducible apply zbx); (exact hS); (exact rfl); (exact lsS); (intro w b im hS)) | (refine cndH rfl hm ?_ ?_ <;> intro hb hm) | (refine cnd (b:=true) rfl (fun _ => ?_) (fun h=>nomatch h)) | (refine cnd (b:=false) rfl (fun h=>nomatch h) (fun _ => ?_)) | (with_reducible refine sq2 ?_) | (with_reducible refine blk ?_) | ((with_reducible apply wl); (exact rfl); (apply panO); (exact rfl)) | (exact nnS hm) | (exact reZ hm hS) | (exact peZ hm hS) | ((with_reducible apply (zbs 1)); (exact hS); (assumption); (first | exact⟨mkS,qZt⟩ | exact⟨mkS,mkS,qZt⟩ | exact⟨mkS,mkS,mkS,qZt⟩ | exact⟨mkS,mkS,mkS,mkS,qZt⟩); (exact tyU); (exact tyS); (exact tyZ); (exact rfl); (exact rfl); (exact rfl); (exact rfl); (kernel_rfl); (exact rfl); (intro w a m c im hS)) | ((with_reducible apply (zbs 2)); (exact hS); (assumption); (first | exact⟨mkS,qZt⟩ | exact⟨mkS,mkS,qZt⟩ | exact⟨mkS,mkS,mkS,qZt⟩ | exact⟨mkS,mkS,mkS,mkS,qZt⟩); (exact tyU); (exact tyS); (exact tyZ); (exact rfl); (exact rfl); (exact rfl); (exact rfl); (kernel_rfl); (exact rfl); (intro w a m c im hS)) | ((with_reducible apply (zbs 3)); (exact hS); (assumption); (first | exact⟨mkS,qZt⟩ | exact⟨mkS,mkS,qZt⟩ | exact⟨mkS,mkS,mkS,qZt⟩ | exact⟨mkS,mkS,mkS,mkS,qZt⟩); (exact tyU); (exact tyS); (exact tyZ); (exact rfl); (exact rfl); (exact rfl); (exact rfl); (kernel_rfl); (exact rfl); (intro w a m c im hS)) | ((with_reducible apply (zbs 4)); (exact hS); (assumption); (first | exact⟨mkS,qZt⟩ | exact⟨mkS,mkS,qZt⟩ | exact⟨mkS,mkS,mkS,qZt⟩ | exact⟨mkS,mkS,mkS,mkS,qZt⟩); (exact tyU); (exact tyS); (exact tyZ); (exact rfl); (exact rfl); (exact rfl); (exact rfl); (kernel_rfl); (exact rfl); (intro w a m c im hS)) | (exact lgZ hm hS) | (exact jeZ hm hS) | (exact eoZ hm hS) | (have hm:=Q5r hm (by assumption) (by assumption)) | (have hm:=S4 hm (by assumption) (by assumption)) | ((with_reducible apply s0a); (exact rfl); (exact rfl); (exact gwS); (intro _; exact opx)) | ((with_reducible apply s1a); (exact rfl); (exact rfl); (exact gwS); (exact opx)) | ((with_reducible apply t0a); (exact rfl); (exact rfl); (exact rfl); (exact gwS); (intro _; exact opx)) | ((with_reducible apply t1a); (exact rfl); (exact rfl); (exact rfl); (exact gwS); (exact opx)) | ((with_reducible apply t0a); (exact rfl); (exact rfl); (exact rfl); (exact gwS); (intro _; exact opv)) | ((with_reducible apply tUa); (exact rfl); (exact rfl); (exact gUS); (kernel_rfl)) | ((with_reducible apply t1a); (exact rfl); (exact rfl); (exact rfl); (exact gwS); (exact opv)) | (with_reducible refine te ?_) | (with_reducible refine teP ?_) | (with_reducible refine se ?_) | (with_reducible refine seP ?_) | ((with_reducible apply idS); (obtain⟨y,hx,hm⟩:=Y0 hm); (try (rcases y with e | y <;> first | (have hm:=J1 hm) | (have hm:=N4 hm)))) | ((with_reducible apply idT); (obtain⟨y,hx,hm⟩:=Y0 hm); (try (rcases y with e | y <;> first | (have hm:=J1 hm) | (have hm:=N4 hm)))) | ((with_reducible apply s2Z); (assumption); (exact lsZ); (exact rfl); (exact gwS); (exact rfl); (kernel_rfl)) | ((with_reducible apply twZ); (assumption); (exact rfl); (exact lsZ); (exact rfl); (exact wt_of rfl rfl gwS); (exact rfl); (kernel_rfl); (kernel_rfl)) | (with_reducible exact brs0) | (with_reducible refine brsC ?_ ?_) | ((with_reducible apply brZ); (assumption); (exact lsZ); (exact lsZ); (exact rfl); (kernel_rfl); (kernel_rfl); (exact gwS); (kernel_rfl)) | ((with_reducible apply zoS); (exact hS); (exact rfl); (exact inferInstance); (exact rfl); (intro c; exact ctS c hS); (intro v T w im h; (repeat (first | (obtain⟨rfl,h⟩:=h) | (obtain⟨_,h⟩:=h))); (have hS:=(by assumption:Sep _ _ w _)))) | ((with_reducible apply zoN); (exact hS); (exact rfl); (exact inferInstance); (exact rfl); (intro c; exact ctS c hS); (intro v T w im h; (repeat (first | (obtain⟨rfl,h⟩:=h) | (obtain⟨_,h⟩:=h))); (have hS:=(by assumption:Sep _ _ w _)))) | ((with_reducible apply zoE); (exact hS); (assumption); (exact rfl); (exact inferInstance); (exact rfl); (intro c; exact ctS c hS); (intro v T w im h; (repeat (first | (obtain⟨rfl,h⟩:=h) | (obtain⟨_,h⟩:=h))); (have hS:=(by assumption:Sep _ _ w _)))) | ((with_reducible apply zoK); (exact hS); (exact rfl); (exact inferInstance); (exact rfl); (intro c; exact ctS c hS); (exact rfl); (intro v T w im h; (repeat (first | (obtain⟨rfl,h⟩:=h) | (obtain⟨_,h⟩:=h))); (have hS:=(by assumption:Sep _ _ w _)))) | ((with_reducible apply zoKN); (exact hS); (exact rfl); (exact inferInstance); (exact rfl); (intro c; exact ctS c hS); (exact rfl); (intro v T w im h; (repeat (first | (obtain⟨rfl,h⟩:=h) | (obtain⟨_,h⟩:=h))); (have hS:=(by assumption:Sep _ _ w _)))) | ((with_reducible apply zost); (exact hS); (exact rfl); (exact atS); (exact tyS); (exact rfl); (exact lsS); (exact rfl); (exact rfl); (exact rfl); (intro w im hS)) | ((with_reducible apply zosb); (exact hS); (exact rfl); (exact lnS); (exact atS); (exact tyS); (exact rfl); (exact lsS); (exact rfl); (exact rfl); (exact rfl); (intro w im hS)) | ((with_reducible apply zoal); (exact hS); (exact tyZ); (exact lsS); (intro w b im hS)) | ((with_reducible apply zobx); (exact hS); (exact rfl); (exact lsS); (intro w b im hS)) | ((with_reducible apply (zobs 1)); (exact hS); (assumption); (first | exact⟨mkS,qZt⟩ | exact⟨mkS,mkS,qZt⟩ | exact⟨mkS,mkS,mkS,qZt⟩ | exact⟨mkS,mkS,mkS,mkS,qZt⟩); (exact tyU); (exact tyS); (exact tyZ); (exact rfl); (exact rfl); (exact rfl); (exact rfl); (kernel_rfl); (exact rfl); (intro w a m c im hS)) | ((with_reducible apply (zobs 2)); (exact hS); (assumption); (first | exact⟨mkS,qZt⟩ | exact⟨mkS,mkS,qZt⟩ | exact⟨mkS,mkS,mkS,qZt⟩ | exact⟨mkS,mkS,mkS,mkS,qZt⟩); (exact tyU); (exact tyS); (exact tyZ); (exact rfl); (exact rfl); (exact rfl); (exact rfl); (kernel_rfl); (exact rfl); (intro w a m c im hS)) | ((with_reducible apply (zobs 3)); (exact hS); (assumption); (first | exact⟨mkS,qZt⟩ | exact⟨mkS,mkS,qZt⟩ | exact⟨mkS,mkS,mkS,qZt⟩ | exact⟨mkS,mkS,mkS,mkS,qZt⟩); (exact tyU); (exact tyS); (exact tyZ); (exact rfl); (exact rfl); (exact rfl); (exact rfl); (kernel_rfl); (exact rfl); (intro w a m c im hS)) | ((with_reducible apply (zobs 4)); (exact hS); (assumption); (first | exact⟨mkS,qZt⟩ | exact⟨mkS,mkS,qZt⟩ | exact⟨mkS,mkS,mkS,qZt⟩ | exact⟨mkS,mkS,mkS,mkS,qZt⟩); (exact tyU); (exact tyS); (exact tyZ); (exact rfl); (exact rfl); (exact rfl); (exact rfl); (kernel_rfl); (exact rfl); (intro w a m c im hS)) | (rcases bc hm with ⟨hb,hm⟩ | ⟨hb,hm⟩))):A:=h hm hS
theorem zk {A:Prop} (h:A:=by
  intro y v T w im h hm
  (repeat (first | (obtain⟨rfl,h⟩:=h) | (obtain⟨_,h⟩:=h)))
  (have hS:=(by assumption:Sep _ _ w _))
  exact zr hm hS):A:=h
theorem zo {A H:Prop} (hm:H) (h:H→A:=by
  intro hm v T w im h
  (repeat (first | (obtain⟨rfl,h⟩:=h) | (obtain⟨_,h⟩:=h)))
  (have hS:=(by assumption:Sep _ _ w _))
  exact zr hm hS):A:=h hm
variable {b1 b2 Z9 Q0l Z8t Z8s Z9v c1 c2 c3 c4 c5 c6 c7 c8 c9 c10 c11 c12 c13 n1 n2 n3 n4 n5 n6 n7 Z8 Q0k Z7z Z7y Z9i oo1 oo2:Nat} {H1 H2 Z5 H6 Z5w Z5v Z8v:List Value→Y9} {a1 a2 a3 a4 a5 a6 a7 a8 a9 a10 a11 a12 a13:OA} {r1 r2:Option Nat} {pv1:Value}
section
variable (a91 a92 a93 a94 a95 a96 a97 a98 a99 a910 a911 a912 a913:OA) (n91 n92 n93 n94 n95 n96 n97 n98 n99 n910 n911 n912 n913 n914 n915 n916 n917 n918 n919 n920 n921 n922 n923 n924 n925 n926 n927 n928 n929:Nat) (H91 H92:List Value→Y9) (T91:TP) (w91 w92 w93:World) (pv91 pv92:Value) (r91 r92 r93:Option Nat) (R91:List Y9)
abbrev Q1 (x92:Z0):=(H91 [sv a91 x92.l n91,iv x92.end_.Line,iv x92.end_.Col,iv x92.depth]:Y9)
abbrev Q20 (x91:Q0):=(Y5p U5 pv91 x91.fun_:Y9)
abbrev Q2 (x90:Q0):=(X3 x90 H91 H92 n91 n92 a91 n93 n94 a92 n95 n96 a93 n97 n98 a94 n99 n910 r91 r92 a95 n911 n912 a96 n913 n914 pv91 ++ [Q20 pv91 x90]:List Y9)
abbrev Q3 (x94:Z1):=(Sep w91 T91 w92 (R91++K9 x94 H91 H92 a91 n91 a92 n92 a93 n93 n94 n95 a94 n96 n97 a95 n98 a96 n99 n910 a97 n911)∧SlR Q3t T91 w92 (sv a91 x94.u.Globals n91) x94.u.Globals∧SlR (rSl (J6 .u8)) T91 w92 (sv a92 x94.u.Data n92) x94.u.Data∧SlR Q8v T91 w92 (sv a93 x94.u.Codes n93) x94.u.Codes∧SlR (J6 .u32) T91 w92 (sv a95 x94.inputs n98) x94.inputs∧SlR Q5x T91 w92 (sv a97 x94.vars n911) x94.vars∧True:Prop)
abbrev Q4 (x90) (x91) (x95) (x96):=(fun T w v => ∃ a3 c3,v = .iface 76 (.agg (B9 x90 x91).toArray)∧Sep w91 T w (R91 ++ [Q1 a3 c3 H91 x95])∧SlR Q8u T w (sv a3 x96 c3) x96∧True:TP→World→Value→Prop)
abbrev Q5 (x93:Z1):=(SlR Q3t T91 w91 (sv a91 x93.u.Globals n91) x93.u.Globals∧SlR (rSl (J6 .u8)) T91 w91 (sv a92 x93.u.Data n92) x93.u.Data∧SlR Q8v T91 w91 (sv a93 x93.u.Codes n93) x93.u.Codes∧SlR (J6 .u32) T91 w91 (sv a94 x93.inputs n94) x93.inputs∧SlR Q5x T91 w91 (sv a95 x93.vars n95) x93.vars:Prop)
abbrev Q6 (x90) (x91) (x926):=(fun T w v => ∃ a11 n9 c11,v = .iface 89 (.agg (B9 x90 x91).toArray)∧Sep w91 T w (R91++(Q2 a11 a91 a92 a93 a94 a95 n91 n92 n9 c11 n93 n94 n95 n96 n97 n98 n99 n910 n911 n912 H91 H92 pv91 r91 r92 x926))∧True:TP→World→Value→Prop)
abbrev Q7 (x92:Z1):=(H91 [sv a91 x92.u.Globals n91,sv a92 x92.u.Data n92,sv a93 x92.u.Codes n93,iv x92.u.Main,pt n94 n95,sv a94 x92.inputs n96,.slice a95 n97 n98,iv x92.out.Ins,.int .u32 x92.out.Exit,iv x92.out.E,iv x92.fuel,iv x92.deep,pv91,.int .u32 x92.ret.Num,iv x92.ret.Ptr.Obj,iv x92.ret.Ptr.Lo,iv x92.ret.Ptr.Hi,iv x92.ret.Ptr.Off,.bool x92.ret.Is]:Y9)
abbrev Q8 (x93:Z0):=(SlR Q8u T91 w91 (sv a91 x93.l n91) x93.l:Prop)
abbrev Q9 (x90:Y1) (x925):=(fun T w v => ∃ a27 c27 a28 n19 c28,v = .agg (R8 x90 a27 c27).toArray∧Sep w91 T w (R91++(Q2 a28 a91 a92 a93 a94 a95 n91 n92 n19 c28 n93 n94 n95 n96 n97 n98 n99 n910 n911 n912 H91 H92 pv91 r91 r92 x925))∧SlR X6 T w (sv a27 x90.term.Kids c27) x90.term.Kids∧True:TP→World→Value→Prop)
abbrev Q10 (x93):=(SlR F0 T91 w91 (sv a91 x93 n91) x93:Prop)
abbrev Q11 (x93):=(SlR X6 T91 w91 (sv a91 x93 n91) x93:Prop)
abbrev Q12 (x93):=(J2 P4 123 (.slice a91 n91 n92) x93:Y9)
abbrev Q13 (x90:U7) (x925):=(fun T w v => ∃ a17 c17 a18 c18 a19 c19 a20 c20 a21 c21 a22 n13 c22,v = .agg (Z3m x90 a17 c17 a18 c18 a19 c19 a20 c20 a21 c21).toArray∧Sep w91 T w (R91++(Q2 a22 a91 a92 a93 a94 a95 n91 n92 n13 c22 n93 n94 n95 n96 n97 n98 n99 n910 n911 n912 H91 H92 pv91 r91 r92 x925))∧Q11 a17 c17 T w x90.A∧Q11 a18 c18 T w x90.Post∧SlR C2 T w (sv a19 x90.Body c19) x90.Body∧SlR C2 T w (sv a20 x90.Else c20) x90.Else∧SlR Q6l T w (sv a21 x90.Cases c21) x90.Cases∧True:TP→World→Value→Prop)
abbrev Q14 (x93):=(Q9w K4 145 (.slice a91 n91 n92) x93:Y9)
abbrev Q15 (x93):=(SlR (J6 .u32) T91 w91 (sv a91 x93 n91) x93:Prop)
abbrev Q16:=(Sep w91 T91 w92 (R91 ++ [])∧True:Prop)
abbrev Q17 (x93):=(SlR (rSl (J6 .u8)) T91 w91 (sv a91 x93 n91) x93:Prop)
abbrev Q66 (x93):=(J2 C2 155 (.slice a91 n91 n92) x93:Y9)
abbrev Q18 (x92:Q0) (x925):=(fun T w v => ∃ a33 n19 c33 a34 n20 c34,v = .slice a33 n19 c33∧Sep w91 T w (R91++(X3 x92 H91 H92 n91 n92 a34 n20 c34 a91 n93 n94 a92 n95 n96 a93 n97 n98 r91 r92 a94 n99 n910 a95 n911 n912 pv91 ++ [Q20 pv91 x92,Q66 a33 n19 c33 x925]))∧True:TP→World→Value→Prop)
abbrev Q19 (x90) (x94) (x95):=(fun T w v => ∃ a3 c3 a4 c4,v = .agg (F5 x90 a3 c3).toArray∧Sep w91 T w (R91 ++ [Q1 a4 c4 H91 x94])∧Q10 a3 c3 T w x95∧Q8 a4 c4 T w x94∧True:TP→World→Value→Prop)
abbrev Q21 (x93):=(SlR Q3t T91 w91 (sv a91 x93 n91) x93:Prop)
abbrev Q22 (x94):=(Sep w91 T91 w92 (R91++X3 x94 H91 H92 n91 n92 a91 n93 n94 a92 n95 n96 a93 n97 n98 a94 n99 n910 r91 r92 a95 n911 n912 a96 n913 n914 pv91)∧True:Prop)
abbrev Q23 (x90):=(.string ⟨x90⟩:Value)
abbrev Q24 (x93):=(SlR Q8v T91 w91 (sv a91 x93 n91) x93:Prop)
abbrev Q25 (x90) (x91):=(.agg (B9 x90 x91).toArray:Value)
abbrev Q26 (x92):=K2 T91 w91 fun T w v=>v = .bool x92∧Q16 T w92 w R91
abbrev Q27 (x92:Z1):=(H91 [sv a91 x92.u.Globals n91,sv a92 x92.u.Data n92,sv a93 x92.u.Codes n93,iv x92.u.Main,pt n94 n95,sv a94 x92.inputs n96,.slice a95 n97 n98,iv x92.out.Ins,.int .u32 x92.out.Exit,iv x92.out.E,iv x92.fuel,iv x92.deep,.slice a96 n99 n910,.int .u32 x92.ret.Num,iv x92.ret.Ptr.Obj,iv x92.ret.Ptr.Lo,iv x92.ret.Ptr.Hi,iv x92.ret.Ptr.Off,.bool x92.ret.Is]:Y9)
abbrev Q28 (x94):=(Sep w91 T91 w92 ([Y6 R91]++X3 x94 H91 H92 n91 n92 a91 n93 n94 a92 n95 n96 a93 n97 n98 a94 n99 n910 r91 r92 a95 n911 n912 a96 n913 n914 pv91):Prop)
abbrev Q29 (x92) (x99):=K2 T91 w91 fun T w v => ∃ a131 c131 a132 c132 a133 c133 a134 n27 c134 a135 c135 a136 n28 c136 a137 c137,v=iv x92∧Q3 a131 a132 a133 a134 a135 a136 a137 c131 c132 c133 n91 n92 n27 c134 c135 n28 c136 c137 H91 H92 T w92 w R91 x99
abbrev Q92:=(H91 [.slice a91 n91 n92]:Y9)
abbrev Q30 (x98):=(Sep w91 T91 w92 (R91 ++ [Q92 a91 n91 n92 H91,Q12 a91 n91 n92 x98])∧True:Prop)
abbrev Q31 (x93:Z1):=(SlR Q5x T91 w91 (sv a91 x93.vars n91) x93.vars:Prop)
abbrev Q32 (x91):=(U6 n91 (F5 x91 a91 n92):Y9)
abbrev Q33 (x929):=(Sep w91 T91 w92 ([Y6 R91]++(Q2 a91 a92 a93 a94 a95 a96 n91 n92 n93 n94 n95 n96 n97 n98 n99 n910 n911 n912 n913 n914 H91 H92 pv91 r91 r92 x929)):Prop)
abbrev Q43 (x93:Z1):=(J2 (J6 .u32) 33 (.slice a91 n91 n92) x93.out.Out:Y9)
abbrev Q34 (x91) (x921:Z1):=(pv91 = .bool x91∧Sep w91 T91 w92 (R91 ++ [Q7 a91 a92 a93 a94 a95 n91 n92 n93 n94 n95 n96 n97 n98 H91 pv92 x921,Q92 a96 n99 n910 H92,Q14 a96 n99 n910 x921.mem.list,Q43 a95 n97 n98 x921])∧Q21 a91 n91 T91 w92 x921.u.Globals∧Q17 a92 n92 T91 w92 x921.u.Data∧Q24 a93 n93 T91 w92 x921.u.Codes∧Q15 a94 n96 T91 w92 x921.inputs∧True:Prop)
abbrev Q35 (x93):=(SlR Q7l T91 w91 (sv a91 x93 n91) x93:Prop)
abbrev Q36 (x98):=(Sep w91 T91 w92 [Y6 R91,Q92 a91 n91 n92 H91,Q12 a91 n91 n92 x98]:Prop)
abbrev Q37 (x92):=K2 T91 w91 fun T w v=>v=iv x92∧Q16 T w92 w R91
abbrev Q38 (x97):=(Sep w91 T91 w92 [Y6 R91,Q1 a91 n91 H91 x97]:Prop)
abbrev Q39 (x93):=(SlR Q1r T91 w91 (sv a91 x93 n91) x93:Prop)
abbrev Q40 (x92):=K2 T91 w91 fun T w v=>v = .int .u32 x92∧Q16 T w92 w R91
abbrev Q41 (x90):=(.agg (F5 x90 a91 n91).toArray:Value)
abbrev Q42 (x94):=(Sep w91 T91 w92 ([Y6 R91]++K9 x94 H91 H92 a91 n91 a92 n92 a93 n93 n94 n95 a94 n96 n97 a95 n98 a96 n99 n910 a97 n911):Prop)
abbrev Q44 (x98):=(Sep w91 T91 w92 [Y6 R91,Q92 a91 n91 n92 H91,Q14 a91 n91 n92 x98]:Prop)
abbrev Q45 (x93) (x94):=(fun T w v => ∃ a10 n2 c10 a11 c11,v = .slice a10 n2 c10∧Sep w91 T w (R91 ++ [Q1 a11 c11 H91 x93,J2 F0 208 (.slice a10 n2 c10) x94])∧Q8 a11 c11 T w x93∧True:TP→World→Value→Prop)
abbrev Q46 (x91):=(U6 n91 (R8 x91 a91 n92):Y9)
abbrev Q47 (x98):=(Sep w91 T91 w92 (R91 ++ [Q92 a91 n91 n92 H91,Q14 a91 n91 n92 x98]):Prop)
abbrev Q48 (x90:Pos):=(.agg #[iv x90.Line,iv x90.Col]:Value)
abbrev Q49 (x90) (x91) (x926):=(fun T w v => ∃ a9 n9 c9,v = .iface 89 (Q25 x90 x91)∧Q22 a9 a91 a92 a93 a94 a95 n91 n92 n9 c9 n93 n94 n95 n96 n97 n98 n99 n910 n911 n912 H91 H92 T w91 w pv91 r91 r92 R91 x926:TP→World→Value→Prop)
abbrev Q50 (x91:Y5):=(U6 n91 [iv x91.Kind,iv x91.Fn,.int .u32 x91.Num,iv x91.Var,.bool x91.Global,iv x91.Size,.bool x91.Post,.bool x91.Ptr,.slice a91 n92 n93]:Y9)
abbrev Q51 (x94:Z1):=(Q21 a91 n91 T91 w91 x94.u.Globals∧Q17 a92 n92 T91 w91 x94.u.Data∧Q24 a93 n93 T91 w91 x94.u.Codes∧Q15 a94 n94 T91 w91 x94.inputs:Prop)
abbrev Q52:=((qZs []):Value)
abbrev Q53 (x93):=(SlR C2 T91 w91 (sv a91 x93 n91) x93:Prop)
abbrev Q54 (x90):=(.agg (V8 x90 a91 n91).toArray:Value)
abbrev Q55 (x90):=(.agg (O4 x90).toArray:Value)
abbrev Q56 (x90):=(.agg (I3 x90).toArray:Value)
abbrev Q57 (x92) (x912):=K2 T91 w91 fun T w v=>v = .bool x92∧Sep w92 T w (R91 ++ [H91 [pt n91 n92],Q92 a91 n93 n94 H92,Q12 a91 n93 n94 x912])∧True
abbrev Q58 (x97) (x99:F6):=(Sep w91 T91 w92 (R91 ++ [Q1 a91 n91 H91 x97,H92 (Z3l x99 a92 n92 a93 n93 a94 n94 a95 n95 a96 n96 a97 n97 a98 n98)])∧Q8 a91 n91 T91 w92 x97∧Q10 a92 n92 T91 w92 x99.A∧Q10 a93 n93 T91 w92 x99.B∧Q10 a94 n94 T91 w92 x99.C∧Q39 a95 n95 T91 w92 x99.Var∧Q35 a96 n96 T91 w92 x99.Body∧Q35 a97 n97 T91 w92 x99.Else∧SlR Z0j T91 w92 (sv a98 x99.Cases n98) x99.Cases∧True:Prop)
abbrev Q59 (x98):=([Y6 R91,H91 [pt n91 n92],Q92 a91 n93 n94 H92,Q12 a91 n93 n94 x98]:List Y9)
abbrev Q60 (x92) (x915):=K2 T91 w91 fun T w v => ∃ a13 c13 a14 c14 a15 c15 a16 c16 a17 c17,v = .bool x92∧Q3 a13 a14 a15 a91 a16 a92 a17 c13 c14 c15 n91 n92 n93 n94 c16 n95 n96 c17 H91 H92 T w92 w R91 x915
abbrev Q61 (x90) (x91) (x929):=(fun T w v=>v = .iface 89 (Q25 x90 x91)∧Q22 a91 a92 a93 a94 a95 a96 n91 n92 n93 n94 n95 n96 n97 n98 n99 n910 n911 n912 n913 n914 H91 H92 T w91 w pv91 r91 r92 R91 x929:TP→World→Value→Prop)
abbrev Q62 (x90:N0) (x94):=(fun T w v => ∃ a32 c32 a33 c33 a34 c34,v = .agg (Y1k x90 a32 c32 a33 c33).toArray∧Sep w91 T w (R91 ++ [Q1 a34 c34 H91 x94])∧Q15 a32 c32 T w x90.Dims∧Q10 a33 c33 T w x90.Init∧Q8 a34 c34 T w x94∧True:TP→World→Value→Prop)
abbrev Q63 (x93):=(SlR Q2q T91 w91 (sv a91 x93 n91) x93:Prop)
abbrev Q89 (x93):=(J2 X6 197 (.slice a91 n91 n92) x93:Y9)
abbrev Q64 (x91) (x97:U7) (x99) (x922:Q0) (x923):=([U6 n91 (Y9y x91 a91 n92),J2 Q6l 236 (.slice a92 n93 n94) x97.Cases,Z5l (Value.int .u32) Value.bool (.map r91) x99,U6 n95 [iv x97.Kind,.slice a93 n96 n97,sv a94 x97.Post n98,.bool x97.First,sv a95 x97.Body n99,sv a96 x97.Else n910,.slice a92 n93 n94,iv x97.Var],Q89 a93 n96 n97 x97.A,U6 n911 zv6,Y6 R91]++(X3 ({x922 with t:=x923}) H91 H92 n912 n913 a97 n914 n915 a98 n916 n917 a99 n918 n919 a910 n920 n921 r92 r93 a911 n922 n923 a912 n924 n925 (pt n926 0) ++ [Y5p U5 (pt n926 0) x922.fun_]):List Y9)
abbrev Q65 (x92) (x93) (x97):=K2 T91 w91 fun T w v => ∃ a5 n4 c5,v = .tuple #[iv x92,iv x93]∧Q30 a5 n4 c5 H91 T w92 w R91 x97
abbrev Q67 (x91):=(U6 n91 (I3 x91):Y9)
abbrev Q68 (x92):=K2 T91 w91 fun T w v=>v = .agg (I3 x92).toArray∧Q16 T w92 w R91
abbrev Q69 (x916) (x921):=([Y6 R91,Q7 a91 a92 a93 a94 a95 n91 n92 n93 n94 n95 n96 n97 n98 H91 pv91 x916,Q92 a96 n99 n910 H92,Q14 a96 n99 n910 x921,Q43 a95 n97 n98 x916]:List Y9)
abbrev Q70 (x92) (x99) (x910):=K2 T91 w91 fun T w v => ∃ pv1,v = .tuple #[pv1,iv x92]∧Q47 a91 n91 n92 H91 T w92 w R91 x99∧IpR pv1 (.slice a91 n91 n92) 4 x910∧True
abbrev Q71 (x91:E3):=(.agg #[sv a91 x91.Structs n91,sv a92 x91.Globals n92,sv a93 x91.Funcs n93]:Value)
abbrev Q72 (x93):=(SlR Q2q T91 w91 (sv a91 x93 n91) x93:Prop)
abbrev Q73 (x92) (x93):=K2 T91 w91 fun T w v=>v = .tuple #[.int .u32 x92,iv x93]∧Q16 T w92 w R91
abbrev Q74 (x90) (x91) (x98):=(fun T w v => ∃ a87 c87 a88 c88 a89 c89 a90 n21 c90 a91 c91 a92 n22 c92 a93 c93,v = .tuple #[Q56 x90,.bool x91]∧Q3 a87 a88 a89 a90 a91 a92 a93 c87 c88 c89 n91 n92 n21 c90 c91 n22 c92 c93 H91 H92 T w91 w R91 x98:TP→World→Value→Prop)
abbrev Q75 (x90) (x93) (x929):=(fun T w v => ∃ a10 c10,v = .agg (V8 x90 a10 c10).toArray∧Sep w91 T w (R91++X3 x93 H91 H92 n91 n92 a91 n93 n94 a92 n95 n96 a93 n97 n98 a94 n99 n910 r91 r92 a95 n911 n912 a96 n913 n914 pv91)∧Q11 a10 c10 T w x929∧True:TP→World→Value→Prop)
abbrev Q76 (x93) (x94):=(fun T w v => ∃ a22 n5 c22 a23 c23,v = .slice a22 n5 c22∧Sep w91 T w (R91 ++ [Q1 a23 c23 H91 x93,J2 Q1r 132 (.slice a22 n5 c22) x94])∧Q8 a23 c23 T w x93∧True:TP→World→Value→Prop)
abbrev Q77 (x91):=(U6 n91 (V8 x91 a91 n92):Y9)
abbrev Q78 (x91) (x913:Z1) (x914):=([U6 n91 (Z3m x91 a91 n92 a92 n93 a93 n94 a94 n95 a95 n96),Y6 R91]++K9 ({x913 with mem:=x914}) H91 H92 a96 n97 a97 n98 a98 n99 n910 n911 a99 n912 n913 a910 n914 a911 n915 n916 a912 n917:List Y9)
abbrev Q79 (x97):=(Sep w91 T91 w92 (R91 ++ [Q1 a91 n91 H91 x97])∧Q8 a91 n91 T91 w92 x97∧True:Prop)
abbrev Q80 (x94:Y1):=(Q11 a91 n91 T91 w91 x94.term.Kids:Prop)
abbrev Q81 (x91:N0):=(U6 n91 [iv x91.Pos.Line,iv x91.Pos.Col,Q23 x91.Type_.Word.toArray,Q23 x91.Type_.Name.toArray,iv x91.Type_.Stars,Q23 x91.Name.toArray,.slice a91 n92 n93,.slice a92 n94 n95,.bool x91.Brace]:Y9)
abbrev Q82 (x91) (x92) (x93) (x94) (x96) (x98):=([(2,pt n91 0),(4,.string ⟨x91⟩),(6,.int .u64 x92),(7,.int .u64 x93),(8,.bool x94),(28,.slice a91 (qQ (M5 x96)) n92),(29,iv (qQ (M5 x96):Int)),(30,iv x98)]:List (Nat×Value))
abbrev Q83 (x90:Q0) (x91):=(X3 ({x90 with t:=x91}) H91 H92 n91 n92 a91 n93 n94 a92 n95 n96 a93 n97 n98 a94 n99 n910 r91 r92 a95 n911 n912 a96 n913 n914 pv91 ++ [Q20 pv91 x90]:List Y9)
abbrev Q84:=([(0,pt n91 n92),(3,pt n93 0),(4,pt n94 0),(5,pt n95 0),(6,pt n96 0)]:List (Nat×Value))
abbrev Q85 (x91:J0):=(Z5l (Value.int .i64) Q6u (.map r91) x91.ptrs:Y9)
abbrev Q86 (x93:E3):=(SlR Q9j T91 w91 (sv a91 x93.Structs n91) x93.Structs:Prop)
abbrev Q87 (x94:Z1):=(Q15 a91 n91 T91 w91 x94.inputs:Prop)
abbrev Q88 (x92) (x93):=K2 T91 w91 fun T w v=>v = .tuple #[.agg (Y9x x92).toArray,iv x93]∧Q16 T w92 w R91
abbrev Q90 (x93):=(SlR Z0j T91 w91 (sv a91 x93 n91) x93:Prop)
abbrev Q91 (x90):=(.agg (R8 x90 a91 n91).toArray:Value)
abbrev Q93 (x93:E3):=(SlR Z2v T91 w91 (sv a91 x93.Funcs n91) x93.Funcs:Prop)
abbrev Q94 (x97):=(Sep w91 T91 w92 (R91 ++ [Q1 a91 n91 H91 x97])∧True:Prop)
abbrev Q95 (x92) (x99):=K2 T91 w91 fun T w v=>v=iv x92∧Q47 a91 n91 n92 H91 T w92 w R91 x99∧True
abbrev Q96 (x91):=(U6 n91 [iv 2,iv 0,.int .u32 0,iv x91,.bool false,iv 0,.bool false,.bool true,.slice none 0 0]:Y9)
abbrev Q97 (x94):=([U6 n91 zv1,Q32 a91 n92 n93 x94,Y6 R91]:List Y9)
abbrev Q98 (x90) (x925):=(fun T w v => ∃ a9 n9 c9,v=iv x90∧Q22 a9 a91 a92 a93 a94 a95 n91 n92 n9 c9 n93 n94 n95 n96 n97 n98 n99 n910 n911 n912 H91 H92 T w91 w pv91 r91 r92 R91 x925:TP→World→Value→Prop)
abbrev Q99 (x92) (x94) (x96):=([(0,pt n91 n92),(1,iv x92),(12,.slice a91 (qQ (M5 x94)) n93),(13,iv (qQ (M5 x94):Int)),(14,iv x96)]:List (Nat×Value))
abbrev Q100 (x91:Q8k):=(.agg #[sv a91 x91.Globals n91,sv a92 x91.Data n92,sv a93 x91.Codes n93,iv x91.Main]:Value)
abbrev Q101 (x91):=(Z5l Y1j (Value.int .i64) (.map r91) x91:Y9)
abbrev Q102 (x93):=(J2 (J6 .u8) 5 (.slice a91 n91 n92) x93:Y9)
abbrev Q103 (x90):=(.agg (Z1v x90).toArray:Value)
abbrev Q104 (x91):=(U6 n91 (O4 x91):Y9)
abbrev Q105 (x90):=(.agg (Y1k x90 a91 n91 a92 n92).toArray:Value)
end
theorem kA {A B:Prop} (k:B) (h:Kp B→A:=by
  intro k
  refine pn ?_
  refine sq2 (pu ?_)
  exact k.out):A:=h ⟨k⟩
theorem kB {A B:Prop} (k:B) (h:Kp B→A:=by
  intro k
  refine pn ?_
  refine sq2 (sq2 (pu ?_))
  exact k.out):A:=h ⟨k⟩
theorem kC {A B:Prop} (k:B) (h:Kp B→A:=by
  intro k
  refine pn ?_
  refine sq2 (sq2 (pn ?_))
  exact k.out):A:=h ⟨k⟩
theorem kD {A B:Prop} (k:B) (h:Kp B→A:=by
  intro k
  refine pn ?_
  refine sq2 (pn ?_)
  exact k.out):A:=h ⟨k⟩
theorem kE {A B:Prop} (k:B) (h:Kp B→A:=by
  intro k
  refine pn ?_
  refine sq2 ?_
  exact k.out):A:=h ⟨k⟩
theorem qU {A B:Prop} (k:B) (h:Kp B→A:=by
  intro k
  refine sq2 (pu ?_)
  exact k.out):A:=h ⟨k⟩
theorem qN {A B:Prop} (k:B) (h:Kp B→A:=by
  intro k
  refine sq2 (pn ?_)
  exact k.out):A:=h ⟨k⟩
theorem Z1f {p0:List UInt8} {p1:List UInt8} (hS:Sep g T0 w0 [Y6 R])  : ∀ r,Q5e p0 p1=some r →
    Cl 85 #[Q23 p0.toArray,Q23 p1.toArray] w0 (Q26 T0 w0 g R r):=by
  intro r hm;refine enter func85 rfl ntmps85 rfl fun J => ?_;unfold Q5e at hm;exact zr hm hS

instance : Ct 85 @Z1f:=⟨@Z1f,cf85⟩
theorem Q0q {p0:List UInt8} {p1:List UInt8} (hS:Sep g T0 w0 [Y6 R])  : ∀ r,P1 p0 p1=some r →
    Cl 44 #[Q23 p0.toArray,Q23 p1.toArray] w0 (Q26 T0 w0 g R r):=by
  intro r hm;refine enter func44 rfl ntmps44 rfl fun J => ?_;unfold P1 at hm;exact zr hm hS

instance : Ct 44 @Q0q:=⟨@Q0q,cf44⟩
theorem Z9b {p0} (hS:Sep g T0 w0 [Y6 R])  : ∀ r,Z0l p0=some r →
    Cl 47 #[.int .u8 p0] w0 (Q26 T0 w0 g R r):=by
  intro r hm;refine enter func47 rfl ntmps47 rfl fun J => ?_;unfold Z0l at hm;exact zr hm hS

instance : Ct 47 @Z9b:=⟨@Z9b,cf47⟩
theorem Z8a {p0:List UInt8} (hS:Sep g T0 w0 [Y6 R])  : ∀ r,Y3u p0=some r →
    Cl 46 #[Q23 p0.toArray,.func (.func 47) #[] #[]] w0 (Q37 T0 w0 g R r):=by
  intro r hm;refine enter func46 rfl ntmps46 rfl fun J => ?_;unfold Y3u at hm;refine qN ?_;refine qN ?_;refine sq2 (lpJ hm (fun E I m a K => ∃ O D,JR (nf 20) g T0 w0 a K O (X5 E m D=some I) [(0,(qZs p0)),(1,.func (.func 47) #[] #[]),(5,iv D)] [Y6 R]) (fun _ _ h=>je h (hS.sE [0])) ?_);rintro E U I _ _ _ K ⟨O,D,J,V,rfl,W,_⟩;obtain⟨m1,_,rfl,hm,_⟩:=lrE V U;exact zr hm W

instance : Ct 46 @Z8a:=⟨@Z8a,cf46⟩
theorem Z6o {p0:List UInt8} (hS:Sep g T0 w0 [Y6 R]) (hG0:Gi T0 w0 0) : ∀ r,Z5f p0=some r →
    Cl 28 #[Q23 p0.toArray] w0 (Q37 T0 w0 g R r):=by
  intro r hm;refine enter func28 rfl ntmps28 rfl fun J => ?_;unfold Z5f at hm;refine qN ?_;refine sq2 (qU ?_);refine cB cf44 hm (Q0q (hS.bE [0] [])) ?_;rintro _ _ _ _ O ⟨rfl,I,_⟩ hm;refine cd hm ?_ ?_ <;> intro ab hm
  · refine sq2 (sq2 ?_);obtain⟨_,U,hm⟩:=Y0 hm;refine cS cf45 (Z6a (I.bE [0] []) (hG0.mono O) U) ?_;rintro _ _ _ _ ⟨rfl,D,_⟩;have D:=D.unb;refine pn ?_;refine sq2 (cd hm ?_ ?_) <;> intro ac hm
    · exact sq2 (re hm (D.sE [0]))
    refine pn ?_;exact sq2 (re hm (D.sE [0]))
  refine kB ?_;refine cB cf44 hm (Q0q (I.bE [0] [])) ?_;rintro _ _ _ _ _ ⟨rfl,K,_⟩ hm;refine cd hm ?_ ?_ <;> intro ad hm
  · refine sq2 ?_;obtain⟨u1,V,hm⟩:=Y0 hm;obtain⟨_,W,hm⟩:=Y0 hm;refine pu ?_;refine pv (r_ss rfl ⟨_,rfl⟩ rfl V underlying9) (cS cf45 (Z6a (K.bE [0] []) (hG0.mono ch) W) ?_);rintro _ _ _ _ ⟨rfl,E,_⟩;have E:=E.unb;refine pn ?_;refine sq2 (sq2 (cd hm ?_ ?_)) <;> intro ae hm
    · exact sq2 (re hm (E.sE [0]))
    refine pn ?_;exact sq2 (re hm (E.sE [0]))
  refine kA ?_;refine cB cf46 hm (Z8a (K.bE [0] [])) ?_;rintro _ _ _ _ _ ⟨rfl,aa,_⟩ hm;exact re hm (aa.sE [0])

instance : Ct 28 @Z6o:=⟨@Z6o,cf28⟩
theorem Z0k {p0:B0} {p1} (hS:Sep g T0 w0 [Y6 R,Z5 (Z4r p0)]) (Z3:Ln Z9 Z8 Z5) : ∀ r,I8 p0 p1=some r →
    Cl 29 #[pt Z9 Z8,iv p1] w0 (K2 T0 w0 fun T w v=>v = .tuple #[]∧Sep g T w (R ++ [Z5 (Z4r r)])∧True):=by
  intro r hm;refine enter func29 rfl ntmps29 rfl fun J => ?_;unfold I8 at hm;refine sq2 (sq2 ?_);obtain⟨u1,ad,hm⟩:=Y0 hm;obtain⟨_,ae,hm⟩:=Y0 hm;refine pu ?_;refine pv (r_ss rfl rfl ⟨_,rfl⟩ ad underlying9) (wl rfl (cvB hS rfl underlying9 underlying99 underlying5 (K3 ae) fun T1 w1 a1 c1 ao ah h1=>pn ?_));refine lpJ hm (fun U V m a E => ∃(I:_) (K:B0) (D:_),JR (nf 49) g T1 w1 a E I (X5 U m (D,K)=some V) (Q99 a1 Z9 Z8 c1 p1 u1 D) [Y6 R,Z5 (Z4r K)]) (fun _ _ h=>je h (ah.sE [0,1])) ?_;rintro U ai V _ _ _ E ⟨I,K,D,J,aj,rfl,W,_⟩;obtain⟨m1,z1,rfl,hm,am⟩:=lrE aj ai;refine qN ?_;refine sq2 (cd hm ?_ ?_) <;> intro ap hm
  · refine pn ?_;refine N5 hm (fun aa a w3 => ∃(T3:_) (O:B0),JR (nf 49) g I E a w3 T3 (aa O=some z1) (Q99 a1 Z9 Z8 c1 p1 u1 D) [Y6 R,Z5 (Z4r O)]) (fun aa hm => ?_) ?_
    · exact zr hm W
    rintro _ w3 ⟨T3,O,J,hm,rfl,an,_⟩;exact lg hm am (an.sE [0,1])
  exact zr hm W

instance : Ct 29 @Z0k:=⟨@Z0k,cf29⟩
theorem Z5n {p0} (hS:Sep g T0 w0 [Y6 R])  : ∀ r,Z3v p0=some r →
    Cl 48 #[.int .u8 p0] w0 (Q26 T0 w0 g R r):=by
  intro r hm;refine enter func48 rfl ntmps48 rfl fun J => ?_;unfold Z3v at hm;exact zr hm hS

instance : Ct 48 @Z5n:=⟨@Z5n,cf48⟩
theorem Y2k {p0} (hS:Sep g T0 w0 [Y6 R])  : ∀ r,Z3w p0=some r →
    Cl 51 #[.int .u8 p0] w0 (Q26 T0 w0 g R r):=by
  intro r hm;refine enter func51 rfl ntmps51 rfl fun J => ?_;unfold Z3w at hm;exact zr hm hS

instance : Ct 51 @Y2k:=⟨@Y2k,cf51⟩
theorem Y3v {p0} (hS:Sep g T0 w0 [Y6 R])  : ∀ r,Y0y p0=some r →
    Cl 49 #[.int .u8 p0] w0 (Q26 T0 w0 g R r):=by
  intro r hm;refine enter func49 rfl ntmps49 rfl fun J => ?_;unfold Y0y at hm;exact zr hm hS

instance : Ct 49 @Y3v:=⟨@Y3v,cf49⟩
theorem Z2x {p0:List UInt8} (hS:Sep g T0 w0 [Y6 R])  : ∀ r,Z5m p0=some r →
    Cl 46 #[Q23 p0.toArray,.func (.func 49) #[] #[]] w0 (Q37 T0 w0 g R r):=by
  intro r hm;refine enter func46 rfl ntmps46 rfl fun J => ?_;unfold Z5m at hm;refine qN ?_;refine qN ?_;refine sq2 (lpJ hm (fun E I m a K => ∃ O D,JR (nf 20) g T0 w0 a K O (X5 E m D=some I) [(0,(qZs p0)),(1,.func (.func 49) #[] #[]),(5,iv D)] [Y6 R]) (fun _ _ h=>je h (hS.sE [0])) ?_);rintro E U I _ _ _ K ⟨O,D,J,V,rfl,W,_⟩;obtain⟨m1,_,rfl,hm,_⟩:=lrE V U;exact zr hm W

instance : Ct 46 @Z2x:=⟨@Z2x,cf46⟩
theorem Y3y {p0:List UInt8} (hS:Sep g T0 w0 [Y6 R])  : ∀ r,Y1b p0=some r →
    Cl 50 #[Q23 p0.toArray] w0 (Q26 T0 w0 g R r):=by
  intro r hm;refine enter func50 rfl ntmps50 rfl fun J => ?_;unfold Y1b at hm;refine qN ?_;refine sq2 (qN ?_);refine blk (N5 hm (fun E a I => ∃ K D,JR (nf 23) g T0 w0 a I K (E D=some r) [(4,.bool D)] [Y6 R]) (fun E hm => ?_) ?_)
  · exact zr hm hS
  rintro _ I ⟨K,D,J,hm,rfl,O,_⟩;exact zr hm O

instance : Ct 50 @Y3y:=⟨@Y3y,cf50⟩
theorem Y2j {p0} (hS:Sep g T0 w0 [Y6 R])  : ∀ r,Q9o p0=some r →
    Cl 87 #[.int .u8 p0] w0 (K2 T0 w0 fun T w v=>v = .int .u64 r∧Q16 T g w R):=by
  intro r hm;refine enter func87 rfl ntmps87 rfl fun J => ?_;unfold Q9o at hm;exact zr hm hS

instance : Ct 87 @Y2j:=⟨@Y2j,cf87⟩
theorem Y0x {p0:List UInt8} (hS:Sep g T0 w0 [Y6 R])  : ∀ r,Z8b p0=some r →
    Cl 52 #[Q23 p0.toArray] w0 (Q88 T0 w0 g R r.1 r.2):=by
  intro r hm;refine enter func52 rfl ntmps52 rfl fun J => ?_;unfold Z8b at hm;refine sq2 (aL Y5y hS ?_);intro _ D _ an;refine kA ?_;refine cB cf46 hm (Z2x (an.bE [0,1] [])) ?_;rintro _ _ T1 w2 _ ⟨rfl,aq,_⟩ hm;obtain⟨u1,ar,hm⟩:=Y0 hm;refine pv (r_ss rfl rfl ⟨_,rfl⟩ ar underlying9) (pn ?_);refine qN ?_;refine N5 hm (fun ac a w3 => ∃(T2:_) (E:List UInt8) (I:_),JR (nf 54) g T1 w2 a w3 T2 (ac E I=some r) [(2,pt D 0),(4,(qZs u1)),(5,(qZs E)),(6,.int .u64 I)] [U6 D Y5y,Y6 R]) (fun ac hm => ?_) ?_
  · exact zr hm aq
  rintro _ w3 ⟨T2,E,I,J,hm,rfl,af,_⟩;refine sq2 (sq2 (cd hm ?_ ?_)) <;> intro aD hm
  · exact zr hm af
  refine kD ?_;refine qN ?_;refine sq2 (sq2 ?_);obtain⟨_,au,hm⟩:=Y0 hm;refine pu ?_;refine wl rfl (cvB af rfl underlying9 underlying99 underlying5 (K3 au) fun T5 w7 a1 c1 aE ax h1=>pn ?_);refine lpJ hm (fun ag o1 m a O => ∃ U V W K,JR (nf 54) g T5 w7 a O U (X5 ag m (V,W,K)=some o1) (Q82 a1 D c1 u1.toArray I V W E K) [U6 D Y5y,Y6 R]) (fun _ _ h=>je h (ax.sE [0,1])) ?_;rintro ag ay o1 _ _ _ O ⟨U,V,W,K,J,az,rfl,ai,_⟩;obtain⟨m1,z1,rfl,hm,aB⟩:=lrE az ay;refine qN ?_;refine sq2 (cd hm ?_ ?_) <;> intro aF hm
  · refine pn ?_;refine N5 hm (fun aj a w9 => ∃ T7 x6 x7,JR (nf 54) g U O a w9 T7 (aj x6 x7=some z1) (Q82 a1 D c1 u1.toArray I x6 x7 E K) [U6 D Y5y,Y6 R]) (fun aj hm => ?_) ?_
    · exact zr hm ai
    rintro _ w9 ⟨T7,x6,x7,J,hm,rfl,aC,_⟩;exact lg hm aB (aC.sE [0,1])
  exact zr hm ai

instance : Ct 52 @Y0x:=⟨@Y0x,cf52⟩
theorem Y1a {p0} (hS:Sep g T0 w0 [Y6 R])  : ∀ r,Z5o p0=some r →
    Cl 88 #[.int .u8 p0] w0 (K2 T0 w0 fun T w v=>v = .tuple #[.int .u8 r.1,.bool r.2]∧Q16 T g w R):=by
  intro r hm;refine enter func88 rfl ntmps88 rfl fun J => ?_;unfold Z5o at hm;refine qN ?_;refine sq2 (qN ?_);refine blk (sq2 (cd hm ?_ ?_)) <;> intro U hm
  · exact sq2 (re hm (hS.sE [0]))
  refine sq2 (cd hm ?_ ?_) <;> intro V hm
  · exact sq2 (re hm (hS.sE [0]))
  refine sq2 (cd hm ?_ ?_) <;> intro W hm
  · exact sq2 (re hm (hS.sE [0]))
  refine sq2 (cd hm ?_ ?_) <;> intro aa hm
  · exact sq2 (re hm (hS.sE [0]))
  refine N5 hm (fun E a I => ∃ K D,JR (nf 17) g T0 w0 a I K (E D=some r) [(0,.int .u8 p0),(13,.bool D)] [Y6 R]) (fun E hm => ?_) ?_
  · exact zr hm hS
  rintro _ I ⟨K,D,J,hm,rfl,O,_⟩;exact zr hm O

instance : Ct 88 @Y1a:=⟨@Y1a,cf88⟩
theorem Y3x {p0:List UInt8} (hS:Sep g T0 w0 [Y6 R])  : ∀ r,Z7b p0=some r →
    Cl 53 #[Q23 p0.toArray] w0 (Q88 T0 w0 g R r.1 r.2):=by
  intro r hm;refine enter func53 rfl ntmps53 rfl fun J => ?_;unfold Z7b at hm;refine sq2 (aL Y5y hS ?_);intro _ I _ D;refine kB ?_
  rcases bc hm with ⟨aj,hm⟩ | ⟨aj,hm⟩
  · obtain⟨u1,K,hm⟩:=Y0 hm;refine pu ?_;refine pv (Z7t rfl rfl K underlying9) (pu ?_)
    rcases bc hm with ⟨ak,hm⟩ | ⟨ak,hm⟩
    · obtain⟨_,am,hm⟩:=Y0 hm;refine pu ?_;refine pv (Z7t rfl rfl am underlying9) (cd hm ?_ ?_) <;> intro aY hm
      · exact zr hm D
      refine kB ?_
      rcases bc hm with ⟨an,hm⟩ | ⟨an,hm⟩
      · obtain⟨_,ao,hm⟩:=Y0 hm;refine pu ?_;refine pv (Z7t rfl rfl ao underlying9) (pu ?_)
        rcases bc hm with ⟨ap,hm⟩ | ⟨ap,hm⟩
        · obtain⟨u6,O,hm⟩:=Y0 hm;obtain rfl:u1=u6:=oI (K.symm.trans O);refine pu ?_;refine pv (Z7t rfl rfl O underlying9) (pu ?_)
          rcases bc hm with ⟨ar,hm⟩ | ⟨ar,hm⟩
          · obtain⟨u7,U,hm⟩:=Y0 hm;obtain rfl:u1=u7:=oI (O.symm.trans U);refine pu ?_;refine pv (Z7t rfl rfl U underlying9) (pu ?_)
            rcases bc hm with ⟨av,hm⟩ | ⟨av,hm⟩
            · obtain⟨u8,V,hm⟩:=Y0 hm;obtain rfl:u1=u8:=oI (U.symm.trans V);refine pu ?_;refine pv (Z7t rfl rfl V underlying9) (pu ?_)
              rcases bc hm with ⟨ax,hm⟩ | ⟨ax,hm⟩
              · obtain⟨u9,ae,hm⟩:=Y0 hm;obtain rfl:u1=u9:=oI (V.symm.trans ae);refine pu ?_;refine pv (Z7t rfl rfl ae underlying9) (pu ?_);refine nil (K1 [(0,(qZs p0)),(2,pt I 0),(59,.bool ((UInt8.toNat u1:Int) != 92))] ⟨rfl,rfl,rfl,qZt⟩ fun J => ?_);refine cd hm ?_ ?_ <;> intro aZ hm
                · refine sq2 (rsS [0,0,0,0,0,0,2,0] [0,1,2,3,4,5,6,7] D fun w5 a3 az => ?_);have dd:KD [(6,[])]:=⟨qZt⟩;exact zr hm az
                exact zr hm D
              exact zr hm D
            exact zr hm D
          exact zr hm D
        exact zr hm D
      exact zr hm D
    refine pn ?_;refine cnd (b:=false) rfl (fun h=>nomatch h) (fun _=>pn ?_);refine sq2 (qU ?_)
    rcases bc hm with ⟨aA,hm⟩ | ⟨aA,hm⟩
    · obtain⟨_,aB,hm⟩:=Y0 hm;refine pu ?_;refine pv (Z7t rfl rfl aB underlying9) (pu ?_)
      rcases bc hm with ⟨aC,hm⟩ | ⟨aC,hm⟩
      · obtain⟨aD,W,hm⟩:=Y0 hm;obtain rfl:u1=aD:=oI (K.symm.trans W);refine pu ?_;refine pv (Z7t rfl rfl W underlying9) (pu ?_)
        rcases bc hm with ⟨aE,hm⟩ | ⟨aE,hm⟩
        · obtain⟨aF,aa,hm⟩:=Y0 hm;obtain rfl:u1=aF:=oI (W.symm.trans aa);refine pu ?_;refine pv (Z7t rfl rfl aa underlying9) (pu ?_)
          rcases bc hm with ⟨aG,hm⟩ | ⟨aG,hm⟩
          · obtain⟨aI,ab,hm⟩:=Y0 hm;obtain rfl:u1=aI:=oI (aa.symm.trans ab);refine pu ?_;refine pv (Z7t rfl rfl ab underlying9) (pu ?_)
            rcases bc hm with ⟨aJ,hm⟩ | ⟨aJ,hm⟩
            · obtain⟨aK,ag,hm⟩:=Y0 hm;obtain rfl:u1=aK:=oI (ab.symm.trans ag);refine pu ?_;refine pv (Z7t rfl rfl ag underlying9) (pu ?_);refine nil (K1 [(0,(qZs p0)),(2,pt I 0),(59,.bool ((UInt8.toNat u1:Int) != 92))] ⟨rfl,rfl,rfl,qZt⟩ fun J => ?_);refine cd hm ?_ ?_ <;> intro a4 hm
              · refine sq2 (rsS [0,0,0,0,0,0,2,0] [0,1,2,3,4,5,6,7] D fun a5 a6 aM => ?_);have dd:KD [(6,[])]:=⟨qZt⟩;exact zr hm aM
              exact zr hm D
            exact zr hm D
          exact zr hm D
        exact zr hm D
      exact zr hm D
    exact zr hm D
  refine pn ?_;refine cnd (b:=false) rfl (fun h=>nomatch h) (fun _=>pn ?_);refine sq2 (qU ?_)
  rcases bc hm with ⟨aN,hm⟩ | ⟨aN,hm⟩
  · obtain⟨_,aP,hm⟩:=Y0 hm;refine pu ?_;refine pv (Z7t rfl rfl aP underlying9) (pu ?_)
    rcases bc hm with ⟨aQ,hm⟩ | ⟨aQ,hm⟩
    · obtain⟨E,ah,hm⟩:=Y0 hm;refine pu ?_;refine pv (Z7t rfl rfl ah underlying9) (pu ?_)
      rcases bc hm with ⟨aR,hm⟩ | ⟨aR,hm⟩
      · obtain⟨aS,ac,hm⟩:=Y0 hm;obtain rfl:E=aS:=oI (ah.symm.trans ac);refine pu ?_;refine pv (Z7t rfl rfl ac underlying9) (pu ?_)
        rcases bc hm with ⟨aT,hm⟩ | ⟨aT,hm⟩
        · obtain⟨aU,ad,hm⟩:=Y0 hm;obtain rfl:E=aU:=oI (ac.symm.trans ad);refine pu ?_;refine pv (Z7t rfl rfl ad underlying9) (pu ?_)
          rcases bc hm with ⟨aV,hm⟩ | ⟨aV,hm⟩
          · obtain⟨aW,ai,hm⟩:=Y0 hm;obtain rfl:E=aW:=oI (ad.symm.trans ai);refine pu ?_;refine pv (Z7t rfl rfl ai underlying9) (pu ?_);refine nil (K1 [(0,(qZs p0)),(2,pt I 0),(59,.bool ((UInt8.toNat E:Int) != 92))] ⟨rfl,rfl,rfl,qZt⟩ fun J => ?_);refine cd hm ?_ ?_ <;> intro a7 hm
            · refine sq2 (rsS [0,0,0,0,0,0,2,0] [0,1,2,3,4,5,6,7] D fun a8 a9 aX => ?_);have dd:KD [(6,[])]:=⟨qZt⟩;exact zr hm aX
            exact zr hm D
          exact zr hm D
        exact zr hm D
      exact zr hm D
    exact zr hm D
  exact zr hm D

instance : Ct 53 @Y3x:=⟨@Y3x,cf53⟩
theorem Y3w {p0:List UInt8} (hS:Sep g T0 w0 [Y6 R])  : ∀ r,Y0z p0=some r →
    Cl 54 #[Q23 p0.toArray] w0 (K2 T0 w0 fun T w v=>v=(qZs r)∧Q16 T g w R):=by
  intro r hm;refine enter func54 rfl ntmps54 rfl fun J => ?_;unfold Y0z at hm;refine qN ?_;refine qU ?_;refine pv (G3 (by kernel_rfl) rfl (u := .agg #[qZs [60,60,61],qZs [62,62,61],qZs [45,62],qZs [43,43],qZs [45,45],qZs [60,60],qZs [62,62],qZs [60,61],qZs [62,61],qZs [61,61],qZs [33,61],qZs [38,38],qZs [124,124],qZs [43,61],qZs [45,61],qZs [42,61],qZs [47,61],qZs [37,61],qZs [38,61],qZs [124,61],qZs [94,61],qZs [43],qZs [45],qZs [42],qZs [47],qZs [37],qZs [38],qZs [124],qZs [94],qZs [126],qZs [33],qZs [60],qZs [62],qZs [61],qZs [63],qZs [58],qZs [59],qZs [44],qZs [46],qZs [40],qZs [41],qZs [91],qZs [93],qZs [123],qZs [125]])) (aL [qZs [],qZs [],qZs [],qZs [],qZs [],qZs [],qZs [],qZs [],qZs [],qZs [],qZs [],qZs [],qZs [],qZs [],qZs [],qZs [],qZs [],qZs [],qZs [],qZs [],qZs [],qZs [],qZs [],qZs [],qZs [],qZs [],qZs [],qZs [],qZs [],qZs [],qZs [],qZs [],qZs [],qZs [],qZs [],qZs [],qZs [],qZs [],qZs [],qZs [],qZs [],qZs [],qZs [],qZs [],qZs []] hS ?_);intro _ _ _ aa;refine sT 0 aa ?_;intro w2 _ ac;refine kC ?_;refine lpJ hm (fun E I m a K => ∃ O D,JR (nf 16) g T0 w2 a K O (X5 E m D=some I) [(0,(qZs p0)),(7,.agg #[qZs [60,60,61],qZs [62,62,61],qZs [45,62],qZs [43,43],qZs [45,45],qZs [60,60],qZs [62,62],qZs [60,61],qZs [62,61],qZs [61,61],qZs [33,61],qZs [38,38],qZs [124,124],qZs [43,61],qZs [45,61],qZs [42,61],qZs [47,61],qZs [37,61],qZs [38,61],qZs [124,61],qZs [94,61],qZs [43],qZs [45],qZs [42],qZs [47],qZs [37],qZs [38],qZs [124],qZs [94],qZs [126],qZs [33],qZs [60],qZs [62],qZs [61],qZs [63],qZs [58],qZs [59],qZs [44],qZs [46],qZs [40],qZs [41],qZs [91],qZs [93],qZs [123],qZs [125]]),(8,iv D)] [Y6 R]) (fun _ _ h=>je h (ac.sE [1])) ?_;rintro E ad I ae _ _ K ⟨O,D,J,af,rfl,U,_⟩;obtain⟨m1,_,rfl,hm,V⟩:=lrE af ad;refine qN ?_;refine sq2 (cd hm ?_ ?_) <;> intro ah hm
  · refine kE ?_;refine blk (sq2 ?_);obtain⟨u1,ag,hm⟩:=Y0 hm;refine pu ?_;refine pv (r_axi rfl rfl (idx_map (fun z:List UInt8=>(qZs z)) ag) rfl underlying203 sizeOf9 isAgg9) (pn ?_);refine qU ?_;refine cB cf44 hm (Q0q (U.bE [0] [])) ?_;rintro _ _ _ _ _ ⟨rfl,W,_⟩ hm;refine cd hm ?_ ?_ <;> intro ai hm
    · refine qN ?_;have hm:=S4 hm V ae;exact re hm (W.sE [0])
    exact lg hm V (W.sE [0])
  exact zr hm U

instance : Ct 54 @Y3w:=⟨@Y3w,cf54⟩
theorem Z6n {p0:List UInt8} (hS:Sep g T0 w0 [Y6 R])  : ∀ r,Z5e p0=some r →
    Cl 30 #[Q23 p0.toArray] w0 (Q88 T0 w0 g R r.1 r.2):=by
  intro r hm;refine enter func30 rfl ntmps30 rfl fun J => ?_;unfold Z5e at hm;refine sq2 (aL Y5y hS ?_);intro _ E _ aa;refine kE ?_;refine blk (sq2 ?_);obtain⟨u1,ab,hm⟩:=Y0 hm;refine pu ?_;refine pv (Z7t rfl rfl ab underlying9) (cB cf48 hm (Z5n (aa.bE [0,1] [])) ?_);rintro _ _ _ _ _ ⟨rfl,I,_⟩ hm;refine cd hm ?_ ?_ <;> intro aj hm
  · refine qU ?_;refine cB cf46 hm (Z2x (I.bE [0,1] [])) ?_;rintro _ _ T2 _ _ ⟨rfl,ad,_⟩ hm;refine pn ?_;refine sq2 ?_;obtain⟨u2,af,hm⟩:=Y0 hm;refine pu ?_;refine pv (r_ss rfl rfl ⟨_,rfl⟩ af underlying9) (pv (G3 (by kernel_rfl) rfl (u := .agg #[iv 1,qZs u2,.int .u32 0,iv 0,iv 0])) (aL Y5y ad ?_));intro _ K _ ag;refine sT 0 ag ?_;intro w5 _ O;refine pn ?_;refine sq2 (sq2 (cd hm ?_ ?_)) <;> intro ak hm
    · exact zr hm O
    refine pn ?_;refine N5 hm (fun U a V => ∃(W:_) (D:U1),JR (nf 48) g T2 w5 a V W (U D=some r) [(2,pt E 0),(5,pt K 0)] [U6 K (Y9x D),U6 E Y5y,Y6 R]) (fun U hm => ?_) ?_
    · exact zr hm O
    rintro _ V ⟨W,D,J,hm,rfl,ai,_⟩;exact zr hm ai
  exact zr hm I

instance : Ct 30 @Z6n:=⟨@Z6n,cf30⟩
theorem Y1c {p0:List UInt8} (hS:Sep g T0 w0 [Y6 R]) (hG0:Gi T0 w0 0) : ∀ r,Y3z p0=some r →
    Cl 16 #[Q23 p0.toArray] w0 (K2 T0 w0 fun T w v => ∃ a4 n4 c4,v = .tuple #[.slice a4 n4 c4,Q48 r.2.1,iv r.2.2]∧Sep g T w (R ++ [J2 Q8u 114 (.slice a4 n4 c4) r.1])∧True):=by
  intro r hm;refine enter func16 rfl ntmps16 rfl fun J => ?_;unfold Y3z at hm;refine sq2 (aL [iv 0,iv 0] hS ?_);intro _ I _ ai;refine kA ?_;refine pv (G3 (by kernel_rfl) rfl (u := .agg #[iv 1,iv 1])) (pv (G3 (by kernel_rfl) rfl (u := .agg #[qZs p0,iv 1,iv 1])) (bX [qZs p0,iv 1,iv 1] ai ?_));intro w2 K _ ab;refine pn ?_;refine sq2 (sq2 (cd hm ?_ ?_)) <;> intro aJ hm
  · refine sq2 (rsS [0,0,0,1,0,2,0] [0,1,2,3,4,5,6] ab fun w3 aM ak=>s2W [0] ?_);refine osT 1 ak ?_;intro _ _ am;refine pn ?_;have an:=am.nilO Q8u 114;exact re hm (an.sE [3,0])
  refine kD ?_;refine sq2 ?_;have ao:=ab.nilO Q8u 114;refine lpJ hm (fun ac o1 m a w5 => ∃(T1:_) (D:B0) (V:List U1) (a1:_) (O:_) (c1:_),JR (nf 76) g T0 w2 a w5 T1 (X5 ac m (V,D)=some o1) [(3,pt I 0),(5,pt K 0),(6,.slice a1 O c1)] [J2 Q8u 114 (.slice a1 O c1) V,U6 K (Z4r D),U6 I [iv 0,iv 0],Y6 R]) (fun _ _ h=>je h (ao.sE (Z2 0 4))) ?_;rintro ac ap o1 W _ _ w5 ⟨T1,D,V,a1,O,c1,J,aq,rfl,ag,_⟩;obtain⟨m1,_,rfl,hm,U⟩:=lrE aq ap;refine sq2 (sq2 (cd hm ?_ ?_)) <;> intro aN hm
  · refine pn ?_;refine blk (qU ?_);refine cB cf28 hm (Z6o (ag.bE (Z2 0 4) []) (hG0.mono ch)) ?_;rintro _ _ _ _ _ ⟨rfl,aa,_⟩ hm;refine pn ?_;refine sq2 (sq2 (cd hm ?_ ?_)) <;> intro aP hm
    · refine sq2 (rsS [0,0,0,1,0,2,0] [0,1,2,3,4,5,6] aa fun w7 aR ar=>s2W [0] ?_);refine osT 2 ar ?_;intro _ _ au;refine pn ?_;have av:=au.nilO Q8u 114;have hm:=S4 hm U W;exact re hm (av.sE [4,0])
    refine pn ?_;refine sq2 (sq2 (cd hm ?_ ?_)) <;> intro aS hm
    · exact zr hm aa
    refine kA ?_;refine cB cf30 hm (Z6n (aa.bE (Z2 0 4) [])) ?_;rintro E _ _ _ _ ⟨rfl,aw,_⟩ hm;refine aL Y5y aw ?_;intro _ b3 _ ay;refine sT 0 ay ?_;intro _ _ ah;refine pn ?_;refine sq2 (sq2 (cd hm ?_ ?_)) <;> intro aT hm
    · refine sq2 (rsS [0,0,0,1,0,0,2,0] [0,1,2,3,4,5,6,7] ah fun aU aV az=>s2W [0] ?_);refine osT 3 az ?_;intro _ _ aA;refine pu ?_;refine se (K1 [(2,.slice none 0 0),(3,pt I 0),(4,iv E.2)] ⟨rfl,rfl,rfl,qZt⟩ fun J => ?_);have aB:=aA.nilO Q8u 114;have hm:=S4 hm U W;exact re hm (aB.sE [5,0])
    refine skp (K1 [(3,pt I 0),(5,pt K 0),(6,.slice a1 O c1),(8,pt b3 0)] ⟨rfl,rfl,rfl,rfl,qZt⟩ fun J=>sq2 (sT 0 ah ?_));intro _ _ aC;refine kE ?_;refine bS (r:=Q8u) (l:=([{E.1 with Pos:=D.pos}]:List U1)) (css := [[iv E.1.Kind,Q23 E.1.Text.toArray,.int .u32 E.1.Num,iv D.pos.Line,iv D.pos.Col]]) aC ⟨(Y6n (x := {E.1 with Pos:=D.pos})  : Q8u.rp _ _ _ _),qZt⟩ ?_;intro _ _ _ c2 _ aD;obtain⟨_,aE,hm⟩:=Y0 hm;refine aO 2 aD (K3 aE) ?_;intro _ _ _ c3 _ aF;refine pn ?_;refine cB cf29 hm (Z0k (aF.bE [2,4,5] [3]) (Q3m K)) ?_;rintro _ _ _ _ _ ⟨rfl,aG,_⟩ hm;exact lg hm U (aG.sE [0,3,1,2])
  have hm:=Q5r hm U W;refine kE ?_;refine rsS [0,0,0,0,1,0,2,0] [0,1,2,3,4,5,6,7] ag fun aW aX aI => ?_;have dd:KD [(6,[4])]:=⟨qZt⟩;exact zr hm aI

instance : Ct 16 @Y1c:=⟨@Y1c,cf16⟩
theorem M8 {p0:Z0} (hS:Q38 a1 c1 Z5 T0 g w0 R p0) (Z3:Ln Z9 Z8 Z5) (h1:Q8 a1 c1 T0 w0 p0) : ∀ r,G9 p0=some r →
    Cl 55 #[pt Z9 Z8] w0 (K2 T0 w0 fun T w v=>v = .agg #[iv r.Line,iv r.Col]∧Q94 a1 c1 Z5 T g w R p0):=by
  intro r hm;refine enter func55 rfl ntmps55 rfl fun J => ?_;unfold G9 at hm;exact zr hm hS

instance : Ct 55 @M8:=⟨@M8,cf55⟩
theorem Q9z {p0:Z0} {p1} {p2:List UInt8} (hS:Q38 a1 c1 Z5 T0 g w0 R p0) (Z3:Ln Z9 Z8 Z5) (h1:Q8 a1 c1 T0 w0 p0) : ∀ r,A4 p0 p1 p2=some r →
    Cl 57 #[pt Z9 Z8,iv p1,Q23 p2.toArray] w0 (K2 T0 w0 fun T w v=>v = .bool r∧Q94 a1 c1 Z5 T g w R p0):=by
  intro r hm;refine enter func57 rfl ntmps57 rfl fun J => ?_;unfold A4 at hm;exact zr hm hS

instance : Ct 57 @Q9z:=⟨@Q9z,cf57⟩
theorem C9 {p0:Z0} {p1:List UInt8} (hS:Q38 a1 c1 Z5 T0 g w0 R p0) (Z3:Ln Z9 Z8 Z5) (h1:Q8 a1 c1 T0 w0 p0) : ∀ r,U2 p0 p1=some r →
    Cl 56 #[pt Z9 Z8,Q23 p1.toArray] w0 (K2 T0 w0 fun T w v=>v = .bool r∧Q94 a1 c1 Z5 T g w R p0):=by
  intro r hm;refine enter func56 rfl ntmps56 rfl fun J => ?_;unfold U2 at hm;exact zr hm hS

instance : Ct 56 @C9:=⟨@C9,cf56⟩
theorem V0 {p0:Z0} {p1:List UInt8} (hS:Q38 a1 c1 Z5 T0 g w0 R p0) (Z3:Ln Z9 Z8 Z5) (h1:Q8 a1 c1 T0 w0 p0) : ∀ r,X4 p0 p1=some r →
    Cl 89 #[pt Z9 Z8,Q23 p1.toArray] w0 (K2 T0 w0 fun T w v => ∃ a3 c3,v = .bool r.1∧Q79 a3 c3 Z5 T g w R r.2):=by
  intro r hm;refine enter func89 rfl ntmps89 rfl fun J => ?_;unfold X4 at hm;exact zr hm hS

instance : Ct 89 @V0:=⟨@V0,Z5a⟩
theorem Z4f {p0:Z0} {p1} (hS:Q38 a1 c1 Z5 T0 g w0 R p0) (Z3:Ln Z9 Z8 Z5) (h1:Q8 a1 c1 T0 w0 p0) : ∀ r,R4 p0 p1=some r →
    Cl 90 #[pt Z9 Z8,iv p1] w0 (exR r (fun r=>K2 T0 w0 fun T w v=>v = .tuple #[]∧Q94 a1 c1 Z5 T g w R p0) (fun r=>C7 T0 w0 fun T w v=>v = .iface 76 (Q25 r.pos r.e)∧Q94 a1 c1 Z5 T g w R p0)):=by
  intro r hm;refine enter func90 rfl ntmps90 rfl fun J => ?_;unfold R4 at hm;exact zr hm hS

instance : Ct 90 @Z4f:=⟨@Z4f,cf90⟩
theorem V2 {p0:Z0} {p1:List UInt8} (hS:Q38 a1 c1 Z5 T0 g w0 R p0) (Z3:Ln Z9 Z8 Z5) (h1:Q8 a1 c1 T0 w0 p0) : ∀ r,X2 p0 p1=some r →
    Cl 58 #[pt Z9 Z8,Q23 p1.toArray] w0 (exR r (fun r=>K2 T0 w0 fun T w v => ∃ a3 c3,v = .tuple #[]∧Q79 a3 c3 Z5 T g w R r) (fun r=>C7 T0 w0 (Q4 Z5 g R r.1.pos r.1.e r.2 r.2.l))):=by
  intro r hm;refine enter func58 rfl ntmps58 rfl fun J => ?_;unfold X2 at hm;exact zr hm hS

instance : Ct 58 @V2:=⟨@V2,Z6q⟩
theorem Z0a {p0:Z0} {p1} (hS:Q38 a1 c1 Z5 T0 g w0 R p0) (Z3:Ln Z9 Z8 Z5) (h1:Q8 a1 c1 T0 w0 p0) : ∀ r,C1 p0 p1=some r →
    Cl 91 #[pt Z9 Z8,iv p1] w0 (exR r (fun r=>K2 T0 w0 fun T w v => ∃ a3 c3,v = .agg (Y9x r.1).toArray∧Q79 a3 c3 Z5 T g w R r.2) (fun r=>C7 T0 w0 (Q4 Z5 g R r.1.pos r.1.e r.2 r.2.l))):=by
  intro r hm;refine enter func91 rfl ntmps91 rfl fun J => ?_;unfold C1 at hm;refine sq2 (aL Y5y hS ?_);intro O D _ U;refine pn ?_;refine N5 hm (fun E a I => ∃ K,JR (nf 40) g T0 O a I K (E ()=some r) [(0,pt Z9 Z8),(4,pt D 0)] [U6 D Y5y,Y6 R,Q1 a1 c1 Z5 p0]) (fun E hm => ?_) ?_
  · exact zr hm U
  rintro _ I ⟨K,J,hm,rfl,V,_⟩;exact zr hm V

instance : Ct 91 @Z0a:=⟨@Z0a,cf91⟩
theorem B4 {p0:Z0} (hS:Q38 a1 c1 Z5 T0 g w0 R p0) (Z3:Ln Z9 Z8 Z5) (h1:Q8 a1 c1 T0 w0 p0) : ∀ r,J9 p0=some r →
    Cl 59 #[pt Z9 Z8] w0 (exR r (fun r=>K2 T0 w0 fun T w v => ∃ a4 c4,v=(qZs r.1)∧Q79 a4 c4 Z5 T g w R r.2) (fun r=>C7 T0 w0 (Q4 Z5 g R r.1.pos r.1.e r.2 r.2.l))):=by
  intro r hm;refine enter func59 rfl ntmps59 rfl fun J => ?_;unfold J9 at hm;exact zr hm hS

instance : Ct 59 @B4:=⟨@B4,cf59⟩
theorem Q9q {p0:Z0} (hS:Q38 a1 c1 Z5 T0 g w0 R p0) (Z3:Ln Z9 Z8 Z5) (h1:Q8 a1 c1 T0 w0 p0) : ∀ r,Q2j p0=some r →
    Cl 93 #[pt Z9 Z8] w0 (K2 T0 w0 fun T w v=>v = .bool r∧Q94 a1 c1 Z5 T g w R p0):=by
  intro r hm;refine enter func93 rfl ntmps93 rfl fun J => ?_;unfold Q2j at hm;exact zr hm hS

instance : Ct 93 @Q9q:=⟨@Q9q,cf93⟩
theorem F1 {p0:Z0} (hS:Q38 a1 c1 Z5 T0 g w0 R p0) (Z3:Ln Z9 Z8 Z5) (h1:Q8 a1 c1 T0 w0 p0) : ∀ r,G5 p0=some r →
    Cl 61 #[pt Z9 Z8] w0 (exR r (fun r=>K2 T0 w0 fun T w v => ∃ a8 c8,v = .agg (Z5i r.1).toArray∧Q79 a8 c8 Z5 T g w R r.2) (fun r=>C7 T0 w0 (Q4 Z5 g R r.1.pos r.1.e r.2 r.2.l))):=by
  intro r hm;refine enter func61 rfl ntmps61 rfl fun J => ?_;unfold G5 at hm;refine sq2 (aL zv12 hS ?_);intro w1 D an ao;refine pn ?_;refine N5 hm (fun af a w2 => ∃ V,JR (nf 38) g T0 w1 a w2 V (af ()=some r) [(0,pt Z9 Z8),(2,pt D 0)] [U6 D zv12,Y6 R,Q1 a1 c1 Z5 p0]) (fun af hm => ?_) ?_
  · exact zr hm ao
  rintro _ w2 ⟨V,J,hm,rfl,ap,aq⟩;refine sq2 ?_;obtain⟨u2,_,hm⟩:=Y0 hm;refine pu ?_;refine pv (G3 (by kernel_rfl) rfl (u := .agg #[qZs u2.Text,qZs [],iv 0])) (aL zv12 ap ?_);intro _ E au av;refine sT 0 av ?_;intro _ aw ax;refine pn ?_;refine sq2 ?_;obtain⟨_,ah,hm⟩:=Y0 hm;obtain⟨_,c2,ay,h2⟩:=(h1.mono (iT an (iT aq (iT au aw)))).part ah;refine pu ?_;refine pv (r_slR rfl (h1.mono ch) ⟨_,rfl⟩ rfl ah underlying66 sizeOf114 rfl ay) (sB 3 0 Z3 ax ?_);intro w8 _ aA;refine pn ?_;refine N5 hm (fun ai a I => ∃(K:_) (O:Z0) (W:P9) (a3:_) (c3:_),JR (nf 38) g V w8 a I K (ai W O=some r) [(0,pt Z9 Z8),(2,pt D 0),(3,pt E 0)] [U6 E (Z5i W),U6 D zv12,Y6 R,Q1 a3 c3 Z5 O]∧Q8 a3 c3 K I O) (fun ai hm => ?_) ?_
  · exact zr hm aA
  rintro _ I ⟨K,O,W,a3,c3,⟨J,hm,rfl,aB,_⟩,_⟩;refine sq2 (lpJ hm (fun aj o1 m a ab => ∃(T8:_) (U:Z0) (x3:P9) (a6:_) (c6:_),JR (nf 38) g K I a ab T8 (X5 aj m (x3,U)=some o1) [(0,pt Z9 Z8),(2,pt D 0),(3,pt E 0)] [U6 E (Z5i x3),U6 D zv12,Y6 R,Q1 a6 c6 Z5 U]∧Q8 a6 c6 T8 ab U) (fun _ _ h=>je h (aB.sE (Z2 0 4))) ?_);rintro aj aC o1 _ _ _ ab ⟨T8,U,x3,a6,c6,⟨J,aD,rfl,aE,_⟩,_⟩;obtain⟨m1,_,rfl,hm,_⟩:=lrE aD aC;exact zr hm aE

instance : Ct 61 @F1:=⟨@F1,cf61⟩
theorem Q6c {p0:Z0} (hS:Q38 a1 c1 Z5 T0 g w0 R p0) (Z3:Ln Z9 Z8 Z5) (h1:Q8 a1 c1 T0 w0 p0) : ∀ r,Q4e p0=some r →
    Cl 92 #[pt Z9 Z8] w0 (exR r (fun r=>K2 T0 w0 fun T w v => ∃ a11 n4 c11 a12 c12,v = .slice a11 n4 c11∧Sep g T w (R ++ [Q1 a12 c12 Z5 r.2,J2 (J6 .u32) 33 (.slice a11 n4 c11) r.1])∧Q8 a12 c12 T w r.2∧True) (fun r=>C7 T0 w0 (Q4 Z5 g R r.1.pos r.1.e r.2 r.2.l))):=by
  intro r hm;refine enter func92 rfl ntmps92 rfl fun J => ?_;unfold Q4e at hm;refine qN ?_;refine qN ?_;refine sq2 ?_;have ae:=hS.nilO (J6 .u32) 33;refine lpJ hm (fun W o1 m a E => ∃(I:_) (D:Z0) (K:List Int) (O:_) (U:_) (c2:_) (V:_) (c3:_),JR (nf 15) g T0 w0 a E I (X5 W m (K,D)=some o1) [(0,pt Z9 Z8),(3,.slice O U c2)] [J2 (J6 .u32) 33 (.slice O U c2) K,Y6 R,Q1 V c3 Z5 D]∧Q8 V c3 I E D) (fun _ _ h=>je h (ae.sE [0,1,2])) ?_;rintro W af o1 ag _ _ E ⟨I,D,K,O,U,c2,V,c3,⟨J,ah,rfl,ai,_⟩,h2⟩;obtain⟨m1,_,rfl,hm,ab⟩:=lrE ah af;refine sq2 (qU ?_);refine cB Z5a hm (V0 (ai.bE [0,1] [2]) Z3 h2) ?_;rintro _ _ _ _ _ ⟨_,c4,rfl,ac,h3,_⟩ hm;refine cd hm ?_ ?_ <;> intro au hm
  · refine pn ?_;refine blk (qU ?_);refine cP cf91 hm (Z0a (ac.bE [0,1] [2]) Z3 h3) ?_ ?_
    · exact zk
    rintro y2 _ _ _ _ ⟨_,c5,rfl,ak,h4,_⟩ hm;refine pv (r_fd1 rfl underlying114 rfl isAgg33 rfl) (bS (r:=(J6 .u32)) (l:=([y2.1.Num]:List Int)) (css := [[.int .u32 y2.1.Num]]) ak ⟨rfl,qZt⟩ ?_);intro _ _ _ c6 _ an;obtain⟨_,ao,hm⟩:=Y0 hm;refine aO 1 an (K3 ao) ?_;intro _ _ _ c7 _ ap;refine pn ?_;refine cP Z6q hm (V2 (ap.bE [1,2] [3]) Z3 (h4.mono ch)) ?_ ?_
    · rintro _ _ _ _ _ ⟨_,c9,rfl,aq,_,_⟩ hm;have hm:=S4 hm ab ag;exact pe hm (aq.sE [1,2])
    rintro _ _ _ _ _ ⟨_,c8,rfl,ar,_,_⟩ hm;exact lg hm ab (ar.sE [0,1,2])
  exact zr hm ac

instance : Ct 92 @Q6c:=⟨@Q6c,cf92⟩
theorem Q8o {p0:Z0} (hS:Q38 a1 c1 Z5 T0 g w0 R p0) (Z3:Ln Z9 Z8 Z5) (h1:Q8 a1 c1 T0 w0 p0) : ∀ r,Q4l p0=some r →
    Cl 60 #[pt Z9 Z8] w0 (exR r (fun r=>K2 T0 w0 (Q76 Z5 g R r.2 r.1)) (fun r=>C7 T0 w0 (Q4 Z5 g R r.1.pos r.1.e r.2 r.2.l))):=by
  intro r hm;refine enter func60 rfl ntmps60 rfl fun J => ?_;unfold Q4l at hm;refine qN ?_;refine qN ?_;refine qU ?_;refine cP Z6q hm (V2 (hS.bE [0] [1]) Z3 h1) ?_ ?_
  · exact zk
  rintro _ _ T1 w1 _ ⟨_,c2,rfl,ak,h2,_⟩ hm;refine pn ?_;refine sq2 ?_;have am:=ak.nilO Q1r 132;refine lpJ hm (fun ad o1 m a K => ∃(O:_) (I:Z0) (U:List N0) (V:_) (W:_) (c3:_) (a4:_) (c4:_),JR (nf 30) g T1 w1 a K O (X5 ad m (U,I)=some o1) [(0,pt Z9 Z8),(3,.slice V W c3)] [J2 Q1r 132 (.slice V W c3) U,Y6 R,Q1 a4 c4 Z5 I]∧Q8 a4 c4 O K I) (fun _ _ h=>je h (am.sE [0,1,2])) ?_;rintro ad an o1 ao _ _ K ⟨O,I,U,V,W,c3,a4,c4,⟨J,ap,rfl,aq,_⟩,h3⟩;obtain⟨m1,_,rfl,hm,af⟩:=lrE ap an;refine sq2 (qU ?_);refine cB Z5a hm (V0 (aq.bE [0,1] [2]) Z3 h3) ?_;rintro _ _ _ _ _ ⟨_,c5,rfl,ag,h4,_⟩ hm;refine cd hm ?_ ?_ <;> intro aT hm
  · refine pn ?_;refine blk (qU ?_);refine cB cf55 hm (M8 (ag.bE [0,1] [2]) Z3 h4) ?_;rintro E _ _ _ au ⟨rfl,av,_⟩ hm;refine pu ?_;refine cP cf61 hm (F1 (av.bE [0,1] [2]) Z3 (h4.mono au)) ?_ ?_
    · exact zk
    rintro D _ _ _ _ ⟨_,c6,rfl,aw,h5,_⟩ hm;refine pv (G3 (by kernel_rfl) rfl (u := .agg #[iv E.Line,iv E.Col,qZs D.1.Word,qZs D.1.Name,iv D.1.Stars,qZs [],.slice none 0 0,.slice none 0 0,.bool false])) (aL zv4 aw ?_);intro _ _ _ ay;refine sT 0 ay ?_;intro _ _ az;refine kA ?_;refine cP cf59 hm (B4 (az.bE [0,1,2] [3]) Z3 (h5.mono ch)) ?_ ?_
    · exact zk
    rintro y5 _ _ _ _ ⟨_,c7,rfl,aA,h6,_⟩ hm;refine sT 0 aA ?_;intro _ aC aD;refine kA ?_;refine cP cf92 hm (Q6c (aD.bE [0,1,2] [3]) Z3 (h6.mono aC)) ?_ ?_
    · exact zk
    rintro y6 _ _ _ _ ⟨a8,_,c8,_,c9,rfl,aF,h7,_⟩ hm;refine sT 0 aF ?_;intro _ aI aJ;refine kA ?_;refine cP Z6q hm (V2 (aJ.bE [0,1,2,4] [3]) Z3 (h7.mono aI)) ?_ ?_
    · rintro _ _ _ _ _ ⟨_,c13,rfl,aK,_,_⟩ hm;have hm:=S4 hm af ao;exact pe hm (aK.sE [2,4])
    rintro _ _ _ _ _ ⟨_,c10,rfl,aM,_,_⟩ hm;refine pn ?_;obtain⟨_,_,aN,h9,rfl⟩:=aM.sl 3;refine bS (r:=Q1r) (l:=([(⟨E,D.1,y5.1,y6.1,[],false⟩:N0)]:List N0)) (css := [[iv E.Line,iv E.Col,Q23 D.1.Word.toArray,Q23 D.1.Name.toArray,iv D.1.Stars,Q23 y5.1.toArray,sv a8 y6.1 c8,.slice none 0 0,.bool false]]) aN ⟨(Z6x (x:=(⟨E,D.1,y5.1,y6.1,[],false⟩:N0)) h9 X7:Q1r.rp _ _ _ _),qZt⟩ ?_;intro _ _ _ c11 _ aQ;obtain⟨_,aR,hm⟩:=Y0 hm;refine aO 2 aQ (K3 aR) ?_;intro _ _ _ c12 _ aS;exact lg hm af (aS.sE [2,3,5])
  exact zr hm ag

instance : Ct 60 @Q8o:=⟨@Q8o,cf60⟩
theorem I4 {p0:Z0} (hS:Q38 a1 c1 Z5 T0 g w0 R p0) (Z3:Ln Z9 Z8 Z5) (h1:Q8 a1 c1 T0 w0 p0) : ∀ r,N9 p0=some r →
    Cl 126 #[pt Z9 Z8] w0 (exR r (fun r=>K2 T0 w0 fun T w v => ∃ b2 a2 c2,v = .func (.func 169) #[] #[pt b2 0]∧Sep g T w (R ++ [Q1 a2 c2 Z5 r,U6 b2 [pt Z9 Z8]])∧Q8 a2 c2 T w r∧True) (fun r=>C7 T0 w0 (Q4 Z5 g R r.1.pos r.1.e r.2 r.2.l))):=by
  intro r hm;refine enter func126 rfl ntmps126 rfl fun J => ?_;unfold N9 at hm;refine sq2 (bX [pt Z9 Z8] hS ?_);intro O D _ U;refine pv (Y4n (v := .nilFunc) rfl) (pn ?_);refine N5 hm (fun E a I => ∃ K,JR (nf 18) g T0 O a I K (E ()=some r) [(1,pt D 0)] [U6 D [pt Z9 Z8],Y6 R,Q1 a1 c1 Z5 p0]) (fun E hm => ?_) ?_
  · exact zr hm U
  rintro _ I ⟨K,J,hm,rfl,V,_⟩;exact zr hm V

instance : Ct 126 @I4:=⟨@I4,X1r⟩
theorem H7 {p0:Z0} (hS:Q38 a1 c1 Z5 T0 g w0 R p0) (Z3:Ln Z9 Z8 Z5) (h1:Q8 a1 c1 T0 w0 p0) : ∀ r,D5 p0=some r →
    Cl 129 #[pt Z9 Z8] w0 (K2 T0 w0 fun T w v=>v=(qZs r)∧Q94 a1 c1 Z5 T g w R p0):=by
  intro r hm;refine enter func129 rfl ntmps129 rfl fun J => ?_;unfold D5 at hm;exact zr hm hS

instance : Ct 129 @H7:=⟨@H7,Y8s⟩
theorem B3 {p0:Z0} {p1} (hS:Q38 a1 c1 Z5 T0 g w0 R p0) (Z3:Ln Z9 Z8 Z5) (h1:Q8 a1 c1 T0 w0 p0) : ∀ r,J4 p0 p1=some r →
    Cl 130 #[pt Z9 Z8,iv p1] w0 (K2 T0 w0 (Q19 Z5 g R r.1 r.2 r.1.Kids)):=by
  intro r hm;refine enter func130 rfl ntmps130 rfl fun J => ?_;unfold J4 at hm;exact zr hm hS

instance : Ct 130 @B3:=⟨@B3,Y7e⟩
theorem Z6k {p0:List UInt8} (hS:Sep g T0 w0 [Y6 R])  : ∀ r,Z5b p0=some r →
    Cl 192 #[Q23 p0.toArray] w0 (Q37 T0 w0 g R r):=by
  intro r hm;refine enter func192 rfl ntmps192 rfl fun J => ?_;unfold Z5b at hm;refine qN ?_;refine sq2 (qN ?_);refine blk (sq2 (cd hm ?_ ?_)) <;> intro au hm
  · exact sq2 (re hm (hS.sE [0]))
  refine sq2 (cd hm ?_ ?_) <;> intro av hm
  · exact sq2 (re hm (hS.sE [0]))
  refine sq2 (cd hm ?_ ?_) <;> intro aw hm
  · exact sq2 (re hm (hS.sE [0]))
  refine sq2 (cd hm ?_ ?_) <;> intro ax hm
  · exact sq2 (re hm (hS.sE [0]))
  refine sq2 (cd hm ?_ ?_) <;> intro ay hm
  · exact sq2 (re hm (hS.sE [0]))
  refine N5 hm (fun af a D => ∃ E I,JR (nf 32) g T0 w0 a D E (af I=some r) [(3,(qZs p0)),(14,.bool I)] [Y6 R]) (fun af hm => ?_) ?_
  · exact zr hm hS
  rintro _ D ⟨E,I,J,hm,rfl,ag,_⟩;refine cd hm ?_ ?_ <;> intro az hm
  · exact sq2 (re hm (ag.sE [0]))
  refine N5 hm (fun ah a K => ∃ O U,JR (nf 32) g E D a K O (ah U=some r) [(3,(qZs p0)),(17,.bool U)] [Y6 R]) (fun ah hm => ?_) ?_
  · exact zr hm ag
  rintro _ K ⟨O,U,J,hm,rfl,ai,_⟩;refine cd hm ?_ ?_ <;> intro aA hm
  · exact sq2 (re hm (ai.sE [0]))
  refine N5 hm (fun aj a V => ∃ W x3,JR (nf 32) g O K a V W (aj x3=some r) [(3,(qZs p0)),(22,.bool x3)] [Y6 R]) (fun aj hm => ?_) ?_
  · exact zr hm ai
  rintro _ V ⟨W,x3,J,hm,rfl,ak,_⟩;refine cd hm ?_ ?_ <;> intro aB hm
  · exact sq2 (re hm (ak.sE [0]))
  refine N5 hm (fun am a w4 => ∃ T4 x4,JR (nf 32) g W V a w4 T4 (am x4=some r) [(3,(qZs p0)),(25,.bool x4)] [Y6 R]) (fun am hm => ?_) ?_
  · exact zr hm ak
  rintro _ w4 ⟨T4,x4,J,hm,rfl,an,_⟩;refine cd hm ?_ ?_ <;> intro aC hm
  · exact sq2 (re hm (an.sE [0]))
  refine N5 hm (fun ao a w5 => ∃ T5 x5,JR (nf 32) g T4 w4 a w5 T5 (ao x5=some r) [(28,.bool x5)] [Y6 R]) (fun ao hm => ?_) ?_
  · exact zr hm an
  rintro _ w5 ⟨T5,x5,J,hm,rfl,ar,_⟩;exact zr hm ar

instance : Ct 192 @Z6k:=⟨@Z6k,cf192⟩
theorem Q7f {p0:Z0} (hS:Sep g T0 w0 [Y6 R,Z5 [pt b1 oo1],Q1 a1 c1 H1 p0]) (Z3:Ln Z9 Z8 Z5) (hL1:Ln b1 oo1 H1) (h1:Q8 a1 c1 T0 w0 p0) : ∀ r,Z0b p0=some r →
    Cl 169 #[pt Z9 Z8] w0 (K2 T0 w0 fun T w v => ∃ a2 c2,v = .tuple #[]∧Sep g T w (R ++ [Z5 [pt b1 oo1],Q1 a2 c2 H1 r])∧Q8 a2 c2 T w r∧True):=by
  intro r hm;refine enter func169 rfl ntmps169 rfl fun J => ?_;unfold Z0b at hm;exact zr hm hS

instance : Ct 169 @Q7f:=⟨@Q7f,Q0d⟩
theorem Z3o {p0:List UInt8} (hS:Sep g T0 w0 [Y6 R])  : ∀ r,Z0v p0=some r →
    Cl 128 #[Q23 p0.toArray] w0 (Q26 T0 w0 g R r):=by
  intro r hm;refine enter func128 rfl ntmps128 rfl fun J => ?_;unfold Z0v at hm;refine qN ?_;refine sq2 (qN ?_);refine blk (N5 hm (fun E a I => ∃ K D,JR (nf 16) g T0 w0 a I K (E D=some r) [(4,.bool D)] [Y6 R]) (fun E hm => ?_) ?_)
  · exact zr hm hS
  rintro _ I ⟨K,D,J,hm,rfl,O,_⟩;exact zr hm O
instance : Ct 128 @Z3o:=⟨@Z3o,cf128⟩
end Go.Proofs.YtbfpdnogfkbiaaaGreat
