/- That Go functions compute their models. Printed by gen2.py. -/
import Derived.Test.YtfffghclkmbopaaGreatProg
import Derived.KernelRfl
import Derived.Test.YtfffghclkmbopaaGreatKH
set_option linter.unusedVariables false
namespace Go.Proofs.YtfffghclkmbopaaGreat
open List renaming length → qQ
abbrev qZs(l:List UInt8):Value:= .string ⟨l.toArray⟩
theorem qZt:True:=trivial
open _root_.Go.Proofs.Tryz
set_option maxRecDepth 100000
set_option maxHeartbeats 8000000
attribute [local irreducible] wpList wpQuiet Code.wp
variable{g:World}{T0:Nat->Prop}{w0:World}{R:List X4}
def Z9c:Rp Pos:=((F8 (N7 .i64) (N7 .i64))).iso fun x=>(x.Line,x.Col)
theorem Q2b{T:Nat->Prop}{w:World}{cs:List Value}{x:Pos}(h:Z9c.rp T w cs x):cs=[.int .i64 x.Line,.int .i64 x.Col]:=by
 obtain⟨_,_,rfl,D,E⟩:=h;cases D;cases E;exact rfl
theorem Q8z{T:Nat->Prop}{w:World}{x:Pos}:Z9c.rp T w [.int .i64 x.Line,.int .i64 x.Col] x:=⟨_,_,rfl,rfl,rfl⟩
def Z2x:Rp F9:=((F8 Z7n (F8 Z7n (N7 .i64)))).iso fun x=>(x.Word,x.Name,x.Stars)
theorem Q5n{T:Nat->Prop}{w:World}{cs:List Value}{x:F9}(h:Z2x.rp T w cs x):cs=[qZs x.Word,qZs x.Name,.int .i64 x.Stars]:=by
 obtain⟨_,_,rfl,D,E⟩:=h;cases D;obtain⟨_,_,rfl,I,K⟩:=E;cases I;cases K;exact rfl
theorem Z2q{T:Nat->Prop}{w:World}{x:F9}:Z2x.rp T w [qZs x.Word,qZs x.Name,.int .i64 x.Stars] x:=⟨_,_,rfl,rfl,⟨_,_,rfl,rfl,rfl⟩⟩
def FGExpr(r:Rp Y2):Rp Y2:=((F8 (N7 .i64) (F8 Z9c (F8 Z7n (F8 Z7n (F8 (N7 .u32) (F8 Z2x (rSl r)))))))).iso fun x=>(x.Kind,x.Pos,x.Op,x.Name,x.Num,x.Type_,x.Kids)
def E2:Rp Y2:=rFix FGExpr 10 true (fun _=>rfl)
theorem gGExpr:Z6z FGExpr:=gIso _ (Q2f (gK (N7 .i64)) (Q2f (gK Z9c) (Q2f (gK Z7n) (Q2f (gK Z7n) (Q2f (gK (N7 .u32)) (Q2f (gK Z2x) (gSl gId)))))))
theorem G7{T:Nat->Prop}{w:World}{cs:List Value}{x:Y2}(h:E2.rp T w cs x):∃(a9:Option Addr)(c9:Nat),cs=[.int .i64 x.Kind,.int .i64 x.Pos.Line,.int .i64 x.Pos.Col,qZs x.Op,qZs x.Name,.int .u32 x.Num,qZs x.Type_.Word,qZs x.Type_.Name,.int .i64 x.Type_.Stars,.slice a9 (qQ x.Kids) c9]/\SlR E2 T w (.slice a9 (qQ x.Kids) c9) x.Kids:=by
 have h:=Y1g gGExpr h;obtain⟨_,_,rfl,E,I⟩:=h;cases E;obtain⟨_,_,rfl,K,O⟩:=I;cases Q2b K;obtain⟨_,_,rfl,U,V⟩:=O;cases U;obtain⟨_,_,rfl,W,g4⟩:=V;cases W;obtain⟨_,_,rfl,f5,g5⟩:=g4;cases f5;obtain⟨_,_,rfl,f6,g6⟩:=g5;cases Q5n f6;obtain⟨_,rfl,D⟩:=g6;obtain⟨b7,k7,rfl⟩:=D.shape;exact⟨b7,k7,rfl,D⟩
theorem Q2e{T:Nat->Prop}{w:World}{x:Y2}{a9:Option Addr}{c9:Nat}(e0:SlR E2 T w (.slice a9 (qQ x.Kids) c9) x.Kids):E2.rp T w [.int .i64 x.Kind,.int .i64 x.Pos.Line,.int .i64 x.Pos.Col,qZs x.Op,qZs x.Name,.int .u32 x.Num,qZs x.Type_.Word,qZs x.Type_.Name,.int .i64 x.Type_.Stars,.slice a9 (qQ x.Kids) c9] x:=Y7l gGExpr ⟨_,_,rfl,rfl,⟨_,_,rfl,Q8z,⟨_,_,rfl,rfl,⟨_,_,rfl,rfl,⟨_,_,rfl,rfl,⟨_,_,rfl,Z2q,⟨_,rfl,e0⟩⟩⟩⟩⟩⟩⟩
def Q2c:Rp G9:=((F8 Z9c (F8 Z2x (F8 Z7n (F8 (rSl (N7 .u32)) (F8 (rSl E2) Z2l)))))).iso fun x=>(x.Pos,x.Type_,x.Name,x.Dims,x.Init,x.Brace)
theorem Q9g{T:Nat->Prop}{w:World}{cs:List Value}{x:G9}(h:Q2c.rp T w cs x):∃(a6:Option Addr)(c6:Nat)(a7:Option Addr)(c7:Nat),cs=[.int .i64 x.Pos.Line,.int .i64 x.Pos.Col,qZs x.Type_.Word,qZs x.Type_.Name,.int .i64 x.Type_.Stars,qZs x.Name,.slice a6 (qQ x.Dims) c6,.slice a7 (qQ x.Init) c7,.bool x.Brace]/\SlR (N7 .u32) T w (.slice a6 (qQ x.Dims) c6) x.Dims/\SlR E2 T w (.slice a7 (qQ x.Init) c7) x.Init:=by
 obtain⟨_,_,rfl,I,K⟩:=h;cases Q2b I;obtain⟨_,_,rfl,O,U⟩:=K;cases Q5n O;obtain⟨_,_,rfl,V,W⟩:=U;cases V;obtain⟨_,_,rfl,f4,g4⟩:=W;obtain⟨_,rfl,D⟩:=f4;obtain⟨b5,k5,rfl⟩:=D.shape;obtain⟨_,_,rfl,f6,g6⟩:=g4;obtain⟨_,rfl,E⟩:=f6;obtain⟨b7,k7,rfl⟩:=E.shape;cases g6;exact⟨b5,k5,b7,k7,rfl,D,E⟩
theorem Z7o{T:Nat->Prop}{w:World}{x:G9}{a6:Option Addr}{c6:Nat}{a7:Option Addr}{c7:Nat}(e0:SlR (N7 .u32) T w (.slice a6 (qQ x.Dims) c6) x.Dims)(e1:SlR E2 T w (.slice a7 (qQ x.Init) c7) x.Init):Q2c.rp T w [.int .i64 x.Pos.Line,.int .i64 x.Pos.Col,qZs x.Type_.Word,qZs x.Type_.Name,.int .i64 x.Type_.Stars,qZs x.Name,.slice a6 (qQ x.Dims) c6,.slice a7 (qQ x.Init) c7,.bool x.Brace] x:=⟨_,_,rfl,Q8z,⟨_,_,rfl,Z2q,⟨_,_,rfl,rfl,⟨_,_,rfl,⟨_,rfl,e0⟩,⟨_,_,rfl,⟨_,rfl,e1⟩,rfl⟩⟩⟩⟩⟩
def Q6q:Rp Q2n:=((F8 Z9c (F8 Z7n (rSl Q2c)))).iso fun x=>(x.Pos,x.Name,x.Fields)
theorem Z1o{T:Nat->Prop}{w:World}{cs:List Value}{x:Q2n}(h:Q6q.rp T w cs x):∃(a3:Option Addr)(c3:Nat),cs=[.int .i64 x.Pos.Line,.int .i64 x.Pos.Col,qZs x.Name,.slice a3 (qQ x.Fields) c3]/\SlR Q2c T w (.slice a3 (qQ x.Fields) c3) x.Fields:=by
 obtain⟨_,_,rfl,E,I⟩:=h;cases Q2b E;obtain⟨_,_,rfl,K,O⟩:=I;cases K;obtain⟨_,rfl,D⟩:=O;obtain⟨U,V,rfl⟩:=D.shape;exact⟨U,V,rfl,D⟩
theorem Y2j{T:Nat->Prop}{w:World}{x:Q2n}{a3:Option Addr}{c3:Nat}(e0:SlR Q2c T w (.slice a3 (qQ x.Fields) c3) x.Fields):Q6q.rp T w [.int .i64 x.Pos.Line,.int .i64 x.Pos.Col,qZs x.Name,.slice a3 (qQ x.Fields) c3] x:=⟨_,_,rfl,Q8z,⟨_,_,rfl,rfl,⟨_,rfl,e0⟩⟩⟩
def X0y(r:Rp E0):Rp Q1d:=((F8 Z9c (F8 Z2l (F8 (N7 .u32) (rSl r))))).iso fun x=>(x.Pos,x.Default,x.Num,x.Body)
theorem gFGCase:Z6z X0y:=gIso _ (Q2f (gK Z9c) (Q2f (gK Z2l) (Q2f (gK (N7 .u32)) (gSl gId))))
def FStmt(r:Rp E0):Rp E0:=((F8 (N7 .i64) (F8 Z9c (F8 (rSl E2) (F8 (rSl E2) (F8 (rSl E2) (F8 (rSl Q2c) (F8 (rSl r) (F8 (rSl r) (rSl (X0y r))))))))))).iso fun x=>(x.Kind,x.Pos,x.A,x.B,x.C,x.Var,x.Body,x.Else,x.Cases)
def Q5c:Rp E0:=rFix FStmt 10 true (fun _=>rfl)
theorem gStmt:Z6z FStmt:=gIso _ (Q2f (gK (N7 .i64)) (Q2f (gK Z9c) (Q2f (gK (rSl E2)) (Q2f (gK (rSl E2)) (Q2f (gK (rSl E2)) (Q2f (gK (rSl Q2c)) (Q2f (gSl gId) (Q2f (gSl gId) (gSl gFGCase)))))))))
def Q7m:Rp Q1d:=X0y Q5c
theorem Z9t{T:Nat->Prop}{w:World}{cs:List Value}{x:E0}(h:Q5c.rp T w cs x):∃(a3:Option Addr)(c3:Nat)(a4:Option Addr)(c4:Nat)(a5:Option Addr)(c5:Nat)(a6:Option Addr)(c6:Nat)(a7:Option Addr)(c7:Nat)(a8:Option Addr)(c8:Nat)(a9:Option Addr)(c9:Nat),cs=[.int .i64 x.Kind,.int .i64 x.Pos.Line,.int .i64 x.Pos.Col,.slice a3 (qQ x.A) c3,.slice a4 (qQ x.B) c4,.slice a5 (qQ x.C) c5,.slice a6 (qQ x.Var) c6,.slice a7 (qQ x.Body) c7,.slice a8 (qQ x.Else) c8,.slice a9 (qQ x.Cases) c9]/\SlR E2 T w (.slice a3 (qQ x.A) c3) x.A/\SlR E2 T w (.slice a4 (qQ x.B) c4) x.B/\SlR E2 T w (.slice a5 (qQ x.C) c5) x.C/\SlR Q2c T w (.slice a6 (qQ x.Var) c6) x.Var/\SlR Q5c T w (.slice a7 (qQ x.Body) c7) x.Body/\SlR Q5c T w (.slice a8 (qQ x.Else) c8) x.Else/\SlR Q7m T w (.slice a9 (qQ x.Cases) c9) x.Cases:=by
 have h:=Y1g gStmt h;obtain⟨_,_,rfl,W,g1⟩:=h;cases W;obtain⟨_,_,rfl,f2,g2⟩:=g1;cases Q2b f2;obtain⟨_,_,rfl,f3,g3⟩:=g2;obtain⟨_,rfl,D⟩:=f3;obtain⟨b4,k4,rfl⟩:=D.shape;obtain⟨_,_,rfl,f5,g5⟩:=g3;obtain⟨_,rfl,E⟩:=f5;obtain⟨b6,k6,rfl⟩:=E.shape;obtain⟨_,_,rfl,f7,g7⟩:=g5;obtain⟨_,rfl,I⟩:=f7;obtain⟨b8,k8,rfl⟩:=I.shape;obtain⟨_,_,rfl,f9,g9⟩:=g7;obtain⟨_,rfl,K⟩:=f9;obtain⟨au,av,rfl⟩:=K.shape;obtain⟨_,_,rfl,aw,ax⟩:=g9;obtain⟨_,rfl,O⟩:=aw;obtain⟨ay,az,rfl⟩:=O.shape;obtain⟨_,_,rfl,aA,aB⟩:=ax;obtain⟨_,rfl,U⟩:=aA;obtain⟨aC,aD,rfl⟩:=U.shape;obtain⟨_,rfl,V⟩:=aB;obtain⟨aE,aF,rfl⟩:=V.shape;exact⟨b4,k4,b6,k6,b8,k8,au,av,ay,az,aC,aD,aE,aF,rfl,D,E,I,K,O,U,V⟩
theorem Y3p{T:Nat->Prop}{w:World}{x:E0}{a3:Option Addr}{c3:Nat}{a4:Option Addr}{c4:Nat}{a5:Option Addr}{c5:Nat}{a6:Option Addr}{c6:Nat}{a7:Option Addr}{c7:Nat}{a8:Option Addr}{c8:Nat}{a9:Option Addr}{c9:Nat}(e0:SlR E2 T w (.slice a3 (qQ x.A) c3) x.A)(e1:SlR E2 T w (.slice a4 (qQ x.B) c4) x.B)(e2:SlR E2 T w (.slice a5 (qQ x.C) c5) x.C)(e3:SlR Q2c T w (.slice a6 (qQ x.Var) c6) x.Var)(e4:SlR Q5c T w (.slice a7 (qQ x.Body) c7) x.Body)(e5:SlR Q5c T w (.slice a8 (qQ x.Else) c8) x.Else)(e6:SlR Q7m T w (.slice a9 (qQ x.Cases) c9) x.Cases):Q5c.rp T w [.int .i64 x.Kind,.int .i64 x.Pos.Line,.int .i64 x.Pos.Col,.slice a3 (qQ x.A) c3,.slice a4 (qQ x.B) c4,.slice a5 (qQ x.C) c5,.slice a6 (qQ x.Var) c6,.slice a7 (qQ x.Body) c7,.slice a8 (qQ x.Else) c8,.slice a9 (qQ x.Cases) c9] x:=Y7l gStmt ⟨_,_,rfl,rfl,⟨_,_,rfl,Q8z,⟨_,_,rfl,⟨_,rfl,e0⟩,⟨_,_,rfl,⟨_,rfl,e1⟩,⟨_,_,rfl,⟨_,rfl,e2⟩,⟨_,_,rfl,⟨_,rfl,e3⟩,⟨_,_,rfl,⟨_,rfl,e4⟩,⟨_,_,rfl,⟨_,rfl,e5⟩,⟨_,rfl,e6⟩⟩⟩⟩⟩⟩⟩⟩⟩
theorem Z7s{T:Nat->Prop}{w:World}{cs:List Value}{x:Q1d}(h:Q7m.rp T w cs x):∃(a4:Option Addr)(c4:Nat),cs=[.int .i64 x.Pos.Line,.int .i64 x.Pos.Col,.bool x.Default,.int .u32 x.Num,.slice a4 (qQ x.Body) c4]/\SlR Q5c T w (.slice a4 (qQ x.Body) c4) x.Body:=by
 obtain⟨_,_,rfl,E,I⟩:=h;cases Q2b E;obtain⟨_,_,rfl,K,O⟩:=I;cases K;obtain⟨_,_,rfl,U,V⟩:=O;cases U;obtain⟨_,rfl,D⟩:=V;obtain⟨W,k4,rfl⟩:=D.shape;exact⟨W,k4,rfl,D⟩
theorem Z8r{T:Nat->Prop}{w:World}{x:Q1d}{a4:Option Addr}{c4:Nat}(e0:SlR Q5c T w (.slice a4 (qQ x.Body) c4) x.Body):Q7m.rp T w [.int .i64 x.Pos.Line,.int .i64 x.Pos.Col,.bool x.Default,.int .u32 x.Num,.slice a4 (qQ x.Body) c4] x:=⟨_,_,rfl,Q8z,⟨_,_,rfl,rfl,⟨_,_,rfl,rfl,⟨_,rfl,e0⟩⟩⟩⟩
def Z0g:Rp I1:=((F8 Z9c (F8 Z2x (F8 Z7n (F8 (rSl Q2c) (rSl Q5c)))))).iso fun x=>(x.Pos,x.Ret,x.Name,x.Params,x.Body)
theorem Q9s{T:Nat->Prop}{w:World}{cs:List Value}{x:I1}(h:Z0g.rp T w cs x):∃(a6:Option Addr)(c6:Nat)(a7:Option Addr)(c7:Nat),cs=[.int .i64 x.Pos.Line,.int .i64 x.Pos.Col,qZs x.Ret.Word,qZs x.Ret.Name,.int .i64 x.Ret.Stars,qZs x.Name,.slice a6 (qQ x.Params) c6,.slice a7 (qQ x.Body) c7]/\SlR Q2c T w (.slice a6 (qQ x.Params) c6) x.Params/\SlR Q5c T w (.slice a7 (qQ x.Body) c7) x.Body:=by
 obtain⟨_,_,rfl,I,K⟩:=h;cases Q2b I;obtain⟨_,_,rfl,O,U⟩:=K;cases Q5n O;obtain⟨_,_,rfl,V,W⟩:=U;cases V;obtain⟨_,_,rfl,f4,g4⟩:=W;obtain⟨_,rfl,D⟩:=f4;obtain⟨b5,k5,rfl⟩:=D.shape;obtain⟨_,rfl,E⟩:=g4;obtain⟨b6,k6,rfl⟩:=E.shape;exact⟨b5,k5,b6,k6,rfl,D,E⟩
theorem Y1v{T:Nat->Prop}{w:World}{x:I1}{a6:Option Addr}{c6:Nat}{a7:Option Addr}{c7:Nat}(e0:SlR Q2c T w (.slice a6 (qQ x.Params) c6) x.Params)(e1:SlR Q5c T w (.slice a7 (qQ x.Body) c7) x.Body):Z0g.rp T w [.int .i64 x.Pos.Line,.int .i64 x.Pos.Col,qZs x.Ret.Word,qZs x.Ret.Name,.int .i64 x.Ret.Stars,qZs x.Name,.slice a6 (qQ x.Params) c6,.slice a7 (qQ x.Body) c7] x:=⟨_,_,rfl,Q8z,⟨_,_,rfl,Z2q,⟨_,_,rfl,rfl,⟨_,_,rfl,⟨_,rfl,e0⟩,⟨_,rfl,e1⟩⟩⟩⟩⟩
def Y5w:Rp K1:=((F8 (rSl Q6q) (F8 (rSl Q2c) (rSl Z0g)))).iso fun x=>(x.Structs,x.Globals,x.Funcs)
theorem Z7r{T:Nat->Prop}{w:World}{cs:List Value}{x:K1}(h:Y5w.rp T w cs x):∃(a0:Option Addr)(c0:Nat)(a1:Option Addr)(c1:Nat)(a2:Option Addr)(c2:Nat),cs=[.slice a0 (qQ x.Structs) c0,.slice a1 (qQ x.Globals) c1,.slice a2 (qQ x.Funcs) c2]/\SlR Q6q T w (.slice a0 (qQ x.Structs) c0) x.Structs/\SlR Q2c T w (.slice a1 (qQ x.Globals) c1) x.Globals/\SlR Z0g T w (.slice a2 (qQ x.Funcs) c2) x.Funcs:=by
 obtain⟨_,_,rfl,I,K⟩:=h;obtain⟨_,rfl,s2⟩:=I;obtain⟨O,k2,rfl⟩:=s2.shape;obtain⟨_,_,rfl,U,V⟩:=K;obtain⟨_,rfl,D⟩:=U;obtain⟨W,k4,rfl⟩:=D.shape;obtain⟨_,rfl,E⟩:=V;obtain⟨b5,k5,rfl⟩:=E.shape;exact⟨O,k2,W,k4,b5,k5,rfl,s2,D,E⟩
theorem Y6z{T:Nat->Prop}{w:World}{x:K1}{a0:Option Addr}{c0:Nat}{a1:Option Addr}{c1:Nat}{a2:Option Addr}{c2:Nat}(e0:SlR Q6q T w (.slice a0 (qQ x.Structs) c0) x.Structs)(e1:SlR Q2c T w (.slice a1 (qQ x.Globals) c1) x.Globals)(e2:SlR Z0g T w (.slice a2 (qQ x.Funcs) c2) x.Funcs):Y5w.rp T w [.slice a0 (qQ x.Structs) c0,.slice a1 (qQ x.Globals) c1,.slice a2 (qQ x.Funcs) c2] x:=⟨_,_,rfl,⟨_,rfl,e0⟩,⟨_,_,rfl,⟨_,rfl,e1⟩,⟨_,rfl,e2⟩⟩⟩
def Y2h:Rp N4:=((F8 Z7n Z9c)).iso fun x=>(x.s,x.pos)
theorem Z1h{T:Nat->Prop}{w:World}{cs:List Value}{x:N4}(h:Y2h.rp T w cs x):cs=[qZs x.s,.int .i64 x.pos.Line,.int .i64 x.pos.Col]:=by
 obtain⟨_,_,rfl,D,E⟩:=h;cases D;cases Q2b E;exact rfl
theorem Y3q{T:Nat->Prop}{w:World}{x:N4}:Y2h.rp T w [qZs x.s,.int .i64 x.pos.Line,.int .i64 x.pos.Col] x:=⟨_,_,rfl,rfl,Q8z⟩
def Q6c:Rp X5:=((F8 (N7 .i64) (F8 Z7n (F8 (N7 .u32) Z9c)))).iso fun x=>(x.Kind,x.Text,x.Num,x.Pos)
theorem Z5h{T:Nat->Prop}{w:World}{cs:List Value}{x:X5}(h:Q6c.rp T w cs x):cs=[.int .i64 x.Kind,qZs x.Text,.int .u32 x.Num,.int .i64 x.Pos.Line,.int .i64 x.Pos.Col]:=by
 obtain⟨_,_,rfl,D,E⟩:=h;cases D;obtain⟨_,_,rfl,I,K⟩:=E;cases I;obtain⟨_,_,rfl,O,U⟩:=K;cases O;cases Q2b U;exact rfl
theorem Y3s{T:Nat->Prop}{w:World}{x:X5}:Q6c.rp T w [.int .i64 x.Kind,qZs x.Text,.int .u32 x.Num,.int .i64 x.Pos.Line,.int .i64 x.Pos.Col] x:=⟨_,_,rfl,rfl,⟨_,_,rfl,rfl,⟨_,_,rfl,rfl,Q8z⟩⟩⟩
def Y2g:Rp Z0:=((F8 (rSl Q6c) (F8 Z9c (N7 .i64)))).iso fun x=>(x.l,x.end_,x.depth)
theorem Z4j{T:Nat->Prop}{w:World}{cs:List Value}{x:Z0}(h:Y2g.rp T w cs x):∃(a0:Option Addr)(c0:Nat),cs=[.slice a0 (qQ x.l) c0,.int .i64 x.end_.Line,.int .i64 x.end_.Col,.int .i64 x.depth]/\SlR Q6c T w (.slice a0 (qQ x.l) c0) x.l:=by
 obtain⟨_,_,rfl,D,E⟩:=h;obtain⟨_,rfl,s2⟩:=D;obtain⟨I,k2,rfl⟩:=s2.shape;obtain⟨_,_,rfl,K,O⟩:=E;cases Q2b K;cases O;exact⟨I,k2,rfl,s2⟩
theorem Y3o{T:Nat->Prop}{w:World}{x:Z0}{a0:Option Addr}{c0:Nat}(e0:SlR Q6c T w (.slice a0 (qQ x.l) c0) x.l):Y2g.rp T w [.slice a0 (qQ x.l) c0,.int .i64 x.end_.Line,.int .i64 x.end_.Col,.int .i64 x.depth] x:=⟨_,_,rfl,⟨_,rfl,e0⟩,⟨_,_,rfl,Q8z,rfl⟩⟩
def Y0s:Rp Z6:=((F8 Z9c (N7 .i64))).iso fun x=>(x.pos,x.e)
theorem Z0e{T:Nat->Prop}{w:World}{cs:List Value}{x:Z6}(h:Y0s.rp T w cs x):cs=[.int .i64 x.pos.Line,.int .i64 x.pos.Col,.int .i64 x.e]:=by
 obtain⟨_,_,rfl,D,E⟩:=h;cases Q2b D;cases E;exact rfl
theorem Y2r{T:Nat->Prop}{w:World}{x:Z6}:Y0s.rp T w [.int .i64 x.pos.Line,.int .i64 x.pos.Col,.int .i64 x.e] x:=⟨_,_,rfl,Q8z,rfl⟩
def Q1e:Rp Q5u:=((F8 Z7n (F8 (N7 .i64) (F8 (N7 .i64) (N7 .i64))))).iso fun x=>(x.Name,x.Size,x.Align,x.Cell)
theorem Z7q{T:Nat->Prop}{w:World}{cs:List Value}{x:Q5u}(h:Q1e.rp T w cs x):cs=[qZs x.Name,.int .i64 x.Size,.int .i64 x.Align,.int .i64 x.Cell]:=by
 obtain⟨_,_,rfl,D,E⟩:=h;cases D;obtain⟨_,_,rfl,I,K⟩:=E;cases I;obtain⟨_,_,rfl,O,U⟩:=K;cases O;cases U;exact rfl
theorem Y1u{T:Nat->Prop}{w:World}{x:Q5u}:Q1e.rp T w [qZs x.Name,.int .i64 x.Size,.int .i64 x.Align,.int .i64 x.Cell] x:=⟨_,_,rfl,rfl,⟨_,_,rfl,rfl,⟨_,_,rfl,rfl,rfl⟩⟩⟩
def FGTerm(r:Rp Y1):Rp Y1:=((F8 (N7 .i64) (F8 (N7 .i64) (F8 (N7 .u32) (F8 (N7 .i64) (F8 Z2l (F8 (N7 .i64) (F8 Z2l (F8 Z2l (rSl r)))))))))).iso fun x=>(x.Kind,x.Fn,x.Num,x.Var,x.Global,x.Size,x.Post,x.Ptr,x.Kids)
def X9:Rp Y1:=rFix FGTerm 9 true (fun _=>rfl)
theorem gGTerm:Z6z FGTerm:=gIso _ (Q2f (gK (N7 .i64)) (Q2f (gK (N7 .i64)) (Q2f (gK (N7 .u32)) (Q2f (gK (N7 .i64)) (Q2f (gK Z2l) (Q2f (gK (N7 .i64)) (Q2f (gK Z2l) (Q2f (gK Z2l) (gSl gId)))))))))
theorem Q9r{T:Nat->Prop}{w:World}{cs:List Value}{x:Y1}(h:X9.rp T w cs x):∃(a8:Option Addr)(c8:Nat),cs=[.int .i64 x.Kind,.int .i64 x.Fn,.int .u32 x.Num,.int .i64 x.Var,.bool x.Global,.int .i64 x.Size,.bool x.Post,.bool x.Ptr,.slice a8 (qQ x.Kids) c8]/\SlR X9 T w (.slice a8 (qQ x.Kids) c8) x.Kids:=by
 have h:=Y1g gGTerm h;obtain⟨_,_,rfl,E,I⟩:=h;cases E;obtain⟨_,_,rfl,K,O⟩:=I;cases K;obtain⟨_,_,rfl,U,V⟩:=O;cases U;obtain⟨_,_,rfl,W,g4⟩:=V;cases W;obtain⟨_,_,rfl,f5,g5⟩:=g4;cases f5;obtain⟨_,_,rfl,f6,g6⟩:=g5;cases f6;obtain⟨_,_,rfl,f7,g7⟩:=g6;cases f7;obtain⟨_,_,rfl,f8,g8⟩:=g7;cases f8;obtain⟨_,rfl,D⟩:=g8;obtain⟨b9,k9,rfl⟩:=D.shape;exact⟨b9,k9,rfl,D⟩
theorem V9{T:Nat->Prop}{w:World}{x:Y1}{a8:Option Addr}{c8:Nat}(e0:SlR X9 T w (.slice a8 (qQ x.Kids) c8) x.Kids):X9.rp T w [.int .i64 x.Kind,.int .i64 x.Fn,.int .u32 x.Num,.int .i64 x.Var,.bool x.Global,.int .i64 x.Size,.bool x.Post,.bool x.Ptr,.slice a8 (qQ x.Kids) c8] x:=Y7l gGTerm ⟨_,_,rfl,rfl,⟨_,_,rfl,rfl,⟨_,_,rfl,rfl,⟨_,_,rfl,rfl,⟨_,_,rfl,rfl,⟨_,_,rfl,rfl,⟨_,_,rfl,rfl,⟨_,_,rfl,rfl,⟨_,rfl,e0⟩⟩⟩⟩⟩⟩⟩⟩⟩
def Y7y(r:Rp K2):Rp Q8a:=((F8 Z2l (F8 (N7 .u32) (rSl r)))).iso fun x=>(x.Default,x.Num,x.Body)
theorem gFChoice:Z6z Y7y:=gIso _ (Q2f (gK Z2l) (Q2f (gK (N7 .u32)) (gSl gId)))
def FGAct(r:Rp K2):Rp K2:=((F8 (N7 .i64) (F8 (rSl X9) (F8 (rSl X9) (F8 Z2l (F8 (rSl r) (F8 (rSl r) (F8 (rSl (Y7y r)) (N7 .i64))))))))).iso fun x=>(x.Kind,x.A,x.Post,x.First,x.Body,x.Else,x.Cases,x.Var)
def A8:Rp K2:=rFix FGAct 8 true (fun _=>rfl)
theorem gGAct:Z6z FGAct:=gIso _ (Q2f (gK (N7 .i64)) (Q2f (gK (rSl X9)) (Q2f (gK (rSl X9)) (Q2f (gK Z2l) (Q2f (gSl gId) (Q2f (gSl gId) (Q2f (gSl gFChoice) (gK (N7 .i64)))))))))
def Q7c:Rp Q8a:=Y7y A8
theorem Z5i{T:Nat->Prop}{w:World}{cs:List Value}{x:K2}(h:A8.rp T w cs x):∃(a1:Option Addr)(c1:Nat)(a2:Option Addr)(c2:Nat)(a4:Option Addr)(c4:Nat)(a5:Option Addr)(c5:Nat)(a6:Option Addr)(c6:Nat),cs=[.int .i64 x.Kind,.slice a1 (qQ x.A) c1,.slice a2 (qQ x.Post) c2,.bool x.First,.slice a4 (qQ x.Body) c4,.slice a5 (qQ x.Else) c5,.slice a6 (qQ x.Cases) c6,.int .i64 x.Var]/\SlR X9 T w (.slice a1 (qQ x.A) c1) x.A/\SlR X9 T w (.slice a2 (qQ x.Post) c2) x.Post/\SlR A8 T w (.slice a4 (qQ x.Body) c4) x.Body/\SlR A8 T w (.slice a5 (qQ x.Else) c5) x.Else/\SlR Q7c T w (.slice a6 (qQ x.Cases) c6) x.Cases:=by
 have h:=Y1g gGAct h;obtain⟨_,_,rfl,U,V⟩:=h;cases U;obtain⟨_,_,rfl,W,g2⟩:=V;obtain⟨_,rfl,D⟩:=W;obtain⟨b3,k3,rfl⟩:=D.shape;obtain⟨_,_,rfl,f4,g4⟩:=g2;obtain⟨_,rfl,E⟩:=f4;obtain⟨b5,k5,rfl⟩:=E.shape;obtain⟨_,_,rfl,f6,g6⟩:=g4;cases f6;obtain⟨_,_,rfl,f7,g7⟩:=g6;obtain⟨_,rfl,I⟩:=f7;obtain⟨b8,k8,rfl⟩:=I.shape;obtain⟨_,_,rfl,f9,g9⟩:=g7;obtain⟨_,rfl,K⟩:=f9;obtain⟨aq,ar,rfl⟩:=K.shape;obtain⟨_,_,rfl,au,av⟩:=g9;obtain⟨_,rfl,O⟩:=au;obtain⟨aw,ax,rfl⟩:=O.shape;cases av;exact⟨b3,k3,b5,k5,b8,k8,aq,ar,aw,ax,rfl,D,E,I,K,O⟩
theorem Q1v{T:Nat->Prop}{w:World}{x:K2}{a1:Option Addr}{c1:Nat}{a2:Option Addr}{c2:Nat}{a4:Option Addr}{c4:Nat}{a5:Option Addr}{c5:Nat}{a6:Option Addr}{c6:Nat}(e0:SlR X9 T w (.slice a1 (qQ x.A) c1) x.A)(e1:SlR X9 T w (.slice a2 (qQ x.Post) c2) x.Post)(e2:SlR A8 T w (.slice a4 (qQ x.Body) c4) x.Body)(e3:SlR A8 T w (.slice a5 (qQ x.Else) c5) x.Else)(e4:SlR Q7c T w (.slice a6 (qQ x.Cases) c6) x.Cases):A8.rp T w [.int .i64 x.Kind,.slice a1 (qQ x.A) c1,.slice a2 (qQ x.Post) c2,.bool x.First,.slice a4 (qQ x.Body) c4,.slice a5 (qQ x.Else) c5,.slice a6 (qQ x.Cases) c6,.int .i64 x.Var] x:=Y7l gGAct ⟨_,_,rfl,rfl,⟨_,_,rfl,⟨_,rfl,e0⟩,⟨_,_,rfl,⟨_,rfl,e1⟩,⟨_,_,rfl,rfl,⟨_,_,rfl,⟨_,rfl,e2⟩,⟨_,_,rfl,⟨_,rfl,e3⟩,⟨_,_,rfl,⟨_,rfl,e4⟩,rfl⟩⟩⟩⟩⟩⟩⟩
theorem Y0t{T:Nat->Prop}{w:World}{cs:List Value}{x:Q8a}(h:Q7c.rp T w cs x):∃(a2:Option Addr)(c2:Nat),cs=[.bool x.Default,.int .u32 x.Num,.slice a2 (qQ x.Body) c2]/\SlR A8 T w (.slice a2 (qQ x.Body) c2) x.Body:=by
 obtain⟨_,_,rfl,E,I⟩:=h;cases E;obtain⟨_,_,rfl,K,O⟩:=I;cases K;obtain⟨_,rfl,D⟩:=O;obtain⟨U,V,rfl⟩:=D.shape;exact⟨U,V,rfl,D⟩
theorem Z9v{T:Nat->Prop}{w:World}{x:Q8a}{a2:Option Addr}{c2:Nat}(e0:SlR A8 T w (.slice a2 (qQ x.Body) c2) x.Body):Q7c.rp T w [.bool x.Default,.int .u32 x.Num,.slice a2 (qQ x.Body) c2] x:=⟨_,_,rfl,rfl,⟨_,_,rfl,rfl,⟨_,rfl,e0⟩⟩⟩
def Q6d:Rp Q1m:=((F8 Z7n (F8 Z2l (F8 (N7 .i64) (F8 (rSl Q1e) (rSl A8)))))).iso fun x=>(x.Name,x.Void,x.Params,x.Slots,x.Body)
theorem Q7l{T:Nat->Prop}{w:World}{cs:List Value}{x:Q1m}(h:Q6d.rp T w cs x):∃(a3:Option Addr)(c3:Nat)(a4:Option Addr)(c4:Nat),cs=[qZs x.Name,.bool x.Void,.int .i64 x.Params,.slice a3 (qQ x.Slots) c3,.slice a4 (qQ x.Body) c4]/\SlR Q1e T w (.slice a3 (qQ x.Slots) c3) x.Slots/\SlR A8 T w (.slice a4 (qQ x.Body) c4) x.Body:=by
 obtain⟨_,_,rfl,I,K⟩:=h;cases I;obtain⟨_,_,rfl,O,U⟩:=K;cases O;obtain⟨_,_,rfl,V,W⟩:=U;cases V;obtain⟨_,_,rfl,f4,g4⟩:=W;obtain⟨_,rfl,D⟩:=f4;obtain⟨b5,k5,rfl⟩:=D.shape;obtain⟨_,rfl,E⟩:=g4;obtain⟨b6,k6,rfl⟩:=E.shape;exact⟨b5,k5,b6,k6,rfl,D,E⟩
theorem Z4k{T:Nat->Prop}{w:World}{x:Q1m}{a3:Option Addr}{c3:Nat}{a4:Option Addr}{c4:Nat}(e0:SlR Q1e T w (.slice a3 (qQ x.Slots) c3) x.Slots)(e1:SlR A8 T w (.slice a4 (qQ x.Body) c4) x.Body):Q6d.rp T w [qZs x.Name,.bool x.Void,.int .i64 x.Params,.slice a3 (qQ x.Slots) c3,.slice a4 (qQ x.Body) c4] x:=⟨_,_,rfl,rfl,⟨_,_,rfl,rfl,⟨_,_,rfl,rfl,⟨_,_,rfl,⟨_,rfl,e0⟩,⟨_,rfl,e1⟩⟩⟩⟩⟩
def rGUnit:Rp Q9x:=((F8 (rSl Q1e) (F8 (rSl (rSl (N7 .u8))) (F8 (rSl Q6d) (N7 .i64))))).iso fun x=>(x.Globals,x.Data,x.Codes,x.Main)
theorem Y2i{T:Nat->Prop}{w:World}{cs:List Value}{x:Q9x}(h:rGUnit.rp T w cs x):∃(a0:Option Addr)(c0:Nat)(a1:Option Addr)(c1:Nat)(a2:Option Addr)(c2:Nat),cs=[.slice a0 (qQ x.Globals) c0,.slice a1 (qQ x.Data) c1,.slice a2 (qQ x.Codes) c2,.int .i64 x.Main]/\SlR Q1e T w (.slice a0 (qQ x.Globals) c0) x.Globals/\SlR (rSl (N7 .u8)) T w (.slice a1 (qQ x.Data) c1) x.Data/\SlR Q6d T w (.slice a2 (qQ x.Codes) c2) x.Codes:=by
 obtain⟨_,_,rfl,I,K⟩:=h;obtain⟨_,rfl,s2⟩:=I;obtain⟨O,k2,rfl⟩:=s2.shape;obtain⟨_,_,rfl,U,V⟩:=K;obtain⟨_,rfl,D⟩:=U;obtain⟨W,k4,rfl⟩:=D.shape;obtain⟨_,_,rfl,f5,g5⟩:=V;obtain⟨_,rfl,E⟩:=f5;obtain⟨b6,k6,rfl⟩:=E.shape;cases g5;exact⟨O,k2,W,k4,b6,k6,rfl,s2,D,E⟩
theorem X2g{T:Nat->Prop}{w:World}{x:Q9x}{a0:Option Addr}{c0:Nat}{a1:Option Addr}{c1:Nat}{a2:Option Addr}{c2:Nat}(e0:SlR Q1e T w (.slice a0 (qQ x.Globals) c0) x.Globals)(e1:SlR (rSl (N7 .u8)) T w (.slice a1 (qQ x.Data) c1) x.Data)(e2:SlR Q6d T w (.slice a2 (qQ x.Codes) c2) x.Codes):rGUnit.rp T w [.slice a0 (qQ x.Globals) c0,.slice a1 (qQ x.Data) c1,.slice a2 (qQ x.Codes) c2,.int .i64 x.Main] x:=⟨_,_,rfl,⟨_,rfl,e0⟩,⟨_,_,rfl,⟨_,rfl,e1⟩,⟨_,_,rfl,⟨_,rfl,e2⟩,rfl⟩⟩⟩
def Q2d:Rp K5:=((F8 Z7n (F8 (N7 .i64) (N7 .i64)))).iso fun x=>(x.Name,x.Type_,x.At)
theorem Z2r{T:Nat->Prop}{w:World}{cs:List Value}{x:K5}(h:Q2d.rp T w cs x):cs=[qZs x.Name,.int .i64 x.Type_,.int .i64 x.At]:=by
 obtain⟨_,_,rfl,D,E⟩:=h;cases D;obtain⟨_,_,rfl,I,K⟩:=E;cases I;cases K;exact rfl
theorem Z9u{T:Nat->Prop}{w:World}{x:K5}:Q2d.rp T w [qZs x.Name,.int .i64 x.Type_,.int .i64 x.At] x:=⟨_,_,rfl,rfl,⟨_,_,rfl,rfl,rfl⟩⟩
def X0g:Rp Q5t:=((F8 (N7 .i64) (F8 (N7 .i64) (F8 (N7 .i64) (F8 Z7n (rSl Q2d)))))).iso fun x=>(x.Kind,x.Elem,x.Len,x.Name,x.Fields)
theorem Z7p{T:Nat->Prop}{w:World}{cs:List Value}{x:Q5t}(h:X0g.rp T w cs x):∃(a4:Option Addr)(c4:Nat),cs=[.int .i64 x.Kind,.int .i64 x.Elem,.int .i64 x.Len,qZs x.Name,.slice a4 (qQ x.Fields) c4]/\SlR Q2d T w (.slice a4 (qQ x.Fields) c4) x.Fields:=by
 obtain⟨_,_,rfl,E,I⟩:=h;cases E;obtain⟨_,_,rfl,K,O⟩:=I;cases K;obtain⟨_,_,rfl,U,V⟩:=O;cases U;obtain⟨_,_,rfl,W,g4⟩:=V;cases W;obtain⟨_,rfl,D⟩:=g4;obtain⟨b5,k5,rfl⟩:=D.shape;exact⟨b5,k5,rfl,D⟩
theorem Y5v{T:Nat->Prop}{w:World}{x:Q5t}{a4:Option Addr}{c4:Nat}(e0:SlR Q2d T w (.slice a4 (qQ x.Fields) c4) x.Fields):X0g.rp T w [.int .i64 x.Kind,.int .i64 x.Elem,.int .i64 x.Len,qZs x.Name,.slice a4 (qQ x.Fields) c4] x:=⟨_,_,rfl,rfl,⟨_,_,rfl,rfl,⟨_,_,rfl,rfl,⟨_,_,rfl,rfl,⟨_,rfl,e0⟩⟩⟩⟩⟩
def P8:Rp U8:=((F8 X0g (F8 (N7 .i64) (F8 (N7 .i64) Z2l)))).iso fun x=>(x.Type_,x.size,x.align,x.open_)
theorem I5{T:Nat->Prop}{w:World}{cs:List Value}{x:U8}(h:P8.rp T w cs x):∃(a4:Option Addr)(c4:Nat),cs=[.int .i64 x.Type_.Kind,.int .i64 x.Type_.Elem,.int .i64 x.Type_.Len,qZs x.Type_.Name,.slice a4 (qQ x.Type_.Fields) c4,.int .i64 x.size,.int .i64 x.align,.bool x.open_]/\SlR Q2d T w (.slice a4 (qQ x.Type_.Fields) c4) x.Type_.Fields:=by
 obtain⟨_,_,rfl,D,E⟩:=h;obtain⟨I,k2,rfl,s2⟩:=Z7p D;obtain⟨_,_,rfl,K,O⟩:=E;cases K;obtain⟨_,_,rfl,U,V⟩:=O;cases U;cases V;exact⟨I,k2,rfl,s2⟩
theorem Q1s{T:Nat->Prop}{w:World}{x:U8}{a4:Option Addr}{c4:Nat}(e0:SlR Q2d T w (.slice a4 (qQ x.Type_.Fields) c4) x.Type_.Fields):P8.rp T w [.int .i64 x.Type_.Kind,.int .i64 x.Type_.Elem,.int .i64 x.Type_.Len,qZs x.Type_.Name,.slice a4 (qQ x.Type_.Fields) c4,.int .i64 x.size,.int .i64 x.align,.bool x.open_] x:=⟨_,_,rfl,(Y5v e0),⟨_,_,rfl,rfl,⟨_,_,rfl,rfl,rfl⟩⟩⟩
def Y3r:Rp Z5:=((rSl P8)).iso fun x=>x.list
theorem Z6i{T:Nat->Prop}{w:World}{cs:List Value}{x:Z5}(h:Y3r.rp T w cs x):∃(a0:Option Addr)(c0:Nat),cs=[.slice a0 (qQ x.list) c0]/\SlR P8 T w (.slice a0 (qQ x.list) c0) x.list:=by
 obtain⟨_,rfl,s1⟩:=h;obtain⟨D,k1,rfl⟩:=s1.shape;exact⟨D,k1,rfl,s1⟩
theorem Y5a{T:Nat->Prop}{w:World}{x:Z5}{a0:Option Addr}{c0:Nat}(e0:SlR P8 T w (.slice a0 (qQ x.list) c0) x.list):Y3r.rp T w [.slice a0 (qQ x.list) c0] x:=⟨_,rfl,e0⟩
def Q3l:Rp G8:=((F8 (N7 .i64) (rSl (N7 .i64)))).iso fun x=>(x.ret,x.params)
theorem Q4d{T:Nat->Prop}{w:World}{cs:List Value}{x:G8}(h:Q3l.rp T w cs x):∃(a1:Option Addr)(c1:Nat),cs=[.int .i64 x.ret,.slice a1 (qQ x.params) c1]/\SlR (N7 .i64) T w (.slice a1 (qQ x.params) c1) x.params:=by
 obtain⟨_,_,rfl,D,E⟩:=h;cases D;obtain⟨_,rfl,s2⟩:=E;obtain⟨I,k2,rfl⟩:=s2.shape;exact⟨I,k2,rfl,s2⟩
theorem Z4b{T:Nat->Prop}{w:World}{x:G8}{a1:Option Addr}{c1:Nat}(e0:SlR (N7 .i64) T w (.slice a1 (qQ x.params) c1) x.params):Q3l.rp T w [.int .i64 x.ret,.slice a1 (qQ x.params) c1] x:=⟨_,_,rfl,rfl,⟨_,rfl,e0⟩⟩
def Y2k:Rp Z8:=((F8 (N7 .i64) (F8 X9 Z2l))).iso fun x=>(x.n,x.term,x.lies)
theorem Z4l{T:Nat->Prop}{w:World}{cs:List Value}{x:Z8}(h:Y2k.rp T w cs x):∃(a9:Option Addr)(c9:Nat),cs=[.int .i64 x.n,.int .i64 x.term.Kind,.int .i64 x.term.Fn,.int .u32 x.term.Num,.int .i64 x.term.Var,.bool x.term.Global,.int .i64 x.term.Size,.bool x.term.Post,.bool x.term.Ptr,.slice a9 (qQ x.term.Kids) c9,.bool x.lies]/\SlR X9 T w (.slice a9 (qQ x.term.Kids) c9) x.term.Kids:=by
 obtain⟨_,_,rfl,D,E⟩:=h;cases D;obtain⟨_,_,rfl,I,K⟩:=E;obtain⟨O,U,rfl,V⟩:=Q9r I;cases K;exact⟨O,U,rfl,V⟩
theorem Y3t{T:Nat->Prop}{w:World}{x:Z8}{a9:Option Addr}{c9:Nat}(e0:SlR X9 T w (.slice a9 (qQ x.term.Kids) c9) x.term.Kids):Y2k.rp T w [.int .i64 x.n,.int .i64 x.term.Kind,.int .i64 x.term.Fn,.int .u32 x.term.Num,.int .i64 x.term.Var,.bool x.term.Global,.int .i64 x.term.Size,.bool x.term.Post,.bool x.term.Ptr,.slice a9 (qQ x.term.Kids) c9,.bool x.lies] x:=⟨_,_,rfl,rfl,⟨_,_,rfl,(V9 e0),rfl⟩⟩
def Z9k:Rp Z1:=((F8 Z9c (N7 .i64))).iso fun x=>(x.pos,x.e)
theorem Q9h{T:Nat->Prop}{w:World}{cs:List Value}{x:Z1}(h:Z9k.rp T w cs x):cs=[.int .i64 x.pos.Line,.int .i64 x.pos.Col,.int .i64 x.e]:=by
 obtain⟨_,_,rfl,D,E⟩:=h;cases Q2b D;cases E;exact rfl
theorem Y1w{T:Nat->Prop}{w:World}{x:Z1}:Z9k.rp T w [.int .i64 x.pos.Line,.int .i64 x.pos.Col,.int .i64 x.e] x:=⟨_,_,rfl,Q8z,rfl⟩
def Z9l:En (Option (List ((List UInt8)×Int))) where
 sz:=1
 A:=fun x cs=>exA fun t:(Option Nat)=>pA (cs=[.map (t)]) (X3 [Z9y Z8k (Value.int .i64) (.map (t)) x])
 len:=fun h=>by obtain⟨t,h,_⟩:=h;subst h;rfl
 one:=fun h c hc=>by obtain⟨t,h,_⟩:=h;subst h;exact(List.all_eq_true (p:=Value.oneCell')).1 rfl c hc
def U7:En (G0) where
 sz:=6
 A:=fun x cs=>exA fun t:(Option Addr)×Nat×Nat×(Option Addr)×Nat×Nat×(Option Addr)×Nat×Nat=>pA (cs=[.int .i64 x.ret,.slice (t.1) (t.2.1) (t.2.2.1),.slice (t.2.2.2.1) (t.2.2.2.2.1) (t.2.2.2.2.2.1),.slice (t.2.2.2.2.2.2.1) (t.2.2.2.2.2.2.2.1) (t.2.2.2.2.2.2.2.2),.int .i64 x.loops,.int .i64 x.breaks]) (X3 [G6 Q1e 49 (.slice (t.1) (t.2.1) (t.2.2.1)) x.slots,G6 (N7 .i64) 3 (.slice (t.2.2.2.1) (t.2.2.2.2.1) (t.2.2.2.2.2.1)) x.types,Z1a Z9l 67 (.slice (t.2.2.2.2.2.2.1) (t.2.2.2.2.2.2.2.1) (t.2.2.2.2.2.2.2.2)) x.scopes])
 len:=fun h=>by obtain⟨t,h,_⟩:=h;subst h;rfl
 one:=fun h c hc=>by obtain⟨t,h,_⟩:=h;subst h;exact(List.all_eq_true (p:=Value.oneCell')).1 rfl c hc
abbrev Z3a(p:K1)(H1:List Value->X4)(a1:Option Addr)(n1:Nat)(c1:Nat)(a2:Option Addr)(n2:Nat)(c2:Nat)(a3:Option Addr)(n3:Nat)(c3:Nat):List X4:=[H1 [.slice a1 n1 c1,.slice a2 n2 c2,.slice a3 n3 c3],G6 Q6q 79 (.slice a1 n1 c1) p.Structs,G6 Q2c 86 (.slice a2 n2 c2) p.Globals,G6 Z0g 92 (.slice a3 n3 c3) p.Funcs]
abbrev X7(p:Q0)(H1 H2:List Value->X4)(b1:Nat)(o1:Nat)(a1:Option Addr)(n1:Nat)(c1:Nat)(a2:Option Addr)(n2:Nat)(c2:Nat)(a3:Option Addr)(n3:Nat)(c3:Nat)(a4:Option Addr)(n4:Nat)(c4:Nat)(r1:Option Nat)(r2:Option Nat)(a5:Option Addr)(n5:Nat)(c5:Nat)(a6:Option Addr)(n6:Nat)(c6:Nat)(pv1:Value):List X4:=[H1 [.pointer (some ⟨b1,o1,none⟩),.slice a2 n2 c2,.slice a3 n3 c3,.slice a4 n4 c4,.int .i64 p.u.Main,.map r1,.map r2,.slice a5 n5 c5,.slice a6 n6 c6,pv1],H2 [.slice a1 n1 c1],G6 P8 122 (.slice a1 n1 c1) p.t.list,G6 Q1e 49 (.slice a2 n2 c2) p.u.Globals,G6 (rSl (N7 .u8)) 51 (.slice a3 n3 c3) p.u.Data,G6 Q6d 32 (.slice a4 n4 c4) p.u.Codes,Z9y Z8k (Value.int .i64) (.map r1) p.globals,Z9y Z8k (Value.int .i64) (.map r2) p.codes,G6 (N7 .i64) 3 (.slice a5 n5 c5) p.gtypes,G6 Q3l 171 (.slice a6 n6 c6) p.signs]
abbrev Z3j(p:G0)(H1:List Value->X4)(a1:Option Addr)(n1:Nat)(c1:Nat)(a2:Option Addr)(n2:Nat)(c2:Nat)(a3:Option Addr)(n3:Nat)(c3:Nat):List X4:=[H1 [.int .i64 p.ret,.slice a1 n1 c1,.slice a2 n2 c2,.slice a3 n3 c3,.int .i64 p.loops,.int .i64 p.breaks],G6 Q1e 49 (.slice a1 n1 c1) p.slots,G6 (N7 .i64) 3 (.slice a2 n2 c2) p.types,Z1a Z9l 67 (.slice a3 n3 c3) p.scopes]
theorem mC{α:Type}{r:Rp α}{T T':Nat->Prop}{w w':World}{v:Value}{l:List α}(h:SlR r T w v l)(i:Im T w T' w':=by exact ch):SlR r T' w' v l:=h.mono i
theorem eN{f:FuncId}{fn:Func}{cd:Code}{args:List Value}{w:World}{R:Ending->World->Prop}{m:Nat}(hf:Tryz.prog.funcs[f]?=some fn)(hm:fn.ntmps=m)(h:∀J,cd.wp Tryz.prog (bodyPost Tryz.prog fn R) (env (nf m) J (Y0g 0 args)) w)(hb:fn.body=some cd:=by exact rfl)(hl:Nat.ble args.length m=true:=by exact rfl):Calls Tryz.prog f args.toArray w R:=enter hf hb hm hl h
theorem Sep.sN{g:World}{T:Nat->Prop}{w:World}{L:List X4}(h:Sep g T w L)(a n:Nat)(hx:Y1c (J3 L) (Z4 a n)=true:=by exact rfl):Sep g T w (Z4a L (Z4 a n)):=h.sel _ hx
theorem Sep.sE{g:World}{T:Nat->Prop}{w:World}{L:List X4}(h:Sep g T w L)(ix:List Nat)(hx:Y1c (J3 L) ix=true:=by exact rfl):Sep g T w (Z4a L ix):=h.sel ix hx
theorem Sep.bE{g:World}{T:Nat->Prop}{w:World}{L:List X4}(h:Sep g T w L)(rest ix:List Nat)(hx:Y1c (J3 L) (ix++rest)=true:=by exact rfl):Sep g T w (X3 (Z4a L rest)::Z4a L ix):=h.bun rest ix hx
abbrev Cl:=Calls Tryz.prog
abbrev CF(n:Nat):=Z0w Tryz.prog n
theorem cfm{n:Nat}{fn:Func}(h:Tryz.prog.funcs[n]?=some fn)(a:(fn.name== "runtime.NumGoroutine")=false:=by kernel_rfl)(b:fn.body.isNone=false:=by kernel_rfl):CF n:=⟨fn,h,a,b⟩
abbrev Ct(n:Nat){C:Prop}(_:C):=Ctr Tryz.prog n C
theorem cf5:CF 5:=cfm func5
theorem cf6:CF 6:=cfm func6
theorem cf7:CF 7:=cfm func7
theorem cf8:CF 8:=cfm func8
theorem cf9:CF 9:=cfm func9
theorem cf11:CF 11:=cfm func11
theorem cf12:CF 12:=cfm func12
theorem cf13:CF 13:=cfm func13
theorem cf14:CF 14:=cfm func14
theorem cf15:CF 15:=cfm func15
theorem cf16:CF 16:=cfm func16
theorem cf25:CF 25:=cfm func25
theorem cf26:CF 26:=cfm func26
theorem cf27:CF 27:=cfm func27
theorem cf28:CF 28:=cfm func28
theorem cf29:CF 29:=cfm func29
theorem cf30:CF 30:=cfm func30
theorem cf31:CF 31:=cfm func31
theorem cf32:CF 32:=cfm func32
theorem cf33:CF 33:=cfm func33
theorem cf34:CF 34:=cfm func34
theorem cf35:CF 35:=cfm func35
theorem cf36:CF 36:=cfm func36
theorem cf46:CF 46:=cfm func46
theorem cf47:CF 47:=cfm func47
theorem cf48:CF 48:=cfm func48
theorem cf49:CF 49:=cfm func49
theorem cf50:CF 50:=cfm func50
theorem cf51:CF 51:=cfm func51
theorem cf52:CF 52:=cfm func52
theorem cf53:CF 53:=cfm func53
theorem cf54:CF 54:=cfm func54
theorem cf55:CF 55:=cfm func55
theorem cf56:CF 56:=cfm func56
theorem cf57:CF 57:=cfm func57
theorem cf58:CF 58:=cfm func58
theorem cf59:CF 59:=cfm func59
theorem Z4f:CF 60:=cfm func60
theorem cf61:CF 61:=cfm func61
theorem cf62:CF 62:=cfm func62
theorem cf63:CF 63:=cfm func63
theorem cf64:CF 64:=cfm func64
theorem cf65:CF 65:=cfm func65
theorem cf66:CF 66:=cfm func66
theorem cf67:CF 67:=cfm func67
theorem cf68:CF 68:=cfm func68
theorem cf69:CF 69:=cfm func69
theorem cf70:CF 70:=cfm func70
theorem cf71:CF 71:=cfm func71
theorem cf72:CF 72:=cfm func72
theorem cf73:CF 73:=cfm func73
theorem cf74:CF 74:=cfm func74
theorem cf75:CF 75:=cfm func75
theorem cf76:CF 76:=cfm func76
theorem Y2c:CF 77:=cfm func77
theorem cf78:CF 78:=cfm func78
theorem cf79:CF 79:=cfm func79
theorem cf82:CF 82:=cfm func82
theorem cf84:CF 84:=cfm func84
theorem cf85:CF 85:=cfm func85
theorem Z2v:CF 86:=cfm func86
theorem cf87:CF 87:=cfm func87
theorem cf88:CF 88:=cfm func88
theorem cf89:CF 89:=cfm func89
theorem cf90:CF 90:=cfm func90
theorem Y0a:CF 91:=cfm func91
theorem cf92:CF 92:=cfm func92
theorem cf93:CF 93:=cfm func93
theorem cf94:CF 94:=cfm func94
theorem cf95:CF 95:=cfm func95
theorem cf96:CF 96:=cfm func96
theorem cf97:CF 97:=cfm func97
theorem cf98:CF 98:=cfm func98
theorem cf99:CF 99:=cfm func99
theorem cf100:CF 100:=cfm func100
theorem Q8o:CF 101:=cfm func101
theorem cf102:CF 102:=cfm func102
theorem cf103:CF 103:=cfm func103
theorem Z2m:CF 104:=cfm func104
theorem I0:CF 105:=cfm func105
theorem Z9p:CF 106:=cfm func106
theorem cf107:CF 107:=cfm func107
theorem cf108:CF 108:=cfm func108
theorem cf109:CF 109:=cfm func109
theorem cf110:CF 110:=cfm func110
theorem cf111:CF 111:=cfm func111
theorem Y9m:CF 116:=cfm func116
theorem cf117:CF 117:=cfm func117
theorem cf118:CF 118:=cfm func118
theorem Y6l:CF 119:=cfm func119
theorem Y4s:CF 120:=cfm func120
theorem cf121:CF 121:=cfm func121
theorem Y9l:CF 122:=cfm func122
theorem Y9k:CF 123:=cfm func123
theorem cf124:CF 124:=cfm func124
theorem cf125:CF 125:=cfm func125
theorem cf126:CF 126:=cfm func126
theorem cf127:CF 127:=cfm func127
theorem cf128:CF 128:=cfm func128
theorem cf129:CF 129:=cfm func129
theorem Y4r:CF 130:=cfm func130
theorem cf131:CF 131:=cfm func131
theorem cf132:CF 132:=cfm func132
theorem cf133:CF 133:=cfm func133
theorem cf134:CF 134:=cfm func134
theorem Y6k:CF 135:=cfm func135
theorem Q1l:CF 136:=cfm func136
theorem Y6j:CF 137:=cfm func137
theorem Y9j:CF 138:=cfm func138
theorem cf139:CF 139:=cfm func139
theorem Y6i:CF 140:=cfm func140
theorem cf141:CF 141:=cfm func141
theorem cf142:CF 142:=cfm func142
theorem cf143:CF 143:=cfm func143
theorem cf144:CF 144:=cfm func144
theorem cf145:CF 145:=cfm func145
theorem Y2p:CF 146:=cfm func146
theorem cf147:CF 147:=cfm func147
theorem cf148:CF 148:=cfm func148
theorem cf149:CF 149:=cfm func149
theorem cf150:CF 150:=cfm func150
theorem Q0x:CF 153:=cfm func153
theorem cf154:CF 154:=cfm func154
theorem cf155:CF 155:=cfm func155
theorem cf156:CF 156:=cfm func156
theorem cf157:CF 157:=cfm func157
theorem cf158:CF 158:=cfm func158
theorem cf159:CF 159:=cfm func159
theorem cf160:CF 160:=cfm func160
theorem cf161:CF 161:=cfm func161
theorem cf162:CF 162:=cfm func162
theorem cf163:CF 163:=cfm func163
theorem cf164:CF 164:=cfm func164
theorem Y6h:CF 165:=cfm func165
theorem cf166:CF 166:=cfm func166
theorem cf167:CF 167:=cfm func167
theorem cf168:CF 168:=cfm func168
theorem cf169:CF 169:=cfm func169
theorem cf170:CF 170:=cfm func170
theorem cf171:CF 171:=cfm func171
theorem Y2o:CF 172:=cfm func172
theorem Y9i:CF 173:=cfm func173
theorem cf174:CF 174:=cfm func174
theorem cf175:CF 175:=cfm func175
theorem cf176:CF 176:=cfm func176
theorem cf177:CF 177:=cfm func177
theorem cf178:CF 178:=cfm func178
theorem cf179:CF 179:=cfm func179
theorem cf180:CF 180:=cfm func180
theorem cf181:CF 181:=cfm func181
theorem cf182:CF 182:=cfm func182
theorem cf183:CF 183:=cfm func183
theorem cf184:CF 184:=cfm func184
theorem cf185:CF 185:=cfm func185
theorem cf186:CF 186:=cfm func186
theorem cf187:CF 187:=cfm func187
theorem cf188:CF 188:=cfm func188
theorem cf189:CF 189:=cfm func189
theorem cf190:CF 190:=cfm func190
theorem cf191:CF 191:=cfm func191
theorem cf192:CF 192:=cfm func192
theorem cf193:CF 193:=cfm func193
theorem cf194:CF 194:=cfm func194
theorem cf195:CF 195:=cfm func195
theorem cf196:CF 196:=cfm func196
theorem cf197:CF 197:=cfm func197
theorem cf198:CF 198:=cfm func198
theorem cf199:CF 199:=cfm func199
theorem el3:Q0q Tryz.prog 3 1:=⟨by kernel_rfl,by decide⟩
theorem el5:Q0q Tryz.prog 5 1:=⟨by kernel_rfl,by decide⟩
theorem el32:Q0q Tryz.prog 32 5:=⟨by kernel_rfl,by decide⟩
theorem el49:Q0q Tryz.prog 49 4:=⟨by kernel_rfl,by decide⟩
theorem el51:Q0q Tryz.prog 51 1:=⟨by kernel_rfl,by decide⟩
theorem el67:Q0q Tryz.prog 67 1:=⟨by kernel_rfl,by decide⟩
theorem el79:Q0q Tryz.prog 79 4:=⟨by kernel_rfl,by decide⟩
theorem el86:Q0q Tryz.prog 86 9:=⟨by kernel_rfl,by decide⟩
theorem el92:Q0q Tryz.prog 92 8:=⟨by kernel_rfl,by decide⟩
theorem el96:Q0q Tryz.prog 96 10:=⟨by kernel_rfl,by decide⟩
theorem el102:Q0q Tryz.prog 102 8:=⟨by kernel_rfl,by decide⟩
theorem el104:Q0q Tryz.prog 104 1:=⟨by kernel_rfl,by decide⟩
theorem el106:Q0q Tryz.prog 106 3:=⟨by kernel_rfl,by decide⟩
theorem el113:Q0q Tryz.prog 113 5:=⟨by kernel_rfl,by decide⟩
theorem el122:Q0q Tryz.prog 122 8:=⟨by kernel_rfl,by decide⟩
theorem el136:Q0q Tryz.prog 136 10:=⟨by kernel_rfl,by decide⟩
theorem el142:Q0q Tryz.prog 142 5:=⟨by kernel_rfl,by decide⟩
theorem el145:Q0q Tryz.prog 145 9:=⟨by kernel_rfl,by decide⟩
theorem el163:Q0q Tryz.prog 163 3:=⟨by kernel_rfl,by decide⟩
theorem el171:Q0q Tryz.prog 171 2:=⟨by kernel_rfl,by decide⟩
theorem mix:Tryz.prog.follows .mixedOrders=true:=by kernel_rfl
attribute [local irreducible] A7 Q0r execOp Program.underlying sizeOf isAgg zeroValue
/-! Steps that find by themselves what they need. -/
theorem tyU{t:TypeId}{d:TypeDesc}(h:Tryz.prog.underlying t=some d:=by first|exact Tryz.underlying84|exact Tryz.underlying53|exact Tryz.underlying136|exact Tryz.underlying58|exact Tryz.underlying202|exact Tryz.underlying72|exact Tryz.underlying99|exact Tryz.underlying9|exact Tryz.underlying36|exact Tryz.underlying96|exact Tryz.underlying145|exact Tryz.underlying68|exact Tryz.underlying86|exact Tryz.underlying69|exact Tryz.underlying26|exact Tryz.underlying94|exact Tryz.underlying175|exact Tryz.underlying123|exact Tryz.underlying24|exact Tryz.underlying102|exact Tryz.underlying30|exact Tryz.underlying37|exact Tryz.underlying120|exact Tryz.underlying118|exact Tryz.underlying104|exact Tryz.underlying22|exact Tryz.underlying122|exact Tryz.underlying92|exact Tryz.underlying142|exact Tryz.underlying125|exact Tryz.underlying113|exact Tryz.underlying67|exact Tryz.underlying109|exact Tryz.underlying51|exact Tryz.underlying39|exact Tryz.underlying35|exact Tryz.underlying163|exact Tryz.underlying32|exact Tryz.underlying5|exact Tryz.underlying171|exact Tryz.underlying21|exact Tryz.underlying100|exact Tryz.underlying90|exact Tryz.underlying173|exact Tryz.underlying23|exact Tryz.underlying65|exact Tryz.underlying4|exact Tryz.underlying82|exact Tryz.underlying49|exact Tryz.underlying83|exact Tryz.underlying79|exact Tryz.underlying3|exact Tryz.underlying2|exact Tryz.underlying106|exact Tryz.underlying180|exact Tryz.underlying41|exact Tryz.underlying63|exact Tryz.underlying76|exact Tryz.underlying242|exact Tryz.underlying59|exact Tryz.underlying70|exact Tryz.underlying73|exact Tryz.underlying184):Tryz.prog.underlying t=some d:=h
theorem tyS{t:TypeId}{z:Nat}(h:∀w,(sizeOf t).run Tryz.prog w= .ok z w:=by first|exact Tryz.sizeOf136|exact Tryz.sizeOf3|exact Tryz.sizeOf202|exact Tryz.sizeOf145|exact Tryz.sizeOf41|exact Tryz.sizeOf113|exact Tryz.sizeOf102|exact Tryz.sizeOf86|exact Tryz.sizeOf142|exact Tryz.sizeOf96|exact Tryz.sizeOf84|exact Tryz.sizeOf9|exact Tryz.sizeOf92|exact Tryz.sizeOf171|exact Tryz.sizeOf32|exact Tryz.sizeOf73|exact Tryz.sizeOf163|exact Tryz.sizeOf4|exact Tryz.sizeOf65|exact Tryz.sizeOf26|exact Tryz.sizeOf120|exact Tryz.sizeOf122|exact Tryz.sizeOf99|exact Tryz.sizeOf82|exact Tryz.sizeOf90|exact Tryz.sizeOf39|exact Tryz.sizeOf53|exact Tryz.sizeOf104|exact Tryz.sizeOf24|exact Tryz.sizeOf30|exact Tryz.sizeOf79|exact Tryz.sizeOf106|exact Tryz.sizeOf70|exact Tryz.sizeOf36|exact Tryz.sizeOf123|exact Tryz.sizeOf49|exact Tryz.sizeOf68|exact Tryz.sizeOf22|exact Tryz.sizeOf67|exact Tryz.sizeOf5|exact Tryz.sizeOf173|exact Tryz.sizeOf69|exact Tryz.sizeOf100|exact Tryz.sizeOf37|exact Tryz.sizeOf23|exact Tryz.sizeOf83|exact Tryz.sizeOf59|exact Tryz.sizeOf118|exact Tryz.sizeOf51|exact Tryz.sizeOf76|exact Tryz.sizeOf35|exact Tryz.sizeOf184|exact Tryz.sizeOf94|exact Tryz.sizeOf42|exact Tryz.sizeOf63):∀w,(sizeOf t).run Tryz.prog w= .ok z w:=h
theorem tyA{t:TypeId}{z:Bool}(h:∀w,(isAgg t).run Tryz.prog w= .ok z w:=by first|exact Tryz.isAgg136|exact Tryz.isAgg3|exact Tryz.isAgg202|exact Tryz.isAgg102|exact Tryz.isAgg41|exact Tryz.isAgg145|exact Tryz.isAgg96|exact Tryz.isAgg84|exact Tryz.isAgg113|exact Tryz.isAgg142|exact Tryz.isAgg65|exact Tryz.isAgg86|exact Tryz.isAgg9|exact Tryz.isAgg73|exact Tryz.isAgg56|exact Tryz.isAgg64|exact Tryz.isAgg24|exact Tryz.isAgg4|exact Tryz.isAgg92|exact Tryz.isAgg99|exact Tryz.isAgg32|exact Tryz.isAgg82|exact Tryz.isAgg163|exact Tryz.isAgg104|exact Tryz.isAgg100|exact Tryz.isAgg53|exact Tryz.isAgg39|exact Tryz.isAgg70|exact Tryz.isAgg123|exact Tryz.isAgg30|exact Tryz.isAgg26|exact Tryz.isAgg36|exact Tryz.isAgg22|exact Tryz.isAgg90|exact Tryz.isAgg171|exact Tryz.isAgg67|exact Tryz.isAgg106|exact Tryz.isAgg68|exact Tryz.isAgg69|exact Tryz.isAgg23|exact Tryz.isAgg37|exact Tryz.isAgg120|exact Tryz.isAgg173|exact Tryz.isAgg42|exact Tryz.isAgg79|exact Tryz.isAgg122|exact Tryz.isAgg5|exact Tryz.isAgg59|exact Tryz.isAgg35|exact Tryz.isAgg83|exact Tryz.isAgg118|exact Tryz.isAgg51|exact Tryz.isAgg184|exact Tryz.isAgg49|exact Tryz.isAgg94):∀w,(isAgg t).run Tryz.prog w= .ok z w:=h
theorem tyZ{t:TypeId}{z:Value}(h:∀w,(zeroValue t).run Tryz.prog w= .ok z w:=by first|exact Tryz.zeroValue145|exact Tryz.zeroValue202|exact Tryz.zeroValue136|exact Tryz.zeroValue102|exact Tryz.zeroValue3|exact Tryz.zeroValue86|exact Tryz.zeroValue120|exact Tryz.zeroValue41|exact Tryz.zeroValue92|exact Tryz.zeroValue113|exact Tryz.zeroValue32|exact Tryz.zeroValue96|exact Tryz.zeroValue79|exact Tryz.zeroValue39|exact Tryz.zeroValue163|exact Tryz.zeroValue106|exact Tryz.zeroValue26|exact Tryz.zeroValue142|exact Tryz.zeroValue171|exact Tryz.zeroValue76|exact Tryz.zeroValue82|exact Tryz.zeroValue122|exact Tryz.zeroValue49|exact Tryz.zeroValue67|exact Tryz.zeroValue184|exact Tryz.zeroValue104|exact Tryz.zeroValue59|exact Tryz.zeroValue63|exact Tryz.zeroValue5|exact Tryz.zeroValue51|exact Tryz.zeroValue30|exact Tryz.zeroValue4|exact Tryz.zeroValue73):∀w,(zeroValue t).run Tryz.prog w= .ok z w:=h
theorem opnS{α:Type}{r:Rp α}{T:Nat->Prop}{w:World}{u:α}{cs:List Value}(h:∀c0,r.rp T w c0 u->c0=cs:=by first|exact fun _ h=>h|exact fun _ h=>Q2b h|exact fun _ h=>Q5n h|exact fun _ h=>Z1h h|exact fun _ h=>Z5h h|exact fun _ h=>Z0e h|exact fun _ h=>Z7q h|exact fun _ h=>Z2r h|exact fun _ h=>Q9h h):∀c0,r.rp T w c0 u->c0=cs:=h
theorem lsS{α:Type}{x y:List α}(h:x=y:=by first|exact(rfl:_=[_])|exact(rfl:_=[_,_])|exact(rfl:_=[_,_,_])|exact(rfl:_=[_,_,_,_])|exact(rfl:_=[_,_,_,_,_])|exact(rfl:_=[_,_,_,_,_,_])|exact(rfl:_=[_,_,_,_,_,_,_])|exact(rfl:_=[_,_,_,_,_,_,_,_])|exact(rfl:_=[_,_,_,_,_,_,_,_,_])|exact(rfl:_=[_,_,_,_,_,_,_,_,_,_])|exact(rfl:_=[_,_,_,_,_,_,_,_,_,_,_])|exact(rfl:_=[_,_,_,_,_,_,_,_,_,_,_,_])|exact(rfl:_=[_,_,_,_,_,_,_,_,_,_,_,_,_])|exact(rfl:_=[_,_,_,_,_,_,_,_,_,_,_,_,_,_])|exact(rfl:_=[_,_,_,_,_,_,_,_,_,_,_,_,_,_,_])|exact(rfl:_=[_,_,_,_,_,_,_,_,_,_,_,_,_,_,_,_])|exact(rfl:_=[_,_,_,_,_,_,_,_,_,_,_,_,_,_,_,_,_])):x=y:=h
theorem lsZ{α:Type}{x y:List α}(h:x=y:=by first|exact(rfl:_=[])|exact(rfl:_=[_])|exact(rfl:_=[_,_])|exact(rfl:_=[_,_,_])|exact(rfl:_=[_,_,_,_])|exact(rfl:_=[_,_,_,_,_])|exact(rfl:_=[_,_,_,_,_,_])|exact(rfl:_=[_,_,_,_,_,_,_])|exact(rfl:_=[_,_,_,_,_,_,_,_])|exact(rfl:_=[_,_,_,_,_,_,_,_,_])|exact(rfl:_=[_,_,_,_,_,_,_,_,_,_])|exact(rfl:_=[_,_,_,_,_,_,_,_,_,_,_])|exact(rfl:_=[_,_,_,_,_,_,_,_,_,_,_,_])|exact(rfl:_=[_,_,_,_,_,_,_,_,_,_,_,_,_])|exact(rfl:_=[_,_,_,_,_,_,_,_,_,_,_,_,_,_])|exact(rfl:_=[_,_,_,_,_,_,_,_,_,_,_,_,_,_,_])):x=y:=h
theorem opv{P:Program}{n:NF}{J:Nat->Value}{L:List (Nat×Value)}{w:World}{o:Oper}{v:Value}(h:(execOp (ev n J L) o).run P w= .ok (.value v) w:=by
 first|((with_reducible apply Z2i);first|exact(rfl:_=Value.int _ _)|exact(rfl:_=Value.bool _)|exact(rfl:_=Value.slice _ _ _)|exact(rfl:_=Value.pointer _)|exact(rfl:_=Value.string _)|exact(rfl:_=Value.agg _)|exact(rfl:_=Value.func _ _ _)|exact(rfl:_=Value.tuple _)|exact(rfl:_=Value.map _))|((with_reducible apply r_zx);first|exact(rfl:_=Value.int _ _)|exact(rfl:_=Value.bool _)|exact(rfl:_=Value.slice _ _ _)|exact(rfl:_=Value.pointer _)|exact(rfl:_=Value.string _)|exact(rfl:_=Value.agg _)|exact(rfl:_=Value.func _ _ _)|exact(rfl:_=Value.tuple _)|exact(rfl:_=Value.map _))|((with_reducible apply r_ib);(exact rfl);(exact rfl);(exact rfl))|((with_reducible apply r_faP);(exact rfl);(exact tyU);(exact rfl);(exact tyS);(exact rfl))|((with_reducible apply r_fa);(exact rfl);(exact tyU);(exact rfl);(exact tyS);(exact rfl))|((with_reducible apply r_ld);(exact rfl);(exact tyA);(first|exact Sep.cell0 (by assumption) atS (by exact rfl)|exact cellsAt.get (by assumption) (by exact rfl)|exact cellsAt.get0 (by assumption) (by exact rfl)|exact elG Y2q (by assumption) (by exact rfl) opnS (by exact rfl)|exact elG0 Y2q (by assumption) (by exact rfl) opnS (by exact rfl)|exact Sep.cellL (by assumption) (by assumption) atS (by exact rfl)|exact Sep.cellL0 (by assumption) (by assumption) atS (by exact rfl)|exact cellsAt.get (cellsAt.sameT (by assumption) (by assumption) ch) (by exact rfl)|exact cellsAt.get0 (cellsAt.sameT (by assumption) (by assumption) ch) (by exact rfl)))|((with_reducible apply r_pkf);(exact rfl);(first|assumption|exact rfl);(exact rfl))|((with_reducible apply r_pkt);(exact rfl);(first|assumption|exact rfl);(exact rfl))|((with_reducible apply r_ex0);(exact rfl))|((with_reducible apply r_ex1);(exact rfl))|((with_reducible apply r_ex2);(exact rfl))|((with_reducible apply r_ex3);(exact rfl))|((with_reducible apply r_ixc);(exact rfl);(exact rfl);(exact tyU);(exact tyS);(exact Y2q);(exact rfl);(assumption))|((with_reducible apply r_ixf);(assumption);(exact rfl);(exact tyU);(exact tyS);(assumption);(assumption);(assumption))|((with_reducible apply r_ixv);(assumption);(assumption);(exact atS);(exact rfl);(exact rfl);(exact tyU);(exact tyS);(exact rfl);(assumption))|((with_reducible apply r_ldE);(exact rfl);(exact tyA);(exact tyS);(first|assumption|exact Sep.cellsA (by assumption) atS|exact elS Y2q (by assumption) (by exact rfl) opnS|exact Sep.cellsP (by assumption) (by assumption) atS|exact cellsAt.sameT (by assumption) (by assumption) ch);(exact rfl))|((with_reducible apply r_ldP);(exact rfl);(exact tyA);(exact tyS);(assumption);(exact atS);(exact lsS);(exact rfl))|((with_reducible apply r_cv);(exact rfl);(exact tyU);(exact tyU))|((with_reducible apply r_lnt);(exact rfl);(exact tyU))|((with_reducible apply r_lnW);(exact rfl);(exact tyU);(exact Y2q))|((with_reducible apply r_lnN);(assumption);(exact atS);(exact rfl);(exact tyU))|((with_reducible apply r_ln);(exact rfl);(exact tyU))|((with_reducible apply r_sqL);(exact rfl);(exact rfl))|((with_reducible apply r_snL);(exact rfl);(exact rfl))|((with_reducible apply r_nt);(exact rfl))|((with_reducible apply r_nc);(exact rfl))|((with_reducible apply r_ng);(exact rfl))|((with_reducible apply r_cm);(exact rfl))|((with_reducible apply X0f);(exact rfl);(exact rfl);(decide))|((with_reducible apply Y6y);(exact rfl);(exact rfl);(decide))|((with_reducible apply r_irm);(exact rfl);(exact rfl);(decide))|((with_reducible apply r_iq);(exact rfl);(exact rfl);(decide))):(execOp (ev n J L) o).run P w= .ok (.value v) w:=h
theorem opq{P:Program}{n:NF}{J:Nat->Value}{L:List (Nat×Value)}{w:World}{o:Oper}{v:Value}(h:(execOp (ev n J L) o).run P w= .ok (.value v) w:=by
 first|((with_reducible apply Z2i);first|exact(rfl:_=Value.int _ _)|exact(rfl:_=Value.bool _)|exact(rfl:_=Value.slice _ _ _)|exact(rfl:_=Value.pointer _)|exact(rfl:_=Value.string _)|exact(rfl:_=Value.agg _)|exact(rfl:_=Value.func _ _ _)|exact(rfl:_=Value.tuple _)|exact(rfl:_=Value.map _))|((with_reducible apply r_zx);first|exact(rfl:_=Value.int _ _)|exact(rfl:_=Value.bool _)|exact(rfl:_=Value.slice _ _ _)|exact(rfl:_=Value.pointer _)|exact(rfl:_=Value.string _)|exact(rfl:_=Value.agg _)|exact(rfl:_=Value.func _ _ _)|exact(rfl:_=Value.tuple _)|exact(rfl:_=Value.map _))|((with_reducible apply r_ib);(exact rfl);(exact rfl);(exact rfl))|((with_reducible apply r_faP);(exact rfl);(exact tyU);(exact rfl);(exact tyS);(exact rfl))|((with_reducible apply r_fa);(exact rfl);(exact tyU);(exact rfl);(exact tyS);(exact rfl))|((with_reducible apply r_ld);(exact rfl);(exact tyA);(apply QC.cell;assumption;(first|exact Sep.cell0 (by assumption) atS (by exact rfl)|exact cellsAt.get (by assumption) (by exact rfl)|exact cellsAt.get0 (by assumption) (by exact rfl)|exact elG Y2q (by assumption) (by exact rfl) opnS (by exact rfl)|exact elG0 Y2q (by assumption) (by exact rfl) opnS (by exact rfl)|exact Sep.cellL (by assumption) (by assumption) atS (by exact rfl)|exact Sep.cellL0 (by assumption) (by assumption) atS (by exact rfl)|exact cellsAt.get (cellsAt.sameT (by assumption) (by assumption) ch) (by exact rfl)|exact cellsAt.get0 (cellsAt.sameT (by assumption) (by assumption) ch) (by exact rfl))))|((with_reducible apply r_pkf);(exact rfl);(first|assumption|exact rfl);(exact rfl))|((with_reducible apply r_pkt);(exact rfl);(first|assumption|exact rfl);(exact rfl))|((with_reducible apply r_ex0);(exact rfl))|((with_reducible apply r_ex1);(exact rfl))|((with_reducible apply r_ex2);(exact rfl))|((with_reducible apply r_ex3);(exact rfl))|((with_reducible apply r_ixc);(exact rfl);(exact rfl);(exact tyU);(exact tyS);(exact Y2q);(exact rfl);(assumption))|((with_reducible apply r_ixf);(assumption);(exact rfl);(exact tyU);(exact tyS);(assumption);(assumption);(assumption))|((with_reducible apply r_ixv);(assumption);(assumption);(exact atS);(exact rfl);(exact rfl);(exact tyU);(exact tyS);(exact rfl);(assumption))|((with_reducible apply r_ldE);(exact rfl);(exact tyA);(exact tyS);(apply QC.cellsAt;assumption;(first|assumption|exact Sep.cellsA (by assumption) atS|exact elS Y2q (by assumption) (by exact rfl) opnS|exact Sep.cellsP (by assumption) (by assumption) atS|exact cellsAt.sameT (by assumption) (by assumption) ch));(exact rfl))|((with_reducible apply r_ldP);(exact rfl);(exact tyA);(exact tyS);(assumption);(exact atS);(exact lsS);(exact rfl))|((with_reducible apply r_cv);(exact rfl);(exact tyU);(exact tyU))|((with_reducible apply r_lnt);(exact rfl);(exact tyU))|((with_reducible apply r_lnW);(exact rfl);(exact tyU);(exact Y2q))|((with_reducible apply r_lnN);(assumption);(exact atS);(exact rfl);(exact tyU))|((with_reducible apply r_ln);(exact rfl);(exact tyU))|((with_reducible apply r_sqL);(exact rfl);(exact rfl))|((with_reducible apply r_snL);(exact rfl);(exact rfl))|((with_reducible apply r_nt);(exact rfl))|((with_reducible apply r_nc);(exact rfl))|((with_reducible apply r_ng);(exact rfl))|((with_reducible apply r_cm);(exact rfl))|((with_reducible apply X0f);(exact rfl);(exact rfl);(decide))|((with_reducible apply Y6y);(exact rfl);(exact rfl);(decide))|((with_reducible apply r_irm);(exact rfl);(exact rfl);(decide))|((with_reducible apply r_iq);(exact rfl);(exact rfl);(decide))):(execOp (ev n J L) o).run P w= .ok (.value v) w:=h
theorem gwS{l:List Oper}{n:NF}{J:Nat->Value}{L:List (Nat×Value)}{gd:Option (Nat×Bool)}(h:Wt l n J L gd:=by first|exact qZt|exact⟨_,rfl,congrArg Value.bool (by assumption)⟩|exact⟨_,rfl,rfl⟩):Wt l n J L gd:=h
theorem gUS{l:List Oper}{n:NF}{J:Nat->Value}{L:List (Nat×Value)}{gd:Option (Nat×Bool)}(h:Wf l n J L gd:=by first|exact gI rfl rfl (by assumption)|exact gI rfl rfl rfl|exact⟨_,rfl,.inr rfl⟩):Wf l n J L gd:=h
theorem stS{P:Program}{l:List Oper}{n:NF}{J:Nat->Value}{L:List (Nat×Value)}{w:World}{pd:List (Nat×Value)}(h:Z0u P l pd (env n J L) w:=by repeat(first|exact st0|refine st1 rfl opv ?_)):Z0u P l pd (env n J L) w:=h
theorem pu{A B:Prop}(k:B)(h:Kp B->A:=by
 intro k
 repeat(first|with_reducible refine rg ?_|((with_reducible apply pv);(exact opv))|((with_reducible apply gT);(exact rfl);(exact rfl);(first|assumption|exact rfl))|((with_reducible apply gF);(exact rfl);(exact rfl);(first|assumption|exact rfl))|((with_reducible apply gU);(exact rfl);(exact rfl))|((with_reducible apply s0a);(exact rfl);(exact rfl);(exact gwS);(intro _;exact opv))|((with_reducible apply sUa);(exact rfl);(exact gUS))|((with_reducible apply s1a);(exact rfl);(exact rfl);(exact gwS);(exact opv))|((with_reducible apply And.intro);(exact stS))|((with_reducible apply qv);(intro _ _;exact opq))|((with_reducible apply qgT);(exact rfl);(exact rfl);(first|assumption|exact rfl))|((with_reducible apply qgF);(exact rfl);(exact rfl);(first|assumption|exact rfl))|((with_reducible apply qgU);(exact rfl);(exact rfl))|((with_reducible apply t0a);(exact rfl);(exact rfl);(exact rfl);(exact gwS);(intro _;exact opv))|((with_reducible apply tUa);(exact rfl);(exact rfl);(exact gUS);(kernel_rfl))|((with_reducible apply t1a);(exact rfl);(exact rfl);(exact rfl);(exact gwS);(exact opv)))
 exact k.out):A:=h ⟨k⟩
theorem pn{A B:Prop}(k:B)(h:Kp B->A:=by
 intro k
 repeat(first|with_reducible refine rg ?_|((with_reducible apply pv);(exact opv))|((with_reducible apply gT);(exact rfl);(exact rfl);(first|assumption|exact rfl))|((with_reducible apply gF);(exact rfl);(exact rfl);(first|assumption|exact rfl))|((with_reducible apply gU);(exact rfl);(exact rfl))|((with_reducible apply s0a);(exact rfl);(exact rfl);(exact gwS);(intro _;exact opv))|((with_reducible apply sUa);(exact rfl);(exact gUS))|((with_reducible apply s1a);(exact rfl);(exact rfl);(exact gwS);(exact opv))|((with_reducible apply And.intro);(exact stS))|((with_reducible apply qv);(intro _ _;exact opq))|((with_reducible apply qgT);(exact rfl);(exact rfl);(first|assumption|exact rfl))|((with_reducible apply qgF);(exact rfl);(exact rfl);(first|assumption|exact rfl))|((with_reducible apply qgU);(exact rfl);(exact rfl))|((with_reducible apply t0a);(exact rfl);(exact rfl);(exact rfl);(exact gwS);(intro _;exact opv))|((with_reducible apply tUa);(exact rfl);(exact rfl);(exact gUS);(kernel_rfl))|((with_reducible apply t1a);(exact rfl);(exact rfl);(exact rfl);(exact gwS);(exact opv))|with_reducible refine nil ?_|with_reducible refine Y6w ?_|with_reducible refine t_blk ?_|with_reducible refine se ?_|with_reducible refine seP ?_|with_reducible refine te ?_|with_reducible refine teP ?_|with_reducible refine qn ?_|with_reducible refine skp ?_|with_reducible refine xt ?_|with_reducible refine x_then ?_|with_reducible refine x_eq ?_|with_reducible refine x_ne (by decide) ?_|with_reducible refine rtn ?_|with_reducible refine r_then ?_|with_reducible refine r_blk ?_)
 exact k.out):A:=h ⟨k⟩
theorem cd{A B1 B2:Prop}{α:Type}{b:Bool}{X Y Z:α}(hm:(bif b then X else Y)=Z)(h1:B1)(h2:B2)(h:(bif b then X else Y)=Z->Kp B1->Kp B2->A:=by
 intro hm k1 k2
 refine pn ?_
 exact cndH rfl hm k1.out k2.out):A:=h hm ⟨h1⟩ ⟨h2⟩
theorem t1W{A B:Prop}(js R ks:List Nat)(k:B)(h:KN js->KN R->KN ks->Kp B->A:=by
 intro a b c k
 refine pu ?_
 refine twK a rfl (wt_of rfl rfl gwS) rfl (by kernel_rfl) (by kernel_rfl) ⟨?_,qZt⟩
 refine brK b c rfl (by kernel_rfl) (by kernel_rfl) gwS (by kernel_rfl) ?_
 exact k.out):A:=h ⟨qZt⟩ ⟨qZt⟩ ⟨qZt⟩ ⟨k⟩
theorem tF{A B:Prop}(js:List Nat)(k:B)(h:KN js->Kp B->A:=by
 intro a k
 refine pu ?_
 refine twK a rfl (wt_of rfl rfl gwS) rfl (by kernel_rfl) (by kernel_rfl) ?_
 exact k.out):A:=h ⟨qZt⟩ ⟨k⟩
theorem brW{A B:Prop}(R ks:List Nat)(k:B)(h:KN R->KN ks->Kp B->A:=by
 intro b c k
 refine brK b c rfl (by kernel_rfl) (by kernel_rfl) gwS (by kernel_rfl) ?_
 exact k.out):A:=h ⟨qZt⟩ ⟨qZt⟩ ⟨k⟩
theorem s2W{A B:Prop}(ks:List Nat)(k:B)(h:KN ks->Kp B->A:=by
 intro c k
 refine pu ?_
 refine s2K c rfl gwS rfl (by kernel_rfl) ?_
 exact k.out):A:=h ⟨qZt⟩ ⟨k⟩
theorem je{A F:Prop}{g:World}{T:Nat->Prop}{w:World}{G:List X4}(hm:F)(S:Sep g T w G)(h:F->Kp (Sep g T w G)->A:=by
 intro hm S
 refine pn ?_
 repeat'(first|with_reducible apply Exists.intro|with_reducible apply And.intro|exact hm|exact Z9e|exact S.out|exact ch|exact qZt|assumption|exact Y3y (by assumption) ch|exact U1)):A:=h hm ⟨S⟩
theorem lg{A N:Prop}{α:Type}{x z:α}{g:World}{T:Nat->Prop}{w:World}{G:List X4}(hm:some x=some z)(hn:N)(S:Sep g T w G)(h:some x=some z->N->Kp (Sep g T w G)->A:=by
 intro hm hn S
 cases oI hm
 refine pn ?_
 refine⟨_,Nat.lt_succ_self _,?_⟩
 repeat'(first|with_reducible apply Exists.intro|with_reducible apply And.intro|exact hn|exact Z9e|exact S.out|exact ch|exact qZt|assumption|exact Y3y (by assumption) ch|exact U1)):A:=h hm hn ⟨S⟩
theorem rvsS{n:NF}{J:Nat->Value}{L:List (Nat×Value)}{w:World}{rs:List ResultVar}{vs:List Value}(h:RVs Tryz.prog n J L w rs vs:=by repeat(first|exact rv0|(apply rvT;(exact rfl))|(apply rvC;(exact rfl);(exact tyA);(exact Sep.bx (by assumption) atS))|(apply rvG;(exact rfl);(exact tyA);(exact tyS);(exact Sep.bx (by assumption) atS);(exact rfl)))):RVs Tryz.prog n J L w rs vs:=h
theorem re{A:Prop}{α:Type}{x z:α}{g:World}{T:Nat->Prop}{w:World}{G:List X4}(hm:some x=some z)(S:Sep g T w G)(h:some x=some z->Kp (Sep g T w G)->A:=by
 intro hm S
 cases oI hm
 refine pn ?_
 first|refine ret1 rfl rfl ?_|refine ret0 rfl ?_|refine ret2 rfl rfl rfl ?_|(apply retN;(exact rfl);(exact rvsS);(exact rfl))
 refine rsm S.out ch ?_
 repeat'(first|with_reducible apply Exists.intro|with_reducible apply And.intro|exact rfl|exact S.out.unb|exact qZt|assumption|exact Y3y (by assumption) ch|exact U1)):A:=h hm ⟨S⟩
theorem sS{A B H1 H2:Prop}(l:List (Nat×Value))(a:H1)(b:H2)(k:B)(h:Kl l->H1->H2->Kp B->A:=by
 intro l a b k
 refine pu ?_
 refine s2k l rfl gwS rfl (by kernel_rfl) ?_
 exact calS a rfl b rfl k.out):A:=h ⟨qZt⟩ a b ⟨k⟩
theorem sN{A B H1 H2:Prop}(l:List (Nat×Value))(a:H1)(b:H2)(k:B)(h:Kl l->H1->H2->Kp B->A:=by
 intro l a b k
 refine pu ?_
 refine s2k l rfl gwS rfl (by kernel_rfl) ?_
 exact calN a rfl b rfl k.out):A:=h ⟨qZt⟩ a b ⟨k⟩
theorem osT{A B:Prop}(q:Nat){g:World}{T:Nat->Prop}{w:World}{G:List X4}(hS:Sep g T w G)(k:B)(h:Kq q->Sep g T w G->Kp B->A:=by
 intro q hS k
 exact ost q hS tyS k.out):A:=h ⟨qZt⟩ hS ⟨k⟩
theorem osB{A B:Prop}(q j:Nat){b o:Nat}{H:List Value->X4}(hL:Ln b o H){g:World}{T:Nat->Prop}{w:World}{G:List X4}(hS:Sep g T w G)(k:B)(h:Kq q->Kq j->Ln b o H->Sep g T w G->Kp B->A:=by
 intro q j hL hS k
 exact osb q j hL hS tyS k.out):A:=h ⟨qZt⟩ ⟨qZt⟩ hL hS ⟨k⟩
theorem oaL{A B:Prop}(zs:List Value){g:World}{T:Nat->Prop}{w:World}{G:List X4}(hS:Sep g T w G)(k:B)(h:Kv zs->Sep g T w G->Kp B->A:=by
 intro zs hS k
 exact oal zs hS tyZ k.out):A:=h ⟨qZt⟩ hS ⟨k⟩
theorem obX{A B:Prop}(cs:List Value){g:World}{T:Nat->Prop}{w:World}{G:List X4}(hS:Sep g T w G)(k:B)(h:Kv cs->Sep g T w G->Kp B->A:=by
 intro cs hS k
 exact obx cs hS k.out):A:=h ⟨qZt⟩ hS ⟨k⟩
theorem obS{A B:Prop}{g:World}{T:Nat->Prop}{w:World}{G:List X4}{α:Type}{r:Rp α}{l:List α}{css:List (List Value)}(hS:Sep g T w G)(a:Z9f r T w css l)(k:B)(h:Sep g T w G->Z9f r T w css l->Kp B->A:=by
 intro hS a k
 exact obs hS a tyU tyS tyZ k.out):A:=h hS a ⟨k⟩
theorem oS{A B H1 H2:Prop}(a:H1)(b:H2)(k:B)(h:H1->H2->Kp B->A:=by
 intro a b k
 exact calS a rfl b rfl k.out):A:=h a b ⟨k⟩
theorem oN{A B H1 H2:Prop}(a:H1)(b:H2)(k:B)(h:H1->H2->Kp B->A:=by
 intro a b k
 exact calN a rfl b rfl k.out):A:=h a b ⟨k⟩
theorem oP{A B H1 H2:Prop}(a:H1)(b:H2)(k:B)(h:H1->H2->Kp B->A:=by
 intro a b k
 exact Q8x a rfl b rfl k.out):A:=h a b ⟨k⟩
theorem sT{A B:Prop}(q:Nat){g:World}{T:Nat->Prop}{w:World}{G:List X4}(hS:Sep g T w G)(k:B)(h:Kq q->Sep g T w G->Kp B->A:=by
 intro q hS k
 refine pu ?_
 exact wst q hS tyS k.out):A:=h ⟨qZt⟩ hS ⟨k⟩
theorem sB{A B:Prop}(q j:Nat){b o:Nat}{H:List Value->X4}(hL:Ln b o H){g:World}{T:Nat->Prop}{w:World}{G:List X4}(hS:Sep g T w G)(k:B)(h:Kq q->Kq j->Ln b o H->Sep g T w G->Kp B->A:=by
 intro q j hL hS k
 refine pu ?_
 exact wsb q j hL hS tyS k.out):A:=h ⟨qZt⟩ ⟨qZt⟩ hL hS ⟨k⟩
theorem aL{A B:Prop}(zs:List Value){g:World}{T:Nat->Prop}{w:World}{G:List X4}(hS:Sep g T w G)(k:B)(h:Kv zs->Sep g T w G->Kp B->A:=by
 intro zs hS k
 refine pu ?_
 exact wal zs hS tyZ k.out):A:=h ⟨qZt⟩ hS ⟨k⟩
theorem bX{A B:Prop}(cs:List Value){g:World}{T:Nat->Prop}{w:World}{G:List X4}(hS:Sep g T w G)(k:B)(h:Kv cs->Sep g T w G->Kp B->A:=by
 intro cs hS k
 refine pu ?_
 exact wbx cs hS k.out):A:=h ⟨qZt⟩ hS ⟨k⟩
theorem bS{A B:Prop}{g:World}{T:Nat->Prop}{w:World}{G:List X4}{α:Type}{r:Rp α}{l:List α}{css:List (List Value)}(hS:Sep g T w G)(a:Z9f r T w css l)(k:B)(h:Sep g T w G->Z9f r T w css l->Kp B->A:=by
 intro hS a k
 refine pu ?_
 exact wbs hS a tyU tyS tyZ k.out):A:=h hS a ⟨k⟩
theorem tyE{e z:Nat}(h:Q0q Tryz.prog e z:=by first|exact el113|exact el104|exact el86|exact el136|exact el96|exact el142|exact el79|exact el92|exact el122|exact el163|exact el145|exact el5|exact el49|exact el3|exact el51|exact el171|exact el32|exact el102|exact el67|exact el106):Q0q Tryz.prog e z:=h
theorem oaO{A B:Prop}(q:Nat){g:World}{T:Nat->Prop}{w:World}{G:List X4}{m:Nat}(hS:Sep g T w G)(a:m<=8589934592)(k:B)(h:Kq q->Sep g T w G->m<=8589934592->Kp B->A:=by
 intro q hS a k
 exact oao q hS Y2q tyU tyE a k.out):A:=h ⟨qZt⟩ hS a ⟨k⟩
theorem aO{A B:Prop}(q:Nat){g:World}{T:Nat->Prop}{w:World}{G:List X4}{m:Nat}(hS:Sep g T w G)(a:m<=8589934592)(k:B)(h:Kq q->Sep g T w G->m<=8589934592->Kp B->A:=by
 intro q hS a k
 refine pu ?_
 exact wao q hS Y2q tyU tyE a k.out):A:=h ⟨qZt⟩ hS a ⟨k⟩
theorem cS{A B H1 H2:Prop}(a:H1)(b:H2)(k:B)(h:H1->H2->Kp B->A:=by
 intro a b k
 refine pu ?_
 exact wcS a b k.out):A:=h a b ⟨k⟩
theorem cN{A B H1 H2:Prop}(a:H1)(b:H2)(k:B)(h:H1->H2->Kp B->A:=by
 intro a b k
 refine pu ?_
 exact wcN a b k.out):A:=h a b ⟨k⟩
theorem cB{A B H1 H2 H3:Prop}(a:H1)(hm:H2)(c:H3)(k:B)(h:H1->H2->H3->Kp B->A:=by
 intro a hm c k
 refine pu ?_
 exact wcB a hm c k.out):A:=h a hm c ⟨k⟩
theorem cBN{A B H1 H2 H3:Prop}(a:H1)(hm:H2)(c:H3)(k:B)(h:H1->H2->H3->Kp B->A:=by
 intro a hm c k
 refine pu ?_
 exact wcBN a hm c k.out):A:=h a hm c ⟨k⟩
theorem cP{A B B2 H1 H2 H3:Prop}(a:H1)(hm:H2)(c:H3)(k:B)(k2:B2)(h:H1->H2->H3->Kp B->Kp B2->A:=by
 intro a hm c k k2
 refine pu ?_
 exact wcP a hm c k.out k2.out):A:=h a hm c ⟨k⟩ ⟨k2⟩
theorem cPN{A B B2 H1 H2 H3:Prop}(a:H1)(hm:H2)(c:H3)(k:B)(k2:B2)(h:H1->H2->H3->Kp B->Kp B2->A:=by
 intro a hm c k k2
 refine pu ?_
 exact wcPN a hm c k.out k2.out):A:=h a hm c ⟨k⟩ ⟨k2⟩
theorem pe{A:Prop}{α:Type}{x z:α}{g:World}{T:Nat->Prop}{w:World}{G:List X4}(hm:some x=some z)(S:Sep g T w G)(h:some x=some z->Kp (Sep g T w G)->A:=by
 intro hm S
 cases oI hm
 refine pn ?_
 repeat(first|with_reducible refine Y7e ?_|with_reducible refine p_blk ?_)
 first|refine panED ?_|refine panE ?_|refine endO rfl ?_|refine endR rfl ?_
 refine psm S.out ch ?_
 repeat'(first|with_reducible apply Exists.intro|with_reducible apply And.intro|exact rfl|exact S.out.unb|exact qZt|assumption|exact Y3y (by assumption) ch|exact U1)):A:=h hm ⟨S⟩
theorem eo{A:Prop}{α:Type}{x z:α}{g:World}{T:Nat->Prop}{w:World}{G:List X4}(hm:some x=some z)(S:Sep g T w G)(h:some x=some z->Kp (Sep g T w G)->A:=by
 intro hm S
 cases oI hm
 refine pn ?_
 repeat(first|with_reducible refine Y7e ?_|with_reducible refine p_blk ?_)
 first|refine endO rfl ?_|refine endR rfl ?_
 refine eoR (resN rfl rvsS rfl) ?_
 refine rsm S.out ch ?_
 repeat'(first|with_reducible apply Exists.intro|with_reducible apply And.intro|exact rfl|exact S.out.unb|exact qZt|assumption|exact Y3y (by assumption) ch|exact U1)):A:=h hm ⟨S⟩
theorem rqS{l:List Oper}{Q:Exit->Act->World->Prop}{T:Nat->Prop}{w:World}{G:List X4}{a:Act}{id:Nat}(hS:Sep g T w G)(h:wpQuiet Tryz.prog l.toArray (QC T w) (fun a1=>∀w1 T1,Im T w T1 w1->Sep g T1 w1 G->Q .normal a1 w1) l a)(hB:Region.lexB .any l.toArray=true:=by kernel_rfl):(Code.region id l.toArray true).wp Tryz.prog Q a w:=
 rq mix hB hS.lt (quiet_mono (fun a1 h w1 T1 i=>h w1 T1 i.imm (hS.keep i fun _ h=>h)) h)
theorem rsS{l:List Oper}{Q:Exit->Act->World->Prop}{g:World}{T:Nat->Prop}{w:World}{G:List X4}{n:NF}{J:Nat->Value}{L:List (Nat×Value)}{id:Nat}(fl ord:List Nat)(hS:Sep g T w G)(k:∀w1,Im T w T w1->Sep g T w1 G->A7 Tryz.prog l fl (NoPanic Q) [] ord (env n J L) w1)(hB:serB l fl ord=true:=by kernel_rfl):(Code.region id l.toArray true).wp Tryz.prog Q (env n J L) w:=
 rs fl ord mix hB hS.lt fun w1 i=>k w1 i.imm (hS.keep i fun _ h=>h)
theorem Q9y{l:List Oper}{Q:Exit->Act->World->Prop}{g:World}{T:Nat->Prop}{w:World}{G:List X4}{n:NF}{J:Nat->Value}{L:List (Nat×Value)}{id:Nat}(fl ord:List Nat)(hS:Sep g T w G)(hQ:PQ l Q)(k:∀w1,Im T w T w1->Sep g T w1 G->A7 Tryz.prog l fl Q [] ord (env n J L) w1)(hB:serB l fl ord=true:=by kernel_rfl):(Code.region id l.toArray true).wp Tryz.prog Q (env n J L) w:=
 rsP fl ord mix hB hS.lt hQ fun w1 i=>k w1 i.imm (hS.keep i fun _ h=>h)
theorem rtS{l:List Oper}{Q:Exit->Act->World->Prop}{g:World}{T:Nat->Prop}{w:World}{G:List X4}{n:NF}{J:Nat->Value}{L:List (Nat×Value)}{id:Nat}(fl ord:List Nat)(hS:Sep g T w G)(k:∀w1,Im T w T w1->Sep g T w1 G->Q0r Tryz.prog l fl (NoPanic Q) ord.length [] ord (env n J L) w1)(hB:trB l fl ord=true:=by kernel_rfl):(Code.region id l.toArray true).wp Tryz.prog Q (env n J L) w:=
 rt fl ord mix hB hS.lt fun w1 i=>k w1 i.imm (hS.keep i fun _ h=>h)
theorem rtPS{l:List Oper}{Q:Exit->Act->World->Prop}{g:World}{T:Nat->Prop}{w:World}{G:List X4}{n:NF}{J:Nat->Value}{L:List (Nat×Value)}{id:Nat}(fl ord:List Nat)(hS:Sep g T w G)(hQ:PQ l Q)(k:∀w1,Im T w T w1->Sep g T w1 G->Q0r Tryz.prog l fl Q ord.length [] ord (env n J L) w1)(hB:trB l fl ord=true:=by kernel_rfl):(Code.region id l.toArray true).wp Tryz.prog Q (env n J L) w:=
 rtP fl ord mix hB hS.lt hQ fun w1 i=>k w1 i.imm (hS.keep i fun _ h=>h)
abbrev Z2f(x:N4):List Value:=[qZs x.s,.int .i64 x.pos.Line,.int .i64 x.pos.Col]
abbrev Y7t(x:X5):List Value:=[.int .i64 x.Kind,qZs x.Text,.int .u32 x.Num,.int .i64 x.Pos.Line,.int .i64 x.Pos.Col]
abbrev M3(pos:Pos)(e:Int):List Value:=[.int .i64 pos.Line,.int .i64 pos.Col,.int .i64 e]
abbrev Z3c(x:F9):List Value:=[qZs x.Word,qZs x.Name,.int .i64 x.Stars]
abbrev D6(x:Y2)(a9:Option Addr)(c9:Nat):List Value:=[.int .i64 x.Kind,.int .i64 x.Pos.Line,.int .i64 x.Pos.Col,qZs x.Op,qZs x.Name,.int .u32 x.Num,qZs x.Type_.Word,qZs x.Type_.Name,.int .i64 x.Type_.Stars,.slice a9 (qQ x.Kids) c9]
abbrev Z8m(x:G9)(a6:Option Addr)(c6:Nat)(a7:Option Addr)(c7:Nat):List Value:=[.int .i64 x.Pos.Line,.int .i64 x.Pos.Col,qZs x.Type_.Word,qZs x.Type_.Name,.int .i64 x.Type_.Stars,qZs x.Name,.slice a6 (qQ x.Dims) c6,.slice a7 (qQ x.Init) c7,.bool x.Brace]
abbrev Z1b(x:E0)(a3:Option Addr)(c3:Nat)(a4:Option Addr)(c4:Nat)(a5:Option Addr)(c5:Nat)(a6:Option Addr)(c6:Nat)(a7:Option Addr)(c7:Nat)(a8:Option Addr)(c8:Nat)(a9:Option Addr)(c9:Nat):List Value:=[.int .i64 x.Kind,.int .i64 x.Pos.Line,.int .i64 x.Pos.Col,.slice a3 (qQ x.A) c3,.slice a4 (qQ x.B) c4,.slice a5 (qQ x.C) c5,.slice a6 (qQ x.Var) c6,.slice a7 (qQ x.Body) c7,.slice a8 (qQ x.Else) c8,.slice a9 (qQ x.Cases) c9]
abbrev Y7u(x:Q1d)(a4:Option Addr)(c4:Nat):List Value:=[.int .i64 x.Pos.Line,.int .i64 x.Pos.Col,.bool x.Default,.int .u32 x.Num,.slice a4 (qQ x.Body) c4]
abbrev Y9n(x:Q2n)(a3:Option Addr)(c3:Nat):List Value:=[.int .i64 x.Pos.Line,.int .i64 x.Pos.Col,qZs x.Name,.slice a3 (qQ x.Fields) c3]
abbrev Y0b(x:I1)(a6:Option Addr)(c6:Nat)(a7:Option Addr)(c7:Nat):List Value:=[.int .i64 x.Pos.Line,.int .i64 x.Pos.Col,qZs x.Ret.Word,qZs x.Ret.Name,.int .i64 x.Ret.Stars,qZs x.Name,.slice a6 (qQ x.Params) c6,.slice a7 (qQ x.Body) c7]
abbrev Q2p(x:U8)(a4:Option Addr)(c4:Nat):List Value:=[.int .i64 x.Type_.Kind,.int .i64 x.Type_.Elem,.int .i64 x.Type_.Len,qZs x.Type_.Name,.slice a4 (qQ x.Type_.Fields) c4,.int .i64 x.size,.int .i64 x.align,.bool x.open_]
abbrev Q9e(x:K5):List Value:=[qZs x.Name,.int .i64 x.Type_,.int .i64 x.At]
abbrev X0t(x:Q5u):List Value:=[qZs x.Name,.int .i64 x.Size,.int .i64 x.Align,.int .i64 x.Cell]
abbrev Y4u(x:Q5t)(a4:Option Addr)(c4:Nat):List Value:=[.int .i64 x.Kind,.int .i64 x.Elem,.int .i64 x.Len,qZs x.Name,.slice a4 (qQ x.Fields) c4]
abbrev Q0o(x:Z8)(a9:Option Addr)(c9:Nat):List Value:=[.int .i64 x.n,.int .i64 x.term.Kind,.int .i64 x.term.Fn,.int .u32 x.term.Num,.int .i64 x.term.Var,.bool x.term.Global,.int .i64 x.term.Size,.bool x.term.Post,.bool x.term.Ptr,.slice a9 (qQ x.term.Kids) c9,.bool x.lies]
abbrev U4(x:Y1)(a8:Option Addr)(c8:Nat):List Value:=[.int .i64 x.Kind,.int .i64 x.Fn,.int .u32 x.Num,.int .i64 x.Var,.bool x.Global,.int .i64 x.Size,.bool x.Post,.bool x.Ptr,.slice a8 (qQ x.Kids) c8]
abbrev Z8n(x:K2)(a1:Option Addr)(c1:Nat)(a2:Option Addr)(c2:Nat)(a4:Option Addr)(c4:Nat)(a5:Option Addr)(c5:Nat)(a6:Option Addr)(c6:Nat):List Value:=[.int .i64 x.Kind,.slice a1 (qQ x.A) c1,.slice a2 (qQ x.Post) c2,.bool x.First,.slice a4 (qQ x.Body) c4,.slice a5 (qQ x.Else) c5,.slice a6 (qQ x.Cases) c6,.int .i64 x.Var]
abbrev X1u(x:Q8a)(a2:Option Addr)(c2:Nat):List Value:=[.bool x.Default,.int .u32 x.Num,.slice a2 (qQ x.Body) c2]
abbrev cGCode(x:Q1m)(a3:Option Addr)(c3:Nat)(a4:Option Addr)(c4:Nat):List Value:=[qZs x.Name,.bool x.Void,.int .i64 x.Params,.slice a3 (qQ x.Slots) c3,.slice a4 (qQ x.Body) c4]
abbrev iv(x:Int):Value:= .int .i64 x
abbrev sv{α:Type}(a:Option Addr)(l:List α)(c:Nat):Value:= .slice a (qQ l) c
abbrev pt(b o:Nat):Value:= .pointer (some ⟨b,o,none⟩)
abbrev OA:=Option Addr
abbrev JV:=Nat->Value
abbrev TP:=Nat->Prop
abbrev zv1:List Value:=[iv 0,iv 0,iv 0,.int .u32 0,iv 0,.bool false,iv 0,.bool false,.bool false,.slice none 0 0,.bool false]
abbrev zv2:List Value:=[iv 0,iv 0,iv 0,qZs [],qZs [],.int .u32 0,qZs [],qZs [],iv 0,.slice none 0 0]
abbrev zv3:List Value:=[iv 0,iv 0,.int .u32 0,iv 0,.bool false,iv 0,.bool false,.bool false,.slice none 0 0]
abbrev zv4:List Value:=[iv 0,.slice none 0 0,.slice none 0 0,.bool false,.slice none 0 0,.slice none 0 0,.slice none 0 0,iv 0]
abbrev zv5:List Value:=[iv 0,iv 0,qZs [],qZs [],iv 0,qZs [],.slice none 0 0,.slice none 0 0,.bool false]
abbrev zv6:List Value:=[iv 0,iv 0,qZs [],qZs [],iv 0,qZs [],.slice none 0 0,.slice none 0 0]
abbrev zv7:List Value:=[iv 0,iv 0,iv 0,qZs [],.slice none 0 0]
abbrev zv8:List Value:=[iv 0,qZs [],.int .u32 0,iv 0,iv 0]
abbrev zv9:List Value:=[iv 0,iv 0,iv 0,.slice none 0 0,.slice none 0 0,.slice none 0 0,.slice none 0 0,.slice none 0 0,.slice none 0 0,.slice none 0 0]
abbrev zv10:List Value:=[qZs [],qZs [],iv 0]
abbrev zv11:List Value:=[qZs [],.bool false,iv 0,.slice none 0 0,.slice none 0 0]
abbrev zv12:List Value:=[.slice none 0 0,.slice none 0 0,.slice none 0 0,iv 0]
abbrev zv13:List Value:=[iv 0,iv 0,qZs [],.slice none 0 0]
abbrev zv14:List Value:=[.slice none 0 0,.slice none 0 0,.slice none 0 0]
abbrev zv15:List Value:=[qZs [],iv 0,iv 0]
abbrev zv16:List Value:=[iv 0,iv 0,iv 0,qZs [],.slice none 0 0,iv 0,iv 0,.bool false]
abbrev zv17:List Value:=[.bool false,.int .u32 0,.slice none 0 0]
abbrev zv18:List Value:=[iv 0,iv 0,.bool false,.int .u32 0,.slice none 0 0]

theorem lnS{b o:Nat}{H:List Value->X4}(h:Ln b o H:=by first|assumption|exact Q4m _):Ln b o H:=h
theorem slS{α:Type}{r:Rp α}{T:Nat->Prop}{w:World}{v:Value}{l:List α}(h:SlR r T w v l:=by first|assumption|exact U1|exact Y3y (by assumption) ch):SlR r T w v l:=h
theorem giS{T:Nat->Prop}{w:World}{k:Nat}(h:Gi T w k:=by first|assumption|exact Gi.mono (by assumption) ch):Gi T w k:=h
theorem eqS{α:Type}{m:Option α}{r:α}(h:m=some r:=by assumption):m=some r:=h
theorem hcE{H:List Value->X4}{a b:List Value}(h:a=b):H a=H b:=by rw[h]
theorem owE{α:Type}{r:Rp α}{e:TypeId}{v:Value}{a b:List α}(h:a=b):G6 r e v a=G6 r e v b:=by rw[h]
theorem rmS{G G2:List X4}{A:X4}(h:Rmv G A G2:=by repeat(first|((apply rmH);(exact rfl);(first|(with_reducible exact rfl)|((with_reducible apply hcE);(exact rfl))|((with_reducible apply owE);(exact rfl))))|((apply rmT);(exact rfl)))):Rmv G A G2:=h
theorem pkZ{G N rest:List X4}(h:Pks G N rest:=by repeat(first|exact pk0|((apply pkC);(exact rmS)))):Pks G N rest:=h
theorem ctS{C X:Prop}{g:World}{T:Nat->Prop}{w:World}{G:List X4}(c:C)(hS:Sep g T w G)(h:C->Sep g T w G->X:=by
 intro c hS
 apply c
 try any_goals(with_reducible exact eqS)
 try any_goals((fail_if_success(show Ln 123456789 _ _));(with_reducible exact lnS))
 try any_goals((apply Sep.pkC);(exact hS))
 repeat((any_goals((apply pkC);(exact rmS)));(try any_goals((fail_if_success(show Ln 123456789 _ _));(with_reducible exact lnS))))
 try any_goals(exact pk0)
 try any_goals(exact slS)
 try any_goals(exact giS)
 all_goals assumption):X:=h c hS
theorem reZ{A:Prop}{α:Type}{x z:α}{g:World}{T:Nat->Prop}{w:World}{G:List X4}(hm:some x=some z)(hS:Sep g T w G)(h:some x=some z->Sep g T w G->A:=by
 intro hm hS
 cases oI hm
 first|refine ret1 rfl rfl ?_|refine ret0 rfl ?_|refine ret2 rfl rfl rfl ?_|refine end0 rfl ?_|(apply retN;(exact rfl);(exact rvsS);(exact rfl))
 first|(refine rsm hS ch ?_;(repeat'(first|with_reducible apply Exists.intro|with_reducible apply And.intro|exact rfl|exact Sep.pkR hS pkZ|exact qZt|assumption|exact slS));done)|(obtain⟨_,_,hS,_,rfl⟩:=hS.sl 0;refine rsm hS ch ?_;(repeat'(first|with_reducible apply Exists.intro|with_reducible apply And.intro|exact rfl|exact Sep.pkR hS pkZ|exact qZt|assumption|exact slS));done)|(obtain⟨_,_,hS,_,rfl⟩:=hS.sl 1;refine rsm hS ch ?_;(repeat'(first|with_reducible apply Exists.intro|with_reducible apply And.intro|exact rfl|exact Sep.pkR hS pkZ|exact qZt|assumption|exact slS));done)|(obtain⟨_,_,hS,_,rfl⟩:=hS.sl 2;refine rsm hS ch ?_;(repeat'(first|with_reducible apply Exists.intro|with_reducible apply And.intro|exact rfl|exact Sep.pkR hS pkZ|exact qZt|assumption|exact slS));done)|(obtain⟨_,_,hS,_,rfl⟩:=hS.sl 3;refine rsm hS ch ?_;(repeat'(first|with_reducible apply Exists.intro|with_reducible apply And.intro|exact rfl|exact Sep.pkR hS pkZ|exact qZt|assumption|exact slS));done)|(obtain⟨_,_,hS,_,rfl⟩:=hS.sl 4;refine rsm hS ch ?_;(repeat'(first|with_reducible apply Exists.intro|with_reducible apply And.intro|exact rfl|exact Sep.pkR hS pkZ|exact qZt|assumption|exact slS));done)|(obtain⟨_,_,hS,_,rfl⟩:=hS.sl 5;refine rsm hS ch ?_;(repeat'(first|with_reducible apply Exists.intro|with_reducible apply And.intro|exact rfl|exact Sep.pkR hS pkZ|exact qZt|assumption|exact slS));done)):A:=h hm hS
theorem peZ{A:Prop}{α:Type}{x z:α}{g:World}{T:Nat->Prop}{w:World}{G:List X4}(hm:some x=some z)(hS:Sep g T w G)(h:some x=some z->Sep g T w G->A:=by
 intro hm hS
 cases oI hm
 repeat(first|with_reducible refine Y7e ?_|with_reducible refine p_blk ?_)
 first|refine panED ?_|refine panE ?_|refine endO rfl ?_|refine endR rfl ?_
 first|(refine psm hS ch ?_;(repeat'(first|with_reducible apply Exists.intro|with_reducible apply And.intro|exact rfl|exact Sep.pkR hS pkZ|exact qZt|assumption|exact slS));done)|(obtain⟨_,_,hS,_,rfl⟩:=hS.sl 0;refine psm hS ch ?_;(repeat'(first|with_reducible apply Exists.intro|with_reducible apply And.intro|exact rfl|exact Sep.pkR hS pkZ|exact qZt|assumption|exact slS));done)|(obtain⟨_,_,hS,_,rfl⟩:=hS.sl 1;refine psm hS ch ?_;(repeat'(first|with_reducible apply Exists.intro|with_reducible apply And.intro|exact rfl|exact Sep.pkR hS pkZ|exact qZt|assumption|exact slS));done)|(obtain⟨_,_,hS,_,rfl⟩:=hS.sl 2;refine psm hS ch ?_;(repeat'(first|with_reducible apply Exists.intro|with_reducible apply And.intro|exact rfl|exact Sep.pkR hS pkZ|exact qZt|assumption|exact slS));done)|(obtain⟨_,_,hS,_,rfl⟩:=hS.sl 3;refine psm hS ch ?_;(repeat'(first|with_reducible apply Exists.intro|with_reducible apply And.intro|exact rfl|exact Sep.pkR hS pkZ|exact qZt|assumption|exact slS));done)|(obtain⟨_,_,hS,_,rfl⟩:=hS.sl 4;refine psm hS ch ?_;(repeat'(first|with_reducible apply Exists.intro|with_reducible apply And.intro|exact rfl|exact Sep.pkR hS pkZ|exact qZt|assumption|exact slS));done)|(obtain⟨_,_,hS,_,rfl⟩:=hS.sl 5;refine psm hS ch ?_;(repeat'(first|with_reducible apply Exists.intro|with_reducible apply And.intro|exact rfl|exact Sep.pkR hS pkZ|exact qZt|assumption|exact slS));done)):A:=h hm hS
theorem opx{P:Program}{n:NF}{J:Nat->Value}{L:List (Nat×Value)}{w:World}{o:Oper}{v:Value}(h:(execOp (ev n J L) o).run P w= .ok (.value v) w:=by
 first|((with_reducible apply r_ss);(exact rfl);(first|exact rfl|exact⟨_,rfl⟩);(first|exact rfl|exact⟨_,rfl⟩);(assumption);(exact tyU))|((with_reducible apply Z5f);(exact rfl);(exact rfl);(assumption);(exact tyU))|((with_reducible apply r_slR);(exact rfl);(exact slS);(first|exact rfl|exact⟨_,rfl⟩);(first|exact rfl|exact⟨_,rfl⟩);(assumption);(exact tyU);(exact tyS);(exact rfl);(assumption))|((with_reducible apply r_fd1);(exact rfl);(exact tyU);(exact rfl);(exact tyA);(exact rfl))|((with_reducible apply zbd);(exact tyZ);(exact tyU);(exact lsS);(kernel_rfl))|((with_reducible apply r_zf);(exact rfl))|((with_reducible apply Y0r);(exact(rfl:_=Value.func _ _ _)))|((with_reducible apply r_iq);(exact rfl);(exact rfl);(assumption))|((with_reducible apply r_irm);(exact rfl);(exact rfl);(assumption))|((with_reducible apply r_bn);(exact rfl);(exact rfl);(exact tyU))|((with_reducible apply r_bq);(exact rfl);(exact rfl);(exact tyU))|((with_reducible apply r_mif);(exact rfl);(exact tyU))|((with_reducible apply r_pne);(exact rfl);(exact rfl);(exact rfl);(exact tyU))|((with_reducible apply Y3n);(exact rfl);(exact rfl);(exact rfl);(exact tyU))|((with_reducible apply r_sne);(exact rfl);(exact rfl);(exact rfl);(exact tyU))|((with_reducible apply r_ldZ);(exact rfl);(exact tyA);(exact tyS);(first|assumption|exact cellsAt.sameT (by assumption) (by assumption) ch);(exact lsS);(exact rfl))|((with_reducible apply r_ldQ);(assumption);(exact rfl);(exact tyA);(exact tyS);(assumption);(exact atS);(exact lsS);(exact rfl))):(execOp (ev n J L) o).run P w= .ok (.value v) w:=h
theorem mkS{α:Type}{r:Rp α}{T:Nat->Prop}{w:World}{cs:List Value}{x:α}(h:r.rp T w cs x:=by first|assumption|exact rfl|((apply Q8z)<;>(exact slS))|((apply Z2q)<;>(exact slS))|((apply Q2e)<;>(exact slS))|((apply Z7o)<;>(exact slS))|((apply Y2j)<;>(exact slS))|((apply Y3p)<;>(exact slS))|((apply Z8r)<;>(exact slS))|((apply Y1v)<;>(exact slS))|((apply Y6z)<;>(exact slS))|((apply Y3q)<;>(exact slS))|((apply Y3s)<;>(exact slS))|((apply Y3o)<;>(exact slS))|((apply Y2r)<;>(exact slS))|((apply Y1u)<;>(exact slS))|((apply V9)<;>(exact slS))|((apply Q1v)<;>(exact slS))|((apply Z9v)<;>(exact slS))|((apply Z4k)<;>(exact slS))|((apply X2g)<;>(exact slS))|((apply Z9u)<;>(exact slS))|((apply Y5v)<;>(exact slS))|((apply Q1s)<;>(exact slS))|((apply Y5a)<;>(exact slS))|((apply Z4b)<;>(exact slS))|((apply Y3t)<;>(exact slS))|((apply Y1w)<;>(exact slS))):r.rp T w cs x:=h
theorem jeZ{A F:Prop}{g:World}{T:Nat->Prop}{w:World}{G:List X4}(hm:F)(hS:Sep g T w G)(h:F->Sep g T w G->A:=by
 intro hm hS
 first|((repeat'(first|with_reducible apply Exists.intro|with_reducible apply And.intro|exact hm|exact rfl|exact Z9e|exact Sep.pkE hS pkZ|exact ch|exact qZt|assumption|exact slS));done)|(obtain⟨_,_,hS,_,rfl⟩:=hS.sl 0;(repeat'(first|with_reducible apply Exists.intro|with_reducible apply And.intro|exact hm|exact rfl|exact Z9e|exact Sep.pkE hS pkZ|exact ch|exact qZt|assumption|exact slS));done)|(obtain⟨_,_,hS,_,rfl⟩:=hS.sl 1;(repeat'(first|with_reducible apply Exists.intro|with_reducible apply And.intro|exact hm|exact rfl|exact Z9e|exact Sep.pkE hS pkZ|exact ch|exact qZt|assumption|exact slS));done)|(obtain⟨_,_,hS,_,rfl⟩:=hS.sl 2;(repeat'(first|with_reducible apply Exists.intro|with_reducible apply And.intro|exact hm|exact rfl|exact Z9e|exact Sep.pkE hS pkZ|exact ch|exact qZt|assumption|exact slS));done)|(obtain⟨_,_,hS,_,rfl⟩:=hS.sl 3;(repeat'(first|with_reducible apply Exists.intro|with_reducible apply And.intro|exact hm|exact rfl|exact Z9e|exact Sep.pkE hS pkZ|exact ch|exact qZt|assumption|exact slS));done)|(obtain⟨_,_,hS,_,rfl⟩:=hS.sl 4;(repeat'(first|with_reducible apply Exists.intro|with_reducible apply And.intro|exact hm|exact rfl|exact Z9e|exact Sep.pkE hS pkZ|exact ch|exact qZt|assumption|exact slS));done)|(obtain⟨_,_,hS,_,rfl⟩:=hS.sl 5;(repeat'(first|with_reducible apply Exists.intro|with_reducible apply And.intro|exact hm|exact rfl|exact Z9e|exact Sep.pkE hS pkZ|exact ch|exact qZt|assumption|exact slS));done)):A:=h hm hS
theorem lgZ{A:Prop}{α:Type}{x z:α}{g:World}{T:Nat->Prop}{w:World}{G:List X4}(hm:some x=some z)(hS:Sep g T w G)(h:some x=some z->Sep g T w G->A:=by
 intro hm hS
 cases oI hm
 refine⟨_,Nat.lt_succ_self _,?_⟩
 first|((repeat'(first|with_reducible apply Exists.intro|with_reducible apply And.intro|exact hm|exact rfl|exact Z9e|exact Sep.pkE hS pkZ|exact ch|exact qZt|assumption|exact slS));done)|(obtain⟨_,_,hS,_,rfl⟩:=hS.sl 0;(repeat'(first|with_reducible apply Exists.intro|with_reducible apply And.intro|exact hm|exact rfl|exact Z9e|exact Sep.pkE hS pkZ|exact ch|exact qZt|assumption|exact slS));done)|(obtain⟨_,_,hS,_,rfl⟩:=hS.sl 1;(repeat'(first|with_reducible apply Exists.intro|with_reducible apply And.intro|exact hm|exact rfl|exact Z9e|exact Sep.pkE hS pkZ|exact ch|exact qZt|assumption|exact slS));done)|(obtain⟨_,_,hS,_,rfl⟩:=hS.sl 2;(repeat'(first|with_reducible apply Exists.intro|with_reducible apply And.intro|exact hm|exact rfl|exact Z9e|exact Sep.pkE hS pkZ|exact ch|exact qZt|assumption|exact slS));done)|(obtain⟨_,_,hS,_,rfl⟩:=hS.sl 3;(repeat'(first|with_reducible apply Exists.intro|with_reducible apply And.intro|exact hm|exact rfl|exact Z9e|exact Sep.pkE hS pkZ|exact ch|exact qZt|assumption|exact slS));done)|(obtain⟨_,_,hS,_,rfl⟩:=hS.sl 4;(repeat'(first|with_reducible apply Exists.intro|with_reducible apply And.intro|exact hm|exact rfl|exact Z9e|exact Sep.pkE hS pkZ|exact ch|exact qZt|assumption|exact slS));done)|(obtain⟨_,_,hS,_,rfl⟩:=hS.sl 5;(repeat'(first|with_reducible apply Exists.intro|with_reducible apply And.intro|exact hm|exact rfl|exact Z9e|exact Sep.pkE hS pkZ|exact ch|exact qZt|assumption|exact slS));done)):A:=h hm hS
theorem eoZ{A:Prop}{α:Type}{x z:α}{g:World}{T:Nat->Prop}{w:World}{G:List X4}(hm:some x=some z)(hS:Sep g T w G)(h:some x=some z->Sep g T w G->A:=by
 intro hm hS
 cases oI hm
 repeat(first|with_reducible refine Y7e ?_|with_reducible refine p_blk ?_)
 first|refine endO rfl ?_|refine endR rfl ?_
 refine eoR (resN rfl rvsS rfl) ?_
 first|(refine rsm hS ch ?_;(repeat'(first|with_reducible apply Exists.intro|with_reducible apply And.intro|exact rfl|exact Sep.pkR hS pkZ|exact qZt|assumption|exact slS));done)|(obtain⟨_,_,hS,_,rfl⟩:=hS.sl 0;refine rsm hS ch ?_;(repeat'(first|with_reducible apply Exists.intro|with_reducible apply And.intro|exact rfl|exact Sep.pkR hS pkZ|exact qZt|assumption|exact slS));done)|(obtain⟨_,_,hS,_,rfl⟩:=hS.sl 1;refine rsm hS ch ?_;(repeat'(first|with_reducible apply Exists.intro|with_reducible apply And.intro|exact rfl|exact Sep.pkR hS pkZ|exact qZt|assumption|exact slS));done)|(obtain⟨_,_,hS,_,rfl⟩:=hS.sl 2;refine rsm hS ch ?_;(repeat'(first|with_reducible apply Exists.intro|with_reducible apply And.intro|exact rfl|exact Sep.pkR hS pkZ|exact qZt|assumption|exact slS));done)|(obtain⟨_,_,hS,_,rfl⟩:=hS.sl 3;refine rsm hS ch ?_;(repeat'(first|with_reducible apply Exists.intro|with_reducible apply And.intro|exact rfl|exact Sep.pkR hS pkZ|exact qZt|assumption|exact slS));done)|(obtain⟨_,_,hS,_,rfl⟩:=hS.sl 4;refine rsm hS ch ?_;(repeat'(first|with_reducible apply Exists.intro|with_reducible apply And.intro|exact rfl|exact Sep.pkR hS pkZ|exact qZt|assumption|exact slS));done)|(obtain⟨_,_,hS,_,rfl⟩:=hS.sl 5;refine rsm hS ch ?_;(repeat'(first|with_reducible apply Exists.intro|with_reducible apply And.intro|exact rfl|exact Sep.pkR hS pkZ|exact qZt|assumption|exact slS));done)):A:=h hm hS
theorem zr{A H:Prop}{g:World}{T:Nat->Prop}{w:World}{G:List X4}(hm:H)(hS:Sep g T w G)(h:H->Sep g T w G->A:=by
 intro hm hS
 try simp only[Z4a,atA,H0,List.range',List.cons_append,List.nil_append,List.append_nil,List.append_assoc]at hS
 repeat'(first|(obtain⟨_,hx,hm⟩:=bindI hm;(try(first|(obtain⟨_,hr,_,_⟩:=ixS hS hx (by assumption);(first|(obtain rfl:=Q2b hr)|(obtain rfl:=Q5n hr)|(obtain⟨_,_,rfl,_⟩:=G7 hr)|(obtain⟨_,_,_,_,rfl,_,_⟩:=Q9g hr)|(obtain⟨_,_,rfl,_⟩:=Z1o hr)|(obtain⟨_,_,_,_,_,_,_,_,_,_,_,_,_,_,rfl,_,_,_,_,_,_,_⟩:=Z9t hr)|(obtain⟨_,_,rfl,_⟩:=Z7s hr)|(obtain⟨_,_,_,_,rfl,_,_⟩:=Q9s hr)|(obtain⟨_,_,_,_,_,_,rfl,_,_,_⟩:=Z7r hr)|(obtain rfl:=Z1h hr)|(obtain rfl:=Z5h hr)|(obtain⟨_,_,rfl,_⟩:=Z4j hr)|(obtain rfl:=Z0e hr)|(obtain rfl:=Z7q hr)|(obtain⟨_,_,rfl,_⟩:=Q9r hr)|(obtain⟨_,_,_,_,_,_,_,_,_,_,rfl,_,_,_,_,_⟩:=Z5i hr)|(obtain⟨_,_,rfl,_⟩:=Y0t hr)|(obtain⟨_,_,_,_,rfl,_,_⟩:=Q7l hr)|(obtain⟨_,_,_,_,_,_,rfl,_,_,_⟩:=Y2i hr)|(obtain rfl:=Z2r hr)|(obtain⟨_,_,rfl,_⟩:=Z7p hr)|(obtain⟨_,_,rfl,_⟩:=I5 hr)|(obtain⟨_,_,rfl,_⟩:=Z6i hr)|(obtain⟨_,_,rfl,_⟩:=Q4d hr)|(obtain⟨_,_,rfl,_⟩:=Z4l hr)|(obtain rfl:=Q9h hr)))|(obtain⟨_,hr,_⟩:=SlV.ixcS (Sep.own hS atS).v hx rfl;(first|(obtain rfl:=Q2b hr)|(obtain rfl:=Q5n hr)|(obtain⟨_,_,rfl,_⟩:=G7 hr)|(obtain⟨_,_,_,_,rfl,_,_⟩:=Q9g hr)|(obtain⟨_,_,rfl,_⟩:=Z1o hr)|(obtain⟨_,_,_,_,_,_,_,_,_,_,_,_,_,_,rfl,_,_,_,_,_,_,_⟩:=Z9t hr)|(obtain⟨_,_,rfl,_⟩:=Z7s hr)|(obtain⟨_,_,_,_,rfl,_,_⟩:=Q9s hr)|(obtain⟨_,_,_,_,_,_,rfl,_,_,_⟩:=Z7r hr)|(obtain rfl:=Z1h hr)|(obtain rfl:=Z5h hr)|(obtain⟨_,_,rfl,_⟩:=Z4j hr)|(obtain rfl:=Z0e hr)|(obtain rfl:=Z7q hr)|(obtain⟨_,_,rfl,_⟩:=Q9r hr)|(obtain⟨_,_,_,_,_,_,_,_,_,_,rfl,_,_,_,_,_⟩:=Z5i hr)|(obtain⟨_,_,rfl,_⟩:=Y0t hr)|(obtain⟨_,_,_,_,rfl,_,_⟩:=Q7l hr)|(obtain⟨_,_,_,_,_,_,rfl,_,_,_⟩:=Y2i hr)|(obtain rfl:=Z2r hr)|(obtain⟨_,_,rfl,_⟩:=Z7p hr)|(obtain⟨_,_,rfl,_⟩:=I5 hr)|(obtain⟨_,_,rfl,_⟩:=Z6i hr)|(obtain⟨_,_,rfl,_⟩:=Q4d hr)|(obtain⟨_,_,rfl,_⟩:=Z4l hr)|(obtain rfl:=Q9h hr))))))|(obtain⟨hro,hm⟩:=bindR hm)|(obtain⟨hnz,hm⟩:=bindN hm)|(obtain⟨_,hx,hm⟩:=bindU hm;(try(obtain⟨_,_,he,_⟩:=SlR.part (slS (by assumption)) hx)))|with_reducible refine rg ?_|((with_reducible apply pv);(exact opv))|((with_reducible apply gT);(exact rfl);(exact rfl);(first|assumption|exact rfl))|((with_reducible apply gF);(exact rfl);(exact rfl);(first|assumption|exact rfl))|((with_reducible apply gU);(exact rfl);(exact rfl))|((with_reducible apply s0a);(exact rfl);(exact rfl);(exact gwS);(intro _;exact opv))|((with_reducible apply sUa);(exact rfl);(exact gUS))|((with_reducible apply s1a);(exact rfl);(exact rfl);(exact gwS);(exact opv))|((with_reducible apply And.intro);(exact stS))|((with_reducible apply qv);(intro _ _;exact opq))|((with_reducible apply qgT);(exact rfl);(exact rfl);(first|assumption|exact rfl))|((with_reducible apply qgF);(exact rfl);(exact rfl);(first|assumption|exact rfl))|((with_reducible apply qgU);(exact rfl);(exact rfl))|((with_reducible apply t0a);(exact rfl);(exact rfl);(exact rfl);(exact gwS);(intro _;exact opv))|((with_reducible apply tUa);(exact rfl);(exact rfl);(exact gUS);(kernel_rfl))|((with_reducible apply t1a);(exact rfl);(exact rfl);(exact rfl);(exact gwS);(exact opv))|with_reducible refine nil ?_|with_reducible refine Y6w ?_|with_reducible refine t_blk ?_|with_reducible refine se ?_|with_reducible refine seP ?_|with_reducible refine te ?_|with_reducible refine teP ?_|with_reducible refine qn ?_|with_reducible refine skp ?_|with_reducible refine xt ?_|with_reducible refine x_then ?_|with_reducible refine x_eq ?_|with_reducible refine x_ne (by decide) ?_|with_reducible refine rtn ?_|with_reducible refine r_then ?_|with_reducible refine r_blk ?_|((with_reducible apply pv);(exact opx))|((with_reducible apply zcP);(exact hS);(exact hm);(exact rfl);(exact inferInstance);(exact rfl);(intro c;exact ctS c hS);(all_goals(intro y v T w im h hm;(repeat(first|(obtain⟨rfl,h⟩:=h)|(obtain⟨_,h⟩:=h)));(have hS:=(by assumption:Sep _ _ w _)))))|((with_reducible apply zcPN);(exact hS);(exact hm);(exact rfl);(exact inferInstance);(exact rfl);(intro c;exact ctS c hS);(all_goals(intro y v T w im h hm;(repeat(first|(obtain⟨rfl,h⟩:=h)|(obtain⟨_,h⟩:=h)));(have hS:=(by assumption:Sep _ _ w _)))))|((with_reducible apply zcB);(exact hS);(exact hm);(exact rfl);(exact inferInstance);(exact rfl);(intro c;exact ctS c hS);(all_goals(intro y v T w im h hm;(repeat(first|(obtain⟨rfl,h⟩:=h)|(obtain⟨_,h⟩:=h)));(have hS:=(by assumption:Sep _ _ w _)))))|((with_reducible apply zcBN);(exact hS);(exact hm);(exact rfl);(exact inferInstance);(exact rfl);(intro c;exact ctS c hS);(all_goals(intro y v T w im h hm;(repeat(first|(obtain⟨rfl,h⟩:=h)|(obtain⟨_,h⟩:=h)));(have hS:=(by assumption:Sep _ _ w _)))))|((with_reducible apply zst);(exact hS);(exact rfl);(exact atS);(exact tyS);(exact rfl);(exact lsS);(exact rfl);(exact rfl);(exact rfl);(intro w im hS))|((with_reducible apply zsb);(exact hS);(exact rfl);(exact lnS);(exact atS);(exact tyS);(exact rfl);(exact lsS);(exact rfl);(exact rfl);(exact rfl);(intro w im hS))|((with_reducible apply zal);(exact hS);(exact tyZ);(exact lsS);(intro w b im hS))|((with_reducible apply zbx);(exact hS);(exact rfl);(exact lsS);(intro w b im hS))|(refine cndH rfl hm ?_ ?_<;>intro hb hm)|(refine cnd (b:=true) rfl (fun _=>?_) (fun h=>nomatch h))|(refine cnd (b:=false) rfl (fun h=>nomatch h) (fun _=>?_))|(with_reducible refine sq2 ?_)|(with_reducible refine blk ?_)|((with_reducible apply wl);(exact rfl);(apply panO);(exact rfl))|(exact nnS hm)|(exact reZ hm hS)|(exact peZ hm hS)|((with_reducible apply(zbs 1));(exact hS);(assumption);(first|exact⟨mkS,qZt⟩|exact⟨mkS,mkS,qZt⟩|exact⟨mkS,mkS,mkS,qZt⟩|exact⟨mkS,mkS,mkS,mkS,qZt⟩);(exact tyU);(exact tyS);(exact tyZ);(exact rfl);(exact rfl);(exact rfl);(exact rfl);(kernel_rfl);(exact rfl);(intro w a m c im hS))|((with_reducible apply(zbs 2));(exact hS);(assumption);(first|exact⟨mkS,qZt⟩|exact⟨mkS,mkS,qZt⟩|exact⟨mkS,mkS,mkS,qZt⟩|exact⟨mkS,mkS,mkS,mkS,qZt⟩);(exact tyU);(exact tyS);(exact tyZ);(exact rfl);(exact rfl);(exact rfl);(exact rfl);(kernel_rfl);(exact rfl);(intro w a m c im hS))|((with_reducible apply(zbs 3));(exact hS);(assumption);(first|exact⟨mkS,qZt⟩|exact⟨mkS,mkS,qZt⟩|exact⟨mkS,mkS,mkS,qZt⟩|exact⟨mkS,mkS,mkS,mkS,qZt⟩);(exact tyU);(exact tyS);(exact tyZ);(exact rfl);(exact rfl);(exact rfl);(exact rfl);(kernel_rfl);(exact rfl);(intro w a m c im hS))|((with_reducible apply(zbs 4));(exact hS);(assumption);(first|exact⟨mkS,qZt⟩|exact⟨mkS,mkS,qZt⟩|exact⟨mkS,mkS,mkS,qZt⟩|exact⟨mkS,mkS,mkS,mkS,qZt⟩);(exact tyU);(exact tyS);(exact tyZ);(exact rfl);(exact rfl);(exact rfl);(exact rfl);(kernel_rfl);(exact rfl);(intro w a m c im hS))|(exact lgZ hm hS)|(exact jeZ hm hS)|(exact eoZ hm hS)|(have hm:=Z0r hm (by assumption) (by assumption))|(have hm:=Q4j hm (by assumption) (by assumption))|((with_reducible apply s0a);(exact rfl);(exact rfl);(exact gwS);(intro _;exact opx))|((with_reducible apply s1a);(exact rfl);(exact rfl);(exact gwS);(exact opx))|((with_reducible apply t0a);(exact rfl);(exact rfl);(exact rfl);(exact gwS);(intro _;exact opx))|((with_reducible apply t1a);(exact rfl);(exact rfl);(exact rfl);(exact gwS);(exact opx))|((with_reducible apply t0a);(exact rfl);(exact rfl);(exact rfl);(exact gwS);(intro _;exact opv))|((with_reducible apply tUa);(exact rfl);(exact rfl);(exact gUS);(kernel_rfl))|((with_reducible apply t1a);(exact rfl);(exact rfl);(exact rfl);(exact gwS);(exact opv))|(with_reducible refine te ?_)|(with_reducible refine teP ?_)|(with_reducible refine se ?_)|(with_reducible refine seP ?_)|((with_reducible apply idS);(obtain⟨y,hx,hm⟩:=Z9 hm);(try(rcases y with e|y<;>first|(have hm:=J4 hm)|(have hm:=C4 hm))))|((with_reducible apply idT);(obtain⟨y,hx,hm⟩:=Z9 hm);(try(rcases y with e|y<;>first|(have hm:=J4 hm)|(have hm:=C4 hm))))|((with_reducible apply s2Z);(assumption);(exact lsZ);(exact rfl);(exact gwS);(exact rfl);(kernel_rfl))|((with_reducible apply twZ);(assumption);(exact rfl);(exact lsZ);(exact rfl);(exact wt_of rfl rfl gwS);(exact rfl);(kernel_rfl);(kernel_rfl))|(with_reducible exact brs0)|(with_reducible refine brsC ?_ ?_)|((with_reducible apply brZ);(assumption);(exact lsZ);(exact lsZ);(exact rfl);(kernel_rfl);(kernel_rfl);(exact gwS);(kernel_rfl))|((with_reducible apply zoS);(exact hS);(exact rfl);(exact inferInstance);(exact rfl);(intro c;exact ctS c hS);(intro v T w im h;(repeat(first|(obtain⟨rfl,h⟩:=h)|(obtain⟨_,h⟩:=h)));(have hS:=(by assumption:Sep _ _ w _))))|((with_reducible apply zoN);(exact hS);(exact rfl);(exact inferInstance);(exact rfl);(intro c;exact ctS c hS);(intro v T w im h;(repeat(first|(obtain⟨rfl,h⟩:=h)|(obtain⟨_,h⟩:=h)));(have hS:=(by assumption:Sep _ _ w _))))|((with_reducible apply zoE);(exact hS);(assumption);(exact rfl);(exact inferInstance);(exact rfl);(intro c;exact ctS c hS);(intro v T w im h;(repeat(first|(obtain⟨rfl,h⟩:=h)|(obtain⟨_,h⟩:=h)));(have hS:=(by assumption:Sep _ _ w _))))|((with_reducible apply zoK);(exact hS);(exact rfl);(exact inferInstance);(exact rfl);(intro c;exact ctS c hS);(exact rfl);(intro v T w im h;(repeat(first|(obtain⟨rfl,h⟩:=h)|(obtain⟨_,h⟩:=h)));(have hS:=(by assumption:Sep _ _ w _))))|((with_reducible apply zoKN);(exact hS);(exact rfl);(exact inferInstance);(exact rfl);(intro c;exact ctS c hS);(exact rfl);(intro v T w im h;(repeat(first|(obtain⟨rfl,h⟩:=h)|(obtain⟨_,h⟩:=h)));(have hS:=(by assumption:Sep _ _ w _))))|((with_reducible apply zost);(exact hS);(exact rfl);(exact atS);(exact tyS);(exact rfl);(exact lsS);(exact rfl);(exact rfl);(exact rfl);(intro w im hS))|((with_reducible apply zosb);(exact hS);(exact rfl);(exact lnS);(exact atS);(exact tyS);(exact rfl);(exact lsS);(exact rfl);(exact rfl);(exact rfl);(intro w im hS))|((with_reducible apply zoal);(exact hS);(exact tyZ);(exact lsS);(intro w b im hS))|((with_reducible apply zobx);(exact hS);(exact rfl);(exact lsS);(intro w b im hS))|((with_reducible apply(zobs 1));(exact hS);(assumption);(first|exact⟨mkS,qZt⟩|exact⟨mkS,mkS,qZt⟩|exact⟨mkS,mkS,mkS,qZt⟩|exact⟨mkS,mkS,mkS,mkS,qZt⟩);(exact tyU);(exact tyS);(exact tyZ);(exact rfl);(exact rfl);(exact rfl);(exact rfl);(kernel_rfl);(exact rfl);(intro w a m c im hS))|((with_reducible apply(zobs 2));(exact hS);(assumption);(first|exact⟨mkS,qZt⟩|exact⟨mkS,mkS,qZt⟩|exact⟨mkS,mkS,mkS,qZt⟩|exact⟨mkS,mkS,mkS,mkS,qZt⟩);(exact tyU);(exact tyS);(exact tyZ);(exact rfl);(exact rfl);(exact rfl);(exact rfl);(kernel_rfl);(exact rfl);(intro w a m c im hS))|((with_reducible apply(zobs 3));(exact hS);(assumption);(first|exact⟨mkS,qZt⟩|exact⟨mkS,mkS,qZt⟩|exact⟨mkS,mkS,mkS,qZt⟩|exact⟨mkS,mkS,mkS,mkS,qZt⟩);(exact tyU);(exact tyS);(exact tyZ);(exact rfl);(exact rfl);(exact rfl);(exact rfl);(kernel_rfl);(exact rfl);(intro w a m c im hS))|((with_reducible apply(zobs 4));(exact hS);(assumption);(first|exact⟨mkS,qZt⟩|exact⟨mkS,mkS,qZt⟩|exact⟨mkS,mkS,mkS,qZt⟩|exact⟨mkS,mkS,mkS,mkS,qZt⟩);(exact tyU);(exact tyS);(exact tyZ);(exact rfl);(exact rfl);(exact rfl);(exact rfl);(kernel_rfl);(exact rfl);(intro w a m c im hS))|(rcases bc hm with⟨hb,hm⟩|⟨hb,hm⟩))):A:=h hm hS
theorem zk{A:Prop}(h:A:=by
 intro y v T w im h hm
 (repeat(first|(obtain⟨rfl,h⟩:=h)|(obtain⟨_,h⟩:=h)))
 (have hS:=(by assumption:Sep _ _ w _))
 exact zr hm hS):A:=h
theorem zo{A H:Prop}(hm:H)(h:H->A:=by
 intro hm v T w im h
 (repeat(first|(obtain⟨rfl,h⟩:=h)|(obtain⟨_,h⟩:=h)))
 (have hS:=(by assumption:Sep _ _ w _))
 exact zr hm hS):A:=h hm
variable{b1 b2 Y5 Q1c Z6c Z6b Z6x c1 c2 c3 c4 c5 c6 c7 c8 c9 c10 c11 c12 c13 n1 n2 n3 n4 n5 n6 n7 Y4 Q1b Z5m Z5l Z6p oo1 oo2:Nat}{H1 H2 Z7 R6 Z3o Z3n Z6f:List Value->X4}{a1 a2 a3 a4 a5 a6 a7 a8 a9 a10 a11 a12 a13:OA}{r1 r2:Option Nat}{pv1:Value}
section
variable(a91 a92 a93 a94 a95 a96 a97 a98 a99 a910 a911 a912 a913:OA)(n91 n92 n93 n94 n95 n96 n97 n98 n99 n910 n911 n912 n913 n914 n915 n916 n917 n918 n919 n920 n921 n922 n923 n924 n925 n926 n927 n928 n929:Nat)(H91 H92:List Value->X4)(T91:TP)(w91 w92 w93:World)(pv91:Value)(r91 r92 r93:Option Nat)(R91:List X4)
abbrev Q1(x92:Z0):=(H91 [sv a91 x92.l n91,iv x92.end_.Line,iv x92.end_.Col,iv x92.depth]:X4)
abbrev Q14(x91:Q0):=(Y2s U7 pv91 x91.fun_:X4)
abbrev Q2(x90:Q0):=(X7 x90 H91 H92 n91 n92 a91 n93 n94 a92 n95 n96 a93 n97 n98 a94 n99 n910 r91 r92 a95 n911 n912 a96 n913 n914 pv91++[Q14 pv91 x90]:List X4)
abbrev Q3(x90)(x91)(x95)(x96):=(fun T w v=>∃a3 c3,v= .iface 63 (.agg (M3 x90 x91).toArray)/\Sep w91 T w (R91++[Q1 a3 c3 H91 x95])/\SlR Q6c T w (sv a3 x96 c3) x96/\True:TP->World->Value->Prop)
abbrev Q4(x90)(x91)(x926):=(fun T w v=>∃a11 n9 c11,v= .iface 76 (.agg (M3 x90 x91).toArray)/\Sep w91 T w (R91++(Q2 a11 a91 a92 a93 a94 a95 n91 n92 n9 c11 n93 n94 n95 n96 n97 n98 n99 n910 n911 n912 H91 H92 pv91 r91 r92 x926))/\True:TP->World->Value->Prop)
abbrev Q5(x93:Z0):=(SlR Q6c T91 w91 (sv a91 x93.l n91) x93.l:Prop)
abbrev Q6(x90:Z8)(x925):=(fun T w v=>∃a27 c27 a28 n19 c28,v= .agg (Q0o x90 a27 c27).toArray/\Sep w91 T w (R91++(Q2 a28 a91 a92 a93 a94 a95 n91 n92 n19 c28 n93 n94 n95 n96 n97 n98 n99 n910 n911 n912 H91 H92 pv91 r91 r92 x925))/\SlR X9 T w (sv a27 x90.term.Kids c27) x90.term.Kids/\True:TP->World->Value->Prop)
abbrev Q7(x93:Z5):=(G6 P8 122 (.slice a91 n91 n92) x93.list:X4)
abbrev Q8(x93):=(SlR E2 T91 w91 (sv a91 x93 n91) x93:Prop)
abbrev Q9(x90:K2)(x925):=(fun T w v=>∃a17 c17 a18 c18 a19 c19 a20 c20 a21 c21 a22 n13 c22,v= .agg (Z8n x90 a17 c17 a18 c18 a19 c19 a20 c20 a21 c21).toArray/\Sep w91 T w (R91++(Q2 a22 a91 a92 a93 a94 a95 n91 n92 n13 c22 n93 n94 n95 n96 n97 n98 n99 n910 n911 n912 H91 H92 pv91 r91 r92 x925))/\SlR X9 T w (sv a17 x90.A c17) x90.A/\SlR X9 T w (sv a18 x90.Post c18) x90.Post/\SlR A8 T w (sv a19 x90.Body c19) x90.Body/\SlR A8 T w (sv a20 x90.Else c20) x90.Else/\SlR Q7c T w (sv a21 x90.Cases c21) x90.Cases/\True:TP->World->Value->Prop)
abbrev Q10(x93):=(SlR X9 T91 w91 (sv a91 x93 n91) x93:Prop)
abbrev Q11:=(Sep w91 T91 w92 (R91++[])/\True:Prop)
abbrev Q47(x93):=(G6 A8 102 (.slice a91 n91 n92) x93:X4)
abbrev Q12(x92:Q0)(x925):=(fun T w v=>∃a33 n19 c33 a34 n20 c34,v= .slice a33 n19 c33/\Sep w91 T w (R91++(X7 x92 H91 H92 n91 n92 a34 n20 c34 a91 n93 n94 a92 n95 n96 a93 n97 n98 r91 r92 a94 n99 n910 a95 n911 n912 pv91++[Q14 pv91 x92,Q47 a33 n19 c33 x925]))/\True:TP->World->Value->Prop)
abbrev Q13(x90)(x94)(x95):=(fun T w v=>∃a3 c3 a4 c4,v= .agg (D6 x90 a3 c3).toArray/\Sep w91 T w (R91++[Q1 a4 c4 H91 x94])/\Q8 a3 c3 T w x95/\Q5 a4 c4 T w x94/\True:TP->World->Value->Prop)
abbrev Q15(x94):=(Sep w91 T91 w92 (R91++X7 x94 H91 H92 n91 n92 a91 n93 n94 a92 n95 n96 a93 n97 n98 a94 n99 n910 r91 r92 a95 n911 n912 a96 n913 n914 pv91)/\True:Prop)
abbrev Q16(x90):=(.string ⟨x90⟩:Value)
abbrev Q17(x92):=J1 T91 w91 fun T w v=>v= .bool x92/\Q11 T w92 w R91
abbrev Q18(x90)(x91):=(.agg (M3 x90 x91).toArray:Value)
abbrev Q19(x94):=(Sep w91 T91 w92 ([X3 R91]++X7 x94 H91 H92 n91 n92 a91 n93 n94 a92 n95 n96 a93 n97 n98 a94 n99 n910 r91 r92 a95 n911 n912 a96 n913 n914 pv91):Prop)
abbrev Q20(x98):=(Sep w91 T91 w92 (R91++[H91 [.slice a91 n91 n92],Q7 a91 n91 n92 x98])/\True:Prop)
abbrev Q21(x91):=(K4 n91 (D6 x91 a91 n92):X4)
abbrev Q22(x929):=(Sep w91 T91 w92 ([X3 R91]++(Q2 a91 a92 a93 a94 a95 a96 n91 n92 n93 n94 n95 n96 n97 n98 n99 n910 n911 n912 n913 n914 H91 H92 pv91 r91 r92 x929)):Prop)
abbrev Q23(x93):=(SlR Q5c T91 w91 (sv a91 x93 n91) x93:Prop)
abbrev Q24(x98):=(Sep w91 T91 w92 [X3 R91,H91 [.slice a91 n91 n92],Q7 a91 n91 n92 x98]:Prop)
abbrev Q25(x92):=J1 T91 w91 fun T w v=>v=iv x92/\Q11 T w92 w R91
abbrev Q26(x97):=(Sep w91 T91 w92 [X3 R91,Q1 a91 n91 H91 x97]:Prop)
abbrev Q27(x93):=(SlR Q2c T91 w91 (sv a91 x93 n91) x93:Prop)
abbrev Q28(x92):=J1 T91 w91 fun T w v=>v= .int .u32 x92/\Q11 T w92 w R91
abbrev Q29(x90):=(.agg (D6 x90 a91 n91).toArray:Value)
abbrev Q30(x92:Q9x):=(K4 n91 [sv a91 x92.Globals n92,sv a92 x92.Data n93,sv a93 x92.Codes n94,iv x92.Main]:X4)
abbrev Q31(x93)(x94):=(fun T w v=>∃a10 n2 c10 a11 c11,v= .slice a10 n2 c10/\Sep w91 T w (R91++[Q1 a11 c11 H91 x93,G6 E2 136 (.slice a10 n2 c10) x94])/\Q5 a11 c11 T w x93/\True:TP->World->Value->Prop)
abbrev Q32(x91):=(K4 n91 (Q0o x91 a91 n92):X4)
abbrev Q33(x90:Pos):=(.agg #[iv x90.Line,iv x90.Col]:Value)
abbrev Q34(x90)(x91)(x926):=(fun T w v=>∃a9 n9 c9,v= .iface 76 (Q18 x90 x91)/\Q15 a9 a91 a92 a93 a94 a95 n91 n92 n9 c9 n93 n94 n95 n96 n97 n98 n99 n910 n911 n912 H91 H92 T w91 w pv91 r91 r92 R91 x926:TP->World->Value->Prop)
abbrev Q35(x94:K2):=(Q10 a91 n91 T91 w91 x94.Post/\SlR A8 T91 w91 (sv a92 x94.Body n92) x94.Body/\SlR A8 T91 w91 (sv a93 x94.Else n93) x94.Else/\SlR Q7c T91 w91 (sv a94 x94.Cases n94) x94.Cases:Prop)
abbrev Q36(x91:Y1):=(K4 n91 [iv x91.Kind,iv x91.Fn,.int .u32 x91.Num,iv x91.Var,.bool x91.Global,iv x91.Size,.bool x91.Post,.bool x91.Ptr,.slice a91 n92 n93]:X4)
abbrev Q37(x93:G9):=(SlR (N7 .u32) T91 w91 (sv a91 x93.Dims n91) x93.Dims:Prop)
abbrev Q38:=((qZs []):Value)
abbrev Q39(x92)(x912):=J1 T91 w91 fun T w v=>v= .bool x92/\Sep w92 T w (R91++[H91 [pt n91 n92],H92 [.slice a91 n93 n94],Q7 a91 n93 n94 x912])/\True
abbrev Q40(x97)(x99:E0):=(Sep w91 T91 w92 (R91++[Q1 a91 n91 H91 x97,H92 (Z1b x99 a92 n92 a93 n93 a94 n94 a95 n95 a96 n96 a97 n97 a98 n98)])/\Q5 a91 n91 T91 w92 x97/\Q8 a92 n92 T91 w92 x99.A/\Q8 a93 n93 T91 w92 x99.B/\Q8 a94 n94 T91 w92 x99.C/\Q27 a95 n95 T91 w92 x99.Var/\Q23 a96 n96 T91 w92 x99.Body/\Q23 a97 n97 T91 w92 x99.Else/\SlR Q7m T91 w92 (sv a98 x99.Cases n98) x99.Cases/\True:Prop)
abbrev Q41(x98):=([X3 R91,H91 [pt n91 n92],H92 [.slice a91 n93 n94],Q7 a91 n93 n94 x98]:List X4)
abbrev Q42(x90)(x91)(x929):=(fun T w v=>v= .iface 76 (Q18 x90 x91)/\Q15 a91 a92 a93 a94 a95 a96 n91 n92 n93 n94 n95 n96 n97 n98 n99 n910 n911 n912 n913 n914 H91 H92 T w91 w pv91 r91 r92 R91 x929:TP->World->Value->Prop)
abbrev Q43(x93):=(SlR Q2d T91 w91 (sv a91 x93 n91) x93:Prop)
abbrev Q65(x93):=(G6 X9 145 (.slice a91 n91 n92) x93:X4)
abbrev Q44(x91)(x97:K2)(x99)(x922:Q0)(x923):=([K4 n91 (Y7u x91 a91 n92),G6 Q7c 106 (.slice a92 n93 n94) x97.Cases,Z9y (Value.int .u32) Value.bool (.map r91) x99,K4 n95 [iv x97.Kind,.slice a93 n96 n97,sv a94 x97.Post n98,.bool x97.First,sv a95 x97.Body n99,sv a96 x97.Else n910,.slice a92 n93 n94,iv x97.Var],Q65 a93 n96 n97 x97.A,K4 n911 zv4,X3 R91]++(X7 ({x922 with t:=x923}) H91 H92 n912 n913 a97 n914 n915 a98 n916 n917 a99 n918 n919 a910 n920 n921 r92 r93 a911 n922 n923 a912 n924 n925 (pt n926 0)++[Y2s U7 (pt n926 0) x922.fun_]):List X4)
abbrev Q45(x92)(x93)(x97):=J1 T91 w91 fun T w v=>∃a5 n4 c5,v= .tuple #[iv x92,iv x93]/\Q20 a5 n4 c5 H91 T w92 w R91 x97
abbrev Q46(x90:G9)(x94):=(fun T w v=>∃a32 c32 a33 c33 a34 c34,v= .agg (Z8m x90 a32 c32 a33 c33).toArray/\Sep w91 T w (R91++[Q1 a34 c34 H91 x94])/\Q37 a32 c32 T w x90/\Q8 a33 c33 T w x90.Init/\Q5 a34 c34 T w x94/\True:TP->World->Value->Prop)
abbrev Q48(x91:K1):=(.agg #[sv a91 x91.Structs n91,sv a92 x91.Globals n92,sv a93 x91.Funcs n93]:Value)
abbrev Q49(x93):=(SlR Q2d T91 w91 (sv a91 x93 n91) x93:Prop)
abbrev Q50(x92)(x93):=J1 T91 w91 fun T w v=>v= .tuple #[.int .u32 x92,iv x93]/\Q11 T w92 w R91
abbrev Q51(x90)(x93)(x929):=(fun T w v=>∃a10 c10,v= .agg (U4 x90 a10 c10).toArray/\Sep w91 T w (R91++X7 x93 H91 H92 n91 n92 a91 n93 n94 a92 n95 n96 a93 n97 n98 a94 n99 n910 r91 r92 a95 n911 n912 a96 n913 n914 pv91)/\Q10 a10 c10 T w x929/\True:TP->World->Value->Prop)
abbrev Q52(x97):=(Sep w91 T91 w92 (R91++[Q1 a91 n91 H91 x97])/\Q5 a91 n91 T91 w92 x97/\True:Prop)
abbrev Q53(x93)(x94):=(fun T w v=>∃a22 n5 c22 a23 c23,v= .slice a22 n5 c22/\Sep w91 T w (R91++[Q1 a23 c23 H91 x93,G6 Q2c 86 (.slice a22 n5 c22) x94])/\Q5 a23 c23 T w x93/\True:TP->World->Value->Prop)
abbrev Q54(x94:Z8):=(Q10 a91 n91 T91 w91 x94.term.Kids:Prop)
abbrev Q55(x91:G9):=(K4 n91 [iv x91.Pos.Line,iv x91.Pos.Col,Q16 x91.Type_.Word.toArray,Q16 x91.Type_.Name.toArray,iv x91.Type_.Stars,Q16 x91.Name.toArray,.slice a91 n92 n93,.slice a92 n94 n95,.bool x91.Brace]:X4)
abbrev Q56(x91:Q9x):=(.agg #[sv a91 x91.Globals n91,sv a92 x91.Data n92,sv a93 x91.Codes n93,iv x91.Main]:Value)
abbrev Q57(x91)(x92)(x93)(x94)(x96)(x98):=([(2,pt n91 0),(4,.string ⟨x91⟩),(6,.int .u64 x92),(7,.int .u64 x93),(8,.bool x94),(28,.slice a91 (qQ (I6 x96)) n92),(29,iv (qQ (I6 x96):Int)),(30,iv x98)]:List (Nat×Value))
abbrev Q58(x90:Q0)(x91):=(X7 ({x90 with t:=x91}) H91 H92 n91 n92 a91 n93 n94 a92 n95 n96 a93 n97 n98 a94 n99 n910 r91 r92 a95 n911 n912 a96 n913 n914 pv91++[Q14 pv91 x90]:List X4)
abbrev Q59(x95:Q9x):=(Sep w91 T91 w92 (R91++[])/\SlR Q1e T91 w92 (sv a91 x95.Globals n91) x95.Globals/\SlR (rSl (N7 .u8)) T91 w92 (sv a92 x95.Data n92) x95.Data/\SlR Q6d T91 w92 (sv a93 x95.Codes n93) x95.Codes/\True:Prop)
abbrev Q60:=([(0,pt n91 n92),(3,pt n93 0),(4,pt n94 0),(5,pt n95 0),(6,pt n96 0)]:List (Nat×Value))
abbrev Q61(x93:K1):=(SlR Q6q T91 w91 (sv a91 x93.Structs n91) x93.Structs:Prop)
abbrev Q62(x90):=(.agg (U4 x90 a91 n91).toArray:Value)
abbrev Q63(x92)(x93):=J1 T91 w91 fun T w v=>v= .tuple #[.agg (Y7t x92).toArray,iv x93]/\Q11 T w92 w R91
abbrev Q64(x93):=(SlR A8 T91 w91 (sv a91 x93 n91) x93:Prop)
abbrev Q66(x93):=(SlR Q7m T91 w91 (sv a91 x93 n91) x93:Prop)
abbrev Q67(x90):=(.agg (Q0o x90 a91 n91).toArray:Value)
abbrev Q68(x91):=(K4 n91 (U4 x91 a91 n92):X4)
abbrev Q69(x93:K1):=(SlR Z0g T91 w91 (sv a91 x93.Funcs n91) x93.Funcs:Prop)
abbrev Q70(x97):=(Sep w91 T91 w92 (R91++[Q1 a91 n91 H91 x97])/\True:Prop)
abbrev Q71(x91):=(K4 n91 [iv 2,iv 0,.int .u32 0,iv x91,.bool false,iv 0,.bool false,.bool true,.slice none 0 0]:X4)
abbrev Q72(x94):=([K4 n91 zv1,Q21 a91 n92 n93 x94,X3 R91]:List X4)
abbrev Q73(x90)(x925):=(fun T w v=>∃a9 n9 c9,v=iv x90/\Q15 a9 a91 a92 a93 a94 a95 n91 n92 n9 c9 n93 n94 n95 n96 n97 n98 n99 n910 n911 n912 H91 H92 T w91 w pv91 r91 r92 R91 x925:TP->World->Value->Prop)
abbrev Q74(x92)(x94)(x96):=([(0,pt n91 n92),(1,iv x92),(12,.slice a91 (qQ (I6 x94)) n93),(13,iv (qQ (I6 x94):Int)),(14,iv x96)]:List (Nat×Value))
abbrev Q75(x91):=(Z9y Z8k (Value.int .i64) (.map r91) x91:X4)
abbrev Q76(x90):=(.agg (Q9e x90).toArray:Value)
abbrev Q77(x90):=(.agg (Z8m x90 a91 n91 a92 n92).toArray:Value)
abbrev Q78(x92)(x99):=J1 T91 w91 fun T w v=>v=iv x92/\Q20 a91 n91 n92 H91 T w92 w R91 x99
end
theorem kA{A B:Prop}(k:B)(h:Kp B->A:=by
 intro k
 refine pn ?_
 refine sq2 (pu ?_)
 exact k.out):A:=h ⟨k⟩
theorem kB{A B:Prop}(k:B)(h:Kp B->A:=by
 intro k
 refine pn ?_
 refine sq2 (sq2 (pu ?_))
 exact k.out):A:=h ⟨k⟩
theorem kC{A B:Prop}(k:B)(h:Kp B->A:=by
 intro k
 refine pn ?_
 refine sq2 (sq2 (pn ?_))
 exact k.out):A:=h ⟨k⟩
theorem kD{A B:Prop}(k:B)(h:Kp B->A:=by
 intro k
 refine pn ?_
 refine sq2 (pn ?_)
 exact k.out):A:=h ⟨k⟩
theorem kE{A B:Prop}(k:B)(h:Kp B->A:=by
 intro k
 refine pn ?_
 refine sq2 ?_
 exact k.out):A:=h ⟨k⟩
theorem qU{A B:Prop}(k:B)(h:Kp B->A:=by
 intro k
 refine sq2 (pu ?_)
 exact k.out):A:=h ⟨k⟩
theorem qN{A B:Prop}(k:B)(h:Kp B->A:=by
 intro k
 refine sq2 (pn ?_)
 exact k.out):A:=h ⟨k⟩
theorem Q8m{p0:List UInt8}{p1:List UInt8}(hS:Sep g T0 w0 [X3 R]):∀r,Q3q p0 p1=some r->
 Cl 82 #[Q16 p0.toArray,Q16 p1.toArray] w0 (Q17 T0 w0 g R r):=by
 intro r hm;refine eN Tryz.func82 Tryz.ntmps82 fun J=>?_;unfold Q3q at hm;exact zr hm hS

instance:Ct 82 @Q8m:=⟨@Q8m,cf82⟩
theorem Q1h{p0:List UInt8}{p1:List UInt8}(hS:Sep g T0 w0 [X3 R]):∀r,C5 p0 p1=some r->
 Cl 46 #[Q16 p0.toArray,Q16 p1.toArray] w0 (Q17 T0 w0 g R r):=by
 intro r hm;refine eN Tryz.func46 Tryz.ntmps46 fun J=>?_;unfold C5 at hm;exact zr hm hS

instance:Ct 46 @Q1h:=⟨@Q1h,cf46⟩
theorem Z6j{p0}(hS:Sep g T0 w0 [X3 R]):∀r,Z1w p0=some r->
 Cl 49 #[.int .u8 p0] w0 (Q17 T0 w0 g R r):=by
 intro r hm;refine eN Tryz.func49 Tryz.ntmps49 fun J=>?_;unfold Z1w at hm;exact zr hm hS

instance:Ct 49 @Z6j:=⟨@Z6j,cf49⟩
theorem Z5o{p0:List UInt8}(hS:Sep g T0 w0 [X3 R]):∀r,Z7z p0=some r->
 Cl 48 #[Q16 p0.toArray,.func (.func 49) #[] #[]] w0 (Q25 T0 w0 g R r):=by
 intro r hm;refine eN Tryz.func48 Tryz.ntmps48 fun J=>?_;unfold Z7z at hm;refine qN ?_;refine qN ?_;refine sq2 (lpJ hm (fun E I m a K=>∃O D,JR (nf 20) g T0 w0 a K O (X8 E m D=some I) [(0,(qZs p0)),(1,.func (.func 49) #[] #[]),(5,iv D)] [X3 R]) (fun _ _ h=>je h (hS.sE [0])) ?_);rintro E U I _ _ _ K ⟨O,D,J,V,rfl,W,_⟩;obtain⟨m1,_,rfl,hm,_⟩:=lrE V U;exact zr hm W

instance:Ct 48 @Z5o:=⟨@Z5o,cf48⟩
theorem Z4d{p0:List UInt8}(hS:Sep g T0 w0 [X3 R])(hG0:Gi T0 w0 0):∀r,Z2z p0=some r->
 Cl 26 #[Q16 p0.toArray] w0 (Q25 T0 w0 g R r):=by
 intro r hm;refine eN Tryz.func26 Tryz.ntmps26 fun J=>?_;unfold Z2z at hm;refine qN ?_;refine sq2 (qU ?_);refine cB cf46 hm (Q1h (hS.bE [0] [])) ?_;rintro _ _ _ _ O ⟨rfl,I,_⟩ hm;refine cd hm ?_ ?_<;>intro ab hm
 . refine sq2 (sq2 ?_);obtain⟨_,U,hm⟩:=Z9 hm;refine cS cf47 (Z3s (I.bE [0] []) (hG0.mono O) U) ?_;rintro _ _ _ _ ⟨rfl,D,_⟩;have D:=D.unb;refine pn ?_;refine sq2 (cd hm ?_ ?_)<;>intro ac hm
   . exact sq2 (re hm (D.sE [0]))
   refine pn ?_;exact sq2 (re hm (D.sE [0]))
 refine kB ?_;refine cB cf46 hm (Q1h (I.bE [0] [])) ?_;rintro _ _ _ _ _ ⟨rfl,K,_⟩ hm;refine cd hm ?_ ?_<;>intro ad hm
 . refine sq2 ?_;obtain⟨u1,V,hm⟩:=Z9 hm;obtain⟨_,W,hm⟩:=Z9 hm;refine pu ?_;refine pv (r_ss rfl ⟨_,rfl⟩ rfl V underlying9) (cS cf47 (Z3s (K.bE [0] []) (hG0.mono ch) W) ?_);rintro _ _ _ _ ⟨rfl,E,_⟩;have E:=E.unb;refine pn ?_;refine sq2 (sq2 (cd hm ?_ ?_))<;>intro ae hm
   . exact sq2 (re hm (E.sE [0]))
   refine pn ?_;exact sq2 (re hm (E.sE [0]))
 refine kA ?_;refine cB cf48 hm (Z5o (K.bE [0] [])) ?_;rintro _ _ _ _ _ ⟨rfl,aa,_⟩ hm;exact re hm (aa.sE [0])

instance:Ct 26 @Z4d:=⟨@Z4d,cf26⟩
theorem Q7o{p0:N4}{p1}(hS:Sep g T0 w0 [X3 R,Z7 (Z2f p0)])(Z2:Ln Y5 Y4 Z7):∀r,Q0n p0 p1=some r->
 Cl 27 #[pt Y5 Y4,iv p1] w0 (J1 T0 w0 fun T w v=>v= .tuple #[]/\Sep g T w (R++[Z7 (Z2f r)])/\True):=by
 intro r hm;refine eN Tryz.func27 Tryz.ntmps27 fun J=>?_;unfold Q0n at hm;refine sq2 (sq2 ?_);obtain⟨u1,ad,hm⟩:=Z9 hm;obtain⟨_,ae,hm⟩:=Z9 hm;refine pu ?_;refine pv (r_ss rfl rfl ⟨_,rfl⟩ ad underlying9) (wl rfl (cvB hS rfl underlying9 underlying51 underlying5 (K9 ae) fun T1 w1 a1 c1 ao ah h1=>pn ?_));refine lpJ hm (fun U V m a E=>∃I K D,JR (nf 49) g T1 w1 a E I (X8 U m (D,K)=some V) (Q74 a1 Y5 Y4 c1 p1 u1 D) [X3 R,Z7 (Z2f K)]) (fun _ _ h=>je h (ah.sE [0,1])) ?_;rintro U ai V _ _ _ E ⟨I,K,D,J,aj,rfl,W,_⟩;obtain⟨m1,z1,rfl,hm,am⟩:=lrE aj ai;refine qN ?_;refine sq2 (cd hm ?_ ?_)<;>intro ap hm
 . refine pn ?_;refine S9 hm (fun aa a w3=>∃T3 O,JR (nf 49) g I E a w3 T3 (aa O=some z1) (Q74 a1 Y5 Y4 c1 p1 u1 D) [X3 R,Z7 (Z2f O)]) (fun aa hm=>?_) ?_
   . exact zr hm W
   rintro _ w3 ⟨T3,O,J,hm,rfl,an,_⟩;exact lg hm am (an.sE [0,1])
 exact zr hm W

instance:Ct 27 @Q7o:=⟨@Q7o,cf27⟩
theorem Z3g{p0}(hS:Sep g T0 w0 [X3 R]):∀r,Z1i p0=some r->
 Cl 50 #[.int .u8 p0] w0 (Q17 T0 w0 g R r):=by
 intro r hm;refine eN Tryz.func50 Tryz.ntmps50 fun J=>?_;unfold Z1i at hm;exact zr hm hS

instance:Ct 50 @Z3g:=⟨@Z3g,cf50⟩
theorem Z9n{p0}(hS:Sep g T0 w0 [X3 R]):∀r,Z1j p0=some r->
 Cl 53 #[.int .u8 p0] w0 (Q17 T0 w0 g R r):=by
 intro r hm;refine eN Tryz.func53 Tryz.ntmps53 fun J=>?_;unfold Z1j at hm;exact zr hm hS

instance:Ct 53 @Z9n:=⟨@Z9n,cf53⟩
theorem Y0x{p0}(hS:Sep g T0 w0 [X3 R]):∀r,Z8b p0=some r->
 Cl 51 #[.int .u8 p0] w0 (Q17 T0 w0 g R r):=by
 intro r hm;refine eN Tryz.func51 Tryz.ntmps51 fun J=>?_;unfold Z8b at hm;exact zr hm hS

instance:Ct 51 @Y0x:=⟨@Y0x,cf51⟩
theorem Z0j{p0:List UInt8}(hS:Sep g T0 w0 [X3 R]):∀r,Q7n p0=some r->
 Cl 48 #[Q16 p0.toArray,.func (.func 51) #[] #[]] w0 (Q25 T0 w0 g R r):=by
 intro r hm;refine eN Tryz.func48 Tryz.ntmps48 fun J=>?_;unfold Q7n at hm;refine qN ?_;refine qN ?_;refine sq2 (lpJ hm (fun E I m a K=>∃O D,JR (nf 20) g T0 w0 a K O (X8 E m D=some I) [(0,(qZs p0)),(1,.func (.func 51) #[] #[]),(5,iv D)] [X3 R]) (fun _ _ h=>je h (hS.sE [0])) ?_);rintro E U I _ _ _ K ⟨O,D,J,V,rfl,W,_⟩;obtain⟨m1,_,rfl,hm,_⟩:=lrE V U;exact zr hm W

instance:Ct 48 @Z0j:=⟨@Z0j,cf48⟩
theorem Y1a{p0:List UInt8}(hS:Sep g T0 w0 [X3 R]):∀r,Z1x p0=some r->
 Cl 52 #[Q16 p0.toArray] w0 (Q17 T0 w0 g R r):=by
 intro r hm;refine eN Tryz.func52 Tryz.ntmps52 fun J=>?_;unfold Z1x at hm;refine qN ?_;refine sq2 (qN ?_);refine blk (S9 hm (fun E a I=>∃K D,JR (nf 23) g T0 w0 a I K (E D=some r) [(4,.bool D)] [X3 R]) (fun E hm=>?_) ?_)
 . exact zr hm hS
 rintro _ I ⟨K,D,J,hm,rfl,O,_⟩;exact zr hm O

instance:Ct 52 @Y1a:=⟨@Y1a,cf52⟩
theorem Z9m{p0}(hS:Sep g T0 w0 [X3 R]):∀r,Q6u p0=some r->
 Cl 84 #[.int .u8 p0] w0 (J1 T0 w0 fun T w v=>v= .int .u64 r/\Q11 T g w R):=by
 intro r hm;refine eN Tryz.func84 Tryz.ntmps84 fun J=>?_;unfold Q6u at hm;exact zr hm hS

instance:Ct 84 @Z9m:=⟨@Z9m,cf84⟩
theorem Z8a{p0:List UInt8}(hS:Sep g T0 w0 [X3 R]):∀r,Q9j p0=some r->
 Cl 54 #[Q16 p0.toArray] w0 (Q63 T0 w0 g R r.1 r.2):=by
 intro r hm;refine eN Tryz.func54 Tryz.ntmps54 fun J=>?_;unfold Q9j at hm;refine sq2 (aL zv8 hS ?_);intro _ D _ an;refine kA ?_;refine cB cf48 hm (Z0j (an.bE [0,1] [])) ?_;rintro _ _ T1 w2 _ ⟨rfl,aq,_⟩ hm;obtain⟨u1,ar,hm⟩:=Z9 hm;refine pv (r_ss rfl rfl ⟨_,rfl⟩ ar underlying9) (pn ?_);refine qN ?_;refine S9 hm (fun ac a w3=>∃T2 E I,JR (nf 54) g T1 w2 a w3 T2 (ac E I=some r) [(2,pt D 0),(4,(qZs u1)),(5,(qZs E)),(6,.int .u64 I)] [K4 D zv8,X3 R]) (fun ac hm=>?_) ?_
 . exact zr hm aq
 rintro _ w3 ⟨T2,E,I,J,hm,rfl,af,_⟩;refine sq2 (sq2 (cd hm ?_ ?_))<;>intro aD hm
 . exact zr hm af
 refine kD ?_;refine qN ?_;refine sq2 (sq2 ?_);obtain⟨_,au,hm⟩:=Z9 hm;refine pu ?_;refine wl rfl (cvB af rfl underlying9 underlying51 underlying5 (K9 au) fun T5 w7 a1 c1 aE ax h1=>pn ?_);refine lpJ hm (fun ag o1 m a O=>∃U V W K,JR (nf 54) g T5 w7 a O U (X8 ag m (V,W,K)=some o1) (Q57 a1 D c1 u1.toArray I V W E K) [K4 D zv8,X3 R]) (fun _ _ h=>je h (ax.sE [0,1])) ?_;rintro ag ay o1 _ _ _ O ⟨U,V,W,K,J,az,rfl,ai,_⟩;obtain⟨m1,z1,rfl,hm,aB⟩:=lrE az ay;refine qN ?_;refine sq2 (cd hm ?_ ?_)<;>intro aF hm
 . refine pn ?_;refine S9 hm (fun aj a w9=>∃T7 x6 x7,JR (nf 54) g U O a w9 T7 (aj x6 x7=some z1) (Q57 a1 D c1 u1.toArray I x6 x7 E K) [K4 D zv8,X3 R]) (fun aj hm=>?_) ?_
   . exact zr hm ai
   rintro _ w9 ⟨T7,x6,x7,J,hm,rfl,aC,_⟩;exact lg hm aB (aC.sE [0,1])
 exact zr hm ai

instance:Ct 54 @Z8a:=⟨@Z8a,cf54⟩
theorem Z8c{p0}(hS:Sep g T0 w0 [X3 R]):∀r,Q9k p0=some r->
 Cl 85 #[.int .u8 p0] w0 (J1 T0 w0 fun T w v=>v= .tuple #[.int .u8 r.1,.bool r.2]/\Q11 T g w R):=by
 intro r hm;refine eN Tryz.func85 Tryz.ntmps85 fun J=>?_;unfold Q9k at hm;refine qN ?_;refine sq2 (qN ?_);refine blk (sq2 (cd hm ?_ ?_))<;>intro U hm
 . exact sq2 (re hm (hS.sE [0]))
 refine sq2 (cd hm ?_ ?_)<;>intro V hm
 . exact sq2 (re hm (hS.sE [0]))
 refine sq2 (cd hm ?_ ?_)<;>intro W hm
 . exact sq2 (re hm (hS.sE [0]))
 refine sq2 (cd hm ?_ ?_)<;>intro aa hm
 . exact sq2 (re hm (hS.sE [0]))
 refine S9 hm (fun E a I=>∃K D,JR (nf 17) g T0 w0 a I K (E D=some r) [(0,.int .u8 p0),(13,.bool D)] [X3 R]) (fun E hm=>?_) ?_
 . exact zr hm hS
 rintro _ I ⟨K,D,J,hm,rfl,O,_⟩;exact zr hm O

instance:Ct 85 @Z8c:=⟨@Z8c,cf85⟩
theorem Y0z{p0:List UInt8}(hS:Sep g T0 w0 [X3 R]):∀r,Q2q p0=some r->
 Cl 55 #[Q16 p0.toArray] w0 (Q63 T0 w0 g R r.1 r.2):=by
 intro r hm;refine eN Tryz.func55 Tryz.ntmps55 fun J=>?_;unfold Q2q at hm;refine sq2 (aL zv8 hS ?_);intro _ I _ D;refine kB ?_
 rcases bc hm with⟨aj,hm⟩|⟨aj,hm⟩
 . obtain⟨u1,K,hm⟩:=Z9 hm;refine pu ?_;refine pv (Z5f rfl rfl K underlying9) (pu ?_)
   rcases bc hm with⟨ak,hm⟩|⟨ak,hm⟩
   . obtain⟨_,am,hm⟩:=Z9 hm;refine pu ?_;refine pv (Z5f rfl rfl am underlying9) (cd hm ?_ ?_)<;>intro aY hm
     . exact zr hm D
     refine kB ?_
     rcases bc hm with⟨an,hm⟩|⟨an,hm⟩
     . obtain⟨_,ao,hm⟩:=Z9 hm;refine pu ?_;refine pv (Z5f rfl rfl ao underlying9) (pu ?_)
       rcases bc hm with⟨ap,hm⟩|⟨ap,hm⟩
       . obtain⟨u6,O,hm⟩:=Z9 hm;obtain rfl:u1=u6:=oI (K.symm.trans O);refine pu ?_;refine pv (Z5f rfl rfl O underlying9) (pu ?_)
         rcases bc hm with⟨ar,hm⟩|⟨ar,hm⟩
         . obtain⟨u7,U,hm⟩:=Z9 hm;obtain rfl:u1=u7:=oI (O.symm.trans U);refine pu ?_;refine pv (Z5f rfl rfl U underlying9) (pu ?_)
           rcases bc hm with⟨av,hm⟩|⟨av,hm⟩
           . obtain⟨u8,V,hm⟩:=Z9 hm;obtain rfl:u1=u8:=oI (U.symm.trans V);refine pu ?_;refine pv (Z5f rfl rfl V underlying9) (pu ?_)
             rcases bc hm with⟨ax,hm⟩|⟨ax,hm⟩
             . obtain⟨u9,ae,hm⟩:=Z9 hm;obtain rfl:u1=u9:=oI (V.symm.trans ae);refine pu ?_;refine pv (Z5f rfl rfl ae underlying9) (pu ?_);refine nil (E9 [(0,(qZs p0)),(2,pt I 0),(59,.bool ((UInt8.toNat u1:Int)!=92))] ⟨rfl,rfl,rfl,qZt⟩ fun J=>?_);refine cd hm ?_ ?_<;>intro aZ hm
               . refine sq2 (rsS [0,0,0,0,0,0,2,0] [0,1,2,3,4,5,6,7] D fun w5 a3 az=>?_);have dd:KD [(6,[])]:=⟨qZt⟩;exact zr hm az
               exact zr hm D
             exact zr hm D
           exact zr hm D
         exact zr hm D
       exact zr hm D
     exact zr hm D
   refine pn ?_;refine cnd (b:=false) rfl (fun h=>nomatch h) (fun _=>pn ?_);refine sq2 (qU ?_)
   rcases bc hm with⟨aA,hm⟩|⟨aA,hm⟩
   . obtain⟨_,aB,hm⟩:=Z9 hm;refine pu ?_;refine pv (Z5f rfl rfl aB underlying9) (pu ?_)
     rcases bc hm with⟨aC,hm⟩|⟨aC,hm⟩
     . obtain⟨aD,W,hm⟩:=Z9 hm;obtain rfl:u1=aD:=oI (K.symm.trans W);refine pu ?_;refine pv (Z5f rfl rfl W underlying9) (pu ?_)
       rcases bc hm with⟨aE,hm⟩|⟨aE,hm⟩
       . obtain⟨aF,aa,hm⟩:=Z9 hm;obtain rfl:u1=aF:=oI (W.symm.trans aa);refine pu ?_;refine pv (Z5f rfl rfl aa underlying9) (pu ?_)
         rcases bc hm with⟨aG,hm⟩|⟨aG,hm⟩
         . obtain⟨aI,ab,hm⟩:=Z9 hm;obtain rfl:u1=aI:=oI (aa.symm.trans ab);refine pu ?_;refine pv (Z5f rfl rfl ab underlying9) (pu ?_)
           rcases bc hm with⟨aJ,hm⟩|⟨aJ,hm⟩
           . obtain⟨aK,ag,hm⟩:=Z9 hm;obtain rfl:u1=aK:=oI (ab.symm.trans ag);refine pu ?_;refine pv (Z5f rfl rfl ag underlying9) (pu ?_);refine nil (E9 [(0,(qZs p0)),(2,pt I 0),(59,.bool ((UInt8.toNat u1:Int)!=92))] ⟨rfl,rfl,rfl,qZt⟩ fun J=>?_);refine cd hm ?_ ?_<;>intro a4 hm
             . refine sq2 (rsS [0,0,0,0,0,0,2,0] [0,1,2,3,4,5,6,7] D fun a5 a6 aM=>?_);have dd:KD [(6,[])]:=⟨qZt⟩;exact zr hm aM
             exact zr hm D
           exact zr hm D
         exact zr hm D
       exact zr hm D
     exact zr hm D
   exact zr hm D
 refine pn ?_;refine cnd (b:=false) rfl (fun h=>nomatch h) (fun _=>pn ?_);refine sq2 (qU ?_)
 rcases bc hm with⟨aN,hm⟩|⟨aN,hm⟩
 . obtain⟨_,aP,hm⟩:=Z9 hm;refine pu ?_;refine pv (Z5f rfl rfl aP underlying9) (pu ?_)
   rcases bc hm with⟨aQ,hm⟩|⟨aQ,hm⟩
   . obtain⟨E,ah,hm⟩:=Z9 hm;refine pu ?_;refine pv (Z5f rfl rfl ah underlying9) (pu ?_)
     rcases bc hm with⟨aR,hm⟩|⟨aR,hm⟩
     . obtain⟨aS,ac,hm⟩:=Z9 hm;obtain rfl:E=aS:=oI (ah.symm.trans ac);refine pu ?_;refine pv (Z5f rfl rfl ac underlying9) (pu ?_)
       rcases bc hm with⟨aT,hm⟩|⟨aT,hm⟩
       . obtain⟨aU,ad,hm⟩:=Z9 hm;obtain rfl:E=aU:=oI (ac.symm.trans ad);refine pu ?_;refine pv (Z5f rfl rfl ad underlying9) (pu ?_)
         rcases bc hm with⟨aV,hm⟩|⟨aV,hm⟩
         . obtain⟨aW,ai,hm⟩:=Z9 hm;obtain rfl:E=aW:=oI (ad.symm.trans ai);refine pu ?_;refine pv (Z5f rfl rfl ai underlying9) (pu ?_);refine nil (E9 [(0,(qZs p0)),(2,pt I 0),(59,.bool ((UInt8.toNat E:Int)!=92))] ⟨rfl,rfl,rfl,qZt⟩ fun J=>?_);refine cd hm ?_ ?_<;>intro a7 hm
           . refine sq2 (rsS [0,0,0,0,0,0,2,0] [0,1,2,3,4,5,6,7] D fun a8 a9 aX=>?_);have dd:KD [(6,[])]:=⟨qZt⟩;exact zr hm aX
           exact zr hm D
         exact zr hm D
       exact zr hm D
     exact zr hm D
   exact zr hm D
 exact zr hm D

instance:Ct 55 @Y0z:=⟨@Y0z,cf55⟩
theorem Y0y{p0:List UInt8}(hS:Sep g T0 w0 [X3 R]):∀r,Z3f p0=some r->
 Cl 56 #[Q16 p0.toArray] w0 (J1 T0 w0 fun T w v=>v=(qZs r)/\Q11 T g w R):=by
 intro r hm;refine eN Tryz.func56 Tryz.ntmps56 fun J=>?_;unfold Z3f at hm;refine qN ?_;refine qU ?_;refine pv (P3 (by kernel_rfl) rfl (u:= .agg #[qZs [60,60,61],qZs [62,62,61],qZs [45,62],qZs [43,43],qZs [45,45],qZs [60,60],qZs [62,62],qZs [60,61],qZs [62,61],qZs [61,61],qZs [33,61],qZs [38,38],qZs [124,124],qZs [43,61],qZs [45,61],qZs [42,61],qZs [47,61],qZs [37,61],qZs [38,61],qZs [124,61],qZs [94,61],qZs [43],qZs [45],qZs [42],qZs [47],qZs [37],qZs [38],qZs [124],qZs [94],qZs [126],qZs [33],qZs [60],qZs [62],qZs [61],qZs [63],qZs [58],qZs [59],qZs [44],qZs [46],qZs [40],qZs [41],qZs [91],qZs [93],qZs [123],qZs [125]])) (aL [qZs [],qZs [],qZs [],qZs [],qZs [],qZs [],qZs [],qZs [],qZs [],qZs [],qZs [],qZs [],qZs [],qZs [],qZs [],qZs [],qZs [],qZs [],qZs [],qZs [],qZs [],qZs [],qZs [],qZs [],qZs [],qZs [],qZs [],qZs [],qZs [],qZs [],qZs [],qZs [],qZs [],qZs [],qZs [],qZs [],qZs [],qZs [],qZs [],qZs [],qZs [],qZs [],qZs [],qZs [],qZs []] hS ?_);intro _ _ _ aa;refine sT 0 aa ?_;intro w2 _ ac;refine kC ?_;refine lpJ hm (fun E I m a K=>∃O D,JR (nf 16) g T0 w2 a K O (X8 E m D=some I) [(0,(qZs p0)),(7,.agg #[qZs [60,60,61],qZs [62,62,61],qZs [45,62],qZs [43,43],qZs [45,45],qZs [60,60],qZs [62,62],qZs [60,61],qZs [62,61],qZs [61,61],qZs [33,61],qZs [38,38],qZs [124,124],qZs [43,61],qZs [45,61],qZs [42,61],qZs [47,61],qZs [37,61],qZs [38,61],qZs [124,61],qZs [94,61],qZs [43],qZs [45],qZs [42],qZs [47],qZs [37],qZs [38],qZs [124],qZs [94],qZs [126],qZs [33],qZs [60],qZs [62],qZs [61],qZs [63],qZs [58],qZs [59],qZs [44],qZs [46],qZs [40],qZs [41],qZs [91],qZs [93],qZs [123],qZs [125]]),(8,iv D)] [X3 R]) (fun _ _ h=>je h (ac.sE [1])) ?_;rintro E ad I ae _ _ K ⟨O,D,J,af,rfl,U,_⟩;obtain⟨m1,_,rfl,hm,V⟩:=lrE af ad;refine qN ?_;refine sq2 (cd hm ?_ ?_)<;>intro ah hm
 . refine kE ?_;refine blk (sq2 ?_);obtain⟨u1,ag,hm⟩:=Z9 hm;refine pu ?_;refine pv (r_axi rfl rfl (idx_map (fun z:List UInt8=>(qZs z)) ag) rfl underlying184 sizeOf9 isAgg9) (pn ?_);refine qU ?_;refine cB cf46 hm (Q1h (U.bE [0] [])) ?_;rintro _ _ _ _ _ ⟨rfl,W,_⟩ hm;refine cd hm ?_ ?_<;>intro ai hm
   . refine qN ?_;have hm:=Q4j hm V ae;exact re hm (W.sE [0])
   exact lg hm V (W.sE [0])
 exact zr hm U

instance:Ct 56 @Y0y:=⟨@Y0y,cf56⟩
theorem Z4c{p0:List UInt8}(hS:Sep g T0 w0 [X3 R]):∀r,Q0g p0=some r->
 Cl 28 #[Q16 p0.toArray] w0 (Q63 T0 w0 g R r.1 r.2):=by
 intro r hm;refine eN Tryz.func28 Tryz.ntmps28 fun J=>?_;unfold Q0g at hm;refine sq2 (aL zv8 hS ?_);intro _ E _ aa;refine kE ?_;refine blk (sq2 ?_);obtain⟨u1,ab,hm⟩:=Z9 hm;refine pu ?_;refine pv (Z5f rfl rfl ab underlying9) (cB cf50 hm (Z3g (aa.bE [0,1] [])) ?_);rintro _ _ _ _ _ ⟨rfl,I,_⟩ hm;refine cd hm ?_ ?_<;>intro aj hm
 . refine qU ?_;refine cB cf48 hm (Z0j (I.bE [0,1] [])) ?_;rintro _ _ T2 _ _ ⟨rfl,ad,_⟩ hm;refine pn ?_;refine sq2 ?_;obtain⟨u2,af,hm⟩:=Z9 hm;refine pu ?_;refine pv (r_ss rfl rfl ⟨_,rfl⟩ af underlying9) (pv (P3 (by kernel_rfl) rfl (u:= .agg #[iv 1,qZs u2,.int .u32 0,iv 0,iv 0])) (aL zv8 ad ?_));intro _ K _ ag;refine sT 0 ag ?_;intro w5 _ O;refine pn ?_;refine sq2 (sq2 (cd hm ?_ ?_))<;>intro ak hm
   . exact zr hm O
   refine pn ?_;refine S9 hm (fun U a V=>∃W D,JR (nf 48) g T2 w5 a V W (U D=some r) [(2,pt E 0),(5,pt K 0)] [K4 K (Y7t D),K4 E zv8,X3 R]) (fun U hm=>?_) ?_
   . exact zr hm O
   rintro _ V ⟨W,D,J,hm,rfl,ai,_⟩;exact zr hm ai
 exact zr hm I

instance:Ct 28 @Z4c:=⟨@Z4c,cf28⟩
theorem Z8d{p0:List UInt8}(hS:Sep g T0 w0 [X3 R])(hG0:Gi T0 w0 0):∀r,Z0k p0=some r->
 Cl 13 #[Q16 p0.toArray] w0 (J1 T0 w0 fun T w v=>∃a4 n4 c4,v= .tuple #[.slice a4 n4 c4,Q33 r.2.1,iv r.2.2]/\Sep g T w (R++[G6 Q6c 113 (.slice a4 n4 c4) r.1])/\True):=by
 intro r hm;refine eN Tryz.func13 Tryz.ntmps13 fun J=>?_;unfold Z0k at hm;refine sq2 (aL [iv 0,iv 0] hS ?_);intro _ I _ ai;refine kA ?_;refine pv (P3 (by kernel_rfl) rfl (u:= .agg #[iv 1,iv 1])) (pv (P3 (by kernel_rfl) rfl (u:= .agg #[qZs p0,iv 1,iv 1])) (bX [qZs p0,iv 1,iv 1] ai ?_));intro w2 K _ ab;refine pn ?_;refine sq2 (sq2 (cd hm ?_ ?_))<;>intro aJ hm
 . refine sq2 (rsS [0,0,0,1,0,2,0] [0,1,2,3,4,5,6] ab fun w3 aM ak=>s2W [0] ?_);refine osT 1 ak ?_;intro _ _ am;refine pn ?_;have an:=am.nilO Q6c 113;exact re hm (an.sE [3,0])
 refine kD ?_;refine sq2 ?_;have ao:=ab.nilO Q6c 113;refine lpJ hm (fun ac o1 m a w5=>∃T1 D V a1 O c1,JR (nf 76) g T0 w2 a w5 T1 (X8 ac m (V,D)=some o1) [(3,pt I 0),(5,pt K 0),(6,.slice a1 O c1)] [G6 Q6c 113 (.slice a1 O c1) V,K4 K (Z2f D),K4 I [iv 0,iv 0],X3 R]) (fun _ _ h=>je h (ao.sN 0 4)) ?_;rintro ac ap o1 W _ _ w5 ⟨T1,D,V,a1,O,c1,J,aq,rfl,ag,_⟩;obtain⟨m1,_,rfl,hm,U⟩:=lrE aq ap;refine sq2 (sq2 (cd hm ?_ ?_))<;>intro aN hm
 . refine pn ?_;refine blk (qU ?_);refine cB cf26 hm (Z4d (ag.bE (Z4 0 4) []) (hG0.mono ch)) ?_;rintro _ _ _ _ _ ⟨rfl,aa,_⟩ hm;refine pn ?_;refine sq2 (sq2 (cd hm ?_ ?_))<;>intro aP hm
   . refine sq2 (rsS [0,0,0,1,0,2,0] [0,1,2,3,4,5,6] aa fun w7 aR ar=>s2W [0] ?_);refine osT 2 ar ?_;intro _ _ au;refine pn ?_;have av:=au.nilO Q6c 113;have hm:=Q4j hm U W;exact re hm (av.sE [4,0])
   refine pn ?_;refine sq2 (sq2 (cd hm ?_ ?_))<;>intro aS hm
   . exact zr hm aa
   refine kA ?_;refine cB cf28 hm (Z4c (aa.bE (Z4 0 4) [])) ?_;rintro E _ _ _ _ ⟨rfl,aw,_⟩ hm;refine aL zv8 aw ?_;intro _ b3 _ ay;refine sT 0 ay ?_;intro _ _ ah;refine pn ?_;refine sq2 (sq2 (cd hm ?_ ?_))<;>intro aT hm
   . refine sq2 (rsS [0,0,0,1,0,0,2,0] [0,1,2,3,4,5,6,7] ah fun aU aV az=>s2W [0] ?_);refine osT 3 az ?_;intro _ _ aA;refine pu ?_;refine se (E9 [(2,.slice none 0 0),(3,pt I 0),(4,iv E.2)] ⟨rfl,rfl,rfl,qZt⟩ fun J=>?_);have aB:=aA.nilO Q6c 113;have hm:=Q4j hm U W;exact re hm (aB.sE [5,0])
   refine skp (E9 [(3,pt I 0),(5,pt K 0),(6,.slice a1 O c1),(8,pt b3 0)] ⟨rfl,rfl,rfl,rfl,qZt⟩ fun J=>sq2 (sT 0 ah ?_));intro _ _ aC;refine kE ?_;refine bS (r:=Q6c) (l:=([{E.1 with Pos:=D.pos}]:List X5)) (css:=[[iv E.1.Kind,Q16 E.1.Text.toArray,.int .u32 E.1.Num,iv D.pos.Line,iv D.pos.Col]]) aC ⟨(Y3s (x:={E.1 with Pos:=D.pos}):Q6c.rp _ _ _ _),qZt⟩ ?_;intro _ _ _ c2 _ aD;obtain⟨_,aE,hm⟩:=Z9 hm;refine aO 2 aD (K9 aE) ?_;intro _ _ _ c3 _ aF;refine pn ?_;refine cB cf27 hm (Q7o (aF.bE [2,4,5] [3]) (Q4m K)) ?_;rintro _ _ _ _ _ ⟨rfl,aG,_⟩ hm;exact lg hm U (aG.sE [0,3,1,2])
 have hm:=Z0r hm U W;refine kE ?_;refine rsS [0,0,0,0,1,0,2,0] [0,1,2,3,4,5,6,7] ag fun aW aX aI=>?_;have dd:KD [(6,[4])]:=⟨qZt⟩;exact zr hm aI

instance:Ct 13 @Z8d:=⟨@Z8d,cf13⟩
theorem I2{p0:Z0}(hS:Q26 a1 c1 Z7 T0 g w0 R p0)(Z2:Ln Y5 Y4 Z7)(h1:Q5 a1 c1 T0 w0 p0):∀r,K6 p0=some r->
 Cl 57 #[pt Y5 Y4] w0 (J1 T0 w0 fun T w v=>v= .agg #[iv r.Line,iv r.Col]/\Q70 a1 c1 Z7 T g w R p0):=by
 intro r hm;refine eN Tryz.func57 Tryz.ntmps57 fun J=>?_;unfold K6 at hm;exact zr hm hS

instance:Ct 57 @I2:=⟨@I2,cf57⟩
theorem Q7e{p0:Z0}{p1}{p2:List UInt8}(hS:Q26 a1 c1 Z7 T0 g w0 R p0)(Z2:Ln Y5 Y4 Z7)(h1:Q5 a1 c1 T0 w0 p0):∀r,P5 p0 p1 p2=some r->
 Cl 59 #[pt Y5 Y4,iv p1,Q16 p2.toArray] w0 (J1 T0 w0 fun T w v=>v= .bool r/\Q70 a1 c1 Z7 T g w R p0):=by
 intro r hm;refine eN Tryz.func59 Tryz.ntmps59 fun J=>?_;unfold P5 at hm;exact zr hm hS

instance:Ct 59 @Q7e:=⟨@Q7e,cf59⟩
theorem O1{p0:Z0}{p1:List UInt8}(hS:Q26 a1 c1 Z7 T0 g w0 R p0)(Z2:Ln Y5 Y4 Z7)(h1:Q5 a1 c1 T0 w0 p0):∀r,V0 p0 p1=some r->
 Cl 58 #[pt Y5 Y4,Q16 p1.toArray] w0 (J1 T0 w0 fun T w v=>v= .bool r/\Q70 a1 c1 Z7 T g w R p0):=by
 intro r hm;refine eN Tryz.func58 Tryz.ntmps58 fun J=>?_;unfold V0 at hm;exact zr hm hS

instance:Ct 58 @O1:=⟨@O1,cf58⟩
theorem V3{p0:Z0}{p1:List UInt8}(hS:Q26 a1 c1 Z7 T0 g w0 R p0)(Z2:Ln Y5 Y4 Z7)(h1:Q5 a1 c1 T0 w0 p0):∀r,Y9 p0 p1=some r->
 Cl 86 #[pt Y5 Y4,Q16 p1.toArray] w0 (J1 T0 w0 fun T w v=>∃a3 c3,v= .bool r.1/\Q52 a3 c3 Z7 T g w R r.2):=by
 intro r hm;refine eN Tryz.func86 Tryz.ntmps86 fun J=>?_;unfold Y9 at hm;exact zr hm hS

instance:Ct 86 @V3:=⟨@V3,Z2v⟩
theorem Z1t{p0:Z0}{p1}(hS:Q26 a1 c1 Z7 T0 g w0 R p0)(Z2:Ln Y5 Y4 Z7)(h1:Q5 a1 c1 T0 w0 p0):∀r,W3 p0 p1=some r->
 Cl 87 #[pt Y5 Y4,iv p1] w0 (exR r (fun r=>J1 T0 w0 fun T w v=>v= .tuple #[]/\Q70 a1 c1 Z7 T g w R p0) (fun r=>L0 T0 w0 fun T w v=>v= .iface 63 (Q18 r.pos r.e)/\Q70 a1 c1 Z7 T g w R p0)):=by
 intro r hm;refine eN Tryz.func87 Tryz.ntmps87 fun J=>?_;unfold W3 at hm;exact zr hm hS

instance:Ct 87 @Z1t:=⟨@Z1t,cf87⟩
theorem V7{p0:Z0}{p1:List UInt8}(hS:Q26 a1 c1 Z7 T0 g w0 R p0)(Z2:Ln Y5 Y4 Z7)(h1:Q5 a1 c1 T0 w0 p0):∀r,Y7 p0 p1=some r->
 Cl 60 #[pt Y5 Y4,Q16 p1.toArray] w0 (exR r (fun r=>J1 T0 w0 fun T w v=>∃a3 c3,v= .tuple #[]/\Q52 a3 c3 Z7 T g w R r) (fun r=>L0 T0 w0 (Q3 Z7 g R r.1.pos r.1.e r.2 r.2.l))):=by
 intro r hm;refine eN Tryz.func60 Tryz.ntmps60 fun J=>?_;unfold Y7 at hm;exact zr hm hS

instance:Ct 60 @V7:=⟨@V7,Z4f⟩
theorem Q7f{p0:Z0}{p1}(hS:Q26 a1 c1 Z7 T0 g w0 R p0)(Z2:Ln Y5 Y4 Z7)(h1:Q5 a1 c1 T0 w0 p0):∀r,D9 p0 p1=some r->
 Cl 88 #[pt Y5 Y4,iv p1] w0 (exR r (fun r=>J1 T0 w0 fun T w v=>∃a3 c3,v= .agg (Y7t r.1).toArray/\Q52 a3 c3 Z7 T g w R r.2) (fun r=>L0 T0 w0 (Q3 Z7 g R r.1.pos r.1.e r.2 r.2.l))):=by
 intro r hm;refine eN Tryz.func88 Tryz.ntmps88 fun J=>?_;unfold D9 at hm;refine sq2 (aL zv8 hS ?_);intro O D _ U;refine pn ?_;refine S9 hm (fun E a I=>∃K,JR (nf 40) g T0 O a I K (E ()=some r) [(0,pt Y5 Y4),(4,pt D 0)] [K4 D zv8,X3 R,Q1 a1 c1 Z7 p0]) (fun E hm=>?_) ?_
 . exact zr hm U
 rintro _ I ⟨K,J,hm,rfl,V,_⟩;exact zr hm V

instance:Ct 88 @Q7f:=⟨@Q7f,cf88⟩
theorem N6{p0:Z0}(hS:Q26 a1 c1 Z7 T0 g w0 R p0)(Z2:Ln Y5 Y4 Z7)(h1:Q5 a1 c1 T0 w0 p0):∀r,V6 p0=some r->
 Cl 61 #[pt Y5 Y4] w0 (exR r (fun r=>J1 T0 w0 fun T w v=>∃a4 c4,v=(qZs r.1)/\Q52 a4 c4 Z7 T g w R r.2) (fun r=>L0 T0 w0 (Q3 Z7 g R r.1.pos r.1.e r.2 r.2.l))):=by
 intro r hm;refine eN Tryz.func61 Tryz.ntmps61 fun J=>?_;unfold V6 at hm;exact zr hm hS

instance:Ct 61 @N6:=⟨@N6,cf61⟩
theorem Q6w{p0:Z0}(hS:Q26 a1 c1 Z7 T0 g w0 R p0)(Z2:Ln Y5 Y4 Z7)(h1:Q5 a1 c1 T0 w0 p0):∀r,R5 p0=some r->
 Cl 90 #[pt Y5 Y4] w0 (J1 T0 w0 fun T w v=>v= .bool r/\Q70 a1 c1 Z7 T g w R p0):=by
 intro r hm;refine eN Tryz.func90 Tryz.ntmps90 fun J=>?_;unfold R5 at hm;exact zr hm hS

instance:Ct 90 @Q6w:=⟨@Q6w,cf90⟩
theorem E3{p0:Z0}(hS:Q26 a1 c1 Z7 T0 g w0 R p0)(Z2:Ln Y5 Y4 Z7)(h1:Q5 a1 c1 T0 w0 p0):∀r,U6 p0=some r->
 Cl 63 #[pt Y5 Y4] w0 (exR r (fun r=>J1 T0 w0 fun T w v=>∃a8 c8,v= .agg (Z3c r.1).toArray/\Q52 a8 c8 Z7 T g w R r.2) (fun r=>L0 T0 w0 (Q3 Z7 g R r.1.pos r.1.e r.2 r.2.l))):=by
 intro r hm;refine eN Tryz.func63 Tryz.ntmps63 fun J=>?_;unfold U6 at hm;refine sq2 (aL zv10 hS ?_);intro w1 D an ao;refine pn ?_;refine S9 hm (fun af a w2=>∃V,JR (nf 38) g T0 w1 a w2 V (af ()=some r) [(0,pt Y5 Y4),(2,pt D 0)] [K4 D zv10,X3 R,Q1 a1 c1 Z7 p0]) (fun af hm=>?_) ?_
 . exact zr hm ao
 rintro _ w2 ⟨V,J,hm,rfl,ap,aq⟩;refine sq2 ?_;obtain⟨u2,_,hm⟩:=Z9 hm;refine pu ?_;refine pv (P3 (by kernel_rfl) rfl (u:= .agg #[qZs u2.Text,qZs [],iv 0])) (aL zv10 ap ?_);intro _ E au av;refine sT 0 av ?_;intro _ aw ax;refine pn ?_;refine sq2 ?_;obtain⟨_,ah,hm⟩:=Z9 hm;obtain⟨_,c2,ay,h2⟩:=(h1.mono (iT an (iT aq (iT au aw)))).part ah;refine pu ?_;refine pv (r_slR rfl (mC h1) ⟨_,rfl⟩ rfl ah underlying53 sizeOf113 rfl ay) (sB 3 0 Z2 ax ?_);intro w8 _ aA;refine pn ?_;refine S9 hm (fun ai a I=>∃K O W a3 c3,JR (nf 38) g V w8 a I K (ai W O=some r) [(0,pt Y5 Y4),(2,pt D 0),(3,pt E 0)] [K4 E (Z3c W),K4 D zv10,X3 R,Q1 a3 c3 Z7 O]/\Q5 a3 c3 K I O) (fun ai hm=>?_) ?_
 . exact zr hm aA
 rintro _ I ⟨K,O,W,a3,c3,⟨J,hm,rfl,aB,_⟩,_⟩;refine sq2 (lpJ hm (fun aj o1 m a ab=>∃T8 U x3 a6 c6,JR (nf 38) g K I a ab T8 (X8 aj m (x3,U)=some o1) [(0,pt Y5 Y4),(2,pt D 0),(3,pt E 0)] [K4 E (Z3c x3),K4 D zv10,X3 R,Q1 a6 c6 Z7 U]/\Q5 a6 c6 T8 ab U) (fun _ _ h=>je h (aB.sN 0 4)) ?_);rintro aj aC o1 _ _ _ ab ⟨T8,U,x3,a6,c6,⟨J,aD,rfl,aE,_⟩,_⟩;obtain⟨m1,_,rfl,hm,_⟩:=lrE aD aC;exact zr hm aE

instance:Ct 63 @E3:=⟨@E3,cf63⟩
theorem Q4g{p0:Z0}(hS:Q26 a1 c1 Z7 T0 g w0 R p0)(Z2:Ln Y5 Y4 Z7)(h1:Q5 a1 c1 T0 w0 p0):∀r,W4 p0=some r->
 Cl 89 #[pt Y5 Y4] w0 (exR r (fun r=>J1 T0 w0 fun T w v=>∃a11 n4 c11 a12 c12,v= .slice a11 n4 c11/\Sep g T w (R++[Q1 a12 c12 Z7 r.2,G6 (N7 .u32) 104 (.slice a11 n4 c11) r.1])/\Q5 a12 c12 T w r.2/\True) (fun r=>L0 T0 w0 (Q3 Z7 g R r.1.pos r.1.e r.2 r.2.l))):=by
 intro r hm;refine eN Tryz.func89 Tryz.ntmps89 fun J=>?_;unfold W4 at hm;refine qN ?_;refine qN ?_;refine sq2 ?_;have ae:=hS.nilO (N7 .u32) 104;refine lpJ hm (fun W o1 m a E=>∃I D K O U c2 V c3,JR (nf 15) g T0 w0 a E I (X8 W m (K,D)=some o1) [(0,pt Y5 Y4),(3,.slice O U c2)] [G6 (N7 .u32) 104 (.slice O U c2) K,X3 R,Q1 V c3 Z7 D]/\Q5 V c3 I E D) (fun _ _ h=>je h (ae.sE [0,1,2])) ?_;rintro W af o1 ag _ _ E ⟨I,D,K,O,U,c2,V,c3,⟨J,ah,rfl,ai,_⟩,h2⟩;obtain⟨m1,_,rfl,hm,ab⟩:=lrE ah af;refine sq2 (qU ?_);refine cB Z2v hm (V3 (ai.bE [0,1] [2]) Z2 h2) ?_;rintro _ _ _ _ _ ⟨_,c4,rfl,ac,h3,_⟩ hm;refine cd hm ?_ ?_<;>intro au hm
 . refine pn ?_;refine blk (qU ?_);refine cP cf88 hm (Q7f (ac.bE [0,1] [2]) Z2 h3) ?_ ?_
   . exact zk
   rintro y2 _ _ _ _ ⟨_,c5,rfl,ak,h4,_⟩ hm;refine pv (r_fd1 rfl underlying113 rfl isAgg104 rfl) (bS (r:=(N7 .u32)) (l:=([y2.1.Num]:List Int)) (css:=[[.int .u32 y2.1.Num]]) ak ⟨rfl,qZt⟩ ?_);intro _ _ _ c6 _ an;obtain⟨_,ao,hm⟩:=Z9 hm;refine aO 1 an (K9 ao) ?_;intro _ _ _ c7 _ ap;refine pn ?_;refine cP Z4f hm (V7 (ap.bE [1,2] [3]) Z2 (mC h4)) ?_ ?_
   . rintro _ _ _ _ _ ⟨_,c9,rfl,aq,_,_⟩ hm;have hm:=Q4j hm ab ag;exact pe hm (aq.sE [1,2])
   rintro _ _ _ _ _ ⟨_,c8,rfl,ar,_,_⟩ hm;exact lg hm ab (ar.sE [0,1,2])
 exact zr hm ac

instance:Ct 89 @Q4g:=⟨@Q4g,cf89⟩
theorem Q5x{p0:Z0}(hS:Q26 a1 c1 Z7 T0 g w0 R p0)(Z2:Ln Y5 Y4 Z7)(h1:Q5 a1 c1 T0 w0 p0):∀r,R9 p0=some r->
 Cl 62 #[pt Y5 Y4] w0 (exR r (fun r=>J1 T0 w0 (Q53 Z7 g R r.2 r.1)) (fun r=>L0 T0 w0 (Q3 Z7 g R r.1.pos r.1.e r.2 r.2.l))):=by
 intro r hm;refine eN Tryz.func62 Tryz.ntmps62 fun J=>?_;unfold R9 at hm;refine qN ?_;refine qN ?_;refine qU ?_;refine cP Z4f hm (V7 (hS.bE [0] [1]) Z2 h1) ?_ ?_
 . exact zk
 rintro _ _ T1 w1 _ ⟨_,c2,rfl,ak,h2,_⟩ hm;refine pn ?_;refine sq2 ?_;have am:=ak.nilO Q2c 86;refine lpJ hm (fun ad o1 m a K=>∃O I U V W c3 a4 c4,JR (nf 30) g T1 w1 a K O (X8 ad m (U,I)=some o1) [(0,pt Y5 Y4),(3,.slice V W c3)] [G6 Q2c 86 (.slice V W c3) U,X3 R,Q1 a4 c4 Z7 I]/\Q5 a4 c4 O K I) (fun _ _ h=>je h (am.sE [0,1,2])) ?_;rintro ad an o1 ao _ _ K ⟨O,I,U,V,W,c3,a4,c4,⟨J,ap,rfl,aq,_⟩,h3⟩;obtain⟨m1,_,rfl,hm,af⟩:=lrE ap an;refine sq2 (qU ?_);refine cB Z2v hm (V3 (aq.bE [0,1] [2]) Z2 h3) ?_;rintro _ _ _ _ _ ⟨_,c5,rfl,ag,h4,_⟩ hm;refine cd hm ?_ ?_<;>intro aQ hm
 . refine pn ?_;refine blk (qU ?_);refine cB cf57 hm (I2 (ag.bE [0,1] [2]) Z2 h4) ?_;rintro E _ _ _ _ ⟨rfl,au,_⟩ hm;refine pu ?_;refine cP cf63 hm (E3 (au.bE [0,1] [2]) Z2 (mC h4)) ?_ ?_
   . exact zk
   rintro D _ _ _ _ ⟨_,c6,rfl,av,h5,_⟩ hm;refine pv (P3 (by kernel_rfl) rfl (u:= .agg #[iv E.Line,iv E.Col,qZs D.1.Word,qZs D.1.Name,iv D.1.Stars,qZs [],.slice none 0 0,.slice none 0 0,.bool false])) (aL zv5 av ?_);intro _ _ _ ax;refine sT 0 ax ?_;intro _ _ ay;refine kA ?_;refine cP cf61 hm (N6 (ay.bE [0,1,2] [3]) Z2 (mC h5)) ?_ ?_
   . exact zk
   rintro y5 _ _ _ _ ⟨_,c7,rfl,az,h6,_⟩ hm;refine sT 0 az ?_;intro _ _ aB;refine kA ?_;refine cP cf89 hm (Q4g (aB.bE [0,1,2] [3]) Z2 (mC h6)) ?_ ?_
   . exact zk
   rintro y6 _ _ _ _ ⟨a8,_,c8,_,c9,rfl,aD,h7,_⟩ hm;refine sT 0 aD ?_;intro _ _ aF;refine kA ?_;refine cP Z4f hm (V7 (aF.bE [0,1,2,4] [3]) Z2 (mC h7)) ?_ ?_
   . rintro _ _ _ _ _ ⟨_,c13,rfl,aG,_,_⟩ hm;have hm:=Q4j hm af ao;exact pe hm (aG.sE [2,4])
   rintro _ _ _ _ _ ⟨_,c10,rfl,aI,_,_⟩ hm;refine pn ?_;obtain⟨_,_,aJ,h9,rfl⟩:=aI.sl 3;refine bS (r:=Q2c) (l:=([(⟨E,D.1,y5.1,y6.1,[],false⟩:G9)]:List G9)) (css:=[[iv E.Line,iv E.Col,Q16 D.1.Word.toArray,Q16 D.1.Name.toArray,iv D.1.Stars,Q16 y5.1.toArray,sv a8 y6.1 c8,.slice none 0 0,.bool false]]) aJ ⟨(Z7o (x:=(⟨E,D.1,y5.1,y6.1,[],false⟩:G9)) h9 U1:Q2c.rp _ _ _ _),qZt⟩ ?_;intro _ _ _ c11 _ aM;obtain⟨_,aN,hm⟩:=Z9 hm;refine aO 2 aM (K9 aN) ?_;intro _ _ _ c12 _ aP;exact lg hm af (aP.sE [2,3,5])
 exact zr hm ag

instance:Ct 62 @Q5x:=⟨@Q5x,cf62⟩
theorem W5{p0:Z0}(hS:Q26 a1 c1 Z7 T0 g w0 R p0)(Z2:Ln Y5 Y4 Z7)(h1:Q5 a1 c1 T0 w0 p0):∀r,F0 p0=some r->
 Cl 116 #[pt Y5 Y4] w0 (exR r (fun r=>J1 T0 w0 fun T w v=>∃b2 a2 c2,v= .func (.func 153) #[] #[pt b2 0]/\Sep g T w (R++[Q1 a2 c2 Z7 r,K4 b2 [pt Y5 Y4]])/\Q5 a2 c2 T w r/\True) (fun r=>L0 T0 w0 (Q3 Z7 g R r.1.pos r.1.e r.2 r.2.l))):=by
 intro r hm;refine eN Tryz.func116 Tryz.ntmps116 fun J=>?_;unfold F0 at hm;refine sq2 (bX [pt Y5 Y4] hS ?_);intro O D _ U;refine pv (r_zx (v:= .nilFunc) rfl) (pn ?_);refine S9 hm (fun E a I=>∃K,JR (nf 18) g T0 O a I K (E ()=some r) [(1,pt D 0)] [K4 D [pt Y5 Y4],X3 R,Q1 a1 c1 Z7 p0]) (fun E hm=>?_) ?_
 . exact zr hm U
 rintro _ I ⟨K,J,hm,rfl,V,_⟩;exact zr hm V

instance:Ct 116 @W5:=⟨@W5,Y9m⟩
theorem R8{p0:Z0}(hS:Q26 a1 c1 Z7 T0 g w0 R p0)(Z2:Ln Y5 Y4 Z7)(h1:Q5 a1 c1 T0 w0 p0):∀r,E6 p0=some r->
 Cl 119 #[pt Y5 Y4] w0 (J1 T0 w0 fun T w v=>v=(qZs r)/\Q70 a1 c1 Z7 T g w R p0):=by
 intro r hm;refine eN Tryz.func119 Tryz.ntmps119 fun J=>?_;unfold E6 at hm;exact zr hm hS

instance:Ct 119 @R8:=⟨@R8,Y6l⟩
theorem N5{p0:Z0}{p1}(hS:Q26 a1 c1 Z7 T0 g w0 R p0)(Z2:Ln Y5 Y4 Z7)(h1:Q5 a1 c1 T0 w0 p0):∀r,K0 p0 p1=some r->
 Cl 120 #[pt Y5 Y4,iv p1] w0 (J1 T0 w0 (Q13 Z7 g R r.1 r.2 r.1.Kids)):=by
 intro r hm;refine eN Tryz.func120 Tryz.ntmps120 fun J=>?_;unfold K0 at hm;exact zr hm hS

instance:Ct 120 @N5:=⟨@N5,Y4s⟩
theorem Z3z{p0:List UInt8}(hS:Sep g T0 w0 [X3 R]):∀r,Z2w p0=some r->
 Cl 175 #[Q16 p0.toArray] w0 (Q25 T0 w0 g R r):=by
 intro r hm;refine eN Tryz.func175 Tryz.ntmps175 fun J=>?_;unfold Z2w at hm;refine qN ?_;refine sq2 (qN ?_);refine blk (sq2 (cd hm ?_ ?_))<;>intro au hm
 . exact sq2 (re hm (hS.sE [0]))
 refine sq2 (cd hm ?_ ?_)<;>intro av hm
 . exact sq2 (re hm (hS.sE [0]))
 refine sq2 (cd hm ?_ ?_)<;>intro aw hm
 . exact sq2 (re hm (hS.sE [0]))
 refine sq2 (cd hm ?_ ?_)<;>intro ax hm
 . exact sq2 (re hm (hS.sE [0]))
 refine sq2 (cd hm ?_ ?_)<;>intro ay hm
 . exact sq2 (re hm (hS.sE [0]))
 refine S9 hm (fun af a D=>∃E I,JR (nf 32) g T0 w0 a D E (af I=some r) [(3,(qZs p0)),(14,.bool I)] [X3 R]) (fun af hm=>?_) ?_
 . exact zr hm hS
 rintro _ D ⟨E,I,J,hm,rfl,ag,_⟩;refine cd hm ?_ ?_<;>intro az hm
 . exact sq2 (re hm (ag.sE [0]))
 refine S9 hm (fun ah a K=>∃O U,JR (nf 32) g E D a K O (ah U=some r) [(3,(qZs p0)),(17,.bool U)] [X3 R]) (fun ah hm=>?_) ?_
 . exact zr hm ag
 rintro _ K ⟨O,U,J,hm,rfl,ai,_⟩;refine cd hm ?_ ?_<;>intro aA hm
 . exact sq2 (re hm (ai.sE [0]))
 refine S9 hm (fun aj a V=>∃W x3,JR (nf 32) g O K a V W (aj x3=some r) [(3,(qZs p0)),(22,.bool x3)] [X3 R]) (fun aj hm=>?_) ?_
 . exact zr hm ai
 rintro _ V ⟨W,x3,J,hm,rfl,ak,_⟩;refine cd hm ?_ ?_<;>intro aB hm
 . exact sq2 (re hm (ak.sE [0]))
 refine S9 hm (fun am a w4=>∃T4 x4,JR (nf 32) g W V a w4 T4 (am x4=some r) [(3,(qZs p0)),(25,.bool x4)] [X3 R]) (fun am hm=>?_) ?_
 . exact zr hm ak
 rintro _ w4 ⟨T4,x4,J,hm,rfl,an,_⟩;refine cd hm ?_ ?_<;>intro aC hm
 . exact sq2 (re hm (an.sE [0]))
 refine S9 hm (fun ao a w5=>∃T5 x5,JR (nf 32) g T4 w4 a w5 T5 (ao x5=some r) [(28,.bool x5)] [X3 R]) (fun ao hm=>?_) ?_
 . exact zr hm an
 rintro _ w5 ⟨T5,x5,J,hm,rfl,ar,_⟩;exact zr hm ar

instance:Ct 175 @Z3z:=⟨@Z3z,cf175⟩
theorem Q4w{p0:Z0}(hS:Sep g T0 w0 [X3 R,Z7 [pt b1 oo1],Q1 a1 c1 H1 p0])(Z2:Ln Y5 Y4 Z7)(hL1:Ln b1 oo1 H1)(h1:Q5 a1 c1 T0 w0 p0):∀r,Q7g p0=some r->
 Cl 153 #[pt Y5 Y4] w0 (J1 T0 w0 fun T w v=>∃a2 c2,v= .tuple #[]/\Sep g T w (R++[Z7 [pt b1 oo1],Q1 a2 c2 H1 r])/\Q5 a2 c2 T w r/\True):=by
 intro r hm;refine eN Tryz.func153 Tryz.ntmps153 fun J=>?_;unfold Q7g at hm;exact zr hm hS

instance:Ct 153 @Q4w:=⟨@Q4w,Q0x⟩
theorem Z1c{p0:List UInt8}(hS:Sep g T0 w0 [X3 R]):∀r,Q8c p0=some r->
 Cl 118 #[Q16 p0.toArray] w0 (Q17 T0 w0 g R r):=by
 intro r hm;refine eN Tryz.func118 Tryz.ntmps118 fun J=>?_;unfold Q8c at hm;refine qN ?_;refine sq2 (qN ?_);refine blk (S9 hm (fun E a I=>∃K D,JR (nf 16) g T0 w0 a I K (E D=some r) [(4,.bool D)] [X3 R]) (fun E hm=>?_) ?_)
 . exact zr hm hS
 rintro _ I ⟨K,D,J,hm,rfl,O,_⟩;exact zr hm O
instance:Ct 118 @Z1c:=⟨@Z1c,cf118⟩
end Go.Proofs.YtfffghclkmbopaaGreat
