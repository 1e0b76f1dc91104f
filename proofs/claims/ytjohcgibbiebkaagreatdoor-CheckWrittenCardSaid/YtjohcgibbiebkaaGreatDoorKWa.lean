/- Go functions compute their models. -/
import Derived.Test.YtjohcgibbiebkaaGreatDoorProg
import Derived.KernelRfl
import Derived.Test.YtjohcgibbiebkaaGreatDoorKH
set_option linter.unusedVariables false
namespace Go.Proofs.YtjohcgibbiebkaaGreatDoor
open List renaming length → qQ
abbrev qZs(l:Aa):Value:= .string ⟨l.toArray⟩
theorem qZt:True:=trivial
open _root_.Go.Proofs.Tryz
set_option maxRecDepth 100000
set_option maxHeartbeats 8000000
attribute [local irreducible] wpList wpQuiet Code.wp
variable{g:World}{T0:TP}{w0:World}{R:List X1}
def Y2c:Rp Pos:=((E7 (N1 .i64) (N1 .i64))).iso fun x=>(x.Line,x.Col)
theorem Q2y{T:TP}{w:World}{cs:Ab}{x:Pos}(h:Y2c.rp T w cs x):cs=[.int .i64 x.Line,.int .i64 x.Col]:=by
 obtain⟨_,_,rfl,D,E⟩:=h;cases D;cases E;exact rfl
theorem Z0o{T:TP}{w:World}{x:Pos}:Y2c.rp T w [.int .i64 x.Line,.int .i64 x.Col] x:=⟨_,_,rfl,rfl,rfl⟩
def Z4k:Rp K6:=((E7 L9 (E7 L9 (N1 .i64)))).iso fun x=>(x.Word,x.Name,x.Stars)
theorem Q6v{T:TP}{w:World}{cs:Ab}{x:K6}(h:Z4k.rp T w cs x):cs=[qZs x.Word,qZs x.Name,.int .i64 x.Stars]:=by
 obtain⟨_,_,rfl,D,E⟩:=h;cases D;obtain⟨_,_,rfl,I,K⟩:=E;cases I;cases K;exact rfl
theorem Z4f{T:TP}{w:World}{x:K6}:Z4k.rp T w [qZs x.Word,qZs x.Name,.int .i64 x.Stars] x:=⟨_,_,rfl,rfl,⟨_,_,rfl,rfl,rfl⟩⟩
def FGExpr(r:Rp Z5):Rp Z5:=((E7 (N1 .i64) (E7 Y2c (E7 L9 (E7 L9 (E7 (N1 .u32) (E7 Z4k (rSl r)))))))).iso fun x=>(x.Kind,x.Pos,x.Op,x.Name,x.Num,x.Type_,x.Kids)
def E3:Rp Z5:=rFix FGExpr 10 true (fun _=>rfl)
theorem gGExpr:Z9q FGExpr:=gIso _ (Q3c (gK (N1 .i64)) (Q3c (gK Y2c) (Q3c (gK L9) (Q3c (gK L9) (Q3c (gK (N1 .u32)) (Q3c (gK Z4k) (gSl gId)))))))
theorem K5{T:TP}{w:World}{cs:Ab}{x:Z5}(h:E3.rp T w cs x):∃(a9:OA)(c9:Nat),cs=[.int .i64 x.Kind,.int .i64 x.Pos.Line,.int .i64 x.Pos.Col,qZs x.Op,qZs x.Name,.int .u32 x.Num,qZs x.Type_.Word,qZs x.Type_.Name,.int .i64 x.Type_.Stars,.slice a9 (qQ x.Kids) c9]/\SlR E3 T w (.slice a9 (qQ x.Kids) c9) x.Kids:=by
 have h:=Y4m gGExpr h;obtain⟨_,_,rfl,E,I⟩:=h;cases E;obtain⟨_,_,rfl,K,O⟩:=I;cases Q2y K;obtain⟨_,_,rfl,U,V⟩:=O;cases U;obtain⟨_,_,rfl,W,g4⟩:=V;cases W;obtain⟨_,_,rfl,f5,g5⟩:=g4;cases f5;obtain⟨_,_,rfl,f6,g6⟩:=g5;cases Q6v f6;obtain⟨_,rfl,D⟩:=g6;obtain⟨b7,k7,rfl⟩:=D.shape;exact⟨b7,k7,rfl,D⟩
theorem Q3b{T:TP}{w:World}{x:Z5}{a9:OA}{c9:Nat}(e0:SlR E3 T w (.slice a9 (qQ x.Kids) c9) x.Kids):E3.rp T w [.int .i64 x.Kind,.int .i64 x.Pos.Line,.int .i64 x.Pos.Col,qZs x.Op,qZs x.Name,.int .u32 x.Num,qZs x.Type_.Word,qZs x.Type_.Name,.int .i64 x.Type_.Stars,.slice a9 (qQ x.Kids) c9] x:=X1a gGExpr ⟨_,_,rfl,rfl,⟨_,_,rfl,Z0o,⟨_,_,rfl,rfl,⟨_,_,rfl,rfl,⟨_,_,rfl,rfl,⟨_,_,rfl,Z4f,⟨_,rfl,e0⟩⟩⟩⟩⟩⟩⟩
def Q2z:Rp J2:=((E7 Y2c (E7 Z4k (E7 L9 (E7 (rSl (N1 .u32)) (E7 (rSl E3) Z3x)))))).iso fun x=>(x.Pos,x.Type_,x.Name,x.Dims,x.Init,x.Brace)
theorem Q4j{T:TP}{w:World}{cs:Ab}{x:J2}(h:Q2z.rp T w cs x):∃(a6:OA)(c6:Nat)(a7:OA)(c7:Nat),cs=[.int .i64 x.Pos.Line,.int .i64 x.Pos.Col,qZs x.Type_.Word,qZs x.Type_.Name,.int .i64 x.Type_.Stars,qZs x.Name,.slice a6 (qQ x.Dims) c6,.slice a7 (qQ x.Init) c7,.bool x.Brace]/\SlR (N1 .u32) T w (.slice a6 (qQ x.Dims) c6) x.Dims/\SlR E3 T w (.slice a7 (qQ x.Init) c7) x.Init:=by
 obtain⟨_,_,rfl,I,K⟩:=h;cases Q2y I;obtain⟨_,_,rfl,O,U⟩:=K;cases Q6v O;obtain⟨_,_,rfl,V,W⟩:=U;cases V;obtain⟨_,_,rfl,f4,g4⟩:=W;obtain⟨_,rfl,D⟩:=f4;obtain⟨b5,k5,rfl⟩:=D.shape;obtain⟨_,_,rfl,f6,g6⟩:=g4;obtain⟨_,rfl,E⟩:=f6;obtain⟨b7,k7,rfl⟩:=E.shape;cases g6;exact⟨b5,k5,b7,k7,rfl,D,E⟩
theorem Y0j{T:TP}{w:World}{x:J2}{a6 a7:OA}{c6 c7:Nat}(e0:SlR (N1 .u32) T w (.slice a6 (qQ x.Dims) c6) x.Dims)(e1:SlR E3 T w (.slice a7 (qQ x.Init) c7) x.Init):Q2z.rp T w [.int .i64 x.Pos.Line,.int .i64 x.Pos.Col,qZs x.Type_.Word,qZs x.Type_.Name,.int .i64 x.Type_.Stars,qZs x.Name,.slice a6 (qQ x.Dims) c6,.slice a7 (qQ x.Init) c7,.bool x.Brace] x:=⟨_,_,rfl,Z0o,⟨_,_,rfl,Z4f,⟨_,_,rfl,rfl,⟨_,_,rfl,⟨_,rfl,e0⟩,⟨_,_,rfl,⟨_,rfl,e1⟩,rfl⟩⟩⟩⟩⟩
def Q8a:Rp S8:=((E7 Y2c (E7 L9 (rSl Q2z)))).iso fun x=>(x.Pos,x.Name,x.Fields)
theorem Z0g{T:TP}{w:World}{cs:Ab}{x:S8}(h:Q8a.rp T w cs x):∃(a3:OA)(c3:Nat),cs=[.int .i64 x.Pos.Line,.int .i64 x.Pos.Col,qZs x.Name,.slice a3 (qQ x.Fields) c3]/\SlR Q2z T w (.slice a3 (qQ x.Fields) c3) x.Fields:=by
 obtain⟨_,_,rfl,E,I⟩:=h;cases Q2y E;obtain⟨_,_,rfl,K,O⟩:=I;cases K;obtain⟨_,rfl,D⟩:=O;obtain⟨U,V,rfl⟩:=D.shape;exact⟨U,V,rfl,D⟩
theorem Y5r{T:TP}{w:World}{x:S8}{a3:OA}{c3:Nat}(e0:SlR Q2z T w (.slice a3 (qQ x.Fields) c3) x.Fields):Q8a.rp T w [.int .i64 x.Pos.Line,.int .i64 x.Pos.Col,qZs x.Name,.slice a3 (qQ x.Fields) c3] x:=⟨_,_,rfl,Z0o,⟨_,_,rfl,rfl,⟨_,rfl,e0⟩⟩⟩
def X5a(r:Rp V8):Rp R5:=((E7 Y2c (E7 Z3x (E7 (N1 .u32) (rSl r))))).iso fun x=>(x.Pos,x.Default,x.Num,x.Body)
theorem gFGCase:Z9q X5a:=gIso _ (Q3c (gK Y2c) (Q3c (gK Z3x) (Q3c (gK (N1 .u32)) (gSl gId))))
def FStmt(r:Rp V8):Rp V8:=((E7 (N1 .i64) (E7 Y2c (E7 (rSl E3) (E7 (rSl E3) (E7 (rSl E3) (E7 (rSl Q2z) (E7 (rSl r) (E7 (rSl r) (rSl (X5a r))))))))))).iso fun x=>(x.Kind,x.Pos,x.A,x.B,x.C,x.Var,x.Body,x.Else,x.Cases)
def Q5t:Rp V8:=rFix FStmt 10 true (fun _=>rfl)
theorem gStmt:Z9q FStmt:=gIso _ (Q3c (gK (N1 .i64)) (Q3c (gK Y2c) (Q3c (gK (rSl E3)) (Q3c (gK (rSl E3)) (Q3c (gK (rSl E3)) (Q3c (gK (rSl Q2z)) (Q3c (gSl gId) (Q3c (gSl gId) (gSl gFGCase)))))))))
def Q8v:Rp R5:=X5a Q5t
theorem Z4x{T:TP}{w:World}{cs:Ab}{x:V8}(h:Q5t.rp T w cs x):∃(a3:OA)(c3:Nat)(a4:OA)(c4:Nat)(a5:OA)(c5:Nat)(a6:OA)(c6:Nat)(a7:OA)(c7:Nat)(a8:OA)(c8:Nat)(a9:OA)(c9:Nat),cs=[.int .i64 x.Kind,.int .i64 x.Pos.Line,.int .i64 x.Pos.Col,.slice a3 (qQ x.A) c3,.slice a4 (qQ x.B) c4,.slice a5 (qQ x.C) c5,.slice a6 (qQ x.Var) c6,.slice a7 (qQ x.Body) c7,.slice a8 (qQ x.Else) c8,.slice a9 (qQ x.Cases) c9]/\SlR E3 T w (.slice a3 (qQ x.A) c3) x.A/\SlR E3 T w (.slice a4 (qQ x.B) c4) x.B/\SlR E3 T w (.slice a5 (qQ x.C) c5) x.C/\SlR Q2z T w (.slice a6 (qQ x.Var) c6) x.Var/\SlR Q5t T w (.slice a7 (qQ x.Body) c7) x.Body/\SlR Q5t T w (.slice a8 (qQ x.Else) c8) x.Else/\SlR Q8v T w (.slice a9 (qQ x.Cases) c9) x.Cases:=by
 have h:=Y4m gStmt h;obtain⟨_,_,rfl,W,g1⟩:=h;cases W;obtain⟨_,_,rfl,f2,g2⟩:=g1;cases Q2y f2;obtain⟨_,_,rfl,f3,g3⟩:=g2;obtain⟨_,rfl,D⟩:=f3;obtain⟨b4,k4,rfl⟩:=D.shape;obtain⟨_,_,rfl,f5,g5⟩:=g3;obtain⟨_,rfl,E⟩:=f5;obtain⟨b6,k6,rfl⟩:=E.shape;obtain⟨_,_,rfl,f7,g7⟩:=g5;obtain⟨_,rfl,I⟩:=f7;obtain⟨b8,k8,rfl⟩:=I.shape;obtain⟨_,_,rfl,f9,g9⟩:=g7;obtain⟨_,rfl,K⟩:=f9;obtain⟨au,av,rfl⟩:=K.shape;obtain⟨_,_,rfl,aw,ax⟩:=g9;obtain⟨_,rfl,O⟩:=aw;obtain⟨ay,az,rfl⟩:=O.shape;obtain⟨_,_,rfl,aA,aB⟩:=ax;obtain⟨_,rfl,U⟩:=aA;obtain⟨aC,aD,rfl⟩:=U.shape;obtain⟨_,rfl,V⟩:=aB;obtain⟨aE,aF,rfl⟩:=V.shape;exact⟨b4,k4,b6,k6,b8,k8,au,av,ay,az,aC,aD,aE,aF,rfl,D,E,I,K,O,U,V⟩
theorem Y7d{T:TP}{w:World}{x:V8}{a3 a4 a5 a6 a7 a8 a9:OA}{c3 c4 c5 c6 c7 c8 c9:Nat}(e0:SlR E3 T w (.slice a3 (qQ x.A) c3) x.A)(e1:SlR E3 T w (.slice a4 (qQ x.B) c4) x.B)(e2:SlR E3 T w (.slice a5 (qQ x.C) c5) x.C)(e3:SlR Q2z T w (.slice a6 (qQ x.Var) c6) x.Var)(e4:SlR Q5t T w (.slice a7 (qQ x.Body) c7) x.Body)(e5:SlR Q5t T w (.slice a8 (qQ x.Else) c8) x.Else)(e6:SlR Q8v T w (.slice a9 (qQ x.Cases) c9) x.Cases):Q5t.rp T w [.int .i64 x.Kind,.int .i64 x.Pos.Line,.int .i64 x.Pos.Col,.slice a3 (qQ x.A) c3,.slice a4 (qQ x.B) c4,.slice a5 (qQ x.C) c5,.slice a6 (qQ x.Var) c6,.slice a7 (qQ x.Body) c7,.slice a8 (qQ x.Else) c8,.slice a9 (qQ x.Cases) c9] x:=X1a gStmt ⟨_,_,rfl,rfl,⟨_,_,rfl,Z0o,⟨_,_,rfl,⟨_,rfl,e0⟩,⟨_,_,rfl,⟨_,rfl,e1⟩,⟨_,_,rfl,⟨_,rfl,e2⟩,⟨_,_,rfl,⟨_,rfl,e3⟩,⟨_,_,rfl,⟨_,rfl,e4⟩,⟨_,_,rfl,⟨_,rfl,e5⟩,⟨_,rfl,e6⟩⟩⟩⟩⟩⟩⟩⟩⟩
theorem Z5q{T:TP}{w:World}{cs:Ab}{x:R5}(h:Q8v.rp T w cs x):∃(a4:OA)(c4:Nat),cs=[.int .i64 x.Pos.Line,.int .i64 x.Pos.Col,.bool x.Default,.int .u32 x.Num,.slice a4 (qQ x.Body) c4]/\SlR Q5t T w (.slice a4 (qQ x.Body) c4) x.Body:=by
 obtain⟨_,_,rfl,E,I⟩:=h;cases Q2y E;obtain⟨_,_,rfl,K,O⟩:=I;cases K;obtain⟨_,_,rfl,U,V⟩:=O;cases U;obtain⟨_,rfl,D⟩:=V;obtain⟨W,k4,rfl⟩:=D.shape;exact⟨W,k4,rfl,D⟩
theorem Y1n{T:TP}{w:World}{x:R5}{a4:OA}{c4:Nat}(e0:SlR Q5t T w (.slice a4 (qQ x.Body) c4) x.Body):Q8v.rp T w [.int .i64 x.Pos.Line,.int .i64 x.Pos.Col,.bool x.Default,.int .u32 x.Num,.slice a4 (qQ x.Body) c4] x:=⟨_,_,rfl,Z0o,⟨_,_,rfl,rfl,⟨_,_,rfl,rfl,⟨_,rfl,e0⟩⟩⟩⟩
def Z1z:Rp L6:=((E7 Y2c (E7 Z4k (E7 L9 (E7 (rSl Q2z) (rSl Q5t)))))).iso fun x=>(x.Pos,x.Ret,x.Name,x.Params,x.Body)
theorem Q8u{T:TP}{w:World}{cs:Ab}{x:L6}(h:Z1z.rp T w cs x):∃(a6:OA)(c6:Nat)(a7:OA)(c7:Nat),cs=[.int .i64 x.Pos.Line,.int .i64 x.Pos.Col,qZs x.Ret.Word,qZs x.Ret.Name,.int .i64 x.Ret.Stars,qZs x.Name,.slice a6 (qQ x.Params) c6,.slice a7 (qQ x.Body) c7]/\SlR Q2z T w (.slice a6 (qQ x.Params) c6) x.Params/\SlR Q5t T w (.slice a7 (qQ x.Body) c7) x.Body:=by
 obtain⟨_,_,rfl,I,K⟩:=h;cases Q2y I;obtain⟨_,_,rfl,O,U⟩:=K;cases Q6v O;obtain⟨_,_,rfl,V,W⟩:=U;cases V;obtain⟨_,_,rfl,f4,g4⟩:=W;obtain⟨_,rfl,D⟩:=f4;obtain⟨b5,k5,rfl⟩:=D.shape;obtain⟨_,rfl,E⟩:=g4;obtain⟨b6,k6,rfl⟩:=E.shape;exact⟨b5,k5,b6,k6,rfl,D,E⟩
theorem Y4x{T:TP}{w:World}{x:L6}{a6 a7:OA}{c6 c7:Nat}(e0:SlR Q2z T w (.slice a6 (qQ x.Params) c6) x.Params)(e1:SlR Q5t T w (.slice a7 (qQ x.Body) c7) x.Body):Z1z.rp T w [.int .i64 x.Pos.Line,.int .i64 x.Pos.Col,qZs x.Ret.Word,qZs x.Ret.Name,.int .i64 x.Ret.Stars,qZs x.Name,.slice a6 (qQ x.Params) c6,.slice a7 (qQ x.Body) c7] x:=⟨_,_,rfl,Z0o,⟨_,_,rfl,Z4f,⟨_,_,rfl,rfl,⟨_,_,rfl,⟨_,rfl,e0⟩,⟨_,rfl,e1⟩⟩⟩⟩⟩
def Y9j:Rp U3:=((E7 (rSl Q8a) (E7 (rSl Q2z) (rSl Z1z)))).iso fun x=>(x.Structs,x.Globals,x.Funcs)
theorem Y0m{T:TP}{w:World}{cs:Ab}{x:U3}(h:Y9j.rp T w cs x):∃(a0:OA)(c0:Nat)(a1:OA)(c1:Nat)(a2:OA)(c2:Nat),cs=[.slice a0 (qQ x.Structs) c0,.slice a1 (qQ x.Globals) c1,.slice a2 (qQ x.Funcs) c2]/\SlR Q8a T w (.slice a0 (qQ x.Structs) c0) x.Structs/\SlR Q2z T w (.slice a1 (qQ x.Globals) c1) x.Globals/\SlR Z1z T w (.slice a2 (qQ x.Funcs) c2) x.Funcs:=by
 obtain⟨_,_,rfl,I,K⟩:=h;obtain⟨_,rfl,s2⟩:=I;obtain⟨O,k2,rfl⟩:=s2.shape;obtain⟨_,_,rfl,U,V⟩:=K;obtain⟨_,rfl,D⟩:=U;obtain⟨W,k4,rfl⟩:=D.shape;obtain⟨_,rfl,E⟩:=V;obtain⟨b5,k5,rfl⟩:=E.shape;exact⟨O,k2,W,k4,b5,k5,rfl,s2,D,E⟩
theorem X0k{T:TP}{w:World}{x:U3}{a0 a1 a2:OA}{c0 c1 c2:Nat}(e0:SlR Q8a T w (.slice a0 (qQ x.Structs) c0) x.Structs)(e1:SlR Q2z T w (.slice a1 (qQ x.Globals) c1) x.Globals)(e2:SlR Z1z T w (.slice a2 (qQ x.Funcs) c2) x.Funcs):Y9j.rp T w [.slice a0 (qQ x.Structs) c0,.slice a1 (qQ x.Globals) c1,.slice a2 (qQ x.Funcs) c2] x:=⟨_,_,rfl,⟨_,rfl,e0⟩,⟨_,_,rfl,⟨_,rfl,e1⟩,⟨_,rfl,e2⟩⟩⟩
def Y5p:Rp M3:=((E7 L9 Y2c)).iso fun x=>(x.s,x.pos)
theorem Z2v{T:TP}{w:World}{cs:Ab}{x:M3}(h:Y5p.rp T w cs x):cs=[qZs x.s,.int .i64 x.pos.Line,.int .i64 x.pos.Col]:=by
 obtain⟨_,_,rfl,D,E⟩:=h;cases D;cases Q2y E;exact rfl
theorem Y7e{T:TP}{w:World}{x:M3}:Y5p.rp T w [qZs x.s,.int .i64 x.pos.Line,.int .i64 x.pos.Col] x:=⟨_,_,rfl,rfl,Z0o⟩
def Q7p:Rp Y8:=((E7 (N1 .i64) (E7 L9 (E7 (N1 .u32) Y2c)))).iso fun x=>(x.Kind,x.Text,x.Num,x.Pos)
theorem Z7s{T:TP}{w:World}{cs:Ab}{x:Y8}(h:Q7p.rp T w cs x):cs=[.int .i64 x.Kind,qZs x.Text,.int .u32 x.Num,.int .i64 x.Pos.Line,.int .i64 x.Pos.Col]:=by
 obtain⟨_,_,rfl,D,E⟩:=h;cases D;obtain⟨_,_,rfl,I,K⟩:=E;cases I;obtain⟨_,_,rfl,O,U⟩:=K;cases O;cases Q2y U;exact rfl
theorem Y7g{T:TP}{w:World}{x:Y8}:Q7p.rp T w [.int .i64 x.Kind,qZs x.Text,.int .u32 x.Num,.int .i64 x.Pos.Line,.int .i64 x.Pos.Col] x:=⟨_,_,rfl,rfl,⟨_,_,rfl,rfl,⟨_,_,rfl,rfl,Z0o⟩⟩⟩
def Y5o:Rp Z0:=((E7 (rSl Q7p) (E7 Y2c (N1 .i64)))).iso fun x=>(x.l,x.end_,x.depth)
theorem Z6p{T:TP}{w:World}{cs:Ab}{x:Z0}(h:Y5o.rp T w cs x):∃(a0:OA)(c0:Nat),cs=[.slice a0 (qQ x.l) c0,.int .i64 x.end_.Line,.int .i64 x.end_.Col,.int .i64 x.depth]/\SlR Q7p T w (.slice a0 (qQ x.l) c0) x.l:=by
 obtain⟨_,_,rfl,D,E⟩:=h;obtain⟨_,rfl,s2⟩:=D;obtain⟨I,k2,rfl⟩:=s2.shape;obtain⟨_,_,rfl,K,O⟩:=E;cases Q2y K;cases O;exact⟨I,k2,rfl,s2⟩
theorem Y7c{T:TP}{w:World}{x:Z0}{a0:OA}{c0:Nat}(e0:SlR Q7p T w (.slice a0 (qQ x.l) c0) x.l):Y5o.rp T w [.slice a0 (qQ x.l) c0,.int .i64 x.end_.Line,.int .i64 x.end_.Col,.int .i64 x.depth] x:=⟨_,_,rfl,⟨_,rfl,e0⟩,⟨_,_,rfl,Z0o,rfl⟩⟩
def Y3x:Rp Z7:=((E7 Y2c (N1 .i64))).iso fun x=>(x.pos,x.e)
theorem Z1x{T:TP}{w:World}{cs:Ab}{x:Z7}(h:Y3x.rp T w cs x):cs=[.int .i64 x.pos.Line,.int .i64 x.pos.Col,.int .i64 x.e]:=by
 obtain⟨_,_,rfl,D,E⟩:=h;cases Q2y D;cases E;exact rfl
theorem Y6a{T:TP}{w:World}{x:Z7}:Y3x.rp T w [.int .i64 x.pos.Line,.int .i64 x.pos.Col,.int .i64 x.e] x:=⟨_,_,rfl,Z0o,rfl⟩
def Q1v:Rp Q9j:=((E7 L9 (E7 (N1 .i64) (E7 (N1 .i64) (N1 .i64))))).iso fun x=>(x.Name,x.Size,x.Align,x.Cell)
theorem Y0l{T:TP}{w:World}{cs:Ab}{x:Q9j}(h:Q1v.rp T w cs x):cs=[qZs x.Name,.int .i64 x.Size,.int .i64 x.Align,.int .i64 x.Cell]:=by
 obtain⟨_,_,rfl,D,E⟩:=h;cases D;obtain⟨_,_,rfl,I,K⟩:=E;cases I;obtain⟨_,_,rfl,O,U⟩:=K;cases O;cases U;exact rfl
theorem Y4w{T:TP}{w:World}{x:Q9j}:Q1v.rp T w [qZs x.Name,.int .i64 x.Size,.int .i64 x.Align,.int .i64 x.Cell] x:=⟨_,_,rfl,rfl,⟨_,_,rfl,rfl,⟨_,_,rfl,rfl,rfl⟩⟩⟩
def FGTerm(r:Rp Y9):Rp Y9:=((E7 (N1 .i64) (E7 (N1 .i64) (E7 (N1 .u32) (E7 (N1 .i64) (E7 Z3x (E7 (N1 .i64) (E7 Z3x (E7 Z3x (rSl r)))))))))).iso fun x=>(x.Kind,x.Fn,x.Num,x.Var,x.Global,x.Size,x.Post,x.Ptr,x.Kids)
def X6:Rp Y9:=rFix FGTerm 9 true (fun _=>rfl)
theorem gGTerm:Z9q FGTerm:=gIso _ (Q3c (gK (N1 .i64)) (Q3c (gK (N1 .i64)) (Q3c (gK (N1 .u32)) (Q3c (gK (N1 .i64)) (Q3c (gK Z3x) (Q3c (gK (N1 .i64)) (Q3c (gK Z3x) (Q3c (gK Z3x) (gSl gId)))))))))
theorem Z1k{T:TP}{w:World}{cs:Ab}{x:Y9}(h:X6.rp T w cs x):∃(a8:OA)(c8:Nat),cs=[.int .i64 x.Kind,.int .i64 x.Fn,.int .u32 x.Num,.int .i64 x.Var,.bool x.Global,.int .i64 x.Size,.bool x.Post,.bool x.Ptr,.slice a8 (qQ x.Kids) c8]/\SlR X6 T w (.slice a8 (qQ x.Kids) c8) x.Kids:=by
 have h:=Y4m gGTerm h;obtain⟨_,_,rfl,E,I⟩:=h;cases E;obtain⟨_,_,rfl,K,O⟩:=I;cases K;obtain⟨_,_,rfl,U,V⟩:=O;cases U;obtain⟨_,_,rfl,W,g4⟩:=V;cases W;obtain⟨_,_,rfl,f5,g5⟩:=g4;cases f5;obtain⟨_,_,rfl,f6,g6⟩:=g5;cases f6;obtain⟨_,_,rfl,f7,g7⟩:=g6;cases f7;obtain⟨_,_,rfl,f8,g8⟩:=g7;cases f8;obtain⟨_,rfl,D⟩:=g8;obtain⟨b9,k9,rfl⟩:=D.shape;exact⟨b9,k9,rfl,D⟩
theorem V9{T:TP}{w:World}{x:Y9}{a8:OA}{c8:Nat}(e0:SlR X6 T w (.slice a8 (qQ x.Kids) c8) x.Kids):X6.rp T w [.int .i64 x.Kind,.int .i64 x.Fn,.int .u32 x.Num,.int .i64 x.Var,.bool x.Global,.int .i64 x.Size,.bool x.Post,.bool x.Ptr,.slice a8 (qQ x.Kids) c8] x:=X1a gGTerm ⟨_,_,rfl,rfl,⟨_,_,rfl,rfl,⟨_,_,rfl,rfl,⟨_,_,rfl,rfl,⟨_,_,rfl,rfl,⟨_,_,rfl,rfl,⟨_,_,rfl,rfl,⟨_,_,rfl,rfl,⟨_,rfl,e0⟩⟩⟩⟩⟩⟩⟩⟩⟩
def X1q(r:Rp K4):Rp Q9k:=((E7 Z3x (E7 (N1 .u32) (rSl r)))).iso fun x=>(x.Default,x.Num,x.Body)
theorem gFChoice:Z9q X1q:=gIso _ (Q3c (gK Z3x) (Q3c (gK (N1 .u32)) (gSl gId)))
def FGAct(r:Rp K4):Rp K4:=((E7 (N1 .i64) (E7 (rSl X6) (E7 (rSl X6) (E7 Z3x (E7 (rSl r) (E7 (rSl r) (E7 (rSl (X1q r)) (N1 .i64))))))))).iso fun x=>(x.Kind,x.A,x.Post,x.First,x.Body,x.Else,x.Cases,x.Var)
def A8:Rp K4:=rFix FGAct 8 true (fun _=>rfl)
theorem gGAct:Z9q FGAct:=gIso _ (Q3c (gK (N1 .i64)) (Q3c (gK (rSl X6)) (Q3c (gK (rSl X6)) (Q3c (gK Z3x) (Q3c (gSl gId) (Q3c (gSl gId) (Q3c (gSl gFChoice) (gK (N1 .i64)))))))))
def Q8m:Rp Q9k:=X1q A8
theorem Z7t{T:TP}{w:World}{cs:Ab}{x:K4}(h:A8.rp T w cs x):∃(a1:OA)(c1:Nat)(a2:OA)(c2:Nat)(a4:OA)(c4:Nat)(a5:OA)(c5:Nat)(a6:OA)(c6:Nat),cs=[.int .i64 x.Kind,.slice a1 (qQ x.A) c1,.slice a2 (qQ x.Post) c2,.bool x.First,.slice a4 (qQ x.Body) c4,.slice a5 (qQ x.Else) c5,.slice a6 (qQ x.Cases) c6,.int .i64 x.Var]/\SlR X6 T w (.slice a1 (qQ x.A) c1) x.A/\SlR X6 T w (.slice a2 (qQ x.Post) c2) x.Post/\SlR A8 T w (.slice a4 (qQ x.Body) c4) x.Body/\SlR A8 T w (.slice a5 (qQ x.Else) c5) x.Else/\SlR Q8m T w (.slice a6 (qQ x.Cases) c6) x.Cases:=by
 have h:=Y4m gGAct h;obtain⟨_,_,rfl,U,V⟩:=h;cases U;obtain⟨_,_,rfl,W,g2⟩:=V;obtain⟨_,rfl,D⟩:=W;obtain⟨b3,k3,rfl⟩:=D.shape;obtain⟨_,_,rfl,f4,g4⟩:=g2;obtain⟨_,rfl,E⟩:=f4;obtain⟨b5,k5,rfl⟩:=E.shape;obtain⟨_,_,rfl,f6,g6⟩:=g4;cases f6;obtain⟨_,_,rfl,f7,g7⟩:=g6;obtain⟨_,rfl,I⟩:=f7;obtain⟨b8,k8,rfl⟩:=I.shape;obtain⟨_,_,rfl,f9,g9⟩:=g7;obtain⟨_,rfl,K⟩:=f9;obtain⟨aq,ar,rfl⟩:=K.shape;obtain⟨_,_,rfl,au,av⟩:=g9;obtain⟨_,rfl,O⟩:=au;obtain⟨aw,ax,rfl⟩:=O.shape;cases av;exact⟨b3,k3,b5,k5,b8,k8,aq,ar,aw,ax,rfl,D,E,I,K,O⟩
theorem Q2r{T:TP}{w:World}{x:K4}{a1 a2 a4 a5 a6:OA}{c1 c2 c4 c5 c6:Nat}(e0:SlR X6 T w (.slice a1 (qQ x.A) c1) x.A)(e1:SlR X6 T w (.slice a2 (qQ x.Post) c2) x.Post)(e2:SlR A8 T w (.slice a4 (qQ x.Body) c4) x.Body)(e3:SlR A8 T w (.slice a5 (qQ x.Else) c5) x.Else)(e4:SlR Q8m T w (.slice a6 (qQ x.Cases) c6) x.Cases):A8.rp T w [.int .i64 x.Kind,.slice a1 (qQ x.A) c1,.slice a2 (qQ x.Post) c2,.bool x.First,.slice a4 (qQ x.Body) c4,.slice a5 (qQ x.Else) c5,.slice a6 (qQ x.Cases) c6,.int .i64 x.Var] x:=X1a gGAct ⟨_,_,rfl,rfl,⟨_,_,rfl,⟨_,rfl,e0⟩,⟨_,_,rfl,⟨_,rfl,e1⟩,⟨_,_,rfl,rfl,⟨_,_,rfl,⟨_,rfl,e2⟩,⟨_,_,rfl,⟨_,rfl,e3⟩,⟨_,_,rfl,⟨_,rfl,e4⟩,rfl⟩⟩⟩⟩⟩⟩⟩
theorem Y3y{T:TP}{w:World}{cs:Ab}{x:Q9k}(h:Q8m.rp T w cs x):∃(a2:OA)(c2:Nat),cs=[.bool x.Default,.int .u32 x.Num,.slice a2 (qQ x.Body) c2]/\SlR A8 T w (.slice a2 (qQ x.Body) c2) x.Body:=by
 obtain⟨_,_,rfl,E,I⟩:=h;cases E;obtain⟨_,_,rfl,K,O⟩:=I;cases K;obtain⟨_,rfl,D⟩:=O;obtain⟨U,V,rfl⟩:=D.shape;exact⟨U,V,rfl,D⟩
theorem Y2z{T:TP}{w:World}{x:Q9k}{a2:OA}{c2:Nat}(e0:SlR A8 T w (.slice a2 (qQ x.Body) c2) x.Body):Q8m.rp T w [.bool x.Default,.int .u32 x.Num,.slice a2 (qQ x.Body) c2] x:=⟨_,_,rfl,rfl,⟨_,_,rfl,rfl,⟨_,rfl,e0⟩⟩⟩
def Q7q:Rp Q5b:=((E7 L9 (E7 Z3x (E7 (N1 .i64) (E7 (rSl Q1v) (rSl A8)))))).iso fun x=>(x.Name,x.Void,x.Params,x.Slots,x.Body)
theorem Z1l{T:TP}{w:World}{cs:Ab}{x:Q5b}(h:Q7q.rp T w cs x):∃(a3:OA)(c3:Nat)(a4:OA)(c4:Nat),cs=[qZs x.Name,.bool x.Void,.int .i64 x.Params,.slice a3 (qQ x.Slots) c3,.slice a4 (qQ x.Body) c4]/\SlR Q1v T w (.slice a3 (qQ x.Slots) c3) x.Slots/\SlR A8 T w (.slice a4 (qQ x.Body) c4) x.Body:=by
 obtain⟨_,_,rfl,I,K⟩:=h;cases I;obtain⟨_,_,rfl,O,U⟩:=K;cases O;obtain⟨_,_,rfl,V,W⟩:=U;cases V;obtain⟨_,_,rfl,f4,g4⟩:=W;obtain⟨_,rfl,D⟩:=f4;obtain⟨b5,k5,rfl⟩:=D.shape;obtain⟨_,rfl,E⟩:=g4;obtain⟨b6,k6,rfl⟩:=E.shape;exact⟨b5,k5,b6,k6,rfl,D,E⟩
theorem Z6q{T:TP}{w:World}{x:Q5b}{a3 a4:OA}{c3 c4:Nat}(e0:SlR Q1v T w (.slice a3 (qQ x.Slots) c3) x.Slots)(e1:SlR A8 T w (.slice a4 (qQ x.Body) c4) x.Body):Q7q.rp T w [qZs x.Name,.bool x.Void,.int .i64 x.Params,.slice a3 (qQ x.Slots) c3,.slice a4 (qQ x.Body) c4] x:=⟨_,_,rfl,rfl,⟨_,_,rfl,rfl,⟨_,_,rfl,rfl,⟨_,_,rfl,⟨_,rfl,e0⟩,⟨_,rfl,e1⟩⟩⟩⟩⟩
def rGUnit:Rp Z4a:=((E7 (rSl Q1v) (E7 (rSl (rSl (N1 .u8))) (E7 (rSl Q7q) (N1 .i64))))).iso fun x=>(x.Globals,x.Data,x.Codes,x.Main)
theorem Y5q{T:TP}{w:World}{cs:Ab}{x:Z4a}(h:rGUnit.rp T w cs x):∃(a0:OA)(c0:Nat)(a1:OA)(c1:Nat)(a2:OA)(c2:Nat),cs=[.slice a0 (qQ x.Globals) c0,.slice a1 (qQ x.Data) c1,.slice a2 (qQ x.Codes) c2,.int .i64 x.Main]/\SlR Q1v T w (.slice a0 (qQ x.Globals) c0) x.Globals/\SlR (rSl (N1 .u8)) T w (.slice a1 (qQ x.Data) c1) x.Data/\SlR Q7q T w (.slice a2 (qQ x.Codes) c2) x.Codes:=by
 obtain⟨_,_,rfl,I,K⟩:=h;obtain⟨_,rfl,s2⟩:=I;obtain⟨O,k2,rfl⟩:=s2.shape;obtain⟨_,_,rfl,U,V⟩:=K;obtain⟨_,rfl,D⟩:=U;obtain⟨W,k4,rfl⟩:=D.shape;obtain⟨_,_,rfl,f5,g5⟩:=V;obtain⟨_,rfl,E⟩:=f5;obtain⟨b6,k6,rfl⟩:=E.shape;cases g5;exact⟨O,k2,W,k4,b6,k6,rfl,s2,D,E⟩
theorem X6q{T:TP}{w:World}{x:Z4a}{a0 a1 a2:OA}{c0 c1 c2:Nat}(e0:SlR Q1v T w (.slice a0 (qQ x.Globals) c0) x.Globals)(e1:SlR (rSl (N1 .u8)) T w (.slice a1 (qQ x.Data) c1) x.Data)(e2:SlR Q7q T w (.slice a2 (qQ x.Codes) c2) x.Codes):rGUnit.rp T w [.slice a0 (qQ x.Globals) c0,.slice a1 (qQ x.Data) c1,.slice a2 (qQ x.Codes) c2,.int .i64 x.Main] x:=⟨_,_,rfl,⟨_,rfl,e0⟩,⟨_,_,rfl,⟨_,rfl,e1⟩,⟨_,_,rfl,⟨_,rfl,e2⟩,rfl⟩⟩⟩
def Q3a:Rp K8:=((E7 L9 (E7 (N1 .i64) (N1 .i64)))).iso fun x=>(x.Name,x.Type_,x.At)
theorem Z4g{T:TP}{w:World}{cs:Ab}{x:K8}(h:Q3a.rp T w cs x):cs=[qZs x.Name,.int .i64 x.Type_,.int .i64 x.At]:=by
 obtain⟨_,_,rfl,D,E⟩:=h;cases D;obtain⟨_,_,rfl,I,K⟩:=E;cases I;cases K;exact rfl
theorem Y2y{T:TP}{w:World}{x:K8}:Q3a.rp T w [qZs x.Name,.int .i64 x.Type_,.int .i64 x.At] x:=⟨_,_,rfl,rfl,⟨_,_,rfl,rfl,rfl⟩⟩
def X4g:Rp Q7d:=((E7 (N1 .i64) (E7 (N1 .i64) (E7 (N1 .i64) (E7 L9 (rSl Q3a)))))).iso fun x=>(x.Kind,x.Elem,x.Len,x.Name,x.Fields)
theorem Y0k{T:TP}{w:World}{cs:Ab}{x:Q7d}(h:X4g.rp T w cs x):∃(a4:OA)(c4:Nat),cs=[.int .i64 x.Kind,.int .i64 x.Elem,.int .i64 x.Len,qZs x.Name,.slice a4 (qQ x.Fields) c4]/\SlR Q3a T w (.slice a4 (qQ x.Fields) c4) x.Fields:=by
 obtain⟨_,_,rfl,E,I⟩:=h;cases E;obtain⟨_,_,rfl,K,O⟩:=I;cases K;obtain⟨_,_,rfl,U,V⟩:=O;cases U;obtain⟨_,_,rfl,W,g4⟩:=V;cases W;obtain⟨_,rfl,D⟩:=g4;obtain⟨b5,k5,rfl⟩:=D.shape;exact⟨b5,k5,rfl,D⟩
theorem Y9i{T:TP}{w:World}{x:Q7d}{a4:OA}{c4:Nat}(e0:SlR Q3a T w (.slice a4 (qQ x.Fields) c4) x.Fields):X4g.rp T w [.int .i64 x.Kind,.int .i64 x.Elem,.int .i64 x.Len,qZs x.Name,.slice a4 (qQ x.Fields) c4] x:=⟨_,_,rfl,rfl,⟨_,_,rfl,rfl,⟨_,_,rfl,rfl,⟨_,_,rfl,rfl,⟨_,rfl,e0⟩⟩⟩⟩⟩
def P6:Rp K3:=((E7 X4g (E7 (N1 .i64) (E7 (N1 .i64) Z3x)))).iso fun x=>(x.Type_,x.size,x.align,x.open_)
theorem L4{T:TP}{w:World}{cs:Ab}{x:K3}(h:P6.rp T w cs x):∃(a4:OA)(c4:Nat),cs=[.int .i64 x.Type_.Kind,.int .i64 x.Type_.Elem,.int .i64 x.Type_.Len,qZs x.Type_.Name,.slice a4 (qQ x.Type_.Fields) c4,.int .i64 x.size,.int .i64 x.align,.bool x.open_]/\SlR Q3a T w (.slice a4 (qQ x.Type_.Fields) c4) x.Type_.Fields:=by
 obtain⟨_,_,rfl,D,E⟩:=h;obtain⟨I,k2,rfl,s2⟩:=Y0k D;obtain⟨_,_,rfl,K,O⟩:=E;cases K;obtain⟨_,_,rfl,U,V⟩:=O;cases U;cases V;exact⟨I,k2,rfl,s2⟩
theorem Q2n{T:TP}{w:World}{x:K3}{a4:OA}{c4:Nat}(e0:SlR Q3a T w (.slice a4 (qQ x.Type_.Fields) c4) x.Type_.Fields):P6.rp T w [.int .i64 x.Type_.Kind,.int .i64 x.Type_.Elem,.int .i64 x.Type_.Len,qZs x.Type_.Name,.slice a4 (qQ x.Type_.Fields) c4,.int .i64 x.size,.int .i64 x.align,.bool x.open_] x:=⟨_,_,rfl,(Y9i e0),⟨_,_,rfl,rfl,⟨_,_,rfl,rfl,rfl⟩⟩⟩
def Y7f:Rp Z9:=((rSl P6)).iso fun x=>x.list
theorem Z8u{T:TP}{w:World}{cs:Ab}{x:Z9}(h:Y7f.rp T w cs x):∃(a0:OA)(c0:Nat),cs=[.slice a0 (qQ x.list) c0]/\SlR P6 T w (.slice a0 (qQ x.list) c0) x.list:=by
 obtain⟨_,rfl,s1⟩:=h;obtain⟨D,k1,rfl⟩:=s1.shape;exact⟨D,k1,rfl,s1⟩
theorem Y8p{T:TP}{w:World}{x:Z9}{a0:OA}{c0:Nat}(e0:SlR P6 T w (.slice a0 (qQ x.list) c0) x.list):Y7f.rp T w [.slice a0 (qQ x.list) c0] x:=⟨_,rfl,e0⟩
def Q4k:Rp H7:=((E7 (N1 .i64) (rSl (N1 .i64)))).iso fun x=>(x.ret,x.params)
theorem Q5j{T:TP}{w:World}{cs:Ab}{x:H7}(h:Q4k.rp T w cs x):∃(a1:OA)(c1:Nat),cs=[.int .i64 x.ret,.slice a1 (qQ x.params) c1]/\SlR (N1 .i64) T w (.slice a1 (qQ x.params) c1) x.params:=by
 obtain⟨_,_,rfl,D,E⟩:=h;cases D;obtain⟨_,rfl,s2⟩:=E;obtain⟨I,k2,rfl⟩:=s2.shape;exact⟨I,k2,rfl,s2⟩
theorem Z6d{T:TP}{w:World}{x:H7}{a1:OA}{c1:Nat}(e0:SlR (N1 .i64) T w (.slice a1 (qQ x.params) c1) x.params):Q4k.rp T w [.int .i64 x.ret,.slice a1 (qQ x.params) c1] x:=⟨_,_,rfl,rfl,⟨_,rfl,e0⟩⟩
def Y5s:Rp Y0:=((E7 (N1 .i64) (E7 X6 Z3x))).iso fun x=>(x.n,x.term,x.lies)
theorem Z6r{T:TP}{w:World}{cs:Ab}{x:Y0}(h:Y5s.rp T w cs x):∃(a9:OA)(c9:Nat),cs=[.int .i64 x.n,.int .i64 x.term.Kind,.int .i64 x.term.Fn,.int .u32 x.term.Num,.int .i64 x.term.Var,.bool x.term.Global,.int .i64 x.term.Size,.bool x.term.Post,.bool x.term.Ptr,.slice a9 (qQ x.term.Kids) c9,.bool x.lies]/\SlR X6 T w (.slice a9 (qQ x.term.Kids) c9) x.term.Kids:=by
 obtain⟨_,_,rfl,D,E⟩:=h;cases D;obtain⟨_,_,rfl,I,K⟩:=E;obtain⟨O,U,rfl,V⟩:=Z1k I;cases K;exact⟨O,U,rfl,V⟩
theorem Y7h{T:TP}{w:World}{x:Y0}{a9:OA}{c9:Nat}(e0:SlR X6 T w (.slice a9 (qQ x.term.Kids) c9) x.term.Kids):Y5s.rp T w [.int .i64 x.n,.int .i64 x.term.Kind,.int .i64 x.term.Fn,.int .u32 x.term.Num,.int .i64 x.term.Var,.bool x.term.Global,.int .i64 x.term.Size,.bool x.term.Post,.bool x.term.Ptr,.slice a9 (qQ x.term.Kids) c9,.bool x.lies] x:=⟨_,_,rfl,rfl,⟨_,_,rfl,(V9 e0),rfl⟩⟩
def Y2m:Rp Z2:=((E7 Y2c (N1 .i64))).iso fun x=>(x.pos,x.e)
theorem Z0x{T:TP}{w:World}{cs:Ab}{x:Z2}(h:Y2m.rp T w cs x):cs=[.int .i64 x.pos.Line,.int .i64 x.pos.Col,.int .i64 x.e]:=by
 obtain⟨_,_,rfl,D,E⟩:=h;cases Q2y D;cases E;exact rfl
theorem Y4y{T:TP}{w:World}{x:Z2}:Y2m.rp T w [.int .i64 x.pos.Line,.int .i64 x.pos.Col,.int .i64 x.e] x:=⟨_,_,rfl,Z0o,rfl⟩
def Y5n:Rp Z8:=((rSl L9)).iso fun x=>x.l
theorem Z6o{T:TP}{w:World}{cs:Ab}{x:Z8}(h:Y5n.rp T w cs x):∃(a0:OA)(c0:Nat),cs=[.slice a0 (qQ x.l) c0]/\SlR L9 T w (.slice a0 (qQ x.l) c0) x.l:=by
 obtain⟨_,rfl,s1⟩:=h;obtain⟨D,k1,rfl⟩:=s1.shape;exact⟨D,k1,rfl,s1⟩
theorem Y7b{T:TP}{w:World}{x:Z8}{a0:OA}{c0:Nat}(e0:SlR L9 T w (.slice a0 (qQ x.l) c0) x.l):Y5n.rp T w [.slice a0 (qQ x.l) c0] x:=⟨_,rfl,e0⟩
def Y2n:En (Option (List ((Aa)×Int))) where
 sz:=1
 A:=fun x cs=>exA fun t:(Option Nat)=>pA (cs=[.map (t)]) (X0 [Y3c Y1f (Value.int .i64) (.map (t)) x])
 len:=fun h=>by obtain⟨t,h,_⟩:=h;subst h;rfl
 one:=fun h c hc=>by obtain⟨t,h,_⟩:=h;subst h;exact(List.all_eq_true (p:=Value.oneCell')).1 rfl c hc
def U8:En (E1) where
 sz:=6
 A:=fun x cs=>exA fun t:(OA)×Nat×Nat×(OA)×Nat×Nat×(OA)×Nat×Nat=>pA (cs=[.int .i64 x.ret,.slice (t.1) (t.2.1) (t.2.2.1),.slice (t.2.2.2.1) (t.2.2.2.2.1) (t.2.2.2.2.2.1),.slice (t.2.2.2.2.2.2.1) (t.2.2.2.2.2.2.2.1) (t.2.2.2.2.2.2.2.2),.int .i64 x.loops,.int .i64 x.breaks]) (X0 [F5 Q1v 47 (.slice (t.1) (t.2.1) (t.2.2.1)) x.slots,F5 (N1 .i64) 3 (.slice (t.2.2.2.1) (t.2.2.2.2.1) (t.2.2.2.2.2.1)) x.types,Z2p Y2n 82 (.slice (t.2.2.2.2.2.2.1) (t.2.2.2.2.2.2.2.1) (t.2.2.2.2.2.2.2.2)) x.scopes])
 len:=fun h=>by obtain⟨t,h,_⟩:=h;subst h;rfl
 one:=fun h c hc=>by obtain⟨t,h,_⟩:=h;subst h;exact(List.all_eq_true (p:=Value.oneCell')).1 rfl c hc
abbrev Z4o(p:U3)(H1:Ab->X1)(a1:OA)(n1:Nat)(c1:Nat)(a2:OA)(n2:Nat)(c2:Nat)(a3:OA)(n3:Nat)(c3:Nat):List X1:=[H1 [.slice a1 n1 c1,.slice a2 n2 c2,.slice a3 n3 c3],F5 Q8a 64 (.slice a1 n1 c1) p.Structs,F5 Q2z 71 (.slice a2 n2 c2) p.Globals,F5 Z1z 75 (.slice a3 n3 c3) p.Funcs]
abbrev X5(p:Q0)(H1 H2:Ab->X1)(b1:Nat)(o1:Nat)(a1:OA)(n1:Nat)(c1:Nat)(a2:OA)(n2:Nat)(c2:Nat)(a3:OA)(n3:Nat)(c3:Nat)(a4:OA)(n4:Nat)(c4:Nat)(r1:Option Nat)(r2:Option Nat)(a5:OA)(n5:Nat)(c5:Nat)(a6:OA)(n6:Nat)(c6:Nat)(pv1:Value):List X1:=[H1 [.pointer (some ⟨b1,o1,none⟩),.slice a2 n2 c2,.slice a3 n3 c3,.slice a4 n4 c4,.int .i64 p.u.Main,.map r1,.map r2,.slice a5 n5 c5,.slice a6 n6 c6,pv1],H2 [.slice a1 n1 c1],F5 P6 125 (.slice a1 n1 c1) p.t.list,F5 Q1v 47 (.slice a2 n2 c2) p.u.Globals,F5 (rSl (N1 .u8)) 93 (.slice a3 n3 c3) p.u.Data,F5 Q7q 45 (.slice a4 n4 c4) p.u.Codes,Y3c Y1f (Value.int .i64) (.map r1) p.globals,Y3c Y1f (Value.int .i64) (.map r2) p.codes,F5 (N1 .i64) 3 (.slice a5 n5 c5) p.gtypes,F5 Q4k 173 (.slice a6 n6 c6) p.signs]
abbrev Z5e(p:E1)(H1:Ab->X1)(a1:OA)(n1:Nat)(c1:Nat)(a2:OA)(n2:Nat)(c2:Nat)(a3:OA)(n3:Nat)(c3:Nat):List X1:=[H1 [.int .i64 p.ret,.slice a1 n1 c1,.slice a2 n2 c2,.slice a3 n3 c3,.int .i64 p.loops,.int .i64 p.breaks],F5 Q1v 47 (.slice a1 n1 c1) p.slots,F5 (N1 .i64) 3 (.slice a2 n2 c2) p.types,Z2p Y2n 82 (.slice a3 n3 c3) p.scopes]
theorem mC{α:Type}{r:Rp α}{T T':TP}{w w':World}{v:Value}{l:List α}(h:SlR r T w v l)(i:Im T w T' w':=by exact ch):SlR r T' w' v l:=h.mono i
theorem eN{f:FuncId}{fn:Func}{cd:Code}{args:Ab}{w:World}{R:Ending->World->Prop}{m:Nat}(hf:Tryz.prog.funcs[f]?=some fn)(hm:fn.ntmps=m)(h:∀J,cd.wp Tryz.prog (bodyPost Tryz.prog fn R) (env (nf m) J (Y3i 0 args)) w)(hb:fn.body=some cd:=by exact rfl)(hl:Nat.ble args.length m=true:=by exact rfl):Calls Tryz.prog f args.toArray w R:=enter hf hb hm hl h
theorem Sep.sN{g w:World}{T:TP}{L:List X1}(h:Sep g T w L)(a n:Nat)(hx:Y4i (J8 L) (Z4 a n)=true:=by exact rfl):Sep g T w (Z6c L (Z4 a n)):=h.sel _ hx
theorem Sep.sE{g w:World}{T:TP}{L:List X1}(h:Sep g T w L)(ix:List Nat)(hx:Y4i (J8 L) ix=true:=by exact rfl):Sep g T w (Z6c L ix):=h.sel ix hx
theorem Sep.bE{g w:World}{T:TP}{L:List X1}(h:Sep g T w L)(rest ix:List Nat)(hx:Y4i (J8 L) (ix++rest)=true:=by exact rfl):Sep g T w (X0 (Z6c L rest)::Z6c L ix):=h.bun rest ix hx
abbrev Cl:=Calls Tryz.prog
abbrev CF(n:Nat):=Z2m Tryz.prog n
theorem cfm{n:Nat}{fn:Func}(h:Tryz.prog.funcs[n]?=some fn)(a:(fn.name== "runtime.NumGoroutine")=false:=by kernel_rfl)(b:fn.body.isNone=false:=by kernel_rfl):CF n:=⟨fn,h,a,b⟩
abbrev Ct(n:Nat){C:Prop}(_:C):=Ctr Tryz.prog n C
theorem cf4:CF 4:=cfm func4
theorem cf5:CF 5:=cfm func5
theorem cf6:CF 6:=cfm func6
theorem cf7:CF 7:=cfm func7
theorem cf8:CF 8:=cfm func8
theorem cf9:CF 9:=cfm func9
theorem cf10:CF 10:=cfm func10
theorem Q2q:CF 11:=cfm func11
theorem cf12:CF 12:=cfm func12
theorem cf13:CF 13:=cfm func13
theorem cf14:CF 14:=cfm func14
theorem cf15:CF 15:=cfm func15
theorem cf16:CF 16:=cfm func16
theorem cf17:CF 17:=cfm func17
theorem cf18:CF 18:=cfm func18
theorem cf19:CF 19:=cfm func19
theorem cf20:CF 20:=cfm func20
theorem cf21:CF 21:=cfm func21
theorem cf22:CF 22:=cfm func22
theorem cf23:CF 23:=cfm func23
theorem cf24:CF 24:=cfm func24
theorem cf25:CF 25:=cfm func25
theorem cf26:CF 26:=cfm func26
theorem cf27:CF 27:=cfm func27
theorem cf31:CF 31:=cfm func31
theorem cf32:CF 32:=cfm func32
theorem cf33:CF 33:=cfm func33
theorem cf34:CF 34:=cfm func34
theorem cf35:CF 35:=cfm func35
theorem cf36:CF 36:=cfm func36
theorem cf37:CF 37:=cfm func37
theorem cf38:CF 38:=cfm func38
theorem cf39:CF 39:=cfm func39
theorem cf40:CF 40:=cfm func40
theorem cf41:CF 41:=cfm func41
theorem cf42:CF 42:=cfm func42
theorem cf43:CF 43:=cfm func43
theorem cf44:CF 44:=cfm func44
theorem cf45:CF 45:=cfm func45
theorem cf46:CF 46:=cfm func46
theorem cf47:CF 47:=cfm func47
theorem cf48:CF 48:=cfm func48
theorem cf49:CF 49:=cfm func49
theorem cf50:CF 50:=cfm func50
theorem cf51:CF 51:=cfm func51
theorem Z6h:CF 52:=cfm func52
theorem cf53:CF 53:=cfm func53
theorem cf54:CF 54:=cfm func54
theorem cf55:CF 55:=cfm func55
theorem cf56:CF 56:=cfm func56
theorem cf57:CF 57:=cfm func57
theorem cf58:CF 58:=cfm func58
theorem cf59:CF 59:=cfm func59
theorem cf60:CF 60:=cfm func60
theorem cf61:CF 61:=cfm func61
theorem cf62:CF 62:=cfm func62
theorem cf63:CF 63:=cfm func63
theorem cf66:CF 66:=cfm func66
theorem cf67:CF 67:=cfm func67
theorem cf68:CF 68:=cfm func68
theorem cf69:CF 69:=cfm func69
theorem cf70:CF 70:=cfm func70
theorem cf71:CF 71:=cfm func71
theorem cf72:CF 72:=cfm func72
theorem cf73:CF 73:=cfm func73
theorem cf74:CF 74:=cfm func74
theorem cf75:CF 75:=cfm func75
theorem Y5g:CF 76:=cfm func76
theorem cf77:CF 77:=cfm func77
theorem cf78:CF 78:=cfm func78
theorem cf79:CF 79:=cfm func79
theorem cf81:CF 81:=cfm func81
theorem cf82:CF 82:=cfm func82
theorem Z4j:CF 83:=cfm func83
theorem cf84:CF 84:=cfm func84
theorem cf85:CF 85:=cfm func85
theorem cf86:CF 86:=cfm func86
theorem cf87:CF 87:=cfm func87
theorem Y3g:CF 88:=cfm func88
theorem cf89:CF 89:=cfm func89
theorem cf91:CF 91:=cfm func91
theorem cf92:CF 92:=cfm func92
theorem cf95:CF 95:=cfm func95
theorem cf96:CF 96:=cfm func96
theorem cf97:CF 97:=cfm func97
theorem cf98:CF 98:=cfm func98
theorem cf99:CF 99:=cfm func99
theorem cf100:CF 100:=cfm func100
theorem cf101:CF 101:=cfm func101
theorem cf102:CF 102:=cfm func102
theorem Q9z:CF 103:=cfm func103
theorem cf104:CF 104:=cfm func104
theorem cf105:CF 105:=cfm func105
theorem Z3y:CF 106:=cfm func106
theorem I6:CF 107:=cfm func107
theorem Y2r:CF 108:=cfm func108
theorem cf109:CF 109:=cfm func109
theorem cf110:CF 110:=cfm func110
theorem cf111:CF 111:=cfm func111
theorem cf112:CF 112:=cfm func112
theorem cf113:CF 113:=cfm func113
theorem X3h:CF 118:=cfm func118
theorem cf119:CF 119:=cfm func119
theorem cf120:CF 120:=cfm func120
theorem Y9v:CF 121:=cfm func121
theorem Y8f:CF 122:=cfm func122
theorem cf123:CF 123:=cfm func123
theorem X3g:CF 124:=cfm func124
theorem X3f:CF 125:=cfm func125
theorem cf126:CF 126:=cfm func126
theorem cf127:CF 127:=cfm func127
theorem cf128:CF 128:=cfm func128
theorem cf133:CF 133:=cfm func133
theorem cf134:CF 134:=cfm func134
theorem cf135:CF 135:=cfm func135
theorem Y8e:CF 136:=cfm func136
theorem cf137:CF 137:=cfm func137
theorem cf138:CF 138:=cfm func138
theorem cf139:CF 139:=cfm func139
theorem cf140:CF 140:=cfm func140
theorem Y9u:CF 141:=cfm func141
theorem Q2f:CF 142:=cfm func142
theorem Y9t:CF 143:=cfm func143
theorem X3e:CF 144:=cfm func144
theorem cf145:CF 145:=cfm func145
theorem Y9s:CF 146:=cfm func146
theorem cf147:CF 147:=cfm func147
theorem cf148:CF 148:=cfm func148
theorem cf149:CF 149:=cfm func149
theorem cf150:CF 150:=cfm func150
theorem cf151:CF 151:=cfm func151
theorem Y5y:CF 152:=cfm func152
theorem cf153:CF 153:=cfm func153
theorem cf154:CF 154:=cfm func154
theorem cf155:CF 155:=cfm func155
theorem cf156:CF 156:=cfm func156
theorem Q1s:CF 159:=cfm func159
theorem cf160:CF 160:=cfm func160
theorem cf166:CF 166:=cfm func166
theorem cf167:CF 167:=cfm func167
theorem cf168:CF 168:=cfm func168
theorem cf169:CF 169:=cfm func169
theorem cf170:CF 170:=cfm func170
theorem cf171:CF 171:=cfm func171
theorem cf172:CF 172:=cfm func172
theorem cf173:CF 173:=cfm func173
theorem cf174:CF 174:=cfm func174
theorem cf175:CF 175:=cfm func175
theorem Y9r:CF 176:=cfm func176
theorem cf177:CF 177:=cfm func177
theorem cf178:CF 178:=cfm func178
theorem cf179:CF 179:=cfm func179
theorem cf180:CF 180:=cfm func180
theorem cf181:CF 181:=cfm func181
theorem cf182:CF 182:=cfm func182
theorem Y5x:CF 183:=cfm func183
theorem X3d:CF 184:=cfm func184
theorem cf185:CF 185:=cfm func185
theorem cf186:CF 186:=cfm func186
theorem cf189:CF 189:=cfm func189
theorem cf190:CF 190:=cfm func190
theorem cf191:CF 191:=cfm func191
theorem cf192:CF 192:=cfm func192
theorem cf193:CF 193:=cfm func193
theorem cf194:CF 194:=cfm func194
theorem cf195:CF 195:=cfm func195
theorem cf196:CF 196:=cfm func196
theorem cf197:CF 197:=cfm func197
theorem cf198:CF 198:=cfm func198
theorem cf199:CF 199:=cfm func199
theorem cf200:CF 200:=cfm func200
theorem cf201:CF 201:=cfm func201
theorem cf202:CF 202:=cfm func202
theorem cf203:CF 203:=cfm func203
theorem cf204:CF 204:=cfm func204
theorem cf205:CF 205:=cfm func205
theorem cf206:CF 206:=cfm func206
theorem cf207:CF 207:=cfm func207
theorem cf208:CF 208:=cfm func208
theorem cf209:CF 209:=cfm func209
theorem cf210:CF 210:=cfm func210
theorem cf211:CF 211:=cfm func211
theorem cf212:CF 212:=cfm func212
theorem el3:Q1g Tryz.prog 3 1:=⟨by kernel_rfl,by decide⟩
theorem el5:Q1g Tryz.prog 5 1:=⟨by kernel_rfl,by decide⟩
theorem el9:Q1g Tryz.prog 9 1:=⟨by kernel_rfl,by decide⟩
theorem el45:Q1g Tryz.prog 45 5:=⟨by kernel_rfl,by decide⟩
theorem el47:Q1g Tryz.prog 47 4:=⟨by kernel_rfl,by decide⟩
theorem el64:Q1g Tryz.prog 64 4:=⟨by kernel_rfl,by decide⟩
theorem el71:Q1g Tryz.prog 71 9:=⟨by kernel_rfl,by decide⟩
theorem el75:Q1g Tryz.prog 75 8:=⟨by kernel_rfl,by decide⟩
theorem el82:Q1g Tryz.prog 82 1:=⟨by kernel_rfl,by decide⟩
theorem el93:Q1g Tryz.prog 93 1:=⟨by kernel_rfl,by decide⟩
theorem el100:Q1g Tryz.prog 100 1:=⟨by kernel_rfl,by decide⟩
theorem el102:Q1g Tryz.prog 102 5:=⟨by kernel_rfl,by decide⟩
theorem el111:Q1g Tryz.prog 111 10:=⟨by kernel_rfl,by decide⟩
theorem el125:Q1g Tryz.prog 125 8:=⟨by kernel_rfl,by decide⟩
theorem el136:Q1g Tryz.prog 136 8:=⟨by kernel_rfl,by decide⟩
theorem el139:Q1g Tryz.prog 139 3:=⟨by kernel_rfl,by decide⟩
theorem el155:Q1g Tryz.prog 155 10:=⟨by kernel_rfl,by decide⟩
theorem el165:Q1g Tryz.prog 165 3:=⟨by kernel_rfl,by decide⟩
theorem el173:Q1g Tryz.prog 173 2:=⟨by kernel_rfl,by decide⟩
theorem el181:Q1g Tryz.prog 181 9:=⟨by kernel_rfl,by decide⟩
theorem el193:Q1g Tryz.prog 193 5:=⟨by kernel_rfl,by decide⟩
theorem mix:Tryz.prog.follows .mixedOrders=true:=by kernel_rfl
attribute [local irreducible] H8 Q1o execOp Program.underlying sizeOf isAgg zeroValue
/-! Steps that find by themselves what they need. -/
theorem tyU{t:TypeId}{d:TypeDesc}(h:Tryz.prog.underlying t=some d:=by first|exact Tryz.underlying69|exact Tryz.underlying48|exact Tryz.underlying155|exact Tryz.underlying53|exact Tryz.underlying209|exact Tryz.underlying87|exact Tryz.underlying24|exact Tryz.underlying133|exact Tryz.underlying111|exact Tryz.underlying9|exact Tryz.underlying109|exact Tryz.underlying60|exact Tryz.underlying181|exact Tryz.underlying71|exact Tryz.underlying83|exact Tryz.underlying73|exact Tryz.underlying84|exact Tryz.underlying25|exact Tryz.underlying177|exact Tryz.underlying126|exact Tryz.underlying136|exact Tryz.underlying43|exact Tryz.underlying123|exact Tryz.underlying38|exact Tryz.underlying121|exact Tryz.underlying75|exact Tryz.underlying100|exact Tryz.underlying23|exact Tryz.underlying36|exact Tryz.underlying34|exact Tryz.underlying193|exact Tryz.underlying125|exact Tryz.underlying27|exact Tryz.underlying128|exact Tryz.underlying102|exact Tryz.underlying82|exact Tryz.underlying97|exact Tryz.underlying93|exact Tryz.underlying165|exact Tryz.underlying5|exact Tryz.underlying173|exact Tryz.underlying45|exact Tryz.underlying21|exact Tryz.underlying67|exact Tryz.underlying134|exact Tryz.underlying68|exact Tryz.underlying175|exact Tryz.underlying35|exact Tryz.underlying64|exact Tryz.underlying80|exact Tryz.underlying4|exact Tryz.underlying47|exact Tryz.underlying153|exact Tryz.underlying3|exact Tryz.underlying2|exact Tryz.underlying139|exact Tryz.underlying29|exact Tryz.underlying58|exact Tryz.underlying91|exact Tryz.underlying259|exact Tryz.underlying62|exact Tryz.underlying54|exact Tryz.underlying85|exact Tryz.underlying88|exact Tryz.underlying185):Tryz.prog.underlying t=some d:=h
theorem tyS{t:TypeId}{z:Nat}(h:∀w,(sizeOf t).run Tryz.prog w= .ok z w:=by first|exact Tryz.sizeOf155|exact Tryz.sizeOf3|exact Tryz.sizeOf209|exact Tryz.sizeOf181|exact Tryz.sizeOf29|exact Tryz.sizeOf102|exact Tryz.sizeOf136|exact Tryz.sizeOf71|exact Tryz.sizeOf111|exact Tryz.sizeOf193|exact Tryz.sizeOf9|exact Tryz.sizeOf69|exact Tryz.sizeOf75|exact Tryz.sizeOf173|exact Tryz.sizeOf88|exact Tryz.sizeOf45|exact Tryz.sizeOf165|exact Tryz.sizeOf4|exact Tryz.sizeOf73|exact Tryz.sizeOf80|exact Tryz.sizeOf67|exact Tryz.sizeOf100|exact Tryz.sizeOf123|exact Tryz.sizeOf64|exact Tryz.sizeOf27|exact Tryz.sizeOf125|exact Tryz.sizeOf133|exact Tryz.sizeOf48|exact Tryz.sizeOf38|exact Tryz.sizeOf43|exact Tryz.sizeOf24|exact Tryz.sizeOf139|exact Tryz.sizeOf85|exact Tryz.sizeOf126|exact Tryz.sizeOf47|exact Tryz.sizeOf83|exact Tryz.sizeOf34|exact Tryz.sizeOf36|exact Tryz.sizeOf82|exact Tryz.sizeOf5|exact Tryz.sizeOf175|exact Tryz.sizeOf84|exact Tryz.sizeOf134|exact Tryz.sizeOf25|exact Tryz.sizeOf35|exact Tryz.sizeOf68|exact Tryz.sizeOf54|exact Tryz.sizeOf121|exact Tryz.sizeOf23|exact Tryz.sizeOf93|exact Tryz.sizeOf91|exact Tryz.sizeOf109|exact Tryz.sizeOf60|exact Tryz.sizeOf185|exact Tryz.sizeOf30|exact Tryz.sizeOf58):∀w,(sizeOf t).run Tryz.prog w= .ok z w:=h
theorem tyA{t:TypeId}{z:Bool}(h:∀w,(isAgg t).run Tryz.prog w= .ok z w:=by first|exact Tryz.isAgg155|exact Tryz.isAgg3|exact Tryz.isAgg209|exact Tryz.isAgg136|exact Tryz.isAgg29|exact Tryz.isAgg181|exact Tryz.isAgg111|exact Tryz.isAgg69|exact Tryz.isAgg71|exact Tryz.isAgg193|exact Tryz.isAgg102|exact Tryz.isAgg80|exact Tryz.isAgg9|exact Tryz.isAgg88|exact Tryz.isAgg51|exact Tryz.isAgg4|exact Tryz.isAgg79|exact Tryz.isAgg100|exact Tryz.isAgg75|exact Tryz.isAgg67|exact Tryz.isAgg36|exact Tryz.isAgg133|exact Tryz.isAgg45|exact Tryz.isAgg27|exact Tryz.isAgg73|exact Tryz.isAgg165|exact Tryz.isAgg134|exact Tryz.isAgg48|exact Tryz.isAgg24|exact Tryz.isAgg85|exact Tryz.isAgg126|exact Tryz.isAgg43|exact Tryz.isAgg34|exact Tryz.isAgg173|exact Tryz.isAgg82|exact Tryz.isAgg139|exact Tryz.isAgg83|exact Tryz.isAgg84|exact Tryz.isAgg38|exact Tryz.isAgg25|exact Tryz.isAgg35|exact Tryz.isAgg64|exact Tryz.isAgg123|exact Tryz.isAgg175|exact Tryz.isAgg30|exact Tryz.isAgg125|exact Tryz.isAgg5|exact Tryz.isAgg23|exact Tryz.isAgg54|exact Tryz.isAgg68|exact Tryz.isAgg121|exact Tryz.isAgg109|exact Tryz.isAgg60|exact Tryz.isAgg93|exact Tryz.isAgg185|exact Tryz.isAgg47):∀w,(isAgg t).run Tryz.prog w= .ok z w:=h
theorem tyZ{t:TypeId}{z:Value}(h:∀w,(zeroValue t).run Tryz.prog w= .ok z w:=by first|exact Tryz.zeroValue181|exact Tryz.zeroValue209|exact Tryz.zeroValue155|exact Tryz.zeroValue9|exact Tryz.zeroValue136|exact Tryz.zeroValue71|exact Tryz.zeroValue3|exact Tryz.zeroValue29|exact Tryz.zeroValue123|exact Tryz.zeroValue75|exact Tryz.zeroValue111|exact Tryz.zeroValue102|exact Tryz.zeroValue45|exact Tryz.zeroValue64|exact Tryz.zeroValue27|exact Tryz.zeroValue193|exact Tryz.zeroValue165|exact Tryz.zeroValue139|exact Tryz.zeroValue173|exact Tryz.zeroValue91|exact Tryz.zeroValue67|exact Tryz.zeroValue38|exact Tryz.zeroValue125|exact Tryz.zeroValue47|exact Tryz.zeroValue82|exact Tryz.zeroValue185|exact Tryz.zeroValue100|exact Tryz.zeroValue54|exact Tryz.zeroValue58|exact Tryz.zeroValue5|exact Tryz.zeroValue93|exact Tryz.zeroValue43|exact Tryz.zeroValue4|exact Tryz.zeroValue88):∀w,(zeroValue t).run Tryz.prog w= .ok z w:=h
theorem opnS{α:Type}{r:Rp α}{T:TP}{w:World}{u:α}{cs:Ab}(h:∀c0,r.rp T w c0 u->c0=cs:=by first|exact fun _ h=>h|exact fun _ h=>Q2y h|exact fun _ h=>Q6v h|exact fun _ h=>Z2v h|exact fun _ h=>Z7s h|exact fun _ h=>Z1x h|exact fun _ h=>Y0l h|exact fun _ h=>Z4g h|exact fun _ h=>Z0x h):∀c0,r.rp T w c0 u->c0=cs:=h
theorem lsS{α:Type}{x y:List α}(h:x=y:=by first|exact(rfl:_=[_])|exact(rfl:_=[_,_])|exact(rfl:_=[_,_,_])|exact(rfl:_=[_,_,_,_])|exact(rfl:_=[_,_,_,_,_])|exact(rfl:_=[_,_,_,_,_,_])|exact(rfl:_=[_,_,_,_,_,_,_])|exact(rfl:_=[_,_,_,_,_,_,_,_])|exact(rfl:_=[_,_,_,_,_,_,_,_,_])|exact(rfl:_=[_,_,_,_,_,_,_,_,_,_])|exact(rfl:_=[_,_,_,_,_,_,_,_,_,_,_])|exact(rfl:_=[_,_,_,_,_,_,_,_,_,_,_,_])|exact(rfl:_=[_,_,_,_,_,_,_,_,_,_,_,_,_])|exact(rfl:_=[_,_,_,_,_,_,_,_,_,_,_,_,_,_])|exact(rfl:_=[_,_,_,_,_,_,_,_,_,_,_,_,_,_,_])|exact(rfl:_=[_,_,_,_,_,_,_,_,_,_,_,_,_,_,_,_])|exact(rfl:_=[_,_,_,_,_,_,_,_,_,_,_,_,_,_,_,_,_])):x=y:=h
theorem lsZ{α:Type}{x y:List α}(h:x=y:=by first|exact(rfl:_=[])|exact(rfl:_=[_])|exact(rfl:_=[_,_])|exact(rfl:_=[_,_,_])|exact(rfl:_=[_,_,_,_])|exact(rfl:_=[_,_,_,_,_])|exact(rfl:_=[_,_,_,_,_,_])|exact(rfl:_=[_,_,_,_,_,_,_])|exact(rfl:_=[_,_,_,_,_,_,_,_])|exact(rfl:_=[_,_,_,_,_,_,_,_,_])|exact(rfl:_=[_,_,_,_,_,_,_,_,_,_])|exact(rfl:_=[_,_,_,_,_,_,_,_,_,_,_])|exact(rfl:_=[_,_,_,_,_,_,_,_,_,_,_,_])|exact(rfl:_=[_,_,_,_,_,_,_,_,_,_,_,_,_])|exact(rfl:_=[_,_,_,_,_,_,_,_,_,_,_,_,_,_])|exact(rfl:_=[_,_,_,_,_,_,_,_,_,_,_,_,_,_,_])):x=y:=h
theorem Ai{x y:Value}(h:x=y:=by first|exact(rfl:_=Value.int _ _)|exact(rfl:_=Value.bool _)|exact(rfl:_=Value.slice _ _ _)|exact(rfl:_=Value.pointer _)|exact(rfl:_=Value.string _)|exact(rfl:_=Value.agg _)|exact(rfl:_=Value.func _ _ _)|exact(rfl:_=Value.tuple _)|exact(rfl:_=Value.map _)):x=y:=h
theorem opv{P:Program}{n:NF}{J:Nat->Value}{L:List (Nat×Value)}{w:World}{o:Oper}{v:Value}(h:(execOp (ev n J L) o).run P w= .ok (.value v) w:=by
 first|((with_reducible apply Z3v);exact Ai)|((with_reducible apply r_zx);exact Ai)|((with_reducible apply r_ib);exact rfl;exact rfl;exact rfl)|((with_reducible apply r_faP);exact rfl;exact tyU;exact rfl;exact tyS;exact rfl)|((with_reducible apply Y2x);exact rfl;exact tyU;exact rfl;exact tyS;exact rfl)|((with_reducible apply Y0i);exact rfl;exact tyA;(first|exact Sep.cell0 (by assumption) atS (by exact rfl)|exact cellsAt.get (by assumption) (by exact rfl)|exact cellsAt.get0 (by assumption) (by exact rfl)|exact elG Y5z (by assumption) (by exact rfl) opnS (by exact rfl)|exact elG0 Y5z (by assumption) (by exact rfl) opnS (by exact rfl)|exact Sep.cellL (by assumption) (by assumption) atS (by exact rfl)|exact Sep.cellL0 (by assumption) (by assumption) atS (by exact rfl)|exact cellsAt.get (cellsAt.sameT (by assumption) (by assumption) ch) (by exact rfl)|exact cellsAt.get0 (cellsAt.sameT (by assumption) (by assumption) ch) (by exact rfl)))|((with_reducible apply Y2l);exact rfl;(first|assumption|exact rfl);exact rfl)|((with_reducible apply Y2k);exact rfl;(first|assumption|exact rfl);exact rfl)|((with_reducible apply r_ex0);exact rfl)|((with_reducible apply r_ex1);exact rfl)|((with_reducible apply r_ex2);exact rfl)|((with_reducible apply r_ex3);exact rfl)|((with_reducible apply r_ixc);exact rfl;exact rfl;exact tyU;exact tyS;exact Y5z;exact rfl;assumption)|((with_reducible apply r_ixf);assumption;exact rfl;exact tyU;exact tyS;assumption;assumption;assumption)|((with_reducible apply r_ixv);assumption;assumption;exact atS;exact rfl;exact rfl;exact tyU;exact tyS;exact rfl;assumption)|((with_reducible apply r_ldE);exact rfl;exact tyA;exact tyS;(first|assumption|exact Sep.cellsA (by assumption) atS|exact elS Y5z (by assumption) (by exact rfl) opnS|exact Sep.cellsP (by assumption) (by assumption) atS|exact cellsAt.sameT (by assumption) (by assumption) ch);exact rfl)|((with_reducible apply r_ldP);exact rfl;exact tyA;exact tyS;assumption;exact atS;exact lsS;exact rfl)|((with_reducible apply r_cv);exact rfl;exact tyU;exact tyU)|((with_reducible apply r_lnt);exact rfl;exact tyU)|((with_reducible apply r_lnW);exact rfl;exact tyU;exact Y5z)|((with_reducible apply r_lnN);assumption;exact atS;exact rfl;exact tyU)|((with_reducible apply r_ln);exact rfl;exact tyU)|((with_reducible apply r_sqL);exact rfl;exact rfl)|((with_reducible apply r_snL);exact rfl;exact rfl)|((with_reducible apply r_nt);exact rfl)|((with_reducible apply r_nc);exact rfl)|((with_reducible apply r_ng);exact rfl)|((with_reducible apply r_cm);exact rfl)|((with_reducible apply X4f);exact rfl;exact rfl;decide)|((with_reducible apply X0j);exact rfl;exact rfl;decide)|((with_reducible apply r_irm);exact rfl;exact rfl;decide)|((with_reducible apply r_iq);exact rfl;exact rfl;decide)):(execOp (ev n J L) o).run P w= .ok (.value v) w:=h
theorem opq{P:Program}{n:NF}{J:Nat->Value}{L:List (Nat×Value)}{w:World}{o:Oper}{v:Value}(h:(execOp (ev n J L) o).run P w= .ok (.value v) w:=by
 first|((with_reducible apply Z3v);exact Ai)|((with_reducible apply r_zx);exact Ai)|((with_reducible apply r_ib);exact rfl;exact rfl;exact rfl)|((with_reducible apply r_faP);exact rfl;exact tyU;exact rfl;exact tyS;exact rfl)|((with_reducible apply Y2x);exact rfl;exact tyU;exact rfl;exact tyS;exact rfl)|((with_reducible apply Y0i);exact rfl;exact tyA;(apply QC.cell;assumption;(first|exact Sep.cell0 (by assumption) atS (by exact rfl)|exact cellsAt.get (by assumption) (by exact rfl)|exact cellsAt.get0 (by assumption) (by exact rfl)|exact elG Y5z (by assumption) (by exact rfl) opnS (by exact rfl)|exact elG0 Y5z (by assumption) (by exact rfl) opnS (by exact rfl)|exact Sep.cellL (by assumption) (by assumption) atS (by exact rfl)|exact Sep.cellL0 (by assumption) (by assumption) atS (by exact rfl)|exact cellsAt.get (cellsAt.sameT (by assumption) (by assumption) ch) (by exact rfl)|exact cellsAt.get0 (cellsAt.sameT (by assumption) (by assumption) ch) (by exact rfl))))|((with_reducible apply Y2l);exact rfl;(first|assumption|exact rfl);exact rfl)|((with_reducible apply Y2k);exact rfl;(first|assumption|exact rfl);exact rfl)|((with_reducible apply r_ex0);exact rfl)|((with_reducible apply r_ex1);exact rfl)|((with_reducible apply r_ex2);exact rfl)|((with_reducible apply r_ex3);exact rfl)|((with_reducible apply r_ixc);exact rfl;exact rfl;exact tyU;exact tyS;exact Y5z;exact rfl;assumption)|((with_reducible apply r_ixf);assumption;exact rfl;exact tyU;exact tyS;assumption;assumption;assumption)|((with_reducible apply r_ixv);assumption;assumption;exact atS;exact rfl;exact rfl;exact tyU;exact tyS;exact rfl;assumption)|((with_reducible apply r_ldE);exact rfl;exact tyA;exact tyS;(apply QC.cellsAt;assumption;(first|assumption|exact Sep.cellsA (by assumption) atS|exact elS Y5z (by assumption) (by exact rfl) opnS|exact Sep.cellsP (by assumption) (by assumption) atS|exact cellsAt.sameT (by assumption) (by assumption) ch));exact rfl)|((with_reducible apply r_ldP);exact rfl;exact tyA;exact tyS;assumption;exact atS;exact lsS;exact rfl)|((with_reducible apply r_cv);exact rfl;exact tyU;exact tyU)|((with_reducible apply r_lnt);exact rfl;exact tyU)|((with_reducible apply r_lnW);exact rfl;exact tyU;exact Y5z)|((with_reducible apply r_lnN);assumption;exact atS;exact rfl;exact tyU)|((with_reducible apply r_ln);exact rfl;exact tyU)|((with_reducible apply r_sqL);exact rfl;exact rfl)|((with_reducible apply r_snL);exact rfl;exact rfl)|((with_reducible apply r_nt);exact rfl)|((with_reducible apply r_nc);exact rfl)|((with_reducible apply r_ng);exact rfl)|((with_reducible apply r_cm);exact rfl)|((with_reducible apply X4f);exact rfl;exact rfl;decide)|((with_reducible apply X0j);exact rfl;exact rfl;decide)|((with_reducible apply r_irm);exact rfl;exact rfl;decide)|((with_reducible apply r_iq);exact rfl;exact rfl;decide)):(execOp (ev n J L) o).run P w= .ok (.value v) w:=h
theorem gwS{l:Ah}{n:NF}{J:Nat->Value}{L:List (Nat×Value)}{gd:Option (Nat×Bool)}(h:Wt l n J L gd:=by first|exact qZt|exact⟨_,rfl,congrArg Value.bool (by assumption)⟩|exact⟨_,rfl,rfl⟩):Wt l n J L gd:=h
theorem gUS{l:Ah}{n:NF}{J:Nat->Value}{L:List (Nat×Value)}{gd:Option (Nat×Bool)}(h:Wf l n J L gd:=by first|exact gI rfl rfl (by assumption)|exact gI rfl rfl rfl|exact⟨_,rfl,.inr rfl⟩):Wf l n J L gd:=h
theorem stS{P:Program}{l:Ah}{n:NF}{J:Nat->Value}{L pd:List (Nat×Value)}{w:World}(h:Z2k P l pd (env n J L) w:=by repeat(first|exact st0|refine st1 rfl opv ?_)):Z2k P l pd (env n J L) w:=h
theorem pu{A B:Prop}(k:B)(h:Kp B->A:=by
 intro k
 repeat(first|with_reducible refine rg ?_|((with_reducible apply pv);exact opv)|((with_reducible apply gT);exact rfl;exact rfl;(first|assumption|exact rfl))|((with_reducible apply gF);exact rfl;exact rfl;(first|assumption|exact rfl))|((with_reducible apply gU);exact rfl;exact rfl)|((with_reducible apply s0a);exact rfl;exact rfl;exact gwS;intro _;exact opv)|((with_reducible apply sUa);exact rfl;exact gUS)|((with_reducible apply s1a);exact rfl;exact rfl;exact gwS;exact opv)|((with_reducible apply And.intro);exact stS)|((with_reducible apply qv);intro _ _;exact opq)|((with_reducible apply qgT);exact rfl;exact rfl;(first|assumption|exact rfl))|((with_reducible apply qgF);exact rfl;exact rfl;(first|assumption|exact rfl))|((with_reducible apply qgU);exact rfl;exact rfl)|((with_reducible apply t0a);exact rfl;exact rfl;exact rfl;exact gwS;intro _;exact opv)|((with_reducible apply tUa);exact rfl;exact rfl;exact gUS;kernel_rfl)|((with_reducible apply t1a);exact rfl;exact rfl;exact rfl;exact gwS;exact opv))
 exact k.out):A:=h ⟨k⟩
theorem pn{A B:Prop}(k:B)(h:Kp B->A:=by
 intro k
 repeat(first|with_reducible refine rg ?_|((with_reducible apply pv);exact opv)|((with_reducible apply gT);exact rfl;exact rfl;(first|assumption|exact rfl))|((with_reducible apply gF);exact rfl;exact rfl;(first|assumption|exact rfl))|((with_reducible apply gU);exact rfl;exact rfl)|((with_reducible apply s0a);exact rfl;exact rfl;exact gwS;intro _;exact opv)|((with_reducible apply sUa);exact rfl;exact gUS)|((with_reducible apply s1a);exact rfl;exact rfl;exact gwS;exact opv)|((with_reducible apply And.intro);exact stS)|((with_reducible apply qv);intro _ _;exact opq)|((with_reducible apply qgT);exact rfl;exact rfl;(first|assumption|exact rfl))|((with_reducible apply qgF);exact rfl;exact rfl;(first|assumption|exact rfl))|((with_reducible apply qgU);exact rfl;exact rfl)|((with_reducible apply t0a);exact rfl;exact rfl;exact rfl;exact gwS;intro _;exact opv)|((with_reducible apply tUa);exact rfl;exact rfl;exact gUS;kernel_rfl)|((with_reducible apply t1a);exact rfl;exact rfl;exact rfl;exact gwS;exact opv)|with_reducible refine nil ?_|with_reducible refine Y6v ?_|with_reducible refine t_blk ?_|with_reducible refine se ?_|with_reducible refine seP ?_|with_reducible refine te ?_|with_reducible refine teP ?_|with_reducible refine qn ?_|with_reducible refine skp ?_|with_reducible refine xt ?_|with_reducible refine x_then ?_|with_reducible refine x_eq ?_|with_reducible refine x_ne (by decide) ?_|with_reducible refine rtn ?_|with_reducible refine r_then ?_|with_reducible refine r_blk ?_)
 exact k.out):A:=h ⟨k⟩
theorem cd{A B1 B2:Prop}{α:Type}{b:Bool}{X Y Z:α}(hm:(bif b then X else Y)=Z)(h1:B1)(h2:B2)(h:(bif b then X else Y)=Z->Kp B1->Kp B2->A:=by
 intro hm k1 k2
 refine pn ?_
 exact cndH rfl hm k1.out k2.out):A:=h hm ⟨h1⟩ ⟨h2⟩
theorem t1W{A B:Prop}(js R ks:List Nat)(k:B)(h:KN js->KN R->KN ks->Kp B->A:=by
 intro a b c k
 refine pu ?_
 refine twK a rfl (wt_of rfl rfl gwS) rfl (by kernel_rfl) (by kernel_rfl) ⟨?_,qZt⟩
 refine brK b c rfl (by kernel_rfl) (by kernel_rfl) gwS (by kernel_rfl) ?_
 exact k.out):A:=h ⟨qZt⟩ ⟨qZt⟩ ⟨qZt⟩ ⟨k⟩
theorem tF{A B:Prop}(js:List Nat)(k:B)(h:KN js->Kp B->A:=by
 intro a k
 refine pu ?_
 refine twK a rfl (wt_of rfl rfl gwS) rfl (by kernel_rfl) (by kernel_rfl) ?_
 exact k.out):A:=h ⟨qZt⟩ ⟨k⟩
theorem brW{A B:Prop}(R ks:List Nat)(k:B)(h:KN R->KN ks->Kp B->A:=by
 intro b c k
 refine brK b c rfl (by kernel_rfl) (by kernel_rfl) gwS (by kernel_rfl) ?_
 exact k.out):A:=h ⟨qZt⟩ ⟨qZt⟩ ⟨k⟩
theorem s2W{A B:Prop}(ks:List Nat)(k:B)(h:KN ks->Kp B->A:=by
 intro c k
 refine pu ?_
 refine s2K c rfl gwS rfl (by kernel_rfl) ?_
 exact k.out):A:=h ⟨qZt⟩ ⟨k⟩
theorem je{A F:Prop}{g w:World}{T:TP}{G:List X1}(hm:F)(S:Sep g T w G)(h:F->Kp (Sep g T w G)->A:=by
 intro hm S
 refine pn ?_
 repeat'(first|with_reducible apply Exists.intro|with_reducible apply And.intro|exact hm|exact Y2d|exact S.out|exact ch|exact qZt|assumption|exact Y7o (by assumption) ch|exact U0)):A:=h hm ⟨S⟩
theorem lg{A N:Prop}{α:Type}{x z:α}{g w:World}{T:TP}{G:List X1}(hm:some x=some z)(hn:N)(S:Sep g T w G)(h:some x=some z->N->Kp (Sep g T w G)->A:=by
 intro hm hn S
 cases oI hm
 refine pn ?_
 refine⟨_,Nat.lt_succ_self _,?_⟩
 repeat'(first|with_reducible apply Exists.intro|with_reducible apply And.intro|exact hn|exact Y2d|exact S.out|exact ch|exact qZt|assumption|exact Y7o (by assumption) ch|exact U0)):A:=h hm hn ⟨S⟩
theorem rvsS{n:NF}{J:Nat->Value}{L:List (Nat×Value)}{w:World}{rs:List ResultVar}{vs:Ab}(h:RVs Tryz.prog n J L w rs vs:=by repeat(first|exact rv0|(apply rvT;exact rfl)|(apply rvC;exact rfl;exact tyA;(exact Sep.bx (by assumption) atS))|(apply rvG;exact rfl;exact tyA;exact tyS;(exact Sep.bx (by assumption) atS);exact rfl))):RVs Tryz.prog n J L w rs vs:=h
theorem re{A:Prop}{α:Type}{x z:α}{g w:World}{T:TP}{G:List X1}(hm:some x=some z)(S:Sep g T w G)(h:some x=some z->Kp (Sep g T w G)->A:=by
 intro hm S
 cases oI hm
 refine pn ?_
 first|refine ret1 rfl rfl ?_|refine ret0 rfl ?_|refine ret2 rfl rfl rfl ?_|(apply retN;exact rfl;exact rvsS;exact rfl)
 refine rsm S.out ch ?_
 repeat'(first|with_reducible apply Exists.intro|with_reducible apply And.intro|exact rfl|exact S.out.unb|exact qZt|assumption|exact Y7o (by assumption) ch|exact U0)):A:=h hm ⟨S⟩
theorem sS{A B H1 H2:Prop}(l:List (Nat×Value))(a:H1)(b:H2)(k:B)(h:Kl l->H1->H2->Kp B->A:=by
 intro l a b k
 refine pu ?_
 refine s2k l rfl gwS rfl (by kernel_rfl) ?_
 exact calS a rfl b rfl k.out):A:=h ⟨qZt⟩ a b ⟨k⟩
theorem sN{A B H1 H2:Prop}(l:List (Nat×Value))(a:H1)(b:H2)(k:B)(h:Kl l->H1->H2->Kp B->A:=by
 intro l a b k
 refine pu ?_
 refine s2k l rfl gwS rfl (by kernel_rfl) ?_
 exact calN a rfl b rfl k.out):A:=h ⟨qZt⟩ a b ⟨k⟩
theorem osT{A B:Prop}(q:Nat){g:World}{T:TP}{w:World}{G:List X1}(hS:Sep g T w G)(k:B)(h:Kq q->Sep g T w G->Kp B->A:=by
 intro q hS k
 exact ost q hS tyS k.out):A:=h ⟨qZt⟩ hS ⟨k⟩
theorem osB{A B:Prop}(q j:Nat){b o:Nat}{H:Ab->X1}(hL:Ln b o H){g:World}{T:TP}{w:World}{G:List X1}(hS:Sep g T w G)(k:B)(h:Kq q->Kq j->Ln b o H->Sep g T w G->Kp B->A:=by
 intro q j hL hS k
 exact osb q j hL hS tyS k.out):A:=h ⟨qZt⟩ ⟨qZt⟩ hL hS ⟨k⟩
theorem oaL{A B:Prop}(zs:Ab){g:World}{T:TP}{w:World}{G:List X1}(hS:Sep g T w G)(k:B)(h:Kv zs->Sep g T w G->Kp B->A:=by
 intro zs hS k
 exact oal zs hS tyZ k.out):A:=h ⟨qZt⟩ hS ⟨k⟩
theorem obX{A B:Prop}(cs:Ab){g:World}{T:TP}{w:World}{G:List X1}(hS:Sep g T w G)(k:B)(h:Kv cs->Sep g T w G->Kp B->A:=by
 intro cs hS k
 exact obx cs hS k.out):A:=h ⟨qZt⟩ hS ⟨k⟩
theorem obS{A B:Prop}{g w:World}{T:TP}{G:List X1}{α:Type}{r:Rp α}{l:List α}{css:List (Ab)}(hS:Sep g T w G)(a:Y2e r T w css l)(k:B)(h:Sep g T w G->Y2e r T w css l->Kp B->A:=by
 intro hS a k
 exact obs hS a tyU tyS tyZ k.out):A:=h hS a ⟨k⟩
theorem oS{A B H1 H2:Prop}(a:H1)(b:H2)(k:B)(h:H1->H2->Kp B->A:=by
 intro a b k
 exact calS a rfl b rfl k.out):A:=h a b ⟨k⟩
theorem oN{A B H1 H2:Prop}(a:H1)(b:H2)(k:B)(h:H1->H2->Kp B->A:=by
 intro a b k
 exact calN a rfl b rfl k.out):A:=h a b ⟨k⟩
theorem oP{A B H1 H2:Prop}(a:H1)(b:H2)(k:B)(h:H1->H2->Kp B->A:=by
 intro a b k
 exact Z0k a rfl b rfl k.out):A:=h a b ⟨k⟩
theorem sT{A B:Prop}(q:Nat){g:World}{T:TP}{w:World}{G:List X1}(hS:Sep g T w G)(k:B)(h:Kq q->Sep g T w G->Kp B->A:=by
 intro q hS k
 refine pu ?_
 exact wst q hS tyS k.out):A:=h ⟨qZt⟩ hS ⟨k⟩
theorem sB{A B:Prop}(q j:Nat){b o:Nat}{H:Ab->X1}(hL:Ln b o H){g:World}{T:TP}{w:World}{G:List X1}(hS:Sep g T w G)(k:B)(h:Kq q->Kq j->Ln b o H->Sep g T w G->Kp B->A:=by
 intro q j hL hS k
 refine pu ?_
 exact wsb q j hL hS tyS k.out):A:=h ⟨qZt⟩ ⟨qZt⟩ hL hS ⟨k⟩
theorem aL{A B:Prop}(zs:Ab){g:World}{T:TP}{w:World}{G:List X1}(hS:Sep g T w G)(k:B)(h:Kv zs->Sep g T w G->Kp B->A:=by
 intro zs hS k
 refine pu ?_
 exact wal zs hS tyZ k.out):A:=h ⟨qZt⟩ hS ⟨k⟩
theorem bX{A B:Prop}(cs:Ab){g:World}{T:TP}{w:World}{G:List X1}(hS:Sep g T w G)(k:B)(h:Kv cs->Sep g T w G->Kp B->A:=by
 intro cs hS k
 refine pu ?_
 exact wbx cs hS k.out):A:=h ⟨qZt⟩ hS ⟨k⟩
theorem bS{A B:Prop}{g w:World}{T:TP}{G:List X1}{α:Type}{r:Rp α}{l:List α}{css:List (Ab)}(hS:Sep g T w G)(a:Y2e r T w css l)(k:B)(h:Sep g T w G->Y2e r T w css l->Kp B->A:=by
 intro hS a k
 refine pu ?_
 exact wbs hS a tyU tyS tyZ k.out):A:=h hS a ⟨k⟩
theorem tyE{e z:Nat}(h:Q1g Tryz.prog e z:=by first|exact el102|exact el100|exact el71|exact el155|exact el111|exact el193|exact el64|exact el75|exact el125|exact el165|exact el181|exact el5|exact el47|exact el3|exact el93|exact el173|exact el45|exact el136|exact el82|exact el139|exact el9):Q1g Tryz.prog e z:=h
theorem oaO{A B:Prop}(q:Nat){g:World}{T:TP}{w:World}{G:List X1}{m:Nat}(hS:Sep g T w G)(a:m<=8589934592)(k:B)(h:Kq q->Sep g T w G->m<=8589934592->Kp B->A:=by
 intro q hS a k
 exact oao q hS Y5z tyU tyE a k.out):A:=h ⟨qZt⟩ hS a ⟨k⟩
theorem aO{A B:Prop}(q:Nat){g:World}{T:TP}{w:World}{G:List X1}{m:Nat}(hS:Sep g T w G)(a:m<=8589934592)(k:B)(h:Kq q->Sep g T w G->m<=8589934592->Kp B->A:=by
 intro q hS a k
 refine pu ?_
 exact wao q hS Y5z tyU tyE a k.out):A:=h ⟨qZt⟩ hS a ⟨k⟩
theorem cS{A B H1 H2:Prop}(a:H1)(b:H2)(k:B)(h:H1->H2->Kp B->A:=by
 intro a b k
 refine pu ?_
 exact wcS a b k.out):A:=h a b ⟨k⟩
theorem cN{A B H1 H2:Prop}(a:H1)(b:H2)(k:B)(h:H1->H2->Kp B->A:=by
 intro a b k
 refine pu ?_
 exact wcN a b k.out):A:=h a b ⟨k⟩
theorem cB{A B H1 H2 H3:Prop}(a:H1)(hm:H2)(c:H3)(k:B)(h:H1->H2->H3->Kp B->A:=by
 intro a hm c k
 refine pu ?_
 exact wcB a hm c k.out):A:=h a hm c ⟨k⟩
theorem cBN{A B H1 H2 H3:Prop}(a:H1)(hm:H2)(c:H3)(k:B)(h:H1->H2->H3->Kp B->A:=by
 intro a hm c k
 refine pu ?_
 exact wcBN a hm c k.out):A:=h a hm c ⟨k⟩
theorem cP{A B B2 H1 H2 H3:Prop}(a:H1)(hm:H2)(c:H3)(k:B)(k2:B2)(h:H1->H2->H3->Kp B->Kp B2->A:=by
 intro a hm c k k2
 refine pu ?_
 exact wcP a hm c k.out k2.out):A:=h a hm c ⟨k⟩ ⟨k2⟩
theorem cPN{A B B2 H1 H2 H3:Prop}(a:H1)(hm:H2)(c:H3)(k:B)(k2:B2)(h:H1->H2->H3->Kp B->Kp B2->A:=by
 intro a hm c k k2
 refine pu ?_
 exact wcPN a hm c k.out k2.out):A:=h a hm c ⟨k⟩ ⟨k2⟩
theorem pe{A:Prop}{α:Type}{x z:α}{g w:World}{T:TP}{G:List X1}(hm:some x=some z)(S:Sep g T w G)(h:some x=some z->Kp (Sep g T w G)->A:=by
 intro hm S
 cases oI hm
 refine pn ?_
 repeat(first|with_reducible refine X0p ?_|with_reducible refine p_blk ?_)
 first|refine panED ?_|refine panE ?_|refine endO rfl ?_|refine endR rfl ?_
 refine psm S.out ch ?_
 repeat'(first|with_reducible apply Exists.intro|with_reducible apply And.intro|exact rfl|exact S.out.unb|exact qZt|assumption|exact Y7o (by assumption) ch|exact U0)):A:=h hm ⟨S⟩
theorem eo{A:Prop}{α:Type}{x z:α}{g w:World}{T:TP}{G:List X1}(hm:some x=some z)(S:Sep g T w G)(h:some x=some z->Kp (Sep g T w G)->A:=by
 intro hm S
 cases oI hm
 refine pn ?_
 repeat(first|with_reducible refine X0p ?_|with_reducible refine p_blk ?_)
 first|refine endO rfl ?_|refine endR rfl ?_
 refine eoR (resN rfl rvsS rfl) ?_
 refine rsm S.out ch ?_
 repeat'(first|with_reducible apply Exists.intro|with_reducible apply And.intro|exact rfl|exact S.out.unb|exact qZt|assumption|exact Y7o (by assumption) ch|exact U0)):A:=h hm ⟨S⟩
theorem rqS{l:Ah}{Q:Ac}{T:TP}{w:World}{G:List X1}{a:Act}{id:Nat}(hS:Sep g T w G)(h:wpQuiet Tryz.prog l.toArray (QC T w) (fun a1=>∀w1 T1,Im T w T1 w1->Sep g T1 w1 G->Q .normal a1 w1) l a)(hB:Region.lexB .any l.toArray=true:=by kernel_rfl):(Code.region id l.toArray true).wp Tryz.prog Q a w:=
 rq mix hB hS.lt (quiet_mono (fun a1 h w1 T1 i=>h w1 T1 i.imm (hS.keep i fun _ h=>h)) h)
theorem rsS{l:Ah}{Q:Ac}{g w:World}{T:TP}{G:List X1}{n:NF}{J:Nat->Value}{L:List (Nat×Value)}{id:Nat}(fl ord:List Nat)(hS:Sep g T w G)(k:∀w1,Im T w T w1->Sep g T w1 G->H8 Tryz.prog l fl (NoPanic Q) [] ord (env n J L) w1)(hB:serB l fl ord=true:=by kernel_rfl):(Code.region id l.toArray true).wp Tryz.prog Q (env n J L) w:=
 rs fl ord mix hB hS.lt fun w1 i=>k w1 i.imm (hS.keep i fun _ h=>h)
theorem Z1p{l:Ah}{Q:Ac}{g w:World}{T:TP}{G:List X1}{n:NF}{J:Nat->Value}{L:List (Nat×Value)}{id:Nat}(fl ord:List Nat)(hS:Sep g T w G)(hQ:PQ l Q)(k:∀w1,Im T w T w1->Sep g T w1 G->H8 Tryz.prog l fl Q [] ord (env n J L) w1)(hB:serB l fl ord=true:=by kernel_rfl):(Code.region id l.toArray true).wp Tryz.prog Q (env n J L) w:=
 rsP fl ord mix hB hS.lt hQ fun w1 i=>k w1 i.imm (hS.keep i fun _ h=>h)
theorem rtS{l:Ah}{Q:Ac}{g w:World}{T:TP}{G:List X1}{n:NF}{J:Nat->Value}{L:List (Nat×Value)}{id:Nat}(fl ord:List Nat)(hS:Sep g T w G)(k:∀w1,Im T w T w1->Sep g T w1 G->Q1o Tryz.prog l fl (NoPanic Q) ord.length [] ord (env n J L) w1)(hB:trB l fl ord=true:=by kernel_rfl):(Code.region id l.toArray true).wp Tryz.prog Q (env n J L) w:=
 rt fl ord mix hB hS.lt fun w1 i=>k w1 i.imm (hS.keep i fun _ h=>h)
theorem rtPS{l:Ah}{Q:Ac}{g w:World}{T:TP}{G:List X1}{n:NF}{J:Nat->Value}{L:List (Nat×Value)}{id:Nat}(fl ord:List Nat)(hS:Sep g T w G)(hQ:PQ l Q)(k:∀w1,Im T w T w1->Sep g T w1 G->Q1o Tryz.prog l fl Q ord.length [] ord (env n J L) w1)(hB:trB l fl ord=true:=by kernel_rfl):(Code.region id l.toArray true).wp Tryz.prog Q (env n J L) w:=
 rtP fl ord mix hB hS.lt hQ fun w1 i=>k w1 i.imm (hS.keep i fun _ h=>h)
abbrev Z3t(x:M3):Ab:=[qZs x.s,.int .i64 x.pos.Line,.int .i64 x.pos.Col]
abbrev X1k(x:Y8):Ab:=[.int .i64 x.Kind,qZs x.Text,.int .u32 x.Num,.int .i64 x.Pos.Line,.int .i64 x.Pos.Col]
abbrev N6(pos:Pos)(e:Int):Ab:=[.int .i64 pos.Line,.int .i64 pos.Col,.int .i64 e]
abbrev Q9v(x:K6):Ab:=[qZs x.Word,qZs x.Name,.int .i64 x.Stars]
abbrev E9(x:Z5)(a9:OA)(c9:Nat):Ab:=[.int .i64 x.Kind,.int .i64 x.Pos.Line,.int .i64 x.Pos.Col,qZs x.Op,qZs x.Name,.int .u32 x.Num,qZs x.Type_.Word,qZs x.Type_.Name,.int .i64 x.Type_.Stars,.slice a9 (qQ x.Kids) c9]
abbrev Z5j(x:J2)(a6:OA)(c6:Nat)(a7:OA)(c7:Nat):Ab:=[.int .i64 x.Pos.Line,.int .i64 x.Pos.Col,qZs x.Type_.Word,qZs x.Type_.Name,.int .i64 x.Type_.Stars,qZs x.Name,.slice a6 (qQ x.Dims) c6,.slice a7 (qQ x.Init) c7,.bool x.Brace]
abbrev Q8n(x:V8)(a3:OA)(c3:Nat)(a4:OA)(c4:Nat)(a5:OA)(c5:Nat)(a6:OA)(c6:Nat)(a7:OA)(c7:Nat)(a8:OA)(c8:Nat)(a9:OA)(c9:Nat):Ab:=[.int .i64 x.Kind,.int .i64 x.Pos.Line,.int .i64 x.Pos.Col,.slice a3 (qQ x.A) c3,.slice a4 (qQ x.B) c4,.slice a5 (qQ x.C) c5,.slice a6 (qQ x.Var) c6,.slice a7 (qQ x.Body) c7,.slice a8 (qQ x.Else) c8,.slice a9 (qQ x.Cases) c9]
abbrev Y8i(x:R5)(a4:OA)(c4:Nat):Ab:=[.int .i64 x.Pos.Line,.int .i64 x.Pos.Col,.bool x.Default,.int .u32 x.Num,.slice a4 (qQ x.Body) c4]
abbrev X3j(x:S8)(a3:OA)(c3:Nat):Ab:=[.int .i64 x.Pos.Line,.int .i64 x.Pos.Col,qZs x.Name,.slice a3 (qQ x.Fields) c3]
abbrev Z8n(x:L6)(a6:OA)(c6:Nat)(a7:OA)(c7:Nat):Ab:=[.int .i64 x.Pos.Line,.int .i64 x.Pos.Col,qZs x.Ret.Word,qZs x.Ret.Name,.int .i64 x.Ret.Stars,qZs x.Name,.slice a6 (qQ x.Params) c6,.slice a7 (qQ x.Body) c7]
abbrev Q3n(x:K3)(a4:OA)(c4:Nat):Ab:=[.int .i64 x.Type_.Kind,.int .i64 x.Type_.Elem,.int .i64 x.Type_.Len,qZs x.Type_.Name,.slice a4 (qQ x.Type_.Fields) c4,.int .i64 x.size,.int .i64 x.align,.bool x.open_]
abbrev Z0t(x:K8):Ab:=[qZs x.Name,.int .i64 x.Type_,.int .i64 x.At]
abbrev X4u(x:Q9j):Ab:=[qZs x.Name,.int .i64 x.Size,.int .i64 x.Align,.int .i64 x.Cell]
abbrev Y8h(x:Q7d)(a4:OA)(c4:Nat):Ab:=[.int .i64 x.Kind,.int .i64 x.Elem,.int .i64 x.Len,qZs x.Name,.slice a4 (qQ x.Fields) c4]
abbrev Q1l(x:Y0)(a9:OA)(c9:Nat):Ab:=[.int .i64 x.n,.int .i64 x.term.Kind,.int .i64 x.term.Fn,.int .u32 x.term.Num,.int .i64 x.term.Var,.bool x.term.Global,.int .i64 x.term.Size,.bool x.term.Post,.bool x.term.Ptr,.slice a9 (qQ x.term.Kids) c9,.bool x.lies]
abbrev U4(x:Y9)(a8:OA)(c8:Nat):Ab:=[.int .i64 x.Kind,.int .i64 x.Fn,.int .u32 x.Num,.int .i64 x.Var,.bool x.Global,.int .i64 x.Size,.bool x.Post,.bool x.Ptr,.slice a8 (qQ x.Kids) c8]
abbrev Y1h(x:K4)(a1:OA)(c1:Nat)(a2:OA)(c2:Nat)(a4:OA)(c4:Nat)(a5:OA)(c5:Nat)(a6:OA)(c6:Nat):Ab:=[.int .i64 x.Kind,.slice a1 (qQ x.A) c1,.slice a2 (qQ x.Post) c2,.bool x.First,.slice a4 (qQ x.Body) c4,.slice a5 (qQ x.Else) c5,.slice a6 (qQ x.Cases) c6,.int .i64 x.Var]
abbrev X6d(x:Q9k)(a2:OA)(c2:Nat):Ab:=[.bool x.Default,.int .u32 x.Num,.slice a2 (qQ x.Body) c2]
abbrev cGCode(x:Q5b)(a3:OA)(c3:Nat)(a4:OA)(c4:Nat):Ab:=[qZs x.Name,.bool x.Void,.int .i64 x.Params,.slice a3 (qQ x.Slots) c3,.slice a4 (qQ x.Body) c4]
abbrev iv(x:Int):Value:= .int .i64 x
abbrev sv{α:Type}(a:OA)(l:List α)(c:Nat):Value:= .slice a (qQ l) c
abbrev pt(b o:Nat):Value:= .pointer (some ⟨b,o,none⟩)
abbrev JV:=Nat->Value
abbrev zv1:Ab:=[iv 0,iv 0,iv 0,.int .u32 0,iv 0,.bool false,iv 0,.bool false,.bool false,.slice none 0 0,.bool false]
abbrev zv2:Ab:=[iv 0,iv 0,iv 0,qZs [],qZs [],.int .u32 0,qZs [],qZs [],iv 0,.slice none 0 0]
abbrev zv3:Ab:=[iv 0,iv 0,.int .u32 0,iv 0,.bool false,iv 0,.bool false,.bool false,.slice none 0 0]
abbrev zv4:Ab:=[iv 0,iv 0,qZs [],qZs [],iv 0,qZs [],.slice none 0 0,.slice none 0 0,.bool false]
abbrev zv5:Ab:=[iv 0,.slice none 0 0,.slice none 0 0,.bool false,.slice none 0 0,.slice none 0 0,.slice none 0 0,iv 0]
abbrev zv6:Ab:=[iv 0,iv 0,qZs [],qZs [],iv 0,qZs [],.slice none 0 0,.slice none 0 0]
abbrev zv7:Ab:=[iv 0,iv 0,iv 0,.slice none 0 0,.slice none 0 0,.slice none 0 0,.slice none 0 0,.slice none 0 0,.slice none 0 0,.slice none 0 0]
abbrev zv8:Ab:=[iv 0,iv 0,iv 0,qZs [],.slice none 0 0]
abbrev zv9:Ab:=[iv 0,qZs [],.int .u32 0,iv 0,iv 0]
abbrev zv10:Ab:=[qZs [],qZs [],iv 0]
abbrev zv11:Ab:=[qZs [],.bool false,iv 0,.slice none 0 0,.slice none 0 0]
abbrev zv12:Ab:=[iv 0,iv 0,qZs [],.slice none 0 0]
abbrev zv13:Ab:=[.slice none 0 0,.slice none 0 0,.slice none 0 0]
abbrev zv14:Ab:=[qZs [],iv 0,iv 0]
abbrev zv15:Ab:=[.slice none 0 0,.slice none 0 0,.slice none 0 0,iv 0]
abbrev zv16:Ab:=[iv 0,iv 0,iv 0,qZs [],.slice none 0 0,iv 0,iv 0,.bool false]
abbrev zv17:Ab:=[.bool false,.int .u32 0,.slice none 0 0]
abbrev zv18:Ab:=[iv 0,iv 0,.bool false,.int .u32 0,.slice none 0 0]

theorem lnS{b o:Nat}{H:Ab->X1}(h:Ln b o H:=by first|assumption|exact Q1j _):Ln b o H:=h
theorem slS{α:Type}{r:Rp α}{T:TP}{w:World}{v:Value}{l:List α}(h:SlR r T w v l:=by first|assumption|exact U0|exact Y7o (by assumption) ch):SlR r T w v l:=h
theorem giS{T:TP}{w:World}{k:Nat}(h:Gi T w k:=by first|assumption|exact Gi.mono (by assumption) ch):Gi T w k:=h
theorem eqS{α:Type}{m:Option α}{r:α}(h:m=some r:=by assumption):m=some r:=h
theorem hcE{H:Ab->X1}{a b:Ab}(h:a=b):H a=H b:=by rw[h]
theorem owE{α:Type}{r:Rp α}{e:TypeId}{v:Value}{a b:List α}(h:a=b):F5 r e v a=F5 r e v b:=by rw[h]
theorem rmS{G G2:List X1}{A:X1}(h:Rmv G A G2:=by repeat(first|((apply rmH);exact rfl;(first|(with_reducible exact rfl)|((with_reducible apply hcE);exact rfl)|((with_reducible apply owE);exact rfl)))|((apply rmT);exact rfl))):Rmv G A G2:=h
theorem pkZ{G N rest:List X1}(h:Pks G N rest:=by repeat(first|exact pk0|((apply pkC);exact rmS))):Pks G N rest:=h
theorem ctS{C X:Prop}{g w:World}{T:TP}{G:List X1}(c:C)(hS:Sep g T w G)(h:C->Sep g T w G->X:=by
 intro c hS
 apply c
 try any_goals(with_reducible exact eqS)
 try any_goals((fail_if_success(show Ln 123456789 _ _));(with_reducible exact lnS))
 try any_goals((apply Sep.pkC);exact hS)
 repeat((any_goals((apply pkC);exact rmS));(try any_goals((fail_if_success(show Ln 123456789 _ _));(with_reducible exact lnS))))
 try any_goals(exact pk0)
 try any_goals(exact slS)
 try any_goals(exact giS)
 all_goals assumption):X:=h c hS
theorem reZ{A:Prop}{α:Type}{x z:α}{g w:World}{T:TP}{G:List X1}(hm:some x=some z)(hS:Sep g T w G)(h:some x=some z->Sep g T w G->A:=by
 intro hm hS
 cases oI hm
 first|refine ret1 rfl rfl ?_|refine ret0 rfl ?_|refine ret2 rfl rfl rfl ?_|refine Q6y rfl ?_|(apply retN;exact rfl;exact rvsS;exact rfl)
 first|(refine rsm hS ch ?_;(repeat'(first|with_reducible apply Exists.intro|with_reducible apply And.intro|exact rfl|exact Sep.pkR hS pkZ|exact qZt|assumption|exact slS));done)|(obtain⟨_,_,hS,_,rfl⟩:=hS.sl 0;refine rsm hS ch ?_;(repeat'(first|with_reducible apply Exists.intro|with_reducible apply And.intro|exact rfl|exact Sep.pkR hS pkZ|exact qZt|assumption|exact slS));done)|(obtain⟨_,_,hS,_,rfl⟩:=hS.sl 1;refine rsm hS ch ?_;(repeat'(first|with_reducible apply Exists.intro|with_reducible apply And.intro|exact rfl|exact Sep.pkR hS pkZ|exact qZt|assumption|exact slS));done)|(obtain⟨_,_,hS,_,rfl⟩:=hS.sl 2;refine rsm hS ch ?_;(repeat'(first|with_reducible apply Exists.intro|with_reducible apply And.intro|exact rfl|exact Sep.pkR hS pkZ|exact qZt|assumption|exact slS));done)|(obtain⟨_,_,hS,_,rfl⟩:=hS.sl 3;refine rsm hS ch ?_;(repeat'(first|with_reducible apply Exists.intro|with_reducible apply And.intro|exact rfl|exact Sep.pkR hS pkZ|exact qZt|assumption|exact slS));done)|(obtain⟨_,_,hS,_,rfl⟩:=hS.sl 4;refine rsm hS ch ?_;(repeat'(first|with_reducible apply Exists.intro|with_reducible apply And.intro|exact rfl|exact Sep.pkR hS pkZ|exact qZt|assumption|exact slS));done)|(obtain⟨_,_,hS,_,rfl⟩:=hS.sl 5;refine rsm hS ch ?_;(repeat'(first|with_reducible apply Exists.intro|with_reducible apply And.intro|exact rfl|exact Sep.pkR hS pkZ|exact qZt|assumption|exact slS));done)):A:=h hm hS
theorem peZ{A:Prop}{α:Type}{x z:α}{g w:World}{T:TP}{G:List X1}(hm:some x=some z)(hS:Sep g T w G)(h:some x=some z->Sep g T w G->A:=by
 intro hm hS
 cases oI hm
 repeat(first|with_reducible refine X0p ?_|with_reducible refine p_blk ?_)
 first|refine panED ?_|refine panE ?_|refine endO rfl ?_|refine endR rfl ?_
 first|(refine psm hS ch ?_;(repeat'(first|with_reducible apply Exists.intro|with_reducible apply And.intro|exact rfl|exact Sep.pkR hS pkZ|exact qZt|assumption|exact slS));done)|(obtain⟨_,_,hS,_,rfl⟩:=hS.sl 0;refine psm hS ch ?_;(repeat'(first|with_reducible apply Exists.intro|with_reducible apply And.intro|exact rfl|exact Sep.pkR hS pkZ|exact qZt|assumption|exact slS));done)|(obtain⟨_,_,hS,_,rfl⟩:=hS.sl 1;refine psm hS ch ?_;(repeat'(first|with_reducible apply Exists.intro|with_reducible apply And.intro|exact rfl|exact Sep.pkR hS pkZ|exact qZt|assumption|exact slS));done)|(obtain⟨_,_,hS,_,rfl⟩:=hS.sl 2;refine psm hS ch ?_;(repeat'(first|with_reducible apply Exists.intro|with_reducible apply And.intro|exact rfl|exact Sep.pkR hS pkZ|exact qZt|assumption|exact slS));done)|(obtain⟨_,_,hS,_,rfl⟩:=hS.sl 3;refine psm hS ch ?_;(repeat'(first|with_reducible apply Exists.intro|with_reducible apply And.intro|exact rfl|exact Sep.pkR hS pkZ|exact qZt|assumption|exact slS));done)|(obtain⟨_,_,hS,_,rfl⟩:=hS.sl 4;refine psm hS ch ?_;(repeat'(first|with_reducible apply Exists.intro|with_reducible apply And.intro|exact rfl|exact Sep.pkR hS pkZ|exact qZt|assumption|exact slS));done)|(obtain⟨_,_,hS,_,rfl⟩:=hS.sl 5;refine psm hS ch ?_;(repeat'(first|with_reducible apply Exists.intro|with_reducible apply And.intro|exact rfl|exact Sep.pkR hS pkZ|exact qZt|assumption|exact slS));done)):A:=h hm hS
theorem opx{P:Program}{n:NF}{J:Nat->Value}{L:List (Nat×Value)}{w:World}{o:Oper}{v:Value}(h:(execOp (ev n J L) o).run P w= .ok (.value v) w:=by
 first|((with_reducible apply r_ss);exact rfl;(first|exact rfl|exact⟨_,rfl⟩);(first|exact rfl|exact⟨_,rfl⟩);assumption;exact tyU)|((with_reducible apply Z7q);exact rfl;exact rfl;assumption;exact tyU)|((with_reducible apply r_slR);exact rfl;exact slS;(first|exact rfl|exact⟨_,rfl⟩);(first|exact rfl|exact⟨_,rfl⟩);assumption;exact tyU;exact tyS;exact rfl;assumption)|((with_reducible apply r_fd1);exact rfl;exact tyU;exact rfl;exact tyA;exact rfl)|((with_reducible apply zbd);exact tyZ;exact tyU;exact lsS;kernel_rfl)|((with_reducible apply r_zf);exact rfl)|((with_reducible apply Y3w);(exact(rfl:_=Value.func _ _ _)))|((with_reducible apply r_iq);exact rfl;exact rfl;assumption)|((with_reducible apply r_irm);exact rfl;exact rfl;assumption)|((with_reducible apply r_bn);exact rfl;exact rfl;exact tyU)|((with_reducible apply r_bq);exact rfl;exact rfl;exact tyU)|((with_reducible apply r_mif);exact rfl;exact tyU)|((with_reducible apply r_pne);exact rfl;exact rfl;exact rfl;exact tyU)|((with_reducible apply Y7a);exact rfl;exact rfl;exact rfl;exact tyU)|((with_reducible apply r_sne);exact rfl;exact rfl;exact rfl;exact tyU)|((with_reducible apply r_ldZ);exact rfl;exact tyA;exact tyS;(first|assumption|exact cellsAt.sameT (by assumption) (by assumption) ch);exact lsS;exact rfl)|((with_reducible apply r_ldQ);assumption;exact rfl;exact tyA;exact tyS;assumption;exact atS;exact lsS;exact rfl)):(execOp (ev n J L) o).run P w= .ok (.value v) w:=h
theorem mkS{α:Type}{r:Rp α}{T:TP}{w:World}{cs:Ab}{x:α}(h:r.rp T w cs x:=by first|assumption|exact rfl|((apply Z0o)<;>(exact slS))|((apply Z4f)<;>(exact slS))|((apply Q3b)<;>(exact slS))|((apply Y0j)<;>(exact slS))|((apply Y5r)<;>(exact slS))|((apply Y7d)<;>(exact slS))|((apply Y1n)<;>(exact slS))|((apply Y4x)<;>(exact slS))|((apply X0k)<;>(exact slS))|((apply Y7e)<;>(exact slS))|((apply Y7g)<;>(exact slS))|((apply Y7c)<;>(exact slS))|((apply Y6a)<;>(exact slS))|((apply Y4w)<;>(exact slS))|((apply V9)<;>(exact slS))|((apply Q2r)<;>(exact slS))|((apply Y2z)<;>(exact slS))|((apply Z6q)<;>(exact slS))|((apply X6q)<;>(exact slS))|((apply Y2y)<;>(exact slS))|((apply Y9i)<;>(exact slS))|((apply Q2n)<;>(exact slS))|((apply Y8p)<;>(exact slS))|((apply Z6d)<;>(exact slS))|((apply Y7h)<;>(exact slS))|((apply Y4y)<;>(exact slS))|((apply Y7b)<;>(exact slS))):r.rp T w cs x:=h
theorem jeZ{A F:Prop}{g w:World}{T:TP}{G:List X1}(hm:F)(hS:Sep g T w G)(h:F->Sep g T w G->A:=by
 intro hm hS
 first|((repeat'(first|with_reducible apply Exists.intro|with_reducible apply And.intro|exact hm|exact rfl|exact Y2d|exact Sep.pkE hS pkZ|exact ch|exact qZt|assumption|exact slS));done)|(obtain⟨_,_,hS,_,rfl⟩:=hS.sl 0;(repeat'(first|with_reducible apply Exists.intro|with_reducible apply And.intro|exact hm|exact rfl|exact Y2d|exact Sep.pkE hS pkZ|exact ch|exact qZt|assumption|exact slS));done)|(obtain⟨_,_,hS,_,rfl⟩:=hS.sl 1;(repeat'(first|with_reducible apply Exists.intro|with_reducible apply And.intro|exact hm|exact rfl|exact Y2d|exact Sep.pkE hS pkZ|exact ch|exact qZt|assumption|exact slS));done)|(obtain⟨_,_,hS,_,rfl⟩:=hS.sl 2;(repeat'(first|with_reducible apply Exists.intro|with_reducible apply And.intro|exact hm|exact rfl|exact Y2d|exact Sep.pkE hS pkZ|exact ch|exact qZt|assumption|exact slS));done)|(obtain⟨_,_,hS,_,rfl⟩:=hS.sl 3;(repeat'(first|with_reducible apply Exists.intro|with_reducible apply And.intro|exact hm|exact rfl|exact Y2d|exact Sep.pkE hS pkZ|exact ch|exact qZt|assumption|exact slS));done)|(obtain⟨_,_,hS,_,rfl⟩:=hS.sl 4;(repeat'(first|with_reducible apply Exists.intro|with_reducible apply And.intro|exact hm|exact rfl|exact Y2d|exact Sep.pkE hS pkZ|exact ch|exact qZt|assumption|exact slS));done)|(obtain⟨_,_,hS,_,rfl⟩:=hS.sl 5;(repeat'(first|with_reducible apply Exists.intro|with_reducible apply And.intro|exact hm|exact rfl|exact Y2d|exact Sep.pkE hS pkZ|exact ch|exact qZt|assumption|exact slS));done)):A:=h hm hS
theorem lgZ{A:Prop}{α:Type}{x z:α}{g w:World}{T:TP}{G:List X1}(hm:some x=some z)(hS:Sep g T w G)(h:some x=some z->Sep g T w G->A:=by
 intro hm hS
 cases oI hm
 refine⟨_,Nat.lt_succ_self _,?_⟩
 first|((repeat'(first|with_reducible apply Exists.intro|with_reducible apply And.intro|exact hm|exact rfl|exact Y2d|exact Sep.pkE hS pkZ|exact ch|exact qZt|assumption|exact slS));done)|(obtain⟨_,_,hS,_,rfl⟩:=hS.sl 0;(repeat'(first|with_reducible apply Exists.intro|with_reducible apply And.intro|exact hm|exact rfl|exact Y2d|exact Sep.pkE hS pkZ|exact ch|exact qZt|assumption|exact slS));done)|(obtain⟨_,_,hS,_,rfl⟩:=hS.sl 1;(repeat'(first|with_reducible apply Exists.intro|with_reducible apply And.intro|exact hm|exact rfl|exact Y2d|exact Sep.pkE hS pkZ|exact ch|exact qZt|assumption|exact slS));done)|(obtain⟨_,_,hS,_,rfl⟩:=hS.sl 2;(repeat'(first|with_reducible apply Exists.intro|with_reducible apply And.intro|exact hm|exact rfl|exact Y2d|exact Sep.pkE hS pkZ|exact ch|exact qZt|assumption|exact slS));done)|(obtain⟨_,_,hS,_,rfl⟩:=hS.sl 3;(repeat'(first|with_reducible apply Exists.intro|with_reducible apply And.intro|exact hm|exact rfl|exact Y2d|exact Sep.pkE hS pkZ|exact ch|exact qZt|assumption|exact slS));done)|(obtain⟨_,_,hS,_,rfl⟩:=hS.sl 4;(repeat'(first|with_reducible apply Exists.intro|with_reducible apply And.intro|exact hm|exact rfl|exact Y2d|exact Sep.pkE hS pkZ|exact ch|exact qZt|assumption|exact slS));done)|(obtain⟨_,_,hS,_,rfl⟩:=hS.sl 5;(repeat'(first|with_reducible apply Exists.intro|with_reducible apply And.intro|exact hm|exact rfl|exact Y2d|exact Sep.pkE hS pkZ|exact ch|exact qZt|assumption|exact slS));done)):A:=h hm hS
theorem eoZ{A:Prop}{α:Type}{x z:α}{g w:World}{T:TP}{G:List X1}(hm:some x=some z)(hS:Sep g T w G)(h:some x=some z->Sep g T w G->A:=by
 intro hm hS
 cases oI hm
 repeat(first|with_reducible refine X0p ?_|with_reducible refine p_blk ?_)
 first|refine endO rfl ?_|refine endR rfl ?_
 refine eoR (resN rfl rvsS rfl) ?_
 first|(refine rsm hS ch ?_;(repeat'(first|with_reducible apply Exists.intro|with_reducible apply And.intro|exact rfl|exact Sep.pkR hS pkZ|exact qZt|assumption|exact slS));done)|(obtain⟨_,_,hS,_,rfl⟩:=hS.sl 0;refine rsm hS ch ?_;(repeat'(first|with_reducible apply Exists.intro|with_reducible apply And.intro|exact rfl|exact Sep.pkR hS pkZ|exact qZt|assumption|exact slS));done)|(obtain⟨_,_,hS,_,rfl⟩:=hS.sl 1;refine rsm hS ch ?_;(repeat'(first|with_reducible apply Exists.intro|with_reducible apply And.intro|exact rfl|exact Sep.pkR hS pkZ|exact qZt|assumption|exact slS));done)|(obtain⟨_,_,hS,_,rfl⟩:=hS.sl 2;refine rsm hS ch ?_;(repeat'(first|with_reducible apply Exists.intro|with_reducible apply And.intro|exact rfl|exact Sep.pkR hS pkZ|exact qZt|assumption|exact slS));done)|(obtain⟨_,_,hS,_,rfl⟩:=hS.sl 3;refine rsm hS ch ?_;(repeat'(first|with_reducible apply Exists.intro|with_reducible apply And.intro|exact rfl|exact Sep.pkR hS pkZ|exact qZt|assumption|exact slS));done)|(obtain⟨_,_,hS,_,rfl⟩:=hS.sl 4;refine rsm hS ch ?_;(repeat'(first|with_reducible apply Exists.intro|with_reducible apply And.intro|exact rfl|exact Sep.pkR hS pkZ|exact qZt|assumption|exact slS));done)|(obtain⟨_,_,hS,_,rfl⟩:=hS.sl 5;refine rsm hS ch ?_;(repeat'(first|with_reducible apply Exists.intro|with_reducible apply And.intro|exact rfl|exact Sep.pkR hS pkZ|exact qZt|assumption|exact slS));done)):A:=h hm hS
theorem zr{A H:Prop}{g w:World}{T:TP}{G:List X1}(hm:H)(hS:Sep g T w G)(h:H->Sep g T w G->A:=by
 intro hm hS
 try simp only[Z6c,atA,A9,List.range',List.cons_append,List.nil_append,List.append_nil,List.append_assoc]at hS
 repeat'(first|(obtain⟨_,hx,hm⟩:=bindI hm;(try(first|(obtain⟨_,hr,_,_⟩:=ixS hS hx (by assumption);(first|(obtain rfl:=Q2y hr)|(obtain rfl:=Q6v hr)|(obtain⟨_,_,rfl,_⟩:=K5 hr)|(obtain⟨_,_,_,_,rfl,_,_⟩:=Q4j hr)|(obtain⟨_,_,rfl,_⟩:=Z0g hr)|(obtain⟨_,_,_,_,_,_,_,_,_,_,_,_,_,_,rfl,_,_,_,_,_,_,_⟩:=Z4x hr)|(obtain⟨_,_,rfl,_⟩:=Z5q hr)|(obtain⟨_,_,_,_,rfl,_,_⟩:=Q8u hr)|(obtain⟨_,_,_,_,_,_,rfl,_,_,_⟩:=Y0m hr)|(obtain rfl:=Z2v hr)|(obtain rfl:=Z7s hr)|(obtain⟨_,_,rfl,_⟩:=Z6p hr)|(obtain rfl:=Z1x hr)|(obtain rfl:=Y0l hr)|(obtain⟨_,_,rfl,_⟩:=Z1k hr)|(obtain⟨_,_,_,_,_,_,_,_,_,_,rfl,_,_,_,_,_⟩:=Z7t hr)|(obtain⟨_,_,rfl,_⟩:=Y3y hr)|(obtain⟨_,_,_,_,rfl,_,_⟩:=Z1l hr)|(obtain⟨_,_,_,_,_,_,rfl,_,_,_⟩:=Y5q hr)|(obtain rfl:=Z4g hr)|(obtain⟨_,_,rfl,_⟩:=Y0k hr)|(obtain⟨_,_,rfl,_⟩:=L4 hr)|(obtain⟨_,_,rfl,_⟩:=Z8u hr)|(obtain⟨_,_,rfl,_⟩:=Q5j hr)|(obtain⟨_,_,rfl,_⟩:=Z6r hr)|(obtain rfl:=Z0x hr)|(obtain⟨_,_,rfl,_⟩:=Z6o hr)))|(obtain⟨_,hr,_⟩:=SlV.ixcS (Sep.own hS atS).v hx rfl;(first|(obtain rfl:=Q2y hr)|(obtain rfl:=Q6v hr)|(obtain⟨_,_,rfl,_⟩:=K5 hr)|(obtain⟨_,_,_,_,rfl,_,_⟩:=Q4j hr)|(obtain⟨_,_,rfl,_⟩:=Z0g hr)|(obtain⟨_,_,_,_,_,_,_,_,_,_,_,_,_,_,rfl,_,_,_,_,_,_,_⟩:=Z4x hr)|(obtain⟨_,_,rfl,_⟩:=Z5q hr)|(obtain⟨_,_,_,_,rfl,_,_⟩:=Q8u hr)|(obtain⟨_,_,_,_,_,_,rfl,_,_,_⟩:=Y0m hr)|(obtain rfl:=Z2v hr)|(obtain rfl:=Z7s hr)|(obtain⟨_,_,rfl,_⟩:=Z6p hr)|(obtain rfl:=Z1x hr)|(obtain rfl:=Y0l hr)|(obtain⟨_,_,rfl,_⟩:=Z1k hr)|(obtain⟨_,_,_,_,_,_,_,_,_,_,rfl,_,_,_,_,_⟩:=Z7t hr)|(obtain⟨_,_,rfl,_⟩:=Y3y hr)|(obtain⟨_,_,_,_,rfl,_,_⟩:=Z1l hr)|(obtain⟨_,_,_,_,_,_,rfl,_,_,_⟩:=Y5q hr)|(obtain rfl:=Z4g hr)|(obtain⟨_,_,rfl,_⟩:=Y0k hr)|(obtain⟨_,_,rfl,_⟩:=L4 hr)|(obtain⟨_,_,rfl,_⟩:=Z8u hr)|(obtain⟨_,_,rfl,_⟩:=Q5j hr)|(obtain⟨_,_,rfl,_⟩:=Z6r hr)|(obtain rfl:=Z0x hr)|(obtain⟨_,_,rfl,_⟩:=Z6o hr))))))|(obtain⟨hro,hm⟩:=bindR hm)|(obtain⟨hnz,hm⟩:=bindN hm)|(obtain⟨_,hx,hm⟩:=bindU hm;(try(obtain⟨_,_,he,_⟩:=SlR.part (slS (by assumption)) hx)))|with_reducible refine rg ?_|((with_reducible apply pv);exact opv)|((with_reducible apply gT);exact rfl;exact rfl;(first|assumption|exact rfl))|((with_reducible apply gF);exact rfl;exact rfl;(first|assumption|exact rfl))|((with_reducible apply gU);exact rfl;exact rfl)|((with_reducible apply s0a);exact rfl;exact rfl;exact gwS;intro _;exact opv)|((with_reducible apply sUa);exact rfl;exact gUS)|((with_reducible apply s1a);exact rfl;exact rfl;exact gwS;exact opv)|((with_reducible apply And.intro);exact stS)|((with_reducible apply qv);intro _ _;exact opq)|((with_reducible apply qgT);exact rfl;exact rfl;(first|assumption|exact rfl))|((with_reducible apply qgF);exact rfl;exact rfl;(first|assumption|exact rfl))|((with_reducible apply qgU);exact rfl;exact rfl)|((with_reducible apply t0a);exact rfl;exact rfl;exact rfl;exact gwS;intro _;exact opv)|((with_reducible apply tUa);exact rfl;exact rfl;exact gUS;kernel_rfl)|((with_reducible apply t1a);exact rfl;exact rfl;exact rfl;exact gwS;exact opv)|with_reducible refine nil ?_|with_reducible refine Y6v ?_|with_reducible refine t_blk ?_|with_reducible refine se ?_|with_reducible refine seP ?_|with_reducible refine te ?_|with_reducible refine teP ?_|with_reducible refine qn ?_|with_reducible refine skp ?_|with_reducible refine xt ?_|with_reducible refine x_then ?_|with_reducible refine x_eq ?_|with_reducible refine x_ne (by decide) ?_|with_reducible refine rtn ?_|with_reducible refine r_then ?_|with_reducible refine r_blk ?_|((with_reducible apply pv);exact opx)|((with_reducible apply zcP);exact hS;exact hm;exact rfl;exact inferInstance;exact rfl;intro c;exact ctS c hS;(all_goals(intro y v T w im h hm;(repeat(first|(obtain⟨rfl,h⟩:=h)|(obtain⟨_,h⟩:=h)));(have hS:=(by assumption:Sep _ _ w _)))))|((with_reducible apply zcPN);exact hS;exact hm;exact rfl;exact inferInstance;exact rfl;intro c;exact ctS c hS;(all_goals(intro y v T w im h hm;(repeat(first|(obtain⟨rfl,h⟩:=h)|(obtain⟨_,h⟩:=h)));(have hS:=(by assumption:Sep _ _ w _)))))|((with_reducible apply zcB);exact hS;exact hm;exact rfl;exact inferInstance;exact rfl;intro c;exact ctS c hS;(all_goals(intro y v T w im h hm;(repeat(first|(obtain⟨rfl,h⟩:=h)|(obtain⟨_,h⟩:=h)));(have hS:=(by assumption:Sep _ _ w _)))))|((with_reducible apply zcBN);exact hS;exact hm;exact rfl;exact inferInstance;exact rfl;intro c;exact ctS c hS;(all_goals(intro y v T w im h hm;(repeat(first|(obtain⟨rfl,h⟩:=h)|(obtain⟨_,h⟩:=h)));(have hS:=(by assumption:Sep _ _ w _)))))|((with_reducible apply zst);exact hS;exact rfl;exact atS;exact tyS;exact rfl;exact lsS;exact rfl;exact rfl;exact rfl;intro w im hS)|((with_reducible apply zsb);exact hS;exact rfl;exact lnS;exact atS;exact tyS;exact rfl;exact lsS;exact rfl;exact rfl;exact rfl;intro w im hS)|((with_reducible apply zal);exact hS;exact tyZ;exact lsS;intro w b im hS)|((with_reducible apply zbx);exact hS;exact rfl;exact lsS;intro w b im hS)|(refine cndH rfl hm ?_ ?_<;>intro hb hm)|(refine cnd (b:=true) rfl (fun _=>?_) (fun h=>nomatch h))|(refine cnd (b:=false) rfl (fun h=>nomatch h) (fun _=>?_))|(with_reducible refine sq2 ?_)|(with_reducible refine blk ?_)|((with_reducible apply wl);exact rfl;apply panO;exact rfl)|(exact nnS hm)|(exact reZ hm hS)|(exact peZ hm hS)|((with_reducible apply(zbs 1));exact hS;assumption;(first|exact⟨mkS,qZt⟩|exact⟨mkS,mkS,qZt⟩|exact⟨mkS,mkS,mkS,qZt⟩|exact⟨mkS,mkS,mkS,mkS,qZt⟩);exact tyU;exact tyS;exact tyZ;exact rfl;exact rfl;exact rfl;exact rfl;kernel_rfl;exact rfl;intro w a m c im hS)|((with_reducible apply(zbs 2));exact hS;assumption;(first|exact⟨mkS,qZt⟩|exact⟨mkS,mkS,qZt⟩|exact⟨mkS,mkS,mkS,qZt⟩|exact⟨mkS,mkS,mkS,mkS,qZt⟩);exact tyU;exact tyS;exact tyZ;exact rfl;exact rfl;exact rfl;exact rfl;kernel_rfl;exact rfl;intro w a m c im hS)|((with_reducible apply(zbs 3));exact hS;assumption;(first|exact⟨mkS,qZt⟩|exact⟨mkS,mkS,qZt⟩|exact⟨mkS,mkS,mkS,qZt⟩|exact⟨mkS,mkS,mkS,mkS,qZt⟩);exact tyU;exact tyS;exact tyZ;exact rfl;exact rfl;exact rfl;exact rfl;kernel_rfl;exact rfl;intro w a m c im hS)|((with_reducible apply(zbs 4));exact hS;assumption;(first|exact⟨mkS,qZt⟩|exact⟨mkS,mkS,qZt⟩|exact⟨mkS,mkS,mkS,qZt⟩|exact⟨mkS,mkS,mkS,mkS,qZt⟩);exact tyU;exact tyS;exact tyZ;exact rfl;exact rfl;exact rfl;exact rfl;kernel_rfl;exact rfl;intro w a m c im hS)|(exact lgZ hm hS)|(exact jeZ hm hS)|(exact eoZ hm hS)|(have hm:=Q7b hm (by assumption) (by assumption))|(have hm:=Q5e hm (by assumption) (by assumption))|((with_reducible apply s0a);exact rfl;exact rfl;exact gwS;intro _;exact opx)|((with_reducible apply s1a);exact rfl;exact rfl;exact gwS;exact opx)|((with_reducible apply t0a);exact rfl;exact rfl;exact rfl;exact gwS;intro _;exact opx)|((with_reducible apply t1a);exact rfl;exact rfl;exact rfl;exact gwS;exact opx)|((with_reducible apply t0a);exact rfl;exact rfl;exact rfl;exact gwS;intro _;exact opv)|((with_reducible apply tUa);exact rfl;exact rfl;exact gUS;kernel_rfl)|((with_reducible apply t1a);exact rfl;exact rfl;exact rfl;exact gwS;exact opv)|(with_reducible refine te ?_)|(with_reducible refine teP ?_)|(with_reducible refine se ?_)|(with_reducible refine seP ?_)|((with_reducible apply idS);(obtain⟨y,hx,hm⟩:=bindS hm);(try(rcases y with e|y<;>first|(have hm:=G0 hm)|(have hm:=C1 hm))))|((with_reducible apply idT);(obtain⟨y,hx,hm⟩:=bindS hm);(try(rcases y with e|y<;>first|(have hm:=G0 hm)|(have hm:=C1 hm))))|((with_reducible apply s2Z);assumption;exact lsZ;exact rfl;exact gwS;exact rfl;kernel_rfl)|((with_reducible apply twZ);assumption;exact rfl;exact lsZ;exact rfl;exact wt_of rfl rfl gwS;exact rfl;kernel_rfl;kernel_rfl)|(with_reducible exact brs0)|(with_reducible refine brsC ?_ ?_)|((with_reducible apply brZ);assumption;exact lsZ;exact lsZ;exact rfl;kernel_rfl;kernel_rfl;exact gwS;kernel_rfl)|((with_reducible apply zoS);exact hS;exact rfl;exact inferInstance;exact rfl;intro c;exact ctS c hS;(intro v T w im h;(repeat(first|(obtain⟨rfl,h⟩:=h)|(obtain⟨_,h⟩:=h)));(have hS:=(by assumption:Sep _ _ w _))))|((with_reducible apply zoN);exact hS;exact rfl;exact inferInstance;exact rfl;intro c;exact ctS c hS;(intro v T w im h;(repeat(first|(obtain⟨rfl,h⟩:=h)|(obtain⟨_,h⟩:=h)));(have hS:=(by assumption:Sep _ _ w _))))|((with_reducible apply zoE);exact hS;assumption;exact rfl;exact inferInstance;exact rfl;intro c;exact ctS c hS;(intro v T w im h;(repeat(first|(obtain⟨rfl,h⟩:=h)|(obtain⟨_,h⟩:=h)));(have hS:=(by assumption:Sep _ _ w _))))|((with_reducible apply zoK);exact hS;exact rfl;exact inferInstance;exact rfl;intro c;exact ctS c hS;exact rfl;(intro v T w im h;(repeat(first|(obtain⟨rfl,h⟩:=h)|(obtain⟨_,h⟩:=h)));(have hS:=(by assumption:Sep _ _ w _))))|((with_reducible apply zoKN);exact hS;exact rfl;exact inferInstance;exact rfl;intro c;exact ctS c hS;exact rfl;(intro v T w im h;(repeat(first|(obtain⟨rfl,h⟩:=h)|(obtain⟨_,h⟩:=h)));(have hS:=(by assumption:Sep _ _ w _))))|((with_reducible apply zost);exact hS;exact rfl;exact atS;exact tyS;exact rfl;exact lsS;exact rfl;exact rfl;exact rfl;intro w im hS)|((with_reducible apply zosb);exact hS;exact rfl;exact lnS;exact atS;exact tyS;exact rfl;exact lsS;exact rfl;exact rfl;exact rfl;intro w im hS)|((with_reducible apply zoal);exact hS;exact tyZ;exact lsS;intro w b im hS)|((with_reducible apply zobx);exact hS;exact rfl;exact lsS;intro w b im hS)|((with_reducible apply(zobs 1));exact hS;assumption;(first|exact⟨mkS,qZt⟩|exact⟨mkS,mkS,qZt⟩|exact⟨mkS,mkS,mkS,qZt⟩|exact⟨mkS,mkS,mkS,mkS,qZt⟩);exact tyU;exact tyS;exact tyZ;exact rfl;exact rfl;exact rfl;exact rfl;kernel_rfl;exact rfl;intro w a m c im hS)|((with_reducible apply(zobs 2));exact hS;assumption;(first|exact⟨mkS,qZt⟩|exact⟨mkS,mkS,qZt⟩|exact⟨mkS,mkS,mkS,qZt⟩|exact⟨mkS,mkS,mkS,mkS,qZt⟩);exact tyU;exact tyS;exact tyZ;exact rfl;exact rfl;exact rfl;exact rfl;kernel_rfl;exact rfl;intro w a m c im hS)|((with_reducible apply(zobs 3));exact hS;assumption;(first|exact⟨mkS,qZt⟩|exact⟨mkS,mkS,qZt⟩|exact⟨mkS,mkS,mkS,qZt⟩|exact⟨mkS,mkS,mkS,mkS,qZt⟩);exact tyU;exact tyS;exact tyZ;exact rfl;exact rfl;exact rfl;exact rfl;kernel_rfl;exact rfl;intro w a m c im hS)|((with_reducible apply(zobs 4));exact hS;assumption;(first|exact⟨mkS,qZt⟩|exact⟨mkS,mkS,qZt⟩|exact⟨mkS,mkS,mkS,qZt⟩|exact⟨mkS,mkS,mkS,mkS,qZt⟩);exact tyU;exact tyS;exact tyZ;exact rfl;exact rfl;exact rfl;exact rfl;kernel_rfl;exact rfl;intro w a m c im hS)|(rcases bc hm with⟨hb,hm⟩|⟨hb,hm⟩))):A:=h hm hS
theorem zk{A:Prop}(h:A:=by
 intro y v T w im h hm
 (repeat(first|(obtain⟨rfl,h⟩:=h)|(obtain⟨_,h⟩:=h)))
 (have hS:=(by assumption:Sep _ _ w _))
 exact zr hm hS):A:=h
theorem zo{A H:Prop}(hm:H)(h:H->A:=by
 intro hm v T w im h
 (repeat(first|(obtain⟨rfl,h⟩:=h)|(obtain⟨_,h⟩:=h)))
 (have hS:=(by assumption:Sep _ _ w _))
 exact zr hm hS):A:=h hm
variable{b1 b2 Y3 Q1x Z9o Z9n Y1k c1 c2 c3 c4 c5 c6 c7 c8 c9 c10 c11 c12 c13 n1 n2 n3 n4 n5 n6 n7 Y2 Q1w Z9e Z9d Y0q oo1 oo2:Nat}{H1 H2 Z6 Q0a Z6j Z6i Z9p:Ab->X1}{a1 a2 a3 a4 a5 a6 a7 a8 a9 a10 a11 a12 a13:OA}{r1 r2:Option Nat}{pv1:Value}
section
variable(a91 a92 a93 a94 a95 a96 a97 a98 a99 a910 a911 a912 a913:OA)(n91 n92 n93 n94 n95 n96 n97 n98 n99 n910 n911 n912 n913 n914 n915 n916 n917 n918 n919 n920 n921 n922 n923 n924 n925 n926 n927 n928 n929:Nat)(H91 H92:Ab->X1)(T91:TP)(w91 w92 w93:World)(pv91:Value)(r91 r92 r93:Option Nat)(R91:List X1)
abbrev Q1(x92:Z0):=(H91 [sv a91 x92.l n91,iv x92.end_.Line,iv x92.end_.Col,iv x92.depth]:X1)
abbrev Q16(x91:Q0):=(Y6c U8 pv91 x91.fun_:X1)
abbrev Q2(x90:Q0):=(X5 x90 H91 H92 n91 n92 a91 n93 n94 a92 n95 n96 a93 n97 n98 a94 n99 n910 r91 r92 a95 n911 n912 a96 n913 n914 pv91++[Q16 pv91 x90]:List X1)
abbrev Q3(x90)(x91)(x95)(x96):=(fun T w v=>∃a3 c3,v= .iface 58 (.agg (N6 x90 x91).toArray)/\Sep w91 T w (R91++[Q1 a3 c3 H91 x95])/\SlR Q7p T w (sv a3 x96 c3) x96/\True:TP->World->Value->Prop)
abbrev Q4(x90)(x91)(x926):=(fun T w v=>∃a11 n9 c11,v= .iface 91 (.agg (N6 x90 x91).toArray)/\Sep w91 T w (R91++(Q2 a11 a91 a92 a93 a94 a95 n91 n92 n9 c11 n93 n94 n95 n96 n97 n98 n99 n910 n911 n912 H91 H92 pv91 r91 r92 x926))/\True:TP->World->Value->Prop)
abbrev Q5(x90:Y0)(x925):=(fun T w v=>∃a27 c27 a28 n19 c28,v= .agg (Q1l x90 a27 c27).toArray/\Sep w91 T w (R91++(Q2 a28 a91 a92 a93 a94 a95 n91 n92 n19 c28 n93 n94 n95 n96 n97 n98 n99 n910 n911 n912 H91 H92 pv91 r91 r92 x925))/\SlR X6 T w (sv a27 x90.term.Kids c27) x90.term.Kids/\True:TP->World->Value->Prop)
abbrev Q6(x93):=(SlR Q7p T91 w91 (sv a91 x93 n91) x93:Prop)
abbrev Q7(x93):=(SlR E3 T91 w91 (sv a91 x93 n91) x93:Prop)
abbrev Q8(x95):=J6 T91 w91 fun T w v=>∃a4 n3 c4,v= .tuple #[]/\Sep w92 T w (R91++[H91 [.slice a4 n3 c4],F5 L9 9 (.slice a4 n3 c4) x95])/\True
abbrev Q9(x93:Z9):=(F5 P6 125 (.slice a91 n91 n92) x93.list:X1)
abbrev Q10(x90:K4)(x925):=(fun T w v=>∃a17 c17 a18 c18 a19 c19 a20 c20 a21 c21 a22 n13 c22,v= .agg (Y1h x90 a17 c17 a18 c18 a19 c19 a20 c20 a21 c21).toArray/\Sep w91 T w (R91++(Q2 a22 a91 a92 a93 a94 a95 n91 n92 n13 c22 n93 n94 n95 n96 n97 n98 n99 n910 n911 n912 H91 H92 pv91 r91 r92 x925))/\SlR X6 T w (sv a17 x90.A c17) x90.A/\SlR X6 T w (sv a18 x90.Post c18) x90.Post/\SlR A8 T w (sv a19 x90.Body c19) x90.Body/\SlR A8 T w (sv a20 x90.Else c20) x90.Else/\SlR Q8m T w (sv a21 x90.Cases c21) x90.Cases/\True:TP->World->Value->Prop)
abbrev Q11(x93):=(SlR X6 T91 w91 (sv a91 x93 n91) x93:Prop)
abbrev Q12:=(Sep w91 T91 w92 (R91++[])/\True:Prop)
abbrev Q53(x93):=(F5 A8 136 (.slice a91 n91 n92) x93:X1)
abbrev Q13(x92:Q0)(x925):=(fun T w v=>∃a33 n19 c33 a34 n20 c34,v= .slice a33 n19 c33/\Sep w91 T w (R91++(X5 x92 H91 H92 n91 n92 a34 n20 c34 a91 n93 n94 a92 n95 n96 a93 n97 n98 r91 r92 a94 n99 n910 a95 n911 n912 pv91++[Q16 pv91 x92,Q53 a33 n19 c33 x925]))/\True:TP->World->Value->Prop)
abbrev Q14(x90):=(.string ⟨x90⟩:Value)
abbrev Q15(x90)(x94)(x95)(x96):=(fun T w v=>∃a3 c3 a4 c4,v= .agg (E9 x90 a3 c3).toArray/\Sep w91 T w (R91++[Q1 a4 c4 H91 x94])/\Q7 a3 c3 T w x95/\Q6 a4 c4 T w x96/\True:TP->World->Value->Prop)
abbrev Q78:=(H91 [.slice a91 n91 n92]:X1)
abbrev Q17(x95):=([X0 R91,Q78 a91 n91 n92 H91,F5 L9 9 (.slice a91 n91 n92) x95]:List X1)
abbrev Q18(x94):=(Sep w91 T91 w92 (R91++X5 x94 H91 H92 n91 n92 a91 n93 n94 a92 n95 n96 a93 n97 n98 a94 n99 n910 r91 r92 a95 n911 n912 a96 n913 n914 pv91)/\True:Prop)
abbrev Q19(x92):=J6 T91 w91 fun T w v=>v= .bool x92/\Q12 T w92 w R91
abbrev Q20(x90)(x91):=(.agg (N6 x90 x91).toArray:Value)
abbrev Q21(x94):=(Sep w91 T91 w92 ([X0 R91]++X5 x94 H91 H92 n91 n92 a91 n93 n94 a92 n95 n96 a93 n97 n98 a94 n99 n910 r91 r92 a95 n911 n912 a96 n913 n914 pv91):Prop)
abbrev Q22(x91):=(K7 n91 (E9 x91 a91 n92):X1)
abbrev Q23(x93):=(SlR Q5t T91 w91 (sv a91 x93 n91) x93:Prop)
abbrev Q24(x98):=(Sep w91 T91 w92 (R91++[Q78 a91 n91 n92 H91,Q9 a91 n91 n92 x98])/\True:Prop)
abbrev Q25(x929):=(Sep w91 T91 w92 ([X0 R91]++(Q2 a91 a92 a93 a94 a95 a96 n91 n92 n93 n94 n95 n96 n97 n98 n99 n910 n911 n912 n913 n914 H91 H92 pv91 r91 r92 x929)):Prop)
abbrev Q26(x93):=(SlR Q2z T91 w91 (sv a91 x93 n91) x93:Prop)
abbrev Q27(x90):=(.agg (E9 x90 a91 n91).toArray:Value)
abbrev Q28(x98):=(Sep w91 T91 w92 [X0 R91,Q78 a91 n91 n92 H91,Q9 a91 n91 n92 x98]:Prop)
abbrev Q29(x92):=J6 T91 w91 fun T w v=>v=iv x92/\Q12 T w92 w R91
abbrev Q30(x97):=(Sep w91 T91 w92 [X0 R91,Q1 a91 n91 H91 x97]:Prop)
abbrev Q31(x92):=J6 T91 w91 fun T w v=>v= .int .u32 x92/\Q12 T w92 w R91
abbrev Q32:=((qZs [59]):Value)
abbrev Q33(x91):=(K7 n91 (Q1l x91 a91 n92):X1)
abbrev Q34(x93)(x94)(x95):=(fun T w v=>∃a10 n2 c10 a11 c11,v= .slice a10 n2 c10/\Sep w91 T w (R91++[Q1 a11 c11 H91 x93,F5 E3 155 (.slice a10 n2 c10) x94])/\Q6 a11 c11 T w x95/\True:TP->World->Value->Prop)
abbrev Q35(x93:J2):=(SlR (N1 .u32) T91 w91 (sv a91 x93.Dims n91) x93.Dims:Prop)
abbrev Q36(x90:Pos):=(.agg #[iv x90.Line,iv x90.Col]:Value)
abbrev Q37(x90)(x91)(x926):=(fun T w v=>∃a9 n9 c9,v= .iface 91 (Q20 x90 x91)/\Q18 a9 a91 a92 a93 a94 a95 n91 n92 n9 c9 n93 n94 n95 n96 n97 n98 n99 n910 n911 n912 H91 H92 T w91 w pv91 r91 r92 R91 x926:TP->World->Value->Prop)
abbrev Q38(x94:K4):=(Q11 a91 n91 T91 w91 x94.Post/\SlR A8 T91 w91 (sv a92 x94.Body n92) x94.Body/\SlR A8 T91 w91 (sv a93 x94.Else n93) x94.Else/\SlR Q8m T91 w91 (sv a94 x94.Cases n94) x94.Cases:Prop)
abbrev Q39(x92:Z4a):=(K7 n91 [sv a91 x92.Globals n92,sv a92 x92.Data n93,sv a93 x92.Codes n94,iv x92.Main]:X1)
abbrev Q40:=((qZs [40]):Value)
abbrev Q41:=((qZs [41]):Value)
abbrev Q42(x91:Y9):=(K7 n91 [iv x91.Kind,iv x91.Fn,.int .u32 x91.Num,iv x91.Var,.bool x91.Global,iv x91.Size,.bool x91.Post,.bool x91.Ptr,.slice a91 n92 n93]:X1)
abbrev Q43(x93):=(F5 L9 9 (.slice a91 n91 n92) x93:X1)
abbrev Q44:=((qZs []):Value)
abbrev Q45(x92)(x912):=J6 T91 w91 fun T w v=>v= .bool x92/\Sep w92 T w (R91++[H91 [pt n91 n92],Q78 a91 n93 n94 H92,Q9 a91 n93 n94 x912])/\True
abbrev Q46(x93):=(SlR Q8v T91 w91 (sv a91 x93 n91) x93:Prop)
abbrev Q47(x91:U3):=(.agg #[sv a91 x91.Structs n91,sv a92 x91.Globals n92,sv a93 x91.Funcs n93]:Value)
abbrev Q48(x98):=([X0 R91,H91 [pt n91 n92],Q78 a91 n93 n94 H92,Q9 a91 n93 n94 x98]:List X1)
abbrev Q49(x90)(x91)(x929):=(fun T w v=>v= .iface 91 (Q20 x90 x91)/\Q18 a91 a92 a93 a94 a95 a96 n91 n92 n93 n94 n95 n96 n97 n98 n99 n910 n911 n912 n913 n914 H91 H92 T w91 w pv91 r91 r92 R91 x929:TP->World->Value->Prop)
abbrev Q50(x93):=(SlR Q3a T91 w91 (sv a91 x93 n91) x93:Prop)
abbrev Q73(x93):=(F5 X6 181 (.slice a91 n91 n92) x93:X1)
abbrev Q51(x91)(x97:K4)(x99)(x922:Q0)(x923):=([K7 n91 (Y8i x91 a91 n92),F5 Q8m 139 (.slice a92 n93 n94) x97.Cases,Y3c (Value.int .u32) Value.bool (.map r91) x99,K7 n95 [iv x97.Kind,.slice a93 n96 n97,sv a94 x97.Post n98,.bool x97.First,sv a95 x97.Body n99,sv a96 x97.Else n910,.slice a92 n93 n94,iv x97.Var],Q73 a93 n96 n97 x97.A,K7 n911 zv5,X0 R91]++(X5 ({x922 with t:=x923}) H91 H92 n912 n913 a97 n914 n915 a98 n916 n917 a99 n918 n919 a910 n920 n921 r92 r93 a911 n922 n923 a912 n924 n925 (pt n926 0)++[Y6c U8 (pt n926 0) x922.fun_]):List X1)
abbrev Q52(x92)(x93)(x97):=J6 T91 w91 fun T w v=>∃a5 n4 c5,v= .tuple #[iv x92,iv x93]/\Q24 a5 n4 c5 H91 T w92 w R91 x97
abbrev Q54:=((qZs [123]):Value)
abbrev Q55:=((qZs [125]):Value)
abbrev Q56(x93:U3):=(SlR Q8a T91 w91 (sv a91 x93.Structs n91) x93.Structs:Prop)
abbrev Q57(x90)(x94)(x95)(x96):=(fun T w v=>∃a32 c32 a33 c33 a34 c34,v= .agg (Z5j x90 a32 c32 a33 c33).toArray/\Sep w91 T w (R91++[Q1 a34 c34 H91 x94])/\Q35 a32 c32 T w x90/\Q7 a33 c33 T w x95/\Q6 a34 c34 T w x96/\True:TP->World->Value->Prop)
abbrev Q58(x93):=(SlR Q3a T91 w91 (sv a91 x93 n91) x93:Prop)
abbrev Q59(x92:U3):=(K7 n91 [sv a91 x92.Structs n92,sv a92 x92.Globals n93,sv a93 x92.Funcs n94]:X1)
abbrev Q60(x92)(x93):=J6 T91 w91 fun T w v=>v= .tuple #[.int .u32 x92,iv x93]/\Q12 T w92 w R91
abbrev Q61(x90)(x93)(x929):=(fun T w v=>∃a10 c10,v= .agg (U4 x90 a10 c10).toArray/\Sep w91 T w (R91++X5 x93 H91 H92 n91 n92 a91 n93 n94 a92 n95 n96 a93 n97 n98 a94 n99 n910 r91 r92 a95 n911 n912 a96 n913 n914 pv91)/\Q11 a10 c10 T w x929/\True:TP->World->Value->Prop)
abbrev Q62(x94:Y0):=(Q11 a91 n91 T91 w91 x94.term.Kids:Prop)
abbrev Q63(x91:J2):=(K7 n91 [iv x91.Pos.Line,iv x91.Pos.Col,Q14 x91.Type_.Word.toArray,Q14 x91.Type_.Name.toArray,iv x91.Type_.Stars,Q14 x91.Name.toArray,.slice a91 n92 n93,.slice a92 n94 n95,.bool x91.Brace]:X1)
abbrev Q64(x91)(x92)(x93)(x94)(x96)(x98):=([(2,pt n91 0),(4,.string ⟨x91⟩),(6,.int .u64 x92),(7,.int .u64 x93),(8,.bool x94),(28,.slice a91 (qQ (N0 x96)) n92),(29,iv (qQ (N0 x96):Int)),(30,iv x98)]:List (Nat×Value))
abbrev Q65(x93)(x94)(x95):=(fun T w v=>∃a22 n5 c22 a23 c23,v= .slice a22 n5 c22/\Sep w91 T w (R91++[Q1 a23 c23 H91 x93,F5 Q2z 71 (.slice a22 n5 c22) x94])/\Q6 a23 c23 T w x95/\True:TP->World->Value->Prop)
abbrev Q66(x90:Q0)(x91):=(X5 ({x90 with t:=x91}) H91 H92 n91 n92 a91 n93 n94 a92 n95 n96 a93 n97 n98 a94 n99 n910 r91 r92 a95 n911 n912 a96 n913 n914 pv91++[Q16 pv91 x90]:List X1)
abbrev Q67(x93:U3):=(SlR Z1z T91 w91 (sv a91 x93.Funcs n91) x93.Funcs:Prop)
abbrev Q68:=([(0,pt n91 n92),(3,pt n93 0),(4,pt n94 0),(5,pt n95 0),(6,pt n96 0)]:List (Nat×Value))
abbrev Q69(x97):=(Sep w91 T91 w92 (R91++[Q1 a91 n91 H91 x97]):Prop)
abbrev Q70(x90):=(.agg (U4 x90 a91 n91).toArray:Value)
abbrev Q71(x92)(x93):=J6 T91 w91 fun T w v=>v= .tuple #[.agg (X1k x92).toArray,iv x93]/\Q12 T w92 w R91
abbrev Q72(x93):=(SlR A8 T91 w91 (sv a91 x93 n91) x93:Prop)
abbrev Q74(x90):=(.agg (Q1l x90 a91 n91).toArray:Value)
abbrev Q75(x91):=(K7 n91 (U4 x91 a91 n92):X1)
abbrev Q76(x94):=(Q6 a91 n91 T91 w91 x94/\True:Prop)
abbrev Q77(x90):=(.agg (Z5j x90 a91 n91 a92 n92).toArray:Value)
abbrev Q79(x91):=(K7 n91 [iv 2,iv 0,.int .u32 0,iv x91,.bool false,iv 0,.bool false,.bool true,.slice none 0 0]:X1)
abbrev Q80(x94):=([K7 n91 zv1,Q22 a91 n92 n93 x94,X0 R91]:List X1)
abbrev Q81(x90)(x925):=(fun T w v=>∃a9 n9 c9,v=iv x90/\Q18 a9 a91 a92 a93 a94 a95 n91 n92 n9 c9 n93 n94 n95 n96 n97 n98 n99 n910 n911 n912 H91 H92 T w91 w pv91 r91 r92 R91 x925:TP->World->Value->Prop)
abbrev Q82(x92)(x94)(x96):=([(0,pt n91 n92),(1,iv x92),(12,.slice a91 (qQ (N0 x94)) n93),(13,iv (qQ (N0 x94):Int)),(14,iv x96)]:List (Nat×Value))
abbrev Q83:=((qZs [58]):Value)
abbrev Q84:=((qZs [44]):Value)
abbrev Q85:=((qZs [91]):Value)
abbrev Q86:=((qZs [93]):Value)
abbrev Q87(x94:V8):=(Q7 a91 n91 T91 w91 x94.A/\Q7 a92 n92 T91 w91 x94.B/\Q7 a93 n93 T91 w91 x94.C/\Q26 a94 n94 T91 w91 x94.Var/\Q23 a95 n95 T91 w91 x94.Body/\Q23 a96 n96 T91 w91 x94.Else/\Q46 a97 n97 T91 w91 x94.Cases/\True:Prop)
abbrev Q88(x91):=(Y3c Y1f (Value.int .i64) (.map r91) x91:X1)
abbrev Q89(x91:Z4a):=(.agg #[sv a91 x91.Globals n91,sv a92 x91.Data n92,sv a93 x91.Codes n93,iv x91.Main]:Value)
abbrev Q90(x90):=(.agg (Z0t x90).toArray:Value)
abbrev Q91:=(K7 n91 [.slice a91 n92 n93]:X1)
abbrev Q92(x92)(x99):=J6 T91 w91 fun T w v=>v=iv x92/\Q24 a91 n91 n92 H91 T w92 w R91 x99
end
theorem kA{A B:Prop}(k:B)(h:Kp B->A:=by
 intro k
 refine pn ?_
 refine sq2 (pu ?_)
 exact k.out):A:=h ⟨k⟩
theorem kB{A B:Prop}(k:B)(h:Kp B->A:=by
 intro k
 refine pn ?_
 refine sq2 (sq2 (pu ?_))
 exact k.out):A:=h ⟨k⟩
theorem kC{A B:Prop}(k:B)(h:Kp B->A:=by
 intro k
 refine pn ?_
 refine sq2 (sq2 (pn ?_))
 exact k.out):A:=h ⟨k⟩
theorem kD{A B:Prop}(k:B)(h:Kp B->A:=by
 intro k
 refine pn ?_
 refine sq2 (pn ?_)
 exact k.out):A:=h ⟨k⟩
theorem kE{A B:Prop}(k:B)(h:Kp B->A:=by
 intro k
 refine pn ?_
 refine sq2 ?_
 exact k.out):A:=h ⟨k⟩
theorem qU{A B:Prop}(k:B)(h:Kp B->A:=by
 intro k
 refine sq2 (pu ?_)
 exact k.out):A:=h ⟨k⟩
theorem qN{A B:Prop}(k:B)(h:Kp B->A:=by
 intro k
 refine sq2 (pn ?_)
 exact k.out):A:=h ⟨k⟩
theorem Q9x{p0:Aa}{p1:Aa}(hS:Sep g T0 w0 [X0 R]):∀r,Q4s p0 p1=some r->
 Cl 79 #[Q14 p0.toArray,Q14 p1.toArray] w0 (Q19 T0 w0 g R r):=by
 intro r hm;refine eN Tryz.func79 Tryz.ntmps79 fun J=>?_;unfold Q4s at hm;exact zr hm hS

instance:Ct 79 @Q9x:=⟨@Q9x,cf79⟩
theorem Q2b{p0:Aa}{p1:Aa}(hS:Sep g T0 w0 [X0 R]):∀r,C7 p0 p1=some r->
 Cl 38 #[Q14 p0.toArray,Q14 p1.toArray] w0 (Q19 T0 w0 g R r):=by
 intro r hm;refine eN Tryz.func38 Tryz.ntmps38 fun J=>?_;unfold C7 at hm;exact zr hm hS

instance:Ct 38 @Q2b:=⟨@Q2b,cf38⟩
theorem Z8w{p0}(hS:Sep g T0 w0 [X0 R]):∀r,Z3l p0=some r->
 Cl 41 #[.int .u8 p0] w0 (Q19 T0 w0 g R r):=by
 intro r hm;refine eN Tryz.func41 Tryz.ntmps41 fun J=>?_;unfold Z3l at hm;exact zr hm hS

instance:Ct 41 @Z8w:=⟨@Z8w,cf41⟩
theorem Z7y{p0:Aa}(hS:Sep g T0 w0 [X0 R]):∀r,Y0v p0=some r->
 Cl 40 #[Q14 p0.toArray,.func (.func 41) #[] #[]] w0 (Q29 T0 w0 g R r):=by
 intro r hm;refine eN Tryz.func40 Tryz.ntmps40 fun J=>?_;unfold Y0v at hm;refine qN ?_;refine qN ?_;refine sq2 (lpJ hm (fun E I m a K=>∃O D,JR (nf 20) g T0 w0 a K O (loopM E m D=some I) [(0,(qZs p0)),(1,.func (.func 41) #[] #[]),(5,iv D)] [X0 R]) (fun _ _ h=>je h (hS.sE [0])) ?_);rintro E U I _ _ _ K ⟨O,D,J,V,rfl,W,_⟩;obtain⟨m1,_,rfl,hm,_⟩:=lrE V U;exact zr hm W

instance:Ct 40 @Z7y:=⟨@Z7y,cf40⟩
theorem Z6f{p0:Aa}(hS:Sep g T0 w0 [X0 R])(hG0:Gi T0 w0 0):∀r,Z4m p0=some r->
 Cl 20 #[Q14 p0.toArray] w0 (Q29 T0 w0 g R r):=by
 intro r hm;refine eN Tryz.func20 Tryz.ntmps20 fun J=>?_;unfold Z4m at hm;refine qN ?_;refine sq2 (qU ?_);refine cB cf38 hm (Q2b (hS.bE [0] [])) ?_;rintro _ _ _ _ O ⟨rfl,I,_⟩ hm;refine cd hm ?_ ?_<;>intro ab hm
 . refine sq2 (sq2 ?_);obtain⟨_,U,hm⟩:=bindS hm;refine cS cf39 (Z5o (I.bE [0] []) (hG0.mono O) U) ?_;rintro _ _ _ _ ⟨rfl,D,_⟩;have D:=D.unb;refine pn ?_;refine sq2 (cd hm ?_ ?_)<;>intro ac hm
   . exact sq2 (re hm (D.sE [0]))
   refine pn ?_;exact sq2 (re hm (D.sE [0]))
 refine kB ?_;refine cB cf38 hm (Q2b (I.bE [0] [])) ?_;rintro _ _ _ _ _ ⟨rfl,K,_⟩ hm;refine cd hm ?_ ?_<;>intro ad hm
 . refine sq2 ?_;obtain⟨u1,V,hm⟩:=bindS hm;obtain⟨_,W,hm⟩:=bindS hm;refine pu ?_;refine pv (r_ss rfl ⟨_,rfl⟩ rfl V underlying9) (cS cf39 (Z5o (K.bE [0] []) (hG0.mono ch) W) ?_);rintro _ _ _ _ ⟨rfl,E,_⟩;have E:=E.unb;refine pn ?_;refine sq2 (sq2 (cd hm ?_ ?_))<;>intro ae hm
   . exact sq2 (re hm (E.sE [0]))
   refine pn ?_;exact sq2 (re hm (E.sE [0]))
 refine kA ?_;refine cB cf40 hm (Z7y (K.bE [0] [])) ?_;rintro _ _ _ _ _ ⟨rfl,aa,_⟩ hm;exact re hm (aa.sE [0])

instance:Ct 20 @Z6f:=⟨@Z6f,cf20⟩
theorem Q8x{p0:M3}{p1}(hS:Sep g T0 w0 [X0 R,Z6 (Z3t p0)])(Z1:Ln Y3 Y2 Z6):∀r,Q1k p0 p1=some r->
 Cl 21 #[pt Y3 Y2,iv p1] w0 (J6 T0 w0 fun T w v=>v= .tuple #[]/\Sep g T w (R++[Z6 (Z3t r)])/\True):=by
 intro r hm;refine eN Tryz.func21 Tryz.ntmps21 fun J=>?_;unfold Q1k at hm;refine sq2 (sq2 ?_);obtain⟨u1,ad,hm⟩:=bindS hm;obtain⟨_,ae,hm⟩:=bindS hm;refine pu ?_;refine pv (r_ss rfl rfl ⟨_,rfl⟩ ad underlying9) (wl rfl (cvB hS rfl underlying9 underlying93 underlying5 (K9 ae) fun T1 w1 a1 c1 ao ah h1=>pn ?_));refine lpJ hm (fun U V m a E=>∃I K D,JR (nf 49) g T1 w1 a E I (loopM U m (D,K)=some V) (Q82 a1 Y3 Y2 c1 p1 u1 D) [X0 R,Z6 (Z3t K)]) (fun _ _ h=>je h (ah.sE [0,1])) ?_;rintro U ai V _ _ _ E ⟨I,K,D,J,aj,rfl,W,_⟩;obtain⟨m1,z1,rfl,hm,am⟩:=lrE aj ai;refine qN ?_;refine sq2 (cd hm ?_ ?_)<;>intro ap hm
 . refine pn ?_;refine O1 hm (fun aa a w3=>∃T3 O,JR (nf 49) g I E a w3 T3 (aa O=some z1) (Q82 a1 Y3 Y2 c1 p1 u1 D) [X0 R,Z6 (Z3t O)]) (fun aa hm=>?_) ?_
   . exact zr hm W
   rintro _ w3 ⟨T3,O,J,hm,rfl,an,_⟩;exact lg hm am (an.sE [0,1])
 exact zr hm W

instance:Ct 21 @Q8x:=⟨@Q8x,cf21⟩
theorem Z4z{p0}(hS:Sep g T0 w0 [X0 R]):∀r,Z2w p0=some r->
 Cl 42 #[.int .u8 p0] w0 (Q19 T0 w0 g R r):=by
 intro r hm;refine eN Tryz.func42 Tryz.ntmps42 fun J=>?_;unfold Z2w at hm;exact zr hm hS

instance:Ct 42 @Z4z:=⟨@Z4z,cf42⟩
theorem Y2p{p0}(hS:Sep g T0 w0 [X0 R]):∀r,Z2x p0=some r->
 Cl 45 #[.int .u8 p0] w0 (Q19 T0 w0 g R r):=by
 intro r hm;refine eN Tryz.func45 Tryz.ntmps45 fun J=>?_;unfold Z2x at hm;exact zr hm hS

instance:Ct 45 @Y2p:=⟨@Y2p,cf45⟩
theorem Y4c{p0}(hS:Sep g T0 w0 [X0 R]):∀r,Y0x p0=some r->
 Cl 43 #[.int .u8 p0] w0 (Q19 T0 w0 g R r):=by
 intro r hm;refine eN Tryz.func43 Tryz.ntmps43 fun J=>?_;unfold Y0x at hm;exact zr hm hS

instance:Ct 43 @Y4c:=⟨@Y4c,cf43⟩
theorem Z2a{p0:Aa}(hS:Sep g T0 w0 [X0 R]):∀r,Z1b p0=some r->
 Cl 40 #[Q14 p0.toArray,.func (.func 43) #[] #[]] w0 (Q29 T0 w0 g R r):=by
 intro r hm;refine eN Tryz.func40 Tryz.ntmps40 fun J=>?_;unfold Z1b at hm;refine qN ?_;refine qN ?_;refine sq2 (lpJ hm (fun E I m a K=>∃O D,JR (nf 20) g T0 w0 a K O (loopM E m D=some I) [(0,(qZs p0)),(1,.func (.func 43) #[] #[]),(5,iv D)] [X0 R]) (fun _ _ h=>je h (hS.sE [0])) ?_);rintro E U I _ _ _ K ⟨O,D,J,V,rfl,W,_⟩;obtain⟨m1,_,rfl,hm,_⟩:=lrE V U;exact zr hm W

instance:Ct 40 @Z2a:=⟨@Z2a,cf40⟩
theorem Y4f{p0:Aa}(hS:Sep g T0 w0 [X0 R]):∀r,Z5a p0=some r->
 Cl 44 #[Q14 p0.toArray] w0 (Q19 T0 w0 g R r):=by
 intro r hm;refine eN Tryz.func44 Tryz.ntmps44 fun J=>?_;unfold Z5a at hm;refine qN ?_;refine sq2 (qN ?_);refine blk (O1 hm (fun E a I=>∃K D,JR (nf 23) g T0 w0 a I K (E D=some r) [(4,.bool D)] [X0 R]) (fun E hm=>?_) ?_)
 . exact zr hm hS
 rintro _ I ⟨K,D,J,hm,rfl,O,_⟩;exact zr hm O

instance:Ct 44 @Y4f:=⟨@Y4f,cf44⟩
theorem Y2o{p0}(hS:Sep g T0 w0 [X0 R]):∀r,Q5k p0=some r->
 Cl 81 #[.int .u8 p0] w0 (J6 T0 w0 fun T w v=>v= .int .u64 r/\Q12 T g w R):=by
 intro r hm;refine eN Tryz.func81 Tryz.ntmps81 fun J=>?_;unfold Q5k at hm;exact zr hm hS

instance:Ct 81 @Y2o:=⟨@Y2o,cf81⟩
theorem Y0w{p0:Aa}(hS:Sep g T0 w0 [X0 R]):∀r,Z1c p0=some r->
 Cl 46 #[Q14 p0.toArray] w0 (Q71 T0 w0 g R r.1 r.2):=by
 intro r hm;refine eN Tryz.func46 Tryz.ntmps46 fun J=>?_;unfold Z1c at hm;refine sq2 (aL zv9 hS ?_);intro _ D _ an;refine kA ?_;refine cB cf40 hm (Z2a (an.bE [0,1] [])) ?_;rintro _ _ T1 w2 _ ⟨rfl,aq,_⟩ hm;obtain⟨u1,ar,hm⟩:=bindS hm;refine pv (r_ss rfl rfl ⟨_,rfl⟩ ar underlying9) (pn ?_);refine qN ?_;refine O1 hm (fun ac a w3=>∃T2 E I,JR (nf 54) g T1 w2 a w3 T2 (ac E I=some r) [(2,pt D 0),(4,(qZs u1)),(5,(qZs E)),(6,.int .u64 I)] [K7 D zv9,X0 R]) (fun ac hm=>?_) ?_
 . exact zr hm aq
 rintro _ w3 ⟨T2,E,I,J,hm,rfl,af,_⟩;refine sq2 (sq2 (cd hm ?_ ?_))<;>intro aD hm
 . exact zr hm af
 refine kD ?_;refine qN ?_;refine sq2 (sq2 ?_);obtain⟨_,au,hm⟩:=bindS hm;refine pu ?_;refine wl rfl (cvB af rfl underlying9 underlying93 underlying5 (K9 au) fun T5 w7 a1 c1 aE ax h1=>pn ?_);refine lpJ hm (fun ag o1 m a O=>∃U V W K,JR (nf 54) g T5 w7 a O U (loopM ag m (V,W,K)=some o1) (Q64 a1 D c1 u1.toArray I V W E K) [K7 D zv9,X0 R]) (fun _ _ h=>je h (ax.sE [0,1])) ?_;rintro ag ay o1 _ _ _ O ⟨U,V,W,K,J,az,rfl,ai,_⟩;obtain⟨m1,z1,rfl,hm,aB⟩:=lrE az ay;refine qN ?_;refine sq2 (cd hm ?_ ?_)<;>intro aF hm
 . refine pn ?_;refine O1 hm (fun aj a w9=>∃T7 x6 x7,JR (nf 54) g U O a w9 T7 (aj x6 x7=some z1) (Q64 a1 D c1 u1.toArray I x6 x7 E K) [K7 D zv9,X0 R]) (fun aj hm=>?_) ?_
   . exact zr hm ai
   rintro _ w9 ⟨T7,x6,x7,J,hm,rfl,aC,_⟩;exact lg hm aB (aC.sE [0,1])
 exact zr hm ai

instance:Ct 46 @Y0w:=⟨@Y0w,cf46⟩
theorem Y0y{p0}(hS:Sep g T0 w0 [X0 R]):∀r,Z1d p0=some r->
 Cl 82 #[.int .u8 p0] w0 (J6 T0 w0 fun T w v=>v= .tuple #[.int .u8 r.1,.bool r.2]/\Q12 T g w R):=by
 intro r hm;refine eN Tryz.func82 Tryz.ntmps82 fun J=>?_;unfold Z1d at hm;refine qN ?_;refine sq2 (qN ?_);refine blk (sq2 (cd hm ?_ ?_))<;>intro U hm
 . exact sq2 (re hm (hS.sE [0]))
 refine sq2 (cd hm ?_ ?_)<;>intro V hm
 . exact sq2 (re hm (hS.sE [0]))
 refine sq2 (cd hm ?_ ?_)<;>intro W hm
 . exact sq2 (re hm (hS.sE [0]))
 refine sq2 (cd hm ?_ ?_)<;>intro aa hm
 . exact sq2 (re hm (hS.sE [0]))
 refine O1 hm (fun E a I=>∃K D,JR (nf 17) g T0 w0 a I K (E D=some r) [(0,.int .u8 p0),(13,.bool D)] [X0 R]) (fun E hm=>?_) ?_
 . exact zr hm hS
 rintro _ I ⟨K,D,J,hm,rfl,O,_⟩;exact zr hm O

instance:Ct 82 @Y0y:=⟨@Y0y,cf82⟩
theorem Y4e{p0:Aa}(hS:Sep g T0 w0 [X0 R]):∀r,Q2s p0=some r->
 Cl 47 #[Q14 p0.toArray] w0 (Q71 T0 w0 g R r.1 r.2):=by
 intro r hm;refine eN Tryz.func47 Tryz.ntmps47 fun J=>?_;unfold Q2s at hm;refine sq2 (aL zv9 hS ?_);intro _ I _ D;refine kB ?_
 rcases bc hm with⟨aj,hm⟩|⟨aj,hm⟩
 . obtain⟨u1,K,hm⟩:=bindS hm;refine pu ?_;refine pv (Z7q rfl rfl K underlying9) (pu ?_)
   rcases bc hm with⟨ak,hm⟩|⟨ak,hm⟩
   . obtain⟨_,am,hm⟩:=bindS hm;refine pu ?_;refine pv (Z7q rfl rfl am underlying9) (cd hm ?_ ?_)<;>intro aY hm
     . exact zr hm D
     refine kB ?_
     rcases bc hm with⟨an,hm⟩|⟨an,hm⟩
     . obtain⟨_,ao,hm⟩:=bindS hm;refine pu ?_;refine pv (Z7q rfl rfl ao underlying9) (pu ?_)
       rcases bc hm with⟨ap,hm⟩|⟨ap,hm⟩
       . obtain⟨u6,O,hm⟩:=bindS hm;obtain rfl:u1=u6:=oI (K.symm.trans O);refine pu ?_;refine pv (Z7q rfl rfl O underlying9) (pu ?_)
         rcases bc hm with⟨ar,hm⟩|⟨ar,hm⟩
         . obtain⟨u7,U,hm⟩:=bindS hm;obtain rfl:u1=u7:=oI (O.symm.trans U);refine pu ?_;refine pv (Z7q rfl rfl U underlying9) (pu ?_)
           rcases bc hm with⟨av,hm⟩|⟨av,hm⟩
           . obtain⟨u8,V,hm⟩:=bindS hm;obtain rfl:u1=u8:=oI (U.symm.trans V);refine pu ?_;refine pv (Z7q rfl rfl V underlying9) (pu ?_)
             rcases bc hm with⟨ax,hm⟩|⟨ax,hm⟩
             . obtain⟨u9,ae,hm⟩:=bindS hm;obtain rfl:u1=u9:=oI (V.symm.trans ae);refine pu ?_;refine pv (Z7q rfl rfl ae underlying9) (pu ?_);refine nil (B0 [(0,(qZs p0)),(2,pt I 0),(59,.bool ((UInt8.toNat u1:Int)!=92))] ⟨rfl,rfl,rfl,qZt⟩ fun J=>?_);refine cd hm ?_ ?_<;>intro aZ hm
               . refine sq2 (rsS [0,0,0,0,0,0,2,0] [0,1,2,3,4,5,6,7] D fun w5 a3 az=>?_);have dd:KD [(6,[])]:=⟨qZt⟩;exact zr hm az
               exact zr hm D
             exact zr hm D
           exact zr hm D
         exact zr hm D
       exact zr hm D
     exact zr hm D
   refine pn ?_;refine cnd (b:=false) rfl (fun h=>nomatch h) (fun _=>pn ?_);refine sq2 (qU ?_)
   rcases bc hm with⟨aA,hm⟩|⟨aA,hm⟩
   . obtain⟨_,aB,hm⟩:=bindS hm;refine pu ?_;refine pv (Z7q rfl rfl aB underlying9) (pu ?_)
     rcases bc hm with⟨aC,hm⟩|⟨aC,hm⟩
     . obtain⟨aD,W,hm⟩:=bindS hm;obtain rfl:u1=aD:=oI (K.symm.trans W);refine pu ?_;refine pv (Z7q rfl rfl W underlying9) (pu ?_)
       rcases bc hm with⟨aE,hm⟩|⟨aE,hm⟩
       . obtain⟨aF,aa,hm⟩:=bindS hm;obtain rfl:u1=aF:=oI (W.symm.trans aa);refine pu ?_;refine pv (Z7q rfl rfl aa underlying9) (pu ?_)
         rcases bc hm with⟨aG,hm⟩|⟨aG,hm⟩
         . obtain⟨aI,ab,hm⟩:=bindS hm;obtain rfl:u1=aI:=oI (aa.symm.trans ab);refine pu ?_;refine pv (Z7q rfl rfl ab underlying9) (pu ?_)
           rcases bc hm with⟨aJ,hm⟩|⟨aJ,hm⟩
           . obtain⟨aK,ag,hm⟩:=bindS hm;obtain rfl:u1=aK:=oI (ab.symm.trans ag);refine pu ?_;refine pv (Z7q rfl rfl ag underlying9) (pu ?_);refine nil (B0 [(0,(qZs p0)),(2,pt I 0),(59,.bool ((UInt8.toNat u1:Int)!=92))] ⟨rfl,rfl,rfl,qZt⟩ fun J=>?_);refine cd hm ?_ ?_<;>intro a4 hm
             . refine sq2 (rsS [0,0,0,0,0,0,2,0] [0,1,2,3,4,5,6,7] D fun a5 a6 aM=>?_);have dd:KD [(6,[])]:=⟨qZt⟩;exact zr hm aM
             exact zr hm D
           exact zr hm D
         exact zr hm D
       exact zr hm D
     exact zr hm D
   exact zr hm D
 refine pn ?_;refine cnd (b:=false) rfl (fun h=>nomatch h) (fun _=>pn ?_);refine sq2 (qU ?_)
 rcases bc hm with⟨aN,hm⟩|⟨aN,hm⟩
 . obtain⟨_,aP,hm⟩:=bindS hm;refine pu ?_;refine pv (Z7q rfl rfl aP underlying9) (pu ?_)
   rcases bc hm with⟨aQ,hm⟩|⟨aQ,hm⟩
   . obtain⟨E,ah,hm⟩:=bindS hm;refine pu ?_;refine pv (Z7q rfl rfl ah underlying9) (pu ?_)
     rcases bc hm with⟨aR,hm⟩|⟨aR,hm⟩
     . obtain⟨aS,ac,hm⟩:=bindS hm;obtain rfl:E=aS:=oI (ah.symm.trans ac);refine pu ?_;refine pv (Z7q rfl rfl ac underlying9) (pu ?_)
       rcases bc hm with⟨aT,hm⟩|⟨aT,hm⟩
       . obtain⟨aU,ad,hm⟩:=bindS hm;obtain rfl:E=aU:=oI (ac.symm.trans ad);refine pu ?_;refine pv (Z7q rfl rfl ad underlying9) (pu ?_)
         rcases bc hm with⟨aV,hm⟩|⟨aV,hm⟩
         . obtain⟨aW,ai,hm⟩:=bindS hm;obtain rfl:E=aW:=oI (ad.symm.trans ai);refine pu ?_;refine pv (Z7q rfl rfl ai underlying9) (pu ?_);refine nil (B0 [(0,(qZs p0)),(2,pt I 0),(59,.bool ((UInt8.toNat E:Int)!=92))] ⟨rfl,rfl,rfl,qZt⟩ fun J=>?_);refine cd hm ?_ ?_<;>intro a7 hm
           . refine sq2 (rsS [0,0,0,0,0,0,2,0] [0,1,2,3,4,5,6,7] D fun a8 a9 aX=>?_);have dd:KD [(6,[])]:=⟨qZt⟩;exact zr hm aX
           exact zr hm D
         exact zr hm D
       exact zr hm D
     exact zr hm D
   exact zr hm D
 exact zr hm D

instance:Ct 47 @Y4e:=⟨@Y4e,cf47⟩
theorem Y4d{p0:Aa}(hS:Sep g T0 w0 [X0 R]):∀r,Z6v p0=some r->
 Cl 48 #[Q14 p0.toArray] w0 (J6 T0 w0 fun T w v=>v=(qZs r)/\Q12 T g w R):=by
 intro r hm;refine eN Tryz.func48 Tryz.ntmps48 fun J=>?_;unfold Z6v at hm;refine qN ?_;refine qU ?_;refine pv (P3 (by kernel_rfl) rfl (u:= .agg #[qZs [60,60,61],qZs [62,62,61],qZs [45,62],qZs [43,43],qZs [45,45],qZs [60,60],qZs [62,62],qZs [60,61],qZs [62,61],qZs [61,61],qZs [33,61],qZs [38,38],qZs [124,124],qZs [43,61],qZs [45,61],qZs [42,61],qZs [47,61],qZs [37,61],qZs [38,61],qZs [124,61],qZs [94,61],qZs [43],qZs [45],qZs [42],qZs [47],qZs [37],qZs [38],qZs [124],qZs [94],qZs [126],qZs [33],qZs [60],qZs [62],qZs [61],qZs [63],qZs [58],qZs [59],qZs [44],qZs [46],qZs [40],qZs [41],qZs [91],qZs [93],qZs [123],qZs [125]])) (aL [qZs [],qZs [],qZs [],qZs [],qZs [],qZs [],qZs [],qZs [],qZs [],qZs [],qZs [],qZs [],qZs [],qZs [],qZs [],qZs [],qZs [],qZs [],qZs [],qZs [],qZs [],qZs [],qZs [],qZs [],qZs [],qZs [],qZs [],qZs [],qZs [],qZs [],qZs [],qZs [],qZs [],qZs [],qZs [],qZs [],qZs [],qZs [],qZs [],qZs [],qZs [],qZs [],qZs [],qZs [],qZs []] hS ?_);intro _ _ _ aa;refine sT 0 aa ?_;intro w2 _ ac;refine kC ?_;refine lpJ hm (fun E I m a K=>∃O D,JR (nf 16) g T0 w2 a K O (loopM E m D=some I) [(0,(qZs p0)),(7,.agg #[qZs [60,60,61],qZs [62,62,61],qZs [45,62],qZs [43,43],qZs [45,45],qZs [60,60],qZs [62,62],qZs [60,61],qZs [62,61],qZs [61,61],qZs [33,61],qZs [38,38],qZs [124,124],qZs [43,61],qZs [45,61],qZs [42,61],qZs [47,61],qZs [37,61],qZs [38,61],qZs [124,61],qZs [94,61],qZs [43],qZs [45],qZs [42],qZs [47],qZs [37],qZs [38],qZs [124],qZs [94],qZs [126],qZs [33],qZs [60],qZs [62],qZs [61],qZs [63],Q83,Q32,Q84,qZs [46],Q40,Q41,Q85,Q86,Q54,Q55]),(8,iv D)] [X0 R]) (fun _ _ h=>je h (ac.sE [1])) ?_;rintro E ad I ae _ _ K ⟨O,D,J,af,rfl,U,_⟩;obtain⟨m1,_,rfl,hm,V⟩:=lrE af ad;refine qN ?_;refine sq2 (cd hm ?_ ?_)<;>intro ah hm
 . refine kE ?_;refine blk (sq2 ?_);obtain⟨u1,ag,hm⟩:=bindS hm;refine pu ?_;refine pv (r_axi rfl rfl (idx_map (fun z:Aa=>(qZs z)) ag) rfl underlying185 sizeOf9 isAgg9) (pn ?_);refine qU ?_;refine cB cf38 hm (Q2b (U.bE [0] [])) ?_;rintro _ _ _ _ _ ⟨rfl,W,_⟩ hm;refine cd hm ?_ ?_<;>intro ai hm
   . refine qN ?_;have hm:=Q5e hm V ae;exact re hm (W.sE [0])
   exact lg hm V (W.sE [0])
 exact zr hm U

instance:Ct 48 @Y4d:=⟨@Y4d,cf48⟩
theorem Z6e{p0:Aa}(hS:Sep g T0 w0 [X0 R]):∀r,Q0r p0=some r->
 Cl 22 #[Q14 p0.toArray] w0 (Q71 T0 w0 g R r.1 r.2):=by
 intro r hm;refine eN Tryz.func22 Tryz.ntmps22 fun J=>?_;unfold Q0r at hm;refine sq2 (aL zv9 hS ?_);intro _ E _ aa;refine kE ?_;refine blk (sq2 ?_);obtain⟨u1,ab,hm⟩:=bindS hm;refine pu ?_;refine pv (Z7q rfl rfl ab underlying9) (cB cf42 hm (Z4z (aa.bE [0,1] [])) ?_);rintro _ _ _ _ _ ⟨rfl,I,_⟩ hm;refine cd hm ?_ ?_<;>intro aj hm
 . refine qU ?_;refine cB cf40 hm (Z2a (I.bE [0,1] [])) ?_;rintro _ _ T2 _ _ ⟨rfl,ad,_⟩ hm;refine pn ?_;refine sq2 ?_;obtain⟨u2,af,hm⟩:=bindS hm;refine pu ?_;refine pv (r_ss rfl rfl ⟨_,rfl⟩ af underlying9) (pv (P3 (by kernel_rfl) rfl (u:= .agg #[iv 1,qZs u2,.int .u32 0,iv 0,iv 0])) (aL zv9 ad ?_));intro _ K _ ag;refine sT 0 ag ?_;intro w5 _ O;refine pn ?_;refine sq2 (sq2 (cd hm ?_ ?_))<;>intro ak hm
   . exact zr hm O
   refine pn ?_;refine O1 hm (fun U a V=>∃W D,JR (nf 48) g T2 w5 a V W (U D=some r) [(2,pt E 0),(5,pt K 0)] [K7 K (X1k D),K7 E zv9,X0 R]) (fun U hm=>?_) ?_
   . exact zr hm O
   rintro _ V ⟨W,D,J,hm,rfl,ai,_⟩;exact zr hm ai
 exact zr hm I

instance:Ct 22 @Z6e:=⟨@Z6e,cf22⟩
theorem Y0z{p0:Aa}(hS:Sep g T0 w0 [X0 R])(hG0:Gi T0 w0 0):∀r,Z7z p0=some r->
 Cl 9 #[Q14 p0.toArray] w0 (J6 T0 w0 fun T w v=>∃a4 n4 c4,v= .tuple #[.slice a4 n4 c4,Q36 r.2.1,iv r.2.2]/\Sep g T w (R++[F5 Q7p 102 (.slice a4 n4 c4) r.1])/\True):=by
 intro r hm;refine eN Tryz.func9 Tryz.ntmps9 fun J=>?_;unfold Z7z at hm;refine sq2 (aL [iv 0,iv 0] hS ?_);intro _ I _ ai;refine kA ?_;refine pv (P3 (by kernel_rfl) rfl (u:= .agg #[iv 1,iv 1])) (pv (P3 (by kernel_rfl) rfl (u:= .agg #[qZs p0,iv 1,iv 1])) (bX [qZs p0,iv 1,iv 1] ai ?_));intro w2 K _ ab;refine pn ?_;refine sq2 (sq2 (cd hm ?_ ?_))<;>intro aJ hm
 . refine sq2 (rsS [0,0,0,1,0,2,0] [0,1,2,3,4,5,6] ab fun w3 aM ak=>s2W [0] ?_);refine osT 1 ak ?_;intro _ _ am;refine pn ?_;have an:=am.nilO Q7p 102;exact re hm (an.sE [3,0])
 refine kD ?_;refine sq2 ?_;have ao:=ab.nilO Q7p 102;refine lpJ hm (fun ac o1 m a w5=>∃T1 D V a1 O c1,JR (nf 76) g T0 w2 a w5 T1 (loopM ac m (V,D)=some o1) [(3,pt I 0),(5,pt K 0),(6,.slice a1 O c1)] [F5 Q7p 102 (.slice a1 O c1) V,K7 K (Z3t D),K7 I [iv 0,iv 0],X0 R]) (fun _ _ h=>je h (ao.sN 0 4)) ?_;rintro ac ap o1 W _ _ w5 ⟨T1,D,V,a1,O,c1,J,aq,rfl,ag,_⟩;obtain⟨m1,_,rfl,hm,U⟩:=lrE aq ap;refine sq2 (sq2 (cd hm ?_ ?_))<;>intro aN hm
 . refine pn ?_;refine blk (qU ?_);refine cB cf20 hm (Z6f (ag.bE (Z4 0 4) []) (hG0.mono ch)) ?_;rintro _ _ _ _ _ ⟨rfl,aa,_⟩ hm;refine pn ?_;refine sq2 (sq2 (cd hm ?_ ?_))<;>intro aP hm
   . refine sq2 (rsS [0,0,0,1,0,2,0] [0,1,2,3,4,5,6] aa fun w7 aR ar=>s2W [0] ?_);refine osT 2 ar ?_;intro _ _ au;refine pn ?_;have av:=au.nilO Q7p 102;have hm:=Q5e hm U W;exact re hm (av.sE [4,0])
   refine pn ?_;refine sq2 (sq2 (cd hm ?_ ?_))<;>intro aS hm
   . exact zr hm aa
   refine kA ?_;refine cB cf22 hm (Z6e (aa.bE (Z4 0 4) [])) ?_;rintro E _ _ _ _ ⟨rfl,aw,_⟩ hm;refine aL zv9 aw ?_;intro _ b3 _ ay;refine sT 0 ay ?_;intro _ _ ah;refine pn ?_;refine sq2 (sq2 (cd hm ?_ ?_))<;>intro aT hm
   . refine sq2 (rsS [0,0,0,1,0,0,2,0] [0,1,2,3,4,5,6,7] ah fun aU aV az=>s2W [0] ?_);refine osT 3 az ?_;intro _ _ aA;refine pu ?_;refine se (B0 [(2,.slice none 0 0),(3,pt I 0),(4,iv E.2)] ⟨rfl,rfl,rfl,qZt⟩ fun J=>?_);have aB:=aA.nilO Q7p 102;have hm:=Q5e hm U W;exact re hm (aB.sE [5,0])
   refine skp (B0 [(3,pt I 0),(5,pt K 0),(6,.slice a1 O c1),(8,pt b3 0)] ⟨rfl,rfl,rfl,rfl,qZt⟩ fun J=>sq2 (sT 0 ah ?_));intro _ _ aC;refine kE ?_;refine bS (r:=Q7p) (l:=([{E.1 with Pos:=D.pos}]:List Y8)) (css:=[[iv E.1.Kind,Q14 E.1.Text.toArray,.int .u32 E.1.Num,iv D.pos.Line,iv D.pos.Col]]) aC ⟨(Y7g (x:={E.1 with Pos:=D.pos}):Q7p.rp _ _ _ _),qZt⟩ ?_;intro _ _ _ c2 _ aD;obtain⟨_,aE,hm⟩:=bindS hm;refine aO 2 aD (K9 aE) ?_;intro _ _ _ c3 _ aF;refine pn ?_;refine cB cf21 hm (Q8x (aF.bE [2,4,5] [3]) (Q1j K)) ?_;rintro _ _ _ _ _ ⟨rfl,aG,_⟩ hm;exact lg hm U (aG.sE [0,3,1,2])
 have hm:=Q7b hm U W;refine kE ?_;refine rsS [0,0,0,0,1,0,2,0] [0,1,2,3,4,5,6,7] ag fun aW aX aI=>?_;have dd:KD [(6,[4])]:=⟨qZt⟩;exact zr hm aI

instance:Ct 9 @Y0z:=⟨@Y0z,cf9⟩
theorem I7{p0:Z0}(hS:Q30 a1 c1 Z6 T0 g w0 R p0)(Z1:Ln Y3 Y2 Z6)(h1:Q6 a1 c1 T0 w0 p0.l):∀r,F7 p0=some r->
 Cl 49 #[pt Y3 Y2] w0 (J6 T0 w0 fun T w v=>v= .agg #[iv r.Line,iv r.Col]/\Q69 a1 c1 Z6 T g w R p0/\True):=by
 intro r hm;refine eN Tryz.func49 Tryz.ntmps49 fun J=>?_;unfold F7 at hm;exact zr hm hS

instance:Ct 49 @I7:=⟨@I7,cf49⟩
theorem Q8o{p0:Z0}{p1}{p2:Aa}(hS:Q30 a1 c1 Z6 T0 g w0 R p0)(Z1:Ln Y3 Y2 Z6)(h1:Q6 a1 c1 T0 w0 p0.l):∀r,P1 p0 p1 p2=some r->
 Cl 51 #[pt Y3 Y2,iv p1,Q14 p2.toArray] w0 (J6 T0 w0 fun T w v=>v= .bool r/\Q69 a1 c1 Z6 T g w R p0/\True):=by
 intro r hm;refine eN Tryz.func51 Tryz.ntmps51 fun J=>?_;unfold P1 at hm;exact zr hm hS

instance:Ct 51 @Q8o:=⟨@Q8o,cf51⟩
theorem R7{p0:Z0}{p1:Aa}(hS:Q30 a1 c1 Z6 T0 g w0 R p0)(Z1:Ln Y3 Y2 Z6)(h1:Q6 a1 c1 T0 w0 p0.l):∀r,X8 p0 p1=some r->
 Cl 50 #[pt Y3 Y2,Q14 p1.toArray] w0 (J6 T0 w0 fun T w v=>v= .bool r/\Q69 a1 c1 Z6 T g w R p0/\True):=by
 intro r hm;refine eN Tryz.func50 Tryz.ntmps50 fun J=>?_;unfold X8 at hm;exact zr hm hS

instance:Ct 50 @R7:=⟨@R7,cf50⟩
theorem V2{p0:Z0}{p1:Aa}(hS:Q30 a1 c1 Z6 T0 g w0 R p0)(Z1:Ln Y3 Y2 Z6)(h1:Q6 a1 c1 T0 w0 p0.l):∀r,Y6 p0 p1=some r->
 Cl 83 #[pt Y3 Y2,Q14 p1.toArray] w0 (J6 T0 w0 fun T w v=>∃a3 c3,v= .bool r.1/\Q69 a3 c3 Z6 T g w R r.2/\Q76 a3 c3 T w r.2.l):=by
 intro r hm;refine eN Tryz.func83 Tryz.ntmps83 fun J=>?_;unfold Y6 at hm;exact zr hm hS

instance:Ct 83 @V2:=⟨@V2,Z4j⟩
theorem Z3g{p0:Z0}{p1}(hS:Q30 a1 c1 Z6 T0 g w0 R p0)(Z1:Ln Y3 Y2 Z6)(h1:Q6 a1 c1 T0 w0 p0.l):∀r,Q0m p0 p1=some r->
 Cl 84 #[pt Y3 Y2,iv p1] w0 (exR r (fun r=>J6 T0 w0 fun T w v=>v= .tuple #[]/\Q69 a1 c1 Z6 T g w R p0/\True) (fun r=>L8 T0 w0 fun T w v=>v= .iface 58 (Q20 r.pos r.e)/\Q69 a1 c1 Z6 T g w R p0/\True)):=by
 intro r hm;refine eN Tryz.func84 Tryz.ntmps84 fun J=>?_;unfold Q0m at hm;exact zr hm hS

instance:Ct 84 @Z3g:=⟨@Z3g,cf84⟩
theorem V6{p0:Z0}{p1:Aa}(hS:Q30 a1 c1 Z6 T0 g w0 R p0)(Z1:Ln Y3 Y2 Z6)(h1:Q6 a1 c1 T0 w0 p0.l):∀r,Y7 p0 p1=some r->
 Cl 52 #[pt Y3 Y2,Q14 p1.toArray] w0 (exR r (fun r=>J6 T0 w0 fun T w v=>∃a3 c3,v= .tuple #[]/\Q69 a3 c3 Z6 T g w R r/\Q76 a3 c3 T w r.l) (fun r=>L8 T0 w0 (Q3 Z6 g R r.1.pos r.1.e r.2 r.2.l))):=by
 intro r hm;refine eN Tryz.func52 Tryz.ntmps52 fun J=>?_;unfold Y7 at hm;exact zr hm hS

instance:Ct 52 @V6:=⟨@V6,Z6h⟩
theorem Q8p{p0:Z0}{p1}(hS:Q30 a1 c1 Z6 T0 g w0 R p0)(Z1:Ln Y3 Y2 Z6)(h1:Q6 a1 c1 T0 w0 p0.l):∀r,B4 p0 p1=some r->
 Cl 85 #[pt Y3 Y2,iv p1] w0 (exR r (fun r=>J6 T0 w0 fun T w v=>∃a3 c3,v= .agg (X1k r.1).toArray/\Q69 a3 c3 Z6 T g w R r.2/\Q76 a3 c3 T w r.2.l) (fun r=>L8 T0 w0 (Q3 Z6 g R r.1.pos r.1.e r.2 r.2.l))):=by
 intro r hm;refine eN Tryz.func85 Tryz.ntmps85 fun J=>?_;unfold B4 at hm;refine sq2 (aL zv9 hS ?_);intro O D _ U;refine pn ?_;refine O1 hm (fun E a I=>∃K,JR (nf 40) g T0 O a I K (E ()=some r) [(0,pt Y3 Y2),(4,pt D 0)] [K7 D zv9,X0 R,Q1 a1 c1 Z6 p0]) (fun E hm=>?_) ?_
 . exact zr hm U
 rintro _ I ⟨K,J,hm,rfl,V,_⟩;exact zr hm V

instance:Ct 85 @Q8p:=⟨@Q8p,cf85⟩
theorem P9{p0:Z0}(hS:Q30 a1 c1 Z6 T0 g w0 R p0)(Z1:Ln Y3 Y2 Z6)(h1:Q6 a1 c1 T0 w0 p0.l):∀r,U7 p0=some r->
 Cl 53 #[pt Y3 Y2] w0 (exR r (fun r=>J6 T0 w0 fun T w v=>∃a4 c4,v=(qZs r.1)/\Q69 a4 c4 Z6 T g w R r.2/\Q76 a4 c4 T w r.2.l) (fun r=>L8 T0 w0 (Q3 Z6 g R r.1.pos r.1.e r.2 r.2.l))):=by
 intro r hm;refine eN Tryz.func53 Tryz.ntmps53 fun J=>?_;unfold U7 at hm;exact zr hm hS

instance:Ct 53 @P9:=⟨@P9,cf53⟩
theorem Q8h{p0:Z0}(hS:Q30 a1 c1 Z6 T0 g w0 R p0)(Z1:Ln Y3 Y2 Z6)(h1:Q6 a1 c1 T0 w0 p0.l):∀r,P0 p0=some r->
 Cl 87 #[pt Y3 Y2] w0 (J6 T0 w0 fun T w v=>v= .bool r/\Q69 a1 c1 Z6 T g w R p0/\True):=by
 intro r hm;refine eN Tryz.func87 Tryz.ntmps87 fun J=>?_;unfold P0 at hm;exact zr hm hS

instance:Ct 87 @Q8h:=⟨@Q8h,cf87⟩
theorem D3{p0:Z0}(hS:Q30 a1 c1 Z6 T0 g w0 R p0)(Z1:Ln Y3 Y2 Z6)(h1:Q6 a1 c1 T0 w0 p0.l):∀r,U6 p0=some r->
 Cl 55 #[pt Y3 Y2] w0 (exR r (fun r=>J6 T0 w0 fun T w v=>∃a8 c8,v= .agg (Q9v r.1).toArray/\Q69 a8 c8 Z6 T g w R r.2/\Q76 a8 c8 T w r.2.l) (fun r=>L8 T0 w0 (Q3 Z6 g R r.1.pos r.1.e r.2 r.2.l))):=by
 intro r hm;refine eN Tryz.func55 Tryz.ntmps55 fun J=>?_;unfold U6 at hm;refine sq2 (aL zv10 hS ?_);intro w1 D an ao;refine pn ?_;refine O1 hm (fun af a w2=>∃V,JR (nf 38) g T0 w1 a w2 V (af ()=some r) [(0,pt Y3 Y2),(2,pt D 0)] [K7 D zv10,X0 R,Q1 a1 c1 Z6 p0]) (fun af hm=>?_) ?_
 . exact zr hm ao
 rintro _ w2 ⟨V,J,hm,rfl,ap,aq⟩;refine sq2 ?_;obtain⟨u2,_,hm⟩:=bindS hm;refine pu ?_;refine pv (P3 (by kernel_rfl) rfl (u:= .agg #[qZs u2.Text,qZs [],iv 0])) (aL zv10 ap ?_);intro _ E au av;refine sT 0 av ?_;intro _ aw ax;refine pn ?_;refine sq2 ?_;obtain⟨_,ah,hm⟩:=bindS hm;obtain⟨_,c2,ay,h2⟩:=(h1.mono (iT an (iT aq (iT au aw)))).part ah;refine pu ?_;refine pv (r_slR rfl (mC h1) ⟨_,rfl⟩ rfl ah underlying48 sizeOf102 rfl ay) (sB 3 0 Z1 ax ?_);intro w8 _ aA;refine pn ?_;refine O1 hm (fun ai a I=>∃K O W a3 c3,JR (nf 38) g V w8 a I K (ai W O=some r) [(0,pt Y3 Y2),(2,pt D 0),(3,pt E 0)] [K7 E (Q9v W),K7 D zv10,X0 R,Q1 a3 c3 Z6 O]/\Q6 a3 c3 K I O.l) (fun ai hm=>?_) ?_
 . exact zr hm aA
 rintro _ I ⟨K,O,W,a3,c3,⟨J,hm,rfl,aB,_⟩,h3⟩;refine sq2 (lpJ hm (fun aj o1 m a ab=>∃T8 U x3 a6 c6,JR (nf 38) g K I a ab T8 (loopM aj m (x3,U)=some o1) [(0,pt Y3 Y2),(2,pt D 0),(3,pt E 0)] [K7 E (Q9v x3),K7 D zv10,X0 R,Q1 a6 c6 Z6 U]/\Q6 a6 c6 T8 ab U.l) (fun _ _ h=>je h (aB.sN 0 4)) ?_);rintro aj aC o1 _ _ _ ab ⟨T8,U,x3,a6,c6,⟨J,aD,rfl,aE,_⟩,h6⟩;obtain⟨m1,_,rfl,hm,_⟩:=lrE aD aC;exact zr hm aE

instance:Ct 55 @D3:=⟨@D3,cf55⟩
theorem Q5o{p0:Z0}(hS:Q30 a1 c1 Z6 T0 g w0 R p0)(Z1:Ln Y3 Y2 Z6)(h1:Q6 a1 c1 T0 w0 p0.l):∀r,W0 p0=some r->
 Cl 86 #[pt Y3 Y2] w0 (exR r (fun r=>J6 T0 w0 fun T w v=>∃a11 n4 c11 a12 c12,v= .slice a11 n4 c11/\Sep g T w (R++[Q1 a12 c12 Z6 r.2,F5 (N1 .u32) 100 (.slice a11 n4 c11) r.1])/\Q76 a12 c12 T w r.2.l) (fun r=>L8 T0 w0 (Q3 Z6 g R r.1.pos r.1.e r.2 r.2.l))):=by
 intro r hm;refine eN Tryz.func86 Tryz.ntmps86 fun J=>?_;unfold W0 at hm;refine qN ?_;refine qN ?_;refine sq2 ?_;have ae:=hS.nilO (N1 .u32) 100;refine lpJ hm (fun W o1 m a E=>∃I D K O U c2 V c3,JR (nf 15) g T0 w0 a E I (loopM W m (K,D)=some o1) [(0,pt Y3 Y2),(3,.slice O U c2)] [F5 (N1 .u32) 100 (.slice O U c2) K,X0 R,Q1 V c3 Z6 D]/\Q6 V c3 I E D.l) (fun _ _ h=>je h (ae.sE [0,1,2])) ?_;rintro W af o1 ag _ _ E ⟨I,D,K,O,U,c2,V,c3,⟨J,ah,rfl,ai,_⟩,h2⟩;obtain⟨m1,_,rfl,hm,ab⟩:=lrE ah af;refine sq2 (qU ?_);refine cB Z4j hm (V2 (ai.bE [0,1] [2]) Z1 h2) ?_;rintro _ _ _ _ _ ⟨_,c4,rfl,ac,h3,_⟩ hm;refine cd hm ?_ ?_<;>intro ar hm
 . refine pn ?_;refine blk (qU ?_);refine cP cf85 hm (Q8p (ac.bE [0,1] [2]) Z1 h3) ?_ ?_
   . exact zk
   rintro y2 _ _ _ _ ⟨_,c5,rfl,aj,h4,_⟩ hm;refine pv (r_fd1 rfl underlying102 rfl isAgg100 rfl) (bS (r:=(N1 .u32)) (l:=([y2.1.Num]:List Int)) (css:=[[.int .u32 y2.1.Num]]) aj ⟨rfl,qZt⟩ ?_);intro _ _ _ c6 _ am;obtain⟨_,an,hm⟩:=bindS hm;refine aO 1 am (K9 an) ?_;intro _ _ _ c7 _ ao;refine pn ?_;refine cP Z6h hm (V6 (ao.bE [1,2] [3]) Z1 (mC h4)) ?_ ?_
   . rintro _ _ _ _ _ ⟨_,c9,rfl,ap,h6,_⟩ hm;have hm:=Q5e hm ab ag;exact pe hm (ap.sE [1,2])
   rintro _ _ _ _ _ ⟨_,c8,rfl,aq,_,_⟩ hm;exact lg hm ab (aq.sE [0,1,2])
 exact zr hm ac

instance:Ct 86 @Q5o:=⟨@Q5o,cf86⟩
theorem Q7j{p0:Z0}(hS:Q30 a1 c1 Z6 T0 g w0 R p0)(Z1:Ln Y3 Y2 Z6)(h1:Q6 a1 c1 T0 w0 p0.l):∀r,R8 p0=some r->
 Cl 54 #[pt Y3 Y2] w0 (exR r (fun r=>J6 T0 w0 (Q65 Z6 g R r.2 r.1 r.2.l)) (fun r=>L8 T0 w0 (Q3 Z6 g R r.1.pos r.1.e r.2 r.2.l))):=by
 intro r hm;refine eN Tryz.func54 Tryz.ntmps54 fun J=>?_;unfold R8 at hm;refine qN ?_;refine qN ?_;refine qU ?_;refine cP Z6h hm (V6 (hS.bE [0] [1]) Z1 h1) ?_ ?_
 . exact zk
 rintro _ _ T1 w1 _ ⟨_,c2,rfl,ak,h2,_⟩ hm;refine pn ?_;refine sq2 ?_;have am:=ak.nilO Q2z 71;refine lpJ hm (fun ad o1 m a K=>∃O I U V W c3 a4 c4,JR (nf 30) g T1 w1 a K O (loopM ad m (U,I)=some o1) [(0,pt Y3 Y2),(3,.slice V W c3)] [F5 Q2z 71 (.slice V W c3) U,X0 R,Q1 a4 c4 Z6 I]/\Q6 a4 c4 O K I.l) (fun _ _ h=>je h (am.sE [0,1,2])) ?_;rintro ad an o1 ao _ _ K ⟨O,I,U,V,W,c3,a4,c4,⟨J,ap,rfl,aq,_⟩,h3⟩;obtain⟨m1,_,rfl,hm,af⟩:=lrE ap an;refine sq2 (qU ?_);refine cB Z4j hm (V2 (aq.bE [0,1] [2]) Z1 h3) ?_;rintro _ _ _ _ _ ⟨_,c5,rfl,ag,h4,_⟩ hm;refine cd hm ?_ ?_<;>intro aN hm
 . refine pn ?_;refine blk (qU ?_);refine cB cf49 hm (I7 (ag.bE [0,1] [2]) Z1 h4) ?_;rintro E _ _ _ _ ⟨rfl,ar,_⟩ hm;refine pu ?_;refine cP cf55 hm (D3 (ar.bE [0,1] [2]) Z1 (mC h4)) ?_ ?_
   . exact zk
   rintro D _ _ _ _ ⟨_,c6,rfl,au,h5,_⟩ hm;refine pv (P3 (by kernel_rfl) rfl (u:= .agg #[iv E.Line,iv E.Col,qZs D.1.Word,qZs D.1.Name,iv D.1.Stars,qZs [],.slice none 0 0,.slice none 0 0,.bool false])) (aL zv4 au ?_);intro _ _ _ aw;refine sT 0 aw ?_;intro _ _ ax;refine kA ?_;refine cP cf53 hm (P9 (ax.bE [0,1,2] [3]) Z1 (mC h5)) ?_ ?_
   . exact zk
   rintro y5 _ _ _ _ ⟨_,c7,rfl,ay,h6,_⟩ hm;refine sT 0 ay ?_;intro _ _ az;refine kA ?_;refine cP cf86 hm (Q5o (az.bE [0,1,2] [3]) Z1 (mC h6)) ?_ ?_
   . exact zk
   rintro y6 _ _ _ _ ⟨a8,_,c8,_,c9,rfl,aB,h7,_⟩ hm;refine sT 0 aB ?_;intro _ _ aD;refine kA ?_;refine cP Z6h hm (V6 (aD.bE [0,1,2,4] [3]) Z1 (mC h7)) ?_ ?_
   . rintro _ _ _ _ _ ⟨_,c13,rfl,aE,_,_⟩ hm;have hm:=Q5e hm af ao;exact pe hm (aE.sE [2,4])
   rintro _ _ _ _ _ ⟨_,c10,rfl,aF,_,_⟩ hm;refine pn ?_;obtain⟨_,_,aG,h9,rfl⟩:=aF.sl 3;refine bS (r:=Q2z) (l:=([(⟨E,D.1,y5.1,y6.1,[],false⟩:J2)]:List J2)) (css:=[[iv E.Line,iv E.Col,Q14 D.1.Word.toArray,Q14 D.1.Name.toArray,iv D.1.Stars,Q14 y5.1.toArray,sv a8 y6.1 c8,.slice none 0 0,.bool false]]) aG ⟨(Y0j (x:=(⟨E,D.1,y5.1,y6.1,[],false⟩:J2)) h9 U0:Q2z.rp _ _ _ _),qZt⟩ ?_;intro _ _ _ c11 _ aJ;obtain⟨_,aK,hm⟩:=bindS hm;refine aO 2 aJ (K9 aK) ?_;intro _ _ _ c12 _ aM;exact lg hm af (aM.sE [2,3,5])
 exact zr hm ag

instance:Ct 54 @Q7j:=⟨@Q7j,cf54⟩
theorem Q0n{p0:Z0}(hS:Q30 a1 c1 Z6 T0 g w0 R p0)(Z1:Ln Y3 Y2 Z6)(h1:Q6 a1 c1 T0 w0 p0.l):∀r,D5 p0=some r->
 Cl 118 #[pt Y3 Y2] w0 (exR r (fun r=>J6 T0 w0 fun T w v=>∃b2 a2 c2,v= .func (.func 159) #[] #[pt b2 0]/\Sep g T w (R++[Q1 a2 c2 Z6 r,K7 b2 [pt Y3 Y2]])/\Q76 a2 c2 T w r.l) (fun r=>L8 T0 w0 (Q3 Z6 g R r.1.pos r.1.e r.2 r.2.l))):=by
 intro r hm;refine eN Tryz.func118 Tryz.ntmps118 fun J=>?_;unfold D5 at hm;refine sq2 (bX [pt Y3 Y2] hS ?_);intro O D _ U;refine pv (r_zx (v:= .nilFunc) rfl) (pn ?_);refine O1 hm (fun E a I=>∃K,JR (nf 18) g T0 O a I K (E ()=some r) [(1,pt D 0)] [K7 D [pt Y3 Y2],X0 R,Q1 a1 c1 Z6 p0]) (fun E hm=>?_) ?_
 . exact zr hm U
 rintro _ I ⟨K,J,hm,rfl,V,_⟩;exact zr hm V

instance:Ct 118 @Q0n:=⟨@Q0n,X3h⟩
theorem Q0d{p0:Z0}(hS:Q30 a1 c1 Z6 T0 g w0 R p0)(Z1:Ln Y3 Y2 Z6)(h1:Q6 a1 c1 T0 w0 p0.l):∀r,F6 p0=some r->
 Cl 121 #[pt Y3 Y2] w0 (J6 T0 w0 fun T w v=>v=(qZs r)/\Q69 a1 c1 Z6 T g w R p0/\True):=by
 intro r hm;refine eN Tryz.func121 Tryz.ntmps121 fun J=>?_;unfold F6 at hm;exact zr hm hS

instance:Ct 121 @Q0d:=⟨@Q0d,Y9v⟩
theorem P8{p0:Z0}{p1}(hS:Q30 a1 c1 Z6 T0 g w0 R p0)(Z1:Ln Y3 Y2 Z6)(h1:Q6 a1 c1 T0 w0 p0.l):∀r,V4 p0 p1=some r->
 Cl 122 #[pt Y3 Y2,iv p1] w0 (J6 T0 w0 (Q15 Z6 g R r.1 r.2 r.1.Kids r.2.l)):=by
 intro r hm;refine eN Tryz.func122 Tryz.ntmps122 fun J=>?_;unfold V4 at hm;exact zr hm hS

instance:Ct 122 @P8:=⟨@P8,Y8f⟩
theorem Z6b{p0:Aa}(hS:Sep g T0 w0 [X0 R]):∀r,Q2g p0=some r->
 Cl 186 #[Q14 p0.toArray] w0 (Q29 T0 w0 g R r):=by
 intro r hm;refine eN Tryz.func186 Tryz.ntmps186 fun J=>?_;unfold Q2g at hm;refine qN ?_;refine sq2 (qN ?_);refine blk (sq2 (cd hm ?_ ?_))<;>intro au hm
 . exact sq2 (re hm (hS.sE [0]))
 refine sq2 (cd hm ?_ ?_)<;>intro av hm
 . exact sq2 (re hm (hS.sE [0]))
 refine sq2 (cd hm ?_ ?_)<;>intro aw hm
 . exact sq2 (re hm (hS.sE [0]))
 refine sq2 (cd hm ?_ ?_)<;>intro ax hm
 . exact sq2 (re hm (hS.sE [0]))
 refine sq2 (cd hm ?_ ?_)<;>intro ay hm
 . exact sq2 (re hm (hS.sE [0]))
 refine O1 hm (fun af a D=>∃E I,JR (nf 32) g T0 w0 a D E (af I=some r) [(3,(qZs p0)),(14,.bool I)] [X0 R]) (fun af hm=>?_) ?_
 . exact zr hm hS
 rintro _ D ⟨E,I,J,hm,rfl,ag,_⟩;refine cd hm ?_ ?_<;>intro az hm
 . exact sq2 (re hm (ag.sE [0]))
 refine O1 hm (fun ah a K=>∃O U,JR (nf 32) g E D a K O (ah U=some r) [(3,(qZs p0)),(17,.bool U)] [X0 R]) (fun ah hm=>?_) ?_
 . exact zr hm ag
 rintro _ K ⟨O,U,J,hm,rfl,ai,_⟩;refine cd hm ?_ ?_<;>intro aA hm
 . exact sq2 (re hm (ai.sE [0]))
 refine O1 hm (fun aj a V=>∃W x3,JR (nf 32) g O K a V W (aj x3=some r) [(3,(qZs p0)),(22,.bool x3)] [X0 R]) (fun aj hm=>?_) ?_
 . exact zr hm ai
 rintro _ V ⟨W,x3,J,hm,rfl,ak,_⟩;refine cd hm ?_ ?_<;>intro aB hm
 . exact sq2 (re hm (ak.sE [0]))
 refine O1 hm (fun am a w4=>∃T4 x4,JR (nf 32) g W V a w4 T4 (am x4=some r) [(3,(qZs p0)),(25,.bool x4)] [X0 R]) (fun am hm=>?_) ?_
 . exact zr hm ak
 rintro _ w4 ⟨T4,x4,J,hm,rfl,an,_⟩;refine cd hm ?_ ?_<;>intro aC hm
 . exact sq2 (re hm (an.sE [0]))
 refine O1 hm (fun ao a w5=>∃T5 x5,JR (nf 32) g T4 w4 a w5 T5 (ao x5=some r) [(28,.bool x5)] [X0 R]) (fun ao hm=>?_) ?_
 . exact zr hm an
 rintro _ w5 ⟨T5,x5,J,hm,rfl,ar,_⟩;exact zr hm ar

instance:Ct 186 @Z6b:=⟨@Z6b,cf186⟩
theorem Q6e{p0:Z0}(hS:Sep g T0 w0 [X0 R,Z6 [pt b1 oo1],Q1 a1 c1 H1 p0])(Z1:Ln Y3 Y2 Z6)(hL1:Ln b1 oo1 H1)(h1:Q6 a1 c1 T0 w0 p0.l):∀r,Q8q p0=some r->
 Cl 159 #[pt Y3 Y2] w0 (J6 T0 w0 fun T w v=>∃a2 c2,v= .tuple #[]/\Sep g T w (R++[Z6 [pt b1 oo1],Q1 a2 c2 H1 r])/\Q76 a2 c2 T w r.l):=by
 intro r hm;refine eN Tryz.func159 Tryz.ntmps159 fun J=>?_;unfold Q8q at hm;exact zr hm hS

instance:Ct 159 @Q6e:=⟨@Q6e,Q1s⟩
theorem Z2q{p0:Aa}(hS:Sep g T0 w0 [X0 R]):∀r,Q0q p0=some r->
 Cl 120 #[Q14 p0.toArray] w0 (Q19 T0 w0 g R r):=by
 intro r hm;refine eN Tryz.func120 Tryz.ntmps120 fun J=>?_;unfold Q0q at hm;refine qN ?_;refine sq2 (qN ?_);refine blk (O1 hm (fun E a I=>∃K D,JR (nf 16) g T0 w0 a I K (E D=some r) [(4,.bool D)] [X0 R]) (fun E hm=>?_) ?_)
 . exact zr hm hS
 rintro _ I ⟨K,D,J,hm,rfl,O,_⟩;exact zr hm O
instance:Ct 120 @Z2q:=⟨@Z2q,cf120⟩
end Go.Proofs.YtjohcgibbiebkaaGreatDoor
