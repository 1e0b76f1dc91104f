/- That Go functions compute their models. Printed by gen2.py. -/
import Derived.Test.YtbfpdnogfkbiaaaGreatProg
import Derived.KernelRfl
import Derived.Test.YtbfpdnogfkbiaaaGreatVH
set_option linter.unusedVariables false
namespace Go.Proofs.YtbfpdnogfkbiaaaGreat
open List renaming length → qQ
abbrev qZs(l:List UInt8):Value:= .string ⟨l.toArray⟩
theorem qZt:True:=trivial
open _root_.Go.Proofs.Tryz
set_option maxRecDepth 100000
set_option maxHeartbeats 8000000
attribute [local irreducible] wpList wpQuiet Code.wp
variable{g:World}{T0:Nat->Prop}{w0:World}{R:List Y9}
def Y2n:Rp Pos:=((G3 (J3 .i64) (J3 .i64))).iso fun x=>(x.Line,x.Col)
theorem Q2x{T:Nat->Prop}{w:World}{cs:List Value}{x:Pos}(h:Y2n.rp T w cs x):cs=[.int .i64 x.Line,.int .i64 x.Col]:=by
 obtain⟨_,_,rfl,D,E⟩:=h;cases D;cases E;exact rfl
theorem Z2f{T:Nat->Prop}{w:World}{x:Pos}:Y2n.rp T w [.int .i64 x.Line,.int .i64 x.Col] x:=⟨_,_,rfl,rfl,rfl⟩
def Z5o:Rp M6:=((G3 Z8n (G3 Z8n (J3 .i64)))).iso fun x=>(x.Word,x.Name,x.Stars)
theorem Q8j{T:Nat->Prop}{w:World}{cs:List Value}{x:M6}(h:Z5o.rp T w cs x):cs=[qZs x.Word,qZs x.Name,.int .i64 x.Stars]:=by
 obtain⟨_,_,rfl,D,E⟩:=h;cases D;obtain⟨_,_,rfl,K,O⟩:=E;cases K;cases O;exact rfl
theorem Z5h{T:Nat->Prop}{w:World}{x:M6}:Z5o.rp T w [qZs x.Word,qZs x.Name,.int .i64 x.Stars] x:=⟨_,_,rfl,rfl,⟨_,_,rfl,rfl,rfl⟩⟩
def FGExpr(r:Rp Y8):Rp Y8:=((G3 (J3 .i64) (G3 Y2n (G3 Z8n (G3 Z8n (G3 (J3 .u32) (G3 Z5o (rSl r)))))))).iso fun x=>(x.Kind,x.Pos,x.Op,x.Name,x.Num,x.Type_,x.Kids)
def F8:Rp Y8:=rFix FGExpr 10 true (fun _=>rfl)
theorem gGExpr:Y0l FGExpr:=gIso _ (Q3c (gK (J3 .i64)) (Q3c (gK Y2n) (Q3c (gK Z8n) (Q3c (gK Z8n) (Q3c (gK (J3 .u32)) (Q3c (gK Z5o) (gSl gId)))))))
theorem G9{T:Nat->Prop}{w:World}{cs:List Value}{x:Y8}(h:F8.rp T w cs x):∃(a9:Option Addr)(c9:Nat),cs=[.int .i64 x.Kind,.int .i64 x.Pos.Line,.int .i64 x.Pos.Col,qZs x.Op,qZs x.Name,.int .u32 x.Num,qZs x.Type_.Word,qZs x.Type_.Name,.int .i64 x.Type_.Stars,.slice a9 (qQ x.Kids) c9]/\SlR F8 T w (.slice a9 (qQ x.Kids) c9) x.Kids:=by
 have h:=Y4v gGExpr h;obtain⟨_,_,rfl,E,K⟩:=h;cases E;obtain⟨_,_,rfl,O,U⟩:=K;cases Q2x O;obtain⟨_,_,rfl,V,W⟩:=U;cases V;obtain⟨_,_,rfl,f4,g4⟩:=W;cases f4;obtain⟨_,_,rfl,f5,g5⟩:=g4;cases f5;obtain⟨_,_,rfl,f6,g6⟩:=g5;cases Q8j f6;obtain⟨_,rfl,D⟩:=g6;obtain⟨b7,k7,rfl⟩:=D.shape;exact⟨b7,k7,rfl,D⟩
theorem Q3a{T:Nat->Prop}{w:World}{x:Y8}{a9:Option Addr}{c9:Nat}(e0:SlR F8 T w (.slice a9 (qQ x.Kids) c9) x.Kids):F8.rp T w [.int .i64 x.Kind,.int .i64 x.Pos.Line,.int .i64 x.Pos.Col,qZs x.Op,qZs x.Name,.int .u32 x.Num,qZs x.Type_.Word,qZs x.Type_.Name,.int .i64 x.Type_.Stars,.slice a9 (qQ x.Kids) c9] x:=X0m gGExpr ⟨_,_,rfl,rfl,⟨_,_,rfl,Z2f,⟨_,_,rfl,rfl,⟨_,_,rfl,rfl,⟨_,_,rfl,rfl,⟨_,_,rfl,Z5h,⟨_,rfl,e0⟩⟩⟩⟩⟩⟩⟩
def Q2y:Rp M7:=((G3 Y2n (G3 Z5o (G3 Z8n (G3 (rSl (J3 .u32)) (G3 (rSl F8) Q3v)))))).iso fun x=>(x.Pos,x.Type_,x.Name,x.Dims,x.Init,x.Brace)
theorem Z2k{T:Nat->Prop}{w:World}{cs:List Value}{x:M7}(h:Q2y.rp T w cs x):∃(a6:Option Addr)(c6:Nat)(a7:Option Addr)(c7:Nat),cs=[.int .i64 x.Pos.Line,.int .i64 x.Pos.Col,qZs x.Type_.Word,qZs x.Type_.Name,.int .i64 x.Type_.Stars,qZs x.Name,.slice a6 (qQ x.Dims) c6,.slice a7 (qQ x.Init) c7,.bool x.Brace]/\SlR (J3 .u32) T w (.slice a6 (qQ x.Dims) c6) x.Dims/\SlR F8 T w (.slice a7 (qQ x.Init) c7) x.Init:=by
 obtain⟨_,_,rfl,K,O⟩:=h;cases Q2x K;obtain⟨_,_,rfl,U,V⟩:=O;cases Q8j U;obtain⟨_,_,rfl,W,g3⟩:=V;cases W;obtain⟨_,_,rfl,f4,g4⟩:=g3;obtain⟨_,rfl,D⟩:=f4;obtain⟨b5,k5,rfl⟩:=D.shape;obtain⟨_,_,rfl,f6,g6⟩:=g4;obtain⟨_,rfl,E⟩:=f6;obtain⟨b7,k7,rfl⟩:=E.shape;cases g6;exact⟨b5,k5,b7,k7,rfl,D,E⟩
theorem Y1a{T:Nat->Prop}{w:World}{x:M7}{a6:Option Addr}{c6:Nat}{a7:Option Addr}{c7:Nat}(e0:SlR (J3 .u32) T w (.slice a6 (qQ x.Dims) c6) x.Dims)(e1:SlR F8 T w (.slice a7 (qQ x.Init) c7) x.Init):Q2y.rp T w [.int .i64 x.Pos.Line,.int .i64 x.Pos.Col,qZs x.Type_.Word,qZs x.Type_.Name,.int .i64 x.Type_.Stars,qZs x.Name,.slice a6 (qQ x.Dims) c6,.slice a7 (qQ x.Init) c7,.bool x.Brace] x:=⟨_,_,rfl,Z2f,⟨_,_,rfl,Z5h,⟨_,_,rfl,rfl,⟨_,_,rfl,⟨_,rfl,e0⟩,⟨_,_,rfl,⟨_,rfl,e1⟩,rfl⟩⟩⟩⟩⟩
def Q9t:Rp Q3k:=((G3 Y2n (G3 Z8n (rSl Q2y)))).iso fun x=>(x.Pos,x.Name,x.Fields)
theorem Z4n{T:Nat->Prop}{w:World}{cs:List Value}{x:Q3k}(h:Q9t.rp T w cs x):∃(a3:Option Addr)(c3:Nat),cs=[.int .i64 x.Pos.Line,.int .i64 x.Pos.Col,qZs x.Name,.slice a3 (qQ x.Fields) c3]/\SlR Q2y T w (.slice a3 (qQ x.Fields) c3) x.Fields:=by
 obtain⟨_,_,rfl,E,K⟩:=h;cases Q2x E;obtain⟨_,_,rfl,O,U⟩:=K;cases O;obtain⟨_,rfl,D⟩:=U;obtain⟨V,W,rfl⟩:=D.shape;exact⟨V,W,rfl,D⟩
theorem Y5y{T:Nat->Prop}{w:World}{x:Q3k}{a3:Option Addr}{c3:Nat}(e0:SlR Q2y T w (.slice a3 (qQ x.Fields) c3) x.Fields):Q9t.rp T w [.int .i64 x.Pos.Line,.int .i64 x.Pos.Col,qZs x.Name,.slice a3 (qQ x.Fields) c3] x:=⟨_,_,rfl,Z2f,⟨_,_,rfl,rfl,⟨_,rfl,e0⟩⟩⟩
def X4e(r:Rp E5):Rp Q1e:=((G3 Y2n (G3 Q3v (G3 (J3 .u32) (rSl r))))).iso fun x=>(x.Pos,x.Default,x.Num,x.Body)
theorem gFGCase:Y0l X4e:=gIso _ (Q3c (gK Y2n) (Q3c (gK Q3v) (Q3c (gK (J3 .u32)) (gSl gId))))
def FStmt(r:Rp E5):Rp E5:=((G3 (J3 .i64) (G3 Y2n (G3 (rSl F8) (G3 (rSl F8) (G3 (rSl F8) (G3 (rSl Q2y) (G3 (rSl r) (G3 (rSl r) (rSl (X4e r))))))))))).iso fun x=>(x.Kind,x.Pos,x.A,x.B,x.C,x.Var,x.Body,x.Else,x.Cases)
def Q7s:Rp E5:=rFix FStmt 10 true (fun _=>rfl)
theorem gStmt:Y0l FStmt:=gIso _ (Q3c (gK (J3 .i64)) (Q3c (gK Y2n) (Q3c (gK (rSl F8)) (Q3c (gK (rSl F8)) (Q3c (gK (rSl F8)) (Q3c (gK (rSl Q2y)) (Q3c (gSl gId) (Q3c (gSl gId) (gSl gFGCase)))))))))
def Z0t:Rp Q1e:=X4e Q7s
theorem Y3g{T:Nat->Prop}{w:World}{cs:List Value}{x:E5}(h:Q7s.rp T w cs x):∃(a3:Option Addr)(c3:Nat)(a4:Option Addr)(c4:Nat)(a5:Option Addr)(c5:Nat)(a6:Option Addr)(c6:Nat)(a7:Option Addr)(c7:Nat)(a8:Option Addr)(c8:Nat)(a9:Option Addr)(c9:Nat),cs=[.int .i64 x.Kind,.int .i64 x.Pos.Line,.int .i64 x.Pos.Col,.slice a3 (qQ x.A) c3,.slice a4 (qQ x.B) c4,.slice a5 (qQ x.C) c5,.slice a6 (qQ x.Var) c6,.slice a7 (qQ x.Body) c7,.slice a8 (qQ x.Else) c8,.slice a9 (qQ x.Cases) c9]/\SlR F8 T w (.slice a3 (qQ x.A) c3) x.A/\SlR F8 T w (.slice a4 (qQ x.B) c4) x.B/\SlR F8 T w (.slice a5 (qQ x.C) c5) x.C/\SlR Q2y T w (.slice a6 (qQ x.Var) c6) x.Var/\SlR Q7s T w (.slice a7 (qQ x.Body) c7) x.Body/\SlR Q7s T w (.slice a8 (qQ x.Else) c8) x.Else/\SlR Z0t T w (.slice a9 (qQ x.Cases) c9) x.Cases:=by
 have h:=Y4v gStmt h;obtain⟨_,_,rfl,f1,g1⟩:=h;cases f1;obtain⟨_,_,rfl,f2,g2⟩:=g1;cases Q2x f2;obtain⟨_,_,rfl,f3,g3⟩:=g2;obtain⟨_,rfl,D⟩:=f3;obtain⟨b4,k4,rfl⟩:=D.shape;obtain⟨_,_,rfl,f5,g5⟩:=g3;obtain⟨_,rfl,E⟩:=f5;obtain⟨b6,k6,rfl⟩:=E.shape;obtain⟨_,_,rfl,f7,g7⟩:=g5;obtain⟨_,rfl,K⟩:=f7;obtain⟨b8,k8,rfl⟩:=K.shape;obtain⟨_,_,rfl,f9,g9⟩:=g7;obtain⟨_,rfl,O⟩:=f9;obtain⟨av,aw,rfl⟩:=O.shape;obtain⟨_,_,rfl,ax,ay⟩:=g9;obtain⟨_,rfl,U⟩:=ax;obtain⟨az,aA,rfl⟩:=U.shape;obtain⟨_,_,rfl,aB,aC⟩:=ay;obtain⟨_,rfl,V⟩:=aB;obtain⟨aD,aE,rfl⟩:=V.shape;obtain⟨_,rfl,W⟩:=aC;obtain⟨aF,aG,rfl⟩:=W.shape;exact⟨b4,k4,b6,k6,b8,k8,av,aw,az,aA,aD,aE,aF,aG,rfl,D,E,K,O,U,V,W⟩
theorem Y7e{T:Nat->Prop}{w:World}{x:E5}{a3:Option Addr}{c3:Nat}{a4:Option Addr}{c4:Nat}{a5:Option Addr}{c5:Nat}{a6:Option Addr}{c6:Nat}{a7:Option Addr}{c7:Nat}{a8:Option Addr}{c8:Nat}{a9:Option Addr}{c9:Nat}(e0:SlR F8 T w (.slice a3 (qQ x.A) c3) x.A)(e1:SlR F8 T w (.slice a4 (qQ x.B) c4) x.B)(e2:SlR F8 T w (.slice a5 (qQ x.C) c5) x.C)(e3:SlR Q2y T w (.slice a6 (qQ x.Var) c6) x.Var)(e4:SlR Q7s T w (.slice a7 (qQ x.Body) c7) x.Body)(e5:SlR Q7s T w (.slice a8 (qQ x.Else) c8) x.Else)(e6:SlR Z0t T w (.slice a9 (qQ x.Cases) c9) x.Cases):Q7s.rp T w [.int .i64 x.Kind,.int .i64 x.Pos.Line,.int .i64 x.Pos.Col,.slice a3 (qQ x.A) c3,.slice a4 (qQ x.B) c4,.slice a5 (qQ x.C) c5,.slice a6 (qQ x.Var) c6,.slice a7 (qQ x.Body) c7,.slice a8 (qQ x.Else) c8,.slice a9 (qQ x.Cases) c9] x:=X0m gStmt ⟨_,_,rfl,rfl,⟨_,_,rfl,Z2f,⟨_,_,rfl,⟨_,rfl,e0⟩,⟨_,_,rfl,⟨_,rfl,e1⟩,⟨_,_,rfl,⟨_,rfl,e2⟩,⟨_,_,rfl,⟨_,rfl,e3⟩,⟨_,_,rfl,⟨_,rfl,e4⟩,⟨_,_,rfl,⟨_,rfl,e5⟩,⟨_,rfl,e6⟩⟩⟩⟩⟩⟩⟩⟩⟩
theorem Y1e{T:Nat->Prop}{w:World}{cs:List Value}{x:Q1e}(h:Z0t.rp T w cs x):∃(a4:Option Addr)(c4:Nat),cs=[.int .i64 x.Pos.Line,.int .i64 x.Pos.Col,.bool x.Default,.int .u32 x.Num,.slice a4 (qQ x.Body) c4]/\SlR Q7s T w (.slice a4 (qQ x.Body) c4) x.Body:=by
 obtain⟨_,_,rfl,E,K⟩:=h;cases Q2x E;obtain⟨_,_,rfl,O,U⟩:=K;cases O;obtain⟨_,_,rfl,V,W⟩:=U;cases V;obtain⟨_,rfl,D⟩:=W;obtain⟨b4,k4,rfl⟩:=D.shape;exact⟨b4,k4,rfl,D⟩
theorem Y2b{T:Nat->Prop}{w:World}{x:Q1e}{a4:Option Addr}{c4:Nat}(e0:SlR Q7s T w (.slice a4 (qQ x.Body) c4) x.Body):Z0t.rp T w [.int .i64 x.Pos.Line,.int .i64 x.Pos.Col,.bool x.Default,.int .u32 x.Num,.slice a4 (qQ x.Body) c4] x:=⟨_,_,rfl,Z2f,⟨_,_,rfl,rfl,⟨_,_,rfl,rfl,⟨_,rfl,e0⟩⟩⟩⟩
def Z3h:Rp Q1d:=((G3 Y2n (G3 Z5o (G3 Z8n (G3 (rSl Q2y) (rSl Q7s)))))).iso fun x=>(x.Pos,x.Ret,x.Name,x.Params,x.Body)
theorem Z2s{T:Nat->Prop}{w:World}{cs:List Value}{x:Q1d}(h:Z3h.rp T w cs x):∃(a6:Option Addr)(c6:Nat)(a7:Option Addr)(c7:Nat),cs=[.int .i64 x.Pos.Line,.int .i64 x.Pos.Col,qZs x.Ret.Word,qZs x.Ret.Name,.int .i64 x.Ret.Stars,qZs x.Name,.slice a6 (qQ x.Params) c6,.slice a7 (qQ x.Body) c7]/\SlR Q2y T w (.slice a6 (qQ x.Params) c6) x.Params/\SlR Q7s T w (.slice a7 (qQ x.Body) c7) x.Body:=by
 obtain⟨_,_,rfl,K,O⟩:=h;cases Q2x K;obtain⟨_,_,rfl,U,V⟩:=O;cases Q8j U;obtain⟨_,_,rfl,W,g3⟩:=V;cases W;obtain⟨_,_,rfl,f4,g4⟩:=g3;obtain⟨_,rfl,D⟩:=f4;obtain⟨b5,k5,rfl⟩:=D.shape;obtain⟨_,rfl,E⟩:=g4;obtain⟨b6,k6,rfl⟩:=E.shape;exact⟨b5,k5,b6,k6,rfl,D,E⟩
theorem Y5h{T:Nat->Prop}{w:World}{x:Q1d}{a6:Option Addr}{c6:Nat}{a7:Option Addr}{c7:Nat}(e0:SlR Q2y T w (.slice a6 (qQ x.Params) c6) x.Params)(e1:SlR Q7s T w (.slice a7 (qQ x.Body) c7) x.Body):Z3h.rp T w [.int .i64 x.Pos.Line,.int .i64 x.Pos.Col,qZs x.Ret.Word,qZs x.Ret.Name,.int .i64 x.Ret.Stars,qZs x.Name,.slice a6 (qQ x.Params) c6,.slice a7 (qQ x.Body) c7] x:=⟨_,_,rfl,Z2f,⟨_,_,rfl,Z5h,⟨_,_,rfl,rfl,⟨_,_,rfl,⟨_,rfl,e0⟩,⟨_,rfl,e1⟩⟩⟩⟩⟩
def Y8w:Rp D4:=((G3 (rSl Q9t) (G3 (rSl Q2y) (rSl Z3h)))).iso fun x=>(x.Structs,x.Globals,x.Funcs)
theorem Y1d{T:Nat->Prop}{w:World}{cs:List Value}{x:D4}(h:Y8w.rp T w cs x):∃(a0:Option Addr)(c0:Nat)(a1:Option Addr)(c1:Nat)(a2:Option Addr)(c2:Nat),cs=[.slice a0 (qQ x.Structs) c0,.slice a1 (qQ x.Globals) c1,.slice a2 (qQ x.Funcs) c2]/\SlR Q9t T w (.slice a0 (qQ x.Structs) c0) x.Structs/\SlR Q2y T w (.slice a1 (qQ x.Globals) c1) x.Globals/\SlR Z3h T w (.slice a2 (qQ x.Funcs) c2) x.Funcs:=by
 obtain⟨_,_,rfl,K,O⟩:=h;obtain⟨_,rfl,s2⟩:=K;obtain⟨U,k2,rfl⟩:=s2.shape;obtain⟨_,_,rfl,V,W⟩:=O;obtain⟨_,rfl,D⟩:=V;obtain⟨b4,k4,rfl⟩:=D.shape;obtain⟨_,rfl,E⟩:=W;obtain⟨b5,k5,rfl⟩:=E.shape;exact⟨U,k2,b4,k4,b5,k5,rfl,s2,D,E⟩
theorem X0b{T:Nat->Prop}{w:World}{x:D4}{a0:Option Addr}{c0:Nat}{a1:Option Addr}{c1:Nat}{a2:Option Addr}{c2:Nat}(e0:SlR Q9t T w (.slice a0 (qQ x.Structs) c0) x.Structs)(e1:SlR Q2y T w (.slice a1 (qQ x.Globals) c1) x.Globals)(e2:SlR Z3h T w (.slice a2 (qQ x.Funcs) c2) x.Funcs):Y8w.rp T w [.slice a0 (qQ x.Structs) c0,.slice a1 (qQ x.Globals) c1,.slice a2 (qQ x.Funcs) c2] x:=⟨_,_,rfl,⟨_,rfl,e0⟩,⟨_,_,rfl,⟨_,rfl,e1⟩,⟨_,rfl,e2⟩⟩⟩
def Y5w:Rp P6:=((G3 Z8n Y2n)).iso fun x=>(x.s,x.pos)
theorem Z4g{T:Nat->Prop}{w:World}{cs:List Value}{x:P6}(h:Y5w.rp T w cs x):cs=[qZs x.s,.int .i64 x.pos.Line,.int .i64 x.pos.Col]:=by
 obtain⟨_,_,rfl,D,E⟩:=h;cases D;cases Q2x E;exact rfl
theorem Y7f{T:Nat->Prop}{w:World}{x:P6}:Y5w.rp T w [qZs x.s,.int .i64 x.pos.Line,.int .i64 x.pos.Col] x:=⟨_,_,rfl,rfl,Z2f⟩
def Q9e:Rp U4:=((G3 (J3 .i64) (G3 Z8n (G3 (J3 .u32) Y2n)))).iso fun x=>(x.Kind,x.Text,x.Num,x.Pos)
theorem Z8p{T:Nat->Prop}{w:World}{cs:List Value}{x:U4}(h:Q9e.rp T w cs x):cs=[.int .i64 x.Kind,qZs x.Text,.int .u32 x.Num,.int .i64 x.Pos.Line,.int .i64 x.Pos.Col]:=by
 obtain⟨_,_,rfl,D,E⟩:=h;cases D;obtain⟨_,_,rfl,K,O⟩:=E;cases K;obtain⟨_,_,rfl,U,V⟩:=O;cases U;cases Q2x V;exact rfl
theorem Y7h{T:Nat->Prop}{w:World}{x:U4}:Q9e.rp T w [.int .i64 x.Kind,qZs x.Text,.int .u32 x.Num,.int .i64 x.Pos.Line,.int .i64 x.Pos.Col] x:=⟨_,_,rfl,rfl,⟨_,_,rfl,rfl,⟨_,_,rfl,rfl,Z2f⟩⟩⟩
def Y5u:Rp Z0:=((G3 (rSl Q9e) (G3 Y2n (J3 .i64)))).iso fun x=>(x.l,x.end_,x.depth)
theorem Z7l{T:Nat->Prop}{w:World}{cs:List Value}{x:Z0}(h:Y5u.rp T w cs x):∃(a0:Option Addr)(c0:Nat),cs=[.slice a0 (qQ x.l) c0,.int .i64 x.end_.Line,.int .i64 x.end_.Col,.int .i64 x.depth]/\SlR Q9e T w (.slice a0 (qQ x.l) c0) x.l:=by
 obtain⟨_,_,rfl,D,E⟩:=h;obtain⟨_,rfl,s2⟩:=D;obtain⟨K,k2,rfl⟩:=s2.shape;obtain⟨_,_,rfl,O,U⟩:=E;cases Q2x O;cases U;exact⟨K,k2,rfl,s2⟩
theorem Y7c{T:Nat->Prop}{w:World}{x:Z0}{a0:Option Addr}{c0:Nat}(e0:SlR Q9e T w (.slice a0 (qQ x.l) c0) x.l):Y5u.rp T w [.slice a0 (qQ x.l) c0,.int .i64 x.end_.Line,.int .i64 x.end_.Col,.int .i64 x.depth] x:=⟨_,_,rfl,⟨_,rfl,e0⟩,⟨_,_,rfl,Z2f,rfl⟩⟩
def Y4e:Rp Y3:=((G3 Y2n (J3 .i64))).iso fun x=>(x.pos,x.e)
theorem Z3e{T:Nat->Prop}{w:World}{cs:List Value}{x:Y3}(h:Y4e.rp T w cs x):cs=[.int .i64 x.pos.Line,.int .i64 x.pos.Col,.int .i64 x.e]:=by
 obtain⟨_,_,rfl,D,E⟩:=h;cases Q2x D;cases E;exact rfl
theorem Y6h{T:Nat->Prop}{w:World}{x:Y3}:Y4e.rp T w [.int .i64 x.pos.Line,.int .i64 x.pos.Col,.int .i64 x.e] x:=⟨_,_,rfl,Z2f,rfl⟩
def Q4b:Rp Z3z:=((G3 Z8n (G3 (J3 .i64) (G3 (J3 .i64) (J3 .i64))))).iso fun x=>(x.Name,x.Size,x.Align,x.Cell)
theorem Y1c{T:Nat->Prop}{w:World}{cs:List Value}{x:Z3z}(h:Q4b.rp T w cs x):cs=[qZs x.Name,.int .i64 x.Size,.int .i64 x.Align,.int .i64 x.Cell]:=by
 obtain⟨_,_,rfl,D,E⟩:=h;cases D;obtain⟨_,_,rfl,K,O⟩:=E;cases K;obtain⟨_,_,rfl,U,V⟩:=O;cases U;cases V;exact rfl
theorem Y5g{T:Nat->Prop}{w:World}{x:Z3z}:Q4b.rp T w [qZs x.Name,.int .i64 x.Size,.int .i64 x.Align,.int .i64 x.Cell] x:=⟨_,_,rfl,rfl,⟨_,_,rfl,rfl,⟨_,_,rfl,rfl,rfl⟩⟩⟩
def FGTerm(r:Rp Y6):Rp Y6:=((G3 (J3 .i64) (G3 (J3 .i64) (G3 (J3 .u32) (G3 (J3 .i64) (G3 Q3v (G3 (J3 .i64) (G3 Q3v (G3 Q3v (rSl r)))))))))).iso fun x=>(x.Kind,x.Fn,x.Num,x.Var,x.Global,x.Size,x.Post,x.Ptr,x.Kids)
def X8:Rp Y6:=rFix FGTerm 9 true (fun _=>rfl)
theorem gGTerm:Y0l FGTerm:=gIso _ (Q3c (gK (J3 .i64)) (Q3c (gK (J3 .i64)) (Q3c (gK (J3 .u32)) (Q3c (gK (J3 .i64)) (Q3c (gK Q3v) (Q3c (gK (J3 .i64)) (Q3c (gK Q3v) (Q3c (gK Q3v) (gSl gId)))))))))
theorem L0{T:Nat->Prop}{w:World}{cs:List Value}{x:Y6}(h:X8.rp T w cs x):∃(a8:Option Addr)(c8:Nat),cs=[.int .i64 x.Kind,.int .i64 x.Fn,.int .u32 x.Num,.int .i64 x.Var,.bool x.Global,.int .i64 x.Size,.bool x.Post,.bool x.Ptr,.slice a8 (qQ x.Kids) c8]/\SlR X8 T w (.slice a8 (qQ x.Kids) c8) x.Kids:=by
 have h:=Y4v gGTerm h;obtain⟨_,_,rfl,E,K⟩:=h;cases E;obtain⟨_,_,rfl,O,U⟩:=K;cases O;obtain⟨_,_,rfl,V,W⟩:=U;cases V;obtain⟨_,_,rfl,f4,g4⟩:=W;cases f4;obtain⟨_,_,rfl,f5,g5⟩:=g4;cases f5;obtain⟨_,_,rfl,f6,g6⟩:=g5;cases f6;obtain⟨_,_,rfl,f7,g7⟩:=g6;cases f7;obtain⟨_,_,rfl,f8,g8⟩:=g7;cases f8;obtain⟨_,rfl,D⟩:=g8;obtain⟨b9,k9,rfl⟩:=D.shape;exact⟨b9,k9,rfl,D⟩
theorem U1{T:Nat->Prop}{w:World}{x:Y6}{a8:Option Addr}{c8:Nat}(e0:SlR X8 T w (.slice a8 (qQ x.Kids) c8) x.Kids):X8.rp T w [.int .i64 x.Kind,.int .i64 x.Fn,.int .u32 x.Num,.int .i64 x.Var,.bool x.Global,.int .i64 x.Size,.bool x.Post,.bool x.Ptr,.slice a8 (qQ x.Kids) c8] x:=X0m gGTerm ⟨_,_,rfl,rfl,⟨_,_,rfl,rfl,⟨_,_,rfl,rfl,⟨_,_,rfl,rfl,⟨_,_,rfl,rfl,⟨_,_,rfl,rfl,⟨_,_,rfl,rfl,⟨_,_,rfl,rfl,⟨_,rfl,e0⟩⟩⟩⟩⟩⟩⟩⟩⟩
def X1d(r:Rp K1):Rp Z4l:=((G3 Q3v (G3 (J3 .u32) (rSl r)))).iso fun x=>(x.Default,x.Num,x.Body)
theorem gFChoice:Y0l X1d:=gIso _ (Q3c (gK Q3v) (Q3c (gK (J3 .u32)) (gSl gId)))
def FGAct(r:Rp K1):Rp K1:=((G3 (J3 .i64) (G3 (rSl X8) (G3 (rSl X8) (G3 Q3v (G3 (rSl r) (G3 (rSl r) (G3 (rSl (X1d r)) (J3 .i64))))))))).iso fun x=>(x.Kind,x.A,x.Post,x.First,x.Body,x.Else,x.Cases,x.Var)
def H4:Rp K1:=rFix FGAct 8 true (fun _=>rfl)
theorem gGAct:Y0l FGAct:=gIso _ (Q3c (gK (J3 .i64)) (Q3c (gK (rSl X8)) (Q3c (gK (rSl X8)) (Q3c (gK Q3v) (Q3c (gSl gId) (Q3c (gSl gId) (Q3c (gSl gFChoice) (gK (J3 .i64)))))))))
def Q6u:Rp Z4l:=X1d H4
theorem Z5x{T:Nat->Prop}{w:World}{cs:List Value}{x:K1}(h:H4.rp T w cs x):∃(a1:Option Addr)(c1:Nat)(a2:Option Addr)(c2:Nat)(a4:Option Addr)(c4:Nat)(a5:Option Addr)(c5:Nat)(a6:Option Addr)(c6:Nat),cs=[.int .i64 x.Kind,.slice a1 (qQ x.A) c1,.slice a2 (qQ x.Post) c2,.bool x.First,.slice a4 (qQ x.Body) c4,.slice a5 (qQ x.Else) c5,.slice a6 (qQ x.Cases) c6,.int .i64 x.Var]/\SlR X8 T w (.slice a1 (qQ x.A) c1) x.A/\SlR X8 T w (.slice a2 (qQ x.Post) c2) x.Post/\SlR H4 T w (.slice a4 (qQ x.Body) c4) x.Body/\SlR H4 T w (.slice a5 (qQ x.Else) c5) x.Else/\SlR Q6u T w (.slice a6 (qQ x.Cases) c6) x.Cases:=by
 have h:=Y4v gGAct h;obtain⟨_,_,rfl,V,W⟩:=h;cases V;obtain⟨_,_,rfl,f2,g2⟩:=W;obtain⟨_,rfl,D⟩:=f2;obtain⟨b3,k3,rfl⟩:=D.shape;obtain⟨_,_,rfl,f4,g4⟩:=g2;obtain⟨_,rfl,E⟩:=f4;obtain⟨b5,k5,rfl⟩:=E.shape;obtain⟨_,_,rfl,f6,g6⟩:=g4;cases f6;obtain⟨_,_,rfl,f7,g7⟩:=g6;obtain⟨_,rfl,K⟩:=f7;obtain⟨b8,k8,rfl⟩:=K.shape;obtain⟨_,_,rfl,f9,g9⟩:=g7;obtain⟨_,rfl,O⟩:=f9;obtain⟨ar,au,rfl⟩:=O.shape;obtain⟨_,_,rfl,av,aw⟩:=g9;obtain⟨_,rfl,U⟩:=av;obtain⟨ax,ay,rfl⟩:=U.shape;cases aw;exact⟨b3,k3,b5,k5,b8,k8,ar,au,ax,ay,rfl,D,E,K,O,U⟩
theorem Q2d{T:Nat->Prop}{w:World}{x:K1}{a1:Option Addr}{c1:Nat}{a2:Option Addr}{c2:Nat}{a4:Option Addr}{c4:Nat}{a5:Option Addr}{c5:Nat}{a6:Option Addr}{c6:Nat}(e0:SlR X8 T w (.slice a1 (qQ x.A) c1) x.A)(e1:SlR X8 T w (.slice a2 (qQ x.Post) c2) x.Post)(e2:SlR H4 T w (.slice a4 (qQ x.Body) c4) x.Body)(e3:SlR H4 T w (.slice a5 (qQ x.Else) c5) x.Else)(e4:SlR Q6u T w (.slice a6 (qQ x.Cases) c6) x.Cases):H4.rp T w [.int .i64 x.Kind,.slice a1 (qQ x.A) c1,.slice a2 (qQ x.Post) c2,.bool x.First,.slice a4 (qQ x.Body) c4,.slice a5 (qQ x.Else) c5,.slice a6 (qQ x.Cases) c6,.int .i64 x.Var] x:=X0m gGAct ⟨_,_,rfl,rfl,⟨_,_,rfl,⟨_,rfl,e0⟩,⟨_,_,rfl,⟨_,rfl,e1⟩,⟨_,_,rfl,rfl,⟨_,_,rfl,⟨_,rfl,e2⟩,⟨_,_,rfl,⟨_,rfl,e3⟩,⟨_,_,rfl,⟨_,rfl,e4⟩,rfl⟩⟩⟩⟩⟩⟩⟩
theorem Z3i{T:Nat->Prop}{w:World}{cs:List Value}{x:Z4l}(h:Q6u.rp T w cs x):∃(a2:Option Addr)(c2:Nat),cs=[.bool x.Default,.int .u32 x.Num,.slice a2 (qQ x.Body) c2]/\SlR H4 T w (.slice a2 (qQ x.Body) c2) x.Body:=by
 obtain⟨_,_,rfl,E,K⟩:=h;cases E;obtain⟨_,_,rfl,O,U⟩:=K;cases O;obtain⟨_,rfl,D⟩:=U;obtain⟨V,W,rfl⟩:=D.shape;exact⟨V,W,rfl,D⟩
theorem Y3i{T:Nat->Prop}{w:World}{x:Z4l}{a2:Option Addr}{c2:Nat}(e0:SlR H4 T w (.slice a2 (qQ x.Body) c2) x.Body):Q6u.rp T w [.bool x.Default,.int .u32 x.Num,.slice a2 (qQ x.Body) c2] x:=⟨_,_,rfl,rfl,⟨_,_,rfl,rfl,⟨_,rfl,e0⟩⟩⟩
def Q9f:Rp Q4n:=((G3 Z8n (G3 Q3v (G3 (J3 .i64) (G3 (rSl Q4b) (rSl H4)))))).iso fun x=>(x.Name,x.Void,x.Params,x.Slots,x.Body)
theorem Z0s{T:Nat->Prop}{w:World}{cs:List Value}{x:Q4n}(h:Q9f.rp T w cs x):∃(a3:Option Addr)(c3:Nat)(a4:Option Addr)(c4:Nat),cs=[qZs x.Name,.bool x.Void,.int .i64 x.Params,.slice a3 (qQ x.Slots) c3,.slice a4 (qQ x.Body) c4]/\SlR Q4b T w (.slice a3 (qQ x.Slots) c3) x.Slots/\SlR H4 T w (.slice a4 (qQ x.Body) c4) x.Body:=by
 obtain⟨_,_,rfl,K,O⟩:=h;cases K;obtain⟨_,_,rfl,U,V⟩:=O;cases U;obtain⟨_,_,rfl,W,g3⟩:=V;cases W;obtain⟨_,_,rfl,f4,g4⟩:=g3;obtain⟨_,rfl,D⟩:=f4;obtain⟨b5,k5,rfl⟩:=D.shape;obtain⟨_,rfl,E⟩:=g4;obtain⟨b6,k6,rfl⟩:=E.shape;exact⟨b5,k5,b6,k6,rfl,D,E⟩
theorem Z7n{T:Nat->Prop}{w:World}{x:Q4n}{a3:Option Addr}{c3:Nat}{a4:Option Addr}{c4:Nat}(e0:SlR Q4b T w (.slice a3 (qQ x.Slots) c3) x.Slots)(e1:SlR H4 T w (.slice a4 (qQ x.Body) c4) x.Body):Q9f.rp T w [qZs x.Name,.bool x.Void,.int .i64 x.Params,.slice a3 (qQ x.Slots) c3,.slice a4 (qQ x.Body) c4] x:=⟨_,_,rfl,rfl,⟨_,_,rfl,rfl,⟨_,_,rfl,rfl,⟨_,_,rfl,⟨_,rfl,e0⟩,⟨_,rfl,e1⟩⟩⟩⟩⟩
def rGUnit:Rp Q6a:=((G3 (rSl Q4b) (G3 (rSl (rSl (J3 .u8))) (G3 (rSl Q9f) (J3 .i64))))).iso fun x=>(x.Globals,x.Data,x.Codes,x.Main)
theorem Y5x{T:Nat->Prop}{w:World}{cs:List Value}{x:Q6a}(h:rGUnit.rp T w cs x):∃(a0:Option Addr)(c0:Nat)(a1:Option Addr)(c1:Nat)(a2:Option Addr)(c2:Nat),cs=[.slice a0 (qQ x.Globals) c0,.slice a1 (qQ x.Data) c1,.slice a2 (qQ x.Codes) c2,.int .i64 x.Main]/\SlR Q4b T w (.slice a0 (qQ x.Globals) c0) x.Globals/\SlR (rSl (J3 .u8)) T w (.slice a1 (qQ x.Data) c1) x.Data/\SlR Q9f T w (.slice a2 (qQ x.Codes) c2) x.Codes:=by
 obtain⟨_,_,rfl,K,O⟩:=h;obtain⟨_,rfl,s2⟩:=K;obtain⟨U,k2,rfl⟩:=s2.shape;obtain⟨_,_,rfl,V,W⟩:=O;obtain⟨_,rfl,D⟩:=V;obtain⟨b4,k4,rfl⟩:=D.shape;obtain⟨_,_,rfl,f5,g5⟩:=W;obtain⟨_,rfl,E⟩:=f5;obtain⟨b6,k6,rfl⟩:=E.shape;cases g5;exact⟨U,k2,b4,k4,b6,k6,rfl,s2,D,E⟩
theorem X5g{T:Nat->Prop}{w:World}{x:Q6a}{a0:Option Addr}{c0:Nat}{a1:Option Addr}{c1:Nat}{a2:Option Addr}{c2:Nat}(e0:SlR Q4b T w (.slice a0 (qQ x.Globals) c0) x.Globals)(e1:SlR (rSl (J3 .u8)) T w (.slice a1 (qQ x.Data) c1) x.Data)(e2:SlR Q9f T w (.slice a2 (qQ x.Codes) c2) x.Codes):rGUnit.rp T w [.slice a0 (qQ x.Globals) c0,.slice a1 (qQ x.Data) c1,.slice a2 (qQ x.Codes) c2,.int .i64 x.Main] x:=⟨_,_,rfl,⟨_,rfl,e0⟩,⟨_,_,rfl,⟨_,rfl,e1⟩,⟨_,_,rfl,⟨_,rfl,e2⟩,rfl⟩⟩⟩
def Q2z:Rp K9:=((G3 Z8n (G3 (J3 .i64) (J3 .i64)))).iso fun x=>(x.Name,x.Type_,x.At)
theorem Z5i{T:Nat->Prop}{w:World}{cs:List Value}{x:K9}(h:Q2z.rp T w cs x):cs=[qZs x.Name,.int .i64 x.Type_,.int .i64 x.At]:=by
 obtain⟨_,_,rfl,D,E⟩:=h;cases D;obtain⟨_,_,rfl,K,O⟩:=E;cases K;cases O;exact rfl
theorem Y3h{T:Nat->Prop}{w:World}{x:K9}:Q2z.rp T w [qZs x.Name,.int .i64 x.Type_,.int .i64 x.At] x:=⟨_,_,rfl,rfl,⟨_,_,rfl,rfl,rfl⟩⟩
def X3q:Rp Q8v:=((G3 (J3 .i64) (G3 (J3 .i64) (G3 (J3 .i64) (G3 Z8n (rSl Q2z)))))).iso fun x=>(x.Kind,x.Elem,x.Len,x.Name,x.Fields)
theorem Y1b{T:Nat->Prop}{w:World}{cs:List Value}{x:Q8v}(h:X3q.rp T w cs x):∃(a4:Option Addr)(c4:Nat),cs=[.int .i64 x.Kind,.int .i64 x.Elem,.int .i64 x.Len,qZs x.Name,.slice a4 (qQ x.Fields) c4]/\SlR Q2z T w (.slice a4 (qQ x.Fields) c4) x.Fields:=by
 obtain⟨_,_,rfl,E,K⟩:=h;cases E;obtain⟨_,_,rfl,O,U⟩:=K;cases O;obtain⟨_,_,rfl,V,W⟩:=U;cases V;obtain⟨_,_,rfl,f4,g4⟩:=W;cases f4;obtain⟨_,rfl,D⟩:=g4;obtain⟨b5,k5,rfl⟩:=D.shape;exact⟨b5,k5,rfl,D⟩
theorem Y8v{T:Nat->Prop}{w:World}{x:Q8v}{a4:Option Addr}{c4:Nat}(e0:SlR Q2z T w (.slice a4 (qQ x.Fields) c4) x.Fields):X3q.rp T w [.int .i64 x.Kind,.int .i64 x.Elem,.int .i64 x.Len,qZs x.Name,.slice a4 (qQ x.Fields) c4] x:=⟨_,_,rfl,rfl,⟨_,_,rfl,rfl,⟨_,_,rfl,rfl,⟨_,_,rfl,rfl,⟨_,rfl,e0⟩⟩⟩⟩⟩
def M2:Rp K4:=((G3 X3q (G3 (J3 .i64) (G3 (J3 .i64) Q3v)))).iso fun x=>(x.Type_,x.size,x.align,x.open_)
theorem A8{T:Nat->Prop}{w:World}{cs:List Value}{x:K4}(h:M2.rp T w cs x):∃(a4:Option Addr)(c4:Nat),cs=[.int .i64 x.Type_.Kind,.int .i64 x.Type_.Elem,.int .i64 x.Type_.Len,qZs x.Type_.Name,.slice a4 (qQ x.Type_.Fields) c4,.int .i64 x.size,.int .i64 x.align,.bool x.open_]/\SlR Q2z T w (.slice a4 (qQ x.Type_.Fields) c4) x.Type_.Fields:=by
 obtain⟨_,_,rfl,D,E⟩:=h;obtain⟨K,k2,rfl,s2⟩:=Y1b D;obtain⟨_,_,rfl,O,U⟩:=E;cases O;obtain⟨_,_,rfl,V,W⟩:=U;cases V;cases W;exact⟨K,k2,rfl,s2⟩
theorem Q1v{T:Nat->Prop}{w:World}{x:K4}{a4:Option Addr}{c4:Nat}(e0:SlR Q2z T w (.slice a4 (qQ x.Type_.Fields) c4) x.Type_.Fields):M2.rp T w [.int .i64 x.Type_.Kind,.int .i64 x.Type_.Elem,.int .i64 x.Type_.Len,qZs x.Type_.Name,.slice a4 (qQ x.Type_.Fields) c4,.int .i64 x.size,.int .i64 x.align,.bool x.open_] x:=⟨_,_,rfl,(Y8v e0),⟨_,_,rfl,rfl,⟨_,_,rfl,rfl,rfl⟩⟩⟩
def Y7g:Rp Z7:=((rSl M2)).iso fun x=>x.list
theorem Z9o{T:Nat->Prop}{w:World}{cs:List Value}{x:Z7}(h:Y7g.rp T w cs x):∃(a0:Option Addr)(c0:Nat),cs=[.slice a0 (qQ x.list) c0]/\SlR M2 T w (.slice a0 (qQ x.list) c0) x.list:=by
 obtain⟨_,rfl,s1⟩:=h;obtain⟨D,k1,rfl⟩:=s1.shape;exact⟨D,k1,rfl,s1⟩
theorem Y8g{T:Nat->Prop}{w:World}{x:Z7}{a0:Option Addr}{c0:Nat}(e0:SlR M2 T w (.slice a0 (qQ x.list) c0) x.list):Y7g.rp T w [.slice a0 (qQ x.list) c0] x:=⟨_,rfl,e0⟩
def Q5f:Rp A1:=((G3 (J3 .i64) (rSl (J3 .i64)))).iso fun x=>(x.ret,x.params)
theorem Q6h{T:Nat->Prop}{w:World}{cs:List Value}{x:A1}(h:Q5f.rp T w cs x):∃(a1:Option Addr)(c1:Nat),cs=[.int .i64 x.ret,.slice a1 (qQ x.params) c1]/\SlR (J3 .i64) T w (.slice a1 (qQ x.params) c1) x.params:=by
 obtain⟨_,_,rfl,D,E⟩:=h;cases D;obtain⟨_,rfl,s2⟩:=E;obtain⟨K,k2,rfl⟩:=s2.shape;exact⟨K,k2,rfl,s2⟩
theorem Z6y{T:Nat->Prop}{w:World}{x:A1}{a1:Option Addr}{c1:Nat}(e0:SlR (J3 .i64) T w (.slice a1 (qQ x.params) c1) x.params):Q5f.rp T w [.int .i64 x.ret,.slice a1 (qQ x.params) c1] x:=⟨_,_,rfl,rfl,⟨_,rfl,e0⟩⟩
def Y5z:Rp Y2:=((G3 (J3 .i64) (G3 X8 Q3v))).iso fun x=>(x.n,x.term,x.lies)
theorem Z7o{T:Nat->Prop}{w:World}{cs:List Value}{x:Y2}(h:Y5z.rp T w cs x):∃(a9:Option Addr)(c9:Nat),cs=[.int .i64 x.n,.int .i64 x.term.Kind,.int .i64 x.term.Fn,.int .u32 x.term.Num,.int .i64 x.term.Var,.bool x.term.Global,.int .i64 x.term.Size,.bool x.term.Post,.bool x.term.Ptr,.slice a9 (qQ x.term.Kids) c9,.bool x.lies]/\SlR X8 T w (.slice a9 (qQ x.term.Kids) c9) x.term.Kids:=by
 obtain⟨_,_,rfl,D,E⟩:=h;cases D;obtain⟨_,_,rfl,K,O⟩:=E;obtain⟨U,V,rfl,W⟩:=L0 K;cases O;exact⟨U,V,rfl,W⟩
theorem Y7i{T:Nat->Prop}{w:World}{x:Y2}{a9:Option Addr}{c9:Nat}(e0:SlR X8 T w (.slice a9 (qQ x.term.Kids) c9) x.term.Kids):Y5z.rp T w [.int .i64 x.n,.int .i64 x.term.Kind,.int .i64 x.term.Fn,.int .u32 x.term.Num,.int .i64 x.term.Var,.bool x.term.Global,.int .i64 x.term.Size,.bool x.term.Post,.bool x.term.Ptr,.slice a9 (qQ x.term.Kids) c9,.bool x.lies] x:=⟨_,_,rfl,rfl,⟨_,_,rfl,(U1 e0),rfl⟩⟩
def Y2w:Rp Z4:=((G3 Y2n (J3 .i64))).iso fun x=>(x.pos,x.e)
theorem Z2l{T:Nat->Prop}{w:World}{cs:List Value}{x:Z4}(h:Y2w.rp T w cs x):cs=[.int .i64 x.pos.Line,.int .i64 x.pos.Col,.int .i64 x.e]:=by
 obtain⟨_,_,rfl,D,E⟩:=h;cases Q2x D;cases E;exact rfl
theorem Y5i{T:Nat->Prop}{w:World}{x:Z4}:Y2w.rp T w [.int .i64 x.pos.Line,.int .i64 x.pos.Col,.int .i64 x.e] x:=⟨_,_,rfl,Z2f,rfl⟩
def X1w:Rp P2:=((G3 (rSl (J3 .u32)) (G3 (J3 .i64) (G3 (J3 .u32) (J3 .i64))))).iso fun x=>(x.Out,x.Ins,x.Exit,x.E)
theorem Y2v{T:Nat->Prop}{w:World}{cs:List Value}{x:P2}(h:X1w.rp T w cs x):∃(a0:Option Addr)(c0:Nat),cs=[.slice a0 (qQ x.Out) c0,.int .i64 x.Ins,.int .u32 x.Exit,.int .i64 x.E]/\SlR (J3 .u32) T w (.slice a0 (qQ x.Out) c0) x.Out:=by
 obtain⟨_,_,rfl,D,K⟩:=h;obtain⟨_,rfl,s2⟩:=D;obtain⟨O,k2,rfl⟩:=s2.shape;obtain⟨_,_,rfl,U,V⟩:=K;cases U;obtain⟨_,_,rfl,W,g4⟩:=V;cases W;cases g4;exact⟨O,k2,rfl,s2⟩
theorem X1v{T:Nat->Prop}{w:World}{x:P2}{a0:Option Addr}{c0:Nat}(e0:SlR (J3 .u32) T w (.slice a0 (qQ x.Out) c0) x.Out):X1w.rp T w [.slice a0 (qQ x.Out) c0,.int .i64 x.Ins,.int .u32 x.Exit,.int .i64 x.E] x:=⟨_,_,rfl,⟨_,rfl,e0⟩,⟨_,_,rfl,rfl,⟨_,_,rfl,rfl,rfl⟩⟩⟩
def Y5v:Rp O4:=((G3 (rSl (J3 .u8)) (rSl Q3v))).iso fun x=>(x.data,x.set_)
theorem Z7m{T:Nat->Prop}{w:World}{cs:List Value}{x:O4}(h:Y5v.rp T w cs x):∃(a0:Option Addr)(c0:Nat)(a1:Option Addr)(c1:Nat),cs=[.slice a0 (qQ x.data) c0,.slice a1 (qQ x.set_) c1]/\SlR (J3 .u8) T w (.slice a0 (qQ x.data) c0) x.data/\SlR Q3v T w (.slice a1 (qQ x.set_) c1) x.set_:=by
 obtain⟨_,_,rfl,E,K⟩:=h;obtain⟨_,rfl,s2⟩:=E;obtain⟨O,k2,rfl⟩:=s2.shape;obtain⟨_,rfl,D⟩:=K;obtain⟨U,V,rfl⟩:=D.shape;exact⟨O,k2,U,V,rfl,s2,D⟩
theorem Y7d{T:Nat->Prop}{w:World}{x:O4}{a0:Option Addr}{c0:Nat}{a1:Option Addr}{c1:Nat}(e0:SlR (J3 .u8) T w (.slice a0 (qQ x.data) c0) x.data)(e1:SlR Q3v T w (.slice a1 (qQ x.set_) c1) x.set_):Y5v.rp T w [.slice a0 (qQ x.data) c0,.slice a1 (qQ x.set_) c1] x:=⟨_,_,rfl,⟨_,rfl,e0⟩,⟨_,rfl,e1⟩⟩
def Q6g:Rp X9:=((G3 (J3 .i64) (G3 (J3 .i64) (G3 (J3 .i64) (J3 .i64))))).iso fun x=>(x.Obj,x.Lo,x.Hi,x.Off)
theorem Z3g{T:Nat->Prop}{w:World}{cs:List Value}{x:X9}(h:Q6g.rp T w cs x):cs=[.int .i64 x.Obj,.int .i64 x.Lo,.int .i64 x.Hi,.int .i64 x.Off]:=by
 obtain⟨_,_,rfl,D,E⟩:=h;cases D;obtain⟨_,_,rfl,K,O⟩:=E;cases K;obtain⟨_,_,rfl,U,V⟩:=O;cases U;cases V;exact rfl
theorem Z8o{T:Nat->Prop}{w:World}{x:X9}:Q6g.rp T w [.int .i64 x.Obj,.int .i64 x.Lo,.int .i64 x.Hi,.int .i64 x.Off] x:=⟨_,_,rfl,rfl,⟨_,_,rfl,rfl,⟨_,_,rfl,rfl,rfl⟩⟩⟩
def I9:Rp Y1:=((G3 (J3 .u32) (G3 Q6g Q3v))).iso fun x=>(x.Num,x.Ptr,x.Is)
theorem Z4f{T:Nat->Prop}{w:World}{cs:List Value}{x:Y1}(h:I9.rp T w cs x):cs=[.int .u32 x.Num,.int .i64 x.Ptr.Obj,.int .i64 x.Ptr.Lo,.int .i64 x.Ptr.Hi,.int .i64 x.Ptr.Off,.bool x.Is]:=by
 obtain⟨_,_,rfl,D,E⟩:=h;cases D;obtain⟨_,_,rfl,K,O⟩:=E;cases Z3g K;cases O;exact rfl
theorem Z3f{T:Nat->Prop}{w:World}{x:Y1}:I9.rp T w [.int .u32 x.Num,.int .i64 x.Ptr.Obj,.int .i64 x.Ptr.Lo,.int .i64 x.Ptr.Hi,.int .i64 x.Ptr.Off,.bool x.Is] x:=⟨_,_,rfl,rfl,⟨_,_,rfl,Z8o,rfl⟩⟩
def Y5d:Rp Z3l:=((G3 Z8n (G3 (rSl (J3 .u32)) (G3 (J3 .i64) (J3 .i64))))).iso fun x=>(x.S,x.Inputs,x.N,x.More)
theorem Z5v{T:Nat->Prop}{w:World}{cs:List Value}{x:Z3l}(h:Y5d.rp T w cs x):∃(a1:Option Addr)(c1:Nat),cs=[qZs x.S,.slice a1 (qQ x.Inputs) c1,.int .i64 x.N,.int .i64 x.More]/\SlR (J3 .u32) T w (.slice a1 (qQ x.Inputs) c1) x.Inputs:=by
 obtain⟨_,_,rfl,E,K⟩:=h;cases E;obtain⟨_,_,rfl,O,U⟩:=K;obtain⟨_,rfl,D⟩:=O;obtain⟨V,W,rfl⟩:=D.shape;obtain⟨_,_,rfl,f4,g4⟩:=U;cases f4;cases g4;exact⟨V,W,rfl,D⟩
theorem Y9w{T:Nat->Prop}{w:World}{x:Z3l}{a1:Option Addr}{c1:Nat}(e0:SlR (J3 .u32) T w (.slice a1 (qQ x.Inputs) c1) x.Inputs):Y5d.rp T w [qZs x.S,.slice a1 (qQ x.Inputs) c1,.int .i64 x.N,.int .i64 x.More] x:=⟨_,_,rfl,rfl,⟨_,_,rfl,⟨_,rfl,e0⟩,⟨_,_,rfl,rfl,rfl⟩⟩⟩
def Q7c(x:X9):Value:= .agg #[.int .i64 x.Obj,.int .i64 x.Lo,.int .i64 x.Hi,.int .i64 x.Off]
def Y2x:En (Option (List ((List UInt8)×Int))) where
 sz:=1
 A:=fun x cs=>exA fun t:(Option Nat)=>pA (cs=[.map (t)]) (Y7 [Z5y Y1y (Value.int .i64) (.map (t)) x])
 len:=fun h=>by obtain⟨t,h,_⟩:=h;subst h;rfl
 one:=fun h c hc=>by obtain⟨t,h,_⟩:=h;subst h;exact(List.all_eq_true (p:=Value.oneCell')).1 rfl c hc
def K8:En (G4) where
 sz:=4
 A:=fun x cs=>exA fun t:(Option Addr)×Nat×Nat×(Option Addr)×Nat×Nat×(Option Nat)=>pA (cs=[.slice (t.1) (t.2.1) (t.2.2.1),.slice (t.2.2.2.1) (t.2.2.2.2.1) (t.2.2.2.2.2.1),.map (t.2.2.2.2.2.2),.bool x.gone]) (Y7 [J6 (J3 .u8) 5 (.slice (t.1) (t.2.1) (t.2.2.1)) x.bytes.data,J6 Q3v 4 (.slice (t.2.2.2.1) (t.2.2.2.2.1) (t.2.2.2.2.2.1)) x.bytes.set_,Z5y (Value.int .i64) Q7c (.map (t.2.2.2.2.2.2)) x.ptrs])
 len:=fun h=>by obtain⟨t,h,_⟩:=h;subst h;rfl
 one:=fun h c hc=>by obtain⟨t,h,_⟩:=h;subst h;exact(List.all_eq_true (p:=Value.oneCell')).1 rfl c hc
def U9:En (G5) where
 sz:=6
 A:=fun x cs=>exA fun t:(Option Addr)×Nat×Nat×(Option Addr)×Nat×Nat×(Option Addr)×Nat×Nat=>pA (cs=[.int .i64 x.ret,.slice (t.1) (t.2.1) (t.2.2.1),.slice (t.2.2.2.1) (t.2.2.2.2.1) (t.2.2.2.2.2.1),.slice (t.2.2.2.2.2.2.1) (t.2.2.2.2.2.2.2.1) (t.2.2.2.2.2.2.2.2),.int .i64 x.loops,.int .i64 x.breaks]) (Y7 [J6 Q4b 94 (.slice (t.1) (t.2.1) (t.2.2.1)) x.slots,J6 (J3 .i64) 3 (.slice (t.2.2.2.1) (t.2.2.2.2.1) (t.2.2.2.2.2.1)) x.types,Z0g Y2x 80 (.slice (t.2.2.2.2.2.2.1) (t.2.2.2.2.2.2.2.1) (t.2.2.2.2.2.2.2.2)) x.scopes])
 len:=fun h=>by obtain⟨t,h,_⟩:=h;subst h;rfl
 one:=fun h c hc=>by obtain⟨t,h,_⟩:=h;subst h;exact(List.all_eq_true (p:=Value.oneCell')).1 rfl c hc
abbrev Z5s(p:D4)(H1:List Value->Y9)(a1:Option Addr)(n1:Nat)(c1:Nat)(a2:Option Addr)(n2:Nat)(c2:Nat)(a3:Option Addr)(n3:Nat)(c3:Nat):List Y9:=[H1 [.slice a1 n1 c1,.slice a2 n2 c2,.slice a3 n3 c3],J6 Q9t 168 (.slice a1 n1 c1) p.Structs,J6 Q2y 132 (.slice a2 n2 c2) p.Globals,J6 Z3h 136 (.slice a3 n3 c3) p.Funcs]
abbrev X6(p:Q0)(H1 H2:List Value->Y9)(b1:Nat)(o1:Nat)(a1:Option Addr)(n1:Nat)(c1:Nat)(a2:Option Addr)(n2:Nat)(c2:Nat)(a3:Option Addr)(n3:Nat)(c3:Nat)(a4:Option Addr)(n4:Nat)(c4:Nat)(r1:Option Nat)(r2:Option Nat)(a5:Option Addr)(n5:Nat)(c5:Nat)(a6:Option Addr)(n6:Nat)(c6:Nat)(pv1:Value):List Y9:=[H1 [.pointer (some ⟨b1,o1,none⟩),.slice a2 n2 c2,.slice a3 n3 c3,.slice a4 n4 c4,.int .i64 p.u.Main,.map r1,.map r2,.slice a5 n5 c5,.slice a6 n6 c6,pv1],H2 [.slice a1 n1 c1],J6 M2 123 (.slice a1 n1 c1) p.t.list,J6 Q4b 94 (.slice a2 n2 c2) p.u.Globals,J6 (rSl (J3 .u8)) 99 (.slice a3 n3 c3) p.u.Data,J6 Q9f 103 (.slice a4 n4 c4) p.u.Codes,Z5y Y1y (Value.int .i64) (.map r1) p.globals,Z5y Y1y (Value.int .i64) (.map r2) p.codes,J6 (J3 .i64) 3 (.slice a5 n5 c5) p.gtypes,J6 Q5f 186 (.slice a6 n6 c6) p.signs]
abbrev Z6f(p:G5)(H1:List Value->Y9)(a1:Option Addr)(n1:Nat)(c1:Nat)(a2:Option Addr)(n2:Nat)(c2:Nat)(a3:Option Addr)(n3:Nat)(c3:Nat):List Y9:=[H1 [.int .i64 p.ret,.slice a1 n1 c1,.slice a2 n2 c2,.slice a3 n3 c3,.int .i64 p.loops,.int .i64 p.breaks],J6 Q4b 94 (.slice a1 n1 c1) p.slots,J6 (J3 .i64) 3 (.slice a2 n2 c2) p.types,Z0g Y2x 80 (.slice a3 n3 c3) p.scopes]
abbrev J5(p:Z1)(H1 H2:List Value->Y9)(a1:Option Addr)(c1:Nat)(a2:Option Addr)(c2:Nat)(a3:Option Addr)(c3:Nat)(b1:Nat)(o1:Nat)(a4:Option Addr)(n1:Nat)(c4:Nat)(a5:Option Addr)(c5:Nat)(a6:Option Addr)(n2:Nat)(c6:Nat)(a7:Option Addr)(c7:Nat):List Y9:=[H1 [.slice a1 (qQ p.u.Globals) c1,.slice a2 (qQ p.u.Data) c2,.slice a3 (qQ p.u.Codes) c3,.int .i64 p.u.Main,.pointer (some ⟨b1,o1,none⟩),.slice a5 (qQ p.inputs) c5,.slice a6 n2 c6,.int .i64 p.out.Ins,.int .u32 p.out.Exit,.int .i64 p.out.E,.int .i64 p.fuel,.int .i64 p.deep,.slice a7 (qQ p.vars) c7,.int .u32 p.ret.Num,.int .i64 p.ret.Ptr.Obj,.int .i64 p.ret.Ptr.Lo,.int .i64 p.ret.Ptr.Hi,.int .i64 p.ret.Ptr.Off,.bool p.ret.Is],H2 [.slice a4 n1 c4],Z0g K8 145 (.slice a4 n1 c4) p.mem.list,J6 (J3 .u32) 33 (.slice a6 n2 c6) p.out.Out]
abbrev Z9a(p:G4)(H1:List Value->Y9)(a1:Option Addr)(n1:Nat)(c1:Nat)(a2:Option Addr)(n2:Nat)(c2:Nat)(r1:Option Nat):List Y9:=[H1 [.slice a1 n1 c1,.slice a2 n2 c2,.map r1,.bool p.gone],J6 (J3 .u8) 5 (.slice a1 n1 c1) p.bytes.data,J6 Q3v 4 (.slice a2 n2 c2) p.bytes.set_,Z5y (Value.int .i64) Q7c (.map r1) p.ptrs]
theorem mC{α:Type}{r:Rp α}{T T':Nat->Prop}{w w':World}{v:Value}{l:List α}(h:SlR r T w v l)(i:Im T w T' w':=by exact ch):SlR r T' w' v l:=h.mono i
theorem eN{f:FuncId}{fn:Func}{cd:Code}{args:List Value}{w:World}{R:Ending->World->Prop}{m:Nat}(hf:Tryz.prog.funcs[f]?=some fn)(hm:fn.ntmps=m)(h:∀J,cd.wp Tryz.prog (bodyPost Tryz.prog fn R) (env (nf m) J (Y3p 0 args)) w)(hb:fn.body=some cd:=by exact rfl)(hl:Nat.ble args.length m=true:=by exact rfl):Calls Tryz.prog f args.toArray w R:=enter hf hb hm hl h
theorem Sep.sN{g:World}{T:Nat->Prop}{w:World}{L:List Y9}(h:Sep g T w L)(a n:Nat)(hx:Y4t (J7 L) (Z3 a n)=true:=by exact rfl):Sep g T w (Z6x L (Z3 a n)):=h.sel _ hx
theorem Sep.sE{g:World}{T:Nat->Prop}{w:World}{L:List Y9}(h:Sep g T w L)(ix:List Nat)(hx:Y4t (J7 L) ix=true:=by exact rfl):Sep g T w (Z6x L ix):=h.sel ix hx
theorem Sep.bE{g:World}{T:Nat->Prop}{w:World}{L:List Y9}(h:Sep g T w L)(rest ix:List Nat)(hx:Y4t (J7 L) (ix++rest)=true:=by exact rfl):Sep g T w (Y7 (Z6x L rest)::Z6x L ix):=h.bun rest ix hx
abbrev Cl:=Calls Tryz.prog
abbrev CF(n:Nat):=Z3t Tryz.prog n
theorem cfm{n:Nat}{fn:Func}(h:Tryz.prog.funcs[n]?=some fn)(a:(fn.name== "runtime.NumGoroutine")=false:=by kernel_rfl)(b:fn.body.isNone=false:=by kernel_rfl):CF n:=⟨fn,h,a,b⟩
abbrev Ct(n:Nat){C:Prop}(_:C):=Ctr Tryz.prog n C
theorem cf6:CF 6:=cfm func6
theorem cf7:CF 7:=cfm func7
theorem cf8:CF 8:=cfm func8
theorem cf9:CF 9:=cfm func9
theorem cf10:CF 10:=cfm func10
theorem cf11:CF 11:=cfm func11
theorem cf12:CF 12:=cfm func12
theorem cf13:CF 13:=cfm func13
theorem cf14:CF 14:=cfm func14
theorem cf15:CF 15:=cfm func15
theorem cf16:CF 16:=cfm func16
theorem cf17:CF 17:=cfm func17
theorem cf18:CF 18:=cfm func18
theorem cf19:CF 19:=cfm func19
theorem cf20:CF 20:=cfm func20
theorem cf21:CF 21:=cfm func21
theorem cf22:CF 22:=cfm func22
theorem cf23:CF 23:=cfm func23
theorem cf24:CF 24:=cfm func24
theorem cf25:CF 25:=cfm func25
theorem cf26:CF 26:=cfm func26
theorem cf27:CF 27:=cfm func27
theorem cf28:CF 28:=cfm func28
theorem cf29:CF 29:=cfm func29
theorem cf30:CF 30:=cfm func30
theorem cf31:CF 31:=cfm func31
theorem cf32:CF 32:=cfm func32
theorem cf33:CF 33:=cfm func33
theorem cf34:CF 34:=cfm func34
theorem cf35:CF 35:=cfm func35
theorem cf36:CF 36:=cfm func36
theorem cf37:CF 37:=cfm func37
theorem cf38:CF 38:=cfm func38
theorem cf39:CF 39:=cfm func39
theorem cf40:CF 40:=cfm func40
theorem cf41:CF 41:=cfm func41
theorem cf42:CF 42:=cfm func42
theorem cf43:CF 43:=cfm func43
theorem cf44:CF 44:=cfm func44
theorem cf45:CF 45:=cfm func45
theorem cf46:CF 46:=cfm func46
theorem cf47:CF 47:=cfm func47
theorem cf48:CF 48:=cfm func48
theorem cf49:CF 49:=cfm func49
theorem cf50:CF 50:=cfm func50
theorem cf51:CF 51:=cfm func51
theorem cf52:CF 52:=cfm func52
theorem cf53:CF 53:=cfm func53
theorem cf54:CF 54:=cfm func54
theorem cf55:CF 55:=cfm func55
theorem cf56:CF 56:=cfm func56
theorem cf57:CF 57:=cfm func57
theorem Z7e:CF 58:=cfm func58
theorem cf59:CF 59:=cfm func59
theorem cf60:CF 60:=cfm func60
theorem cf61:CF 61:=cfm func61
theorem cf62:CF 62:=cfm func62
theorem cf63:CF 63:=cfm func63
theorem cf64:CF 64:=cfm func64
theorem cf65:CF 65:=cfm func65
theorem cf66:CF 66:=cfm func66
theorem cf67:CF 67:=cfm func67
theorem cf68:CF 68:=cfm func68
theorem cf69:CF 69:=cfm func69
theorem cf70:CF 70:=cfm func70
theorem cf71:CF 71:=cfm func71
theorem cf72:CF 72:=cfm func72
theorem cf73:CF 73:=cfm func73
theorem cf74:CF 74:=cfm func74
theorem Y5n:CF 75:=cfm func75
theorem cf76:CF 76:=cfm func76
theorem cf77:CF 77:=cfm func77
theorem cf78:CF 78:=cfm func78
theorem cf79:CF 79:=cfm func79
theorem cf80:CF 80:=cfm func80
theorem cf81:CF 81:=cfm func81
theorem cf82:CF 82:=cfm func82
theorem cf83:CF 83:=cfm func83
theorem cf84:CF 84:=cfm func84
theorem cf85:CF 85:=cfm func85
theorem cf87:CF 87:=cfm func87
theorem cf88:CF 88:=cfm func88
theorem Z5k:CF 89:=cfm func89
theorem cf90:CF 90:=cfm func90
theorem cf91:CF 91:=cfm func91
theorem cf92:CF 92:=cfm func92
theorem cf93:CF 93:=cfm func93
theorem Y3m:CF 94:=cfm func94
theorem cf95:CF 95:=cfm func95
theorem cf96:CF 96:=cfm func96
theorem cf97:CF 97:=cfm func97
theorem cf98:CF 98:=cfm func98
theorem cf99:CF 99:=cfm func99
theorem cf100:CF 100:=cfm func100
theorem cf101:CF 101:=cfm func101
theorem cf102:CF 102:=cfm func102
theorem cf103:CF 103:=cfm func103
theorem Z1v:CF 104:=cfm func104
theorem cf105:CF 105:=cfm func105
theorem cf106:CF 106:=cfm func106
theorem Z5f:CF 107:=cfm func107
theorem A5:CF 108:=cfm func108
theorem Y3b:CF 109:=cfm func109
theorem cf110:CF 110:=cfm func110
theorem cf111:CF 111:=cfm func111
theorem cf112:CF 112:=cfm func112
theorem cf113:CF 113:=cfm func113
theorem cf114:CF 114:=cfm func114
theorem cf115:CF 115:=cfm func115
theorem cf116:CF 116:=cfm func116
theorem cf117:CF 117:=cfm func117
theorem cf118:CF 118:=cfm func118
theorem cf119:CF 119:=cfm func119
theorem cf120:CF 120:=cfm func120
theorem cf121:CF 121:=cfm func121
theorem X2t:CF 126:=cfm func126
theorem cf127:CF 127:=cfm func127
theorem cf128:CF 128:=cfm func128
theorem Y9m:CF 129:=cfm func129
theorem Y7w:CF 130:=cfm func130
theorem cf131:CF 131:=cfm func131
theorem X2s:CF 132:=cfm func132
theorem X2r:CF 133:=cfm func133
theorem cf134:CF 134:=cfm func134
theorem cf135:CF 135:=cfm func135
theorem cf136:CF 136:=cfm func136
theorem cf137:CF 137:=cfm func137
theorem cf138:CF 138:=cfm func138
theorem cf139:CF 139:=cfm func139
theorem Y7v:CF 140:=cfm func140
theorem cf141:CF 141:=cfm func141
theorem cf142:CF 142:=cfm func142
theorem cf143:CF 143:=cfm func143
theorem cf144:CF 144:=cfm func144
theorem Y9l:CF 145:=cfm func145
theorem Q1p:CF 146:=cfm func146
theorem Y9k:CF 147:=cfm func147
theorem X2q:CF 148:=cfm func148
theorem cf149:CF 149:=cfm func149
theorem Y9j:CF 150:=cfm func150
theorem cf151:CF 151:=cfm func151
theorem cf152:CF 152:=cfm func152
theorem cf153:CF 153:=cfm func153
theorem cf154:CF 154:=cfm func154
theorem cf155:CF 155:=cfm func155
theorem Y6f:CF 156:=cfm func156
theorem cf157:CF 157:=cfm func157
theorem cf158:CF 158:=cfm func158
theorem cf159:CF 159:=cfm func159
theorem cf160:CF 160:=cfm func160
theorem cf161:CF 161:=cfm func161
theorem cf162:CF 162:=cfm func162
theorem cf163:CF 163:=cfm func163
theorem cf164:CF 164:=cfm func164
theorem cf165:CF 165:=cfm func165
theorem cf166:CF 166:=cfm func166
theorem Q0u:CF 169:=cfm func169
theorem cf170:CF 170:=cfm func170
theorem cf171:CF 171:=cfm func171
theorem cf172:CF 172:=cfm func172
theorem cf173:CF 173:=cfm func173
theorem cf174:CF 174:=cfm func174
theorem cf175:CF 175:=cfm func175
theorem cf176:CF 176:=cfm func176
theorem cf177:CF 177:=cfm func177
theorem cf178:CF 178:=cfm func178
theorem cf179:CF 179:=cfm func179
theorem cf180:CF 180:=cfm func180
theorem Y9i:CF 181:=cfm func181
theorem cf182:CF 182:=cfm func182
theorem cf183:CF 183:=cfm func183
theorem cf184:CF 184:=cfm func184
theorem cf185:CF 185:=cfm func185
theorem cf186:CF 186:=cfm func186
theorem cf187:CF 187:=cfm func187
theorem Y6e:CF 188:=cfm func188
theorem X2p:CF 189:=cfm func189
theorem cf190:CF 190:=cfm func190
theorem cf191:CF 191:=cfm func191
theorem cf192:CF 192:=cfm func192
theorem cf193:CF 193:=cfm func193
theorem cf194:CF 194:=cfm func194
theorem cf195:CF 195:=cfm func195
theorem cf196:CF 196:=cfm func196
theorem cf197:CF 197:=cfm func197
theorem cf198:CF 198:=cfm func198
theorem cf199:CF 199:=cfm func199
theorem cf200:CF 200:=cfm func200
theorem cf201:CF 201:=cfm func201
theorem cf202:CF 202:=cfm func202
theorem cf203:CF 203:=cfm func203
theorem cf204:CF 204:=cfm func204
theorem cf205:CF 205:=cfm func205
theorem cf206:CF 206:=cfm func206
theorem cf207:CF 207:=cfm func207
theorem cf208:CF 208:=cfm func208
theorem cf209:CF 209:=cfm func209
theorem cf210:CF 210:=cfm func210
theorem cf211:CF 211:=cfm func211
theorem cf212:CF 212:=cfm func212
theorem cf213:CF 213:=cfm func213
theorem cf214:CF 214:=cfm func214
theorem cf215:CF 215:=cfm func215
theorem cf216:CF 216:=cfm func216
theorem el3:R4 Tryz.prog 3 1:=⟨by kernel_rfl,by decide⟩
theorem el4:R4 Tryz.prog 4 1:=⟨by kernel_rfl,by decide⟩
theorem el5:R4 Tryz.prog 5 1:=⟨by kernel_rfl,by decide⟩
theorem el33:R4 Tryz.prog 33 1:=⟨by kernel_rfl,by decide⟩
theorem el59:R4 Tryz.prog 59 4:=⟨by kernel_rfl,by decide⟩
theorem el61:R4 Tryz.prog 61 6:=⟨by kernel_rfl,by decide⟩
theorem el80:R4 Tryz.prog 80 1:=⟨by kernel_rfl,by decide⟩
theorem el94:R4 Tryz.prog 94 4:=⟨by kernel_rfl,by decide⟩
theorem el99:R4 Tryz.prog 99 1:=⟨by kernel_rfl,by decide⟩
theorem el103:R4 Tryz.prog 103 5:=⟨by kernel_rfl,by decide⟩
theorem el114:R4 Tryz.prog 114 5:=⟨by kernel_rfl,by decide⟩
theorem el123:R4 Tryz.prog 123 8:=⟨by kernel_rfl,by decide⟩
theorem el132:R4 Tryz.prog 132 9:=⟨by kernel_rfl,by decide⟩
theorem el136:R4 Tryz.prog 136 8:=⟨by kernel_rfl,by decide⟩
theorem el145:R4 Tryz.prog 145 4:=⟨by kernel_rfl,by decide⟩
theorem el155:R4 Tryz.prog 155 8:=⟨by kernel_rfl,by decide⟩
theorem el168:R4 Tryz.prog 168 4:=⟨by kernel_rfl,by decide⟩
theorem el178:R4 Tryz.prog 178 3:=⟨by kernel_rfl,by decide⟩
theorem el186:R4 Tryz.prog 186 2:=⟨by kernel_rfl,by decide⟩
theorem el197:R4 Tryz.prog 197 9:=⟨by kernel_rfl,by decide⟩
theorem el208:R4 Tryz.prog 208 10:=⟨by kernel_rfl,by decide⟩
theorem el212:R4 Tryz.prog 212 10:=⟨by kernel_rfl,by decide⟩
theorem el236:R4 Tryz.prog 236 3:=⟨by kernel_rfl,by decide⟩
theorem el274:R4 Tryz.prog 274 5:=⟨by kernel_rfl,by decide⟩
theorem mix:Tryz.prog.follows .mixedOrders=true:=by kernel_rfl
attribute [local irreducible] M1 W7 execOp Program.underlying sizeOf isAgg zeroValue
/-! Steps that find by themselves what they need. -/
theorem tyU{t:TypeId}{d:TypeDesc}(h:Tryz.prog.underlying t=some d:=by first|exact Tryz.underlying152|exact Tryz.underlying130|exact Tryz.underlying66|exact Tryz.underlying153|exact Tryz.underlying208|exact Tryz.underlying71|exact Tryz.underlying226|exact Tryz.underlying85|exact Tryz.underlying197|exact Tryz.underlying9|exact Tryz.underlying22|exact Tryz.underlying63|exact Tryz.underlying44|exact Tryz.underlying212|exact Tryz.underlying81|exact Tryz.underlying132|exact Tryz.underlying82|exact Tryz.underlying155|exact Tryz.underlying36|exact Tryz.underlying100|exact Tryz.underlying210|exact Tryz.underlying190|exact Tryz.underlying99|exact Tryz.underlying124|exact Tryz.underlying59|exact Tryz.underlying57|exact Tryz.underlying101|exact Tryz.underlying33|exact Tryz.underlying45|exact Tryz.underlying121|exact Tryz.underlying119|exact Tryz.underlying25|exact Tryz.underlying61|exact Tryz.underlying123|exact Tryz.underlying136|exact Tryz.underlying145|exact Tryz.underlying274|exact Tryz.underlying126|exact Tryz.underlying114|exact Tryz.underlying80|exact Tryz.underlying29|exact Tryz.underlying110|exact Tryz.underlying47|exact Tryz.underlying43|exact Tryz.underlying178|exact Tryz.underlying21|exact Tryz.underlying27|exact Tryz.underlying5|exact Tryz.underlying186|exact Tryz.underlying90|exact Tryz.underlying92|exact Tryz.underlying3|exact Tryz.underlying140|exact Tryz.underlying142|exact Tryz.underlying134|exact Tryz.underlying188|exact Tryz.underlying78|exact Tryz.underlying129|exact Tryz.underlying2|exact Tryz.underlying168|exact Tryz.underlying4|exact Tryz.underlying103|exact Tryz.underlying199|exact Tryz.underlying143|exact Tryz.underlying94|exact Tryz.underlying26|exact Tryz.underlying55|exact Tryz.underlying236|exact Tryz.underlying24|exact Tryz.underlying49|exact Tryz.underlying76|exact Tryz.underlying89|exact Tryz.underlying283|exact Tryz.underlying72|exact Tryz.underlying83|exact Tryz.underlying86|exact Tryz.underlying203):Tryz.prog.underlying t=some d:=h
theorem tyS{t:TypeId}{z:Nat}(h:∀w,(sizeOf t).run Tryz.prog w= .ok z w:=by first|exact Tryz.sizeOf208|exact Tryz.sizeOf197|exact Tryz.sizeOf61|exact Tryz.sizeOf3|exact Tryz.sizeOf226|exact Tryz.sizeOf49|exact Tryz.sizeOf114|exact Tryz.sizeOf155|exact Tryz.sizeOf236|exact Tryz.sizeOf59|exact Tryz.sizeOf33|exact Tryz.sizeOf132|exact Tryz.sizeOf274|exact Tryz.sizeOf212|exact Tryz.sizeOf36|exact Tryz.sizeOf130|exact Tryz.sizeOf9|exact Tryz.sizeOf29|exact Tryz.sizeOf4|exact Tryz.sizeOf136|exact Tryz.sizeOf186|exact Tryz.sizeOf86|exact Tryz.sizeOf178|exact Tryz.sizeOf152|exact Tryz.sizeOf78|exact Tryz.sizeOf121|exact Tryz.sizeOf123|exact Tryz.sizeOf94|exact Tryz.sizeOf129|exact Tryz.sizeOf5|exact Tryz.sizeOf103|exact Tryz.sizeOf134|exact Tryz.sizeOf66|exact Tryz.sizeOf47|exact Tryz.sizeOf101|exact Tryz.sizeOf168|exact Tryz.sizeOf83|exact Tryz.sizeOf22|exact Tryz.sizeOf44|exact Tryz.sizeOf124|exact Tryz.sizeOf81|exact Tryz.sizeOf25|exact Tryz.sizeOf80|exact Tryz.sizeOf142|exact Tryz.sizeOf34|exact Tryz.sizeOf90|exact Tryz.sizeOf153|exact Tryz.sizeOf55|exact Tryz.sizeOf57|exact Tryz.sizeOf188|exact Tryz.sizeOf82|exact Tryz.sizeOf99|exact Tryz.sizeOf143|exact Tryz.sizeOf45|exact Tryz.sizeOf27|exact Tryz.sizeOf145|exact Tryz.sizeOf72|exact Tryz.sizeOf119|exact Tryz.sizeOf89|exact Tryz.sizeOf43|exact Tryz.sizeOf26|exact Tryz.sizeOf203|exact Tryz.sizeOf210|exact Tryz.sizeOf140|exact Tryz.sizeOf76):∀w,(sizeOf t).run Tryz.prog w= .ok z w:=h
theorem tyA{t:TypeId}{z:Bool}(h:∀w,(isAgg t).run Tryz.prog w= .ok z w:=by first|exact Tryz.isAgg208|exact Tryz.isAgg61|exact Tryz.isAgg197|exact Tryz.isAgg3|exact Tryz.isAgg226|exact Tryz.isAgg155|exact Tryz.isAgg49|exact Tryz.isAgg59|exact Tryz.isAgg212|exact Tryz.isAgg130|exact Tryz.isAgg114|exact Tryz.isAgg274|exact Tryz.isAgg33|exact Tryz.isAgg78|exact Tryz.isAgg132|exact Tryz.isAgg9|exact Tryz.isAgg86|exact Tryz.isAgg69|exact Tryz.isAgg4|exact Tryz.isAgg29|exact Tryz.isAgg77|exact Tryz.isAgg152|exact Tryz.isAgg136|exact Tryz.isAgg129|exact Tryz.isAgg178|exact Tryz.isAgg66|exact Tryz.isAgg83|exact Tryz.isAgg55|exact Tryz.isAgg124|exact Tryz.isAgg47|exact Tryz.isAgg44|exact Tryz.isAgg25|exact Tryz.isAgg90|exact Tryz.isAgg22|exact Tryz.isAgg101|exact Tryz.isAgg103|exact Tryz.isAgg34|exact Tryz.isAgg134|exact Tryz.isAgg186|exact Tryz.isAgg153|exact Tryz.isAgg80|exact Tryz.isAgg36|exact Tryz.isAgg81|exact Tryz.isAgg99|exact Tryz.isAgg5|exact Tryz.isAgg94|exact Tryz.isAgg82|exact Tryz.isAgg57|exact Tryz.isAgg45|exact Tryz.isAgg121|exact Tryz.isAgg188|exact Tryz.isAgg27|exact Tryz.isAgg168|exact Tryz.isAgg123|exact Tryz.isAgg143|exact Tryz.isAgg26|exact Tryz.isAgg72|exact Tryz.isAgg43|exact Tryz.isAgg140|exact Tryz.isAgg119|exact Tryz.isAgg203|exact Tryz.isAgg210|exact Tryz.isAgg236):∀w,(isAgg t).run Tryz.prog w= .ok z w:=h
theorem tyZ{t:TypeId}{z:Value}(h:∀w,(zeroValue t).run Tryz.prog w= .ok z w:=by first|exact Tryz.zeroValue197|exact Tryz.zeroValue226|exact Tryz.zeroValue208|exact Tryz.zeroValue36|exact Tryz.zeroValue61|exact Tryz.zeroValue155|exact Tryz.zeroValue3|exact Tryz.zeroValue59|exact Tryz.zeroValue132|exact Tryz.zeroValue121|exact Tryz.zeroValue33|exact Tryz.zeroValue136|exact Tryz.zeroValue49|exact Tryz.zeroValue114|exact Tryz.zeroValue212|exact Tryz.zeroValue29|exact Tryz.zeroValue168|exact Tryz.zeroValue178|exact Tryz.zeroValue274|exact Tryz.zeroValue47|exact Tryz.zeroValue94|exact Tryz.zeroValue186|exact Tryz.zeroValue5|exact Tryz.zeroValue103|exact Tryz.zeroValue4|exact Tryz.zeroValue89|exact Tryz.zeroValue129|exact Tryz.zeroValue123|exact Tryz.zeroValue236|exact Tryz.zeroValue80|exact Tryz.zeroValue145|exact Tryz.zeroValue203|exact Tryz.zeroValue72|exact Tryz.zeroValue76|exact Tryz.zeroValue99|exact Tryz.zeroValue101|exact Tryz.zeroValue86):∀w,(zeroValue t).run Tryz.prog w= .ok z w:=h
theorem opnS{α:Type}{r:Rp α}{T:Nat->Prop}{w:World}{u:α}{cs:List Value}(h:∀c0,r.rp T w c0 u->c0=cs:=by first|exact fun _ h=>h|exact fun _ h=>Q2x h|exact fun _ h=>Q8j h|exact fun _ h=>Z4g h|exact fun _ h=>Z8p h|exact fun _ h=>Z3e h|exact fun _ h=>Y1c h|exact fun _ h=>Z5i h|exact fun _ h=>Z2l h|exact fun _ h=>Z3g h|exact fun _ h=>Z4f h):∀c0,r.rp T w c0 u->c0=cs:=h
theorem lsS{α:Type}{x y:List α}(h:x=y:=by first|exact(rfl:_=[_])|exact(rfl:_=[_,_])|exact(rfl:_=[_,_,_])|exact(rfl:_=[_,_,_,_])|exact(rfl:_=[_,_,_,_,_])|exact(rfl:_=[_,_,_,_,_,_])|exact(rfl:_=[_,_,_,_,_,_,_])|exact(rfl:_=[_,_,_,_,_,_,_,_])|exact(rfl:_=[_,_,_,_,_,_,_,_,_])|exact(rfl:_=[_,_,_,_,_,_,_,_,_,_])|exact(rfl:_=[_,_,_,_,_,_,_,_,_,_,_])|exact(rfl:_=[_,_,_,_,_,_,_,_,_,_,_,_])|exact(rfl:_=[_,_,_,_,_,_,_,_,_,_,_,_,_])|exact(rfl:_=[_,_,_,_,_,_,_,_,_,_,_,_,_,_])|exact(rfl:_=[_,_,_,_,_,_,_,_,_,_,_,_,_,_,_])|exact(rfl:_=[_,_,_,_,_,_,_,_,_,_,_,_,_,_,_,_])|exact(rfl:_=[_,_,_,_,_,_,_,_,_,_,_,_,_,_,_,_,_])):x=y:=h
theorem lsZ{α:Type}{x y:List α}(h:x=y:=by first|exact(rfl:_=[])|exact(rfl:_=[_])|exact(rfl:_=[_,_])|exact(rfl:_=[_,_,_])|exact(rfl:_=[_,_,_,_])|exact(rfl:_=[_,_,_,_,_])|exact(rfl:_=[_,_,_,_,_,_])|exact(rfl:_=[_,_,_,_,_,_,_])|exact(rfl:_=[_,_,_,_,_,_,_,_])|exact(rfl:_=[_,_,_,_,_,_,_,_,_])|exact(rfl:_=[_,_,_,_,_,_,_,_,_,_])|exact(rfl:_=[_,_,_,_,_,_,_,_,_,_,_])|exact(rfl:_=[_,_,_,_,_,_,_,_,_,_,_,_])|exact(rfl:_=[_,_,_,_,_,_,_,_,_,_,_,_,_])|exact(rfl:_=[_,_,_,_,_,_,_,_,_,_,_,_,_,_])|exact(rfl:_=[_,_,_,_,_,_,_,_,_,_,_,_,_,_,_])):x=y:=h
theorem opv{P:Program}{n:NF}{J:Nat->Value}{L:List (Nat×Value)}{w:World}{o:Oper}{v:Value}(h:(execOp (ev n J L) o).run P w= .ok (.value v) w:=by
 first|((with_reducible apply Z1x);first|exact(rfl:_=Value.int _ _)|exact(rfl:_=Value.bool _)|exact(rfl:_=Value.slice _ _ _)|exact(rfl:_=Value.pointer _)|exact(rfl:_=Value.string _)|exact(rfl:_=Value.agg _)|exact(rfl:_=Value.func _ _ _)|exact(rfl:_=Value.tuple _)|exact(rfl:_=Value.map _))|((with_reducible apply Y5f);first|exact(rfl:_=Value.int _ _)|exact(rfl:_=Value.bool _)|exact(rfl:_=Value.slice _ _ _)|exact(rfl:_=Value.pointer _)|exact(rfl:_=Value.string _)|exact(rfl:_=Value.agg _)|exact(rfl:_=Value.func _ _ _)|exact(rfl:_=Value.tuple _)|exact(rfl:_=Value.map _))|((with_reducible apply r_ib);(exact rfl);(exact rfl);(exact rfl))|((with_reducible apply r_faP);(exact rfl);(exact tyU);(exact rfl);(exact tyS);(exact rfl))|((with_reducible apply r_fa);(exact rfl);(exact tyU);(exact rfl);(exact tyS);(exact rfl))|((with_reducible apply Z3d);(exact rfl);(exact tyA);(first|exact Sep.cell0 (by assumption) atS (by exact rfl)|exact cellsAt.get (by assumption) (by exact rfl)|exact cellsAt.get0 (by assumption) (by exact rfl)|exact elG Y3f (by assumption) (by exact rfl) opnS (by exact rfl)|exact elG0 Y3f (by assumption) (by exact rfl) opnS (by exact rfl)|exact Sep.cellL (by assumption) (by assumption) atS (by exact rfl)|exact Sep.cellL0 (by assumption) (by assumption) atS (by exact rfl)|exact cellsAt.get (cellsAt.sameT (by assumption) (by assumption) ch) (by exact rfl)|exact cellsAt.get0 (cellsAt.sameT (by assumption) (by assumption) ch) (by exact rfl)))|((with_reducible apply Y7a);(exact rfl);(first|assumption|exact rfl);(exact rfl))|((with_reducible apply Y6z);(exact rfl);(first|assumption|exact rfl);(exact rfl))|((with_reducible apply r_ex0);(exact rfl))|((with_reducible apply r_ex1);(exact rfl))|((with_reducible apply r_ex2);(exact rfl))|((with_reducible apply r_ex3);(exact rfl))|((with_reducible apply r_ixc);(exact rfl);(exact rfl);(exact tyU);(exact tyS);(exact Y3f);(exact rfl);(assumption))|((with_reducible apply r_ixf);(assumption);(exact rfl);(exact tyU);(exact tyS);(assumption);(assumption);(assumption))|((with_reducible apply r_ixv);(assumption);(assumption);(exact atS);(exact rfl);(exact rfl);(exact tyU);(exact tyS);(exact rfl);(assumption))|((with_reducible apply r_ldE);(exact rfl);(exact tyA);(exact tyS);(first|assumption|exact Sep.cellsA (by assumption) atS|exact elS Y3f (by assumption) (by exact rfl) opnS|exact Sep.cellsP (by assumption) (by assumption) atS|exact cellsAt.sameT (by assumption) (by assumption) ch);(exact rfl))|((with_reducible apply r_ldP);(exact rfl);(exact tyA);(exact tyS);(assumption);(exact atS);(exact lsS);(exact rfl))|((with_reducible apply r_cv);(exact rfl);(exact tyU);(exact tyU))|((with_reducible apply r_lnt);(exact rfl);(exact tyU))|((with_reducible apply r_lnW);(exact rfl);(exact tyU);(exact Y3f))|((with_reducible apply r_lnN);(assumption);(exact atS);(exact rfl);(exact tyU))|((with_reducible apply r_ln);(exact rfl);(exact tyU))|((with_reducible apply r_sqL);(exact rfl);(exact rfl))|((with_reducible apply r_snL);(exact rfl);(exact rfl))|((with_reducible apply r_nt);(exact rfl))|((with_reducible apply r_nc);(exact rfl))|((with_reducible apply r_ng);(exact rfl))|((with_reducible apply r_cm);(exact rfl))|((with_reducible apply X0a);(exact rfl);(exact rfl);(decide))|((with_reducible apply Y7b);(exact rfl);(exact rfl);(decide))|((with_reducible apply r_irm);(exact rfl);(exact rfl);(decide))|((with_reducible apply r_iq);(exact rfl);(exact rfl);(decide))):(execOp (ev n J L) o).run P w= .ok (.value v) w:=h
theorem opq{P:Program}{n:NF}{J:Nat->Value}{L:List (Nat×Value)}{w:World}{o:Oper}{v:Value}(h:(execOp (ev n J L) o).run P w= .ok (.value v) w:=by
 first|((with_reducible apply Z1x);first|exact(rfl:_=Value.int _ _)|exact(rfl:_=Value.bool _)|exact(rfl:_=Value.slice _ _ _)|exact(rfl:_=Value.pointer _)|exact(rfl:_=Value.string _)|exact(rfl:_=Value.agg _)|exact(rfl:_=Value.func _ _ _)|exact(rfl:_=Value.tuple _)|exact(rfl:_=Value.map _))|((with_reducible apply Y5f);first|exact(rfl:_=Value.int _ _)|exact(rfl:_=Value.bool _)|exact(rfl:_=Value.slice _ _ _)|exact(rfl:_=Value.pointer _)|exact(rfl:_=Value.string _)|exact(rfl:_=Value.agg _)|exact(rfl:_=Value.func _ _ _)|exact(rfl:_=Value.tuple _)|exact(rfl:_=Value.map _))|((with_reducible apply r_ib);(exact rfl);(exact rfl);(exact rfl))|((with_reducible apply r_faP);(exact rfl);(exact tyU);(exact rfl);(exact tyS);(exact rfl))|((with_reducible apply r_fa);(exact rfl);(exact tyU);(exact rfl);(exact tyS);(exact rfl))|((with_reducible apply Z3d);(exact rfl);(exact tyA);(apply QC.cell;assumption;(first|exact Sep.cell0 (by assumption) atS (by exact rfl)|exact cellsAt.get (by assumption) (by exact rfl)|exact cellsAt.get0 (by assumption) (by exact rfl)|exact elG Y3f (by assumption) (by exact rfl) opnS (by exact rfl)|exact elG0 Y3f (by assumption) (by exact rfl) opnS (by exact rfl)|exact Sep.cellL (by assumption) (by assumption) atS (by exact rfl)|exact Sep.cellL0 (by assumption) (by assumption) atS (by exact rfl)|exact cellsAt.get (cellsAt.sameT (by assumption) (by assumption) ch) (by exact rfl)|exact cellsAt.get0 (cellsAt.sameT (by assumption) (by assumption) ch) (by exact rfl))))|((with_reducible apply Y7a);(exact rfl);(first|assumption|exact rfl);(exact rfl))|((with_reducible apply Y6z);(exact rfl);(first|assumption|exact rfl);(exact rfl))|((with_reducible apply r_ex0);(exact rfl))|((with_reducible apply r_ex1);(exact rfl))|((with_reducible apply r_ex2);(exact rfl))|((with_reducible apply r_ex3);(exact rfl))|((with_reducible apply r_ixc);(exact rfl);(exact rfl);(exact tyU);(exact tyS);(exact Y3f);(exact rfl);(assumption))|((with_reducible apply r_ixf);(assumption);(exact rfl);(exact tyU);(exact tyS);(assumption);(assumption);(assumption))|((with_reducible apply r_ixv);(assumption);(assumption);(exact atS);(exact rfl);(exact rfl);(exact tyU);(exact tyS);(exact rfl);(assumption))|((with_reducible apply r_ldE);(exact rfl);(exact tyA);(exact tyS);(apply QC.cellsAt;assumption;(first|assumption|exact Sep.cellsA (by assumption) atS|exact elS Y3f (by assumption) (by exact rfl) opnS|exact Sep.cellsP (by assumption) (by assumption) atS|exact cellsAt.sameT (by assumption) (by assumption) ch));(exact rfl))|((with_reducible apply r_ldP);(exact rfl);(exact tyA);(exact tyS);(assumption);(exact atS);(exact lsS);(exact rfl))|((with_reducible apply r_cv);(exact rfl);(exact tyU);(exact tyU))|((with_reducible apply r_lnt);(exact rfl);(exact tyU))|((with_reducible apply r_lnW);(exact rfl);(exact tyU);(exact Y3f))|((with_reducible apply r_lnN);(assumption);(exact atS);(exact rfl);(exact tyU))|((with_reducible apply r_ln);(exact rfl);(exact tyU))|((with_reducible apply r_sqL);(exact rfl);(exact rfl))|((with_reducible apply r_snL);(exact rfl);(exact rfl))|((with_reducible apply r_nt);(exact rfl))|((with_reducible apply r_nc);(exact rfl))|((with_reducible apply r_ng);(exact rfl))|((with_reducible apply r_cm);(exact rfl))|((with_reducible apply X0a);(exact rfl);(exact rfl);(decide))|((with_reducible apply Y7b);(exact rfl);(exact rfl);(decide))|((with_reducible apply r_irm);(exact rfl);(exact rfl);(decide))|((with_reducible apply r_iq);(exact rfl);(exact rfl);(decide))):(execOp (ev n J L) o).run P w= .ok (.value v) w:=h
theorem gwS{l:List Oper}{n:NF}{J:Nat->Value}{L:List (Nat×Value)}{gd:Option (Nat×Bool)}(h:Wt l n J L gd:=by first|exact qZt|exact⟨_,rfl,congrArg Value.bool (by assumption)⟩|exact⟨_,rfl,rfl⟩):Wt l n J L gd:=h
theorem gUS{l:List Oper}{n:NF}{J:Nat->Value}{L:List (Nat×Value)}{gd:Option (Nat×Bool)}(h:Wf l n J L gd:=by first|exact gI rfl rfl (by assumption)|exact gI rfl rfl rfl|exact⟨_,rfl,.inr rfl⟩):Wf l n J L gd:=h
theorem stS{P:Program}{l:List Oper}{n:NF}{J:Nat->Value}{L:List (Nat×Value)}{w:World}{pd:List (Nat×Value)}(h:Z3r P l pd (env n J L) w:=by repeat(first|exact st0|refine st1 rfl opv ?_)):Z3r P l pd (env n J L) w:=h
theorem pu{A B:Prop}(k:B)(h:Kp B->A:=by
 intro k
 repeat(first|with_reducible refine rg ?_|((with_reducible apply pv);(exact opv))|((with_reducible apply gT);(exact rfl);(exact rfl);(first|assumption|exact rfl))|((with_reducible apply gF);(exact rfl);(exact rfl);(first|assumption|exact rfl))|((with_reducible apply gU);(exact rfl);(exact rfl))|((with_reducible apply s0a);(exact rfl);(exact rfl);(exact gwS);(intro _;exact opv))|((with_reducible apply sUa);(exact rfl);(exact gUS))|((with_reducible apply s1a);(exact rfl);(exact rfl);(exact gwS);(exact opv))|((with_reducible apply And.intro);(exact stS))|((with_reducible apply qv);(intro _ _;exact opq))|((with_reducible apply qgT);(exact rfl);(exact rfl);(first|assumption|exact rfl))|((with_reducible apply qgF);(exact rfl);(exact rfl);(first|assumption|exact rfl))|((with_reducible apply qgU);(exact rfl);(exact rfl))|((with_reducible apply t0a);(exact rfl);(exact rfl);(exact rfl);(exact gwS);(intro _;exact opv))|((with_reducible apply tUa);(exact rfl);(exact rfl);(exact gUS);(kernel_rfl))|((with_reducible apply t1a);(exact rfl);(exact rfl);(exact rfl);(exact gwS);(exact opv)))
 exact k.out):A:=h ⟨k⟩
theorem pn{A B:Prop}(k:B)(h:Kp B->A:=by
 intro k
 repeat(first|with_reducible refine rg ?_|((with_reducible apply pv);(exact opv))|((with_reducible apply gT);(exact rfl);(exact rfl);(first|assumption|exact rfl))|((with_reducible apply gF);(exact rfl);(exact rfl);(first|assumption|exact rfl))|((with_reducible apply gU);(exact rfl);(exact rfl))|((with_reducible apply s0a);(exact rfl);(exact rfl);(exact gwS);(intro _;exact opv))|((with_reducible apply sUa);(exact rfl);(exact gUS))|((with_reducible apply s1a);(exact rfl);(exact rfl);(exact gwS);(exact opv))|((with_reducible apply And.intro);(exact stS))|((with_reducible apply qv);(intro _ _;exact opq))|((with_reducible apply qgT);(exact rfl);(exact rfl);(first|assumption|exact rfl))|((with_reducible apply qgF);(exact rfl);(exact rfl);(first|assumption|exact rfl))|((with_reducible apply qgU);(exact rfl);(exact rfl))|((with_reducible apply t0a);(exact rfl);(exact rfl);(exact rfl);(exact gwS);(intro _;exact opv))|((with_reducible apply tUa);(exact rfl);(exact rfl);(exact gUS);(kernel_rfl))|((with_reducible apply t1a);(exact rfl);(exact rfl);(exact rfl);(exact gwS);(exact opv))|with_reducible refine nil ?_|with_reducible refine Y6u ?_|with_reducible refine t_blk ?_|with_reducible refine se ?_|with_reducible refine seP ?_|with_reducible refine te ?_|with_reducible refine teP ?_|with_reducible refine qn ?_|with_reducible refine skp ?_|with_reducible refine xt ?_|with_reducible refine x_then ?_|with_reducible refine x_eq ?_|with_reducible refine x_ne (by decide) ?_|with_reducible refine rtn ?_|with_reducible refine r_then ?_|with_reducible refine r_blk ?_)
 exact k.out):A:=h ⟨k⟩
theorem cd{A B1 B2:Prop}{α:Type}{b:Bool}{X Y Z:α}(hm:(bif b then X else Y)=Z)(h1:B1)(h2:B2)(h:(bif b then X else Y)=Z->Kp B1->Kp B2->A:=by
 intro hm k1 k2
 refine pn ?_
 exact cndH rfl hm k1.out k2.out):A:=h hm ⟨h1⟩ ⟨h2⟩
theorem t1W{A B:Prop}(js R ks:List Nat)(k:B)(h:KN js->KN R->KN ks->Kp B->A:=by
 intro a b c k
 refine pu ?_
 refine twK a rfl (wt_of rfl rfl gwS) rfl (by kernel_rfl) (by kernel_rfl) ⟨?_,qZt⟩
 refine brK b c rfl (by kernel_rfl) (by kernel_rfl) gwS (by kernel_rfl) ?_
 exact k.out):A:=h ⟨qZt⟩ ⟨qZt⟩ ⟨qZt⟩ ⟨k⟩
theorem tF{A B:Prop}(js:List Nat)(k:B)(h:KN js->Kp B->A:=by
 intro a k
 refine pu ?_
 refine twK a rfl (wt_of rfl rfl gwS) rfl (by kernel_rfl) (by kernel_rfl) ?_
 exact k.out):A:=h ⟨qZt⟩ ⟨k⟩
theorem brW{A B:Prop}(R ks:List Nat)(k:B)(h:KN R->KN ks->Kp B->A:=by
 intro b c k
 refine brK b c rfl (by kernel_rfl) (by kernel_rfl) gwS (by kernel_rfl) ?_
 exact k.out):A:=h ⟨qZt⟩ ⟨qZt⟩ ⟨k⟩
theorem s2W{A B:Prop}(ks:List Nat)(k:B)(h:KN ks->Kp B->A:=by
 intro c k
 refine pu ?_
 refine s2K c rfl gwS rfl (by kernel_rfl) ?_
 exact k.out):A:=h ⟨qZt⟩ ⟨k⟩
theorem je{A F:Prop}{g:World}{T:Nat->Prop}{w:World}{G:List Y9}(hm:F)(S:Sep g T w G)(h:F->Kp (Sep g T w G)->A:=by
 intro hm S
 refine pn ?_
 repeat'(first|with_reducible apply Exists.intro|with_reducible apply And.intro|exact hm|exact Y2o|exact S.out|exact ch|exact Q2f|((apply Q8u)<;>assumption)|exact qZt|assumption|exact Y7l (by assumption) ch|exact V0)):A:=h hm ⟨S⟩
theorem lg{A N:Prop}{α:Type}{x z:α}{g:World}{T:Nat->Prop}{w:World}{G:List Y9}(hm:some x=some z)(hn:N)(S:Sep g T w G)(h:some x=some z->N->Kp (Sep g T w G)->A:=by
 intro hm hn S
 cases oI hm
 refine pn ?_
 refine⟨_,Nat.lt_succ_self _,?_⟩
 repeat'(first|with_reducible apply Exists.intro|with_reducible apply And.intro|exact hn|exact Y2o|exact S.out|exact ch|exact Q2f|((apply Q8u)<;>assumption)|exact qZt|assumption|exact Y7l (by assumption) ch|exact V0)):A:=h hm hn ⟨S⟩
theorem rvsS{n:NF}{J:Nat->Value}{L:List (Nat×Value)}{w:World}{rs:List ResultVar}{vs:List Value}(h:RVs Tryz.prog n J L w rs vs:=by repeat(first|exact rv0|(apply rvT;(exact rfl))|(apply rvC;(exact rfl);(exact tyA);(exact Sep.bx (by assumption) atS))|(apply rvG;(exact rfl);(exact tyA);(exact tyS);(exact Sep.bx (by assumption) atS);(exact rfl)))):RVs Tryz.prog n J L w rs vs:=h
theorem re{A:Prop}{α:Type}{x z:α}{g:World}{T:Nat->Prop}{w:World}{G:List Y9}(hm:some x=some z)(S:Sep g T w G)(h:some x=some z->Kp (Sep g T w G)->A:=by
 intro hm S
 cases oI hm
 refine pn ?_
 first|refine ret1 rfl rfl ?_|refine ret0 rfl ?_|refine ret2 rfl rfl rfl ?_|(apply retN;(exact rfl);(exact rvsS);(exact rfl))
 refine rsm S.out ch ?_
 repeat'(first|with_reducible apply Exists.intro|with_reducible apply And.intro|exact rfl|exact S.out.unb|exact Q2f|((apply Q8u)<;>assumption)|exact qZt|assumption|exact Y7l (by assumption) ch|exact V0)):A:=h hm ⟨S⟩
theorem sS{A B H1 H2:Prop}(l:List (Nat×Value))(a:H1)(b:H2)(k:B)(h:Kl l->H1->H2->Kp B->A:=by
 intro l a b k
 refine pu ?_
 refine s2k l rfl gwS rfl (by kernel_rfl) ?_
 exact calS a rfl b rfl k.out):A:=h ⟨qZt⟩ a b ⟨k⟩
theorem sN{A B H1 H2:Prop}(l:List (Nat×Value))(a:H1)(b:H2)(k:B)(h:Kl l->H1->H2->Kp B->A:=by
 intro l a b k
 refine pu ?_
 refine s2k l rfl gwS rfl (by kernel_rfl) ?_
 exact calN a rfl b rfl k.out):A:=h ⟨qZt⟩ a b ⟨k⟩
theorem osT{A B:Prop}(q:Nat){g:World}{T:Nat->Prop}{w:World}{G:List Y9}(hS:Sep g T w G)(k:B)(h:Kq q->Sep g T w G->Kp B->A:=by
 intro q hS k
 exact ost q hS tyS k.out):A:=h ⟨qZt⟩ hS ⟨k⟩
theorem osB{A B:Prop}(q j:Nat){b o:Nat}{H:List Value->Y9}(hL:Ln b o H){g:World}{T:Nat->Prop}{w:World}{G:List Y9}(hS:Sep g T w G)(k:B)(h:Kq q->Kq j->Ln b o H->Sep g T w G->Kp B->A:=by
 intro q j hL hS k
 exact osb q j hL hS tyS k.out):A:=h ⟨qZt⟩ ⟨qZt⟩ hL hS ⟨k⟩
theorem oaL{A B:Prop}(zs:List Value){g:World}{T:Nat->Prop}{w:World}{G:List Y9}(hS:Sep g T w G)(k:B)(h:Kv zs->Sep g T w G->Kp B->A:=by
 intro zs hS k
 exact oal zs hS tyZ k.out):A:=h ⟨qZt⟩ hS ⟨k⟩
theorem obX{A B:Prop}(cs:List Value){g:World}{T:Nat->Prop}{w:World}{G:List Y9}(hS:Sep g T w G)(k:B)(h:Kv cs->Sep g T w G->Kp B->A:=by
 intro cs hS k
 exact obx cs hS k.out):A:=h ⟨qZt⟩ hS ⟨k⟩
theorem obS{A B:Prop}{g:World}{T:Nat->Prop}{w:World}{G:List Y9}{α:Type}{r:Rp α}{l:List α}{css:List (List Value)}(hS:Sep g T w G)(a:Y2p r T w css l)(k:B)(h:Sep g T w G->Y2p r T w css l->Kp B->A:=by
 intro hS a k
 exact obs hS a tyU tyS tyZ k.out):A:=h hS a ⟨k⟩
theorem oS{A B H1 H2:Prop}(a:H1)(b:H2)(k:B)(h:H1->H2->Kp B->A:=by
 intro a b k
 exact calS a rfl b rfl k.out):A:=h a b ⟨k⟩
theorem oN{A B H1 H2:Prop}(a:H1)(b:H2)(k:B)(h:H1->H2->Kp B->A:=by
 intro a b k
 exact calN a rfl b rfl k.out):A:=h a b ⟨k⟩
theorem oP{A B H1 H2:Prop}(a:H1)(b:H2)(k:B)(h:H1->H2->Kp B->A:=by
 intro a b k
 exact Z2d a rfl b rfl k.out):A:=h a b ⟨k⟩
theorem sT{A B:Prop}(q:Nat){g:World}{T:Nat->Prop}{w:World}{G:List Y9}(hS:Sep g T w G)(k:B)(h:Kq q->Sep g T w G->Kp B->A:=by
 intro q hS k
 refine pu ?_
 exact wst q hS tyS k.out):A:=h ⟨qZt⟩ hS ⟨k⟩
theorem sB{A B:Prop}(q j:Nat){b o:Nat}{H:List Value->Y9}(hL:Ln b o H){g:World}{T:Nat->Prop}{w:World}{G:List Y9}(hS:Sep g T w G)(k:B)(h:Kq q->Kq j->Ln b o H->Sep g T w G->Kp B->A:=by
 intro q j hL hS k
 refine pu ?_
 exact wsb q j hL hS tyS k.out):A:=h ⟨qZt⟩ ⟨qZt⟩ hL hS ⟨k⟩
theorem aL{A B:Prop}(zs:List Value){g:World}{T:Nat->Prop}{w:World}{G:List Y9}(hS:Sep g T w G)(k:B)(h:Kv zs->Sep g T w G->Kp B->A:=by
 intro zs hS k
 refine pu ?_
 exact wal zs hS tyZ k.out):A:=h ⟨qZt⟩ hS ⟨k⟩
theorem bX{A B:Prop}(cs:List Value){g:World}{T:Nat->Prop}{w:World}{G:List Y9}(hS:Sep g T w G)(k:B)(h:Kv cs->Sep g T w G->Kp B->A:=by
 intro cs hS k
 refine pu ?_
 exact wbx cs hS k.out):A:=h ⟨qZt⟩ hS ⟨k⟩
theorem bS{A B:Prop}{g:World}{T:Nat->Prop}{w:World}{G:List Y9}{α:Type}{r:Rp α}{l:List α}{css:List (List Value)}(hS:Sep g T w G)(a:Y2p r T w css l)(k:B)(h:Sep g T w G->Y2p r T w css l->Kp B->A:=by
 intro hS a k
 refine pu ?_
 exact wbs hS a tyU tyS tyZ k.out):A:=h hS a ⟨k⟩
theorem tyE{e z:Nat}(h:R4 Tryz.prog e z:=by first|exact el114|exact el33|exact el132|exact el208|exact el212|exact el274|exact el168|exact el136|exact el123|exact el178|exact el197|exact el5|exact el94|exact el3|exact el99|exact el186|exact el103|exact el155|exact el80|exact el236|exact el4|exact el145|exact el59|exact el61):R4 Tryz.prog e z:=h
theorem oaO{A B:Prop}(q:Nat){g:World}{T:Nat->Prop}{w:World}{G:List Y9}{m:Nat}(hS:Sep g T w G)(a:m<=8589934592)(k:B)(h:Kq q->Sep g T w G->m<=8589934592->Kp B->A:=by
 intro q hS a k
 exact oao q hS Y3f tyU tyE a k.out):A:=h ⟨qZt⟩ hS a ⟨k⟩
theorem aO{A B:Prop}(q:Nat){g:World}{T:Nat->Prop}{w:World}{G:List Y9}{m:Nat}(hS:Sep g T w G)(a:m<=8589934592)(k:B)(h:Kq q->Sep g T w G->m<=8589934592->Kp B->A:=by
 intro q hS a k
 refine pu ?_
 exact wao q hS Y3f tyU tyE a k.out):A:=h ⟨qZt⟩ hS a ⟨k⟩
theorem cS{A B H1 H2:Prop}(a:H1)(b:H2)(k:B)(h:H1->H2->Kp B->A:=by
 intro a b k
 refine pu ?_
 exact wcS a b k.out):A:=h a b ⟨k⟩
theorem cN{A B H1 H2:Prop}(a:H1)(b:H2)(k:B)(h:H1->H2->Kp B->A:=by
 intro a b k
 refine pu ?_
 exact wcN a b k.out):A:=h a b ⟨k⟩
theorem cB{A B H1 H2 H3:Prop}(a:H1)(hm:H2)(c:H3)(k:B)(h:H1->H2->H3->Kp B->A:=by
 intro a hm c k
 refine pu ?_
 exact wcB a hm c k.out):A:=h a hm c ⟨k⟩
theorem cBN{A B H1 H2 H3:Prop}(a:H1)(hm:H2)(c:H3)(k:B)(h:H1->H2->H3->Kp B->A:=by
 intro a hm c k
 refine pu ?_
 exact wcBN a hm c k.out):A:=h a hm c ⟨k⟩
theorem cP{A B B2 H1 H2 H3:Prop}(a:H1)(hm:H2)(c:H3)(k:B)(k2:B2)(h:H1->H2->H3->Kp B->Kp B2->A:=by
 intro a hm c k k2
 refine pu ?_
 exact wcP a hm c k.out k2.out):A:=h a hm c ⟨k⟩ ⟨k2⟩
theorem cPN{A B B2 H1 H2 H3:Prop}(a:H1)(hm:H2)(c:H3)(k:B)(k2:B2)(h:H1->H2->H3->Kp B->Kp B2->A:=by
 intro a hm c k k2
 refine pu ?_
 exact wcPN a hm c k.out k2.out):A:=h a hm c ⟨k⟩ ⟨k2⟩
theorem pe{A:Prop}{α:Type}{x z:α}{g:World}{T:Nat->Prop}{w:World}{G:List Y9}(hm:some x=some z)(S:Sep g T w G)(h:some x=some z->Kp (Sep g T w G)->A:=by
 intro hm S
 cases oI hm
 refine pn ?_
 repeat(first|with_reducible refine X0f ?_|with_reducible refine p_blk ?_)
 first|refine panED ?_|refine panE ?_|refine endO rfl ?_|refine endR rfl ?_
 refine psm S.out ch ?_
 repeat'(first|with_reducible apply Exists.intro|with_reducible apply And.intro|exact rfl|exact S.out.unb|exact Q2f|((apply Q8u)<;>assumption)|exact qZt|assumption|exact Y7l (by assumption) ch|exact V0)):A:=h hm ⟨S⟩
theorem eo{A:Prop}{α:Type}{x z:α}{g:World}{T:Nat->Prop}{w:World}{G:List Y9}(hm:some x=some z)(S:Sep g T w G)(h:some x=some z->Kp (Sep g T w G)->A:=by
 intro hm S
 cases oI hm
 refine pn ?_
 repeat(first|with_reducible refine X0f ?_|with_reducible refine p_blk ?_)
 first|refine endO rfl ?_|refine endR rfl ?_
 refine eoR (resN rfl rvsS rfl) ?_
 refine rsm S.out ch ?_
 repeat'(first|with_reducible apply Exists.intro|with_reducible apply And.intro|exact rfl|exact S.out.unb|exact Q2f|((apply Q8u)<;>assumption)|exact qZt|assumption|exact Y7l (by assumption) ch|exact V0)):A:=h hm ⟨S⟩
theorem rqS{l:List Oper}{Q:Exit->Act->World->Prop}{T:Nat->Prop}{w:World}{G:List Y9}{a:Act}{id:Nat}(hS:Sep g T w G)(h:wpQuiet Tryz.prog l.toArray (QC T w) (fun a1=>∀w1 T1,Im T w T1 w1->Sep g T1 w1 G->Q .normal a1 w1) l a)(hB:Region.lexB .any l.toArray=true:=by kernel_rfl):(Code.region id l.toArray true).wp Tryz.prog Q a w:=
 rq mix hB hS.lt (quiet_mono (fun a1 h w1 T1 i=>h w1 T1 i.imm (hS.keep i fun _ h=>h)) h)
theorem rsS{l:List Oper}{Q:Exit->Act->World->Prop}{g:World}{T:Nat->Prop}{w:World}{G:List Y9}{n:NF}{J:Nat->Value}{L:List (Nat×Value)}{id:Nat}(fl ord:List Nat)(hS:Sep g T w G)(k:∀w1,Im T w T w1->Sep g T w1 G->M1 Tryz.prog l fl (NoPanic Q) [] ord (env n J L) w1)(hB:serB l fl ord=true:=by kernel_rfl):(Code.region id l.toArray true).wp Tryz.prog Q (env n J L) w:=
 rs fl ord mix hB hS.lt fun w1 i=>k w1 i.imm (hS.keep i fun _ h=>h)
theorem Z2w{l:List Oper}{Q:Exit->Act->World->Prop}{g:World}{T:Nat->Prop}{w:World}{G:List Y9}{n:NF}{J:Nat->Value}{L:List (Nat×Value)}{id:Nat}(fl ord:List Nat)(hS:Sep g T w G)(hQ:PQ l Q)(k:∀w1,Im T w T w1->Sep g T w1 G->M1 Tryz.prog l fl Q [] ord (env n J L) w1)(hB:serB l fl ord=true:=by kernel_rfl):(Code.region id l.toArray true).wp Tryz.prog Q (env n J L) w:=
 rsP fl ord mix hB hS.lt hQ fun w1 i=>k w1 i.imm (hS.keep i fun _ h=>h)
theorem rtS{l:List Oper}{Q:Exit->Act->World->Prop}{g:World}{T:Nat->Prop}{w:World}{G:List Y9}{n:NF}{J:Nat->Value}{L:List (Nat×Value)}{id:Nat}(fl ord:List Nat)(hS:Sep g T w G)(k:∀w1,Im T w T w1->Sep g T w1 G->W7 Tryz.prog l fl (NoPanic Q) ord.length [] ord (env n J L) w1)(hB:trB l fl ord=true:=by kernel_rfl):(Code.region id l.toArray true).wp Tryz.prog Q (env n J L) w:=
 rt fl ord mix hB hS.lt fun w1 i=>k w1 i.imm (hS.keep i fun _ h=>h)
theorem rtPS{l:List Oper}{Q:Exit->Act->World->Prop}{g:World}{T:Nat->Prop}{w:World}{G:List Y9}{n:NF}{J:Nat->Value}{L:List (Nat×Value)}{id:Nat}(fl ord:List Nat)(hS:Sep g T w G)(hQ:PQ l Q)(k:∀w1,Im T w T w1->Sep g T w1 G->W7 Tryz.prog l fl Q ord.length [] ord (env n J L) w1)(hB:trB l fl ord=true:=by kernel_rfl):(Code.region id l.toArray true).wp Tryz.prog Q (env n J L) w:=
 rtP fl ord mix hB hS.lt hQ fun w1 i=>k w1 i.imm (hS.keep i fun _ h=>h)
abbrev Z5c(x:P6):List Value:=[qZs x.s,.int .i64 x.pos.Line,.int .i64 x.pos.Col]
abbrev X0v(x:U4):List Value:=[.int .i64 x.Kind,qZs x.Text,.int .u32 x.Num,.int .i64 x.Pos.Line,.int .i64 x.Pos.Col]
abbrev N7(pos:Pos)(e:Int):List Value:=[.int .i64 pos.Line,.int .i64 pos.Col,.int .i64 e]
abbrev Z5u(x:M6):List Value:=[qZs x.Word,qZs x.Name,.int .i64 x.Stars]
abbrev E4(x:Y8)(a9:Option Addr)(c9:Nat):List Value:=[.int .i64 x.Kind,.int .i64 x.Pos.Line,.int .i64 x.Pos.Col,qZs x.Op,qZs x.Name,.int .u32 x.Num,qZs x.Type_.Word,qZs x.Type_.Name,.int .i64 x.Type_.Stars,.slice a9 (qQ x.Kids) c9]
abbrev Y1z(x:M7)(a6:Option Addr)(c6:Nat)(a7:Option Addr)(c7:Nat):List Value:=[.int .i64 x.Pos.Line,.int .i64 x.Pos.Col,qZs x.Type_.Word,qZs x.Type_.Name,.int .i64 x.Type_.Stars,qZs x.Name,.slice a6 (qQ x.Dims) c6,.slice a7 (qQ x.Init) c7,.bool x.Brace]
abbrev Z3x(x:E5)(a3:Option Addr)(c3:Nat)(a4:Option Addr)(c4:Nat)(a5:Option Addr)(c5:Nat)(a6:Option Addr)(c6:Nat)(a7:Option Addr)(c7:Nat)(a8:Option Addr)(c8:Nat)(a9:Option Addr)(c9:Nat):List Value:=[.int .i64 x.Kind,.int .i64 x.Pos.Line,.int .i64 x.Pos.Col,.slice a3 (qQ x.A) c3,.slice a4 (qQ x.B) c4,.slice a5 (qQ x.C) c5,.slice a6 (qQ x.Var) c6,.slice a7 (qQ x.Body) c7,.slice a8 (qQ x.Else) c8,.slice a9 (qQ x.Cases) c9]
abbrev X0w(x:Q1e)(a4:Option Addr)(c4:Nat):List Value:=[.int .i64 x.Pos.Line,.int .i64 x.Pos.Col,.bool x.Default,.int .u32 x.Num,.slice a4 (qQ x.Body) c4]
abbrev X2u(x:Q3k)(a3:Option Addr)(c3:Nat):List Value:=[.int .i64 x.Pos.Line,.int .i64 x.Pos.Col,qZs x.Name,.slice a3 (qQ x.Fields) c3]
abbrev Y3n(x:Q1d)(a6:Option Addr)(c6:Nat)(a7:Option Addr)(c7:Nat):List Value:=[.int .i64 x.Pos.Line,.int .i64 x.Pos.Col,qZs x.Ret.Word,qZs x.Ret.Name,.int .i64 x.Ret.Stars,qZs x.Name,.slice a6 (qQ x.Params) c6,.slice a7 (qQ x.Body) c7]
abbrev Q3o(x:K4)(a4:Option Addr)(c4:Nat):List Value:=[.int .i64 x.Type_.Kind,.int .i64 x.Type_.Elem,.int .i64 x.Type_.Len,qZs x.Type_.Name,.slice a4 (qQ x.Type_.Fields) c4,.int .i64 x.size,.int .i64 x.align,.bool x.open_]
abbrev Z2j(x:K9):List Value:=[qZs x.Name,.int .i64 x.Type_,.int .i64 x.At]
abbrev X4a(x:Z3z):List Value:=[qZs x.Name,.int .i64 x.Size,.int .i64 x.Align,.int .i64 x.Cell]
abbrev Y7y(x:Q8v)(a4:Option Addr)(c4:Nat):List Value:=[.int .i64 x.Kind,.int .i64 x.Elem,.int .i64 x.Len,qZs x.Name,.slice a4 (qQ x.Fields) c4]
abbrev Q0c(x:Y2)(a9:Option Addr)(c9:Nat):List Value:=[.int .i64 x.n,.int .i64 x.term.Kind,.int .i64 x.term.Fn,.int .u32 x.term.Num,.int .i64 x.term.Var,.bool x.term.Global,.int .i64 x.term.Size,.bool x.term.Post,.bool x.term.Ptr,.slice a9 (qQ x.term.Kids) c9,.bool x.lies]
abbrev U2(x:Y6)(a8:Option Addr)(c8:Nat):List Value:=[.int .i64 x.Kind,.int .i64 x.Fn,.int .u32 x.Num,.int .i64 x.Var,.bool x.Global,.int .i64 x.Size,.bool x.Post,.bool x.Ptr,.slice a8 (qQ x.Kids) c8]
abbrev Z3y(x:K1)(a1:Option Addr)(c1:Nat)(a2:Option Addr)(c2:Nat)(a4:Option Addr)(c4:Nat)(a5:Option Addr)(c5:Nat)(a6:Option Addr)(c6:Nat):List Value:=[.int .i64 x.Kind,.slice a1 (qQ x.A) c1,.slice a2 (qQ x.Post) c2,.bool x.First,.slice a4 (qQ x.Body) c4,.slice a5 (qQ x.Else) c5,.slice a6 (qQ x.Cases) c6,.int .i64 x.Var]
abbrev W0(x:X9):List Value:=[.int .i64 x.Obj,.int .i64 x.Lo,.int .i64 x.Hi,.int .i64 x.Off]
abbrev O2(x:Y1):List Value:=[.int .u32 x.Num,.int .i64 x.Ptr.Obj,.int .i64 x.Ptr.Lo,.int .i64 x.Ptr.Hi,.int .i64 x.Ptr.Off,.bool x.Is]
abbrev Y7z(x:Q4n)(a3:Option Addr)(c3:Nat)(a4:Option Addr)(c4:Nat):List Value:=[qZs x.Name,.bool x.Void,.int .i64 x.Params,.slice a3 (qQ x.Slots) c3,.slice a4 (qQ x.Body) c4]
abbrev cChoice(x:Z4l)(a2:Option Addr)(c2:Nat):List Value:=[.bool x.Default,.int .u32 x.Num,.slice a2 (qQ x.Body) c2]
abbrev Y9d(x:Z3l)(a1:Option Addr)(c1:Nat):List Value:=[qZs x.S,.slice a1 (qQ x.Inputs) c1,.int .i64 x.N,.int .i64 x.More]
abbrev iv(x:Int):Value:= .int .i64 x
abbrev sv{α:Type}(a:Option Addr)(l:List α)(c:Nat):Value:= .slice a (qQ l) c
abbrev pt(b o:Nat):Value:= .pointer (some ⟨b,o,none⟩)
abbrev OA:=Option Addr
abbrev JV:=Nat->Value
abbrev TP:=Nat->Prop
abbrev zv1:List Value:=[iv 0,iv 0,iv 0,.int .u32 0,iv 0,.bool false,iv 0,.bool false,.bool false,.slice none 0 0,.bool false]
abbrev zv2:List Value:=[iv 0,iv 0,iv 0,qZs [],qZs [],.int .u32 0,qZs [],qZs [],iv 0,.slice none 0 0]
abbrev zv3:List Value:=[iv 0,iv 0,.int .u32 0,iv 0,.bool false,iv 0,.bool false,.bool false,.slice none 0 0]
abbrev zv4:List Value:=[iv 0,iv 0,qZs [],qZs [],iv 0,qZs [],.slice none 0 0,.slice none 0 0,.bool false]
abbrev zv5:List Value:=[.slice none 0 0,iv 0,.int .u32 0,iv 0]
abbrev zv6:List Value:=[.int .u32 0,iv 0,iv 0,iv 0,iv 0,.bool false]
abbrev zv7:List Value:=[iv 0,.slice none 0 0,.slice none 0 0,.bool false,.slice none 0 0,.slice none 0 0,.slice none 0 0,iv 0]
abbrev zv8:List Value:=[iv 0,iv 0,qZs [],qZs [],iv 0,qZs [],.slice none 0 0,.slice none 0 0]
abbrev zv9:List Value:=[iv 0,iv 0,iv 0,qZs [],.slice none 0 0]
abbrev Y6q:List Value:=[iv 0,qZs [],.int .u32 0,iv 0,iv 0]
abbrev zv11:List Value:=[iv 0,iv 0,iv 0,.slice none 0 0,.slice none 0 0,.slice none 0 0,.slice none 0 0,.slice none 0 0,.slice none 0 0,.slice none 0 0]
abbrev zv12:List Value:=[qZs [],qZs [],iv 0]
abbrev zv13:List Value:=[.slice none 0 0,.slice none 0 0,.slice none 0 0,iv 0]
abbrev zv14:List Value:=[iv 0,iv 0,qZs [],.slice none 0 0]
abbrev zv15:List Value:=[qZs [],iv 0,iv 0]
abbrev zv16:List Value:=[qZs [],.bool false,iv 0,.slice none 0 0,.slice none 0 0]
abbrev zv17:List Value:=[.slice none 0 0,.slice none 0 0,.slice none 0 0]
abbrev zv18:List Value:=[iv 0,iv 0,iv 0,qZs [],.slice none 0 0,iv 0,iv 0,.bool false]
abbrev zv19:List Value:=[qZs [],iv 0,iv 0,iv 0]
abbrev zv20:List Value:=[iv 0,iv 0,.bool false,.int .u32 0,.slice none 0 0]

theorem lnS{b o:Nat}{H:List Value->Y9}(h:Ln b o H:=by first|assumption|exact Q3w _):Ln b o H:=h
theorem slS{α:Type}{r:Rp α}{T:Nat->Prop}{w:World}{v:Value}{l:List α}(h:SlR r T w v l:=by first|assumption|exact V0|exact Y7l (by assumption) ch):SlR r T w v l:=h
theorem giS{T:Nat->Prop}{w:World}{k:Nat}(h:Gi T w k:=by first|assumption|exact Gi.mono (by assumption) ch):Gi T w k:=h
theorem eqS{α:Type}{m:Option α}{r:α}(h:m=some r:=by assumption):m=some r:=h
theorem hcE{H:List Value->Y9}{a b:List Value}(h:a=b):H a=H b:=by rw[h]
theorem owE{α:Type}{r:Rp α}{e:TypeId}{v:Value}{a b:List α}(h:a=b):J6 r e v a=J6 r e v b:=by rw[h]
theorem rmS{G G2:List Y9}{A:Y9}(h:Rmv G A G2:=by repeat(first|((apply rmH);(exact rfl);(first|(with_reducible exact rfl)|((with_reducible apply hcE);(exact rfl))|((with_reducible apply owE);(exact rfl))))|((apply rmT);(exact rfl)))):Rmv G A G2:=h
theorem pkZ{G N rest:List Y9}(h:Pks G N rest:=by repeat(first|exact pk0|((apply pkC);(exact rmS)))):Pks G N rest:=h
theorem ctS{C X:Prop}{g:World}{T:Nat->Prop}{w:World}{G:List Y9}(c:C)(hS:Sep g T w G)(h:C->Sep g T w G->X:=by
 intro c hS
 apply c
 try any_goals(with_reducible exact eqS)
 try any_goals((fail_if_success(show Ln 123456789 _ _));(with_reducible exact lnS))
 try any_goals((apply Sep.pkC);(exact hS))
 repeat((any_goals((apply pkC);(exact rmS)));(try any_goals((fail_if_success(show Ln 123456789 _ _));(with_reducible exact lnS))))
 try any_goals(exact pk0)
 try any_goals(exact slS)
 try any_goals(exact giS)
 all_goals assumption):X:=h c hS
theorem reZ{A:Prop}{α:Type}{x z:α}{g:World}{T:Nat->Prop}{w:World}{G:List Y9}(hm:some x=some z)(hS:Sep g T w G)(h:some x=some z->Sep g T w G->A:=by
 intro hm hS
 cases oI hm
 first|refine ret1 rfl rfl ?_|refine ret0 rfl ?_|refine ret2 rfl rfl rfl ?_|refine end0 rfl ?_|(apply retN;(exact rfl);(exact rvsS);(exact rfl))
 first|(refine rsm hS ch ?_;(repeat'(first|with_reducible apply Exists.intro|with_reducible apply And.intro|exact rfl|exact Sep.pkR hS pkZ|exact qZt|assumption|exact slS|exact Q2f|((apply Q8u)<;>assumption)));done)|(obtain⟨_,_,hS,_,rfl⟩:=hS.sl 0;refine rsm hS ch ?_;(repeat'(first|with_reducible apply Exists.intro|with_reducible apply And.intro|exact rfl|exact Sep.pkR hS pkZ|exact qZt|assumption|exact slS|exact Q2f|((apply Q8u)<;>assumption)));done)|(obtain⟨_,_,hS,_,rfl⟩:=hS.sl 1;refine rsm hS ch ?_;(repeat'(first|with_reducible apply Exists.intro|with_reducible apply And.intro|exact rfl|exact Sep.pkR hS pkZ|exact qZt|assumption|exact slS|exact Q2f|((apply Q8u)<;>assumption)));done)|(obtain⟨_,_,hS,_,rfl⟩:=hS.sl 2;refine rsm hS ch ?_;(repeat'(first|with_reducible apply Exists.intro|with_reducible apply And.intro|exact rfl|exact Sep.pkR hS pkZ|exact qZt|assumption|exact slS|exact Q2f|((apply Q8u)<;>assumption)));done)|(obtain⟨_,_,hS,_,rfl⟩:=hS.sl 3;refine rsm hS ch ?_;(repeat'(first|with_reducible apply Exists.intro|with_reducible apply And.intro|exact rfl|exact Sep.pkR hS pkZ|exact qZt|assumption|exact slS|exact Q2f|((apply Q8u)<;>assumption)));done)|(obtain⟨_,_,hS,_,rfl⟩:=hS.sl 4;refine rsm hS ch ?_;(repeat'(first|with_reducible apply Exists.intro|with_reducible apply And.intro|exact rfl|exact Sep.pkR hS pkZ|exact qZt|assumption|exact slS|exact Q2f|((apply Q8u)<;>assumption)));done)|(obtain⟨_,_,hS,_,rfl⟩:=hS.sl 5;refine rsm hS ch ?_;(repeat'(first|with_reducible apply Exists.intro|with_reducible apply And.intro|exact rfl|exact Sep.pkR hS pkZ|exact qZt|assumption|exact slS|exact Q2f|((apply Q8u)<;>assumption)));done)):A:=h hm hS
theorem peZ{A:Prop}{α:Type}{x z:α}{g:World}{T:Nat->Prop}{w:World}{G:List Y9}(hm:some x=some z)(hS:Sep g T w G)(h:some x=some z->Sep g T w G->A:=by
 intro hm hS
 cases oI hm
 repeat(first|with_reducible refine X0f ?_|with_reducible refine p_blk ?_)
 first|refine panED ?_|refine panE ?_|refine endO rfl ?_|refine endR rfl ?_
 first|(refine psm hS ch ?_;(repeat'(first|with_reducible apply Exists.intro|with_reducible apply And.intro|exact rfl|exact Sep.pkR hS pkZ|exact qZt|assumption|exact slS|exact Q2f|((apply Q8u)<;>assumption)));done)|(obtain⟨_,_,hS,_,rfl⟩:=hS.sl 0;refine psm hS ch ?_;(repeat'(first|with_reducible apply Exists.intro|with_reducible apply And.intro|exact rfl|exact Sep.pkR hS pkZ|exact qZt|assumption|exact slS|exact Q2f|((apply Q8u)<;>assumption)));done)|(obtain⟨_,_,hS,_,rfl⟩:=hS.sl 1;refine psm hS ch ?_;(repeat'(first|with_reducible apply Exists.intro|with_reducible apply And.intro|exact rfl|exact Sep.pkR hS pkZ|exact qZt|assumption|exact slS|exact Q2f|((apply Q8u)<;>assumption)));done)|(obtain⟨_,_,hS,_,rfl⟩:=hS.sl 2;refine psm hS ch ?_;(repeat'(first|with_reducible apply Exists.intro|with_reducible apply And.intro|exact rfl|exact Sep.pkR hS pkZ|exact qZt|assumption|exact slS|exact Q2f|((apply Q8u)<;>assumption)));done)|(obtain⟨_,_,hS,_,rfl⟩:=hS.sl 3;refine psm hS ch ?_;(repeat'(first|with_reducible apply Exists.intro|with_reducible apply And.intro|exact rfl|exact Sep.pkR hS pkZ|exact qZt|assumption|exact slS|exact Q2f|((apply Q8u)<;>assumption)));done)|(obtain⟨_,_,hS,_,rfl⟩:=hS.sl 4;refine psm hS ch ?_;(repeat'(first|with_reducible apply Exists.intro|with_reducible apply And.intro|exact rfl|exact Sep.pkR hS pkZ|exact qZt|assumption|exact slS|exact Q2f|((apply Q8u)<;>assumption)));done)|(obtain⟨_,_,hS,_,rfl⟩:=hS.sl 5;refine psm hS ch ?_;(repeat'(first|with_reducible apply Exists.intro|with_reducible apply And.intro|exact rfl|exact Sep.pkR hS pkZ|exact qZt|assumption|exact slS|exact Q2f|((apply Q8u)<;>assumption)));done)):A:=h hm hS
theorem opx{P:Program}{n:NF}{J:Nat->Value}{L:List (Nat×Value)}{w:World}{o:Oper}{v:Value}(h:(execOp (ev n J L) o).run P w= .ok (.value v) w:=by
 first|((with_reducible apply r_ss);(exact rfl);(first|exact rfl|exact⟨_,rfl⟩);(first|exact rfl|exact⟨_,rfl⟩);(assumption);(exact tyU))|((with_reducible apply Z8l);(exact rfl);(exact rfl);(assumption);(exact tyU))|((with_reducible apply r_slR);(exact rfl);(exact slS);(first|exact rfl|exact⟨_,rfl⟩);(first|exact rfl|exact⟨_,rfl⟩);(assumption);(exact tyU);(exact tyS);(exact rfl);(assumption))|((with_reducible apply r_fd1);(exact rfl);(exact tyU);(exact rfl);(exact tyA);(exact rfl))|((with_reducible apply zbd);(exact tyZ);(exact tyU);(exact lsS);(kernel_rfl))|((with_reducible apply r_zf);(exact rfl))|((with_reducible apply Y4d);(exact(rfl:_=Value.func _ _ _)))|((with_reducible apply r_iq);(exact rfl);(exact rfl);(assumption))|((with_reducible apply r_irm);(exact rfl);(exact rfl);(assumption))|((with_reducible apply r_bn);(exact rfl);(exact rfl);(exact tyU))|((with_reducible apply r_bq);(exact rfl);(exact rfl);(exact tyU))|((with_reducible apply r_mif);(exact rfl);(exact tyU))|((with_reducible apply Y5t);(exact rfl);(exact rfl);(exact rfl);(exact tyU))|((with_reducible apply Y6y);(exact rfl);(exact rfl);(exact rfl);(exact tyU))|((with_reducible apply r_sne);(exact rfl);(exact rfl);(exact rfl);(exact tyU))|((with_reducible apply r_ldZ);(exact rfl);(exact tyA);(exact tyS);(first|assumption|exact cellsAt.sameT (by assumption) (by assumption) ch);(exact lsS);(exact rfl))|((with_reducible apply r_ldQ);(assumption);(exact rfl);(exact tyA);(exact tyS);(assumption);(exact atS);(exact lsS);(exact rfl))):(execOp (ev n J L) o).run P w= .ok (.value v) w:=h
theorem mkS{α:Type}{r:Rp α}{T:Nat->Prop}{w:World}{cs:List Value}{x:α}(h:r.rp T w cs x:=by first|assumption|exact rfl|((apply Z2f)<;>(exact slS))|((apply Z5h)<;>(exact slS))|((apply Q3a)<;>(exact slS))|((apply Y1a)<;>(exact slS))|((apply Y5y)<;>(exact slS))|((apply Y7e)<;>(exact slS))|((apply Y2b)<;>(exact slS))|((apply Y5h)<;>(exact slS))|((apply X0b)<;>(exact slS))|((apply Y7f)<;>(exact slS))|((apply Y7h)<;>(exact slS))|((apply Y7c)<;>(exact slS))|((apply Y6h)<;>(exact slS))|((apply Y5g)<;>(exact slS))|((apply U1)<;>(exact slS))|((apply Q2d)<;>(exact slS))|((apply Y3i)<;>(exact slS))|((apply Z7n)<;>(exact slS))|((apply X5g)<;>(exact slS))|((apply Y3h)<;>(exact slS))|((apply Y8v)<;>(exact slS))|((apply Q1v)<;>(exact slS))|((apply Y8g)<;>(exact slS))|((apply Z6y)<;>(exact slS))|((apply Y7i)<;>(exact slS))|((apply Y5i)<;>(exact slS))|((apply X1v)<;>(exact slS))|((apply Y7d)<;>(exact slS))|((apply Z8o)<;>(exact slS))|((apply Z3f)<;>(exact slS))|((apply Y9w)<;>(exact slS))):r.rp T w cs x:=h
theorem jeZ{A F:Prop}{g:World}{T:Nat->Prop}{w:World}{G:List Y9}(hm:F)(hS:Sep g T w G)(h:F->Sep g T w G->A:=by
 intro hm hS
 first|((repeat'(first|with_reducible apply Exists.intro|with_reducible apply And.intro|exact hm|exact rfl|exact Y2o|exact Sep.pkE hS pkZ|exact ch|exact qZt|assumption|exact slS));done)|(obtain⟨_,_,hS,_,rfl⟩:=hS.sl 0;(repeat'(first|with_reducible apply Exists.intro|with_reducible apply And.intro|exact hm|exact rfl|exact Y2o|exact Sep.pkE hS pkZ|exact ch|exact qZt|assumption|exact slS));done)|(obtain⟨_,_,hS,_,rfl⟩:=hS.sl 1;(repeat'(first|with_reducible apply Exists.intro|with_reducible apply And.intro|exact hm|exact rfl|exact Y2o|exact Sep.pkE hS pkZ|exact ch|exact qZt|assumption|exact slS));done)|(obtain⟨_,_,hS,_,rfl⟩:=hS.sl 2;(repeat'(first|with_reducible apply Exists.intro|with_reducible apply And.intro|exact hm|exact rfl|exact Y2o|exact Sep.pkE hS pkZ|exact ch|exact qZt|assumption|exact slS));done)|(obtain⟨_,_,hS,_,rfl⟩:=hS.sl 3;(repeat'(first|with_reducible apply Exists.intro|with_reducible apply And.intro|exact hm|exact rfl|exact Y2o|exact Sep.pkE hS pkZ|exact ch|exact qZt|assumption|exact slS));done)|(obtain⟨_,_,hS,_,rfl⟩:=hS.sl 4;(repeat'(first|with_reducible apply Exists.intro|with_reducible apply And.intro|exact hm|exact rfl|exact Y2o|exact Sep.pkE hS pkZ|exact ch|exact qZt|assumption|exact slS));done)|(obtain⟨_,_,hS,_,rfl⟩:=hS.sl 5;(repeat'(first|with_reducible apply Exists.intro|with_reducible apply And.intro|exact hm|exact rfl|exact Y2o|exact Sep.pkE hS pkZ|exact ch|exact qZt|assumption|exact slS));done)):A:=h hm hS
theorem lgZ{A:Prop}{α:Type}{x z:α}{g:World}{T:Nat->Prop}{w:World}{G:List Y9}(hm:some x=some z)(hS:Sep g T w G)(h:some x=some z->Sep g T w G->A:=by
 intro hm hS
 cases oI hm
 refine⟨_,Nat.lt_succ_self _,?_⟩
 first|((repeat'(first|with_reducible apply Exists.intro|with_reducible apply And.intro|exact hm|exact rfl|exact Y2o|exact Sep.pkE hS pkZ|exact ch|exact qZt|assumption|exact slS));done)|(obtain⟨_,_,hS,_,rfl⟩:=hS.sl 0;(repeat'(first|with_reducible apply Exists.intro|with_reducible apply And.intro|exact hm|exact rfl|exact Y2o|exact Sep.pkE hS pkZ|exact ch|exact qZt|assumption|exact slS));done)|(obtain⟨_,_,hS,_,rfl⟩:=hS.sl 1;(repeat'(first|with_reducible apply Exists.intro|with_reducible apply And.intro|exact hm|exact rfl|exact Y2o|exact Sep.pkE hS pkZ|exact ch|exact qZt|assumption|exact slS));done)|(obtain⟨_,_,hS,_,rfl⟩:=hS.sl 2;(repeat'(first|with_reducible apply Exists.intro|with_reducible apply And.intro|exact hm|exact rfl|exact Y2o|exact Sep.pkE hS pkZ|exact ch|exact qZt|assumption|exact slS));done)|(obtain⟨_,_,hS,_,rfl⟩:=hS.sl 3;(repeat'(first|with_reducible apply Exists.intro|with_reducible apply And.intro|exact hm|exact rfl|exact Y2o|exact Sep.pkE hS pkZ|exact ch|exact qZt|assumption|exact slS));done)|(obtain⟨_,_,hS,_,rfl⟩:=hS.sl 4;(repeat'(first|with_reducible apply Exists.intro|with_reducible apply And.intro|exact hm|exact rfl|exact Y2o|exact Sep.pkE hS pkZ|exact ch|exact qZt|assumption|exact slS));done)|(obtain⟨_,_,hS,_,rfl⟩:=hS.sl 5;(repeat'(first|with_reducible apply Exists.intro|with_reducible apply And.intro|exact hm|exact rfl|exact Y2o|exact Sep.pkE hS pkZ|exact ch|exact qZt|assumption|exact slS));done)):A:=h hm hS
theorem eoZ{A:Prop}{α:Type}{x z:α}{g:World}{T:Nat->Prop}{w:World}{G:List Y9}(hm:some x=some z)(hS:Sep g T w G)(h:some x=some z->Sep g T w G->A:=by
 intro hm hS
 cases oI hm
 repeat(first|with_reducible refine X0f ?_|with_reducible refine p_blk ?_)
 first|refine endO rfl ?_|refine endR rfl ?_
 refine eoR (resN rfl rvsS rfl) ?_
 first|(refine rsm hS ch ?_;(repeat'(first|with_reducible apply Exists.intro|with_reducible apply And.intro|exact rfl|exact Sep.pkR hS pkZ|exact qZt|assumption|exact slS|exact Q2f|((apply Q8u)<;>assumption)));done)|(obtain⟨_,_,hS,_,rfl⟩:=hS.sl 0;refine rsm hS ch ?_;(repeat'(first|with_reducible apply Exists.intro|with_reducible apply And.intro|exact rfl|exact Sep.pkR hS pkZ|exact qZt|assumption|exact slS|exact Q2f|((apply Q8u)<;>assumption)));done)|(obtain⟨_,_,hS,_,rfl⟩:=hS.sl 1;refine rsm hS ch ?_;(repeat'(first|with_reducible apply Exists.intro|with_reducible apply And.intro|exact rfl|exact Sep.pkR hS pkZ|exact qZt|assumption|exact slS|exact Q2f|((apply Q8u)<;>assumption)));done)|(obtain⟨_,_,hS,_,rfl⟩:=hS.sl 2;refine rsm hS ch ?_;(repeat'(first|with_reducible apply Exists.intro|with_reducible apply And.intro|exact rfl|exact Sep.pkR hS pkZ|exact qZt|assumption|exact slS|exact Q2f|((apply Q8u)<;>assumption)));done)|(obtain⟨_,_,hS,_,rfl⟩:=hS.sl 3;refine rsm hS ch ?_;(repeat'(first|with_reducible apply Exists.intro|with_reducible apply And.intro|exact rfl|exact Sep.pkR hS pkZ|exact qZt|assumption|exact slS|exact Q2f|((apply Q8u)<;>assumption)));done)|(obtain⟨_,_,hS,_,rfl⟩:=hS.sl 4;refine rsm hS ch ?_;(repeat'(first|with_reducible apply Exists.intro|with_reducible apply And.intro|exact rfl|exact Sep.pkR hS pkZ|exact qZt|assumption|exact slS|exact Q2f|((apply Q8u)<;>assumption)));done)|(obtain⟨_,_,hS,_,rfl⟩:=hS.sl 5;refine rsm hS ch ?_;(repeat'(first|with_reducible apply Exists.intro|with_reducible apply And.intro|exact rfl|exact Sep.pkR hS pkZ|exact qZt|assumption|exact slS|exact Q2f|((apply Q8u)<;>assumption)));done)):A:=h hm hS
theorem zr{A H:Prop}{g:World}{T:Nat->Prop}{w:World}{G:List Y9}(hm:H)(hS:Sep g T w G)(h:H->Sep g T w G->A:=by
 intro hm hS
 try simp only[Z6x,atA,C4,List.range',List.cons_append,List.nil_append,List.append_nil,List.append_assoc]at hS
 repeat'(first|(obtain⟨_,hx,hm⟩:=bindI hm;(try(first|(obtain⟨_,hr,_,_⟩:=ixS hS hx (by assumption);(first|(obtain rfl:=Q2x hr)|(obtain rfl:=Q8j hr)|(obtain⟨_,_,rfl,_⟩:=G9 hr)|(obtain⟨_,_,_,_,rfl,_,_⟩:=Z2k hr)|(obtain⟨_,_,rfl,_⟩:=Z4n hr)|(obtain⟨_,_,_,_,_,_,_,_,_,_,_,_,_,_,rfl,_,_,_,_,_,_,_⟩:=Y3g hr)|(obtain⟨_,_,rfl,_⟩:=Y1e hr)|(obtain⟨_,_,_,_,rfl,_,_⟩:=Z2s hr)|(obtain⟨_,_,_,_,_,_,rfl,_,_,_⟩:=Y1d hr)|(obtain rfl:=Z4g hr)|(obtain rfl:=Z8p hr)|(obtain⟨_,_,rfl,_⟩:=Z7l hr)|(obtain rfl:=Z3e hr)|(obtain rfl:=Y1c hr)|(obtain⟨_,_,rfl,_⟩:=L0 hr)|(obtain⟨_,_,_,_,_,_,_,_,_,_,rfl,_,_,_,_,_⟩:=Z5x hr)|(obtain⟨_,_,rfl,_⟩:=Z3i hr)|(obtain⟨_,_,_,_,rfl,_,_⟩:=Z0s hr)|(obtain⟨_,_,_,_,_,_,rfl,_,_,_⟩:=Y5x hr)|(obtain rfl:=Z5i hr)|(obtain⟨_,_,rfl,_⟩:=Y1b hr)|(obtain⟨_,_,rfl,_⟩:=A8 hr)|(obtain⟨_,_,rfl,_⟩:=Z9o hr)|(obtain⟨_,_,rfl,_⟩:=Q6h hr)|(obtain⟨_,_,rfl,_⟩:=Z7o hr)|(obtain rfl:=Z2l hr)|(obtain⟨_,_,rfl,_⟩:=Y2v hr)|(obtain⟨_,_,_,_,rfl,_,_⟩:=Z7m hr)|(obtain rfl:=Z3g hr)|(obtain rfl:=Z4f hr)|(obtain⟨_,_,rfl,_⟩:=Z5v hr)))|(obtain⟨_,hr,_⟩:=SlV.ixcS (Sep.own hS atS).v hx rfl;(first|(obtain rfl:=Q2x hr)|(obtain rfl:=Q8j hr)|(obtain⟨_,_,rfl,_⟩:=G9 hr)|(obtain⟨_,_,_,_,rfl,_,_⟩:=Z2k hr)|(obtain⟨_,_,rfl,_⟩:=Z4n hr)|(obtain⟨_,_,_,_,_,_,_,_,_,_,_,_,_,_,rfl,_,_,_,_,_,_,_⟩:=Y3g hr)|(obtain⟨_,_,rfl,_⟩:=Y1e hr)|(obtain⟨_,_,_,_,rfl,_,_⟩:=Z2s hr)|(obtain⟨_,_,_,_,_,_,rfl,_,_,_⟩:=Y1d hr)|(obtain rfl:=Z4g hr)|(obtain rfl:=Z8p hr)|(obtain⟨_,_,rfl,_⟩:=Z7l hr)|(obtain rfl:=Z3e hr)|(obtain rfl:=Y1c hr)|(obtain⟨_,_,rfl,_⟩:=L0 hr)|(obtain⟨_,_,_,_,_,_,_,_,_,_,rfl,_,_,_,_,_⟩:=Z5x hr)|(obtain⟨_,_,rfl,_⟩:=Z3i hr)|(obtain⟨_,_,_,_,rfl,_,_⟩:=Z0s hr)|(obtain⟨_,_,_,_,_,_,rfl,_,_,_⟩:=Y5x hr)|(obtain rfl:=Z5i hr)|(obtain⟨_,_,rfl,_⟩:=Y1b hr)|(obtain⟨_,_,rfl,_⟩:=A8 hr)|(obtain⟨_,_,rfl,_⟩:=Z9o hr)|(obtain⟨_,_,rfl,_⟩:=Q6h hr)|(obtain⟨_,_,rfl,_⟩:=Z7o hr)|(obtain rfl:=Z2l hr)|(obtain⟨_,_,rfl,_⟩:=Y2v hr)|(obtain⟨_,_,_,_,rfl,_,_⟩:=Z7m hr)|(obtain rfl:=Z3g hr)|(obtain rfl:=Z4f hr)|(obtain⟨_,_,rfl,_⟩:=Z5v hr))))))|(obtain⟨hro,hm⟩:=bindR hm)|(obtain⟨hnz,hm⟩:=bindN hm)|(obtain⟨_,hx,hm⟩:=bindU hm;(try(obtain⟨_,_,he,_⟩:=SlR.part (slS (by assumption)) hx)))|with_reducible refine rg ?_|((with_reducible apply pv);(exact opv))|((with_reducible apply gT);(exact rfl);(exact rfl);(first|assumption|exact rfl))|((with_reducible apply gF);(exact rfl);(exact rfl);(first|assumption|exact rfl))|((with_reducible apply gU);(exact rfl);(exact rfl))|((with_reducible apply s0a);(exact rfl);(exact rfl);(exact gwS);(intro _;exact opv))|((with_reducible apply sUa);(exact rfl);(exact gUS))|((with_reducible apply s1a);(exact rfl);(exact rfl);(exact gwS);(exact opv))|((with_reducible apply And.intro);(exact stS))|((with_reducible apply qv);(intro _ _;exact opq))|((with_reducible apply qgT);(exact rfl);(exact rfl);(first|assumption|exact rfl))|((with_reducible apply qgF);(exact rfl);(exact rfl);(first|assumption|exact rfl))|((with_reducible apply qgU);(exact rfl);(exact rfl))|((with_reducible apply t0a);(exact rfl);(exact rfl);(exact rfl);(exact gwS);(intro _;exact opv))|((with_reducible apply tUa);(exact rfl);(exact rfl);(exact gUS);(kernel_rfl))|((with_reducible apply t1a);(exact rfl);(exact rfl);(exact rfl);(exact gwS);(exact opv))|with_reducible refine nil ?_|with_reducible refine Y6u ?_|with_reducible refine t_blk ?_|with_reducible refine se ?_|with_reducible refine seP ?_|with_reducible refine te ?_|with_reducible refine teP ?_|with_reducible refine qn ?_|with_reducible refine skp ?_|with_reducible refine xt ?_|with_reducible refine x_then ?_|with_reducible refine x_eq ?_|with_reducible refine x_ne (by decide) ?_|with_reducible refine rtn ?_|with_reducible refine r_then ?_|with_reducible refine r_blk ?_|((with_reducible apply pv);(exact opx))|((with_reducible apply zcP);(exact hS);(exact hm);(exact rfl);(exact inferInstance);(exact rfl);(intro c;exact ctS c hS);(all_goals(intro y v T w im h hm;(repeat(first|(obtain⟨rfl,h⟩:=h)|(obtain⟨_,h⟩:=h)));(have hS:=(by assumption:Sep _ _ w _)))))|((with_reducible apply zcPN);(exact hS);(exact hm);(exact rfl);(exact inferInstance);(exact rfl);(intro c;exact ctS c hS);(all_goals(intro y v T w im h hm;(repeat(first|(obtain⟨rfl,h⟩:=h)|(obtain⟨_,h⟩:=h)));(have hS:=(by assumption:Sep _ _ w _)))))|((with_reducible apply zcB);(exact hS);(exact hm);(exact rfl);(exact inferInstance);(exact rfl);(intro c;exact ctS c hS);(all_goals(intro y v T w im h hm;(repeat(first|(obtain⟨rfl,h⟩:=h)|(obtain⟨_,h⟩:=h)));(have hS:=(by assumption:Sep _ _ w _)))))|((with_reducible apply zcBN);(exact hS);(exact hm);(exact rfl);(exact inferInstance);(exact rfl);(intro c;exact ctS c hS);(all_goals(intro y v T w im h hm;(repeat(first|(obtain⟨rfl,h⟩:=h)|(obtain⟨_,h⟩:=h)));(have hS:=(by assumption:Sep _ _ w _)))))|((with_reducible apply zst);(exact hS);(exact rfl);(exact atS);(exact tyS);(exact rfl);(exact lsS);(exact rfl);(exact rfl);(exact rfl);(intro w im hS))|((with_reducible apply zsb);(exact hS);(exact rfl);(exact lnS);(exact atS);(exact tyS);(exact rfl);(exact lsS);(exact rfl);(exact rfl);(exact rfl);(intro w im hS))|((with_reducible apply zal);(exact hS);(exact tyZ);(exact lsS);(intro w b im hS))|((with_reducible apply zbx);(exact hS);(exact rfl);(exact lsS);(intro w b im hS))|(refine cndH rfl hm ?_ ?_<;>intro hb hm)|(refine cnd (b:=true) rfl (fun _=>?_) (fun h=>nomatch h))|(refine cnd (b:=false) rfl (fun h=>nomatch h) (fun _=>?_))|(with_reducible refine sq2 ?_)|(with_reducible refine blk ?_)|((with_reducible apply wl);(exact rfl);(apply panO);(exact rfl))|(exact nnS hm)|(exact reZ hm hS)|(exact peZ hm hS)|((with_reducible apply(zbs 1));(exact hS);(assumption);(first|exact⟨mkS,qZt⟩|exact⟨mkS,mkS,qZt⟩|exact⟨mkS,mkS,mkS,qZt⟩|exact⟨mkS,mkS,mkS,mkS,qZt⟩);(exact tyU);(exact tyS);(exact tyZ);(exact rfl);(exact rfl);(exact rfl);(exact rfl);(kernel_rfl);(exact rfl);(intro w a m c im hS))|((with_reducible apply(zbs 2));(exact hS);(assumption);(first|exact⟨mkS,qZt⟩|exact⟨mkS,mkS,qZt⟩|exact⟨mkS,mkS,mkS,qZt⟩|exact⟨mkS,mkS,mkS,mkS,qZt⟩);(exact tyU);(exact tyS);(exact tyZ);(exact rfl);(exact rfl);(exact rfl);(exact rfl);(kernel_rfl);(exact rfl);(intro w a m c im hS))|((with_reducible apply(zbs 3));(exact hS);(assumption);(first|exact⟨mkS,qZt⟩|exact⟨mkS,mkS,qZt⟩|exact⟨mkS,mkS,mkS,qZt⟩|exact⟨mkS,mkS,mkS,mkS,qZt⟩);(exact tyU);(exact tyS);(exact tyZ);(exact rfl);(exact rfl);(exact rfl);(exact rfl);(kernel_rfl);(exact rfl);(intro w a m c im hS))|((with_reducible apply(zbs 4));(exact hS);(assumption);(first|exact⟨mkS,qZt⟩|exact⟨mkS,mkS,qZt⟩|exact⟨mkS,mkS,mkS,qZt⟩|exact⟨mkS,mkS,mkS,mkS,qZt⟩);(exact tyU);(exact tyS);(exact tyZ);(exact rfl);(exact rfl);(exact rfl);(exact rfl);(kernel_rfl);(exact rfl);(intro w a m c im hS))|(exact lgZ hm hS)|(exact jeZ hm hS)|(exact eoZ hm hS)|(have hm:=Q4m hm (by assumption) (by assumption))|(have hm:=Q1b hm (by assumption) (by assumption))|((with_reducible apply s0a);(exact rfl);(exact rfl);(exact gwS);(intro _;exact opx))|((with_reducible apply s1a);(exact rfl);(exact rfl);(exact gwS);(exact opx))|((with_reducible apply t0a);(exact rfl);(exact rfl);(exact rfl);(exact gwS);(intro _;exact opx))|((with_reducible apply t1a);(exact rfl);(exact rfl);(exact rfl);(exact gwS);(exact opx))|((with_reducible apply t0a);(exact rfl);(exact rfl);(exact rfl);(exact gwS);(intro _;exact opv))|((with_reducible apply tUa);(exact rfl);(exact rfl);(exact gUS);(kernel_rfl))|((with_reducible apply t1a);(exact rfl);(exact rfl);(exact rfl);(exact gwS);(exact opv))|(with_reducible refine te ?_)|(with_reducible refine teP ?_)|(with_reducible refine se ?_)|(with_reducible refine seP ?_)|((with_reducible apply idS);(obtain⟨y,hx,hm⟩:=Z8 hm);(try(rcases y with e|y<;>first|(have hm:=J8 hm)|(have hm:=C2 hm))))|((with_reducible apply idT);(obtain⟨y,hx,hm⟩:=Z8 hm);(try(rcases y with e|y<;>first|(have hm:=J8 hm)|(have hm:=C2 hm))))|((with_reducible apply s2Z);(assumption);(exact lsZ);(exact rfl);(exact gwS);(exact rfl);(kernel_rfl))|((with_reducible apply twZ);(assumption);(exact rfl);(exact lsZ);(exact rfl);(exact wt_of rfl rfl gwS);(exact rfl);(kernel_rfl);(kernel_rfl))|(with_reducible exact brs0)|(with_reducible refine brsC ?_ ?_)|((with_reducible apply brZ);(assumption);(exact lsZ);(exact lsZ);(exact rfl);(kernel_rfl);(kernel_rfl);(exact gwS);(kernel_rfl))|((with_reducible apply zoS);(exact hS);(exact rfl);(exact inferInstance);(exact rfl);(intro c;exact ctS c hS);(intro v T w im h;(repeat(first|(obtain⟨rfl,h⟩:=h)|(obtain⟨_,h⟩:=h)));(have hS:=(by assumption:Sep _ _ w _))))|((with_reducible apply zoN);(exact hS);(exact rfl);(exact inferInstance);(exact rfl);(intro c;exact ctS c hS);(intro v T w im h;(repeat(first|(obtain⟨rfl,h⟩:=h)|(obtain⟨_,h⟩:=h)));(have hS:=(by assumption:Sep _ _ w _))))|((with_reducible apply zoE);(exact hS);(assumption);(exact rfl);(exact inferInstance);(exact rfl);(intro c;exact ctS c hS);(intro v T w im h;(repeat(first|(obtain⟨rfl,h⟩:=h)|(obtain⟨_,h⟩:=h)));(have hS:=(by assumption:Sep _ _ w _))))|((with_reducible apply zoK);(exact hS);(exact rfl);(exact inferInstance);(exact rfl);(intro c;exact ctS c hS);(exact rfl);(intro v T w im h;(repeat(first|(obtain⟨rfl,h⟩:=h)|(obtain⟨_,h⟩:=h)));(have hS:=(by assumption:Sep _ _ w _))))|((with_reducible apply zoKN);(exact hS);(exact rfl);(exact inferInstance);(exact rfl);(intro c;exact ctS c hS);(exact rfl);(intro v T w im h;(repeat(first|(obtain⟨rfl,h⟩:=h)|(obtain⟨_,h⟩:=h)));(have hS:=(by assumption:Sep _ _ w _))))|((with_reducible apply zost);(exact hS);(exact rfl);(exact atS);(exact tyS);(exact rfl);(exact lsS);(exact rfl);(exact rfl);(exact rfl);(intro w im hS))|((with_reducible apply zosb);(exact hS);(exact rfl);(exact lnS);(exact atS);(exact tyS);(exact rfl);(exact lsS);(exact rfl);(exact rfl);(exact rfl);(intro w im hS))|((with_reducible apply zoal);(exact hS);(exact tyZ);(exact lsS);(intro w b im hS))|((with_reducible apply zobx);(exact hS);(exact rfl);(exact lsS);(intro w b im hS))|((with_reducible apply(zobs 1));(exact hS);(assumption);(first|exact⟨mkS,qZt⟩|exact⟨mkS,mkS,qZt⟩|exact⟨mkS,mkS,mkS,qZt⟩|exact⟨mkS,mkS,mkS,mkS,qZt⟩);(exact tyU);(exact tyS);(exact tyZ);(exact rfl);(exact rfl);(exact rfl);(exact rfl);(kernel_rfl);(exact rfl);(intro w a m c im hS))|((with_reducible apply(zobs 2));(exact hS);(assumption);(first|exact⟨mkS,qZt⟩|exact⟨mkS,mkS,qZt⟩|exact⟨mkS,mkS,mkS,qZt⟩|exact⟨mkS,mkS,mkS,mkS,qZt⟩);(exact tyU);(exact tyS);(exact tyZ);(exact rfl);(exact rfl);(exact rfl);(exact rfl);(kernel_rfl);(exact rfl);(intro w a m c im hS))|((with_reducible apply(zobs 3));(exact hS);(assumption);(first|exact⟨mkS,qZt⟩|exact⟨mkS,mkS,qZt⟩|exact⟨mkS,mkS,mkS,qZt⟩|exact⟨mkS,mkS,mkS,mkS,qZt⟩);(exact tyU);(exact tyS);(exact tyZ);(exact rfl);(exact rfl);(exact rfl);(exact rfl);(kernel_rfl);(exact rfl);(intro w a m c im hS))|((with_reducible apply(zobs 4));(exact hS);(assumption);(first|exact⟨mkS,qZt⟩|exact⟨mkS,mkS,qZt⟩|exact⟨mkS,mkS,mkS,qZt⟩|exact⟨mkS,mkS,mkS,mkS,qZt⟩);(exact tyU);(exact tyS);(exact tyZ);(exact rfl);(exact rfl);(exact rfl);(exact rfl);(kernel_rfl);(exact rfl);(intro w a m c im hS))|(rcases bc hm with⟨hb,hm⟩|⟨hb,hm⟩))):A:=h hm hS
theorem zk{A:Prop}(h:A:=by
 intro y v T w im h hm
 (repeat(first|(obtain⟨rfl,h⟩:=h)|(obtain⟨_,h⟩:=h)))
 (have hS:=(by assumption:Sep _ _ w _))
 exact zr hm hS):A:=h
theorem zo{A H:Prop}(hm:H)(h:H->A:=by
 intro hm v T w im h
 (repeat(first|(obtain⟨rfl,h⟩:=h)|(obtain⟨_,h⟩:=h)))
 (have hS:=(by assumption:Sep _ _ w _))
 exact zr hm hS):A:=h hm
variable{b1 b2 Y0 Q0f Z7g Z7f Z8d c1 c2 c3 c4 c5 c6 c7 c8 c9 c10 c11 c12 c13 n1 n2 n3 n4 n5 n6 n7 Z9 Q0e Z7a Z6z Z7p oo1 oo2:Nat}{H1 H2 Z5 L4 Z5m Z5l Z7h:List Value->Y9}{a1 a2 a3 a4 a5 a6 a7 a8 a9 a10 a11 a12 a13:OA}{r1 r2:Option Nat}{pv1:Value}
section
variable(a91 a92 a93 a94 a95 a96 a97 a98 a99 a910 a911 a912 a913:OA)(n91 n92 n93 n94 n95 n96 n97 n98 n99 n910 n911 n912 n913 n914 n915 n916 n917 n918 n919 n920 n921 n922 n923 n924 n925 n926 n927 n928 n929:Nat)(H91 H92:List Value->Y9)(T91:TP)(w91 w92 w93:World)(pv91 pv92:Value)(r91 r92 r93:Option Nat)(R91:List Y9)
abbrev Q1(x92:Z0):=(H91 [sv a91 x92.l n91,iv x92.end_.Line,iv x92.end_.Col,iv x92.depth]:Y9)
abbrev Q20(x91:Q0):=(Y6i U9 pv91 x91.fun_:Y9)
abbrev Q2(x90:Q0):=(X6 x90 H91 H92 n91 n92 a91 n93 n94 a92 n95 n96 a93 n97 n98 a94 n99 n910 r91 r92 a95 n911 n912 a96 n913 n914 pv91++[Q20 pv91 x90]:List Y9)
abbrev Q3(x94:Z1):=(Sep w91 T91 w92 (R91++J5 x94 H91 H92 a91 n91 a92 n92 a93 n93 n94 n95 a94 n96 n97 a95 n98 a96 n99 n910 a97 n911)/\SlR Q4b T91 w92 (sv a91 x94.u.Globals n91) x94.u.Globals/\SlR (rSl (J3 .u8)) T91 w92 (sv a92 x94.u.Data n92) x94.u.Data/\SlR Q9f T91 w92 (sv a93 x94.u.Codes n93) x94.u.Codes/\SlR (J3 .u32) T91 w92 (sv a95 x94.inputs n98) x94.inputs/\SlR Q6g T91 w92 (sv a97 x94.vars n911) x94.vars/\True:Prop)
abbrev Q4(x90)(x91)(x95)(x96):=(fun T w v=>∃a3 c3,v= .iface 76 (.agg (N7 x90 x91).toArray)/\Sep w91 T w (R91++[Q1 a3 c3 H91 x95])/\SlR Q9e T w (sv a3 x96 c3) x96/\True:TP->World->Value->Prop)
abbrev Q5(x93:Z1):=(SlR Q4b T91 w91 (sv a91 x93.u.Globals n91) x93.u.Globals/\SlR (rSl (J3 .u8)) T91 w91 (sv a92 x93.u.Data n92) x93.u.Data/\SlR Q9f T91 w91 (sv a93 x93.u.Codes n93) x93.u.Codes/\SlR (J3 .u32) T91 w91 (sv a94 x93.inputs n94) x93.inputs/\SlR Q6g T91 w91 (sv a95 x93.vars n95) x93.vars:Prop)
abbrev Q6(x90)(x91)(x926):=(fun T w v=>∃a11 n9 c11,v= .iface 89 (.agg (N7 x90 x91).toArray)/\Sep w91 T w (R91++(Q2 a11 a91 a92 a93 a94 a95 n91 n92 n9 c11 n93 n94 n95 n96 n97 n98 n99 n910 n911 n912 H91 H92 pv91 r91 r92 x926))/\True:TP->World->Value->Prop)
abbrev Q7(x92:Z1):=(H91 [sv a91 x92.u.Globals n91,sv a92 x92.u.Data n92,sv a93 x92.u.Codes n93,iv x92.u.Main,pt n94 n95,sv a94 x92.inputs n96,.slice a95 n97 n98,iv x92.out.Ins,.int .u32 x92.out.Exit,iv x92.out.E,iv x92.fuel,iv x92.deep,pv91,.int .u32 x92.ret.Num,iv x92.ret.Ptr.Obj,iv x92.ret.Ptr.Lo,iv x92.ret.Ptr.Hi,iv x92.ret.Ptr.Off,.bool x92.ret.Is]:Y9)
abbrev Q8(x93:Z0):=(SlR Q9e T91 w91 (sv a91 x93.l n91) x93.l:Prop)
abbrev Q9(x90:Y2)(x925):=(fun T w v=>∃a27 c27 a28 n19 c28,v= .agg (Q0c x90 a27 c27).toArray/\Sep w91 T w (R91++(Q2 a28 a91 a92 a93 a94 a95 n91 n92 n19 c28 n93 n94 n95 n96 n97 n98 n99 n910 n911 n912 H91 H92 pv91 r91 r92 x925))/\SlR X8 T w (sv a27 x90.term.Kids c27) x90.term.Kids/\True:TP->World->Value->Prop)
abbrev Q10(x93):=(SlR F8 T91 w91 (sv a91 x93 n91) x93:Prop)
abbrev Q11(x93):=(SlR X8 T91 w91 (sv a91 x93 n91) x93:Prop)
abbrev Q12(x93):=(J6 M2 123 (.slice a91 n91 n92) x93:Y9)
abbrev Q13(x93):=(SlR (J3 .u32) T91 w91 (sv a91 x93 n91) x93:Prop)
abbrev Q14(x90:K1)(x925):=(fun T w v=>∃a17 c17 a18 c18 a19 c19 a20 c20 a21 c21 a22 n13 c22,v= .agg (Z3y x90 a17 c17 a18 c18 a19 c19 a20 c20 a21 c21).toArray/\Sep w91 T w (R91++(Q2 a22 a91 a92 a93 a94 a95 n91 n92 n13 c22 n93 n94 n95 n96 n97 n98 n99 n910 n911 n912 H91 H92 pv91 r91 r92 x925))/\Q11 a17 c17 T w x90.A/\Q11 a18 c18 T w x90.Post/\SlR H4 T w (sv a19 x90.Body c19) x90.Body/\SlR H4 T w (sv a20 x90.Else c20) x90.Else/\SlR Q6u T w (sv a21 x90.Cases c21) x90.Cases/\True:TP->World->Value->Prop)
abbrev Q15(x93):=(Z0g K8 145 (.slice a91 n91 n92) x93:Y9)
abbrev Q16:=(Sep w91 T91 w92 (R91++[])/\True:Prop)
abbrev Q17(x93):=(SlR (rSl (J3 .u8)) T91 w91 (sv a91 x93 n91) x93:Prop)
abbrev Q68(x93):=(J6 H4 155 (.slice a91 n91 n92) x93:Y9)
abbrev Q18(x92:Q0)(x925):=(fun T w v=>∃a33 n19 c33 a34 n20 c34,v= .slice a33 n19 c33/\Sep w91 T w (R91++(X6 x92 H91 H92 n91 n92 a34 n20 c34 a91 n93 n94 a92 n95 n96 a93 n97 n98 r91 r92 a94 n99 n910 a95 n911 n912 pv91++[Q20 pv91 x92,Q68 a33 n19 c33 x925]))/\True:TP->World->Value->Prop)
abbrev Q19(x90)(x94)(x95):=(fun T w v=>∃a3 c3 a4 c4,v= .agg (E4 x90 a3 c3).toArray/\Sep w91 T w (R91++[Q1 a4 c4 H91 x94])/\Q10 a3 c3 T w x95/\Q8 a4 c4 T w x94/\True:TP->World->Value->Prop)
abbrev Q21(x93):=(SlR Q4b T91 w91 (sv a91 x93 n91) x93:Prop)
abbrev Q22(x94):=(Sep w91 T91 w92 (R91++X6 x94 H91 H92 n91 n92 a91 n93 n94 a92 n95 n96 a93 n97 n98 a94 n99 n910 r91 r92 a95 n911 n912 a96 n913 n914 pv91)/\True:Prop)
abbrev Q23(x90):=(.string ⟨x90⟩:Value)
abbrev Q24(x93):=(SlR Q9f T91 w91 (sv a91 x93 n91) x93:Prop)
abbrev Q25(x92):=K6 T91 w91 fun T w v=>v= .bool x92/\Q16 T w92 w R91
abbrev Q26(x90)(x91):=(.agg (N7 x90 x91).toArray:Value)
abbrev Q27(x92:Z1):=(H91 [sv a91 x92.u.Globals n91,sv a92 x92.u.Data n92,sv a93 x92.u.Codes n93,iv x92.u.Main,pt n94 n95,sv a94 x92.inputs n96,.slice a95 n97 n98,iv x92.out.Ins,.int .u32 x92.out.Exit,iv x92.out.E,iv x92.fuel,iv x92.deep,.slice a96 n99 n910,.int .u32 x92.ret.Num,iv x92.ret.Ptr.Obj,iv x92.ret.Ptr.Lo,iv x92.ret.Ptr.Hi,iv x92.ret.Ptr.Off,.bool x92.ret.Is]:Y9)
abbrev Q28(x94):=(Sep w91 T91 w92 ([Y7 R91]++X6 x94 H91 H92 n91 n92 a91 n93 n94 a92 n95 n96 a93 n97 n98 a94 n99 n910 r91 r92 a95 n911 n912 a96 n913 n914 pv91):Prop)
abbrev Q60(x92:P2):=(K0 n91 [sv a91 x92.Out n92,iv x92.Ins,.int .u32 x92.Exit,iv x92.E]:Y9)
abbrev Q29(x93)(x97)(x910:P2)(x914:Q6a):=([J6 (J3 .u32) 33 (.slice a91 n91 n92) x93,J6 (J3 .u32) 33 (.slice a92 n93 n94) x97,Q60 a93 n95 n96 x910,K0 n97 [sv a94 x914.Globals n98,sv a95 x914.Data n99,sv a96 x914.Codes n910,iv x914.Main],Y7 R91]:List Y9)
abbrev Q30(x92)(x99):=K6 T91 w91 fun T w v=>∃a131 c131 a132 c132 a133 c133 a134 n27 c134 a135 c135 a136 n28 c136 a137 c137,v=iv x92/\Q3 a131 a132 a133 a134 a135 a136 a137 c131 c132 c133 n91 n92 n27 c134 c135 n28 c136 c137 H91 H92 T w92 w R91 x99
abbrev Q94:=(H91 [.slice a91 n91 n92]:Y9)
abbrev Q31(x98):=(Sep w91 T91 w92 (R91++[Q94 a91 n91 n92 H91,Q12 a91 n91 n92 x98])/\True:Prop)
abbrev Q32(x93:Z1):=(SlR Q6g T91 w91 (sv a91 x93.vars n91) x93.vars:Prop)
abbrev Q33(x91):=(K0 n91 (E4 x91 a91 n92):Y9)
abbrev Q34(x929):=(Sep w91 T91 w92 ([Y7 R91]++(Q2 a91 a92 a93 a94 a95 a96 n91 n92 n93 n94 n95 n96 n97 n98 n99 n910 n911 n912 n913 n914 H91 H92 pv91 r91 r92 x929)):Prop)
abbrev Q44(x93:Z1):=(J6 (J3 .u32) 33 (.slice a91 n91 n92) x93.out.Out:Y9)
abbrev Q35(x91)(x921:Z1):=(pv91= .bool x91/\Sep w91 T91 w92 (R91++[Q7 a91 a92 a93 a94 a95 n91 n92 n93 n94 n95 n96 n97 n98 H91 pv92 x921,Q94 a96 n99 n910 H92,Q15 a96 n99 n910 x921.mem.list,Q44 a95 n97 n98 x921])/\Q21 a91 n91 T91 w92 x921.u.Globals/\Q17 a92 n92 T91 w92 x921.u.Data/\Q24 a93 n93 T91 w92 x921.u.Codes/\Q13 a94 n96 T91 w92 x921.inputs/\True:Prop)
abbrev Q36(x93):=(SlR Q7s T91 w91 (sv a91 x93 n91) x93:Prop)
abbrev Q37(x98):=(Sep w91 T91 w92 [Y7 R91,Q94 a91 n91 n92 H91,Q12 a91 n91 n92 x98]:Prop)
abbrev Q38(x92):=K6 T91 w91 fun T w v=>v=iv x92/\Q16 T w92 w R91
abbrev Q39(x97):=(Sep w91 T91 w92 [Y7 R91,Q1 a91 n91 H91 x97]:Prop)
abbrev Q40(x93):=(SlR Q2y T91 w91 (sv a91 x93 n91) x93:Prop)
abbrev Q41(x92):=K6 T91 w91 fun T w v=>v= .int .u32 x92/\Q16 T w92 w R91
abbrev Q42(x90):=(.agg (E4 x90 a91 n91).toArray:Value)
abbrev Q43(x94):=(Sep w91 T91 w92 ([Y7 R91]++J5 x94 H91 H92 a91 n91 a92 n92 a93 n93 n94 n95 a94 n96 n97 a95 n98 a96 n99 n910 a97 n911):Prop)
abbrev Q45(x98):=(Sep w91 T91 w92 [Y7 R91,Q94 a91 n91 n92 H91,Q15 a91 n91 n92 x98]:Prop)
abbrev Q46(x93)(x94):=(fun T w v=>∃a10 n2 c10 a11 c11,v= .slice a10 n2 c10/\Sep w91 T w (R91++[Q1 a11 c11 H91 x93,J6 F8 208 (.slice a10 n2 c10) x94])/\Q8 a11 c11 T w x93/\True:TP->World->Value->Prop)
abbrev Q47(x91):=(K0 n91 (Q0c x91 a91 n92):Y9)
abbrev Q48(x98):=(Sep w91 T91 w92 (R91++[Q94 a91 n91 n92 H91,Q15 a91 n91 n92 x98]):Prop)
abbrev Q49(x90:Pos):=(.agg #[iv x90.Line,iv x90.Col]:Value)
abbrev Q50(x90)(x91)(x926):=(fun T w v=>∃a9 n9 c9,v= .iface 89 (Q26 x90 x91)/\Q22 a9 a91 a92 a93 a94 a95 n91 n92 n9 c9 n93 n94 n95 n96 n97 n98 n99 n910 n911 n912 H91 H92 T w91 w pv91 r91 r92 R91 x926:TP->World->Value->Prop)
abbrev Q51(x91:Y6):=(K0 n91 [iv x91.Kind,iv x91.Fn,.int .u32 x91.Num,iv x91.Var,.bool x91.Global,iv x91.Size,.bool x91.Post,.bool x91.Ptr,.slice a91 n92 n93]:Y9)
abbrev Q52(x94:Z1):=(Q21 a91 n91 T91 w91 x94.u.Globals/\Q17 a92 n92 T91 w91 x94.u.Data/\Q24 a93 n93 T91 w91 x94.u.Codes/\Q13 a94 n94 T91 w91 x94.inputs:Prop)
abbrev Q53:=((qZs []):Value)
abbrev Q54(x93):=(SlR H4 T91 w91 (sv a91 x93 n91) x93:Prop)
abbrev Q55(x90):=(.agg (U2 x90 a91 n91).toArray:Value)
abbrev Q56(x90):=(.agg (W0 x90).toArray:Value)
abbrev Q57(x90):=(.agg (O2 x90).toArray:Value)
abbrev Q58(x92)(x912):=K6 T91 w91 fun T w v=>v= .bool x92/\Sep w92 T w (R91++[H91 [pt n91 n92],Q94 a91 n93 n94 H92,Q12 a91 n93 n94 x912])/\True
abbrev Q59(x97)(x99:E5):=(Sep w91 T91 w92 (R91++[Q1 a91 n91 H91 x97,H92 (Z3x x99 a92 n92 a93 n93 a94 n94 a95 n95 a96 n96 a97 n97 a98 n98)])/\Q8 a91 n91 T91 w92 x97/\Q10 a92 n92 T91 w92 x99.A/\Q10 a93 n93 T91 w92 x99.B/\Q10 a94 n94 T91 w92 x99.C/\Q40 a95 n95 T91 w92 x99.Var/\Q36 a96 n96 T91 w92 x99.Body/\Q36 a97 n97 T91 w92 x99.Else/\SlR Z0t T91 w92 (sv a98 x99.Cases n98) x99.Cases/\True:Prop)
abbrev Q61(x98):=([Y7 R91,H91 [pt n91 n92],Q94 a91 n93 n94 H92,Q12 a91 n93 n94 x98]:List Y9)
abbrev Q62(x92)(x915):=K6 T91 w91 fun T w v=>∃a13 c13 a14 c14 a15 c15 a16 c16 a17 c17,v= .bool x92/\Q3 a13 a14 a15 a91 a16 a92 a17 c13 c14 c15 n91 n92 n93 n94 c16 n95 n96 c17 H91 H92 T w92 w R91 x915
abbrev Q63(x90)(x91)(x929):=(fun T w v=>v= .iface 89 (Q26 x90 x91)/\Q22 a91 a92 a93 a94 a95 a96 n91 n92 n93 n94 n95 n96 n97 n98 n99 n910 n911 n912 n913 n914 H91 H92 T w91 w pv91 r91 r92 R91 x929:TP->World->Value->Prop)
abbrev Q64(x90:M7)(x94):=(fun T w v=>∃a32 c32 a33 c33 a34 c34,v= .agg (Y1z x90 a32 c32 a33 c33).toArray/\Sep w91 T w (R91++[Q1 a34 c34 H91 x94])/\Q13 a32 c32 T w x90.Dims/\Q10 a33 c33 T w x90.Init/\Q8 a34 c34 T w x94/\True:TP->World->Value->Prop)
abbrev Q65(x93):=(SlR Q2z T91 w91 (sv a91 x93 n91) x93:Prop)
abbrev Q91(x93):=(J6 X8 197 (.slice a91 n91 n92) x93:Y9)
abbrev Q66(x91)(x97:K1)(x99)(x922:Q0)(x923):=([K0 n91 (X0w x91 a91 n92),J6 Q6u 236 (.slice a92 n93 n94) x97.Cases,Z5y (Value.int .u32) Value.bool (.map r91) x99,K0 n95 [iv x97.Kind,.slice a93 n96 n97,sv a94 x97.Post n98,.bool x97.First,sv a95 x97.Body n99,sv a96 x97.Else n910,.slice a92 n93 n94,iv x97.Var],Q91 a93 n96 n97 x97.A,K0 n911 zv7,Y7 R91]++(X6 ({x922 with t:=x923}) H91 H92 n912 n913 a97 n914 n915 a98 n916 n917 a99 n918 n919 a910 n920 n921 r92 r93 a911 n922 n923 a912 n924 n925 (pt n926 0)++[Y6i U9 (pt n926 0) x922.fun_]):List Y9)
abbrev Q67(x92)(x93)(x97):=K6 T91 w91 fun T w v=>∃a5 n4 c5,v= .tuple #[iv x92,iv x93]/\Q31 a5 n4 c5 H91 T w92 w R91 x97
abbrev Q69(x91):=(K0 n91 (O2 x91):Y9)
abbrev Q70(x92):=K6 T91 w91 fun T w v=>v= .agg (O2 x92).toArray/\Q16 T w92 w R91
abbrev Q71(x916)(x921):=([Y7 R91,Q7 a91 a92 a93 a94 a95 n91 n92 n93 n94 n95 n96 n97 n98 H91 pv91 x916,Q94 a96 n99 n910 H92,Q15 a96 n99 n910 x921,Q44 a95 n97 n98 x916]:List Y9)
abbrev Q72(x92)(x99)(x910):=K6 T91 w91 fun T w v=>∃pv1,v= .tuple #[pv1,iv x92]/\Q48 a91 n91 n92 H91 T w92 w R91 x99/\IpR pv1 (.slice a91 n91 n92) 4 x910/\True
abbrev Q73(x91:D4):=(.agg #[sv a91 x91.Structs n91,sv a92 x91.Globals n92,sv a93 x91.Funcs n93]:Value)
abbrev Q74(x93):=(SlR Q2z T91 w91 (sv a91 x93 n91) x93:Prop)
abbrev Q75(x92)(x93):=K6 T91 w91 fun T w v=>v= .tuple #[.int .u32 x92,iv x93]/\Q16 T w92 w R91
abbrev Q76(x90)(x91)(x98):=(fun T w v=>∃a87 c87 a88 c88 a89 c89 a90 n21 c90 a91 c91 a92 n22 c92 a93 c93,v= .tuple #[Q57 x90,.bool x91]/\Q3 a87 a88 a89 a90 a91 a92 a93 c87 c88 c89 n91 n92 n21 c90 c91 n22 c92 c93 H91 H92 T w91 w R91 x98:TP->World->Value->Prop)
abbrev Q77(x90)(x93)(x929):=(fun T w v=>∃a10 c10,v= .agg (U2 x90 a10 c10).toArray/\Sep w91 T w (R91++X6 x93 H91 H92 n91 n92 a91 n93 n94 a92 n95 n96 a93 n97 n98 a94 n99 n910 r91 r92 a95 n911 n912 a96 n913 n914 pv91)/\Q11 a10 c10 T w x929/\True:TP->World->Value->Prop)
abbrev Q78(x93)(x94):=(fun T w v=>∃a22 n5 c22 a23 c23,v= .slice a22 n5 c22/\Sep w91 T w (R91++[Q1 a23 c23 H91 x93,J6 Q2y 132 (.slice a22 n5 c22) x94])/\Q8 a23 c23 T w x93/\True:TP->World->Value->Prop)
abbrev Q79(x91):=(K0 n91 (U2 x91 a91 n92):Y9)
abbrev Q80(x91)(x913:Z1)(x914):=([K0 n91 (Z3y x91 a91 n92 a92 n93 a93 n94 a94 n95 a95 n96),Y7 R91]++J5 ({x913 with mem:=x914}) H91 H92 a96 n97 a97 n98 a98 n99 n910 n911 a99 n912 n913 a910 n914 a911 n915 n916 a912 n917:List Y9)
abbrev Q81(x97):=(Sep w91 T91 w92 (R91++[Q1 a91 n91 H91 x97])/\Q8 a91 n91 T91 w92 x97/\True:Prop)
abbrev Q82(x94:Y2):=(Q11 a91 n91 T91 w91 x94.term.Kids:Prop)
abbrev Q83(x91:M7):=(K0 n91 [iv x91.Pos.Line,iv x91.Pos.Col,Q23 x91.Type_.Word.toArray,Q23 x91.Type_.Name.toArray,iv x91.Type_.Stars,Q23 x91.Name.toArray,.slice a91 n92 n93,.slice a92 n94 n95,.bool x91.Brace]:Y9)
abbrev Q84(x91)(x92)(x93)(x94)(x96)(x98):=([(2,pt n91 0),(4,.string ⟨x91⟩),(6,.int .u64 x92),(7,.int .u64 x93),(8,.bool x94),(28,.slice a91 (qQ (A2 x96)) n92),(29,iv (qQ (A2 x96):Int)),(30,iv x98)]:List (Nat×Value))
abbrev Q85(x90:Q0)(x91):=(X6 ({x90 with t:=x91}) H91 H92 n91 n92 a91 n93 n94 a92 n95 n96 a93 n97 n98 a94 n99 n910 r91 r92 a95 n911 n912 a96 n913 n914 pv91++[Q20 pv91 x90]:List Y9)
abbrev Q86:=([(0,pt n91 n92),(3,pt n93 0),(4,pt n94 0),(5,pt n95 0),(6,pt n96 0)]:List (Nat×Value))
abbrev Q87(x91:G4):=(Z5y (Value.int .i64) Q7c (.map r91) x91.ptrs:Y9)
abbrev Q88(x93:D4):=(SlR Q9t T91 w91 (sv a91 x93.Structs n91) x93.Structs:Prop)
abbrev Q89(x94:Z1):=(Q13 a91 n91 T91 w91 x94.inputs:Prop)
abbrev Q90(x92)(x93):=K6 T91 w91 fun T w v=>v= .tuple #[.agg (X0v x92).toArray,iv x93]/\Q16 T w92 w R91
abbrev Q92(x93):=(SlR Z0t T91 w91 (sv a91 x93 n91) x93:Prop)
abbrev Q93(x90):=(.agg (Q0c x90 a91 n91).toArray:Value)
abbrev Q95(x93:D4):=(SlR Z3h T91 w91 (sv a91 x93.Funcs n91) x93.Funcs:Prop)
abbrev Q96(x97):=(Sep w91 T91 w92 (R91++[Q1 a91 n91 H91 x97])/\True:Prop)
abbrev Q97(x92)(x99):=K6 T91 w91 fun T w v=>v=iv x92/\Q48 a91 n91 n92 H91 T w92 w R91 x99/\True
abbrev Q98(x91):=(K0 n91 [iv 2,iv 0,.int .u32 0,iv x91,.bool false,iv 0,.bool false,.bool true,.slice none 0 0]:Y9)
abbrev Q99(x94):=([K0 n91 zv1,Q33 a91 n92 n93 x94,Y7 R91]:List Y9)
abbrev Q100(x90)(x925):=(fun T w v=>∃a9 n9 c9,v=iv x90/\Q22 a9 a91 a92 a93 a94 a95 n91 n92 n9 c9 n93 n94 n95 n96 n97 n98 n99 n910 n911 n912 H91 H92 T w91 w pv91 r91 r92 R91 x925:TP->World->Value->Prop)
abbrev Q101(x92)(x94)(x96):=([(0,pt n91 n92),(1,iv x92),(12,.slice a91 (qQ (A2 x94)) n93),(13,iv (qQ (A2 x94):Int)),(14,iv x96)]:List (Nat×Value))
abbrev Q102(x91:Q6a):=(.agg #[sv a91 x91.Globals n91,sv a92 x91.Data n92,sv a93 x91.Codes n93,iv x91.Main]:Value)
abbrev Q103(x91):=(Z5y Y1y (Value.int .i64) (.map r91) x91:Y9)
abbrev Q104(x93):=(J6 (J3 .u8) 5 (.slice a91 n91 n92) x93:Y9)
abbrev Q105(x90):=(.agg (Z2j x90).toArray:Value)
abbrev Q106(x91):=(K0 n91 (W0 x91):Y9)
abbrev Q107(x90):=(.agg (Y1z x90 a91 n91 a92 n92).toArray:Value)
end
theorem kA{A B:Prop}(k:B)(h:Kp B->A:=by
 intro k
 refine pn ?_
 refine sq2 (pu ?_)
 exact k.out):A:=h ⟨k⟩
theorem kB{A B:Prop}(k:B)(h:Kp B->A:=by
 intro k
 refine pn ?_
 refine sq2 (sq2 (pu ?_))
 exact k.out):A:=h ⟨k⟩
theorem kC{A B:Prop}(k:B)(h:Kp B->A:=by
 intro k
 refine pn ?_
 refine sq2 (sq2 (pn ?_))
 exact k.out):A:=h ⟨k⟩
theorem kD{A B:Prop}(k:B)(h:Kp B->A:=by
 intro k
 refine pn ?_
 refine sq2 (pn ?_)
 exact k.out):A:=h ⟨k⟩
theorem kE{A B:Prop}(k:B)(h:Kp B->A:=by
 intro k
 refine pn ?_
 refine sq2 ?_
 exact k.out):A:=h ⟨k⟩
theorem qU{A B:Prop}(k:B)(h:Kp B->A:=by
 intro k
 refine sq2 (pu ?_)
 exact k.out):A:=h ⟨k⟩
theorem qN{A B:Prop}(k:B)(h:Kp B->A:=by
 intro k
 refine sq2 (pn ?_)
 exact k.out):A:=h ⟨k⟩
theorem Z1s{p0:List UInt8}{p1:List UInt8}(hS:Sep g T0 w0 [Y7 R]):∀r,Q5o p0 p1=some r->
 Cl 85 #[Q23 p0.toArray,Q23 p1.toArray] w0 (Q25 T0 w0 g R r):=by
 intro r hm;refine eN Tryz.func85 Tryz.ntmps85 fun J=>?_;unfold Q5o at hm;exact zr hm hS

instance:Ct 85 @Z1s:=⟨@Z1s,cf85⟩
theorem Q1g{p0:List UInt8}{p1:List UInt8}(hS:Sep g T0 w0 [Y7 R]):∀r,N9 p0 p1=some r->
 Cl 44 #[Q23 p0.toArray,Q23 p1.toArray] w0 (Q25 T0 w0 g R r):=by
 intro r hm;refine eN Tryz.func44 Tryz.ntmps44 fun J=>?_;unfold N9 at hm;exact zr hm hS

instance:Ct 44 @Q1g:=⟨@Q1g,cf44⟩
theorem Z9q{p0}(hS:Sep g T0 w0 [Y7 R]):∀r,Z0v p0=some r->
 Cl 47 #[.int .u8 p0] w0 (Q25 T0 w0 g R r):=by
 intro r hm;refine eN Tryz.func47 Tryz.ntmps47 fun J=>?_;unfold Z0v at hm;exact zr hm hS

instance:Ct 47 @Z9q:=⟨@Z9q,cf47⟩
theorem Z8r{p0:List UInt8}(hS:Sep g T0 w0 [Y7 R]):∀r,Y4k p0=some r->
 Cl 46 #[Q23 p0.toArray,.func (.func 47) #[] #[]] w0 (Q38 T0 w0 g R r):=by
 intro r hm;refine eN Tryz.func46 Tryz.ntmps46 fun J=>?_;unfold Y4k at hm;refine qN ?_;refine qN ?_;refine sq2 (lpJ hm (fun E K m a O=>∃U D,JR (nf 20) g T0 w0 a O U (X5 E m D=some K) [(0,(qZs p0)),(1,.func (.func 47) #[] #[]),(5,iv D)] [Y7 R]) (fun _ _ h=>je h (hS.sE [0])) ?_);rintro E V K _ _ _ O ⟨U,D,J,W,rfl,aa,_⟩;obtain⟨m1,_,rfl,hm,_⟩:=lrE W V;exact zr hm aa

instance:Ct 46 @Z8r:=⟨@Z8r,cf46⟩
theorem Z7c{p0:List UInt8}(hS:Sep g T0 w0 [Y7 R])(hG0:Gi T0 w0 0):∀r,Z5r p0=some r->
 Cl 28 #[Q23 p0.toArray] w0 (Q38 T0 w0 g R r):=by
 intro r hm;refine eN Tryz.func28 Tryz.ntmps28 fun J=>?_;unfold Z5r at hm;refine qN ?_;refine sq2 (qU ?_);refine cB cf44 hm (Q1g (hS.bE [0] [])) ?_;rintro _ _ _ _ U ⟨rfl,K,_⟩ hm;refine cd hm ?_ ?_<;>intro ac hm
 . refine sq2 (sq2 ?_);obtain⟨_,V,hm⟩:=Z8 hm;refine cS cf45 (Z6l (K.bE [0] []) (hG0.mono U) V) ?_;rintro _ _ _ _ ⟨rfl,D,_⟩;have D:=D.unb;refine pn ?_;refine sq2 (cd hm ?_ ?_)<;>intro ad hm
   . exact sq2 (re hm (D.sE [0]))
   refine pn ?_;exact sq2 (re hm (D.sE [0]))
 refine kB ?_;refine cB cf44 hm (Q1g (K.bE [0] [])) ?_;rintro _ _ _ _ _ ⟨rfl,O,_⟩ hm;refine cd hm ?_ ?_<;>intro ae hm
 . refine sq2 ?_;obtain⟨u1,W,hm⟩:=Z8 hm;obtain⟨_,aa,hm⟩:=Z8 hm;refine pu ?_;refine pv (r_ss rfl ⟨_,rfl⟩ rfl W underlying9) (cS cf45 (Z6l (O.bE [0] []) (hG0.mono ch) aa) ?_);rintro _ _ _ _ ⟨rfl,E,_⟩;have E:=E.unb;refine pn ?_;refine sq2 (sq2 (cd hm ?_ ?_))<;>intro af hm
   . exact sq2 (re hm (E.sE [0]))
   refine pn ?_;exact sq2 (re hm (E.sE [0]))
 refine kA ?_;refine cB cf46 hm (Z8r (O.bE [0] [])) ?_;rintro _ _ _ _ _ ⟨rfl,ab,_⟩ hm;exact re hm (ab.sE [0])

instance:Ct 28 @Z7c:=⟨@Z7c,cf28⟩
theorem Z0u{p0:P6}{p1}(hS:Sep g T0 w0 [Y7 R,Z5 (Z5c p0)])(Z2:Ln Y0 Z9 Z5):∀r,O9 p0 p1=some r->
 Cl 29 #[pt Y0 Z9,iv p1] w0 (K6 T0 w0 fun T w v=>v= .tuple #[]/\Sep g T w (R++[Z5 (Z5c r)])/\True):=by
 intro r hm;refine eN Tryz.func29 Tryz.ntmps29 fun J=>?_;unfold O9 at hm;refine sq2 (sq2 ?_);obtain⟨u1,ae,hm⟩:=Z8 hm;obtain⟨_,af,hm⟩:=Z8 hm;refine pu ?_;refine pv (r_ss rfl rfl ⟨_,rfl⟩ ae underlying9) (wl rfl (cvB hS rfl underlying9 underlying99 underlying5 (U8 af) fun T1 w1 a1 c1 ap ai h1=>pn ?_));refine lpJ hm (fun V W m a E=>∃K O D,JR (nf 49) g T1 w1 a E K (X5 V m (D,O)=some W) (Q101 a1 Y0 Z9 c1 p1 u1 D) [Y7 R,Z5 (Z5c O)]) (fun _ _ h=>je h (ai.sE [0,1])) ?_;rintro V aj W _ _ _ E ⟨K,O,D,J,ak,rfl,aa,_⟩;obtain⟨m1,z1,rfl,hm,an⟩:=lrE ak aj;refine qN ?_;refine sq2 (cd hm ?_ ?_)<;>intro aq hm
 . refine pn ?_;refine M8 hm (fun ab a w3=>∃T3 U,JR (nf 49) g K E a w3 T3 (ab U=some z1) (Q101 a1 Y0 Z9 c1 p1 u1 D) [Y7 R,Z5 (Z5c U)]) (fun ab hm=>?_) ?_
   . exact zr hm aa
   rintro _ w3 ⟨T3,U,J,hm,rfl,ao,_⟩;exact lg hm an (ao.sE [0,1])
 exact zr hm aa

instance:Ct 29 @Z0u:=⟨@Z0u,cf29⟩
theorem Z6a{p0}(hS:Sep g T0 w0 [Y7 R]):∀r,Z4h p0=some r->
 Cl 48 #[.int .u8 p0] w0 (Q25 T0 w0 g R r):=by
 intro r hm;refine eN Tryz.func48 Tryz.ntmps48 fun J=>?_;unfold Z4h at hm;exact zr hm hS

instance:Ct 48 @Z6a:=⟨@Z6a,cf48⟩
theorem Y2z{p0}(hS:Sep g T0 w0 [Y7 R]):∀r,Z4i p0=some r->
 Cl 51 #[.int .u8 p0] w0 (Q25 T0 w0 g R r):=by
 intro r hm;refine eN Tryz.func51 Tryz.ntmps51 fun J=>?_;unfold Z4i at hm;exact zr hm hS

instance:Ct 51 @Y2z:=⟨@Y2z,cf51⟩
theorem Y4l{p0}(hS:Sep g T0 w0 [Y7 R]):∀r,Y1l p0=some r->
 Cl 49 #[.int .u8 p0] w0 (Q25 T0 w0 g R r):=by
 intro r hm;refine eN Tryz.func49 Tryz.ntmps49 fun J=>?_;unfold Y1l at hm;exact zr hm hS

instance:Ct 49 @Y4l:=⟨@Y4l,cf49⟩
theorem Z3j{p0:List UInt8}(hS:Sep g T0 w0 [Y7 R]):∀r,Z5z p0=some r->
 Cl 46 #[Q23 p0.toArray,.func (.func 49) #[] #[]] w0 (Q38 T0 w0 g R r):=by
 intro r hm;refine eN Tryz.func46 Tryz.ntmps46 fun J=>?_;unfold Z5z at hm;refine qN ?_;refine qN ?_;refine sq2 (lpJ hm (fun E K m a O=>∃U D,JR (nf 20) g T0 w0 a O U (X5 E m D=some K) [(0,(qZs p0)),(1,.func (.func 49) #[] #[]),(5,iv D)] [Y7 R]) (fun _ _ h=>je h (hS.sE [0])) ?_);rintro E V K _ _ _ O ⟨U,D,J,W,rfl,aa,_⟩;obtain⟨m1,_,rfl,hm,_⟩:=lrE W V;exact zr hm aa

instance:Ct 46 @Z3j:=⟨@Z3j,cf46⟩
theorem Y4o{p0:List UInt8}(hS:Sep g T0 w0 [Y7 R]):∀r,Y1o p0=some r->
 Cl 50 #[Q23 p0.toArray] w0 (Q25 T0 w0 g R r):=by
 intro r hm;refine eN Tryz.func50 Tryz.ntmps50 fun J=>?_;unfold Y1o at hm;refine qN ?_;refine sq2 (qN ?_);refine blk (M8 hm (fun E a K=>∃O D,JR (nf 23) g T0 w0 a K O (E D=some r) [(4,.bool D)] [Y7 R]) (fun E hm=>?_) ?_)
 . exact zr hm hS
 rintro _ K ⟨O,D,J,hm,rfl,U,_⟩;exact zr hm U

instance:Ct 50 @Y4o:=⟨@Y4o,cf50⟩
theorem Y2y{p0}(hS:Sep g T0 w0 [Y7 R]):∀r,Q9y p0=some r->
 Cl 87 #[.int .u8 p0] w0 (K6 T0 w0 fun T w v=>v= .int .u64 r/\Q16 T g w R):=by
 intro r hm;refine eN Tryz.func87 Tryz.ntmps87 fun J=>?_;unfold Q9y at hm;exact zr hm hS

instance:Ct 87 @Y2y:=⟨@Y2y,cf87⟩
theorem Y1k{p0:List UInt8}(hS:Sep g T0 w0 [Y7 R]):∀r,Z8s p0=some r->
 Cl 52 #[Q23 p0.toArray] w0 (Q90 T0 w0 g R r.1 r.2):=by
 intro r hm;refine eN Tryz.func52 Tryz.ntmps52 fun J=>?_;unfold Z8s at hm;refine sq2 (aL Y6q hS ?_);intro _ D _ an;refine kA ?_;refine cB cf46 hm (Z3j (an.bE [0,1] [])) ?_;rintro _ _ T1 w2 _ ⟨rfl,aq,_⟩ hm;obtain⟨u1,ar,hm⟩:=Z8 hm;refine pv (r_ss rfl rfl ⟨_,rfl⟩ ar underlying9) (pn ?_);refine qN ?_;refine M8 hm (fun ad a w3=>∃T2 E K,JR (nf 54) g T1 w2 a w3 T2 (ad E K=some r) [(2,pt D 0),(4,(qZs u1)),(5,(qZs E)),(6,.int .u64 K)] [K0 D Y6q,Y7 R]) (fun ad hm=>?_) ?_
 . exact zr hm aq
 rintro _ w3 ⟨T2,E,K,J,hm,rfl,ag,_⟩;refine sq2 (sq2 (cd hm ?_ ?_))<;>intro aD hm
 . exact zr hm ag
 refine kD ?_;refine qN ?_;refine sq2 (sq2 ?_);obtain⟨_,au,hm⟩:=Z8 hm;refine pu ?_;refine wl rfl (cvB ag rfl underlying9 underlying99 underlying5 (U8 au) fun T5 w7 a1 c1 aE ax h1=>pn ?_);refine lpJ hm (fun ah o1 m a U=>∃V W x4 O,JR (nf 54) g T5 w7 a U V (X5 ah m (W,x4,O)=some o1) (Q84 a1 D c1 u1.toArray K W x4 E O) [K0 D Y6q,Y7 R]) (fun _ _ h=>je h (ax.sE [0,1])) ?_;rintro ah ay o1 _ _ _ U ⟨V,W,x4,O,J,az,rfl,aj,_⟩;obtain⟨m1,z1,rfl,hm,aB⟩:=lrE az ay;refine qN ?_;refine sq2 (cd hm ?_ ?_)<;>intro aF hm
 . refine pn ?_;refine M8 hm (fun ak a w9=>∃T7 x6 x7,JR (nf 54) g V U a w9 T7 (ak x6 x7=some z1) (Q84 a1 D c1 u1.toArray K x6 x7 E O) [K0 D Y6q,Y7 R]) (fun ak hm=>?_) ?_
   . exact zr hm aj
   rintro _ w9 ⟨T7,x6,x7,J,hm,rfl,aC,_⟩;exact lg hm aB (aC.sE [0,1])
 exact zr hm aj

instance:Ct 52 @Y1k:=⟨@Y1k,cf52⟩
theorem Y1n{p0}(hS:Sep g T0 w0 [Y7 R]):∀r,Z6b p0=some r->
 Cl 88 #[.int .u8 p0] w0 (K6 T0 w0 fun T w v=>v= .tuple #[.int .u8 r.1,.bool r.2]/\Q16 T g w R):=by
 intro r hm;refine eN Tryz.func88 Tryz.ntmps88 fun J=>?_;unfold Z6b at hm;refine qN ?_;refine sq2 (qN ?_);refine blk (sq2 (cd hm ?_ ?_))<;>intro V hm
 . exact sq2 (re hm (hS.sE [0]))
 refine sq2 (cd hm ?_ ?_)<;>intro W hm
 . exact sq2 (re hm (hS.sE [0]))
 refine sq2 (cd hm ?_ ?_)<;>intro aa hm
 . exact sq2 (re hm (hS.sE [0]))
 refine sq2 (cd hm ?_ ?_)<;>intro ab hm
 . exact sq2 (re hm (hS.sE [0]))
 refine M8 hm (fun E a K=>∃O D,JR (nf 17) g T0 w0 a K O (E D=some r) [(0,.int .u8 p0),(13,.bool D)] [Y7 R]) (fun E hm=>?_) ?_
 . exact zr hm hS
 rintro _ K ⟨O,D,J,hm,rfl,U,_⟩;exact zr hm U

instance:Ct 88 @Y1n:=⟨@Y1n,cf88⟩
theorem Y4n{p0:List UInt8}(hS:Sep g T0 w0 [Y7 R]):∀r,Z7r p0=some r->
 Cl 53 #[Q23 p0.toArray] w0 (Q90 T0 w0 g R r.1 r.2):=by
 intro r hm;refine eN Tryz.func53 Tryz.ntmps53 fun J=>?_;unfold Z7r at hm;refine sq2 (aL Y6q hS ?_);intro _ K _ D;refine kB ?_
 rcases bc hm with⟨ak,hm⟩|⟨ak,hm⟩
 . obtain⟨u1,O,hm⟩:=Z8 hm;refine pu ?_;refine pv (Z8l rfl rfl O underlying9) (pu ?_)
   rcases bc hm with⟨am,hm⟩|⟨am,hm⟩
   . obtain⟨_,an,hm⟩:=Z8 hm;refine pu ?_;refine pv (Z8l rfl rfl an underlying9) (cd hm ?_ ?_)<;>intro aZ hm
     . exact zr hm D
     refine kB ?_
     rcases bc hm with⟨ao,hm⟩|⟨ao,hm⟩
     . obtain⟨_,ap,hm⟩:=Z8 hm;refine pu ?_;refine pv (Z8l rfl rfl ap underlying9) (pu ?_)
       rcases bc hm with⟨aq,hm⟩|⟨aq,hm⟩
       . obtain⟨u6,U,hm⟩:=Z8 hm;obtain rfl:u1=u6:=oI (O.symm.trans U);refine pu ?_;refine pv (Z8l rfl rfl U underlying9) (pu ?_)
         rcases bc hm with⟨au,hm⟩|⟨au,hm⟩
         . obtain⟨u7,V,hm⟩:=Z8 hm;obtain rfl:u1=u7:=oI (U.symm.trans V);refine pu ?_;refine pv (Z8l rfl rfl V underlying9) (pu ?_)
           rcases bc hm with⟨aw,hm⟩|⟨aw,hm⟩
           . obtain⟨u8,W,hm⟩:=Z8 hm;obtain rfl:u1=u8:=oI (V.symm.trans W);refine pu ?_;refine pv (Z8l rfl rfl W underlying9) (pu ?_)
             rcases bc hm with⟨ay,hm⟩|⟨ay,hm⟩
             . obtain⟨u9,af,hm⟩:=Z8 hm;obtain rfl:u1=u9:=oI (W.symm.trans af);refine pu ?_;refine pv (Z8l rfl rfl af underlying9) (pu ?_);refine nil (K7 [(0,(qZs p0)),(2,pt K 0),(59,.bool ((UInt8.toNat u1:Int)!=92))] ⟨rfl,rfl,rfl,qZt⟩ fun J=>?_);refine cd hm ?_ ?_<;>intro a2 hm
               . refine sq2 (rsS [0,0,0,0,0,0,2,0] [0,1,2,3,4,5,6,7] D fun w5 a4 aA=>?_);have dd:KD [(6,[])]:=⟨qZt⟩;exact zr hm aA
               exact zr hm D
             exact zr hm D
           exact zr hm D
         exact zr hm D
       exact zr hm D
     exact zr hm D
   refine pn ?_;refine cnd (b:=false) rfl (fun h=>nomatch h) (fun _=>pn ?_);refine sq2 (qU ?_)
   rcases bc hm with⟨aB,hm⟩|⟨aB,hm⟩
   . obtain⟨_,aC,hm⟩:=Z8 hm;refine pu ?_;refine pv (Z8l rfl rfl aC underlying9) (pu ?_)
     rcases bc hm with⟨aD,hm⟩|⟨aD,hm⟩
     . obtain⟨aE,aa,hm⟩:=Z8 hm;obtain rfl:u1=aE:=oI (O.symm.trans aa);refine pu ?_;refine pv (Z8l rfl rfl aa underlying9) (pu ?_)
       rcases bc hm with⟨aF,hm⟩|⟨aF,hm⟩
       . obtain⟨aG,ab,hm⟩:=Z8 hm;obtain rfl:u1=aG:=oI (aa.symm.trans ab);refine pu ?_;refine pv (Z8l rfl rfl ab underlying9) (pu ?_)
         rcases bc hm with⟨aI,hm⟩|⟨aI,hm⟩
         . obtain⟨aJ,ac,hm⟩:=Z8 hm;obtain rfl:u1=aJ:=oI (ab.symm.trans ac);refine pu ?_;refine pv (Z8l rfl rfl ac underlying9) (pu ?_)
           rcases bc hm with⟨aK,hm⟩|⟨aK,hm⟩
           . obtain⟨aM,ah,hm⟩:=Z8 hm;obtain rfl:u1=aM:=oI (ac.symm.trans ah);refine pu ?_;refine pv (Z8l rfl rfl ah underlying9) (pu ?_);refine nil (K7 [(0,(qZs p0)),(2,pt K 0),(59,.bool ((UInt8.toNat u1:Int)!=92))] ⟨rfl,rfl,rfl,qZt⟩ fun J=>?_);refine cd hm ?_ ?_<;>intro a5 hm
             . refine sq2 (rsS [0,0,0,0,0,0,2,0] [0,1,2,3,4,5,6,7] D fun a6 a7 aN=>?_);have dd:KD [(6,[])]:=⟨qZt⟩;exact zr hm aN
             exact zr hm D
           exact zr hm D
         exact zr hm D
       exact zr hm D
     exact zr hm D
   exact zr hm D
 refine pn ?_;refine cnd (b:=false) rfl (fun h=>nomatch h) (fun _=>pn ?_);refine sq2 (qU ?_)
 rcases bc hm with⟨aP,hm⟩|⟨aP,hm⟩
 . obtain⟨_,aQ,hm⟩:=Z8 hm;refine pu ?_;refine pv (Z8l rfl rfl aQ underlying9) (pu ?_)
   rcases bc hm with⟨aR,hm⟩|⟨aR,hm⟩
   . obtain⟨E,ai,hm⟩:=Z8 hm;refine pu ?_;refine pv (Z8l rfl rfl ai underlying9) (pu ?_)
     rcases bc hm with⟨aS,hm⟩|⟨aS,hm⟩
     . obtain⟨aT,ad,hm⟩:=Z8 hm;obtain rfl:E=aT:=oI (ai.symm.trans ad);refine pu ?_;refine pv (Z8l rfl rfl ad underlying9) (pu ?_)
       rcases bc hm with⟨aU,hm⟩|⟨aU,hm⟩
       . obtain⟨aV,ae,hm⟩:=Z8 hm;obtain rfl:E=aV:=oI (ad.symm.trans ae);refine pu ?_;refine pv (Z8l rfl rfl ae underlying9) (pu ?_)
         rcases bc hm with⟨aW,hm⟩|⟨aW,hm⟩
         . obtain⟨aX,aj,hm⟩:=Z8 hm;obtain rfl:E=aX:=oI (ae.symm.trans aj);refine pu ?_;refine pv (Z8l rfl rfl aj underlying9) (pu ?_);refine nil (K7 [(0,(qZs p0)),(2,pt K 0),(59,.bool ((UInt8.toNat E:Int)!=92))] ⟨rfl,rfl,rfl,qZt⟩ fun J=>?_);refine cd hm ?_ ?_<;>intro a8 hm
           . refine sq2 (rsS [0,0,0,0,0,0,2,0] [0,1,2,3,4,5,6,7] D fun a9 ba aY=>?_);have dd:KD [(6,[])]:=⟨qZt⟩;exact zr hm aY
           exact zr hm D
         exact zr hm D
       exact zr hm D
     exact zr hm D
   exact zr hm D
 exact zr hm D

instance:Ct 53 @Y4n:=⟨@Y4n,cf53⟩
theorem Y4m{p0:List UInt8}(hS:Sep g T0 w0 [Y7 R]):∀r,Y1m p0=some r->
 Cl 54 #[Q23 p0.toArray] w0 (K6 T0 w0 fun T w v=>v=(qZs r)/\Q16 T g w R):=by
 intro r hm;refine eN Tryz.func54 Tryz.ntmps54 fun J=>?_;unfold Y1m at hm;refine qN ?_;refine qU ?_;refine pv (F0 (by kernel_rfl) rfl (u:= .agg #[qZs [60,60,61],qZs [62,62,61],qZs [45,62],qZs [43,43],qZs [45,45],qZs [60,60],qZs [62,62],qZs [60,61],qZs [62,61],qZs [61,61],qZs [33,61],qZs [38,38],qZs [124,124],qZs [43,61],qZs [45,61],qZs [42,61],qZs [47,61],qZs [37,61],qZs [38,61],qZs [124,61],qZs [94,61],qZs [43],qZs [45],qZs [42],qZs [47],qZs [37],qZs [38],qZs [124],qZs [94],qZs [126],qZs [33],qZs [60],qZs [62],qZs [61],qZs [63],qZs [58],qZs [59],qZs [44],qZs [46],qZs [40],qZs [41],qZs [91],qZs [93],qZs [123],qZs [125]])) (aL [qZs [],qZs [],qZs [],qZs [],qZs [],qZs [],qZs [],qZs [],qZs [],qZs [],qZs [],qZs [],qZs [],qZs [],qZs [],qZs [],qZs [],qZs [],qZs [],qZs [],qZs [],qZs [],qZs [],qZs [],qZs [],qZs [],qZs [],qZs [],qZs [],qZs [],qZs [],qZs [],qZs [],qZs [],qZs [],qZs [],qZs [],qZs [],qZs [],qZs [],qZs [],qZs [],qZs [],qZs [],qZs []] hS ?_);intro _ _ _ ab;refine sT 0 ab ?_;intro w2 _ ad;refine kC ?_;refine lpJ hm (fun E K m a O=>∃U D,JR (nf 16) g T0 w2 a O U (X5 E m D=some K) [(0,(qZs p0)),(7,.agg #[qZs [60,60,61],qZs [62,62,61],qZs [45,62],qZs [43,43],qZs [45,45],qZs [60,60],qZs [62,62],qZs [60,61],qZs [62,61],qZs [61,61],qZs [33,61],qZs [38,38],qZs [124,124],qZs [43,61],qZs [45,61],qZs [42,61],qZs [47,61],qZs [37,61],qZs [38,61],qZs [124,61],qZs [94,61],qZs [43],qZs [45],qZs [42],qZs [47],qZs [37],qZs [38],qZs [124],qZs [94],qZs [126],qZs [33],qZs [60],qZs [62],qZs [61],qZs [63],qZs [58],qZs [59],qZs [44],qZs [46],qZs [40],qZs [41],qZs [91],qZs [93],qZs [123],qZs [125]]),(8,iv D)] [Y7 R]) (fun _ _ h=>je h (ad.sE [1])) ?_;rintro E ae K af _ _ O ⟨U,D,J,ag,rfl,V,_⟩;obtain⟨m1,_,rfl,hm,W⟩:=lrE ag ae;refine qN ?_;refine sq2 (cd hm ?_ ?_)<;>intro ai hm
 . refine kE ?_;refine blk (sq2 ?_);obtain⟨u1,ah,hm⟩:=Z8 hm;refine pu ?_;refine pv (r_axi rfl rfl (idx_map (fun z:List UInt8=>(qZs z)) ah) rfl underlying203 sizeOf9 isAgg9) (pn ?_);refine qU ?_;refine cB cf44 hm (Q1g (V.bE [0] [])) ?_;rintro _ _ _ _ _ ⟨rfl,aa,_⟩ hm;refine cd hm ?_ ?_<;>intro aj hm
   . refine qN ?_;have hm:=Q1b hm W af;exact re hm (aa.sE [0])
   exact lg hm W (aa.sE [0])
 exact zr hm V

instance:Ct 54 @Y4m:=⟨@Y4m,cf54⟩
theorem Z7b{p0:List UInt8}(hS:Sep g T0 w0 [Y7 R]):∀r,Z5q p0=some r->
 Cl 30 #[Q23 p0.toArray] w0 (Q90 T0 w0 g R r.1 r.2):=by
 intro r hm;refine eN Tryz.func30 Tryz.ntmps30 fun J=>?_;unfold Z5q at hm;refine sq2 (aL Y6q hS ?_);intro _ E _ ab;refine kE ?_;refine blk (sq2 ?_);obtain⟨u1,ac,hm⟩:=Z8 hm;refine pu ?_;refine pv (Z8l rfl rfl ac underlying9) (cB cf48 hm (Z6a (ab.bE [0,1] [])) ?_);rintro _ _ _ _ _ ⟨rfl,K,_⟩ hm;refine cd hm ?_ ?_<;>intro ak hm
 . refine qU ?_;refine cB cf46 hm (Z3j (K.bE [0,1] [])) ?_;rintro _ _ T2 _ _ ⟨rfl,ae,_⟩ hm;refine pn ?_;refine sq2 ?_;obtain⟨u2,ag,hm⟩:=Z8 hm;refine pu ?_;refine pv (r_ss rfl rfl ⟨_,rfl⟩ ag underlying9) (pv (F0 (by kernel_rfl) rfl (u:= .agg #[iv 1,qZs u2,.int .u32 0,iv 0,iv 0])) (aL Y6q ae ?_));intro _ O _ ah;refine sT 0 ah ?_;intro w5 _ U;refine pn ?_;refine sq2 (sq2 (cd hm ?_ ?_))<;>intro am hm
   . exact zr hm U
   refine pn ?_;refine M8 hm (fun V a W=>∃T3 D,JR (nf 48) g T2 w5 a W T3 (V D=some r) [(2,pt E 0),(5,pt O 0)] [K0 O (X0v D),K0 E Y6q,Y7 R]) (fun V hm=>?_) ?_
   . exact zr hm U
   rintro _ W ⟨T3,D,J,hm,rfl,aj,_⟩;exact zr hm aj
 exact zr hm K

instance:Ct 30 @Z7b:=⟨@Z7b,cf30⟩
theorem Y1p{p0:List UInt8}(hS:Sep g T0 w0 [Y7 R])(hG0:Gi T0 w0 0):∀r,Y4p p0=some r->
 Cl 16 #[Q23 p0.toArray] w0 (K6 T0 w0 fun T w v=>∃a4 n4 c4,v= .tuple #[.slice a4 n4 c4,Q49 r.2.1,iv r.2.2]/\Sep g T w (R++[J6 Q9e 114 (.slice a4 n4 c4) r.1])/\True):=by
 intro r hm;refine eN Tryz.func16 Tryz.ntmps16 fun J=>?_;unfold Y4p at hm;refine sq2 (aL [iv 0,iv 0] hS ?_);intro _ K _ aj;refine kA ?_;refine pv (F0 (by kernel_rfl) rfl (u:= .agg #[iv 1,iv 1])) (pv (F0 (by kernel_rfl) rfl (u:= .agg #[qZs p0,iv 1,iv 1])) (bX [qZs p0,iv 1,iv 1] aj ?_));intro w2 O _ ac;refine pn ?_;refine sq2 (sq2 (cd hm ?_ ?_))<;>intro aK hm
 . refine sq2 (rsS [0,0,0,1,0,2,0] [0,1,2,3,4,5,6] ac fun w3 aN am=>s2W [0] ?_);refine osT 1 am ?_;intro _ _ an;refine pn ?_;have ao:=an.nilO Q9e 114;exact re hm (ao.sE [3,0])
 refine kD ?_;refine sq2 ?_;have ap:=ac.nilO Q9e 114;refine lpJ hm (fun ad o1 m a w5=>∃T1 D W a1 U c1,JR (nf 76) g T0 w2 a w5 T1 (X5 ad m (W,D)=some o1) [(3,pt K 0),(5,pt O 0),(6,.slice a1 U c1)] [J6 Q9e 114 (.slice a1 U c1) W,K0 O (Z5c D),K0 K [iv 0,iv 0],Y7 R]) (fun _ _ h=>je h (ap.sN 0 4)) ?_;rintro ad aq o1 aa _ _ w5 ⟨T1,D,W,a1,U,c1,J,ar,rfl,ah,_⟩;obtain⟨m1,_,rfl,hm,V⟩:=lrE ar aq;refine sq2 (sq2 (cd hm ?_ ?_))<;>intro aP hm
 . refine pn ?_;refine blk (qU ?_);refine cB cf28 hm (Z7c (ah.bE (Z3 0 4) []) (hG0.mono ch)) ?_;rintro _ _ _ _ _ ⟨rfl,ab,_⟩ hm;refine pn ?_;refine sq2 (sq2 (cd hm ?_ ?_))<;>intro aQ hm
   . refine sq2 (rsS [0,0,0,1,0,2,0] [0,1,2,3,4,5,6] ab fun w7 aS au=>s2W [0] ?_);refine osT 2 au ?_;intro _ _ av;refine pn ?_;have aw:=av.nilO Q9e 114;have hm:=Q1b hm V aa;exact re hm (aw.sE [4,0])
   refine pn ?_;refine sq2 (sq2 (cd hm ?_ ?_))<;>intro aT hm
   . exact zr hm ab
   refine kA ?_;refine cB cf30 hm (Z7b (ab.bE (Z3 0 4) [])) ?_;rintro E _ _ _ _ ⟨rfl,ax,_⟩ hm;refine aL Y6q ax ?_;intro _ b3 _ az;refine sT 0 az ?_;intro _ _ ai;refine pn ?_;refine sq2 (sq2 (cd hm ?_ ?_))<;>intro aU hm
   . refine sq2 (rsS [0,0,0,1,0,0,2,0] [0,1,2,3,4,5,6,7] ai fun aV aW aA=>s2W [0] ?_);refine osT 3 aA ?_;intro _ _ aB;refine pu ?_;refine se (K7 [(2,.slice none 0 0),(3,pt K 0),(4,iv E.2)] ⟨rfl,rfl,rfl,qZt⟩ fun J=>?_);have aC:=aB.nilO Q9e 114;have hm:=Q1b hm V aa;exact re hm (aC.sE [5,0])
   refine skp (K7 [(3,pt K 0),(5,pt O 0),(6,.slice a1 U c1),(8,pt b3 0)] ⟨rfl,rfl,rfl,rfl,qZt⟩ fun J=>sq2 (sT 0 ai ?_));intro _ _ aD;refine kE ?_;refine bS (r:=Q9e) (l:=([{E.1 with Pos:=D.pos}]:List U4)) (css:=[[iv E.1.Kind,Q23 E.1.Text.toArray,.int .u32 E.1.Num,iv D.pos.Line,iv D.pos.Col]]) aD ⟨(Y7h (x:={E.1 with Pos:=D.pos}):Q9e.rp _ _ _ _),qZt⟩ ?_;intro _ _ _ c2 _ aE;obtain⟨_,aF,hm⟩:=Z8 hm;refine aO 2 aE (U8 aF) ?_;intro _ _ _ c3 _ aG;refine pn ?_;refine cB cf29 hm (Z0u (aG.bE [2,4,5] [3]) (Q3w O)) ?_;rintro _ _ _ _ _ ⟨rfl,aI,_⟩ hm;exact lg hm V (aI.sE [0,3,1,2])
 have hm:=Q4m hm V aa;refine kE ?_;refine rsS [0,0,0,0,1,0,2,0] [0,1,2,3,4,5,6,7] ah fun aX aY aJ=>?_;have dd:KD [(6,[4])]:=⟨qZt⟩;exact zr hm aJ

instance:Ct 16 @Y1p:=⟨@Y1p,cf16⟩
theorem A6{p0:Z0}(hS:Q39 a1 c1 Z5 T0 g w0 R p0)(Z2:Ln Y0 Z9 Z5)(h1:Q8 a1 c1 T0 w0 p0):∀r,F7 p0=some r->
 Cl 55 #[pt Y0 Z9] w0 (K6 T0 w0 fun T w v=>v= .agg #[iv r.Line,iv r.Col]/\Q96 a1 c1 Z5 T g w R p0):=by
 intro r hm;refine eN Tryz.func55 Tryz.ntmps55 fun J=>?_;unfold F7 at hm;exact zr hm hS

instance:Ct 55 @A6:=⟨@A6,cf55⟩
theorem Z0j{p0:Z0}{p1}{p2:List UInt8}(hS:Q39 a1 c1 Z5 T0 g w0 R p0)(Z2:Ln Y0 Z9 Z5)(h1:Q8 a1 c1 T0 w0 p0):∀r,I4 p0 p1 p2=some r->
 Cl 57 #[pt Y0 Z9,iv p1,Q23 p2.toArray] w0 (K6 T0 w0 fun T w v=>v= .bool r/\Q96 a1 c1 Z5 T g w R p0):=by
 intro r hm;refine eN Tryz.func57 Tryz.ntmps57 fun J=>?_;unfold I4 at hm;exact zr hm hS

instance:Ct 57 @Z0j:=⟨@Z0j,cf57⟩
theorem I1{p0:Z0}{p1:List UInt8}(hS:Q39 a1 c1 Z5 T0 g w0 R p0)(Z2:Ln Y0 Z9 Z5)(h1:Q8 a1 c1 T0 w0 p0):∀r,U5 p0 p1=some r->
 Cl 56 #[pt Y0 Z9,Q23 p1.toArray] w0 (K6 T0 w0 fun T w v=>v= .bool r/\Q96 a1 c1 Z5 T g w R p0):=by
 intro r hm;refine eN Tryz.func56 Tryz.ntmps56 fun J=>?_;unfold U5 at hm;exact zr hm hS

instance:Ct 56 @I1:=⟨@I1,cf56⟩
theorem V3{p0:Z0}{p1:List UInt8}(hS:Q39 a1 c1 Z5 T0 g w0 R p0)(Z2:Ln Y0 Z9 Z5)(h1:Q8 a1 c1 T0 w0 p0):∀r,X7 p0 p1=some r->
 Cl 89 #[pt Y0 Z9,Q23 p1.toArray] w0 (K6 T0 w0 fun T w v=>∃a3 c3,v= .bool r.1/\Q81 a3 c3 Z5 T g w R r.2):=by
 intro r hm;refine eN Tryz.func89 Tryz.ntmps89 fun J=>?_;unfold X7 at hm;exact zr hm hS

instance:Ct 89 @V3:=⟨@V3,Z5k⟩
theorem Z4r{p0:Z0}{p1}(hS:Q39 a1 c1 Z5 T0 g w0 R p0)(Z2:Ln Y0 Z9 Z5)(h1:Q8 a1 c1 T0 w0 p0):∀r,W9 p0 p1=some r->
 Cl 90 #[pt Y0 Z9,iv p1] w0 (exR r (fun r=>K6 T0 w0 fun T w v=>v= .tuple #[]/\Q96 a1 c1 Z5 T g w R p0) (fun r=>H9 T0 w0 fun T w v=>v= .iface 76 (Q26 r.pos r.e)/\Q96 a1 c1 Z5 T g w R p0)):=by
 intro r hm;refine eN Tryz.func90 Tryz.ntmps90 fun J=>?_;unfold W9 at hm;exact zr hm hS

instance:Ct 90 @Z4r:=⟨@Z4r,cf90⟩
theorem V7{p0:Z0}{p1:List UInt8}(hS:Q39 a1 c1 Z5 T0 g w0 R p0)(Z2:Ln Y0 Z9 Z5)(h1:Q8 a1 c1 T0 w0 p0):∀r,X3 p0 p1=some r->
 Cl 58 #[pt Y0 Z9,Q23 p1.toArray] w0 (exR r (fun r=>K6 T0 w0 fun T w v=>∃a3 c3,v= .tuple #[]/\Q81 a3 c3 Z5 T g w R r) (fun r=>H9 T0 w0 (Q4 Z5 g R r.1.pos r.1.e r.2 r.2.l))):=by
 intro r hm;refine eN Tryz.func58 Tryz.ntmps58 fun J=>?_;unfold X3 at hm;exact zr hm hS

instance:Ct 58 @V7:=⟨@V7,Z7e⟩
theorem Z0k{p0:Z0}{p1}(hS:Q39 a1 c1 Z5 T0 g w0 R p0)(Z2:Ln Y0 Z9 Z5)(h1:Q8 a1 c1 T0 w0 p0):∀r,H0 p0 p1=some r->
 Cl 91 #[pt Y0 Z9,iv p1] w0 (exR r (fun r=>K6 T0 w0 fun T w v=>∃a3 c3,v= .agg (X0v r.1).toArray/\Q81 a3 c3 Z5 T g w R r.2) (fun r=>H9 T0 w0 (Q4 Z5 g R r.1.pos r.1.e r.2 r.2.l))):=by
 intro r hm;refine eN Tryz.func91 Tryz.ntmps91 fun J=>?_;unfold H0 at hm;refine sq2 (aL Y6q hS ?_);intro U D _ V;refine pn ?_;refine M8 hm (fun E a K=>∃O,JR (nf 40) g T0 U a K O (E ()=some r) [(0,pt Y0 Z9),(4,pt D 0)] [K0 D Y6q,Y7 R,Q1 a1 c1 Z5 p0]) (fun E hm=>?_) ?_
 . exact zr hm V
 rintro _ K ⟨O,J,hm,rfl,W,_⟩;exact zr hm W

instance:Ct 91 @Z0k:=⟨@Z0k,cf91⟩
theorem P9{p0:Z0}(hS:Q39 a1 c1 Z5 T0 g w0 R p0)(Z2:Ln Y0 Z9 Z5)(h1:Q8 a1 c1 T0 w0 p0):∀r,G7 p0=some r->
 Cl 59 #[pt Y0 Z9] w0 (exR r (fun r=>K6 T0 w0 fun T w v=>∃a4 c4,v=(qZs r.1)/\Q81 a4 c4 Z5 T g w R r.2) (fun r=>H9 T0 w0 (Q4 Z5 g R r.1.pos r.1.e r.2 r.2.l))):=by
 intro r hm;refine eN Tryz.func59 Tryz.ntmps59 fun J=>?_;unfold G7 at hm;exact zr hm hS

instance:Ct 59 @P9:=⟨@P9,cf59⟩
theorem Z0a{p0:Z0}(hS:Q39 a1 c1 Z5 T0 g w0 R p0)(Z2:Ln Y0 Z9 Z5)(h1:Q8 a1 c1 T0 w0 p0):∀r,Q2r p0=some r->
 Cl 93 #[pt Y0 Z9] w0 (K6 T0 w0 fun T w v=>v= .bool r/\Q96 a1 c1 Z5 T g w R p0):=by
 intro r hm;refine eN Tryz.func93 Tryz.ntmps93 fun J=>?_;unfold Q2r at hm;exact zr hm hS

instance:Ct 93 @Z0a:=⟨@Z0a,cf93⟩
theorem F9{p0:Z0}(hS:Q39 a1 c1 Z5 T0 g w0 R p0)(Z2:Ln Y0 Z9 Z5)(h1:Q8 a1 c1 T0 w0 p0):∀r,F3 p0=some r->
 Cl 61 #[pt Y0 Z9] w0 (exR r (fun r=>K6 T0 w0 fun T w v=>∃a8 c8,v= .agg (Z5u r.1).toArray/\Q81 a8 c8 Z5 T g w R r.2) (fun r=>H9 T0 w0 (Q4 Z5 g R r.1.pos r.1.e r.2 r.2.l))):=by
 intro r hm;refine eN Tryz.func61 Tryz.ntmps61 fun J=>?_;unfold F3 at hm;refine sq2 (aL zv12 hS ?_);intro w1 D ao ap;refine pn ?_;refine M8 hm (fun ag a w2=>∃W,JR (nf 38) g T0 w1 a w2 W (ag ()=some r) [(0,pt Y0 Z9),(2,pt D 0)] [K0 D zv12,Y7 R,Q1 a1 c1 Z5 p0]) (fun ag hm=>?_) ?_
 . exact zr hm ap
 rintro _ w2 ⟨W,J,hm,rfl,aq,ar⟩;refine sq2 ?_;obtain⟨u2,_,hm⟩:=Z8 hm;refine pu ?_;refine pv (F0 (by kernel_rfl) rfl (u:= .agg #[qZs u2.Text,qZs [],iv 0])) (aL zv12 aq ?_);intro _ E av aw;refine sT 0 aw ?_;intro _ ax ay;refine pn ?_;refine sq2 ?_;obtain⟨_,ai,hm⟩:=Z8 hm;obtain⟨_,c2,az,h2⟩:=(h1.mono (iT ao (iT ar (iT av ax)))).part ai;refine pu ?_;refine pv (r_slR rfl (mC h1) ⟨_,rfl⟩ rfl ai underlying66 sizeOf114 rfl az) (sB 3 0 Z2 ay ?_);intro w8 _ aB;refine pn ?_;refine M8 hm (fun aj a K=>∃O U x1 a3 c3,JR (nf 38) g W w8 a K O (aj x1 U=some r) [(0,pt Y0 Z9),(2,pt D 0),(3,pt E 0)] [K0 E (Z5u x1),K0 D zv12,Y7 R,Q1 a3 c3 Z5 U]/\Q8 a3 c3 O K U) (fun aj hm=>?_) ?_
 . exact zr hm aB
 rintro _ K ⟨O,U,x1,a3,c3,⟨J,hm,rfl,aC,_⟩,_⟩;refine sq2 (lpJ hm (fun ak o1 m a ac=>∃T8 V x3 a6 c6,JR (nf 38) g O K a ac T8 (X5 ak m (x3,V)=some o1) [(0,pt Y0 Z9),(2,pt D 0),(3,pt E 0)] [K0 E (Z5u x3),K0 D zv12,Y7 R,Q1 a6 c6 Z5 V]/\Q8 a6 c6 T8 ac V) (fun _ _ h=>je h (aC.sN 0 4)) ?_);rintro ak aD o1 _ _ _ ac ⟨T8,V,x3,a6,c6,⟨J,aE,rfl,aF,_⟩,_⟩;obtain⟨m1,_,rfl,hm,_⟩:=lrE aE aD;exact zr hm aF

instance:Ct 61 @F9:=⟨@F9,cf61⟩
theorem Q6l{p0:Z0}(hS:Q39 a1 c1 Z5 T0 g w0 R p0)(Z2:Ln Y0 Z9 Z5)(h1:Q8 a1 c1 T0 w0 p0):∀r,Q4o p0=some r->
 Cl 92 #[pt Y0 Z9] w0 (exR r (fun r=>K6 T0 w0 fun T w v=>∃a11 n4 c11 a12 c12,v= .slice a11 n4 c11/\Sep g T w (R++[Q1 a12 c12 Z5 r.2,J6 (J3 .u32) 33 (.slice a11 n4 c11) r.1])/\Q8 a12 c12 T w r.2/\True) (fun r=>H9 T0 w0 (Q4 Z5 g R r.1.pos r.1.e r.2 r.2.l))):=by
 intro r hm;refine eN Tryz.func92 Tryz.ntmps92 fun J=>?_;unfold Q4o at hm;refine qN ?_;refine qN ?_;refine sq2 ?_;have af:=hS.nilO (J3 .u32) 33;refine lpJ hm (fun aa o1 m a E=>∃K D O U V c2 W c3,JR (nf 15) g T0 w0 a E K (X5 aa m (O,D)=some o1) [(0,pt Y0 Z9),(3,.slice U V c2)] [J6 (J3 .u32) 33 (.slice U V c2) O,Y7 R,Q1 W c3 Z5 D]/\Q8 W c3 K E D) (fun _ _ h=>je h (af.sE [0,1,2])) ?_;rintro aa ag o1 ah _ _ E ⟨K,D,O,U,V,c2,W,c3,⟨J,ai,rfl,aj,_⟩,h2⟩;obtain⟨m1,_,rfl,hm,ac⟩:=lrE ai ag;refine sq2 (qU ?_);refine cB Z5k hm (V3 (aj.bE [0,1] [2]) Z2 h2) ?_;rintro _ _ _ _ _ ⟨_,c4,rfl,ad,h3,_⟩ hm;refine cd hm ?_ ?_<;>intro av hm
 . refine pn ?_;refine blk (qU ?_);refine cP cf91 hm (Z0k (ad.bE [0,1] [2]) Z2 h3) ?_ ?_
   . exact zk
   rintro y2 _ _ _ _ ⟨_,c5,rfl,am,h4,_⟩ hm;refine pv (r_fd1 rfl underlying114 rfl isAgg33 rfl) (bS (r:=(J3 .u32)) (l:=([y2.1.Num]:List Int)) (css:=[[.int .u32 y2.1.Num]]) am ⟨rfl,qZt⟩ ?_);intro _ _ _ c6 _ ao;obtain⟨_,ap,hm⟩:=Z8 hm;refine aO 1 ao (U8 ap) ?_;intro _ _ _ c7 _ aq;refine pn ?_;refine cP Z7e hm (V7 (aq.bE [1,2] [3]) Z2 (mC h4)) ?_ ?_
   . rintro e1 _ _ _ _ ⟨_,c9,rfl,ar,_,_⟩ hm;have hm:=Q1b hm ac ah;exact pe hm (ar.sE [1,2])
   rintro _ _ _ _ _ ⟨_,c8,rfl,au,_,_⟩ hm;exact lg hm ac (au.sE [0,1,2])
 exact zr hm ad

instance:Ct 92 @Q6l:=⟨@Q6l,cf92⟩
theorem Q8y{p0:Z0}(hS:Q39 a1 c1 Z5 T0 g w0 R p0)(Z2:Ln Y0 Z9 Z5)(h1:Q8 a1 c1 T0 w0 p0):∀r,Q4w p0=some r->
 Cl 60 #[pt Y0 Z9] w0 (exR r (fun r=>K6 T0 w0 (Q78 Z5 g R r.2 r.1)) (fun r=>H9 T0 w0 (Q4 Z5 g R r.1.pos r.1.e r.2 r.2.l))):=by
 intro r hm;refine eN Tryz.func60 Tryz.ntmps60 fun J=>?_;unfold Q4w at hm;refine qN ?_;refine qN ?_;refine qU ?_;refine cP Z7e hm (V7 (hS.bE [0] [1]) Z2 h1) ?_ ?_
 . exact zk
 rintro _ _ T1 w1 _ ⟨_,c2,rfl,am,h2,_⟩ hm;refine pn ?_;refine sq2 ?_;have an:=am.nilO Q2y 132;refine lpJ hm (fun ae o1 m a O=>∃U K V W n1 c3 a4 c4,JR (nf 30) g T1 w1 a O U (X5 ae m (V,K)=some o1) [(0,pt Y0 Z9),(3,.slice W n1 c3)] [J6 Q2y 132 (.slice W n1 c3) V,Y7 R,Q1 a4 c4 Z5 K]/\Q8 a4 c4 U O K) (fun _ _ h=>je h (an.sE [0,1,2])) ?_;rintro ae ao o1 ap _ _ O ⟨U,K,V,W,n1,c3,a4,c4,⟨J,aq,rfl,ar,_⟩,h3⟩;obtain⟨m1,_,rfl,hm,ag⟩:=lrE aq ao;refine sq2 (qU ?_);refine cB Z5k hm (V3 (ar.bE [0,1] [2]) Z2 h3) ?_;rintro _ _ _ _ _ ⟨_,c5,rfl,ah,h4,_⟩ hm;refine cd hm ?_ ?_<;>intro aR hm
 . refine pn ?_;refine blk (qU ?_);refine cB cf55 hm (A6 (ah.bE [0,1] [2]) Z2 h4) ?_;rintro E _ _ _ _ ⟨rfl,av,_⟩ hm;refine pu ?_;refine cP cf61 hm (F9 (av.bE [0,1] [2]) Z2 (mC h4)) ?_ ?_
   . exact zk
   rintro D _ _ _ _ ⟨_,c6,rfl,aw,h5,_⟩ hm;refine pv (F0 (by kernel_rfl) rfl (u:= .agg #[iv E.Line,iv E.Col,qZs D.1.Word,qZs D.1.Name,iv D.1.Stars,qZs [],.slice none 0 0,.slice none 0 0,.bool false])) (aL zv4 aw ?_);intro _ _ _ ay;refine sT 0 ay ?_;intro _ _ az;refine kA ?_;refine cP cf59 hm (P9 (az.bE [0,1,2] [3]) Z2 (mC h5)) ?_ ?_
   . exact zk
   rintro y5 _ _ _ _ ⟨_,c7,rfl,aA,h6,_⟩ hm;refine sT 0 aA ?_;intro _ _ aC;refine kA ?_;refine cP cf92 hm (Q6l (aC.bE [0,1,2] [3]) Z2 (mC h6)) ?_ ?_
   . exact zk
   rintro y6 _ T7 _ _ ⟨a8,_,c8,_,c9,rfl,aE,h7,_⟩ hm;refine sT 0 aE ?_;intro _ _ aG;refine kA ?_;refine cP Z7e hm (V7 (aG.bE [0,1,2,4] [3]) Z2 (mC h7)) ?_ ?_
   . rintro e1 _ _ _ _ ⟨_,c13,rfl,aI,_,_⟩ hm;have hm:=Q1b hm ag ap;exact pe hm (aI.sE [2,4])
   rintro _ _ _ _ _ ⟨_,c10,rfl,aJ,_,_⟩ hm;refine pn ?_;obtain⟨_,_,aK,h9,rfl⟩:=aJ.sl 3;refine bS (r:=Q2y) (l:=([(⟨E,D.1,y5.1,y6.1,[],false⟩:M7)]:List M7)) (css:=[[iv E.Line,iv E.Col,Q23 D.1.Word.toArray,Q23 D.1.Name.toArray,iv D.1.Stars,Q23 y5.1.toArray,sv a8 y6.1 c8,.slice none 0 0,.bool false]]) aK ⟨(Y1a (x:=(⟨E,D.1,y5.1,y6.1,[],false⟩:M7)) h9 V0:Q2y.rp _ _ _ _),qZt⟩ ?_;intro _ _ _ c11 _ aN;obtain⟨_,aP,hm⟩:=Z8 hm;refine aO 2 aN (U8 aP) ?_;intro _ _ _ c12 _ aQ;exact lg hm ag (aQ.sE [2,3,5])
 exact zr hm ah

instance:Ct 60 @Q8y:=⟨@Q8y,cf60⟩
theorem O5{p0:Z0}(hS:Q39 a1 c1 Z5 T0 g w0 R p0)(Z2:Ln Y0 Z9 Z5)(h1:Q8 a1 c1 T0 w0 p0):∀r,C7 p0=some r->
 Cl 126 #[pt Y0 Z9] w0 (exR r (fun r=>K6 T0 w0 fun T w v=>∃b2 a2 c2,v= .func (.func 169) #[] #[pt b2 0]/\Sep g T w (R++[Q1 a2 c2 Z5 r,K0 b2 [pt Y0 Z9]])/\Q8 a2 c2 T w r/\True) (fun r=>H9 T0 w0 (Q4 Z5 g R r.1.pos r.1.e r.2 r.2.l))):=by
 intro r hm;refine eN Tryz.func126 Tryz.ntmps126 fun J=>?_;unfold C7 at hm;refine sq2 (bX [pt Y0 Z9] hS ?_);intro U D _ V;refine pv (Y5f (v:= .nilFunc) rfl) (pn ?_);refine M8 hm (fun E a K=>∃O,JR (nf 18) g T0 U a K O (E ()=some r) [(1,pt D 0)] [K0 D [pt Y0 Z9],Y7 R,Q1 a1 c1 Z5 p0]) (fun E hm=>?_) ?_
 . exact zr hm V
 rintro _ K ⟨O,J,hm,rfl,W,_⟩;exact zr hm W

instance:Ct 126 @O5:=⟨@O5,X2t⟩
theorem L6{p0:Z0}(hS:Q39 a1 c1 Z5 T0 g w0 R p0)(Z2:Ln Y0 Z9 Z5)(h1:Q8 a1 c1 T0 w0 p0):∀r,B8 p0=some r->
 Cl 129 #[pt Y0 Z9] w0 (K6 T0 w0 fun T w v=>v=(qZs r)/\Q96 a1 c1 Z5 T g w R p0):=by
 intro r hm;refine eN Tryz.func129 Tryz.ntmps129 fun J=>?_;unfold B8 at hm;exact zr hm hS

instance:Ct 129 @L6:=⟨@L6,Y9m⟩
theorem P8{p0:Z0}{p1}(hS:Q39 a1 c1 Z5 T0 g w0 R p0)(Z2:Ln Y0 Z9 Z5)(h1:Q8 a1 c1 T0 w0 p0):∀r,J9 p0 p1=some r->
 Cl 130 #[pt Y0 Z9,iv p1] w0 (K6 T0 w0 (Q19 Z5 g R r.1 r.2 r.1.Kids)):=by
 intro r hm;refine eN Tryz.func130 Tryz.ntmps130 fun J=>?_;unfold J9 at hm;exact zr hm hS

instance:Ct 130 @P8:=⟨@P8,Y7w⟩
theorem Z6v{p0:List UInt8}(hS:Sep g T0 w0 [Y7 R]):∀r,Z5n p0=some r->
 Cl 192 #[Q23 p0.toArray] w0 (Q38 T0 w0 g R r):=by
 intro r hm;refine eN Tryz.func192 Tryz.ntmps192 fun J=>?_;unfold Z5n at hm;refine qN ?_;refine sq2 (qN ?_);refine blk (sq2 (cd hm ?_ ?_))<;>intro av hm
 . exact sq2 (re hm (hS.sE [0]))
 refine sq2 (cd hm ?_ ?_)<;>intro aw hm
 . exact sq2 (re hm (hS.sE [0]))
 refine sq2 (cd hm ?_ ?_)<;>intro ax hm
 . exact sq2 (re hm (hS.sE [0]))
 refine sq2 (cd hm ?_ ?_)<;>intro ay hm
 . exact sq2 (re hm (hS.sE [0]))
 refine sq2 (cd hm ?_ ?_)<;>intro az hm
 . exact sq2 (re hm (hS.sE [0]))
 refine M8 hm (fun ag a D=>∃E K,JR (nf 32) g T0 w0 a D E (ag K=some r) [(3,(qZs p0)),(14,.bool K)] [Y7 R]) (fun ag hm=>?_) ?_
 . exact zr hm hS
 rintro _ D ⟨E,K,J,hm,rfl,ah,_⟩;refine cd hm ?_ ?_<;>intro aA hm
 . exact sq2 (re hm (ah.sE [0]))
 refine M8 hm (fun ai a O=>∃U V,JR (nf 32) g E D a O U (ai V=some r) [(3,(qZs p0)),(17,.bool V)] [Y7 R]) (fun ai hm=>?_) ?_
 . exact zr hm ah
 rintro _ O ⟨U,V,J,hm,rfl,aj,_⟩;refine cd hm ?_ ?_<;>intro aB hm
 . exact sq2 (re hm (aj.sE [0]))
 refine M8 hm (fun ak a W=>∃T3 x3,JR (nf 32) g U O a W T3 (ak x3=some r) [(3,(qZs p0)),(22,.bool x3)] [Y7 R]) (fun ak hm=>?_) ?_
 . exact zr hm aj
 rintro _ W ⟨T3,x3,J,hm,rfl,am,_⟩;refine cd hm ?_ ?_<;>intro aC hm
 . exact sq2 (re hm (am.sE [0]))
 refine M8 hm (fun an a w4=>∃T4 x4,JR (nf 32) g T3 W a w4 T4 (an x4=some r) [(3,(qZs p0)),(25,.bool x4)] [Y7 R]) (fun an hm=>?_) ?_
 . exact zr hm am
 rintro _ w4 ⟨T4,x4,J,hm,rfl,ao,_⟩;refine cd hm ?_ ?_<;>intro aD hm
 . exact sq2 (re hm (ao.sE [0]))
 refine M8 hm (fun ap a w5=>∃T5 x5,JR (nf 32) g T4 w4 a w5 T5 (ap x5=some r) [(28,.bool x5)] [Y7 R]) (fun ap hm=>?_) ?_
 . exact zr hm ao
 rintro _ w5 ⟨T5,x5,J,hm,rfl,au,_⟩;exact zr hm au

instance:Ct 192 @Z6v:=⟨@Z6v,cf192⟩
theorem Q7n{p0:Z0}(hS:Sep g T0 w0 [Y7 R,Z5 [pt b1 oo1],Q1 a1 c1 H1 p0])(Z2:Ln Y0 Z9 Z5)(hL1:Ln b1 oo1 H1)(h1:Q8 a1 c1 T0 w0 p0):∀r,Z0l p0=some r->
 Cl 169 #[pt Y0 Z9] w0 (K6 T0 w0 fun T w v=>∃a2 c2,v= .tuple #[]/\Sep g T w (R++[Z5 [pt b1 oo1],Q1 a2 c2 H1 r])/\Q8 a2 c2 T w r/\True):=by
 intro r hm;refine eN Tryz.func169 Tryz.ntmps169 fun J=>?_;unfold Z0l at hm;exact zr hm hS

instance:Ct 169 @Q7n:=⟨@Q7n,Q0u⟩
theorem Z4a{p0:List UInt8}(hS:Sep g T0 w0 [Y7 R]):∀r,Z1g p0=some r->
 Cl 128 #[Q23 p0.toArray] w0 (Q25 T0 w0 g R r):=by
 intro r hm;refine eN Tryz.func128 Tryz.ntmps128 fun J=>?_;unfold Z1g at hm;refine qN ?_;refine sq2 (qN ?_);refine blk (M8 hm (fun E a K=>∃O D,JR (nf 16) g T0 w0 a K O (E D=some r) [(4,.bool D)] [Y7 R]) (fun E hm=>?_) ?_)
 . exact zr hm hS
 rintro _ K ⟨O,D,J,hm,rfl,U,_⟩;exact zr hm U
instance:Ct 128 @Z4a:=⟨@Z4a,cf128⟩
end Go.Proofs.YtbfpdnogfkbiaaaGreat
