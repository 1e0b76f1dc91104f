/- That Go functions compute their models. Printed by gen2.py. -/
import Derived.Test.YtfffghclkmbopaaGreatKZed
import Derived.Test.YtfffghclkmbopaaGreatRows
import Derived.Test.YtfffghclkmbopaaGreatKFoc
import Derived.Test.YtfffghclkmbopaaGreatKTree
import Derived.Test.YtfffghclkmbopaaGreatKAuto
import Derived.Test.YtfffghclkmbopaaGreatKAuP
import Derived.Test.YtfffghclkmbopaaGreatKNest
import Derived.Test.YtfffghclkmbopaaGreatKOpt
import Derived.Test.YtfffghclkmbopaaGreatKArr
import Derived.Test.YtfffghclkmbopaaGreatKRcs
import Derived.Test.YtfffghclkmbopaaGreatKH
import Derived.Test.YtfffghclkmbopaaGreatKPan
import Derived.Test.YtfffghclkmbopaaGreatKM
set_option linter.unusedVariables false
namespace Go.Proofs.YtfffghclkmbopaaGreat
abbrev qZs (l:List UInt8):Value := .string ⟨l.toArray⟩
theorem qZt:True:=trivial
open _root_.Go.Proofs.Tryz
set_option maxRecDepth 100000
set_option maxHeartbeats 8000000
attribute [local irreducible] wpList wpQuiet Code.wp
variable {g:World} {T0:Nat→Prop} {w0:World} {R:List Y8}
def Z9y:Rp Pos:=((F1 (E6 .i64) (E6 .i64))).iso fun x=>(x.Line,x.Col)
theorem Q1u {T:Nat→Prop} {w:World} {cs:List Value} {x:Pos} (h:Z9y.rp T w cs x):cs = [.int .i64 x.Line,.int .i64 x.Col]:=by
  obtain⟨_,_,rfl,D,E⟩:=h;cases D;cases E;exact rfl
theorem Q9a {T:Nat→Prop} {w:World} {x:Pos}   : Z9y.rp T w [.int .i64 x.Line,.int .i64 x.Col] x:=⟨_,_,rfl,rfl,rfl⟩
def Z3g:Rp B3:=((F1 Z8l (F1 Z8l (E6 .i64)))).iso fun x=>(x.Word,x.Name,x.Stars)
theorem Q5x {T:Nat→Prop} {w:World} {cs:List Value} {x:B3} (h:Z3g.rp T w cs x):cs = [qZs x.Word,qZs x.Name,.int .i64 x.Stars]:=by
  obtain⟨_,_,rfl,D,E⟩:=h;cases D;obtain⟨_,_,rfl,I,K⟩:=E;cases I;cases K;exact rfl
theorem Z2z {T:Nat→Prop} {w:World} {x:B3}   : Z3g.rp T w [qZs x.Word,qZs x.Name,.int .i64 x.Stars] x:=⟨_,_,rfl,rfl,⟨_,_,rfl,rfl,rfl⟩⟩
def FGExpr (r:Rp Z8):Rp Z8:=((F1 (E6 .i64) (F1 Z9y (F1 Z8l (F1 Z8l (F1 (E6 .u32) (F1 Z3g (rSl r)))))))).iso fun x=>(x.Kind,x.Pos,x.Op,x.Name,x.Num,x.Type_,x.Kids)
def K5:Rp Z8:=rFix FGExpr 10 true (fun _=>rfl)
theorem gGExpr:Z7x FGExpr:=gIso _ (Q1x (gK (E6 .i64)) (Q1x (gK Z9y) (Q1x (gK Z8l) (Q1x (gK Z8l) (Q1x (gK (E6 .u32)) (Q1x (gK Z3g) (gSl gId)))))))
theorem K2 {T:Nat→Prop} {w:World} {cs:List Value} {x:Z8} (h:K5.rp T w cs x) : ∃(a9:Option Addr) (c9:Nat),cs = [.int .i64 x.Kind,.int .i64 x.Pos.Line,.int .i64 x.Pos.Col,qZs x.Op,qZs x.Name,.int .u32 x.Num,qZs x.Type_.Word,qZs x.Type_.Name,.int .i64 x.Type_.Stars,.slice a9 (List.length x.Kids) c9]∧SlR K5 T w (.slice a9 (List.length x.Kids) c9) x.Kids:=by
  have h:=Y2j gGExpr h;obtain⟨_,_,rfl,E,I⟩:=h;cases E;obtain⟨_,_,rfl,K,O⟩:=I;cases Q1u K;obtain⟨_,_,rfl,U,V⟩:=O;cases U;obtain⟨_,_,rfl,W,g4⟩:=V;cases W;obtain⟨_,_,rfl,f5,g5⟩:=g4;cases f5;obtain⟨_,_,rfl,f6,g6⟩:=g5;cases Q5x f6;obtain⟨_,rfl,D⟩:=g6;obtain⟨b7,k7,rfl⟩:=D.shape;exact⟨b7,k7,rfl,D⟩
theorem L8 {T:Nat→Prop} {w:World} {x:Z8} {a9:Option Addr} {c9:Nat} (e0:SlR K5 T w (.slice a9 (List.length x.Kids) c9) x.Kids):K5.rp T w [.int .i64 x.Kind,.int .i64 x.Pos.Line,.int .i64 x.Pos.Col,qZs x.Op,qZs x.Name,.int .u32 x.Num,qZs x.Type_.Word,qZs x.Type_.Name,.int .i64 x.Type_.Stars,.slice a9 (List.length x.Kids) c9] x:=Y7u gGExpr ⟨_,_,rfl,rfl,⟨_,_,rfl,Q9a,⟨_,_,rfl,rfl,⟨_,_,rfl,rfl,⟨_,_,rfl,rfl,⟨_,_,rfl,Z2z,⟨_,rfl,e0⟩⟩⟩⟩⟩⟩⟩
def W2:Rp F2:=((F1 Z9y (F1 Z3g (F1 Z8l (F1 (rSl (E6 .u32)) (F1 (rSl K5) Z2a)))))).iso fun x=>(x.Pos,x.Type_,x.Name,x.Dims,x.Init,x.Brace)
theorem Q5g {T:Nat→Prop} {w:World} {cs:List Value} {x:F2} (h:W2.rp T w cs x) : ∃(a6:Option Addr) (c6:Nat) (a7:Option Addr) (c7:Nat),cs = [.int .i64 x.Pos.Line,.int .i64 x.Pos.Col,qZs x.Type_.Word,qZs x.Type_.Name,.int .i64 x.Type_.Stars,qZs x.Name,.slice a6 (List.length x.Dims) c6,.slice a7 (List.length x.Init) c7,.bool x.Brace]∧SlR (E6 .u32) T w (.slice a6 (List.length x.Dims) c6) x.Dims∧SlR K5 T w (.slice a7 (List.length x.Init) c7) x.Init:=by
  obtain⟨_,_,rfl,I,K⟩:=h;cases Q1u I;obtain⟨_,_,rfl,O,U⟩:=K;cases Q5x O;obtain⟨_,_,rfl,V,W⟩:=U;cases V;obtain⟨_,_,rfl,f4,g4⟩:=W;obtain⟨_,rfl,D⟩:=f4;obtain⟨b5,k5,rfl⟩:=D.shape;obtain⟨_,_,rfl,f6,g6⟩:=g4;obtain⟨_,rfl,E⟩:=f6;obtain⟨b7,k7,rfl⟩:=E.shape;cases g6;exact⟨b5,k5,b7,k7,rfl,D,E⟩
theorem Z3x {T:Nat→Prop} {w:World} {x:F2} {a6:Option Addr} {c6:Nat} {a7:Option Addr} {c7:Nat} (e0:SlR (E6 .u32) T w (.slice a6 (List.length x.Dims) c6) x.Dims) (e1:SlR K5 T w (.slice a7 (List.length x.Init) c7) x.Init):W2.rp T w [.int .i64 x.Pos.Line,.int .i64 x.Pos.Col,qZs x.Type_.Word,qZs x.Type_.Name,.int .i64 x.Type_.Stars,qZs x.Name,.slice a6 (List.length x.Dims) c6,.slice a7 (List.length x.Init) c7,.bool x.Brace] x:=⟨_,_,rfl,Q9a,⟨_,_,rfl,Z2z,⟨_,_,rfl,rfl,⟨_,_,rfl,⟨_,rfl,e0⟩,⟨_,_,rfl,⟨_,rfl,e1⟩,rfl⟩⟩⟩⟩⟩
def Q0a:Rp D4:=((F1 Z9y (F1 Z8l (rSl W2)))).iso fun x=>(x.Pos,x.Name,x.Fields)
theorem Q7b {T:Nat→Prop} {w:World} {cs:List Value} {x:D4} (h:Q0a.rp T w cs x) : ∃(a3:Option Addr) (c3:Nat),cs = [.int .i64 x.Pos.Line,.int .i64 x.Pos.Col,qZs x.Name,.slice a3 (List.length x.Fields) c3]∧SlR W2 T w (.slice a3 (List.length x.Fields) c3) x.Fields:=by
  obtain⟨_,_,rfl,E,I⟩:=h;cases Q1u E;obtain⟨_,_,rfl,K,O⟩:=I;cases K;obtain⟨_,rfl,D⟩:=O;obtain⟨U,V,rfl⟩:=D.shape;exact⟨U,V,rfl,D⟩
theorem Z8n {T:Nat→Prop} {w:World} {x:D4} {a3:Option Addr} {c3:Nat} (e0:SlR W2 T w (.slice a3 (List.length x.Fields) c3) x.Fields):Q0a.rp T w [.int .i64 x.Pos.Line,.int .i64 x.Pos.Col,qZs x.Name,.slice a3 (List.length x.Fields) c3] x:=⟨_,_,rfl,Q9a,⟨_,_,rfl,rfl,⟨_,rfl,e0⟩⟩⟩
def X0z (r:Rp U0):Rp E8:=((F1 Z9y (F1 Z2a (F1 (E6 .u32) (rSl r))))).iso fun x=>(x.Pos,x.Default,x.Num,x.Body)
theorem gFGCase:Z7x X0z:=gIso _ (Q1x (gK Z9y) (Q1x (gK Z2a) (Q1x (gK (E6 .u32)) (gSl gId))))
def FStmt (r:Rp U0):Rp U0:=((F1 (E6 .i64) (F1 Z9y (F1 (rSl K5) (F1 (rSl K5) (F1 (rSl K5) (F1 (rSl W2) (F1 (rSl r) (F1 (rSl r) (rSl (X0z r))))))))))).iso fun x=>(x.Kind,x.Pos,x.A,x.B,x.C,x.Var,x.Body,x.Else,x.Cases)
def Q1e:Rp U0:=rFix FStmt 10 true (fun _=>rfl)
theorem gStmt:Z7x FStmt:=gIso _ (Q1x (gK (E6 .i64)) (Q1x (gK Z9y) (Q1x (gK (rSl K5)) (Q1x (gK (rSl K5)) (Q1x (gK (rSl K5)) (Q1x (gK (rSl W2)) (Q1x (gSl gId) (Q1x (gSl gId) (gSl gFGCase)))))))))
def Q7h:Rp E8:=X0z Q1e
theorem Z3w {T:Nat→Prop} {w:World} {cs:List Value} {x:U0} (h:Q1e.rp T w cs x) : ∃(a3:Option Addr) (c3:Nat) (a4:Option Addr) (c4:Nat) (a5:Option Addr) (c5:Nat) (a6:Option Addr) (c6:Nat) (a7:Option Addr) (c7:Nat) (a8:Option Addr) (c8:Nat) (a9:Option Addr) (c9:Nat),cs = [.int .i64 x.Kind,.int .i64 x.Pos.Line,.int .i64 x.Pos.Col,.slice a3 (List.length x.A) c3,.slice a4 (List.length x.B) c4,.slice a5 (List.length x.C) c5,.slice a6 (List.length x.Var) c6,.slice a7 (List.length x.Body) c7,.slice a8 (List.length x.Else) c8,.slice a9 (List.length x.Cases) c9]∧SlR K5 T w (.slice a3 (List.length x.A) c3) x.A∧SlR K5 T w (.slice a4 (List.length x.B) c4) x.B∧SlR K5 T w (.slice a5 (List.length x.C) c5) x.C∧SlR W2 T w (.slice a6 (List.length x.Var) c6) x.Var∧SlR Q1e T w (.slice a7 (List.length x.Body) c7) x.Body∧SlR Q1e T w (.slice a8 (List.length x.Else) c8) x.Else∧SlR Q7h T w (.slice a9 (List.length x.Cases) c9) x.Cases:=by
  have h:=Y2j gStmt h;obtain⟨_,_,rfl,W,g1⟩:=h;cases W;obtain⟨_,_,rfl,f2,g2⟩:=g1;cases Q1u f2;obtain⟨_,_,rfl,f3,g3⟩:=g2;obtain⟨_,rfl,D⟩:=f3;obtain⟨b4,k4,rfl⟩:=D.shape;obtain⟨_,_,rfl,f5,g5⟩:=g3;obtain⟨_,rfl,E⟩:=f5;obtain⟨b6,k6,rfl⟩:=E.shape;obtain⟨_,_,rfl,f7,g7⟩:=g5;obtain⟨_,rfl,I⟩:=f7;obtain⟨b8,k8,rfl⟩:=I.shape;obtain⟨_,_,rfl,f9,g9⟩:=g7;obtain⟨_,rfl,K⟩:=f9;obtain⟨au,av,rfl⟩:=K.shape;obtain⟨_,_,rfl,aw,ax⟩:=g9;obtain⟨_,rfl,O⟩:=aw;obtain⟨ay,az,rfl⟩:=O.shape;obtain⟨_,_,rfl,aA,aB⟩:=ax;obtain⟨_,rfl,U⟩:=aA;obtain⟨aC,aD,rfl⟩:=U.shape;obtain⟨_,rfl,V⟩:=aB;obtain⟨aE,aF,rfl⟩:=V.shape;exact⟨b4,k4,b6,k6,b8,k8,au,av,ay,az,aC,aD,aE,aF,rfl,D,E,I,K,O,U,V⟩
theorem Y1u {T:Nat→Prop} {w:World} {x:U0} {a3:Option Addr} {c3:Nat} {a4:Option Addr} {c4:Nat} {a5:Option Addr} {c5:Nat} {a6:Option Addr} {c6:Nat} {a7:Option Addr} {c7:Nat} {a8:Option Addr} {c8:Nat} {a9:Option Addr} {c9:Nat} (e0:SlR K5 T w (.slice a3 (List.length x.A) c3) x.A) (e1:SlR K5 T w (.slice a4 (List.length x.B) c4) x.B) (e2:SlR K5 T w (.slice a5 (List.length x.C) c5) x.C) (e3:SlR W2 T w (.slice a6 (List.length x.Var) c6) x.Var) (e4:SlR Q1e T w (.slice a7 (List.length x.Body) c7) x.Body) (e5:SlR Q1e T w (.slice a8 (List.length x.Else) c8) x.Else) (e6:SlR Q7h T w (.slice a9 (List.length x.Cases) c9) x.Cases):Q1e.rp T w [.int .i64 x.Kind,.int .i64 x.Pos.Line,.int .i64 x.Pos.Col,.slice a3 (List.length x.A) c3,.slice a4 (List.length x.B) c4,.slice a5 (List.length x.C) c5,.slice a6 (List.length x.Var) c6,.slice a7 (List.length x.Body) c7,.slice a8 (List.length x.Else) c8,.slice a9 (List.length x.Cases) c9] x:=Y7u gStmt ⟨_,_,rfl,rfl,⟨_,_,rfl,Q9a,⟨_,_,rfl,⟨_,rfl,e0⟩,⟨_,_,rfl,⟨_,rfl,e1⟩,⟨_,_,rfl,⟨_,rfl,e2⟩,⟨_,_,rfl,⟨_,rfl,e3⟩,⟨_,_,rfl,⟨_,rfl,e4⟩,⟨_,_,rfl,⟨_,rfl,e5⟩,⟨_,rfl,e6⟩⟩⟩⟩⟩⟩⟩⟩⟩
theorem Z1z {T:Nat→Prop} {w:World} {cs:List Value} {x:E8} (h:Q7h.rp T w cs x) : ∃(a4:Option Addr) (c4:Nat),cs = [.int .i64 x.Pos.Line,.int .i64 x.Pos.Col,.bool x.Default,.int .u32 x.Num,.slice a4 (List.length x.Body) c4]∧SlR Q1e T w (.slice a4 (List.length x.Body) c4) x.Body:=by
  obtain⟨_,_,rfl,E,I⟩:=h;cases Q1u E;obtain⟨_,_,rfl,K,O⟩:=I;cases K;obtain⟨_,_,rfl,U,V⟩:=O;cases U;obtain⟨_,rfl,D⟩:=V;obtain⟨W,k4,rfl⟩:=D.shape;exact⟨W,k4,rfl,D⟩
theorem Z5k {T:Nat→Prop} {w:World} {x:E8} {a4:Option Addr} {c4:Nat} (e0:SlR Q1e T w (.slice a4 (List.length x.Body) c4) x.Body):Q7h.rp T w [.int .i64 x.Pos.Line,.int .i64 x.Pos.Col,.bool x.Default,.int .u32 x.Num,.slice a4 (List.length x.Body) c4] x:=⟨_,_,rfl,Q9a,⟨_,_,rfl,rfl,⟨_,_,rfl,rfl,⟨_,rfl,e0⟩⟩⟩⟩
def Q4g:Rp P3:=((F1 Z9y (F1 Z3g (F1 Z8l (F1 (rSl W2) (rSl Q1e)))))).iso fun x=>(x.Pos,x.Ret,x.Name,x.Params,x.Body)
theorem Q6e {T:Nat→Prop} {w:World} {cs:List Value} {x:P3} (h:Q4g.rp T w cs x) : ∃(a6:Option Addr) (c6:Nat) (a7:Option Addr) (c7:Nat),cs = [.int .i64 x.Pos.Line,.int .i64 x.Pos.Col,qZs x.Ret.Word,qZs x.Ret.Name,.int .i64 x.Ret.Stars,qZs x.Name,.slice a6 (List.length x.Params) c6,.slice a7 (List.length x.Body) c7]∧SlR W2 T w (.slice a6 (List.length x.Params) c6) x.Params∧SlR Q1e T w (.slice a7 (List.length x.Body) c7) x.Body:=by
  obtain⟨_,_,rfl,I,K⟩:=h;cases Q1u I;obtain⟨_,_,rfl,O,U⟩:=K;cases Q5x O;obtain⟨_,_,rfl,V,W⟩:=U;cases V;obtain⟨_,_,rfl,f4,g4⟩:=W;obtain⟨_,rfl,D⟩:=f4;obtain⟨b5,k5,rfl⟩:=D.shape;obtain⟨_,rfl,E⟩:=g4;obtain⟨b6,k6,rfl⟩:=E.shape;exact⟨b5,k5,b6,k6,rfl,D,E⟩
theorem Z9o {T:Nat→Prop} {w:World} {x:P3} {a6:Option Addr} {c6:Nat} {a7:Option Addr} {c7:Nat} (e0:SlR W2 T w (.slice a6 (List.length x.Params) c6) x.Params) (e1:SlR Q1e T w (.slice a7 (List.length x.Body) c7) x.Body):Q4g.rp T w [.int .i64 x.Pos.Line,.int .i64 x.Pos.Col,qZs x.Ret.Word,qZs x.Ret.Name,.int .i64 x.Ret.Stars,qZs x.Name,.slice a6 (List.length x.Params) c6,.slice a7 (List.length x.Body) c7] x:=⟨_,_,rfl,Q9a,⟨_,_,rfl,Z2z,⟨_,_,rfl,rfl,⟨_,_,rfl,⟨_,rfl,e0⟩,⟨_,rfl,e1⟩⟩⟩⟩⟩
def Y6l:Rp J2:=((F1 (rSl Q0a) (F1 (rSl W2) (rSl Q4g)))).iso fun x=>(x.Structs,x.Globals,x.Funcs)
theorem Z8p {T:Nat→Prop} {w:World} {cs:List Value} {x:J2} (h:Y6l.rp T w cs x) : ∃(a0:Option Addr) (c0:Nat) (a1:Option Addr) (c1:Nat) (a2:Option Addr) (c2:Nat),cs = [.slice a0 (List.length x.Structs) c0,.slice a1 (List.length x.Globals) c1,.slice a2 (List.length x.Funcs) c2]∧SlR Q0a T w (.slice a0 (List.length x.Structs) c0) x.Structs∧SlR W2 T w (.slice a1 (List.length x.Globals) c1) x.Globals∧SlR Q4g T w (.slice a2 (List.length x.Funcs) c2) x.Funcs:=by
  obtain⟨_,_,rfl,I,K⟩:=h;obtain⟨_,rfl,s2⟩:=I;obtain⟨O,k2,rfl⟩:=s2.shape;obtain⟨_,_,rfl,U,V⟩:=K;obtain⟨_,rfl,D⟩:=U;obtain⟨W,k4,rfl⟩:=D.shape;obtain⟨_,rfl,E⟩:=V;obtain⟨b5,k5,rfl⟩:=E.shape;exact⟨O,k2,W,k4,b5,k5,rfl,s2,D,E⟩
theorem Y7k {T:Nat→Prop} {w:World} {x:J2} {a0:Option Addr} {c0:Nat} {a1:Option Addr} {c1:Nat} {a2:Option Addr} {c2:Nat} (e0:SlR Q0a T w (.slice a0 (List.length x.Structs) c0) x.Structs) (e1:SlR W2 T w (.slice a1 (List.length x.Globals) c1) x.Globals) (e2:SlR Q4g T w (.slice a2 (List.length x.Funcs) c2) x.Funcs):Y6l.rp T w [.slice a0 (List.length x.Structs) c0,.slice a1 (List.length x.Globals) c1,.slice a2 (List.length x.Funcs) c2] x:=⟨_,_,rfl,⟨_,rfl,e0⟩,⟨_,_,rfl,⟨_,rfl,e1⟩,⟨_,rfl,e2⟩⟩⟩
def Y3c:Rp B9:=((F1 Z8l Z9y)).iso fun x=>(x.s,x.pos)
theorem Z1i {T:Nat→Prop} {w:World} {cs:List Value} {x:B9} (h:Y3c.rp T w cs x):cs = [qZs x.s,.int .i64 x.pos.Line,.int .i64 x.pos.Col]:=by
  obtain⟨_,_,rfl,D,E⟩:=h;cases D;cases Q1u E;exact rfl
theorem Y4p {T:Nat→Prop} {w:World} {x:B9}   : Y3c.rp T w [qZs x.s,.int .i64 x.pos.Line,.int .i64 x.pos.Col] x:=⟨_,_,rfl,rfl,Q9a⟩
def Q6n:Rp V0:=((F1 (E6 .i64) (F1 Z8l (F1 (E6 .u32) Z9y)))).iso fun x=>(x.Kind,x.Text,x.Num,x.Pos)
theorem Z6h {T:Nat→Prop} {w:World} {cs:List Value} {x:V0} (h:Q6n.rp T w cs x):cs = [.int .i64 x.Kind,qZs x.Text,.int .u32 x.Num,.int .i64 x.Pos.Line,.int .i64 x.Pos.Col]:=by
  obtain⟨_,_,rfl,D,E⟩:=h;cases D;obtain⟨_,_,rfl,I,K⟩:=E;cases I;obtain⟨_,_,rfl,O,U⟩:=K;cases O;cases Q1u U;exact rfl
theorem Y4r {T:Nat→Prop} {w:World} {x:V0}   : Q6n.rp T w [.int .i64 x.Kind,qZs x.Text,.int .u32 x.Num,.int .i64 x.Pos.Line,.int .i64 x.Pos.Col] x:=⟨_,_,rfl,rfl,⟨_,_,rfl,rfl,⟨_,_,rfl,rfl,Q9a⟩⟩⟩
def Y3b:Rp Z0:=((F1 (rSl Q6n) (F1 Z9y (E6 .i64)))).iso fun x=>(x.l,x.end_,x.depth)
theorem Z5i {T:Nat→Prop} {w:World} {cs:List Value} {x:Z0} (h:Y3b.rp T w cs x) : ∃(a0:Option Addr) (c0:Nat),cs = [.slice a0 (List.length x.l) c0,.int .i64 x.end_.Line,.int .i64 x.end_.Col,.int .i64 x.depth]∧SlR Q6n T w (.slice a0 (List.length x.l) c0) x.l:=by
  obtain⟨_,_,rfl,D,E⟩:=h;obtain⟨_,rfl,s2⟩:=D;obtain⟨I,k2,rfl⟩:=s2.shape;obtain⟨_,_,rfl,K,O⟩:=E;cases Q1u K;cases O;exact⟨I,k2,rfl,s2⟩
theorem Y4o {T:Nat→Prop} {w:World} {x:Z0} {a0:Option Addr} {c0:Nat} (e0:SlR Q6n T w (.slice a0 (List.length x.l) c0) x.l):Y3b.rp T w [.slice a0 (List.length x.l) c0,.int .i64 x.end_.Line,.int .i64 x.end_.Col,.int .i64 x.depth] x:=⟨_,_,rfl,⟨_,rfl,e0⟩,⟨_,_,rfl,Q9a,rfl⟩⟩
def Y1t:Rp Y0:=((F1 Z9y (E6 .i64))).iso fun x=>(x.pos,x.e)
theorem Z0o {T:Nat→Prop} {w:World} {cs:List Value} {x:Y0} (h:Y1t.rp T w cs x):cs = [.int .i64 x.pos.Line,.int .i64 x.pos.Col,.int .i64 x.e]:=by
  obtain⟨_,_,rfl,D,E⟩:=h;cases Q1u D;cases E;exact rfl
theorem Y3o {T:Nat→Prop} {w:World} {x:Y0}   : Y1t.rp T w [.int .i64 x.pos.Line,.int .i64 x.pos.Col,.int .i64 x.e] x:=⟨_,_,rfl,Q9a,rfl⟩
def Q0i:Rp Q7l:=((F1 Z8l (F1 (E6 .i64) (F1 (E6 .i64) (E6 .i64))))).iso fun x=>(x.Name,x.Size,x.Align,x.Cell)
theorem Z8o {T:Nat→Prop} {w:World} {cs:List Value} {x:Q7l} (h:Q0i.rp T w cs x):cs = [qZs x.Name,.int .i64 x.Size,.int .i64 x.Align,.int .i64 x.Cell]:=by
  obtain⟨_,_,rfl,D,E⟩:=h;cases D;obtain⟨_,_,rfl,I,K⟩:=E;cases I;obtain⟨_,_,rfl,O,U⟩:=K;cases O;cases U;exact rfl
theorem Y2t {T:Nat→Prop} {w:World} {x:Q7l}   : Q0i.rp T w [qZs x.Name,.int .i64 x.Size,.int .i64 x.Align,.int .i64 x.Cell] x:=⟨_,_,rfl,rfl,⟨_,_,rfl,rfl,⟨_,_,rfl,rfl,rfl⟩⟩⟩
def FGTerm (r:Rp Y4):Rp Y4:=((F1 (E6 .i64) (F1 (E6 .i64) (F1 (E6 .u32) (F1 (E6 .i64) (F1 Z2a (F1 (E6 .i64) (F1 Z2a (F1 Z2a (rSl r)))))))))).iso fun x=>(x.Kind,x.Fn,x.Num,x.Var,x.Global,x.Size,x.Post,x.Ptr,x.Kids)
def X2:Rp Y4:=rFix FGTerm 9 true (fun _=>rfl)
theorem gGTerm:Z7x FGTerm:=gIso _ (Q1x (gK (E6 .i64)) (Q1x (gK (E6 .i64)) (Q1x (gK (E6 .u32)) (Q1x (gK (E6 .i64)) (Q1x (gK Z2a) (Q1x (gK (E6 .i64)) (Q1x (gK Z2a) (Q1x (gK Z2a) (gSl gId)))))))))
theorem Q9w {T:Nat→Prop} {w:World} {cs:List Value} {x:Y4} (h:X2.rp T w cs x) : ∃(a8:Option Addr) (c8:Nat),cs = [.int .i64 x.Kind,.int .i64 x.Fn,.int .u32 x.Num,.int .i64 x.Var,.bool x.Global,.int .i64 x.Size,.bool x.Post,.bool x.Ptr,.slice a8 (List.length x.Kids) c8]∧SlR X2 T w (.slice a8 (List.length x.Kids) c8) x.Kids:=by
  have h:=Y2j gGTerm h;obtain⟨_,_,rfl,E,I⟩:=h;cases E;obtain⟨_,_,rfl,K,O⟩:=I;cases K;obtain⟨_,_,rfl,U,V⟩:=O;cases U;obtain⟨_,_,rfl,W,g4⟩:=V;cases W;obtain⟨_,_,rfl,f5,g5⟩:=g4;cases f5;obtain⟨_,_,rfl,f6,g6⟩:=g5;cases f6;obtain⟨_,_,rfl,f7,g7⟩:=g6;cases f7;obtain⟨_,_,rfl,f8,g8⟩:=g7;cases f8;obtain⟨_,rfl,D⟩:=g8;obtain⟨b9,k9,rfl⟩:=D.shape;exact⟨b9,k9,rfl,D⟩
theorem X6 {T:Nat→Prop} {w:World} {x:Y4} {a8:Option Addr} {c8:Nat} (e0:SlR X2 T w (.slice a8 (List.length x.Kids) c8) x.Kids):X2.rp T w [.int .i64 x.Kind,.int .i64 x.Fn,.int .u32 x.Num,.int .i64 x.Var,.bool x.Global,.int .i64 x.Size,.bool x.Post,.bool x.Ptr,.slice a8 (List.length x.Kids) c8] x:=Y7u gGTerm ⟨_,_,rfl,rfl,⟨_,_,rfl,rfl,⟨_,_,rfl,rfl,⟨_,_,rfl,rfl,⟨_,_,rfl,rfl,⟨_,_,rfl,rfl,⟨_,_,rfl,rfl,⟨_,_,rfl,rfl,⟨_,rfl,e0⟩⟩⟩⟩⟩⟩⟩⟩⟩
def Y8h (r:Rp U6):Rp Q8c:=((F1 Z2a (F1 (E6 .u32) (rSl r)))).iso fun x=>(x.Default,x.Num,x.Body)
theorem gFChoice:Z7x Y8h:=gIso _ (Q1x (gK Z2a) (Q1x (gK (E6 .u32)) (gSl gId)))
def FGAct (r:Rp U6):Rp U6:=((F1 (E6 .i64) (F1 (rSl X2) (F1 (rSl X2) (F1 Z2a (F1 (rSl r) (F1 (rSl r) (F1 (rSl (Y8h r)) (E6 .i64))))))))).iso fun x=>(x.Kind,x.A,x.Post,x.First,x.Body,x.Else,x.Cases,x.Var)
def B7:Rp U6:=rFix FGAct 8 true (fun _=>rfl)
theorem gGAct:Z7x FGAct:=gIso _ (Q1x (gK (E6 .i64)) (Q1x (gK (rSl X2)) (Q1x (gK (rSl X2)) (Q1x (gK Z2a) (Q1x (gSl gId) (Q1x (gSl gId) (Q1x (gSl gFChoice) (gK (E6 .i64)))))))))
def Q5r:Rp Q8c:=Y8h B7
theorem Z6i {T:Nat→Prop} {w:World} {cs:List Value} {x:U6} (h:B7.rp T w cs x) : ∃(a1:Option Addr) (c1:Nat) (a2:Option Addr) (c2:Nat) (a4:Option Addr) (c4:Nat) (a5:Option Addr) (c5:Nat) (a6:Option Addr) (c6:Nat),cs = [.int .i64 x.Kind,.slice a1 (List.length x.A) c1,.slice a2 (List.length x.Post) c2,.bool x.First,.slice a4 (List.length x.Body) c4,.slice a5 (List.length x.Else) c5,.slice a6 (List.length x.Cases) c6,.int .i64 x.Var]∧SlR X2 T w (.slice a1 (List.length x.A) c1) x.A∧SlR X2 T w (.slice a2 (List.length x.Post) c2) x.Post∧SlR B7 T w (.slice a4 (List.length x.Body) c4) x.Body∧SlR B7 T w (.slice a5 (List.length x.Else) c5) x.Else∧SlR Q5r T w (.slice a6 (List.length x.Cases) c6) x.Cases:=by
  have h:=Y2j gGAct h;obtain⟨_,_,rfl,U,V⟩:=h;cases U;obtain⟨_,_,rfl,W,g2⟩:=V;obtain⟨_,rfl,D⟩:=W;obtain⟨b3,k3,rfl⟩:=D.shape;obtain⟨_,_,rfl,f4,g4⟩:=g2;obtain⟨_,rfl,E⟩:=f4;obtain⟨b5,k5,rfl⟩:=E.shape;obtain⟨_,_,rfl,f6,g6⟩:=g4;cases f6;obtain⟨_,_,rfl,f7,g7⟩:=g6;obtain⟨_,rfl,I⟩:=f7;obtain⟨b8,k8,rfl⟩:=I.shape;obtain⟨_,_,rfl,f9,g9⟩:=g7;obtain⟨_,rfl,K⟩:=f9;obtain⟨aq,ar,rfl⟩:=K.shape;obtain⟨_,_,rfl,au,av⟩:=g9;obtain⟨_,rfl,O⟩:=au;obtain⟨aw,ax,rfl⟩:=O.shape;cases av;exact⟨b3,k3,b5,k5,b8,k8,aq,ar,aw,ax,rfl,D,E,I,K,O⟩
theorem Q0b {T:Nat→Prop} {w:World} {x:U6} {a1:Option Addr} {c1:Nat} {a2:Option Addr} {c2:Nat} {a4:Option Addr} {c4:Nat} {a5:Option Addr} {c5:Nat} {a6:Option Addr} {c6:Nat} (e0:SlR X2 T w (.slice a1 (List.length x.A) c1) x.A) (e1:SlR X2 T w (.slice a2 (List.length x.Post) c2) x.Post) (e2:SlR B7 T w (.slice a4 (List.length x.Body) c4) x.Body) (e3:SlR B7 T w (.slice a5 (List.length x.Else) c5) x.Else) (e4:SlR Q5r T w (.slice a6 (List.length x.Cases) c6) x.Cases):B7.rp T w [.int .i64 x.Kind,.slice a1 (List.length x.A) c1,.slice a2 (List.length x.Post) c2,.bool x.First,.slice a4 (List.length x.Body) c4,.slice a5 (List.length x.Else) c5,.slice a6 (List.length x.Cases) c6,.int .i64 x.Var] x:=Y7u gGAct ⟨_,_,rfl,rfl,⟨_,_,rfl,⟨_,rfl,e0⟩,⟨_,_,rfl,⟨_,rfl,e1⟩,⟨_,_,rfl,rfl,⟨_,_,rfl,⟨_,rfl,e2⟩,⟨_,_,rfl,⟨_,rfl,e3⟩,⟨_,_,rfl,⟨_,rfl,e4⟩,rfl⟩⟩⟩⟩⟩⟩⟩
theorem Y1v {T:Nat→Prop} {w:World} {cs:List Value} {x:Q8c} (h:Q5r.rp T w cs x) : ∃(a2:Option Addr) (c2:Nat),cs = [.bool x.Default,.int .u32 x.Num,.slice a2 (List.length x.Body) c2]∧SlR B7 T w (.slice a2 (List.length x.Body) c2) x.Body:=by
  obtain⟨_,_,rfl,E,I⟩:=h;cases E;obtain⟨_,_,rfl,K,O⟩:=I;cases K;obtain⟨_,rfl,D⟩:=O;obtain⟨U,V,rfl⟩:=D.shape;exact⟨U,V,rfl,D⟩
theorem Y0t {T:Nat→Prop} {w:World} {x:Q8c} {a2:Option Addr} {c2:Nat} (e0:SlR B7 T w (.slice a2 (List.length x.Body) c2) x.Body):Q5r.rp T w [.bool x.Default,.int .u32 x.Num,.slice a2 (List.length x.Body) c2] x:=⟨_,_,rfl,rfl,⟨_,_,rfl,rfl,⟨_,rfl,e0⟩⟩⟩
def Q5y:Rp Q4d:=((F1 Z8l (F1 Z2a (F1 (E6 .i64) (F1 (rSl Q0i) (rSl B7)))))).iso fun x=>(x.Name,x.Void,x.Params,x.Slots,x.Body)
theorem Q9x {T:Nat→Prop} {w:World} {cs:List Value} {x:Q4d} (h:Q5y.rp T w cs x) : ∃(a3:Option Addr) (c3:Nat) (a4:Option Addr) (c4:Nat),cs = [qZs x.Name,.bool x.Void,.int .i64 x.Params,.slice a3 (List.length x.Slots) c3,.slice a4 (List.length x.Body) c4]∧SlR Q0i T w (.slice a3 (List.length x.Slots) c3) x.Slots∧SlR B7 T w (.slice a4 (List.length x.Body) c4) x.Body:=by
  obtain⟨_,_,rfl,I,K⟩:=h;cases I;obtain⟨_,_,rfl,O,U⟩:=K;cases O;obtain⟨_,_,rfl,V,W⟩:=U;cases V;obtain⟨_,_,rfl,f4,g4⟩:=W;obtain⟨_,rfl,D⟩:=f4;obtain⟨b5,k5,rfl⟩:=D.shape;obtain⟨_,rfl,E⟩:=g4;obtain⟨b6,k6,rfl⟩:=E.shape;exact⟨b5,k5,b6,k6,rfl,D,E⟩
theorem Z5j {T:Nat→Prop} {w:World} {x:Q4d} {a3:Option Addr} {c3:Nat} {a4:Option Addr} {c4:Nat} (e0:SlR Q0i T w (.slice a3 (List.length x.Slots) c3) x.Slots) (e1:SlR B7 T w (.slice a4 (List.length x.Body) c4) x.Body):Q5y.rp T w [qZs x.Name,.bool x.Void,.int .i64 x.Params,.slice a3 (List.length x.Slots) c3,.slice a4 (List.length x.Body) c4] x:=⟨_,_,rfl,rfl,⟨_,_,rfl,rfl,⟨_,_,rfl,rfl,⟨_,_,rfl,⟨_,rfl,e0⟩,⟨_,rfl,e1⟩⟩⟩⟩⟩
def rGUnit:Rp Z2u:=((F1 (rSl Q0i) (F1 (rSl (rSl (E6 .u8))) (F1 (rSl Q5y) (E6 .i64))))).iso fun x=>(x.Globals,x.Data,x.Codes,x.Main)
theorem Y3d {T:Nat→Prop} {w:World} {cs:List Value} {x:Z2u} (h:rGUnit.rp T w cs x) : ∃(a0:Option Addr) (c0:Nat) (a1:Option Addr) (c1:Nat) (a2:Option Addr) (c2:Nat),cs = [.slice a0 (List.length x.Globals) c0,.slice a1 (List.length x.Data) c1,.slice a2 (List.length x.Codes) c2,.int .i64 x.Main]∧SlR Q0i T w (.slice a0 (List.length x.Globals) c0) x.Globals∧SlR (rSl (E6 .u8)) T w (.slice a1 (List.length x.Data) c1) x.Data∧SlR Q5y T w (.slice a2 (List.length x.Codes) c2) x.Codes:=by
  obtain⟨_,_,rfl,I,K⟩:=h;obtain⟨_,rfl,s2⟩:=I;obtain⟨O,k2,rfl⟩:=s2.shape;obtain⟨_,_,rfl,U,V⟩:=K;obtain⟨_,rfl,D⟩:=U;obtain⟨W,k4,rfl⟩:=D.shape;obtain⟨_,_,rfl,f5,g5⟩:=V;obtain⟨_,rfl,E⟩:=f5;obtain⟨b6,k6,rfl⟩:=E.shape;cases g5;exact⟨O,k2,W,k4,b6,k6,rfl,s2,D,E⟩
theorem X1z {T:Nat→Prop} {w:World} {x:Z2u} {a0:Option Addr} {c0:Nat} {a1:Option Addr} {c1:Nat} {a2:Option Addr} {c2:Nat} (e0:SlR Q0i T w (.slice a0 (List.length x.Globals) c0) x.Globals) (e1:SlR (rSl (E6 .u8)) T w (.slice a1 (List.length x.Data) c1) x.Data) (e2:SlR Q5y T w (.slice a2 (List.length x.Codes) c2) x.Codes):rGUnit.rp T w [.slice a0 (List.length x.Globals) c0,.slice a1 (List.length x.Data) c1,.slice a2 (List.length x.Codes) c2,.int .i64 x.Main] x:=⟨_,_,rfl,⟨_,rfl,e0⟩,⟨_,_,rfl,⟨_,rfl,e1⟩,⟨_,_,rfl,⟨_,rfl,e2⟩,rfl⟩⟩⟩
def Q1v:Rp U8:=((F1 Z8l (F1 (E6 .i64) (E6 .i64)))).iso fun x=>(x.Name,x.Type_,x.At)
theorem Z3a {T:Nat→Prop} {w:World} {cs:List Value} {x:U8} (h:Q1v.rp T w cs x):cs = [qZs x.Name,.int .i64 x.Type_,.int .i64 x.At]:=by
  obtain⟨_,_,rfl,D,E⟩:=h;cases D;obtain⟨_,_,rfl,I,K⟩:=E;cases I;cases K;exact rfl
theorem Y0s {T:Nat→Prop} {w:World} {x:U8}   : Q1v.rp T w [qZs x.Name,.int .i64 x.Type_,.int .i64 x.At] x:=⟨_,_,rfl,rfl,⟨_,_,rfl,rfl,rfl⟩⟩
def X0l:Rp Q6f:=((F1 (E6 .i64) (F1 (E6 .i64) (F1 (E6 .i64) (F1 Z8l (rSl Q1v)))))).iso fun x=>(x.Kind,x.Elem,x.Len,x.Name,x.Fields)
theorem Z8m {T:Nat→Prop} {w:World} {cs:List Value} {x:Q6f} (h:X0l.rp T w cs x) : ∃(a4:Option Addr) (c4:Nat),cs = [.int .i64 x.Kind,.int .i64 x.Elem,.int .i64 x.Len,qZs x.Name,.slice a4 (List.length x.Fields) c4]∧SlR Q1v T w (.slice a4 (List.length x.Fields) c4) x.Fields:=by
  obtain⟨_,_,rfl,E,I⟩:=h;cases E;obtain⟨_,_,rfl,K,O⟩:=I;cases K;obtain⟨_,_,rfl,U,V⟩:=O;cases U;obtain⟨_,_,rfl,W,g4⟩:=V;cases W;obtain⟨_,rfl,D⟩:=g4;obtain⟨b5,k5,rfl⟩:=D.shape;exact⟨b5,k5,rfl,D⟩
theorem Y6k {T:Nat→Prop} {w:World} {x:Q6f} {a4:Option Addr} {c4:Nat} (e0:SlR Q1v T w (.slice a4 (List.length x.Fields) c4) x.Fields):X0l.rp T w [.int .i64 x.Kind,.int .i64 x.Elem,.int .i64 x.Len,qZs x.Name,.slice a4 (List.length x.Fields) c4] x:=⟨_,_,rfl,rfl,⟨_,_,rfl,rfl,⟨_,_,rfl,rfl,⟨_,_,rfl,rfl,⟨_,rfl,e0⟩⟩⟩⟩⟩
def E5:Rp U4:=((F1 X0l (F1 (E6 .i64) (F1 (E6 .i64) Z2a)))).iso fun x=>(x.Type_,x.size,x.align,x.open_)
theorem C6 {T:Nat→Prop} {w:World} {cs:List Value} {x:U4} (h:E5.rp T w cs x) : ∃(a4:Option Addr) (c4:Nat),cs = [.int .i64 x.Type_.Kind,.int .i64 x.Type_.Elem,.int .i64 x.Type_.Len,qZs x.Type_.Name,.slice a4 (List.length x.Type_.Fields) c4,.int .i64 x.size,.int .i64 x.align,.bool x.open_]∧SlR Q1v T w (.slice a4 (List.length x.Type_.Fields) c4) x.Type_.Fields:=by
  obtain⟨_,_,rfl,D,E⟩:=h;obtain⟨I,k2,rfl,s2⟩:=Z8m D;obtain⟨_,_,rfl,K,O⟩:=E;cases K;obtain⟨_,_,rfl,U,V⟩:=O;cases U;cases V;exact⟨I,k2,rfl,s2⟩
theorem Q1g {T:Nat→Prop} {w:World} {x:U4} {a4:Option Addr} {c4:Nat} (e0:SlR Q1v T w (.slice a4 (List.length x.Type_.Fields) c4) x.Type_.Fields):E5.rp T w [.int .i64 x.Type_.Kind,.int .i64 x.Type_.Elem,.int .i64 x.Type_.Len,qZs x.Type_.Name,.slice a4 (List.length x.Type_.Fields) c4,.int .i64 x.size,.int .i64 x.align,.bool x.open_] x:=⟨_,_,rfl,(Y6k e0),⟨_,_,rfl,rfl,⟨_,_,rfl,rfl,rfl⟩⟩⟩
def Y4q:Rp Z6:=((rSl E5)).iso fun x=>x.list
theorem Z7f {T:Nat→Prop} {w:World} {cs:List Value} {x:Z6} (h:Y4q.rp T w cs x) : ∃(a0:Option Addr) (c0:Nat),cs = [.slice a0 (List.length x.list) c0]∧SlR E5 T w (.slice a0 (List.length x.list) c0) x.list:=by
  obtain⟨_,rfl,s1⟩:=h;obtain⟨D,k1,rfl⟩:=s1.shape;exact⟨D,k1,rfl,s1⟩
theorem Y5t {T:Nat→Prop} {w:World} {x:Z6} {a0:Option Addr} {c0:Nat} (e0:SlR E5 T w (.slice a0 (List.length x.list) c0) x.list):Y4q.rp T w [.slice a0 (List.length x.list) c0] x:=⟨_,rfl,e0⟩
def Q2g:Rp M2:=((F1 (E6 .i64) (rSl (E6 .i64)))).iso fun x=>(x.ret,x.params)
theorem Q2f {T:Nat→Prop} {w:World} {cs:List Value} {x:M2} (h:Q2g.rp T w cs x) : ∃(a1:Option Addr) (c1:Nat),cs = [.int .i64 x.ret,.slice a1 (List.length x.params) c1]∧SlR (E6 .i64) T w (.slice a1 (List.length x.params) c1) x.params:=by
  obtain⟨_,_,rfl,D,E⟩:=h;cases D;obtain⟨_,rfl,s2⟩:=E;obtain⟨I,k2,rfl⟩:=s2.shape;exact⟨I,k2,rfl,s2⟩
theorem Z5a {T:Nat→Prop} {w:World} {x:M2} {a1:Option Addr} {c1:Nat} (e0:SlR (E6 .i64) T w (.slice a1 (List.length x.params) c1) x.params):Q2g.rp T w [.int .i64 x.ret,.slice a1 (List.length x.params) c1] x:=⟨_,_,rfl,rfl,⟨_,rfl,e0⟩⟩
def Y3e:Rp Z7:=((F1 (E6 .i64) (F1 X2 Z2a))).iso fun x=>(x.n,x.term,x.lies)
theorem Z5l {T:Nat→Prop} {w:World} {cs:List Value} {x:Z7} (h:Y3e.rp T w cs x) : ∃(a9:Option Addr) (c9:Nat),cs = [.int .i64 x.n,.int .i64 x.term.Kind,.int .i64 x.term.Fn,.int .u32 x.term.Num,.int .i64 x.term.Var,.bool x.term.Global,.int .i64 x.term.Size,.bool x.term.Post,.bool x.term.Ptr,.slice a9 (List.length x.term.Kids) c9,.bool x.lies]∧SlR X2 T w (.slice a9 (List.length x.term.Kids) c9) x.term.Kids:=by
  obtain⟨_,_,rfl,D,E⟩:=h;cases D;obtain⟨_,_,rfl,I,K⟩:=E;obtain⟨O,U,rfl,V⟩:=Q9w I;cases K;exact⟨O,U,rfl,V⟩
theorem Y4s {T:Nat→Prop} {w:World} {x:Z7} {a9:Option Addr} {c9:Nat} (e0:SlR X2 T w (.slice a9 (List.length x.term.Kids) c9) x.term.Kids):Y3e.rp T w [.int .i64 x.n,.int .i64 x.term.Kind,.int .i64 x.term.Fn,.int .u32 x.term.Num,.int .i64 x.term.Var,.bool x.term.Global,.int .i64 x.term.Size,.bool x.term.Post,.bool x.term.Ptr,.slice a9 (List.length x.term.Kids) c9,.bool x.lies] x:=⟨_,_,rfl,rfl,⟨_,_,rfl,(X6 e0),rfl⟩⟩
def Y0j:Rp Z3:=((F1 Z9y (E6 .i64))).iso fun x=>(x.pos,x.e)
theorem Q9l {T:Nat→Prop} {w:World} {cs:List Value} {x:Z3} (h:Y0j.rp T w cs x):cs = [.int .i64 x.pos.Line,.int .i64 x.pos.Col,.int .i64 x.e]:=by
  obtain⟨_,_,rfl,D,E⟩:=h;cases Q1u D;cases E;exact rfl
theorem Y2u {T:Nat→Prop} {w:World} {x:Z3}   : Y0j.rp T w [.int .i64 x.pos.Line,.int .i64 x.pos.Col,.int .i64 x.e] x:=⟨_,_,rfl,Q9a,rfl⟩
def Z7h:En (Option (List ((List UInt8)×Int))) where
  sz:=1
  A:=fun x cs=>exA fun t:(Option Nat)=>pA (cs = [.map (t)]) (Y5 [Z6k Z6p (Value.int .i64) (.map (t)) x])
  len:=fun h=>by obtain⟨t,h,_⟩:=h; subst h; rfl
  one:=fun h c hc=>by obtain⟨t,h,_⟩:=h; subst h; exact(List.all_eq_true (p:=Value.oneCell')).1 rfl c hc
def V6:En (G5) where
  sz:=6
  A:=fun x cs=>exA fun t:(Option Addr)×Nat×Nat×(Option Addr)×Nat×Nat×(Option Addr)×Nat×Nat=>pA (cs = [.int .i64 x.ret,.slice (t.1) (t.2.1) (t.2.2.1),.slice (t.2.2.2.1) (t.2.2.2.2.1) (t.2.2.2.2.2.1),.slice (t.2.2.2.2.2.2.1) (t.2.2.2.2.2.2.2.1) (t.2.2.2.2.2.2.2.2),.int .i64 x.loops,.int .i64 x.breaks]) (Y5 [K3 Q0i 49 (.slice (t.1) (t.2.1) (t.2.2.1)) x.slots,K3 (E6 .i64) 3 (.slice (t.2.2.2.1) (t.2.2.2.2.1) (t.2.2.2.2.2.1)) x.types,Z0p Z7h 67 (.slice (t.2.2.2.2.2.2.1) (t.2.2.2.2.2.2.2.1) (t.2.2.2.2.2.2.2.2)) x.scopes])
  len:=fun h=>by obtain⟨t,h,_⟩:=h; subst h; rfl
  one:=fun h c hc=>by obtain⟨t,h,_⟩:=h; subst h; exact(List.all_eq_true (p:=Value.oneCell')).1 rfl c hc
abbrev Z3j (p:J2) (H1:List Value→Y8) (a1:Option Addr) (n1:Nat) (c1:Nat) (a2:Option Addr) (n2:Nat) (c2:Nat) (a3:Option Addr) (n3:Nat) (c3:Nat):List Y8 := [H1 [.slice a1 n1 c1,.slice a2 n2 c2,.slice a3 n3 c3],K3 Q0a 79 (.slice a1 n1 c1) p.Structs,K3 W2 86 (.slice a2 n2 c2) p.Globals,K3 Q4g 92 (.slice a3 n3 c3) p.Funcs]
abbrev X0 (p:Q0) (H1 H2:List Value→Y8) (b1:Nat) (o1:Nat) (a1:Option Addr) (n1:Nat) (c1:Nat) (a2:Option Addr) (n2:Nat) (c2:Nat) (a3:Option Addr) (n3:Nat) (c3:Nat) (a4:Option Addr) (n4:Nat) (c4:Nat) (r1:Option Nat) (r2:Option Nat) (a5:Option Addr) (n5:Nat) (c5:Nat) (a6:Option Addr) (n6:Nat) (c6:Nat) (pv1:Value):List Y8 := [H1 [.pointer (some ⟨b1,o1,none⟩),.slice a2 n2 c2,.slice a3 n3 c3,.slice a4 n4 c4,.int .i64 p.u.Main,.map r1,.map r2,.slice a5 n5 c5,.slice a6 n6 c6,pv1],H2 [.slice a1 n1 c1],K3 E5 122 (.slice a1 n1 c1) p.t.list,K3 Q0i 49 (.slice a2 n2 c2) p.u.Globals,K3 (rSl (E6 .u8)) 51 (.slice a3 n3 c3) p.u.Data,K3 Q5y 32 (.slice a4 n4 c4) p.u.Codes,Z6k Z6p (Value.int .i64) (.map r1) p.globals,Z6k Z6p (Value.int .i64) (.map r2) p.codes,K3 (E6 .i64) 3 (.slice a5 n5 c5) p.gtypes,K3 Q2g 171 (.slice a6 n6 c6) p.signs]
abbrev Z4d (p:G5) (H1:List Value→Y8) (a1:Option Addr) (n1:Nat) (c1:Nat) (a2:Option Addr) (n2:Nat) (c2:Nat) (a3:Option Addr) (n3:Nat) (c3:Nat):List Y8 := [H1 [.int .i64 p.ret,.slice a1 n1 c1,.slice a2 n2 c2,.slice a3 n3 c3,.int .i64 p.loops,.int .i64 p.breaks],K3 Q0i 49 (.slice a1 n1 c1) p.slots,K3 (E6 .i64) 3 (.slice a2 n2 c2) p.types,Z0p Z7h 67 (.slice a3 n3 c3) p.scopes]
theorem cf6:Y3 Tryz.prog 6:=⟨_,func6,by kernel_rfl,by kernel_rfl⟩
theorem cf7:Y3 Tryz.prog 7:=⟨_,func7,by kernel_rfl,by kernel_rfl⟩
theorem cf8:Y3 Tryz.prog 8:=⟨_,func8,by kernel_rfl,by kernel_rfl⟩
theorem cf9:Y3 Tryz.prog 9:=⟨_,func9,by kernel_rfl,by kernel_rfl⟩
theorem cf10:Y3 Tryz.prog 10:=⟨_,func10,by kernel_rfl,by kernel_rfl⟩
theorem cf11:Y3 Tryz.prog 11:=⟨_,func11,by kernel_rfl,by kernel_rfl⟩
theorem cf12:Y3 Tryz.prog 12:=⟨_,func12,by kernel_rfl,by kernel_rfl⟩
theorem cf13:Y3 Tryz.prog 13:=⟨_,func13,by kernel_rfl,by kernel_rfl⟩
theorem cf14:Y3 Tryz.prog 14:=⟨_,func14,by kernel_rfl,by kernel_rfl⟩
theorem cf15:Y3 Tryz.prog 15:=⟨_,func15,by kernel_rfl,by kernel_rfl⟩
theorem cf16:Y3 Tryz.prog 16:=⟨_,func16,by kernel_rfl,by kernel_rfl⟩
theorem cf17:Y3 Tryz.prog 17:=⟨_,func17,by kernel_rfl,by kernel_rfl⟩
theorem cf18:Y3 Tryz.prog 18:=⟨_,func18,by kernel_rfl,by kernel_rfl⟩
theorem cf19:Y3 Tryz.prog 19:=⟨_,func19,by kernel_rfl,by kernel_rfl⟩
theorem cf20:Y3 Tryz.prog 20:=⟨_,func20,by kernel_rfl,by kernel_rfl⟩
theorem cf21:Y3 Tryz.prog 21:=⟨_,func21,by kernel_rfl,by kernel_rfl⟩
theorem cf22:Y3 Tryz.prog 22:=⟨_,func22,by kernel_rfl,by kernel_rfl⟩
theorem cf23:Y3 Tryz.prog 23:=⟨_,func23,by kernel_rfl,by kernel_rfl⟩
theorem cf24:Y3 Tryz.prog 24:=⟨_,func24,by kernel_rfl,by kernel_rfl⟩
theorem cf25:Y3 Tryz.prog 25:=⟨_,func25,by kernel_rfl,by kernel_rfl⟩
theorem cf26:Y3 Tryz.prog 26:=⟨_,func26,by kernel_rfl,by kernel_rfl⟩
theorem cf27:Y3 Tryz.prog 27:=⟨_,func27,by kernel_rfl,by kernel_rfl⟩
theorem cf28:Y3 Tryz.prog 28:=⟨_,func28,by kernel_rfl,by kernel_rfl⟩
theorem cf29:Y3 Tryz.prog 29:=⟨_,func29,by kernel_rfl,by kernel_rfl⟩
theorem cf30:Y3 Tryz.prog 30:=⟨_,func30,by kernel_rfl,by kernel_rfl⟩
theorem cf31:Y3 Tryz.prog 31:=⟨_,func31,by kernel_rfl,by kernel_rfl⟩
theorem cf32:Y3 Tryz.prog 32:=⟨_,func32,by kernel_rfl,by kernel_rfl⟩
theorem cf33:Y3 Tryz.prog 33:=⟨_,func33,by kernel_rfl,by kernel_rfl⟩
theorem cf34:Y3 Tryz.prog 34:=⟨_,func34,by kernel_rfl,by kernel_rfl⟩
theorem cf35:Y3 Tryz.prog 35:=⟨_,func35,by kernel_rfl,by kernel_rfl⟩
theorem cf36:Y3 Tryz.prog 36:=⟨_,func36,by kernel_rfl,by kernel_rfl⟩
theorem cf37:Y3 Tryz.prog 37:=⟨_,func37,by kernel_rfl,by kernel_rfl⟩
theorem cf38:Y3 Tryz.prog 38:=⟨_,func38,by kernel_rfl,by kernel_rfl⟩
theorem cf39:Y3 Tryz.prog 39:=⟨_,func39,by kernel_rfl,by kernel_rfl⟩
theorem cf40:Y3 Tryz.prog 40:=⟨_,func40,by kernel_rfl,by kernel_rfl⟩
theorem cf41:Y3 Tryz.prog 41:=⟨_,func41,by kernel_rfl,by kernel_rfl⟩
theorem cf42:Y3 Tryz.prog 42:=⟨_,func42,by kernel_rfl,by kernel_rfl⟩
theorem cf43:Y3 Tryz.prog 43:=⟨_,func43,by kernel_rfl,by kernel_rfl⟩
theorem cf44:Y3 Tryz.prog 44:=⟨_,func44,by kernel_rfl,by kernel_rfl⟩
theorem cf45:Y3 Tryz.prog 45:=⟨_,func45,by kernel_rfl,by kernel_rfl⟩
theorem cf46:Y3 Tryz.prog 46:=⟨_,func46,by kernel_rfl,by kernel_rfl⟩
theorem cf47:Y3 Tryz.prog 47:=⟨_,func47,by kernel_rfl,by kernel_rfl⟩
theorem cf48:Y3 Tryz.prog 48:=⟨_,func48,by kernel_rfl,by kernel_rfl⟩
theorem cf49:Y3 Tryz.prog 49:=⟨_,func49,by kernel_rfl,by kernel_rfl⟩
theorem cf50:Y3 Tryz.prog 50:=⟨_,func50,by kernel_rfl,by kernel_rfl⟩
theorem cf51:Y3 Tryz.prog 51:=⟨_,func51,by kernel_rfl,by kernel_rfl⟩
theorem cf52:Y3 Tryz.prog 52:=⟨_,func52,by kernel_rfl,by kernel_rfl⟩
theorem cf53:Y3 Tryz.prog 53:=⟨_,func53,by kernel_rfl,by kernel_rfl⟩
theorem cf54:Y3 Tryz.prog 54:=⟨_,func54,by kernel_rfl,by kernel_rfl⟩
theorem cf55:Y3 Tryz.prog 55:=⟨_,func55,by kernel_rfl,by kernel_rfl⟩
theorem cf56:Y3 Tryz.prog 56:=⟨_,func56,by kernel_rfl,by kernel_rfl⟩
theorem cf57:Y3 Tryz.prog 57:=⟨_,func57,by kernel_rfl,by kernel_rfl⟩
theorem cf58:Y3 Tryz.prog 58:=⟨_,func58,by kernel_rfl,by kernel_rfl⟩
theorem cf59:Y3 Tryz.prog 59:=⟨_,func59,by kernel_rfl,by kernel_rfl⟩
theorem Q9t:Y3 Tryz.prog 60:=⟨_,func60,by kernel_rfl,by kernel_rfl⟩
theorem cf61:Y3 Tryz.prog 61:=⟨_,func61,by kernel_rfl,by kernel_rfl⟩
theorem cf62:Y3 Tryz.prog 62:=⟨_,func62,by kernel_rfl,by kernel_rfl⟩
theorem cf63:Y3 Tryz.prog 63:=⟨_,func63,by kernel_rfl,by kernel_rfl⟩
theorem cf64:Y3 Tryz.prog 64:=⟨_,func64,by kernel_rfl,by kernel_rfl⟩
theorem cf65:Y3 Tryz.prog 65:=⟨_,func65,by kernel_rfl,by kernel_rfl⟩
theorem cf66:Y3 Tryz.prog 66:=⟨_,func66,by kernel_rfl,by kernel_rfl⟩
theorem cf67:Y3 Tryz.prog 67:=⟨_,func67,by kernel_rfl,by kernel_rfl⟩
theorem cf68:Y3 Tryz.prog 68:=⟨_,func68,by kernel_rfl,by kernel_rfl⟩
theorem cf69:Y3 Tryz.prog 69:=⟨_,func69,by kernel_rfl,by kernel_rfl⟩
theorem cf70:Y3 Tryz.prog 70:=⟨_,func70,by kernel_rfl,by kernel_rfl⟩
theorem cf71:Y3 Tryz.prog 71:=⟨_,func71,by kernel_rfl,by kernel_rfl⟩
theorem cf72:Y3 Tryz.prog 72:=⟨_,func72,by kernel_rfl,by kernel_rfl⟩
theorem cf73:Y3 Tryz.prog 73:=⟨_,func73,by kernel_rfl,by kernel_rfl⟩
theorem cf74:Y3 Tryz.prog 74:=⟨_,func74,by kernel_rfl,by kernel_rfl⟩
theorem cf75:Y3 Tryz.prog 75:=⟨_,func75,by kernel_rfl,by kernel_rfl⟩
theorem cf76:Y3 Tryz.prog 76:=⟨_,func76,by kernel_rfl,by kernel_rfl⟩
theorem Z0e:Y3 Tryz.prog 77:=⟨_,func77,by kernel_rfl,by kernel_rfl⟩
theorem cf78:Y3 Tryz.prog 78:=⟨_,func78,by kernel_rfl,by kernel_rfl⟩
theorem cf79:Y3 Tryz.prog 79:=⟨_,func79,by kernel_rfl,by kernel_rfl⟩
theorem cf80:Y3 Tryz.prog 80:=⟨_,func80,by kernel_rfl,by kernel_rfl⟩
theorem cf81:Y3 Tryz.prog 81:=⟨_,func81,by kernel_rfl,by kernel_rfl⟩
theorem cf82:Y3 Tryz.prog 82:=⟨_,func82,by kernel_rfl,by kernel_rfl⟩
theorem cf84:Y3 Tryz.prog 84:=⟨_,func84,by kernel_rfl,by kernel_rfl⟩
theorem cf85:Y3 Tryz.prog 85:=⟨_,func85,by kernel_rfl,by kernel_rfl⟩
theorem Z3d:Y3 Tryz.prog 86:=⟨_,func86,by kernel_rfl,by kernel_rfl⟩
theorem cf87:Y3 Tryz.prog 87:=⟨_,func87,by kernel_rfl,by kernel_rfl⟩
theorem cf88:Y3 Tryz.prog 88:=⟨_,func88,by kernel_rfl,by kernel_rfl⟩
theorem cf89:Y3 Tryz.prog 89:=⟨_,func89,by kernel_rfl,by kernel_rfl⟩
theorem cf90:Y3 Tryz.prog 90:=⟨_,func90,by kernel_rfl,by kernel_rfl⟩
theorem Y0y:Y3 Tryz.prog 91:=⟨_,func91,by kernel_rfl,by kernel_rfl⟩
theorem cf92:Y3 Tryz.prog 92:=⟨_,func92,by kernel_rfl,by kernel_rfl⟩
theorem cf93:Y3 Tryz.prog 93:=⟨_,func93,by kernel_rfl,by kernel_rfl⟩
theorem cf94:Y3 Tryz.prog 94:=⟨_,func94,by kernel_rfl,by kernel_rfl⟩
theorem cf95:Y3 Tryz.prog 95:=⟨_,func95,by kernel_rfl,by kernel_rfl⟩
theorem cf96:Y3 Tryz.prog 96:=⟨_,func96,by kernel_rfl,by kernel_rfl⟩
theorem cf97:Y3 Tryz.prog 97:=⟨_,func97,by kernel_rfl,by kernel_rfl⟩
theorem cf98:Y3 Tryz.prog 98:=⟨_,func98,by kernel_rfl,by kernel_rfl⟩
theorem cf99:Y3 Tryz.prog 99:=⟨_,func99,by kernel_rfl,by kernel_rfl⟩
theorem cf100:Y3 Tryz.prog 100:=⟨_,func100,by kernel_rfl,by kernel_rfl⟩
theorem Q8s:Y3 Tryz.prog 101:=⟨_,func101,by kernel_rfl,by kernel_rfl⟩
theorem cf102:Y3 Tryz.prog 102:=⟨_,func102,by kernel_rfl,by kernel_rfl⟩
theorem cf103:Y3 Tryz.prog 103:=⟨_,func103,by kernel_rfl,by kernel_rfl⟩
theorem Z2k:Y3 Tryz.prog 104:=⟨_,func104,by kernel_rfl,by kernel_rfl⟩
theorem C0:Y3 Tryz.prog 105:=⟨_,func105,by kernel_rfl,by kernel_rfl⟩
theorem Y0n:Y3 Tryz.prog 106:=⟨_,func106,by kernel_rfl,by kernel_rfl⟩
theorem cf107:Y3 Tryz.prog 107:=⟨_,func107,by kernel_rfl,by kernel_rfl⟩
theorem cf108:Y3 Tryz.prog 108:=⟨_,func108,by kernel_rfl,by kernel_rfl⟩
theorem cf109:Y3 Tryz.prog 109:=⟨_,func109,by kernel_rfl,by kernel_rfl⟩
theorem cf110:Y3 Tryz.prog 110:=⟨_,func110,by kernel_rfl,by kernel_rfl⟩
theorem cf111:Y3 Tryz.prog 111:=⟨_,func111,by kernel_rfl,by kernel_rfl⟩
theorem Y9w:Y3 Tryz.prog 116:=⟨_,func116,by kernel_rfl,by kernel_rfl⟩
theorem cf117:Y3 Tryz.prog 117:=⟨_,func117,by kernel_rfl,by kernel_rfl⟩
theorem cf118:Y3 Tryz.prog 118:=⟨_,func118,by kernel_rfl,by kernel_rfl⟩
theorem Y6w:Y3 Tryz.prog 119:=⟨_,func119,by kernel_rfl,by kernel_rfl⟩
theorem Y5j:Y3 Tryz.prog 120:=⟨_,func120,by kernel_rfl,by kernel_rfl⟩
theorem cf121:Y3 Tryz.prog 121:=⟨_,func121,by kernel_rfl,by kernel_rfl⟩
theorem Y9v:Y3 Tryz.prog 122:=⟨_,func122,by kernel_rfl,by kernel_rfl⟩
theorem Y9u:Y3 Tryz.prog 123:=⟨_,func123,by kernel_rfl,by kernel_rfl⟩
theorem Y9t:Y3 Tryz.prog 124:=⟨_,func124,by kernel_rfl,by kernel_rfl⟩
theorem cf125:Y3 Tryz.prog 125:=⟨_,func125,by kernel_rfl,by kernel_rfl⟩
theorem cf126:Y3 Tryz.prog 126:=⟨_,func126,by kernel_rfl,by kernel_rfl⟩
theorem cf127:Y3 Tryz.prog 127:=⟨_,func127,by kernel_rfl,by kernel_rfl⟩
theorem cf128:Y3 Tryz.prog 128:=⟨_,func128,by kernel_rfl,by kernel_rfl⟩
theorem cf129:Y3 Tryz.prog 129:=⟨_,func129,by kernel_rfl,by kernel_rfl⟩
theorem Y5i:Y3 Tryz.prog 130:=⟨_,func130,by kernel_rfl,by kernel_rfl⟩
theorem cf131:Y3 Tryz.prog 131:=⟨_,func131,by kernel_rfl,by kernel_rfl⟩
theorem cf132:Y3 Tryz.prog 132:=⟨_,func132,by kernel_rfl,by kernel_rfl⟩
theorem cf133:Y3 Tryz.prog 133:=⟨_,func133,by kernel_rfl,by kernel_rfl⟩
theorem cf134:Y3 Tryz.prog 134:=⟨_,func134,by kernel_rfl,by kernel_rfl⟩
theorem Y6v:Y3 Tryz.prog 135:=⟨_,func135,by kernel_rfl,by kernel_rfl⟩
theorem Q0e:Y3 Tryz.prog 136:=⟨_,func136,by kernel_rfl,by kernel_rfl⟩
theorem Y6u:Y3 Tryz.prog 137:=⟨_,func137,by kernel_rfl,by kernel_rfl⟩
theorem Y9s:Y3 Tryz.prog 138:=⟨_,func138,by kernel_rfl,by kernel_rfl⟩
theorem cf139:Y3 Tryz.prog 139:=⟨_,func139,by kernel_rfl,by kernel_rfl⟩
theorem Y6t:Y3 Tryz.prog 140:=⟨_,func140,by kernel_rfl,by kernel_rfl⟩
theorem cf141:Y3 Tryz.prog 141:=⟨_,func141,by kernel_rfl,by kernel_rfl⟩
theorem cf142:Y3 Tryz.prog 142:=⟨_,func142,by kernel_rfl,by kernel_rfl⟩
theorem cf143:Y3 Tryz.prog 143:=⟨_,func143,by kernel_rfl,by kernel_rfl⟩
theorem cf144:Y3 Tryz.prog 144:=⟨_,func144,by kernel_rfl,by kernel_rfl⟩
theorem cf145:Y3 Tryz.prog 145:=⟨_,func145,by kernel_rfl,by kernel_rfl⟩
theorem Y3l:Y3 Tryz.prog 146:=⟨_,func146,by kernel_rfl,by kernel_rfl⟩
theorem cf147:Y3 Tryz.prog 147:=⟨_,func147,by kernel_rfl,by kernel_rfl⟩
theorem cf148:Y3 Tryz.prog 148:=⟨_,func148,by kernel_rfl,by kernel_rfl⟩
theorem cf149:Y3 Tryz.prog 149:=⟨_,func149,by kernel_rfl,by kernel_rfl⟩
theorem cf150:Y3 Tryz.prog 150:=⟨_,func150,by kernel_rfl,by kernel_rfl⟩
theorem Q0m:Y3 Tryz.prog 153:=⟨_,func153,by kernel_rfl,by kernel_rfl⟩
theorem cf154:Y3 Tryz.prog 154:=⟨_,func154,by kernel_rfl,by kernel_rfl⟩
theorem cf155:Y3 Tryz.prog 155:=⟨_,func155,by kernel_rfl,by kernel_rfl⟩
theorem Y9r:Y3 Tryz.prog 156:=⟨_,func156,by kernel_rfl,by kernel_rfl⟩
theorem cf157:Y3 Tryz.prog 157:=⟨_,func157,by kernel_rfl,by kernel_rfl⟩
theorem cf158:Y3 Tryz.prog 158:=⟨_,func158,by kernel_rfl,by kernel_rfl⟩
theorem cf159:Y3 Tryz.prog 159:=⟨_,func159,by kernel_rfl,by kernel_rfl⟩
theorem cf160:Y3 Tryz.prog 160:=⟨_,func160,by kernel_rfl,by kernel_rfl⟩
theorem cf161:Y3 Tryz.prog 161:=⟨_,func161,by kernel_rfl,by kernel_rfl⟩
theorem cf162:Y3 Tryz.prog 162:=⟨_,func162,by kernel_rfl,by kernel_rfl⟩
theorem cf163:Y3 Tryz.prog 163:=⟨_,func163,by kernel_rfl,by kernel_rfl⟩
theorem cf164:Y3 Tryz.prog 164:=⟨_,func164,by kernel_rfl,by kernel_rfl⟩
theorem Y5h:Y3 Tryz.prog 165:=⟨_,func165,by kernel_rfl,by kernel_rfl⟩
theorem cf166:Y3 Tryz.prog 166:=⟨_,func166,by kernel_rfl,by kernel_rfl⟩
theorem cf167:Y3 Tryz.prog 167:=⟨_,func167,by kernel_rfl,by kernel_rfl⟩
theorem cf168:Y3 Tryz.prog 168:=⟨_,func168,by kernel_rfl,by kernel_rfl⟩
theorem cf169:Y3 Tryz.prog 169:=⟨_,func169,by kernel_rfl,by kernel_rfl⟩
theorem cf170:Y3 Tryz.prog 170:=⟨_,func170,by kernel_rfl,by kernel_rfl⟩
theorem cf171:Y3 Tryz.prog 171:=⟨_,func171,by kernel_rfl,by kernel_rfl⟩
theorem Y3k:Y3 Tryz.prog 172:=⟨_,func172,by kernel_rfl,by kernel_rfl⟩
theorem Y9q:Y3 Tryz.prog 173:=⟨_,func173,by kernel_rfl,by kernel_rfl⟩
theorem cf174:Y3 Tryz.prog 174:=⟨_,func174,by kernel_rfl,by kernel_rfl⟩
theorem cf175:Y3 Tryz.prog 175:=⟨_,func175,by kernel_rfl,by kernel_rfl⟩
theorem cf176:Y3 Tryz.prog 176:=⟨_,func176,by kernel_rfl,by kernel_rfl⟩
theorem cf177:Y3 Tryz.prog 177:=⟨_,func177,by kernel_rfl,by kernel_rfl⟩
theorem cf178:Y3 Tryz.prog 178:=⟨_,func178,by kernel_rfl,by kernel_rfl⟩
theorem cf179:Y3 Tryz.prog 179:=⟨_,func179,by kernel_rfl,by kernel_rfl⟩
theorem cf180:Y3 Tryz.prog 180:=⟨_,func180,by kernel_rfl,by kernel_rfl⟩
theorem cf181:Y3 Tryz.prog 181:=⟨_,func181,by kernel_rfl,by kernel_rfl⟩
theorem cf182:Y3 Tryz.prog 182:=⟨_,func182,by kernel_rfl,by kernel_rfl⟩
theorem cf183:Y3 Tryz.prog 183:=⟨_,func183,by kernel_rfl,by kernel_rfl⟩
theorem cf184:Y3 Tryz.prog 184:=⟨_,func184,by kernel_rfl,by kernel_rfl⟩
theorem cf185:Y3 Tryz.prog 185:=⟨_,func185,by kernel_rfl,by kernel_rfl⟩
theorem cf186:Y3 Tryz.prog 186:=⟨_,func186,by kernel_rfl,by kernel_rfl⟩
theorem cf187:Y3 Tryz.prog 187:=⟨_,func187,by kernel_rfl,by kernel_rfl⟩
theorem cf188:Y3 Tryz.prog 188:=⟨_,func188,by kernel_rfl,by kernel_rfl⟩
theorem cf189:Y3 Tryz.prog 189:=⟨_,func189,by kernel_rfl,by kernel_rfl⟩
theorem cf190:Y3 Tryz.prog 190:=⟨_,func190,by kernel_rfl,by kernel_rfl⟩
theorem cf191:Y3 Tryz.prog 191:=⟨_,func191,by kernel_rfl,by kernel_rfl⟩
theorem cf192:Y3 Tryz.prog 192:=⟨_,func192,by kernel_rfl,by kernel_rfl⟩
theorem cf193:Y3 Tryz.prog 193:=⟨_,func193,by kernel_rfl,by kernel_rfl⟩
theorem cf194:Y3 Tryz.prog 194:=⟨_,func194,by kernel_rfl,by kernel_rfl⟩
theorem cf195:Y3 Tryz.prog 195:=⟨_,func195,by kernel_rfl,by kernel_rfl⟩
theorem cf196:Y3 Tryz.prog 196:=⟨_,func196,by kernel_rfl,by kernel_rfl⟩
theorem cf197:Y3 Tryz.prog 197:=⟨_,func197,by kernel_rfl,by kernel_rfl⟩
theorem cf198:Y3 Tryz.prog 198:=⟨_,func198,by kernel_rfl,by kernel_rfl⟩
theorem cf199:Y3 Tryz.prog 199:=⟨_,func199,by kernel_rfl,by kernel_rfl⟩
theorem el3:Q0j Tryz.prog 3 1:=⟨by kernel_rfl,by decide⟩
theorem el5:Q0j Tryz.prog 5 1:=⟨by kernel_rfl,by decide⟩
theorem el32:Q0j Tryz.prog 32 5:=⟨by kernel_rfl,by decide⟩
theorem el49:Q0j Tryz.prog 49 4:=⟨by kernel_rfl,by decide⟩
theorem el51:Q0j Tryz.prog 51 1:=⟨by kernel_rfl,by decide⟩
theorem el67:Q0j Tryz.prog 67 1:=⟨by kernel_rfl,by decide⟩
theorem el79:Q0j Tryz.prog 79 4:=⟨by kernel_rfl,by decide⟩
theorem el86:Q0j Tryz.prog 86 9:=⟨by kernel_rfl,by decide⟩
theorem el92:Q0j Tryz.prog 92 8:=⟨by kernel_rfl,by decide⟩
theorem el96:Q0j Tryz.prog 96 10:=⟨by kernel_rfl,by decide⟩
theorem el102:Q0j Tryz.prog 102 8:=⟨by kernel_rfl,by decide⟩
theorem el104:Q0j Tryz.prog 104 1:=⟨by kernel_rfl,by decide⟩
theorem el106:Q0j Tryz.prog 106 3:=⟨by kernel_rfl,by decide⟩
theorem el113:Q0j Tryz.prog 113 5:=⟨by kernel_rfl,by decide⟩
theorem el122:Q0j Tryz.prog 122 8:=⟨by kernel_rfl,by decide⟩
theorem el136:Q0j Tryz.prog 136 10:=⟨by kernel_rfl,by decide⟩
theorem el142:Q0j Tryz.prog 142 5:=⟨by kernel_rfl,by decide⟩
theorem el145:Q0j Tryz.prog 145 9:=⟨by kernel_rfl,by decide⟩
theorem el163:Q0j Tryz.prog 163 3:=⟨by kernel_rfl,by decide⟩
theorem el171:Q0j Tryz.prog 171 2:=⟨by kernel_rfl,by decide⟩
theorem eq_41 (a0:Int) (a1:Int) (b0:Int) (b1:Int) : ∀ x y w,(do eqGuard .eql 41 x y (.agg #[.int .i64 a0,.int .i64 a1]) (.agg #[.int .i64 b0,.int .i64 b1]); binOp .eql 41 (.agg #[.int .i64 a0,.int .i64 a1]) (.agg #[.int .i64 b0,.int .i64 b1]):Sem Value).run Tryz.prog w = .ok (.bool ((a0 == b0)&&(a1 == b1))) w:=by
  intro x y w
  simp [go_sem]
  repeat' split
  all_goals simp_all
theorem mix:Tryz.prog.follows .mixedOrders=true:=by kernel_rfl
attribute [local irreducible] C7 Q0q execOp Program.underlying sizeOf isAgg zeroValue
/-! Steps that find by themselves what they need. -/
theorem tyU {t:TypeId} {d:TypeDesc} (h:Tryz.prog.underlying t=some d:=by first | exact Tryz.underlying84 | exact Tryz.underlying53 | exact Tryz.underlying136 | exact Tryz.underlying58 | exact Tryz.underlying202 | exact Tryz.underlying72 | exact Tryz.underlying99 | exact Tryz.underlying9 | exact Tryz.underlying96 | exact Tryz.underlying36 | exact Tryz.underlying94 | exact Tryz.underlying145 | exact Tryz.underlying86 | exact Tryz.underlying68 | exact Tryz.underlying69 | exact Tryz.underlying37 | exact Tryz.underlying175 | exact Tryz.underlying123 | exact Tryz.underlying102 | exact Tryz.underlying30 | exact Tryz.underlying120 | exact Tryz.underlying26 | exact Tryz.underlying92 | exact Tryz.underlying118 | exact Tryz.underlying24 | exact Tryz.underlying104 | exact Tryz.underlying22 | exact Tryz.underlying142 | exact Tryz.underlying122 | exact Tryz.underlying35 | exact Tryz.underlying39 | exact Tryz.underlying90 | exact Tryz.underlying125 | exact Tryz.underlying113 | exact Tryz.underlying67 | exact Tryz.underlying109 | exact Tryz.underlying51 | exact Tryz.underlying163 | exact Tryz.underlying5 | exact Tryz.underlying171 | exact Tryz.underlying32 | exact Tryz.underlying21 | exact Tryz.underlying100 | exact Tryz.underlying83 | exact Tryz.underlying79 | exact Tryz.underlying4 | exact Tryz.underlying173 | exact Tryz.underlying23 | exact Tryz.underlying65 | exact Tryz.underlying82 | exact Tryz.underlying49 | exact Tryz.underlying3 | exact Tryz.underlying2 | exact Tryz.underlying106 | exact Tryz.underlying180 | exact Tryz.underlying41 | exact Tryz.underlying63 | exact Tryz.underlying76 | exact Tryz.underlying242 | exact Tryz.underlying59 | exact Tryz.underlying70 | exact Tryz.underlying73 | exact Tryz.underlying184):Tryz.prog.underlying t=some d:=h
theorem tyS {t:TypeId} {z:Nat} (h : ∀ w,(sizeOf t).run Tryz.prog w = .ok z w:=by first | exact Tryz.sizeOf136 | exact Tryz.sizeOf3 | exact Tryz.sizeOf202 | exact Tryz.sizeOf145 | exact Tryz.sizeOf41 | exact Tryz.sizeOf113 | exact Tryz.sizeOf102 | exact Tryz.sizeOf142 | exact Tryz.sizeOf86 | exact Tryz.sizeOf96 | exact Tryz.sizeOf84 | exact Tryz.sizeOf9 | exact Tryz.sizeOf92 | exact Tryz.sizeOf171 | exact Tryz.sizeOf73 | exact Tryz.sizeOf32 | exact Tryz.sizeOf163 | exact Tryz.sizeOf4 | exact Tryz.sizeOf90 | exact Tryz.sizeOf65 | exact Tryz.sizeOf39 | exact Tryz.sizeOf120 | exact Tryz.sizeOf79 | exact Tryz.sizeOf122 | exact Tryz.sizeOf99 | exact Tryz.sizeOf36 | exact Tryz.sizeOf82 | exact Tryz.sizeOf104 | exact Tryz.sizeOf53 | exact Tryz.sizeOf26 | exact Tryz.sizeOf30 | exact Tryz.sizeOf106 | exact Tryz.sizeOf70 | exact Tryz.sizeOf123 | exact Tryz.sizeOf49 | exact Tryz.sizeOf68 | exact Tryz.sizeOf22 | exact Tryz.sizeOf24 | exact Tryz.sizeOf67 | exact Tryz.sizeOf5 | exact Tryz.sizeOf37 | exact Tryz.sizeOf173 | exact Tryz.sizeOf69 | exact Tryz.sizeOf100 | exact Tryz.sizeOf83 | exact Tryz.sizeOf23 | exact Tryz.sizeOf35 | exact Tryz.sizeOf94 | exact Tryz.sizeOf59 | exact Tryz.sizeOf118 | exact Tryz.sizeOf51 | exact Tryz.sizeOf76 | exact Tryz.sizeOf184 | exact Tryz.sizeOf42 | exact Tryz.sizeOf63) : ∀ w,(sizeOf t).run Tryz.prog w = .ok z w:=h
theorem tyA {t:TypeId} {z:Bool} (h : ∀ w,(isAgg t).run Tryz.prog w = .ok z w:=by first | exact Tryz.isAgg136 | exact Tryz.isAgg3 | exact Tryz.isAgg202 | exact Tryz.isAgg102 | exact Tryz.isAgg41 | exact Tryz.isAgg145 | exact Tryz.isAgg142 | exact Tryz.isAgg96 | exact Tryz.isAgg84 | exact Tryz.isAgg113 | exact Tryz.isAgg65 | exact Tryz.isAgg86 | exact Tryz.isAgg9 | exact Tryz.isAgg73 | exact Tryz.isAgg56 | exact Tryz.isAgg64 | exact Tryz.isAgg4 | exact Tryz.isAgg92 | exact Tryz.isAgg39 | exact Tryz.isAgg24 | exact Tryz.isAgg99 | exact Tryz.isAgg32 | exact Tryz.isAgg82 | exact Tryz.isAgg163 | exact Tryz.isAgg104 | exact Tryz.isAgg90 | exact Tryz.isAgg100 | exact Tryz.isAgg53 | exact Tryz.isAgg36 | exact Tryz.isAgg70 | exact Tryz.isAgg123 | exact Tryz.isAgg30 | exact Tryz.isAgg22 | exact Tryz.isAgg171 | exact Tryz.isAgg67 | exact Tryz.isAgg106 | exact Tryz.isAgg79 | exact Tryz.isAgg68 | exact Tryz.isAgg69 | exact Tryz.isAgg26 | exact Tryz.isAgg37 | exact Tryz.isAgg23 | exact Tryz.isAgg120 | exact Tryz.isAgg173 | exact Tryz.isAgg42 | exact Tryz.isAgg122 | exact Tryz.isAgg5 | exact Tryz.isAgg35 | exact Tryz.isAgg59 | exact Tryz.isAgg83 | exact Tryz.isAgg118 | exact Tryz.isAgg94 | exact Tryz.isAgg51 | exact Tryz.isAgg184 | exact Tryz.isAgg49) : ∀ w,(isAgg t).run Tryz.prog w = .ok z w:=h
theorem tyZ {t:TypeId} {z:Value} (h : ∀ w,(zeroValue t).run Tryz.prog w = .ok z w:=by first | exact Tryz.zeroValue145 | exact Tryz.zeroValue202 | exact Tryz.zeroValue136 | exact Tryz.zeroValue102 | exact Tryz.zeroValue86 | exact Tryz.zeroValue3 | exact Tryz.zeroValue120 | exact Tryz.zeroValue41 | exact Tryz.zeroValue92 | exact Tryz.zeroValue113 | exact Tryz.zeroValue96 | exact Tryz.zeroValue32 | exact Tryz.zeroValue79 | exact Tryz.zeroValue39 | exact Tryz.zeroValue142 | exact Tryz.zeroValue163 | exact Tryz.zeroValue106 | exact Tryz.zeroValue171 | exact Tryz.zeroValue76 | exact Tryz.zeroValue82 | exact Tryz.zeroValue26 | exact Tryz.zeroValue122 | exact Tryz.zeroValue49 | exact Tryz.zeroValue67 | exact Tryz.zeroValue184 | exact Tryz.zeroValue104 | exact Tryz.zeroValue59 | exact Tryz.zeroValue63 | exact Tryz.zeroValue5 | exact Tryz.zeroValue51 | exact Tryz.zeroValue30 | exact Tryz.zeroValue4 | exact Tryz.zeroValue73) : ∀ w,(zeroValue t).run Tryz.prog w = .ok z w:=h
theorem opnS {α : Type} {r:Rp α} {T:Nat→Prop} {w:World} {u : α} {cs:List Value} (h : ∀ c0,r.rp T w c0 u→c0=cs:=by first | exact fun _ h=>h | exact fun _ h=>Q1u h | exact fun _ h=>Q5x h | exact fun _ h=>Z1i h | exact fun _ h=>Z6h h | exact fun _ h=>Z0o h | exact fun _ h=>Z8o h | exact fun _ h=>Z3a h | exact fun _ h=>Q9l h) : ∀ c0,r.rp T w c0 u→c0=cs:=h
theorem opv {P:Program} {n:NF} {J:Nat→Value} {L:List (Nat×Value)} {w:World} {o:Oper} {v:Value} (h:(execOp (ev n J L) o).run P w = .ok (.value v) w:=by
  first | ((with_reducible apply Z2p); first | exact(rfl:_=Value.int _ _) | exact(rfl:_=Value.bool _) | exact(rfl:_=Value.slice _ _ _) | exact(rfl:_=Value.pointer _) | exact(rfl:_=Value.string _) | exact(rfl:_=Value.agg _) | exact(rfl:_=Value.func _ _ _) | exact(rfl:_=Value.tuple _) | exact(rfl:_=Value.map _)) | ((with_reducible apply r_zx); first | exact(rfl:_=Value.int _ _) | exact(rfl:_=Value.bool _) | exact(rfl:_=Value.slice _ _ _) | exact(rfl:_=Value.pointer _) | exact(rfl:_=Value.string _) | exact(rfl:_=Value.agg _) | exact(rfl:_=Value.func _ _ _) | exact(rfl:_=Value.tuple _) | exact(rfl:_=Value.map _)) | ((with_reducible apply Q6y); (exact rfl); (exact rfl); (exact rfl)) | ((with_reducible apply r_faP); (exact rfl); (exact tyU); (exact rfl); (exact tyS); (exact rfl)) | ((with_reducible apply Q0h); (exact rfl); (exact tyU); (exact rfl); (exact tyS); (exact rfl)) | ((with_reducible apply Q0p); (exact rfl); (exact tyA); (first | exact Sep.cell0 (by assumption) atS (by exact rfl) | exact cellsAt.get (by assumption) (by exact rfl) | exact cellsAt.get0 (by assumption) (by exact rfl) | exact elG Y3n (by assumption) (by exact rfl) opnS (by exact rfl) | exact elG0 Y3n (by assumption) (by exact rfl) opnS (by exact rfl) | exact Sep.cellL (by assumption) (by assumption) atS (by exact rfl) | exact Sep.cellL0 (by assumption) (by assumption) atS (by exact rfl) | exact cellsAt.get (cellsAt.sameT (by assumption) (by assumption) ch) (by exact rfl) | exact cellsAt.get0 (cellsAt.sameT (by assumption) (by assumption) ch) (by exact rfl))) | ((with_reducible apply O6); (exact rfl); (first | assumption | exact rfl); (exact rfl)) | ((with_reducible apply O5); (exact rfl); (first | assumption | exact rfl); (exact rfl)) | ((with_reducible apply r_ex0); (exact rfl)) | ((with_reducible apply r_ex1); (exact rfl)) | ((with_reducible apply r_ex2); (exact rfl)) | ((with_reducible apply r_ex3); (exact rfl)) | ((with_reducible apply r_ixc); (exact rfl); (exact rfl); (exact tyU); (exact tyS); (exact Y3n); (exact rfl); (assumption)) | ((with_reducible apply r_ixf); (assumption); (exact rfl); (exact tyU); (exact tyS); (assumption); (assumption); (assumption)) | ((with_reducible apply r_ixv); (assumption); (assumption); (exact atS); (exact rfl); (exact rfl); (exact tyU); (exact tyS); (exact rfl); (assumption)) | ((with_reducible apply r_ldE); (exact rfl); (exact tyA); (exact tyS); (first | assumption | exact Sep.cellsA (by assumption) atS | exact elS Y3n (by assumption) (by exact rfl) opnS | exact Sep.cellsP (by assumption) (by assumption) atS | exact cellsAt.sameT (by assumption) (by assumption) ch); (exact rfl)) | ((with_reducible apply r_ldP); (exact rfl); (exact tyA); (exact tyS); (assumption); (exact atS); (first | exact(rfl:_ = [_]) | exact(rfl:_ = [_,_]) | exact(rfl:_ = [_,_,_]) | exact(rfl:_ = [_,_,_,_]) | exact(rfl:_ = [_,_,_,_,_]) | exact(rfl:_ = [_,_,_,_,_,_]) | exact(rfl:_ = [_,_,_,_,_,_,_]) | exact(rfl:_ = [_,_,_,_,_,_,_,_]) | exact(rfl:_ = [_,_,_,_,_,_,_,_,_]) | exact(rfl:_ = [_,_,_,_,_,_,_,_,_,_]) | exact(rfl:_ = [_,_,_,_,_,_,_,_,_,_,_]) | exact(rfl:_ = [_,_,_,_,_,_,_,_,_,_,_,_]) | exact(rfl:_ = [_,_,_,_,_,_,_,_,_,_,_,_,_]) | exact(rfl:_ = [_,_,_,_,_,_,_,_,_,_,_,_,_,_]) | exact(rfl:_ = [_,_,_,_,_,_,_,_,_,_,_,_,_,_,_])); (exact rfl)) | ((with_reducible apply r_cv); (exact rfl); (exact tyU); (exact tyU)) | ((with_reducible apply r_lnt); (exact rfl); (exact tyU)) | ((with_reducible apply r_lnW); (exact rfl); (exact tyU); (exact Y3n)) | ((with_reducible apply r_lnN); (assumption); (exact atS); (exact rfl); (exact tyU)) | ((with_reducible apply Y4n); (exact rfl); (exact tyU)) | ((with_reducible apply r_sqL); (exact rfl); (exact rfl)) | ((with_reducible apply r_snL); (exact rfl); (exact rfl)) | ((with_reducible apply r_nt); (exact rfl)) | ((with_reducible apply r_nc); (exact rfl)) | ((with_reducible apply r_ng); (exact rfl)) | ((with_reducible apply r_cm); (exact rfl)) | ((with_reducible apply X0k); (exact rfl); (exact rfl); (decide)) | ((with_reducible apply Y7j); (exact rfl); (exact rfl); (decide)) | ((with_reducible apply r_irm); (exact rfl); (exact rfl); (decide)) | ((with_reducible apply r_iq); (exact rfl); (exact rfl); (decide))):(execOp (ev n J L) o).run P w = .ok (.value v) w:=h
theorem opq {P:Program} {n:NF} {J:Nat→Value} {L:List (Nat×Value)} {w:World} {o:Oper} {v:Value} (h:(execOp (ev n J L) o).run P w = .ok (.value v) w:=by
  first | ((with_reducible apply Z2p); first | exact(rfl:_=Value.int _ _) | exact(rfl:_=Value.bool _) | exact(rfl:_=Value.slice _ _ _) | exact(rfl:_=Value.pointer _) | exact(rfl:_=Value.string _) | exact(rfl:_=Value.agg _) | exact(rfl:_=Value.func _ _ _) | exact(rfl:_=Value.tuple _) | exact(rfl:_=Value.map _)) | ((with_reducible apply r_zx); first | exact(rfl:_=Value.int _ _) | exact(rfl:_=Value.bool _) | exact(rfl:_=Value.slice _ _ _) | exact(rfl:_=Value.pointer _) | exact(rfl:_=Value.string _) | exact(rfl:_=Value.agg _) | exact(rfl:_=Value.func _ _ _) | exact(rfl:_=Value.tuple _) | exact(rfl:_=Value.map _)) | ((with_reducible apply Q6y); (exact rfl); (exact rfl); (exact rfl)) | ((with_reducible apply r_faP); (exact rfl); (exact tyU); (exact rfl); (exact tyS); (exact rfl)) | ((with_reducible apply Q0h); (exact rfl); (exact tyU); (exact rfl); (exact tyS); (exact rfl)) | ((with_reducible apply Q0p); (exact rfl); (exact tyA); (apply QC.cell; assumption; (first | exact Sep.cell0 (by assumption) atS (by exact rfl) | exact cellsAt.get (by assumption) (by exact rfl) | exact cellsAt.get0 (by assumption) (by exact rfl) | exact elG Y3n (by assumption) (by exact rfl) opnS (by exact rfl) | exact elG0 Y3n (by assumption) (by exact rfl) opnS (by exact rfl) | exact Sep.cellL (by assumption) (by assumption) atS (by exact rfl) | exact Sep.cellL0 (by assumption) (by assumption) atS (by exact rfl) | exact cellsAt.get (cellsAt.sameT (by assumption) (by assumption) ch) (by exact rfl) | exact cellsAt.get0 (cellsAt.sameT (by assumption) (by assumption) ch) (by exact rfl)))) | ((with_reducible apply O6); (exact rfl); (first | assumption | exact rfl); (exact rfl)) | ((with_reducible apply O5); (exact rfl); (first | assumption | exact rfl); (exact rfl)) | ((with_reducible apply r_ex0); (exact rfl)) | ((with_reducible apply r_ex1); (exact rfl)) | ((with_reducible apply r_ex2); (exact rfl)) | ((with_reducible apply r_ex3); (exact rfl)) | ((with_reducible apply r_ixc); (exact rfl); (exact rfl); (exact tyU); (exact tyS); (exact Y3n); (exact rfl); (assumption)) | ((with_reducible apply r_ixf); (assumption); (exact rfl); (exact tyU); (exact tyS); (assumption); (assumption); (assumption)) | ((with_reducible apply r_ixv); (assumption); (assumption); (exact atS); (exact rfl); (exact rfl); (exact tyU); (exact tyS); (exact rfl); (assumption)) | ((with_reducible apply r_ldE); (exact rfl); (exact tyA); (exact tyS); (apply QC.cellsAt; assumption; (first | assumption | exact Sep.cellsA (by assumption) atS | exact elS Y3n (by assumption) (by exact rfl) opnS | exact Sep.cellsP (by assumption) (by assumption) atS | exact cellsAt.sameT (by assumption) (by assumption) ch)); (exact rfl)) | ((with_reducible apply r_ldP); (exact rfl); (exact tyA); (exact tyS); (assumption); (exact atS); (first | exact(rfl:_ = [_]) | exact(rfl:_ = [_,_]) | exact(rfl:_ = [_,_,_]) | exact(rfl:_ = [_,_,_,_]) | exact(rfl:_ = [_,_,_,_,_]) | exact(rfl:_ = [_,_,_,_,_,_]) | exact(rfl:_ = [_,_,_,_,_,_,_]) | exact(rfl:_ = [_,_,_,_,_,_,_,_]) | exact(rfl:_ = [_,_,_,_,_,_,_,_,_]) | exact(rfl:_ = [_,_,_,_,_,_,_,_,_,_]) | exact(rfl:_ = [_,_,_,_,_,_,_,_,_,_,_]) | exact(rfl:_ = [_,_,_,_,_,_,_,_,_,_,_,_]) | exact(rfl:_ = [_,_,_,_,_,_,_,_,_,_,_,_,_]) | exact(rfl:_ = [_,_,_,_,_,_,_,_,_,_,_,_,_,_]) | exact(rfl:_ = [_,_,_,_,_,_,_,_,_,_,_,_,_,_,_])); (exact rfl)) | ((with_reducible apply r_cv); (exact rfl); (exact tyU); (exact tyU)) | ((with_reducible apply r_lnt); (exact rfl); (exact tyU)) | ((with_reducible apply r_lnW); (exact rfl); (exact tyU); (exact Y3n)) | ((with_reducible apply r_lnN); (assumption); (exact atS); (exact rfl); (exact tyU)) | ((with_reducible apply Y4n); (exact rfl); (exact tyU)) | ((with_reducible apply r_sqL); (exact rfl); (exact rfl)) | ((with_reducible apply r_snL); (exact rfl); (exact rfl)) | ((with_reducible apply r_nt); (exact rfl)) | ((with_reducible apply r_nc); (exact rfl)) | ((with_reducible apply r_ng); (exact rfl)) | ((with_reducible apply r_cm); (exact rfl)) | ((with_reducible apply X0k); (exact rfl); (exact rfl); (decide)) | ((with_reducible apply Y7j); (exact rfl); (exact rfl); (decide)) | ((with_reducible apply r_irm); (exact rfl); (exact rfl); (decide)) | ((with_reducible apply r_iq); (exact rfl); (exact rfl); (decide))):(execOp (ev n J L) o).run P w = .ok (.value v) w:=h
theorem gwS {l:List Oper} {n:NF} {J:Nat→Value} {L:List (Nat×Value)} {gd:Option (Nat×Bool)} (h:Wt l n J L gd:=by first | exact qZt | exact⟨_,rfl,congrArg Value.bool (by assumption)⟩ | exact⟨_,rfl,rfl⟩):Wt l n J L gd:=h
theorem gUS {l:List Oper} {n:NF} {J:Nat→Value} {L:List (Nat×Value)} {gd:Option (Nat×Bool)} (h:Wf l n J L gd:=by first | exact gI rfl rfl (by assumption) | exact gI rfl rfl rfl | exact⟨_,rfl,.inr rfl⟩):Wf l n J L gd:=h
theorem stS {P:Program} {l:List Oper} {n:NF} {J:Nat→Value} {L:List (Nat×Value)} {w:World} {pd:List (Nat×Value)} (h:Z0y P l pd (env n J L) w:=by repeat (first | exact st0 | refine st1 rfl opv ?_)):Z0y P l pd (env n J L) w:=h
theorem pu {A B:Prop} (k:B) (h:Kp B→A:=by
  intro k
  repeat (first | with_reducible refine rg ?_ | ((with_reducible apply pv); (exact opv)) | ((with_reducible apply gT); (exact rfl); (exact rfl); (first | assumption | exact rfl)) | ((with_reducible apply gF); (exact rfl); (exact rfl); (first | assumption | exact rfl)) | ((with_reducible apply gU); (exact rfl); (exact rfl)) | ((with_reducible apply s0a); (exact rfl); (exact rfl); (exact gwS); (intro _; exact opv)) | ((with_reducible apply sUa); (exact rfl); (exact gUS)) | ((with_reducible apply s1a); (exact rfl); (exact rfl); (exact gwS); (exact opv)) | ((with_reducible apply And.intro); (exact stS)) | ((with_reducible apply qv); (intro _ _; exact opq)) | ((with_reducible apply qgT); (exact rfl); (exact rfl); (first | assumption | exact rfl)) | ((with_reducible apply qgF); (exact rfl); (exact rfl); (first | assumption | exact rfl)) | ((with_reducible apply qgU); (exact rfl); (exact rfl)) | ((with_reducible apply t0a); (exact rfl); (exact rfl); (exact rfl); (exact gwS); (intro _; exact opv)) | ((with_reducible apply tUa); (exact rfl); (exact rfl); (exact gUS); (kernel_rfl)) | ((with_reducible apply t1a); (exact rfl); (exact rfl); (exact rfl); (exact gwS); (exact opv)))
  exact k.out):A:=h ⟨k⟩
theorem pn {A B:Prop} (k:B) (h:Kp B→A:=by
  intro k
  repeat (first | with_reducible refine rg ?_ | ((with_reducible apply pv); (exact opv)) | ((with_reducible apply gT); (exact rfl); (exact rfl); (first | assumption | exact rfl)) | ((with_reducible apply gF); (exact rfl); (exact rfl); (first | assumption | exact rfl)) | ((with_reducible apply gU); (exact rfl); (exact rfl)) | ((with_reducible apply s0a); (exact rfl); (exact rfl); (exact gwS); (intro _; exact opv)) | ((with_reducible apply sUa); (exact rfl); (exact gUS)) | ((with_reducible apply s1a); (exact rfl); (exact rfl); (exact gwS); (exact opv)) | ((with_reducible apply And.intro); (exact stS)) | ((with_reducible apply qv); (intro _ _; exact opq)) | ((with_reducible apply qgT); (exact rfl); (exact rfl); (first | assumption | exact rfl)) | ((with_reducible apply qgF); (exact rfl); (exact rfl); (first | assumption | exact rfl)) | ((with_reducible apply qgU); (exact rfl); (exact rfl)) | ((with_reducible apply t0a); (exact rfl); (exact rfl); (exact rfl); (exact gwS); (intro _; exact opv)) | ((with_reducible apply tUa); (exact rfl); (exact rfl); (exact gUS); (kernel_rfl)) | ((with_reducible apply t1a); (exact rfl); (exact rfl); (exact rfl); (exact gwS); (exact opv)) | with_reducible refine nil ?_ | with_reducible refine Y7h ?_ | with_reducible refine t_blk ?_ | with_reducible refine se ?_ | with_reducible refine seP ?_ | with_reducible refine te ?_ | with_reducible refine teP ?_ | with_reducible refine qn ?_ | with_reducible refine skp ?_ | with_reducible refine xt ?_ | with_reducible refine x_then ?_ | with_reducible refine x_eq ?_ | with_reducible refine x_ne (by decide) ?_ | with_reducible refine rtn ?_ | with_reducible refine r_then ?_ | with_reducible refine r_blk ?_)
  exact k.out):A:=h ⟨k⟩
theorem cd {A B1 B2:Prop} {α : Type} {b:Bool} {X Y Z : α} (hm:(bif b then X else Y)=Z) (h1:B1) (h2:B2) (h:(bif b then X else Y)=Z→Kp B1→Kp B2→A:=by
  intro hm k1 k2
  refine pn ?_
  exact cndH rfl hm k1.out k2.out):A:=h hm ⟨h1⟩ ⟨h2⟩
theorem t1W {A B:Prop} (js R ks:List Nat) (k:B) (h:KN js→KN R→KN ks→Kp B→A:=by
  intro a b c k
  refine pu ?_
  refine twK a rfl (wt_of rfl rfl gwS) rfl (by kernel_rfl) (by kernel_rfl) ⟨?_,qZt⟩
  refine brK b c rfl (by kernel_rfl) (by kernel_rfl) gwS (by kernel_rfl) ?_
  exact k.out):A:=h ⟨qZt⟩ ⟨qZt⟩ ⟨qZt⟩ ⟨k⟩
theorem tF {A B:Prop} (js:List Nat) (k:B) (h:KN js→Kp B→A:=by
  intro a k
  refine pu ?_
  refine twK a rfl (wt_of rfl rfl gwS) rfl (by kernel_rfl) (by kernel_rfl) ?_
  exact k.out):A:=h ⟨qZt⟩ ⟨k⟩
theorem brW {A B:Prop} (R ks:List Nat) (k:B) (h:KN R→KN ks→Kp B→A:=by
  intro b c k
  refine brK b c rfl (by kernel_rfl) (by kernel_rfl) gwS (by kernel_rfl) ?_
  exact k.out):A:=h ⟨qZt⟩ ⟨qZt⟩ ⟨k⟩
theorem s2W {A B:Prop} (ks:List Nat) (k:B) (h:KN ks→Kp B→A:=by
  intro c k
  refine pu ?_
  refine s2K c rfl gwS rfl (by kernel_rfl) ?_
  exact k.out):A:=h ⟨qZt⟩ ⟨k⟩
theorem je {A F:Prop} {g:World} {T:Nat→Prop} {w:World} {G:List Y8} (hm:F) (S:Sep g T w G) (h:F→Kp (Sep g T w G)→A:=by
  intro hm S
  refine pn ?_
  repeat' (first | with_reducible apply Exists.intro | with_reducible apply And.intro | exact hm | exact Y0b | exact S.out | exact ch | exact qZt | assumption | exact Y4v (by assumption) ch | exact V4)):A:=h hm ⟨S⟩
theorem lg {A N:Prop} {α : Type} {x z : α} {g:World} {T:Nat→Prop} {w:World} {G:List Y8} (hm:some x=some z) (hn:N) (S:Sep g T w G) (h:some x=some z→N→Kp (Sep g T w G)→A:=by
  intro hm hn S
  cases oI hm
  refine pn ?_
  refine⟨_,Nat.lt_succ_self _,?_⟩
  repeat' (first | with_reducible apply Exists.intro | with_reducible apply And.intro | exact hn | exact Y0b | exact S.out | exact ch | exact qZt | assumption | exact Y4v (by assumption) ch | exact V4)):A:=h hm hn ⟨S⟩
theorem rvsS {n:NF} {J:Nat→Value} {L:List (Nat×Value)} {w:World} {rs:List ResultVar} {vs:List Value} (h:RVs Tryz.prog n J L w rs vs:=by repeat (first | exact rv0 | (apply rvT; (exact rfl)) | (apply rvC; (exact rfl); (exact tyA); (exact Sep.bx (by assumption) atS)) | (apply rvG; (exact rfl); (exact tyA); (exact tyS); (exact Sep.bx (by assumption) atS); (exact rfl)))):RVs Tryz.prog n J L w rs vs:=h
theorem re {A:Prop} {α : Type} {x z : α} {g:World} {T:Nat→Prop} {w:World} {G:List Y8} (hm:some x=some z) (S:Sep g T w G) (h:some x=some z→Kp (Sep g T w G)→A:=by
  intro hm S
  cases oI hm
  refine pn ?_
  first | refine ret1 rfl rfl ?_ | refine ret0 rfl ?_ | refine ret2 rfl rfl rfl ?_ | (apply retN; (exact rfl); (exact rvsS); (exact rfl))
  refine rsm S.out ch ?_
  repeat' (first | with_reducible apply Exists.intro | with_reducible apply And.intro | exact rfl | exact S.out.unb | exact qZt | assumption | exact Y4v (by assumption) ch | exact V4)):A:=h hm ⟨S⟩
theorem sS {A B H1 H2:Prop} (l:List (Nat×Value)) (a:H1) (b:H2) (k:B) (h:Kl l→H1→H2→Kp B→A:=by
  intro l a b k
  refine pu ?_
  refine s2k l rfl gwS rfl (by kernel_rfl) ?_
  exact calS a rfl b rfl k.out):A:=h ⟨qZt⟩ a b ⟨k⟩
theorem sN {A B H1 H2:Prop} (l:List (Nat×Value)) (a:H1) (b:H2) (k:B) (h:Kl l→H1→H2→Kp B→A:=by
  intro l a b k
  refine pu ?_
  refine s2k l rfl gwS rfl (by kernel_rfl) ?_
  exact calN a rfl b rfl k.out):A:=h ⟨qZt⟩ a b ⟨k⟩
theorem osT {A B:Prop} (q:Nat) {g:World} {T:Nat→Prop} {w:World} {G:List Y8} (hS:Sep g T w G) (k:B) (h:Kq q→Sep g T w G→Kp B→A:=by
  intro q hS k
  exact ost q hS tyS k.out):A:=h ⟨qZt⟩ hS ⟨k⟩
theorem osB {A B:Prop} (q j:Nat) {b o:Nat} {H:List Value→Y8} (hL:Ln b o H) {g:World} {T:Nat→Prop} {w:World} {G:List Y8} (hS:Sep g T w G) (k:B) (h:Kq q→Kq j→Ln b o H→Sep g T w G→Kp B→A:=by
  intro q j hL hS k
  exact osb q j hL hS tyS k.out):A:=h ⟨qZt⟩ ⟨qZt⟩ hL hS ⟨k⟩
theorem oaL {A B:Prop} (zs:List Value) {g:World} {T:Nat→Prop} {w:World} {G:List Y8} (hS:Sep g T w G) (k:B) (h:Kv zs→Sep g T w G→Kp B→A:=by
  intro zs hS k
  exact oal zs hS tyZ k.out):A:=h ⟨qZt⟩ hS ⟨k⟩
theorem obX {A B:Prop} (cs:List Value) {g:World} {T:Nat→Prop} {w:World} {G:List Y8} (hS:Sep g T w G) (k:B) (h:Kv cs→Sep g T w G→Kp B→A:=by
  intro cs hS k
  exact obx cs hS k.out):A:=h ⟨qZt⟩ hS ⟨k⟩
theorem obS {A B:Prop} {g:World} {T:Nat→Prop} {w:World} {G:List Y8} {α : Type} {r:Rp α} {l:List α} {css:List (List Value)} (hS:Sep g T w G) (a:Y0f r T w css l) (k:B) (h:Sep g T w G→Y0f r T w css l→Kp B→A:=by
  intro hS a k
  exact obs hS a tyU tyS tyZ k.out):A:=h hS a ⟨k⟩
theorem oS {A B H1 H2:Prop} (a:H1) (b:H2) (k:B) (h:H1→H2→Kp B→A:=by
  intro a b k
  exact calS a rfl b rfl k.out):A:=h a b ⟨k⟩
theorem oN {A B H1 H2:Prop} (a:H1) (b:H2) (k:B) (h:H1→H2→Kp B→A:=by
  intro a b k
  exact calN a rfl b rfl k.out):A:=h a b ⟨k⟩
theorem oP {A B H1 H2:Prop} (a:H1) (b:H2) (k:B) (h:H1→H2→Kp B→A:=by
  intro a b k
  exact Q7m a rfl b rfl k.out):A:=h a b ⟨k⟩
theorem sT {A B:Prop} (q:Nat) {g:World} {T:Nat→Prop} {w:World} {G:List Y8} (hS:Sep g T w G) (k:B) (h:Kq q→Sep g T w G→Kp B→A:=by
  intro q hS k
  refine pu ?_
  exact wst q hS tyS k.out):A:=h ⟨qZt⟩ hS ⟨k⟩
theorem sB {A B:Prop} (q j:Nat) {b o:Nat} {H:List Value→Y8} (hL:Ln b o H) {g:World} {T:Nat→Prop} {w:World} {G:List Y8} (hS:Sep g T w G) (k:B) (h:Kq q→Kq j→Ln b o H→Sep g T w G→Kp B→A:=by
  intro q j hL hS k
  refine pu ?_
  exact wsb q j hL hS tyS k.out):A:=h ⟨qZt⟩ ⟨qZt⟩ hL hS ⟨k⟩
theorem aL {A B:Prop} (zs:List Value) {g:World} {T:Nat→Prop} {w:World} {G:List Y8} (hS:Sep g T w G) (k:B) (h:Kv zs→Sep g T w G→Kp B→A:=by
  intro zs hS k
  refine pu ?_
  exact wal zs hS tyZ k.out):A:=h ⟨qZt⟩ hS ⟨k⟩
theorem bX {A B:Prop} (cs:List Value) {g:World} {T:Nat→Prop} {w:World} {G:List Y8} (hS:Sep g T w G) (k:B) (h:Kv cs→Sep g T w G→Kp B→A:=by
  intro cs hS k
  refine pu ?_
  exact wbx cs hS k.out):A:=h ⟨qZt⟩ hS ⟨k⟩
theorem bS {A B:Prop} {g:World} {T:Nat→Prop} {w:World} {G:List Y8} {α : Type} {r:Rp α} {l:List α} {css:List (List Value)} (hS:Sep g T w G) (a:Y0f r T w css l) (k:B) (h:Sep g T w G→Y0f r T w css l→Kp B→A:=by
  intro hS a k
  refine pu ?_
  exact wbs hS a tyU tyS tyZ k.out):A:=h hS a ⟨k⟩
theorem tyE {e z:Nat} (h:Q0j Tryz.prog e z:=by first | exact el113 | exact el104 | exact el86 | exact el136 | exact el96 | exact el142 | exact el79 | exact el92 | exact el122 | exact el163 | exact el145 | exact el5 | exact el49 | exact el3 | exact el51 | exact el171 | exact el32 | exact el102 | exact el67 | exact el106):Q0j Tryz.prog e z:=h
theorem oaO {A B:Prop} (q:Nat) {g:World} {T:Nat→Prop} {w:World} {G:List Y8} {m:Nat} (hS:Sep g T w G) (a:m≤8589934592) (k:B) (h:Kq q→Sep g T w G→m≤8589934592→Kp B→A:=by
  intro q hS a k
  exact oao q hS Y3n tyU tyE a k.out):A:=h ⟨qZt⟩ hS a ⟨k⟩
theorem aO {A B:Prop} (q:Nat) {g:World} {T:Nat→Prop} {w:World} {G:List Y8} {m:Nat} (hS:Sep g T w G) (a:m≤8589934592) (k:B) (h:Kq q→Sep g T w G→m≤8589934592→Kp B→A:=by
  intro q hS a k
  refine pu ?_
  exact wao q hS Y3n tyU tyE a k.out):A:=h ⟨qZt⟩ hS a ⟨k⟩
theorem cS {A B H1 H2:Prop} (a:H1) (b:H2) (k:B) (h:H1→H2→Kp B→A:=by
  intro a b k
  refine pu ?_
  exact wcS a b k.out):A:=h a b ⟨k⟩
theorem cN {A B H1 H2:Prop} (a:H1) (b:H2) (k:B) (h:H1→H2→Kp B→A:=by
  intro a b k
  refine pu ?_
  exact wcN a b k.out):A:=h a b ⟨k⟩
theorem cB {A B H1 H2 H3:Prop} (a:H1) (hm:H2) (c:H3) (k:B) (h:H1→H2→H3→Kp B→A:=by
  intro a hm c k
  refine pu ?_
  exact wcB a hm c k.out):A:=h a hm c ⟨k⟩
theorem cBN {A B H1 H2 H3:Prop} (a:H1) (hm:H2) (c:H3) (k:B) (h:H1→H2→H3→Kp B→A:=by
  intro a hm c k
  refine pu ?_
  exact wcBN a hm c k.out):A:=h a hm c ⟨k⟩
theorem cP {A B B2 H1 H2 H3:Prop} (a:H1) (hm:H2) (c:H3) (k:B) (k2:B2) (h:H1→H2→H3→Kp B→Kp B2→A:=by
  intro a hm c k k2
  refine pu ?_
  exact wcP a hm c k.out k2.out):A:=h a hm c ⟨k⟩ ⟨k2⟩
theorem cPN {A B B2 H1 H2 H3:Prop} (a:H1) (hm:H2) (c:H3) (k:B) (k2:B2) (h:H1→H2→H3→Kp B→Kp B2→A:=by
  intro a hm c k k2
  refine pu ?_
  exact wcPN a hm c k.out k2.out):A:=h a hm c ⟨k⟩ ⟨k2⟩
theorem pe {A:Prop} {α : Type} {x z : α} {g:World} {T:Nat→Prop} {w:World} {G:List Y8} (hm:some x=some z) (S:Sep g T w G) (h:some x=some z→Kp (Sep g T w G)→A:=by
  intro hm S
  cases oI hm
  refine pn ?_
  repeat (first | with_reducible refine Y7o ?_ | with_reducible refine p_blk ?_)
  first | refine panED ?_ | refine panE ?_ | refine endO rfl ?_ | refine endR rfl ?_
  refine psm S.out ch ?_
  repeat' (first | with_reducible apply Exists.intro | with_reducible apply And.intro | exact rfl | exact S.out.unb | exact qZt | assumption | exact Y4v (by assumption) ch | exact V4)):A:=h hm ⟨S⟩
theorem eo {A:Prop} {α : Type} {x z : α} {g:World} {T:Nat→Prop} {w:World} {G:List Y8} (hm:some x=some z) (S:Sep g T w G) (h:some x=some z→Kp (Sep g T w G)→A:=by
  intro hm S
  cases oI hm
  refine pn ?_
  repeat (first | with_reducible refine Y7o ?_ | with_reducible refine p_blk ?_)
  first | refine endO rfl ?_ | refine endR rfl ?_
  refine eoR (resN rfl rvsS rfl) ?_
  refine rsm S.out ch ?_
  repeat' (first | with_reducible apply Exists.intro | with_reducible apply And.intro | exact rfl | exact S.out.unb | exact qZt | assumption | exact Y4v (by assumption) ch | exact V4)):A:=h hm ⟨S⟩
theorem rqS {l:List Oper} {Q:Exit→Act→World→Prop} {T:Nat→Prop} {w:World} {G:List Y8} {a:Act} {id:Nat} (hS:Sep g T w G) (h:wpQuiet Tryz.prog l.toArray (QC T w) (fun a1 => ∀ w1 T1,Im T w T1 w1→Sep g T1 w1 G→Q .normal a1 w1) l a) (hB:Region.lexB .any l.toArray=true:=by kernel_rfl):(Code.region id l.toArray true).wp Tryz.prog Q a w :=
  rq mix hB hS.lt (quiet_mono (fun a1 h w1 T1 i=>h w1 T1 i.imm (hS.keep i fun _ h=>h)) h)
theorem rsS {l:List Oper} {Q:Exit→Act→World→Prop} {g:World} {T:Nat→Prop} {w:World} {G:List Y8} {n:NF} {J:Nat→Value} {L:List (Nat×Value)} {id:Nat} (fl ord:List Nat) (hS:Sep g T w G) (k : ∀ w1,Im T w T w1→Sep g T w1 G→C7 Tryz.prog l fl (NoPanic Q) [] ord (env n J L) w1) (hB:serB l fl ord=true:=by kernel_rfl):(Code.region id l.toArray true).wp Tryz.prog Q (env n J L) w :=
  rs fl ord mix hB hS.lt fun w1 i=>k w1 i.imm (hS.keep i fun _ h=>h)
theorem Z0c {l:List Oper} {Q:Exit→Act→World→Prop} {g:World} {T:Nat→Prop} {w:World} {G:List Y8} {n:NF} {J:Nat→Value} {L:List (Nat×Value)} {id:Nat} (fl ord:List Nat) (hS:Sep g T w G) (hQ:PQ l Q) (k : ∀ w1,Im T w T w1→Sep g T w1 G→C7 Tryz.prog l fl Q [] ord (env n J L) w1) (hB:serB l fl ord=true:=by kernel_rfl):(Code.region id l.toArray true).wp Tryz.prog Q (env n J L) w :=
  rsP fl ord mix hB hS.lt hQ fun w1 i=>k w1 i.imm (hS.keep i fun _ h=>h)
theorem rtS {l:List Oper} {Q:Exit→Act→World→Prop} {g:World} {T:Nat→Prop} {w:World} {G:List Y8} {n:NF} {J:Nat→Value} {L:List (Nat×Value)} {id:Nat} (fl ord:List Nat) (hS:Sep g T w G) (k : ∀ w1,Im T w T w1→Sep g T w1 G→Q0q Tryz.prog l fl (NoPanic Q) ord.length [] ord (env n J L) w1) (hB:trB l fl ord=true:=by kernel_rfl):(Code.region id l.toArray true).wp Tryz.prog Q (env n J L) w :=
  rt fl ord mix hB hS.lt fun w1 i=>k w1 i.imm (hS.keep i fun _ h=>h)
theorem rtPS {l:List Oper} {Q:Exit→Act→World→Prop} {g:World} {T:Nat→Prop} {w:World} {G:List Y8} {n:NF} {J:Nat→Value} {L:List (Nat×Value)} {id:Nat} (fl ord:List Nat) (hS:Sep g T w G) (hQ:PQ l Q) (k : ∀ w1,Im T w T w1→Sep g T w1 G→Q0q Tryz.prog l fl Q ord.length [] ord (env n J L) w1) (hB:trB l fl ord=true:=by kernel_rfl):(Code.region id l.toArray true).wp Tryz.prog Q (env n J L) w :=
  rtP fl ord mix hB hS.lt hQ fun w1 i=>k w1 i.imm (hS.keep i fun _ h=>h)
abbrev Z2l (x:B9)  : List Value := [qZs x.s,.int .i64 x.pos.Line,.int .i64 x.pos.Col]
abbrev Y8c (x:V0)  : List Value := [.int .i64 x.Kind,qZs x.Text,.int .u32 x.Num,.int .i64 x.Pos.Line,.int .i64 x.Pos.Col]
abbrev B0 (pos:Pos) (e:Int)  : List Value := [.int .i64 pos.Line,.int .i64 pos.Col,.int .i64 e]
abbrev Z3m (x:B3)  : List Value := [qZs x.Word,qZs x.Name,.int .i64 x.Stars]
abbrev F8 (x:Z8) (a9:Option Addr) (c9:Nat):List Value := [.int .i64 x.Kind,.int .i64 x.Pos.Line,.int .i64 x.Pos.Col,qZs x.Op,qZs x.Name,.int .u32 x.Num,qZs x.Type_.Word,qZs x.Type_.Name,.int .i64 x.Type_.Stars,.slice a9 (List.length x.Kids) c9]
abbrev Z5y (x:F2) (a6:Option Addr) (c6:Nat) (a7:Option Addr) (c7:Nat):List Value := [.int .i64 x.Pos.Line,.int .i64 x.Pos.Col,qZs x.Type_.Word,qZs x.Type_.Name,.int .i64 x.Type_.Stars,qZs x.Name,.slice a6 (List.length x.Dims) c6,.slice a7 (List.length x.Init) c7,.bool x.Brace]
abbrev Q8t (x:U0) (a3:Option Addr) (c3:Nat) (a4:Option Addr) (c4:Nat) (a5:Option Addr) (c5:Nat) (a6:Option Addr) (c6:Nat) (a7:Option Addr) (c7:Nat) (a8:Option Addr) (c8:Nat) (a9:Option Addr) (c9:Nat):List Value := [.int .i64 x.Kind,.int .i64 x.Pos.Line,.int .i64 x.Pos.Col,.slice a3 (List.length x.A) c3,.slice a4 (List.length x.B) c4,.slice a5 (List.length x.C) c5,.slice a6 (List.length x.Var) c6,.slice a7 (List.length x.Body) c7,.slice a8 (List.length x.Else) c8,.slice a9 (List.length x.Cases) c9]
abbrev Z9i (x:E8) (a4:Option Addr) (c4:Nat):List Value := [.int .i64 x.Pos.Line,.int .i64 x.Pos.Col,.bool x.Default,.int .u32 x.Num,.slice a4 (List.length x.Body) c4]
abbrev Y2p (x:D4) (a3:Option Addr) (c3:Nat):List Value := [.int .i64 x.Pos.Line,.int .i64 x.Pos.Col,qZs x.Name,.slice a3 (List.length x.Fields) c3]
abbrev Z5e (x:P3) (a6:Option Addr) (c6:Nat) (a7:Option Addr) (c7:Nat):List Value := [.int .i64 x.Pos.Line,.int .i64 x.Pos.Col,qZs x.Ret.Word,qZs x.Ret.Name,.int .i64 x.Ret.Stars,qZs x.Name,.slice a6 (List.length x.Params) c6,.slice a7 (List.length x.Body) c7]
abbrev Q2j (x:U4) (a4:Option Addr) (c4:Nat):List Value := [.int .i64 x.Type_.Kind,.int .i64 x.Type_.Elem,.int .i64 x.Type_.Len,qZs x.Type_.Name,.slice a4 (List.length x.Type_.Fields) c4,.int .i64 x.size,.int .i64 x.align,.bool x.open_]
abbrev Q9d (x:U8)  : List Value := [qZs x.Name,.int .i64 x.Type_,.int .i64 x.At]
abbrev X0u (x:Q7l)  : List Value := [qZs x.Name,.int .i64 x.Size,.int .i64 x.Align,.int .i64 x.Cell]
abbrev Y5l (x:Q6f) (a4:Option Addr) (c4:Nat):List Value := [.int .i64 x.Kind,.int .i64 x.Elem,.int .i64 x.Len,qZs x.Name,.slice a4 (List.length x.Fields) c4]
abbrev Q0f (x:Z7) (a9:Option Addr) (c9:Nat):List Value := [.int .i64 x.n,.int .i64 x.term.Kind,.int .i64 x.term.Fn,.int .u32 x.term.Num,.int .i64 x.term.Var,.bool x.term.Global,.int .i64 x.term.Size,.bool x.term.Post,.bool x.term.Ptr,.slice a9 (List.length x.term.Kids) c9,.bool x.lies]
abbrev V5 (x:Y4) (a8:Option Addr) (c8:Nat):List Value := [.int .i64 x.Kind,.int .i64 x.Fn,.int .u32 x.Num,.int .i64 x.Var,.bool x.Global,.int .i64 x.Size,.bool x.Post,.bool x.Ptr,.slice a8 (List.length x.Kids) c8]
abbrev Z9j (x:U6) (a1:Option Addr) (c1:Nat) (a2:Option Addr) (c2:Nat) (a4:Option Addr) (c4:Nat) (a5:Option Addr) (c5:Nat) (a6:Option Addr) (c6:Nat):List Value := [.int .i64 x.Kind,.slice a1 (List.length x.A) c1,.slice a2 (List.length x.Post) c2,.bool x.First,.slice a4 (List.length x.Body) c4,.slice a5 (List.length x.Else) c5,.slice a6 (List.length x.Cases) c6,.int .i64 x.Var]
abbrev X1q (x:Q8c) (a2:Option Addr) (c2:Nat):List Value := [.bool x.Default,.int .u32 x.Num,.slice a2 (List.length x.Body) c2]
abbrev cGCode (x:Q4d) (a3:Option Addr) (c3:Nat) (a4:Option Addr) (c4:Nat):List Value := [qZs x.Name,.bool x.Void,.int .i64 x.Params,.slice a3 (List.length x.Slots) c3,.slice a4 (List.length x.Body) c4]
abbrev iv (x:Int):Value := .int .i64 x
abbrev sv {α : Type} (a:Option Addr) (l:List α) (c:Nat):Value := .slice a (List.length l) c
abbrev pt (b o:Nat):Value := .pointer (some ⟨b,o,none⟩)
abbrev OA:=Option Addr
abbrev JV:=Nat→Value
abbrev TP:=Nat→Prop
abbrev zv1:List Value := [iv 0,iv 0,iv 0,.int .u32 0,iv 0,.bool false,iv 0,.bool false,.bool false,.slice none 0 0,.bool false]
abbrev zv2:List Value := [iv 0,iv 0,iv 0,qZs [],qZs [],.int .u32 0,qZs [],qZs [],iv 0,.slice none 0 0]
abbrev zv3:List Value := [iv 0,iv 0,.int .u32 0,iv 0,.bool false,iv 0,.bool false,.bool false,.slice none 0 0]
abbrev zv4:List Value := [iv 0,iv 0,qZs [],qZs [],iv 0,qZs [],.slice none 0 0,.slice none 0 0,.bool false]
abbrev zv5:List Value := [iv 0,.slice none 0 0,.slice none 0 0,.bool false,.slice none 0 0,.slice none 0 0,.slice none 0 0,iv 0]
abbrev zv6:List Value := [iv 0,iv 0,qZs [],qZs [],iv 0,qZs [],.slice none 0 0,.slice none 0 0]
abbrev zv7:List Value := [iv 0,iv 0,iv 0,qZs [],.slice none 0 0]
abbrev zv8:List Value := [iv 0,iv 0,iv 0,.slice none 0 0,.slice none 0 0,.slice none 0 0,.slice none 0 0,.slice none 0 0,.slice none 0 0,.slice none 0 0]
abbrev zv9:List Value := [iv 0,qZs [],.int .u32 0,iv 0,iv 0]
abbrev zv10:List Value := [qZs [],qZs [],iv 0]
abbrev zv11:List Value := [qZs [],.bool false,iv 0,.slice none 0 0,.slice none 0 0]
abbrev zv12:List Value := [iv 0,iv 0,qZs [],.slice none 0 0]
abbrev zv13:List Value := [.slice none 0 0,.slice none 0 0,.slice none 0 0]
abbrev zv14:List Value := [qZs [],iv 0,iv 0]
abbrev zv15:List Value := [.slice none 0 0,.slice none 0 0,.slice none 0 0,iv 0]
abbrev zv16:List Value := [iv 0,iv 0,iv 0,qZs [],.slice none 0 0,iv 0,iv 0,.bool false]
abbrev zv17:List Value := [.bool false,.int .u32 0,.slice none 0 0]
abbrev zv18:List Value := [iv 0,iv 0,.bool false,.int .u32 0,.slice none 0 0]

theorem lnS {b o:Nat} {H:List Value→Y8} (h:Ln b o H:=by first | assumption | exact Q4u _):Ln b o H:=h
theorem slS {α : Type} {r:Rp α} {T:Nat→Prop} {w:World} {v:Value} {l:List α} (h:SlR r T w v l:=by first | assumption | exact V4 | exact Y4v (by assumption) ch):SlR r T w v l:=h
theorem giS {T:Nat→Prop} {w:World} {k:Nat} (h:Gi T w k:=by first | assumption | exact Gi.mono (by assumption) ch):Gi T w k:=h
theorem eqS {α : Type} {m:Option α} {r : α} (h:m=some r:=by assumption):m=some r:=h
theorem hcE {H:List Value→Y8} {a b:List Value} (h:a=b):H a=H b:=by rw [h]
theorem owE {α : Type} {r:Rp α} {e:TypeId} {v:Value} {a b:List α} (h:a=b):K3 r e v a=K3 r e v b:=by rw [h]
theorem rmS {G G2:List Y8} {A:Y8} (h:Rmv G A G2:=by repeat (first | ((apply rmH); (exact rfl); (first | (with_reducible exact rfl) | ((with_reducible apply hcE); (exact rfl)) | ((with_reducible apply owE); (exact rfl)))) | ((apply rmT); (exact rfl)))):Rmv G A G2:=h
theorem pkZ {G N rest:List Y8} (h:Pks G N rest:=by repeat (first | exact pk0 | ((apply pkC); (exact rmS)))):Pks G N rest:=h
theorem ctS {C X:Prop} {g:World} {T:Nat→Prop} {w:World} {G:List Y8} (c:C) (hS:Sep g T w G) (h:C→Sep g T w G→X:=by
  intro c hS
  apply c
  try any_goals (with_reducible exact eqS)
  try any_goals ((fail_if_success (show Ln 123456789 _ _)); (with_reducible exact lnS))
  try any_goals ((apply Sep.pkC); (exact hS))
  repeat ((any_goals ((apply pkC); (exact rmS))); (try any_goals ((fail_if_success (show Ln 123456789 _ _)); (with_reducible exact lnS))))
  try any_goals (exact pk0)
  try any_goals (exact slS)
  try any_goals (exact giS)
  all_goals assumption):X:=h c hS
theorem reZ {A:Prop} {α : Type} {x z : α} {g:World} {T:Nat→Prop} {w:World} {G:List Y8} (hm:some x=some z) (hS:Sep g T w G) (h:some x=some z→Sep g T w G→A:=by
  intro hm hS
  cases oI hm
  first | refine ret1 rfl rfl ?_ | refine ret0 rfl ?_ | refine ret2 rfl rfl rfl ?_ | refine Y0x rfl ?_ | (apply retN; (exact rfl); (exact rvsS); (exact rfl))
  first | (refine rsm hS ch ?_; (repeat' (first | with_reducible apply Exists.intro | with_reducible apply And.intro | exact rfl | exact Sep.pkR hS pkZ | exact qZt | assumption | exact slS)); done) | (obtain⟨_,_,hS,_,rfl⟩:=hS.sl 0; refine rsm hS ch ?_; (repeat' (first | with_reducible apply Exists.intro | with_reducible apply And.intro | exact rfl | exact Sep.pkR hS pkZ | exact qZt | assumption | exact slS)); done) | (obtain⟨_,_,hS,_,rfl⟩:=hS.sl 1; refine rsm hS ch ?_; (repeat' (first | with_reducible apply Exists.intro | with_reducible apply And.intro | exact rfl | exact Sep.pkR hS pkZ | exact qZt | assumption | exact slS)); done) | (obtain⟨_,_,hS,_,rfl⟩:=hS.sl 2; refine rsm hS ch ?_; (repeat' (first | with_reducible apply Exists.intro | with_reducible apply And.intro | exact rfl | exact Sep.pkR hS pkZ | exact qZt | assumption | exact slS)); done) | (obtain⟨_,_,hS,_,rfl⟩:=hS.sl 3; refine rsm hS ch ?_; (repeat' (first | with_reducible apply Exists.intro | with_reducible apply And.intro | exact rfl | exact Sep.pkR hS pkZ | exact qZt | assumption | exact slS)); done) | (obtain⟨_,_,hS,_,rfl⟩:=hS.sl 4; refine rsm hS ch ?_; (repeat' (first | with_reducible apply Exists.intro | with_reducible apply And.intro | exact rfl | exact Sep.pkR hS pkZ | exact qZt | assumption | exact slS)); done) | (obtain⟨_,_,hS,_,rfl⟩:=hS.sl 5; refine rsm hS ch ?_; (repeat' (first | with_reducible apply Exists.intro | with_reducible apply And.intro | exact rfl | exact Sep.pkR hS pkZ | exact qZt | assumption | exact slS)); done)):A:=h hm hS
theorem peZ {A:Prop} {α : Type} {x z : α} {g:World} {T:Nat→Prop} {w:World} {G:List Y8} (hm:some x=some z) (hS:Sep g T w G) (h:some x=some z→Sep g T w G→A:=by
  intro hm hS
  cases oI hm
  repeat (first | with_reducible refine Y7o ?_ | with_reducible refine p_blk ?_)
  first | refine panED ?_ | refine panE ?_ | refine endO rfl ?_ | refine endR rfl ?_
  first | (refine psm hS ch ?_; (repeat' (first | with_reducible apply Exists.intro | with_reducible apply And.intro | exact rfl | exact Sep.pkR hS pkZ | exact qZt | assumption | exact slS)); done) | (obtain⟨_,_,hS,_,rfl⟩:=hS.sl 0; refine psm hS ch ?_; (repeat' (first | with_reducible apply Exists.intro | with_reducible apply And.intro | exact rfl | exact Sep.pkR hS pkZ | exact qZt | assumption | exact slS)); done) | (obtain⟨_,_,hS,_,rfl⟩:=hS.sl 1; refine psm hS ch ?_; (repeat' (first | with_reducible apply Exists.intro | with_reducible apply And.intro | exact rfl | exact Sep.pkR hS pkZ | exact qZt | assumption | exact slS)); done) | (obtain⟨_,_,hS,_,rfl⟩:=hS.sl 2; refine psm hS ch ?_; (repeat' (first | with_reducible apply Exists.intro | with_reducible apply And.intro | exact rfl | exact Sep.pkR hS pkZ | exact qZt | assumption | exact slS)); done) | (obtain⟨_,_,hS,_,rfl⟩:=hS.sl 3; refine psm hS ch ?_; (repeat' (first | with_reducible apply Exists.intro | with_reducible apply And.intro | exact rfl | exact Sep.pkR hS pkZ | exact qZt | assumption | exact slS)); done) | (obtain⟨_,_,hS,_,rfl⟩:=hS.sl 4; refine psm hS ch ?_; (repeat' (first | with_reducible apply Exists.intro | with_reducible apply And.intro | exact rfl | exact Sep.pkR hS pkZ | exact qZt | assumption | exact slS)); done) | (obtain⟨_,_,hS,_,rfl⟩:=hS.sl 5; refine psm hS ch ?_; (repeat' (first | with_reducible apply Exists.intro | with_reducible apply And.intro | exact rfl | exact Sep.pkR hS pkZ | exact qZt | assumption | exact slS)); done)):A:=h hm hS
theorem opx {P:Program} {n:NF} {J:Nat→Value} {L:List (Nat×Value)} {w:World} {o:Oper} {v:Value} (h:(execOp (ev n J L) o).run P w = .ok (.value v) w:=by
  first | ((with_reducible apply r_ss); (exact rfl); (first | exact rfl | exact⟨_,rfl⟩); (first | exact rfl | exact⟨_,rfl⟩); (assumption); (exact tyU)) | ((with_reducible apply Z6f); (exact rfl); (exact rfl); (assumption); (exact tyU)) | ((with_reducible apply r_slR); (exact rfl); (exact slS); (first | exact rfl | exact⟨_,rfl⟩); (first | exact rfl | exact⟨_,rfl⟩); (assumption); (exact tyU); (exact tyS); (exact rfl); (assumption)) | ((with_reducible apply r_fd1); (exact rfl); (exact tyU); (exact rfl); (exact tyA); (exact rfl)) | ((with_reducible apply zbd); (exact tyZ); (exact tyU); (first | exact(rfl:_ = [_]) | exact(rfl:_ = [_,_]) | exact(rfl:_ = [_,_,_]) | exact(rfl:_ = [_,_,_,_]) | exact(rfl:_ = [_,_,_,_,_]) | exact(rfl:_ = [_,_,_,_,_,_]) | exact(rfl:_ = [_,_,_,_,_,_,_]) | exact(rfl:_ = [_,_,_,_,_,_,_,_]) | exact(rfl:_ = [_,_,_,_,_,_,_,_,_]) | exact(rfl:_ = [_,_,_,_,_,_,_,_,_,_]) | exact(rfl:_ = [_,_,_,_,_,_,_,_,_,_,_]) | exact(rfl:_ = [_,_,_,_,_,_,_,_,_,_,_,_]) | exact(rfl:_ = [_,_,_,_,_,_,_,_,_,_,_,_,_]) | exact(rfl:_ = [_,_,_,_,_,_,_,_,_,_,_,_,_,_]) | exact(rfl:_ = [_,_,_,_,_,_,_,_,_,_,_,_,_,_,_]) | exact(rfl:_ = [_,_,_,_,_,_,_,_,_,_,_,_,_,_,_,_]) | exact(rfl:_ = [_,_,_,_,_,_,_,_,_,_,_,_,_,_,_,_,_])); (kernel_rfl)) | ((with_reducible apply r_zf); (exact rfl)) | ((with_reducible apply Y1s); (exact(rfl:_=Value.func _ _ _))) | ((with_reducible apply r_iq); (exact rfl); (exact rfl); (assumption)) | ((with_reducible apply r_irm); (exact rfl); (exact rfl); (assumption)) | ((with_reducible apply r_bn); (exact rfl); (exact rfl); (exact tyU)) | ((with_reducible apply r_bq); (exact rfl); (exact rfl); (exact tyU)) | ((with_reducible apply r_mif); (exact rfl); (exact tyU)) | ((with_reducible apply r_pne); (exact rfl); (exact rfl); (exact rfl); (exact tyU)) | ((with_reducible apply Y4m); (exact rfl); (exact rfl); (exact rfl); (exact tyU)) | ((with_reducible apply Y1r); (exact rfl); (exact rfl); (exact rfl); (exact tyU)) | ((with_reducible apply r_ldZ); (exact rfl); (exact tyA); (exact tyS); (first | assumption | exact cellsAt.sameT (by assumption) (by assumption) ch); (first | exact(rfl:_ = [_]) | exact(rfl:_ = [_,_]) | exact(rfl:_ = [_,_,_]) | exact(rfl:_ = [_,_,_,_]) | exact(rfl:_ = [_,_,_,_,_]) | exact(rfl:_ = [_,_,_,_,_,_]) | exact(rfl:_ = [_,_,_,_,_,_,_]) | exact(rfl:_ = [_,_,_,_,_,_,_,_]) | exact(rfl:_ = [_,_,_,_,_,_,_,_,_]) | exact(rfl:_ = [_,_,_,_,_,_,_,_,_,_]) | exact(rfl:_ = [_,_,_,_,_,_,_,_,_,_,_]) | exact(rfl:_ = [_,_,_,_,_,_,_,_,_,_,_,_]) | exact(rfl:_ = [_,_,_,_,_,_,_,_,_,_,_,_,_]) | exact(rfl:_ = [_,_,_,_,_,_,_,_,_,_,_,_,_,_]) | exact(rfl:_ = [_,_,_,_,_,_,_,_,_,_,_,_,_,_,_]) | exact(rfl:_ = [_,_,_,_,_,_,_,_,_,_,_,_,_,_,_,_]) | exact(rfl:_ = [_,_,_,_,_,_,_,_,_,_,_,_,_,_,_,_,_])); (exact rfl)) | ((with_reducible apply r_ldQ); (assumption); (exact rfl); (exact tyA); (exact tyS); (assumption); (exact atS); (first | exact(rfl:_ = [_]) | exact(rfl:_ = [_,_]) | exact(rfl:_ = [_,_,_]) | exact(rfl:_ = [_,_,_,_]) | exact(rfl:_ = [_,_,_,_,_]) | exact(rfl:_ = [_,_,_,_,_,_]) | exact(rfl:_ = [_,_,_,_,_,_,_]) | exact(rfl:_ = [_,_,_,_,_,_,_,_]) | exact(rfl:_ = [_,_,_,_,_,_,_,_,_]) | exact(rfl:_ = [_,_,_,_,_,_,_,_,_,_]) | exact(rfl:_ = [_,_,_,_,_,_,_,_,_,_,_]) | exact(rfl:_ = [_,_,_,_,_,_,_,_,_,_,_,_]) | exact(rfl:_ = [_,_,_,_,_,_,_,_,_,_,_,_,_]) | exact(rfl:_ = [_,_,_,_,_,_,_,_,_,_,_,_,_,_]) | exact(rfl:_ = [_,_,_,_,_,_,_,_,_,_,_,_,_,_,_]) | exact(rfl:_ = [_,_,_,_,_,_,_,_,_,_,_,_,_,_,_,_]) | exact(rfl:_ = [_,_,_,_,_,_,_,_,_,_,_,_,_,_,_,_,_])); (exact rfl))):(execOp (ev n J L) o).run P w = .ok (.value v) w:=h
theorem mkS {α : Type} {r:Rp α} {T:Nat→Prop} {w:World} {cs:List Value} {x : α} (h:r.rp T w cs x:=by first | assumption | exact rfl | ((apply Q9a) <;> (exact slS)) | ((apply Z2z) <;> (exact slS)) | ((apply L8) <;> (exact slS)) | ((apply Z3x) <;> (exact slS)) | ((apply Z8n) <;> (exact slS)) | ((apply Y1u) <;> (exact slS)) | ((apply Z5k) <;> (exact slS)) | ((apply Z9o) <;> (exact slS)) | ((apply Y7k) <;> (exact slS)) | ((apply Y4p) <;> (exact slS)) | ((apply Y4r) <;> (exact slS)) | ((apply Y4o) <;> (exact slS)) | ((apply Y3o) <;> (exact slS)) | ((apply Y2t) <;> (exact slS)) | ((apply X6) <;> (exact slS)) | ((apply Q0b) <;> (exact slS)) | ((apply Y0t) <;> (exact slS)) | ((apply Z5j) <;> (exact slS)) | ((apply X1z) <;> (exact slS)) | ((apply Y0s) <;> (exact slS)) | ((apply Y6k) <;> (exact slS)) | ((apply Q1g) <;> (exact slS)) | ((apply Y5t) <;> (exact slS)) | ((apply Z5a) <;> (exact slS)) | ((apply Y4s) <;> (exact slS)) | ((apply Y2u) <;> (exact slS))):r.rp T w cs x:=h
theorem jeZ {A F:Prop} {g:World} {T:Nat→Prop} {w:World} {G:List Y8} (hm:F) (hS:Sep g T w G) (h:F→Sep g T w G→A:=by
  intro hm hS
  first | ((repeat' (first | with_reducible apply Exists.intro | with_reducible apply And.intro | exact hm | exact rfl | exact Y0b | exact Sep.pkE hS pkZ | exact ch | exact qZt | assumption | exact slS)); done) | (obtain⟨_,_,hS,_,rfl⟩:=hS.sl 0; (repeat' (first | with_reducible apply Exists.intro | with_reducible apply And.intro | exact hm | exact rfl | exact Y0b | exact Sep.pkE hS pkZ | exact ch | exact qZt | assumption | exact slS)); done) | (obtain⟨_,_,hS,_,rfl⟩:=hS.sl 1; (repeat' (first | with_reducible apply Exists.intro | with_reducible apply And.intro | exact hm | exact rfl | exact Y0b | exact Sep.pkE hS pkZ | exact ch | exact qZt | assumption | exact slS)); done) | (obtain⟨_,_,hS,_,rfl⟩:=hS.sl 2; (repeat' (first | with_reducible apply Exists.intro | with_reducible apply And.intro | exact hm | exact rfl | exact Y0b | exact Sep.pkE hS pkZ | exact ch | exact qZt | assumption | exact slS)); done) | (obtain⟨_,_,hS,_,rfl⟩:=hS.sl 3; (repeat' (first | with_reducible apply Exists.intro | with_reducible apply And.intro | exact hm | exact rfl | exact Y0b | exact Sep.pkE hS pkZ | exact ch | exact qZt | assumption | exact slS)); done) | (obtain⟨_,_,hS,_,rfl⟩:=hS.sl 4; (repeat' (first | with_reducible apply Exists.intro | with_reducible apply And.intro | exact hm | exact rfl | exact Y0b | exact Sep.pkE hS pkZ | exact ch | exact qZt | assumption | exact slS)); done) | (obtain⟨_,_,hS,_,rfl⟩:=hS.sl 5; (repeat' (first | with_reducible apply Exists.intro | with_reducible apply And.intro | exact hm | exact rfl | exact Y0b | exact Sep.pkE hS pkZ | exact ch | exact qZt | assumption | exact slS)); done)):A:=h hm hS
theorem lgZ {A:Prop} {α : Type} {x z : α} {g:World} {T:Nat→Prop} {w:World} {G:List Y8} (hm:some x=some z) (hS:Sep g T w G) (h:some x=some z→Sep g T w G→A:=by
  intro hm hS
  cases oI hm
  refine⟨_,Nat.lt_succ_self _,?_⟩
  first | ((repeat' (first | with_reducible apply Exists.intro | with_reducible apply And.intro | exact hm | exact rfl | exact Y0b | exact Sep.pkE hS pkZ | exact ch | exact qZt | assumption | exact slS)); done) | (obtain⟨_,_,hS,_,rfl⟩:=hS.sl 0; (repeat' (first | with_reducible apply Exists.intro | with_reducible apply And.intro | exact hm | exact rfl | exact Y0b | exact Sep.pkE hS pkZ | exact ch | exact qZt | assumption | exact slS)); done) | (obtain⟨_,_,hS,_,rfl⟩:=hS.sl 1; (repeat' (first | with_reducible apply Exists.intro | with_reducible apply And.intro | exact hm | exact rfl | exact Y0b | exact Sep.pkE hS pkZ | exact ch | exact qZt | assumption | exact slS)); done) | (obtain⟨_,_,hS,_,rfl⟩:=hS.sl 2; (repeat' (first | with_reducible apply Exists.intro | with_reducible apply And.intro | exact hm | exact rfl | exact Y0b | exact Sep.pkE hS pkZ | exact ch | exact qZt | assumption | exact slS)); done) | (obtain⟨_,_,hS,_,rfl⟩:=hS.sl 3; (repeat' (first | with_reducible apply Exists.intro | with_reducible apply And.intro | exact hm | exact rfl | exact Y0b | exact Sep.pkE hS pkZ | exact ch | exact qZt | assumption | exact slS)); done) | (obtain⟨_,_,hS,_,rfl⟩:=hS.sl 4; (repeat' (first | with_reducible apply Exists.intro | with_reducible apply And.intro | exact hm | exact rfl | exact Y0b | exact Sep.pkE hS pkZ | exact ch | exact qZt | assumption | exact slS)); done) | (obtain⟨_,_,hS,_,rfl⟩:=hS.sl 5; (repeat' (first | with_reducible apply Exists.intro | with_reducible apply And.intro | exact hm | exact rfl | exact Y0b | exact Sep.pkE hS pkZ | exact ch | exact qZt | assumption | exact slS)); done)):A:=h hm hS
theorem eoZ {A:Prop} {α : Type} {x z : α} {g:World} {T:Nat→Prop} {w:World} {G:List Y8} (hm:some x=some z) (hS:Sep g T w G) (h:some x=some z→Sep g T w G→A:=by
  intro hm hS
  cases oI hm
  repeat (first | with_reducible refine Y7o ?_ | with_reducible refine p_blk ?_)
  first | refine endO rfl ?_ | refine endR rfl ?_
  refine eoR (resN rfl rvsS rfl) ?_
  first | (refine rsm hS ch ?_; (repeat' (first | with_reducible apply Exists.intro | with_reducible apply And.intro | exact rfl | exact Sep.pkR hS pkZ | exact qZt | assumption | exact slS)); done) | (obtain⟨_,_,hS,_,rfl⟩:=hS.sl 0; refine rsm hS ch ?_; (repeat' (first | with_reducible apply Exists.intro | with_reducible apply And.intro | exact rfl | exact Sep.pkR hS pkZ | exact qZt | assumption | exact slS)); done) | (obtain⟨_,_,hS,_,rfl⟩:=hS.sl 1; refine rsm hS ch ?_; (repeat' (first | with_reducible apply Exists.intro | with_reducible apply And.intro | exact rfl | exact Sep.pkR hS pkZ | exact qZt | assumption | exact slS)); done) | (obtain⟨_,_,hS,_,rfl⟩:=hS.sl 2; refine rsm hS ch ?_; (repeat' (first | with_reducible apply Exists.intro | with_reducible apply And.intro | exact rfl | exact Sep.pkR hS pkZ | exact qZt | assumption | exact slS)); done) | (obtain⟨_,_,hS,_,rfl⟩:=hS.sl 3; refine rsm hS ch ?_; (repeat' (first | with_reducible apply Exists.intro | with_reducible apply And.intro | exact rfl | exact Sep.pkR hS pkZ | exact qZt | assumption | exact slS)); done) | (obtain⟨_,_,hS,_,rfl⟩:=hS.sl 4; refine rsm hS ch ?_; (repeat' (first | with_reducible apply Exists.intro | with_reducible apply And.intro | exact rfl | exact Sep.pkR hS pkZ | exact qZt | assumption | exact slS)); done) | (obtain⟨_,_,hS,_,rfl⟩:=hS.sl 5; refine rsm hS ch ?_; (repeat' (first | with_reducible apply Exists.intro | with_reducible apply And.intro | exact rfl | exact Sep.pkR hS pkZ | exact qZt | assumption | exact slS)); done)):A:=h hm hS
theorem zr {A H:Prop} {g:World} {T:Nat→Prop} {w:World} {G:List Y8} (hm:H) (hS:Sep g T w G) (h:H→Sep g T w G→A:=by
  intro hm hS
  try simp only [Z8i,atA,N9,List.range',List.cons_append,List.nil_append,List.append_nil,List.append_assoc] at hS
  repeat' (first | (obtain⟨_,hx,hm⟩:=bindI hm; (try (first | (obtain⟨_,hr,_,_⟩:=ixS hS hx (by assumption); (first | (obtain rfl:=Q1u hr) | (obtain rfl:=Q5x hr) | (obtain⟨_,_,rfl,_⟩:=K2 hr) | (obtain⟨_,_,_,_,rfl,_,_⟩:=Q5g hr) | (obtain⟨_,_,rfl,_⟩:=Q7b hr) | (obtain⟨_,_,_,_,_,_,_,_,_,_,_,_,_,_,rfl,_,_,_,_,_,_,_⟩:=Z3w hr) | (obtain⟨_,_,rfl,_⟩:=Z1z hr) | (obtain⟨_,_,_,_,rfl,_,_⟩:=Q6e hr) | (obtain⟨_,_,_,_,_,_,rfl,_,_,_⟩:=Z8p hr) | (obtain rfl:=Z1i hr) | (obtain rfl:=Z6h hr) | (obtain⟨_,_,rfl,_⟩:=Z5i hr) | (obtain rfl:=Z0o hr) | (obtain rfl:=Z8o hr) | (obtain⟨_,_,rfl,_⟩:=Q9w hr) | (obtain⟨_,_,_,_,_,_,_,_,_,_,rfl,_,_,_,_,_⟩:=Z6i hr) | (obtain⟨_,_,rfl,_⟩:=Y1v hr) | (obtain⟨_,_,_,_,rfl,_,_⟩:=Q9x hr) | (obtain⟨_,_,_,_,_,_,rfl,_,_,_⟩:=Y3d hr) | (obtain rfl:=Z3a hr) | (obtain⟨_,_,rfl,_⟩:=Z8m hr) | (obtain⟨_,_,rfl,_⟩:=C6 hr) | (obtain⟨_,_,rfl,_⟩:=Z7f hr) | (obtain⟨_,_,rfl,_⟩:=Q2f hr) | (obtain⟨_,_,rfl,_⟩:=Z5l hr) | (obtain rfl:=Q9l hr))) | (obtain⟨_,hr,_⟩:=SlV.ixcS (Sep.own hS atS).v hx rfl; (first | (obtain rfl:=Q1u hr) | (obtain rfl:=Q5x hr) | (obtain⟨_,_,rfl,_⟩:=K2 hr) | (obtain⟨_,_,_,_,rfl,_,_⟩:=Q5g hr) | (obtain⟨_,_,rfl,_⟩:=Q7b hr) | (obtain⟨_,_,_,_,_,_,_,_,_,_,_,_,_,_,rfl,_,_,_,_,_,_,_⟩:=Z3w hr) | (obtain⟨_,_,rfl,_⟩:=Z1z hr) | (obtain⟨_,_,_,_,rfl,_,_⟩:=Q6e hr) | (obtain⟨_,_,_,_,_,_,rfl,_,_,_⟩:=Z8p hr) | (obtain rfl:=Z1i hr) | (obtain rfl:=Z6h hr) | (obtain⟨_,_,rfl,_⟩:=Z5i hr) | (obtain rfl:=Z0o hr) | (obtain rfl:=Z8o hr) | (obtain⟨_,_,rfl,_⟩:=Q9w hr) | (obtain⟨_,_,_,_,_,_,_,_,_,_,rfl,_,_,_,_,_⟩:=Z6i hr) | (obtain⟨_,_,rfl,_⟩:=Y1v hr) | (obtain⟨_,_,_,_,rfl,_,_⟩:=Q9x hr) | (obtain⟨_,_,_,_,_,_,rfl,_,_,_⟩:=Y3d hr) | (obtain rfl:=Z3a hr) | (obtain⟨_,_,rfl,_⟩:=Z8m hr) | (obtain⟨_,_,rfl,_⟩:=C6 hr) | (obtain⟨_,_,rfl,_⟩:=Z7f hr) | (obtain⟨_,_,rfl,_⟩:=Q2f hr) | (obtain⟨_,_,rfl,_⟩:=Z5l hr) | (obtain rfl:=Q9l hr)))))) | (obtain⟨hro,hm⟩:=bindR hm) | (obtain⟨hnz,hm⟩:=bindN hm) | (obtain⟨_,hx,hm⟩:=bindU hm; (try (obtain⟨_,_,he,_⟩:=SlR.part (slS (by assumption)) hx))) | with_reducible refine rg ?_ | ((with_reducible apply pv); (exact opv)) | ((with_reducible apply gT); (exact rfl); (exact rfl); (first | assumption | exact rfl)) | ((with_reducible apply gF); (exact rfl); (exact rfl); (first | assumption | exact rfl)) | ((with_reducible apply gU); (exact rfl); (exact rfl)) | ((with_reducible apply s0a); (exact rfl); (exact rfl); (exact gwS); (intro _; exact opv)) | ((with_reducible apply sUa); (exact rfl); (exact gUS)) | ((with_reducible apply s1a); (exact rfl); (exact rfl); (exact gwS); (exact opv)) | ((with_reducible apply And.intro); (exact stS)) | ((with_reducible apply qv); (intro _ _; exact opq)) | ((with_reducible apply qgT); (exact rfl); (exact rfl); (first | assumption | exact rfl)) | ((with_reducible apply qgF); (exact rfl); (exact rfl); (first | assumption | exact rfl)) | ((with_reducible apply qgU); (exact rfl); (exact rfl)) | ((with_reducible apply t0a); (exact rfl); (exact rfl); (exact rfl); (exact gwS); (intro _; exact opv)) | ((with_reducible apply tUa); (exact rfl); (exact rfl); (exact gUS); (kernel_rfl)) | ((with_reducible apply t1a); (exact rfl); (exact rfl); (exact rfl); (exact gwS); (exact opv)) | with_reducible refine nil ?_ | with_reducible refine Y7h ?_ | with_reducible refine t_blk ?_ | with_reducible refine se ?_ | with_reducible refine seP ?_ | with_reducible refine te ?_ | with_reducible refine teP ?_ | with_reducible refine qn ?_ | with_reducible refine skp ?_ | with_reducible refine xt ?_ | with_reducible refine x_then ?_ | with_reducible refine x_eq ?_ | with_reducible refine x_ne (by decide) ?_ | with_reducible refine rtn ?_ | with_reducible refine r_then ?_ | with_reducible refine r_blk ?_ | ((with_reducible apply pv); (exact opx)) | ((with_reducible apply zcP); (exact hS); (exact hm); (exact rfl); (exact inferInstance); (exact rfl); (intro c; exact ctS c hS); (all_goals (intro y v T w im h hm; (repeat (first | (obtain⟨rfl,h⟩:=h) | (obtain⟨_,h⟩:=h))); (have hS:=(by assumption:Sep _ _ w _))))) | ((with_reducible apply zcPN); (exact hS); (exact hm); (exact rfl); (exact inferInstance); (exact rfl); (intro c; exact ctS c hS); (all_goals (intro y v T w im h hm; (repeat (first | (obtain⟨rfl,h⟩:=h) | (obtain⟨_,h⟩:=h))); (have hS:=(by assumption:Sep _ _ w _))))) | ((with_reducible apply zcB); (exact hS); (exact hm); (exact rfl); (exact inferInstance); (exact rfl); (intro c; exact ctS c hS); (all_goals (intro y v T w im h hm; (repeat (first | (obtain⟨rfl,h⟩:=h) | (obtain⟨_,h⟩:=h))); (have hS:=(by assumption:Sep _ _ w _))))) | ((with_reducible apply zcBN); (exact hS); (exact hm); (exact rfl); (exact inferInstance); (exact rfl); (intro c; exact ctS c hS); (all_goals (intro y v T w im h hm; (repeat (first | (obtain⟨rfl,h⟩:=h) | (obtain⟨_,h⟩:=h))); (have hS:=(by assumption:Sep _ _ w _))))) | ((with_reducible apply zst); (exact hS); (exact rfl); (exact atS); (exact tyS); (exact rfl); (first | exact(rfl:_ = [_]) | exact(rfl:_ = [_,_]) | exact(rfl:_ = [_,_,_]) | exact(rfl:_ = [_,_,_,_]) | exact(rfl:_ = [_,_,_,_,_]) | exact(rfl:_ = [_,_,_,_,_,_]) | exact(rfl:_ = [_,_,_,_,_,_,_]) | exact(rfl:_ = [_,_,_,_,_,_,_,_]) | exact(rfl:_ = [_,_,_,_,_,_,_,_,_]) | exact(rfl:_ = [_,_,_,_,_,_,_,_,_,_]) | exact(rfl:_ = [_,_,_,_,_,_,_,_,_,_,_]) | exact(rfl:_ = [_,_,_,_,_,_,_,_,_,_,_,_]) | exact(rfl:_ = [_,_,_,_,_,_,_,_,_,_,_,_,_]) | exact(rfl:_ = [_,_,_,_,_,_,_,_,_,_,_,_,_,_]) | exact(rfl:_ = [_,_,_,_,_,_,_,_,_,_,_,_,_,_,_]) | exact(rfl:_ = [_,_,_,_,_,_,_,_,_,_,_,_,_,_,_,_]) | exact(rfl:_ = [_,_,_,_,_,_,_,_,_,_,_,_,_,_,_,_,_])); (exact rfl); (exact rfl); (exact rfl); (intro w im hS)) | ((with_reducible apply zsb); (exact hS); (exact rfl); (exact lnS); (exact atS); (exact tyS); (exact rfl); (first | exact(rfl:_ = [_]) | exact(rfl:_ = [_,_]) | exact(rfl:_ = [_,_,_]) | exact(rfl:_ = [_,_,_,_]) | exact(rfl:_ = [_,_,_,_,_]) | exact(rfl:_ = [_,_,_,_,_,_]) | exact(rfl:_ = [_,_,_,_,_,_,_]) | exact(rfl:_ = [_,_,_,_,_,_,_,_]) | exact(rfl:_ = [_,_,_,_,_,_,_,_,_]) | exact(rfl:_ = [_,_,_,_,_,_,_,_,_,_]) | exact(rfl:_ = [_,_,_,_,_,_,_,_,_,_,_]) | exact(rfl:_ = [_,_,_,_,_,_,_,_,_,_,_,_]) | exact(rfl:_ = [_,_,_,_,_,_,_,_,_,_,_,_,_]) | exact(rfl:_ = [_,_,_,_,_,_,_,_,_,_,_,_,_,_]) | exact(rfl:_ = [_,_,_,_,_,_,_,_,_,_,_,_,_,_,_]) | exact(rfl:_ = [_,_,_,_,_,_,_,_,_,_,_,_,_,_,_,_]) | exact(rfl:_ = [_,_,_,_,_,_,_,_,_,_,_,_,_,_,_,_,_])); (exact rfl); (exact rfl); (exact rfl); (intro w im hS)) | ((with_reducible apply zal); (exact hS); (exact tyZ); (first | exact(rfl:_ = [_]) | exact(rfl:_ = [_,_]) | exact(rfl:_ = [_,_,_]) | exact(rfl:_ = [_,_,_,_]) | exact(rfl:_ = [_,_,_,_,_]) | exact(rfl:_ = [_,_,_,_,_,_]) | exact(rfl:_ = [_,_,_,_,_,_,_]) | exact(rfl:_ = [_,_,_,_,_,_,_,_]) | exact(rfl:_ = [_,_,_,_,_,_,_,_,_]) | exact(rfl:_ = [_,_,_,_,_,_,_,_,_,_]) | exact(rfl:_ = [_,_,_,_,_,_,_,_,_,_,_]) | exact(rfl:_ = [_,_,_,_,_,_,_,_,_,_,_,_]) | exact(rfl:_ = [_,_,_,_,_,_,_,_,_,_,_,_,_]) | exact(rfl:_ = [_,_,_,_,_,_,_,_,_,_,_,_,_,_]) | exact(rfl:_ = [_,_,_,_,_,_,_,_,_,_,_,_,_,_,_]) | exact(rfl:_ = [_,_,_,_,_,_,_,_,_,_,_,_,_,_,_,_]) | exact(rfl:_ = [_,_,_,_,_,_,_,_,_,_,_,_,_,_,_,_,_])); (intro w b im hS)) | ((with_reducible apply zbx); (exact hS); (exact rfl); (first | exact(rfl:_ = [_]) | exact(rfl:_ = [_,_]) | exact(rfl:_ = [_,_,_]) | exact(rfl:_ = [_,_,_,_]) | exact(rfl:_ = [_,_,_,_,_]) | exact(rfl:_ = [_,_,_,_,_,_]) | exact(rfl:_ = [_,_,_,_,_,_,_]) | exact(rfl:_ = [_,_,_,_,_,_,_,_]) | exact(rfl:_ = [_,_,_,_,_,_,_,_,_]) | exact(rfl:_ = [_,_,_,_,_,_,_,_,_,_]) | exact(rfl:_ = [_,_,_,_,_,_,_,_,_,_,_]) | exact(rfl:_ = [_,_,_,_,_,_,_,_,_,_,_,_]) | exact(rfl:_ = [_,_,_,_,_,_,_,_,_,_,_,_,_]) | exact(rfl:_ = [_,_,_,_,_,_,_,_,_,_,_,_,_,_]) | exact(rfl:_ = [_,_,_,_,_,_,_,_,_,_,_,_,_,_,_]) | exact(rfl:_ = [_,_,_,_,_,_,_,_,_,_,_,_,_,_,_,_]) | exact(rfl:_ = [_,_,_,_,_,_,_,_,_,_,_,_,_,_,_,_,_])); (intro w b im hS)) | (refine cndH rfl hm ?_ ?_ <;> intro hb hm) | (refine cnd (b:=true) rfl (fun _ => ?_) (fun h=>nomatch h)) | (refine cnd (b:=false) rfl (fun h=>nomatch h) (fun _ => ?_)) | (with_reducible refine sq2 ?_) | (with_reducible refine blk ?_) | ((with_reducible apply wl); (exact rfl); (apply panO); (exact rfl)) | (exact nnS hm) | (exact reZ hm hS) | (exact peZ hm hS) | ((with_reducible apply (zbs 1)); (exact hS); (assumption); (first | exact⟨mkS,qZt⟩ | exact⟨mkS,mkS,qZt⟩ | exact⟨mkS,mkS,mkS,qZt⟩ | exact⟨mkS,mkS,mkS,mkS,qZt⟩); (exact tyU); (exact tyS); (exact tyZ); (exact rfl); (exact rfl); (exact rfl); (exact rfl); (kernel_rfl); (exact rfl); (intro w a m c im hS)) | ((with_reducible apply (zbs 2)); (exact hS); (assumption); (first | exact⟨mkS,qZt⟩ | exact⟨mkS,mkS,qZt⟩ | exact⟨mkS,mkS,mkS,qZt⟩ | exact⟨mkS,mkS,mkS,mkS,qZt⟩); (exact tyU); (exact tyS); (exact tyZ); (exact rfl); (exact rfl); (exact rfl); (exact rfl); (kernel_rfl); (exact rfl); (intro w a m c im hS)) | ((with_reducible apply (zbs 3)); (exact hS); (assumption); (first | exact⟨mkS,qZt⟩ | exact⟨mkS,mkS,qZt⟩ | exact⟨mkS,mkS,mkS,qZt⟩ | exact⟨mkS,mkS,mkS,mkS,qZt⟩); (exact tyU); (exact tyS); (exact tyZ); (exact rfl); (exact rfl); (exact rfl); (exact rfl); (kernel_rfl); (exact rfl); (intro w a m c im hS)) | ((with_reducible apply (zbs 4)); (exact hS); (assumption); (first | exact⟨mkS,qZt⟩ | exact⟨mkS,mkS,qZt⟩ | exact⟨mkS,mkS,mkS,qZt⟩ | exact⟨mkS,mkS,mkS,mkS,qZt⟩); (exact tyU); (exact tyS); (exact tyZ); (exact rfl); (exact rfl); (exact rfl); (exact rfl); (kernel_rfl); (exact rfl); (intro w a m c im hS)) | (exact lgZ hm hS) | (exact jeZ hm hS) | (exact eoZ hm hS) | (have hm:=Q6d hm (by assumption) (by assumption)) | (have hm:=Q0o hm (by assumption) (by assumption)) | ((with_reducible apply s0a); (exact rfl); (exact rfl); (exact gwS); (intro _; exact opx)) | ((with_reducible apply s1a); (exact rfl); (exact rfl); (exact gwS); (exact opx)) | ((with_reducible apply t0a); (exact rfl); (exact rfl); (exact rfl); (exact gwS); (intro _; exact opx)) | ((with_reducible apply t1a); (exact rfl); (exact rfl); (exact rfl); (exact gwS); (exact opx)) | ((with_reducible apply t0a); (exact rfl); (exact rfl); (exact rfl); (exact gwS); (intro _; exact opv)) | ((with_reducible apply tUa); (exact rfl); (exact rfl); (exact gUS); (kernel_rfl)) | ((with_reducible apply t1a); (exact rfl); (exact rfl); (exact rfl); (exact gwS); (exact opv)) | (with_reducible refine te ?_) | (with_reducible refine teP ?_) | (with_reducible refine se ?_) | (with_reducible refine seP ?_) | ((with_reducible apply idS); (obtain⟨y,hx,hm⟩:=bindS hm); (try (rcases y with e | y <;> first | (have hm:=K0 hm) | (have hm:=B8 hm)))) | ((with_reducible apply idT); (obtain⟨y,hx,hm⟩:=bindS hm); (try (rcases y with e | y <;> first | (have hm:=K0 hm) | (have hm:=B8 hm)))) | ((with_reducible apply s2Z); (assumption); (first | exact(rfl:_ = []) | exact(rfl:_ = [_]) | exact(rfl:_ = [_,_]) | exact(rfl:_ = [_,_,_]) | exact(rfl:_ = [_,_,_,_]) | exact(rfl:_ = [_,_,_,_,_]) | exact(rfl:_ = [_,_,_,_,_,_]) | exact(rfl:_ = [_,_,_,_,_,_,_]) | exact(rfl:_ = [_,_,_,_,_,_,_,_]) | exact(rfl:_ = [_,_,_,_,_,_,_,_,_]) | exact(rfl:_ = [_,_,_,_,_,_,_,_,_,_]) | exact(rfl:_ = [_,_,_,_,_,_,_,_,_,_,_]) | exact(rfl:_ = [_,_,_,_,_,_,_,_,_,_,_,_])); (exact rfl); (exact gwS); (exact rfl); (kernel_rfl)) | ((with_reducible apply twZ); (assumption); (exact rfl); (first | exact(rfl:_ = []) | exact(rfl:_ = [_]) | exact(rfl:_ = [_,_]) | exact(rfl:_ = [_,_,_]) | exact(rfl:_ = [_,_,_,_]) | exact(rfl:_ = [_,_,_,_,_]) | exact(rfl:_ = [_,_,_,_,_,_])); (exact rfl); (exact wt_of rfl rfl gwS); (exact rfl); (kernel_rfl); (kernel_rfl)) | (with_reducible exact brs0) | (with_reducible refine brsC ?_ ?_) | ((with_reducible apply brZ); (assumption); (first | exact(rfl:_ = []) | exact(rfl:_ = [_]) | exact(rfl:_ = [_,_]) | exact(rfl:_ = [_,_,_]) | exact(rfl:_ = [_,_,_,_]) | exact(rfl:_ = [_,_,_,_,_]) | exact(rfl:_ = [_,_,_,_,_,_]) | exact(rfl:_ = [_,_,_,_,_,_,_]) | exact(rfl:_ = [_,_,_,_,_,_,_,_]) | exact(rfl:_ = [_,_,_,_,_,_,_,_,_]) | exact(rfl:_ = [_,_,_,_,_,_,_,_,_,_]) | exact(rfl:_ = [_,_,_,_,_,_,_,_,_,_,_]) | exact(rfl:_ = [_,_,_,_,_,_,_,_,_,_,_,_]) | exact(rfl:_ = [_,_,_,_,_,_,_,_,_,_,_,_,_]) | exact(rfl:_ = [_,_,_,_,_,_,_,_,_,_,_,_,_,_]) | exact(rfl:_ = [_,_,_,_,_,_,_,_,_,_,_,_,_,_,_])); (first | exact(rfl:_ = []) | exact(rfl:_ = [_]) | exact(rfl:_ = [_,_]) | exact(rfl:_ = [_,_,_]) | exact(rfl:_ = [_,_,_,_]) | exact(rfl:_ = [_,_,_,_,_]) | exact(rfl:_ = [_,_,_,_,_,_]) | exact(rfl:_ = [_,_,_,_,_,_,_]) | exact(rfl:_ = [_,_,_,_,_,_,_,_]) | exact(rfl:_ = [_,_,_,_,_,_,_,_,_]) | exact(rfl:_ = [_,_,_,_,_,_,_,_,_,_]) | exact(rfl:_ = [_,_,_,_,_,_,_,_,_,_,_]) | exact(rfl:_ = [_,_,_,_,_,_,_,_,_,_,_,_])); (exact rfl); (kernel_rfl); (kernel_rfl); (exact gwS); (kernel_rfl)) | ((with_reducible apply zoS); (exact hS); (exact rfl); (exact inferInstance); (exact rfl); (intro c; exact ctS c hS); (intro v T w im h; (repeat (first | (obtain⟨rfl,h⟩:=h) | (obtain⟨_,h⟩:=h))); (have hS:=(by assumption:Sep _ _ w _)))) | ((with_reducible apply zoN); (exact hS); (exact rfl); (exact inferInstance); (exact rfl); (intro c; exact ctS c hS); (intro v T w im h; (repeat (first | (obtain⟨rfl,h⟩:=h) | (obtain⟨_,h⟩:=h))); (have hS:=(by assumption:Sep _ _ w _)))) | ((with_reducible apply zoE); (exact hS); (assumption); (exact rfl); (exact inferInstance); (exact rfl); (intro c; exact ctS c hS); (intro v T w im h; (repeat (first | (obtain⟨rfl,h⟩:=h) | (obtain⟨_,h⟩:=h))); (have hS:=(by assumption:Sep _ _ w _)))) | ((with_reducible apply zoK); (exact hS); (exact rfl); (exact inferInstance); (exact rfl); (intro c; exact ctS c hS); (exact rfl); (intro v T w im h; (repeat (first | (obtain⟨rfl,h⟩:=h) | (obtain⟨_,h⟩:=h))); (have hS:=(by assumption:Sep _ _ w _)))) | ((with_reducible apply zoKN); (exact hS); (exact rfl); (exact inferInstance); (exact rfl); (intro c; exact ctS c hS); (exact rfl); (intro v T w im h; (repeat (first | (obtain⟨rfl,h⟩:=h) | (obtain⟨_,h⟩:=h))); (have hS:=(by assumption:Sep _ _ w _)))) | ((with_reducible apply zost); (exact hS); (exact rfl); (exact atS); (exact tyS); (exact rfl); (first | exact(rfl:_ = [_]) | exact(rfl:_ = [_,_]) | exact(rfl:_ = [_,_,_]) | exact(rfl:_ = [_,_,_,_]) | exact(rfl:_ = [_,_,_,_,_]) | exact(rfl:_ = [_,_,_,_,_,_]) | exact(rfl:_ = [_,_,_,_,_,_,_]) | exact(rfl:_ = [_,_,_,_,_,_,_,_]) | exact(rfl:_ = [_,_,_,_,_,_,_,_,_]) | exact(rfl:_ = [_,_,_,_,_,_,_,_,_,_]) | exact(rfl:_ = [_,_,_,_,_,_,_,_,_,_,_]) | exact(rfl:_ = [_,_,_,_,_,_,_,_,_,_,_,_]) | exact(rfl:_ = [_,_,_,_,_,_,_,_,_,_,_,_,_]) | exact(rfl:_ = [_,_,_,_,_,_,_,_,_,_,_,_,_,_]) | exact(rfl:_ = [_,_,_,_,_,_,_,_,_,_,_,_,_,_,_]) | exact(rfl:_ = [_,_,_,_,_,_,_,_,_,_,_,_,_,_,_,_]) | exact(rfl:_ = [_,_,_,_,_,_,_,_,_,_,_,_,_,_,_,_,_])); (exact rfl); (exact rfl); (exact rfl); (intro w im hS)) | ((with_reducible apply zosb); (exact hS); (exact rfl); (exact lnS); (exact atS); (exact tyS); (exact rfl); (first | exact(rfl:_ = [_]) | exact(rfl:_ = [_,_]) | exact(rfl:_ = [_,_,_]) | exact(rfl:_ = [_,_,_,_]) | exact(rfl:_ = [_,_,_,_,_]) | exact(rfl:_ = [_,_,_,_,_,_]) | exact(rfl:_ = [_,_,_,_,_,_,_]) | exact(rfl:_ = [_,_,_,_,_,_,_,_]) | exact(rfl:_ = [_,_,_,_,_,_,_,_,_]) | exact(rfl:_ = [_,_,_,_,_,_,_,_,_,_]) | exact(rfl:_ = [_,_,_,_,_,_,_,_,_,_,_]) | exact(rfl:_ = [_,_,_,_,_,_,_,_,_,_,_,_]) | exact(rfl:_ = [_,_,_,_,_,_,_,_,_,_,_,_,_]) | exact(rfl:_ = [_,_,_,_,_,_,_,_,_,_,_,_,_,_]) | exact(rfl:_ = [_,_,_,_,_,_,_,_,_,_,_,_,_,_,_]) | exact(rfl:_ = [_,_,_,_,_,_,_,_,_,_,_,_,_,_,_,_]) | exact(rfl:_ = [_,_,_,_,_,_,_,_,_,_,_,_,_,_,_,_,_])); (exact rfl); (exact rfl); (exact rfl); (intro w im hS)) | ((with_reducible apply zoal); (exact hS); (exact tyZ); (first | exact(rfl:_ = [_]) | exact(rfl:_ = [_,_]) | exact(rfl:_ = [_,_,_]) | exact(rfl:_ = [_,_,_,_]) | exact(rfl:_ = [_,_,_,_,_]) | exact(rfl:_ = [_,_,_,_,_,_]) | exact(rfl:_ = [_,_,_,_,_,_,_]) | exact(rfl:_ = [_,_,_,_,_,_,_,_]) | exact(rfl:_ = [_,_,_,_,_,_,_,_,_]) | exact(rfl:_ = [_,_,_,_,_,_,_,_,_,_]) | exact(rfl:_ = [_,_,_,_,_,_,_,_,_,_,_]) | exact(rfl:_ = [_,_,_,_,_,_,_,_,_,_,_,_]) | exact(rfl:_ = [_,_,_,_,_,_,_,_,_,_,_,_,_]) | exact(rfl:_ = [_,_,_,_,_,_,_,_,_,_,_,_,_,_]) | exact(rfl:_ = [_,_,_,_,_,_,_,_,_,_,_,_,_,_,_]) | exact(rfl:_ = [_,_,_,_,_,_,_,_,_,_,_,_,_,_,_,_]) | exact(rfl:_ = [_,_,_,_,_,_,_,_,_,_,_,_,_,_,_,_,_])); (intro w b im hS)) | ((with_reducible apply zobx); (exact hS); (exact rfl); (first | exact(rfl:_ = [_]) | exact(rfl:_ = [_,_]) | exact(rfl:_ = [_,_,_]) | exact(rfl:_ = [_,_,_,_]) | exact(rfl:_ = [_,_,_,_,_]) | exact(rfl:_ = [_,_,_,_,_,_]) | exact(rfl:_ = [_,_,_,_,_,_,_]) | exact(rfl:_ = [_,_,_,_,_,_,_,_]) | exact(rfl:_ = [_,_,_,_,_,_,_,_,_]) | exact(rfl:_ = [_,_,_,_,_,_,_,_,_,_]) | exact(rfl:_ = [_,_,_,_,_,_,_,_,_,_,_]) | exact(rfl:_ = [_,_,_,_,_,_,_,_,_,_,_,_]) | exact(rfl:_ = [_,_,_,_,_,_,_,_,_,_,_,_,_]) | exact(rfl:_ = [_,_,_,_,_,_,_,_,_,_,_,_,_,_]) | exact(rfl:_ = [_,_,_,_,_,_,_,_,_,_,_,_,_,_,_]) | exact(rfl:_ = [_,_,_,_,_,_,_,_,_,_,_,_,_,_,_,_]) | exact(rfl:_ = [_,_,_,_,_,_,_,_,_,_,_,_,_,_,_,_,_])); (intro w b im hS)) | ((with_reducible apply (zobs 1)); (exact hS); (assumption); (first | exact⟨mkS,qZt⟩ | exact⟨mkS,mkS,qZt⟩ | exact⟨mkS,mkS,mkS,qZt⟩ | exact⟨mkS,mkS,mkS,mkS,qZt⟩); (exact tyU); (exact tyS); (exact tyZ); (exact rfl); (exact rfl); (exact rfl); (exact rfl); (kernel_rfl); (exact rfl); (intro w a m c im hS)) | ((with_reducible apply (zobs 2)); (exact hS); (assumption); (first | exact⟨mkS,qZt⟩ | exact⟨mkS,mkS,qZt⟩ | exact⟨mkS,mkS,mkS,qZt⟩ | exact⟨mkS,mkS,mkS,mkS,qZt⟩); (exact tyU); (exact tyS); (exact tyZ); (exact rfl); (exact rfl); (exact rfl); (exact rfl); (kernel_rfl); (exact rfl); (intro w a m c im hS)) | ((with_reducible apply (zobs 3)); (exact hS); (assumption); (first | exact⟨mkS,qZt⟩ | exact⟨mkS,mkS,qZt⟩ | exact⟨mkS,mkS,mkS,qZt⟩ | exact⟨mkS,mkS,mkS,mkS,qZt⟩); (exact tyU); (exact tyS); (exact tyZ); (exact rfl); (exact rfl); (exact rfl); (exact rfl); (kernel_rfl); (exact rfl); (intro w a m c im hS)) | ((with_reducible apply (zobs 4)); (exact hS); (assumption); (first | exact⟨mkS,qZt⟩ | exact⟨mkS,mkS,qZt⟩ | exact⟨mkS,mkS,mkS,qZt⟩ | exact⟨mkS,mkS,mkS,mkS,qZt⟩); (exact tyU); (exact tyS); (exact tyZ); (exact rfl); (exact rfl); (exact rfl); (exact rfl); (kernel_rfl); (exact rfl); (intro w a m c im hS)) | (rcases bc hm with ⟨hb,hm⟩ | ⟨hb,hm⟩))):A:=h hm hS
theorem zk {A:Prop} (h:A:=by
  intro y v T w im h hm
  (repeat (first | (obtain⟨rfl,h⟩:=h) | (obtain⟨_,h⟩:=h)))
  (have hS:=(by assumption:Sep _ _ w _))
  exact zr hm hS):A:=h
theorem zo {A H:Prop} (hm:H) (h:H→A:=by
  intro hm v T w im h
  (repeat (first | (obtain⟨rfl,h⟩:=h) | (obtain⟨_,h⟩:=h)))
  (have hS:=(by assumption:Sep _ _ w _))
  exact zr hm hS):A:=h hm
variable {b1 b2 Y2 Q1c Y0d Y0c Y0z c1 c2 c3 c4 c5 c6 c7 c8 c9 c10 c11 c12 c13 n1 n2 n3 n4 n5 n6 n7 Y1 Q0x Y0a Z9z Y0u oo1 oo2:Nat} {H1 H2 Z5 R5 Z7c Z7b Y0e:List Value→Y8} {a1 a2 a3 a4 a5 a6 a7 a8 a9 a10 a11 a12 a13:OA} {r1 r2:Option Nat} {pv1:Value}
section
variable (a91 a92 a93 a94 a95 a96 a97 a98 a99 a910 a911 a912 a913:OA) (n91 n92 n93 n94 n95 n96 n97 n98 n99 n910 n911 n912 n913 n914 n915 n916 n917 n918 n919 n920 n921 n922 n923 n924 n925 n926 n927 n928 n929:Nat) (H91 H92:List Value→Y8) (T91:TP) (w91 w92 w93:World) (pv91:Value) (r91 r92 r93:Option Nat) (R91:List Y8)
abbrev Q1 (x92:Z0):=(H91 [sv a91 x92.l n91,iv x92.end_.Line,iv x92.end_.Col,iv x92.depth]:Y8)
abbrev Q14 (x91:Q0):=(Y1y V6 pv91 x91.fun_:Y8)
abbrev Q2 (x90:Q0):=(X0 x90 H91 H92 n91 n92 a91 n93 n94 a92 n95 n96 a93 n97 n98 a94 n99 n910 r91 r92 a95 n911 n912 a96 n913 n914 pv91 ++ [Q14 pv91 x90]:List Y8)
abbrev Q3 (x90) (x91) (x95) (x96):=(fun T w v => ∃ a3 c3,v = .iface 63 (.agg (B0 x90 x91).toArray)∧Sep w91 T w (R91 ++ [Q1 a3 c3 H91 x95])∧SlR Q6n T w (sv a3 x96 c3) x96∧True:TP→World→Value→Prop)
abbrev Q4 (x90) (x91) (x926):=(fun T w v => ∃ a11 n9 c11,v = .iface 76 (.agg (B0 x90 x91).toArray)∧Sep w91 T w (R91++(Q2 a11 a91 a92 a93 a94 a95 n91 n92 n9 c11 n93 n94 n95 n96 n97 n98 n99 n910 n911 n912 H91 H92 pv91 r91 r92 x926))∧True:TP→World→Value→Prop)
abbrev Q5 (x93:Z0):=(SlR Q6n T91 w91 (sv a91 x93.l n91) x93.l:Prop)
abbrev Q6 (x90:Z7) (x925):=(fun T w v => ∃ a27 c27 a28 n19 c28,v = .agg (Q0f x90 a27 c27).toArray∧Sep w91 T w (R91++(Q2 a28 a91 a92 a93 a94 a95 n91 n92 n19 c28 n93 n94 n95 n96 n97 n98 n99 n910 n911 n912 H91 H92 pv91 r91 r92 x925))∧SlR X2 T w (sv a27 x90.term.Kids c27) x90.term.Kids∧True:TP→World→Value→Prop)
abbrev Q7 (x93):=(SlR K5 T91 w91 (sv a91 x93 n91) x93:Prop)
abbrev Q8 (x93:Z6):=(K3 E5 122 (.slice a91 n91 n92) x93.list:Y8)
abbrev Q9 (x90:U6) (x925):=(fun T w v => ∃ a17 c17 a18 c18 a19 c19 a20 c20 a21 c21 a22 n13 c22,v = .agg (Z9j x90 a17 c17 a18 c18 a19 c19 a20 c20 a21 c21).toArray∧Sep w91 T w (R91++(Q2 a22 a91 a92 a93 a94 a95 n91 n92 n13 c22 n93 n94 n95 n96 n97 n98 n99 n910 n911 n912 H91 H92 pv91 r91 r92 x925))∧SlR X2 T w (sv a17 x90.A c17) x90.A∧SlR X2 T w (sv a18 x90.Post c18) x90.Post∧SlR B7 T w (sv a19 x90.Body c19) x90.Body∧SlR B7 T w (sv a20 x90.Else c20) x90.Else∧SlR Q5r T w (sv a21 x90.Cases c21) x90.Cases∧True:TP→World→Value→Prop)
abbrev Q10 (x93):=(SlR X2 T91 w91 (sv a91 x93 n91) x93:Prop)
abbrev Q11:=(Sep w91 T91 w92 (R91 ++ [])∧True:Prop)
abbrev Q49 (x93):=(K3 B7 102 (.slice a91 n91 n92) x93:Y8)
abbrev Q12 (x92:Q0) (x925):=(fun T w v => ∃ a33 n19 c33 a34 n20 c34,v = .slice a33 n19 c33∧Sep w91 T w (R91++(X0 x92 H91 H92 n91 n92 a34 n20 c34 a91 n93 n94 a92 n95 n96 a93 n97 n98 r91 r92 a94 n99 n910 a95 n911 n912 pv91 ++ [Q14 pv91 x92,Q49 a33 n19 c33 x925]))∧True:TP→World→Value→Prop)
abbrev Q13 (x90) (x94) (x95):=(fun T w v => ∃ a3 c3 a4 c4,v = .agg (F8 x90 a3 c3).toArray∧Sep w91 T w (R91 ++ [Q1 a4 c4 H91 x94])∧Q7 a3 c3 T w x95∧Q5 a4 c4 T w x94∧True:TP→World→Value→Prop)
abbrev Q15 (x94):=(Sep w91 T91 w92 (R91++X0 x94 H91 H92 n91 n92 a91 n93 n94 a92 n95 n96 a93 n97 n98 a94 n99 n910 r91 r92 a95 n911 n912 a96 n913 n914 pv91)∧True:Prop)
abbrev Q16 (x90):=(.string ⟨x90⟩:Value)
abbrev Q17 (x92):=U7 T91 w91 fun T w v=>v = .bool x92∧Q11 T w92 w R91
abbrev Q18 (x90) (x91):=(.agg (B0 x90 x91).toArray:Value)
abbrev Q19 (x93):=(SlR Q1e T91 w91 (sv a91 x93 n91) x93:Prop)
abbrev Q20 (x93):=(SlR W2 T91 w91 (sv a91 x93 n91) x93:Prop)
abbrev Q21 (x94):=(Sep w91 T91 w92 ([Y5 R91]++X0 x94 H91 H92 n91 n92 a91 n93 n94 a92 n95 n96 a93 n97 n98 a94 n99 n910 r91 r92 a95 n911 n912 a96 n913 n914 pv91):Prop)
abbrev Q22 (x98):=(Sep w91 T91 w92 (R91 ++ [H91 [.slice a91 n91 n92],Q8 a91 n91 n92 x98])∧True:Prop)
abbrev Q23 (x91):=(U5 n91 (F8 x91 a91 n92):Y8)
abbrev Q24 (x929):=(Sep w91 T91 w92 ([Y5 R91]++(Q2 a91 a92 a93 a94 a95 a96 n91 n92 n93 n94 n95 n96 n97 n98 n99 n910 n911 n912 n913 n914 H91 H92 pv91 r91 r92 x929)):Prop)
abbrev Q25 (x98):=(Sep w91 T91 w92 [Y5 R91,H91 [.slice a91 n91 n92],Q8 a91 n91 n92 x98]:Prop)
abbrev Q26 (x90):=(.agg (F8 x90 a91 n91).toArray:Value)
abbrev Q27 (x92):=U7 T91 w91 fun T w v=>v=iv x92∧Q11 T w92 w R91
abbrev Q28 (x97):=(Sep w91 T91 w92 [Y5 R91,Q1 a91 n91 H91 x97]:Prop)
abbrev Q29 (x92):=U7 T91 w91 fun T w v=>v = .int .u32 x92∧Q11 T w92 w R91
abbrev Q30 (x93:F2):=(SlR (E6 .u32) T91 w91 (sv a91 x93.Dims n91) x93.Dims:Prop)
abbrev Q31 (x93) (x94):=(fun T w v => ∃ a10 n2 c10 a11 c11,v = .slice a10 n2 c10∧Sep w91 T w (R91 ++ [Q1 a11 c11 H91 x93,K3 K5 136 (.slice a10 n2 c10) x94])∧Q5 a11 c11 T w x93∧True:TP→World→Value→Prop)
abbrev Q32 (x91):=(U5 n91 (Q0f x91 a91 n92):Y8)
abbrev Q33 (x90:Pos):=(.agg #[iv x90.Line,iv x90.Col]:Value)
abbrev Q34 (x90) (x91) (x926):=(fun T w v => ∃ a9 n9 c9,v = .iface 76 (Q18 x90 x91)∧Q15 a9 a91 a92 a93 a94 a95 n91 n92 n9 c9 n93 n94 n95 n96 n97 n98 n99 n910 n911 n912 H91 H92 T w91 w pv91 r91 r92 R91 x926:TP→World→Value→Prop)
abbrev Q35 (x94:U0):=(Q7 a91 n91 T91 w91 x94.A∧Q7 a92 n92 T91 w91 x94.B∧Q7 a93 n93 T91 w91 x94.C∧Q20 a94 n94 T91 w91 x94.Var∧Q19 a95 n95 T91 w91 x94.Body∧Q19 a96 n96 T91 w91 x94.Else∧SlR Q7h T91 w91 (sv a97 x94.Cases n97) x94.Cases∧True:Prop)
abbrev Q36 (x94:U6):=(Q10 a91 n91 T91 w91 x94.Post∧SlR B7 T91 w91 (sv a92 x94.Body n92) x94.Body∧SlR B7 T91 w91 (sv a93 x94.Else n93) x94.Else∧SlR Q5r T91 w91 (sv a94 x94.Cases n94) x94.Cases:Prop)
abbrev Q37 (x92:Z2u):=(U5 n91 [sv a91 x92.Globals n92,sv a92 x92.Data n93,sv a93 x92.Codes n94,iv x92.Main]:Y8)
abbrev Q38 (x91:Y4):=(U5 n91 [iv x91.Kind,iv x91.Fn,.int .u32 x91.Num,iv x91.Var,.bool x91.Global,iv x91.Size,.bool x91.Post,.bool x91.Ptr,.slice a91 n92 n93]:Y8)
abbrev Q39:=((qZs []):Value)
abbrev Q40 (x92) (x912):=U7 T91 w91 fun T w v=>v = .bool x92∧Sep w92 T w (R91 ++ [H91 [pt n91 n92],H92 [.slice a91 n93 n94],Q8 a91 n93 n94 x912])∧True
abbrev Q41 (x91:J2):=(.agg #[sv a91 x91.Structs n91,sv a92 x91.Globals n92,sv a93 x91.Funcs n93]:Value)
abbrev Q42 (x98):=([Y5 R91,H91 [pt n91 n92],H92 [.slice a91 n93 n94],Q8 a91 n93 n94 x98]:List Y8)
abbrev Q43 (x90) (x91) (x929):=(fun T w v=>v = .iface 76 (Q18 x90 x91)∧Q15 a91 a92 a93 a94 a95 a96 n91 n92 n93 n94 n95 n96 n97 n98 n99 n910 n911 n912 n913 n914 H91 H92 T w91 w pv91 r91 r92 R91 x929:TP→World→Value→Prop)
abbrev Q44 (x93:J2):=(SlR Q0a T91 w91 (sv a91 x93.Structs n91) x93.Structs:Prop)
abbrev Q45 (x93):=(SlR Q1v T91 w91 (sv a91 x93 n91) x93:Prop)
abbrev Q66 (x93):=(K3 X2 145 (.slice a91 n91 n92) x93:Y8)
abbrev Q46 (x91) (x97:U6) (x99) (x922:Q0) (x923):=([U5 n91 (Z9i x91 a91 n92),K3 Q5r 106 (.slice a92 n93 n94) x97.Cases,Z6k (Value.int .u32) Value.bool (.map r91) x99,U5 n95 [iv x97.Kind,.slice a93 n96 n97,sv a94 x97.Post n98,.bool x97.First,sv a95 x97.Body n99,sv a96 x97.Else n910,.slice a92 n93 n94,iv x97.Var],Q66 a93 n96 n97 x97.A,U5 n911 zv5,Y5 R91]++(X0 ({x922 with t:=x923}) H91 H92 n912 n913 a97 n914 n915 a98 n916 n917 a99 n918 n919 a910 n920 n921 r92 r93 a911 n922 n923 a912 n924 n925 (pt n926 0) ++ [Y1y V6 (pt n926 0) x922.fun_]):List Y8)
abbrev Q47 (x92) (x93) (x97):=U7 T91 w91 fun T w v => ∃ a5 n4 c5,v = .tuple #[iv x92,iv x93]∧Q22 a5 n4 c5 H91 T w92 w R91 x97
abbrev Q48 (x90:F2) (x94):=(fun T w v => ∃ a32 c32 a33 c33 a34 c34,v = .agg (Z5y x90 a32 c32 a33 c33).toArray∧Sep w91 T w (R91 ++ [Q1 a34 c34 H91 x94])∧Q30 a32 c32 T w x90∧Q7 a33 c33 T w x90.Init∧Q5 a34 c34 T w x94∧True:TP→World→Value→Prop)
abbrev Q50 (x93:J2):=(SlR Q4g T91 w91 (sv a91 x93.Funcs n91) x93.Funcs:Prop)
abbrev Q51 (x93):=(SlR Q1v T91 w91 (sv a91 x93 n91) x93:Prop)
abbrev Q52 (x92) (x93):=U7 T91 w91 fun T w v=>v = .tuple #[.int .u32 x92,iv x93]∧Q11 T w92 w R91
abbrev Q53 (x90) (x93) (x929):=(fun T w v => ∃ a10 c10,v = .agg (V5 x90 a10 c10).toArray∧Sep w91 T w (R91++X0 x93 H91 H92 n91 n92 a91 n93 n94 a92 n95 n96 a93 n97 n98 a94 n99 n910 r91 r92 a95 n911 n912 a96 n913 n914 pv91)∧Q10 a10 c10 T w x929∧True:TP→World→Value→Prop)
abbrev Q54 (x97):=(Sep w91 T91 w92 (R91 ++ [Q1 a91 n91 H91 x97])∧Q5 a91 n91 T91 w92 x97∧True:Prop)
abbrev Q55 (x93) (x94):=(fun T w v => ∃ a22 n5 c22 a23 c23,v = .slice a22 n5 c22∧Sep w91 T w (R91 ++ [Q1 a23 c23 H91 x93,K3 W2 86 (.slice a22 n5 c22) x94])∧Q5 a23 c23 T w x93∧True:TP→World→Value→Prop)
abbrev Q56 (x94:Z7):=(Q10 a91 n91 T91 w91 x94.term.Kids:Prop)
abbrev Q57 (x91:F2):=(U5 n91 [iv x91.Pos.Line,iv x91.Pos.Col,Q16 x91.Type_.Word.toArray,Q16 x91.Type_.Name.toArray,iv x91.Type_.Stars,Q16 x91.Name.toArray,.slice a91 n92 n93,.slice a92 n94 n95,.bool x91.Brace]:Y8)
abbrev Q58 (x93):=(SlR Q7h T91 w91 (sv a91 x93 n91) x93:Prop)
abbrev Q59 (x91) (x92) (x93) (x94) (x96) (x98):=([(2,pt n91 0),(4,.string ⟨x91⟩),(6,.int .u64 x92),(7,.int .u64 x93),(8,.bool x94),(28,.slice a91 (List.length (A0 x96)) n92),(29,iv (List.length (A0 x96):Int)),(30,iv x98)]:List (Nat×Value))
abbrev Q60 (x90) (x91):=(X0 ({x90 with t:=x91}) H91 H92 n91 n92 a91 n93 n94 a92 n95 n96 a93 n97 n98 a94 n99 n910 r91 r92 a95 n911 n912 a96 n913 n914 pv91 ++ [Q14 pv91 x90]:List Y8)
abbrev Q61:=([(0,pt n91 n92),(3,pt n93 0),(4,pt n94 0),(5,pt n95 0),(6,pt n96 0)]:List (Nat×Value))
abbrev Q62 (x90):=(.agg (V5 x90 a91 n91).toArray:Value)
abbrev Q63 (x92) (x93):=U7 T91 w91 fun T w v=>v = .tuple #[.agg (Y8c x92).toArray,iv x93]∧Q11 T w92 w R91
abbrev Q64 (x93):=(SlR B7 T91 w91 (sv a91 x93 n91) x93:Prop)
abbrev Q65 (x93):=(K3 Q7h 142 (.slice a91 n91 n92) x93:Y8)
abbrev Q67 (x90):=(.agg (Q0f x90 a91 n91).toArray:Value)
abbrev Q68 (x91):=(U5 n91 (V5 x91 a91 n92):Y8)
abbrev Q69 (x92):=(fun T w v => ∃ a4 n3 c4,v = .slice a4 n3 c4∧Sep w91 T w (R91 ++ [K3 Q1e 96 (.slice a4 n3 c4) x92])∧True:TP→World→Value→Prop)
abbrev Q70 (x92):=(fun T w v => ∃ a4 n3 c4,v = .slice a4 n3 c4∧Sep w91 T w (R91 ++ [K3 Q0a 79 (.slice a4 n3 c4) x92])∧True:TP→World→Value→Prop)
abbrev Q71 (x92):=(fun T w v => ∃ a4 n3 c4,v = .slice a4 n3 c4∧Sep w91 T w (R91 ++ [K3 K5 136 (.slice a4 n3 c4) x92])∧True:TP→World→Value→Prop)
abbrev Q72 (x92):=(fun T w v => ∃ a4 n3 c4,v = .slice a4 n3 c4∧Sep w91 T w (R91 ++ [K3 Q4g 92 (.slice a4 n3 c4) x92])∧True:TP→World→Value→Prop)
abbrev Q73 (x92):=(fun T w v => ∃ a4 n3 c4,v = .slice a4 n3 c4∧Sep w91 T w (R91 ++ [K3 W2 86 (.slice a4 n3 c4) x92])∧True:TP→World→Value→Prop)
abbrev Q74 (x97):=(Sep w91 T91 w92 (R91 ++ [Q1 a91 n91 H91 x97])∧True:Prop)
abbrev Q75 (x90):=(.agg (Z5y x90 a91 n91 a92 n92).toArray:Value)
abbrev Q76 (x91):=(U5 n91 [iv 2,iv 0,.int .u32 0,iv x91,.bool false,iv 0,.bool false,.bool true,.slice none 0 0]:Y8)
abbrev Q77 (x94):=([U5 n91 zv1,Q23 a91 n92 n93 x94,Y5 R91]:List Y8)
abbrev Q78 (x90) (x925):=(fun T w v => ∃ a9 n9 c9,v=iv x90∧Q15 a9 a91 a92 a93 a94 a95 n91 n92 n9 c9 n93 n94 n95 n96 n97 n98 n99 n910 n911 n912 H91 H92 T w91 w pv91 r91 r92 R91 x925:TP→World→Value→Prop)
abbrev Q79 (x92) (x94) (x96):=([(0,pt n91 n92),(1,iv x92),(12,.slice a91 (List.length (A0 x94)) n93),(13,iv (List.length (A0 x94):Int)),(14,iv x96)]:List (Nat×Value))
abbrev Q80 (x92):=(fun T w v => ∃ a4 n3 c4,v = .slice a4 n3 c4∧Sep w91 T w (R91 ++ [Q65 a4 n3 c4 x92])∧True:TP→World→Value→Prop)
abbrev Q81 (x91):=(Z6k Z6p (Value.int .i64) (.map r91) x91:Y8)
abbrev Q82 (x91:Z2u):=(.agg #[sv a91 x91.Globals n91,sv a92 x91.Data n92,sv a93 x91.Codes n93,iv x91.Main]:Value)
abbrev Q83 (x90):=(.agg (Q9d x90).toArray:Value)
abbrev Q84 (x92) (x99):=U7 T91 w91 fun T w v=>v=iv x92∧Q22 a91 n91 n92 H91 T w92 w R91 x99
end
theorem Q8q {p0:List UInt8} {p1:List UInt8} (hS:Sep g T0 w0 [Y5 R])  : ∀ r,Q3u p0 p1=some r →
    Calls Tryz.prog 82 #[Q16 p0.toArray,Q16 p1.toArray] w0 (Q17 T0 w0 g R r):=by
  intro r hm;refine enter func82 rfl ntmps82 rfl fun J => ?_;unfold Q3u at hm;exact zr hm hS

instance : Ctr Tryz.prog 82 (type_of% @Q8q):=⟨@Q8q,cf82⟩
theorem Q0s {p0:List UInt8} {p1:List UInt8} (hS:Sep g T0 w0 [Y5 R])  : ∀ r,P7 p0 p1=some r →
    Calls Tryz.prog 46 #[Q16 p0.toArray,Q16 p1.toArray] w0 (Q17 T0 w0 g R r):=by
  intro r hm;refine enter func46 rfl ntmps46 rfl fun J => ?_;unfold P7 at hm;exact zr hm hS

instance : Ctr Tryz.prog 46 (type_of% @Q0s):=⟨@Q0s,cf46⟩
theorem Z7i {p0} (hS:Sep g T0 w0 [Y5 R])  : ∀ r,Z2c p0=some r →
    Calls Tryz.prog 49 #[.int .u8 p0] w0 (Q17 T0 w0 g R r):=by
  intro r hm;refine enter func49 rfl ntmps49 rfl fun J => ?_;unfold Z2c at hm;exact zr hm hS

instance : Ctr Tryz.prog 49 (type_of% @Z7i):=⟨@Z7i,cf49⟩
theorem Z6l {p0:List UInt8} (hS:Sep g T0 w0 [Y5 R])  : ∀ r,Z8w p0=some r →
    Calls Tryz.prog 48 #[Q16 p0.toArray,.func (.func 49) #[] #[]] w0 (Q27 T0 w0 g R r):=by
  intro r hm;refine enter func48 rfl ntmps48 rfl fun J => ?_;unfold Z8w at hm;refine sq2 (pn ?_);refine sq2 (pn ?_);refine sq2 (lpJ hm (fun E I m a K => ∃ O D,JR (nf 20) g T0 w0 a K O (loopM E m D=some I) [(0,(qZs p0)),(1,.func (.func 49) #[] #[]),(5,iv D)] [Y5 R]) (fun _ _ h=>je h (hS.sel [0] rfl)) ?_);rintro E U I _ _ _ K ⟨O,D,J,V,rfl,W,_⟩;obtain⟨m1,_,rfl,hm,_⟩:=lrE V U;exact zr hm W

instance : Ctr Tryz.prog 48 (type_of% @Z6l):=⟨@Z6l,cf48⟩
theorem Z5c {p0:List UInt8} (hS:Sep g T0 w0 [Y5 R]) (hG0:Gi T0 w0 0) : ∀ r,Z3i p0=some r →
    Calls Tryz.prog 26 #[Q16 p0.toArray] w0 (Q27 T0 w0 g R r):=by
  intro r hm;refine enter func26 rfl ntmps26 rfl fun J => ?_;unfold Z3i at hm;refine sq2 (pn ?_);refine sq2 (sq2 (pu ?_));refine cB cf46 hm (Q0s (hS.bun [0] [] rfl)) ?_;rintro _ _ _ _ O ⟨rfl,I,_⟩ hm;refine cd hm ?_ ?_ <;> intro ab hm
  · refine sq2 (sq2 ?_);obtain⟨_,U,hm⟩:=bindS hm;refine cS cf47 (Z4k (I.bun [0] [] rfl) (hG0.mono O) U) ?_;rintro _ _ _ _ ⟨rfl,D,_⟩;have D:=D.unb;refine pn ?_;refine sq2 (cd hm ?_ ?_) <;> intro ac hm
    · exact sq2 (re hm (D.sel [0] rfl))
    refine pn ?_;exact sq2 (re hm (D.sel [0] rfl))
  refine pn ?_;refine sq2 (sq2 (pu ?_));refine cB cf46 hm (Q0s (I.bun [0] [] rfl)) ?_;rintro _ _ _ _ _ ⟨rfl,K,_⟩ hm;refine cd hm ?_ ?_ <;> intro ad hm
  · refine sq2 ?_;obtain⟨u1,V,hm⟩:=bindS hm;obtain⟨_,W,hm⟩:=bindS hm;refine pu ?_;refine pv (r_ss rfl ⟨_,rfl⟩ rfl V underlying9) (cS cf47 (Z4k (K.bun [0] [] rfl) (hG0.mono ch) W) ?_);rintro _ _ _ _ ⟨rfl,E,_⟩;have E:=E.unb;refine pn ?_;refine sq2 (sq2 (cd hm ?_ ?_)) <;> intro ae hm
    · exact sq2 (re hm (E.sel [0] rfl))
    refine pn ?_;exact sq2 (re hm (E.sel [0] rfl))
  refine pn ?_;refine sq2 (pu ?_);refine cB cf48 hm (Z6l (K.bun [0] [] rfl)) ?_;rintro _ _ _ _ _ ⟨rfl,aa,_⟩ hm;exact re hm (aa.sel [0] rfl)

instance : Ctr Tryz.prog 26 (type_of% @Z5c):=⟨@Z5c,cf26⟩
theorem Q7u {p0:B9} {p1} (hS:Sep g T0 w0 [Y5 R,Z5 (Z2l p0)]) (Z2:Ln Y2 Y1 Z5) : ∀ r,Q0c p0 p1=some r →
    Calls Tryz.prog 27 #[pt Y2 Y1,iv p1] w0 (U7 T0 w0 fun T w v=>v = .tuple #[]∧Sep g T w (R ++ [Z5 (Z2l r)])∧True):=by
  intro r hm;refine enter func27 rfl ntmps27 rfl fun J => ?_;unfold Q0c at hm;refine sq2 (sq2 ?_);obtain⟨u1,ad,hm⟩:=bindS hm;obtain⟨_,ae,hm⟩:=bindS hm;refine pu ?_;refine pv (r_ss rfl rfl ⟨_,rfl⟩ ad underlying9) (wl rfl (cvB hS rfl underlying9 underlying51 underlying5 (U3 ae) fun T1 w1 a1 c1 ao ah h1 => ?_));refine pn ?_;refine lpJ hm (fun U V m a E => ∃(I:_) (K:B9) (D:_),JR (nf 49) g T1 w1 a E I (loopM U m (D,K)=some V) (Q79 a1 Y2 Y1 c1 p1 u1 D) [Y5 R,Z5 (Z2l K)]) (fun _ _ h=>je h (ah.sel [0,1] rfl)) ?_;rintro U ai V _ _ _ E ⟨I,K,D,J,aj,rfl,W,_⟩;obtain⟨m1,z1,rfl,hm,am⟩:=lrE aj ai;refine sq2 (pn ?_);refine sq2 (cd hm ?_ ?_) <;> intro ap hm
  · refine pn ?_;refine O7 hm (fun aa a w3 => ∃(T3:_) (O:B9),JR (nf 49) g I E a w3 T3 (aa O=some z1) (Q79 a1 Y2 Y1 c1 p1 u1 D) [Y5 R,Z5 (Z2l O)]) (fun aa hm => ?_) ?_
    · exact zr hm W
    rintro _ w3 ⟨T3,O,J,hm,rfl,an,_⟩;exact lg hm am (an.sel [0,1] rfl)
  exact zr hm W

instance : Ctr Tryz.prog 27 (type_of% @Q7u):=⟨@Q7u,cf27⟩
theorem Z3z {p0} (hS:Sep g T0 w0 [Y5 R])  : ∀ r,Z1k p0=some r →
    Calls Tryz.prog 50 #[.int .u8 p0] w0 (Q17 T0 w0 g R r):=by
  intro r hm;refine enter func50 rfl ntmps50 rfl fun J => ?_;unfold Z1k at hm;exact zr hm hS

instance : Ctr Tryz.prog 50 (type_of% @Z3z):=⟨@Z3z,cf50⟩
theorem Y0l {p0} (hS:Sep g T0 w0 [Y5 R])  : ∀ r,Z1l p0=some r →
    Calls Tryz.prog 53 #[.int .u8 p0] w0 (Q17 T0 w0 g R r):=by
  intro r hm;refine enter func53 rfl ntmps53 rfl fun J => ?_;unfold Z1l at hm;exact zr hm hS

instance : Ctr Tryz.prog 53 (type_of% @Y0l):=⟨@Y0l,cf53⟩
theorem Y2a {p0} (hS:Sep g T0 w0 [Y5 R])  : ∀ r,Z8y p0=some r →
    Calls Tryz.prog 51 #[.int .u8 p0] w0 (Q17 T0 w0 g R r):=by
  intro r hm;refine enter func51 rfl ntmps51 rfl fun J => ?_;unfold Z8y at hm;exact zr hm hS

instance : Ctr Tryz.prog 51 (type_of% @Y2a):=⟨@Y2a,cf51⟩
theorem Z0q {p0:List UInt8} (hS:Sep g T0 w0 [Y5 R])  : ∀ r,Q9n p0=some r →
    Calls Tryz.prog 48 #[Q16 p0.toArray,.func (.func 51) #[] #[]] w0 (Q27 T0 w0 g R r):=by
  intro r hm;refine enter func48 rfl ntmps48 rfl fun J => ?_;unfold Q9n at hm;refine sq2 (pn ?_);refine sq2 (pn ?_);refine sq2 (lpJ hm (fun E I m a K => ∃ O D,JR (nf 20) g T0 w0 a K O (loopM E m D=some I) [(0,(qZs p0)),(1,.func (.func 51) #[] #[]),(5,iv D)] [Y5 R]) (fun _ _ h=>je h (hS.sel [0] rfl)) ?_);rintro E U I _ _ _ K ⟨O,D,J,V,rfl,W,_⟩;obtain⟨m1,_,rfl,hm,_⟩:=lrE V U;exact zr hm W

instance : Ctr Tryz.prog 48 (type_of% @Z0q):=⟨@Z0q,cf48⟩
theorem Y2d {p0:List UInt8} (hS:Sep g T0 w0 [Y5 R])  : ∀ r,Z4a p0=some r →
    Calls Tryz.prog 52 #[Q16 p0.toArray] w0 (Q17 T0 w0 g R r):=by
  intro r hm;refine enter func52 rfl ntmps52 rfl fun J => ?_;unfold Z4a at hm;refine sq2 (pn ?_);refine sq2 (sq2 (pn ?_));refine blk (O7 hm (fun E a I => ∃ K D,JR (nf 23) g T0 w0 a I K (E D=some r) [(4,.bool D)] [Y5 R]) (fun E hm => ?_) ?_)
  · exact zr hm hS
  rintro _ I ⟨K,D,J,hm,rfl,O,_⟩;exact zr hm O

instance : Ctr Tryz.prog 52 (type_of% @Y2d):=⟨@Y2d,cf52⟩
theorem Y0k {p0} (hS:Sep g T0 w0 [Y5 R])  : ∀ r,Q7c p0=some r →
    Calls Tryz.prog 84 #[.int .u8 p0] w0 (U7 T0 w0 fun T w v=>v = .int .u64 r∧Q11 T g w R):=by
  intro r hm;refine enter func84 rfl ntmps84 rfl fun J => ?_;unfold Q7c at hm;exact zr hm hS

instance : Ctr Tryz.prog 84 (type_of% @Y0k):=⟨@Y0k,cf84⟩
theorem Z8x {p0:List UInt8} (hS:Sep g T0 w0 [Y5 R])  : ∀ r,Z1j p0=some r →
    Calls Tryz.prog 54 #[Q16 p0.toArray] w0 (Q63 T0 w0 g R r.1 r.2):=by
  intro r hm;refine enter func54 rfl ntmps54 rfl fun J => ?_;unfold Z1j at hm;refine sq2 (aL zv9 hS ?_);intro _ D _ an;refine pn ?_;refine sq2 (pu ?_);refine cB cf48 hm (Z0q (an.bun [0,1] [] rfl)) ?_;rintro _ _ T1 w2 _ ⟨rfl,aq,_⟩ hm;obtain⟨u1,ar,hm⟩:=bindS hm;refine pv (r_ss rfl rfl ⟨_,rfl⟩ ar underlying9) (pn ?_);refine sq2 (pn ?_);refine O7 hm (fun ac a w3 => ∃(T2:_) (E:List UInt8) (I:_),JR (nf 54) g T1 w2 a w3 T2 (ac E I=some r) [(2,pt D 0),(4,(qZs u1)),(5,(qZs E)),(6,.int .u64 I)] [U5 D zv9,Y5 R]) (fun ac hm => ?_) ?_
  · exact zr hm aq
  rintro _ w3 ⟨T2,E,I,J,hm,rfl,af,_⟩;refine sq2 (sq2 (cd hm ?_ ?_)) <;> intro aD hm
  · exact zr hm af
  refine pn ?_;refine sq2 (pn ?_);refine sq2 (pn ?_);refine sq2 (sq2 ?_);obtain⟨_,au,hm⟩:=bindS hm;refine pu ?_;refine wl rfl (cvB af rfl underlying9 underlying51 underlying5 (U3 au) fun T5 w7 a1 c1 aE ax h1 => ?_);refine pn ?_;refine lpJ hm (fun ag o1 m a O => ∃ U V W K,JR (nf 54) g T5 w7 a O U (loopM ag m (V,W,K)=some o1) (Q59 a1 D c1 u1.toArray I V W E K) [U5 D zv9,Y5 R]) (fun _ _ h=>je h (ax.sel [0,1] rfl)) ?_;rintro ag ay o1 _ _ _ O ⟨U,V,W,K,J,az,rfl,ai,_⟩;obtain⟨m1,z1,rfl,hm,aB⟩:=lrE az ay;refine sq2 (pn ?_);refine sq2 (cd hm ?_ ?_) <;> intro aF hm
  · refine pn ?_;refine O7 hm (fun aj a w9 => ∃ T7 x6 x7,JR (nf 54) g U O a w9 T7 (aj x6 x7=some z1) (Q59 a1 D c1 u1.toArray I x6 x7 E K) [U5 D zv9,Y5 R]) (fun aj hm => ?_) ?_
    · exact zr hm ai
    rintro _ w9 ⟨T7,x6,x7,J,hm,rfl,aC,_⟩;exact lg hm aB (aC.sel [0,1] rfl)
  exact zr hm ai

instance : Ctr Tryz.prog 54 (type_of% @Z8x):=⟨@Z8x,cf54⟩
theorem Z8z {p0} (hS:Sep g T0 w0 [Y5 R])  : ∀ r,Q9o p0=some r →
    Calls Tryz.prog 85 #[.int .u8 p0] w0 (U7 T0 w0 fun T w v=>v = .tuple #[.int .u8 r.1,.bool r.2]∧Q11 T g w R):=by
  intro r hm;refine enter func85 rfl ntmps85 rfl fun J => ?_;unfold Q9o at hm;refine sq2 (pn ?_);refine sq2 (sq2 (pn ?_));refine blk (sq2 (cd hm ?_ ?_)) <;> intro U hm
  · exact sq2 (re hm (hS.sel [0] rfl))
  refine sq2 (cd hm ?_ ?_) <;> intro V hm
  · exact sq2 (re hm (hS.sel [0] rfl))
  refine sq2 (cd hm ?_ ?_) <;> intro W hm
  · exact sq2 (re hm (hS.sel [0] rfl))
  refine sq2 (cd hm ?_ ?_) <;> intro aa hm
  · exact sq2 (re hm (hS.sel [0] rfl))
  refine O7 hm (fun E a I => ∃ K D,JR (nf 17) g T0 w0 a I K (E D=some r) [(0,.int .u8 p0),(13,.bool D)] [Y5 R]) (fun E hm => ?_) ?_
  · exact zr hm hS
  rintro _ I ⟨K,D,J,hm,rfl,O,_⟩;exact zr hm O

instance : Ctr Tryz.prog 85 (type_of% @Z8z):=⟨@Z8z,cf85⟩
theorem Y2c {p0:List UInt8} (hS:Sep g T0 w0 [Y5 R])  : ∀ r,Q3o p0=some r →
    Calls Tryz.prog 55 #[Q16 p0.toArray] w0 (Q63 T0 w0 g R r.1 r.2):=by
  intro r hm;refine enter func55 rfl ntmps55 rfl fun J => ?_;unfold Q3o at hm;refine sq2 (aL zv9 hS ?_);intro _ I _ D;refine pn ?_;refine sq2 (sq2 (pu ?_))
  rcases bc hm with ⟨aj,hm⟩ | ⟨aj,hm⟩
  · obtain⟨u1,K,hm⟩:=bindS hm;refine pu ?_;refine pv (Z6f rfl rfl K underlying9) (pu ?_)
    rcases bc hm with ⟨ak,hm⟩ | ⟨ak,hm⟩
    · obtain⟨_,am,hm⟩:=bindS hm;refine pu ?_;refine pv (Z6f rfl rfl am underlying9) (cd hm ?_ ?_) <;> intro aY hm
      · exact zr hm D
      refine pn ?_;refine sq2 (sq2 (pu ?_))
      rcases bc hm with ⟨an,hm⟩ | ⟨an,hm⟩
      · obtain⟨_,ao,hm⟩:=bindS hm;refine pu ?_;refine pv (Z6f rfl rfl ao underlying9) (pu ?_)
        rcases bc hm with ⟨ap,hm⟩ | ⟨ap,hm⟩
        · obtain⟨u6,O,hm⟩:=bindS hm;obtain rfl:u1=u6:=oI (K.symm.trans O);refine pu ?_;refine pv (Z6f rfl rfl O underlying9) (pu ?_)
          rcases bc hm with ⟨ar,hm⟩ | ⟨ar,hm⟩
          · obtain⟨u7,U,hm⟩:=bindS hm;obtain rfl:u1=u7:=oI (O.symm.trans U);refine pu ?_;refine pv (Z6f rfl rfl U underlying9) (pu ?_)
            rcases bc hm with ⟨av,hm⟩ | ⟨av,hm⟩
            · obtain⟨u8,V,hm⟩:=bindS hm;obtain rfl:u1=u8:=oI (U.symm.trans V);refine pu ?_;refine pv (Z6f rfl rfl V underlying9) (pu ?_)
              rcases bc hm with ⟨ax,hm⟩ | ⟨ax,hm⟩
              · obtain⟨u9,ae,hm⟩:=bindS hm;obtain rfl:u1=u9:=oI (V.symm.trans ae);refine pu ?_;refine pv (Z6f rfl rfl ae underlying9) (pu ?_);refine nil (J3 [(0,(qZs p0)),(2,pt I 0),(59,.bool ((UInt8.toNat u1:Int) != 92))] ⟨rfl,rfl,rfl,qZt⟩ fun J => ?_);refine cd hm ?_ ?_ <;> intro aZ hm
                · refine sq2 (rsS [0,0,0,0,0,0,2,0] [0,1,2,3,4,5,6,7] D fun w5 a3 az => ?_);have dd:KD [(6,[])]:=⟨qZt⟩;exact zr hm az
                exact zr hm D
              exact zr hm D
            exact zr hm D
          exact zr hm D
        exact zr hm D
      exact zr hm D
    refine pn ?_;refine cnd (b:=false) rfl (fun h=>nomatch h) (fun _ => ?_);refine pn ?_;refine sq2 (sq2 (pu ?_))
    rcases bc hm with ⟨aA,hm⟩ | ⟨aA,hm⟩
    · obtain⟨_,aB,hm⟩:=bindS hm;refine pu ?_;refine pv (Z6f rfl rfl aB underlying9) (pu ?_)
      rcases bc hm with ⟨aC,hm⟩ | ⟨aC,hm⟩
      · obtain⟨aD,W,hm⟩:=bindS hm;obtain rfl:u1=aD:=oI (K.symm.trans W);refine pu ?_;refine pv (Z6f rfl rfl W underlying9) (pu ?_)
        rcases bc hm with ⟨aE,hm⟩ | ⟨aE,hm⟩
        · obtain⟨aF,aa,hm⟩:=bindS hm;obtain rfl:u1=aF:=oI (W.symm.trans aa);refine pu ?_;refine pv (Z6f rfl rfl aa underlying9) (pu ?_)
          rcases bc hm with ⟨aG,hm⟩ | ⟨aG,hm⟩
          · obtain⟨aI,ab,hm⟩:=bindS hm;obtain rfl:u1=aI:=oI (aa.symm.trans ab);refine pu ?_;refine pv (Z6f rfl rfl ab underlying9) (pu ?_)
            rcases bc hm with ⟨aJ,hm⟩ | ⟨aJ,hm⟩
            · obtain⟨aK,ag,hm⟩:=bindS hm;obtain rfl:u1=aK:=oI (ab.symm.trans ag);refine pu ?_;refine pv (Z6f rfl rfl ag underlying9) (pu ?_);refine nil (J3 [(0,(qZs p0)),(2,pt I 0),(59,.bool ((UInt8.toNat u1:Int) != 92))] ⟨rfl,rfl,rfl,qZt⟩ fun J => ?_);refine cd hm ?_ ?_ <;> intro a4 hm
              · refine sq2 (rsS [0,0,0,0,0,0,2,0] [0,1,2,3,4,5,6,7] D fun a5 a6 aM => ?_);have dd:KD [(6,[])]:=⟨qZt⟩;exact zr hm aM
              exact zr hm D
            exact zr hm D
          exact zr hm D
        exact zr hm D
      exact zr hm D
    exact zr hm D
  refine pn ?_;refine cnd (b:=false) rfl (fun h=>nomatch h) (fun _ => ?_);refine pn ?_;refine sq2 (sq2 (pu ?_))
  rcases bc hm with ⟨aN,hm⟩ | ⟨aN,hm⟩
  · obtain⟨_,aP,hm⟩:=bindS hm;refine pu ?_;refine pv (Z6f rfl rfl aP underlying9) (pu ?_)
    rcases bc hm with ⟨aQ,hm⟩ | ⟨aQ,hm⟩
    · obtain⟨E,ah,hm⟩:=bindS hm;refine pu ?_;refine pv (Z6f rfl rfl ah underlying9) (pu ?_)
      rcases bc hm with ⟨aR,hm⟩ | ⟨aR,hm⟩
      · obtain⟨aS,ac,hm⟩:=bindS hm;obtain rfl:E=aS:=oI (ah.symm.trans ac);refine pu ?_;refine pv (Z6f rfl rfl ac underlying9) (pu ?_)
        rcases bc hm with ⟨aT,hm⟩ | ⟨aT,hm⟩
        · obtain⟨aU,ad,hm⟩:=bindS hm;obtain rfl:E=aU:=oI (ac.symm.trans ad);refine pu ?_;refine pv (Z6f rfl rfl ad underlying9) (pu ?_)
          rcases bc hm with ⟨aV,hm⟩ | ⟨aV,hm⟩
          · obtain⟨aW,ai,hm⟩:=bindS hm;obtain rfl:E=aW:=oI (ad.symm.trans ai);refine pu ?_;refine pv (Z6f rfl rfl ai underlying9) (pu ?_);refine nil (J3 [(0,(qZs p0)),(2,pt I 0),(59,.bool ((UInt8.toNat E:Int) != 92))] ⟨rfl,rfl,rfl,qZt⟩ fun J => ?_);refine cd hm ?_ ?_ <;> intro a7 hm
            · refine sq2 (rsS [0,0,0,0,0,0,2,0] [0,1,2,3,4,5,6,7] D fun a8 a9 aX => ?_);have dd:KD [(6,[])]:=⟨qZt⟩;exact zr hm aX
            exact zr hm D
          exact zr hm D
        exact zr hm D
      exact zr hm D
    exact zr hm D
  exact zr hm D

instance : Ctr Tryz.prog 55 (type_of% @Y2c):=⟨@Y2c,cf55⟩
theorem Y2b {p0:List UInt8} (hS:Sep g T0 w0 [Y5 R])  : ∀ r,Z5n p0=some r →
    Calls Tryz.prog 56 #[Q16 p0.toArray] w0 (U7 T0 w0 fun T w v=>v=(qZs r)∧Q11 T g w R):=by
  intro r hm;refine enter func56 rfl ntmps56 rfl fun J => ?_;unfold Z5n at hm;refine sq2 (pn ?_);refine sq2 (pu ?_);refine pv (F9 (by kernel_rfl) rfl (u := .agg #[qZs [60,60,61],qZs [62,62,61],qZs [45,62],qZs [43,43],qZs [45,45],qZs [60,60],qZs [62,62],qZs [60,61],qZs [62,61],qZs [61,61],qZs [33,61],qZs [38,38],qZs [124,124],qZs [43,61],qZs [45,61],qZs [42,61],qZs [47,61],qZs [37,61],qZs [38,61],qZs [124,61],qZs [94,61],qZs [43],qZs [45],qZs [42],qZs [47],qZs [37],qZs [38],qZs [124],qZs [94],qZs [126],qZs [33],qZs [60],qZs [62],qZs [61],qZs [63],qZs [58],qZs [59],qZs [44],qZs [46],qZs [40],qZs [41],qZs [91],qZs [93],qZs [123],qZs [125]])) (aL [qZs [],qZs [],qZs [],qZs [],qZs [],qZs [],qZs [],qZs [],qZs [],qZs [],qZs [],qZs [],qZs [],qZs [],qZs [],qZs [],qZs [],qZs [],qZs [],qZs [],qZs [],qZs [],qZs [],qZs [],qZs [],qZs [],qZs [],qZs [],qZs [],qZs [],qZs [],qZs [],qZs [],qZs [],qZs [],qZs [],qZs [],qZs [],qZs [],qZs [],qZs [],qZs [],qZs [],qZs [],qZs []] hS ?_);intro _ _ _ ab;refine sT 0 ab ?_;intro w2 _ ad;refine pn ?_;refine sq2 (sq2 (pn ?_));refine lpJ hm (fun I K m a O => ∃ U D,JR (nf 16) g T0 w2 a O U (loopM I m D=some K) [(0,(qZs p0)),(7,.agg #[qZs [60,60,61],qZs [62,62,61],qZs [45,62],qZs [43,43],qZs [45,45],qZs [60,60],qZs [62,62],qZs [60,61],qZs [62,61],qZs [61,61],qZs [33,61],qZs [38,38],qZs [124,124],qZs [43,61],qZs [45,61],qZs [42,61],qZs [47,61],qZs [37,61],qZs [38,61],qZs [124,61],qZs [94,61],qZs [43],qZs [45],qZs [42],qZs [47],qZs [37],qZs [38],qZs [124],qZs [94],qZs [126],qZs [33],qZs [60],qZs [62],qZs [61],qZs [63],qZs [58],qZs [59],qZs [44],qZs [46],qZs [40],qZs [41],qZs [91],qZs [93],qZs [123],qZs [125]]),(8,iv D)] [Y5 R]) (fun _ _ h=>je h (ad.sel [1] rfl)) ?_;rintro I ae K V _ _ O ⟨U,D,J,af,rfl,W,_⟩;obtain⟨m1,_,rfl,hm,E⟩:=lrE af ae;refine sq2 (pn ?_);refine sq2 (cd hm ?_ ?_) <;> intro ah hm
  · refine pn ?_;refine sq2 (blk (sq2 ?_));obtain⟨u1,ag,hm⟩:=bindS hm;refine pu ?_;refine pv (r_axi rfl rfl (idx_map (fun z:List UInt8=>(qZs z)) ag) rfl underlying184 sizeOf9 isAgg9) (pn ?_);refine sq2 (pu ?_);refine cB cf46 hm (Q0s (W.bun [0] [] rfl)) ?_;rintro _ _ _ _ _ ⟨rfl,aa,_⟩ hm;refine cd hm ?_ ?_ <;> intro ai hm
    · refine sq2 (pn ?_);have hm:=Q0o hm E V;exact re hm (aa.sel [0] rfl)
    exact lg hm E (aa.sel [0] rfl)
  have hm:=Q6d hm E V;refine pn ?_;exact sq2 (re hm (W.sel [0] rfl))

instance : Ctr Tryz.prog 56 (type_of% @Y2b):=⟨@Y2b,cf56⟩
theorem Z5b {p0:List UInt8} (hS:Sep g T0 w0 [Y5 R])  : ∀ r,Q4j p0=some r →
    Calls Tryz.prog 28 #[Q16 p0.toArray] w0 (Q63 T0 w0 g R r.1 r.2):=by
  intro r hm;refine enter func28 rfl ntmps28 rfl fun J => ?_;unfold Q4j at hm;refine sq2 (aL zv9 hS ?_);intro _ E _ aa;refine pn ?_;refine sq2 (blk (sq2 ?_));obtain⟨u1,ab,hm⟩:=bindS hm;refine pu ?_;refine pv (Z6f rfl rfl ab underlying9) ?_;refine cB cf50 hm (Z3z (aa.bun [0,1] [] rfl)) ?_;rintro _ _ _ _ _ ⟨rfl,I,_⟩ hm;refine cd hm ?_ ?_ <;> intro aj hm
  · refine sq2 (pu ?_);refine cB cf48 hm (Z0q (I.bun [0,1] [] rfl)) ?_;rintro _ _ T2 _ _ ⟨rfl,ad,_⟩ hm;refine pn ?_;refine sq2 ?_;obtain⟨u2,af,hm⟩:=bindS hm;refine pu ?_;refine pv (r_ss rfl rfl ⟨_,rfl⟩ af underlying9) (pv (F9 (by kernel_rfl) rfl (u := .agg #[iv 1,qZs u2,.int .u32 0,iv 0,iv 0])) (aL zv9 ad ?_));intro _ K _ ag;refine sT 0 ag ?_;intro w5 _ O;refine pn ?_;refine sq2 (sq2 (cd hm ?_ ?_)) <;> intro ak hm
    · exact zr hm O
    refine pn ?_;refine O7 hm (fun U a V => ∃(W:_) (D:V0),JR (nf 48) g T2 w5 a V W (U D=some r) [(2,pt E 0),(5,pt K 0)] [U5 K (Y8c D),U5 E zv9,Y5 R]) (fun U hm => ?_) ?_
    · exact zr hm O
    rintro _ V ⟨W,D,J,hm,rfl,ai,_⟩;exact zr hm ai
  exact zr hm I

instance : Ctr Tryz.prog 28 (type_of% @Z5b):=⟨@Z5b,cf28⟩
theorem Z9a {p0:List UInt8} (hS:Sep g T0 w0 [Y5 R]) (hG0:Gi T0 w0 0) : ∀ r,Y2e p0=some r →
    Calls Tryz.prog 13 #[Q16 p0.toArray] w0 (U7 T0 w0 fun T w v => ∃ a4 n4 c4,v = .tuple #[.slice a4 n4 c4,Q33 r.2.1,iv r.2.2]∧Sep g T w (R ++ [K3 Q6n 113 (.slice a4 n4 c4) r.1])∧True):=by
  intro r hm;refine enter func13 rfl ntmps13 rfl fun J => ?_;unfold Y2e at hm;refine sq2 (aL [iv 0,iv 0] hS ?_);intro _ I _ ai;refine pn ?_;refine sq2 (pu ?_);refine pv (F9 (by kernel_rfl) rfl (u := .agg #[iv 1,iv 1])) (pv (F9 (by kernel_rfl) rfl (u := .agg #[qZs p0,iv 1,iv 1])) (bX [qZs p0,iv 1,iv 1] ai ?_));intro w2 K _ ab;refine pn ?_;refine sq2 (sq2 (cd hm ?_ ?_)) <;> intro aJ hm
  · refine sq2 (rsS [0,0,0,1,0,2,0] [0,1,2,3,4,5,6] ab fun w3 aM ak => ?_);refine s2W [0] ?_;refine osT 1 ak ?_;intro _ _ am;refine pn ?_;have an:=am.nilO Q6n 113;exact re hm (an.sel [3,0] rfl)
  refine pn ?_;refine sq2 (pn ?_);refine sq2 ?_;have ao:=ab.nilO Q6n 113;refine lpJ hm (fun ac o1 m a w5 => ∃(T1:_) (D:B9) (V:List V0) (a1:_) (O:_) (c1:_),JR (nf 76) g T0 w2 a w5 T1 (loopM ac m (V,D)=some o1) [(3,pt I 0),(5,pt K 0),(6,.slice a1 O c1)] [K3 Q6n 113 (.slice a1 O c1) V,U5 K (Z2l D),U5 I [iv 0,iv 0],Y5 R]) (fun _ _ h=>je h (ao.sel (Z1 0 4) rfl)) ?_;rintro ac ap o1 W _ _ w5 ⟨T1,D,V,a1,O,c1,J,aq,rfl,ag,_⟩;obtain⟨m1,_,rfl,hm,U⟩:=lrE aq ap;refine sq2 (sq2 (cd hm ?_ ?_)) <;> intro aN hm
  · refine pn ?_;refine blk (sq2 (pu ?_));refine cB cf26 hm (Z5c (ag.bun (Z1 0 4) [] rfl) (hG0.mono ch)) ?_;rintro _ _ _ _ _ ⟨rfl,aa,_⟩ hm;refine pn ?_;refine sq2 (sq2 (cd hm ?_ ?_)) <;> intro aP hm
    · refine sq2 (rsS [0,0,0,1,0,2,0] [0,1,2,3,4,5,6] aa fun w7 aR ar => ?_);refine s2W [0] ?_;refine osT 2 ar ?_;intro _ _ au;refine pn ?_;have av:=au.nilO Q6n 113;have hm:=Q0o hm U W;exact re hm (av.sel [4,0] rfl)
    refine pn ?_;refine sq2 (sq2 (cd hm ?_ ?_)) <;> intro aS hm
    · exact zr hm aa
    refine pn ?_;refine sq2 (pu ?_);refine cB cf28 hm (Z5b (aa.bun (Z1 0 4) [] rfl)) ?_;rintro E _ _ _ _ ⟨rfl,aw,_⟩ hm;refine aL zv9 aw ?_;intro _ b3 _ ay;refine sT 0 ay ?_;intro _ _ ah;refine pn ?_;refine sq2 (sq2 (cd hm ?_ ?_)) <;> intro aT hm
    · refine sq2 (rsS [0,0,0,1,0,0,2,0] [0,1,2,3,4,5,6,7] ah fun aU aV az => ?_);refine s2W [0] ?_;refine osT 3 az ?_;intro _ _ aA;refine pu ?_;refine se (J3 [(2,.slice none 0 0),(3,pt I 0),(4,iv E.2)] ⟨rfl,rfl,rfl,qZt⟩ fun J => ?_);have aB:=aA.nilO Q6n 113;have hm:=Q0o hm U W;exact re hm (aB.sel [5,0] rfl)
    refine skp (J3 [(3,pt I 0),(5,pt K 0),(6,.slice a1 O c1),(8,pt b3 0)] ⟨rfl,rfl,rfl,rfl,qZt⟩ fun J => ?_);refine sq2 (sT 0 ah ?_);intro _ _ aC;refine pn ?_;refine sq2 (bS (r:=Q6n) (l:=([{E.1 with Pos:=D.pos}]:List V0)) (css := [[iv E.1.Kind,Q16 E.1.Text.toArray,.int .u32 E.1.Num,iv D.pos.Line,iv D.pos.Col]]) aC ⟨(Y4r (x := {E.1 with Pos:=D.pos})  : Q6n.rp _ _ _ _),qZt⟩ ?_);intro _ _ _ c2 _ aD;obtain⟨_,aE,hm⟩:=bindS hm;refine aO 2 aD (U3 aE) ?_;intro _ _ _ c3 _ aF;refine pn ?_;refine cB cf27 hm (Q7u (aF.bun [2,4,5] [3] rfl) (Q4u K)) ?_;rintro _ _ _ _ _ ⟨rfl,aG,_⟩ hm;exact lg hm U (aG.sel [0,3,1,2] rfl)
  have hm:=Q6d hm U W;refine pn ?_;refine sq2 (rsS [0,0,0,0,1,0,2,0] [0,1,2,3,4,5,6,7] ag fun aW aX aI => ?_);have dd:KD [(6,[4])]:=⟨qZt⟩;exact zr hm aI

instance : Ctr Tryz.prog 13 (type_of% @Z9a):=⟨@Z9a,cf13⟩
theorem C1 {p0:Z0} (hS:Q28 a1 c1 Z5 T0 g w0 R p0) (Z2:Ln Y2 Y1 Z5) (h1:Q5 a1 c1 T0 w0 p0) : ∀ r,F3 p0=some r →
    Calls Tryz.prog 57 #[pt Y2 Y1] w0 (U7 T0 w0 fun T w v=>v = .agg #[iv r.Line,iv r.Col]∧Q74 a1 c1 Z5 T g w R p0):=by
  intro r hm;refine enter func57 rfl ntmps57 rfl fun J => ?_;unfold F3 at hm;exact zr hm hS

instance : Ctr Tryz.prog 57 (type_of% @C1):=⟨@C1,cf57⟩
theorem Q4l {p0:Z0} {p1} {p2:List UInt8} (hS:Q28 a1 c1 Z5 T0 g w0 R p0) (Z2:Ln Y2 Y1 Z5) (h1:Q5 a1 c1 T0 w0 p0) : ∀ r,I7 p0 p1 p2=some r →
    Calls Tryz.prog 59 #[pt Y2 Y1,iv p1,Q16 p2.toArray] w0 (U7 T0 w0 fun T w v=>v = .bool r∧Q74 a1 c1 Z5 T g w R p0):=by
  intro r hm;refine enter func59 rfl ntmps59 rfl fun J => ?_;unfold I7 at hm;exact zr hm hS

instance : Ctr Tryz.prog 59 (type_of% @Q4l):=⟨@Q4l,cf59⟩
theorem N7 {p0:Z0} {p1:List UInt8} (hS:Q28 a1 c1 Z5 T0 g w0 R p0) (Z2:Ln Y2 Y1 Z5) (h1:Q5 a1 c1 T0 w0 p0) : ∀ r,V7 p0 p1=some r →
    Calls Tryz.prog 58 #[pt Y2 Y1,Q16 p1.toArray] w0 (U7 T0 w0 fun T w v=>v = .bool r∧Q74 a1 c1 Z5 T g w R p0):=by
  intro r hm;refine enter func58 rfl ntmps58 rfl fun J => ?_;unfold V7 at hm;exact zr hm hS

instance : Ctr Tryz.prog 58 (type_of% @N7):=⟨@N7,cf58⟩
theorem X8 {p0:Z0} {p1:List UInt8} (hS:Q28 a1 c1 Z5 T0 g w0 R p0) (Z2:Ln Y2 Y1 Z5) (h1:Q5 a1 c1 T0 w0 p0) : ∀ r,X3 p0 p1=some r →
    Calls Tryz.prog 86 #[pt Y2 Y1,Q16 p1.toArray] w0 (U7 T0 w0 fun T w v => ∃ a3 c3,v = .bool r.1∧Q54 a3 c3 Z5 T g w R r.2):=by
  intro r hm;refine enter func86 rfl ntmps86 rfl fun J => ?_;unfold X3 at hm;exact zr hm hS

instance : Ctr Tryz.prog 86 (type_of% @X8):=⟨@X8,Z3d⟩
theorem Z1x {p0:Z0} {p1} (hS:Q28 a1 c1 Z5 T0 g w0 R p0) (Z2:Ln Y2 Y1 Z5) (h1:Q5 a1 c1 T0 w0 p0) : ∀ r,W8 p0 p1=some r →
    Calls Tryz.prog 87 #[pt Y2 Y1,iv p1] w0 (exR r (fun r=>U7 T0 w0 fun T w v=>v = .tuple #[]∧Q74 a1 c1 Z5 T g w R p0) (fun r=>A5 T0 w0 fun T w v=>v = .iface 63 (Q18 r.pos r.e)∧Q74 a1 c1 Z5 T g w R p0)):=by
  intro r hm;refine enter func87 rfl ntmps87 rfl fun J => ?_;unfold W8 at hm;exact zr hm hS

instance : Ctr Tryz.prog 87 (type_of% @Z1x):=⟨@Z1x,cf87⟩
theorem X1 {p0:Z0} {p1:List UInt8} (hS:Q28 a1 c1 Z5 T0 g w0 R p0) (Z2:Ln Y2 Y1 Z5) (h1:Q5 a1 c1 T0 w0 p0) : ∀ r,Y9 p0 p1=some r →
    Calls Tryz.prog 60 #[pt Y2 Y1,Q16 p1.toArray] w0 (exR r (fun r=>U7 T0 w0 fun T w v => ∃ a3 c3,v = .tuple #[]∧Q54 a3 c3 Z5 T g w R r) (fun r=>A5 T0 w0 (Q3 Z5 g R r.1.pos r.1.e r.2 r.2.l))):=by
  intro r hm;refine enter func60 rfl ntmps60 rfl fun J => ?_;unfold Y9 at hm;exact zr hm hS

instance : Ctr Tryz.prog 60 (type_of% @X1):=⟨@X1,Q9t⟩
theorem Q7n {p0:Z0} {p1} (hS:Q28 a1 c1 Z5 T0 g w0 R p0) (Z2:Ln Y2 Y1 Z5) (h1:Q5 a1 c1 T0 w0 p0) : ∀ r,C9 p0 p1=some r →
    Calls Tryz.prog 88 #[pt Y2 Y1,iv p1] w0 (exR r (fun r=>U7 T0 w0 fun T w v => ∃ a3 c3,v = .agg (Y8c r.1).toArray∧Q54 a3 c3 Z5 T g w R r.2) (fun r=>A5 T0 w0 (Q3 Z5 g R r.1.pos r.1.e r.2 r.2.l))):=by
  intro r hm;refine enter func88 rfl ntmps88 rfl fun J => ?_;unfold C9 at hm;refine sq2 (aL zv9 hS ?_);intro O D _ U;refine pn ?_;refine O7 hm (fun E a I => ∃ K,JR (nf 40) g T0 O a I K (E ()=some r) [(0,pt Y2 Y1),(4,pt D 0)] [U5 D zv9,Y5 R,Q1 a1 c1 Z5 p0]) (fun E hm => ?_) ?_
  · exact zr hm U
  rintro _ I ⟨K,J,hm,rfl,V,_⟩;exact zr hm V

instance : Ctr Tryz.prog 88 (type_of% @Q7n):=⟨@Q7n,cf88⟩
theorem D6 {p0:Z0} (hS:Q28 a1 c1 Z5 T0 g w0 R p0) (Z2:Ln Y2 Y1 Z5) (h1:Q5 a1 c1 T0 w0 p0) : ∀ r,J8 p0=some r →
    Calls Tryz.prog 61 #[pt Y2 Y1] w0 (exR r (fun r=>U7 T0 w0 fun T w v => ∃ a4 c4,v=(qZs r.1)∧Q54 a4 c4 Z5 T g w R r.2) (fun r=>A5 T0 w0 (Q3 Z5 g R r.1.pos r.1.e r.2 r.2.l))):=by
  intro r hm;refine enter func61 rfl ntmps61 rfl fun J => ?_;unfold J8 at hm;exact zr hm hS

instance : Ctr Tryz.prog 61 (type_of% @D6):=⟨@D6,cf61⟩
theorem Q7e {p0:Z0} (hS:Q28 a1 c1 Z5 T0 g w0 R p0) (Z2:Ln Y2 Y1 Z5) (h1:Q5 a1 c1 T0 w0 p0) : ∀ r,Q1q p0=some r →
    Calls Tryz.prog 90 #[pt Y2 Y1] w0 (U7 T0 w0 fun T w v=>v = .bool r∧Q74 a1 c1 Z5 T g w R p0):=by
  intro r hm;refine enter func90 rfl ntmps90 rfl fun J => ?_;unfold Q1q at hm;exact zr hm hS

instance : Ctr Tryz.prog 90 (type_of% @Q7e):=⟨@Q7e,cf90⟩
theorem F4 {p0:Z0} (hS:Q28 a1 c1 Z5 T0 g w0 R p0) (Z2:Ln Y2 Y1 Z5) (h1:Q5 a1 c1 T0 w0 p0) : ∀ r,G6 p0=some r →
    Calls Tryz.prog 63 #[pt Y2 Y1] w0 (exR r (fun r=>U7 T0 w0 fun T w v => ∃ a8 c8,v = .agg (Z3m r.1).toArray∧Q54 a8 c8 Z5 T g w R r.2) (fun r=>A5 T0 w0 (Q3 Z5 g R r.1.pos r.1.e r.2 r.2.l))):=by
  intro r hm;refine enter func63 rfl ntmps63 rfl fun J => ?_;unfold G6 at hm;refine sq2 (aL zv10 hS ?_);intro w1 D an ao;refine pn ?_;refine O7 hm (fun af a w2 => ∃ V,JR (nf 38) g T0 w1 a w2 V (af ()=some r) [(0,pt Y2 Y1),(2,pt D 0)] [U5 D zv10,Y5 R,Q1 a1 c1 Z5 p0]) (fun af hm => ?_) ?_
  · exact zr hm ao
  rintro _ w2 ⟨V,J,hm,rfl,ap,aq⟩;refine sq2 ?_;obtain⟨u2,_,hm⟩:=bindS hm;refine pu ?_;refine pv (F9 (by kernel_rfl) rfl (u := .agg #[qZs u2.Text,qZs [],iv 0])) (aL zv10 ap ?_);intro _ E au av;refine sT 0 av ?_;intro _ aw ax;refine pn ?_;refine sq2 ?_;obtain⟨_,ah,hm⟩:=bindS hm;obtain⟨_,c2,ay,h2⟩:=(h1.mono (iT an (iT aq (iT au aw)))).part ah;refine pu ?_;refine pv (r_slR rfl (h1.mono ch) ⟨_,rfl⟩ rfl ah underlying53 sizeOf113 rfl ay) (sB 3 0 Z2 ax ?_);intro w8 _ aA;refine pn ?_;refine O7 hm (fun ai a I => ∃(K:_) (O:Z0) (W:B3) (a3:_) (c3:_),JR (nf 38) g V w8 a I K (ai W O=some r) [(0,pt Y2 Y1),(2,pt D 0),(3,pt E 0)] [U5 E (Z3m W),U5 D zv10,Y5 R,Q1 a3 c3 Z5 O]∧Q5 a3 c3 K I O) (fun ai hm => ?_) ?_
  · exact zr hm aA
  rintro _ I ⟨K,O,W,a3,c3,⟨J,hm,rfl,aB,_⟩,h3⟩;refine sq2 (lpJ hm (fun aj o1 m a ab => ∃(T8:_) (U:Z0) (x3:B3) (a6:_) (c6:_),JR (nf 38) g K I a ab T8 (loopM aj m (x3,U)=some o1) [(0,pt Y2 Y1),(2,pt D 0),(3,pt E 0)] [U5 E (Z3m x3),U5 D zv10,Y5 R,Q1 a6 c6 Z5 U]∧Q5 a6 c6 T8 ab U) (fun _ _ h=>je h (aB.sel (Z1 0 4) rfl)) ?_);rintro aj aC o1 _ _ _ ab ⟨T8,U,x3,a6,c6,⟨J,aD,rfl,aE,_⟩,h6⟩;obtain⟨m1,_,rfl,hm,_⟩:=lrE aD aC;exact zr hm aE

instance : Ctr Tryz.prog 63 (type_of% @F4):=⟨@F4,cf63⟩
theorem Q4n {p0:Z0} (hS:Q28 a1 c1 Z5 T0 g w0 R p0) (Z2:Ln Y2 Y1 Z5) (h1:Q5 a1 c1 T0 w0 p0) : ∀ r,Q3a p0=some r →
    Calls Tryz.prog 89 #[pt Y2 Y1] w0 (exR r (fun r=>U7 T0 w0 fun T w v => ∃ a11 n4 c11 a12 c12,v = .slice a11 n4 c11∧Sep g T w (R ++ [Q1 a12 c12 Z5 r.2,K3 (E6 .u32) 104 (.slice a11 n4 c11) r.1])∧Q5 a12 c12 T w r.2∧True) (fun r=>A5 T0 w0 (Q3 Z5 g R r.1.pos r.1.e r.2 r.2.l))):=by
  intro r hm;refine enter func89 rfl ntmps89 rfl fun J => ?_;unfold Q3a at hm;refine sq2 (pn ?_);refine sq2 (pn ?_);refine sq2 ?_;have af:=hS.nilO (E6 .u32) 104;refine lpJ hm (fun ab o1 m a I => ∃(K:_) (D:Z0) (O:List Int) (U:_) (V:_) (c2:_) (W:_) (c3:_),JR (nf 15) g T0 w0 a I K (loopM ab m (O,D)=some o1) [(0,pt Y2 Y1),(3,.slice U V c2)] [K3 (E6 .u32) 104 (.slice U V c2) O,Y5 R,Q1 W c3 Z5 D]∧Q5 W c3 K I D) (fun _ _ h=>je h (af.sel [0,1,2] rfl)) ?_;rintro ab ag o1 aa _ _ I ⟨K,D,O,U,V,c2,W,c3,⟨J,ah,rfl,ai,_⟩,h2⟩;obtain⟨m1,_,rfl,hm,E⟩:=lrE ah ag;refine sq2 (sq2 (pu ?_));refine cB Z3d hm (X8 (ai.bun [0,1] [2] rfl) Z2 h2) ?_;rintro _ _ _ _ _ ⟨_,c4,rfl,ad,h3,_⟩ hm;refine cd hm ?_ ?_ <;> intro au hm
  · refine pn ?_;refine blk (sq2 (pu ?_));refine cP cf88 hm (Q7n (ad.bun [0,1] [2] rfl) Z2 h3) ?_ ?_
    · rintro _ _ _ _ _ ⟨_,c10,rfl,aj,_,_⟩ hm;have hm:=Q0o hm E aa;exact pe hm (aj.sel [1,2] rfl)
    rintro y2 _ _ _ _ ⟨_,c5,rfl,ak,h4,_⟩ hm;refine pv (r_fd1 rfl underlying113 rfl isAgg104 rfl) (bS (r:=(E6 .u32)) (l:=([y2.1.Num]:List Int)) (css := [[.int .u32 y2.1.Num]]) ak ⟨rfl,qZt⟩ ?_);intro _ _ _ c6 _ an;obtain⟨_,ao,hm⟩:=bindS hm;refine aO 1 an (U3 ao) ?_;intro _ _ _ c7 _ ap;refine pn ?_;refine cP Q9t hm (X1 (ap.bun [1,2] [3] rfl) Z2 (h4.mono ch)) ?_ ?_
    · rintro _ _ _ _ _ ⟨_,c9,rfl,aq,h6,_⟩ hm;have hm:=Q0o hm E aa;exact pe hm (aq.sel [1,2] rfl)
    rintro _ _ _ _ _ ⟨_,c8,rfl,ar,_,_⟩ hm;exact lg hm E (ar.sel [0,1,2] rfl)
  have hm:=Q6d hm E aa;refine pn ?_;exact sq2 (re hm (ad.sel [1,2,0] rfl))

instance : Ctr Tryz.prog 89 (type_of% @Q4n):=⟨@Q4n,cf89⟩
theorem Q6i {p0:Z0} (hS:Q28 a1 c1 Z5 T0 g w0 R p0) (Z2:Ln Y2 Y1 Z5) (h1:Q5 a1 c1 T0 w0 p0) : ∀ r,Q3f p0=some r →
    Calls Tryz.prog 62 #[pt Y2 Y1] w0 (exR r (fun r=>U7 T0 w0 (Q55 Z5 g R r.2 r.1)) (fun r=>A5 T0 w0 (Q3 Z5 g R r.1.pos r.1.e r.2 r.2.l))):=by
  intro r hm;refine enter func62 rfl ntmps62 rfl fun J => ?_;unfold Q3f at hm;refine sq2 (pn ?_);refine sq2 (pn ?_);refine sq2 (pu ?_);refine cP Q9t hm (X1 (hS.bun [0] [1] rfl) Z2 h1) ?_ ?_
  · rintro _ _ _ _ _ ⟨_,c21,rfl,aj,_,_⟩ hm;exact pe hm (aj.sel [0,1] rfl)
  rintro _ _ T1 w1 _ ⟨_,c2,rfl,an,h2,_⟩ hm;refine pn ?_;refine sq2 ?_;have ao:=an.nilO W2 86;refine lpJ hm (fun ag o1 m a U => ∃(V:_) (O:Z0) (W:List F2) (a3:_) (n1:_) (c3:_) (a4:_) (c4:_),JR (nf 30) g T1 w1 a U V (loopM ag m (W,O)=some o1) [(0,pt Y2 Y1),(3,.slice a3 n1 c3)] [K3 W2 86 (.slice a3 n1 c3) W,Y5 R,Q1 a4 c4 Z5 O]∧Q5 a4 c4 V U O) (fun _ _ h=>je h (ao.sel [0,1,2] rfl)) ?_;rintro ag ap o1 K _ _ U ⟨V,O,W,a3,n1,c3,a4,c4,⟨J,aq,rfl,ar,_⟩,h3⟩;obtain⟨m1,_,rfl,hm,E⟩:=lrE aq ap;refine sq2 (sq2 (pu ?_));refine cB Z3d hm (X8 (ar.bun [0,1] [2] rfl) Z2 h3) ?_;rintro _ _ _ _ _ ⟨_,c5,rfl,ai,h4,_⟩ hm;refine cd hm ?_ ?_ <;> intro aX hm
  · refine pn ?_;refine blk (sq2 (pu ?_));refine cB cf57 hm (C1 (ai.bun [0,1] [2] rfl) Z2 h4) ?_;rintro I _ _ _ au ⟨rfl,av,_⟩ hm;refine pu ?_;refine cP cf63 hm (F4 (av.bun [0,1] [2] rfl) Z2 (h4.mono au)) ?_ ?_
    · rintro _ _ _ _ _ ⟨_,c16,rfl,aw,_,_⟩ hm;have hm:=Q0o hm E K;exact pe hm (aw.sel [1,2] rfl)
    rintro D _ _ _ _ ⟨_,c6,rfl,ax,h5,_⟩ hm;refine pv (F9 (by kernel_rfl) rfl (u := .agg #[iv I.Line,iv I.Col,qZs D.1.Word,qZs D.1.Name,iv D.1.Stars,qZs [],.slice none 0 0,.slice none 0 0,.bool false])) (aL zv4 ax ?_);intro _ _ _ az;refine sT 0 az ?_;intro _ _ aA;refine pn ?_;refine sq2 (pu ?_);refine cP cf61 hm (D6 (aA.bun [0,1,2] [3] rfl) Z2 (h5.mono ch)) ?_ ?_
    · rintro _ _ _ _ _ ⟨_,c15,rfl,aB,_,_⟩ hm;have hm:=Q0o hm E K;exact pe hm (aB.sel [2,3] rfl)
    rintro y5 _ _ _ _ ⟨_,c7,rfl,aC,h6,_⟩ hm;refine sT 0 aC ?_;intro _ aD aE;refine pn ?_;refine sq2 (pu ?_);refine cP cf89 hm (Q4n (aE.bun [0,1,2] [3] rfl) Z2 (h6.mono aD)) ?_ ?_
    · rintro _ _ _ _ _ ⟨_,c14,rfl,aF,_,_⟩ hm;have hm:=Q0o hm E K;exact pe hm (aF.sel [2,3] rfl)
    rintro y6 _ _ _ _ ⟨a8,_,c8,_,c9,rfl,aI,h7,_⟩ hm;refine sT 0 aI ?_;intro _ aK aM;refine pn ?_;refine sq2 (pu ?_);refine cP Q9t hm (X1 (aM.bun [0,1,2,4] [3] rfl) Z2 (h7.mono aK)) ?_ ?_
    · rintro _ _ _ _ _ ⟨_,c13,rfl,aN,_,_⟩ hm;have hm:=Q0o hm E K;exact pe hm (aN.sel [2,4] rfl)
    rintro _ _ _ _ _ ⟨_,c10,rfl,aP,_,_⟩ hm;refine pn ?_;obtain⟨_,_,aQ,h9,rfl⟩:=aP.sl 3;refine bS (r:=W2) (l:=([(⟨I,D.1,y5.1,y6.1,[],false⟩:F2)]:List F2)) (css := [[iv I.Line,iv I.Col,Q16 D.1.Word.toArray,Q16 D.1.Name.toArray,iv D.1.Stars,Q16 y5.1.toArray,sv a8 y6.1 c8,.slice none 0 0,.bool false]]) aQ ⟨(Z3x (x:=(⟨I,D.1,y5.1,y6.1,[],false⟩:F2)) h9 V4:W2.rp _ _ _ _),qZt⟩ ?_;intro _ _ _ c11 _ aS;obtain⟨_,aT,hm⟩:=bindS hm;refine aO 2 aS (U3 aT) ?_;intro _ _ _ c12 _ aU;exact lg hm E (aU.sel [2,3,5] rfl)
  have hm:=Q6d hm E K;refine pn ?_;refine sq2 (pu ?_);refine cP Q9t hm (X1 (ai.bun [0,1] [2] rfl) Z2 h4) ?_ ?_
  · rintro _ _ _ _ _ ⟨_,c20,rfl,aV,_,_⟩ hm;exact pe hm (aV.sel [1,2] rfl)
  rintro _ _ _ _ _ ⟨_,c19,rfl,aW,_,_⟩ hm;refine pn ?_;exact sq2 (re hm (aW.sel [1,2,0] rfl))

instance : Ctr Tryz.prog 62 (type_of% @Q6i):=⟨@Q6i,cf62⟩
theorem R6 {p0:Z0} (hS:Q28 a1 c1 Z5 T0 g w0 R p0) (Z2:Ln Y2 Y1 Z5) (h1:Q5 a1 c1 T0 w0 p0) : ∀ r,N8 p0=some r →
    Calls Tryz.prog 116 #[pt Y2 Y1] w0 (exR r (fun r=>U7 T0 w0 fun T w v => ∃ b2 a2 c2,v = .func (.func 153) #[] #[pt b2 0]∧Sep g T w (R ++ [Q1 a2 c2 Z5 r,U5 b2 [pt Y2 Y1]])∧Q5 a2 c2 T w r∧True) (fun r=>A5 T0 w0 (Q3 Z5 g R r.1.pos r.1.e r.2 r.2.l))):=by
  intro r hm;refine enter func116 rfl ntmps116 rfl fun J => ?_;unfold N8 at hm;refine sq2 (bX [pt Y2 Y1] hS ?_);intro O D _ U;refine pv (r_zx (v := .nilFunc) rfl) (pn ?_);refine O7 hm (fun E a I => ∃ K,JR (nf 18) g T0 O a I K (E ()=some r) [(1,pt D 0)] [U5 D [pt Y2 Y1],Y5 R,Q1 a1 c1 Z5 p0]) (fun E hm => ?_) ?_
  · exact zr hm U
  rintro _ I ⟨K,J,hm,rfl,V,_⟩;exact zr hm V

instance : Ctr Tryz.prog 116 (type_of% @R6):=⟨@R6,Y9w⟩
theorem O0 {p0:Z0} (hS:Q28 a1 c1 Z5 T0 g w0 R p0) (Z2:Ln Y2 Y1 Z5) (h1:Q5 a1 c1 T0 w0 p0) : ∀ r,E7 p0=some r →
    Calls Tryz.prog 119 #[pt Y2 Y1] w0 (U7 T0 w0 fun T w v=>v=(qZs r)∧Q74 a1 c1 Z5 T g w R p0):=by
  intro r hm;refine enter func119 rfl ntmps119 rfl fun J => ?_;unfold E7 at hm;exact zr hm hS

instance : Ctr Tryz.prog 119 (type_of% @O0):=⟨@O0,Y6w⟩
theorem D5 {p0:Z0} {p1} (hS:Q28 a1 c1 Z5 T0 g w0 R p0) (Z2:Ln Y2 Y1 Z5) (h1:Q5 a1 c1 T0 w0 p0) : ∀ r,K8 p0 p1=some r →
    Calls Tryz.prog 120 #[pt Y2 Y1,iv p1] w0 (U7 T0 w0 (Q13 Z5 g R r.1 r.2 r.1.Kids)):=by
  intro r hm;refine enter func120 rfl ntmps120 rfl fun J => ?_;unfold K8 at hm;exact zr hm hS

instance : Ctr Tryz.prog 120 (type_of% @D5):=⟨@D5,Y5j⟩
theorem Z4u {p0:List UInt8} (hS:Sep g T0 w0 [Y5 R])  : ∀ r,Z3e p0=some r →
    Calls Tryz.prog 175 #[Q16 p0.toArray] w0 (Q27 T0 w0 g R r):=by
  intro r hm;refine enter func175 rfl ntmps175 rfl fun J => ?_;unfold Z3e at hm;refine sq2 (pn ?_);refine sq2 (sq2 (pn ?_));refine blk (sq2 (cd hm ?_ ?_)) <;> intro au hm
  · exact sq2 (re hm (hS.sel [0] rfl))
  refine sq2 (cd hm ?_ ?_) <;> intro av hm
  · exact sq2 (re hm (hS.sel [0] rfl))
  refine sq2 (cd hm ?_ ?_) <;> intro aw hm
  · exact sq2 (re hm (hS.sel [0] rfl))
  refine sq2 (cd hm ?_ ?_) <;> intro ax hm
  · exact sq2 (re hm (hS.sel [0] rfl))
  refine sq2 (cd hm ?_ ?_) <;> intro ay hm
  · exact sq2 (re hm (hS.sel [0] rfl))
  refine O7 hm (fun af a D => ∃ E I,JR (nf 32) g T0 w0 a D E (af I=some r) [(3,(qZs p0)),(14,.bool I)] [Y5 R]) (fun af hm => ?_) ?_
  · exact zr hm hS
  rintro _ D ⟨E,I,J,hm,rfl,ag,_⟩;refine cd hm ?_ ?_ <;> intro az hm
  · exact sq2 (re hm (ag.sel [0] rfl))
  refine O7 hm (fun ah a K => ∃ O U,JR (nf 32) g E D a K O (ah U=some r) [(3,(qZs p0)),(17,.bool U)] [Y5 R]) (fun ah hm => ?_) ?_
  · exact zr hm ag
  rintro _ K ⟨O,U,J,hm,rfl,ai,_⟩;refine cd hm ?_ ?_ <;> intro aA hm
  · exact sq2 (re hm (ai.sel [0] rfl))
  refine O7 hm (fun aj a V => ∃ W x3,JR (nf 32) g O K a V W (aj x3=some r) [(3,(qZs p0)),(22,.bool x3)] [Y5 R]) (fun aj hm => ?_) ?_
  · exact zr hm ai
  rintro _ V ⟨W,x3,J,hm,rfl,ak,_⟩;refine cd hm ?_ ?_ <;> intro aB hm
  · exact sq2 (re hm (ak.sel [0] rfl))
  refine O7 hm (fun am a w4 => ∃ T4 x4,JR (nf 32) g W V a w4 T4 (am x4=some r) [(3,(qZs p0)),(25,.bool x4)] [Y5 R]) (fun am hm => ?_) ?_
  · exact zr hm ak
  rintro _ w4 ⟨T4,x4,J,hm,rfl,an,_⟩;refine cd hm ?_ ?_ <;> intro aC hm
  · exact sq2 (re hm (an.sel [0] rfl))
  refine O7 hm (fun ao a w5 => ∃ T5 x5,JR (nf 32) g T4 w4 a w5 T5 (ao x5=some r) [(28,.bool x5)] [Y5 R]) (fun ao hm => ?_) ?_
  · exact zr hm an
  rintro _ w5 ⟨T5,x5,J,hm,rfl,ar,_⟩;exact zr hm ar

instance : Ctr Tryz.prog 175 (type_of% @Z4u):=⟨@Z4u,cf175⟩
theorem Q5f {p0:Z0} (hS:Sep g T0 w0 [Y5 R,Z5 [pt b1 oo1],Q1 a1 c1 H1 p0]) (Z2:Ln Y2 Y1 Z5) (hL1:Ln b1 oo1 H1) (h1:Q5 a1 c1 T0 w0 p0) : ∀ r,Q7o p0=some r →
    Calls Tryz.prog 153 #[pt Y2 Y1] w0 (U7 T0 w0 fun T w v => ∃ a2 c2,v = .tuple #[]∧Sep g T w (R ++ [Z5 [pt b1 oo1],Q1 a2 c2 H1 r])∧Q5 a2 c2 T w r∧True):=by
  intro r hm;refine enter func153 rfl ntmps153 rfl fun J => ?_;unfold Q7o at hm;exact zr hm hS

instance : Ctr Tryz.prog 153 (type_of% @Q5f):=⟨@Q5f,Q0m⟩
theorem Z1c {p0:List UInt8} (hS:Sep g T0 w0 [Y5 R])  : ∀ r,Q8f p0=some r →
    Calls Tryz.prog 118 #[Q16 p0.toArray] w0 (Q17 T0 w0 g R r):=by
  intro r hm;refine enter func118 rfl ntmps118 rfl fun J => ?_;unfold Q8f at hm;refine sq2 (pn ?_);refine sq2 (sq2 (pn ?_));refine blk (O7 hm (fun E a I => ∃ K D,JR (nf 16) g T0 w0 a I K (E D=some r) [(4,.bool D)] [Y5 R]) (fun E hm => ?_) ?_)
  · exact zr hm hS
  rintro _ I ⟨K,D,J,hm,rfl,O,_⟩;exact zr hm O
instance : Ctr Tryz.prog 118 (type_of% @Z1c):=⟨@Z1c,cf118⟩
end Go.Proofs.YtfffghclkmbopaaGreat
