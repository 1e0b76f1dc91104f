/- That Go functions compute their models. Printed by gen2.py. -/
import Derived.Test.YtbfpdnogfkbiaaaGreatKWc
set_option linter.unusedVariables false
namespace Go.Proofs.YtbfpdnogfkbiaaaGreat
open _root_.Go.Proofs.Tryz
set_option maxRecDepth 100000
set_option maxHeartbeats 8000000
attribute [local irreducible] wpList wpQuiet Code.wp
variable {g:World} {T0:Nat→Prop} {w0:World} {R:List Y9}
variable {b1 b2 Z9 Q0l Z8t Z8s Z9v c1 c2 c3 c4 c5 c6 c7 c8 c9 c10 c11 c12 c13 n1 n2 n3 n4 n5 n6 n7 Z8 Q0k Z7z Z7y Z9i oo1 oo2:Nat} {H1 H2 Z5 H6 Z5w Z5v Z8v:List Value→Y9} {a1 a2 a3 a4 a5 a6 a7 a8 a9 a10 a11 a12 a13:OA} {r1 r2:Option Nat} {pv1:Value}
attribute [local irreducible] N2 S0 execOp Program.underlying sizeOf isAgg zeroValue

def Q5p (F:Q0→Y7→Option (Except (Z4×Q0) (Y5×Q0))):Prop := ∀ {g:World} {T0:TP} {w0:World} {R:List Y9} {p0:Q0} {Z9 Z8:Nat} {Z5:List Value→Y9} {b1 oo1} {H1:List Value→Y9} {a1 n1 c1 a2 n2 c2 a3 n3 c3 a4 n4 c4 r1 r2 a5 n5 c5 a6 n6 c6 pv1} {p1:Y7} {a7 c7} (hS:Q33 a1 a2 a3 a4 a5 a6 b1 oo1 n1 c1 n2 c2 n3 c3 n4 c4 n5 c5 n6 c6 Z5 H1 T0 g w0 pv1 r1 r2 R p0) (Z3:Ln Z9 Z8 Z5) (hL1:Ln b1 oo1 H1) (h1:Q10 a7 c7 T0 w0 p1.Kids),∀ r,F p0 p1=some r →
    Cl 188 #[pt Z9 Z8,Q41 a7 c7 p1] w0 (exR r (fun r=>K2 T0 w0 fun T w v => ∃ a11 c11 a12 n9 c12,v = .agg (V8 r.1 a11 c11).toArray∧Sep g T w (R++(Q2 a12 a2 a3 a4 a5 a6 b1 oo1 n9 c12 n2 c2 n3 c3 n4 c4 n5 c5 n6 c6 Z5 H1 pv1 r1 r2 r.2))∧Q11 a11 c11 T w r.1.Kids∧True) (fun r=>C7 T0 w0 (Q6 a2 a3 a4 a5 a6 b1 oo1 n2 c2 n3 c3 n4 c4 n5 c5 n6 c6 Z5 H1 g pv1 r1 r2 R r.1.pos r.1.e r.2)))
def Q3x (F:Q0→Y7→Option (Except (Z4×Q0) (Y5×Q0))):Prop := ∀ {g:World} {T0:TP} {w0:World} {R:List Y9} {p0:Q0} {Z9 Z8:Nat} {Z5:List Value→Y9} {b1 oo1} {H1:List Value→Y9} {a1 n1 c1 a2 n2 c2 a3 n3 c3 a4 n4 c4 r1 r2 a5 n5 c5 a6 n6 c6 pv1} {p1:Y7} {a7 c7} (hS:Q33 a1 a2 a3 a4 a5 a6 b1 oo1 n1 c1 n2 c2 n3 c3 n4 c4 n5 c5 n6 c6 Z5 H1 T0 g w0 pv1 r1 r2 R p0) (Z3:Ln Z9 Z8 Z5) (hL1:Ln b1 oo1 H1) (h1:Q10 a7 c7 T0 w0 p1.Kids),∀ r,F p0 p1=some r →
    Cl 181 #[pt Z9 Z8,Q41 a7 c7 p1] w0 (exR r (fun r=>K2 T0 w0 fun T w v => ∃ a11 c11 a12 n9 c12,v = .agg (V8 r.1 a11 c11).toArray∧Sep g T w (R++(Q2 a12 a2 a3 a4 a5 a6 b1 oo1 n9 c12 n2 c2 n3 c3 n4 c4 n5 c5 n6 c6 Z5 H1 pv1 r1 r2 r.2))∧Q11 a11 c11 T w r.1.Kids∧True) (fun r=>C7 T0 w0 (Q6 a2 a3 a4 a5 a6 b1 oo1 n2 c2 n3 c3 n4 c4 n5 c5 n6 c6 Z5 H1 g pv1 r1 r2 R r.1.pos r.1.e r.2)))
def Q5l (F:Q0→Y7→Option (Except (Z4×Q0) (Y1×Q0))):Prop := ∀ {g:World} {T0:TP} {w0:World} {R:List Y9} {p0:Q0} {Z9 Z8:Nat} {Z5:List Value→Y9} {b1 oo1} {H1:List Value→Y9} {a1 n1 c1 a2 n2 c2 a3 n3 c3 a4 n4 c4 r1 r2 a5 n5 c5 a6 n6 c6 pv1} {p1:Y7} {a7 c7} (hS:Q33 a1 a2 a3 a4 a5 a6 b1 oo1 n1 c1 n2 c2 n3 c3 n4 c4 n5 c5 n6 c6 Z5 H1 T0 g w0 pv1 r1 r2 R p0) (Z3:Ln Z9 Z8 Z5) (hL1:Ln b1 oo1 H1) (h1:Q10 a7 c7 T0 w0 p1.Kids),∀ r,F p0 p1=some r →
    Cl 174 #[pt Z9 Z8,Q41 a7 c7 p1] w0 (exR r (fun r=>K2 T0 w0 (Q9 a2 a3 a4 a5 a6 b1 oo1 n2 c2 n3 c3 n4 c4 n5 c5 n6 c6 Z5 H1 g pv1 r1 r2 R r.1 r.2)) (fun r=>C7 T0 w0 (Q6 a2 a3 a4 a5 a6 b1 oo1 n2 c2 n3 c3 n4 c4 n5 c5 n6 c6 Z5 H1 g pv1 r1 r2 R r.1.pos r.1.e r.2)))
def Q7b (F:Q0→Int→Y7→Option (Except (Z4×Q0) (Y1×Q0))):Prop := ∀ {g:World} {T0:TP} {w0:World} {R:List Y9} {p0:Q0} {Z9 Z8:Nat} {Z5:List Value→Y9} {b1 oo1} {H1:List Value→Y9} {a1 n1 c1 a2 n2 c2 a3 n3 c3 a4 n4 c4 r1 r2 a5 n5 c5 a6 n6 c6 pv1 p1} {p2:Y7} {a7 c7} (hS:Q33 a1 a2 a3 a4 a5 a6 b1 oo1 n1 c1 n2 c2 n3 c3 n4 c4 n5 c5 n6 c6 Z5 H1 T0 g w0 pv1 r1 r2 R p0) (Z3:Ln Z9 Z8 Z5) (hL1:Ln b1 oo1 H1) (h1:Q10 a7 c7 T0 w0 p2.Kids),∀ r,F p0 p1 p2=some r →
    Cl 194 #[pt Z9 Z8,iv p1,Q41 a7 c7 p2] w0 (exR r (fun r=>K2 T0 w0 (Q9 a2 a3 a4 a5 a6 b1 oo1 n2 c2 n3 c3 n4 c4 n5 c5 n6 c6 Z5 H1 g pv1 r1 r2 R r.1 r.2)) (fun r=>C7 T0 w0 (Q6 a2 a3 a4 a5 a6 b1 oo1 n2 c2 n3 c3 n4 c4 n5 c5 n6 c6 Z5 H1 g pv1 r1 r2 R r.1.pos r.1.e r.2)))
def Q4b (F:Q0→Y7→Option (Except (Z4×Q0) (Y1×Q0))):Prop := ∀ {g:World} {T0:TP} {w0:World} {R:List Y9} {p0:Q0} {Z9 Z8:Nat} {Z5:List Value→Y9} {b1 oo1} {H1:List Value→Y9} {a1 n1 c1 a2 n2 c2 a3 n3 c3 a4 n4 c4 r1 r2 a5 n5 c5 a6 n6 c6 pv1} {p1:Y7} {a7 c7} (hS:Q33 a1 a2 a3 a4 a5 a6 b1 oo1 n1 c1 n2 c2 n3 c3 n4 c4 n5 c5 n6 c6 Z5 H1 T0 g w0 pv1 r1 r2 R p0) (Z3:Ln Z9 Z8 Z5) (hL1:Ln b1 oo1 H1) (h1:Q10 a7 c7 T0 w0 p1.Kids),∀ r,F p0 p1=some r →
    Cl 175 #[pt Z9 Z8,Q41 a7 c7 p1] w0 (exR r (fun r=>K2 T0 w0 (Q9 a2 a3 a4 a5 a6 b1 oo1 n2 c2 n3 c3 n4 c4 n5 c5 n6 c6 Z5 H1 g pv1 r1 r2 R r.1 r.2)) (fun r=>C7 T0 w0 (Q6 a2 a3 a4 a5 a6 b1 oo1 n2 c2 n3 c3 n4 c4 n5 c5 n6 c6 Z5 H1 g pv1 r1 r2 R r.1.pos r.1.e r.2)))
def Q5n (F:Q0→Y7→Option (Except (Z4×Q0) (Y1×Q0))):Prop := ∀ {g:World} {T0:TP} {w0:World} {R:List Y9} {p0:Q0} {Z9 Z8:Nat} {Z5:List Value→Y9} {b1 oo1} {H1:List Value→Y9} {a1 n1 c1 a2 n2 c2 a3 n3 c3 a4 n4 c4 r1 r2 a5 n5 c5 a6 n6 c6 pv1} {p1:Y7} {a7 c7} (hS:Q33 a1 a2 a3 a4 a5 a6 b1 oo1 n1 c1 n2 c2 n3 c3 n4 c4 n5 c5 n6 c6 Z5 H1 T0 g w0 pv1 r1 r2 R p0) (Z3:Ln Z9 Z8 Z5) (hL1:Ln b1 oo1 H1) (h1:Q10 a7 c7 T0 w0 p1.Kids),∀ r,F p0 p1=some r →
    Cl 198 #[pt Z9 Z8,Q41 a7 c7 p1] w0 (exR r (fun r=>K2 T0 w0 (Q9 a2 a3 a4 a5 a6 b1 oo1 n2 c2 n3 c3 n4 c4 n5 c5 n6 c6 Z5 H1 g pv1 r1 r2 R r.1 r.2)) (fun r=>C7 T0 w0 (Q6 a2 a3 a4 a5 a6 b1 oo1 n2 c2 n3 c3 n4 c4 n5 c5 n6 c6 Z5 H1 g pv1 r1 r2 R r.1.pos r.1.e r.2)))
def Q4c (F:Q0→Y7→Option (Except (Z4×Q0) (Y1×Q0))):Prop := ∀ {g:World} {T0:TP} {w0:World} {R:List Y9} {p0:Q0} {Z9 Z8:Nat} {Z5:List Value→Y9} {b1 oo1} {H1:List Value→Y9} {a1 n1 c1 a2 n2 c2 a3 n3 c3 a4 n4 c4 r1 r2 a5 n5 c5 a6 n6 c6 pv1} {p1:Y7} {a7 c7} (hS:Q33 a1 a2 a3 a4 a5 a6 b1 oo1 n1 c1 n2 c2 n3 c3 n4 c4 n5 c5 n6 c6 Z5 H1 T0 g w0 pv1 r1 r2 R p0) (Z3:Ln Z9 Z8 Z5) (hL1:Ln b1 oo1 H1) (h1:Q10 a7 c7 T0 w0 p1.Kids),∀ r,F p0 p1=some r →
    Cl 176 #[pt Z9 Z8,Q41 a7 c7 p1] w0 (exR r (fun r=>K2 T0 w0 (Q9 a2 a3 a4 a5 a6 b1 oo1 n2 c2 n3 c3 n4 c4 n5 c5 n6 c6 Z5 H1 g pv1 r1 r2 R r.1 r.2)) (fun r=>C7 T0 w0 (Q6 a2 a3 a4 a5 a6 b1 oo1 n2 c2 n3 c3 n4 c4 n5 c5 n6 c6 Z5 H1 g pv1 r1 r2 R r.1.pos r.1.e r.2)))
def Q6z (F:Q0→Y7→Option (Except (Z4×Q0) (Y1×Q0))):Prop := ∀ {g:World} {T0:TP} {w0:World} {R:List Y9} {p0:Q0} {Z9 Z8:Nat} {Z5:List Value→Y9} {b1 oo1} {H1:List Value→Y9} {a1 n1 c1 a2 n2 c2 a3 n3 c3 a4 n4 c4 r1 r2 a5 n5 c5 a6 n6 c6 pv1} {p1:Y7} {a7 c7} (hS:Q33 a1 a2 a3 a4 a5 a6 b1 oo1 n1 c1 n2 c2 n3 c3 n4 c4 n5 c5 n6 c6 Z5 H1 T0 g w0 pv1 r1 r2 R p0) (Z3:Ln Z9 Z8 Z5) (hL1:Ln b1 oo1 H1) (h1:Q10 a7 c7 T0 w0 p1.Kids),∀ r,F p0 p1=some r →
    Cl 177 #[pt Z9 Z8,Q41 a7 c7 p1] w0 (exR r (fun r=>K2 T0 w0 (Q9 a2 a3 a4 a5 a6 b1 oo1 n2 c2 n3 c3 n4 c4 n5 c5 n6 c6 Z5 H1 g pv1 r1 r2 R r.1 r.2)) (fun r=>C7 T0 w0 (Q6 a2 a3 a4 a5 a6 b1 oo1 n2 c2 n3 c3 n4 c4 n5 c5 n6 c6 Z5 H1 g pv1 r1 r2 R r.1.pos r.1.e r.2)))
def Q7a (F:Q0→Y7→Option (Except (Z4×Q0) (Y1×Q0))):Prop := ∀ {g:World} {T0:TP} {w0:World} {R:List Y9} {p0:Q0} {Z9 Z8:Nat} {Z5:List Value→Y9} {b1 oo1} {H1:List Value→Y9} {a1 n1 c1 a2 n2 c2 a3 n3 c3 a4 n4 c4 r1 r2 a5 n5 c5 a6 n6 c6 pv1} {p1:Y7} {a7 c7} (hS:Q33 a1 a2 a3 a4 a5 a6 b1 oo1 n1 c1 n2 c2 n3 c3 n4 c4 n5 c5 n6 c6 Z5 H1 T0 g w0 pv1 r1 r2 R p0) (Z3:Ln Z9 Z8 Z5) (hL1:Ln b1 oo1 H1) (h1:Q10 a7 c7 T0 w0 p1.Kids),∀ r,F p0 p1=some r →
    Cl 178 #[pt Z9 Z8,Q41 a7 c7 p1] w0 (exR r (fun r=>K2 T0 w0 (Q9 a2 a3 a4 a5 a6 b1 oo1 n2 c2 n3 c3 n4 c4 n5 c5 n6 c6 Z5 H1 g pv1 r1 r2 R r.1 r.2)) (fun r=>C7 T0 w0 (Q6 a2 a3 a4 a5 a6 b1 oo1 n2 c2 n3 c3 n4 c4 n5 c5 n6 c6 Z5 H1 g pv1 r1 r2 R r.1.pos r.1.e r.2)))
def Q3y (F:Q0→Y7→Option (Except (Z4×Q0) (Y1×Q0))):Prop := ∀ {g:World} {T0:TP} {w0:World} {R:List Y9} {p0:Q0} {Z9 Z8:Nat} {Z5:List Value→Y9} {b1 oo1} {H1:List Value→Y9} {a1 n1 c1 a2 n2 c2 a3 n3 c3 a4 n4 c4 r1 r2 a5 n5 c5 a6 n6 c6 pv1} {p1:Y7} {a7 c7} (hS:Q33 a1 a2 a3 a4 a5 a6 b1 oo1 n1 c1 n2 c2 n3 c3 n4 c4 n5 c5 n6 c6 Z5 H1 T0 g w0 pv1 r1 r2 R p0) (Z3:Ln Z9 Z8 Z5) (hL1:Ln b1 oo1 H1) (h1:Q10 a7 c7 T0 w0 p1.Kids),∀ r,F p0 p1=some r →
    Cl 182 #[pt Z9 Z8,Q41 a7 c7 p1] w0 (exR r (fun r=>K2 T0 w0 (Q9 a2 a3 a4 a5 a6 b1 oo1 n2 c2 n3 c3 n4 c4 n5 c5 n6 c6 Z5 H1 g pv1 r1 r2 R r.1 r.2)) (fun r=>C7 T0 w0 (Q6 a2 a3 a4 a5 a6 b1 oo1 n2 c2 n3 c3 n4 c4 n5 c5 n6 c6 Z5 H1 g pv1 r1 r2 R r.1.pos r.1.e r.2)))
def Q6x (F:Q0→Y7→Option (Except (Z4×Q0) (Y1×Q0))):Prop := ∀ {g:World} {T0:TP} {w0:World} {R:List Y9} {p0:Q0} {Z9 Z8:Nat} {Z5:List Value→Y9} {b1 oo1} {H1:List Value→Y9} {a1 n1 c1 a2 n2 c2 a3 n3 c3 a4 n4 c4 r1 r2 a5 n5 c5 a6 n6 c6 pv1} {p1:Y7} {a7 c7} (hS:Q33 a1 a2 a3 a4 a5 a6 b1 oo1 n1 c1 n2 c2 n3 c3 n4 c4 n5 c5 n6 c6 Z5 H1 T0 g w0 pv1 r1 r2 R p0) (Z3:Ln Z9 Z8 Z5) (hL1:Ln b1 oo1 H1) (h1:Q10 a7 c7 T0 w0 p1.Kids),∀ r,F p0 p1=some r →
    Cl 183 #[pt Z9 Z8,Q41 a7 c7 p1] w0 (exR r (fun r=>K2 T0 w0 (Q9 a2 a3 a4 a5 a6 b1 oo1 n2 c2 n3 c3 n4 c4 n5 c5 n6 c6 Z5 H1 g pv1 r1 r2 R r.1 r.2)) (fun r=>C7 T0 w0 (Q6 a2 a3 a4 a5 a6 b1 oo1 n2 c2 n3 c3 n4 c4 n5 c5 n6 c6 Z5 H1 g pv1 r1 r2 R r.1.pos r.1.e r.2)))
def Q6y (F:Q0→Y7→Option (Except (Z4×Q0) (Y1×Q0))):Prop := ∀ {g:World} {T0:TP} {w0:World} {R:List Y9} {p0:Q0} {Z9 Z8:Nat} {Z5:List Value→Y9} {b1 oo1} {H1:List Value→Y9} {a1 n1 c1 a2 n2 c2 a3 n3 c3 a4 n4 c4 r1 r2 a5 n5 c5 a6 n6 c6 pv1} {p1:Y7} {a7 c7} (hS:Q33 a1 a2 a3 a4 a5 a6 b1 oo1 n1 c1 n2 c2 n3 c3 n4 c4 n5 c5 n6 c6 Z5 H1 T0 g w0 pv1 r1 r2 R p0) (Z3:Ln Z9 Z8 Z5) (hL1:Ln b1 oo1 H1) (h1:Q10 a7 c7 T0 w0 p1.Kids),∀ r,F p0 p1=some r →
    Cl 150 #[pt Z9 Z8,Q41 a7 c7 p1] w0 (exR r (fun r=>K2 T0 w0 (Q9 a2 a3 a4 a5 a6 b1 oo1 n2 c2 n3 c3 n4 c4 n5 c5 n6 c6 Z5 H1 g pv1 r1 r2 R r.1 r.2)) (fun r=>C7 T0 w0 (Q6 a2 a3 a4 a5 a6 b1 oo1 n2 c2 n3 c3 n4 c4 n5 c5 n6 c6 Z5 H1 g pv1 r1 r2 R r.1.pos r.1.e r.2)))
def Q5k (F:Q0→Y7→Option (Except (Z4×Q0) (Y1×Q0))):Prop := ∀ {g:World} {T0:TP} {w0:World} {R:List Y9} {p0:Q0} {Z9 Z8:Nat} {Z5:List Value→Y9} {b1 oo1} {H1:List Value→Y9} {a1 n1 c1 a2 n2 c2 a3 n3 c3 a4 n4 c4 r1 r2 a5 n5 c5 a6 n6 c6 pv1} {p1:Y7} {a7 c7} (hS:Q33 a1 a2 a3 a4 a5 a6 b1 oo1 n1 c1 n2 c2 n3 c3 n4 c4 n5 c5 n6 c6 Z5 H1 T0 g w0 pv1 r1 r2 R p0) (Z3:Ln Z9 Z8 Z5) (hL1:Ln b1 oo1 H1) (h1:Q10 a7 c7 T0 w0 p1.Kids),∀ r,F p0 p1=some r →
    Cl 108 #[pt Z9 Z8,Q41 a7 c7 p1] w0 (exR r (fun r=>K2 T0 w0 (Q9 a2 a3 a4 a5 a6 b1 oo1 n2 c2 n3 c3 n4 c4 n5 c5 n6 c6 Z5 H1 g pv1 r1 r2 R r.1 r.2)) (fun r=>C7 T0 w0 (Q6 a2 a3 a4 a5 a6 b1 oo1 n2 c2 n3 c3 n4 c4 n5 c5 n6 c6 Z5 H1 g pv1 r1 r2 R r.1.pos r.1.e r.2)))
structure Sp3 (G:Z3i):Prop where
  U9:Q5p G.U9
  V3:Q3x G.V3
  D8:Q5l G.D8
  F4:Q7b G.F4
  D3:Q4b G.D3
  E4:Q5n G.E4
  D4:Q4c G.D4
  P7:Q6z G.P7
  P8:Q7a G.P8
  E9:Q3y G.E9
  P6:Q6x G.P6
  K7:Q6y G.K7
  Z6:Q5k G.Z6
theorem Z8p {G:Z3i} (hG:Sp3 G):Q5p (Q1b G):=by
  intro g _ _ R _ Z9 Z8 Z5 _ _ H1 a1 _ c1 _ _ c2 _ _ c3 _ _ c4 _ _ _ _ c5 _ _ c6 _ _ _ c7 hS Z3 hL1 h1 r hm;refine enter func188 rfl ntmps188 rfl fun J => ?_;unfold Q1b at hm;have D:Ctr Tryz.prog 108 (type_of% @hG.Z6):=⟨@hG.Z6,M7⟩;exact zr hm hS
theorem Z7g {G:Z3i} (hG:Sp3 G):Q3x (W4 G):=by
  intro g _ _ R _ Z9 Z8 Z5 _ _ H1 a1 _ c1 _ _ c2 _ _ c3 _ _ c4 _ _ _ _ c5 _ _ c6 _ _ _ c7 hS Z3 hL1 h1 r hm;refine enter func181 rfl ntmps181 rfl fun J => ?_;unfold W4 at hm;have D:Ctr Tryz.prog 108 (type_of% @hG.Z6):=⟨@hG.Z6,M7⟩;exact zr hm hS
theorem Z8l {G:Z3i} (hG:Sp3 G):Q5l (Q0w G):=by
  intro g T0 _ R p0 Z9 Z8 Z5 b1 ag H1 a1 n1 c1 a2 n2 c2 a3 n3 c3 a4 n4 c4 r1 r2 a5 n5 c5 a6 n6 c6 U p1 a7 c7 hS Z3 hL1 h1 r hm;refine enter func174 rfl ntmps174 rfl fun J => ?_;unfold Q0w at hm;refine sq2 (bX (F5 p1 a7 c7) hS ?_);intro _ V _ aM;refine aL zv1 aM ?_;intro _ D _ ay;refine pn ?_;refine sq2 ?_;obtain⟨u1,aN,hm⟩:=Y0 hm;obtain⟨cs1,aP,_,hT1⟩:=ixS ay aN h1;obtain⟨a8,c8,rfl,h2⟩:=G4 aP;refine aL zv2 ay ?_;intro _ E _ aQ;refine sT 0 aQ ?_;intro w4 _ O;refine kD ?_;refine N5 hm (fun aA a w5 => ∃ T1 W,JR (nf 93) g T0 w4 a w5 T1 (aA W=some r) [(0,pt Z9 Z8),(4,pt D 0),(5,pt E 0),(6,iv W)] ([Q32 a8 E c8 u1,U6 D zv1,Y6 R]++(Q2 a1 a2 a3 a4 a5 a6 b1 ag n1 c1 n2 c2 n3 c3 n4 c4 n5 c5 n6 c6 Z5 H1 U r1 r2 p0))) (fun aA hm => ?_) ?_
  · refine qN ?_;refine blk (sq2 (cd hm ?_ ?_)) <;> intro bm hm
    · refine qU ?_;refine cP Y8p hm (hG.K7 (O.bE (Z2 0 4) (Z2 4 11)) Z3 hL1 (h2.mono ch)) ?_ ?_
      · exact zk
      rintro I _ T2 _ _ ⟨a9,c9,aU,n7,c10,rfl,aW,_,_⟩ hm;refine aL zv1 aW ?_;intro _ b6 _ aX;refine sT 0 aX ?_;intro w8 _ aZ;refine kE ?_;refine N5 hm (fun aD a w9 => ∃(T3:_) (b7:_) (K:Q8l) (ae:_) (c11:_),JR (nf 93) g T2 w8 a w9 T3 (aD K=some r) [(0,pt Z9 Z8),(3,pt V 0),(4,pt D 0),(5,pt E 0),(7,pt b6 0),(8,pt b7 0)] ([Q46 a9 b6 c9 I.1,Q32 a8 E c8 u1,U6 D zv1,Q32 a7 V c7 p1,Y6 R]++(X3 I.2 Z5 H1 b1 ag aU n7 c10 a2 n2 c2 a3 n3 c3 a4 n4 c4 r1 r2 a5 n5 c5 a6 n6 c6 U ++ [Q20 U I.2,U6 b7 (Y7g K ae c11)]))∧Q63 ae c11 T3 w9 K.Fields) (fun aD hm => ?_) ?_
      · refine rtS [0,0,0,1,0,1,2,0,0,0,2,2,0] [0,1,2,3,4,5,6,7,8,9,10,11,12] aZ fun bn bo ba => ?_;have dd:KD [(6,[3,5]),(10,[]),(11,[3,5,6,10])]:=⟨qZt⟩;exact zr hm ba
      rintro _ w9 ⟨T3,b7,K,ae,c11,⟨J,hm,rfl,aE,_⟩,_⟩;refine qU ?_;refine fkN (d:=41) (c:=((!I.1.lies) || (K.Kind == 4))) 4 [(0,pt Z9 Z8),(3,pt V 0),(4,pt D 0),(5,pt E 0),(7,pt b6 0)] rfl (fun hk=>zw (!I.1.lies) hk) fun J => ?_;refine cd hm ?_ ?_ <;> intro bp hm
      · exact zr hm aE
      refine kE ?_;refine Z2k [0,0,1,0,1,2,0,1,0,2] [0,1,2,3,4,6,7,5,8,9] aE (U4 (L3 (U4 (N8)))) fun bq bt bf => ?_;have dd:KD [(5,[2,4]),(9,[2,4,5,7])]:=⟨qZt⟩;exact zr hm bf
    refine sq2 (cd hm ?_ ?_) <;> intro bu hm
    · have bv:Ctr Tryz.prog 108 (type_of% @hG.Z6):=⟨@hG.Z6,M7⟩;exact zr hm O
    refine sq2 (cd hm ?_ ?_) <;> intro bw hm
    · refine qU ?_;refine cP Y5l hm (hG.U9 (O.bE [1,3] (Z2 4 11)) Z3 hL1 (h2.mono ch)) ?_ ?_
      · exact zk
      rintro y8 _ _ _ _ ⟨bg,c19,_,_,c20,rfl,bh,_,_⟩ hm;have bi:HL 1 X6 ([y8.1]:List Y5) [(V8 y8.1 bg c19)]:=⟨qZt⟩;exact zr hm bh
    exact zr hm O
  rintro _ w5 ⟨T1,W,J,hm,rfl,bj,_⟩;refine qU ?_;refine cP Y8o hm (hG.V3 (bj.bE [1,2] (Z2 3 11)) Z3 hL1 (h2.mono ch)) ?_ ?_
  · exact zk
  rintro y9 _ _ _ _ ⟨bk,c23,_,_,c24,rfl,bl,_,_⟩ hm;have bi:HL 1 X6 ([y9.1]:List Y5) [(V8 y9.1 bk c23)]:=⟨qZt⟩;exact zr hm bl
theorem Z9t {G:Z3i} (hG:Sp3 G):Q7b (Q2g G):=by
  intro g _ _ R _ Z9 Z8 Z5 _ _ H1 a1 _ c1 _ _ c2 _ _ c3 _ _ c4 _ _ _ _ c5 _ _ c6 _ _ W a7 c7 hS Z3 hL1 h1 r hm;refine enter func194 rfl ntmps194 rfl fun J => ?_;unfold Q2g at hm;refine sq2 (bX (F5 W a7 c7) hS ?_);intro _ _ _ ab;refine aL zv1 ab ?_;intro _ _ _ O;refine pn ?_;refine sq2 ?_;obtain⟨u1,ac,hm⟩:=Y0 hm;obtain⟨cs1,ad,_,hT1⟩:=ixS O ac h1;obtain⟨_,c8,rfl,h2⟩:=G4 ad;refine pu ?_;refine cP Y5l hm (hG.U9 (O.bE [0,1,2] (Z2 3 11)) Z3 hL1 h2) ?_ ?_
  · exact zk
  rintro D _ _ _ _ ⟨I,c9,_,_,c10,rfl,ae,_,_⟩ hm;refine aL zv3 ae ?_;intro _ _ _ af;refine sT 0 af ?_;intro _ _ ag;refine kE ?_;refine Z2k [0,1,0,0,1,0,1,2,2,0,0,2] [0,1,2,3,4,5,6,7,8,9,10,11] ag (U4 (N8)) fun w6 aq K => ?_;obtain⟨u2,ai,hm⟩:=Y0 hm;obtain⟨cs2,aj,_,hT2⟩:=ixS K ai h1;obtain⟨_,c11,rfl,U⟩:=G4 aj;refine pu ?_;obtain⟨E,V,hm⟩:=Y0 hm
  rcases E with e1 | E
  · have hm:=J1 hm;refine s2 [(1,.agg (V8 D.1 I c9).toArray)] rfl qZt rfl (by kernel_rfl) (Z1p Y5l rfl (hG.U9 (p0:=D.2) (p1:=u2) (K.bE [1,3,2,0] (Z2 4 11)) Z3 hL1 U _ V) rfl fun v3 T4 aw ax ak => ?_);obtain⟨_,_,c15,rfl,am,_⟩:=ak;exact pe hm (am.sE ([1]++Z2 4 11))
  have hm:=N4 hm;refine sS [(1,.agg (V8 D.1 I c9).toArray)] Y5l (hG.U9 (K.bE [1,3,2,0] (Z2 4 11)) Z3 hL1 U _ V) ?_;rintro _ _ _ _ ⟨an,c12,_,_,c13,rfl,ao,_,_⟩;have ay:HL 1 X6 ([D.1,E.1]:List Y5) [(V8 D.1 I c9),(V8 E.1 an c12)]:=⟨qZt⟩;have dd:KD [(7,[4,6]),(8,[1,4,6,7]),(11,[1,4,6,7,8])]:=⟨qZt⟩;exact zr hm ao
end Go.Proofs.YtbfpdnogfkbiaaaGreat
