/- That Go functions compute their models. Printed by gen2.py. -/
import Derived.Test.YtfffghclkmbopaaGreatKWc
set_option linter.unusedVariables false
namespace Go.Proofs.YtfffghclkmbopaaGreat
open _root_.Go.Proofs.Tryz
set_option maxRecDepth 100000
set_option maxHeartbeats 8000000
attribute [local irreducible] wpList wpQuiet Code.wp
variable {g:World} {T0:Nat→Prop} {w0:World} {R:List Y8}
variable {b1 b2 Y2 Q1c Y0d Y0c Y0z c1 c2 c3 c4 c5 c6 c7 c8 c9 c10 c11 c12 c13 n1 n2 n3 n4 n5 n6 n7 Y1 Q0x Y0a Z9z Y0u oo1 oo2:Nat} {H1 H2 Z5 R5 Z7c Z7b Y0e:List Value→Y8} {a1 a2 a3 a4 a5 a6 a7 a8 a9 a10 a11 a12 a13:OA} {r1 r2:Option Nat} {pv1:Value}
attribute [local irreducible] C7 Q0q execOp Program.underlying sizeOf isAgg zeroValue

def Q4c (F:Q0→Z8→Option (Except (Z3×Q0) (Y4×Q0))):Prop := ∀ {g:World} {T0:TP} {w0:World} {R:List Y8} {p0:Q0} {Y2 Y1:Nat} {Z5:List Value→Y8} {b1 oo1} {H1:List Value→Y8} {a1 n1 c1 a2 n2 c2 a3 n3 c3 a4 n4 c4 r1 r2 a5 n5 c5 a6 n6 c6 pv1} {p1:Z8} {a7 c7} (hS:Q24 a1 a2 a3 a4 a5 a6 b1 oo1 n1 c1 n2 c2 n3 c3 n4 c4 n5 c5 n6 c6 Z5 H1 T0 g w0 pv1 r1 r2 R p0) (Z2:Ln Y2 Y1 Z5) (hL1:Ln b1 oo1 H1) (h1:Q7 a7 c7 T0 w0 p1.Kids),∀ r,F p0 p1=some r →
    Calls Tryz.prog 172 #[pt Y2 Y1,Q26 a7 c7 p1] w0 (exR r (fun r=>U7 T0 w0 fun T w v => ∃ a11 c11 a12 n9 c12,v = .agg (V5 r.1 a11 c11).toArray∧Sep g T w (R++(Q2 a12 a2 a3 a4 a5 a6 b1 oo1 n9 c12 n2 c2 n3 c3 n4 c4 n5 c5 n6 c6 Z5 H1 pv1 r1 r2 r.2))∧Q10 a11 c11 T w r.1.Kids∧True) (fun r=>A5 T0 w0 (Q4 a2 a3 a4 a5 a6 b1 oo1 n2 c2 n3 c3 n4 c4 n5 c5 n6 c6 Z5 H1 g pv1 r1 r2 R r.1.pos r.1.e r.2)))
def Q2s (F:Q0→Z8→Option (Except (Z3×Q0) (Y4×Q0))):Prop := ∀ {g:World} {T0:TP} {w0:World} {R:List Y8} {p0:Q0} {Y2 Y1:Nat} {Z5:List Value→Y8} {b1 oo1} {H1:List Value→Y8} {a1 n1 c1 a2 n2 c2 a3 n3 c3 a4 n4 c4 r1 r2 a5 n5 c5 a6 n6 c6 pv1} {p1:Z8} {a7 c7} (hS:Q24 a1 a2 a3 a4 a5 a6 b1 oo1 n1 c1 n2 c2 n3 c3 n4 c4 n5 c5 n6 c6 Z5 H1 T0 g w0 pv1 r1 r2 R p0) (Z2:Ln Y2 Y1 Z5) (hL1:Ln b1 oo1 H1) (h1:Q7 a7 c7 T0 w0 p1.Kids),∀ r,F p0 p1=some r →
    Calls Tryz.prog 165 #[pt Y2 Y1,Q26 a7 c7 p1] w0 (exR r (fun r=>U7 T0 w0 fun T w v => ∃ a11 c11 a12 n9 c12,v = .agg (V5 r.1 a11 c11).toArray∧Sep g T w (R++(Q2 a12 a2 a3 a4 a5 a6 b1 oo1 n9 c12 n2 c2 n3 c3 n4 c4 n5 c5 n6 c6 Z5 H1 pv1 r1 r2 r.2))∧Q10 a11 c11 T w r.1.Kids∧True) (fun r=>A5 T0 w0 (Q4 a2 a3 a4 a5 a6 b1 oo1 n2 c2 n3 c3 n4 c4 n5 c5 n6 c6 Z5 H1 g pv1 r1 r2 R r.1.pos r.1.e r.2)))
def Q3y (F:Q0→Z8→Option (Except (Z3×Q0) (Z7×Q0))):Prop := ∀ {g:World} {T0:TP} {w0:World} {R:List Y8} {p0:Q0} {Y2 Y1:Nat} {Z5:List Value→Y8} {b1 oo1} {H1:List Value→Y8} {a1 n1 c1 a2 n2 c2 a3 n3 c3 a4 n4 c4 r1 r2 a5 n5 c5 a6 n6 c6 pv1} {p1:Z8} {a7 c7} (hS:Q24 a1 a2 a3 a4 a5 a6 b1 oo1 n1 c1 n2 c2 n3 c3 n4 c4 n5 c5 n6 c6 Z5 H1 T0 g w0 pv1 r1 r2 R p0) (Z2:Ln Y2 Y1 Z5) (hL1:Ln b1 oo1 H1) (h1:Q7 a7 c7 T0 w0 p1.Kids),∀ r,F p0 p1=some r →
    Calls Tryz.prog 158 #[pt Y2 Y1,Q26 a7 c7 p1] w0 (exR r (fun r=>U7 T0 w0 (Q6 a2 a3 a4 a5 a6 b1 oo1 n2 c2 n3 c3 n4 c4 n5 c5 n6 c6 Z5 H1 g pv1 r1 r2 R r.1 r.2)) (fun r=>A5 T0 w0 (Q4 a2 a3 a4 a5 a6 b1 oo1 n2 c2 n3 c3 n4 c4 n5 c5 n6 c6 Z5 H1 g pv1 r1 r2 R r.1.pos r.1.e r.2)))
def Q5c (F:Q0→Int→Z8→Option (Except (Z3×Q0) (Z7×Q0))):Prop := ∀ {g:World} {T0:TP} {w0:World} {R:List Y8} {p0:Q0} {Y2 Y1:Nat} {Z5:List Value→Y8} {b1 oo1} {H1:List Value→Y8} {a1 n1 c1 a2 n2 c2 a3 n3 c3 a4 n4 c4 r1 r2 a5 n5 c5 a6 n6 c6 pv1 p1} {p2:Z8} {a7 c7} (hS:Q24 a1 a2 a3 a4 a5 a6 b1 oo1 n1 c1 n2 c2 n3 c3 n4 c4 n5 c5 n6 c6 Z5 H1 T0 g w0 pv1 r1 r2 R p0) (Z2:Ln Y2 Y1 Z5) (hL1:Ln b1 oo1 H1) (h1:Q7 a7 c7 T0 w0 p2.Kids),∀ r,F p0 p1 p2=some r →
    Calls Tryz.prog 177 #[pt Y2 Y1,iv p1,Q26 a7 c7 p2] w0 (exR r (fun r=>U7 T0 w0 (Q6 a2 a3 a4 a5 a6 b1 oo1 n2 c2 n3 c3 n4 c4 n5 c5 n6 c6 Z5 H1 g pv1 r1 r2 R r.1 r.2)) (fun r=>A5 T0 w0 (Q4 a2 a3 a4 a5 a6 b1 oo1 n2 c2 n3 c3 n4 c4 n5 c5 n6 c6 Z5 H1 g pv1 r1 r2 R r.1.pos r.1.e r.2)))
def Q2x (F:Q0→Z8→Option (Except (Z3×Q0) (Z7×Q0))):Prop := ∀ {g:World} {T0:TP} {w0:World} {R:List Y8} {p0:Q0} {Y2 Y1:Nat} {Z5:List Value→Y8} {b1 oo1} {H1:List Value→Y8} {a1 n1 c1 a2 n2 c2 a3 n3 c3 a4 n4 c4 r1 r2 a5 n5 c5 a6 n6 c6 pv1} {p1:Z8} {a7 c7} (hS:Q24 a1 a2 a3 a4 a5 a6 b1 oo1 n1 c1 n2 c2 n3 c3 n4 c4 n5 c5 n6 c6 Z5 H1 T0 g w0 pv1 r1 r2 R p0) (Z2:Ln Y2 Y1 Z5) (hL1:Ln b1 oo1 H1) (h1:Q7 a7 c7 T0 w0 p1.Kids),∀ r,F p0 p1=some r →
    Calls Tryz.prog 159 #[pt Y2 Y1,Q26 a7 c7 p1] w0 (exR r (fun r=>U7 T0 w0 (Q6 a2 a3 a4 a5 a6 b1 oo1 n2 c2 n3 c3 n4 c4 n5 c5 n6 c6 Z5 H1 g pv1 r1 r2 R r.1 r.2)) (fun r=>A5 T0 w0 (Q4 a2 a3 a4 a5 a6 b1 oo1 n2 c2 n3 c3 n4 c4 n5 c5 n6 c6 Z5 H1 g pv1 r1 r2 R r.1.pos r.1.e r.2)))
def Q4a (F:Q0→Z8→Option (Except (Z3×Q0) (Z7×Q0))):Prop := ∀ {g:World} {T0:TP} {w0:World} {R:List Y8} {p0:Q0} {Y2 Y1:Nat} {Z5:List Value→Y8} {b1 oo1} {H1:List Value→Y8} {a1 n1 c1 a2 n2 c2 a3 n3 c3 a4 n4 c4 r1 r2 a5 n5 c5 a6 n6 c6 pv1} {p1:Z8} {a7 c7} (hS:Q24 a1 a2 a3 a4 a5 a6 b1 oo1 n1 c1 n2 c2 n3 c3 n4 c4 n5 c5 n6 c6 Z5 H1 T0 g w0 pv1 r1 r2 R p0) (Z2:Ln Y2 Y1 Z5) (hL1:Ln b1 oo1 H1) (h1:Q7 a7 c7 T0 w0 p1.Kids),∀ r,F p0 p1=some r →
    Calls Tryz.prog 181 #[pt Y2 Y1,Q26 a7 c7 p1] w0 (exR r (fun r=>U7 T0 w0 (Q6 a2 a3 a4 a5 a6 b1 oo1 n2 c2 n3 c3 n4 c4 n5 c5 n6 c6 Z5 H1 g pv1 r1 r2 R r.1 r.2)) (fun r=>A5 T0 w0 (Q4 a2 a3 a4 a5 a6 b1 oo1 n2 c2 n3 c3 n4 c4 n5 c5 n6 c6 Z5 H1 g pv1 r1 r2 R r.1.pos r.1.e r.2)))
def Q2y (F:Q0→Z8→Option (Except (Z3×Q0) (Z7×Q0))):Prop := ∀ {g:World} {T0:TP} {w0:World} {R:List Y8} {p0:Q0} {Y2 Y1:Nat} {Z5:List Value→Y8} {b1 oo1} {H1:List Value→Y8} {a1 n1 c1 a2 n2 c2 a3 n3 c3 a4 n4 c4 r1 r2 a5 n5 c5 a6 n6 c6 pv1} {p1:Z8} {a7 c7} (hS:Q24 a1 a2 a3 a4 a5 a6 b1 oo1 n1 c1 n2 c2 n3 c3 n4 c4 n5 c5 n6 c6 Z5 H1 T0 g w0 pv1 r1 r2 R p0) (Z2:Ln Y2 Y1 Z5) (hL1:Ln b1 oo1 H1) (h1:Q7 a7 c7 T0 w0 p1.Kids),∀ r,F p0 p1=some r →
    Calls Tryz.prog 160 #[pt Y2 Y1,Q26 a7 c7 p1] w0 (exR r (fun r=>U7 T0 w0 (Q6 a2 a3 a4 a5 a6 b1 oo1 n2 c2 n3 c3 n4 c4 n5 c5 n6 c6 Z5 H1 g pv1 r1 r2 R r.1 r.2)) (fun r=>A5 T0 w0 (Q4 a2 a3 a4 a5 a6 b1 oo1 n2 c2 n3 c3 n4 c4 n5 c5 n6 c6 Z5 H1 g pv1 r1 r2 R r.1.pos r.1.e r.2)))
def Q5a (F:Q0→Z8→Option (Except (Z3×Q0) (Z7×Q0))):Prop := ∀ {g:World} {T0:TP} {w0:World} {R:List Y8} {p0:Q0} {Y2 Y1:Nat} {Z5:List Value→Y8} {b1 oo1} {H1:List Value→Y8} {a1 n1 c1 a2 n2 c2 a3 n3 c3 a4 n4 c4 r1 r2 a5 n5 c5 a6 n6 c6 pv1} {p1:Z8} {a7 c7} (hS:Q24 a1 a2 a3 a4 a5 a6 b1 oo1 n1 c1 n2 c2 n3 c3 n4 c4 n5 c5 n6 c6 Z5 H1 T0 g w0 pv1 r1 r2 R p0) (Z2:Ln Y2 Y1 Z5) (hL1:Ln b1 oo1 H1) (h1:Q7 a7 c7 T0 w0 p1.Kids),∀ r,F p0 p1=some r →
    Calls Tryz.prog 161 #[pt Y2 Y1,Q26 a7 c7 p1] w0 (exR r (fun r=>U7 T0 w0 (Q6 a2 a3 a4 a5 a6 b1 oo1 n2 c2 n3 c3 n4 c4 n5 c5 n6 c6 Z5 H1 g pv1 r1 r2 R r.1 r.2)) (fun r=>A5 T0 w0 (Q4 a2 a3 a4 a5 a6 b1 oo1 n2 c2 n3 c3 n4 c4 n5 c5 n6 c6 Z5 H1 g pv1 r1 r2 R r.1.pos r.1.e r.2)))
def Q5b (F:Q0→Z8→Option (Except (Z3×Q0) (Z7×Q0))):Prop := ∀ {g:World} {T0:TP} {w0:World} {R:List Y8} {p0:Q0} {Y2 Y1:Nat} {Z5:List Value→Y8} {b1 oo1} {H1:List Value→Y8} {a1 n1 c1 a2 n2 c2 a3 n3 c3 a4 n4 c4 r1 r2 a5 n5 c5 a6 n6 c6 pv1} {p1:Z8} {a7 c7} (hS:Q24 a1 a2 a3 a4 a5 a6 b1 oo1 n1 c1 n2 c2 n3 c3 n4 c4 n5 c5 n6 c6 Z5 H1 T0 g w0 pv1 r1 r2 R p0) (Z2:Ln Y2 Y1 Z5) (hL1:Ln b1 oo1 H1) (h1:Q7 a7 c7 T0 w0 p1.Kids),∀ r,F p0 p1=some r →
    Calls Tryz.prog 162 #[pt Y2 Y1,Q26 a7 c7 p1] w0 (exR r (fun r=>U7 T0 w0 (Q6 a2 a3 a4 a5 a6 b1 oo1 n2 c2 n3 c3 n4 c4 n5 c5 n6 c6 Z5 H1 g pv1 r1 r2 R r.1 r.2)) (fun r=>A5 T0 w0 (Q4 a2 a3 a4 a5 a6 b1 oo1 n2 c2 n3 c3 n4 c4 n5 c5 n6 c6 Z5 H1 g pv1 r1 r2 R r.1.pos r.1.e r.2)))
def Q2t (F:Q0→Z8→Option (Except (Z3×Q0) (Z7×Q0))):Prop := ∀ {g:World} {T0:TP} {w0:World} {R:List Y8} {p0:Q0} {Y2 Y1:Nat} {Z5:List Value→Y8} {b1 oo1} {H1:List Value→Y8} {a1 n1 c1 a2 n2 c2 a3 n3 c3 a4 n4 c4 r1 r2 a5 n5 c5 a6 n6 c6 pv1} {p1:Z8} {a7 c7} (hS:Q24 a1 a2 a3 a4 a5 a6 b1 oo1 n1 c1 n2 c2 n3 c3 n4 c4 n5 c5 n6 c6 Z5 H1 T0 g w0 pv1 r1 r2 R p0) (Z2:Ln Y2 Y1 Z5) (hL1:Ln b1 oo1 H1) (h1:Q7 a7 c7 T0 w0 p1.Kids),∀ r,F p0 p1=some r →
    Calls Tryz.prog 166 #[pt Y2 Y1,Q26 a7 c7 p1] w0 (exR r (fun r=>U7 T0 w0 (Q6 a2 a3 a4 a5 a6 b1 oo1 n2 c2 n3 c3 n4 c4 n5 c5 n6 c6 Z5 H1 g pv1 r1 r2 R r.1 r.2)) (fun r=>A5 T0 w0 (Q4 a2 a3 a4 a5 a6 b1 oo1 n2 c2 n3 c3 n4 c4 n5 c5 n6 c6 Z5 H1 g pv1 r1 r2 R r.1.pos r.1.e r.2)))
def Q4y (F:Q0→Z8→Option (Except (Z3×Q0) (Z7×Q0))):Prop := ∀ {g:World} {T0:TP} {w0:World} {R:List Y8} {p0:Q0} {Y2 Y1:Nat} {Z5:List Value→Y8} {b1 oo1} {H1:List Value→Y8} {a1 n1 c1 a2 n2 c2 a3 n3 c3 a4 n4 c4 r1 r2 a5 n5 c5 a6 n6 c6 pv1} {p1:Z8} {a7 c7} (hS:Q24 a1 a2 a3 a4 a5 a6 b1 oo1 n1 c1 n2 c2 n3 c3 n4 c4 n5 c5 n6 c6 Z5 H1 T0 g w0 pv1 r1 r2 R p0) (Z2:Ln Y2 Y1 Z5) (hL1:Ln b1 oo1 H1) (h1:Q7 a7 c7 T0 w0 p1.Kids),∀ r,F p0 p1=some r →
    Calls Tryz.prog 167 #[pt Y2 Y1,Q26 a7 c7 p1] w0 (exR r (fun r=>U7 T0 w0 (Q6 a2 a3 a4 a5 a6 b1 oo1 n2 c2 n3 c3 n4 c4 n5 c5 n6 c6 Z5 H1 g pv1 r1 r2 R r.1 r.2)) (fun r=>A5 T0 w0 (Q4 a2 a3 a4 a5 a6 b1 oo1 n2 c2 n3 c3 n4 c4 n5 c5 n6 c6 Z5 H1 g pv1 r1 r2 R r.1.pos r.1.e r.2)))
def Q4z (F:Q0→Z8→Option (Except (Z3×Q0) (Z7×Q0))):Prop := ∀ {g:World} {T0:TP} {w0:World} {R:List Y8} {p0:Q0} {Y2 Y1:Nat} {Z5:List Value→Y8} {b1 oo1} {H1:List Value→Y8} {a1 n1 c1 a2 n2 c2 a3 n3 c3 a4 n4 c4 r1 r2 a5 n5 c5 a6 n6 c6 pv1} {p1:Z8} {a7 c7} (hS:Q24 a1 a2 a3 a4 a5 a6 b1 oo1 n1 c1 n2 c2 n3 c3 n4 c4 n5 c5 n6 c6 Z5 H1 T0 g w0 pv1 r1 r2 R p0) (Z2:Ln Y2 Y1 Z5) (hL1:Ln b1 oo1 H1) (h1:Q7 a7 c7 T0 w0 p1.Kids),∀ r,F p0 p1=some r →
    Calls Tryz.prog 140 #[pt Y2 Y1,Q26 a7 c7 p1] w0 (exR r (fun r=>U7 T0 w0 (Q6 a2 a3 a4 a5 a6 b1 oo1 n2 c2 n3 c3 n4 c4 n5 c5 n6 c6 Z5 H1 g pv1 r1 r2 R r.1 r.2)) (fun r=>A5 T0 w0 (Q4 a2 a3 a4 a5 a6 b1 oo1 n2 c2 n3 c3 n4 c4 n5 c5 n6 c6 Z5 H1 g pv1 r1 r2 R r.1.pos r.1.e r.2)))
def Q3x (F:Q0→Z8→Option (Except (Z3×Q0) (Z7×Q0))):Prop := ∀ {g:World} {T0:TP} {w0:World} {R:List Y8} {p0:Q0} {Y2 Y1:Nat} {Z5:List Value→Y8} {b1 oo1} {H1:List Value→Y8} {a1 n1 c1 a2 n2 c2 a3 n3 c3 a4 n4 c4 r1 r2 a5 n5 c5 a6 n6 c6 pv1} {p1:Z8} {a7 c7} (hS:Q24 a1 a2 a3 a4 a5 a6 b1 oo1 n1 c1 n2 c2 n3 c3 n4 c4 n5 c5 n6 c6 Z5 H1 T0 g w0 pv1 r1 r2 R p0) (Z2:Ln Y2 Y1 Z5) (hL1:Ln b1 oo1 H1) (h1:Q7 a7 c7 T0 w0 p1.Kids),∀ r,F p0 p1=some r →
    Calls Tryz.prog 105 #[pt Y2 Y1,Q26 a7 c7 p1] w0 (exR r (fun r=>U7 T0 w0 (Q6 a2 a3 a4 a5 a6 b1 oo1 n2 c2 n3 c3 n4 c4 n5 c5 n6 c6 Z5 H1 g pv1 r1 r2 R r.1 r.2)) (fun r=>A5 T0 w0 (Q4 a2 a3 a4 a5 a6 b1 oo1 n2 c2 n3 c3 n4 c4 n5 c5 n6 c6 Z5 H1 g pv1 r1 r2 R r.1.pos r.1.e r.2)))
structure Sp3 (G:Q1d):Prop where
  X9:Q4c G.X9
  X4:Q2s G.X4
  J4:Q3y G.J4
  K4:Q5c G.K4
  J0:Q2x G.J0
  K7:Q4a G.K7
  J1:Q2y G.J1
  G3:Q5a G.G3
  G4:Q5b G.G4
  K9:Q2t G.K9
  G0:Q4y G.G0
  V2:Q4z G.V2
  Z4:Q3x G.Z4
theorem Z6w {G:Q1d} (hG:Sp3 G):Q4c (M9 G):=by
  intro g _ _ R _ Y2 Y1 Z5 _ _ H1 a1 _ c1 _ _ c2 _ _ c3 _ _ c4 _ _ _ _ c5 _ _ c6 _ _ _ c7 hS Z2 hL1 h1 r hm;refine enter func172 rfl ntmps172 rfl fun J => ?_;unfold M9 at hm;have D:Ctr Tryz.prog 105 (type_of% @hG.Z4):=⟨@hG.Z4,C0⟩;exact zr hm hS
theorem Z5r {G:Q1d} (hG:Sp3 G):Q2s (N0 G):=by
  intro g _ _ R _ Y2 Y1 Z5 _ _ H1 a1 _ c1 _ _ c2 _ _ c3 _ _ c4 _ _ _ _ c5 _ _ c6 _ _ _ c7 hS Z2 hL1 h1 r hm;refine enter func165 rfl ntmps165 rfl fun J => ?_;unfold N0 at hm;have D:Ctr Tryz.prog 105 (type_of% @hG.Z4):=⟨@hG.Z4,C0⟩;exact zr hm hS
theorem Z6s {G:Q1d} (hG:Sp3 G):Q3y (M5 G):=by
  intro g T0 _ R p0 Y2 Y1 Z5 b1 an H1 a1 n1 c1 a2 n2 c2 a3 n3 c3 a4 n4 c4 r1 r2 a5 n5 c5 a6 n6 c6 W p1 a7 c7 hS Z2 hL1 h1 r hm;refine enter func158 rfl ntmps158 rfl fun J => ?_;unfold M5 at hm;refine sq2 (bX (F8 p1 a7 c7) hS ?_);intro _ b2 _ aU;refine aL zv1 aU ?_;intro _ I _ aD;refine pn ?_;refine sq2 ?_;obtain⟨u1,aV,hm⟩:=bindS hm;obtain⟨cs1,aW,_,hT1⟩:=ixS aD aV h1;obtain⟨a8,c8,rfl,h2⟩:=K2 aW;refine aL zv2 aD ?_;intro _ K _ aX;refine sT 0 aX ?_;intro w4 _ U;refine pn ?_;refine sq2 (pn ?_);refine O7 hm (fun aF a w5 => ∃ T1 x1,JR (nf 93) g T0 w4 a w5 T1 (aF x1=some r) [(0,pt Y2 Y1),(4,pt I 0),(5,pt K 0),(6,iv x1)] ([Q23 a8 K c8 u1,U5 I zv1,Y5 R]++(Q2 a1 a2 a3 a4 a5 a6 b1 an n1 c1 n2 c2 n3 c3 n4 c4 n5 c5 n6 c6 Z5 H1 W r1 r2 p0))) (fun aF hm => ?_) ?_
  · refine sq2 (pn ?_);refine blk (sq2 (cd hm ?_ ?_)) <;> intro bC hm
    · refine sq2 (pu ?_);refine cP Y6t hm (hG.V2 (U.bun (Z1 0 4) (Z1 4 11) rfl) Z2 hL1 (h2.mono ch)) ?_ ?_
      · exact zk
      rintro D _ T2 _ _ ⟨V,c9,ba,n7,c10,rfl,bf,h3,_⟩ hm;refine aL zv1 bf ?_;intro _ b6 _ bg;refine sT 0 bg ?_;intro w8 _ bi;refine pn ?_;refine sq2 (O7 hm (fun aJ a w9 => ∃(T3:_) (b7:_) (O:Q6f) (ah:_) (c11:_),JR (nf 93) g T2 w8 a w9 T3 (aJ O=some r) [(0,pt Y2 Y1),(3,pt b2 0),(4,pt I 0),(5,pt K 0),(7,pt b6 0),(8,pt b7 0)] ([Q32 V b6 c9 D.1,Q23 a8 K c8 u1,U5 I zv1,Q23 a7 b2 c7 p1,Y5 R]++(X0 D.2 Z5 H1 b1 an ba n7 c10 a2 n2 c2 a3 n3 c3 a4 n4 c4 r1 r2 a5 n5 c5 a6 n6 c6 W ++ [Q14 W D.2,U5 b7 (Y5l O ah c11)]))∧Q45 ah c11 T3 w9 O.Fields) (fun aJ hm => ?_) ?_)
      · refine rtS [0,0,0,1,0,1,2,0,0,0,2,2,0] [0,1,2,3,4,5,6,7,8,9,10,11,12] bi fun bD bE bj => ?_;have dd:KD [(6,[3,5]),(10,[]),(11,[3,5,6,10])]:=⟨qZt⟩;exact zr hm bj
      rintro _ w9 ⟨T3,b7,O,ah,c11,⟨J,hm,rfl,ai,_⟩,_⟩;refine sq2 (pu ?_);refine fkN (d:=41) (c:=((!D.1.lies) || (O.Kind == 4))) 4 [(0,pt Y2 Y1),(3,pt b2 0),(4,pt I 0),(5,pt K 0),(7,pt b6 0)] rfl (fun hk => ?_) fun J => ?_
      · rcases Bool.eq_false_or_eq_true (!D.1.lies) with E | E
        · exact  gF3 (d0:=37) rfl rfl (by rw [E]; rfl) (pv (O5 rfl E rfl) (wlR (fun J=>hk J _ (by rw [E]; rfl)) ⟨rfl,rfl,rfl,rfl,rfl,rfl,qZt⟩))
        exact  gT (d0:=37) rfl rfl E (pv (Q0h rfl underlying120 rfl sizeOf3 rfl) (gT (d0:=37) rfl rfl E (pv (Q0p rfl isAgg3 (ai.cell0 (i:=16) ⟨rfl,rfl⟩ (j:=0) rfl)) (gT (d0:=37) rfl rfl E (pv (Q6y rfl rfl rfl) (pv (O6 rfl E rfl) (wlR (fun J=>hk J _ (by rw [E]; rfl)) ⟨rfl,rfl,rfl,rfl,rfl,rfl,qZt⟩)))))))
      refine cd hm ?_ ?_ <;> intro bG hm
      · exact zr hm ai
      refine pn ?_;refine sq2 (Z0c [0,0,1,0,1,2,0,1,0,2] [0,1,2,3,4,6,7,5,8,9] ai (V9 (S4 (V9 (P8)))) fun bI bJ aK => ?_);refine pu ?_;obtain⟨y4,aM,hm⟩:=bindS hm
      rcases y4 with e2 | y4
      · have hm:=K0 hm;refine s2 [(7,.agg (V5 D.1.term V c9).toArray)] rfl qZt rfl (by kernel_rfl) (Q7m Y9r rfl (L9 (p0:=D.2) (p1:=p1.Pos) (p2:=D.1.n) (aK.bun [2,4,15,0,3] (Z1 5 10) rfl) Z2 hL1 _ aM) rfl fun v6 T8 bN bO bk => ?_);obtain⟨_,_,c14,rfl,bl,_⟩:=bk;exact pe hm (bl.sel ([1]++Z1 5 10 ++ [2]) rfl)
      have hm:=B8 hm;refine sS [(7,.agg (V5 D.1.term V c9).toArray)] Y9r (L9 (aK.bun [2,4,15,0,3] (Z1 5 10) rfl) Z2 hL1 _ aM) ?_;rintro _ _ _ _ ⟨_,_,c13,rfl,bm,_⟩;refine pu ?_;refine s0 rfl qZt (fun _=>F9 (by kernel_rfl) rfl (u := .agg #[iv y4.1,iv D.1.term.Kind,iv D.1.term.Fn,.int .u32 D.1.term.Num,iv D.1.term.Var,.bool D.1.term.Global,iv D.1.term.Size,.bool D.1.term.Post,.bool D.1.term.Ptr,sv V D.1.term.Kids c9,.bool false])) rfl (?_);refine s2W [0] ?_;refine osT 0 bm ?_;intro _ _ bn;exact re hm (bn.sel ([1]++Z1 5 10 ++ [2]) rfl)
    refine sq2 (cd hm ?_ ?_) <;> intro bP hm
    · refine sq2 (pu ?_);refine cP C0 hm (hG.Z4 (U.bun [0,1,3] (Z1 4 11) rfl) Z2 hL1 (h2.mono ch)) ?_ ?_
      · exact zk
      exact zk
    refine sq2 (cd hm ?_ ?_) <;> intro bQ hm
    · refine sq2 (pu ?_);refine cP Y3k hm (hG.X9 (U.bun [1,3] (Z1 4 11) rfl) Z2 hL1 (h2.mono ch)) ?_ ?_
      · rintro _ _ _ _ _ ⟨_,_,c22,rfl,bo,_⟩ hm;exact pe hm (bo.sel (Z1 1 12) rfl)
      rintro y8 _ _ _ _ ⟨bp,c19,_,_,c20,rfl,bq,h7,_⟩ hm;refine bS (r:=X2) (l:=([y8.1]:List Y4)) (css := [(V5 y8.1 bp c19)]) bq ⟨(X6 (x:=y8.1) h7:X2.rp _ _ _ _),qZt⟩ ?_;intro _ aN aP c21 _ bu;refine pv (F9 (by kernel_rfl) rfl (u := .agg #[iv 5,iv 19,.int .u32 0,iv 0,.bool false,iv 0,.bool false,.bool false,.slice aN aP c21])) (pv (F9 (by kernel_rfl) rfl (u := .agg #[iv 1,iv 5,iv 19,.int .u32 0,iv 0,.bool false,iv 0,.bool false,.bool false,.slice aN aP c21,.bool false])) (sT 1 bu ?_));intro _ _ bv;refine pn ?_;obtain⟨_,_,bw,_,rfl⟩:=bv.sl 0;exact re hm (bw.sel (Z1 2 12) rfl)
    exact zr hm U
  rintro _ w5 ⟨T1,x1,J,hm,rfl,bz,_⟩;refine sq2 (pu ?_);refine cP Y5h hm (hG.X4 (bz.bun [1,2] (Z1 3 11) rfl) Z2 hL1 (h2.mono ch)) ?_ ?_
  · exact zk
  rintro y9 _ _ _ _ ⟨bA,c23,_,_,c24,rfl,bB,_,_⟩ hm;have bR:HL 1 X2 ([y9.1]:List Y4) [(V5 y9.1 bA c23)]:=⟨qZt⟩;exact zr hm bB
theorem Z7u {G:Q1d} (hG:Sp3 G):Q5c (H8 G):=by
  intro g _ _ R _ Y2 Y1 Z5 _ _ H1 a1 _ c1 _ _ c2 _ _ c3 _ _ c4 _ _ _ _ c5 _ _ c6 _ O p2 a7 c7 hS Z2 hL1 h1 r hm;refine enter func177 rfl ntmps177 rfl fun J => ?_;unfold H8 at hm;refine sq2 (bX (F8 p2 a7 c7) hS ?_);intro _ _ _ ae;refine aL zv1 ae ?_;intro _ _ _ U;refine pn ?_;refine sq2 ?_;obtain⟨u1,af,hm⟩:=bindS hm;obtain⟨cs1,ag,_,hT1⟩:=ixS U af h1;obtain⟨_,c8,rfl,h2⟩:=K2 ag;refine pu ?_;refine cP Y3k hm (hG.X9 (U.bun [0,1,2] (Z1 3 11) rfl) Z2 hL1 h2) ?_ ?_
  · exact zk
  rintro D _ _ _ _ ⟨I,c9,_,_,c10,rfl,ah,h3,_⟩ hm;refine aL zv3 ah ?_;intro _ _ _ ai;refine sT 0 ai ?_;intro _ _ aj;refine pn ?_;refine sq2 (Z0c [0,1,0,0,1,0,1,2,2,0,0,2] [0,1,2,3,4,5,6,7,8,9,10,11] aj (V9 (P8)) fun w6 az K => ?_);obtain⟨u2,am,hm⟩:=bindS hm;obtain⟨cs2,an,_,hT2⟩:=ixS K am h1;obtain⟨_,c11,rfl,V⟩:=K2 an;refine pu ?_;obtain⟨E,W,hm⟩:=bindS hm
  rcases E with e1 | E
  · have hm:=K0 hm;refine s2 [(1,.agg (V5 D.1 I c9).toArray)] rfl qZt rfl (by kernel_rfl) (Q7m Y3k rfl (hG.X9 (p0:=D.2) (p1:=u2) (K.bun [1,3,2,0] (Z1 4 11) rfl) Z2 hL1 V _ W) rfl fun v3 T4 aD aE ao => ?_);obtain⟨_,_,c15,rfl,ap,_⟩:=ao;exact pe hm (ap.sel ([1]++Z1 4 11) rfl)
  have hm:=B8 hm;refine sS [(1,.agg (V5 D.1 I c9).toArray)] Y3k (hG.X9 (K.bun [1,3,2,0] (Z1 4 11) rfl) Z2 hL1 V _ W) ?_;rintro _ _ _ _ ⟨aq,c12,_,_,c13,rfl,ar,h5,_⟩;refine s2W [0] ?_;refine obS (r:=X2) (l:=([D.1,E.1]:List Y4)) (css := [(V5 D.1 I c9),(V5 E.1 aq c12)]) ar ⟨(X6 (x:=D.1) (h3.mono ch):X2.rp _ _ _ _),(X6 (x:=E.1) h5:X2.rp _ _ _ _),qZt⟩ ?_;intro _ aa n9 c14 _ av;refine pu ?_;refine s0 rfl qZt (fun _=>F9 (by kernel_rfl) rfl (u := .agg #[iv O,iv 0,.int .u32 0,iv 0,.bool false,iv 0,.bool false,.bool false,.slice aa n9 c14])) rfl (s0 rfl qZt (fun _=>F9 (by kernel_rfl) rfl (u := .agg #[iv 1,iv O,iv 0,.int .u32 0,iv 0,.bool false,iv 0,.bool false,.bool false,.slice aa n9 c14,.bool false])) rfl (?_));refine s2W [] ?_;refine osT 1 av ?_;intro _ _ aw;refine pn ?_;obtain⟨_,_,ax,h6,rfl⟩:=aw.sl 0;exact re hm (ax.sel ([2]++Z1 5 11) rfl)
end Go.Proofs.YtfffghclkmbopaaGreat
