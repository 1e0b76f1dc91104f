/- That Go functions compute their models. Printed by gen2.py. -/
import Derived.Test.YtbfpdnogfkbiaaaGreatVWc
set_option linter.unusedVariables false
namespace Go.Proofs.YtbfpdnogfkbiaaaGreat
open _root_.Go.Proofs.Tryz
set_option maxRecDepth 100000
set_option maxHeartbeats 8000000
attribute [local irreducible] wpList wpQuiet Code.wp
variable{g:World}{T0:Nat->Prop}{w0:World}{R:List Y9}
variable{b1 b2 Y0 Q0f Z7g Z7f Z8d c1 c2 c3 c4 c5 c6 c7 c8 c9 c10 c11 c12 c13 n1 n2 n3 n4 n5 n6 n7 Z9 Q0e Z7a Z6z Z7p oo1 oo2:Nat}{H1 H2 Z5 L4 Z5m Z5l Z7h:List Value->Y9}{a1 a2 a3 a4 a5 a6 a7 a8 a9 a10 a11 a12 a13:OA}{r1 r2:Option Nat}{pv1:Value}
attribute [local irreducible] M1 W7 execOp Program.underlying sizeOf isAgg zeroValue

def Q5z(F:Q0->Y8->Option (Except (Z4×Q0) (Y6×Q0))):Prop:=∀{g:World}{T0:TP}{w0:World}{R:List Y9}{p0:Q0}{Y0 Z9:Nat}{Z5:List Value->Y9}{b1 oo1}{H1:List Value->Y9}{a1 n1 c1 a2 n2 c2 a3 n3 c3 a4 n4 c4 r1 r2 a5 n5 c5 a6 n6 c6 pv1}{p1:Y8}{a7 c7}(hS:Q34 a1 a2 a3 a4 a5 a6 b1 oo1 n1 c1 n2 c2 n3 c3 n4 c4 n5 c5 n6 c6 Z5 H1 T0 g w0 pv1 r1 r2 R p0)(Z2:Ln Y0 Z9 Z5)(hL1:Ln b1 oo1 H1)(h1:Q10 a7 c7 T0 w0 p1.Kids),∀r,F p0 p1=some r->
 Cl 188 #[pt Y0 Z9,Q42 a7 c7 p1] w0 (exR r (fun r=>K6 T0 w0 fun T w v=>∃a11 c11 a12 n9 c12,v= .agg (U2 r.1 a11 c11).toArray/\Sep g T w (R++(Q2 a12 a2 a3 a4 a5 a6 b1 oo1 n9 c12 n2 c2 n3 c3 n4 c4 n5 c5 n6 c6 Z5 H1 pv1 r1 r2 r.2))/\Q11 a11 c11 T w r.1.Kids/\True) (fun r=>H9 T0 w0 (Q6 a2 a3 a4 a5 a6 b1 oo1 n2 c2 n3 c3 n4 c4 n5 c5 n6 c6 Z5 H1 g pv1 r1 r2 R r.1.pos r.1.e r.2)))
def Q4f(F:Q0->Y8->Option (Except (Z4×Q0) (Y6×Q0))):Prop:=∀{g:World}{T0:TP}{w0:World}{R:List Y9}{p0:Q0}{Y0 Z9:Nat}{Z5:List Value->Y9}{b1 oo1}{H1:List Value->Y9}{a1 n1 c1 a2 n2 c2 a3 n3 c3 a4 n4 c4 r1 r2 a5 n5 c5 a6 n6 c6 pv1}{p1:Y8}{a7 c7}(hS:Q34 a1 a2 a3 a4 a5 a6 b1 oo1 n1 c1 n2 c2 n3 c3 n4 c4 n5 c5 n6 c6 Z5 H1 T0 g w0 pv1 r1 r2 R p0)(Z2:Ln Y0 Z9 Z5)(hL1:Ln b1 oo1 H1)(h1:Q10 a7 c7 T0 w0 p1.Kids),∀r,F p0 p1=some r->
 Cl 181 #[pt Y0 Z9,Q42 a7 c7 p1] w0 (exR r (fun r=>K6 T0 w0 fun T w v=>∃a11 c11 a12 n9 c12,v= .agg (U2 r.1 a11 c11).toArray/\Sep g T w (R++(Q2 a12 a2 a3 a4 a5 a6 b1 oo1 n9 c12 n2 c2 n3 c3 n4 c4 n5 c5 n6 c6 Z5 H1 pv1 r1 r2 r.2))/\Q11 a11 c11 T w r.1.Kids/\True) (fun r=>H9 T0 w0 (Q6 a2 a3 a4 a5 a6 b1 oo1 n2 c2 n3 c3 n4 c4 n5 c5 n6 c6 Z5 H1 g pv1 r1 r2 R r.1.pos r.1.e r.2)))
def Q5v(F:Q0->Y8->Option (Except (Z4×Q0) (Y2×Q0))):Prop:=∀{g:World}{T0:TP}{w0:World}{R:List Y9}{p0:Q0}{Y0 Z9:Nat}{Z5:List Value->Y9}{b1 oo1}{H1:List Value->Y9}{a1 n1 c1 a2 n2 c2 a3 n3 c3 a4 n4 c4 r1 r2 a5 n5 c5 a6 n6 c6 pv1}{p1:Y8}{a7 c7}(hS:Q34 a1 a2 a3 a4 a5 a6 b1 oo1 n1 c1 n2 c2 n3 c3 n4 c4 n5 c5 n6 c6 Z5 H1 T0 g w0 pv1 r1 r2 R p0)(Z2:Ln Y0 Z9 Z5)(hL1:Ln b1 oo1 H1)(h1:Q10 a7 c7 T0 w0 p1.Kids),∀r,F p0 p1=some r->
 Cl 174 #[pt Y0 Z9,Q42 a7 c7 p1] w0 (exR r (fun r=>K6 T0 w0 (Q9 a2 a3 a4 a5 a6 b1 oo1 n2 c2 n3 c3 n4 c4 n5 c5 n6 c6 Z5 H1 g pv1 r1 r2 R r.1 r.2)) (fun r=>H9 T0 w0 (Q6 a2 a3 a4 a5 a6 b1 oo1 n2 c2 n3 c3 n4 c4 n5 c5 n6 c6 Z5 H1 g pv1 r1 r2 R r.1.pos r.1.e r.2)))
def Q7j(F:Q0->Int->Y8->Option (Except (Z4×Q0) (Y2×Q0))):Prop:=∀{g:World}{T0:TP}{w0:World}{R:List Y9}{p0:Q0}{Y0 Z9:Nat}{Z5:List Value->Y9}{b1 oo1}{H1:List Value->Y9}{a1 n1 c1 a2 n2 c2 a3 n3 c3 a4 n4 c4 r1 r2 a5 n5 c5 a6 n6 c6 pv1 p1}{p2:Y8}{a7 c7}(hS:Q34 a1 a2 a3 a4 a5 a6 b1 oo1 n1 c1 n2 c2 n3 c3 n4 c4 n5 c5 n6 c6 Z5 H1 T0 g w0 pv1 r1 r2 R p0)(Z2:Ln Y0 Z9 Z5)(hL1:Ln b1 oo1 H1)(h1:Q10 a7 c7 T0 w0 p2.Kids),∀r,F p0 p1 p2=some r->
 Cl 194 #[pt Y0 Z9,iv p1,Q42 a7 c7 p2] w0 (exR r (fun r=>K6 T0 w0 (Q9 a2 a3 a4 a5 a6 b1 oo1 n2 c2 n3 c3 n4 c4 n5 c5 n6 c6 Z5 H1 g pv1 r1 r2 R r.1 r.2)) (fun r=>H9 T0 w0 (Q6 a2 a3 a4 a5 a6 b1 oo1 n2 c2 n3 c3 n4 c4 n5 c5 n6 c6 Z5 H1 g pv1 r1 r2 R r.1.pos r.1.e r.2)))
def Q4j(F:Q0->Y8->Option (Except (Z4×Q0) (Y2×Q0))):Prop:=∀{g:World}{T0:TP}{w0:World}{R:List Y9}{p0:Q0}{Y0 Z9:Nat}{Z5:List Value->Y9}{b1 oo1}{H1:List Value->Y9}{a1 n1 c1 a2 n2 c2 a3 n3 c3 a4 n4 c4 r1 r2 a5 n5 c5 a6 n6 c6 pv1}{p1:Y8}{a7 c7}(hS:Q34 a1 a2 a3 a4 a5 a6 b1 oo1 n1 c1 n2 c2 n3 c3 n4 c4 n5 c5 n6 c6 Z5 H1 T0 g w0 pv1 r1 r2 R p0)(Z2:Ln Y0 Z9 Z5)(hL1:Ln b1 oo1 H1)(h1:Q10 a7 c7 T0 w0 p1.Kids),∀r,F p0 p1=some r->
 Cl 175 #[pt Y0 Z9,Q42 a7 c7 p1] w0 (exR r (fun r=>K6 T0 w0 (Q9 a2 a3 a4 a5 a6 b1 oo1 n2 c2 n3 c3 n4 c4 n5 c5 n6 c6 Z5 H1 g pv1 r1 r2 R r.1 r.2)) (fun r=>H9 T0 w0 (Q6 a2 a3 a4 a5 a6 b1 oo1 n2 c2 n3 c3 n4 c4 n5 c5 n6 c6 Z5 H1 g pv1 r1 r2 R r.1.pos r.1.e r.2)))
def Q5x(F:Q0->Y8->Option (Except (Z4×Q0) (Y2×Q0))):Prop:=∀{g:World}{T0:TP}{w0:World}{R:List Y9}{p0:Q0}{Y0 Z9:Nat}{Z5:List Value->Y9}{b1 oo1}{H1:List Value->Y9}{a1 n1 c1 a2 n2 c2 a3 n3 c3 a4 n4 c4 r1 r2 a5 n5 c5 a6 n6 c6 pv1}{p1:Y8}{a7 c7}(hS:Q34 a1 a2 a3 a4 a5 a6 b1 oo1 n1 c1 n2 c2 n3 c3 n4 c4 n5 c5 n6 c6 Z5 H1 T0 g w0 pv1 r1 r2 R p0)(Z2:Ln Y0 Z9 Z5)(hL1:Ln b1 oo1 H1)(h1:Q10 a7 c7 T0 w0 p1.Kids),∀r,F p0 p1=some r->
 Cl 198 #[pt Y0 Z9,Q42 a7 c7 p1] w0 (exR r (fun r=>K6 T0 w0 (Q9 a2 a3 a4 a5 a6 b1 oo1 n2 c2 n3 c3 n4 c4 n5 c5 n6 c6 Z5 H1 g pv1 r1 r2 R r.1 r.2)) (fun r=>H9 T0 w0 (Q6 a2 a3 a4 a5 a6 b1 oo1 n2 c2 n3 c3 n4 c4 n5 c5 n6 c6 Z5 H1 g pv1 r1 r2 R r.1.pos r.1.e r.2)))
def Q4k(F:Q0->Y8->Option (Except (Z4×Q0) (Y2×Q0))):Prop:=∀{g:World}{T0:TP}{w0:World}{R:List Y9}{p0:Q0}{Y0 Z9:Nat}{Z5:List Value->Y9}{b1 oo1}{H1:List Value->Y9}{a1 n1 c1 a2 n2 c2 a3 n3 c3 a4 n4 c4 r1 r2 a5 n5 c5 a6 n6 c6 pv1}{p1:Y8}{a7 c7}(hS:Q34 a1 a2 a3 a4 a5 a6 b1 oo1 n1 c1 n2 c2 n3 c3 n4 c4 n5 c5 n6 c6 Z5 H1 T0 g w0 pv1 r1 r2 R p0)(Z2:Ln Y0 Z9 Z5)(hL1:Ln b1 oo1 H1)(h1:Q10 a7 c7 T0 w0 p1.Kids),∀r,F p0 p1=some r->
 Cl 176 #[pt Y0 Z9,Q42 a7 c7 p1] w0 (exR r (fun r=>K6 T0 w0 (Q9 a2 a3 a4 a5 a6 b1 oo1 n2 c2 n3 c3 n4 c4 n5 c5 n6 c6 Z5 H1 g pv1 r1 r2 R r.1 r.2)) (fun r=>H9 T0 w0 (Q6 a2 a3 a4 a5 a6 b1 oo1 n2 c2 n3 c3 n4 c4 n5 c5 n6 c6 Z5 H1 g pv1 r1 r2 R r.1.pos r.1.e r.2)))
def Q7h(F:Q0->Y8->Option (Except (Z4×Q0) (Y2×Q0))):Prop:=∀{g:World}{T0:TP}{w0:World}{R:List Y9}{p0:Q0}{Y0 Z9:Nat}{Z5:List Value->Y9}{b1 oo1}{H1:List Value->Y9}{a1 n1 c1 a2 n2 c2 a3 n3 c3 a4 n4 c4 r1 r2 a5 n5 c5 a6 n6 c6 pv1}{p1:Y8}{a7 c7}(hS:Q34 a1 a2 a3 a4 a5 a6 b1 oo1 n1 c1 n2 c2 n3 c3 n4 c4 n5 c5 n6 c6 Z5 H1 T0 g w0 pv1 r1 r2 R p0)(Z2:Ln Y0 Z9 Z5)(hL1:Ln b1 oo1 H1)(h1:Q10 a7 c7 T0 w0 p1.Kids),∀r,F p0 p1=some r->
 Cl 177 #[pt Y0 Z9,Q42 a7 c7 p1] w0 (exR r (fun r=>K6 T0 w0 (Q9 a2 a3 a4 a5 a6 b1 oo1 n2 c2 n3 c3 n4 c4 n5 c5 n6 c6 Z5 H1 g pv1 r1 r2 R r.1 r.2)) (fun r=>H9 T0 w0 (Q6 a2 a3 a4 a5 a6 b1 oo1 n2 c2 n3 c3 n4 c4 n5 c5 n6 c6 Z5 H1 g pv1 r1 r2 R r.1.pos r.1.e r.2)))
def Q7i(F:Q0->Y8->Option (Except (Z4×Q0) (Y2×Q0))):Prop:=∀{g:World}{T0:TP}{w0:World}{R:List Y9}{p0:Q0}{Y0 Z9:Nat}{Z5:List Value->Y9}{b1 oo1}{H1:List Value->Y9}{a1 n1 c1 a2 n2 c2 a3 n3 c3 a4 n4 c4 r1 r2 a5 n5 c5 a6 n6 c6 pv1}{p1:Y8}{a7 c7}(hS:Q34 a1 a2 a3 a4 a5 a6 b1 oo1 n1 c1 n2 c2 n3 c3 n4 c4 n5 c5 n6 c6 Z5 H1 T0 g w0 pv1 r1 r2 R p0)(Z2:Ln Y0 Z9 Z5)(hL1:Ln b1 oo1 H1)(h1:Q10 a7 c7 T0 w0 p1.Kids),∀r,F p0 p1=some r->
 Cl 178 #[pt Y0 Z9,Q42 a7 c7 p1] w0 (exR r (fun r=>K6 T0 w0 (Q9 a2 a3 a4 a5 a6 b1 oo1 n2 c2 n3 c3 n4 c4 n5 c5 n6 c6 Z5 H1 g pv1 r1 r2 R r.1 r.2)) (fun r=>H9 T0 w0 (Q6 a2 a3 a4 a5 a6 b1 oo1 n2 c2 n3 c3 n4 c4 n5 c5 n6 c6 Z5 H1 g pv1 r1 r2 R r.1.pos r.1.e r.2)))
def Q4g(F:Q0->Y8->Option (Except (Z4×Q0) (Y2×Q0))):Prop:=∀{g:World}{T0:TP}{w0:World}{R:List Y9}{p0:Q0}{Y0 Z9:Nat}{Z5:List Value->Y9}{b1 oo1}{H1:List Value->Y9}{a1 n1 c1 a2 n2 c2 a3 n3 c3 a4 n4 c4 r1 r2 a5 n5 c5 a6 n6 c6 pv1}{p1:Y8}{a7 c7}(hS:Q34 a1 a2 a3 a4 a5 a6 b1 oo1 n1 c1 n2 c2 n3 c3 n4 c4 n5 c5 n6 c6 Z5 H1 T0 g w0 pv1 r1 r2 R p0)(Z2:Ln Y0 Z9 Z5)(hL1:Ln b1 oo1 H1)(h1:Q10 a7 c7 T0 w0 p1.Kids),∀r,F p0 p1=some r->
 Cl 182 #[pt Y0 Z9,Q42 a7 c7 p1] w0 (exR r (fun r=>K6 T0 w0 (Q9 a2 a3 a4 a5 a6 b1 oo1 n2 c2 n3 c3 n4 c4 n5 c5 n6 c6 Z5 H1 g pv1 r1 r2 R r.1 r.2)) (fun r=>H9 T0 w0 (Q6 a2 a3 a4 a5 a6 b1 oo1 n2 c2 n3 c3 n4 c4 n5 c5 n6 c6 Z5 H1 g pv1 r1 r2 R r.1.pos r.1.e r.2)))
def Q7f(F:Q0->Y8->Option (Except (Z4×Q0) (Y2×Q0))):Prop:=∀{g:World}{T0:TP}{w0:World}{R:List Y9}{p0:Q0}{Y0 Z9:Nat}{Z5:List Value->Y9}{b1 oo1}{H1:List Value->Y9}{a1 n1 c1 a2 n2 c2 a3 n3 c3 a4 n4 c4 r1 r2 a5 n5 c5 a6 n6 c6 pv1}{p1:Y8}{a7 c7}(hS:Q34 a1 a2 a3 a4 a5 a6 b1 oo1 n1 c1 n2 c2 n3 c3 n4 c4 n5 c5 n6 c6 Z5 H1 T0 g w0 pv1 r1 r2 R p0)(Z2:Ln Y0 Z9 Z5)(hL1:Ln b1 oo1 H1)(h1:Q10 a7 c7 T0 w0 p1.Kids),∀r,F p0 p1=some r->
 Cl 183 #[pt Y0 Z9,Q42 a7 c7 p1] w0 (exR r (fun r=>K6 T0 w0 (Q9 a2 a3 a4 a5 a6 b1 oo1 n2 c2 n3 c3 n4 c4 n5 c5 n6 c6 Z5 H1 g pv1 r1 r2 R r.1 r.2)) (fun r=>H9 T0 w0 (Q6 a2 a3 a4 a5 a6 b1 oo1 n2 c2 n3 c3 n4 c4 n5 c5 n6 c6 Z5 H1 g pv1 r1 r2 R r.1.pos r.1.e r.2)))
def Q7g(F:Q0->Y8->Option (Except (Z4×Q0) (Y2×Q0))):Prop:=∀{g:World}{T0:TP}{w0:World}{R:List Y9}{p0:Q0}{Y0 Z9:Nat}{Z5:List Value->Y9}{b1 oo1}{H1:List Value->Y9}{a1 n1 c1 a2 n2 c2 a3 n3 c3 a4 n4 c4 r1 r2 a5 n5 c5 a6 n6 c6 pv1}{p1:Y8}{a7 c7}(hS:Q34 a1 a2 a3 a4 a5 a6 b1 oo1 n1 c1 n2 c2 n3 c3 n4 c4 n5 c5 n6 c6 Z5 H1 T0 g w0 pv1 r1 r2 R p0)(Z2:Ln Y0 Z9 Z5)(hL1:Ln b1 oo1 H1)(h1:Q10 a7 c7 T0 w0 p1.Kids),∀r,F p0 p1=some r->
 Cl 150 #[pt Y0 Z9,Q42 a7 c7 p1] w0 (exR r (fun r=>K6 T0 w0 (Q9 a2 a3 a4 a5 a6 b1 oo1 n2 c2 n3 c3 n4 c4 n5 c5 n6 c6 Z5 H1 g pv1 r1 r2 R r.1 r.2)) (fun r=>H9 T0 w0 (Q6 a2 a3 a4 a5 a6 b1 oo1 n2 c2 n3 c3 n4 c4 n5 c5 n6 c6 Z5 H1 g pv1 r1 r2 R r.1.pos r.1.e r.2)))
def Q5u(F:Q0->Y8->Option (Except (Z4×Q0) (Y2×Q0))):Prop:=∀{g:World}{T0:TP}{w0:World}{R:List Y9}{p0:Q0}{Y0 Z9:Nat}{Z5:List Value->Y9}{b1 oo1}{H1:List Value->Y9}{a1 n1 c1 a2 n2 c2 a3 n3 c3 a4 n4 c4 r1 r2 a5 n5 c5 a6 n6 c6 pv1}{p1:Y8}{a7 c7}(hS:Q34 a1 a2 a3 a4 a5 a6 b1 oo1 n1 c1 n2 c2 n3 c3 n4 c4 n5 c5 n6 c6 Z5 H1 T0 g w0 pv1 r1 r2 R p0)(Z2:Ln Y0 Z9 Z5)(hL1:Ln b1 oo1 H1)(h1:Q10 a7 c7 T0 w0 p1.Kids),∀r,F p0 p1=some r->
 Cl 108 #[pt Y0 Z9,Q42 a7 c7 p1] w0 (exR r (fun r=>K6 T0 w0 (Q9 a2 a3 a4 a5 a6 b1 oo1 n2 c2 n3 c3 n4 c4 n5 c5 n6 c6 Z5 H1 g pv1 r1 r2 R r.1 r.2)) (fun r=>H9 T0 w0 (Q6 a2 a3 a4 a5 a6 b1 oo1 n2 c2 n3 c3 n4 c4 n5 c5 n6 c6 Z5 H1 g pv1 r1 r2 R r.1.pos r.1.e r.2)))
structure Sp3(G:Z3u):Prop where
 K3:Q5z G.K3
 V8:Q4f G.V8
 P4:Q5v G.P4
 E3:Q7j G.E3
 B5:Q4j G.B5
 D5:Q5x G.D5
 B6:Q4k G.B6
 M4:Q7h G.M4
 M5:Q7i G.M5
 B4:Q4g G.B4
 M3:Q7f G.M3
 J1:Q7g G.J1
 Z6:Q5u G.Z6
theorem Z9h{G:Z3u}(hG:Sp3 G):Q5z (Q1o G):=by
 intro g _ _ R _ Y0 Z9 Z5 _ _ H1 a1 _ c1 _ _ c2 _ _ c3 _ _ c4 _ _ _ _ c5 _ _ c6 _ _ _ c7 hS Z2 hL1 h1 r hm;refine eN Tryz.func188 Tryz.ntmps188 fun J=>?_;unfold Q1o at hm;have D:Ctr Tryz.prog 108 (type_of%@hG.Z6):=⟨@hG.Z6,A5⟩;exact zr hm hS
theorem Z7w{G:Z3u}(hG:Sp3 G):Q4f (Q0l G):=by
 intro g _ _ R _ Y0 Z9 Z5 _ _ H1 a1 _ c1 _ _ c2 _ _ c3 _ _ c4 _ _ _ _ c5 _ _ c6 _ _ _ c7 hS Z2 hL1 h1 r hm;refine eN Tryz.func181 Tryz.ntmps181 fun J=>?_;unfold Q0l at hm;have D:Ctr Tryz.prog 108 (type_of%@hG.Z6):=⟨@hG.Z6,A5⟩;exact zr hm hS
theorem Z9d{G:Z3u}(hG:Sp3 G):Q5v (Q1j G):=by
 intro g T0 _ R p0 Y0 Z9 Z5 b1 ah H1 a1 n1 c1 a2 n2 c2 a3 n3 c3 a4 n4 c4 r1 r2 a5 n5 c5 a6 n6 c6 V p1 a7 c7 hS Z2 hL1 h1 r hm;refine eN Tryz.func174 Tryz.ntmps174 fun J=>?_;unfold Q1j at hm;refine sq2 (bX (E4 p1 a7 c7) hS ?_);intro _ W _ aN;refine aL zv1 aN ?_;intro _ D _ az;refine pn ?_;refine sq2 ?_;obtain⟨u1,aP,hm⟩:=Z8 hm;obtain⟨cs1,aQ,_,hT1⟩:=ixS az aP h1;obtain⟨a8,c8,rfl,h2⟩:=G9 aQ;refine aL zv2 az ?_;intro _ E _ aR;refine sT 0 aR ?_;intro w4 _ U;refine kD ?_;refine M8 hm (fun aB a w5=>∃T1 x1,JR (nf 93) g T0 w4 a w5 T1 (aB x1=some r) [(0,pt Y0 Z9),(4,pt D 0),(5,pt E 0),(6,iv x1)] ([Q33 a8 E c8 u1,K0 D zv1,Y7 R]++(Q2 a1 a2 a3 a4 a5 a6 b1 ah n1 c1 n2 c2 n3 c3 n4 c4 n5 c5 n6 c6 Z5 H1 V r1 r2 p0))) (fun aB hm=>?_) ?_
 . refine qN ?_;refine blk (sq2 (cd hm ?_ ?_))<;>intro bn hm
   . refine qU ?_;refine cP Y9j hm (hG.J1 (U.bE (Z3 0 4) (Z3 4 11)) Z2 hL1 (mC h2)) ?_ ?_
     . exact zk
     rintro K _ T2 _ _ ⟨a9,c9,aV,n7,c10,rfl,aX,_,_⟩ hm;refine aL zv1 aX ?_;intro _ b6 _ aY;refine sT 0 aY ?_;intro w8 _ ba;refine kE ?_;refine M8 hm (fun aE a w9=>∃T3 b7 O af c11,JR (nf 93) g T2 w8 a w9 T3 (aE O=some r) [(0,pt Y0 Z9),(3,pt W 0),(4,pt D 0),(5,pt E 0),(7,pt b6 0),(8,pt b7 0)] ([Q47 a9 b6 c9 K.1,Q33 a8 E c8 u1,K0 D zv1,Q33 a7 W c7 p1,Y7 R]++(X6 K.2 Z5 H1 b1 ah aV n7 c10 a2 n2 c2 a3 n3 c3 a4 n4 c4 r1 r2 a5 n5 c5 a6 n6 c6 V++[Q20 V K.2,K0 b7 (Y7y O af c11)]))/\Q65 af c11 T3 w9 O.Fields) (fun aE hm=>?_) ?_
     . refine rtS [0,0,0,1,0,1,2,0,0,0,2,2,0] [0,1,2,3,4,5,6,7,8,9,10,11,12] ba fun bo bp be=>?_;have dd:KD [(6,[3,5]),(10,[]),(11,[3,5,6,10])]:=⟨qZt⟩;exact zr hm be
     rintro _ w9 ⟨T3,b7,O,af,c11,⟨J,hm,rfl,aF,_⟩,_⟩;refine qU ?_;refine fkN (d:=41) (c:=((!K.1.lies)||(O.Kind==4))) 4 [(0,pt Y0 Z9),(3,pt W 0),(4,pt D 0),(5,pt E 0),(7,pt b6 0)] rfl (fun hk=>zw (!K.1.lies) hk) fun J=>?_;refine cd hm ?_ ?_<;>intro bq hm
     . exact zr hm aF
     refine kE ?_;refine Z2w [0,0,1,0,1,2,0,1,0,2] [0,1,2,3,4,6,7,5,8,9] aF (U7 (R6 (U7 (C5)))) fun bt bu bg=>?_;have dd:KD [(5,[2,4]),(9,[2,4,5,7])]:=⟨qZt⟩;exact zr hm bg
   refine sq2 (cd hm ?_ ?_)<;>intro bv hm
   . have bw:Ctr Tryz.prog 108 (type_of%@hG.Z6):=⟨@hG.Z6,A5⟩;exact zr hm U
   refine sq2 (cd hm ?_ ?_)<;>intro bz hm
   . refine qU ?_;refine cP Y6e hm (hG.K3 (U.bE [1,3] (Z3 4 11)) Z2 hL1 (mC h2)) ?_ ?_
     . exact zk
     rintro y8 _ _ _ _ ⟨bh,c19,_,_,c20,rfl,bi,_,_⟩ hm;have bj:HL 1 X8 ([y8.1]:List Y6) [(U2 y8.1 bh c19)]:=⟨qZt⟩;exact zr hm bi
   exact zr hm U
 rintro _ w5 ⟨T1,x1,J,hm,rfl,bk,_⟩;refine qU ?_;refine cP Y9i hm (hG.V8 (bk.bE [1,2] (Z3 3 11)) Z2 hL1 (mC h2)) ?_ ?_
 . exact zk
 rintro y9 _ _ _ _ ⟨bl,c23,_,_,c24,rfl,bm,_,_⟩ hm;have bj:HL 1 X8 ([y9.1]:List Y6) [(U2 y9.1 bl c23)]:=⟨qZt⟩;exact zr hm bm
theorem Y0g{G:Z3u}(hG:Sp3 G):Q7j (Q2o G):=by
 intro g _ _ R _ Y0 Z9 Z5 _ _ H1 a1 _ c1 _ _ c2 _ _ c3 _ _ c4 _ _ _ _ c5 _ _ c6 _ _ p2 a7 c7 hS Z2 hL1 h1 r hm;refine eN Tryz.func194 Tryz.ntmps194 fun J=>?_;unfold Q2o at hm;refine sq2 (bX (E4 p2 a7 c7) hS ?_);intro _ _ _ ac;refine aL zv1 ac ?_;intro _ _ _ U;refine pn ?_;refine sq2 ?_;obtain⟨u1,ad,hm⟩:=Z8 hm;obtain⟨cs1,ae,_,hT1⟩:=ixS U ad h1;obtain⟨_,c8,rfl,h2⟩:=G9 ae;refine pu ?_;refine cP Y6e hm (hG.K3 (U.bE [0,1,2] (Z3 3 11)) Z2 hL1 h2) ?_ ?_
 . exact zk
 rintro D _ _ _ _ ⟨K,c9,_,_,c10,rfl,af,_,_⟩ hm;refine aL zv3 af ?_;intro _ _ _ ag;refine sT 0 ag ?_;intro _ _ ah;refine kE ?_;refine Z2w [0,1,0,0,1,0,1,2,2,0,0,2] [0,1,2,3,4,5,6,7,8,9,10,11] ah (U7 (C5)) fun w6 ar O=>?_;obtain⟨u2,aj,hm⟩:=Z8 hm;obtain⟨cs2,ak,_,hT2⟩:=ixS O aj h1;obtain⟨_,c11,rfl,V⟩:=G9 ak;refine pu ?_;obtain⟨E,W,hm⟩:=Z8 hm
 rcases E with e1|E
 . have hm:=J8 hm;refine s2 [(1,.agg (U2 D.1 K c9).toArray)] rfl qZt rfl (by kernel_rfl) (Z2d Y6e rfl (hG.K3 (p0:=D.2) (p1:=u2) (O.bE [1,3,2,0] (Z3 4 11)) Z2 hL1 V _ W) rfl fun v3 T4 aw ax am=>?_);obtain⟨_,_,c15,rfl,an,_⟩:=am;exact pe hm (an.sE ([1]++Z3 4 11))
 have hm:=C2 hm;refine sS [(1,.agg (U2 D.1 K c9).toArray)] Y6e (hG.K3 (O.bE [1,3,2,0] (Z3 4 11)) Z2 hL1 V _ W) ?_;rintro _ _ _ _ ⟨ao,c12,_,_,c13,rfl,ap,_,_⟩;have ay:HL 1 X8 ([D.1,E.1]:List Y6) [(U2 D.1 K c9),(U2 E.1 ao c12)]:=⟨qZt⟩;have dd:KD [(7,[4,6]),(8,[1,4,6,7]),(11,[1,4,6,7,8])]:=⟨qZt⟩;exact zr hm ap
end Go.Proofs.YtbfpdnogfkbiaaaGreat
