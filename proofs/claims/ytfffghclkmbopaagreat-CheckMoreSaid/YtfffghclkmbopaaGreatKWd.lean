/- That Go functions compute their models. Printed by gen2.py. -/
import Derived.Test.YtfffghclkmbopaaGreatKWc
set_option linter.unusedVariables false
namespace Go.Proofs.YtfffghclkmbopaaGreat
open _root_.Go.Proofs.Tryz
set_option maxRecDepth 100000
set_option maxHeartbeats 8000000
attribute [local irreducible] wpList wpQuiet Code.wp
variable{g:World}{T0:Nat->Prop}{w0:World}{R:List X4}
variable{b1 b2 Y5 Q1c Z6c Z6b Z6x c1 c2 c3 c4 c5 c6 c7 c8 c9 c10 c11 c12 c13 n1 n2 n3 n4 n5 n6 n7 Y4 Q1b Z5m Z5l Z6p oo1 oo2:Nat}{H1 H2 Z7 R6 Z3o Z3n Z6f:List Value->X4}{a1 a2 a3 a4 a5 a6 a7 a8 a9 a10 a11 a12 a13:OA}{r1 r2:Option Nat}{pv1:Value}
attribute [local irreducible] A7 Q0r execOp Program.underlying sizeOf isAgg zeroValue

def Q3y(F:Q0->Y2->Option (Except (Z1×Q0) (Y1×Q0))):Prop:=∀{g:World}{T0:TP}{w0:World}{R:List X4}{p0:Q0}{Y5 Y4:Nat}{Z7:List Value->X4}{b1 oo1}{H1:List Value->X4}{a1 n1 c1 a2 n2 c2 a3 n3 c3 a4 n4 c4 r1 r2 a5 n5 c5 a6 n6 c6 pv1}{p1:Y2}{a7 c7}(hS:Q22 a1 a2 a3 a4 a5 a6 b1 oo1 n1 c1 n2 c2 n3 c3 n4 c4 n5 c5 n6 c6 Z7 H1 T0 g w0 pv1 r1 r2 R p0)(Z2:Ln Y5 Y4 Z7)(hL1:Ln b1 oo1 H1)(h1:Q8 a7 c7 T0 w0 p1.Kids),∀r,F p0 p1=some r->
 Cl 172 #[pt Y5 Y4,Q29 a7 c7 p1] w0 (exR r (fun r=>J1 T0 w0 fun T w v=>∃a11 c11 a12 n9 c12,v= .agg (U4 r.1 a11 c11).toArray/\Sep g T w (R++(Q2 a12 a2 a3 a4 a5 a6 b1 oo1 n9 c12 n2 c2 n3 c3 n4 c4 n5 c5 n6 c6 Z7 H1 pv1 r1 r2 r.2))/\Q10 a11 c11 T w r.1.Kids/\True) (fun r=>L0 T0 w0 (Q4 a2 a3 a4 a5 a6 b1 oo1 n2 c2 n3 c3 n4 c4 n5 c5 n6 c6 Z7 H1 g pv1 r1 r2 R r.1.pos r.1.e r.2)))
def Q2y(F:Q0->Y2->Option (Except (Z1×Q0) (Y1×Q0))):Prop:=∀{g:World}{T0:TP}{w0:World}{R:List X4}{p0:Q0}{Y5 Y4:Nat}{Z7:List Value->X4}{b1 oo1}{H1:List Value->X4}{a1 n1 c1 a2 n2 c2 a3 n3 c3 a4 n4 c4 r1 r2 a5 n5 c5 a6 n6 c6 pv1}{p1:Y2}{a7 c7}(hS:Q22 a1 a2 a3 a4 a5 a6 b1 oo1 n1 c1 n2 c2 n3 c3 n4 c4 n5 c5 n6 c6 Z7 H1 T0 g w0 pv1 r1 r2 R p0)(Z2:Ln Y5 Y4 Z7)(hL1:Ln b1 oo1 H1)(h1:Q8 a7 c7 T0 w0 p1.Kids),∀r,F p0 p1=some r->
 Cl 165 #[pt Y5 Y4,Q29 a7 c7 p1] w0 (exR r (fun r=>J1 T0 w0 fun T w v=>∃a11 c11 a12 n9 c12,v= .agg (U4 r.1 a11 c11).toArray/\Sep g T w (R++(Q2 a12 a2 a3 a4 a5 a6 b1 oo1 n9 c12 n2 c2 n3 c3 n4 c4 n5 c5 n6 c6 Z7 H1 pv1 r1 r2 r.2))/\Q10 a11 c11 T w r.1.Kids/\True) (fun r=>L0 T0 w0 (Q4 a2 a3 a4 a5 a6 b1 oo1 n2 c2 n3 c3 n4 c4 n5 c5 n6 c6 Z7 H1 g pv1 r1 r2 R r.1.pos r.1.e r.2)))
def Q3u(F:Q0->Y2->Option (Except (Z1×Q0) (Z8×Q0))):Prop:=∀{g:World}{T0:TP}{w0:World}{R:List X4}{p0:Q0}{Y5 Y4:Nat}{Z7:List Value->X4}{b1 oo1}{H1:List Value->X4}{a1 n1 c1 a2 n2 c2 a3 n3 c3 a4 n4 c4 r1 r2 a5 n5 c5 a6 n6 c6 pv1}{p1:Y2}{a7 c7}(hS:Q22 a1 a2 a3 a4 a5 a6 b1 oo1 n1 c1 n2 c2 n3 c3 n4 c4 n5 c5 n6 c6 Z7 H1 T0 g w0 pv1 r1 r2 R p0)(Z2:Ln Y5 Y4 Z7)(hL1:Ln b1 oo1 H1)(h1:Q8 a7 c7 T0 w0 p1.Kids),∀r,F p0 p1=some r->
 Cl 158 #[pt Y5 Y4,Q29 a7 c7 p1] w0 (exR r (fun r=>J1 T0 w0 (Q6 a2 a3 a4 a5 a6 b1 oo1 n2 c2 n3 c3 n4 c4 n5 c5 n6 c6 Z7 H1 g pv1 r1 r2 R r.1 r.2)) (fun r=>L0 T0 w0 (Q4 a2 a3 a4 a5 a6 b1 oo1 n2 c2 n3 c3 n4 c4 n5 c5 n6 c6 Z7 H1 g pv1 r1 r2 R r.1.pos r.1.e r.2)))
def Q4t(F:Q0->Int->Y2->Option (Except (Z1×Q0) (Z8×Q0))):Prop:=∀{g:World}{T0:TP}{w0:World}{R:List X4}{p0:Q0}{Y5 Y4:Nat}{Z7:List Value->X4}{b1 oo1}{H1:List Value->X4}{a1 n1 c1 a2 n2 c2 a3 n3 c3 a4 n4 c4 r1 r2 a5 n5 c5 a6 n6 c6 pv1 p1}{p2:Y2}{a7 c7}(hS:Q22 a1 a2 a3 a4 a5 a6 b1 oo1 n1 c1 n2 c2 n3 c3 n4 c4 n5 c5 n6 c6 Z7 H1 T0 g w0 pv1 r1 r2 R p0)(Z2:Ln Y5 Y4 Z7)(hL1:Ln b1 oo1 H1)(h1:Q8 a7 c7 T0 w0 p2.Kids),∀r,F p0 p1 p2=some r->
 Cl 177 #[pt Y5 Y4,iv p1,Q29 a7 c7 p2] w0 (exR r (fun r=>J1 T0 w0 (Q6 a2 a3 a4 a5 a6 b1 oo1 n2 c2 n3 c3 n4 c4 n5 c5 n6 c6 Z7 H1 g pv1 r1 r2 R r.1 r.2)) (fun r=>L0 T0 w0 (Q4 a2 a3 a4 a5 a6 b1 oo1 n2 c2 n3 c3 n4 c4 n5 c5 n6 c6 Z7 H1 g pv1 r1 r2 R r.1.pos r.1.e r.2)))
def Q3c(F:Q0->Y2->Option (Except (Z1×Q0) (Z8×Q0))):Prop:=∀{g:World}{T0:TP}{w0:World}{R:List X4}{p0:Q0}{Y5 Y4:Nat}{Z7:List Value->X4}{b1 oo1}{H1:List Value->X4}{a1 n1 c1 a2 n2 c2 a3 n3 c3 a4 n4 c4 r1 r2 a5 n5 c5 a6 n6 c6 pv1}{p1:Y2}{a7 c7}(hS:Q22 a1 a2 a3 a4 a5 a6 b1 oo1 n1 c1 n2 c2 n3 c3 n4 c4 n5 c5 n6 c6 Z7 H1 T0 g w0 pv1 r1 r2 R p0)(Z2:Ln Y5 Y4 Z7)(hL1:Ln b1 oo1 H1)(h1:Q8 a7 c7 T0 w0 p1.Kids),∀r,F p0 p1=some r->
 Cl 159 #[pt Y5 Y4,Q29 a7 c7 p1] w0 (exR r (fun r=>J1 T0 w0 (Q6 a2 a3 a4 a5 a6 b1 oo1 n2 c2 n3 c3 n4 c4 n5 c5 n6 c6 Z7 H1 g pv1 r1 r2 R r.1 r.2)) (fun r=>L0 T0 w0 (Q4 a2 a3 a4 a5 a6 b1 oo1 n2 c2 n3 c3 n4 c4 n5 c5 n6 c6 Z7 H1 g pv1 r1 r2 R r.1.pos r.1.e r.2)))
def Q3w(F:Q0->Y2->Option (Except (Z1×Q0) (Z8×Q0))):Prop:=∀{g:World}{T0:TP}{w0:World}{R:List X4}{p0:Q0}{Y5 Y4:Nat}{Z7:List Value->X4}{b1 oo1}{H1:List Value->X4}{a1 n1 c1 a2 n2 c2 a3 n3 c3 a4 n4 c4 r1 r2 a5 n5 c5 a6 n6 c6 pv1}{p1:Y2}{a7 c7}(hS:Q22 a1 a2 a3 a4 a5 a6 b1 oo1 n1 c1 n2 c2 n3 c3 n4 c4 n5 c5 n6 c6 Z7 H1 T0 g w0 pv1 r1 r2 R p0)(Z2:Ln Y5 Y4 Z7)(hL1:Ln b1 oo1 H1)(h1:Q8 a7 c7 T0 w0 p1.Kids),∀r,F p0 p1=some r->
 Cl 181 #[pt Y5 Y4,Q29 a7 c7 p1] w0 (exR r (fun r=>J1 T0 w0 (Q6 a2 a3 a4 a5 a6 b1 oo1 n2 c2 n3 c3 n4 c4 n5 c5 n6 c6 Z7 H1 g pv1 r1 r2 R r.1 r.2)) (fun r=>L0 T0 w0 (Q4 a2 a3 a4 a5 a6 b1 oo1 n2 c2 n3 c3 n4 c4 n5 c5 n6 c6 Z7 H1 g pv1 r1 r2 R r.1.pos r.1.e r.2)))
def Q3d(F:Q0->Y2->Option (Except (Z1×Q0) (Z8×Q0))):Prop:=∀{g:World}{T0:TP}{w0:World}{R:List X4}{p0:Q0}{Y5 Y4:Nat}{Z7:List Value->X4}{b1 oo1}{H1:List Value->X4}{a1 n1 c1 a2 n2 c2 a3 n3 c3 a4 n4 c4 r1 r2 a5 n5 c5 a6 n6 c6 pv1}{p1:Y2}{a7 c7}(hS:Q22 a1 a2 a3 a4 a5 a6 b1 oo1 n1 c1 n2 c2 n3 c3 n4 c4 n5 c5 n6 c6 Z7 H1 T0 g w0 pv1 r1 r2 R p0)(Z2:Ln Y5 Y4 Z7)(hL1:Ln b1 oo1 H1)(h1:Q8 a7 c7 T0 w0 p1.Kids),∀r,F p0 p1=some r->
 Cl 160 #[pt Y5 Y4,Q29 a7 c7 p1] w0 (exR r (fun r=>J1 T0 w0 (Q6 a2 a3 a4 a5 a6 b1 oo1 n2 c2 n3 c3 n4 c4 n5 c5 n6 c6 Z7 H1 g pv1 r1 r2 R r.1 r.2)) (fun r=>L0 T0 w0 (Q4 a2 a3 a4 a5 a6 b1 oo1 n2 c2 n3 c3 n4 c4 n5 c5 n6 c6 Z7 H1 g pv1 r1 r2 R r.1.pos r.1.e r.2)))
def Q4r(F:Q0->Y2->Option (Except (Z1×Q0) (Z8×Q0))):Prop:=∀{g:World}{T0:TP}{w0:World}{R:List X4}{p0:Q0}{Y5 Y4:Nat}{Z7:List Value->X4}{b1 oo1}{H1:List Value->X4}{a1 n1 c1 a2 n2 c2 a3 n3 c3 a4 n4 c4 r1 r2 a5 n5 c5 a6 n6 c6 pv1}{p1:Y2}{a7 c7}(hS:Q22 a1 a2 a3 a4 a5 a6 b1 oo1 n1 c1 n2 c2 n3 c3 n4 c4 n5 c5 n6 c6 Z7 H1 T0 g w0 pv1 r1 r2 R p0)(Z2:Ln Y5 Y4 Z7)(hL1:Ln b1 oo1 H1)(h1:Q8 a7 c7 T0 w0 p1.Kids),∀r,F p0 p1=some r->
 Cl 161 #[pt Y5 Y4,Q29 a7 c7 p1] w0 (exR r (fun r=>J1 T0 w0 (Q6 a2 a3 a4 a5 a6 b1 oo1 n2 c2 n3 c3 n4 c4 n5 c5 n6 c6 Z7 H1 g pv1 r1 r2 R r.1 r.2)) (fun r=>L0 T0 w0 (Q4 a2 a3 a4 a5 a6 b1 oo1 n2 c2 n3 c3 n4 c4 n5 c5 n6 c6 Z7 H1 g pv1 r1 r2 R r.1.pos r.1.e r.2)))
def Q4s(F:Q0->Y2->Option (Except (Z1×Q0) (Z8×Q0))):Prop:=∀{g:World}{T0:TP}{w0:World}{R:List X4}{p0:Q0}{Y5 Y4:Nat}{Z7:List Value->X4}{b1 oo1}{H1:List Value->X4}{a1 n1 c1 a2 n2 c2 a3 n3 c3 a4 n4 c4 r1 r2 a5 n5 c5 a6 n6 c6 pv1}{p1:Y2}{a7 c7}(hS:Q22 a1 a2 a3 a4 a5 a6 b1 oo1 n1 c1 n2 c2 n3 c3 n4 c4 n5 c5 n6 c6 Z7 H1 T0 g w0 pv1 r1 r2 R p0)(Z2:Ln Y5 Y4 Z7)(hL1:Ln b1 oo1 H1)(h1:Q8 a7 c7 T0 w0 p1.Kids),∀r,F p0 p1=some r->
 Cl 162 #[pt Y5 Y4,Q29 a7 c7 p1] w0 (exR r (fun r=>J1 T0 w0 (Q6 a2 a3 a4 a5 a6 b1 oo1 n2 c2 n3 c3 n4 c4 n5 c5 n6 c6 Z7 H1 g pv1 r1 r2 R r.1 r.2)) (fun r=>L0 T0 w0 (Q4 a2 a3 a4 a5 a6 b1 oo1 n2 c2 n3 c3 n4 c4 n5 c5 n6 c6 Z7 H1 g pv1 r1 r2 R r.1.pos r.1.e r.2)))
def Q2z(F:Q0->Y2->Option (Except (Z1×Q0) (Z8×Q0))):Prop:=∀{g:World}{T0:TP}{w0:World}{R:List X4}{p0:Q0}{Y5 Y4:Nat}{Z7:List Value->X4}{b1 oo1}{H1:List Value->X4}{a1 n1 c1 a2 n2 c2 a3 n3 c3 a4 n4 c4 r1 r2 a5 n5 c5 a6 n6 c6 pv1}{p1:Y2}{a7 c7}(hS:Q22 a1 a2 a3 a4 a5 a6 b1 oo1 n1 c1 n2 c2 n3 c3 n4 c4 n5 c5 n6 c6 Z7 H1 T0 g w0 pv1 r1 r2 R p0)(Z2:Ln Y5 Y4 Z7)(hL1:Ln b1 oo1 H1)(h1:Q8 a7 c7 T0 w0 p1.Kids),∀r,F p0 p1=some r->
 Cl 166 #[pt Y5 Y4,Q29 a7 c7 p1] w0 (exR r (fun r=>J1 T0 w0 (Q6 a2 a3 a4 a5 a6 b1 oo1 n2 c2 n3 c3 n4 c4 n5 c5 n6 c6 Z7 H1 g pv1 r1 r2 R r.1 r.2)) (fun r=>L0 T0 w0 (Q4 a2 a3 a4 a5 a6 b1 oo1 n2 c2 n3 c3 n4 c4 n5 c5 n6 c6 Z7 H1 g pv1 r1 r2 R r.1.pos r.1.e r.2)))
def Q4p(F:Q0->Y2->Option (Except (Z1×Q0) (Z8×Q0))):Prop:=∀{g:World}{T0:TP}{w0:World}{R:List X4}{p0:Q0}{Y5 Y4:Nat}{Z7:List Value->X4}{b1 oo1}{H1:List Value->X4}{a1 n1 c1 a2 n2 c2 a3 n3 c3 a4 n4 c4 r1 r2 a5 n5 c5 a6 n6 c6 pv1}{p1:Y2}{a7 c7}(hS:Q22 a1 a2 a3 a4 a5 a6 b1 oo1 n1 c1 n2 c2 n3 c3 n4 c4 n5 c5 n6 c6 Z7 H1 T0 g w0 pv1 r1 r2 R p0)(Z2:Ln Y5 Y4 Z7)(hL1:Ln b1 oo1 H1)(h1:Q8 a7 c7 T0 w0 p1.Kids),∀r,F p0 p1=some r->
 Cl 167 #[pt Y5 Y4,Q29 a7 c7 p1] w0 (exR r (fun r=>J1 T0 w0 (Q6 a2 a3 a4 a5 a6 b1 oo1 n2 c2 n3 c3 n4 c4 n5 c5 n6 c6 Z7 H1 g pv1 r1 r2 R r.1 r.2)) (fun r=>L0 T0 w0 (Q4 a2 a3 a4 a5 a6 b1 oo1 n2 c2 n3 c3 n4 c4 n5 c5 n6 c6 Z7 H1 g pv1 r1 r2 R r.1.pos r.1.e r.2)))
def Q4q(F:Q0->Y2->Option (Except (Z1×Q0) (Z8×Q0))):Prop:=∀{g:World}{T0:TP}{w0:World}{R:List X4}{p0:Q0}{Y5 Y4:Nat}{Z7:List Value->X4}{b1 oo1}{H1:List Value->X4}{a1 n1 c1 a2 n2 c2 a3 n3 c3 a4 n4 c4 r1 r2 a5 n5 c5 a6 n6 c6 pv1}{p1:Y2}{a7 c7}(hS:Q22 a1 a2 a3 a4 a5 a6 b1 oo1 n1 c1 n2 c2 n3 c3 n4 c4 n5 c5 n6 c6 Z7 H1 T0 g w0 pv1 r1 r2 R p0)(Z2:Ln Y5 Y4 Z7)(hL1:Ln b1 oo1 H1)(h1:Q8 a7 c7 T0 w0 p1.Kids),∀r,F p0 p1=some r->
 Cl 140 #[pt Y5 Y4,Q29 a7 c7 p1] w0 (exR r (fun r=>J1 T0 w0 (Q6 a2 a3 a4 a5 a6 b1 oo1 n2 c2 n3 c3 n4 c4 n5 c5 n6 c6 Z7 H1 g pv1 r1 r2 R r.1 r.2)) (fun r=>L0 T0 w0 (Q4 a2 a3 a4 a5 a6 b1 oo1 n2 c2 n3 c3 n4 c4 n5 c5 n6 c6 Z7 H1 g pv1 r1 r2 R r.1.pos r.1.e r.2)))
def Q3t(F:Q0->Y2->Option (Except (Z1×Q0) (Z8×Q0))):Prop:=∀{g:World}{T0:TP}{w0:World}{R:List X4}{p0:Q0}{Y5 Y4:Nat}{Z7:List Value->X4}{b1 oo1}{H1:List Value->X4}{a1 n1 c1 a2 n2 c2 a3 n3 c3 a4 n4 c4 r1 r2 a5 n5 c5 a6 n6 c6 pv1}{p1:Y2}{a7 c7}(hS:Q22 a1 a2 a3 a4 a5 a6 b1 oo1 n1 c1 n2 c2 n3 c3 n4 c4 n5 c5 n6 c6 Z7 H1 T0 g w0 pv1 r1 r2 R p0)(Z2:Ln Y5 Y4 Z7)(hL1:Ln b1 oo1 H1)(h1:Q8 a7 c7 T0 w0 p1.Kids),∀r,F p0 p1=some r->
 Cl 105 #[pt Y5 Y4,Q29 a7 c7 p1] w0 (exR r (fun r=>J1 T0 w0 (Q6 a2 a3 a4 a5 a6 b1 oo1 n2 c2 n3 c3 n4 c4 n5 c5 n6 c6 Z7 H1 g pv1 r1 r2 R r.1 r.2)) (fun r=>L0 T0 w0 (Q4 a2 a3 a4 a5 a6 b1 oo1 n2 c2 n3 c3 n4 c4 n5 c5 n6 c6 Z7 H1 g pv1 r1 r2 R r.1.pos r.1.e r.2)))
structure Sp3(G:Z0x):Prop where
 V5:Q3y G.V5
 V2:Q2y G.V2
 E8:Q3u G.E8
 G4:Q4t G.G4
 F5:Q3c G.F5
 F1:Q3w G.F1
 F6:Q3d G.F6
 B6:Q4r G.B6
 B7:Q4s G.B7
 F4:Q2z G.F4
 B4:Q4p G.B4
 U0:Q4q G.U0
 Z3:Q3t G.Z3
theorem Z5y{G:Z0x}(hG:Sp3 G):Q3y (H9 G):=by
 intro g _ _ R _ Y5 Y4 Z7 _ _ H1 a1 _ c1 _ _ c2 _ _ c3 _ _ c4 _ _ _ _ c5 _ _ c6 _ _ _ c7 hS Z2 hL1 h1 r hm;refine eN Tryz.func172 Tryz.ntmps172 fun J=>?_;unfold H9 at hm;have D:Ctr Tryz.prog 105 (type_of%@hG.Z3):=⟨@hG.Z3,I0⟩;exact zr hm hS
theorem Z4t{G:Z0x}(hG:Sp3 G):Q2y (A0 G):=by
 intro g _ _ R _ Y5 Y4 Z7 _ _ H1 a1 _ c1 _ _ c2 _ _ c3 _ _ c4 _ _ _ _ c5 _ _ c6 _ _ _ c7 hS Z2 hL1 h1 r hm;refine eN Tryz.func165 Tryz.ntmps165 fun J=>?_;unfold A0 at hm;have D:Ctr Tryz.prog 105 (type_of%@hG.Z3):=⟨@hG.Z3,I0⟩;exact zr hm hS
theorem Z5u{G:Z0x}(hG:Sp3 G):Q3u (H6 G):=by
 intro g T0 _ R p0 Y5 Y4 Z7 b1 ag H1 a1 n1 c1 a2 n2 c2 a3 n3 c3 a4 n4 c4 r1 r2 a5 n5 c5 a6 n6 c6 U p1 a7 c7 hS Z2 hL1 h1 r hm;refine eN Tryz.func158 Tryz.ntmps158 fun J=>?_;unfold H6 at hm;refine sq2 (bX (D6 p1 a7 c7) hS ?_);intro _ V _ aM;refine aL zv1 aM ?_;intro _ D _ ay;refine pn ?_;refine sq2 ?_;obtain⟨u1,aN,hm⟩:=Z9 hm;obtain⟨cs1,aP,_,hT1⟩:=ixS ay aN h1;obtain⟨a8,c8,rfl,h2⟩:=G7 aP;refine aL zv2 ay ?_;intro _ E _ aQ;refine sT 0 aQ ?_;intro w4 _ O;refine kD ?_;refine S9 hm (fun aA a w5=>∃T1 W,JR (nf 93) g T0 w4 a w5 T1 (aA W=some r) [(0,pt Y5 Y4),(4,pt D 0),(5,pt E 0),(6,iv W)] ([Q21 a8 E c8 u1,K4 D zv1,X3 R]++(Q2 a1 a2 a3 a4 a5 a6 b1 ag n1 c1 n2 c2 n3 c3 n4 c4 n5 c5 n6 c6 Z7 H1 U r1 r2 p0))) (fun aA hm=>?_) ?_
 . refine qN ?_;refine blk (sq2 (cd hm ?_ ?_))<;>intro bm hm
   . refine qU ?_;refine cP Y6i hm (hG.U0 (O.bE (Z4 0 4) (Z4 4 11)) Z2 hL1 (mC h2)) ?_ ?_
     . exact zk
     rintro I _ T2 _ _ ⟨a9,c9,aU,n7,c10,rfl,aW,_,_⟩ hm;refine aL zv1 aW ?_;intro _ b6 _ aX;refine sT 0 aX ?_;intro w8 _ aZ;refine kE ?_;refine S9 hm (fun aD a w9=>∃T3 b7 K ae c11,JR (nf 93) g T2 w8 a w9 T3 (aD K=some r) [(0,pt Y5 Y4),(3,pt V 0),(4,pt D 0),(5,pt E 0),(7,pt b6 0),(8,pt b7 0)] ([Q32 a9 b6 c9 I.1,Q21 a8 E c8 u1,K4 D zv1,Q21 a7 V c7 p1,X3 R]++(X7 I.2 Z7 H1 b1 ag aU n7 c10 a2 n2 c2 a3 n3 c3 a4 n4 c4 r1 r2 a5 n5 c5 a6 n6 c6 U++[Q14 U I.2,K4 b7 (Y4u K ae c11)]))/\Q43 ae c11 T3 w9 K.Fields) (fun aD hm=>?_) ?_
     . refine rtS [0,0,0,1,0,1,2,0,0,0,2,2,0] [0,1,2,3,4,5,6,7,8,9,10,11,12] aZ fun bn bo ba=>?_;have dd:KD [(6,[3,5]),(10,[]),(11,[3,5,6,10])]:=⟨qZt⟩;exact zr hm ba
     rintro _ w9 ⟨T3,b7,K,ae,c11,⟨J,hm,rfl,aE,_⟩,_⟩;refine qU ?_;refine fkN (d:=41) (c:=((!I.1.lies)||(K.Kind==4))) 4 [(0,pt Y5 Y4),(3,pt V 0),(4,pt D 0),(5,pt E 0),(7,pt b6 0)] rfl (fun hk=>zw (!I.1.lies) hk) fun J=>?_;refine cd hm ?_ ?_<;>intro bp hm
     . exact zr hm aE
     refine kE ?_;refine Q9y [0,0,1,0,1,2,0,1,0,2] [0,1,2,3,4,6,7,5,8,9] aE (U5 (Q0a (U5 (C7)))) fun bq bt bf=>?_;have dd:KD [(5,[2,4]),(9,[2,4,5,7])]:=⟨qZt⟩;exact zr hm bf
   refine sq2 (cd hm ?_ ?_)<;>intro bu hm
   . have bv:Ctr Tryz.prog 105 (type_of%@hG.Z3):=⟨@hG.Z3,I0⟩;exact zr hm O
   refine sq2 (cd hm ?_ ?_)<;>intro bw hm
   . refine qU ?_;refine cP Y2o hm (hG.V5 (O.bE [1,3] (Z4 4 11)) Z2 hL1 (mC h2)) ?_ ?_
     . exact zk
     rintro y8 _ _ _ _ ⟨bg,c19,_,_,c20,rfl,bh,_,_⟩ hm;have bi:HL 1 X9 ([y8.1]:List Y1) [(U4 y8.1 bg c19)]:=⟨qZt⟩;exact zr hm bh
   exact zr hm O
 rintro _ w5 ⟨T1,W,J,hm,rfl,bj,_⟩;refine qU ?_;refine cP Y6h hm (hG.V2 (bj.bE [1,2] (Z4 3 11)) Z2 hL1 (mC h2)) ?_ ?_
 . exact zk
 rintro y9 _ _ _ _ ⟨bk,c23,_,_,c24,rfl,bl,_,_⟩ hm;have bi:HL 1 X9 ([y9.1]:List Y1) [(U4 y9.1 bk c23)]:=⟨qZt⟩;exact zr hm bl
theorem Z6v{G:Z0x}(hG:Sp3 G):Q4t (L9 G):=by
 intro g _ _ R _ Y5 Y4 Z7 _ _ H1 a1 _ c1 _ _ c2 _ _ c3 _ _ c4 _ _ _ _ c5 _ _ c6 _ _ W a7 c7 hS Z2 hL1 h1 r hm;refine eN Tryz.func177 Tryz.ntmps177 fun J=>?_;unfold L9 at hm;refine sq2 (bX (D6 W a7 c7) hS ?_);intro _ _ _ ab;refine aL zv1 ab ?_;intro _ _ _ O;refine pn ?_;refine sq2 ?_;obtain⟨u1,ac,hm⟩:=Z9 hm;obtain⟨cs1,ad,_,hT1⟩:=ixS O ac h1;obtain⟨_,c8,rfl,h2⟩:=G7 ad;refine pu ?_;refine cP Y2o hm (hG.V5 (O.bE [0,1,2] (Z4 3 11)) Z2 hL1 h2) ?_ ?_
 . exact zk
 rintro D _ _ _ _ ⟨I,c9,_,_,c10,rfl,ae,_,_⟩ hm;refine aL zv3 ae ?_;intro _ _ _ af;refine sT 0 af ?_;intro _ _ ag;refine kE ?_;refine Q9y [0,1,0,0,1,0,1,2,2,0,0,2] [0,1,2,3,4,5,6,7,8,9,10,11] ag (U5 (C7)) fun w6 aq K=>?_;obtain⟨u2,ai,hm⟩:=Z9 hm;obtain⟨cs2,aj,_,hT2⟩:=ixS K ai h1;obtain⟨_,c11,rfl,U⟩:=G7 aj;refine pu ?_;obtain⟨E,V,hm⟩:=Z9 hm
 rcases E with e1|E
 . have hm:=J4 hm;refine s2 [(1,.agg (U4 D.1 I c9).toArray)] rfl qZt rfl (by kernel_rfl) (Q8x Y2o rfl (hG.V5 (p0:=D.2) (p1:=u2) (K.bE [1,3,2,0] (Z4 4 11)) Z2 hL1 U _ V) rfl fun v3 T4 aw ax ak=>?_);obtain⟨_,_,c15,rfl,am,_⟩:=ak;exact pe hm (am.sE ([1]++Z4 4 11))
 have hm:=C4 hm;refine sS [(1,.agg (U4 D.1 I c9).toArray)] Y2o (hG.V5 (K.bE [1,3,2,0] (Z4 4 11)) Z2 hL1 U _ V) ?_;rintro _ _ _ _ ⟨an,c12,_,_,c13,rfl,ao,_,_⟩;have ay:HL 1 X9 ([D.1,E.1]:List Y1) [(U4 D.1 I c9),(U4 E.1 an c12)]:=⟨qZt⟩;have dd:KD [(7,[4,6]),(8,[1,4,6,7]),(11,[1,4,6,7,8])]:=⟨qZt⟩;exact zr hm ao
end Go.Proofs.YtfffghclkmbopaaGreat
