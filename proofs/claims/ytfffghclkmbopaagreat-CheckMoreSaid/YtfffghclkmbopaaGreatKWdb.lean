/- That Go functions compute their models. Printed by gen2.py. -/
import Derived.Test.YtfffghclkmbopaaGreatKWd
set_option linter.unusedVariables false
namespace Go.Proofs.YtfffghclkmbopaaGreat
open _root_.Go.Proofs.Tryz
set_option maxRecDepth 100000
set_option maxHeartbeats 8000000
attribute [local irreducible] wpList wpQuiet Code.wp
variable{g:World}{T0:Nat->Prop}{w0:World}{R:List X4}
variable{b1 b2 Y5 Q1c Z6c Z6b Z6x c1 c2 c3 c4 c5 c6 c7 c8 c9 c10 c11 c12 c13 n1 n2 n3 n4 n5 n6 n7 Y4 Q1b Z5m Z5l Z6p oo1 oo2:Nat}{H1 H2 Z7 R6 Z3o Z3n Z6f:List Value->X4}{a1 a2 a3 a4 a5 a6 a7 a8 a9 a10 a11 a12 a13:OA}{r1 r2:Option Nat}{pv1:Value}
attribute [local irreducible] A7 Q0r execOp Program.underlying sizeOf isAgg zeroValue

theorem Z5v{G:Z0x}(hG:Sp3 G):Q3w (H7 G):=by
 intro g _ _ R _ Y5 Y4 Z7 _ _ H1 a1 _ c1 _ _ c2 _ _ c3 _ _ c4 _ _ _ _ c5 _ _ c6 _ D E c7 hS Z2 hL1 h1 r hm;refine eN Tryz.func181 Tryz.ntmps181 fun J=>?_;unfold H7 at hm;refine sq2 (bX (D6 D E c7) hS ?_);intro _ _ _ I;refine aL zv1 I ?_;intro _ _ _ K;refine kA ?_;refine cP Y6i hm (hG.U0 (K.bE [0,1,2] (Z4 3 11)) Z2 hL1 (mC h1)) ?_ ?_
 . exact zk
 rintro _ _ _ _ _ ⟨_,c8,_,_,c9,rfl,O,h2,_⟩ hm;refine aL zv1 O ?_;intro _ _ _ U;refine sT 0 U ?_;intro _ _ V;refine kE ?_;refine sq2 (rsS [0,1,0,0,0,0,0,1,0,1,2,0,0] [0,1,2,3,4,5,6,7,8,9,10,11,12] V fun w6 ab W=>?_);have dd:KD [(10,[1,7,9])]:=⟨qZt⟩;exact zr hm W
end Go.Proofs.YtfffghclkmbopaaGreat
