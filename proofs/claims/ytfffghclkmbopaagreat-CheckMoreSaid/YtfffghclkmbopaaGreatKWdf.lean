/- That Go functions compute their models. Printed by gen2.py. -/
import Derived.Test.YtfffghclkmbopaaGreatKWd
set_option linter.unusedVariables false
namespace Go.Proofs.YtfffghclkmbopaaGreat
open _root_.Go.Proofs.Tryz
set_option maxRecDepth 100000
set_option maxHeartbeats 8000000
attribute [local irreducible] wpList wpQuiet Code.wp
variable{g:World}{T0:Nat->Prop}{w0:World}{R:List X4}
variable{b1 b2 Y5 Q1c Z6c Z6b Z6x c1 c2 c3 c4 c5 c6 c7 c8 c9 c10 c11 c12 c13 n1 n2 n3 n4 n5 n6 n7 Y4 Q1b Z5m Z5l Z6p oo1 oo2:Nat}{H1 H2 Z7 R6 Z3o Z3n Z6f:List Value->X4}{a1 a2 a3 a4 a5 a6 a7 a8 a9 a10 a11 a12 a13:OA}{r1 r2:Option Nat}{pv1:Value}
attribute [local irreducible] A7 Q0r execOp Program.underlying sizeOf isAgg zeroValue

theorem Z4x{G:Z0x}(hG:Sp3 G):Q3c (A4 G):=by
 intro g T0 _ R p0 Y5 Y4 Z7 b1 b7 H1 a1 n1 c1 a2 n2 c2 a3 n3 c3 a4 n4 c4 r1 r2 a5 n5 c5 a6 n6 c6 bl p1 a7 c7 hS Z2 hL1 h1 r hm;refine eN Tryz.func159 Tryz.ntmps159 fun J=>?_;unfold A4 at hm;refine sq2 (bX (D6 p1 a7 c7) hS ?_);intro _ b2 _ cK;refine aL zv1 cK ?_;intro w2 b3 _ bR;refine kC ?_;refine blk (sq2 (cd hm ?_ ?_))<;>intro dp hm
 . have cM:Ctr Tryz.prog 177 (type_of%@hG.G4):=⟨@hG.G4,cf177⟩;exact zr hm bR
 refine sq2 (cd hm ?_ ?_)<;>intro dq hm
 . have cM:Ctr Tryz.prog 177 (type_of%@hG.G4):=⟨@hG.G4,cf177⟩;exact zr hm bR
 refine pn ?_;refine S9 hm (fun cr a w9=>∃T5 b4 x1 bm c14 b5 x2 bn c15,JR (nf 132) g T0 w2 a w9 T5 (cr x1 x2=some r) (Q60 Y5 Y4 b2 b3 b4 b5) ((Q72 a7 b3 b2 c7 R p1)++(X7 p0 Z7 H1 b1 b7 a1 n1 c1 a2 n2 c2 a3 n3 c3 a4 n4 c4 r1 r2 a5 n5 c5 a6 n6 c6 bl++[Q14 bl p0,Q21 bm b4 c14 x1,Q21 bn b5 c15 x2]))/\Q8 bm c14 T5 w9 x1.Kids/\Q8 bn c15 T5 w9 x2.Kids) (fun cr hm=>?_) ?_
 . refine rtS [0,1,0,1,0,1,0,1,2,2,2,2] [0,1,2,3,4,5,6,7,8,9,10,11] bR fun dr ds bo=>?_;obtain⟨_,cO,hm⟩:=Z9 hm;obtain⟨cs1,cQ,_,hT1⟩:=ixS bo cO h1;obtain⟨_,c16,rfl,_⟩:=G7 cQ;obtain⟨_,cR,hm⟩:=Z9 hm;obtain⟨cs2,cT,_,hT2⟩:=ixS bo cR h1;obtain⟨_,c17,rfl,_⟩:=G7 cT;refine tF [8,9] ?_;refine⟨?_,?_,qZt⟩
   . refine brW [9,10,11] [] ?_;refine oaL zv2 bo ?_;intro cU b8 cW bT;refine t1W [9] [10,11] [] ?_;refine oaL zv2 bT ?_;intro cX b9 cZ bU;refine t1W [10] [11] [1,1,0,0] ?_;refine osT 1 bU ?_;intro da db bV;refine t1W [11] [] [0,0] ?_;refine osT 0 bV ?_;intro dc dd bW;refine pu ?_;exact je hm (bW.sE (Z4 2 14++[1,0]))
   refine brW [8,10,11] [] ?_;refine oaL zv2 bo ?_;intro cU b8 cW bT;refine t1W [8] [10,11] [] ?_;refine oaL zv2 bT ?_;intro cX b9 cZ bU;refine t1W [10] [11] [1,1,0,0] ?_;refine osT 0 bU ?_;intro da db bV;refine t1W [11] [] [0,0] ?_;refine osT 1 bV ?_;intro dc dd bW;refine pu ?_;exact je hm (bW.sE (Z4 2 14++[0,1]))
 rintro _ w9 ⟨T5,b4,x1,bm,c14,b5,x2,bn,c15,⟨J,hm,rfl,de,_⟩,h4,U⟩;refine S9 hm (fun ct a bp=>∃T6 bt ba cu cv c18 aJ ai bu c19 aK aE bv c20,JR (nf 132) g T5 w9 a bp T6 (ct ba bt ai aE=some r) [(0,pt Y5 Y4),(3,pt b2 0),(4,pt b3 0),(5,pt b4 0),(6,pt b5 0),(7,pt aJ 0),(8,pt aK 0)] ((Q72 a7 b3 b2 c7 R p1)++(X7 ({ba with t:=bt}) Z7 H1 b1 b7 cu cv c18 a2 n2 c2 a3 n3 c3 a4 n4 c4 r1 r2 a5 n5 c5 a6 n6 c6 bl++[Q14 bl ba,Q21 bm b4 c14 x1,Q21 bn b5 c15 x2,Q32 bu aJ c19 ai,Q32 bv aK c20 aE]))/\Q54 bu c19 T6 bp ai/\Q54 bv c20 T6 bp aE) (fun ct hm=>?_) ?_
 . refine rtPS [0,1,2,0,1,2,2,2,2,2] [0,1,3,4,2,5,6,7,8,9] de (U5 (C7)) fun du dv aF=>pu ?_;obtain⟨y3,ac,hm⟩:=Z9 hm
   rcases y3 with e3|y3
   . have hm:=J4 hm;refine tF [2,6,7] ?_;refine⟨?_,?_,?_,qZt⟩
     . refine brW [5,6,7,8,9] [1,0] ?_;refine oP I0 (hG.Z3 (aF.bE [0,1,2,14,15] (Z4 3 11)) Z2 hL1 (mC h4) _ ac) ?_;rintro _ bw aM aN ⟨bz,bA,bC,rfl,aa,_⟩;exact pe hm (aa.sE ([2]++Z4 5 11))
     . refine brW [2,5,7,8,9] [] ?_;refine oaL zv1 aF ?_;intro be aP bf ae;refine tF [2,7] ?_;refine⟨?_,?_,qZt⟩
       . refine brW [5,7,8,9] [1,0] ?_;refine oP I0 (hG.Z3 (ae.bE [0,1,2,3,15,16] (Z4 4 11)) Z2 hL1 (mC h4) _ ac) ?_;rintro _ bw cx cy ⟨bz,bA,bC,rfl,bg,_⟩;exact pe hm (bg.sE ([3]++Z4 6 11))
       refine brW [2,5,8,9] [] ?_;refine oaL zv1 ae ?_;intro aM aQ aN aa;refine t1W [2] [5,8,9] [1,0] ?_;refine oP I0 (hG.Z3 (aa.bE (Z4 0 5++[16,17]) (Z4 5 11)) Z2 hL1 (mC h4) _ ac) ?_;rintro _ bw cz cA ⟨bz,bA,bC,rfl,bh,_⟩;exact pe hm (bh.sE ([4]++Z4 7 11))
     refine brW [2,5,6,8,9] [] ?_;refine oaL zv1 aF ?_;intro be aP bf ae;refine tF [2,6] ?_;refine⟨?_,?_,qZt⟩
     . refine brW [5,6,8,9] [1,0] ?_;refine oP I0 (hG.Z3 (ae.bE [0,1,2,3,15,16] (Z4 4 11)) Z2 hL1 (mC h4) _ ac) ?_;rintro _ bw cx cy ⟨bz,bA,bC,rfl,bg,_⟩;exact pe hm (bg.sE ([3]++Z4 6 11))
     refine brW [2,5,8,9] [] ?_;refine oaL zv1 ae ?_;intro aM aQ aN aa;refine t1W [2] [5,8,9] [1,0] ?_;refine oP I0 (hG.Z3 (aa.bE (Z4 0 5++[16,17]) (Z4 5 11)) Z2 hL1 (mC h4) _ ac) ?_;rintro _ bw cz cA ⟨bz,bA,bC,rfl,bh,_⟩;exact pe hm (bh.sE ([4]++Z4 7 11))
   have hm:=C4 hm;obtain⟨y4,V,hm⟩:=Z9 hm
   rcases y4 with e4|y4
   . have hm:=J4 hm;refine tF [2,6,7] ?_;refine⟨?_,?_,?_,qZt⟩
     . refine brW [5,6,7,8,9] [1,0] ?_;refine oS I0 (hG.Z3 (aF.bE [0,1,2,14,15] (Z4 3 11)) Z2 hL1 (mC h4) _ ac) ?_;rintro _ T9 cD cE ⟨bF,c25,bG,bI,c26,rfl,aG,bJ,_⟩;refine tF [5,6,7] ?_;refine⟨?_,?_,?_,qZt⟩
       . refine brW [6,7,8,9] [0] ?_;refine oP I0 (hG.Z3 (aG.bE (Z4 0 5) (Z4 5 11)) Z2 hL1 (mC U) _ V) ?_;rintro _ aw aT aU ⟨ax,ay,c29,rfl,af,_⟩;exact pe hm (af.sE ([2]++Z4 5 11))
       . refine brW [5,7,8,9] [] ?_;refine oaL zv1 aG ?_;intro bi aP bj ad;refine tF [5,7] ?_;refine⟨?_,?_,qZt⟩
         . refine brW [7,8,9] [0] ?_;refine oP I0 (hG.Z3 (ad.bE (Z4 0 6) (Z4 6 11)) Z2 hL1 (mC U) _ V) ?_;rintro _ aw be bf ⟨ax,ay,c29,rfl,ae,_⟩;exact pe hm (ae.sE ([3]++Z4 6 11))
         refine brW [5,8,9] [] ?_;refine oaL zv1 ad ?_;intro aT aQ aU af;refine t1W [5] [8,9] [0] ?_;refine oP I0 (hG.Z3 (af.bE (Z4 0 7) (Z4 7 11)) Z2 hL1 (mC U) _ V) ?_;rintro _ aw aM aN ⟨ax,ay,c29,rfl,aa,_⟩;exact pe hm (aa.sE ([4]++Z4 7 11))
       refine brW [5,6,8,9] [] ?_;refine oaL zv1 aG ?_;intro bi aP bj ad;refine tF [5,6] ?_;refine⟨?_,?_,qZt⟩
       . refine brW [6,8,9] [0] ?_;refine oP I0 (hG.Z3 (ad.bE (Z4 0 6) (Z4 6 11)) Z2 hL1 (mC U) _ V) ?_;rintro _ aw be bf ⟨ax,ay,c29,rfl,ae,_⟩;exact pe hm (ae.sE ([3]++Z4 6 11))
       refine brW [5,8,9] [] ?_;refine oaL zv1 ad ?_;intro aT aQ aU af;refine t1W [5] [8,9] [0] ?_;refine oP I0 (hG.Z3 (af.bE (Z4 0 7) (Z4 7 11)) Z2 hL1 (mC U) _ V) ?_;rintro _ aw aM aN ⟨ax,ay,c29,rfl,aa,_⟩;exact pe hm (aa.sE ([4]++Z4 7 11))
     . refine brW [2,5,7,8,9] [] ?_;refine oaL zv1 aF ?_;intro cD aP cE aG;refine tF [2,7] ?_;refine⟨?_,?_,qZt⟩
       . refine brW [5,7,8,9] [1,0] ?_;refine oS I0 (hG.Z3 (aG.bE [0,1,2,3,15,16] (Z4 4 11)) Z2 hL1 (mC h4) _ ac) ?_;rintro _ T9 bi bj ⟨bF,c25,bG,bI,c26,rfl,ad,bJ,_⟩;refine tF [5,7] ?_;refine⟨?_,?_,qZt⟩
         . refine brW [7,8,9] [0] ?_;refine oP I0 (hG.Z3 (ad.bE (Z4 0 6) (Z4 6 11)) Z2 hL1 (mC U) _ V) ?_;rintro _ aw be bf ⟨ax,ay,c29,rfl,ae,_⟩;exact pe hm (ae.sE ([3]++Z4 6 11))
         refine brW [5,8,9] [] ?_;refine oaL zv1 ad ?_;intro aT aQ aU af;refine t1W [5] [8,9] [0] ?_;refine oP I0 (hG.Z3 (af.bE (Z4 0 7) (Z4 7 11)) Z2 hL1 (mC U) _ V) ?_;rintro _ aw aM aN ⟨ax,ay,c29,rfl,aa,_⟩;exact pe hm (aa.sE ([4]++Z4 7 11))
       refine brW [2,5,8,9] [] ?_;refine oaL zv1 aG ?_;intro bi aQ bj ad;refine t1W [2] [5,8,9] [1,0] ?_;refine oS I0 (hG.Z3 (ad.bE (Z4 0 5++[16,17]) (Z4 5 11)) Z2 hL1 (mC h4) _ ac) ?_;rintro _ T9 aT aU ⟨bF,c25,bG,bI,c26,rfl,af,bJ,_⟩;refine t1W [5] [8,9] [0] ?_;refine oP I0 (hG.Z3 (af.bE (Z4 0 7) (Z4 7 11)) Z2 hL1 (mC U) _ V) ?_;rintro _ aw aM aN ⟨ax,ay,c29,rfl,aa,_⟩;exact pe hm (aa.sE ([4]++Z4 7 11))
     refine brW [2,5,6,8,9] [] ?_;refine oaL zv1 aF ?_;intro cD aP cE aG;refine tF [2,6] ?_;refine⟨?_,?_,qZt⟩
     . refine brW [5,6,8,9] [1,0] ?_;refine oS I0 (hG.Z3 (aG.bE [0,1,2,3,15,16] (Z4 4 11)) Z2 hL1 (mC h4) _ ac) ?_;rintro _ T9 bi bj ⟨bF,c25,bG,bI,c26,rfl,ad,bJ,_⟩;refine tF [5,6] ?_;refine⟨?_,?_,qZt⟩
       . refine brW [6,8,9] [0] ?_;refine oP I0 (hG.Z3 (ad.bE (Z4 0 6) (Z4 6 11)) Z2 hL1 (mC U) _ V) ?_;rintro _ aw be bf ⟨ax,ay,c29,rfl,ae,_⟩;exact pe hm (ae.sE ([3]++Z4 6 11))
       refine brW [5,8,9] [] ?_;refine oaL zv1 ad ?_;intro aT aQ aU af;refine t1W [5] [8,9] [0] ?_;refine oP I0 (hG.Z3 (af.bE (Z4 0 7) (Z4 7 11)) Z2 hL1 (mC U) _ V) ?_;rintro _ aw aM aN ⟨ax,ay,c29,rfl,aa,_⟩;exact pe hm (aa.sE ([4]++Z4 7 11))
     refine brW [2,5,8,9] [] ?_;refine oaL zv1 aG ?_;intro bi aQ bj ad;refine t1W [2] [5,8,9] [1,0] ?_;refine oS I0 (hG.Z3 (ad.bE (Z4 0 5++[16,17]) (Z4 5 11)) Z2 hL1 (mC h4) _ ac) ?_;rintro _ T9 aT aU ⟨bF,c25,bG,bI,c26,rfl,af,bJ,_⟩;refine t1W [5] [8,9] [0] ?_;refine oP I0 (hG.Z3 (af.bE (Z4 0 7) (Z4 7 11)) Z2 hL1 (mC U) _ V) ?_;rintro _ aw aM aN ⟨ax,ay,c29,rfl,aa,_⟩;exact pe hm (aa.sE ([4]++Z4 7 11))
   have hm:=C4 hm;refine tF [2,6,7] ?_;refine⟨?_,?_,?_,qZt⟩
   . refine brW [5,6,7,8,9] [1,0] ?_;refine oS I0 (hG.Z3 (aF.bE [0,1,2,14,15] (Z4 3 11)) Z2 hL1 (mC h4) _ ac) ?_;rintro _ T7 cF cG ⟨bL,c21,bM,bN,c22,rfl,aI,bO,_⟩;refine tF [5,6,7] ?_;refine⟨?_,?_,?_,qZt⟩
     . refine brW [6,7,8,9] [0] ?_;refine oS I0 (hG.Z3 (aI.bE (Z4 0 5) (Z4 5 11)) Z2 hL1 (mC U) _ V) ?_;rintro _ T8 aV aW ⟨aA,c23,aB,aC,c24,rfl,W,aD,_⟩;refine tF [6,7] ?_;refine⟨?_,?_,qZt⟩
       . refine brW [7,8,9] [] ?_;refine oaL zv1 W ?_;intro ak bk am D;refine t1W [7] [8,9] [] ?_;refine oaL zv1 D ?_;intro an ao ap E;refine t1W [8] [9] [] ?_;refine osT 1 E ?_;intro aq ar I;refine t1W [9] [] [] ?_;refine osT 0 I ?_;intro au av K;refine pu ?_;exact je hm (K.sE ([2,3,4]++Z4 7 11++[5,6,1,0]))
       refine brW [6,8,9] [] ?_;refine oaL zv1 W ?_;intro ak bk am D;refine t1W [6] [8,9] [] ?_;refine oaL zv1 D ?_;intro an ao ap E;refine t1W [8] [9] [] ?_;refine osT 0 E ?_;intro aq ar I;refine t1W [9] [] [] ?_;refine osT 1 I ?_;intro au av K;refine pu ?_;exact je hm (K.sE ([2,3,4]++Z4 7 11++[5,6,0,1]))
     . refine brW [5,7,8,9] [] ?_;refine oaL zv1 aI ?_;intro aV bk aW W;refine tF [5,7] ?_;refine⟨?_,?_,qZt⟩
       . refine brW [7,8,9] [0] ?_;refine oS I0 (hG.Z3 (W.bE (Z4 0 6) (Z4 6 11)) Z2 hL1 (mC U) _ V) ?_;rintro _ T8 ak am ⟨aA,c23,aB,aC,c24,rfl,D,aD,_⟩;refine t1W [7] [8,9] [] ?_;refine oaL zv1 D ?_;intro an ao ap E;refine t1W [8] [9] [] ?_;refine osT 1 E ?_;intro aq ar I;refine t1W [9] [] [] ?_;refine osT 0 I ?_;intro au av K;refine pu ?_;exact je hm (K.sE ([2,3,4]++Z4 7 11++[5,6,1,0]))
       refine brW [5,8,9] [] ?_;refine oaL zv1 W ?_;intro ak ao am D;refine t1W [5] [8,9] [0] ?_;refine oS I0 (hG.Z3 (D.bE (Z4 0 7) (Z4 7 11)) Z2 hL1 (mC U) _ V) ?_;rintro _ T8 an ap ⟨aA,c23,aB,aC,c24,rfl,E,aD,_⟩;refine t1W [8] [9] [] ?_;refine osT 1 E ?_;intro aq ar I;refine t1W [9] [] [] ?_;refine osT 0 I ?_;intro au av K;refine pu ?_;exact je hm (K.sE ([2,3,4]++Z4 7 11++[5,6,1,0]))
     refine brW [5,6,8,9] [] ?_;refine oaL zv1 aI ?_;intro aV bk aW W;refine tF [5,6] ?_;refine⟨?_,?_,qZt⟩
     . refine brW [6,8,9] [0] ?_;refine oS I0 (hG.Z3 (W.bE (Z4 0 6) (Z4 6 11)) Z2 hL1 (mC U) _ V) ?_;rintro _ T8 ak am ⟨aA,c23,aB,aC,c24,rfl,D,aD,_⟩;refine t1W [6] [8,9] [] ?_;refine oaL zv1 D ?_;intro an ao ap E;refine t1W [8] [9] [] ?_;refine osT 0 E ?_;intro aq ar I;refine t1W [9] [] [] ?_;refine osT 1 I ?_;intro au av K;refine pu ?_;exact je hm (K.sE ([2,3,4]++Z4 7 11++[5,6,0,1]))
     refine brW [5,8,9] [] ?_;refine oaL zv1 W ?_;intro ak ao am D;refine t1W [5] [8,9] [0] ?_;refine oS I0 (hG.Z3 (D.bE (Z4 0 7) (Z4 7 11)) Z2 hL1 (mC U) _ V) ?_;rintro _ T8 an ap ⟨aA,c23,aB,aC,c24,rfl,E,aD,_⟩;refine t1W [8] [9] [] ?_;refine osT 0 E ?_;intro aq ar I;refine t1W [9] [] [] ?_;refine osT 1 I ?_;intro au av K;refine pu ?_;exact je hm (K.sE ([2,3,4]++Z4 7 11++[5,6,0,1]))
   . refine brW [2,5,7,8,9] [] ?_;refine oaL zv1 aF ?_;intro cF bk cG aI;refine tF [2,7] ?_;refine⟨?_,?_,qZt⟩
     . refine brW [5,7,8,9] [1,0] ?_;refine oS I0 (hG.Z3 (aI.bE [0,1,2,3,15,16] (Z4 4 11)) Z2 hL1 (mC h4) _ ac) ?_;rintro _ T7 aV aW ⟨bL,c21,bM,bN,c22,rfl,W,bO,_⟩;refine tF [5,7] ?_;refine⟨?_,?_,qZt⟩
       . refine brW [7,8,9] [0] ?_;refine oS I0 (hG.Z3 (W.bE (Z4 0 6) (Z4 6 11)) Z2 hL1 (mC U) _ V) ?_;rintro _ T8 ak am ⟨aA,c23,aB,aC,c24,rfl,D,aD,_⟩;refine t1W [7] [8,9] [] ?_;refine oaL zv1 D ?_;intro an ao ap E;refine t1W [8] [9] [] ?_;refine osT 1 E ?_;intro aq ar I;refine t1W [9] [] [] ?_;refine osT 0 I ?_;intro au av K;refine pu ?_;exact je hm (K.sE ([2,3,4]++Z4 7 11++[5,6,1,0]))
       refine brW [5,8,9] [] ?_;refine oaL zv1 W ?_;intro ak ao am D;refine t1W [5] [8,9] [0] ?_;refine oS I0 (hG.Z3 (D.bE (Z4 0 7) (Z4 7 11)) Z2 hL1 (mC U) _ V) ?_;rintro _ T8 an ap ⟨aA,c23,aB,aC,c24,rfl,E,aD,_⟩;refine t1W [8] [9] [] ?_;refine osT 1 E ?_;intro aq ar I;refine t1W [9] [] [] ?_;refine osT 0 I ?_;intro au av K;refine pu ?_;exact je hm (K.sE ([2,3,4]++Z4 7 11++[5,6,1,0]))
     refine brW [2,5,8,9] [] ?_;refine oaL zv1 aI ?_;intro aV ao aW W;refine t1W [2] [5,8,9] [1,0] ?_;refine oS I0 (hG.Z3 (W.bE (Z4 0 5++[16,17]) (Z4 5 11)) Z2 hL1 (mC h4) _ ac) ?_;rintro _ T7 ak am ⟨bL,c21,bM,bN,c22,rfl,D,bO,_⟩;refine t1W [5] [8,9] [0] ?_;refine oS I0 (hG.Z3 (D.bE (Z4 0 7) (Z4 7 11)) Z2 hL1 (mC U) _ V) ?_;rintro _ T8 an ap ⟨aA,c23,aB,aC,c24,rfl,E,aD,_⟩;refine t1W [8] [9] [] ?_;refine osT 1 E ?_;intro aq ar I;refine t1W [9] [] [] ?_;refine osT 0 I ?_;intro au av K;refine pu ?_;exact je hm (K.sE ([2,3,4]++Z4 7 11++[5,6,1,0]))
   refine brW [2,5,6,8,9] [] ?_;refine oaL zv1 aF ?_;intro cF bk cG aI;refine tF [2,6] ?_;refine⟨?_,?_,qZt⟩
   . refine brW [5,6,8,9] [1,0] ?_;refine oS I0 (hG.Z3 (aI.bE [0,1,2,3,15,16] (Z4 4 11)) Z2 hL1 (mC h4) _ ac) ?_;rintro _ T7 aV aW ⟨bL,c21,bM,bN,c22,rfl,W,bO,_⟩;refine tF [5,6] ?_;refine⟨?_,?_,qZt⟩
     . refine brW [6,8,9] [0] ?_;refine oS I0 (hG.Z3 (W.bE (Z4 0 6) (Z4 6 11)) Z2 hL1 (mC U) _ V) ?_;rintro _ T8 ak am ⟨aA,c23,aB,aC,c24,rfl,D,aD,_⟩;refine t1W [6] [8,9] [] ?_;refine oaL zv1 D ?_;intro an ao ap E;refine t1W [8] [9] [] ?_;refine osT 0 E ?_;intro aq ar I;refine t1W [9] [] [] ?_;refine osT 1 I ?_;intro au av K;refine pu ?_;exact je hm (K.sE ([2,3,4]++Z4 7 11++[5,6,0,1]))
     refine brW [5,8,9] [] ?_;refine oaL zv1 W ?_;intro ak ao am D;refine t1W [5] [8,9] [0] ?_;refine oS I0 (hG.Z3 (D.bE (Z4 0 7) (Z4 7 11)) Z2 hL1 (mC U) _ V) ?_;rintro _ T8 an ap ⟨aA,c23,aB,aC,c24,rfl,E,aD,_⟩;refine t1W [8] [9] [] ?_;refine osT 0 E ?_;intro aq ar I;refine t1W [9] [] [] ?_;refine osT 1 I ?_;intro au av K;refine pu ?_;exact je hm (K.sE ([2,3,4]++Z4 7 11++[5,6,0,1]))
   refine brW [2,5,8,9] [] ?_;refine oaL zv1 aI ?_;intro aV ao aW W;refine t1W [2] [5,8,9] [1,0] ?_;refine oS I0 (hG.Z3 (W.bE (Z4 0 5++[16,17]) (Z4 5 11)) Z2 hL1 (mC h4) _ ac) ?_;rintro _ T7 ak am ⟨bL,c21,bM,bN,c22,rfl,D,bO,_⟩;refine t1W [5] [8,9] [0] ?_;refine oS I0 (hG.Z3 (D.bE (Z4 0 7) (Z4 7 11)) Z2 hL1 (mC U) _ V) ?_;rintro _ T8 an ap ⟨aA,c23,aB,aC,c24,rfl,E,aD,_⟩;refine t1W [8] [9] [] ?_;refine osT 0 E ?_;intro aq ar I;refine t1W [9] [] [] ?_;refine osT 1 I ?_;intro au av K;refine pu ?_;exact je hm (K.sE ([2,3,4]++Z4 7 11++[5,6,0,1]))
 rintro _ bp ⟨T6,bt,ba,cu,cv,c18,aJ,ai,bu,c19,aK,aE,bv,c20,⟨J,hm,rfl,bg,_⟩,h8,h9⟩;refine qU ?_;refine cB cf178 hm (Q7x (bg.bE (Z4 0 18) [])) ?_;rintro O _ _ cx cy ⟨rfl,bh,_⟩ hm;refine kE ?_;refine bS (r:=X9) (l:=([ai.term,aE.term]:List Y1)) (css:=[(U4 ai.term bu c19),(U4 aE.term bv c20)]) bh ⟨(V9 (x:=ai.term) (mC h8):X9.rp _ _ _ _),(V9 (x:=aE.term) (mC h9):X9.rp _ _ _ _),qZt⟩ ?_;intro cz di dj dk cA dl;refine pv (P3 (by kernel_rfl) rfl (u:= .agg #[iv 6,iv O,.int .u32 0,iv 0,.bool false,iv 0,.bool false,.bool false,.slice di dj dk])) (aL zv3 dl ?_);intro _ aP _ dm;refine sT 0 dm ?_;intro _ _ aX;refine kE ?_;refine blk (qU ?_);refine fkC (d:=55) (c:=((ai.n==1)&&(aE.n==1))) 4 [(0,pt Y5 Y4),(3,pt b2 0),(4,pt b3 0),(5,pt b4 0),(6,pt b5 0),(7,pt aJ 0),(8,pt aK 0),(9,iv O),(10,pt aP 0)] rfl (fun hk=>zw (ai.n==1) hk) fun J=>?_;refine cd hm ?_ ?_<;>intro dy hm
 . exact zr hm aX
 refine qU ?_;refine fkC (d:=64) (c:=((O==11)||(O==12))) 3 [(0,pt Y5 Y4),(3,pt b2 0),(4,pt b3 0),(5,pt b4 0),(6,pt b5 0),(7,pt aJ 0),(8,pt aK 0),(9,iv O)] rfl (fun hk=>zw (O==11) hk) fun J=>?_;refine cd hm ?_ ?_<;>intro dz hm
 . exact zr hm aX
 refine qU ?_;refine fkC (d:=77) (c:=((O==1)&&(ai.n==1))) 4 [(0,pt Y5 Y4),(4,pt b3 0),(5,pt b4 0),(6,pt b5 0),(7,pt aJ 0),(8,pt aK 0),(9,iv O)] rfl (fun hk=>zw (O==1) hk) fun J=>?_;refine cd hm ?_ ?_<;>intro dA hm
 . exact zr hm aX
 refine qU ?_;refine fkC (d:=92) (c:=((O==1)||(O==2))) 3 [(0,pt Y5 Y4),(4,pt b3 0),(5,pt b4 0),(6,pt b5 0),(7,pt aJ 0),(8,pt aK 0),(9,iv O)] rfl (fun hk=>zw (O==1) hk) fun J=>pu ?_;refine fkC (d:=97) (c:=(((O==1)||(O==2))&&(aE.n==1))) 4 [(0,pt Y5 Y4),(4,pt b3 0),(5,pt b4 0),(6,pt b5 0),(7,pt aJ 0),(8,pt aK 0),(9,iv O)] rfl (fun hk=>zw ((O==1)||(O==2)) hk) fun J=>?_;refine cd hm ?_ ?_<;>intro dB hm
 . exact zr hm aX
 refine qU ?_
 rcases bc hm with⟨bY,hm⟩|⟨bY,hm⟩
 . refine pu ?_;refine cB Q1l hm (Y0 (p0:={ba with t:=bt}) (aX.bE [2,4,15,16,17] (Z4 5 10)) Z2 hL1) ?_;rintro y9 _ _ _ _ ⟨rfl,dn,_⟩ hm;refine pu ?_;refine fkC (d:=123) (c:=((!y9)||((O !=1)&&(O !=2)))) 7 [(4,pt b3 0),(5,pt b4 0),(6,pt b5 0),(110,.bool (ai.n !=1))] rfl (fun hk=>?_) fun J=>?_
   . rcases Bool.eq_false_or_eq_true (!y9)with aR|aR
     . exact gF3 (d0:=116) rfl rfl (by rw[aR];rfl) (gU (d0:=119) rfl rfl (gU (d0:=119) rfl rfl (gF (d0:=116) rfl rfl (by rw[aR];rfl) (gT (d0:=110) rfl rfl bY (pv (r_pkt rfl aR rfl) (wlR (fun J=>hk J _ (by rw[aR];rfl)) ⟨rfl,rfl,rfl,rfl,rfl,qZt⟩))))))
     refine pu ?_;refine fkC (d:=122) (c:=((O !=1)&&(O !=2))) 3 [(4,pt b3 0),(5,pt b4 0),(6,pt b5 0),(110,.bool (ai.n !=1)),(116,.bool (!y9))] rfl (fun hk=>zw (O !=1) hk) fun J=>?_;exact gT (d0:=110) rfl rfl bY (pv (r_pkf rfl aR rfl) (wlR (fun J=>hk J _ (by rw[aR];rfl)) ⟨rfl,rfl,rfl,rfl,rfl,qZt⟩))
   exact zr hm dn
 exact zr hm aX
end Go.Proofs.YtfffghclkmbopaaGreat
