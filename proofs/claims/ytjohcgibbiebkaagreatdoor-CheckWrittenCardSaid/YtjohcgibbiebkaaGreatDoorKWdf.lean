/- Go functions compute their models. -/
import Derived.Test.YtjohcgibbiebkaaGreatDoorKWc
set_option linter.unusedVariables false
namespace Go.Proofs.YtjohcgibbiebkaaGreatDoor
open _root_.Go.Proofs.Tryz
set_option maxRecDepth 100000
set_option maxHeartbeats 8000000
attribute [local irreducible] wpList wpQuiet Code.wp
variable{g:World}{T0:TP}{w0:World}{R:List X1}
variable{b1 b2 Y3 Q1x Z9o Z9n Y1k c1 c2 c3 c4 c5 c6 c7 c8 c9 c10 c11 c12 c13 n1 n2 n3 n4 n5 n6 n7 Y2 Q1w Z9e Z9d Y0q oo1 oo2:Nat}{H1 H2 Z6 Q0a Z6j Z6i Z9p:Ab->X1}{a1 a2 a3 a4 a5 a6 a7 a8 a9 a10 a11 a12 a13:OA}{r1 r2:Option Nat}{pv1:Value}
attribute [local irreducible] H8 Q1o execOp Program.underlying sizeOf isAgg zeroValue

theorem Z7d{G:Q2l}(hG:Sp3 G):Q3x (A5 G):=by
 intro g T0 _ R p0 Y3 Y2 Z6 b1 b7 H1 a1 n1 c1 a2 n2 c2 a3 n3 c3 a4 n4 c4 r1 r2 a5 n5 c5 a6 n6 c6 bm p1 a7 c7 hS Z1 hL1 h1 r hm;refine eN Tryz.func170 Tryz.ntmps170 fun J=>?_;unfold A5 at hm;refine sq2 (bX (E9 p1 a7 c7) hS ?_);intro _ b2 _ cJ;refine aL zv1 cJ ?_;intro w2 b3 _ bR;refine kC ?_;refine blk (sq2 (cd hm ?_ ?_))<;>intro dn hm
 . have cL:Ctr Tryz.prog 190 (type_of%@hG.J5):=⟨@hG.J5,cf190⟩;exact zr hm bR
 refine sq2 (cd hm ?_ ?_)<;>intro dp hm
 . have cL:Ctr Tryz.prog 190 (type_of%@hG.J5):=⟨@hG.J5,cf190⟩;exact zr hm bR
 refine pn ?_;refine O1 hm (fun cq a w9=>∃T5 b4 x1 bn c14 b5 x2 bo c15,JR (nf 132) g T0 w2 a w9 T5 (cq x1 x2=some r) (Q68 Y3 Y2 b2 b3 b4 b5) ((Q80 a7 b3 b2 c7 R p1)++(X5 p0 Z6 H1 b1 b7 a1 n1 c1 a2 n2 c2 a3 n3 c3 a4 n4 c4 r1 r2 a5 n5 c5 a6 n6 c6 bm++[Q16 bm p0,Q22 bn b4 c14 x1,Q22 bo b5 c15 x2]))/\Q7 bn c14 T5 w9 x1.Kids/\Q7 bo c15 T5 w9 x2.Kids) (fun cq hm=>?_) ?_
 . refine rtS [0,1,0,1,0,1,0,1,2,2,2,2] [0,1,2,3,4,5,6,7,8,9,10,11] bR fun dq dr bp=>?_;obtain⟨_,cM,hm⟩:=bindS hm;obtain⟨cs1,cO,_,hT1⟩:=ixS bp cM h1;obtain⟨_,c16,rfl,h6⟩:=K5 cO;obtain⟨_,cQ,hm⟩:=bindS hm;obtain⟨cs2,cR,_,hT2⟩:=ixS bp cQ h1;obtain⟨_,c17,rfl,_⟩:=K5 cR;refine tF [8,9] ?_;refine⟨?_,?_,qZt⟩
   . refine brW [9,10,11] [] ?_;refine oaL zv2 bp ?_;intro cT b8 cV bT;refine t1W [9] [10,11] [] ?_;refine oaL zv2 bT ?_;intro cW b9 cY bU;refine t1W [10] [11] [1,1,0,0] ?_;refine osT 1 bU ?_;intro cZ da bV;refine t1W [11] [] [0,0] ?_;refine osT 0 bV ?_;intro db dc bW;refine pu ?_;exact je hm (bW.sE (Z4 2 14++[1,0]))
   refine brW [8,10,11] [] ?_;refine oaL zv2 bp ?_;intro cT b8 cV bT;refine t1W [8] [10,11] [] ?_;refine oaL zv2 bT ?_;intro cW b9 cY bU;refine t1W [10] [11] [1,1,0,0] ?_;refine osT 0 bU ?_;intro cZ da bV;refine t1W [11] [] [0,0] ?_;refine osT 1 bV ?_;intro db dc bW;refine pu ?_;exact je hm (bW.sE (Z4 2 14++[0,1]))
 rintro _ w9 ⟨T5,b4,x1,bn,c14,b5,x2,bo,c15,⟨J,hm,rfl,dd,_⟩,h4,U⟩;refine O1 hm (fun cr a bq=>∃T6 bu ba ct cu c18 aJ ai bv c19 aK aE bw c20,JR (nf 132) g T5 w9 a bq T6 (cr ba bu ai aE=some r) [(0,pt Y3 Y2),(3,pt b2 0),(4,pt b3 0),(5,pt b4 0),(6,pt b5 0),(7,pt aJ 0),(8,pt aK 0)] ((Q80 a7 b3 b2 c7 R p1)++(X5 ({ba with t:=bu}) Z6 H1 b1 b7 ct cu c18 a2 n2 c2 a3 n3 c3 a4 n4 c4 r1 r2 a5 n5 c5 a6 n6 c6 bm++[Q16 bm ba,Q22 bn b4 c14 x1,Q22 bo b5 c15 x2,Q33 bv aJ c19 ai,Q33 bw aK c20 aE]))/\Q62 bv c19 T6 bq ai/\Q62 bw c20 T6 bq aE) (fun cr hm=>?_) ?_
 . refine rtPS [0,1,2,0,1,2,2,2,2,2] [0,1,3,4,2,5,6,7,8,9] dd (U5 (C8)) fun ds du aF=>pu ?_;obtain⟨y3,ac,hm⟩:=bindS hm
   rcases y3 with e3|y3
   . have hm:=G0 hm;refine tF [2,6,7] ?_;refine⟨?_,?_,?_,qZt⟩
     . refine brW [5,6,7,8,9] [1,0] ?_;refine oP I6 (hG.Z3 (aF.bE [0,1,2,14,15] (Z4 3 11)) Z1 hL1 (mC h4) _ ac) ?_;rintro _ bz aM aN ⟨bA,bB,bC,rfl,aa,_⟩;exact pe hm (aa.sE ([2]++Z4 5 11))
     . refine brW [2,5,7,8,9] [] ?_;refine oaL zv1 aF ?_;intro be aP bf ae;refine tF [2,7] ?_;refine⟨?_,?_,qZt⟩
       . refine brW [5,7,8,9] [1,0] ?_;refine oP I6 (hG.Z3 (ae.bE [0,1,2,3,15,16] (Z4 4 11)) Z1 hL1 (mC h4) _ ac) ?_;rintro _ bz cw cx ⟨bA,bB,bC,rfl,bg,_⟩;exact pe hm (bg.sE ([3]++Z4 6 11))
       refine brW [2,5,8,9] [] ?_;refine oaL zv1 ae ?_;intro aM aQ aN aa;refine t1W [2] [5,8,9] [1,0] ?_;refine oP I6 (hG.Z3 (aa.bE (Z4 0 5++[16,17]) (Z4 5 11)) Z1 hL1 (mC h4) _ ac) ?_;rintro _ bz cy cz ⟨bA,bB,bC,rfl,bh,_⟩;exact pe hm (bh.sE ([4]++Z4 7 11))
     refine brW [2,5,6,8,9] [] ?_;refine oaL zv1 aF ?_;intro be aP bf ae;refine tF [2,6] ?_;refine⟨?_,?_,qZt⟩
     . refine brW [5,6,8,9] [1,0] ?_;refine oP I6 (hG.Z3 (ae.bE [0,1,2,3,15,16] (Z4 4 11)) Z1 hL1 (mC h4) _ ac) ?_;rintro _ bz cw cx ⟨bA,bB,bC,rfl,bg,_⟩;exact pe hm (bg.sE ([3]++Z4 6 11))
     refine brW [2,5,8,9] [] ?_;refine oaL zv1 ae ?_;intro aM aQ aN aa;refine t1W [2] [5,8,9] [1,0] ?_;refine oP I6 (hG.Z3 (aa.bE (Z4 0 5++[16,17]) (Z4 5 11)) Z1 hL1 (mC h4) _ ac) ?_;rintro _ bz cy cz ⟨bA,bB,bC,rfl,bh,_⟩;exact pe hm (bh.sE ([4]++Z4 7 11))
   have hm:=C1 hm;obtain⟨y4,V,hm⟩:=bindS hm
   rcases y4 with e4|y4
   . have hm:=G0 hm;refine tF [2,6,7] ?_;refine⟨?_,?_,?_,qZt⟩
     . refine brW [5,6,7,8,9] [1,0] ?_;refine oS I6 (hG.Z3 (aF.bE [0,1,2,14,15] (Z4 3 11)) Z1 hL1 (mC h4) _ ac) ?_;rintro _ T9 cC cD ⟨bF,c25,bG,bI,c26,rfl,aG,bJ,_⟩;refine tF [5,6,7] ?_;refine⟨?_,?_,?_,qZt⟩
       . refine brW [6,7,8,9] [0] ?_;refine oP I6 (hG.Z3 (aG.bE (Z4 0 5) (Z4 5 11)) Z1 hL1 (mC U) _ V) ?_;rintro _ aw aT aU ⟨ax,ay,c29,rfl,af,_⟩;exact pe hm (af.sE ([2]++Z4 5 11))
       . refine brW [5,7,8,9] [] ?_;refine oaL zv1 aG ?_;intro bi aP bj ad;refine tF [5,7] ?_;refine⟨?_,?_,qZt⟩
         . refine brW [7,8,9] [0] ?_;refine oP I6 (hG.Z3 (ad.bE (Z4 0 6) (Z4 6 11)) Z1 hL1 (mC U) _ V) ?_;rintro _ aw be bf ⟨ax,ay,c29,rfl,ae,_⟩;exact pe hm (ae.sE ([3]++Z4 6 11))
         refine brW [5,8,9] [] ?_;refine oaL zv1 ad ?_;intro aT aQ aU af;refine t1W [5] [8,9] [0] ?_;refine oP I6 (hG.Z3 (af.bE (Z4 0 7) (Z4 7 11)) Z1 hL1 (mC U) _ V) ?_;rintro _ aw aM aN ⟨ax,ay,c29,rfl,aa,_⟩;exact pe hm (aa.sE ([4]++Z4 7 11))
       refine brW [5,6,8,9] [] ?_;refine oaL zv1 aG ?_;intro bi aP bj ad;refine tF [5,6] ?_;refine⟨?_,?_,qZt⟩
       . refine brW [6,8,9] [0] ?_;refine oP I6 (hG.Z3 (ad.bE (Z4 0 6) (Z4 6 11)) Z1 hL1 (mC U) _ V) ?_;rintro _ aw be bf ⟨ax,ay,c29,rfl,ae,_⟩;exact pe hm (ae.sE ([3]++Z4 6 11))
       refine brW [5,8,9] [] ?_;refine oaL zv1 ad ?_;intro aT aQ aU af;refine t1W [5] [8,9] [0] ?_;refine oP I6 (hG.Z3 (af.bE (Z4 0 7) (Z4 7 11)) Z1 hL1 (mC U) _ V) ?_;rintro _ aw aM aN ⟨ax,ay,c29,rfl,aa,_⟩;exact pe hm (aa.sE ([4]++Z4 7 11))
     . refine brW [2,5,7,8,9] [] ?_;refine oaL zv1 aF ?_;intro cC aP cD aG;refine tF [2,7] ?_;refine⟨?_,?_,qZt⟩
       . refine brW [5,7,8,9] [1,0] ?_;refine oS I6 (hG.Z3 (aG.bE [0,1,2,3,15,16] (Z4 4 11)) Z1 hL1 (mC h4) _ ac) ?_;rintro _ T9 bi bj ⟨bF,c25,bG,bI,c26,rfl,ad,bJ,_⟩;refine tF [5,7] ?_;refine⟨?_,?_,qZt⟩
         . refine brW [7,8,9] [0] ?_;refine oP I6 (hG.Z3 (ad.bE (Z4 0 6) (Z4 6 11)) Z1 hL1 (mC U) _ V) ?_;rintro _ aw be bf ⟨ax,ay,c29,rfl,ae,_⟩;exact pe hm (ae.sE ([3]++Z4 6 11))
         refine brW [5,8,9] [] ?_;refine oaL zv1 ad ?_;intro aT aQ aU af;refine t1W [5] [8,9] [0] ?_;refine oP I6 (hG.Z3 (af.bE (Z4 0 7) (Z4 7 11)) Z1 hL1 (mC U) _ V) ?_;rintro _ aw aM aN ⟨ax,ay,c29,rfl,aa,_⟩;exact pe hm (aa.sE ([4]++Z4 7 11))
       refine brW [2,5,8,9] [] ?_;refine oaL zv1 aG ?_;intro bi aQ bj ad;refine t1W [2] [5,8,9] [1,0] ?_;refine oS I6 (hG.Z3 (ad.bE (Z4 0 5++[16,17]) (Z4 5 11)) Z1 hL1 (mC h4) _ ac) ?_;rintro _ T9 aT aU ⟨bF,c25,bG,bI,c26,rfl,af,bJ,_⟩;refine t1W [5] [8,9] [0] ?_;refine oP I6 (hG.Z3 (af.bE (Z4 0 7) (Z4 7 11)) Z1 hL1 (mC U) _ V) ?_;rintro _ aw aM aN ⟨ax,ay,c29,rfl,aa,_⟩;exact pe hm (aa.sE ([4]++Z4 7 11))
     refine brW [2,5,6,8,9] [] ?_;refine oaL zv1 aF ?_;intro cC aP cD aG;refine tF [2,6] ?_;refine⟨?_,?_,qZt⟩
     . refine brW [5,6,8,9] [1,0] ?_;refine oS I6 (hG.Z3 (aG.bE [0,1,2,3,15,16] (Z4 4 11)) Z1 hL1 (mC h4) _ ac) ?_;rintro _ T9 bi bj ⟨bF,c25,bG,bI,c26,rfl,ad,bJ,_⟩;refine tF [5,6] ?_;refine⟨?_,?_,qZt⟩
       . refine brW [6,8,9] [0] ?_;refine oP I6 (hG.Z3 (ad.bE (Z4 0 6) (Z4 6 11)) Z1 hL1 (mC U) _ V) ?_;rintro _ aw be bf ⟨ax,ay,c29,rfl,ae,_⟩;exact pe hm (ae.sE ([3]++Z4 6 11))
       refine brW [5,8,9] [] ?_;refine oaL zv1 ad ?_;intro aT aQ aU af;refine t1W [5] [8,9] [0] ?_;refine oP I6 (hG.Z3 (af.bE (Z4 0 7) (Z4 7 11)) Z1 hL1 (mC U) _ V) ?_;rintro _ aw aM aN ⟨ax,ay,c29,rfl,aa,_⟩;exact pe hm (aa.sE ([4]++Z4 7 11))
     refine brW [2,5,8,9] [] ?_;refine oaL zv1 aG ?_;intro bi aQ bj ad;refine t1W [2] [5,8,9] [1,0] ?_;refine oS I6 (hG.Z3 (ad.bE (Z4 0 5++[16,17]) (Z4 5 11)) Z1 hL1 (mC h4) _ ac) ?_;rintro _ T9 aT aU ⟨bF,c25,bG,bI,c26,rfl,af,bJ,_⟩;refine t1W [5] [8,9] [0] ?_;refine oP I6 (hG.Z3 (af.bE (Z4 0 7) (Z4 7 11)) Z1 hL1 (mC U) _ V) ?_;rintro _ aw aM aN ⟨ax,ay,c29,rfl,aa,_⟩;exact pe hm (aa.sE ([4]++Z4 7 11))
   have hm:=C1 hm;refine tF [2,6,7] ?_;refine⟨?_,?_,?_,qZt⟩
   . refine brW [5,6,7,8,9] [1,0] ?_;refine oS I6 (hG.Z3 (aF.bE [0,1,2,14,15] (Z4 3 11)) Z1 hL1 (mC h4) _ ac) ?_;rintro _ T7 cE cF ⟨bL,c21,bM,bN,c22,rfl,aI,bO,_⟩;refine tF [5,6,7] ?_;refine⟨?_,?_,?_,qZt⟩
     . refine brW [6,7,8,9] [0] ?_;refine oS I6 (hG.Z3 (aI.bE (Z4 0 5) (Z4 5 11)) Z1 hL1 (mC U) _ V) ?_;rintro _ T8 aV aW ⟨aA,c23,aB,aC,c24,rfl,W,aD,_⟩;refine tF [6,7] ?_;refine⟨?_,?_,qZt⟩
       . refine brW [7,8,9] [] ?_;refine oaL zv1 W ?_;intro ak bk am D;refine t1W [7] [8,9] [] ?_;refine oaL zv1 D ?_;intro an ao ap E;refine t1W [8] [9] [] ?_;refine osT 1 E ?_;intro aq ar I;refine t1W [9] [] [] ?_;refine osT 0 I ?_;intro au av K;refine pu ?_;exact je hm (K.sE ([2,3,4]++Z4 7 11++[5,6,1,0]))
       refine brW [6,8,9] [] ?_;refine oaL zv1 W ?_;intro ak bk am D;refine t1W [6] [8,9] [] ?_;refine oaL zv1 D ?_;intro an ao ap E;refine t1W [8] [9] [] ?_;refine osT 0 E ?_;intro aq ar I;refine t1W [9] [] [] ?_;refine osT 1 I ?_;intro au av K;refine pu ?_;exact je hm (K.sE ([2,3,4]++Z4 7 11++[5,6,0,1]))
     . refine brW [5,7,8,9] [] ?_;refine oaL zv1 aI ?_;intro aV bk aW W;refine tF [5,7] ?_;refine⟨?_,?_,qZt⟩
       . refine brW [7,8,9] [0] ?_;refine oS I6 (hG.Z3 (W.bE (Z4 0 6) (Z4 6 11)) Z1 hL1 (mC U) _ V) ?_;rintro _ T8 ak am ⟨aA,c23,aB,aC,c24,rfl,D,aD,_⟩;refine t1W [7] [8,9] [] ?_;refine oaL zv1 D ?_;intro an ao ap E;refine t1W [8] [9] [] ?_;refine osT 1 E ?_;intro aq ar I;refine t1W [9] [] [] ?_;refine osT 0 I ?_;intro au av K;refine pu ?_;exact je hm (K.sE ([2,3,4]++Z4 7 11++[5,6,1,0]))
       refine brW [5,8,9] [] ?_;refine oaL zv1 W ?_;intro ak ao am D;refine t1W [5] [8,9] [0] ?_;refine oS I6 (hG.Z3 (D.bE (Z4 0 7) (Z4 7 11)) Z1 hL1 (mC U) _ V) ?_;rintro _ T8 an ap ⟨aA,c23,aB,aC,c24,rfl,E,aD,_⟩;refine t1W [8] [9] [] ?_;refine osT 1 E ?_;intro aq ar I;refine t1W [9] [] [] ?_;refine osT 0 I ?_;intro au av K;refine pu ?_;exact je hm (K.sE ([2,3,4]++Z4 7 11++[5,6,1,0]))
     refine brW [5,6,8,9] [] ?_;refine oaL zv1 aI ?_;intro aV bk aW W;refine tF [5,6] ?_;refine⟨?_,?_,qZt⟩
     . refine brW [6,8,9] [0] ?_;refine oS I6 (hG.Z3 (W.bE (Z4 0 6) (Z4 6 11)) Z1 hL1 (mC U) _ V) ?_;rintro _ T8 ak am ⟨aA,c23,aB,aC,c24,rfl,D,aD,_⟩;refine t1W [6] [8,9] [] ?_;refine oaL zv1 D ?_;intro an ao ap E;refine t1W [8] [9] [] ?_;refine osT 0 E ?_;intro aq ar I;refine t1W [9] [] [] ?_;refine osT 1 I ?_;intro au av K;refine pu ?_;exact je hm (K.sE ([2,3,4]++Z4 7 11++[5,6,0,1]))
     refine brW [5,8,9] [] ?_;refine oaL zv1 W ?_;intro ak ao am D;refine t1W [5] [8,9] [0] ?_;refine oS I6 (hG.Z3 (D.bE (Z4 0 7) (Z4 7 11)) Z1 hL1 (mC U) _ V) ?_;rintro _ T8 an ap ⟨aA,c23,aB,aC,c24,rfl,E,aD,_⟩;refine t1W [8] [9] [] ?_;refine osT 0 E ?_;intro aq ar I;refine t1W [9] [] [] ?_;refine osT 1 I ?_;intro au av K;refine pu ?_;exact je hm (K.sE ([2,3,4]++Z4 7 11++[5,6,0,1]))
   . refine brW [2,5,7,8,9] [] ?_;refine oaL zv1 aF ?_;intro cE bk cF aI;refine tF [2,7] ?_;refine⟨?_,?_,qZt⟩
     . refine brW [5,7,8,9] [1,0] ?_;refine oS I6 (hG.Z3 (aI.bE [0,1,2,3,15,16] (Z4 4 11)) Z1 hL1 (mC h4) _ ac) ?_;rintro _ T7 aV aW ⟨bL,c21,bM,bN,c22,rfl,W,bO,_⟩;refine tF [5,7] ?_;refine⟨?_,?_,qZt⟩
       . refine brW [7,8,9] [0] ?_;refine oS I6 (hG.Z3 (W.bE (Z4 0 6) (Z4 6 11)) Z1 hL1 (mC U) _ V) ?_;rintro _ T8 ak am ⟨aA,c23,aB,aC,c24,rfl,D,aD,_⟩;refine t1W [7] [8,9] [] ?_;refine oaL zv1 D ?_;intro an ao ap E;refine t1W [8] [9] [] ?_;refine osT 1 E ?_;intro aq ar I;refine t1W [9] [] [] ?_;refine osT 0 I ?_;intro au av K;refine pu ?_;exact je hm (K.sE ([2,3,4]++Z4 7 11++[5,6,1,0]))
       refine brW [5,8,9] [] ?_;refine oaL zv1 W ?_;intro ak ao am D;refine t1W [5] [8,9] [0] ?_;refine oS I6 (hG.Z3 (D.bE (Z4 0 7) (Z4 7 11)) Z1 hL1 (mC U) _ V) ?_;rintro _ T8 an ap ⟨aA,c23,aB,aC,c24,rfl,E,aD,_⟩;refine t1W [8] [9] [] ?_;refine osT 1 E ?_;intro aq ar I;refine t1W [9] [] [] ?_;refine osT 0 I ?_;intro au av K;refine pu ?_;exact je hm (K.sE ([2,3,4]++Z4 7 11++[5,6,1,0]))
     refine brW [2,5,8,9] [] ?_;refine oaL zv1 aI ?_;intro aV ao aW W;refine t1W [2] [5,8,9] [1,0] ?_;refine oS I6 (hG.Z3 (W.bE (Z4 0 5++[16,17]) (Z4 5 11)) Z1 hL1 (mC h4) _ ac) ?_;rintro _ T7 ak am ⟨bL,c21,bM,bN,c22,rfl,D,bO,_⟩;refine t1W [5] [8,9] [0] ?_;refine oS I6 (hG.Z3 (D.bE (Z4 0 7) (Z4 7 11)) Z1 hL1 (mC U) _ V) ?_;rintro _ T8 an ap ⟨aA,c23,aB,aC,c24,rfl,E,aD,_⟩;refine t1W [8] [9] [] ?_;refine osT 1 E ?_;intro aq ar I;refine t1W [9] [] [] ?_;refine osT 0 I ?_;intro au av K;refine pu ?_;exact je hm (K.sE ([2,3,4]++Z4 7 11++[5,6,1,0]))
   refine brW [2,5,6,8,9] [] ?_;refine oaL zv1 aF ?_;intro cE bk cF aI;refine tF [2,6] ?_;refine⟨?_,?_,qZt⟩
   . refine brW [5,6,8,9] [1,0] ?_;refine oS I6 (hG.Z3 (aI.bE [0,1,2,3,15,16] (Z4 4 11)) Z1 hL1 (mC h4) _ ac) ?_;rintro _ T7 aV aW ⟨bL,c21,bM,bN,c22,rfl,W,bO,_⟩;refine tF [5,6] ?_;refine⟨?_,?_,qZt⟩
     . refine brW [6,8,9] [0] ?_;refine oS I6 (hG.Z3 (W.bE (Z4 0 6) (Z4 6 11)) Z1 hL1 (mC U) _ V) ?_;rintro _ T8 ak am ⟨aA,c23,aB,aC,c24,rfl,D,aD,_⟩;refine t1W [6] [8,9] [] ?_;refine oaL zv1 D ?_;intro an ao ap E;refine t1W [8] [9] [] ?_;refine osT 0 E ?_;intro aq ar I;refine t1W [9] [] [] ?_;refine osT 1 I ?_;intro au av K;refine pu ?_;exact je hm (K.sE ([2,3,4]++Z4 7 11++[5,6,0,1]))
     refine brW [5,8,9] [] ?_;refine oaL zv1 W ?_;intro ak ao am D;refine t1W [5] [8,9] [0] ?_;refine oS I6 (hG.Z3 (D.bE (Z4 0 7) (Z4 7 11)) Z1 hL1 (mC U) _ V) ?_;rintro _ T8 an ap ⟨aA,c23,aB,aC,c24,rfl,E,aD,_⟩;refine t1W [8] [9] [] ?_;refine osT 0 E ?_;intro aq ar I;refine t1W [9] [] [] ?_;refine osT 1 I ?_;intro au av K;refine pu ?_;exact je hm (K.sE ([2,3,4]++Z4 7 11++[5,6,0,1]))
   refine brW [2,5,8,9] [] ?_;refine oaL zv1 aI ?_;intro aV ao aW W;refine t1W [2] [5,8,9] [1,0] ?_;refine oS I6 (hG.Z3 (W.bE (Z4 0 5++[16,17]) (Z4 5 11)) Z1 hL1 (mC h4) _ ac) ?_;rintro _ T7 ak am ⟨bL,c21,bM,bN,c22,rfl,D,bO,_⟩;refine t1W [5] [8,9] [0] ?_;refine oS I6 (hG.Z3 (D.bE (Z4 0 7) (Z4 7 11)) Z1 hL1 (mC U) _ V) ?_;rintro _ T8 an ap ⟨aA,c23,aB,aC,c24,rfl,E,aD,_⟩;refine t1W [8] [9] [] ?_;refine osT 0 E ?_;intro aq ar I;refine t1W [9] [] [] ?_;refine osT 1 I ?_;intro au av K;refine pu ?_;exact je hm (K.sE ([2,3,4]++Z4 7 11++[5,6,0,1]))
 rintro _ bq ⟨T6,bu,ba,ct,cu,c18,aJ,ai,bv,c19,aK,aE,bw,c20,⟨J,hm,rfl,bg,_⟩,h8,h9⟩;refine qU ?_;refine cB cf191 hm (Q9g (bg.bE (Z4 0 18) [])) ?_;rintro O _ _ cw cx ⟨rfl,bh,_⟩ hm;refine kE ?_;refine bS (r:=X6) (l:=([ai.term,aE.term]:List Y9)) (css:=[(U4 ai.term bv c19),(U4 aE.term bw c20)]) bh ⟨(V9 (x:=ai.term) (mC h8):X6.rp _ _ _ _),(V9 (x:=aE.term) (mC h9):X6.rp _ _ _ _),qZt⟩ ?_;intro cy dh di dj cz dk;refine pv (P3 (by kernel_rfl) rfl (u:= .agg #[iv 6,iv O,.int .u32 0,iv 0,.bool false,iv 0,.bool false,.bool false,.slice dh di dj])) (aL zv3 dk ?_);intro _ aP _ dl;refine sT 0 dl ?_;intro _ _ aX;refine kE ?_;refine blk (qU ?_);refine fkC (d:=55) (c:=((ai.n==1)&&(aE.n==1))) 4 [(0,pt Y3 Y2),(3,pt b2 0),(4,pt b3 0),(5,pt b4 0),(6,pt b5 0),(7,pt aJ 0),(8,pt aK 0),(9,iv O),(10,pt aP 0)] rfl (fun hk=>zw (ai.n==1) hk) fun J=>?_;refine cd hm ?_ ?_<;>intro dx hm
 . exact zr hm aX
 refine qU ?_;refine fkC (d:=64) (c:=((O==11)||(O==12))) 3 [(0,pt Y3 Y2),(3,pt b2 0),(4,pt b3 0),(5,pt b4 0),(6,pt b5 0),(7,pt aJ 0),(8,pt aK 0),(9,iv O)] rfl (fun hk=>zw (O==11) hk) fun J=>?_;refine cd hm ?_ ?_<;>intro dy hm
 . exact zr hm aX
 refine qU ?_;refine fkC (d:=77) (c:=((O==1)&&(ai.n==1))) 4 [(0,pt Y3 Y2),(4,pt b3 0),(5,pt b4 0),(6,pt b5 0),(7,pt aJ 0),(8,pt aK 0),(9,iv O)] rfl (fun hk=>zw (O==1) hk) fun J=>?_;refine cd hm ?_ ?_<;>intro dz hm
 . exact zr hm aX
 refine qU ?_;refine fkC (d:=92) (c:=((O==1)||(O==2))) 3 [(0,pt Y3 Y2),(4,pt b3 0),(5,pt b4 0),(6,pt b5 0),(7,pt aJ 0),(8,pt aK 0),(9,iv O)] rfl (fun hk=>zw (O==1) hk) fun J=>pu ?_;refine fkC (d:=97) (c:=(((O==1)||(O==2))&&(aE.n==1))) 4 [(0,pt Y3 Y2),(4,pt b3 0),(5,pt b4 0),(6,pt b5 0),(7,pt aJ 0),(8,pt aK 0),(9,iv O)] rfl (fun hk=>zw ((O==1)||(O==2)) hk) fun J=>?_;refine cd hm ?_ ?_<;>intro dA hm
 . exact zr hm aX
 refine qU ?_
 rcases bc hm with⟨bY,hm⟩|⟨bY,hm⟩
 . refine pu ?_;refine cB Q2f hm (Y4 (p0:={ba with t:=bu}) (aX.bE [2,4,15,16,17] (Z4 5 10)) Z1 hL1) ?_;rintro y9 _ _ _ _ ⟨rfl,dm,_⟩ hm;refine pu ?_;refine fkC (d:=123) (c:=((!y9)||((O !=1)&&(O !=2)))) 7 [(4,pt b3 0),(5,pt b4 0),(6,pt b5 0),(110,.bool (ai.n !=1))] rfl (fun hk=>?_) fun J=>?_
   . rcases Bool.eq_false_or_eq_true (!y9)with aR|aR
     . exact gF3 (d0:=116) rfl rfl (by rw[aR];rfl) (gU (d0:=119) rfl rfl (gU (d0:=119) rfl rfl (gF (d0:=116) rfl rfl (by rw[aR];rfl) (gT (d0:=110) rfl rfl bY (pv (Y2k rfl aR rfl) (wlR (fun J=>hk J _ (by rw[aR];rfl)) ⟨rfl,rfl,rfl,rfl,rfl,qZt⟩))))))
     refine pu ?_;refine fkC (d:=122) (c:=((O !=1)&&(O !=2))) 3 [(4,pt b3 0),(5,pt b4 0),(6,pt b5 0),(110,.bool (ai.n !=1)),(116,.bool (!y9))] rfl (fun hk=>zw (O !=1) hk) fun J=>?_;exact gT (d0:=110) rfl rfl bY (pv (Y2l rfl aR rfl) (wlR (fun J=>hk J _ (by rw[aR];rfl)) ⟨rfl,rfl,rfl,rfl,rfl,qZt⟩))
   exact zr hm dm
 exact zr hm aX
end Go.Proofs.YtjohcgibbiebkaaGreatDoor
