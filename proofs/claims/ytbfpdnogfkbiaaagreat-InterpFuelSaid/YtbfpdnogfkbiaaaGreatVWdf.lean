/- That Go functions compute their models. Printed by gen2.py. -/
import Derived.Test.YtbfpdnogfkbiaaaGreatVWd
set_option linter.unusedVariables false
namespace Go.Proofs.YtbfpdnogfkbiaaaGreat
open _root_.Go.Proofs.Tryz
set_option maxRecDepth 100000
set_option maxHeartbeats 8000000
attribute [local irreducible] wpList wpQuiet Code.wp
variable{g:World}{T0:Nat->Prop}{w0:World}{R:List Y9}
variable{b1 b2 Y0 Q0f Z7g Z7f Z8d c1 c2 c3 c4 c5 c6 c7 c8 c9 c10 c11 c12 c13 n1 n2 n3 n4 n5 n6 n7 Z9 Q0e Z7a Z6z Z7p oo1 oo2:Nat}{H1 H2 Z5 L4 Z5m Z5l Z7h:List Value->Y9}{a1 a2 a3 a4 a5 a6 a7 a8 a9 a10 a11 a12 a13:OA}{r1 r2:Option Nat}{pv1:Value}
attribute [local irreducible] M1 W7 execOp Program.underlying sizeOf isAgg zeroValue

theorem Z8a{G:Z3u}(hG:Sp3 G):Q4j (Q0r G):=by
 intro g T0 _ R p0 Y0 Z9 Z5 b1 b6 H1 a1 n1 c1 a2 n2 c2 a3 n3 c3 a4 n4 c4 r1 r2 a5 n5 c5 a6 n6 c6 bm p1 a7 c7 hS Z2 hL1 h1 r hm;refine eN Tryz.func175 Tryz.ntmps175 fun J=>?_;unfold Q0r at hm;refine sq2 (bX (E4 p1 a7 c7) hS ?_);intro _ b2 _ cJ;refine aL zv1 cJ ?_;intro w2 b3 _ bQ;refine kC ?_;refine blk (sq2 (cd hm ?_ ?_))<;>intro dn hm
 . have cL:Ctr Tryz.prog 194 (type_of%@hG.E3):=⟨@hG.E3,cf194⟩;exact zr hm bQ
 refine sq2 (cd hm ?_ ?_)<;>intro dp hm
 . have cL:Ctr Tryz.prog 194 (type_of%@hG.E3):=⟨@hG.E3,cf194⟩;exact zr hm bQ
 refine pn ?_;refine M8 hm (fun cp a w9=>∃T5 b4 x1 bn c14 b5 x2 bo c15,JR (nf 132) g T0 w2 a w9 T5 (cp x1 x2=some r) (Q86 Y0 Z9 b2 b3 b4 b5) ((Q99 a7 b3 b2 c7 R p1)++(X6 p0 Z5 H1 b1 b6 a1 n1 c1 a2 n2 c2 a3 n3 c3 a4 n4 c4 r1 r2 a5 n5 c5 a6 n6 c6 bm++[Q20 bm p0,Q33 bn b4 c14 x1,Q33 bo b5 c15 x2]))/\Q10 bn c14 T5 w9 x1.Kids/\Q10 bo c15 T5 w9 x2.Kids) (fun cp hm=>?_) ?_
 . refine rtS [0,1,0,1,0,1,0,1,2,2,2,2] [0,1,2,3,4,5,6,7,8,9,10,11] bQ fun dq dr bp=>?_;obtain⟨_,cM,hm⟩:=Z8 hm;obtain⟨cs1,cO,_,hT1⟩:=ixS bp cM h1;obtain⟨_,c16,rfl,_⟩:=G9 cO;obtain⟨_,cQ,hm⟩:=Z8 hm;obtain⟨cs2,cR,_,hT2⟩:=ixS bp cQ h1;obtain⟨_,c17,rfl,_⟩:=G9 cR;refine tF [8,9] ?_;refine⟨?_,?_,qZt⟩
   . refine brW [9,10,11] [] ?_;refine oaL zv2 bp ?_;intro cT b8 cV bR;refine t1W [9] [10,11] [] ?_;refine oaL zv2 bR ?_;intro cW b9 cY bT;refine t1W [10] [11] [1,1,0,0] ?_;refine osT 1 bT ?_;intro cZ da bU;refine t1W [11] [] [0,0] ?_;refine osT 0 bU ?_;intro db dc bV;refine pu ?_;exact je hm (bV.sE (Z3 2 14++[1,0]))
   refine brW [8,10,11] [] ?_;refine oaL zv2 bp ?_;intro cT b8 cV bR;refine t1W [8] [10,11] [] ?_;refine oaL zv2 bR ?_;intro cW b9 cY bT;refine t1W [10] [11] [1,1,0,0] ?_;refine osT 0 bT ?_;intro cZ da bU;refine t1W [11] [] [0,0] ?_;refine osT 1 bU ?_;intro db dc bV;refine pu ?_;exact je hm (bV.sE (Z3 2 14++[0,1]))
 rintro _ w9 ⟨T5,b4,x1,bn,c14,b5,x2,bo,c15,⟨J,hm,rfl,dd,_⟩,h4,V⟩;refine M8 hm (fun cq a bq=>∃T6 bu be cr ct c18 aK aj bv c19 aM aF bw c20,JR (nf 132) g T5 w9 a bq T6 (cq be bu aj aF=some r) [(0,pt Y0 Z9),(3,pt b2 0),(4,pt b3 0),(5,pt b4 0),(6,pt b5 0),(7,pt aK 0),(8,pt aM 0)] ((Q99 a7 b3 b2 c7 R p1)++(X6 ({be with t:=bu}) Z5 H1 b1 b6 cr ct c18 a2 n2 c2 a3 n3 c3 a4 n4 c4 r1 r2 a5 n5 c5 a6 n6 c6 bm++[Q20 bm be,Q33 bn b4 c14 x1,Q33 bo b5 c15 x2,Q47 bv aK c19 aj,Q47 bw aM c20 aF]))/\Q82 bv c19 T6 bq aj/\Q82 bw c20 T6 bq aF) (fun cq hm=>?_) ?_
 . refine rtPS [0,1,2,0,1,2,2,2,2,2] [0,1,3,4,2,5,6,7,8,9] dd (U7 (C5)) fun ds du aG=>pu ?_;obtain⟨y3,ad,hm⟩:=Z8 hm
   rcases y3 with e3|y3
   . have hm:=J8 hm;refine tF [2,6,7] ?_;refine⟨?_,?_,?_,qZt⟩
     . refine brW [5,6,7,8,9] [1,0] ?_;refine oP A5 (hG.Z6 (aG.bE [0,1,2,14,15] (Z3 3 11)) Z2 hL1 (mC h4) _ ad) ?_;rintro _ bz aN aP ⟨bA,bB,bC,rfl,ab,_⟩;exact pe hm (ab.sE ([2]++Z3 5 11))
     . refine brW [2,5,7,8,9] [] ?_;refine oaL zv1 aG ?_;intro bf aQ bg af;refine tF [2,7] ?_;refine⟨?_,?_,qZt⟩
       . refine brW [5,7,8,9] [1,0] ?_;refine oP A5 (hG.Z6 (af.bE [0,1,2,3,15,16] (Z3 4 11)) Z2 hL1 (mC h4) _ ad) ?_;rintro _ bz cv cw ⟨bA,bB,bC,rfl,bh,_⟩;exact pe hm (bh.sE ([3]++Z3 6 11))
       refine brW [2,5,8,9] [] ?_;refine oaL zv1 af ?_;intro aN aR aP ab;refine t1W [2] [5,8,9] [1,0] ?_;refine oP A5 (hG.Z6 (ab.bE (Z3 0 5++[16,17]) (Z3 5 11)) Z2 hL1 (mC h4) _ ad) ?_;rintro _ bz cy cz ⟨bA,bB,bC,rfl,bi,_⟩;exact pe hm (bi.sE ([4]++Z3 7 11))
     refine brW [2,5,6,8,9] [] ?_;refine oaL zv1 aG ?_;intro bf aQ bg af;refine tF [2,6] ?_;refine⟨?_,?_,qZt⟩
     . refine brW [5,6,8,9] [1,0] ?_;refine oP A5 (hG.Z6 (af.bE [0,1,2,3,15,16] (Z3 4 11)) Z2 hL1 (mC h4) _ ad) ?_;rintro _ bz cv cw ⟨bA,bB,bC,rfl,bh,_⟩;exact pe hm (bh.sE ([3]++Z3 6 11))
     refine brW [2,5,8,9] [] ?_;refine oaL zv1 af ?_;intro aN aR aP ab;refine t1W [2] [5,8,9] [1,0] ?_;refine oP A5 (hG.Z6 (ab.bE (Z3 0 5++[16,17]) (Z3 5 11)) Z2 hL1 (mC h4) _ ad) ?_;rintro _ bz cy cz ⟨bA,bB,bC,rfl,bi,_⟩;exact pe hm (bi.sE ([4]++Z3 7 11))
   have hm:=C2 hm;obtain⟨y4,W,hm⟩:=Z8 hm
   rcases y4 with e4|y4
   . have hm:=J8 hm;refine tF [2,6,7] ?_;refine⟨?_,?_,?_,qZt⟩
     . refine brW [5,6,7,8,9] [1,0] ?_;refine oS A5 (hG.Z6 (aG.bE [0,1,2,14,15] (Z3 3 11)) Z2 hL1 (mC h4) _ ad) ?_;rintro _ T9 cC cD ⟨bF,c25,bG,bI,c26,rfl,aI,bJ,_⟩;refine tF [5,6,7] ?_;refine⟨?_,?_,?_,qZt⟩
       . refine brW [6,7,8,9] [0] ?_;refine oP A5 (hG.Z6 (aI.bE (Z3 0 5) (Z3 5 11)) Z2 hL1 (mC V) _ W) ?_;rintro _ ax aU aV ⟨ay,az,c29,rfl,ag,_⟩;exact pe hm (ag.sE ([2]++Z3 5 11))
       . refine brW [5,7,8,9] [] ?_;refine oaL zv1 aI ?_;intro bj aQ bk ae;refine tF [5,7] ?_;refine⟨?_,?_,qZt⟩
         . refine brW [7,8,9] [0] ?_;refine oP A5 (hG.Z6 (ae.bE (Z3 0 6) (Z3 6 11)) Z2 hL1 (mC V) _ W) ?_;rintro _ ax bf bg ⟨ay,az,c29,rfl,af,_⟩;exact pe hm (af.sE ([3]++Z3 6 11))
         refine brW [5,8,9] [] ?_;refine oaL zv1 ae ?_;intro aU aR aV ag;refine t1W [5] [8,9] [0] ?_;refine oP A5 (hG.Z6 (ag.bE (Z3 0 7) (Z3 7 11)) Z2 hL1 (mC V) _ W) ?_;rintro _ ax aN aP ⟨ay,az,c29,rfl,ab,_⟩;exact pe hm (ab.sE ([4]++Z3 7 11))
       refine brW [5,6,8,9] [] ?_;refine oaL zv1 aI ?_;intro bj aQ bk ae;refine tF [5,6] ?_;refine⟨?_,?_,qZt⟩
       . refine brW [6,8,9] [0] ?_;refine oP A5 (hG.Z6 (ae.bE (Z3 0 6) (Z3 6 11)) Z2 hL1 (mC V) _ W) ?_;rintro _ ax bf bg ⟨ay,az,c29,rfl,af,_⟩;exact pe hm (af.sE ([3]++Z3 6 11))
       refine brW [5,8,9] [] ?_;refine oaL zv1 ae ?_;intro aU aR aV ag;refine t1W [5] [8,9] [0] ?_;refine oP A5 (hG.Z6 (ag.bE (Z3 0 7) (Z3 7 11)) Z2 hL1 (mC V) _ W) ?_;rintro _ ax aN aP ⟨ay,az,c29,rfl,ab,_⟩;exact pe hm (ab.sE ([4]++Z3 7 11))
     . refine brW [2,5,7,8,9] [] ?_;refine oaL zv1 aG ?_;intro cC aQ cD aI;refine tF [2,7] ?_;refine⟨?_,?_,qZt⟩
       . refine brW [5,7,8,9] [1,0] ?_;refine oS A5 (hG.Z6 (aI.bE [0,1,2,3,15,16] (Z3 4 11)) Z2 hL1 (mC h4) _ ad) ?_;rintro _ T9 bj bk ⟨bF,c25,bG,bI,c26,rfl,ae,bJ,_⟩;refine tF [5,7] ?_;refine⟨?_,?_,qZt⟩
         . refine brW [7,8,9] [0] ?_;refine oP A5 (hG.Z6 (ae.bE (Z3 0 6) (Z3 6 11)) Z2 hL1 (mC V) _ W) ?_;rintro _ ax bf bg ⟨ay,az,c29,rfl,af,_⟩;exact pe hm (af.sE ([3]++Z3 6 11))
         refine brW [5,8,9] [] ?_;refine oaL zv1 ae ?_;intro aU aR aV ag;refine t1W [5] [8,9] [0] ?_;refine oP A5 (hG.Z6 (ag.bE (Z3 0 7) (Z3 7 11)) Z2 hL1 (mC V) _ W) ?_;rintro _ ax aN aP ⟨ay,az,c29,rfl,ab,_⟩;exact pe hm (ab.sE ([4]++Z3 7 11))
       refine brW [2,5,8,9] [] ?_;refine oaL zv1 aI ?_;intro bj aR bk ae;refine t1W [2] [5,8,9] [1,0] ?_;refine oS A5 (hG.Z6 (ae.bE (Z3 0 5++[16,17]) (Z3 5 11)) Z2 hL1 (mC h4) _ ad) ?_;rintro _ T9 aU aV ⟨bF,c25,bG,bI,c26,rfl,ag,bJ,_⟩;refine t1W [5] [8,9] [0] ?_;refine oP A5 (hG.Z6 (ag.bE (Z3 0 7) (Z3 7 11)) Z2 hL1 (mC V) _ W) ?_;rintro _ ax aN aP ⟨ay,az,c29,rfl,ab,_⟩;exact pe hm (ab.sE ([4]++Z3 7 11))
     refine brW [2,5,6,8,9] [] ?_;refine oaL zv1 aG ?_;intro cC aQ cD aI;refine tF [2,6] ?_;refine⟨?_,?_,qZt⟩
     . refine brW [5,6,8,9] [1,0] ?_;refine oS A5 (hG.Z6 (aI.bE [0,1,2,3,15,16] (Z3 4 11)) Z2 hL1 (mC h4) _ ad) ?_;rintro _ T9 bj bk ⟨bF,c25,bG,bI,c26,rfl,ae,bJ,_⟩;refine tF [5,6] ?_;refine⟨?_,?_,qZt⟩
       . refine brW [6,8,9] [0] ?_;refine oP A5 (hG.Z6 (ae.bE (Z3 0 6) (Z3 6 11)) Z2 hL1 (mC V) _ W) ?_;rintro _ ax bf bg ⟨ay,az,c29,rfl,af,_⟩;exact pe hm (af.sE ([3]++Z3 6 11))
       refine brW [5,8,9] [] ?_;refine oaL zv1 ae ?_;intro aU aR aV ag;refine t1W [5] [8,9] [0] ?_;refine oP A5 (hG.Z6 (ag.bE (Z3 0 7) (Z3 7 11)) Z2 hL1 (mC V) _ W) ?_;rintro _ ax aN aP ⟨ay,az,c29,rfl,ab,_⟩;exact pe hm (ab.sE ([4]++Z3 7 11))
     refine brW [2,5,8,9] [] ?_;refine oaL zv1 aI ?_;intro bj aR bk ae;refine t1W [2] [5,8,9] [1,0] ?_;refine oS A5 (hG.Z6 (ae.bE (Z3 0 5++[16,17]) (Z3 5 11)) Z2 hL1 (mC h4) _ ad) ?_;rintro _ T9 aU aV ⟨bF,c25,bG,bI,c26,rfl,ag,bJ,_⟩;refine t1W [5] [8,9] [0] ?_;refine oP A5 (hG.Z6 (ag.bE (Z3 0 7) (Z3 7 11)) Z2 hL1 (mC V) _ W) ?_;rintro _ ax aN aP ⟨ay,az,c29,rfl,ab,_⟩;exact pe hm (ab.sE ([4]++Z3 7 11))
   have hm:=C2 hm;refine tF [2,6,7] ?_;refine⟨?_,?_,?_,qZt⟩
   . refine brW [5,6,7,8,9] [1,0] ?_;refine oS A5 (hG.Z6 (aG.bE [0,1,2,14,15] (Z3 3 11)) Z2 hL1 (mC h4) _ ad) ?_;rintro _ T7 cE cF ⟨bK,c21,bL,bM,c22,rfl,aJ,bN,_⟩;refine tF [5,6,7] ?_;refine⟨?_,?_,?_,qZt⟩
     . refine brW [6,7,8,9] [0] ?_;refine oS A5 (hG.Z6 (aJ.bE (Z3 0 5) (Z3 5 11)) Z2 hL1 (mC V) _ W) ?_;rintro _ T8 aW aX ⟨aB,c23,aC,aD,c24,rfl,aa,aE,_⟩;refine tF [6,7] ?_;refine⟨?_,?_,qZt⟩
       . refine brW [7,8,9] [] ?_;refine oaL zv1 aa ?_;intro am bl an D;refine t1W [7] [8,9] [] ?_;refine oaL zv1 D ?_;intro ao ap aq E;refine t1W [8] [9] [] ?_;refine osT 1 E ?_;intro ar au K;refine t1W [9] [] [] ?_;refine osT 0 K ?_;intro av aw O;refine pu ?_;exact je hm (O.sE ([2,3,4]++Z3 7 11++[5,6,1,0]))
       refine brW [6,8,9] [] ?_;refine oaL zv1 aa ?_;intro am bl an D;refine t1W [6] [8,9] [] ?_;refine oaL zv1 D ?_;intro ao ap aq E;refine t1W [8] [9] [] ?_;refine osT 0 E ?_;intro ar au K;refine t1W [9] [] [] ?_;refine osT 1 K ?_;intro av aw O;refine pu ?_;exact je hm (O.sE ([2,3,4]++Z3 7 11++[5,6,0,1]))
     . refine brW [5,7,8,9] [] ?_;refine oaL zv1 aJ ?_;intro aW bl aX aa;refine tF [5,7] ?_;refine⟨?_,?_,qZt⟩
       . refine brW [7,8,9] [0] ?_;refine oS A5 (hG.Z6 (aa.bE (Z3 0 6) (Z3 6 11)) Z2 hL1 (mC V) _ W) ?_;rintro _ T8 am an ⟨aB,c23,aC,aD,c24,rfl,D,aE,_⟩;refine t1W [7] [8,9] [] ?_;refine oaL zv1 D ?_;intro ao ap aq E;refine t1W [8] [9] [] ?_;refine osT 1 E ?_;intro ar au K;refine t1W [9] [] [] ?_;refine osT 0 K ?_;intro av aw O;refine pu ?_;exact je hm (O.sE ([2,3,4]++Z3 7 11++[5,6,1,0]))
       refine brW [5,8,9] [] ?_;refine oaL zv1 aa ?_;intro am ap an D;refine t1W [5] [8,9] [0] ?_;refine oS A5 (hG.Z6 (D.bE (Z3 0 7) (Z3 7 11)) Z2 hL1 (mC V) _ W) ?_;rintro _ T8 ao aq ⟨aB,c23,aC,aD,c24,rfl,E,aE,_⟩;refine t1W [8] [9] [] ?_;refine osT 1 E ?_;intro ar au K;refine t1W [9] [] [] ?_;refine osT 0 K ?_;intro av aw O;refine pu ?_;exact je hm (O.sE ([2,3,4]++Z3 7 11++[5,6,1,0]))
     refine brW [5,6,8,9] [] ?_;refine oaL zv1 aJ ?_;intro aW bl aX aa;refine tF [5,6] ?_;refine⟨?_,?_,qZt⟩
     . refine brW [6,8,9] [0] ?_;refine oS A5 (hG.Z6 (aa.bE (Z3 0 6) (Z3 6 11)) Z2 hL1 (mC V) _ W) ?_;rintro _ T8 am an ⟨aB,c23,aC,aD,c24,rfl,D,aE,_⟩;refine t1W [6] [8,9] [] ?_;refine oaL zv1 D ?_;intro ao ap aq E;refine t1W [8] [9] [] ?_;refine osT 0 E ?_;intro ar au K;refine t1W [9] [] [] ?_;refine osT 1 K ?_;intro av aw O;refine pu ?_;exact je hm (O.sE ([2,3,4]++Z3 7 11++[5,6,0,1]))
     refine brW [5,8,9] [] ?_;refine oaL zv1 aa ?_;intro am ap an D;refine t1W [5] [8,9] [0] ?_;refine oS A5 (hG.Z6 (D.bE (Z3 0 7) (Z3 7 11)) Z2 hL1 (mC V) _ W) ?_;rintro _ T8 ao aq ⟨aB,c23,aC,aD,c24,rfl,E,aE,_⟩;refine t1W [8] [9] [] ?_;refine osT 0 E ?_;intro ar au K;refine t1W [9] [] [] ?_;refine osT 1 K ?_;intro av aw O;refine pu ?_;exact je hm (O.sE ([2,3,4]++Z3 7 11++[5,6,0,1]))
   . refine brW [2,5,7,8,9] [] ?_;refine oaL zv1 aG ?_;intro cE bl cF aJ;refine tF [2,7] ?_;refine⟨?_,?_,qZt⟩
     . refine brW [5,7,8,9] [1,0] ?_;refine oS A5 (hG.Z6 (aJ.bE [0,1,2,3,15,16] (Z3 4 11)) Z2 hL1 (mC h4) _ ad) ?_;rintro _ T7 aW aX ⟨bK,c21,bL,bM,c22,rfl,aa,bN,_⟩;refine tF [5,7] ?_;refine⟨?_,?_,qZt⟩
       . refine brW [7,8,9] [0] ?_;refine oS A5 (hG.Z6 (aa.bE (Z3 0 6) (Z3 6 11)) Z2 hL1 (mC V) _ W) ?_;rintro _ T8 am an ⟨aB,c23,aC,aD,c24,rfl,D,aE,_⟩;refine t1W [7] [8,9] [] ?_;refine oaL zv1 D ?_;intro ao ap aq E;refine t1W [8] [9] [] ?_;refine osT 1 E ?_;intro ar au K;refine t1W [9] [] [] ?_;refine osT 0 K ?_;intro av aw O;refine pu ?_;exact je hm (O.sE ([2,3,4]++Z3 7 11++[5,6,1,0]))
       refine brW [5,8,9] [] ?_;refine oaL zv1 aa ?_;intro am ap an D;refine t1W [5] [8,9] [0] ?_;refine oS A5 (hG.Z6 (D.bE (Z3 0 7) (Z3 7 11)) Z2 hL1 (mC V) _ W) ?_;rintro _ T8 ao aq ⟨aB,c23,aC,aD,c24,rfl,E,aE,_⟩;refine t1W [8] [9] [] ?_;refine osT 1 E ?_;intro ar au K;refine t1W [9] [] [] ?_;refine osT 0 K ?_;intro av aw O;refine pu ?_;exact je hm (O.sE ([2,3,4]++Z3 7 11++[5,6,1,0]))
     refine brW [2,5,8,9] [] ?_;refine oaL zv1 aJ ?_;intro aW ap aX aa;refine t1W [2] [5,8,9] [1,0] ?_;refine oS A5 (hG.Z6 (aa.bE (Z3 0 5++[16,17]) (Z3 5 11)) Z2 hL1 (mC h4) _ ad) ?_;rintro _ T7 am an ⟨bK,c21,bL,bM,c22,rfl,D,bN,_⟩;refine t1W [5] [8,9] [0] ?_;refine oS A5 (hG.Z6 (D.bE (Z3 0 7) (Z3 7 11)) Z2 hL1 (mC V) _ W) ?_;rintro _ T8 ao aq ⟨aB,c23,aC,aD,c24,rfl,E,aE,_⟩;refine t1W [8] [9] [] ?_;refine osT 1 E ?_;intro ar au K;refine t1W [9] [] [] ?_;refine osT 0 K ?_;intro av aw O;refine pu ?_;exact je hm (O.sE ([2,3,4]++Z3 7 11++[5,6,1,0]))
   refine brW [2,5,6,8,9] [] ?_;refine oaL zv1 aG ?_;intro cE bl cF aJ;refine tF [2,6] ?_;refine⟨?_,?_,qZt⟩
   . refine brW [5,6,8,9] [1,0] ?_;refine oS A5 (hG.Z6 (aJ.bE [0,1,2,3,15,16] (Z3 4 11)) Z2 hL1 (mC h4) _ ad) ?_;rintro _ T7 aW aX ⟨bK,c21,bL,bM,c22,rfl,aa,bN,_⟩;refine tF [5,6] ?_;refine⟨?_,?_,qZt⟩
     . refine brW [6,8,9] [0] ?_;refine oS A5 (hG.Z6 (aa.bE (Z3 0 6) (Z3 6 11)) Z2 hL1 (mC V) _ W) ?_;rintro _ T8 am an ⟨aB,c23,aC,aD,c24,rfl,D,aE,_⟩;refine t1W [6] [8,9] [] ?_;refine oaL zv1 D ?_;intro ao ap aq E;refine t1W [8] [9] [] ?_;refine osT 0 E ?_;intro ar au K;refine t1W [9] [] [] ?_;refine osT 1 K ?_;intro av aw O;refine pu ?_;exact je hm (O.sE ([2,3,4]++Z3 7 11++[5,6,0,1]))
     refine brW [5,8,9] [] ?_;refine oaL zv1 aa ?_;intro am ap an D;refine t1W [5] [8,9] [0] ?_;refine oS A5 (hG.Z6 (D.bE (Z3 0 7) (Z3 7 11)) Z2 hL1 (mC V) _ W) ?_;rintro _ T8 ao aq ⟨aB,c23,aC,aD,c24,rfl,E,aE,_⟩;refine t1W [8] [9] [] ?_;refine osT 0 E ?_;intro ar au K;refine t1W [9] [] [] ?_;refine osT 1 K ?_;intro av aw O;refine pu ?_;exact je hm (O.sE ([2,3,4]++Z3 7 11++[5,6,0,1]))
   refine brW [2,5,8,9] [] ?_;refine oaL zv1 aJ ?_;intro aW ap aX aa;refine t1W [2] [5,8,9] [1,0] ?_;refine oS A5 (hG.Z6 (aa.bE (Z3 0 5++[16,17]) (Z3 5 11)) Z2 hL1 (mC h4) _ ad) ?_;rintro _ T7 am an ⟨bK,c21,bL,bM,c22,rfl,D,bN,_⟩;refine t1W [5] [8,9] [0] ?_;refine oS A5 (hG.Z6 (D.bE (Z3 0 7) (Z3 7 11)) Z2 hL1 (mC V) _ W) ?_;rintro _ T8 ao aq ⟨aB,c23,aC,aD,c24,rfl,E,aE,_⟩;refine t1W [8] [9] [] ?_;refine osT 0 E ?_;intro ar au K;refine t1W [9] [] [] ?_;refine osT 1 K ?_;intro av aw O;refine pu ?_;exact je hm (O.sE ([2,3,4]++Z3 7 11++[5,6,0,1]))
 rintro _ bq ⟨T6,bu,be,cr,ct,c18,aK,aj,bv,c19,aM,aF,bw,c20,⟨J,hm,rfl,bh,_⟩,h8,h9⟩;refine qU ?_;refine cB cf195 hm (Z1e (bh.bE (Z3 0 18) [])) ?_;rintro U _ _ cv cw ⟨rfl,bi,_⟩ hm;refine kE ?_;refine bS (r:=X8) (l:=([aj.term,aF.term]:List Y6)) (css:=[(U2 aj.term bv c19),(U2 aF.term bw c20)]) bi ⟨(U1 (x:=aj.term) (mC h8):X8.rp _ _ _ _),(U1 (x:=aF.term) (mC h9):X8.rp _ _ _ _),qZt⟩ ?_;intro cy dh di dj cz dk;refine pv (F0 (by kernel_rfl) rfl (u:= .agg #[iv 6,iv U,.int .u32 0,iv 0,.bool false,iv 0,.bool false,.bool false,.slice dh di dj])) (aL zv3 dk ?_);intro _ aQ _ dl;refine sT 0 dl ?_;intro _ _ aY;refine kE ?_;refine blk (qU ?_);refine fkC (d:=55) (c:=((aj.n==1)&&(aF.n==1))) 4 [(0,pt Y0 Z9),(3,pt b2 0),(4,pt b3 0),(5,pt b4 0),(6,pt b5 0),(7,pt aK 0),(8,pt aM 0),(9,iv U),(10,pt aQ 0)] rfl (fun hk=>zw (aj.n==1) hk) fun J=>?_;refine cd hm ?_ ?_<;>intro dv hm
 . exact zr hm aY
 refine qU ?_;refine fkC (d:=64) (c:=((U==11)||(U==12))) 3 [(0,pt Y0 Z9),(3,pt b2 0),(4,pt b3 0),(5,pt b4 0),(6,pt b5 0),(7,pt aK 0),(8,pt aM 0),(9,iv U)] rfl (fun hk=>zw (U==11) hk) fun J=>?_;refine cd hm ?_ ?_<;>intro dw hm
 . exact zr hm aY
 refine qU ?_;refine fkC (d:=77) (c:=((U==1)&&(aj.n==1))) 4 [(0,pt Y0 Z9),(4,pt b3 0),(5,pt b4 0),(6,pt b5 0),(7,pt aK 0),(8,pt aM 0),(9,iv U)] rfl (fun hk=>zw (U==1) hk) fun J=>?_;refine cd hm ?_ ?_<;>intro dx hm
 . exact zr hm aY
 refine qU ?_;refine fkC (d:=92) (c:=((U==1)||(U==2))) 3 [(0,pt Y0 Z9),(4,pt b3 0),(5,pt b4 0),(6,pt b5 0),(7,pt aK 0),(8,pt aM 0),(9,iv U)] rfl (fun hk=>zw (U==1) hk) fun J=>pu ?_;refine fkC (d:=97) (c:=(((U==1)||(U==2))&&(aF.n==1))) 4 [(0,pt Y0 Z9),(4,pt b3 0),(5,pt b4 0),(6,pt b5 0),(7,pt aK 0),(8,pt aM 0),(9,iv U)] rfl (fun hk=>zw ((U==1)||(U==2)) hk) fun J=>?_;refine cd hm ?_ ?_<;>intro dy hm
 . exact zr hm aY
 refine qU ?_
 rcases bc hm with⟨bW,hm⟩|⟨bW,hm⟩
 . refine pu ?_;refine cB Q1p hm (Y4 (p0:={be with t:=bu}) (aY.bE [2,4,15,16,17] (Z3 5 10)) Z2 hL1) ?_;rintro y9 _ _ _ _ ⟨rfl,dm,_⟩ hm;refine pu ?_;refine fkC (d:=123) (c:=((!y9)||((U !=1)&&(U !=2)))) 7 [(4,pt b3 0),(5,pt b4 0),(6,pt b5 0),(110,.bool (aj.n !=1))] rfl (fun hk=>?_) fun J=>?_
   . rcases Bool.eq_false_or_eq_true (!y9)with aS|aS
     . exact gF3 (d0:=116) rfl rfl (by rw[aS];rfl) (gU (d0:=119) rfl rfl (gU (d0:=119) rfl rfl (gF (d0:=116) rfl rfl (by rw[aS];rfl) (gT (d0:=110) rfl rfl bW (pv (Y6z rfl aS rfl) (wlR (fun J=>hk J _ (by rw[aS];rfl)) ⟨rfl,rfl,rfl,rfl,rfl,qZt⟩))))))
     refine pu ?_;refine fkC (d:=122) (c:=((U !=1)&&(U !=2))) 3 [(4,pt b3 0),(5,pt b4 0),(6,pt b5 0),(110,.bool (aj.n !=1)),(116,.bool (!y9))] rfl (fun hk=>zw (U !=1) hk) fun J=>?_;exact gT (d0:=110) rfl rfl bW (pv (Y7a rfl aS rfl) (wlR (fun J=>hk J _ (by rw[aS];rfl)) ⟨rfl,rfl,rfl,rfl,rfl,qZt⟩))
   exact zr hm dm
 exact zr hm aY
end Go.Proofs.YtbfpdnogfkbiaaaGreat
