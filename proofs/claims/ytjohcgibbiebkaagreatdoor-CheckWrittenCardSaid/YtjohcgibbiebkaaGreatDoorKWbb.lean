/- Go functions compute their models. -/
import Derived.Test.YtjohcgibbiebkaaGreatDoorKWb
set_option linter.unusedVariables false
namespace Go.Proofs.YtjohcgibbiebkaaGreatDoor
open List renaming length → qQ
open _root_.Go.Proofs.Tryz
set_option maxRecDepth 100000
set_option maxHeartbeats 8000000
attribute [local irreducible] wpList wpQuiet Code.wp
variable{g:World}{T0:TP}{w0:World}{R:List X1}
variable{b1 b2 Y3 Q1x Z9o Z9n Y1k c1 c2 c3 c4 c5 c6 c7 c8 c9 c10 c11 c12 c13 n1 n2 n3 n4 n5 n6 n7 Y2 Q1w Z9e Z9d Y0q oo1 oo2:Nat}{H1 H2 Z6 Q0a Z6j Z6i Z9p:Ab->X1}{a1 a2 a3 a4 a5 a6 a7 a8 a9 a10 a11 a12 a13:OA}{r1 r2:Option Nat}{pv1:Value}
attribute [local irreducible] H8 Q1o execOp Program.underlying sizeOf isAgg zeroValue

theorem Q8j{p0:Z0}{p1:U3}(hS:Sep g T0 w0 ([X0 R,Q1 a1 c1 Z6 p0]++Z4o p1 Q0a a2 n1 c2 a3 n2 c3 a4 n3 c4))(Z1:Ln Y3 Y2 Z6)(h1:Q6 a1 c1 T0 w0 p0.l)(Q9e:Ln Q1x Q1w Q0a):∀r,N8 p0 p1=some r->
 Cl 24 #[pt Y3 Y2,pt Q1x Q1w] w0 (exR r (fun r=>J6 T0 w0 fun T w v=>∃a63 c63 a64 n21 c64 a65 n22 c65 a66 n23 c66,v= .tuple #[]/\Sep g T w (R++([Q1 a63 c63 Z6 r.1]++Z4o r.2 Q0a a64 n21 c64 a65 n22 c65 a66 n23 c66))/\Q76 a63 c63 T w r.1.l) (fun r=>L8 T0 w0 fun T w v=>∃a63 c63 a64 n21 c64 a65 n22 c65 a66 n23 c66,v= .iface 58 (Q20 r.1.pos r.1.e)/\Sep g T w (R++([Q1 a63 c63 Z6 r.2.1]++Z4o r.2.2 Q0a a64 n21 c64 a65 n22 c65 a66 n23 c66))/\Q76 a63 c63 T w r.2.1.l)):=by
 intro r hm;refine eN Tryz.func24 Tryz.ntmps24 fun J=>?_;unfold N8 at hm;refine qU ?_;refine cB cf49 hm (I7 (hS.bE [0,2,3,4,5] [1]) Z1 h1) ?_;rintro D _ _ _ _ ⟨rfl,bF,_⟩ hm;refine aL [iv 0,iv 0] bF ?_;intro _ _ _ bG;refine sT 0 bG ?_;intro _ _ bI;refine kB ?_;refine cB cf50 hm (R7 (bI.bE (Z4 0 6) [6]) Z1 (mC h1)) ?_;rintro _ _ _ _ _ ⟨rfl,bn,_⟩ hm;refine pu ?_
 rcases bc hm with⟨bJ,hm⟩|⟨bJ,hm⟩
 . refine pu ?_;refine cB cf51 hm (Q8o (bn.bE (Z4 0 6) [6]) Z1 (mC h1)) ?_;rintro _ _ _ _ _ ⟨rfl,bo,_⟩ hm;refine cd hm ?_ ?_<;>intro eF hm
   . refine qU ?_;refine cP Z6h hm (V6 (bo.bE (Z4 0 6) [6]) Z1 (mC h1)) ?_ ?_
     . exact zk
     rintro _ _ T4 w6 _ ⟨_,c5,rfl,bM,h2,_⟩ hm;refine pn ?_;refine O1 hm (fun bp a w7=>∃T5 x1 a6 c6 b2 U a7 c7,JR (nf 77) g T4 w6 a w7 T5 (bp x1 U=some r) [(0,pt Y3 Y2),(1,pt Q1x Q1w),(5,pt b2 0)] ([X0 R]++(Z4o p1 Q0a a2 n1 c2 a3 n2 c3 a4 n3 c4++[Q1 a6 c6 Z6 x1,K7 b2 (X3j U a7 c7)]))/\Q6 a6 c6 T5 w7 x1.l/\Q26 a7 c7 T5 w7 U.Fields) (fun bp hm=>?_) ?_
     . refine rtPS [1,0,2,0,2,2] [0,1,2,3,4,5] bM (U5 (U5 (C8))) fun w8 eI am=>pu ?_;obtain⟨y5,ao,hm⟩:=bindS hm
       rcases y5 with e1|y5
       . have hm:=G0 hm;refine tF [2,4] ?_;refine⟨?_,?_,qZt⟩
         . refine brW [3,4,5] [] ?_;refine oP cf53 (P9 (am.bE (Z4 1 5++[0]) [6]) Z1 (mC h2) _ ao) ?_;rintro _ T8 _ _ ⟨bO,c10,rfl,bP,h7,_⟩;exact pe hm (bP.sE [0,6,1,2,3,4])
         refine brW [2,3,5] [] ?_;refine oaL zv12 am ?_;intro _ b4 _ bT;refine t1W [2] [3,5] [] ?_;refine oP cf53 (P9 (bT.bE [0,2,3,4,5,6,1] [7]) Z1 (mC h2) _ ao) ?_;rintro _ T8 bU bV ⟨bO,c10,rfl,aD,h7,_⟩;exact pe hm (aD.sE [1,7,2,3,4,5])
       have hm:=C1 hm;refine tF [2,4] ?_;refine⟨?_,?_,qZt⟩
       . refine brW [3,4,5] [] ?_;refine oS cf53 (P9 (am.bE (Z4 1 5++[0]) [6]) Z1 (mC h2) _ ao) ?_;rintro _ T6 w9 bZ ⟨a8,c8,rfl,aE,h5,_⟩;refine pu ?_;refine t0 rfl qZt (fun _=>P3 (by kernel_rfl) rfl (u:= .agg #[iv D.Line,iv D.Col,qZs y5.1,.slice none 0 0])) rfl (t1W [4] [5] [] ?_);refine oaL zv12 aE ?_;intro ce b3 cg aF;refine t1W [5] [] [0] ?_;refine osT 0 aF ?_;intro ci cj aG;refine pu ?_;exact je hm (aG.sE (Z4 1 5++[7,0]))
       refine brW [2,3,5] [] ?_;refine oaL zv12 am ?_;intro w9 b3 bZ aE;refine t1W [2] [3,5] [] ?_;refine oS cf53 (P9 (aE.bE [0,2,3,4,5,6,1] [7]) Z1 (mC h2) _ ao) ?_;rintro _ T6 ce cg ⟨a8,c8,rfl,aF,h5,_⟩;refine pu ?_;refine t0 rfl qZt (fun _=>P3 (by kernel_rfl) rfl (u:= .agg #[iv D.Line,iv D.Col,qZs y5.1,.slice none 0 0])) rfl (t1W [5] [] [0] ?_);refine osT 0 aF ?_;intro ci cj aG;refine pu ?_;exact je hm (aG.sE (Z4 1 5++[7,0]))
     rintro _ w7 ⟨T5,x1,a6,c6,b2,U,a7,c7,⟨J,hm,rfl,aD,_⟩,h3,_⟩;refine qU ?_;refine cP cf54 hm (Q7j (aD.bE (Z4 0 5++[6]) [5]) Z1 h3) ?_ ?_
     . exact zk
     rintro y6 _ _ bU bV ⟨ck,_,c11,_,c12,rfl,cl,_,_⟩ hm;refine sT 5 cl ?_;intro _ _ cm;refine kE ?_;refine rsS [0,0,0,0,1,1,2,2,0,0,2] [0,1,2,3,4,5,6,7,8,9,10] cm fun eK eL cn=>pu ?_;obtain⟨_,_,co,h9,rfl⟩:=cn.sl 7;refine s2W [0] ?_;refine obS (r:=Q8a) (l:=([{U with Fields:=y6.1}]:List S8)) (css:=[[iv U.Pos.Line,iv U.Pos.Col,Q14 U.Name.toArray,sv ck y6.1 c11]]) co ⟨(Y5r (x:={U with Fields:=y6.1}) h9:Q8a.rp _ _ _ _),qZt⟩ ?_;intro _ _ _ c13 _ cq;refine pu ?_;obtain⟨_,cr,hm⟩:=bindS hm;refine s2W [0] ?_;refine oaO 3 cq (K9 cr) ?_;intro _ _ _ c14 _ ct;refine s2W [] ?_;refine osB 2 0 Q9e ct ?_;intro _ _ cu;exact re hm (cu.sE [1,7,2,3,4,5])
   refine kA ?_;refine cP cf55 hm (D3 (bo.bE (Z4 0 6) [6]) Z1 (mC h1)) ?_ ?_
   . exact zk
   rintro K _ _ _ _ ⟨_,c17,rfl,cv,cw,_⟩ hm;refine aL zv10 cv ?_;intro _ b4 _ cx;refine sT 0 cx ?_;intro _ _ cy;refine kA ?_;refine cP cf53 hm (P9 (cy.bE (Z4 0 7) [7]) Z1 (mC cw)) ?_ ?_
   . exact zk
   rintro y8 _ _ _ _ ⟨_,c18,rfl,cz,V,_⟩ hm;refine kB ?_;refine cB cf50 hm (R7 (cz.bE (Z4 0 7) [7]) Z1 V) ?_;rintro _ _ cA cC _ ⟨rfl,bq,_⟩ hm;refine cd hm ?_ ?_<;>intro eM hm
   . refine sq2 (Z1p [0,0,0,0,1,0,1,1,0,0,2,2,2,0,0,2] [0,1,2,3,4,5,6,7,8,9,10,11,12,13,14,15] bq (U5 (U5 (C8))) fun eO eP bt=>pu ?_);refine s0 rfl qZt (fun _=>P3 (by kernel_rfl) rfl (u:= .agg #[iv D.Line,iv D.Col,qZs K.1.Word,qZs K.1.Name,iv K.1.Stars,qZs y8.1,.slice none 0 0,.slice none 0 0,.bool false])) rfl ?_;obtain⟨ab,bu,hm⟩:=bindS hm
     rcases ab with e4|ab
     . have hm:=G0 hm;refine s2 [(4,.slice a3 n2 c3)] rfl qZt rfl (by kernel_rfl) (Z0k cf56 rfl (Q0o (p0:=y8.2) (p1:=(⟨D,K.1,y8.1,[],[],false⟩:J2)) (bt.bE (Z4 2 5++[0,1]) [7]) Z1 (mC V) U0 _ bu) rfl fun eR eS eT eU cD=>?_);obtain⟨_,c24,rfl,cE,_,_⟩:=cD;exact pe hm (cE.sE [0,7,1,2,3,4])
     have hm:=C1 hm;refine sS [(4,.slice a3 n2 c3)] cf56 (Q0o (bt.bE (Z4 2 5++[0,1]) [7]) Z1 (mC V) U0 _ bu) ?_;rintro _ _ _ _ ⟨cF,c19,cG,c20,_,c21,rfl,cI,cJ,cK,_,_⟩;refine s2W [] ?_;refine obS (r:=Q2z) (l:=([ab.1]:List J2)) (css:=[(Z5j ab.1 cF c19 cG c20)]) cI ⟨(Y0j (x:=ab.1) cJ cK:Q2z.rp _ _ _ _),qZt⟩ ?_;intro _ _ _ c22 _ cL;refine pu ?_;obtain⟨_,cM,hm⟩:=bindS hm;refine s2W [0] ?_;refine oaO 4 cL (K9 cM) ?_;intro _ _ _ c23 _ cO;refine s2W [] ?_;refine osB 2 1 Q9e cO ?_;intro _ _ cQ;refine pu ?_;exact seP (B0 [] qZt fun J=>re hm (cQ.sE [1,8,2,3,4,5]))
   refine pn ?_;refine O1 hm (fun bv a ac=>∃ad x3 aJ c25 b5 E aq c26 aM c27,JR (nf 77) g cA cC a ac ad (bv x3 E=some r) [(0,pt Y3 Y2),(1,pt Q1x Q1w),(8,pt b5 0)] ([X0 R]++(Z4o p1 Q0a a2 n1 c2 a3 n2 c3 a4 n3 c4++[Q1 aJ c25 Z6 x3,K7 b5 (Z8n E aq c26 aM c27)]))/\Q6 aJ c25 ad ac x3.l/\Q26 aq c26 ad ac E.Params/\Q23 aM c27 ad ac E.Body) (fun bv hm=>?_) ?_
   . refine rtPS [1,1,0,0,2,0,2,2] [0,1,2,3,4,5,6,7] bq (U5 (C8)) fun eV eW ar=>pu ?_;obtain⟨bw,au,hm⟩:=bindS hm
     rcases bw with e5|bw
     . have hm:=G0 hm;refine tF [4,6] ?_;refine⟨?_,?_,qZt⟩
       . refine brW [5,6,7] [] ?_;refine oP cf57 (B7 (ar.bE (Z4 2 5++[0,1]) [7]) Z1 (mC V) _ au) ?_;rintro _ cR _ _ ⟨cT,cU,rfl,cV,cW,_⟩;exact pe hm (cV.sE [0,7,1,2,3,4])
       refine brW [4,5,7] [] ?_;refine oaL zv6 ar ?_;intro _ b7 _ cY;refine t1W [4] [5,7] [] ?_;refine oP cf57 (B7 (cY.bE [0,3,4,5,6,7,1,2] [8]) Z1 (mC V) _ au) ?_;rintro _ cR cZ da ⟨cT,cU,rfl,aN,cW,_⟩;exact pe hm (aN.sE [1,8,2,3,4,5])
     have hm:=C1 hm;refine tF [4,6] ?_;refine⟨?_,?_,qZt⟩
     . refine brW [5,6,7] [] ?_;refine oS cf57 (B7 (ar.bE (Z4 2 5++[0,1]) [7]) Z1 (mC V) _ au) ?_;rintro _ db dc dd ⟨aP,n9,c28,de,c29,rfl,aR,dg,_⟩;refine pu ?_;refine t0 rfl qZt (fun _=>P3 (by kernel_rfl) rfl (u:= .agg #[iv D.Line,iv D.Col,qZs K.1.Word,qZs K.1.Name,iv K.1.Stars,qZs y8.1,.slice aP n9 c28,.slice none 0 0])) rfl (t1W [6] [7] [] ?_);refine oaL zv6 aR ?_;intro dh b6 dj aS;refine t1W [7] [] [0,0] ?_;refine osT 0 aS ?_;intro dk dl aT;refine pu ?_;obtain⟨dm,dn,aU,dp,rfl⟩:=aT.sl 9;exact je hm (aU.sE (Z4 1 5++[8,0]))
     refine brW [4,5,7] [] ?_;refine oaL zv6 ar ?_;intro dc b6 dd aR;refine t1W [4] [5,7] [] ?_;refine oS cf57 (B7 (aR.bE [0,3,4,5,6,7,1,2] [8]) Z1 (mC V) _ au) ?_;rintro _ db dh dj ⟨aP,n9,c28,de,c29,rfl,aS,dg,_⟩;refine pu ?_;refine t0 rfl qZt (fun _=>P3 (by kernel_rfl) rfl (u:= .agg #[iv D.Line,iv D.Col,qZs K.1.Word,qZs K.1.Name,iv K.1.Stars,qZs y8.1,.slice aP n9 c28,.slice none 0 0])) rfl (t1W [7] [] [0,0] ?_);refine osT 0 aS ?_;intro dk dl aT;refine pu ?_;obtain⟨dm,dn,aU,dp,rfl⟩:=aT.sl 9;exact je hm (aU.sE (Z4 1 5++[8,0]))
   rintro _ ac ⟨ad,x3,aJ,c25,b5,E,aq,c26,aM,c27,⟨J,hm,rfl,aN,_⟩,dq,dr,_⟩;refine qU ?_;refine cP cf58 hm (Z2n (aN.bE (Z4 0 5++[6]) [5]) Z1 dq) ?_ ?_
   . exact zk
   rintro aV _ _ cZ da ⟨ds,_,du,_,_,rfl,dv,dw,_⟩ hm;refine sT 5 dv ?_;intro _ _ dx;refine pn ?_;refine rsS [0,0,0,0,1,1,2,2,0,0,2] [0,1,2,3,4,5,6,7,8,9,10] dx fun eY eZ dy=>pu ?_;obtain⟨_,_,dz,dA,rfl⟩:=dy.sl 7;refine s2W [0] ?_;refine obS (r:=Z1z) (l:=([{E with Body:=aV.1}]:List L6)) (css:=[[iv E.Pos.Line,iv E.Pos.Col,Q14 E.Ret.Word.toArray,Q14 E.Ret.Name.toArray,iv E.Ret.Stars,Q14 E.Name.toArray,sv aq E.Params c26,sv ds aV.1 du]]) dz ⟨(Y4x (x:={E with Body:=aV.1}) (mC dr) dA:Z1z.rp _ _ _ _),qZt⟩ ?_;intro _ _ _ _ _ dB;refine pu ?_;obtain⟨_,dC,hm⟩:=bindS hm;refine s2W [0] ?_;refine oaO 5 dB (K9 dC) ?_;intro _ _ _ _ _ dD;refine s2W [] ?_;refine osB 2 2 Q9e dD ?_;intro _ _ dE;refine pu ?_;have hm:=oI hm;subst hm;refine pn ?_;exact Q6y rfl ⟨_,rfl,_,ch,⟨_,_,_,_,_,_,_,_,_,_,_,rfl,(dE.sE [1,7,2,3,4,5]).unb,(mC dw),qZt⟩⟩
 refine pn ?_;refine cnd (b:=false) rfl (fun h=>nomatch h) (fun _=>pn ?_);refine qU ?_;refine cP cf55 hm (D3 (bn.bE (Z4 0 6) [6]) Z1 (mC h1)) ?_ ?_
 . exact zk
 rintro O _ _ _ _ ⟨_,_,rfl,dF,dG,_⟩ hm;refine aL zv10 dF ?_;intro _ b7 _ dI;refine sT 0 dI ?_;intro _ _ dJ;refine kA ?_;refine cP cf53 hm (P9 (dJ.bE (Z4 0 7) [7]) Z1 (mC dG)) ?_ ?_
 . exact zk
 rintro ae _ _ _ _ ⟨_,_,rfl,dK,W,_⟩ hm;refine kB ?_;refine cB cf50 hm (R7 (dK.bE (Z4 0 7) [7]) Z1 W) ?_;rintro _ _ dL dM _ ⟨rfl,bz,_⟩ hm;refine cd hm ?_ ?_<;>intro e0 hm
 . refine sq2 (Z1p [0,0,0,0,1,0,1,1,0,0,2,2,2,0,0,2] [0,1,2,3,4,5,6,7,8,9,10,11,12,13,14,15] bz (U5 (U5 (C8))) fun e2 e3 bA=>pu ?_);refine s0 rfl qZt (fun _=>P3 (by kernel_rfl) rfl (u:= .agg #[iv D.Line,iv D.Col,qZs O.1.Word,qZs O.1.Name,iv O.1.Stars,qZs ae.1,.slice none 0 0,.slice none 0 0,.bool false])) rfl ?_;obtain⟨af,bB,hm⟩:=bindS hm
   rcases af with e9|af
   . have hm:=G0 hm;refine s2 [(4,.slice a3 n2 c3)] rfl qZt rfl (by kernel_rfl) (Z0k cf56 rfl (Q0o (p0:=ae.2) (p1:=(⟨D,O.1,ae.1,[],[],false⟩:J2)) (bA.bE (Z4 2 5++[0,1]) [7]) Z1 (mC W) U0 _ bB) rfl fun e7 e8 fa fb dN=>?_);obtain⟨_,_,rfl,dO,_,_⟩:=dN;exact pe hm (dO.sE [0,7,1,2,3,4])
   have hm:=C1 hm;refine sS [(4,.slice a3 n2 c3)] cf56 (Q0o (bA.bE (Z4 2 5++[0,1]) [7]) Z1 (mC W) U0 _ bB) ?_;rintro _ _ _ _ ⟨dP,dQ,dR,dS,_,_,rfl,dT,dU,dV,_,_⟩;refine s2W [] ?_;refine obS (r:=Q2z) (l:=([af.1]:List J2)) (css:=[(Z5j af.1 dP dQ dR dS)]) dT ⟨(Y0j (x:=af.1) dU dV:Q2z.rp _ _ _ _),qZt⟩ ?_;intro _ _ _ _ _ dW;refine pu ?_;obtain⟨_,dX,hm⟩:=bindS hm;refine s2W [0] ?_;refine oaO 4 dW (K9 dX) ?_;intro _ _ _ _ _ dY;refine s2W [] ?_;refine osB 2 1 Q9e dY ?_;intro _ _ dZ;refine pu ?_;exact seP (B0 [] qZt fun J=>re hm (dZ.sE [1,8,2,3,4,5]))
 refine pn ?_;refine O1 hm (fun bC a ag=>∃ah x5 aW aX b8 I aw ax aZ a9,JR (nf 77) g dL dM a ag ah (bC x5 I=some r) [(0,pt Y3 Y2),(1,pt Q1x Q1w),(8,pt b8 0)] ([X0 R]++(Z4o p1 Q0a a2 n1 c2 a3 n2 c3 a4 n3 c4++[Q1 aW aX Z6 x5,K7 b8 (Z8n I aw ax aZ a9)]))/\Q6 aW aX ah ag x5.l/\Q26 aw ax ah ag I.Params/\Q23 aZ a9 ah ag I.Body) (fun bC hm=>?_) ?_
 . refine rtPS [1,1,0,0,2,0,2,2] [0,1,2,3,4,5,6,7] bz (U5 (C8)) fun fc fd ay=>pu ?_;obtain⟨bD,az,hm⟩:=bindS hm
   rcases bD with fe|bD
   . have hm:=G0 hm;refine tF [4,6] ?_;refine⟨?_,?_,qZt⟩
     . refine brW [5,6,7] [] ?_;refine oP cf57 (B7 (ay.bE (Z4 2 5++[0,1]) [7]) Z1 (mC W) _ az) ?_;rintro _ d0 _ _ ⟨d1,d2,rfl,d4,d5,_⟩;exact pe hm (d4.sE [0,7,1,2,3,4])
     refine brW [4,5,7] [] ?_;refine oaL zv6 ay ?_;intro _ _ _ d6;refine t1W [4] [5,7] [] ?_;refine oP cf57 (B7 (d6.bE [0,3,4,5,6,7,1,2] [8]) Z1 (mC W) _ az) ?_;rintro _ d0 d7 d8 ⟨d1,d2,rfl,ba,d5,_⟩;exact pe hm (ba.sE [1,8,2,3,4,5])
   have hm:=C1 hm;refine tF [4,6] ?_;refine⟨?_,?_,qZt⟩
   . refine brW [5,6,7] [] ?_;refine oS cf57 (B7 (ay.bE (Z4 2 5++[0,1]) [7]) Z1 (mC W) _ az) ?_;rintro _ d9 ea eb ⟨be,bf,bg,ec,ed,rfl,bh,ee,_⟩;refine pu ?_;refine t0 rfl qZt (fun _=>P3 (by kernel_rfl) rfl (u:= .agg #[iv D.Line,iv D.Col,qZs O.1.Word,qZs O.1.Name,iv O.1.Stars,qZs ae.1,.slice be bf bg,.slice none 0 0])) rfl (t1W [6] [7] [] ?_);refine oaL zv6 bh ?_;intro ef b9 eh bi;refine t1W [7] [] [0,0] ?_;refine osT 0 bi ?_;intro w64 ei bj;refine pu ?_;obtain⟨ej,ek,bk,el,rfl⟩:=bj.sl 9;exact je hm (bk.sE (Z4 1 5++[8,0]))
   refine brW [4,5,7] [] ?_;refine oaL zv6 ay ?_;intro ea b9 eb bh;refine t1W [4] [5,7] [] ?_;refine oS cf57 (B7 (bh.bE [0,3,4,5,6,7,1,2] [8]) Z1 (mC W) _ az) ?_;rintro _ d9 ef eh ⟨be,bf,bg,ec,ed,rfl,bi,ee,_⟩;refine pu ?_;refine t0 rfl qZt (fun _=>P3 (by kernel_rfl) rfl (u:= .agg #[iv D.Line,iv D.Col,qZs O.1.Word,qZs O.1.Name,iv O.1.Stars,qZs ae.1,.slice be bf bg,.slice none 0 0])) rfl (t1W [7] [] [0,0] ?_);refine osT 0 bi ?_;intro w64 ei bj;refine pu ?_;obtain⟨ej,ek,bk,el,rfl⟩:=bj.sl 9;exact je hm (bk.sE (Z4 1 5++[8,0]))
 rintro _ ag ⟨ah,x5,aW,aX,b8,I,aw,ax,aZ,a9,⟨J,hm,rfl,ba,_⟩,em,en,_⟩;refine qU ?_;refine cP cf58 hm (Z2n (ba.bE (Z4 0 5++[6]) [5]) Z1 em) ?_ ?_
 . exact zk
 rintro bm _ _ d7 d8 ⟨ep,_,es,_,_,rfl,et,eu,_⟩ hm;refine sT 5 et ?_;intro _ _ ew;refine pn ?_;refine rsS [0,0,0,0,1,1,2,2,0,0,2] [0,1,2,3,4,5,6,7,8,9,10] ew fun ff fg ey=>pu ?_;obtain⟨_,_,ez,eA,rfl⟩:=ey.sl 7;refine s2W [0] ?_;refine obS (r:=Z1z) (l:=([{I with Body:=bm.1}]:List L6)) (css:=[[iv I.Pos.Line,iv I.Pos.Col,Q14 I.Ret.Word.toArray,Q14 I.Ret.Name.toArray,iv I.Ret.Stars,Q14 I.Name.toArray,sv aw I.Params ax,sv ep bm.1 es]]) ez ⟨(Y4x (x:={I with Body:=bm.1}) (mC en) eA:Z1z.rp _ _ _ _),qZt⟩ ?_;intro _ _ _ _ _ eB;refine pu ?_;obtain⟨_,eC,hm⟩:=bindS hm;refine s2W [0] ?_;refine oaO 5 eB (K9 eC) ?_;intro _ _ _ _ _ eD;refine s2W [] ?_;refine osB 2 2 Q9e eD ?_;intro _ _ eE;refine pu ?_;have hm:=oI hm;subst hm;refine pn ?_;exact Q6y rfl ⟨_,rfl,_,ch,⟨_,_,_,_,_,_,_,_,_,_,_,rfl,(eE.sE [1,7,2,3,4,5]).unb,(mC eu),qZt⟩⟩

instance:Ct 24 @Q8j:=⟨@Q8j,cf24⟩
theorem Q6m{p0:Z0}(hS:Q30 a1 c1 Z6 T0 g w0 R p0)(Z1:Ln Y3 Y2 Z6)(h1:Q6 a1 c1 T0 w0 p0.l):∀r,Q0k p0=some r->
 Cl 10 #[pt Y3 Y2] w0 (exR r (fun r=>J6 T0 w0 fun T w v=>∃a14 c14 a15 c15 a16 c16 a17 c17,v= .tuple #[Q47 a14 a15 a16 c14 c15 c16 r.1,.pointer none]/\Q69 a17 c17 Z6 T g w R r.2/\Q56 a14 c14 T w r.1/\Q26 a15 c15 T w r.1.Globals/\Q67 a16 c16 T w r.1/\Q76 a17 c17 T w r.2.l) (fun r=>J6 T0 w0 fun T w v=>∃a14 c14 a15 c15 a16 c16 b4 a17 c17,v= .tuple #[Q47 a14 a15 a16 c14 c15 c16 r.1,pt b4 0]/\Sep g T w (R++[Q1 a17 c17 Z6 r.2.2,K7 b4 (N6 r.2.1.pos r.2.1.e)])/\Q56 a14 c14 T w r.1/\Q26 a15 c15 T w r.1.Globals/\Q67 a16 c16 T w r.1/\Q76 a17 c17 T w r.2.2.l)):=by
 intro r hm;refine Y7z Tryz.func10 rfl Tryz.ntmps10 rfl fun J=>?_;unfold Q0k at hm;refine sq2 (aL zv13 hS ?_);intro _ D _ am;refine aL [.pointer none] am ?_;intro w2 E _ ao;refine kA ?_;refine pv (Y3w (u:= .func (.func 23) #[] #[pt D 0,pt E 0]) rfl) (wl rfl (dfO (f:=23) (cap:=#[pt D 0,pt E 0]) rfl (pn ?_)));refine sq2 ?_;have ap:=ao.nilO Q8a 64;have aq:=ap.nilO Q2z 71;have ar:=aq.nilO Z1z 75;refine lpJ hm (fun ah o1 m a U=>∃V K I W n1 c2 a3 n2 c3 a4 n3 c4 a5 c5,JR (⟨14,[⟨.fn (.func 23) #[pt D 0,pt E 0],#[]⟩]⟩) g T0 w2 a U V (loopM ah m (I,K)=some o1) [(0,pt Y3 Y2),(2,pt D 0),(3,pt E 0)] [F5 Z1z 75 (.slice W n1 c2) I.Funcs,F5 Q2z 71 (.slice a3 n2 c3) I.Globals,F5 Q8a 64 (.slice a4 n3 c4) I.Structs,K7 E [.pointer none],K7 D [.slice a4 n3 c4,.slice a3 n2 c3,.slice W n1 c2],X0 R,Q1 a5 c5 Z6 K]/\Q6 a5 c5 V U K.l) (fun _ _ h=>je h (ar.sN 0 7)) ?_;rintro ah au o1 aj _ _ U ⟨V,K,I,W,n1,c2,a3,n2,c3,a4,n3,c4,a5,c5,⟨J,av,rfl,ak,_⟩,h2⟩;obtain⟨m1,_,rfl,hm,ag⟩:=lrE av au;refine sq2 (sq2 (cd hm ?_ ?_))<;>intro aI hm
 . refine pn ?_;refine blk (pu ?_);refine cP cf24 hm (Q8j (ak.bE [3,5] [6,4,2,1,0]) Z1 h2 (Q1j D)) ?_ ?_
   . rintro O _ _ _ _ ⟨_,c10,_,_,c11,_,_,c12,_,_,c13,rfl,aw,_,_⟩ hm;refine pn ?_;refine panD cf23 (Y9f (args:=[pt D 0,pt E 0]) Tryz.func23 rfl Tryz.ntmps23 rfl rfl rfl fun J=>sq2 (qU ?_));refine pv (Z3v (v:= .iface 58 (.agg (N6 O.1.pos O.1.e).toArray)) rfl) (pv (Y9h rfl (by kernel_rfl)) (pn ?_));refine cnd (b:=false) rfl (fun h=>nomatch h) (fun _=>pn ?_);refine qU ?_;refine pv (Z3v (v:= .iface 58 (.agg (N6 O.1.pos O.1.e).toArray)) rfl) (pv (r_ta rfl (by kernel_rfl)) (aL [iv 0,iv 0,iv 0] aw ?_));intro _ _ _ ax;refine sT 0 ax ?_;intro _ _ ay;refine pn ?_;refine pv (P3 (by kernel_rfl) rfl (u:= .agg #[.slice none 0 0,.slice none 0 0,.slice none 0 0])) (sT 4 ay ?_);intro _ _ az;refine sT 1 az ?_;intro _ _ aA;have hm:=Q5e hm ag aj;exact eo hm (aA.sE [2,3,0])
   rintro _ _ _ _ _ ⟨_,c6,_,_,c7,_,_,c8,_,_,c9,rfl,aB,h3,_⟩ hm;exact lg hm ag (aB.sE [6,5,4,0,3,1,2])
 have hm:=Q7b hm ag aj;refine kE ?_;refine sT 4 ak ?_;intro _ _ aC;refine sT 3 aC ?_;intro _ _ aD;refine pn ?_;refine pn ?_;refine retD cf23 (recN2 (args:=[pt D 0,pt E 0]) Tryz.func23 rfl Tryz.ntmps23 rfl rfl rfl fun J=>sq2 (qU ?_));refine pv (Z3v (v:= .nilIface) rfl) (pv (r_eqn rfl (by kernel_rfl)) (pn ?_));refine cnd (b:=true) rfl (fun _=>?_) (fun h=>nomatch h);obtain⟨_,_,aE,_,rfl⟩:=aD.sl 2;obtain⟨_,_,aF,h6,rfl⟩:=aE.sl 1;obtain⟨_,_,aG,_,rfl⟩:=aF.sl 0;exact eo hm (aG.sE [5,6])

instance:Ct 10 @Q6m:=⟨@Q6m,cf10⟩
theorem Z0f{p0:Aa}(hS:Sep g T0 w0 [X0 R])(hG0:Gi T0 w0 0):∀r,Q5i p0=some r->
 Cl 5 #[Q14 p0.toArray] w0 (J6 T0 w0 fun T w v=>∃a10 c10 a11 c11 a12 c12,v= .tuple #[Q47 a10 a11 a12 c10 c11 c12 r.1,Q36 r.2.1,iv r.2.2]/\Sep g T w (R++[])/\Q56 a10 c10 T w r.1/\Q26 a11 c11 T w r.1.Globals/\Q67 a12 c12 T w r.1/\True):=by
 intro r hm;refine eN Tryz.func5 Tryz.ntmps5 fun J=>?_;unfold Q5i at hm;refine sq2 (aL zv13 hS ?_);intro _ E _ ab;refine aL [iv 0,iv 0] ab ?_;intro _ I _ ac;refine kA ?_;refine cB cf9 hm (Y0z (ac.bE [0,1,2] []) (hG0.mono ch)) ?_;rintro D _ _ _ _ ⟨a1,K,c1,rfl,ad,_⟩ hm;refine aL [iv 0,iv 0] ad ?_;intro _ b3 _ af;refine sT 0 af ?_;intro _ _ O;refine pn ?_;refine sq2 (sq2 (cd hm ?_ ?_))<;>intro az hm
 . refine sq2 (rsS [0,1,0,2,2,0] [0,1,2,3,4,5] O fun w6 aB ag=>?_);have dd:KD [(3,[]),(4,[1,3])]:=⟨qZt⟩;exact zr hm ag
 refine kA ?_;refine pv (P3 (by kernel_rfl) rfl (u:= .agg #[.slice a1 K c1,iv D.2.1.Line,iv D.2.1.Col,iv 0])) (bX [.slice a1 K c1,iv D.2.1.Line,iv D.2.1.Col,iv 0] O ?_);intro _ U _ ah;refine kA ?_;obtain⟨_,_,V,h1,rfl⟩:=ah.sl 5;obtain⟨W,aa,hm⟩:=bindS hm
 rcases W with e1|W
 . have hm:=G0 hm;refine cS cf10 (Q6m (V.bE (Z4 1 4) [0]) (Q1j U) h1 _ aa) ?_;rintro _ _ _ _ ⟨_,c6,_,c7,_,c8,_,_,c9,rfl,aj,h6,_,_,_,_⟩;refine aL zv13 aj ?_;intro _ _ _ ak;refine sT 0 ak ?_;intro _ _ am;refine kB ?_;refine pv (Y7a rfl rfl rfl underlying54) (pn ?_);refine cnd (b:=true) rfl (fun _=>?_) (fun h=>nomatch h);refine sq2 (rsS [0,0,0,0,1,0,0,0,1,2,2,0] [0,1,2,3,4,5,6,7,8,9,10,11] am fun aD aE an=>s0 rfl qZt (fun _=>P3 (by kernel_rfl) rfl (u:= .agg #[.slice none 0 0,.slice none 0 0,.slice none 0 0])) rfl (pu ?_));refine s2W [] ?_;refine osT 3 an ?_;intro _ _ ao;refine⟨st1 rfl opv (st1 rfl ?_ st0),?_⟩
   . with_reducible apply r_ldP
     . exact rfl
     . exact tyA
     . exact tyS
     . assumption
     . exact atS
     . exact(rfl:_=[_,_])
     . exact rfl
   refine s2W [1,0] ?_;refine osT 2 ao ?_;intro _ _ ap;refine pu ?_;exact se (B0 [(2,pt E 0),(3,pt I 0),(4,iv e1.2.1.e)] ⟨rfl,rfl,rfl,qZt⟩ fun J=>re hm (ap.sE [4]))
 have hm:=C1 hm;refine cS cf10 (Q6m (V.bE (Z4 1 4) [0]) (Q1j U) h1 _ aa) ?_;rintro _ _ _ _ ⟨_,c2,_,c3,_,c4,_,c5,rfl,aq,h2,h3,_,_,_⟩;refine aL zv13 aq ?_;intro _ b5 _ au;refine sT 0 au ?_;intro _ _ av;refine kB ?_;refine pv (Y7a rfl rfl rfl underlying54) (pn ?_);refine cnd (b:=false) rfl (fun h=>nomatch h) (fun _=>skp (B0 [(2,pt E 0),(3,pt I 0),(6,pt b3 0),(9,pt b5 0)] ⟨rfl,rfl,rfl,rfl,qZt⟩ fun J=>sq2 (rsS [1,1,2,2,0] [0,1,2,3,4] av fun aF aG aw=>s2W [1,0] ?_)));refine osT 3 aw ?_;intro _ _ ax;refine s2W [0] ?_;refine osT 2 ax ?_;intro _ _ ay;exact re hm (ay.sE [4])

instance:Ct 5 @Z0f:=⟨@Z0f,cf5⟩
theorem Z8c(hS:Sep g T0 w0 [X0 R]):∀r,Y4h=some r->
 Cl 16 #[] w0 (J6 T0 w0 fun T w v=>∃b2 a2 n2 c2,v=pt b2 0/\Sep g T w (R++[Q91 a2 b2 n2 c2,Q9 a2 n2 c2 r])/\True):=by
 intro r hm;refine eN Tryz.func16 Tryz.ntmps16 fun J=>?_;unfold Y4h at hm;refine qN ?_;refine qU ?_;refine pv (P3 (by kernel_rfl) rfl (u:= .agg #[iv 0,iv 0,iv 0,Q44,.slice none 0 0,iv 0,iv 0,.bool false])) (pv (P3 (by kernel_rfl) rfl (u:= .agg #[iv 1,iv 0,iv 0,Q44,.slice none 0 0])) (pv (P3 (by kernel_rfl) rfl (u:= .agg #[iv 1,iv 0,iv 0,Q44,.slice none 0 0,iv 4,iv 4,.bool false])) (pv (P3 (by kernel_rfl) rfl (u:= .agg #[iv 2,iv 0,iv 0,Q44,.slice none 0 0])) (pv (P3 (by kernel_rfl) rfl (u:= .agg #[iv 2,iv 0,iv 0,Q44,.slice none 0 0,iv 1,iv 1,.bool false])) (bS (r:=P6) (l:=([(⟨(⟨0,0,0,([]:Aa),[]⟩:Q7d),0,0,false⟩:K3),(⟨(⟨1,0,0,([]:Aa),[]⟩:Q7d),4,4,false⟩:K3),(⟨(⟨2,0,0,([]:Aa),[]⟩:Q7d),1,1,false⟩:K3)]:List K3)) (css:=[zv16,[iv 1,iv 0,iv 0,Q44,.slice none 0 0,iv 4,iv 4,.bool false],[iv 2,iv 0,iv 0,Q44,.slice none 0 0,iv 1,iv 1,.bool false]]) hS ⟨(Q2n (x:=(⟨(⟨0,0,0,([]:Aa),[]⟩:Q7d),0,0,false⟩:K3)) U0:P6.rp _ _ _ _),(Q2n (x:=(⟨(⟨1,0,0,([]:Aa),[]⟩:Q7d),4,4,false⟩:K3)) U0:P6.rp _ _ _ _),(Q2n (x:=(⟨(⟨2,0,0,([]:Aa),[]⟩:Q7d),1,1,false⟩:K3)) U0:P6.rp _ _ _ _),qZt⟩ ?_)))));intro _ a1 D c1 _ E;refine pv (P3 (by kernel_rfl) rfl (u:= .agg #[.slice a1 D c1])) (bX [.slice a1 D c1] E ?_);intro _ _ _ I;exact re hm (I.sE [2,0,1])

instance:Ct 16 @Z8c:=⟨@Z8c,cf16⟩
theorem wlK{P:Program}{ops:Array Oper}{rest:Ah}{Q:Ac}{n:NF}{J:Nat->Value}{L M:List (Nat×Value)}{d:Nat}{w:World}{b c:Bool}(hk:∀(J:Nat->Value)(b:Bool),b=c->wpList P ops Q rest (env n J ((d,.bool b)::M)) w)(hs:Has n J L ((d,.bool b)::M))(e:b=c):wpList P ops Q rest (env n J L) w:=wlR (fun J=>hk J b e) hs
theorem zw{A H:Prop}(b:Bool)(hk:H)(h:(b=true\/b=false)->H->A:=by
 rintro(hb|hb) hk<;>(repeat(first|exact wlK hk (by repeat(first|exact qZt|refine⟨rfl,?_⟩)) (by rw[hb];rfl)|with_reducible refine rg ?_|((with_reducible apply pv);exact opv)|((with_reducible apply gT);exact rfl;exact rfl;(first|assumption|exact rfl))|((with_reducible apply gF);exact rfl;exact rfl;(first|assumption|exact rfl))|((with_reducible apply gU);exact rfl;exact rfl)|((with_reducible apply s0a);exact rfl;exact rfl;exact gwS;intro _;exact opv)|((with_reducible apply sUa);exact rfl;exact gUS)|((with_reducible apply s1a);exact rfl;exact rfl;exact gwS;exact opv)|((with_reducible apply And.intro);exact stS)|((with_reducible apply qv);intro _ _;exact opq)|((with_reducible apply qgT);exact rfl;exact rfl;(first|assumption|exact rfl))|((with_reducible apply qgF);exact rfl;exact rfl;(first|assumption|exact rfl))|((with_reducible apply qgU);exact rfl;exact rfl)|((with_reducible apply t0a);exact rfl;exact rfl;exact rfl;exact gwS;intro _;exact opv)|((with_reducible apply tUa);exact rfl;exact rfl;exact gUS;kernel_rfl)|((with_reducible apply t1a);exact rfl;exact rfl;exact rfl;exact gwS;exact opv)))):A:=h (Bool.eq_false_or_eq_true b) hk
theorem Q7t{p0:K3}{p1:Aa}(hS:Sep g T0 w0 [X0 R,Q0a [Q14 p1.toArray]])(h1:Q50 a1 c1 T0 w0 p0.Type_.Fields)(Q9e:Ln Q1x Q1w Q0a):∀r,Q7u p0 p1=some r->
 Cl 134 #[.agg (Q3n p0 a1 c1).toArray,pt Q1x Q1w] w0 (J6 T0 w0 fun T w v=>v= .bool r/\Sep g T w (R++[Q0a [Q14 p1.toArray]])/\True):=by
 intro r hm;refine eN Tryz.func134 Tryz.ntmps134 fun J=>?_;unfold Q7u at hm;refine sq2 (bX (Q3n p0 a1 c1) hS ?_);intro _ _ _ D;refine kA ?_;exact fkC (d:=14) (c:=((p0.Type_.Kind==5)&&(decide (p0.Type_.Name=p1)))) 6 [] rfl (fun hk=>zw (p0.Type_.Kind==5) hk) fun J=>re hm (D.sE [1,2])

instance:Ct 134 @Q7t:=⟨@Q7t,cf134⟩
theorem Q8t{p0:List K3}{v_p0}{Z6:X1}{p1:Aa}(hS:Sep g T0 w0 [X0 R,Z6,Q0a [Q14 p1.toArray]])(hV_p0:Vw Z6 P6 v_p0 p0)(Q9e:Ln Q1x Q1w Q0a):∀r,Q6s p0 p1=some r->
 Cl 133 #[v_p0,.func (.func 134) #[] #[pt Q1x Q1w]] w0 (J6 T0 w0 fun T w v=>v=iv r/\Sep g T w (R++[Z6,Q0a [Q14 p1.toArray]])/\True):=by
 intro r hm;refine eN Tryz.func133 Tryz.ntmps133 fun J=>?_;unfold Q6s at hm;refine qN ?_;refine sq2 (qU ?_);refine pv (Z3v (v:=v_p0) rfl) (pv (r_lnV rfl (hS.view (i:=1) ⟨rfl,rfl⟩ hV_p0) underlying126) (pn ?_));refine lpJ hm (fun I K m a O=>∃U D,JR (nf 19) g T0 w0 a O U (loopM I m D=some K) [(0,v_p0),(1,.func (.func 134) #[] #[pt Q1x Q1w]),(7,iv (qQ p0:Int)),(8,iv D)] [X0 R,Z6,Q0a [Q14 p1.toArray]]) (fun _ _ h=>je h (hS.sE [0,1,2])) ?_;rintro I aa K ab _ _ O ⟨U,D,J,ac,rfl,E,_⟩;obtain⟨m1,_,rfl,hm,V⟩:=lrE ac aa;refine qN ?_;refine sq2 (cd hm ?_ ?_)<;>intro af hm
 . refine kE ?_;refine blk (qN ?_);refine sq2 ?_;obtain⟨u1,ad,hm⟩:=bindS hm;obtain⟨cs1,ae,_⟩:=(E.view (i:=1) ⟨rfl,rfl⟩ hV_p0).ixcS ad rfl;obtain⟨a1,c1,rfl,h1⟩:=L4 ae;refine pu ?_;refine pv (Z3v (v:=v_p0) rfl) (pu ?_);refine cB cf134 hm (Q7t (E.bE [0,1] [2]) h1 Q9e) ?_;rintro _ _ _ _ _ ⟨rfl,W,_⟩ hm;refine cd hm ?_ ?_<;>intro ag hm
   . refine qN ?_;have hm:=Q5e hm V ab;exact re hm (W.sE [0,1,2])
   exact lg hm V (W.sE [0,1,2])
 exact zr hm E

instance:Ct 133 @Q8t:=⟨@Q8t,cf133⟩
theorem Q9a{p0:Z9}{p1:Aa}(hS:Q28 a1 n1 c1 Z6 T0 g w0 R p0)(Z1:Ln Y3 Y2 Z6):∀r,Q2i p0 p1=some r->
 Cl 95 #[pt Y3 Y2,Q14 p1.toArray] w0 (Q92 a1 n1 c1 Z6 T0 w0 g R r p0):=by
 intro r hm;refine eN Tryz.func95 Tryz.ntmps95 fun J=>?_;unfold Q2i at hm;refine sq2 (bX [qZs p1] hS ?_);intro _ D _ E;refine kA ?_;refine pv (Y3w (u:= .func (.func 134) #[] #[pt D 0]) rfl) (cB cf133 hm (Q8t (Z6:=F5 P6 125 (.slice a1 n1 c1) p0.list) (E.bE [1,2] [3,0]) vwOwn (Q1j D)) ?_);rintro _ _ _ _ _ ⟨rfl,I,_⟩ hm;exact re hm (I.sE [0,1,2])

instance:Ct 95 @Q9a:=⟨@Q9a,cf95⟩
theorem Q8z{p0:K3}{p1:K3}(hS:Sep g T0 w0 [X0 R,Q0a (Q3n p1 a2 c2)])(h1:Q50 a1 c1 T0 w0 p0.Type_.Fields)(Q9e:Ln Q1x Q1w Q0a)(h2:Q50 a2 c2 T0 w0 p1.Type_.Fields):∀r,Q9p p0 p1=some r->
 Cl 135 #[.agg (Q3n p0 a1 c1).toArray,pt Q1x Q1w] w0 (J6 T0 w0 fun T w v=>v= .bool r/\Sep g T w (R++[Q0a (Q3n p1 a2 c2)])/\True):=by
 intro r hm;refine eN Tryz.func135 Tryz.ntmps135 fun J=>?_;unfold Q9p at hm;refine sq2 (bX (Q3n p0 a1 c1) hS ?_);intro _ D _ E;refine kA ?_;refine fkC (d:=19) (c:=((p0.Type_.Kind==p1.Type_.Kind)&&(p0.Type_.Elem==p1.Type_.Elem))) 8 [(1,pt Q1x Q1w),(2,pt D 0)] rfl (fun hk=>zw (p0.Type_.Kind==p1.Type_.Kind) hk) fun J=>pu ?_;refine fkC (d:=28) (c:=(((p0.Type_.Kind==p1.Type_.Kind)&&(p0.Type_.Elem==p1.Type_.Elem))&&(p0.Type_.Len==p1.Type_.Len))) 8 [(1,pt Q1x Q1w)] rfl (fun hk=>zw ((p0.Type_.Kind==p1.Type_.Kind)&&(p0.Type_.Elem==p1.Type_.Elem)) hk) fun J=>pu ?_;exact fkC (d:=34) (c:=((((p0.Type_.Kind==p1.Type_.Kind)&&(p0.Type_.Elem==p1.Type_.Elem))&&(p0.Type_.Len==p1.Type_.Len))&&(p1.Type_.Kind !=5))) 5 [] rfl (fun hk=>zw (((p0.Type_.Kind==p1.Type_.Kind)&&(p0.Type_.Elem==p1.Type_.Elem))&&(p0.Type_.Len==p1.Type_.Len)) hk) fun J=>re hm (E.sE [1,2])

instance:Ct 135 @Q8z:=⟨@Q8z,cf135⟩
theorem Q7o{p0:List K3}{v_p0}{Z6:X1}{p1:K3}(hS:Sep g T0 w0 [X0 R,Z6,Q0a (Q3n p1 a1 c1)])(hV_p0:Vw Z6 P6 v_p0 p0)(Q9e:Ln Q1x Q1w Q0a)(h1:Q50 a1 c1 T0 w0 p1.Type_.Fields):∀r,Q4i p0 p1=some r->
 Cl 133 #[v_p0,.func (.func 135) #[] #[pt Q1x Q1w]] w0 (J6 T0 w0 fun T w v=>v=iv r/\Sep g T w (R++[Z6,Q0a (Q3n p1 a1 c1)])/\True):=by
 intro r hm;refine eN Tryz.func133 Tryz.ntmps133 fun J=>?_;unfold Q4i at hm;refine qN ?_;refine sq2 (qU ?_);refine pv (Z3v (v:=v_p0) rfl) (pv (r_lnV rfl (hS.view (i:=1) ⟨rfl,rfl⟩ hV_p0) underlying126) (pn ?_));refine lpJ hm (fun I K m a O=>∃U D,JR (nf 19) g T0 w0 a O U (loopM I m D=some K) [(0,v_p0),(1,.func (.func 135) #[] #[pt Q1x Q1w]),(7,iv (qQ p0:Int)),(8,iv D)] [X0 R,Z6,Q0a (Q3n p1 a1 c1)]) (fun _ _ h=>je h (hS.sE [0,1,2])) ?_;rintro I aa K ab _ _ O ⟨U,D,J,ac,rfl,E,_⟩;obtain⟨m1,_,rfl,hm,V⟩:=lrE ac aa;refine qN ?_;refine sq2 (cd hm ?_ ?_)<;>intro af hm
 . refine kE ?_;refine blk (qN ?_);refine sq2 ?_;obtain⟨u1,ad,hm⟩:=bindS hm;obtain⟨cs1,ae,_⟩:=(E.view (i:=1) ⟨rfl,rfl⟩ hV_p0).ixcS ad rfl;obtain⟨_,c2,rfl,h2⟩:=L4 ae;refine pu ?_;refine pv (Z3v (v:=v_p0) rfl) (pu ?_);refine cB cf135 hm (Q8z (E.bE [0,1] [2]) h2 Q9e (mC h1)) ?_;rintro _ _ _ _ _ ⟨rfl,W,_⟩ hm;refine cd hm ?_ ?_<;>intro ag hm
   . refine qN ?_;have hm:=Q5e hm V ab;exact re hm (W.sE [0,1,2])
   exact lg hm V (W.sE [0,1,2])
 exact zr hm E

instance:Ct 133 @Q7o:=⟨@Q7o,cf133⟩
theorem Z5d{p0:Z9}{p1:K3}(hS:Q28 a1 n1 c1 Z6 T0 g w0 R p0)(Z1:Ln Y3 Y2 Z6)(h1:Q50 a2 c2 T0 w0 p1.Type_.Fields):∀r,Q4m p0 p1=some r->
 Cl 96 #[pt Y3 Y2,.agg (Q3n p1 a2 c2).toArray] w0 (Q52 Z6 T0 w0 g R r.1 r.2.1 r.2.2):=by
 intro r hm;refine eN Tryz.func96 Tryz.ntmps96 fun J=>?_;unfold Q4m at hm;refine sq2 (bX (Q3n p1 a2 c2) hS ?_);intro _ E _ I;refine kA ?_;refine pv (Y3w (u:= .func (.func 135) #[] #[pt E 0]) rfl) (cB cf133 hm (Q7o (Z6:=F5 P6 125 (.slice a1 n1 c1) p0.list) (I.bE [1,2] [3,0]) vwOwn (Q1j E) (mC h1)) ?_);rintro _ _ _ _ _ ⟨rfl,D,_⟩ hm;refine pn ?_;refine sq2 (blk (sq2 (cd hm ?_ ?_)))<;>intro aa hm
 . exact sq2 (re hm (D.sE [0,1,2]))
 refine sq2 (cd hm ?_ ?_)<;>intro ab hm
 . exact sq2 (re hm (D.sE [0,1,2]))
 refine kE ?_;refine rsS [0,0,0,0,1,1,2,2,0,0,2] [0,1,2,3,4,5,6,7,8,9,10] D fun w3 ad K=>s2W [0] ?_;refine obS (r:=P6) (l:=([p1]:List K3)) (css:=[(Q3n p1 a2 c2)]) K ⟨(Q2n (x:=p1) (mC h1):P6.rp _ _ _ _),qZt⟩ ?_;intro _ _ _ c3 _ O;refine pu ?_;obtain⟨_,U,hm⟩:=bindS hm;refine s2W [0] ?_;refine oaO 3 O (K9 U) ?_;intro _ _ _ c4 _ V;refine s2W [] ?_;refine osB 2 0 Z1 V ?_;intro _ _ W;refine pu ?_;exact se (B0 [(0,pt Y3 Y2)] ⟨rfl,qZt⟩ fun J=>sq2 (re hm (W.sE [1,2,3])))

instance:Ct 96 @Z5d:=⟨@Z5d,cf96⟩
theorem Z0b{p0:Z9}{p1:Aa}(hS:Q28 a1 n1 c1 Z6 T0 g w0 R p0)(Z1:Ln Y3 Y2 Z6):∀r,Q8b p0 p1=some r->
 Cl 66 #[pt Y3 Y2,Q14 p1.toArray] w0 (Q52 Z6 T0 w0 g R r.1 r.2.1 r.2.2):=by
 intro r hm;refine eN Tryz.func66 Tryz.ntmps66 fun J=>?_;unfold Q8b at hm;exact zr hm hS

instance:Ct 66 @Z0b:=⟨@Z0b,cf66⟩
theorem C9{p0:Pos}{p1}(hS:Sep g T0 w0 [X0 R]):∀r,X2 p0 p1=some r->
 Cl 76 #[Q36 p0,iv p1] w0 (exR r (fun r=>J6 T0 w0 fun T w v=>v= .tuple #[]/\Q12 T g w R) (fun r=>L8 T0 w0 fun T w v=>v= .iface 91 (Q20 r.pos r.e)/\Q12 T g w R)):=by
 intro r hm;refine eN Tryz.func76 Tryz.ntmps76 fun J=>?_;unfold X2 at hm;exact zr hm hS

instance:Ct 76 @C9:=⟨@C9,Y5g⟩
theorem Q2u{p0:Pos}{p1}(hS:Sep g T0 w0 [X0 R]):∀r,S0 p0 p1=some r->
 Cl 67 #[Q36 p0,iv p1] w0 (exR r (fun r=>J6 T0 w0 fun T w v=>v= .tuple #[]/\Q12 T g w R) (fun r=>L8 T0 w0 fun T w v=>v= .iface 91 (Q20 r.pos r.e)/\Q12 T g w R)):=by
 intro r hm;refine eN Tryz.func67 Tryz.ntmps67 fun J=>?_;unfold S0 at hm;exact zr hm hS

instance:Ct 67 @Q2u:=⟨@Q2u,cf67⟩
theorem Z0c{p0:Z9}{p1:Aa}(hS:Q28 a1 n1 c1 Z6 T0 g w0 R p0)(Z1:Ln Y3 Y2 Z6):∀r,Q8c p0 p1=some r->
 Cl 110 #[pt Y3 Y2,Q14 p1.toArray] w0 (J6 T0 w0 fun T w v=>v= .tuple #[iv r.1,iv r.2]/\Q24 a1 n1 c1 Z6 T g w R p0):=by
 intro r hm;refine eN Tryz.func110 Tryz.ntmps110 fun J=>?_;unfold Q8c at hm;exact zr hm hS

instance:Ct 110 @Z0c:=⟨@Z0c,cf110⟩
theorem Q7v{p0:Z9}{p1}(hS:Q28 a1 n1 c1 Z6 T0 g w0 R p0)(Z1:Ln Y3 Y2 Z6):∀r,S5 p0 p1=some r->
 Cl 112 #[pt Y3 Y2,iv p1] w0 (J6 T0 w0 fun T w v=>v= .bool r/\Q24 a1 n1 c1 Z6 T g w R p0):=by
 intro r hm;refine eN Tryz.func112 Tryz.ntmps112 fun J=>?_;unfold S5 at hm;refine qN ?_;refine qU ?_;refine pv (Y7a rfl rfl rfl underlying80) (pu ?_);exact fkC (d:=19) (c:=((decide (0<=p1))&&(decide (p1<(qQ p0.list:Int))))) 8 [] rfl (fun hk=>zw (decide (0<=p1)) hk) fun J=>re hm (hS.sE [0,1,2])

instance:Ct 112 @Q7v:=⟨@Q7v,cf112⟩
theorem Z1f{p0:Z9}{p1}(hS:Q28 a1 n1 c1 Z6 T0 g w0 R p0)(Z1:Ln Y3 Y2 Z6):∀r,Q4n p0 p1=some r->
 Cl 111 #[pt Y3 Y2,iv p1] w0 (Q52 Z6 T0 w0 g R r.1 r.2.1 r.2.2):=by
 intro r hm;refine eN Tryz.func111 Tryz.ntmps111 fun J=>?_;unfold Q4n at hm;exact zr hm hS

instance:Ct 111 @Z1f:=⟨@Z1f,cf111⟩
theorem W2{p0:Q0}{p1:Pos}{p2:K6}(hS:Q21 a1 a2 a3 a4 a5 a6 b1 oo1 n1 c1 n2 c2 n3 c3 n4 c4 n5 c5 n6 c6 Z6 H1 T0 g w0 pv1 r1 r2 R p0)(Z1:Ln Y3 Y2 Z6)(hL1:Ln b1 oo1 H1):∀r,F2 p0 p1 p2=some r->
 Cl 74 #[pt Y3 Y2,Q36 p1,.agg (Q9v p2).toArray] w0 (exR r (fun r=>J6 T0 w0 (Q81 a2 a3 a4 a5 a6 b1 oo1 n2 c2 n3 c3 n4 c4 n5 c5 n6 c6 Z6 H1 g pv1 r1 r2 R r.1 r.2)) (fun r=>L8 T0 w0 (Q37 a2 a3 a4 a5 a6 b1 oo1 n2 c2 n3 c3 n4 c4 n5 c5 n6 c6 Z6 H1 g pv1 r1 r2 R r.1.pos r.1.e r.2))):=by
 intro r hm;refine eN Tryz.func74 Tryz.ntmps74 fun J=>?_;unfold F2 at hm;refine sq2 (bX [iv p1.Line,iv p1.Col] hS ?_);intro _ D _ am;refine bX (Q9v p2) am ?_;intro w2 b3 _ E;refine kD ?_;refine O1 hm (fun ac a I=>∃K O,JR (nf 53) g T0 w2 a I K (ac O=some r) [(0,pt Y3 Y2),(4,pt D 0),(5,pt b3 0),(7,iv O)] ([K7 b3 (Q9v p2),K7 D [iv p1.Line,iv p1.Col],X0 R]++X5 p0 Z6 H1 b1 oo1 a1 n1 c1 a2 n2 c2 a3 n3 c3 a4 n4 c4 r1 r2 a5 n5 c5 a6 n6 c6 pv1)) (fun ac hm=>?_) ?_
 . refine qN ?_;refine blk (sq2 (cd hm ?_ ?_))<;>intro ay hm
   . exact je hm (E.sN 0 13)
   refine sq2 (cd hm ?_ ?_)<;>intro az hm
   . exact je hm (E.sN 0 13)
   refine sq2 (cd hm ?_ ?_)<;>intro aA hm
   . refine sq2 (rsS [0,0,0,1,0,1,2,0,0,0,0,0] [0,1,2,3,4,5,6,7,8,9,10,11] E fun w4 aC ao=>?_);obtain⟨_,ap,hm⟩:=bindS hm;refine sS [] cf110 (Z0c (ao.bE (Z4 0 4++Z4 6 7) [4,5]) hL1 _ ap) ?_;have dd:KD [(6,[3,5])]:=⟨qZt⟩;exact zo hm
   exact je hm (E.sN 0 13)
 rintro _ I ⟨K,O,J,hm,rfl,aq,_⟩;refine sq2 (qN ?_);refine lpJ hm (fun ad o1 m a w8=>∃T5 U a7 n7 c7 V W,JR (nf 53) g K I a w8 T5 (loopM ad m (V,W,U)=some o1) [(0,pt Y3 Y2),(4,pt D 0),(7,iv V),(35,iv p2.Stars),(36,iv W)] ([K7 D [iv p1.Line,iv p1.Col],X0 R]++X5 ({p0 with t:=U}) Z6 H1 b1 oo1 a7 n7 c7 a2 n2 c2 a3 n3 c3 a4 n4 c4 r1 r2 a5 n5 c5 a6 n6 c6 pv1)) (fun _ _ h=>je h (aq.sN 1 12)) ?_;rintro ad ar o1 aj _ _ w8 ⟨T5,U,a7,n7,c7,V,W,J,au,rfl,ak,_⟩;obtain⟨m1,_,rfl,hm,aa⟩:=lrE au ar;refine qN ?_;refine sq2 (cd hm ?_ ?_)<;>intro aE hm
 . refine kE ?_;refine blk (qU ?_);refine cB cf111 hm (Z1f (ak.bE ([0,1,2]++Z4 5 7) [3,4]) hL1) ?_;rintro _ _ _ _ _ ⟨_,_,c8,rfl,av,_⟩ hm;refine kA ?_;refine cP cf67 hm (Q2u (av.bE (Z4 0 12) [])) ?_ ?_
   . rintro _ _ _ _ _ ⟨rfl,aw,_⟩ hm;have hm:=Q5e hm aa aj;exact pe hm (aw.sE ([1,2,10,11]++Z4 3 7))
   rintro _ _ _ _ _ ⟨rfl,ax,_⟩ hm;refine pn ?_;exact lg hm aa (ax.sE ([0,1,2,10,11]++Z4 3 7))
 have hm:=Q7b hm aa aj;exact zr hm ak

instance:Ct 74 @W2:=⟨@W2,cf74⟩
theorem Q9c{p0:Z9}{p1 p2}(hS:Q28 a1 n1 c1 Z6 T0 g w0 R p0)(Z1:Ln Y3 Y2 Z6):∀r,Q6x p0 p1 p2=some r->
 Cl 97 #[pt Y3 Y2,iv p1,iv p2] w0 (Q52 Z6 T0 w0 g R r.1 r.2.1 r.2.2):=by
 intro r hm;refine eN Tryz.func97 Tryz.ntmps97 fun J=>?_;unfold Q6x at hm;exact zr hm hS

instance:Ct 97 @Q9c:=⟨@Q9c,cf97⟩
theorem Q6h{p0:Q0}{p1:J2}(hS:Q21 a1 a2 a3 a4 a5 a6 b1 oo1 n1 c1 n2 c2 n3 c3 n4 c4 n5 c5 n6 c6 Z6 H1 T0 g w0 pv1 r1 r2 R p0)(Z1:Ln Y3 Y2 Z6)(hL1:Ln b1 oo1 H1)(h1:Q35 a7 c7 T0 w0 p1)(h2:Q7 a8 c8 T0 w0 p1.Init):∀r,N5 p0 p1=some r->
 Cl 68 #[pt Y3 Y2,Q77 a7 a8 c7 c8 p1] w0 (exR r (fun r=>J6 T0 w0 (Q81 a2 a3 a4 a5 a6 b1 oo1 n2 c2 n3 c3 n4 c4 n5 c5 n6 c6 Z6 H1 g pv1 r1 r2 R r.1 r.2)) (fun r=>L8 T0 w0 (Q37 a2 a3 a4 a5 a6 b1 oo1 n2 c2 n3 c3 n4 c4 n5 c5 n6 c6 Z6 H1 g pv1 r1 r2 R r.1.pos r.1.e r.2))):=by
 intro r hm;refine eN Tryz.func68 Tryz.ntmps68 fun J=>?_;unfold N5 at hm;refine sq2 (bX (Z5j p1 a7 c7 a8 c8) hS ?_);intro _ E _ af;refine kA ?_;refine cP cf74 hm (W2 (af.bE [0,1] (Z4 2 10)) Z1 hL1) ?_ ?_
 . exact zk
 rintro y1 _ T1 w2 _ ⟨_,_,c9,rfl,aj,_⟩ hm;refine kC ?_;refine lpJ hm (fun U V m a W=>∃T2 I ab n8 c10 K D,JR (nf 44) g T1 w2 a W T2 (loopM U m (K,D,I)=some V) [(0,pt Y3 Y2),(3,pt E 0),(5,iv K),(6,iv D)] ([K7 E (Z5j p1 a7 c7 a8 c8),X0 R]++X5 ({y1.2 with t:=I}) Z6 H1 b1 oo1 ab n8 c10 a2 n2 c2 a3 n3 c3 a4 n4 c4 r1 r2 a5 n5 c5 a6 n6 c6 pv1)) (fun _ _ h=>je h (aj.sN 0 12)) ?_;rintro U ak V ad _ _ W ⟨T2,I,ab,n8,c10,K,D,J,am,rfl,ae,_⟩;obtain⟨m1,_,rfl,hm,O⟩:=lrE am ak;refine sq2 (sq2 (cd hm ?_ ?_))<;>intro av hm
 . refine kE ?_;refine blk (sq2 (rsS [0,0,0,1,0,0,1,0,0,1,0,2,0,0,0,0,0] [0,1,2,3,4,5,6,7,8,9,10,11,12,13,14,15,16] ae fun w4 ax an=>?_));obtain⟨u1,_,hm⟩:=bindS hm;obtain⟨y2,ap,hm⟩:=bindS hm;refine sS [] cf97 (Q9c (an.bE ([0,1,2]++Z4 5 7) [3,4]) hL1 _ ap) ?_;rintro _ _ _ _ ⟨_,_,c11,rfl,aq,_⟩;refine kA ?_;refine cP cf67 hm (Q2u (aq.bE (Z4 0 12) [])) ?_ ?_
   . rintro _ _ _ _ _ ⟨rfl,ar,_⟩ hm;have hm:=Q5e hm O ad;exact pe hm (ar.sE ([1,2,10,11]++Z4 3 7))
   rintro _ _ _ _ _ ⟨rfl,au,_⟩ hm;refine nil (Y6v (pu ?_));exact nil (t_blk (B0 [(0,pt Y3 Y2),(3,pt E 0),(5,iv y2.1),(6,iv D)] ⟨rfl,rfl,rfl,rfl,qZt⟩ fun J=>lg hm O (au.sE ([0,1,2,10,11]++Z4 3 7))))
 have hm:=Q7b hm O ad;exact zr hm ae

instance:Ct 68 @Q6h:=⟨@Q6h,cf68⟩
theorem Z3q{p0:K8}(hS:Sep g T0 w0 [X0 R]):∀r,Q9t p0=some r->
 Cl 137 #[Q90 p0] w0 (Q19 T0 w0 g R r):=by
 intro r hm;refine eN Tryz.func137 Tryz.ntmps137 fun J=>?_;unfold Q9t at hm;exact zr hm hS

instance:Ct 137 @Z3q:=⟨@Z3q,cf137⟩
theorem Z1w{p0:List K8}(hS:Sep g T0 w0 [X0 R])(h1:Q58 a1 c1 T0 w0 p0):∀r,Q4h p0=some r->
 Cl 166 #[sv a1 p0 c1,.func (.func 137) #[] #[]] w0 (Q29 T0 w0 g R r):=by
 intro r hm;refine eN Tryz.func166 Tryz.ntmps166 fun J=>?_;unfold Q4h at hm;refine qN ?_;refine sq2 (qN ?_);refine lpJ hm (fun E I m a K=>∃O D,JR (nf 19) g T0 w0 a K O (loopM E m D=some I) [(0,sv a1 p0 c1),(1,.func (.func 137) #[] #[]),(7,iv (qQ p0:Int)),(8,iv D)] [X0 R]) (fun _ _ h=>je h (hS.sE [0])) ?_;rintro E U I _ _ _ K ⟨O,D,J,V,rfl,W,_⟩;obtain⟨m1,_,rfl,hm,_⟩:=lrE V U;exact zr hm W

instance:Ct 166 @Z1w:=⟨@Z1w,cf166⟩
theorem Q6t{p0:List K8}(hS:Sep g T0 w0 [X0 R])(h1:Q58 a1 c1 T0 w0 p0):∀r,Q6q p0=some r->
 Cl 136 #[sv a1 p0 c1,.func (.func 137) #[] #[]] w0 (Q19 T0 w0 g R r):=by
 intro r hm;refine eN Tryz.func136 Tryz.ntmps136 fun J=>?_;unfold Q6q at hm;exact zr hm hS

instance:Ct 136 @Q6t:=⟨@Q6t,Y8e⟩
theorem Z3p{p0:K8}{p1:Z9}(hS:Sep g T0 w0 (Q48 a1 b1 oo1 n1 c1 Q0a H1 R p1))(Q9e:Ln Q1x Q1w Q0a)(hL1:Ln b1 oo1 H1):∀r,Q9s p0 p1=some r->
 Cl 138 #[Q90 p0,pt Q1x Q1w] w0 (Q45 a1 b1 oo1 n1 c1 Q0a H1 T0 w0 g R r p1):=by
 intro r hm;refine eN Tryz.func138 Tryz.ntmps138 fun J=>?_;unfold Q9s at hm;exact zr hm hS

instance:Ct 138 @Z3p:=⟨@Z3p,cf138⟩
theorem Z1v{p0:List K8}{p1:Z9}(hS:Sep g T0 w0 (Q48 a2 b1 oo1 n1 c2 Q0a H1 R p1))(h1:Q58 a1 c1 T0 w0 p0)(Q9e:Ln Q1x Q1w Q0a)(hL1:Ln b1 oo1 H1):∀r,Q4g p0 p1=some r->
 Cl 166 #[sv a1 p0 c1,.func (.func 138) #[] #[pt Q1x Q1w]] w0 (J6 T0 w0 fun T w v=>v=iv r/\Sep g T w (R++[Q0a [pt b1 oo1],H1 [.slice a2 n1 c2],Q9 a2 n1 c2 p1])/\True):=by
 intro r hm;refine eN Tryz.func166 Tryz.ntmps166 fun J=>?_;unfold Q4g at hm;refine qN ?_;refine sq2 (qN ?_);refine lpJ hm (fun E I m a K=>∃O D,JR (nf 19) g T0 w0 a K O (loopM E m D=some I) [(0,sv a1 p0 c1),(1,.func (.func 138) #[] #[pt Q1x Q1w]),(7,iv (qQ p0:Int)),(8,iv D)] (Q48 a2 b1 oo1 n1 c2 Q0a H1 R p1)) (fun _ _ h=>je h (hS.sN 0 4)) ?_;rintro E U I _ _ _ K ⟨O,D,J,V,rfl,W,_⟩;obtain⟨m1,_,rfl,hm,_⟩:=lrE V U;exact zr hm W

instance:Ct 166 @Z1v:=⟨@Z1v,cf166⟩
theorem Q5d{p0:List K8}{p1:Z9}(hS:Sep g T0 w0 (Q48 a2 b1 oo1 n1 c2 Q0a H1 R p1))(h1:Q58 a1 c1 T0 w0 p0)(Q9e:Ln Q1x Q1w Q0a)(hL1:Ln b1 oo1 H1):∀r,Q4u p0 p1=some r->
 Cl 136 #[sv a1 p0 c1,.func (.func 138) #[] #[pt Q1x Q1w]] w0 (Q45 a2 b1 oo1 n1 c2 Q0a H1 T0 w0 g R r p1):=by
 intro r hm;refine eN Tryz.func136 Tryz.ntmps136 fun J=>?_;unfold Q4u at hm;exact zr hm hS

instance:Ct 136 @Q5d:=⟨@Q5d,Y8e⟩
theorem V7{p0:Z9}{p1}(hS:Q28 a1 n1 c1 Z6 T0 g w0 R p0)(Z1:Ln Y3 Y2 Z6):∀r,K1 p0 p1=some r->
 Cl 103 #[pt Y3 Y2,iv p1] w0 (Q92 a1 n1 c1 Z6 T0 w0 g R r p0):=by
 intro r hm;refine eN Tryz.func103 Tryz.ntmps103 fun J=>?_;unfold K1 at hm;exact zr hm hS

instance:Ct 103 @V7:=⟨@V7,Q9z⟩
theorem Z3o{p0:K8}{p1:Z9}(hS:Sep g T0 w0 (Q48 a1 b1 oo1 n1 c1 Q0a H1 R p1))(Q9e:Ln Q1x Q1w Q0a)(hL1:Ln b1 oo1 H1):∀r,Q9r p0 p1=some r->
 Cl 139 #[Q90 p0,pt Q1x Q1w] w0 (Q45 a1 b1 oo1 n1 c1 Q0a H1 T0 w0 g R r p1):=by
 intro r hm;refine eN Tryz.func139 Tryz.ntmps139 fun J=>?_;unfold Q9r at hm;exact zr hm hS

instance:Ct 139 @Z3o:=⟨@Z3o,cf139⟩
theorem Z1u{p0:List K8}{p1:Z9}(hS:Sep g T0 w0 (Q48 a2 b1 oo1 n1 c2 Q0a H1 R p1))(h1:Q58 a1 c1 T0 w0 p0)(Q9e:Ln Q1x Q1w Q0a)(hL1:Ln b1 oo1 H1):∀r,Q4f p0 p1=some r->
 Cl 166 #[sv a1 p0 c1,.func (.func 139) #[] #[pt Q1x Q1w]] w0 (J6 T0 w0 fun T w v=>v=iv r/\Sep g T w (R++[Q0a [pt b1 oo1],H1 [.slice a2 n1 c2],Q9 a2 n1 c2 p1])/\True):=by
 intro r hm;refine eN Tryz.func166 Tryz.ntmps166 fun J=>?_;unfold Q4f at hm;refine qN ?_;refine sq2 (qN ?_);refine lpJ hm (fun E I m a K=>∃O D,JR (nf 19) g T0 w0 a K O (loopM E m D=some I) [(0,sv a1 p0 c1),(1,.func (.func 139) #[] #[pt Q1x Q1w]),(7,iv (qQ p0:Int)),(8,iv D)] (Q48 a2 b1 oo1 n1 c2 Q0a H1 R p1)) (fun _ _ h=>je h (hS.sN 0 4)) ?_;rintro E U I _ _ _ K ⟨O,D,J,V,rfl,W,_⟩;obtain⟨m1,_,rfl,hm,_⟩:=lrE V U;exact zr hm W

instance:Ct 166 @Z1u:=⟨@Z1u,cf166⟩
theorem Q5c{p0:List K8}{p1:Z9}(hS:Sep g T0 w0 (Q48 a2 b1 oo1 n1 c2 Q0a H1 R p1))(h1:Q58 a1 c1 T0 w0 p0)(Q9e:Ln Q1x Q1w Q0a)(hL1:Ln b1 oo1 H1):∀r,Q4t p0 p1=some r->
 Cl 136 #[sv a1 p0 c1,.func (.func 139) #[] #[pt Q1x Q1w]] w0 (Q45 a2 b1 oo1 n1 c2 Q0a H1 T0 w0 g R r p1):=by
 intro r hm;refine eN Tryz.func136 Tryz.ntmps136 fun J=>?_;unfold Q4t at hm;exact zr hm hS

instance:Ct 136 @Q5c:=⟨@Q5c,Y8e⟩
theorem Z3n{p0:K8}{p1:K8}(hS:Sep g T0 w0 [X0 R,Q0a (Z0t p1)])(Q9e:Ln Q1x Q1w Q0a):∀r,Q9q p0 p1=some r->
 Cl 140 #[Q90 p0,pt Q1x Q1w] w0 (J6 T0 w0 fun T w v=>v= .bool r/\Sep g T w (R++[Q0a (Z0t p1)])/\True):=by
 intro r hm;refine eN Tryz.func140 Tryz.ntmps140 fun J=>?_;unfold Q9q at hm;exact zr hm hS

instance:Ct 140 @Z3n:=⟨@Z3n,cf140⟩
theorem Z1t{p0:List K8}{p1:K8}(hS:Sep g T0 w0 [X0 R,Q0a (Z0t p1)])(h1:Q58 a1 c1 T0 w0 p0)(Q9e:Ln Q1x Q1w Q0a):∀r,Q4e p0 p1=some r->
 Cl 166 #[sv a1 p0 c1,.func (.func 140) #[] #[pt Q1x Q1w]] w0 (J6 T0 w0 fun T w v=>v=iv r/\Sep g T w (R++[Q0a (Z0t p1)])/\True):=by
 intro r hm;refine eN Tryz.func166 Tryz.ntmps166 fun J=>?_;unfold Q4e at hm;refine qN ?_;refine sq2 (qN ?_);refine lpJ hm (fun E I m a K=>∃O D,JR (nf 19) g T0 w0 a K O (loopM E m D=some I) [(0,sv a1 p0 c1),(1,.func (.func 140) #[] #[pt Q1x Q1w]),(7,iv (qQ p0:Int)),(8,iv D)] [X0 R,Q0a (Z0t p1)]) (fun _ _ h=>je h (hS.sE [0,1])) ?_;rintro E U I _ _ _ K ⟨O,D,J,V,rfl,W,_⟩;obtain⟨m1,_,rfl,hm,_⟩:=lrE V U;exact zr hm W

instance:Ct 166 @Z1t:=⟨@Z1t,cf166⟩
theorem Q9y{p0:List K8}{p1:K8}(hS:Sep g T0 w0 [X0 R,Q0a (Z0t p1)])(h1:Q58 a1 c1 T0 w0 p0)(Q9e:Ln Q1x Q1w Q0a):∀r,Q2c p0 p1=some r->
 Cl 136 #[sv a1 p0 c1,.func (.func 140) #[] #[pt Q1x Q1w]] w0 (J6 T0 w0 fun T w v=>v= .bool r/\Sep g T w (R++[Q0a (Z0t p1)])/\True):=by
 intro r hm;refine eN Tryz.func136 Tryz.ntmps136 fun J=>?_;unfold Q2c at hm;exact zr hm hS

instance:Ct 136 @Q9y:=⟨@Q9y,Y8e⟩
theorem Z1e{p0:Z9}{p1:List K8}(hS:Q28 a1 n1 c1 Z6 T0 g w0 R p0)(Z1:Ln Y3 Y2 Z6)(h1:Q58 a2 c2 T0 w0 p1):∀r,Q9b p0 p1=some r->
 Cl 98 #[pt Y3 Y2,sv a2 p1 c2] w0 (Q92 a1 n1 c1 Z6 T0 w0 g R r p0):=by
 intro r hm;refine eN Tryz.func98 Tryz.ntmps98 fun J=>?_;unfold Q9b at hm;refine sq2 (bX [pt Y3 Y2] hS ?_);intro _ D _ I;refine kE ?_;refine blk (qU ?_)
 rcases bc hm with⟨ac,hm⟩|⟨ac,hm⟩
 . exact zr hm I
 refine pu ?_;refine cB Y8e hm (Q6t (I.bE (Z4 0 4) []) (mC h1)) ?_;rintro _ _ _ _ _ ⟨rfl,K,_⟩ hm;refine cd hm ?_ ?_<;>intro ai hm
 . exact sq2 (re hm (K.sE [1,2,3]))
 refine qU ?_;refine pv (Y3w (u:= .func (.func 138) #[] #[pt D 0]) rfl) (cB Y8e hm (Q5d (K.bE [1] [0,2,3]) (mC h1) (Q1j D) Z1) ?_);rintro _ _ _ _ _ ⟨rfl,O,_⟩ hm;refine cd hm ?_ ?_<;>intro aj hm
 . exact sq2 (re hm (O.sE [0,2,3]))
 refine qU ?_;refine pv (Y3w (u:= .func (.func 139) #[] #[pt D 0]) rfl) (cB Y8e hm (Q5c (O.bE [0] [1,2,3]) (mC h1) (Q1j D) Z1) ?_);rintro _ _ T3 w4 _ ⟨rfl,U,_⟩ hm;refine cd hm ?_ ?_<;>intro ak hm
 . exact sq2 (re hm (U.sE [0,2,3]))
 refine kC ?_;refine lpJ hm (fun V W m a w5=>∃T4 E,JR (nf 36) g T3 w4 a w5 T4 (loopM V m E=some W) [(1,sv a2 p1 c2),(23,sv a2 p1 c2),(24,iv (qQ p1:Int)),(25,iv E)] [X0 R,Q78 a1 n1 c1 Z6,Q9 a1 n1 c1 p0]) (fun _ _ h=>je h (U.sE [0,2,3])) ?_;rintro V af W _ _ _ w5 ⟨T4,E,J,ag,rfl,ah,_⟩;obtain⟨m1,_,rfl,hm,_⟩:=lrE ag af;exact zr hm ah

instance:Ct 98 @Z1e:=⟨@Z1e,cf98⟩
theorem Z2s{p0:List K8}(hS:Sep g T0 w0 [X0 R])(h1:Q58 a1 c1 T0 w0 p0):∀r,Q9l p0=some r->
 Cl 99 #[sv a1 p0 c1] w0 (J6 T0 w0 fun T w v=>∃a4 n3 c4,v= .slice a4 n3 c4/\Sep g T w (R++[F5 Q3a 165 (.slice a4 n3 c4) r])/\True):=by
 intro r hm;refine eN Tryz.func99 Tryz.ntmps99 fun J=>?_;unfold Q9l at hm;refine qN ?_;refine sq2 (qU ?_);refine pv (r_sne rfl rfl rfl underlying121) (pn ?_)
 rcases SlR.nilOr h1 with⟨D,E⟩|D
 . subst D;subst E;have hm:some []=some r:=hm;refine cnd (b:=true) rfl (fun _=>?_) (fun h=>nomatch h);refine qN ?_;have I:=hS.nilO Q3a 165;exact re hm (I.sE [1,0])
 refine cnd rfl (fun h=>absurd (h.symm.trans D) (fun h=>nomatch h)) (fun _=>pn ?_);refine qU ?_;refine wl rfl (bs0S Q3a hS underlying121 sizeOf165 fun V W n1 c2 ab K=>?_);obtain⟨_,O,hm⟩:=bindS hm;refine pu ?_;exact wl rfl (apO (q:=0) (l:=([]:List K8)) (us:=p0) K ⟨rfl,rfl⟩ rfl rfl (mC h1).v underlying121 el165 (K9 O) fun w2 a3 n2 c3 af U=>re hm (U.sE [1,0]))

instance:Ct 99 @Z2s:=⟨@Z2s,cf99⟩
theorem Q2t{p0:Z9}{p1}(hS:Q28 a1 n1 c1 Z6 T0 g w0 R p0)(Z1:Ln Y3 Y2 Z6):∀r,Q2j p0 p1=some r->
 Cl 102 #[pt Y3 Y2,iv p1] w0 (Q92 a1 n1 c1 Z6 T0 w0 g R r p0):=by
 intro r hm;refine eN Tryz.func102 Tryz.ntmps102 fun J=>?_;unfold Q2j at hm;exact zr hm hS

instance:Ct 102 @Q2t:=⟨@Q2t,cf102⟩
theorem Z3m{p0 p1}(hS:Sep g T0 w0 [X0 R]):∀r,Z8b p0 p1=some r->
 Cl 101 #[iv p0,iv p1] w0 (Q29 T0 w0 g R r):=by
 intro r hm;refine eN Tryz.func101 Tryz.ntmps101 fun J=>?_;unfold Z8b at hm;exact zr hm hS

instance:Ct 101 @Z3m:=⟨@Z3m,cf101⟩
theorem Q6w{p0:K8}{p1}{p2:Z9}{p3}(hS:Sep g T0 w0 [X0 R,Z6 (Z0t p0),Q0a [iv p1],Z6j [pt b1 oo1],H1 [.slice a1 n1 c1],Q9 a1 n1 c1 p2,Z6i [iv p3]])(Z1:Ln Y3 Y2 Z6)(Q9e:Ln Q1x Q1w Q0a)(hL_p2:Ln Z9o Z9e Z6j)(hL1:Ln b1 oo1 H1)(hL_p3:Ln Z9n Z9d Z6i):∀r,Q3p p0 p1 p2 p3=some r->
 Cl 100 #[pt Y3 Y2,pt Q1x Q1w,pt Z9o Z9e,pt Z9n Z9d] w0 (J6 T0 w0 fun T w v=>v= .bool r.1/\Sep g T w (R++[Z6 (Z0t r.2.1),Q0a [iv r.2.2.1],Z6j [pt b1 oo1],H1 [.slice a1 n1 c1],Q9 a1 n1 c1 p2,Z6i [iv r.2.2.2]])/\True):=by
 intro r hm;refine eN Tryz.func100 Tryz.ntmps100 fun J=>?_;unfold Q3p at hm;refine qN ?_;refine sq2 (rsS [0,1,1,0,0,0,1,2,2,0,0,2] [0,1,2,3,4,5,6,7,8,9,10,11] hS fun w1 ai D=>?_);obtain⟨_,E,hm⟩:=bindS hm;refine sS [(1,iv p1)] cf102 (Q2t (D.bE [0,1,2,3,6] [4,5]) hL1 _ E) ?_;rintro _ _ _ _ ⟨rfl,I,_⟩;refine pu ?_;obtain⟨K,O,hm⟩:=bindS hm;refine sS [] cf101 (Z3m (I.bE (Z4 0 7) []) _ O) ?_;rintro _ _ _ _ ⟨rfl,U,_⟩;refine s2W [] ?_;refine osB 1 2 Z1 U ?_;intro _ _ V;refine kE ?_;refine rsS [0,0,0,1,1,0,0,0,1,2,0,2] [0,1,2,3,4,5,6,7,8,9,10,11] V fun w5 ak W=>?_;obtain⟨_,aa,hm⟩:=bindS hm;refine sS [(3,iv K)] Q9z (V7 (W.bE (Z4 0 5) [5,6]) hL1 _ aa) ?_;rintro _ _ _ _ ⟨rfl,ab,_⟩;refine s2W [0] ?_;refine osB 2 0 Q9e ab ?_;intro _ _ ac;refine kE ?_;refine rsS [1,1,0,0,0,1,2,0,2] [0,1,2,3,4,5,6,7,8] ac fun w8 an ad=>?_;obtain⟨_,ae,hm⟩:=bindS hm;refine sS [(0,iv p3)] cf102 (Q2t (ad.bE (Z4 0 5) [5,6]) hL1 _ ae) ?_;rintro _ _ _ _ ⟨rfl,af,_⟩;refine pu ?_;refine s0 rfl qZt (fun _=>r_imx rfl rfl) rfl (s2W [0] ?_);refine osB 4 0 hL_p3 af ?_;intro _ _ ag;refine pu ?_;exact se (B0 [(1,pt Q1x Q1w)] ⟨rfl,qZt⟩ fun J=>sq2 (re hm (ag.sE [0,1,2,3,5,6,4])))

instance:Ct 100 @Q6w:=⟨@Q6w,cf100⟩
theorem Q8k{p0:Z9}{p1:Aa}{p2:List K8}(hS:Q28 a1 n1 c1 Z6 T0 g w0 R p0)(Z1:Ln Y3 Y2 Z6)(h1:Q58 a2 c2 T0 w0 p2):∀r,Q5v p0 p1 p2=some r->
 Cl 69 #[pt Y3 Y2,Q14 p1.toArray,sv a2 p2 c2] w0 (J6 T0 w0 fun T w v=>v= .tuple #[iv r.1,iv r.2.1]/\Q24 a1 n1 c1 Z6 T g w R r.2.2):=by
 intro r hm;refine eN Tryz.func69 Tryz.ntmps69 fun J=>?_;unfold Q5v at hm;refine sq2 (bX [pt Y3 Y2] hS ?_);intro _ D _ aA;refine kB ?_;refine pv (r_pne rfl rfl rfl underlying80) (pn ?_);refine cnd (b:=false) rfl (fun h=>nomatch h) (fun _=>pn ?_);refine qU ?_;refine cB cf95 hm (Q9a (aA.bE [0,1] [2,3]) Z1) ?_;rintro y1 _ _ _ _ ⟨rfl,aa,_⟩ hm;refine kB ?_
 rcases bc hm with⟨aB,hm⟩|⟨aB,hm⟩
 . exact zr hm aa
 obtain⟨u1,ak,hm⟩:=bindS hm;obtain⟨cs1,aC,_⟩:=(aa.own (i:=3) ⟨rfl,rfl⟩).v.ixcS ak rfl;obtain⟨_,c3,rfl,h2⟩:=L4 aC;refine cd hm ?_ ?_<;>intro bz hm
 . exact zr hm aa
 refine kB ?_;refine cB cf98 hm (Z1e (aa.bE [0,1] [2,3]) Z1 (mC h1)) ?_;rintro y2 _ _ _ _ ⟨rfl,am,_⟩ hm;refine pu ?_;refine nil (B0 [(2,sv a2 p2 c2),(3,pt D 0),(8,iv y1),(9,iv y2)] ⟨rfl,rfl,rfl,rfl,qZt⟩ fun J=>?_);refine sq2 (cd hm ?_ ?_)<;>intro bA hm
 . exact sq2 (re hm (am.sE [1,2,3]))
 refine kA ?_;refine cB cf99 hm (Z2s (am.bE (Z4 0 4) []) (mC h1)) ?_;rintro y3 _ T3 _ _ ⟨a4,n2,c4,rfl,aG,_⟩ hm;refine kE ?_;refine aL [iv 0] aG ?_;intro _ K _ aI;refine aL [iv 0] aI ?_;intro _ O _ aJ;refine sT 1 aJ ?_;intro _ _ aK;refine sT 0 aK ?_;intro w8 _ aN;refine kA ?_;refine pv (Y3w (u:= .func (.func 100) #[] #[pt K 0,pt D 0,pt O 0]) rfl) (pv (r_zf rfl) (pn ?_));refine sq2 (qN ?_);refine lpJ hm (fun an o1 m a w9=>∃T4 x4 U E V,JR (nf 84) g T3 w8 a w9 T4 (loopM an m (E,V,U,x4)=some o1) [(3,pt D 0),(8,iv y1),(10,.slice a4 n2 c4),(11,pt K 0),(12,pt O 0),(13,.func (.func 100) #[] #[pt K 0,pt D 0,pt O 0]),(44,iv (qQ y3:Int)),(45,iv V)] [K7 O [iv U],K7 K [iv x4],K7 D [pt Y3 Y2],X0 R,Q78 a1 n1 c1 Z6,Q9 a1 n1 c1 p0,F5 Q3a 165 (.slice a4 n2 c4) E]) (fun _ _ h=>je h (aN.sN 0 7)) ?_;rintro an aP o1 ar _ _ w9 ⟨T4,x4,U,E,V,J,aQ,rfl,af,_⟩;obtain⟨m1,_,rfl,hm,ag⟩:=lrE aQ aP;refine qN ?_;refine sq2 (cd hm ?_ ?_)<;>intro bB hm
 . refine kE ?_;refine blk (qN ?_);refine sq2 ?_;obtain⟨u2,aS,hm⟩:=bindS hm;refine pu ?_;obtain⟨u3,ah,hm⟩:=bindS hm;obtain rfl:u2=u3:=oI (aS.symm.trans ah);obtain⟨cs2,aU,aV⟩:=af.focus (q:=6) ⟨rfl,rfl⟩ ah;cases Z4g aU;obtain⟨_,k2,cp2,hv2,_,_,aW,_⟩:=(af.own (i:=6) ⟨rfl,rfl⟩).v.ixc ah rfl;refine cB cf100 hm (Q6w (Z6:=Y4j Q3a 165 (.slice a4 n2 c4) E (Int.toNat V)) (aV.bE [3] [6,1,2,4,5,0]) (X4p hv2 aW) (Q1j K) (Q1j D) Z1 (Q1j O)) ?_;rintro W _ T5 aY _ ⟨rfl,aZ,_⟩ hm;have au:Sep g T5 aY [X0 R,F5 Q3a 165 (.slice a4 n2 c4) (List.set E (Int.toNat V) W.2.1),K7 K [iv W.2.2.1],K7 D [pt Y3 Y2],Z6 [.slice a1 n1 c1],F5 P6 125 (.slice a1 n1 c1) p0.list,K7 O [iv W.2.2.2]]:=aZ.unfocus (q:=1) (u:=W.2.1) ⟨rfl,rfl⟩ (Y2y (x:=W.2.1):Q3a.rp _ _ _ _);refine cd hm ?_ ?_<;>intro bC hm
   . refine qN ?_;have hm:=Q5e hm ag ar;exact re hm (au.sE [0,4,5])
   exact lg hm ag (au.sE [6,2,3,0,4,5,1])
 have hm:=Q7b hm ag ar;refine kB ?_;refine cB cf101 hm (Z3m (af.bE (Z4 0 7) [])) ?_;rintro _ _ _ _ _ ⟨rfl,ai,_⟩ hm;refine cd hm ?_ ?_<;>intro bD hm
 . exact sq2 (re hm (ai.sE [3,4,5]))
 refine pn ?_;refine sq2 ?_;obtain⟨u4,aj,hm⟩:=bindS hm;obtain rfl:u1=u4:=oI (ak.symm.trans aj);obtain⟨cs3,be,_⟩:=(ai.own (i:=5) ⟨rfl,rfl⟩).v.ixcS aj rfl;obtain⟨_,c5,rfl,h3⟩:=L4 be;refine kE ?_;refine rsS [0,0,0,0,0,1,1,2,1,0,0,0,2,0,0,2,0,0,2,0,0,2] [0,1,2,3,4,5,6,8,7,9,10,11,12,13,14,15,16,17,18,19,20,21] ai fun bF bG bf=>?_;obtain⟨y6,bg,hm⟩:=bindS hm;refine sS [(8,iv U)] cf101 (Z3m (bf.bE [3,4,5,6,0,1] []) _ bg) ?_;rintro _ _ _ _ ⟨rfl,bh,_⟩;refine pu ?_;obtain⟨_,_,bi,h4,rfl⟩:=bh.sl 3;obtain⟨u5,aw,hm⟩:=bindS hm;obtain rfl:u1=u5:=oI (aj.symm.trans aw);refine s2W [] ?_;refine Y4u (q:=2) (j:=4) (u':={u1 with Type_:={u1.Type_ with Fields:=E}}) bi ⟨rfl,rfl⟩ aw rfl rfl rfl sizeOf121 rfl rfl rfl (fun c0 I=>by obtain⟨a6,c6,rfl,h5⟩:=L4 I;exact(Q2n (x:={u1 with Type_:={u1.Type_ with Fields:=E}}) h4:P6.rp _ _ _ _)) fun bK bL bm=>?_;refine pu ?_;obtain⟨u6,bn,hm⟩:=bindS hm;refine s2W [] ?_;refine Y4u (q:=2) (j:=5) (u':={u6 with size:=y6}) bm ⟨rfl,rfl⟩ bn rfl rfl rfl sizeOf3 rfl rfl rfl (fun c0 I=>by obtain⟨a7,c7,rfl,h6⟩:=L4 I;exact(Q2n (x:={u6 with size:=y6}) h6:P6.rp _ _ _ _)) fun bN bO bo=>?_;refine pu ?_;obtain⟨u7,bp,hm⟩:=bindS hm;refine s2W [0] ?_;refine Y4u (q:=2) (j:=6) (u':={u7 with align:=U}) bo ⟨rfl,rfl⟩ bp rfl rfl rfl sizeOf3 rfl rfl rfl (fun c0 I=>by obtain⟨a8,c8,rfl,h7⟩:=L4 I;exact(Q2n (x:={u7 with align:=U}) h7:P6.rp _ _ _ _)) fun bQ bR bt=>?_;refine pu ?_;obtain⟨u8,bu,hm⟩:=bindS hm;refine s2W [] ?_;refine Y4u (q:=2) (j:=7) (u':={u8 with open_:=false}) bt ⟨rfl,rfl⟩ bu rfl rfl rfl sizeOf4 rfl rfl rfl (fun c0 I=>by obtain⟨a9,c9,rfl,h8⟩:=L4 I;exact(Q2n (x:={u8 with open_:=false}) h8:P6.rp _ _ _ _)) fun bU bV bw=>?_;refine pu ?_;exact se (B0 [(8,iv y1)] ⟨rfl,qZt⟩ fun J=>sq2 (re hm (bw.sE [0,1,2])))

instance:Ct 69 @Q8k:=⟨@Q8k,cf69⟩
theorem Q5g{p0:Q0}{p1:List S8}(hS:Q21 a1 a2 a3 a4 a5 a6 b1 oo1 n1 c1 n2 c2 n3 c3 n4 c4 n5 c5 n6 c6 Z6 H1 T0 g w0 pv1 r1 r2 R p0)(Z1:Ln Y3 Y2 Z6)(hL1:Ln b1 oo1 H1)(h1:SlR Q8a T0 w0 (sv a7 p1 c7) p1):∀r,I2 p0 p1=some r->
 Cl 32 #[pt Y3 Y2,sv a7 p1 c7] w0 (exR r (fun r=>J6 T0 w0 fun T w v=>∃a21 n16 c21,v= .tuple #[]/\Q18 a21 a2 a3 a4 a5 a6 b1 oo1 n16 c21 n2 c2 n3 c3 n4 c4 n5 c5 n6 c6 Z6 H1 T g w pv1 r1 r2 R r) (fun r=>L8 T0 w0 (Q37 a2 a3 a4 a5 a6 b1 oo1 n2 c2 n3 c3 n4 c4 n5 c5 n6 c6 Z6 H1 g pv1 r1 r2 R r.1.pos r.1.e r.2))):=by
 intro r hm;refine eN Tryz.func32 Tryz.ntmps32 fun J=>?_;unfold I2 at hm;refine sq2 (qN ?_);refine lpJ hm (fun E I m a w1=>∃T1 x3 a8 n7 c8 x2,JR (nf 75) g T0 w0 a w1 T1 (loopM E m (x2,x3)=some I) [(0,pt Y3 Y2),(1,sv a7 p1 c7),(15,sv a7 p1 c7),(16,iv (qQ p1:Int)),(17,iv x2)] ([X0 R]++X5 ({p0 with t:=x3}) Z6 H1 b1 oo1 a8 n7 c8 a2 n2 c2 a3 n3 c3 a4 n4 c4 r1 r2 a5 n5 c5 a6 n6 c6 pv1)) (fun _ _ h=>je h (hS.sN 0 11)) ?_;rintro E ae I af _ _ w1 ⟨T1,x3,a8,n7,c8,x2,J,ag,rfl,ah,_⟩;obtain⟨m1,z1,rfl,hm,K⟩:=lrE ag ae;refine qN ?_;refine sq2 (cd hm ?_ ?_)<;>intro bG hm
 . refine kE ?_;refine blk (sq2 ?_);obtain⟨u1,aP,hm⟩:=bindS hm;obtain⟨cs1,aQ,_,hT1⟩:=ixS ah aP h1;obtain⟨_,c9,rfl,h2⟩:=Z0g aQ;refine aL zv12 ah ?_;intro _ _ _ aR;refine sT 0 aR ?_;intro _ _ aS;refine kE ?_;refine rsS [0,0,0,1,0,1,2,0,0,0,0,0] [0,1,2,3,4,5,6,7,8,9,10,11] aS fun w4 bJ aT=>?_;obtain⟨_,aU,hm⟩:=bindS hm;refine sS [] cf66 (Z0b (aT.bE ([0,1,2]++Z4 5 7) [3,4]) hL1 _ aU) ?_;rintro _ _ _ _ ⟨_,_,c10,rfl,aV,_⟩;refine pn ?_;refine cP cf67 hm (Q2u (aV.bE (Z4 1 11) [])) ?_ ?_
   . have dd:KD [(6,[3,5])]:=⟨qZt⟩;exact zk
   rintro _ _ _ _ _ ⟨rfl,aW,_⟩ hm;exact lg hm K (aW.sE ([0,1,9,10]++Z4 2 7))
 have hm:=Q7b hm K af;refine kD ?_;refine lpJ hm (fun E I m a w8=>∃T5 aj ak az n9 c11 U,JR (nf 75) g T1 w1 a w8 T5 (loopM E m (U,ak,aj)=some I) [(0,pt Y3 Y2),(36,sv a7 p1 c7),(37,iv (qQ p1:Int)),(38,iv U)] ([X0 R]++X5 ({ak with t:=aj}) Z6 H1 b1 oo1 az n9 c11 a2 n2 c2 a3 n3 c3 a4 n4 c4 r1 r2 a5 n5 c5 a6 n6 c6 pv1)) (fun _ _ h=>je h (ah.sN 0 11)) ?_;rintro E ae I af _ _ w8 ⟨T5,aj,ak,az,n9,c11,U,J,ag,rfl,am,_⟩;obtain⟨m1,z1,rfl,hm,K⟩:=lrE ag ae;refine qN ?_;refine sq2 (cd hm ?_ ?_)<;>intro bK hm
 . refine kE ?_;refine blk (sq2 ?_);obtain⟨u3,aX,hm⟩:=bindS hm;obtain⟨cs2,aY,_,hT2⟩:=ixS am aX h1;obtain⟨aB,c12,rfl,h3⟩:=Z0g aY;refine aL zv12 am ?_;intro _ b5 _ aZ;refine sT 0 aZ ?_;intro ba _ be;refine kD ?_;refine sq2 (qN ?_);have bf:=be.nilO Q3a 165;refine lpJ hm (fun aD o2 m a aF=>∃T6 V W ao ap aq c13 aI aJ c14 ar,JR (nf 75) g T5 ba a aF T6 (loopM aD m (ao,ar,W,V)=some o2) [(0,pt Y3 Y2),(9,pt b5 0),(10,.slice ap aq c13),(36,sv a7 p1 c7),(37,iv (qQ p1:Int)),(38,iv U),(43,sv aB u3.Fields c12),(44,iv (qQ u3.Fields:Int)),(45,iv ar)] ([F5 Q3a 165 (.slice ap aq c13) ao,K7 b5 (X3j u3 aB c12),X0 R]++X5 ({W with t:=V}) Z6 H1 b1 oo1 aI aJ c14 a2 n2 c2 a3 n3 c3 a4 n4 c4 r1 r2 a5 n5 c5 a6 n6 c6 pv1)) (fun _ _ h=>je h (bf.sN 0 13)) ?_;rintro aD bg o2 bh _ _ aF ⟨T6,V,W,ao,ap,aq,c13,aI,aJ,c14,ar,J,bi,rfl,au,_⟩;obtain⟨_,_,rfl,hm,aK⟩:=lrE bi bg;refine qN ?_;refine sq2 (cd hm ?_ ?_)<;>intro bL hm
   . refine kE ?_;refine blk (sq2 ?_);obtain⟨O,bj,hm⟩:=bindS hm;obtain⟨cs3,bk,_,hT3⟩:=ixS au bj h3;obtain⟨_,c15,_,c16,rfl,h4,h5⟩:=Q4j bk;refine aL zv4 au ?_;intro _ _ _ bo;refine sT 0 bo ?_;intro _ _ bp;refine pn ?_;refine Z1p [0,0,1,0,1,2,0,2,2,0] [0,1,2,3,4,5,6,7,8,9] bp (Q0s (U5 (U5 (Q0s (U5 (Q0s (U5 (U5 (Q0s (C8)))))))))) fun bM bN aM=>pu ?_;obtain⟨D,bq,hm⟩:=bindS hm
     rcases D with e2|D
     . have dd:KD [(5,[4]),(7,[2,4,5]),(8,[2,4,5,7])]:=⟨qZt⟩;exact zr hm aM
     have hm:=C1 hm;refine sS [(2,(qZs O.Name))] cf68 (Q6h (p0:={W with t:=V}) (aM.bE [1,2,3,0] (Z4 4 10)) Z1 hL1 (mC h4) (mC h5) _ bq) ?_;rintro _ _ _ _ ⟨_,_,c17,rfl,bt,_⟩;refine pu ?_;refine s0 rfl qZt (fun _=>P3 (by kernel_rfl) rfl (u:= .agg #[qZs O.Name,iv D.1,iv 0])) rfl (s2W [0] ?_);refine obS (r:=Q3a) (l:=([(⟨O.Name,D.1,0⟩:K8)]:List K8)) (css:=[[Q14 O.Name.toArray,iv D.1,iv 0]]) bt ⟨(Y2y (x:=(⟨O.Name,D.1,0⟩:K8)):Q3a.rp _ _ _ _),qZt⟩ ?_;intro _ _ _ c18 _ bu;refine pu ?_;obtain⟨_,bv,hm⟩:=bindS hm;refine s2W [] ?_;refine oaO 1 bu (K9 bv) ?_;intro _ _ _ c19 _ bw;exact lg hm aK (bw.sE ([1,2,3]++Z4 5 10))
   have hm:=Q7b hm aK bh;refine kE ?_;refine rsS [0,0,0,1,0,1,0,2,0,0,0,0,0] [0,1,2,3,4,5,6,7,8,9,10,11,12] au fun bP bQ bz=>pu ?_;obtain⟨_,_,bA,h7,rfl⟩:=bz.sl 0;obtain⟨_,bC,hm⟩:=bindS hm;refine sS [] cf69 (Q8k (bA.bE ([1,2,3]++Z4 6 7) [4,5]) hL1 h7 _ bC) ?_;rintro _ _ _ _ ⟨rfl,bD,_⟩;refine pn ?_;refine cP cf67 hm (Q2u (bD.bE (Z4 1 11) [])) ?_ ?_
   . have dd:KD [(7,[3,5])]:=⟨qZt⟩;exact zk
   rintro _ _ _ _ _ ⟨rfl,bF,_⟩ hm;exact lg hm K (bF.sE ([0,1,9,10]++Z4 2 7))
 have hm:=Q7b hm K af;have hm:=oI hm;subst hm;refine pn ?_;exact zr hm am

instance:Ct 32 @Q5g:=⟨@Q5g,cf32⟩
theorem Q3f{p0:Q0}{p1:J2}(hS:Q21 a1 a2 a3 a4 a5 a6 b1 oo1 n1 c1 n2 c2 n3 c3 n4 c4 n5 c5 n6 c6 Z6 H1 T0 g w0 pv1 r1 r2 R p0)(Z1:Ln Y3 Y2 Z6)(hL1:Ln b1 oo1 H1)(h1:Q35 a7 c7 T0 w0 p1)(h2:Q7 a8 c8 T0 w0 p1.Init):∀r,L0 p0 p1=some r->
 Cl 70 #[pt Y3 Y2,Q77 a7 a8 c7 c8 p1] w0 (exR r (fun r=>J6 T0 w0 (Q81 a2 a3 a4 a5 a6 b1 oo1 n2 c2 n3 c3 n4 c4 n5 c5 n6 c6 Z6 H1 g pv1 r1 r2 R r.1 r.2)) (fun r=>L8 T0 w0 (Q37 a2 a3 a4 a5 a6 b1 oo1 n2 c2 n3 c3 n4 c4 n5 c5 n6 c6 Z6 H1 g pv1 r1 r2 R r.1.pos r.1.e r.2))):=by
 intro r hm;refine eN Tryz.func70 Tryz.ntmps70 fun J=>?_;unfold L0 at hm;exact zr hm hS

instance:Ct 70 @Q3f:=⟨@Q3f,cf70⟩
theorem Q3h{p0:Q0}{p1:Pos}{p2:Aa}(hS:Q21 a1 a2 a3 a4 a5 a6 b1 oo1 n1 c1 n2 c2 n3 c3 n4 c4 n5 c5 n6 c6 Z6 H1 T0 g w0 pv1 r1 r2 R p0)(Z1:Ln Y3 Y2 Z6)(hL1:Ln b1 oo1 H1):∀r,W5 p0 p1 p2=some r->
 Cl 71 #[pt Y3 Y2,Q36 p1,Q14 p2.toArray,.map r1] w0 (exR r (fun r=>J6 T0 w0 fun T w v=>v= .tuple #[]/\Q18 a1 a2 a3 a4 a5 a6 b1 oo1 n1 c1 n2 c2 n3 c3 n4 c4 n5 c5 n6 c6 Z6 H1 T g w pv1 r1 r2 R r) (fun r=>L8 T0 w0 (Q49 a1 a2 a3 a4 a5 a6 b1 oo1 n1 c1 n2 c2 n3 c3 n4 c4 n5 c5 n6 c6 Z6 H1 g pv1 r1 r2 R r.1.pos r.1.e r.2))):=by
 intro r hm;refine eN Tryz.func71 Tryz.ntmps71 fun J=>?_;unfold W5 at hm;refine sq2 (bX [iv p1.Line,iv p1.Col] hS ?_);intro _ E _ D;refine kA ?_;refine pv (Z7r (kk:=p2) (u:=0) rfl rfl (D.getA (i:=8) ⟨rfl,rfl⟩) Z0r underlying82 underlying9 zeroValue3 rfl) (pn ?_);refine qU ?_;refine pv (Z7r (kk:=p2) (u:=0) rfl rfl (D.getA (i:=9) ⟨rfl,rfl⟩) Z0r underlying82 underlying9 zeroValue3 rfl) (pn ?_);refine sq2 (blk (qU ?_));refine fkC (d:=34) (c:=(((P7 p0.globals p2).isSome)||((P7 p0.codes p2).isSome))) 2 [(2,(qZs p2)),(3,.map r1),(5,pt E 0)] rfl (fun hk=>zw ((P7 p0.globals p2).isSome) hk) fun J=>?_;refine cd hm ?_ ?_<;>intro O hm
 . exact zr hm D
 refine qU ?_;refine pv (r_lnM rfl (D.getA (i:=8) ⟨rfl,rfl⟩) underlying82) (cd hm ?_ ?_)<;>intro U hm
 . exact zr hm D
 refine pn ?_;obtain⟨_,I,hm⟩:=bindS hm;refine pu ?_;refine pv (r_lnM rfl (D.getA (i:=8) ⟨rfl,rfl⟩) underlying82) (wl rfl (muM (q:=8) (k:=p2) (u:=(Z4y p0.globals:Int)) D ⟨rfl,rfl⟩ I rfl rfl rfl Z0r underlying82 underlying9 fun V W K=>?_));have hm:=oI hm;subst hm;refine pn ?_;exact Q6y rfl ⟨_,rfl,_,ch,⟨rfl,(K.sN 1 11).unb,qZt⟩⟩

instance:Ct 71 @Q3h:=⟨@Q3h,cf71⟩
theorem Q1a{p0:Z9}{p1}(hS:Q28 a1 n1 c1 Z6 T0 g w0 R p0)(Z1:Ln Y3 Y2 Z6):∀r,M0 p0 p1=some r->
 Cl 75 #[pt Y3 Y2,iv p1] w0 (J6 T0 w0 fun T w v=>v= .bool r/\Q24 a1 n1 c1 Z6 T g w R p0):=by
 intro r hm;refine eN Tryz.func75 Tryz.ntmps75 fun J=>?_;unfold M0 at hm;refine qN ?_;refine sq2 (qU ?_);refine cB cf112 hm (Q7v (hS.bE [0] [1,2]) Z1) ?_;rintro _ _ _ _ _ ⟨rfl,D,_⟩ hm;refine cd hm ?_ ?_<;>intro K hm
 . exact sq2 (re hm (D.sE [0,1,2]))
 refine pn ?_;refine sq2 ?_;obtain⟨u1,E,hm⟩:=bindS hm;obtain⟨cs1,I,_⟩:=(D.own (i:=2) ⟨rfl,rfl⟩).v.ixcS E rfl;obtain⟨_,c2,rfl,h1⟩:=L4 I;refine kA ?_;refine fkC (d:=24) (c:=((u1.Type_.Kind==1)||(u1.Type_.Kind==2))) 3 [(5,iv u1.Type_.Kind)] rfl (fun hk=>zw (u1.Type_.Kind==1) hk) fun J=>pu ?_;exact fkC (d:=28) (c:=(((u1.Type_.Kind==1)||(u1.Type_.Kind==2))||(u1.Type_.Kind==3))) 3 [] rfl (fun hk=>zw ((u1.Type_.Kind==1)||(u1.Type_.Kind==2)) hk) fun J=>re hm (D.sE [0,1,2])

instance:Ct 75 @Q1a:=⟨@Q1a,cf75⟩
theorem Q1r{p0:Q0}{p1}(hS:Q21 a1 a2 a3 a4 a5 a6 b1 oo1 n1 c1 n2 c2 n3 c3 n4 c4 n5 c5 n6 c6 Z6 H1 T0 g w0 pv1 r1 r2 R p0)(Z1:Ln Y3 Y2 Z6)(hL1:Ln b1 oo1 H1):∀r,Q1f p0 p1=some r->
 Cl 104 #[pt Y3 Y2,iv p1] w0 (J6 T0 w0 fun T w v=>v=iv r/\Q18 a1 a2 a3 a4 a5 a6 b1 oo1 n1 c1 n2 c2 n3 c3 n4 c4 n5 c5 n6 c6 Z6 H1 T g w pv1 r1 r2 R p0):=by
 intro r hm;refine eN Tryz.func104 Tryz.ntmps104 fun J=>?_;unfold Q1f at hm;exact zr hm hS

instance:Ct 104 @Q1r:=⟨@Q1r,cf104⟩
theorem Q3s{p0:Q0}{p1:Aa}{p2}(hS:Q21 a1 a2 a3 a4 a5 a6 b1 oo1 n1 c1 n2 c2 n3 c3 n4 c4 n5 c5 n6 c6 Z6 H1 T0 g w0 pv1 r1 r2 R p0)(Z1:Ln Y3 Y2 Z6)(hL1:Ln b1 oo1 H1):∀r,Q2k p0 p1 p2=some r->
 Cl 72 #[pt Y3 Y2,Q14 p1.toArray,iv p2] w0 (J6 T0 w0 fun T w v=>v= .agg (X4u r).toArray/\Q18 a1 a2 a3 a4 a5 a6 b1 oo1 n1 c1 n2 c2 n3 c3 n4 c4 n5 c5 n6 c6 Z6 H1 T g w pv1 r1 r2 R p0):=by
 intro r hm;refine eN Tryz.func72 Tryz.ntmps72 fun J=>?_;unfold Q2k at hm;refine sq2 (aL [qZs [],iv 0,iv 0,iv 0] hS ?_);intro _ _ _ D;refine kE ?_;refine rsS [0,0,0,0,1,0,2,0,0,0,1,0,2,0,0,2,0,2] [0,1,2,3,4,5,7,8,9,10,11,13,14,6,12,15,16,17] D fun w2 af E=>?_;obtain⟨I,K,hm⟩:=bindS hm;refine sS [(10,pt b1 oo1)] Q9z (V7 (E.bE ([0,1,2]++Z4 5 7) [3,4]) hL1 _ K) ?_;rintro _ _ _ _ ⟨rfl,O,_⟩;refine pu ?_;obtain⟨U,V,hm⟩:=bindS hm;refine sS [] cf102 (Q2t (O.bE (Z4 0 10) [10,11]) hL1 _ V) ?_;rintro _ _ _ _ ⟨rfl,W,_⟩;refine pu ?_;obtain⟨y3,ab,hm⟩:=bindS hm;refine sS [] cf104 (Q1r (W.bE [0,1] ([2,10,11]++Z4 3 7)) Z1 hL1 _ ab) ?_;rintro _ _ _ _ ⟨rfl,ac,_⟩;refine pu ?_;refine s0 rfl qZt (fun _=>P3 (by kernel_rfl) rfl (u:= .agg #[qZs p1,iv I,iv U,iv y3])) rfl (s2W [] ?_);refine osT 0 ac ?_;intro _ _ ad;exact re hm (ad.sN 1 11)
instance:Ct 72 @Q3s:=⟨@Q3s,cf72⟩
end Go.Proofs.YtjohcgibbiebkaaGreatDoor
