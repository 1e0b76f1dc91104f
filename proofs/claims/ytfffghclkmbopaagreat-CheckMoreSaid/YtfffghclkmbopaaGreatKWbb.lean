/- That Go functions compute their models. Printed by gen2.py. -/
import Derived.Test.YtfffghclkmbopaaGreatKWb
set_option linter.unusedVariables false
namespace Go.Proofs.YtfffghclkmbopaaGreat
open List renaming length → qQ
open _root_.Go.Proofs.Tryz
set_option maxRecDepth 100000
set_option maxHeartbeats 8000000
attribute [local irreducible] wpList wpQuiet Code.wp
variable{g:World}{T0:Nat->Prop}{w0:World}{R:List X4}
variable{b1 b2 Y5 Q1c Z6c Z6b Z6x c1 c2 c3 c4 c5 c6 c7 c8 c9 c10 c11 c12 c13 n1 n2 n3 n4 n5 n6 n7 Y4 Q1b Z5m Z5l Z6p oo1 oo2:Nat}{H1 H2 Z7 R6 Z3o Z3n Z6f:List Value->X4}{a1 a2 a3 a4 a5 a6 a7 a8 a9 a10 a11 a12 a13:OA}{r1 r2:Option Nat}{pv1:Value}
attribute [local irreducible] A7 Q0r execOp Program.underlying sizeOf isAgg zeroValue

theorem Q6y{p0:Z0}{p1:K1}(hS:Sep g T0 w0 ([X3 R,Q1 a1 c1 Z7 p0]++Z3a p1 R6 a2 n1 c2 a3 n2 c3 a4 n3 c4))(Z2:Ln Y5 Y4 Z7)(h1:Q5 a1 c1 T0 w0 p0)(Q7w:Ln Q1c Q1b R6):∀r,G5 p0 p1=some r->
 Cl 30 #[pt Y5 Y4,pt Q1c Q1b] w0 (exR r (fun r=>J1 T0 w0 fun T w v=>∃a63 c63 a64 n21 c64 a65 n22 c65 a66 n23 c66,v= .tuple #[]/\Sep g T w (R++([Q1 a63 c63 Z7 r.1]++Z3a r.2 R6 a64 n21 c64 a65 n22 c65 a66 n23 c66))/\Q5 a63 c63 T w r.1/\True) (fun r=>L0 T0 w0 fun T w v=>∃a63 c63 a64 n21 c64 a65 n22 c65 a66 n23 c66,v= .iface 63 (Q18 r.1.pos r.1.e)/\Sep g T w (R++([Q1 a63 c63 Z7 r.2.1]++Z3a r.2.2 R6 a64 n21 c64 a65 n22 c65 a66 n23 c66))/\Q5 a63 c63 T w r.2.1/\True)):=by
 intro r hm;refine eN Tryz.func30 Tryz.ntmps30 fun J=>?_;unfold G5 at hm;refine qU ?_;refine cB cf57 hm (I2 (hS.bE [0,2,3,4,5] [1]) Z2 h1) ?_;rintro D _ _ _ _ ⟨rfl,bF,_⟩ hm;refine aL [iv 0,iv 0] bF ?_;intro _ _ _ bG;refine sT 0 bG ?_;intro _ _ bI;refine kB ?_;refine cB cf58 hm (O1 (bI.bE (Z4 0 6) [6]) Z2 (mC h1)) ?_;rintro _ _ _ _ _ ⟨rfl,bm,_⟩ hm;refine pu ?_
 rcases bc hm with⟨bJ,hm⟩|⟨bJ,hm⟩
 . refine pu ?_;refine cB cf59 hm (Q7e (bm.bE (Z4 0 6) [6]) Z2 (mC h1)) ?_;rintro _ _ _ _ _ ⟨rfl,bn,_⟩ hm;refine cd hm ?_ ?_<;>intro eI hm
   . refine qU ?_;refine cP Z4f hm (V7 (bn.bE (Z4 0 6) [6]) Z2 (mC h1)) ?_ ?_
     . exact zk
     rintro _ _ T4 w6 _ ⟨_,c5,rfl,bM,h2,_⟩ hm;refine pn ?_;refine S9 hm (fun bo a w7=>∃T5 x1 a6 c6 b2 U a7 c7,JR (nf 77) g T4 w6 a w7 T5 (bo x1 U=some r) [(0,pt Y5 Y4),(1,pt Q1c Q1b),(5,pt b2 0)] ([X3 R]++(Z3a p1 R6 a2 n1 c2 a3 n2 c3 a4 n3 c4++[Q1 a6 c6 Z7 x1,K4 b2 (Y9n U a7 c7)]))/\Q5 a6 c6 T5 w7 x1/\Q27 a7 c7 T5 w7 U.Fields) (fun bo hm=>?_) ?_
     . refine rtPS [1,0,2,0,2,2] [0,1,2,3,4,5] bM (U5 (U5 (C7))) fun w8 eK am=>pu ?_;obtain⟨y5,ao,hm⟩:=Z9 hm
       rcases y5 with e1|y5
       . have hm:=J4 hm;refine tF [2,4] ?_;refine⟨?_,?_,qZt⟩
         . refine brW [3,4,5] [] ?_;refine oP cf61 (N6 (am.bE (Z4 1 5++[0]) [6]) Z2 (mC h2) _ ao) ?_;rintro _ T8 _ _ ⟨bO,c10,rfl,bP,h7,_⟩;exact pe hm (bP.sE [0,6,1,2,3,4])
         refine brW [2,3,5] [] ?_;refine oaL zv13 am ?_;intro _ b4 _ bT;refine t1W [2] [3,5] [] ?_;refine oP cf61 (N6 (bT.bE [0,2,3,4,5,6,1] [7]) Z2 (mC h2) _ ao) ?_;rintro _ T8 bU bV ⟨bO,c10,rfl,aD,h7,_⟩;exact pe hm (aD.sE [1,7,2,3,4,5])
       have hm:=C4 hm;refine tF [2,4] ?_;refine⟨?_,?_,qZt⟩
       . refine brW [3,4,5] [] ?_;refine oS cf61 (N6 (am.bE (Z4 1 5++[0]) [6]) Z2 (mC h2) _ ao) ?_;rintro _ T6 w9 bZ ⟨a8,c8,rfl,aE,h5,_⟩;refine pu ?_;refine t0 rfl qZt (fun _=>P3 (by kernel_rfl) rfl (u:= .agg #[iv D.Line,iv D.Col,qZs y5.1,.slice none 0 0])) rfl (t1W [4] [5] [] ?_);refine oaL zv13 aE ?_;intro ce b3 cg aF;refine t1W [5] [] [0] ?_;refine osT 0 aF ?_;intro ci cj aG;refine pu ?_;exact je hm (aG.sE (Z4 1 5++[7,0]))
       refine brW [2,3,5] [] ?_;refine oaL zv13 am ?_;intro w9 b3 bZ aE;refine t1W [2] [3,5] [] ?_;refine oS cf61 (N6 (aE.bE [0,2,3,4,5,6,1] [7]) Z2 (mC h2) _ ao) ?_;rintro _ T6 ce cg ⟨a8,c8,rfl,aF,h5,_⟩;refine pu ?_;refine t0 rfl qZt (fun _=>P3 (by kernel_rfl) rfl (u:= .agg #[iv D.Line,iv D.Col,qZs y5.1,.slice none 0 0])) rfl (t1W [5] [] [0] ?_);refine osT 0 aF ?_;intro ci cj aG;refine pu ?_;exact je hm (aG.sE (Z4 1 5++[7,0]))
     rintro _ w7 ⟨T5,x1,a6,c6,b2,U,a7,c7,⟨J,hm,rfl,aD,_⟩,h3,_⟩;refine qU ?_;refine cP cf62 hm (Q5x (aD.bE (Z4 0 5++[6]) [5]) Z2 h3) ?_ ?_
     . exact zk
     rintro y6 _ _ bU bV ⟨cl,_,c11,_,c12,rfl,cm,_,_⟩ hm;refine sT 5 cm ?_;intro _ _ cn;refine kE ?_;refine rsS [0,0,0,0,1,1,2,2,0,0,2] [0,1,2,3,4,5,6,7,8,9,10] cn fun eM eO cp=>pu ?_;obtain⟨_,_,cq,h9,rfl⟩:=cp.sl 7;refine s2W [0] ?_;refine obS (r:=Q6q) (l:=([{U with Fields:=y6.1}]:List Q2n)) (css:=[[iv U.Pos.Line,iv U.Pos.Col,Q16 U.Name.toArray,sv cl y6.1 c11]]) cq ⟨(Y2j (x:={U with Fields:=y6.1}) h9:Q6q.rp _ _ _ _),qZt⟩ ?_;intro _ _ _ c13 _ ct;refine pu ?_;obtain⟨_,cu,hm⟩:=Z9 hm;refine s2W [0] ?_;refine oaO 3 ct (K9 cu) ?_;intro _ _ _ c14 _ cv;refine s2W [] ?_;refine osB 2 0 Q7w cv ?_;intro _ _ cw;exact re hm (cw.sE [1,7,2,3,4,5])
   refine kA ?_;refine cP cf63 hm (E3 (bn.bE (Z4 0 6) [6]) Z2 (mC h1)) ?_ ?_
   . exact zk
   rintro K _ _ _ _ ⟨_,c17,rfl,cx,cy,_⟩ hm;refine aL zv10 cx ?_;intro _ b4 _ cz;refine sT 0 cz ?_;intro _ _ cA;refine kA ?_;refine cP cf61 hm (N6 (cA.bE (Z4 0 7) [7]) Z2 (mC cy)) ?_ ?_
   . exact zk
   rintro y8 _ _ _ _ ⟨_,c18,rfl,cC,V,_⟩ hm;refine kB ?_;refine cB cf58 hm (O1 (cC.bE (Z4 0 7) [7]) Z2 V) ?_;rintro _ _ cD cE _ ⟨rfl,bp,_⟩ hm;refine cd hm ?_ ?_<;>intro eP hm
   . refine sq2 (Q9y [0,0,0,0,1,0,1,1,0,0,2,2,2,0,0,2] [0,1,2,3,4,5,6,7,8,9,10,11,12,13,14,15] bp (U5 (U5 (C7))) fun eQ eR bq=>pu ?_);refine s0 rfl qZt (fun _=>P3 (by kernel_rfl) rfl (u:= .agg #[iv D.Line,iv D.Col,qZs K.1.Word,qZs K.1.Name,iv K.1.Stars,qZs y8.1,.slice none 0 0,.slice none 0 0,.bool false])) rfl ?_;obtain⟨ab,bt,hm⟩:=Z9 hm
     rcases ab with e4|ab
     . have hm:=J4 hm;refine s2 [(4,.slice a3 n2 c3)] rfl qZt rfl (by kernel_rfl) (Q8x cf64 rfl (W6 (p0:=y8.2) (p1:=(⟨D,K.1,y8.1,[],[],false⟩:G9)) (bq.bE (Z4 2 5++[0,1]) [7]) Z2 (mC V) U1 _ bt) rfl fun eT eU eV eW cF=>?_);obtain⟨_,c24,rfl,cG,_,_⟩:=cF;exact pe hm (cG.sE [0,7,1,2,3,4])
     have hm:=C4 hm;refine sS [(4,.slice a3 n2 c3)] cf64 (W6 (bq.bE (Z4 2 5++[0,1]) [7]) Z2 (mC V) U1 _ bt) ?_;rintro _ _ _ _ ⟨cI,c19,cJ,c20,_,c21,rfl,cK,cL,cM,_,_⟩;refine s2W [] ?_;refine obS (r:=Q2c) (l:=([ab.1]:List G9)) (css:=[(Z8m ab.1 cI c19 cJ c20)]) cK ⟨(Z7o (x:=ab.1) cL cM:Q2c.rp _ _ _ _),qZt⟩ ?_;intro _ _ _ c22 _ cO;refine pu ?_;obtain⟨_,cQ,hm⟩:=Z9 hm;refine s2W [0] ?_;refine oaO 4 cO (K9 cQ) ?_;intro _ _ _ c23 _ cR;refine s2W [] ?_;refine osB 2 1 Q7w cR ?_;intro _ _ cT;refine pu ?_;exact seP (E9 [] qZt fun J=>re hm (cT.sE [1,8,2,3,4,5]))
   refine pn ?_;refine S9 hm (fun bu a ac=>∃ad x3 aJ c25 b5 E aq c26 aM c27,JR (nf 77) g cD cE a ac ad (bu x3 E=some r) [(0,pt Y5 Y4),(1,pt Q1c Q1b),(8,pt b5 0)] ([X3 R]++(Z3a p1 R6 a2 n1 c2 a3 n2 c3 a4 n3 c4++[Q1 aJ c25 Z7 x3,K4 b5 (Y0b E aq c26 aM c27)]))/\Q5 aJ c25 ad ac x3/\Q27 aq c26 ad ac E.Params/\Q23 aM c27 ad ac E.Body) (fun bu hm=>?_) ?_
   . refine rtPS [1,1,0,0,2,0,2,2] [0,1,2,3,4,5,6,7] bp (U5 (C7)) fun eX eY ar=>pu ?_;obtain⟨bv,au,hm⟩:=Z9 hm
     rcases bv with e5|bv
     . have hm:=J4 hm;refine tF [4,6] ?_;refine⟨?_,?_,qZt⟩
       . refine brW [5,6,7] [] ?_;refine oP cf65 (B9 (ar.bE (Z4 2 5++[0,1]) [7]) Z2 (mC V) _ au) ?_;rintro _ cU _ _ ⟨cV,cW,rfl,cX,cY,_⟩;exact pe hm (cX.sE [0,7,1,2,3,4])
       refine brW [4,5,7] [] ?_;refine oaL zv6 ar ?_;intro _ b7 _ da;refine t1W [4] [5,7] [] ?_;refine oP cf65 (B9 (da.bE [0,3,4,5,6,7,1,2] [8]) Z2 (mC V) _ au) ?_;rintro _ cU db dc ⟨cV,cW,rfl,aN,cY,_⟩;exact pe hm (aN.sE [1,8,2,3,4,5])
     have hm:=C4 hm;refine tF [4,6] ?_;refine⟨?_,?_,qZt⟩
     . refine brW [5,6,7] [] ?_;refine oS cf65 (B9 (ar.bE (Z4 2 5++[0,1]) [7]) Z2 (mC V) _ au) ?_;rintro _ dd de dg ⟨aP,n9,c28,dh,c29,rfl,aR,di,_⟩;refine pu ?_;refine t0 rfl qZt (fun _=>P3 (by kernel_rfl) rfl (u:= .agg #[iv D.Line,iv D.Col,qZs K.1.Word,qZs K.1.Name,iv K.1.Stars,qZs y8.1,.slice aP n9 c28,.slice none 0 0])) rfl (t1W [6] [7] [] ?_);refine oaL zv6 aR ?_;intro dj b6 dl aS;refine t1W [7] [] [0,0] ?_;refine osT 0 aS ?_;intro dm dn aT;refine pu ?_;obtain⟨dp,dq,aU,dr,rfl⟩:=aT.sl 9;exact je hm (aU.sE (Z4 1 5++[8,0]))
     refine brW [4,5,7] [] ?_;refine oaL zv6 ar ?_;intro de b6 dg aR;refine t1W [4] [5,7] [] ?_;refine oS cf65 (B9 (aR.bE [0,3,4,5,6,7,1,2] [8]) Z2 (mC V) _ au) ?_;rintro _ dd dj dl ⟨aP,n9,c28,dh,c29,rfl,aS,di,_⟩;refine pu ?_;refine t0 rfl qZt (fun _=>P3 (by kernel_rfl) rfl (u:= .agg #[iv D.Line,iv D.Col,qZs K.1.Word,qZs K.1.Name,iv K.1.Stars,qZs y8.1,.slice aP n9 c28,.slice none 0 0])) rfl (t1W [7] [] [0,0] ?_);refine osT 0 aS ?_;intro dm dn aT;refine pu ?_;obtain⟨dp,dq,aU,dr,rfl⟩:=aT.sl 9;exact je hm (aU.sE (Z4 1 5++[8,0]))
   rintro _ ac ⟨ad,x3,aJ,c25,b5,E,aq,c26,aM,c27,⟨J,hm,rfl,aN,_⟩,ds,du,_⟩;refine qU ?_;refine cP cf66 hm (Z0y (aN.bE (Z4 0 5++[6]) [5]) Z2 ds) ?_ ?_
   . exact zk
   rintro aV _ _ db dc ⟨dv,_,dw,_,_,rfl,dx,dy,_⟩ hm;refine sT 5 dx ?_;intro _ _ dz;refine pn ?_;refine rsS [0,0,0,0,1,1,2,2,0,0,2] [0,1,2,3,4,5,6,7,8,9,10] dz fun e0 e2 dA=>pu ?_;obtain⟨_,_,dB,dC,rfl⟩:=dA.sl 7;refine s2W [0] ?_;refine obS (r:=Z0g) (l:=([{E with Body:=aV.1}]:List I1)) (css:=[[iv E.Pos.Line,iv E.Pos.Col,Q16 E.Ret.Word.toArray,Q16 E.Ret.Name.toArray,iv E.Ret.Stars,Q16 E.Name.toArray,sv aq E.Params c26,sv dv aV.1 dw]]) dB ⟨(Y1v (x:={E with Body:=aV.1}) (mC du) dC:Z0g.rp _ _ _ _),qZt⟩ ?_;intro _ _ _ _ _ dD;refine pu ?_;obtain⟨_,dE,hm⟩:=Z9 hm;refine s2W [0] ?_;refine oaO 5 dD (K9 dE) ?_;intro _ _ _ _ _ dF;refine s2W [] ?_;refine osB 2 2 Q7w dF ?_;intro _ _ dG;refine pu ?_;have hm:=oI hm;subst hm;refine pn ?_;exact end0 rfl ⟨_,rfl,_,ch,⟨_,_,_,_,_,_,_,_,_,_,_,rfl,(dG.sE [1,7,2,3,4,5]).unb,(mC dy),qZt⟩⟩
 refine pn ?_;refine cnd (b:=false) rfl (fun h=>nomatch h) (fun _=>pn ?_);refine qU ?_;refine cP cf63 hm (E3 (bm.bE (Z4 0 6) [6]) Z2 (mC h1)) ?_ ?_
 . exact zk
 rintro O _ _ _ _ ⟨_,_,rfl,dI,dJ,_⟩ hm;refine aL zv10 dI ?_;intro _ b7 _ dK;refine sT 0 dK ?_;intro _ _ dL;refine kA ?_;refine cP cf61 hm (N6 (dL.bE (Z4 0 7) [7]) Z2 (mC dJ)) ?_ ?_
 . exact zk
 rintro ae _ _ _ _ ⟨_,_,rfl,dM,W,_⟩ hm;refine kB ?_;refine cB cf58 hm (O1 (dM.bE (Z4 0 7) [7]) Z2 W) ?_;rintro _ _ dN dO _ ⟨rfl,bw,_⟩ hm;refine cd hm ?_ ?_<;>intro e3 hm
 . refine sq2 (Q9y [0,0,0,0,1,0,1,1,0,0,2,2,2,0,0,2] [0,1,2,3,4,5,6,7,8,9,10,11,12,13,14,15] bw (U5 (U5 (C7))) fun e6 e7 bz=>pu ?_);refine s0 rfl qZt (fun _=>P3 (by kernel_rfl) rfl (u:= .agg #[iv D.Line,iv D.Col,qZs O.1.Word,qZs O.1.Name,iv O.1.Stars,qZs ae.1,.slice none 0 0,.slice none 0 0,.bool false])) rfl ?_;obtain⟨af,bA,hm⟩:=Z9 hm
   rcases af with e9|af
   . have hm:=J4 hm;refine s2 [(4,.slice a3 n2 c3)] rfl qZt rfl (by kernel_rfl) (Q8x cf64 rfl (W6 (p0:=ae.2) (p1:=(⟨D,O.1,ae.1,[],[],false⟩:G9)) (bz.bE (Z4 2 5++[0,1]) [7]) Z2 (mC W) U1 _ bA) rfl fun fa fb fc fd dP=>?_);obtain⟨_,_,rfl,dQ,_,_⟩:=dP;exact pe hm (dQ.sE [0,7,1,2,3,4])
   have hm:=C4 hm;refine sS [(4,.slice a3 n2 c3)] cf64 (W6 (bz.bE (Z4 2 5++[0,1]) [7]) Z2 (mC W) U1 _ bA) ?_;rintro _ _ _ _ ⟨dR,dS,dT,dU,_,_,rfl,dV,dW,dX,_,_⟩;refine s2W [] ?_;refine obS (r:=Q2c) (l:=([af.1]:List G9)) (css:=[(Z8m af.1 dR dS dT dU)]) dV ⟨(Z7o (x:=af.1) dW dX:Q2c.rp _ _ _ _),qZt⟩ ?_;intro _ _ _ _ _ dY;refine pu ?_;obtain⟨_,dZ,hm⟩:=Z9 hm;refine s2W [0] ?_;refine oaO 4 dY (K9 dZ) ?_;intro _ _ _ _ _ d0;refine s2W [] ?_;refine osB 2 1 Q7w d0 ?_;intro _ _ d1;refine pu ?_;exact seP (E9 [] qZt fun J=>re hm (d1.sE [1,8,2,3,4,5]))
 refine pn ?_;refine S9 hm (fun bC a ag=>∃ah x5 aW aX b8 I aw ax aZ a9,JR (nf 77) g dN dO a ag ah (bC x5 I=some r) [(0,pt Y5 Y4),(1,pt Q1c Q1b),(8,pt b8 0)] ([X3 R]++(Z3a p1 R6 a2 n1 c2 a3 n2 c3 a4 n3 c4++[Q1 aW aX Z7 x5,K4 b8 (Y0b I aw ax aZ a9)]))/\Q5 aW aX ah ag x5/\Q27 aw ax ah ag I.Params/\Q23 aZ a9 ah ag I.Body) (fun bC hm=>?_) ?_
 . refine rtPS [1,1,0,0,2,0,2,2] [0,1,2,3,4,5,6,7] bw (U5 (C7)) fun fe ff ay=>pu ?_;obtain⟨bD,az,hm⟩:=Z9 hm
   rcases bD with fg|bD
   . have hm:=J4 hm;refine tF [4,6] ?_;refine⟨?_,?_,qZt⟩
     . refine brW [5,6,7] [] ?_;refine oP cf65 (B9 (ay.bE (Z4 2 5++[0,1]) [7]) Z2 (mC W) _ az) ?_;rintro _ d2 _ _ ⟨d4,d5,rfl,d6,d7,_⟩;exact pe hm (d6.sE [0,7,1,2,3,4])
     refine brW [4,5,7] [] ?_;refine oaL zv6 ay ?_;intro _ _ _ d8;refine t1W [4] [5,7] [] ?_;refine oP cf65 (B9 (d8.bE [0,3,4,5,6,7,1,2] [8]) Z2 (mC W) _ az) ?_;rintro _ d2 d9 ea ⟨d4,d5,rfl,ba,d7,_⟩;exact pe hm (ba.sE [1,8,2,3,4,5])
   have hm:=C4 hm;refine tF [4,6] ?_;refine⟨?_,?_,qZt⟩
   . refine brW [5,6,7] [] ?_;refine oS cf65 (B9 (ay.bE (Z4 2 5++[0,1]) [7]) Z2 (mC W) _ az) ?_;rintro _ eb ec ed ⟨be,bf,bg,ee,ef,rfl,bh,eg,_⟩;refine pu ?_;refine t0 rfl qZt (fun _=>P3 (by kernel_rfl) rfl (u:= .agg #[iv D.Line,iv D.Col,qZs O.1.Word,qZs O.1.Name,iv O.1.Stars,qZs ae.1,.slice be bf bg,.slice none 0 0])) rfl (t1W [6] [7] [] ?_);refine oaL zv6 bh ?_;intro eh b9 ej bi;refine t1W [7] [] [0,0] ?_;refine osT 0 bi ?_;intro w64 ek bj;refine pu ?_;obtain⟨el,em,bk,en,rfl⟩:=bj.sl 9;exact je hm (bk.sE (Z4 1 5++[8,0]))
   refine brW [4,5,7] [] ?_;refine oaL zv6 ay ?_;intro ec b9 ed bh;refine t1W [4] [5,7] [] ?_;refine oS cf65 (B9 (bh.bE [0,3,4,5,6,7,1,2] [8]) Z2 (mC W) _ az) ?_;rintro _ eb eh ej ⟨be,bf,bg,ee,ef,rfl,bi,eg,_⟩;refine pu ?_;refine t0 rfl qZt (fun _=>P3 (by kernel_rfl) rfl (u:= .agg #[iv D.Line,iv D.Col,qZs O.1.Word,qZs O.1.Name,iv O.1.Stars,qZs ae.1,.slice be bf bg,.slice none 0 0])) rfl (t1W [7] [] [0,0] ?_);refine osT 0 bi ?_;intro w64 ek bj;refine pu ?_;obtain⟨el,em,bk,en,rfl⟩:=bj.sl 9;exact je hm (bk.sE (Z4 1 5++[8,0]))
 rintro _ ag ⟨ah,x5,aW,aX,b8,I,aw,ax,aZ,a9,⟨J,hm,rfl,ba,_⟩,ep,es,_⟩;refine qU ?_;refine cP cf66 hm (Z0y (ba.bE (Z4 0 5++[6]) [5]) Z2 ep) ?_ ?_
 . exact zk
 rintro bl _ _ d9 ea ⟨et,_,eu,_,_,rfl,ew,ey,_⟩ hm;refine sT 5 ew ?_;intro _ _ ez;refine pn ?_;refine rsS [0,0,0,0,1,1,2,2,0,0,2] [0,1,2,3,4,5,6,7,8,9,10] ez fun fh fi eA=>pu ?_;obtain⟨_,_,eB,eC,rfl⟩:=eA.sl 7;refine s2W [0] ?_;refine obS (r:=Z0g) (l:=([{I with Body:=bl.1}]:List I1)) (css:=[[iv I.Pos.Line,iv I.Pos.Col,Q16 I.Ret.Word.toArray,Q16 I.Ret.Name.toArray,iv I.Ret.Stars,Q16 I.Name.toArray,sv aw I.Params ax,sv et bl.1 eu]]) eB ⟨(Y1v (x:={I with Body:=bl.1}) (mC es) eC:Z0g.rp _ _ _ _),qZt⟩ ?_;intro _ _ _ _ _ eD;refine pu ?_;obtain⟨_,eE,hm⟩:=Z9 hm;refine s2W [0] ?_;refine oaO 5 eD (K9 eE) ?_;intro _ _ _ _ _ eF;refine s2W [] ?_;refine osB 2 2 Q7w eF ?_;intro _ _ eG;refine pu ?_;have hm:=oI hm;subst hm;refine pn ?_;exact end0 rfl ⟨_,rfl,_,ch,⟨_,_,_,_,_,_,_,_,_,_,_,rfl,(eG.sE [1,7,2,3,4,5]).unb,(mC ey),qZt⟩⟩

instance:Ct 30 @Q6y:=⟨@Q6y,cf30⟩
theorem Q5e{p0:Z0}(hS:Q26 a1 c1 Z7 T0 g w0 R p0)(Z2:Ln Y5 Y4 Z7)(h1:Q5 a1 c1 T0 w0 p0):∀r,Q0j p0=some r->
 Cl 14 #[pt Y5 Y4] w0 (exR r (fun r=>J1 T0 w0 fun T w v=>∃a14 c14 a15 c15 a16 c16 a17 c17,v= .tuple #[Q48 a14 a15 a16 c14 c15 c16 r.1,.pointer none]/\Sep g T w (R++[Q1 a17 c17 Z7 r.2])/\Q61 a14 c14 T w r.1/\Q27 a15 c15 T w r.1.Globals/\Q69 a16 c16 T w r.1/\Q5 a17 c17 T w r.2/\True) (fun r=>J1 T0 w0 fun T w v=>∃a14 c14 a15 c15 a16 c16 b4 a17 c17,v= .tuple #[Q48 a14 a15 a16 c14 c15 c16 r.1,pt b4 0]/\Sep g T w (R++[Q1 a17 c17 Z7 r.2.2,K4 b4 (M3 r.2.1.pos r.2.1.e)])/\Q61 a14 c14 T w r.1/\Q27 a15 c15 T w r.1.Globals/\Q69 a16 c16 T w r.1/\Q5 a17 c17 T w r.2.2/\True)):=by
 intro r hm;refine Y4n Tryz.func14 rfl Tryz.ntmps14 rfl fun J=>?_;unfold Q0j at hm;refine sq2 (aL zv14 hS ?_);intro _ D _ am;refine aL [.pointer none] am ?_;intro w2 E _ ao;refine kA ?_;refine pv (Y0r (u:= .func (.func 29) #[] #[pt D 0,pt E 0]) rfl) (wl rfl (dfO (f:=29) (cap:=#[pt D 0,pt E 0]) rfl (pn ?_)));refine sq2 ?_;have ap:=ao.nilO Q6q 79;have aq:=ap.nilO Q2c 86;have ar:=aq.nilO Z0g 92;refine lpJ hm (fun ah o1 m a U=>∃V K I W n1 c2 a3 n2 c3 a4 n3 c4 a5 c5,JR (⟨14,[⟨.fn (.func 29) #[pt D 0,pt E 0],#[]⟩]⟩) g T0 w2 a U V (X8 ah m (I,K)=some o1) [(0,pt Y5 Y4),(2,pt D 0),(3,pt E 0)] [G6 Z0g 92 (.slice W n1 c2) I.Funcs,G6 Q2c 86 (.slice a3 n2 c3) I.Globals,G6 Q6q 79 (.slice a4 n3 c4) I.Structs,K4 E [.pointer none],K4 D [.slice a4 n3 c4,.slice a3 n2 c3,.slice W n1 c2],X3 R,Q1 a5 c5 Z7 K]/\Q5 a5 c5 V U K) (fun _ _ h=>je h (ar.sN 0 7)) ?_;rintro ah au o1 aj _ _ U ⟨V,K,I,W,n1,c2,a3,n2,c3,a4,n3,c4,a5,c5,⟨J,av,rfl,ak,_⟩,h2⟩;obtain⟨m1,_,rfl,hm,ag⟩:=lrE av au;refine sq2 (sq2 (cd hm ?_ ?_))<;>intro aI hm
 . refine pn ?_;refine blk (pu ?_);refine cP cf30 hm (Q6y (ak.bE [3,5] [6,4,2,1,0]) Z2 h2 (Q4m D)) ?_ ?_
   . rintro O _ _ _ _ ⟨_,c10,_,_,c11,_,_,c12,_,_,c13,rfl,aw,_,_⟩ hm;refine pn ?_;refine panD cf29 (Y5s (args:=[pt D 0,pt E 0]) Tryz.func29 rfl Tryz.ntmps29 rfl rfl rfl fun J=>sq2 (qU ?_));refine pv (Z2i (v:= .iface 63 (.agg (M3 O.1.pos O.1.e).toArray)) rfl) (pv (Y5u rfl (by kernel_rfl)) (pn ?_));refine cnd (b:=false) rfl (fun h=>nomatch h) (fun _=>pn ?_);refine qU ?_;refine pv (Z2i (v:= .iface 63 (.agg (M3 O.1.pos O.1.e).toArray)) rfl) (pv (r_ta rfl (by kernel_rfl)) (aL [iv 0,iv 0,iv 0] aw ?_));intro _ _ _ ax;refine sT 0 ax ?_;intro _ _ ay;refine pn ?_;refine pv (P3 (by kernel_rfl) rfl (u:= .agg #[.slice none 0 0,.slice none 0 0,.slice none 0 0])) (sT 4 ay ?_);intro _ _ az;refine sT 1 az ?_;intro _ _ aA;have hm:=Q4j hm ag aj;exact eo hm (aA.sE [2,3,0])
   rintro _ _ _ _ _ ⟨_,c6,_,_,c7,_,_,c8,_,_,c9,rfl,aB,_,_⟩ hm;exact lg hm ag (aB.sE [6,5,4,0,3,1,2])
 have hm:=Z0r hm ag aj;refine kE ?_;refine sT 4 ak ?_;intro _ _ aC;refine sT 3 aC ?_;intro _ _ aD;refine pn ?_;refine pn ?_;refine retD cf29 (recN2 (args:=[pt D 0,pt E 0]) Tryz.func29 rfl Tryz.ntmps29 rfl rfl rfl fun J=>sq2 (qU ?_));refine pv (Z2i (v:= .nilIface) rfl) (pv (r_eqn rfl (by kernel_rfl)) (pn ?_));refine cnd (b:=true) rfl (fun _=>?_) (fun h=>nomatch h);obtain⟨_,_,aE,_,rfl⟩:=aD.sl 2;obtain⟨_,_,aF,_,rfl⟩:=aE.sl 1;obtain⟨_,_,aG,_,rfl⟩:=aF.sl 0;exact eo hm (aG.sE [5,6])

instance:Ct 14 @Q5e:=⟨@Q5e,cf14⟩
theorem Z1n{p0:List UInt8}(hS:Sep g T0 w0 [X3 R])(hG0:Gi T0 w0 0):∀r,Q5j p0=some r->
 Cl 8 #[Q16 p0.toArray] w0 (J1 T0 w0 fun T w v=>∃a10 c10 a11 c11 a12 c12,v= .tuple #[Q48 a10 a11 a12 c10 c11 c12 r.1,Q33 r.2.1,iv r.2.2]/\Sep g T w (R++[])/\Q61 a10 c10 T w r.1/\Q27 a11 c11 T w r.1.Globals/\Q69 a12 c12 T w r.1/\True):=by
 intro r hm;refine eN Tryz.func8 Tryz.ntmps8 fun J=>?_;unfold Q5j at hm;refine sq2 (aL zv14 hS ?_);intro _ E _ ab;refine aL [iv 0,iv 0] ab ?_;intro _ I _ ac;refine kA ?_;refine cB cf13 hm (Z8d (ac.bE [0,1,2] []) (hG0.mono ch)) ?_;rintro D _ _ _ _ ⟨a1,K,c1,rfl,ad,_⟩ hm;refine aL [iv 0,iv 0] ad ?_;intro _ b3 _ af;refine sT 0 af ?_;intro _ _ O;refine pn ?_;refine sq2 (sq2 (cd hm ?_ ?_))<;>intro az hm
 . refine sq2 (rsS [0,1,0,2,2,0] [0,1,2,3,4,5] O fun w6 aB ag=>?_);have dd:KD [(3,[]),(4,[1,3])]:=⟨qZt⟩;exact zr hm ag
 refine kA ?_;refine pv (P3 (by kernel_rfl) rfl (u:= .agg #[.slice a1 K c1,iv D.2.1.Line,iv D.2.1.Col,iv 0])) (bX [.slice a1 K c1,iv D.2.1.Line,iv D.2.1.Col,iv 0] O ?_);intro _ U _ ah;refine kA ?_;obtain⟨_,_,V,h1,rfl⟩:=ah.sl 5;obtain⟨W,aa,hm⟩:=Z9 hm
 rcases W with e1|W
 . have hm:=J4 hm;refine cS cf14 (Q5e (V.bE (Z4 1 4) [0]) (Q4m U) h1 _ aa) ?_;rintro _ _ _ _ ⟨_,c6,_,c7,_,c8,_,_,c9,rfl,aj,_,_,_,_,_⟩;refine aL zv14 aj ?_;intro _ _ _ ak;refine sT 0 ak ?_;intro _ _ am;refine kB ?_;refine pv (Y3n rfl rfl rfl underlying59) (pn ?_);refine cnd (b:=true) rfl (fun _=>?_) (fun h=>nomatch h);refine sq2 (rsS [0,0,0,0,1,0,0,0,1,2,2,0] [0,1,2,3,4,5,6,7,8,9,10,11] am fun aD aE an=>s0 rfl qZt (fun _=>P3 (by kernel_rfl) rfl (u:= .agg #[.slice none 0 0,.slice none 0 0,.slice none 0 0])) rfl (pu ?_));refine s2W [] ?_;refine osT 3 an ?_;intro _ _ ao;refine⟨st1 rfl opv (st1 rfl ?_ st0),?_⟩
   . with_reducible apply r_ldP
     . exact rfl
     . exact tyA
     . exact tyS
     . assumption
     . exact atS
     . exact(rfl:_=[_,_])
     . exact rfl
   refine s2W [1,0] ?_;refine osT 2 ao ?_;intro _ _ ap;refine pu ?_;exact se (E9 [(2,pt E 0),(3,pt I 0),(4,iv e1.2.1.e)] ⟨rfl,rfl,rfl,qZt⟩ fun J=>re hm (ap.sE [4]))
 have hm:=C4 hm;refine cS cf14 (Q5e (V.bE (Z4 1 4) [0]) (Q4m U) h1 _ aa) ?_;rintro _ _ _ _ ⟨_,c2,_,c3,_,c4,_,c5,rfl,aq,h2,_,_,_,_⟩;refine aL zv14 aq ?_;intro _ b5 _ au;refine sT 0 au ?_;intro _ _ av;refine kB ?_;refine pv (Y3n rfl rfl rfl underlying59) (pn ?_);refine cnd (b:=false) rfl (fun h=>nomatch h) (fun _=>skp (E9 [(2,pt E 0),(3,pt I 0),(6,pt b3 0),(9,pt b5 0)] ⟨rfl,rfl,rfl,rfl,qZt⟩ fun J=>sq2 (rsS [1,1,2,2,0] [0,1,2,3,4] av fun aF aG aw=>s2W [1,0] ?_)));refine osT 3 aw ?_;intro _ _ ax;refine s2W [0] ?_;refine osT 2 ax ?_;intro _ _ ay;exact re hm (ay.sE [4])

instance:Ct 8 @Z1n:=⟨@Z1n,cf8⟩
theorem Z5q(hS:Sep g T0 w0 [X3 R]):∀r,Y1b=some r->
 Cl 15 #[] w0 (J1 T0 w0 fun T w v=>∃b2 a2 n2 c2,v=pt b2 0/\Sep g T w (R++[K4 b2 [.slice a2 n2 c2],Q7 a2 n2 c2 r])/\True):=by
 intro r hm;refine eN Tryz.func15 Tryz.ntmps15 fun J=>?_;unfold Y1b at hm;refine qN ?_;refine qU ?_;refine pv (P3 (by kernel_rfl) rfl (u:= .agg #[iv 0,iv 0,iv 0,Q38,.slice none 0 0,iv 0,iv 0,.bool false])) (pv (P3 (by kernel_rfl) rfl (u:= .agg #[iv 1,iv 0,iv 0,Q38,.slice none 0 0])) (pv (P3 (by kernel_rfl) rfl (u:= .agg #[iv 1,iv 0,iv 0,Q38,.slice none 0 0,iv 4,iv 4,.bool false])) (pv (P3 (by kernel_rfl) rfl (u:= .agg #[iv 2,iv 0,iv 0,Q38,.slice none 0 0])) (pv (P3 (by kernel_rfl) rfl (u:= .agg #[iv 2,iv 0,iv 0,Q38,.slice none 0 0,iv 1,iv 1,.bool false])) (bS (r:=P8) (l:=([(⟨(⟨0,0,0,([]:List UInt8),[]⟩:Q5t),0,0,false⟩:U8),(⟨(⟨1,0,0,([]:List UInt8),[]⟩:Q5t),4,4,false⟩:U8),(⟨(⟨2,0,0,([]:List UInt8),[]⟩:Q5t),1,1,false⟩:U8)]:List U8)) (css:=[zv16,[iv 1,iv 0,iv 0,Q38,.slice none 0 0,iv 4,iv 4,.bool false],[iv 2,iv 0,iv 0,Q38,.slice none 0 0,iv 1,iv 1,.bool false]]) hS ⟨(Q1s (x:=(⟨(⟨0,0,0,([]:List UInt8),[]⟩:Q5t),0,0,false⟩:U8)) U1:P8.rp _ _ _ _),(Q1s (x:=(⟨(⟨1,0,0,([]:List UInt8),[]⟩:Q5t),4,4,false⟩:U8)) U1:P8.rp _ _ _ _),(Q1s (x:=(⟨(⟨2,0,0,([]:List UInt8),[]⟩:Q5t),1,1,false⟩:U8)) U1:P8.rp _ _ _ _),qZt⟩ ?_)))));intro _ a1 D c1 _ E;refine pv (P3 (by kernel_rfl) rfl (u:= .agg #[.slice a1 D c1])) (bX [.slice a1 D c1] E ?_);intro _ _ _ I;exact re hm (I.sE [2,0,1])

instance:Ct 15 @Z5q:=⟨@Z5q,cf15⟩
theorem wlK{P:Program}{ops:Array Oper}{rest:List Oper}{Q:Exit->Act->World->Prop}{n:NF}{J:Nat->Value}{L M:List (Nat×Value)}{d:Nat}{w:World}{b c:Bool}(hk:∀(J:Nat->Value)(b:Bool),b=c->wpList P ops Q rest (env n J ((d,.bool b)::M)) w)(hs:Has n J L ((d,.bool b)::M))(e:b=c):wpList P ops Q rest (env n J L) w:=wlR (fun J=>hk J b e) hs
theorem zw{A H:Prop}(b:Bool)(hk:H)(h:(b=true\/b=false)->H->A:=by
 rintro(hb|hb) hk<;>(repeat(first|exact wlK hk (by repeat(first|exact qZt|refine⟨rfl,?_⟩)) (by rw[hb];rfl)|with_reducible refine rg ?_|((with_reducible apply pv);(exact opv))|((with_reducible apply gT);(exact rfl);(exact rfl);(first|assumption|exact rfl))|((with_reducible apply gF);(exact rfl);(exact rfl);(first|assumption|exact rfl))|((with_reducible apply gU);(exact rfl);(exact rfl))|((with_reducible apply s0a);(exact rfl);(exact rfl);(exact gwS);(intro _;exact opv))|((with_reducible apply sUa);(exact rfl);(exact gUS))|((with_reducible apply s1a);(exact rfl);(exact rfl);(exact gwS);(exact opv))|((with_reducible apply And.intro);(exact stS))|((with_reducible apply qv);(intro _ _;exact opq))|((with_reducible apply qgT);(exact rfl);(exact rfl);(first|assumption|exact rfl))|((with_reducible apply qgF);(exact rfl);(exact rfl);(first|assumption|exact rfl))|((with_reducible apply qgU);(exact rfl);(exact rfl))|((with_reducible apply t0a);(exact rfl);(exact rfl);(exact rfl);(exact gwS);(intro _;exact opv))|((with_reducible apply tUa);(exact rfl);(exact rfl);(exact gUS);(kernel_rfl))|((with_reducible apply t1a);(exact rfl);(exact rfl);(exact rfl);(exact gwS);(exact opv))))):A:=h (Bool.eq_false_or_eq_true b) hk
theorem Q6i{p0:U8}{p1:List UInt8}(hS:Sep g T0 w0 [X3 R,R6 [Q16 p1.toArray]])(h1:Q43 a1 c1 T0 w0 p0.Type_.Fields)(Q7w:Ln Q1c Q1b R6):∀r,Q6j p0 p1=some r->
 Cl 128 #[.agg (Q2p p0 a1 c1).toArray,pt Q1c Q1b] w0 (J1 T0 w0 fun T w v=>v= .bool r/\Sep g T w (R++[R6 [Q16 p1.toArray]])/\True):=by
 intro r hm;refine eN Tryz.func128 Tryz.ntmps128 fun J=>?_;unfold Q6j at hm;refine sq2 (bX (Q2p p0 a1 c1) hS ?_);intro _ _ _ D;refine kA ?_;exact fkC (d:=14) (c:=((p0.Type_.Kind==5)&&(decide (p0.Type_.Name=p1)))) 6 [] rfl (fun hk=>zw (p0.Type_.Kind==5) hk) fun J=>re hm (D.sE [1,2])

instance:Ct 128 @Q6i:=⟨@Q6i,cf128⟩
theorem Q7k{p0:List U8}{v_p0}{Z7:X4}{p1:List UInt8}(hS:Sep g T0 w0 [X3 R,Z7,R6 [Q16 p1.toArray]])(hV_p0:Vw Z7 P8 v_p0 p0)(Q7w:Ln Q1c Q1b R6):∀r,Q5k p0 p1=some r->
 Cl 127 #[v_p0,.func (.func 128) #[] #[pt Q1c Q1b]] w0 (J1 T0 w0 fun T w v=>v=iv r/\Sep g T w (R++[Z7,R6 [Q16 p1.toArray]])/\True):=by
 intro r hm;refine eN Tryz.func127 Tryz.ntmps127 fun J=>?_;unfold Q5k at hm;refine qN ?_;refine sq2 (qU ?_);refine pv (Z2i (v:=v_p0) rfl) (pv (r_lnV rfl (hS.view (i:=1) ⟨rfl,rfl⟩ hV_p0) underlying123) (pn ?_));refine lpJ hm (fun I K m a O=>∃U D,JR (nf 19) g T0 w0 a O U (X8 I m D=some K) [(0,v_p0),(1,.func (.func 128) #[] #[pt Q1c Q1b]),(7,iv (qQ p0:Int)),(8,iv D)] [X3 R,Z7,R6 [Q16 p1.toArray]]) (fun _ _ h=>je h (hS.sE [0,1,2])) ?_;rintro I aa K ab _ _ O ⟨U,D,J,ac,rfl,E,_⟩;obtain⟨m1,_,rfl,hm,V⟩:=lrE ac aa;refine qN ?_;refine sq2 (cd hm ?_ ?_)<;>intro af hm
 . refine kE ?_;refine blk (qN ?_);refine sq2 ?_;obtain⟨u1,ad,hm⟩:=Z9 hm;obtain⟨cs1,ae,_⟩:=(E.view (i:=1) ⟨rfl,rfl⟩ hV_p0).ixcS ad rfl;obtain⟨a1,c1,rfl,h1⟩:=I5 ae;refine pu ?_;refine pv (Z2i (v:=v_p0) rfl) (pu ?_);refine cB cf128 hm (Q6i (E.bE [0,1] [2]) h1 Q7w) ?_;rintro _ _ _ _ _ ⟨rfl,W,_⟩ hm;refine cd hm ?_ ?_<;>intro ag hm
   . refine qN ?_;have hm:=Q4j hm V ab;exact re hm (W.sE [0,1,2])
   exact lg hm V (W.sE [0,1,2])
 exact zr hm E

instance:Ct 127 @Q7k:=⟨@Q7k,cf127⟩
theorem Q7s{p0:Z5}{p1:List UInt8}(hS:Q24 a1 n1 c1 Z7 T0 g w0 R p0)(Z2:Ln Y5 Y4 Z7):∀r,Q1p p0 p1=some r->
 Cl 93 #[pt Y5 Y4,Q16 p1.toArray] w0 (Q78 a1 n1 c1 Z7 T0 w0 g R r p0):=by
 intro r hm;refine eN Tryz.func93 Tryz.ntmps93 fun J=>?_;unfold Q1p at hm;refine sq2 (bX [qZs p1] hS ?_);intro _ D _ E;refine kA ?_;refine pv (Y0r (u:= .func (.func 128) #[] #[pt D 0]) rfl) (cB cf127 hm (Q7k (Z7:=G6 P8 122 (.slice a1 n1 c1) p0.list) (E.bE [1,2] [3,0]) vwOwn (Q4m D)) ?_);rintro _ _ _ _ _ ⟨rfl,I,_⟩ hm;exact re hm (I.sE [0,1,2])

instance:Ct 93 @Q7s:=⟨@Q7s,cf93⟩
theorem Q7r{p0:U8}{p1:U8}(hS:Sep g T0 w0 [X3 R,R6 (Q2p p1 a2 c2)])(h1:Q43 a1 c1 T0 w0 p0.Type_.Fields)(Q7w:Ln Q1c Q1b R6)(h2:Q43 a2 c2 T0 w0 p1.Type_.Fields):∀r,Q8f p0 p1=some r->
 Cl 129 #[.agg (Q2p p0 a1 c1).toArray,pt Q1c Q1b] w0 (J1 T0 w0 fun T w v=>v= .bool r/\Sep g T w (R++[R6 (Q2p p1 a2 c2)])/\True):=by
 intro r hm;refine eN Tryz.func129 Tryz.ntmps129 fun J=>?_;unfold Q8f at hm;refine sq2 (bX (Q2p p0 a1 c1) hS ?_);intro _ D _ E;refine kA ?_;refine fkC (d:=19) (c:=((p0.Type_.Kind==p1.Type_.Kind)&&(p0.Type_.Elem==p1.Type_.Elem))) 8 [(1,pt Q1c Q1b),(2,pt D 0)] rfl (fun hk=>zw (p0.Type_.Kind==p1.Type_.Kind) hk) fun J=>pu ?_;refine fkC (d:=28) (c:=(((p0.Type_.Kind==p1.Type_.Kind)&&(p0.Type_.Elem==p1.Type_.Elem))&&(p0.Type_.Len==p1.Type_.Len))) 8 [(1,pt Q1c Q1b)] rfl (fun hk=>zw ((p0.Type_.Kind==p1.Type_.Kind)&&(p0.Type_.Elem==p1.Type_.Elem)) hk) fun J=>pu ?_;exact fkC (d:=34) (c:=((((p0.Type_.Kind==p1.Type_.Kind)&&(p0.Type_.Elem==p1.Type_.Elem))&&(p0.Type_.Len==p1.Type_.Len))&&(p1.Type_.Kind !=5))) 5 [] rfl (fun hk=>zw (((p0.Type_.Kind==p1.Type_.Kind)&&(p0.Type_.Elem==p1.Type_.Elem))&&(p0.Type_.Len==p1.Type_.Len)) hk) fun J=>re hm (E.sE [1,2])

instance:Ct 129 @Q7r:=⟨@Q7r,cf129⟩
theorem Q6b{p0:List U8}{v_p0}{Z7:X4}{p1:U8}(hS:Sep g T0 w0 [X3 R,Z7,R6 (Q2p p1 a1 c1)])(hV_p0:Vw Z7 P8 v_p0 p0)(Q7w:Ln Q1c Q1b R6)(h1:Q43 a1 c1 T0 w0 p1.Type_.Fields):∀r,Q3k p0 p1=some r->
 Cl 127 #[v_p0,.func (.func 129) #[] #[pt Q1c Q1b]] w0 (J1 T0 w0 fun T w v=>v=iv r/\Sep g T w (R++[Z7,R6 (Q2p p1 a1 c1)])/\True):=by
 intro r hm;refine eN Tryz.func127 Tryz.ntmps127 fun J=>?_;unfold Q3k at hm;refine qN ?_;refine sq2 (qU ?_);refine pv (Z2i (v:=v_p0) rfl) (pv (r_lnV rfl (hS.view (i:=1) ⟨rfl,rfl⟩ hV_p0) underlying123) (pn ?_));refine lpJ hm (fun I K m a O=>∃U D,JR (nf 19) g T0 w0 a O U (X8 I m D=some K) [(0,v_p0),(1,.func (.func 129) #[] #[pt Q1c Q1b]),(7,iv (qQ p0:Int)),(8,iv D)] [X3 R,Z7,R6 (Q2p p1 a1 c1)]) (fun _ _ h=>je h (hS.sE [0,1,2])) ?_;rintro I aa K ab _ _ O ⟨U,D,J,ac,rfl,E,_⟩;obtain⟨m1,_,rfl,hm,V⟩:=lrE ac aa;refine qN ?_;refine sq2 (cd hm ?_ ?_)<;>intro af hm
 . refine kE ?_;refine blk (qN ?_);refine sq2 ?_;obtain⟨u1,ad,hm⟩:=Z9 hm;obtain⟨cs1,ae,_⟩:=(E.view (i:=1) ⟨rfl,rfl⟩ hV_p0).ixcS ad rfl;obtain⟨_,c2,rfl,h2⟩:=I5 ae;refine pu ?_;refine pv (Z2i (v:=v_p0) rfl) (pu ?_);refine cB cf129 hm (Q7r (E.bE [0,1] [2]) h2 Q7w (mC h1)) ?_;rintro _ _ _ _ _ ⟨rfl,W,_⟩ hm;refine cd hm ?_ ?_<;>intro ag hm
   . refine qN ?_;have hm:=Q4j hm V ab;exact re hm (W.sE [0,1,2])
   exact lg hm V (W.sE [0,1,2])
 exact zr hm E

instance:Ct 127 @Q6b:=⟨@Q6b,cf127⟩
theorem Z3i{p0:Z5}{p1:U8}(hS:Q24 a1 n1 c1 Z7 T0 g w0 R p0)(Z2:Ln Y5 Y4 Z7)(h1:Q43 a2 c2 T0 w0 p1.Type_.Fields):∀r,Q3m p0 p1=some r->
 Cl 94 #[pt Y5 Y4,.agg (Q2p p1 a2 c2).toArray] w0 (Q45 Z7 T0 w0 g R r.1 r.2.1 r.2.2):=by
 intro r hm;refine eN Tryz.func94 Tryz.ntmps94 fun J=>?_;unfold Q3m at hm;refine sq2 (bX (Q2p p1 a2 c2) hS ?_);intro _ E _ I;refine kA ?_;refine pv (Y0r (u:= .func (.func 129) #[] #[pt E 0]) rfl) (cB cf127 hm (Q6b (Z7:=G6 P8 122 (.slice a1 n1 c1) p0.list) (I.bE [1,2] [3,0]) vwOwn (Q4m E) (mC h1)) ?_);rintro _ _ _ _ _ ⟨rfl,D,_⟩ hm;refine pn ?_;refine sq2 (blk (sq2 (cd hm ?_ ?_)))<;>intro aa hm
 . exact sq2 (re hm (D.sE [0,1,2]))
 refine sq2 (cd hm ?_ ?_)<;>intro ab hm
 . exact sq2 (re hm (D.sE [0,1,2]))
 refine kE ?_;refine rsS [0,0,0,0,1,1,2,2,0,0,2] [0,1,2,3,4,5,6,7,8,9,10] D fun w3 ad K=>s2W [0] ?_;refine obS (r:=P8) (l:=([p1]:List U8)) (css:=[(Q2p p1 a2 c2)]) K ⟨(Q1s (x:=p1) (mC h1):P8.rp _ _ _ _),qZt⟩ ?_;intro _ _ _ c3 _ O;refine pu ?_;obtain⟨_,U,hm⟩:=Z9 hm;refine s2W [0] ?_;refine oaO 3 O (K9 U) ?_;intro _ _ _ c4 _ V;refine s2W [] ?_;refine osB 2 0 Z2 V ?_;intro _ _ W;refine pu ?_;exact se (E9 [(0,pt Y5 Y4)] ⟨rfl,qZt⟩ fun J=>sq2 (re hm (W.sE [1,2,3])))

instance:Ct 94 @Z3i:=⟨@Z3i,cf94⟩
theorem Q8q{p0:Z5}{p1:List UInt8}(hS:Q24 a1 n1 c1 Z7 T0 g w0 R p0)(Z2:Ln Y5 Y4 Z7):∀r,Q6s p0 p1=some r->
 Cl 67 #[pt Y5 Y4,Q16 p1.toArray] w0 (Q45 Z7 T0 w0 g R r.1 r.2.1 r.2.2):=by
 intro r hm;refine eN Tryz.func67 Tryz.ntmps67 fun J=>?_;unfold Q6s at hm;exact zr hm hS

instance:Ct 67 @Q8q:=⟨@Q8q,cf67⟩
theorem C8{p0:Pos}{p1}(hS:Sep g T0 w0 [X3 R]):∀r,X0 p0 p1=some r->
 Cl 77 #[Q33 p0,iv p1] w0 (exR r (fun r=>J1 T0 w0 fun T w v=>v= .tuple #[]/\Q11 T g w R) (fun r=>L0 T0 w0 fun T w v=>v= .iface 76 (Q18 r.pos r.e)/\Q11 T g w R)):=by
 intro r hm;refine eN Tryz.func77 Tryz.ntmps77 fun J=>?_;unfold X0 at hm;exact zr hm hS

instance:Ct 77 @C8:=⟨@C8,Y2c⟩
theorem Q1x{p0:Pos}{p1}(hS:Sep g T0 w0 [X3 R]):∀r,R4 p0 p1=some r->
 Cl 68 #[Q33 p0,iv p1] w0 (exR r (fun r=>J1 T0 w0 fun T w v=>v= .tuple #[]/\Q11 T g w R) (fun r=>L0 T0 w0 fun T w v=>v= .iface 76 (Q18 r.pos r.e)/\Q11 T g w R)):=by
 intro r hm;refine eN Tryz.func68 Tryz.ntmps68 fun J=>?_;unfold R4 at hm;exact zr hm hS

instance:Ct 68 @Q1x:=⟨@Q1x,cf68⟩
theorem Q8r{p0:Z5}{p1:List UInt8}(hS:Q24 a1 n1 c1 Z7 T0 g w0 R p0)(Z2:Ln Y5 Y4 Z7):∀r,Q6t p0 p1=some r->
 Cl 108 #[pt Y5 Y4,Q16 p1.toArray] w0 (J1 T0 w0 fun T w v=>v= .tuple #[iv r.1,iv r.2]/\Q20 a1 n1 c1 Z7 T g w R p0):=by
 intro r hm;refine eN Tryz.func108 Tryz.ntmps108 fun J=>?_;unfold Q6t at hm;exact zr hm hS

instance:Ct 108 @Q8r:=⟨@Q8r,cf108⟩
theorem Q6k{p0:Z5}{p1}(hS:Q24 a1 n1 c1 Z7 T0 g w0 R p0)(Z2:Ln Y5 Y4 Z7):∀r,M7 p0 p1=some r->
 Cl 110 #[pt Y5 Y4,iv p1] w0 (J1 T0 w0 fun T w v=>v= .bool r/\Q20 a1 n1 c1 Z7 T g w R p0):=by
 intro r hm;refine eN Tryz.func110 Tryz.ntmps110 fun J=>?_;unfold M7 at hm;refine qN ?_;refine qU ?_;refine pv (Y3n rfl rfl rfl underlying65) (pu ?_);exact fkC (d:=19) (c:=((decide (0<=p1))&&(decide (p1<(qQ p0.list:Int))))) 8 [] rfl (fun hk=>zw (decide (0<=p1)) hk) fun J=>re hm (hS.sE [0,1,2])

instance:Ct 110 @Q6k:=⟨@Q6k,cf110⟩
theorem Q9m{p0:Z5}{p1}(hS:Q24 a1 n1 c1 Z7 T0 g w0 R p0)(Z2:Ln Y5 Y4 Z7):∀r,Q0u p0 p1=some r->
 Cl 109 #[pt Y5 Y4,iv p1] w0 (Q45 Z7 T0 w0 g R r.1 r.2.1 r.2.2):=by
 intro r hm;refine eN Tryz.func109 Tryz.ntmps109 fun J=>?_;unfold Q0u at hm;exact zr hm hS

instance:Ct 109 @Q9m:=⟨@Q9m,cf109⟩
theorem O6{p0:Q0}{p1:Pos}{p2:F9}(hS:Q19 a1 a2 a3 a4 a5 a6 b1 oo1 n1 c1 n2 c2 n3 c3 n4 c4 n5 c5 n6 c6 Z7 H1 T0 g w0 pv1 r1 r2 R p0)(Z2:Ln Y5 Y4 Z7)(hL1:Ln b1 oo1 H1):∀r,K7 p0 p1 p2=some r->
 Cl 75 #[pt Y5 Y4,Q33 p1,.agg (Z3c p2).toArray] w0 (exR r (fun r=>J1 T0 w0 (Q73 a2 a3 a4 a5 a6 b1 oo1 n2 c2 n3 c3 n4 c4 n5 c5 n6 c6 Z7 H1 g pv1 r1 r2 R r.1 r.2)) (fun r=>L0 T0 w0 (Q34 a2 a3 a4 a5 a6 b1 oo1 n2 c2 n3 c3 n4 c4 n5 c5 n6 c6 Z7 H1 g pv1 r1 r2 R r.1.pos r.1.e r.2))):=by
 intro r hm;refine eN Tryz.func75 Tryz.ntmps75 fun J=>?_;unfold K7 at hm;refine sq2 (bX [iv p1.Line,iv p1.Col] hS ?_);intro _ D _ am;refine bX (Z3c p2) am ?_;intro w2 b3 _ E;refine kD ?_;refine S9 hm (fun ac a I=>∃K O,JR (nf 53) g T0 w2 a I K (ac O=some r) [(0,pt Y5 Y4),(4,pt D 0),(5,pt b3 0),(7,iv O)] ([K4 b3 (Z3c p2),K4 D [iv p1.Line,iv p1.Col],X3 R]++X7 p0 Z7 H1 b1 oo1 a1 n1 c1 a2 n2 c2 a3 n3 c3 a4 n4 c4 r1 r2 a5 n5 c5 a6 n6 c6 pv1)) (fun ac hm=>?_) ?_
 . refine qN ?_;refine blk (sq2 (cd hm ?_ ?_))<;>intro ay hm
   . exact je hm (E.sN 0 13)
   refine sq2 (cd hm ?_ ?_)<;>intro az hm
   . exact je hm (E.sN 0 13)
   refine sq2 (cd hm ?_ ?_)<;>intro aA hm
   . refine sq2 (rsS [0,0,0,1,0,1,2,0,0,0,0,0] [0,1,2,3,4,5,6,7,8,9,10,11] E fun w4 aC ao=>?_);obtain⟨_,ap,hm⟩:=Z9 hm;refine sS [] cf108 (Q8r (ao.bE (Z4 0 4++Z4 6 7) [4,5]) hL1 _ ap) ?_;have dd:KD [(6,[3,5])]:=⟨qZt⟩;exact zo hm
   exact je hm (E.sN 0 13)
 rintro _ I ⟨K,O,J,hm,rfl,aq,_⟩;refine sq2 (qN ?_);refine lpJ hm (fun ad o1 m a w8=>∃T5 U a7 n7 c7 V W,JR (nf 53) g K I a w8 T5 (X8 ad m (V,W,U)=some o1) [(0,pt Y5 Y4),(4,pt D 0),(7,iv V),(35,iv p2.Stars),(36,iv W)] ([K4 D [iv p1.Line,iv p1.Col],X3 R]++X7 ({p0 with t:=U}) Z7 H1 b1 oo1 a7 n7 c7 a2 n2 c2 a3 n3 c3 a4 n4 c4 r1 r2 a5 n5 c5 a6 n6 c6 pv1)) (fun _ _ h=>je h (aq.sN 1 12)) ?_;rintro ad ar o1 aj _ _ w8 ⟨T5,U,a7,n7,c7,V,W,J,au,rfl,ak,_⟩;obtain⟨m1,_,rfl,hm,aa⟩:=lrE au ar;refine qN ?_;refine sq2 (cd hm ?_ ?_)<;>intro aE hm
 . refine kE ?_;refine blk (qU ?_);refine cB cf109 hm (Q9m (ak.bE ([0,1,2]++Z4 5 7) [3,4]) hL1) ?_;rintro _ _ _ _ _ ⟨_,_,c8,rfl,av,_⟩ hm;refine kA ?_;refine cP cf68 hm (Q1x (av.bE (Z4 0 12) [])) ?_ ?_
   . rintro _ _ _ _ _ ⟨rfl,aw,_⟩ hm;have hm:=Q4j hm aa aj;exact pe hm (aw.sE ([1,2,10,11]++Z4 3 7))
   rintro _ _ _ _ _ ⟨rfl,ax,_⟩ hm;refine pn ?_;exact lg hm aa (ax.sE ([0,1,2,10,11]++Z4 3 7))
 have hm:=Z0r hm aa aj;exact zr hm ak

instance:Ct 75 @O6:=⟨@O6,cf75⟩
theorem Q7u{p0:Z5}{p1 p2}(hS:Q24 a1 n1 c1 Z7 T0 g w0 R p0)(Z2:Ln Y5 Y4 Z7):∀r,Q5p p0 p1 p2=some r->
 Cl 95 #[pt Y5 Y4,iv p1,iv p2] w0 (Q45 Z7 T0 w0 g R r.1 r.2.1 r.2.2):=by
 intro r hm;refine eN Tryz.func95 Tryz.ntmps95 fun J=>?_;unfold Q5p at hm;exact zr hm hS

instance:Ct 95 @Q7u:=⟨@Q7u,cf95⟩
theorem Q5a{p0:Q0}{p1:G9}(hS:Q19 a1 a2 a3 a4 a5 a6 b1 oo1 n1 c1 n2 c2 n3 c3 n4 c4 n5 c5 n6 c6 Z7 H1 T0 g w0 pv1 r1 r2 R p0)(Z2:Ln Y5 Y4 Z7)(hL1:Ln b1 oo1 H1)(h1:Q37 a7 c7 T0 w0 p1)(h2:Q8 a8 c8 T0 w0 p1.Init):∀r,M0 p0 p1=some r->
 Cl 69 #[pt Y5 Y4,Q77 a7 a8 c7 c8 p1] w0 (exR r (fun r=>J1 T0 w0 (Q73 a2 a3 a4 a5 a6 b1 oo1 n2 c2 n3 c3 n4 c4 n5 c5 n6 c6 Z7 H1 g pv1 r1 r2 R r.1 r.2)) (fun r=>L0 T0 w0 (Q34 a2 a3 a4 a5 a6 b1 oo1 n2 c2 n3 c3 n4 c4 n5 c5 n6 c6 Z7 H1 g pv1 r1 r2 R r.1.pos r.1.e r.2))):=by
 intro r hm;refine eN Tryz.func69 Tryz.ntmps69 fun J=>?_;unfold M0 at hm;refine sq2 (bX (Z8m p1 a7 c7 a8 c8) hS ?_);intro _ E _ af;refine kA ?_;refine cP cf75 hm (O6 (af.bE [0,1] (Z4 2 10)) Z2 hL1) ?_ ?_
 . exact zk
 rintro y1 _ T1 w2 _ ⟨_,_,c9,rfl,aj,_⟩ hm;refine kC ?_;refine lpJ hm (fun U V m a W=>∃T2 I ab n8 c10 K D,JR (nf 44) g T1 w2 a W T2 (X8 U m (K,D,I)=some V) [(0,pt Y5 Y4),(3,pt E 0),(5,iv K),(6,iv D)] ([K4 E (Z8m p1 a7 c7 a8 c8),X3 R]++X7 ({y1.2 with t:=I}) Z7 H1 b1 oo1 ab n8 c10 a2 n2 c2 a3 n3 c3 a4 n4 c4 r1 r2 a5 n5 c5 a6 n6 c6 pv1)) (fun _ _ h=>je h (aj.sN 0 12)) ?_;rintro U ak V ad _ _ W ⟨T2,I,ab,n8,c10,K,D,J,am,rfl,ae,_⟩;obtain⟨m1,_,rfl,hm,O⟩:=lrE am ak;refine sq2 (sq2 (cd hm ?_ ?_))<;>intro av hm
 . refine kE ?_;refine blk (sq2 (rsS [0,0,0,1,0,0,1,0,0,1,0,2,0,0,0,0,0] [0,1,2,3,4,5,6,7,8,9,10,11,12,13,14,15,16] ae fun w4 ax an=>?_));obtain⟨u1,_,hm⟩:=Z9 hm;obtain⟨y2,ap,hm⟩:=Z9 hm;refine sS [] cf95 (Q7u (an.bE ([0,1,2]++Z4 5 7) [3,4]) hL1 _ ap) ?_;rintro _ _ _ _ ⟨_,_,c11,rfl,aq,_⟩;refine kA ?_;refine cP cf68 hm (Q1x (aq.bE (Z4 0 12) [])) ?_ ?_
   . rintro _ _ _ _ _ ⟨rfl,ar,_⟩ hm;have hm:=Q4j hm O ad;exact pe hm (ar.sE ([1,2,10,11]++Z4 3 7))
   rintro _ _ _ _ _ ⟨rfl,au,_⟩ hm;refine nil (Y6w (pu ?_));exact nil (t_blk (E9 [(0,pt Y5 Y4),(3,pt E 0),(5,iv y2.1),(6,iv D)] ⟨rfl,rfl,rfl,rfl,qZt⟩ fun J=>lg hm O (au.sE ([0,1,2,10,11]++Z4 3 7))))
 have hm:=Z0r hm O ad;exact zr hm ae

instance:Ct 69 @Q5a:=⟨@Q5a,cf69⟩
theorem Z2c{p0:K5}(hS:Sep g T0 w0 [X3 R]):∀r,Q8j p0=some r->
 Cl 131 #[Q76 p0] w0 (Q17 T0 w0 g R r):=by
 intro r hm;refine eN Tryz.func131 Tryz.ntmps131 fun J=>?_;unfold Q8j at hm;exact zr hm hS

instance:Ct 131 @Z2c:=⟨@Z2c,cf131⟩
theorem Z0d{p0:List K5}(hS:Sep g T0 w0 [X3 R])(h1:Q49 a1 c1 T0 w0 p0):∀r,Q3j p0=some r->
 Cl 155 #[sv a1 p0 c1,.func (.func 131) #[] #[]] w0 (Q25 T0 w0 g R r):=by
 intro r hm;refine eN Tryz.func155 Tryz.ntmps155 fun J=>?_;unfold Q3j at hm;refine qN ?_;refine sq2 (qN ?_);refine lpJ hm (fun E I m a K=>∃O D,JR (nf 19) g T0 w0 a K O (X8 E m D=some I) [(0,sv a1 p0 c1),(1,.func (.func 131) #[] #[]),(7,iv (qQ p0:Int)),(8,iv D)] [X3 R]) (fun _ _ h=>je h (hS.sE [0])) ?_;rintro E U I _ _ _ K ⟨O,D,J,V,rfl,W,_⟩;obtain⟨m1,_,rfl,hm,_⟩:=lrE V U;exact zr hm W

instance:Ct 155 @Z0d:=⟨@Z0d,cf155⟩
theorem Q5l{p0:List K5}(hS:Sep g T0 w0 [X3 R])(h1:Q49 a1 c1 T0 w0 p0):∀r,Q5i p0=some r->
 Cl 130 #[sv a1 p0 c1,.func (.func 131) #[] #[]] w0 (Q17 T0 w0 g R r):=by
 intro r hm;refine eN Tryz.func130 Tryz.ntmps130 fun J=>?_;unfold Q5i at hm;exact zr hm hS

instance:Ct 130 @Q5l:=⟨@Q5l,Y4r⟩
theorem Z2b{p0:K5}{p1:Z5}(hS:Sep g T0 w0 (Q41 a1 b1 oo1 n1 c1 R6 H1 R p1))(Q7w:Ln Q1c Q1b R6)(hL1:Ln b1 oo1 H1):∀r,Q8i p0 p1=some r->
 Cl 132 #[Q76 p0,pt Q1c Q1b] w0 (Q39 a1 b1 oo1 n1 c1 R6 H1 T0 w0 g R r p1):=by
 intro r hm;refine eN Tryz.func132 Tryz.ntmps132 fun J=>?_;unfold Q8i at hm;exact zr hm hS

instance:Ct 132 @Z2b:=⟨@Z2b,cf132⟩
theorem Z0c{p0:List K5}{p1:Z5}(hS:Sep g T0 w0 (Q41 a2 b1 oo1 n1 c2 R6 H1 R p1))(h1:Q49 a1 c1 T0 w0 p0)(Q7w:Ln Q1c Q1b R6)(hL1:Ln b1 oo1 H1):∀r,Q3i p0 p1=some r->
 Cl 155 #[sv a1 p0 c1,.func (.func 132) #[] #[pt Q1c Q1b]] w0 (J1 T0 w0 fun T w v=>v=iv r/\Sep g T w (R++[R6 [pt b1 oo1],H1 [.slice a2 n1 c2],Q7 a2 n1 c2 p1])/\True):=by
 intro r hm;refine eN Tryz.func155 Tryz.ntmps155 fun J=>?_;unfold Q3i at hm;refine qN ?_;refine sq2 (qN ?_);refine lpJ hm (fun E I m a K=>∃O D,JR (nf 19) g T0 w0 a K O (X8 E m D=some I) [(0,sv a1 p0 c1),(1,.func (.func 132) #[] #[pt Q1c Q1b]),(7,iv (qQ p0:Int)),(8,iv D)] (Q41 a2 b1 oo1 n1 c2 R6 H1 R p1)) (fun _ _ h=>je h (hS.sN 0 4)) ?_;rintro E U I _ _ _ K ⟨O,D,J,V,rfl,W,_⟩;obtain⟨m1,_,rfl,hm,_⟩:=lrE V U;exact zr hm W

instance:Ct 155 @Z0c:=⟨@Z0c,cf155⟩
theorem Q4a{p0:List K5}{p1:Z5}(hS:Sep g T0 w0 (Q41 a2 b1 oo1 n1 c2 R6 H1 R p1))(h1:Q49 a1 c1 T0 w0 p0)(Q7w:Ln Q1c Q1b R6)(hL1:Ln b1 oo1 H1):∀r,Q3s p0 p1=some r->
 Cl 130 #[sv a1 p0 c1,.func (.func 132) #[] #[pt Q1c Q1b]] w0 (Q39 a2 b1 oo1 n1 c2 R6 H1 T0 w0 g R r p1):=by
 intro r hm;refine eN Tryz.func130 Tryz.ntmps130 fun J=>?_;unfold Q3s at hm;exact zr hm hS

instance:Ct 130 @Q4a:=⟨@Q4a,Y4r⟩
theorem V8{p0:Z5}{p1}(hS:Q24 a1 n1 c1 Z7 T0 g w0 R p0)(Z2:Ln Y5 Y4 Z7):∀r,U9 p0 p1=some r->
 Cl 101 #[pt Y5 Y4,iv p1] w0 (Q78 a1 n1 c1 Z7 T0 w0 g R r p0):=by
 intro r hm;refine eN Tryz.func101 Tryz.ntmps101 fun J=>?_;unfold U9 at hm;exact zr hm hS

instance:Ct 101 @V8:=⟨@V8,Q8o⟩
theorem Z2a{p0:K5}{p1:Z5}(hS:Sep g T0 w0 (Q41 a1 b1 oo1 n1 c1 R6 H1 R p1))(Q7w:Ln Q1c Q1b R6)(hL1:Ln b1 oo1 H1):∀r,Q8h p0 p1=some r->
 Cl 133 #[Q76 p0,pt Q1c Q1b] w0 (Q39 a1 b1 oo1 n1 c1 R6 H1 T0 w0 g R r p1):=by
 intro r hm;refine eN Tryz.func133 Tryz.ntmps133 fun J=>?_;unfold Q8h at hm;exact zr hm hS

instance:Ct 133 @Z2a:=⟨@Z2a,cf133⟩
theorem Z0b{p0:List K5}{p1:Z5}(hS:Sep g T0 w0 (Q41 a2 b1 oo1 n1 c2 R6 H1 R p1))(h1:Q49 a1 c1 T0 w0 p0)(Q7w:Ln Q1c Q1b R6)(hL1:Ln b1 oo1 H1):∀r,Q3h p0 p1=some r->
 Cl 155 #[sv a1 p0 c1,.func (.func 133) #[] #[pt Q1c Q1b]] w0 (J1 T0 w0 fun T w v=>v=iv r/\Sep g T w (R++[R6 [pt b1 oo1],H1 [.slice a2 n1 c2],Q7 a2 n1 c2 p1])/\True):=by
 intro r hm;refine eN Tryz.func155 Tryz.ntmps155 fun J=>?_;unfold Q3h at hm;refine qN ?_;refine sq2 (qN ?_);refine lpJ hm (fun E I m a K=>∃O D,JR (nf 19) g T0 w0 a K O (X8 E m D=some I) [(0,sv a1 p0 c1),(1,.func (.func 133) #[] #[pt Q1c Q1b]),(7,iv (qQ p0:Int)),(8,iv D)] (Q41 a2 b1 oo1 n1 c2 R6 H1 R p1)) (fun _ _ h=>je h (hS.sN 0 4)) ?_;rintro E U I _ _ _ K ⟨O,D,J,V,rfl,W,_⟩;obtain⟨m1,_,rfl,hm,_⟩:=lrE V U;exact zr hm W

instance:Ct 155 @Z0b:=⟨@Z0b,cf155⟩
theorem Q3z{p0:List K5}{p1:Z5}(hS:Sep g T0 w0 (Q41 a2 b1 oo1 n1 c2 R6 H1 R p1))(h1:Q49 a1 c1 T0 w0 p0)(Q7w:Ln Q1c Q1b R6)(hL1:Ln b1 oo1 H1):∀r,Q3r p0 p1=some r->
 Cl 130 #[sv a1 p0 c1,.func (.func 133) #[] #[pt Q1c Q1b]] w0 (Q39 a2 b1 oo1 n1 c2 R6 H1 T0 w0 g R r p1):=by
 intro r hm;refine eN Tryz.func130 Tryz.ntmps130 fun J=>?_;unfold Q3r at hm;exact zr hm hS

instance:Ct 130 @Q3z:=⟨@Q3z,Y4r⟩
theorem Z1z{p0:K5}{p1:K5}(hS:Sep g T0 w0 [X3 R,R6 (Q9e p1)])(Q7w:Ln Q1c Q1b R6):∀r,Q8g p0 p1=some r->
 Cl 134 #[Q76 p0,pt Q1c Q1b] w0 (J1 T0 w0 fun T w v=>v= .bool r/\Sep g T w (R++[R6 (Q9e p1)])/\True):=by
 intro r hm;refine eN Tryz.func134 Tryz.ntmps134 fun J=>?_;unfold Q8g at hm;exact zr hm hS

instance:Ct 134 @Z1z:=⟨@Z1z,cf134⟩
theorem Z0a{p0:List K5}{p1:K5}(hS:Sep g T0 w0 [X3 R,R6 (Q9e p1)])(h1:Q49 a1 c1 T0 w0 p0)(Q7w:Ln Q1c Q1b R6):∀r,Q3g p0 p1=some r->
 Cl 155 #[sv a1 p0 c1,.func (.func 134) #[] #[pt Q1c Q1b]] w0 (J1 T0 w0 fun T w v=>v=iv r/\Sep g T w (R++[R6 (Q9e p1)])/\True):=by
 intro r hm;refine eN Tryz.func155 Tryz.ntmps155 fun J=>?_;unfold Q3g at hm;refine qN ?_;refine sq2 (qN ?_);refine lpJ hm (fun E I m a K=>∃O D,JR (nf 19) g T0 w0 a K O (X8 E m D=some I) [(0,sv a1 p0 c1),(1,.func (.func 134) #[] #[pt Q1c Q1b]),(7,iv (qQ p0:Int)),(8,iv D)] [X3 R,R6 (Q9e p1)]) (fun _ _ h=>je h (hS.sE [0,1])) ?_;rintro E U I _ _ _ K ⟨O,D,J,V,rfl,W,_⟩;obtain⟨m1,_,rfl,hm,_⟩:=lrE V U;exact zr hm W

instance:Ct 155 @Z0a:=⟨@Z0a,cf155⟩
theorem Q8n{p0:List K5}{p1:K5}(hS:Sep g T0 w0 [X3 R,R6 (Q9e p1)])(h1:Q49 a1 c1 T0 w0 p0)(Q7w:Ln Q1c Q1b R6):∀r,Q1i p0 p1=some r->
 Cl 130 #[sv a1 p0 c1,.func (.func 134) #[] #[pt Q1c Q1b]] w0 (J1 T0 w0 fun T w v=>v= .bool r/\Sep g T w (R++[R6 (Q9e p1)])/\True):=by
 intro r hm;refine eN Tryz.func130 Tryz.ntmps130 fun J=>?_;unfold Q1i at hm;exact zr hm hS

instance:Ct 130 @Q8n:=⟨@Q8n,Y4r⟩
theorem Q9l{p0:Z5}{p1:List K5}(hS:Q24 a1 n1 c1 Z7 T0 g w0 R p0)(Z2:Ln Y5 Y4 Z7)(h1:Q49 a2 c2 T0 w0 p1):∀r,Q7t p0 p1=some r->
 Cl 96 #[pt Y5 Y4,sv a2 p1 c2] w0 (Q78 a1 n1 c1 Z7 T0 w0 g R r p0):=by
 intro r hm;refine eN Tryz.func96 Tryz.ntmps96 fun J=>?_;unfold Q7t at hm;refine sq2 (bX [pt Y5 Y4] hS ?_);intro _ D _ I;refine kE ?_;refine blk (qU ?_)
 rcases bc hm with⟨ac,hm⟩|⟨ac,hm⟩
 . exact zr hm I
 refine pu ?_;refine cB Y4r hm (Q5l (I.bE (Z4 0 4) []) (mC h1)) ?_;rintro _ _ _ _ _ ⟨rfl,K,_⟩ hm;refine cd hm ?_ ?_<;>intro ai hm
 . exact sq2 (re hm (K.sE [1,2,3]))
 refine qU ?_;refine pv (Y0r (u:= .func (.func 132) #[] #[pt D 0]) rfl) (cB Y4r hm (Q4a (K.bE [1] [0,2,3]) (mC h1) (Q4m D) Z2) ?_);rintro _ _ _ _ _ ⟨rfl,O,_⟩ hm;refine cd hm ?_ ?_<;>intro aj hm
 . exact sq2 (re hm (O.sE [0,2,3]))
 refine qU ?_;refine pv (Y0r (u:= .func (.func 133) #[] #[pt D 0]) rfl) (cB Y4r hm (Q3z (O.bE [0] [1,2,3]) (mC h1) (Q4m D) Z2) ?_);rintro _ _ T3 w4 _ ⟨rfl,U,_⟩ hm;refine cd hm ?_ ?_<;>intro ak hm
 . exact sq2 (re hm (U.sE [0,2,3]))
 refine kC ?_;refine lpJ hm (fun V W m a w5=>∃T4 E,JR (nf 36) g T3 w4 a w5 T4 (X8 V m E=some W) [(1,sv a2 p1 c2),(23,sv a2 p1 c2),(24,iv (qQ p1:Int)),(25,iv E)] [X3 R,Z7 [.slice a1 n1 c1],Q7 a1 n1 c1 p0]) (fun _ _ h=>je h (U.sE [0,2,3])) ?_;rintro V af W _ _ _ w5 ⟨T4,E,J,ag,rfl,ah,_⟩;obtain⟨m1,_,rfl,hm,_⟩:=lrE ag af;exact zr hm ah

instance:Ct 96 @Q9l:=⟨@Q9l,cf96⟩
theorem Z1e{p0:List K5}(hS:Sep g T0 w0 [X3 R])(h1:Q49 a1 c1 T0 w0 p0):∀r,Q8d p0=some r->
 Cl 97 #[sv a1 p0 c1] w0 (J1 T0 w0 fun T w v=>∃a4 n3 c4,v= .slice a4 n3 c4/\Sep g T w (R++[G6 Q2d 163 (.slice a4 n3 c4) r])/\True):=by
 intro r hm;refine eN Tryz.func97 Tryz.ntmps97 fun J=>?_;unfold Q8d at hm;refine qN ?_;refine sq2 (qU ?_);refine pv (r_sne rfl rfl rfl underlying118) (pn ?_)
 rcases SlR.nilOr h1 with⟨D,E⟩|D
 . subst D;subst E;have hm:some []=some r:=hm;refine cnd (b:=true) rfl (fun _=>?_) (fun h=>nomatch h);refine qN ?_;have I:=hS.nilO Q2d 163;exact re hm (I.sE [1,0])
 refine cnd rfl (fun h=>absurd (h.symm.trans D) (fun h=>nomatch h)) (fun _=>pn ?_);refine qU ?_;refine wl rfl (bs0S Q2d hS underlying118 sizeOf163 fun V W n1 c2 ab K=>?_);obtain⟨_,O,hm⟩:=Z9 hm;refine pu ?_;exact wl rfl (apO (q:=0) (l:=([]:List K5)) (us:=p0) K ⟨rfl,rfl⟩ rfl rfl (mC h1).v underlying118 el163 (K9 O) fun w2 a3 n2 c3 af U=>re hm (U.sE [1,0]))

instance:Ct 97 @Z1e:=⟨@Z1e,cf97⟩
theorem Q1w{p0:Z5}{p1}(hS:Q24 a1 n1 c1 Z7 T0 g w0 R p0)(Z2:Ln Y5 Y4 Z7):∀r,W9 p0 p1=some r->
 Cl 100 #[pt Y5 Y4,iv p1] w0 (Q78 a1 n1 c1 Z7 T0 w0 g R r p0):=by
 intro r hm;refine eN Tryz.func100 Tryz.ntmps100 fun J=>?_;unfold W9 at hm;exact zr hm hS

instance:Ct 100 @Q1w:=⟨@Q1w,cf100⟩
theorem Z1y{p0 p1}(hS:Sep g T0 w0 [X3 R]):∀r,Z5p p0 p1=some r->
 Cl 99 #[iv p0,iv p1] w0 (Q25 T0 w0 g R r):=by
 intro r hm;refine eN Tryz.func99 Tryz.ntmps99 fun J=>?_;unfold Z5p at hm;exact zr hm hS

instance:Ct 99 @Z1y:=⟨@Z1y,cf99⟩
theorem Q5o{p0:K5}{p1}{p2:Z5}{p3}(hS:Sep g T0 w0 [X3 R,Z7 (Q9e p0),R6 [iv p1],Z3o [pt b1 oo1],H1 [.slice a1 n1 c1],Q7 a1 n1 c1 p2,Z3n [iv p3]])(Z2:Ln Y5 Y4 Z7)(Q7w:Ln Q1c Q1b R6)(hL_p2:Ln Z6c Z5m Z3o)(hL1:Ln b1 oo1 H1)(hL_p3:Ln Z6b Z5l Z3n):∀r,Q2r p0 p1 p2 p3=some r->
 Cl 98 #[pt Y5 Y4,pt Q1c Q1b,pt Z6c Z5m,pt Z6b Z5l] w0 (J1 T0 w0 fun T w v=>v= .bool r.1/\Sep g T w (R++[Z7 (Q9e r.2.1),R6 [iv r.2.2.1],Z3o [pt b1 oo1],H1 [.slice a1 n1 c1],Q7 a1 n1 c1 p2,Z3n [iv r.2.2.2]])/\True):=by
 intro r hm;refine eN Tryz.func98 Tryz.ntmps98 fun J=>?_;unfold Q2r at hm;refine qN ?_;refine sq2 (rsS [0,1,1,0,0,0,1,2,2,0,0,2] [0,1,2,3,4,5,6,7,8,9,10,11] hS fun w1 ai D=>?_);obtain⟨_,E,hm⟩:=Z9 hm;refine sS [(1,iv p1)] cf100 (Q1w (D.bE [0,1,2,3,6] [4,5]) hL1 _ E) ?_;rintro _ _ _ _ ⟨rfl,I,_⟩;refine pu ?_;obtain⟨K,O,hm⟩:=Z9 hm;refine sS [] cf99 (Z1y (I.bE (Z4 0 7) []) _ O) ?_;rintro _ _ _ _ ⟨rfl,U,_⟩;refine s2W [] ?_;refine osB 1 2 Z2 U ?_;intro _ _ V;refine kE ?_;refine rsS [0,0,0,1,1,0,0,0,1,2,0,2] [0,1,2,3,4,5,6,7,8,9,10,11] V fun w5 ak W=>?_;obtain⟨_,aa,hm⟩:=Z9 hm;refine sS [(3,iv K)] Q8o (V8 (W.bE (Z4 0 5) [5,6]) hL1 _ aa) ?_;rintro _ _ _ _ ⟨rfl,ab,_⟩;refine s2W [0] ?_;refine osB 2 0 Q7w ab ?_;intro _ _ ac;refine kE ?_;refine rsS [1,1,0,0,0,1,2,0,2] [0,1,2,3,4,5,6,7,8] ac fun w8 an ad=>?_;obtain⟨_,ae,hm⟩:=Z9 hm;refine sS [(0,iv p3)] cf100 (Q1w (ad.bE (Z4 0 5) [5,6]) hL1 _ ae) ?_;rintro _ _ _ _ ⟨rfl,af,_⟩;refine pu ?_;refine s0 rfl qZt (fun _=>r_imx rfl rfl) rfl (s2W [0] ?_);refine osB 4 0 hL_p3 af ?_;intro _ _ ag;refine pu ?_;exact se (E9 [(1,pt Q1c Q1b)] ⟨rfl,qZt⟩ fun J=>sq2 (re hm (ag.sE [0,1,2,3,5,6,4])))

instance:Ct 98 @Q5o:=⟨@Q5o,cf98⟩
theorem Q6z{p0:Z5}{p1:List UInt8}{p2:List K5}(hS:Q24 a1 n1 c1 Z7 T0 g w0 R p0)(Z2:Ln Y5 Y4 Z7)(h1:Q49 a2 c2 T0 w0 p2):∀r,Q4n p0 p1 p2=some r->
 Cl 70 #[pt Y5 Y4,Q16 p1.toArray,sv a2 p2 c2] w0 (J1 T0 w0 fun T w v=>v= .tuple #[iv r.1,iv r.2.1]/\Q20 a1 n1 c1 Z7 T g w R r.2.2):=by
 intro r hm;refine eN Tryz.func70 Tryz.ntmps70 fun J=>?_;unfold Q4n at hm;refine sq2 (bX [pt Y5 Y4] hS ?_);intro _ D _ aA;refine kB ?_;refine pv (r_pne rfl rfl rfl underlying65) (pn ?_);refine cnd (b:=false) rfl (fun h=>nomatch h) (fun _=>pn ?_);refine qU ?_;refine cB cf93 hm (Q7s (aA.bE [0,1] [2,3]) Z2) ?_;rintro y1 _ _ _ _ ⟨rfl,aa,_⟩ hm;refine kB ?_
 rcases bc hm with⟨aB,hm⟩|⟨aB,hm⟩
 . exact zr hm aa
 obtain⟨u1,ak,hm⟩:=Z9 hm;obtain⟨cs1,aC,_⟩:=(aa.own (i:=3) ⟨rfl,rfl⟩).v.ixcS ak rfl;obtain⟨_,c3,rfl,h2⟩:=I5 aC;refine cd hm ?_ ?_<;>intro bz hm
 . exact zr hm aa
 refine kB ?_;refine cB cf96 hm (Q9l (aa.bE [0,1] [2,3]) Z2 (mC h1)) ?_;rintro y2 _ _ _ _ ⟨rfl,am,_⟩ hm;refine pu ?_;refine nil (E9 [(2,sv a2 p2 c2),(3,pt D 0),(8,iv y1),(9,iv y2)] ⟨rfl,rfl,rfl,rfl,qZt⟩ fun J=>?_);refine sq2 (cd hm ?_ ?_)<;>intro bA hm
 . exact sq2 (re hm (am.sE [1,2,3]))
 refine kA ?_;refine cB cf97 hm (Z1e (am.bE (Z4 0 4) []) (mC h1)) ?_;rintro y3 _ T3 _ _ ⟨a4,n2,c4,rfl,aG,_⟩ hm;refine kE ?_;refine aL [iv 0] aG ?_;intro _ K _ aI;refine aL [iv 0] aI ?_;intro _ O _ aJ;refine sT 1 aJ ?_;intro _ _ aK;refine sT 0 aK ?_;intro w8 _ aN;refine kA ?_;refine pv (Y0r (u:= .func (.func 98) #[] #[pt K 0,pt D 0,pt O 0]) rfl) (pv (r_zf rfl) (pn ?_));refine sq2 (qN ?_);refine lpJ hm (fun an o1 m a w9=>∃T4 x4 U E V,JR (nf 84) g T3 w8 a w9 T4 (X8 an m (E,V,U,x4)=some o1) [(3,pt D 0),(8,iv y1),(10,.slice a4 n2 c4),(11,pt K 0),(12,pt O 0),(13,.func (.func 98) #[] #[pt K 0,pt D 0,pt O 0]),(44,iv (qQ y3:Int)),(45,iv V)] [K4 O [iv U],K4 K [iv x4],K4 D [pt Y5 Y4],X3 R,Z7 [.slice a1 n1 c1],Q7 a1 n1 c1 p0,G6 Q2d 163 (.slice a4 n2 c4) E]) (fun _ _ h=>je h (aN.sN 0 7)) ?_;rintro an aP o1 ar _ _ w9 ⟨T4,x4,U,E,V,J,aQ,rfl,af,_⟩;obtain⟨m1,_,rfl,hm,ag⟩:=lrE aQ aP;refine qN ?_;refine sq2 (cd hm ?_ ?_)<;>intro bC hm
 . refine kE ?_;refine blk (qN ?_);refine sq2 ?_;obtain⟨u2,aS,hm⟩:=Z9 hm;refine pu ?_;obtain⟨u3,ah,hm⟩:=Z9 hm;obtain rfl:u2=u3:=oI (aS.symm.trans ah);obtain⟨cs2,aU,aV⟩:=af.focus (q:=6) ⟨rfl,rfl⟩ ah;cases Z2r aU;obtain⟨_,k2,cp2,hv2,_,_,aW,_⟩:=(af.own (i:=6) ⟨rfl,rfl⟩).v.ixc ah rfl;refine cB cf98 hm (Q5o (Z7:=Y1e Q2d 163 (.slice a4 n2 c4) E (Int.toNat V)) (aV.bE [3] [6,1,2,4,5,0]) (X0o hv2 aW) (Q4m K) (Q4m D) Z2 (Q4m O)) ?_;rintro W _ T5 aY _ ⟨rfl,aZ,_⟩ hm;have au:Sep g T5 aY [X3 R,G6 Q2d 163 (.slice a4 n2 c4) (List.set E (Int.toNat V) W.2.1),K4 K [iv W.2.2.1],K4 D [pt Y5 Y4],Z7 [.slice a1 n1 c1],G6 P8 122 (.slice a1 n1 c1) p0.list,K4 O [iv W.2.2.2]]:=aZ.unfocus (q:=1) (u:=W.2.1) ⟨rfl,rfl⟩ (Z9u (x:=W.2.1):Q2d.rp _ _ _ _);refine cd hm ?_ ?_<;>intro bD hm
   . refine qN ?_;have hm:=Q4j hm ag ar;exact re hm (au.sE [0,4,5])
   exact lg hm ag (au.sE [6,2,3,0,4,5,1])
 have hm:=Z0r hm ag ar;refine kB ?_;refine cB cf99 hm (Z1y (af.bE (Z4 0 7) [])) ?_;rintro _ _ _ _ _ ⟨rfl,ai,_⟩ hm;refine cd hm ?_ ?_<;>intro bF hm
 . exact sq2 (re hm (ai.sE [3,4,5]))
 refine pn ?_;refine sq2 ?_;obtain⟨u4,aj,hm⟩:=Z9 hm;obtain rfl:u1=u4:=oI (ak.symm.trans aj);obtain⟨cs3,be,_⟩:=(ai.own (i:=5) ⟨rfl,rfl⟩).v.ixcS aj rfl;obtain⟨_,c5,rfl,_⟩:=I5 be;refine kE ?_;refine rsS [0,0,0,0,0,1,1,2,1,0,0,0,2,0,0,2,0,0,2,0,0,2] [0,1,2,3,4,5,6,8,7,9,10,11,12,13,14,15,16,17,18,19,20,21] ai fun bG bI bf=>?_;obtain⟨y6,bg,hm⟩:=Z9 hm;refine sS [(8,iv U)] cf99 (Z1y (bf.bE [3,4,5,6,0,1] []) _ bg) ?_;rintro _ _ _ _ ⟨rfl,bh,_⟩;refine pu ?_;obtain⟨_,_,bi,h4,rfl⟩:=bh.sl 3;obtain⟨u5,aw,hm⟩:=Z9 hm;obtain rfl:u1=u5:=oI (aj.symm.trans aw);refine s2W [] ?_;refine Y1q (q:=2) (j:=4) (u':={u1 with Type_:={u1.Type_ with Fields:=E}}) bi ⟨rfl,rfl⟩ aw rfl rfl rfl sizeOf118 rfl rfl rfl (fun c0 I=>by obtain⟨a6,c6,rfl,h5⟩:=I5 I;exact(Q1s (x:={u1 with Type_:={u1.Type_ with Fields:=E}}) h4:P8.rp _ _ _ _)) fun bL bM bl=>?_;refine pu ?_;obtain⟨u6,bm,hm⟩:=Z9 hm;refine s2W [] ?_;refine Y1q (q:=2) (j:=5) (u':={u6 with size:=y6}) bl ⟨rfl,rfl⟩ bm rfl rfl rfl sizeOf3 rfl rfl rfl (fun c0 I=>by obtain⟨a7,c7,rfl,h6⟩:=I5 I;exact(Q1s (x:={u6 with size:=y6}) h6:P8.rp _ _ _ _)) fun bO bP bo=>?_;refine pu ?_;obtain⟨u7,bp,hm⟩:=Z9 hm;refine s2W [0] ?_;refine Y1q (q:=2) (j:=6) (u':={u7 with align:=U}) bo ⟨rfl,rfl⟩ bp rfl rfl rfl sizeOf3 rfl rfl rfl (fun c0 I=>by obtain⟨a8,c8,rfl,h7⟩:=I5 I;exact(Q1s (x:={u7 with align:=U}) h7:P8.rp _ _ _ _)) fun bR bT bt=>?_;refine pu ?_;obtain⟨u8,bu,hm⟩:=Z9 hm;refine s2W [] ?_;refine Y1q (q:=2) (j:=7) (u':={u8 with open_:=false}) bt ⟨rfl,rfl⟩ bu rfl rfl rfl sizeOf4 rfl rfl rfl (fun c0 I=>by obtain⟨a9,c9,rfl,h8⟩:=I5 I;exact(Q1s (x:={u8 with open_:=false}) h8:P8.rp _ _ _ _)) fun bV bW bw=>?_;refine pu ?_;exact se (E9 [(8,iv y1)] ⟨rfl,qZt⟩ fun J=>sq2 (re hm (bw.sE [0,1,2])))

instance:Ct 70 @Q6z:=⟨@Q6z,cf70⟩
theorem Q4b{p0:Q0}{p1:List Q2n}(hS:Q19 a1 a2 a3 a4 a5 a6 b1 oo1 n1 c1 n2 c2 n3 c3 n4 c4 n5 c5 n6 c6 Z7 H1 T0 g w0 pv1 r1 r2 R p0)(Z2:Ln Y5 Y4 Z7)(hL1:Ln b1 oo1 H1)(h1:SlR Q6q T0 w0 (sv a7 p1 c7) p1):∀r,Q1j p0 p1=some r->
 Cl 32 #[pt Y5 Y4,sv a7 p1 c7] w0 (exR r (fun r=>J1 T0 w0 fun T w v=>∃a21 n16 c21,v= .tuple #[]/\Q15 a21 a2 a3 a4 a5 a6 b1 oo1 n16 c21 n2 c2 n3 c3 n4 c4 n5 c5 n6 c6 Z7 H1 T g w pv1 r1 r2 R r) (fun r=>L0 T0 w0 (Q34 a2 a3 a4 a5 a6 b1 oo1 n2 c2 n3 c3 n4 c4 n5 c5 n6 c6 Z7 H1 g pv1 r1 r2 R r.1.pos r.1.e r.2))):=by
 intro r hm;refine eN Tryz.func32 Tryz.ntmps32 fun J=>?_;unfold Q1j at hm;refine sq2 (qN ?_);refine lpJ hm (fun E I m a w1=>∃T1 x3 a8 n7 c8 x2,JR (nf 75) g T0 w0 a w1 T1 (X8 E m (x2,x3)=some I) [(0,pt Y5 Y4),(1,sv a7 p1 c7),(15,sv a7 p1 c7),(16,iv (qQ p1:Int)),(17,iv x2)] ([X3 R]++X7 ({p0 with t:=x3}) Z7 H1 b1 oo1 a8 n7 c8 a2 n2 c2 a3 n3 c3 a4 n4 c4 r1 r2 a5 n5 c5 a6 n6 c6 pv1)) (fun _ _ h=>je h (hS.sN 0 11)) ?_;rintro E ae I af _ _ w1 ⟨T1,x3,a8,n7,c8,x2,J,ag,rfl,ah,_⟩;obtain⟨m1,z1,rfl,hm,K⟩:=lrE ag ae;refine qN ?_;refine sq2 (cd hm ?_ ?_)<;>intro bI hm
 . refine kE ?_;refine blk (sq2 ?_);obtain⟨u1,aP,hm⟩:=Z9 hm;obtain⟨cs1,aQ,_,hT1⟩:=ixS ah aP h1;obtain⟨_,c9,rfl,h2⟩:=Z1o aQ;refine aL zv13 ah ?_;intro _ _ _ aR;refine sT 0 aR ?_;intro _ _ aS;refine kE ?_;refine rsS [0,0,0,1,0,1,2,0,0,0,0,0] [0,1,2,3,4,5,6,7,8,9,10,11] aS fun w4 bK aT=>?_;obtain⟨_,aU,hm⟩:=Z9 hm;refine sS [] cf67 (Q8q (aT.bE ([0,1,2]++Z4 5 7) [3,4]) hL1 _ aU) ?_;rintro _ _ _ _ ⟨_,_,c10,rfl,aV,_⟩;refine pn ?_;refine cP cf68 hm (Q1x (aV.bE (Z4 1 11) [])) ?_ ?_
   . have dd:KD [(6,[3,5])]:=⟨qZt⟩;exact zk
   rintro _ _ _ _ _ ⟨rfl,aW,_⟩ hm;exact lg hm K (aW.sE ([0,1,9,10]++Z4 2 7))
 have hm:=Z0r hm K af;refine kD ?_;refine lpJ hm (fun E I m a w8=>∃T5 aj ak az n9 c11 U,JR (nf 75) g T1 w1 a w8 T5 (X8 E m (U,ak,aj)=some I) [(0,pt Y5 Y4),(36,sv a7 p1 c7),(37,iv (qQ p1:Int)),(38,iv U)] ([X3 R]++X7 ({ak with t:=aj}) Z7 H1 b1 oo1 az n9 c11 a2 n2 c2 a3 n3 c3 a4 n4 c4 r1 r2 a5 n5 c5 a6 n6 c6 pv1)) (fun _ _ h=>je h (ah.sN 0 11)) ?_;rintro E ae I af _ _ w8 ⟨T5,aj,ak,az,n9,c11,U,J,ag,rfl,am,_⟩;obtain⟨m1,z1,rfl,hm,K⟩:=lrE ag ae;refine qN ?_;refine sq2 (cd hm ?_ ?_)<;>intro bL hm
 . refine kE ?_;refine blk (sq2 ?_);obtain⟨u3,aX,hm⟩:=Z9 hm;obtain⟨cs2,aY,_,hT2⟩:=ixS am aX h1;obtain⟨aB,c12,rfl,h3⟩:=Z1o aY;refine aL zv13 am ?_;intro _ b5 _ ba;refine sT 0 ba ?_;intro be _ bf;refine kD ?_;refine sq2 (qN ?_);have bg:=bf.nilO Q2d 163;refine lpJ hm (fun aD o2 m a aF=>∃T6 V W ao ap aq c13 aI aJ c14 ar,JR (nf 75) g T5 be a aF T6 (X8 aD m (ao,ar,W,V)=some o2) [(0,pt Y5 Y4),(9,pt b5 0),(10,.slice ap aq c13),(36,sv a7 p1 c7),(37,iv (qQ p1:Int)),(38,iv U),(43,sv aB u3.Fields c12),(44,iv (qQ u3.Fields:Int)),(45,iv ar)] ([G6 Q2d 163 (.slice ap aq c13) ao,K4 b5 (Y9n u3 aB c12),X3 R]++X7 ({W with t:=V}) Z7 H1 b1 oo1 aI aJ c14 a2 n2 c2 a3 n3 c3 a4 n4 c4 r1 r2 a5 n5 c5 a6 n6 c6 pv1)) (fun _ _ h=>je h (bg.sN 0 13)) ?_;rintro aD bh o2 bi _ _ aF ⟨T6,V,W,ao,ap,aq,c13,aI,aJ,c14,ar,J,bj,rfl,au,_⟩;obtain⟨_,_,rfl,hm,aK⟩:=lrE bj bh;refine qN ?_;refine sq2 (cd hm ?_ ?_)<;>intro bM hm
   . refine kE ?_;refine blk (sq2 ?_);obtain⟨O,bk,hm⟩:=Z9 hm;obtain⟨cs3,bl,_,hT3⟩:=ixS au bk h3;obtain⟨_,c15,_,c16,rfl,h4,h5⟩:=Q9g bl;refine aL zv5 au ?_;intro _ _ _ bo;refine sT 0 bo ?_;intro _ _ bp;refine pn ?_;refine Q9y [0,0,1,0,1,2,0,2,2,0] [0,1,2,3,4,5,6,7,8,9] bp (Q0a (U5 (U5 (Q0a (U5 (Q0a (U5 (U5 (Q0a (C7)))))))))) fun bN bO aM=>pu ?_;obtain⟨D,bq,hm⟩:=Z9 hm
     rcases D with e2|D
     . have dd:KD [(5,[4]),(7,[2,4,5]),(8,[2,4,5,7])]:=⟨qZt⟩;exact zr hm aM
     have hm:=C4 hm;refine sS [(2,(qZs O.Name))] cf69 (Q5a (p0:={W with t:=V}) (aM.bE [1,2,3,0] (Z4 4 10)) Z2 hL1 (mC h4) (mC h5) _ bq) ?_;rintro _ _ _ _ ⟨_,_,c17,rfl,bt,_⟩;refine pu ?_;refine s0 rfl qZt (fun _=>P3 (by kernel_rfl) rfl (u:= .agg #[qZs O.Name,iv D.1,iv 0])) rfl (s2W [0] ?_);refine obS (r:=Q2d) (l:=([(⟨O.Name,D.1,0⟩:K5)]:List K5)) (css:=[[Q16 O.Name.toArray,iv D.1,iv 0]]) bt ⟨(Z9u (x:=(⟨O.Name,D.1,0⟩:K5)):Q2d.rp _ _ _ _),qZt⟩ ?_;intro _ _ _ c18 _ bu;refine pu ?_;obtain⟨_,bv,hm⟩:=Z9 hm;refine s2W [] ?_;refine oaO 1 bu (K9 bv) ?_;intro _ _ _ c19 _ bw;exact lg hm aK (bw.sE ([1,2,3]++Z4 5 10))
   have hm:=Z0r hm aK bi;refine kE ?_;refine rsS [0,0,0,1,0,1,0,2,0,0,0,0,0] [0,1,2,3,4,5,6,7,8,9,10,11,12] au fun bQ bR bz=>pu ?_;obtain⟨_,_,bA,h7,rfl⟩:=bz.sl 0;obtain⟨_,bD,hm⟩:=Z9 hm;refine sS [] cf70 (Q6z (bA.bE ([1,2,3]++Z4 6 7) [4,5]) hL1 h7 _ bD) ?_;rintro _ _ _ _ ⟨rfl,bF,_⟩;refine pn ?_;refine cP cf68 hm (Q1x (bF.bE (Z4 1 11) [])) ?_ ?_
   . have dd:KD [(7,[3,5])]:=⟨qZt⟩;exact zk
   rintro _ _ _ _ _ ⟨rfl,bG,_⟩ hm;exact lg hm K (bG.sE ([0,1,9,10]++Z4 2 7))
 have hm:=Z0r hm K af;have hm:=oI hm;subst hm;refine pn ?_;exact zr hm am

instance:Ct 32 @Q4b:=⟨@Q4b,cf32⟩
theorem Q2i{p0:Q0}{p1:G9}(hS:Q19 a1 a2 a3 a4 a5 a6 b1 oo1 n1 c1 n2 c2 n3 c3 n4 c4 n5 c5 n6 c6 Z7 H1 T0 g w0 pv1 r1 r2 R p0)(Z2:Ln Y5 Y4 Z7)(hL1:Ln b1 oo1 H1)(h1:Q37 a7 c7 T0 w0 p1)(h2:Q8 a8 c8 T0 w0 p1.Init):∀r,I3 p0 p1=some r->
 Cl 71 #[pt Y5 Y4,Q77 a7 a8 c7 c8 p1] w0 (exR r (fun r=>J1 T0 w0 (Q73 a2 a3 a4 a5 a6 b1 oo1 n2 c2 n3 c3 n4 c4 n5 c5 n6 c6 Z7 H1 g pv1 r1 r2 R r.1 r.2)) (fun r=>L0 T0 w0 (Q34 a2 a3 a4 a5 a6 b1 oo1 n2 c2 n3 c3 n4 c4 n5 c5 n6 c6 Z7 H1 g pv1 r1 r2 R r.1.pos r.1.e r.2))):=by
 intro r hm;refine eN Tryz.func71 Tryz.ntmps71 fun J=>?_;unfold I3 at hm;exact zr hm hS

instance:Ct 71 @Q2i:=⟨@Q2i,cf71⟩
theorem Q2k{p0:Q0}{p1:Pos}{p2:List UInt8}(hS:Q19 a1 a2 a3 a4 a5 a6 b1 oo1 n1 c1 n2 c2 n3 c3 n4 c4 n5 c5 n6 c6 Z7 H1 T0 g w0 pv1 r1 r2 R p0)(Z2:Ln Y5 Y4 Z7)(hL1:Ln b1 oo1 H1):∀r,Q2s p0 p1 p2=some r->
 Cl 72 #[pt Y5 Y4,Q33 p1,Q16 p2.toArray,.map r1] w0 (exR r (fun r=>J1 T0 w0 fun T w v=>v= .tuple #[]/\Q15 a1 a2 a3 a4 a5 a6 b1 oo1 n1 c1 n2 c2 n3 c3 n4 c4 n5 c5 n6 c6 Z7 H1 T g w pv1 r1 r2 R r) (fun r=>L0 T0 w0 (Q42 a1 a2 a3 a4 a5 a6 b1 oo1 n1 c1 n2 c2 n3 c3 n4 c4 n5 c5 n6 c6 Z7 H1 g pv1 r1 r2 R r.1.pos r.1.e r.2))):=by
 intro r hm;refine eN Tryz.func72 Tryz.ntmps72 fun J=>?_;unfold Q2s at hm;refine sq2 (bX [iv p1.Line,iv p1.Col] hS ?_);intro _ E _ D;refine kA ?_;refine pv (Z5g (kk:=p2) (u:=0) rfl rfl (D.getA (i:=8) ⟨rfl,rfl⟩) Q9b underlying67 underlying9 zeroValue3 rfl) (pn ?_);refine qU ?_;refine pv (Z5g (kk:=p2) (u:=0) rfl rfl (D.getA (i:=9) ⟨rfl,rfl⟩) Q9b underlying67 underlying9 zeroValue3 rfl) (pn ?_);refine sq2 (blk (qU ?_));refine fkC (d:=34) (c:=(((J5 p0.globals p2).isSome)||((J5 p0.codes p2).isSome))) 2 [(2,(qZs p2)),(3,.map r1),(5,pt E 0)] rfl (fun hk=>zw ((J5 p0.globals p2).isSome) hk) fun J=>?_;refine cd hm ?_ ?_<;>intro O hm
 . exact zr hm D
 refine qU ?_;refine pv (r_lnM rfl (D.getA (i:=8) ⟨rfl,rfl⟩) underlying67) (cd hm ?_ ?_)<;>intro U hm
 . exact zr hm D
 refine pn ?_;obtain⟨_,I,hm⟩:=Z9 hm;refine pu ?_;refine pv (r_lnM rfl (D.getA (i:=8) ⟨rfl,rfl⟩) underlying67) (wl rfl (muM (q:=8) (k:=p2) (u:=(Q9t p0.globals:Int)) D ⟨rfl,rfl⟩ I rfl rfl rfl Q9b underlying67 underlying9 fun V W K=>?_));have hm:=oI hm;subst hm;refine pn ?_;exact end0 rfl ⟨_,rfl,_,ch,⟨rfl,(K.sN 1 11).unb,qZt⟩⟩

instance:Ct 72 @Q2k:=⟨@Q2k,cf72⟩
theorem Q0h{p0:Z5}{p1}(hS:Q24 a1 n1 c1 Z7 T0 g w0 R p0)(Z2:Ln Y5 Y4 Z7):∀r,V1 p0 p1=some r->
 Cl 76 #[pt Y5 Y4,iv p1] w0 (J1 T0 w0 fun T w v=>v= .bool r/\Q20 a1 n1 c1 Z7 T g w R p0):=by
 intro r hm;refine eN Tryz.func76 Tryz.ntmps76 fun J=>?_;unfold V1 at hm;refine qN ?_;refine sq2 (qU ?_);refine cB cf110 hm (Q6k (hS.bE [0] [1,2]) Z2) ?_;rintro _ _ _ _ _ ⟨rfl,D,_⟩ hm;refine cd hm ?_ ?_<;>intro K hm
 . exact sq2 (re hm (D.sE [0,1,2]))
 refine pn ?_;refine sq2 ?_;obtain⟨u1,E,hm⟩:=Z9 hm;obtain⟨cs1,I,_⟩:=(D.own (i:=2) ⟨rfl,rfl⟩).v.ixcS E rfl;obtain⟨_,c2,rfl,h1⟩:=I5 I;refine kA ?_;refine fkC (d:=24) (c:=((u1.Type_.Kind==1)||(u1.Type_.Kind==2))) 3 [(5,iv u1.Type_.Kind)] rfl (fun hk=>zw (u1.Type_.Kind==1) hk) fun J=>pu ?_;exact fkC (d:=28) (c:=(((u1.Type_.Kind==1)||(u1.Type_.Kind==2))||(u1.Type_.Kind==3))) 3 [] rfl (fun hk=>zw ((u1.Type_.Kind==1)||(u1.Type_.Kind==2)) hk) fun J=>re hm (D.sE [0,1,2])

instance:Ct 76 @Q0h:=⟨@Q0h,cf76⟩
theorem Q0w{p0:Q0}{p1}(hS:Q19 a1 a2 a3 a4 a5 a6 b1 oo1 n1 c1 n2 c2 n3 c3 n4 c4 n5 c5 n6 c6 Z7 H1 T0 g w0 pv1 r1 r2 R p0)(Z2:Ln Y5 Y4 Z7)(hL1:Ln b1 oo1 H1):∀r,W2 p0 p1=some r->
 Cl 102 #[pt Y5 Y4,iv p1] w0 (J1 T0 w0 fun T w v=>v=iv r/\Q15 a1 a2 a3 a4 a5 a6 b1 oo1 n1 c1 n2 c2 n3 c3 n4 c4 n5 c5 n6 c6 Z7 H1 T g w pv1 r1 r2 R p0):=by
 intro r hm;refine eN Tryz.func102 Tryz.ntmps102 fun J=>?_;unfold W2 at hm;exact zr hm hS

instance:Ct 102 @Q0w:=⟨@Q0w,cf102⟩
theorem Q2x{p0:Q0}{p1:List UInt8}{p2}(hS:Q19 a1 a2 a3 a4 a5 a6 b1 oo1 n1 c1 n2 c2 n3 c3 n4 c4 n5 c5 n6 c6 Z7 H1 T0 g w0 pv1 r1 r2 R p0)(Z2:Ln Y5 Y4 Z7)(hL1:Ln b1 oo1 H1):∀r,W0 p0 p1 p2=some r->
 Cl 73 #[pt Y5 Y4,Q16 p1.toArray,iv p2] w0 (J1 T0 w0 fun T w v=>v= .agg (X0t r).toArray/\Q15 a1 a2 a3 a4 a5 a6 b1 oo1 n1 c1 n2 c2 n3 c3 n4 c4 n5 c5 n6 c6 Z7 H1 T g w pv1 r1 r2 R p0):=by
 intro r hm;refine eN Tryz.func73 Tryz.ntmps73 fun J=>?_;unfold W0 at hm;refine sq2 (aL [qZs [],iv 0,iv 0,iv 0] hS ?_);intro _ _ _ D;refine kE ?_;refine rsS [0,0,0,0,1,0,2,0,0,0,1,0,2,0,0,2,0,2] [0,1,2,3,4,5,7,8,9,10,11,13,14,6,12,15,16,17] D fun w2 af E=>?_;obtain⟨I,K,hm⟩:=Z9 hm;refine sS [(10,pt b1 oo1)] Q8o (V8 (E.bE ([0,1,2]++Z4 5 7) [3,4]) hL1 _ K) ?_;rintro _ _ _ _ ⟨rfl,O,_⟩;refine pu ?_;obtain⟨U,V,hm⟩:=Z9 hm;refine sS [] cf100 (Q1w (O.bE (Z4 0 10) [10,11]) hL1 _ V) ?_;rintro _ _ _ _ ⟨rfl,W,_⟩;refine pu ?_;obtain⟨y3,ab,hm⟩:=Z9 hm;refine sS [] cf102 (Q0w (W.bE [0,1] ([2,10,11]++Z4 3 7)) Z2 hL1 _ ab) ?_;rintro _ _ _ _ ⟨rfl,ac,_⟩;refine pu ?_;refine s0 rfl qZt (fun _=>P3 (by kernel_rfl) rfl (u:= .agg #[qZs p1,iv I,iv U,iv y3])) rfl (s2W [] ?_);refine osT 0 ac ?_;intro _ _ ad;exact re hm (ad.sN 1 11)
instance:Ct 73 @Q2x:=⟨@Q2x,cf73⟩
end Go.Proofs.YtfffghclkmbopaaGreat
