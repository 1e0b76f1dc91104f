/- That Go functions compute their models. Printed by gen2.py. -/
import Derived.Test.YtbfpdnogfkbiaaaGreatVWb
set_option linter.unusedVariables false
namespace Go.Proofs.YtbfpdnogfkbiaaaGreat
open List renaming length → qQ
open _root_.Go.Proofs.Tryz
set_option maxRecDepth 100000
set_option maxHeartbeats 8000000
attribute [local irreducible] wpList wpQuiet Code.wp
variable{g:World}{T0:Nat->Prop}{w0:World}{R:List Y9}
variable{b1 b2 Y0 Q0f Z7g Z7f Z8d c1 c2 c3 c4 c5 c6 c7 c8 c9 c10 c11 c12 c13 n1 n2 n3 n4 n5 n6 n7 Z9 Q0e Z7a Z6z Z7p oo1 oo2:Nat}{H1 H2 Z5 L4 Z5m Z5l Z7h:List Value->Y9}{a1 a2 a3 a4 a5 a6 a7 a8 a9 a10 a11 a12 a13:OA}{r1 r2:Option Nat}{pv1:Value}
attribute [local irreducible] M1 W7 execOp Program.underlying sizeOf isAgg zeroValue

theorem Z0c{p0:Z0}{p1:D4}(hS:Sep g T0 w0 ([Y7 R,Q1 a1 c1 Z5 p0]++Z5s p1 L4 a2 n1 c2 a3 n2 c3 a4 n3 c4))(Z2:Ln Y0 Z9 Z5)(h1:Q8 a1 c1 T0 w0 p0)(Z1d:Ln Q0f Q0e L4):∀r,Q2s p0 p1=some r->
 Cl 32 #[pt Y0 Z9,pt Q0f Q0e] w0 (exR r (fun r=>K6 T0 w0 fun T w v=>∃a63 c63 a64 n21 c64 a65 n22 c65 a66 n23 c66,v= .tuple #[]/\Sep g T w (R++([Q1 a63 c63 Z5 r.1]++Z5s r.2 L4 a64 n21 c64 a65 n22 c65 a66 n23 c66))/\Q8 a63 c63 T w r.1/\True) (fun r=>H9 T0 w0 fun T w v=>∃a63 c63 a64 n21 c64 a65 n22 c65 a66 n23 c66,v= .iface 76 (Q26 r.1.pos r.1.e)/\Sep g T w (R++([Q1 a63 c63 Z5 r.2.1]++Z5s r.2.2 L4 a64 n21 c64 a65 n22 c65 a66 n23 c66))/\Q8 a63 c63 T w r.2.1/\True)):=by
 intro r hm;refine eN Tryz.func32 Tryz.ntmps32 fun J=>?_;unfold Q2s at hm;refine qU ?_;refine cB cf55 hm (A6 (hS.bE [0,2,3,4,5] [1]) Z2 h1) ?_;rintro D _ _ _ _ ⟨rfl,bF,_⟩ hm;refine aL [iv 0,iv 0] bF ?_;intro _ _ _ bG;refine sT 0 bG ?_;intro _ _ bI;refine kB ?_;refine cB cf56 hm (I1 (bI.bE (Z3 0 6) [6]) Z2 (mC h1)) ?_;rintro _ _ _ _ _ ⟨rfl,bn,_⟩ hm;refine pu ?_
 rcases bc hm with⟨bJ,hm⟩|⟨bJ,hm⟩
 . refine pu ?_;refine cB cf57 hm (Z0j (bn.bE (Z3 0 6) [6]) Z2 (mC h1)) ?_;rintro _ _ _ _ _ ⟨rfl,bo,_⟩ hm;refine cd hm ?_ ?_<;>intro eG hm
   . refine qU ?_;refine cP Z7e hm (V7 (bo.bE (Z3 0 6) [6]) Z2 (mC h1)) ?_ ?_
     . exact zk
     rintro _ _ T4 w6 _ ⟨_,c5,rfl,bM,h2,_⟩ hm;refine pn ?_;refine M8 hm (fun bp a w7=>∃T5 x1 a6 c6 b2 V a7 c7,JR (nf 77) g T4 w6 a w7 T5 (bp x1 V=some r) [(0,pt Y0 Z9),(1,pt Q0f Q0e),(5,pt b2 0)] ([Y7 R]++(Z5s p1 L4 a2 n1 c2 a3 n2 c3 a4 n3 c4++[Q1 a6 c6 Z5 x1,K0 b2 (X2u V a7 c7)]))/\Q8 a6 c6 T5 w7 x1/\Q40 a7 c7 T5 w7 V.Fields) (fun bp hm=>?_) ?_
     . refine rtPS [1,0,2,0,2,2] [0,1,2,3,4,5] bM (U7 (U7 (C5))) fun w8 eJ an=>pu ?_;obtain⟨y5,ap,hm⟩:=Z8 hm
       rcases y5 with e1|y5
       . have hm:=J8 hm;refine tF [2,4] ?_;refine⟨?_,?_,qZt⟩
         . refine brW [3,4,5] [] ?_;refine oP cf59 (P9 (an.bE (Z3 1 5++[0]) [6]) Z2 (mC h2) _ ap) ?_;rintro _ T8 _ _ ⟨bO,c10,rfl,bP,h7,_⟩;exact pe hm (bP.sE [0,6,1,2,3,4])
         refine brW [2,3,5] [] ?_;refine oaL zv14 an ?_;intro _ b4 _ bT;refine t1W [2] [3,5] [] ?_;refine oP cf59 (P9 (bT.bE [0,2,3,4,5,6,1] [7]) Z2 (mC h2) _ ap) ?_;rintro _ T8 bU bV ⟨bO,c10,rfl,aE,h7,_⟩;exact pe hm (aE.sE [1,7,2,3,4,5])
       have hm:=C2 hm;refine tF [2,4] ?_;refine⟨?_,?_,qZt⟩
       . refine brW [3,4,5] [] ?_;refine oS cf59 (P9 (an.bE (Z3 1 5++[0]) [6]) Z2 (mC h2) _ ap) ?_;rintro _ T6 w9 bZ ⟨a8,c8,rfl,aF,h5,_⟩;refine pu ?_;refine t0 rfl qZt (fun _=>F0 (by kernel_rfl) rfl (u:= .agg #[iv D.Line,iv D.Col,qZs y5.1,.slice none 0 0])) rfl (t1W [4] [5] [] ?_);refine oaL zv14 aF ?_;intro ce b3 cg aG;refine t1W [5] [] [0] ?_;refine osT 0 aG ?_;intro ci cj aI;refine pu ?_;exact je hm (aI.sE (Z3 1 5++[7,0]))
       refine brW [2,3,5] [] ?_;refine oaL zv14 an ?_;intro w9 b3 bZ aF;refine t1W [2] [3,5] [] ?_;refine oS cf59 (P9 (aF.bE [0,2,3,4,5,6,1] [7]) Z2 (mC h2) _ ap) ?_;rintro _ T6 ce cg ⟨a8,c8,rfl,aG,h5,_⟩;refine pu ?_;refine t0 rfl qZt (fun _=>F0 (by kernel_rfl) rfl (u:= .agg #[iv D.Line,iv D.Col,qZs y5.1,.slice none 0 0])) rfl (t1W [5] [] [0] ?_);refine osT 0 aG ?_;intro ci cj aI;refine pu ?_;exact je hm (aI.sE (Z3 1 5++[7,0]))
     rintro _ w7 ⟨T5,x1,a6,c6,b2,V,a7,c7,⟨J,hm,rfl,aE,_⟩,h3,_⟩;refine qU ?_;refine cP cf60 hm (Q8y (aE.bE (Z3 0 5++[6]) [5]) Z2 h3) ?_ ?_
     . exact zk
     rintro y6 _ _ bU bV ⟨cl,_,c11,_,c12,rfl,cm,_,_⟩ hm;refine sT 5 cm ?_;intro _ _ cn;refine kE ?_;refine rsS [0,0,0,0,1,1,2,2,0,0,2] [0,1,2,3,4,5,6,7,8,9,10] cn fun eK eL co=>pu ?_;obtain⟨_,_,cp,h9,rfl⟩:=co.sl 7;refine s2W [0] ?_;refine obS (r:=Q9t) (l:=([{V with Fields:=y6.1}]:List Q3k)) (css:=[[iv V.Pos.Line,iv V.Pos.Col,Q23 V.Name.toArray,sv cl y6.1 c11]]) cp ⟨(Y5y (x:={V with Fields:=y6.1}) h9:Q9t.rp _ _ _ _),qZt⟩ ?_;intro _ _ _ c13 _ cr;refine pu ?_;obtain⟨_,ct,hm⟩:=Z8 hm;refine s2W [0] ?_;refine oaO 3 cr (U8 ct) ?_;intro _ _ _ c14 _ cu;refine s2W [] ?_;refine osB 2 0 Z1d cu ?_;intro _ _ cv;exact re hm (cv.sE [1,7,2,3,4,5])
   refine kA ?_;refine cP cf61 hm (F9 (bo.bE (Z3 0 6) [6]) Z2 (mC h1)) ?_ ?_
   . exact zk
   rintro O _ _ _ _ ⟨_,c17,rfl,cw,cy,_⟩ hm;refine aL zv12 cw ?_;intro _ b4 _ cz;refine sT 0 cz ?_;intro _ _ cA;refine kA ?_;refine cP cf59 hm (P9 (cA.bE (Z3 0 7) [7]) Z2 (mC cy)) ?_ ?_
   . exact zk
   rintro y8 _ _ _ _ ⟨_,c18,rfl,cC,W,_⟩ hm;refine kB ?_;refine cB cf56 hm (I1 (cC.bE (Z3 0 7) [7]) Z2 W) ?_;rintro _ _ cD cE _ ⟨rfl,bq,_⟩ hm;refine cd hm ?_ ?_<;>intro eM hm
   . refine sq2 (Z2w [0,0,0,0,1,0,1,1,0,0,2,2,2,0,0,2] [0,1,2,3,4,5,6,7,8,9,10,11,12,13,14,15] bq (U7 (U7 (C5))) fun eO eP bt=>pu ?_);refine s0 rfl qZt (fun _=>F0 (by kernel_rfl) rfl (u:= .agg #[iv D.Line,iv D.Col,qZs O.1.Word,qZs O.1.Name,iv O.1.Stars,qZs y8.1,.slice none 0 0,.slice none 0 0,.bool false])) rfl ?_;obtain⟨ac,bu,hm⟩:=Z8 hm
     rcases ac with e4|ac
     . have hm:=J8 hm;refine s2 [(4,.slice a3 n2 c3)] rfl qZt rfl (by kernel_rfl) (Z2d cf62 rfl (O6 (p0:=y8.2) (p1:=(⟨D,O.1,y8.1,[],[],false⟩:M7)) (bt.bE (Z3 2 5++[0,1]) [7]) Z2 (mC W) V0 _ bu) rfl fun eQ eR eS eT cF=>?_);obtain⟨_,c24,rfl,cG,_,_⟩:=cF;exact pe hm (cG.sE [0,7,1,2,3,4])
     have hm:=C2 hm;refine sS [(4,.slice a3 n2 c3)] cf62 (O6 (bt.bE (Z3 2 5++[0,1]) [7]) Z2 (mC W) V0 _ bu) ?_;rintro _ _ _ _ ⟨cI,c19,cJ,c20,_,c21,rfl,cK,cL,cM,_,_⟩;refine s2W [] ?_;refine obS (r:=Q2y) (l:=([ac.1]:List M7)) (css:=[(Y1z ac.1 cI c19 cJ c20)]) cK ⟨(Y1a (x:=ac.1) cL cM:Q2y.rp _ _ _ _),qZt⟩ ?_;intro _ _ _ c22 _ cO;refine pu ?_;obtain⟨_,cQ,hm⟩:=Z8 hm;refine s2W [0] ?_;refine oaO 4 cO (U8 cQ) ?_;intro _ _ _ c23 _ cR;refine s2W [] ?_;refine osB 2 1 Z1d cR ?_;intro _ _ cT;refine pu ?_;exact seP (K7 [] qZt fun J=>re hm (cT.sE [1,8,2,3,4,5]))
   refine pn ?_;refine M8 hm (fun bv a ad=>∃ae x3 aK c25 b5 E ar c26 aN c27,JR (nf 77) g cD cE a ad ae (bv x3 E=some r) [(0,pt Y0 Z9),(1,pt Q0f Q0e),(8,pt b5 0)] ([Y7 R]++(Z5s p1 L4 a2 n1 c2 a3 n2 c3 a4 n3 c4++[Q1 aK c25 Z5 x3,K0 b5 (Y3n E ar c26 aN c27)]))/\Q8 aK c25 ae ad x3/\Q40 ar c26 ae ad E.Params/\Q36 aN c27 ae ad E.Body) (fun bv hm=>?_) ?_
   . refine rtPS [1,1,0,0,2,0,2,2] [0,1,2,3,4,5,6,7] bq (U7 (C5)) fun eU eV au=>pu ?_;obtain⟨bw,av,hm⟩:=Z8 hm
     rcases bw with e5|bw
     . have hm:=J8 hm;refine tF [4,6] ?_;refine⟨?_,?_,qZt⟩
       . refine brW [5,6,7] [] ?_;refine oP cf63 (D6 (au.bE (Z3 2 5++[0,1]) [7]) Z2 (mC W) _ av) ?_;rintro _ cU _ _ ⟨cV,cW,rfl,cX,cY,_⟩;exact pe hm (cX.sE [0,7,1,2,3,4])
       refine brW [4,5,7] [] ?_;refine oaL zv8 au ?_;intro _ b7 _ da;refine t1W [4] [5,7] [] ?_;refine oP cf63 (D6 (da.bE [0,3,4,5,6,7,1,2] [8]) Z2 (mC W) _ av) ?_;rintro _ cU db dc ⟨cV,cW,rfl,aP,cY,_⟩;exact pe hm (aP.sE [1,8,2,3,4,5])
     have hm:=C2 hm;refine tF [4,6] ?_;refine⟨?_,?_,qZt⟩
     . refine brW [5,6,7] [] ?_;refine oS cf63 (D6 (au.bE (Z3 2 5++[0,1]) [7]) Z2 (mC W) _ av) ?_;rintro _ dd de dg ⟨aQ,n9,c28,dh,c29,rfl,aS,di,_⟩;refine pu ?_;refine t0 rfl qZt (fun _=>F0 (by kernel_rfl) rfl (u:= .agg #[iv D.Line,iv D.Col,qZs O.1.Word,qZs O.1.Name,iv O.1.Stars,qZs y8.1,.slice aQ n9 c28,.slice none 0 0])) rfl (t1W [6] [7] [] ?_);refine oaL zv8 aS ?_;intro dj b6 dl aT;refine t1W [7] [] [0,0] ?_;refine osT 0 aT ?_;intro dm dn aU;refine pu ?_;obtain⟨dp,dq,aV,dr,rfl⟩:=aU.sl 9;exact je hm (aV.sE (Z3 1 5++[8,0]))
     refine brW [4,5,7] [] ?_;refine oaL zv8 au ?_;intro de b6 dg aS;refine t1W [4] [5,7] [] ?_;refine oS cf63 (D6 (aS.bE [0,3,4,5,6,7,1,2] [8]) Z2 (mC W) _ av) ?_;rintro _ dd dj dl ⟨aQ,n9,c28,dh,c29,rfl,aT,di,_⟩;refine pu ?_;refine t0 rfl qZt (fun _=>F0 (by kernel_rfl) rfl (u:= .agg #[iv D.Line,iv D.Col,qZs O.1.Word,qZs O.1.Name,iv O.1.Stars,qZs y8.1,.slice aQ n9 c28,.slice none 0 0])) rfl (t1W [7] [] [0,0] ?_);refine osT 0 aT ?_;intro dm dn aU;refine pu ?_;obtain⟨dp,dq,aV,dr,rfl⟩:=aU.sl 9;exact je hm (aV.sE (Z3 1 5++[8,0]))
   rintro _ ad ⟨ae,x3,aK,c25,b5,E,ar,c26,aN,c27,⟨J,hm,rfl,aP,_⟩,ds,du,_⟩;refine qU ?_;refine cP cf64 hm (Z3v (aP.bE (Z3 0 5++[6]) [5]) Z2 ds) ?_ ?_
   . exact zk
   rintro aW _ _ db dc ⟨dv,_,dw,_,_,rfl,dx,dy,_⟩ hm;refine sT 5 dx ?_;intro _ _ dz;refine pn ?_;refine rsS [0,0,0,0,1,1,2,2,0,0,2] [0,1,2,3,4,5,6,7,8,9,10] dz fun eX eY dA=>pu ?_;obtain⟨_,_,dB,dC,rfl⟩:=dA.sl 7;refine s2W [0] ?_;refine obS (r:=Z3h) (l:=([{E with Body:=aW.1}]:List Q1d)) (css:=[[iv E.Pos.Line,iv E.Pos.Col,Q23 E.Ret.Word.toArray,Q23 E.Ret.Name.toArray,iv E.Ret.Stars,Q23 E.Name.toArray,sv ar E.Params c26,sv dv aW.1 dw]]) dB ⟨(Y5h (x:={E with Body:=aW.1}) (mC du) dC:Z3h.rp _ _ _ _),qZt⟩ ?_;intro _ _ _ _ _ dD;refine pu ?_;obtain⟨_,dE,hm⟩:=Z8 hm;refine s2W [0] ?_;refine oaO 5 dD (U8 dE) ?_;intro _ _ _ _ _ dF;refine s2W [] ?_;refine osB 2 2 Z1d dF ?_;intro _ _ dG;refine pu ?_;have hm:=oI hm;subst hm;refine pn ?_;exact end0 rfl ⟨_,rfl,_,ch,⟨_,_,_,_,_,_,_,_,_,_,_,rfl,(dG.sE [1,7,2,3,4,5]).unb,(mC dy),qZt⟩⟩
 refine pn ?_;refine cnd (b:=false) rfl (fun h=>nomatch h) (fun _=>pn ?_);refine qU ?_;refine cP cf61 hm (F9 (bn.bE (Z3 0 6) [6]) Z2 (mC h1)) ?_ ?_
 . exact zk
 rintro U _ _ _ _ ⟨_,_,rfl,dI,dJ,_⟩ hm;refine aL zv12 dI ?_;intro _ b7 _ dK;refine sT 0 dK ?_;intro _ _ dL;refine kA ?_;refine cP cf59 hm (P9 (dL.bE (Z3 0 7) [7]) Z2 (mC dJ)) ?_ ?_
 . exact zk
 rintro af _ _ _ _ ⟨_,_,rfl,dM,aa,_⟩ hm;refine kB ?_;refine cB cf56 hm (I1 (dM.bE (Z3 0 7) [7]) Z2 aa) ?_;rintro _ _ dN dO _ ⟨rfl,bz,_⟩ hm;refine cd hm ?_ ?_<;>intro eZ hm
 . refine sq2 (Z2w [0,0,0,0,1,0,1,1,0,0,2,2,2,0,0,2] [0,1,2,3,4,5,6,7,8,9,10,11,12,13,14,15] bz (U7 (U7 (C5))) fun e0 e6 bA=>pu ?_);refine s0 rfl qZt (fun _=>F0 (by kernel_rfl) rfl (u:= .agg #[iv D.Line,iv D.Col,qZs U.1.Word,qZs U.1.Name,iv U.1.Stars,qZs af.1,.slice none 0 0,.slice none 0 0,.bool false])) rfl ?_;obtain⟨ag,bB,hm⟩:=Z8 hm
   rcases ag with e9|ag
   . have hm:=J8 hm;refine s2 [(4,.slice a3 n2 c3)] rfl qZt rfl (by kernel_rfl) (Z2d cf62 rfl (O6 (p0:=af.2) (p1:=(⟨D,U.1,af.1,[],[],false⟩:M7)) (bA.bE (Z3 2 5++[0,1]) [7]) Z2 (mC aa) V0 _ bB) rfl fun e8 fa fb fc dP=>?_);obtain⟨_,_,rfl,dQ,_,_⟩:=dP;exact pe hm (dQ.sE [0,7,1,2,3,4])
   have hm:=C2 hm;refine sS [(4,.slice a3 n2 c3)] cf62 (O6 (bA.bE (Z3 2 5++[0,1]) [7]) Z2 (mC aa) V0 _ bB) ?_;rintro _ _ _ _ ⟨dR,dS,dT,dU,_,_,rfl,dV,dW,dX,_,_⟩;refine s2W [] ?_;refine obS (r:=Q2y) (l:=([ag.1]:List M7)) (css:=[(Y1z ag.1 dR dS dT dU)]) dV ⟨(Y1a (x:=ag.1) dW dX:Q2y.rp _ _ _ _),qZt⟩ ?_;intro _ _ _ _ _ dY;refine pu ?_;obtain⟨_,dZ,hm⟩:=Z8 hm;refine s2W [0] ?_;refine oaO 4 dY (U8 dZ) ?_;intro _ _ _ _ _ d0;refine s2W [] ?_;refine osB 2 1 Z1d d0 ?_;intro _ _ d1;refine pu ?_;exact seP (K7 [] qZt fun J=>re hm (d1.sE [1,8,2,3,4,5]))
 refine pn ?_;refine M8 hm (fun bC a ah=>∃ai x5 aX aY b8 K ax ay a9 ba,JR (nf 77) g dN dO a ah ai (bC x5 K=some r) [(0,pt Y0 Z9),(1,pt Q0f Q0e),(8,pt b8 0)] ([Y7 R]++(Z5s p1 L4 a2 n1 c2 a3 n2 c3 a4 n3 c4++[Q1 aX aY Z5 x5,K0 b8 (Y3n K ax ay a9 ba)]))/\Q8 aX aY ai ah x5/\Q40 ax ay ai ah K.Params/\Q36 a9 ba ai ah K.Body) (fun bC hm=>?_) ?_
 . refine rtPS [1,1,0,0,2,0,2,2] [0,1,2,3,4,5,6,7] bz (U7 (C5)) fun fd fe az=>pu ?_;obtain⟨bD,aA,hm⟩:=Z8 hm
   rcases bD with ff|bD
   . have hm:=J8 hm;refine tF [4,6] ?_;refine⟨?_,?_,qZt⟩
     . refine brW [5,6,7] [] ?_;refine oP cf63 (D6 (az.bE (Z3 2 5++[0,1]) [7]) Z2 (mC aa) _ aA) ?_;rintro _ d2 _ _ ⟨d4,d5,rfl,d6,d7,_⟩;exact pe hm (d6.sE [0,7,1,2,3,4])
     refine brW [4,5,7] [] ?_;refine oaL zv8 az ?_;intro _ _ _ d8;refine t1W [4] [5,7] [] ?_;refine oP cf63 (D6 (d8.bE [0,3,4,5,6,7,1,2] [8]) Z2 (mC aa) _ aA) ?_;rintro _ d2 d9 ea ⟨d4,d5,rfl,be,d7,_⟩;exact pe hm (be.sE [1,8,2,3,4,5])
   have hm:=C2 hm;refine tF [4,6] ?_;refine⟨?_,?_,qZt⟩
   . refine brW [5,6,7] [] ?_;refine oS cf63 (D6 (az.bE (Z3 2 5++[0,1]) [7]) Z2 (mC aa) _ aA) ?_;rintro _ eb ec ed ⟨bf,bg,bh,ee,ef,rfl,bi,eg,_⟩;refine pu ?_;refine t0 rfl qZt (fun _=>F0 (by kernel_rfl) rfl (u:= .agg #[iv D.Line,iv D.Col,qZs U.1.Word,qZs U.1.Name,iv U.1.Stars,qZs af.1,.slice bf bg bh,.slice none 0 0])) rfl (t1W [6] [7] [] ?_);refine oaL zv8 bi ?_;intro eh b9 ej bj;refine t1W [7] [] [0,0] ?_;refine osT 0 bj ?_;intro w64 ek bk;refine pu ?_;obtain⟨el,em,bl,en,rfl⟩:=bk.sl 9;exact je hm (bl.sE (Z3 1 5++[8,0]))
   refine brW [4,5,7] [] ?_;refine oaL zv8 az ?_;intro ec b9 ed bi;refine t1W [4] [5,7] [] ?_;refine oS cf63 (D6 (bi.bE [0,3,4,5,6,7,1,2] [8]) Z2 (mC aa) _ aA) ?_;rintro _ eb eh ej ⟨bf,bg,bh,ee,ef,rfl,bj,eg,_⟩;refine pu ?_;refine t0 rfl qZt (fun _=>F0 (by kernel_rfl) rfl (u:= .agg #[iv D.Line,iv D.Col,qZs U.1.Word,qZs U.1.Name,iv U.1.Stars,qZs af.1,.slice bf bg bh,.slice none 0 0])) rfl (t1W [7] [] [0,0] ?_);refine osT 0 bj ?_;intro w64 ek bk;refine pu ?_;obtain⟨el,em,bl,en,rfl⟩:=bk.sl 9;exact je hm (bl.sE (Z3 1 5++[8,0]))
 rintro _ ah ⟨ai,x5,aX,aY,b8,K,ax,ay,a9,ba,⟨J,hm,rfl,be,_⟩,ep,er,_⟩;refine qU ?_;refine cP cf64 hm (Z3v (be.bE (Z3 0 5++[6]) [5]) Z2 ep) ?_ ?_
 . exact zk
 rintro bm _ _ d9 ea ⟨es,_,et,_,_,rfl,eu,ew,_⟩ hm;refine sT 5 eu ?_;intro _ _ ey;refine pn ?_;refine rsS [0,0,0,0,1,1,2,2,0,0,2] [0,1,2,3,4,5,6,7,8,9,10] ey fun fg fh ez=>pu ?_;obtain⟨_,_,eA,eB,rfl⟩:=ez.sl 7;refine s2W [0] ?_;refine obS (r:=Z3h) (l:=([{K with Body:=bm.1}]:List Q1d)) (css:=[[iv K.Pos.Line,iv K.Pos.Col,Q23 K.Ret.Word.toArray,Q23 K.Ret.Name.toArray,iv K.Ret.Stars,Q23 K.Name.toArray,sv ax K.Params ay,sv es bm.1 et]]) eA ⟨(Y5h (x:={K with Body:=bm.1}) (mC er) eB:Z3h.rp _ _ _ _),qZt⟩ ?_;intro _ _ _ _ _ eC;refine pu ?_;obtain⟨_,eD,hm⟩:=Z8 hm;refine s2W [0] ?_;refine oaO 5 eC (U8 eD) ?_;intro _ _ _ _ _ eE;refine s2W [] ?_;refine osB 2 2 Z1d eE ?_;intro _ _ eF;refine pu ?_;have hm:=oI hm;subst hm;refine pn ?_;exact end0 rfl ⟨_,rfl,_,ch,⟨_,_,_,_,_,_,_,_,_,_,_,rfl,(eF.sE [1,7,2,3,4,5]).unb,(mC ew),qZt⟩⟩

instance:Ct 32 @Z0c:=⟨@Z0c,cf32⟩
theorem Q7v{p0:Z0}(hS:Q39 a1 c1 Z5 T0 g w0 R p0)(Z2:Ln Y0 Z9 Z5)(h1:Q8 a1 c1 T0 w0 p0):∀r,Q9s p0=some r->
 Cl 17 #[pt Y0 Z9] w0 (exR r (fun r=>K6 T0 w0 fun T w v=>∃a14 c14 a15 c15 a16 c16 a17 c17,v= .tuple #[Q73 a14 a15 a16 c14 c15 c16 r.1,.pointer none]/\Sep g T w (R++[Q1 a17 c17 Z5 r.2])/\Q88 a14 c14 T w r.1/\Q40 a15 c15 T w r.1.Globals/\Q95 a16 c16 T w r.1/\Q8 a17 c17 T w r.2/\True) (fun r=>K6 T0 w0 fun T w v=>∃a14 c14 a15 c15 a16 c16 b4 a17 c17,v= .tuple #[Q73 a14 a15 a16 c14 c15 c16 r.1,pt b4 0]/\Sep g T w (R++[Q1 a17 c17 Z5 r.2.2,K0 b4 (N7 r.2.1.pos r.2.1.e)])/\Q88 a14 c14 T w r.1/\Q40 a15 c15 T w r.1.Globals/\Q95 a16 c16 T w r.1/\Q8 a17 c17 T w r.2.2/\True)):=by
 intro r hm;refine Y7s Tryz.func17 rfl Tryz.ntmps17 rfl fun J=>?_;unfold Q9s at hm;refine sq2 (aL zv17 hS ?_);intro _ D _ am;refine aL [.pointer none] am ?_;intro w2 E _ ao;refine kA ?_;refine pv (Y4d (u:= .func (.func 31) #[] #[pt D 0,pt E 0]) rfl) (wl rfl (dfO (f:=31) (cap:=#[pt D 0,pt E 0]) rfl (pn ?_)));refine sq2 ?_;have ap:=ao.nilO Q9t 168;have aq:=ap.nilO Q2y 132;have ar:=aq.nilO Z3h 136;refine lpJ hm (fun ah o1 m a U=>∃V O K W n1 c2 a3 n2 c3 a4 n3 c4 a5 c5,JR (⟨14,[⟨.fn (.func 31) #[pt D 0,pt E 0],#[]⟩]⟩) g T0 w2 a U V (X5 ah m (K,O)=some o1) [(0,pt Y0 Z9),(2,pt D 0),(3,pt E 0)] [J6 Z3h 136 (.slice W n1 c2) K.Funcs,J6 Q2y 132 (.slice a3 n2 c3) K.Globals,J6 Q9t 168 (.slice a4 n3 c4) K.Structs,K0 E [.pointer none],K0 D [.slice a4 n3 c4,.slice a3 n2 c3,.slice W n1 c2],Y7 R,Q1 a5 c5 Z5 O]/\Q8 a5 c5 V U O) (fun _ _ h=>je h (ar.sN 0 7)) ?_;rintro ah au o1 aj _ _ U ⟨V,O,K,W,n1,c2,a3,n2,c3,a4,n3,c4,a5,c5,⟨J,av,rfl,ak,_⟩,h2⟩;obtain⟨m1,_,rfl,hm,ag⟩:=lrE av au;refine sq2 (sq2 (cd hm ?_ ?_))<;>intro aI hm
 . refine pn ?_;refine blk (pu ?_);refine cP cf32 hm (Z0c (ak.bE [3,5] [6,4,2,1,0]) Z2 h2 (Q3w D)) ?_ ?_
   . rintro e1 _ _ _ _ ⟨_,c10,_,_,c11,_,_,c12,_,_,c13,rfl,aw,_,_⟩ hm;refine pn ?_;refine panD cf31 (Y8t (args:=[pt D 0,pt E 0]) Tryz.func31 rfl Tryz.ntmps31 rfl rfl rfl fun J=>sq2 (qU ?_));refine pv (Z1x (v:= .iface 76 (.agg (N7 e1.1.pos e1.1.e).toArray)) rfl) (pv (Y8u rfl (by kernel_rfl)) (pn ?_));refine cnd (b:=false) rfl (fun h=>nomatch h) (fun _=>pn ?_);refine qU ?_;refine pv (Z1x (v:= .iface 76 (.agg (N7 e1.1.pos e1.1.e).toArray)) rfl) (pv (r_ta rfl (by kernel_rfl)) (aL [iv 0,iv 0,iv 0] aw ?_));intro _ _ _ ax;refine sT 0 ax ?_;intro _ _ ay;refine pn ?_;refine pv (F0 (by kernel_rfl) rfl (u:= .agg #[.slice none 0 0,.slice none 0 0,.slice none 0 0])) (sT 4 ay ?_);intro _ _ az;refine sT 1 az ?_;intro _ _ aA;have hm:=Q1b hm ag aj;exact eo hm (aA.sE [2,3,0])
   rintro _ _ _ _ _ ⟨_,c6,_,_,c7,_,_,c8,_,_,c9,rfl,aB,_,_⟩ hm;exact lg hm ag (aB.sE [6,5,4,0,3,1,2])
 have hm:=Q4m hm ag aj;refine kE ?_;refine sT 4 ak ?_;intro _ _ aC;refine sT 3 aC ?_;intro _ _ aD;refine pn ?_;refine pn ?_;refine retD cf31 (recN2 (args:=[pt D 0,pt E 0]) Tryz.func31 rfl Tryz.ntmps31 rfl rfl rfl fun J=>sq2 (qU ?_));refine pv (Z1x (v:= .nilIface) rfl) (pv (r_eqn rfl (by kernel_rfl)) (pn ?_));refine cnd (b:=true) rfl (fun _=>?_) (fun h=>nomatch h);obtain⟨_,_,aE,_,rfl⟩:=aD.sl 2;obtain⟨_,_,aF,_,rfl⟩:=aE.sl 1;obtain⟨_,_,aG,_,rfl⟩:=aF.sl 0;exact eo hm (aG.sE [5,6])

instance:Ct 17 @Q7v:=⟨@Q7v,cf17⟩
theorem Y2u{p0:List UInt8}(hS:Sep g T0 w0 [Y7 R])(hG0:Gi T0 w0 0):∀r,Z7k p0=some r->
 Cl 11 #[Q23 p0.toArray] w0 (K6 T0 w0 fun T w v=>∃a10 c10 a11 c11 a12 c12,v= .tuple #[Q73 a10 a11 a12 c10 c11 c12 r.1,Q49 r.2.1,iv r.2.2]/\Sep g T w (R++[])/\Q88 a10 c10 T w r.1/\Q40 a11 c11 T w r.1.Globals/\Q95 a12 c12 T w r.1/\True):=by
 intro r hm;refine eN Tryz.func11 Tryz.ntmps11 fun J=>?_;unfold Z7k at hm;refine sq2 (aL zv17 hS ?_);intro _ E _ ac;refine aL [iv 0,iv 0] ac ?_;intro _ K _ ad;refine kA ?_;refine cB cf16 hm (Y1p (ad.bE [0,1,2] []) (hG0.mono ch)) ?_;rintro D _ _ _ _ ⟨a1,O,c1,rfl,ae,_⟩ hm;refine aL [iv 0,iv 0] ae ?_;intro _ b3 _ ag;refine sT 0 ag ?_;intro _ _ U;refine pn ?_;refine sq2 (sq2 (cd hm ?_ ?_))<;>intro az hm
 . refine sq2 (rsS [0,1,0,2,2,0] [0,1,2,3,4,5] U fun w6 aB ah=>?_);have dd:KD [(3,[]),(4,[1,3])]:=⟨qZt⟩;exact zr hm ah
 refine kA ?_;refine pv (F0 (by kernel_rfl) rfl (u:= .agg #[.slice a1 O c1,iv D.2.1.Line,iv D.2.1.Col,iv 0])) (bX [.slice a1 O c1,iv D.2.1.Line,iv D.2.1.Col,iv 0] U ?_);intro _ V _ ai;refine kA ?_;obtain⟨_,_,W,h1,rfl⟩:=ai.sl 5;obtain⟨y2,ab,hm⟩:=Z8 hm
 rcases y2 with e1|y2
 . have hm:=J8 hm;refine cS cf17 (Q7v (W.bE (Z3 1 4) [0]) (Q3w V) h1 _ ab) ?_;rintro _ _ _ _ ⟨_,c6,_,c7,_,c8,_,_,c9,rfl,aj,_,_,_,_,_⟩;refine aL zv17 aj ?_;intro _ _ _ ak;refine sT 0 ak ?_;intro _ _ am;refine kB ?_;refine pv (Y6y rfl rfl rfl underlying72) (pn ?_);refine cnd (b:=true) rfl (fun _=>?_) (fun h=>nomatch h);refine sq2 (rsS [0,0,0,0,1,0,0,0,1,2,2,0] [0,1,2,3,4,5,6,7,8,9,10,11] am fun aD aE an=>s0 rfl qZt (fun _=>F0 (by kernel_rfl) rfl (u:= .agg #[.slice none 0 0,.slice none 0 0,.slice none 0 0])) rfl (pu ?_));refine s2W [] ?_;refine osT 3 an ?_;intro _ _ ao;refine⟨st1 rfl opv (st1 rfl ?_ st0),?_⟩
   . with_reducible apply r_ldP
     . exact rfl
     . exact tyA
     . exact tyS
     . assumption
     . exact atS
     . exact(rfl:_=[_,_])
     . exact rfl
   refine s2W [1,0] ?_;refine osT 2 ao ?_;intro _ _ ap;refine pu ?_;exact se (K7 [(2,pt E 0),(3,pt K 0),(4,iv e1.2.1.e)] ⟨rfl,rfl,rfl,qZt⟩ fun J=>re hm (ap.sE [4]))
 have hm:=C2 hm;refine cS cf17 (Q7v (W.bE (Z3 1 4) [0]) (Q3w V) h1 _ ab) ?_;rintro _ _ _ _ ⟨_,c2,_,c3,_,c4,_,c5,rfl,aq,h2,_,_,_,_⟩;refine aL zv17 aq ?_;intro _ b5 _ au;refine sT 0 au ?_;intro _ _ av;refine kB ?_;refine pv (Y6y rfl rfl rfl underlying72) (pn ?_);refine cnd (b:=false) rfl (fun h=>nomatch h) (fun _=>skp (K7 [(2,pt E 0),(3,pt K 0),(6,pt b3 0),(9,pt b5 0)] ⟨rfl,rfl,rfl,rfl,qZt⟩ fun J=>sq2 (rsS [1,1,2,2,0] [0,1,2,3,4] av fun aF aG aw=>s2W [1,0] ?_)));refine osT 3 aw ?_;intro _ _ ax;refine s2W [0] ?_;refine osT 2 ax ?_;intro _ _ ay;exact re hm (ay.sE [4])

instance:Ct 11 @Y2u:=⟨@Y2u,cf11⟩
theorem Z8v(hS:Sep g T0 w0 [Y7 R]):∀r,Y4s=some r->
 Cl 18 #[] w0 (K6 T0 w0 fun T w v=>∃b2 a2 n2 c2,v=pt b2 0/\Sep g T w (R++[K0 b2 [.slice a2 n2 c2],Q12 a2 n2 c2 r.list])/\True):=by
 intro r hm;refine eN Tryz.func18 Tryz.ntmps18 fun J=>?_;unfold Y4s at hm;refine qN ?_;refine qU ?_;refine pv (F0 (by kernel_rfl) rfl (u:= .agg #[iv 0,iv 0,iv 0,Q53,.slice none 0 0,iv 0,iv 0,.bool false])) (pv (F0 (by kernel_rfl) rfl (u:= .agg #[iv 1,iv 0,iv 0,Q53,.slice none 0 0])) (pv (F0 (by kernel_rfl) rfl (u:= .agg #[iv 1,iv 0,iv 0,Q53,.slice none 0 0,iv 4,iv 4,.bool false])) (pv (F0 (by kernel_rfl) rfl (u:= .agg #[iv 2,iv 0,iv 0,Q53,.slice none 0 0])) (pv (F0 (by kernel_rfl) rfl (u:= .agg #[iv 2,iv 0,iv 0,Q53,.slice none 0 0,iv 1,iv 1,.bool false])) (bS (r:=M2) (l:=([(⟨(⟨0,0,0,([]:List UInt8),[]⟩:Q8v),0,0,false⟩:K4),(⟨(⟨1,0,0,([]:List UInt8),[]⟩:Q8v),4,4,false⟩:K4),(⟨(⟨2,0,0,([]:List UInt8),[]⟩:Q8v),1,1,false⟩:K4)]:List K4)) (css:=[zv18,[iv 1,iv 0,iv 0,Q53,.slice none 0 0,iv 4,iv 4,.bool false],[iv 2,iv 0,iv 0,Q53,.slice none 0 0,iv 1,iv 1,.bool false]]) hS ⟨(Q1v (x:=(⟨(⟨0,0,0,([]:List UInt8),[]⟩:Q8v),0,0,false⟩:K4)) V0:M2.rp _ _ _ _),(Q1v (x:=(⟨(⟨1,0,0,([]:List UInt8),[]⟩:Q8v),4,4,false⟩:K4)) V0:M2.rp _ _ _ _),(Q1v (x:=(⟨(⟨2,0,0,([]:List UInt8),[]⟩:Q8v),1,1,false⟩:K4)) V0:M2.rp _ _ _ _),qZt⟩ ?_)))));intro _ a1 D c1 _ E;refine pv (F0 (by kernel_rfl) rfl (u:= .agg #[.slice a1 D c1])) (bX [.slice a1 D c1] E ?_);intro _ _ _ K;exact re hm (K.sE [2,0,1])

instance:Ct 18 @Z8v:=⟨@Z8v,cf18⟩
theorem wlK{P:Program}{ops:Array Oper}{rest:List Oper}{Q:Exit->Act->World->Prop}{n:NF}{J:Nat->Value}{L M:List (Nat×Value)}{d:Nat}{w:World}{b c:Bool}(hk:∀(J:Nat->Value)(b:Bool),b=c->wpList P ops Q rest (env n J ((d,.bool b)::M)) w)(hs:Has n J L ((d,.bool b)::M))(e:b=c):wpList P ops Q rest (env n J L) w:=wlR (fun J=>hk J b e) hs
theorem zw{A H:Prop}(b:Bool)(hk:H)(h:(b=true\/b=false)->H->A:=by
 rintro(hb|hb) hk<;>(repeat(first|exact wlK hk (by repeat(first|exact qZt|refine⟨rfl,?_⟩)) (by rw[hb];rfl)|with_reducible refine rg ?_|((with_reducible apply pv);(exact opv))|((with_reducible apply gT);(exact rfl);(exact rfl);(first|assumption|exact rfl))|((with_reducible apply gF);(exact rfl);(exact rfl);(first|assumption|exact rfl))|((with_reducible apply gU);(exact rfl);(exact rfl))|((with_reducible apply s0a);(exact rfl);(exact rfl);(exact gwS);(intro _;exact opv))|((with_reducible apply sUa);(exact rfl);(exact gUS))|((with_reducible apply s1a);(exact rfl);(exact rfl);(exact gwS);(exact opv))|((with_reducible apply And.intro);(exact stS))|((with_reducible apply qv);(intro _ _;exact opq))|((with_reducible apply qgT);(exact rfl);(exact rfl);(first|assumption|exact rfl))|((with_reducible apply qgF);(exact rfl);(exact rfl);(first|assumption|exact rfl))|((with_reducible apply qgU);(exact rfl);(exact rfl))|((with_reducible apply t0a);(exact rfl);(exact rfl);(exact rfl);(exact gwS);(intro _;exact opv))|((with_reducible apply tUa);(exact rfl);(exact rfl);(exact gUS);(kernel_rfl))|((with_reducible apply t1a);(exact rfl);(exact rfl);(exact rfl);(exact gwS);(exact opv))))):A:=h (Bool.eq_false_or_eq_true b) hk
theorem Q9j{p0:K4}{p1:List UInt8}(hS:Sep g T0 w0 [Y7 R,L4 [Q23 p1.toArray]])(h1:Q65 a1 c1 T0 w0 p0.Type_.Fields)(Z1d:Ln Q0f Q0e L4):∀r,Q9k p0 p1=some r->
 Cl 138 #[.agg (Q3o p0 a1 c1).toArray,pt Q0f Q0e] w0 (K6 T0 w0 fun T w v=>v= .bool r/\Sep g T w (R++[L4 [Q23 p1.toArray]])/\True):=by
 intro r hm;refine eN Tryz.func138 Tryz.ntmps138 fun J=>?_;unfold Q9k at hm;refine sq2 (bX (Q3o p0 a1 c1) hS ?_);intro _ _ _ D;refine kA ?_;exact fkC (d:=14) (c:=((p0.Type_.Kind==5)&&(decide (p0.Type_.Name=p1)))) 6 [] rfl (fun hk=>zw (p0.Type_.Kind==5) hk) fun J=>re hm (D.sE [1,2])

instance:Ct 138 @Q9j:=⟨@Q9j,cf138⟩
theorem Z0p{p0:List K4}{v_p0}{Z5:Y9}{p1:List UInt8}(hS:Sep g T0 w0 [Y7 R,Z5,L4 [Q23 p1.toArray]])(hV_p0:Vw Z5 M2 v_p0 p0)(Z1d:Ln Q0f Q0e L4):∀r,Q8g p0 p1=some r->
 Cl 137 #[v_p0,.func (.func 138) #[] #[pt Q0f Q0e]] w0 (K6 T0 w0 fun T w v=>v=iv r/\Sep g T w (R++[Z5,L4 [Q23 p1.toArray]])/\True):=by
 intro r hm;refine eN Tryz.func137 Tryz.ntmps137 fun J=>?_;unfold Q8g at hm;refine qN ?_;refine sq2 (qU ?_);refine pv (Z1x (v:=v_p0) rfl) (pv (r_lnV rfl (hS.view (i:=1) ⟨rfl,rfl⟩ hV_p0) underlying124) (pn ?_));refine lpJ hm (fun K O m a U=>∃V D,JR (nf 19) g T0 w0 a U V (X5 K m D=some O) [(0,v_p0),(1,.func (.func 138) #[] #[pt Q0f Q0e]),(7,iv (qQ p0:Int)),(8,iv D)] [Y7 R,Z5,L4 [Q23 p1.toArray]]) (fun _ _ h=>je h (hS.sE [0,1,2])) ?_;rintro K ab O ac _ _ U ⟨V,D,J,ad,rfl,E,_⟩;obtain⟨m1,_,rfl,hm,W⟩:=lrE ad ab;refine qN ?_;refine sq2 (cd hm ?_ ?_)<;>intro ag hm
 . refine kE ?_;refine blk (qN ?_);refine sq2 ?_;obtain⟨u1,ae,hm⟩:=Z8 hm;obtain⟨cs1,af,_⟩:=(E.view (i:=1) ⟨rfl,rfl⟩ hV_p0).ixcS ae rfl;obtain⟨a1,c1,rfl,h1⟩:=A8 af;refine pu ?_;refine pv (Z1x (v:=v_p0) rfl) (pu ?_);refine cB cf138 hm (Q9j (E.bE [0,1] [2]) h1 Z1d) ?_;rintro _ _ _ _ _ ⟨rfl,aa,_⟩ hm;refine cd hm ?_ ?_<;>intro ah hm
   . refine qN ?_;have hm:=Q1b hm W ac;exact re hm (aa.sE [0,1,2])
   exact lg hm W (aa.sE [0,1,2])
 exact zr hm E

instance:Ct 137 @Z0p:=⟨@Z0p,cf137⟩
theorem Z0z{p0:Z7}{p1:List UInt8}(hS:Q37 a1 n1 c1 Z5 T0 g w0 R p0.list)(Z2:Ln Y0 Z9 Z5):∀r,Q1q p0 p1=some r->
 Cl 96 #[pt Y0 Z9,Q23 p1.toArray] w0 (K6 T0 w0 fun T w v=>v=iv r/\Q31 a1 n1 c1 Z5 T g w R p0.list):=by
 intro r hm;refine eN Tryz.func96 Tryz.ntmps96 fun J=>?_;unfold Q1q at hm;refine sq2 (bX [qZs p1] hS ?_);intro _ D _ E;refine kA ?_;refine pv (Y4d (u:= .func (.func 138) #[] #[pt D 0]) rfl) (cB cf137 hm (Z0p (Z5:=J6 M2 123 (.slice a1 n1 c1) p0.list) (E.bE [1,2] [3,0]) vwOwn (Q3w D)) ?_);rintro _ _ _ _ _ ⟨rfl,K,_⟩ hm;exact re hm (K.sE [0,1,2])

instance:Ct 96 @Z0z:=⟨@Z0z,cf96⟩
theorem Z0y{p0:K4}{p1:K4}(hS:Sep g T0 w0 [Y7 R,L4 (Q3o p1 a2 c2)])(h1:Q65 a1 c1 T0 w0 p0.Type_.Fields)(Z1d:Ln Q0f Q0e L4)(h2:Q65 a2 c2 T0 w0 p1.Type_.Fields):∀r,Z1m p0 p1=some r->
 Cl 139 #[.agg (Q3o p0 a1 c1).toArray,pt Q0f Q0e] w0 (K6 T0 w0 fun T w v=>v= .bool r/\Sep g T w (R++[L4 (Q3o p1 a2 c2)])/\True):=by
 intro r hm;refine eN Tryz.func139 Tryz.ntmps139 fun J=>?_;unfold Z1m at hm;refine sq2 (bX (Q3o p0 a1 c1) hS ?_);intro _ D _ E;refine kA ?_;refine fkC (d:=19) (c:=((p0.Type_.Kind==p1.Type_.Kind)&&(p0.Type_.Elem==p1.Type_.Elem))) 8 [(1,pt Q0f Q0e),(2,pt D 0)] rfl (fun hk=>zw (p0.Type_.Kind==p1.Type_.Kind) hk) fun J=>pu ?_;refine fkC (d:=28) (c:=(((p0.Type_.Kind==p1.Type_.Kind)&&(p0.Type_.Elem==p1.Type_.Elem))&&(p0.Type_.Len==p1.Type_.Len))) 8 [(1,pt Q0f Q0e)] rfl (fun hk=>zw ((p0.Type_.Kind==p1.Type_.Kind)&&(p0.Type_.Elem==p1.Type_.Elem)) hk) fun J=>pu ?_;exact fkC (d:=34) (c:=((((p0.Type_.Kind==p1.Type_.Kind)&&(p0.Type_.Elem==p1.Type_.Elem))&&(p0.Type_.Len==p1.Type_.Len))&&(p1.Type_.Kind !=5))) 5 [] rfl (fun hk=>zw (((p0.Type_.Kind==p1.Type_.Kind)&&(p0.Type_.Elem==p1.Type_.Elem))&&(p0.Type_.Len==p1.Type_.Len)) hk) fun J=>re hm (E.sE [1,2])

instance:Ct 139 @Z0y:=⟨@Z0y,cf139⟩
theorem Q9c{p0:List K4}{v_p0}{Z5:Y9}{p1:K4}(hS:Sep g T0 w0 [Y7 R,Z5,L4 (Q3o p1 a1 c1)])(hV_p0:Vw Z5 M2 v_p0 p0)(Z1d:Ln Q0f Q0e L4)(h1:Q65 a1 c1 T0 w0 p1.Type_.Fields):∀r,Q5e p0 p1=some r->
 Cl 137 #[v_p0,.func (.func 139) #[] #[pt Q0f Q0e]] w0 (K6 T0 w0 fun T w v=>v=iv r/\Sep g T w (R++[Z5,L4 (Q3o p1 a1 c1)])/\True):=by
 intro r hm;refine eN Tryz.func137 Tryz.ntmps137 fun J=>?_;unfold Q5e at hm;refine qN ?_;refine sq2 (qU ?_);refine pv (Z1x (v:=v_p0) rfl) (pv (r_lnV rfl (hS.view (i:=1) ⟨rfl,rfl⟩ hV_p0) underlying124) (pn ?_));refine lpJ hm (fun K O m a U=>∃V D,JR (nf 19) g T0 w0 a U V (X5 K m D=some O) [(0,v_p0),(1,.func (.func 139) #[] #[pt Q0f Q0e]),(7,iv (qQ p0:Int)),(8,iv D)] [Y7 R,Z5,L4 (Q3o p1 a1 c1)]) (fun _ _ h=>je h (hS.sE [0,1,2])) ?_;rintro K ab O ac _ _ U ⟨V,D,J,ad,rfl,E,_⟩;obtain⟨m1,_,rfl,hm,W⟩:=lrE ad ab;refine qN ?_;refine sq2 (cd hm ?_ ?_)<;>intro ag hm
 . refine kE ?_;refine blk (qN ?_);refine sq2 ?_;obtain⟨u1,ae,hm⟩:=Z8 hm;obtain⟨cs1,af,_⟩:=(E.view (i:=1) ⟨rfl,rfl⟩ hV_p0).ixcS ae rfl;obtain⟨_,c2,rfl,h2⟩:=A8 af;refine pu ?_;refine pv (Z1x (v:=v_p0) rfl) (pu ?_);refine cB cf139 hm (Z0y (E.bE [0,1] [2]) h2 Z1d (mC h1)) ?_;rintro _ _ _ _ _ ⟨rfl,aa,_⟩ hm;refine cd hm ?_ ?_<;>intro ah hm
   . refine qN ?_;have hm:=Q1b hm W ac;exact re hm (aa.sE [0,1,2])
   exact lg hm W (aa.sE [0,1,2])
 exact zr hm E

instance:Ct 137 @Q9c:=⟨@Q9c,cf137⟩
theorem Z6c{p0:Z7}{p1:K4}(hS:Q37 a1 n1 c1 Z5 T0 g w0 R p0.list)(Z2:Ln Y0 Z9 Z5)(h1:Q65 a2 c2 T0 w0 p1.Type_.Fields):∀r,Q5h p0 p1=some r->
 Cl 97 #[pt Y0 Z9,.agg (Q3o p1 a2 c2).toArray] w0 (Q67 Z5 T0 w0 g R r.1 r.2.1 r.2.2.list):=by
 intro r hm;refine eN Tryz.func97 Tryz.ntmps97 fun J=>?_;unfold Q5h at hm;refine sq2 (bX (Q3o p1 a2 c2) hS ?_);intro _ E _ K;refine kA ?_;refine pv (Y4d (u:= .func (.func 139) #[] #[pt E 0]) rfl) (cB cf137 hm (Q9c (Z5:=J6 M2 123 (.slice a1 n1 c1) p0.list) (K.bE [1,2] [3,0]) vwOwn (Q3w E) (mC h1)) ?_);rintro _ _ _ _ _ ⟨rfl,D,_⟩ hm;refine pn ?_;refine sq2 (blk (sq2 (cd hm ?_ ?_)))<;>intro ab hm
 . exact sq2 (re hm (D.sE [0,1,2]))
 refine sq2 (cd hm ?_ ?_)<;>intro ac hm
 . exact sq2 (re hm (D.sE [0,1,2]))
 refine kE ?_;refine rsS [0,0,0,0,1,1,2,2,0,0,2] [0,1,2,3,4,5,6,7,8,9,10] D fun w3 ae O=>s2W [0] ?_;refine obS (r:=M2) (l:=([p1]:List K4)) (css:=[(Q3o p1 a2 c2)]) O ⟨(Q1v (x:=p1) (mC h1):M2.rp _ _ _ _),qZt⟩ ?_;intro _ _ _ c3 _ U;refine pu ?_;obtain⟨_,V,hm⟩:=Z8 hm;refine s2W [0] ?_;refine oaO 3 U (U8 V) ?_;intro _ _ _ c4 _ W;refine s2W [] ?_;refine osB 2 0 Z2 W ?_;intro _ _ aa;refine pu ?_;exact se (K7 [(0,pt Y0 Z9)] ⟨rfl,qZt⟩ fun J=>sq2 (re hm (aa.sE [1,2,3])))

instance:Ct 97 @Z6c:=⟨@Z6c,cf97⟩
theorem Z1y{p0:Z7}{p1:List UInt8}(hS:Q37 a1 n1 c1 Z5 T0 g w0 R p0.list)(Z2:Ln Y0 Z9 Z5):∀r,Q9v p0 p1=some r->
 Cl 65 #[pt Y0 Z9,Q23 p1.toArray] w0 (Q67 Z5 T0 w0 g R r.1 r.2.1 r.2.2.list):=by
 intro r hm;refine eN Tryz.func65 Tryz.ntmps65 fun J=>?_;unfold Q9v at hm;exact zr hm hS

instance:Ct 65 @Z1y:=⟨@Z1y,cf65⟩
theorem C6{p0:Pos}{p1}(hS:Sep g T0 w0 [Y7 R]):∀r,X0 p0 p1=some r->
 Cl 75 #[Q49 p0,iv p1] w0 (exR r (fun r=>K6 T0 w0 fun T w v=>v= .tuple #[]/\Q16 T g w R) (fun r=>H9 T0 w0 fun T w v=>v= .iface 89 (Q26 r.pos r.e)/\Q16 T g w R)):=by
 intro r hm;refine eN Tryz.func75 Tryz.ntmps75 fun J=>?_;unfold X0 at hm;exact zr hm hS

instance:Ct 75 @C6:=⟨@C6,Y5n⟩
theorem Q2g{p0:Pos}{p1}(hS:Sep g T0 w0 [Y7 R]):∀r,R8 p0 p1=some r->
 Cl 66 #[Q49 p0,iv p1] w0 (exR r (fun r=>K6 T0 w0 fun T w v=>v= .tuple #[]/\Q16 T g w R) (fun r=>H9 T0 w0 fun T w v=>v= .iface 89 (Q26 r.pos r.e)/\Q16 T g w R)):=by
 intro r hm;refine eN Tryz.func66 Tryz.ntmps66 fun J=>?_;unfold R8 at hm;exact zr hm hS

instance:Ct 66 @Q2g:=⟨@Q2g,cf66⟩
theorem Z1z{p0:Z7}{p1:List UInt8}(hS:Q37 a1 n1 c1 Z5 T0 g w0 R p0.list)(Z2:Ln Y0 Z9 Z5):∀r,Q9w p0 p1=some r->
 Cl 111 #[pt Y0 Z9,Q23 p1.toArray] w0 (K6 T0 w0 fun T w v=>v= .tuple #[iv r.1,iv r.2]/\Q31 a1 n1 c1 Z5 T g w R p0.list):=by
 intro r hm;refine eN Tryz.func111 Tryz.ntmps111 fun J=>?_;unfold Q9w at hm;exact zr hm hS

instance:Ct 111 @Z1z:=⟨@Z1z,cf111⟩
theorem Q9l{p0:Z7}{p1}(hS:Q37 a1 n1 c1 Z5 T0 g w0 R p0.list)(Z2:Ln Y0 Z9 Z5):∀r,I3 p0 p1=some r->
 Cl 113 #[pt Y0 Z9,iv p1] w0 (K6 T0 w0 fun T w v=>v= .bool r/\Q31 a1 n1 c1 Z5 T g w R p0.list):=by
 intro r hm;refine eN Tryz.func113 Tryz.ntmps113 fun J=>?_;unfold I3 at hm;refine qN ?_;refine qU ?_;refine pv (Y6y rfl rfl rfl underlying78) (pu ?_);exact fkC (d:=19) (c:=((decide (0<=p1))&&(decide (p1<(qQ p0.list:Int))))) 8 [] rfl (fun hk=>zw (decide (0<=p1)) hk) fun J=>re hm (hS.sE [0,1,2])

instance:Ct 113 @Q9l:=⟨@Q9l,cf113⟩
theorem Z2o{p0:Z7}{p1}(hS:Q37 a1 n1 c1 Z5 T0 g w0 R p0.list)(Z2:Ln Y0 Z9 Z5):∀r,Q5i p0 p1=some r->
 Cl 112 #[pt Y0 Z9,iv p1] w0 (Q67 Z5 T0 w0 g R r.1 r.2.1 r.2.2.list):=by
 intro r hm;refine eN Tryz.func112 Tryz.ntmps112 fun J=>?_;unfold Q5i at hm;exact zr hm hS

instance:Ct 112 @Z2o:=⟨@Z2o,cf112⟩
theorem I6{p0:Q0}{p1:Pos}{p2:M6}(hS:Q28 a1 a2 a3 a4 a5 a6 b1 oo1 n1 c1 n2 c2 n3 c3 n4 c4 n5 c5 n6 c6 Z5 H1 T0 g w0 pv1 r1 r2 R p0)(Z2:Ln Y0 Z9 Z5)(hL1:Ln b1 oo1 H1):∀r,B3 p0 p1 p2=some r->
 Cl 73 #[pt Y0 Z9,Q49 p1,.agg (Z5u p2).toArray] w0 (exR r (fun r=>K6 T0 w0 (Q100 a2 a3 a4 a5 a6 b1 oo1 n2 c2 n3 c3 n4 c4 n5 c5 n6 c6 Z5 H1 g pv1 r1 r2 R r.1 r.2)) (fun r=>H9 T0 w0 (Q50 a2 a3 a4 a5 a6 b1 oo1 n2 c2 n3 c3 n4 c4 n5 c5 n6 c6 Z5 H1 g pv1 r1 r2 R r.1.pos r.1.e r.2))):=by
 intro r hm;refine eN Tryz.func73 Tryz.ntmps73 fun J=>?_;unfold B3 at hm;refine sq2 (bX [iv p1.Line,iv p1.Col] hS ?_);intro _ D _ an;refine bX (Z5u p2) an ?_;intro w2 b3 _ E;refine kD ?_;refine M8 hm (fun ad a K=>∃O U,JR (nf 53) g T0 w2 a K O (ad U=some r) [(0,pt Y0 Z9),(4,pt D 0),(5,pt b3 0),(7,iv U)] ([K0 b3 (Z5u p2),K0 D [iv p1.Line,iv p1.Col],Y7 R]++X6 p0 Z5 H1 b1 oo1 a1 n1 c1 a2 n2 c2 a3 n3 c3 a4 n4 c4 r1 r2 a5 n5 c5 a6 n6 c6 pv1)) (fun ad hm=>?_) ?_
 . refine qN ?_;refine blk (sq2 (cd hm ?_ ?_))<;>intro az hm
   . exact je hm (E.sN 0 13)
   refine sq2 (cd hm ?_ ?_)<;>intro aA hm
   . exact je hm (E.sN 0 13)
   refine sq2 (cd hm ?_ ?_)<;>intro aB hm
   . refine sq2 (rsS [0,0,0,1,0,1,2,0,0,0,0,0] [0,1,2,3,4,5,6,7,8,9,10,11] E fun w4 aD ap=>?_);obtain⟨_,aq,hm⟩:=Z8 hm;refine sS [] cf111 (Z1z (ap.bE (Z3 0 4++Z3 6 7) [4,5]) hL1 _ aq) ?_;have dd:KD [(6,[3,5])]:=⟨qZt⟩;exact zo hm
   exact je hm (E.sN 0 13)
 rintro _ K ⟨O,U,J,hm,rfl,ar,_⟩;refine sq2 (qN ?_);refine lpJ hm (fun ae o1 m a w8=>∃T5 V a7 n7 c7 W x4,JR (nf 53) g O K a w8 T5 (X5 ae m (W,x4,V)=some o1) [(0,pt Y0 Z9),(4,pt D 0),(7,iv W),(35,iv p2.Stars),(36,iv x4)] ([K0 D [iv p1.Line,iv p1.Col],Y7 R]++X6 ({p0 with t:=V}) Z5 H1 b1 oo1 a7 n7 c7 a2 n2 c2 a3 n3 c3 a4 n4 c4 r1 r2 a5 n5 c5 a6 n6 c6 pv1)) (fun _ _ h=>je h (ar.sN 1 12)) ?_;rintro ae au o1 ak _ _ w8 ⟨T5,V,a7,n7,c7,W,x4,J,av,rfl,am,_⟩;obtain⟨m1,_,rfl,hm,ab⟩:=lrE av au;refine qN ?_;refine sq2 (cd hm ?_ ?_)<;>intro aF hm
 . refine kE ?_;refine blk (qU ?_);refine cB cf112 hm (Z2o (am.bE ([0,1,2]++Z3 5 7) [3,4]) hL1) ?_;rintro _ _ _ _ _ ⟨_,_,c8,rfl,aw,_⟩ hm;refine kA ?_;refine cP cf66 hm (Q2g (aw.bE (Z3 0 12) [])) ?_ ?_
   . rintro e2 _ _ _ _ ⟨rfl,ax,_⟩ hm;have hm:=Q1b hm ab ak;exact pe hm (ax.sE ([1,2,10,11]++Z3 3 7))
   rintro _ _ T7 _ _ ⟨rfl,ay,_⟩ hm;refine pn ?_;exact lg hm ab (ay.sE ([0,1,2,10,11]++Z3 3 7))
 have hm:=Q4m hm ab ak;exact zr hm am

instance:Ct 73 @I6:=⟨@I6,cf73⟩
theorem Z1b{p0:Z7}{p1 p2}(hS:Q37 a1 n1 c1 Z5 T0 g w0 R p0.list)(Z2:Ln Y0 Z9 Z5):∀r,Q8n p0 p1 p2=some r->
 Cl 98 #[pt Y0 Z9,iv p1,iv p2] w0 (Q67 Z5 T0 w0 g R r.1 r.2.1 r.2.2.list):=by
 intro r hm;refine eN Tryz.func98 Tryz.ntmps98 fun J=>?_;unfold Q8n at hm;exact zr hm hS

instance:Ct 98 @Z1b:=⟨@Z1b,cf98⟩
theorem Q7q{p0:Q0}{p1:M7}(hS:Q28 a1 a2 a3 a4 a5 a6 b1 oo1 n1 c1 n2 c2 n3 c3 n4 c4 n5 c5 n6 c6 Z5 H1 T0 g w0 pv1 r1 r2 R p0)(Z2:Ln Y0 Z9 Z5)(hL1:Ln b1 oo1 H1)(h1:Q13 a7 c7 T0 w0 p1.Dims)(h2:Q10 a8 c8 T0 w0 p1.Init):∀r,O1 p0 p1=some r->
 Cl 67 #[pt Y0 Z9,Q107 a7 a8 c7 c8 p1] w0 (exR r (fun r=>K6 T0 w0 (Q100 a2 a3 a4 a5 a6 b1 oo1 n2 c2 n3 c3 n4 c4 n5 c5 n6 c6 Z5 H1 g pv1 r1 r2 R r.1 r.2)) (fun r=>H9 T0 w0 (Q50 a2 a3 a4 a5 a6 b1 oo1 n2 c2 n3 c3 n4 c4 n5 c5 n6 c6 Z5 H1 g pv1 r1 r2 R r.1.pos r.1.e r.2))):=by
 intro r hm;refine eN Tryz.func67 Tryz.ntmps67 fun J=>?_;unfold O1 at hm;refine sq2 (bX (Y1z p1 a7 c7 a8 c8) hS ?_);intro _ E _ ag;refine kA ?_;refine cP cf73 hm (I6 (ag.bE [0,1] (Z3 2 10)) Z2 hL1) ?_ ?_
 . exact zk
 rintro y1 _ T1 w2 _ ⟨_,_,c9,rfl,ak,_⟩ hm;refine kC ?_;refine lpJ hm (fun V W m a w3=>∃T2 K ac n8 c10 O D,JR (nf 44) g T1 w2 a w3 T2 (X5 V m (O,D,K)=some W) [(0,pt Y0 Z9),(3,pt E 0),(5,iv O),(6,iv D)] ([K0 E (Y1z p1 a7 c7 a8 c8),Y7 R]++X6 ({y1.2 with t:=K}) Z5 H1 b1 oo1 ac n8 c10 a2 n2 c2 a3 n3 c3 a4 n4 c4 r1 r2 a5 n5 c5 a6 n6 c6 pv1)) (fun _ _ h=>je h (ak.sN 0 12)) ?_;rintro V am W ae _ _ w3 ⟨T2,K,ac,n8,c10,O,D,J,an,rfl,af,_⟩;obtain⟨m1,_,rfl,hm,U⟩:=lrE an am;refine sq2 (sq2 (cd hm ?_ ?_))<;>intro aw hm
 . refine kE ?_;refine blk (sq2 (rsS [0,0,0,1,0,0,1,0,0,1,0,2,0,0,0,0,0] [0,1,2,3,4,5,6,7,8,9,10,11,12,13,14,15,16] af fun w4 ay ao=>?_));obtain⟨u1,_,hm⟩:=Z8 hm;obtain⟨y2,aq,hm⟩:=Z8 hm;refine sS [] cf98 (Z1b (ao.bE ([0,1,2]++Z3 5 7) [3,4]) hL1 _ aq) ?_;rintro _ _ _ _ ⟨_,_,c11,rfl,ar,_⟩;refine kA ?_;refine cP cf66 hm (Q2g (ar.bE (Z3 0 12) [])) ?_ ?_
   . rintro e1 _ _ _ _ ⟨rfl,au,_⟩ hm;have hm:=Q1b hm U ae;exact pe hm (au.sE ([1,2,10,11]++Z3 3 7))
   rintro _ _ _ _ _ ⟨rfl,av,_⟩ hm;refine nil (Y6u (pu ?_));exact nil (t_blk (K7 [(0,pt Y0 Z9),(3,pt E 0),(5,iv y2.1),(6,iv D)] ⟨rfl,rfl,rfl,rfl,qZt⟩ fun J=>lg hm U (av.sE ([0,1,2,10,11]++Z3 3 7))))
 have hm:=Q4m hm U ae;exact zr hm af

instance:Ct 67 @Q7q:=⟨@Q7q,cf67⟩
theorem Z4y{p0:K9}(hS:Sep g T0 w0 [Y7 R]):∀r,Z1q p0=some r->
 Cl 141 #[Q105 p0] w0 (Q25 T0 w0 g R r):=by
 intro r hm;refine eN Tryz.func141 Tryz.ntmps141 fun J=>?_;unfold Z1q at hm;exact zr hm hS

instance:Ct 141 @Z4y:=⟨@Z4y,cf141⟩
theorem Z3c{p0:List K9}(hS:Sep g T0 w0 [Y7 R])(h1:Q74 a1 c1 T0 w0 p0):∀r,Q5d p0=some r->
 Cl 171 #[sv a1 p0 c1,.func (.func 141) #[] #[]] w0 (Q38 T0 w0 g R r):=by
 intro r hm;refine eN Tryz.func171 Tryz.ntmps171 fun J=>?_;unfold Q5d at hm;refine qN ?_;refine sq2 (qN ?_);refine lpJ hm (fun E K m a O=>∃U D,JR (nf 19) g T0 w0 a O U (X5 E m D=some K) [(0,sv a1 p0 c1),(1,.func (.func 141) #[] #[]),(7,iv (qQ p0:Int)),(8,iv D)] [Y7 R]) (fun _ _ h=>je h (hS.sE [0])) ?_;rintro E V K _ _ _ O ⟨U,D,J,W,rfl,aa,_⟩;obtain⟨m1,_,rfl,hm,_⟩:=lrE W V;exact zr hm aa

instance:Ct 171 @Z3c:=⟨@Z3c,cf171⟩
theorem Q8h{p0:List K9}(hS:Sep g T0 w0 [Y7 R])(h1:Q74 a1 c1 T0 w0 p0):∀r,Q7z p0=some r->
 Cl 140 #[sv a1 p0 c1,.func (.func 141) #[] #[]] w0 (Q25 T0 w0 g R r):=by
 intro r hm;refine eN Tryz.func140 Tryz.ntmps140 fun J=>?_;unfold Q7z at hm;exact zr hm hS

instance:Ct 140 @Q8h:=⟨@Q8h,Y7v⟩
theorem Z4x{p0:K9}{p1:Z7}(hS:Sep g T0 w0 (Q61 a1 b1 oo1 n1 c1 L4 H1 R p1.list))(Z1d:Ln Q0f Q0e L4)(hL1:Ln b1 oo1 H1):∀r,Z1p p0 p1=some r->
 Cl 142 #[Q105 p0,pt Q0f Q0e] w0 (Q58 a1 b1 oo1 n1 c1 L4 H1 T0 w0 g R r p1.list):=by
 intro r hm;refine eN Tryz.func142 Tryz.ntmps142 fun J=>?_;unfold Z1p at hm;exact zr hm hS

instance:Ct 142 @Z4x:=⟨@Z4x,cf142⟩
theorem Z3b{p0:List K9}{p1:Z7}(hS:Sep g T0 w0 (Q61 a2 b1 oo1 n1 c2 L4 H1 R p1.list))(h1:Q74 a1 c1 T0 w0 p0)(Z1d:Ln Q0f Q0e L4)(hL1:Ln b1 oo1 H1):∀r,Q5c p0 p1=some r->
 Cl 171 #[sv a1 p0 c1,.func (.func 142) #[] #[pt Q0f Q0e]] w0 (K6 T0 w0 fun T w v=>v=iv r/\Sep g T w (R++[L4 [pt b1 oo1],H1 [.slice a2 n1 c2],Q12 a2 n1 c2 p1.list])/\True):=by
 intro r hm;refine eN Tryz.func171 Tryz.ntmps171 fun J=>?_;unfold Q5c at hm;refine qN ?_;refine sq2 (qN ?_);refine lpJ hm (fun E K m a O=>∃U D,JR (nf 19) g T0 w0 a O U (X5 E m D=some K) [(0,sv a1 p0 c1),(1,.func (.func 142) #[] #[pt Q0f Q0e]),(7,iv (qQ p0:Int)),(8,iv D)] (Q61 a2 b1 oo1 n1 c2 L4 H1 R p1.list)) (fun _ _ h=>je h (hS.sN 0 4)) ?_;rintro E V K _ _ _ O ⟨U,D,J,W,rfl,aa,_⟩;obtain⟨m1,_,rfl,hm,_⟩:=lrE W V;exact zr hm aa

instance:Ct 171 @Z3b:=⟨@Z3b,cf171⟩
theorem Q6c{p0:List K9}{p1:Z7}(hS:Sep g T0 w0 (Q61 a2 b1 oo1 n1 c2 L4 H1 R p1.list))(h1:Q74 a1 c1 T0 w0 p0)(Z1d:Ln Q0f Q0e L4)(hL1:Ln b1 oo1 H1):∀r,Q5r p0 p1=some r->
 Cl 140 #[sv a1 p0 c1,.func (.func 142) #[] #[pt Q0f Q0e]] w0 (Q58 a2 b1 oo1 n1 c2 L4 H1 T0 w0 g R r p1.list):=by
 intro r hm;refine eN Tryz.func140 Tryz.ntmps140 fun J=>?_;unfold Q5r at hm;exact zr hm hS

instance:Ct 140 @Q6c:=⟨@Q6c,Y7v⟩
theorem V9{p0:Z7}{p1}(hS:Q37 a1 n1 c1 Z5 T0 g w0 R p0.list)(Z2:Ln Y0 Z9 Z5):∀r,K2 p0 p1=some r->
 Cl 104 #[pt Y0 Z9,iv p1] w0 (K6 T0 w0 fun T w v=>v=iv r/\Q31 a1 n1 c1 Z5 T g w R p0.list):=by
 intro r hm;refine eN Tryz.func104 Tryz.ntmps104 fun J=>?_;unfold K2 at hm;exact zr hm hS

instance:Ct 104 @V9:=⟨@V9,Z1v⟩
theorem Z4w{p0:K9}{p1:Z7}(hS:Sep g T0 w0 (Q61 a1 b1 oo1 n1 c1 L4 H1 R p1.list))(Z1d:Ln Q0f Q0e L4)(hL1:Ln b1 oo1 H1):∀r,Z1o p0 p1=some r->
 Cl 143 #[Q105 p0,pt Q0f Q0e] w0 (Q58 a1 b1 oo1 n1 c1 L4 H1 T0 w0 g R r p1.list):=by
 intro r hm;refine eN Tryz.func143 Tryz.ntmps143 fun J=>?_;unfold Z1o at hm;exact zr hm hS

instance:Ct 143 @Z4w:=⟨@Z4w,cf143⟩
theorem Z3a{p0:List K9}{p1:Z7}(hS:Sep g T0 w0 (Q61 a2 b1 oo1 n1 c2 L4 H1 R p1.list))(h1:Q74 a1 c1 T0 w0 p0)(Z1d:Ln Q0f Q0e L4)(hL1:Ln b1 oo1 H1):∀r,Q5b p0 p1=some r->
 Cl 171 #[sv a1 p0 c1,.func (.func 143) #[] #[pt Q0f Q0e]] w0 (K6 T0 w0 fun T w v=>v=iv r/\Sep g T w (R++[L4 [pt b1 oo1],H1 [.slice a2 n1 c2],Q12 a2 n1 c2 p1.list])/\True):=by
 intro r hm;refine eN Tryz.func171 Tryz.ntmps171 fun J=>?_;unfold Q5b at hm;refine qN ?_;refine sq2 (qN ?_);refine lpJ hm (fun E K m a O=>∃U D,JR (nf 19) g T0 w0 a O U (X5 E m D=some K) [(0,sv a1 p0 c1),(1,.func (.func 143) #[] #[pt Q0f Q0e]),(7,iv (qQ p0:Int)),(8,iv D)] (Q61 a2 b1 oo1 n1 c2 L4 H1 R p1.list)) (fun _ _ h=>je h (hS.sN 0 4)) ?_;rintro E V K _ _ _ O ⟨U,D,J,W,rfl,aa,_⟩;obtain⟨m1,_,rfl,hm,_⟩:=lrE W V;exact zr hm aa

instance:Ct 171 @Z3a:=⟨@Z3a,cf171⟩
theorem Q6b{p0:List K9}{p1:Z7}(hS:Sep g T0 w0 (Q61 a2 b1 oo1 n1 c2 L4 H1 R p1.list))(h1:Q74 a1 c1 T0 w0 p0)(Z1d:Ln Q0f Q0e L4)(hL1:Ln b1 oo1 H1):∀r,Q5q p0 p1=some r->
 Cl 140 #[sv a1 p0 c1,.func (.func 143) #[] #[pt Q0f Q0e]] w0 (Q58 a2 b1 oo1 n1 c2 L4 H1 T0 w0 g R r p1.list):=by
 intro r hm;refine eN Tryz.func140 Tryz.ntmps140 fun J=>?_;unfold Q5q at hm;exact zr hm hS

instance:Ct 140 @Q6b:=⟨@Q6b,Y7v⟩
theorem Z4v{p0:K9}{p1:K9}(hS:Sep g T0 w0 [Y7 R,L4 (Z2j p1)])(Z1d:Ln Q0f Q0e L4):∀r,Z1n p0 p1=some r->
 Cl 144 #[Q105 p0,pt Q0f Q0e] w0 (K6 T0 w0 fun T w v=>v= .bool r/\Sep g T w (R++[L4 (Z2j p1)])/\True):=by
 intro r hm;refine eN Tryz.func144 Tryz.ntmps144 fun J=>?_;unfold Z1n at hm;exact zr hm hS

instance:Ct 144 @Z4v:=⟨@Z4v,cf144⟩
theorem Z2z{p0:List K9}{p1:K9}(hS:Sep g T0 w0 [Y7 R,L4 (Z2j p1)])(h1:Q74 a1 c1 T0 w0 p0)(Z1d:Ln Q0f Q0e L4):∀r,Q5a p0 p1=some r->
 Cl 171 #[sv a1 p0 c1,.func (.func 144) #[] #[pt Q0f Q0e]] w0 (K6 T0 w0 fun T w v=>v=iv r/\Sep g T w (R++[L4 (Z2j p1)])/\True):=by
 intro r hm;refine eN Tryz.func171 Tryz.ntmps171 fun J=>?_;unfold Q5a at hm;refine qN ?_;refine sq2 (qN ?_);refine lpJ hm (fun E K m a O=>∃U D,JR (nf 19) g T0 w0 a O U (X5 E m D=some K) [(0,sv a1 p0 c1),(1,.func (.func 144) #[] #[pt Q0f Q0e]),(7,iv (qQ p0:Int)),(8,iv D)] [Y7 R,L4 (Z2j p1)]) (fun _ _ h=>je h (hS.sE [0,1])) ?_;rintro E V K _ _ _ O ⟨U,D,J,W,rfl,aa,_⟩;obtain⟨m1,_,rfl,hm,_⟩:=lrE W V;exact zr hm aa

instance:Ct 171 @Z2z:=⟨@Z2z,cf171⟩
theorem Z1t{p0:List K9}{p1:K9}(hS:Sep g T0 w0 [Y7 R,L4 (Z2j p1)])(h1:Q74 a1 c1 T0 w0 p0)(Z1d:Ln Q0f Q0e L4):∀r,Q1h p0 p1=some r->
 Cl 140 #[sv a1 p0 c1,.func (.func 144) #[] #[pt Q0f Q0e]] w0 (K6 T0 w0 fun T w v=>v= .bool r/\Sep g T w (R++[L4 (Z2j p1)])/\True):=by
 intro r hm;refine eN Tryz.func140 Tryz.ntmps140 fun J=>?_;unfold Q1h at hm;exact zr hm hS

instance:Ct 140 @Z1t:=⟨@Z1t,Y7v⟩
theorem Z2n{p0:Z7}{p1:List K9}(hS:Q37 a1 n1 c1 Z5 T0 g w0 R p0.list)(Z2:Ln Y0 Z9 Z5)(h1:Q74 a2 c2 T0 w0 p1):∀r,Z1a p0 p1=some r->
 Cl 99 #[pt Y0 Z9,sv a2 p1 c2] w0 (K6 T0 w0 fun T w v=>v=iv r/\Q31 a1 n1 c1 Z5 T g w R p0.list):=by
 intro r hm;refine eN Tryz.func99 Tryz.ntmps99 fun J=>?_;unfold Z1a at hm;refine sq2 (bX [pt Y0 Z9] hS ?_);intro _ D _ K;refine kE ?_;refine blk (qU ?_)
 rcases bc hm with⟨ad,hm⟩|⟨ad,hm⟩
 . exact zr hm K
 refine pu ?_;refine cB Y7v hm (Q8h (K.bE (Z3 0 4) []) (mC h1)) ?_;rintro _ _ _ _ _ ⟨rfl,O,_⟩ hm;refine cd hm ?_ ?_<;>intro aj hm
 . exact sq2 (re hm (O.sE [1,2,3]))
 refine qU ?_;refine pv (Y4d (u:= .func (.func 142) #[] #[pt D 0]) rfl) (cB Y7v hm (Q6c (O.bE [1] [0,2,3]) (mC h1) (Q3w D) Z2) ?_);rintro _ _ _ _ _ ⟨rfl,U,_⟩ hm;refine cd hm ?_ ?_<;>intro ak hm
 . exact sq2 (re hm (U.sE [0,2,3]))
 refine qU ?_;refine pv (Y4d (u:= .func (.func 143) #[] #[pt D 0]) rfl) (cB Y7v hm (Q6b (U.bE [0] [1,2,3]) (mC h1) (Q3w D) Z2) ?_);rintro _ _ T3 w4 _ ⟨rfl,V,_⟩ hm;refine cd hm ?_ ?_<;>intro am hm
 . exact sq2 (re hm (V.sE [0,2,3]))
 refine kC ?_;refine lpJ hm (fun W o1 m a w5=>∃T4 E,JR (nf 36) g T3 w4 a w5 T4 (X5 W m E=some o1) [(1,sv a2 p1 c2),(23,sv a2 p1 c2),(24,iv (qQ p1:Int)),(25,iv E)] [Y7 R,Q94 a1 n1 c1 Z5,Q12 a1 n1 c1 p0.list]) (fun _ _ h=>je h (V.sE [0,2,3])) ?_;rintro W ag o1 _ _ _ w5 ⟨T4,E,J,ah,rfl,ai,_⟩;obtain⟨m1,_,rfl,hm,_⟩:=lrE ah ag;exact zr hm ai

instance:Ct 99 @Z2n:=⟨@Z2n,cf99⟩
theorem Z4c{p0:List K9}(hS:Sep g T0 w0 [Y7 R])(h1:Q74 a1 c1 T0 w0 p0):∀r,Z1i p0=some r->
 Cl 100 #[sv a1 p0 c1] w0 (K6 T0 w0 fun T w v=>∃a4 n3 c4,v= .slice a4 n3 c4/\Sep g T w (R++[J6 Q2z 178 (.slice a4 n3 c4) r])/\True):=by
 intro r hm;refine eN Tryz.func100 Tryz.ntmps100 fun J=>?_;unfold Z1i at hm;refine qN ?_;refine sq2 (qU ?_);refine pv (r_sne rfl rfl rfl underlying119) (pn ?_)
 rcases SlR.nilOr h1 with⟨D,E⟩|D
 . subst D;subst E;have hm:some []=some r:=hm;refine cnd (b:=true) rfl (fun _=>?_) (fun h=>nomatch h);refine qN ?_;have K:=hS.nilO Q2z 178;exact re hm (K.sE [1,0])
 refine cnd rfl (fun h=>absurd (h.symm.trans D) (fun h=>nomatch h)) (fun _=>pn ?_);refine qU ?_;refine wl rfl (bs0S Q2z hS underlying119 sizeOf178 fun W a2 n1 c2 ac O=>?_);obtain⟨_,U,hm⟩:=Z8 hm;refine pu ?_;exact wl rfl (apO (q:=0) (l:=([]:List K9)) (us:=p0) O ⟨rfl,rfl⟩ rfl rfl (mC h1).v underlying119 el178 (U8 U) fun w2 a3 n2 c3 ag V=>re hm (V.sE [1,0]))

instance:Ct 100 @Z4c:=⟨@Z4c,cf100⟩
theorem Q2e{p0:Z7}{p1}(hS:Q37 a1 n1 c1 Z5 T0 g w0 R p0.list)(Z2:Ln Y0 Z9 Z5):∀r,Q1r p0 p1=some r->
 Cl 103 #[pt Y0 Z9,iv p1] w0 (K6 T0 w0 fun T w v=>v=iv r/\Q31 a1 n1 c1 Z5 T g w R p0.list):=by
 intro r hm;refine eN Tryz.func103 Tryz.ntmps103 fun J=>?_;unfold Q1r at hm;exact zr hm hS

instance:Ct 103 @Q2e:=⟨@Q2e,cf103⟩
theorem Z4u{p0 p1}(hS:Sep g T0 w0 [Y7 R]):∀r,Z8u p0 p1=some r->
 Cl 102 #[iv p0,iv p1] w0 (Q38 T0 w0 g R r):=by
 intro r hm;refine eN Tryz.func102 Tryz.ntmps102 fun J=>?_;unfold Z8u at hm;exact zr hm hS

instance:Ct 102 @Z4u:=⟨@Z4u,cf102⟩
theorem Q8m{p0:K9}{p1}{p2:Z7}{p3}(hS:Sep g T0 w0 [Y7 R,Z5 (Z2j p0),L4 [iv p1],Z5m [pt b1 oo1],H1 [.slice a1 n1 c1],Q12 a1 n1 c1 p2.list,Z5l [iv p3]])(Z2:Ln Y0 Z9 Z5)(Z1d:Ln Q0f Q0e L4)(hL_p2:Ln Z7g Z7a Z5m)(hL1:Ln b1 oo1 H1)(hL_p3:Ln Z7f Z6z Z5l):∀r,Q3x p0 p1 p2 p3=some r->
 Cl 101 #[pt Y0 Z9,pt Q0f Q0e,pt Z7g Z7a,pt Z7f Z6z] w0 (K6 T0 w0 fun T w v=>v= .bool r.1/\Sep g T w (R++[Z5 (Z2j r.2.1),L4 [iv r.2.2.1],Z5m [pt b1 oo1],H1 [.slice a1 n1 c1],Q12 a1 n1 c1 p2.list,Z5l [iv r.2.2.2]])/\True):=by
 intro r hm;refine eN Tryz.func101 Tryz.ntmps101 fun J=>?_;unfold Q3x at hm;refine qN ?_;refine sq2 (rsS [0,1,1,0,0,0,1,2,2,0,0,2] [0,1,2,3,4,5,6,7,8,9,10,11] hS fun w1 aj D=>?_);obtain⟨_,E,hm⟩:=Z8 hm;refine sS [(1,iv p1)] cf103 (Q2e (D.bE [0,1,2,3,6] [4,5]) hL1 _ E) ?_;rintro _ _ _ _ ⟨rfl,K,_⟩;refine pu ?_;obtain⟨O,U,hm⟩:=Z8 hm;refine sS [] cf102 (Z4u (K.bE (Z3 0 7) []) _ U) ?_;rintro _ _ _ _ ⟨rfl,V,_⟩;refine s2W [] ?_;refine osB 1 2 Z2 V ?_;intro _ _ W;refine kE ?_;refine rsS [0,0,0,1,1,0,0,0,1,2,0,2] [0,1,2,3,4,5,6,7,8,9,10,11] W fun w5 am aa=>?_;obtain⟨_,ab,hm⟩:=Z8 hm;refine sS [(3,iv O)] Z1v (V9 (aa.bE (Z3 0 5) [5,6]) hL1 _ ab) ?_;rintro _ _ _ _ ⟨rfl,ac,_⟩;refine s2W [0] ?_;refine osB 2 0 Z1d ac ?_;intro _ _ ad;refine kE ?_;refine rsS [1,1,0,0,0,1,2,0,2] [0,1,2,3,4,5,6,7,8] ad fun w8 ao ae=>?_;obtain⟨_,af,hm⟩:=Z8 hm;refine sS [(0,iv p3)] cf103 (Q2e (ae.bE (Z3 0 5) [5,6]) hL1 _ af) ?_;rintro _ _ _ _ ⟨rfl,ag,_⟩;refine pu ?_;refine s0 rfl qZt (fun _=>r_imx rfl rfl) rfl (s2W [0] ?_);refine osB 4 0 hL_p3 ag ?_;intro _ _ ah;refine pu ?_;exact se (K7 [(1,pt Q0f Q0e)] ⟨rfl,qZt⟩ fun J=>sq2 (re hm (ah.sE [0,1,2,3,5,6,4])))

instance:Ct 101 @Q8m:=⟨@Q8m,cf101⟩
theorem Z0e{p0:Z7}{p1:List UInt8}{p2:List K9}(hS:Q37 a1 n1 c1 Z5 T0 g w0 R p0.list)(Z2:Ln Y0 Z9 Z5)(h1:Q74 a2 c2 T0 w0 p2):∀r,Q6w p0 p1 p2=some r->
 Cl 68 #[pt Y0 Z9,Q23 p1.toArray,sv a2 p2 c2] w0 (K6 T0 w0 fun T w v=>v= .tuple #[iv r.1,iv r.2.1]/\Q31 a1 n1 c1 Z5 T g w R r.2.2.list):=by
 intro r hm;refine eN Tryz.func68 Tryz.ntmps68 fun J=>?_;unfold Q6w at hm;refine sq2 (bX [pt Y0 Z9] hS ?_);intro _ D _ aB;refine kB ?_;refine pv (Y5t rfl rfl rfl underlying78) (pn ?_);refine cnd (b:=false) rfl (fun h=>nomatch h) (fun _=>pn ?_);refine qU ?_;refine cB cf96 hm (Z0z (aB.bE [0,1] [2,3]) Z2) ?_;rintro y1 _ _ _ _ ⟨rfl,ab,_⟩ hm;refine kB ?_
 rcases bc hm with⟨aC,hm⟩|⟨aC,hm⟩
 . exact zr hm ab
 obtain⟨u1,am,hm⟩:=Z8 hm;obtain⟨cs1,aD,_⟩:=(ab.own (i:=3) ⟨rfl,rfl⟩).v.ixcS am rfl;obtain⟨_,c3,rfl,h2⟩:=A8 aD;refine cd hm ?_ ?_<;>intro bA hm
 . exact zr hm ab
 refine kB ?_;refine cB cf99 hm (Z2n (ab.bE [0,1] [2,3]) Z2 (mC h1)) ?_;rintro y2 _ _ _ _ ⟨rfl,an,_⟩ hm;refine pu ?_;refine nil (K7 [(2,sv a2 p2 c2),(3,pt D 0),(8,iv y1),(9,iv y2)] ⟨rfl,rfl,rfl,rfl,qZt⟩ fun J=>?_);refine sq2 (cd hm ?_ ?_)<;>intro bB hm
 . exact sq2 (re hm (an.sE [1,2,3]))
 refine kA ?_;refine cB cf100 hm (Z4c (an.bE (Z3 0 4) []) (mC h1)) ?_;rintro y3 _ T3 _ _ ⟨a4,n2,c4,rfl,aI,_⟩ hm;refine kE ?_;refine aL [iv 0] aI ?_;intro _ O _ aJ;refine aL [iv 0] aJ ?_;intro _ U _ aK;refine sT 1 aK ?_;intro _ _ aM;refine sT 0 aM ?_;intro w8 _ aP;refine kA ?_;refine pv (Y4d (u:= .func (.func 101) #[] #[pt O 0,pt D 0,pt U 0]) rfl) (pv (r_zf rfl) (pn ?_));refine sq2 (qN ?_);refine lpJ hm (fun ao o1 m a w9=>∃T4 x4 V E W,JR (nf 84) g T3 w8 a w9 T4 (X5 ao m (E,W,V,x4)=some o1) [(3,pt D 0),(8,iv y1),(10,.slice a4 n2 c4),(11,pt O 0),(12,pt U 0),(13,.func (.func 101) #[] #[pt O 0,pt D 0,pt U 0]),(44,iv (qQ y3:Int)),(45,iv W)] [K0 U [iv V],K0 O [iv x4],K0 D [pt Y0 Z9],Y7 R,Q94 a1 n1 c1 Z5,Q12 a1 n1 c1 p0.list,J6 Q2z 178 (.slice a4 n2 c4) E]) (fun _ _ h=>je h (aP.sN 0 7)) ?_;rintro ao aQ o1 au _ _ w9 ⟨T4,x4,V,E,W,J,aR,rfl,ag,_⟩;obtain⟨m1,_,rfl,hm,ah⟩:=lrE aR aQ;refine qN ?_;refine sq2 (cd hm ?_ ?_)<;>intro bC hm
 . refine kE ?_;refine blk (qN ?_);refine sq2 ?_;obtain⟨u2,aT,hm⟩:=Z8 hm;refine pu ?_;obtain⟨u3,ai,hm⟩:=Z8 hm;obtain rfl:u2=u3:=oI (aT.symm.trans ai);obtain⟨cs2,aV,aW⟩:=ag.focus (q:=6) ⟨rfl,rfl⟩ ai;cases Z5i aV;obtain⟨_,k2,cp2,hv2,_,_,aX,_⟩:=(ag.own (i:=6) ⟨rfl,rfl⟩).v.ixc ai rfl;refine cB cf101 hm (Q8m (Z5:=Z6e Q2z 178 (.slice a4 n2 c4) E (Int.toNat W)) (aW.bE [3] [6,1,2,4,5,0]) (Q0h hv2 aX) (Q3w O) (Q3w D) Z2 (Q3w U)) ?_;rintro y4 _ T5 aZ _ ⟨rfl,ba,_⟩ hm;have av:Sep g T5 aZ [Y7 R,J6 Q2z 178 (.slice a4 n2 c4) (List.set E (Int.toNat W) y4.2.1),K0 O [iv y4.2.2.1],K0 D [pt Y0 Z9],Z5 [.slice a1 n1 c1],J6 M2 123 (.slice a1 n1 c1) p0.list,K0 U [iv y4.2.2.2]]:=ba.unfocus (q:=1) (u:=y4.2.1) ⟨rfl,rfl⟩ (Y3h (x:=y4.2.1):Q2z.rp _ _ _ _);refine cd hm ?_ ?_<;>intro bD hm
   . refine qN ?_;have hm:=Q1b hm ah au;exact re hm (av.sE [0,4,5])
   exact lg hm ah (av.sE [6,2,3,0,4,5,1])
 have hm:=Q4m hm ah au;refine kB ?_;refine cB cf102 hm (Z4u (ag.bE (Z3 0 7) [])) ?_;rintro _ _ _ _ _ ⟨rfl,aj,_⟩ hm;refine cd hm ?_ ?_<;>intro bF hm
 . exact sq2 (re hm (aj.sE [3,4,5]))
 refine pn ?_;refine sq2 ?_;obtain⟨u4,ak,hm⟩:=Z8 hm;obtain rfl:u1=u4:=oI (am.symm.trans ak);obtain⟨cs3,bf,_⟩:=(aj.own (i:=5) ⟨rfl,rfl⟩).v.ixcS ak rfl;obtain⟨_,c5,rfl,_⟩:=A8 bf;refine kE ?_;refine rsS [0,0,0,0,0,1,1,2,1,0,0,0,2,0,0,2,0,0,2,0,0,2] [0,1,2,3,4,5,6,8,7,9,10,11,12,13,14,15,16,17,18,19,20,21] aj fun bG bI bg=>?_;obtain⟨y6,bh,hm⟩:=Z8 hm;refine sS [(8,iv V)] cf102 (Z4u (bg.bE [3,4,5,6,0,1] []) _ bh) ?_;rintro _ T7 _ _ ⟨rfl,bi,_⟩;refine pu ?_;obtain⟨_,_,bj,h4,rfl⟩:=bi.sl 3;obtain⟨u5,ax,hm⟩:=Z8 hm;obtain rfl:u1=u5:=oI (ak.symm.trans ax);refine s2W [] ?_;refine Y0x (q:=2) (j:=4) (u':={u1 with Type_:={u1.Type_ with Fields:=E}}) bj ⟨rfl,rfl⟩ ax rfl rfl rfl sizeOf119 rfl rfl rfl (fun c0 K=>by obtain⟨a6,c6,rfl,h5⟩:=A8 K;exact(Q1v (x:={u1 with Type_:={u1.Type_ with Fields:=E}}) h4:M2.rp _ _ _ _)) fun bL bM bm=>?_;refine pu ?_;obtain⟨u6,bn,hm⟩:=Z8 hm;refine s2W [] ?_;refine Y0x (q:=2) (j:=5) (u':={u6 with size:=y6}) bm ⟨rfl,rfl⟩ bn rfl rfl rfl sizeOf3 rfl rfl rfl (fun c0 K=>by obtain⟨a7,c7,rfl,h6⟩:=A8 K;exact(Q1v (x:={u6 with size:=y6}) h6:M2.rp _ _ _ _)) fun bO bP bp=>?_;refine pu ?_;obtain⟨u7,bq,hm⟩:=Z8 hm;refine s2W [0] ?_;refine Y0x (q:=2) (j:=6) (u':={u7 with align:=V}) bp ⟨rfl,rfl⟩ bq rfl rfl rfl sizeOf3 rfl rfl rfl (fun c0 K=>by obtain⟨a8,c8,rfl,h7⟩:=A8 K;exact(Q1v (x:={u7 with align:=V}) h7:M2.rp _ _ _ _)) fun bR bT bu=>?_;refine pu ?_;obtain⟨u8,bv,hm⟩:=Z8 hm;refine s2W [] ?_;refine Y0x (q:=2) (j:=7) (u':={u8 with open_:=false}) bu ⟨rfl,rfl⟩ bv rfl rfl rfl sizeOf4 rfl rfl rfl (fun c0 K=>by obtain⟨a9,c9,rfl,h8⟩:=A8 K;exact(Q1v (x:={u8 with open_:=false}) h8:M2.rp _ _ _ _)) fun bV bW bz=>?_;refine pu ?_;exact se (K7 [(8,iv y1)] ⟨rfl,qZt⟩ fun J=>sq2 (re hm (bz.sE [0,1,2])))

instance:Ct 68 @Z0e:=⟨@Z0e,cf68⟩
theorem Q6d{p0:Q0}{p1:List Q3k}(hS:Q28 a1 a2 a3 a4 a5 a6 b1 oo1 n1 c1 n2 c2 n3 c3 n4 c4 n5 c5 n6 c6 Z5 H1 T0 g w0 pv1 r1 r2 R p0)(Z2:Ln Y0 Z9 Z5)(hL1:Ln b1 oo1 H1)(h1:SlR Q9t T0 w0 (sv a7 p1 c7) p1):∀r,Q1k p0 p1=some r->
 Cl 34 #[pt Y0 Z9,sv a7 p1 c7] w0 (exR r (fun r=>K6 T0 w0 fun T w v=>∃a21 n16 c21,v= .tuple #[]/\Q22 a21 a2 a3 a4 a5 a6 b1 oo1 n16 c21 n2 c2 n3 c3 n4 c4 n5 c5 n6 c6 Z5 H1 T g w pv1 r1 r2 R r) (fun r=>H9 T0 w0 (Q50 a2 a3 a4 a5 a6 b1 oo1 n2 c2 n3 c3 n4 c4 n5 c5 n6 c6 Z5 H1 g pv1 r1 r2 R r.1.pos r.1.e r.2))):=by
 intro r hm;refine eN Tryz.func34 Tryz.ntmps34 fun J=>?_;unfold Q1k at hm;refine sq2 (qN ?_);refine lpJ hm (fun E K m a w1=>∃T1 x3 a8 n7 c8 x2,JR (nf 75) g T0 w0 a w1 T1 (X5 E m (x2,x3)=some K) [(0,pt Y0 Z9),(1,sv a7 p1 c7),(15,sv a7 p1 c7),(16,iv (qQ p1:Int)),(17,iv x2)] ([Y7 R]++X6 ({p0 with t:=x3}) Z5 H1 b1 oo1 a8 n7 c8 a2 n2 c2 a3 n3 c3 a4 n4 c4 r1 r2 a5 n5 c5 a6 n6 c6 pv1)) (fun _ _ h=>je h (hS.sN 0 11)) ?_;rintro E af K ag _ _ w1 ⟨T1,x3,a8,n7,c8,x2,J,ah,rfl,ai,_⟩;obtain⟨m1,z1,rfl,hm,O⟩:=lrE ah af;refine qN ?_;refine sq2 (cd hm ?_ ?_)<;>intro bI hm
 . refine kE ?_;refine blk (sq2 ?_);obtain⟨u1,aQ,hm⟩:=Z8 hm;obtain⟨cs1,aR,_,hT1⟩:=ixS ai aQ h1;obtain⟨_,c9,rfl,h2⟩:=Z4n aR;refine aL zv14 ai ?_;intro _ _ _ aS;refine sT 0 aS ?_;intro _ _ aT;refine kE ?_;refine rsS [0,0,0,1,0,1,2,0,0,0,0,0] [0,1,2,3,4,5,6,7,8,9,10,11] aT fun w4 bK aU=>?_;obtain⟨_,aV,hm⟩:=Z8 hm;refine sS [] cf65 (Z1y (aU.bE ([0,1,2]++Z3 5 7) [3,4]) hL1 _ aV) ?_;rintro _ _ _ _ ⟨_,_,c10,rfl,aW,_⟩;refine pn ?_;refine cP cf66 hm (Q2g (aW.bE (Z3 1 11) [])) ?_ ?_
   . have dd:KD [(6,[3,5])]:=⟨qZt⟩;exact zk
   rintro _ _ _ _ _ ⟨rfl,aX,_⟩ hm;exact lg hm O (aX.sE ([0,1,9,10]++Z3 2 7))
 have hm:=Q4m hm O ag;refine kD ?_;refine lpJ hm (fun E K m a w8=>∃T5 ak am aA n9 c11 V,JR (nf 75) g T1 w1 a w8 T5 (X5 E m (V,am,ak)=some K) [(0,pt Y0 Z9),(36,sv a7 p1 c7),(37,iv (qQ p1:Int)),(38,iv V)] ([Y7 R]++X6 ({am with t:=ak}) Z5 H1 b1 oo1 aA n9 c11 a2 n2 c2 a3 n3 c3 a4 n4 c4 r1 r2 a5 n5 c5 a6 n6 c6 pv1)) (fun _ _ h=>je h (ai.sN 0 11)) ?_;rintro E af K ag _ _ w8 ⟨T5,ak,am,aA,n9,c11,V,J,ah,rfl,an,_⟩;obtain⟨m1,z1,rfl,hm,O⟩:=lrE ah af;refine qN ?_;refine sq2 (cd hm ?_ ?_)<;>intro bL hm
 . refine kE ?_;refine blk (sq2 ?_);obtain⟨u3,aY,hm⟩:=Z8 hm;obtain⟨cs2,aZ,_,hT2⟩:=ixS an aY h1;obtain⟨aC,c12,rfl,h3⟩:=Z4n aZ;refine aL zv14 an ?_;intro _ b5 _ be;refine sT 0 be ?_;intro bf _ bg;refine kD ?_;refine sq2 (qN ?_);have bh:=bg.nilO Q2z 178;refine lpJ hm (fun aE o2 m a aG=>∃T6 W aa ap aq ar c13 aJ aK c14 au,JR (nf 75) g T5 bf a aG T6 (X5 aE m (ap,au,aa,W)=some o2) [(0,pt Y0 Z9),(9,pt b5 0),(10,.slice aq ar c13),(36,sv a7 p1 c7),(37,iv (qQ p1:Int)),(38,iv V),(43,sv aC u3.Fields c12),(44,iv (qQ u3.Fields:Int)),(45,iv au)] ([J6 Q2z 178 (.slice aq ar c13) ap,K0 b5 (X2u u3 aC c12),Y7 R]++X6 ({aa with t:=W}) Z5 H1 b1 oo1 aJ aK c14 a2 n2 c2 a3 n3 c3 a4 n4 c4 r1 r2 a5 n5 c5 a6 n6 c6 pv1)) (fun _ _ h=>je h (bh.sN 0 13)) ?_;rintro aE bi o2 bj _ _ aG ⟨T6,W,aa,ap,aq,ar,c13,aJ,aK,c14,au,J,bk,rfl,av,_⟩;obtain⟨_,_,rfl,hm,aM⟩:=lrE bk bi;refine qN ?_;refine sq2 (cd hm ?_ ?_)<;>intro bM hm
   . refine kE ?_;refine blk (sq2 ?_);obtain⟨U,bl,hm⟩:=Z8 hm;obtain⟨cs3,bm,_,hT3⟩:=ixS av bl h3;obtain⟨_,c15,_,c16,rfl,h4,h5⟩:=Z2k bm;refine aL zv4 av ?_;intro _ _ _ bp;refine sT 0 bp ?_;intro _ _ bq;refine pn ?_;refine Z2w [0,0,1,0,1,2,0,2,2,0] [0,1,2,3,4,5,6,7,8,9] bq (R6 (U7 (U7 (R6 (U7 (R6 (U7 (U7 (R6 (C5)))))))))) fun bN bO aN=>pu ?_;obtain⟨D,bt,hm⟩:=Z8 hm
     rcases D with e2|D
     . have dd:KD [(5,[4]),(7,[2,4,5]),(8,[2,4,5,7])]:=⟨qZt⟩;exact zr hm aN
     have hm:=C2 hm;refine sS [(2,(qZs U.Name))] cf67 (Q7q (p0:={aa with t:=W}) (aN.bE [1,2,3,0] (Z3 4 10)) Z2 hL1 (mC h4) (mC h5) _ bt) ?_;rintro _ T7 _ _ ⟨_,_,c17,rfl,bu,_⟩;refine pu ?_;refine s0 rfl qZt (fun _=>F0 (by kernel_rfl) rfl (u:= .agg #[qZs U.Name,iv D.1,iv 0])) rfl (s2W [0] ?_);refine obS (r:=Q2z) (l:=([(⟨U.Name,D.1,0⟩:K9)]:List K9)) (css:=[[Q23 U.Name.toArray,iv D.1,iv 0]]) bu ⟨(Y3h (x:=(⟨U.Name,D.1,0⟩:K9)):Q2z.rp _ _ _ _),qZt⟩ ?_;intro _ _ _ c18 _ bv;refine pu ?_;obtain⟨_,bw,hm⟩:=Z8 hm;refine s2W [] ?_;refine oaO 1 bv (U8 bw) ?_;intro _ _ _ c19 _ bz;exact lg hm aM (bz.sE ([1,2,3]++Z3 5 10))
   have hm:=Q4m hm aM bj;refine kE ?_;refine rsS [0,0,0,1,0,1,0,2,0,0,0,0,0] [0,1,2,3,4,5,6,7,8,9,10,11,12] av fun bP bQ bA=>pu ?_;obtain⟨_,_,bB,h7,rfl⟩:=bA.sl 0;obtain⟨_,bD,hm⟩:=Z8 hm;refine sS [] cf68 (Z0e (bB.bE ([1,2,3]++Z3 6 7) [4,5]) hL1 h7 _ bD) ?_;rintro _ _ _ _ ⟨rfl,bF,_⟩;refine pn ?_;refine cP cf66 hm (Q2g (bF.bE (Z3 1 11) [])) ?_ ?_
   . have dd:KD [(7,[3,5])]:=⟨qZt⟩;exact zk
   rintro _ _ _ _ _ ⟨rfl,bG,_⟩ hm;exact lg hm O (bG.sE ([0,1,9,10]++Z3 2 7))
 have hm:=Q4m hm O ag;have hm:=oI hm;subst hm;refine pn ?_;exact zr hm an

instance:Ct 34 @Q6d:=⟨@Q6d,cf34⟩
theorem Q3f{p0:Q0}{p1:M7}(hS:Q28 a1 a2 a3 a4 a5 a6 b1 oo1 n1 c1 n2 c2 n3 c3 n4 c4 n5 c5 n6 c6 Z5 H1 T0 g w0 pv1 r1 r2 R p0)(Z2:Ln Y0 Z9 Z5)(hL1:Ln b1 oo1 H1)(h1:Q13 a7 c7 T0 w0 p1.Dims)(h2:Q10 a8 c8 T0 w0 p1.Init):∀r,Q0x p0 p1=some r->
 Cl 69 #[pt Y0 Z9,Q107 a7 a8 c7 c8 p1] w0 (exR r (fun r=>K6 T0 w0 (Q100 a2 a3 a4 a5 a6 b1 oo1 n2 c2 n3 c3 n4 c4 n5 c5 n6 c6 Z5 H1 g pv1 r1 r2 R r.1 r.2)) (fun r=>H9 T0 w0 (Q50 a2 a3 a4 a5 a6 b1 oo1 n2 c2 n3 c3 n4 c4 n5 c5 n6 c6 Z5 H1 g pv1 r1 r2 R r.1.pos r.1.e r.2))):=by
 intro r hm;refine eN Tryz.func69 Tryz.ntmps69 fun J=>?_;unfold Q0x at hm;exact zr hm hS

instance:Ct 69 @Q3f:=⟨@Q3f,cf69⟩
theorem Q3h{p0:Q0}{p1:Pos}{p2:List UInt8}(hS:Q28 a1 a2 a3 a4 a5 a6 b1 oo1 n1 c1 n2 c2 n3 c3 n4 c4 n5 c5 n6 c6 Z5 H1 T0 g w0 pv1 r1 r2 R p0)(Z2:Ln Y0 Z9 Z5)(hL1:Ln b1 oo1 H1):∀r,Q3z p0 p1 p2=some r->
 Cl 70 #[pt Y0 Z9,Q49 p1,Q23 p2.toArray,.map r1] w0 (exR r (fun r=>K6 T0 w0 fun T w v=>v= .tuple #[]/\Q22 a1 a2 a3 a4 a5 a6 b1 oo1 n1 c1 n2 c2 n3 c3 n4 c4 n5 c5 n6 c6 Z5 H1 T g w pv1 r1 r2 R r) (fun r=>H9 T0 w0 (Q63 a1 a2 a3 a4 a5 a6 b1 oo1 n1 c1 n2 c2 n3 c3 n4 c4 n5 c5 n6 c6 Z5 H1 g pv1 r1 r2 R r.1.pos r.1.e r.2))):=by
 intro r hm;refine eN Tryz.func70 Tryz.ntmps70 fun J=>?_;unfold Q3z at hm;refine sq2 (bX [iv p1.Line,iv p1.Col] hS ?_);intro _ E _ D;refine kA ?_;refine pv (Z8m (kk:=p2) (u:=0) rfl rfl (D.getA (i:=8) ⟨rfl,rfl⟩) Z2g underlying80 underlying9 zeroValue3 rfl) (pn ?_);refine qU ?_;refine pv (Z8m (kk:=p2) (u:=0) rfl rfl (D.getA (i:=9) ⟨rfl,rfl⟩) Z2g underlying80 underlying9 zeroValue3 rfl) (pn ?_);refine sq2 (blk (qU ?_));refine fkC (d:=34) (c:=(((D3 p0.globals p2).isSome)||((D3 p0.codes p2).isSome))) 2 [(2,(qZs p2)),(3,.map r1),(5,pt E 0)] rfl (fun hk=>zw ((D3 p0.globals p2).isSome) hk) fun J=>?_;refine cd hm ?_ ?_<;>intro U hm
 . exact zr hm D
 refine qU ?_;refine pv (X1u rfl (D.getA (i:=8) ⟨rfl,rfl⟩) underlying80) (cd hm ?_ ?_)<;>intro V hm
 . exact zr hm D
 refine pn ?_;obtain⟨_,K,hm⟩:=Z8 hm;refine pu ?_;refine pv (X1u rfl (D.getA (i:=8) ⟨rfl,rfl⟩) underlying80) (wl rfl (muM (q:=8) (k:=p2) (u:=(Z3w p0.globals:Int)) D ⟨rfl,rfl⟩ K rfl rfl rfl Z2g underlying80 underlying9 fun W aa O=>?_));have hm:=oI hm;subst hm;refine pn ?_;exact end0 rfl ⟨_,rfl,_,ch,⟨rfl,(O.sN 1 11).unb,qZt⟩⟩

instance:Ct 70 @Q3h:=⟨@Q3h,cf70⟩
theorem S8{p0:Z7}{p1}(hS:Q37 a1 n1 c1 Z5 T0 g w0 R p0.list)(Z2:Ln Y0 Z9 Z5):∀r,M0 p0 p1=some r->
 Cl 74 #[pt Y0 Z9,iv p1] w0 (K6 T0 w0 fun T w v=>v= .bool r/\Q31 a1 n1 c1 Z5 T g w R p0.list):=by
 intro r hm;refine eN Tryz.func74 Tryz.ntmps74 fun J=>?_;unfold M0 at hm;refine qN ?_;refine sq2 (qU ?_);refine cB cf113 hm (Q9l (hS.bE [0] [1,2]) Z2) ?_;rintro _ _ _ _ _ ⟨rfl,D,_⟩ hm;refine cd hm ?_ ?_<;>intro O hm
 . exact sq2 (re hm (D.sE [0,1,2]))
 refine pn ?_;refine sq2 ?_;obtain⟨u1,E,hm⟩:=Z8 hm;obtain⟨cs1,K,_⟩:=(D.own (i:=2) ⟨rfl,rfl⟩).v.ixcS E rfl;obtain⟨_,c2,rfl,h1⟩:=A8 K;refine kA ?_;refine fkC (d:=24) (c:=((u1.Type_.Kind==1)||(u1.Type_.Kind==2))) 3 [(5,iv u1.Type_.Kind)] rfl (fun hk=>zw (u1.Type_.Kind==1) hk) fun J=>pu ?_;exact fkC (d:=28) (c:=(((u1.Type_.Kind==1)||(u1.Type_.Kind==2))||(u1.Type_.Kind==3))) 3 [] rfl (fun hk=>zw ((u1.Type_.Kind==1)||(u1.Type_.Kind==2)) hk) fun J=>re hm (D.sE [0,1,2])

instance:Ct 74 @S8:=⟨@S8,cf74⟩
theorem Q0q{p0:Q0}{p1}(hS:Q28 a1 a2 a3 a4 a5 a6 b1 oo1 n1 c1 n2 c2 n3 c3 n4 c4 n5 c5 n6 c6 Z5 H1 T0 g w0 pv1 r1 r2 R p0)(Z2:Ln Y0 Z9 Z5)(hL1:Ln b1 oo1 H1):∀r,W6 p0 p1=some r->
 Cl 105 #[pt Y0 Z9,iv p1] w0 (K6 T0 w0 fun T w v=>v=iv r/\Q22 a1 a2 a3 a4 a5 a6 b1 oo1 n1 c1 n2 c2 n3 c3 n4 c4 n5 c5 n6 c6 Z5 H1 T g w pv1 r1 r2 R p0):=by
 intro r hm;refine eN Tryz.func105 Tryz.ntmps105 fun J=>?_;unfold W6 at hm;exact zr hm hS

instance:Ct 105 @Q0q:=⟨@Q0q,cf105⟩
theorem Q4e{p0:Q0}{p1:List UInt8}{p2}(hS:Q28 a1 a2 a3 a4 a5 a6 b1 oo1 n1 c1 n2 c2 n3 c3 n4 c4 n5 c5 n6 c6 Z5 H1 T0 g w0 pv1 r1 r2 R p0)(Z2:Ln Y0 Z9 Z5)(hL1:Ln b1 oo1 H1):∀r,Q1s p0 p1 p2=some r->
 Cl 71 #[pt Y0 Z9,Q23 p1.toArray,iv p2] w0 (K6 T0 w0 fun T w v=>v= .agg (X4a r).toArray/\Q22 a1 a2 a3 a4 a5 a6 b1 oo1 n1 c1 n2 c2 n3 c3 n4 c4 n5 c5 n6 c6 Z5 H1 T g w pv1 r1 r2 R p0):=by
 intro r hm;refine eN Tryz.func71 Tryz.ntmps71 fun J=>?_;unfold Q1s at hm;refine sq2 (aL zv19 hS ?_);intro _ _ _ D;refine kE ?_;refine rsS [0,0,0,0,1,0,2,0,0,0,1,0,2,0,0,2,0,2] [0,1,2,3,4,5,7,8,9,10,11,13,14,6,12,15,16,17] D fun w2 ag E=>?_;obtain⟨K,O,hm⟩:=Z8 hm;refine sS [(10,pt b1 oo1)] Z1v (V9 (E.bE ([0,1,2]++Z3 5 7) [3,4]) hL1 _ O) ?_;rintro _ _ _ _ ⟨rfl,U,_⟩;refine pu ?_;obtain⟨V,W,hm⟩:=Z8 hm;refine sS [] cf103 (Q2e (U.bE (Z3 0 10) [10,11]) hL1 _ W) ?_;rintro _ _ _ _ ⟨rfl,aa,_⟩;refine pu ?_;obtain⟨y3,ac,hm⟩:=Z8 hm;refine sS [] cf105 (Q0q (aa.bE [0,1] ([2,10,11]++Z3 3 7)) Z2 hL1 _ ac) ?_;rintro _ _ _ _ ⟨rfl,ad,_⟩;refine pu ?_;refine s0 rfl qZt (fun _=>F0 (by kernel_rfl) rfl (u:= .agg #[qZs p1,iv K,iv V,iv y3])) rfl (s2W [] ?_);refine osT 0 ad ?_;intro _ _ ae;exact re hm (ae.sN 1 11)
instance:Ct 71 @Q4e:=⟨@Q4e,cf71⟩
end Go.Proofs.YtbfpdnogfkbiaaaGreat
