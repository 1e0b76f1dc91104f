/- That Go functions compute their models. Printed by gen2.py. -/
import Derived.Test.YtbfpdnogfkbiaaaGreatKWb
set_option linter.unusedVariables false
namespace Go.Proofs.YtbfpdnogfkbiaaaGreat
open List renaming length → qQ
open _root_.Go.Proofs.Tryz
set_option maxRecDepth 100000
set_option maxHeartbeats 8000000
attribute [local irreducible] wpList wpQuiet Code.wp
variable {g:World} {T0:Nat→Prop} {w0:World} {R:List Y9}
variable {b1 b2 Z9 Q0l Z8t Z8s Z9v c1 c2 c3 c4 c5 c6 c7 c8 c9 c10 c11 c12 c13 n1 n2 n3 n4 n5 n6 n7 Z8 Q0k Z7z Z7y Z9i oo1 oo2:Nat} {H1 H2 Z5 H6 Z5w Z5v Z8v:List Value→Y9} {a1 a2 a3 a4 a5 a6 a7 a8 a9 a10 a11 a12 a13:OA} {r1 r2:Option Nat} {pv1:Value}
attribute [local irreducible] N2 S0 execOp Program.underlying sizeOf isAgg zeroValue

theorem Q9s {p0:Z0} {p1:E3} (hS:Sep g T0 w0 ([Y6 R,Q1 a1 c1 Z5 p0]++Z5g p1 H6 a2 n1 c2 a3 n2 c3 a4 n3 c4)) (Z3:Ln Z9 Z8 Z5) (h1:Q8 a1 c1 T0 w0 p0) (Z0s:Ln Q0l Q0k H6) : ∀ r,Q2k p0 p1=some r →
    Cl 32 #[pt Z9 Z8,pt Q0l Q0k] w0 (exR r (fun r=>K2 T0 w0 fun T w v => ∃ a63 c63 a64 n21 c64 a65 n22 c65 a66 n23 c66,v = .tuple #[]∧Sep g T w (R++([Q1 a63 c63 Z5 r.1]++Z5g r.2 H6 a64 n21 c64 a65 n22 c65 a66 n23 c66))∧Q8 a63 c63 T w r.1∧True) (fun r=>C7 T0 w0 fun T w v => ∃ a63 c63 a64 n21 c64 a65 n22 c65 a66 n23 c66,v = .iface 76 (Q25 r.1.pos r.1.e)∧Sep g T w (R++([Q1 a63 c63 Z5 r.2.1]++Z5g r.2.2 H6 a64 n21 c64 a65 n22 c65 a66 n23 c66))∧Q8 a63 c63 T w r.2.1∧True)):=by
  intro r hm;refine enter func32 rfl ntmps32 rfl fun J => ?_;unfold Q2k at hm;refine qU ?_;refine cB cf55 hm (M8 (hS.bE [0,2,3,4,5] [1]) Z3 h1) ?_;rintro D _ _ _ _ ⟨rfl,bF,_⟩ hm;refine aL [iv 0,iv 0] bF ?_;intro _ _ _ bG;refine sT 0 bG ?_;intro _ _ bI;refine kB ?_;refine cB cf56 hm (C9 (bI.bE (Z2 0 6) [6]) Z3 (h1.mono ch)) ?_;rintro _ _ _ _ _ ⟨rfl,bm,_⟩ hm;refine pu ?_
  rcases bc hm with ⟨bJ,hm⟩ | ⟨bJ,hm⟩
  · refine pu ?_;refine cB cf57 hm (Q9z (bm.bE (Z2 0 6) [6]) Z3 (h1.mono ch)) ?_;rintro _ _ _ _ _ ⟨rfl,bn,_⟩ hm;refine cd hm ?_ ?_ <;> intro eG hm
    · refine qU ?_;refine cP Z6q hm (V2 (bn.bE (Z2 0 6) [6]) Z3 (h1.mono ch)) ?_ ?_
      · exact zk
      rintro _ _ T4 w6 _ ⟨_,c5,rfl,bM,h2,_⟩ hm;refine pn ?_;refine N5 hm (fun bo a w7 => ∃(T5:_) (x1:Z0) (a6:_) (c6:_) (b2:_) (U:Q3b) (a7:_) (c7:_),JR (nf 77) g T4 w6 a w7 T5 (bo x1 U=some r) [(0,pt Z9 Z8),(1,pt Q0l Q0k),(5,pt b2 0)] ([Y6 R]++(Z5g p1 H6 a2 n1 c2 a3 n2 c3 a4 n3 c4 ++ [Q1 a6 c6 Z5 x1,U6 b2 (X1s U a7 c7)]))∧Q8 a6 c6 T5 w7 x1∧Q39 a7 c7 T5 w7 U.Fields) (fun bo hm => ?_) ?_
      · refine rtPS [1,0,2,0,2,2] [0,1,2,3,4,5] bM (U4 (U4 (N8))) fun w8 bp am=>pu ?_;obtain⟨y5,ao,hm⟩:=Y0 hm
        rcases y5 with e1 | y5
        · have hm:=J1 hm;refine tF [2,4] ?_;refine⟨?_,?_,trivial⟩
          · refine brW [3,4,5] [] ?_;refine oP cf59 (B4 (am.bE (Z2 1 5 ++ [0]) [6]) Z3 (h2.mono bp) _ ao) ?_;rintro _ T8 _ _ ⟨bO,c10,rfl,bP,h7,_⟩;exact pe hm (bP.sE [0,6,1,2,3,4])
          refine brW [2,3,5] [] ?_;refine oaL zv14 am ?_;intro _ b4 _ bT;refine t1W [2] [3,5] [] ?_;refine oP cf59 (B4 (bT.bE [0,2,3,4,5,6,1] [7]) Z3 (h2.mono ch) _ ao) ?_;rintro _ T8 bU bV ⟨bO,c10,rfl,aD,h7,_⟩;exact pe hm (aD.sE [1,7,2,3,4,5])
        have hm:=N4 hm;refine tF [2,4] ?_;refine⟨?_,?_,trivial⟩
        · refine brW [3,4,5] [] ?_;refine oS cf59 (B4 (am.bE (Z2 1 5 ++ [0]) [6]) Z3 (h2.mono bp) _ ao) ?_;rintro _ T6 w9 bZ ⟨a8,c8,rfl,aE,h5,_⟩;refine pu ?_;refine t0 rfl trivial (fun _=>G3 (by kernel_rfl) rfl (u := .agg #[iv D.Line,iv D.Col,.string ⟨y5.1.toArray⟩,.slice none 0 0])) rfl (t1W [4] [5] [] ?_);refine oaL zv14 aE ?_;intro ce b3 cg aF;refine t1W [5] [] [0] ?_;refine osT 0 aF ?_;intro ci cj aG;refine pu ?_;exact je hm (aG.sE (Z2 1 5 ++ [7,0]))
        refine brW [2,3,5] [] ?_;refine oaL zv14 am ?_;intro w9 b3 bZ aE;refine t1W [2] [3,5] [] ?_;refine oS cf59 (B4 (aE.bE [0,2,3,4,5,6,1] [7]) Z3 (h2.mono ch) _ ao) ?_;rintro _ T6 ce cg ⟨a8,c8,rfl,aF,h5,_⟩;refine pu ?_;refine t0 rfl trivial (fun _=>G3 (by kernel_rfl) rfl (u := .agg #[iv D.Line,iv D.Col,.string ⟨y5.1.toArray⟩,.slice none 0 0])) rfl (t1W [5] [] [0] ?_);refine osT 0 aF ?_;intro ci cj aG;refine pu ?_;exact je hm (aG.sE (Z2 1 5 ++ [7,0]))
      rintro _ w7 ⟨T5,x1,a6,c6,b2,U,a7,c7,⟨J,hm,rfl,aD,_⟩,h3,_⟩;refine qU ?_;refine cP cf60 hm (Q8o (aD.bE (Z2 0 5 ++ [6]) [5]) Z3 h3) ?_ ?_
      · exact zk
      rintro y6 _ _ bU bV ⟨cl,_,c11,_,c12,rfl,cm,_,_⟩ hm;refine sT 5 cm ?_;intro _ _ cn;refine kE ?_;refine rsS [0,0,0,0,1,1,2,2,0,0,2] [0,1,2,3,4,5,6,7,8,9,10] cn fun eK eL co=>pu ?_;obtain⟨_,_,cp,h9,rfl⟩:=co.sl 7;refine s2W [0] ?_;refine obS (r:=Q9j) (l:=([{U with Fields:=y6.1}]:List Q3b)) (css := [[iv U.Pos.Line,iv U.Pos.Col,Q23 U.Name.toArray,sv cl y6.1 c11]]) cp ⟨(Y5f (x := {U with Fields:=y6.1}) h9:Q9j.rp _ _ _ _),trivial⟩ ?_;intro _ _ _ c13 _ cr;refine pu ?_;obtain⟨_,ct,hm⟩:=Y0 hm;refine s2W [0] ?_;refine oaO 3 cr (K3 ct) ?_;intro _ _ _ c14 _ cu;refine s2W [] ?_;refine osB 2 0 Z0s cu ?_;intro _ _ cv;exact re hm (cv.sE [1,7,2,3,4,5])
    refine kA ?_;refine cP cf61 hm (F1 (bn.bE (Z2 0 6) [6]) Z3 (h1.mono ch)) ?_ ?_
    · exact zk
    rintro K _ _ _ _ ⟨_,c17,rfl,cw,cy,_⟩ hm;refine aL zv12 cw ?_;intro _ b4 _ cz;refine sT 0 cz ?_;intro _ _ cA;refine kA ?_;refine cP cf59 hm (B4 (cA.bE (Z2 0 7) [7]) Z3 (cy.mono ch)) ?_ ?_
    · exact zk
    rintro y8 _ _ _ _ ⟨_,c18,rfl,cC,V,_⟩ hm;refine kB ?_;refine cB cf56 hm (C9 (cC.bE (Z2 0 7) [7]) Z3 V) ?_;rintro _ _ cD cE _ ⟨rfl,bq,_⟩ hm;refine cd hm ?_ ?_ <;> intro eM hm
    · refine sq2 (Z2k [0,0,0,0,1,0,1,1,0,0,2,2,2,0,0,2] [0,1,2,3,4,5,6,7,8,9,10,11,12,13,14,15] bq (U4 (U4 (N8))) fun eN eO bt=>pu ?_);refine s0 rfl trivial (fun _=>G3 (by kernel_rfl) rfl (u := .agg #[iv D.Line,iv D.Col,.string ⟨K.1.Word.toArray⟩,.string ⟨K.1.Name.toArray⟩,iv K.1.Stars,.string ⟨y8.1.toArray⟩,.slice none 0 0,.slice none 0 0,.bool false])) rfl ?_;obtain⟨ab,bu,hm⟩:=Y0 hm
      rcases ab with e4 | ab
      · have hm:=J1 hm;refine s2 [(4,.slice a3 n2 c3)] rfl trivial rfl (by kernel_rfl) (Z1p cf62 rfl (I5 (p0:=y8.2) (p1:=(⟨D,K.1,y8.1,[],[],false⟩:N0)) (bt.bE (Z2 2 5 ++ [0,1]) [7]) Z3 (V.mono ch) X7 _ bu) rfl fun eQ eR eS eT cF => ?_);obtain⟨_,c24,rfl,cG,_,_⟩:=cF;exact pe hm (cG.sE [0,7,1,2,3,4])
      have hm:=N4 hm;refine sS [(4,.slice a3 n2 c3)] cf62 (I5 (bt.bE (Z2 2 5 ++ [0,1]) [7]) Z3 (V.mono ch) X7 _ bu) ?_;rintro _ _ _ _ ⟨cI,c19,cJ,c20,_,c21,rfl,cK,cL,cM,_,_⟩;refine s2W [] ?_;refine obS (r:=Q1r) (l:=([ab.1]:List N0)) (css := [(Y1k ab.1 cI c19 cJ c20)]) cK ⟨(Z6x (x:=ab.1) cL cM:Q1r.rp _ _ _ _),trivial⟩ ?_;intro _ _ _ c22 _ cO;refine pu ?_;obtain⟨_,cQ,hm⟩:=Y0 hm;refine s2W [0] ?_;refine oaO 4 cO (K3 cQ) ?_;intro _ _ _ c23 _ cR;refine s2W [] ?_;refine osB 2 1 Z0s cR ?_;intro _ _ cT;refine pu ?_;exact seP (K1 [] trivial fun J=>re hm (cT.sE [1,8,2,3,4,5]))
    refine pn ?_;refine N5 hm (fun bv a ac => ∃(ad:_) (x3:Z0) (aJ:_) (c25:_) (b5:_) (E:Q0n) (aq:_) (c26:_) (aM:_) (c27:_),JR (nf 77) g cD cE a ac ad (bv x3 E=some r) [(0,pt Z9 Z8),(1,pt Q0l Q0k),(8,pt b5 0)] ([Y6 R]++(Z5g p1 H6 a2 n1 c2 a3 n2 c3 a4 n3 c4 ++ [Q1 aJ c25 Z5 x3,U6 b5 (Y2z E aq c26 aM c27)]))∧Q8 aJ c25 ad ac x3∧Q39 aq c26 ad ac E.Params∧Q35 aM c27 ad ac E.Body) (fun bv hm => ?_) ?_
    · refine rtPS [1,1,0,0,2,0,2,2] [0,1,2,3,4,5,6,7] bq (U4 (N8)) fun eU eV ar=>pu ?_;obtain⟨bw,au,hm⟩:=Y0 hm
      rcases bw with e5 | bw
      · have hm:=J1 hm;refine tF [4,6] ?_;refine⟨?_,?_,trivial⟩
        · refine brW [5,6,7] [] ?_;refine oP cf63 (E5 (ar.bE (Z2 2 5 ++ [0,1]) [7]) Z3 (V.mono ch) _ au) ?_;rintro _ cU _ _ ⟨cV,cW,rfl,cX,cY,_⟩;exact pe hm (cX.sE [0,7,1,2,3,4])
        refine brW [4,5,7] [] ?_;refine oaL zv7 ar ?_;intro _ b7 _ da;refine t1W [4] [5,7] [] ?_;refine oP cf63 (E5 (da.bE [0,3,4,5,6,7,1,2] [8]) Z3 (V.mono ch) _ au) ?_;rintro _ cU db dc ⟨cV,cW,rfl,aN,cY,_⟩;exact pe hm (aN.sE [1,8,2,3,4,5])
      have hm:=N4 hm;refine tF [4,6] ?_;refine⟨?_,?_,trivial⟩
      · refine brW [5,6,7] [] ?_;refine oS cf63 (E5 (ar.bE (Z2 2 5 ++ [0,1]) [7]) Z3 (V.mono ch) _ au) ?_;rintro _ dd de dg ⟨aP,n9,c28,dh,c29,rfl,aR,di,_⟩;refine pu ?_;refine t0 rfl trivial (fun _=>G3 (by kernel_rfl) rfl (u := .agg #[iv D.Line,iv D.Col,.string ⟨K.1.Word.toArray⟩,.string ⟨K.1.Name.toArray⟩,iv K.1.Stars,.string ⟨y8.1.toArray⟩,.slice aP n9 c28,.slice none 0 0])) rfl (t1W [6] [7] [] ?_);refine oaL zv7 aR ?_;intro dj b6 dl aS;refine t1W [7] [] [0,0] ?_;refine osT 0 aS ?_;intro dm dn aT;refine pu ?_;obtain⟨dp,dq,aU,dr,rfl⟩:=aT.sl 9;exact je hm (aU.sE (Z2 1 5 ++ [8,0]))
      refine brW [4,5,7] [] ?_;refine oaL zv7 ar ?_;intro de b6 dg aR;refine t1W [4] [5,7] [] ?_;refine oS cf63 (E5 (aR.bE [0,3,4,5,6,7,1,2] [8]) Z3 (V.mono ch) _ au) ?_;rintro _ dd dj dl ⟨aP,n9,c28,dh,c29,rfl,aS,di,_⟩;refine pu ?_;refine t0 rfl trivial (fun _=>G3 (by kernel_rfl) rfl (u := .agg #[iv D.Line,iv D.Col,.string ⟨K.1.Word.toArray⟩,.string ⟨K.1.Name.toArray⟩,iv K.1.Stars,.string ⟨y8.1.toArray⟩,.slice aP n9 c28,.slice none 0 0])) rfl (t1W [7] [] [0,0] ?_);refine osT 0 aS ?_;intro dm dn aT;refine pu ?_;obtain⟨dp,dq,aU,dr,rfl⟩:=aT.sl 9;exact je hm (aU.sE (Z2 1 5 ++ [8,0]))
    rintro _ ac ⟨ad,x3,aJ,c25,b5,E,aq,c26,aM,c27,⟨J,hm,rfl,aN,_⟩,ds,du,_⟩;refine qU ?_;refine cP cf64 hm (Z3j (aN.bE (Z2 0 5 ++ [6]) [5]) Z3 ds) ?_ ?_
    · exact zk
    rintro aV _ _ db dc ⟨dv,_,dw,_,_,rfl,dx,dy,_⟩ hm;refine sT 5 dx ?_;intro _ _ dz;refine pn ?_;refine rsS [0,0,0,0,1,1,2,2,0,0,2] [0,1,2,3,4,5,6,7,8,9,10] dz fun eX eY dA=>pu ?_;obtain⟨_,_,dB,dC,rfl⟩:=dA.sl 7;refine s2W [0] ?_;refine obS (r:=Z2v) (l:=([{E with Body:=aV.1}]:List Q0n)) (css := [[iv E.Pos.Line,iv E.Pos.Col,Q23 E.Ret.Word.toArray,Q23 E.Ret.Name.toArray,iv E.Ret.Stars,Q23 E.Name.toArray,sv aq E.Params c26,sv dv aV.1 dw]]) dB ⟨(Y4p (x := {E with Body:=aV.1}) (du.mono ch) dC:Z2v.rp _ _ _ _),trivial⟩ ?_;intro _ _ _ _ _ dD;refine pu ?_;obtain⟨_,dE,hm⟩:=Y0 hm;refine s2W [0] ?_;refine oaO 5 dD (K3 dE) ?_;intro _ _ _ _ _ dF;refine s2W [] ?_;refine osB 2 2 Z0s dF ?_;intro _ _ dG;refine pu ?_;have hm:=oI hm; subst hm;refine pn ?_;exact end0 rfl ⟨_,rfl,_,ch,⟨_,_,_,_,_,_,_,_,_,_,_,rfl,(dG.sE [1,7,2,3,4,5]).unb,(dy.mono ch),trivial⟩⟩
  refine pn ?_;refine cnd (b:=false) rfl (fun h=>nomatch h) (fun _=>pn ?_);refine qU ?_;refine cP cf61 hm (F1 (bm.bE (Z2 0 6) [6]) Z3 (h1.mono ch)) ?_ ?_
  · exact zk
  rintro O _ _ _ _ ⟨_,_,rfl,dI,dJ,_⟩ hm;refine aL zv12 dI ?_;intro _ b7 _ dK;refine sT 0 dK ?_;intro _ _ dL;refine kA ?_;refine cP cf59 hm (B4 (dL.bE (Z2 0 7) [7]) Z3 (dJ.mono ch)) ?_ ?_
  · exact zk
  rintro ae _ _ _ _ ⟨_,_,rfl,dM,W,_⟩ hm;refine kB ?_;refine cB cf56 hm (C9 (dM.bE (Z2 0 7) [7]) Z3 W) ?_;rintro _ _ dN dO _ ⟨rfl,bz,_⟩ hm;refine cd hm ?_ ?_ <;> intro eZ hm
  · refine sq2 (Z2k [0,0,0,0,1,0,1,1,0,0,2,2,2,0,0,2] [0,1,2,3,4,5,6,7,8,9,10,11,12,13,14,15] bz (U4 (U4 (N8))) fun e0 e2 bA=>pu ?_);refine s0 rfl trivial (fun _=>G3 (by kernel_rfl) rfl (u := .agg #[iv D.Line,iv D.Col,.string ⟨O.1.Word.toArray⟩,.string ⟨O.1.Name.toArray⟩,iv O.1.Stars,.string ⟨ae.1.toArray⟩,.slice none 0 0,.slice none 0 0,.bool false])) rfl ?_;obtain⟨af,bB,hm⟩:=Y0 hm
    rcases af with e9 | af
    · have hm:=J1 hm;refine s2 [(4,.slice a3 n2 c3)] rfl trivial rfl (by kernel_rfl) (Z1p cf62 rfl (I5 (p0:=ae.2) (p1:=(⟨D,O.1,ae.1,[],[],false⟩:N0)) (bA.bE (Z2 2 5 ++ [0,1]) [7]) Z3 (W.mono ch) X7 _ bB) rfl fun e6 e7 e8 fa dP => ?_);obtain⟨_,_,rfl,dQ,_,_⟩:=dP;exact pe hm (dQ.sE [0,7,1,2,3,4])
    have hm:=N4 hm;refine sS [(4,.slice a3 n2 c3)] cf62 (I5 (bA.bE (Z2 2 5 ++ [0,1]) [7]) Z3 (W.mono ch) X7 _ bB) ?_;rintro _ _ _ _ ⟨dR,dS,dT,dU,_,_,rfl,dV,dW,dX,_,_⟩;refine s2W [] ?_;refine obS (r:=Q1r) (l:=([af.1]:List N0)) (css := [(Y1k af.1 dR dS dT dU)]) dV ⟨(Z6x (x:=af.1) dW dX:Q1r.rp _ _ _ _),trivial⟩ ?_;intro _ _ _ _ _ dY;refine pu ?_;obtain⟨_,dZ,hm⟩:=Y0 hm;refine s2W [0] ?_;refine oaO 4 dY (K3 dZ) ?_;intro _ _ _ _ _ d0;refine s2W [] ?_;refine osB 2 1 Z0s d0 ?_;intro _ _ d1;refine pu ?_;exact seP (K1 [] trivial fun J=>re hm (d1.sE [1,8,2,3,4,5]))
  refine pn ?_;refine N5 hm (fun bC a ag => ∃(ah:_) (x5:Z0) (aW:_) (aX:_) (b8:_) (I:Q0n) (aw:_) (ax:_) (aZ:_) (a9:_),JR (nf 77) g dN dO a ag ah (bC x5 I=some r) [(0,pt Z9 Z8),(1,pt Q0l Q0k),(8,pt b8 0)] ([Y6 R]++(Z5g p1 H6 a2 n1 c2 a3 n2 c3 a4 n3 c4 ++ [Q1 aW aX Z5 x5,U6 b8 (Y2z I aw ax aZ a9)]))∧Q8 aW aX ah ag x5∧Q39 aw ax ah ag I.Params∧Q35 aZ a9 ah ag I.Body) (fun bC hm => ?_) ?_
  · refine rtPS [1,1,0,0,2,0,2,2] [0,1,2,3,4,5,6,7] bz (U4 (N8)) fun fb fc ay=>pu ?_;obtain⟨bD,az,hm⟩:=Y0 hm
    rcases bD with fd | bD
    · have hm:=J1 hm;refine tF [4,6] ?_;refine⟨?_,?_,trivial⟩
      · refine brW [5,6,7] [] ?_;refine oP cf63 (E5 (ay.bE (Z2 2 5 ++ [0,1]) [7]) Z3 (W.mono ch) _ az) ?_;rintro _ d2 _ _ ⟨d4,d5,rfl,d6,d7,_⟩;exact pe hm (d6.sE [0,7,1,2,3,4])
      refine brW [4,5,7] [] ?_;refine oaL zv7 ay ?_;intro _ _ _ d8;refine t1W [4] [5,7] [] ?_;refine oP cf63 (E5 (d8.bE [0,3,4,5,6,7,1,2] [8]) Z3 (W.mono ch) _ az) ?_;rintro _ d2 d9 ea ⟨d4,d5,rfl,ba,d7,_⟩;exact pe hm (ba.sE [1,8,2,3,4,5])
    have hm:=N4 hm;refine tF [4,6] ?_;refine⟨?_,?_,trivial⟩
    · refine brW [5,6,7] [] ?_;refine oS cf63 (E5 (ay.bE (Z2 2 5 ++ [0,1]) [7]) Z3 (W.mono ch) _ az) ?_;rintro _ eb ec ed ⟨be,bf,bg,ee,ef,rfl,bh,eg,_⟩;refine pu ?_;refine t0 rfl trivial (fun _=>G3 (by kernel_rfl) rfl (u := .agg #[iv D.Line,iv D.Col,.string ⟨O.1.Word.toArray⟩,.string ⟨O.1.Name.toArray⟩,iv O.1.Stars,.string ⟨ae.1.toArray⟩,.slice be bf bg,.slice none 0 0])) rfl (t1W [6] [7] [] ?_);refine oaL zv7 bh ?_;intro eh b9 ej bi;refine t1W [7] [] [0,0] ?_;refine osT 0 bi ?_;intro w64 ek bj;refine pu ?_;obtain⟨el,em,bk,en,rfl⟩:=bj.sl 9;exact je hm (bk.sE (Z2 1 5 ++ [8,0]))
    refine brW [4,5,7] [] ?_;refine oaL zv7 ay ?_;intro ec b9 ed bh;refine t1W [4] [5,7] [] ?_;refine oS cf63 (E5 (bh.bE [0,3,4,5,6,7,1,2] [8]) Z3 (W.mono ch) _ az) ?_;rintro _ eb eh ej ⟨be,bf,bg,ee,ef,rfl,bi,eg,_⟩;refine pu ?_;refine t0 rfl trivial (fun _=>G3 (by kernel_rfl) rfl (u := .agg #[iv D.Line,iv D.Col,.string ⟨O.1.Word.toArray⟩,.string ⟨O.1.Name.toArray⟩,iv O.1.Stars,.string ⟨ae.1.toArray⟩,.slice be bf bg,.slice none 0 0])) rfl (t1W [7] [] [0,0] ?_);refine osT 0 bi ?_;intro w64 ek bj;refine pu ?_;obtain⟨el,em,bk,en,rfl⟩:=bj.sl 9;exact je hm (bk.sE (Z2 1 5 ++ [8,0]))
  rintro _ ag ⟨ah,x5,aW,aX,b8,I,aw,ax,aZ,a9,⟨J,hm,rfl,ba,_⟩,ep,er,_⟩;refine qU ?_;refine cP cf64 hm (Z3j (ba.bE (Z2 0 5 ++ [6]) [5]) Z3 ep) ?_ ?_
  · exact zk
  rintro bl _ _ d9 ea ⟨es,_,et,_,_,rfl,eu,ew,_⟩ hm;refine sT 5 eu ?_;intro _ _ ey;refine pn ?_;refine rsS [0,0,0,0,1,1,2,2,0,0,2] [0,1,2,3,4,5,6,7,8,9,10] ey fun fe ff ez=>pu ?_;obtain⟨_,_,eA,eB,rfl⟩:=ez.sl 7;refine s2W [0] ?_;refine obS (r:=Z2v) (l:=([{I with Body:=bl.1}]:List Q0n)) (css := [[iv I.Pos.Line,iv I.Pos.Col,Q23 I.Ret.Word.toArray,Q23 I.Ret.Name.toArray,iv I.Ret.Stars,Q23 I.Name.toArray,sv aw I.Params ax,sv es bl.1 et]]) eA ⟨(Y4p (x := {I with Body:=bl.1}) (er.mono ch) eB:Z2v.rp _ _ _ _),trivial⟩ ?_;intro _ _ _ _ _ eC;refine pu ?_;obtain⟨_,eD,hm⟩:=Y0 hm;refine s2W [0] ?_;refine oaO 5 eC (K3 eD) ?_;intro _ _ _ _ _ eE;refine s2W [] ?_;refine osB 2 2 Z0s eE ?_;intro _ _ eF;refine pu ?_;have hm:=oI hm; subst hm;refine pn ?_;exact end0 rfl ⟨_,rfl,_,ch,⟨_,_,_,_,_,_,_,_,_,_,_,rfl,(eF.sE [1,7,2,3,4,5]).unb,(ew.mono ch),trivial⟩⟩

instance : Ct 32 @Q9s:=⟨@Q9s,cf32⟩
theorem Q7n {p0:Z0} (hS:Q38 a1 c1 Z5 T0 g w0 R p0) (Z3:Ln Z9 Z8 Z5) (h1:Q8 a1 c1 T0 w0 p0) : ∀ r,Q9i p0=some r →
    Cl 17 #[pt Z9 Z8] w0 (exR r (fun r=>K2 T0 w0 fun T w v => ∃ a14 c14 a15 c15 a16 c16 a17 c17,v = .tuple #[Q71 a14 a15 a16 c14 c15 c16 r.1,.pointer none]∧Sep g T w (R ++ [Q1 a17 c17 Z5 r.2])∧Q86 a14 c14 T w r.1∧Q39 a15 c15 T w r.1.Globals∧Q93 a16 c16 T w r.1∧Q8 a17 c17 T w r.2∧True) (fun r=>K2 T0 w0 fun T w v => ∃ a14 c14 a15 c15 a16 c16 b4 a17 c17,v = .tuple #[Q71 a14 a15 a16 c14 c15 c16 r.1,pt b4 0]∧Sep g T w (R ++ [Q1 a17 c17 Z5 r.2.2,U6 b4 (B9 r.2.1.pos r.2.1.e)])∧Q86 a14 c14 T w r.1∧Q39 a15 c15 T w r.1.Globals∧Q93 a16 c16 T w r.1∧Q8 a17 c17 T w r.2.2∧True)):=by
  intro r hm;refine Y7a Tryz.func17 rfl Tryz.ntmps17 rfl fun J => ?_;unfold Q9i at hm;refine sq2 (aL zv17 hS ?_);intro _ D _ am;refine aL [.pointer none] am ?_;intro w2 E _ ao;refine kA ?_;refine pv (Y3o (u := .func (.func 31) #[] #[pt D 0,pt E 0]) rfl) (wl rfl (dfO (f:=31) (cap := #[pt D 0,pt E 0]) rfl (pn ?_)));refine sq2 ?_;have ap:=ao.nilO Q9j 168;have aq:=ap.nilO Q1r 132;have ar:=aq.nilO Z2v 136;refine lpJ hm (fun ah o1 m a U => ∃(V:_) (K:Z0) (I:E3) (W:_) (n1:_) (c2:_) (a3:_) (n2:_) (c3:_) (a4:_) (n3:_) (c4:_) (a5:_) (c5:_),JR (⟨14,[⟨.fn (.func 31) #[pt D 0,pt E 0],#[]⟩]⟩) g T0 w2 a U V (X5 ah m (I,K)=some o1) [(0,pt Z9 Z8),(2,pt D 0),(3,pt E 0)] [J2 Z2v 136 (.slice W n1 c2) I.Funcs,J2 Q1r 132 (.slice a3 n2 c3) I.Globals,J2 Q9j 168 (.slice a4 n3 c4) I.Structs,U6 E [.pointer none],U6 D [.slice a4 n3 c4,.slice a3 n2 c3,.slice W n1 c2],Y6 R,Q1 a5 c5 Z5 K]∧Q8 a5 c5 V U K) (fun _ _ h=>je h (ar.sE (Z2 0 7))) ?_;rintro ah au o1 aj _ _ U ⟨V,K,I,W,n1,c2,a3,n2,c3,a4,n3,c4,a5,c5,⟨J,av,rfl,ak,_⟩,h2⟩;obtain⟨m1,_,rfl,hm,ag⟩:=lrE av au;refine sq2 (sq2 (cd hm ?_ ?_)) <;> intro aI hm
  · refine pn ?_;refine blk (pu ?_);refine cP cf32 hm (Q9s (ak.bE [3,5] [6,4,2,1,0]) Z3 h2 (Q3m D)) ?_ ?_
    · rintro O _ _ _ _ ⟨_,c10,_,_,c11,_,_,c12,_,_,c13,rfl,aw,_,_⟩ hm;refine pn ?_;refine panD cf31 (Y8a (args := [pt D 0,pt E 0]) Tryz.func31 rfl Tryz.ntmps31 rfl rfl rfl fun J=>sq2 (qU ?_));refine pv (Z1k (v := .iface 76 (.agg (B9 O.1.pos O.1.e).toArray)) rfl) (pv (Y8b rfl (by kernel_rfl)) (pn ?_));refine cnd (b:=false) rfl (fun h=>nomatch h) (fun _=>pn ?_);refine qU ?_;refine pv (Z1k (v := .iface 76 (.agg (B9 O.1.pos O.1.e).toArray)) rfl) (pv (r_ta rfl (by kernel_rfl)) (aL [iv 0,iv 0,iv 0] aw ?_));intro _ _ _ ax;refine sT 0 ax ?_;intro _ _ ay;refine pn ?_;refine pv (G3 (by kernel_rfl) rfl (u := .agg #[.slice none 0 0,.slice none 0 0,.slice none 0 0])) (sT 4 ay ?_);intro _ _ az;refine sT 1 az ?_;intro _ _ aA;have hm:=S4 hm ag aj;exact eo hm (aA.sE [2,3,0])
    rintro _ _ _ _ _ ⟨_,c6,_,_,c7,_,_,c8,_,_,c9,rfl,aB,_,_⟩ hm;exact lg hm ag (aB.sE [6,5,4,0,3,1,2])
  have hm:=Q5r hm ag aj;refine kE ?_;refine sT 4 ak ?_;intro _ _ aC;refine sT 3 aC ?_;intro _ _ aD;refine pn ?_;refine pn ?_;refine retD cf31 (recN2 (args := [pt D 0,pt E 0]) Tryz.func31 rfl Tryz.ntmps31 rfl rfl rfl fun J=>sq2 (qU ?_));refine pv (Z1k (v := .nilIface) rfl) (pv (r_eqn rfl (by kernel_rfl)) (pn ?_));refine cnd (b:=true) rfl (fun _ => ?_) (fun h=>nomatch h);obtain⟨_,_,aE,_,rfl⟩:=aD.sl 2;obtain⟨_,_,aF,_,rfl⟩:=aE.sl 1;obtain⟨_,_,aG,_,rfl⟩:=aF.sl 0;exact eo hm (aG.sE [5,6])

instance : Ct 17 @Q7n:=⟨@Q7n,cf17⟩
theorem Y2f {p0:List UInt8} (hS:Sep g T0 w0 [Y6 R]) (hG0:Gi T0 w0 0) : ∀ r,Z6t p0=some r →
    Cl 11 #[Q23 p0.toArray] w0 (K2 T0 w0 fun T w v => ∃ a10 c10 a11 c11 a12 c12,v = .tuple #[Q71 a10 a11 a12 c10 c11 c12 r.1,Q48 r.2.1,iv r.2.2]∧Sep g T w (R ++ [])∧Q86 a10 c10 T w r.1∧Q39 a11 c11 T w r.1.Globals∧Q93 a12 c12 T w r.1∧True):=by
  intro r hm;refine enter func11 rfl ntmps11 rfl fun J => ?_;unfold Z6t at hm;refine sq2 (aL zv17 hS ?_);intro _ E _ ab;refine aL [iv 0,iv 0] ab ?_;intro _ I _ ac;refine kA ?_;refine cB cf16 hm (Y1c (ac.bE [0,1,2] []) (hG0.mono ch)) ?_;rintro D _ _ _ _ ⟨a1,K,c1,rfl,ad,_⟩ hm;refine aL [iv 0,iv 0] ad ?_;intro _ b3 _ af;refine sT 0 af ?_;intro _ _ O;refine pn ?_;refine sq2 (sq2 (cd hm ?_ ?_)) <;> intro az hm
  · refine sq2 (rsS [0,1,0,2,2,0] [0,1,2,3,4,5] O fun w6 aB ag => ?_);have dd:KD [(3,[]),(4,[1,3])]:=⟨trivial⟩;exact zr hm ag
  refine kA ?_;refine pv (G3 (by kernel_rfl) rfl (u := .agg #[.slice a1 K c1,iv D.2.1.Line,iv D.2.1.Col,iv 0])) (bX [.slice a1 K c1,iv D.2.1.Line,iv D.2.1.Col,iv 0] O ?_);intro _ U _ ah;refine kA ?_;obtain⟨_,_,V,h1,rfl⟩:=ah.sl 5;obtain⟨W,aa,hm⟩:=Y0 hm
  rcases W with e1 | W
  · have hm:=J1 hm;refine cS cf17 (Q7n (V.bE (Z2 1 4) [0]) (Q3m U) h1 _ aa) ?_;rintro _ _ _ _ ⟨_,c6,_,c7,_,c8,_,_,c9,rfl,aj,_,_,_,_,_⟩;refine aL zv17 aj ?_;intro _ _ _ ak;refine sT 0 ak ?_;intro _ _ am;refine kB ?_;refine pv (Y6g rfl rfl rfl underlying72) (pn ?_);refine cnd (b:=true) rfl (fun _ => ?_) (fun h=>nomatch h);refine sq2 (rsS [0,0,0,0,1,0,0,0,1,2,2,0] [0,1,2,3,4,5,6,7,8,9,10,11] am fun aD aE an=>s0 rfl trivial (fun _=>G3 (by kernel_rfl) rfl (u := .agg #[.slice none 0 0,.slice none 0 0,.slice none 0 0])) rfl (pu ?_));refine s2W [] ?_;refine osT 3 an ?_;intro _ _ ao;refine⟨st1 rfl opv (st1 rfl ?_ st0),?_⟩
    · with_reducible apply r_ldP
      · exact rfl
      · exact tyA
      · exact tyS
      · assumption
      · exact atS
      · exact(rfl:_ = [_,_])
      · exact rfl
    refine s2W [1,0] ?_;refine osT 2 ao ?_;intro _ _ ap;refine pu ?_;exact se (K1 [(2,pt E 0),(3,pt I 0),(4,iv e1.2.1.e)] ⟨rfl,rfl,rfl,trivial⟩ fun J=>re hm (ap.sE [4]))
  have hm:=N4 hm;refine cS cf17 (Q7n (V.bE (Z2 1 4) [0]) (Q3m U) h1 _ aa) ?_;rintro _ _ _ _ ⟨_,c2,_,c3,_,c4,_,c5,rfl,aq,h2,_,_,_,_⟩;refine aL zv17 aq ?_;intro _ b5 _ au;refine sT 0 au ?_;intro _ _ av;refine kB ?_;refine pv (Y6g rfl rfl rfl underlying72) (pn ?_);refine cnd (b:=false) rfl (fun h=>nomatch h) (fun _=>skp (K1 [(2,pt E 0),(3,pt I 0),(6,pt b3 0),(9,pt b5 0)] ⟨rfl,rfl,rfl,rfl,trivial⟩ fun J=>sq2 (rsS [1,1,2,2,0] [0,1,2,3,4] av fun aF aG aw=>s2W [1,0] ?_)));refine osT 3 aw ?_;intro _ _ ax;refine s2W [0] ?_;refine osT 2 ax ?_;intro _ _ ay;exact re hm (ay.sE [4])

instance : Ct 11 @Y2f:=⟨@Y2f,cf11⟩
theorem Z8d  (hS:Sep g T0 w0 [Y6 R])  : ∀ r,Y4b=some r →
    Cl 18 #[] w0 (K2 T0 w0 fun T w v => ∃ b2 a2 n2 c2,v=pt b2 0∧Sep g T w (R ++ [U6 b2 [.slice a2 n2 c2],Q12 a2 n2 c2 r.list])∧True):=by
  intro r hm;refine enter func18 rfl ntmps18 rfl fun J => ?_;unfold Y4b at hm;refine qN ?_;refine qU ?_;refine pv (G3 (by kernel_rfl) rfl (u := .agg #[iv 0,iv 0,iv 0,Q52,.slice none 0 0,iv 0,iv 0,.bool false])) (pv (G3 (by kernel_rfl) rfl (u := .agg #[iv 1,iv 0,iv 0,Q52,.slice none 0 0])) (pv (G3 (by kernel_rfl) rfl (u := .agg #[iv 1,iv 0,iv 0,Q52,.slice none 0 0,iv 4,iv 4,.bool false])) (pv (G3 (by kernel_rfl) rfl (u := .agg #[iv 2,iv 0,iv 0,Q52,.slice none 0 0])) (pv (G3 (by kernel_rfl) rfl (u := .agg #[iv 2,iv 0,iv 0,Q52,.slice none 0 0,iv 1,iv 1,.bool false])) (bS (r:=P4) (l:=([(⟨(⟨0,0,0,([]:List UInt8),[]⟩:Q8l),0,0,false⟩:K0),(⟨(⟨1,0,0,([]:List UInt8),[]⟩:Q8l),4,4,false⟩:K0),(⟨(⟨2,0,0,([]:List UInt8),[]⟩:Q8l),1,1,false⟩:K0)]:List K0)) (css := [zv18,[iv 1,iv 0,iv 0,Q52,.slice none 0 0,iv 4,iv 4,.bool false],[iv 2,iv 0,iv 0,Q52,.slice none 0 0,iv 1,iv 1,.bool false]]) hS ⟨(Q1j (x:=(⟨(⟨0,0,0,([]:List UInt8),[]⟩:Q8l),0,0,false⟩:K0)) X7:P4.rp _ _ _ _),(Q1j (x:=(⟨(⟨1,0,0,([]:List UInt8),[]⟩:Q8l),4,4,false⟩:K0)) X7:P4.rp _ _ _ _),(Q1j (x:=(⟨(⟨2,0,0,([]:List UInt8),[]⟩:Q8l),1,1,false⟩:K0)) X7:P4.rp _ _ _ _),trivial⟩ ?_)))));intro _ a1 D c1 _ E;refine pv (G3 (by kernel_rfl) rfl (u := .agg #[.slice a1 D c1])) (bX [.slice a1 D c1] E ?_);intro _ _ _ I;exact re hm (I.sE [2,0,1])

instance : Ct 18 @Z8d:=⟨@Z8d,cf18⟩
theorem wlK {P:Program} {ops:Array Oper} {rest:List Oper} {Q:Exit→Act→World→Prop} {n:NF} {J:Nat→Value} {L M:List (Nat×Value)} {d:Nat} {w:World} {b c:Bool} (hk : ∀(J:Nat→Value) (b:Bool),b=c→wpList P ops Q rest (env n J ((d,.bool b)::M)) w) (hs:Has n J L ((d,.bool b)::M)) (e:b=c):wpList P ops Q rest (env n J L) w:=wlR (fun J=>hk J b e) hs
theorem zw {A H:Prop} (b:Bool) (hk:H) (h:(b=true ∨ b=false)→H→A:=by
  rintro(hb | hb) hk <;> (repeat (first | exact wlK hk (by repeat (first | exact trivial | refine⟨rfl,?_⟩)) (by rw [hb]; rfl) | with_reducible refine rg ?_ | ((with_reducible apply pv); (exact opv)) | ((with_reducible apply gT); (exact rfl); (exact rfl); (first | assumption | exact rfl)) | ((with_reducible apply gF); (exact rfl); (exact rfl); (first | assumption | exact rfl)) | ((with_reducible apply gU); (exact rfl); (exact rfl)) | ((with_reducible apply s0a); (exact rfl); (exact rfl); (exact gwS); (intro _; exact opv)) | ((with_reducible apply sUa); (exact rfl); (exact gUS)) | ((with_reducible apply s1a); (exact rfl); (exact rfl); (exact gwS); (exact opv)) | ((with_reducible apply And.intro); (exact stS)) | ((with_reducible apply qv); (intro _ _; exact opq)) | ((with_reducible apply qgT); (exact rfl); (exact rfl); (first | assumption | exact rfl)) | ((with_reducible apply qgF); (exact rfl); (exact rfl); (first | assumption | exact rfl)) | ((with_reducible apply qgU); (exact rfl); (exact rfl)) | ((with_reducible apply t0a); (exact rfl); (exact rfl); (exact rfl); (exact gwS); (intro _; exact opv)) | ((with_reducible apply tUa); (exact rfl); (exact rfl); (exact gUS); (kernel_rfl)) | ((with_reducible apply t1a); (exact rfl); (exact rfl); (exact rfl); (exact gwS); (exact opv))))):A:=h (Bool.eq_false_or_eq_true b) hk
theorem Q8y {p0:K0} {p1:List UInt8} (hS:Sep g T0 w0 [Y6 R,H6 [Q23 p1.toArray]]) (h1:Q63 a1 c1 T0 w0 p0.Type_.Fields) (Z0s:Ln Q0l Q0k H6) : ∀ r,Q8z p0 p1=some r →
    Cl 138 #[.agg (Q3e p0 a1 c1).toArray,pt Q0l Q0k] w0 (K2 T0 w0 fun T w v=>v = .bool r∧Sep g T w (R ++ [H6 [Q23 p1.toArray]])∧True):=by
  intro r hm;refine enter func138 rfl ntmps138 rfl fun J => ?_;unfold Q8z at hm;refine sq2 (bX (Q3e p0 a1 c1) hS ?_);intro _ _ _ D;refine kA ?_;exact fkC (d:=14) (c:=((p0.Type_.Kind == 5)&&(decide (p0.Type_.Name=p1)))) 6 [] rfl (fun hk=>zw (p0.Type_.Kind == 5) hk) fun J=>re hm (D.sE [1,2])

instance : Ct 138 @Q8y:=⟨@Q8y,cf138⟩
theorem Z0f {p0:List K0} {v_p0} {Z5:Y9} {p1:List UInt8} (hS:Sep g T0 w0 [Y6 R,Z5,H6 [Q23 p1.toArray]]) (hV_p0:Vw Z5 P4 v_p0 p0) (Z0s:Ln Q0l Q0k H6) : ∀ r,Q7z p0 p1=some r →
    Cl 137 #[v_p0,.func (.func 138) #[] #[pt Q0l Q0k]] w0 (K2 T0 w0 fun T w v=>v=iv r∧Sep g T w (R ++ [Z5,H6 [Q23 p1.toArray]])∧True):=by
  intro r hm;refine enter func137 rfl ntmps137 rfl fun J => ?_;unfold Q7z at hm;refine qN ?_;refine sq2 (qU ?_);refine pv (Z1k (v:=v_p0) rfl) (pv (r_lnV rfl (hS.view (i:=1) ⟨rfl,rfl⟩ hV_p0) underlying124) (pn ?_));refine lpJ hm (fun I K m a O => ∃ U D,JR (nf 19) g T0 w0 a O U (X5 I m D=some K) [(0,v_p0),(1,.func (.func 138) #[] #[pt Q0l Q0k]),(7,iv (qQ p0:Int)),(8,iv D)] [Y6 R,Z5,H6 [Q23 p1.toArray]]) (fun _ _ h=>je h (hS.sE [0,1,2])) ?_;rintro I aa K ab _ _ O ⟨U,D,J,ac,rfl,E,_⟩;obtain⟨m1,_,rfl,hm,V⟩:=lrE ac aa;refine qN ?_;refine sq2 (cd hm ?_ ?_) <;> intro af hm
  · refine kE ?_;refine blk (qN ?_);refine sq2 ?_;obtain⟨u1,ad,hm⟩:=Y0 hm;obtain⟨cs1,ae,_⟩:=(E.view (i:=1) ⟨rfl,rfl⟩ hV_p0).ixcS ad rfl;obtain⟨a1,c1,rfl,h1⟩:=M9 ae;refine pu ?_;refine pv (Z1k (v:=v_p0) rfl) (pu ?_);refine cB cf138 hm (Q8y (E.bE [0,1] [2]) h1 Z0s) ?_;rintro _ _ _ _ _ ⟨rfl,W,_⟩ hm;refine cd hm ?_ ?_ <;> intro ag hm
    · refine qN ?_;have hm:=S4 hm V ab;exact re hm (W.sE [0,1,2])
    exact lg hm V (W.sE [0,1,2])
  exact zr hm E

instance : Ct 137 @Z0f:=⟨@Z0f,cf137⟩
theorem Z0o {p0:Z7} {p1:List UInt8} (hS:Q36 a1 n1 c1 Z5 T0 g w0 R p0.list) (Z3:Ln Z9 Z8 Z5) : ∀ r,Q1d p0 p1=some r →
    Cl 96 #[pt Z9 Z8,Q23 p1.toArray] w0 (K2 T0 w0 fun T w v=>v=iv r∧Q30 a1 n1 c1 Z5 T g w R p0.list):=by
  intro r hm;refine enter func96 rfl ntmps96 rfl fun J => ?_;unfold Q1d at hm;refine sq2 (bX [.string ⟨p1.toArray⟩] hS ?_);intro _ D _ E;refine kA ?_;refine pv (Y3o (u := .func (.func 138) #[] #[pt D 0]) rfl) (cB cf137 hm (Z0f (Z5:=J2 P4 123 (.slice a1 n1 c1) p0.list) (E.bE [1,2] [3,0]) vwOwn (Q3m D)) ?_);rintro _ _ _ _ _ ⟨rfl,I,_⟩ hm;exact re hm (I.sE [0,1,2])

instance : Ct 96 @Z0o:=⟨@Z0o,cf96⟩
theorem Z0n {p0:K0} {p1:K0} (hS:Sep g T0 w0 [Y6 R,H6 (Q3e p1 a2 c2)]) (h1:Q63 a1 c1 T0 w0 p0.Type_.Fields) (Z0s:Ln Q0l Q0k H6) (h2:Q63 a2 c2 T0 w0 p1.Type_.Fields) : ∀ r,Z0z p0 p1=some r →
    Cl 139 #[.agg (Q3e p0 a1 c1).toArray,pt Q0l Q0k] w0 (K2 T0 w0 fun T w v=>v = .bool r∧Sep g T w (R ++ [H6 (Q3e p1 a2 c2)])∧True):=by
  intro r hm;refine enter func139 rfl ntmps139 rfl fun J => ?_;unfold Z0z at hm;refine sq2 (bX (Q3e p0 a1 c1) hS ?_);intro _ D _ E;refine kA ?_;refine fkC (d:=19) (c:=((p0.Type_.Kind == p1.Type_.Kind)&&(p0.Type_.Elem == p1.Type_.Elem))) 8 [(1,pt Q0l Q0k),(2,pt D 0)] rfl (fun hk=>zw (p0.Type_.Kind == p1.Type_.Kind) hk) fun J=>pu ?_;refine fkC (d:=28) (c:=(((p0.Type_.Kind == p1.Type_.Kind)&&(p0.Type_.Elem == p1.Type_.Elem))&&(p0.Type_.Len == p1.Type_.Len))) 8 [(1,pt Q0l Q0k)] rfl (fun hk=>zw ((p0.Type_.Kind == p1.Type_.Kind)&&(p0.Type_.Elem == p1.Type_.Elem)) hk) fun J=>pu ?_;exact fkC (d:=34) (c:=((((p0.Type_.Kind == p1.Type_.Kind)&&(p0.Type_.Elem == p1.Type_.Elem))&&(p0.Type_.Len == p1.Type_.Len))&&(p1.Type_.Kind != 5))) 5 [] rfl (fun hk=>zw (((p0.Type_.Kind == p1.Type_.Kind)&&(p0.Type_.Elem == p1.Type_.Elem))&&(p0.Type_.Len == p1.Type_.Len)) hk) fun J=>re hm (E.sE [1,2])

instance : Ct 139 @Z0n:=⟨@Z0n,cf139⟩
theorem Q8s {p0:List K0} {v_p0} {Z5:Y9} {p1:K0} (hS:Sep g T0 w0 [Y6 R,Z5,H6 (Q3e p1 a1 c1)]) (hV_p0:Vw Z5 P4 v_p0 p0) (Z0s:Ln Q0l Q0k H6) (h1:Q63 a1 c1 T0 w0 p1.Type_.Fields) : ∀ r,Q4t p0 p1=some r →
    Cl 137 #[v_p0,.func (.func 139) #[] #[pt Q0l Q0k]] w0 (K2 T0 w0 fun T w v=>v=iv r∧Sep g T w (R ++ [Z5,H6 (Q3e p1 a1 c1)])∧True):=by
  intro r hm;refine enter func137 rfl ntmps137 rfl fun J => ?_;unfold Q4t at hm;refine qN ?_;refine sq2 (qU ?_);refine pv (Z1k (v:=v_p0) rfl) (pv (r_lnV rfl (hS.view (i:=1) ⟨rfl,rfl⟩ hV_p0) underlying124) (pn ?_));refine lpJ hm (fun I K m a O => ∃ U D,JR (nf 19) g T0 w0 a O U (X5 I m D=some K) [(0,v_p0),(1,.func (.func 139) #[] #[pt Q0l Q0k]),(7,iv (qQ p0:Int)),(8,iv D)] [Y6 R,Z5,H6 (Q3e p1 a1 c1)]) (fun _ _ h=>je h (hS.sE [0,1,2])) ?_;rintro I aa K ab _ _ O ⟨U,D,J,ac,rfl,E,ad⟩;obtain⟨m1,_,rfl,hm,V⟩:=lrE ac aa;refine qN ?_;refine sq2 (cd hm ?_ ?_) <;> intro ag hm
  · refine kE ?_;refine blk (qN ?_);refine sq2 ?_;obtain⟨u1,ae,hm⟩:=Y0 hm;obtain⟨cs1,af,_⟩:=(E.view (i:=1) ⟨rfl,rfl⟩ hV_p0).ixcS ae rfl;obtain⟨_,c2,rfl,h2⟩:=M9 af;refine pu ?_;refine pv (Z1k (v:=v_p0) rfl) (pu ?_);refine cB cf139 hm (Z0n (E.bE [0,1] [2]) h2 Z0s (h1.mono ad)) ?_;rintro _ _ _ _ _ ⟨rfl,W,_⟩ hm;refine cd hm ?_ ?_ <;> intro ah hm
    · refine qN ?_;have hm:=S4 hm V ab;exact re hm (W.sE [0,1,2])
    exact lg hm V (W.sE [0,1,2])
  exact zr hm E

instance : Ct 137 @Q8s:=⟨@Q8s,cf137⟩
theorem Z5p {p0:Z7} {p1:K0} (hS:Q36 a1 n1 c1 Z5 T0 g w0 R p0.list) (Z3:Ln Z9 Z8 Z5) (h1:Q63 a2 c2 T0 w0 p1.Type_.Fields) : ∀ r,Q4w p0 p1=some r →
    Cl 97 #[pt Z9 Z8,.agg (Q3e p1 a2 c2).toArray] w0 (Q65 Z5 T0 w0 g R r.1 r.2.1 r.2.2.list):=by
  intro r hm;refine enter func97 rfl ntmps97 rfl fun J => ?_;unfold Q4w at hm;refine sq2 (bX (Q3e p1 a2 c2) hS ?_);intro _ E I K;refine kA ?_;refine pv (Y3o (u := .func (.func 139) #[] #[pt E 0]) rfl) (cB cf137 hm (Q8s (Z5:=J2 P4 123 (.slice a1 n1 c1) p0.list) (K.bE [1,2] [3,0]) vwOwn (Q3m E) (h1.mono I)) ?_);rintro _ _ _ _ _ ⟨rfl,D,_⟩ hm;refine pn ?_;refine sq2 (blk (sq2 (cd hm ?_ ?_))) <;> intro ab hm
  · exact sq2 (re hm (D.sE [0,1,2]))
  refine sq2 (cd hm ?_ ?_) <;> intro ac hm
  · exact sq2 (re hm (D.sE [0,1,2]))
  refine kE ?_;refine rsS [0,0,0,0,1,1,2,2,0,0,2] [0,1,2,3,4,5,6,7,8,9,10] D fun w3 ae O=>s2W [0] ?_;refine obS (r:=P4) (l:=([p1]:List K0)) (css := [(Q3e p1 a2 c2)]) O ⟨(Q1j (x:=p1) (h1.mono ch):P4.rp _ _ _ _),trivial⟩ ?_;intro _ _ _ c3 _ U;refine pu ?_;obtain⟨_,V,hm⟩:=Y0 hm;refine s2W [0] ?_;refine oaO 3 U (K3 V) ?_;intro _ _ _ c4 _ W;refine s2W [] ?_;refine osB 2 0 Z3 W ?_;intro _ _ aa;refine pu ?_;exact se (K1 [(0,pt Z9 Z8)] ⟨rfl,trivial⟩ fun J=>sq2 (re hm (aa.sE [1,2,3])))

instance : Ct 97 @Z5p:=⟨@Z5p,cf97⟩
theorem Z1l {p0:Z7} {p1:List UInt8} (hS:Q36 a1 n1 c1 Z5 T0 g w0 R p0.list) (Z3:Ln Z9 Z8 Z5) : ∀ r,Q9l p0 p1=some r →
    Cl 65 #[pt Z9 Z8,Q23 p1.toArray] w0 (Q65 Z5 T0 w0 g R r.1 r.2.1 r.2.2.list):=by
  intro r hm;refine enter func65 rfl ntmps65 rfl fun J => ?_;unfold Q9l at hm;exact zr hm hS

instance : Ct 65 @Z1l:=⟨@Z1l,cf65⟩
theorem D7 {p0:Pos} {p1} (hS:Sep g T0 w0 [Y6 R])  : ∀ r,X0 p0 p1=some r →
    Cl 75 #[Q48 p0,iv p1] w0 (exR r (fun r=>K2 T0 w0 fun T w v=>v = .tuple #[]∧Q16 T g w R) (fun r=>C7 T0 w0 fun T w v=>v = .iface 89 (Q25 r.pos r.e)∧Q16 T g w R)):=by
  intro r hm;refine enter func75 rfl ntmps75 rfl fun J => ?_;unfold X0 at hm;exact zr hm hS

instance : Ct 75 @D7:=⟨@D7,Y2y⟩
theorem Q1y {p0:Pos} {p1} (hS:Sep g T0 w0 [Y6 R])  : ∀ r,L6 p0 p1=some r →
    Cl 66 #[Q48 p0,iv p1] w0 (exR r (fun r=>K2 T0 w0 fun T w v=>v = .tuple #[]∧Q16 T g w R) (fun r=>C7 T0 w0 fun T w v=>v = .iface 89 (Q25 r.pos r.e)∧Q16 T g w R)):=by
  intro r hm;refine enter func66 rfl ntmps66 rfl fun J => ?_;unfold L6 at hm;exact zr hm hS

instance : Ct 66 @Q1y:=⟨@Q1y,cf66⟩
theorem Z1m {p0:Z7} {p1:List UInt8} (hS:Q36 a1 n1 c1 Z5 T0 g w0 R p0.list) (Z3:Ln Z9 Z8 Z5) : ∀ r,Q9m p0 p1=some r →
    Cl 111 #[pt Z9 Z8,Q23 p1.toArray] w0 (K2 T0 w0 fun T w v=>v = .tuple #[iv r.1,iv r.2]∧Q30 a1 n1 c1 Z5 T g w R p0.list):=by
  intro r hm;refine enter func111 rfl ntmps111 rfl fun J => ?_;unfold Q9m at hm;exact zr hm hS

instance : Ct 111 @Z1m:=⟨@Z1m,cf111⟩
theorem Q9a {p0:Z7} {p1} (hS:Q36 a1 n1 c1 Z5 T0 g w0 R p0.list) (Z3:Ln Z9 Z8 Z5) : ∀ r,A3 p0 p1=some r →
    Cl 113 #[pt Z9 Z8,iv p1] w0 (K2 T0 w0 fun T w v=>v = .bool r∧Q30 a1 n1 c1 Z5 T g w R p0.list):=by
  intro r hm;refine enter func113 rfl ntmps113 rfl fun J => ?_;unfold A3 at hm;refine qN ?_;refine qU ?_;refine pv (Y6g rfl rfl rfl underlying78) (pu ?_);exact fkC (d:=19) (c:=((decide (0≤p1))&&(decide (p1 < (qQ p0.list:Int))))) 8 [] rfl (fun hk=>zw (decide (0≤p1)) hk) fun J=>re hm (hS.sE [0,1,2])

instance : Ct 113 @Q9a:=⟨@Q9a,cf113⟩
theorem Z2b {p0:Z7} {p1} (hS:Q36 a1 n1 c1 Z5 T0 g w0 R p0.list) (Z3:Ln Z9 Z8 Z5) : ∀ r,Q4x p0 p1=some r →
    Cl 112 #[pt Z9 Z8,iv p1] w0 (Q65 Z5 T0 w0 g R r.1 r.2.1 r.2.2.list):=by
  intro r hm;refine enter func112 rfl ntmps112 rfl fun J => ?_;unfold Q4x at hm;exact zr hm hS

instance : Ct 112 @Z2b:=⟨@Z2b,cf112⟩
theorem A6 {p0:Q0} {p1:Pos} {p2:P9} (hS:Q28 a1 a2 a3 a4 a5 a6 b1 oo1 n1 c1 n2 c2 n3 c3 n4 c4 n5 c5 n6 c6 Z5 H1 T0 g w0 pv1 r1 r2 R p0) (Z3:Ln Z9 Z8 Z5) (hL1:Ln b1 oo1 H1) : ∀ r,E8 p0 p1 p2=some r →
    Cl 73 #[pt Z9 Z8,Q48 p1,.agg (Z5i p2).toArray] w0 (exR r (fun r=>K2 T0 w0 (Q98 a2 a3 a4 a5 a6 b1 oo1 n2 c2 n3 c3 n4 c4 n5 c5 n6 c6 Z5 H1 g pv1 r1 r2 R r.1 r.2)) (fun r=>C7 T0 w0 (Q49 a2 a3 a4 a5 a6 b1 oo1 n2 c2 n3 c3 n4 c4 n5 c5 n6 c6 Z5 H1 g pv1 r1 r2 R r.1.pos r.1.e r.2))):=by
  intro r hm;refine enter func73 rfl ntmps73 rfl fun J => ?_;unfold E8 at hm;refine sq2 (bX [iv p1.Line,iv p1.Col] hS ?_);intro _ D _ am;refine bX (Z5i p2) am ?_;intro w2 b3 _ E;refine kD ?_;refine N5 hm (fun ac a I => ∃ K O,JR (nf 53) g T0 w2 a I K (ac O=some r) [(0,pt Z9 Z8),(4,pt D 0),(5,pt b3 0),(7,iv O)] ([U6 b3 (Z5i p2),U6 D [iv p1.Line,iv p1.Col],Y6 R]++X3 p0 Z5 H1 b1 oo1 a1 n1 c1 a2 n2 c2 a3 n3 c3 a4 n4 c4 r1 r2 a5 n5 c5 a6 n6 c6 pv1)) (fun ac hm => ?_) ?_
  · refine qN ?_;refine blk (sq2 (cd hm ?_ ?_)) <;> intro ay hm
    · exact je hm (E.sE (Z2 0 13))
    refine sq2 (cd hm ?_ ?_) <;> intro az hm
    · exact je hm (E.sE (Z2 0 13))
    refine sq2 (cd hm ?_ ?_) <;> intro aA hm
    · refine sq2 (rsS [0,0,0,1,0,1,2,0,0,0,0,0] [0,1,2,3,4,5,6,7,8,9,10,11] E fun w4 aC ao => ?_);obtain⟨_,ap,hm⟩:=Y0 hm;refine sS [] cf111 (Z1m (ao.bE (Z2 0 4++Z2 6 7) [4,5]) hL1 _ ap) ?_;have dd:KD [(6,[3,5])]:=⟨trivial⟩;exact zo hm
    exact je hm (E.sE (Z2 0 13))
  rintro _ I ⟨K,O,J,hm,rfl,aq,_⟩;refine sq2 (qN ?_);refine lpJ hm (fun ad o1 m a w8 => ∃(T5:_) (U:Z7) (a7:_) (n7:_) (c7:_) (V:_) (W:_),JR (nf 53) g K I a w8 T5 (X5 ad m (V,W,U)=some o1) [(0,pt Z9 Z8),(4,pt D 0),(7,iv V),(35,iv p2.Stars),(36,iv W)] ([U6 D [iv p1.Line,iv p1.Col],Y6 R]++X3 ({p0 with t:=U}) Z5 H1 b1 oo1 a7 n7 c7 a2 n2 c2 a3 n3 c3 a4 n4 c4 r1 r2 a5 n5 c5 a6 n6 c6 pv1)) (fun _ _ h=>je h (aq.sE (Z2 1 12))) ?_;rintro ad ar o1 aj _ _ w8 ⟨T5,U,a7,n7,c7,V,W,J,au,rfl,ak,_⟩;obtain⟨m1,_,rfl,hm,aa⟩:=lrE au ar;refine qN ?_;refine sq2 (cd hm ?_ ?_) <;> intro aE hm
  · refine kE ?_;refine blk (qU ?_);refine cB cf112 hm (Z2b (ak.bE ([0,1,2]++Z2 5 7) [3,4]) hL1) ?_;rintro _ _ _ _ _ ⟨_,_,c8,rfl,av,_⟩ hm;refine kA ?_;refine cP cf66 hm (Q1y (av.bE (Z2 0 12) [])) ?_ ?_
    · rintro _ _ _ _ _ ⟨rfl,aw,_⟩ hm;have hm:=S4 hm aa aj;exact pe hm (aw.sE ([1,2,10,11]++Z2 3 7))
    rintro _ _ _ _ _ ⟨rfl,ax,_⟩ hm;refine pn ?_;exact lg hm aa (ax.sE ([0,1,2,10,11]++Z2 3 7))
  have hm:=Q5r hm aa aj;exact zr hm ak

instance : Ct 73 @A6:=⟨@A6,cf73⟩
theorem Z0q {p0:Z7} {p1 p2} (hS:Q36 a1 n1 c1 Z5 T0 g w0 R p0.list) (Z3:Ln Z9 Z8 Z5) : ∀ r,Q8e p0 p1 p2=some r →
    Cl 98 #[pt Z9 Z8,iv p1,iv p2] w0 (Q65 Z5 T0 w0 g R r.1 r.2.1 r.2.2.list):=by
  intro r hm;refine enter func98 rfl ntmps98 rfl fun J => ?_;unfold Q8e at hm;exact zr hm hS

instance : Ct 98 @Z0q:=⟨@Z0q,cf98⟩
theorem Q7j {p0:Q0} {p1:N0} (hS:Q28 a1 a2 a3 a4 a5 a6 b1 oo1 n1 c1 n2 c2 n3 c3 n4 c4 n5 c5 n6 c6 Z5 H1 T0 g w0 pv1 r1 r2 R p0) (Z3:Ln Z9 Z8 Z5) (hL1:Ln b1 oo1 H1) (h1:Q15 a7 c7 T0 w0 p1.Dims) (h2:Q10 a8 c8 T0 w0 p1.Init) : ∀ r,I2 p0 p1=some r →
    Cl 67 #[pt Z9 Z8,Q105 a7 a8 c7 c8 p1] w0 (exR r (fun r=>K2 T0 w0 (Q98 a2 a3 a4 a5 a6 b1 oo1 n2 c2 n3 c3 n4 c4 n5 c5 n6 c6 Z5 H1 g pv1 r1 r2 R r.1 r.2)) (fun r=>C7 T0 w0 (Q49 a2 a3 a4 a5 a6 b1 oo1 n2 c2 n3 c3 n4 c4 n5 c5 n6 c6 Z5 H1 g pv1 r1 r2 R r.1.pos r.1.e r.2))):=by
  intro r hm;refine enter func67 rfl ntmps67 rfl fun J => ?_;unfold I2 at hm;refine sq2 (bX (Y1k p1 a7 c7 a8 c8) hS ?_);intro _ E _ af;refine kA ?_;refine cP cf73 hm (A6 (af.bE [0,1] (Z2 2 10)) Z3 hL1) ?_ ?_
  · exact zk
  rintro y1 _ T1 w2 _ ⟨_,_,c9,rfl,aj,_⟩ hm;refine kC ?_;refine lpJ hm (fun U V m a W => ∃(T2:_) (I:Z7) (ab:_) (n8:_) (c10:_) (K:_) (D:_),JR (nf 44) g T1 w2 a W T2 (X5 U m (K,D,I)=some V) [(0,pt Z9 Z8),(3,pt E 0),(5,iv K),(6,iv D)] ([U6 E (Y1k p1 a7 c7 a8 c8),Y6 R]++X3 ({y1.2 with t:=I}) Z5 H1 b1 oo1 ab n8 c10 a2 n2 c2 a3 n3 c3 a4 n4 c4 r1 r2 a5 n5 c5 a6 n6 c6 pv1)) (fun _ _ h=>je h (aj.sE (Z2 0 12))) ?_;rintro U ak V ad _ _ W ⟨T2,I,ab,n8,c10,K,D,J,am,rfl,ae,_⟩;obtain⟨m1,_,rfl,hm,O⟩:=lrE am ak;refine sq2 (sq2 (cd hm ?_ ?_)) <;> intro av hm
  · refine kE ?_;refine blk (sq2 (rsS [0,0,0,1,0,0,1,0,0,1,0,2,0,0,0,0,0] [0,1,2,3,4,5,6,7,8,9,10,11,12,13,14,15,16] ae fun w4 ax an => ?_));obtain⟨u1,_,hm⟩:=Y0 hm;obtain⟨y2,ap,hm⟩:=Y0 hm;refine sS [] cf98 (Z0q (an.bE ([0,1,2]++Z2 5 7) [3,4]) hL1 _ ap) ?_;rintro _ _ _ _ ⟨_,_,c11,rfl,aq,_⟩;refine kA ?_;refine cP cf66 hm (Q1y (aq.bE (Z2 0 12) [])) ?_ ?_
    · rintro _ _ _ _ _ ⟨rfl,ar,_⟩ hm;have hm:=S4 hm O ad;exact pe hm (ar.sE ([1,2,10,11]++Z2 3 7))
    rintro _ _ _ _ _ ⟨rfl,au,_⟩ hm;refine nil (Y6c (pu ?_));exact nil (t_blk (K1 [(0,pt Z9 Z8),(3,pt E 0),(5,iv y2.1),(6,iv D)] ⟨rfl,rfl,rfl,rfl,trivial⟩ fun J=>lg hm O (au.sE ([0,1,2,10,11]++Z2 3 7))))
  have hm:=Q5r hm O ad;exact zr hm ae

instance : Ct 67 @Q7j:=⟨@Q7j,cf67⟩
theorem Z4n {p0:K5} (hS:Sep g T0 w0 [Y6 R])  : ∀ r,Z1d p0=some r →
    Cl 141 #[Q103 p0] w0 (Q26 T0 w0 g R r):=by
  intro r hm;refine enter func141 rfl ntmps141 rfl fun J => ?_;unfold Z1d at hm;exact zr hm hS

instance : Ct 141 @Z4n:=⟨@Z4n,cf141⟩
theorem Z2q {p0:List K5} (hS:Sep g T0 w0 [Y6 R]) (h1:Q72 a1 c1 T0 w0 p0) : ∀ r,Q4s p0=some r →
    Cl 171 #[sv a1 p0 c1,.func (.func 141) #[] #[]] w0 (Q37 T0 w0 g R r):=by
  intro r hm;refine enter func171 rfl ntmps171 rfl fun J => ?_;unfold Q4s at hm;refine qN ?_;refine sq2 (qN ?_);refine lpJ hm (fun E I m a K => ∃ O D,JR (nf 19) g T0 w0 a K O (X5 E m D=some I) [(0,sv a1 p0 c1),(1,.func (.func 141) #[] #[]),(7,iv (qQ p0:Int)),(8,iv D)] [Y6 R]) (fun _ _ h=>je h (hS.sE [0])) ?_;rintro E U I _ _ _ K ⟨O,D,J,V,rfl,W,_⟩;obtain⟨m1,_,rfl,hm,_⟩:=lrE V U;exact zr hm W

instance : Ct 171 @Z2q:=⟨@Z2q,cf171⟩
theorem Q8a {p0:List K5} (hS:Sep g T0 w0 [Y6 R]) (h1:Q72 a1 c1 T0 w0 p0) : ∀ r,Q7r p0=some r →
    Cl 140 #[sv a1 p0 c1,.func (.func 141) #[] #[]] w0 (Q26 T0 w0 g R r):=by
  intro r hm;refine enter func140 rfl ntmps140 rfl fun J => ?_;unfold Q7r at hm;exact zr hm hS

instance : Ct 140 @Q8a:=⟨@Q8a,Y7d⟩
theorem Z4m {p0:K5} {p1:Z7} (hS:Sep g T0 w0 (Q59 a1 b1 oo1 n1 c1 H6 H1 R p1.list)) (Z0s:Ln Q0l Q0k H6) (hL1:Ln b1 oo1 H1) : ∀ r,Z1c p0 p1=some r →
    Cl 142 #[Q103 p0,pt Q0l Q0k] w0 (Q57 a1 b1 oo1 n1 c1 H6 H1 T0 w0 g R r p1.list):=by
  intro r hm;refine enter func142 rfl ntmps142 rfl fun J => ?_;unfold Z1c at hm;exact zr hm hS

instance : Ct 142 @Z4m:=⟨@Z4m,cf142⟩
theorem Z2p {p0:List K5} {p1:Z7} (hS:Sep g T0 w0 (Q59 a2 b1 oo1 n1 c2 H6 H1 R p1.list)) (h1:Q72 a1 c1 T0 w0 p0) (Z0s:Ln Q0l Q0k H6) (hL1:Ln b1 oo1 H1) : ∀ r,Q4r p0 p1=some r →
    Cl 171 #[sv a1 p0 c1,.func (.func 142) #[] #[pt Q0l Q0k]] w0 (K2 T0 w0 fun T w v=>v=iv r∧Sep g T w (R ++ [H6 [pt b1 oo1],H1 [.slice a2 n1 c2],Q12 a2 n1 c2 p1.list])∧True):=by
  intro r hm;refine enter func171 rfl ntmps171 rfl fun J => ?_;unfold Q4r at hm;refine qN ?_;refine sq2 (qN ?_);refine lpJ hm (fun E I m a K => ∃ O D,JR (nf 19) g T0 w0 a K O (X5 E m D=some I) [(0,sv a1 p0 c1),(1,.func (.func 142) #[] #[pt Q0l Q0k]),(7,iv (qQ p0:Int)),(8,iv D)] (Q59 a2 b1 oo1 n1 c2 H6 H1 R p1.list)) (fun _ _ h=>je h (hS.sE (Z2 0 4))) ?_;rintro E U I _ _ _ K ⟨O,D,J,V,rfl,W,_⟩;obtain⟨m1,_,rfl,hm,_⟩:=lrE V U;exact zr hm W

instance : Ct 171 @Z2p:=⟨@Z2p,cf171⟩
theorem Q5u {p0:List K5} {p1:Z7} (hS:Sep g T0 w0 (Q59 a2 b1 oo1 n1 c2 H6 H1 R p1.list)) (h1:Q72 a1 c1 T0 w0 p0) (Z0s:Ln Q0l Q0k H6) (hL1:Ln b1 oo1 H1) : ∀ r,Q5h p0 p1=some r →
    Cl 140 #[sv a1 p0 c1,.func (.func 142) #[] #[pt Q0l Q0k]] w0 (Q57 a2 b1 oo1 n1 c2 H6 H1 T0 w0 g R r p1.list):=by
  intro r hm;refine enter func140 rfl ntmps140 rfl fun J => ?_;unfold Q5h at hm;exact zr hm hS

instance : Ct 140 @Q5u:=⟨@Q5u,Y7d⟩
theorem V4 {p0:Z7} {p1} (hS:Q36 a1 n1 c1 Z5 T0 g w0 R p0.list) (Z3:Ln Z9 Z8 Z5) : ∀ r,U8 p0 p1=some r →
    Cl 104 #[pt Z9 Z8,iv p1] w0 (K2 T0 w0 fun T w v=>v=iv r∧Q30 a1 n1 c1 Z5 T g w R p0.list):=by
  intro r hm;refine enter func104 rfl ntmps104 rfl fun J => ?_;unfold U8 at hm;exact zr hm hS

instance : Ct 104 @V4:=⟨@V4,Z1i⟩
theorem Z4l {p0:K5} {p1:Z7} (hS:Sep g T0 w0 (Q59 a1 b1 oo1 n1 c1 H6 H1 R p1.list)) (Z0s:Ln Q0l Q0k H6) (hL1:Ln b1 oo1 H1) : ∀ r,Z1b p0 p1=some r →
    Cl 143 #[Q103 p0,pt Q0l Q0k] w0 (Q57 a1 b1 oo1 n1 c1 H6 H1 T0 w0 g R r p1.list):=by
  intro r hm;refine enter func143 rfl ntmps143 rfl fun J => ?_;unfold Z1b at hm;exact zr hm hS

instance : Ct 143 @Z4l:=⟨@Z4l,cf143⟩
theorem Z2o {p0:List K5} {p1:Z7} (hS:Sep g T0 w0 (Q59 a2 b1 oo1 n1 c2 H6 H1 R p1.list)) (h1:Q72 a1 c1 T0 w0 p0) (Z0s:Ln Q0l Q0k H6) (hL1:Ln b1 oo1 H1) : ∀ r,Q4q p0 p1=some r →
    Cl 171 #[sv a1 p0 c1,.func (.func 143) #[] #[pt Q0l Q0k]] w0 (K2 T0 w0 fun T w v=>v=iv r∧Sep g T w (R ++ [H6 [pt b1 oo1],H1 [.slice a2 n1 c2],Q12 a2 n1 c2 p1.list])∧True):=by
  intro r hm;refine enter func171 rfl ntmps171 rfl fun J => ?_;unfold Q4q at hm;refine qN ?_;refine sq2 (qN ?_);refine lpJ hm (fun E I m a K => ∃ O D,JR (nf 19) g T0 w0 a K O (X5 E m D=some I) [(0,sv a1 p0 c1),(1,.func (.func 143) #[] #[pt Q0l Q0k]),(7,iv (qQ p0:Int)),(8,iv D)] (Q59 a2 b1 oo1 n1 c2 H6 H1 R p1.list)) (fun _ _ h=>je h (hS.sE (Z2 0 4))) ?_;rintro E U I _ _ _ K ⟨O,D,J,V,rfl,W,_⟩;obtain⟨m1,_,rfl,hm,_⟩:=lrE V U;exact zr hm W

instance : Ct 171 @Z2o:=⟨@Z2o,cf171⟩
theorem Q5t {p0:List K5} {p1:Z7} (hS:Sep g T0 w0 (Q59 a2 b1 oo1 n1 c2 H6 H1 R p1.list)) (h1:Q72 a1 c1 T0 w0 p0) (Z0s:Ln Q0l Q0k H6) (hL1:Ln b1 oo1 H1) : ∀ r,Q5g p0 p1=some r →
    Cl 140 #[sv a1 p0 c1,.func (.func 143) #[] #[pt Q0l Q0k]] w0 (Q57 a2 b1 oo1 n1 c2 H6 H1 T0 w0 g R r p1.list):=by
  intro r hm;refine enter func140 rfl ntmps140 rfl fun J => ?_;unfold Q5g at hm;exact zr hm hS

instance : Ct 140 @Q5t:=⟨@Q5t,Y7d⟩
theorem Z4k {p0:K5} {p1:K5} (hS:Sep g T0 w0 [Y6 R,H6 (Z1v p1)]) (Z0s:Ln Q0l Q0k H6) : ∀ r,Z1a p0 p1=some r →
    Cl 144 #[Q103 p0,pt Q0l Q0k] w0 (K2 T0 w0 fun T w v=>v = .bool r∧Sep g T w (R ++ [H6 (Z1v p1)])∧True):=by
  intro r hm;refine enter func144 rfl ntmps144 rfl fun J => ?_;unfold Z1a at hm;exact zr hm hS

instance : Ct 144 @Z4k:=⟨@Z4k,cf144⟩
theorem Z2n {p0:List K5} {p1:K5} (hS:Sep g T0 w0 [Y6 R,H6 (Z1v p1)]) (h1:Q72 a1 c1 T0 w0 p0) (Z0s:Ln Q0l Q0k H6) : ∀ r,Q4p p0 p1=some r →
    Cl 171 #[sv a1 p0 c1,.func (.func 144) #[] #[pt Q0l Q0k]] w0 (K2 T0 w0 fun T w v=>v=iv r∧Sep g T w (R ++ [H6 (Z1v p1)])∧True):=by
  intro r hm;refine enter func171 rfl ntmps171 rfl fun J => ?_;unfold Q4p at hm;refine qN ?_;refine sq2 (qN ?_);refine lpJ hm (fun E I m a K => ∃ O D,JR (nf 19) g T0 w0 a K O (X5 E m D=some I) [(0,sv a1 p0 c1),(1,.func (.func 144) #[] #[pt Q0l Q0k]),(7,iv (qQ p0:Int)),(8,iv D)] [Y6 R,H6 (Z1v p1)]) (fun _ _ h=>je h (hS.sE [0,1])) ?_;rintro E U I _ _ _ K ⟨O,D,J,V,rfl,W,_⟩;obtain⟨m1,_,rfl,hm,_⟩:=lrE V U;exact zr hm W

instance : Ct 171 @Z2n:=⟨@Z2n,cf171⟩
theorem Z1g {p0:List K5} {p1:K5} (hS:Sep g T0 w0 [Y6 R,H6 (Z1v p1)]) (h1:Q72 a1 c1 T0 w0 p0) (Z0s:Ln Q0l Q0k H6) : ∀ r,Q0r p0 p1=some r →
    Cl 140 #[sv a1 p0 c1,.func (.func 144) #[] #[pt Q0l Q0k]] w0 (K2 T0 w0 fun T w v=>v = .bool r∧Sep g T w (R ++ [H6 (Z1v p1)])∧True):=by
  intro r hm;refine enter func140 rfl ntmps140 rfl fun J => ?_;unfold Q0r at hm;exact zr hm hS

instance : Ct 140 @Z1g:=⟨@Z1g,Y7d⟩
theorem Z2a {p0:Z7} {p1:List K5} (hS:Q36 a1 n1 c1 Z5 T0 g w0 R p0.list) (Z3:Ln Z9 Z8 Z5) (h1:Q72 a2 c2 T0 w0 p1) : ∀ r,Z0p p0 p1=some r →
    Cl 99 #[pt Z9 Z8,sv a2 p1 c2] w0 (K2 T0 w0 fun T w v=>v=iv r∧Q30 a1 n1 c1 Z5 T g w R p0.list):=by
  intro r hm;refine enter func99 rfl ntmps99 rfl fun J => ?_;unfold Z0p at hm;refine sq2 (bX [pt Z9 Z8] hS ?_);intro _ D ac I;refine kE ?_;refine blk (qU ?_)
  rcases bc hm with ⟨ad,hm⟩ | ⟨ad,hm⟩
  · exact zr hm I
  refine pu ?_;refine cB Y7d hm (Q8a (I.bE (Z2 0 4) []) (h1.mono ac)) ?_;rintro _ _ _ _ _ ⟨rfl,K,_⟩ hm;refine cd hm ?_ ?_ <;> intro aj hm
  · exact sq2 (re hm (K.sE [1,2,3]))
  refine qU ?_;refine pv (Y3o (u := .func (.func 142) #[] #[pt D 0]) rfl) (cB Y7d hm (Q5u (K.bE [1] [0,2,3]) (h1.mono ch) (Q3m D) Z3) ?_);rintro _ _ _ _ _ ⟨rfl,O,_⟩ hm;refine cd hm ?_ ?_ <;> intro ak hm
  · exact sq2 (re hm (O.sE [0,2,3]))
  refine qU ?_;refine pv (Y3o (u := .func (.func 143) #[] #[pt D 0]) rfl) (cB Y7d hm (Q5t (O.bE [0] [1,2,3]) (h1.mono ch) (Q3m D) Z3) ?_);rintro _ _ T3 w4 _ ⟨rfl,U,_⟩ hm;refine cd hm ?_ ?_ <;> intro am hm
  · exact sq2 (re hm (U.sE [0,2,3]))
  refine kC ?_;refine lpJ hm (fun V W m a w5 => ∃ T4 E,JR (nf 36) g T3 w4 a w5 T4 (X5 V m E=some W) [(1,sv a2 p1 c2),(23,sv a2 p1 c2),(24,iv (qQ p1:Int)),(25,iv E)] [Y6 R,Q92 a1 n1 c1 Z5,Q12 a1 n1 c1 p0.list]) (fun _ _ h=>je h (U.sE [0,2,3])) ?_;rintro V ag W _ _ _ w5 ⟨T4,E,J,ah,rfl,ai,_⟩;obtain⟨m1,_,rfl,hm,_⟩:=lrE ah ag;exact zr hm ai

instance : Ct 99 @Z2a:=⟨@Z2a,cf99⟩
theorem Z3q {p0:List K5} (hS:Sep g T0 w0 [Y6 R]) (h1:Q72 a1 c1 T0 w0 p0) : ∀ r,Z0x p0=some r →
    Cl 100 #[sv a1 p0 c1] w0 (K2 T0 w0 fun T w v => ∃ a4 n3 c4,v = .slice a4 n3 c4∧Sep g T w (R ++ [J2 Q2q 178 (.slice a4 n3 c4) r])∧True):=by
  intro r hm;refine enter func100 rfl ntmps100 rfl fun J => ?_;unfold Z0x at hm;refine qN ?_;refine sq2 (qU ?_);refine pv (r_sne rfl rfl rfl underlying119) (pn ?_)
  rcases SlR.nilOr h1 with ⟨D,E⟩ | D
  · subst D;subst E;have hm:some []=some r:=hm;refine cnd (b:=true) rfl (fun _ => ?_) (fun h=>nomatch h);refine qN ?_;have I:=hS.nilO Q2q 178;exact re hm (I.sE [1,0])
  refine cnd rfl (fun h=>absurd (h.symm.trans D) (fun h=>nomatch h)) (fun _=>pn ?_);refine qU ?_;refine wl rfl (bs0S Q2q hS underlying119 sizeOf178 fun W a2 n1 c2 K O => ?_);obtain⟨_,U,hm⟩:=Y0 hm;refine pu ?_;exact wl rfl (apO (q:=0) (l:=([]:List K5)) (us:=p0) O ⟨rfl,rfl⟩ rfl rfl (h1.mono K).v underlying119 el178 (K3 U) fun w2 a3 n2 c3 af V=>re hm (V.sE [1,0]))

instance : Ct 100 @Z3q:=⟨@Z3q,cf100⟩
theorem Q1t {p0:Z7} {p1} (hS:Q36 a1 n1 c1 Z5 T0 g w0 R p0.list) (Z3:Ln Z9 Z8 Z5) : ∀ r,Q1e p0 p1=some r →
    Cl 103 #[pt Z9 Z8,iv p1] w0 (K2 T0 w0 fun T w v=>v=iv r∧Q30 a1 n1 c1 Z5 T g w R p0.list):=by
  intro r hm;refine enter func103 rfl ntmps103 rfl fun J => ?_;unfold Q1e at hm;exact zr hm hS

instance : Ct 103 @Q1t:=⟨@Q1t,cf103⟩
theorem Z4j {p0 p1} (hS:Sep g T0 w0 [Y6 R])  : ∀ r,Z8c p0 p1=some r →
    Cl 102 #[iv p0,iv p1] w0 (Q37 T0 w0 g R r):=by
  intro r hm;refine enter func102 rfl ntmps102 rfl fun J => ?_;unfold Z8c at hm;exact zr hm hS

instance : Ct 102 @Z4j:=⟨@Z4j,cf102⟩
theorem Q8d {p0:K5} {p1} {p2:Z7} {p3} (hS:Sep g T0 w0 [Y6 R,Z5 (Z1v p0),H6 [iv p1],Z5w [pt b1 oo1],H1 [.slice a1 n1 c1],Q12 a1 n1 c1 p2.list,Z5v [iv p3]]) (Z3:Ln Z9 Z8 Z5) (Z0s:Ln Q0l Q0k H6) (hL_p2:Ln Z8t Z7z Z5w) (hL1:Ln b1 oo1 H1) (hL_p3:Ln Z8s Z7y Z5v) : ∀ r,Q3n p0 p1 p2 p3=some r →
    Cl 101 #[pt Z9 Z8,pt Q0l Q0k,pt Z8t Z7z,pt Z8s Z7y] w0 (K2 T0 w0 fun T w v=>v = .bool r.1∧Sep g T w (R ++ [Z5 (Z1v r.2.1),H6 [iv r.2.2.1],Z5w [pt b1 oo1],H1 [.slice a1 n1 c1],Q12 a1 n1 c1 p2.list,Z5v [iv r.2.2.2]])∧True):=by
  intro r hm;refine enter func101 rfl ntmps101 rfl fun J => ?_;unfold Q3n at hm;refine qN ?_;refine sq2 (rsS [0,1,1,0,0,0,1,2,2,0,0,2] [0,1,2,3,4,5,6,7,8,9,10,11] hS fun w1 ai D => ?_);obtain⟨_,E,hm⟩:=Y0 hm;refine sS [(1,iv p1)] cf103 (Q1t (D.bE [0,1,2,3,6] [4,5]) hL1 _ E) ?_;rintro _ _ _ _ ⟨rfl,I,_⟩;refine pu ?_;obtain⟨K,O,hm⟩:=Y0 hm;refine sS [] cf102 (Z4j (I.bE (Z2 0 7) []) _ O) ?_;rintro _ _ _ _ ⟨rfl,U,_⟩;refine s2W [] ?_;refine osB 1 2 Z3 U ?_;intro _ _ V;refine kE ?_;refine rsS [0,0,0,1,1,0,0,0,1,2,0,2] [0,1,2,3,4,5,6,7,8,9,10,11] V fun w5 ak W => ?_;obtain⟨_,aa,hm⟩:=Y0 hm;refine sS [(3,iv K)] Z1i (V4 (W.bE (Z2 0 5) [5,6]) hL1 _ aa) ?_;rintro _ _ _ _ ⟨rfl,ab,_⟩;refine s2W [0] ?_;refine osB 2 0 Z0s ab ?_;intro _ _ ac;refine kE ?_;refine rsS [1,1,0,0,0,1,2,0,2] [0,1,2,3,4,5,6,7,8] ac fun w8 an ad => ?_;obtain⟨_,ae,hm⟩:=Y0 hm;refine sS [(0,iv p3)] cf103 (Q1t (ad.bE (Z2 0 5) [5,6]) hL1 _ ae) ?_;rintro _ _ _ _ ⟨rfl,af,_⟩;refine pu ?_;refine s0 rfl trivial (fun _=>r_imx rfl rfl) rfl (s2W [0] ?_);refine osB 4 0 hL_p3 af ?_;intro _ _ ag;refine pu ?_;exact se (K1 [(1,pt Q0l Q0k)] ⟨rfl,trivial⟩ fun J=>sq2 (re hm (ag.sE [0,1,2,3,5,6,4])))

instance : Ct 101 @Q8d:=⟨@Q8d,cf101⟩
theorem Q9u {p0:Z7} {p1:List UInt8} {p2:List K5} (hS:Q36 a1 n1 c1 Z5 T0 g w0 R p0.list) (Z3:Ln Z9 Z8 Z5) (h1:Q72 a2 c2 T0 w0 p2) : ∀ r,Q6o p0 p1 p2=some r →
    Cl 68 #[pt Z9 Z8,Q23 p1.toArray,sv a2 p2 c2] w0 (K2 T0 w0 fun T w v=>v = .tuple #[iv r.1,iv r.2.1]∧Q30 a1 n1 c1 Z5 T g w R r.2.2.list):=by
  intro r hm;refine enter func68 rfl ntmps68 rfl fun J => ?_;unfold Q6o at hm;refine sq2 (bX [pt Z9 Z8] hS ?_);intro _ D _ aA;refine kB ?_;refine pv (Y4y rfl rfl rfl underlying78) (pn ?_);refine cnd (b:=false) rfl (fun h=>nomatch h) (fun _=>pn ?_);refine qU ?_;refine cB cf96 hm (Z0o (aA.bE [0,1] [2,3]) Z3) ?_;rintro y1 _ _ _ _ ⟨rfl,aa,_⟩ hm;refine kB ?_
  rcases bc hm with ⟨aB,hm⟩ | ⟨aB,hm⟩
  · exact zr hm aa
  obtain⟨u1,ak,hm⟩:=Y0 hm;obtain⟨cs1,aC,_⟩:=(aa.own (i:=3) ⟨rfl,rfl⟩).v.ixcS ak rfl;obtain⟨_,c3,rfl,h2⟩:=M9 aC;refine cd hm ?_ ?_ <;> intro bz hm
  · exact zr hm aa
  refine kB ?_;refine cB cf99 hm (Z2a (aa.bE [0,1] [2,3]) Z3 (h1.mono ch)) ?_;rintro y2 _ _ _ _ ⟨rfl,am,_⟩ hm;refine pu ?_;refine nil (K1 [(2,sv a2 p2 c2),(3,pt D 0),(8,iv y1),(9,iv y2)] ⟨rfl,rfl,rfl,rfl,trivial⟩ fun J => ?_);refine sq2 (cd hm ?_ ?_) <;> intro bA hm
  · exact sq2 (re hm (am.sE [1,2,3]))
  refine kA ?_;refine cB cf100 hm (Z3q (am.bE (Z2 0 4) []) (h1.mono ch)) ?_;rintro y3 _ T3 _ _ ⟨a4,n2,c4,rfl,aG,_⟩ hm;refine kE ?_;refine aL [iv 0] aG ?_;intro _ K _ aI;refine aL [iv 0] aI ?_;intro _ O _ aJ;refine sT 1 aJ ?_;intro _ _ aK;refine sT 0 aK ?_;intro w8 _ aN;refine kA ?_;refine pv (Y3o (u := .func (.func 101) #[] #[pt K 0,pt D 0,pt O 0]) rfl) (pv (r_zf rfl) (pn ?_));refine sq2 (qN ?_);refine lpJ hm (fun an o1 m a w9 => ∃(T4:_) (x4:_) (U:_) (E:List K5) (V:_),JR (nf 84) g T3 w8 a w9 T4 (X5 an m (E,V,U,x4)=some o1) [(3,pt D 0),(8,iv y1),(10,.slice a4 n2 c4),(11,pt K 0),(12,pt O 0),(13,.func (.func 101) #[] #[pt K 0,pt D 0,pt O 0]),(44,iv (qQ y3:Int)),(45,iv V)] [U6 O [iv U],U6 K [iv x4],U6 D [pt Z9 Z8],Y6 R,Q92 a1 n1 c1 Z5,Q12 a1 n1 c1 p0.list,J2 Q2q 178 (.slice a4 n2 c4) E]) (fun _ _ h=>je h (aN.sE (Z2 0 7))) ?_;rintro an aP o1 ar _ _ w9 ⟨T4,x4,U,E,V,J,aQ,rfl,af,_⟩;obtain⟨m1,_,rfl,hm,ag⟩:=lrE aQ aP;refine qN ?_;refine sq2 (cd hm ?_ ?_) <;> intro bB hm
  · refine kE ?_;refine blk (qN ?_);refine sq2 ?_;obtain⟨u2,aS,hm⟩:=Y0 hm;refine pu ?_;obtain⟨u3,ah,hm⟩:=Y0 hm;obtain rfl:u2=u3:=oI (aS.symm.trans ah);obtain⟨cs2,aU,aV⟩:=af.focus (q:=6) ⟨rfl,rfl⟩ ah;cases Z4y aU;obtain⟨_,k2,cp2,hv2,_,_,aW,_⟩:=(af.own (i:=6) ⟨rfl,rfl⟩).v.ixc ah rfl;refine cB cf101 hm (Q8d (Z5:=Z5r Q2q 178 (.slice a4 n2 c4) E (Int.toNat V)) (aV.bE [3] [6,1,2,4,5,0]) (S9 hv2 aW) (Q3m K) (Q3m D) Z3 (Q3m O)) ?_;rintro W _ T5 aY _ ⟨rfl,aZ,_⟩ hm;have au:Sep g T5 aY [Y6 R,J2 Q2q 178 (.slice a4 n2 c4) (List.set E (Int.toNat V) W.2.1),U6 K [iv W.2.2.1],U6 D [pt Z9 Z8],Z5 [.slice a1 n1 c1],J2 P4 123 (.slice a1 n1 c1) p0.list,U6 O [iv W.2.2.2]]:=aZ.unfocus (q:=1) (u:=W.2.1) ⟨rfl,rfl⟩ (Y2s (x:=W.2.1)  : Q2q.rp _ _ _ _);refine cd hm ?_ ?_ <;> intro bC hm
    · refine qN ?_;have hm:=S4 hm ag ar;exact re hm (au.sE [0,4,5])
    exact lg hm ag (au.sE [6,2,3,0,4,5,1])
  have hm:=Q5r hm ag ar;refine kB ?_;refine cB cf102 hm (Z4j (af.bE (Z2 0 7) [])) ?_;rintro _ _ _ _ _ ⟨rfl,ai,_⟩ hm;refine cd hm ?_ ?_ <;> intro bD hm
  · exact sq2 (re hm (ai.sE [3,4,5]))
  refine pn ?_;refine sq2 ?_;obtain⟨u4,aj,hm⟩:=Y0 hm;obtain rfl:u1=u4:=oI (ak.symm.trans aj);obtain⟨cs3,be,_⟩:=(ai.own (i:=5) ⟨rfl,rfl⟩).v.ixcS aj rfl;obtain⟨_,c5,rfl,_⟩:=M9 be;refine kE ?_;refine rsS [0,0,0,0,0,1,1,2,1,0,0,0,2,0,0,2,0,0,2,0,0,2] [0,1,2,3,4,5,6,8,7,9,10,11,12,13,14,15,16,17,18,19,20,21] ai fun bF bG bf => ?_;obtain⟨y6,bg,hm⟩:=Y0 hm;refine sS [(8,iv U)] cf102 (Z4j (bf.bE [3,4,5,6,0,1] []) _ bg) ?_;rintro _ _ _ _ ⟨rfl,bh,_⟩;refine pu ?_;obtain⟨_,_,bi,h4,rfl⟩:=bh.sl 3;obtain⟨u5,aw,hm⟩:=Y0 hm;obtain rfl:u1=u5:=oI (aj.symm.trans aw);refine s2W [] ?_;refine Y0k (q:=2) (j:=4) (u' := {u1 with Type_ := {u1.Type_ with Fields:=E}}) bi ⟨rfl,rfl⟩ aw rfl rfl rfl sizeOf119 rfl rfl rfl (fun c0 I=>by obtain⟨a6,c6,rfl,h5⟩:=M9 I; exact(Q1j (x := {u1 with Type_ := {u1.Type_ with Fields:=E}}) h4:P4.rp _ _ _ _)) fun bK bL bl => ?_;refine pu ?_;obtain⟨u6,bm,hm⟩:=Y0 hm;refine s2W [] ?_;refine Y0k (q:=2) (j:=5) (u' := {u6 with size:=y6}) bl ⟨rfl,rfl⟩ bm rfl rfl rfl sizeOf3 rfl rfl rfl (fun c0 I=>by obtain⟨a7,c7,rfl,h6⟩:=M9 I; exact(Q1j (x := {u6 with size:=y6}) h6:P4.rp _ _ _ _)) fun bN bO bo => ?_;refine pu ?_;obtain⟨u7,bp,hm⟩:=Y0 hm;refine s2W [0] ?_;refine Y0k (q:=2) (j:=6) (u' := {u7 with align:=U}) bo ⟨rfl,rfl⟩ bp rfl rfl rfl sizeOf3 rfl rfl rfl (fun c0 I=>by obtain⟨a8,c8,rfl,h7⟩:=M9 I; exact(Q1j (x := {u7 with align:=U}) h7:P4.rp _ _ _ _)) fun bQ bR bt => ?_;refine pu ?_;obtain⟨u8,bu,hm⟩:=Y0 hm;refine s2W [] ?_;refine Y0k (q:=2) (j:=7) (u' := {u8 with open_:=false}) bt ⟨rfl,rfl⟩ bu rfl rfl rfl sizeOf4 rfl rfl rfl (fun c0 I=>by obtain⟨a9,c9,rfl,h8⟩:=M9 I; exact(Q1j (x := {u8 with open_:=false}) h8:P4.rp _ _ _ _)) fun bU bV bw => ?_;refine pu ?_;exact se (K1 [(8,iv y1)] ⟨rfl,trivial⟩ fun J=>sq2 (re hm (bw.sE [0,1,2])))

instance : Ct 68 @Q9u:=⟨@Q9u,cf68⟩
theorem Q5v {p0:Q0} {p1:List Q3b} (hS:Q28 a1 a2 a3 a4 a5 a6 b1 oo1 n1 c1 n2 c2 n3 c3 n4 c4 n5 c5 n6 c6 Z5 H1 T0 g w0 pv1 r1 r2 R p0) (Z3:Ln Z9 Z8 Z5) (hL1:Ln b1 oo1 H1) (h1:SlR Q9j T0 w0 (sv a7 p1 c7) p1) : ∀ r,Q0x p0 p1=some r →
    Cl 34 #[pt Z9 Z8,sv a7 p1 c7] w0 (exR r (fun r=>K2 T0 w0 fun T w v => ∃ a21 n16 c21,v = .tuple #[]∧Q22 a21 a2 a3 a4 a5 a6 b1 oo1 n16 c21 n2 c2 n3 c3 n4 c4 n5 c5 n6 c6 Z5 H1 T g w pv1 r1 r2 R r) (fun r=>C7 T0 w0 (Q49 a2 a3 a4 a5 a6 b1 oo1 n2 c2 n3 c3 n4 c4 n5 c5 n6 c6 Z5 H1 g pv1 r1 r2 R r.1.pos r.1.e r.2))):=by
  intro r hm;refine enter func34 rfl ntmps34 rfl fun J => ?_;unfold Q0x at hm;refine sq2 (qN ?_);refine lpJ hm (fun I K m a w1 => ∃(T1:_) (x3:Z7) (a8:_) (n7:_) (c8:_) (x2:_),JR (nf 75) g T0 w0 a w1 T1 (X5 I m (x2,x3)=some K) [(0,pt Z9 Z8),(1,sv a7 p1 c7),(15,sv a7 p1 c7),(16,iv (qQ p1:Int)),(17,iv x2)] ([Y6 R]++X3 ({p0 with t:=x3}) Z5 H1 b1 oo1 a8 n7 c8 a2 n2 c2 a3 n3 c3 a4 n4 c4 r1 r2 a5 n5 c5 a6 n6 c6 pv1)) (fun _ _ h=>je h (hS.sE (Z2 0 11))) ?_;rintro I af K U _ _ w1 ⟨T1,x3,a8,n7,c8,x2,J,ag,rfl,ah,_⟩;obtain⟨m1,z1,rfl,hm,D⟩:=lrE ag af;refine qN ?_;refine sq2 (cd hm ?_ ?_) <;> intro bI hm
  · refine kE ?_;refine blk (sq2 ?_);obtain⟨u1,aN,hm⟩:=Y0 hm;obtain⟨cs1,aP,_,hT1⟩:=ixS ah aN h1;obtain⟨_,c9,rfl,h2⟩:=Z4b aP;refine aL zv14 ah ?_;intro _ _ _ aQ;refine sT 0 aQ ?_;intro _ _ aR;refine kE ?_;refine rsS [0,0,0,1,0,1,2,0,0,0,0,0] [0,1,2,3,4,5,6,7,8,9,10,11] aR fun w4 bK aS => ?_;obtain⟨_,aT,hm⟩:=Y0 hm;refine sS [] cf65 (Z1l (aS.bE ([0,1,2]++Z2 5 7) [3,4]) hL1 _ aT) ?_;rintro _ _ _ _ ⟨_,_,c10,rfl,aU,_⟩;refine pn ?_;refine cP cf66 hm (Q1y (aU.bE (Z2 1 11) [])) ?_ ?_
    · have dd:KD [(6,[3,5])]:=⟨trivial⟩;exact zk
    rintro _ _ _ _ _ ⟨rfl,aW,_⟩ hm;exact lg hm D (aW.sE ([0,1,9,10]++Z2 2 7))
  have hm:=Q5r hm D U;refine kD ?_;refine lpJ hm (fun I K m a w8 => ∃(T5:_) (aj:Z7) (ak:Q0) (ay:_) (n9:_) (c11:_) (V:_),JR (nf 75) g T1 w1 a w8 T5 (X5 I m (V,ak,aj)=some K) [(0,pt Z9 Z8),(36,sv a7 p1 c7),(37,iv (qQ p1:Int)),(38,iv V)] ([Y6 R]++X3 ({ak with t:=aj}) Z5 H1 b1 oo1 ay n9 c11 a2 n2 c2 a3 n3 c3 a4 n4 c4 r1 r2 a5 n5 c5 a6 n6 c6 pv1)) (fun _ _ h=>je h (ah.sE (Z2 0 11))) ?_;rintro I af K U _ _ w8 ⟨T5,aj,ak,ay,n9,c11,V,J,ag,rfl,am,_⟩;obtain⟨m1,z1,rfl,hm,D⟩:=lrE ag af;refine qN ?_;refine sq2 (cd hm ?_ ?_) <;> intro bL hm
  · refine kE ?_;refine blk (sq2 ?_);obtain⟨u3,aX,hm⟩:=Y0 hm;obtain⟨cs2,aY,_,hT2⟩:=ixS am aX h1;obtain⟨aA,c12,rfl,h3⟩:=Z4b aY;refine aL zv14 am ?_;intro _ b5 _ ba;refine sT 0 ba ?_;intro be _ bf;refine kD ?_;refine sq2 (qN ?_);have bg:=bf.nilO Q2q 178;refine lpJ hm (fun aC o2 m a aE => ∃(T6:_) (W:Z7) (aa:Q0) (ao:List K5) (ap:_) (aq:_) (c13:_) (aG:_) (aI:_) (c14:_) (ar:_),JR (nf 75) g T5 be a aE T6 (X5 aC m (ao,ar,aa,W)=some o2) [(0,pt Z9 Z8),(9,pt b5 0),(10,.slice ap aq c13),(36,sv a7 p1 c7),(37,iv (qQ p1:Int)),(38,iv V),(43,sv aA u3.Fields c12),(44,iv (qQ u3.Fields:Int)),(45,iv ar)] ([J2 Q2q 178 (.slice ap aq c13) ao,U6 b5 (X1s u3 aA c12),Y6 R]++X3 ({aa with t:=W}) Z5 H1 b1 oo1 aG aI c14 a2 n2 c2 a3 n3 c3 a4 n4 c4 r1 r2 a5 n5 c5 a6 n6 c6 pv1)) (fun _ _ h=>je h (bg.sE (Z2 0 13))) ?_;rintro aC bh o2 bi _ _ aE ⟨T6,W,aa,ao,ap,aq,c13,aG,aI,c14,ar,J,bj,rfl,au,_⟩;obtain⟨_,_,rfl,hm,aJ⟩:=lrE bj bh;refine qN ?_;refine sq2 (cd hm ?_ ?_) <;> intro bM hm
    · refine kE ?_;refine blk (sq2 ?_);obtain⟨O,bk,hm⟩:=Y0 hm;obtain⟨cs3,bl,_,hT3⟩:=ixS au bk h3;obtain⟨_,c15,_,c16,rfl,h4,h5⟩:=Z1w bl;refine aL zv4 au ?_;intro _ _ _ bo;refine sT 0 bo ?_;intro _ _ bp;refine pn ?_;refine Z2k [0,0,1,0,1,2,0,2,2,0] [0,1,2,3,4,5,6,7,8,9] bp (L3 (U4 (U4 (L3 (U4 (L3 (U4 (U4 (L3 (N8)))))))))) fun bN bO aK=>pu ?_;obtain⟨E,bq,hm⟩:=Y0 hm
      rcases E with e2 | E
      · have dd:KD [(5,[4]),(7,[2,4,5]),(8,[2,4,5,7])]:=⟨trivial⟩;exact zr hm aK
      have hm:=N4 hm;refine sS [(2,.string ⟨O.Name.toArray⟩)] cf67 (Q7j (p0 := {aa with t:=W}) (aK.bE [1,2,3,0] (Z2 4 10)) Z3 hL1 (h4.mono ch) (h5.mono ch) _ bq) ?_;rintro _ _ _ _ ⟨_,_,c17,rfl,bt,_⟩;refine pu ?_;refine s0 rfl trivial (fun _=>G3 (by kernel_rfl) rfl (u := .agg #[.string ⟨O.Name.toArray⟩,iv E.1,iv 0])) rfl (s2W [0] ?_);refine obS (r:=Q2q) (l:=([(⟨O.Name,E.1,0⟩:K5)]:List K5)) (css := [[Q23 O.Name.toArray,iv E.1,iv 0]]) bt ⟨(Y2s (x:=(⟨O.Name,E.1,0⟩:K5))  : Q2q.rp _ _ _ _),trivial⟩ ?_;intro _ _ _ c18 _ bu;refine pu ?_;obtain⟨_,bv,hm⟩:=Y0 hm;refine s2W [] ?_;refine oaO 1 bu (K3 bv) ?_;intro _ _ _ c19 _ bw;exact lg hm aJ (bw.sE ([1,2,3]++Z2 5 10))
    have hm:=Q5r hm aJ bi;refine kE ?_;refine rsS [0,0,0,1,0,1,0,2,0,0,0,0,0] [0,1,2,3,4,5,6,7,8,9,10,11,12] au fun bQ bR bz=>pu ?_;obtain⟨_,_,bA,h7,rfl⟩:=bz.sl 0;obtain⟨_,bC,hm⟩:=Y0 hm;refine sS [] cf68 (Q9u (bA.bE ([1,2,3]++Z2 6 7) [4,5]) hL1 h7 _ bC) ?_;rintro _ _ _ _ ⟨rfl,bD,_⟩;refine pn ?_;refine cP cf66 hm (Q1y (bD.bE (Z2 1 11) [])) ?_ ?_
    · rintro _ _ _ _ _ ⟨rfl,bF,_⟩ hm;have hm:=S4 hm D U;exact pe hm (bF.sE ([0,1,9,10]++Z2 2 7))
    rintro _ _ _ _ _ ⟨rfl,bG,_⟩ hm;exact lg hm D (bG.sE ([0,1,9,10]++Z2 2 7))
  have hm:=Q5r hm D U;have hm:=oI hm; subst hm;refine pn ?_;exact zr hm am

instance : Ct 34 @Q5v:=⟨@Q5v,cf34⟩
theorem Q2w {p0:Q0} {p1:N0} (hS:Q28 a1 a2 a3 a4 a5 a6 b1 oo1 n1 c1 n2 c2 n3 c3 n4 c4 n5 c5 n6 c6 Z5 H1 T0 g w0 pv1 r1 r2 R p0) (Z3:Ln Z9 Z8 Z5) (hL1:Ln b1 oo1 H1) (h1:Q15 a7 c7 T0 w0 p1.Dims) (h2:Q10 a8 c8 T0 w0 p1.Init) : ∀ r,Q0g p0 p1=some r →
    Cl 69 #[pt Z9 Z8,Q105 a7 a8 c7 c8 p1] w0 (exR r (fun r=>K2 T0 w0 (Q98 a2 a3 a4 a5 a6 b1 oo1 n2 c2 n3 c3 n4 c4 n5 c5 n6 c6 Z5 H1 g pv1 r1 r2 R r.1 r.2)) (fun r=>C7 T0 w0 (Q49 a2 a3 a4 a5 a6 b1 oo1 n2 c2 n3 c3 n4 c4 n5 c5 n6 c6 Z5 H1 g pv1 r1 r2 R r.1.pos r.1.e r.2))):=by
  intro r hm;refine enter func69 rfl ntmps69 rfl fun J => ?_;unfold Q0g at hm;exact zr hm hS

instance : Ct 69 @Q2w:=⟨@Q2w,cf69⟩
theorem Q2y {p0:Q0} {p1:Pos} {p2:List UInt8} (hS:Q28 a1 a2 a3 a4 a5 a6 b1 oo1 n1 c1 n2 c2 n3 c3 n4 c4 n5 c5 n6 c6 Z5 H1 T0 g w0 pv1 r1 r2 R p0) (Z3:Ln Z9 Z8 Z5) (hL1:Ln b1 oo1 H1) : ∀ r,Q3r p0 p1 p2=some r →
    Cl 70 #[pt Z9 Z8,Q48 p1,Q23 p2.toArray,.map r1] w0 (exR r (fun r=>K2 T0 w0 fun T w v=>v = .tuple #[]∧Q22 a1 a2 a3 a4 a5 a6 b1 oo1 n1 c1 n2 c2 n3 c3 n4 c4 n5 c5 n6 c6 Z5 H1 T g w pv1 r1 r2 R r) (fun r=>C7 T0 w0 (Q61 a1 a2 a3 a4 a5 a6 b1 oo1 n1 c1 n2 c2 n3 c3 n4 c4 n5 c5 n6 c6 Z5 H1 g pv1 r1 r2 R r.1.pos r.1.e r.2))):=by
  intro r hm;refine enter func70 rfl ntmps70 rfl fun J => ?_;unfold Q3r at hm;refine sq2 (bX [iv p1.Line,iv p1.Col] hS ?_);intro _ E _ D;refine kA ?_;refine pv (Z7u (kk:=p2) (u:=0) rfl rfl (D.getA (i:=8) ⟨rfl,rfl⟩) Z1s underlying80 underlying9 zeroValue3 rfl) (pn ?_);refine qU ?_;refine pv (Z7u (kk:=p2) (u:=0) rfl rfl (D.getA (i:=9) ⟨rfl,rfl⟩) Z1s underlying80 underlying9 zeroValue3 rfl) (pn ?_);refine sq2 (blk (qU ?_));refine fkC (d:=34) (c:=(((E2 p0.globals p2).isSome) || ((E2 p0.codes p2).isSome))) 2 [(2,.string ⟨p2.toArray⟩),(3,.map r1),(5,pt E 0)] rfl (fun hk=>zw ((E2 p0.globals p2).isSome) hk) fun J => ?_;refine cd hm ?_ ?_ <;> intro O hm
  · exact zr hm D
  refine qU ?_;refine pv (X0s rfl (D.getA (i:=8) ⟨rfl,rfl⟩) underlying80) (cd hm ?_ ?_) <;> intro U hm
  · exact zr hm D
  refine pn ?_;obtain⟨_,I,hm⟩:=Y0 hm;refine pu ?_;refine pv (X0s rfl (D.getA (i:=8) ⟨rfl,rfl⟩) underlying80) (wl rfl (muM (q:=8) (k:=p2) (u:=(Z3k p0.globals:Int)) D ⟨rfl,rfl⟩ I rfl rfl rfl Z1s underlying80 underlying9 fun V W K => ?_));have hm:=oI hm; subst hm;refine pn ?_;exact end0 rfl ⟨_,rfl,_,ch,⟨rfl,(K.sE (Z2 1 11)).unb,trivial⟩⟩

instance : Ct 70 @Q2y:=⟨@Q2y,cf70⟩
theorem O1 {p0:Z7} {p1} (hS:Q36 a1 n1 c1 Z5 T0 g w0 R p0.list) (Z3:Ln Z9 Z8 Z5) : ∀ r,P3 p0 p1=some r →
    Cl 74 #[pt Z9 Z8,iv p1] w0 (K2 T0 w0 fun T w v=>v = .bool r∧Q30 a1 n1 c1 Z5 T g w R p0.list):=by
  intro r hm;refine enter func74 rfl ntmps74 rfl fun J => ?_;unfold P3 at hm;refine qN ?_;refine sq2 (qU ?_);refine cB cf113 hm (Q9a (hS.bE [0] [1,2]) Z3) ?_;rintro _ _ _ _ _ ⟨rfl,D,_⟩ hm;refine cd hm ?_ ?_ <;> intro K hm
  · exact sq2 (re hm (D.sE [0,1,2]))
  refine pn ?_;refine sq2 ?_;obtain⟨u1,E,hm⟩:=Y0 hm;obtain⟨cs1,I,_⟩:=(D.own (i:=2) ⟨rfl,rfl⟩).v.ixcS E rfl;obtain⟨_,c2,rfl,h1⟩:=M9 I;refine kA ?_;refine fkC (d:=24) (c:=((u1.Type_.Kind == 1) || (u1.Type_.Kind == 2))) 3 [(5,iv u1.Type_.Kind)] rfl (fun hk=>zw (u1.Type_.Kind == 1) hk) fun J=>pu ?_;exact fkC (d:=28) (c:=(((u1.Type_.Kind == 1) || (u1.Type_.Kind == 2)) || (u1.Type_.Kind == 3))) 3 [] rfl (fun hk=>zw ((u1.Type_.Kind == 1) || (u1.Type_.Kind == 2)) hk) fun J=>re hm (D.sE [0,1,2])

instance : Ct 74 @O1:=⟨@O1,cf74⟩
theorem W9 {p0:Q0} {p1} (hS:Q28 a1 a2 a3 a4 a5 a6 b1 oo1 n1 c1 n2 c2 n3 c3 n4 c4 n5 c5 n6 c6 Z5 H1 T0 g w0 pv1 r1 r2 R p0) (Z3:Ln Z9 Z8 Z5) (hL1:Ln b1 oo1 H1) : ∀ r,R1 p0 p1=some r →
    Cl 105 #[pt Z9 Z8,iv p1] w0 (K2 T0 w0 fun T w v=>v=iv r∧Q22 a1 a2 a3 a4 a5 a6 b1 oo1 n1 c1 n2 c2 n3 c3 n4 c4 n5 c5 n6 c6 Z5 H1 T g w pv1 r1 r2 R p0):=by
  intro r hm;refine enter func105 rfl ntmps105 rfl fun J => ?_;unfold R1 at hm;exact zr hm hS

instance : Ct 105 @W9:=⟨@W9,cf105⟩
theorem Q3w {p0:Q0} {p1:List UInt8} {p2} (hS:Q28 a1 a2 a3 a4 a5 a6 b1 oo1 n1 c1 n2 c2 n3 c3 n4 c4 n5 c5 n6 c6 Z5 H1 T0 g w0 pv1 r1 r2 R p0) (Z3:Ln Z9 Z8 Z5) (hL1:Ln b1 oo1 H1) : ∀ r,Q1g p0 p1 p2=some r →
    Cl 71 #[pt Z9 Z8,Q23 p1.toArray,iv p2] w0 (K2 T0 w0 fun T w v=>v = .agg (X2r r).toArray∧Q22 a1 a2 a3 a4 a5 a6 b1 oo1 n1 c1 n2 c2 n3 c3 n4 c4 n5 c5 n6 c6 Z5 H1 T g w pv1 r1 r2 R p0):=by
  intro r hm;refine enter func71 rfl ntmps71 rfl fun J => ?_;unfold Q1g at hm;refine sq2 (aL zv19 hS ?_);intro _ _ _ D;refine kE ?_;refine rsS [0,0,0,0,1,0,2,0,0,0,1,0,2,0,0,2,0,2] [0,1,2,3,4,5,7,8,9,10,11,13,14,6,12,15,16,17] D fun w2 af E => ?_;obtain⟨I,K,hm⟩:=Y0 hm;refine sS [(10,pt b1 oo1)] Z1i (V4 (E.bE ([0,1,2]++Z2 5 7) [3,4]) hL1 _ K) ?_;rintro _ _ _ _ ⟨rfl,O,_⟩;refine pu ?_;obtain⟨U,V,hm⟩:=Y0 hm;refine sS [] cf103 (Q1t (O.bE (Z2 0 10) [10,11]) hL1 _ V) ?_;rintro _ _ _ _ ⟨rfl,W,_⟩;refine pu ?_;obtain⟨y3,ab,hm⟩:=Y0 hm;refine sS [] cf105 (W9 (W.bE [0,1] ([2,10,11]++Z2 3 7)) Z3 hL1 _ ab) ?_;rintro _ _ _ _ ⟨rfl,ac,_⟩;refine pu ?_;refine s0 rfl trivial (fun _=>G3 (by kernel_rfl) rfl (u := .agg #[.string ⟨p1.toArray⟩,iv I,iv U,iv y3])) rfl (s2W [] ?_);refine osT 0 ac ?_;intro _ _ ad;exact re hm (ad.sE (Z2 1 11))
instance : Ct 71 @Q3w:=⟨@Q3w,cf71⟩
end Go.Proofs.YtbfpdnogfkbiaaaGreat
