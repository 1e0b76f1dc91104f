/- That Go functions compute their models. Printed by gen2.py. -/
import Derived.Test.YtbfpdnogfkbiaaaGreatVWi
set_option linter.unusedVariables false
namespace Go.Proofs.YtbfpdnogfkbiaaaGreat
open List renaming length → qQ
open _root_.Go.Proofs.Tryz
set_option maxRecDepth 100000
set_option maxHeartbeats 8000000
attribute [local irreducible] wpList wpQuiet Code.wp
variable{g:World}{T0:Nat->Prop}{w0:World}{R:List Y9}
variable{b1 b2 Y0 Q0f Z7g Z7f Z8d c1 c2 c3 c4 c5 c6 c7 c8 c9 c10 c11 c12 c13 n1 n2 n3 n4 n5 n6 n7 Z9 Q0e Z7a Z6z Z7p oo1 oo2:Nat}{H1 H2 Z5 L4 Z5m Z5l Z7h:List Value->Y9}{a1 a2 a3 a4 a5 a6 a7 a8 a9 a10 a11 a12 a13:OA}{r1 r2:Option Nat}{pv1:Value}
attribute [local irreducible] M1 W7 execOp Program.underlying sizeOf isAgg zeroValue

theorem Z8x{G:Y0i}(hG:Sp7 G):Q5s (P0 G):=by
 intro g T0 w0 R _ Y0 Z9 Z5 a1 c1 _ c2 _ c3 b1 ay H1 _ _ c4 _ c5 _ _ c6 _ c7 p1 a8 c8 hS Z2 h1 h2 _ hL1 _ _ h6 r hm;refine eN Tryz.func120 Tryz.ntmps120 fun J=>?_;unfold P0 at hm;refine qN ?_;refine qN ?_;refine sq2 (qN ?_);have aB:=hS.nilO I9 61;refine lpJ hm (fun ak o1 m a K=>∃O E D U V W c9 an n4 c10 ap n5 c11 x4 ab c12 ac c13 ad c14 ae c15 af c16,JR (nf 31) g T0 w0 a K O (X5 ak m (U,x4,D,E)=some o1) [(0,pt Y0 Z9),(6,.slice V W c9),(11,sv a8 p1 c8),(12,iv (qQ p1:Int)),(13,iv x4)] ([J6 I9 61 (.slice V W c9) U,Y7 R]++J5 ({D with mem:=E}) Z5 H1 ab c12 ac c13 ad c14 b1 ay an n4 c10 ae c15 ap n5 c11 af c16)/\Q5 ab ac ad ae af c12 c13 c14 c15 c16 O K D) (fun _ _ h=>je h (aB.sN 0 6)) ?_;rintro ak aC o1 ar _ _ K ⟨O,E,D,U,V,W,c9,an,n4,c10,ap,n5,c11,x4,ab,c12,ac,c13,ad,c14,ae,c15,af,c16,⟨J,aD,rfl,ag,_⟩,h7,h8,h9,aI,aJ⟩;obtain⟨m1,_,rfl,hm,ah⟩:=lrE aD aC;refine qN ?_;refine sq2 (cd hm ?_ ?_)<;>intro aX hm
 . refine kE ?_;refine blk (sq2 ?_);obtain⟨u1,aK,hm⟩:=Z8 hm;obtain⟨cs1,aM,_,hT1⟩:=ixS ag aK h6;obtain⟨_,c17,rfl,aN⟩:=L0 aM;refine aL zv3 ag ?_;intro _ _ _ aP;refine sT 0 aP ?_;intro _ _ aQ;refine kA ?_;refine cB cf84 hm (hG.X2 (p0:={D with mem:=E}) (aQ.bE [1,2] (Z3 3 4)) Z2 (mC h7) (mC h8) (mC h9) hL1 (mC aI) (mC aJ) (mC aN)) ?_;rintro y1 _ _ _ _ ⟨_,c18,_,c19,_,c20,_,_,c21,_,c22,_,_,c23,_,c24,rfl,aR,_,_,_,_,_,_⟩ hm;refine aL zv6 aR ?_;intro _ _ _ aS;refine sT 0 aS ?_;intro _ _ au;refine pn ?_;refine sq2 (sq2 (cd hm ?_ ?_))<;>intro aY hm
   . refine qN ?_;have aT:=au.nilO I9 61;have hm:=Q1b hm ah ar;exact re hm (aT.sE (Z3 3 5++[0]))
   refine pn ?_;refine bS (r:=I9) (l:=([y1.1]:List Y1)) (css:=[(O2 y1.1)]) au ⟨(Z3f (x:=y1.1):I9.rp _ _ _ _),qZt⟩ ?_;intro _ _ _ c25 _ aU;obtain⟨_,aV,hm⟩:=Z8 hm;refine aO 2 aU (U8 aV) ?_;intro _ _ _ c26 _ aW;exact lg hm ah (aW.sN 2 6)
 have hm:=Q4m hm ah ar;refine pn ?_;exact sq2 (re hm (ag.sE (Z3 1 5++[0])))
theorem Z9x{G:Y0i}(hG:Sp7 G):Q6y (B0 G):=by
 intro g _ _ R _ Y0 Z9 Z5 a1 c1 _ c2 _ c3 b1 az H1 a4 n1 c4 _ c5 a6 n2 c6 _ c7 p1 a8 c8 hS Z2 h1 h2 h3 hL1 h4 h5 K r hm;refine eN Tryz.func84 Tryz.ntmps84 fun J=>?_;unfold B0 at hm;refine sq2 (bX (U2 p1 a8 c8) hS ?_);intro _ b2 _ bh;refine aL zv6 bh ?_;intro _ E _ bi;refine kB ?_;refine cB cf79 hm (R1 (bi.bE [0,1,2] (Z3 3 4)) Z2 (mC h1) (mC h2) (mC h3) hL1 (mC h4) (mC h5)) ?_;rintro y1 _ T1 w3 _ ⟨a9,c9,bn,c10,bo,c11,bp,c12,bq,c13,rfl,O,h7,h8,h9,ah,ai,_⟩ hm;refine cd hm ?_ ?_<;>intro cI hm
 . refine qU ?_;refine pv (F0 (by kernel_rfl) rfl (u:= .agg #[.int .u32 0,iv 0,iv 0,iv 0,iv 0,.bool false])) (sT 0 O ?_);intro _ _ bt;exact re hm (bt.sN 2 5)
 refine kC ?_;refine blk (sq2 (cd hm ?_ ?_))<;>intro cJ hm
 . refine sq2 (sq2 (cd hm ?_ ?_))<;>intro cK hm
   . refine qU ?_;refine cB cf24 hm (Z2h (O.bE ([0]++Z3 2 5) [])) ?_;rintro _ _ _ _ _ ⟨rfl,bu,_⟩ hm;refine sT 0 bu ?_;intro _ _ bv;exact re hm (bv.sN 1 5)
   refine kA ?_;refine cB cf118 hm (Z0h (O.bE ([0]++Z3 2 5) [])) ?_;rintro _ _ _ _ _ ⟨rfl,bw,_⟩ hm;refine sT 0 bw ?_;intro _ _ bz;exact re hm (bz.sN 1 5)
 refine M8 hm (fun aB a w9=>∃T4 x1,JR (nf 126) g T1 w3 a w9 T4 (aB x1=some r) [(0,pt Y0 Z9),(3,pt b2 0),(4,pt E 0),(19,iv p1.Kind),(28,.bool x1)] ([K0 E zv6,Q79 a8 b2 c8 p1,Y7 R]++J5 y1.2 Z5 H1 a9 c9 bn c10 bo c11 b1 az a4 n1 c4 bp c12 a6 n2 c6 bq c13)) (fun aB hm=>?_) ?_
 . refine sq2 (cd hm ?_ ?_)<;>intro cL hm
   . exact je hm (O.sN 0 7)
   exact je hm (O.sN 0 7)
 rintro _ w9 ⟨T4,x1,J,hm,rfl,U,_⟩;refine cd hm ?_ ?_<;>intro cM hm
 . refine sq2 ?_;obtain⟨u1,bA,hm⟩:=Z8 hm;obtain⟨cs1,bB,_,hT1⟩:=ixS U bA K;obtain⟨_,c14,rfl,bC⟩:=L0 bB;refine pu ?_;refine cB cf80 hm (hG.V2 (U.bE [0,1,2] (Z3 3 4)) Z2 (mC h7) (mC h8) (mC h9) hL1 (mC ah) (mC ai) bC) ?_;rintro V _ T5 bF _ ⟨_,c15,_,c16,_,c17,_,_,c18,_,c19,_,_,c20,_,c21,rfl,ab,bG,bI,bJ,bK,bL,_⟩ hm;refine pn ?_;refine M8 hm (fun aE a ak=>∃T6 x7 x6 aF n5 c22 aI n6 c23 x4 x5 aq c24 ar c25 au c26 av c27 aw c28,JR (nf 126) g T5 bF a ak T6 (aE x4 x5 x6 x7=some r) [(4,pt E 0),(6,.bool x4),(7,.bool x5)] ([K0 E zv6,Y7 R]++J5 ({x6 with mem:=x7}) Z5 H1 aq c24 ar c25 au c26 b1 az aF n5 c22 av c27 aI n6 c23 aw c28)/\Q5 aq ar au av aw c24 c25 c26 c27 c28 T6 ak x6) (fun aE hm=>?_) ?_
   . refine qU ?_;refine fkN (d:=47) (c:=(V.2.1&&(V.1==(p1.Kind==7)))) 6 [(0,pt Y0 Z9),(3,pt b2 0),(4,pt E 0),(6,.bool V.1),(7,.bool V.2.1)] rfl (fun hk=>?_) fun J=>?_
     . rcases Bool.eq_false_or_eq_true V.2.1 with D|D
       . exact gT (d0:=41) rfl rfl D (pv (r_mb rfl) (gT (d0:=41) rfl rfl D (pv (r_fa rfl underlying197 rfl sizeOf3 rfl) (gT (d0:=41) rfl rfl D (pv (Z3d rfl isAgg3 (ab.cell0 (i:=1) ⟨rfl,rfl⟩ (j:=0) rfl)) (gT (d0:=41) rfl rfl D (pv (r_ib rfl rfl rfl) (gT (d0:=41) rfl rfl D (pv (r_bq rfl rfl underlying4) (pv (Y6z rfl D rfl) (wlR (fun J=>hk J _ (by rw[D];rfl)) ⟨rfl,rfl,rfl,rfl,rfl,rfl,qZt⟩)))))))))))
       exact gF5 (d0:=41) rfl rfl (by rw[D];rfl) (pv (Y7a rfl D rfl) (wlR (fun J=>hk J _ (by rw[D];rfl)) ⟨rfl,rfl,rfl,rfl,rfl,rfl,qZt⟩))
     refine cd hm ?_ ?_<;>intro cO hm
     . obtain⟨_,bM,hm⟩:=Z8 hm;obtain⟨cs2,bN,_,hT2⟩:=ixS ab bM K;obtain⟨_,c29,rfl,bO⟩:=L0 bN;refine pu ?_;refine cB cf80 hm (hG.V2 (ab.bE [0,2] (Z3 3 4)) Z2 bG bI bJ hL1 bK bL bO) ?_;rintro _ _ T7 _ _ ⟨_,c30,_,c31,_,_,_,_,_,_,_,_,_,_,_,_,rfl,bP,_,_,_,_,_,_⟩ hm;exact je hm (bP.sN 0 6)
     exact je hm (ab.sE ([0]++Z3 2 5))
   rintro _ ak ⟨T6,x7,x6,aF,n5,c22,aI,n6,c23,x4,x5,aq,c24,ar,c25,au,c26,av,c27,aw,c28,⟨J,hm,rfl,bQ,_⟩,_,_,_,_,_⟩;refine qU ?_;refine cB cf119 hm (Z6d (bQ.bE (Z3 0 6) [])) ?_;rintro _ _ _ _ _ ⟨rfl,bR,_⟩ hm;refine sT 0 bR ?_;intro _ _ bT;exact re hm (bT.sN 1 5)
 refine sq2 (cd hm ?_ ?_)<;>intro cQ hm
 . refine sq2 ?_;obtain⟨_,bU,hm⟩:=Z8 hm;obtain⟨cs3,bV,_,hT3⟩:=ixS U bU K;obtain⟨_,_,rfl,bW⟩:=L0 bV;refine pu ?_;refine cB cf80 hm (hG.V2 (U.bE [0,1,2] (Z3 3 4)) Z2 (mC h7) (mC h8) (mC h9) hL1 (mC ah) (mC ai) bW) ?_;rintro _ _ _ _ _ ⟨_,_,_,_,_,_,_,_,_,_,_,_,_,_,_,_,rfl,W,aK,aM,aN,aP,aQ,_⟩ hm;refine pn ?_;refine sq2 (blk (sq2 (cd hm ?_ ?_)))<;>intro cR hm
   . refine qU ?_;refine pv (F0 (by kernel_rfl) rfl (u:= .agg #[.int .u32 0,iv 0,iv 0,iv 0,iv 0,.bool false])) (sT 0 W ?_);intro _ _ bY;exact re hm (bY.sN 2 5)
   refine sq2 (cd hm ?_ ?_)<;>intro cT hm
   . refine sq2 ?_;obtain⟨_,bZ,hm⟩:=Z8 hm;obtain⟨cs4,b0,_,hT4⟩:=ixS W bZ K;obtain⟨_,_,rfl,b4⟩:=L0 b0;refine pu ?_;refine cB cf84 hm (hG.X2 (W.bE [0,2] (Z3 3 4)) Z2 aK aM aN hL1 aP aQ b4) ?_;rintro y8 _ _ _ _ ⟨_,_,_,_,_,_,_,_,_,_,_,_,_,_,_,_,rfl,b6,_,_,_,_,_,_⟩ hm;refine sT 0 b6 ?_;intro _ _ b7;refine pu ?_;exact nil (K7 [(4,pt E 0),(5,.bool y8.2.1)] ⟨rfl,rfl,qZt⟩ fun J=>re hm (b7.sN 1 5))
   refine pn ?_;refine sq2 ?_;obtain⟨_,b8,hm⟩:=Z8 hm;obtain⟨cs5,cc,_,hT5⟩:=ixS W b8 K;obtain⟨_,_,rfl,ce⟩:=L0 cc;refine pu ?_;refine cB cf84 hm (hG.X2 (W.bE [0,2] (Z3 3 4)) Z2 aK aM aN hL1 aP aQ ce) ?_;rintro y9 _ _ _ _ ⟨_,_,_,_,_,_,_,_,_,_,_,_,_,_,_,_,rfl,cg,_,_,_,_,_,_⟩ hm;refine sT 0 cg ?_;intro _ _ ci;refine pu ?_;exact nil (K7 [(4,pt E 0),(5,.bool y9.2.1)] ⟨rfl,rfl,qZt⟩ fun J=>re hm (ci.sN 1 5))
 refine kA ?_;refine cB cf120 hm (hG.F1 (U.bE [0,1,2] (Z3 3 4)) Z2 (mC h7) (mC h8) (mC h9) hL1 (mC ah) (mC ai) (mC K)) ?_;rintro _ _ _ _ _ ⟨_,_,_,_,_,_,_,_,_,_,_,_,_,_,_,_,_,_,_,rfl,ax,aR,aS,aT,aU,aV,_⟩ hm;refine pn ?_;refine sq2 (sq2 (cd hm ?_ ?_))<;>intro cU hm
 . refine qU ?_;refine pv (F0 (by kernel_rfl) rfl (u:= .agg #[.int .u32 0,iv 0,iv 0,iv 0,iv 0,.bool false])) (sT 0 ax ?_);intro _ _ cj;exact re hm (cj.sN 2 5)
 refine pn ?_;refine sq2 (sq2 (cd hm ?_ ?_))<;>intro cV hm
 . refine qU ?_;obtain⟨_,_,ck,cl,rfl⟩:=ax.sl 7;refine cB cf15 hm (hG.K5 (ck.bE [0,2] (Z3 3 4)) Z2 (mC aR) (mC aS) (mC aT) hL1 (mC aU) (mC aV) cl) ?_;rintro cm _ _ _ _ ⟨_,_,_,_,_,_,_,_,_,_,_,_,_,_,_,_,rfl,cn,_,_,_,_,_,_⟩ hm;refine sT 0 cn ?_;intro _ _ co;refine pu ?_;exact nil (K7 [(4,pt E 0),(5,.bool cm.2.1)] ⟨rfl,rfl,qZt⟩ fun J=>re hm (co.sN 1 5))
 refine kA ?_;obtain⟨_,_,cp,cq,rfl⟩:=ax.sl 7;refine cB cf121 hm (Q9m (cp.bE [0,2] (Z3 3 4)) Z2 (mC aR) (mC aS) (mC aT) hL1 (mC aU) (mC aV) (mC K) cq) ?_;rintro aW _ _ _ _ ⟨_,_,_,_,_,_,_,_,_,_,_,_,_,rfl,cr,ct,cu,cv,cw,cy,_⟩ hm;refine aL zv6 cr ?_;intro _ b9 _ cA;refine sT 0 cA ?_;intro _ _ cC;refine pu ?_;refine nil (K7 [(0,pt Y0 Z9),(4,pt E 0),(12,pt b9 0),(13,iv aW.2.1)] ⟨rfl,rfl,rfl,rfl,qZt⟩ fun J=>sq2 (rsS [1,0,0,2,2,0] [0,1,2,3,4,5] cC fun cW cX cD=>?_));obtain⟨_,cE,hm⟩:=Z8 hm;refine sS [(0,.agg (O2 aW.1).toArray)] cf21 (Q1w (cD.bE [1,2,0] (Z3 3 4)) Z2 (mC ct) (mC cu) (mC cv) hL1 (mC cw) (mC cy) _ cE) ?_;rintro _ _ _ _ ⟨_,_,_,_,_,_,_,_,_,_,rfl,cF,_,_,_,_,_,_⟩;refine s2W [0] ?_;refine osT 0 cF ?_;intro _ _ cG;exact re hm (cG.sE [1,3,4,5,6])
theorem Z8z{G:Y0i}(hG:Sp7 G):Q5t (P1 G):=by
 intro g _ _ R _ Y0 Z9 Z5 a1 c1 _ c2 _ c3 _ _ H1 _ _ c4 _ c5 _ _ c6 _ c7 _ _ c8 hS Z2 h1 h2 _ hL1 _ _ _ r hm;refine eN Tryz.func80 Tryz.ntmps80 fun J=>?_;unfold P1 at hm;have D:Ctr Tryz.prog 84 (type_of%@hG.X2):=⟨@hG.X2,cf84⟩;exact zr hm hS
theorem Z9y{G:Y0i}(hG:Sp7 G):Q6z (N1 G):=by
 intro g T0 _ R _ Y0 Z9 Z5 a1 c1 _ c2 _ c3 b1 ah H1 _ _ c4 _ c5 _ _ c6 _ c7 D V c8 U c9 ad c10 ae c11 af c12 hS Z2 h1 h2 _ hL1 _ _ h6 h7 h8 _ _ r hm;refine eN Tryz.func81 Tryz.ntmps81 fun J=>?_;unfold N1 at hm;refine sq2 (bX (Z3y D V c8 U c9 ad c10 ae c11 af c12) hS ?_);intro w1 E _ cT;refine pn ?_;refine scp (qN ?_);refine sq2 (lbl (Y6u (sq2 (lpJ hm (fun bI o1 m a w2=>∃T1 x5 x4 bK n3 c13 bM n4 c14 x3 ay c15 az c16 aA c17 aB c18 aC c19,JR (nf 68) g T0 w1 a w2 T1 (X5 bI m (x3,x4,x5)=some o1) [(0,pt Y0 Z9),(3,pt E 0),(5,.bool x3)] (Q80 V U ad ae af ay az aA bK aB bM aC E c8 c9 c10 c11 c12 c15 c16 c17 b1 ah n3 c13 c18 n4 c14 c19 Z5 H1 R D x4 x5)/\Q5 ay az aA aB aC c15 c16 c17 c18 c19 T1 w2 x4) (fun _ _ h=>je h (cT.sN 0 6)) ?_))));rintro bI cU o1 W _ _ w2 ⟨T1,x5,x4,bK,n3,c13,bM,n4,c14,x3,ay,c15,az,c16,aA,c17,aB,c18,aC,c19,⟨J,cV,rfl,cW,_⟩,_,_,_,_,_⟩;obtain⟨m1,z1,rfl,hm,K⟩:=lrE cV cU;refine blk (sq2 (qN ?_));refine lpJ hm (fun aa o2 m a w3=>∃T2 am x9 bP n5 c20 bR n6 c21 x8 aG c22 aI c23 aJ c24 aK c25 aM c26,JR (nf 68) g T1 w2 a w3 T2 (X5 aa m (x8,x9,am)=some o2) [(0,pt Y0 Z9),(3,pt E 0),(5,.bool x3),(19,sv V D.A c8),(20,iv (qQ D.A:Int)),(21,iv x8)] (Q80 V U ad ae af aG aI aJ bP aK bR aM E c8 c9 c10 c11 c12 c22 c23 c24 b1 ah n5 c20 c25 n6 c21 c26 Z5 H1 R D x9 am)/\Q5 aG aI aJ aK aM c22 c23 c24 c25 c26 T2 w3 x9) (fun _ _ h=>je h (cW.sN 0 6)) ?_;rintro aa an o2 ac _ _ w3 ⟨T2,am,x9,bP,n5,c20,bR,n6,c21,x8,aG,c22,aI,c23,aJ,c24,aK,c25,aM,c26,⟨J,ao,rfl,aN,_⟩,bU,bV,bW,bY,bZ⟩;obtain⟨m2,z2,rfl,hm,O⟩:=lrE ao an;refine qN ?_;refine sq2 (cd hm ?_ ?_)<;>intro d2 hm
 . refine kE ?_;refine blk (sq2 ?_);obtain⟨u1,cX,hm⟩:=Z8 hm;obtain⟨cs1,cY,_,hT1⟩:=ixS aN cX h6;obtain⟨_,c27,rfl,_⟩:=L0 cY;refine aL zv3 aN ?_;intro _ _ _ cZ;refine sT 0 cZ ?_;intro _ _ b5;refine pn ?_;refine sq2 (sq2 (cd hm ?_ ?_))<;>intro d4 hm
   . have hm:=Q4m hm O ac;refine kD ?_;refine sq2 (qU ?_);refine cB cf26 hm (hG.V5 (p0:={x9 with mem:=am}) (b5.bE [1,2] (Z3 3 4)) Z2 (mC bU) (mC bV) (mC bW) hL1 (mC bY) (mC bZ) (mC h8)) ?_;rintro y5 _ T9 db _ ⟨dc,dd,de,dg,dh,di,dj,dk,dl,dm,dn,dp,dq,dr,ds,du,rfl,b7,_,_,_,_,_,_⟩ hm;refine kD ?_;refine blk (sq2 (cd hm ?_ ?_))<;>intro d5 hm
     . have hm:=Q4m hm K W;refine kD ?_;refine pn ?_;exact Y5s (re hm (b7.sN 1 5))
     refine M8 hm (fun b8 a aP=>∃aQ aR,JR (nf 68) g T9 db a aP aQ (b8 aR=some z1) [(0,pt Y0 Z9),(3,pt E 0),(5,.bool true),(10,iv y5.1),(45,.bool aR)] ([K0 E (Z3y D V c8 U c9 ad c10 ae c11 af c12),Y7 R]++J5 y5.2 Z5 H1 dc dd de dg dh di b1 ah dj dk dl dm dn dp dq dr ds du)) (fun b8 hm=>?_) ?_
     . exact zr hm b7
     rintro _ aP ⟨aQ,aR,J,hm,rfl,cc,_⟩;refine cd hm ?_ ?_<;>intro d6 hm
     . refine qN ?_;have hm:=Q1b hm K W;refine pn ?_;exact Y5s (re hm (cc.sN 1 5))
     refine kC ?_;refine lpJ hm (fun aa o2 m a aS=>∃aT ap aj ce cf cg ci cj ck aU aV aW aX aY aZ ba be bf bg bh,JR (nf 68) g aQ aP a aS aT (X5 aa m (aU,aj,ap)=some o2) [(0,pt Y0 Z9),(3,pt E 0),(5,.bool true),(50,sv U D.Post c9),(51,iv (qQ D.Post:Int)),(52,iv aU)] (Q80 V U ad ae af aV aX aZ ce be ci bg E c8 c9 c10 c11 c12 aW aY ba b1 ah cf cg bf cj ck bh Z5 H1 R D aj ap)/\Q5 aV aX aZ be bg aW aY ba bf bh aT aS aj) (fun _ _ h=>je h (cc.sN 0 6)) ?_;rintro aa an o2 ac _ _ aS ⟨aT,ap,aj,ce,cf,cg,ci,cj,ck,aU,aV,aW,aX,aY,aZ,ba,be,bf,bg,bh,⟨J,ao,rfl,bi,_⟩,cl,cm,cn,co,cp⟩;obtain⟨m2,z2,rfl,hm,O⟩:=lrE ao an;refine qN ?_;refine sq2 (cd hm ?_ ?_)<;>intro d7 hm
     . refine kE ?_;refine blk (sq2 ?_);obtain⟨_,dv,hm⟩:=Z8 hm;obtain⟨cs3,dw,_,hT3⟩:=ixS bi dv h7;obtain⟨_,_,rfl,dx⟩:=L0 dw;refine aL zv3 bi ?_;intro _ _ _ dy;refine sT 0 dy ?_;intro _ _ dz;refine kA ?_;refine cB cf84 hm (hG.X2 (p0:={aj with mem:=ap}) (dz.bE [1,2] (Z3 3 4)) Z2 (mC cl) (mC cm) (mC cn) hL1 (mC co) (mC cp) (mC dx)) ?_;rintro _ _ _ _ _ ⟨_,_,_,_,_,_,_,_,_,_,_,_,_,_,_,_,rfl,dA,_,_,_,_,_,_⟩ hm;refine aL zv6 dA ?_;intro _ _ _ dB;refine sT 0 dB ?_;intro _ _ cq;refine pn ?_;refine sq2 (cd hm ?_ ?_)<;>intro d8 hm
       . refine qN ?_;have hm:=Q1b hm O ac;have hm:=Q1b hm K W;refine pn ?_;exact Y5s (re hm (cq.sN 2 5))
       exact lg hm O (cq.sN 1 6)
     have hm:=Q4m hm O ac;refine kA ?_;refine cB cf79 hm (R1 (p0:={aj with mem:=ap}) (bi.bE [0,1] (Z3 2 4)) Z2 cl cm cn hL1 co cp) ?_;rintro _ _ _ _ _ ⟨_,_,_,_,_,_,_,_,_,_,rfl,cr,_,_,_,_,_,_⟩ hm;refine cd hm ?_ ?_<;>intro d9 hm
     . refine qN ?_;have hm:=Q1b hm K W;refine pn ?_;exact Y5s (re hm (cr.sN 1 5))
     exact lg hm K (cr.sN 0 6)
   have ea:Ctr Tryz.prog 80 (type_of%@hG.V2):=⟨@hG.V2,cf80⟩;exact zr hm b5
 have hm:=Q4m hm O ac;refine kD ?_;refine sq2 (qU ?_);refine cB cf26 hm (hG.V5 (p0:={x9 with mem:=am}) (aN.bE [0,1] (Z3 2 4)) Z2 bU bV bW hL1 bY bZ (mC h8)) ?_;rintro ct _ dC dD _ ⟨dE,dF,dG,dI,dJ,dK,dL,dM,dN,dO,dP,dQ,dR,dS,dT,dU,rfl,cu,_,_,_,_,_,_⟩ hm;refine kD ?_;refine blk (sq2 (cd hm ?_ ?_))<;>intro eb hm
 . have hm:=Q4m hm K W;refine kD ?_;refine pn ?_;exact Y5s (re hm (cu.sN 1 5))
 refine M8 hm (fun cv a bj=>∃bk bl,JR (nf 68) g dC dD a bj bk (cv bl=some z1) [(0,pt Y0 Z9),(3,pt E 0),(5,.bool true),(10,iv ct.1),(45,.bool bl)] ([K0 E (Z3y D V c8 U c9 ad c10 ae c11 af c12),Y7 R]++J5 ct.2 Z5 H1 dE dF dG dI dJ dK b1 ah dL dM dN dO dP dQ dR dS dT dU)) (fun cv hm=>?_) ?_
 . exact zr hm cu
 rintro _ bj ⟨bk,bl,J,hm,rfl,cw,_⟩;refine cd hm ?_ ?_<;>intro ec hm
 . refine qN ?_;have hm:=Q1b hm K W;refine pn ?_;exact Y5s (re hm (cw.sN 1 5))
 refine kC ?_;refine lpJ hm (fun aa o2 m a bm=>∃bn aq ak cy cz cA cC cD cE bo bp bq bt bu bv bw bz bA bB bC,JR (nf 68) g bk bj a bm bn (X5 aa m (bo,ak,aq)=some o2) [(0,pt Y0 Z9),(3,pt E 0),(5,.bool true),(50,sv U D.Post c9),(51,iv (qQ D.Post:Int)),(52,iv bo)] (Q80 V U ad ae af bp bt bv cy bz cC bB E c8 c9 c10 c11 c12 bq bu bw b1 ah cz cA bA cD cE bC Z5 H1 R D ak aq)/\Q5 bp bt bv bz bB bq bu bw bA bC bn bm ak) (fun _ _ h=>je h (cw.sN 0 6)) ?_;rintro aa an o2 ac _ _ bm ⟨bn,aq,ak,cy,cz,cA,cC,cD,cE,bo,bp,bq,bt,bu,bv,bw,bz,bA,bB,bC,⟨J,ao,rfl,bD,_⟩,cF,cG,cI,cJ,cK⟩;obtain⟨m2,z2,rfl,hm,O⟩:=lrE ao an;refine qN ?_;refine sq2 (cd hm ?_ ?_)<;>intro ed hm
 . refine kE ?_;refine blk (sq2 ?_);obtain⟨_,dV,hm⟩:=Z8 hm;obtain⟨cs4,dW,_,hT4⟩:=ixS bD dV h7;obtain⟨_,_,rfl,dX⟩:=L0 dW;refine aL zv3 bD ?_;intro _ _ _ dY;refine sT 0 dY ?_;intro _ _ dZ;refine kA ?_;refine cB cf84 hm (hG.X2 (p0:={ak with mem:=aq}) (dZ.bE [1,2] (Z3 3 4)) Z2 (mC cF) (mC cG) (mC cI) hL1 (mC cJ) (mC cK) (mC dX)) ?_;rintro _ _ _ _ _ ⟨_,_,_,_,_,_,_,_,_,_,_,_,_,_,_,_,rfl,d0,_,_,_,_,_,_⟩ hm;refine aL zv6 d0 ?_;intro _ _ _ d1;refine sT 0 d1 ?_;intro _ _ cL;refine pn ?_;refine sq2 (cd hm ?_ ?_)<;>intro ee hm
   . refine qN ?_;have hm:=Q1b hm O ac;have hm:=Q1b hm K W;refine pn ?_;exact Y5s (re hm (cL.sN 2 5))
   exact lg hm O (cL.sN 1 6)
 have hm:=Q4m hm O ac;refine kA ?_;refine cB cf79 hm (R1 (p0:={ak with mem:=aq}) (bD.bE [0,1] (Z3 2 4)) Z2 cF cG cI hL1 cJ cK) ?_;rintro _ _ _ _ _ ⟨_,_,_,_,_,_,_,_,_,_,rfl,cM,_,_,_,_,_,_⟩ hm;refine cd hm ?_ ?_<;>intro ef hm
 . refine qN ?_;have hm:=Q1b hm K W;refine pn ?_;exact Y5s (re hm (cM.sN 1 5))
 exact lg hm K (cM.sN 0 6)
theorem Z7s{G:Y0i}(hG:Sp7 G):Q4c (D8 G):=by
 intro g _ _ R _ Y0 Z9 Z5 a1 c1 _ c2 _ c3 b1 ab H1 _ _ c4 _ c5 _ _ c6 _ c7 p1 a8 c8 a9 c9 af c10 ag c11 ah c12 hS Z2 h1 h2 h3 hL1 h4 h5 h6 _ _ _ am r hm;refine eN Tryz.func82 Tryz.ntmps82 fun J=>?_;unfold D8 at hm;refine sq2 (bX (Z3y p1 a8 c8 a9 c9 af c10 ag c11 ah c12) hS ?_);intro _ E bz aY;refine pn ?_;refine sq2 ?_;obtain⟨u1,bA,hm⟩:=Z8 hm;obtain⟨cs1,bB,_,hT1⟩:=ixS aY bA h6;obtain⟨_,c13,rfl,bC⟩:=L0 bB;refine pu ?_;refine cB cf84 hm (hG.X2 (aY.bE [0,1] (Z3 2 4)) Z2 (mC h1) (mC h2) (mC h3) hL1 (mC h4) (mC h5) bC) ?_;rintro K _ T1 _ bF ⟨an,c14,ao,c15,ap,c16,aq,n3,c17,au,c18,av,n4,c19,ax,c20,rfl,bG,_,_,_,_,_,_⟩ hm;refine aL zv6 bG ?_;intro _ O bI bJ;refine sT 0 bJ ?_;intro w4 bL aZ;refine pn ?_;refine sq2 (sq2 (cd hm ?_ ?_))<;>intro cj hm
 . exact sq2 (re hm (aZ.sN 2 5))
 refine kD ?_;refine sq2 (qN ?_);refine lpJ hm (fun U V m a w5=>∃T2 x1 x2,JR (nf 89) g T1 w4 a w5 T2 (X5 U m (x1,x2)=some V) [(0,pt Y0 Z9),(3,pt E 0),(5,pt O 0),(7,iv x1),(8,iv x2)] ([Q69 O K.1,K0 E (Z3y p1 a8 c8 a9 c9 af c10 ag c11 ah c12),Y7 R]++J5 K.2.2 Z5 H1 an c14 ao c15 ap c16 b1 ab aq n3 c17 au c18 av n4 c19 ax c20)) (fun _ _ h=>je h (aZ.sN 0 7)) ?_;rintro U ai V W _ _ w5 ⟨T2,x1,x2,J,aj,rfl,ba,bM⟩;obtain⟨m1,z1,rfl,hm,D⟩:=lrE aj ai;refine sq2 (sq2 (cd hm ?_ ?_))<;>intro ck hm
 . refine pn ?_;refine M8 hm (fun be a w6=>∃T3 x3,JR (nf 89) g T2 w5 a w6 T3 (be x3=some z1) [(0,pt Y0 Z9),(3,pt E 0),(5,pt O 0),(7,iv x3),(8,iv x2)] ([Q69 O K.1,K0 E (Z3y p1 a8 c8 a9 c9 af c10 ag c11 ah c12),Y7 R]++J5 K.2.2 Z5 H1 an c14 ao c15 ap c16 b1 ab aq n3 c17 au c18 av n4 c19 ax c20)) (fun be hm=>?_) ?_
   . exact zr hm ba
   rintro _ w6 ⟨T3,x3,J,hm,rfl,bN,_⟩;exact lg hm D (bN.sN 0 7)
 have hm:=Q4m hm D W;refine kC ?_;refine lpJ hm (fun U V m a w7=>∃T4 x4 x5,JR (nf 89) g T2 w5 a w7 T4 (X5 U m (x4,x5)=some V) [(0,pt Y0 Z9),(3,pt E 0),(5,pt O 0),(7,iv x4),(9,iv x5)] ([Q69 O K.1,K0 E (Z3y p1 a8 c8 a9 c9 af c10 ag c11 ah c12),Y7 R]++J5 K.2.2 Z5 H1 an c14 ao c15 ap c16 b1 ab aq n3 c17 au c18 av n4 c19 ax c20)) (fun _ _ h=>je h (ba.sN 0 7)) ?_;rintro U ai V W _ _ w7 ⟨T4,x4,x5,J,aj,rfl,aF,bO⟩;obtain⟨m1,z1,rfl,hm,D⟩:=lrE aj ai;refine sq2 (sq2 (cd hm ?_ ?_))<;>intro cl hm
 . refine pn ?_;refine M8 hm (fun bh a w8=>∃T5 x6,JR (nf 89) g T4 w7 a w8 T5 (bh x6=some z1) [(0,pt Y0 Z9),(3,pt E 0),(5,pt O 0),(7,iv x6),(9,iv x5)] ([Q69 O K.1,K0 E (Z3y p1 a8 c8 a9 c9 af c10 ag c11 ah c12),Y7 R]++J5 K.2.2 Z5 H1 an c14 ao c15 ap c16 b1 ab aq n3 c17 au c18 av n4 c19 ax c20)) (fun bh hm=>?_) ?_
   . refine blk (sq2 ?_);obtain⟨_,bP,hm⟩:=Z8 hm;obtain⟨cs3,bQ,_,hT3⟩:=ixS aF bP am;obtain⟨_,c22,rfl,_⟩:=Z3i bQ;refine rqS aF (pu ?_)
     rcases bc hm with⟨bR,hm⟩|⟨bR,hm⟩
     . obtain⟨_,bT,hm⟩:=Z8 hm;obtain⟨cs4,bU,_,hT4⟩:=ixS aF bT am;obtain⟨_,c23,rfl,_⟩:=Z3i bU;refine pn ?_;intro _ _ _ bk;refine cd hm ?_ ?_<;>intro cm hm
       . exact je hm (bk.sN 0 7)
       exact je hm (bk.sN 0 7)
     refine pn ?_;intro _ T7 _ bV;refine pn ?_;exact cnd (b:=false) rfl (fun h=>nomatch h) (fun _=>je hm (bV.sN 0 7))
   rintro _ w8 ⟨T5,x6,J,hm,rfl,bW,_⟩;exact lg hm D (bW.sN 0 7)
 have hm:=Q4m hm D W;refine kE ?_;refine sq2 ?_;obtain⟨u5,bm,hm⟩:=Z8 hm;obtain⟨bY,c24,bZ,b0⟩:=(am.mono (iT bz (iT bF (iT bI (iT bL (iT bM bO)))))).part bm;refine pu ?_;refine pv (r_slR rfl (mC am) ⟨_,rfl⟩ rfl bm underlying153 sizeOf236 rfl bZ) (pn ?_);refine lpJ hm (fun U V m a aN=>∃T8 aG ak bn n5 c25 bp n6 c26 x9 aR c27 aS c28 aT c29 aU c30 aV c31,JR (nf 89) g T4 w7 a aN T8 (X5 U m (x9,ak,aG)=some V) [(0,pt Y0 Z9),(72,sv bY u5 c24),(73,iv (qQ u5:Int)),(74,iv x9)] ([Y7 R]++J5 ({ak with mem:=aG}) Z5 H1 aR c27 aS c28 aT c29 b1 ab bn n5 c25 aU c30 bp n6 c26 aV c31)/\Q5 aR aS aT aU aV c27 c28 c29 c30 c31 T8 aN ak) (fun _ _ h=>je h (aF.sN 2 5)) ?_;rintro U ai V W _ _ aN ⟨T8,aG,ak,bn,n5,c25,bp,n6,c26,x9,aR,c27,aS,c28,aT,c29,aU,c30,aV,c31,⟨J,aj,rfl,aW,_⟩,b3,b5,b6,b7,b8⟩;obtain⟨m1,z1,rfl,hm,D⟩:=lrE aj ai;refine qN ?_;refine sq2 (cd hm ?_ ?_)<;>intro cn hm
 . refine kE ?_;refine blk (sq2 ?_);obtain⟨_,cc,hm⟩:=Z8 hm;obtain⟨cs5,ce,_,hT5⟩:=ixS aW cc b0;obtain⟨_,_,rfl,cf⟩:=Z3i ce;refine aL [.bool false,.int .u32 0,.slice none 0 0] aW ?_;intro _ _ _ cg;refine sT 0 cg ?_;intro _ _ ci;refine kA ?_;refine cB cf26 hm (hG.V5 (p0:={ak with mem:=aG}) (ci.bE [1] (Z3 2 4)) Z2 (mC b3) (mC b5) (mC b6) hL1 (mC b7) (mC b8) (mC cf)) ?_;rintro _ _ _ _ _ ⟨_,_,_,_,_,_,_,_,_,_,_,_,_,_,_,_,rfl,aX,_,_,_,_,_,_⟩ hm;refine kD ?_;refine blk (sq2 (cd hm ?_ ?_))<;>intro co hm
   . refine qN ?_;have hm:=Q1b hm D W;exact re hm (aX.sN 0 5)
   refine sq2 (cd hm ?_ ?_)<;>intro cp hm
   . exact lg hm D (aX.sN 0 5)
   refine qN ?_;have hm:=Q1b hm D W;exact re hm (aX.sN 0 5)
 have hm:=Q4m hm D W;refine pn ?_;exact sq2 (re hm (aW.sN 0 5))
theorem Y1t{G:Y0i}(hG:Sp7 G):Q8a (P3 G):=by
 intro g _ _ R _ Y0 Z9 Z5 a1 c1 _ c2 _ c3 b1 aK H1 _ _ c4 _ c5 _ _ c6 _ c7 E K c8 a9 c9 ad c10 ae c11 af c12 hS Z2 h1 h2 h3 hL1 h4 h5 _ _ _ _ _ r hm;refine eN Tryz.func43 Tryz.ntmps43 fun J=>?_;unfold P3 at hm;refine sq2 (bX (Z3y E K c8 a9 c9 ad c10 ae c11 af c12) hS ?_);intro _ O _ bk;refine kB ?_;refine cB cf79 hm (R1 (bk.bE [0,1] (Z3 2 4)) Z2 (mC h1) (mC h2) (mC h3) hL1 (mC h4) (mC h5)) ?_;rintro y1 _ T1 w2 _ ⟨_,c13,_,c14,_,c15,_,c16,_,c17,rfl,D,bo,bp,bq,bt,bu,_⟩ hm;refine cd hm ?_ ?_<;>intro bL hm
 . exact sq2 (re hm (D.sN 1 5))
 refine kC ?_;refine blk (sq2 (cd hm ?_ ?_))<;>intro bM hm
 . have bN:Ctr Tryz.prog 80 (type_of%@hG.V2):=⟨@hG.V2,cf80⟩;have bv:Ctr Tryz.prog 26 (type_of%@hG.V5):=⟨@hG.V5,cf26⟩;exact zr hm D
 refine sq2 (cd hm ?_ ?_)<;>intro bO hm
 . have bP:Ctr Tryz.prog 81 (type_of%@hG.E1):=⟨@hG.E1,cf81⟩;exact zr hm D
 refine sq2 (cd hm ?_ ?_)<;>intro bQ hm
 . have bR:Ctr Tryz.prog 82 (type_of%@hG.G6):=⟨@hG.G6,cf82⟩;exact zr hm D
 refine sq2 (cd hm ?_ ?_)<;>intro bT hm
 . have bv:Ctr Tryz.prog 26 (type_of%@hG.V5):=⟨@hG.V5,cf26⟩;exact zr hm D
 refine sq2 (cd hm ?_ ?_)<;>intro bU hm
 . exact sq2 (re hm (D.sN 1 5))
 refine sq2 (cd hm ?_ ?_)<;>intro bV hm
 . exact sq2 (re hm (D.sN 1 5))
 refine sq2 (cd hm ?_ ?_)<;>intro bW hm
 . refine sq2 (sq2 (rsS [0,0,0,0,1,0,0,0,1,0,1,0,0,1,2,2,0] [0,1,2,3,4,5,6,7,8,9,10,11,12,13,14,15,16] D fun w9 bZ bw=>?_));obtain⟨_,_,hm⟩:=Z8 hm;obtain⟨y8,bA,hm⟩:=Z8 hm;refine sS [] cf83 (Z0d (bw.bE [1,2,5,0] [3,4]) hL1 _ bA) ?_;rintro _ _ _ _ ⟨rfl,bB,_⟩;refine pu ?_;obtain⟨y9,bD,hm⟩:=Z8 hm;refine sS [] cf21 (Q1w (p0:={y1.2 with mem:=y8.2}) (bB.bE [0] [1,4,5,2]) Z2 (mC bo) (mC bp) (mC bq) hL1 (mC bt) (mC bu) _ bD) ?_;rintro _ _ _ _ ⟨_,_,_,_,_,_,_,_,_,_,rfl,aM,_,_,_,_,_,_⟩;refine pu ?_;refine se (K7 [(78,.bool (!y9.1))] ⟨rfl,qZt⟩ fun J=>?_);refine cd hm ?_ ?_<;>intro b0 hm
   . exact sq2 (re hm (aM.sN 0 5))
   refine pn ?_;exact sq2 (re hm (aM.sN 0 5))
 refine kC ?_;refine lpJ hm (fun aN o1 m a U=>∃V x5 W aQ aR aS aT aU aV x3 ah ai aj ak am an ao ap aq ar,JR (nf 105) g T1 w2 a U V (X5 aN m (x3,W,x5)=some o1) [(0,pt Y0 Z9),(3,pt O 0),(80,sv K E.A c8),(81,iv (qQ E.A:Int)),(82,iv x3)] (Q80 K a9 ad ae af ah aj am aQ ao aT aq O c8 c9 c10 c11 c12 ai ak an b1 aK aR aS ap aU aV ar Z5 H1 R E W x5)/\Q5 ah aj am ao aq ai ak an ap ar V U W) (fun _ _ h=>je h (D.sN 0 6)) ?_;rintro aN bF o1 bG _ _ U ⟨V,x5,W,aQ,aR,aS,aT,aU,aV,x3,ah,ai,aj,ak,am,an,ao,ap,aq,ar,⟨J,bI,rfl,au,_⟩,_,_,_,_,_⟩;obtain⟨m1,z1,rfl,hm,aW⟩:=lrE bI bF;refine qN ?_;refine sq2 (cd hm ?_ ?_)<;>intro b3 hm
 . refine pn ?_;refine M8 hm (fun aX a av=>∃aw x9 x8 aY aZ ba be bf bg ay az aA aB aC aD aE aF aG aI,JR (nf 105) g V U a av aw (aX x8 x9=some z1) [(0,pt Y0 Z9),(3,pt O 0),(80,sv K E.A c8),(81,iv (qQ E.A:Int)),(82,iv x3)] (Q80 K a9 ad ae af ay aA aC aY aE be aG O c8 c9 c10 c11 c12 az aB aD b1 aK aZ ba aF bf bg aI Z5 H1 R E x8 x9)/\Q5 ay aA aC aE aG az aB aD aF aI aw av x8) (fun aX hm=>?_) ?_
   . have b4:Ctr Tryz.prog 84 (type_of%@hG.X2):=⟨@hG.X2,cf84⟩;exact zr hm au
   rintro _ av ⟨aw,x9,x8,aY,aZ,ba,be,bf,bg,ay,az,aA,aB,aC,aD,aE,aF,aG,aI,⟨J,hm,rfl,bK,_⟩,_,_,_,_,_⟩;exact lg hm aW (bK.sN 0 6)
 have hm:=Q4m hm aW bG;refine pn ?_;refine sq2 (sq2 (cd hm ?_ ?_))<;>intro b5 hm
 . exact sq2 (re hm (au.sN 1 5))
 refine pn ?_;exact sq2 (re hm (au.sN 1 5))
theorem Y0a{G:Y0i}(hG:Sp7 G):Q7b (N3 G):=by
 intro g T0 w0 R _ Y0 Z9 Z5 a1 c1 _ c2 _ c3 b1 au H1 _ _ c4 _ c5 _ _ c6 _ c7 p1 a8 c8 hS Z2 h1 h2 _ hL1 _ _ h6 r hm;refine eN Tryz.func26 Tryz.ntmps26 fun J=>?_;unfold N3 at hm;refine qN ?_;refine sq2 (qN ?_);refine lpJ hm (fun ag o1 m a K=>∃O E D a9 n3 c9 ak n4 c10 U V c11 W c12 aa c13 ab c14 ac c15,JR (nf 21) g T0 w0 a K O (X5 ag m (U,D,E)=some o1) [(0,pt Y0 Z9),(8,sv a8 p1 c8),(9,iv (qQ p1:Int)),(10,iv U)] ([Y7 R]++J5 ({D with mem:=E}) Z5 H1 V c11 W c12 aa c13 b1 au a9 n3 c9 ab c14 ak n4 c10 ac c15)/\Q5 V W aa ab ac c11 c12 c13 c14 c15 O K D) (fun _ _ h=>je h (hS.sN 0 5)) ?_;rintro ag ax o1 an _ _ K ⟨O,E,D,a9,n3,c9,ak,n4,c10,U,V,c11,W,c12,aa,c13,ab,c14,ac,c15,⟨J,ay,rfl,ad,_⟩,h7,h8,h9,aC,aD⟩;obtain⟨m1,_,rfl,hm,ae⟩:=lrE ay ax;refine qN ?_;refine sq2 (cd hm ?_ ?_)<;>intro aQ hm
 . refine kE ?_;refine blk (sq2 ?_);obtain⟨u1,aE,hm⟩:=Z8 hm;obtain⟨cs1,aF,_,hT1⟩:=ixS ad aE h6;obtain⟨_,c16,_,c17,_,c18,_,c19,_,c20,rfl,aG,aI,aJ,aK,aM⟩:=Z5x aF;refine aL zv7 ad ?_;intro _ _ _ aN;refine sT 0 aN ?_;intro _ _ aP;refine kA ?_;refine cB cf43 hm (hG.B9 (p0:={D with mem:=E}) (aP.bE [1] (Z3 2 4)) Z2 (mC h7) (mC h8) (mC h9) hL1 (mC aC) (mC aD) (mC aG) (mC aI) (mC aJ) (mC aK) (mC aM)) ?_;rintro _ _ _ _ _ ⟨_,c21,_,c22,_,c23,_,_,c24,_,c25,_,_,c26,_,c27,rfl,ao,_,_,_,_,_,_⟩ hm;refine pn ?_;refine sq2 (cd hm ?_ ?_)<;>intro aR hm
   . refine qN ?_;have hm:=Q1b hm ae an;exact re hm (ao.sN 0 5)
   exact lg hm ae (ao.sN 0 5)
 have hm:=Q4m hm ae an;refine pn ?_;exact sq2 (re hm (ad.sN 0 5))
theorem Z9z{G:Y0i}(hG:Sp7 G):Q7a (N2 G):=by
 intro g _ _ R D Y0 Z9 Z5 a1 c1 _ c2 _ c3 b1 ar H1 _ _ c4 _ c5 _ _ c6 a7 c7 _ p2 a8 c8 p3 hS Z2 h1 h2 h3 hL1 h4 h5 h6 r hm;refine eN Tryz.func15 Tryz.ntmps15 fun J=>?_;unfold N2 at hm;refine sq2 (aL zv6 hS ?_);intro _ K _ ad;refine pn ?_;refine sq2 (sq2 (cd hm ?_ ?_))<;>intro bp hm
 . exact zr hm ad
 refine kE ?_;refine sB 2 11 Z2 ad ?_;intro _ _ aA;refine kE ?_;refine rsS [0,0,0,1,0,0,0,1,2,0,2] [0,1,2,3,4,5,6,7,8,9,10] aA fun w5 bt ae=>pu ?_;refine s1 rfl qZt (Z9n rfl isAgg61 sizeOf61 rfl ((ae.cellsB (i:=2) ⟨rfl,rfl⟩ Z2).sub 13 rfl) (cs:=(O2 D.ret))) rfl (s2W [] ?_);refine oaL zv6 ae ?_;intro _ O _ af;refine⟨st1 rfl (Z9n rfl isAgg61 sizeOf61 rfl ((af.cellsB (i:=3) ⟨rfl,rfl⟩ Z2).sub 13 rfl) (cs:=(O2 D.ret))) (st1 rfl opv (st0)),?_⟩;refine s2W [0,0] ?_;refine osT 0 af ?_;intro _ _ ag;refine pn ?_;refine sq2 ?_;obtain⟨u1,aB,hm⟩:=Z8 hm;obtain⟨cs1,aC,_,hT1⟩:=ixS ag aB h3;obtain⟨_,c14,_,c15,rfl,aD,ah⟩:=Z0s aC;refine aL zv16 ag ?_;intro _ b5 _ aF;refine sT 0 aF ?_;intro _ _ aG;refine nil (K7 [(0,pt Y0 Z9),(2,sv a8 p2 c8),(3,.bool p3),(8,pt K 0),(10,sv a7 D.vars c7),(11,pt O 0),(12,pt b5 0)] ⟨rfl,rfl,rfl,rfl,rfl,rfl,rfl,qZt⟩ fun J=>qU ?_);refine cB cf24 hm (Z2h (aG.bE (Z3 0 8) [])) ?_;rintro y2 _ _ _ _ ⟨rfl,aJ,_⟩ hm;refine sB 4 13 Z2 aJ ?_;intro _ _ aK;refine kB ?_;refine cB cf25 hm (Q8o (p0:={D with deep:=IntKind.wrap .i64 (D.deep+1),ret:=y2}) (aK.bE (Z3 0 4) (Z3 4 4)) Z2 (mC h1) (mC h2) (mC h3) hL1 (mC h4) (mC h5) (mC aD) (mC ah) (mC h6)) ?_;rintro _ _ _ _ _ ⟨_,c16,_,c17,_,c18,_,_,c19,_,c20,_,c21,rfl,ai,aM,aN,aP,aQ,aR,_⟩ hm;refine pu ?_
 rcases bc hm with⟨aS,hm⟩|⟨aS,hm⟩
 . have U:KD [(8,[]),(10,[3,7,8])]:=⟨qZt⟩;exact zr hm ai
 refine pu ?_;refine cB cf26 hm (hG.V5 (ai.bE [1,2,3] (Z3 4 4)) Z2 aM aN aP hL1 aQ aR (mC ah)) ?_;rintro E _ T4 aU _ ⟨aV,c22,aW,c23,aX,c24,aY,n4,c25,a9,c26,ba,n5,c27,aj,c28,rfl,ak,_,_,_,_,_,_⟩ hm;refine cd hm ?_ ?_<;>intro bu hm
 . have U:KD [(8,[]),(10,[3,7,8])]:=⟨qZt⟩;exact zr hm ak
 refine kC ?_;refine lpJ hm (fun am o1 m a ao=>∃T5 V W,JR (nf 102) g T4 aU a ao T5 (X5 am m (V,W)=some o1) [(0,pt Y0 Z9),(8,pt K 0),(10,sv a7 D.vars c7),(11,pt O 0),(68,sv aj E.2.vars c28),(69,iv (qQ E.2.vars:Int)),(70,iv W)] ([K0 O (O2 D.ret),K0 K zv6,Y7 R]++J5 ({E.2 with mem:=(⟨V⟩:Y5)}) Z5 H1 aV c22 aW c23 aX c24 b1 ar aY n4 c25 a9 c26 ba n5 c27 aj c28)) (fun _ _ h=>je h (ak.sN 0 7)) ?_;rintro am bf o1 bg _ _ ao ⟨T5,V,W,J,bh,rfl,aa,_⟩;obtain⟨m1,_,rfl,hm,bi⟩:=lrE bh bf;refine qN ?_;refine sq2 (cd hm ?_ ?_)<;>intro bv hm
 . refine kE ?_;refine blk (sq2 ?_);obtain⟨_,_,hm⟩:=Z8 hm;refine aL [iv 0,iv 0,iv 0,iv 0] aa ?_;intro _ _ _ bj;refine sT 0 bj ?_;intro _ _ bk;refine pn ?_;refine rsS [0,0,0,1,0,1,2] [0,1,2,3,4,5,6] bk fun bw bz bl=>?_;have U:KD [(6,[3,5])]:=⟨qZt⟩;exact zr hm bl
 have hm:=Q4m hm bi bg;refine kA ?_;refine pv (Z9n rfl isAgg61 sizeOf61 rfl ((aa.cellsB (i:=3) ⟨rfl,rfl⟩ Z2).sub 13 rfl) (cs:=(O2 E.2.ret))) (aL zv6 aa ?_);intro _ _ _ bm;refine sT 0 bm ?_;intro _ _ bn;refine kE ?_;refine rsS [0,0,0,1,0,0,2,0,0,2] [0,1,2,3,4,5,6,7,8,9] bn fun bA bB bo=>?_;have U:KD [(6,[]),(9,[3,6])]:=⟨qZt⟩;exact zr hm bo
end Go.Proofs.YtbfpdnogfkbiaaaGreat
