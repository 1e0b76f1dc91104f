/- Lemmas that hold for every program. -/
import Derived.Test.YtjohcgibbiebkaaGreatDoorKWc
set_option linter.unusedVariables false
namespace Go.Proofs.YtjohcgibbiebkaaGreatDoor
section
open _root_.Go.Proofs.Tryz
set_option maxRecDepth 100000
set_option maxHeartbeats 8000000
attribute [local irreducible] wpList wpQuiet Code.wp
variable{g:World}{T0:TP}{w0:World}{R:List X1}
variable{b1 b2 Y3 Q1x Z9o Z9n Y1k c1 c2 c3 c4 c5 c6 c7 c8 c9 c10 c11 c12 c13 n1 n2 n3 n4 n5 n6 n7 Y2 Q1w Z9e Z9d Y0q oo1 oo2:Nat}{H1 H2 Z6 Q0a Z6j Z6i Z9p:Ab->X1}{a1 a2 a3 a4 a5 a6 a7 a8 a9 a10 a11 a12 a13:OA}{r1 r2:Option Nat}{pv1:Value}
attribute [local irreducible] H8 Q1o execOp Program.underlying sizeOf isAgg zeroValue

theorem Z8i{G:Q2l}(hG:Sp3 G):Q4y (I3 G):=by
 intro g _ _ R _ Y3 Y2 Z6 _ _ H1 a1 _ c1 _ _ c2 _ _ c3 _ _ c4 _ _ _ _ c5 _ _ c6 _ D E c7 hS Z1 hL1 h1 r hm;refine eN Tryz.func194 Tryz.ntmps194 fun J=>?_;unfold I3 at hm;refine sq2 (bX (E9 D E c7) hS ?_);intro _ _ _ I;refine aL zv1 I ?_;intro _ _ _ K;refine kA ?_;refine cP Y9s hm (hG.V5 (K.bE [0,1,2] (Z4 3 11)) Z1 hL1 (mC h1)) ?_ ?_
 . exact zk
 rintro _ _ _ _ _ ⟨_,c8,_,_,c9,rfl,O,h2,_⟩ hm;refine aL zv1 O ?_;intro _ _ _ U;refine sT 0 U ?_;intro _ _ V;refine kE ?_;refine sq2 (rsS [0,1,0,0,0,0,0,1,0,1,2,0,0] [0,1,2,3,4,5,6,7,8,9,10,11,12] V fun w6 ab W=>?_);have dd:KD [(10,[1,7,9])]:=⟨qZt⟩;exact zr hm W
theorem Z7e{G:Q2l}(hG:Sp3 G):Q3y (A6 G):=by
 intro g T0 _ R p0 Y3 Y2 Z6 b1 ar H1 a1 n1 c1 a2 n2 c2 a3 n3 c3 a4 n4 c4 r1 r2 a5 n5 c5 a6 n6 c6 ab p1 a7 c7 hS Z1 hL1 h1 r hm;refine eN Tryz.func171 Tryz.ntmps171 fun J=>?_;unfold A6 at hm;refine sq2 (bX (E9 p1 a7 c7) hS ?_);intro _ b2 _ bq;refine aL zv1 bq ?_;intro w2 O _ bu;refine pn ?_;refine O1 hm (fun aX a w3=>∃T1 U x1 a8 c8 I E V c9,JR (nf 110) g T0 w2 a w3 T1 (aX x1 E=some r) (Q68 Y3 Y2 b2 O U I) ((Q80 a7 O b2 c7 R p1)++(X5 p0 Z6 H1 b1 ar a1 n1 c1 a2 n2 c2 a3 n3 c3 a4 n4 c4 r1 r2 a5 n5 c5 a6 n6 c6 ab++[Q16 ab p0,Q22 a8 U c8 x1,Q22 V I c9 E]))/\Q7 a8 c8 T1 w3 x1.Kids/\Q7 V c9 T1 w3 E.Kids) (fun aX hm=>?_) ?_
 . refine rtS [0,1,0,1,0,1,0,1,2,2,2,2] [0,1,2,3,4,5,6,7,8,9,10,11] bu fun w4 cy an=>?_;obtain⟨u1,bv,hm⟩:=bindS hm;obtain⟨cs1,bw,_,hT1⟩:=ixS an bv h1;obtain⟨_,c10,rfl,_⟩:=K5 bw;obtain⟨_,bz,hm⟩:=bindS hm;obtain⟨cs2,bA,_,hT2⟩:=ixS an bz h1;obtain⟨_,c11,rfl,_⟩:=K5 bA;refine tF [8,9] ?_;refine⟨?_,?_,qZt⟩
   . refine brW [9,10,11] [] ?_;refine oaL zv2 an ?_;intro w5 b8 bD aJ;refine t1W [9] [10,11] [] ?_;refine oaL zv2 aJ ?_;intro w6 b9 bI aK;refine t1W [10] [11] [1,1,0,0] ?_;refine osT 1 aK ?_;intro w7 bK aM;refine t1W [11] [] [0,0] ?_;refine osT 0 aM ?_;intro w8 bM aN;refine pu ?_;exact je hm (aN.sE (Z4 2 14++[1,0]))
   refine brW [8,10,11] [] ?_;refine oaL zv2 an ?_;intro w5 b8 bD aJ;refine t1W [8] [10,11] [] ?_;refine oaL zv2 aJ ?_;intro w6 b9 bI aK;refine t1W [10] [11] [1,1,0,0] ?_;refine osT 0 aK ?_;intro w7 bK aM;refine t1W [11] [] [0,0] ?_;refine osT 1 aM ?_;intro w8 bM aN;refine pu ?_;exact je hm (aN.sE (Z4 2 14++[0,1]))
 rintro _ w3 ⟨T1,U,x1,a8,c8,I,E,V,c9,⟨J,hm,rfl,bN,_⟩,h2,h3⟩;refine qU ?_;refine cP cf194 hm (hG.G3 (bN.bE [0,1,2,14,15] (Z4 3 11)) Z1 hL1 h2) ?_ ?_
 . exact zk
 rintro D _ T2 _ _ ⟨K,c12,aY,n7,c13,rfl,bP,h6,_⟩ hm;refine aL zv1 bP ?_;intro _ ac _ bQ;refine sT 0 bQ ?_;intro bR _ bT;refine pn ?_;refine O1 hm (fun ba a aP=>∃T3 W x3 aR c14,JR (nf 110) g T2 bR a aP T3 (ba x3=some r) [(0,pt Y3 Y2),(3,pt b2 0),(4,pt O 0),(5,pt U 0),(6,pt I 0),(7,pt ac 0),(8,pt W 0)] ([Q33 K ac c12 D.1,K7 O zv1,Q22 a7 b2 c7 p1,X0 R,Q22 a8 U c8 x1,Q22 V I c9 E]++(X5 D.2 Z6 H1 b1 ar aY n7 c13 a2 n2 c2 a3 n3 c3 a4 n4 c4 r1 r2 a5 n5 c5 a6 n6 c6 ab++[Q16 ab D.2,Q75 aR W c14 x3]))/\Q11 aR c14 T3 aP x3.Kids) (fun ba hm=>?_) ?_
 . refine rtS [0,0,0,1,0,1,2,0,0,1,2,0,2,2] [0,1,2,3,4,5,7,8,9,6,10,11,12,13] bT fun cz cA bU=>?_;have dd:KD [(6,[3,5]),(10,[3,5,6,9]),(12,[]),(13,[3,5,6,9,10,12])]:=⟨qZt⟩;exact zr hm bU
 rintro _ aP ⟨T3,W,x3,aR,c14,⟨J,hm,rfl,be,_⟩,_⟩;refine sq2 (sq2 (cd hm ?_ ?_))<;>intro cC hm
 . refine sq2 (Z1p [0,1,0,1,0,1,2,0,1,2,2,0,2] [0,1,2,3,4,5,7,8,6,9,10,11,12] be (U5 (U5 (C8))) fun cD cE bf=>pu ?_);obtain⟨y4,bh,hm⟩:=bindS hm
   rcases y4 with e2|y4
   . have hm:=G0 hm;refine s2 [(8,iv D.1.n),(3,.agg (E9 E V c9).toArray),(1,.agg (U4 D.1.term K c12).toArray)] rfl qZt rfl (by kernel_rfl) (Z0k I6 rfl (hG.Z3 (p0:=D.2) (p1:=E) (bf.bE [0,1,3,17,5] (Z4 6 11)) Z1 hL1 (mC h3) _ bh) rfl fun v8 cI cJ cK bV=>?_);obtain⟨_,_,c19,rfl,bW,_⟩:=bV;exact pe hm (bW.sE ([2]++Z4 5 11))
   have hm:=C1 hm;refine sS [(8,iv D.1.n),(3,.agg (E9 E V c9).toArray),(1,.agg (U4 D.1.term K c12).toArray)] I6 (hG.Z3 (bf.bE [0,1,3,17,5] (Z4 6 11)) Z1 hL1 (mC h3) _ bh) ?_;rintro _ _ _ _ ⟨_,c15,_,_,c16,rfl,bi,h8,_⟩;refine pu ?_;obtain⟨y5,bZ,hm⟩:=bindS hm
   rcases y5 with e1|y5
   . have dd:KD [(6,[5]),(9,[3,5,6,8]),(10,[1,3,5,6,8,9]),(12,[1,3,5,6,8,9,10])]:=⟨qZt⟩;exact zr hm bi
   have hm:=C1 hm;refine sS [(1,.agg (U4 D.1.term K c12).toArray)] Z3y (U2 (bi.bE [0,1,2,3,15,4] (Z4 5 10)) Z1 hL1 (mC h3) h8 _ bZ) ?_;rintro _ _ _ _ ⟨b0,c17,rfl,b6,h9,_⟩;refine s2W [0] ?_;refine obS (r:=X6) (l:=([D.1.term,y5]:List Y9)) (css:=[(U4 D.1.term K c12),(U4 y5 b0 c17)]) b6 ⟨(V9 (x:=D.1.term) (mC h6):X6.rp _ _ _ _),(V9 (x:=y5) h9:X6.rp _ _ _ _),qZt⟩ ?_;intro _ _ _ c18 _ cc;refine s2W [] ?_;refine osT 4 cc ?_;intro _ _ ce;refine kE ?_;refine rsS [0,0,1,2,1,0,2] [0,1,2,4,3,5,6] ce fun cM cO cf=>?_;have dd:KD [(3,[2]),(6,[2,3,4])]:=⟨qZt⟩;exact zr hm cf
 refine pn ?_;refine sq2 ?_;obtain⟨_,cg,hm⟩:=bindS hm;refine pu ?_;refine pv (r_ss rfl rfl ⟨_,rfl⟩ cg underlying9) (cB cf191 hm (Q9g (be.bE ([0,1]++Z4 3 15) [])) ?_);rintro y7 _ ci _ _ ⟨rfl,cj,_⟩ hm;refine sT 16 cj ?_;intro _ _ ck;refine sT 16 ck ?_;intro cl _ bj;refine pn ?_;refine O1 hm (fun bk a aT=>∃aU x4 aV c20,JR (nf 110) g ci cl a aT aU (bk x4=some r) [(0,pt Y3 Y2),(4,pt O 0),(6,pt I 0),(7,pt ac 0),(8,pt W 0)] ([Q33 K ac c12 D.1,K7 O zv1,X0 R,Q22 V I c9 E]++(X5 D.2 Z6 H1 b1 ar aY n7 c13 a2 n2 c2 a3 n3 c3 a4 n4 c4 r1 r2 a5 n5 c5 a6 n6 c6 ab++[Q16 ab D.2,Q75 aV W c20 x4]))/\Q11 aV c20 aU aT x4.Kids) (fun bk hm=>?_) ?_
 . refine sq2 (cd hm ?_ ?_)<;>intro cQ hm
   . refine qU ?_;refine cB cf174 hm (Q1q (bj.bE (Z4 0 5++[15,16]) (Z4 5 10)) Z1 hL1) ?_;rintro y8 _ _ _ _ ⟨rfl,cm,_⟩ hm;refine kB ?_;refine fkN (d:=85) (c:=((!y8.2)||((y7 !=1)&&(y7 !=2)))) 9 [(0,pt Y3 Y2),(4,pt O 0),(5,pt U 0),(6,pt I 0),(7,pt ac 0),(8,pt W 0),(9,iv y8.1)] rfl (fun hk=>?_) fun J=>?_
     . rcases Bool.eq_false_or_eq_true (!y8.2)with aa|aa
       . exact gF4 (d0:=76) rfl rfl (by rw[aa];rfl) (gU (d0:=80) rfl rfl (gU (d0:=80) rfl rfl (gU (d0:=80) rfl rfl (gF (d0:=76) rfl rfl (by rw[aa];rfl) (pv (Y2k rfl aa rfl) (wlR (fun J=>hk J _ (by rw[aa];rfl)) ⟨rfl,rfl,rfl,rfl,rfl,rfl,rfl,rfl,qZt⟩))))))
       refine pu ?_;refine fkC (d:=84) (c:=((y7 !=1)&&(y7 !=2))) 4 [(0,pt Y3 Y2),(4,pt O 0),(5,pt U 0),(6,pt I 0),(7,pt ac 0),(8,pt W 0),(9,iv y8.1),(76,.bool (!y8.2))] rfl (fun hk=>zw (y7 !=1) hk) fun J=>?_;exact pv (Y2l rfl aa rfl) (wlR (fun J=>hk J _ (by rw[aa];rfl)) ⟨rfl,rfl,rfl,rfl,rfl,rfl,rfl,rfl,qZt⟩)
     exact zr hm cm
   exact je hm (bj.sE ([0,1,2]++Z4 4 13))
 rintro _ aT ⟨aU,x4,aV,c20,⟨J,hm,rfl,cn,_⟩,_⟩;refine sq2 (Z1p [0,1,0,1,2,2,0,2] [0,1,2,3,4,5,6,7] cn (U5 (C8)) fun cR cT bm=>pu ?_);obtain⟨ah,bn,hm⟩:=bindS hm
 rcases ah with e4|ah
 . have hm:=G0 hm;refine s2 [(1,.agg (U4 D.1.term K c12).toArray)] rfl qZt rfl (by kernel_rfl) (Z0k Y9r rfl (hG.X7 (p0:=D.2) (p1:=E) (bm.bE [0,1,2,15,3] (Z4 4 11)) Z1 hL1 (mC h3) _ bn) rfl fun cV cW cX cY co=>?_);obtain⟨_,_,c24,rfl,cp,_⟩:=co;exact pe hm (cp.sE ([2]++Z4 5 11))
 have hm:=C1 hm;refine sS [(1,.agg (U4 D.1.term K c12).toArray)] Y9r (hG.X7 (bm.bE [0,1,2,15,3] (Z4 4 11)) Z1 hL1 (mC h3) _ bn) ?_;rintro _ _ _ _ ⟨cq,c21,_,_,c22,rfl,cr,ct,_⟩;refine s2W [0] ?_;refine obS (r:=X6) (l:=([D.1.term,ah.1]:List Y9)) (css:=[(U4 D.1.term K c12),(U4 ah.1 cq c21)]) cr ⟨(V9 (x:=D.1.term) (mC h6):X6.rp _ _ _ _),(V9 (x:=ah.1) ct:X6.rp _ _ _ _),qZt⟩ ?_;intro _ _ _ c23 _ cu;refine s2W [] ?_;refine osT 4 cu ?_;intro _ _ cv;refine kE ?_;refine rsS [0,0,1,2,1,0,2] [0,1,2,4,3,5,6] cv fun cZ da cw=>?_;have dd:KD [(3,[2]),(6,[2,3,4])]:=⟨qZt⟩;exact zr hm cw
end
section
open _root_.Go.Proofs.Tryz
set_option maxRecDepth 100000
set_option maxHeartbeats 8000000
attribute [local irreducible] wpList wpQuiet Code.wp
variable{g:World}{T0:TP}{w0:World}{R:List X1}
variable{b1 b2 Y3 Q1x Z9o Z9n Y1k c1 c2 c3 c4 c5 c6 c7 c8 c9 c10 c11 c12 c13 n1 n2 n3 n4 n5 n6 n7 Y2 Q1w Z9e Z9d Y0q oo1 oo2:Nat}{H1 H2 Z6 Q0a Z6j Z6i Z9p:Ab->X1}{a1 a2 a3 a4 a5 a6 a7 a8 a9 a10 a11 a12 a13:OA}{r1 r2:Option Nat}{pv1:Value}
attribute [local irreducible] H8 Q1o execOp Program.underlying sizeOf isAgg zeroValue

theorem Z9j{G:Q2l}(hG:Sp3 G):Q5z (O8 G):=by
 intro g T0 _ R p0 Y3 Y2 Z6 b1 av H1 a1 n1 c1 a2 n2 c2 a3 n3 c3 a4 n4 c4 r1 r2 a5 n5 c5 a6 n6 c6 V p1 a7 c7 hS Z1 hL1 h1 r hm;refine eN Tryz.func172 Tryz.ntmps172 fun J=>?_;unfold O8 at hm;refine sq2 (bX (E9 p1 a7 c7) hS ?_);intro _ b2 _ bA;refine aL zv1 bA ?_;intro w2 U _ bC;refine pn ?_;refine O1 hm (fun aZ a w3=>∃T1 I W a8 c8 K x2 a9 c9,JR (nf 115) g T0 w2 a w3 T1 (aZ W x2=some r) (Q68 Y3 Y2 b2 U I K) ((Q80 a7 U b2 c7 R p1)++(X5 p0 Z6 H1 b1 av a1 n1 c1 a2 n2 c2 a3 n3 c3 a4 n4 c4 r1 r2 a5 n5 c5 a6 n6 c6 V++[Q16 V p0,Q22 a8 I c8 W,Q22 a9 K c9 x2]))/\Q7 a8 c8 T1 w3 W.Kids/\Q7 a9 c9 T1 w3 x2.Kids) (fun aZ hm=>?_) ?_
 . refine rtS [0,1,0,1,0,1,0,1,2,2,2,2] [0,1,2,3,4,5,6,7,8,9,10,11] bC fun w4 cD ap=>?_;obtain⟨u1,bD,hm⟩:=bindS hm;obtain⟨cs1,bF,_,hT1⟩:=ixS ap bD h1;obtain⟨_,c10,rfl,_⟩:=K5 bF;obtain⟨_,bG,hm⟩:=bindS hm;obtain⟨cs2,bI,_,hT2⟩:=ixS ap bG h1;obtain⟨_,c11,rfl,_⟩:=K5 bI;refine tF [8,9] ?_;refine⟨?_,?_,qZt⟩
   . refine brW [9,10,11] [] ?_;refine oaL zv2 ap ?_;intro w5 b8 bL aJ;refine t1W [9] [10,11] [] ?_;refine oaL zv2 aJ ?_;intro w6 b9 bO aK;refine t1W [10] [11] [1,1,0,0] ?_;refine osT 1 aK ?_;intro w7 bQ aM;refine t1W [11] [] [0,0] ?_;refine osT 0 aM ?_;intro w8 bT aN;refine pu ?_;exact je hm (aN.sE (Z4 2 14++[1,0]))
   refine brW [8,10,11] [] ?_;refine oaL zv2 ap ?_;intro w5 b8 bL aJ;refine t1W [8] [10,11] [] ?_;refine oaL zv2 aJ ?_;intro w6 b9 bO aK;refine t1W [10] [11] [1,1,0,0] ?_;refine osT 0 aK ?_;intro w7 bQ aM;refine t1W [11] [] [0,0] ?_;refine osT 1 aM ?_;intro w8 bT aN;refine pu ?_;exact je hm (aN.sE (Z4 2 14++[0,1]))
 rintro _ w3 ⟨T1,I,W,a8,c8,K,x2,a9,c9,⟨J,hm,rfl,ba,_⟩,h2,h3⟩;refine sq2 ?_;obtain⟨_,bU,hm⟩:=bindS hm;obtain⟨cs3,bV,_,hT3⟩:=ixS ba bU h1;obtain⟨_,c12,rfl,h6⟩:=K5 bV;refine pu ?_;refine cP Y5x hm (hG.V3 (ba.bE [0,2,14,15] (Z4 3 11)) Z1 hL1 h6) ?_ ?_
 . exact zk
 rintro y1 _ T2 _ _ ⟨be,c13,_,_,c14,rfl,bY,h7,_⟩ hm;refine aL zv3 bY ?_;intro _ bf _ b0;refine sT 0 b0 ?_;intro b6 _ b7;refine pn ?_;refine O1 hm (fun bg a aq=>∃T3 ab O aP n8 c15 ac D ai c16 ad E aj c17,JR (nf 115) g T2 b6 a aq T3 (bg O ab D E=some r) [(0,pt Y3 Y2),(4,pt U 0),(5,pt I 0),(6,pt K 0),(7,pt bf 0),(8,pt ac 0),(9,pt ad 0)] ([Q75 be bf c13 y1.1,K7 U zv1,X0 R,Q22 a8 I c8 W,Q22 a9 K c9 x2]++(X5 ({O with t:=ab}) Z6 H1 b1 av aP n8 c15 a2 n2 c2 a3 n3 c3 a4 n4 c4 r1 r2 a5 n5 c5 a6 n6 c6 V++[Q16 V O,Q33 ai ac c16 D,Q33 aj ad c17 E]))/\Q62 ai c16 T3 aq D/\Q62 aj c17 T3 aq E) (fun bg hm=>?_) ?_
 . refine rtPS [0,1,2,0,1,2,2,2,2,2] [0,1,3,4,2,5,6,7,8,9] b7 (U5 (C8)) fun cE cF cc=>?_;have cG:Ctr Tryz.prog 107 (type_of%@hG.Z3):=⟨@hG.Z3,I6⟩;have dd:KD [(2,[1]),(5,[1,2,4]),(6,[]),(7,[]),(8,[1,2,4,5,6,7]),(9,[1,2,4,5,6,7,8])]:=⟨qZt⟩;exact zr hm cc
 rintro _ aq ⟨T3,ab,O,aP,n8,c15,ac,D,ai,c16,ad,E,aj,c17,⟨J,hm,rfl,ce,_⟩,h8,h9⟩;refine sq2 (bS (r:=X6) (l:=([y1.1,D.term,E.term]:List Y9)) (css:=[(U4 y1.1 be c13),(U4 D.term ai c16),(U4 E.term aj c17)]) ce ⟨(V9 (x:=y1.1) (mC h7):X6.rp _ _ _ _),(V9 (x:=D.term) h8:X6.rp _ _ _ _),(V9 (x:=E.term) h9:X6.rp _ _ _ _),qZt⟩ ?_);intro _ ak am c30 _ cg;refine pv (P3 (by kernel_rfl) rfl (u:= .agg #[iv 9,iv 0,.int .u32 0,iv 0,.bool false,iv 0,.bool false,.bool false,.slice ak am c30])) (aL zv3 cg ?_);intro _ aS _ ci;refine sT 0 ci ?_;intro cj _ bi;refine kE ?_;refine blk (qU ?_);refine fkC (d:=46) (c:=((D.n==1)&&(E.n==1))) 4 [(0,pt Y3 Y2),(4,pt U 0),(5,pt I 0),(6,pt K 0),(8,pt ac 0),(9,pt ad 0),(10,pt aS 0)] rfl (fun hk=>zw (D.n==1) hk) fun J=>?_;refine cd hm ?_ ?_<;>intro cI hm
 . exact zr hm bi
 refine O1 hm (fun bj a bk=>∃bm aT,JR (nf 115) g T3 cj a bk bm (bj aT=some r) [(0,pt Y3 Y2),(4,pt U 0),(5,pt I 0),(6,pt K 0),(8,pt ac 0),(9,pt ad 0),(10,pt aS 0),(49,.bool aT)] ([K7 aS [iv 9,iv 0,.int .u32 0,iv 0,.bool false,iv 0,.bool false,.bool false,.slice ak am c30],F5 X6 181 (.slice ak am c30) ([y1.1,D.term,E.term]:List Y9),K7 U zv1,X0 R,Q22 a8 I c8 W,Q22 a9 K c9 x2]++(X5 ({O with t:=ab}) Z6 H1 b1 av aP n8 c15 a2 n2 c2 a3 n3 c3 a4 n4 c4 r1 r2 a5 n5 c5 a6 n6 c6 V++[Q16 V O,Q33 ai ac c16 D,Q33 aj ad c17 E]))) (fun bj hm=>?_) ?_
 . exact zr hm bi
 rintro _ bk ⟨bm,aT,J,hm,rfl,bn,_⟩;refine cd hm ?_ ?_<;>intro cJ hm
 . refine sq2 (Z1p [0,1,0,1,1,0,1,2,0,2,0,2] [0,1,2,3,4,5,6,8,7,9,10,11] bn (U5 (Q0s (U5 (C8)))) fun cK cL bo=>pu ?_);obtain⟨y6,ck,hm⟩:=bindS hm
   rcases y6 with e3|y6
   . have dd:KD [(7,[3,4,6]),(9,[1,3,4,6,7]),(11,[1,3,4,6,7,9])]:=⟨qZt⟩;exact zr hm bo
   have hm:=C1 hm;refine sS [(1,.slice ak am c30)] Z3y (U2 (p0:={O with t:=ab}) (bo.bE [0,1,2,3,16,17,18,5] (Z4 6 10)) Z1 hL1 (mC h3) (mC h9) _ ck) ?_;rintro _ _ _ _ ⟨_,c31,rfl,cl,cm,_⟩;refine s2W [0] ?_;refine osT 0 cl ?_;intro _ _ bp;refine pu ?_;obtain⟨_,cn,hm⟩:=bindS hm;obtain⟨cs4,co,_⟩:=(bp.own (i:=1) ⟨rfl,rfl⟩).v.ixcS cn rfl;obtain⟨_,_,rfl,_⟩:=Z1k co;obtain⟨_,cp,hm⟩:=bindS hm;refine s2W [] ?_;refine Y4u (q:=1) (j:=0) (u':=y6) bp ⟨rfl,rfl⟩ cp rfl rfl rfl sizeOf181 rfl rfl rfl (fun c0 aU=>by rw[Z0w (r:=X6) aU rfl];exact(V9 (x:=y6) (mC cm):X6.rp _ _ _ _)) fun cO cQ cq=>?_;have dd:KD [(7,[3,4,6]),(9,[1,3,4,6,7]),(11,[1,3,4,6,7,9])]:=⟨qZt⟩;exact zr hm cq
 refine qU ?_;refine cB Q2f hm (Y4 (p0:={O with t:=ab}) (bn.bE (Z4 0 6++[16,17,18]) (Z4 6 10)) Z1 hL1) ?_;rintro _ _ _ _ _ ⟨rfl,bq,_⟩ hm;refine pu ?_
 rcases bc hm with⟨cr,hm⟩|⟨cr,hm⟩
 . refine pu ?_;refine cB Y9t hm (Q4p (bq.bE (Z4 0 19) []) (mC h2)) ?_;rintro _ _ _ _ _ ⟨rfl,bt,_⟩ hm;refine cd hm ?_ ?_<;>intro cR hm
   . refine sq2 (rsS [0,1,2,0,2,0,2] [0,1,3,2,4,5,6] bt fun cT cU ct=>?_);obtain⟨y9,cu,hm⟩:=bindS hm;refine sS [(1,.slice ak am c30)] X3e (Q3d (ct.bE (Z4 0 4++[6]++Z4 8 11) []) _ cu) ?_;rintro _ _ _ _ ⟨_,_,rfl,cv,cw,_⟩;refine s2W [0] ?_;refine osT 0 cv ?_;intro _ _ bv;refine pu ?_;obtain⟨_,cx,hm⟩:=bindS hm;obtain⟨cs5,cy,_⟩:=(bv.own (i:=1) ⟨rfl,rfl⟩).v.ixcS cx rfl;obtain⟨_,_,rfl,_⟩:=Z1k cy;obtain⟨_,cz,hm⟩:=bindS hm;refine s2W [] ?_;refine Y4u (q:=1) (j:=0) (u':=y9) bv ⟨rfl,rfl⟩ cz rfl rfl rfl sizeOf181 rfl rfl rfl (fun c0 aU=>by rw[Z0w (r:=X6) aU rfl];exact(V9 (x:=y9) (mC cw):X6.rp _ _ _ _)) fun cV cW cA=>?_;have dd:KD [(2,[]),(4,[1,2]),(6,[1,2,4])]:=⟨qZt⟩;exact zr hm cA
   exact zr hm bt
 exact zr hm bq
theorem Z9k{G:Q2l}(hG:Sp3 G):Q6a (O9 G):=by
 intro g _ _ R p0 Y3 Y2 Z6 b1 ay H1 a1 n1 c1 a2 n2 c2 a3 n3 c3 a4 n4 c4 r1 r2 a5 n5 c5 a6 n6 c6 ac E W c7 hS Z1 hL1 h1 r hm;refine eN Tryz.func173 Tryz.ntmps173 fun J=>?_;unfold O9 at hm;refine sq2 (bX (E9 E W c7) hS ?_);intro _ K _ bG;refine aL zv1 bG ?_;intro _ O _ ad;refine kC ?_;refine blk (sq2 (cd hm ?_ ?_))<;>intro dh hm
 . refine qU ?_;refine pv (P3 (by kernel_rfl) rfl (u:= .agg #[iv 12,iv 0,.int .u32 0,iv 0,.bool false,iv 0,.bool false,.bool false,.slice none 0 0])) (pv (P3 (by kernel_rfl) rfl (u:= .agg #[iv 1,iv 12,iv 0,.int .u32 0,iv 0,.bool false,iv 0,.bool false,.bool false,.slice none 0 0,.bool false])) (sT 0 ad ?_));intro _ _ bI;exact re hm (bI.sN 2 12)
 refine sq2 (cd hm ?_ ?_)<;>intro di hm
 . refine sq2 ?_;obtain⟨u1,bJ,hm⟩:=bindS hm;obtain⟨cs1,bK,_,hT1⟩:=ixS ad bJ h1;obtain⟨_,c8,rfl,h2⟩:=K5 bK;refine pu ?_;refine cP Y9r hm (hG.X7 (ad.bE [0,2] (Z4 3 11)) Z1 hL1 h2) ?_ ?_
   . rintro _ _ _ _ _ ⟨_,_,c12,rfl,bL,_⟩ hm;exact pe hm (bL.sN 1 12)
   rintro y1 _ _ _ _ ⟨a9,c9,_,_,c10,rfl,bN,h3,_⟩ hm;refine bS (r:=X6) (l:=([y1.1]:List Y9)) (css:=[(U4 y1.1 a9 c9)]) bN ⟨(V9 (x:=y1.1) h3:X6.rp _ _ _ _),qZt⟩ ?_;intro _ aZ n8 c11 _ bO;refine pv (P3 (by kernel_rfl) rfl (u:= .agg #[iv 11,iv 0,.int .u32 0,iv 0,.bool false,iv 0,.bool false,.bool false,.slice aZ n8 c11])) (pv (P3 (by kernel_rfl) rfl (u:= .agg #[iv 0,iv 11,iv 0,.int .u32 0,iv 0,.bool false,iv 0,.bool false,.bool false,.slice aZ n8 c11,.bool false])) (sT 1 bO ?_));intro _ _ bP;refine pn ?_;obtain⟨_,_,bQ,_,rfl⟩:=bP.sl 0;exact re hm (bQ.sN 2 12)
 refine kE ?_;refine rqS ad (pu ?_);refine qv (fun _ hq=>(hq.elim fun _ hi=>Z7r (kk:=E.Name) (u:=0) rfl rfl ((ad.keep hi (fun _ h=>h)).getA (i:=10) ⟨rfl,rfl⟩) Z0r underlying82 underlying9 zeroValue3 rfl)) (pn ?_);intro w8 T4 _ aP;refine pn ?_;refine O1 hm (fun be a w9=>∃T5 x1,JR (nf 122) g T4 w8 a w9 T5 (be x1=some r) [(0,pt Y3 Y2),(3,pt K 0),(4,pt O 0),(5,iv ((P7 p0.codes E.Name).getD 0)),(6,.bool x1)] ((Q80 W O K c7 R E)++(Q2 a1 a2 a3 a4 a5 a6 b1 ay n1 c1 n2 c2 n3 c3 n4 c4 n5 c5 n6 c6 Z6 H1 ac r1 r2 p0))) (fun be hm=>?_) ?_
 . refine sq2 ?_;obtain⟨_,bU,hm⟩:=bindS hm;refine pu ?_;refine pv (r_opn rfl rfl (aP.optV (q:=13) ⟨rfl,rfl⟩ bU) underlying85) (cd hm ?_ ?_)<;>intro dj hm
   . refine sq2 (rsS [0,0,0,1,0,1,2,0,0,0,0,0] [0,1,2,3,4,5,6,7,8,9,10,11] aP fun dk dl bV=>pu ?_);obtain⟨I,aR,hm⟩:=bindS hm;obtain⟨b5,cs2,bY,bZ⟩:=bV.optE (q:=13) ⟨rfl,rfl⟩ aR;subst bY;obtain⟨⟨ag,ah,c13,ai,aj,c14,ak,am,c15⟩,b0⟩:=bZ.exE;obtain⟨hcs1,b4⟩:=b0.pE;subst hcs1;have b6:=b4.unb;obtain⟨y2,cc,hm⟩:=bindS hm;refine sS [] cf189 (Q3e (b6.bE (Z4 3 13) [16,0,1,2]) (Q1j b5) _ cc) ?_;rintro _ T6 bi _ ⟨rfl,bj,_⟩;refine pu ?_;refine se (B0 [(0,pt Y3 Y2),(3,pt K 0),(4,pt O 0),(5,iv ((P7 p0.codes E.Name).getD 0)),(6,.bool ((P7 p0.codes E.Name).isSome)),(8,.bool y2.2)] ⟨rfl,rfl,rfl,rfl,rfl,rfl,qZt⟩ fun J=>?_);refine sq2 (cd hm ?_ ?_)<;>intro dm hm
     . have ce:=bj.bE [14,15,16] (Z4 0 14);have cf:Sep g T6 bi (U8.A I [iv I.ret,.slice ag ah c13,.slice ai aj c14,.slice ak am c15,iv I.loops,iv I.breaks]::_):=Sep.exI (ag,ah,c13,ai,aj,c14,ak,am,c15) (Sep.pI rfl ce);have cg:=cf.optI0 (q:=13) ⟨rfl,rfl⟩ aR;exact je hm (cg.sN 0 14)
     have ci:=bj.bE [14,15,16] (Z4 0 14);have cj:Sep g T6 bi (U8.A I [iv I.ret,.slice ag ah c13,.slice ai aj c14,.slice ak am c15,iv I.loops,iv I.breaks]::_):=Sep.exI (ag,ah,c13,ai,aj,c14,ak,am,c15) (Sep.pI rfl ci);have ck:=cj.optI0 (q:=13) ⟨rfl,rfl⟩ aR;exact je hm (ck.sN 0 14)
   exact je hm (aP.sN 0 14)
 rintro _ w9 ⟨T5,x1,J,hm,rfl,aS,_⟩;refine sq2 (sq2 (cd hm ?_ ?_))<;>intro dn hm
 . refine pu ?_;refine cP Y5g hm (C9 (aS.bE (Z4 0 14) [])) ?_ ?_
   . rintro _ _ _ _ _ ⟨rfl,cl,_⟩ hm;exact pe hm (cl.sN 2 12)
   rintro _ _ _ _ _ _ hm;cases hm
 refine pn ?_;refine sq2 ?_;obtain⟨u6,cm,hm⟩:=bindS hm;obtain⟨cs3,cn,_⟩:=(aS.own (i:=12) ⟨rfl,rfl⟩).v.ixcS cm rfl;obtain⟨bk,c16,rfl,_⟩:=Q5j cn;refine aL [iv 0,.slice none 0 0] aS ?_;intro _ b7 _ co;refine sT 0 co ?_;intro _ _ cp;refine kA ?_;refine cB Q2f hm (Y4 (cp.bE [0,1,2,3,14] (Z4 4 10)) Z1 hL1) ?_;rintro y4 _ T9 _ _ ⟨rfl,ct,_⟩ hm;refine pv (P3 (by kernel_rfl) rfl (u:= .agg #[iv 10,iv 0,.int .u32 0,iv ((P7 p0.codes E.Name).getD 0),.bool false,iv 0,.bool false,.bool y4,.slice none 0 0])) (aL zv3 ct ?_);intro _ b8 _ cu;refine sT 0 cu ?_;intro cv _ cw;refine kC ?_;have cx:=cw.nilO X6 181;refine lpJ hm (fun bm o1 m a aT=>∃aU ae aa D U V c17 bo bp c18 aq,JR (nf 122) g T9 cv a aT aU (loopM bm m (aq,D,aa,ae)=some o1) [(0,pt Y3 Y2),(3,pt K 0),(4,pt O 0),(9,pt b7 0),(10,pt b8 0),(76,sv W E.Kids c7),(77,iv (List.length E.Kids:Int)),(78,iv aq)] ([Q73 U V c17 D.Kids,Q42 U b8 V c17 D,K7 b7 [iv u6.ret,sv bk u6.params c16],K7 O zv1,Q22 W K c7 E,X0 R,Q16 ac aa]++X5 ({aa with t:=ae}) Z6 H1 b1 ay bo bp c18 a2 n2 c2 a3 n3 c3 a4 n4 c4 r1 r2 a5 n5 c5 a6 n6 c6 ac)) (fun _ _ h=>je h (cx.sN 0 17)) ?_;rintro bm cy o1 aV _ _ aT ⟨aU,ae,aa,D,U,V,c17,bo,bp,c18,aq,J,cz,rfl,ar,_⟩;obtain⟨m1,z1,rfl,hm,au⟩:=lrE cz cy;refine qN ?_;refine sq2 (cd hm ?_ ?_)<;>intro dp hm
 . refine pn ?_;refine O1 hm (fun bq a bt=>∃bu aW av aw aX aY c19 bv bw c20,JR (nf 122) g aU aT a bt bu (bq aw av aW=some z1) [(0,pt Y3 Y2),(3,pt K 0),(4,pt O 0),(9,pt b7 0),(10,pt b8 0),(76,sv W E.Kids c7),(77,iv (List.length E.Kids:Int)),(78,iv aq)] ([Q73 aX aY c19 aw.Kids,Q42 aX b8 aY c19 aw,K7 b7 [iv u6.ret,sv bk u6.params c16],K7 O zv1,Q22 W K c7 E,X0 R,Q16 ac av]++X5 ({av with t:=aW}) Z6 H1 b1 ay bv bw c20 a2 n2 c2 a3 n3 c3 a4 n4 c4 r1 r2 a5 n5 c5 a6 n6 c6 ac)) (fun bq hm=>?_) ?_
   . refine blk (sq2 ?_);obtain⟨u7,cD,hm⟩:=bindS hm;obtain⟨cs4,cE,_,hT2⟩:=ixS ar cD h1;obtain⟨_,c21,rfl,h6⟩:=K5 cE;refine aL zv2 ar ?_;intro _ _ _ cF;refine sT 0 cF ?_;intro _ _ cG;refine kA ?_;refine cP I6 hm (hG.Z3 (p0:={aa with t:=ae}) (cG.bE (Z4 0 7) (Z4 8 10++[7])) Z1 hL1 (mC h6)) ?_ ?_
     . rintro _ _ _ _ _ ⟨_,_,c27,rfl,cI,_⟩ hm;have hm:=Q5e hm au aV;exact pe hm (cI.sN 6 12)
     rintro y5 _ _ _ _ ⟨_,c22,_,_,c23,rfl,cJ,h7,_⟩ hm;refine aL zv1 cJ ?_;intro _ _ _ cK;refine sT 0 cK ?_;intro _ _ bB;refine pn ?_;refine sq2 (cd hm ?_ ?_)<;>intro dq hm
     . refine Z1p [0,1,0,1,1,0,1,0,0,1,2,2,2,0,2] [0,1,2,3,4,5,6,7,8,9,10,11,12,13,14] bB (Q0s (U5 (U5 (Q0s (U5 (C8)))))) fun dr ds bC=>?_;obtain⟨u8,_,hm⟩:=bindS hm;refine pu ?_;obtain⟨y6,bD,hm⟩:=bindS hm
       rcases y6 with e3|y6
       . have hm:=G0 hm;refine s2 [(1,.slice U V c17)] rfl qZt rfl (by kernel_rfl) (Z0k X3d rfl (W3 (p0:=y5.2) (p1:=u7) (p2:=y5.1) (p3:=u8) (bC.bE (Z4 2 6++[18,0,1]) (Z4 8 10)) Z1 hL1 (mC h6) (mC h7) _ bD) rfl fun v9 dw dx dy cM=>?_);obtain⟨rfl,cO,_⟩:=cM;have hm:=Q5e hm au aV;exact pe hm (cO.sE ([5]++Z4 9 10++[6]))
       have hm:=C1 hm;refine sS [(1,.slice U V c17)] X3d (W3 (bC.bE (Z4 2 6++[18,0,1]) (Z4 8 10)) Z1 hL1 (mC h6) (mC h7) _ bD) ?_;rintro _ _ _ _ ⟨cQ,c24,rfl,cR,h8,_⟩;refine s2W [] ?_;refine obS (r:=X6) (l:=([y6]:List Y9)) (css:=[(U4 y6 cQ c24)]) cR ⟨(V9 (x:=y6) h8:X6.rp _ _ _ _),qZt⟩ ?_;intro _ _ _ c25 _ cU;refine pu ?_;obtain⟨_,cV,hm⟩:=bindS hm;refine s2W [0] ?_;refine oaO 1 cU (K9 cV) ?_;intro _ _ _ c26 _ cW;refine s2W [] ?_;refine osT 2 cW ?_;intro _ _ cX;refine pu ?_;exact je hm (cX.sE (Z4 1 7++Z4 10 10))
     exact je hm (bB.sE (Z4 2 6++[18]++Z4 8 10))
   rintro _ bt ⟨bu,aW,av,aw,aX,aY,c19,bv,bw,c20,J,hm,rfl,cY,_⟩;exact lg hm au (cY.sN 0 17)
 have hm:=Q7b hm au aV;refine pn ?_;refine sq2 (sq2 (cd hm ?_ ?_))<;>intro dz hm
 . refine pu ?_;refine cP Y5g hm (C9 (ar.bE (Z4 0 4++Z4 5 12) [])) ?_ ?_
   . rintro _ _ _ _ _ ⟨rfl,cZ,_⟩ hm;exact pe hm (cZ.sE ([4]++Z4 6 10++[5]))
   rintro _ _ _ _ _ _ hm;cases hm
 refine kE ?_;refine rsS [0,0,1,2,1,0,2] [0,1,2,4,3,5,6] ar fun dA dB da=>?_;obtain⟨db,dc,hm⟩:=bindS hm;refine sS [(4,.agg #[iv D.Kind,iv D.Fn,.int .u32 D.Num,iv D.Var,.bool D.Global,iv D.Size,.bool D.Post,.bool D.Ptr,.slice U V c17])] cf195 (Q2p (p0:={aa with t:=ae}) (da.bE [0,3,5,6,1,2] (Z4 7 10)) Z1 hL1 _ dc) ?_;rintro _ _ _ _ ⟨rfl,dd,_⟩;refine pu ?_;refine s0 rfl qZt (fun _=>P3 (by kernel_rfl) rfl (u:= .agg #[iv db,iv D.Kind,iv D.Fn,.int .u32 D.Num,iv D.Var,.bool D.Global,iv D.Size,.bool D.Post,.bool D.Ptr,.slice U V c17,.bool false])) rfl (s2W [0] ?_);refine osT 1 dd ?_;intro _ _ de;refine pn ?_;obtain⟨_,_,dg,_,rfl⟩:=de.sl 0;exact re hm (dg.sE ([2]++Z4 6 10++[3]))
end
end Go.Proofs.YtjohcgibbiebkaaGreatDoor
