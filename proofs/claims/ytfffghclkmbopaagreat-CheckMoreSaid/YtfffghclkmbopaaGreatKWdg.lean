/- That Go functions compute their models. Printed by gen2.py. -/
import Derived.Test.YtfffghclkmbopaaGreatKWd
set_option linter.unusedVariables false
namespace Go.Proofs.YtfffghclkmbopaaGreat
open _root_.Go.Proofs.Tryz
set_option maxRecDepth 100000
set_option maxHeartbeats 8000000
attribute [local irreducible] wpList wpQuiet Code.wp
variable{g:World}{T0:Nat->Prop}{w0:World}{R:List X4}
variable{b1 b2 Y5 Q1c Z6c Z6b Z6x c1 c2 c3 c4 c5 c6 c7 c8 c9 c10 c11 c12 c13 n1 n2 n3 n4 n5 n6 n7 Y4 Q1b Z5m Z5l Z6p oo1 oo2:Nat}{H1 H2 Z7 R6 Z3o Z3n Z6f:List Value->X4}{a1 a2 a3 a4 a5 a6 a7 a8 a9 a10 a11 a12 a13:OA}{r1 r2:Option Nat}{pv1:Value}
attribute [local irreducible] A7 Q0r execOp Program.underlying sizeOf isAgg zeroValue

theorem Z4y{G:Z0x}(hG:Sp3 G):Q3d (A5 G):=by
 intro g T0 _ R p0 Y5 Y4 Z7 b1 au H1 a1 n1 c1 a2 n2 c2 a3 n3 c3 a4 n4 c4 r1 r2 a5 n5 c5 a6 n6 c6 ab p1 a7 c7 hS Z2 hL1 h1 r hm;refine eN Tryz.func160 Tryz.ntmps160 fun J=>?_;unfold A5 at hm;refine sq2 (bX (D6 p1 a7 c7) hS ?_);intro _ b2 _ bt;refine aL zv1 bt ?_;intro w2 O _ bv;refine pn ?_;refine S9 hm (fun aY a w3=>∃T1 U x1 a8 c8 I E V c9,JR (nf 110) g T0 w2 a w3 T1 (aY x1 E=some r) (Q60 Y5 Y4 b2 O U I) ((Q72 a7 O b2 c7 R p1)++(X7 p0 Z7 H1 b1 au a1 n1 c1 a2 n2 c2 a3 n3 c3 a4 n4 c4 r1 r2 a5 n5 c5 a6 n6 c6 ab++[Q14 ab p0,Q21 a8 U c8 x1,Q21 V I c9 E]))/\Q8 a8 c8 T1 w3 x1.Kids/\Q8 V c9 T1 w3 E.Kids) (fun aY hm=>?_) ?_
 . refine rtS [0,1,0,1,0,1,0,1,2,2,2,2] [0,1,2,3,4,5,6,7,8,9,10,11] bv fun w4 cC ao=>?_;obtain⟨u1,bw,hm⟩:=Z9 hm;obtain⟨cs1,bz,_,hT1⟩:=ixS ao bw h1;obtain⟨_,c10,rfl,_⟩:=G7 bz;obtain⟨_,bA,hm⟩:=Z9 hm;obtain⟨cs2,bC,_,hT2⟩:=ixS ao bA h1;obtain⟨_,c11,rfl,_⟩:=G7 bC;refine tF [8,9] ?_;refine⟨?_,?_,qZt⟩
   . refine brW [9,10,11] [] ?_;refine oaL zv2 ao ?_;intro w5 b8 bG aK;refine t1W [9] [10,11] [] ?_;refine oaL zv2 aK ?_;intro w6 b9 bK aM;refine t1W [10] [11] [1,1,0,0] ?_;refine osT 1 aM ?_;intro w7 bM aN;refine t1W [11] [] [0,0] ?_;refine osT 0 aN ?_;intro w8 bO aP;refine pu ?_;exact je hm (aP.sE (Z4 2 14++[1,0]))
   refine brW [8,10,11] [] ?_;refine oaL zv2 ao ?_;intro w5 b8 bG aK;refine t1W [8] [10,11] [] ?_;refine oaL zv2 aK ?_;intro w6 b9 bK aM;refine t1W [10] [11] [1,1,0,0] ?_;refine osT 0 aM ?_;intro w7 bM aN;refine t1W [11] [] [0,0] ?_;refine osT 1 aN ?_;intro w8 bO aP;refine pu ?_;exact je hm (aP.sE (Z4 2 14++[0,1]))
 rintro _ w3 ⟨T1,U,x1,a8,c8,I,E,V,c9,⟨J,hm,rfl,bP,_⟩,h2,h3⟩;refine qU ?_;refine cP cf181 hm (hG.F1 (bP.bE [0,1,2,14,15] (Z4 3 11)) Z2 hL1 h2) ?_ ?_
 . exact zk
 rintro D _ T2 _ _ ⟨K,c12,aZ,n7,c13,rfl,bR,h6,_⟩ hm;refine aL zv1 bR ?_;intro _ ac _ bT;refine sT 0 bT ?_;intro bU _ bV;refine pn ?_;refine S9 hm (fun bf a aQ=>∃T3 W x3 aS c14,JR (nf 110) g T2 bU a aQ T3 (bf x3=some r) [(0,pt Y5 Y4),(3,pt b2 0),(4,pt O 0),(5,pt U 0),(6,pt I 0),(7,pt ac 0),(8,pt W 0)] ([Q32 K ac c12 D.1,K4 O zv1,Q21 a7 b2 c7 p1,X3 R,Q21 a8 U c8 x1,Q21 V I c9 E]++(X7 D.2 Z7 H1 b1 au aZ n7 c13 a2 n2 c2 a3 n3 c3 a4 n4 c4 r1 r2 a5 n5 c5 a6 n6 c6 ab++[Q14 ab D.2,Q68 aS W c14 x3]))/\Q10 aS c14 T3 aQ x3.Kids) (fun bf hm=>?_) ?_
 . refine rtS [0,0,0,1,0,1,2,0,0,1,2,0,2,2] [0,1,2,3,4,5,7,8,9,6,10,11,12,13] bV fun cD cE bW=>?_;have dd:KD [(6,[3,5]),(10,[3,5,6,9]),(12,[]),(13,[3,5,6,9,10,12])]:=⟨qZt⟩;exact zr hm bW
 rintro _ aQ ⟨T3,W,x3,aS,c14,⟨J,hm,rfl,bg,_⟩,_⟩;refine sq2 (sq2 (cd hm ?_ ?_))<;>intro cF hm
 . refine sq2 (Q9y [0,1,0,1,0,1,2,0,1,2,2,0,2] [0,1,2,3,4,5,7,8,6,9,10,11,12] bg (U5 (U5 (C7))) fun cG cI bh=>pu ?_);obtain⟨y4,bj,hm⟩:=Z9 hm
   rcases y4 with e2|y4
   . have hm:=J4 hm;refine s2 [(8,iv D.1.n),(3,.agg (D6 E V c9).toArray),(1,.agg (U4 D.1.term K c12).toArray)] rfl qZt rfl (by kernel_rfl) (Q8x I0 rfl (hG.Z3 (p0:=D.2) (p1:=E) (bh.bE [0,1,3,17,5] (Z4 6 11)) Z2 hL1 (mC h3) _ bj) rfl fun v8 cL cM cO bY=>?_);obtain⟨_,_,c19,rfl,bZ,_⟩:=bY;exact pe hm (bZ.sE ([2]++Z4 5 11))
   have hm:=C4 hm;refine sS [(8,iv D.1.n),(3,.agg (D6 E V c9).toArray),(1,.agg (U4 D.1.term K c12).toArray)] I0 (hG.Z3 (bh.bE [0,1,3,17,5] (Z4 6 11)) Z2 hL1 (mC h3) _ bj) ?_;rintro _ _ _ _ ⟨_,c15,_,_,c16,rfl,bk,h8,_⟩;refine pu ?_;obtain⟨y5,b6,hm⟩:=Z9 hm
   rcases y5 with e1|y5
   . have dd:KD [(6,[5]),(9,[3,5,6,8]),(10,[1,3,5,6,8,9]),(12,[1,3,5,6,8,9,10])]:=⟨qZt⟩;exact zr hm bk
   have hm:=C4 hm;refine sS [(1,.agg (U4 D.1.term K c12).toArray)] Z2m (U3 (bk.bE [0,1,2,3,15,4] (Z4 5 10)) Z2 hL1 (mC h3) h8 _ b6) ?_;rintro _ _ _ _ ⟨b7,c17,rfl,cc,h9,_⟩;refine s2W [0] ?_;refine obS (r:=X9) (l:=([D.1.term,y5]:List Y1)) (css:=[(U4 D.1.term K c12),(U4 y5 b7 c17)]) cc ⟨(V9 (x:=D.1.term) (mC h6):X9.rp _ _ _ _),(V9 (x:=y5) h9:X9.rp _ _ _ _),qZt⟩ ?_;intro _ _ _ c18 _ cf;refine s2W [] ?_;refine osT 4 cf ?_;intro _ _ cg;refine kE ?_;refine rsS [0,0,1,2,1,0,2] [0,1,2,4,3,5,6] cg fun cR cT ci=>?_;have dd:KD [(3,[2]),(6,[2,3,4])]:=⟨qZt⟩;exact zr hm ci
 refine pn ?_;refine sq2 ?_;obtain⟨_,cj,hm⟩:=Z9 hm;refine pu ?_;refine pv (r_ss rfl rfl ⟨_,rfl⟩ cj underlying9) (cB cf178 hm (Q7x (bg.bE ([0,1]++Z4 3 15) [])) ?_);rintro y7 _ ck _ _ ⟨rfl,cl,_⟩ hm;refine sT 16 cl ?_;intro _ _ cm;refine sT 16 cm ?_;intro cn _ bl;refine pn ?_;refine S9 hm (fun bm a aU=>∃aV x4 aW c20,JR (nf 110) g ck cn a aU aV (bm x4=some r) [(0,pt Y5 Y4),(4,pt O 0),(6,pt I 0),(7,pt ac 0),(8,pt W 0)] ([Q32 K ac c12 D.1,K4 O zv1,X3 R,Q21 V I c9 E]++(X7 D.2 Z7 H1 b1 au aZ n7 c13 a2 n2 c2 a3 n3 c3 a4 n4 c4 r1 r2 a5 n5 c5 a6 n6 c6 ab++[Q14 ab D.2,Q68 aW W c20 x4]))/\Q10 aW c20 aV aU x4.Kids) (fun bm hm=>?_) ?_
 . refine sq2 (cd hm ?_ ?_)<;>intro cU hm
   . refine qU ?_;refine cB cf163 hm (Q0v (bl.bE (Z4 0 5++[15,16]) (Z4 5 10)) Z2 hL1) ?_;rintro y8 _ _ _ _ ⟨rfl,cp,_⟩ hm;refine kB ?_;refine fkN (d:=85) (c:=((!y8.2)||((y7 !=1)&&(y7 !=2)))) 9 [(0,pt Y5 Y4),(4,pt O 0),(5,pt U 0),(6,pt I 0),(7,pt ac 0),(8,pt W 0),(9,iv y8.1)] rfl (fun hk=>?_) fun J=>?_
     . rcases Bool.eq_false_or_eq_true (!y8.2)with aa|aa
       . exact gF4 (d0:=76) rfl rfl (by rw[aa];rfl) (gU (d0:=80) rfl rfl (gU (d0:=80) rfl rfl (gU (d0:=80) rfl rfl (gF (d0:=76) rfl rfl (by rw[aa];rfl) (pv (r_pkt rfl aa rfl) (wlR (fun J=>hk J _ (by rw[aa];rfl)) ⟨rfl,rfl,rfl,rfl,rfl,rfl,rfl,rfl,qZt⟩))))))
       refine pu ?_;refine fkC (d:=84) (c:=((y7 !=1)&&(y7 !=2))) 4 [(0,pt Y5 Y4),(4,pt O 0),(5,pt U 0),(6,pt I 0),(7,pt ac 0),(8,pt W 0),(9,iv y8.1),(76,.bool (!y8.2))] rfl (fun hk=>zw (y7 !=1) hk) fun J=>?_;exact pv (r_pkf rfl aa rfl) (wlR (fun J=>hk J _ (by rw[aa];rfl)) ⟨rfl,rfl,rfl,rfl,rfl,rfl,rfl,rfl,qZt⟩)
     exact zr hm cp
   exact je hm (bl.sE ([0,1,2]++Z4 4 13))
 rintro _ aU ⟨aV,x4,aW,c20,⟨J,hm,rfl,cq,_⟩,_⟩;refine sq2 (Q9y [0,1,0,1,2,2,0,2] [0,1,2,3,4,5,6,7] cq (U5 (C7)) fun cV cW bn=>pu ?_);obtain⟨ai,bo,hm⟩:=Z9 hm
 rcases ai with e4|ai
 . have hm:=J4 hm;refine s2 [(1,.agg (U4 D.1.term K c12).toArray)] rfl qZt rfl (by kernel_rfl) (Q8x Y6h rfl (hG.V2 (p0:=D.2) (p1:=E) (bn.bE [0,1,2,15,3] (Z4 4 11)) Z2 hL1 (mC h3) _ bo) rfl fun cY cZ da db cr=>?_);obtain⟨_,_,c24,rfl,ct,_⟩:=cr;exact pe hm (ct.sE ([2]++Z4 5 11))
 have hm:=C4 hm;refine sS [(1,.agg (U4 D.1.term K c12).toArray)] Y6h (hG.V2 (bn.bE [0,1,2,15,3] (Z4 4 11)) Z2 hL1 (mC h3) _ bo) ?_;rintro _ _ _ _ ⟨cu,c21,_,_,c22,rfl,cv,cw,_⟩;refine s2W [0] ?_;refine obS (r:=X9) (l:=([D.1.term,ai.1]:List Y1)) (css:=[(U4 D.1.term K c12),(U4 ai.1 cu c21)]) cv ⟨(V9 (x:=D.1.term) (mC h6):X9.rp _ _ _ _),(V9 (x:=ai.1) cw:X9.rp _ _ _ _),qZt⟩ ?_;intro _ _ _ c23 _ cx;refine s2W [] ?_;refine osT 4 cx ?_;intro _ _ cy;refine kE ?_;refine rsS [0,0,1,2,1,0,2] [0,1,2,4,3,5,6] cy fun dc de cz=>?_;have dd:KD [(3,[2]),(6,[2,3,4])]:=⟨qZt⟩;exact zr hm cz
end Go.Proofs.YtfffghclkmbopaaGreat
