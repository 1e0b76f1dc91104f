/- That Go functions compute their models. Printed by gen2.py. -/
import Derived.Test.YtbfpdnogfkbiaaaGreatVWd
set_option linter.unusedVariables false
namespace Go.Proofs.YtbfpdnogfkbiaaaGreat
open _root_.Go.Proofs.Tryz
set_option maxRecDepth 100000
set_option maxHeartbeats 8000000
attribute [local irreducible] wpList wpQuiet Code.wp
variable{g:World}{T0:Nat->Prop}{w0:World}{R:List Y9}
variable{b1 b2 Y0 Q0f Z7g Z7f Z8d c1 c2 c3 c4 c5 c6 c7 c8 c9 c10 c11 c12 c13 n1 n2 n3 n4 n5 n6 n7 Z9 Q0e Z7a Z6z Z7p oo1 oo2:Nat}{H1 H2 Z5 L4 Z5m Z5l Z7h:List Value->Y9}{a1 a2 a3 a4 a5 a6 a7 a8 a9 a10 a11 a12 a13:OA}{r1 r2:Option Nat}{pv1:Value}
attribute [local irreducible] M1 W7 execOp Program.underlying sizeOf isAgg zeroValue

theorem Y0e{G:Z3u}(hG:Sp3 G):Q7h (Q2m G):=by
 intro g T0 _ R p0 Y0 Z9 Z5 b1 aw H1 a1 n1 c1 a2 n2 c2 a3 n3 c3 a4 n4 c4 r1 r2 a5 n5 c5 a6 n6 c6 W p1 a7 c7 hS Z2 hL1 h1 r hm;refine eN Tryz.func177 Tryz.ntmps177 fun J=>?_;unfold Q2m at hm;refine sq2 (bX (E4 p1 a7 c7) hS ?_);intro _ b2 _ bA;refine aL zv1 bA ?_;intro w2 V _ bC;refine pn ?_;refine M8 hm (fun ba a w3=>∃T1 K x1 a8 c8 O x2 a9 c9,JR (nf 115) g T0 w2 a w3 T1 (ba x1 x2=some r) (Q86 Y0 Z9 b2 V K O) ((Q99 a7 V b2 c7 R p1)++(X6 p0 Z5 H1 b1 aw a1 n1 c1 a2 n2 c2 a3 n3 c3 a4 n4 c4 r1 r2 a5 n5 c5 a6 n6 c6 W++[Q20 W p0,Q33 a8 K c8 x1,Q33 a9 O c9 x2]))/\Q10 a8 c8 T1 w3 x1.Kids/\Q10 a9 c9 T1 w3 x2.Kids) (fun ba hm=>?_) ?_
 . refine rtS [0,1,0,1,0,1,0,1,2,2,2,2] [0,1,2,3,4,5,6,7,8,9,10,11] bC fun w4 cG aq=>?_;obtain⟨u1,bD,hm⟩:=Z8 hm;obtain⟨cs1,bF,_,hT1⟩:=ixS aq bD h1;obtain⟨_,c10,rfl,_⟩:=G9 bF;obtain⟨_,bG,hm⟩:=Z8 hm;obtain⟨cs2,bI,_,hT2⟩:=ixS aq bG h1;obtain⟨_,c11,rfl,_⟩:=G9 bI;refine tF [8,9] ?_;refine⟨?_,?_,qZt⟩
   . refine brW [9,10,11] [] ?_;refine oaL zv2 aq ?_;intro w5 b8 bL aK;refine t1W [9] [10,11] [] ?_;refine oaL zv2 aK ?_;intro w6 b9 bO aM;refine t1W [10] [11] [1,1,0,0] ?_;refine osT 1 aM ?_;intro w7 bQ aN;refine t1W [11] [] [0,0] ?_;refine osT 0 aN ?_;intro w8 bT aP;refine pu ?_;exact je hm (aP.sE (Z3 2 14++[1,0]))
   refine brW [8,10,11] [] ?_;refine oaL zv2 aq ?_;intro w5 b8 bL aK;refine t1W [8] [10,11] [] ?_;refine oaL zv2 aK ?_;intro w6 b9 bO aM;refine t1W [10] [11] [1,1,0,0] ?_;refine osT 0 aM ?_;intro w7 bQ aN;refine t1W [11] [] [0,0] ?_;refine osT 1 aN ?_;intro w8 bT aP;refine pu ?_;exact je hm (aP.sE (Z3 2 14++[0,1]))
 rintro _ w3 ⟨T1,K,x1,a8,c8,O,x2,a9,c9,⟨J,hm,rfl,be,_⟩,h2,h3⟩;refine sq2 ?_;obtain⟨_,bV,hm⟩:=Z8 hm;obtain⟨cs3,bW,_,hT3⟩:=ixS be bV h1;obtain⟨_,c12,rfl,h6⟩:=G9 bW;refine pu ?_;refine cP Y6e hm (hG.K3 (be.bE [0,2,14,15] (Z3 3 11)) Z2 hL1 h6) ?_ ?_
 . exact zk
 rintro y1 _ T2 _ _ ⟨bf,c13,_,_,c14,rfl,b0,h7,_⟩ hm;refine aL zv3 b0 ?_;intro _ bg _ b7;refine sT 0 b7 ?_;intro cc _ ce;refine pn ?_;refine M8 hm (fun bh a ar=>∃T3 ac U aQ n8 c15 ad D aj c16 ae E ak c17,JR (nf 115) g T2 cc a ar T3 (bh U ac D E=some r) [(0,pt Y0 Z9),(4,pt V 0),(5,pt K 0),(6,pt O 0),(7,pt bg 0),(8,pt ad 0),(9,pt ae 0)] ([Q79 bf bg c13 y1.1,K0 V zv1,Y7 R,Q33 a8 K c8 x1,Q33 a9 O c9 x2]++(X6 ({U with t:=ac}) Z5 H1 b1 aw aQ n8 c15 a2 n2 c2 a3 n3 c3 a4 n4 c4 r1 r2 a5 n5 c5 a6 n6 c6 W++[Q20 W U,Q47 aj ad c16 D,Q47 ak ae c17 E]))/\Q82 aj c16 T3 ar D/\Q82 ak c17 T3 ar E) (fun bh hm=>?_) ?_
 . refine rtPS [0,1,2,0,1,2,2,2,2,2] [0,1,3,4,2,5,6,7,8,9] ce (U7 (C5)) fun cI cJ cf=>?_;have cK:Ctr Tryz.prog 108 (type_of%@hG.Z6):=⟨@hG.Z6,A5⟩;have dd:KD [(2,[1]),(5,[1,2,4]),(6,[]),(7,[]),(8,[1,2,4,5,6,7]),(9,[1,2,4,5,6,7,8])]:=⟨qZt⟩;exact zr hm cf
 rintro _ ar ⟨T3,ac,U,aQ,n8,c15,ad,D,aj,c16,ae,E,ak,c17,⟨J,hm,rfl,cg,_⟩,h8,h9⟩;refine sq2 (bS (r:=X8) (l:=([y1.1,D.term,E.term]:List Y6)) (css:=[(U2 y1.1 bf c13),(U2 D.term aj c16),(U2 E.term ak c17)]) cg ⟨(U1 (x:=y1.1) (mC h7):X8.rp _ _ _ _),(U1 (x:=D.term) h8:X8.rp _ _ _ _),(U1 (x:=E.term) h9:X8.rp _ _ _ _),qZt⟩ ?_);intro _ am an c30 _ cj;refine pv (F0 (by kernel_rfl) rfl (u:= .agg #[iv 9,iv 0,.int .u32 0,iv 0,.bool false,iv 0,.bool false,.bool false,.slice am an c30])) (aL zv3 cj ?_);intro _ aT _ ck;refine sT 0 ck ?_;intro cl _ bj;refine kE ?_;refine blk (qU ?_);refine fkC (d:=46) (c:=((D.n==1)&&(E.n==1))) 4 [(0,pt Y0 Z9),(4,pt V 0),(5,pt K 0),(6,pt O 0),(8,pt ad 0),(9,pt ae 0),(10,pt aT 0)] rfl (fun hk=>zw (D.n==1) hk) fun J=>?_;refine cd hm ?_ ?_<;>intro cL hm
 . exact zr hm bj
 refine M8 hm (fun bk a bl=>∃bm aU,JR (nf 115) g T3 cl a bl bm (bk aU=some r) [(0,pt Y0 Z9),(4,pt V 0),(5,pt K 0),(6,pt O 0),(8,pt ad 0),(9,pt ae 0),(10,pt aT 0),(49,.bool aU)] ([K0 aT [iv 9,iv 0,.int .u32 0,iv 0,.bool false,iv 0,.bool false,.bool false,.slice am an c30],J6 X8 197 (.slice am an c30) ([y1.1,D.term,E.term]:List Y6),K0 V zv1,Y7 R,Q33 a8 K c8 x1,Q33 a9 O c9 x2]++(X6 ({U with t:=ac}) Z5 H1 b1 aw aQ n8 c15 a2 n2 c2 a3 n3 c3 a4 n4 c4 r1 r2 a5 n5 c5 a6 n6 c6 W++[Q20 W U,Q47 aj ad c16 D,Q47 ak ae c17 E]))) (fun bk hm=>?_) ?_
 . exact zr hm bj
 rintro _ bl ⟨bm,aU,J,hm,rfl,bn,_⟩;refine cd hm ?_ ?_<;>intro cM hm
 . refine sq2 (Z2w [0,1,0,1,1,0,1,2,0,2,0,2] [0,1,2,3,4,5,6,8,7,9,10,11] bn (U7 (R6 (U7 (C5)))) fun cO cQ bo=>pu ?_);obtain⟨y6,cm,hm⟩:=Z8 hm
   rcases y6 with e3|y6
   . have dd:KD [(7,[3,4,6]),(9,[1,3,4,6,7]),(11,[1,3,4,6,7,9])]:=⟨qZt⟩;exact zr hm bo
   have hm:=C2 hm;refine sS [(1,.slice am an c30)] Z5f (U3 (p0:={U with t:=ac}) (bo.bE [0,1,2,3,16,17,18,5] (Z3 6 10)) Z2 hL1 (mC h3) (mC h9) _ cm) ?_;rintro _ _ _ _ ⟨_,c31,rfl,cn,co,_⟩;refine s2W [0] ?_;refine osT 0 cn ?_;intro _ _ bp;refine pu ?_;obtain⟨_,cp,hm⟩:=Z8 hm;obtain⟨cs4,cq,_⟩:=(bp.own (i:=1) ⟨rfl,rfl⟩).v.ixcS cp rfl;obtain⟨_,_,rfl,_⟩:=L0 cq;obtain⟨_,cr,hm⟩:=Z8 hm;refine s2W [] ?_;refine Y0x (q:=1) (j:=0) (u':=y6) bp ⟨rfl,rfl⟩ cr rfl rfl rfl sizeOf197 rfl rfl rfl (fun c0 aV=>by rw[Q4z (r:=X8) aV rfl];exact(U1 (x:=y6) (mC co):X8.rp _ _ _ _)) fun cR cT ct=>?_;have dd:KD [(7,[3,4,6]),(9,[1,3,4,6,7]),(11,[1,3,4,6,7,9])]:=⟨qZt⟩;exact zr hm ct
 refine qU ?_;refine cB Q1p hm (Y4 (p0:={U with t:=ac}) (bn.bE (Z3 0 6++[16,17,18]) (Z3 6 10)) Z2 hL1) ?_;rintro _ _ _ _ _ ⟨rfl,bq,_⟩ hm;refine pu ?_
 rcases bc hm with⟨cu,hm⟩|⟨cu,hm⟩
 . refine pu ?_;refine cB Y9k hm (Q5k (bq.bE (Z3 0 19) []) (mC h2)) ?_;rintro _ _ _ _ _ ⟨rfl,bt,_⟩ hm;refine cd hm ?_ ?_<;>intro cU hm
   . refine sq2 (rsS [0,1,2,0,2,0,2] [0,1,3,2,4,5,6] bt fun cV cW cv=>?_);obtain⟨y9,cw,hm⟩:=Z8 hm;refine sS [(1,.slice am an c30)] X2q (Q3d (cv.bE (Z3 0 4++[6]++Z3 8 11) []) _ cw) ?_;rintro _ _ _ _ ⟨_,_,rfl,cy,cz,_⟩;refine s2W [0] ?_;refine osT 0 cy ?_;intro _ _ bv;refine pu ?_;obtain⟨_,cA,hm⟩:=Z8 hm;obtain⟨cs5,cC,_⟩:=(bv.own (i:=1) ⟨rfl,rfl⟩).v.ixcS cA rfl;obtain⟨_,_,rfl,_⟩:=L0 cC;obtain⟨_,cD,hm⟩:=Z8 hm;refine s2W [] ?_;refine Y0x (q:=1) (j:=0) (u':=y9) bv ⟨rfl,rfl⟩ cD rfl rfl rfl sizeOf197 rfl rfl rfl (fun c0 aV=>by rw[Q4z (r:=X8) aV rfl];exact(U1 (x:=y9) (mC cz):X8.rp _ _ _ _)) fun cX cY cE=>?_;have dd:KD [(2,[]),(4,[1,2]),(6,[1,2,4])]:=⟨qZt⟩;exact zr hm cE
   exact zr hm bt
 exact zr hm bq
end Go.Proofs.YtbfpdnogfkbiaaaGreat
