/- That Go functions compute their models. Printed by gen2.py. -/
import Derived.Test.YtbfpdnogfkbiaaaGreatVWd
set_option linter.unusedVariables false
namespace Go.Proofs.YtbfpdnogfkbiaaaGreat
open _root_.Go.Proofs.Tryz
set_option maxRecDepth 100000
set_option maxHeartbeats 8000000
attribute [local irreducible] wpList wpQuiet Code.wp
variable{g:World}{T0:Nat->Prop}{w0:World}{R:List Y9}
variable{b1 b2 Y0 Q0f Z7g Z7f Z8d c1 c2 c3 c4 c5 c6 c7 c8 c9 c10 c11 c12 c13 n1 n2 n3 n4 n5 n6 n7 Z9 Q0e Z7a Z6z Z7p oo1 oo2:Nat}{H1 H2 Z5 L4 Z5m Z5l Z7h:List Value->Y9}{a1 a2 a3 a4 a5 a6 a7 a8 a9 a10 a11 a12 a13:OA}{r1 r2:Option Nat}{pv1:Value}
attribute [local irreducible] M1 W7 execOp Program.underlying sizeOf isAgg zeroValue

theorem Z9e{G:Z3u}(hG:Sp3 G):Q5x (Q1m G):=by
 intro g _ _ R _ Y0 Z9 Z5 _ _ H1 a1 _ c1 _ _ c2 _ _ c3 _ _ c4 _ _ _ _ c5 _ _ c6 _ D E c7 hS Z2 hL1 h1 r hm;refine eN Tryz.func198 Tryz.ntmps198 fun J=>?_;unfold Q1m at hm;refine sq2 (bX (E4 D E c7) hS ?_);intro _ _ _ K;refine aL zv1 K ?_;intro _ _ _ O;refine kA ?_;refine cP Y9j hm (hG.J1 (O.bE [0,1,2] (Z3 3 11)) Z2 hL1 (mC h1)) ?_ ?_
 . exact zk
 rintro _ _ _ _ _ ⟨_,c8,_,_,c9,rfl,U,h2,_⟩ hm;refine aL zv1 U ?_;intro _ _ _ V;refine sT 0 V ?_;intro _ _ W;refine kE ?_;refine sq2 (rsS [0,1,0,0,0,0,0,1,0,1,2,0,0] [0,1,2,3,4,5,6,7,8,9,10,11,12] W fun w6 ac aa=>?_);have dd:KD [(10,[1,7,9])]:=⟨qZt⟩;exact zr hm aa
theorem Z8b{G:Z3u}(hG:Sp3 G):Q4k (Q0s G):=by
 intro g T0 _ R p0 Y0 Z9 Z5 b1 av H1 a1 n1 c1 a2 n2 c2 a3 n3 c3 a4 n4 c4 r1 r2 a5 n5 c5 a6 n6 c6 ac p1 a7 c7 hS Z2 hL1 h1 r hm;refine eN Tryz.func176 Tryz.ntmps176 fun J=>?_;unfold Q0s at hm;refine sq2 (bX (E4 p1 a7 c7) hS ?_);intro _ b2 _ bu;refine aL zv1 bu ?_;intro w2 U _ bw;refine pn ?_;refine M8 hm (fun aZ a w3=>∃T1 V x1 a8 c8 K E W c9,JR (nf 110) g T0 w2 a w3 T1 (aZ x1 E=some r) (Q86 Y0 Z9 b2 U V K) ((Q99 a7 U b2 c7 R p1)++(X6 p0 Z5 H1 b1 av a1 n1 c1 a2 n2 c2 a3 n3 c3 a4 n4 c4 r1 r2 a5 n5 c5 a6 n6 c6 ac++[Q20 ac p0,Q33 a8 V c8 x1,Q33 W K c9 E]))/\Q10 a8 c8 T1 w3 x1.Kids/\Q10 W c9 T1 w3 E.Kids) (fun aZ hm=>?_) ?_
 . refine rtS [0,1,0,1,0,1,0,1,2,2,2,2] [0,1,2,3,4,5,6,7,8,9,10,11] bw fun w4 cC ap=>?_;obtain⟨u1,bz,hm⟩:=Z8 hm;obtain⟨cs1,bA,_,hT1⟩:=ixS ap bz h1;obtain⟨_,c10,rfl,_⟩:=G9 bA;obtain⟨_,bB,hm⟩:=Z8 hm;obtain⟨cs2,bC,_,hT2⟩:=ixS ap bB h1;obtain⟨_,c11,rfl,_⟩:=G9 bC;refine tF [8,9] ?_;refine⟨?_,?_,qZt⟩
   . refine brW [9,10,11] [] ?_;refine oaL zv2 ap ?_;intro w5 b8 bG aM;refine t1W [9] [10,11] [] ?_;refine oaL zv2 aM ?_;intro w6 b9 bK aN;refine t1W [10] [11] [1,1,0,0] ?_;refine osT 1 aN ?_;intro w7 bM aP;refine t1W [11] [] [0,0] ?_;refine osT 0 aP ?_;intro w8 bO aQ;refine pu ?_;exact je hm (aQ.sE (Z3 2 14++[1,0]))
   refine brW [8,10,11] [] ?_;refine oaL zv2 ap ?_;intro w5 b8 bG aM;refine t1W [8] [10,11] [] ?_;refine oaL zv2 aM ?_;intro w6 b9 bK aN;refine t1W [10] [11] [1,1,0,0] ?_;refine osT 0 aN ?_;intro w7 bM aP;refine t1W [11] [] [0,0] ?_;refine osT 1 aP ?_;intro w8 bO aQ;refine pu ?_;exact je hm (aQ.sE (Z3 2 14++[0,1]))
 rintro _ w3 ⟨T1,V,x1,a8,c8,K,E,W,c9,⟨J,hm,rfl,bP,_⟩,h2,h3⟩;refine qU ?_;refine cP cf198 hm (hG.D5 (bP.bE [0,1,2,14,15] (Z3 3 11)) Z2 hL1 h2) ?_ ?_
 . exact zk
 rintro D _ T2 _ _ ⟨O,c12,ba,n7,c13,rfl,bR,h6,_⟩ hm;refine aL zv1 bR ?_;intro _ ad _ bT;refine sT 0 bT ?_;intro bU _ bV;refine pn ?_;refine M8 hm (fun bg a aR=>∃T3 aa x3 aT c14,JR (nf 110) g T2 bU a aR T3 (bg x3=some r) [(0,pt Y0 Z9),(3,pt b2 0),(4,pt U 0),(5,pt V 0),(6,pt K 0),(7,pt ad 0),(8,pt aa 0)] ([Q47 O ad c12 D.1,K0 U zv1,Q33 a7 b2 c7 p1,Y7 R,Q33 a8 V c8 x1,Q33 W K c9 E]++(X6 D.2 Z5 H1 b1 av ba n7 c13 a2 n2 c2 a3 n3 c3 a4 n4 c4 r1 r2 a5 n5 c5 a6 n6 c6 ac++[Q20 ac D.2,Q79 aT aa c14 x3]))/\Q11 aT c14 T3 aR x3.Kids) (fun bg hm=>?_) ?_
 . refine rtS [0,0,0,1,0,1,2,0,0,1,2,0,2,2] [0,1,2,3,4,5,7,8,9,6,10,11,12,13] bV fun cD cE bW=>?_;have dd:KD [(6,[3,5]),(10,[3,5,6,9]),(12,[]),(13,[3,5,6,9,10,12])]:=⟨qZt⟩;exact zr hm bW
 rintro _ aR ⟨T3,aa,x3,aT,c14,⟨J,hm,rfl,bh,_⟩,_⟩;refine sq2 (sq2 (cd hm ?_ ?_))<;>intro cF hm
 . refine sq2 (Z2w [0,1,0,1,0,1,2,0,1,2,2,0,2] [0,1,2,3,4,5,7,8,6,9,10,11,12] bh (U7 (U7 (C5))) fun cG cI bi=>pu ?_);obtain⟨y4,bk,hm⟩:=Z8 hm
   rcases y4 with e2|y4
   . have hm:=J8 hm;refine s2 [(8,iv D.1.n),(3,.agg (E4 E W c9).toArray),(1,.agg (U2 D.1.term O c12).toArray)] rfl qZt rfl (by kernel_rfl) (Z2d A5 rfl (hG.Z6 (p0:=D.2) (p1:=E) (bi.bE [0,1,3,17,5] (Z3 6 11)) Z2 hL1 (mC h3) _ bk) rfl fun v8 cK cL cM bY=>?_);obtain⟨_,_,c19,rfl,bZ,_⟩:=bY;exact pe hm (bZ.sE ([2]++Z3 5 11))
   have hm:=C2 hm;refine sS [(8,iv D.1.n),(3,.agg (E4 E W c9).toArray),(1,.agg (U2 D.1.term O c12).toArray)] A5 (hG.Z6 (bi.bE [0,1,3,17,5] (Z3 6 11)) Z2 hL1 (mC h3) _ bk) ?_;rintro _ _ _ _ ⟨_,c15,_,_,c16,rfl,bl,h8,_⟩;refine pu ?_;obtain⟨y5,b6,hm⟩:=Z8 hm
   rcases y5 with e1|y5
   . have dd:KD [(6,[5]),(9,[3,5,6,8]),(10,[1,3,5,6,8,9]),(12,[1,3,5,6,8,9,10])]:=⟨qZt⟩;exact zr hm bl
   have hm:=C2 hm;refine sS [(1,.agg (U2 D.1.term O c12).toArray)] Z5f (U3 (bl.bE [0,1,2,3,15,4] (Z3 5 10)) Z2 hL1 (mC h3) h8 _ b6) ?_;rintro _ T7 _ _ ⟨b7,c17,rfl,cc,h9,_⟩;refine s2W [0] ?_;refine obS (r:=X8) (l:=([D.1.term,y5]:List Y6)) (css:=[(U2 D.1.term O c12),(U2 y5 b7 c17)]) cc ⟨(U1 (x:=D.1.term) (mC h6):X8.rp _ _ _ _),(U1 (x:=y5) h9:X8.rp _ _ _ _),qZt⟩ ?_;intro _ _ _ c18 _ cf;refine s2W [] ?_;refine osT 4 cf ?_;intro _ _ cg;refine kE ?_;refine rsS [0,0,1,2,1,0,2] [0,1,2,4,3,5,6] cg fun cO cQ ci=>?_;have dd:KD [(3,[2]),(6,[2,3,4])]:=⟨qZt⟩;exact zr hm ci
 refine pn ?_;refine sq2 ?_;obtain⟨_,cj,hm⟩:=Z8 hm;refine pu ?_;refine pv (r_ss rfl rfl ⟨_,rfl⟩ cj underlying9) (cB cf195 hm (Z1e (bh.bE ([0,1]++Z3 3 15) [])) ?_);rintro y7 _ ck _ _ ⟨rfl,cl,_⟩ hm;refine sT 16 cl ?_;intro _ _ cm;refine sT 16 cm ?_;intro cn _ bm;refine pn ?_;refine M8 hm (fun bn a aV=>∃aW x4 aX c20,JR (nf 110) g ck cn a aV aW (bn x4=some r) [(0,pt Y0 Z9),(4,pt U 0),(6,pt K 0),(7,pt ad 0),(8,pt aa 0)] ([Q47 O ad c12 D.1,K0 U zv1,Y7 R,Q33 W K c9 E]++(X6 D.2 Z5 H1 b1 av ba n7 c13 a2 n2 c2 a3 n3 c3 a4 n4 c4 r1 r2 a5 n5 c5 a6 n6 c6 ac++[Q20 ac D.2,Q79 aX aa c20 x4]))/\Q11 aX c20 aW aV x4.Kids) (fun bn hm=>?_) ?_
 . refine sq2 (cd hm ?_ ?_)<;>intro cR hm
   . refine qU ?_;refine cB cf179 hm (Q0o (bm.bE (Z3 0 5++[15,16]) (Z3 5 10)) Z2 hL1) ?_;rintro y8 _ _ _ _ ⟨rfl,co,_⟩ hm;refine kB ?_;refine fkN (d:=85) (c:=((!y8.2)||((y7 !=1)&&(y7 !=2)))) 9 [(0,pt Y0 Z9),(4,pt U 0),(5,pt V 0),(6,pt K 0),(7,pt ad 0),(8,pt aa 0),(9,iv y8.1)] rfl (fun hk=>?_) fun J=>?_
     . rcases Bool.eq_false_or_eq_true (!y8.2)with ab|ab
       . exact gF4 (d0:=76) rfl rfl (by rw[ab];rfl) (gU (d0:=80) rfl rfl (gU (d0:=80) rfl rfl (gU (d0:=80) rfl rfl (gF (d0:=76) rfl rfl (by rw[ab];rfl) (pv (Y6z rfl ab rfl) (wlR (fun J=>hk J _ (by rw[ab];rfl)) ⟨rfl,rfl,rfl,rfl,rfl,rfl,rfl,rfl,qZt⟩))))))
       refine pu ?_;refine fkC (d:=84) (c:=((y7 !=1)&&(y7 !=2))) 4 [(0,pt Y0 Z9),(4,pt U 0),(5,pt V 0),(6,pt K 0),(7,pt ad 0),(8,pt aa 0),(9,iv y8.1),(76,.bool (!y8.2))] rfl (fun hk=>zw (y7 !=1) hk) fun J=>?_;exact pv (Y7a rfl ab rfl) (wlR (fun J=>hk J _ (by rw[ab];rfl)) ⟨rfl,rfl,rfl,rfl,rfl,rfl,rfl,rfl,qZt⟩)
     exact zr hm co
   exact je hm (bm.sE ([0,1,2]++Z3 4 13))
 rintro _ aV ⟨aW,x4,aX,c20,⟨J,hm,rfl,cp,_⟩,_⟩;refine sq2 (Z2w [0,1,0,1,2,2,0,2] [0,1,2,3,4,5,6,7] cp (U7 (C5)) fun cT cU bo=>pu ?_);obtain⟨aj,bp,hm⟩:=Z8 hm
 rcases aj with e4|aj
 . have hm:=J8 hm;refine s2 [(1,.agg (U2 D.1.term O c12).toArray)] rfl qZt rfl (by kernel_rfl) (Z2d Y9i rfl (hG.V8 (p0:=D.2) (p1:=E) (bo.bE [0,1,2,15,3] (Z3 4 11)) Z2 hL1 (mC h3) _ bp) rfl fun cV cW cX cY cq=>?_);obtain⟨_,_,c24,rfl,cr,_⟩:=cq;exact pe hm (cr.sE ([2]++Z3 5 11))
 have hm:=C2 hm;refine sS [(1,.agg (U2 D.1.term O c12).toArray)] Y9i (hG.V8 (bo.bE [0,1,2,15,3] (Z3 4 11)) Z2 hL1 (mC h3) _ bp) ?_;rintro _ _ _ _ ⟨ct,c21,_,_,c22,rfl,cu,cv,_⟩;refine s2W [0] ?_;refine obS (r:=X8) (l:=([D.1.term,aj.1]:List Y6)) (css:=[(U2 D.1.term O c12),(U2 aj.1 ct c21)]) cu ⟨(U1 (x:=D.1.term) (mC h6):X8.rp _ _ _ _),(U1 (x:=aj.1) cv:X8.rp _ _ _ _),qZt⟩ ?_;intro _ _ _ c23 _ cw;refine s2W [] ?_;refine osT 4 cw ?_;intro _ _ cy;refine kE ?_;refine rsS [0,0,1,2,1,0,2] [0,1,2,4,3,5,6] cy fun cZ da cz=>?_;have dd:KD [(3,[2]),(6,[2,3,4])]:=⟨qZt⟩;exact zr hm cz
end Go.Proofs.YtbfpdnogfkbiaaaGreat
