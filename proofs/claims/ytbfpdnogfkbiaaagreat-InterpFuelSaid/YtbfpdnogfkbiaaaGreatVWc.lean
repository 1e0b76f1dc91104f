/- That Go functions compute their models. Printed by gen2.py. -/
import Derived.Test.YtbfpdnogfkbiaaaGreatVWbb
set_option linter.unusedVariables false
namespace Go.Proofs.YtbfpdnogfkbiaaaGreat
open _root_.Go.Proofs.Tryz
set_option maxRecDepth 100000
set_option maxHeartbeats 8000000
attribute [local irreducible] wpList wpQuiet Code.wp
variable{g:World}{T0:Nat->Prop}{w0:World}{R:List Y9}
variable{b1 b2 Y0 Q0f Z7g Z7f Z8d c1 c2 c3 c4 c5 c6 c7 c8 c9 c10 c11 c12 c13 n1 n2 n3 n4 n5 n6 n7 Z9 Q0e Z7a Z6z Z7p oo1 oo2:Nat}{H1 H2 Z5 L4 Z5m Z5l Z7h:List Value->Y9}{a1 a2 a3 a4 a5 a6 a7 a8 a9 a10 a11 a12 a13:OA}{r1 r2:Option Nat}{pv1:Value}
attribute [local irreducible] M1 W7 execOp Program.underlying sizeOf isAgg zeroValue

theorem R7{p0:Z7}{p1}(hS:Q37 a1 n1 c1 Z5 T0 g w0 R p0.list)(Z2:Ln Y0 Z9 Z5):∀r,C3 p0 p1=some r->
 Cl 145 #[pt Y0 Z9,iv p1] w0 (K6 T0 w0 fun T w v=>∃a4 c4,v= .tuple #[.agg (Y7y r.1 a4 c4).toArray,iv r.2]/\Sep g T w (R++[Q94 a1 n1 c1 Z5,Q12 a1 n1 c1 p0.list])/\Q65 a4 c4 T w r.1.Fields/\True):=by
 intro r hm;refine eN Tryz.func145 Tryz.ntmps145 fun J=>?_;unfold C3 at hm;exact zr hm hS

instance:Ct 145 @R7:=⟨@R7,Y9l⟩
theorem E2{p0:Q0}{p1}(hS:Q28 a1 a2 a3 a4 a5 a6 b1 oo1 n1 c1 n2 c2 n3 c3 n4 c4 n5 c5 n6 c6 Z5 H1 T0 g w0 pv1 r1 r2 R p0)(Z2:Ln Y0 Z9 Z5)(hL1:Ln b1 oo1 H1):∀r,L9 p0 p1=some r->
 Cl 109 #[pt Y0 Z9,iv p1] w0 (K6 T0 w0 fun T w v=>v=iv r/\Q22 a1 a2 a3 a4 a5 a6 b1 oo1 n1 c1 n2 c2 n3 c3 n4 c4 n5 c5 n6 c6 Z5 H1 T g w pv1 r1 r2 R p0):=by
 intro r hm;refine eN Tryz.func109 Tryz.ntmps109 fun J=>?_;unfold L9 at hm;exact zr hm hS

instance:Ct 109 @E2:=⟨@E2,Y3b⟩
theorem Q3i{p0:Q0}{p1:M7}{p2}(hS:Q28 a1 a2 a3 a4 a5 a6 b1 oo1 n1 c1 n2 c2 n3 c3 n4 c4 n5 c5 n6 c6 Z5 H1 T0 g w0 pv1 r1 r2 R p0)(Z2:Ln Y0 Z9 Z5)(hL1:Ln b1 oo1 H1)(h1:Q13 a7 c7 T0 w0 p1.Dims)(h2:Q10 a8 c8 T0 w0 p1.Init):∀r,Q1a p0 p1 p2=some r->
 Cl 106 #[pt Y0 Z9,Q107 a7 a8 c7 c8 p1,iv p2] w0 (exR r (fun r=>K6 T0 w0 fun T w v=>∃a10 c10,v=sv a10 r c10/\Sep g T w (R++X6 p0 Z5 H1 b1 oo1 a1 n1 c1 a2 n2 c2 a3 n3 c3 a4 n4 c4 r1 r2 a5 n5 c5 a6 n6 c6 pv1)/\SlR F8 T w (sv a10 r c10) r/\True) (fun r=>H9 T0 w0 (Q63 a1 a2 a3 a4 a5 a6 b1 oo1 n1 c1 n2 c2 n3 c3 n4 c4 n5 c5 n6 c6 Z5 H1 g pv1 r1 r2 R r.pos r.e p0))):=by
 intro r hm;refine eN Tryz.func106 Tryz.ntmps106 fun J=>?_;unfold Q1a at hm;refine sq2 (bX (Y1z p1 a7 c7 a8 c8) hS ?_);intro _ E _ K;refine pn ?_;refine sq2 (sq2 (cd hm ?_ ?_))<;>intro ae hm
 . exact zr hm K
 refine kA ?_;refine cB Y9l hm (R7 (K.bE ([0,1,2]++Z3 5 7) [3,4]) hL1) ?_;rintro D _ _ _ _ ⟨_,c9,rfl,V,_,_⟩ hm;refine aL zv9 V ?_;intro _ W _ aa;refine sT 0 aa ?_;intro _ _ O;refine kD ?_;refine sq2 (blk (qU ?_));refine pv (r_bn rfl rfl underlying4) (pu ?_)
 rcases bc hm with⟨ab,hm⟩|⟨ab,hm⟩
 . exact zr hm O
 refine pu ?_;refine cB Y3b hm (E2 (O.bE [0,1,2] ([3,11,12]++Z3 4 7)) Z2 hL1) ?_;rintro _ _ _ _ _ ⟨rfl,ac,_⟩ hm;refine pu ?_;refine cB cf105 hm (Q0q (ac.bE [0,1,2] (Z3 3 10)) Z2 hL1) ?_;rintro y3 _ _ _ _ ⟨rfl,U,_⟩ hm;refine pu ?_;refine nil (K7 [(4,pt E 0),(7,pt W 0),(9,.bool (D.1.Kind==4)),(26,.bool (y3==0))] ⟨rfl,rfl,rfl,rfl,qZt⟩ fun J=>?_);refine cd hm ?_ ?_<;>intro af hm
 . exact zr hm U
 refine qU ?_;exact fkC (d:=51) (c:=((D.1.Kind==4)&&(decide (D.1.Len<(List.length p1.Init:Int))))) 7 [(4,pt E 0)] rfl (fun hk=>zw (D.1.Kind==4) hk) fun J=>zr hm U

instance:Ct 106 @Q3i:=⟨@Q3i,cf106⟩
theorem Q3e{p0:G5}{p1:List UInt8}(hS:Sep g T0 w0 ([Y7 R]++Z6f p0 Z5 a1 n1 c1 a2 n2 c2 a3 n3 c3))(Z2:Ln Y0 Z9 Z5):∀r,Q0w p0 p1=some r->
 Cl 193 #[pt Y0 Z9,Q23 p1.toArray] w0 (K6 T0 w0 fun T w v=>v= .tuple #[iv r.1,.bool r.2]/\Sep g T w (R++Z6f p0 Z5 a1 n1 c1 a2 n2 c2 a3 n3 c3)/\True):=by
 intro r hm;refine eN Tryz.func193 Tryz.ntmps193 fun J=>?_;unfold Q0w at hm;refine qN ?_;refine sq2 (qN ?_);refine lpJ hm (fun aa o1 m a D=>∃E K,JR (nf 33) g T0 w0 a D E (X5 aa m K=some o1) [(0,pt Y0 Z9),(1,(qZs p1)),(6,iv K)] ([Y7 R]++Z6f p0 Z5 a1 n1 c1 a2 n2 c2 a3 n3 c3)) (fun _ _ h=>je h (hS.sN 0 5)) ?_;rintro aa ac o1 _ _ _ D ⟨E,K,J,ad,rfl,W,_⟩;obtain⟨m1,_,rfl,hm,ae⟩:=lrE ad ac;refine sq2 (sq2 (cd hm ?_ ?_))<;>intro aq hm
 . refine kE ?_;refine blk (qU ?_);obtain⟨u1,O,hm⟩:=Z8 hm;obtain⟨_,of1,k1,cp1,hv1,_,_,af⟩:=W.nhd (q:=4) ⟨rfl,rfl⟩ O rfl;obtain⟨css1,cs1,ag⟩:=W.nfocus (q:=4) ⟨rfl,rfl⟩ O;obtain⟨U,ah⟩:=ag.exE;obtain⟨hcs1,ai⟩:=ah.pE;subst hcs1;have V:=ai.unb;refine pu ?_;refine pv (Z3d rfl isAgg80 (V.cellB (i:=6) ⟨rfl,rfl⟩ (Q0h (i:=K) hv1 af) (j:=0) rfl)) (pu ?_);refine pv (Z8m (kk:=p1) (u:=0) rfl rfl (V.getA (i:=0) ⟨rfl,rfl⟩) Z2g underlying80 underlying9 zeroValue3 rfl) (pn ?_);refine sq2 (cd hm ?_ ?_)<;>intro ar hm
   . refine qN ?_;have aj:=V.bE [0] (Z3 1 6);have ak:Sep g E D (Y2x.A u1 [.map U]::_):=Sep.exI (U) (Sep.pI rfl aj);have am:=ak.nunfocus0 (q:=4) ⟨rfl,rfl⟩ O;exact zr hm am
   refine pn ?_;have an:=V.bE [0] (Z3 1 6);have ao:Sep g E D (Y2x.A u1 [.map U]::_):=Sep.exI (U) (Sep.pI rfl an);have ap:=ao.nunfocus0 (q:=4) ⟨rfl,rfl⟩ O;exact lg hm ae (ap.sN 0 5)
 exact zr hm W

instance:Ct 193 @Q3e:=⟨@Q3e,cf193⟩
theorem Z3p{p0:Q0}{p1:Y8}(hS:Q34 a1 a2 a3 a4 a5 a6 b1 oo1 n1 c1 n2 c2 n3 c3 n4 c4 n5 c5 n6 c6 Z5 H1 T0 g w0 pv1 r1 r2 R p0)(Z2:Ln Y0 Z9 Z5)(hL1:Ln b1 oo1 H1)(h1:Q10 a7 c7 T0 w0 p1.Kids):∀r,Q5l p0 p1=some r->
 Cl 173 #[pt Y0 Z9,Q42 a7 c7 p1] w0 (exR r (fun r=>K6 T0 w0 fun T w v=>∃a11 c11,v= .agg (Q0c r.1 a11 c11).toArray/\Sep g T w (R++(Q2 a1 a2 a3 a4 a5 a6 b1 oo1 n1 c1 n2 c2 n3 c3 n4 c4 n5 c5 n6 c6 Z5 H1 pv1 r1 r2 r.2))/\Q82 a11 c11 T w r.1/\True) (fun r=>H9 T0 w0 fun T w v=>v= .iface 89 (Q26 r.1.pos r.1.e)/\Sep g T w (R++(Q2 a1 a2 a3 a4 a5 a6 b1 oo1 n1 c1 n2 c2 n3 c3 n4 c4 n5 c5 n6 c6 Z5 H1 pv1 r1 r2 r.2))/\True)):=by
 intro r hm;refine eN Tryz.func173 Tryz.ntmps173 fun J=>?_;unfold Q5l at hm;refine sq2 (bX (E4 p1 a7 c7) hS ?_);intro _ b2 _ am;refine aL zv1 am ?_;intro w2 b3 _ ab;refine pn ?_;refine M8 hm (fun ae a w3=>∃T1,JR (nf 63) g T0 w2 a w3 T1 (ae ()=some r) [(0,pt Y0 Z9),(3,pt b2 0),(4,pt b3 0)] ((Q99 a7 b3 b2 c7 R p1)++(Q2 a1 a2 a3 a4 a5 a6 b1 oo1 n1 c1 n2 c2 n3 c3 n4 c4 n5 c5 n6 c6 Z5 H1 pv1 r1 r2 p0))) (fun ae hm=>?_) ?_
 . refine sq2 ?_;obtain⟨u1,ao,hm⟩:=Z8 hm;refine pu ?_;refine pv (r_opn rfl rfl (ab.optV (q:=13) ⟨rfl,rfl⟩ ao) underlying83) (cd hm ?_ ?_)<;>intro aM hm
   . refine sq2 (rsS [0,0,0,1,0,1,2,0,0,0,0,0] [0,1,2,3,4,5,6,7,8,9,10,11] ab fun w4 aP ap=>pu ?_);obtain⟨D,ac,hm⟩:=Z8 hm;obtain⟨b4,cs1,ar,au⟩:=ap.optE (q:=13) ⟨rfl,rfl⟩ ac;subst ar;obtain⟨⟨E,K,c8,O,U,c9,V,W,c10⟩,av⟩:=au.exE;obtain⟨hcs1,aw⟩:=av.pE;subst hcs1;have ax:=aw.unb;obtain⟨y1,ay,hm⟩:=Z8 hm;refine sS [] cf193 (Q3e (ax.bE (Z3 3 13) [16,0,1,2]) (Q3w b4) _ ay) ?_;rintro _ T2 w5 _ ⟨rfl,aj,_⟩;refine pn ?_;refine sq2 (cd hm ?_ ?_)<;>intro aQ hm
     . refine sq2 ?_;obtain⟨u3,_,hm⟩:=Z8 hm;refine pu ?_;refine pv (F0 (by kernel_rfl) rfl (u:= .agg #[iv 2,iv 0,.int .u32 0,iv y1.1,.bool false,iv 0,.bool false,.bool true,.slice none 0 0])) (pv (F0 (by kernel_rfl) rfl (u:= .agg #[iv u3,iv 2,iv 0,.int .u32 0,iv y1.1,.bool false,iv 0,.bool false,.bool true,.slice none 0 0,.bool true])) (sT 0 aj ?_));intro w6 _ aC;refine nil (K7 [(4,pt b3 0)] ⟨rfl,qZt⟩ fun J=>?_);have aD:=aC.bE [14,15,16] (Z3 0 14);have aE:Sep g T2 w6 (U9.A D [iv D.ret,.slice E K c8,.slice O U c9,.slice V W c10,iv D.loops,iv D.breaks]::_):=Sep.exI (E,K,c8,O,U,c9,V,W,c10) (Sep.pI rfl aD);have aF:=aE.optI0 (q:=13) ⟨rfl,rfl⟩ ac;exact re hm (aF.sN 2 12)
     have aG:=aj.bE [14,15,16] (Z3 0 14);have aI:Sep g T2 w5 (U9.A D [iv D.ret,.slice E K c8,.slice O U c9,.slice V W c10,iv D.loops,iv D.breaks]::_):=Sep.exI (E,K,c8,O,U,c9,V,W,c10) (Sep.pI rfl aG);have aJ:=aI.optI0 (q:=13) ⟨rfl,rfl⟩ ac;exact je hm (aJ.sN 0 14)
   exact je hm (ab.sN 0 14)
 rintro _ w3 ⟨T1,J,hm,rfl,ak,_⟩;refine sq2 (rqS ak (pu ?_));refine qv (fun _ hq=>(hq.elim fun _ hi=>Z8m (kk:=p1.Name) (u:=0) rfl rfl ((ak.keep hi (fun _ h=>h)).getA (i:=9) ⟨rfl,rfl⟩) Z2g underlying80 underlying9 zeroValue3 rfl)) (pn ?_);intro _ _ _ aK;exact zr hm aK

instance:Ct 173 @Z3p:=⟨@Z3p,cf173⟩
theorem Q3g{p0:Q0}{p1:Pos}{p2}(hS:Q28 a1 a2 a3 a4 a5 a6 b1 oo1 n1 c1 n2 c2 n3 c3 n4 c4 n5 c5 n6 c6 Z5 H1 T0 g w0 pv1 r1 r2 R p0)(Z2:Ln Y0 Z9 Z5)(hL1:Ln b1 oo1 H1):∀r,Q0y p0 p1 p2=some r->
 Cl 172 #[pt Y0 Z9,Q49 p1,iv p2] w0 (exR r (fun r=>K6 T0 w0 (Q100 a2 a3 a4 a5 a6 b1 oo1 n2 c2 n3 c3 n4 c4 n5 c5 n6 c6 Z5 H1 g pv1 r1 r2 R r.1 r.2)) (fun r=>H9 T0 w0 (Q50 a2 a3 a4 a5 a6 b1 oo1 n2 c2 n3 c3 n4 c4 n5 c5 n6 c6 Z5 H1 g pv1 r1 r2 R r.1.pos r.1.e r.2))):=by
 intro r hm;refine eN Tryz.func172 Tryz.ntmps172 fun J=>?_;unfold Q0y at hm;exact zr hm hS

instance:Ct 172 @Q3g:=⟨@Q3g,cf172⟩
theorem Q0o{p0:Q0}{p1}(hS:Q28 a1 a2 a3 a4 a5 a6 b1 oo1 n1 c1 n2 c2 n3 c3 n4 c4 n5 c5 n6 c6 Z5 H1 T0 g w0 pv1 r1 r2 R p0)(Z2:Ln Y0 Z9 Z5)(hL1:Ln b1 oo1 H1):∀r,A0 p0 p1=some r->
 Cl 179 #[pt Y0 Z9,iv p1] w0 (K6 T0 w0 fun T w v=>v= .tuple #[iv r.1,.bool r.2]/\Q22 a1 a2 a3 a4 a5 a6 b1 oo1 n1 c1 n2 c2 n3 c3 n4 c4 n5 c5 n6 c6 Z5 H1 T g w pv1 r1 r2 R p0):=by
 intro r hm;refine eN Tryz.func179 Tryz.ntmps179 fun J=>?_;unfold A0 at hm;refine qN ?_;refine qU ?_;refine cB Y9l hm (R7 (hS.bE ([0,1]++Z3 4 7) [2,3]) hL1) ?_;rintro E _ _ _ _ ⟨_,c7,rfl,K,h1,_⟩ hm;refine aL zv9 K ?_;intro _ _ _ O;refine sT 0 O ?_;intro _ _ U;refine kE ?_;refine rsS [0,1,0,1,0,0,0,0,0,1,0,1,2,0,0,0,0] [0,1,2,3,4,5,6,7,8,9,10,11,12,13,14,15,16] U fun w4 ac D=>pu ?_
 rcases bc hm with⟨V,hm⟩|⟨V,hm⟩
 . obtain⟨_,W,hm⟩:=Z8 hm;refine sS [(1,iv E.1.Elem)] Z1v (V9 (D.bE (Z3 1 9++[0]) [10,11]) hL1 _ W) ?_;have dd:KD [(12,[3,9,11])]:=⟨qZt⟩;exact zo hm
 have dd:KD [(12,[3,9,11])]:=⟨qZt⟩;exact zr hm D

instance:Ct 179 @Q0o:=⟨@Q0o,cf179⟩
theorem Y4{p0:Q0}{p1}(hS:Q28 a1 a2 a3 a4 a5 a6 b1 oo1 n1 c1 n2 c2 n3 c3 n4 c4 n5 c5 n6 c6 Z5 H1 T0 g w0 pv1 r1 r2 R p0)(Z2:Ln Y0 Z9 Z5)(hL1:Ln b1 oo1 H1):∀r,X1 p0 p1=some r->
 Cl 146 #[pt Y0 Z9,iv p1] w0 (K6 T0 w0 fun T w v=>v= .bool r/\Q22 a1 a2 a3 a4 a5 a6 b1 oo1 n1 c1 n2 c2 n3 c3 n4 c4 n5 c5 n6 c6 Z5 H1 T g w pv1 r1 r2 R p0):=by
 intro r hm;refine eN Tryz.func146 Tryz.ntmps146 fun J=>?_;unfold X1 at hm;exact zr hm hS

instance:Ct 146 @Y4:=⟨@Y4,Q1p⟩
theorem Z1e{p0:List UInt8}(hS:Sep g T0 w0 [Y7 R]):∀r,Z2q p0=some r->
 Cl 195 #[Q23 p0.toArray] w0 (Q38 T0 w0 g R r):=by
 intro r hm;refine eN Tryz.func195 Tryz.ntmps195 fun J=>?_;unfold Z2q at hm;exact zr hm hS

instance:Ct 195 @Z1e:=⟨@Z1e,cf195⟩
theorem Q5k{p0:Y8}(hS:Sep g T0 w0 [Y7 R])(h1:Q10 a1 c1 T0 w0 p0.Kids):∀r,Q9o p0=some r->
 Cl 147 #[Q42 a1 c1 p0] w0 (Q25 T0 w0 g R r):=by
 intro r hm;refine eN Tryz.func147 Tryz.ntmps147 fun J=>?_;unfold Q9o at hm;refine sq2 (bX (E4 p0 a1 c1) hS ?_);intro _ _ _ D;refine kA ?_;exact fkC (d:=10) (c:=((p0.Kind==1)&&(p0.Num==0))) 4 [] rfl (fun hk=>zw (p0.Kind==1) hk) fun J=>re hm (D.sE [1])

instance:Ct 147 @Q5k:=⟨@Q5k,Y9k⟩
theorem Q3d(hS:Sep g T0 w0 [Y7 R]):∀r,Q1x=some r->
 Cl 148 #[] w0 (K6 T0 w0 fun T w v=>∃a1 c1,v= .agg (U2 r a1 c1).toArray/\Sep g T w (R++[])/\Q11 a1 c1 T w r.Kids/\True):=by
 intro r hm;refine eN Tryz.func148 Tryz.ntmps148 fun J=>?_;unfold Q1x at hm;exact zr hm hS

instance:Ct 148 @Q3d:=⟨@Q3d,X2q⟩
theorem Z2v{p0:Q0}{p1:Y8}{p2:Y2}{p3:Y2}(hS:Q28 a1 a2 a3 a4 a5 a6 b1 oo1 n1 c1 n2 c2 n3 c3 n4 c4 n5 c5 n6 c6 Z5 H1 T0 g w0 pv1 r1 r2 R p0)(Z2:Ln Y0 Z9 Z5)(hL1:Ln b1 oo1 H1)(h1:Q10 a7 c7 T0 w0 p1.Kids)(h2:Q82 a8 c8 T0 w0 p2)(h3:Q82 a9 c9 T0 w0 p3):∀r,Q4a p0 p1 p2 p3=some r->
 Cl 196 #[pt Y0 Z9,Q42 a7 c7 p1,Q93 a8 c8 p2,Q93 a9 c9 p3] w0 (exR r (fun r=>K6 T0 w0 fun T w v=>∃a21 c21,v= .agg (Q0c r a21 c21).toArray/\Sep g T w (R++X6 p0 Z5 H1 b1 oo1 a1 n1 c1 a2 n2 c2 a3 n3 c3 a4 n4 c4 r1 r2 a5 n5 c5 a6 n6 c6 pv1)/\Q82 a21 c21 T w r/\True) (fun r=>H9 T0 w0 (Q63 a1 a2 a3 a4 a5 a6 b1 oo1 n1 c1 n2 c2 n3 c3 n4 c4 n5 c5 n6 c6 Z5 H1 g pv1 r1 r2 R r.pos r.e p0))):=by
 intro r hm;refine eN Tryz.func196 Tryz.ntmps196 fun J=>?_;unfold Q4a at hm;refine sq2 (bX (E4 p1 a7 c7) hS ?_);intro _ b2 _ aC;refine bX (Q0c p2 a8 c8) aC ?_;intro _ b3 _ aD;refine bX (Q0c p3 a9 c9) aD ?_;intro _ b4 _ aE;refine aL zv1 aE ?_;intro w4 D _ aG;refine pn ?_;refine M8 hm (fun aj a E=>∃K W O aa c10 b7 U ac c11,JR (nf 71) g T0 w4 a E K (aj O U=some r) [(0,pt Y0 Z9),(5,pt b2 0),(6,pt b3 0),(7,pt b4 0),(8,pt D 0),(9,pt W 0),(10,pt b7 0)] ([K0 D zv1,Q47 a9 b4 c9 p3,Q47 a8 b3 c8 p2,Q33 a7 b2 c7 p1,Y7 R]++(X6 p0 Z5 H1 b1 oo1 a1 n1 c1 a2 n2 c2 a3 n3 c3 a4 n4 c4 r1 r2 a5 n5 c5 a6 n6 c6 pv1++[Q33 aa W c10 O,Q33 ac b7 c11 U]))/\Q10 aa c10 K E O.Kids/\Q10 ac c11 K E U.Kids) (fun aj hm=>?_) ?_
 . refine rtS [0,1,0,1,0,1,0,1,2,2,2,2] [0,1,2,3,4,5,6,7,8,9,10,11] aG fun w6 bo aI=>?_;have dd:KD [(8,[]),(9,[]),(10,[1,3,8,9]),(11,[1,3,5,7,8,9,10])]:=⟨qZt⟩;exact zr hm aI
 rintro _ E ⟨K,W,O,aa,c10,b7,U,ac,c11,⟨J,hm,rfl,aJ,_⟩,h4,h5⟩;refine qU ?_;refine cB cf195 hm (Z1e (aJ.bE ([0,1,2]++Z3 4 13) [])) ?_;rintro y1 _ T2 _ _ ⟨rfl,aP,_⟩ hm;refine pv (F0 (by kernel_rfl) rfl (u:= .agg #[iv 6,iv y1,.int .u32 0,iv 0,.bool false,iv 0,.bool false,.bool false,.slice none 0 0])) (aL zv3 aP ?_);intro _ am _ aQ;refine sT 0 aQ ?_;intro aR _ aS;refine pn ?_;have aT:=aS.nilO X8 197;refine M8 hm (fun an a ao=>∃T3 V ae n7 c14,JR (nf 71) g T2 aR a ao T3 (an V=some r) [(8,pt D 0),(11,pt am 0)] ([Q91 ae n7 c14 V.Kids,Q51 ae am n7 c14 V,K0 D zv1,Y7 R]++X6 p0 Z5 H1 b1 oo1 a1 n1 c1 a2 n2 c2 a3 n3 c3 a4 n4 c4 r1 r2 a5 n5 c5 a6 n6 c6 pv1)) (fun an hm=>?_) ?_
 . refine blk (qU ?_);refine cB Q1p hm (Y4 (aT.bE (Z3 0 6++[16,17]) (Z3 6 10)) Z2 hL1) ?_;rintro _ _ _ _ _ ⟨rfl,aq,_⟩ hm;refine pu ?_
   rcases bc hm with⟨aU,hm⟩|⟨aU,hm⟩
   . refine pu ?_;refine cB Y9k hm (Q5k (aq.bE (Z3 0 18) []) (mC h5)) ?_;rintro _ _ _ _ _ ⟨rfl,ar,_⟩ hm;refine cd hm ?_ ?_<;>intro bp hm
     . refine rsS [0,1,2,2,0,2] [0,1,2,3,4,5] ar fun bq bt aV=>?_;obtain⟨y4,aW,hm⟩:=Z8 hm;refine sS [(1,.agg (U2 p2.term a8 c8).toArray)] X2q (Q3d (aV.bE ([0,1,2,5]++Z3 8 10++[4]) []) _ aW) ?_;rintro _ _ _ _ ⟨aX,c15,rfl,aY,_,_⟩;have av:HL 1 X8 ([p2.term,y4]:List Y6) [(U2 p2.term a8 c8),(U2 y4 aX c15)]:=⟨qZt⟩;have dd:KD [(2,[]),(3,[1,2]),(5,[1,2,3])]:=⟨qZt⟩;exact zr hm aY
     refine qU ?_;refine cB Q1p hm (Y4 (ar.bE (Z3 0 8) (Z3 8 10)) Z2 hL1) ?_;rintro _ _ T7 _ _ ⟨rfl,aw,_⟩ hm;refine pu ?_
     rcases bc hm with⟨aZ,hm⟩|⟨aZ,hm⟩
     . refine pu ?_;refine cB Y9k hm (Q5k (aw.bE (Z3 0 18) []) (mC h4)) ?_;rintro _ _ _ _ _ ⟨rfl,ax,_⟩ hm;refine cd hm ?_ ?_<;>intro bu hm
       . refine rsS [2,0,1,2,0,2] [1,2,0,3,4,5] ax fun bv bw ba=>?_;obtain⟨y7,be,hm⟩:=Z8 hm;refine sS [(2,.agg (U2 p3.term a9 c9).toArray)] X2q (Q3d (ba.bE ([0,1,2,5]++Z3 8 10++[3]) []) _ be) ?_;rintro _ _ _ _ ⟨bf,c17,rfl,bg,_,_⟩;have av:HL 1 X8 ([y7,p3.term]:List Y6) [(U2 y7 bf c17),(U2 p3.term a9 c9)]:=⟨qZt⟩;have dd:KD [(0,[]),(3,[0,2]),(5,[0,2,3])]:=⟨qZt⟩;exact zr hm bg
       exact zr hm ax
     exact zr hm aw
   refine pn ?_;refine cnd (b:=false) rfl (fun h=>nomatch h) (fun _=>qU ?_);refine cB Q1p hm (Y4 (aq.bE (Z3 0 8) (Z3 8 10)) Z2 hL1) ?_;rintro _ _ _ _ _ ⟨rfl,az,_⟩ hm;refine pu ?_
   rcases bc hm with⟨bh,hm⟩|⟨bh,hm⟩
   . refine pu ?_;refine cB Y9k hm (Q5k (az.bE (Z3 0 18) []) (mC h4)) ?_;rintro _ _ _ _ _ ⟨rfl,aA,_⟩ hm;refine cd hm ?_ ?_<;>intro bz hm
     . refine rsS [2,0,1,2,0,2] [1,2,0,3,4,5] aA fun bA bB bi=>?_;obtain⟨aB,bj,hm⟩:=Z8 hm;refine sS [(2,.agg (U2 p3.term a9 c9).toArray)] X2q (Q3d (bi.bE ([0,1,2,5]++Z3 8 10++[3]) []) _ bj) ?_;rintro _ _ _ _ ⟨bk,c19,rfl,bl,_,_⟩;have av:HL 1 X8 ([aB,p3.term]:List Y6) [(U2 aB bk c19),(U2 p3.term a9 c9)]:=⟨qZt⟩;have dd:KD [(0,[]),(3,[0,2]),(5,[0,2,3])]:=⟨qZt⟩;exact zr hm bl
     exact zr hm aA
   exact zr hm az
 rintro _ ao ⟨T3,V,ae,n7,c14,J,hm,rfl,bm,_⟩;exact zr hm bm

instance:Ct 196 @Z2v:=⟨@Z2v,cf196⟩
theorem Q8r{p0:Q0}{p1:Y6}{p2:Y6}{p3 p4}(hS:Q28 a1 a2 a3 a4 a5 a6 b1 oo1 n1 c1 n2 c2 n3 c3 n4 c4 n5 c5 n6 c6 Z5 H1 T0 g w0 pv1 r1 r2 R p0)(Z2:Ln Y0 Z9 Z5)(hL1:Ln b1 oo1 H1)(h1:Q11 a7 c7 T0 w0 p1.Kids)(h2:Q11 a8 c8 T0 w0 p2.Kids):∀r,R9 p0 p1 p2 p3 p4=some r->
 Cl 180 #[pt Y0 Z9,Q55 a7 c7 p1,Q55 a8 c8 p2,iv p3,iv p4] w0 (K6 T0 w0 (Q77 a1 a2 a3 a4 a5 a6 b1 oo1 n1 c1 n2 c2 n3 c3 n4 c4 n5 c5 n6 c6 Z5 H1 g pv1 r1 r2 R r p0 r.Kids)):=by
 intro r hm;refine eN Tryz.func180 Tryz.ntmps180 fun J=>?_;unfold R9 at hm;refine sq2 (bX (U2 p1 a7 c7) hS ?_);intro _ _ _ E;refine bX (U2 p2 a8 c8) E ?_;intro _ _ _ K;refine aL zv3 K ?_;intro _ _ _ O;refine kE ?_;refine rtS [0,0,0,0,1,0,2,1,1,2,0,2] [0,1,2,3,4,5,7,8,6,9,10,11] O fun w4 ag D=>?_;obtain⟨U,V,hm⟩:=Z8 hm;refine tF [6,9] ?_;refine⟨?_,?_,qZt⟩
 . refine brW [9,10,11] [1,1,0] ?_;refine oS Z1v (V9 (D.bE ([0,3,4]++Z3 7 7++[1,2]) [5,6]) hL1 _ V) ?_;rintro _ _ _ _ ⟨rfl,W,_⟩;refine t1W [9] [10,11] [0,0] ?_;refine obS (r:=X8) (l:=([p1,p2]:List Y6)) (css:=[(U2 p1 a7 c7),(U2 p2 a8 c8)]) W ⟨(U1 (x:=p1) (mC h1):X8.rp _ _ _ _),(U1 (x:=p2) (mC h2):X8.rp _ _ _ _),qZt⟩ ?_;intro _ a9 n7 c9 _ ac;refine pu ?_;refine t0 rfl qZt (fun _=>F0 (by kernel_rfl) rfl (u:= .agg #[iv 14,iv p4,.int .u32 0,iv 0,.bool false,iv U,.bool false,.bool true,.slice a9 n7 c9])) rfl (t1W [11] [] [] ?_);refine osT 1 ac ?_;intro _ _ ad;refine pn ?_;obtain⟨_,_,ae,_,rfl⟩:=ad.sl 0;exact re hm (ae.sE ([2,3,13,14]++Z3 4 7))
 have ah:HL 1 X8 ([p1,p2]:List Y6) [(U2 p1 a7 c7),(U2 p2 a8 c8)]:=⟨qZt⟩;have dd:KD [(6,[4]),(9,[7,8]),(11,[4,6,7,8,9])]:=⟨qZt⟩;exact zr hm D

instance:Ct 180 @Q8r:=⟨@Q8r,cf180⟩
theorem Z2u{p0:Q0}{p1:Pos}{p2:Y2}{p3:Y6}{p4}(hS:Q28 a1 a2 a3 a4 a5 a6 b1 oo1 n1 c1 n2 c2 n3 c3 n4 c4 n5 c5 n6 c6 Z5 H1 T0 g w0 pv1 r1 r2 R p0)(Z2:Ln Y0 Z9 Z5)(hL1:Ln b1 oo1 H1)(h1:Q82 a7 c7 T0 w0 p2)(h2:Q11 a8 c8 T0 w0 p3.Kids):∀r,Q0z p0 p1 p2 p3 p4=some r->
 Cl 197 #[pt Y0 Z9,Q49 p1,Q93 a7 c7 p2,Q55 a8 c8 p3,iv p4] w0 (exR r (fun r=>K6 T0 w0 fun T w v=>∃a10 c10,v= .agg (Q0c r a10 c10).toArray/\Sep g T w (R++X6 p0 Z5 H1 b1 oo1 a1 n1 c1 a2 n2 c2 a3 n3 c3 a4 n4 c4 r1 r2 a5 n5 c5 a6 n6 c6 pv1)/\Q82 a10 c10 T w r/\True) (fun r=>H9 T0 w0 (Q63 a1 a2 a3 a4 a5 a6 b1 oo1 n1 c1 n2 c2 n3 c3 n4 c4 n5 c5 n6 c6 Z5 H1 g pv1 r1 r2 R r.pos r.e p0))):=by
 intro r hm;refine eN Tryz.func197 Tryz.ntmps197 fun J=>?_;unfold Q0z at hm;refine sq2 (bX [iv p1.Line,iv p1.Col] hS ?_);intro _ _ _ E;refine bX (Q0c p2 a7 c7) E ?_;intro _ _ _ K;refine bX (U2 p3 a8 c8) K ?_;intro _ _ _ O;refine aL zv1 O ?_;intro _ _ _ U;refine kA ?_;refine cB cf179 hm (Q0o (U.bE (Z3 0 5) (Z3 5 10)) Z2 hL1) ?_;rintro _ _ _ _ _ ⟨rfl,D,_⟩ hm;refine pn ?_;refine sq2 (sq2 (cd hm ?_ ?_))<;>intro W hm
 . exact zr hm D
 refine kE ?_;refine rsS [0,1,0,0,1,1,0,0,2,0,2] [0,1,2,3,4,5,6,7,8,9,10] D fun w8 ab V=>?_;have dd:KD [(8,[4,5]),(10,[1,4,5,8])]:=⟨qZt⟩;exact zr hm V

instance:Ct 197 @Z2u:=⟨@Z2u,cf197⟩
theorem U3{p0:Q0}{p1:Y8}{p2:Y2}{p3}(hS:Q28 a1 a2 a3 a4 a5 a6 b1 oo1 n1 c1 n2 c2 n3 c3 n4 c4 n5 c5 n6 c6 Z5 H1 T0 g w0 pv1 r1 r2 R p0)(Z2:Ln Y0 Z9 Z5)(hL1:Ln b1 oo1 H1)(h1:Q10 a7 c7 T0 w0 p1.Kids)(h2:Q82 a8 c8 T0 w0 p2):∀r,N4 p0 p1 p2 p3=some r->
 Cl 107 #[pt Y0 Z9,Q42 a7 c7 p1,Q93 a8 c8 p2,iv p3] w0 (exR r (fun r=>K6 T0 w0 (Q77 a1 a2 a3 a4 a5 a6 b1 oo1 n1 c1 n2 c2 n3 c3 n4 c4 n5 c5 n6 c6 Z5 H1 g pv1 r1 r2 R r p0 r.Kids)) (fun r=>H9 T0 w0 (Q63 a1 a2 a3 a4 a5 a6 b1 oo1 n1 c1 n2 c2 n3 c3 n4 c4 n5 c5 n6 c6 Z5 H1 g pv1 r1 r2 R r.pos r.e p0))):=by
 intro r hm;refine eN Tryz.func107 Tryz.ntmps107 fun J=>?_;unfold N4 at hm;refine sq2 (bX (E4 p1 a7 c7) hS ?_);intro _ D _ ae;refine bX (Q0c p2 a8 c8) ae ?_;intro _ E _ af;refine aL zv3 af ?_;intro _ K _ ag;refine kE ?_;refine blk (qU ?_);refine cB Q1p hm (Y4 (ag.bE (Z3 0 4) (Z3 4 10)) Z2 hL1) ?_;rintro _ _ _ _ _ ⟨rfl,O,_⟩ hm;refine pu ?_
 rcases bc hm with⟨ah,hm⟩|⟨ah,hm⟩
 . refine pu ?_;refine cB Y9k hm (Q5k (O.bE (Z3 0 14) []) (mC h1)) ?_;rintro _ _ _ _ _ ⟨rfl,U,_⟩ hm;refine cd hm ?_ ?_<;>intro ak hm
   . exact zr hm U
   refine qU ?_;refine cB Q1p hm (Y4 (U.bE (Z3 0 4) (Z3 4 10)) Z2 hL1) ?_;rintro V _ _ _ _ ⟨rfl,W,_⟩ hm;refine pu ?_;refine fkC (d:=27) (c:=(V&&(p2.n==p3))) 5 [(0,pt Y0 Z9),(3,iv p3),(5,pt D 0),(6,pt E 0),(8,pt K 0)] rfl (fun hk=>zw V hk) fun J=>?_;refine cd hm ?_ ?_<;>intro am hm
   . exact zr hm W
   refine qU ?_;refine cB Q1p hm (Y4 (W.bE (Z3 0 4) (Z3 4 10)) Z2 hL1) ?_;rintro y5 _ _ _ _ ⟨rfl,ai,_⟩ hm;refine pu ?_;exact fkC (d:=39) (c:=((!y5)&&(p2.n==1))) 4 [(5,pt D 0),(6,pt E 0),(8,pt K 0)] rfl (fun hk=>zw (!y5) hk) fun J=>zr hm ai
 refine pn ?_;refine cnd (b:=false) rfl (fun h=>nomatch h) (fun _=>qU ?_);refine cB Q1p hm (Y4 (O.bE (Z3 0 4) (Z3 4 10)) Z2 hL1) ?_;rintro y7 _ _ _ _ ⟨rfl,ac,_⟩ hm;refine pu ?_;refine fkC (d:=27) (c:=(y7&&(p2.n==p3))) 5 [(0,pt Y0 Z9),(3,iv p3),(5,pt D 0),(6,pt E 0),(8,pt K 0)] rfl (fun hk=>zw y7 hk) fun J=>?_;refine cd hm ?_ ?_<;>intro an hm
 . exact zr hm ac
 refine qU ?_;refine cB Q1p hm (Y4 (ac.bE (Z3 0 4) (Z3 4 10)) Z2 hL1) ?_;rintro y8 _ _ _ _ ⟨rfl,aj,_⟩ hm;refine pu ?_;exact fkC (d:=39) (c:=((!y8)&&(p2.n==1))) 4 [(5,pt D 0),(6,pt E 0),(8,pt K 0)] rfl (fun hk=>zw (!y8) hk) fun J=>zr hm aj

instance:Ct 107 @U3:=⟨@U3,Z5f⟩
theorem Q1y{p0:Q0}{p1}(hS:Q28 a1 a2 a3 a4 a5 a6 b1 oo1 n1 c1 n2 c2 n3 c3 n4 c4 n5 c5 n6 c6 Z5 H1 T0 g w0 pv1 r1 r2 R p0)(Z2:Ln Y0 Z9 Z5)(hL1:Ln b1 oo1 H1):∀r,F6 p0 p1=some r->
 Cl 199 #[pt Y0 Z9,iv p1] w0 (K6 T0 w0 fun T w v=>v=iv r/\Q22 a1 a2 a3 a4 a5 a6 b1 oo1 n1 c1 n2 c2 n3 c3 n4 c4 n5 c5 n6 c6 Z5 H1 T g w pv1 r1 r2 R p0):=by
 intro r hm;refine eN Tryz.func199 Tryz.ntmps199 fun J=>?_;unfold F6 at hm;exact zr hm hS

instance:Ct 199 @Q1y:=⟨@Q1y,cf199⟩
theorem I7{p0:Q0}{p1:Y8}{p2:Y2}{p3}(hS:Q28 a1 a2 a3 a4 a5 a6 b1 oo1 n1 c1 n2 c2 n3 c3 n4 c4 n5 c5 n6 c6 Z5 H1 T0 g w0 pv1 r1 r2 R p0)(Z2:Ln Y0 Z9 Z5)(hL1:Ln b1 oo1 H1)(h1:Q10 a7 c7 T0 w0 p1.Kids)(h2:Q82 a8 c8 T0 w0 p2):∀r,O0 p0 p1 p2 p3=some r->
 Cl 189 #[pt Y0 Z9,Q42 a7 c7 p1,Q93 a8 c8 p2,iv p3] w0 (exR r (fun r=>K6 T0 w0 (Q77 a1 a2 a3 a4 a5 a6 b1 oo1 n1 c1 n2 c2 n3 c3 n4 c4 n5 c5 n6 c6 Z5 H1 g pv1 r1 r2 R r p0 r.Kids)) (fun r=>H9 T0 w0 (Q63 a1 a2 a3 a4 a5 a6 b1 oo1 n1 c1 n2 c2 n3 c3 n4 c4 n5 c5 n6 c6 Z5 H1 g pv1 r1 r2 R r.pos r.e p0))):=by
 intro r hm;refine eN Tryz.func189 Tryz.ntmps189 fun J=>?_;unfold O0 at hm;refine sq2 (bX (E4 p1 a7 c7) hS ?_);intro _ _ _ K;refine bX (Q0c p2 a8 c8) K ?_;intro _ _ _ O;refine aL zv3 O ?_;intro _ _ _ U;refine kA ?_;refine cP Z5f hm (U3 (U.bE [0,3] (Z3 4 10)) Z2 hL1 (mC h1) (mC h2)) ?_ ?_
 . rintro e1 _ _ _ _ ⟨rfl,V,_⟩ hm;exact pe hm (V.sN 1 11)
 rintro D _ _ _ _ ⟨W,c9,rfl,aa,h3,_⟩ hm;refine aL zv3 aa ?_;intro _ _ _ ac;refine sT 0 ac ?_;intro _ _ E;refine pn ?_;refine sq2 (sq2 (cd hm ?_ ?_))<;>intro aj hm
 . refine sq2 (bS (r:=X8) (l:=([D]:List Y6)) (css:=[(U2 D W c9)]) E ⟨(U1 (x:=D) (mC h3):X8.rp _ _ _ _),qZt⟩ ?_);intro _ ad n7 c10 _ af;refine pv (F0 (by kernel_rfl) rfl (u:= .agg #[iv 17,iv 0,.int .u32 0,iv 0,.bool false,iv 0,.bool false,.bool false,.slice ad n7 c10])) (sT 2 af ?_);intro _ _ ag;refine pn ?_;obtain⟨_,_,ah,_,rfl⟩:=ag.sl 0;exact re hm (ah.sN 3 11)
 refine kE ?_;refine sT 1 E ?_;intro _ _ ai;exact re hm (ai.sN 2 11)

instance:Ct 189 @I7:=⟨@I7,X2p⟩
theorem Q4d{p0:Q0}{p1:Pos}{p2:Y2}(hS:Q28 a1 a2 a3 a4 a5 a6 b1 oo1 n1 c1 n2 c2 n3 c3 n4 c4 n5 c5 n6 c6 Z5 H1 T0 g w0 pv1 r1 r2 R p0)(Z2:Ln Y0 Z9 Z5)(hL1:Ln b1 oo1 H1)(h1:Q82 a7 c7 T0 w0 p2):∀r,W5 p0 p1 p2=some r->
 Cl 149 #[pt Y0 Z9,Q49 p1,Q93 a7 c7 p2] w0 (exR r (fun r=>K6 T0 w0 fun T w v=>∃a15 c15 a16 n11 c16,v= .agg (Q0c r.1 a15 c15).toArray/\Sep g T w (R++X6 r.2 Z5 H1 b1 oo1 a16 n11 c16 a2 n2 c2 a3 n3 c3 a4 n4 c4 r1 r2 a5 n5 c5 a6 n6 c6 pv1)/\Q82 a15 c15 T w r.1/\True) (fun r=>H9 T0 w0 (Q50 a2 a3 a4 a5 a6 b1 oo1 n2 c2 n3 c3 n4 c4 n5 c5 n6 c6 Z5 H1 g pv1 r1 r2 R r.1.pos r.1.e r.2))):=by
 intro r hm;refine eN Tryz.func149 Tryz.ntmps149 fun J=>?_;unfold W5 at hm;refine sq2 (bX [iv p1.Line,iv p1.Col] hS ?_);intro _ b2 _ aN;refine bX (Q0c p2 a7 c7) aN ?_;intro _ b3 _ aP;refine aL zv1 aP ?_;intro w3 E _ av;refine pn ?_;refine sq2 (sq2 (cd hm ?_ ?_))<;>intro bL hm
 . exact zr hm av
 refine pn ?_;refine M8 hm (fun aw a w5=>∃T1 U K a8 c8,JR (nf 78) g T0 w3 a w5 T1 (aw K=some r) [(0,pt Y0 Z9),(4,pt b2 0),(5,pt b3 0),(6,pt E 0),(7,pt U 0)] ([K0 E zv1,Q47 a7 b3 c7 p2,K0 b2 [iv p1.Line,iv p1.Col],Y7 R]++(X6 p0 Z5 H1 b1 oo1 a1 n1 c1 a2 n2 c2 a3 n3 c3 a4 n4 c4 r1 r2 a5 n5 c5 a6 n6 c6 pv1++[K0 U (Y7y K a8 c8)]))/\Q65 a8 c8 T1 w5 K.Fields) (fun aw hm=>?_) ?_
 . refine rtS [0,0,0,1,0,1,2,0,0,0,2,2,0] [0,1,2,3,4,5,6,7,8,9,10,11,12] av fun w6 bN ax=>?_;obtain⟨_,ay,hm⟩:=Z8 hm;refine tF [6,10] ?_;refine⟨?_,?_,qZt⟩
   . refine brW [7,8,9,10,11,12] [0,0] ?_;refine oS Y9l (R7 (ax.bE (Z3 0 5++Z3 7 7) [5,6]) hL1 _ ay) ?_;rintro _ T2 w7 aT ⟨a9,c9,rfl,ai,h3,_⟩;refine t1W [10] [11,12] [] ?_;refine oaL zv9 ai ?_;intro w8 b6 aY aj;refine t1W [11] [12] [] ?_;refine osT 0 aj ?_;intro w9 ba ak;refine pu ?_;exact je hm (ak.sE (Z3 1 5++[13,14]++Z3 6 7++[0]))
   refine brW [6,7,8,9,11,12] [] ?_;refine oaL zv9 ax ?_;intro w7 b6 aT ai;refine t1W [6] [7,8,9,11,12] [0,0] ?_;refine oS Y9l (R7 (ai.bE (Z3 0 6++Z3 8 7) [6,7]) hL1 _ ay) ?_;rintro _ T2 w8 aY ⟨a9,c9,rfl,aj,h3,_⟩;refine t1W [11] [12] [] ?_;refine osT 0 aj ?_;intro w9 ba ak;refine pu ?_;exact je hm (ak.sE (Z3 1 5++[13,14]++Z3 6 7++[0]))
 rintro _ w5 ⟨T1,U,K,a8,c8,⟨J,hm,rfl,be,_⟩,h2⟩;refine sq2 (rsS [0,0,0,1,0,1,2,0] [0,1,2,3,4,5,6,7] be fun bO bP bf=>?_);obtain⟨V,bg,hm⟩:=Z8 hm;refine sS [] Z1v (V9 (bf.bE (Z3 0 5++Z3 7 8) [5,6]) hL1 _ bg) ?_;rintro _ T3 _ _ ⟨rfl,az,_⟩;refine pn ?_;refine sq2 (blk (sq2 (cd hm ?_ ?_)))<;>intro bQ hm
 . refine sq2 (aL zv3 az ?_);intro _ b7 _ bi;refine sT 0 bi ?_;intro bj _ bk;refine pn ?_;refine M8 hm (fun aB a am=>∃T4 D O c10,JR (nf 78) g T3 bj a am T4 (aB D=some r) [(0,pt Y0 Z9),(4,pt b2 0),(6,pt E 0),(7,pt U 0),(10,pt b7 0)] [Q79 O b7 c10 D,K0 E zv1,K0 b2 [iv p1.Line,iv p1.Col],Y7 R,Z5 [pt b1 oo1,.slice a2 n2 c2,.slice a3 n3 c3,.slice a4 n4 c4,iv p0.u.Main,.map r1,.map r2,.slice a5 n5 c5,.slice a6 n6 c6,pv1],J6 Q4b 94 (.slice a2 n2 c2) p0.u.Globals,J6 (rSl (J3 .u8)) 99 (.slice a3 n3 c3) p0.u.Data,J6 Q9f 103 (.slice a4 n4 c4) p0.u.Codes,Q103 r1 p0.globals,Q103 r2 p0.codes,J6 (J3 .i64) 3 (.slice a5 n5 c5) p0.gtypes,J6 Q5f 186 (.slice a6 n6 c6) p0.signs,K0 U (Y7y K a8 c8),H1 [.slice a1 n1 c1],Q12 a1 n1 c1 p0.t.list]/\Q11 O c10 T4 am D.Kids) (fun aB hm=>?_) ?_
   . have bR:HL 1 X8 ([p2.term]:List Y6) [(U2 p2.term a7 c7)]:=⟨qZt⟩;have dd:KD [(6,[3,5])]:=⟨qZt⟩;exact zr hm bk
   rintro _ am ⟨T4,D,O,c10,⟨J,hm,rfl,bl,_⟩,_⟩;refine sq2 (Z2w [0,1,0,1,2,1,0,2] [0,1,2,3,5,4,6,7] bl (U7 (R6 (U7 (C5)))) fun bT bU aD=>pu ?_);obtain⟨y3,aE,hm⟩:=Z8 hm
   rcases y3 with e1|y3
   . have hm:=J8 hm;refine s2 [(5,.agg (U2 D O c10).toArray)] rfl qZt rfl (by kernel_rfl) (Z2d cf172 rfl (Q3g (p0:=p0) (p1:=p1) (p2:=K.Elem) (aD.bE [1,3,0,12,2] ([4,13,14]++Z3 5 7)) Z2 hL1 _ aE) rfl fun v4 T7 bW bY bm=>?_);obtain⟨_,_,c13,rfl,bn,_⟩:=bm;exact pe hm (bn.sE ([1]++Z3 5 10))
   have hm:=C2 hm;refine sS [(5,.agg (U2 D O c10).toArray)] cf172 (Q3g (aD.bE [1,3,0,12,2] ([4,13,14]++Z3 5 7)) Z2 hL1 _ aE) ?_;rintro _ _ _ _ ⟨_,_,c12,rfl,bo,_⟩;refine pu ?_;refine s0 rfl qZt (fun _=>F0 (by kernel_rfl) rfl (u:= .agg #[iv y3.1,iv D.Kind,iv D.Fn,.int .u32 D.Num,iv D.Var,.bool D.Global,iv D.Size,.bool D.Post,.bool D.Ptr,sv O D.Kids c10,.bool false])) rfl (s2W [0] ?_);refine osT 0 bo ?_;intro _ _ bp;exact re hm (bp.sE ([1]++Z3 5 10))
 refine sq2 (rsS [0,0,0,1,0,1,2,0,0] [0,1,2,3,4,5,6,7,8] az fun bZ b0 bq=>?_);obtain⟨_,bt,hm⟩:=Z8 hm;refine sS [] cf74 (S8 (bq.bE (Z3 0 12) [13,14]) hL1 _ bt) ?_;rintro _ T8 bv _ ⟨rfl,aF,_⟩;refine cd hm ?_ ?_<;>intro b8 hm
 . have dd:KD [(6,[3,5])]:=⟨qZt⟩;exact zr hm aF
 refine kD ?_;refine M8 hm (fun aG a aI=>∃aJ W,JR (nf 78) g T8 bv a aI aJ (aG W=some r) [(0,pt Y0 Z9),(5,pt b3 0),(6,pt E 0),(9,iv V),(11,iv W)] [K0 E zv1,Q47 a7 b3 c7 p2,Y7 R,Z5 [pt b1 oo1,.slice a2 n2 c2,.slice a3 n3 c3,.slice a4 n4 c4,iv p0.u.Main,.map r1,.map r2,.slice a5 n5 c5,.slice a6 n6 c6,pv1],J6 Q4b 94 (.slice a2 n2 c2) p0.u.Globals,J6 (rSl (J3 .u8)) 99 (.slice a3 n3 c3) p0.u.Data,J6 Q9f 103 (.slice a4 n4 c4) p0.u.Codes,Q103 r1 p0.globals,Q103 r2 p0.codes,J6 (J3 .i64) 3 (.slice a5 n5 c5) p0.gtypes,J6 Q5f 186 (.slice a6 n6 c6) p0.signs,H1 [.slice a1 n1 c1],Q12 a1 n1 c1 p0.t.list]) (fun aG hm=>?_) ?_
 . have dd:KD [(6,[3,5])]:=⟨qZt⟩;exact zr hm aF
 rintro _ aI ⟨aJ,W,J,hm,rfl,bw,_⟩;refine sq2 (rtS [0,0,0,0,2,0,1,2,0,0,2] [0,1,2,3,5,6,4,7,8,9,10] bw fun b9 cc aK=>?_);obtain⟨y6,aM,hm⟩:=Z8 hm;refine tF [4,7] ?_;refine⟨?_,?_,qZt⟩
 . refine brW [7,8,9,10] [] ?_;refine oS Q1p (Y4 (aK.bE [0,2,1] ([3,11,12]++Z3 4 7)) Z2 hL1 _ aM) ?_;rintro _ bz bA bB ⟨rfl,ap,_⟩;refine t1W [7] [8,9,10] [0] ?_;refine obS (r:=X8) (l:=([p2.term]:List Y6)) (css:=[(U2 p2.term a7 c7)]) ap ⟨(U1 (x:=p2.term) (mC h1):X8.rp _ _ _ _),qZt⟩ ?_;intro bC aa ab c14 bD aq;refine pu ?_;refine t0 rfl qZt (fun _=>F0 (by kernel_rfl) rfl (u:= .agg #[iv 3,iv 0,.int .u32 0,iv 0,.bool false,iv V,.bool false,.bool y6,.slice aa ab c14])) rfl (t0 rfl qZt (fun _=>F0 (by kernel_rfl) rfl (u:= .agg #[iv W,iv 3,iv 0,.int .u32 0,iv 0,.bool false,iv V,.bool false,.bool y6,.slice aa ab c14,.bool false])) rfl (t1W [10] [] [] ?_));refine osT 1 aq ?_;intro bF bG ar;refine pn ?_;obtain⟨bI,bJ,au,h6,rfl⟩:=ar.sl 0;exact re hm (au.sE ([2]++Z3 4 10))
 refine brW [4,8,9,10] [0] ?_;refine obS (r:=X8) (l:=([p2.term]:List Y6)) (css:=[(U2 p2.term a7 c7)]) aK ⟨(U1 (x:=p2.term) (mC h1):X8.rp _ _ _ _),qZt⟩ ?_;intro bA aa ab c14 bB ap;refine t1W [4] [8,9,10] [] ?_;refine oS Q1p (Y4 (ap.bE [0,1,3] ([4,12,13]++Z3 5 7)) Z2 hL1 _ aM) ?_;rintro _ bz bC bD ⟨rfl,aq,_⟩;refine pu ?_;refine t0 rfl qZt (fun _=>F0 (by kernel_rfl) rfl (u:= .agg #[iv 3,iv 0,.int .u32 0,iv 0,.bool false,iv V,.bool false,.bool y6,.slice aa ab c14])) rfl (t0 rfl qZt (fun _=>F0 (by kernel_rfl) rfl (u:= .agg #[iv W,iv 3,iv 0,.int .u32 0,iv 0,.bool false,iv V,.bool false,.bool y6,.slice aa ab c14,.bool false])) rfl (t1W [10] [] [] ?_));refine osT 1 aq ?_;intro bF bG ar;refine pn ?_;obtain⟨bI,bJ,au,h6,rfl⟩:=ar.sl 0;exact re hm (au.sN 2 11)

instance:Ct 149 @Q4d:=⟨@Q4d,cf149⟩
theorem Z4z{p0:Z7}{p1}{p2:List UInt8}(hS:Q37 a1 n1 c1 Z5 T0 g w0 R p0.list)(Z2:Ln Y0 Z9 Z5):∀r,Q4r p0 p1 p2=some r->
 Cl 200 #[pt Y0 Z9,iv p1,Q23 p2.toArray] w0 (K6 T0 w0 fun T w v=>v= .tuple #[Q105 r.1,iv r.2]/\Q31 a1 n1 c1 Z5 T g w R p0.list):=by
 intro r hm;refine eN Tryz.func200 Tryz.ntmps200 fun J=>?_;unfold Q4r at hm;refine sq2 (aL zv15 hS ?_);intro _ E _ ac;refine kE ?_;refine blk (qU ?_);refine pv (Y5t rfl rfl rfl underlying78) (pn ?_);refine cnd (b:=false) rfl (fun h=>nomatch h) (fun _=>qU ?_);refine cB cf113 hm (Q9l (ac.bE [0,1] [2,3]) Z2) ?_;rintro _ _ T1 w2 _ ⟨rfl,D,_⟩ hm;refine cd hm ?_ ?_<;>intro am hm
 . exact zr hm D
 refine sq2 ?_;obtain⟨u1,O,hm⟩:=Z8 hm;obtain⟨cs1,af,_⟩:=(D.own (i:=3) ⟨rfl,rfl⟩).v.ixcS O rfl;obtain⟨U,c2,rfl,h1⟩:=A8 af;refine cd hm ?_ ?_<;>intro an hm
 . exact zr hm D
 refine kE ?_;refine sq2 ?_;obtain⟨u2,ah,hm⟩:=Z8 hm;obtain rfl:u1=u2:=oI (O.symm.trans ah);refine pu ?_;refine nil (K7 [(2,(qZs p2)),(6,pt E 0),(40,sv U u1.Type_.Fields c2),(41,iv (List.length u1.Type_.Fields:Int)),(42,iv 0)] ⟨rfl,rfl,rfl,rfl,rfl,qZt⟩ fun J=>lpJ hm (fun V W m a w5=>∃T2 K,JR (nf 53) g T1 w2 a w5 T2 (X5 V m K=some W) [(2,(qZs p2)),(6,pt E 0),(40,sv U u1.Type_.Fields c2),(41,iv (List.length u1.Type_.Fields:Int)),(42,iv K)] [K0 E zv15,Y7 R,Q94 a1 n1 c1 Z5,Q12 a1 n1 c1 p0.list]) (fun _ _ h=>je h (D.sN 0 4)) ?_);rintro V ai W _ _ _ w5 ⟨T2,K,J,aj,rfl,ak,_⟩;obtain⟨m1,_,rfl,hm,_⟩:=lrE aj ai;exact zr hm ak
instance:Ct 200 @Z4z:=⟨@Z4z,cf200⟩
end Go.Proofs.YtbfpdnogfkbiaaaGreat
