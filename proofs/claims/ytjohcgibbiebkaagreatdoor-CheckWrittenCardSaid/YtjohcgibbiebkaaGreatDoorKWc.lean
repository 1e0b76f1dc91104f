/- Lemmas that hold for every program. -/
import Derived.Test.YtjohcgibbiebkaaGreatDoorKWbb
set_option linter.unusedVariables false
namespace Go.Proofs.YtjohcgibbiebkaaGreatDoor
section
open _root_.Go.Proofs.Tryz
set_option maxRecDepth 100000
set_option maxHeartbeats 8000000
attribute [local irreducible] wpList wpQuiet Code.wp
variable{g:World}{T0:TP}{w0:World}{R:List X1}
variable{b1 b2 Y3 Q1x Z9o Z9n Y1k c1 c2 c3 c4 c5 c6 c7 c8 c9 c10 c11 c12 c13 n1 n2 n3 n4 n5 n6 n7 Y2 Q1w Z9e Z9d Y0q oo1 oo2:Nat}{H1 H2 Z6 Q0a Z6j Z6i Z9p:Ab->X1}{a1 a2 a3 a4 a5 a6 a7 a8 a9 a10 a11 a12 a13:OA}{r1 r2:Option Nat}{pv1:Value}
attribute [local irreducible] H8 Q1o execOp Program.underlying sizeOf isAgg zeroValue

theorem Q0u{p0:Z9}{p1}(hS:Q28 a1 n1 c1 Z6 T0 g w0 R p0)(Z1:Ln Y3 Y2 Z6):∀r,C3 p0 p1=some r->
 Cl 141 #[pt Y3 Y2,iv p1] w0 (J6 T0 w0 fun T w v=>∃a4 c4,v= .tuple #[.agg (Y8h r.1 a4 c4).toArray,iv r.2]/\Sep g T w (R++[Q78 a1 n1 c1 Z6,Q9 a1 n1 c1 p0])/\Q50 a4 c4 T w r.1.Fields/\True):=by
 intro r hm;refine eN Tryz.func141 Tryz.ntmps141 fun J=>?_;unfold C3 at hm;exact zr hm hS

instance:Ct 141 @Q0u:=⟨@Q0u,Y9u⟩
theorem D7{p0:Q0}{p1}(hS:Q21 a1 a2 a3 a4 a5 a6 b1 oo1 n1 c1 n2 c2 n3 c3 n4 c4 n5 c5 n6 c6 Z6 H1 T0 g w0 pv1 r1 r2 R p0)(Z1:Ln Y3 Y2 Z6)(hL1:Ln b1 oo1 H1):∀r,Q0g p0 p1=some r->
 Cl 108 #[pt Y3 Y2,iv p1] w0 (J6 T0 w0 fun T w v=>v=iv r/\Q18 a1 a2 a3 a4 a5 a6 b1 oo1 n1 c1 n2 c2 n3 c3 n4 c4 n5 c5 n6 c6 Z6 H1 T g w pv1 r1 r2 R p0):=by
 intro r hm;refine eN Tryz.func108 Tryz.ntmps108 fun J=>?_;unfold Q0g at hm;exact zr hm hS

instance:Ct 108 @D7:=⟨@D7,Y2r⟩
theorem Q3i{p0:Q0}{p1:J2}{p2}(hS:Q21 a1 a2 a3 a4 a5 a6 b1 oo1 n1 c1 n2 c2 n3 c3 n4 c4 n5 c5 n6 c6 Z6 H1 T0 g w0 pv1 r1 r2 R p0)(Z1:Ln Y3 Y2 Z6)(hL1:Ln b1 oo1 H1)(h1:Q35 a7 c7 T0 w0 p1)(h2:Q7 a8 c8 T0 w0 p1.Init):∀r,L3 p0 p1 p2=some r->
 Cl 105 #[pt Y3 Y2,Q77 a7 a8 c7 c8 p1,iv p2] w0 (exR r (fun r=>J6 T0 w0 fun T w v=>∃a10 c10,v=sv a10 r c10/\Sep g T w (R++X5 p0 Z6 H1 b1 oo1 a1 n1 c1 a2 n2 c2 a3 n3 c3 a4 n4 c4 r1 r2 a5 n5 c5 a6 n6 c6 pv1)/\SlR E3 T w (sv a10 r c10) r/\True) (fun r=>L8 T0 w0 (Q49 a1 a2 a3 a4 a5 a6 b1 oo1 n1 c1 n2 c2 n3 c3 n4 c4 n5 c5 n6 c6 Z6 H1 g pv1 r1 r2 R r.pos r.e p0))):=by
 intro r hm;refine eN Tryz.func105 Tryz.ntmps105 fun J=>?_;unfold L3 at hm;refine sq2 (bX (Z5j p1 a7 c7 a8 c8) hS ?_);intro _ E _ I;refine pn ?_;refine sq2 (sq2 (cd hm ?_ ?_))<;>intro ad hm
 . exact zr hm I
 refine kA ?_;refine cB Y9u hm (Q0u (I.bE ([0,1,2]++Z4 5 7) [3,4]) hL1) ?_;rintro D _ _ _ _ ⟨_,c9,rfl,U,h3,_⟩ hm;refine aL zv8 U ?_;intro _ V _ W;refine sT 0 W ?_;intro _ _ K;refine kD ?_;refine sq2 (blk (qU ?_));refine pv (r_bn rfl rfl underlying4) (pu ?_)
 rcases bc hm with⟨aa,hm⟩|⟨aa,hm⟩
 . exact zr hm K
 refine pu ?_;refine cB Y2r hm (D7 (K.bE [0,1,2] ([3,11,12]++Z4 4 7)) Z1 hL1) ?_;rintro _ _ _ _ _ ⟨rfl,ab,_⟩ hm;refine pu ?_;refine cB cf104 hm (Q1r (ab.bE [0,1,2] (Z4 3 10)) Z1 hL1) ?_;rintro y3 _ _ _ _ ⟨rfl,O,_⟩ hm;refine pu ?_;refine nil (B0 [(4,pt E 0),(7,pt V 0),(9,.bool (D.1.Kind==4)),(26,.bool (y3==0))] ⟨rfl,rfl,rfl,rfl,qZt⟩ fun J=>?_);refine cd hm ?_ ?_<;>intro ae hm
 . exact zr hm O
 refine qU ?_;exact fkC (d:=51) (c:=((D.1.Kind==4)&&(decide (D.1.Len<(List.length p1.Init:Int))))) 7 [(4,pt E 0)] rfl (fun hk=>zw (D.1.Kind==4) hk) fun J=>zr hm O

instance:Ct 105 @Q3i:=⟨@Q3i,cf105⟩
theorem Q3e{p0:E1}{p1:Aa}(hS:Sep g T0 w0 ([X0 R]++Z5e p0 Z6 a1 n1 c1 a2 n2 c2 a3 n3 c3))(Z1:Ln Y3 Y2 Z6):∀r,Q1t p0 p1=some r->
 Cl 189 #[pt Y3 Y2,Q14 p1.toArray] w0 (J6 T0 w0 fun T w v=>v= .tuple #[iv r.1,.bool r.2]/\Sep g T w (R++Z5e p0 Z6 a1 n1 c1 a2 n2 c2 a3 n3 c3)/\True):=by
 intro r hm;refine eN Tryz.func189 Tryz.ntmps189 fun J=>?_;unfold Q1t at hm;refine qN ?_;refine sq2 (qN ?_);refine lpJ hm (fun W o1 m a D=>∃E I,JR (nf 33) g T0 w0 a D E (loopM W m I=some o1) [(0,pt Y3 Y2),(1,(qZs p1)),(6,iv I)] ([X0 R]++Z5e p0 Z6 a1 n1 c1 a2 n2 c2 a3 n3 c3)) (fun _ _ h=>je h (hS.sN 0 5)) ?_;rintro W ab o1 _ _ _ D ⟨E,I,J,ac,rfl,V,_⟩;obtain⟨m1,_,rfl,hm,ad⟩:=lrE ac ab;refine sq2 (sq2 (cd hm ?_ ?_))<;>intro ap hm
 . refine kE ?_;refine blk (qU ?_);obtain⟨u1,K,hm⟩:=bindS hm;obtain⟨_,of1,k1,cp1,hv1,_,_,ae⟩:=V.nhd (q:=4) ⟨rfl,rfl⟩ K rfl;obtain⟨css1,cs1,af⟩:=V.nfocus (q:=4) ⟨rfl,rfl⟩ K;obtain⟨O,ag⟩:=af.exE;obtain⟨hcs1,ah⟩:=ag.pE;subst hcs1;have U:=ah.unb;refine pu ?_;refine pv (Y0i rfl isAgg82 (U.cellB (i:=6) ⟨rfl,rfl⟩ (X4p (i:=I) hv1 ae) (j:=0) rfl)) (pu ?_);refine pv (Z7r (kk:=p1) (u:=0) rfl rfl (U.getA (i:=0) ⟨rfl,rfl⟩) Z0r underlying82 underlying9 zeroValue3 rfl) (pn ?_);refine sq2 (cd hm ?_ ?_)<;>intro aq hm
   . refine qN ?_;have ai:=U.bE [0] (Z4 1 6);have aj:Sep g E D (Y2n.A u1 [.map O]::_):=Sep.exI (O) (Sep.pI rfl ai);have ak:=aj.nunfocus0 (q:=4) ⟨rfl,rfl⟩ K;exact zr hm ak
   refine pn ?_;have am:=U.bE [0] (Z4 1 6);have an:Sep g E D (Y2n.A u1 [.map O]::_):=Sep.exI (O) (Sep.pI rfl am);have ao:=an.nunfocus0 (q:=4) ⟨rfl,rfl⟩ K;exact lg hm ad (ao.sN 0 5)
 exact zr hm V

instance:Ct 189 @Q3e:=⟨@Q3e,cf189⟩
theorem Z2g{p0:Q0}{p1:Z5}(hS:Q25 a1 a2 a3 a4 a5 a6 b1 oo1 n1 c1 n2 c2 n3 c3 n4 c4 n5 c5 n6 c6 Z6 H1 T0 g w0 pv1 r1 r2 R p0)(Z1:Ln Y3 Y2 Z6)(hL1:Ln b1 oo1 H1)(h1:Q7 a7 c7 T0 w0 p1.Kids):∀r,Q0h p0 p1=some r->
 Cl 168 #[pt Y3 Y2,Q27 a7 c7 p1] w0 (exR r (fun r=>J6 T0 w0 fun T w v=>∃a11 c11,v= .agg (Q1l r.1 a11 c11).toArray/\Sep g T w (R++(Q2 a1 a2 a3 a4 a5 a6 b1 oo1 n1 c1 n2 c2 n3 c3 n4 c4 n5 c5 n6 c6 Z6 H1 pv1 r1 r2 r.2))/\Q62 a11 c11 T w r.1/\True) (fun r=>L8 T0 w0 fun T w v=>v= .iface 91 (Q20 r.1.pos r.1.e)/\Sep g T w (R++(Q2 a1 a2 a3 a4 a5 a6 b1 oo1 n1 c1 n2 c2 n3 c3 n4 c4 n5 c5 n6 c6 Z6 H1 pv1 r1 r2 r.2))/\True)):=by
 intro r hm;refine eN Tryz.func168 Tryz.ntmps168 fun J=>?_;unfold Q0h at hm;refine sq2 (bX (E9 p1 a7 c7) hS ?_);intro _ b2 _ ak;refine aL zv1 ak ?_;intro w2 W _ aa;refine pn ?_;refine O1 hm (fun ad a w3=>∃T1,JR (nf 63) g T0 w2 a w3 T1 (ad ()=some r) [(0,pt Y3 Y2),(3,pt b2 0),(4,pt W 0)] ((Q80 a7 W b2 c7 R p1)++(Q2 a1 a2 a3 a4 a5 a6 b1 oo1 n1 c1 n2 c2 n3 c3 n4 c4 n5 c5 n6 c6 Z6 H1 pv1 r1 r2 p0))) (fun ad hm=>?_) ?_
 . refine sq2 ?_;obtain⟨u1,an,hm⟩:=bindS hm;refine pu ?_;refine pv (r_opn rfl rfl (aa.optV (q:=13) ⟨rfl,rfl⟩ an) underlying85) (cd hm ?_ ?_)<;>intro aK hm
   . refine sq2 (rsS [0,0,0,1,0,1,2,0,0,0,0,0] [0,1,2,3,4,5,6,7,8,9,10,11] aa fun w4 aN ao=>pu ?_);obtain⟨D,ab,hm⟩:=bindS hm;obtain⟨b4,cs1,aq,ar⟩:=ao.optE (q:=13) ⟨rfl,rfl⟩ ab;subst aq;obtain⟨⟨E,I,c8,K,O,c9,U,V,c10⟩,au⟩:=ar.exE;obtain⟨hcs1,av⟩:=au.pE;subst hcs1;have aw:=av.unb;obtain⟨y1,ax,hm⟩:=bindS hm;refine sS [] cf189 (Q3e (aw.bE (Z4 3 13) [16,0,1,2]) (Q1j b4) _ ax) ?_;rintro _ T2 w5 _ ⟨rfl,ai,_⟩;refine pn ?_;refine sq2 (cd hm ?_ ?_)<;>intro aP hm
     . refine sq2 ?_;obtain⟨u3,_,hm⟩:=bindS hm;refine pu ?_;refine pv (P3 (by kernel_rfl) rfl (u:= .agg #[iv 2,iv 0,.int .u32 0,iv y1.1,.bool false,iv 0,.bool false,.bool true,.slice none 0 0])) (pv (P3 (by kernel_rfl) rfl (u:= .agg #[iv u3,iv 2,iv 0,.int .u32 0,iv y1.1,.bool false,iv 0,.bool false,.bool true,.slice none 0 0,.bool true])) (sT 0 ai ?_));intro w6 _ aB;refine nil (B0 [(4,pt W 0)] ⟨rfl,qZt⟩ fun J=>?_);have aC:=aB.bE [14,15,16] (Z4 0 14);have aD:Sep g T2 w6 (U8.A D [iv D.ret,.slice E I c8,.slice K O c9,.slice U V c10,iv D.loops,iv D.breaks]::_):=Sep.exI (E,I,c8,K,O,c9,U,V,c10) (Sep.pI rfl aC);have aE:=aD.optI0 (q:=13) ⟨rfl,rfl⟩ ab;exact re hm (aE.sN 2 12)
     have aF:=ai.bE [14,15,16] (Z4 0 14);have aG:Sep g T2 w5 (U8.A D [iv D.ret,.slice E I c8,.slice K O c9,.slice U V c10,iv D.loops,iv D.breaks]::_):=Sep.exI (E,I,c8,K,O,c9,U,V,c10) (Sep.pI rfl aF);have aI:=aG.optI0 (q:=13) ⟨rfl,rfl⟩ ab;exact je hm (aI.sN 0 14)
   exact je hm (aa.sN 0 14)
 rintro _ w3 ⟨T1,J,hm,rfl,aj,_⟩;refine sq2 (rqS aj (pu ?_));refine qv (fun _ hq=>(hq.elim fun _ hi=>Z7r (kk:=p1.Name) (u:=0) rfl rfl ((aj.keep hi (fun _ h=>h)).getA (i:=9) ⟨rfl,rfl⟩) Z0r underlying82 underlying9 zeroValue3 rfl)) (pn ?_);intro _ _ _ aJ;exact zr hm aJ

instance:Ct 168 @Z2g:=⟨@Z2g,cf168⟩
theorem Q3g{p0:Q0}{p1:Pos}{p2}(hS:Q21 a1 a2 a3 a4 a5 a6 b1 oo1 n1 c1 n2 c2 n3 c3 n4 c4 n5 c5 n6 c6 Z6 H1 T0 g w0 pv1 r1 r2 R p0)(Z1:Ln Y3 Y2 Z6)(hL1:Ln b1 oo1 H1):∀r,L1 p0 p1 p2=some r->
 Cl 167 #[pt Y3 Y2,Q36 p1,iv p2] w0 (exR r (fun r=>J6 T0 w0 (Q81 a2 a3 a4 a5 a6 b1 oo1 n2 c2 n3 c3 n4 c4 n5 c5 n6 c6 Z6 H1 g pv1 r1 r2 R r.1 r.2)) (fun r=>L8 T0 w0 (Q37 a2 a3 a4 a5 a6 b1 oo1 n2 c2 n3 c3 n4 c4 n5 c5 n6 c6 Z6 H1 g pv1 r1 r2 R r.1.pos r.1.e r.2))):=by
 intro r hm;refine eN Tryz.func167 Tryz.ntmps167 fun J=>?_;unfold L1 at hm;exact zr hm hS

instance:Ct 167 @Q3g:=⟨@Q3g,cf167⟩
theorem Q1q{p0:Q0}{p1}(hS:Q21 a1 a2 a3 a4 a5 a6 b1 oo1 n1 c1 n2 c2 n3 c3 n4 c4 n5 c5 n6 c6 Z6 H1 T0 g w0 pv1 r1 r2 R p0)(Z1:Ln Y3 Y2 Z6)(hL1:Ln b1 oo1 H1):∀r,H5 p0 p1=some r->
 Cl 174 #[pt Y3 Y2,iv p1] w0 (J6 T0 w0 fun T w v=>v= .tuple #[iv r.1,.bool r.2]/\Q18 a1 a2 a3 a4 a5 a6 b1 oo1 n1 c1 n2 c2 n3 c3 n4 c4 n5 c5 n6 c6 Z6 H1 T g w pv1 r1 r2 R p0):=by
 intro r hm;refine eN Tryz.func174 Tryz.ntmps174 fun J=>?_;unfold H5 at hm;refine qN ?_;refine qU ?_;refine cB Y9u hm (Q0u (hS.bE ([0,1]++Z4 4 7) [2,3]) hL1) ?_;rintro E _ _ _ _ ⟨_,c7,rfl,I,h1,_⟩ hm;refine aL zv8 I ?_;intro _ _ _ K;refine sT 0 K ?_;intro _ _ O;refine kE ?_;refine rsS [0,1,0,1,0,0,0,0,0,1,0,1,2,0,0,0,0] [0,1,2,3,4,5,6,7,8,9,10,11,12,13,14,15,16] O fun w4 ab D=>pu ?_
 rcases bc hm with⟨U,hm⟩|⟨U,hm⟩
 . obtain⟨_,V,hm⟩:=bindS hm;refine sS [(1,iv E.1.Elem)] Q9z (V7 (D.bE (Z4 1 9++[0]) [10,11]) hL1 _ V) ?_;have W:KD [(12,[3,9,11])]:=⟨qZt⟩;exact zo hm
 have W:KD [(12,[3,9,11])]:=⟨qZt⟩;exact zr hm D

instance:Ct 174 @Q1q:=⟨@Q1q,cf174⟩
theorem Y4{p0:Q0}{p1}(hS:Q21 a1 a2 a3 a4 a5 a6 b1 oo1 n1 c1 n2 c2 n3 c3 n4 c4 n5 c5 n6 c6 Z6 H1 T0 g w0 pv1 r1 r2 R p0)(Z1:Ln Y3 Y2 Z6)(hL1:Ln b1 oo1 H1):∀r,X4 p0 p1=some r->
 Cl 142 #[pt Y3 Y2,iv p1] w0 (J6 T0 w0 fun T w v=>v= .bool r/\Q18 a1 a2 a3 a4 a5 a6 b1 oo1 n1 c1 n2 c2 n3 c3 n4 c4 n5 c5 n6 c6 Z6 H1 T g w pv1 r1 r2 R p0):=by
 intro r hm;refine eN Tryz.func142 Tryz.ntmps142 fun J=>?_;unfold X4 at hm;exact zr hm hS

instance:Ct 142 @Y4:=⟨@Y4,Q2f⟩
theorem Q9g{p0:Aa}(hS:Sep g T0 w0 [X0 R]):∀r,Z1h p0=some r->
 Cl 191 #[Q14 p0.toArray] w0 (Q29 T0 w0 g R r):=by
 intro r hm;refine eN Tryz.func191 Tryz.ntmps191 fun J=>?_;unfold Z1h at hm;exact zr hm hS

instance:Ct 191 @Q9g:=⟨@Q9g,cf191⟩
theorem Q4p{p0:Z5}(hS:Sep g T0 w0 [X0 R])(h1:Q7 a1 c1 T0 w0 p0.Kids):∀r,Q3m p0=some r->
 Cl 143 #[Q27 a1 c1 p0] w0 (Q19 T0 w0 g R r):=by
 intro r hm;refine eN Tryz.func143 Tryz.ntmps143 fun J=>?_;unfold Q3m at hm;refine sq2 (bX (E9 p0 a1 c1) hS ?_);intro _ _ _ D;refine kA ?_;exact fkC (d:=10) (c:=((p0.Kind==1)&&(p0.Num==0))) 4 [] rfl (fun hk=>zw (p0.Kind==1) hk) fun J=>re hm (D.sE [1])

instance:Ct 143 @Q4p:=⟨@Q4p,Y9t⟩
theorem Q3d(hS:Sep g T0 w0 [X0 R]):∀r,Q2o=some r->
 Cl 144 #[] w0 (J6 T0 w0 fun T w v=>∃a1 c1,v= .agg (U4 r a1 c1).toArray/\Sep g T w (R++[])/\Q11 a1 c1 T w r.Kids/\True):=by
 intro r hm;refine eN Tryz.func144 Tryz.ntmps144 fun J=>?_;unfold Q2o at hm;exact zr hm hS

instance:Ct 144 @Q3d:=⟨@Q3d,X3e⟩
theorem Z1o{p0:Q0}{p1:Z5}{p2:Y0}{p3:Y0}(hS:Q21 a1 a2 a3 a4 a5 a6 b1 oo1 n1 c1 n2 c2 n3 c3 n4 c4 n5 c5 n6 c6 Z6 H1 T0 g w0 pv1 r1 r2 R p0)(Z1:Ln Y3 Y2 Z6)(hL1:Ln b1 oo1 H1)(h1:Q7 a7 c7 T0 w0 p1.Kids)(h2:Q62 a8 c8 T0 w0 p2)(h3:Q62 a9 c9 T0 w0 p3):∀r,W6 p0 p1 p2 p3=some r->
 Cl 192 #[pt Y3 Y2,Q27 a7 c7 p1,Q74 a8 c8 p2,Q74 a9 c9 p3] w0 (exR r (fun r=>J6 T0 w0 fun T w v=>∃a21 c21,v= .agg (Q1l r a21 c21).toArray/\Sep g T w (R++X5 p0 Z6 H1 b1 oo1 a1 n1 c1 a2 n2 c2 a3 n3 c3 a4 n4 c4 r1 r2 a5 n5 c5 a6 n6 c6 pv1)/\Q62 a21 c21 T w r/\True) (fun r=>L8 T0 w0 (Q49 a1 a2 a3 a4 a5 a6 b1 oo1 n1 c1 n2 c2 n3 c3 n4 c4 n5 c5 n6 c6 Z6 H1 g pv1 r1 r2 R r.pos r.e p0))):=by
 intro r hm;refine eN Tryz.func192 Tryz.ntmps192 fun J=>?_;unfold W6 at hm;refine sq2 (bX (E9 p1 a7 c7) hS ?_);intro _ b2 _ aB;refine bX (Q1l p2 a8 c8) aB ?_;intro _ b3 _ aC;refine bX (Q1l p3 a9 c9) aC ?_;intro _ b4 _ aD;refine aL zv1 aD ?_;intro w4 D _ aF;refine pn ?_;refine O1 hm (fun ai a E=>∃I V K W c10 b7 O ab c11,JR (nf 71) g T0 w4 a E I (ai K O=some r) [(0,pt Y3 Y2),(5,pt b2 0),(6,pt b3 0),(7,pt b4 0),(8,pt D 0),(9,pt V 0),(10,pt b7 0)] ([K7 D zv1,Q33 a9 b4 c9 p3,Q33 a8 b3 c8 p2,Q22 a7 b2 c7 p1,X0 R]++(X5 p0 Z6 H1 b1 oo1 a1 n1 c1 a2 n2 c2 a3 n3 c3 a4 n4 c4 r1 r2 a5 n5 c5 a6 n6 c6 pv1++[Q22 W V c10 K,Q22 ab b7 c11 O]))/\Q7 W c10 I E K.Kids/\Q7 ab c11 I E O.Kids) (fun ai hm=>?_) ?_
 . refine rtS [0,1,0,1,0,1,0,1,2,2,2,2] [0,1,2,3,4,5,6,7,8,9,10,11] aF fun w6 bo aG=>?_;have dd:KD [(8,[]),(9,[]),(10,[1,3,8,9]),(11,[1,3,5,7,8,9,10])]:=⟨qZt⟩;exact zr hm aG
 rintro _ E ⟨I,V,K,W,c10,b7,O,ab,c11,⟨J,hm,rfl,aI,_⟩,h4,h5⟩;refine qU ?_;refine cB cf191 hm (Q9g (aI.bE ([0,1,2]++Z4 4 13) [])) ?_;rintro y1 _ T2 _ _ ⟨rfl,aN,_⟩ hm;refine pv (P3 (by kernel_rfl) rfl (u:= .agg #[iv 6,iv y1,.int .u32 0,iv 0,.bool false,iv 0,.bool false,.bool false,.slice none 0 0])) (aL zv3 aN ?_);intro _ ak _ aP;refine sT 0 aP ?_;intro aQ _ aR;refine pn ?_;have aS:=aR.nilO X6 181;refine O1 hm (fun am a an=>∃T3 U ad n7 c14,JR (nf 71) g T2 aQ a an T3 (am U=some r) [(8,pt D 0),(11,pt ak 0)] ([Q73 ad n7 c14 U.Kids,Q42 ad ak n7 c14 U,K7 D zv1,X0 R]++X5 p0 Z6 H1 b1 oo1 a1 n1 c1 a2 n2 c2 a3 n3 c3 a4 n4 c4 r1 r2 a5 n5 c5 a6 n6 c6 pv1)) (fun am hm=>?_) ?_
 . refine blk (qU ?_);refine cB Q2f hm (Y4 (aS.bE (Z4 0 6++[16,17]) (Z4 6 10)) Z1 hL1) ?_;rintro _ _ _ _ _ ⟨rfl,ap,_⟩ hm;refine pu ?_
   rcases bc hm with⟨aT,hm⟩|⟨aT,hm⟩
   . refine pu ?_;refine cB Y9t hm (Q4p (ap.bE (Z4 0 18) []) (mC h5)) ?_;rintro _ _ _ _ _ ⟨rfl,aq,_⟩ hm;refine cd hm ?_ ?_<;>intro bp hm
     . refine rsS [0,1,2,2,0,2] [0,1,2,3,4,5] aq fun bq bt aU=>?_;obtain⟨y4,aV,hm⟩:=bindS hm;refine sS [(1,.agg (U4 p2.term a8 c8).toArray)] X3e (Q3d (aU.bE ([0,1,2,5]++Z4 8 10++[4]) []) _ aV) ?_;rintro _ _ _ _ ⟨aW,c15,rfl,aX,_,_⟩;have au:HL 1 X6 ([p2.term,y4]:List Y9) [(U4 p2.term a8 c8),(U4 y4 aW c15)]:=⟨qZt⟩;have dd:KD [(2,[]),(3,[1,2]),(5,[1,2,3])]:=⟨qZt⟩;exact zr hm aX
     refine qU ?_;refine cB Q2f hm (Y4 (aq.bE (Z4 0 8) (Z4 8 10)) Z1 hL1) ?_;rintro _ _ _ _ _ ⟨rfl,av,_⟩ hm;refine pu ?_
     rcases bc hm with⟨aY,hm⟩|⟨aY,hm⟩
     . refine pu ?_;refine cB Y9t hm (Q4p (av.bE (Z4 0 18) []) (mC h4)) ?_;rintro _ _ _ _ _ ⟨rfl,aw,_⟩ hm;refine cd hm ?_ ?_<;>intro bu hm
       . refine rsS [2,0,1,2,0,2] [1,2,0,3,4,5] aw fun bv bw aZ=>?_;obtain⟨y7,ba,hm⟩:=bindS hm;refine sS [(2,.agg (U4 p3.term a9 c9).toArray)] X3e (Q3d (aZ.bE ([0,1,2,5]++Z4 8 10++[3]) []) _ ba) ?_;rintro _ _ _ _ ⟨be,c17,rfl,bf,_,_⟩;have au:HL 1 X6 ([y7,p3.term]:List Y9) [(U4 y7 be c17),(U4 p3.term a9 c9)]:=⟨qZt⟩;have dd:KD [(0,[]),(3,[0,2]),(5,[0,2,3])]:=⟨qZt⟩;exact zr hm bf
       exact zr hm aw
     exact zr hm av
   refine pn ?_;refine cnd (b:=false) rfl (fun h=>nomatch h) (fun _=>qU ?_);refine cB Q2f hm (Y4 (ap.bE (Z4 0 8) (Z4 8 10)) Z1 hL1) ?_;rintro _ _ _ _ _ ⟨rfl,ay,_⟩ hm;refine pu ?_
   rcases bc hm with⟨bg,hm⟩|⟨bg,hm⟩
   . refine pu ?_;refine cB Y9t hm (Q4p (ay.bE (Z4 0 18) []) (mC h4)) ?_;rintro _ _ _ _ _ ⟨rfl,az,_⟩ hm;refine cd hm ?_ ?_<;>intro bz hm
     . refine rsS [2,0,1,2,0,2] [1,2,0,3,4,5] az fun bA bB bh=>?_;obtain⟨aA,bi,hm⟩:=bindS hm;refine sS [(2,.agg (U4 p3.term a9 c9).toArray)] X3e (Q3d (bh.bE ([0,1,2,5]++Z4 8 10++[3]) []) _ bi) ?_;rintro _ _ _ _ ⟨bj,c19,rfl,bk,_,_⟩;have au:HL 1 X6 ([aA,p3.term]:List Y9) [(U4 aA bj c19),(U4 p3.term a9 c9)]:=⟨qZt⟩;have dd:KD [(0,[]),(3,[0,2]),(5,[0,2,3])]:=⟨qZt⟩;exact zr hm bk
     exact zr hm az
   exact zr hm ay
 rintro _ an ⟨T3,U,ad,n7,c14,J,hm,rfl,bm,_⟩;exact zr hm bm

instance:Ct 192 @Z1o:=⟨@Z1o,cf192⟩
theorem Q6z{p0:Q0}{p1:Y9}{p2:Y9}{p3 p4}(hS:Q21 a1 a2 a3 a4 a5 a6 b1 oo1 n1 c1 n2 c2 n3 c3 n4 c4 n5 c5 n6 c6 Z6 H1 T0 g w0 pv1 r1 r2 R p0)(Z1:Ln Y3 Y2 Z6)(hL1:Ln b1 oo1 H1)(h1:Q11 a7 c7 T0 w0 p1.Kids)(h2:Q11 a8 c8 T0 w0 p2.Kids):∀r,Q0v p0 p1 p2 p3 p4=some r->
 Cl 175 #[pt Y3 Y2,Q70 a7 c7 p1,Q70 a8 c8 p2,iv p3,iv p4] w0 (J6 T0 w0 (Q61 a1 a2 a3 a4 a5 a6 b1 oo1 n1 c1 n2 c2 n3 c3 n4 c4 n5 c5 n6 c6 Z6 H1 g pv1 r1 r2 R r p0 r.Kids)):=by
 intro r hm;refine eN Tryz.func175 Tryz.ntmps175 fun J=>?_;unfold Q0v at hm;refine sq2 (bX (U4 p1 a7 c7) hS ?_);intro _ _ _ E;refine bX (U4 p2 a8 c8) E ?_;intro _ _ _ I;refine aL zv3 I ?_;intro _ _ _ K;refine kE ?_;refine rtS [0,0,0,0,1,0,2,1,1,2,0,2] [0,1,2,3,4,5,7,8,6,9,10,11] K fun w4 af D=>?_;obtain⟨O,U,hm⟩:=bindS hm;refine tF [6,9] ?_;refine⟨?_,?_,qZt⟩
 . refine brW [9,10,11] [1,1,0] ?_;refine oS Q9z (V7 (D.bE ([0,3,4]++Z4 7 7++[1,2]) [5,6]) hL1 _ U) ?_;rintro _ _ _ _ ⟨rfl,V,_⟩;refine t1W [9] [10,11] [0,0] ?_;refine obS (r:=X6) (l:=([p1,p2]:List Y9)) (css:=[(U4 p1 a7 c7),(U4 p2 a8 c8)]) V ⟨(V9 (x:=p1) (mC h1):X6.rp _ _ _ _),(V9 (x:=p2) (mC h2):X6.rp _ _ _ _),qZt⟩ ?_;intro _ W n7 c9 _ ab;refine pu ?_;refine t0 rfl qZt (fun _=>P3 (by kernel_rfl) rfl (u:= .agg #[iv 14,iv p4,.int .u32 0,iv 0,.bool false,iv O,.bool false,.bool true,.slice W n7 c9])) rfl (t1W [11] [] [] ?_);refine osT 1 ab ?_;intro _ _ ac;refine pn ?_;obtain⟨_,_,ad,h3,rfl⟩:=ac.sl 0;exact re hm (ad.sE ([2,3,13,14]++Z4 4 7))
 have ag:HL 1 X6 ([p1,p2]:List Y9) [(U4 p1 a7 c7),(U4 p2 a8 c8)]:=⟨qZt⟩;have dd:KD [(6,[4]),(9,[7,8]),(11,[4,6,7,8,9])]:=⟨qZt⟩;exact zr hm D

instance:Ct 175 @Q6z:=⟨@Q6z,cf175⟩
theorem Z1n{p0:Q0}{p1:Pos}{p2:Y0}{p3:Y9}{p4}(hS:Q21 a1 a2 a3 a4 a5 a6 b1 oo1 n1 c1 n2 c2 n3 c3 n4 c4 n5 c5 n6 c6 Z6 H1 T0 g w0 pv1 r1 r2 R p0)(Z1:Ln Y3 Y2 Z6)(hL1:Ln b1 oo1 H1)(h1:Q62 a7 c7 T0 w0 p2)(h2:Q11 a8 c8 T0 w0 p3.Kids):∀r,L2 p0 p1 p2 p3 p4=some r->
 Cl 193 #[pt Y3 Y2,Q36 p1,Q74 a7 c7 p2,Q70 a8 c8 p3,iv p4] w0 (exR r (fun r=>J6 T0 w0 fun T w v=>∃a10 c10,v= .agg (Q1l r a10 c10).toArray/\Sep g T w (R++X5 p0 Z6 H1 b1 oo1 a1 n1 c1 a2 n2 c2 a3 n3 c3 a4 n4 c4 r1 r2 a5 n5 c5 a6 n6 c6 pv1)/\Q62 a10 c10 T w r/\True) (fun r=>L8 T0 w0 (Q49 a1 a2 a3 a4 a5 a6 b1 oo1 n1 c1 n2 c2 n3 c3 n4 c4 n5 c5 n6 c6 Z6 H1 g pv1 r1 r2 R r.pos r.e p0))):=by
 intro r hm;refine eN Tryz.func193 Tryz.ntmps193 fun J=>?_;unfold L2 at hm;refine sq2 (bX [iv p1.Line,iv p1.Col] hS ?_);intro _ _ _ E;refine bX (Q1l p2 a7 c7) E ?_;intro _ _ _ I;refine bX (U4 p3 a8 c8) I ?_;intro _ _ _ K;refine aL zv1 K ?_;intro _ _ _ O;refine kA ?_;refine cB cf174 hm (Q1q (O.bE (Z4 0 5) (Z4 5 10)) Z1 hL1) ?_;rintro _ _ _ _ _ ⟨rfl,D,_⟩ hm;refine pn ?_;refine sq2 (sq2 (cd hm ?_ ?_))<;>intro V hm
 . exact zr hm D
 refine kE ?_;refine rsS [0,1,0,0,1,1,0,0,2,0,2] [0,1,2,3,4,5,6,7,8,9,10] D fun W aa U=>?_;have dd:KD [(8,[4,5]),(10,[1,4,5,8])]:=⟨qZt⟩;exact zr hm U

instance:Ct 193 @Z1n:=⟨@Z1n,cf193⟩
theorem U2{p0:Q0}{p1:Z5}{p2:Y0}{p3}(hS:Q21 a1 a2 a3 a4 a5 a6 b1 oo1 n1 c1 n2 c2 n3 c3 n4 c4 n5 c5 n6 c6 Z6 H1 T0 g w0 pv1 r1 r2 R p0)(Z1:Ln Y3 Y2 Z6)(hL1:Ln b1 oo1 H1)(h1:Q7 a7 c7 T0 w0 p1.Kids)(h2:Q62 a8 c8 T0 w0 p2):∀r,E4 p0 p1 p2 p3=some r->
 Cl 106 #[pt Y3 Y2,Q27 a7 c7 p1,Q74 a8 c8 p2,iv p3] w0 (exR r (fun r=>J6 T0 w0 (Q61 a1 a2 a3 a4 a5 a6 b1 oo1 n1 c1 n2 c2 n3 c3 n4 c4 n5 c5 n6 c6 Z6 H1 g pv1 r1 r2 R r p0 r.Kids)) (fun r=>L8 T0 w0 (Q49 a1 a2 a3 a4 a5 a6 b1 oo1 n1 c1 n2 c2 n3 c3 n4 c4 n5 c5 n6 c6 Z6 H1 g pv1 r1 r2 R r.pos r.e p0))):=by
 intro r hm;refine eN Tryz.func106 Tryz.ntmps106 fun J=>?_;unfold E4 at hm;refine sq2 (bX (E9 p1 a7 c7) hS ?_);intro _ D _ ad;refine bX (Q1l p2 a8 c8) ad ?_;intro _ E _ ae;refine aL zv3 ae ?_;intro _ I _ af;refine kE ?_;refine blk (qU ?_);refine cB Q2f hm (Y4 (af.bE (Z4 0 4) (Z4 4 10)) Z1 hL1) ?_;rintro _ _ _ _ _ ⟨rfl,K,_⟩ hm;refine pu ?_
 rcases bc hm with⟨ag,hm⟩|⟨ag,hm⟩
 . refine pu ?_;refine cB Y9t hm (Q4p (K.bE (Z4 0 14) []) (mC h1)) ?_;rintro _ _ _ _ _ ⟨rfl,O,_⟩ hm;refine cd hm ?_ ?_<;>intro aj hm
   . exact zr hm O
   refine qU ?_;refine cB Q2f hm (Y4 (O.bE (Z4 0 4) (Z4 4 10)) Z1 hL1) ?_;rintro U _ _ _ _ ⟨rfl,V,_⟩ hm;refine pu ?_;refine fkC (d:=27) (c:=(U&&(p2.n==p3))) 5 [(0,pt Y3 Y2),(3,iv p3),(5,pt D 0),(6,pt E 0),(8,pt I 0)] rfl (fun hk=>zw U hk) fun J=>?_;refine cd hm ?_ ?_<;>intro ak hm
   . exact zr hm V
   refine qU ?_;refine cB Q2f hm (Y4 (V.bE (Z4 0 4) (Z4 4 10)) Z1 hL1) ?_;rintro W _ _ _ _ ⟨rfl,ah,_⟩ hm;refine pu ?_;exact fkC (d:=39) (c:=((!W)&&(p2.n==1))) 4 [(5,pt D 0),(6,pt E 0),(8,pt I 0)] rfl (fun hk=>zw (!W) hk) fun J=>zr hm ah
 refine pn ?_;refine cnd (b:=false) rfl (fun h=>nomatch h) (fun _=>qU ?_);refine cB Q2f hm (Y4 (K.bE (Z4 0 4) (Z4 4 10)) Z1 hL1) ?_;rintro y7 _ _ _ _ ⟨rfl,ab,_⟩ hm;refine pu ?_;refine fkC (d:=27) (c:=(y7&&(p2.n==p3))) 5 [(0,pt Y3 Y2),(3,iv p3),(5,pt D 0),(6,pt E 0),(8,pt I 0)] rfl (fun hk=>zw y7 hk) fun J=>?_;refine cd hm ?_ ?_<;>intro am hm
 . exact zr hm ab
 refine qU ?_;refine cB Q2f hm (Y4 (ab.bE (Z4 0 4) (Z4 4 10)) Z1 hL1) ?_;rintro y8 _ _ _ _ ⟨rfl,ai,_⟩ hm;refine pu ?_;exact fkC (d:=39) (c:=((!y8)&&(p2.n==1))) 4 [(5,pt D 0),(6,pt E 0),(8,pt I 0)] rfl (fun hk=>zw (!y8) hk) fun J=>zr hm ai

instance:Ct 106 @U2:=⟨@U2,Z3y⟩
theorem Q2p{p0:Q0}{p1}(hS:Q21 a1 a2 a3 a4 a5 a6 b1 oo1 n1 c1 n2 c2 n3 c3 n4 c4 n5 c5 n6 c6 Z6 H1 T0 g w0 pv1 r1 r2 R p0)(Z1:Ln Y3 Y2 Z6)(hL1:Ln b1 oo1 H1):∀r,E6 p0 p1=some r->
 Cl 195 #[pt Y3 Y2,iv p1] w0 (J6 T0 w0 fun T w v=>v=iv r/\Q18 a1 a2 a3 a4 a5 a6 b1 oo1 n1 c1 n2 c2 n3 c3 n4 c4 n5 c5 n6 c6 Z6 H1 T g w pv1 r1 r2 R p0):=by
 intro r hm;refine eN Tryz.func195 Tryz.ntmps195 fun J=>?_;unfold E6 at hm;exact zr hm hS

instance:Ct 195 @Q2p:=⟨@Q2p,cf195⟩
theorem W3{p0:Q0}{p1:Z5}{p2:Y0}{p3}(hS:Q21 a1 a2 a3 a4 a5 a6 b1 oo1 n1 c1 n2 c2 n3 c3 n4 c4 n5 c5 n6 c6 Z6 H1 T0 g w0 pv1 r1 r2 R p0)(Z1:Ln Y3 Y2 Z6)(hL1:Ln b1 oo1 H1)(h1:Q7 a7 c7 T0 w0 p1.Kids)(h2:Q62 a8 c8 T0 w0 p2):∀r,N3 p0 p1 p2 p3=some r->
 Cl 184 #[pt Y3 Y2,Q27 a7 c7 p1,Q74 a8 c8 p2,iv p3] w0 (exR r (fun r=>J6 T0 w0 (Q61 a1 a2 a3 a4 a5 a6 b1 oo1 n1 c1 n2 c2 n3 c3 n4 c4 n5 c5 n6 c6 Z6 H1 g pv1 r1 r2 R r p0 r.Kids)) (fun r=>L8 T0 w0 (Q49 a1 a2 a3 a4 a5 a6 b1 oo1 n1 c1 n2 c2 n3 c3 n4 c4 n5 c5 n6 c6 Z6 H1 g pv1 r1 r2 R r.pos r.e p0))):=by
 intro r hm;refine eN Tryz.func184 Tryz.ntmps184 fun J=>?_;unfold N3 at hm;refine sq2 (bX (E9 p1 a7 c7) hS ?_);intro _ _ _ I;refine bX (Q1l p2 a8 c8) I ?_;intro _ _ _ K;refine aL zv3 K ?_;intro _ _ _ O;refine kA ?_;refine cP Z3y hm (U2 (O.bE [0,3] (Z4 4 10)) Z1 hL1 (mC h1) (mC h2)) ?_ ?_
 . rintro _ _ _ _ _ ⟨rfl,U,_⟩ hm;exact pe hm (U.sN 1 11)
 rintro D _ _ _ _ ⟨V,c9,rfl,W,h3,_⟩ hm;refine aL zv3 W ?_;intro _ _ _ aa;refine sT 0 aa ?_;intro _ _ E;refine pn ?_;refine sq2 (sq2 (cd hm ?_ ?_))<;>intro ah hm
 . refine sq2 (bS (r:=X6) (l:=([D]:List Y9)) (css:=[(U4 D V c9)]) E ⟨(V9 (x:=D) (mC h3):X6.rp _ _ _ _),qZt⟩ ?_);intro _ ab n7 c10 _ ad;refine pv (P3 (by kernel_rfl) rfl (u:= .agg #[iv 17,iv 0,.int .u32 0,iv 0,.bool false,iv 0,.bool false,.bool false,.slice ab n7 c10])) (sT 2 ad ?_);intro _ _ ae;refine pn ?_;obtain⟨_,_,af,_,rfl⟩:=ae.sl 0;exact re hm (af.sN 3 11)
 refine kE ?_;refine sT 1 E ?_;intro _ _ ag;exact re hm (ag.sN 2 11)

instance:Ct 184 @W3:=⟨@W3,X3d⟩
theorem Q3r{p0:Q0}{p1:Pos}{p2:Y0}(hS:Q21 a1 a2 a3 a4 a5 a6 b1 oo1 n1 c1 n2 c2 n3 c3 n4 c4 n5 c5 n6 c6 Z6 H1 T0 g w0 pv1 r1 r2 R p0)(Z1:Ln Y3 Y2 Z6)(hL1:Ln b1 oo1 H1)(h1:Q62 a7 c7 T0 w0 p2):∀r,H0 p0 p1 p2=some r->
 Cl 145 #[pt Y3 Y2,Q36 p1,Q74 a7 c7 p2] w0 (exR r (fun r=>J6 T0 w0 fun T w v=>∃a15 c15 a16 n11 c16,v= .agg (Q1l r.1 a15 c15).toArray/\Sep g T w (R++X5 r.2 Z6 H1 b1 oo1 a16 n11 c16 a2 n2 c2 a3 n3 c3 a4 n4 c4 r1 r2 a5 n5 c5 a6 n6 c6 pv1)/\Q62 a15 c15 T w r.1/\True) (fun r=>L8 T0 w0 (Q37 a2 a3 a4 a5 a6 b1 oo1 n2 c2 n3 c3 n4 c4 n5 c5 n6 c6 Z6 H1 g pv1 r1 r2 R r.1.pos r.1.e r.2))):=by
 intro r hm;refine eN Tryz.func145 Tryz.ntmps145 fun J=>?_;unfold H0 at hm;refine sq2 (bX [iv p1.Line,iv p1.Col] hS ?_);intro _ b2 _ aM;refine bX (Q1l p2 a7 c7) aM ?_;intro _ b3 _ aN;refine aL zv1 aN ?_;intro w3 E _ au;refine pn ?_;refine sq2 (sq2 (cd hm ?_ ?_))<;>intro bJ hm
 . exact zr hm au
 refine pn ?_;refine O1 hm (fun av a w5=>∃T1 O I a8 c8,JR (nf 78) g T0 w3 a w5 T1 (av I=some r) [(0,pt Y3 Y2),(4,pt b2 0),(5,pt b3 0),(6,pt E 0),(7,pt O 0)] ([K7 E zv1,Q33 a7 b3 c7 p2,K7 b2 [iv p1.Line,iv p1.Col],X0 R]++(X5 p0 Z6 H1 b1 oo1 a1 n1 c1 a2 n2 c2 a3 n3 c3 a4 n4 c4 r1 r2 a5 n5 c5 a6 n6 c6 pv1++[K7 O (Y8h I a8 c8)]))/\Q50 a8 c8 T1 w5 I.Fields) (fun av hm=>?_) ?_
 . refine rtS [0,0,0,1,0,1,2,0,0,0,2,2,0] [0,1,2,3,4,5,6,7,8,9,10,11,12] au fun w6 bL aw=>?_;obtain⟨_,ax,hm⟩:=bindS hm;refine tF [6,10] ?_;refine⟨?_,?_,qZt⟩
   . refine brW [7,8,9,10,11,12] [0,0] ?_;refine oS Y9u (Q0u (aw.bE (Z4 0 5++Z4 7 7) [5,6]) hL1 _ ax) ?_;rintro _ T2 w7 aS ⟨a9,c9,rfl,ah,h3,_⟩;refine t1W [10] [11,12] [] ?_;refine oaL zv8 ah ?_;intro w8 b6 aW ai;refine t1W [11] [12] [] ?_;refine osT 0 ai ?_;intro w9 aY aj;refine pu ?_;exact je hm (aj.sE (Z4 1 5++[13,14]++Z4 6 7++[0]))
   refine brW [6,7,8,9,11,12] [] ?_;refine oaL zv8 aw ?_;intro w7 b6 aS ah;refine t1W [6] [7,8,9,11,12] [0,0] ?_;refine oS Y9u (Q0u (ah.bE (Z4 0 6++Z4 8 7) [6,7]) hL1 _ ax) ?_;rintro _ T2 w8 aW ⟨a9,c9,rfl,ai,h3,_⟩;refine t1W [11] [12] [] ?_;refine osT 0 ai ?_;intro w9 aY aj;refine pu ?_;exact je hm (aj.sE (Z4 1 5++[13,14]++Z4 6 7++[0]))
 rintro _ w5 ⟨T1,O,I,a8,c8,⟨J,hm,rfl,aZ,_⟩,h2⟩;refine sq2 (rsS [0,0,0,1,0,1,2,0] [0,1,2,3,4,5,6,7] aZ fun bM bN ba=>?_);obtain⟨U,be,hm⟩:=bindS hm;refine sS [] Q9z (V7 (ba.bE (Z4 0 5++Z4 7 8) [5,6]) hL1 _ be) ?_;rintro _ T3 _ _ ⟨rfl,ay,_⟩;refine pn ?_;refine sq2 (blk (sq2 (cd hm ?_ ?_)))<;>intro bO hm
 . refine sq2 (aL zv3 ay ?_);intro _ b7 _ bg;refine sT 0 bg ?_;intro bh _ bi;refine pn ?_;refine O1 hm (fun aA a ak=>∃T4 D K c10,JR (nf 78) g T3 bh a ak T4 (aA D=some r) [(0,pt Y3 Y2),(4,pt b2 0),(6,pt E 0),(7,pt O 0),(10,pt b7 0)] [Q75 K b7 c10 D,K7 E zv1,K7 b2 [iv p1.Line,iv p1.Col],X0 R,Z6 [pt b1 oo1,.slice a2 n2 c2,.slice a3 n3 c3,.slice a4 n4 c4,iv p0.u.Main,.map r1,.map r2,.slice a5 n5 c5,.slice a6 n6 c6,pv1],F5 Q1v 47 (.slice a2 n2 c2) p0.u.Globals,F5 (rSl (N1 .u8)) 93 (.slice a3 n3 c3) p0.u.Data,F5 Q7q 45 (.slice a4 n4 c4) p0.u.Codes,Q88 r1 p0.globals,Q88 r2 p0.codes,F5 (N1 .i64) 3 (.slice a5 n5 c5) p0.gtypes,F5 Q4k 173 (.slice a6 n6 c6) p0.signs,K7 O (Y8h I a8 c8),H1 [.slice a1 n1 c1],F5 P6 125 (.slice a1 n1 c1) p0.t.list]/\Q11 K c10 T4 ak D.Kids) (fun aA hm=>?_) ?_
   . have bP:HL 1 X6 ([p2.term]:List Y9) [(U4 p2.term a7 c7)]:=⟨qZt⟩;have dd:KD [(6,[3,5])]:=⟨qZt⟩;exact zr hm bi
   rintro _ ak ⟨T4,D,K,c10,⟨J,hm,rfl,bj,_⟩,_⟩;refine sq2 (Z1p [0,1,0,1,2,1,0,2] [0,1,2,3,5,4,6,7] bj (U5 (Q0s (U5 (C8)))) fun bQ bR aC=>pu ?_);obtain⟨y3,aD,hm⟩:=bindS hm
   rcases y3 with e1|y3
   . have hm:=G0 hm;refine s2 [(5,.agg (U4 D K c10).toArray)] rfl qZt rfl (by kernel_rfl) (Z0k cf167 rfl (Q3g (p0:=p0) (p1:=p1) (p2:=I.Elem) (aC.bE [1,3,0,12,2] ([4,13,14]++Z4 5 7)) Z1 hL1 _ aD) rfl fun v4 T7 bW bY bk=>?_);obtain⟨_,_,c13,rfl,bm,_⟩:=bk;exact pe hm (bm.sE ([1]++Z4 5 10))
   have hm:=C1 hm;refine sS [(5,.agg (U4 D K c10).toArray)] cf167 (Q3g (aC.bE [1,3,0,12,2] ([4,13,14]++Z4 5 7)) Z1 hL1 _ aD) ?_;rintro _ _ _ _ ⟨_,_,c12,rfl,bn,_⟩;refine pu ?_;refine s0 rfl qZt (fun _=>P3 (by kernel_rfl) rfl (u:= .agg #[iv y3.1,iv D.Kind,iv D.Fn,.int .u32 D.Num,iv D.Var,.bool D.Global,iv D.Size,.bool D.Post,.bool D.Ptr,sv K D.Kids c10,.bool false])) rfl (s2W [0] ?_);refine osT 0 bn ?_;intro _ _ bo;exact re hm (bo.sE ([1]++Z4 5 10))
 refine sq2 (rsS [0,0,0,1,0,1,2,0,0] [0,1,2,3,4,5,6,7,8] ay fun bZ b0 bp=>?_);obtain⟨_,bq,hm⟩:=bindS hm;refine sS [] cf75 (Q1a (bp.bE (Z4 0 12) [13,14]) hL1 _ bq) ?_;rintro _ T8 bu _ ⟨rfl,aE,_⟩;refine cd hm ?_ ?_<;>intro b8 hm
 . have dd:KD [(6,[3,5])]:=⟨qZt⟩;exact zr hm aE
 refine kD ?_;refine O1 hm (fun aF a aG=>∃aI V,JR (nf 78) g T8 bu a aG aI (aF V=some r) [(0,pt Y3 Y2),(5,pt b3 0),(6,pt E 0),(9,iv U),(11,iv V)] [K7 E zv1,Q33 a7 b3 c7 p2,X0 R,Z6 [pt b1 oo1,.slice a2 n2 c2,.slice a3 n3 c3,.slice a4 n4 c4,iv p0.u.Main,.map r1,.map r2,.slice a5 n5 c5,.slice a6 n6 c6,pv1],F5 Q1v 47 (.slice a2 n2 c2) p0.u.Globals,F5 (rSl (N1 .u8)) 93 (.slice a3 n3 c3) p0.u.Data,F5 Q7q 45 (.slice a4 n4 c4) p0.u.Codes,Q88 r1 p0.globals,Q88 r2 p0.codes,F5 (N1 .i64) 3 (.slice a5 n5 c5) p0.gtypes,F5 Q4k 173 (.slice a6 n6 c6) p0.signs,H1 [.slice a1 n1 c1],F5 P6 125 (.slice a1 n1 c1) p0.t.list]) (fun aF hm=>?_) ?_
 . have dd:KD [(6,[3,5])]:=⟨qZt⟩;exact zr hm aE
 rintro _ aG ⟨aI,V,J,hm,rfl,bv,_⟩;refine sq2 (rtS [0,0,0,0,2,0,1,2,0,0,2] [0,1,2,3,5,6,4,7,8,9,10] bv fun b9 cc aJ=>?_);obtain⟨y6,aK,hm⟩:=bindS hm;refine tF [4,7] ?_;refine⟨?_,?_,qZt⟩
 . refine brW [7,8,9,10] [] ?_;refine oS Q2f (Y4 (aJ.bE [0,2,1] ([3,11,12]++Z4 4 7)) Z1 hL1 _ aK) ?_;rintro _ bw bz bA ⟨rfl,ao,_⟩;refine t1W [7] [8,9,10] [0] ?_;refine obS (r:=X6) (l:=([p2.term]:List Y9)) (css:=[(U4 p2.term a7 c7)]) ao ⟨(V9 (x:=p2.term) (mC h1):X6.rp _ _ _ _),qZt⟩ ?_;intro bB W aa c14 bC ap;refine pu ?_;refine t0 rfl qZt (fun _=>P3 (by kernel_rfl) rfl (u:= .agg #[iv 3,iv 0,.int .u32 0,iv 0,.bool false,iv U,.bool false,.bool y6,.slice W aa c14])) rfl (t0 rfl qZt (fun _=>P3 (by kernel_rfl) rfl (u:= .agg #[iv V,iv 3,iv 0,.int .u32 0,iv 0,.bool false,iv U,.bool false,.bool y6,.slice W aa c14,.bool false])) rfl (t1W [10] [] [] ?_));refine osT 1 ap ?_;intro bD bF aq;refine pn ?_;obtain⟨bG,bI,ar,h6,rfl⟩:=aq.sl 0;exact re hm (ar.sE ([2]++Z4 4 10))
 refine brW [4,8,9,10] [0] ?_;refine obS (r:=X6) (l:=([p2.term]:List Y9)) (css:=[(U4 p2.term a7 c7)]) aJ ⟨(V9 (x:=p2.term) (mC h1):X6.rp _ _ _ _),qZt⟩ ?_;intro bz W aa c14 bA ao;refine t1W [4] [8,9,10] [] ?_;refine oS Q2f (Y4 (ao.bE [0,1,3] ([4,12,13]++Z4 5 7)) Z1 hL1 _ aK) ?_;rintro _ bw bB bC ⟨rfl,ap,_⟩;refine pu ?_;refine t0 rfl qZt (fun _=>P3 (by kernel_rfl) rfl (u:= .agg #[iv 3,iv 0,.int .u32 0,iv 0,.bool false,iv U,.bool false,.bool y6,.slice W aa c14])) rfl (t0 rfl qZt (fun _=>P3 (by kernel_rfl) rfl (u:= .agg #[iv V,iv 3,iv 0,.int .u32 0,iv 0,.bool false,iv U,.bool false,.bool y6,.slice W aa c14,.bool false])) rfl (t1W [10] [] [] ?_));refine osT 1 ap ?_;intro bD bF aq;refine pn ?_;obtain⟨bG,bI,ar,h6,rfl⟩:=aq.sl 0;exact re hm (ar.sN 2 11)

instance:Ct 145 @Q3r:=⟨@Q3r,cf145⟩
theorem Z3r{p0:Z9}{p1}{p2:Aa}(hS:Q28 a1 n1 c1 Z6 T0 g w0 R p0)(Z1:Ln Y3 Y2 Z6):∀r,Q4c p0 p1 p2=some r->
 Cl 196 #[pt Y3 Y2,iv p1,Q14 p2.toArray] w0 (J6 T0 w0 fun T w v=>v= .tuple #[Q90 r.1,iv r.2]/\Q24 a1 n1 c1 Z6 T g w R p0):=by
 intro r hm;refine eN Tryz.func196 Tryz.ntmps196 fun J=>?_;unfold Q4c at hm;refine sq2 (aL zv14 hS ?_);intro _ E _ ab;refine kE ?_;refine blk (qU ?_);refine pv (r_pne rfl rfl rfl underlying80) (pn ?_);refine cnd (b:=false) rfl (fun h=>nomatch h) (fun _=>qU ?_);refine cB cf112 hm (Q7v (ab.bE [0,1] [2,3]) Z1) ?_;rintro _ _ T1 w2 _ ⟨rfl,D,_⟩ hm;refine cd hm ?_ ?_<;>intro ak hm
 . exact zr hm D
 refine sq2 ?_;obtain⟨u1,K,hm⟩:=bindS hm;obtain⟨cs1,ae,_⟩:=(D.own (i:=3) ⟨rfl,rfl⟩).v.ixcS K rfl;obtain⟨O,c2,rfl,h1⟩:=L4 ae;refine cd hm ?_ ?_<;>intro am hm
 . exact zr hm D
 refine kE ?_;refine sq2 ?_;obtain⟨u2,ag,hm⟩:=bindS hm;obtain rfl:u1=u2:=oI (K.symm.trans ag);refine pu ?_;refine nil (B0 [(2,(qZs p2)),(6,pt E 0),(40,sv O u1.Type_.Fields c2),(41,iv (List.length u1.Type_.Fields:Int)),(42,iv 0)] ⟨rfl,rfl,rfl,rfl,rfl,qZt⟩ fun J=>lpJ hm (fun U V m a W=>∃T2 I,JR (nf 53) g T1 w2 a W T2 (loopM U m I=some V) [(2,(qZs p2)),(6,pt E 0),(40,sv O u1.Type_.Fields c2),(41,iv (List.length u1.Type_.Fields:Int)),(42,iv I)] [K7 E zv14,X0 R,Q78 a1 n1 c1 Z6,Q9 a1 n1 c1 p0]) (fun _ _ h=>je h (D.sN 0 4)) ?_);rintro U ah V _ _ _ W ⟨T2,I,J,ai,rfl,aj,_⟩;obtain⟨m1,_,rfl,hm,_⟩:=lrE ai ah;exact zr hm aj
instance:Ct 196 @Z3r:=⟨@Z3r,cf196⟩
end
section
open _root_.Go.Proofs.Tryz
set_option maxRecDepth 100000
set_option maxHeartbeats 8000000
attribute [local irreducible] wpList wpQuiet Code.wp
variable{g:World}{T0:TP}{w0:World}{R:List X1}
variable{b1 b2 Y3 Q1x Z9o Z9n Y1k c1 c2 c3 c4 c5 c6 c7 c8 c9 c10 c11 c12 c13 n1 n2 n3 n4 n5 n6 n7 Y2 Q1w Z9e Z9d Y0q oo1 oo2:Nat}{H1 H2 Z6 Q0a Z6j Z6i Z9p:Ab->X1}{a1 a2 a3 a4 a5 a6 a7 a8 a9 a10 a11 a12 a13:OA}{r1 r2:Option Nat}{pv1:Value}
attribute [local irreducible] H8 Q1o execOp Program.underlying sizeOf isAgg zeroValue

def Q5a(F:Q0->Z5->Option (Am (Y9×Q0))):Prop:=∀{g:World}{T0:TP}{w0:World}{R:List X1}{p0:Q0}{Y3 Y2:Nat}{Z6:Ab->X1}{b1 oo1}{H1:Ab->X1}{a1 n1 c1 a2 n2 c2 a3 n3 c3 a4 n4 c4 r1 r2 a5 n5 c5 a6 n6 c6 pv1}{p1:Z5}{a7 c7}(hS:Q25 a1 a2 a3 a4 a5 a6 b1 oo1 n1 c1 n2 c2 n3 c3 n4 c4 n5 c5 n6 c6 Z6 H1 T0 g w0 pv1 r1 r2 R p0)(Z1:Ln Y3 Y2 Z6)(hL1:Ln b1 oo1 H1)(h1:Q7 a7 c7 T0 w0 p1.Kids),∀r,F p0 p1=some r->
 Cl 183 #[pt Y3 Y2,Q27 a7 c7 p1] w0 (exR r (fun r=>J6 T0 w0 fun T w v=>∃a11 c11 a12 n9 c12,v= .agg (U4 r.1 a11 c11).toArray/\Sep g T w (R++(Q2 a12 a2 a3 a4 a5 a6 b1 oo1 n9 c12 n2 c2 n3 c3 n4 c4 n5 c5 n6 c6 Z6 H1 pv1 r1 r2 r.2))/\Q11 a11 c11 T w r.1.Kids/\True) (fun r=>L8 T0 w0 (Q4 a2 a3 a4 a5 a6 b1 oo1 n2 c2 n3 c3 n4 c4 n5 c5 n6 c6 Z6 H1 g pv1 r1 r2 R r.1.pos r.1.e r.2)))
def Q3t(F:Q0->Z5->Option (Am (Y9×Q0))):Prop:=∀{g:World}{T0:TP}{w0:World}{R:List X1}{p0:Q0}{Y3 Y2:Nat}{Z6:Ab->X1}{b1 oo1}{H1:Ab->X1}{a1 n1 c1 a2 n2 c2 a3 n3 c3 a4 n4 c4 r1 r2 a5 n5 c5 a6 n6 c6 pv1}{p1:Z5}{a7 c7}(hS:Q25 a1 a2 a3 a4 a5 a6 b1 oo1 n1 c1 n2 c2 n3 c3 n4 c4 n5 c5 n6 c6 Z6 H1 T0 g w0 pv1 r1 r2 R p0)(Z1:Ln Y3 Y2 Z6)(hL1:Ln b1 oo1 H1)(h1:Q7 a7 c7 T0 w0 p1.Kids),∀r,F p0 p1=some r->
 Cl 176 #[pt Y3 Y2,Q27 a7 c7 p1] w0 (exR r (fun r=>J6 T0 w0 fun T w v=>∃a11 c11 a12 n9 c12,v= .agg (U4 r.1 a11 c11).toArray/\Sep g T w (R++(Q2 a12 a2 a3 a4 a5 a6 b1 oo1 n9 c12 n2 c2 n3 c3 n4 c4 n5 c5 n6 c6 Z6 H1 pv1 r1 r2 r.2))/\Q11 a11 c11 T w r.1.Kids/\True) (fun r=>L8 T0 w0 (Q4 a2 a3 a4 a5 a6 b1 oo1 n2 c2 n3 c3 n4 c4 n5 c5 n6 c6 Z6 H1 g pv1 r1 r2 R r.1.pos r.1.e r.2)))
def Q4w(F:Q0->Z5->Option (Am (Y0×Q0))):Prop:=∀{g:World}{T0:TP}{w0:World}{R:List X1}{p0:Q0}{Y3 Y2:Nat}{Z6:Ab->X1}{b1 oo1}{H1:Ab->X1}{a1 n1 c1 a2 n2 c2 a3 n3 c3 a4 n4 c4 r1 r2 a5 n5 c5 a6 n6 c6 pv1}{p1:Z5}{a7 c7}(hS:Q25 a1 a2 a3 a4 a5 a6 b1 oo1 n1 c1 n2 c2 n3 c3 n4 c4 n5 c5 n6 c6 Z6 H1 T0 g w0 pv1 r1 r2 R p0)(Z1:Ln Y3 Y2 Z6)(hL1:Ln b1 oo1 H1)(h1:Q7 a7 c7 T0 w0 p1.Kids),∀r,F p0 p1=some r->
 Cl 169 #[pt Y3 Y2,Q27 a7 c7 p1] w0 (exR r (fun r=>J6 T0 w0 (Q5 a2 a3 a4 a5 a6 b1 oo1 n2 c2 n3 c3 n4 c4 n5 c5 n6 c6 Z6 H1 g pv1 r1 r2 R r.1 r.2)) (fun r=>L8 T0 w0 (Q4 a2 a3 a4 a5 a6 b1 oo1 n2 c2 n3 c3 n4 c4 n5 c5 n6 c6 Z6 H1 g pv1 r1 r2 R r.1.pos r.1.e r.2)))
def Q6b(F:Q0->Int->Z5->Option (Am (Y0×Q0))):Prop:=∀{g:World}{T0:TP}{w0:World}{R:List X1}{p0:Q0}{Y3 Y2:Nat}{Z6:Ab->X1}{b1 oo1}{H1:Ab->X1}{a1 n1 c1 a2 n2 c2 a3 n3 c3 a4 n4 c4 r1 r2 a5 n5 c5 a6 n6 c6 pv1 p1}{p2:Z5}{a7 c7}(hS:Q25 a1 a2 a3 a4 a5 a6 b1 oo1 n1 c1 n2 c2 n3 c3 n4 c4 n5 c5 n6 c6 Z6 H1 T0 g w0 pv1 r1 r2 R p0)(Z1:Ln Y3 Y2 Z6)(hL1:Ln b1 oo1 H1)(h1:Q7 a7 c7 T0 w0 p2.Kids),∀r,F p0 p1 p2=some r->
 Cl 190 #[pt Y3 Y2,iv p1,Q27 a7 c7 p2] w0 (exR r (fun r=>J6 T0 w0 (Q5 a2 a3 a4 a5 a6 b1 oo1 n2 c2 n3 c3 n4 c4 n5 c5 n6 c6 Z6 H1 g pv1 r1 r2 R r.1 r.2)) (fun r=>L8 T0 w0 (Q4 a2 a3 a4 a5 a6 b1 oo1 n2 c2 n3 c3 n4 c4 n5 c5 n6 c6 Z6 H1 g pv1 r1 r2 R r.1.pos r.1.e r.2)))
def Q3x(F:Q0->Z5->Option (Am (Y0×Q0))):Prop:=∀{g:World}{T0:TP}{w0:World}{R:List X1}{p0:Q0}{Y3 Y2:Nat}{Z6:Ab->X1}{b1 oo1}{H1:Ab->X1}{a1 n1 c1 a2 n2 c2 a3 n3 c3 a4 n4 c4 r1 r2 a5 n5 c5 a6 n6 c6 pv1}{p1:Z5}{a7 c7}(hS:Q25 a1 a2 a3 a4 a5 a6 b1 oo1 n1 c1 n2 c2 n3 c3 n4 c4 n5 c5 n6 c6 Z6 H1 T0 g w0 pv1 r1 r2 R p0)(Z1:Ln Y3 Y2 Z6)(hL1:Ln b1 oo1 H1)(h1:Q7 a7 c7 T0 w0 p1.Kids),∀r,F p0 p1=some r->
 Cl 170 #[pt Y3 Y2,Q27 a7 c7 p1] w0 (exR r (fun r=>J6 T0 w0 (Q5 a2 a3 a4 a5 a6 b1 oo1 n2 c2 n3 c3 n4 c4 n5 c5 n6 c6 Z6 H1 g pv1 r1 r2 R r.1 r.2)) (fun r=>L8 T0 w0 (Q4 a2 a3 a4 a5 a6 b1 oo1 n2 c2 n3 c3 n4 c4 n5 c5 n6 c6 Z6 H1 g pv1 r1 r2 R r.1.pos r.1.e r.2)))
def Q4y(F:Q0->Z5->Option (Am (Y0×Q0))):Prop:=∀{g:World}{T0:TP}{w0:World}{R:List X1}{p0:Q0}{Y3 Y2:Nat}{Z6:Ab->X1}{b1 oo1}{H1:Ab->X1}{a1 n1 c1 a2 n2 c2 a3 n3 c3 a4 n4 c4 r1 r2 a5 n5 c5 a6 n6 c6 pv1}{p1:Z5}{a7 c7}(hS:Q25 a1 a2 a3 a4 a5 a6 b1 oo1 n1 c1 n2 c2 n3 c3 n4 c4 n5 c5 n6 c6 Z6 H1 T0 g w0 pv1 r1 r2 R p0)(Z1:Ln Y3 Y2 Z6)(hL1:Ln b1 oo1 H1)(h1:Q7 a7 c7 T0 w0 p1.Kids),∀r,F p0 p1=some r->
 Cl 194 #[pt Y3 Y2,Q27 a7 c7 p1] w0 (exR r (fun r=>J6 T0 w0 (Q5 a2 a3 a4 a5 a6 b1 oo1 n2 c2 n3 c3 n4 c4 n5 c5 n6 c6 Z6 H1 g pv1 r1 r2 R r.1 r.2)) (fun r=>L8 T0 w0 (Q4 a2 a3 a4 a5 a6 b1 oo1 n2 c2 n3 c3 n4 c4 n5 c5 n6 c6 Z6 H1 g pv1 r1 r2 R r.1.pos r.1.e r.2)))
def Q3y(F:Q0->Z5->Option (Am (Y0×Q0))):Prop:=∀{g:World}{T0:TP}{w0:World}{R:List X1}{p0:Q0}{Y3 Y2:Nat}{Z6:Ab->X1}{b1 oo1}{H1:Ab->X1}{a1 n1 c1 a2 n2 c2 a3 n3 c3 a4 n4 c4 r1 r2 a5 n5 c5 a6 n6 c6 pv1}{p1:Z5}{a7 c7}(hS:Q25 a1 a2 a3 a4 a5 a6 b1 oo1 n1 c1 n2 c2 n3 c3 n4 c4 n5 c5 n6 c6 Z6 H1 T0 g w0 pv1 r1 r2 R p0)(Z1:Ln Y3 Y2 Z6)(hL1:Ln b1 oo1 H1)(h1:Q7 a7 c7 T0 w0 p1.Kids),∀r,F p0 p1=some r->
 Cl 171 #[pt Y3 Y2,Q27 a7 c7 p1] w0 (exR r (fun r=>J6 T0 w0 (Q5 a2 a3 a4 a5 a6 b1 oo1 n2 c2 n3 c3 n4 c4 n5 c5 n6 c6 Z6 H1 g pv1 r1 r2 R r.1 r.2)) (fun r=>L8 T0 w0 (Q4 a2 a3 a4 a5 a6 b1 oo1 n2 c2 n3 c3 n4 c4 n5 c5 n6 c6 Z6 H1 g pv1 r1 r2 R r.1.pos r.1.e r.2)))
def Q5z(F:Q0->Z5->Option (Am (Y0×Q0))):Prop:=∀{g:World}{T0:TP}{w0:World}{R:List X1}{p0:Q0}{Y3 Y2:Nat}{Z6:Ab->X1}{b1 oo1}{H1:Ab->X1}{a1 n1 c1 a2 n2 c2 a3 n3 c3 a4 n4 c4 r1 r2 a5 n5 c5 a6 n6 c6 pv1}{p1:Z5}{a7 c7}(hS:Q25 a1 a2 a3 a4 a5 a6 b1 oo1 n1 c1 n2 c2 n3 c3 n4 c4 n5 c5 n6 c6 Z6 H1 T0 g w0 pv1 r1 r2 R p0)(Z1:Ln Y3 Y2 Z6)(hL1:Ln b1 oo1 H1)(h1:Q7 a7 c7 T0 w0 p1.Kids),∀r,F p0 p1=some r->
 Cl 172 #[pt Y3 Y2,Q27 a7 c7 p1] w0 (exR r (fun r=>J6 T0 w0 (Q5 a2 a3 a4 a5 a6 b1 oo1 n2 c2 n3 c3 n4 c4 n5 c5 n6 c6 Z6 H1 g pv1 r1 r2 R r.1 r.2)) (fun r=>L8 T0 w0 (Q4 a2 a3 a4 a5 a6 b1 oo1 n2 c2 n3 c3 n4 c4 n5 c5 n6 c6 Z6 H1 g pv1 r1 r2 R r.1.pos r.1.e r.2)))
def Q6a(F:Q0->Z5->Option (Am (Y0×Q0))):Prop:=∀{g:World}{T0:TP}{w0:World}{R:List X1}{p0:Q0}{Y3 Y2:Nat}{Z6:Ab->X1}{b1 oo1}{H1:Ab->X1}{a1 n1 c1 a2 n2 c2 a3 n3 c3 a4 n4 c4 r1 r2 a5 n5 c5 a6 n6 c6 pv1}{p1:Z5}{a7 c7}(hS:Q25 a1 a2 a3 a4 a5 a6 b1 oo1 n1 c1 n2 c2 n3 c3 n4 c4 n5 c5 n6 c6 Z6 H1 T0 g w0 pv1 r1 r2 R p0)(Z1:Ln Y3 Y2 Z6)(hL1:Ln b1 oo1 H1)(h1:Q7 a7 c7 T0 w0 p1.Kids),∀r,F p0 p1=some r->
 Cl 173 #[pt Y3 Y2,Q27 a7 c7 p1] w0 (exR r (fun r=>J6 T0 w0 (Q5 a2 a3 a4 a5 a6 b1 oo1 n2 c2 n3 c3 n4 c4 n5 c5 n6 c6 Z6 H1 g pv1 r1 r2 R r.1 r.2)) (fun r=>L8 T0 w0 (Q4 a2 a3 a4 a5 a6 b1 oo1 n2 c2 n3 c3 n4 c4 n5 c5 n6 c6 Z6 H1 g pv1 r1 r2 R r.1.pos r.1.e r.2)))
def Q3u(F:Q0->Z5->Option (Am (Y0×Q0))):Prop:=∀{g:World}{T0:TP}{w0:World}{R:List X1}{p0:Q0}{Y3 Y2:Nat}{Z6:Ab->X1}{b1 oo1}{H1:Ab->X1}{a1 n1 c1 a2 n2 c2 a3 n3 c3 a4 n4 c4 r1 r2 a5 n5 c5 a6 n6 c6 pv1}{p1:Z5}{a7 c7}(hS:Q25 a1 a2 a3 a4 a5 a6 b1 oo1 n1 c1 n2 c2 n3 c3 n4 c4 n5 c5 n6 c6 Z6 H1 T0 g w0 pv1 r1 r2 R p0)(Z1:Ln Y3 Y2 Z6)(hL1:Ln b1 oo1 H1)(h1:Q7 a7 c7 T0 w0 p1.Kids),∀r,F p0 p1=some r->
 Cl 177 #[pt Y3 Y2,Q27 a7 c7 p1] w0 (exR r (fun r=>J6 T0 w0 (Q5 a2 a3 a4 a5 a6 b1 oo1 n2 c2 n3 c3 n4 c4 n5 c5 n6 c6 Z6 H1 g pv1 r1 r2 R r.1 r.2)) (fun r=>L8 T0 w0 (Q4 a2 a3 a4 a5 a6 b1 oo1 n2 c2 n3 c3 n4 c4 n5 c5 n6 c6 Z6 H1 g pv1 r1 r2 R r.1.pos r.1.e r.2)))
def Q5x(F:Q0->Z5->Option (Am (Y0×Q0))):Prop:=∀{g:World}{T0:TP}{w0:World}{R:List X1}{p0:Q0}{Y3 Y2:Nat}{Z6:Ab->X1}{b1 oo1}{H1:Ab->X1}{a1 n1 c1 a2 n2 c2 a3 n3 c3 a4 n4 c4 r1 r2 a5 n5 c5 a6 n6 c6 pv1}{p1:Z5}{a7 c7}(hS:Q25 a1 a2 a3 a4 a5 a6 b1 oo1 n1 c1 n2 c2 n3 c3 n4 c4 n5 c5 n6 c6 Z6 H1 T0 g w0 pv1 r1 r2 R p0)(Z1:Ln Y3 Y2 Z6)(hL1:Ln b1 oo1 H1)(h1:Q7 a7 c7 T0 w0 p1.Kids),∀r,F p0 p1=some r->
 Cl 178 #[pt Y3 Y2,Q27 a7 c7 p1] w0 (exR r (fun r=>J6 T0 w0 (Q5 a2 a3 a4 a5 a6 b1 oo1 n2 c2 n3 c3 n4 c4 n5 c5 n6 c6 Z6 H1 g pv1 r1 r2 R r.1 r.2)) (fun r=>L8 T0 w0 (Q4 a2 a3 a4 a5 a6 b1 oo1 n2 c2 n3 c3 n4 c4 n5 c5 n6 c6 Z6 H1 g pv1 r1 r2 R r.1.pos r.1.e r.2)))
def Q5y(F:Q0->Z5->Option (Am (Y0×Q0))):Prop:=∀{g:World}{T0:TP}{w0:World}{R:List X1}{p0:Q0}{Y3 Y2:Nat}{Z6:Ab->X1}{b1 oo1}{H1:Ab->X1}{a1 n1 c1 a2 n2 c2 a3 n3 c3 a4 n4 c4 r1 r2 a5 n5 c5 a6 n6 c6 pv1}{p1:Z5}{a7 c7}(hS:Q25 a1 a2 a3 a4 a5 a6 b1 oo1 n1 c1 n2 c2 n3 c3 n4 c4 n5 c5 n6 c6 Z6 H1 T0 g w0 pv1 r1 r2 R p0)(Z1:Ln Y3 Y2 Z6)(hL1:Ln b1 oo1 H1)(h1:Q7 a7 c7 T0 w0 p1.Kids),∀r,F p0 p1=some r->
 Cl 146 #[pt Y3 Y2,Q27 a7 c7 p1] w0 (exR r (fun r=>J6 T0 w0 (Q5 a2 a3 a4 a5 a6 b1 oo1 n2 c2 n3 c3 n4 c4 n5 c5 n6 c6 Z6 H1 g pv1 r1 r2 R r.1 r.2)) (fun r=>L8 T0 w0 (Q4 a2 a3 a4 a5 a6 b1 oo1 n2 c2 n3 c3 n4 c4 n5 c5 n6 c6 Z6 H1 g pv1 r1 r2 R r.1.pos r.1.e r.2)))
def Q4v(F:Q0->Z5->Option (Am (Y0×Q0))):Prop:=∀{g:World}{T0:TP}{w0:World}{R:List X1}{p0:Q0}{Y3 Y2:Nat}{Z6:Ab->X1}{b1 oo1}{H1:Ab->X1}{a1 n1 c1 a2 n2 c2 a3 n3 c3 a4 n4 c4 r1 r2 a5 n5 c5 a6 n6 c6 pv1}{p1:Z5}{a7 c7}(hS:Q25 a1 a2 a3 a4 a5 a6 b1 oo1 n1 c1 n2 c2 n3 c3 n4 c4 n5 c5 n6 c6 Z6 H1 T0 g w0 pv1 r1 r2 R p0)(Z1:Ln Y3 Y2 Z6)(hL1:Ln b1 oo1 H1)(h1:Q7 a7 c7 T0 w0 p1.Kids),∀r,F p0 p1=some r->
 Cl 107 #[pt Y3 Y2,Q27 a7 c7 p1] w0 (exR r (fun r=>J6 T0 w0 (Q5 a2 a3 a4 a5 a6 b1 oo1 n2 c2 n3 c3 n4 c4 n5 c5 n6 c6 Z6 H1 g pv1 r1 r2 R r.1 r.2)) (fun r=>L8 T0 w0 (Q4 a2 a3 a4 a5 a6 b1 oo1 n2 c2 n3 c3 n4 c4 n5 c5 n6 c6 Z6 H1 g pv1 r1 r2 R r.1.pos r.1.e r.2)))
structure Sp3(G:Q2l):Prop where
 V3:Q5a G.V3
 X7:Q3t G.X7
 F1:Q4w G.F1
 J5:Q6b G.J5
 G5:Q3x G.G5
 G3:Q4y G.G3
 G6:Q3y G.G6
 F9:Q5z G.F9
 E0:Q6a G.E0
 G4:Q3u G.G4
 F8:Q5x G.F8
 V5:Q5y G.V5
 Z3:Q4v G.Z3
theorem Z8l{G:Q2l}(hG:Sp3 G):Q5a (I5 G):=by
 intro g _ _ R _ Y3 Y2 Z6 _ _ H1 a1 _ c1 _ _ c2 _ _ c3 _ _ c4 _ _ _ _ c5 _ _ c6 _ _ _ c7 hS Z1 hL1 h1 r hm;refine eN Tryz.func183 Tryz.ntmps183 fun J=>?_;unfold I5 at hm;have D:Ctr Tryz.prog 107 (type_of%@hG.Z3):=⟨@hG.Z3,I6⟩;exact zr hm hS
theorem Z6z{G:Q2l}(hG:Sp3 G):Q3t (A1 G):=by
 intro g _ _ R _ Y3 Y2 Z6 _ _ H1 a1 _ c1 _ _ c2 _ _ c3 _ _ c4 _ _ _ _ c5 _ _ c6 _ _ _ c7 hS Z1 hL1 h1 r hm;refine eN Tryz.func176 Tryz.ntmps176 fun J=>?_;unfold A1 at hm;have D:Ctr Tryz.prog 107 (type_of%@hG.Z3):=⟨@hG.Z3,I6⟩;exact zr hm hS
theorem Z8h{G:Q2l}(hG:Sp3 G):Q4w (I1 G):=by
 intro g T0 _ R p0 Y3 Y2 Z6 b1 ag H1 a1 n1 c1 a2 n2 c2 a3 n3 c3 a4 n4 c4 r1 r2 a5 n5 c5 a6 n6 c6 U p1 a7 c7 hS Z1 hL1 h1 r hm;refine eN Tryz.func169 Tryz.ntmps169 fun J=>?_;unfold I1 at hm;refine sq2 (bX (E9 p1 a7 c7) hS ?_);intro _ V _ aM;refine aL zv1 aM ?_;intro _ D _ ay;refine pn ?_;refine sq2 ?_;obtain⟨u1,aN,hm⟩:=bindS hm;obtain⟨cs1,aP,_,hT1⟩:=ixS ay aN h1;obtain⟨a8,c8,rfl,h2⟩:=K5 aP;refine aL zv2 ay ?_;intro _ E _ aQ;refine sT 0 aQ ?_;intro w4 _ O;refine kD ?_;refine O1 hm (fun aA a w5=>∃T1 W,JR (nf 93) g T0 w4 a w5 T1 (aA W=some r) [(0,pt Y3 Y2),(4,pt D 0),(5,pt E 0),(6,iv W)] ([Q22 a8 E c8 u1,K7 D zv1,X0 R]++(Q2 a1 a2 a3 a4 a5 a6 b1 ag n1 c1 n2 c2 n3 c3 n4 c4 n5 c5 n6 c6 Z6 H1 U r1 r2 p0))) (fun aA hm=>?_) ?_
 . refine qN ?_;refine blk (sq2 (cd hm ?_ ?_))<;>intro bn hm
   . refine qU ?_;refine cP Y9s hm (hG.V5 (O.bE (Z4 0 4) (Z4 4 11)) Z1 hL1 (mC h2)) ?_ ?_
     . exact zk
     rintro I _ T2 _ _ ⟨a9,c9,aU,n7,c10,rfl,aW,h3,_⟩ hm;refine aL zv1 aW ?_;intro _ b6 _ aX;refine sT 0 aX ?_;intro w8 _ aZ;refine kE ?_;refine O1 hm (fun aD a w9=>∃T3 b7 K ae c11,JR (nf 93) g T2 w8 a w9 T3 (aD K=some r) [(0,pt Y3 Y2),(3,pt V 0),(4,pt D 0),(5,pt E 0),(7,pt b6 0),(8,pt b7 0)] ([Q33 a9 b6 c9 I.1,Q22 a8 E c8 u1,K7 D zv1,Q22 a7 V c7 p1,X0 R]++(X5 I.2 Z6 H1 b1 ag aU n7 c10 a2 n2 c2 a3 n3 c3 a4 n4 c4 r1 r2 a5 n5 c5 a6 n6 c6 U++[Q16 U I.2,K7 b7 (Y8h K ae c11)]))/\Q50 ae c11 T3 w9 K.Fields) (fun aD hm=>?_) ?_
     . refine rtS [0,0,0,1,0,1,2,0,0,0,2,2,0] [0,1,2,3,4,5,6,7,8,9,10,11,12] aZ fun bo bp ba=>?_;have dd:KD [(6,[3,5]),(10,[]),(11,[3,5,6,10])]:=⟨qZt⟩;exact zr hm ba
     rintro _ w9 ⟨T3,b7,K,ae,c11,⟨J,hm,rfl,aE,_⟩,_⟩;refine qU ?_;refine fkN (d:=41) (c:=((!I.1.lies)||(K.Kind==4))) 4 [(0,pt Y3 Y2),(3,pt V 0),(4,pt D 0),(5,pt E 0),(7,pt b6 0)] rfl (fun hk=>zw (!I.1.lies) hk) fun J=>?_;refine cd hm ?_ ?_<;>intro bq hm
     . exact zr hm aE
     refine kE ?_;refine Z1p [0,0,1,0,1,2,0,1,0,2] [0,1,2,3,4,6,7,5,8,9] aE (U5 (Q0s (U5 (C8)))) fun bt bu bf=>?_;have dd:KD [(5,[2,4]),(9,[2,4,5,7])]:=⟨qZt⟩;exact zr hm bf
   refine sq2 (cd hm ?_ ?_)<;>intro bv hm
   . have bw:Ctr Tryz.prog 107 (type_of%@hG.Z3):=⟨@hG.Z3,I6⟩;exact zr hm O
   refine sq2 (cd hm ?_ ?_)<;>intro bz hm
   . refine qU ?_;refine cP Y5x hm (hG.V3 (O.bE [1,3] (Z4 4 11)) Z1 hL1 (mC h2)) ?_ ?_
     . exact zk
     rintro y8 _ _ _ _ ⟨bg,c19,_,_,c20,rfl,bh,_,_⟩ hm;have bi:HL 1 X6 ([y8.1]:List Y9) [(U4 y8.1 bg c19)]:=⟨qZt⟩;exact zr hm bh
   exact zr hm O
 rintro _ w5 ⟨T1,W,J,hm,rfl,bj,_⟩;refine qU ?_;refine cP Y9r hm (hG.X7 (bj.bE [1,2] (Z4 3 11)) Z1 hL1 (mC h2)) ?_ ?_
 . exact zk
 rintro y9 _ _ _ _ ⟨bk,c23,_,_,c24,rfl,bm,_,_⟩ hm;have bi:HL 1 X6 ([y9.1]:List Y9) [(U4 y9.1 bk c23)]:=⟨qZt⟩;exact zr hm bm
theorem Z9l{G:Q2l}(hG:Sp3 G):Q6b (R1 G):=by
 intro g _ _ R _ Y3 Y2 Z6 _ _ H1 a1 _ c1 _ _ c2 _ _ c3 _ _ c4 _ _ _ _ c5 _ _ c6 _ _ W a7 c7 hS Z1 hL1 h1 r hm;refine eN Tryz.func190 Tryz.ntmps190 fun J=>?_;unfold R1 at hm;refine sq2 (bX (E9 W a7 c7) hS ?_);intro _ _ _ ab;refine aL zv1 ab ?_;intro _ _ _ O;refine pn ?_;refine sq2 ?_;obtain⟨u1,ac,hm⟩:=bindS hm;obtain⟨cs1,ad,_,hT1⟩:=ixS O ac h1;obtain⟨_,c8,rfl,h2⟩:=K5 ad;refine pu ?_;refine cP Y5x hm (hG.V3 (O.bE [0,1,2] (Z4 3 11)) Z1 hL1 h2) ?_ ?_
 . exact zk
 rintro D _ _ _ _ ⟨I,c9,_,_,c10,rfl,ae,h3,_⟩ hm;refine aL zv3 ae ?_;intro _ _ _ af;refine sT 0 af ?_;intro _ _ ag;refine kE ?_;refine Z1p [0,1,0,0,1,0,1,2,2,0,0,2] [0,1,2,3,4,5,6,7,8,9,10,11] ag (U5 (C8)) fun w6 aq K=>?_;obtain⟨u2,ai,hm⟩:=bindS hm;obtain⟨cs2,aj,_,hT2⟩:=ixS K ai h1;obtain⟨_,c11,rfl,U⟩:=K5 aj;refine pu ?_;obtain⟨E,V,hm⟩:=bindS hm
 rcases E with e1|E
 . have hm:=G0 hm;refine s2 [(1,.agg (U4 D.1 I c9).toArray)] rfl qZt rfl (by kernel_rfl) (Z0k Y5x rfl (hG.V3 (p0:=D.2) (p1:=u2) (K.bE [1,3,2,0] (Z4 4 11)) Z1 hL1 U _ V) rfl fun v3 T4 aw ax ak=>?_);obtain⟨_,_,c15,rfl,am,_⟩:=ak;exact pe hm (am.sE ([1]++Z4 4 11))
 have hm:=C1 hm;refine sS [(1,.agg (U4 D.1 I c9).toArray)] Y5x (hG.V3 (K.bE [1,3,2,0] (Z4 4 11)) Z1 hL1 U _ V) ?_;rintro _ _ _ _ ⟨an,c12,_,_,c13,rfl,ao,_,_⟩;have ay:HL 1 X6 ([D.1,E.1]:List Y9) [(U4 D.1 I c9),(U4 E.1 an c12)]:=⟨qZt⟩;have dd:KD [(7,[4,6]),(8,[1,4,6,7]),(11,[1,4,6,7,8])]:=⟨qZt⟩;exact zr hm ao
end
end Go.Proofs.YtjohcgibbiebkaaGreatDoor
