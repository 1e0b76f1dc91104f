/- That Go functions compute their models. Printed by gen2.py. -/
import Derived.Test.YtfffghclkmbopaaGreatKWbb
set_option linter.unusedVariables false
namespace Go.Proofs.YtfffghclkmbopaaGreat
open _root_.Go.Proofs.Tryz
set_option maxRecDepth 100000
set_option maxHeartbeats 8000000
attribute [local irreducible] wpList wpQuiet Code.wp
variable{g:World}{T0:Nat->Prop}{w0:World}{R:List X4}
variable{b1 b2 Y5 Q1c Z6c Z6b Z6x c1 c2 c3 c4 c5 c6 c7 c8 c9 c10 c11 c12 c13 n1 n2 n3 n4 n5 n6 n7 Y4 Q1b Z5m Z5l Z6p oo1 oo2:Nat}{H1 H2 Z7 R6 Z3o Z3n Z6f:List Value->X4}{a1 a2 a3 a4 a5 a6 a7 a8 a9 a10 a11 a12 a13:OA}{r1 r2:Option Nat}{pv1:Value}
attribute [local irreducible] A7 Q0r execOp Program.underlying sizeOf isAgg zeroValue

theorem Q0b{p0:Z5}{p1}(hS:Q24 a1 n1 c1 Z7 T0 g w0 R p0)(Z2:Ln Y5 Y4 Z7):∀r,M5 p0 p1=some r->
 Cl 135 #[pt Y5 Y4,iv p1] w0 (J1 T0 w0 fun T w v=>∃a4 c4,v= .tuple #[.agg (Y4u r.1 a4 c4).toArray,iv r.2]/\Sep g T w (R++[Z7 [.slice a1 n1 c1],Q7 a1 n1 c1 p0])/\Q43 a4 c4 T w r.1.Fields/\True):=by
 intro r hm;refine eN Tryz.func135 Tryz.ntmps135 fun J=>?_;unfold M5 at hm;exact zr hm hS

instance:Ct 135 @Q0b:=⟨@Q0b,Y6k⟩
theorem E5{p0:Q0}{p1}(hS:Q19 a1 a2 a3 a4 a5 a6 b1 oo1 n1 c1 n2 c2 n3 c3 n4 c4 n5 c5 n6 c6 Z7 H1 T0 g w0 pv1 r1 r2 R p0)(Z2:Ln Y5 Y4 Z7)(hL1:Ln b1 oo1 H1):∀r,W1 p0 p1=some r->
 Cl 106 #[pt Y5 Y4,iv p1] w0 (J1 T0 w0 fun T w v=>v=iv r/\Q15 a1 a2 a3 a4 a5 a6 b1 oo1 n1 c1 n2 c2 n3 c3 n4 c4 n5 c5 n6 c6 Z7 H1 T g w pv1 r1 r2 R p0):=by
 intro r hm;refine eN Tryz.func106 Tryz.ntmps106 fun J=>?_;unfold W1 at hm;exact zr hm hS

instance:Ct 106 @E5:=⟨@E5,Z9p⟩
theorem Q2l{p0:Q0}{p1:G9}{p2}(hS:Q19 a1 a2 a3 a4 a5 a6 b1 oo1 n1 c1 n2 c2 n3 c3 n4 c4 n5 c5 n6 c6 Z7 H1 T0 g w0 pv1 r1 r2 R p0)(Z2:Ln Y5 Y4 Z7)(hL1:Ln b1 oo1 H1)(h1:Q37 a7 c7 T0 w0 p1)(h2:Q8 a8 c8 T0 w0 p1.Init):∀r,Q1a p0 p1 p2=some r->
 Cl 103 #[pt Y5 Y4,Q77 a7 a8 c7 c8 p1,iv p2] w0 (exR r (fun r=>J1 T0 w0 fun T w v=>∃a10 c10,v=sv a10 r c10/\Sep g T w (R++X7 p0 Z7 H1 b1 oo1 a1 n1 c1 a2 n2 c2 a3 n3 c3 a4 n4 c4 r1 r2 a5 n5 c5 a6 n6 c6 pv1)/\SlR E2 T w (sv a10 r c10) r/\True) (fun r=>L0 T0 w0 (Q42 a1 a2 a3 a4 a5 a6 b1 oo1 n1 c1 n2 c2 n3 c3 n4 c4 n5 c5 n6 c6 Z7 H1 g pv1 r1 r2 R r.pos r.e p0))):=by
 intro r hm;refine eN Tryz.func103 Tryz.ntmps103 fun J=>?_;unfold Q1a at hm;refine sq2 (bX (Z8m p1 a7 c7 a8 c8) hS ?_);intro _ E _ I;refine pn ?_;refine sq2 (sq2 (cd hm ?_ ?_))<;>intro ad hm
 . exact zr hm I
 refine kA ?_;refine cB Y6k hm (Q0b (I.bE ([0,1,2]++Z4 5 7) [3,4]) hL1) ?_;rintro D _ _ _ _ ⟨_,c9,rfl,U,_,_⟩ hm;refine aL zv7 U ?_;intro _ V _ W;refine sT 0 W ?_;intro _ _ K;refine kD ?_;refine sq2 (blk (qU ?_));refine pv (r_bn rfl rfl underlying4) (pu ?_)
 rcases bc hm with⟨aa,hm⟩|⟨aa,hm⟩
 . exact zr hm K
 refine pu ?_;refine cB Z9p hm (E5 (K.bE [0,1,2] ([3,11,12]++Z4 4 7)) Z2 hL1) ?_;rintro _ _ _ _ _ ⟨rfl,ab,_⟩ hm;refine pu ?_;refine cB cf102 hm (Q0w (ab.bE [0,1,2] (Z4 3 10)) Z2 hL1) ?_;rintro y3 _ _ _ _ ⟨rfl,O,_⟩ hm;refine pu ?_;refine nil (E9 [(4,pt E 0),(7,pt V 0),(9,.bool (D.1.Kind==4)),(26,.bool (y3==0))] ⟨rfl,rfl,rfl,rfl,qZt⟩ fun J=>?_);refine cd hm ?_ ?_<;>intro ae hm
 . exact zr hm O
 refine qU ?_;exact fkC (d:=51) (c:=((D.1.Kind==4)&&(decide (D.1.Len<(List.length p1.Init:Int))))) 7 [(4,pt E 0)] rfl (fun hk=>zw (D.1.Kind==4) hk) fun J=>zr hm O

instance:Ct 103 @Q2l:=⟨@Q2l,cf103⟩
theorem Q2h{p0:G0}{p1:List UInt8}(hS:Sep g T0 w0 ([X3 R]++Z3j p0 Z7 a1 n1 c1 a2 n2 c2 a3 n3 c3))(Z2:Ln Y5 Y4 Z7):∀r,Q0y p0 p1=some r->
 Cl 176 #[pt Y5 Y4,Q16 p1.toArray] w0 (J1 T0 w0 fun T w v=>v= .tuple #[iv r.1,.bool r.2]/\Sep g T w (R++Z3j p0 Z7 a1 n1 c1 a2 n2 c2 a3 n3 c3)/\True):=by
 intro r hm;refine eN Tryz.func176 Tryz.ntmps176 fun J=>?_;unfold Q0y at hm;refine qN ?_;refine sq2 (qN ?_);refine lpJ hm (fun W o1 m a D=>∃E I,JR (nf 33) g T0 w0 a D E (X8 W m I=some o1) [(0,pt Y5 Y4),(1,(qZs p1)),(6,iv I)] ([X3 R]++Z3j p0 Z7 a1 n1 c1 a2 n2 c2 a3 n3 c3)) (fun _ _ h=>je h (hS.sN 0 5)) ?_;rintro W ab o1 _ _ _ D ⟨E,I,J,ac,rfl,V,_⟩;obtain⟨m1,_,rfl,hm,ad⟩:=lrE ac ab;refine sq2 (sq2 (cd hm ?_ ?_))<;>intro ap hm
 . refine kE ?_;refine blk (qU ?_);obtain⟨u1,K,hm⟩:=Z9 hm;obtain⟨_,of1,k1,cp1,hv1,_,_,ae⟩:=V.nhd (q:=4) ⟨rfl,rfl⟩ K rfl;obtain⟨css1,cs1,af⟩:=V.nfocus (q:=4) ⟨rfl,rfl⟩ K;obtain⟨O,ag⟩:=af.exE;obtain⟨hcs1,ah⟩:=ag.pE;subst hcs1;have U:=ah.unb;refine pu ?_;refine pv (r_ld rfl isAgg67 (U.cellB (i:=6) ⟨rfl,rfl⟩ (X0o (i:=I) hv1 ae) (j:=0) rfl)) (pu ?_);refine pv (Z5g (kk:=p1) (u:=0) rfl rfl (U.getA (i:=0) ⟨rfl,rfl⟩) Q9b underlying67 underlying9 zeroValue3 rfl) (pn ?_);refine sq2 (cd hm ?_ ?_)<;>intro aq hm
   . refine qN ?_;have ai:=U.bE [0] (Z4 1 6);have aj:Sep g E D (Z9l.A u1 [.map O]::_):=Sep.exI (O) (Sep.pI rfl ai);have ak:=aj.nunfocus0 (q:=4) ⟨rfl,rfl⟩ K;exact zr hm ak
   refine pn ?_;have am:=U.bE [0] (Z4 1 6);have an:Sep g E D (Z9l.A u1 [.map O]::_):=Sep.exI (O) (Sep.pI rfl am);have ao:=an.nunfocus0 (q:=4) ⟨rfl,rfl⟩ K;exact lg hm ad (ao.sN 0 5)
 exact zr hm V

instance:Ct 176 @Q2h:=⟨@Q2h,cf176⟩
theorem Z0q{p0:Q0}{p1:Y2}(hS:Q22 a1 a2 a3 a4 a5 a6 b1 oo1 n1 c1 n2 c2 n3 c3 n4 c4 n5 c5 n6 c6 Z7 H1 T0 g w0 pv1 r1 r2 R p0)(Z2:Ln Y5 Y4 Z7)(hL1:Ln b1 oo1 H1)(h1:Q8 a7 c7 T0 w0 p1.Kids):∀r,O4 p0 p1=some r->
 Cl 157 #[pt Y5 Y4,Q29 a7 c7 p1] w0 (exR r (fun r=>J1 T0 w0 fun T w v=>∃a11 c11,v= .agg (Q0o r.1 a11 c11).toArray/\Sep g T w (R++(Q2 a1 a2 a3 a4 a5 a6 b1 oo1 n1 c1 n2 c2 n3 c3 n4 c4 n5 c5 n6 c6 Z7 H1 pv1 r1 r2 r.2))/\Q54 a11 c11 T w r.1/\True) (fun r=>L0 T0 w0 fun T w v=>v= .iface 76 (Q18 r.1.pos r.1.e)/\Sep g T w (R++(Q2 a1 a2 a3 a4 a5 a6 b1 oo1 n1 c1 n2 c2 n3 c3 n4 c4 n5 c5 n6 c6 Z7 H1 pv1 r1 r2 r.2))/\True)):=by
 intro r hm;refine eN Tryz.func157 Tryz.ntmps157 fun J=>?_;unfold O4 at hm;refine sq2 (bX (D6 p1 a7 c7) hS ?_);intro _ b2 _ ak;refine aL zv1 ak ?_;intro w2 W _ aa;refine pn ?_;refine S9 hm (fun ad a w3=>∃T1,JR (nf 63) g T0 w2 a w3 T1 (ad ()=some r) [(0,pt Y5 Y4),(3,pt b2 0),(4,pt W 0)] ((Q72 a7 W b2 c7 R p1)++(Q2 a1 a2 a3 a4 a5 a6 b1 oo1 n1 c1 n2 c2 n3 c3 n4 c4 n5 c5 n6 c6 Z7 H1 pv1 r1 r2 p0))) (fun ad hm=>?_) ?_
 . refine sq2 ?_;obtain⟨u1,an,hm⟩:=Z9 hm;refine pu ?_;refine pv (r_opn rfl rfl (aa.optV (q:=13) ⟨rfl,rfl⟩ an) underlying70) (cd hm ?_ ?_)<;>intro aK hm
   . refine sq2 (rsS [0,0,0,1,0,1,2,0,0,0,0,0] [0,1,2,3,4,5,6,7,8,9,10,11] aa fun w4 aN ao=>pu ?_);obtain⟨D,ab,hm⟩:=Z9 hm;obtain⟨b4,cs1,aq,ar⟩:=ao.optE (q:=13) ⟨rfl,rfl⟩ ab;subst aq;obtain⟨⟨E,I,c8,K,O,c9,U,V,c10⟩,au⟩:=ar.exE;obtain⟨hcs1,av⟩:=au.pE;subst hcs1;have aw:=av.unb;obtain⟨y1,ax,hm⟩:=Z9 hm;refine sS [] cf176 (Q2h (aw.bE (Z4 3 13) [16,0,1,2]) (Q4m b4) _ ax) ?_;rintro _ T2 w5 _ ⟨rfl,ai,_⟩;refine pn ?_;refine sq2 (cd hm ?_ ?_)<;>intro aP hm
     . refine sq2 ?_;obtain⟨u3,_,hm⟩:=Z9 hm;refine pu ?_;refine pv (P3 (by kernel_rfl) rfl (u:= .agg #[iv 2,iv 0,.int .u32 0,iv y1.1,.bool false,iv 0,.bool false,.bool true,.slice none 0 0])) (pv (P3 (by kernel_rfl) rfl (u:= .agg #[iv u3,iv 2,iv 0,.int .u32 0,iv y1.1,.bool false,iv 0,.bool false,.bool true,.slice none 0 0,.bool true])) (sT 0 ai ?_));intro w6 _ aB;refine nil (E9 [(4,pt W 0)] ⟨rfl,qZt⟩ fun J=>?_);have aC:=aB.bE [14,15,16] (Z4 0 14);have aD:Sep g T2 w6 (U7.A D [iv D.ret,.slice E I c8,.slice K O c9,.slice U V c10,iv D.loops,iv D.breaks]::_):=Sep.exI (E,I,c8,K,O,c9,U,V,c10) (Sep.pI rfl aC);have aE:=aD.optI0 (q:=13) ⟨rfl,rfl⟩ ab;exact re hm (aE.sN 2 12)
     have aF:=ai.bE [14,15,16] (Z4 0 14);have aG:Sep g T2 w5 (U7.A D [iv D.ret,.slice E I c8,.slice K O c9,.slice U V c10,iv D.loops,iv D.breaks]::_):=Sep.exI (E,I,c8,K,O,c9,U,V,c10) (Sep.pI rfl aF);have aI:=aG.optI0 (q:=13) ⟨rfl,rfl⟩ ab;exact je hm (aI.sN 0 14)
   exact je hm (aa.sN 0 14)
 rintro _ w3 ⟨T1,J,hm,rfl,aj,_⟩;refine sq2 (rqS aj (pu ?_));refine qv (fun _ hq=>(hq.elim fun _ hi=>Z5g (kk:=p1.Name) (u:=0) rfl rfl ((aj.keep hi (fun _ h=>h)).getA (i:=9) ⟨rfl,rfl⟩) Q9b underlying67 underlying9 zeroValue3 rfl)) (pn ?_);intro _ _ _ aJ;exact zr hm aJ

instance:Ct 157 @Z0q:=⟨@Z0q,cf157⟩
theorem Q2j{p0:Q0}{p1:Pos}{p2}(hS:Q19 a1 a2 a3 a4 a5 a6 b1 oo1 n1 c1 n2 c2 n3 c3 n4 c4 n5 c5 n6 c6 Z7 H1 T0 g w0 pv1 r1 r2 R p0)(Z2:Ln Y5 Y4 Z7)(hL1:Ln b1 oo1 H1):∀r,I4 p0 p1 p2=some r->
 Cl 156 #[pt Y5 Y4,Q33 p1,iv p2] w0 (exR r (fun r=>J1 T0 w0 (Q73 a2 a3 a4 a5 a6 b1 oo1 n2 c2 n3 c3 n4 c4 n5 c5 n6 c6 Z7 H1 g pv1 r1 r2 R r.1 r.2)) (fun r=>L0 T0 w0 (Q34 a2 a3 a4 a5 a6 b1 oo1 n2 c2 n3 c3 n4 c4 n5 c5 n6 c6 Z7 H1 g pv1 r1 r2 R r.1.pos r.1.e r.2))):=by
 intro r hm;refine eN Tryz.func156 Tryz.ntmps156 fun J=>?_;unfold I4 at hm;exact zr hm hS

instance:Ct 156 @Q2j:=⟨@Q2j,cf156⟩
theorem Q0v{p0:Q0}{p1}(hS:Q19 a1 a2 a3 a4 a5 a6 b1 oo1 n1 c1 n2 c2 n3 c3 n4 c4 n5 c5 n6 c6 Z7 H1 T0 g w0 pv1 r1 r2 R p0)(Z2:Ln Y5 Y4 Z7)(hL1:Ln b1 oo1 H1):∀r,H4 p0 p1=some r->
 Cl 163 #[pt Y5 Y4,iv p1] w0 (J1 T0 w0 fun T w v=>v= .tuple #[iv r.1,.bool r.2]/\Q15 a1 a2 a3 a4 a5 a6 b1 oo1 n1 c1 n2 c2 n3 c3 n4 c4 n5 c5 n6 c6 Z7 H1 T g w pv1 r1 r2 R p0):=by
 intro r hm;refine eN Tryz.func163 Tryz.ntmps163 fun J=>?_;unfold H4 at hm;refine qN ?_;refine qU ?_;refine cB Y6k hm (Q0b (hS.bE ([0,1]++Z4 4 7) [2,3]) hL1) ?_;rintro E _ _ _ _ ⟨_,c7,rfl,I,h1,_⟩ hm;refine aL zv7 I ?_;intro _ _ _ K;refine sT 0 K ?_;intro _ _ O;refine kE ?_;refine rsS [0,1,0,1,0,0,0,0,0,1,0,1,2,0,0,0,0] [0,1,2,3,4,5,6,7,8,9,10,11,12,13,14,15,16] O fun w4 ab D=>pu ?_
 rcases bc hm with⟨U,hm⟩|⟨U,hm⟩
 . obtain⟨_,V,hm⟩:=Z9 hm;refine sS [(1,iv E.1.Elem)] Q8o (V8 (D.bE (Z4 1 9++[0]) [10,11]) hL1 _ V) ?_;have W:KD [(12,[3,9,11])]:=⟨qZt⟩;exact zo hm
 have W:KD [(12,[3,9,11])]:=⟨qZt⟩;exact zr hm D

instance:Ct 163 @Q0v:=⟨@Q0v,cf163⟩
theorem Y0{p0:Q0}{p1}(hS:Q19 a1 a2 a3 a4 a5 a6 b1 oo1 n1 c1 n2 c2 n3 c3 n4 c4 n5 c5 n6 c6 Z7 H1 T0 g w0 pv1 r1 r2 R p0)(Z2:Ln Y5 Y4 Z7)(hL1:Ln b1 oo1 H1):∀r,Y8 p0 p1=some r->
 Cl 136 #[pt Y5 Y4,iv p1] w0 (J1 T0 w0 fun T w v=>v= .bool r/\Q15 a1 a2 a3 a4 a5 a6 b1 oo1 n1 c1 n2 c2 n3 c3 n4 c4 n5 c5 n6 c6 Z7 H1 T g w pv1 r1 r2 R p0):=by
 intro r hm;refine eN Tryz.func136 Tryz.ntmps136 fun J=>?_;unfold Y8 at hm;exact zr hm hS

instance:Ct 136 @Y0:=⟨@Y0,Q1l⟩
theorem Q7x{p0:List UInt8}(hS:Sep g T0 w0 [X3 R]):∀r,Q9p p0=some r->
 Cl 178 #[Q16 p0.toArray] w0 (Q25 T0 w0 g R r):=by
 intro r hm;refine eN Tryz.func178 Tryz.ntmps178 fun J=>?_;unfold Q9p at hm;exact zr hm hS

instance:Ct 178 @Q7x:=⟨@Q7x,cf178⟩
theorem Q3o{p0:Y2}(hS:Sep g T0 w0 [X3 R])(h1:Q8 a1 c1 T0 w0 p0.Kids):∀r,Q6l p0=some r->
 Cl 137 #[Q29 a1 c1 p0] w0 (Q17 T0 w0 g R r):=by
 intro r hm;refine eN Tryz.func137 Tryz.ntmps137 fun J=>?_;unfold Q6l at hm;refine sq2 (bX (D6 p0 a1 c1) hS ?_);intro _ _ _ D;refine kA ?_;exact fkC (d:=10) (c:=((p0.Kind==1)&&(p0.Num==0))) 4 [] rfl (fun hk=>zw (p0.Kind==1) hk) fun J=>re hm (D.sE [1])

instance:Ct 137 @Q3o:=⟨@Q3o,Y6j⟩
theorem Q2g(hS:Sep g T0 w0 [X3 R]):∀r,Q1t=some r->
 Cl 138 #[] w0 (J1 T0 w0 fun T w v=>∃a1 c1,v= .agg (U4 r a1 c1).toArray/\Sep g T w (R++[])/\Q10 a1 c1 T w r.Kids/\True):=by
 intro r hm;refine eN Tryz.func138 Tryz.ntmps138 fun J=>?_;unfold Q1t at hm;exact zr hm hS

instance:Ct 138 @Q2g:=⟨@Q2g,Y9j⟩
theorem Q9w{p0:Q0}{p1:Y2}{p2:Z8}{p3:Z8}(hS:Q19 a1 a2 a3 a4 a5 a6 b1 oo1 n1 c1 n2 c2 n3 c3 n4 c4 n5 c5 n6 c6 Z7 H1 T0 g w0 pv1 r1 r2 R p0)(Z2:Ln Y5 Y4 Z7)(hL1:Ln b1 oo1 H1)(h1:Q8 a7 c7 T0 w0 p1.Kids)(h2:Q54 a8 c8 T0 w0 p2)(h3:Q54 a9 c9 T0 w0 p3):∀r,Q2t p0 p1 p2 p3=some r->
 Cl 179 #[pt Y5 Y4,Q29 a7 c7 p1,Q67 a8 c8 p2,Q67 a9 c9 p3] w0 (exR r (fun r=>J1 T0 w0 fun T w v=>∃a21 c21,v= .agg (Q0o r a21 c21).toArray/\Sep g T w (R++X7 p0 Z7 H1 b1 oo1 a1 n1 c1 a2 n2 c2 a3 n3 c3 a4 n4 c4 r1 r2 a5 n5 c5 a6 n6 c6 pv1)/\Q54 a21 c21 T w r/\True) (fun r=>L0 T0 w0 (Q42 a1 a2 a3 a4 a5 a6 b1 oo1 n1 c1 n2 c2 n3 c3 n4 c4 n5 c5 n6 c6 Z7 H1 g pv1 r1 r2 R r.pos r.e p0))):=by
 intro r hm;refine eN Tryz.func179 Tryz.ntmps179 fun J=>?_;unfold Q2t at hm;refine sq2 (bX (D6 p1 a7 c7) hS ?_);intro _ b2 _ aB;refine bX (Q0o p2 a8 c8) aB ?_;intro _ b3 _ aC;refine bX (Q0o p3 a9 c9) aC ?_;intro _ b4 _ aD;refine aL zv1 aD ?_;intro w4 D _ aF;refine pn ?_;refine S9 hm (fun ai a E=>∃I V K W c10 b7 O ab c11,JR (nf 71) g T0 w4 a E I (ai K O=some r) [(0,pt Y5 Y4),(5,pt b2 0),(6,pt b3 0),(7,pt b4 0),(8,pt D 0),(9,pt V 0),(10,pt b7 0)] ([K4 D zv1,Q32 a9 b4 c9 p3,Q32 a8 b3 c8 p2,Q21 a7 b2 c7 p1,X3 R]++(X7 p0 Z7 H1 b1 oo1 a1 n1 c1 a2 n2 c2 a3 n3 c3 a4 n4 c4 r1 r2 a5 n5 c5 a6 n6 c6 pv1++[Q21 W V c10 K,Q21 ab b7 c11 O]))/\Q8 W c10 I E K.Kids/\Q8 ab c11 I E O.Kids) (fun ai hm=>?_) ?_
 . refine rtS [0,1,0,1,0,1,0,1,2,2,2,2] [0,1,2,3,4,5,6,7,8,9,10,11] aF fun w6 bn aG=>?_;have dd:KD [(8,[]),(9,[]),(10,[1,3,8,9]),(11,[1,3,5,7,8,9,10])]:=⟨qZt⟩;exact zr hm aG
 rintro _ E ⟨I,V,K,W,c10,b7,O,ab,c11,⟨J,hm,rfl,aI,_⟩,h4,h5⟩;refine qU ?_;refine cB cf178 hm (Q7x (aI.bE ([0,1,2]++Z4 4 13) [])) ?_;rintro y1 _ T2 _ _ ⟨rfl,aN,_⟩ hm;refine pv (P3 (by kernel_rfl) rfl (u:= .agg #[iv 6,iv y1,.int .u32 0,iv 0,.bool false,iv 0,.bool false,.bool false,.slice none 0 0])) (aL zv3 aN ?_);intro _ ak _ aP;refine sT 0 aP ?_;intro aQ _ aR;refine pn ?_;have aS:=aR.nilO X9 145;refine S9 hm (fun am a an=>∃T3 U ad n7 c14,JR (nf 71) g T2 aQ a an T3 (am U=some r) [(8,pt D 0),(11,pt ak 0)] ([Q65 ad n7 c14 U.Kids,Q36 ad ak n7 c14 U,K4 D zv1,X3 R]++X7 p0 Z7 H1 b1 oo1 a1 n1 c1 a2 n2 c2 a3 n3 c3 a4 n4 c4 r1 r2 a5 n5 c5 a6 n6 c6 pv1)) (fun am hm=>?_) ?_
 . refine blk (qU ?_);refine cB Q1l hm (Y0 (aS.bE (Z4 0 6++[16,17]) (Z4 6 10)) Z2 hL1) ?_;rintro _ _ _ _ _ ⟨rfl,ap,_⟩ hm;refine pu ?_
   rcases bc hm with⟨aT,hm⟩|⟨aT,hm⟩
   . refine pu ?_;refine cB Y6j hm (Q3o (ap.bE (Z4 0 18) []) (mC h5)) ?_;rintro _ _ _ _ _ ⟨rfl,aq,_⟩ hm;refine cd hm ?_ ?_<;>intro bo hm
     . refine rsS [0,1,2,2,0,2] [0,1,2,3,4,5] aq fun bp bq aU=>?_;obtain⟨y4,aV,hm⟩:=Z9 hm;refine sS [(1,.agg (U4 p2.term a8 c8).toArray)] Y9j (Q2g (aU.bE ([0,1,2,5]++Z4 8 10++[4]) []) _ aV) ?_;rintro _ _ _ _ ⟨aW,c15,rfl,aX,_,_⟩;have au:HL 1 X9 ([p2.term,y4]:List Y1) [(U4 p2.term a8 c8),(U4 y4 aW c15)]:=⟨qZt⟩;have dd:KD [(2,[]),(3,[1,2]),(5,[1,2,3])]:=⟨qZt⟩;exact zr hm aX
     refine qU ?_;refine cB Q1l hm (Y0 (aq.bE (Z4 0 8) (Z4 8 10)) Z2 hL1) ?_;rintro _ _ _ _ _ ⟨rfl,av,_⟩ hm;refine pu ?_
     rcases bc hm with⟨aY,hm⟩|⟨aY,hm⟩
     . refine pu ?_;refine cB Y6j hm (Q3o (av.bE (Z4 0 18) []) (mC h4)) ?_;rintro _ _ _ _ _ ⟨rfl,aw,_⟩ hm;refine cd hm ?_ ?_<;>intro bt hm
       . refine rsS [2,0,1,2,0,2] [1,2,0,3,4,5] aw fun bu bv aZ=>?_;obtain⟨y7,ba,hm⟩:=Z9 hm;refine sS [(2,.agg (U4 p3.term a9 c9).toArray)] Y9j (Q2g (aZ.bE ([0,1,2,5]++Z4 8 10++[3]) []) _ ba) ?_;rintro _ _ _ _ ⟨be,c17,rfl,bf,_,_⟩;have au:HL 1 X9 ([y7,p3.term]:List Y1) [(U4 y7 be c17),(U4 p3.term a9 c9)]:=⟨qZt⟩;have dd:KD [(0,[]),(3,[0,2]),(5,[0,2,3])]:=⟨qZt⟩;exact zr hm bf
       exact zr hm aw
     exact zr hm av
   refine pn ?_;refine cnd (b:=false) rfl (fun h=>nomatch h) (fun _=>qU ?_);refine cB Q1l hm (Y0 (ap.bE (Z4 0 8) (Z4 8 10)) Z2 hL1) ?_;rintro _ _ _ _ _ ⟨rfl,ay,_⟩ hm;refine pu ?_
   rcases bc hm with⟨bg,hm⟩|⟨bg,hm⟩
   . refine pu ?_;refine cB Y6j hm (Q3o (ay.bE (Z4 0 18) []) (mC h4)) ?_;rintro _ _ _ _ _ ⟨rfl,az,_⟩ hm;refine cd hm ?_ ?_<;>intro bw hm
     . refine rsS [2,0,1,2,0,2] [1,2,0,3,4,5] az fun bz bA bh=>?_;obtain⟨aA,bi,hm⟩:=Z9 hm;refine sS [(2,.agg (U4 p3.term a9 c9).toArray)] Y9j (Q2g (bh.bE ([0,1,2,5]++Z4 8 10++[3]) []) _ bi) ?_;rintro _ _ _ _ ⟨bj,c19,rfl,bk,_,_⟩;have au:HL 1 X9 ([aA,p3.term]:List Y1) [(U4 aA bj c19),(U4 p3.term a9 c9)]:=⟨qZt⟩;have dd:KD [(0,[]),(3,[0,2]),(5,[0,2,3])]:=⟨qZt⟩;exact zr hm bk
     exact zr hm az
   exact zr hm ay
 rintro _ an ⟨T3,U,ad,n7,c14,J,hm,rfl,bl,_⟩;exact zr hm bl

instance:Ct 179 @Q9w:=⟨@Q9w,cf179⟩
theorem Q5q{p0:Q0}{p1:Y1}{p2:Y1}{p3 p4}(hS:Q19 a1 a2 a3 a4 a5 a6 b1 oo1 n1 c1 n2 c2 n3 c3 n4 c4 n5 c5 n6 c6 Z7 H1 T0 g w0 pv1 r1 r2 R p0)(Z2:Ln Y5 Y4 Z7)(hL1:Ln b1 oo1 H1)(h1:Q10 a7 c7 T0 w0 p1.Kids)(h2:Q10 a8 c8 T0 w0 p2.Kids):∀r,Q0c p0 p1 p2 p3 p4=some r->
 Cl 164 #[pt Y5 Y4,Q62 a7 c7 p1,Q62 a8 c8 p2,iv p3,iv p4] w0 (J1 T0 w0 (Q51 a1 a2 a3 a4 a5 a6 b1 oo1 n1 c1 n2 c2 n3 c3 n4 c4 n5 c5 n6 c6 Z7 H1 g pv1 r1 r2 R r p0 r.Kids)):=by
 intro r hm;refine eN Tryz.func164 Tryz.ntmps164 fun J=>?_;unfold Q0c at hm;refine sq2 (bX (U4 p1 a7 c7) hS ?_);intro _ _ _ E;refine bX (U4 p2 a8 c8) E ?_;intro _ _ _ I;refine aL zv3 I ?_;intro _ _ _ K;refine kE ?_;refine rtS [0,0,0,0,1,0,2,1,1,2,0,2] [0,1,2,3,4,5,7,8,6,9,10,11] K fun w4 af D=>?_;obtain⟨O,U,hm⟩:=Z9 hm;refine tF [6,9] ?_;refine⟨?_,?_,qZt⟩
 . refine brW [9,10,11] [1,1,0] ?_;refine oS Q8o (V8 (D.bE ([0,3,4]++Z4 7 7++[1,2]) [5,6]) hL1 _ U) ?_;rintro _ _ _ _ ⟨rfl,V,_⟩;refine t1W [9] [10,11] [0,0] ?_;refine obS (r:=X9) (l:=([p1,p2]:List Y1)) (css:=[(U4 p1 a7 c7),(U4 p2 a8 c8)]) V ⟨(V9 (x:=p1) (mC h1):X9.rp _ _ _ _),(V9 (x:=p2) (mC h2):X9.rp _ _ _ _),qZt⟩ ?_;intro _ W n7 c9 _ ab;refine pu ?_;refine t0 rfl qZt (fun _=>P3 (by kernel_rfl) rfl (u:= .agg #[iv 14,iv p4,.int .u32 0,iv 0,.bool false,iv O,.bool false,.bool true,.slice W n7 c9])) rfl (t1W [11] [] [] ?_);refine osT 1 ab ?_;intro _ _ ac;refine pn ?_;obtain⟨_,_,ad,_,rfl⟩:=ac.sl 0;exact re hm (ad.sE ([2,3,13,14]++Z4 4 7))
 have ag:HL 1 X9 ([p1,p2]:List Y1) [(U4 p1 a7 c7),(U4 p2 a8 c8)]:=⟨qZt⟩;have dd:KD [(6,[4]),(9,[7,8]),(11,[4,6,7,8,9])]:=⟨qZt⟩;exact zr hm D

instance:Ct 164 @Q5q:=⟨@Q5q,cf164⟩
theorem Q9v{p0:Q0}{p1:Pos}{p2:Z8}{p3:Y1}{p4}(hS:Q19 a1 a2 a3 a4 a5 a6 b1 oo1 n1 c1 n2 c2 n3 c3 n4 c4 n5 c5 n6 c6 Z7 H1 T0 g w0 pv1 r1 r2 R p0)(Z2:Ln Y5 Y4 Z7)(hL1:Ln b1 oo1 H1)(h1:Q54 a7 c7 T0 w0 p2)(h2:Q10 a8 c8 T0 w0 p3.Kids):∀r,Q0z p0 p1 p2 p3 p4=some r->
 Cl 180 #[pt Y5 Y4,Q33 p1,Q67 a7 c7 p2,Q62 a8 c8 p3,iv p4] w0 (exR r (fun r=>J1 T0 w0 fun T w v=>∃a10 c10,v= .agg (Q0o r a10 c10).toArray/\Sep g T w (R++X7 p0 Z7 H1 b1 oo1 a1 n1 c1 a2 n2 c2 a3 n3 c3 a4 n4 c4 r1 r2 a5 n5 c5 a6 n6 c6 pv1)/\Q54 a10 c10 T w r/\True) (fun r=>L0 T0 w0 (Q42 a1 a2 a3 a4 a5 a6 b1 oo1 n1 c1 n2 c2 n3 c3 n4 c4 n5 c5 n6 c6 Z7 H1 g pv1 r1 r2 R r.pos r.e p0))):=by
 intro r hm;refine eN Tryz.func180 Tryz.ntmps180 fun J=>?_;unfold Q0z at hm;refine sq2 (bX [iv p1.Line,iv p1.Col] hS ?_);intro _ _ _ E;refine bX (Q0o p2 a7 c7) E ?_;intro _ _ _ I;refine bX (U4 p3 a8 c8) I ?_;intro _ _ _ K;refine aL zv1 K ?_;intro _ _ _ O;refine kA ?_;refine cB cf163 hm (Q0v (O.bE (Z4 0 5) (Z4 5 10)) Z2 hL1) ?_;rintro _ _ _ _ _ ⟨rfl,D,_⟩ hm;refine pn ?_;refine sq2 (sq2 (cd hm ?_ ?_))<;>intro V hm
 . exact zr hm D
 refine kE ?_;refine rsS [0,1,0,0,1,1,0,0,2,0,2] [0,1,2,3,4,5,6,7,8,9,10] D fun W aa U=>?_;have dd:KD [(8,[4,5]),(10,[1,4,5,8])]:=⟨qZt⟩;exact zr hm U

instance:Ct 180 @Q9v:=⟨@Q9v,cf180⟩
theorem U3{p0:Q0}{p1:Y2}{p2:Z8}{p3}(hS:Q19 a1 a2 a3 a4 a5 a6 b1 oo1 n1 c1 n2 c2 n3 c3 n4 c4 n5 c5 n6 c6 Z7 H1 T0 g w0 pv1 r1 r2 R p0)(Z2:Ln Y5 Y4 Z7)(hL1:Ln b1 oo1 H1)(h1:Q8 a7 c7 T0 w0 p1.Kids)(h2:Q54 a8 c8 T0 w0 p2):∀r,D3 p0 p1 p2 p3=some r->
 Cl 104 #[pt Y5 Y4,Q29 a7 c7 p1,Q67 a8 c8 p2,iv p3] w0 (exR r (fun r=>J1 T0 w0 (Q51 a1 a2 a3 a4 a5 a6 b1 oo1 n1 c1 n2 c2 n3 c3 n4 c4 n5 c5 n6 c6 Z7 H1 g pv1 r1 r2 R r p0 r.Kids)) (fun r=>L0 T0 w0 (Q42 a1 a2 a3 a4 a5 a6 b1 oo1 n1 c1 n2 c2 n3 c3 n4 c4 n5 c5 n6 c6 Z7 H1 g pv1 r1 r2 R r.pos r.e p0))):=by
 intro r hm;refine eN Tryz.func104 Tryz.ntmps104 fun J=>?_;unfold D3 at hm;refine sq2 (bX (D6 p1 a7 c7) hS ?_);intro _ D _ ad;refine bX (Q0o p2 a8 c8) ad ?_;intro _ E _ ae;refine aL zv3 ae ?_;intro _ I _ af;refine kE ?_;refine blk (qU ?_);refine cB Q1l hm (Y0 (af.bE (Z4 0 4) (Z4 4 10)) Z2 hL1) ?_;rintro _ _ _ _ _ ⟨rfl,K,_⟩ hm;refine pu ?_
 rcases bc hm with⟨ag,hm⟩|⟨ag,hm⟩
 . refine pu ?_;refine cB Y6j hm (Q3o (K.bE (Z4 0 14) []) (mC h1)) ?_;rintro _ _ _ _ _ ⟨rfl,O,_⟩ hm;refine cd hm ?_ ?_<;>intro aj hm
   . exact zr hm O
   refine qU ?_;refine cB Q1l hm (Y0 (O.bE (Z4 0 4) (Z4 4 10)) Z2 hL1) ?_;rintro U _ _ _ _ ⟨rfl,V,_⟩ hm;refine pu ?_;refine fkC (d:=27) (c:=(U&&(p2.n==p3))) 5 [(0,pt Y5 Y4),(3,iv p3),(5,pt D 0),(6,pt E 0),(8,pt I 0)] rfl (fun hk=>zw U hk) fun J=>?_;refine cd hm ?_ ?_<;>intro ak hm
   . exact zr hm V
   refine qU ?_;refine cB Q1l hm (Y0 (V.bE (Z4 0 4) (Z4 4 10)) Z2 hL1) ?_;rintro W _ _ _ _ ⟨rfl,ah,_⟩ hm;refine pu ?_;exact fkC (d:=39) (c:=((!W)&&(p2.n==1))) 4 [(5,pt D 0),(6,pt E 0),(8,pt I 0)] rfl (fun hk=>zw (!W) hk) fun J=>zr hm ah
 refine pn ?_;refine cnd (b:=false) rfl (fun h=>nomatch h) (fun _=>qU ?_);refine cB Q1l hm (Y0 (K.bE (Z4 0 4) (Z4 4 10)) Z2 hL1) ?_;rintro y7 _ _ _ _ ⟨rfl,ab,_⟩ hm;refine pu ?_;refine fkC (d:=27) (c:=(y7&&(p2.n==p3))) 5 [(0,pt Y5 Y4),(3,iv p3),(5,pt D 0),(6,pt E 0),(8,pt I 0)] rfl (fun hk=>zw y7 hk) fun J=>?_;refine cd hm ?_ ?_<;>intro am hm
 . exact zr hm ab
 refine qU ?_;refine cB Q1l hm (Y0 (ab.bE (Z4 0 4) (Z4 4 10)) Z2 hL1) ?_;rintro y8 _ _ _ _ ⟨rfl,ai,_⟩ hm;refine pu ?_;exact fkC (d:=39) (c:=((!y8)&&(p2.n==1))) 4 [(5,pt D 0),(6,pt E 0),(8,pt I 0)] rfl (fun hk=>zw (!y8) hk) fun J=>zr hm ai

instance:Ct 104 @U3:=⟨@U3,Z2m⟩
theorem Q1u{p0:Q0}{p1}(hS:Q19 a1 a2 a3 a4 a5 a6 b1 oo1 n1 c1 n2 c2 n3 c3 n4 c4 n5 c5 n6 c6 Z7 H1 T0 g w0 pv1 r1 r2 R p0)(Z2:Ln Y5 Y4 Z7)(hL1:Ln b1 oo1 H1):∀r,J7 p0 p1=some r->
 Cl 182 #[pt Y5 Y4,iv p1] w0 (J1 T0 w0 fun T w v=>v=iv r/\Q15 a1 a2 a3 a4 a5 a6 b1 oo1 n1 c1 n2 c2 n3 c3 n4 c4 n5 c5 n6 c6 Z7 H1 T g w pv1 r1 r2 R p0):=by
 intro r hm;refine eN Tryz.func182 Tryz.ntmps182 fun J=>?_;unfold J7 at hm;exact zr hm hS

instance:Ct 182 @Q1u:=⟨@Q1u,cf182⟩
theorem O7{p0:Q0}{p1:Y2}{p2:Z8}{p3}(hS:Q19 a1 a2 a3 a4 a5 a6 b1 oo1 n1 c1 n2 c2 n3 c3 n4 c4 n5 c5 n6 c6 Z7 H1 T0 g w0 pv1 r1 r2 R p0)(Z2:Ln Y5 Y4 Z7)(hL1:Ln b1 oo1 H1)(h1:Q8 a7 c7 T0 w0 p1.Kids)(h2:Q54 a8 c8 T0 w0 p2):∀r,P2 p0 p1 p2 p3=some r->
 Cl 173 #[pt Y5 Y4,Q29 a7 c7 p1,Q67 a8 c8 p2,iv p3] w0 (exR r (fun r=>J1 T0 w0 (Q51 a1 a2 a3 a4 a5 a6 b1 oo1 n1 c1 n2 c2 n3 c3 n4 c4 n5 c5 n6 c6 Z7 H1 g pv1 r1 r2 R r p0 r.Kids)) (fun r=>L0 T0 w0 (Q42 a1 a2 a3 a4 a5 a6 b1 oo1 n1 c1 n2 c2 n3 c3 n4 c4 n5 c5 n6 c6 Z7 H1 g pv1 r1 r2 R r.pos r.e p0))):=by
 intro r hm;refine eN Tryz.func173 Tryz.ntmps173 fun J=>?_;unfold P2 at hm;refine sq2 (bX (D6 p1 a7 c7) hS ?_);intro _ _ _ I;refine bX (Q0o p2 a8 c8) I ?_;intro _ _ _ K;refine aL zv3 K ?_;intro _ _ _ O;refine kA ?_;refine cP Z2m hm (U3 (O.bE [0,3] (Z4 4 10)) Z2 hL1 (mC h1) (mC h2)) ?_ ?_
 . rintro _ _ _ _ _ ⟨rfl,U,_⟩ hm;exact pe hm (U.sN 1 11)
 rintro D _ _ _ _ ⟨V,c9,rfl,W,h3,_⟩ hm;refine aL zv3 W ?_;intro _ _ _ ab;refine sT 0 ab ?_;intro _ _ E;refine pn ?_;refine sq2 (sq2 (cd hm ?_ ?_))<;>intro ai hm
 . refine sq2 (bS (r:=X9) (l:=([D]:List Y1)) (css:=[(U4 D V c9)]) E ⟨(V9 (x:=D) (mC h3):X9.rp _ _ _ _),qZt⟩ ?_);intro _ ac n7 c10 _ ae;refine pv (P3 (by kernel_rfl) rfl (u:= .agg #[iv 17,iv 0,.int .u32 0,iv 0,.bool false,iv 0,.bool false,.bool false,.slice ac n7 c10])) (sT 2 ae ?_);intro _ _ af;refine pn ?_;obtain⟨_,_,ag,_,rfl⟩:=af.sl 0;exact re hm (ag.sN 3 11)
 refine kE ?_;refine sT 1 E ?_;intro _ _ ah;exact re hm (ah.sN 2 11)

instance:Ct 173 @O7:=⟨@O7,Y9i⟩
theorem Q2w{p0:Q0}{p1:Pos}{p2:Z8}(hS:Q19 a1 a2 a3 a4 a5 a6 b1 oo1 n1 c1 n2 c2 n3 c3 n4 c4 n5 c5 n6 c6 Z7 H1 T0 g w0 pv1 r1 r2 R p0)(Z2:Ln Y5 Y4 Z7)(hL1:Ln b1 oo1 H1)(h1:Q54 a7 c7 T0 w0 p2):∀r,P9 p0 p1 p2=some r->
 Cl 139 #[pt Y5 Y4,Q33 p1,Q67 a7 c7 p2] w0 (exR r (fun r=>J1 T0 w0 fun T w v=>∃a15 c15 a16 n11 c16,v= .agg (Q0o r.1 a15 c15).toArray/\Sep g T w (R++X7 r.2 Z7 H1 b1 oo1 a16 n11 c16 a2 n2 c2 a3 n3 c3 a4 n4 c4 r1 r2 a5 n5 c5 a6 n6 c6 pv1)/\Q54 a15 c15 T w r.1/\True) (fun r=>L0 T0 w0 (Q34 a2 a3 a4 a5 a6 b1 oo1 n2 c2 n3 c3 n4 c4 n5 c5 n6 c6 Z7 H1 g pv1 r1 r2 R r.1.pos r.1.e r.2))):=by
 intro r hm;refine eN Tryz.func139 Tryz.ntmps139 fun J=>?_;unfold P9 at hm;refine sq2 (bX [iv p1.Line,iv p1.Col] hS ?_);intro _ b2 _ aM;refine bX (Q0o p2 a7 c7) aM ?_;intro _ b3 _ aN;refine aL zv1 aN ?_;intro w3 E _ au;refine pn ?_;refine sq2 (sq2 (cd hm ?_ ?_))<;>intro bL hm
 . exact zr hm au
 refine pn ?_;refine S9 hm (fun av a w5=>∃T1 O I a8 c8,JR (nf 78) g T0 w3 a w5 T1 (av I=some r) [(0,pt Y5 Y4),(4,pt b2 0),(5,pt b3 0),(6,pt E 0),(7,pt O 0)] ([K4 E zv1,Q32 a7 b3 c7 p2,K4 b2 [iv p1.Line,iv p1.Col],X3 R]++(X7 p0 Z7 H1 b1 oo1 a1 n1 c1 a2 n2 c2 a3 n3 c3 a4 n4 c4 r1 r2 a5 n5 c5 a6 n6 c6 pv1++[K4 O (Y4u I a8 c8)]))/\Q43 a8 c8 T1 w5 I.Fields) (fun av hm=>?_) ?_
 . refine rtS [0,0,0,1,0,1,2,0,0,0,2,2,0] [0,1,2,3,4,5,6,7,8,9,10,11,12] au fun w6 bN aw=>?_;obtain⟨_,ax,hm⟩:=Z9 hm;refine tF [6,10] ?_;refine⟨?_,?_,qZt⟩
   . refine brW [7,8,9,10,11,12] [0,0] ?_;refine oS Y6k (Q0b (aw.bE (Z4 0 5++Z4 7 7) [5,6]) hL1 _ ax) ?_;rintro _ T2 w7 aS ⟨a9,c9,rfl,ah,h3,_⟩;refine t1W [10] [11,12] [] ?_;refine oaL zv7 ah ?_;intro w8 b6 aX ai;refine t1W [11] [12] [] ?_;refine osT 0 ai ?_;intro w9 aZ aj;refine pu ?_;exact je hm (aj.sE (Z4 1 5++[13,14]++Z4 6 7++[0]))
   refine brW [6,7,8,9,11,12] [] ?_;refine oaL zv7 aw ?_;intro w7 b6 aS ah;refine t1W [6] [7,8,9,11,12] [0,0] ?_;refine oS Y6k (Q0b (ah.bE (Z4 0 6++Z4 8 7) [6,7]) hL1 _ ax) ?_;rintro _ T2 w8 aX ⟨a9,c9,rfl,ai,h3,_⟩;refine t1W [11] [12] [] ?_;refine osT 0 ai ?_;intro w9 aZ aj;refine pu ?_;exact je hm (aj.sE (Z4 1 5++[13,14]++Z4 6 7++[0]))
 rintro _ w5 ⟨T1,O,I,a8,c8,⟨J,hm,rfl,ba,_⟩,h2⟩;refine sq2 (rsS [0,0,0,1,0,1,2,0] [0,1,2,3,4,5,6,7] ba fun bO bP be=>?_);obtain⟨U,bf,hm⟩:=Z9 hm;refine sS [] Q8o (V8 (be.bE (Z4 0 5++Z4 7 8) [5,6]) hL1 _ bf) ?_;rintro _ T3 _ _ ⟨rfl,ay,_⟩;refine pn ?_;refine sq2 (blk (sq2 (cd hm ?_ ?_)))<;>intro bQ hm
 . refine sq2 (aL zv3 ay ?_);intro _ b7 _ bh;refine sT 0 bh ?_;intro bi _ bj;refine pn ?_;refine S9 hm (fun aA a ak=>∃T4 D K c10,JR (nf 78) g T3 bi a ak T4 (aA D=some r) [(0,pt Y5 Y4),(4,pt b2 0),(6,pt E 0),(7,pt O 0),(10,pt b7 0)] [Q68 K b7 c10 D,K4 E zv1,K4 b2 [iv p1.Line,iv p1.Col],X3 R,Z7 [pt b1 oo1,.slice a2 n2 c2,.slice a3 n3 c3,.slice a4 n4 c4,iv p0.u.Main,.map r1,.map r2,.slice a5 n5 c5,.slice a6 n6 c6,pv1],G6 Q1e 49 (.slice a2 n2 c2) p0.u.Globals,G6 (rSl (N7 .u8)) 51 (.slice a3 n3 c3) p0.u.Data,G6 Q6d 32 (.slice a4 n4 c4) p0.u.Codes,Q75 r1 p0.globals,Q75 r2 p0.codes,G6 (N7 .i64) 3 (.slice a5 n5 c5) p0.gtypes,G6 Q3l 171 (.slice a6 n6 c6) p0.signs,K4 O (Y4u I a8 c8),H1 [.slice a1 n1 c1],G6 P8 122 (.slice a1 n1 c1) p0.t.list]/\Q10 K c10 T4 ak D.Kids) (fun aA hm=>?_) ?_
   . have bR:HL 1 X9 ([p2.term]:List Y1) [(U4 p2.term a7 c7)]:=⟨qZt⟩;have dd:KD [(6,[3,5])]:=⟨qZt⟩;exact zr hm bj
   rintro _ ak ⟨T4,D,K,c10,⟨J,hm,rfl,bk,_⟩,_⟩;refine sq2 (Q9y [0,1,0,1,2,1,0,2] [0,1,2,3,5,4,6,7] bk (U5 (Q0a (U5 (C7)))) fun bT bU aC=>pu ?_);obtain⟨y3,aD,hm⟩:=Z9 hm
   rcases y3 with e1|y3
   . have hm:=J4 hm;refine s2 [(5,.agg (U4 D K c10).toArray)] rfl qZt rfl (by kernel_rfl) (Q8x cf156 rfl (Q2j (p0:=p0) (p1:=p1) (p2:=I.Elem) (aC.bE [1,3,0,12,2] ([4,13,14]++Z4 5 7)) Z2 hL1 _ aD) rfl fun v4 T7 bZ b0 bl=>?_);obtain⟨_,_,c13,rfl,bm,_⟩:=bl;exact pe hm (bm.sE ([1]++Z4 5 10))
   have hm:=C4 hm;refine sS [(5,.agg (U4 D K c10).toArray)] cf156 (Q2j (aC.bE [1,3,0,12,2] ([4,13,14]++Z4 5 7)) Z2 hL1 _ aD) ?_;rintro _ _ _ _ ⟨_,_,c12,rfl,bn,_⟩;refine pu ?_;refine s0 rfl qZt (fun _=>P3 (by kernel_rfl) rfl (u:= .agg #[iv y3.1,iv D.Kind,iv D.Fn,.int .u32 D.Num,iv D.Var,.bool D.Global,iv D.Size,.bool D.Post,.bool D.Ptr,sv K D.Kids c10,.bool false])) rfl (s2W [0] ?_);refine osT 0 bn ?_;intro _ _ bo;exact re hm (bo.sE ([1]++Z4 5 10))
 refine sq2 (rsS [0,0,0,1,0,1,2,0,0] [0,1,2,3,4,5,6,7,8] ay fun b8 b9 bp=>?_);obtain⟨_,bq,hm⟩:=Z9 hm;refine sS [] cf76 (Q0h (bp.bE (Z4 0 12) [13,14]) hL1 _ bq) ?_;rintro _ T8 bu _ ⟨rfl,aE,_⟩;refine cd hm ?_ ?_<;>intro cc hm
 . have dd:KD [(6,[3,5])]:=⟨qZt⟩;exact zr hm aE
 refine kD ?_;refine S9 hm (fun aF a aG=>∃aI V,JR (nf 78) g T8 bu a aG aI (aF V=some r) [(0,pt Y5 Y4),(5,pt b3 0),(6,pt E 0),(9,iv U),(11,iv V)] [K4 E zv1,Q32 a7 b3 c7 p2,X3 R,Z7 [pt b1 oo1,.slice a2 n2 c2,.slice a3 n3 c3,.slice a4 n4 c4,iv p0.u.Main,.map r1,.map r2,.slice a5 n5 c5,.slice a6 n6 c6,pv1],G6 Q1e 49 (.slice a2 n2 c2) p0.u.Globals,G6 (rSl (N7 .u8)) 51 (.slice a3 n3 c3) p0.u.Data,G6 Q6d 32 (.slice a4 n4 c4) p0.u.Codes,Q75 r1 p0.globals,Q75 r2 p0.codes,G6 (N7 .i64) 3 (.slice a5 n5 c5) p0.gtypes,G6 Q3l 171 (.slice a6 n6 c6) p0.signs,H1 [.slice a1 n1 c1],G6 P8 122 (.slice a1 n1 c1) p0.t.list]) (fun aF hm=>?_) ?_
 . have dd:KD [(6,[3,5])]:=⟨qZt⟩;exact zr hm aE
 rintro _ aG ⟨aI,V,J,hm,rfl,bv,_⟩;refine sq2 (rtS [0,0,0,0,2,0,1,2,0,0,2] [0,1,2,3,5,6,4,7,8,9,10] bv fun ce cf aJ=>?_);obtain⟨y6,aK,hm⟩:=Z9 hm;refine tF [4,7] ?_;refine⟨?_,?_,qZt⟩
 . refine brW [7,8,9,10] [] ?_;refine oS Q1l (Y0 (aJ.bE [0,2,1] ([3,11,12]++Z4 4 7)) Z2 hL1 _ aK) ?_;rintro _ bw bz bA ⟨rfl,ao,_⟩;refine t1W [7] [8,9,10] [0] ?_;refine obS (r:=X9) (l:=([p2.term]:List Y1)) (css:=[(U4 p2.term a7 c7)]) ao ⟨(V9 (x:=p2.term) (mC h1):X9.rp _ _ _ _),qZt⟩ ?_;intro bC W aa c14 bD ap;refine pu ?_;refine t0 rfl qZt (fun _=>P3 (by kernel_rfl) rfl (u:= .agg #[iv 3,iv 0,.int .u32 0,iv 0,.bool false,iv U,.bool false,.bool y6,.slice W aa c14])) rfl (t0 rfl qZt (fun _=>P3 (by kernel_rfl) rfl (u:= .agg #[iv V,iv 3,iv 0,.int .u32 0,iv 0,.bool false,iv U,.bool false,.bool y6,.slice W aa c14,.bool false])) rfl (t1W [10] [] [] ?_));refine osT 1 ap ?_;intro bF bG aq;refine pn ?_;obtain⟨bI,bJ,ar,h6,rfl⟩:=aq.sl 0;exact re hm (ar.sE ([2]++Z4 4 10))
 refine brW [4,8,9,10] [0] ?_;refine obS (r:=X9) (l:=([p2.term]:List Y1)) (css:=[(U4 p2.term a7 c7)]) aJ ⟨(V9 (x:=p2.term) (mC h1):X9.rp _ _ _ _),qZt⟩ ?_;intro bz W aa c14 bA ao;refine t1W [4] [8,9,10] [] ?_;refine oS Q1l (Y0 (ao.bE [0,1,3] ([4,12,13]++Z4 5 7)) Z2 hL1 _ aK) ?_;rintro _ bw bC bD ⟨rfl,ap,_⟩;refine pu ?_;refine t0 rfl qZt (fun _=>P3 (by kernel_rfl) rfl (u:= .agg #[iv 3,iv 0,.int .u32 0,iv 0,.bool false,iv U,.bool false,.bool y6,.slice W aa c14])) rfl (t0 rfl qZt (fun _=>P3 (by kernel_rfl) rfl (u:= .agg #[iv V,iv 3,iv 0,.int .u32 0,iv 0,.bool false,iv U,.bool false,.bool y6,.slice W aa c14,.bool false])) rfl (t1W [10] [] [] ?_));refine osT 1 ap ?_;intro bF bG aq;refine pn ?_;obtain⟨bI,bJ,ar,h6,rfl⟩:=aq.sl 0;exact re hm (ar.sN 2 11)

instance:Ct 139 @Q2w:=⟨@Q2w,cf139⟩
theorem Z2d{p0:Z5}{p1}{p2:List UInt8}(hS:Q24 a1 n1 c1 Z7 T0 g w0 R p0)(Z2:Ln Y5 Y4 Z7):∀r,Q3f p0 p1 p2=some r->
 Cl 183 #[pt Y5 Y4,iv p1,Q16 p2.toArray] w0 (J1 T0 w0 fun T w v=>v= .tuple #[Q76 r.1,iv r.2]/\Q20 a1 n1 c1 Z7 T g w R p0):=by
 intro r hm;refine eN Tryz.func183 Tryz.ntmps183 fun J=>?_;unfold Q3f at hm;refine sq2 (aL zv15 hS ?_);intro _ E _ ab;refine kE ?_;refine blk (qU ?_);refine pv (r_pne rfl rfl rfl underlying65) (pn ?_);refine cnd (b:=false) rfl (fun h=>nomatch h) (fun _=>qU ?_);refine cB cf110 hm (Q6k (ab.bE [0,1] [2,3]) Z2) ?_;rintro _ _ T1 w2 _ ⟨rfl,D,_⟩ hm;refine cd hm ?_ ?_<;>intro ak hm
 . exact zr hm D
 refine sq2 ?_;obtain⟨u1,K,hm⟩:=Z9 hm;obtain⟨cs1,ae,_⟩:=(D.own (i:=3) ⟨rfl,rfl⟩).v.ixcS K rfl;obtain⟨O,c2,rfl,h1⟩:=I5 ae;refine cd hm ?_ ?_<;>intro am hm
 . exact zr hm D
 refine kE ?_;refine sq2 ?_;obtain⟨u2,ag,hm⟩:=Z9 hm;obtain rfl:u1=u2:=oI (K.symm.trans ag);refine pu ?_;refine nil (E9 [(2,(qZs p2)),(6,pt E 0),(40,sv O u1.Type_.Fields c2),(41,iv (List.length u1.Type_.Fields:Int)),(42,iv 0)] ⟨rfl,rfl,rfl,rfl,rfl,qZt⟩ fun J=>lpJ hm (fun U V m a W=>∃T2 I,JR (nf 53) g T1 w2 a W T2 (X8 U m I=some V) [(2,(qZs p2)),(6,pt E 0),(40,sv O u1.Type_.Fields c2),(41,iv (List.length u1.Type_.Fields:Int)),(42,iv I)] [K4 E zv15,X3 R,Z7 [.slice a1 n1 c1],Q7 a1 n1 c1 p0]) (fun _ _ h=>je h (D.sN 0 4)) ?_);rintro U ah V _ _ _ W ⟨T2,I,J,ai,rfl,aj,_⟩;obtain⟨m1,_,rfl,hm,_⟩:=lrE ai ah;exact zr hm aj
instance:Ct 183 @Z2d:=⟨@Z2d,cf183⟩
end Go.Proofs.YtfffghclkmbopaaGreat
