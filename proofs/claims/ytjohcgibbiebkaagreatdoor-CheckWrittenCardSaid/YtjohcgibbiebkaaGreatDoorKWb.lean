/- Go functions compute their models. -/
import Derived.Test.YtjohcgibbiebkaaGreatDoorKWa
set_option linter.unusedVariables false
namespace Go.Proofs.YtjohcgibbiebkaaGreatDoor
open _root_.Go.Proofs.Tryz
set_option maxRecDepth 100000
set_option maxHeartbeats 8000000
attribute [local irreducible] wpList wpQuiet Code.wp
variable{g:World}{T0:TP}{w0:World}{R:List X1}
variable{b1 b2 Y3 Q1x Z9o Z9n Y1k c1 c2 c3 c4 c5 c6 c7 c8 c9 c10 c11 c12 c13 n1 n2 n3 n4 n5 n6 n7 Y2 Q1w Z9e Z9d Y0q oo1 oo2:Nat}{H1 H2 Z6 Q0a Z6j Z6i Z9p:Ab->X1}{a1 a2 a3 a4 a5 a6 a7 a8 a9 a10 a11 a12 a13:OA}{r1 r2:Option Nat}{pv1:Value}
attribute [local irreducible] H8 Q1o execOp Program.underlying sizeOf isAgg zeroValue

def Q2w(F:Z0->Option (An ((List Z5)×Z0))):Prop:=∀{g:World}{T0:TP}{w0:World}{R:List X1}{p0:Z0}{Y3 Y2:Nat}{Z6:Ab->X1}{a1 c1}(hS:Q30 a1 c1 Z6 T0 g w0 R p0)(Z1:Ln Y3 Y2 Z6)(h1:Q6 a1 c1 T0 w0 p0.l),∀r,F p0=some r->
 Cl 124 #[pt Y3 Y2] w0 (exR r (fun r=>J6 T0 w0 (Q34 Z6 g R r.2 r.1 r.2.l)) (fun r=>L8 T0 w0 (Q3 Z6 g R r.1.pos r.1.e r.2 r.2.l)))
def Q5n(F:Z0->Option (An ((List Z5)×Z0))):Prop:=∀{g:World}{T0:TP}{w0:World}{R:List X1}{p0:Z0}{Y3 Y2:Nat}{Z6:Ab->X1}{a1 c1}(hS:Q30 a1 c1 Z6 T0 g w0 R p0)(Z1:Ln Y3 Y2 Z6)(h1:Q6 a1 c1 T0 w0 p0.l),∀r,F p0=some r->
 Cl 212 #[pt Y3 Y2] w0 (exR r (fun r=>J6 T0 w0 (Q34 Z6 g R r.2 r.1 r.2.l)) (fun r=>L8 T0 w0 (Q3 Z6 g R r.1.pos r.1.e r.2 r.2.l)))
def Q6n(F:Z0->Option (An (Z5×Z0))):Prop:=∀{g:World}{T0:TP}{w0:World}{R:List X1}{p0:Z0}{Y3 Y2:Nat}{Z6:Ab->X1}{a1 c1}(hS:Q30 a1 c1 Z6 T0 g w0 R p0)(Z1:Ln Y3 Y2 Z6)(h1:Q6 a1 c1 T0 w0 p0.l),∀r,F p0=some r->
 Cl 210 #[pt Y3 Y2] w0 (exR r (fun r=>J6 T0 w0 (Q15 Z6 g R r.1 r.2 r.1.Kids r.2.l)) (fun r=>L8 T0 w0 (Q3 Z6 g R r.1.pos r.1.e r.2 r.2.l)))
def Q7i(F:Z0->Option (An (Z5×Z0))):Prop:=∀{g:World}{T0:TP}{w0:World}{R:List X1}{p0:Z0}{Y3 Y2:Nat}{Z6:Ab->X1}{a1 c1}(hS:Q30 a1 c1 Z6 T0 g w0 R p0)(Z1:Ln Y3 Y2 Z6)(h1:Q6 a1 c1 T0 w0 p0.l),∀r,F p0=some r->
 Cl 205 #[pt Y3 Y2] w0 (exR r (fun r=>J6 T0 w0 (Q15 Z6 g R r.1 r.2 r.1.Kids r.2.l)) (fun r=>L8 T0 w0 (Q3 Z6 g R r.1.pos r.1.e r.2 r.2.l)))
def Q6l(F:Z0->Option (An (Z5×Z0))):Prop:=∀{g:World}{T0:TP}{w0:World}{R:List X1}{p0:Z0}{Y3 Y2:Nat}{Z6:Ab->X1}{a1 c1}(hS:Q30 a1 c1 Z6 T0 g w0 R p0)(Z1:Ln Y3 Y2 Z6)(h1:Q6 a1 c1 T0 w0 p0.l),∀r,F p0=some r->
 Cl 185 #[pt Y3 Y2] w0 (exR r (fun r=>J6 T0 w0 (Q15 Z6 g R r.1 r.2 r.1.Kids r.2.l)) (fun r=>L8 T0 w0 (Q3 Z6 g R r.1.pos r.1.e r.2 r.2.l)))
def Q5p(F:Z0->Int->Option (An (Z5×Z0))):Prop:=∀{g:World}{T0:TP}{w0:World}{R:List X1}{p0:Z0}{Y3 Y2:Nat}{Z6:Ab->X1}{a1 c1 p1}(hS:Q30 a1 c1 Z6 T0 g w0 R p0)(Z1:Ln Y3 Y2 Z6)(h1:Q6 a1 c1 T0 w0 p0.l),∀r,F p0 p1=some r->
 Cl 160 #[pt Y3 Y2,iv p1] w0 (exR r (fun r=>J6 T0 w0 (Q15 Z6 g R r.1 r.2 r.1.Kids r.2.l)) (fun r=>L8 T0 w0 (Q3 Z6 g R r.1.pos r.1.e r.2 r.2.l)))
def Q7k(F:Z0->Option (An (Z5×Z0))):Prop:=∀{g:World}{T0:TP}{w0:World}{R:List X1}{p0:Z0}{Y3 Y2:Nat}{Z6:Ab->X1}{a1 c1}(hS:Q30 a1 c1 Z6 T0 g w0 R p0)(Z1:Ln Y3 Y2 Z6)(h1:Q6 a1 c1 T0 w0 p0.l),∀r,F p0=some r->
 Cl 119 #[pt Y3 Y2] w0 (exR r (fun r=>J6 T0 w0 (Q15 Z6 g R r.1 r.2 r.1.Kids r.2.l)) (fun r=>L8 T0 w0 (Q3 Z6 g R r.1.pos r.1.e r.2 r.2.l)))
def Q5q(F:Z0->Option (An (Z5×Z0))):Prop:=∀{g:World}{T0:TP}{w0:World}{R:List X1}{p0:Z0}{Y3 Y2:Nat}{Z6:Ab->X1}{a1 c1}(hS:Q30 a1 c1 Z6 T0 g w0 R p0)(Z1:Ln Y3 Y2 Z6)(h1:Q6 a1 c1 T0 w0 p0.l),∀r,F p0=some r->
 Cl 88 #[pt Y3 Y2] w0 (exR r (fun r=>J6 T0 w0 (Q15 Z6 g R r.1 r.2 r.1.Kids r.2.l)) (fun r=>L8 T0 w0 (Q3 Z6 g R r.1.pos r.1.e r.2 r.2.l)))
structure Sp1(G:Z1q):Prop where
 U1:Q2w G.U1
 F0:Q5n G.F0
 J7:Q6n G.J7
 C2:Q7i G.C2
 X9:Q6l G.X9
 J4:Q5p G.J4
 D8:Q7k G.D8
 X3:Q5q G.X3
theorem Z6a{G:Z1q}(hG:Sp1 G):Q2w (P2 G):=by
 intro g _ _ R _ Y3 Y2 Z6 a1 c1 hS Z1 h1 r hm;refine eN Tryz.func124 Tryz.ntmps124 fun J=>?_;unfold P2 at hm;refine qN ?_;refine qU ?_;refine cP Z6h hm (V6 (hS.bE [0] [1]) Z1 h1) ?_ ?_
 . exact zk
 rintro _ _ _ _ _ ⟨_,c2,rfl,E,h2,_⟩ hm;refine kA ?_;refine cP Y3g hm (hG.X3 (E.bE [0] [1]) Z1 h2) ?_ ?_
 . exact zk
 rintro D _ _ _ _ ⟨I,c3,_,c4,rfl,K,h3,_,_⟩ hm;have O:HL 1 E3 ([D.1]:List Z5) [(E9 D.1 I c3)]:=⟨qZt⟩;exact zr hm K
theorem Z8z{G:Z1q}(hG:Sp1 G):Q5n (C6 G):=by
 intro g _ _ R _ Y3 Y2 Z6 a1 c1 hS Z1 h1 r hm;refine eN Tryz.func212 Tryz.ntmps212 fun J=>?_;unfold C6 at hm;refine qN ?_;refine qU ?_;refine cP Z6h hm (V6 (hS.bE [0] [1]) Z1 h1) ?_ ?_
 . exact zk
 rintro _ _ _ _ _ ⟨_,c2,rfl,af,h2,_⟩ hm;refine kB ?_;refine cB Z4j hm (V2 (af.bE [0] [1]) Z1 h2) ?_;rintro _ _ _ _ _ ⟨_,c3,rfl,ab,h3,_⟩ hm;refine cd hm ?_ ?_<;>intro aB hm
 . refine qN ?_;have ag:=ab.nilO E3 155;exact re hm (ag.sE [1,2,0])
 refine kA ?_;refine cP Y3g hm (hG.X3 (ab.bE [0] [1]) Z1 h3) ?_ ?_
 . exact zk
 rintro E _ T3 _ _ ⟨a4,c4,_,c5,rfl,aj,h4,_,_⟩ hm;refine bS (r:=E3) (l:=([E.1]:List Z5)) (css:=[(E9 E.1 a4 c4)]) aj ⟨(Q3b (x:=E.1) h4:E3.rp _ _ _ _),qZt⟩ ?_;intro w4 _ _ c6 _ an;refine kE ?_;refine lpJ hm (fun ac o1 m a I=>∃K D O U V c7 W c8,JR (nf 21) g T3 w4 a I K (loopM ac m (O,D)=some o1) [(0,pt Y3 Y2),(3,.slice U V c7)] [F5 E3 155 (.slice U V c7) O,X0 R,Q1 W c8 Z6 D]/\Q6 W c8 K I D.l) (fun _ _ h=>je h (an.sE [0,1,2])) ?_;rintro ac ao o1 _ _ _ I ⟨K,D,O,U,V,c7,W,c8,⟨J,ap,rfl,aq,_⟩,h6⟩;obtain⟨m1,_,rfl,hm,ar⟩:=lrE ap ao;refine sq2 (qU ?_);refine cB Z4j hm (V2 (aq.bE [0,1] [2]) Z1 h6) ?_;rintro _ _ _ _ _ ⟨_,c9,rfl,ae,h7,_⟩ hm;refine cd hm ?_ ?_<;>intro aC hm
 . refine pn ?_;refine blk (pu ?_);refine cP Y3g hm (hG.X3 (ae.bE [0,1] [2]) Z1 h7) ?_ ?_
   . exact zk
   rintro y5 _ _ _ _ ⟨av,c10,_,c11,rfl,aw,h8,_,_⟩ hm;refine bS (r:=E3) (l:=([y5.1]:List Z5)) (css:=[(E9 y5.1 av c10)]) aw ⟨(Q3b (x:=y5.1) h8:E3.rp _ _ _ _),qZt⟩ ?_;intro _ _ _ c12 _ ay;obtain⟨_,az,hm⟩:=bindS hm;refine aO 1 ay (K9 az) ?_;intro _ _ _ c13 _ aA;exact lg hm ar (aA.sE [1,2,3])
 exact zr hm ae
theorem Z9z{G:Z1q}(hG:Sp1 G):Q6n (J3 G):=by
 intro g _ _ R _ Y3 Y2 Z6 a1 c1 hS Z1 h1 r hm;refine eN Tryz.func210 Tryz.ntmps210 fun J=>?_;unfold J3 at hm;refine sq2 (aL zv2 hS ?_);intro _ V _ ac;refine kA ?_;refine cB cf49 hm (I7 (ac.bE [0,1] [2]) Z1 (mC h1)) ?_;rintro W _ T1 _ _ ⟨rfl,ae,_⟩ hm;refine pv (P3 (by kernel_rfl) rfl (u:= .agg #[iv 0,iv W.Line,iv W.Col,qZs [],qZs [],.int .u32 0,qZs [],qZs [],iv 0,.slice none 0 0])) (aL zv2 ae ?_);intro _ b2 _ af;refine sT 0 af ?_;intro w4 _ ah;refine pn ?_;refine O1 hm (fun ab a D=>∃E I K O c2 U c3,JR (nf 64) g T1 w4 a D E (ab K I=some r) [(2,pt V 0),(3,pt b2 0)] [Q22 O b2 c2 K,K7 V zv2,X0 R,Q1 U c3 Z6 I]/\Q7 O c2 E D K.Kids/\Q6 U c3 E D I.l) (fun ab hm=>?_) ?_
 . have aj:Ctr Tryz.prog 88 (type_of%@hG.X3):=⟨@hG.X3,Y3g⟩;have ak:Ctr Tryz.prog 124 (type_of%@hG.U1):=⟨@hG.U1,X3g⟩;have am:Ctr Tryz.prog 212 (type_of%@hG.F0):=⟨@hG.F0,cf212⟩;exact zr hm ah
 rintro _ D ⟨E,I,K,O,c2,U,c3,⟨J,hm,rfl,ai,_⟩,h2,h3⟩;exact zr hm ai
theorem Y1z{G:Z1q}(hG:Sp1 G):Q7i (D4 G):=by
 intro g _ _ R _ Y3 Y2 Z6 a1 c1 hS Z1 h1 r hm;refine eN Tryz.func205 Tryz.ntmps205 fun J=>?_;unfold D4 at hm;refine sq2 (aL zv2 hS ?_);intro _ K _ aG;refine kA ?_;refine cP cf210 hm (hG.J7 (aG.bE [0,1] [2]) Z1 (mC h1)) ?_ ?_
 . exact zk
 rintro _ _ T1 _ _ ⟨_,c2,_,c3,rfl,aJ,h2,h3,_⟩ hm;refine aL zv2 aJ ?_;intro _ O _ aK;refine sT 0 aK ?_;intro w4 _ aN;refine pn ?_;refine lpJ hm (fun ap o1 m a w5=>∃W U D I c4 a5 c5,JR (nf 42) g T1 w4 a w5 W (loopM ap m (D,U)=some o1) [(0,pt Y3 Y2),(2,pt K 0),(3,pt O 0)] [Q22 I O c4 D,K7 K zv2,X0 R,Q1 a5 c5 Z6 U]/\Q7 I c4 W w5 D.Kids/\Q6 a5 c5 W w5 U.l) (fun _ _ h=>je h (aN.sN 0 4)) ?_;rintro ap aP o1 ar _ _ w5 ⟨W,U,D,I,c4,a5,c5,⟨J,aQ,rfl,aR,_⟩,h4,h5⟩;obtain⟨m1,z1,rfl,hm,av⟩:=lrE aQ aP;refine blk (sq2 (aL zv2 aR ?_));intro w6 V _ aU;refine pn ?_;have aV:=aU.nilO E3 155;refine O1 hm (fun aw a w7=>∃T3 x5 E a6 n1 c6 a7 c7,JR (nf 42) g W w6 a w7 T3 (aw E x5=some z1) [(0,pt Y3 Y2),(2,pt K 0),(3,pt O 0),(4,pt V 0)] [F5 E3 155 (.slice a6 n1 c6) E.Kids,K7 V [iv E.Kind,iv E.Pos.Line,iv E.Pos.Col,Q14 E.Op.toArray,Q14 E.Name.toArray,.int .u32 E.Num,Q14 E.Type_.Word.toArray,Q14 E.Type_.Name.toArray,iv E.Type_.Stars,.slice a6 n1 c6],Q22 I O c4 D,K7 K zv2,X0 R,Q1 a7 c7 Z6 x5]/\Q6 a7 c7 T3 w7 x5.l) (fun aw hm=>?_) ?_
 . refine qU ?_;refine cB Y9v hm (Q0d (aV.bE (Z4 0 5) [5]) Z1 (mC h5)) ?_;rintro y2 _ T4 w8 _ ⟨rfl,ax,_⟩ hm;refine pn ?_;refine blk (sq2 (cd hm ?_ ?_))<;>intro bw hm
   . refine qU ?_;refine cB Y8f hm (P8 (ax.bE (Z4 0 5) [5]) Z1 (mC h5)) ?_;rintro y3 _ _ _ _ ⟨_,c8,_,c9,rfl,ba,_,h8,_⟩ hm;refine sT 1 ba ?_;intro _ _ be;refine kE ?_;refine sT 1 be ?_;intro _ _ bf;refine kE ?_;refine Z1p [1,0,2,2,0,2] [0,1,2,3,4,5] bf (U5 (Q0s (U5 (Q0s (U5 (Q0s (C8))))))) fun bz bA az=>pu ?_;obtain⟨y4,aA,hm⟩:=bindS hm
     rcases y4 with e2|y4
     . have hm:=G0 hm;refine s2 [(0,.agg (E9 D I c4).toArray)] rfl qZt rfl (by kernel_rfl) (Z0k Y3g rfl (hG.X3 (p0:=y3.2) (az.bE (Z4 1 4) [5]) Z1 (mC h8) _ aA) rfl fun v7 T9 bF bG bg=>?_);obtain⟨_,c15,rfl,bh,_,_⟩:=bg;have hm:=Q5e hm av ar;exact pe hm (bh.sE [3,4])
     have hm:=C1 hm;refine sS [(0,.agg (E9 D I c4).toArray)] Y3g (hG.X3 (az.bE (Z4 1 4) [5]) Z1 (mC h8) _ aA) ?_;rintro _ _ _ _ ⟨bi,c10,_,c11,rfl,bj,h9,bm,_⟩;refine s2W [0] ?_;refine obS (r:=E3) (l:=([D,y4.1]:List Z5)) (css:=[(E9 D I c4),(E9 y4.1 bi c10)]) bj ⟨(Q3b (x:=D) (mC h4):E3.rp _ _ _ _),(Q3b (x:=y4.1) h9:E3.rp _ _ _ _),qZt⟩ ?_;intro _ _ _ c12 _ bn;refine s2W [] ?_;refine osT 1 bn ?_;intro _ _ bo;refine pn ?_;refine cP Z6h hm (V6 (bo.bE (Z4 0 5) [5]) Z1 (mC bm)) ?_ ?_
     . rintro _ _ _ _ _ ⟨_,c14,rfl,bp,_,_⟩ hm;have hm:=Q5e hm av ar;exact pe hm (bp.sE [4,5])
     rintro _ _ _ _ _ ⟨_,c13,rfl,bq,_,_⟩ hm;exact je hm (bq.sN 0 6)
   refine O1 hm (fun aB a ak=>∃am x6,JR (nf 42) g T4 w8 a ak am (aB x6=some z1) [(0,pt Y3 Y2),(2,pt K 0),(3,pt O 0),(4,pt V 0),(8,(qZs y2)),(22,.bool x6)] [F5 E3 155 (.slice none 0 0) [],K7 V zv2,Q22 I O c4 D,K7 K zv2,X0 R,Q1 a5 c5 Z6 U]) (fun aB hm=>?_) ?_
   . exact zr hm ax
   rintro _ ak ⟨am,x6,J,hm,rfl,aC,_⟩;refine cd hm ?_ ?_<;>intro bI hm
   . have bt:HL 1 E3 ([D]:List Z5) [(E9 D I c4)]:=⟨qZt⟩;exact zr hm aC
   refine O1 hm (fun aD a aE=>∃aF x7,JR (nf 42) g am ak a aE aF (aD x7=some z1) [(0,pt Y3 Y2),(2,pt K 0),(3,pt O 0),(4,pt V 0),(33,.bool x7)] [F5 E3 155 (.slice none 0 0) [],K7 V zv2,Q22 I O c4 D,K7 K zv2,X0 R,Q1 a5 c5 Z6 U]) (fun aD hm=>?_) ?_
   . exact zr hm aC
   rintro _ aE ⟨aF,x7,J,hm,rfl,bu,_⟩;have bt:HL 1 E3 ([D]:List Z5) [(E9 D I c4)]:=⟨qZt⟩;exact zr hm bu
 rintro _ w7 ⟨T3,x5,E,a6,n1,c6,a7,c7,⟨J,hm,rfl,bv,_⟩,h6⟩;exact zr hm bv
theorem Z9y{G:Z1q}(hG:Sp1 G):Q6l (G9 G):=by
 intro g _ _ R _ Y3 Y2 Z6 a1 c1 hS Z1 h1 r hm;refine Y7z Tryz.func185 rfl Tryz.ntmps185 rfl fun J=>?_;unfold G9 at hm;refine sq2 (aL zv2 hS ?_);intro _ I _ aD;refine kA ?_;refine cP X3h hm (Q0n (aD.bE [0,1] [2]) Z1 (mC h1)) ?_ ?_
 . exact zk
 rintro y1 _ _ _ _ ⟨D,a2,c2,rfl,aE,h2,_⟩ hm;refine wl rfl (dfO (f:=159) (cap:=#[pt D 0]) rfl (pn ?_));refine sq2 (qU ?_);refine cB Y9v hm (Q0d (aE.bE [0,1,3] [2]) Z1 h2) ?_;rintro y2 _ T2 w3 _ ⟨rfl,aJ,_⟩ hm;refine pn ?_;refine blk (O1 hm (fun av a W=>∃T3 x1,JR (⟨49,[⟨.fn (.func 159) #[pt D 0],#[]⟩]⟩) g T2 w3 a W T3 (av x1=some r) [(0,pt Y3 Y2),(2,pt I 0),(10,(qZs y2)),(11,.bool x1)] [K7 I zv2,X0 R,K7 D [pt Y3 Y2],Q1 a2 c2 Z6 y1]) (fun av hm=>?_) ?_)
 . exact zr hm aJ
 rintro _ W ⟨T3,x1,J,hm,rfl,aw,_⟩;refine cd hm ?_ ?_<;>intro cm hm
 . refine qU ?_;refine cB Y8f hm (P8 (aw.bE [0,1,2] [3]) Z1 (mC h2)) ?_;rintro _ _ _ _ _ ⟨_,c3,_,c4,rfl,aK,h3,h4,_⟩ hm;refine aL zv2 aK ?_;intro _ _ _ aN;refine sT 0 aN ?_;intro _ _ aP;refine kA ?_;refine cP cf185 hm (hG.X9 (aP.bE (Z4 0 4) [4]) Z1 (mC h4)) ?_ ?_
   . rintro _ _ _ _ _ ⟨_,c8,rfl,aQ,_,_⟩ hm;refine pn ?_;exact Q5u Q1s (W7 (args:=[pt D 0]) Tryz.func159 rfl Tryz.ntmps159 rfl rfl fun J=>zr hm aQ)
   rintro y4 _ _ _ _ ⟨a5,c5,_,c6,rfl,aS,h5,h6,_⟩ hm;refine bS (r:=E3) (l:=([y4.1]:List Z5)) (css:=[(E9 y4.1 a5 c5)]) aS ⟨(Q3b (x:=y4.1) h5:E3.rp _ _ _ _),qZt⟩ ?_;intro _ _ _ c7 _ aU;refine sT 1 aU ?_;intro _ _ aV;refine kE ?_;refine sT 2 aV ?_;intro _ _ aW;refine pn ?_;refine pn ?_;exact retD Q1s (W7 (args:=[pt D 0]) Tryz.func159 rfl Tryz.ntmps159 rfl rfl fun J=>zr hm aW)
 refine O1 hm (fun ax a ay=>∃T8 x2,JR (⟨49,[⟨.fn (.func 159) #[pt D 0],#[]⟩]⟩) g T3 W a ay T8 (ax x2=some r) [(0,pt Y3 Y2),(2,pt I 0),(24,.bool x2)] [K7 I zv2,X0 R,K7 D [pt Y3 Y2],Q1 a2 c2 Z6 y1]) (fun ax hm=>?_) ?_
 . exact zr hm aw
 rintro _ ay ⟨T8,x2,J,hm,rfl,aA,_⟩;refine cd hm ?_ ?_<;>intro cn hm
 . refine qU ?_;refine cB Y8f hm (P8 (aA.bE [0,1,2] [3]) Z1 (mC h2)) ?_;rintro _ _ _ _ _ ⟨_,c9,_,c10,rfl,aX,_,aY,_⟩ hm;refine aL zv2 aX ?_;intro _ _ _ aZ;refine sT 0 aZ ?_;intro _ _ ba;refine kA ?_;refine cP cf185 hm (hG.X9 (ba.bE (Z4 0 4) [4]) Z1 (mC aY)) ?_ ?_
   . rintro _ _ _ _ _ ⟨_,c14,rfl,be,_,_⟩ hm;refine pn ?_;exact Q5u Q1s (W7 (args:=[pt D 0]) Tryz.func159 rfl Tryz.ntmps159 rfl rfl fun J=>zr hm be)
   rintro y6 _ _ _ _ ⟨bf,c11,_,c12,rfl,bg,bh,_,_⟩ hm;refine bS (r:=E3) (l:=([y6.1]:List Z5)) (css:=[(E9 y6.1 bf c11)]) bg ⟨(Q3b (x:=y6.1) bh:E3.rp _ _ _ _),qZt⟩ ?_;intro _ _ _ c13 _ bi;refine sT 1 bi ?_;intro _ _ bj;refine kE ?_;refine sT 2 bj ?_;intro _ _ bk;refine pn ?_;refine pn ?_;exact retD Q1s (W7 (args:=[pt D 0]) Tryz.func159 rfl Tryz.ntmps159 rfl rfl fun J=>zr hm bk)
 refine kB ?_;refine cB cf49 hm (I7 (aA.bE [0,1,2] [3]) Z1 (mC h2)) ?_;rintro K _ _ _ _ ⟨rfl,bm,_⟩ hm;refine aL [iv 0,iv 0] bm ?_;intro _ _ _ bn;refine sT 0 bn ?_;intro _ _ bo;refine kA ?_;refine cB Z4j hm (V2 (bo.bE (Z4 0 4) [4]) Z1 (mC h2)) ?_;rintro _ _ _ _ _ ⟨_,c15,rfl,aB,aC,_⟩ hm;refine cd hm ?_ ?_<;>intro co hm
 . refine qU ?_;refine cP Z6h hm (V6 (aB.bE (Z4 0 4) [4]) Z1 aC) ?_ ?_
   . rintro _ _ _ bp bq ⟨_,c22,rfl,af,_,_⟩ hm;refine pn ?_;exact Q5u Q1s (W7 (args:=[pt D 0]) Tryz.func159 rfl Tryz.ntmps159 rfl rfl fun J=>zr hm af)
   rintro _ _ _ _ _ ⟨_,c16,rfl,bt,O,_⟩ hm;refine kE ?_;refine rtPS [1,0,2,0,2,2] [0,1,2,3,4,5] bt (U5 (U5 (X2l (rs:=[.cell 2 155]) rfl (by kernel_rfl)))) fun cp cq U=>?_;refine pu ?_;obtain⟨E,V,hm⟩:=bindS hm
   rcases E with e3|E
   . have hm:=G0 hm;refine tF [2,4] ?_;refine⟨?_,?_,qZt⟩
     . refine brW [3,4,5] [] ?_;refine oP cf55 (D3 (U.bE [1,2,3,0] [4]) Z1 (mC O) _ V) ?_;rintro _ bu _ _ ⟨bv,c21,rfl,bw,bz,_⟩;refine pn ?_;refine Q5u Q1s (W7 (args:=[pt D 0]) Tryz.func159 rfl Tryz.ntmps159 rfl rfl fun J=>sB 4 3 Z1 bw ?_);intro bA bB ag;exact pe hm (ag.sE [1,4])
     refine brW [2,3,5] [] ?_;refine oaL zv2 U ?_;intro _ _ _ bC;refine t1W [2] [3,5] [] ?_;refine oP cf55 (D3 (bC.bE [0,2,3,4,1] [5]) Z1 (mC O) _ V) ?_;rintro _ bu bA bB ⟨bv,c21,rfl,ag,bz,_⟩;refine pn ?_;refine Q5u Q1s (W7 (args:=[pt D 0]) Tryz.func159 rfl Tryz.ntmps159 rfl rfl fun J=>sB 5 3 Z1 ag ?_);intro bp bq af;exact pe hm (af.sE [2,5])
   have hm:=C1 hm;refine tF [2,4] ?_;refine⟨?_,?_,qZt⟩
   . refine brW [3,4,5] [] ?_;refine oS cf55 (D3 (U.bE [1,2,3,0] [4]) Z1 (mC O) _ V) ?_;rintro _ bD bF bG ⟨bI,c17,rfl,ah,ai,_⟩;refine pu ?_;refine t0 rfl qZt (fun _=>P3 (by kernel_rfl) rfl (u:= .agg #[iv 12,iv K.Line,iv K.Col,qZs [],qZs [],.int .u32 0,qZs E.1.Word,qZs E.1.Name,iv E.1.Stars,.slice none 0 0])) rfl (t1W [4] [5] [] ?_);refine oaL zv2 ah ?_;intro bJ b6 bL aj;refine t1W [5] [] [0] ?_;refine osT 0 aj ?_;intro bM bN ak;refine kA ?_;refine cP Z6h hm (V6 (ak.bE (Z4 0 4) [5]) Z1 (mC ai)) ?_ ?_
     . rintro e4 _ bP bQ bR ⟨bT,c19,rfl,am,bU,_⟩ hm;refine pn ?_;refine Q5u Q1s (W7 (args:=[pt D 0]) Tryz.func159 rfl Tryz.ntmps159 rfl rfl fun J=>sB 4 3 Z1 am ?_);intro bV bW an;exact pe hm (an.sE [2,4])
     rintro bY _ bZ b0 b8 ⟨b9,c18,rfl,ao,cc,_⟩ hm;refine kE ?_;refine sT 1 ao ?_;intro ce cf ap;refine pn ?_;refine pn ?_;refine retD Q1s (W7 (args:=[pt D 0]) Tryz.func159 rfl Tryz.ntmps159 rfl rfl fun J=>sB 4 3 Z1 ap ?_);intro cg ci aq;exact eo hm (aq.sE [2,4])
   refine brW [2,3,5] [] ?_;refine oaL zv2 U ?_;intro bF b6 bG ah;refine t1W [2] [3,5] [] ?_;refine oS cf55 (D3 (ah.bE [0,2,3,4,1] [5]) Z1 (mC O) _ V) ?_;rintro _ bD bJ bL ⟨bI,c17,rfl,aj,ai,_⟩;refine pu ?_;refine t0 rfl qZt (fun _=>P3 (by kernel_rfl) rfl (u:= .agg #[iv 12,iv K.Line,iv K.Col,qZs [],qZs [],.int .u32 0,qZs E.1.Word,qZs E.1.Name,iv E.1.Stars,.slice none 0 0])) rfl (t1W [5] [] [0] ?_);refine osT 0 aj ?_;intro bM bN ak;refine kA ?_;refine cP Z6h hm (V6 (ak.bE (Z4 0 4) [5]) Z1 (mC ai)) ?_ ?_
   . rintro e4 _ bP bQ bR ⟨bT,c19,rfl,am,bU,_⟩ hm;refine pn ?_;refine Q5u Q1s (W7 (args:=[pt D 0]) Tryz.func159 rfl Tryz.ntmps159 rfl rfl fun J=>sB 4 3 Z1 am ?_);intro bV bW an;exact pe hm (an.sE [2,4])
   rintro bY _ bZ b0 b8 ⟨b9,c18,rfl,ao,cc,_⟩ hm;refine kE ?_;refine sT 1 ao ?_;intro ce cf ap;refine pn ?_;refine pn ?_;refine retD Q1s (W7 (args:=[pt D 0]) Tryz.func159 rfl Tryz.ntmps159 rfl rfl fun J=>sB 4 3 Z1 ap ?_);intro cg ci aq;exact eo hm (aq.sE [2,4])
 refine kA ?_;refine cP cf205 hm (hG.C2 (aB.bE [1,2,3] [4]) Z1 aC) ?_ ?_
 . rintro _ _ _ _ _ ⟨_,c25,rfl,cj,_,_⟩ hm;refine pn ?_;exact Q5u Q1s (W7 (args:=[pt D 0]) Tryz.func159 rfl Tryz.ntmps159 rfl rfl fun J=>zr hm cj)
 rintro _ _ _ _ _ ⟨_,c23,_,c24,rfl,ck,_,_,_⟩ hm;refine sT 0 ck ?_;intro _ _ cl;refine pn ?_;refine pn ?_;exact retD Q1s (W7 (args:=[pt D 0]) Tryz.func159 rfl Tryz.ntmps159 rfl rfl fun J=>zr hm cl)
theorem Z9a{G:Z1q}(hG:Sp1 G):Q5p (D9 G):=by
 intro g _ _ R _ Y3 Y2 Z6 a1 c1 p1 hS Z1 h1 r hm;refine eN Tryz.func160 Tryz.ntmps160 fun J=>?_;unfold D9 at hm;refine sq2 (aL zv2 hS ?_);intro _ b1 _ aj;refine kA ?_;refine cP cf185 hm (hG.X9 (aj.bE [0,1] [2]) Z1 (mC h1)) ?_ ?_
 . exact zk
 rintro _ _ T1 _ _ ⟨_,c2,_,c3,rfl,am,h2,h3,_⟩ hm;refine aL zv2 am ?_;intro _ b2 _ an;refine sT 0 an ?_;intro w4 _ ap;refine pn ?_;refine lpJ hm (fun ac o1 m a I=>∃K O D E c4 V c5,JR (nf 31) g T1 w4 a I K (loopM ac m (D,O)=some o1) [(0,pt Y3 Y2),(1,iv p1),(4,pt b1 0),(5,pt b2 0)] [Q22 E b2 c4 D,K7 b1 zv2,X0 R,Q1 V c5 Z6 O]/\Q7 E c4 K I D.Kids/\Q6 V c5 K I O.l) (fun _ _ h=>je h (ap.sN 0 4)) ?_;rintro ac aq o1 ar _ _ I ⟨K,O,D,E,c4,V,c5,⟨J,au,rfl,av,_⟩,_,h5⟩;obtain⟨m1,_,rfl,hm,aw⟩:=lrE au aq;refine blk (qU ?_);refine cB Y9v hm (Q0d (av.bE [0,1,2] [3]) Z1 h5) ?_;rintro _ _ _ _ _ ⟨rfl,ax,_⟩ hm;refine cB cf186 hm (Z6b (ax.bE (Z4 0 4) [])) ?_;rintro y3 _ _ _ _ ⟨rfl,W,_⟩ hm;refine kB ?_
 rcases bc hm with⟨az,hm⟩|⟨az,hm⟩
 . exact zr hm W
 refine cd hm ?_ ?_<;>intro aJ hm
 . exact zr hm W
 refine kA ?_;refine cB Y8f hm (P8 (W.bE [0,1,2] [3]) Z1 (mC h5)) ?_;rintro y4 _ _ _ _ ⟨_,c6,_,c7,rfl,aB,h6,h7,_⟩ hm;refine aL zv2 aB ?_;intro _ _ _ aC;refine sT 0 aC ?_;intro _ _ aD;refine kE ?_;refine Z1p [1,0,0,0,2,2,0,2] [0,1,2,3,4,5,6,7] aD (U5 (Q0s (U5 (Q0s (C8))))) fun aK aM ag=>pu ?_;obtain⟨U,ah,hm⟩:=bindS hm
 rcases U with e1|U
 . have hm:=G0 hm;refine s2 [(0,.agg (E9 D E c4).toArray)] rfl qZt rfl (by kernel_rfl) (Z0k cf160 rfl (hG.J4 (p0:=y4.2) (p1:=IntKind.wrap .i64 (y3+1)) (ag.bE (Z4 0 4) [4]) Z1 (mC h7) _ ah) rfl fun v6 T8 aR aS aE=>?_);obtain⟨_,c11,rfl,aF,_,_⟩:=aE;have hm:=Q5e hm aw ar;exact pe hm (aF.sE [3,4])
 have hm:=C1 hm;refine sS [(0,.agg (E9 D E c4).toArray)] cf160 (hG.J4 (ag.bE (Z4 0 4) [4]) Z1 (mC h7) _ ah) ?_;rintro _ _ _ _ ⟨a8,c8,_,c9,rfl,aI,_,_,_⟩;have aT:HL 1 E3 ([D,U.1]:List Z5) [(E9 D E c4),(E9 U.1 a8 c8)]:=⟨qZt⟩;have dd:KD [(4,[]),(5,[0,4]),(7,[0,4,5])]:=⟨qZt⟩;exact zr hm aI
theorem Y2a{G:Z1q}(hG:Sp1 G):Q7k (M2 G):=by
 intro g _ _ R _ Y3 Y2 Z6 a1 c1 hS Z1 h1 r hm;refine eN Tryz.func119 Tryz.ntmps119 fun J=>?_;unfold M2 at hm;refine sq2 (aL zv2 hS ?_);intro _ b1 _ ac;refine kA ?_;refine cP cf160 hm (hG.J4 (ac.bE [0,1] [2]) Z1 (mC h1)) ?_ ?_
 . exact zk
 rintro D _ _ _ _ ⟨K,c2,_,c3,rfl,ad,h2,h3,_⟩ hm;refine aL zv2 ad ?_;intro _ _ _ ae;refine sT 0 ae ?_;intro _ _ af;refine kB ?_;refine cB Y9v hm (Q0d (af.bE [0,1,2] [3]) Z1 (mC h3)) ?_;rintro _ _ _ _ _ ⟨rfl,U,_⟩ hm;refine cd hm ?_ ?_<;>intro aK hm
 . exact zr hm U
 refine kA ?_;refine cB Y8f hm (P8 (U.bE [0,1,2] [3]) Z1 (mC h3)) ?_;rintro _ _ _ _ _ ⟨_,c4,_,c5,rfl,ag,_,h5,_⟩ hm;refine aL zv2 ag ?_;intro _ b3 _ aj;refine sT 0 aj ?_;intro _ _ ak;refine kE ?_;refine sT 0 ak ?_;intro _ _ am;refine kA ?_;refine cP Y3g hm (hG.X3 (am.bE (Z4 0 4) [4]) Z1 (mC h5)) ?_ ?_
 . exact zk
 rintro E _ _ _ _ ⟨O,c6,_,c7,rfl,an,h6,h7,_⟩ hm;refine aL zv2 an ?_;intro _ _ _ ap;refine sT 0 ap ?_;intro _ _ aq;refine kA ?_;refine cP Z6h hm (V6 (aq.bE (Z4 0 5) [5]) Z1 (mC h7)) ?_ ?_
 . exact zk
 rintro _ _ _ _ _ ⟨_,c8,rfl,ar,h8,_⟩ hm;refine kA ?_;refine cP X3h hm (Q0n (ar.bE (Z4 0 5) [5]) Z1 h8) ?_ ?_
 . exact zk
 rintro y6 _ _ _ _ ⟨b5,_,c9,rfl,ax,V,_⟩ hm;refine pv (r_zf rfl) (pn ?_);refine sq2 (Z1p [1,1,0,2,2,0,2] [0,1,2,3,4,5,6] ax (U5 (C8)) fun aM aN W=>pu ?_);obtain⟨I,aa,hm⟩:=bindS hm
 rcases I with e1|I
 . have hm:=G0 hm;refine s2 [(1,.agg (E9 E.1 O c6).toArray),(0,.agg (E9 D.1 K c2).toArray)] rfl qZt rfl (by kernel_rfl) (Z0k cf119 rfl (hG.D8 (p0:=y6) (W.bE [1,3,4,6,0,2] [5]) Z1 (mC V) _ aa) rfl fun v9 aR aS aT ay=>?_);obtain⟨_,c14,rfl,az,_,_⟩:=ay;exact pe hm (az.sE [2,6])
 have hm:=C1 hm;refine sS [(1,.agg (E9 E.1 O c6).toArray),(0,.agg (E9 D.1 K c2).toArray)] cf119 (hG.D8 (W.bE [1,3,4,6,0,2] [5]) Z1 (mC V) _ aa) ?_;rintro _ _ _ _ ⟨aA,c10,_,c11,rfl,aB,aC,aD,_⟩;refine s2W [0,0] ?_;refine obS (r:=E3) (l:=([D.1,E.1,I.1]:List Z5)) (css:=[(E9 D.1 K c2),(E9 E.1 O c6),(E9 I.1 aA c10)]) aB ⟨(Q3b (x:=D.1) (mC h2):E3.rp _ _ _ _),(Q3b (x:=E.1) (mC h6):E3.rp _ _ _ _),(Q3b (x:=I.1) aC:E3.rp _ _ _ _),qZt⟩ ?_;intro _ _ _ c12 _ aE;refine s2W [] ?_;refine osT 1 aE ?_;intro _ _ aF;refine kA ?_;refine cB Q1s hm (Q6e (aF.bE (Z4 0 4) [4,7]) (Q1j b5) Z1 (mC aD)) ?_;rintro _ _ _ _ _ ⟨_,c13,rfl,aG,_,_⟩ hm;refine nil (B0 [(2,pt b1 0),(4,pt b3 0)] ⟨rfl,rfl,qZt⟩ fun J=>sq2 (sT 2 aG ?_));intro _ _ aI;refine pn ?_;obtain⟨_,_,aJ,_,rfl⟩:=aI.sl 0;exact re hm (aJ.sE [3,5])
theorem Z9b{G:Z1q}(hG:Sp1 G):Q5q (B9 G):=by
 intro g _ _ R _ Y3 Y2 Z6 a1 c1 hS Z1 h1 r hm;refine Y7z Tryz.func88 rfl Tryz.ntmps88 rfl fun J=>?_;unfold B9 at hm;refine sq2 (aL zv2 hS ?_);intro _ _ _ aa;refine kA ?_;refine cP X3h hm (Q0n (aa.bE [0,1] [2]) Z1 (mC h1)) ?_ ?_
 . exact zk
 rintro _ _ _ _ _ ⟨D,_,c2,rfl,ab,h2,_⟩ hm;refine wl rfl (dfO (f:=159) (cap:=#[pt D 0]) rfl (pn ?_));refine qU ?_;refine cP cf119 hm (hG.D8 (ab.bE [0,1,3] [2]) Z1 h2) ?_ ?_
 . rintro _ _ _ _ _ ⟨_,c11,rfl,ac,_,_⟩ hm;refine pn ?_;refine Q5u Q1s (W7 (args:=[pt D 0]) Tryz.func159 rfl Tryz.ntmps159 rfl rfl fun J=>sB 3 3 Z1 ac ?_);intro _ _ ad;exact pe hm (ad.sE [1,3])
 rintro E _ _ _ _ ⟨K,c3,_,c4,rfl,ae,h3,O,_⟩ hm;refine aL zv2 ae ?_;intro _ _ _ af;refine sT 0 af ?_;intro _ _ ag;refine kB ?_;refine cB Y9v hm (Q0d (ag.bE (Z4 0 4) [4]) Z1 (mC O)) ?_;rintro _ _ _ _ _ ⟨rfl,ah,_⟩ hm;refine cB cf120 hm (Z2q (ah.bE (Z4 0 5) [])) ?_;rintro _ _ _ _ _ ⟨rfl,U,_⟩ hm;refine cd hm ?_ ?_<;>intro az hm
 . refine sq2 (sT 1 U ?_);intro _ _ ai;refine pn ?_;refine pn ?_;exact retD Q1s (W7 (args:=[pt D 0]) Tryz.func159 rfl Tryz.ntmps159 rfl rfl fun J=>zr hm ai)
 refine kA ?_;refine cB Y8f hm (P8 (U.bE (Z4 0 4) [4]) Z1 (mC O)) ?_;rintro y5 _ _ _ _ ⟨_,c5,_,c6,rfl,ak,_,h6,_⟩ hm;refine aL zv2 ak ?_;intro _ _ _ am;refine sT 0 am ?_;intro _ _ an;refine kE ?_;refine Z1p [1,0,2,2,0,2] [0,1,2,3,4,5] an (U5 (X2l (rs:=[.cell 2 155]) rfl (by kernel_rfl))) fun aA aB V=>?_;refine pu ?_;obtain⟨I,W,hm⟩:=bindS hm
 rcases I with e1|I
 . have hm:=G0 hm;refine s2 [(0,.agg (E9 E.1 K c3).toArray)] rfl qZt rfl (by kernel_rfl) (Z0k Y3g rfl (hG.X3 (p0:=y5.2) (V.bE [0,2,3,4,1] [5]) Z1 (mC h6) _ W) rfl fun v7 T8 aF aG ao=>?_);obtain⟨_,c10,rfl,ap,_,_⟩:=ao;refine pn ?_;refine Q5u Q1s (W7 (args:=[pt D 0]) Tryz.func159 rfl Tryz.ntmps159 rfl rfl fun J=>sB 5 3 Z1 ap ?_);intro _ _ aq;exact pe hm (aq.sE [2,5])
 have hm:=C1 hm;refine sS [(0,.agg (E9 E.1 K c3).toArray)] Y3g (hG.X3 (V.bE [0,2,3,4,1] [5]) Z1 (mC h6) _ W) ?_;rintro _ _ _ _ ⟨a7,c7,_,c8,rfl,au,h7,_,_⟩;refine s2W [0] ?_;refine obS (r:=E3) (l:=([E.1,I.1]:List Z5)) (css:=[(E9 E.1 K c3),(E9 I.1 a7 c7)]) au ⟨(Q3b (x:=E.1) (mC h3):E3.rp _ _ _ _),(Q3b (x:=I.1) h7:E3.rp _ _ _ _),qZt⟩ ?_;intro _ _ _ c9 _ aw;refine s2W [] ?_;refine osT 1 aw ?_;intro _ _ ax;refine kE ?_;refine sT 2 ax ?_;intro _ _ ay;refine pn ?_;refine pn ?_;refine retD Q1s (W7 (args:=[pt D 0]) Tryz.func159 rfl Tryz.ntmps159 rfl rfl fun J=>?_);have dd:KD [(2,[]),(3,[0,2]),(5,[0,2,3])]:=⟨qZt⟩;exact zr hm ay
theorem sp1:∀n,Sp1 (M1 n)
 |0=>⟨(by unfold Q2w;intros;rename_i h;cases(show(none:Option _)=some _ from h)),(by unfold Q5n;intros;rename_i h;cases(show(none:Option _)=some _ from h)),(by unfold Q6n;intros;rename_i h;cases(show(none:Option _)=some _ from h)),(by unfold Q7i;intros;rename_i h;cases(show(none:Option _)=some _ from h)),(by unfold Q6l;intros;rename_i h;cases(show(none:Option _)=some _ from h)),(by unfold Q5p;intros;rename_i h;cases(show(none:Option _)=some _ from h)),(by unfold Q7k;intros;rename_i h;cases(show(none:Option _)=some _ from h)),(by unfold Q5q;intros;rename_i h;cases(show(none:Option _)=some _ from h))⟩
 |n+1=>⟨Z6a (sp1 n),Z8z (sp1 n),Z9z (sp1 n),Y1z (sp1 n),Z9y (sp1 n),Z9a (sp1 n),Y2a (sp1 n),Z9b (sp1 n)⟩
theorem Q1y:Q2w U1:=(sp1 NN).U1
theorem X0g:Q5n F0:=(sp1 NN).F0
theorem X1t:Q6n J7:=(sp1 NN).J7
theorem X2a:Q7i C2:=(sp1 NN).C2
theorem X1s:Q6l X9:=(sp1 NN).X9
theorem X0h:Q5p J4:=(sp1 NN).J4
theorem X2b:Q7k D8:=(sp1 NN).D8
theorem Q0p:Q5q X3:=(sp1 NN).X3

theorem Q0o{p0:Z0}{p1:J2}(hS:Q30 a1 c1 Z6 T0 g w0 R p0)(Z1:Ln Y3 Y2 Z6)(h1:Q6 a1 c1 T0 w0 p0.l)(h2:Q35 a2 c2 T0 w0 p1):∀r,B5 p0 p1=some r->
 Cl 56 #[pt Y3 Y2,.agg #[iv p1.Pos.Line,iv p1.Pos.Col,Q14 p1.Type_.Word.toArray,Q14 p1.Type_.Name.toArray,iv p1.Type_.Stars,Q14 p1.Name.toArray,sv a2 p1.Dims c2,.slice none 0 0,.bool p1.Brace]] w0 (exR r (fun r=>J6 T0 w0 (Q57 Z6 g R r.1 r.2 r.1.Init r.2.l)) (fun r=>L8 T0 w0 (Q3 Z6 g R r.1.pos r.1.e r.2 r.2.l))):=by
 intro r hm;refine eN Tryz.func56 Tryz.ntmps56 fun J=>?_;unfold B5 at hm;refine sq2 (bX [iv p1.Pos.Line,iv p1.Pos.Col,qZs p1.Type_.Word,qZs p1.Type_.Name,iv p1.Type_.Stars,qZs p1.Name,sv a2 p1.Dims c2,.slice none 0 0,.bool p1.Brace] hS ?_);intro _ V _ aC;refine aL zv4 aC ?_;intro _ W _ aD;refine kA ?_;refine cP cf86 hm (Q5o (aD.bE [0,1,2] [3]) Z1 (mC h1)) ?_ ?_
 . exact zk
 rintro _ _ T1 _ _ ⟨a4,n1,c4,_,c5,rfl,aF,h4,_⟩ hm;refine sT 1 aF ?_;intro w4 _ aJ;refine pn ?_;have aK:=aJ.nilO E3 155;refine O1 hm (fun an a w5=>∃T2 x4 D a6 n2 c6 a7 c7,JR (nf 40) g T1 w4 a w5 T2 (an D x4=some r) [(0,pt Y3 Y2),(3,pt V 0),(4,pt W 0)] [F5 E3 155 (.slice a6 n2 c6) D.Init,K7 W zv4,Q63 a4 a6 V n1 c4 n2 c6 D,X0 R,Q1 a7 c7 Z6 x4,F5 (N1 .u32) 100 (.slice a4 n1 c4) D.Dims]/\Q6 a7 c7 T2 w5 x4.l) (fun an hm=>?_) ?_
 . refine qU ?_;refine cB Z4j hm (V2 (aK.bE [0,1,2,3,5] [4]) Z1 (mC h4)) ?_;rintro _ _ _ _ _ ⟨_,c8,rfl,ao,h6,_⟩ hm;refine cd hm ?_ ?_<;>intro bG hm
   . refine qU ?_;refine cB Z4j hm (V2 (ao.bE (Z4 0 5) [5]) Z1 h6) ?_;rintro y3 _ _ _ _ ⟨_,c9,rfl,aN,h7,_⟩ hm;refine sT 2 aN ?_;intro _ _ aP;refine kE ?_;refine Z1p [0,1,0,2,2,2,0,2] [0,1,2,3,4,5,6,7] aP (U5 (U5 (C8))) fun w9 bJ aq=>pu ?_;obtain⟨E,ar,hm⟩:=bindS hm
     rcases E with e5|E
     . have hm:=G0 hm;refine s2 [(1,.slice none 0 0)] rfl qZt rfl (by kernel_rfl) (Z0k Y3g rfl (Q0p (p0:=y3.2) (aq.bE (Z4 0 5) [5]) Z1 (mC h7) _ ar) rfl fun bL bM bN bO aQ=>?_);obtain⟨_,c28,rfl,aR,_,_⟩:=aQ;exact pe hm (aR.sE [3,5])
     have hm:=C1 hm;refine sS [(1,.slice none 0 0)] Y3g (Q0p (aq.bE (Z4 0 5) [5]) Z1 (mC h7) _ ar) ?_;rintro _ T5 _ _ ⟨aT,c10,_,c11,rfl,aU,h8,_,_⟩;refine s2W [] ?_;refine obS (r:=E3) (l:=([E.1]:List Z5)) (css:=[(E9 E.1 aT c10)]) aU ⟨(Q3b (x:=E.1) h8:E3.rp _ _ _ _),qZt⟩ ?_;intro _ _ _ c12 _ aW;refine pu ?_;obtain⟨_,aX,hm⟩:=bindS hm;refine s2W [0] ?_;refine oaO 1 aW (K9 aX) ?_;intro _ _ _ c13 _ aY;refine s2W [] ?_;refine osT 3 aY ?_;intro aZ _ a3;refine kE ?_;refine lpJ hm (fun au o1 m a aj=>∃T6 x8 I K O c14 am c15,JR (nf 40) g T5 aZ a aj T6 (loopM au m (I,x8)=some o1) [(0,pt Y3 Y2),(3,pt V 0),(4,pt W 0)] [F5 E3 155 (.slice K O c14) I.Init,K7 W zv4,Q63 a4 K V n1 c4 O c14 I,X0 R,F5 (N1 .u32) 100 (.slice a4 n1 c4) I.Dims,Q1 am c15 Z6 x8]/\Q6 am c15 T6 aj x8.l) (fun _ _ h=>je h (a3.sN 1 6)) ?_;rintro au ba o1 be _ _ aj ⟨T6,x8,I,K,O,c14,am,c15,⟨J,bf,rfl,aw,_⟩,bg⟩;obtain⟨m1,_,rfl,hm,ax⟩:=lrE bf ba;refine sq2 (qU ?_)
     rcases bc hm with⟨bh,hm⟩|⟨bh,hm⟩
     . refine pu ?_;refine cB Z4j hm (V2 (aw.bE (Z4 0 5) [5]) Z1 bg) ?_;rintro y5 _ _ _ _ ⟨_,c16,rfl,ay,az,_⟩ hm;refine cd hm ?_ ?_<;>intro bP hm
       . refine pn ?_;refine blk (Z1p [0,1,0,2,2,2,0,2] [0,1,2,3,4,5,6,7] ay (Q0s (U5 (Q0s (U5 (U5 (C8)))))) fun bQ bR aA=>pu ?_);obtain⟨U,aB,hm⟩:=bindS hm
         rcases U with e1|U
         . have hm:=G0 hm;refine s2 [(1,.slice K O c14)] rfl qZt rfl (by kernel_rfl) (Z0k Y3g rfl (Q0p (p0:=y5.2) (aA.bE (Z4 0 5) [5]) Z1 (mC az) _ aB) rfl fun v7 T9 bW bY bj=>?_);obtain⟨_,c21,rfl,bk,_,_⟩:=bj;have hm:=Q5e hm ax be;exact pe hm (bk.sE [3,5])
         have hm:=C1 hm;refine sS [(1,.slice K O c14)] Y3g (Q0p (aA.bE (Z4 0 5) [5]) Z1 (mC az) _ aB) ?_;rintro _ _ _ _ ⟨bm,c17,_,c18,rfl,bn,bo,_,_⟩;refine s2W [] ?_;refine obS (r:=E3) (l:=([U.1]:List Z5)) (css:=[(E9 U.1 bm c17)]) bn ⟨(Q3b (x:=U.1) bo:E3.rp _ _ _ _),qZt⟩ ?_;intro _ _ _ c19 _ bp;refine pu ?_;obtain⟨_,bq,hm⟩:=bindS hm;refine s2W [0] ?_;refine oaO 1 bp (K9 bq) ?_;intro _ _ _ c20 _ bt;refine s2W [] ?_;refine osT 3 bt ?_;intro _ _ bu;refine pu ?_;exact lg hm ax (bu.sN 1 6)
       have dd:KD [(3,[]),(4,[3]),(5,[1,3,4]),(7,[1,3,4,5])]:=⟨qZt⟩;exact zr hm ay
     have dd:KD [(3,[]),(4,[3]),(5,[1,3,4]),(7,[1,3,4,5])]:=⟨qZt⟩;exact zr hm aw
   exact je hm (ao.sE [0,1,2,3,5,4])
 rintro _ w5 ⟨T2,x4,D,a6,n2,c6,a7,c7,⟨J,hm,rfl,bw,_⟩,h5⟩;refine qU ?_;refine cP Z6h hm (V6 (bw.bE [0,1,2,3,5] [4]) Z1 h5) ?_ ?_
 . rintro _ _ _ _ _ ⟨_,c30,rfl,bA,_,_⟩ hm;exact pe hm (bA.sE [3,5])
 rintro _ _ _ _ _ ⟨_,c29,rfl,bB,_,_⟩ hm;refine kE ?_;refine sT 1 bB ?_;intro _ _ bC;refine pn ?_;obtain⟨_,_,bD,_,rfl⟩:=bC.sl 4;obtain⟨_,_,bF,_,rfl⟩:=bD.sl 0;exact re hm (bF.sE [3,5])

instance:Ct 56 @Q0o:=⟨@Q0o,cf56⟩
theorem B7{p0:Z0}(hS:Q30 a1 c1 Z6 T0 g w0 R p0)(Z1:Ln Y3 Y2 Z6)(h1:Q6 a1 c1 T0 w0 p0.l):∀r,P5 p0=some r->
 Cl 57 #[pt Y3 Y2] w0 (exR r (fun r=>J6 T0 w0 (Q65 Z6 g R r.2 r.1 r.2.l)) (fun r=>L8 T0 w0 (Q3 Z6 g R r.1.pos r.1.e r.2 r.2.l))):=by
 intro r hm;refine eN Tryz.func57 Tryz.ntmps57 fun J=>?_;unfold P5 at hm;refine qN ?_;refine qN ?_;refine qU ?_;refine cP Z6h hm (V6 (hS.bE [0] [1]) Z1 h1) ?_ ?_
 . exact zk
 rintro _ _ T1 w1 _ ⟨_,c2,rfl,ar,h2,_⟩ hm;refine pn ?_;refine O1 hm (fun ah a O=>∃U I V c3,JR (nf 35) g T1 w1 a O U (ah I=some r) [(0,pt Y3 Y2),(3,.slice none 0 0)] [X0 R,Q1 V c3 Z6 I]/\Q6 V c3 U O I.l) (fun ah hm=>?_) ?_
 . exact zr hm ar
 rintro _ O ⟨U,I,V,c3,⟨J,hm,rfl,au,_⟩,h3⟩;refine sq2 (qU ?_);refine cB Z4j hm (V2 (au.bE [0] [1]) Z1 h3) ?_;rintro _ _ T7 w7 _ ⟨_,c6,rfl,ai,h6,_⟩ hm;refine cd hm ?_ ?_<;>intro aT hm
 . refine qN ?_;have ax:=ai.nilO Q2z 71;exact re hm (ax.sE [1,2,0])
 refine pn ?_;have ay:=ai.nilO Q2z 71;refine lpJ hm (fun aj o1 m a W=>∃T8 K x2 a7 n1 c7 a8 c8,JR (nf 35) g T7 w7 a W T8 (loopM aj m (x2,K)=some o1) [(0,pt Y3 Y2),(3,.slice a7 n1 c7)] [F5 Q2z 71 (.slice a7 n1 c7) x2,X0 R,Q1 a8 c8 Z6 K]/\Q6 a8 c8 T8 W K.l) (fun _ _ h=>je h (ay.sE [0,1,2])) ?_;rintro aj az o1 am _ _ W ⟨T8,K,x2,a7,n1,c7,a8,c8,⟨J,aA,rfl,aB,_⟩,h7⟩;obtain⟨m1,_,rfl,hm,af⟩:=lrE aA az;refine blk (qU ?_);refine cB cf49 hm (I7 (aB.bE [0,1] [2]) Z1 h7) ?_;rintro E _ _ _ _ ⟨rfl,aC,_⟩ hm;refine pu ?_;refine cP cf55 hm (D3 (aC.bE [0,1] [2]) Z1 (mC h7)) ?_ ?_
 . exact zk
 rintro D _ _ _ _ ⟨_,c9,rfl,aD,h8,_⟩ hm;refine pv (P3 (by kernel_rfl) rfl (u:= .agg #[iv E.Line,iv E.Col,qZs D.1.Word,qZs D.1.Name,iv D.1.Stars,qZs [],.slice none 0 0,.slice none 0 0,.bool false])) (aL zv4 aD ?_);intro _ _ _ aF;refine sT 0 aF ?_;intro _ _ aG;refine kA ?_;refine cP cf53 hm (P9 (aG.bE [0,1,2] [3]) Z1 (mC h8)) ?_ ?_
 . exact zk
 rintro y8 _ _ _ _ ⟨_,c10,rfl,aI,h9,_⟩ hm;refine sT 0 aI ?_;intro _ _ aK;refine kE ?_;refine bS (r:=Q2z) (l:=([(⟨E,D.1,y8.1,[],[],false⟩:J2)]:List J2)) (css:=[[iv E.Line,iv E.Col,Q14 D.1.Word.toArray,Q14 D.1.Name.toArray,iv D.1.Stars,Q14 y8.1.toArray,.slice none 0 0,.slice none 0 0,.bool false]]) aK ⟨(Y0j (x:=(⟨E,D.1,y8.1,[],[],false⟩:J2)) U0 U0:Q2z.rp _ _ _ _),qZt⟩ ?_;intro _ _ _ c11 _ aM;obtain⟨_,aN,hm⟩:=bindS hm;refine aO 2 aM (K9 aN) ?_;intro _ _ _ c12 _ aP;refine kA ?_;refine cB Z4j hm (V2 (aP.bE [2,3] [4]) Z1 (mC h9)) ?_;rintro _ _ _ _ _ ⟨_,c13,rfl,ao,aQ,_⟩ hm;refine cd hm ?_ ?_<;>intro aU hm
 . refine qU ?_;refine cP Z6h hm (V6 (ao.bE [0,1] [2]) Z1 aQ) ?_ ?_
   . rintro _ _ _ _ _ ⟨_,c15,rfl,aR,_,_⟩ hm;have hm:=Q5e hm af am;exact pe hm (aR.sE [1,2])
   rintro _ _ _ _ _ ⟨_,c14,rfl,aS,_,_⟩ hm;refine kD ?_;have hm:=Q5e hm af am;exact re hm (aS.sE [1,2,0])
 exact lg hm af (ao.sE [0,1,2])

instance:Ct 57 @B7:=⟨@B7,cf57⟩
theorem Q6d{p0:Z0}(hS:Q30 a1 c1 Z6 T0 g w0 R p0)(Z1:Ln Y3 Y2 Z6)(h1:Q6 a1 c1 T0 w0 p0.l):∀r,C5 p0=some r->
 Cl 123 #[pt Y3 Y2] w0 (exR r (fun r=>J6 T0 w0 (Q57 Z6 g R r.1 r.2 r.1.Init r.2.l)) (fun r=>L8 T0 w0 (Q3 Z6 g R r.1.pos r.1.e r.2 r.2.l))):=by
 intro r hm;refine eN Tryz.func123 Tryz.ntmps123 fun J=>?_;unfold C5 at hm;exact zr hm hS

instance:Ct 123 @Q6d:=⟨@Q6d,cf123⟩
theorem Q1i{p0:Z0}{p1:Aa}(hS:Q30 a1 c1 Z6 T0 g w0 R p0)(Z1:Ln Y3 Y2 Z6)(h1:Q6 a1 c1 T0 w0 p0.l):∀r,B6 p0 p1=some r->
 Cl 126 #[pt Y3 Y2,Q14 p1.toArray] w0 (exR r (fun r=>J6 T0 w0 (Q34 Z6 g R r.2 r.1 r.2.l)) (fun r=>L8 T0 w0 (Q3 Z6 g R r.1.pos r.1.e r.2 r.2.l))):=by
 intro r hm;refine eN Tryz.func126 Tryz.ntmps126 fun J=>?_;unfold B6 at hm;refine qN ?_;refine sq2 (qU ?_);refine cB Z4j hm (V2 (hS.bE [0] [1]) Z1 h1) ?_;rintro _ _ _ _ _ ⟨_,c2,rfl,D,h2,_⟩ hm;refine cd hm ?_ ?_<;>intro U hm
 . refine qN ?_;have I:=D.nilO E3 155;exact re hm (I.sE [1,2,0])
 refine kA ?_;refine cP Y3g hm (Q0p (D.bE [0] [1]) Z1 h2) ?_ ?_
 . exact zk
 rintro E _ _ _ _ ⟨K,c3,_,c4,rfl,O,h3,_,_⟩ hm;have V:HL 1 E3 ([E.1]:List Z5) [(E9 E.1 K c3)]:=⟨qZt⟩;exact zr hm O

instance:Ct 126 @Q1i:=⟨@Q1i,cf126⟩
theorem Q8i{p0:Z0}{p1:V8}(hS:Sep g T0 w0 [X0 R,Q1 a1 c1 Z6 p0,Q0a (Q8n p1 a2 c2 a3 c3 a4 c4 a5 c5 a6 c6 a7 c7 a8 c8)])(Z1:Ln Y3 Y2 Z6)(h1:Q6 a1 c1 T0 w0 p0.l)(Q9e:Ln Q1x Q1w Q0a)(h2:Q7 a2 c2 T0 w0 p1.A)(h3:Q7 a3 c3 T0 w0 p1.B)(h4:Q7 a4 c4 T0 w0 p1.C)(h5:Q26 a5 c5 T0 w0 p1.Var)(h6:Q23 a6 c6 T0 w0 p1.Body)(h7:Q23 a7 c7 T0 w0 p1.Else)(h8:Q46 a8 c8 T0 w0 p1.Cases):∀r,N7 p0 p1=some r->
 Cl 128 #[pt Y3 Y2,pt Q1x Q1w] w0 (exR r (fun r=>J6 T0 w0 fun T w v=>∃a25 c25 a26 c26 a27 c27 a28 c28 a29 c29 a30 c30 a31 c31 a32 c32,v= .tuple #[]/\Sep g T w (R++[Q1 a25 c25 Z6 r.1,Q0a (Q8n r.2 a26 c26 a27 c27 a28 c28 a29 c29 a30 c30 a31 c31 a32 c32)])/\Q6 a25 c25 T w r.1.l/\Q87 a26 a27 a28 a29 a30 a31 a32 c26 c27 c28 c29 c30 c31 c32 T w r.2) (fun r=>L8 T0 w0 fun T w v=>∃a25 c25 a26 c26 a27 c27 a28 c28 a29 c29 a30 c30 a31 c31 a32 c32,v= .iface 58 (Q20 r.1.pos r.1.e)/\Sep g T w (R++[Q1 a25 c25 Z6 r.2.1,Q0a (Q8n r.2.2 a26 c26 a27 c27 a28 c28 a29 c29 a30 c30 a31 c31 a32 c32)])/\Q6 a25 c25 T w r.2.1.l/\Q87 a26 a27 a28 a29 a30 a31 a32 c26 c27 c28 c29 c30 c31 c32 T w r.2.2)):=by
 intro r hm;refine eN Tryz.func128 Tryz.ntmps128 fun J=>?_;unfold N7 at hm;refine blk (qU ?_);refine cB Z4j hm (V2 (hS.bE [0,2] [1]) Z1 h1) ?_;rintro _ _ _ _ _ ⟨_,c9,rfl,D,O,_⟩ hm;refine cd hm ?_ ?_<;>intro ab hm
 . exact zr hm D
 refine qU ?_;refine cB Z4j hm (V2 (D.bE [0,1] [2]) Z1 O) ?_;rintro _ _ _ _ _ ⟨_,c13,rfl,E,U,_⟩ hm;refine cd hm ?_ ?_<;>intro ac hm
 . exact zr hm E
 refine qU ?_;refine cB Z4j hm (V2 (E.bE [0,1] [2]) Z1 U) ?_;rintro _ _ _ _ _ ⟨_,c16,rfl,I,V,_⟩ hm;refine cd hm ?_ ?_<;>intro ad hm
 . exact zr hm I
 refine qU ?_;refine cP Y3g hm (Q0p (I.bE [0,1] [2]) Z1 V) ?_ ?_
 . exact zk
 rintro K _ _ _ _ ⟨W,c19,_,c20,rfl,aa,_,_,_⟩ hm;have ae:HL 1 E3 ([K.1]:List Z5) [(E9 K.1 W c19)]:=⟨qZt⟩;exact zr hm aa

instance:Ct 128 @Q8i:=⟨@Q8i,cf128⟩
def Q7l(F:Z0->Option (An ((List V8)×Z0))):Prop:=∀{g:World}{T0:TP}{w0:World}{R:List X1}{p0:Z0}{Y3 Y2:Nat}{Z6:Ab->X1}{a1 c1}(hS:Q30 a1 c1 Z6 T0 g w0 R p0)(Z1:Ln Y3 Y2 Z6)(h1:Q6 a1 c1 T0 w0 p0.l),∀r,F p0=some r->
 Cl 125 #[pt Y3 Y2] w0 (exR r (fun r=>J6 T0 w0 fun T w v=>∃a12 c12 a13 c13,v=sv a12 r.1 c12/\Q69 a13 c13 Z6 T g w R r.2/\SlR Q5t T w (sv a12 r.1 c12) r.1/\Q76 a13 c13 T w r.2.l) (fun r=>L8 T0 w0 (Q3 Z6 g R r.1.pos r.1.e r.2 r.2.l)))
def Q6o(F:Z0->Option (An ((List R5)×Z0))):Prop:=∀{g:World}{T0:TP}{w0:World}{R:List X1}{p0:Z0}{Y3 Y2:Nat}{Z6:Ab->X1}{a1 c1}(hS:Q30 a1 c1 Z6 T0 g w0 R p0)(Z1:Ln Y3 Y2 Z6)(h1:Q6 a1 c1 T0 w0 p0.l),∀r,F p0=some r->
 Cl 127 #[pt Y3 Y2] w0 (exR r (fun r=>J6 T0 w0 fun T w v=>∃a35 n11 c35 a36 c36,v= .slice a35 n11 c35/\Sep g T w (R++[Q1 a36 c36 Z6 r.2,F5 Q8v 193 (.slice a35 n11 c35) r.1])/\Q76 a36 c36 T w r.2.l) (fun r=>L8 T0 w0 (Q3 Z6 g R r.1.pos r.1.e r.2 r.2.l)))
def Q7h(F:Z0->Option (An (V8×Z0))):Prop:=∀{g:World}{T0:TP}{w0:World}{R:List X1}{p0:Z0}{Y3 Y2:Nat}{Z6:Ab->X1}{a1 c1}(hS:Q30 a1 c1 Z6 T0 g w0 R p0)(Z1:Ln Y3 Y2 Z6)(h1:Q6 a1 c1 T0 w0 p0.l),∀r,F p0=some r->
 Cl 89 #[pt Y3 Y2] w0 (exR r (fun r=>J6 T0 w0 fun T w v=>∃a88 c88 a89 c89 a90 c90 a91 c91 a92 c92 a93 c93 a94 c94 a95 c95,v= .agg (Q8n r.1 a88 c88 a89 c89 a90 c90 a91 c91 a92 c92 a93 c93 a94 c94).toArray/\Q69 a95 c95 Z6 T g w R r.2/\Q7 a88 c88 T w r.1.A/\Q7 a89 c89 T w r.1.B/\Q7 a90 c90 T w r.1.C/\Q26 a91 c91 T w r.1.Var/\Q23 a92 c92 T w r.1.Body/\Q23 a93 c93 T w r.1.Else/\Q46 a94 c94 T w r.1.Cases/\Q76 a95 c95 T w r.2.l) (fun r=>L8 T0 w0 (Q3 Z6 g R r.1.pos r.1.e r.2 r.2.l)))
def Q6p(F:Z0->Option (An ((List V8)×Z0))):Prop:=∀{g:World}{T0:TP}{w0:World}{R:List X1}{p0:Z0}{Y3 Y2:Nat}{Z6:Ab->X1}{a1 c1}(hS:Q30 a1 c1 Z6 T0 g w0 R p0)(Z1:Ln Y3 Y2 Z6)(h1:Q6 a1 c1 T0 w0 p0.l),∀r,F p0=some r->
 Cl 58 #[pt Y3 Y2] w0 (exR r (fun r=>J6 T0 w0 fun T w v=>∃a18 n4 c18 a19 c19,v= .slice a18 n4 c18/\Sep g T w (R++[Q1 a19 c19 Z6 r.2,F5 Q5t 111 (.slice a18 n4 c18) r.1])/\Q76 a19 c19 T w r.2.l) (fun r=>L8 T0 w0 (Q3 Z6 g R r.1.pos r.1.e r.2 r.2.l)))
structure Sp2(G:Y6g):Prop where
 J9:Q7l G.J9
 N9:Q6o G.N9
 J1:Q7h G.J1
 G7:Q6p G.G7
theorem Y2b{G:Y6g}(hG:Sp2 G):Q7l (R9 G):=by
 intro g _ _ R _ Y3 Y2 Z6 a1 c1 hS Z1 h1 r hm;refine eN Tryz.func125 Tryz.ntmps125 fun J=>?_;unfold R9 at hm;refine qN ?_;refine qU ?_;refine cP cf89 hm (hG.J1 (hS.bE [0] [1]) Z1 h1) ?_ ?_
 . exact zk
 rintro D _ _ _ _ ⟨E,c2,I,c3,K,c4,O,c5,U,c6,V,c7,W,c8,_,c9,rfl,aa,h2,h3,_,_,h6,_,_,_,_⟩ hm;have ab:HL 1 Q5t ([D.1]:List V8) [(Q8n D.1 E c2 I c3 K c4 O c5 U c6 V c7 W c8)]:=⟨qZt⟩;exact zr hm aa
theorem Y0a{G:Y6g}(hG:Sp2 G):Q6o (I8 G):=by
 intro g _ _ R _ Y3 Y2 Z6 a1 c1 hS Z1 h1 r hm;refine eN Tryz.func127 Tryz.ntmps127 fun J=>?_;unfold I8 at hm;refine qN ?_;refine qN ?_;refine qU ?_;refine cP Z6h hm (V6 (hS.bE [0] [1]) Z1 h1) ?_ ?_
 . exact zk
 rintro _ _ T1 w1 _ ⟨_,c2,rfl,aJ,h2,_⟩ hm;refine pn ?_;refine sq2 ?_;have aK:=aJ.nilO Q8v 193;refine lpJ hm (fun au o1 m a w2=>∃T2 x2 U I K c3 a4 c4,JR (nf 57) g T1 w1 a w2 T2 (loopM au m (U,x2)=some o1) [(0,pt Y3 Y2),(3,.slice I K c3)] [F5 Q8v 193 (.slice I K c3) U,X0 R,Q1 a4 c4 Z6 x2]/\Q6 a4 c4 T2 w2 x2.l) (fun _ _ h=>je h (aK.sE [0,1,2])) ?_;rintro au aM o1 aN _ _ w2 ⟨T2,x2,U,I,K,c3,a4,c4,⟨J,aP,rfl,aQ,_⟩,h3⟩;obtain⟨m1,z1,rfl,hm,ae⟩:=lrE aP aM;refine sq2 (qU ?_);refine cB Z4j hm (V2 (aQ.bE [0,1] [2]) Z1 h3) ?_;rintro _ _ _ _ _ ⟨_,c5,rfl,aw,h4,_⟩ hm;refine cd hm ?_ ?_<;>intro b3 hm
 . refine pn ?_;refine blk (qU ?_);refine cB cf49 hm (I7 (aw.bE [0,1] [2]) Z1 h4) ?_;rintro y3 _ T4 _ _ ⟨rfl,aU,_⟩ hm;refine pv (P3 (by kernel_rfl) rfl (u:= .agg #[iv y3.Line,iv y3.Col,.bool false,.int .u32 0,.slice none 0 0])) (aL zv18 aU ?_);intro _ b1 _ aV;refine sT 0 aV ?_;intro w6 _ aX;refine pn ?_;have aY:=aX.nilO Q5t 111;refine O1 hm (fun ay a w7=>∃T5 x5 O a6 c6,JR (nf 57) g T4 w6 a w7 T5 (ay O x5=some z1) [(0,pt Y3 Y2),(3,.slice I K c3),(4,pt b1 0)] [F5 Q5t 111 (.slice none 0 0) O.Body,K7 b1 [iv O.Pos.Line,iv O.Pos.Col,.bool O.Default,.int .u32 O.Num,.slice none 0 0],F5 Q8v 193 (.slice I K c3) U,X0 R,Q1 a6 c6 Z6 x5]/\Q6 a6 c6 T5 w7 x5.l) (fun ay hm=>?_) ?_
   . exact zr hm aY
   rintro _ w7 ⟨T5,x5,O,a6,c6,⟨J,hm,rfl,aZ,_⟩,h5⟩;refine qU ?_;refine cP Z6h hm (V6 (aZ.bE (Z4 0 4) [4]) Z1 h5) ?_ ?_
   . exact zk
   rintro _ _ a8 a9 _ ⟨_,c13,rfl,ba,_,_⟩ hm;refine kE ?_;refine lpJ hm (fun az o2 m a ap=>∃aq V D E W c14 ar c15,JR (nf 57) g a8 a9 a ap aq (loopM az m (D,V)=some o2) [(0,pt Y3 Y2),(3,.slice I K c3),(4,pt b1 0)] [F5 Q5t 111 (.slice E W c14) D.Body,K7 b1 [iv D.Pos.Line,iv D.Pos.Col,.bool D.Default,.int .u32 D.Num,.slice E W c14],F5 Q8v 193 (.slice I K c3) U,X0 R,Q1 ar c15 Z6 V]/\Q6 ar c15 aq ap V.l) (fun _ _ h=>je h (ba.sN 0 5)) ?_;rintro az be o2 ah _ _ ap ⟨aq,V,D,E,W,c14,ar,c15,⟨J,bf,rfl,bg,_⟩,aa⟩;obtain⟨_,_,rfl,hm,ab⟩:=lrE bf be;refine sq2 (qU ?_);refine cB cf50 hm (R7 (bg.bE (Z4 0 4) [4]) Z1 aa) ?_;rintro _ _ _ _ _ ⟨rfl,aB,_⟩ hm;refine pu ?_
   rcases bc hm with⟨bh,hm⟩|⟨bh,hm⟩
   . refine pu ?_;refine cB cf50 hm (R7 (aB.bE (Z4 0 4) [4]) Z1 (mC aa)) ?_;rintro _ _ _ _ _ ⟨rfl,aC,_⟩ hm;refine pu ?_
     rcases bc hm with⟨bi,hm⟩|⟨bi,hm⟩
     . refine pu ?_;refine cB cf50 hm (R7 (aC.bE (Z4 0 4) [4]) Z1 (mC aa)) ?_;rintro _ _ _ _ _ ⟨rfl,aD,_⟩ hm;refine cd hm ?_ ?_<;>intro b4 hm
       . refine pn ?_;refine blk (Z1p [0,1,0,2,2,2,0,2] [0,1,2,3,4,5,6,7] aD (Q0s (U5 (Q0s (U5 (Q0s (U5 (Q0s (U5 (C8))))))))) fun b5 b6 aE=>pu ?_);obtain⟨ac,aF,hm⟩:=bindS hm
         rcases ac with e3|ac
         . have hm:=G0 hm;refine s2 [(1,.slice E W c14)] rfl qZt rfl (by kernel_rfl) (Z0k cf89 rfl (hG.J1 (p0:=V) (aE.bE (Z4 0 4) [4]) Z1 (mC aa) _ aF) rfl fun b8 b9 cc ce bj=>?_);obtain⟨_,c26,rfl,bk,_,_⟩:=bj;have hm:=Q5e hm ab ah;have hm:=Q5e hm ae aN;exact pe hm (bk.sE [3,4])
         have hm:=C1 hm;refine sS [(1,.slice E W c14)] cf89 (hG.J1 (aE.bE (Z4 0 4) [4]) Z1 (mC aa) _ aF) ?_;rintro _ _ _ _ ⟨bm,c16,bn,c17,bo,c18,bp,c19,bq,c20,bt,c21,bu,c22,_,c23,rfl,bv,bw,bz,bA,bB,bC,bD,bF,_,_⟩;refine s2W [] ?_;refine obS (r:=Q5t) (l:=([ac.1]:List V8)) (css:=[(Q8n ac.1 bm c16 bn c17 bo c18 bp c19 bq c20 bt c21 bu c22)]) bv ⟨(Y7d (x:=ac.1) bw bz bA bB bC bD bF:Q5t.rp _ _ _ _),qZt⟩ ?_;intro _ _ _ c24 _ bG;refine pu ?_;obtain⟨_,bI,hm⟩:=bindS hm;refine s2W [0] ?_;refine oaO 1 bG (K9 bI) ?_;intro _ _ _ c25 _ bJ;refine s2W [] ?_;refine osT 2 bJ ?_;intro _ _ bK;refine pu ?_;exact lg hm ab (bK.sN 1 5)
       have hm:=Q7b hm ab ah;refine pn ?_;obtain⟨_,_,bL,bM,rfl⟩:=aD.sl 0;refine bS (r:=Q8v) (l:=([D]:List R5)) (css:=[(Y8i D E c14)]) bL ⟨(Y1n (x:=D) bM:Q8v.rp _ _ _ _),qZt⟩ ?_;intro _ _ _ c27 _ bN;obtain⟨_,bO,hm⟩:=bindS hm;refine aO 3 bN (K9 bO) ?_;intro _ _ _ c28 _ bP;exact lg hm ae (bP.sE [3,4,5])
     refine pn ?_;refine cnd (b:=false) rfl (fun h=>nomatch h) (fun _=>?_);have hm:=Q7b hm ab ah;refine pn ?_;obtain⟨_,_,bQ,bR,rfl⟩:=aC.sl 0;refine bS (r:=Q8v) (l:=([D]:List R5)) (css:=[(Y8i D E c14)]) bQ ⟨(Y1n (x:=D) bR:Q8v.rp _ _ _ _),qZt⟩ ?_;intro _ _ _ c29 _ bT;obtain⟨_,bU,hm⟩:=bindS hm;refine aO 3 bT (K9 bU) ?_;intro _ _ _ c30 _ bV;exact lg hm ae (bV.sE [3,4,5])
   refine pn ?_;refine cnd (b:=false) rfl (fun h=>nomatch h) (fun _=>?_);have hm:=Q7b hm ab ah;refine pn ?_;obtain⟨_,_,bW,bY,rfl⟩:=aB.sl 0;refine bS (r:=Q8v) (l:=([D]:List R5)) (css:=[(Y8i D E c14)]) bW ⟨(Y1n (x:=D) bY:Q8v.rp _ _ _ _),qZt⟩ ?_;intro _ _ _ c31 _ bZ;obtain⟨_,b0,hm⟩:=bindS hm;refine aO 3 bZ (K9 b0) ?_;intro _ _ _ _ _ b2;exact lg hm ae (b2.sE [3,4,5])
 exact zr hm aw
theorem Y1y{G:Y6g}(hG:Sp2 G):Q7h (V0 G):=by
 intro g _ _ R _ Y3 Y2 Z6 a1 c1 hS Z1 h1 r hm;refine Y7z Tryz.func89 rfl Tryz.ntmps89 rfl fun J=>?_;unfold V0 at hm;refine sq2 (aL zv7 hS ?_);intro _ U _ aB;refine kA ?_;refine cP X3h hm (Q0n (aB.bE [0,1] [2]) Z1 (mC h1)) ?_ ?_
 . rintro _ _ _ _ _ ⟨_,_,rfl,aC,_,_⟩ hm;exact pe hm (aC.sE [1,2])
 rintro _ _ _ _ _ ⟨D,_,c2,rfl,aD,h2,_⟩ hm;refine wl rfl (dfO (f:=159) (cap:=#[pt D 0]) rfl (pn ?_));refine qU ?_;refine cB cf49 hm (I7 (aD.bE [0,1,3] [2]) Z1 h2) ?_;rintro y2 _ T2 _ _ ⟨rfl,aF,_⟩ hm;refine pv (P3 (by kernel_rfl) rfl (u:= .agg #[iv 0,iv y2.Line,iv y2.Col,.slice none 0 0,.slice none 0 0,.slice none 0 0,.slice none 0 0,.slice none 0 0,.slice none 0 0,.slice none 0 0])) (aL zv7 aF ?_);intro _ O _ aG;refine sT 0 aG ?_;intro w5 _ aJ;refine pn ?_;refine O1 hm (fun ai a E=>∃I V K W c3 a4 c4 a5 c5 a6 c6 a7 c7 a8 c8 a9 c9 ag c10,JR (⟨98,[⟨.fn (.func 159) #[pt D 0],#[]⟩]⟩) g T2 w5 a E I (ai K V=some r) [(2,pt U 0),(3,pt O 0)] [K7 O (Q8n K W c3 a4 c4 a5 c5 a6 c6 a7 c7 a8 c8 a9 c9),K7 U zv7,X0 R,K7 D [pt Y3 Y2],Q1 ag c10 Z6 V]/\Q7 W c3 I E K.A/\Q7 a4 c4 I E K.B/\Q7 a5 c5 I E K.C/\Q26 a6 c6 I E K.Var/\Q23 a7 c7 I E K.Body/\Q23 a8 c8 I E K.Else/\Q46 a9 c9 I E K.Cases/\Q6 ag c10 I E V.l) (fun ai hm=>?_) ?_
 . refine blk (qU ?_);refine cB cf87 hm (Q8h (aJ.bE (Z4 0 4) [4]) Z1 (mC h2)) ?_;rintro _ _ _ _ _ ⟨rfl,aj,_⟩ hm;refine cd hm ?_ ?_<;>intro dg hm
   . refine pu ?_;refine cP cf123 hm (Q6d (aj.bE (Z4 0 4) [4]) Z1 (mC h2)) ?_ ?_
     . rintro _ _ _ _ _ ⟨_,c15,rfl,aK,_,_⟩ hm;refine pn ?_;refine Q5u Q1s (W7 (args:=[pt D 0]) Tryz.func159 rfl Tryz.ntmps159 rfl rfl fun J=>sB 4 3 Z1 aK ?_);intro _ _ aM;exact pe hm (aM.sE [2,4])
     rintro y4 _ _ _ _ ⟨aN,c11,aP,c12,_,c13,rfl,aQ,_,_,_,_⟩ hm;have dh:HL 1 Q2z ([y4.1]:List J2) [(Z5j y4.1 aN c11 aP c12)]:=⟨qZt⟩;exact zr hm aQ
   refine qU ?_;refine cB cf50 hm (R7 (aj.bE (Z4 0 4) [4]) Z1 (mC h2)) ?_;rintro _ _ _ _ _ ⟨rfl,am,_⟩ hm;refine cd hm ?_ ?_<;>intro di hm
   . refine pu ?_;refine cP cf58 hm (hG.G7 (am.bE (Z4 0 4) [4]) Z1 (mC h2)) ?_ ?_
     . rintro _ _ _ _ _ ⟨_,c18,rfl,aR,_,_⟩ hm;refine pn ?_;refine Q5u Q1s (W7 (args:=[pt D 0]) Tryz.func159 rfl Tryz.ntmps159 rfl rfl fun J=>sB 4 3 Z1 aR ?_);intro _ _ aS;exact pe hm (aS.sE [2,4])
     rintro _ _ _ _ _ ⟨_,_,c16,_,c17,rfl,aT,_,_⟩ hm;refine sT 0 aT ?_;intro _ _ aU;refine sT 0 aU ?_;intro _ _ aV;obtain⟨_,_,aW,_,rfl⟩:=aV.sl 5;exact je hm (aW.sN 0 5)
   refine qU ?_;refine cB Z4j hm (V2 (am.bE (Z4 0 4) [4]) Z1 (mC h2)) ?_;rintro _ _ _ _ _ ⟨_,c19,rfl,an,aX,_⟩ hm;refine cd hm ?_ ?_<;>intro dj hm
   . refine sT 0 an ?_;intro _ _ aY;exact je hm (aY.sN 0 5)
   refine qU ?_;refine cB Z4j hm (V2 (an.bE (Z4 0 4) [4]) Z1 aX) ?_;rintro _ _ _ _ _ ⟨_,c20,rfl,ao,ap,_⟩ hm;refine cd hm ?_ ?_<;>intro dk hm
   . refine qU ?_;refine cP X3g hm (Q1y (ao.bE (Z4 0 4) [4]) Z1 ap) ?_ ?_
     . rintro _ _ _ _ _ ⟨_,c30,rfl,aZ,_,_⟩ hm;refine pn ?_;refine Q5u Q1s (W7 (args:=[pt D 0]) Tryz.func159 rfl Tryz.ntmps159 rfl rfl fun J=>sB 4 3 Z1 aZ ?_);intro _ _ ba;exact pe hm (ba.sE [2,4])
     rintro _ _ _ _ _ ⟨_,_,c21,_,c22,rfl,be,bf,_⟩ hm;refine sT 0 be ?_;intro _ _ bg;refine sT 0 bg ?_;intro _ _ bh;refine kA ?_;refine cP X3f hm (hG.J9 (bh.bE [0,1,2,3,5] [4]) Z1 (mC bf)) ?_ ?_
     . rintro _ _ _ _ _ ⟨_,c29,rfl,bi,_,_⟩ hm;refine pn ?_;refine Q5u Q1s (W7 (args:=[pt D 0]) Tryz.func159 rfl Tryz.ntmps159 rfl rfl fun J=>sB 5 3 Z1 bi ?_);intro _ _ bj;exact pe hm (bj.sE [2,5])
     rintro _ _ _ _ _ ⟨_,c23,_,c24,rfl,bk,_,bm,_⟩ hm;refine sT 0 bk ?_;intro _ _ bn;refine kA ?_;refine cB Z4j hm (V2 (bn.bE (Z4 0 5) [5]) Z1 (mC bm)) ?_;rintro bo _ _ _ _ ⟨_,c25,rfl,aq,bp,_⟩ hm;refine nil (B0 [(0,pt Y3 Y2),(2,pt U 0),(3,pt O 0),(41,.bool bo.1)] ⟨rfl,rfl,rfl,rfl,qZt⟩ fun J=>?_);refine cd hm ?_ ?_<;>intro dl hm
     . refine pu ?_;refine cP X3f hm (hG.J9 (aq.bE (Z4 0 5) [5]) Z1 bp) ?_ ?_
       . rintro _ _ _ _ _ ⟨_,c28,rfl,bq,_,_⟩ hm;refine pn ?_;refine Q5u Q1s (W7 (args:=[pt D 0]) Tryz.func159 rfl Tryz.ntmps159 rfl rfl fun J=>sB 5 3 Z1 bq ?_);intro _ _ bt;exact pe hm (bt.sE [2,5])
       rintro _ _ _ _ _ ⟨_,c26,_,c27,rfl,bu,_,_,_⟩ hm;refine sT 0 bu ?_;intro _ _ bv;obtain⟨_,_,bw,_,rfl⟩:=bv.sl 4;exact je hm (bw.sE [0,1,2,3,5])
     obtain⟨_,_,bz,_,rfl⟩:=aq.sl 4;exact je hm (bz.sE [0,1,2,3,5])
   refine qU ?_;refine cB Z4j hm (V2 (ao.bE (Z4 0 4) [4]) Z1 ap) ?_;rintro _ _ _ _ _ ⟨_,c31,rfl,ar,au,_⟩ hm;refine cd hm ?_ ?_<;>intro dm hm
   . refine qU ?_;refine cP X3g hm (Q1y (ar.bE (Z4 0 4) [4]) Z1 au) ?_ ?_
     . rintro _ _ _ _ _ ⟨_,_,rfl,bA,_,_⟩ hm;refine pn ?_;refine Q5u Q1s (W7 (args:=[pt D 0]) Tryz.func159 rfl Tryz.ntmps159 rfl rfl fun J=>sB 4 3 Z1 bA ?_);intro _ _ bB;exact pe hm (bB.sE [2,4])
     rintro _ _ _ _ _ ⟨_,_,_,_,_,rfl,bC,bD,_⟩ hm;refine sT 0 bC ?_;intro _ _ bF;refine sT 0 bF ?_;intro _ _ bG;refine pn ?_;refine cP X3f hm (hG.J9 (bG.bE [0,1,2,3,5] [4]) Z1 (mC bD)) ?_ ?_
     . rintro _ _ _ _ _ ⟨_,_,rfl,bI,_,_⟩ hm;refine pn ?_;refine Q5u Q1s (W7 (args:=[pt D 0]) Tryz.func159 rfl Tryz.ntmps159 rfl rfl fun J=>sB 5 3 Z1 bI ?_);intro _ _ bJ;exact pe hm (bJ.sE [2,5])
     rintro _ _ _ _ _ ⟨_,_,_,_,rfl,bK,_,_,_⟩ hm;refine sT 0 bK ?_;intro _ _ bL;obtain⟨_,_,bM,_,rfl⟩:=bL.sl 4;exact je hm (bM.sE [0,1,2,3,5])
   refine qU ?_;refine cB Z4j hm (V2 (ar.bE (Z4 0 4) [4]) Z1 au) ?_;rintro _ _ _ _ _ ⟨_,_,rfl,av,aw,_⟩ hm;refine cd hm ?_ ?_<;>intro dn hm
   . refine qU ?_;refine cP X3f hm (hG.J9 (av.bE (Z4 0 4) [4]) Z1 aw) ?_ ?_
     . rintro _ _ _ _ _ ⟨_,_,rfl,bN,_,_⟩ hm;refine pn ?_;refine Q5u Q1s (W7 (args:=[pt D 0]) Tryz.func159 rfl Tryz.ntmps159 rfl rfl fun J=>sB 4 3 Z1 bN ?_);intro _ _ bO;exact pe hm (bO.sE [2,4])
     rintro _ _ _ _ _ ⟨_,_,_,_,rfl,bP,_,bQ,_⟩ hm;refine sT 0 bP ?_;intro _ _ bR;refine sT 0 bR ?_;intro _ _ bT;refine nil (B0 [(0,pt Y3 Y2),(2,pt U 0),(3,pt O 0)] ⟨rfl,rfl,rfl,qZt⟩ fun J=>qU ?_);refine cP Z6h hm (V6 (bT.bE (Z4 0 4) [4]) Z1 (mC bQ)) ?_ ?_
     . rintro _ _ _ _ _ ⟨_,_,rfl,bU,_,_⟩ hm;refine pn ?_;refine Q5u Q1s (W7 (args:=[pt D 0]) Tryz.func159 rfl Tryz.ntmps159 rfl rfl fun J=>sB 4 3 Z1 bU ?_);intro _ _ bV;exact pe hm (bV.sE [2,4])
     rintro _ _ _ _ _ ⟨_,_,rfl,bW,bY,_⟩ hm;refine kA ?_;refine cP X3g hm (Q1y (bW.bE (Z4 0 4) [4]) Z1 bY) ?_ ?_
     . rintro _ _ _ _ _ ⟨_,_,rfl,bZ,_,_⟩ hm;refine pn ?_;refine Q5u Q1s (W7 (args:=[pt D 0]) Tryz.func159 rfl Tryz.ntmps159 rfl rfl fun J=>sB 4 3 Z1 bZ ?_);intro _ _ b0;exact pe hm (b0.sE [2,4])
     rintro _ _ _ _ _ ⟨_,_,_,_,_,rfl,b4,b5,_⟩ hm;refine sT 0 b4 ?_;intro _ _ b6;refine pn ?_;refine cP Z6h hm (V6 (b6.bE [0,1,2,3,5] [4]) Z1 (mC b5)) ?_ ?_
     . rintro _ _ _ _ _ ⟨_,_,rfl,b7,_,_⟩ hm;refine pn ?_;refine Q5u Q1s (W7 (args:=[pt D 0]) Tryz.func159 rfl Tryz.ntmps159 rfl rfl fun J=>sB 5 3 Z1 b7 ?_);intro _ _ b8;exact pe hm (b8.sE [2,5])
     rintro _ _ _ _ _ ⟨_,_,rfl,b9,_,_⟩ hm;obtain⟨_,_,cc,_,rfl⟩:=b9.sl 4;exact je hm (cc.sE [0,1,2,3,5])
   refine qU ?_;refine cB Z4j hm (V2 (av.bE (Z4 0 4) [4]) Z1 aw) ?_;rintro ce _ _ _ _ ⟨_,_,rfl,ax,ay,_⟩ hm;refine pu ?_;refine nil (B0 [(0,pt Y3 Y2),(2,pt U 0),(3,pt O 0),(69,.bool ce.1)] ⟨rfl,rfl,rfl,rfl,qZt⟩ fun J=>?_);refine cd hm ?_ ?_<;>intro dp hm
   . refine sq2 (sT 0 ax ?_);intro w64 _ cf;refine kA ?_;refine cP Z6h hm (V6 (cf.bE (Z4 0 4) [4]) Z1 (mC ay)) ?_ ?_
     . rintro _ _ _ _ _ ⟨_,_,rfl,cg,_,_⟩ hm;refine pn ?_;refine Q5u Q1s (W7 (args:=[pt D 0]) Tryz.func159 rfl Tryz.ntmps159 rfl rfl fun J=>sB 4 3 Z1 cg ?_);intro _ _ ci;exact pe hm (ci.sE [2,4])
     rintro _ _ _ _ _ ⟨_,_,rfl,cj,ck,_⟩ hm;refine kA ?_;refine cP cf126 hm (Q1i (cj.bE (Z4 0 4) [4]) Z1 ck) ?_ ?_
     . rintro _ _ _ _ _ ⟨_,_,rfl,cl,_,_⟩ hm;refine pn ?_;refine Q5u Q1s (W7 (args:=[pt D 0]) Tryz.func159 rfl Tryz.ntmps159 rfl rfl fun J=>sB 4 3 Z1 cl ?_);intro _ _ cm;exact pe hm (cm.sE [2,4])
     rintro _ _ _ _ _ ⟨_,_,_,_,_,rfl,cn,co,_⟩ hm;refine pu ?_;refine cP cf126 hm (Q1i (cn.bE [0,1,2,3,5] [4]) Z1 co) ?_ ?_
     . rintro _ _ _ _ _ ⟨_,_,rfl,cp,_,_⟩ hm;refine pn ?_;refine Q5u Q1s (W7 (args:=[pt D 0]) Tryz.func159 rfl Tryz.ntmps159 rfl rfl fun J=>sB 5 3 Z1 cp ?_);intro _ _ cq;exact pe hm (cq.sE [2,5])
     rintro _ _ _ _ _ ⟨_,_,_,_,_,rfl,cr,ct,_⟩ hm;refine pu ?_;refine cP cf126 hm (Q1i (cr.bE (Z4 0 5++[6]) [5]) Z1 ct) ?_ ?_
     . rintro _ _ _ _ _ ⟨_,_,rfl,cu,_,_⟩ hm;refine pn ?_;refine Q5u Q1s (W7 (args:=[pt D 0]) Tryz.func159 rfl Tryz.ntmps159 rfl rfl fun J=>sB 6 3 Z1 cu ?_);intro _ _ cv;exact pe hm (cv.sE [2,6])
     rintro _ _ _ _ _ ⟨_,_,_,_,_,rfl,cw,cx,_⟩ hm;refine sT 0 cw ?_;intro _ _ cy;refine sT 0 cy ?_;intro _ _ cz;refine sT 0 cz ?_;intro _ _ cA;refine pn ?_;refine cP X3f hm (hG.J9 (cA.bE (Z4 0 6++[7]) [6]) Z1 (mC cx)) ?_ ?_
     . rintro _ _ _ _ _ ⟨_,_,rfl,cC,_,_⟩ hm;refine pn ?_;refine Q5u Q1s (W7 (args:=[pt D 0]) Tryz.func159 rfl Tryz.ntmps159 rfl rfl fun J=>sB 7 3 Z1 cC ?_);intro _ _ cD;exact pe hm (cD.sE [2,7])
     rintro _ _ _ _ _ ⟨_,_,_,_,rfl,cE,_,_,_⟩ hm;refine sT 0 cE ?_;intro _ _ cF;obtain⟨_,_,cG,_,rfl⟩:=cF.sl 4;obtain⟨_,_,cI,_,rfl⟩:=cG.sl 5;obtain⟨_,_,cJ,_,rfl⟩:=cI.sl 6;exact je hm (cJ.sE [0,1,2,3,7])
   refine qU ?_;refine cB Z4j hm (V2 (ax.bE (Z4 0 4) [4]) Z1 ay) ?_;rintro _ _ _ _ _ ⟨_,_,rfl,az,aA,_⟩ hm;refine cd hm ?_ ?_<;>intro dq hm
   . refine qU ?_;refine cP X3g hm (Q1y (az.bE (Z4 0 4) [4]) Z1 aA) ?_ ?_
     . rintro _ _ _ _ _ ⟨_,_,rfl,cK,_,_⟩ hm;refine pn ?_;refine Q5u Q1s (W7 (args:=[pt D 0]) Tryz.func159 rfl Tryz.ntmps159 rfl rfl fun J=>sB 4 3 Z1 cK ?_);intro _ _ cL;exact pe hm (cL.sE [2,4])
     rintro _ _ _ _ _ ⟨_,_,_,_,_,rfl,cM,cO,_⟩ hm;refine sT 0 cM ?_;intro _ _ cQ;refine sT 0 cQ ?_;intro _ _ cR;refine pn ?_;refine cP cf127 hm (hG.N9 (cR.bE [0,1,2,3,5] [4]) Z1 (mC cO)) ?_ ?_
     . rintro _ _ _ _ _ ⟨_,_,rfl,cT,_,_⟩ hm;refine pn ?_;refine Q5u Q1s (W7 (args:=[pt D 0]) Tryz.func159 rfl Tryz.ntmps159 rfl rfl fun J=>sB 5 3 Z1 cT ?_);intro _ _ cU;exact pe hm (cU.sE [2,5])
     rintro _ _ _ _ _ ⟨_,_,_,_,_,rfl,cV,_,_⟩ hm;refine sT 0 cV ?_;intro _ _ cW;obtain⟨_,_,cX,_,rfl⟩:=cW.sl 4;obtain⟨_,_,cY,_,rfl⟩:=cX.sl 6;exact je hm (cY.sE [0,1,2,3,5])
   refine pu ?_;refine cP cf128 hm (Q8i (az.bE [1,2,3] [4,0]) Z1 aA (Q1j O) U0 U0 U0 U0 U0 U0 U0) ?_ ?_
   . rintro _ _ _ _ _ ⟨_,_,_,_,_,_,_,_,_,_,_,_,_,_,_,_,rfl,cZ,_,_,_,_,_,_,_,_,_⟩ hm;refine pn ?_;refine Q5u Q1s (W7 (args:=[pt D 0]) Tryz.func159 rfl Tryz.ntmps159 rfl rfl fun J=>sB 3 3 Z1 cZ ?_);intro _ _ da;exact pe hm (da.sE [1,3])
   rintro _ _ _ _ _ ⟨_,_,_,_,_,_,_,_,_,_,_,_,_,_,_,_,rfl,db,_,_,_,_,_,_,_,_,_⟩ hm;exact je hm (db.sE [4,0,1,2,3])
 rintro _ E ⟨I,V,K,W,c3,a4,c4,a5,c5,a6,c6,a7,c7,a8,c8,a9,c9,ag,c10,⟨J,hm,rfl,dc,_⟩,h3,_,_,h6,_,_,_,_⟩;refine sq2 (sT 1 dc ?_);intro _ _ dd;refine pn ?_;refine pn ?_;refine retD Q1s (W7 (args:=[pt D 0]) Tryz.func159 rfl Tryz.ntmps159 rfl rfl fun J=>sB 4 3 Z1 dd ?_);intro _ _ de;exact eo hm (de.sE [2,4])
theorem Y0b{G:Y6g}(hG:Sp2 G):Q6p (I9 G):=by
 intro g _ _ R _ Y3 Y2 Z6 a1 c1 hS Z1 h1 r hm;refine eN Tryz.func58 Tryz.ntmps58 fun J=>?_;unfold I9 at hm;refine qN ?_;refine qN ?_;refine qU ?_;refine cP Z6h hm (V6 (hS.bE [0] [1]) Z1 h1) ?_ ?_
 . exact zk
 rintro _ _ T1 w1 _ ⟨_,c2,rfl,af,h2,_⟩ hm;refine pn ?_;refine sq2 ?_;have ag:=af.nilO Q5t 111;refine lpJ hm (fun aa o1 m a E=>∃I D K O U c3 V c4,JR (nf 15) g T1 w1 a E I (loopM aa m (K,D)=some o1) [(0,pt Y3 Y2),(3,.slice O U c3)] [F5 Q5t 111 (.slice O U c3) K,X0 R,Q1 V c4 Z6 D]/\Q6 V c4 I E D.l) (fun _ _ h=>je h (ag.sE [0,1,2])) ?_;rintro aa ah o1 _ _ _ E ⟨I,D,K,O,U,c3,V,c4,⟨J,ai,rfl,aj,_⟩,h3⟩;obtain⟨m1,_,rfl,hm,ak⟩:=lrE ai ah;refine sq2 (qU ?_);refine cB Z4j hm (V2 (aj.bE [0,1] [2]) Z1 h3) ?_;rintro _ _ _ _ _ ⟨_,c5,rfl,ac,h4,_⟩ hm;refine cd hm ?_ ?_<;>intro aG hm
 . refine pn ?_;refine blk (pu ?_);refine cP cf89 hm (hG.J1 (ac.bE [0,1] [2]) Z1 h4) ?_ ?_
   . exact zk
   rintro W _ _ _ _ ⟨a6,c6,a7,c7,a8,c8,a9,c9,ar,c10,au,c11,av,c12,_,c13,rfl,aw,h5,h6,h7,h8,h9,aB,aC,_,_⟩ hm;refine bS (r:=Q5t) (l:=([W.1]:List V8)) (css:=[(Q8n W.1 a6 c6 a7 c7 a8 c8 a9 c9 ar c10 au c11 av c12)]) aw ⟨(Y7d (x:=W.1) h5 h6 h7 h8 h9 aB aC:Q5t.rp _ _ _ _),qZt⟩ ?_;intro _ _ _ c14 _ aD;obtain⟨_,aE,hm⟩:=bindS hm;refine aO 1 aD (K9 aE) ?_;intro _ _ _ c15 _ aF;exact lg hm ak (aF.sE [1,2,3])
 exact zr hm ac
theorem sp2:∀n,Sp2 (Q5s n)
 |0=>⟨(by unfold Q7l;intros;rename_i h;cases(show(none:Option _)=some _ from h)),(by unfold Q6o;intros;rename_i h;cases(show(none:Option _)=some _ from h)),(by unfold Q7h;intros;rename_i h;cases(show(none:Option _)=some _ from h)),(by unfold Q6p;intros;rename_i h;cases(show(none:Option _)=some _ from h))⟩
 |n+1=>⟨Y2b (sp2 n),Y0a (sp2 n),Y1y (sp2 n),Y0b (sp2 n)⟩
theorem X2c:Q7l J9:=(sp2 NN).J9
theorem X1u:Q6o N9:=(sp2 NN).N9
theorem X1z:Q7h J1:=(sp2 NN).J1
theorem Z2n:Q6p G7:=(sp2 NN).G7
end Go.Proofs.YtjohcgibbiebkaaGreatDoor
