/- That Go functions compute their models. Printed by gen2.py. -/
import Derived.Test.YtfffghclkmbopaaGreatKWa
set_option linter.unusedVariables false
namespace Go.Proofs.YtfffghclkmbopaaGreat
open _root_.Go.Proofs.Tryz
set_option maxRecDepth 100000
set_option maxHeartbeats 8000000
attribute [local irreducible] wpList wpQuiet Code.wp
variable{g:World}{T0:Nat->Prop}{w0:World}{R:List X4}
variable{b1 b2 Y5 Q1c Z6c Z6b Z6x c1 c2 c3 c4 c5 c6 c7 c8 c9 c10 c11 c12 c13 n1 n2 n3 n4 n5 n6 n7 Y4 Q1b Z5m Z5l Z6p oo1 oo2:Nat}{H1 H2 Z7 R6 Z3o Z3n Z6f:List Value->X4}{a1 a2 a3 a4 a5 a6 a7 a8 a9 a10 a11 a12 a13:OA}{r1 r2:Option Nat}{pv1:Value}
attribute [local irreducible] A7 Q0r execOp Program.underlying sizeOf isAgg zeroValue

def Q1z(F:Z0->Option (Except (Z6×Z0) ((List Y2)×Z0))):Prop:=∀{g:World}{T0:TP}{w0:World}{R:List X4}{p0:Z0}{Y5 Y4:Nat}{Z7:List Value->X4}{a1 c1}(hS:Q26 a1 c1 Z7 T0 g w0 R p0)(Z2:Ln Y5 Y4 Z7)(h1:Q5 a1 c1 T0 w0 p0),∀r,F p0=some r->
 Cl 122 #[pt Y5 Y4] w0 (exR r (fun r=>J1 T0 w0 (Q31 Z7 g R r.2 r.1)) (fun r=>L0 T0 w0 (Q3 Z7 g R r.1.pos r.1.e r.2 r.2.l)))
def Q4f(F:Z0->Option (Except (Z6×Z0) ((List Y2)×Z0))):Prop:=∀{g:World}{T0:TP}{w0:World}{R:List X4}{p0:Z0}{Y5 Y4:Nat}{Z7:List Value->X4}{a1 c1}(hS:Q26 a1 c1 Z7 T0 g w0 R p0)(Z2:Ln Y5 Y4 Z7)(h1:Q5 a1 c1 T0 w0 p0),∀r,F p0=some r->
 Cl 199 #[pt Y5 Y4] w0 (exR r (fun r=>J1 T0 w0 (Q31 Z7 g R r.2 r.1)) (fun r=>L0 T0 w0 (Q3 Z7 g R r.1.pos r.1.e r.2 r.2.l)))
def Q5f(F:Z0->Option (Except (Z6×Z0) (Y2×Z0))):Prop:=∀{g:World}{T0:TP}{w0:World}{R:List X4}{p0:Z0}{Y5 Y4:Nat}{Z7:List Value->X4}{a1 c1}(hS:Q26 a1 c1 Z7 T0 g w0 R p0)(Z2:Ln Y5 Y4 Z7)(h1:Q5 a1 c1 T0 w0 p0),∀r,F p0=some r->
 Cl 197 #[pt Y5 Y4] w0 (exR r (fun r=>J1 T0 w0 (Q13 Z7 g R r.1 r.2 r.1.Kids)) (fun r=>L0 T0 w0 (Q3 Z7 g R r.1.pos r.1.e r.2 r.2.l)))
def Q5w(F:Z0->Option (Except (Z6×Z0) (Y2×Z0))):Prop:=∀{g:World}{T0:TP}{w0:World}{R:List X4}{p0:Z0}{Y5 Y4:Nat}{Z7:List Value->X4}{a1 c1}(hS:Q26 a1 c1 Z7 T0 g w0 R p0)(Z2:Ln Y5 Y4 Z7)(h1:Q5 a1 c1 T0 w0 p0),∀r,F p0=some r->
 Cl 192 #[pt Y5 Y4] w0 (exR r (fun r=>J1 T0 w0 (Q13 Z7 g R r.1 r.2 r.1.Kids)) (fun r=>L0 T0 w0 (Q3 Z7 g R r.1.pos r.1.e r.2 r.2.l)))
def Q5d(F:Z0->Option (Except (Z6×Z0) (Y2×Z0))):Prop:=∀{g:World}{T0:TP}{w0:World}{R:List X4}{p0:Z0}{Y5 Y4:Nat}{Z7:List Value->X4}{a1 c1}(hS:Q26 a1 c1 Z7 T0 g w0 R p0)(Z2:Ln Y5 Y4 Z7)(h1:Q5 a1 c1 T0 w0 p0),∀r,F p0=some r->
 Cl 174 #[pt Y5 Y4] w0 (exR r (fun r=>J1 T0 w0 (Q13 Z7 g R r.1 r.2 r.1.Kids)) (fun r=>L0 T0 w0 (Q3 Z7 g R r.1.pos r.1.e r.2 r.2.l)))
def Q4h(F:Z0->Int->Option (Except (Z6×Z0) (Y2×Z0))):Prop:=∀{g:World}{T0:TP}{w0:World}{R:List X4}{p0:Z0}{Y5 Y4:Nat}{Z7:List Value->X4}{a1 c1 p1}(hS:Q26 a1 c1 Z7 T0 g w0 R p0)(Z2:Ln Y5 Y4 Z7)(h1:Q5 a1 c1 T0 w0 p0),∀r,F p0 p1=some r->
 Cl 154 #[pt Y5 Y4,iv p1] w0 (exR r (fun r=>J1 T0 w0 (Q13 Z7 g R r.1 r.2 r.1.Kids)) (fun r=>L0 T0 w0 (Q3 Z7 g R r.1.pos r.1.e r.2 r.2.l)))
def Q5y(F:Z0->Option (Except (Z6×Z0) (Y2×Z0))):Prop:=∀{g:World}{T0:TP}{w0:World}{R:List X4}{p0:Z0}{Y5 Y4:Nat}{Z7:List Value->X4}{a1 c1}(hS:Q26 a1 c1 Z7 T0 g w0 R p0)(Z2:Ln Y5 Y4 Z7)(h1:Q5 a1 c1 T0 w0 p0),∀r,F p0=some r->
 Cl 117 #[pt Y5 Y4] w0 (exR r (fun r=>J1 T0 w0 (Q13 Z7 g R r.1 r.2 r.1.Kids)) (fun r=>L0 T0 w0 (Q3 Z7 g R r.1.pos r.1.e r.2 r.2.l)))
def Q4i(F:Z0->Option (Except (Z6×Z0) (Y2×Z0))):Prop:=∀{g:World}{T0:TP}{w0:World}{R:List X4}{p0:Z0}{Y5 Y4:Nat}{Z7:List Value->X4}{a1 c1}(hS:Q26 a1 c1 Z7 T0 g w0 R p0)(Z2:Ln Y5 Y4 Z7)(h1:Q5 a1 c1 T0 w0 p0),∀r,F p0=some r->
 Cl 91 #[pt Y5 Y4] w0 (exR r (fun r=>J1 T0 w0 (Q13 Z7 g R r.1 r.2 r.1.Kids)) (fun r=>L0 T0 w0 (Q3 Z7 g R r.1.pos r.1.e r.2 r.2.l)))
structure Sp1(G:Z6y):Prop where
 U2:Q1z G.U2
 J6:Q4f G.J6
 P4:Q5f G.P4
 D8:Q5w G.D8
 J8:Q5d G.J8
 G3:Q4h G.G3
 E7:Q5y G.E7
 X6:Q4i G.X6
theorem Z3y{G:Z6y}(hG:Sp1 G):Q1z (M8 G):=by
 intro g _ _ R _ Y5 Y4 Z7 a1 c1 hS Z2 h1 r hm;refine eN Tryz.func122 Tryz.ntmps122 fun J=>?_;unfold M8 at hm;refine qN ?_;refine qU ?_;refine cP Z4f hm (V7 (hS.bE [0] [1]) Z2 h1) ?_ ?_
 . exact zk
 rintro _ _ _ _ _ ⟨_,c2,rfl,E,h2,_⟩ hm;refine kA ?_;refine cP Y0a hm (hG.X6 (E.bE [0] [1]) Z2 h2) ?_ ?_
 . exact zk
 rintro D _ _ _ _ ⟨I,c3,_,c4,rfl,K,_,_,_⟩ hm;have O:HL 1 E2 ([D.1]:List Y2) [(D6 D.1 I c3)]:=⟨qZt⟩;exact zr hm K
theorem Z6m{G:Z6y}(hG:Sp1 G):Q4f (L2 G):=by
 intro g _ _ R _ Y5 Y4 Z7 a1 c1 hS Z2 h1 r hm;refine eN Tryz.func199 Tryz.ntmps199 fun J=>?_;unfold L2 at hm;refine qN ?_;refine qU ?_;refine cP Z4f hm (V7 (hS.bE [0] [1]) Z2 h1) ?_ ?_
 . exact zk
 rintro _ _ _ _ _ ⟨_,c2,rfl,af,h2,_⟩ hm;refine kB ?_;refine cB Z2v hm (V3 (af.bE [0] [1]) Z2 h2) ?_;rintro _ _ _ _ _ ⟨_,c3,rfl,ab,h3,_⟩ hm;refine cd hm ?_ ?_<;>intro aD hm
 . refine qN ?_;have ah:=ab.nilO E2 136;exact re hm (ah.sE [1,2,0])
 refine kA ?_;refine cP Y0a hm (hG.X6 (ab.bE [0] [1]) Z2 h3) ?_ ?_
 . exact zk
 rintro E _ T3 _ _ ⟨a4,c4,_,c5,rfl,ak,h4,_,_⟩ hm;refine bS (r:=E2) (l:=([E.1]:List Y2)) (css:=[(D6 E.1 a4 c4)]) ak ⟨(Q2e (x:=E.1) h4:E2.rp _ _ _ _),qZt⟩ ?_;intro w4 _ _ c6 _ ao;refine kE ?_;refine lpJ hm (fun ac o1 m a I=>∃K D O U V c7 W c8,JR (nf 21) g T3 w4 a I K (X8 ac m (O,D)=some o1) [(0,pt Y5 Y4),(3,.slice U V c7)] [G6 E2 136 (.slice U V c7) O,X3 R,Q1 W c8 Z7 D]/\Q5 W c8 K I D) (fun _ _ h=>je h (ao.sE [0,1,2])) ?_;rintro ac ap o1 _ _ _ I ⟨K,D,O,U,V,c7,W,c8,⟨J,aq,rfl,ar,_⟩,h6⟩;obtain⟨m1,_,rfl,hm,av⟩:=lrE aq ap;refine sq2 (qU ?_);refine cB Z2v hm (V3 (ar.bE [0,1] [2]) Z2 h6) ?_;rintro _ _ _ _ _ ⟨_,c9,rfl,ae,h7,_⟩ hm;refine cd hm ?_ ?_<;>intro aE hm
 . refine pn ?_;refine blk (pu ?_);refine cP Y0a hm (hG.X6 (ae.bE [0,1] [2]) Z2 h7) ?_ ?_
   . exact zk
   rintro y5 _ _ _ _ ⟨ax,c10,_,c11,rfl,ay,h8,_,_⟩ hm;refine bS (r:=E2) (l:=([y5.1]:List Y2)) (css:=[(D6 y5.1 ax c10)]) ay ⟨(Q2e (x:=y5.1) h8:E2.rp _ _ _ _),qZt⟩ ?_;intro _ _ _ c12 _ aA;obtain⟨_,aB,hm⟩:=Z9 hm;refine aO 1 aA (K9 aB) ?_;intro _ _ _ c13 _ aC;exact lg hm av (aC.sE [1,2,3])
 exact zr hm ae
theorem Z7g{G:Z6y}(hG:Sp1 G):Q5f (M9 G):=by
 intro g _ _ R _ Y5 Y4 Z7 a1 c1 hS Z2 h1 r hm;refine eN Tryz.func197 Tryz.ntmps197 fun J=>?_;unfold M9 at hm;refine sq2 (aL zv2 hS ?_);intro _ V _ ac;refine kA ?_;refine cB cf57 hm (I2 (ac.bE [0,1] [2]) Z2 (mC h1)) ?_;rintro W _ T1 _ _ ⟨rfl,ae,_⟩ hm;refine pv (P3 (by kernel_rfl) rfl (u:= .agg #[iv 0,iv W.Line,iv W.Col,qZs [],qZs [],.int .u32 0,qZs [],qZs [],iv 0,.slice none 0 0])) (aL zv2 ae ?_);intro _ b2 _ af;refine sT 0 af ?_;intro w4 _ ah;refine pn ?_;refine S9 hm (fun ab a D=>∃E I K O c2 U c3,JR (nf 64) g T1 w4 a D E (ab K I=some r) [(2,pt V 0),(3,pt b2 0)] [Q21 O b2 c2 K,K4 V zv2,X3 R,Q1 U c3 Z7 I]/\Q8 O c2 E D K.Kids/\Q5 U c3 E D I) (fun ab hm=>?_) ?_
 . have aj:Ctr Tryz.prog 91 (type_of%@hG.X6):=⟨@hG.X6,Y0a⟩;have ak:Ctr Tryz.prog 122 (type_of%@hG.U2):=⟨@hG.U2,Y9l⟩;have am:Ctr Tryz.prog 199 (type_of%@hG.J6):=⟨@hG.J6,cf199⟩;exact zr hm ah
 rintro _ D ⟨E,I,K,O,c2,U,c3,⟨J,hm,rfl,ai,_⟩,h2,_⟩;exact zr hm ai
theorem Z8z{G:Z6y}(hG:Sp1 G):Q5w (R7 G):=by
 intro g _ _ R _ Y5 Y4 Z7 a1 c1 hS Z2 h1 r hm;refine eN Tryz.func192 Tryz.ntmps192 fun J=>?_;unfold R7 at hm;refine sq2 (aL zv2 hS ?_);intro _ K _ aG;refine kA ?_;refine cP cf197 hm (hG.P4 (aG.bE [0,1] [2]) Z2 (mC h1)) ?_ ?_
 . exact zk
 rintro _ _ T1 _ _ ⟨_,c2,_,c3,rfl,aJ,h2,_,_⟩ hm;refine aL zv2 aJ ?_;intro _ O _ aK;refine sT 0 aK ?_;intro w4 _ aN;refine pn ?_;refine lpJ hm (fun ap o1 m a w5=>∃W U D I c4 a5 c5,JR (nf 42) g T1 w4 a w5 W (X8 ap m (D,U)=some o1) [(0,pt Y5 Y4),(2,pt K 0),(3,pt O 0)] [Q21 I O c4 D,K4 K zv2,X3 R,Q1 a5 c5 Z7 U]/\Q8 I c4 W w5 D.Kids/\Q5 a5 c5 W w5 U) (fun _ _ h=>je h (aN.sN 0 4)) ?_;rintro ap aP o1 ar _ _ w5 ⟨W,U,D,I,c4,a5,c5,⟨J,aQ,rfl,aR,_⟩,h4,h5⟩;obtain⟨m1,z1,rfl,hm,av⟩:=lrE aQ aP;refine blk (sq2 (aL zv2 aR ?_));intro w6 V _ aU;refine pn ?_;have aV:=aU.nilO E2 136;refine S9 hm (fun aw a w7=>∃T3 x5 E a6 n1 c6 a7 c7,JR (nf 42) g W w6 a w7 T3 (aw E x5=some z1) [(0,pt Y5 Y4),(2,pt K 0),(3,pt O 0),(4,pt V 0)] [G6 E2 136 (.slice a6 n1 c6) E.Kids,K4 V [iv E.Kind,iv E.Pos.Line,iv E.Pos.Col,Q16 E.Op.toArray,Q16 E.Name.toArray,.int .u32 E.Num,Q16 E.Type_.Word.toArray,Q16 E.Type_.Name.toArray,iv E.Type_.Stars,.slice a6 n1 c6],Q21 I O c4 D,K4 K zv2,X3 R,Q1 a7 c7 Z7 x5]/\Q5 a7 c7 T3 w7 x5) (fun aw hm=>?_) ?_
 . refine qU ?_;refine cB Y6l hm (R8 (aV.bE (Z4 0 5) [5]) Z2 (mC h5)) ?_;rintro y2 _ T4 w8 _ ⟨rfl,ax,_⟩ hm;refine pn ?_;refine blk (sq2 (cd hm ?_ ?_))<;>intro bv hm
   . refine qU ?_;refine cB Y4s hm (N5 (ax.bE (Z4 0 5) [5]) Z2 (mC h5)) ?_;rintro y3 _ _ _ _ ⟨_,c8,_,c9,rfl,ba,_,h8,_⟩ hm;refine sT 1 ba ?_;intro _ _ be;refine kE ?_;refine sT 1 be ?_;intro _ _ bf;refine kE ?_;refine Q9y [1,0,2,2,0,2] [0,1,2,3,4,5] bf (U5 (Q0a (U5 (Q0a (U5 (Q0a (C7))))))) fun bw bz az=>pu ?_;obtain⟨y4,aA,hm⟩:=Z9 hm
     rcases y4 with e2|y4
     . have hm:=J4 hm;refine s2 [(0,.agg (D6 D I c4).toArray)] rfl qZt rfl (by kernel_rfl) (Q8x Y0a rfl (hG.X6 (p0:=y3.2) (az.bE (Z4 1 4) [5]) Z2 (mC h8) _ aA) rfl fun v7 T9 bF bG bg=>?_);obtain⟨_,c15,rfl,bh,_,_⟩:=bg;have hm:=Q4j hm av ar;exact pe hm (bh.sE [3,4])
     have hm:=C4 hm;refine sS [(0,.agg (D6 D I c4).toArray)] Y0a (hG.X6 (az.bE (Z4 1 4) [5]) Z2 (mC h8) _ aA) ?_;rintro _ _ _ _ ⟨bi,c10,_,c11,rfl,bj,h9,bl,_⟩;refine s2W [0] ?_;refine obS (r:=E2) (l:=([D,y4.1]:List Y2)) (css:=[(D6 D I c4),(D6 y4.1 bi c10)]) bj ⟨(Q2e (x:=D) (mC h4):E2.rp _ _ _ _),(Q2e (x:=y4.1) h9:E2.rp _ _ _ _),qZt⟩ ?_;intro _ _ _ c12 _ bm;refine s2W [] ?_;refine osT 1 bm ?_;intro _ _ bn;refine pn ?_;refine cP Z4f hm (V7 (bn.bE (Z4 0 5) [5]) Z2 (mC bl)) ?_ ?_
     . rintro _ _ _ _ _ ⟨_,c14,rfl,bo,_,_⟩ hm;have hm:=Q4j hm av ar;exact pe hm (bo.sE [4,5])
     rintro _ _ _ _ _ ⟨_,c13,rfl,bp,_,_⟩ hm;exact je hm (bp.sN 0 6)
   refine S9 hm (fun aB a ak=>∃am x6,JR (nf 42) g T4 w8 a ak am (aB x6=some z1) [(0,pt Y5 Y4),(2,pt K 0),(3,pt O 0),(4,pt V 0),(8,(qZs y2)),(22,.bool x6)] [G6 E2 136 (.slice none 0 0) [],K4 V zv2,Q21 I O c4 D,K4 K zv2,X3 R,Q1 a5 c5 Z7 U]) (fun aB hm=>?_) ?_
   . exact zr hm ax
   rintro _ ak ⟨am,x6,J,hm,rfl,aC,_⟩;refine cd hm ?_ ?_<;>intro bI hm
   . have bq:HL 1 E2 ([D]:List Y2) [(D6 D I c4)]:=⟨qZt⟩;exact zr hm aC
   refine S9 hm (fun aD a aE=>∃aF x7,JR (nf 42) g am ak a aE aF (aD x7=some z1) [(0,pt Y5 Y4),(2,pt K 0),(3,pt O 0),(4,pt V 0),(33,.bool x7)] [G6 E2 136 (.slice none 0 0) [],K4 V zv2,Q21 I O c4 D,K4 K zv2,X3 R,Q1 a5 c5 Z7 U]) (fun aD hm=>?_) ?_
   . exact zr hm aC
   rintro _ aE ⟨aF,x7,J,hm,rfl,bt,_⟩;have bq:HL 1 E2 ([D]:List Y2) [(D6 D I c4)]:=⟨qZt⟩;exact zr hm bt
 rintro _ w7 ⟨T3,x5,E,a6,n1,c6,a7,c7,⟨J,hm,rfl,bu,_⟩,_⟩;exact zr hm bu
theorem Z7f{G:Z6y}(hG:Sp1 G):Q5d (N1 G):=by
 intro g _ _ R _ Y5 Y4 Z7 a1 c1 hS Z2 h1 r hm;refine Y4n Tryz.func174 rfl Tryz.ntmps174 rfl fun J=>?_;unfold N1 at hm;refine sq2 (aL zv2 hS ?_);intro _ I _ aD;refine kA ?_;refine cP Y9m hm (W5 (aD.bE [0,1] [2]) Z2 (mC h1)) ?_ ?_
 . exact zk
 rintro y1 _ _ _ _ ⟨D,a2,c2,rfl,aE,h2,_⟩ hm;refine wl rfl (dfO (f:=153) (cap:=#[pt D 0]) rfl (pn ?_));refine sq2 (qU ?_);refine cB Y6l hm (R8 (aE.bE [0,1,3] [2]) Z2 h2) ?_;rintro y2 _ T2 w3 _ ⟨rfl,aJ,_⟩ hm;refine pn ?_;refine blk (S9 hm (fun av a W=>∃T3 x1,JR (⟨49,[⟨.fn (.func 153) #[pt D 0],#[]⟩]⟩) g T2 w3 a W T3 (av x1=some r) [(0,pt Y5 Y4),(2,pt I 0),(10,(qZs y2)),(11,.bool x1)] [K4 I zv2,X3 R,K4 D [pt Y5 Y4],Q1 a2 c2 Z7 y1]) (fun av hm=>?_) ?_)
 . exact zr hm aJ
 rintro _ W ⟨T3,x1,J,hm,rfl,aw,_⟩;refine cd hm ?_ ?_<;>intro cm hm
 . refine qU ?_;refine cB Y4s hm (N5 (aw.bE [0,1,2] [3]) Z2 (mC h2)) ?_;rintro _ _ _ _ _ ⟨_,c3,_,c4,rfl,aK,_,h4,_⟩ hm;refine aL zv2 aK ?_;intro _ _ _ aN;refine sT 0 aN ?_;intro _ _ aP;refine kA ?_;refine cP cf174 hm (hG.J8 (aP.bE (Z4 0 4) [4]) Z2 (mC h4)) ?_ ?_
   . rintro _ _ _ _ _ ⟨_,c8,rfl,aQ,_,_⟩ hm;refine pn ?_;exact Q4k Q0x (R3 (args:=[pt D 0]) Tryz.func153 rfl Tryz.ntmps153 rfl rfl fun J=>zr hm aQ)
   rintro y4 _ _ _ _ ⟨a5,c5,_,c6,rfl,aS,h5,_,_⟩ hm;refine bS (r:=E2) (l:=([y4.1]:List Y2)) (css:=[(D6 y4.1 a5 c5)]) aS ⟨(Q2e (x:=y4.1) h5:E2.rp _ _ _ _),qZt⟩ ?_;intro _ _ _ c7 _ aU;refine sT 1 aU ?_;intro _ _ aV;refine kE ?_;refine sT 2 aV ?_;intro _ _ aW;refine pn ?_;refine pn ?_;exact retD Q0x (R3 (args:=[pt D 0]) Tryz.func153 rfl Tryz.ntmps153 rfl rfl fun J=>zr hm aW)
 refine S9 hm (fun ax a ay=>∃T8 x2,JR (⟨49,[⟨.fn (.func 153) #[pt D 0],#[]⟩]⟩) g T3 W a ay T8 (ax x2=some r) [(0,pt Y5 Y4),(2,pt I 0),(24,.bool x2)] [K4 I zv2,X3 R,K4 D [pt Y5 Y4],Q1 a2 c2 Z7 y1]) (fun ax hm=>?_) ?_
 . exact zr hm aw
 rintro _ ay ⟨T8,x2,J,hm,rfl,aA,_⟩;refine cd hm ?_ ?_<;>intro cn hm
 . refine qU ?_;refine cB Y4s hm (N5 (aA.bE [0,1,2] [3]) Z2 (mC h2)) ?_;rintro _ _ _ _ _ ⟨_,c9,_,c10,rfl,aX,_,aY,_⟩ hm;refine aL zv2 aX ?_;intro _ _ _ aZ;refine sT 0 aZ ?_;intro _ _ ba;refine kA ?_;refine cP cf174 hm (hG.J8 (ba.bE (Z4 0 4) [4]) Z2 (mC aY)) ?_ ?_
   . rintro _ _ _ _ _ ⟨_,c14,rfl,be,_,_⟩ hm;refine pn ?_;exact Q4k Q0x (R3 (args:=[pt D 0]) Tryz.func153 rfl Tryz.ntmps153 rfl rfl fun J=>zr hm be)
   rintro y6 _ _ _ _ ⟨bf,c11,_,c12,rfl,bg,bh,_,_⟩ hm;refine bS (r:=E2) (l:=([y6.1]:List Y2)) (css:=[(D6 y6.1 bf c11)]) bg ⟨(Q2e (x:=y6.1) bh:E2.rp _ _ _ _),qZt⟩ ?_;intro _ _ _ c13 _ bi;refine sT 1 bi ?_;intro _ _ bj;refine kE ?_;refine sT 2 bj ?_;intro _ _ bk;refine pn ?_;refine pn ?_;exact retD Q0x (R3 (args:=[pt D 0]) Tryz.func153 rfl Tryz.ntmps153 rfl rfl fun J=>zr hm bk)
 refine kB ?_;refine cB cf57 hm (I2 (aA.bE [0,1,2] [3]) Z2 (mC h2)) ?_;rintro K _ _ _ _ ⟨rfl,bl,_⟩ hm;refine aL [iv 0,iv 0] bl ?_;intro _ _ _ bm;refine sT 0 bm ?_;intro _ _ bn;refine kA ?_;refine cB Z2v hm (V3 (bn.bE (Z4 0 4) [4]) Z2 (mC h2)) ?_;rintro _ _ _ _ _ ⟨_,c15,rfl,aB,aC,_⟩ hm;refine cd hm ?_ ?_<;>intro cp hm
 . refine qU ?_;refine cP Z4f hm (V7 (aB.bE (Z4 0 4) [4]) Z2 aC) ?_ ?_
   . rintro _ _ _ bo bp ⟨_,c22,rfl,af,_,_⟩ hm;refine pn ?_;exact Q4k Q0x (R3 (args:=[pt D 0]) Tryz.func153 rfl Tryz.ntmps153 rfl rfl fun J=>zr hm af)
   rintro _ _ _ _ _ ⟨_,c16,rfl,bq,O,_⟩ hm;refine kE ?_;refine rtPS [1,0,2,0,2,2] [0,1,2,3,4,5] bq (U5 (U5 (Y8q (rs:=[.cell 2 136]) rfl (by kernel_rfl)))) fun cq cr U=>?_;refine pu ?_;obtain⟨E,V,hm⟩:=Z9 hm
   rcases E with e3|E
   . have hm:=J4 hm;refine tF [2,4] ?_;refine⟨?_,?_,qZt⟩
     . refine brW [3,4,5] [] ?_;refine oP cf63 (E3 (U.bE [1,2,3,0] [4]) Z2 (mC O) _ V) ?_;rintro _ bt _ _ ⟨bu,c21,rfl,bv,bw,_⟩;refine pn ?_;refine Q4k Q0x (R3 (args:=[pt D 0]) Tryz.func153 rfl Tryz.ntmps153 rfl rfl fun J=>sB 4 3 Z2 bv ?_);intro bz bA ag;exact pe hm (ag.sE [1,4])
     refine brW [2,3,5] [] ?_;refine oaL zv2 U ?_;intro _ _ _ bC;refine t1W [2] [3,5] [] ?_;refine oP cf63 (E3 (bC.bE [0,2,3,4,1] [5]) Z2 (mC O) _ V) ?_;rintro _ bt bz bA ⟨bu,c21,rfl,ag,bw,_⟩;refine pn ?_;refine Q4k Q0x (R3 (args:=[pt D 0]) Tryz.func153 rfl Tryz.ntmps153 rfl rfl fun J=>sB 5 3 Z2 ag ?_);intro bo bp af;exact pe hm (af.sE [2,5])
   have hm:=C4 hm;refine tF [2,4] ?_;refine⟨?_,?_,qZt⟩
   . refine brW [3,4,5] [] ?_;refine oS cf63 (E3 (U.bE [1,2,3,0] [4]) Z2 (mC O) _ V) ?_;rintro _ bD bF bG ⟨bI,c17,rfl,ah,ai,_⟩;refine pu ?_;refine t0 rfl qZt (fun _=>P3 (by kernel_rfl) rfl (u:= .agg #[iv 12,iv K.Line,iv K.Col,qZs [],qZs [],.int .u32 0,qZs E.1.Word,qZs E.1.Name,iv E.1.Stars,.slice none 0 0])) rfl (t1W [4] [5] [] ?_);refine oaL zv2 ah ?_;intro bJ b6 bL aj;refine t1W [5] [] [0] ?_;refine osT 0 aj ?_;intro bM bN ak;refine kA ?_;refine cP Z4f hm (V7 (ak.bE (Z4 0 4) [5]) Z2 (mC ai)) ?_ ?_
     . rintro e4 _ bP bQ bR ⟨bT,c19,rfl,am,bU,_⟩ hm;refine pn ?_;refine Q4k Q0x (R3 (args:=[pt D 0]) Tryz.func153 rfl Tryz.ntmps153 rfl rfl fun J=>sB 4 3 Z2 am ?_);intro bV bW an;exact pe hm (an.sE [2,4])
     rintro bY _ bZ b0 b8 ⟨b9,c18,rfl,ao,cc,_⟩ hm;refine kE ?_;refine sT 1 ao ?_;intro ce cf ap;refine pn ?_;refine pn ?_;refine retD Q0x (R3 (args:=[pt D 0]) Tryz.func153 rfl Tryz.ntmps153 rfl rfl fun J=>sB 4 3 Z2 ap ?_);intro cg ci aq;exact eo hm (aq.sE [2,4])
   refine brW [2,3,5] [] ?_;refine oaL zv2 U ?_;intro bF b6 bG ah;refine t1W [2] [3,5] [] ?_;refine oS cf63 (E3 (ah.bE [0,2,3,4,1] [5]) Z2 (mC O) _ V) ?_;rintro _ bD bJ bL ⟨bI,c17,rfl,aj,ai,_⟩;refine pu ?_;refine t0 rfl qZt (fun _=>P3 (by kernel_rfl) rfl (u:= .agg #[iv 12,iv K.Line,iv K.Col,qZs [],qZs [],.int .u32 0,qZs E.1.Word,qZs E.1.Name,iv E.1.Stars,.slice none 0 0])) rfl (t1W [5] [] [0] ?_);refine osT 0 aj ?_;intro bM bN ak;refine kA ?_;refine cP Z4f hm (V7 (ak.bE (Z4 0 4) [5]) Z2 (mC ai)) ?_ ?_
   . rintro e4 _ bP bQ bR ⟨bT,c19,rfl,am,bU,_⟩ hm;refine pn ?_;refine Q4k Q0x (R3 (args:=[pt D 0]) Tryz.func153 rfl Tryz.ntmps153 rfl rfl fun J=>sB 4 3 Z2 am ?_);intro bV bW an;exact pe hm (an.sE [2,4])
   rintro bY _ bZ b0 b8 ⟨b9,c18,rfl,ao,cc,_⟩ hm;refine kE ?_;refine sT 1 ao ?_;intro ce cf ap;refine pn ?_;refine pn ?_;refine retD Q0x (R3 (args:=[pt D 0]) Tryz.func153 rfl Tryz.ntmps153 rfl rfl fun J=>sB 4 3 Z2 ap ?_);intro cg ci aq;exact eo hm (aq.sE [2,4])
 refine kA ?_;refine cP cf192 hm (hG.D8 (aB.bE [1,2,3] [4]) Z2 aC) ?_ ?_
 . rintro _ _ _ _ _ ⟨_,c25,rfl,cj,_,_⟩ hm;refine pn ?_;exact Q4k Q0x (R3 (args:=[pt D 0]) Tryz.func153 rfl Tryz.ntmps153 rfl rfl fun J=>zr hm cj)
 rintro _ _ _ _ _ ⟨_,c23,_,c24,rfl,ck,_,_,_⟩ hm;refine sT 0 ck ?_;intro _ _ cl;refine pn ?_;refine pn ?_;exact retD Q0x (R3 (args:=[pt D 0]) Tryz.func153 rfl Tryz.ntmps153 rfl rfl fun J=>zr hm cl)
theorem Z6n{G:Z6y}(hG:Sp1 G):Q4h (L3 G):=by
 intro g _ _ R _ Y5 Y4 Z7 a1 c1 p1 hS Z2 h1 r hm;refine eN Tryz.func154 Tryz.ntmps154 fun J=>?_;unfold L3 at hm;refine sq2 (aL zv2 hS ?_);intro _ b1 _ aj;refine kA ?_;refine cP cf174 hm (hG.J8 (aj.bE [0,1] [2]) Z2 (mC h1)) ?_ ?_
 . exact zk
 rintro _ _ T1 _ _ ⟨_,c2,_,c3,rfl,am,h2,_,_⟩ hm;refine aL zv2 am ?_;intro _ b2 _ an;refine sT 0 an ?_;intro w4 _ ap;refine pn ?_;refine lpJ hm (fun ac o1 m a I=>∃K O D E c4 V c5,JR (nf 31) g T1 w4 a I K (X8 ac m (D,O)=some o1) [(0,pt Y5 Y4),(1,iv p1),(4,pt b1 0),(5,pt b2 0)] [Q21 E b2 c4 D,K4 b1 zv2,X3 R,Q1 V c5 Z7 O]/\Q8 E c4 K I D.Kids/\Q5 V c5 K I O) (fun _ _ h=>je h (ap.sN 0 4)) ?_;rintro ac aq o1 ar _ _ I ⟨K,O,D,E,c4,V,c5,⟨J,au,rfl,av,_⟩,_,h5⟩;obtain⟨m1,_,rfl,hm,aw⟩:=lrE au aq;refine blk (qU ?_);refine cB Y6l hm (R8 (av.bE [0,1,2] [3]) Z2 h5) ?_;rintro _ _ _ _ _ ⟨rfl,ax,_⟩ hm;refine cB cf175 hm (Z3z (ax.bE (Z4 0 4) [])) ?_;rintro y3 _ _ _ _ ⟨rfl,W,_⟩ hm;refine kB ?_
 rcases bc hm with⟨az,hm⟩|⟨az,hm⟩
 . exact zr hm W
 refine cd hm ?_ ?_<;>intro aJ hm
 . exact zr hm W
 refine kA ?_;refine cB Y4s hm (N5 (W.bE [0,1,2] [3]) Z2 (mC h5)) ?_;rintro y4 _ _ _ _ ⟨_,c6,_,c7,rfl,aB,_,h7,_⟩ hm;refine aL zv2 aB ?_;intro _ _ _ aC;refine sT 0 aC ?_;intro _ _ aD;refine kE ?_;refine Q9y [1,0,0,0,2,2,0,2] [0,1,2,3,4,5,6,7] aD (U5 (Q0a (U5 (Q0a (C7))))) fun aK aM ag=>pu ?_;obtain⟨U,ah,hm⟩:=Z9 hm
 rcases U with e1|U
 . have hm:=J4 hm;refine s2 [(0,.agg (D6 D E c4).toArray)] rfl qZt rfl (by kernel_rfl) (Q8x cf154 rfl (hG.G3 (p0:=y4.2) (p1:=IntKind.wrap .i64 (y3+1)) (ag.bE (Z4 0 4) [4]) Z2 (mC h7) _ ah) rfl fun v6 T8 aR aS aE=>?_);obtain⟨_,c11,rfl,aF,_,_⟩:=aE;have hm:=Q4j hm aw ar;exact pe hm (aF.sE [3,4])
 have hm:=C4 hm;refine sS [(0,.agg (D6 D E c4).toArray)] cf154 (hG.G3 (ag.bE (Z4 0 4) [4]) Z2 (mC h7) _ ah) ?_;rintro _ _ _ _ ⟨a8,c8,_,c9,rfl,aI,_,_,_⟩;have aT:HL 1 E2 ([D,U.1]:List Y2) [(D6 D E c4),(D6 U.1 a8 c8)]:=⟨qZt⟩;have dd:KD [(4,[]),(5,[0,4]),(7,[0,4,5])]:=⟨qZt⟩;exact zr hm aI
theorem Z9a{G:Z6y}(hG:Sp1 G):Q5y (S0 G):=by
 intro g _ _ R _ Y5 Y4 Z7 a1 c1 hS Z2 h1 r hm;refine eN Tryz.func117 Tryz.ntmps117 fun J=>?_;unfold S0 at hm;refine sq2 (aL zv2 hS ?_);intro _ b1 _ ad;refine kA ?_;refine cP cf154 hm (hG.G3 (ad.bE [0,1] [2]) Z2 (mC h1)) ?_ ?_
 . exact zk
 rintro D _ _ _ _ ⟨K,c2,_,c3,rfl,ae,h2,U,_⟩ hm;refine aL zv2 ae ?_;intro _ _ _ af;refine sT 0 af ?_;intro _ _ ag;refine kB ?_;refine cB Y6l hm (R8 (ag.bE [0,1,2] [3]) Z2 (mC U)) ?_;rintro _ _ _ _ _ ⟨rfl,V,_⟩ hm;refine cd hm ?_ ?_<;>intro aN hm
 . exact zr hm V
 refine kA ?_;refine cB Y4s hm (N5 (V.bE [0,1,2] [3]) Z2 (mC U)) ?_;rintro _ _ _ _ _ ⟨_,c4,_,c5,rfl,ah,_,h5,_⟩ hm;refine aL zv2 ah ?_;intro _ b3 _ ak;refine sT 0 ak ?_;intro _ _ am;refine kE ?_;refine sT 0 am ?_;intro _ _ an;refine kA ?_;refine cP Y0a hm (hG.X6 (an.bE (Z4 0 4) [4]) Z2 (mC h5)) ?_ ?_
 . exact zk
 rintro E _ _ _ _ ⟨O,c6,_,c7,rfl,ao,h6,h7,_⟩ hm;refine aL zv2 ao ?_;intro _ _ _ ar;refine sT 0 ar ?_;intro _ _ au;refine kA ?_;refine cP Z4f hm (V7 (au.bE (Z4 0 5) [5]) Z2 (mC h7)) ?_ ?_
 . exact zk
 rintro _ _ _ _ _ ⟨_,c8,rfl,av,h8,_⟩ hm;refine kA ?_;refine cP Y9m hm (W5 (av.bE (Z4 0 5) [5]) Z2 h8) ?_ ?_
 . exact zk
 rintro y6 _ _ _ _ ⟨b5,_,c9,rfl,az,W,_⟩ hm;refine pv (r_zf rfl) (pn ?_);refine sq2 (Q9y [1,1,0,2,2,0,2] [0,1,2,3,4,5,6] az (U5 (C7)) fun aP aQ aa=>pu ?_);obtain⟨I,ab,hm⟩:=Z9 hm
 rcases I with e1|I
 . have hm:=J4 hm;refine s2 [(1,.agg (D6 E.1 O c6).toArray),(0,.agg (D6 D.1 K c2).toArray)] rfl qZt rfl (by kernel_rfl) (Q8x cf117 rfl (hG.E7 (p0:=y6) (aa.bE [1,3,4,6,0,2] [5]) Z2 (mC W) _ ab) rfl fun v9 aT aU aV aA=>?_);obtain⟨_,c14,rfl,aB,_,_⟩:=aA;exact pe hm (aB.sE [2,6])
 have hm:=C4 hm;refine sS [(1,.agg (D6 E.1 O c6).toArray),(0,.agg (D6 D.1 K c2).toArray)] cf117 (hG.E7 (aa.bE [1,3,4,6,0,2] [5]) Z2 (mC W) _ ab) ?_;rintro _ _ _ _ ⟨aC,c10,_,c11,rfl,aD,aE,aF,_⟩;refine s2W [0,0] ?_;refine obS (r:=E2) (l:=([D.1,E.1,I.1]:List Y2)) (css:=[(D6 D.1 K c2),(D6 E.1 O c6),(D6 I.1 aC c10)]) aD ⟨(Q2e (x:=D.1) (mC h2):E2.rp _ _ _ _),(Q2e (x:=E.1) (mC h6):E2.rp _ _ _ _),(Q2e (x:=I.1) aE:E2.rp _ _ _ _),qZt⟩ ?_;intro _ _ _ c12 _ aG;refine s2W [] ?_;refine osT 1 aG ?_;intro _ _ aI;refine kA ?_;refine cB Q0x hm (Q4w (aI.bE (Z4 0 4) [4,7]) (Q4m b5) Z2 (mC aF)) ?_;rintro _ _ _ _ _ ⟨_,c13,rfl,aJ,_,_⟩ hm;refine nil (E9 [(2,pt b1 0),(4,pt b3 0)] ⟨rfl,rfl,qZt⟩ fun J=>sq2 (sT 2 aJ ?_));intro _ _ aK;refine pn ?_;obtain⟨_,_,aM,_,rfl⟩:=aK.sl 0;exact re hm (aM.sE [3,5])
theorem Z6o{G:Z6y}(hG:Sp1 G):Q4i (L4 G):=by
 intro g _ _ R _ Y5 Y4 Z7 a1 c1 hS Z2 h1 r hm;refine Y4n Tryz.func91 rfl Tryz.ntmps91 rfl fun J=>?_;unfold L4 at hm;refine sq2 (aL zv2 hS ?_);intro _ _ _ ab;refine kA ?_;refine cP Y9m hm (W5 (ab.bE [0,1] [2]) Z2 (mC h1)) ?_ ?_
 . exact zk
 rintro _ _ _ _ _ ⟨D,_,c2,rfl,ac,h2,_⟩ hm;refine wl rfl (dfO (f:=153) (cap:=#[pt D 0]) rfl (pn ?_));refine qU ?_;refine cP cf117 hm (hG.E7 (ac.bE [0,1,3] [2]) Z2 h2) ?_ ?_
 . rintro _ _ _ _ _ ⟨_,c11,rfl,ad,_,_⟩ hm;refine pn ?_;refine Q4k Q0x (R3 (args:=[pt D 0]) Tryz.func153 rfl Tryz.ntmps153 rfl rfl fun J=>sB 3 3 Z2 ad ?_);intro _ _ ae;exact pe hm (ae.sE [1,3])
 rintro E _ _ _ _ ⟨K,c3,_,c4,rfl,af,h3,O,_⟩ hm;refine aL zv2 af ?_;intro _ _ _ ah;refine sT 0 ah ?_;intro _ _ ai;refine kB ?_;refine cB Y6l hm (R8 (ai.bE (Z4 0 4) [4]) Z2 (mC O)) ?_;rintro _ _ _ _ _ ⟨rfl,aj,_⟩ hm;refine cB cf118 hm (Z1c (aj.bE (Z4 0 5) [])) ?_;rintro _ _ _ _ _ ⟨rfl,U,_⟩ hm;refine cd hm ?_ ?_<;>intro aB hm
 . refine sq2 (sT 1 U ?_);intro _ _ ak;refine pn ?_;refine pn ?_;exact retD Q0x (R3 (args:=[pt D 0]) Tryz.func153 rfl Tryz.ntmps153 rfl rfl fun J=>zr hm ak)
 refine kA ?_;refine cB Y4s hm (N5 (U.bE (Z4 0 4) [4]) Z2 (mC O)) ?_;rintro y5 _ _ _ _ ⟨_,c5,_,c6,rfl,an,_,V,_⟩ hm;refine aL zv2 an ?_;intro _ _ _ ao;refine sT 0 ao ?_;intro _ _ ap;refine kE ?_;refine Q9y [1,0,2,2,0,2] [0,1,2,3,4,5] ap (U5 (Y8q (rs:=[.cell 2 136]) rfl (by kernel_rfl))) fun aC aD W=>?_;refine pu ?_;obtain⟨I,aa,hm⟩:=Z9 hm
 rcases I with e1|I
 . have hm:=J4 hm;refine s2 [(0,.agg (D6 E.1 K c3).toArray)] rfl qZt rfl (by kernel_rfl) (Q8x Y0a rfl (hG.X6 (p0:=y5.2) (W.bE [0,2,3,4,1] [5]) Z2 (mC V) _ aa) rfl fun v7 T8 aI aJ aq=>?_);obtain⟨_,c10,rfl,ar,_,_⟩:=aq;refine pn ?_;refine Q4k Q0x (R3 (args:=[pt D 0]) Tryz.func153 rfl Tryz.ntmps153 rfl rfl fun J=>sB 5 3 Z2 ar ?_);intro _ _ au;exact pe hm (au.sE [2,5])
 have hm:=C4 hm;refine sS [(0,.agg (D6 E.1 K c3).toArray)] Y0a (hG.X6 (W.bE [0,2,3,4,1] [5]) Z2 (mC V) _ aa) ?_;rintro _ _ _ _ ⟨a7,c7,_,c8,rfl,aw,h7,_,_⟩;refine s2W [0] ?_;refine obS (r:=E2) (l:=([E.1,I.1]:List Y2)) (css:=[(D6 E.1 K c3),(D6 I.1 a7 c7)]) aw ⟨(Q2e (x:=E.1) (mC h3):E2.rp _ _ _ _),(Q2e (x:=I.1) h7:E2.rp _ _ _ _),qZt⟩ ?_;intro _ _ _ c9 _ ay;refine s2W [] ?_;refine osT 1 ay ?_;intro _ _ az;refine kE ?_;refine sT 2 az ?_;intro _ _ aA;refine pn ?_;refine pn ?_;refine retD Q0x (R3 (args:=[pt D 0]) Tryz.func153 rfl Tryz.ntmps153 rfl rfl fun J=>?_);have dd:KD [(2,[]),(3,[0,2]),(5,[0,2,3])]:=⟨qZt⟩;exact zr hm aA
theorem sp1:∀n,Sp1 (C6 n)
 |0=>⟨(by unfold Q1z;intros;rename_i h;cases(show(none:Option _)=some _ from h)),(by unfold Q4f;intros;rename_i h;cases(show(none:Option _)=some _ from h)),(by unfold Q5f;intros;rename_i h;cases(show(none:Option _)=some _ from h)),(by unfold Q5w;intros;rename_i h;cases(show(none:Option _)=some _ from h)),(by unfold Q5d;intros;rename_i h;cases(show(none:Option _)=some _ from h)),(by unfold Q4h;intros;rename_i h;cases(show(none:Option _)=some _ from h)),(by unfold Q5y;intros;rename_i h;cases(show(none:Option _)=some _ from h)),(by unfold Q4i;intros;rename_i h;cases(show(none:Option _)=some _ from h))⟩
 |n+1=>⟨Z3y (sp1 n),Z6m (sp1 n),Z7g (sp1 n),Z8z (sp1 n),Z7f (sp1 n),Z6n (sp1 n),Z9a (sp1 n),Z6o (sp1 n)⟩
theorem Q1g:Q1z U2:=(sp1 NN).U2
theorem Y6u:Q4f J6:=(sp1 NN).J6
theorem Y8a:Q5f P4:=(sp1 NN).P4
theorem Y8g:Q5w D8:=(sp1 NN).D8
theorem Y7z:Q5d J8:=(sp1 NN).J8
theorem Y6v:Q4h G3:=(sp1 NN).G3
theorem Y8h:Q5y E7:=(sp1 NN).E7
theorem W7:Q4i X6:=(sp1 NN).X6

theorem W6{p0:Z0}{p1:G9}(hS:Q26 a1 c1 Z7 T0 g w0 R p0)(Z2:Ln Y5 Y4 Z7)(h1:Q5 a1 c1 T0 w0 p0)(h2:Q37 a2 c2 T0 w0 p1):∀r,E4 p0 p1=some r->
 Cl 64 #[pt Y5 Y4,.agg #[iv p1.Pos.Line,iv p1.Pos.Col,Q16 p1.Type_.Word.toArray,Q16 p1.Type_.Name.toArray,iv p1.Type_.Stars,Q16 p1.Name.toArray,sv a2 p1.Dims c2,.slice none 0 0,.bool p1.Brace]] w0 (exR r (fun r=>J1 T0 w0 (Q46 Z7 g R r.1 r.2)) (fun r=>L0 T0 w0 (Q3 Z7 g R r.1.pos r.1.e r.2 r.2.l))):=by
 intro r hm;refine eN Tryz.func64 Tryz.ntmps64 fun J=>?_;unfold E4 at hm;refine sq2 (bX [iv p1.Pos.Line,iv p1.Pos.Col,qZs p1.Type_.Word,qZs p1.Type_.Name,iv p1.Type_.Stars,qZs p1.Name,sv a2 p1.Dims c2,.slice none 0 0,.bool p1.Brace] hS ?_);intro _ V _ aC;refine aL zv5 aC ?_;intro _ W _ aD;refine kA ?_;refine cP cf89 hm (Q4g (aD.bE [0,1,2] [3]) Z2 (mC h1)) ?_ ?_
 . exact zk
 rintro _ _ T1 _ _ ⟨a4,n1,c4,_,c5,rfl,aF,h4,_⟩ hm;refine sT 1 aF ?_;intro w4 _ aJ;refine pn ?_;have aK:=aJ.nilO E2 136;refine S9 hm (fun an a w5=>∃T2 x4 D a6 n2 c6 a7 c7,JR (nf 40) g T1 w4 a w5 T2 (an D x4=some r) [(0,pt Y5 Y4),(3,pt V 0),(4,pt W 0)] [G6 E2 136 (.slice a6 n2 c6) D.Init,K4 W zv5,Q55 a4 a6 V n1 c4 n2 c6 D,X3 R,Q1 a7 c7 Z7 x4,G6 (N7 .u32) 104 (.slice a4 n1 c4) D.Dims]/\Q5 a7 c7 T2 w5 x4) (fun an hm=>?_) ?_
 . refine qU ?_;refine cB Z2v hm (V3 (aK.bE [0,1,2,3,5] [4]) Z2 (mC h4)) ?_;rintro _ _ _ _ _ ⟨_,c8,rfl,ao,h6,_⟩ hm;refine cd hm ?_ ?_<;>intro bI hm
   . refine qU ?_;refine cB Z2v hm (V3 (ao.bE (Z4 0 5) [5]) Z2 h6) ?_;rintro y3 _ _ _ _ ⟨_,c9,rfl,aP,h7,_⟩ hm;refine sT 2 aP ?_;intro _ _ aQ;refine kE ?_;refine Q9y [0,1,0,2,2,2,0,2] [0,1,2,3,4,5,6,7] aQ (U5 (U5 (C7))) fun w9 bK aq=>pu ?_;obtain⟨E,ar,hm⟩:=Z9 hm
     rcases E with e5|E
     . have hm:=J4 hm;refine s2 [(1,.slice none 0 0)] rfl qZt rfl (by kernel_rfl) (Q8x Y0a rfl (W7 (p0:=y3.2) (aq.bE (Z4 0 5) [5]) Z2 (mC h7) _ ar) rfl fun bM bN bO bP aR=>?_);obtain⟨_,c28,rfl,aS,_,_⟩:=aR;exact pe hm (aS.sE [3,5])
     have hm:=C4 hm;refine sS [(1,.slice none 0 0)] Y0a (W7 (aq.bE (Z4 0 5) [5]) Z2 (mC h7) _ ar) ?_;rintro _ T5 _ _ ⟨aU,c10,_,c11,rfl,aV,h8,_,_⟩;refine s2W [] ?_;refine obS (r:=E2) (l:=([E.1]:List Y2)) (css:=[(D6 E.1 aU c10)]) aV ⟨(Q2e (x:=E.1) h8:E2.rp _ _ _ _),qZt⟩ ?_;intro _ _ _ c12 _ aX;refine pu ?_;obtain⟨_,aY,hm⟩:=Z9 hm;refine s2W [0] ?_;refine oaO 1 aX (K9 aY) ?_;intro _ _ _ c13 _ aZ;refine s2W [] ?_;refine osT 3 aZ ?_;intro a3 _ ba;refine kE ?_;refine lpJ hm (fun au o1 m a aj=>∃T6 x8 I K O c14 am c15,JR (nf 40) g T5 a3 a aj T6 (X8 au m (I,x8)=some o1) [(0,pt Y5 Y4),(3,pt V 0),(4,pt W 0)] [G6 E2 136 (.slice K O c14) I.Init,K4 W zv5,Q55 a4 K V n1 c4 O c14 I,X3 R,G6 (N7 .u32) 104 (.slice a4 n1 c4) I.Dims,Q1 am c15 Z7 x8]/\Q5 am c15 T6 aj x8) (fun _ _ h=>je h (ba.sN 1 6)) ?_;rintro au be o1 bf _ _ aj ⟨T6,x8,I,K,O,c14,am,c15,⟨J,bg,rfl,aw,_⟩,bh⟩;obtain⟨m1,_,rfl,hm,ax⟩:=lrE bg be;refine sq2 (qU ?_)
     rcases bc hm with⟨bi,hm⟩|⟨bi,hm⟩
     . refine pu ?_;refine cB Z2v hm (V3 (aw.bE (Z4 0 5) [5]) Z2 bh) ?_;rintro y5 _ _ _ _ ⟨_,c16,rfl,ay,az,_⟩ hm;refine cd hm ?_ ?_<;>intro bQ hm
       . refine pn ?_;refine blk (Q9y [0,1,0,2,2,2,0,2] [0,1,2,3,4,5,6,7] ay (Q0a (U5 (Q0a (U5 (U5 (C7)))))) fun bR bT aA=>pu ?_);obtain⟨U,aB,hm⟩:=Z9 hm
         rcases U with e1|U
         . have hm:=J4 hm;refine s2 [(1,.slice K O c14)] rfl qZt rfl (by kernel_rfl) (Q8x Y0a rfl (W7 (p0:=y5.2) (aA.bE (Z4 0 5) [5]) Z2 (mC az) _ aB) rfl fun v7 T9 bY bZ bk=>?_);obtain⟨_,c21,rfl,bl,_,_⟩:=bk;have hm:=Q4j hm ax bf;exact pe hm (bl.sE [3,5])
         have hm:=C4 hm;refine sS [(1,.slice K O c14)] Y0a (W7 (aA.bE (Z4 0 5) [5]) Z2 (mC az) _ aB) ?_;rintro _ _ _ _ ⟨bm,c17,_,c18,rfl,bn,bo,_,_⟩;refine s2W [] ?_;refine obS (r:=E2) (l:=([U.1]:List Y2)) (css:=[(D6 U.1 bm c17)]) bn ⟨(Q2e (x:=U.1) bo:E2.rp _ _ _ _),qZt⟩ ?_;intro _ _ _ c19 _ bp;refine pu ?_;obtain⟨_,bq,hm⟩:=Z9 hm;refine s2W [0] ?_;refine oaO 1 bp (K9 bq) ?_;intro _ _ _ c20 _ bt;refine s2W [] ?_;refine osT 3 bt ?_;intro _ _ bu;refine pu ?_;exact lg hm ax (bu.sN 1 6)
       have dd:KD [(3,[]),(4,[3]),(5,[1,3,4]),(7,[1,3,4,5])]:=⟨qZt⟩;exact zr hm ay
     have dd:KD [(3,[]),(4,[3]),(5,[1,3,4]),(7,[1,3,4,5])]:=⟨qZt⟩;exact zr hm aw
   exact je hm (ao.sE [0,1,2,3,5,4])
 rintro _ w5 ⟨T2,x4,D,a6,n2,c6,a7,c7,⟨J,hm,rfl,bw,_⟩,h5⟩;refine qU ?_;refine cP Z4f hm (V7 (bw.bE [0,1,2,3,5] [4]) Z2 h5) ?_ ?_
 . rintro _ _ _ _ _ ⟨_,c30,rfl,bA,_,_⟩ hm;exact pe hm (bA.sE [3,5])
 rintro _ _ _ _ _ ⟨_,c29,rfl,bC,_,_⟩ hm;refine kE ?_;refine sT 1 bC ?_;intro _ _ bD;refine pn ?_;obtain⟨_,_,bF,_,rfl⟩:=bD.sl 4;obtain⟨_,_,bG,_,rfl⟩:=bF.sl 0;exact re hm (bG.sE [3,5])

instance:Ct 64 @W6:=⟨@W6,cf64⟩
theorem B9{p0:Z0}(hS:Q26 a1 c1 Z7 T0 g w0 R p0)(Z2:Ln Y5 Y4 Z7)(h1:Q5 a1 c1 T0 w0 p0):∀r,M6 p0=some r->
 Cl 65 #[pt Y5 Y4] w0 (exR r (fun r=>J1 T0 w0 (Q53 Z7 g R r.2 r.1)) (fun r=>L0 T0 w0 (Q3 Z7 g R r.1.pos r.1.e r.2 r.2.l))):=by
 intro r hm;refine eN Tryz.func65 Tryz.ntmps65 fun J=>?_;unfold M6 at hm;refine qN ?_;refine qN ?_;refine qU ?_;refine cP Z4f hm (V7 (hS.bE [0] [1]) Z2 h1) ?_ ?_
 . exact zk
 rintro _ _ T1 w1 _ ⟨_,c2,rfl,ar,h2,_⟩ hm;refine pn ?_;refine S9 hm (fun ah a O=>∃U I V c3,JR (nf 35) g T1 w1 a O U (ah I=some r) [(0,pt Y5 Y4),(3,.slice none 0 0)] [X3 R,Q1 V c3 Z7 I]/\Q5 V c3 U O I) (fun ah hm=>?_) ?_
 . exact zr hm ar
 rintro _ O ⟨U,I,V,c3,⟨J,hm,rfl,au,_⟩,h3⟩;refine sq2 (qU ?_);refine cB Z2v hm (V3 (au.bE [0] [1]) Z2 h3) ?_;rintro _ _ T7 w7 _ ⟨_,c6,rfl,ai,_,_⟩ hm;refine cd hm ?_ ?_<;>intro aU hm
 . refine qN ?_;have ay:=ai.nilO Q2c 86;exact re hm (ay.sE [1,2,0])
 refine pn ?_;have az:=ai.nilO Q2c 86;refine lpJ hm (fun aj o1 m a W=>∃T8 K x2 a7 n1 c7 a8 c8,JR (nf 35) g T7 w7 a W T8 (X8 aj m (x2,K)=some o1) [(0,pt Y5 Y4),(3,.slice a7 n1 c7)] [G6 Q2c 86 (.slice a7 n1 c7) x2,X3 R,Q1 a8 c8 Z7 K]/\Q5 a8 c8 T8 W K) (fun _ _ h=>je h (az.sE [0,1,2])) ?_;rintro aj aA o1 am _ _ W ⟨T8,K,x2,a7,n1,c7,a8,c8,⟨J,aB,rfl,aC,_⟩,h7⟩;obtain⟨m1,_,rfl,hm,af⟩:=lrE aB aA;refine blk (qU ?_);refine cB cf57 hm (I2 (aC.bE [0,1] [2]) Z2 h7) ?_;rintro E _ _ _ _ ⟨rfl,aD,_⟩ hm;refine pu ?_;refine cP cf63 hm (E3 (aD.bE [0,1] [2]) Z2 (mC h7)) ?_ ?_
 . exact zk
 rintro D _ _ _ _ ⟨_,c9,rfl,aE,h8,_⟩ hm;refine pv (P3 (by kernel_rfl) rfl (u:= .agg #[iv E.Line,iv E.Col,qZs D.1.Word,qZs D.1.Name,iv D.1.Stars,qZs [],.slice none 0 0,.slice none 0 0,.bool false])) (aL zv5 aE ?_);intro _ _ _ aG;refine sT 0 aG ?_;intro _ _ aI;refine kA ?_;refine cP cf61 hm (N6 (aI.bE [0,1,2] [3]) Z2 (mC h8)) ?_ ?_
 . exact zk
 rintro y8 _ _ _ _ ⟨_,c10,rfl,aJ,h9,_⟩ hm;refine sT 0 aJ ?_;intro _ _ aM;refine kE ?_;refine bS (r:=Q2c) (l:=([(⟨E,D.1,y8.1,[],[],false⟩:G9)]:List G9)) (css:=[[iv E.Line,iv E.Col,Q16 D.1.Word.toArray,Q16 D.1.Name.toArray,iv D.1.Stars,Q16 y8.1.toArray,.slice none 0 0,.slice none 0 0,.bool false]]) aM ⟨(Z7o (x:=(⟨E,D.1,y8.1,[],[],false⟩:G9)) U1 U1:Q2c.rp _ _ _ _),qZt⟩ ?_;intro _ _ _ c11 _ aN;obtain⟨_,aP,hm⟩:=Z9 hm;refine aO 2 aN (K9 aP) ?_;intro _ _ _ c12 _ aQ;refine kA ?_;refine cB Z2v hm (V3 (aQ.bE [2,3] [4]) Z2 (mC h9)) ?_;rintro _ _ _ _ _ ⟨_,c13,rfl,ao,aR,_⟩ hm;refine cd hm ?_ ?_<;>intro aV hm
 . refine qU ?_;refine cP Z4f hm (V7 (ao.bE [0,1] [2]) Z2 aR) ?_ ?_
   . rintro _ _ _ _ _ ⟨_,c15,rfl,aS,_,_⟩ hm;have hm:=Q4j hm af am;exact pe hm (aS.sE [1,2])
   rintro _ _ _ _ _ ⟨_,c14,rfl,aT,_,_⟩ hm;refine kD ?_;have hm:=Q4j hm af am;exact re hm (aT.sE [1,2,0])
 exact lg hm af (ao.sE [0,1,2])

instance:Ct 65 @B9:=⟨@B9,cf65⟩
theorem Q4v{p0:Z0}(hS:Q26 a1 c1 Z7 T0 g w0 R p0)(Z2:Ln Y5 Y4 Z7)(h1:Q5 a1 c1 T0 w0 p0):∀r,L1 p0=some r->
 Cl 121 #[pt Y5 Y4] w0 (exR r (fun r=>J1 T0 w0 (Q46 Z7 g R r.1 r.2)) (fun r=>L0 T0 w0 (Q3 Z7 g R r.1.pos r.1.e r.2 r.2.l))):=by
 intro r hm;refine eN Tryz.func121 Tryz.ntmps121 fun J=>?_;unfold L1 at hm;exact zr hm hS

instance:Ct 121 @Q4v:=⟨@Q4v,cf121⟩
theorem Q0m{p0:Z0}{p1:List UInt8}(hS:Q26 a1 c1 Z7 T0 g w0 R p0)(Z2:Ln Y5 Y4 Z7)(h1:Q5 a1 c1 T0 w0 p0):∀r,N2 p0 p1=some r->
 Cl 124 #[pt Y5 Y4,Q16 p1.toArray] w0 (exR r (fun r=>J1 T0 w0 (Q31 Z7 g R r.2 r.1)) (fun r=>L0 T0 w0 (Q3 Z7 g R r.1.pos r.1.e r.2 r.2.l))):=by
 intro r hm;refine eN Tryz.func124 Tryz.ntmps124 fun J=>?_;unfold N2 at hm;refine qN ?_;refine sq2 (qU ?_);refine cB Z2v hm (V3 (hS.bE [0] [1]) Z2 h1) ?_;rintro _ _ _ _ _ ⟨_,c2,rfl,D,h2,_⟩ hm;refine cd hm ?_ ?_<;>intro U hm
 . refine qN ?_;have I:=D.nilO E2 136;exact re hm (I.sE [1,2,0])
 refine kA ?_;refine cP Y0a hm (W7 (D.bE [0] [1]) Z2 h2) ?_ ?_
 . exact zk
 rintro E _ _ _ _ ⟨K,c3,_,c4,rfl,O,_,_,_⟩ hm;have V:HL 1 E2 ([E.1]:List Y2) [(D6 E.1 K c3)]:=⟨qZt⟩;exact zr hm O

instance:Ct 124 @Q0m:=⟨@Q0m,cf124⟩
theorem Q6x{p0:Z0}{p1:E0}(hS:Sep g T0 w0 [X3 R,Q1 a1 c1 Z7 p0,R6 (Z1b p1 a2 c2 a3 c3 a4 c4 a5 c5 a6 c6 a7 c7 a8 c8)])(Z2:Ln Y5 Y4 Z7)(h1:Q5 a1 c1 T0 w0 p0)(Q7w:Ln Q1c Q1b R6)(h2:Q8 a2 c2 T0 w0 p1.A)(h3:Q8 a3 c3 T0 w0 p1.B)(h4:Q8 a4 c4 T0 w0 p1.C)(h5:Q27 a5 c5 T0 w0 p1.Var)(h6:Q23 a6 c6 T0 w0 p1.Body)(h7:Q23 a7 c7 T0 w0 p1.Else)(h8:Q66 a8 c8 T0 w0 p1.Cases):∀r,I8 p0 p1=some r->
 Cl 126 #[pt Y5 Y4,pt Q1c Q1b] w0 (exR r (fun r=>J1 T0 w0 fun T w v=>∃a25 c25 a26 c26 a27 c27 a28 c28 a29 c29 a30 c30 a31 c31 a32 c32,v= .tuple #[]/\Q40 a25 a26 a27 a28 a29 a30 a31 a32 c25 c26 c27 c28 c29 c30 c31 c32 Z7 R6 T g w R r.1 r.2) (fun r=>L0 T0 w0 fun T w v=>∃a25 c25 a26 c26 a27 c27 a28 c28 a29 c29 a30 c30 a31 c31 a32 c32,v= .iface 63 (Q18 r.1.pos r.1.e)/\Q40 a25 a26 a27 a28 a29 a30 a31 a32 c25 c26 c27 c28 c29 c30 c31 c32 Z7 R6 T g w R r.2.1 r.2.2)):=by
 intro r hm;refine eN Tryz.func126 Tryz.ntmps126 fun J=>?_;unfold I8 at hm;refine blk (qU ?_);refine cB Z2v hm (V3 (hS.bE [0,2] [1]) Z2 h1) ?_;rintro _ _ _ _ _ ⟨_,c9,rfl,D,O,_⟩ hm;refine cd hm ?_ ?_<;>intro ab hm
 . exact zr hm D
 refine qU ?_;refine cB Z2v hm (V3 (D.bE [0,1] [2]) Z2 O) ?_;rintro _ _ _ _ _ ⟨_,c13,rfl,E,U,_⟩ hm;refine cd hm ?_ ?_<;>intro ac hm
 . exact zr hm E
 refine qU ?_;refine cB Z2v hm (V3 (E.bE [0,1] [2]) Z2 U) ?_;rintro _ _ _ _ _ ⟨_,c16,rfl,I,V,_⟩ hm;refine cd hm ?_ ?_<;>intro ad hm
 . exact zr hm I
 refine qU ?_;refine cP Y0a hm (W7 (I.bE [0,1] [2]) Z2 V) ?_ ?_
 . exact zk
 rintro K _ _ _ _ ⟨W,c19,_,c20,rfl,aa,_,_,_⟩ hm;have ae:HL 1 E2 ([K.1]:List Y2) [(D6 K.1 W c19)]:=⟨qZt⟩;exact zr hm aa

instance:Ct 126 @Q6x:=⟨@Q6x,cf126⟩
def Q5z(F:Z0->Option (Except (Z6×Z0) ((List E0)×Z0))):Prop:=∀{g:World}{T0:TP}{w0:World}{R:List X4}{p0:Z0}{Y5 Y4:Nat}{Z7:List Value->X4}{a1 c1}(hS:Q26 a1 c1 Z7 T0 g w0 R p0)(Z2:Ln Y5 Y4 Z7)(h1:Q5 a1 c1 T0 w0 p0),∀r,F p0=some r->
 Cl 123 #[pt Y5 Y4] w0 (exR r (fun r=>J1 T0 w0 fun T w v=>∃a12 c12 a13 c13,v=sv a12 r.1 c12/\Sep g T w (R++[Q1 a13 c13 Z7 r.2])/\SlR Q5c T w (sv a12 r.1 c12) r.1/\Q5 a13 c13 T w r.2/\True) (fun r=>L0 T0 w0 (Q3 Z7 g R r.1.pos r.1.e r.2 r.2.l)))
def Q5g(F:Z0->Option (Except (Z6×Z0) ((List Q1d)×Z0))):Prop:=∀{g:World}{T0:TP}{w0:World}{R:List X4}{p0:Z0}{Y5 Y4:Nat}{Z7:List Value->X4}{a1 c1}(hS:Q26 a1 c1 Z7 T0 g w0 R p0)(Z2:Ln Y5 Y4 Z7)(h1:Q5 a1 c1 T0 w0 p0),∀r,F p0=some r->
 Cl 125 #[pt Y5 Y4] w0 (exR r (fun r=>J1 T0 w0 fun T w v=>∃a35 n11 c35 a36 c36,v= .slice a35 n11 c35/\Sep g T w (R++[Q1 a36 c36 Z7 r.2,G6 Q7m 142 (.slice a35 n11 c35) r.1])/\Q5 a36 c36 T w r.2/\True) (fun r=>L0 T0 w0 (Q3 Z7 g R r.1.pos r.1.e r.2 r.2.l)))
def Q5v(F:Z0->Option (Except (Z6×Z0) (E0×Z0))):Prop:=∀{g:World}{T0:TP}{w0:World}{R:List X4}{p0:Z0}{Y5 Y4:Nat}{Z7:List Value->X4}{a1 c1}(hS:Q26 a1 c1 Z7 T0 g w0 R p0)(Z2:Ln Y5 Y4 Z7)(h1:Q5 a1 c1 T0 w0 p0),∀r,F p0=some r->
 Cl 92 #[pt Y5 Y4] w0 (exR r (fun r=>J1 T0 w0 fun T w v=>∃a88 c88 a89 c89 a90 c90 a91 c91 a92 c92 a93 c93 a94 c94 a95 c95,v= .agg (Z1b r.1 a88 c88 a89 c89 a90 c90 a91 c91 a92 c92 a93 c93 a94 c94).toArray/\Sep g T w (R++[Q1 a95 c95 Z7 r.2])/\Q8 a88 c88 T w r.1.A/\Q8 a89 c89 T w r.1.B/\Q8 a90 c90 T w r.1.C/\Q27 a91 c91 T w r.1.Var/\Q23 a92 c92 T w r.1.Body/\Q23 a93 c93 T w r.1.Else/\Q66 a94 c94 T w r.1.Cases/\Q5 a95 c95 T w r.2/\True) (fun r=>L0 T0 w0 (Q3 Z7 g R r.1.pos r.1.e r.2 r.2.l)))
def Q5h(F:Z0->Option (Except (Z6×Z0) ((List E0)×Z0))):Prop:=∀{g:World}{T0:TP}{w0:World}{R:List X4}{p0:Z0}{Y5 Y4:Nat}{Z7:List Value->X4}{a1 c1}(hS:Q26 a1 c1 Z7 T0 g w0 R p0)(Z2:Ln Y5 Y4 Z7)(h1:Q5 a1 c1 T0 w0 p0),∀r,F p0=some r->
 Cl 66 #[pt Y5 Y4] w0 (exR r (fun r=>J1 T0 w0 fun T w v=>∃a18 n4 c18 a19 c19,v= .slice a18 n4 c18/\Sep g T w (R++[Q1 a19 c19 Z7 r.2,G6 Q5c 96 (.slice a18 n4 c18) r.1])/\Q5 a19 c19 T w r.2/\True) (fun r=>L0 T0 w0 (Q3 Z7 g R r.1.pos r.1.e r.2 r.2.l)))
structure Sp2(G:Rec2):Prop where
 J2:Q5z G.J2
 M4:Q5g G.M4
 J9:Q5v G.J9
 J0:Q5h G.J0
theorem Z9b{G:Rec2}(hG:Sp2 G):Q5z (S4 G):=by
 intro g _ _ R _ Y5 Y4 Z7 a1 c1 hS Z2 h1 r hm;refine eN Tryz.func123 Tryz.ntmps123 fun J=>?_;unfold S4 at hm;refine qN ?_;refine qU ?_;refine cP cf92 hm (hG.J9 (hS.bE [0] [1]) Z2 h1) ?_ ?_
 . exact zk
 rintro D _ _ _ _ ⟨E,c2,I,c3,K,c4,O,c5,U,c6,V,c7,W,c8,_,c9,rfl,aa,h2,_,_,_,_,_,_,_,_⟩ hm;have ab:HL 1 Q5c ([D.1]:List E0) [(Z1b D.1 E c2 I c3 K c4 O c5 U c6 V c7 W c8)]:=⟨qZt⟩;exact zr hm aa
theorem Z7h{G:Rec2}(hG:Sp2 G):Q5g (O8 G):=by
 intro g _ _ R _ Y5 Y4 Z7 a1 c1 hS Z2 h1 r hm;refine eN Tryz.func125 Tryz.ntmps125 fun J=>?_;unfold O8 at hm;refine qN ?_;refine qN ?_;refine qU ?_;refine cP Z4f hm (V7 (hS.bE [0] [1]) Z2 h1) ?_ ?_
 . exact zk
 rintro _ _ T1 w1 _ ⟨_,c2,rfl,aJ,h2,_⟩ hm;refine pn ?_;refine sq2 ?_;have aK:=aJ.nilO Q7m 142;refine lpJ hm (fun au o1 m a w2=>∃T2 x2 U I K c3 a4 c4,JR (nf 57) g T1 w1 a w2 T2 (X8 au m (U,x2)=some o1) [(0,pt Y5 Y4),(3,.slice I K c3)] [G6 Q7m 142 (.slice I K c3) U,X3 R,Q1 a4 c4 Z7 x2]/\Q5 a4 c4 T2 w2 x2) (fun _ _ h=>je h (aK.sE [0,1,2])) ?_;rintro au aM o1 aN _ _ w2 ⟨T2,x2,U,I,K,c3,a4,c4,⟨J,aP,rfl,aQ,_⟩,h3⟩;obtain⟨m1,z1,rfl,hm,ae⟩:=lrE aP aM;refine sq2 (qU ?_);refine cB Z2v hm (V3 (aQ.bE [0,1] [2]) Z2 h3) ?_;rintro _ _ _ _ _ ⟨_,c5,rfl,aw,h4,_⟩ hm;refine cd hm ?_ ?_<;>intro b4 hm
 . refine pn ?_;refine blk (qU ?_);refine cB cf57 hm (I2 (aw.bE [0,1] [2]) Z2 h4) ?_;rintro y3 _ T4 _ _ ⟨rfl,aV,_⟩ hm;refine pv (P3 (by kernel_rfl) rfl (u:= .agg #[iv y3.Line,iv y3.Col,.bool false,.int .u32 0,.slice none 0 0])) (aL zv18 aV ?_);intro _ b1 _ aW;refine sT 0 aW ?_;intro w6 _ aY;refine pn ?_;have aZ:=aY.nilO Q5c 96;refine S9 hm (fun ay a w7=>∃T5 x5 O a6 c6,JR (nf 57) g T4 w6 a w7 T5 (ay O x5=some z1) [(0,pt Y5 Y4),(3,.slice I K c3),(4,pt b1 0)] [G6 Q5c 96 (.slice none 0 0) O.Body,K4 b1 [iv O.Pos.Line,iv O.Pos.Col,.bool O.Default,.int .u32 O.Num,.slice none 0 0],G6 Q7m 142 (.slice I K c3) U,X3 R,Q1 a6 c6 Z7 x5]/\Q5 a6 c6 T5 w7 x5) (fun ay hm=>?_) ?_
   . exact zr hm aZ
   rintro _ w7 ⟨T5,x5,O,a6,c6,⟨J,hm,rfl,a7,_⟩,h5⟩;refine qU ?_;refine cP Z4f hm (V7 (a7.bE (Z4 0 4) [4]) Z2 h5) ?_ ?_
   . exact zk
   rintro _ _ a9 ba _ ⟨_,c13,rfl,be,_,_⟩ hm;refine kE ?_;refine lpJ hm (fun az o2 m a ap=>∃aq V D E W c14 ar c15,JR (nf 57) g a9 ba a ap aq (X8 az m (D,V)=some o2) [(0,pt Y5 Y4),(3,.slice I K c3),(4,pt b1 0)] [G6 Q5c 96 (.slice E W c14) D.Body,K4 b1 [iv D.Pos.Line,iv D.Pos.Col,.bool D.Default,.int .u32 D.Num,.slice E W c14],G6 Q7m 142 (.slice I K c3) U,X3 R,Q1 ar c15 Z7 V]/\Q5 ar c15 aq ap V) (fun _ _ h=>je h (be.sN 0 5)) ?_;rintro az bf o2 ah _ _ ap ⟨aq,V,D,E,W,c14,ar,c15,⟨J,bg,rfl,bh,_⟩,aa⟩;obtain⟨_,_,rfl,hm,ab⟩:=lrE bg bf;refine sq2 (qU ?_);refine cB cf58 hm (O1 (bh.bE (Z4 0 4) [4]) Z2 aa) ?_;rintro _ _ _ _ _ ⟨rfl,aB,_⟩ hm;refine pu ?_
   rcases bc hm with⟨bi,hm⟩|⟨bi,hm⟩
   . refine pu ?_;refine cB cf58 hm (O1 (aB.bE (Z4 0 4) [4]) Z2 (mC aa)) ?_;rintro _ _ _ _ _ ⟨rfl,aC,_⟩ hm;refine pu ?_
     rcases bc hm with⟨bj,hm⟩|⟨bj,hm⟩
     . refine pu ?_;refine cB cf58 hm (O1 (aC.bE (Z4 0 4) [4]) Z2 (mC aa)) ?_;rintro _ _ _ _ _ ⟨rfl,aD,_⟩ hm;refine cd hm ?_ ?_<;>intro b5 hm
       . refine pn ?_;refine blk (Q9y [0,1,0,2,2,2,0,2] [0,1,2,3,4,5,6,7] aD (Q0a (U5 (Q0a (U5 (Q0a (U5 (Q0a (U5 (C7))))))))) fun b6 b7 aE=>pu ?_);obtain⟨ac,aF,hm⟩:=Z9 hm
         rcases ac with e3|ac
         . have hm:=J4 hm;refine s2 [(1,.slice E W c14)] rfl qZt rfl (by kernel_rfl) (Q8x cf92 rfl (hG.J9 (p0:=V) (aE.bE (Z4 0 4) [4]) Z2 (mC aa) _ aF) rfl fun b9 cc ce cf bk=>?_);obtain⟨_,c26,rfl,bl,_,_⟩:=bk;have hm:=Q4j hm ab ah;have hm:=Q4j hm ae aN;exact pe hm (bl.sE [3,4])
         have hm:=C4 hm;refine sS [(1,.slice E W c14)] cf92 (hG.J9 (aE.bE (Z4 0 4) [4]) Z2 (mC aa) _ aF) ?_;rintro _ _ _ _ ⟨bm,c16,bn,c17,bo,c18,bp,c19,bq,c20,bt,c21,bu,c22,_,c23,rfl,bv,bw,bz,bA,bC,bD,bF,bG,_,_⟩;refine s2W [] ?_;refine obS (r:=Q5c) (l:=([ac.1]:List E0)) (css:=[(Z1b ac.1 bm c16 bn c17 bo c18 bp c19 bq c20 bt c21 bu c22)]) bv ⟨(Y3p (x:=ac.1) bw bz bA bC bD bF bG:Q5c.rp _ _ _ _),qZt⟩ ?_;intro _ _ _ c24 _ bI;refine pu ?_;obtain⟨_,bJ,hm⟩:=Z9 hm;refine s2W [0] ?_;refine oaO 1 bI (K9 bJ) ?_;intro _ _ _ c25 _ bK;refine s2W [] ?_;refine osT 2 bK ?_;intro _ _ bL;refine pu ?_;exact lg hm ab (bL.sN 1 5)
       have hm:=Z0r hm ab ah;refine pn ?_;obtain⟨_,_,bM,bN,rfl⟩:=aD.sl 0;refine bS (r:=Q7m) (l:=([D]:List Q1d)) (css:=[(Y7u D E c14)]) bM ⟨(Z8r (x:=D) bN:Q7m.rp _ _ _ _),qZt⟩ ?_;intro _ _ _ c27 _ bO;obtain⟨_,bP,hm⟩:=Z9 hm;refine aO 3 bO (K9 bP) ?_;intro _ _ _ c28 _ bQ;exact lg hm ae (bQ.sE [3,4,5])
     refine pn ?_;refine cnd (b:=false) rfl (fun h=>nomatch h) (fun _=>?_);have hm:=Z0r hm ab ah;refine pn ?_;obtain⟨_,_,bR,bT,rfl⟩:=aC.sl 0;refine bS (r:=Q7m) (l:=([D]:List Q1d)) (css:=[(Y7u D E c14)]) bR ⟨(Z8r (x:=D) bT:Q7m.rp _ _ _ _),qZt⟩ ?_;intro _ _ _ c29 _ bU;obtain⟨_,bV,hm⟩:=Z9 hm;refine aO 3 bU (K9 bV) ?_;intro _ _ _ c30 _ bW;exact lg hm ae (bW.sE [3,4,5])
   refine pn ?_;refine cnd (b:=false) rfl (fun h=>nomatch h) (fun _=>?_);have hm:=Z0r hm ab ah;refine pn ?_;obtain⟨_,_,bY,bZ,rfl⟩:=aB.sl 0;refine bS (r:=Q7m) (l:=([D]:List Q1d)) (css:=[(Y7u D E c14)]) bY ⟨(Z8r (x:=D) bZ:Q7m.rp _ _ _ _),qZt⟩ ?_;intro _ _ _ c31 _ b0;obtain⟨_,b2,hm⟩:=Z9 hm;refine aO 3 b0 (K9 b2) ?_;intro _ _ _ _ _ b3;exact lg hm ae (b3.sE [3,4,5])
 exact zr hm aw
theorem Z8y{G:Rec2}(hG:Sp2 G):Q5v (A9 G):=by
 intro g _ _ R _ Y5 Y4 Z7 a1 c1 hS Z2 h1 r hm;refine Y4n Tryz.func92 rfl Tryz.ntmps92 rfl fun J=>?_;unfold A9 at hm;refine sq2 (aL zv9 hS ?_);intro _ U _ aB;refine kA ?_;refine cP Y9m hm (W5 (aB.bE [0,1] [2]) Z2 (mC h1)) ?_ ?_
 . rintro _ _ _ _ _ ⟨_,_,rfl,aC,_,_⟩ hm;exact pe hm (aC.sE [1,2])
 rintro _ _ _ _ _ ⟨D,_,c2,rfl,aD,h2,_⟩ hm;refine wl rfl (dfO (f:=153) (cap:=#[pt D 0]) rfl (pn ?_));refine qU ?_;refine cB cf57 hm (I2 (aD.bE [0,1,3] [2]) Z2 h2) ?_;rintro y2 _ T2 _ _ ⟨rfl,aF,_⟩ hm;refine pv (P3 (by kernel_rfl) rfl (u:= .agg #[iv 0,iv y2.Line,iv y2.Col,.slice none 0 0,.slice none 0 0,.slice none 0 0,.slice none 0 0,.slice none 0 0,.slice none 0 0,.slice none 0 0])) (aL zv9 aF ?_);intro _ O _ aG;refine sT 0 aG ?_;intro w5 _ aJ;refine pn ?_;refine S9 hm (fun ai a E=>∃I V K W c3 a4 c4 a5 c5 a6 c6 a7 c7 a8 c8 a9 c9 ag c10,JR (⟨98,[⟨.fn (.func 153) #[pt D 0],#[]⟩]⟩) g T2 w5 a E I (ai K V=some r) [(2,pt U 0),(3,pt O 0)] [K4 O (Z1b K W c3 a4 c4 a5 c5 a6 c6 a7 c7 a8 c8 a9 c9),K4 U zv9,X3 R,K4 D [pt Y5 Y4],Q1 ag c10 Z7 V]/\Q8 W c3 I E K.A/\Q8 a4 c4 I E K.B/\Q8 a5 c5 I E K.C/\Q27 a6 c6 I E K.Var/\Q23 a7 c7 I E K.Body/\Q23 a8 c8 I E K.Else/\Q66 a9 c9 I E K.Cases/\Q5 ag c10 I E V) (fun ai hm=>?_) ?_
 . refine blk (qU ?_);refine cB cf90 hm (Q6w (aJ.bE (Z4 0 4) [4]) Z2 (mC h2)) ?_;rintro _ _ _ _ _ ⟨rfl,aj,_⟩ hm;refine cd hm ?_ ?_<;>intro dh hm
   . refine pu ?_;refine cP cf121 hm (Q4v (aj.bE (Z4 0 4) [4]) Z2 (mC h2)) ?_ ?_
     . rintro _ _ _ _ _ ⟨_,c15,rfl,aK,_,_⟩ hm;refine pn ?_;refine Q4k Q0x (R3 (args:=[pt D 0]) Tryz.func153 rfl Tryz.ntmps153 rfl rfl fun J=>sB 4 3 Z2 aK ?_);intro _ _ aM;exact pe hm (aM.sE [2,4])
     rintro y4 _ _ _ _ ⟨aN,c11,aP,c12,_,c13,rfl,aQ,_,_,_,_⟩ hm;have di:HL 1 Q2c ([y4.1]:List G9) [(Z8m y4.1 aN c11 aP c12)]:=⟨qZt⟩;exact zr hm aQ
   refine qU ?_;refine cB cf58 hm (O1 (aj.bE (Z4 0 4) [4]) Z2 (mC h2)) ?_;rintro _ _ _ _ _ ⟨rfl,am,_⟩ hm;refine cd hm ?_ ?_<;>intro dj hm
   . refine pu ?_;refine cP cf66 hm (hG.J0 (am.bE (Z4 0 4) [4]) Z2 (mC h2)) ?_ ?_
     . rintro _ _ _ _ _ ⟨_,c18,rfl,aR,_,_⟩ hm;refine pn ?_;refine Q4k Q0x (R3 (args:=[pt D 0]) Tryz.func153 rfl Tryz.ntmps153 rfl rfl fun J=>sB 4 3 Z2 aR ?_);intro _ _ aS;exact pe hm (aS.sE [2,4])
     rintro _ _ _ _ _ ⟨_,_,c16,_,c17,rfl,aT,_,_⟩ hm;refine sT 0 aT ?_;intro _ _ aU;refine sT 0 aU ?_;intro _ _ aV;obtain⟨_,_,aW,_,rfl⟩:=aV.sl 5;exact je hm (aW.sN 0 5)
   refine qU ?_;refine cB Z2v hm (V3 (am.bE (Z4 0 4) [4]) Z2 (mC h2)) ?_;rintro _ _ _ _ _ ⟨_,c19,rfl,an,aX,_⟩ hm;refine cd hm ?_ ?_<;>intro dk hm
   . refine sT 0 an ?_;intro _ _ aY;exact je hm (aY.sN 0 5)
   refine qU ?_;refine cB Z2v hm (V3 (an.bE (Z4 0 4) [4]) Z2 aX) ?_;rintro _ _ _ _ _ ⟨_,c20,rfl,ao,ap,_⟩ hm;refine cd hm ?_ ?_<;>intro dl hm
   . refine qU ?_;refine cP Y9l hm (Q1g (ao.bE (Z4 0 4) [4]) Z2 ap) ?_ ?_
     . rintro _ _ _ _ _ ⟨_,c30,rfl,aZ,_,_⟩ hm;refine pn ?_;refine Q4k Q0x (R3 (args:=[pt D 0]) Tryz.func153 rfl Tryz.ntmps153 rfl rfl fun J=>sB 4 3 Z2 aZ ?_);intro _ _ ba;exact pe hm (ba.sE [2,4])
     rintro _ _ _ _ _ ⟨_,_,c21,_,c22,rfl,be,bf,_⟩ hm;refine sT 0 be ?_;intro _ _ bg;refine sT 0 bg ?_;intro _ _ bh;refine kA ?_;refine cP Y9k hm (hG.J2 (bh.bE [0,1,2,3,5] [4]) Z2 (mC bf)) ?_ ?_
     . rintro _ _ _ _ _ ⟨_,c29,rfl,bi,_,_⟩ hm;refine pn ?_;refine Q4k Q0x (R3 (args:=[pt D 0]) Tryz.func153 rfl Tryz.ntmps153 rfl rfl fun J=>sB 5 3 Z2 bi ?_);intro _ _ bj;exact pe hm (bj.sE [2,5])
     rintro _ _ _ _ _ ⟨_,c23,_,c24,rfl,bk,_,bl,_⟩ hm;refine sT 0 bk ?_;intro _ _ bm;refine kA ?_;refine cB Z2v hm (V3 (bm.bE (Z4 0 5) [5]) Z2 (mC bl)) ?_;rintro bn _ _ _ _ ⟨_,c25,rfl,aq,bo,_⟩ hm;refine nil (E9 [(0,pt Y5 Y4),(2,pt U 0),(3,pt O 0),(41,.bool bn.1)] ⟨rfl,rfl,rfl,rfl,qZt⟩ fun J=>?_);refine cd hm ?_ ?_<;>intro dm hm
     . refine pu ?_;refine cP Y9k hm (hG.J2 (aq.bE (Z4 0 5) [5]) Z2 bo) ?_ ?_
       . rintro _ _ _ _ _ ⟨_,c28,rfl,bp,_,_⟩ hm;refine pn ?_;refine Q4k Q0x (R3 (args:=[pt D 0]) Tryz.func153 rfl Tryz.ntmps153 rfl rfl fun J=>sB 5 3 Z2 bp ?_);intro _ _ bq;exact pe hm (bq.sE [2,5])
       rintro _ _ _ _ _ ⟨_,c26,_,c27,rfl,bt,_,_,_⟩ hm;refine sT 0 bt ?_;intro _ _ bu;obtain⟨_,_,bv,_,rfl⟩:=bu.sl 4;exact je hm (bv.sE [0,1,2,3,5])
     obtain⟨_,_,bw,_,rfl⟩:=aq.sl 4;exact je hm (bw.sE [0,1,2,3,5])
   refine qU ?_;refine cB Z2v hm (V3 (ao.bE (Z4 0 4) [4]) Z2 ap) ?_;rintro _ _ _ _ _ ⟨_,c31,rfl,ar,au,_⟩ hm;refine cd hm ?_ ?_<;>intro dn hm
   . refine qU ?_;refine cP Y9l hm (Q1g (ar.bE (Z4 0 4) [4]) Z2 au) ?_ ?_
     . rintro _ _ _ _ _ ⟨_,_,rfl,bz,_,_⟩ hm;refine pn ?_;refine Q4k Q0x (R3 (args:=[pt D 0]) Tryz.func153 rfl Tryz.ntmps153 rfl rfl fun J=>sB 4 3 Z2 bz ?_);intro _ _ bA;exact pe hm (bA.sE [2,4])
     rintro _ _ _ _ _ ⟨_,_,_,_,_,rfl,bC,bD,_⟩ hm;refine sT 0 bC ?_;intro _ _ bF;refine sT 0 bF ?_;intro _ _ bG;refine pn ?_;refine cP Y9k hm (hG.J2 (bG.bE [0,1,2,3,5] [4]) Z2 (mC bD)) ?_ ?_
     . rintro _ _ _ _ _ ⟨_,_,rfl,bI,_,_⟩ hm;refine pn ?_;refine Q4k Q0x (R3 (args:=[pt D 0]) Tryz.func153 rfl Tryz.ntmps153 rfl rfl fun J=>sB 5 3 Z2 bI ?_);intro _ _ bJ;exact pe hm (bJ.sE [2,5])
     rintro _ _ _ _ _ ⟨_,_,_,_,rfl,bK,_,_,_⟩ hm;refine sT 0 bK ?_;intro _ _ bL;obtain⟨_,_,bM,_,rfl⟩:=bL.sl 4;exact je hm (bM.sE [0,1,2,3,5])
   refine qU ?_;refine cB Z2v hm (V3 (ar.bE (Z4 0 4) [4]) Z2 au) ?_;rintro _ _ _ _ _ ⟨_,_,rfl,av,aw,_⟩ hm;refine cd hm ?_ ?_<;>intro dp hm
   . refine qU ?_;refine cP Y9k hm (hG.J2 (av.bE (Z4 0 4) [4]) Z2 aw) ?_ ?_
     . rintro _ _ _ _ _ ⟨_,_,rfl,bN,_,_⟩ hm;refine pn ?_;refine Q4k Q0x (R3 (args:=[pt D 0]) Tryz.func153 rfl Tryz.ntmps153 rfl rfl fun J=>sB 4 3 Z2 bN ?_);intro _ _ bO;exact pe hm (bO.sE [2,4])
     rintro _ _ _ _ _ ⟨_,_,_,_,rfl,bP,_,bQ,_⟩ hm;refine sT 0 bP ?_;intro _ _ bR;refine sT 0 bR ?_;intro _ _ bT;refine nil (E9 [(0,pt Y5 Y4),(2,pt U 0),(3,pt O 0)] ⟨rfl,rfl,rfl,qZt⟩ fun J=>qU ?_);refine cP Z4f hm (V7 (bT.bE (Z4 0 4) [4]) Z2 (mC bQ)) ?_ ?_
     . rintro _ _ _ _ _ ⟨_,_,rfl,bU,_,_⟩ hm;refine pn ?_;refine Q4k Q0x (R3 (args:=[pt D 0]) Tryz.func153 rfl Tryz.ntmps153 rfl rfl fun J=>sB 4 3 Z2 bU ?_);intro _ _ bV;exact pe hm (bV.sE [2,4])
     rintro _ _ _ _ _ ⟨_,_,rfl,bW,bY,_⟩ hm;refine kA ?_;refine cP Y9l hm (Q1g (bW.bE (Z4 0 4) [4]) Z2 bY) ?_ ?_
     . rintro _ _ _ _ _ ⟨_,_,rfl,bZ,_,_⟩ hm;refine pn ?_;refine Q4k Q0x (R3 (args:=[pt D 0]) Tryz.func153 rfl Tryz.ntmps153 rfl rfl fun J=>sB 4 3 Z2 bZ ?_);intro _ _ b0;exact pe hm (b0.sE [2,4])
     rintro _ _ _ _ _ ⟨_,_,_,_,_,rfl,b4,b5,_⟩ hm;refine sT 0 b4 ?_;intro _ _ b6;refine pn ?_;refine cP Z4f hm (V7 (b6.bE [0,1,2,3,5] [4]) Z2 (mC b5)) ?_ ?_
     . rintro _ _ _ _ _ ⟨_,_,rfl,b7,_,_⟩ hm;refine pn ?_;refine Q4k Q0x (R3 (args:=[pt D 0]) Tryz.func153 rfl Tryz.ntmps153 rfl rfl fun J=>sB 5 3 Z2 b7 ?_);intro _ _ b8;exact pe hm (b8.sE [2,5])
     rintro _ _ _ _ _ ⟨_,_,rfl,b9,_,_⟩ hm;obtain⟨_,_,cc,_,rfl⟩:=b9.sl 4;exact je hm (cc.sE [0,1,2,3,5])
   refine qU ?_;refine cB Z2v hm (V3 (av.bE (Z4 0 4) [4]) Z2 aw) ?_;rintro ce _ _ _ _ ⟨_,_,rfl,ax,ay,_⟩ hm;refine pu ?_;refine nil (E9 [(0,pt Y5 Y4),(2,pt U 0),(3,pt O 0),(69,.bool ce.1)] ⟨rfl,rfl,rfl,rfl,qZt⟩ fun J=>?_);refine cd hm ?_ ?_<;>intro dq hm
   . refine sq2 (sT 0 ax ?_);intro w64 _ cf;refine kA ?_;refine cP Z4f hm (V7 (cf.bE (Z4 0 4) [4]) Z2 (mC ay)) ?_ ?_
     . rintro _ _ _ _ _ ⟨_,_,rfl,cg,_,_⟩ hm;refine pn ?_;refine Q4k Q0x (R3 (args:=[pt D 0]) Tryz.func153 rfl Tryz.ntmps153 rfl rfl fun J=>sB 4 3 Z2 cg ?_);intro _ _ ci;exact pe hm (ci.sE [2,4])
     rintro _ _ _ _ _ ⟨_,_,rfl,cj,ck,_⟩ hm;refine kA ?_;refine cP cf124 hm (Q0m (cj.bE (Z4 0 4) [4]) Z2 ck) ?_ ?_
     . rintro _ _ _ _ _ ⟨_,_,rfl,cl,_,_⟩ hm;refine pn ?_;refine Q4k Q0x (R3 (args:=[pt D 0]) Tryz.func153 rfl Tryz.ntmps153 rfl rfl fun J=>sB 4 3 Z2 cl ?_);intro _ _ cm;exact pe hm (cm.sE [2,4])
     rintro _ _ _ _ _ ⟨_,_,_,_,_,rfl,cn,cp,_⟩ hm;refine pu ?_;refine cP cf124 hm (Q0m (cn.bE [0,1,2,3,5] [4]) Z2 cp) ?_ ?_
     . rintro _ _ _ _ _ ⟨_,_,rfl,cq,_,_⟩ hm;refine pn ?_;refine Q4k Q0x (R3 (args:=[pt D 0]) Tryz.func153 rfl Tryz.ntmps153 rfl rfl fun J=>sB 5 3 Z2 cq ?_);intro _ _ cr;exact pe hm (cr.sE [2,5])
     rintro _ _ _ _ _ ⟨_,_,_,_,_,rfl,ct,cu,_⟩ hm;refine pu ?_;refine cP cf124 hm (Q0m (ct.bE (Z4 0 5++[6]) [5]) Z2 cu) ?_ ?_
     . rintro _ _ _ _ _ ⟨_,_,rfl,cv,_,_⟩ hm;refine pn ?_;refine Q4k Q0x (R3 (args:=[pt D 0]) Tryz.func153 rfl Tryz.ntmps153 rfl rfl fun J=>sB 6 3 Z2 cv ?_);intro _ _ cw;exact pe hm (cw.sE [2,6])
     rintro _ _ _ _ _ ⟨_,_,_,_,_,rfl,cx,cy,_⟩ hm;refine sT 0 cx ?_;intro _ _ cz;refine sT 0 cz ?_;intro _ _ cA;refine sT 0 cA ?_;intro _ _ cC;refine pn ?_;refine cP Y9k hm (hG.J2 (cC.bE (Z4 0 6++[7]) [6]) Z2 (mC cy)) ?_ ?_
     . rintro _ _ _ _ _ ⟨_,_,rfl,cD,_,_⟩ hm;refine pn ?_;refine Q4k Q0x (R3 (args:=[pt D 0]) Tryz.func153 rfl Tryz.ntmps153 rfl rfl fun J=>sB 7 3 Z2 cD ?_);intro _ _ cE;exact pe hm (cE.sE [2,7])
     rintro _ _ _ _ _ ⟨_,_,_,_,rfl,cF,_,_,_⟩ hm;refine sT 0 cF ?_;intro _ _ cG;obtain⟨_,_,cI,_,rfl⟩:=cG.sl 4;obtain⟨_,_,cJ,_,rfl⟩:=cI.sl 5;obtain⟨_,_,cK,_,rfl⟩:=cJ.sl 6;exact je hm (cK.sE [0,1,2,3,7])
   refine qU ?_;refine cB Z2v hm (V3 (ax.bE (Z4 0 4) [4]) Z2 ay) ?_;rintro _ _ _ _ _ ⟨_,_,rfl,az,aA,_⟩ hm;refine cd hm ?_ ?_<;>intro dr hm
   . refine qU ?_;refine cP Y9l hm (Q1g (az.bE (Z4 0 4) [4]) Z2 aA) ?_ ?_
     . rintro _ _ _ _ _ ⟨_,_,rfl,cL,_,_⟩ hm;refine pn ?_;refine Q4k Q0x (R3 (args:=[pt D 0]) Tryz.func153 rfl Tryz.ntmps153 rfl rfl fun J=>sB 4 3 Z2 cL ?_);intro _ _ cM;exact pe hm (cM.sE [2,4])
     rintro _ _ _ _ _ ⟨_,_,_,_,_,rfl,cO,cQ,_⟩ hm;refine sT 0 cO ?_;intro _ _ cR;refine sT 0 cR ?_;intro _ _ cT;refine pn ?_;refine cP cf125 hm (hG.M4 (cT.bE [0,1,2,3,5] [4]) Z2 (mC cQ)) ?_ ?_
     . rintro _ _ _ _ _ ⟨_,_,rfl,cU,_,_⟩ hm;refine pn ?_;refine Q4k Q0x (R3 (args:=[pt D 0]) Tryz.func153 rfl Tryz.ntmps153 rfl rfl fun J=>sB 5 3 Z2 cU ?_);intro _ _ cV;exact pe hm (cV.sE [2,5])
     rintro _ _ _ _ _ ⟨_,_,_,_,_,rfl,cW,_,_⟩ hm;refine sT 0 cW ?_;intro _ _ cX;obtain⟨_,_,cY,_,rfl⟩:=cX.sl 4;obtain⟨_,_,cZ,_,rfl⟩:=cY.sl 6;exact je hm (cZ.sE [0,1,2,3,5])
   refine pu ?_;refine cP cf126 hm (Q6x (az.bE [1,2,3] [4,0]) Z2 aA (Q4m O) U1 U1 U1 U1 U1 U1 U1) ?_ ?_
   . rintro _ _ _ _ _ ⟨_,_,_,_,_,_,_,_,_,_,_,_,_,_,_,_,rfl,da,_,_,_,_,_,_,_,_,_⟩ hm;refine pn ?_;refine Q4k Q0x (R3 (args:=[pt D 0]) Tryz.func153 rfl Tryz.ntmps153 rfl rfl fun J=>sB 3 3 Z2 da ?_);intro _ _ db;exact pe hm (db.sE [1,3])
   rintro _ _ _ _ _ ⟨_,_,_,_,_,_,_,_,_,_,_,_,_,_,_,_,rfl,dc,_,_,_,_,_,_,_,_,_⟩ hm;exact je hm (dc.sE [4,0,1,2,3])
 rintro _ E ⟨I,V,K,W,c3,a4,c4,a5,c5,a6,c6,a7,c7,a8,c8,a9,c9,ag,c10,⟨J,hm,rfl,dd,_⟩,_,_,_,_,_,_,_,_⟩;refine sq2 (sT 1 dd ?_);intro _ _ de;refine pn ?_;refine pn ?_;refine retD Q0x (R3 (args:=[pt D 0]) Tryz.func153 rfl Tryz.ntmps153 rfl rfl fun J=>sB 4 3 Z2 de ?_);intro _ _ dg;exact eo hm (dg.sE [2,4])
theorem Z7i{G:Rec2}(hG:Sp2 G):Q5h (O9 G):=by
 intro g _ _ R _ Y5 Y4 Z7 a1 c1 hS Z2 h1 r hm;refine eN Tryz.func66 Tryz.ntmps66 fun J=>?_;unfold O9 at hm;refine qN ?_;refine qN ?_;refine qU ?_;refine cP Z4f hm (V7 (hS.bE [0] [1]) Z2 h1) ?_ ?_
 . exact zk
 rintro _ _ T1 w1 _ ⟨_,c2,rfl,af,h2,_⟩ hm;refine pn ?_;refine sq2 ?_;have ag:=af.nilO Q5c 96;refine lpJ hm (fun aa o1 m a E=>∃I D K O U c3 V c4,JR (nf 15) g T1 w1 a E I (X8 aa m (K,D)=some o1) [(0,pt Y5 Y4),(3,.slice O U c3)] [G6 Q5c 96 (.slice O U c3) K,X3 R,Q1 V c4 Z7 D]/\Q5 V c4 I E D) (fun _ _ h=>je h (ag.sE [0,1,2])) ?_;rintro aa ah o1 _ _ _ E ⟨I,D,K,O,U,c3,V,c4,⟨J,ai,rfl,aj,_⟩,h3⟩;obtain⟨m1,_,rfl,hm,am⟩:=lrE ai ah;refine sq2 (qU ?_);refine cB Z2v hm (V3 (aj.bE [0,1] [2]) Z2 h3) ?_;rintro _ _ _ _ _ ⟨_,c5,rfl,ac,h4,_⟩ hm;refine cd hm ?_ ?_<;>intro aJ hm
 . refine pn ?_;refine blk (pu ?_);refine cP cf92 hm (hG.J9 (ac.bE [0,1] [2]) Z2 h4) ?_ ?_
   . exact zk
   rintro W _ _ _ _ ⟨a6,c6,a7,c7,a8,c8,a9,c9,au,c10,av,c11,aw,c12,_,c13,rfl,ax,h5,h6,h7,h8,h9,aD,aE,_,_⟩ hm;refine bS (r:=Q5c) (l:=([W.1]:List E0)) (css:=[(Z1b W.1 a6 c6 a7 c7 a8 c8 a9 c9 au c10 av c11 aw c12)]) ax ⟨(Y3p (x:=W.1) h5 h6 h7 h8 h9 aD aE:Q5c.rp _ _ _ _),qZt⟩ ?_;intro _ _ _ c14 _ aF;obtain⟨_,aG,hm⟩:=Z9 hm;refine aO 1 aF (K9 aG) ?_;intro _ _ _ c15 _ aI;exact lg hm am (aI.sE [1,2,3])
 exact zr hm ac
theorem sp2:∀n,Sp2 (Q5s n)
 |0=>⟨(by unfold Q5z;intros;rename_i h;cases(show(none:Option _)=some _ from h)),(by unfold Q5g;intros;rename_i h;cases(show(none:Option _)=some _ from h)),(by unfold Q5v;intros;rename_i h;cases(show(none:Option _)=some _ from h)),(by unfold Q5h;intros;rename_i h;cases(show(none:Option _)=some _ from h))⟩
 |n+1=>⟨Z9b (sp2 n),Z7h (sp2 n),Z8y (sp2 n),Z7i (sp2 n)⟩
theorem Y8i:Q5z J2:=(sp2 NN).J2
theorem Y8b:Q5g M4:=(sp2 NN).M4
theorem Y8f:Q5v J9:=(sp2 NN).J9
theorem Z0y:Q5h J0:=(sp2 NN).J0
end Go.Proofs.YtfffghclkmbopaaGreat
