/- That Go functions compute their models. Printed by gen2.py. -/
import Derived.Test.YtbfpdnogfkbiaaaGreatVWa
set_option linter.unusedVariables false
namespace Go.Proofs.YtbfpdnogfkbiaaaGreat
open _root_.Go.Proofs.Tryz
set_option maxRecDepth 100000
set_option maxHeartbeats 8000000
attribute [local irreducible] wpList wpQuiet Code.wp
variable{g:World}{T0:Nat->Prop}{w0:World}{R:List Y9}
variable{b1 b2 Y0 Q0f Z7g Z7f Z8d c1 c2 c3 c4 c5 c6 c7 c8 c9 c10 c11 c12 c13 n1 n2 n3 n4 n5 n6 n7 Z9 Q0e Z7a Z6z Z7p oo1 oo2:Nat}{H1 H2 Z5 L4 Z5m Z5l Z7h:List Value->Y9}{a1 a2 a3 a4 a5 a6 a7 a8 a9 a10 a11 a12 a13:OA}{r1 r2:Option Nat}{pv1:Value}
attribute [local irreducible] M1 W7 execOp Program.underlying sizeOf isAgg zeroValue

def Q2t(F:Z0->Option (Except (Y3×Z0) ((List Y8)×Z0))):Prop:=∀{g:World}{T0:TP}{w0:World}{R:List Y9}{p0:Z0}{Y0 Z9:Nat}{Z5:List Value->Y9}{a1 c1}(hS:Q39 a1 c1 Z5 T0 g w0 R p0)(Z2:Ln Y0 Z9 Z5)(h1:Q8 a1 c1 T0 w0 p0),∀r,F p0=some r->
 Cl 132 #[pt Y0 Z9] w0 (exR r (fun r=>K6 T0 w0 (Q46 Z5 g R r.2 r.1)) (fun r=>H9 T0 w0 (Q4 Z5 g R r.1.pos r.1.e r.2 r.2.l)))
def Q6k(F:Z0->Option (Except (Y3×Z0) ((List Y8)×Z0))):Prop:=∀{g:World}{T0:TP}{w0:World}{R:List Y9}{p0:Z0}{Y0 Z9:Nat}{Z5:List Value->Y9}{a1 c1}(hS:Q39 a1 c1 Z5 T0 g w0 R p0)(Z2:Ln Y0 Z9 Z5)(h1:Q8 a1 c1 T0 w0 p0),∀r,F p0=some r->
 Cl 216 #[pt Y0 Z9] w0 (exR r (fun r=>K6 T0 w0 (Q46 Z5 g R r.2 r.1)) (fun r=>H9 T0 w0 (Q4 Z5 g R r.1.pos r.1.e r.2 r.2.l)))
def Q7w(F:Z0->Option (Except (Y3×Z0) (Y8×Z0))):Prop:=∀{g:World}{T0:TP}{w0:World}{R:List Y9}{p0:Z0}{Y0 Z9:Nat}{Z5:List Value->Y9}{a1 c1}(hS:Q39 a1 c1 Z5 T0 g w0 R p0)(Z2:Ln Y0 Z9 Z5)(h1:Q8 a1 c1 T0 w0 p0),∀r,F p0=some r->
 Cl 214 #[pt Y0 Z9] w0 (exR r (fun r=>K6 T0 w0 (Q19 Z5 g R r.1 r.2 r.1.Kids)) (fun r=>H9 T0 w0 (Q4 Z5 g R r.1.pos r.1.e r.2 r.2.l)))
def Q8x(F:Z0->Option (Except (Y3×Z0) (Y8×Z0))):Prop:=∀{g:World}{T0:TP}{w0:World}{R:List Y9}{p0:Z0}{Y0 Z9:Nat}{Z5:List Value->Y9}{a1 c1}(hS:Q39 a1 c1 Z5 T0 g w0 R p0)(Z2:Ln Y0 Z9 Z5)(h1:Q8 a1 c1 T0 w0 p0),∀r,F p0=some r->
 Cl 209 #[pt Y0 Z9] w0 (exR r (fun r=>K6 T0 w0 (Q19 Z5 g R r.1 r.2 r.1.Kids)) (fun r=>H9 T0 w0 (Q4 Z5 g R r.1.pos r.1.e r.2 r.2.l)))
def Q7u(F:Z0->Option (Except (Y3×Z0) (Y8×Z0))):Prop:=∀{g:World}{T0:TP}{w0:World}{R:List Y9}{p0:Z0}{Y0 Z9:Nat}{Z5:List Value->Y9}{a1 c1}(hS:Q39 a1 c1 Z5 T0 g w0 R p0)(Z2:Ln Y0 Z9 Z5)(h1:Q8 a1 c1 T0 w0 p0),∀r,F p0=some r->
 Cl 191 #[pt Y0 Z9] w0 (exR r (fun r=>K6 T0 w0 (Q19 Z5 g R r.1 r.2 r.1.Kids)) (fun r=>H9 T0 w0 (Q4 Z5 g R r.1.pos r.1.e r.2 r.2.l)))
def Q6m(F:Z0->Int->Option (Except (Y3×Z0) (Y8×Z0))):Prop:=∀{g:World}{T0:TP}{w0:World}{R:List Y9}{p0:Z0}{Y0 Z9:Nat}{Z5:List Value->Y9}{a1 c1 p1}(hS:Q39 a1 c1 Z5 T0 g w0 R p0)(Z2:Ln Y0 Z9 Z5)(h1:Q8 a1 c1 T0 w0 p0),∀r,F p0 p1=some r->
 Cl 170 #[pt Y0 Z9,iv p1] w0 (exR r (fun r=>K6 T0 w0 (Q19 Z5 g R r.1 r.2 r.1.Kids)) (fun r=>H9 T0 w0 (Q4 Z5 g R r.1.pos r.1.e r.2 r.2.l)))
def Q8z(F:Z0->Option (Except (Y3×Z0) (Y8×Z0))):Prop:=∀{g:World}{T0:TP}{w0:World}{R:List Y9}{p0:Z0}{Y0 Z9:Nat}{Z5:List Value->Y9}{a1 c1}(hS:Q39 a1 c1 Z5 T0 g w0 R p0)(Z2:Ln Y0 Z9 Z5)(h1:Q8 a1 c1 T0 w0 p0),∀r,F p0=some r->
 Cl 127 #[pt Y0 Z9] w0 (exR r (fun r=>K6 T0 w0 (Q19 Z5 g R r.1 r.2 r.1.Kids)) (fun r=>H9 T0 w0 (Q4 Z5 g R r.1.pos r.1.e r.2 r.2.l)))
def Q6n(F:Z0->Option (Except (Y3×Z0) (Y8×Z0))):Prop:=∀{g:World}{T0:TP}{w0:World}{R:List Y9}{p0:Z0}{Y0 Z9:Nat}{Z5:List Value->Y9}{a1 c1}(hS:Q39 a1 c1 Z5 T0 g w0 R p0)(Z2:Ln Y0 Z9 Z5)(h1:Q8 a1 c1 T0 w0 p0),∀r,F p0=some r->
 Cl 94 #[pt Y0 Z9] w0 (exR r (fun r=>K6 T0 w0 (Q19 Z5 g R r.1 r.2 r.1.Kids)) (fun r=>H9 T0 w0 (Q4 Z5 g R r.1.pos r.1.e r.2 r.2.l)))
structure Sp1(G:Y0j):Prop where
 J0:Q2t G.J0
 E7:Q6k G.E7
 H6:Q7w G.H6
 A9:Q8x G.A9
 E0:Q7u G.E0
 E8:Q6m G.E8
 N8:Q8z G.N8
 V1:Q6n G.V1
theorem Z6u{G:Y0j}(hG:Sp1 G):Q2t (Q0a G):=by
 intro g _ _ R _ Y0 Z9 Z5 a1 c1 hS Z2 h1 r hm;refine eN Tryz.func132 Tryz.ntmps132 fun J=>?_;unfold Q0a at hm;refine qN ?_;refine qU ?_;refine cP Z7e hm (V7 (hS.bE [0] [1]) Z2 h1) ?_ ?_
 . exact zk
 rintro _ _ _ _ _ ⟨_,c2,rfl,E,h2,_⟩ hm;refine kA ?_;refine cP Y3m hm (hG.V1 (E.bE [0] [1]) Z2 h2) ?_ ?_
 . exact zk
 rintro D _ _ _ _ ⟨K,c3,_,c4,rfl,O,_,_,_⟩ hm;have U:HL 1 F8 ([D.1]:List Y8) [(E4 D.1 K c3)]:=⟨qZt⟩;exact zr hm O
theorem Z9u{G:Y0j}(hG:Sp1 G):Q6k (Q2a G):=by
 intro g _ _ R _ Y0 Z9 Z5 a1 c1 hS Z2 h1 r hm;refine eN Tryz.func216 Tryz.ntmps216 fun J=>?_;unfold Q2a at hm;refine qN ?_;refine qU ?_;refine cP Z7e hm (V7 (hS.bE [0] [1]) Z2 h1) ?_ ?_
 . exact zk
 rintro _ _ _ _ _ ⟨_,c2,rfl,ag,h2,_⟩ hm;refine kB ?_;refine cB Z5k hm (V3 (ag.bE [0] [1]) Z2 h2) ?_;rintro _ _ _ _ _ ⟨_,c3,rfl,ac,h3,_⟩ hm;refine cd hm ?_ ?_<;>intro aE hm
 . refine qN ?_;have ai:=ac.nilO F8 208;exact re hm (ai.sE [1,2,0])
 refine kA ?_;refine cP Y3m hm (hG.V1 (ac.bE [0] [1]) Z2 h3) ?_ ?_
 . exact zk
 rintro E _ T3 _ _ ⟨a4,c4,_,c5,rfl,am,h4,_,_⟩ hm;refine bS (r:=F8) (l:=([E.1]:List Y8)) (css:=[(E4 E.1 a4 c4)]) am ⟨(Q3a (x:=E.1) h4:F8.rp _ _ _ _),qZt⟩ ?_;intro w4 _ _ c6 _ ap;refine kE ?_;refine lpJ hm (fun ad o1 m a K=>∃O D U V W c7 a8 c8,JR (nf 21) g T3 w4 a K O (X5 ad m (U,D)=some o1) [(0,pt Y0 Z9),(3,.slice V W c7)] [J6 F8 208 (.slice V W c7) U,Y7 R,Q1 a8 c8 Z5 D]/\Q8 a8 c8 O K D) (fun _ _ h=>je h (ap.sE [0,1,2])) ?_;rintro ad aq o1 _ _ _ K ⟨O,D,U,V,W,c7,a8,c8,⟨J,ar,rfl,au,_⟩,h6⟩;obtain⟨m1,_,rfl,hm,aw⟩:=lrE ar aq;refine sq2 (qU ?_);refine cB Z5k hm (V3 (au.bE [0,1] [2]) Z2 h6) ?_;rintro _ _ _ _ _ ⟨_,c9,rfl,af,h7,_⟩ hm;refine cd hm ?_ ?_<;>intro aF hm
 . refine pn ?_;refine blk (pu ?_);refine cP Y3m hm (hG.V1 (af.bE [0,1] [2]) Z2 h7) ?_ ?_
   . exact zk
   rintro y5 _ _ _ _ ⟨ay,c10,_,c11,rfl,az,h8,_,_⟩ hm;refine bS (r:=F8) (l:=([y5.1]:List Y8)) (css:=[(E4 y5.1 ay c10)]) az ⟨(Q3a (x:=y5.1) h8:F8.rp _ _ _ _),qZt⟩ ?_;intro _ _ _ c12 _ aB;obtain⟨_,aC,hm⟩:=Z8 hm;refine aO 1 aB (U8 aC) ?_;intro _ _ _ c13 _ aD;exact lg hm aw (aD.sE [1,2,3])
 exact zr hm af
theorem Y0t{G:Y0j}(hG:Sp1 G):Q7w (Q3q G):=by
 intro g _ _ R _ Y0 Z9 Z5 a1 c1 hS Z2 h1 r hm;refine eN Tryz.func214 Tryz.ntmps214 fun J=>?_;unfold Q3q at hm;refine sq2 (aL zv2 hS ?_);intro _ W _ ad;refine kA ?_;refine cB cf55 hm (A6 (ad.bE [0,1] [2]) Z2 (mC h1)) ?_;rintro y1 _ T1 _ _ ⟨rfl,af,_⟩ hm;refine pv (F0 (by kernel_rfl) rfl (u:= .agg #[iv 0,iv y1.Line,iv y1.Col,qZs [],qZs [],.int .u32 0,qZs [],qZs [],iv 0,.slice none 0 0])) (aL zv2 af ?_);intro _ b2 _ ag;refine sT 0 ag ?_;intro w4 _ ai;refine pn ?_;refine M8 hm (fun ac a D=>∃E K O U c2 V c3,JR (nf 64) g T1 w4 a D E (ac O K=some r) [(2,pt W 0),(3,pt b2 0)] [Q33 U b2 c2 O,K0 W zv2,Y7 R,Q1 V c3 Z5 K]/\Q10 U c2 E D O.Kids/\Q8 V c3 E D K) (fun ac hm=>?_) ?_
 . have ak:Ctr Tryz.prog 94 (type_of%@hG.V1):=⟨@hG.V1,Y3m⟩;have am:Ctr Tryz.prog 132 (type_of%@hG.J0):=⟨@hG.J0,X2s⟩;have an:Ctr Tryz.prog 216 (type_of%@hG.E7):=⟨@hG.E7,cf216⟩;exact zr hm ai
 rintro _ D ⟨E,K,O,U,c2,V,c3,⟨J,hm,rfl,aj,_⟩,h2,_⟩;exact zr hm aj
theorem Y2k{G:Y0j}(hG:Sp1 G):Q8x (Q4v G):=by
 intro g _ _ R _ Y0 Z9 Z5 a1 c1 hS Z2 h1 r hm;refine eN Tryz.func209 Tryz.ntmps209 fun J=>?_;unfold Q4v at hm;refine sq2 (aL zv2 hS ?_);intro _ O _ aI;refine kA ?_;refine cP cf214 hm (hG.H6 (aI.bE [0,1] [2]) Z2 (mC h1)) ?_ ?_
 . exact zk
 rintro _ _ T1 _ _ ⟨_,c2,_,c3,rfl,aK,h2,_,_⟩ hm;refine aL zv2 aK ?_;intro _ U _ aM;refine sT 0 aM ?_;intro w4 _ aP;refine pn ?_;refine lpJ hm (fun aq o1 m a w5=>∃T2 V D K c4 a5 c5,JR (nf 42) g T1 w4 a w5 T2 (X5 aq m (D,V)=some o1) [(0,pt Y0 Z9),(2,pt O 0),(3,pt U 0)] [Q33 K U c4 D,K0 O zv2,Y7 R,Q1 a5 c5 Z5 V]/\Q10 K c4 T2 w5 D.Kids/\Q8 a5 c5 T2 w5 V) (fun _ _ h=>je h (aP.sN 0 4)) ?_;rintro aq aQ o1 au _ _ w5 ⟨T2,V,D,K,c4,a5,c5,⟨J,aR,rfl,aS,_⟩,h4,h5⟩;obtain⟨m1,z1,rfl,hm,aw⟩:=lrE aR aQ;refine blk (sq2 (aL zv2 aS ?_));intro w6 W _ aV;refine pn ?_;have aW:=aV.nilO F8 208;refine M8 hm (fun ax a w7=>∃T3 x5 E a6 n1 c6 a7 c7,JR (nf 42) g T2 w6 a w7 T3 (ax E x5=some z1) [(0,pt Y0 Z9),(2,pt O 0),(3,pt U 0),(4,pt W 0)] [J6 F8 208 (.slice a6 n1 c6) E.Kids,K0 W [iv E.Kind,iv E.Pos.Line,iv E.Pos.Col,Q23 E.Op.toArray,Q23 E.Name.toArray,.int .u32 E.Num,Q23 E.Type_.Word.toArray,Q23 E.Type_.Name.toArray,iv E.Type_.Stars,.slice a6 n1 c6],Q33 K U c4 D,K0 O zv2,Y7 R,Q1 a7 c7 Z5 x5]/\Q8 a7 c7 T3 w7 x5) (fun ax hm=>?_) ?_
 . refine qU ?_;refine cB Y9m hm (L6 (aW.bE (Z3 0 5) [5]) Z2 (mC h5)) ?_;rintro y2 _ T4 w8 _ ⟨rfl,ay,_⟩ hm;refine pn ?_;refine blk (sq2 (cd hm ?_ ?_))<;>intro bw hm
   . refine qU ?_;refine cB Y7w hm (P8 (ay.bE (Z3 0 5) [5]) Z2 (mC h5)) ?_;rintro y3 _ _ _ _ ⟨_,c8,_,c9,rfl,be,_,h8,_⟩ hm;refine sT 1 be ?_;intro _ _ bf;refine kE ?_;refine sT 1 bf ?_;intro _ _ bg;refine kE ?_;refine Z2w [1,0,2,2,0,2] [0,1,2,3,4,5] bg (U7 (R6 (U7 (R6 (U7 (R6 (C5))))))) fun bz bA aA=>pu ?_;obtain⟨y4,aB,hm⟩:=Z8 hm
     rcases y4 with e2|y4
     . have hm:=J8 hm;refine s2 [(0,.agg (E4 D K c4).toArray)] rfl qZt rfl (by kernel_rfl) (Z2d Y3m rfl (hG.V1 (p0:=y3.2) (aA.bE (Z3 1 4) [5]) Z2 (mC h8) _ aB) rfl fun v7 T9 bD bF bh=>?_);obtain⟨_,c15,rfl,bi,_,_⟩:=bh;have hm:=Q1b hm aw au;exact pe hm (bi.sE [3,4])
     have hm:=C2 hm;refine sS [(0,.agg (E4 D K c4).toArray)] Y3m (hG.V1 (aA.bE (Z3 1 4) [5]) Z2 (mC h8) _ aB) ?_;rintro _ _ _ _ ⟨bj,c10,_,c11,rfl,bk,h9,bm,_⟩;refine s2W [0] ?_;refine obS (r:=F8) (l:=([D,y4.1]:List Y8)) (css:=[(E4 D K c4),(E4 y4.1 bj c10)]) bk ⟨(Q3a (x:=D) (mC h4):F8.rp _ _ _ _),(Q3a (x:=y4.1) h9:F8.rp _ _ _ _),qZt⟩ ?_;intro _ _ _ c12 _ bn;refine s2W [] ?_;refine osT 1 bn ?_;intro _ _ bo;refine pn ?_;refine cP Z7e hm (V7 (bo.bE (Z3 0 5) [5]) Z2 (mC bm)) ?_ ?_
     . rintro e1 _ _ _ _ ⟨_,c14,rfl,bp,_,_⟩ hm;have hm:=Q1b hm aw au;exact pe hm (bp.sE [4,5])
     rintro _ _ T7 _ _ ⟨_,c13,rfl,bq,_,_⟩ hm;exact je hm (bq.sN 0 6)
   refine M8 hm (fun aC a am=>∃an x6,JR (nf 42) g T4 w8 a am an (aC x6=some z1) [(0,pt Y0 Z9),(2,pt O 0),(3,pt U 0),(4,pt W 0),(8,(qZs y2)),(22,.bool x6)] [J6 F8 208 (.slice none 0 0) [],K0 W zv2,Q33 K U c4 D,K0 O zv2,Y7 R,Q1 a5 c5 Z5 V]) (fun aC hm=>?_) ?_
   . exact zr hm ay
   rintro _ am ⟨an,x6,J,hm,rfl,aD,_⟩;refine cd hm ?_ ?_<;>intro bG hm
   . have bt:HL 1 F8 ([D]:List Y8) [(E4 D K c4)]:=⟨qZt⟩;exact zr hm aD
   refine M8 hm (fun aE a aF=>∃aG x7,JR (nf 42) g an am a aF aG (aE x7=some z1) [(0,pt Y0 Z9),(2,pt O 0),(3,pt U 0),(4,pt W 0),(33,.bool x7)] [J6 F8 208 (.slice none 0 0) [],K0 W zv2,Q33 K U c4 D,K0 O zv2,Y7 R,Q1 a5 c5 Z5 V]) (fun aE hm=>?_) ?_
   . exact zr hm aD
   rintro _ aF ⟨aG,x7,J,hm,rfl,bu,_⟩;have bt:HL 1 F8 ([D]:List Y8) [(E4 D K c4)]:=⟨qZt⟩;exact zr hm bu
 rintro _ w7 ⟨T3,x5,E,a6,n1,c6,a7,c7,⟨J,hm,rfl,bv,_⟩,_⟩;exact zr hm bv
theorem Y0s{G:Y0j}(hG:Sp1 G):Q7u (Q3p G):=by
 intro g _ _ R _ Y0 Z9 Z5 a1 c1 hS Z2 h1 r hm;refine Y7s Tryz.func191 rfl Tryz.ntmps191 rfl fun J=>?_;unfold Q3p at hm;refine sq2 (aL zv2 hS ?_);intro _ K _ aE;refine kA ?_;refine cP X2t hm (O5 (aE.bE [0,1] [2]) Z2 (mC h1)) ?_ ?_
 . exact zk
 rintro y1 _ _ _ _ ⟨D,a2,c2,rfl,aF,h2,_⟩ hm;refine wl rfl (dfO (f:=169) (cap:=#[pt D 0]) rfl (pn ?_));refine sq2 (qU ?_);refine cB Y9m hm (L6 (aF.bE [0,1,3] [2]) Z2 h2) ?_;rintro y2 _ T2 w3 _ ⟨rfl,aK,_⟩ hm;refine pn ?_;refine blk (M8 hm (fun aw a w4=>∃T3 x1,JR (⟨49,[⟨.fn (.func 169) #[pt D 0],#[]⟩]⟩) g T2 w3 a w4 T3 (aw x1=some r) [(0,pt Y0 Z9),(2,pt K 0),(10,(qZs y2)),(11,.bool x1)] [K0 K zv2,Y7 R,K0 D [pt Y0 Z9],Q1 a2 c2 Z5 y1]) (fun aw hm=>?_) ?_)
 . exact zr hm aK
 rintro _ w4 ⟨T3,x1,J,hm,rfl,ax,_⟩;refine cd hm ?_ ?_<;>intro cl hm
 . refine qU ?_;refine cB Y7w hm (P8 (ax.bE [0,1,2] [3]) Z2 (mC h2)) ?_;rintro _ _ _ _ _ ⟨_,c3,_,c4,rfl,aM,_,h4,_⟩ hm;refine aL zv2 aM ?_;intro _ _ _ aP;refine sT 0 aP ?_;intro _ _ aQ;refine kA ?_;refine cP cf191 hm (hG.E0 (aQ.bE (Z3 0 4) [4]) Z2 (mC h4)) ?_ ?_
   . rintro e1 _ T7 _ _ ⟨_,c8,rfl,aR,_,_⟩ hm;refine pn ?_;exact Q6v Q0u (L2 (args:=[pt D 0]) Tryz.func169 rfl Tryz.ntmps169 rfl rfl fun J=>zr hm aR)
   rintro y4 _ _ _ _ ⟨a5,c5,_,c6,rfl,aT,h5,_,_⟩ hm;refine bS (r:=F8) (l:=([y4.1]:List Y8)) (css:=[(E4 y4.1 a5 c5)]) aT ⟨(Q3a (x:=y4.1) h5:F8.rp _ _ _ _),qZt⟩ ?_;intro _ _ _ c7 _ aV;refine sT 1 aV ?_;intro _ _ aW;refine kE ?_;refine sT 2 aW ?_;intro _ _ aX;refine pn ?_;refine pn ?_;exact retD Q0u (L2 (args:=[pt D 0]) Tryz.func169 rfl Tryz.ntmps169 rfl rfl fun J=>zr hm aX)
 refine M8 hm (fun ay a az=>∃T8 x2,JR (⟨49,[⟨.fn (.func 169) #[pt D 0],#[]⟩]⟩) g T3 w4 a az T8 (ay x2=some r) [(0,pt Y0 Z9),(2,pt K 0),(24,.bool x2)] [K0 K zv2,Y7 R,K0 D [pt Y0 Z9],Q1 a2 c2 Z5 y1]) (fun ay hm=>?_) ?_
 . exact zr hm ax
 rintro _ az ⟨T8,x2,J,hm,rfl,aB,_⟩;refine cd hm ?_ ?_<;>intro cm hm
 . refine qU ?_;refine cB Y7w hm (P8 (aB.bE [0,1,2] [3]) Z2 (mC h2)) ?_;rintro _ _ _ _ _ ⟨_,c9,_,c10,rfl,aY,_,aZ,_⟩ hm;refine aL zv2 aY ?_;intro _ _ _ ba;refine sT 0 ba ?_;intro _ _ be;refine kA ?_;refine cP cf191 hm (hG.E0 (be.bE (Z3 0 4) [4]) Z2 (mC aZ)) ?_ ?_
   . rintro e2 _ _ _ _ ⟨_,c14,rfl,bf,_,_⟩ hm;refine pn ?_;exact Q6v Q0u (L2 (args:=[pt D 0]) Tryz.func169 rfl Tryz.ntmps169 rfl rfl fun J=>zr hm bf)
   rintro y6 _ _ _ _ ⟨bg,c11,_,c12,rfl,bh,bi,_,_⟩ hm;refine bS (r:=F8) (l:=([y6.1]:List Y8)) (css:=[(E4 y6.1 bg c11)]) bh ⟨(Q3a (x:=y6.1) bi:F8.rp _ _ _ _),qZt⟩ ?_;intro _ _ _ c13 _ bj;refine sT 1 bj ?_;intro _ _ bk;refine kE ?_;refine sT 2 bk ?_;intro _ _ bl;refine pn ?_;refine pn ?_;exact retD Q0u (L2 (args:=[pt D 0]) Tryz.func169 rfl Tryz.ntmps169 rfl rfl fun J=>zr hm bl)
 refine kB ?_;refine cB cf55 hm (A6 (aB.bE [0,1,2] [3]) Z2 (mC h2)) ?_;rintro O _ _ _ _ ⟨rfl,bm,_⟩ hm;refine aL [iv 0,iv 0] bm ?_;intro _ _ _ bn;refine sT 0 bn ?_;intro _ _ bo;refine kA ?_;refine cB Z5k hm (V3 (bo.bE (Z3 0 4) [4]) Z2 (mC h2)) ?_;rintro _ _ _ _ _ ⟨_,c15,rfl,aC,aD,_⟩ hm;refine cd hm ?_ ?_<;>intro cn hm
 . refine qU ?_;refine cP Z7e hm (V7 (aC.bE (Z3 0 4) [4]) Z2 aD) ?_ ?_
   . rintro _ _ _ bp bq ⟨_,c22,rfl,ag,_,_⟩ hm;refine pn ?_;exact Q6v Q0u (L2 (args:=[pt D 0]) Tryz.func169 rfl Tryz.ntmps169 rfl rfl fun J=>zr hm ag)
   rintro _ _ _ _ _ ⟨_,c16,rfl,bt,U,_⟩ hm;refine kE ?_;refine rtPS [1,0,2,0,2,2] [0,1,2,3,4,5] bt (U7 (U7 (X1x (rs:=[.cell 2 208]) rfl (by kernel_rfl)))) fun co cp V=>?_;refine pu ?_;obtain⟨E,W,hm⟩:=Z8 hm
   rcases E with e3|E
   . have hm:=J8 hm;refine tF [2,4] ?_;refine⟨?_,?_,qZt⟩
     . refine brW [3,4,5] [] ?_;refine oP cf61 (F9 (V.bE [1,2,3,0] [4]) Z2 (mC U) _ W) ?_;rintro _ bu _ _ ⟨bv,c21,rfl,bw,bz,_⟩;refine pn ?_;refine Q6v Q0u (L2 (args:=[pt D 0]) Tryz.func169 rfl Tryz.ntmps169 rfl rfl fun J=>sB 4 3 Z2 bw ?_);intro bA bB ah;exact pe hm (ah.sE [1,4])
     refine brW [2,3,5] [] ?_;refine oaL zv2 V ?_;intro _ _ _ bC;refine t1W [2] [3,5] [] ?_;refine oP cf61 (F9 (bC.bE [0,2,3,4,1] [5]) Z2 (mC U) _ W) ?_;rintro _ bu bA bB ⟨bv,c21,rfl,ah,bz,_⟩;refine pn ?_;refine Q6v Q0u (L2 (args:=[pt D 0]) Tryz.func169 rfl Tryz.ntmps169 rfl rfl fun J=>sB 5 3 Z2 ah ?_);intro bp bq ag;exact pe hm (ag.sE [2,5])
   have hm:=C2 hm;refine tF [2,4] ?_;refine⟨?_,?_,qZt⟩
   . refine brW [3,4,5] [] ?_;refine oS cf61 (F9 (V.bE [1,2,3,0] [4]) Z2 (mC U) _ W) ?_;rintro _ bD bF bG ⟨bI,c17,rfl,ai,aj,_⟩;refine pu ?_;refine t0 rfl qZt (fun _=>F0 (by kernel_rfl) rfl (u:= .agg #[iv 12,iv O.Line,iv O.Col,qZs [],qZs [],.int .u32 0,qZs E.1.Word,qZs E.1.Name,iv E.1.Stars,.slice none 0 0])) rfl (t1W [4] [5] [] ?_);refine oaL zv2 ai ?_;intro bJ b6 bL ak;refine t1W [5] [] [0] ?_;refine osT 0 ak ?_;intro bM bN am;refine kA ?_;refine cP Z7e hm (V7 (am.bE (Z3 0 4) [5]) Z2 (mC aj)) ?_ ?_
     . rintro e4 _ bO bP bQ ⟨bR,c19,rfl,an,bT,_⟩ hm;refine pn ?_;refine Q6v Q0u (L2 (args:=[pt D 0]) Tryz.func169 rfl Tryz.ntmps169 rfl rfl fun J=>sB 4 3 Z2 an ?_);intro bU bV ao;exact pe hm (ao.sE [2,4])
     rintro bW _ bY bZ b0 ⟨b8,c18,rfl,ap,b9,_⟩ hm;refine kE ?_;refine sT 1 ap ?_;intro cc ce aq;refine pn ?_;refine pn ?_;refine retD Q0u (L2 (args:=[pt D 0]) Tryz.func169 rfl Tryz.ntmps169 rfl rfl fun J=>sB 4 3 Z2 aq ?_);intro cf cg ar;exact eo hm (ar.sE [2,4])
   refine brW [2,3,5] [] ?_;refine oaL zv2 V ?_;intro bF b6 bG ai;refine t1W [2] [3,5] [] ?_;refine oS cf61 (F9 (ai.bE [0,2,3,4,1] [5]) Z2 (mC U) _ W) ?_;rintro _ bD bJ bL ⟨bI,c17,rfl,ak,aj,_⟩;refine pu ?_;refine t0 rfl qZt (fun _=>F0 (by kernel_rfl) rfl (u:= .agg #[iv 12,iv O.Line,iv O.Col,qZs [],qZs [],.int .u32 0,qZs E.1.Word,qZs E.1.Name,iv E.1.Stars,.slice none 0 0])) rfl (t1W [5] [] [0] ?_);refine osT 0 ak ?_;intro bM bN am;refine kA ?_;refine cP Z7e hm (V7 (am.bE (Z3 0 4) [5]) Z2 (mC aj)) ?_ ?_
   . rintro e4 _ bO bP bQ ⟨bR,c19,rfl,an,bT,_⟩ hm;refine pn ?_;refine Q6v Q0u (L2 (args:=[pt D 0]) Tryz.func169 rfl Tryz.ntmps169 rfl rfl fun J=>sB 4 3 Z2 an ?_);intro bU bV ao;exact pe hm (ao.sE [2,4])
   rintro bW _ bY bZ b0 ⟨b8,c18,rfl,ap,b9,_⟩ hm;refine kE ?_;refine sT 1 ap ?_;intro cc ce aq;refine pn ?_;refine pn ?_;refine retD Q0u (L2 (args:=[pt D 0]) Tryz.func169 rfl Tryz.ntmps169 rfl rfl fun J=>sB 4 3 Z2 aq ?_);intro cf cg ar;exact eo hm (ar.sE [2,4])
 refine kA ?_;refine cP cf209 hm (hG.A9 (aC.bE [1,2,3] [4]) Z2 aD) ?_ ?_
 . rintro _ _ _ _ _ ⟨_,c25,rfl,ci,_,_⟩ hm;refine pn ?_;exact Q6v Q0u (L2 (args:=[pt D 0]) Tryz.func169 rfl Tryz.ntmps169 rfl rfl fun J=>zr hm ci)
 rintro _ _ _ _ _ ⟨_,c23,_,c24,rfl,cj,_,_,_⟩ hm;refine sT 0 cj ?_;intro _ _ ck;refine pn ?_;refine pn ?_;exact retD Q0u (L2 (args:=[pt D 0]) Tryz.func169 rfl Tryz.ntmps169 rfl rfl fun J=>zr hm ck)
theorem Z9v{G:Y0j}(hG:Sp1 G):Q6m (Q2b G):=by
 intro g _ _ R _ Y0 Z9 Z5 a1 c1 p1 hS Z2 h1 r hm;refine eN Tryz.func170 Tryz.ntmps170 fun J=>?_;unfold Q2b at hm;refine sq2 (aL zv2 hS ?_);intro _ b1 _ ak;refine kA ?_;refine cP cf191 hm (hG.E0 (ak.bE [0,1] [2]) Z2 (mC h1)) ?_ ?_
 . exact zk
 rintro _ _ T1 _ _ ⟨_,c2,_,c3,rfl,an,h2,_,_⟩ hm;refine aL zv2 an ?_;intro _ b2 _ ao;refine sT 0 ao ?_;intro w4 _ aq;refine pn ?_;refine lpJ hm (fun ad o1 m a K=>∃O U D E c4 W c5,JR (nf 31) g T1 w4 a K O (X5 ad m (D,U)=some o1) [(0,pt Y0 Z9),(1,iv p1),(4,pt b1 0),(5,pt b2 0)] [Q33 E b2 c4 D,K0 b1 zv2,Y7 R,Q1 W c5 Z5 U]/\Q10 E c4 O K D.Kids/\Q8 W c5 O K U) (fun _ _ h=>je h (aq.sN 0 4)) ?_;rintro ad ar o1 au _ _ K ⟨O,U,D,E,c4,W,c5,⟨J,av,rfl,aw,_⟩,_,h5⟩;obtain⟨m1,_,rfl,hm,ax⟩:=lrE av ar;refine blk (qU ?_);refine cB Y9m hm (L6 (aw.bE [0,1,2] [3]) Z2 h5) ?_;rintro _ _ _ _ _ ⟨rfl,ay,_⟩ hm;refine cB cf192 hm (Z6v (ay.bE (Z3 0 4) [])) ?_;rintro y3 _ _ _ _ ⟨rfl,aa,_⟩ hm;refine kB ?_
 rcases bc hm with⟨aA,hm⟩|⟨aA,hm⟩
 . exact zr hm aa
 refine cd hm ?_ ?_<;>intro aK hm
 . exact zr hm aa
 refine kA ?_;refine cB Y7w hm (P8 (aa.bE [0,1,2] [3]) Z2 (mC h5)) ?_;rintro y4 _ _ _ _ ⟨_,c6,_,c7,rfl,aC,_,h7,_⟩ hm;refine aL zv2 aC ?_;intro _ _ _ aD;refine sT 0 aD ?_;intro _ _ aE;refine kE ?_;refine Z2w [1,0,0,0,2,2,0,2] [0,1,2,3,4,5,6,7] aE (U7 (R6 (U7 (R6 (C5))))) fun aM aN ah=>pu ?_;obtain⟨V,ai,hm⟩:=Z8 hm
 rcases V with e1|V
 . have hm:=J8 hm;refine s2 [(0,.agg (E4 D E c4).toArray)] rfl qZt rfl (by kernel_rfl) (Z2d cf170 rfl (hG.E8 (p0:=y4.2) (p1:=IntKind.wrap .i64 (y3+1)) (ah.bE (Z3 0 4) [4]) Z2 (mC h7) _ ai) rfl fun v6 T8 aR aS aF=>?_);obtain⟨_,c11,rfl,aG,_,_⟩:=aF;have hm:=Q1b hm ax au;exact pe hm (aG.sE [3,4])
 have hm:=C2 hm;refine sS [(0,.agg (E4 D E c4).toArray)] cf170 (hG.E8 (ah.bE (Z3 0 4) [4]) Z2 (mC h7) _ ai) ?_;rintro _ _ _ _ ⟨a8,c8,_,c9,rfl,aJ,_,_,_⟩;have aT:HL 1 F8 ([D,V.1]:List Y8) [(E4 D E c4),(E4 V.1 a8 c8)]:=⟨qZt⟩;have dd:KD [(4,[]),(5,[0,4]),(7,[0,4,5])]:=⟨qZt⟩;exact zr hm aJ
theorem Y2l{G:Y0j}(hG:Sp1 G):Q8z (Q4x G):=by
 intro g _ _ R _ Y0 Z9 Z5 a1 c1 hS Z2 h1 r hm;refine eN Tryz.func127 Tryz.ntmps127 fun J=>?_;unfold Q4x at hm;refine sq2 (aL zv2 hS ?_);intro _ b1 _ ae;refine kA ?_;refine cP cf170 hm (hG.E8 (ae.bE [0,1] [2]) Z2 (mC h1)) ?_ ?_
 . exact zk
 rintro D _ _ _ _ ⟨O,c2,_,c3,rfl,af,h2,V,_⟩ hm;refine aL zv2 af ?_;intro _ _ _ ag;refine sT 0 ag ?_;intro _ _ ah;refine kB ?_;refine cB Y9m hm (L6 (ah.bE [0,1,2] [3]) Z2 (mC V)) ?_;rintro _ _ _ _ _ ⟨rfl,W,_⟩ hm;refine cd hm ?_ ?_<;>intro aP hm
 . exact zr hm W
 refine kA ?_;refine cB Y7w hm (P8 (W.bE [0,1,2] [3]) Z2 (mC V)) ?_;rintro _ _ _ _ _ ⟨_,c4,_,c5,rfl,ai,_,h5,_⟩ hm;refine aL zv2 ai ?_;intro _ b3 _ am;refine sT 0 am ?_;intro _ _ an;refine kE ?_;refine sT 0 an ?_;intro _ _ ao;refine kA ?_;refine cP Y3m hm (hG.V1 (ao.bE (Z3 0 4) [4]) Z2 (mC h5)) ?_ ?_
 . exact zk
 rintro E _ _ _ _ ⟨U,c6,_,c7,rfl,ap,h6,h7,_⟩ hm;refine aL zv2 ap ?_;intro _ _ _ au;refine sT 0 au ?_;intro _ _ av;refine kA ?_;refine cP Z7e hm (V7 (av.bE (Z3 0 5) [5]) Z2 (mC h7)) ?_ ?_
 . exact zk
 rintro _ _ _ _ _ ⟨_,c8,rfl,aw,h8,_⟩ hm;refine kA ?_;refine cP X2t hm (O5 (aw.bE (Z3 0 5) [5]) Z2 h8) ?_ ?_
 . exact zk
 rintro y6 _ _ _ _ ⟨b5,_,c9,rfl,aA,h9,_⟩ hm;refine pv (r_zf rfl) (pn ?_);refine sq2 (Z2w [1,1,0,2,2,0,2] [0,1,2,3,4,5,6] aA (U7 (C5)) fun aQ aR ab=>pu ?_);obtain⟨K,ac,hm⟩:=Z8 hm
 rcases K with e1|K
 . have hm:=J8 hm;refine s2 [(1,.agg (E4 E.1 U c6).toArray),(0,.agg (E4 D.1 O c2).toArray)] rfl qZt rfl (by kernel_rfl) (Z2d cf127 rfl (hG.N8 (p0:=y6) (ab.bE [1,3,4,6,0,2] [5]) Z2 (mC h9) _ ac) rfl fun v9 aT aU aV aB=>?_);obtain⟨_,c14,rfl,aC,_,_⟩:=aB;exact pe hm (aC.sE [2,6])
 have hm:=C2 hm;refine sS [(1,.agg (E4 E.1 U c6).toArray),(0,.agg (E4 D.1 O c2).toArray)] cf127 (hG.N8 (ab.bE [1,3,4,6,0,2] [5]) Z2 (mC h9) _ ac) ?_;rintro _ T7 _ _ ⟨aD,c10,_,c11,rfl,aE,aF,aG,_⟩;refine s2W [0,0] ?_;refine obS (r:=F8) (l:=([D.1,E.1,K.1]:List Y8)) (css:=[(E4 D.1 O c2),(E4 E.1 U c6),(E4 K.1 aD c10)]) aE ⟨(Q3a (x:=D.1) (mC h2):F8.rp _ _ _ _),(Q3a (x:=E.1) (mC h6):F8.rp _ _ _ _),(Q3a (x:=K.1) aF:F8.rp _ _ _ _),qZt⟩ ?_;intro _ _ _ c12 _ aI;refine s2W [] ?_;refine osT 1 aI ?_;intro _ _ aJ;refine kA ?_;refine cB Q0u hm (Q7n (aJ.bE (Z3 0 4) [4,7]) (Q3w b5) Z2 (mC aG)) ?_;rintro _ _ _ _ _ ⟨_,c13,rfl,aK,_,_⟩ hm;refine nil (K7 [(2,pt b1 0),(4,pt b3 0)] ⟨rfl,rfl,qZt⟩ fun J=>sq2 (sT 2 aK ?_));intro _ _ aM;refine pn ?_;obtain⟨_,_,aN,_,rfl⟩:=aM.sl 0;exact re hm (aN.sE [3,5])
theorem Z9w{G:Y0j}(hG:Sp1 G):Q6n (Q2c G):=by
 intro g _ _ R _ Y0 Z9 Z5 a1 c1 hS Z2 h1 r hm;refine Y7s Tryz.func94 rfl Tryz.ntmps94 rfl fun J=>?_;unfold Q2c at hm;refine sq2 (aL zv2 hS ?_);intro _ _ _ ac;refine kA ?_;refine cP X2t hm (O5 (ac.bE [0,1] [2]) Z2 (mC h1)) ?_ ?_
 . exact zk
 rintro _ _ _ _ _ ⟨D,_,c2,rfl,ad,h2,_⟩ hm;refine wl rfl (dfO (f:=169) (cap:=#[pt D 0]) rfl (pn ?_));refine qU ?_;refine cP cf127 hm (hG.N8 (ad.bE [0,1,3] [2]) Z2 h2) ?_ ?_
 . rintro e2 _ _ _ _ ⟨_,c11,rfl,ae,_,_⟩ hm;refine pn ?_;refine Q6v Q0u (L2 (args:=[pt D 0]) Tryz.func169 rfl Tryz.ntmps169 rfl rfl fun J=>sB 3 3 Z2 ae ?_);intro _ _ af;exact pe hm (af.sE [1,3])
 rintro E _ _ _ _ ⟨O,c3,_,c4,rfl,ag,h3,U,_⟩ hm;refine aL zv2 ag ?_;intro _ _ _ ai;refine sT 0 ai ?_;intro _ _ aj;refine kB ?_;refine cB Y9m hm (L6 (aj.bE (Z3 0 4) [4]) Z2 (mC U)) ?_;rintro _ _ _ _ _ ⟨rfl,ak,_⟩ hm;refine cB cf128 hm (Z4a (ak.bE (Z3 0 5) [])) ?_;rintro _ _ _ _ _ ⟨rfl,V,_⟩ hm;refine cd hm ?_ ?_<;>intro aC hm
 . refine sq2 (sT 1 V ?_);intro _ _ am;refine pn ?_;refine pn ?_;exact retD Q0u (L2 (args:=[pt D 0]) Tryz.func169 rfl Tryz.ntmps169 rfl rfl fun J=>zr hm am)
 refine kA ?_;refine cB Y7w hm (P8 (V.bE (Z3 0 4) [4]) Z2 (mC U)) ?_;rintro y5 _ _ _ _ ⟨_,c5,_,c6,rfl,ao,_,W,_⟩ hm;refine aL zv2 ao ?_;intro _ _ _ ap;refine sT 0 ap ?_;intro _ _ aq;refine kE ?_;refine Z2w [1,0,2,2,0,2] [0,1,2,3,4,5] aq (U7 (X1x (rs:=[.cell 2 208]) rfl (by kernel_rfl))) fun aD aE aa=>?_;refine pu ?_;obtain⟨K,ab,hm⟩:=Z8 hm
 rcases K with e1|K
 . have hm:=J8 hm;refine s2 [(0,.agg (E4 E.1 O c3).toArray)] rfl qZt rfl (by kernel_rfl) (Z2d Y3m rfl (hG.V1 (p0:=y5.2) (aa.bE [0,2,3,4,1] [5]) Z2 (mC W) _ ab) rfl fun v7 T8 aI aJ ar=>?_);obtain⟨_,c10,rfl,au,_,_⟩:=ar;refine pn ?_;refine Q6v Q0u (L2 (args:=[pt D 0]) Tryz.func169 rfl Tryz.ntmps169 rfl rfl fun J=>sB 5 3 Z2 au ?_);intro _ _ av;exact pe hm (av.sE [2,5])
 have hm:=C2 hm;refine sS [(0,.agg (E4 E.1 O c3).toArray)] Y3m (hG.V1 (aa.bE [0,2,3,4,1] [5]) Z2 (mC W) _ ab) ?_;rintro _ _ _ _ ⟨a7,c7,_,c8,rfl,ax,h7,_,_⟩;refine s2W [0] ?_;refine obS (r:=F8) (l:=([E.1,K.1]:List Y8)) (css:=[(E4 E.1 O c3),(E4 K.1 a7 c7)]) ax ⟨(Q3a (x:=E.1) (mC h3):F8.rp _ _ _ _),(Q3a (x:=K.1) h7:F8.rp _ _ _ _),qZt⟩ ?_;intro _ _ _ c9 _ az;refine s2W [] ?_;refine osT 1 az ?_;intro _ _ aA;refine kE ?_;refine sT 2 aA ?_;intro _ _ aB;refine pn ?_;refine pn ?_;refine retD Q0u (L2 (args:=[pt D 0]) Tryz.func169 rfl Tryz.ntmps169 rfl rfl fun J=>?_);have dd:KD [(2,[]),(3,[0,2]),(5,[0,2,3])]:=⟨qZt⟩;exact zr hm aB
theorem sp1:∀n,Sp1 (Q6t n)
 |0=>⟨(by unfold Q2t;intros;rename_i h;cases(show(none:Option _)=some _ from h)),(by unfold Q6k;intros;rename_i h;cases(show(none:Option _)=some _ from h)),(by unfold Q7w;intros;rename_i h;cases(show(none:Option _)=some _ from h)),(by unfold Q8x;intros;rename_i h;cases(show(none:Option _)=some _ from h)),(by unfold Q7u;intros;rename_i h;cases(show(none:Option _)=some _ from h)),(by unfold Q6m;intros;rename_i h;cases(show(none:Option _)=some _ from h)),(by unfold Q8z;intros;rename_i h;cases(show(none:Option _)=some _ from h)),(by unfold Q6n;intros;rename_i h;cases(show(none:Option _)=some _ from h))⟩
 |n+1=>⟨Z6u (sp1 n),Z9u (sp1 n),Y0t (sp1 n),Y2k (sp1 n),Y0s (sp1 n),Z9v (sp1 n),Y2l (sp1 n),Z9w (sp1 n)⟩
theorem Q1f:Q2t J0:=(sp1 NN).J0
theorem Y9t:Q6k E7:=(sp1 NN).E7
theorem X1f:Q7w H6:=(sp1 NN).H6
theorem X1m:Q8x A9:=(sp1 NN).A9
theorem X1e:Q7u E0:=(sp1 NN).E0
theorem Y9u:Q6m E8:=(sp1 NN).E8
theorem X1n:Q8z N8:=(sp1 NN).N8
theorem O7:Q6n V1:=(sp1 NN).V1

theorem O6{p0:Z0}{p1:M7}(hS:Q39 a1 c1 Z5 T0 g w0 R p0)(Z2:Ln Y0 Z9 Z5)(h1:Q8 a1 c1 T0 w0 p0)(h2:Q13 a2 c2 T0 w0 p1.Dims):∀r,L7 p0 p1=some r->
 Cl 62 #[pt Y0 Z9,.agg #[iv p1.Pos.Line,iv p1.Pos.Col,Q23 p1.Type_.Word.toArray,Q23 p1.Type_.Name.toArray,iv p1.Type_.Stars,Q23 p1.Name.toArray,sv a2 p1.Dims c2,.slice none 0 0,.bool p1.Brace]] w0 (exR r (fun r=>K6 T0 w0 (Q64 Z5 g R r.1 r.2)) (fun r=>H9 T0 w0 (Q4 Z5 g R r.1.pos r.1.e r.2 r.2.l))):=by
 intro r hm;refine eN Tryz.func62 Tryz.ntmps62 fun J=>?_;unfold L7 at hm;refine sq2 (bX [iv p1.Pos.Line,iv p1.Pos.Col,qZs p1.Type_.Word,qZs p1.Type_.Name,iv p1.Type_.Stars,qZs p1.Name,sv a2 p1.Dims c2,.slice none 0 0,.bool p1.Brace] hS ?_);intro _ W _ aD;refine aL zv4 aD ?_;intro _ b2 _ aE;refine kA ?_;refine cP cf92 hm (Q6l (aE.bE [0,1,2] [3]) Z2 (mC h1)) ?_ ?_
 . exact zk
 rintro _ _ T1 _ _ ⟨a4,n1,c4,_,c5,rfl,aG,h4,_⟩ hm;refine sT 1 aG ?_;intro w4 _ aK;refine pn ?_;have aM:=aK.nilO F8 208;refine M8 hm (fun ao a w5=>∃T2 x4 D a6 n2 c6 a7 c7,JR (nf 40) g T1 w4 a w5 T2 (ao D x4=some r) [(0,pt Y0 Z9),(3,pt W 0),(4,pt b2 0)] [J6 F8 208 (.slice a6 n2 c6) D.Init,K0 b2 zv4,Q83 a4 a6 W n1 c4 n2 c6 D,Y7 R,Q1 a7 c7 Z5 x4,J6 (J3 .u32) 33 (.slice a4 n1 c4) D.Dims]/\Q8 a7 c7 T2 w5 x4) (fun ao hm=>?_) ?_
 . refine qU ?_;refine cB Z5k hm (V3 (aM.bE [0,1,2,3,5] [4]) Z2 (mC h4)) ?_;rintro _ _ _ _ _ ⟨_,c8,rfl,ap,h6,_⟩ hm;refine cd hm ?_ ?_<;>intro bI hm
   . refine qU ?_;refine cB Z5k hm (V3 (ap.bE (Z3 0 5) [5]) Z2 h6) ?_;rintro y3 _ _ _ _ ⟨_,c9,rfl,aQ,h7,_⟩ hm;refine sT 2 aQ ?_;intro _ _ aR;refine kE ?_;refine Z2w [0,1,0,2,2,2,0,2] [0,1,2,3,4,5,6,7] aR (U7 (U7 (C5))) fun w9 bK ar=>pu ?_;obtain⟨E,au,hm⟩:=Z8 hm
     rcases E with e5|E
     . have hm:=J8 hm;refine s2 [(1,.slice none 0 0)] rfl qZt rfl (by kernel_rfl) (Z2d Y3m rfl (O7 (p0:=y3.2) (ar.bE (Z3 0 5) [5]) Z2 (mC h7) _ au) rfl fun bM bN bO bP aS=>?_);obtain⟨_,c28,rfl,aT,_,_⟩:=aS;exact pe hm (aT.sE [3,5])
     have hm:=C2 hm;refine sS [(1,.slice none 0 0)] Y3m (O7 (ar.bE (Z3 0 5) [5]) Z2 (mC h7) _ au) ?_;rintro _ T5 _ _ ⟨aV,c10,_,c11,rfl,aW,h8,_,_⟩;refine s2W [] ?_;refine obS (r:=F8) (l:=([E.1]:List Y8)) (css:=[(E4 E.1 aV c10)]) aW ⟨(Q3a (x:=E.1) h8:F8.rp _ _ _ _),qZt⟩ ?_;intro _ _ _ c12 _ aY;refine pu ?_;obtain⟨_,aZ,hm⟩:=Z8 hm;refine s2W [0] ?_;refine oaO 1 aY (U8 aZ) ?_;intro _ _ _ c13 _ a3;refine s2W [] ?_;refine osT 3 a3 ?_;intro ba _ be;refine kE ?_;refine lpJ hm (fun av o1 m a ak=>∃T6 x8 K O U c14 an c15,JR (nf 40) g T5 ba a ak T6 (X5 av m (K,x8)=some o1) [(0,pt Y0 Z9),(3,pt W 0),(4,pt b2 0)] [J6 F8 208 (.slice O U c14) K.Init,K0 b2 zv4,Q83 a4 O W n1 c4 U c14 K,Y7 R,J6 (J3 .u32) 33 (.slice a4 n1 c4) K.Dims,Q1 an c15 Z5 x8]/\Q8 an c15 T6 ak x8) (fun _ _ h=>je h (be.sN 1 6)) ?_;rintro av bf o1 bg _ _ ak ⟨T6,x8,K,O,U,c14,an,c15,⟨J,bh,rfl,ax,_⟩,bi⟩;obtain⟨m1,_,rfl,hm,ay⟩:=lrE bh bf;refine sq2 (qU ?_)
     rcases bc hm with⟨bj,hm⟩|⟨bj,hm⟩
     . refine pu ?_;refine cB Z5k hm (V3 (ax.bE (Z3 0 5) [5]) Z2 bi) ?_;rintro y5 _ T7 _ _ ⟨_,c16,rfl,az,aA,_⟩ hm;refine cd hm ?_ ?_<;>intro bQ hm
       . refine pn ?_;refine blk (Z2w [0,1,0,2,2,2,0,2] [0,1,2,3,4,5,6,7] az (R6 (U7 (R6 (U7 (U7 (C5)))))) fun bR bT aB=>pu ?_);obtain⟨V,aC,hm⟩:=Z8 hm
         rcases V with e1|V
         . have hm:=J8 hm;refine s2 [(1,.slice O U c14)] rfl qZt rfl (by kernel_rfl) (Z2d Y3m rfl (O7 (p0:=y5.2) (aB.bE (Z3 0 5) [5]) Z2 (mC aA) _ aC) rfl fun v7 T9 bW bY bl=>?_);obtain⟨_,c21,rfl,bm,_,_⟩:=bl;have hm:=Q1b hm ay bg;exact pe hm (bm.sE [3,5])
         have hm:=C2 hm;refine sS [(1,.slice O U c14)] Y3m (O7 (aB.bE (Z3 0 5) [5]) Z2 (mC aA) _ aC) ?_;rintro _ _ _ _ ⟨bn,c17,_,c18,rfl,bo,bp,_,_⟩;refine s2W [] ?_;refine obS (r:=F8) (l:=([V.1]:List Y8)) (css:=[(E4 V.1 bn c17)]) bo ⟨(Q3a (x:=V.1) bp:F8.rp _ _ _ _),qZt⟩ ?_;intro _ _ _ c19 _ bq;refine pu ?_;obtain⟨_,bt,hm⟩:=Z8 hm;refine s2W [0] ?_;refine oaO 1 bq (U8 bt) ?_;intro _ _ _ c20 _ bu;refine s2W [] ?_;refine osT 3 bu ?_;intro _ _ bv;refine pu ?_;exact lg hm ay (bv.sN 1 6)
       have dd:KD [(3,[]),(4,[3]),(5,[1,3,4]),(7,[1,3,4,5])]:=⟨qZt⟩;exact zr hm az
     have dd:KD [(3,[]),(4,[3]),(5,[1,3,4]),(7,[1,3,4,5])]:=⟨qZt⟩;exact zr hm ax
   exact je hm (ap.sE [0,1,2,3,5,4])
 rintro _ w5 ⟨T2,x4,D,a6,n2,c6,a7,c7,⟨J,hm,rfl,bz,_⟩,h5⟩;refine qU ?_;refine cP Z7e hm (V7 (bz.bE [0,1,2,3,5] [4]) Z2 h5) ?_ ?_
 . rintro _ _ _ _ _ ⟨_,c30,rfl,bB,_,_⟩ hm;exact pe hm (bB.sE [3,5])
 rintro _ _ _ _ _ ⟨_,c29,rfl,bC,_,_⟩ hm;refine kE ?_;refine sT 1 bC ?_;intro _ _ bD;refine pn ?_;obtain⟨_,_,bF,_,rfl⟩:=bD.sl 4;obtain⟨_,_,bG,_,rfl⟩:=bF.sl 0;exact re hm (bG.sE [3,5])

instance:Ct 62 @O6:=⟨@O6,cf62⟩
theorem D6{p0:Z0}(hS:Q39 a1 c1 Z5 T0 g w0 R p0)(Z2:Ln Y0 Z9 Z5)(h1:Q8 a1 c1 T0 w0 p0):∀r,W2 p0=some r->
 Cl 63 #[pt Y0 Z9] w0 (exR r (fun r=>K6 T0 w0 (Q78 Z5 g R r.2 r.1)) (fun r=>H9 T0 w0 (Q4 Z5 g R r.1.pos r.1.e r.2 r.2.l))):=by
 intro r hm;refine eN Tryz.func63 Tryz.ntmps63 fun J=>?_;unfold W2 at hm;refine qN ?_;refine qN ?_;refine qU ?_;refine cP Z7e hm (V7 (hS.bE [0] [1]) Z2 h1) ?_ ?_
 . exact zk
 rintro _ _ T1 w1 _ ⟨_,c2,rfl,au,h2,_⟩ hm;refine pn ?_;refine M8 hm (fun ai a U=>∃V K W c3,JR (nf 35) g T1 w1 a U V (ai K=some r) [(0,pt Y0 Z9),(3,.slice none 0 0)] [Y7 R,Q1 W c3 Z5 K]/\Q8 W c3 V U K) (fun ai hm=>?_) ?_
 . exact zr hm au
 rintro _ U ⟨V,K,W,c3,⟨J,hm,rfl,av,_⟩,h3⟩;refine sq2 (qU ?_);refine cB Z5k hm (V3 (av.bE [0] [1]) Z2 h3) ?_;rintro _ _ T7 w7 _ ⟨_,c6,rfl,aj,_,_⟩ hm;refine cd hm ?_ ?_<;>intro aU hm
 . refine qN ?_;have ay:=aj.nilO Q2y 132;exact re hm (ay.sE [1,2,0])
 refine pn ?_;have az:=aj.nilO Q2y 132;refine lpJ hm (fun ak o1 m a w8=>∃T8 O x2 a7 n1 c7 a8 c8,JR (nf 35) g T7 w7 a w8 T8 (X5 ak m (x2,O)=some o1) [(0,pt Y0 Z9),(3,.slice a7 n1 c7)] [J6 Q2y 132 (.slice a7 n1 c7) x2,Y7 R,Q1 a8 c8 Z5 O]/\Q8 a8 c8 T8 w8 O) (fun _ _ h=>je h (az.sE [0,1,2])) ?_;rintro ak aA o1 an _ _ w8 ⟨T8,O,x2,a7,n1,c7,a8,c8,⟨J,aB,rfl,aC,_⟩,h7⟩;obtain⟨m1,_,rfl,hm,ag⟩:=lrE aB aA;refine blk (qU ?_);refine cB cf55 hm (A6 (aC.bE [0,1] [2]) Z2 h7) ?_;rintro E _ _ _ _ ⟨rfl,aD,_⟩ hm;refine pu ?_;refine cP cf61 hm (F9 (aD.bE [0,1] [2]) Z2 (mC h7)) ?_ ?_
 . exact zk
 rintro D _ _ _ _ ⟨_,c9,rfl,aE,h8,_⟩ hm;refine pv (F0 (by kernel_rfl) rfl (u:= .agg #[iv E.Line,iv E.Col,qZs D.1.Word,qZs D.1.Name,iv D.1.Stars,qZs [],.slice none 0 0,.slice none 0 0,.bool false])) (aL zv4 aE ?_);intro _ _ _ aG;refine sT 0 aG ?_;intro _ _ aI;refine kA ?_;refine cP cf59 hm (P9 (aI.bE [0,1,2] [3]) Z2 (mC h8)) ?_ ?_
 . exact zk
 rintro y8 _ _ _ _ ⟨_,c10,rfl,aJ,h9,_⟩ hm;refine sT 0 aJ ?_;intro _ _ aM;refine kE ?_;refine bS (r:=Q2y) (l:=([(⟨E,D.1,y8.1,[],[],false⟩:M7)]:List M7)) (css:=[[iv E.Line,iv E.Col,Q23 D.1.Word.toArray,Q23 D.1.Name.toArray,iv D.1.Stars,Q23 y8.1.toArray,.slice none 0 0,.slice none 0 0,.bool false]]) aM ⟨(Y1a (x:=(⟨E,D.1,y8.1,[],[],false⟩:M7)) V0 V0:Q2y.rp _ _ _ _),qZt⟩ ?_;intro _ _ _ c11 _ aN;obtain⟨_,aP,hm⟩:=Z8 hm;refine aO 2 aN (U8 aP) ?_;intro _ _ _ c12 _ aQ;refine kA ?_;refine cB Z5k hm (V3 (aQ.bE [2,3] [4]) Z2 (mC h9)) ?_;rintro _ _ _ _ _ ⟨_,c13,rfl,ap,aR,_⟩ hm;refine cd hm ?_ ?_<;>intro aV hm
 . refine qU ?_;refine cP Z7e hm (V7 (ap.bE [0,1] [2]) Z2 aR) ?_ ?_
   . rintro e2 _ _ _ _ ⟨_,c15,rfl,aS,_,_⟩ hm;have hm:=Q1b hm ag an;exact pe hm (aS.sE [1,2])
   rintro _ _ _ _ _ ⟨_,c14,rfl,aT,_,_⟩ hm;refine kD ?_;have hm:=Q1b hm ag an;exact re hm (aT.sE [1,2,0])
 exact lg hm ag (ap.sE [0,1,2])

instance:Ct 63 @D6:=⟨@D6,cf63⟩
theorem Q7m{p0:Z0}(hS:Q39 a1 c1 Z5 T0 g w0 R p0)(Z2:Ln Y0 Z9 Z5)(h1:Q8 a1 c1 T0 w0 p0):∀r,Q1z p0=some r->
 Cl 131 #[pt Y0 Z9] w0 (exR r (fun r=>K6 T0 w0 (Q64 Z5 g R r.1 r.2)) (fun r=>H9 T0 w0 (Q4 Z5 g R r.1.pos r.1.e r.2 r.2.l))):=by
 intro r hm;refine eN Tryz.func131 Tryz.ntmps131 fun J=>?_;unfold Q1z at hm;exact zr hm hS

instance:Ct 131 @Q7m:=⟨@Q7m,cf131⟩
theorem W8{p0:Z0}{p1:List UInt8}(hS:Q39 a1 c1 Z5 T0 g w0 R p0)(Z2:Ln Y0 Z9 Z5)(h1:Q8 a1 c1 T0 w0 p0):∀r,I8 p0 p1=some r->
 Cl 134 #[pt Y0 Z9,Q23 p1.toArray] w0 (exR r (fun r=>K6 T0 w0 (Q46 Z5 g R r.2 r.1)) (fun r=>H9 T0 w0 (Q4 Z5 g R r.1.pos r.1.e r.2 r.2.l))):=by
 intro r hm;refine eN Tryz.func134 Tryz.ntmps134 fun J=>?_;unfold I8 at hm;refine qN ?_;refine sq2 (qU ?_);refine cB Z5k hm (V3 (hS.bE [0] [1]) Z2 h1) ?_;rintro _ _ _ _ _ ⟨_,c2,rfl,D,h2,_⟩ hm;refine cd hm ?_ ?_<;>intro V hm
 . refine qN ?_;have K:=D.nilO F8 208;exact re hm (K.sE [1,2,0])
 refine kA ?_;refine cP Y3m hm (O7 (D.bE [0] [1]) Z2 h2) ?_ ?_
 . exact zk
 rintro E _ _ _ _ ⟨O,c3,_,c4,rfl,U,_,_,_⟩ hm;have W:HL 1 F8 ([E.1]:List Y8) [(E4 E.1 O c3)]:=⟨qZt⟩;exact zr hm U

instance:Ct 134 @W8:=⟨@W8,cf134⟩
theorem Z0b{p0:Z0}{p1:E5}(hS:Sep g T0 w0 [Y7 R,Q1 a1 c1 Z5 p0,L4 (Z3x p1 a2 c2 a3 c3 a4 c4 a5 c5 a6 c6 a7 c7 a8 c8)])(Z2:Ln Y0 Z9 Z5)(h1:Q8 a1 c1 T0 w0 p0)(Z1d:Ln Q0f Q0e L4)(h2:Q10 a2 c2 T0 w0 p1.A)(h3:Q10 a3 c3 T0 w0 p1.B)(h4:Q10 a4 c4 T0 w0 p1.C)(h5:Q40 a5 c5 T0 w0 p1.Var)(h6:Q36 a6 c6 T0 w0 p1.Body)(h7:Q36 a7 c7 T0 w0 p1.Else)(h8:Q92 a8 c8 T0 w0 p1.Cases):∀r,Q6j p0 p1=some r->
 Cl 136 #[pt Y0 Z9,pt Q0f Q0e] w0 (exR r (fun r=>K6 T0 w0 fun T w v=>∃a25 c25 a26 c26 a27 c27 a28 c28 a29 c29 a30 c30 a31 c31 a32 c32,v= .tuple #[]/\Q59 a25 a26 a27 a28 a29 a30 a31 a32 c25 c26 c27 c28 c29 c30 c31 c32 Z5 L4 T g w R r.1 r.2) (fun r=>H9 T0 w0 fun T w v=>∃a25 c25 a26 c26 a27 c27 a28 c28 a29 c29 a30 c30 a31 c31 a32 c32,v= .iface 76 (Q26 r.1.pos r.1.e)/\Q59 a25 a26 a27 a28 a29 a30 a31 a32 c25 c26 c27 c28 c29 c30 c31 c32 Z5 L4 T g w R r.2.1 r.2.2)):=by
 intro r hm;refine eN Tryz.func136 Tryz.ntmps136 fun J=>?_;unfold Q6j at hm;refine blk (qU ?_);refine cB Z5k hm (V3 (hS.bE [0,2] [1]) Z2 h1) ?_;rintro _ _ _ _ _ ⟨_,c9,rfl,D,U,_⟩ hm;refine cd hm ?_ ?_<;>intro ac hm
 . exact zr hm D
 refine qU ?_;refine cB Z5k hm (V3 (D.bE [0,1] [2]) Z2 U) ?_;rintro _ _ _ _ _ ⟨_,c13,rfl,E,V,_⟩ hm;refine cd hm ?_ ?_<;>intro ad hm
 . exact zr hm E
 refine qU ?_;refine cB Z5k hm (V3 (E.bE [0,1] [2]) Z2 V) ?_;rintro _ _ _ _ _ ⟨_,c16,rfl,K,W,_⟩ hm;refine cd hm ?_ ?_<;>intro ae hm
 . exact zr hm K
 refine qU ?_;refine cP Y3m hm (O7 (K.bE [0,1] [2]) Z2 W) ?_ ?_
 . exact zk
 rintro O _ _ _ _ ⟨aa,c19,_,c20,rfl,ab,_,_,_⟩ hm;have af:HL 1 F8 ([O.1]:List Y8) [(E4 O.1 aa c19)]:=⟨qZt⟩;exact zr hm ab

instance:Ct 136 @Z0b:=⟨@Z0b,cf136⟩
def Q9a(F:Z0->Option (Except (Y3×Z0) ((List E5)×Z0))):Prop:=∀{g:World}{T0:TP}{w0:World}{R:List Y9}{p0:Z0}{Y0 Z9:Nat}{Z5:List Value->Y9}{a1 c1}(hS:Q39 a1 c1 Z5 T0 g w0 R p0)(Z2:Ln Y0 Z9 Z5)(h1:Q8 a1 c1 T0 w0 p0),∀r,F p0=some r->
 Cl 133 #[pt Y0 Z9] w0 (exR r (fun r=>K6 T0 w0 fun T w v=>∃a12 c12 a13 c13,v=sv a12 r.1 c12/\Sep g T w (R++[Q1 a13 c13 Z5 r.2])/\SlR Q7s T w (sv a12 r.1 c12) r.1/\Q8 a13 c13 T w r.2/\True) (fun r=>H9 T0 w0 (Q4 Z5 g R r.1.pos r.1.e r.2 r.2.l)))
def Q7x(F:Z0->Option (Except (Y3×Z0) ((List Q1e)×Z0))):Prop:=∀{g:World}{T0:TP}{w0:World}{R:List Y9}{p0:Z0}{Y0 Z9:Nat}{Z5:List Value->Y9}{a1 c1}(hS:Q39 a1 c1 Z5 T0 g w0 R p0)(Z2:Ln Y0 Z9 Z5)(h1:Q8 a1 c1 T0 w0 p0),∀r,F p0=some r->
 Cl 135 #[pt Y0 Z9] w0 (exR r (fun r=>K6 T0 w0 fun T w v=>∃a35 n11 c35 a36 c36,v= .slice a35 n11 c35/\Sep g T w (R++[Q1 a36 c36 Z5 r.2,J6 Z0t 274 (.slice a35 n11 c35) r.1])/\Q8 a36 c36 T w r.2/\True) (fun r=>H9 T0 w0 (Q4 Z5 g R r.1.pos r.1.e r.2 r.2.l)))
def Q8w(F:Z0->Option (Except (Y3×Z0) (E5×Z0))):Prop:=∀{g:World}{T0:TP}{w0:World}{R:List Y9}{p0:Z0}{Y0 Z9:Nat}{Z5:List Value->Y9}{a1 c1}(hS:Q39 a1 c1 Z5 T0 g w0 R p0)(Z2:Ln Y0 Z9 Z5)(h1:Q8 a1 c1 T0 w0 p0),∀r,F p0=some r->
 Cl 95 #[pt Y0 Z9] w0 (exR r (fun r=>K6 T0 w0 fun T w v=>∃a88 c88 a89 c89 a90 c90 a91 c91 a92 c92 a93 c93 a94 c94 a95 c95,v= .agg (Z3x r.1 a88 c88 a89 c89 a90 c90 a91 c91 a92 c92 a93 c93 a94 c94).toArray/\Sep g T w (R++[Q1 a95 c95 Z5 r.2])/\Q10 a88 c88 T w r.1.A/\Q10 a89 c89 T w r.1.B/\Q10 a90 c90 T w r.1.C/\Q40 a91 c91 T w r.1.Var/\Q36 a92 c92 T w r.1.Body/\Q36 a93 c93 T w r.1.Else/\Q92 a94 c94 T w r.1.Cases/\Q8 a95 c95 T w r.2/\True) (fun r=>H9 T0 w0 (Q4 Z5 g R r.1.pos r.1.e r.2 r.2.l)))
def Q7y(F:Z0->Option (Except (Y3×Z0) ((List E5)×Z0))):Prop:=∀{g:World}{T0:TP}{w0:World}{R:List Y9}{p0:Z0}{Y0 Z9:Nat}{Z5:List Value->Y9}{a1 c1}(hS:Q39 a1 c1 Z5 T0 g w0 R p0)(Z2:Ln Y0 Z9 Z5)(h1:Q8 a1 c1 T0 w0 p0),∀r,F p0=some r->
 Cl 64 #[pt Y0 Z9] w0 (exR r (fun r=>K6 T0 w0 fun T w v=>∃a18 n4 c18 a19 c19,v= .slice a18 n4 c18/\Sep g T w (R++[Q1 a19 c19 Z5 r.2,J6 Q7s 212 (.slice a18 n4 c18) r.1])/\Q8 a19 c19 T w r.2/\True) (fun r=>H9 T0 w0 (Q4 Z5 g R r.1.pos r.1.e r.2 r.2.l)))
structure Sp2(G:Rec2):Prop where
 G8:Q9a G.G8
 H7:Q7x G.H7
 F4:Q8w G.F4
 E6:Q7y G.E6
theorem Y2m{G:Rec2}(hG:Sp2 G):Q9a (Q4y G):=by
 intro g _ _ R _ Y0 Z9 Z5 a1 c1 hS Z2 h1 r hm;refine eN Tryz.func133 Tryz.ntmps133 fun J=>?_;unfold Q4y at hm;refine qN ?_;refine qU ?_;refine cP cf95 hm (hG.F4 (hS.bE [0] [1]) Z2 h1) ?_ ?_
 . exact zk
 rintro D _ _ _ _ ⟨E,c2,K,c3,O,c4,U,c5,V,c6,W,c7,a8,c8,_,c9,rfl,ab,h2,_,_,_,_,_,_,_,_⟩ hm;have ac:HL 1 Q7s ([D.1]:List E5) [(Z3x D.1 E c2 K c3 O c4 U c5 V c6 W c7 a8 c8)]:=⟨qZt⟩;exact zr hm ab
theorem Y0u{G:Rec2}(hG:Sp2 G):Q7x (Q3r G):=by
 intro g _ _ R _ Y0 Z9 Z5 a1 c1 hS Z2 h1 r hm;refine eN Tryz.func135 Tryz.ntmps135 fun J=>?_;unfold Q3r at hm;refine qN ?_;refine qN ?_;refine qU ?_;refine cP Z7e hm (V7 (hS.bE [0] [1]) Z2 h1) ?_ ?_
 . exact zk
 rintro _ _ T1 w1 _ ⟨_,c2,rfl,aK,h2,_⟩ hm;refine pn ?_;refine sq2 ?_;have aM:=aK.nilO Z0t 274;refine lpJ hm (fun av o1 m a w2=>∃T2 x2 V K O c3 a4 c4,JR (nf 57) g T1 w1 a w2 T2 (X5 av m (V,x2)=some o1) [(0,pt Y0 Z9),(3,.slice K O c3)] [J6 Z0t 274 (.slice K O c3) V,Y7 R,Q1 a4 c4 Z5 x2]/\Q8 a4 c4 T2 w2 x2) (fun _ _ h=>je h (aM.sE [0,1,2])) ?_;rintro av aN o1 aP _ _ w2 ⟨T2,x2,V,K,O,c3,a4,c4,⟨J,aQ,rfl,aR,_⟩,h3⟩;obtain⟨m1,z1,rfl,hm,af⟩:=lrE aQ aN;refine sq2 (qU ?_);refine cB Z5k hm (V3 (aR.bE [0,1] [2]) Z2 h3) ?_;rintro _ _ _ _ _ ⟨_,c5,rfl,ax,h4,_⟩ hm;refine cd hm ?_ ?_<;>intro b4 hm
 . refine pn ?_;refine blk (qU ?_);refine cB cf55 hm (A6 (ax.bE [0,1] [2]) Z2 h4) ?_;rintro y3 _ T4 _ _ ⟨rfl,aW,_⟩ hm;refine pv (F0 (by kernel_rfl) rfl (u:= .agg #[iv y3.Line,iv y3.Col,.bool false,.int .u32 0,.slice none 0 0])) (aL zv20 aW ?_);intro _ b1 _ aX;refine sT 0 aX ?_;intro w6 _ aZ;refine pn ?_;have a7:=aZ.nilO Q7s 212;refine M8 hm (fun az a w7=>∃T5 x5 U a6 c6,JR (nf 57) g T4 w6 a w7 T5 (az U x5=some z1) [(0,pt Y0 Z9),(3,.slice K O c3),(4,pt b1 0)] [J6 Q7s 212 (.slice none 0 0) U.Body,K0 b1 [iv U.Pos.Line,iv U.Pos.Col,.bool U.Default,.int .u32 U.Num,.slice none 0 0],J6 Z0t 274 (.slice K O c3) V,Y7 R,Q1 a6 c6 Z5 x5]/\Q8 a6 c6 T5 w7 x5) (fun az hm=>?_) ?_
   . exact zr hm a7
   rintro _ w7 ⟨T5,x5,U,a6,c6,⟨J,hm,rfl,a8,_⟩,h5⟩;refine qU ?_;refine cP Z7e hm (V7 (a8.bE (Z3 0 4) [4]) Z2 h5) ?_ ?_
   . exact zk
   rintro _ _ ba be _ ⟨_,c13,rfl,bf,_,_⟩ hm;refine kE ?_;refine lpJ hm (fun aA o2 m a aq=>∃ar W D E n2 c14 au c15,JR (nf 57) g ba be a aq ar (X5 aA m (D,W)=some o2) [(0,pt Y0 Z9),(3,.slice K O c3),(4,pt b1 0)] [J6 Q7s 212 (.slice E n2 c14) D.Body,K0 b1 [iv D.Pos.Line,iv D.Pos.Col,.bool D.Default,.int .u32 D.Num,.slice E n2 c14],J6 Z0t 274 (.slice K O c3) V,Y7 R,Q1 au c15 Z5 W]/\Q8 au c15 ar aq W) (fun _ _ h=>je h (bf.sN 0 5)) ?_;rintro aA bg o2 ai _ _ aq ⟨ar,W,D,E,n2,c14,au,c15,⟨J,bh,rfl,bi,_⟩,ab⟩;obtain⟨_,_,rfl,hm,ac⟩:=lrE bh bg;refine sq2 (qU ?_);refine cB cf56 hm (I1 (bi.bE (Z3 0 4) [4]) Z2 ab) ?_;rintro _ _ _ _ _ ⟨rfl,aC,_⟩ hm;refine pu ?_
   rcases bc hm with⟨bj,hm⟩|⟨bj,hm⟩
   . refine pu ?_;refine cB cf56 hm (I1 (aC.bE (Z3 0 4) [4]) Z2 (mC ab)) ?_;rintro _ _ _ _ _ ⟨rfl,aD,_⟩ hm;refine pu ?_
     rcases bc hm with⟨bk,hm⟩|⟨bk,hm⟩
     . refine pu ?_;refine cB cf56 hm (I1 (aD.bE (Z3 0 4) [4]) Z2 (mC ab)) ?_;rintro _ _ _ _ _ ⟨rfl,aE,_⟩ hm;refine cd hm ?_ ?_<;>intro b5 hm
       . refine pn ?_;refine blk (Z2w [0,1,0,2,2,2,0,2] [0,1,2,3,4,5,6,7] aE (R6 (U7 (R6 (U7 (R6 (U7 (R6 (U7 (C5))))))))) fun b6 b7 aF=>pu ?_);obtain⟨ad,aG,hm⟩:=Z8 hm
         rcases ad with e3|ad
         . have hm:=J8 hm;refine s2 [(1,.slice E n2 c14)] rfl qZt rfl (by kernel_rfl) (Z2d cf95 rfl (hG.F4 (p0:=W) (aF.bE (Z3 0 4) [4]) Z2 (mC ab) _ aG) rfl fun b8 b9 cc ce bl=>?_);obtain⟨_,c26,rfl,bm,_,_⟩:=bl;have hm:=Q1b hm ac ai;have hm:=Q1b hm af aP;exact pe hm (bm.sE [3,4])
         have hm:=C2 hm;refine sS [(1,.slice E n2 c14)] cf95 (hG.F4 (aF.bE (Z3 0 4) [4]) Z2 (mC ab) _ aG) ?_;rintro _ _ _ _ ⟨bn,c16,bo,c17,bp,c18,bq,c19,bt,c20,bu,c21,bv,c22,_,c23,rfl,bw,bz,bA,bB,bC,bD,bF,bG,_,_⟩;refine s2W [] ?_;refine obS (r:=Q7s) (l:=([ad.1]:List E5)) (css:=[(Z3x ad.1 bn c16 bo c17 bp c18 bq c19 bt c20 bu c21 bv c22)]) bw ⟨(Y7e (x:=ad.1) bz bA bB bC bD bF bG:Q7s.rp _ _ _ _),qZt⟩ ?_;intro _ _ _ c24 _ bI;refine pu ?_;obtain⟨_,bJ,hm⟩:=Z8 hm;refine s2W [0] ?_;refine oaO 1 bI (U8 bJ) ?_;intro _ _ _ c25 _ bK;refine s2W [] ?_;refine osT 2 bK ?_;intro _ _ bL;refine pu ?_;exact lg hm ac (bL.sN 1 5)
       have hm:=Q4m hm ac ai;refine pn ?_;obtain⟨_,_,bM,bN,rfl⟩:=aE.sl 0;refine bS (r:=Z0t) (l:=([D]:List Q1e)) (css:=[(X0w D E c14)]) bM ⟨(Y2b (x:=D) bN:Z0t.rp _ _ _ _),qZt⟩ ?_;intro _ _ _ c27 _ bO;obtain⟨_,bP,hm⟩:=Z8 hm;refine aO 3 bO (U8 bP) ?_;intro _ _ _ c28 _ bQ;exact lg hm af (bQ.sE [3,4,5])
     refine pn ?_;refine cnd (b:=false) rfl (fun h=>nomatch h) (fun _=>?_);have hm:=Q4m hm ac ai;refine pn ?_;obtain⟨_,_,bR,bT,rfl⟩:=aD.sl 0;refine bS (r:=Z0t) (l:=([D]:List Q1e)) (css:=[(X0w D E c14)]) bR ⟨(Y2b (x:=D) bT:Z0t.rp _ _ _ _),qZt⟩ ?_;intro _ _ _ c29 _ bU;obtain⟨_,bV,hm⟩:=Z8 hm;refine aO 3 bU (U8 bV) ?_;intro _ _ _ c30 _ bW;exact lg hm af (bW.sE [3,4,5])
   refine pn ?_;refine cnd (b:=false) rfl (fun h=>nomatch h) (fun _=>?_);have hm:=Q4m hm ac ai;refine pn ?_;obtain⟨_,_,bY,bZ,rfl⟩:=aC.sl 0;refine bS (r:=Z0t) (l:=([D]:List Q1e)) (css:=[(X0w D E c14)]) bY ⟨(Y2b (x:=D) bZ:Z0t.rp _ _ _ _),qZt⟩ ?_;intro _ _ _ c31 _ b0;obtain⟨_,b2,hm⟩:=Z8 hm;refine aO 3 b0 (U8 b2) ?_;intro _ _ _ _ _ b3;exact lg hm af (b3.sE [3,4,5])
 exact zr hm ax
theorem Y2j{G:Rec2}(hG:Sp2 G):Q8w (Q4u G):=by
 intro g _ _ R _ Y0 Z9 Z5 a1 c1 hS Z2 h1 r hm;refine Y7s Tryz.func95 rfl Tryz.ntmps95 rfl fun J=>?_;unfold Q4u at hm;refine sq2 (aL zv11 hS ?_);intro _ V _ aC;refine kA ?_;refine cP X2t hm (O5 (aC.bE [0,1] [2]) Z2 (mC h1)) ?_ ?_
 . rintro _ _ _ _ _ ⟨_,_,rfl,aD,_,_⟩ hm;exact pe hm (aD.sE [1,2])
 rintro _ _ _ _ _ ⟨D,_,c2,rfl,aE,h2,_⟩ hm;refine wl rfl (dfO (f:=169) (cap:=#[pt D 0]) rfl (pn ?_));refine qU ?_;refine cB cf55 hm (A6 (aE.bE [0,1,3] [2]) Z2 h2) ?_;rintro y2 _ T2 _ _ ⟨rfl,aG,_⟩ hm;refine pv (F0 (by kernel_rfl) rfl (u:= .agg #[iv 0,iv y2.Line,iv y2.Col,.slice none 0 0,.slice none 0 0,.slice none 0 0,.slice none 0 0,.slice none 0 0,.slice none 0 0,.slice none 0 0])) (aL zv11 aG ?_);intro _ U _ aI;refine sT 0 aI ?_;intro w5 _ aK;refine pn ?_;refine M8 hm (fun aj a E=>∃K W O a3 c3 a4 c4 a5 c5 a6 c6 a7 c7 a8 c8 a9 c9 ah c10,JR (⟨98,[⟨.fn (.func 169) #[pt D 0],#[]⟩]⟩) g T2 w5 a E K (aj O W=some r) [(2,pt V 0),(3,pt U 0)] [K0 U (Z3x O a3 c3 a4 c4 a5 c5 a6 c6 a7 c7 a8 c8 a9 c9),K0 V zv11,Y7 R,K0 D [pt Y0 Z9],Q1 ah c10 Z5 W]/\Q10 a3 c3 K E O.A/\Q10 a4 c4 K E O.B/\Q10 a5 c5 K E O.C/\Q40 a6 c6 K E O.Var/\Q36 a7 c7 K E O.Body/\Q36 a8 c8 K E O.Else/\Q92 a9 c9 K E O.Cases/\Q8 ah c10 K E W) (fun aj hm=>?_) ?_
 . refine blk (qU ?_);refine cB cf93 hm (Z0a (aK.bE (Z3 0 4) [4]) Z2 (mC h2)) ?_;rintro _ _ _ _ _ ⟨rfl,ak,_⟩ hm;refine cd hm ?_ ?_<;>intro dh hm
   . refine pu ?_;refine cP cf131 hm (Q7m (ak.bE (Z3 0 4) [4]) Z2 (mC h2)) ?_ ?_
     . rintro e1 _ T7 _ _ ⟨_,c15,rfl,aM,_,_⟩ hm;refine pn ?_;refine Q6v Q0u (L2 (args:=[pt D 0]) Tryz.func169 rfl Tryz.ntmps169 rfl rfl fun J=>sB 4 3 Z2 aM ?_);intro _ _ aN;exact pe hm (aN.sE [2,4])
     rintro y4 _ _ _ _ ⟨aP,c11,aQ,c12,_,c13,rfl,aR,_,_,_,_⟩ hm;have di:HL 1 Q2y ([y4.1]:List M7) [(Y1z y4.1 aP c11 aQ c12)]:=⟨qZt⟩;exact zr hm aR
   refine qU ?_;refine cB cf56 hm (I1 (ak.bE (Z3 0 4) [4]) Z2 (mC h2)) ?_;rintro _ _ _ _ _ ⟨rfl,an,_⟩ hm;refine cd hm ?_ ?_<;>intro dj hm
   . refine pu ?_;refine cP cf64 hm (hG.E6 (an.bE (Z3 0 4) [4]) Z2 (mC h2)) ?_ ?_
     . rintro e2 _ _ _ _ ⟨_,c18,rfl,aS,_,_⟩ hm;refine pn ?_;refine Q6v Q0u (L2 (args:=[pt D 0]) Tryz.func169 rfl Tryz.ntmps169 rfl rfl fun J=>sB 4 3 Z2 aS ?_);intro _ _ aT;exact pe hm (aT.sE [2,4])
     rintro _ _ _ _ _ ⟨_,_,c16,_,c17,rfl,aU,_,_⟩ hm;refine sT 0 aU ?_;intro _ _ aV;refine sT 0 aV ?_;intro _ _ aW;obtain⟨_,_,aX,_,rfl⟩:=aW.sl 5;exact je hm (aX.sN 0 5)
   refine qU ?_;refine cB Z5k hm (V3 (an.bE (Z3 0 4) [4]) Z2 (mC h2)) ?_;rintro _ _ _ _ _ ⟨_,c19,rfl,ao,aY,_⟩ hm;refine cd hm ?_ ?_<;>intro dk hm
   . refine sT 0 ao ?_;intro _ _ aZ;exact je hm (aZ.sN 0 5)
   refine qU ?_;refine cB Z5k hm (V3 (ao.bE (Z3 0 4) [4]) Z2 aY) ?_;rintro _ _ _ _ _ ⟨_,c20,rfl,ap,aq,_⟩ hm;refine cd hm ?_ ?_<;>intro dl hm
   . refine qU ?_;refine cP X2s hm (Q1f (ap.bE (Z3 0 4) [4]) Z2 aq) ?_ ?_
     . rintro _ _ _ _ _ ⟨_,c30,rfl,ba,_,_⟩ hm;refine pn ?_;refine Q6v Q0u (L2 (args:=[pt D 0]) Tryz.func169 rfl Tryz.ntmps169 rfl rfl fun J=>sB 4 3 Z2 ba ?_);intro _ _ be;exact pe hm (be.sE [2,4])
     rintro _ _ _ _ _ ⟨_,_,c21,_,c22,rfl,bf,bg,_⟩ hm;refine sT 0 bf ?_;intro _ _ bh;refine sT 0 bh ?_;intro _ _ bi;refine kA ?_;refine cP X2r hm (hG.G8 (bi.bE [0,1,2,3,5] [4]) Z2 (mC bg)) ?_ ?_
     . rintro e4 _ _ _ _ ⟨_,c29,rfl,bj,_,_⟩ hm;refine pn ?_;refine Q6v Q0u (L2 (args:=[pt D 0]) Tryz.func169 rfl Tryz.ntmps169 rfl rfl fun J=>sB 5 3 Z2 bj ?_);intro _ _ bk;exact pe hm (bk.sE [2,5])
     rintro _ _ _ _ _ ⟨_,c23,_,c24,rfl,bl,_,bm,_⟩ hm;refine sT 0 bl ?_;intro _ _ bn;refine kA ?_;refine cB Z5k hm (V3 (bn.bE (Z3 0 5) [5]) Z2 (mC bm)) ?_;rintro bo _ _ _ _ ⟨_,c25,rfl,ar,bp,_⟩ hm;refine nil (K7 [(0,pt Y0 Z9),(2,pt V 0),(3,pt U 0),(41,.bool bo.1)] ⟨rfl,rfl,rfl,rfl,qZt⟩ fun J=>?_);refine cd hm ?_ ?_<;>intro dm hm
     . refine pu ?_;refine cP X2r hm (hG.G8 (ar.bE (Z3 0 5) [5]) Z2 bp) ?_ ?_
       . rintro e3 _ _ _ _ ⟨_,c28,rfl,bq,_,_⟩ hm;refine pn ?_;refine Q6v Q0u (L2 (args:=[pt D 0]) Tryz.func169 rfl Tryz.ntmps169 rfl rfl fun J=>sB 5 3 Z2 bq ?_);intro _ _ bt;exact pe hm (bt.sE [2,5])
       rintro _ _ _ _ _ ⟨_,c26,_,c27,rfl,bu,_,_,_⟩ hm;refine sT 0 bu ?_;intro _ _ bv;obtain⟨_,_,bw,_,rfl⟩:=bv.sl 4;exact je hm (bw.sE [0,1,2,3,5])
     obtain⟨_,_,bz,_,rfl⟩:=ar.sl 4;exact je hm (bz.sE [0,1,2,3,5])
   refine qU ?_;refine cB Z5k hm (V3 (ap.bE (Z3 0 4) [4]) Z2 aq) ?_;rintro _ _ _ _ _ ⟨_,c31,rfl,au,av,_⟩ hm;refine cd hm ?_ ?_<;>intro dn hm
   . refine qU ?_;refine cP X2s hm (Q1f (au.bE (Z3 0 4) [4]) Z2 av) ?_ ?_
     . rintro _ _ _ _ _ ⟨_,_,rfl,bA,_,_⟩ hm;refine pn ?_;refine Q6v Q0u (L2 (args:=[pt D 0]) Tryz.func169 rfl Tryz.ntmps169 rfl rfl fun J=>sB 4 3 Z2 bA ?_);intro _ _ bB;exact pe hm (bB.sE [2,4])
     rintro _ _ _ _ _ ⟨_,_,_,_,_,rfl,bC,bD,_⟩ hm;refine sT 0 bC ?_;intro _ _ bF;refine sT 0 bF ?_;intro _ _ bG;refine pn ?_;refine cP X2r hm (hG.G8 (bG.bE [0,1,2,3,5] [4]) Z2 (mC bD)) ?_ ?_
     . rintro _ _ _ _ _ ⟨_,_,rfl,bI,_,_⟩ hm;refine pn ?_;refine Q6v Q0u (L2 (args:=[pt D 0]) Tryz.func169 rfl Tryz.ntmps169 rfl rfl fun J=>sB 5 3 Z2 bI ?_);intro _ _ bJ;exact pe hm (bJ.sE [2,5])
     rintro _ _ _ _ _ ⟨_,_,_,_,rfl,bK,_,_,_⟩ hm;refine sT 0 bK ?_;intro _ _ bL;obtain⟨_,_,bM,_,rfl⟩:=bL.sl 4;exact je hm (bM.sE [0,1,2,3,5])
   refine qU ?_;refine cB Z5k hm (V3 (au.bE (Z3 0 4) [4]) Z2 av) ?_;rintro _ _ _ _ _ ⟨_,_,rfl,aw,ax,_⟩ hm;refine cd hm ?_ ?_<;>intro dp hm
   . refine qU ?_;refine cP X2r hm (hG.G8 (aw.bE (Z3 0 4) [4]) Z2 ax) ?_ ?_
     . rintro _ _ _ _ _ ⟨_,_,rfl,bN,_,_⟩ hm;refine pn ?_;refine Q6v Q0u (L2 (args:=[pt D 0]) Tryz.func169 rfl Tryz.ntmps169 rfl rfl fun J=>sB 4 3 Z2 bN ?_);intro _ _ bO;exact pe hm (bO.sE [2,4])
     rintro _ _ _ _ _ ⟨_,_,_,_,rfl,bP,_,bQ,_⟩ hm;refine sT 0 bP ?_;intro _ _ bR;refine sT 0 bR ?_;intro _ _ bT;refine nil (K7 [(0,pt Y0 Z9),(2,pt V 0),(3,pt U 0)] ⟨rfl,rfl,rfl,qZt⟩ fun J=>qU ?_);refine cP Z7e hm (V7 (bT.bE (Z3 0 4) [4]) Z2 (mC bQ)) ?_ ?_
     . rintro _ _ _ _ _ ⟨_,_,rfl,bU,_,_⟩ hm;refine pn ?_;refine Q6v Q0u (L2 (args:=[pt D 0]) Tryz.func169 rfl Tryz.ntmps169 rfl rfl fun J=>sB 4 3 Z2 bU ?_);intro _ _ bV;exact pe hm (bV.sE [2,4])
     rintro _ _ _ _ _ ⟨_,_,rfl,bW,bY,_⟩ hm;refine kA ?_;refine cP X2s hm (Q1f (bW.bE (Z3 0 4) [4]) Z2 bY) ?_ ?_
     . rintro _ _ _ _ _ ⟨_,_,rfl,bZ,_,_⟩ hm;refine pn ?_;refine Q6v Q0u (L2 (args:=[pt D 0]) Tryz.func169 rfl Tryz.ntmps169 rfl rfl fun J=>sB 4 3 Z2 bZ ?_);intro _ _ b0;exact pe hm (b0.sE [2,4])
     rintro _ _ _ _ _ ⟨_,_,_,_,_,rfl,b4,b5,_⟩ hm;refine sT 0 b4 ?_;intro _ _ b6;refine pn ?_;refine cP Z7e hm (V7 (b6.bE [0,1,2,3,5] [4]) Z2 (mC b5)) ?_ ?_
     . rintro _ _ _ _ _ ⟨_,_,rfl,b7,_,_⟩ hm;refine pn ?_;refine Q6v Q0u (L2 (args:=[pt D 0]) Tryz.func169 rfl Tryz.ntmps169 rfl rfl fun J=>sB 5 3 Z2 b7 ?_);intro _ _ b8;exact pe hm (b8.sE [2,5])
     rintro _ _ _ _ _ ⟨_,_,rfl,b9,_,_⟩ hm;obtain⟨_,_,cc,_,rfl⟩:=b9.sl 4;exact je hm (cc.sE [0,1,2,3,5])
   refine qU ?_;refine cB Z5k hm (V3 (aw.bE (Z3 0 4) [4]) Z2 ax) ?_;rintro ce _ _ _ _ ⟨_,_,rfl,ay,az,_⟩ hm;refine pu ?_;refine nil (K7 [(0,pt Y0 Z9),(2,pt V 0),(3,pt U 0),(69,.bool ce.1)] ⟨rfl,rfl,rfl,rfl,qZt⟩ fun J=>?_);refine cd hm ?_ ?_<;>intro dq hm
   . refine sq2 (sT 0 ay ?_);intro w64 _ cf;refine kA ?_;refine cP Z7e hm (V7 (cf.bE (Z3 0 4) [4]) Z2 (mC az)) ?_ ?_
     . rintro _ _ _ _ _ ⟨_,_,rfl,cg,_,_⟩ hm;refine pn ?_;refine Q6v Q0u (L2 (args:=[pt D 0]) Tryz.func169 rfl Tryz.ntmps169 rfl rfl fun J=>sB 4 3 Z2 cg ?_);intro _ _ ci;exact pe hm (ci.sE [2,4])
     rintro _ _ _ _ _ ⟨_,_,rfl,cj,ck,_⟩ hm;refine kA ?_;refine cP cf134 hm (W8 (cj.bE (Z3 0 4) [4]) Z2 ck) ?_ ?_
     . rintro _ _ _ _ _ ⟨_,_,rfl,cl,_,_⟩ hm;refine pn ?_;refine Q6v Q0u (L2 (args:=[pt D 0]) Tryz.func169 rfl Tryz.ntmps169 rfl rfl fun J=>sB 4 3 Z2 cl ?_);intro _ _ cm;exact pe hm (cm.sE [2,4])
     rintro _ _ _ _ _ ⟨_,_,_,_,_,rfl,cn,co,_⟩ hm;refine pu ?_;refine cP cf134 hm (W8 (cn.bE [0,1,2,3,5] [4]) Z2 co) ?_ ?_
     . rintro _ _ _ _ _ ⟨_,_,rfl,cp,_,_⟩ hm;refine pn ?_;refine Q6v Q0u (L2 (args:=[pt D 0]) Tryz.func169 rfl Tryz.ntmps169 rfl rfl fun J=>sB 5 3 Z2 cp ?_);intro _ _ cq;exact pe hm (cq.sE [2,5])
     rintro _ _ _ _ _ ⟨_,_,_,_,_,rfl,cr,ct,_⟩ hm;refine pu ?_;refine cP cf134 hm (W8 (cr.bE (Z3 0 5++[6]) [5]) Z2 ct) ?_ ?_
     . rintro _ _ _ _ _ ⟨_,_,rfl,cu,_,_⟩ hm;refine pn ?_;refine Q6v Q0u (L2 (args:=[pt D 0]) Tryz.func169 rfl Tryz.ntmps169 rfl rfl fun J=>sB 6 3 Z2 cu ?_);intro _ _ cv;exact pe hm (cv.sE [2,6])
     rintro _ _ _ _ _ ⟨_,_,_,_,_,rfl,cw,cy,_⟩ hm;refine sT 0 cw ?_;intro _ _ cz;refine sT 0 cz ?_;intro _ _ cA;refine sT 0 cA ?_;intro _ _ cC;refine pn ?_;refine cP X2r hm (hG.G8 (cC.bE (Z3 0 6++[7]) [6]) Z2 (mC cy)) ?_ ?_
     . rintro _ _ _ _ _ ⟨_,_,rfl,cD,_,_⟩ hm;refine pn ?_;refine Q6v Q0u (L2 (args:=[pt D 0]) Tryz.func169 rfl Tryz.ntmps169 rfl rfl fun J=>sB 7 3 Z2 cD ?_);intro _ _ cE;exact pe hm (cE.sE [2,7])
     rintro _ _ _ _ _ ⟨_,_,_,_,rfl,cF,_,_,_⟩ hm;refine sT 0 cF ?_;intro _ _ cG;obtain⟨_,_,cI,_,rfl⟩:=cG.sl 4;obtain⟨_,_,cJ,_,rfl⟩:=cI.sl 5;obtain⟨_,_,cK,_,rfl⟩:=cJ.sl 6;exact je hm (cK.sE [0,1,2,3,7])
   refine qU ?_;refine cB Z5k hm (V3 (ay.bE (Z3 0 4) [4]) Z2 az) ?_;rintro _ _ _ _ _ ⟨_,_,rfl,aA,aB,_⟩ hm;refine cd hm ?_ ?_<;>intro dr hm
   . refine qU ?_;refine cP X2s hm (Q1f (aA.bE (Z3 0 4) [4]) Z2 aB) ?_ ?_
     . rintro _ _ _ _ _ ⟨_,_,rfl,cL,_,_⟩ hm;refine pn ?_;refine Q6v Q0u (L2 (args:=[pt D 0]) Tryz.func169 rfl Tryz.ntmps169 rfl rfl fun J=>sB 4 3 Z2 cL ?_);intro _ _ cM;exact pe hm (cM.sE [2,4])
     rintro _ _ _ _ _ ⟨_,_,_,_,_,rfl,cO,cQ,_⟩ hm;refine sT 0 cO ?_;intro _ _ cR;refine sT 0 cR ?_;intro _ _ cT;refine pn ?_;refine cP cf135 hm (hG.H7 (cT.bE [0,1,2,3,5] [4]) Z2 (mC cQ)) ?_ ?_
     . rintro _ _ _ _ _ ⟨_,_,rfl,cU,_,_⟩ hm;refine pn ?_;refine Q6v Q0u (L2 (args:=[pt D 0]) Tryz.func169 rfl Tryz.ntmps169 rfl rfl fun J=>sB 5 3 Z2 cU ?_);intro _ _ cV;exact pe hm (cV.sE [2,5])
     rintro _ _ _ _ _ ⟨_,_,_,_,_,rfl,cW,_,_⟩ hm;refine sT 0 cW ?_;intro _ _ cX;obtain⟨_,_,cY,_,rfl⟩:=cX.sl 4;obtain⟨_,_,cZ,_,rfl⟩:=cY.sl 6;exact je hm (cZ.sE [0,1,2,3,5])
   refine pu ?_;refine cP cf136 hm (Z0b (aA.bE [1,2,3] [4,0]) Z2 aB (Q3w U) V0 V0 V0 V0 V0 V0 V0) ?_ ?_
   . rintro _ _ _ _ _ ⟨_,_,_,_,_,_,_,_,_,_,_,_,_,_,_,_,rfl,da,_,_,_,_,_,_,_,_,_⟩ hm;refine pn ?_;refine Q6v Q0u (L2 (args:=[pt D 0]) Tryz.func169 rfl Tryz.ntmps169 rfl rfl fun J=>sB 3 3 Z2 da ?_);intro _ _ db;exact pe hm (db.sE [1,3])
   rintro _ _ _ _ _ ⟨_,_,_,_,_,_,_,_,_,_,_,_,_,_,_,_,rfl,dc,_,_,_,_,_,_,_,_,_⟩ hm;exact je hm (dc.sE [4,0,1,2,3])
 rintro _ E ⟨K,W,O,a3,c3,a4,c4,a5,c5,a6,c6,a7,c7,a8,c8,a9,c9,ah,c10,⟨J,hm,rfl,dd,_⟩,_,_,_,_,_,_,_,_⟩;refine sq2 (sT 1 dd ?_);intro _ _ de;refine pn ?_;refine pn ?_;refine retD Q0u (L2 (args:=[pt D 0]) Tryz.func169 rfl Tryz.ntmps169 rfl rfl fun J=>sB 4 3 Z2 de ?_);intro _ _ dg;exact eo hm (dg.sE [2,4])
theorem Y0v{G:Rec2}(hG:Sp2 G):Q7y (Q3s G):=by
 intro g _ _ R _ Y0 Z9 Z5 a1 c1 hS Z2 h1 r hm;refine eN Tryz.func64 Tryz.ntmps64 fun J=>?_;unfold Q3s at hm;refine qN ?_;refine qN ?_;refine qU ?_;refine cP Z7e hm (V7 (hS.bE [0] [1]) Z2 h1) ?_ ?_
 . exact zk
 rintro _ _ T1 w1 _ ⟨_,c2,rfl,ag,h2,_⟩ hm;refine pn ?_;refine sq2 ?_;have ah:=ag.nilO Q7s 212;refine lpJ hm (fun ab o1 m a E=>∃K D O U V c3 W c4,JR (nf 15) g T1 w1 a E K (X5 ab m (O,D)=some o1) [(0,pt Y0 Z9),(3,.slice U V c3)] [J6 Q7s 212 (.slice U V c3) O,Y7 R,Q1 W c4 Z5 D]/\Q8 W c4 K E D) (fun _ _ h=>je h (ah.sE [0,1,2])) ?_;rintro ab ai o1 _ _ _ E ⟨K,D,O,U,V,c3,W,c4,⟨J,aj,rfl,ak,_⟩,h3⟩;obtain⟨m1,_,rfl,hm,an⟩:=lrE aj ai;refine sq2 (qU ?_);refine cB Z5k hm (V3 (ak.bE [0,1] [2]) Z2 h3) ?_;rintro _ _ _ _ _ ⟨_,c5,rfl,ad,h4,_⟩ hm;refine cd hm ?_ ?_<;>intro aK hm
 . refine pn ?_;refine blk (pu ?_);refine cP cf95 hm (hG.F4 (ad.bE [0,1] [2]) Z2 h4) ?_ ?_
   . exact zk
   rintro y3 _ _ _ _ ⟨a6,c6,a7,c7,a8,c8,a9,c9,av,c10,aw,c11,ax,c12,_,c13,rfl,ay,h5,h6,h7,h8,h9,aE,aF,_,_⟩ hm;refine bS (r:=Q7s) (l:=([y3.1]:List E5)) (css:=[(Z3x y3.1 a6 c6 a7 c7 a8 c8 a9 c9 av c10 aw c11 ax c12)]) ay ⟨(Y7e (x:=y3.1) h5 h6 h7 h8 h9 aE aF:Q7s.rp _ _ _ _),qZt⟩ ?_;intro _ _ _ c14 _ aG;obtain⟨_,aI,hm⟩:=Z8 hm;refine aO 1 aG (U8 aI) ?_;intro _ _ _ c15 _ aJ;exact lg hm an (aJ.sE [1,2,3])
 exact zr hm ad
theorem sp2:∀n,Sp2 (Z5w n)
 |0=>⟨(by unfold Q9a;intros;rename_i h;cases(show(none:Option _)=some _ from h)),(by unfold Q7x;intros;rename_i h;cases(show(none:Option _)=some _ from h)),(by unfold Q8w;intros;rename_i h;cases(show(none:Option _)=some _ from h)),(by unfold Q7y;intros;rename_i h;cases(show(none:Option _)=some _ from h))⟩
 |n+1=>⟨Y2m (sp2 n),Y0u (sp2 n),Y2j (sp2 n),Y0v (sp2 n)⟩
theorem X1o:Q9a G8:=(sp2 NN).G8
theorem X1g:Q7x H7:=(sp2 NN).H7
theorem X1l:Q8w F4:=(sp2 NN).F4
theorem Z3v:Q7y E6:=(sp2 NN).E6
end Go.Proofs.YtbfpdnogfkbiaaaGreat
