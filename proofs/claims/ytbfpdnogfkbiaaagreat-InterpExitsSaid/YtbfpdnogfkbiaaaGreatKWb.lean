/- That Go functions compute their models. Printed by gen2.py. -/
import Derived.Test.YtbfpdnogfkbiaaaGreatKWa
set_option linter.unusedVariables false
namespace Go.Proofs.YtbfpdnogfkbiaaaGreat
open _root_.Go.Proofs.Tryz
set_option maxRecDepth 100000
set_option maxHeartbeats 8000000
attribute [local irreducible] wpList wpQuiet Code.wp
variable {g:World} {T0:Nat→Prop} {w0:World} {R:List Y9}
variable {b1 b2 Z9 Q0l Z8t Z8s Z9v c1 c2 c3 c4 c5 c6 c7 c8 c9 c10 c11 c12 c13 n1 n2 n3 n4 n5 n6 n7 Z8 Q0k Z7z Z7y Z9i oo1 oo2:Nat} {H1 H2 Z5 H6 Z5w Z5v Z8v:List Value→Y9} {a1 a2 a3 a4 a5 a6 a7 a8 a9 a10 a11 a12 a13:OA} {r1 r2:Option Nat} {pv1:Value}
attribute [local irreducible] N2 S0 execOp Program.underlying sizeOf isAgg zeroValue

def Q2l (F:Z0→Option (Except (Y2×Z0) ((List Y7)×Z0))):Prop := ∀ {g:World} {T0:TP} {w0:World} {R:List Y9} {p0:Z0} {Z9 Z8:Nat} {Z5:List Value→Y9} {a1 c1} (hS:Q38 a1 c1 Z5 T0 g w0 R p0) (Z3:Ln Z9 Z8 Z5) (h1:Q8 a1 c1 T0 w0 p0),∀ r,F p0=some r →
    Cl 132 #[pt Z9 Z8] w0 (exR r (fun r=>K2 T0 w0 (Q45 Z5 g R r.2 r.1)) (fun r=>C7 T0 w0 (Q4 Z5 g R r.1.pos r.1.e r.2 r.2.l)))
def Q6b (F:Z0→Option (Except (Y2×Z0) ((List Y7)×Z0))):Prop := ∀ {g:World} {T0:TP} {w0:World} {R:List Y9} {p0:Z0} {Z9 Z8:Nat} {Z5:List Value→Y9} {a1 c1} (hS:Q38 a1 c1 Z5 T0 g w0 R p0) (Z3:Ln Z9 Z8 Z5) (h1:Q8 a1 c1 T0 w0 p0),∀ r,F p0=some r →
    Cl 216 #[pt Z9 Z8] w0 (exR r (fun r=>K2 T0 w0 (Q45 Z5 g R r.2 r.1)) (fun r=>C7 T0 w0 (Q4 Z5 g R r.1.pos r.1.e r.2 r.2.l)))
def Q7o (F:Z0→Option (Except (Y2×Z0) (Y7×Z0))):Prop := ∀ {g:World} {T0:TP} {w0:World} {R:List Y9} {p0:Z0} {Z9 Z8:Nat} {Z5:List Value→Y9} {a1 c1} (hS:Q38 a1 c1 Z5 T0 g w0 R p0) (Z3:Ln Z9 Z8 Z5) (h1:Q8 a1 c1 T0 w0 p0),∀ r,F p0=some r →
    Cl 214 #[pt Z9 Z8] w0 (exR r (fun r=>K2 T0 w0 (Q19 Z5 g R r.1 r.2 r.1.Kids)) (fun r=>C7 T0 w0 (Q4 Z5 g R r.1.pos r.1.e r.2 r.2.l)))
def Q8n (F:Z0→Option (Except (Y2×Z0) (Y7×Z0))):Prop := ∀ {g:World} {T0:TP} {w0:World} {R:List Y9} {p0:Z0} {Z9 Z8:Nat} {Z5:List Value→Y9} {a1 c1} (hS:Q38 a1 c1 Z5 T0 g w0 R p0) (Z3:Ln Z9 Z8 Z5) (h1:Q8 a1 c1 T0 w0 p0),∀ r,F p0=some r →
    Cl 209 #[pt Z9 Z8] w0 (exR r (fun r=>K2 T0 w0 (Q19 Z5 g R r.1 r.2 r.1.Kids)) (fun r=>C7 T0 w0 (Q4 Z5 g R r.1.pos r.1.e r.2 r.2.l)))
def Q7m (F:Z0→Option (Except (Y2×Z0) (Y7×Z0))):Prop := ∀ {g:World} {T0:TP} {w0:World} {R:List Y9} {p0:Z0} {Z9 Z8:Nat} {Z5:List Value→Y9} {a1 c1} (hS:Q38 a1 c1 Z5 T0 g w0 R p0) (Z3:Ln Z9 Z8 Z5) (h1:Q8 a1 c1 T0 w0 p0),∀ r,F p0=some r →
    Cl 191 #[pt Z9 Z8] w0 (exR r (fun r=>K2 T0 w0 (Q19 Z5 g R r.1 r.2 r.1.Kids)) (fun r=>C7 T0 w0 (Q4 Z5 g R r.1.pos r.1.e r.2 r.2.l)))
def Q6d (F:Z0→Int→Option (Except (Y2×Z0) (Y7×Z0))):Prop := ∀ {g:World} {T0:TP} {w0:World} {R:List Y9} {p0:Z0} {Z9 Z8:Nat} {Z5:List Value→Y9} {a1 c1 p1} (hS:Q38 a1 c1 Z5 T0 g w0 R p0) (Z3:Ln Z9 Z8 Z5) (h1:Q8 a1 c1 T0 w0 p0),∀ r,F p0 p1=some r →
    Cl 170 #[pt Z9 Z8,iv p1] w0 (exR r (fun r=>K2 T0 w0 (Q19 Z5 g R r.1 r.2 r.1.Kids)) (fun r=>C7 T0 w0 (Q4 Z5 g R r.1.pos r.1.e r.2 r.2.l)))
def Q8p (F:Z0→Option (Except (Y2×Z0) (Y7×Z0))):Prop := ∀ {g:World} {T0:TP} {w0:World} {R:List Y9} {p0:Z0} {Z9 Z8:Nat} {Z5:List Value→Y9} {a1 c1} (hS:Q38 a1 c1 Z5 T0 g w0 R p0) (Z3:Ln Z9 Z8 Z5) (h1:Q8 a1 c1 T0 w0 p0),∀ r,F p0=some r →
    Cl 127 #[pt Z9 Z8] w0 (exR r (fun r=>K2 T0 w0 (Q19 Z5 g R r.1 r.2 r.1.Kids)) (fun r=>C7 T0 w0 (Q4 Z5 g R r.1.pos r.1.e r.2 r.2.l)))
def Q6e (F:Z0→Option (Except (Y2×Z0) (Y7×Z0))):Prop := ∀ {g:World} {T0:TP} {w0:World} {R:List Y9} {p0:Z0} {Z9 Z8:Nat} {Z5:List Value→Y9} {a1 c1} (hS:Q38 a1 c1 Z5 T0 g w0 R p0) (Z3:Ln Z9 Z8 Z5) (h1:Q8 a1 c1 T0 w0 p0),∀ r,F p0=some r →
    Cl 94 #[pt Z9 Z8] w0 (exR r (fun r=>K2 T0 w0 (Q19 Z5 g R r.1 r.2 r.1.Kids)) (fun r=>C7 T0 w0 (Q4 Z5 g R r.1.pos r.1.e r.2 r.2.l)))
structure Sp1 (G:Z9x):Prop where
  K6:Q2l G.K6
  F8:Q6b G.F8
  C4:Q7o G.C4
  C0:Q8n G.C0
  F2:Q7m G.F2
  F9:Q6d G.F9
  P0:Q8p G.P0
  X8:Q6e G.X8
theorem Z6j {G:Z9x} (hG:Sp1 G):Q2l (R5 G):=by
  intro g _ _ R _ Z9 Z8 Z5 a1 c1 hS Z3 h1 r hm;refine enter func132 rfl ntmps132 rfl fun J => ?_;unfold R5 at hm;refine qN ?_;refine qU ?_;refine cP Z6q hm (V2 (hS.bE [0] [1]) Z3 h1) ?_ ?_
  · exact zk
  rintro _ _ _ _ _ ⟨_,c2,rfl,E,h2,_⟩ hm;refine kA ?_;refine cP Y2x hm (hG.X8 (E.bE [0] [1]) Z3 h2) ?_ ?_
  · exact zk
  rintro D _ _ _ _ ⟨I,c3,_,c4,rfl,K,_,_,_⟩ hm;have O:HL 1 F0 ([D.1]:List Y7) [(F5 D.1 I c3)]:=⟨qZt⟩;exact zr hm K
theorem Z9f {G:Z9x} (hG:Sp1 G):Q6b (Q1o G):=by
  intro g _ _ R _ Z9 Z8 Z5 a1 c1 hS Z3 h1 r hm;refine enter func216 rfl ntmps216 rfl fun J => ?_;unfold Q1o at hm;refine qN ?_;refine qU ?_;refine cP Z6q hm (V2 (hS.bE [0] [1]) Z3 h1) ?_ ?_
  · exact zk
  rintro _ _ _ _ _ ⟨_,c2,rfl,af,h2,_⟩ hm;refine kB ?_;refine cB Z5a hm (V0 (af.bE [0] [1]) Z3 h2) ?_;rintro _ _ _ _ _ ⟨_,c3,rfl,ab,h3,_⟩ hm;refine cd hm ?_ ?_ <;> intro aD hm
  · refine qN ?_;have ah:=ab.nilO F0 208;exact re hm (ah.sE [1,2,0])
  refine kA ?_;refine cP Y2x hm (hG.X8 (ab.bE [0] [1]) Z3 h3) ?_ ?_
  · exact zk
  rintro E _ T3 _ _ ⟨a4,c4,_,c5,rfl,ak,h4,_,_⟩ hm;refine bS (r:=F0) (l:=([E.1]:List Y7)) (css := [(F5 E.1 a4 c4)]) ak ⟨(Q2r (x:=E.1) h4:F0.rp _ _ _ _),qZt⟩ ?_;intro w4 _ _ c6 _ ao;refine kE ?_;refine lpJ hm (fun ac o1 m a I => ∃(K:_) (D:Z0) (O:List Y7) (U:_) (V:_) (c7:_) (W:_) (c8:_),JR (nf 21) g T3 w4 a I K (X5 ac m (O,D)=some o1) [(0,pt Z9 Z8),(3,.slice U V c7)] [J2 F0 208 (.slice U V c7) O,Y6 R,Q1 W c8 Z5 D]∧Q8 W c8 K I D) (fun _ _ h=>je h (ao.sE [0,1,2])) ?_;rintro ac ap o1 _ _ _ I ⟨K,D,O,U,V,c7,W,c8,⟨J,aq,rfl,ar,_⟩,h6⟩;obtain⟨m1,_,rfl,hm,av⟩:=lrE aq ap;refine sq2 (qU ?_);refine cB Z5a hm (V0 (ar.bE [0,1] [2]) Z3 h6) ?_;rintro _ _ _ _ _ ⟨_,c9,rfl,ae,h7,_⟩ hm;refine cd hm ?_ ?_ <;> intro aE hm
  · refine pn ?_;refine blk (pu ?_);refine cP Y2x hm (hG.X8 (ae.bE [0,1] [2]) Z3 h7) ?_ ?_
    · exact zk
    rintro y5 _ _ _ _ ⟨ax,c10,_,c11,rfl,ay,h8,_,_⟩ hm;refine bS (r:=F0) (l:=([y5.1]:List Y7)) (css := [(F5 y5.1 ax c10)]) ay ⟨(Q2r (x:=y5.1) h8:F0.rp _ _ _ _),qZt⟩ ?_;intro _ _ _ c12 _ aA;obtain⟨_,aB,hm⟩:=Y0 hm;refine aO 1 aA (K3 aB) ?_;intro _ _ _ c13 _ aC;exact lg hm av (aC.sE [1,2,3])
  exact zr hm ae
theorem Y0g {G:Z9x} (hG:Sp1 G):Q7o (Q3g G):=by
  intro g _ _ R _ Z9 Z8 Z5 a1 c1 hS Z3 h1 r hm;refine enter func214 rfl ntmps214 rfl fun J => ?_;unfold Q3g at hm;refine sq2 (aL zv2 hS ?_);intro _ V ac ad;refine kA ?_;refine cB cf55 hm (M8 (ad.bE [0,1] [2]) Z3 (h1.mono ac)) ?_;rintro W _ T1 _ _ ⟨rfl,af,_⟩ hm;refine pv (G3 (by kernel_rfl) rfl (u := .agg #[iv 0,iv W.Line,iv W.Col,qZs [],qZs [],.int .u32 0,qZs [],qZs [],iv 0,.slice none 0 0])) (aL zv2 af ?_);intro _ b2 _ ag;refine sT 0 ag ?_;intro w4 _ ai;refine pn ?_;refine N5 hm (fun ab a D => ∃(E:_) (I:Z0) (K:Y7) (O:_) (c2:_) (U:_) (c3:_),JR (nf 64) g T1 w4 a D E (ab K I=some r) [(2,pt V 0),(3,pt b2 0)] [Q32 O b2 c2 K,U6 V zv2,Y6 R,Q1 U c3 Z5 I]∧Q10 O c2 E D K.Kids∧Q8 U c3 E D I) (fun ab hm => ?_) ?_
  · have ak:Ctr Tryz.prog 94 (type_of% @hG.X8):=⟨@hG.X8,Y2x⟩;have am:Ctr Tryz.prog 132 (type_of% @hG.K6):=⟨@hG.K6,X1q⟩;have an:Ctr Tryz.prog 216 (type_of% @hG.F8):=⟨@hG.F8,cf216⟩;exact zr hm ai
  rintro _ D ⟨E,I,K,O,c2,U,c3,⟨J,hm,rfl,aj,_⟩,h2,_⟩;exact zr hm aj
theorem Y1v {G:Z9x} (hG:Sp1 G):Q8n (Q4k G):=by
  intro g _ _ R _ Z9 Z8 Z5 a1 c1 hS Z3 h1 r hm;refine enter func209 rfl ntmps209 rfl fun J => ?_;unfold Q4k at hm;refine sq2 (aL zv2 hS ?_);intro _ K aG aI;refine kA ?_;refine cP cf214 hm (hG.C4 (aI.bE [0,1] [2]) Z3 (h1.mono aG)) ?_ ?_
  · exact zk
  rintro _ _ T1 _ _ ⟨_,c2,_,c3,rfl,aK,h2,_,_⟩ hm;refine aL zv2 aK ?_;intro _ O _ aM;refine sT 0 aM ?_;intro w4 _ aP;refine pn ?_;refine lpJ hm (fun ap o1 m a w5 => ∃(W:_) (U:Z0) (D:Y7) (I:_) (c4:_) (a5:_) (c5:_),JR (nf 42) g T1 w4 a w5 W (X5 ap m (D,U)=some o1) [(0,pt Z9 Z8),(2,pt K 0),(3,pt O 0)] [Q32 I O c4 D,U6 K zv2,Y6 R,Q1 a5 c5 Z5 U]∧Q10 I c4 W w5 D.Kids∧Q8 a5 c5 W w5 U) (fun _ _ h=>je h (aP.sE (Z2 0 4))) ?_;rintro ap aQ o1 ar _ _ w5 ⟨W,U,D,I,c4,a5,c5,⟨J,aR,rfl,aS,_⟩,h4,h5⟩;obtain⟨m1,z1,rfl,hm,av⟩:=lrE aR aQ;refine blk (sq2 (aL zv2 aS ?_));intro w6 V aV aW;refine pn ?_;have aX:=aW.nilO F0 208;refine N5 hm (fun aw a w7 => ∃(T3:_) (x5:Z0) (E:Y7) (a6:_) (n1:_) (c6:_) (a7:_) (c7:_),JR (nf 42) g W w6 a w7 T3 (aw E x5=some z1) [(0,pt Z9 Z8),(2,pt K 0),(3,pt O 0),(4,pt V 0)] [J2 F0 208 (.slice a6 n1 c6) E.Kids,U6 V [iv E.Kind,iv E.Pos.Line,iv E.Pos.Col,Q23 E.Op.toArray,Q23 E.Name.toArray,.int .u32 E.Num,Q23 E.Type_.Word.toArray,Q23 E.Type_.Name.toArray,iv E.Type_.Stars,.slice a6 n1 c6],Q32 I O c4 D,U6 K zv2,Y6 R,Q1 a7 c7 Z5 x5]∧Q8 a7 c7 T3 w7 x5) (fun aw hm => ?_) ?_
  · refine qU ?_;refine cB Y8s hm (H7 (aX.bE (Z2 0 5) [5]) Z3 (h5.mono aV)) ?_;rintro y2 _ T4 w8 _ ⟨rfl,ax,_⟩ hm;refine pn ?_;refine blk (sq2 (cd hm ?_ ?_)) <;> intro bz hm
    · refine qU ?_;refine cB Y7e hm (B3 (ax.bE (Z2 0 5) [5]) Z3 (h5.mono ch)) ?_;rintro y3 _ _ _ _ ⟨_,c8,_,c9,rfl,bf,_,h8,_⟩ hm;refine sT 1 bf ?_;intro _ _ bg;refine kE ?_;refine sT 1 bg ?_;intro _ _ bh;refine kE ?_;refine Z2k [1,0,2,2,0,2] [0,1,2,3,4,5] bh (U4 (L3 (U4 (L3 (U4 (L3 (N8))))))) fun bA bB az=>pu ?_;obtain⟨y4,aA,hm⟩:=Y0 hm
      rcases y4 with e2 | y4
      · have hm:=J1 hm;refine s2 [(0,.agg (F5 D I c4).toArray)] rfl qZt rfl (by kernel_rfl) (Z1p Y2x rfl (hG.X8 (p0:=y3.2) (az.bE (Z2 1 4) [5]) Z3 (h8.mono ch) _ aA) rfl fun v7 T9 bG bI bi => ?_);obtain⟨_,c15,rfl,bj,_,_⟩:=bi;have hm:=S4 hm av ar;exact pe hm (bj.sE [3,4])
      have hm:=N4 hm;refine sS [(0,.agg (F5 D I c4).toArray)] Y2x (hG.X8 (az.bE (Z2 1 4) [5]) Z3 (h8.mono ch) _ aA) ?_;rintro _ _ _ _ ⟨bk,c10,_,c11,rfl,bl,h9,bn,_⟩;refine s2W [0] ?_;refine obS (r:=F0) (l:=([D,y4.1]:List Y7)) (css := [(F5 D I c4),(F5 y4.1 bk c10)]) bl ⟨(Q2r (x:=D) (h4.mono ch):F0.rp _ _ _ _),(Q2r (x:=y4.1) h9:F0.rp _ _ _ _),qZt⟩ ?_;intro _ _ _ c12 _ bo;refine s2W [] ?_;refine osT 1 bo ?_;intro _ _ bp;refine pn ?_;refine cP Z6q hm (V2 (bp.bE (Z2 0 5) [5]) Z3 (bn.mono ch)) ?_ ?_
      · rintro _ _ _ _ _ ⟨_,c14,rfl,bq,_,_⟩ hm;have hm:=S4 hm av ar;exact pe hm (bq.sE [4,5])
      rintro _ _ _ _ _ ⟨_,c13,rfl,bt,_,_⟩ hm;exact je hm (bt.sE (Z2 0 6))
    refine N5 hm (fun aB a ak => ∃ am x6,JR (nf 42) g T4 w8 a ak am (aB x6=some z1) [(0,pt Z9 Z8),(2,pt K 0),(3,pt O 0),(4,pt V 0),(8,(qZs y2)),(22,.bool x6)] [J2 F0 208 (.slice none 0 0) [],U6 V zv2,Q32 I O c4 D,U6 K zv2,Y6 R,Q1 a5 c5 Z5 U]) (fun aB hm => ?_) ?_
    · exact zr hm ax
    rintro _ ak ⟨am,x6,J,hm,rfl,aC,_⟩;refine cd hm ?_ ?_ <;> intro bJ hm
    · have bu:HL 1 F0 ([D]:List Y7) [(F5 D I c4)]:=⟨qZt⟩;exact zr hm aC
    refine N5 hm (fun aD a aE => ∃ aF x7,JR (nf 42) g am ak a aE aF (aD x7=some z1) [(0,pt Z9 Z8),(2,pt K 0),(3,pt O 0),(4,pt V 0),(33,.bool x7)] [J2 F0 208 (.slice none 0 0) [],U6 V zv2,Q32 I O c4 D,U6 K zv2,Y6 R,Q1 a5 c5 Z5 U]) (fun aD hm => ?_) ?_
    · exact zr hm aC
    rintro _ aE ⟨aF,x7,J,hm,rfl,bv,_⟩;have bu:HL 1 F0 ([D]:List Y7) [(F5 D I c4)]:=⟨qZt⟩;exact zr hm bv
  rintro _ w7 ⟨T3,x5,E,a6,n1,c6,a7,c7,⟨J,hm,rfl,bw,_⟩,_⟩;exact zr hm bw
theorem Y0f {G:Z9x} (hG:Sp1 G):Q7m (Q3f G):=by
  intro g _ _ R _ Z9 Z8 Z5 a1 c1 hS Z3 h1 r hm;refine Y7a Tryz.func191 rfl Tryz.ntmps191 rfl fun J => ?_;unfold Q3f at hm;refine sq2 (aL zv2 hS ?_);intro _ I aF aG;refine kA ?_;refine cP X1r hm (I4 (aG.bE [0,1] [2]) Z3 (h1.mono aF)) ?_ ?_
  · exact zk
  rintro y1 _ _ _ _ ⟨D,a2,c2,rfl,aI,h2,_⟩ hm;refine wl rfl (dfO (f:=169) (cap := #[pt D 0]) rfl (pn ?_));refine sq2 (qU ?_);refine cB Y8s hm (H7 (aI.bE [0,1,3] [2]) Z3 h2) ?_;rintro y2 _ T2 w3 _ ⟨rfl,aN,_⟩ hm;refine pn ?_;refine blk (N5 hm (fun av a W => ∃ T3 x1,JR (⟨49,[⟨.fn (.func 169) #[pt D 0],#[]⟩]⟩) g T2 w3 a W T3 (av x1=some r) [(0,pt Z9 Z8),(2,pt I 0),(10,(qZs y2)),(11,.bool x1)] [U6 I zv2,Y6 R,U6 D [pt Z9 Z8],Q1 a2 c2 Z5 y1]) (fun av hm => ?_) ?_)
  · exact zr hm aN
  rintro _ W ⟨T3,x1,J,hm,rfl,aw,_⟩;refine cd hm ?_ ?_ <;> intro cn hm
  · refine qU ?_;refine cB Y7e hm (B3 (aw.bE [0,1,2] [3]) Z3 (h2.mono ch)) ?_;rintro _ _ _ _ _ ⟨_,c3,_,c4,rfl,aP,_,h4,_⟩ hm;refine aL zv2 aP ?_;intro _ _ _ aR;refine sT 0 aR ?_;intro _ _ aS;refine kA ?_;refine cP cf191 hm (hG.F2 (aS.bE (Z2 0 4) [4]) Z3 (h4.mono ch)) ?_ ?_
    · rintro _ _ _ _ _ ⟨_,c8,rfl,aT,_,_⟩ hm;refine pn ?_;exact Q6m Q0d (H4 (args := [pt D 0]) Tryz.func169 rfl Tryz.ntmps169 rfl rfl fun J=>zr hm aT)
    rintro y4 _ _ _ _ ⟨a5,c5,_,c6,rfl,aV,h5,_,_⟩ hm;refine bS (r:=F0) (l:=([y4.1]:List Y7)) (css := [(F5 y4.1 a5 c5)]) aV ⟨(Q2r (x:=y4.1) h5:F0.rp _ _ _ _),qZt⟩ ?_;intro _ _ _ c7 _ aX;refine sT 1 aX ?_;intro _ _ aY;refine kE ?_;refine sT 2 aY ?_;intro _ _ aZ;refine pn ?_;refine pn ?_;exact retD Q0d (H4 (args := [pt D 0]) Tryz.func169 rfl Tryz.ntmps169 rfl rfl fun J=>zr hm aZ)
  refine N5 hm (fun ax a ay => ∃ T8 x2,JR (⟨49,[⟨.fn (.func 169) #[pt D 0],#[]⟩]⟩) g T3 W a ay T8 (ax x2=some r) [(0,pt Z9 Z8),(2,pt I 0),(24,.bool x2)] [U6 I zv2,Y6 R,U6 D [pt Z9 Z8],Q1 a2 c2 Z5 y1]) (fun ax hm => ?_) ?_
  · exact zr hm aw
  rintro _ ay ⟨T8,x2,J,hm,rfl,aA,_⟩;refine cd hm ?_ ?_ <;> intro co hm
  · refine qU ?_;refine cB Y7e hm (B3 (aA.bE [0,1,2] [3]) Z3 (h2.mono ch)) ?_;rintro _ _ _ _ _ ⟨_,c9,_,c10,rfl,ba,_,be,_⟩ hm;refine aL zv2 ba ?_;intro _ _ _ bf;refine sT 0 bf ?_;intro _ _ bg;refine kA ?_;refine cP cf191 hm (hG.F2 (bg.bE (Z2 0 4) [4]) Z3 (be.mono ch)) ?_ ?_
    · rintro _ _ _ _ _ ⟨_,c14,rfl,bh,_,_⟩ hm;refine pn ?_;exact Q6m Q0d (H4 (args := [pt D 0]) Tryz.func169 rfl Tryz.ntmps169 rfl rfl fun J=>zr hm bh)
    rintro y6 _ _ _ _ ⟨bi,c11,_,c12,rfl,bj,bk,_,_⟩ hm;refine bS (r:=F0) (l:=([y6.1]:List Y7)) (css := [(F5 y6.1 bi c11)]) bj ⟨(Q2r (x:=y6.1) bk:F0.rp _ _ _ _),qZt⟩ ?_;intro _ _ _ c13 _ bl;refine sT 1 bl ?_;intro _ _ bm;refine kE ?_;refine sT 2 bm ?_;intro _ _ bn;refine pn ?_;refine pn ?_;exact retD Q0d (H4 (args := [pt D 0]) Tryz.func169 rfl Tryz.ntmps169 rfl rfl fun J=>zr hm bn)
  refine kB ?_;refine cB cf55 hm (M8 (aA.bE [0,1,2] [3]) Z3 (h2.mono ch)) ?_;rintro K _ _ _ _ ⟨rfl,bo,_⟩ hm;refine aL [iv 0,iv 0] bo ?_;intro _ _ _ bp;refine sT 0 bp ?_;intro _ _ bq;refine kA ?_;refine cB Z5a hm (V0 (bq.bE (Z2 0 4) [4]) Z3 (h2.mono ch)) ?_;rintro _ _ _ _ _ ⟨_,c15,rfl,aB,aC,_⟩ hm;refine cd hm ?_ ?_ <;> intro cp hm
  · refine qU ?_;refine cP Z6q hm (V2 (aB.bE (Z2 0 4) [4]) Z3 aC) ?_ ?_
    · rintro _ _ _ bt bu ⟨_,c22,rfl,af,_,_⟩ hm;refine pn ?_;exact Q6m Q0d (H4 (args := [pt D 0]) Tryz.func169 rfl Tryz.ntmps169 rfl rfl fun J=>zr hm af)
    rintro _ _ _ _ _ ⟨_,c16,rfl,bv,O,_⟩ hm;refine kE ?_;refine rtPS [1,0,2,0,2,2] [0,1,2,3,4,5] bv (U4 (U4 (X0v (rs := [.cell 2 208]) rfl (by kernel_rfl)))) fun cq aD U => ?_;refine pu ?_;obtain⟨E,V,hm⟩:=Y0 hm
    rcases E with e3 | E
    · have hm:=J1 hm;refine tF [2,4] ?_;refine⟨?_,?_,qZt⟩
      · refine brW [3,4,5] [] ?_;refine oP cf61 (F1 (U.bE [1,2,3,0] [4]) Z3 (O.mono aD) _ V) ?_;rintro _ bw _ _ ⟨bz,c21,rfl,bA,bB,_⟩;refine pn ?_;refine Q6m Q0d (H4 (args := [pt D 0]) Tryz.func169 rfl Tryz.ntmps169 rfl rfl fun J=>sB 4 3 Z3 bA ?_);intro bC bD ag;exact pe hm (ag.sE [1,4])
      refine brW [2,3,5] [] ?_;refine oaL zv2 U ?_;intro _ _ _ bF;refine t1W [2] [3,5] [] ?_;refine oP cf61 (F1 (bF.bE [0,2,3,4,1] [5]) Z3 (O.mono ch) _ V) ?_;rintro _ bw bC bD ⟨bz,c21,rfl,ag,bB,_⟩;refine pn ?_;refine Q6m Q0d (H4 (args := [pt D 0]) Tryz.func169 rfl Tryz.ntmps169 rfl rfl fun J=>sB 5 3 Z3 ag ?_);intro bt bu af;exact pe hm (af.sE [2,5])
    have hm:=N4 hm;refine tF [2,4] ?_;refine⟨?_,?_,qZt⟩
    · refine brW [3,4,5] [] ?_;refine oS cf61 (F1 (U.bE [1,2,3,0] [4]) Z3 (O.mono aD) _ V) ?_;rintro _ bG bI bJ ⟨bK,c17,rfl,ah,ai,_⟩;refine pu ?_;refine t0 rfl qZt (fun _=>G3 (by kernel_rfl) rfl (u := .agg #[iv 12,iv K.Line,iv K.Col,qZs [],qZs [],.int .u32 0,qZs E.1.Word,qZs E.1.Name,iv E.1.Stars,.slice none 0 0])) rfl (t1W [4] [5] [] ?_);refine oaL zv2 ah ?_;intro bL b6 bN aj;refine t1W [5] [] [0] ?_;refine osT 0 aj ?_;intro bO aE ak;refine kA ?_;refine cP Z6q hm (V2 (ak.bE (Z2 0 4) [5]) Z3 (ai.mono ch)) ?_ ?_
      · rintro e4 _ bQ bR bT ⟨bU,c19,rfl,am,bV,_⟩ hm;refine pn ?_;refine Q6m Q0d (H4 (args := [pt D 0]) Tryz.func169 rfl Tryz.ntmps169 rfl rfl fun J=>sB 4 3 Z3 am ?_);intro bW bY an;exact pe hm (an.sE [2,4])
      rintro bZ _ b0 b8 b9 ⟨cc,c18,rfl,ao,ce,_⟩ hm;refine kE ?_;refine sT 1 ao ?_;intro cf cg ap;refine pn ?_;refine pn ?_;refine retD Q0d (H4 (args := [pt D 0]) Tryz.func169 rfl Tryz.ntmps169 rfl rfl fun J=>sB 4 3 Z3 ap ?_);intro ci cj aq;exact eo hm (aq.sE [2,4])
    refine brW [2,3,5] [] ?_;refine oaL zv2 U ?_;intro bI b6 bJ ah;refine t1W [2] [3,5] [] ?_;refine oS cf61 (F1 (ah.bE [0,2,3,4,1] [5]) Z3 (O.mono ch) _ V) ?_;rintro _ bG bL bN ⟨bK,c17,rfl,aj,ai,_⟩;refine pu ?_;refine t0 rfl qZt (fun _=>G3 (by kernel_rfl) rfl (u := .agg #[iv 12,iv K.Line,iv K.Col,qZs [],qZs [],.int .u32 0,qZs E.1.Word,qZs E.1.Name,iv E.1.Stars,.slice none 0 0])) rfl (t1W [5] [] [0] ?_);refine osT 0 aj ?_;intro bO aE ak;refine kA ?_;refine cP Z6q hm (V2 (ak.bE (Z2 0 4) [5]) Z3 (ai.mono aE)) ?_ ?_
    · rintro e4 _ bQ bR bT ⟨bU,c19,rfl,am,bV,_⟩ hm;refine pn ?_;refine Q6m Q0d (H4 (args := [pt D 0]) Tryz.func169 rfl Tryz.ntmps169 rfl rfl fun J=>sB 4 3 Z3 am ?_);intro bW bY an;exact pe hm (an.sE [2,4])
    rintro bZ _ b0 b8 b9 ⟨cc,c18,rfl,ao,ce,_⟩ hm;refine kE ?_;refine sT 1 ao ?_;intro cf cg ap;refine pn ?_;refine pn ?_;refine retD Q0d (H4 (args := [pt D 0]) Tryz.func169 rfl Tryz.ntmps169 rfl rfl fun J=>sB 4 3 Z3 ap ?_);intro ci cj aq;exact eo hm (aq.sE [2,4])
  refine kA ?_;refine cP cf209 hm (hG.C0 (aB.bE [1,2,3] [4]) Z3 aC) ?_ ?_
  · rintro _ _ _ _ _ ⟨_,c25,rfl,ck,_,_⟩ hm;refine pn ?_;exact Q6m Q0d (H4 (args := [pt D 0]) Tryz.func169 rfl Tryz.ntmps169 rfl rfl fun J=>zr hm ck)
  rintro _ _ _ _ _ ⟨_,c23,_,c24,rfl,cl,_,_,_⟩ hm;refine sT 0 cl ?_;intro _ _ cm;refine pn ?_;refine pn ?_;exact retD Q0d (H4 (args := [pt D 0]) Tryz.func169 rfl Tryz.ntmps169 rfl rfl fun J=>zr hm cm)
theorem Z9g {G:Z9x} (hG:Sp1 G):Q6d (Q1p G):=by
  intro g _ _ R _ Z9 Z8 Z5 a1 c1 p1 hS Z3 h1 r hm;refine enter func170 rfl ntmps170 rfl fun J => ?_;unfold Q1p at hm;refine sq2 (aL zv2 hS ?_);intro _ b1 aj ak;refine kA ?_;refine cP cf191 hm (hG.F2 (ak.bE [0,1] [2]) Z3 (h1.mono aj)) ?_ ?_
  · exact zk
  rintro _ _ T1 _ _ ⟨_,c2,_,c3,rfl,an,h2,_,_⟩ hm;refine aL zv2 an ?_;intro _ b2 _ ao;refine sT 0 ao ?_;intro w4 _ aq;refine pn ?_;refine lpJ hm (fun ac o1 m a I => ∃(K:_) (O:Z0) (D:Y7) (E:_) (c4:_) (V:_) (c5:_),JR (nf 31) g T1 w4 a I K (X5 ac m (D,O)=some o1) [(0,pt Z9 Z8),(1,iv p1),(4,pt b1 0),(5,pt b2 0)] [Q32 E b2 c4 D,U6 b1 zv2,Y6 R,Q1 V c5 Z5 O]∧Q10 E c4 K I D.Kids∧Q8 V c5 K I O) (fun _ _ h=>je h (aq.sE (Z2 0 4))) ?_;rintro ac ar o1 au _ _ I ⟨K,O,D,E,c4,V,c5,⟨J,av,rfl,aw,_⟩,_,h5⟩;obtain⟨m1,_,rfl,hm,ax⟩:=lrE av ar;refine blk (qU ?_);refine cB Y8s hm (H7 (aw.bE [0,1,2] [3]) Z3 h5) ?_;rintro _ _ _ _ _ ⟨rfl,ay,_⟩ hm;refine cB cf192 hm (Z6k (ay.bE (Z2 0 4) [])) ?_;rintro y3 _ _ _ _ ⟨rfl,W,_⟩ hm;refine kB ?_
  rcases bc hm with ⟨aA,hm⟩ | ⟨aA,hm⟩
  · exact zr hm W
  refine cd hm ?_ ?_ <;> intro aK hm
  · exact zr hm W
  refine kA ?_;refine cB Y7e hm (B3 (W.bE [0,1,2] [3]) Z3 (h5.mono ch)) ?_;rintro y4 _ _ _ _ ⟨_,c6,_,c7,rfl,aC,_,h7,_⟩ hm;refine aL zv2 aC ?_;intro _ _ _ aD;refine sT 0 aD ?_;intro _ _ aE;refine kE ?_;refine Z2k [1,0,0,0,2,2,0,2] [0,1,2,3,4,5,6,7] aE (U4 (L3 (U4 (L3 (N8))))) fun aM aN ag=>pu ?_;obtain⟨U,ah,hm⟩:=Y0 hm
  rcases U with e1 | U
  · have hm:=J1 hm;refine s2 [(0,.agg (F5 D E c4).toArray)] rfl qZt rfl (by kernel_rfl) (Z1p cf170 rfl (hG.F9 (p0:=y4.2) (p1:=IntKind.wrap .i64 (y3+1)) (ag.bE (Z2 0 4) [4]) Z3 (h7.mono ch) _ ah) rfl fun v6 T8 aS aT aF => ?_);obtain⟨_,c11,rfl,aG,_,_⟩:=aF;have hm:=S4 hm ax au;exact pe hm (aG.sE [3,4])
  have hm:=N4 hm;refine sS [(0,.agg (F5 D E c4).toArray)] cf170 (hG.F9 (ag.bE (Z2 0 4) [4]) Z3 (h7.mono ch) _ ah) ?_;rintro _ _ _ _ ⟨a8,c8,_,c9,rfl,aJ,_,_,_⟩;have aU:HL 1 F0 ([D,U.1]:List Y7) [(F5 D E c4),(F5 U.1 a8 c8)]:=⟨qZt⟩;have dd:KD [(4,[]),(5,[0,4]),(7,[0,4,5])]:=⟨qZt⟩;exact zr hm aJ
theorem Y1w {G:Z9x} (hG:Sp1 G):Q8p (Q4m G):=by
  intro g _ _ R _ Z9 Z8 Z5 a1 c1 hS Z3 h1 r hm;refine enter func127 rfl ntmps127 rfl fun J => ?_;unfold Q4m at hm;refine sq2 (aL zv2 hS ?_);intro _ b1 ae af;refine kA ?_;refine cP cf170 hm (hG.F9 (af.bE [0,1] [2]) Z3 (h1.mono ae)) ?_ ?_
  · exact zk
  rintro D _ _ _ _ ⟨K,c2,_,c3,rfl,ag,h2,U,_⟩ hm;refine aL zv2 ag ?_;intro _ _ _ ah;refine sT 0 ah ?_;intro _ _ ai;refine kB ?_;refine cB Y8s hm (H7 (ai.bE [0,1,2] [3]) Z3 (U.mono ch)) ?_;rintro _ _ _ _ _ ⟨rfl,V,_⟩ hm;refine cd hm ?_ ?_ <;> intro aQ hm
  · exact zr hm V
  refine kA ?_;refine cB Y7e hm (B3 (V.bE [0,1,2] [3]) Z3 (U.mono ch)) ?_;rintro _ _ _ _ _ ⟨_,c4,_,c5,rfl,aj,_,h5,_⟩ hm;refine aL zv2 aj ?_;intro _ b3 _ an;refine sT 0 an ?_;intro _ _ ao;refine kE ?_;refine sT 0 ao ?_;intro _ _ ap;refine kA ?_;refine cP Y2x hm (hG.X8 (ap.bE (Z2 0 4) [4]) Z3 (h5.mono ch)) ?_ ?_
  · exact zk
  rintro E _ _ _ _ ⟨O,c6,_,c7,rfl,aq,h6,h7,_⟩ hm;refine aL zv2 aq ?_;intro _ _ _ av;refine sT 0 av ?_;intro _ _ aw;refine kA ?_;refine cP Z6q hm (V2 (aw.bE (Z2 0 5) [5]) Z3 (h7.mono ch)) ?_ ?_
  · exact zk
  rintro _ _ _ _ _ ⟨_,c8,rfl,ax,h8,_⟩ hm;refine kA ?_;refine cP X1r hm (I4 (ax.bE (Z2 0 5) [5]) Z3 h8) ?_ ?_
  · exact zk
  rintro y6 _ _ _ _ ⟨b5,_,c9,rfl,aB,W,_⟩ hm;refine pv (r_zf rfl) (pn ?_);refine sq2 (Z2k [1,1,0,2,2,0,2] [0,1,2,3,4,5,6] aB (U4 (N8)) fun aR aa ab=>pu ?_);obtain⟨I,ac,hm⟩:=Y0 hm
  rcases I with e1 | I
  · have hm:=J1 hm;refine s2 [(1,.agg (F5 E.1 O c6).toArray),(0,.agg (F5 D.1 K c2).toArray)] rfl qZt rfl (by kernel_rfl) (Z1p cf127 rfl (hG.P0 (p0:=y6) (ab.bE [1,3,4,6,0,2] [5]) Z3 (W.mono aa) _ ac) rfl fun v9 aU aV aW aC => ?_);obtain⟨_,c14,rfl,aD,_,_⟩:=aC;exact pe hm (aD.sE [2,6])
  have hm:=N4 hm;refine sS [(1,.agg (F5 E.1 O c6).toArray),(0,.agg (F5 D.1 K c2).toArray)] cf127 (hG.P0 (ab.bE [1,3,4,6,0,2] [5]) Z3 (W.mono aa) _ ac) ?_;rintro _ _ _ _ ⟨aE,c10,_,c11,rfl,aF,aG,aI,_⟩;refine s2W [0,0] ?_;refine obS (r:=F0) (l:=([D.1,E.1,I.1]:List Y7)) (css := [(F5 D.1 K c2),(F5 E.1 O c6),(F5 I.1 aE c10)]) aF ⟨(Q2r (x:=D.1) (h2.mono ch):F0.rp _ _ _ _),(Q2r (x:=E.1) (h6.mono ch):F0.rp _ _ _ _),(Q2r (x:=I.1) aG:F0.rp _ _ _ _),qZt⟩ ?_;intro _ _ _ c12 _ aJ;refine s2W [] ?_;refine osT 1 aJ ?_;intro _ _ aK;refine kA ?_;refine cB Q0d hm (Q7f (aK.bE (Z2 0 4) [4,7]) (Q3m b5) Z3 (aI.mono ch)) ?_;rintro _ _ _ _ _ ⟨_,c13,rfl,aM,_,_⟩ hm;refine nil (K1 [(2,pt b1 0),(4,pt b3 0)] ⟨rfl,rfl,qZt⟩ fun J=>sq2 (sT 2 aM ?_));intro _ _ aN;refine pn ?_;obtain⟨_,_,aP,_,rfl⟩:=aN.sl 0;exact re hm (aP.sE [3,5])
theorem Z9h {G:Z9x} (hG:Sp1 G):Q6e (Q1q G):=by
  intro g _ _ R _ Z9 Z8 Z5 a1 c1 hS Z3 h1 r hm;refine Y7a Tryz.func94 rfl Tryz.ntmps94 rfl fun J => ?_;unfold Q1q at hm;refine sq2 (aL zv2 hS ?_);intro _ _ ab ac;refine kA ?_;refine cP X1r hm (I4 (ac.bE [0,1] [2]) Z3 (h1.mono ab)) ?_ ?_
  · exact zk
  rintro _ _ _ _ _ ⟨D,_,c2,rfl,ad,h2,_⟩ hm;refine wl rfl (dfO (f:=169) (cap := #[pt D 0]) rfl (pn ?_));refine qU ?_;refine cP cf127 hm (hG.P0 (ad.bE [0,1,3] [2]) Z3 h2) ?_ ?_
  · rintro _ _ _ _ _ ⟨_,c11,rfl,ae,_,_⟩ hm;refine pn ?_;refine Q6m Q0d (H4 (args := [pt D 0]) Tryz.func169 rfl Tryz.ntmps169 rfl rfl fun J=>sB 3 3 Z3 ae ?_);intro _ _ af;exact pe hm (af.sE [1,3])
  rintro E _ _ _ _ ⟨K,c3,_,c4,rfl,ag,h3,O,_⟩ hm;refine aL zv2 ag ?_;intro _ _ _ ai;refine sT 0 ai ?_;intro _ _ aj;refine kB ?_;refine cB Y8s hm (H7 (aj.bE (Z2 0 4) [4]) Z3 (O.mono ch)) ?_;rintro _ _ _ _ _ ⟨rfl,ak,_⟩ hm;refine cB cf128 hm (Z3o (ak.bE (Z2 0 5) [])) ?_;rintro _ _ _ _ _ ⟨rfl,U,_⟩ hm;refine cd hm ?_ ?_ <;> intro aC hm
  · refine sq2 (sT 1 U ?_);intro _ _ am;refine pn ?_;refine pn ?_;exact retD Q0d (H4 (args := [pt D 0]) Tryz.func169 rfl Tryz.ntmps169 rfl rfl fun J=>zr hm am)
  refine kA ?_;refine cB Y7e hm (B3 (U.bE (Z2 0 4) [4]) Z3 (O.mono ch)) ?_;rintro y5 _ _ _ _ ⟨_,c5,_,c6,rfl,ao,_,V,_⟩ hm;refine aL zv2 ao ?_;intro _ _ _ ap;refine sT 0 ap ?_;intro _ _ aq;refine kE ?_;refine Z2k [1,0,2,2,0,2] [0,1,2,3,4,5] aq (U4 (X0v (rs := [.cell 2 208]) rfl (by kernel_rfl))) fun aD aE W => ?_;refine pu ?_;obtain⟨I,aa,hm⟩:=Y0 hm
  rcases I with e1 | I
  · have hm:=J1 hm;refine s2 [(0,.agg (F5 E.1 K c3).toArray)] rfl qZt rfl (by kernel_rfl) (Z1p Y2x rfl (hG.X8 (p0:=y5.2) (W.bE [0,2,3,4,1] [5]) Z3 (V.mono ch) _ aa) rfl fun v7 T8 aJ aK ar => ?_);obtain⟨_,c10,rfl,au,_,_⟩:=ar;refine pn ?_;refine Q6m Q0d (H4 (args := [pt D 0]) Tryz.func169 rfl Tryz.ntmps169 rfl rfl fun J=>sB 5 3 Z3 au ?_);intro _ _ av;exact pe hm (av.sE [2,5])
  have hm:=N4 hm;refine sS [(0,.agg (F5 E.1 K c3).toArray)] Y2x (hG.X8 (W.bE [0,2,3,4,1] [5]) Z3 (V.mono ch) _ aa) ?_;rintro _ _ _ _ ⟨a7,c7,_,c8,rfl,ax,h7,_,_⟩;refine s2W [0] ?_;refine obS (r:=F0) (l:=([E.1,I.1]:List Y7)) (css := [(F5 E.1 K c3),(F5 I.1 a7 c7)]) ax ⟨(Q2r (x:=E.1) (h3.mono ch):F0.rp _ _ _ _),(Q2r (x:=I.1) h7:F0.rp _ _ _ _),qZt⟩ ?_;intro _ _ _ c9 _ az;refine s2W [] ?_;refine osT 1 az ?_;intro _ _ aA;refine kE ?_;refine sT 2 aA ?_;intro _ _ aB;refine pn ?_;refine pn ?_;refine retD Q0d (H4 (args := [pt D 0]) Tryz.func169 rfl Tryz.ntmps169 rfl rfl fun J => ?_);have dd:KD [(2,[]),(3,[0,2]),(5,[0,2,3])]:=⟨qZt⟩;exact zr hm aB
theorem sp1 : ∀ n,Sp1 (Q6k n)
  | 0=>⟨(by unfold Q2l; intros; rename_i h; cases (show (none:Option _)=some _ from h)),(by unfold Q6b; intros; rename_i h; cases (show (none:Option _)=some _ from h)),(by unfold Q7o; intros; rename_i h; cases (show (none:Option _)=some _ from h)),(by unfold Q8n; intros; rename_i h; cases (show (none:Option _)=some _ from h)),(by unfold Q7m; intros; rename_i h; cases (show (none:Option _)=some _ from h)),(by unfold Q6d; intros; rename_i h; cases (show (none:Option _)=some _ from h)),(by unfold Q8p; intros; rename_i h; cases (show (none:Option _)=some _ from h)),(by unfold Q6e; intros; rename_i h; cases (show (none:Option _)=some _ from h))⟩
  | n+1=>⟨Z6j (sp1 n),Z9f (sp1 n),Y0g (sp1 n),Y1v (sp1 n),Y0f (sp1 n),Z9g (sp1 n),Y1w (sp1 n),Z9h (sp1 n)⟩
theorem Q0p:Q2l K6:=(sp1 NN).K6
theorem Y8y:Q6b F8:=(sp1 NN).F8
theorem X0e:Q7o C4:=(sp1 NN).C4
theorem X0l:Q8n C0:=(sp1 NN).C0
theorem X0d:Q7m F2:=(sp1 NN).F2
theorem Y8z:Q6d F9:=(sp1 NN).F9
theorem X0m:Q8p P0:=(sp1 NN).P0
theorem I6:Q6e X8:=(sp1 NN).X8

theorem I5 {p0:Z0} {p1:N0} (hS:Q38 a1 c1 Z5 T0 g w0 R p0) (Z3:Ln Z9 Z8 Z5) (h1:Q8 a1 c1 T0 w0 p0) (h2:Q15 a2 c2 T0 w0 p1.Dims) : ∀ r,H8 p0 p1=some r →
    Cl 62 #[pt Z9 Z8,.agg #[iv p1.Pos.Line,iv p1.Pos.Col,Q23 p1.Type_.Word.toArray,Q23 p1.Type_.Name.toArray,iv p1.Type_.Stars,Q23 p1.Name.toArray,sv a2 p1.Dims c2,.slice none 0 0,.bool p1.Brace]] w0 (exR r (fun r=>K2 T0 w0 (Q62 Z5 g R r.1 r.2)) (fun r=>C7 T0 w0 (Q4 Z5 g R r.1.pos r.1.e r.2 r.2.l))):=by
  intro r hm;refine enter func62 rfl ntmps62 rfl fun J => ?_;unfold H8 at hm;refine sq2 (bX [iv p1.Pos.Line,iv p1.Pos.Col,qZs p1.Type_.Word,qZs p1.Type_.Name,iv p1.Type_.Stars,qZs p1.Name,sv a2 p1.Dims c2,.slice none 0 0,.bool p1.Brace] hS ?_);intro _ V _ aD;refine aL zv4 aD ?_;intro _ W _ aE;refine kA ?_;refine cP cf92 hm (Q6c (aE.bE [0,1,2] [3]) Z3 (h1.mono ch)) ?_ ?_
  · exact zk
  rintro _ _ T1 _ _ ⟨a4,n1,c4,_,c5,rfl,aG,h4,_⟩ hm;refine sT 1 aG ?_;intro w4 aK aM;refine pn ?_;have aN:=aM.nilO F0 208;refine N5 hm (fun an a w5 => ∃(T2:_) (x4:Z0) (D:N0) (a6:_) (n2:_) (c6:_) (a7:_) (c7:_),JR (nf 40) g T1 w4 a w5 T2 (an D x4=some r) [(0,pt Z9 Z8),(3,pt V 0),(4,pt W 0)] [J2 F0 208 (.slice a6 n2 c6) D.Init,U6 W zv4,Q81 a4 a6 V n1 c4 n2 c6 D,Y6 R,Q1 a7 c7 Z5 x4,J2 (J6 .u32) 33 (.slice a4 n1 c4) D.Dims]∧Q8 a7 c7 T2 w5 x4) (fun an hm => ?_) ?_
  · refine qU ?_;refine cB Z5a hm (V0 (aN.bE [0,1,2,3,5] [4]) Z3 (h4.mono aK)) ?_;rintro _ _ _ _ _ ⟨_,c8,rfl,ao,h6,_⟩ hm;refine cd hm ?_ ?_ <;> intro bJ hm
    · refine qU ?_;refine cB Z5a hm (V0 (ao.bE (Z2 0 5) [5]) Z3 h6) ?_;rintro y3 _ _ _ _ ⟨_,c9,rfl,aR,h7,_⟩ hm;refine sT 2 aR ?_;intro _ _ aS;refine kE ?_;refine Z2k [0,1,0,2,2,2,0,2] [0,1,2,3,4,5,6,7] aS (U4 (U4 (N8))) fun w9 bL aq=>pu ?_;obtain⟨E,ar,hm⟩:=Y0 hm
      rcases E with e5 | E
      · have hm:=J1 hm;refine s2 [(1,.slice none 0 0)] rfl qZt rfl (by kernel_rfl) (Z1p Y2x rfl (I6 (p0:=y3.2) (aq.bE (Z2 0 5) [5]) Z3 (h7.mono ch) _ ar) rfl fun bN bO bP bQ aT => ?_);obtain⟨_,c28,rfl,aU,_,_⟩:=aT;exact pe hm (aU.sE [3,5])
      have hm:=N4 hm;refine sS [(1,.slice none 0 0)] Y2x (I6 (aq.bE (Z2 0 5) [5]) Z3 (h7.mono ch) _ ar) ?_;rintro _ T5 _ _ ⟨aW,c10,_,c11,rfl,aX,h8,_,_⟩;refine s2W [] ?_;refine obS (r:=F0) (l:=([E.1]:List Y7)) (css := [(F5 E.1 aW c10)]) aX ⟨(Q2r (x:=E.1) h8:F0.rp _ _ _ _),qZt⟩ ?_;intro _ _ _ c12 _ aZ;refine pu ?_;obtain⟨_,a3,hm⟩:=Y0 hm;refine s2W [0] ?_;refine oaO 1 aZ (K3 a3) ?_;intro _ _ _ c13 _ ba;refine s2W [] ?_;refine osT 3 ba ?_;intro be _ bf;refine kE ?_;refine lpJ hm (fun au o1 m a aj => ∃(T6:_) (x8:Z0) (I:N0) (K:_) (O:_) (c14:_) (am:_) (c15:_),JR (nf 40) g T5 be a aj T6 (X5 au m (I,x8)=some o1) [(0,pt Z9 Z8),(3,pt V 0),(4,pt W 0)] [J2 F0 208 (.slice K O c14) I.Init,U6 W zv4,Q81 a4 K V n1 c4 O c14 I,Y6 R,J2 (J6 .u32) 33 (.slice a4 n1 c4) I.Dims,Q1 am c15 Z5 x8]∧Q8 am c15 T6 aj x8) (fun _ _ h=>je h (bf.sE (Z2 1 6))) ?_;rintro au bg o1 bh _ _ aj ⟨T6,x8,I,K,O,c14,am,c15,⟨J,bi,rfl,aw,_⟩,bj⟩;obtain⟨m1,_,rfl,hm,ax⟩:=lrE bi bg;refine sq2 (qU ?_)
      rcases bc hm with ⟨bk,hm⟩ | ⟨bk,hm⟩
      · refine pu ?_;refine cB Z5a hm (V0 (aw.bE (Z2 0 5) [5]) Z3 bj) ?_;rintro y5 _ _ _ _ ⟨_,c16,rfl,ay,az,_⟩ hm;refine cd hm ?_ ?_ <;> intro bR hm
        · refine pn ?_;refine blk (Z2k [0,1,0,2,2,2,0,2] [0,1,2,3,4,5,6,7] ay (L3 (U4 (L3 (U4 (U4 (N8)))))) fun bT aA aB=>pu ?_);obtain⟨U,aC,hm⟩:=Y0 hm
          rcases U with e1 | U
          · have hm:=J1 hm;refine s2 [(1,.slice K O c14)] rfl qZt rfl (by kernel_rfl) (Z1p Y2x rfl (I6 (p0:=y5.2) (aB.bE (Z2 0 5) [5]) Z3 (az.mono aA) _ aC) rfl fun v7 T9 bY bZ bm => ?_);obtain⟨_,c21,rfl,bn,_,_⟩:=bm;have hm:=S4 hm ax bh;exact pe hm (bn.sE [3,5])
          have hm:=N4 hm;refine sS [(1,.slice K O c14)] Y2x (I6 (aB.bE (Z2 0 5) [5]) Z3 (az.mono aA) _ aC) ?_;rintro _ _ _ _ ⟨bo,c17,_,c18,rfl,bp,bq,_,_⟩;refine s2W [] ?_;refine obS (r:=F0) (l:=([U.1]:List Y7)) (css := [(F5 U.1 bo c17)]) bp ⟨(Q2r (x:=U.1) bq:F0.rp _ _ _ _),qZt⟩ ?_;intro _ _ _ c19 _ bt;refine pu ?_;obtain⟨_,bu,hm⟩:=Y0 hm;refine s2W [0] ?_;refine oaO 1 bt (K3 bu) ?_;intro _ _ _ c20 _ bv;refine s2W [] ?_;refine osT 3 bv ?_;intro _ _ bw;refine pu ?_;exact lg hm ax (bw.sE (Z2 1 6))
        have dd:KD [(3,[]),(4,[3]),(5,[1,3,4]),(7,[1,3,4,5])]:=⟨qZt⟩;exact zr hm ay
      have dd:KD [(3,[]),(4,[3]),(5,[1,3,4]),(7,[1,3,4,5])]:=⟨qZt⟩;exact zr hm aw
    exact je hm (ao.sE [0,1,2,3,5,4])
  rintro _ w5 ⟨T2,x4,D,a6,n2,c6,a7,c7,⟨J,hm,rfl,bA,_⟩,h5⟩;refine qU ?_;refine cP Z6q hm (V2 (bA.bE [0,1,2,3,5] [4]) Z3 h5) ?_ ?_
  · rintro _ _ _ _ _ ⟨_,c30,rfl,bC,_,_⟩ hm;exact pe hm (bC.sE [3,5])
  rintro _ _ _ _ _ ⟨_,c29,rfl,bD,_,_⟩ hm;refine kE ?_;refine sT 1 bD ?_;intro _ _ bF;refine pn ?_;obtain⟨_,_,bG,_,rfl⟩:=bF.sl 4;obtain⟨_,_,bI,_,rfl⟩:=bG.sl 0;exact re hm (bI.sE [3,5])

instance : Ct 62 @I5:=⟨@I5,cf62⟩
theorem E5 {p0:Z0} (hS:Q38 a1 c1 Z5 T0 g w0 R p0) (Z3:Ln Z9 Z8 Z5) (h1:Q8 a1 c1 T0 w0 p0) : ∀ r,O6 p0=some r →
    Cl 63 #[pt Z9 Z8] w0 (exR r (fun r=>K2 T0 w0 (Q76 Z5 g R r.2 r.1)) (fun r=>C7 T0 w0 (Q4 Z5 g R r.1.pos r.1.e r.2 r.2.l))):=by
  intro r hm;refine enter func63 rfl ntmps63 rfl fun J => ?_;unfold O6 at hm;refine qN ?_;refine qN ?_;refine qU ?_;refine cP Z6q hm (V2 (hS.bE [0] [1]) Z3 h1) ?_ ?_
  · exact zk
  rintro _ _ T1 w1 _ ⟨_,c2,rfl,ar,h2,_⟩ hm;refine pn ?_;refine N5 hm (fun ah a O => ∃(U:_) (I:Z0) (V:_) (c3:_),JR (nf 35) g T1 w1 a O U (ah I=some r) [(0,pt Z9 Z8),(3,.slice none 0 0)] [Y6 R,Q1 V c3 Z5 I]∧Q8 V c3 U O I) (fun ah hm => ?_) ?_
  · exact zr hm ar
  rintro _ O ⟨U,I,V,c3,⟨J,hm,rfl,au,_⟩,h3⟩;refine sq2 (qU ?_);refine cB Z5a hm (V0 (au.bE [0] [1]) Z3 h3) ?_;rintro _ _ T7 w7 _ ⟨_,c6,rfl,ai,_,_⟩ hm;refine cd hm ?_ ?_ <;> intro aV hm
  · refine qN ?_;have ay:=ai.nilO Q1r 132;exact re hm (ay.sE [1,2,0])
  refine pn ?_;have az:=ai.nilO Q1r 132;refine lpJ hm (fun aj o1 m a W => ∃(T8:_) (K:Z0) (x2:List N0) (a7:_) (n1:_) (c7:_) (a8:_) (c8:_),JR (nf 35) g T7 w7 a W T8 (X5 aj m (x2,K)=some o1) [(0,pt Z9 Z8),(3,.slice a7 n1 c7)] [J2 Q1r 132 (.slice a7 n1 c7) x2,Y6 R,Q1 a8 c8 Z5 K]∧Q8 a8 c8 T8 W K) (fun _ _ h=>je h (az.sE [0,1,2])) ?_;rintro aj aA o1 am _ _ W ⟨T8,K,x2,a7,n1,c7,a8,c8,⟨J,aB,rfl,aC,_⟩,h7⟩;obtain⟨m1,_,rfl,hm,af⟩:=lrE aB aA;refine blk (qU ?_);refine cB cf55 hm (M8 (aC.bE [0,1] [2]) Z3 h7) ?_;rintro E _ _ _ aD ⟨rfl,aE,_⟩ hm;refine pu ?_;refine cP cf61 hm (F1 (aE.bE [0,1] [2]) Z3 (h7.mono aD)) ?_ ?_
  · exact zk
  rintro D _ _ _ _ ⟨_,c9,rfl,aF,h8,_⟩ hm;refine pv (G3 (by kernel_rfl) rfl (u := .agg #[iv E.Line,iv E.Col,qZs D.1.Word,qZs D.1.Name,iv D.1.Stars,qZs [],.slice none 0 0,.slice none 0 0,.bool false])) (aL zv4 aF ?_);intro _ _ _ aI;refine sT 0 aI ?_;intro _ _ aJ;refine kA ?_;refine cP cf59 hm (B4 (aJ.bE [0,1,2] [3]) Z3 (h8.mono ch)) ?_ ?_
  · exact zk
  rintro y8 _ _ _ _ ⟨_,c10,rfl,aK,h9,_⟩ hm;refine sT 0 aK ?_;intro _ _ aN;refine kE ?_;refine bS (r:=Q1r) (l:=([(⟨E,D.1,y8.1,[],[],false⟩:N0)]:List N0)) (css := [[iv E.Line,iv E.Col,Q23 D.1.Word.toArray,Q23 D.1.Name.toArray,iv D.1.Stars,Q23 y8.1.toArray,.slice none 0 0,.slice none 0 0,.bool false]]) aN ⟨(Z6x (x:=(⟨E,D.1,y8.1,[],[],false⟩:N0)) X7 X7:Q1r.rp _ _ _ _),qZt⟩ ?_;intro _ _ _ c11 _ aP;obtain⟨_,aQ,hm⟩:=Y0 hm;refine aO 2 aP (K3 aQ) ?_;intro _ _ _ c12 _ aR;refine kA ?_;refine cB Z5a hm (V0 (aR.bE [2,3] [4]) Z3 (h9.mono ch)) ?_;rintro _ _ _ _ _ ⟨_,c13,rfl,ao,aS,_⟩ hm;refine cd hm ?_ ?_ <;> intro aW hm
  · refine qU ?_;refine cP Z6q hm (V2 (ao.bE [0,1] [2]) Z3 aS) ?_ ?_
    · rintro _ _ _ _ _ ⟨_,c15,rfl,aT,_,_⟩ hm;have hm:=S4 hm af am;exact pe hm (aT.sE [1,2])
    rintro _ _ _ _ _ ⟨_,c14,rfl,aU,_,_⟩ hm;refine kD ?_;have hm:=S4 hm af am;exact re hm (aU.sE [1,2,0])
  exact lg hm af (ao.sE [0,1,2])

instance : Ct 63 @E5:=⟨@E5,cf63⟩
theorem Q7e {p0:Z0} (hS:Q38 a1 c1 Z5 T0 g w0 R p0) (Z3:Ln Z9 Z8 Z5) (h1:Q8 a1 c1 T0 w0 p0) : ∀ r,Q1n p0=some r →
    Cl 131 #[pt Z9 Z8] w0 (exR r (fun r=>K2 T0 w0 (Q62 Z5 g R r.1 r.2)) (fun r=>C7 T0 w0 (Q4 Z5 g R r.1.pos r.1.e r.2 r.2.l))):=by
  intro r hm;refine enter func131 rfl ntmps131 rfl fun J => ?_;unfold Q1n at hm;exact zr hm hS

instance : Ct 131 @Q7e:=⟨@Q7e,cf131⟩
theorem R3 {p0:Z0} {p1:List UInt8} (hS:Q38 a1 c1 Z5 T0 g w0 R p0) (Z3:Ln Z9 Z8 Z5) (h1:Q8 a1 c1 T0 w0 p0) : ∀ r,A8 p0 p1=some r →
    Cl 134 #[pt Z9 Z8,Q23 p1.toArray] w0 (exR r (fun r=>K2 T0 w0 (Q45 Z5 g R r.2 r.1)) (fun r=>C7 T0 w0 (Q4 Z5 g R r.1.pos r.1.e r.2 r.2.l))):=by
  intro r hm;refine enter func134 rfl ntmps134 rfl fun J => ?_;unfold A8 at hm;refine qN ?_;refine sq2 (qU ?_);refine cB Z5a hm (V0 (hS.bE [0] [1]) Z3 h1) ?_;rintro _ _ _ _ _ ⟨_,c2,rfl,D,h2,_⟩ hm;refine cd hm ?_ ?_ <;> intro U hm
  · refine qN ?_;have I:=D.nilO F0 208;exact re hm (I.sE [1,2,0])
  refine kA ?_;refine cP Y2x hm (I6 (D.bE [0] [1]) Z3 h2) ?_ ?_
  · exact zk
  rintro E _ _ _ _ ⟨K,c3,_,c4,rfl,O,_,_,_⟩ hm;have V:HL 1 F0 ([E.1]:List Y7) [(F5 E.1 K c3)]:=⟨qZt⟩;exact zr hm O

instance : Ct 134 @R3:=⟨@R3,cf134⟩
theorem Q9r {p0:Z0} {p1:F6} (hS:Sep g T0 w0 [Y6 R,Q1 a1 c1 Z5 p0,H6 (Z3l p1 a2 c2 a3 c3 a4 c4 a5 c5 a6 c6 a7 c7 a8 c8)]) (Z3:Ln Z9 Z8 Z5) (h1:Q8 a1 c1 T0 w0 p0) (Z0s:Ln Q0l Q0k H6) (h2:Q10 a2 c2 T0 w0 p1.A) (h3:Q10 a3 c3 T0 w0 p1.B) (h4:Q10 a4 c4 T0 w0 p1.C) (h5:Q39 a5 c5 T0 w0 p1.Var) (h6:Q35 a6 c6 T0 w0 p1.Body) (h7:Q35 a7 c7 T0 w0 p1.Else) (h8:Q90 a8 c8 T0 w0 p1.Cases) : ∀ r,Q6a p0 p1=some r →
    Cl 136 #[pt Z9 Z8,pt Q0l Q0k] w0 (exR r (fun r=>K2 T0 w0 fun T w v => ∃ a25 c25 a26 c26 a27 c27 a28 c28 a29 c29 a30 c30 a31 c31 a32 c32,v = .tuple #[]∧Q58 a25 a26 a27 a28 a29 a30 a31 a32 c25 c26 c27 c28 c29 c30 c31 c32 Z5 H6 T g w R r.1 r.2) (fun r=>C7 T0 w0 fun T w v => ∃ a25 c25 a26 c26 a27 c27 a28 c28 a29 c29 a30 c30 a31 c31 a32 c32,v = .iface 76 (Q25 r.1.pos r.1.e)∧Q58 a25 a26 a27 a28 a29 a30 a31 a32 c25 c26 c27 c28 c29 c30 c31 c32 Z5 H6 T g w R r.2.1 r.2.2)):=by
  intro r hm;refine enter func136 rfl ntmps136 rfl fun J => ?_;unfold Q6a at hm;refine blk (qU ?_);refine cB Z5a hm (V0 (hS.bE [0,2] [1]) Z3 h1) ?_;rintro _ _ _ _ _ ⟨_,c9,rfl,D,O,_⟩ hm;refine cd hm ?_ ?_ <;> intro ab hm
  · exact zr hm D
  refine qU ?_;refine cB Z5a hm (V0 (D.bE [0,1] [2]) Z3 O) ?_;rintro _ _ _ _ _ ⟨_,c13,rfl,E,U,_⟩ hm;refine cd hm ?_ ?_ <;> intro ac hm
  · exact zr hm E
  refine qU ?_;refine cB Z5a hm (V0 (E.bE [0,1] [2]) Z3 U) ?_;rintro _ _ _ _ _ ⟨_,c16,rfl,I,V,_⟩ hm;refine cd hm ?_ ?_ <;> intro ad hm
  · exact zr hm I
  refine qU ?_;refine cP Y2x hm (I6 (I.bE [0,1] [2]) Z3 V) ?_ ?_
  · exact zk
  rintro K _ _ _ _ ⟨W,c19,_,c20,rfl,aa,_,_,_⟩ hm;have ae:HL 1 F0 ([K.1]:List Y7) [(F5 K.1 W c19)]:=⟨qZt⟩;exact zr hm aa

instance : Ct 136 @Q9r:=⟨@Q9r,cf136⟩
def Q8q (F:Z0→Option (Except (Y2×Z0) ((List F6)×Z0))):Prop := ∀ {g:World} {T0:TP} {w0:World} {R:List Y9} {p0:Z0} {Z9 Z8:Nat} {Z5:List Value→Y9} {a1 c1} (hS:Q38 a1 c1 Z5 T0 g w0 R p0) (Z3:Ln Z9 Z8 Z5) (h1:Q8 a1 c1 T0 w0 p0),∀ r,F p0=some r →
    Cl 133 #[pt Z9 Z8] w0 (exR r (fun r=>K2 T0 w0 fun T w v => ∃ a12 c12 a13 c13,v=sv a12 r.1 c12∧Sep g T w (R ++ [Q1 a13 c13 Z5 r.2])∧SlR Q7l T w (sv a12 r.1 c12) r.1∧Q8 a13 c13 T w r.2∧True) (fun r=>C7 T0 w0 (Q4 Z5 g R r.1.pos r.1.e r.2 r.2.l)))
def Q7p (F:Z0→Option (Except (Y2×Z0) ((List Q0o)×Z0))):Prop := ∀ {g:World} {T0:TP} {w0:World} {R:List Y9} {p0:Z0} {Z9 Z8:Nat} {Z5:List Value→Y9} {a1 c1} (hS:Q38 a1 c1 Z5 T0 g w0 R p0) (Z3:Ln Z9 Z8 Z5) (h1:Q8 a1 c1 T0 w0 p0),∀ r,F p0=some r →
    Cl 135 #[pt Z9 Z8] w0 (exR r (fun r=>K2 T0 w0 fun T w v => ∃ a35 n11 c35 a36 c36,v = .slice a35 n11 c35∧Sep g T w (R ++ [Q1 a36 c36 Z5 r.2,J2 Z0j 274 (.slice a35 n11 c35) r.1])∧Q8 a36 c36 T w r.2∧True) (fun r=>C7 T0 w0 (Q4 Z5 g R r.1.pos r.1.e r.2 r.2.l)))
def Q8m (F:Z0→Option (Except (Y2×Z0) (F6×Z0))):Prop := ∀ {g:World} {T0:TP} {w0:World} {R:List Y9} {p0:Z0} {Z9 Z8:Nat} {Z5:List Value→Y9} {a1 c1} (hS:Q38 a1 c1 Z5 T0 g w0 R p0) (Z3:Ln Z9 Z8 Z5) (h1:Q8 a1 c1 T0 w0 p0),∀ r,F p0=some r →
    Cl 95 #[pt Z9 Z8] w0 (exR r (fun r=>K2 T0 w0 fun T w v => ∃ a88 c88 a89 c89 a90 c90 a91 c91 a92 c92 a93 c93 a94 c94 a95 c95,v = .agg (Z3l r.1 a88 c88 a89 c89 a90 c90 a91 c91 a92 c92 a93 c93 a94 c94).toArray∧Sep g T w (R ++ [Q1 a95 c95 Z5 r.2])∧Q10 a88 c88 T w r.1.A∧Q10 a89 c89 T w r.1.B∧Q10 a90 c90 T w r.1.C∧Q39 a91 c91 T w r.1.Var∧Q35 a92 c92 T w r.1.Body∧Q35 a93 c93 T w r.1.Else∧Q90 a94 c94 T w r.1.Cases∧Q8 a95 c95 T w r.2∧True) (fun r=>C7 T0 w0 (Q4 Z5 g R r.1.pos r.1.e r.2 r.2.l)))
def Q7q (F:Z0→Option (Except (Y2×Z0) ((List F6)×Z0))):Prop := ∀ {g:World} {T0:TP} {w0:World} {R:List Y9} {p0:Z0} {Z9 Z8:Nat} {Z5:List Value→Y9} {a1 c1} (hS:Q38 a1 c1 Z5 T0 g w0 R p0) (Z3:Ln Z9 Z8 Z5) (h1:Q8 a1 c1 T0 w0 p0),∀ r,F p0=some r →
    Cl 64 #[pt Z9 Z8] w0 (exR r (fun r=>K2 T0 w0 fun T w v => ∃ a18 n4 c18 a19 c19,v = .slice a18 n4 c18∧Sep g T w (R ++ [Q1 a19 c19 Z5 r.2,J2 Q7l 212 (.slice a18 n4 c18) r.1])∧Q8 a19 c19 T w r.2∧True) (fun r=>C7 T0 w0 (Q4 Z5 g R r.1.pos r.1.e r.2 r.2.l)))
structure Sp2 (G:Rec2):Prop where
  G0:Q8q G.G0
  C5:Q7p G.C5
  G6:Q8m G.G6
  F7:Q7q G.F7
theorem Y1x {G:Rec2} (hG:Sp2 G):Q8q (Q4n G):=by
  intro g _ _ R _ Z9 Z8 Z5 a1 c1 hS Z3 h1 r hm;refine enter func133 rfl ntmps133 rfl fun J => ?_;unfold Q4n at hm;refine qN ?_;refine qU ?_;refine cP cf95 hm (hG.G6 (hS.bE [0] [1]) Z3 h1) ?_ ?_
  · exact zk
  rintro D _ _ _ _ ⟨E,c2,I,c3,K,c4,O,c5,U,c6,V,c7,W,c8,_,c9,rfl,aa,h2,_,_,_,_,_,_,_,_⟩ hm;have ab:HL 1 Q7l ([D.1]:List F6) [(Z3l D.1 E c2 I c3 K c4 O c5 U c6 V c7 W c8)]:=⟨qZt⟩;exact zr hm aa
theorem Y0h {G:Rec2} (hG:Sp2 G):Q7p (Q3h G):=by
  intro g _ _ R _ Z9 Z8 Z5 a1 c1 hS Z3 h1 r hm;refine enter func135 rfl ntmps135 rfl fun J => ?_;unfold Q3h at hm;refine qN ?_;refine qN ?_;refine qU ?_;refine cP Z6q hm (V2 (hS.bE [0] [1]) Z3 h1) ?_ ?_
  · exact zk
  rintro _ _ T1 w1 _ ⟨_,c2,rfl,aJ,h2,_⟩ hm;refine pn ?_;refine sq2 ?_;have aK:=aJ.nilO Z0j 274;refine lpJ hm (fun au o1 m a w2 => ∃(T2:_) (x2:Z0) (U:List Q0o) (I:_) (K:_) (c3:_) (a4:_) (c4:_),JR (nf 57) g T1 w1 a w2 T2 (X5 au m (U,x2)=some o1) [(0,pt Z9 Z8),(3,.slice I K c3)] [J2 Z0j 274 (.slice I K c3) U,Y6 R,Q1 a4 c4 Z5 x2]∧Q8 a4 c4 T2 w2 x2) (fun _ _ h=>je h (aK.sE [0,1,2])) ?_;rintro au aM o1 aN _ _ w2 ⟨T2,x2,U,I,K,c3,a4,c4,⟨J,aP,rfl,aQ,_⟩,h3⟩;obtain⟨m1,z1,rfl,hm,ae⟩:=lrE aP aM;refine sq2 (qU ?_);refine cB Z5a hm (V0 (aQ.bE [0,1] [2]) Z3 h3) ?_;rintro _ _ _ _ _ ⟨_,c5,rfl,aw,h4,_⟩ hm;refine cd hm ?_ ?_ <;> intro b4 hm
  · refine pn ?_;refine blk (qU ?_);refine cB cf55 hm (M8 (aw.bE [0,1] [2]) Z3 h4) ?_;rintro y3 _ T4 _ _ ⟨rfl,aV,_⟩ hm;refine pv (G3 (by kernel_rfl) rfl (u := .agg #[iv y3.Line,iv y3.Col,.bool false,.int .u32 0,.slice none 0 0])) (aL zv20 aV ?_);intro _ b1 _ aW;refine sT 0 aW ?_;intro w6 _ aY;refine pn ?_;have aZ:=aY.nilO Q7l 212;refine N5 hm (fun ay a w7 => ∃(T5:_) (x5:Z0) (O:Q0o) (a6:_) (c6:_),JR (nf 57) g T4 w6 a w7 T5 (ay O x5=some z1) [(0,pt Z9 Z8),(3,.slice I K c3),(4,pt b1 0)] [J2 Q7l 212 (.slice none 0 0) O.Body,U6 b1 [iv O.Pos.Line,iv O.Pos.Col,.bool O.Default,.int .u32 O.Num,.slice none 0 0],J2 Z0j 274 (.slice I K c3) U,Y6 R,Q1 a6 c6 Z5 x5]∧Q8 a6 c6 T5 w7 x5) (fun ay hm => ?_) ?_
    · exact zr hm aZ
    rintro _ w7 ⟨T5,x5,O,a6,c6,⟨J,hm,rfl,a7,_⟩,h5⟩;refine qU ?_;refine cP Z6q hm (V2 (a7.bE (Z2 0 4) [4]) Z3 h5) ?_ ?_
    · exact zk
    rintro _ _ a9 ba _ ⟨_,c13,rfl,be,_,_⟩ hm;refine kE ?_;refine lpJ hm (fun az o2 m a ap => ∃(aq:_) (V:Z0) (D:Q0o) (E:_) (W:_) (c14:_) (ar:_) (c15:_),JR (nf 57) g a9 ba a ap aq (X5 az m (D,V)=some o2) [(0,pt Z9 Z8),(3,.slice I K c3),(4,pt b1 0)] [J2 Q7l 212 (.slice E W c14) D.Body,U6 b1 [iv D.Pos.Line,iv D.Pos.Col,.bool D.Default,.int .u32 D.Num,.slice E W c14],J2 Z0j 274 (.slice I K c3) U,Y6 R,Q1 ar c15 Z5 V]∧Q8 ar c15 aq ap V) (fun _ _ h=>je h (be.sE (Z2 0 5))) ?_;rintro az bf o2 ah _ _ ap ⟨aq,V,D,E,W,c14,ar,c15,⟨J,bg,rfl,bh,_⟩,aa⟩;obtain⟨_,_,rfl,hm,ab⟩:=lrE bg bf;refine sq2 (qU ?_);refine cB cf56 hm (C9 (bh.bE (Z2 0 4) [4]) Z3 aa) ?_;rintro _ _ _ _ bi ⟨rfl,aB,_⟩ hm;refine pu ?_
    rcases bc hm with ⟨bj,hm⟩ | ⟨bj,hm⟩
    · refine pu ?_;refine cB cf56 hm (C9 (aB.bE (Z2 0 4) [4]) Z3 (aa.mono bi)) ?_;rintro _ _ _ _ _ ⟨rfl,aC,_⟩ hm;refine pu ?_
      rcases bc hm with ⟨bk,hm⟩ | ⟨bk,hm⟩
      · refine pu ?_;refine cB cf56 hm (C9 (aC.bE (Z2 0 4) [4]) Z3 (aa.mono ch)) ?_;rintro _ _ _ _ _ ⟨rfl,aD,_⟩ hm;refine cd hm ?_ ?_ <;> intro b5 hm
        · refine pn ?_;refine blk (Z2k [0,1,0,2,2,2,0,2] [0,1,2,3,4,5,6,7] aD (L3 (U4 (L3 (U4 (L3 (U4 (L3 (U4 (N8))))))))) fun b6 b7 aE=>pu ?_);obtain⟨ac,aF,hm⟩:=Y0 hm
          rcases ac with e3 | ac
          · have hm:=J1 hm;refine s2 [(1,.slice E W c14)] rfl qZt rfl (by kernel_rfl) (Z1p cf95 rfl (hG.G6 (p0:=V) (aE.bE (Z2 0 4) [4]) Z3 (aa.mono ch) _ aF) rfl fun b9 cc ce cf bl => ?_);obtain⟨_,c26,rfl,bm,_,_⟩:=bl;have hm:=S4 hm ab ah;have hm:=S4 hm ae aN;exact pe hm (bm.sE [3,4])
          have hm:=N4 hm;refine sS [(1,.slice E W c14)] cf95 (hG.G6 (aE.bE (Z2 0 4) [4]) Z3 (aa.mono ch) _ aF) ?_;rintro _ _ _ _ ⟨bn,c16,bo,c17,bp,c18,bq,c19,bt,c20,bu,c21,bv,c22,_,c23,rfl,bw,bz,bA,bB,bC,bD,bF,bG,_,_⟩;refine s2W [] ?_;refine obS (r:=Q7l) (l:=([ac.1]:List F6)) (css := [(Z3l ac.1 bn c16 bo c17 bp c18 bq c19 bt c20 bu c21 bv c22)]) bw ⟨(Y6k (x:=ac.1) bz bA bB bC bD bF bG:Q7l.rp _ _ _ _),qZt⟩ ?_;intro _ _ _ c24 _ bI;refine pu ?_;obtain⟨_,bJ,hm⟩:=Y0 hm;refine s2W [0] ?_;refine oaO 1 bI (K3 bJ) ?_;intro _ _ _ c25 _ bK;refine s2W [] ?_;refine osT 2 bK ?_;intro _ _ bL;refine pu ?_;exact lg hm ab (bL.sE (Z2 1 5))
        have hm:=Q5r hm ab ah;refine pn ?_;obtain⟨_,_,bM,bN,rfl⟩:=aD.sl 0;refine bS (r:=Z0j) (l:=([D]:List Q0o)) (css := [(Y9y D E c14)]) bM ⟨(Y1m (x:=D) bN:Z0j.rp _ _ _ _),qZt⟩ ?_;intro _ _ _ c27 _ bO;obtain⟨_,bP,hm⟩:=Y0 hm;refine aO 3 bO (K3 bP) ?_;intro _ _ _ c28 _ bQ;exact lg hm ae (bQ.sE [3,4,5])
      refine pn ?_;refine cnd (b:=false) rfl (fun h=>nomatch h) (fun _ => ?_);have hm:=Q5r hm ab ah;refine pn ?_;obtain⟨_,_,bR,bT,rfl⟩:=aC.sl 0;refine bS (r:=Z0j) (l:=([D]:List Q0o)) (css := [(Y9y D E c14)]) bR ⟨(Y1m (x:=D) bT:Z0j.rp _ _ _ _),qZt⟩ ?_;intro _ _ _ c29 _ bU;obtain⟨_,bV,hm⟩:=Y0 hm;refine aO 3 bU (K3 bV) ?_;intro _ _ _ c30 _ bW;exact lg hm ae (bW.sE [3,4,5])
    refine pn ?_;refine cnd (b:=false) rfl (fun h=>nomatch h) (fun _ => ?_);have hm:=Q5r hm ab ah;refine pn ?_;obtain⟨_,_,bY,bZ,rfl⟩:=aB.sl 0;refine bS (r:=Z0j) (l:=([D]:List Q0o)) (css := [(Y9y D E c14)]) bY ⟨(Y1m (x:=D) bZ:Z0j.rp _ _ _ _),qZt⟩ ?_;intro _ _ _ c31 _ b0;obtain⟨_,b2,hm⟩:=Y0 hm;refine aO 3 b0 (K3 b2) ?_;intro _ _ _ _ _ b3;exact lg hm ae (b3.sE [3,4,5])
  exact zr hm aw
theorem Y1u {G:Rec2} (hG:Sp2 G):Q8m (Q4j G):=by
  intro g _ _ R _ Z9 Z8 Z5 a1 c1 hS Z3 h1 r hm;refine Y7a Tryz.func95 rfl Tryz.ntmps95 rfl fun J => ?_;unfold Q4j at hm;refine sq2 (aL zv11 hS ?_);intro _ U aB aC;refine kA ?_;refine cP X1r hm (I4 (aC.bE [0,1] [2]) Z3 (h1.mono aB)) ?_ ?_
  · rintro _ _ _ _ _ ⟨_,_,rfl,aD,_,_⟩ hm;exact pe hm (aD.sE [1,2])
  rintro _ _ _ _ _ ⟨D,_,c2,rfl,aE,h2,_⟩ hm;refine wl rfl (dfO (f:=169) (cap := #[pt D 0]) rfl (pn ?_));refine qU ?_;refine cB cf55 hm (M8 (aE.bE [0,1,3] [2]) Z3 h2) ?_;rintro y2 _ T2 _ _ ⟨rfl,aG,_⟩ hm;refine pv (G3 (by kernel_rfl) rfl (u := .agg #[iv 0,iv y2.Line,iv y2.Col,.slice none 0 0,.slice none 0 0,.slice none 0 0,.slice none 0 0,.slice none 0 0,.slice none 0 0,.slice none 0 0])) (aL zv11 aG ?_);intro _ O _ aI;refine sT 0 aI ?_;intro w5 _ aK;refine pn ?_;refine N5 hm (fun aj a E => ∃(I:_) (V:Z0) (K:F6) (W:_) (c3:_) (a4:_) (c4:_) (a5:_) (c5:_) (a6:_) (c6:_) (a7:_) (c7:_) (a8:_) (c8:_) (a9:_) (c9:_) (ag:_) (c10:_),JR (⟨98,[⟨.fn (.func 169) #[pt D 0],#[]⟩]⟩) g T2 w5 a E I (aj K V=some r) [(2,pt U 0),(3,pt O 0)] [U6 O (Z3l K W c3 a4 c4 a5 c5 a6 c6 a7 c7 a8 c8 a9 c9),U6 U zv11,Y6 R,U6 D [pt Z9 Z8],Q1 ag c10 Z5 V]∧Q10 W c3 I E K.A∧Q10 a4 c4 I E K.B∧Q10 a5 c5 I E K.C∧Q39 a6 c6 I E K.Var∧Q35 a7 c7 I E K.Body∧Q35 a8 c8 I E K.Else∧Q90 a9 c9 I E K.Cases∧Q8 ag c10 I E V) (fun aj hm => ?_) ?_
  · refine blk (qU ?_);refine cB cf93 hm (Q9q (aK.bE (Z2 0 4) [4]) Z3 (h2.mono ch)) ?_;rintro _ _ _ _ _ ⟨rfl,ak,_⟩ hm;refine cd hm ?_ ?_ <;> intro dr hm
    · refine pu ?_;refine cP cf131 hm (Q7e (ak.bE (Z2 0 4) [4]) Z3 (h2.mono ch)) ?_ ?_
      · rintro _ _ _ _ _ ⟨_,c15,rfl,aM,_,_⟩ hm;refine pn ?_;refine Q6m Q0d (H4 (args := [pt D 0]) Tryz.func169 rfl Tryz.ntmps169 rfl rfl fun J=>sB 4 3 Z3 aM ?_);intro _ _ aN;exact pe hm (aN.sE [2,4])
      rintro y4 _ _ _ _ ⟨aP,c11,aQ,c12,_,c13,rfl,aR,aS,aT,_,_⟩ hm;refine bS (r:=Q1r) (l:=([y4.1]:List N0)) (css := [(Y1k y4.1 aP c11 aQ c12)]) aR ⟨(Z6x (x:=y4.1) aS aT:Q1r.rp _ _ _ _),qZt⟩ ?_;intro _ _ _ c14 _ aU;refine sT 1 aU ?_;intro _ _ aV;refine sT 1 aV ?_;intro _ _ aW;obtain⟨_,_,aX,_,rfl⟩:=aW.sl 0;exact je hm (aX.sE (Z2 1 5))
    refine qU ?_;refine cB cf56 hm (C9 (ak.bE (Z2 0 4) [4]) Z3 (h2.mono ch)) ?_;rintro _ _ _ _ _ ⟨rfl,am,_⟩ hm;refine cd hm ?_ ?_ <;> intro ds hm
    · refine pu ?_;refine cP cf64 hm (hG.F7 (am.bE (Z2 0 4) [4]) Z3 (h2.mono ch)) ?_ ?_
      · rintro _ _ _ _ _ ⟨_,c18,rfl,aY,_,_⟩ hm;refine pn ?_;refine Q6m Q0d (H4 (args := [pt D 0]) Tryz.func169 rfl Tryz.ntmps169 rfl rfl fun J=>sB 4 3 Z3 aY ?_);intro _ _ aZ;exact pe hm (aZ.sE [2,4])
      rintro _ _ _ _ _ ⟨_,_,c16,_,c17,rfl,ba,_,_⟩ hm;refine sT 0 ba ?_;intro _ _ be;refine sT 0 be ?_;intro _ _ bf;obtain⟨_,_,bg,_,rfl⟩:=bf.sl 5;exact je hm (bg.sE (Z2 0 5))
    refine qU ?_;refine cB Z5a hm (V0 (am.bE (Z2 0 4) [4]) Z3 (h2.mono ch)) ?_;rintro _ _ _ _ _ ⟨_,c19,rfl,an,bh,_⟩ hm;refine cd hm ?_ ?_ <;> intro du hm
    · refine sT 0 an ?_;intro _ _ bi;exact je hm (bi.sE (Z2 0 5))
    refine qU ?_;refine cB Z5a hm (V0 (an.bE (Z2 0 4) [4]) Z3 bh) ?_;rintro _ _ _ _ _ ⟨_,c20,rfl,ao,ap,_⟩ hm;refine cd hm ?_ ?_ <;> intro dv hm
    · refine qU ?_;refine cP X1q hm (Q0p (ao.bE (Z2 0 4) [4]) Z3 ap) ?_ ?_
      · rintro _ _ _ _ _ ⟨_,c30,rfl,bj,_,_⟩ hm;refine pn ?_;refine Q6m Q0d (H4 (args := [pt D 0]) Tryz.func169 rfl Tryz.ntmps169 rfl rfl fun J=>sB 4 3 Z3 bj ?_);intro _ _ bk;exact pe hm (bk.sE [2,4])
      rintro _ _ _ _ _ ⟨_,_,c21,_,c22,rfl,bl,bm,_⟩ hm;refine sT 0 bl ?_;intro _ _ bn;refine sT 0 bn ?_;intro _ _ bo;refine kA ?_;refine cP X1p hm (hG.G0 (bo.bE [0,1,2,3,5] [4]) Z3 (bm.mono ch)) ?_ ?_
      · rintro _ _ _ _ _ ⟨_,c29,rfl,bp,_,_⟩ hm;refine pn ?_;refine Q6m Q0d (H4 (args := [pt D 0]) Tryz.func169 rfl Tryz.ntmps169 rfl rfl fun J=>sB 5 3 Z3 bp ?_);intro _ _ bq;exact pe hm (bq.sE [2,5])
      rintro _ _ _ _ _ ⟨_,c23,_,c24,rfl,bt,_,bu,_⟩ hm;refine sT 0 bt ?_;intro _ bv bw;refine kA ?_;refine cB Z5a hm (V0 (bw.bE (Z2 0 5) [5]) Z3 (bu.mono bv)) ?_;rintro bz _ _ _ _ ⟨_,c25,rfl,aq,bA,_⟩ hm;refine nil (K1 [(0,pt Z9 Z8),(2,pt U 0),(3,pt O 0),(41,.bool bz.1)] ⟨rfl,rfl,rfl,rfl,qZt⟩ fun J => ?_);refine cd hm ?_ ?_ <;> intro dw hm
      · refine pu ?_;refine cP X1p hm (hG.G0 (aq.bE (Z2 0 5) [5]) Z3 bA) ?_ ?_
        · rintro _ _ _ _ _ ⟨_,c28,rfl,bB,_,_⟩ hm;refine pn ?_;refine Q6m Q0d (H4 (args := [pt D 0]) Tryz.func169 rfl Tryz.ntmps169 rfl rfl fun J=>sB 5 3 Z3 bB ?_);intro _ _ bC;exact pe hm (bC.sE [2,5])
        rintro _ _ _ _ _ ⟨_,c26,_,c27,rfl,bD,_,_,_⟩ hm;refine sT 0 bD ?_;intro _ _ bF;obtain⟨_,_,bG,_,rfl⟩:=bF.sl 4;exact je hm (bG.sE [0,1,2,3,5])
      obtain⟨_,_,bI,_,rfl⟩:=aq.sl 4;exact je hm (bI.sE [0,1,2,3,5])
    refine qU ?_;refine cB Z5a hm (V0 (ao.bE (Z2 0 4) [4]) Z3 ap) ?_;rintro _ _ _ _ _ ⟨_,c31,rfl,ar,au,_⟩ hm;refine cd hm ?_ ?_ <;> intro dx hm
    · refine qU ?_;refine cP X1q hm (Q0p (ar.bE (Z2 0 4) [4]) Z3 au) ?_ ?_
      · rintro _ _ _ _ _ ⟨_,_,rfl,bJ,_,_⟩ hm;refine pn ?_;refine Q6m Q0d (H4 (args := [pt D 0]) Tryz.func169 rfl Tryz.ntmps169 rfl rfl fun J=>sB 4 3 Z3 bJ ?_);intro _ _ bK;exact pe hm (bK.sE [2,4])
      rintro _ _ _ _ _ ⟨_,_,_,_,_,rfl,bL,bM,_⟩ hm;refine sT 0 bL ?_;intro _ _ bN;refine sT 0 bN ?_;intro _ _ bO;refine pn ?_;refine cP X1p hm (hG.G0 (bO.bE [0,1,2,3,5] [4]) Z3 (bM.mono ch)) ?_ ?_
      · rintro _ _ _ _ _ ⟨_,_,rfl,bP,_,_⟩ hm;refine pn ?_;refine Q6m Q0d (H4 (args := [pt D 0]) Tryz.func169 rfl Tryz.ntmps169 rfl rfl fun J=>sB 5 3 Z3 bP ?_);intro _ _ bQ;exact pe hm (bQ.sE [2,5])
      rintro _ _ _ _ _ ⟨_,_,_,_,rfl,bR,_,_,_⟩ hm;refine sT 0 bR ?_;intro _ _ bT;obtain⟨_,_,bU,_,rfl⟩:=bT.sl 4;exact je hm (bU.sE [0,1,2,3,5])
    refine qU ?_;refine cB Z5a hm (V0 (ar.bE (Z2 0 4) [4]) Z3 au) ?_;rintro _ _ _ _ _ ⟨_,_,rfl,av,aw,_⟩ hm;refine cd hm ?_ ?_ <;> intro dy hm
    · refine qU ?_;refine cP X1p hm (hG.G0 (av.bE (Z2 0 4) [4]) Z3 aw) ?_ ?_
      · rintro _ _ _ _ _ ⟨_,_,rfl,bV,_,_⟩ hm;refine pn ?_;refine Q6m Q0d (H4 (args := [pt D 0]) Tryz.func169 rfl Tryz.ntmps169 rfl rfl fun J=>sB 4 3 Z3 bV ?_);intro _ _ bW;exact pe hm (bW.sE [2,4])
      rintro _ _ _ _ _ ⟨_,_,_,_,rfl,bY,_,bZ,_⟩ hm;refine sT 0 bY ?_;intro _ _ b0;refine sT 0 b0 ?_;intro _ _ b4;refine nil (K1 [(0,pt Z9 Z8),(2,pt U 0),(3,pt O 0)] ⟨rfl,rfl,rfl,qZt⟩ fun J=>qU ?_);refine cP Z6q hm (V2 (b4.bE (Z2 0 4) [4]) Z3 (bZ.mono ch)) ?_ ?_
      · rintro _ _ _ _ _ ⟨_,_,rfl,b5,_,_⟩ hm;refine pn ?_;refine Q6m Q0d (H4 (args := [pt D 0]) Tryz.func169 rfl Tryz.ntmps169 rfl rfl fun J=>sB 4 3 Z3 b5 ?_);intro _ _ b6;exact pe hm (b6.sE [2,4])
      rintro _ _ _ _ _ ⟨_,_,rfl,b7,b8,_⟩ hm;refine kA ?_;refine cP X1q hm (Q0p (b7.bE (Z2 0 4) [4]) Z3 b8) ?_ ?_
      · rintro _ _ _ _ _ ⟨_,_,rfl,b9,_,_⟩ hm;refine pn ?_;refine Q6m Q0d (H4 (args := [pt D 0]) Tryz.func169 rfl Tryz.ntmps169 rfl rfl fun J=>sB 4 3 Z3 b9 ?_);intro _ _ cc;exact pe hm (cc.sE [2,4])
      rintro _ _ _ _ _ ⟨_,_,_,_,_,rfl,ce,cf,_⟩ hm;refine sT 0 ce ?_;intro _ cg ci;refine pn ?_;refine cP Z6q hm (V2 (ci.bE [0,1,2,3,5] [4]) Z3 (cf.mono cg)) ?_ ?_
      · rintro _ _ _ _ _ ⟨_,_,rfl,cj,_,_⟩ hm;refine pn ?_;refine Q6m Q0d (H4 (args := [pt D 0]) Tryz.func169 rfl Tryz.ntmps169 rfl rfl fun J=>sB 5 3 Z3 cj ?_);intro _ _ ck;exact pe hm (ck.sE [2,5])
      rintro _ _ _ _ _ ⟨_,_,rfl,cl,_,_⟩ hm;obtain⟨_,_,cm,_,rfl⟩:=cl.sl 4;exact je hm (cm.sE [0,1,2,3,5])
    refine qU ?_;refine cB Z5a hm (V0 (av.bE (Z2 0 4) [4]) Z3 aw) ?_;rintro cn _ _ _ _ ⟨_,_,rfl,ax,ay,_⟩ hm;refine pu ?_;refine nil (K1 [(0,pt Z9 Z8),(2,pt U 0),(3,pt O 0),(69,.bool cn.1)] ⟨rfl,rfl,rfl,rfl,qZt⟩ fun J => ?_);refine cd hm ?_ ?_ <;> intro dz hm
    · refine sq2 (sT 0 ax ?_);intro w64 co cp;refine kA ?_;refine cP Z6q hm (V2 (cp.bE (Z2 0 4) [4]) Z3 (ay.mono co)) ?_ ?_
      · rintro _ _ _ _ _ ⟨_,_,rfl,cq,_,_⟩ hm;refine pn ?_;refine Q6m Q0d (H4 (args := [pt D 0]) Tryz.func169 rfl Tryz.ntmps169 rfl rfl fun J=>sB 4 3 Z3 cq ?_);intro _ _ cr;exact pe hm (cr.sE [2,4])
      rintro _ _ _ _ _ ⟨_,_,rfl,ct,cu,_⟩ hm;refine kA ?_;refine cP cf134 hm (R3 (ct.bE (Z2 0 4) [4]) Z3 cu) ?_ ?_
      · rintro _ _ _ _ _ ⟨_,_,rfl,cv,_,_⟩ hm;refine pn ?_;refine Q6m Q0d (H4 (args := [pt D 0]) Tryz.func169 rfl Tryz.ntmps169 rfl rfl fun J=>sB 4 3 Z3 cv ?_);intro _ _ cw;exact pe hm (cw.sE [2,4])
      rintro _ _ _ _ _ ⟨_,_,_,_,_,rfl,cy,cz,_⟩ hm;refine pu ?_;refine cP cf134 hm (R3 (cy.bE [0,1,2,3,5] [4]) Z3 cz) ?_ ?_
      · rintro _ _ _ _ _ ⟨_,_,rfl,cA,_,_⟩ hm;refine pn ?_;refine Q6m Q0d (H4 (args := [pt D 0]) Tryz.func169 rfl Tryz.ntmps169 rfl rfl fun J=>sB 5 3 Z3 cA ?_);intro _ _ cC;exact pe hm (cC.sE [2,5])
      rintro _ _ _ _ _ ⟨_,_,_,_,_,rfl,cD,cE,_⟩ hm;refine pu ?_;refine cP cf134 hm (R3 (cD.bE (Z2 0 5 ++ [6]) [5]) Z3 cE) ?_ ?_
      · rintro _ _ _ _ _ ⟨_,_,rfl,cF,_,_⟩ hm;refine pn ?_;refine Q6m Q0d (H4 (args := [pt D 0]) Tryz.func169 rfl Tryz.ntmps169 rfl rfl fun J=>sB 6 3 Z3 cF ?_);intro _ _ cG;exact pe hm (cG.sE [2,6])
      rintro _ _ _ _ _ ⟨_,_,_,_,_,rfl,cI,cJ,_⟩ hm;refine sT 0 cI ?_;intro _ _ cK;refine sT 0 cK ?_;intro _ _ cL;refine sT 0 cL ?_;intro _ _ cM;refine pn ?_;refine cP X1p hm (hG.G0 (cM.bE (Z2 0 6 ++ [7]) [6]) Z3 (cJ.mono ch)) ?_ ?_
      · rintro _ _ _ _ _ ⟨_,_,rfl,cO,_,_⟩ hm;refine pn ?_;refine Q6m Q0d (H4 (args := [pt D 0]) Tryz.func169 rfl Tryz.ntmps169 rfl rfl fun J=>sB 7 3 Z3 cO ?_);intro _ _ cQ;exact pe hm (cQ.sE [2,7])
      rintro _ _ _ _ _ ⟨_,_,_,_,rfl,cR,_,_,_⟩ hm;refine sT 0 cR ?_;intro _ _ cT;obtain⟨_,_,cU,_,rfl⟩:=cT.sl 4;obtain⟨_,_,cV,_,rfl⟩:=cU.sl 5;obtain⟨_,_,cW,_,rfl⟩:=cV.sl 6;exact je hm (cW.sE [0,1,2,3,7])
    refine qU ?_;refine cB Z5a hm (V0 (ax.bE (Z2 0 4) [4]) Z3 ay) ?_;rintro _ _ _ _ _ ⟨_,_,rfl,az,aA,_⟩ hm;refine cd hm ?_ ?_ <;> intro dA hm
    · refine qU ?_;refine cP X1q hm (Q0p (az.bE (Z2 0 4) [4]) Z3 aA) ?_ ?_
      · rintro _ _ _ _ _ ⟨_,_,rfl,cX,_,_⟩ hm;refine pn ?_;refine Q6m Q0d (H4 (args := [pt D 0]) Tryz.func169 rfl Tryz.ntmps169 rfl rfl fun J=>sB 4 3 Z3 cX ?_);intro _ _ cY;exact pe hm (cY.sE [2,4])
      rintro _ _ _ _ _ ⟨_,_,_,_,_,rfl,cZ,da,_⟩ hm;refine sT 0 cZ ?_;intro _ _ db;refine sT 0 db ?_;intro _ _ dc;refine pn ?_;refine cP cf135 hm (hG.C5 (dc.bE [0,1,2,3,5] [4]) Z3 (da.mono ch)) ?_ ?_
      · rintro _ _ _ _ _ ⟨_,_,rfl,dd,_,_⟩ hm;refine pn ?_;refine Q6m Q0d (H4 (args := [pt D 0]) Tryz.func169 rfl Tryz.ntmps169 rfl rfl fun J=>sB 5 3 Z3 dd ?_);intro _ _ de;exact pe hm (de.sE [2,5])
      rintro _ _ _ _ _ ⟨_,_,_,_,_,rfl,dg,_,_⟩ hm;refine sT 0 dg ?_;intro _ _ dh;obtain⟨_,_,di,_,rfl⟩:=dh.sl 4;obtain⟨_,_,dj,_,rfl⟩:=di.sl 6;exact je hm (dj.sE [0,1,2,3,5])
    refine pu ?_;refine cP cf136 hm (Q9r (az.bE [1,2,3] [4,0]) Z3 aA (Q3m O) X7 X7 X7 X7 X7 X7 X7) ?_ ?_
    · rintro _ _ _ _ _ ⟨_,_,_,_,_,_,_,_,_,_,_,_,_,_,_,_,rfl,dk,_,_,_,_,_,_,_,_,_⟩ hm;refine pn ?_;refine Q6m Q0d (H4 (args := [pt D 0]) Tryz.func169 rfl Tryz.ntmps169 rfl rfl fun J=>sB 3 3 Z3 dk ?_);intro _ _ dl;exact pe hm (dl.sE [1,3])
    rintro _ _ _ _ _ ⟨_,_,_,_,_,_,_,_,_,_,_,_,_,_,_,_,rfl,dm,_,_,_,_,_,_,_,_,_⟩ hm;exact je hm (dm.sE [4,0,1,2,3])
  rintro _ E ⟨I,V,K,W,c3,a4,c4,a5,c5,a6,c6,a7,c7,a8,c8,a9,c9,ag,c10,⟨J,hm,rfl,dn,_⟩,_,_,_,_,_,_,_,_⟩;refine sq2 (sT 1 dn ?_);intro _ _ dp;refine pn ?_;refine pn ?_;refine retD Q0d (H4 (args := [pt D 0]) Tryz.func169 rfl Tryz.ntmps169 rfl rfl fun J=>sB 4 3 Z3 dp ?_);intro _ _ dq;exact eo hm (dq.sE [2,4])
theorem Y0i {G:Rec2} (hG:Sp2 G):Q7q (Q3i G):=by
  intro g _ _ R _ Z9 Z8 Z5 a1 c1 hS Z3 h1 r hm;refine enter func64 rfl ntmps64 rfl fun J => ?_;unfold Q3i at hm;refine qN ?_;refine qN ?_;refine qU ?_;refine cP Z6q hm (V2 (hS.bE [0] [1]) Z3 h1) ?_ ?_
  · exact zk
  rintro _ _ T1 w1 _ ⟨_,c2,rfl,af,h2,_⟩ hm;refine pn ?_;refine sq2 ?_;have ag:=af.nilO Q7l 212;refine lpJ hm (fun aa o1 m a E => ∃(I:_) (D:Z0) (K:List F6) (O:_) (U:_) (c3:_) (V:_) (c4:_),JR (nf 15) g T1 w1 a E I (X5 aa m (K,D)=some o1) [(0,pt Z9 Z8),(3,.slice O U c3)] [J2 Q7l 212 (.slice O U c3) K,Y6 R,Q1 V c4 Z5 D]∧Q8 V c4 I E D) (fun _ _ h=>je h (ag.sE [0,1,2])) ?_;rintro aa ah o1 _ _ _ E ⟨I,D,K,O,U,c3,V,c4,⟨J,ai,rfl,aj,_⟩,h3⟩;obtain⟨m1,_,rfl,hm,am⟩:=lrE ai ah;refine sq2 (qU ?_);refine cB Z5a hm (V0 (aj.bE [0,1] [2]) Z3 h3) ?_;rintro _ _ _ _ _ ⟨_,c5,rfl,ac,h4,_⟩ hm;refine cd hm ?_ ?_ <;> intro aJ hm
  · refine pn ?_;refine blk (pu ?_);refine cP cf95 hm (hG.G6 (ac.bE [0,1] [2]) Z3 h4) ?_ ?_
    · exact zk
    rintro W _ _ _ _ ⟨a6,c6,a7,c7,a8,c8,a9,c9,au,c10,av,c11,aw,c12,_,c13,rfl,ax,h5,h6,h7,h8,h9,aD,aE,_,_⟩ hm;refine bS (r:=Q7l) (l:=([W.1]:List F6)) (css := [(Z3l W.1 a6 c6 a7 c7 a8 c8 a9 c9 au c10 av c11 aw c12)]) ax ⟨(Y6k (x:=W.1) h5 h6 h7 h8 h9 aD aE:Q7l.rp _ _ _ _),qZt⟩ ?_;intro _ _ _ c14 _ aF;obtain⟨_,aG,hm⟩:=Y0 hm;refine aO 1 aF (K3 aG) ?_;intro _ _ _ c15 _ aI;exact lg hm am (aI.sE [1,2,3])
  exact zr hm ac
theorem sp2 : ∀ n,Sp2 (Z5j n)
  | 0=>⟨(by unfold Q8q; intros; rename_i h; cases (show (none:Option _)=some _ from h)),(by unfold Q7p; intros; rename_i h; cases (show (none:Option _)=some _ from h)),(by unfold Q8m; intros; rename_i h; cases (show (none:Option _)=some _ from h)),(by unfold Q7q; intros; rename_i h; cases (show (none:Option _)=some _ from h))⟩
  | n+1=>⟨Y1x (sp2 n),Y0h (sp2 n),Y1u (sp2 n),Y0i (sp2 n)⟩
theorem X0n:Q8q G0:=(sp2 NN).G0
theorem X0f:Q7p C5:=(sp2 NN).C5
theorem X0k:Q8m G6:=(sp2 NN).G6
theorem Z3j:Q7q F7:=(sp2 NN).F7
end Go.Proofs.YtbfpdnogfkbiaaaGreat
