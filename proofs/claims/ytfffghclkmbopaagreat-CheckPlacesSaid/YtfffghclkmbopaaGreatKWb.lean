/- That Go functions compute their models. Printed by gen2.py. -/
import Derived.Test.YtfffghclkmbopaaGreatKWa
set_option linter.unusedVariables false
namespace Go.Proofs.YtfffghclkmbopaaGreat
open _root_.Go.Proofs.Tryz
set_option maxRecDepth 100000
set_option maxHeartbeats 8000000
attribute [local irreducible] wpList wpQuiet Code.wp
variable {g:World} {T0:Nat→Prop} {w0:World} {R:List Y8}
variable {b1 b2 Y2 Q1c Y0d Y0c Y0z c1 c2 c3 c4 c5 c6 c7 c8 c9 c10 c11 c12 c13 n1 n2 n3 n4 n5 n6 n7 Y1 Q0x Y0a Z9z Y0u oo1 oo2:Nat} {H1 H2 Z5 R5 Z7c Z7b Y0e:List Value→Y8} {a1 a2 a3 a4 a5 a6 a7 a8 a9 a10 a11 a12 a13:OA} {r1 r2:Option Nat} {pv1:Value}
attribute [local irreducible] C7 Q0q execOp Program.underlying sizeOf isAgg zeroValue

def Q1s (F:Z0→Option (Except (Y0×Z0) ((List Z8)×Z0))):Prop := ∀ {g:World} {T0:TP} {w0:World} {R:List Y8} {p0:Z0} {Y2 Y1:Nat} {Z5:List Value→Y8} {a1 c1} (hS:Q28 a1 c1 Z5 T0 g w0 R p0) (Z2:Ln Y2 Y1 Z5) (h1:Q5 a1 c1 T0 w0 p0),∀ r,F p0=some r →
    Calls Tryz.prog 122 #[pt Y2 Y1] w0 (exR r (fun r=>U7 T0 w0 (Q31 Z5 g R r.2 r.1)) (fun r=>A5 T0 w0 (Q3 Z5 g R r.1.pos r.1.e r.2 r.2.l)))
def Q4m (F:Z0→Option (Except (Y0×Z0) ((List Z8)×Z0))):Prop := ∀ {g:World} {T0:TP} {w0:World} {R:List Y8} {p0:Z0} {Y2 Y1:Nat} {Z5:List Value→Y8} {a1 c1} (hS:Q28 a1 c1 Z5 T0 g w0 R p0) (Z2:Ln Y2 Y1 Z5) (h1:Q5 a1 c1 T0 w0 p0),∀ r,F p0=some r →
    Calls Tryz.prog 199 #[pt Y2 Y1] w0 (exR r (fun r=>U7 T0 w0 (Q31 Z5 g R r.2 r.1)) (fun r=>A5 T0 w0 (Q3 Z5 g R r.1.pos r.1.e r.2 r.2.l)))
def Q5n (F:Z0→Option (Except (Y0×Z0) (Z8×Z0))):Prop := ∀ {g:World} {T0:TP} {w0:World} {R:List Y8} {p0:Z0} {Y2 Y1:Nat} {Z5:List Value→Y8} {a1 c1} (hS:Q28 a1 c1 Z5 T0 g w0 R p0) (Z2:Ln Y2 Y1 Z5) (h1:Q5 a1 c1 T0 w0 p0),∀ r,F p0=some r →
    Calls Tryz.prog 197 #[pt Y2 Y1] w0 (exR r (fun r=>U7 T0 w0 (Q13 Z5 g R r.1 r.2 r.1.Kids)) (fun r=>A5 T0 w0 (Q3 Z5 g R r.1.pos r.1.e r.2 r.2.l)))
def Q6h (F:Z0→Option (Except (Y0×Z0) (Z8×Z0))):Prop := ∀ {g:World} {T0:TP} {w0:World} {R:List Y8} {p0:Z0} {Y2 Y1:Nat} {Z5:List Value→Y8} {a1 c1} (hS:Q28 a1 c1 Z5 T0 g w0 R p0) (Z2:Ln Y2 Y1 Z5) (h1:Q5 a1 c1 T0 w0 p0),∀ r,F p0=some r →
    Calls Tryz.prog 192 #[pt Y2 Y1] w0 (exR r (fun r=>U7 T0 w0 (Q13 Z5 g R r.1 r.2 r.1.Kids)) (fun r=>A5 T0 w0 (Q3 Z5 g R r.1.pos r.1.e r.2 r.2.l)))
def Q5l (F:Z0→Option (Except (Y0×Z0) (Z8×Z0))):Prop := ∀ {g:World} {T0:TP} {w0:World} {R:List Y8} {p0:Z0} {Y2 Y1:Nat} {Z5:List Value→Y8} {a1 c1} (hS:Q28 a1 c1 Z5 T0 g w0 R p0) (Z2:Ln Y2 Y1 Z5) (h1:Q5 a1 c1 T0 w0 p0),∀ r,F p0=some r →
    Calls Tryz.prog 174 #[pt Y2 Y1] w0 (exR r (fun r=>U7 T0 w0 (Q13 Z5 g R r.1 r.2 r.1.Kids)) (fun r=>A5 T0 w0 (Q3 Z5 g R r.1.pos r.1.e r.2 r.2.l)))
def Q4o (F:Z0→Int→Option (Except (Y0×Z0) (Z8×Z0))):Prop := ∀ {g:World} {T0:TP} {w0:World} {R:List Y8} {p0:Z0} {Y2 Y1:Nat} {Z5:List Value→Y8} {a1 c1 p1} (hS:Q28 a1 c1 Z5 T0 g w0 R p0) (Z2:Ln Y2 Y1 Z5) (h1:Q5 a1 c1 T0 w0 p0),∀ r,F p0 p1=some r →
    Calls Tryz.prog 154 #[pt Y2 Y1,iv p1] w0 (exR r (fun r=>U7 T0 w0 (Q13 Z5 g R r.1 r.2 r.1.Kids)) (fun r=>A5 T0 w0 (Q3 Z5 g R r.1.pos r.1.e r.2 r.2.l)))
def Q6j (F:Z0→Option (Except (Y0×Z0) (Z8×Z0))):Prop := ∀ {g:World} {T0:TP} {w0:World} {R:List Y8} {p0:Z0} {Y2 Y1:Nat} {Z5:List Value→Y8} {a1 c1} (hS:Q28 a1 c1 Z5 T0 g w0 R p0) (Z2:Ln Y2 Y1 Z5) (h1:Q5 a1 c1 T0 w0 p0),∀ r,F p0=some r →
    Calls Tryz.prog 117 #[pt Y2 Y1] w0 (exR r (fun r=>U7 T0 w0 (Q13 Z5 g R r.1 r.2 r.1.Kids)) (fun r=>A5 T0 w0 (Q3 Z5 g R r.1.pos r.1.e r.2 r.2.l)))
def Q4p (F:Z0→Option (Except (Y0×Z0) (Z8×Z0))):Prop := ∀ {g:World} {T0:TP} {w0:World} {R:List Y8} {p0:Z0} {Y2 Y1:Nat} {Z5:List Value→Y8} {a1 c1} (hS:Q28 a1 c1 Z5 T0 g w0 R p0) (Z2:Ln Y2 Y1 Z5) (h1:Q5 a1 c1 T0 w0 p0),∀ r,F p0=some r →
    Calls Tryz.prog 91 #[pt Y2 Y1] w0 (exR r (fun r=>U7 T0 w0 (Q13 Z5 g R r.1 r.2 r.1.Kids)) (fun r=>A5 T0 w0 (Q3 Z5 g R r.1.pos r.1.e r.2 r.2.l)))
structure Sp1 (G:Z7w):Prop where
  U9:Q1s G.U9
  E1:Q4m G.E1
  A2:Q5n G.A2
  C8:Q6h G.C8
  F5:Q5l G.F5
  E2:Q4o G.E2
  B4:Q6j G.B4
  X5:Q4p G.X5
theorem Z4t {G:Z7w} (hG:Sp1 G):Q1s (W9 G):=by
  intro g _ _ R _ Y2 Y1 Z5 a1 c1 hS Z2 h1 r hm;refine enter func122 rfl ntmps122 rfl fun J => ?_;unfold W9 at hm;refine sq2 (pn ?_);refine sq2 (pu ?_);refine cP Q9t hm (X1 (hS.bun [0] [1] rfl) Z2 h1) ?_ ?_
  · exact zk
  rintro _ _ _ _ _ ⟨_,c2,rfl,E,h2,_⟩ hm;refine pn ?_;refine sq2 (pu ?_);refine cP Y0y hm (hG.X5 (E.bun [0] [1] rfl) Z2 h2) ?_ ?_
  · rintro _ _ _ _ _ ⟨_,c8,rfl,I,_,_⟩ hm;exact pe hm (I.sel [0,1] rfl)
  rintro D _ _ _ _ ⟨K,c3,_,c4,rfl,O,h3,U,_⟩ hm;refine aL zv2 O ?_;intro _ _ _ V;refine sT 0 V ?_;intro _ _ W;refine pn ?_;refine sq2 (pu ?_);refine cP Q9t hm (X1 (W.bun [0,1] [2] rfl) Z2 (U.mono ch)) ?_ ?_
  · rintro _ _ _ _ _ ⟨_,c7,rfl,aa,h6,_⟩ hm;exact pe hm (aa.sel [1,2] rfl)
  rintro _ _ _ _ _ ⟨_,c5,rfl,ab,_,_⟩ hm;refine pn ?_;refine sq2 (bS (r:=K5) (l:=([D.1]:List Z8)) (css := [(F8 D.1 K c3)]) ab ⟨(L8 (x:=D.1) (h3.mono ch):K5.rp _ _ _ _),qZt⟩ ?_);intro _ _ _ c6 _ ac;exact re hm (ac.sel [2,3,0] rfl)
theorem Z7l {G:Z7w} (hG:Sp1 G):Q4m (Q1k G):=by
  intro g _ _ R _ Y2 Y1 Z5 a1 c1 hS Z2 h1 r hm;refine enter func199 rfl ntmps199 rfl fun J => ?_;unfold Q1k at hm;refine sq2 (pn ?_);refine sq2 (pu ?_);refine cP Q9t hm (X1 (hS.bun [0] [1] rfl) Z2 h1) ?_ ?_
  · exact zk
  rintro _ _ _ _ _ ⟨_,c2,rfl,ai,h2,_⟩ hm;refine pn ?_;refine sq2 (sq2 (pu ?_));refine cB Z3d hm (X8 (ai.bun [0] [1] rfl) Z2 h2) ?_;rintro _ _ _ _ _ ⟨_,c3,rfl,ac,h3,_⟩ hm;refine cd hm ?_ ?_ <;> intro aF hm
  · refine sq2 (pn ?_);have aj:=ac.nilO K5 136;exact re hm (aj.sel [1,2,0] rfl)
  refine pn ?_;refine sq2 (pu ?_);refine cP Y0y hm (hG.X5 (ac.bun [0] [1] rfl) Z2 h3) ?_ ?_
  · exact zk
  rintro E _ T3 _ _ ⟨a4,c4,_,c5,rfl,an,h4,_,_⟩ hm;refine bS (r:=K5) (l:=([E.1]:List Z8)) (css := [(F8 E.1 a4 c4)]) an ⟨(L8 (x:=E.1) h4:K5.rp _ _ _ _),qZt⟩ ?_;intro w4 _ _ c6 _ aq;refine pn ?_;refine sq2 (lpJ hm (fun ad o1 m a I => ∃(K:_) (D:Z0) (O:List Z8) (U:_) (V:_) (c7:_) (W:_) (c8:_),JR (nf 21) g T3 w4 a I K (loopM ad m (O,D)=some o1) [(0,pt Y2 Y1),(3,.slice U V c7)] [K3 K5 136 (.slice U V c7) O,Y5 R,Q1 W c8 Z5 D]∧Q5 W c8 K I D) (fun _ _ h=>je h (aq.sel [0,1,2] rfl)) ?_);rintro ad ar o1 af _ _ I ⟨K,D,O,U,V,c7,W,c8,⟨J,au,rfl,av,_⟩,h6⟩;obtain⟨m1,_,rfl,hm,aa⟩:=lrE au ar;refine sq2 (sq2 (pu ?_));refine cB Z3d hm (X8 (av.bun [0,1] [2] rfl) Z2 h6) ?_;rintro _ _ _ _ _ ⟨_,c9,rfl,ag,h7,_⟩ hm;refine cd hm ?_ ?_ <;> intro aG hm
  · refine pn ?_;refine blk (pu ?_);refine cP Y0y hm (hG.X5 (ag.bun [0,1] [2] rfl) Z2 h7) ?_ ?_
    · rintro _ _ _ _ _ ⟨_,c14,rfl,aw,_,_⟩ hm;have hm:=Q0o hm aa af;exact pe hm (aw.sel [1,2] rfl)
    rintro y5 _ _ _ _ ⟨ax,c10,_,c11,rfl,ay,h8,_,_⟩ hm;refine bS (r:=K5) (l:=([y5.1]:List Z8)) (css := [(F8 y5.1 ax c10)]) ay ⟨(L8 (x:=y5.1) h8:K5.rp _ _ _ _),qZt⟩ ?_;intro _ _ _ c12 _ aA;obtain⟨_,aB,hm⟩:=bindS hm;refine aO 1 aA (U3 aB) ?_;intro _ _ _ c13 _ aC;exact lg hm aa (aC.sel [1,2,3] rfl)
  have hm:=Q6d hm aa af;refine pn ?_;refine sq2 (pu ?_);refine cP Q9t hm (X1 (ag.bun [0,1] [2] rfl) Z2 h7) ?_ ?_
  · rintro _ _ _ _ _ ⟨_,c18,rfl,aD,_,_⟩ hm;exact pe hm (aD.sel [1,2] rfl)
  rintro _ _ _ _ _ ⟨_,c17,rfl,aE,_,_⟩ hm;refine pn ?_;exact sq2 (re hm (aE.sel [1,2,0] rfl))
theorem Z8e {G:Z7w} (hG:Sp1 G):Q5n (Q2l G):=by
  intro g _ _ R _ Y2 Y1 Z5 a1 c1 hS Z2 h1 r hm;refine enter func197 rfl ntmps197 rfl fun J => ?_;unfold Q2l at hm;refine sq2 (aL zv2 hS ?_);intro _ V ac ad;refine pn ?_;refine sq2 (pu ?_);refine cB cf57 hm (C1 (ad.bun [0,1] [2] rfl) Z2 (h1.mono ac)) ?_;rintro W _ T1 _ _ ⟨rfl,af,_⟩ hm;refine pv (F9 (by kernel_rfl) rfl (u := .agg #[iv 0,iv W.Line,iv W.Col,qZs [],qZs [],.int .u32 0,qZs [],qZs [],iv 0,.slice none 0 0])) (aL zv2 af ?_);intro _ b2 _ ag;refine sT 0 ag ?_;intro w4 _ ai;refine pn ?_;refine O7 hm (fun ab a D => ∃(E:_) (I:Z0) (K:Z8) (O:_) (c2:_) (U:_) (c3:_),JR (nf 64) g T1 w4 a D E (ab K I=some r) [(2,pt V 0),(3,pt b2 0)] [Q23 O b2 c2 K,U5 V zv2,Y5 R,Q1 U c3 Z5 I]∧Q7 O c2 E D K.Kids∧Q5 U c3 E D I) (fun ab hm => ?_) ?_
  · have ak:Ctr Tryz.prog 91 (type_of% @hG.X5):=⟨@hG.X5,Y0y⟩;have am:Ctr Tryz.prog 122 (type_of% @hG.U9):=⟨@hG.U9,Y9v⟩;have an:Ctr Tryz.prog 199 (type_of% @hG.E1):=⟨@hG.E1,cf199⟩;exact zr hm ai
  rintro _ D ⟨E,I,K,O,c2,U,c3,⟨J,hm,rfl,aj,_⟩,h2,h3⟩;exact zr hm aj
theorem Z9u {G:Z7w} (hG:Sp1 G):Q6h (Q3e G):=by
  intro g _ _ R _ Y2 Y1 Z5 a1 c1 hS Z2 h1 r hm;refine enter func192 rfl ntmps192 rfl fun J => ?_;unfold Q3e at hm;refine sq2 (aL zv2 hS ?_);intro _ K aG aI;refine pn ?_;refine sq2 (pu ?_);refine cP cf197 hm (hG.A2 (aI.bun [0,1] [2] rfl) Z2 (h1.mono aG)) ?_ ?_
  · exact zk
  rintro _ _ T1 _ _ ⟨_,c2,_,c3,rfl,aK,h2,h3,_⟩ hm;refine aL zv2 aK ?_;intro _ O _ aM;refine sT 0 aM ?_;intro w4 _ aP;refine pn ?_;refine lpJ hm (fun ap o1 m a w5 => ∃(W:_) (U:Z0) (D:Z8) (I:_) (c4:_) (a5:_) (c5:_),JR (nf 42) g T1 w4 a w5 W (loopM ap m (D,U)=some o1) [(0,pt Y2 Y1),(2,pt K 0),(3,pt O 0)] [Q23 I O c4 D,U5 K zv2,Y5 R,Q1 a5 c5 Z5 U]∧Q7 I c4 W w5 D.Kids∧Q5 a5 c5 W w5 U) (fun _ _ h=>je h (aP.sel (Z1 0 4) rfl)) ?_;rintro ap aQ o1 ar _ _ w5 ⟨W,U,D,I,c4,a5,c5,⟨J,aR,rfl,aS,_⟩,h4,h5⟩;obtain⟨m1,z1,rfl,hm,av⟩:=lrE aR aQ;refine blk (sq2 (aL zv2 aS ?_));intro w6 V aV aW;refine pn ?_;have aX:=aW.nilO K5 136;refine O7 hm (fun aw a w7 => ∃(T3:_) (x5:Z0) (E:Z8) (a6:_) (n1:_) (c6:_) (a7:_) (c7:_),JR (nf 42) g W w6 a w7 T3 (aw E x5=some z1) [(0,pt Y2 Y1),(2,pt K 0),(3,pt O 0),(4,pt V 0)] [K3 K5 136 (.slice a6 n1 c6) E.Kids,U5 V [iv E.Kind,iv E.Pos.Line,iv E.Pos.Col,Q16 E.Op.toArray,Q16 E.Name.toArray,.int .u32 E.Num,Q16 E.Type_.Word.toArray,Q16 E.Type_.Name.toArray,iv E.Type_.Stars,.slice a6 n1 c6],Q23 I O c4 D,U5 K zv2,Y5 R,Q1 a7 c7 Z5 x5]∧Q5 a7 c7 T3 w7 x5) (fun aw hm => ?_) ?_
  · refine sq2 (pu ?_);refine cB Y6w hm (O0 (aX.bun (Z1 0 5) [5] rfl) Z2 (h5.mono aV)) ?_;rintro y2 _ T4 w8 _ ⟨rfl,ax,_⟩ hm;refine pn ?_;refine blk (sq2 (cd hm ?_ ?_)) <;> intro bz hm
    · refine sq2 (pu ?_);refine cB Y5j hm (D5 (ax.bun (Z1 0 5) [5] rfl) Z2 (h5.mono ch)) ?_;rintro y3 _ _ _ _ ⟨_,c8,_,c9,rfl,bf,_,h8,_⟩ hm;refine sT 1 bf ?_;intro _ _ bg;refine pn ?_;refine sq2 (sT 1 bg ?_);intro _ _ bh;refine pn ?_;refine sq2 (Z0c [1,0,2,2,0,2] [0,1,2,3,4,5] bh (V9 (S4 (V9 (S4 (V9 (S4 (P8))))))) fun bA bB az => ?_);refine pu ?_;obtain⟨y4,aA,hm⟩:=bindS hm
      rcases y4 with e2 | y4
      · have hm:=K0 hm;refine s2 [(0,.agg (F8 D I c4).toArray)] rfl qZt rfl (by kernel_rfl) (Q7m Y0y rfl (hG.X5 (p0:=y3.2) (az.bun (Z1 1 4) [5] rfl) Z2 (h8.mono ch) _ aA) rfl fun v7 T9 bF bG bi => ?_);obtain⟨_,c15,rfl,bj,_,_⟩:=bi;have hm:=Q0o hm av ar;exact pe hm (bj.sel [3,4] rfl)
      have hm:=B8 hm;refine sS [(0,.agg (F8 D I c4).toArray)] Y0y (hG.X5 (az.bun (Z1 1 4) [5] rfl) Z2 (h8.mono ch) _ aA) ?_;rintro _ _ _ _ ⟨bk,c10,_,c11,rfl,bl,h9,bn,_⟩;refine s2W [0] ?_;refine obS (r:=K5) (l:=([D,y4.1]:List Z8)) (css := [(F8 D I c4),(F8 y4.1 bk c10)]) bl ⟨(L8 (x:=D) (h4.mono ch):K5.rp _ _ _ _),(L8 (x:=y4.1) h9:K5.rp _ _ _ _),qZt⟩ ?_;intro _ _ _ c12 _ bo;refine s2W [] ?_;refine osT 1 bo ?_;intro _ _ bp;refine pn ?_;refine cP Q9t hm (X1 (bp.bun (Z1 0 5) [5] rfl) Z2 (bn.mono ch)) ?_ ?_
      · rintro _ _ _ _ _ ⟨_,c14,rfl,bq,_,_⟩ hm;have hm:=Q0o hm av ar;exact pe hm (bq.sel [4,5] rfl)
      rintro _ _ _ _ _ ⟨_,c13,rfl,bt,_,_⟩ hm;exact je hm (bt.sel (Z1 0 6) rfl)
    refine O7 hm (fun aB a ak => ∃ am x6,JR (nf 42) g T4 w8 a ak am (aB x6=some z1) [(0,pt Y2 Y1),(2,pt K 0),(3,pt O 0),(4,pt V 0),(8,(qZs y2)),(22,.bool x6)] [K3 K5 136 (.slice none 0 0) [],U5 V zv2,Q23 I O c4 D,U5 K zv2,Y5 R,Q1 a5 c5 Z5 U]) (fun aB hm => ?_) ?_
    · exact zr hm ax
    rintro _ ak ⟨am,x6,J,hm,rfl,aC,_⟩;refine cd hm ?_ ?_ <;> intro bI hm
    · have bu:HL 1 K5 ([D]:List Z8) [(F8 D I c4)]:=⟨qZt⟩;exact zr hm aC
    refine O7 hm (fun aD a aE => ∃ aF x7,JR (nf 42) g am ak a aE aF (aD x7=some z1) [(0,pt Y2 Y1),(2,pt K 0),(3,pt O 0),(4,pt V 0),(33,.bool x7)] [K3 K5 136 (.slice none 0 0) [],U5 V zv2,Q23 I O c4 D,U5 K zv2,Y5 R,Q1 a5 c5 Z5 U]) (fun aD hm => ?_) ?_
    · exact zr hm aC
    rintro _ aE ⟨aF,x7,J,hm,rfl,bv,_⟩;have bu:HL 1 K5 ([D]:List Z8) [(F8 D I c4)]:=⟨qZt⟩;exact zr hm bv
  rintro _ w7 ⟨T3,x5,E,a6,n1,c6,a7,c7,⟨J,hm,rfl,bw,_⟩,h6⟩;exact zr hm bw
theorem Z8d {G:Z7w} (hG:Sp1 G):Q5l (Q2k G):=by
  intro g _ _ R _ Y2 Y1 Z5 a1 c1 hS Z2 h1 r hm;refine Y5d Tryz.func174 rfl Tryz.ntmps174 rfl fun J => ?_;unfold Q2k at hm;refine sq2 (aL zv2 hS ?_);intro _ I aF aG;refine pn ?_;refine sq2 (pu ?_);refine cP Y9w hm (R6 (aG.bun [0,1] [2] rfl) Z2 (h1.mono aF)) ?_ ?_
  · exact zk
  rintro y1 _ _ _ _ ⟨D,a2,c2,rfl,aI,h2,_⟩ hm;refine wl rfl (dfO (f:=153) (cap := #[pt D 0]) rfl ?_);refine pn ?_;refine sq2 (sq2 (pu ?_));refine cB Y6w hm (O0 (aI.bun [0,1,3] [2] rfl) Z2 h2) ?_;rintro y2 _ T2 w3 _ ⟨rfl,aN,_⟩ hm;refine pn ?_;refine blk (O7 hm (fun av a W => ∃ T3 x1,JR (⟨49,[⟨.fn (.func 153) #[pt D 0],#[]⟩]⟩) g T2 w3 a W T3 (av x1=some r) [(0,pt Y2 Y1),(2,pt I 0),(10,(qZs y2)),(11,.bool x1)] [U5 I zv2,Y5 R,U5 D [pt Y2 Y1],Q1 a2 c2 Z5 y1]) (fun av hm => ?_) ?_)
  · exact zr hm aN
  rintro _ W ⟨T3,x1,J,hm,rfl,aw,_⟩;refine cd hm ?_ ?_ <;> intro cm hm
  · refine sq2 (pu ?_);refine cB Y5j hm (D5 (aw.bun [0,1,2] [3] rfl) Z2 (h2.mono ch)) ?_;rintro _ _ _ _ _ ⟨_,c3,_,c4,rfl,aP,h3,h4,_⟩ hm;refine aL zv2 aP ?_;intro _ _ _ aR;refine sT 0 aR ?_;intro _ _ aS;refine pn ?_;refine sq2 (pu ?_);refine cP cf174 hm (hG.F5 (aS.bun (Z1 0 4) [4] rfl) Z2 (h4.mono ch)) ?_ ?_
    · rintro _ _ _ _ _ ⟨_,c8,rfl,aT,_,_⟩ hm;refine pn ?_;refine Q4t Q0m (L6 (args := [pt D 0]) Tryz.func153 rfl Tryz.ntmps153 rfl rfl fun J => ?_);exact zr hm aT
    rintro y4 _ _ _ _ ⟨a5,c5,_,c6,rfl,aV,h5,h6,_⟩ hm;refine bS (r:=K5) (l:=([y4.1]:List Z8)) (css := [(F8 y4.1 a5 c5)]) aV ⟨(L8 (x:=y4.1) h5:K5.rp _ _ _ _),qZt⟩ ?_;intro _ _ _ c7 _ aX;refine sT 1 aX ?_;intro _ _ aY;refine pn ?_;refine sq2 (sT 2 aY ?_);intro _ _ aZ;refine pn ?_;refine pn ?_;refine retD Q0m (L6 (args := [pt D 0]) Tryz.func153 rfl Tryz.ntmps153 rfl rfl fun J => ?_);exact zr hm aZ
  refine O7 hm (fun ax a ay => ∃ T8 x2,JR (⟨49,[⟨.fn (.func 153) #[pt D 0],#[]⟩]⟩) g T3 W a ay T8 (ax x2=some r) [(0,pt Y2 Y1),(2,pt I 0),(24,.bool x2)] [U5 I zv2,Y5 R,U5 D [pt Y2 Y1],Q1 a2 c2 Z5 y1]) (fun ax hm => ?_) ?_
  · exact zr hm aw
  rintro _ ay ⟨T8,x2,J,hm,rfl,aA,_⟩;refine cd hm ?_ ?_ <;> intro cn hm
  · refine sq2 (pu ?_);refine cB Y5j hm (D5 (aA.bun [0,1,2] [3] rfl) Z2 (h2.mono ch)) ?_;rintro _ _ _ _ _ ⟨_,c9,_,c10,rfl,ba,_,be,_⟩ hm;refine aL zv2 ba ?_;intro _ _ _ bf;refine sT 0 bf ?_;intro _ _ bg;refine pn ?_;refine sq2 (pu ?_);refine cP cf174 hm (hG.F5 (bg.bun (Z1 0 4) [4] rfl) Z2 (be.mono ch)) ?_ ?_
    · rintro _ _ _ _ _ ⟨_,c14,rfl,bh,_,_⟩ hm;refine pn ?_;refine Q4t Q0m (L6 (args := [pt D 0]) Tryz.func153 rfl Tryz.ntmps153 rfl rfl fun J => ?_);exact zr hm bh
    rintro y6 _ _ _ _ ⟨bi,c11,_,c12,rfl,bj,bk,_,_⟩ hm;refine bS (r:=K5) (l:=([y6.1]:List Z8)) (css := [(F8 y6.1 bi c11)]) bj ⟨(L8 (x:=y6.1) bk:K5.rp _ _ _ _),qZt⟩ ?_;intro _ _ _ c13 _ bl;refine sT 1 bl ?_;intro _ _ bm;refine pn ?_;refine sq2 (sT 2 bm ?_);intro _ _ bn;refine pn ?_;refine pn ?_;refine retD Q0m (L6 (args := [pt D 0]) Tryz.func153 rfl Tryz.ntmps153 rfl rfl fun J => ?_);exact zr hm bn
  refine pn ?_;refine sq2 (sq2 (pu ?_));refine cB cf57 hm (C1 (aA.bun [0,1,2] [3] rfl) Z2 (h2.mono ch)) ?_;rintro K _ _ _ _ ⟨rfl,bo,_⟩ hm;refine aL [iv 0,iv 0] bo ?_;intro _ _ _ bp;refine sT 0 bp ?_;intro _ _ bq;refine pn ?_;refine sq2 (pu ?_);refine cB Z3d hm (X8 (bq.bun (Z1 0 4) [4] rfl) Z2 (h2.mono ch)) ?_;rintro _ _ _ _ _ ⟨_,c15,rfl,aB,aC,_⟩ hm;refine cd hm ?_ ?_ <;> intro co hm
  · refine sq2 (pu ?_);refine cP Q9t hm (X1 (aB.bun (Z1 0 4) [4] rfl) Z2 aC) ?_ ?_
    · rintro _ _ _ bt bu ⟨_,c22,rfl,af,_,_⟩ hm;refine pn ?_;refine Q4t Q0m (L6 (args := [pt D 0]) Tryz.func153 rfl Tryz.ntmps153 rfl rfl fun J => ?_);exact zr hm af
    rintro _ _ _ _ _ ⟨_,c16,rfl,bv,O,_⟩ hm;refine pn ?_;refine sq2 (rtPS [1,0,2,0,2,2] [0,1,2,3,4,5] bv (V9 (V9 (Y8z (rs := [.cell 2 136]) rfl (by kernel_rfl)))) fun cp aD U => ?_);refine pu ?_;obtain⟨E,V,hm⟩:=bindS hm
    rcases E with e3 | E
    · have hm:=K0 hm;refine tF [2,4] ?_;refine⟨?_,?_,qZt⟩
      · refine brW [3,4,5] [] ?_;refine oP cf63 (F4 (U.bun [1,2,3,0] [4] rfl) Z2 (O.mono aD) _ V) ?_;rintro _ bw _ _ ⟨bz,c21,rfl,bA,bB,_⟩;refine pn ?_;refine Q4t Q0m (L6 (args := [pt D 0]) Tryz.func153 rfl Tryz.ntmps153 rfl rfl fun J => ?_);refine sB 4 3 Z2 bA ?_;intro bC bD ag;exact pe hm (ag.sel [1,4] rfl)
      refine brW [2,3,5] [] ?_;refine oaL zv2 U ?_;intro _ _ _ bE;refine t1W [2] [3,5] [] ?_;refine oP cf63 (F4 (bE.bun [0,2,3,4,1] [5] rfl) Z2 (O.mono ch) _ V) ?_;rintro _ bw bC bD ⟨bz,c21,rfl,ag,bB,_⟩;refine pn ?_;refine Q4t Q0m (L6 (args := [pt D 0]) Tryz.func153 rfl Tryz.ntmps153 rfl rfl fun J => ?_);refine sB 5 3 Z2 ag ?_;intro bt bu af;exact pe hm (af.sel [2,5] rfl)
    have hm:=B8 hm;refine tF [2,4] ?_;refine⟨?_,?_,qZt⟩
    · refine brW [3,4,5] [] ?_;refine oS cf63 (F4 (U.bun [1,2,3,0] [4] rfl) Z2 (O.mono aD) _ V) ?_;rintro _ bF bG bI ⟨bJ,c17,rfl,ah,ai,_⟩;refine pu ?_;refine t0 rfl qZt (fun _=>F9 (by kernel_rfl) rfl (u := .agg #[iv 12,iv K.Line,iv K.Col,qZs [],qZs [],.int .u32 0,qZs E.1.Word,qZs E.1.Name,iv E.1.Stars,.slice none 0 0])) rfl (?_);refine t1W [4] [5] [] ?_;refine oaL zv2 ah ?_;intro bK b6 bM aj;refine t1W [5] [] [0] ?_;refine osT 0 aj ?_;intro bN aE ak;refine pn ?_;refine sq2 (pu ?_);refine cP Q9t hm (X1 (ak.bun (Z1 0 4) [5] rfl) Z2 (ai.mono ch)) ?_ ?_
      · rintro e4 _ bP bQ bR ⟨bT,c19,rfl,am,bU,_⟩ hm;refine pn ?_;refine Q4t Q0m (L6 (args := [pt D 0]) Tryz.func153 rfl Tryz.ntmps153 rfl rfl fun J => ?_);refine sB 4 3 Z2 am ?_;intro bV bW an;exact pe hm (an.sel [2,4] rfl)
      rintro bY _ bZ b0 b8 ⟨b9,c18,rfl,ao,cc,_⟩ hm;refine pn ?_;refine sq2 (sT 1 ao ?_);intro ce cf ap;refine pn ?_;refine pn ?_;refine retD Q0m (L6 (args := [pt D 0]) Tryz.func153 rfl Tryz.ntmps153 rfl rfl fun J => ?_);refine sB 4 3 Z2 ap ?_;intro cg ci aq;exact eo hm (aq.sel [2,4] rfl)
    refine brW [2,3,5] [] ?_;refine oaL zv2 U ?_;intro bG b6 bI ah;refine t1W [2] [3,5] [] ?_;refine oS cf63 (F4 (ah.bun [0,2,3,4,1] [5] rfl) Z2 (O.mono ch) _ V) ?_;rintro _ bF bK bM ⟨bJ,c17,rfl,aj,ai,_⟩;refine pu ?_;refine t0 rfl qZt (fun _=>F9 (by kernel_rfl) rfl (u := .agg #[iv 12,iv K.Line,iv K.Col,qZs [],qZs [],.int .u32 0,qZs E.1.Word,qZs E.1.Name,iv E.1.Stars,.slice none 0 0])) rfl (?_);refine t1W [5] [] [0] ?_;refine osT 0 aj ?_;intro bN aE ak;refine pn ?_;refine sq2 (pu ?_);refine cP Q9t hm (X1 (ak.bun (Z1 0 4) [5] rfl) Z2 (ai.mono aE)) ?_ ?_
    · rintro e4 _ bP bQ bR ⟨bT,c19,rfl,am,bU,_⟩ hm;refine pn ?_;refine Q4t Q0m (L6 (args := [pt D 0]) Tryz.func153 rfl Tryz.ntmps153 rfl rfl fun J => ?_);refine sB 4 3 Z2 am ?_;intro bV bW an;exact pe hm (an.sel [2,4] rfl)
    rintro bY _ bZ b0 b8 ⟨b9,c18,rfl,ao,cc,_⟩ hm;refine pn ?_;refine sq2 (sT 1 ao ?_);intro ce cf ap;refine pn ?_;refine pn ?_;refine retD Q0m (L6 (args := [pt D 0]) Tryz.func153 rfl Tryz.ntmps153 rfl rfl fun J => ?_);refine sB 4 3 Z2 ap ?_;intro cg ci aq;exact eo hm (aq.sel [2,4] rfl)
  refine pn ?_;refine sq2 (pu ?_);refine cP cf192 hm (hG.C8 (aB.bun [1,2,3] [4] rfl) Z2 aC) ?_ ?_
  · rintro _ _ _ _ _ ⟨_,c25,rfl,cj,_,_⟩ hm;refine pn ?_;refine Q4t Q0m (L6 (args := [pt D 0]) Tryz.func153 rfl Tryz.ntmps153 rfl rfl fun J => ?_);exact zr hm cj
  rintro _ _ _ _ _ ⟨_,c23,_,c24,rfl,ck,_,_,_⟩ hm;refine sT 0 ck ?_;intro _ _ cl;refine pn ?_;refine pn ?_;refine retD Q0m (L6 (args := [pt D 0]) Tryz.func153 rfl Tryz.ntmps153 rfl rfl fun J => ?_);exact zr hm cl
theorem Z7m {G:Z7w} (hG:Sp1 G):Q4o (Q1l G):=by
  intro g _ _ R _ Y2 Y1 Z5 a1 c1 p1 hS Z2 h1 r hm;refine enter func154 rfl ntmps154 rfl fun J => ?_;unfold Q1l at hm;refine sq2 (aL zv2 hS ?_);intro _ b1 ak am;refine pn ?_;refine sq2 (pu ?_);refine cP cf174 hm (hG.F5 (am.bun [0,1] [2] rfl) Z2 (h1.mono ak)) ?_ ?_
  · exact zk
  rintro _ _ T1 _ _ ⟨_,c2,_,c3,rfl,ao,h2,h3,_⟩ hm;refine aL zv2 ao ?_;intro _ b2 _ ap;refine sT 0 ap ?_;intro w4 _ ar;refine pn ?_;refine lpJ hm (fun ac o1 m a K => ∃(O:_) (U:Z0) (D:Z8) (E:_) (c4:_) (V:_) (c5:_),JR (nf 31) g T1 w4 a K O (loopM ac m (D,U)=some o1) [(0,pt Y2 Y1),(1,iv p1),(4,pt b1 0),(5,pt b2 0)] [Q23 E b2 c4 D,U5 b1 zv2,Y5 R,Q1 V c5 Z5 U]∧Q7 E c4 O K D.Kids∧Q5 V c5 O K U) (fun _ _ h=>je h (ar.sel (Z1 0 4) rfl)) ?_;rintro ac au o1 av _ _ K ⟨O,U,D,E,c4,V,c5,⟨J,aw,rfl,ax,_⟩,h4,h5⟩;obtain⟨m1,_,rfl,hm,af⟩:=lrE aw au;refine blk (sq2 (pu ?_));refine cB Y6w hm (O0 (ax.bun [0,1,2] [3] rfl) Z2 h5) ?_;rintro _ _ _ _ _ ⟨rfl,az,_⟩ hm;refine cB cf175 hm (Z4u (az.bun (Z1 0 4) [] rfl)) ?_;rintro y3 _ _ _ _ ⟨rfl,W,_⟩ hm;refine pn ?_;refine sq2 (sq2 (pu ?_))
  rcases bc hm with ⟨aB,hm⟩ | ⟨aB,hm⟩
  · exact zr hm W
  refine cd hm ?_ ?_ <;> intro aS hm
  · exact zr hm W
  refine pn ?_;refine sq2 (pu ?_);refine cB Y5j hm (D5 (W.bun [0,1,2] [3] rfl) Z2 (h5.mono ch)) ?_;rintro y4 _ _ _ _ ⟨_,c6,_,c7,rfl,aD,h6,h7,_⟩ hm;refine aL zv2 aD ?_;intro _ _ _ aE;refine sT 0 aE ?_;intro _ _ aF;refine pn ?_;refine sq2 (Z0c [1,0,0,0,2,2,0,2] [0,1,2,3,4,5,6,7] aF (V9 (S4 (V9 (S4 (P8))))) fun aT aU ah => ?_);refine pu ?_;obtain⟨I,ai,hm⟩:=bindS hm
  rcases I with e1 | I
  · have hm:=K0 hm;refine s2 [(0,.agg (F8 D E c4).toArray)] rfl qZt rfl (by kernel_rfl) (Q7m cf154 rfl (hG.E2 (p0:=y4.2) (p1:=IntKind.wrap .i64 (y3+1)) (ah.bun (Z1 0 4) [4] rfl) Z2 (h7.mono ch) _ ai) rfl fun v6 T8 aY aZ aG => ?_);obtain⟨_,c11,rfl,aI,_,_⟩:=aG;have hm:=Q0o hm af av;exact pe hm (aI.sel [3,4] rfl)
  have hm:=B8 hm;refine sS [(0,.agg (F8 D E c4).toArray)] cf154 (hG.E2 (ah.bun (Z1 0 4) [4] rfl) Z2 (h7.mono ch) _ ai) ?_;rintro _ _ _ _ ⟨a8,c8,_,c9,rfl,aK,h8,_,_⟩;refine s2W [0] ?_;refine obS (r:=K5) (l:=([D,I.1]:List Z8)) (css := [(F8 D E c4),(F8 I.1 a8 c8)]) aK ⟨(L8 (x:=D) (h4.mono ch):K5.rp _ _ _ _),(L8 (x:=I.1) h8:K5.rp _ _ _ _),qZt⟩ ?_;intro _ _ _ c10 _ aN;refine s2W [] ?_;refine osT 1 aN ?_;intro _ _ aP;refine pn ?_;refine sT 2 aP ?_;intro _ _ aQ;obtain⟨_,_,aR,_,rfl⟩:=aQ.sl 0;exact lg hm af (aR.sel (Z1 2 4) rfl)
theorem Z9v {G:Z7w} (hG:Sp1 G):Q6j (Q3g G):=by
  intro g _ _ R _ Y2 Y1 Z5 a1 c1 hS Z2 h1 r hm;refine enter func117 rfl ntmps117 rfl fun J => ?_;unfold Q3g at hm;refine sq2 (aL zv2 hS ?_);intro _ b1 ad ae;refine pn ?_;refine sq2 (pu ?_);refine cP cf154 hm (hG.E2 (ae.bun [0,1] [2] rfl) Z2 (h1.mono ad)) ?_ ?_
  · exact zk
  rintro D _ _ _ _ ⟨K,c2,_,c3,rfl,af,h2,h3,_⟩ hm;refine aL zv2 af ?_;intro _ _ _ ag;refine sT 0 ag ?_;intro _ _ ah;refine pn ?_;refine sq2 (sq2 (pu ?_));refine cB Y6w hm (O0 (ah.bun [0,1,2] [3] rfl) Z2 (h3.mono ch)) ?_;rintro _ _ _ _ _ ⟨rfl,U,_⟩ hm;refine cd hm ?_ ?_ <;> intro aN hm
  · exact zr hm U
  refine pn ?_;refine sq2 (pu ?_);refine cB Y5j hm (D5 (U.bun [0,1,2] [3] rfl) Z2 (h3.mono ch)) ?_;rintro _ _ _ _ _ ⟨_,c4,_,c5,rfl,ai,_,h5,_⟩ hm;refine aL zv2 ai ?_;intro _ b3 _ am;refine sT 0 am ?_;intro _ _ an;refine pn ?_;refine sq2 (sT 0 an ?_);intro _ _ ao;refine pn ?_;refine sq2 (pu ?_);refine cP Y0y hm (hG.X5 (ao.bun (Z1 0 4) [4] rfl) Z2 (h5.mono ch)) ?_ ?_
  · exact zk
  rintro E _ _ _ _ ⟨O,c6,_,c7,rfl,ap,h6,h7,_⟩ hm;refine aL zv2 ap ?_;intro _ _ _ ar;refine sT 0 ar ?_;intro _ _ au;refine pn ?_;refine sq2 (pu ?_);refine cP Q9t hm (X1 (au.bun (Z1 0 5) [5] rfl) Z2 (h7.mono ch)) ?_ ?_
  · exact zk
  rintro _ _ _ _ _ ⟨_,c8,rfl,av,h8,_⟩ hm;refine pn ?_;refine sq2 (pu ?_);refine cP Y9w hm (R6 (av.bun (Z1 0 5) [5] rfl) Z2 h8) ?_ ?_
  · exact zk
  rintro y6 _ _ _ _ ⟨b5,_,c9,rfl,az,V,_⟩ hm;refine pv (r_zf rfl) (pn ?_);refine sq2 (Z0c [1,1,0,2,2,0,2] [0,1,2,3,4,5,6] az (V9 (P8)) fun aP W aa => ?_);refine pu ?_;obtain⟨I,ab,hm⟩:=bindS hm
  rcases I with e1 | I
  · have hm:=K0 hm;refine s2 [(1,.agg (F8 E.1 O c6).toArray),(0,.agg (F8 D.1 K c2).toArray)] rfl qZt rfl (by kernel_rfl) (Q7m cf117 rfl (hG.B4 (p0:=y6) (aa.bun [1,3,4,6,0,2] [5] rfl) Z2 (V.mono W) _ ab) rfl fun v9 aS aT aU aA => ?_);obtain⟨_,c14,rfl,aB,_,_⟩:=aA;exact pe hm (aB.sel [2,6] rfl)
  have hm:=B8 hm;refine sS [(1,.agg (F8 E.1 O c6).toArray),(0,.agg (F8 D.1 K c2).toArray)] cf117 (hG.B4 (aa.bun [1,3,4,6,0,2] [5] rfl) Z2 (V.mono W) _ ab) ?_;rintro _ _ _ _ ⟨aC,c10,_,c11,rfl,aD,aE,aF,_⟩;refine s2W [0,0] ?_;refine obS (r:=K5) (l:=([D.1,E.1,I.1]:List Z8)) (css := [(F8 D.1 K c2),(F8 E.1 O c6),(F8 I.1 aC c10)]) aD ⟨(L8 (x:=D.1) (h2.mono ch):K5.rp _ _ _ _),(L8 (x:=E.1) (h6.mono ch):K5.rp _ _ _ _),(L8 (x:=I.1) aE:K5.rp _ _ _ _),qZt⟩ ?_;intro _ _ _ c12 _ aG;refine s2W [] ?_;refine osT 1 aG ?_;intro _ _ aI;refine pn ?_;refine sq2 (pu ?_);refine cB Q0m hm (Q5f (aI.bun (Z1 0 4) [4,7] rfl) (Q4u b5) Z2 (aF.mono ch)) ?_;rintro _ _ _ _ _ ⟨_,c13,rfl,aJ,_,_⟩ hm;refine nil (J3 [(2,pt b1 0),(4,pt b3 0)] ⟨rfl,rfl,qZt⟩ fun J => ?_);refine sq2 (sT 2 aJ ?_);intro _ _ aK;refine pn ?_;obtain⟨_,_,aM,_,rfl⟩:=aK.sl 0;exact re hm (aM.sel [3,5] rfl)
theorem Z7n {G:Z7w} (hG:Sp1 G):Q4p (Q1m G):=by
  intro g _ _ R _ Y2 Y1 Z5 a1 c1 hS Z2 h1 r hm;refine Y5d Tryz.func91 rfl Tryz.ntmps91 rfl fun J => ?_;unfold Q1m at hm;refine sq2 (aL zv2 hS ?_);intro _ _ aa ab;refine pn ?_;refine sq2 (pu ?_);refine cP Y9w hm (R6 (ab.bun [0,1] [2] rfl) Z2 (h1.mono aa)) ?_ ?_
  · exact zk
  rintro _ _ _ _ _ ⟨D,_,c2,rfl,ac,h2,_⟩ hm;refine wl rfl (dfO (f:=153) (cap := #[pt D 0]) rfl ?_);refine pn ?_;refine sq2 (pu ?_);refine cP cf117 hm (hG.B4 (ac.bun [0,1,3] [2] rfl) Z2 h2) ?_ ?_
  · rintro _ _ _ _ _ ⟨_,c11,rfl,ad,_,_⟩ hm;refine pn ?_;refine Q4t Q0m (L6 (args := [pt D 0]) Tryz.func153 rfl Tryz.ntmps153 rfl rfl fun J => ?_);refine sB 3 3 Z2 ad ?_;intro _ _ ae;exact pe hm (ae.sel [1,3] rfl)
  rintro E _ _ _ _ ⟨K,c3,_,c4,rfl,af,h3,O,_⟩ hm;refine aL zv2 af ?_;intro _ _ _ ag;refine sT 0 ag ?_;intro _ _ ah;refine pn ?_;refine sq2 (sq2 (pu ?_));refine cB Y6w hm (O0 (ah.bun (Z1 0 4) [4] rfl) Z2 (O.mono ch)) ?_;rintro _ _ _ _ _ ⟨rfl,ai,_⟩ hm;refine cB cf118 hm (Z1c (ai.bun (Z1 0 5) [] rfl)) ?_;rintro _ _ _ _ _ ⟨rfl,U,_⟩ hm;refine cd hm ?_ ?_ <;> intro aA hm
  · refine sq2 (sT 1 U ?_);intro _ _ aj;refine pn ?_;refine pn ?_;refine retD Q0m (L6 (args := [pt D 0]) Tryz.func153 rfl Tryz.ntmps153 rfl rfl fun J => ?_);exact zr hm aj
  refine pn ?_;refine sq2 (pu ?_);refine cB Y5j hm (D5 (U.bun (Z1 0 4) [4] rfl) Z2 (O.mono ch)) ?_;rintro y5 _ _ _ _ ⟨_,c5,_,c6,rfl,am,_,h6,_⟩ hm;refine aL zv2 am ?_;intro _ _ _ an;refine sT 0 an ?_;intro _ _ ao;refine pn ?_;refine sq2 (Z0c [1,0,2,2,0,2] [0,1,2,3,4,5] ao (V9 (Y8z (rs := [.cell 2 136]) rfl (by kernel_rfl))) fun aB aC V => ?_);refine pu ?_;obtain⟨I,W,hm⟩:=bindS hm
  rcases I with e1 | I
  · have hm:=K0 hm;refine s2 [(0,.agg (F8 E.1 K c3).toArray)] rfl qZt rfl (by kernel_rfl) (Q7m Y0y rfl (hG.X5 (p0:=y5.2) (V.bun [0,2,3,4,1] [5] rfl) Z2 (h6.mono ch) _ W) rfl fun v7 T8 aG aI ap => ?_);obtain⟨_,c10,rfl,aq,_,_⟩:=ap;refine pn ?_;refine Q4t Q0m (L6 (args := [pt D 0]) Tryz.func153 rfl Tryz.ntmps153 rfl rfl fun J => ?_);refine sB 5 3 Z2 aq ?_;intro _ _ ar;exact pe hm (ar.sel [2,5] rfl)
  have hm:=B8 hm;refine sS [(0,.agg (F8 E.1 K c3).toArray)] Y0y (hG.X5 (V.bun [0,2,3,4,1] [5] rfl) Z2 (h6.mono ch) _ W) ?_;rintro _ _ _ _ ⟨a7,c7,_,c8,rfl,av,h7,_,_⟩;refine s2W [0] ?_;refine obS (r:=K5) (l:=([E.1,I.1]:List Z8)) (css := [(F8 E.1 K c3),(F8 I.1 a7 c7)]) av ⟨(L8 (x:=E.1) (h3.mono ch):K5.rp _ _ _ _),(L8 (x:=I.1) h7:K5.rp _ _ _ _),qZt⟩ ?_;intro _ _ _ c9 _ ax;refine s2W [] ?_;refine osT 1 ax ?_;intro _ _ ay;refine pn ?_;refine sq2 (sT 2 ay ?_);intro _ _ az;refine pn ?_;refine pn ?_;refine retD Q0m (L6 (args := [pt D 0]) Tryz.func153 rfl Tryz.ntmps153 rfl rfl fun J => ?_);have dd:KD [(2,[]),(3,[0,2]),(5,[0,2,3])]:=⟨qZt⟩;exact zr hm az
theorem sp1 : ∀ n,Sp1 (Q4s n)
  | 0=>⟨(by unfold Q1s; intros; rename_i h; cases (show (none:Option _)=some _ from h)),(by unfold Q4m; intros; rename_i h; cases (show (none:Option _)=some _ from h)),(by unfold Q5n; intros; rename_i h; cases (show (none:Option _)=some _ from h)),(by unfold Q6h; intros; rename_i h; cases (show (none:Option _)=some _ from h)),(by unfold Q5l; intros; rename_i h; cases (show (none:Option _)=some _ from h)),(by unfold Q4o; intros; rename_i h; cases (show (none:Option _)=some _ from h)),(by unfold Q6j; intros; rename_i h; cases (show (none:Option _)=some _ from h)),(by unfold Q4p; intros; rename_i h; cases (show (none:Option _)=some _ from h))⟩
  | n+1=>⟨Z4t (sp1 n),Z7l (sp1 n),Z8e (sp1 n),Z9u (sp1 n),Z8d (sp1 n),Z7m (sp1 n),Z9v (sp1 n),Z7n (sp1 n)⟩
theorem Q0r:Q1s U9:=(sp1 NN).U9
theorem Y7f:Q4m E1:=(sp1 NN).E1
theorem Y8j:Q5n A2:=(sp1 NN).A2
theorem Y8o:Q6h C8:=(sp1 NN).C8
theorem Y8i:Q5l F5:=(sp1 NN).F5
theorem Y7g:Q4o E2:=(sp1 NN).E2
theorem Y8p:Q6j B4:=(sp1 NN).B4
theorem R8:Q4p X5:=(sp1 NN).X5

theorem R7 {p0:Z0} {p1:F2} (hS:Q28 a1 c1 Z5 T0 g w0 R p0) (Z2:Ln Y2 Y1 Z5) (h1:Q5 a1 c1 T0 w0 p0) (h2:Q30 a2 c2 T0 w0 p1) : ∀ r,O1 p0 p1=some r →
    Calls Tryz.prog 64 #[pt Y2 Y1,.agg #[iv p1.Pos.Line,iv p1.Pos.Col,Q16 p1.Type_.Word.toArray,Q16 p1.Type_.Name.toArray,iv p1.Type_.Stars,Q16 p1.Name.toArray,sv a2 p1.Dims c2,.slice none 0 0,.bool p1.Brace]] w0 (exR r (fun r=>U7 T0 w0 (Q48 Z5 g R r.1 r.2)) (fun r=>A5 T0 w0 (Q3 Z5 g R r.1.pos r.1.e r.2 r.2.l))):=by
  intro r hm;refine enter func64 rfl ntmps64 rfl fun J => ?_;unfold O1 at hm;refine sq2 (bX [iv p1.Pos.Line,iv p1.Pos.Col,qZs p1.Type_.Word,qZs p1.Type_.Name,iv p1.Type_.Stars,qZs p1.Name,sv a2 p1.Dims c2,.slice none 0 0,.bool p1.Brace] hS ?_);intro _ V _ aF;refine aL zv4 aF ?_;intro _ W _ aG;refine pn ?_;refine sq2 (pu ?_);refine cP cf89 hm (Q4n (aG.bun [0,1,2] [3] rfl) Z2 (h1.mono ch)) ?_ ?_
  · rintro _ _ _ _ _ ⟨_,c31,rfl,aI,_,_⟩ hm;exact pe hm (aI.sel [2,3] rfl)
  rintro _ _ T1 _ _ ⟨a4,n1,c4,_,c5,rfl,aK,h4,_⟩ hm;refine sT 1 aK ?_;intro w4 aP aQ;refine pn ?_;have aR:=aQ.nilO K5 136;refine O7 hm (fun au a w5 => ∃(T2:_) (x4:Z0) (D:F2) (a6:_) (n2:_) (c6:_) (a7:_) (c7:_),JR (nf 40) g T1 w4 a w5 T2 (au D x4=some r) [(0,pt Y2 Y1),(3,pt V 0),(4,pt W 0)] [K3 K5 136 (.slice a6 n2 c6) D.Init,U5 W zv4,Q57 a4 a6 V n1 c4 n2 c6 D,Y5 R,Q1 a7 c7 Z5 x4,K3 (E6 .u32) 104 (.slice a4 n1 c4) D.Dims]∧Q5 a7 c7 T2 w5 x4) (fun au hm => ?_) ?_
  · refine sq2 (pu ?_);refine cB Z3d hm (X8 (aR.bun [0,1,2,3,5] [4] rfl) Z2 (h4.mono aP)) ?_;rintro _ _ _ _ _ ⟨_,c8,rfl,av,h6,_⟩ hm;refine cd hm ?_ ?_ <;> intro bL hm
    · refine sq2 (pu ?_);refine cB Z3d hm (X8 (av.bun (Z1 0 5) [5] rfl) Z2 h6) ?_;rintro y3 _ _ _ _ ⟨_,c9,rfl,aT,h7,_⟩ hm;refine sT 2 aT ?_;intro _ _ aU;refine pn ?_;refine sq2 (Z0c [0,1,0,2,2,2,0,2] [0,1,2,3,4,5,6,7] aU (V9 (V9 (P8))) fun w9 bN ax => ?_);refine pu ?_;obtain⟨E,ay,hm⟩:=bindS hm
      rcases E with e5 | E
      · have hm:=K0 hm;refine s2 [(1,.slice none 0 0)] rfl qZt rfl (by kernel_rfl) (Q7m Y0y rfl (R8 (p0:=y3.2) (ax.bun (Z1 0 5) [5] rfl) Z2 (h7.mono ch) _ ay) rfl fun bP bQ bR bT aV => ?_);obtain⟨_,c28,rfl,aW,_,_⟩:=aV;exact pe hm (aW.sel [3,5] rfl)
      have hm:=B8 hm;refine sS [(1,.slice none 0 0)] Y0y (R8 (ax.bun (Z1 0 5) [5] rfl) Z2 (h7.mono ch) _ ay) ?_;rintro _ T5 _ _ ⟨aY,c10,_,c11,rfl,aZ,h8,_,_⟩;refine s2W [] ?_;refine obS (r:=K5) (l:=([E.1]:List Z8)) (css := [(F8 E.1 aY c10)]) aZ ⟨(L8 (x:=E.1) h8:K5.rp _ _ _ _),qZt⟩ ?_;intro _ _ _ c12 _ ba;refine pu ?_;obtain⟨_,be,hm⟩:=bindS hm;refine s2W [0] ?_;refine oaO 1 ba (U3 be) ?_;intro _ _ _ c13 _ bf;refine s2W [] ?_;refine osT 3 bf ?_;intro bg _ bh;refine pn ?_;refine sq2 (lpJ hm (fun az o1 m a ak => ∃(T6:_) (x8:Z0) (I:F2) (K:_) (O:_) (c14:_) (an:_) (c15:_),JR (nf 40) g T5 bg a ak T6 (loopM az m (I,x8)=some o1) [(0,pt Y2 Y1),(3,pt V 0),(4,pt W 0)] [K3 K5 136 (.slice K O c14) I.Init,U5 W zv4,Q57 a4 K V n1 c4 O c14 I,Y5 R,K3 (E6 .u32) 104 (.slice a4 n1 c4) I.Dims,Q1 an c15 Z5 x8]∧Q5 an c15 T6 ak x8) (fun _ _ h=>je h (bh.sel (Z1 1 6) rfl)) ?_);rintro az bi o1 ao _ _ ak ⟨T6,x8,I,K,O,c14,an,c15,⟨J,bj,rfl,ap,_⟩,aB⟩;obtain⟨m1,_,rfl,hm,ae⟩:=lrE bj bi;refine sq2 (sq2 (pu ?_))
      rcases bc hm with ⟨bk,hm⟩ | ⟨bk,hm⟩
      · refine pu ?_;refine cB Z3d hm (X8 (ap.bun (Z1 0 5) [5] rfl) Z2 aB) ?_;rintro y5 _ _ _ _ ⟨_,c16,rfl,aq,ar,_⟩ hm;refine cd hm ?_ ?_ <;> intro bU hm
        · refine pn ?_;refine blk (Z0c [0,1,0,2,2,2,0,2] [0,1,2,3,4,5,6,7] aq (S4 (V9 (S4 (V9 (V9 (P8)))))) fun bV aC aD => ?_);refine pu ?_;obtain⟨U,aE,hm⟩:=bindS hm
          rcases U with e1 | U
          · have hm:=K0 hm;refine s2 [(1,.slice K O c14)] rfl qZt rfl (by kernel_rfl) (Q7m Y0y rfl (R8 (p0:=y5.2) (aD.bun (Z1 0 5) [5] rfl) Z2 (ar.mono aC) _ aE) rfl fun v7 T9 b0 b3 bm => ?_);obtain⟨_,c21,rfl,bn,_,_⟩:=bm;have hm:=Q0o hm ae ao;exact pe hm (bn.sel [3,5] rfl)
          have hm:=B8 hm;refine sS [(1,.slice K O c14)] Y0y (R8 (aD.bun (Z1 0 5) [5] rfl) Z2 (ar.mono aC) _ aE) ?_;rintro _ _ _ _ ⟨bo,c17,_,c18,rfl,bp,bq,_,_⟩;refine s2W [] ?_;refine obS (r:=K5) (l:=([U.1]:List Z8)) (css := [(F8 U.1 bo c17)]) bp ⟨(L8 (x:=U.1) bq:K5.rp _ _ _ _),qZt⟩ ?_;intro _ _ _ c19 _ bt;refine pu ?_;obtain⟨_,bu,hm⟩:=bindS hm;refine s2W [0] ?_;refine oaO 1 bt (U3 bu) ?_;intro _ _ _ c20 _ bv;refine s2W [] ?_;refine osT 3 bv ?_;intro _ _ bw;refine pu ?_;exact lg hm ae (bw.sel (Z1 1 6) rfl)
        have hm:=Q6d hm ae ao;refine pn ?_;refine sq2 (cd hm ?_ ?_) <;> intro b4 hm
        · refine pu ?_;refine cP Q9t hm (X1 (aq.bun (Z1 0 5) [5] rfl) Z2 ar) ?_ ?_
          · rintro _ _ _ _ _ ⟨_,c25,rfl,bz,_,_⟩ hm;exact pe hm (bz.sel [3,5] rfl)
          rintro _ _ _ _ _ ⟨_,c24,rfl,bA,_,_⟩ hm;exact je hm (bA.sel [0,1,2,3,5,4] rfl)
        exact je hm (aq.sel [0,1,2,3,5,4] rfl)
      refine pn ?_;refine cnd (b:=false) rfl (fun h=>nomatch h) (fun _ => ?_);have hm:=Q6d hm ae ao;refine pn ?_;refine sq2 (cd hm ?_ ?_) <;> intro b5 hm
      · refine pu ?_;refine cP Q9t hm (X1 (ap.bun (Z1 0 5) [5] rfl) Z2 aB) ?_ ?_
        · rintro _ _ _ _ _ ⟨_,c27,rfl,bB,_,_⟩ hm;exact pe hm (bB.sel [3,5] rfl)
        rintro _ _ _ _ _ ⟨_,c26,rfl,bC,_,_⟩ hm;exact je hm (bC.sel [0,1,2,3,5,4] rfl)
      exact je hm (ap.sel [0,1,2,3,5,4] rfl)
    exact je hm (av.sel [0,1,2,3,5,4] rfl)
  rintro _ w5 ⟨T2,x4,D,a6,n2,c6,a7,c7,⟨J,hm,rfl,bD,_⟩,h5⟩;refine sq2 (pu ?_);refine cP Q9t hm (X1 (bD.bun [0,1,2,3,5] [4] rfl) Z2 h5) ?_ ?_
  · rintro _ _ _ _ _ ⟨_,c30,rfl,bF,_,_⟩ hm;exact pe hm (bF.sel [3,5] rfl)
  rintro _ _ _ _ _ ⟨_,c29,rfl,bG,_,_⟩ hm;refine pn ?_;refine sq2 (sT 1 bG ?_);intro _ _ bI;refine pn ?_;obtain⟨_,_,bJ,_,rfl⟩:=bI.sl 4;obtain⟨_,_,bK,_,rfl⟩:=bJ.sl 0;exact re hm (bK.sel [3,5] rfl)

instance : Ctr Tryz.prog 64 (type_of% @R7):=⟨@R7,cf64⟩
theorem E3 {p0:Z0} (hS:Q28 a1 c1 Z5 T0 g w0 R p0) (Z2:Ln Y2 Y1 Z5) (h1:Q5 a1 c1 T0 w0 p0) : ∀ r,W5 p0=some r →
    Calls Tryz.prog 65 #[pt Y2 Y1] w0 (exR r (fun r=>U7 T0 w0 (Q55 Z5 g R r.2 r.1)) (fun r=>A5 T0 w0 (Q3 Z5 g R r.1.pos r.1.e r.2 r.2.l))):=by
  intro r hm;refine enter func65 rfl ntmps65 rfl fun J => ?_;unfold W5 at hm;refine sq2 (pn ?_);refine sq2 (pn ?_);refine sq2 (pu ?_);refine cP Q9t hm (X1 (hS.bun [0] [1] rfl) Z2 h1) ?_ ?_
  · rintro _ _ _ _ _ ⟨_,c18,rfl,ar,_,_⟩ hm;exact pe hm (ar.sel [0,1] rfl)
  rintro _ _ T1 w1 _ ⟨_,c2,rfl,aw,h2,_⟩ hm;refine pn ?_;refine O7 hm (fun ai a V => ∃(W:_) (K:Z0) (a3:_) (c3:_),JR (nf 35) g T1 w1 a V W (ai K=some r) [(0,pt Y2 Y1),(3,.slice none 0 0)] [Y5 R,Q1 a3 c3 Z5 K]∧Q5 a3 c3 W V K) (fun ai hm => ?_) ?_
  · refine sq2 (pu ?_);refine cB cf58 hm (N7 (aw.bun [0] [1] rfl) Z2 h2) ?_;rintro _ _ _ _ ax ⟨rfl,aj,_⟩ hm;refine pu ?_
    rcases bc hm with ⟨ay,hm⟩ | ⟨ay,hm⟩
    · refine pu ?_;refine cB cf59 hm (Q4l (aj.bun [0] [1] rfl) Z2 (h2.mono ax)) ?_;rintro _ _ _ _ _ ⟨rfl,ak,_⟩ hm;refine cd hm ?_ ?_ <;> intro bg hm
      · refine pu ?_;refine cP Q9t hm (X1 (ak.bun [0] [1] rfl) Z2 (h2.mono ch)) ?_ ?_
        · rintro _ _ _ _ _ ⟨_,c5,rfl,az,_,_⟩ hm;exact pe hm (az.sel [0,1] rfl)
        rintro _ _ _ _ _ ⟨_,c4,rfl,aA,_,_⟩ hm;exact je hm (aA.sel [0,1] rfl)
      exact je hm (ak.sel [0,1] rfl)
    refine pn ?_;refine cnd (b:=false) rfl (fun h=>nomatch h) (fun _ => ?_);exact je hm (aj.sel [0,1] rfl)
  rintro _ V ⟨W,K,a3,c3,⟨J,hm,rfl,aB,_⟩,h3⟩;refine sq2 (sq2 (pu ?_));refine cB Z3d hm (X8 (aB.bun [0] [1] rfl) Z2 h3) ?_;rintro _ _ T7 w7 _ ⟨_,c6,rfl,am,h6,_⟩ hm;refine cd hm ?_ ?_ <;> intro bh hm
  · refine sq2 (pn ?_);have aE:=am.nilO W2 86;exact re hm (aE.sel [1,2,0] rfl)
  refine pn ?_;have aF:=am.nilO W2 86;refine lpJ hm (fun an o1 m a w8 => ∃(T8:_) (O:Z0) (x2:List F2) (a7:_) (n1:_) (c7:_) (a8:_) (c8:_),JR (nf 35) g T7 w7 a w8 T8 (loopM an m (x2,O)=some o1) [(0,pt Y2 Y1),(3,.slice a7 n1 c7)] [K3 W2 86 (.slice a7 n1 c7) x2,Y5 R,Q1 a8 c8 Z5 O]∧Q5 a8 c8 T8 w8 O) (fun _ _ h=>je h (aF.sel [0,1,2] rfl)) ?_;rintro an aG o1 U _ _ w8 ⟨T8,O,x2,a7,n1,c7,a8,c8,⟨J,aI,rfl,aJ,_⟩,h7⟩;obtain⟨m1,_,rfl,hm,I⟩:=lrE aI aG;refine blk (sq2 (pu ?_));refine cB cf57 hm (C1 (aJ.bun [0,1] [2] rfl) Z2 h7) ?_;rintro E _ _ _ aK ⟨rfl,aM,_⟩ hm;refine pu ?_;refine cP cf63 hm (F4 (aM.bun [0,1] [2] rfl) Z2 (h7.mono aK)) ?_ ?_
  · rintro _ _ _ _ _ ⟨_,c17,rfl,aN,_,_⟩ hm;have hm:=Q0o hm I U;exact pe hm (aN.sel [1,2] rfl)
  rintro D _ _ _ _ ⟨_,c9,rfl,aP,h8,_⟩ hm;refine pv (F9 (by kernel_rfl) rfl (u := .agg #[iv E.Line,iv E.Col,qZs D.1.Word,qZs D.1.Name,iv D.1.Stars,qZs [],.slice none 0 0,.slice none 0 0,.bool false])) (aL zv4 aP ?_);intro _ _ _ aR;refine sT 0 aR ?_;intro _ _ aS;refine pn ?_;refine sq2 (pu ?_);refine cP cf61 hm (D6 (aS.bun [0,1,2] [3] rfl) Z2 (h8.mono ch)) ?_ ?_
  · rintro _ _ _ _ _ ⟨_,c16,rfl,aT,_,_⟩ hm;have hm:=Q0o hm I U;exact pe hm (aT.sel [2,3] rfl)
  rintro y8 _ _ _ _ ⟨_,c10,rfl,aU,h9,_⟩ hm;refine sT 0 aU ?_;intro _ _ aW;refine pn ?_;refine sq2 (bS (r:=W2) (l:=([(⟨E,D.1,y8.1,[],[],false⟩:F2)]:List F2)) (css := [[iv E.Line,iv E.Col,Q16 D.1.Word.toArray,Q16 D.1.Name.toArray,iv D.1.Stars,Q16 y8.1.toArray,.slice none 0 0,.slice none 0 0,.bool false]]) aW ⟨(Z3x (x:=(⟨E,D.1,y8.1,[],[],false⟩:F2)) V4 V4:W2.rp _ _ _ _),qZt⟩ ?_);intro _ _ _ c11 _ aX;obtain⟨_,aY,hm⟩:=bindS hm;refine aO 2 aX (U3 aY) ?_;intro _ _ _ c12 _ aZ;refine pn ?_;refine sq2 (pu ?_);refine cB Z3d hm (X8 (aZ.bun [2,3] [4] rfl) Z2 (h9.mono ch)) ?_;rintro _ _ _ _ _ ⟨_,c13,rfl,aq,ba,_⟩ hm;refine cd hm ?_ ?_ <;> intro bi hm
  · refine sq2 (pu ?_);refine cP Q9t hm (X1 (aq.bun [0,1] [2] rfl) Z2 ba) ?_ ?_
    · rintro _ _ _ _ _ ⟨_,c15,rfl,be,_,_⟩ hm;have hm:=Q0o hm I U;exact pe hm (be.sel [1,2] rfl)
    rintro _ _ _ _ _ ⟨_,c14,rfl,bf,_,_⟩ hm;refine pn ?_;refine sq2 (pn ?_);have hm:=Q0o hm I U;exact re hm (bf.sel [1,2,0] rfl)
  exact lg hm I (aq.sel [0,1,2] rfl)

instance : Ctr Tryz.prog 65 (type_of% @E3):=⟨@E3,cf65⟩
theorem Q5e {p0:Z0} (hS:Q28 a1 c1 Z5 T0 g w0 R p0) (Z2:Ln Y2 Y1 Z5) (h1:Q5 a1 c1 T0 w0 p0) : ∀ r,Q1j p0=some r →
    Calls Tryz.prog 121 #[pt Y2 Y1] w0 (exR r (fun r=>U7 T0 w0 (Q48 Z5 g R r.1 r.2)) (fun r=>A5 T0 w0 (Q3 Z5 g R r.1.pos r.1.e r.2 r.2.l))):=by
  intro r hm;refine enter func121 rfl ntmps121 rfl fun J => ?_;unfold Q1j at hm;exact zr hm hS

instance : Ctr Tryz.prog 121 (type_of% @Q5e):=⟨@Q5e,cf121⟩
theorem L7 {p0:Z0} {p1:List UInt8} (hS:Q28 a1 c1 Z5 T0 g w0 R p0) (Z2:Ln Y2 Y1 Z5) (h1:Q5 a1 c1 T0 w0 p0) : ∀ r,L1 p0 p1=some r →
    Calls Tryz.prog 124 #[pt Y2 Y1,Q16 p1.toArray] w0 (exR r (fun r=>U7 T0 w0 (Q31 Z5 g R r.2 r.1)) (fun r=>A5 T0 w0 (Q3 Z5 g R r.1.pos r.1.e r.2 r.2.l))):=by
  intro r hm;refine enter func124 rfl ntmps124 rfl fun J => ?_;unfold L1 at hm;refine sq2 (pn ?_);refine sq2 (sq2 (pu ?_));refine cB Z3d hm (X8 (hS.bun [0] [1] rfl) Z2 h1) ?_;rintro _ _ _ _ _ ⟨_,c2,rfl,E,h2,_⟩ hm;refine cd hm ?_ ?_ <;> intro ae hm
  · refine sq2 (pn ?_);have I:=E.nilO K5 136;exact re hm (I.sel [1,2,0] rfl)
  refine pn ?_;refine sq2 (pu ?_);refine cP Y0y hm (R8 (E.bun [0] [1] rfl) Z2 h2) ?_ ?_
  · rintro _ _ _ _ _ ⟨_,c8,rfl,K,_,_⟩ hm;exact pe hm (K.sel [0,1] rfl)
  rintro D _ _ _ _ ⟨O,c3,_,c4,rfl,U,h3,V,_⟩ hm;refine aL zv2 U ?_;intro _ _ _ W;refine sT 0 W ?_;intro _ _ aa;refine pn ?_;refine sq2 (pu ?_);refine cP Q9t hm (X1 (aa.bun [0,1] [2] rfl) Z2 (V.mono ch)) ?_ ?_
  · rintro _ _ _ _ _ ⟨_,c7,rfl,ab,h6,_⟩ hm;exact pe hm (ab.sel [1,2] rfl)
  rintro _ _ _ _ _ ⟨_,c5,rfl,ac,_,_⟩ hm;refine pn ?_;refine sq2 (bS (r:=K5) (l:=([D.1]:List Z8)) (css := [(F8 D.1 O c3)]) ac ⟨(L8 (x:=D.1) (h3.mono ch):K5.rp _ _ _ _),qZt⟩ ?_);intro _ _ _ c6 _ ad;exact re hm (ad.sel [2,3,0] rfl)

instance : Ctr Tryz.prog 124 (type_of% @L7):=⟨@L7,Y9t⟩
theorem Q7f {p0:Z0} {p1:U0} (hS:Sep g T0 w0 [Y5 R,Q1 a1 c1 Z5 p0,R5 (Q8t p1 a2 c2 a3 c3 a4 c4 a5 c5 a6 c6 a7 c7 a8 c8)]) (Z2:Ln Y2 Y1 Z5) (h1:Q5 a1 c1 T0 w0 p0) (Q2p:Ln Q1c Q0x R5) (h2:Q7 a2 c2 T0 w0 p1.A) (h3:Q7 a3 c3 T0 w0 p1.B) (h4:Q7 a4 c4 T0 w0 p1.C) (h5:Q20 a5 c5 T0 w0 p1.Var) (h6:Q19 a6 c6 T0 w0 p1.Body) (h7:Q19 a7 c7 T0 w0 p1.Else) (h8:Q58 a8 c8 T0 w0 p1.Cases) : ∀ r,Q4k p0 p1=some r →
    Calls Tryz.prog 126 #[pt Y2 Y1,pt Q1c Q0x] w0 (exR r (fun r=>U7 T0 w0 fun T w v => ∃ a25 c25 a26 c26 a27 c27 a28 c28 a29 c29 a30 c30 a31 c31 a32 c32,v = .tuple #[]∧Sep g T w (R ++ [Q1 a25 c25 Z5 r.1,R5 (Q8t r.2 a26 c26 a27 c27 a28 c28 a29 c29 a30 c30 a31 c31 a32 c32)])∧Q5 a25 c25 T w r.1∧Q35 a26 a27 a28 a29 a30 a31 a32 c26 c27 c28 c29 c30 c31 c32 T w r.2) (fun r=>A5 T0 w0 fun T w v => ∃ a25 c25 a26 c26 a27 c27 a28 c28 a29 c29 a30 c30 a31 c31 a32 c32,v = .iface 63 (Q18 r.1.pos r.1.e)∧Sep g T w (R ++ [Q1 a25 c25 Z5 r.2.1,R5 (Q8t r.2.2 a26 c26 a27 c27 a28 c28 a29 c29 a30 c30 a31 c31 a32 c32)])∧Q5 a25 c25 T w r.2.1∧Q35 a26 a27 a28 a29 a30 a31 a32 c26 c27 c28 c29 c30 c31 c32 T w r.2.2)):=by
  intro r hm;refine enter func126 rfl ntmps126 rfl fun J => ?_;unfold Q4k at hm;refine blk (sq2 (pu ?_));refine cB Z3d hm (X8 (hS.bun [0,2] [1] rfl) Z2 h1) ?_;rintro _ _ _ _ _ ⟨_,c9,rfl,E,I,_⟩ hm;refine cd hm ?_ ?_ <;> intro aJ hm
  · refine pu ?_;refine cP Y9t hm (L7 (E.bun [0,1] [2] rfl) Z2 I) ?_ ?_
    · rintro _ _ _ _ _ ⟨_,c12,rfl,W,_,_⟩ hm;exact pe hm (W.sel [0,2,1] rfl)
    rintro _ _ _ _ _ ⟨_,_,c10,_,c11,rfl,aa,ab,_⟩ hm;refine sB 1 0 Q2p aa ?_;intro _ _ ac;refine sB 1 3 Q2p ac ?_;intro _ _ ad;obtain⟨_,_,ae,af,rfl⟩:=ad.sl 3;have hm:=oI hm; subst hm;refine pn ?_;exact Y0x rfl ⟨_,rfl,_,ch,⟨_,_,_,_,_,_,_,_,_,_,_,_,_,_,_,_,rfl,(ae.sel [0,2,1] rfl).unb,(ab.mono ch),af,(h3.mono ch),(h4.mono ch),(h5.mono ch),(h6.mono ch),(h7.mono ch),(h8.mono ch),qZt⟩⟩
  refine sq2 (pu ?_);refine cB Z3d hm (X8 (E.bun [0,1] [2] rfl) Z2 I) ?_;rintro _ _ _ _ _ ⟨_,c13,rfl,K,O,_⟩ hm;refine cd hm ?_ ?_ <;> intro aK hm
  · refine sq2 (sB 1 0 Q2p K ?_);intro _ ag ah;refine pn ?_;refine cP Q9t hm (X1 (ah.bun [0,1] [2] rfl) Z2 (O.mono ag)) ?_ ?_
    · rintro _ _ _ _ _ ⟨_,c15,rfl,ai,_,_⟩ hm;exact pe hm (ai.sel [0,2,1] rfl)
    rintro _ _ _ _ _ ⟨_,c14,rfl,aj,ak,_⟩ hm;have hm:=oI hm; subst hm;refine pn ?_;exact Y0x rfl ⟨_,rfl,_,ch,⟨_,_,_,_,_,_,_,_,_,_,_,_,_,_,_,_,rfl,(aj.sel [0,2,1] rfl).unb,ak,(h2.mono ch),(h3.mono ch),(h4.mono ch),(h5.mono ch),(h6.mono ch),(h7.mono ch),(h8.mono ch),qZt⟩⟩
  refine sq2 (pu ?_);refine cB Z3d hm (X8 (K.bun [0,1] [2] rfl) Z2 O) ?_;rintro _ _ _ _ _ ⟨_,c16,rfl,U,V,_⟩ hm;refine cd hm ?_ ?_ <;> intro aM hm
  · refine sq2 (sB 1 0 Q2p U ?_);intro _ am an;refine pn ?_;refine cP Q9t hm (X1 (an.bun [0,1] [2] rfl) Z2 (V.mono am)) ?_ ?_
    · rintro _ _ _ _ _ ⟨_,c18,rfl,ao,_,_⟩ hm;exact pe hm (ao.sel [0,2,1] rfl)
    rintro _ _ _ _ _ ⟨_,c17,rfl,ap,aq,_⟩ hm;have hm:=oI hm; subst hm;refine pn ?_;exact Y0x rfl ⟨_,rfl,_,ch,⟨_,_,_,_,_,_,_,_,_,_,_,_,_,_,_,_,rfl,(ap.sel [0,2,1] rfl).unb,aq,(h2.mono ch),(h3.mono ch),(h4.mono ch),(h5.mono ch),(h6.mono ch),(h7.mono ch),(h8.mono ch),qZt⟩⟩
  refine sq2 (pu ?_);refine cP Y0y hm (R8 (U.bun [0,1] [2] rfl) Z2 V) ?_ ?_
  · rintro _ _ _ _ _ ⟨_,c24,rfl,ar,_,_⟩ hm;exact pe hm (ar.sel [0,2,1] rfl)
  rintro D _ _ _ _ ⟨au,c19,_,c20,rfl,av,aw,ax,_⟩ hm;refine bS (r:=K5) (l:=([D.1]:List Z8)) (css := [(F8 D.1 au c19)]) av ⟨(L8 (x:=D.1) aw:K5.rp _ _ _ _),qZt⟩ ?_;intro _ _ _ c21 _ ay;refine sB 2 0 Q2p ay ?_;intro _ _ az;refine sB 2 3 Q2p az ?_;intro _ _ aA;refine pn ?_;refine cP Q9t hm (X1 (aA.bun [0,1,2] [3] rfl) Z2 (ax.mono ch)) ?_ ?_
  · rintro _ _ _ _ _ ⟨_,c23,rfl,aB,_,_⟩ hm;obtain⟨_,_,aC,_,rfl⟩:=aB.sl 0;exact pe hm (aC.sel [1,3,2] rfl)
  rintro _ _ _ _ _ ⟨_,c22,rfl,aD,aE,_⟩ hm;obtain⟨_,aF,aG,aI,rfl⟩:=aD.sl 0;have hm:=oI hm; subst hm;refine pn ?_;exact Y0x rfl ⟨_,rfl,_,ch,⟨_,_,_,_,_,_,_,_,_,_,_,_,_,_,_,_,rfl,(aG.sel [1,3,2] rfl).unb,(aE.mono aF),aI,(h3.mono ch),(h4.mono ch),(h5.mono ch),(h6.mono ch),(h7.mono ch),(h8.mono ch),qZt⟩⟩

instance : Ctr Tryz.prog 126 (type_of% @Q7f):=⟨@Q7f,cf126⟩
def Q6k (F:Z0→Option (Except (Y0×Z0) ((List U0)×Z0))):Prop := ∀ {g:World} {T0:TP} {w0:World} {R:List Y8} {p0:Z0} {Y2 Y1:Nat} {Z5:List Value→Y8} {a1 c1} (hS:Q28 a1 c1 Z5 T0 g w0 R p0) (Z2:Ln Y2 Y1 Z5) (h1:Q5 a1 c1 T0 w0 p0),∀ r,F p0=some r →
    Calls Tryz.prog 123 #[pt Y2 Y1] w0 (exR r (fun r=>U7 T0 w0 fun T w v => ∃ a12 c12 a13 c13,v=sv a12 r.1 c12∧Sep g T w (R ++ [Q1 a13 c13 Z5 r.2])∧SlR Q1e T w (sv a12 r.1 c12) r.1∧Q5 a13 c13 T w r.2∧True) (fun r=>A5 T0 w0 (Q3 Z5 g R r.1.pos r.1.e r.2 r.2.l)))
def Q5o (F:Z0→Option (Except (Y0×Z0) ((List E8)×Z0))):Prop := ∀ {g:World} {T0:TP} {w0:World} {R:List Y8} {p0:Z0} {Y2 Y1:Nat} {Z5:List Value→Y8} {a1 c1} (hS:Q28 a1 c1 Z5 T0 g w0 R p0) (Z2:Ln Y2 Y1 Z5) (h1:Q5 a1 c1 T0 w0 p0),∀ r,F p0=some r →
    Calls Tryz.prog 125 #[pt Y2 Y1] w0 (exR r (fun r=>U7 T0 w0 fun T w v => ∃ a35 n11 c35 a36 c36,v = .slice a35 n11 c35∧Sep g T w (R ++ [Q1 a36 c36 Z5 r.2,Q65 a35 n11 c35 r.1])∧Q5 a36 c36 T w r.2∧True) (fun r=>A5 T0 w0 (Q3 Z5 g R r.1.pos r.1.e r.2 r.2.l)))
def Q6g (F:Z0→Option (Except (Y0×Z0) (U0×Z0))):Prop := ∀ {g:World} {T0:TP} {w0:World} {R:List Y8} {p0:Z0} {Y2 Y1:Nat} {Z5:List Value→Y8} {a1 c1} (hS:Q28 a1 c1 Z5 T0 g w0 R p0) (Z2:Ln Y2 Y1 Z5) (h1:Q5 a1 c1 T0 w0 p0),∀ r,F p0=some r →
    Calls Tryz.prog 92 #[pt Y2 Y1] w0 (exR r (fun r=>U7 T0 w0 fun T w v => ∃ a88 c88 a89 c89 a90 c90 a91 c91 a92 c92 a93 c93 a94 c94 a95 c95,v = .agg (Q8t r.1 a88 c88 a89 c89 a90 c90 a91 c91 a92 c92 a93 c93 a94 c94).toArray∧Sep g T w (R ++ [Q1 a95 c95 Z5 r.2])∧Q7 a88 c88 T w r.1.A∧Q7 a89 c89 T w r.1.B∧Q7 a90 c90 T w r.1.C∧Q20 a91 c91 T w r.1.Var∧Q19 a92 c92 T w r.1.Body∧Q19 a93 c93 T w r.1.Else∧Q58 a94 c94 T w r.1.Cases∧Q5 a95 c95 T w r.2∧True) (fun r=>A5 T0 w0 (Q3 Z5 g R r.1.pos r.1.e r.2 r.2.l)))
def Q5p (F:Z0→Option (Except (Y0×Z0) ((List U0)×Z0))):Prop := ∀ {g:World} {T0:TP} {w0:World} {R:List Y8} {p0:Z0} {Y2 Y1:Nat} {Z5:List Value→Y8} {a1 c1} (hS:Q28 a1 c1 Z5 T0 g w0 R p0) (Z2:Ln Y2 Y1 Z5) (h1:Q5 a1 c1 T0 w0 p0),∀ r,F p0=some r →
    Calls Tryz.prog 66 #[pt Y2 Y1] w0 (exR r (fun r=>U7 T0 w0 fun T w v => ∃ a18 n4 c18 a19 c19,v = .slice a18 n4 c18∧Sep g T w (R ++ [Q1 a19 c19 Z5 r.2,K3 Q1e 96 (.slice a18 n4 c18) r.1])∧Q5 a19 c19 T w r.2∧True) (fun r=>A5 T0 w0 (Q3 Z5 g R r.1.pos r.1.e r.2 r.2.l)))
structure Sp2 (G:Rec2):Prop where
  J9:Q6k G.J9
  A3:Q5o G.A3
  G7:Q6g G.G7
  E0:Q5p G.E0
theorem Z9w {G:Rec2} (hG:Sp2 G):Q6k (Q3h G):=by
  intro g _ _ R _ Y2 Y1 Z5 a1 c1 hS Z2 h1 r hm;refine enter func123 rfl ntmps123 rfl fun J => ?_;unfold Q3h at hm;refine sq2 (pn ?_);refine sq2 (pu ?_);refine cP cf92 hm (hG.G7 (hS.bun [0] [1] rfl) Z2 h1) ?_ ?_
  · exact zk
  rintro D _ _ _ _ ⟨E,c2,I,c3,K,c4,O,c5,U,c6,V,c7,W,c8,_,c9,rfl,aa,h2,h3,_,_,h6,_,_,_,_⟩ hm;have ab:HL 1 Q1e ([D.1]:List U0) [(Q8t D.1 E c2 I c3 K c4 O c5 U c6 V c7 W c8)]:=⟨qZt⟩;exact zr hm aa
theorem Z8f {G:Rec2} (hG:Sp2 G):Q5o (Q2m G):=by
  intro g _ _ R _ Y2 Y1 Z5 a1 c1 hS Z2 h1 r hm;refine enter func125 rfl ntmps125 rfl fun J => ?_;unfold Q2m at hm;refine sq2 (pn ?_);refine sq2 (pn ?_);refine sq2 (pu ?_);refine cP Q9t hm (X1 (hS.bun [0] [1] rfl) Z2 h1) ?_ ?_
  · exact zk
  rintro _ _ T1 w1 _ ⟨_,c2,rfl,aJ,h2,_⟩ hm;refine pn ?_;refine sq2 ?_;have aK:=aJ.nilO Q7h 142;refine lpJ hm (fun au o1 m a w2 => ∃(T2:_) (x2:Z0) (U:List E8) (I:_) (K:_) (c3:_) (a4:_) (c4:_),JR (nf 57) g T1 w1 a w2 T2 (loopM au m (U,x2)=some o1) [(0,pt Y2 Y1),(3,.slice I K c3)] [Q65 I K c3 U,Y5 R,Q1 a4 c4 Z5 x2]∧Q5 a4 c4 T2 w2 x2) (fun _ _ h=>je h (aK.sel [0,1,2] rfl)) ?_;rintro au aM o1 aN _ _ w2 ⟨T2,x2,U,I,K,c3,a4,c4,⟨J,aP,rfl,aQ,_⟩,h3⟩;obtain⟨m1,z1,rfl,hm,ae⟩:=lrE aP aM;refine sq2 (sq2 (pu ?_));refine cB Z3d hm (X8 (aQ.bun [0,1] [2] rfl) Z2 h3) ?_;rintro _ _ _ _ _ ⟨_,c5,rfl,aw,h4,_⟩ hm;refine cd hm ?_ ?_ <;> intro b2 hm
  · refine pn ?_;refine blk (sq2 (pu ?_));refine cB cf57 hm (C1 (aw.bun [0,1] [2] rfl) Z2 h4) ?_;rintro y3 _ T4 _ _ ⟨rfl,aU,_⟩ hm;refine pv (F9 (by kernel_rfl) rfl (u := .agg #[iv y3.Line,iv y3.Col,.bool false,.int .u32 0,.slice none 0 0])) (aL zv18 aU ?_);intro _ b1 _ aV;refine sT 0 aV ?_;intro w6 _ aX;refine pn ?_;have aY:=aX.nilO Q1e 96;refine O7 hm (fun ay a w7 => ∃(T5:_) (x5:Z0) (O:E8) (a6:_) (c6:_),JR (nf 57) g T4 w6 a w7 T5 (ay O x5=some z1) [(0,pt Y2 Y1),(3,.slice I K c3),(4,pt b1 0)] [K3 Q1e 96 (.slice none 0 0) O.Body,U5 b1 [iv O.Pos.Line,iv O.Pos.Col,.bool O.Default,.int .u32 O.Num,.slice none 0 0],Q65 I K c3 U,Y5 R,Q1 a6 c6 Z5 x5]∧Q5 a6 c6 T5 w7 x5) (fun ay hm => ?_) ?_
    · exact zr hm aY
    rintro _ w7 ⟨T5,x5,O,a6,c6,⟨J,hm,rfl,aZ,_⟩,h5⟩;refine sq2 (pu ?_);refine cP Q9t hm (X1 (aZ.bun (Z1 0 4) [4] rfl) Z2 h5) ?_ ?_
    · exact zk
    rintro _ _ a8 a9 _ ⟨_,c13,rfl,ba,_,_⟩ hm;refine pn ?_;refine sq2 (lpJ hm (fun az o2 m a ap => ∃(aq:_) (V:Z0) (D:E8) (E:_) (W:_) (c14:_) (ar:_) (c15:_),JR (nf 57) g a8 a9 a ap aq (loopM az m (D,V)=some o2) [(0,pt Y2 Y1),(3,.slice I K c3),(4,pt b1 0)] [K3 Q1e 96 (.slice E W c14) D.Body,U5 b1 [iv D.Pos.Line,iv D.Pos.Col,.bool D.Default,.int .u32 D.Num,.slice E W c14],Q65 I K c3 U,Y5 R,Q1 ar c15 Z5 V]∧Q5 ar c15 aq ap V) (fun _ _ h=>je h (ba.sel (Z1 0 5) rfl)) ?_);rintro az be o2 ah _ _ ap ⟨aq,V,D,E,W,c14,ar,c15,⟨J,bf,rfl,bg,_⟩,aa⟩;obtain⟨_,_,rfl,hm,ab⟩:=lrE bf be;refine sq2 (sq2 (pu ?_));refine cB cf58 hm (N7 (bg.bun (Z1 0 4) [4] rfl) Z2 aa) ?_;rintro _ _ _ _ bh ⟨rfl,aB,_⟩ hm;refine pu ?_
    rcases bc hm with ⟨bi,hm⟩ | ⟨bi,hm⟩
    · refine pu ?_;refine cB cf58 hm (N7 (aB.bun (Z1 0 4) [4] rfl) Z2 (aa.mono bh)) ?_;rintro _ _ _ _ _ ⟨rfl,aC,_⟩ hm;refine pu ?_
      rcases bc hm with ⟨bj,hm⟩ | ⟨bj,hm⟩
      · refine pu ?_;refine cB cf58 hm (N7 (aC.bun (Z1 0 4) [4] rfl) Z2 (aa.mono ch)) ?_;rintro _ _ _ _ _ ⟨rfl,aD,_⟩ hm;refine cd hm ?_ ?_ <;> intro b3 hm
        · refine pn ?_;refine blk (Z0c [0,1,0,2,2,2,0,2] [0,1,2,3,4,5,6,7] aD (S4 (V9 (S4 (V9 (S4 (V9 (S4 (V9 (P8))))))))) fun b4 b5 aE => ?_);refine pu ?_;obtain⟨ac,aF,hm⟩:=bindS hm
          rcases ac with e3 | ac
          · have hm:=K0 hm;refine s2 [(1,.slice E W c14)] rfl qZt rfl (by kernel_rfl) (Q7m cf92 rfl (hG.G7 (p0:=V) (aE.bun (Z1 0 4) [4] rfl) Z2 (aa.mono ch) _ aF) rfl fun b7 b8 b9 cc bk => ?_);obtain⟨_,c26,rfl,bl,_,_⟩:=bk;have hm:=Q0o hm ab ah;have hm:=Q0o hm ae aN;exact pe hm (bl.sel [3,4] rfl)
          have hm:=B8 hm;refine sS [(1,.slice E W c14)] cf92 (hG.G7 (aE.bun (Z1 0 4) [4] rfl) Z2 (aa.mono ch) _ aF) ?_;rintro _ _ _ _ ⟨bm,c16,bn,c17,bo,c18,bp,c19,bq,c20,bt,c21,bu,c22,_,c23,rfl,bv,bw,bz,bA,bB,bC,bD,bE,_,_⟩;refine s2W [] ?_;refine obS (r:=Q1e) (l:=([ac.1]:List U0)) (css := [(Q8t ac.1 bm c16 bn c17 bo c18 bp c19 bq c20 bt c21 bu c22)]) bv ⟨(Y1u (x:=ac.1) bw bz bA bB bC bD bE:Q1e.rp _ _ _ _),qZt⟩ ?_;intro _ _ _ c24 _ bF;refine pu ?_;obtain⟨_,bG,hm⟩:=bindS hm;refine s2W [0] ?_;refine oaO 1 bF (U3 bG) ?_;intro _ _ _ c25 _ bI;refine s2W [] ?_;refine osT 2 bI ?_;intro _ _ bJ;refine pu ?_;exact lg hm ab (bJ.sel (Z1 1 5) rfl)
        have hm:=Q6d hm ab ah;refine pn ?_;obtain⟨_,_,bK,bL,rfl⟩:=aD.sl 0;refine bS (r:=Q7h) (l:=([D]:List E8)) (css := [(Z9i D E c14)]) bK ⟨(Z5k (x:=D) bL:Q7h.rp _ _ _ _),qZt⟩ ?_;intro _ _ _ c27 _ bM;obtain⟨_,bN,hm⟩:=bindS hm;refine aO 3 bM (U3 bN) ?_;intro _ _ _ c28 _ bO;exact lg hm ae (bO.sel [3,4,5] rfl)
      refine pn ?_;refine cnd (b:=false) rfl (fun h=>nomatch h) (fun _ => ?_);have hm:=Q6d hm ab ah;refine pn ?_;obtain⟨_,_,bP,bQ,rfl⟩:=aC.sl 0;refine bS (r:=Q7h) (l:=([D]:List E8)) (css := [(Z9i D E c14)]) bP ⟨(Z5k (x:=D) bQ:Q7h.rp _ _ _ _),qZt⟩ ?_;intro _ _ _ c29 _ bR;obtain⟨_,bT,hm⟩:=bindS hm;refine aO 3 bR (U3 bT) ?_;intro _ _ _ c30 _ bU;exact lg hm ae (bU.sel [3,4,5] rfl)
    refine pn ?_;refine cnd (b:=false) rfl (fun h=>nomatch h) (fun _ => ?_);have hm:=Q6d hm ab ah;refine pn ?_;obtain⟨_,_,bV,bW,rfl⟩:=aB.sl 0;refine bS (r:=Q7h) (l:=([D]:List E8)) (css := [(Z9i D E c14)]) bV ⟨(Z5k (x:=D) bW:Q7h.rp _ _ _ _),qZt⟩ ?_;intro _ _ _ c31 _ bY;obtain⟨_,bZ,hm⟩:=bindS hm;refine aO 3 bY (U3 bZ) ?_;intro _ _ _ _ _ b0;exact lg hm ae (b0.sel [3,4,5] rfl)
  exact zr hm aw
theorem Z9t {G:Rec2} (hG:Sp2 G):Q6g (Q3d G):=by
  intro g _ _ R _ Y2 Y1 Z5 a1 c1 hS Z2 h1 r hm;refine Y5d Tryz.func92 rfl Tryz.ntmps92 rfl fun J => ?_;unfold Q3d at hm;refine sq2 (aL zv8 hS ?_);intro _ U aB aC;refine pn ?_;refine sq2 (pu ?_);refine cP Y9w hm (R6 (aC.bun [0,1] [2] rfl) Z2 (h1.mono aB)) ?_ ?_
  · rintro _ _ _ _ _ ⟨_,_,rfl,aD,_,_⟩ hm;exact pe hm (aD.sel [1,2] rfl)
  rintro _ _ _ _ _ ⟨D,_,c2,rfl,aE,h2,_⟩ hm;refine wl rfl (dfO (f:=153) (cap := #[pt D 0]) rfl ?_);refine pn ?_;refine sq2 (pu ?_);refine cB cf57 hm (C1 (aE.bun [0,1,3] [2] rfl) Z2 h2) ?_;rintro y2 _ T2 _ _ ⟨rfl,aG,_⟩ hm;refine pv (F9 (by kernel_rfl) rfl (u := .agg #[iv 0,iv y2.Line,iv y2.Col,.slice none 0 0,.slice none 0 0,.slice none 0 0,.slice none 0 0,.slice none 0 0,.slice none 0 0,.slice none 0 0])) (aL zv8 aG ?_);intro _ O _ aI;refine sT 0 aI ?_;intro w5 _ aK;refine pn ?_;refine O7 hm (fun aj a E => ∃(I:_) (V:Z0) (K:U0) (W:_) (c3:_) (a4:_) (c4:_) (a5:_) (c5:_) (a6:_) (c6:_) (a7:_) (c7:_) (a8:_) (c8:_) (a9:_) (c9:_) (ag:_) (c10:_),JR (⟨98,[⟨.fn (.func 153) #[pt D 0],#[]⟩]⟩) g T2 w5 a E I (aj K V=some r) [(2,pt U 0),(3,pt O 0)] [U5 O (Q8t K W c3 a4 c4 a5 c5 a6 c6 a7 c7 a8 c8 a9 c9),U5 U zv8,Y5 R,U5 D [pt Y2 Y1],Q1 ag c10 Z5 V]∧Q7 W c3 I E K.A∧Q7 a4 c4 I E K.B∧Q7 a5 c5 I E K.C∧Q20 a6 c6 I E K.Var∧Q19 a7 c7 I E K.Body∧Q19 a8 c8 I E K.Else∧Q58 a9 c9 I E K.Cases∧Q5 ag c10 I E V) (fun aj hm => ?_) ?_
  · refine blk (sq2 (pu ?_));refine cB cf90 hm (Q7e (aK.bun (Z1 0 4) [4] rfl) Z2 (h2.mono ch)) ?_;rintro _ _ _ _ _ ⟨rfl,ak,_⟩ hm;refine cd hm ?_ ?_ <;> intro dp hm
    · refine pu ?_;refine cP cf121 hm (Q5e (ak.bun (Z1 0 4) [4] rfl) Z2 (h2.mono ch)) ?_ ?_
      · rintro _ _ _ _ _ ⟨_,c15,rfl,aM,_,_⟩ hm;refine pn ?_;refine Q4t Q0m (L6 (args := [pt D 0]) Tryz.func153 rfl Tryz.ntmps153 rfl rfl fun J => ?_);refine sB 4 3 Z2 aM ?_;intro _ _ aN;exact pe hm (aN.sel [2,4] rfl)
      rintro y4 _ _ _ _ ⟨aP,c11,aQ,c12,_,c13,rfl,aR,aS,aT,_,_⟩ hm;refine bS (r:=W2) (l:=([y4.1]:List F2)) (css := [(Z5y y4.1 aP c11 aQ c12)]) aR ⟨(Z3x (x:=y4.1) aS aT:W2.rp _ _ _ _),qZt⟩ ?_;intro _ _ _ c14 _ aU;refine sT 1 aU ?_;intro _ _ aV;refine sT 1 aV ?_;intro _ _ aW;obtain⟨_,_,aX,_,rfl⟩:=aW.sl 0;exact je hm (aX.sel (Z1 1 5) rfl)
    refine sq2 (pu ?_);refine cB cf58 hm (N7 (ak.bun (Z1 0 4) [4] rfl) Z2 (h2.mono ch)) ?_;rintro _ _ _ _ _ ⟨rfl,am,_⟩ hm;refine cd hm ?_ ?_ <;> intro dq hm
    · refine pu ?_;refine cP cf66 hm (hG.E0 (am.bun (Z1 0 4) [4] rfl) Z2 (h2.mono ch)) ?_ ?_
      · rintro _ _ _ _ _ ⟨_,c18,rfl,aY,_,_⟩ hm;refine pn ?_;refine Q4t Q0m (L6 (args := [pt D 0]) Tryz.func153 rfl Tryz.ntmps153 rfl rfl fun J => ?_);refine sB 4 3 Z2 aY ?_;intro _ _ aZ;exact pe hm (aZ.sel [2,4] rfl)
      rintro _ _ _ _ _ ⟨_,_,c16,_,c17,rfl,ba,_,_⟩ hm;refine sT 0 ba ?_;intro _ _ be;refine sT 0 be ?_;intro _ _ bf;obtain⟨_,_,bg,_,rfl⟩:=bf.sl 5;exact je hm (bg.sel (Z1 0 5) rfl)
    refine sq2 (pu ?_);refine cB Z3d hm (X8 (am.bun (Z1 0 4) [4] rfl) Z2 (h2.mono ch)) ?_;rintro _ _ _ _ _ ⟨_,c19,rfl,an,bh,_⟩ hm;refine cd hm ?_ ?_ <;> intro dr hm
    · refine sT 0 an ?_;intro _ _ bi;exact je hm (bi.sel (Z1 0 5) rfl)
    refine sq2 (pu ?_);refine cB Z3d hm (X8 (an.bun (Z1 0 4) [4] rfl) Z2 bh) ?_;rintro _ _ _ _ _ ⟨_,c20,rfl,ao,ap,_⟩ hm;refine cd hm ?_ ?_ <;> intro ds hm
    · refine sq2 (pu ?_);refine cP Y9v hm (Q0r (ao.bun (Z1 0 4) [4] rfl) Z2 ap) ?_ ?_
      · rintro _ _ _ _ _ ⟨_,c30,rfl,bj,_,_⟩ hm;refine pn ?_;refine Q4t Q0m (L6 (args := [pt D 0]) Tryz.func153 rfl Tryz.ntmps153 rfl rfl fun J => ?_);refine sB 4 3 Z2 bj ?_;intro _ _ bk;exact pe hm (bk.sel [2,4] rfl)
      rintro _ _ _ _ _ ⟨_,_,c21,_,c22,rfl,bl,bm,_⟩ hm;refine sT 0 bl ?_;intro _ _ bn;refine sT 0 bn ?_;intro _ _ bo;refine pn ?_;refine sq2 (pu ?_);refine cP Y9u hm (hG.J9 (bo.bun [0,1,2,3,5] [4] rfl) Z2 (bm.mono ch)) ?_ ?_
      · rintro _ _ _ _ _ ⟨_,c29,rfl,bp,_,_⟩ hm;refine pn ?_;refine Q4t Q0m (L6 (args := [pt D 0]) Tryz.func153 rfl Tryz.ntmps153 rfl rfl fun J => ?_);refine sB 5 3 Z2 bp ?_;intro _ _ bq;exact pe hm (bq.sel [2,5] rfl)
      rintro _ _ _ _ _ ⟨_,c23,_,c24,rfl,bt,_,bu,_⟩ hm;refine sT 0 bt ?_;intro _ bv bw;refine pn ?_;refine sq2 (pu ?_);refine cB Z3d hm (X8 (bw.bun (Z1 0 5) [5] rfl) Z2 (bu.mono bv)) ?_;rintro bz _ _ _ _ ⟨_,c25,rfl,aq,bA,_⟩ hm;refine nil (J3 [(0,pt Y2 Y1),(2,pt U 0),(3,pt O 0),(41,.bool bz.1)] ⟨rfl,rfl,rfl,rfl,qZt⟩ fun J => ?_);refine cd hm ?_ ?_ <;> intro du hm
      · refine pu ?_;refine cP Y9u hm (hG.J9 (aq.bun (Z1 0 5) [5] rfl) Z2 bA) ?_ ?_
        · rintro _ _ _ _ _ ⟨_,c28,rfl,bB,_,_⟩ hm;refine pn ?_;refine Q4t Q0m (L6 (args := [pt D 0]) Tryz.func153 rfl Tryz.ntmps153 rfl rfl fun J => ?_);refine sB 5 3 Z2 bB ?_;intro _ _ bC;exact pe hm (bC.sel [2,5] rfl)
        rintro _ _ _ _ _ ⟨_,c26,_,c27,rfl,bD,_,_,_⟩ hm;refine sT 0 bD ?_;intro _ _ bE;obtain⟨_,_,bF,_,rfl⟩:=bE.sl 4;exact je hm (bF.sel [0,1,2,3,5] rfl)
      obtain⟨_,_,bG,_,rfl⟩:=aq.sl 4;exact je hm (bG.sel [0,1,2,3,5] rfl)
    refine sq2 (pu ?_);refine cB Z3d hm (X8 (ao.bun (Z1 0 4) [4] rfl) Z2 ap) ?_;rintro _ _ _ _ _ ⟨_,c31,rfl,ar,au,_⟩ hm;refine cd hm ?_ ?_ <;> intro dv hm
    · refine sq2 (pu ?_);refine cP Y9v hm (Q0r (ar.bun (Z1 0 4) [4] rfl) Z2 au) ?_ ?_
      · rintro _ _ _ _ _ ⟨_,_,rfl,bI,_,_⟩ hm;refine pn ?_;refine Q4t Q0m (L6 (args := [pt D 0]) Tryz.func153 rfl Tryz.ntmps153 rfl rfl fun J => ?_);refine sB 4 3 Z2 bI ?_;intro _ _ bJ;exact pe hm (bJ.sel [2,4] rfl)
      rintro _ _ _ _ _ ⟨_,_,_,_,_,rfl,bK,bL,_⟩ hm;refine sT 0 bK ?_;intro _ _ bM;refine sT 0 bM ?_;intro _ _ bN;refine pn ?_;refine cP Y9u hm (hG.J9 (bN.bun [0,1,2,3,5] [4] rfl) Z2 (bL.mono ch)) ?_ ?_
      · rintro _ _ _ _ _ ⟨_,_,rfl,bO,_,_⟩ hm;refine pn ?_;refine Q4t Q0m (L6 (args := [pt D 0]) Tryz.func153 rfl Tryz.ntmps153 rfl rfl fun J => ?_);refine sB 5 3 Z2 bO ?_;intro _ _ bP;exact pe hm (bP.sel [2,5] rfl)
      rintro _ _ _ _ _ ⟨_,_,_,_,rfl,bQ,_,_,_⟩ hm;refine sT 0 bQ ?_;intro _ _ bR;obtain⟨_,_,bT,_,rfl⟩:=bR.sl 4;exact je hm (bT.sel [0,1,2,3,5] rfl)
    refine sq2 (pu ?_);refine cB Z3d hm (X8 (ar.bun (Z1 0 4) [4] rfl) Z2 au) ?_;rintro _ _ _ _ _ ⟨_,_,rfl,av,aw,_⟩ hm;refine cd hm ?_ ?_ <;> intro dw hm
    · refine sq2 (pu ?_);refine cP Y9u hm (hG.J9 (av.bun (Z1 0 4) [4] rfl) Z2 aw) ?_ ?_
      · rintro _ _ _ _ _ ⟨_,_,rfl,bU,_,_⟩ hm;refine pn ?_;refine Q4t Q0m (L6 (args := [pt D 0]) Tryz.func153 rfl Tryz.ntmps153 rfl rfl fun J => ?_);refine sB 4 3 Z2 bU ?_;intro _ _ bV;exact pe hm (bV.sel [2,4] rfl)
      rintro _ _ _ _ _ ⟨_,_,_,_,rfl,bW,_,bY,_⟩ hm;refine sT 0 bW ?_;intro _ _ bZ;refine sT 0 bZ ?_;intro _ _ b0;refine nil (J3 [(0,pt Y2 Y1),(2,pt U 0),(3,pt O 0)] ⟨rfl,rfl,rfl,qZt⟩ fun J => ?_);refine sq2 (pu ?_);refine cP Q9t hm (X1 (b0.bun (Z1 0 4) [4] rfl) Z2 (bY.mono ch)) ?_ ?_
      · rintro _ _ _ _ _ ⟨_,_,rfl,b4,_,_⟩ hm;refine pn ?_;refine Q4t Q0m (L6 (args := [pt D 0]) Tryz.func153 rfl Tryz.ntmps153 rfl rfl fun J => ?_);refine sB 4 3 Z2 b4 ?_;intro _ _ b5;exact pe hm (b5.sel [2,4] rfl)
      rintro _ _ _ _ _ ⟨_,_,rfl,b6,b7,_⟩ hm;refine pn ?_;refine sq2 (pu ?_);refine cP Y9v hm (Q0r (b6.bun (Z1 0 4) [4] rfl) Z2 b7) ?_ ?_
      · rintro _ _ _ _ _ ⟨_,_,rfl,b8,_,_⟩ hm;refine pn ?_;refine Q4t Q0m (L6 (args := [pt D 0]) Tryz.func153 rfl Tryz.ntmps153 rfl rfl fun J => ?_);refine sB 4 3 Z2 b8 ?_;intro _ _ b9;exact pe hm (b9.sel [2,4] rfl)
      rintro _ _ _ _ _ ⟨_,_,_,_,_,rfl,cc,ce,_⟩ hm;refine sT 0 cc ?_;intro _ cf cg;refine pn ?_;refine cP Q9t hm (X1 (cg.bun [0,1,2,3,5] [4] rfl) Z2 (ce.mono cf)) ?_ ?_
      · rintro _ _ _ _ _ ⟨_,_,rfl,ci,_,_⟩ hm;refine pn ?_;refine Q4t Q0m (L6 (args := [pt D 0]) Tryz.func153 rfl Tryz.ntmps153 rfl rfl fun J => ?_);refine sB 5 3 Z2 ci ?_;intro _ _ cj;exact pe hm (cj.sel [2,5] rfl)
      rintro _ _ _ _ _ ⟨_,_,rfl,ck,_,_⟩ hm;obtain⟨_,_,cl,_,rfl⟩:=ck.sl 4;exact je hm (cl.sel [0,1,2,3,5] rfl)
    refine sq2 (pu ?_);refine cB Z3d hm (X8 (av.bun (Z1 0 4) [4] rfl) Z2 aw) ?_;rintro cm _ _ _ _ ⟨_,_,rfl,ax,ay,_⟩ hm;refine pu ?_;refine nil (J3 [(0,pt Y2 Y1),(2,pt U 0),(3,pt O 0),(69,.bool cm.1)] ⟨rfl,rfl,rfl,rfl,qZt⟩ fun J => ?_);refine cd hm ?_ ?_ <;> intro dx hm
    · refine sq2 (sT 0 ax ?_);intro w64 cn co;refine pn ?_;refine sq2 (pu ?_);refine cP Q9t hm (X1 (co.bun (Z1 0 4) [4] rfl) Z2 (ay.mono cn)) ?_ ?_
      · rintro _ _ _ _ _ ⟨_,_,rfl,cp,_,_⟩ hm;refine pn ?_;refine Q4t Q0m (L6 (args := [pt D 0]) Tryz.func153 rfl Tryz.ntmps153 rfl rfl fun J => ?_);refine sB 4 3 Z2 cp ?_;intro _ _ cq;exact pe hm (cq.sel [2,4] rfl)
      rintro _ _ _ _ _ ⟨_,_,rfl,cr,ct,_⟩ hm;refine pn ?_;refine sq2 (pu ?_);refine cP Y9t hm (L7 (cr.bun (Z1 0 4) [4] rfl) Z2 ct) ?_ ?_
      · rintro _ _ _ _ _ ⟨_,_,rfl,cu,_,_⟩ hm;refine pn ?_;refine Q4t Q0m (L6 (args := [pt D 0]) Tryz.func153 rfl Tryz.ntmps153 rfl rfl fun J => ?_);refine sB 4 3 Z2 cu ?_;intro _ _ cv;exact pe hm (cv.sel [2,4] rfl)
      rintro _ _ _ _ _ ⟨_,_,_,_,_,rfl,cw,cx,_⟩ hm;refine pu ?_;refine cP Y9t hm (L7 (cw.bun [0,1,2,3,5] [4] rfl) Z2 cx) ?_ ?_
      · rintro _ _ _ _ _ ⟨_,_,rfl,cy,_,_⟩ hm;refine pn ?_;refine Q4t Q0m (L6 (args := [pt D 0]) Tryz.func153 rfl Tryz.ntmps153 rfl rfl fun J => ?_);refine sB 5 3 Z2 cy ?_;intro _ _ cz;exact pe hm (cz.sel [2,5] rfl)
      rintro _ _ _ _ _ ⟨_,_,_,_,_,rfl,cA,cC,_⟩ hm;refine pu ?_;refine cP Y9t hm (L7 (cA.bun (Z1 0 5 ++ [6]) [5] rfl) Z2 cC) ?_ ?_
      · rintro _ _ _ _ _ ⟨_,_,rfl,cD,_,_⟩ hm;refine pn ?_;refine Q4t Q0m (L6 (args := [pt D 0]) Tryz.func153 rfl Tryz.ntmps153 rfl rfl fun J => ?_);refine sB 6 3 Z2 cD ?_;intro _ _ cE;exact pe hm (cE.sel [2,6] rfl)
      rintro _ _ _ _ _ ⟨_,_,_,_,_,rfl,cF,cG,_⟩ hm;refine sT 0 cF ?_;intro _ _ cI;refine sT 0 cI ?_;intro _ _ cJ;refine sT 0 cJ ?_;intro _ _ cK;refine pn ?_;refine cP Y9u hm (hG.J9 (cK.bun (Z1 0 6 ++ [7]) [6] rfl) Z2 (cG.mono ch)) ?_ ?_
      · rintro _ _ _ _ _ ⟨_,_,rfl,cL,_,_⟩ hm;refine pn ?_;refine Q4t Q0m (L6 (args := [pt D 0]) Tryz.func153 rfl Tryz.ntmps153 rfl rfl fun J => ?_);refine sB 7 3 Z2 cL ?_;intro _ _ cM;exact pe hm (cM.sel [2,7] rfl)
      rintro _ _ _ _ _ ⟨_,_,_,_,rfl,cO,_,_,_⟩ hm;refine sT 0 cO ?_;intro _ _ cQ;obtain⟨_,_,cR,_,rfl⟩:=cQ.sl 4;obtain⟨_,_,cT,_,rfl⟩:=cR.sl 5;obtain⟨_,_,cU,_,rfl⟩:=cT.sl 6;exact je hm (cU.sel [0,1,2,3,7] rfl)
    refine sq2 (pu ?_);refine cB Z3d hm (X8 (ax.bun (Z1 0 4) [4] rfl) Z2 ay) ?_;rintro _ _ _ _ _ ⟨_,_,rfl,az,aA,_⟩ hm;refine cd hm ?_ ?_ <;> intro dy hm
    · refine sq2 (pu ?_);refine cP Y9v hm (Q0r (az.bun (Z1 0 4) [4] rfl) Z2 aA) ?_ ?_
      · rintro _ _ _ _ _ ⟨_,_,rfl,cV,_,_⟩ hm;refine pn ?_;refine Q4t Q0m (L6 (args := [pt D 0]) Tryz.func153 rfl Tryz.ntmps153 rfl rfl fun J => ?_);refine sB 4 3 Z2 cV ?_;intro _ _ cW;exact pe hm (cW.sel [2,4] rfl)
      rintro _ _ _ _ _ ⟨_,_,_,_,_,rfl,cX,cY,_⟩ hm;refine sT 0 cX ?_;intro _ _ cZ;refine sT 0 cZ ?_;intro _ _ da;refine pn ?_;refine cP cf125 hm (hG.A3 (da.bun [0,1,2,3,5] [4] rfl) Z2 (cY.mono ch)) ?_ ?_
      · rintro _ _ _ _ _ ⟨_,_,rfl,db,_,_⟩ hm;refine pn ?_;refine Q4t Q0m (L6 (args := [pt D 0]) Tryz.func153 rfl Tryz.ntmps153 rfl rfl fun J => ?_);refine sB 5 3 Z2 db ?_;intro _ _ dc;exact pe hm (dc.sel [2,5] rfl)
      rintro _ _ _ _ _ ⟨_,_,_,_,_,rfl,dd,_,_⟩ hm;refine sT 0 dd ?_;intro _ _ de;obtain⟨_,_,dg,_,rfl⟩:=de.sl 4;obtain⟨_,_,dh,_,rfl⟩:=dg.sl 6;exact je hm (dh.sel [0,1,2,3,5] rfl)
    refine pu ?_;refine cP cf126 hm (Q7f (az.bun [1,2,3] [4,0] rfl) Z2 aA (Q4u O) V4 V4 V4 V4 V4 V4 V4) ?_ ?_
    · rintro _ _ _ _ _ ⟨_,_,_,_,_,_,_,_,_,_,_,_,_,_,_,_,rfl,di,_,_,_,_,_,_,_,_,_⟩ hm;refine pn ?_;refine Q4t Q0m (L6 (args := [pt D 0]) Tryz.func153 rfl Tryz.ntmps153 rfl rfl fun J => ?_);refine sB 3 3 Z2 di ?_;intro _ _ dj;exact pe hm (dj.sel [1,3] rfl)
    rintro _ _ _ _ _ ⟨_,_,_,_,_,_,_,_,_,_,_,_,_,_,_,_,rfl,dk,_,_,_,_,_,_,_,_,_⟩ hm;exact je hm (dk.sel [4,0,1,2,3] rfl)
  rintro _ E ⟨I,V,K,W,c3,a4,c4,a5,c5,a6,c6,a7,c7,a8,c8,a9,c9,ag,c10,⟨J,hm,rfl,dl,_⟩,h3,_,_,h6,_,_,_,_⟩;refine sq2 (sT 1 dl ?_);intro _ _ dm;refine pn ?_;refine pn ?_;refine retD Q0m (L6 (args := [pt D 0]) Tryz.func153 rfl Tryz.ntmps153 rfl rfl fun J => ?_);refine sB 4 3 Z2 dm ?_;intro _ _ dn;exact eo hm (dn.sel [2,4] rfl)
theorem Z8g {G:Rec2} (hG:Sp2 G):Q5p (Q2n G):=by
  intro g _ _ R _ Y2 Y1 Z5 a1 c1 hS Z2 h1 r hm;refine enter func66 rfl ntmps66 rfl fun J => ?_;unfold Q2n at hm;refine sq2 (pn ?_);refine sq2 (pn ?_);refine sq2 (pu ?_);refine cP Q9t hm (X1 (hS.bun [0] [1] rfl) Z2 h1) ?_ ?_
  · exact zk
  rintro _ _ T1 w1 _ ⟨_,c2,rfl,ah,h2,_⟩ hm;refine pn ?_;refine sq2 ?_;have ai:=ah.nilO Q1e 96;refine lpJ hm (fun ab o1 m a E => ∃(I:_) (D:Z0) (K:List U0) (O:_) (U:_) (c3:_) (V:_) (c4:_),JR (nf 15) g T1 w1 a E I (loopM ab m (K,D)=some o1) [(0,pt Y2 Y1),(3,.slice O U c3)] [K3 Q1e 96 (.slice O U c3) K,Y5 R,Q1 V c4 Z5 D]∧Q5 V c4 I E D) (fun _ _ h=>je h (ai.sel [0,1,2] rfl)) ?_;rintro ab aj o1 ad _ _ E ⟨I,D,K,O,U,c3,V,c4,⟨J,ak,rfl,am,_⟩,h3⟩;obtain⟨m1,_,rfl,hm,W⟩:=lrE ak aj;refine sq2 (sq2 (pu ?_));refine cB Z3d hm (X8 (am.bun [0,1] [2] rfl) Z2 h3) ?_;rintro _ _ _ _ _ ⟨_,c5,rfl,ae,h4,_⟩ hm;refine cd hm ?_ ?_ <;> intro aJ hm
  · refine pn ?_;refine blk (pu ?_);refine cP cf92 hm (hG.G7 (ae.bun [0,1] [2] rfl) Z2 h4) ?_ ?_
    · rintro _ _ _ _ _ ⟨_,c16,rfl,ao,_,_⟩ hm;have hm:=Q0o hm W ad;exact pe hm (ao.sel [1,2] rfl)
    rintro y3 _ _ _ _ ⟨a6,c6,a7,c7,a8,c8,a9,c9,av,c10,aw,c11,ax,c12,_,c13,rfl,ay,h5,h6,h7,h8,h9,aD,aE,_,_⟩ hm;refine bS (r:=Q1e) (l:=([y3.1]:List U0)) (css := [(Q8t y3.1 a6 c6 a7 c7 a8 c8 a9 c9 av c10 aw c11 ax c12)]) ay ⟨(Y1u (x:=y3.1) h5 h6 h7 h8 h9 aD aE:Q1e.rp _ _ _ _),qZt⟩ ?_;intro _ _ _ c14 _ aF;obtain⟨_,aG,hm⟩:=bindS hm;refine aO 1 aF (U3 aG) ?_;intro _ _ _ c15 _ aI;exact lg hm W (aI.sel [1,2,3] rfl)
  have hm:=Q6d hm W ad;refine pn ?_;exact sq2 (re hm (ae.sel [1,2,0] rfl))
theorem sp2 : ∀ n,Sp2 (Z3v n)
  | 0=>⟨(by unfold Q6k; intros; rename_i h; cases (show (none:Option _)=some _ from h)),(by unfold Q5o; intros; rename_i h; cases (show (none:Option _)=some _ from h)),(by unfold Q6g; intros; rename_i h; cases (show (none:Option _)=some _ from h)),(by unfold Q5p; intros; rename_i h; cases (show (none:Option _)=some _ from h))⟩
  | n+1=>⟨Z9w (sp2 n),Z8f (sp2 n),Z9t (sp2 n),Z8g (sp2 n)⟩
theorem Y8q:Q6k J9:=(sp2 NN).J9
theorem Y8k:Q5o A3:=(sp2 NN).A3
theorem Y8n:Q6g G7:=(sp2 NN).G7
theorem Z1a:Q5p E0:=(sp2 NN).E0

theorem Q7g {p0:Z0} {p1:J2} (hS:Sep g T0 w0 ([Y5 R,Q1 a1 c1 Z5 p0]++Z3j p1 R5 a2 n1 c2 a3 n2 c3 a4 n3 c4)) (Z2:Ln Y2 Y1 Z5) (h1:Q5 a1 c1 T0 w0 p0) (Q2p:Ln Q1c Q0x R5) : ∀ r,Q1r p0 p1=some r →
    Calls Tryz.prog 30 #[pt Y2 Y1,pt Q1c Q0x] w0 (exR r (fun r=>U7 T0 w0 fun T w v => ∃ a63 c63 a64 n21 c64 a65 n22 c65 a66 n23 c66,v = .tuple #[]∧Sep g T w (R++([Q1 a63 c63 Z5 r.1]++Z3j r.2 R5 a64 n21 c64 a65 n22 c65 a66 n23 c66))∧Q5 a63 c63 T w r.1∧True) (fun r=>A5 T0 w0 fun T w v => ∃ a63 c63 a64 n21 c64 a65 n22 c65 a66 n23 c66,v = .iface 63 (Q18 r.1.pos r.1.e)∧Sep g T w (R++([Q1 a63 c63 Z5 r.2.1]++Z3j r.2.2 R5 a64 n21 c64 a65 n22 c65 a66 n23 c66))∧Q5 a63 c63 T w r.2.1∧True)):=by
  intro r hm;refine enter func30 rfl ntmps30 rfl fun J => ?_;unfold Q1r at hm;refine sq2 (pu ?_);refine cB cf57 hm (C1 (hS.bun [0,2,3,4,5] [1] rfl) Z2 h1) ?_;rintro D _ _ _ _ ⟨rfl,bE,_⟩ hm;refine aL [iv 0,iv 0] bE ?_;intro _ _ _ bF;refine sT 0 bF ?_;intro _ _ bG;refine pn ?_;refine sq2 (sq2 (pu ?_));refine cB cf58 hm (N7 (bG.bun (Z1 0 6) [6] rfl) Z2 (h1.mono ch)) ?_;rintro _ _ _ _ _ ⟨rfl,bm,_⟩ hm;refine pu ?_
  rcases bc hm with ⟨bI,hm⟩ | ⟨bI,hm⟩
  · refine pu ?_;refine cB cf59 hm (Q4l (bm.bun (Z1 0 6) [6] rfl) Z2 (h1.mono ch)) ?_;rintro _ _ _ _ _ ⟨rfl,bn,_⟩ hm;refine cd hm ?_ ?_ <;> intro eN hm
    · refine sq2 (pu ?_);refine cP Q9t hm (X1 (bn.bun (Z1 0 6) [6] rfl) Z2 (h1.mono ch)) ?_ ?_
      · rintro _ _ _ _ _ ⟨_,c16,rfl,bJ,_,_⟩ hm;exact pe hm (bJ.sel [1,6,2,3,4,5] rfl)
      rintro _ _ T4 w6 _ ⟨_,c5,rfl,bM,h2,_⟩ hm;refine pn ?_;refine O7 hm (fun bo a w7 => ∃(T5:_) (x1:Z0) (a6:_) (c6:_) (b2:_) (U:D4) (a7:_) (c7:_),JR (nf 77) g T4 w6 a w7 T5 (bo x1 U=some r) [(0,pt Y2 Y1),(1,pt Q1c Q0x),(5,pt b2 0)] ([Y5 R]++(Z3j p1 R5 a2 n1 c2 a3 n2 c3 a4 n3 c4 ++ [Q1 a6 c6 Z5 x1,U5 b2 (Y2p U a7 c7)]))∧Q5 a6 c6 T5 w7 x1∧Q20 a7 c7 T5 w7 U.Fields) (fun bo hm => ?_) ?_
      · refine rtPS [1,0,2,0,2,2] [0,1,2,3,4,5] bM (V9 (V9 (P8))) fun w8 bp am => ?_;refine pu ?_;obtain⟨y5,ao,hm⟩:=bindS hm
        rcases y5 with e1 | y5
        · have hm:=K0 hm;refine tF [2,4] ?_;refine⟨?_,?_,qZt⟩
          · refine brW [3,4,5] [] ?_;refine oP cf61 (D6 (am.bun (Z1 1 5 ++ [0]) [6] rfl) Z2 (h2.mono bp) _ ao) ?_;rintro _ T8 _ _ ⟨bO,c10,rfl,bP,h7,_⟩;exact pe hm (bP.sel [0,6,1,2,3,4] rfl)
          refine brW [2,3,5] [] ?_;refine oaL zv12 am ?_;intro _ b4 _ bT;refine t1W [2] [3,5] [] ?_;refine oP cf61 (D6 (bT.bun [0,2,3,4,5,6,1] [7] rfl) Z2 (h2.mono ch) _ ao) ?_;rintro _ T8 bU bV ⟨bO,c10,rfl,aD,h7,_⟩;exact pe hm (aD.sel [1,7,2,3,4,5] rfl)
        have hm:=B8 hm;refine tF [2,4] ?_;refine⟨?_,?_,qZt⟩
        · refine brW [3,4,5] [] ?_;refine oS cf61 (D6 (am.bun (Z1 1 5 ++ [0]) [6] rfl) Z2 (h2.mono bp) _ ao) ?_;rintro _ T6 w9 bZ ⟨a8,c8,rfl,aE,h5,_⟩;refine pu ?_;refine t0 rfl qZt (fun _=>F9 (by kernel_rfl) rfl (u := .agg #[iv D.Line,iv D.Col,qZs y5.1,.slice none 0 0])) rfl (?_);refine t1W [4] [5] [] ?_;refine oaL zv12 aE ?_;intro ce b3 cg aF;refine t1W [5] [] [0] ?_;refine osT 0 aF ?_;intro ci cj aG;refine pu ?_;exact je hm (aG.sel (Z1 1 5 ++ [7,0]) rfl)
        refine brW [2,3,5] [] ?_;refine oaL zv12 am ?_;intro w9 b3 bZ aE;refine t1W [2] [3,5] [] ?_;refine oS cf61 (D6 (aE.bun [0,2,3,4,5,6,1] [7] rfl) Z2 (h2.mono ch) _ ao) ?_;rintro _ T6 ce cg ⟨a8,c8,rfl,aF,h5,_⟩;refine pu ?_;refine t0 rfl qZt (fun _=>F9 (by kernel_rfl) rfl (u := .agg #[iv D.Line,iv D.Col,qZs y5.1,.slice none 0 0])) rfl (?_);refine t1W [5] [] [0] ?_;refine osT 0 aF ?_;intro ci cj aG;refine pu ?_;exact je hm (aG.sel (Z1 1 5 ++ [7,0]) rfl)
      rintro _ w7 ⟨T5,x1,a6,c6,b2,U,a7,c7,⟨J,hm,rfl,aD,_⟩,h3,_⟩;refine sq2 (pu ?_);refine cP cf62 hm (Q6i (aD.bun (Z1 0 5 ++ [6]) [5] rfl) Z2 h3) ?_ ?_
      · rintro _ _ _ _ _ ⟨_,c15,rfl,ck,_,_⟩ hm;exact pe hm (ck.sel [0,6,1,2,3,4] rfl)
      rintro y6 _ _ bU bV ⟨cl,_,c11,_,c12,rfl,cm,_,_⟩ hm;refine sT 5 cm ?_;intro _ _ cn;refine pn ?_;refine sq2 (rsS [0,0,0,0,1,1,2,2,0,0,2] [0,1,2,3,4,5,6,7,8,9,10] cn fun eQ eR co => ?_);refine pu ?_;obtain⟨_,_,cp,h9,rfl⟩:=co.sl 7;refine s2W [0] ?_;refine obS (r:=Q0a) (l:=([{U with Fields:=y6.1}]:List D4)) (css := [[iv U.Pos.Line,iv U.Pos.Col,Q16 U.Name.toArray,sv cl y6.1 c11]]) cp ⟨(Z8n (x := {U with Fields:=y6.1}) h9:Q0a.rp _ _ _ _),qZt⟩ ?_;intro _ _ _ c13 _ cr;refine pu ?_;obtain⟨_,ct,hm⟩:=bindS hm;refine s2W [0] ?_;refine oaO 3 cr (U3 ct) ?_;intro _ _ _ c14 _ cu;refine s2W [] ?_;refine osB 2 0 Q2p cu ?_;intro _ _ cv;exact re hm (cv.sel [1,7,2,3,4,5] rfl)
    refine pn ?_;refine sq2 (pu ?_);refine cP cf63 hm (F4 (bn.bun (Z1 0 6) [6] rfl) Z2 (h1.mono ch)) ?_ ?_
    · rintro _ _ _ _ _ ⟨_,_,rfl,cw,_,_⟩ hm;exact pe hm (cw.sel [1,6,2,3,4,5] rfl)
    rintro K _ _ _ _ ⟨_,c17,rfl,cx,cy,_⟩ hm;refine aL zv10 cx ?_;intro _ b4 _ cz;refine sT 0 cz ?_;intro _ _ cA;refine pn ?_;refine sq2 (pu ?_);refine cP cf61 hm (D6 (cA.bun (Z1 0 7) [7] rfl) Z2 (cy.mono ch)) ?_ ?_
    · rintro _ _ _ _ _ ⟨_,_,rfl,cC,_,_⟩ hm;exact pe hm (cC.sel [2,7,3,4,5,6] rfl)
    rintro y8 _ _ _ _ ⟨_,c18,rfl,cD,V,_⟩ hm;refine pn ?_;refine sq2 (sq2 (pu ?_));refine cB cf58 hm (N7 (cD.bun (Z1 0 7) [7] rfl) Z2 V) ?_;rintro _ _ cE cF _ ⟨rfl,bq,_⟩ hm;refine cd hm ?_ ?_ <;> intro eS hm
    · refine sq2 (Z0c [0,0,0,0,1,0,1,1,0,0,2,2,2,0,0,2] [0,1,2,3,4,5,6,7,8,9,10,11,12,13,14,15] bq (V9 (V9 (P8))) fun eT eU bt => ?_);refine pu ?_;refine s0 rfl qZt (fun _=>F9 (by kernel_rfl) rfl (u := .agg #[iv D.Line,iv D.Col,qZs K.1.Word,qZs K.1.Name,iv K.1.Stars,qZs y8.1,.slice none 0 0,.slice none 0 0,.bool false])) rfl ?_;obtain⟨ab,bu,hm⟩:=bindS hm
      rcases ab with e4 | ab
      · have hm:=K0 hm;refine s2 [(4,.slice a3 n2 c3)] rfl qZt rfl (by kernel_rfl) (Q7m cf64 rfl (R7 (p0:=y8.2) (p1:=(⟨D,K.1,y8.1,[],[],false⟩:F2)) (bt.bun (Z1 2 5 ++ [0,1]) [7] rfl) Z2 (V.mono ch) V4 _ bu) rfl fun eW eX eY eZ cG => ?_);obtain⟨_,c24,rfl,cI,_,_⟩:=cG;exact pe hm (cI.sel [0,7,1,2,3,4] rfl)
      have hm:=B8 hm;refine sS [(4,.slice a3 n2 c3)] cf64 (R7 (bt.bun (Z1 2 5 ++ [0,1]) [7] rfl) Z2 (V.mono ch) V4 _ bu) ?_;rintro _ _ _ _ ⟨cJ,c19,cK,c20,_,c21,rfl,cL,cM,cO,_,_⟩;refine s2W [] ?_;refine obS (r:=W2) (l:=([ab.1]:List F2)) (css := [(Z5y ab.1 cJ c19 cK c20)]) cL ⟨(Z3x (x:=ab.1) cM cO:W2.rp _ _ _ _),qZt⟩ ?_;intro _ _ _ c22 _ cQ;refine pu ?_;obtain⟨_,cR,hm⟩:=bindS hm;refine s2W [0] ?_;refine oaO 4 cQ (U3 cR) ?_;intro _ _ _ c23 _ cT;refine s2W [] ?_;refine osB 2 1 Q2p cT ?_;intro _ _ cU;refine pu ?_;refine seP (J3 [] qZt fun J => ?_);exact re hm (cU.sel [1,8,2,3,4,5] rfl)
    refine pn ?_;refine O7 hm (fun bv a ac => ∃(ad:_) (x3:Z0) (aJ:_) (c25:_) (b5:_) (E:P3) (aq:_) (c26:_) (aM:_) (c27:_),JR (nf 77) g cE cF a ac ad (bv x3 E=some r) [(0,pt Y2 Y1),(1,pt Q1c Q0x),(8,pt b5 0)] ([Y5 R]++(Z3j p1 R5 a2 n1 c2 a3 n2 c3 a4 n3 c4 ++ [Q1 aJ c25 Z5 x3,U5 b5 (Z5e E aq c26 aM c27)]))∧Q5 aJ c25 ad ac x3∧Q20 aq c26 ad ac E.Params∧Q19 aM c27 ad ac E.Body) (fun bv hm => ?_) ?_
    · refine rtPS [1,1,0,0,2,0,2,2] [0,1,2,3,4,5,6,7] bq (V9 (P8)) fun e0 fa ar => ?_;refine pu ?_;obtain⟨bw,au,hm⟩:=bindS hm
      rcases bw with e5 | bw
      · have hm:=K0 hm;refine tF [4,6] ?_;refine⟨?_,?_,qZt⟩
        · refine brW [5,6,7] [] ?_;refine oP cf65 (E3 (ar.bun (Z1 2 5 ++ [0,1]) [7] rfl) Z2 (V.mono ch) _ au) ?_;rintro _ cV _ _ ⟨cW,cX,rfl,cY,cZ,_⟩;exact pe hm (cY.sel [0,7,1,2,3,4] rfl)
        refine brW [4,5,7] [] ?_;refine oaL zv6 ar ?_;intro _ b7 _ db;refine t1W [4] [5,7] [] ?_;refine oP cf65 (E3 (db.bun [0,3,4,5,6,7,1,2] [8] rfl) Z2 (V.mono ch) _ au) ?_;rintro _ cV dc dd ⟨cW,cX,rfl,aN,cZ,_⟩;exact pe hm (aN.sel [1,8,2,3,4,5] rfl)
      have hm:=B8 hm;refine tF [4,6] ?_;refine⟨?_,?_,qZt⟩
      · refine brW [5,6,7] [] ?_;refine oS cf65 (E3 (ar.bun (Z1 2 5 ++ [0,1]) [7] rfl) Z2 (V.mono ch) _ au) ?_;rintro _ de dg dh ⟨aP,n9,c28,di,c29,rfl,aR,dj,_⟩;refine pu ?_;refine t0 rfl qZt (fun _=>F9 (by kernel_rfl) rfl (u := .agg #[iv D.Line,iv D.Col,qZs K.1.Word,qZs K.1.Name,iv K.1.Stars,qZs y8.1,.slice aP n9 c28,.slice none 0 0])) rfl (?_);refine t1W [6] [7] [] ?_;refine oaL zv6 aR ?_;intro dk b6 dm aS;refine t1W [7] [] [0,0] ?_;refine osT 0 aS ?_;intro dn dp aT;refine pu ?_;obtain⟨dq,dr,aU,ds,rfl⟩:=aT.sl 9;exact je hm (aU.sel (Z1 1 5 ++ [8,0]) rfl)
      refine brW [4,5,7] [] ?_;refine oaL zv6 ar ?_;intro dg b6 dh aR;refine t1W [4] [5,7] [] ?_;refine oS cf65 (E3 (aR.bun [0,3,4,5,6,7,1,2] [8] rfl) Z2 (V.mono ch) _ au) ?_;rintro _ de dk dm ⟨aP,n9,c28,di,c29,rfl,aS,dj,_⟩;refine pu ?_;refine t0 rfl qZt (fun _=>F9 (by kernel_rfl) rfl (u := .agg #[iv D.Line,iv D.Col,qZs K.1.Word,qZs K.1.Name,iv K.1.Stars,qZs y8.1,.slice aP n9 c28,.slice none 0 0])) rfl (?_);refine t1W [7] [] [0,0] ?_;refine osT 0 aS ?_;intro dn dp aT;refine pu ?_;obtain⟨dq,dr,aU,ds,rfl⟩:=aT.sl 9;exact je hm (aU.sel (Z1 1 5 ++ [8,0]) rfl)
    rintro _ ac ⟨ad,x3,aJ,c25,b5,E,aq,c26,aM,c27,⟨J,hm,rfl,aN,_⟩,du,dv,_⟩;refine sq2 (pu ?_);refine cP cf66 hm (Z1a (aN.bun (Z1 0 5 ++ [6]) [5] rfl) Z2 du) ?_ ?_
    · rintro _ _ _ _ _ ⟨_,_,rfl,dw,_,_⟩ hm;exact pe hm (dw.sel [0,6,1,2,3,4] rfl)
    rintro aV _ _ dc dd ⟨dx,_,dy,_,_,rfl,dz,dA,_⟩ hm;refine sT 5 dz ?_;intro _ _ dB;refine pn ?_;refine rsS [0,0,0,0,1,1,2,2,0,0,2] [0,1,2,3,4,5,6,7,8,9,10] dB fun fc fd dC => ?_;refine pu ?_;obtain⟨_,_,dD,dE,rfl⟩:=dC.sl 7;refine s2W [0] ?_;refine obS (r:=Q4g) (l:=([{E with Body:=aV.1}]:List P3)) (css := [[iv E.Pos.Line,iv E.Pos.Col,Q16 E.Ret.Word.toArray,Q16 E.Ret.Name.toArray,iv E.Ret.Stars,Q16 E.Name.toArray,sv aq E.Params c26,sv dx aV.1 dy]]) dD ⟨(Z9o (x := {E with Body:=aV.1}) (dv.mono ch) dE:Q4g.rp _ _ _ _),qZt⟩ ?_;intro _ _ _ _ _ dF;refine pu ?_;obtain⟨_,dG,hm⟩:=bindS hm;refine s2W [0] ?_;refine oaO 5 dF (U3 dG) ?_;intro _ _ _ _ _ dI;refine s2W [] ?_;refine osB 2 2 Q2p dI ?_;intro _ _ dJ;refine pu ?_;have hm:=oI hm; subst hm;refine pn ?_;exact Y0x rfl ⟨_,rfl,_,ch,⟨_,_,_,_,_,_,_,_,_,_,_,rfl,(dJ.sel [1,7,2,3,4,5] rfl).unb,(dA.mono ch),qZt⟩⟩
  refine pn ?_;refine cnd (b:=false) rfl (fun h=>nomatch h) (fun _ => ?_);refine pn ?_;refine sq2 (pu ?_);refine cP cf63 hm (F4 (bm.bun (Z1 0 6) [6] rfl) Z2 (h1.mono ch)) ?_ ?_
  · rintro _ _ _ _ _ ⟨_,_,rfl,dK,_,_⟩ hm;exact pe hm (dK.sel [1,6,2,3,4,5] rfl)
  rintro O _ _ _ _ ⟨_,_,rfl,dL,dM,_⟩ hm;refine aL zv10 dL ?_;intro _ b7 _ dN;refine sT 0 dN ?_;intro _ _ dO;refine pn ?_;refine sq2 (pu ?_);refine cP cf61 hm (D6 (dO.bun (Z1 0 7) [7] rfl) Z2 (dM.mono ch)) ?_ ?_
  · rintro _ _ _ _ _ ⟨_,_,rfl,dP,_,_⟩ hm;exact pe hm (dP.sel [2,7,3,4,5,6] rfl)
  rintro ae _ _ _ _ ⟨_,_,rfl,dQ,W,_⟩ hm;refine pn ?_;refine sq2 (sq2 (pu ?_));refine cB cf58 hm (N7 (dQ.bun (Z1 0 7) [7] rfl) Z2 W) ?_;rintro _ _ dR dS _ ⟨rfl,bz,_⟩ hm;refine cd hm ?_ ?_ <;> intro fe hm
  · refine sq2 (Z0c [0,0,0,0,1,0,1,1,0,0,2,2,2,0,0,2] [0,1,2,3,4,5,6,7,8,9,10,11,12,13,14,15] bz (V9 (V9 (P8))) fun ff fg bA => ?_);refine pu ?_;refine s0 rfl qZt (fun _=>F9 (by kernel_rfl) rfl (u := .agg #[iv D.Line,iv D.Col,qZs O.1.Word,qZs O.1.Name,iv O.1.Stars,qZs ae.1,.slice none 0 0,.slice none 0 0,.bool false])) rfl ?_;obtain⟨af,bB,hm⟩:=bindS hm
    rcases af with e9 | af
    · have hm:=K0 hm;refine s2 [(4,.slice a3 n2 c3)] rfl qZt rfl (by kernel_rfl) (Q7m cf64 rfl (R7 (p0:=ae.2) (p1:=(⟨D,O.1,ae.1,[],[],false⟩:F2)) (bA.bun (Z1 2 5 ++ [0,1]) [7] rfl) Z2 (W.mono ch) V4 _ bB) rfl fun fi fj fk fl dT => ?_);obtain⟨_,_,rfl,dU,_,_⟩:=dT;exact pe hm (dU.sel [0,7,1,2,3,4] rfl)
    have hm:=B8 hm;refine sS [(4,.slice a3 n2 c3)] cf64 (R7 (bA.bun (Z1 2 5 ++ [0,1]) [7] rfl) Z2 (W.mono ch) V4 _ bB) ?_;rintro _ _ _ _ ⟨dV,dW,dX,dY,_,_,rfl,dZ,d0,d1,_,_⟩;refine s2W [] ?_;refine obS (r:=W2) (l:=([af.1]:List F2)) (css := [(Z5y af.1 dV dW dX dY)]) dZ ⟨(Z3x (x:=af.1) d0 d1:W2.rp _ _ _ _),qZt⟩ ?_;intro _ _ _ _ _ d2;refine pu ?_;obtain⟨_,d4,hm⟩:=bindS hm;refine s2W [0] ?_;refine oaO 4 d2 (U3 d4) ?_;intro _ _ _ _ _ d5;refine s2W [] ?_;refine osB 2 1 Q2p d5 ?_;intro _ _ d6;refine pu ?_;refine seP (J3 [] qZt fun J => ?_);exact re hm (d6.sel [1,8,2,3,4,5] rfl)
  refine pn ?_;refine O7 hm (fun bC a ag => ∃(ah:_) (x5:Z0) (aW:_) (aX:_) (b8:_) (I:P3) (aw:_) (ax:_) (aZ:_) (a9:_),JR (nf 77) g dR dS a ag ah (bC x5 I=some r) [(0,pt Y2 Y1),(1,pt Q1c Q0x),(8,pt b8 0)] ([Y5 R]++(Z3j p1 R5 a2 n1 c2 a3 n2 c3 a4 n3 c4 ++ [Q1 aW aX Z5 x5,U5 b8 (Z5e I aw ax aZ a9)]))∧Q5 aW aX ah ag x5∧Q20 aw ax ah ag I.Params∧Q19 aZ a9 ah ag I.Body) (fun bC hm => ?_) ?_
  · refine rtPS [1,1,0,0,2,0,2,2] [0,1,2,3,4,5,6,7] bz (V9 (P8)) fun fm fo ay => ?_;refine pu ?_;obtain⟨bD,az,hm⟩:=bindS hm
    rcases bD with fp | bD
    · have hm:=K0 hm;refine tF [4,6] ?_;refine⟨?_,?_,qZt⟩
      · refine brW [5,6,7] [] ?_;refine oP cf65 (E3 (ay.bun (Z1 2 5 ++ [0,1]) [7] rfl) Z2 (W.mono ch) _ az) ?_;rintro _ d7 _ _ ⟨d8,d9,rfl,ea,eb,_⟩;exact pe hm (ea.sel [0,7,1,2,3,4] rfl)
      refine brW [4,5,7] [] ?_;refine oaL zv6 ay ?_;intro _ _ _ ec;refine t1W [4] [5,7] [] ?_;refine oP cf65 (E3 (ec.bun [0,3,4,5,6,7,1,2] [8] rfl) Z2 (W.mono ch) _ az) ?_;rintro _ d7 ed ee ⟨d8,d9,rfl,ba,eb,_⟩;exact pe hm (ba.sel [1,8,2,3,4,5] rfl)
    have hm:=B8 hm;refine tF [4,6] ?_;refine⟨?_,?_,qZt⟩
    · refine brW [5,6,7] [] ?_;refine oS cf65 (E3 (ay.bun (Z1 2 5 ++ [0,1]) [7] rfl) Z2 (W.mono ch) _ az) ?_;rintro _ ef eg eh ⟨be,bf,bg,ei,ej,rfl,bh,ek,_⟩;refine pu ?_;refine t0 rfl qZt (fun _=>F9 (by kernel_rfl) rfl (u := .agg #[iv D.Line,iv D.Col,qZs O.1.Word,qZs O.1.Name,iv O.1.Stars,qZs ae.1,.slice be bf bg,.slice none 0 0])) rfl (?_);refine t1W [6] [7] [] ?_;refine oaL zv6 bh ?_;intro el b9 en bi;refine t1W [7] [] [0,0] ?_;refine osT 0 bi ?_;intro w64 ep bj;refine pu ?_;obtain⟨es,et,bk,eu,rfl⟩:=bj.sl 9;exact je hm (bk.sel (Z1 1 5 ++ [8,0]) rfl)
    refine brW [4,5,7] [] ?_;refine oaL zv6 ay ?_;intro eg b9 eh bh;refine t1W [4] [5,7] [] ?_;refine oS cf65 (E3 (bh.bun [0,3,4,5,6,7,1,2] [8] rfl) Z2 (W.mono ch) _ az) ?_;rintro _ ef el en ⟨be,bf,bg,ei,ej,rfl,bi,ek,_⟩;refine pu ?_;refine t0 rfl qZt (fun _=>F9 (by kernel_rfl) rfl (u := .agg #[iv D.Line,iv D.Col,qZs O.1.Word,qZs O.1.Name,iv O.1.Stars,qZs ae.1,.slice be bf bg,.slice none 0 0])) rfl (?_);refine t1W [7] [] [0,0] ?_;refine osT 0 bi ?_;intro w64 ep bj;refine pu ?_;obtain⟨es,et,bk,eu,rfl⟩:=bj.sl 9;exact je hm (bk.sel (Z1 1 5 ++ [8,0]) rfl)
  rintro _ ag ⟨ah,x5,aW,aX,b8,I,aw,ax,aZ,a9,⟨J,hm,rfl,ba,_⟩,ew,ey,_⟩;refine sq2 (pu ?_);refine cP cf66 hm (Z1a (ba.bun (Z1 0 5 ++ [6]) [5] rfl) Z2 ew) ?_ ?_
  · rintro _ _ _ _ _ ⟨_,_,rfl,ez,_,_⟩ hm;exact pe hm (ez.sel [0,6,1,2,3,4] rfl)
  rintro bl _ _ ed ee ⟨eA,_,eB,_,_,rfl,eC,eD,_⟩ hm;refine sT 5 eC ?_;intro _ _ eE;refine pn ?_;refine rsS [0,0,0,0,1,1,2,2,0,0,2] [0,1,2,3,4,5,6,7,8,9,10] eE fun fq fr eF => ?_;refine pu ?_;obtain⟨_,_,eG,eI,rfl⟩:=eF.sl 7;refine s2W [0] ?_;refine obS (r:=Q4g) (l:=([{I with Body:=bl.1}]:List P3)) (css := [[iv I.Pos.Line,iv I.Pos.Col,Q16 I.Ret.Word.toArray,Q16 I.Ret.Name.toArray,iv I.Ret.Stars,Q16 I.Name.toArray,sv aw I.Params ax,sv eA bl.1 eB]]) eG ⟨(Z9o (x := {I with Body:=bl.1}) (ey.mono ch) eI:Q4g.rp _ _ _ _),qZt⟩ ?_;intro _ _ _ _ _ eJ;refine pu ?_;obtain⟨_,eK,hm⟩:=bindS hm;refine s2W [0] ?_;refine oaO 5 eJ (U3 eK) ?_;intro _ _ _ _ _ eL;refine s2W [] ?_;refine osB 2 2 Q2p eL ?_;intro _ _ eM;refine pu ?_;have hm:=oI hm; subst hm;refine pn ?_;exact Y0x rfl ⟨_,rfl,_,ch,⟨_,_,_,_,_,_,_,_,_,_,_,rfl,(eM.sel [1,7,2,3,4,5] rfl).unb,(eD.mono ch),qZt⟩⟩

instance : Ctr Tryz.prog 30 (type_of% @Q7g):=⟨@Q7g,cf30⟩
theorem Q5m {p0:Z0} (hS:Q28 a1 c1 Z5 T0 g w0 R p0) (Z2:Ln Y2 Y1 Z5) (h1:Q5 a1 c1 T0 w0 p0) : ∀ r,Q6w p0=some r →
    Calls Tryz.prog 14 #[pt Y2 Y1] w0 (exR r (fun r=>U7 T0 w0 fun T w v => ∃ a14 c14 a15 c15 a16 c16 a17 c17,v = .tuple #[Q41 a14 a15 a16 c14 c15 c16 r.1,.pointer none]∧Sep g T w (R ++ [Q1 a17 c17 Z5 r.2])∧Q44 a14 c14 T w r.1∧Q20 a15 c15 T w r.1.Globals∧Q50 a16 c16 T w r.1∧Q5 a17 c17 T w r.2∧True) (fun r=>U7 T0 w0 fun T w v => ∃ a14 c14 a15 c15 a16 c16 b4 a17 c17,v = .tuple #[Q41 a14 a15 a16 c14 c15 c16 r.1,pt b4 0]∧Sep g T w (R ++ [Q1 a17 c17 Z5 r.2.2,U5 b4 (B0 r.2.1.pos r.2.1.e)])∧Q44 a14 c14 T w r.1∧Q20 a15 c15 T w r.1.Globals∧Q50 a16 c16 T w r.1∧Q5 a17 c17 T w r.2.2∧True)):=by
  intro r hm;refine Y5d Tryz.func14 rfl Tryz.ntmps14 rfl fun J => ?_;unfold Q6w at hm;refine sq2 (aL zv13 hS ?_);intro _ D _ am;refine aL [.pointer none] am ?_;intro w2 E _ ao;refine pn ?_;refine sq2 (pu ?_);refine pv (Y1s (u := .func (.func 29) #[] #[pt D 0,pt E 0]) rfl) (wl rfl (dfO (f:=29) (cap := #[pt D 0,pt E 0]) rfl ?_));refine pn ?_;refine sq2 ?_;have ap:=ao.nilO Q0a 79;have aq:=ap.nilO W2 86;have ar:=aq.nilO Q4g 92;refine lpJ hm (fun ah o1 m a U => ∃(V:_) (K:Z0) (I:J2) (W:_) (n1:_) (c2:_) (a3:_) (n2:_) (c3:_) (a4:_) (n3:_) (c4:_) (a5:_) (c5:_),JR (⟨14,[⟨.fn (.func 29) #[pt D 0,pt E 0],#[]⟩]⟩) g T0 w2 a U V (loopM ah m (I,K)=some o1) [(0,pt Y2 Y1),(2,pt D 0),(3,pt E 0)] [K3 Q4g 92 (.slice W n1 c2) I.Funcs,K3 W2 86 (.slice a3 n2 c3) I.Globals,K3 Q0a 79 (.slice a4 n3 c4) I.Structs,U5 E [.pointer none],U5 D [.slice a4 n3 c4,.slice a3 n2 c3,.slice W n1 c2],Y5 R,Q1 a5 c5 Z5 K]∧Q5 a5 c5 V U K) (fun _ _ h=>je h (ar.sel (Z1 0 7) rfl)) ?_;rintro ah au o1 aj _ _ U ⟨V,K,I,W,n1,c2,a3,n2,c3,a4,n3,c4,a5,c5,⟨J,av,rfl,ak,_⟩,h2⟩;obtain⟨m1,_,rfl,hm,ag⟩:=lrE av au;refine sq2 (sq2 (cd hm ?_ ?_)) <;> intro aI hm
  · refine pn ?_;refine blk (pu ?_);refine cP cf30 hm (Q7g (ak.bun [3,5] [6,4,2,1,0] rfl) Z2 h2 (Q4u D)) ?_ ?_
    · rintro O _ _ _ _ ⟨_,c10,_,_,c11,_,_,c12,_,_,c13,rfl,aw,_,_⟩ hm;refine pn ?_;refine panD cf29 (Y6h (args := [pt D 0,pt E 0]) Tryz.func29 rfl Tryz.ntmps29 rfl rfl rfl fun J => ?_);refine sq2 (sq2 (pu ?_));refine pv (Z2p (v := .iface 63 (.agg (B0 O.1.pos O.1.e).toArray)) rfl) (pv (Y6j rfl (by kernel_rfl)) (pn ?_));refine cnd (b:=false) rfl (fun h=>nomatch h) (fun _ => ?_);refine pn ?_;refine sq2 (pu ?_);refine pv (Z2p (v := .iface 63 (.agg (B0 O.1.pos O.1.e).toArray)) rfl) (pv (r_ta rfl (by kernel_rfl)) (aL [iv 0,iv 0,iv 0] aw ?_));intro _ _ _ ax;refine sT 0 ax ?_;intro _ _ ay;refine pn ?_;refine pv (F9 (by kernel_rfl) rfl (u := .agg #[.slice none 0 0,.slice none 0 0,.slice none 0 0])) (sT 4 ay ?_);intro _ _ az;refine sT 1 az ?_;intro _ _ aA;have hm:=Q0o hm ag aj;exact eo hm (aA.sel [2,3,0] rfl)
    rintro _ _ _ _ _ ⟨_,c6,_,_,c7,_,_,c8,_,_,c9,rfl,aB,h3,_⟩ hm;exact lg hm ag (aB.sel [6,5,4,0,3,1,2] rfl)
  have hm:=Q6d hm ag aj;refine pn ?_;refine sq2 (sT 4 ak ?_);intro _ _ aC;refine sT 3 aC ?_;intro _ _ aD;refine pn ?_;refine pn ?_;refine retD cf29 (recN2 (args := [pt D 0,pt E 0]) Tryz.func29 rfl Tryz.ntmps29 rfl rfl rfl fun J => ?_);refine sq2 (sq2 (pu ?_));refine pv (Z2p (v := .nilIface) rfl) (pv (r_eqn rfl (by kernel_rfl)) (pn ?_));refine cnd (b:=true) rfl (fun _ => ?_) (fun h=>nomatch h);obtain⟨_,_,aE,_,rfl⟩:=aD.sl 2;obtain⟨_,_,aF,h6,rfl⟩:=aE.sl 1;obtain⟨_,_,aG,_,rfl⟩:=aF.sl 0;exact eo hm (aG.sel [5,6] rfl)

instance : Ctr Tryz.prog 14 (type_of% @Q5m):=⟨@Q5m,cf14⟩
theorem Z4z {p0:List UInt8} (hS:Sep g T0 w0 [Y5 R]) (hG0:Gi T0 w0 0) : ∀ r,Z3f p0=some r →
    Calls Tryz.prog 8 #[Q16 p0.toArray] w0 (U7 T0 w0 fun T w v => ∃ a10 c10 a11 c11 a12 c12,v = .tuple #[Q41 a10 a11 a12 c10 c11 c12 r.1,Q33 r.2.1,iv r.2.2]∧Sep g T w (R ++ [])∧Q44 a10 c10 T w r.1∧Q20 a11 c11 T w r.1.Globals∧Q50 a12 c12 T w r.1∧True):=by
  intro r hm;refine enter func8 rfl ntmps8 rfl fun J => ?_;unfold Z3f at hm;refine sq2 (aL zv13 hS ?_);intro _ E _ ab;refine aL [iv 0,iv 0] ab ?_;intro _ I _ ac;refine pn ?_;refine sq2 (pu ?_);refine cB cf13 hm (Z9a (ac.bun [0,1,2] [] rfl) (hG0.mono ch)) ?_;rintro D _ _ _ _ ⟨a1,K,c1,rfl,ad,_⟩ hm;refine aL [iv 0,iv 0] ad ?_;intro _ b3 _ af;refine sT 0 af ?_;intro _ _ O;refine pn ?_;refine sq2 (sq2 (cd hm ?_ ?_)) <;> intro ay hm
  · refine sq2 (rsS [0,1,0,2,2,0] [0,1,2,3,4,5] O fun w6 aA ag => ?_);have dd:KD [(3,[]),(4,[1,3])]:=⟨qZt⟩;exact zr hm ag
  refine pn ?_;refine sq2 (pu ?_);refine pv (F9 (by kernel_rfl) rfl (u := .agg #[.slice a1 K c1,iv D.2.1.Line,iv D.2.1.Col,iv 0])) (bX [.slice a1 K c1,iv D.2.1.Line,iv D.2.1.Col,iv 0] O ?_);intro _ U _ ai;refine pn ?_;refine sq2 (pu ?_);obtain⟨_,_,V,h1,rfl⟩:=ai.sl 5;obtain⟨W,aa,hm⟩:=bindS hm
  rcases W with e1 | W
  · have hm:=K0 hm;refine cS cf14 (Q5m (V.bun (Z1 1 4) [0] rfl) (Q4u U) h1 _ aa) ?_;rintro _ _ _ _ ⟨_,c6,_,c7,_,c8,_,_,c9,rfl,ak,h6,_,_,_,_⟩;refine aL zv13 ak ?_;intro _ _ _ am;refine sT 0 am ?_;intro _ _ an;refine pn ?_;refine sq2 (sq2 (pu ?_));refine pv (Y4m rfl rfl rfl underlying59) (pn ?_);refine cnd (b:=true) rfl (fun _ => ?_) (fun h=>nomatch h);refine sq2 (rsS [0,0,0,0,1,0,0,0,1,2,2,0] [0,1,2,3,4,5,6,7,8,9,10,11] an fun aB aC ao => ?_);refine s0 rfl qZt (fun _=>F9 (by kernel_rfl) rfl (u := .agg #[.slice none 0 0,.slice none 0 0,.slice none 0 0])) rfl (pu ?_);refine s2W [] ?_;refine osT 3 ao ?_;intro _ _ ap;refine⟨st1 rfl opv (st1 rfl ?_ st0),?_⟩
    · with_reducible apply r_ldP
      · exact rfl
      · exact tyA
      · exact tyS
      · assumption
      · exact atS
      · exact(rfl:_ = [_,_])
      · exact rfl
    refine s2W [1,0] ?_;refine osT 2 ap ?_;intro _ _ aq;refine pu ?_;refine se (J3 [(2,pt E 0),(3,pt I 0),(4,iv e1.2.1.e)] ⟨rfl,rfl,rfl,qZt⟩ fun J => ?_);exact re hm (aq.sel [4] rfl)
  have hm:=B8 hm;refine cS cf14 (Q5m (V.bun (Z1 1 4) [0] rfl) (Q4u U) h1 _ aa) ?_;rintro _ _ _ _ ⟨_,c2,_,c3,_,c4,_,c5,rfl,ar,h2,h3,_,_,_⟩;refine aL zv13 ar ?_;intro _ b5 _ av;refine sT 0 av ?_;intro _ _ aw;refine pn ?_;refine sq2 (sq2 (pu ?_));refine pv (Y4m rfl rfl rfl underlying59) (pn ?_);refine cnd (b:=false) rfl (fun h=>nomatch h) (fun _ => ?_);refine skp (J3 [(2,pt E 0),(3,pt I 0),(6,pt b3 0),(9,pt b5 0)] ⟨rfl,rfl,rfl,rfl,qZt⟩ fun J => ?_);refine sq2 (rsS [1,1,2,2,0] [0,1,2,3,4] aw fun aD aE ax => ?_);have dd:KD [(2,[0]),(3,[0,1,2])]:=⟨qZt⟩;exact zr hm ax

instance : Ctr Tryz.prog 8 (type_of% @Z4z):=⟨@Z4z,cf8⟩
theorem Z6n  (hS:Sep g T0 w0 [Y5 R])  : ∀ r,Y2g=some r →
    Calls Tryz.prog 15 #[] w0 (U7 T0 w0 fun T w v => ∃ b2 a2 n2 c2,v=pt b2 0∧Sep g T w (R ++ [U5 b2 [.slice a2 n2 c2],Q8 a2 n2 c2 r])∧True):=by
  intro r hm;refine enter func15 rfl ntmps15 rfl fun J => ?_;unfold Y2g at hm;refine sq2 (pn ?_);refine sq2 (pu ?_);refine pv (F9 (by kernel_rfl) rfl (u := .agg #[iv 0,iv 0,iv 0,Q39,.slice none 0 0,iv 0,iv 0,.bool false])) (pv (F9 (by kernel_rfl) rfl (u := .agg #[iv 1,iv 0,iv 0,Q39,.slice none 0 0])) (pv (F9 (by kernel_rfl) rfl (u := .agg #[iv 1,iv 0,iv 0,Q39,.slice none 0 0,iv 4,iv 4,.bool false])) (pv (F9 (by kernel_rfl) rfl (u := .agg #[iv 2,iv 0,iv 0,Q39,.slice none 0 0])) (pv (F9 (by kernel_rfl) rfl (u := .agg #[iv 2,iv 0,iv 0,Q39,.slice none 0 0,iv 1,iv 1,.bool false])) (bS (r:=E5) (l:=([(⟨(⟨0,0,0,([]:List UInt8),[]⟩:Q6f),0,0,false⟩:U4),(⟨(⟨1,0,0,([]:List UInt8),[]⟩:Q6f),4,4,false⟩:U4),(⟨(⟨2,0,0,([]:List UInt8),[]⟩:Q6f),1,1,false⟩:U4)]:List U4)) (css := [zv16,[iv 1,iv 0,iv 0,Q39,.slice none 0 0,iv 4,iv 4,.bool false],[iv 2,iv 0,iv 0,Q39,.slice none 0 0,iv 1,iv 1,.bool false]]) hS ⟨(Q1g (x:=(⟨(⟨0,0,0,([]:List UInt8),[]⟩:Q6f),0,0,false⟩:U4)) V4:E5.rp _ _ _ _),(Q1g (x:=(⟨(⟨1,0,0,([]:List UInt8),[]⟩:Q6f),4,4,false⟩:U4)) V4:E5.rp _ _ _ _),(Q1g (x:=(⟨(⟨2,0,0,([]:List UInt8),[]⟩:Q6f),1,1,false⟩:U4)) V4:E5.rp _ _ _ _),qZt⟩ ?_)))));intro _ a1 D c1 _ E;refine pv (F9 (by kernel_rfl) rfl (u := .agg #[.slice a1 D c1])) (bX [.slice a1 D c1] E ?_);intro _ _ _ I;exact re hm (I.sel [2,0,1] rfl)

instance : Ctr Tryz.prog 15 (type_of% @Z6n):=⟨@Z6n,cf15⟩
theorem Q6q {p0:U4} {p1:List UInt8} (hS:Sep g T0 w0 [Y5 R,R5 [Q16 p1.toArray]]) (h1:Q45 a1 c1 T0 w0 p0.Type_.Fields) (Q2p:Ln Q1c Q0x R5) : ∀ r,Q6r p0 p1=some r →
    Calls Tryz.prog 128 #[.agg (Q2j p0 a1 c1).toArray,pt Q1c Q0x] w0 (U7 T0 w0 fun T w v=>v = .bool r∧Sep g T w (R ++ [R5 [Q16 p1.toArray]])∧True):=by
  intro r hm;refine enter func128 rfl ntmps128 rfl fun J => ?_;unfold Q6r at hm;refine sq2 (bX (Q2j p0 a1 c1) hS ?_);intro _ _ _ E;refine pn ?_;refine sq2 (pu ?_);refine fkC (d:=14) (c:=((p0.Type_.Kind == 5)&&(decide (p0.Type_.Name=p1)))) 6 [] rfl (fun hk => ?_) fun J => ?_
  · rcases Bool.eq_false_or_eq_true (p0.Type_.Kind == 5) with D | D
    · exact  gT (d0:=8) rfl rfl D (pv (Q0h rfl underlying122 rfl sizeOf120 rfl) (gT (d0:=8) rfl rfl D (pv (Q0h rfl underlying120 rfl sizeOf9 rfl) (gT (d0:=8) rfl rfl D (pv (Q0p rfl isAgg9 (E.cell0 (i:=0) ⟨rfl,rfl⟩ (j:=3) rfl)) (gT (d0:=8) rfl rfl D (pv (Q0p rfl isAgg9 (E.cellB (i:=2) ⟨rfl,rfl⟩ Q2p (j:=0) rfl)) (gT (d0:=8) rfl rfl D (pv (r_sqL rfl rfl) (pv (O5 rfl D rfl) (wlR (fun J=>hk J _ (by rw [D]; rfl)) ⟨rfl,qZt⟩)))))))))))
    exact  gF5 (d0:=8) rfl rfl (by rw [D]; rfl) (pv (O6 rfl D rfl) (wlR (fun J=>hk J _ (by rw [D]; rfl)) ⟨rfl,qZt⟩))
  exact re hm (E.sel [1,2] rfl)

instance : Ctr Tryz.prog 128 (type_of% @Q6q):=⟨@Q6q,cf128⟩
theorem Q7s {p0:List U4} {v_p0} {Z5:Y8} {p1:List UInt8} (hS:Sep g T0 w0 [Y5 R,Z5,R5 [Q16 p1.toArray]]) (hV_p0:Vw Z5 E5 v_p0 p0) (Q2p:Ln Q1c Q0x R5) : ∀ r,Q5u p0 p1=some r →
    Calls Tryz.prog 127 #[v_p0,.func (.func 128) #[] #[pt Q1c Q0x]] w0 (U7 T0 w0 fun T w v=>v=iv r∧Sep g T w (R ++ [Z5,R5 [Q16 p1.toArray]])∧True):=by
  intro r hm;refine enter func127 rfl ntmps127 rfl fun J => ?_;unfold Q5u at hm;refine sq2 (pn ?_);refine sq2 (sq2 (pu ?_));refine pv (Z2p (v:=v_p0) rfl) (pv (Y8x rfl (hS.view (i:=1) ⟨rfl,rfl⟩ hV_p0) underlying123) (pn ?_));refine lpJ hm (fun I K m a O => ∃ U D,JR (nf 19) g T0 w0 a O U (loopM I m D=some K) [(0,v_p0),(1,.func (.func 128) #[] #[pt Q1c Q0x]),(7,iv (List.length p0:Int)),(8,iv D)] [Y5 R,Z5,R5 [Q16 p1.toArray]]) (fun _ _ h=>je h (hS.sel [0,1,2] rfl)) ?_;rintro I aa K ab _ _ O ⟨U,D,J,ac,rfl,E,_⟩;obtain⟨m1,_,rfl,hm,V⟩:=lrE ac aa;refine sq2 (pn ?_);refine sq2 (cd hm ?_ ?_) <;> intro af hm
  · refine pn ?_;refine sq2 (blk (sq2 (pn ?_)));refine sq2 ?_;obtain⟨u1,ad,hm⟩:=bindS hm;obtain⟨cs1,ae,_⟩:=(E.view (i:=1) ⟨rfl,rfl⟩ hV_p0).ixcS ad rfl;obtain⟨a1,c1,rfl,h1⟩:=C6 ae;refine pu ?_;refine pv (Z2p (v:=v_p0) rfl) (pu ?_);refine cB cf128 hm (Q6q (E.bun [0,1] [2] rfl) h1 Q2p) ?_;rintro _ _ _ _ _ ⟨rfl,W,_⟩ hm;refine cd hm ?_ ?_ <;> intro ag hm
    · refine sq2 (pn ?_);have hm:=Q0o hm V ab;exact re hm (W.sel [0,1,2] rfl)
    exact lg hm V (W.sel [0,1,2] rfl)
  exact zr hm E

instance : Ctr Tryz.prog 127 (type_of% @Q7s):=⟨@Q7s,cf127⟩
theorem Q7w {p0:Z6} {p1:List UInt8} (hS:Q25 a1 n1 c1 Z5 T0 g w0 R p0) (Z2:Ln Y2 Y1 Z5) : ∀ r,Q0z p0 p1=some r →
    Calls Tryz.prog 93 #[pt Y2 Y1,Q16 p1.toArray] w0 (Q84 a1 n1 c1 Z5 T0 w0 g R r p0):=by
  intro r hm;refine enter func93 rfl ntmps93 rfl fun J => ?_;unfold Q0z at hm;refine sq2 (bX [qZs p1] hS ?_);intro _ D _ E;refine pn ?_;refine sq2 (pu ?_);refine pv (Y1s (u := .func (.func 128) #[] #[pt D 0]) rfl) ?_;refine cB cf127 hm (Q7s (Z5:=K3 E5 122 (.slice a1 n1 c1) p0.list) (E.bun [1,2] [3,0] rfl) vwOwn (Q4u D)) ?_;rintro _ _ _ _ _ ⟨rfl,I,_⟩ hm;exact re hm (I.sel [0,1,2] rfl)

instance : Ctr Tryz.prog 93 (type_of% @Q7w):=⟨@Q7w,cf93⟩
theorem Q7v {p0:U4} {p1:U4} (hS:Sep g T0 w0 [Y5 R,R5 (Q2j p1 a2 c2)]) (h1:Q45 a1 c1 T0 w0 p0.Type_.Fields) (Q2p:Ln Q1c Q0x R5) (h2:Q45 a2 c2 T0 w0 p1.Type_.Fields) : ∀ r,Q8j p0 p1=some r →
    Calls Tryz.prog 129 #[.agg (Q2j p0 a1 c1).toArray,pt Q1c Q0x] w0 (U7 T0 w0 fun T w v=>v = .bool r∧Sep g T w (R ++ [R5 (Q2j p1 a2 c2)])∧True):=by
  intro r hm;refine enter func129 rfl ntmps129 rfl fun J => ?_;unfold Q8j at hm;refine sq2 (bX (Q2j p0 a1 c1) hS ?_);intro _ O _ K;refine pn ?_;refine sq2 (pu ?_);refine fkC (d:=19) (c:=((p0.Type_.Kind == p1.Type_.Kind)&&(p0.Type_.Elem == p1.Type_.Elem))) 8 [(1,pt Q1c Q0x),(2,pt O 0)] rfl (fun hk => ?_) fun J => ?_
  · rcases Bool.eq_false_or_eq_true (p0.Type_.Kind == p1.Type_.Kind) with D | D
    · exact  gT (d0:=11) rfl rfl D (pv (Q0h rfl underlying122 rfl sizeOf120 rfl) (gT (d0:=11) rfl rfl D (pv (Q0h rfl underlying120 rfl sizeOf3 rfl) (gT (d0:=11) rfl rfl D (pv (Q0p rfl isAgg3 (K.cell0 (i:=0) ⟨rfl,rfl⟩ (j:=1) rfl)) (gT (d0:=11) rfl rfl D (pv (Q0h rfl underlying122 rfl sizeOf120 rfl) (gT (d0:=11) rfl rfl D (pv (Q0h rfl underlying120 rfl sizeOf3 rfl) (gT (d0:=11) rfl rfl D (pv (Q0p rfl isAgg3 (K.cellB (i:=2) ⟨rfl,rfl⟩ Q2p (j:=1) rfl)) (gT (d0:=11) rfl rfl D (pv (Q6y rfl rfl rfl) (pv (O5 rfl D rfl) (wlR (fun J=>hk J _ (by rw [D]; rfl)) ⟨rfl,rfl,rfl,qZt⟩)))))))))))))))
    exact  gF7 (d0:=11) rfl rfl (by rw [D]; rfl) (pv (O6 rfl D rfl) (wlR (fun J=>hk J _ (by rw [D]; rfl)) ⟨rfl,rfl,rfl,qZt⟩))
  refine pu ?_;refine fkC (d:=28) (c:=(((p0.Type_.Kind == p1.Type_.Kind)&&(p0.Type_.Elem == p1.Type_.Elem))&&(p0.Type_.Len == p1.Type_.Len))) 8 [(1,pt Q1c Q0x)] rfl (fun hk => ?_) fun J => ?_
  · rcases Bool.eq_false_or_eq_true ((p0.Type_.Kind == p1.Type_.Kind)&&(p0.Type_.Elem == p1.Type_.Elem)) with E | E
    · exact  gT (d0:=20) rfl rfl E (pv (Q0h rfl underlying122 rfl sizeOf120 rfl) (gT (d0:=20) rfl rfl E (pv (Q0h rfl underlying120 rfl sizeOf3 rfl) (gT (d0:=20) rfl rfl E (pv (Q0p rfl isAgg3 (K.cell0 (i:=0) ⟨rfl,rfl⟩ (j:=2) rfl)) (gT (d0:=20) rfl rfl E (pv (Q0h rfl underlying122 rfl sizeOf120 rfl) (gT (d0:=20) rfl rfl E (pv (Q0h rfl underlying120 rfl sizeOf3 rfl) (gT (d0:=20) rfl rfl E (pv (Q0p rfl isAgg3 (K.cellB (i:=2) ⟨rfl,rfl⟩ Q2p (j:=2) rfl)) (gT (d0:=20) rfl rfl E (pv (Q6y rfl rfl rfl) (pv (O5 rfl E rfl) (wlR (fun J=>hk J _ (by rw [E]; rfl)) ⟨rfl,rfl,qZt⟩)))))))))))))))
    exact  gF7 (d0:=20) rfl rfl (by rw [E]; rfl) (pv (O6 rfl E rfl) (wlR (fun J=>hk J _ (by rw [E]; rfl)) ⟨rfl,rfl,qZt⟩))
  refine pu ?_;refine fkC (d:=34) (c:=((((p0.Type_.Kind == p1.Type_.Kind)&&(p0.Type_.Elem == p1.Type_.Elem))&&(p0.Type_.Len == p1.Type_.Len))&&(p1.Type_.Kind != 5))) 5 [] rfl (fun hk => ?_) fun J => ?_
  · rcases Bool.eq_false_or_eq_true (((p0.Type_.Kind == p1.Type_.Kind)&&(p0.Type_.Elem == p1.Type_.Elem))&&(p0.Type_.Len == p1.Type_.Len)) with I | I
    · exact  gT (d0:=29) rfl rfl I (pv (Q0h rfl underlying122 rfl sizeOf120 rfl) (gT (d0:=29) rfl rfl I (pv (Q0h rfl underlying120 rfl sizeOf3 rfl) (gT (d0:=29) rfl rfl I (pv (Q0p rfl isAgg3 (K.cellB (i:=2) ⟨rfl,rfl⟩ Q2p (j:=0) rfl)) (gT (d0:=29) rfl rfl I (pv (Q6y rfl rfl rfl) (pv (O5 rfl I rfl) (wlR (fun J=>hk J _ (by rw [I]; rfl)) ⟨rfl,qZt⟩)))))))))
    exact  gF4 (d0:=29) rfl rfl (by rw [I]; rfl) (pv (O6 rfl I rfl) (wlR (fun J=>hk J _ (by rw [I]; rfl)) ⟨rfl,qZt⟩))
  exact re hm (K.sel [1,2] rfl)

instance : Ctr Tryz.prog 129 (type_of% @Q7v):=⟨@Q7v,cf129⟩
theorem Q6m {p0:List U4} {v_p0} {Z5:Y8} {p1:U4} (hS:Sep g T0 w0 [Y5 R,Z5,R5 (Q2j p1 a1 c1)]) (hV_p0:Vw Z5 E5 v_p0 p0) (Q2p:Ln Q1c Q0x R5) (h1:Q45 a1 c1 T0 w0 p1.Type_.Fields) : ∀ r,Q3n p0 p1=some r →
    Calls Tryz.prog 127 #[v_p0,.func (.func 129) #[] #[pt Q1c Q0x]] w0 (U7 T0 w0 fun T w v=>v=iv r∧Sep g T w (R ++ [Z5,R5 (Q2j p1 a1 c1)])∧True):=by
  intro r hm;refine enter func127 rfl ntmps127 rfl fun J => ?_;unfold Q3n at hm;refine sq2 (pn ?_);refine sq2 (sq2 (pu ?_));refine pv (Z2p (v:=v_p0) rfl) (pv (Y8x rfl (hS.view (i:=1) ⟨rfl,rfl⟩ hV_p0) underlying123) (pn ?_));refine lpJ hm (fun I K m a O => ∃ U D,JR (nf 19) g T0 w0 a O U (loopM I m D=some K) [(0,v_p0),(1,.func (.func 129) #[] #[pt Q1c Q0x]),(7,iv (List.length p0:Int)),(8,iv D)] [Y5 R,Z5,R5 (Q2j p1 a1 c1)]) (fun _ _ h=>je h (hS.sel [0,1,2] rfl)) ?_;rintro I aa K ab _ _ O ⟨U,D,J,ac,rfl,E,ad⟩;obtain⟨m1,_,rfl,hm,V⟩:=lrE ac aa;refine sq2 (pn ?_);refine sq2 (cd hm ?_ ?_) <;> intro ag hm
  · refine pn ?_;refine sq2 (blk (sq2 (pn ?_)));refine sq2 ?_;obtain⟨u1,ae,hm⟩:=bindS hm;obtain⟨cs1,af,_⟩:=(E.view (i:=1) ⟨rfl,rfl⟩ hV_p0).ixcS ae rfl;obtain⟨_,c2,rfl,h2⟩:=C6 af;refine pu ?_;refine pv (Z2p (v:=v_p0) rfl) (pu ?_);refine cB cf129 hm (Q7v (E.bun [0,1] [2] rfl) h2 Q2p (h1.mono ad)) ?_;rintro _ _ _ _ _ ⟨rfl,W,_⟩ hm;refine cd hm ?_ ?_ <;> intro ah hm
    · refine sq2 (pn ?_);have hm:=Q0o hm V ab;exact re hm (W.sel [0,1,2] rfl)
    exact lg hm V (W.sel [0,1,2] rfl)
  exact zr hm E

instance : Ctr Tryz.prog 127 (type_of% @Q6m):=⟨@Q6m,cf127⟩
theorem Z4c {p0:Z6} {p1:U4} (hS:Q25 a1 n1 c1 Z5 T0 g w0 R p0) (Z2:Ln Y2 Y1 Z5) (h1:Q45 a2 c2 T0 w0 p1.Type_.Fields) : ∀ r,Q3p p0 p1=some r →
    Calls Tryz.prog 94 #[pt Y2 Y1,.agg (Q2j p1 a2 c2).toArray] w0 (Q47 Z5 T0 w0 g R r.1 r.2.1 r.2.2):=by
  intro r hm;refine enter func94 rfl ntmps94 rfl fun J => ?_;unfold Q3p at hm;refine sq2 (bX (Q2j p1 a2 c2) hS ?_);intro _ E I K;refine pn ?_;refine sq2 (pu ?_);refine pv (Y1s (u := .func (.func 129) #[] #[pt E 0]) rfl) ?_;refine cB cf127 hm (Q6m (Z5:=K3 E5 122 (.slice a1 n1 c1) p0.list) (K.bun [1,2] [3,0] rfl) vwOwn (Q4u E) (h1.mono I)) ?_;rintro _ _ _ _ _ ⟨rfl,D,_⟩ hm;refine pn ?_;refine sq2 (blk (sq2 (cd hm ?_ ?_))) <;> intro ab hm
  · exact sq2 (re hm (D.sel [0,1,2] rfl))
  refine sq2 (cd hm ?_ ?_) <;> intro ac hm
  · exact sq2 (re hm (D.sel [0,1,2] rfl))
  refine pn ?_;refine sq2 (rsS [0,0,0,0,1,1,2,2,0,0,2] [0,1,2,3,4,5,6,7,8,9,10] D fun w3 ae O => ?_);refine s2W [0] ?_;refine obS (r:=E5) (l:=([p1]:List U4)) (css := [(Q2j p1 a2 c2)]) O ⟨(Q1g (x:=p1) (h1.mono ch):E5.rp _ _ _ _),qZt⟩ ?_;intro _ _ _ c3 _ U;refine pu ?_;obtain⟨_,V,hm⟩:=bindS hm;refine s2W [0] ?_;refine oaO 3 U (U3 V) ?_;intro _ _ _ c4 _ W;refine s2W [] ?_;refine osB 2 0 Z2 W ?_;intro _ _ aa;refine pu ?_;refine se (J3 [(0,pt Y2 Y1)] ⟨rfl,qZt⟩ fun J => ?_);exact sq2 (re hm (aa.sel [1,2,3] rfl))

instance : Ctr Tryz.prog 94 (type_of% @Z4c):=⟨@Z4c,cf94⟩
theorem Q8u {p0:Z6} {p1:List UInt8} (hS:Q25 a1 n1 c1 Z5 T0 g w0 R p0) (Z2:Ln Y2 Y1 Z5) : ∀ r,Q6z p0 p1=some r →
    Calls Tryz.prog 67 #[pt Y2 Y1,Q16 p1.toArray] w0 (Q47 Z5 T0 w0 g R r.1 r.2.1 r.2.2):=by
  intro r hm;refine enter func67 rfl ntmps67 rfl fun J => ?_;unfold Q6z at hm;exact zr hm hS

instance : Ctr Tryz.prog 67 (type_of% @Q8u):=⟨@Q8u,cf67⟩
theorem V8 {p0:Pos} {p1} (hS:Sep g T0 w0 [Y5 R])  : ∀ r,Y6 p0 p1=some r →
    Calls Tryz.prog 77 #[Q33 p0,iv p1] w0 (exR r (fun r=>U7 T0 w0 fun T w v=>v = .tuple #[]∧Q11 T g w R) (fun r=>A5 T0 w0 fun T w v=>v = .iface 76 (Q18 r.pos r.e)∧Q11 T g w R)):=by
  intro r hm;refine enter func77 rfl ntmps77 rfl fun J => ?_;unfold Y6 at hm;exact zr hm hS

instance : Ctr Tryz.prog 77 (type_of% @V8):=⟨@V8,Z0e⟩
theorem Q1o {p0:Pos} {p1} (hS:Sep g T0 w0 [Y5 R])  : ∀ r,I2 p0 p1=some r →
    Calls Tryz.prog 68 #[Q33 p0,iv p1] w0 (exR r (fun r=>U7 T0 w0 fun T w v=>v = .tuple #[]∧Q11 T g w R) (fun r=>A5 T0 w0 fun T w v=>v = .iface 76 (Q18 r.pos r.e)∧Q11 T g w R)):=by
  intro r hm;refine enter func68 rfl ntmps68 rfl fun J => ?_;unfold I2 at hm;exact zr hm hS

instance : Ctr Tryz.prog 68 (type_of% @Q1o):=⟨@Q1o,cf68⟩
theorem Q8v {p0:Z6} {p1:List UInt8} (hS:Q25 a1 n1 c1 Z5 T0 g w0 R p0) (Z2:Ln Y2 Y1 Z5) : ∀ r,Q7a p0 p1=some r →
    Calls Tryz.prog 108 #[pt Y2 Y1,Q16 p1.toArray] w0 (U7 T0 w0 fun T w v=>v = .tuple #[iv r.1,iv r.2]∧Q22 a1 n1 c1 Z5 T g w R p0):=by
  intro r hm;refine enter func108 rfl ntmps108 rfl fun J => ?_;unfold Q7a at hm;exact zr hm hS

instance : Ctr Tryz.prog 108 (type_of% @Q8v):=⟨@Q8v,cf108⟩
theorem Q6s {p0:Z6} {p1} (hS:Q25 a1 n1 c1 Z5 T0 g w0 R p0) (Z2:Ln Y2 Y1 Z5) : ∀ r,I5 p0 p1=some r →
    Calls Tryz.prog 110 #[pt Y2 Y1,iv p1] w0 (U7 T0 w0 fun T w v=>v = .bool r∧Q22 a1 n1 c1 Z5 T g w R p0):=by
  intro r hm;refine enter func110 rfl ntmps110 rfl fun J => ?_;unfold I5 at hm;refine sq2 (pn ?_);refine sq2 (pu ?_);refine pv (Y4m rfl rfl rfl underlying65) (pu ?_);refine fkC (d:=19) (c:=((decide (0≤p1))&&(decide (p1 < (List.length p0.list:Int))))) 8 [] rfl (fun hk => ?_) fun J => ?_
  · rcases Bool.eq_false_or_eq_true (decide (0≤p1)) with D | D
    · exact  gT (d0:=11) rfl rfl D (pv (r_mi rfl) (gT (d0:=11) rfl rfl D (pv (r_mp rfl) (gT (d0:=11) rfl rfl D (pv (r_nc rfl) (gT (d0:=11) rfl rfl D (pv (Q0h rfl underlying125 rfl sizeOf123 rfl) (gT (d0:=11) rfl rfl D (pv (Q0p rfl isAgg123 (hS.cellB (i:=1) ⟨rfl,rfl⟩ Z2 (j:=0) rfl)) (gT (d0:=11) rfl rfl D (pv (Y8x rfl (hS.own (i:=2) ⟨rfl,rfl⟩).v underlying123) (gT (d0:=11) rfl rfl D (pv (Q6y rfl rfl rfl) (pv (O5 rfl D rfl) (wlR (fun J=>hk J _ (by rw [D]; rfl)) ⟨rfl,qZt⟩)))))))))))))))
    exact  gF7 (d0:=11) rfl rfl (by rw [D]; rfl) (pv (O6 rfl D rfl) (wlR (fun J=>hk J _ (by rw [D]; rfl)) ⟨rfl,qZt⟩))
  exact re hm (hS.sel [0,1,2] rfl)

instance : Ctr Tryz.prog 110 (type_of% @Q6s):=⟨@Q6s,cf110⟩
theorem Q9q {p0:Z6} {p1} (hS:Q25 a1 n1 c1 Z5 T0 g w0 R p0) (Z2:Ln Y2 Y1 Z5) : ∀ r,Q3q p0 p1=some r →
    Calls Tryz.prog 109 #[pt Y2 Y1,iv p1] w0 (Q47 Z5 T0 w0 g R r.1 r.2.1 r.2.2):=by
  intro r hm;refine enter func109 rfl ntmps109 rfl fun J => ?_;unfold Q3q at hm;exact zr hm hS

instance : Ctr Tryz.prog 109 (type_of% @Q9q):=⟨@Q9q,cf109⟩
theorem I9 {p0:Q0} {p1:Pos} {p2:B3} (hS:Q21 a1 a2 a3 a4 a5 a6 b1 oo1 n1 c1 n2 c2 n3 c3 n4 c4 n5 c5 n6 c6 Z5 H1 T0 g w0 pv1 r1 r2 R p0) (Z2:Ln Y2 Y1 Z5) (hL1:Ln b1 oo1 H1) : ∀ r,J5 p0 p1 p2=some r →
    Calls Tryz.prog 75 #[pt Y2 Y1,Q33 p1,.agg (Z3m p2).toArray] w0 (exR r (fun r=>U7 T0 w0 (Q78 a2 a3 a4 a5 a6 b1 oo1 n2 c2 n3 c3 n4 c4 n5 c5 n6 c6 Z5 H1 g pv1 r1 r2 R r.1 r.2)) (fun r=>A5 T0 w0 (Q34 a2 a3 a4 a5 a6 b1 oo1 n2 c2 n3 c3 n4 c4 n5 c5 n6 c6 Z5 H1 g pv1 r1 r2 R r.1.pos r.1.e r.2))):=by
  intro r hm;refine enter func75 rfl ntmps75 rfl fun J => ?_;unfold J5 at hm;refine sq2 (bX [iv p1.Line,iv p1.Col] hS ?_);intro _ D _ am;refine bX (Z3m p2) am ?_;intro w2 b3 _ E;refine pn ?_;refine sq2 (pn ?_);refine O7 hm (fun ac a I => ∃ K O,JR (nf 53) g T0 w2 a I K (ac O=some r) [(0,pt Y2 Y1),(4,pt D 0),(5,pt b3 0),(7,iv O)] ([U5 b3 (Z3m p2),U5 D [iv p1.Line,iv p1.Col],Y5 R]++X0 p0 Z5 H1 b1 oo1 a1 n1 c1 a2 n2 c2 a3 n3 c3 a4 n4 c4 r1 r2 a5 n5 c5 a6 n6 c6 pv1)) (fun ac hm => ?_) ?_
  · refine sq2 (pn ?_);refine blk (sq2 (cd hm ?_ ?_)) <;> intro ay hm
    · exact je hm (E.sel (Z1 0 13) rfl)
    refine sq2 (cd hm ?_ ?_) <;> intro az hm
    · exact je hm (E.sel (Z1 0 13) rfl)
    refine sq2 (cd hm ?_ ?_) <;> intro aA hm
    · refine sq2 (rsS [0,0,0,1,0,1,2,0,0,0,0,0] [0,1,2,3,4,5,6,7,8,9,10,11] E fun w4 aC ao => ?_);obtain⟨_,ap,hm⟩:=bindS hm;refine sS [] cf108 (Q8v (ao.bun (Z1 0 4++Z1 6 7) [4,5] rfl) hL1 _ ap) ?_;have dd:KD [(6,[3,5])]:=⟨qZt⟩;exact zo hm
    exact je hm (E.sel (Z1 0 13) rfl)
  rintro _ I ⟨K,O,J,hm,rfl,aq,_⟩;refine sq2 (sq2 (pn ?_));refine lpJ hm (fun ad o1 m a w8 => ∃(T5:_) (U:Z6) (a7:_) (n7:_) (c7:_) (V:_) (W:_),JR (nf 53) g K I a w8 T5 (loopM ad m (V,W,U)=some o1) [(0,pt Y2 Y1),(4,pt D 0),(7,iv V),(35,iv p2.Stars),(36,iv W)] ([U5 D [iv p1.Line,iv p1.Col],Y5 R]++X0 ({p0 with t:=U}) Z5 H1 b1 oo1 a7 n7 c7 a2 n2 c2 a3 n3 c3 a4 n4 c4 r1 r2 a5 n5 c5 a6 n6 c6 pv1)) (fun _ _ h=>je h (aq.sel (Z1 1 12) rfl)) ?_;rintro ad ar o1 aj _ _ w8 ⟨T5,U,a7,n7,c7,V,W,J,au,rfl,ak,_⟩;obtain⟨m1,_,rfl,hm,aa⟩:=lrE au ar;refine sq2 (pn ?_);refine sq2 (cd hm ?_ ?_) <;> intro aE hm
  · refine pn ?_;refine sq2 (blk (sq2 (pu ?_)));refine cB cf109 hm (Q9q (ak.bun ([0,1,2]++Z1 5 7) [3,4] rfl) hL1) ?_;rintro _ _ _ _ _ ⟨_,_,c8,rfl,av,_⟩ hm;refine pn ?_;refine sq2 (pu ?_);refine cP cf68 hm (Q1o (av.bun (Z1 0 12) [] rfl)) ?_ ?_
    · rintro _ _ _ _ _ ⟨rfl,aw,_⟩ hm;have hm:=Q0o hm aa aj;exact pe hm (aw.sel ([1,2,10,11]++Z1 3 7) rfl)
    rintro _ _ _ _ _ ⟨rfl,ax,_⟩ hm;refine pn ?_;exact lg hm aa (ax.sel ([0,1,2,10,11]++Z1 3 7) rfl)
  have hm:=Q6d hm aa aj;refine pn ?_;exact sq2 (re hm (ak.sel (Z1 1 11) rfl))

instance : Ctr Tryz.prog 75 (type_of% @I9):=⟨@I9,cf75⟩
theorem Q7y {p0:Z6} {p1 p2} (hS:Q25 a1 n1 c1 Z5 T0 g w0 R p0) (Z2:Ln Y2 Y1 Z5) : ∀ r,Q6b p0 p1 p2=some r →
    Calls Tryz.prog 95 #[pt Y2 Y1,iv p1,iv p2] w0 (Q47 Z5 T0 w0 g R r.1 r.2.1 r.2.2):=by
  intro r hm;refine enter func95 rfl ntmps95 rfl fun J => ?_;unfold Q6b at hm;exact zr hm hS

instance : Ctr Tryz.prog 95 (type_of% @Q7y):=⟨@Q7y,cf95⟩
theorem Q5j {p0:Q0} {p1:F2} (hS:Q21 a1 a2 a3 a4 a5 a6 b1 oo1 n1 c1 n2 c2 n3 c3 n4 c4 n5 c5 n6 c6 Z5 H1 T0 g w0 pv1 r1 r2 R p0) (Z2:Ln Y2 Y1 Z5) (hL1:Ln b1 oo1 H1) (h1:Q30 a7 c7 T0 w0 p1) (h2:Q7 a8 c8 T0 w0 p1.Init) : ∀ r,D9 p0 p1=some r →
    Calls Tryz.prog 69 #[pt Y2 Y1,Q75 a7 a8 c7 c8 p1] w0 (exR r (fun r=>U7 T0 w0 (Q78 a2 a3 a4 a5 a6 b1 oo1 n2 c2 n3 c3 n4 c4 n5 c5 n6 c6 Z5 H1 g pv1 r1 r2 R r.1 r.2)) (fun r=>A5 T0 w0 (Q34 a2 a3 a4 a5 a6 b1 oo1 n2 c2 n3 c3 n4 c4 n5 c5 n6 c6 Z5 H1 g pv1 r1 r2 R r.1.pos r.1.e r.2))):=by
  intro r hm;refine enter func69 rfl ntmps69 rfl fun J => ?_;unfold D9 at hm;refine sq2 (bX (Z5y p1 a7 c7 a8 c8) hS ?_);intro _ E _ af;refine pn ?_;refine sq2 (pu ?_);refine cP cf75 hm (I9 (af.bun [0,1] (Z1 2 10) rfl) Z2 hL1) ?_ ?_
  · exact zk
  rintro y1 _ T1 w2 _ ⟨_,_,c9,rfl,aj,_⟩ hm;refine pn ?_;refine sq2 (sq2 (pn ?_));refine lpJ hm (fun U V m a W => ∃(T2:_) (I:Z6) (ab:_) (n8:_) (c10:_) (K:_) (D:_),JR (nf 44) g T1 w2 a W T2 (loopM U m (K,D,I)=some V) [(0,pt Y2 Y1),(3,pt E 0),(5,iv K),(6,iv D)] ([U5 E (Z5y p1 a7 c7 a8 c8),Y5 R]++X0 ({y1.2 with t:=I}) Z5 H1 b1 oo1 ab n8 c10 a2 n2 c2 a3 n3 c3 a4 n4 c4 r1 r2 a5 n5 c5 a6 n6 c6 pv1)) (fun _ _ h=>je h (aj.sel (Z1 0 12) rfl)) ?_;rintro U ak V ad _ _ W ⟨T2,I,ab,n8,c10,K,D,J,am,rfl,ae,_⟩;obtain⟨m1,_,rfl,hm,O⟩:=lrE am ak;refine sq2 (sq2 (cd hm ?_ ?_)) <;> intro av hm
  · refine pn ?_;refine sq2 (blk (sq2 (rsS [0,0,0,1,0,0,1,0,0,1,0,2,0,0,0,0,0] [0,1,2,3,4,5,6,7,8,9,10,11,12,13,14,15,16] ae fun w4 ax an => ?_)));obtain⟨u1,_,hm⟩:=bindS hm;obtain⟨y2,ap,hm⟩:=bindS hm;refine sS [] cf95 (Q7y (an.bun ([0,1,2]++Z1 5 7) [3,4] rfl) hL1 _ ap) ?_;rintro _ _ _ _ ⟨_,_,c11,rfl,aq,_⟩;refine pn ?_;refine sq2 (pu ?_);refine cP cf68 hm (Q1o (aq.bun (Z1 0 12) [] rfl)) ?_ ?_
    · rintro _ _ _ _ _ ⟨rfl,ar,_⟩ hm;have hm:=Q0o hm O ad;exact pe hm (ar.sel ([1,2,10,11]++Z1 3 7) rfl)
    rintro _ _ _ _ _ ⟨rfl,au,_⟩ hm;refine nil (Y7h ?_);refine pu ?_;refine nil (t_blk (J3 [(0,pt Y2 Y1),(3,pt E 0),(5,iv y2.1),(6,iv D)] ⟨rfl,rfl,rfl,rfl,qZt⟩ fun J => ?_));exact lg hm O (au.sel ([0,1,2,10,11]++Z1 3 7) rfl)
  have hm:=Q6d hm O ad;exact zr hm ae

instance : Ctr Tryz.prog 69 (type_of% @Q5j):=⟨@Q5j,cf69⟩
theorem Z2h {p0:U8} (hS:Sep g T0 w0 [Y5 R])  : ∀ r,Q8n p0=some r →
    Calls Tryz.prog 131 #[Q83 p0] w0 (Q17 T0 w0 g R r):=by
  intro r hm;refine enter func131 rfl ntmps131 rfl fun J => ?_;unfold Q8n at hm;exact zr hm hS

instance : Ctr Tryz.prog 131 (type_of% @Z2h):=⟨@Z2h,cf131⟩
theorem Z0m {p0:List U8} (hS:Sep g T0 w0 [Y5 R]) (h1:Q51 a1 c1 T0 w0 p0) : ∀ r,Q3m p0=some r →
    Calls Tryz.prog 155 #[sv a1 p0 c1,.func (.func 131) #[] #[]] w0 (Q27 T0 w0 g R r):=by
  intro r hm;refine enter func155 rfl ntmps155 rfl fun J => ?_;unfold Q3m at hm;refine sq2 (pn ?_);refine sq2 (sq2 (pn ?_));refine lpJ hm (fun E I m a K => ∃ O D,JR (nf 19) g T0 w0 a K O (loopM E m D=some I) [(0,sv a1 p0 c1),(1,.func (.func 131) #[] #[]),(7,iv (List.length p0:Int)),(8,iv D)] [Y5 R]) (fun _ _ h=>je h (hS.sel [0] rfl)) ?_;rintro E U I _ _ _ K ⟨O,D,J,V,rfl,W,_⟩;obtain⟨m1,_,rfl,hm,_⟩:=lrE V U;exact zr hm W

instance : Ctr Tryz.prog 155 (type_of% @Z0m):=⟨@Z0m,cf155⟩
theorem Q5v {p0:List U8} (hS:Sep g T0 w0 [Y5 R]) (h1:Q51 a1 c1 T0 w0 p0) : ∀ r,Q5q p0=some r →
    Calls Tryz.prog 130 #[sv a1 p0 c1,.func (.func 131) #[] #[]] w0 (Q17 T0 w0 g R r):=by
  intro r hm;refine enter func130 rfl ntmps130 rfl fun J => ?_;unfold Q5q at hm;exact zr hm hS

instance : Ctr Tryz.prog 130 (type_of% @Q5v):=⟨@Q5v,Y5i⟩
theorem Z2g {p0:U8} {p1:Z6} (hS:Sep g T0 w0 (Q42 a1 b1 oo1 n1 c1 R5 H1 R p1)) (Q2p:Ln Q1c Q0x R5) (hL1:Ln b1 oo1 H1) : ∀ r,Q8m p0 p1=some r →
    Calls Tryz.prog 132 #[Q83 p0,pt Q1c Q0x] w0 (Q40 a1 b1 oo1 n1 c1 R5 H1 T0 w0 g R r p1):=by
  intro r hm;refine enter func132 rfl ntmps132 rfl fun J => ?_;unfold Q8m at hm;exact zr hm hS

instance : Ctr Tryz.prog 132 (type_of% @Z2g):=⟨@Z2g,cf132⟩
theorem Z0l {p0:List U8} {p1:Z6} (hS:Sep g T0 w0 (Q42 a2 b1 oo1 n1 c2 R5 H1 R p1)) (h1:Q51 a1 c1 T0 w0 p0) (Q2p:Ln Q1c Q0x R5) (hL1:Ln b1 oo1 H1) : ∀ r,Q3l p0 p1=some r →
    Calls Tryz.prog 155 #[sv a1 p0 c1,.func (.func 132) #[] #[pt Q1c Q0x]] w0 (U7 T0 w0 fun T w v=>v=iv r∧Sep g T w (R ++ [R5 [pt b1 oo1],H1 [.slice a2 n1 c2],Q8 a2 n1 c2 p1])∧True):=by
  intro r hm;refine enter func155 rfl ntmps155 rfl fun J => ?_;unfold Q3l at hm;refine sq2 (pn ?_);refine sq2 (sq2 (pn ?_));refine lpJ hm (fun E I m a K => ∃ O D,JR (nf 19) g T0 w0 a K O (loopM E m D=some I) [(0,sv a1 p0 c1),(1,.func (.func 132) #[] #[pt Q1c Q0x]),(7,iv (List.length p0:Int)),(8,iv D)] (Q42 a2 b1 oo1 n1 c2 R5 H1 R p1)) (fun _ _ h=>je h (hS.sel (Z1 0 4) rfl)) ?_;rintro E U I _ _ _ K ⟨O,D,J,V,rfl,W,_⟩;obtain⟨m1,_,rfl,hm,_⟩:=lrE V U;exact zr hm W

instance : Ctr Tryz.prog 155 (type_of% @Z0l):=⟨@Z0l,cf155⟩
theorem Q4f {p0:List U8} {p1:Z6} (hS:Sep g T0 w0 (Q42 a2 b1 oo1 n1 c2 R5 H1 R p1)) (h1:Q51 a1 c1 T0 w0 p0) (Q2p:Ln Q1c Q0x R5) (hL1:Ln b1 oo1 H1) : ∀ r,Q3w p0 p1=some r →
    Calls Tryz.prog 130 #[sv a1 p0 c1,.func (.func 132) #[] #[pt Q1c Q0x]] w0 (Q40 a2 b1 oo1 n1 c2 R5 H1 T0 w0 g R r p1):=by
  intro r hm;refine enter func130 rfl ntmps130 rfl fun J => ?_;unfold Q3w at hm;exact zr hm hS

instance : Ctr Tryz.prog 130 (type_of% @Q4f):=⟨@Q4f,Y5i⟩
theorem V3 {p0:Z6} {p1} (hS:Q25 a1 n1 c1 Z5 T0 g w0 R p0) (Z2:Ln Y2 Y1 Z5) : ∀ r,U1 p0 p1=some r →
    Calls Tryz.prog 101 #[pt Y2 Y1,iv p1] w0 (Q84 a1 n1 c1 Z5 T0 w0 g R r p0):=by
  intro r hm;refine enter func101 rfl ntmps101 rfl fun J => ?_;unfold U1 at hm;exact zr hm hS

instance : Ctr Tryz.prog 101 (type_of% @V3):=⟨@V3,Q8s⟩
theorem Z2f {p0:U8} {p1:Z6} (hS:Sep g T0 w0 (Q42 a1 b1 oo1 n1 c1 R5 H1 R p1)) (Q2p:Ln Q1c Q0x R5) (hL1:Ln b1 oo1 H1) : ∀ r,Q8l p0 p1=some r →
    Calls Tryz.prog 133 #[Q83 p0,pt Q1c Q0x] w0 (Q40 a1 b1 oo1 n1 c1 R5 H1 T0 w0 g R r p1):=by
  intro r hm;refine enter func133 rfl ntmps133 rfl fun J => ?_;unfold Q8l at hm;exact zr hm hS

instance : Ctr Tryz.prog 133 (type_of% @Z2f):=⟨@Z2f,cf133⟩
theorem Z0k {p0:List U8} {p1:Z6} (hS:Sep g T0 w0 (Q42 a2 b1 oo1 n1 c2 R5 H1 R p1)) (h1:Q51 a1 c1 T0 w0 p0) (Q2p:Ln Q1c Q0x R5) (hL1:Ln b1 oo1 H1) : ∀ r,Q3k p0 p1=some r →
    Calls Tryz.prog 155 #[sv a1 p0 c1,.func (.func 133) #[] #[pt Q1c Q0x]] w0 (U7 T0 w0 fun T w v=>v=iv r∧Sep g T w (R ++ [R5 [pt b1 oo1],H1 [.slice a2 n1 c2],Q8 a2 n1 c2 p1])∧True):=by
  intro r hm;refine enter func155 rfl ntmps155 rfl fun J => ?_;unfold Q3k at hm;refine sq2 (pn ?_);refine sq2 (sq2 (pn ?_));refine lpJ hm (fun E I m a K => ∃ O D,JR (nf 19) g T0 w0 a K O (loopM E m D=some I) [(0,sv a1 p0 c1),(1,.func (.func 133) #[] #[pt Q1c Q0x]),(7,iv (List.length p0:Int)),(8,iv D)] (Q42 a2 b1 oo1 n1 c2 R5 H1 R p1)) (fun _ _ h=>je h (hS.sel (Z1 0 4) rfl)) ?_;rintro E U I _ _ _ K ⟨O,D,J,V,rfl,W,_⟩;obtain⟨m1,_,rfl,hm,_⟩:=lrE V U;exact zr hm W

instance : Ctr Tryz.prog 155 (type_of% @Z0k):=⟨@Z0k,cf155⟩
theorem Q4e {p0:List U8} {p1:Z6} (hS:Sep g T0 w0 (Q42 a2 b1 oo1 n1 c2 R5 H1 R p1)) (h1:Q51 a1 c1 T0 w0 p0) (Q2p:Ln Q1c Q0x R5) (hL1:Ln b1 oo1 H1) : ∀ r,Q3v p0 p1=some r →
    Calls Tryz.prog 130 #[sv a1 p0 c1,.func (.func 133) #[] #[pt Q1c Q0x]] w0 (Q40 a2 b1 oo1 n1 c2 R5 H1 T0 w0 g R r p1):=by
  intro r hm;refine enter func130 rfl ntmps130 rfl fun J => ?_;unfold Q3v at hm;exact zr hm hS

instance : Ctr Tryz.prog 130 (type_of% @Q4e):=⟨@Q4e,Y5i⟩
theorem Z2e {p0:U8} {p1:U8} (hS:Sep g T0 w0 [Y5 R,R5 (Q9d p1)]) (Q2p:Ln Q1c Q0x R5) : ∀ r,Q8k p0 p1=some r →
    Calls Tryz.prog 134 #[Q83 p0,pt Q1c Q0x] w0 (U7 T0 w0 fun T w v=>v = .bool r∧Sep g T w (R ++ [R5 (Q9d p1)])∧True):=by
  intro r hm;refine enter func134 rfl ntmps134 rfl fun J => ?_;unfold Q8k at hm;exact zr hm hS

instance : Ctr Tryz.prog 134 (type_of% @Z2e):=⟨@Z2e,cf134⟩
theorem Z0j {p0:List U8} {p1:U8} (hS:Sep g T0 w0 [Y5 R,R5 (Q9d p1)]) (h1:Q51 a1 c1 T0 w0 p0) (Q2p:Ln Q1c Q0x R5) : ∀ r,Q3j p0 p1=some r →
    Calls Tryz.prog 155 #[sv a1 p0 c1,.func (.func 134) #[] #[pt Q1c Q0x]] w0 (U7 T0 w0 fun T w v=>v=iv r∧Sep g T w (R ++ [R5 (Q9d p1)])∧True):=by
  intro r hm;refine enter func155 rfl ntmps155 rfl fun J => ?_;unfold Q3j at hm;refine sq2 (pn ?_);refine sq2 (sq2 (pn ?_));refine lpJ hm (fun E I m a K => ∃ O D,JR (nf 19) g T0 w0 a K O (loopM E m D=some I) [(0,sv a1 p0 c1),(1,.func (.func 134) #[] #[pt Q1c Q0x]),(7,iv (List.length p0:Int)),(8,iv D)] [Y5 R,R5 (Q9d p1)]) (fun _ _ h=>je h (hS.sel [0,1] rfl)) ?_;rintro E U I _ _ _ K ⟨O,D,J,V,rfl,W,_⟩;obtain⟨m1,_,rfl,hm,_⟩:=lrE V U;exact zr hm W

instance : Ctr Tryz.prog 155 (type_of% @Z0j):=⟨@Z0j,cf155⟩
theorem Q8r {p0:List U8} {p1:U8} (hS:Sep g T0 w0 [Y5 R,R5 (Q9d p1)]) (h1:Q51 a1 c1 T0 w0 p0) (Q2p:Ln Q1c Q0x R5) : ∀ r,Q0t p0 p1=some r →
    Calls Tryz.prog 130 #[sv a1 p0 c1,.func (.func 134) #[] #[pt Q1c Q0x]] w0 (U7 T0 w0 fun T w v=>v = .bool r∧Sep g T w (R ++ [R5 (Q9d p1)])∧True):=by
  intro r hm;refine enter func130 rfl ntmps130 rfl fun J => ?_;unfold Q0t at hm;exact zr hm hS

instance : Ctr Tryz.prog 130 (type_of% @Q8r):=⟨@Q8r,Y5i⟩
theorem Q9p {p0:Z6} {p1:List U8} (hS:Q25 a1 n1 c1 Z5 T0 g w0 R p0) (Z2:Ln Y2 Y1 Z5) (h1:Q51 a2 c2 T0 w0 p1) : ∀ r,Q7x p0 p1=some r →
    Calls Tryz.prog 96 #[pt Y2 Y1,sv a2 p1 c2] w0 (Q84 a1 n1 c1 Z5 T0 w0 g R r p0):=by
  intro r hm;refine enter func96 rfl ntmps96 rfl fun J => ?_;unfold Q7x at hm;refine sq2 (bX [pt Y2 Y1] hS ?_);intro _ D ac I;refine pn ?_;refine sq2 (blk (sq2 (pu ?_)))
  rcases bc hm with ⟨ad,hm⟩ | ⟨ad,hm⟩
  · exact zr hm I
  refine pu ?_;refine cB Y5i hm (Q5v (I.bun (Z1 0 4) [] rfl) (h1.mono ac)) ?_;rintro _ _ _ _ _ ⟨rfl,K,_⟩ hm;refine cd hm ?_ ?_ <;> intro aj hm
  · exact sq2 (re hm (K.sel [1,2,3] rfl))
  refine sq2 (pu ?_);refine pv (Y1s (u := .func (.func 132) #[] #[pt D 0]) rfl) ?_;refine cB Y5i hm (Q4f (K.bun [1] [0,2,3] rfl) (h1.mono ch) (Q4u D) Z2) ?_;rintro _ _ _ _ _ ⟨rfl,O,_⟩ hm;refine cd hm ?_ ?_ <;> intro ak hm
  · exact sq2 (re hm (O.sel [0,2,3] rfl))
  refine sq2 (pu ?_);refine pv (Y1s (u := .func (.func 133) #[] #[pt D 0]) rfl) ?_;refine cB Y5i hm (Q4e (O.bun [0] [1,2,3] rfl) (h1.mono ch) (Q4u D) Z2) ?_;rintro _ _ T3 w4 _ ⟨rfl,U,_⟩ hm;refine cd hm ?_ ?_ <;> intro am hm
  · exact sq2 (re hm (U.sel [0,2,3] rfl))
  refine pn ?_;refine sq2 (sq2 (pn ?_));refine lpJ hm (fun V W m a w5 => ∃ T4 E,JR (nf 36) g T3 w4 a w5 T4 (loopM V m E=some W) [(1,sv a2 p1 c2),(23,sv a2 p1 c2),(24,iv (List.length p1:Int)),(25,iv E)] [Y5 R,Z5 [.slice a1 n1 c1],Q8 a1 n1 c1 p0]) (fun _ _ h=>je h (U.sel [0,2,3] rfl)) ?_;rintro V ag W _ _ _ w5 ⟨T4,E,J,ah,rfl,ai,_⟩;obtain⟨m1,_,rfl,hm,_⟩:=lrE ah ag;exact zr hm ai

instance : Ctr Tryz.prog 96 (type_of% @Q9p):=⟨@Q9p,cf96⟩
theorem Z1f {p0:List U8} (hS:Sep g T0 w0 [Y5 R]) (h1:Q51 a1 c1 T0 w0 p0) : ∀ r,Q8g p0=some r →
    Calls Tryz.prog 97 #[sv a1 p0 c1] w0 (U7 T0 w0 fun T w v => ∃ a4 n3 c4,v = .slice a4 n3 c4∧Sep g T w (R ++ [K3 Q1v 163 (.slice a4 n3 c4) r])∧True):=by
  intro r hm;refine enter func97 rfl ntmps97 rfl fun J => ?_;unfold Q8g at hm;refine sq2 (pn ?_);refine sq2 (sq2 (pu ?_));refine pv (Y1r rfl rfl rfl underlying118) (pn ?_)
  rcases SlR.nilOr h1 with ⟨D,E⟩ | D
  · subst D;subst E;have hm:some []=some r:=hm;refine cnd (b:=true) rfl (fun _ => ?_) (fun h=>nomatch h);refine sq2 (pn ?_);have I:=hS.nilO Q1v 163;exact re hm (I.sel [1,0] rfl)
  refine cnd rfl (fun h=>absurd (h.symm.trans D) (fun h=>nomatch h)) (fun _ => ?_);refine pn ?_;refine sq2 (pu ?_);refine wl rfl (bs0S Q1v hS underlying118 sizeOf163 fun W a2 n1 c2 K O => ?_);obtain⟨_,U,hm⟩:=bindS hm;refine pu ?_;refine wl rfl (apO (q:=0) (l:=([]:List U8)) (us:=p0) O ⟨rfl,rfl⟩ rfl rfl (h1.mono K).v underlying118 el163 (U3 U) fun w2 a3 n2 c3 af V => ?_);exact re hm (V.sel [1,0] rfl)

instance : Ctr Tryz.prog 97 (type_of% @Z1f):=⟨@Z1f,cf97⟩
theorem Q1n {p0:Z6} {p1} (hS:Q25 a1 n1 c1 Z5 T0 g w0 R p0) (Z2:Ln Y2 Y1 Z5) : ∀ r,Q1a p0 p1=some r →
    Calls Tryz.prog 100 #[pt Y2 Y1,iv p1] w0 (Q84 a1 n1 c1 Z5 T0 w0 g R r p0):=by
  intro r hm;refine enter func100 rfl ntmps100 rfl fun J => ?_;unfold Q1a at hm;exact zr hm hS

instance : Ctr Tryz.prog 100 (type_of% @Q1n):=⟨@Q1n,cf100⟩
theorem Z2d {p0 p1} (hS:Sep g T0 w0 [Y5 R])  : ∀ r,Z6m p0 p1=some r →
    Calls Tryz.prog 99 #[iv p0,iv p1] w0 (Q27 T0 w0 g R r):=by
  intro r hm;refine enter func99 rfl ntmps99 rfl fun J => ?_;unfold Z6m at hm;exact zr hm hS

instance : Ctr Tryz.prog 99 (type_of% @Z2d):=⟨@Z2d,cf99⟩
theorem Q6a {p0:U8} {p1} {p2:Z6} {p3} (hS:Sep g T0 w0 [Y5 R,Z5 (Q9d p0),R5 [iv p1],Z7c [pt b1 oo1],H1 [.slice a1 n1 c1],Q8 a1 n1 c1 p2,Z7b [iv p3]]) (Z2:Ln Y2 Y1 Z5) (Q2p:Ln Q1c Q0x R5) (hL_p2:Ln Y0d Y0a Z7c) (hL1:Ln b1 oo1 H1) (hL_p3:Ln Y0c Z9z Z7b) : ∀ r,Q2o p0 p1 p2 p3=some r →
    Calls Tryz.prog 98 #[pt Y2 Y1,pt Q1c Q0x,pt Y0d Y0a,pt Y0c Z9z] w0 (U7 T0 w0 fun T w v=>v = .bool r.1∧Sep g T w (R ++ [Z5 (Q9d r.2.1),R5 [iv r.2.2.1],Z7c [pt b1 oo1],H1 [.slice a1 n1 c1],Q8 a1 n1 c1 p2,Z7b [iv r.2.2.2]])∧True):=by
  intro r hm;refine enter func98 rfl ntmps98 rfl fun J => ?_;unfold Q2o at hm;refine sq2 (pn ?_);refine sq2 (rsS [0,1,1,0,0,0,1,2,2,0,0,2] [0,1,2,3,4,5,6,7,8,9,10,11] hS fun w1 ai D => ?_);obtain⟨_,E,hm⟩:=bindS hm;refine sS [(1,iv p1)] cf100 (Q1n (D.bun [0,1,2,3,6] [4,5] rfl) hL1 _ E) ?_;rintro _ _ _ _ ⟨rfl,I,_⟩;refine pu ?_;obtain⟨K,O,hm⟩:=bindS hm;refine sS [] cf99 (Z2d (I.bun (Z1 0 7) [] rfl) _ O) ?_;rintro _ _ _ _ ⟨rfl,U,_⟩;refine s2W [] ?_;refine osB 1 2 Z2 U ?_;intro _ _ V;refine pn ?_;refine sq2 (rsS [0,0,0,1,1,0,0,0,1,2,0,2] [0,1,2,3,4,5,6,7,8,9,10,11] V fun w5 ak W => ?_);obtain⟨_,aa,hm⟩:=bindS hm;refine sS [(3,iv K)] Q8s (V3 (W.bun (Z1 0 5) [5,6] rfl) hL1 _ aa) ?_;rintro _ _ _ _ ⟨rfl,ab,_⟩;refine s2W [0] ?_;refine osB 2 0 Q2p ab ?_;intro _ _ ac;refine pn ?_;refine sq2 (rsS [1,1,0,0,0,1,2,0,2] [0,1,2,3,4,5,6,7,8] ac fun w8 an ad => ?_);obtain⟨_,ae,hm⟩:=bindS hm;refine sS [(0,iv p3)] cf100 (Q1n (ad.bun (Z1 0 5) [5,6] rfl) hL1 _ ae) ?_;rintro _ _ _ _ ⟨rfl,af,_⟩;refine pu ?_;refine s0 rfl qZt (fun _=>r_imx rfl rfl) rfl (?_);refine s2W [0] ?_;refine osB 4 0 hL_p3 af ?_;intro _ _ ag;refine pu ?_;refine se (J3 [(1,pt Q1c Q0x)] ⟨rfl,qZt⟩ fun J => ?_);exact sq2 (re hm (ag.sel [0,1,2,3,5,6,4] rfl))

instance : Ctr Tryz.prog 98 (type_of% @Q6a):=⟨@Q6a,cf98⟩
theorem Q7j {p0:Z6} {p1:List UInt8} {p2:List U8} (hS:Q25 a1 n1 c1 Z5 T0 g w0 R p0) (Z2:Ln Y2 Y1 Z5) (h1:Q51 a2 c2 T0 w0 p2) : ∀ r,Q4w p0 p1 p2=some r →
    Calls Tryz.prog 70 #[pt Y2 Y1,Q16 p1.toArray,sv a2 p2 c2] w0 (U7 T0 w0 fun T w v=>v = .tuple #[iv r.1,iv r.2.1]∧Q22 a1 n1 c1 Z5 T g w R r.2.2):=by
  intro r hm;refine enter func70 rfl ntmps70 rfl fun J => ?_;unfold Q4w at hm;refine sq2 (bX [pt Y2 Y1] hS ?_);intro _ D _ aA;refine pn ?_;refine sq2 (sq2 (pu ?_));refine pv (r_pne rfl rfl rfl underlying65) (pn ?_);refine cnd (b:=false) rfl (fun h=>nomatch h) (fun _ => ?_);refine pn ?_;refine sq2 (pu ?_);refine cB cf93 hm (Q7w (aA.bun [0,1] [2,3] rfl) Z2) ?_;rintro y1 _ _ _ _ ⟨rfl,aa,_⟩ hm;refine pn ?_;refine sq2 (sq2 (pu ?_))
  rcases bc hm with ⟨aB,hm⟩ | ⟨aB,hm⟩
  · exact zr hm aa
  obtain⟨u1,ak,hm⟩:=bindS hm;obtain⟨cs1,aC,_⟩:=(aa.own (i:=3) ⟨rfl,rfl⟩).v.ixcS ak rfl;obtain⟨_,c3,rfl,h2⟩:=C6 aC;refine cd hm ?_ ?_ <;> intro bw hm
  · exact zr hm aa
  refine pn ?_;refine sq2 (sq2 (pu ?_));refine cB cf96 hm (Q9p (aa.bun [0,1] [2,3] rfl) Z2 (h1.mono ch)) ?_;rintro y2 _ _ _ _ ⟨rfl,am,_⟩ hm;refine pu ?_;refine nil (J3 [(2,sv a2 p2 c2),(3,pt D 0),(8,iv y1),(9,iv y2)] ⟨rfl,rfl,rfl,rfl,qZt⟩ fun J => ?_);refine sq2 (cd hm ?_ ?_) <;> intro bz hm
  · exact sq2 (re hm (am.sel [1,2,3] rfl))
  refine pn ?_;refine sq2 (pu ?_);refine cB cf97 hm (Z1f (am.bun (Z1 0 4) [] rfl) (h1.mono ch)) ?_;rintro y3 _ T3 _ _ ⟨a4,n2,c4,rfl,aG,_⟩ hm;refine pn ?_;refine sq2 (aL [iv 0] aG ?_);intro _ K _ aI;refine aL [iv 0] aI ?_;intro _ O _ aJ;refine sT 1 aJ ?_;intro _ _ aK;refine sT 0 aK ?_;intro w8 _ aN;refine pn ?_;refine sq2 (pu ?_);refine pv (Y1s (u := .func (.func 98) #[] #[pt K 0,pt D 0,pt O 0]) rfl) (pv (r_zf rfl) (pn ?_));refine sq2 (sq2 (pn ?_));refine lpJ hm (fun an o1 m a w9 => ∃(T4:_) (x4:_) (U:_) (E:List U8) (V:_),JR (nf 84) g T3 w8 a w9 T4 (loopM an m (E,V,U,x4)=some o1) [(3,pt D 0),(8,iv y1),(10,.slice a4 n2 c4),(11,pt K 0),(12,pt O 0),(13,.func (.func 98) #[] #[pt K 0,pt D 0,pt O 0]),(44,iv (List.length y3:Int)),(45,iv V)] [U5 O [iv U],U5 K [iv x4],U5 D [pt Y2 Y1],Y5 R,Z5 [.slice a1 n1 c1],Q8 a1 n1 c1 p0,K3 Q1v 163 (.slice a4 n2 c4) E]) (fun _ _ h=>je h (aN.sel (Z1 0 7) rfl)) ?_;rintro an aP o1 ar _ _ w9 ⟨T4,x4,U,E,V,J,aQ,rfl,af,_⟩;obtain⟨m1,_,rfl,hm,ag⟩:=lrE aQ aP;refine sq2 (pn ?_);refine sq2 (cd hm ?_ ?_) <;> intro bA hm
  · refine pn ?_;refine sq2 (blk (sq2 (pn ?_)));refine sq2 ?_;obtain⟨u2,aS,hm⟩:=bindS hm;refine pu ?_;obtain⟨u3,ah,hm⟩:=bindS hm;obtain rfl:u2=u3:=oI (aS.symm.trans ah);obtain⟨cs2,aU,aV⟩:=af.focus (q:=6) ⟨rfl,rfl⟩ ah;cases Z3a aU;obtain⟨_,k2,cp2,hv2,_,_,aW,_⟩:=(af.own (i:=6) ⟨rfl,rfl⟩).v.ixc ah rfl;refine cB cf98 hm (Q6a (Z5:=Y2h Q1v 163 (.slice a4 n2 c4) E (Int.toNat V)) (aV.bun [3] [6,1,2,4,5,0] rfl) (X0s hv2 aW) (Q4u K) (Q4u D) Z2 (Q4u O)) ?_;rintro W _ T5 aY _ ⟨rfl,aZ,_⟩ hm;have au:Sep g T5 aY [Y5 R,K3 Q1v 163 (.slice a4 n2 c4) (List.set E (Int.toNat V) W.2.1),U5 K [iv W.2.2.1],U5 D [pt Y2 Y1],Z5 [.slice a1 n1 c1],K3 E5 122 (.slice a1 n1 c1) p0.list,U5 O [iv W.2.2.2]]:=aZ.unfocus (q:=1) (u:=W.2.1) ⟨rfl,rfl⟩ (Y0s (x:=W.2.1)  : Q1v.rp _ _ _ _);refine cd hm ?_ ?_ <;> intro bB hm
    · refine sq2 (pn ?_);have hm:=Q0o hm ag ar;exact re hm (au.sel [0,4,5] rfl)
    exact lg hm ag (au.sel [6,2,3,0,4,5,1] rfl)
  have hm:=Q6d hm ag ar;refine pn ?_;refine sq2 (sq2 (pu ?_));refine cB cf99 hm (Z2d (af.bun (Z1 0 7) [] rfl)) ?_;rintro _ _ _ _ _ ⟨rfl,ai,_⟩ hm;refine cd hm ?_ ?_ <;> intro bC hm
  · exact sq2 (re hm (ai.sel [3,4,5] rfl))
  refine pn ?_;refine sq2 ?_;obtain⟨u4,aj,hm⟩:=bindS hm;obtain rfl:u1=u4:=oI (ak.symm.trans aj);obtain⟨cs3,be,_⟩:=(ai.own (i:=5) ⟨rfl,rfl⟩).v.ixcS aj rfl;obtain⟨_,c5,rfl,h3⟩:=C6 be;refine pn ?_;refine sq2 (rsS [0,0,0,0,0,1,1,2,1,0,0,0,2,0,0,2,0,0,2,0,0,2] [0,1,2,3,4,5,6,8,7,9,10,11,12,13,14,15,16,17,18,19,20,21] ai fun bD bE bf => ?_);obtain⟨y6,bg,hm⟩:=bindS hm;refine sS [(8,iv U)] cf99 (Z2d (bf.bun [3,4,5,6,0,1] [] rfl) _ bg) ?_;rintro _ _ _ _ ⟨rfl,bh,_⟩;refine pu ?_;obtain⟨_,_,bi,h4,rfl⟩:=bh.sl 3;obtain⟨u5,aw,hm⟩:=bindS hm;obtain rfl:u1=u5:=oI (aj.symm.trans aw);refine s2W [] ?_;refine Z6d (q:=2) (j:=4) (u' := {u1 with Type_ := {u1.Type_ with Fields:=E}}) bi ⟨rfl,rfl⟩ aw rfl rfl rfl sizeOf118 rfl rfl rfl (fun c0 I=>by obtain⟨a6,c6,rfl,h5⟩:=C6 I; exact(Q1g (x := {u1 with Type_ := {u1.Type_ with Fields:=E}}) h4:E5.rp _ _ _ _)) fun bI bJ bl => ?_;refine pu ?_;obtain⟨u6,bm,hm⟩:=bindS hm;refine s2W [] ?_;refine Z6d (q:=2) (j:=5) (u' := {u6 with size:=y6}) bl ⟨rfl,rfl⟩ bm rfl rfl rfl sizeOf3 rfl rfl rfl (fun c0 I=>by obtain⟨a7,c7,rfl,h6⟩:=C6 I; exact(Q1g (x := {u6 with size:=y6}) h6:E5.rp _ _ _ _)) fun bL bM bn => ?_;refine pu ?_;obtain⟨u7,bo,hm⟩:=bindS hm;refine s2W [0] ?_;refine Z6d (q:=2) (j:=6) (u' := {u7 with align:=U}) bn ⟨rfl,rfl⟩ bo rfl rfl rfl sizeOf3 rfl rfl rfl (fun c0 I=>by obtain⟨a8,c8,rfl,h7⟩:=C6 I; exact(Q1g (x := {u7 with align:=U}) h7:E5.rp _ _ _ _)) fun bO bP bq => ?_;refine pu ?_;obtain⟨u8,bt,hm⟩:=bindS hm;refine s2W [] ?_;refine Z6d (q:=2) (j:=7) (u' := {u8 with open_:=false}) bq ⟨rfl,rfl⟩ bt rfl rfl rfl sizeOf4 rfl rfl rfl (fun c0 I=>by obtain⟨a9,c9,rfl,h8⟩:=C6 I; exact(Q1g (x := {u8 with open_:=false}) h8:E5.rp _ _ _ _)) fun bR bT bv => ?_;refine pu ?_;refine se (J3 [(8,iv y1)] ⟨rfl,qZt⟩ fun J => ?_);exact sq2 (re hm (bv.sel [0,1,2] rfl))

instance : Ctr Tryz.prog 70 (type_of% @Q7j):=⟨@Q7j,cf70⟩
theorem Q4h {p0:Q0} {p1:List D4} (hS:Q21 a1 a2 a3 a4 a5 a6 b1 oo1 n1 c1 n2 c2 n3 c3 n4 c4 n5 c5 n6 c6 Z5 H1 T0 g w0 pv1 r1 r2 R p0) (Z2:Ln Y2 Y1 Z5) (hL1:Ln b1 oo1 H1) (h1:SlR Q0a T0 w0 (sv a7 p1 c7) p1) : ∀ r,M6 p0 p1=some r →
    Calls Tryz.prog 32 #[pt Y2 Y1,sv a7 p1 c7] w0 (exR r (fun r=>U7 T0 w0 fun T w v => ∃ a21 n16 c21,v = .tuple #[]∧Q15 a21 a2 a3 a4 a5 a6 b1 oo1 n16 c21 n2 c2 n3 c3 n4 c4 n5 c5 n6 c6 Z5 H1 T g w pv1 r1 r2 R r) (fun r=>A5 T0 w0 (Q34 a2 a3 a4 a5 a6 b1 oo1 n2 c2 n3 c3 n4 c4 n5 c5 n6 c6 Z5 H1 g pv1 r1 r2 R r.1.pos r.1.e r.2))):=by
  intro r hm;refine enter func32 rfl ntmps32 rfl fun J => ?_;unfold M6 at hm;refine sq2 (sq2 (pn ?_));refine lpJ hm (fun I K m a w1 => ∃(T1:_) (x3:Z6) (a8:_) (n7:_) (c8:_) (x2:_),JR (nf 75) g T0 w0 a w1 T1 (loopM I m (x2,x3)=some K) [(0,pt Y2 Y1),(1,sv a7 p1 c7),(15,sv a7 p1 c7),(16,iv (List.length p1:Int)),(17,iv x2)] ([Y5 R]++X0 ({p0 with t:=x3}) Z5 H1 b1 oo1 a8 n7 c8 a2 n2 c2 a3 n3 c3 a4 n4 c4 r1 r2 a5 n5 c5 a6 n6 c6 pv1)) (fun _ _ h=>je h (hS.sel (Z1 0 11) rfl)) ?_;rintro I af K O _ _ w1 ⟨T1,x3,a8,n7,c8,x2,J,ag,rfl,ah,_⟩;obtain⟨m1,z1,rfl,hm,D⟩:=lrE ag af;refine sq2 (pn ?_);refine sq2 (cd hm ?_ ?_) <;> intro bF hm
  · refine pn ?_;refine sq2 (blk (sq2 ?_));obtain⟨u1,aN,hm⟩:=bindS hm;obtain⟨cs1,aP,_,hT1⟩:=ixS ah aN h1;obtain⟨_,c9,rfl,h2⟩:=Q7b aP;refine aL zv12 ah ?_;intro _ _ _ aQ;refine sT 0 aQ ?_;intro _ _ aR;refine pn ?_;refine sq2 (rsS [0,0,0,1,0,1,2,0,0,0,0,0] [0,1,2,3,4,5,6,7,8,9,10,11] aR fun w4 bI aS => ?_);obtain⟨_,aT,hm⟩:=bindS hm;refine sS [] cf67 (Q8u (aS.bun ([0,1,2]++Z1 5 7) [3,4] rfl) hL1 _ aT) ?_;rintro _ _ _ _ ⟨_,_,c10,rfl,aU,_⟩;refine pn ?_;refine cP cf68 hm (Q1o (aU.bun (Z1 1 11) [] rfl)) ?_ ?_
    · rintro _ _ _ _ _ ⟨rfl,aV,_⟩ hm;have hm:=Q0o hm D O;exact pe hm (aV.sel ([0,1,9,10]++Z1 2 7) rfl)
    rintro _ _ _ _ _ ⟨rfl,aW,_⟩ hm;exact lg hm D (aW.sel ([0,1,9,10]++Z1 2 7) rfl)
  have hm:=Q6d hm D O;refine pn ?_;refine sq2 (pn ?_);refine lpJ hm (fun I K m a w8 => ∃(T5:_) (aj:Z6) (ak:Q0) (ay:_) (n9:_) (c11:_) (V:_),JR (nf 75) g T1 w1 a w8 T5 (loopM I m (V,ak,aj)=some K) [(0,pt Y2 Y1),(36,sv a7 p1 c7),(37,iv (List.length p1:Int)),(38,iv V)] ([Y5 R]++X0 ({ak with t:=aj}) Z5 H1 b1 oo1 ay n9 c11 a2 n2 c2 a3 n3 c3 a4 n4 c4 r1 r2 a5 n5 c5 a6 n6 c6 pv1)) (fun _ _ h=>je h (ah.sel (Z1 0 11) rfl)) ?_;rintro I af K O _ _ w8 ⟨T5,aj,ak,ay,n9,c11,V,J,ag,rfl,am,_⟩;obtain⟨m1,z1,rfl,hm,D⟩:=lrE ag af;refine sq2 (pn ?_);refine sq2 (cd hm ?_ ?_) <;> intro bJ hm
  · refine pn ?_;refine sq2 (blk (sq2 ?_));obtain⟨u3,aX,hm⟩:=bindS hm;obtain⟨cs2,aY,_,hT2⟩:=ixS am aX h1;obtain⟨aA,c12,rfl,h3⟩:=Q7b aY;refine aL zv12 am ?_;intro _ b5 _ aZ;refine sT 0 aZ ?_;intro ba _ be;refine pn ?_;refine sq2 (pn ?_);refine sq2 (sq2 (pn ?_));have bf:=be.nilO Q1v 163;refine lpJ hm (fun aC o2 m a aE => ∃(T6:_) (W:Z6) (aa:Q0) (ao:List U8) (ap:_) (aq:_) (c13:_) (aG:_) (aI:_) (c14:_) (ar:_),JR (nf 75) g T5 ba a aE T6 (loopM aC m (ao,ar,aa,W)=some o2) [(0,pt Y2 Y1),(9,pt b5 0),(10,.slice ap aq c13),(36,sv a7 p1 c7),(37,iv (List.length p1:Int)),(38,iv V),(43,sv aA u3.Fields c12),(44,iv (List.length u3.Fields:Int)),(45,iv ar)] ([K3 Q1v 163 (.slice ap aq c13) ao,U5 b5 (Y2p u3 aA c12),Y5 R]++X0 ({aa with t:=W}) Z5 H1 b1 oo1 aG aI c14 a2 n2 c2 a3 n3 c3 a4 n4 c4 r1 r2 a5 n5 c5 a6 n6 c6 pv1)) (fun _ _ h=>je h (bf.sel (Z1 0 13) rfl)) ?_;rintro aC bg o2 bh _ _ aE ⟨T6,W,aa,ao,ap,aq,c13,aG,aI,c14,ar,J,bi,rfl,au,_⟩;obtain⟨_,_,rfl,hm,aJ⟩:=lrE bi bg;refine sq2 (pn ?_);refine sq2 (cd hm ?_ ?_) <;> intro bK hm
    · refine pn ?_;refine sq2 (blk (sq2 ?_));obtain⟨U,bj,hm⟩:=bindS hm;obtain⟨cs3,bk,_,hT3⟩:=ixS au bj h3;obtain⟨_,c15,_,c16,rfl,h4,h5⟩:=Q5g bk;refine aL zv4 au ?_;intro _ _ _ bn;refine sT 0 bn ?_;intro _ _ bo;refine pn ?_;refine Z0c [0,0,1,0,1,2,0,2,2,0] [0,1,2,3,4,5,6,7,8,9] bo (S4 (V9 (V9 (S4 (V9 (S4 (V9 (V9 (S4 (P8)))))))))) fun bL bM aK => ?_;refine pu ?_;obtain⟨E,bp,hm⟩:=bindS hm
      rcases E with e2 | E
      · have dd:KD [(5,[4]),(7,[2,4,5]),(8,[2,4,5,7])]:=⟨qZt⟩;exact zr hm aK
      have hm:=B8 hm;refine sS [(2,(qZs U.Name))] cf69 (Q5j (p0 := {aa with t:=W}) (aK.bun [1,2,3,0] (Z1 4 10) rfl) Z2 hL1 (h4.mono ch) (h5.mono ch) _ bp) ?_;rintro _ _ _ _ ⟨_,_,c17,rfl,bq,_⟩;refine pu ?_;refine s0 rfl qZt (fun _=>F9 (by kernel_rfl) rfl (u := .agg #[qZs U.Name,iv E.1,iv 0])) rfl (?_);refine s2W [0] ?_;refine obS (r:=Q1v) (l:=([(⟨U.Name,E.1,0⟩:U8)]:List U8)) (css := [[Q16 U.Name.toArray,iv E.1,iv 0]]) bq ⟨(Y0s (x:=(⟨U.Name,E.1,0⟩:U8))  : Q1v.rp _ _ _ _),qZt⟩ ?_;intro _ _ _ c18 _ bt;refine pu ?_;obtain⟨_,bu,hm⟩:=bindS hm;refine s2W [] ?_;refine oaO 1 bt (U3 bu) ?_;intro _ _ _ c19 _ bv;exact lg hm aJ (bv.sel ([1,2,3]++Z1 5 10) rfl)
    have hm:=Q6d hm aJ bh;refine pn ?_;refine sq2 (rsS [0,0,0,1,0,1,0,2,0,0,0,0,0] [0,1,2,3,4,5,6,7,8,9,10,11,12] au fun bP bQ bw => ?_);refine pu ?_;obtain⟨_,_,bz,h7,rfl⟩:=bw.sl 0;obtain⟨_,bB,hm⟩:=bindS hm;refine sS [] cf70 (Q7j (bz.bun ([1,2,3]++Z1 6 7) [4,5] rfl) hL1 h7 _ bB) ?_;rintro _ _ _ _ ⟨rfl,bC,_⟩;refine pn ?_;refine cP cf68 hm (Q1o (bC.bun (Z1 1 11) [] rfl)) ?_ ?_
    · rintro _ _ _ _ _ ⟨rfl,bD,_⟩ hm;have hm:=Q0o hm D O;exact pe hm (bD.sel ([0,1,9,10]++Z1 2 7) rfl)
    rintro _ _ _ _ _ ⟨rfl,bE,_⟩ hm;exact lg hm D (bE.sel ([0,1,9,10]++Z1 2 7) rfl)
  have hm:=Q6d hm D O;have hm:=oI hm; subst hm;refine pn ?_;exact zr hm am

instance : Ctr Tryz.prog 32 (type_of% @Q4h):=⟨@Q4h,cf32⟩
theorem Q2a {p0:Q0} {p1:F2} (hS:Q21 a1 a2 a3 a4 a5 a6 b1 oo1 n1 c1 n2 c2 n3 c3 n4 c4 n5 c5 n6 c6 Z5 H1 T0 g w0 pv1 r1 r2 R p0) (Z2:Ln Y2 Y1 Z5) (hL1:Ln b1 oo1 H1) (h1:Q30 a7 c7 T0 w0 p1) (h2:Q7 a8 c8 T0 w0 p1.Init) : ∀ r,C2 p0 p1=some r →
    Calls Tryz.prog 71 #[pt Y2 Y1,Q75 a7 a8 c7 c8 p1] w0 (exR r (fun r=>U7 T0 w0 (Q78 a2 a3 a4 a5 a6 b1 oo1 n2 c2 n3 c3 n4 c4 n5 c5 n6 c6 Z5 H1 g pv1 r1 r2 R r.1 r.2)) (fun r=>A5 T0 w0 (Q34 a2 a3 a4 a5 a6 b1 oo1 n2 c2 n3 c3 n4 c4 n5 c5 n6 c6 Z5 H1 g pv1 r1 r2 R r.1.pos r.1.e r.2))):=by
  intro r hm;refine enter func71 rfl ntmps71 rfl fun J => ?_;unfold C2 at hm;exact zr hm hS

instance : Ctr Tryz.prog 71 (type_of% @Q2a):=⟨@Q2a,cf71⟩
theorem Q2b {p0:Q0} {p1:Pos} {p2:List UInt8} (hS:Q21 a1 a2 a3 a4 a5 a6 b1 oo1 n1 c1 n2 c2 n3 c3 n4 c4 n5 c5 n6 c6 Z5 H1 T0 g w0 pv1 r1 r2 R p0) (Z2:Ln Y2 Y1 Z5) (hL1:Ln b1 oo1 H1) : ∀ r,L4 p0 p1 p2=some r →
    Calls Tryz.prog 72 #[pt Y2 Y1,Q33 p1,Q16 p2.toArray,.map r1] w0 (exR r (fun r=>U7 T0 w0 fun T w v=>v = .tuple #[]∧Q15 a1 a2 a3 a4 a5 a6 b1 oo1 n1 c1 n2 c2 n3 c3 n4 c4 n5 c5 n6 c6 Z5 H1 T g w pv1 r1 r2 R r) (fun r=>A5 T0 w0 (Q43 a1 a2 a3 a4 a5 a6 b1 oo1 n1 c1 n2 c2 n3 c3 n4 c4 n5 c5 n6 c6 Z5 H1 g pv1 r1 r2 R r.1.pos r.1.e r.2))):=by
  intro r hm;refine enter func72 rfl ntmps72 rfl fun J => ?_;unfold L4 at hm;refine sq2 (bX [iv p1.Line,iv p1.Col] hS ?_);intro _ I _ D;refine pn ?_;refine sq2 (pu ?_);refine pv (Z6g (kk:=p2) (u:=0) rfl rfl (D.getA (i:=8) ⟨rfl,rfl⟩) Q9b underlying67 underlying9 zeroValue3 rfl) (pn ?_);refine sq2 (pu ?_);refine pv (Z6g (kk:=p2) (u:=0) rfl rfl (D.getA (i:=9) ⟨rfl,rfl⟩) Q9b underlying67 underlying9 zeroValue3 rfl) (pn ?_);refine sq2 (blk (sq2 (pu ?_)));refine fkC (d:=34) (c:=(((D3 p0.globals p2).isSome) || ((D3 p0.codes p2).isSome))) 2 [(2,(qZs p2)),(3,.map r1),(5,pt I 0)] rfl (fun hk => ?_) fun J => ?_
  · rcases Bool.eq_false_or_eq_true ((D3 p0.globals p2).isSome) with E | E
    · exact  gF (d0:=32) rfl rfl (by rw [E]; rfl) (pv (O5 rfl E rfl) (wlR (fun J=>hk J _ (by rw [E]; rfl)) ⟨rfl,rfl,rfl,rfl,qZt⟩))
    exact  gT (d0:=32) rfl rfl E (pv (r_mb rfl) (pv (O6 rfl E rfl) (wlR (fun J=>hk J _ (by rw [E]; rfl)) ⟨rfl,rfl,rfl,rfl,qZt⟩)))
  refine cd hm ?_ ?_ <;> intro U hm
  · exact zr hm D
  refine sq2 (pu ?_);refine pv (r_lnM rfl (D.getA (i:=8) ⟨rfl,rfl⟩) underlying67) (cd hm ?_ ?_) <;> intro V hm
  · exact zr hm D
  refine pn ?_;obtain⟨_,K,hm⟩:=bindS hm;refine pu ?_;refine pv (r_lnM rfl (D.getA (i:=8) ⟨rfl,rfl⟩) underlying67) (wl rfl (muM (q:=8) (k:=p2) (u:=(Z3y p0.globals:Int)) D ⟨rfl,rfl⟩ K rfl rfl rfl Q9b underlying67 underlying9 fun W aa O => ?_));have hm:=oI hm; subst hm;refine pn ?_;exact Y0x rfl ⟨_,rfl,_,ch,⟨rfl,(O.sel (Z1 1 11) rfl).unb,qZt⟩⟩

instance : Ctr Tryz.prog 72 (type_of% @Q2b):=⟨@Q2b,cf72⟩
theorem W1 {p0:Z6} {p1} (hS:Q25 a1 n1 c1 Z5 T0 g w0 R p0) (Z2:Ln Y2 Y1 Z5) : ∀ r,B5 p0 p1=some r →
    Calls Tryz.prog 76 #[pt Y2 Y1,iv p1] w0 (U7 T0 w0 fun T w v=>v = .bool r∧Q22 a1 n1 c1 Z5 T g w R p0):=by
  intro r hm;refine enter func76 rfl ntmps76 rfl fun J => ?_;unfold B5 at hm;refine sq2 (pn ?_);refine sq2 (sq2 (pu ?_));refine cB cf110 hm (Q6s (hS.bun [0] [1,2] rfl) Z2) ?_;rintro _ _ _ _ _ ⟨rfl,I,_⟩ hm;refine cd hm ?_ ?_ <;> intro U hm
  · exact sq2 (re hm (I.sel [0,1,2] rfl))
  refine pn ?_;refine sq2 ?_;obtain⟨u1,K,hm⟩:=bindS hm;obtain⟨cs1,O,_⟩:=(I.own (i:=2) ⟨rfl,rfl⟩).v.ixcS K rfl;obtain⟨_,c2,rfl,h1⟩:=C6 O;refine pn ?_;refine sq2 (pu ?_);refine fkC (d:=24) (c:=((u1.Type_.Kind == 1) || (u1.Type_.Kind == 2))) 3 [(5,iv u1.Type_.Kind)] rfl (fun hk => ?_) fun J => ?_
  · rcases Bool.eq_false_or_eq_true (u1.Type_.Kind == 1) with D | D
    · exact  gF2 (d0:=21) rfl rfl (by rw [D]; rfl) (pv (O5 rfl D rfl) (wlR (fun J=>hk J _ (by rw [D]; rfl)) ⟨rfl,rfl,qZt⟩))
    exact  gT (d0:=21) rfl rfl D (pv (r_mi rfl) (gT (d0:=21) rfl rfl D (pv (Q6y rfl rfl rfl) (pv (O6 rfl D rfl) (wlR (fun J=>hk J _ (by rw [D]; rfl)) ⟨rfl,rfl,qZt⟩)))))
  refine pu ?_;refine fkC (d:=28) (c:=(((u1.Type_.Kind == 1) || (u1.Type_.Kind == 2)) || (u1.Type_.Kind == 3))) 3 [] rfl (fun hk => ?_) fun J => ?_
  · rcases Bool.eq_false_or_eq_true ((u1.Type_.Kind == 1) || (u1.Type_.Kind == 2)) with E | E
    · exact  gF2 (d0:=25) rfl rfl (by rw [E]; rfl) (pv (O5 rfl E rfl) (wlR (fun J=>hk J _ (by rw [E]; rfl)) ⟨rfl,qZt⟩))
    exact  gT (d0:=25) rfl rfl E (pv (r_mi rfl) (gT (d0:=25) rfl rfl E (pv (Q6y rfl rfl rfl) (pv (O6 rfl E rfl) (wlR (fun J=>hk J _ (by rw [E]; rfl)) ⟨rfl,qZt⟩)))))
  exact re hm (I.sel [0,1,2] rfl)

instance : Ctr Tryz.prog 76 (type_of% @W1):=⟨@W1,cf76⟩
theorem Q0l {p0:Q0} {p1} (hS:Q21 a1 a2 a3 a4 a5 a6 b1 oo1 n1 c1 n2 c2 n3 c3 n4 c4 n5 c5 n6 c6 Z5 H1 T0 g w0 pv1 r1 r2 R p0) (Z2:Ln Y2 Y1 Z5) (hL1:Ln b1 oo1 H1) : ∀ r,W7 p0 p1=some r →
    Calls Tryz.prog 102 #[pt Y2 Y1,iv p1] w0 (U7 T0 w0 fun T w v=>v=iv r∧Q15 a1 a2 a3 a4 a5 a6 b1 oo1 n1 c1 n2 c2 n3 c3 n4 c4 n5 c5 n6 c6 Z5 H1 T g w pv1 r1 r2 R p0):=by
  intro r hm;refine enter func102 rfl ntmps102 rfl fun J => ?_;unfold W7 at hm;exact zr hm hS

instance : Ctr Tryz.prog 102 (type_of% @Q0l):=⟨@Q0l,cf102⟩
theorem Q2r {p0:Q0} {p1:List UInt8} {p2} (hS:Q21 a1 a2 a3 a4 a5 a6 b1 oo1 n1 c1 n2 c2 n3 c3 n4 c4 n5 c5 n6 c6 Z5 H1 T0 g w0 pv1 r1 r2 R p0) (Z2:Ln Y2 Y1 Z5) (hL1:Ln b1 oo1 H1) : ∀ r,Q1b p0 p1 p2=some r →
    Calls Tryz.prog 73 #[pt Y2 Y1,Q16 p1.toArray,iv p2] w0 (U7 T0 w0 fun T w v=>v = .agg (X0u r).toArray∧Q15 a1 a2 a3 a4 a5 a6 b1 oo1 n1 c1 n2 c2 n3 c3 n4 c4 n5 c5 n6 c6 Z5 H1 T g w pv1 r1 r2 R p0):=by
  intro r hm;refine enter func73 rfl ntmps73 rfl fun J => ?_;unfold Q1b at hm;refine sq2 (aL [qZs [],iv 0,iv 0,iv 0] hS ?_);intro _ _ _ D;refine pn ?_;refine sq2 (rsS [0,0,0,0,1,0,2,0,0,0,1,0,2,0,0,2,0,2] [0,1,2,3,4,5,7,8,9,10,11,13,14,6,12,15,16,17] D fun w2 af E => ?_);obtain⟨I,K,hm⟩:=bindS hm;refine sS [(10,pt b1 oo1)] Q8s (V3 (E.bun ([0,1,2]++Z1 5 7) [3,4] rfl) hL1 _ K) ?_;rintro _ _ _ _ ⟨rfl,O,_⟩;refine pu ?_;obtain⟨U,V,hm⟩:=bindS hm;refine sS [] cf100 (Q1n (O.bun (Z1 0 10) [10,11] rfl) hL1 _ V) ?_;rintro _ _ _ _ ⟨rfl,W,_⟩;refine pu ?_;obtain⟨y3,ab,hm⟩:=bindS hm;refine sS [] cf102 (Q0l (W.bun [0,1] ([2,10,11]++Z1 3 7) rfl) Z2 hL1 _ ab) ?_;rintro _ _ _ _ ⟨rfl,ac,_⟩;refine pu ?_;refine s0 rfl qZt (fun _=>F9 (by kernel_rfl) rfl (u := .agg #[qZs p1,iv I,iv U,iv y3])) rfl (?_);refine s2W [] ?_;refine osT 0 ac ?_;intro _ _ ad;exact re hm (ad.sel (Z1 1 11) rfl)
instance : Ctr Tryz.prog 73 (type_of% @Q2r):=⟨@Q2r,cf73⟩
end Go.Proofs.YtfffghclkmbopaaGreat
