/- That Go functions compute their models. Printed by gen2.py. -/
import Derived.Test.YtbfpdnogfkbiaaaGreatKWdf
import Derived.Test.YtbfpdnogfkbiaaaGreatKWdb
import Derived.Test.YtbfpdnogfkbiaaaGreatKWdc
set_option linter.unusedVariables false
namespace Go.Proofs.YtbfpdnogfkbiaaaGreat
open List renaming length → qQ
open _root_.Go.Proofs.Tryz
set_option maxRecDepth 100000
set_option maxHeartbeats 8000000
attribute [local irreducible] wpList wpQuiet Code.wp
variable {g:World} {T0:Nat→Prop} {w0:World} {R:List Y9}
variable {b1 b2 Z9 Q0l Z8t Z8s Z9v c1 c2 c3 c4 c5 c6 c7 c8 c9 c10 c11 c12 c13 n1 n2 n3 n4 n5 n6 n7 Z8 Q0k Z7z Z7y Z9i oo1 oo2:Nat} {H1 H2 Z5 H6 Z5w Z5v Z8v:List Value→Y9} {a1 a2 a3 a4 a5 a6 a7 a8 a9 a10 a11 a12 a13:OA} {r1 r2:Option Nat} {pv1:Value}
attribute [local irreducible] N2 S0 execOp Program.underlying sizeOf isAgg zeroValue

theorem sp3 : ∀ n,Sp3 (I7 n)
  | 0=>⟨(by unfold Q5p; intros; rename_i h; cases (show (none:Option _)=some _ from h)),(by unfold Q3x; intros; rename_i h; cases (show (none:Option _)=some _ from h)),(by unfold Q5l; intros; rename_i h; cases (show (none:Option _)=some _ from h)),(by unfold Q7b; intros; rename_i h; cases (show (none:Option _)=some _ from h)),(by unfold Q4b; intros; rename_i h; cases (show (none:Option _)=some _ from h)),(by unfold Q5n; intros; rename_i h; cases (show (none:Option _)=some _ from h)),(by unfold Q4c; intros; rename_i h; cases (show (none:Option _)=some _ from h)),(by unfold Q6z; intros; rename_i h; cases (show (none:Option _)=some _ from h)),(by unfold Q7a; intros; rename_i h; cases (show (none:Option _)=some _ from h)),(by unfold Q3y; intros; rename_i h; cases (show (none:Option _)=some _ from h)),(by unfold Q6x; intros; rename_i h; cases (show (none:Option _)=some _ from h)),(by unfold Q6y; intros; rename_i h; cases (show (none:Option _)=some _ from h)),(by unfold Q5k; intros; rename_i h; cases (show (none:Option _)=some _ from h))⟩
  | n+1=>⟨Z8p (sp3 n),Z7g (sp3 n),Z8l (sp3 n),Z9t (sp3 n),Z7k (sp3 n),Z8m (sp3 n),Z7l (sp3 n),Z9r (sp3 n),Z9s (sp3 n),Z7h (sp3 n),Z9p (sp3 n),Z9q (sp3 n),Z8k (sp3 n)⟩
theorem Q8j:Q5p U9:=(sp3 NN).U9
theorem Z6p:Q3x V3:=(sp3 NN).V3
theorem Y8k:Q5l D8:=(sp3 NN).D8
theorem Y9w:Q7b F4:=(sp3 NN).F4
theorem Y7u:Q4b D3:=(sp3 NN).D3
theorem Y8l:Q5n E4:=(sp3 NN).E4
theorem Y7v:Q4c D4:=(sp3 NN).D4
theorem Y9u:Q6z P7:=(sp3 NN).P7
theorem Y9v:Q7a P8:=(sp3 NN).P8
theorem Y7r:Q3y E9:=(sp3 NN).E9
theorem Y9t:Q6x P6:=(sp3 NN).P6
theorem Z8n:Q6y K7:=(sp3 NN).K7
theorem G7:Q5k Z6:=(sp3 NN).Z6

theorem Z2d {p0} (hS:Sep g T0 w0 [Y6 R])  : ∀ r,Q4z p0=some r →
    Cl 184 #[iv p0] w0 (Q37 T0 w0 g R r):=by
  intro r hm;refine enter func184 rfl ntmps184 rfl fun J => ?_;unfold Q4z at hm;refine qN ?_;refine sq2 (qN ?_);refine blk (sq2 (cd hm ?_ ?_)) <;> intro ac hm
  · exact sq2 (re hm (hS.sE [0]))
  refine N5 hm (fun O a D => ∃ E I,JR (nf 15) g T0 w0 a D E (O I=some r) [(3,iv p0),(6,.bool I)] [Y6 R]) (fun O hm => ?_) ?_
  · exact zr hm hS
  rintro _ D ⟨E,I,J,hm,rfl,U,_⟩;refine cd hm ?_ ?_ <;> intro ad hm
  · exact sq2 (re hm (U.sE [0]))
  refine N5 hm (fun V a W => ∃ T2 K,JR (nf 15) g E D a W T2 (V K=some r) [(3,iv p0),(9,.bool K)] [Y6 R]) (fun V hm => ?_) ?_
  · exact zr hm U
  rintro _ W ⟨T2,K,J,hm,rfl,ab,_⟩;exact zr hm ab

instance : Ct 184 @Z2d:=⟨@Z2d,cf184⟩
def Z1u (F:Y5→Option (Bool)):Prop := ∀ {g:World} {T0:TP} {w0:World} {R:List Y9} {p0:Y5} {a1 c1} (hS:Sep g T0 w0 [Y6 R]) (h1:Q11 a1 c1 T0 w0 p0.Kids),∀ r,F p0=some r →
    Cl 151 #[Q54 a1 c1 p0] w0 (Q26 T0 w0 g R r)
structure Sp4 (G:Rec4):Prop where
  E6:Z1u G.E6
theorem Y4u {G:Rec4} (hG:Sp4 G):Z1u (Q3d G):=by
  intro g _ _ R D a1 c1 hS h1 r hm;refine enter func151 rfl ntmps151 rfl fun J => ?_;unfold Q3d at hm;refine sq2 (bX (V8 D a1 c1) hS ?_);intro _ _ _ W;refine kE ?_;refine sq2 (rsS [0,1,0,0,1,2,0] [0,1,2,3,4,5,6] W fun w2 ai aa => ?_);obtain⟨_,ab,hm⟩:=Y0 hm;refine sS [(1,sv a1 D.Kids c1)] cf184 (Z2d (aa.bE [0,1] []) _ ab) ?_;rintro _ T1 w3 _ ⟨rfl,I,_⟩;refine cd hm ?_ ?_ <;> intro aj hm
  · exact sq2 (re hm (I.sE [1]))
  refine kC ?_;refine lpJ hm (fun K O m a U => ∃ V E,JR (nf 23) g T1 w3 a U V (X5 K m E=some O) [(13,sv a1 D.Kids c1),(14,iv (qQ D.Kids:Int)),(15,iv E)] [Y6 R]) (fun _ _ h=>je h (I.sE [1])) ?_;rintro K ae O _ _ _ U ⟨V,E,J,af,rfl,ag,_⟩;obtain⟨m1,_,rfl,hm,_⟩:=lrE af ae;have ak:Ctr Tryz.prog 151 (type_of% @hG.E6):=⟨@hG.E6,cf151⟩;have dd:KD [(5,[4])]:=⟨trivial⟩;exact zr hm ag
theorem sp4 : ∀ n,Sp4 (Y4m n)
  | 0=>⟨(by unfold Z1u; intros; rename_i h; cases (show (none:Option _)=some _ from h))⟩
  | n+1=>⟨Y4u (sp4 n)⟩
theorem Y4g:Z1u E6:=(sp4 NN).E6

theorem Y3i {p0 p1} (hS:Sep g T0 w0 [Y6 R])  : ∀ r,Y6b p0 p1=some r →
    Cl 201 #[.int .u32 p0,.int .u32 p1] w0 (Q40 T0 w0 g R r):=by
  intro r hm;refine enter func201 rfl ntmps201 rfl fun J => ?_;unfold Y6b at hm;exact zr hm hS

instance : Ct 201 @Y3i:=⟨@Y3i,cf201⟩
theorem Y3d {p0 p1} (hS:Sep g T0 w0 [Y6 R])  : ∀ r,Y3e p0 p1=some r →
    Cl 202 #[.int .u32 p0,.int .u32 p1] w0 (Q40 T0 w0 g R r):=by
  intro r hm;refine enter func202 rfl ntmps202 rfl fun J => ?_;unfold Y3e at hm;exact zr hm hS

instance : Ct 202 @Y3d:=⟨@Y3d,cf202⟩
theorem Y3g {p0 p1} (hS:Sep g T0 w0 [Y6 R])  : ∀ r,Y6a p0 p1=some r →
    Cl 203 #[.int .u32 p0,.int .u32 p1] w0 (Q40 T0 w0 g R r):=by
  intro r hm;refine enter func203 rfl ntmps203 rfl fun J => ?_;unfold Y6a at hm;exact zr hm hS

instance : Ct 203 @Y3g:=⟨@Y3g,cf203⟩
theorem Y0b {p0 p1} (hS:Sep g T0 w0 [Y6 R])  : ∀ r,Z7p p0 p1=some r →
    Cl 211 #[iv p0,iv p1] w0 (Q37 T0 w0 g R r):=by
  intro r hm;refine enter func211 rfl ntmps211 rfl fun J => ?_;unfold Z7p at hm;exact zr hm hS

instance : Ct 211 @Y0b:=⟨@Y0b,cf211⟩
theorem Z8w {p0 p1} (hS:Sep g T0 w0 [Y6 R])  : ∀ r,Z5y p0 p1=some r →
    Cl 210 #[.int .u32 p0,.int .u32 p1,.func (.func 211) #[] #[]] w0 (Q37 T0 w0 g R r):=by
  intro r hm;refine enter func210 rfl ntmps210 rfl fun J => ?_;unfold Z5y at hm;exact zr hm hS

instance : Ct 210 @Z8w:=⟨@Z8w,cf210⟩
theorem Y3h {p0 p1} (hS:Sep g T0 w0 [Y6 R])  : ∀ r,Y0c p0 p1=some r →
    Cl 204 #[.int .u32 p0,.int .u32 p1] w0 (Q40 T0 w0 g R r):=by
  intro r hm;refine enter func204 rfl ntmps204 rfl fun J => ?_;unfold Y0c at hm;exact zr hm hS

instance : Ct 204 @Y3h:=⟨@Y3h,cf204⟩
theorem Z9z {p0 p1} (hS:Sep g T0 w0 [Y6 R])  : ∀ r,Z7o p0 p1=some r →
    Cl 212 #[iv p0,iv p1] w0 (Q37 T0 w0 g R r):=by
  intro r hm;refine enter func212 rfl ntmps212 rfl fun J => ?_;unfold Z7o at hm;exact zr hm hS

instance : Ct 212 @Z9z:=⟨@Z9z,cf212⟩
theorem Z5x {p0 p1} (hS:Sep g T0 w0 [Y6 R])  : ∀ r,Z4a p0 p1=some r →
    Cl 210 #[.int .u32 p0,.int .u32 p1,.func (.func 212) #[] #[]] w0 (Q37 T0 w0 g R r):=by
  intro r hm;refine enter func210 rfl ntmps210 rfl fun J => ?_;unfold Z4a at hm;exact zr hm hS

instance : Ct 210 @Z5x:=⟨@Z5x,cf210⟩
theorem Y3f {p0 p1} (hS:Sep g T0 w0 [Y6 R])  : ∀ r,Y0a p0 p1=some r →
    Cl 205 #[.int .u32 p0,.int .u32 p1] w0 (Q40 T0 w0 g R r):=by
  intro r hm;refine enter func205 rfl ntmps205 rfl fun J => ?_;unfold Y0a at hm;exact zr hm hS

instance : Ct 205 @Y3f:=⟨@Y3f,cf205⟩
theorem Y2c {p0 p1} (hS:Sep g T0 w0 [Y6 R])  : ∀ r,Z6r p0 p1=some r →
    Cl 206 #[.int .u32 p0,.int .u32 p1] w0 (Q40 T0 w0 g R r):=by
  intro r hm;refine enter func206 rfl ntmps206 rfl fun J => ?_;unfold Z6r at hm;refine qN ?_;refine sq2 ?_;obtain⟨_,D,hm⟩:=Y0 hm;have D:=Y3s D;refine pu ?_;exact pv (Y9b rfl rfl D) (re hm (hS.sE [0]))

instance : Ct 206 @Y2c:=⟨@Y2c,cf206⟩
theorem Z8x {p0 p1} (hS:Sep g T0 w0 [Y6 R])  : ∀ r,Z4e p0 p1=some r →
    Cl 207 #[.int .u32 p0,.int .u32 p1] w0 (Q40 T0 w0 g R r):=by
  intro r hm;refine enter func207 rfl ntmps207 rfl fun J => ?_;unfold Z4e at hm;refine qN ?_;refine sq2 ?_;obtain⟨_,D,hm⟩:=Y0 hm;have D:=Y3s D;refine pu ?_;exact pv (Y6h rfl rfl D) (re hm (hS.sE [0]))

instance : Ct 207 @Z8x:=⟨@Z8x,cf207⟩
theorem Y2l {p0} (hS:Sep g T0 w0 [Y6 R])  : ∀ r,Q9p p0=some r →
    Cl 186 #[.bool p0] w0 (Q40 T0 w0 g R r):=by
  intro r hm;refine enter func186 rfl ntmps186 rfl fun J => ?_;unfold Q9p at hm;exact zr hm hS

instance : Ct 186 @Y2l:=⟨@Y2l,cf186⟩
theorem Y3b {p0} (hS:Sep g T0 w0 [Y6 R])  : ∀ r,Y3c p0=some r →
    Cl 215 #[.bool p0] w0 (Q40 T0 w0 g R r):=by
  intro r hm;refine enter func215 rfl ntmps215 rfl fun J => ?_;unfold Y3c at hm;exact zr hm hS

instance : Ct 215 @Y3b:=⟨@Y3b,cf215⟩
theorem Y2b {p0 p1} (hS:Sep g T0 w0 [Y6 R])  : ∀ r,Z2f p0 p1=some r →
    Cl 213 #[.int .u32 p0,.int .u32 p1] w0 (Q40 T0 w0 g R r):=by
  intro r hm;refine enter func213 rfl ntmps213 rfl fun J => ?_;unfold Z2f at hm;exact zr hm hS

instance : Ct 213 @Y2b:=⟨@Y2b,cf213⟩
theorem Z6h {p0 p1 p2} (hS:Sep g T0 w0 [Y6 R])  : ∀ r,Z1o p0 p1 p2=some r →
    Cl 208 #[iv p0,.int .u32 p1,.int .u32 p2] w0 (Q73 T0 w0 g R r.1 r.2):=by
  intro r hm;refine enter func208 rfl ntmps208 rfl fun J => ?_;unfold Z1o at hm;exact zr hm hS

instance : Ct 208 @Z6h:=⟨@Z6h,cf208⟩
theorem Z9e {p0 p1 p2} (hS:Sep g T0 w0 [Y6 R])  : ∀ r,Q7d p0 p1 p2=some r →
    Cl 185 #[iv p0,.int .u32 p1,.int .u32 p2] w0 (Q73 T0 w0 g R r.1 r.2):=by
  intro r hm;refine enter func185 rfl ntmps185 rfl fun J => ?_;unfold Q7d at hm;refine qN ?_;refine sq2 (qN ?_);refine blk (sq2 (cd hm ?_ ?_)) <;> intro U hm
  · exact zr hm hS
  refine sq2 (cd hm ?_ ?_) <;> intro V hm
  · exact zr hm hS
  refine sq2 (cd hm ?_ ?_) <;> intro W hm
  · exact zr hm hS
  refine N5 hm (fun E a I => ∃ K D,JR (nf 81) g T0 w0 a I K (E D=some r) [(0,iv p0),(1,.int .u32 p1),(2,.int .u32 p2),(8,iv p0),(24,.bool D)] [Y6 R]) (fun E hm => ?_) ?_
  · exact zr hm hS
  rintro _ I ⟨K,D,J,hm,rfl,O,_⟩;exact zr hm O

instance : Ct 185 @Z9e:=⟨@Z9e,cf185⟩
def Z4z (F:Y5→Option (Int×Int)):Prop := ∀ {g:World} {T0:TP} {w0:World} {R:List Y9} {p0:Y5} {a1 c1} (hS:Sep g T0 w0 [Y6 R]) (h1:Q11 a1 c1 T0 w0 p0.Kids),∀ r,F p0=some r →
    Cl 152 #[Q54 a1 c1 p0] w0 (Q73 T0 w0 g R r.1 r.2)
structure Sp5 (G:Rec5):Prop where
  C3:Z4z G.C3
theorem Y7q {G:Rec5} (hG:Sp5 G):Z4z (Z3b G):=by
  intro g _ _ R I a1 c1 hS h1 r hm;refine enter func152 rfl ntmps152 rfl fun J => ?_;unfold Z3b at hm;refine sq2 (bX (V8 I a1 c1) hS ?_);intro _ E _ K;refine pn ?_;refine sq2 (sq2 (cd hm ?_ ?_)) <;> intro am hm
  · exact sq2 (re hm (K.sE [1]))
  refine pn ?_;refine sq2 ?_;obtain⟨u1,ag,hm⟩:=Y0 hm;obtain⟨cs1,ah,_,hT1⟩:=ixS K ag h1;obtain⟨_,c2,rfl,h2⟩:=H0 ah;refine pu ?_;refine cB cf152 hm (hG.C3 (K.bE [0,1] []) h2) ?_;rintro U _ V W _ ⟨rfl,D,_⟩ hm;refine pn ?_;refine sq2 (sq2 (cd hm ?_ ?_)) <;> intro an hm
  · exact sq2 (re hm (D.sE [1]))
  refine pn ?_;refine N5 hm (fun aa a w3 => ∃ T2,JR (nf 93) g V W a w3 T2 (aa ()=some r) [(1,pt E 0),(4,.int .u32 U.1)] [Q77 a1 E c1 I,Y6 R]) (fun aa hm => ?_) ?_
  · refine qN ?_;refine blk (sq2 (cd hm ?_ ?_)) <;> intro ao hm
    · exact zr hm D
    refine sq2 (cd hm ?_ ?_) <;> intro ap hm
    · exact zr hm D
    refine sq2 (cd hm ?_ ?_) <;> intro aq hm
    · have ai:Ctr Tryz.prog 152 (type_of% @hG.C3):=⟨@hG.C3,cf152⟩;exact zr hm D
    refine N5 hm (fun ad a w7 => ∃ T6 O,JR (nf 93) g V W a w7 T6 (ad O=some r) [(1,pt E 0),(4,.int .u32 U.1),(55,.bool O)] [Q77 a1 E c1 I,Y6 R]) (fun ad hm => ?_) ?_
    · exact zr hm D
    rintro _ w7 ⟨T6,O,J,hm,rfl,aj,_⟩;exact zr hm aj
  rintro _ w3 ⟨T2,J,hm,rfl,ak,_⟩;have ai:Ctr Tryz.prog 152 (type_of% @hG.C3):=⟨@hG.C3,cf152⟩;exact zr hm ak
theorem sp5 : ∀ n,Sp5 (rec5 n)
  | 0=>⟨(by unfold Z4z; intros; rename_i h; cases (show (none:Option _)=some _ from h))⟩
  | n+1=>⟨Y7q (sp5 n)⟩
theorem Y7c:Z4z C3:=(sp5 NN).C3

theorem Z5t {p0:Y5} (hS:Sep g T0 w0 [Y6 R]) (h1:Q11 a1 c1 T0 w0 p0.Kids) : ∀ r,Z5u p0=some r →
    Cl 110 #[Q54 a1 c1 p0] w0 (Q73 T0 w0 g R r.1 r.2):=by
  intro r hm;refine enter func110 rfl ntmps110 rfl fun J => ?_;unfold Z5u at hm;refine sq2 (bX (V8 p0 a1 c1) hS ?_);intro _ _ E I;refine kB ?_;refine cB cf151 hm (Y4g (I.bE [0,1] []) (h1.mono E)) ?_;rintro _ _ _ _ _ ⟨rfl,D,_⟩ hm;refine cd hm ?_ ?_ <;> intro O hm
  · exact sq2 (re hm (D.sE [1]))
  refine kA ?_;refine cB cf152 hm (Y7c (D.bE [1] []) (h1.mono ch)) ?_;rintro _ _ _ _ _ ⟨rfl,K,_⟩ hm;exact re hm (K.sE [0])

instance : Ct 110 @Z5t:=⟨@Z5t,cf110⟩
theorem Q9f {p0:Q0} {p1:N0} {p2} (hS:Q33 a1 a2 a3 a4 a5 a6 b1 oo1 n1 c1 n2 c2 n3 c3 n4 c4 n5 c5 n6 c6 Z5 H1 T0 g w0 pv1 r1 r2 R p0) (Z3:Ln Z9 Z8 Z5) (hL1:Ln b1 oo1 H1) (h1:Q15 a7 c7 T0 w0 p1.Dims) (h2:Q10 a8 c8 T0 w0 p1.Init) : ∀ r,Q5c p0 p1 p2=some r →
    Cl 72 #[pt Z9 Z8,Q105 a7 a8 c7 c8 p1,iv p2] w0 (exR r (fun r=>K2 T0 w0 fun T w v => ∃ a24 n14 c24 a25 n15 c25,v = .slice a24 n14 c24∧Sep g T w (R++(X3 r.2 Z5 H1 b1 oo1 a25 n15 c25 a2 n2 c2 a3 n3 c3 a4 n4 c4 r1 r2 a5 n5 c5 a6 n6 c6 pv1 ++ [Q20 pv1 r.2,Q102 a24 n14 c24 r.1]))∧True) (fun r=>C7 T0 w0 (Q6 a2 a3 a4 a5 a6 b1 oo1 n2 c2 n3 c3 n4 c4 n5 c5 n6 c6 Z5 H1 g pv1 r1 r2 R r.1.pos r.1.e r.2))):=by
  intro r hm;refine enter func72 rfl ntmps72 rfl fun J => ?_;unfold Q5c at hm;refine sq2 (bX (Y1k p1 a7 c7 a8 c8) hS ?_);intro _ _ _ bK;refine kA ?_;refine cB Z1i hm (V4 (bK.bE ([0,1,2]++Z2 5 8) [3,4]) hL1) ?_;rintro _ _ _ _ _ ⟨rfl,bL,_⟩ hm;obtain⟨u1,bM,hm⟩:=Y0 hm;refine wl rfl (msS (r:=(J6 .u8)) bL rfl rfl underlying99 el5 zeroValue5 rfl bM fun w3 a9 n7 c9 cV bN=>pn ?_);refine sq2 (qU ?_);refine cP cf106 hm (Q2z (bN.bE [0,2,11] ([3,12,13]++Z2 4 7)) Z3 hL1 (h1.mono ch) (h2.mono ch)) ?_ ?_
  · exact zk
  rintro y2 _ T2 w4 _ ⟨az,c10,rfl,bQ,h3,_⟩ hm;refine pn ?_;refine lpJ hm (fun bh o1 m a w5 => ∃(T3:_) (I:Z7) (E:Q0) (x1:List Int) (bk:_) (n8:_) (c11:_) (W:_),JR (nf 74) g T2 w4 a w5 T3 (X5 bh m (x1,W,E,I)=some o1) [(0,pt Z9 Z8),(2,iv p2),(7,.slice a9 n7 c9),(25,sv az y2 c10),(26,iv (qQ y2:Int)),(27,iv W)] ([Q102 a9 n7 c9 x1,Y6 R,Q20 pv1 E]++X3 ({E with t:=I}) Z5 H1 b1 oo1 bk n8 c11 a2 n2 c2 a3 n3 c3 a4 n4 c4 r1 r2 a5 n5 c5 a6 n6 c6 pv1)) (fun _ _ h=>je h (bQ.sE (Z2 0 13))) ?_;rintro bh bT o1 O _ _ w5 ⟨T3,I,E,x1,bk,n8,c11,W,J,bU,rfl,aB,_⟩;obtain⟨m1,z1,rfl,hm,K⟩:=lrE bU bT;refine qN ?_;refine sq2 (cd hm ?_ ?_) <;> intro cW hm
  · refine kE ?_;refine blk (sq2 ?_);obtain⟨u2,bY,hm⟩:=Y0 hm;obtain⟨cs1,bZ,_,hT1⟩:=ixS aB bY h3;obtain⟨b0,c12,rfl,D⟩:=G4 bZ;refine aL zv2 aB ?_;intro _ b4 _ b3;refine sT 0 b3 ?_;intro w7 _ b9;refine pn ?_;refine N5 hm (fun bn a w8 => ∃(T4:_) (ah:Z7) (U:Q0) (aE:_) (n9:_) (c13:_) (b5:_) (au:Y5) (aI:_) (c14:_),JR (nf 74) g T3 w7 a w8 T4 (bn U ah au=some z1) [(0,pt Z9 Z8),(2,iv p2),(7,.slice a9 n7 c9),(8,iv W),(9,pt b4 0),(10,pt b5 0),(25,sv az y2 c10),(26,iv (qQ y2:Int)),(27,iv W)] ([Q32 b0 b4 c12 u2,Q102 a9 n7 c9 x1,Y6 R,Q20 pv1 U]++(X3 ({U with t:=ah}) Z5 H1 b1 oo1 aE n9 c13 a2 n2 c2 a3 n3 c3 a4 n4 c4 r1 r2 a5 n5 c5 a6 n6 c6 pv1 ++ [Q77 aI b5 c14 au]))∧Q11 aI c14 T4 w8 au.Kids) (fun bn hm => ?_) ?_
    · refine rtPS [0,1,0,1,2,0,0,2,2,2,2] [0,1,2,3,5,6,4,7,8,9,10] b9 (U4 (L3 (U4 (U4 (L3 (U4 (N8))))))) fun w9 cY ai=>pu ?_;obtain⟨y3,aj,hm⟩:=Y0 hm
      rcases y3 with e1 | y3
      · have hm:=J1 hm;refine tF [4,9] ?_;refine⟨?_,?_,trivial⟩
        · refine brW [7,8,9,10] [0] ?_;refine oP M7 (G7 (p0 := {E with t:=I}) (ai.bE [0,1,2] (Z2 4 10 ++ [3])) Z3 hL1 (D.mono ch) _ aj) ?_;rintro _ cc _ _ ⟨ce,cf,c23,rfl,cg,_⟩;have hm:=S4 hm K O;exact pe hm (cg.sE (Z2 2 12))
        refine brW [4,7,8,10] [] ?_;refine oaL zv3 ai ?_;intro aJ b7 aM aa;refine t1W [4] [7,8,10] [0] ?_;refine oP M7 (G7 (p0 := {E with t:=I}) (aa.bE (Z2 0 4) (Z2 5 10 ++ [4])) Z3 hL1 (D.mono ch) _ aj) ?_;rintro _ cc ci cj ⟨ce,cf,c23,rfl,aN,_⟩;have hm:=S4 hm K O;exact pe hm (aN.sE (Z2 3 12))
      have hm:=N4 hm;obtain⟨_,ak,hm⟩:=Y0 hm;obtain⟨y5,V,hm⟩:=Y0 hm
      rcases y5 with e2 | y5
      · have hm:=J1 hm;refine tF [4,9] ?_;refine⟨?_,?_,trivial⟩
        · refine brW [7,8,9,10] [0] ?_;refine oS M7 (G7 (p0 := {E with t:=I}) (ai.bE [0,1,2] (Z2 4 10 ++ [3])) Z3 hL1 (D.mono ch) _ aj) ?_;rintro _ T8 cl cm ⟨cn,c18,co,cp,c19,rfl,av,h8,_⟩;refine tF [7,9] ?_;refine⟨?_,?_,trivial⟩
          · refine brW [8,9,10] [] ?_;refine oS Y2m (F3 (av.bE [0,1,2,13] (Z2 3 10)) Z3 hL1 _ ak) ?_;rintro _ T9 bt aP ⟨rfl,am,_⟩;refine tF [8,9] ?_;refine⟨?_,?_,trivial⟩
            · refine brW [9,10] [0] ?_;refine oP Z4v (V9 (am.bE (Z2 0 4) (Z2 4 10)) Z3 hL1 (D.mono ch) (h8.mono aP) _ V) ?_;rintro _ aQ _ _ ⟨rfl,cq,_⟩;have hm:=S4 hm K O;exact pe hm (cq.sE ([2]++Z2 4 10 ++ [3]))
            refine brW [8,10] [] ?_;refine oaL zv3 am ?_;intro bu b7 aR ap;refine t1W [8] [10] [0] ?_;refine oP Z4v (V9 (ap.bE (Z2 0 5) (Z2 5 10)) Z3 hL1 (D.mono ch) (h8.mono ch) _ V) ?_;rintro _ aQ aJ aM ⟨rfl,aa,_⟩;have hm:=S4 hm K O;exact pe hm (aa.sE ([3]++Z2 5 10 ++ [4]))
          refine brW [7,8,10] [] ?_;refine oaL zv3 av ?_;intro bt b7 aP am;refine t1W [7] [8,10] [] ?_;refine oS Y2m (F3 (am.bE [0,1,2,3,14] (Z2 4 10)) Z3 hL1 _ ak) ?_;rintro _ T9 bu aR ⟨rfl,ap,_⟩;refine t1W [8] [10] [0] ?_;refine oP Z4v (V9 (ap.bE (Z2 0 5) (Z2 5 10)) Z3 hL1 (D.mono ch) (h8.mono ch) _ V) ?_;rintro _ aQ aJ aM ⟨rfl,aa,_⟩;have hm:=S4 hm K O;exact pe hm (aa.sE ([3]++Z2 5 10 ++ [4]))
        refine brW [4,7,8,10] [] ?_;refine oaL zv3 ai ?_;intro cl b7 cm av;refine t1W [4] [7,8,10] [0] ?_;refine oS M7 (G7 (p0 := {E with t:=I}) (av.bE (Z2 0 4) (Z2 5 10 ++ [4])) Z3 hL1 (D.mono ch) _ aj) ?_;rintro _ T8 bt aP ⟨cn,c18,co,cp,c19,rfl,am,h8,_⟩;refine t1W [7] [8,10] [] ?_;refine oS Y2m (F3 (am.bE [0,1,2,3,14] (Z2 4 10)) Z3 hL1 _ ak) ?_;rintro _ T9 bu aR ⟨rfl,ap,_⟩;refine t1W [8] [10] [0] ?_;refine oP Z4v (V9 (ap.bE (Z2 0 5) (Z2 5 10)) Z3 hL1 (D.mono ch) (h8.mono aR) _ V) ?_;rintro _ aQ aJ aM ⟨rfl,aa,_⟩;have hm:=S4 hm K O;exact pe hm (aa.sE ([3]++Z2 5 10 ++ [4]))
      have hm:=N4 hm;refine tF [4,9] ?_;refine⟨?_,?_,trivial⟩
      · refine brW [7,8,9,10] [0] ?_;refine oS M7 (G7 (p0 := {E with t:=I}) (ai.bE [0,1,2] (Z2 4 10 ++ [3])) Z3 hL1 (D.mono ch) _ aj) ?_;rintro _ T5 ct cu ⟨cv,c15,cw,cy,c16,rfl,aw,h6,_⟩;refine tF [7,9] ?_;refine⟨?_,?_,trivial⟩
        · refine brW [8,9,10] [] ?_;refine oS Y2m (F3 (aw.bE [0,1,2,13] (Z2 3 10)) Z3 hL1 _ ak) ?_;rintro _ T6 bw aS ⟨rfl,an,_⟩;refine tF [8,9] ?_;refine⟨?_,?_,trivial⟩
          · refine brW [9,10] [0] ?_;refine oS Z4v (V9 (an.bE (Z2 0 4) (Z2 4 10)) Z3 hL1 (D.mono ch) (h6.mono aS) _ V) ?_;rintro _ T7 aU ax ⟨aV,c17,rfl,ab,h7,_⟩;refine t1W [9] [10] [] ?_;refine oaL zv3 ab ?_;intro aX b6 aZ ac;refine t1W [10] [] [] ?_;refine osT 0 ac ?_;intro ba be ad;refine pu ?_;exact je hm (ad.sE (Z2 1 14 ++ [0]))
          refine brW [8,10] [] ?_;refine oaL zv3 an ?_;intro aU b6 ax ab;refine t1W [8] [10] [0] ?_;refine oS Z4v (V9 (ab.bE (Z2 0 5) (Z2 5 10)) Z3 hL1 (D.mono ch) (h6.mono ch) _ V) ?_;rintro _ T7 aX aZ ⟨aV,c17,rfl,ac,h7,_⟩;refine t1W [10] [] [] ?_;refine osT 0 ac ?_;intro ba be ad;refine pu ?_;exact je hm (ad.sE (Z2 1 14 ++ [0]))
        refine brW [7,8,10] [] ?_;refine oaL zv3 aw ?_;intro bw b6 aS an;refine t1W [7] [8,10] [] ?_;refine oS Y2m (F3 (an.bE [0,1,2,3,14] (Z2 4 10)) Z3 hL1 _ ak) ?_;rintro _ T6 aU ax ⟨rfl,ab,_⟩;refine t1W [8] [10] [0] ?_;refine oS Z4v (V9 (ab.bE (Z2 0 5) (Z2 5 10)) Z3 hL1 (D.mono ch) (h6.mono ch) _ V) ?_;rintro _ T7 aX aZ ⟨aV,c17,rfl,ac,h7,_⟩;refine t1W [10] [] [] ?_;refine osT 0 ac ?_;intro ba be ad;refine pu ?_;exact je hm (ad.sE (Z2 1 14 ++ [0]))
      refine brW [4,7,8,10] [] ?_;refine oaL zv3 ai ?_;intro ct b6 cu aw;refine t1W [4] [7,8,10] [0] ?_;refine oS M7 (G7 (p0 := {E with t:=I}) (aw.bE (Z2 0 4) (Z2 5 10 ++ [4])) Z3 hL1 (D.mono ch) _ aj) ?_;rintro _ T5 bw aS ⟨cv,c15,cw,cy,c16,rfl,an,h6,_⟩;refine t1W [7] [8,10] [] ?_;refine oS Y2m (F3 (an.bE [0,1,2,3,14] (Z2 4 10)) Z3 hL1 _ ak) ?_;rintro _ T6 aU ax ⟨rfl,ab,_⟩;refine t1W [8] [10] [0] ?_;refine oS Z4v (V9 (ab.bE (Z2 0 5) (Z2 5 10)) Z3 hL1 (D.mono ch) (h6.mono ax) _ V) ?_;rintro _ T7 aX aZ ⟨aV,c17,rfl,ac,h7,_⟩;refine t1W [10] [] [] ?_;refine osT 0 ac ?_;intro ba be ad;refine pu ?_;exact je hm (ad.sE (Z2 1 14 ++ [0]))
    rintro _ w8 ⟨T4,ah,U,aE,n9,c13,b5,au,aI,c14,⟨J,hm,rfl,aN,_⟩,h5⟩;refine qU ?_;refine cB cf110 hm (Z5t (aN.bE (Z2 0 14) []) h5) ?_;rintro y6 _ _ ci cj ⟨rfl,cA,_⟩ hm;refine kA ?_;refine cP cf66 hm (Q1y (cA.bE (Z2 1 13) [])) ?_ ?_
    · rintro _ _ _ _ _ ⟨rfl,cC,_⟩ hm;have hm:=S4 hm K O;exact pe hm (cC.sE ([1]++Z2 3 10 ++ [2]))
    rintro _ _ _ _ _ ⟨rfl,cD,_⟩ hm;refine kA ?_;refine cB Y2m hm (F3 (p0 := {U with t:=ah}) (cD.bE [0,1,2] (Z2 3 10)) Z3 hL1) ?_;rintro _ _ _ _ _ ⟨rfl,cE,_⟩ hm;refine cB cf105 hm (W9 (p0 := {U with t:=ah}) (cE.bE [0,1,2] (Z2 3 10)) Z3 hL1) ?_;rintro y9 _ cF cG _ ⟨rfl,cI,_⟩ hm;refine kD ?_;refine lpJ hm (fun bB o2 m a bD => ∃(bF:_) (bf:List Int) (ay:_),JR (nf 74) g cF cG a bD bF (X5 bB m (bf,ay)=some o2) [(0,pt Z9 Z8),(2,iv p2),(7,.slice a9 n7 c9),(8,iv W),(11,.int .u32 y6.1),(13,iv y9),(25,sv az y2 c10),(26,iv (qQ y2:Int)),(27,iv W),(55,iv y9),(56,iv ay)] ([Q102 a9 n7 c9 bf,Y6 R,Q20 pv1 U]++X3 ({U with t:=ah}) Z5 H1 b1 oo1 aE n9 c13 a2 n2 c2 a3 n3 c3 a4 n4 c4 r1 r2 a5 n5 c5 a6 n6 c6 pv1)) (fun _ _ h=>je h (cI.sE (Z2 0 13))) ?_;rintro bB cJ o2 cK _ _ bD ⟨bF,bf,ay,J,cL,rfl,bG,_⟩;obtain⟨_,_,rfl,hm,bI⟩:=lrE cL cJ;refine qN ?_;refine sq2 (cd hm ?_ ?_) <;> intro db hm
    · refine kE ?_;refine blk (qN ?_);obtain⟨_,bg,hm⟩:=Y0 hm;have bg:=Y3s bg;obtain⟨u5,cO,hm⟩:=Y0 hm;obtain⟨u6,bJ,hm⟩:=Y0 hm;obtain rfl:u5=u6:=oI (cO.symm.trans bJ);refine pu ?_;refine pv (Y6h rfl rfl bg) (pu ?_);refine wl rfl (Y0k (q:=0) (j:=0) (u' := IntKind.wrap .u8 (Int.fdiv y6.1 (2 ^ (min (Int.toNat (IntKind.wrap .i64 (8 * ay))) (IntKind.bits .u32))))) bG ⟨rfl,rfl⟩ bJ rfl rfl rfl sizeOf5 rfl rfl rfl (fun c0 cR=>by rw [Q4o (r:=(J6 .u8)) cR rfl]; exact rfl) fun dc dd cT => ?_);exact lg hm bI (cT.sE (Z2 0 13))
    have hm:=Q5r hm bI cK;exact lg hm K (bG.sE (Z2 0 13))
  have hm:=Q5r hm K O;exact zr hm aB

instance : Ct 72 @Q9f:=⟨@Q9f,cf72⟩
theorem Q7i {p0:Q0} {p1:N0} (hS:Q33 a1 a2 a3 a4 a5 a6 b1 oo1 n1 c1 n2 c2 n3 c3 n4 c4 n5 c5 n6 c6 Z5 H1 T0 g w0 pv1 r1 r2 R p0) (Z3:Ln Z9 Z8 Z5) (hL1:Ln b1 oo1 H1) (h1:Q15 a7 c7 T0 w0 p1.Dims) (h2:Q10 a8 c8 T0 w0 p1.Init) : ∀ r,Q2c p0 p1=some r →
    Cl 35 #[pt Z9 Z8,Q105 a7 a8 c7 c8 p1] w0 (exR r (fun r=>K2 T0 w0 fun T w v => ∃ a20 n18 c20 a21 n19 c21 a22 n20 c22 a23 n21 c23,v = .tuple #[]∧Sep g T w (R++(Q2 a20 a21 a22 a4 a23 a6 b1 oo1 n18 c20 n19 c21 n20 c22 n4 c4 n21 c23 n6 c6 Z5 H1 pv1 r1 r2 r))∧True) (fun r=>C7 T0 w0 fun T w v => ∃ a20 n18 c20 a21 n19 c21 a22 n20 c22 a23 n21 c23,v = .iface 89 (Q25 r.1.pos r.1.e)∧Sep g T w (R++(Q2 a20 a21 a22 a4 a23 a6 b1 oo1 n18 c20 n19 c21 n20 c22 n4 c4 n21 c23 n6 c6 Z5 H1 pv1 r1 r2 r.2))∧True)):=by
  intro r hm;refine enter func35 rfl ntmps35 rfl fun J => ?_;unfold Q2c at hm;refine sq2 (bX (Y1k p1 a7 c7 a8 c8) hS ?_);intro _ b2 O ab;refine kA ?_;refine cP cf69 hm (Q2w (ab.bE [0,1,12] (Z2 2 10)) Z3 hL1 (h1.mono O) (h2.mono O)) ?_ ?_
  · exact zk
  rintro E _ _ _ _ ⟨_,_,c9,rfl,ac,_⟩ hm;refine kE ?_;refine Z2k [0,0,1,0,1,0,0,0,1,2] [0,1,2,3,4,5,6,7,8,9] ac (U4 (N8)) fun w3 aE U=>pu ?_;obtain⟨D,V,hm⟩:=Y0 hm
  rcases D with e2 | D
  · have hm:=J1 hm;refine s2 [] rfl trivial rfl (by kernel_rfl) (Z1p cf70 rfl (Q2y (p0 := {E.2 with fun_:=p0.fun_}) (p1:=p1.Pos) (p2:=p1.Name) (U.bE [0,1,2] (Z2 3 10)) Z3 hL1 _ V) rfl fun v6 T7 aJ aK ad => ?_);obtain⟨rfl,ae,_⟩:=ad;exact pe hm (ae.sE ([1]++Z2 3 10 ++ [2]))
  have hm:=N4 hm;refine sS [] cf70 (Q2y (p0 := {E.2 with fun_:=p0.fun_}) (U.bE [0,1,2] (Z2 3 10)) Z3 hL1 _ V) ?_;rintro _ _ _ _ ⟨rfl,af,_⟩;refine kE ?_;refine rsS [0,0,0,0,0,1,0,0,1,0,2,2,2,0,0,0,2] [0,1,2,3,4,5,6,7,8,9,10,11,12,13,14,15,16] af fun w5 aN ag => ?_;obtain⟨I,ah,hm⟩:=Y0 hm;refine sS [(5,.slice a2 n2 c2)] cf71 (Q3w (p0 := {D with fun_:=p0.fun_}) (ag.bE [0,1,2] (Z2 3 10)) Z3 hL1 _ ah) ?_;rintro _ _ _ _ ⟨rfl,ai,_⟩;refine s2W [] ?_;refine obS (r:=Q3t) (l:=([I]:List Z3n)) (css := [(X2r I)]) ai ⟨(Y4o (x:=I)  : Q3t.rp _ _ _ _),trivial⟩ ?_;intro _ _ _ c10 _ aj;refine pu ?_;obtain⟨_,ak,hm⟩:=Y0 hm;refine s2W [0] ?_;refine oaO 7 aj (K3 ak) ?_;intro _ _ _ c11 _ am;refine s2W [] ?_;refine osB 4 1 Z3 am ?_;intro _ _ an;refine pu ?_;refine se (K1 [(0,pt Z9 Z8),(3,pt b2 0),(4,iv E.1)] ⟨rfl,rfl,rfl,trivial⟩ fun J=>sq2 (bS (r:=(J6 .i64)) (l:=([E.1]:List Int)) (css := [[iv E.1]]) an ⟨rfl,trivial⟩ ?_));intro _ _ _ c12 _ ao;obtain⟨_,ap,hm⟩:=Y0 hm;refine aO 13 ao (K3 ap) ?_;intro _ _ _ c13 _ aq;refine sB 5 7 Z3 aq ?_;intro _ _ ar;refine pn ?_;refine Z2k [0,0,0,0,0,1,0,1,0,2,2,2,0,0,0,2] [0,1,2,3,4,5,6,7,8,9,10,11,12,13,14,15] ar (N8) fun aP aQ W=>pu ?_;obtain⟨K,au,hm⟩:=Y0 hm
  rcases K with e1 | K
  · have dd:KD [(9,[7]),(10,[7,9]),(11,[5,7,9,10]),(15,[5,7,9,10,11])]:=⟨trivial⟩;exact zr hm W
  have hm:=N4 hm;refine sS [(5,.slice a3 n3 c3)] cf72 (Q9f (p0 := {D with u := {D.u with Globals:=D.u.Globals++([I]:List Z3n)},gtypes:=D.gtypes++([E.1]:List Int),fun_:=p0.fun_}) (W.bE [3,2] (Z2 5 10 ++ [4])) Z3 hL1 (h1.mono ch) (h2.mono ch) _ au) ?_;rintro _ _ _ _ ⟨av,_,c14,_,_,c15,rfl,aw,_⟩;refine pu ?_;obtain⟨_,_,ax,h3,rfl⟩:=aw.sl 13;refine s2W [] ?_;refine obS (r:=(rSl (J6 .u8))) (l:=([K.1]:List (List Int))) (css := [[sv av K.1 c14]]) ax ⟨⟨_,rfl,h3⟩,trivial⟩ ?_;intro _ _ _ c16 _ az;refine pu ?_;obtain⟨_,aA,hm⟩:=Y0 hm;refine s2W [0] ?_;refine oaO 7 az (K3 aA) ?_;intro _ _ _ c17 _ aB;refine s2W [] ?_;refine osB 3 2 Z3 aB ?_;intro _ _ aC;refine pu ?_;have hm:=oI hm; subst hm;refine pn ?_;exact end0 rfl ⟨_,rfl,_,ch,⟨_,_,_,_,_,_,_,_,_,_,_,_,rfl,(aC.sE ([1]++Z2 3 11)).unb,trivial⟩⟩

instance : Ct 35 @Q7i:=⟨@Q7i,cf35⟩
theorem C8 {p0:Q0} {p1:Pos} {p2:List UInt8} (hS:Q28 a1 a2 a3 a4 a5 a6 b1 oo1 n1 c1 n2 c2 n3 c3 n4 c4 n5 c5 n6 c6 Z5 H1 T0 g w0 pv1 r1 r2 R p0) (Z3:Ln Z9 Z8 Z5) (hL1:Ln b1 oo1 H1) : ∀ r,H5 p0 p1 p2=some r →
    Cl 70 #[pt Z9 Z8,Q48 p1,Q23 p2.toArray,.map r2] w0 (exR r (fun r=>K2 T0 w0 fun T w v=>v = .tuple #[]∧Q22 a1 a2 a3 a4 a5 a6 b1 oo1 n1 c1 n2 c2 n3 c3 n4 c4 n5 c5 n6 c6 Z5 H1 T g w pv1 r1 r2 R r) (fun r=>C7 T0 w0 (Q61 a1 a2 a3 a4 a5 a6 b1 oo1 n1 c1 n2 c2 n3 c3 n4 c4 n5 c5 n6 c6 Z5 H1 g pv1 r1 r2 R r.1.pos r.1.e r.2))):=by
  intro r hm;refine enter func70 rfl ntmps70 rfl fun J => ?_;unfold H5 at hm;refine sq2 (bX [iv p1.Line,iv p1.Col] hS ?_);intro _ E _ D;refine kA ?_;refine pv (Z7u (kk:=p2) (u:=0) rfl rfl (D.getA (i:=8) ⟨rfl,rfl⟩) Z1s underlying80 underlying9 zeroValue3 rfl) (pn ?_);refine qU ?_;refine pv (Z7u (kk:=p2) (u:=0) rfl rfl (D.getA (i:=9) ⟨rfl,rfl⟩) Z1s underlying80 underlying9 zeroValue3 rfl) (pn ?_);refine sq2 (blk (qU ?_));refine fkC (d:=34) (c:=(((E2 p0.globals p2).isSome) || ((E2 p0.codes p2).isSome))) 2 [(2,.string ⟨p2.toArray⟩),(3,.map r2),(5,pt E 0)] rfl (fun hk=>zw ((E2 p0.globals p2).isSome) hk) fun J => ?_;refine cd hm ?_ ?_ <;> intro O hm
  · exact zr hm D
  refine qU ?_;refine pv (X0s rfl (D.getA (i:=9) ⟨rfl,rfl⟩) underlying80) (cd hm ?_ ?_) <;> intro U hm
  · exact zr hm D
  refine pn ?_;obtain⟨_,I,hm⟩:=Y0 hm;refine pu ?_;refine pv (X0s rfl (D.getA (i:=9) ⟨rfl,rfl⟩) underlying80) (wl rfl (muM (q:=9) (k:=p2) (u:=(Z3k p0.codes:Int)) D ⟨rfl,rfl⟩ I rfl rfl rfl Z1s underlying80 underlying9 fun V W K => ?_));have hm:=oI hm; subst hm;refine pn ?_;exact end0 rfl ⟨_,rfl,_,ch,⟨rfl,(K.sE (Z2 1 11)).unb,trivial⟩⟩
instance : Ct 70 @C8:=⟨@C8,cf70⟩
end Go.Proofs.YtbfpdnogfkbiaaaGreat
