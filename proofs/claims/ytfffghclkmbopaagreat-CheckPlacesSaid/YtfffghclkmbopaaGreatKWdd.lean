/- That Go functions compute their models. Printed by gen2.py. -/
import Derived.Test.YtfffghclkmbopaaGreatKWdf
import Derived.Test.YtfffghclkmbopaaGreatKWdb
import Derived.Test.YtfffghclkmbopaaGreatKWdc
set_option linter.unusedVariables false
namespace Go.Proofs.YtfffghclkmbopaaGreat
open _root_.Go.Proofs.Tryz
set_option maxRecDepth 100000
set_option maxHeartbeats 8000000
attribute [local irreducible] wpList wpQuiet Code.wp
variable {g:World} {T0:Nat→Prop} {w0:World} {R:List Y8}
variable {b1 b2 Y2 Q1c Y0d Y0c Y0z c1 c2 c3 c4 c5 c6 c7 c8 c9 c10 c11 c12 c13 n1 n2 n3 n4 n5 n6 n7 Y1 Q0x Y0a Z9z Y0u oo1 oo2:Nat} {H1 H2 Z5 R5 Z7c Z7b Y0e:List Value→Y8} {a1 a2 a3 a4 a5 a6 a7 a8 a9 a10 a11 a12 a13:OA} {r1 r2:Option Nat} {pv1:Value}
attribute [local irreducible] C7 Q0q execOp Program.underlying sizeOf isAgg zeroValue

theorem sp3 : ∀ n,Sp3 (R4 n)
  | 0=>⟨(by unfold Q4c; intros; rename_i h; cases (show (none:Option _)=some _ from h)),(by unfold Q2s; intros; rename_i h; cases (show (none:Option _)=some _ from h)),(by unfold Q3y; intros; rename_i h; cases (show (none:Option _)=some _ from h)),(by unfold Q5c; intros; rename_i h; cases (show (none:Option _)=some _ from h)),(by unfold Q2x; intros; rename_i h; cases (show (none:Option _)=some _ from h)),(by unfold Q4a; intros; rename_i h; cases (show (none:Option _)=some _ from h)),(by unfold Q2y; intros; rename_i h; cases (show (none:Option _)=some _ from h)),(by unfold Q5a; intros; rename_i h; cases (show (none:Option _)=some _ from h)),(by unfold Q5b; intros; rename_i h; cases (show (none:Option _)=some _ from h)),(by unfold Q2t; intros; rename_i h; cases (show (none:Option _)=some _ from h)),(by unfold Q4y; intros; rename_i h; cases (show (none:Option _)=some _ from h)),(by unfold Q4z; intros; rename_i h; cases (show (none:Option _)=some _ from h)),(by unfold Q3x; intros; rename_i h; cases (show (none:Option _)=some _ from h))⟩
  | n+1=>⟨Z6w (sp3 n),Z5r (sp3 n),Z6s (sp3 n),Z7u (sp3 n),Z5v (sp3 n),Z6t (sp3 n),Z5w (sp3 n),Z7s (sp3 n),Z7t (sp3 n),Z5s (sp3 n),Z7q (sp3 n),Z7r (sp3 n),Z6r (sp3 n)⟩
theorem Q6c:Q4c X9:=(sp3 NN).X9
theorem Z5d:Q2s X4:=(sp3 NN).X4
theorem Y6q:Q3y J4:=(sp3 NN).J4
theorem Y8b:Q5c K4:=(sp3 NN).K4
theorem Y5z:Q2x J0:=(sp3 NN).J0
theorem Y6r:Q4a K7:=(sp3 NN).K7
theorem Y6a:Q2y J1:=(sp3 NN).J1
theorem Y7z:Q5a G3:=(sp3 NN).G3
theorem Y8a:Q5b G4:=(sp3 NN).G4
theorem Y5w:Q2t K9:=(sp3 NN).K9
theorem Y7y:Q4y G0:=(sp3 NN).G0
theorem Z6u:Q4z V2:=(sp3 NN).V2
theorem G9:Q3x Z4:=(sp3 NN).Z4

theorem Q9r {p0} (hS:Sep g T0 w0 [Y5 R])  : ∀ r,Q3r p0=some r →
    Calls Tryz.prog 168 #[iv p0] w0 (Q27 T0 w0 g R r):=by
  intro r hm;refine enter func168 rfl ntmps168 rfl fun J => ?_;unfold Q3r at hm;refine sq2 (pn ?_);refine sq2 (sq2 (pn ?_));refine blk (sq2 (cd hm ?_ ?_)) <;> intro ac hm
  · exact sq2 (re hm (hS.sel [0] rfl))
  refine O7 hm (fun O a D => ∃ E I,JR (nf 15) g T0 w0 a D E (O I=some r) [(3,iv p0),(6,.bool I)] [Y5 R]) (fun O hm => ?_) ?_
  · exact zr hm hS
  rintro _ D ⟨E,I,J,hm,rfl,U,_⟩;refine cd hm ?_ ?_ <;> intro ad hm
  · exact sq2 (re hm (U.sel [0] rfl))
  refine O7 hm (fun V a W => ∃ T2 K,JR (nf 15) g E D a W T2 (V K=some r) [(3,iv p0),(9,.bool K)] [Y5 R]) (fun V hm => ?_) ?_
  · exact zr hm U
  rintro _ W ⟨T2,K,J,hm,rfl,ab,_⟩;exact zr hm ab

instance : Ctr Tryz.prog 168 (type_of% @Q9r):=⟨@Q9r,cf168⟩
def Q9c (F:Y4→Option (Bool)):Prop := ∀ {g:World} {T0:TP} {w0:World} {R:List Y8} {p0:Y4} {a1 c1} (hS:Sep g T0 w0 [Y5 R]) (h1:Q10 a1 c1 T0 w0 p0.Kids),∀ r,F p0=some r →
    Calls Tryz.prog 141 #[Q62 a1 c1 p0] w0 (Q17 T0 w0 g R r)
structure Sp4 (G:Rec4):Prop where
  E4:Q9c G.E4
theorem Y2w {G:Rec4} (hG:Sp4 G):Q9c (Q2h G):=by
  intro g _ _ R D a1 c1 hS h1 r hm;refine enter func141 rfl ntmps141 rfl fun J => ?_;unfold Q2h at hm;refine sq2 (bX (V5 D a1 c1) hS ?_);intro _ _ _ W;refine pn ?_;refine sq2 (sq2 (rsS [0,1,0,0,1,2,0] [0,1,2,3,4,5,6] W fun w2 ai aa => ?_));obtain⟨_,ab,hm⟩:=bindS hm;refine sS [(1,sv a1 D.Kids c1)] cf168 (Q9r (aa.bun [0,1] [] rfl) _ ab) ?_;rintro _ T1 w3 _ ⟨rfl,I,_⟩;refine cd hm ?_ ?_ <;> intro aj hm
  · exact sq2 (re hm (I.sel [1] rfl))
  refine pn ?_;refine sq2 (sq2 (pn ?_));refine lpJ hm (fun K O m a U => ∃ V E,JR (nf 23) g T1 w3 a U V (loopM K m E=some O) [(13,sv a1 D.Kids c1),(14,iv (List.length D.Kids:Int)),(15,iv E)] [Y5 R]) (fun _ _ h=>je h (I.sel [1] rfl)) ?_;rintro K ae O _ _ _ U ⟨V,E,J,af,rfl,ag,_⟩;obtain⟨m1,_,rfl,hm,_⟩:=lrE af ae;have ak:Ctr Tryz.prog 141 (type_of% @hG.E4):=⟨@hG.E4,cf141⟩;have dd:KD [(5,[4])]:=⟨trivial⟩;exact zr hm ag
theorem sp4 : ∀ n,Sp4 (Y2s n)
  | 0=>⟨(by unfold Q9c; intros; rename_i h; cases (show (none:Option _)=some _ from h))⟩
  | n+1=>⟨Y2w (sp4 n)⟩
theorem Y2o:Q9c E4:=(sp4 NN).E4

theorem Y1i {p0 p1} (hS:Sep g T0 w0 [Y5 R])  : ∀ r,Y4d p0 p1=some r →
    Calls Tryz.prog 184 #[.int .u32 p0,.int .u32 p1] w0 (Q29 T0 w0 g R r):=by
  intro r hm;refine enter func184 rfl ntmps184 rfl fun J => ?_;unfold Y4d at hm;exact zr hm hS

instance : Ctr Tryz.prog 184 (type_of% @Y1i):=⟨@Y1i,cf184⟩
theorem Y1d {p0 p1} (hS:Sep g T0 w0 [Y5 R])  : ∀ r,Y1e p0 p1=some r →
    Calls Tryz.prog 185 #[.int .u32 p0,.int .u32 p1] w0 (Q29 T0 w0 g R r):=by
  intro r hm;refine enter func185 rfl ntmps185 rfl fun J => ?_;unfold Y1e at hm;exact zr hm hS

instance : Ctr Tryz.prog 185 (type_of% @Y1d):=⟨@Y1d,cf185⟩
theorem Y1g {p0 p1} (hS:Sep g T0 w0 [Y5 R])  : ∀ r,Y4c p0 p1=some r →
    Calls Tryz.prog 186 #[.int .u32 p0,.int .u32 p1] w0 (Q29 T0 w0 g R r):=by
  intro r hm;refine enter func186 rfl ntmps186 rfl fun J => ?_;unfold Y4c at hm;exact zr hm hS

instance : Ctr Tryz.prog 186 (type_of% @Y1g):=⟨@Y1g,cf186⟩
theorem Z8a {p0 p1} (hS:Sep g T0 w0 [Y5 R])  : ∀ r,Z6a p0 p1=some r →
    Calls Tryz.prog 194 #[iv p0,iv p1] w0 (Q27 T0 w0 g R r):=by
  intro r hm;refine enter func194 rfl ntmps194 rfl fun J => ?_;unfold Z6a at hm;exact zr hm hS

instance : Ctr Tryz.prog 194 (type_of% @Z8a):=⟨@Z8a,cf194⟩
theorem Z7d {p0 p1} (hS:Sep g T0 w0 [Y5 R])  : ∀ r,Z4h p0 p1=some r →
    Calls Tryz.prog 193 #[.int .u32 p0,.int .u32 p1,.func (.func 194) #[] #[]] w0 (Q27 T0 w0 g R r):=by
  intro r hm;refine enter func193 rfl ntmps193 rfl fun J => ?_;unfold Z4h at hm;exact zr hm hS

instance : Ctr Tryz.prog 193 (type_of% @Z7d):=⟨@Z7d,cf193⟩
theorem Y1h {p0 p1} (hS:Sep g T0 w0 [Y5 R])  : ∀ r,Z8b p0 p1=some r →
    Calls Tryz.prog 187 #[.int .u32 p0,.int .u32 p1] w0 (Q29 T0 w0 g R r):=by
  intro r hm;refine enter func187 rfl ntmps187 rfl fun J => ?_;unfold Z8b at hm;exact zr hm hS

instance : Ctr Tryz.prog 187 (type_of% @Y1h):=⟨@Y1h,cf187⟩
theorem Z7y {p0 p1} (hS:Sep g T0 w0 [Y5 R])  : ∀ r,Z5z p0 p1=some r →
    Calls Tryz.prog 195 #[iv p0,iv p1] w0 (Q27 T0 w0 g R r):=by
  intro r hm;refine enter func195 rfl ntmps195 rfl fun J => ?_;unfold Z5z at hm;exact zr hm hS

instance : Ctr Tryz.prog 195 (type_of% @Z7y):=⟨@Z7y,cf195⟩
theorem Z4g {p0 p1} (hS:Sep g T0 w0 [Y5 R])  : ∀ r,Z1p p0 p1=some r →
    Calls Tryz.prog 193 #[.int .u32 p0,.int .u32 p1,.func (.func 195) #[] #[]] w0 (Q27 T0 w0 g R r):=by
  intro r hm;refine enter func193 rfl ntmps193 rfl fun J => ?_;unfold Z1p at hm;exact zr hm hS

instance : Ctr Tryz.prog 193 (type_of% @Z4g):=⟨@Z4g,cf193⟩
theorem Y1f {p0 p1} (hS:Sep g T0 w0 [Y5 R])  : ∀ r,Z7z p0 p1=some r →
    Calls Tryz.prog 188 #[.int .u32 p0,.int .u32 p1] w0 (Q29 T0 w0 g R r):=by
  intro r hm;refine enter func188 rfl ntmps188 rfl fun J => ?_;unfold Z7z at hm;exact zr hm hS

instance : Ctr Tryz.prog 188 (type_of% @Y1f):=⟨@Y1f,cf188⟩
theorem Y0h {p0 p1} (hS:Sep g T0 w0 [Y5 R])  : ∀ r,Z5f p0 p1=some r →
    Calls Tryz.prog 189 #[.int .u32 p0,.int .u32 p1] w0 (Q29 T0 w0 g R r):=by
  intro r hm;refine enter func189 rfl ntmps189 rfl fun J => ?_;unfold Z5f at hm;refine sq2 (pn ?_);refine sq2 ?_;obtain⟨_,D,hm⟩:=bindS hm;have D:=Y7r D;refine pu ?_;exact pv (X0k rfl rfl D) (re hm (hS.sel [0] rfl))

instance : Ctr Tryz.prog 189 (type_of% @Y0h):=⟨@Y0h,cf189⟩
theorem Z7e {p0 p1} (hS:Sep g T0 w0 [Y5 R])  : ∀ r,Z1w p0 p1=some r →
    Calls Tryz.prog 190 #[.int .u32 p0,.int .u32 p1] w0 (Q29 T0 w0 g R r):=by
  intro r hm;refine enter func190 rfl ntmps190 rfl fun J => ?_;unfold Z1w at hm;refine sq2 (pn ?_);refine sq2 ?_;obtain⟨_,D,hm⟩:=bindS hm;have D:=Y7r D;refine pu ?_;exact pv (Y7j rfl rfl D) (re hm (hS.sel [0] rfl))

instance : Ctr Tryz.prog 190 (type_of% @Z7e):=⟨@Z7e,cf190⟩
theorem Y0m {p0} (hS:Sep g T0 w0 [Y5 R])  : ∀ r,Q7d p0=some r →
    Calls Tryz.prog 170 #[.bool p0] w0 (Q29 T0 w0 g R r):=by
  intro r hm;refine enter func170 rfl ntmps170 rfl fun J => ?_;unfold Q7d at hm;exact zr hm hS

instance : Ctr Tryz.prog 170 (type_of% @Y0m):=⟨@Y0m,cf170⟩
theorem Y1b {p0} (hS:Sep g T0 w0 [Y5 R])  : ∀ r,Y1c p0=some r →
    Calls Tryz.prog 198 #[.bool p0] w0 (Q29 T0 w0 g R r):=by
  intro r hm;refine enter func198 rfl ntmps198 rfl fun J => ?_;unfold Y1c at hm;exact zr hm hS

instance : Ctr Tryz.prog 198 (type_of% @Y1b):=⟨@Y1b,cf198⟩
theorem Y0g {p0 p1} (hS:Sep g T0 w0 [Y5 R])  : ∀ r,Q9v p0 p1=some r →
    Calls Tryz.prog 196 #[.int .u32 p0,.int .u32 p1] w0 (Q29 T0 w0 g R r):=by
  intro r hm;refine enter func196 rfl ntmps196 rfl fun J => ?_;unfold Q9v at hm;exact zr hm hS

instance : Ctr Tryz.prog 196 (type_of% @Y0g):=⟨@Y0g,cf196⟩
theorem Z4p {p0 p1 p2} (hS:Sep g T0 w0 [Y5 R])  : ∀ r,Q8y p0 p1 p2=some r →
    Calls Tryz.prog 191 #[iv p0,.int .u32 p1,.int .u32 p2] w0 (Q52 T0 w0 g R r.1 r.2):=by
  intro r hm;refine enter func191 rfl ntmps191 rfl fun J => ?_;unfold Q8y at hm;exact zr hm hS

instance : Ctr Tryz.prog 191 (type_of% @Z4p):=⟨@Z4p,cf191⟩
theorem Z7k {p0 p1 p2} (hS:Sep g T0 w0 [Y5 R])  : ∀ r,Q8b p0 p1 p2=some r →
    Calls Tryz.prog 169 #[iv p0,.int .u32 p1,.int .u32 p2] w0 (Q52 T0 w0 g R r.1 r.2):=by
  intro r hm;refine enter func169 rfl ntmps169 rfl fun J => ?_;unfold Q8b at hm;refine sq2 (pn ?_);refine sq2 (sq2 (pn ?_));refine blk (sq2 (cd hm ?_ ?_)) <;> intro U hm
  · exact zr hm hS
  refine sq2 (cd hm ?_ ?_) <;> intro V hm
  · exact zr hm hS
  refine sq2 (cd hm ?_ ?_) <;> intro W hm
  · exact zr hm hS
  refine O7 hm (fun E a I => ∃ K D,JR (nf 81) g T0 w0 a I K (E D=some r) [(0,iv p0),(1,.int .u32 p1),(2,.int .u32 p2),(8,iv p0),(24,.bool D)] [Y5 R]) (fun E hm => ?_) ?_
  · exact zr hm hS
  rintro _ I ⟨K,D,J,hm,rfl,O,_⟩;exact zr hm O

instance : Ctr Tryz.prog 169 (type_of% @Z7k):=⟨@Z7k,cf169⟩
def Z3c (F:Y4→Option (Int×Int)):Prop := ∀ {g:World} {T0:TP} {w0:World} {R:List Y8} {p0:Y4} {a1 c1} (hS:Sep g T0 w0 [Y5 R]) (h1:Q10 a1 c1 T0 w0 p0.Kids),∀ r,F p0=some r →
    Calls Tryz.prog 142 #[Q62 a1 c1 p0] w0 (Q52 T0 w0 g R r.1 r.2)
structure Sp5 (G:Rec5):Prop where
  A1:Z3c G.A1
theorem Y5v {G:Rec5} (hG:Sp5 G):Z3c (Z0u G):=by
  intro g _ _ R I a1 c1 hS h1 r hm;refine enter func142 rfl ntmps142 rfl fun J => ?_;unfold Z0u at hm;refine sq2 (bX (V5 I a1 c1) hS ?_);intro _ E _ K;refine pn ?_;refine sq2 (sq2 (cd hm ?_ ?_)) <;> intro am hm
  · exact sq2 (re hm (K.sel [1] rfl))
  refine pn ?_;refine sq2 ?_;obtain⟨u1,ag,hm⟩:=bindS hm;obtain⟨cs1,ah,_,hT1⟩:=ixS K ag h1;obtain⟨_,c2,rfl,h2⟩:=Q9w ah;refine pu ?_;refine cB cf142 hm (hG.A1 (K.bun [0,1] [] rfl) h2) ?_;rintro U _ V W _ ⟨rfl,D,_⟩ hm;refine pn ?_;refine sq2 (sq2 (cd hm ?_ ?_)) <;> intro an hm
  · exact sq2 (re hm (D.sel [1] rfl))
  refine pn ?_;refine O7 hm (fun aa a w3 => ∃ T2,JR (nf 93) g V W a w3 T2 (aa ()=some r) [(1,pt E 0),(4,.int .u32 U.1)] [Q68 a1 E c1 I,Y5 R]) (fun aa hm => ?_) ?_
  · refine sq2 (pn ?_);refine blk (sq2 (cd hm ?_ ?_)) <;> intro ao hm
    · exact zr hm D
    refine sq2 (cd hm ?_ ?_) <;> intro ap hm
    · exact zr hm D
    refine sq2 (cd hm ?_ ?_) <;> intro aq hm
    · have ai:Ctr Tryz.prog 142 (type_of% @hG.A1):=⟨@hG.A1,cf142⟩;exact zr hm D
    refine O7 hm (fun ad a w7 => ∃ T6 O,JR (nf 93) g V W a w7 T6 (ad O=some r) [(1,pt E 0),(4,.int .u32 U.1),(55,.bool O)] [Q68 a1 E c1 I,Y5 R]) (fun ad hm => ?_) ?_
    · exact zr hm D
    rintro _ w7 ⟨T6,O,J,hm,rfl,aj,_⟩;exact zr hm aj
  rintro _ w3 ⟨T2,J,hm,rfl,ak,_⟩;have ai:Ctr Tryz.prog 142 (type_of% @hG.A1):=⟨@hG.A1,cf142⟩;exact zr hm ak
theorem sp5 : ∀ n,Sp5 (rec5 n)
  | 0=>⟨(by unfold Z3c; intros; rename_i h; cases (show (none:Option _)=some _ from h))⟩
  | n+1=>⟨Y5v (sp5 n)⟩
theorem Y5f:Z3c A1:=(sp5 NN).A1

theorem Z4e {p0:Y4} (hS:Sep g T0 w0 [Y5 R]) (h1:Q10 a1 c1 T0 w0 p0.Kids) : ∀ r,Z4f p0=some r →
    Calls Tryz.prog 107 #[Q62 a1 c1 p0] w0 (Q52 T0 w0 g R r.1 r.2):=by
  intro r hm;refine enter func107 rfl ntmps107 rfl fun J => ?_;unfold Z4f at hm;refine sq2 (bX (V5 p0 a1 c1) hS ?_);intro _ _ E I;refine pn ?_;refine sq2 (sq2 (pu ?_));refine cB cf141 hm (Y2o (I.bun [0,1] [] rfl) (h1.mono E)) ?_;rintro _ _ _ _ _ ⟨rfl,D,_⟩ hm;refine cd hm ?_ ?_ <;> intro O hm
  · exact sq2 (re hm (D.sel [1] rfl))
  refine pn ?_;refine sq2 (pu ?_);refine cB cf142 hm (Y5f (D.bun [1] [] rfl) (h1.mono ch)) ?_;rintro _ _ _ _ _ ⟨rfl,K,_⟩ hm;exact re hm (K.sel [0] rfl)

instance : Ctr Tryz.prog 107 (type_of% @Z4e):=⟨@Z4e,cf107⟩
theorem Q2v {p0:Q0} {p1:F2} {p2} (hS:Q24 a1 a2 a3 a4 a5 a6 b1 oo1 n1 c1 n2 c2 n3 c3 n4 c4 n5 c5 n6 c6 Z5 H1 T0 g w0 pv1 r1 r2 R p0) (Z2:Ln Y2 Y1 Z5) (hL1:Ln b1 oo1 H1) (h1:Q30 a7 c7 T0 w0 p1) (h2:Q7 a8 c8 T0 w0 p1.Init) : ∀ r,R1 p0 p1 p2=some r →
    Calls Tryz.prog 74 #[pt Y2 Y1,Q75 a7 a8 c7 c8 p1,iv p2] w0 (exR r (fun r=>U7 T0 w0 fun T w v => ∃ a24 n14 c24 a25 n15 c25,v = .slice a24 n14 c24∧Sep g T w (R++(X0 r.2 Z5 H1 b1 oo1 a25 n15 c25 a2 n2 c2 a3 n3 c3 a4 n4 c4 r1 r2 a5 n5 c5 a6 n6 c6 pv1 ++ [Q14 pv1 r.2,K3 (E6 .u8) 5 (.slice a24 n14 c24) r.1]))∧True) (fun r=>A5 T0 w0 (Q4 a2 a3 a4 a5 a6 b1 oo1 n2 c2 n3 c3 n4 c4 n5 c5 n6 c6 Z5 H1 g pv1 r1 r2 R r.1.pos r.1.e r.2))):=by
  intro r hm;refine enter func74 rfl ntmps74 rfl fun J => ?_;unfold R1 at hm;refine sq2 (bX (Z5y p1 a7 c7 a8 c8) hS ?_);intro _ _ _ bI;refine pn ?_;refine sq2 (pu ?_);refine cB Q8s hm (V3 (bI.bun ([0,1,2]++Z1 5 8) [3,4] rfl) hL1) ?_;rintro _ _ _ _ _ ⟨rfl,bJ,_⟩ hm;obtain⟨u1,bK,hm⟩:=bindS hm;refine wl rfl (msS (r:=(E6 .u8)) bJ rfl rfl underlying51 el5 zeroValue5 rfl bK fun w3 a9 n7 c9 cQ bL => ?_);refine pn ?_;refine sq2 (sq2 (pu ?_));refine cP cf103 hm (Q2c (bL.bun [0,2,11] ([3,12,13]++Z1 4 7) rfl) Z2 hL1 (h1.mono ch) (h2.mono ch)) ?_ ?_
  · exact zk
  rintro y2 _ T2 w4 _ ⟨ay,c10,rfl,bO,h3,_⟩ hm;refine pn ?_;refine lpJ hm (fun bg o1 m a w5 => ∃(T3:_) (I:Z6) (E:Q0) (x1:List Int) (bj:_) (n8:_) (c11:_) (W:_),JR (nf 74) g T2 w4 a w5 T3 (loopM bg m (x1,W,E,I)=some o1) [(0,pt Y2 Y1),(2,iv p2),(7,.slice a9 n7 c9),(25,sv ay y2 c10),(26,iv (List.length y2:Int)),(27,iv W)] ([K3 (E6 .u8) 5 (.slice a9 n7 c9) x1,Y5 R,Q14 pv1 E]++X0 ({E with t:=I}) Z5 H1 b1 oo1 bj n8 c11 a2 n2 c2 a3 n3 c3 a4 n4 c4 r1 r2 a5 n5 c5 a6 n6 c6 pv1)) (fun _ _ h=>je h (bO.sel (Z1 0 13) rfl)) ?_;rintro bg bP o1 O _ _ w5 ⟨T3,I,E,x1,bj,n8,c11,W,J,bQ,rfl,aA,_⟩;obtain⟨m1,z1,rfl,hm,K⟩:=lrE bQ bP;refine sq2 (pn ?_);refine sq2 (cd hm ?_ ?_) <;> intro cR hm
  · refine pn ?_;refine sq2 (blk (sq2 ?_));obtain⟨u2,bU,hm⟩:=bindS hm;obtain⟨cs1,bV,_,hT1⟩:=ixS aA bU h3;obtain⟨bW,c12,rfl,D⟩:=K2 bV;refine aL zv2 aA ?_;intro _ b4 _ bY;refine sT 0 bY ?_;intro w7 _ b0;refine pn ?_;refine O7 hm (fun bm a w8 => ∃(T4:_) (ah:Z6) (U:Q0) (aD:_) (n9:_) (c13:_) (b5:_) (ar:Y4) (aG:_) (c14:_),JR (nf 74) g T3 w7 a w8 T4 (bm U ah ar=some z1) [(0,pt Y2 Y1),(2,iv p2),(7,.slice a9 n7 c9),(8,iv W),(9,pt b4 0),(10,pt b5 0),(25,sv ay y2 c10),(26,iv (List.length y2:Int)),(27,iv W)] ([Q23 bW b4 c12 u2,K3 (E6 .u8) 5 (.slice a9 n7 c9) x1,Y5 R,Q14 pv1 U]++(X0 ({U with t:=ah}) Z5 H1 b1 oo1 aD n9 c13 a2 n2 c2 a3 n3 c3 a4 n4 c4 r1 r2 a5 n5 c5 a6 n6 c6 pv1 ++ [Q68 aG b5 c14 ar]))∧Q10 aG c14 T4 w8 ar.Kids) (fun bm hm => ?_) ?_
    · refine rtPS [0,1,0,1,2,0,0,2,2,2,2] [0,1,2,3,5,6,4,7,8,9,10] b0 (V9 (S4 (V9 (V9 (S4 (V9 (P8))))))) fun w9 cU ai => ?_;refine pu ?_;obtain⟨y3,aj,hm⟩:=bindS hm
      rcases y3 with e1 | y3
      · have hm:=K0 hm;refine tF [4,9] ?_;refine⟨?_,?_,trivial⟩
        · refine brW [7,8,9,10] [0] ?_;refine oP C0 (G9 (p0 := {E with t:=I}) (ai.bun [0,1,2] (Z1 4 10 ++ [3]) rfl) Z2 hL1 (D.mono ch) _ aj) ?_;rintro _ b3 _ _ ⟨b8,b9,c23,rfl,cc,_⟩;have hm:=Q0o hm K O;exact pe hm (cc.sel (Z1 2 12) rfl)
        refine brW [4,7,8,10] [] ?_;refine oaL zv3 ai ?_;intro aI b7 aK aa;refine t1W [4] [7,8,10] [0] ?_;refine oP C0 (G9 (p0 := {E with t:=I}) (aa.bun (Z1 0 4) (Z1 5 10 ++ [4]) rfl) Z2 hL1 (D.mono ch) _ aj) ?_;rintro _ b3 ce cf ⟨b8,b9,c23,rfl,aM,_⟩;have hm:=Q0o hm K O;exact pe hm (aM.sel (Z1 3 12) rfl)
      have hm:=B8 hm;obtain⟨_,ak,hm⟩:=bindS hm;obtain⟨y5,V,hm⟩:=bindS hm
      rcases y5 with e2 | y5
      · have hm:=K0 hm;refine tF [4,9] ?_;refine⟨?_,?_,trivial⟩
        · refine brW [7,8,9,10] [0] ?_;refine oS C0 (G9 (p0 := {E with t:=I}) (ai.bun [0,1,2] (Z1 4 10 ++ [3]) rfl) Z2 hL1 (D.mono ch) _ aj) ?_;rintro _ T8 ci cj ⟨ck,c18,cl,cm,c19,rfl,au,h8,_⟩;refine tF [7,9] ?_;refine⟨?_,?_,trivial⟩
          · refine brW [8,9,10] [] ?_;refine oS Y0n (F7 (au.bun [0,1,2,13] (Z1 3 10) rfl) Z2 hL1 _ ak) ?_;rintro _ T9 bq aN ⟨rfl,am,_⟩;refine tF [8,9] ?_;refine⟨?_,?_,trivial⟩
            · refine brW [9,10] [0] ?_;refine oP Z2k (V1 (am.bun (Z1 0 4) (Z1 4 10) rfl) Z2 hL1 (D.mono ch) (h8.mono aN) _ V) ?_;rintro _ aP _ _ ⟨rfl,cn,_⟩;have hm:=Q0o hm K O;exact pe hm (cn.sel ([2]++Z1 4 10 ++ [3]) rfl)
            refine brW [8,10] [] ?_;refine oaL zv3 am ?_;intro bt b7 aQ ap;refine t1W [8] [10] [0] ?_;refine oP Z2k (V1 (ap.bun (Z1 0 5) (Z1 5 10) rfl) Z2 hL1 (D.mono ch) (h8.mono ch) _ V) ?_;rintro _ aP aI aK ⟨rfl,aa,_⟩;have hm:=Q0o hm K O;exact pe hm (aa.sel ([3]++Z1 5 10 ++ [4]) rfl)
          refine brW [7,8,10] [] ?_;refine oaL zv3 au ?_;intro bq b7 aN am;refine t1W [7] [8,10] [] ?_;refine oS Y0n (F7 (am.bun [0,1,2,3,14] (Z1 4 10) rfl) Z2 hL1 _ ak) ?_;rintro _ T9 bt aQ ⟨rfl,ap,_⟩;refine t1W [8] [10] [0] ?_;refine oP Z2k (V1 (ap.bun (Z1 0 5) (Z1 5 10) rfl) Z2 hL1 (D.mono ch) (h8.mono ch) _ V) ?_;rintro _ aP aI aK ⟨rfl,aa,_⟩;have hm:=Q0o hm K O;exact pe hm (aa.sel ([3]++Z1 5 10 ++ [4]) rfl)
        refine brW [4,7,8,10] [] ?_;refine oaL zv3 ai ?_;intro ci b7 cj au;refine t1W [4] [7,8,10] [0] ?_;refine oS C0 (G9 (p0 := {E with t:=I}) (au.bun (Z1 0 4) (Z1 5 10 ++ [4]) rfl) Z2 hL1 (D.mono ch) _ aj) ?_;rintro _ T8 bq aN ⟨ck,c18,cl,cm,c19,rfl,am,h8,_⟩;refine t1W [7] [8,10] [] ?_;refine oS Y0n (F7 (am.bun [0,1,2,3,14] (Z1 4 10) rfl) Z2 hL1 _ ak) ?_;rintro _ T9 bt aQ ⟨rfl,ap,_⟩;refine t1W [8] [10] [0] ?_;refine oP Z2k (V1 (ap.bun (Z1 0 5) (Z1 5 10) rfl) Z2 hL1 (D.mono ch) (h8.mono aQ) _ V) ?_;rintro _ aP aI aK ⟨rfl,aa,_⟩;have hm:=Q0o hm K O;exact pe hm (aa.sel ([3]++Z1 5 10 ++ [4]) rfl)
      have hm:=B8 hm;refine tF [4,9] ?_;refine⟨?_,?_,trivial⟩
      · refine brW [7,8,9,10] [0] ?_;refine oS C0 (G9 (p0 := {E with t:=I}) (ai.bun [0,1,2] (Z1 4 10 ++ [3]) rfl) Z2 hL1 (D.mono ch) _ aj) ?_;rintro _ T5 cp cq ⟨cr,c15,ct,cu,c16,rfl,av,h6,_⟩;refine tF [7,9] ?_;refine⟨?_,?_,trivial⟩
        · refine brW [8,9,10] [] ?_;refine oS Y0n (F7 (av.bun [0,1,2,13] (Z1 3 10) rfl) Z2 hL1 _ ak) ?_;rintro _ T6 bv aR ⟨rfl,an,_⟩;refine tF [8,9] ?_;refine⟨?_,?_,trivial⟩
          · refine brW [9,10] [0] ?_;refine oS Z2k (V1 (an.bun (Z1 0 4) (Z1 4 10) rfl) Z2 hL1 (D.mono ch) (h6.mono aR) _ V) ?_;rintro _ T7 aT aw ⟨aU,c17,rfl,ab,h7,_⟩;refine t1W [9] [10] [] ?_;refine oaL zv3 ab ?_;intro aW b6 aY ac;refine t1W [10] [] [] ?_;refine osT 0 ac ?_;intro aZ ba ad;refine pu ?_;exact je hm (ad.sel (Z1 1 14 ++ [0]) rfl)
          refine brW [8,10] [] ?_;refine oaL zv3 an ?_;intro aT b6 aw ab;refine t1W [8] [10] [0] ?_;refine oS Z2k (V1 (ab.bun (Z1 0 5) (Z1 5 10) rfl) Z2 hL1 (D.mono ch) (h6.mono ch) _ V) ?_;rintro _ T7 aW aY ⟨aU,c17,rfl,ac,h7,_⟩;refine t1W [10] [] [] ?_;refine osT 0 ac ?_;intro aZ ba ad;refine pu ?_;exact je hm (ad.sel (Z1 1 14 ++ [0]) rfl)
        refine brW [7,8,10] [] ?_;refine oaL zv3 av ?_;intro bv b6 aR an;refine t1W [7] [8,10] [] ?_;refine oS Y0n (F7 (an.bun [0,1,2,3,14] (Z1 4 10) rfl) Z2 hL1 _ ak) ?_;rintro _ T6 aT aw ⟨rfl,ab,_⟩;refine t1W [8] [10] [0] ?_;refine oS Z2k (V1 (ab.bun (Z1 0 5) (Z1 5 10) rfl) Z2 hL1 (D.mono ch) (h6.mono ch) _ V) ?_;rintro _ T7 aW aY ⟨aU,c17,rfl,ac,h7,_⟩;refine t1W [10] [] [] ?_;refine osT 0 ac ?_;intro aZ ba ad;refine pu ?_;exact je hm (ad.sel (Z1 1 14 ++ [0]) rfl)
      refine brW [4,7,8,10] [] ?_;refine oaL zv3 ai ?_;intro cp b6 cq av;refine t1W [4] [7,8,10] [0] ?_;refine oS C0 (G9 (p0 := {E with t:=I}) (av.bun (Z1 0 4) (Z1 5 10 ++ [4]) rfl) Z2 hL1 (D.mono ch) _ aj) ?_;rintro _ T5 bv aR ⟨cr,c15,ct,cu,c16,rfl,an,h6,_⟩;refine t1W [7] [8,10] [] ?_;refine oS Y0n (F7 (an.bun [0,1,2,3,14] (Z1 4 10) rfl) Z2 hL1 _ ak) ?_;rintro _ T6 aT aw ⟨rfl,ab,_⟩;refine t1W [8] [10] [0] ?_;refine oS Z2k (V1 (ab.bun (Z1 0 5) (Z1 5 10) rfl) Z2 hL1 (D.mono ch) (h6.mono aw) _ V) ?_;rintro _ T7 aW aY ⟨aU,c17,rfl,ac,h7,_⟩;refine t1W [10] [] [] ?_;refine osT 0 ac ?_;intro aZ ba ad;refine pu ?_;exact je hm (ad.sel (Z1 1 14 ++ [0]) rfl)
    rintro _ w8 ⟨T4,ah,U,aD,n9,c13,b5,ar,aG,c14,⟨J,hm,rfl,aM,_⟩,h5⟩;refine sq2 (pu ?_);refine cB cf107 hm (Z4e (aM.bun (Z1 0 14) [] rfl) h5) ?_;rintro y6 _ _ ce cf ⟨rfl,cw,_⟩ hm;refine pn ?_;refine sq2 (pu ?_);refine cP cf68 hm (Q1o (cw.bun (Z1 1 13) [] rfl)) ?_ ?_
    · rintro _ _ _ _ _ ⟨rfl,cx,_⟩ hm;have hm:=Q0o hm K O;exact pe hm (cx.sel ([1]++Z1 3 10 ++ [2]) rfl)
    rintro _ _ _ _ _ ⟨rfl,cy,_⟩ hm;refine pn ?_;refine sq2 (pu ?_);refine cB Y0n hm (F7 (p0 := {U with t:=ah}) (cy.bun [0,1,2] (Z1 3 10) rfl) Z2 hL1) ?_;rintro _ _ _ _ _ ⟨rfl,cz,_⟩ hm;refine cB cf102 hm (Q0l (p0 := {U with t:=ah}) (cz.bun [0,1,2] (Z1 3 10) rfl) Z2 hL1) ?_;rintro y9 _ cA cC _ ⟨rfl,cD,_⟩ hm;refine pn ?_;refine sq2 (pn ?_);refine lpJ hm (fun bA o2 m a bC => ∃(bD:_) (be:List Int) (ax:_),JR (nf 74) g cA cC a bC bD (loopM bA m (be,ax)=some o2) [(0,pt Y2 Y1),(2,iv p2),(7,.slice a9 n7 c9),(8,iv W),(11,.int .u32 y6.1),(13,iv y9),(25,sv ay y2 c10),(26,iv (List.length y2:Int)),(27,iv W),(55,iv y9),(56,iv ax)] ([K3 (E6 .u8) 5 (.slice a9 n7 c9) be,Y5 R,Q14 pv1 U]++X0 ({U with t:=ah}) Z5 H1 b1 oo1 aD n9 c13 a2 n2 c2 a3 n3 c3 a4 n4 c4 r1 r2 a5 n5 c5 a6 n6 c6 pv1)) (fun _ _ h=>je h (cD.sel (Z1 0 13) rfl)) ?_;rintro bA cE o2 cF _ _ bC ⟨bD,be,ax,J,cG,rfl,bE,_⟩;obtain⟨_,_,rfl,hm,bF⟩:=lrE cG cE;refine sq2 (pn ?_);refine sq2 (cd hm ?_ ?_) <;> intro cX hm
    · refine pn ?_;refine sq2 (blk (sq2 (pn ?_)));obtain⟨_,bf,hm⟩:=bindS hm;have bf:=Y7r bf;obtain⟨u5,cJ,hm⟩:=bindS hm;obtain⟨u6,bG,hm⟩:=bindS hm;obtain rfl:u5=u6:=oI (cJ.symm.trans bG);refine pu ?_;refine pv (Y7j rfl rfl bf) (pu ?_);refine wl rfl (Z6d (q:=0) (j:=0) (u' := IntKind.wrap .u8 (Int.fdiv y6.1 (2 ^ (min (Int.toNat (IntKind.wrap .i64 (8 * ax))) (IntKind.bits .u32))))) bE ⟨rfl,rfl⟩ bG rfl rfl rfl sizeOf5 rfl rfl rfl (fun c0 cL=>by rw [Q0w (r:=(E6 .u8)) cL rfl]; exact rfl) fun cY cZ cM => ?_);exact lg hm bF (cM.sel (Z1 0 13) rfl)
    have hm:=Q6d hm bF cF;exact lg hm K (bE.sel (Z1 0 13) rfl)
  have hm:=Q6d hm K O;exact zr hm aA

instance : Ctr Tryz.prog 74 (type_of% @Q2v):=⟨@Q2v,cf74⟩
theorem Q5i {p0:Q0} {p1:F2} (hS:Q24 a1 a2 a3 a4 a5 a6 b1 oo1 n1 c1 n2 c2 n3 c3 n4 c4 n5 c5 n6 c6 Z5 H1 T0 g w0 pv1 r1 r2 R p0) (Z2:Ln Y2 Y1 Z5) (hL1:Ln b1 oo1 H1) (h1:Q30 a7 c7 T0 w0 p1) (h2:Q7 a8 c8 T0 w0 p1.Init) : ∀ r,H0 p0 p1=some r →
    Calls Tryz.prog 33 #[pt Y2 Y1,Q75 a7 a8 c7 c8 p1] w0 (exR r (fun r=>U7 T0 w0 fun T w v => ∃ a20 n18 c20 a21 n19 c21 a22 n20 c22 a23 n21 c23,v = .tuple #[]∧Sep g T w (R++(Q2 a20 a21 a22 a4 a23 a6 b1 oo1 n18 c20 n19 c21 n20 c22 n4 c4 n21 c23 n6 c6 Z5 H1 pv1 r1 r2 r))∧True) (fun r=>A5 T0 w0 fun T w v => ∃ a20 n18 c20 a21 n19 c21 a22 n20 c22 a23 n21 c23,v = .iface 76 (Q18 r.1.pos r.1.e)∧Sep g T w (R++(Q2 a20 a21 a22 a4 a23 a6 b1 oo1 n18 c20 n19 c21 n20 c22 n4 c4 n21 c23 n6 c6 Z5 H1 pv1 r1 r2 r.2))∧True)):=by
  intro r hm;refine enter func33 rfl ntmps33 rfl fun J => ?_;unfold H0 at hm;refine sq2 (bX (Z5y p1 a7 c7 a8 c8) hS ?_);intro _ b2 O ac;refine pn ?_;refine sq2 (pu ?_);refine cP cf71 hm (Q2a (ac.bun [0,1,12] (Z1 2 10) rfl) Z2 hL1 (h1.mono O) (h2.mono O)) ?_ ?_
  · rintro _ _ _ _ _ ⟨_,_,c19,rfl,ad,_⟩ hm;exact pe hm (ad.sel ([1]++Z1 3 10 ++ [2]) rfl)
  rintro E _ _ _ _ ⟨_,_,c9,rfl,ae,_⟩ hm;refine pn ?_;refine sq2 (Z0c [0,0,1,0,1,0,0,0,1,2] [0,1,2,3,4,5,6,7,8,9] ae (V9 (P8)) fun w3 aG U => ?_);refine pu ?_;obtain⟨D,V,hm⟩:=bindS hm
  rcases D with e2 | D
  · have hm:=K0 hm;refine s2 [] rfl trivial rfl (by kernel_rfl) (Q7m cf72 rfl (Q2b (p0 := {E.2 with fun_:=p0.fun_}) (p1:=p1.Pos) (p2:=p1.Name) (U.bun [0,1,2] (Z1 3 10) rfl) Z2 hL1 _ V) rfl fun v6 T7 aM aN af => ?_);obtain⟨rfl,ag,_⟩:=af;exact pe hm (ag.sel ([1]++Z1 3 10 ++ [2]) rfl)
  have hm:=B8 hm;refine sS [] cf72 (Q2b (p0 := {E.2 with fun_:=p0.fun_}) (U.bun [0,1,2] (Z1 3 10) rfl) Z2 hL1 _ V) ?_;rintro _ _ _ _ ⟨rfl,ah,_⟩;refine pn ?_;refine sq2 (rsS [0,0,0,0,0,1,0,0,1,0,2,2,2,0,0,0,2] [0,1,2,3,4,5,6,7,8,9,10,11,12,13,14,15,16] ah fun w5 aQ ai => ?_);obtain⟨I,aj,hm⟩:=bindS hm;refine sS [(5,.slice a2 n2 c2)] cf73 (Q2r (p0 := {D with fun_:=p0.fun_}) (ai.bun [0,1,2] (Z1 3 10) rfl) Z2 hL1 _ aj) ?_;rintro _ _ _ _ ⟨rfl,ak,_⟩;refine s2W [] ?_;refine obS (r:=Q0i) (l:=([I]:List Q7l)) (css := [(X0u I)]) ak ⟨(Y2t (x:=I)  : Q0i.rp _ _ _ _),trivial⟩ ?_;intro _ _ _ c10 _ am;refine pu ?_;obtain⟨_,an,hm⟩:=bindS hm;refine s2W [0] ?_;refine oaO 7 am (U3 an) ?_;intro _ _ _ c11 _ ao;refine s2W [] ?_;refine osB 4 1 Z2 ao ?_;intro _ _ ap;refine pu ?_;refine se (J3 [(0,pt Y2 Y1),(3,pt b2 0),(4,iv E.1)] ⟨rfl,rfl,rfl,trivial⟩ fun J => ?_);refine sq2 (bS (r:=(E6 .i64)) (l:=([E.1]:List Int)) (css := [[iv E.1]]) ap ⟨rfl,trivial⟩ ?_);intro _ _ _ c12 _ aq;obtain⟨_,ar,hm⟩:=bindS hm;refine aO 13 aq (U3 ar) ?_;intro _ _ _ c13 _ au;refine sB 5 7 Z2 au ?_;intro _ _ av;refine pn ?_;refine Z0c [0,0,0,0,0,1,0,1,0,2,2,2,0,0,0,2] [0,1,2,3,4,5,6,7,8,9,10,11,12,13,14,15] av (P8) fun aR aS W => ?_;refine pu ?_;obtain⟨K,aa,hm⟩:=bindS hm
  rcases K with e1 | K
  · have hm:=K0 hm;refine s2 [(5,.slice a3 n3 c3)] rfl trivial rfl (by kernel_rfl) (Q7m cf74 rfl (Q2v (p0 := {D with u := {D.u with Globals:=D.u.Globals++([I]:List Q7l)},gtypes:=D.gtypes++([E.1]:List Int),fun_:=p0.fun_}) (p1:=p1) (p2:=E.1) (W.bun [3,2] (Z1 5 10 ++ [4]) rfl) Z2 hL1 (h1.mono ch) (h2.mono ch) _ aa) rfl fun v5 T6 aW aX aw => ?_);obtain⟨_,_,c18,rfl,ax,_⟩:=aw;exact pe hm (ax.sel ([0]++Z1 2 11) rfl)
  have hm:=B8 hm;refine sS [(5,.slice a3 n3 c3)] cf74 (Q2v (p0 := {D with u := {D.u with Globals:=D.u.Globals++([I]:List Q7l)},gtypes:=D.gtypes++([E.1]:List Int),fun_:=p0.fun_}) (W.bun [3,2] (Z1 5 10 ++ [4]) rfl) Z2 hL1 (h1.mono ch) (h2.mono ch) _ aa) ?_;rintro _ _ _ _ ⟨ay,_,c14,_,_,c15,rfl,az,_⟩;refine pu ?_;obtain⟨_,_,aA,h3,rfl⟩:=az.sl 13;refine s2W [] ?_;refine obS (r:=(rSl (E6 .u8))) (l:=([K.1]:List (List Int))) (css := [[sv ay K.1 c14]]) aA ⟨⟨_,rfl,h3⟩,trivial⟩ ?_;intro _ _ _ c16 _ aB;refine pu ?_;obtain⟨_,aC,hm⟩:=bindS hm;refine s2W [0] ?_;refine oaO 7 aB (U3 aC) ?_;intro _ _ _ c17 _ aD;refine s2W [] ?_;refine osB 3 2 Z2 aD ?_;intro _ _ aE;refine pu ?_;have hm:=oI hm; subst hm;refine pn ?_;exact Y0x rfl ⟨_,rfl,_,ch,⟨_,_,_,_,_,_,_,_,_,_,_,_,rfl,(aE.sel ([1]++Z1 3 11) rfl).unb,trivial⟩⟩

instance : Ctr Tryz.prog 33 (type_of% @Q5i):=⟨@Q5i,cf33⟩
theorem I1 {p0:Q0} {p1:Pos} {p2:List UInt8} (hS:Q21 a1 a2 a3 a4 a5 a6 b1 oo1 n1 c1 n2 c2 n3 c3 n4 c4 n5 c5 n6 c6 Z5 H1 T0 g w0 pv1 r1 r2 R p0) (Z2:Ln Y2 Y1 Z5) (hL1:Ln b1 oo1 H1) : ∀ r,E9 p0 p1 p2=some r →
    Calls Tryz.prog 72 #[pt Y2 Y1,Q33 p1,Q16 p2.toArray,.map r2] w0 (exR r (fun r=>U7 T0 w0 fun T w v=>v = .tuple #[]∧Q15 a1 a2 a3 a4 a5 a6 b1 oo1 n1 c1 n2 c2 n3 c3 n4 c4 n5 c5 n6 c6 Z5 H1 T g w pv1 r1 r2 R r) (fun r=>A5 T0 w0 (Q43 a1 a2 a3 a4 a5 a6 b1 oo1 n1 c1 n2 c2 n3 c3 n4 c4 n5 c5 n6 c6 Z5 H1 g pv1 r1 r2 R r.1.pos r.1.e r.2))):=by
  intro r hm;refine enter func72 rfl ntmps72 rfl fun J => ?_;unfold E9 at hm;refine sq2 (bX [iv p1.Line,iv p1.Col] hS ?_);intro _ I _ D;refine pn ?_;refine sq2 (pu ?_);refine pv (Z6g (kk:=p2) (u:=0) rfl rfl (D.getA (i:=8) ⟨rfl,rfl⟩) Q9b underlying67 underlying9 zeroValue3 rfl) (pn ?_);refine sq2 (pu ?_);refine pv (Z6g (kk:=p2) (u:=0) rfl rfl (D.getA (i:=9) ⟨rfl,rfl⟩) Q9b underlying67 underlying9 zeroValue3 rfl) (pn ?_);refine sq2 (blk (sq2 (pu ?_)));refine fkC (d:=34) (c:=(((D3 p0.globals p2).isSome) || ((D3 p0.codes p2).isSome))) 2 [(2,.string ⟨p2.toArray⟩),(3,.map r2),(5,pt I 0)] rfl (fun hk => ?_) fun J => ?_
  · rcases Bool.eq_false_or_eq_true ((D3 p0.globals p2).isSome) with E | E
    · exact  gF (d0:=32) rfl rfl (by rw [E]; rfl) (pv (O5 rfl E rfl) (wlR (fun J=>hk J _ (by rw [E]; rfl)) ⟨rfl,rfl,rfl,rfl,trivial⟩))
    exact  gT (d0:=32) rfl rfl E (pv (r_mb rfl) (pv (O6 rfl E rfl) (wlR (fun J=>hk J _ (by rw [E]; rfl)) ⟨rfl,rfl,rfl,rfl,trivial⟩)))
  refine cd hm ?_ ?_ <;> intro U hm
  · exact zr hm D
  refine sq2 (pu ?_);refine pv (r_lnM rfl (D.getA (i:=9) ⟨rfl,rfl⟩) underlying67) (cd hm ?_ ?_) <;> intro V hm
  · exact zr hm D
  refine pn ?_;obtain⟨_,K,hm⟩:=bindS hm;refine pu ?_;refine pv (r_lnM rfl (D.getA (i:=9) ⟨rfl,rfl⟩) underlying67) (wl rfl (muM (q:=9) (k:=p2) (u:=(Z3y p0.codes:Int)) D ⟨rfl,rfl⟩ K rfl rfl rfl Q9b underlying67 underlying9 fun W aa O => ?_));have hm:=oI hm; subst hm;refine pn ?_;exact Y0x rfl ⟨_,rfl,_,ch,⟨rfl,(O.sel (Z1 1 11) rfl).unb,trivial⟩⟩
instance : Ctr Tryz.prog 72 (type_of% @I1):=⟨@I1,cf72⟩
end Go.Proofs.YtfffghclkmbopaaGreat
