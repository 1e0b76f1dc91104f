/- That Go functions compute their models. Printed by gen2.py. -/
import Derived.Test.YtfffghclkmbopaaGreatKWdf
import Derived.Test.YtfffghclkmbopaaGreatKWdb
import Derived.Test.YtfffghclkmbopaaGreatKWdg
import Derived.Test.YtfffghclkmbopaaGreatKWdh
import Derived.Test.YtfffghclkmbopaaGreatKWdc
set_option linter.unusedVariables false
namespace Go.Proofs.YtfffghclkmbopaaGreat
open List renaming length → qQ
open _root_.Go.Proofs.Tryz
set_option maxRecDepth 100000
set_option maxHeartbeats 8000000
attribute [local irreducible] wpList wpQuiet Code.wp
variable{g:World}{T0:Nat->Prop}{w0:World}{R:List X4}
variable{b1 b2 Y5 Q1c Z6c Z6b Z6x c1 c2 c3 c4 c5 c6 c7 c8 c9 c10 c11 c12 c13 n1 n2 n3 n4 n5 n6 n7 Y4 Q1b Z5m Z5l Z6p oo1 oo2:Nat}{H1 H2 Z7 R6 Z3o Z3n Z6f:List Value->X4}{a1 a2 a3 a4 a5 a6 a7 a8 a9 a10 a11 a12 a13:OA}{r1 r2:Option Nat}{pv1:Value}
attribute [local irreducible] A7 Q0r execOp Program.underlying sizeOf isAgg zeroValue

theorem sp3:∀n,Sp3 (F2 n)
 |0=>⟨(by unfold Q3y;intros;rename_i h;cases(show(none:Option _)=some _ from h)),(by unfold Q2y;intros;rename_i h;cases(show(none:Option _)=some _ from h)),(by unfold Q3u;intros;rename_i h;cases(show(none:Option _)=some _ from h)),(by unfold Q4t;intros;rename_i h;cases(show(none:Option _)=some _ from h)),(by unfold Q3c;intros;rename_i h;cases(show(none:Option _)=some _ from h)),(by unfold Q3w;intros;rename_i h;cases(show(none:Option _)=some _ from h)),(by unfold Q3d;intros;rename_i h;cases(show(none:Option _)=some _ from h)),(by unfold Q4r;intros;rename_i h;cases(show(none:Option _)=some _ from h)),(by unfold Q4s;intros;rename_i h;cases(show(none:Option _)=some _ from h)),(by unfold Q2z;intros;rename_i h;cases(show(none:Option _)=some _ from h)),(by unfold Q4p;intros;rename_i h;cases(show(none:Option _)=some _ from h)),(by unfold Q4q;intros;rename_i h;cases(show(none:Option _)=some _ from h)),(by unfold Q3t;intros;rename_i h;cases(show(none:Option _)=some _ from h))⟩
 |n+1=>⟨Z5y (sp3 n),Z4t (sp3 n),Z5u (sp3 n),Z6v (sp3 n),Z4x (sp3 n),Z5v (sp3 n),Z4y (sp3 n),Z6t (sp3 n),Z6u (sp3 n),Z4u (sp3 n),Z6r (sp3 n),Z6s (sp3 n),Z5t (sp3 n)⟩
theorem Q5r:Q3y V5:=(sp3 NN).V5
theorem Z4e:Q2y V2:=(sp3 NN).V2
theorem Y6d:Q3u E8:=(sp3 NN).E8
theorem Y7s:Q4t G4:=(sp3 NN).G4
theorem Y5g:Q3c F5:=(sp3 NN).F5
theorem Y6e:Q3w F1:=(sp3 NN).F1
theorem Y5h:Q3d F6:=(sp3 NN).F6
theorem Y7q:Q4r B6:=(sp3 NN).B6
theorem Y7r:Q4s B7:=(sp3 NN).B7
theorem Y5d:Q2z F4:=(sp3 NN).F4
theorem Y7p:Q4p B4:=(sp3 NN).B4
theorem Z5w:Q4q U0:=(sp3 NN).U0
theorem F3:Q3t Z3:=(sp3 NN).Z3

theorem Q9o{p0}(hS:Sep g T0 w0 [X3 R]):∀r,Q3n p0=some r->
 Cl 168 #[iv p0] w0 (Q25 T0 w0 g R r):=by
 intro r hm;refine eN Tryz.func168 Tryz.ntmps168 fun J=>?_;unfold Q3n at hm;refine qN ?_;refine sq2 (qN ?_);refine blk (sq2 (cd hm ?_ ?_))<;>intro ac hm
 . exact sq2 (re hm (hS.sE [0]))
 refine S9 hm (fun O a D=>∃E I,JR (nf 15) g T0 w0 a D E (O I=some r) [(3,iv p0),(6,.bool I)] [X3 R]) (fun O hm=>?_) ?_
 . exact zr hm hS
 rintro _ D ⟨E,I,J,hm,rfl,U,_⟩;refine cd hm ?_ ?_<;>intro ad hm
 . exact sq2 (re hm (U.sE [0]))
 refine S9 hm (fun V a W=>∃T2 K,JR (nf 15) g E D a W T2 (V K=some r) [(3,iv p0),(9,.bool K)] [X3 R]) (fun V hm=>?_) ?_
 . exact zr hm U
 rintro _ W ⟨T2,K,J,hm,rfl,ab,_⟩;exact zr hm ab

instance:Ct 168 @Q9o:=⟨@Q9o,cf168⟩
def Q9c(F:Y1->Option (Bool)):Prop:=∀{g:World}{T0:TP}{w0:World}{R:List X4}{p0:Y1}{a1 c1}(hS:Sep g T0 w0 [X3 R])(h1:Q10 a1 c1 T0 w0 p0.Kids),∀r,F p0=some r->
 Cl 141 #[Q62 a1 c1 p0] w0 (Q17 T0 w0 g R r)
structure Sp4(G:Rec4):Prop where
 P0:Q9c G.P0
theorem Y2a{G:Rec4}(hG:Sp4 G):Q9c (Q2o G):=by
 intro g _ _ R D a1 c1 hS h1 r hm;refine eN Tryz.func141 Tryz.ntmps141 fun J=>?_;unfold Q2o at hm;refine sq2 (bX (U4 D a1 c1) hS ?_);intro _ _ _ W;refine kE ?_;refine sq2 (rsS [0,1,0,0,1,2,0] [0,1,2,3,4,5,6] W fun w2 ai aa=>?_);obtain⟨_,ab,hm⟩:=Z9 hm;refine sS [(1,sv a1 D.Kids c1)] cf168 (Q9o (aa.bE [0,1] []) _ ab) ?_;rintro _ T1 w3 _ ⟨rfl,I,_⟩;refine cd hm ?_ ?_<;>intro aj hm
 . exact sq2 (re hm (I.sE [1]))
 refine kC ?_;refine lpJ hm (fun K O m a U=>∃V E,JR (nf 23) g T1 w3 a U V (X8 K m E=some O) [(13,sv a1 D.Kids c1),(14,iv (qQ D.Kids:Int)),(15,iv E)] [X3 R]) (fun _ _ h=>je h (I.sE [1])) ?_;rintro K ae O _ _ _ U ⟨V,E,J,af,rfl,ag,_⟩;obtain⟨m1,_,rfl,hm,_⟩:=lrE af ae;have ak:Ctr Tryz.prog 141 (type_of%@hG.P0):=⟨@hG.P0,cf141⟩;have dd:KD [(5,[4])]:=⟨qZt⟩;exact zr hm ag
theorem sp4:∀n,Sp4 (Y1t n)
 |0=>⟨(by unfold Q9c;intros;rename_i h;cases(show(none:Option _)=some _ from h))⟩
 |n+1=>⟨Y2a (sp4 n)⟩
theorem Y1l:Q9c P0:=(sp4 NN).P0

theorem Y0o{p0 p1}(hS:Sep g T0 w0 [X3 R]):∀r,Y3e p0 p1=some r->
 Cl 184 #[.int .u32 p0,.int .u32 p1] w0 (Q28 T0 w0 g R r):=by
 intro r hm;refine eN Tryz.func184 Tryz.ntmps184 fun J=>?_;unfold Y3e at hm;exact zr hm hS

instance:Ct 184 @Y0o:=⟨@Y0o,cf184⟩
theorem Y0j{p0 p1}(hS:Sep g T0 w0 [X3 R]):∀r,Y0k p0 p1=some r->
 Cl 185 #[.int .u32 p0,.int .u32 p1] w0 (Q28 T0 w0 g R r):=by
 intro r hm;refine eN Tryz.func185 Tryz.ntmps185 fun J=>?_;unfold Y0k at hm;exact zr hm hS

instance:Ct 185 @Y0j:=⟨@Y0j,cf185⟩
theorem Y0m{p0 p1}(hS:Sep g T0 w0 [X3 R]):∀r,Y3d p0 p1=some r->
 Cl 186 #[.int .u32 p0,.int .u32 p1] w0 (Q28 T0 w0 g R r):=by
 intro r hm;refine eN Tryz.func186 Tryz.ntmps186 fun J=>?_;unfold Y3d at hm;exact zr hm hS

instance:Ct 186 @Y0m:=⟨@Y0m,cf186⟩
theorem Z7c{p0 p1}(hS:Sep g T0 w0 [X3 R]):∀r,Z5c p0 p1=some r->
 Cl 194 #[iv p0,iv p1] w0 (Q25 T0 w0 g R r):=by
 intro r hm;refine eN Tryz.func194 Tryz.ntmps194 fun J=>?_;unfold Z5c at hm;exact zr hm hS

instance:Ct 194 @Z7c:=⟨@Z7c,cf194⟩
theorem Z6g{p0 p1}(hS:Sep g T0 w0 [X3 R]):∀r,Z3q p0 p1=some r->
 Cl 193 #[.int .u32 p0,.int .u32 p1,.func (.func 194) #[] #[]] w0 (Q25 T0 w0 g R r):=by
 intro r hm;refine eN Tryz.func193 Tryz.ntmps193 fun J=>?_;unfold Z3q at hm;exact zr hm hS

instance:Ct 193 @Z6g:=⟨@Z6g,cf193⟩
theorem Y0n{p0 p1}(hS:Sep g T0 w0 [X3 R]):∀r,Z7d p0 p1=some r->
 Cl 187 #[.int .u32 p0,.int .u32 p1] w0 (Q28 T0 w0 g R r):=by
 intro r hm;refine eN Tryz.func187 Tryz.ntmps187 fun J=>?_;unfold Z7d at hm;exact zr hm hS

instance:Ct 187 @Y0n:=⟨@Y0n,cf187⟩
theorem Z7a{p0 p1}(hS:Sep g T0 w0 [X3 R]):∀r,Z5b p0 p1=some r->
 Cl 195 #[iv p0,iv p1] w0 (Q25 T0 w0 g R r):=by
 intro r hm;refine eN Tryz.func195 Tryz.ntmps195 fun J=>?_;unfold Z5b at hm;exact zr hm hS

instance:Ct 195 @Z7a:=⟨@Z7a,cf195⟩
theorem Z3p{p0 p1}(hS:Sep g T0 w0 [X3 R]):∀r,Z1m p0 p1=some r->
 Cl 193 #[.int .u32 p0,.int .u32 p1,.func (.func 195) #[] #[]] w0 (Q25 T0 w0 g R r):=by
 intro r hm;refine eN Tryz.func193 Tryz.ntmps193 fun J=>?_;unfold Z1m at hm;exact zr hm hS

instance:Ct 193 @Z3p:=⟨@Z3p,cf193⟩
theorem Y0l{p0 p1}(hS:Sep g T0 w0 [X3 R]):∀r,Z7b p0 p1=some r->
 Cl 188 #[.int .u32 p0,.int .u32 p1] w0 (Q28 T0 w0 g R r):=by
 intro r hm;refine eN Tryz.func188 Tryz.ntmps188 fun J=>?_;unfold Z7b at hm;exact zr hm hS

instance:Ct 188 @Y0l:=⟨@Y0l,cf188⟩
theorem Z9h{p0 p1}(hS:Sep g T0 w0 [X3 R]):∀r,Z4g p0 p1=some r->
 Cl 189 #[.int .u32 p0,.int .u32 p1] w0 (Q28 T0 w0 g R r):=by
 intro r hm;refine eN Tryz.func189 Tryz.ntmps189 fun J=>?_;unfold Z4g at hm;refine qN ?_;refine sq2 ?_;obtain⟨_,D,hm⟩:=Z9 hm;have D:=Y7i D;refine pu ?_;exact pv (X0f rfl rfl D) (re hm (hS.sE [0]))

instance:Ct 189 @Z9h:=⟨@Z9h,cf189⟩
theorem Z6h{p0 p1}(hS:Sep g T0 w0 [X3 R]):∀r,Z1s p0 p1=some r->
 Cl 190 #[.int .u32 p0,.int .u32 p1] w0 (Q28 T0 w0 g R r):=by
 intro r hm;refine eN Tryz.func190 Tryz.ntmps190 fun J=>?_;unfold Z1s at hm;refine qN ?_;refine sq2 ?_;obtain⟨_,D,hm⟩:=Z9 hm;have D:=Y7i D;refine pu ?_;exact pv (Y6y rfl rfl D) (re hm (hS.sE [0]))

instance:Ct 190 @Z6h:=⟨@Z6h,cf190⟩
theorem Z9o{p0}(hS:Sep g T0 w0 [X3 R]):∀r,Q6v p0=some r->
 Cl 170 #[.bool p0] w0 (Q28 T0 w0 g R r):=by
 intro r hm;refine eN Tryz.func170 Tryz.ntmps170 fun J=>?_;unfold Q6v at hm;exact zr hm hS

instance:Ct 170 @Z9o:=⟨@Z9o,cf170⟩
theorem Y0h{p0}(hS:Sep g T0 w0 [X3 R]):∀r,Y0i p0=some r->
 Cl 198 #[.bool p0] w0 (Q28 T0 w0 g R r):=by
 intro r hm;refine eN Tryz.func198 Tryz.ntmps198 fun J=>?_;unfold Y0i at hm;exact zr hm hS

instance:Ct 198 @Y0h:=⟨@Y0h,cf198⟩
theorem Z9g{p0 p1}(hS:Sep g T0 w0 [X3 R]):∀r,Q9q p0 p1=some r->
 Cl 196 #[.int .u32 p0,.int .u32 p1] w0 (Q28 T0 w0 g R r):=by
 intro r hm;refine eN Tryz.func196 Tryz.ntmps196 fun J=>?_;unfold Q9q at hm;exact zr hm hS

instance:Ct 196 @Z9g:=⟨@Z9g,cf196⟩
theorem Z3w{p0 p1 p2}(hS:Sep g T0 w0 [X3 R]):∀r,Q8w p0 p1 p2=some r->
 Cl 191 #[iv p0,.int .u32 p1,.int .u32 p2] w0 (Q50 T0 w0 g R r.1 r.2):=by
 intro r hm;refine eN Tryz.func191 Tryz.ntmps191 fun J=>?_;unfold Q8w at hm;exact zr hm hS

instance:Ct 191 @Z3w:=⟨@Z3w,cf191⟩
theorem Z6k{p0 p1 p2}(hS:Sep g T0 w0 [X3 R]):∀r,Q7z p0 p1 p2=some r->
 Cl 169 #[iv p0,.int .u32 p1,.int .u32 p2] w0 (Q50 T0 w0 g R r.1 r.2):=by
 intro r hm;refine eN Tryz.func169 Tryz.ntmps169 fun J=>?_;unfold Q7z at hm;refine qN ?_;refine sq2 (qN ?_);refine blk (sq2 (cd hm ?_ ?_))<;>intro U hm
 . exact zr hm hS
 refine sq2 (cd hm ?_ ?_)<;>intro V hm
 . exact zr hm hS
 refine sq2 (cd hm ?_ ?_)<;>intro W hm
 . exact zr hm hS
 refine S9 hm (fun E a I=>∃K D,JR (nf 81) g T0 w0 a I K (E D=some r) [(0,iv p0),(1,.int .u32 p1),(2,.int .u32 p2),(8,iv p0),(24,.bool D)] [X3 R]) (fun E hm=>?_) ?_
 . exact zr hm hS
 rintro _ I ⟨K,D,J,hm,rfl,O,_⟩;exact zr hm O

instance:Ct 169 @Z6k:=⟨@Z6k,cf169⟩
def Z2u(F:Y1->Option (Int×Int)):Prop:=∀{g:World}{T0:TP}{w0:World}{R:List X4}{p0:Y1}{a1 c1}(hS:Sep g T0 w0 [X3 R])(h1:Q10 a1 c1 T0 w0 p0.Kids),∀r,F p0=some r->
 Cl 142 #[Q62 a1 c1 p0] w0 (Q50 T0 w0 g R r.1 r.2)
structure Sp5(G:Rec5):Prop where
 I7:Z2u G.I7
theorem Y5c{G:Rec5}(hG:Sp5 G):Z2u (Z0p G):=by
 intro g _ _ R I a1 c1 hS h1 r hm;refine eN Tryz.func142 Tryz.ntmps142 fun J=>?_;unfold Z0p at hm;refine sq2 (bX (U4 I a1 c1) hS ?_);intro _ E _ K;refine pn ?_;refine sq2 (sq2 (cd hm ?_ ?_))<;>intro am hm
 . exact sq2 (re hm (K.sE [1]))
 refine pn ?_;refine sq2 ?_;obtain⟨u1,ag,hm⟩:=Z9 hm;obtain⟨cs1,ah,_,hT1⟩:=ixS K ag h1;obtain⟨_,c2,rfl,h2⟩:=Q9r ah;refine pu ?_;refine cB cf142 hm (hG.I7 (K.bE [0,1] []) h2) ?_;rintro U _ V W _ ⟨rfl,D,_⟩ hm;refine pn ?_;refine sq2 (sq2 (cd hm ?_ ?_))<;>intro an hm
 . exact sq2 (re hm (D.sE [1]))
 refine pn ?_;refine S9 hm (fun aa a w3=>∃T2,JR (nf 93) g V W a w3 T2 (aa ()=some r) [(1,pt E 0),(4,.int .u32 U.1)] [Q68 a1 E c1 I,X3 R]) (fun aa hm=>?_) ?_
 . refine qN ?_;refine blk (sq2 (cd hm ?_ ?_))<;>intro ao hm
   . exact zr hm D
   refine sq2 (cd hm ?_ ?_)<;>intro ap hm
   . exact zr hm D
   refine sq2 (cd hm ?_ ?_)<;>intro aq hm
   . have ai:Ctr Tryz.prog 142 (type_of%@hG.I7):=⟨@hG.I7,cf142⟩;exact zr hm D
   refine S9 hm (fun ad a w7=>∃T6 O,JR (nf 93) g V W a w7 T6 (ad O=some r) [(1,pt E 0),(4,.int .u32 U.1),(55,.bool O)] [Q68 a1 E c1 I,X3 R]) (fun ad hm=>?_) ?_
   . exact zr hm D
   rintro _ w7 ⟨T6,O,J,hm,rfl,aj,_⟩;exact zr hm aj
 rintro _ w3 ⟨T2,J,hm,rfl,ak,_⟩;have ai:Ctr Tryz.prog 142 (type_of%@hG.I7):=⟨@hG.I7,cf142⟩;exact zr hm ak
theorem sp5:∀n,Sp5 (rec5 n)
 |0=>⟨(by unfold Z2u;intros;rename_i h;cases(show(none:Option _)=some _ from h))⟩
 |n+1=>⟨Y5c (sp5 n)⟩
theorem Y4p:Z2u I7:=(sp5 NN).I7

theorem Z3l{p0:Y1}(hS:Sep g T0 w0 [X3 R])(h1:Q10 a1 c1 T0 w0 p0.Kids):∀r,Z3m p0=some r->
 Cl 107 #[Q62 a1 c1 p0] w0 (Q50 T0 w0 g R r.1 r.2):=by
 intro r hm;refine eN Tryz.func107 Tryz.ntmps107 fun J=>?_;unfold Z3m at hm;refine sq2 (bX (U4 p0 a1 c1) hS ?_);intro _ _ _ E;refine kB ?_;refine cB cf141 hm (Y1l (E.bE [0,1] []) (mC h1)) ?_;rintro _ _ _ _ _ ⟨rfl,D,_⟩ hm;refine cd hm ?_ ?_<;>intro K hm
 . exact sq2 (re hm (D.sE [1]))
 refine kA ?_;refine cB cf142 hm (Y4p (D.bE [1] []) (mC h1)) ?_;rintro _ _ _ _ _ ⟨rfl,I,_⟩ hm;exact re hm (I.sE [0])

instance:Ct 107 @Z3l:=⟨@Z3l,cf107⟩
theorem Q6n{p0:Q0}{p1:G9}{p2}(hS:Q22 a1 a2 a3 a4 a5 a6 b1 oo1 n1 c1 n2 c2 n3 c3 n4 c4 n5 c5 n6 c6 Z7 H1 T0 g w0 pv1 r1 r2 R p0)(Z2:Ln Y5 Y4 Z7)(hL1:Ln b1 oo1 H1)(h1:Q37 a7 c7 T0 w0 p1)(h2:Q8 a8 c8 T0 w0 p1.Init):∀r,Q3p p0 p1 p2=some r->
 Cl 74 #[pt Y5 Y4,Q77 a7 a8 c7 c8 p1,iv p2] w0 (exR r (fun r=>J1 T0 w0 fun T w v=>∃a24 n14 c24 a25 n15 c25,v= .slice a24 n14 c24/\Sep g T w (R++(X7 r.2 Z7 H1 b1 oo1 a25 n15 c25 a2 n2 c2 a3 n3 c3 a4 n4 c4 r1 r2 a5 n5 c5 a6 n6 c6 pv1++[Q14 pv1 r.2,G6 (N7 .u8) 5 (.slice a24 n14 c24) r.1]))/\True) (fun r=>L0 T0 w0 (Q4 a2 a3 a4 a5 a6 b1 oo1 n2 c2 n3 c3 n4 c4 n5 c5 n6 c6 Z7 H1 g pv1 r1 r2 R r.1.pos r.1.e r.2))):=by
 intro r hm;refine eN Tryz.func74 Tryz.ntmps74 fun J=>?_;unfold Q3p at hm;refine sq2 (bX (Z8m p1 a7 c7 a8 c8) hS ?_);intro _ _ _ bL;refine kA ?_;refine cB Q8o hm (V8 (bL.bE ([0,1,2]++Z4 5 8) [3,4]) hL1) ?_;rintro _ _ _ _ _ ⟨rfl,bM,_⟩ hm;obtain⟨u1,bN,hm⟩:=Z9 hm;refine wl rfl (msS (r:=(N7 .u8)) bM rfl rfl underlying51 el5 zeroValue5 rfl bN fun w3 a9 n7 c9 cW bO=>pn ?_);refine sq2 (qU ?_);refine cP cf103 hm (Q2l (bO.bE [0,2,11] ([3,12,13]++Z4 4 7)) Z2 hL1 (mC h1) (mC h2)) ?_ ?_
 . exact zk
 rintro y2 _ T2 w4 _ ⟨ay,c10,rfl,bR,h3,_⟩ hm;refine pn ?_;refine lpJ hm (fun be o1 m a w5=>∃T3 I E x1 bh n8 c11 W,JR (nf 74) g T2 w4 a w5 T3 (X8 be m (x1,W,E,I)=some o1) [(0,pt Y5 Y4),(2,iv p2),(7,.slice a9 n7 c9),(25,sv ay y2 c10),(26,iv (qQ y2:Int)),(27,iv W)] ([G6 (N7 .u8) 5 (.slice a9 n7 c9) x1,X3 R,Q14 pv1 E]++X7 ({E with t:=I}) Z7 H1 b1 oo1 bh n8 c11 a2 n2 c2 a3 n3 c3 a4 n4 c4 r1 r2 a5 n5 c5 a6 n6 c6 pv1)) (fun _ _ h=>je h (bR.sN 0 13)) ?_;rintro be bU o1 O _ _ w5 ⟨T3,I,E,x1,bh,n8,c11,W,J,bV,rfl,aA,_⟩;obtain⟨m1,z1,rfl,hm,K⟩:=lrE bV bU;refine qN ?_;refine sq2 (cd hm ?_ ?_)<;>intro cX hm
 . refine kE ?_;refine blk (sq2 ?_);obtain⟨u2,bZ,hm⟩:=Z9 hm;obtain⟨cs1,b0,_,hT1⟩:=ixS aA bZ h3;obtain⟨b3,c12,rfl,D⟩:=G7 b0;refine aL zv2 aA ?_;intro _ b4 _ b8;refine sT 0 b8 ?_;intro w7 _ cc;refine pn ?_;refine S9 hm (fun bk a w8=>∃T4 ah U aD n9 c13 b5 au aG c14,JR (nf 74) g T3 w7 a w8 T4 (bk U ah au=some z1) [(0,pt Y5 Y4),(2,iv p2),(7,.slice a9 n7 c9),(8,iv W),(9,pt b4 0),(10,pt b5 0),(25,sv ay y2 c10),(26,iv (qQ y2:Int)),(27,iv W)] ([Q21 b3 b4 c12 u2,G6 (N7 .u8) 5 (.slice a9 n7 c9) x1,X3 R,Q14 pv1 U]++(X7 ({U with t:=ah}) Z7 H1 b1 oo1 aD n9 c13 a2 n2 c2 a3 n3 c3 a4 n4 c4 r1 r2 a5 n5 c5 a6 n6 c6 pv1++[Q68 aG b5 c14 au]))/\Q10 aG c14 T4 w8 au.Kids) (fun bk hm=>?_) ?_
   . refine rtPS [0,1,0,1,2,0,0,2,2,2,2] [0,1,2,3,5,6,4,7,8,9,10] cc (U5 (Q0a (U5 (U5 (Q0a (U5 (C7))))))) fun w9 cZ ai=>pu ?_;obtain⟨y3,aj,hm⟩:=Z9 hm
     rcases y3 with e1|y3
     . have hm:=J4 hm;refine tF [4,9] ?_;refine⟨?_,?_,qZt⟩
       . refine brW [7,8,9,10] [0] ?_;refine oP I0 (F3 (p0:={E with t:=I}) (ai.bE [0,1,2] (Z4 4 10++[3])) Z2 hL1 (mC D) _ aj) ?_;rintro _ ce _ _ ⟨cf,cg,c23,rfl,ci,_⟩;have hm:=Q4j hm K O;exact pe hm (ci.sN 2 12)
       refine brW [4,7,8,10] [] ?_;refine oaL zv3 ai ?_;intro aI b7 aK aa;refine t1W [4] [7,8,10] [0] ?_;refine oP I0 (F3 (p0:={E with t:=I}) (aa.bE (Z4 0 4) (Z4 5 10++[4])) Z2 hL1 (mC D) _ aj) ?_;rintro _ ce cj ck ⟨cf,cg,c23,rfl,aM,_⟩;have hm:=Q4j hm K O;exact pe hm (aM.sN 3 12)
     have hm:=C4 hm;obtain⟨_,ak,hm⟩:=Z9 hm;obtain⟨y5,V,hm⟩:=Z9 hm
     rcases y5 with e2|y5
     . have hm:=J4 hm;refine tF [4,9] ?_;refine⟨?_,?_,qZt⟩
       . refine brW [7,8,9,10] [0] ?_;refine oS I0 (F3 (p0:={E with t:=I}) (ai.bE [0,1,2] (Z4 4 10++[3])) Z2 hL1 (mC D) _ aj) ?_;rintro _ T8 cm cn ⟨cp,c18,cq,cr,c19,rfl,av,h8,_⟩;refine tF [7,9] ?_;refine⟨?_,?_,qZt⟩
         . refine brW [8,9,10] [] ?_;refine oS Z9p (E5 (av.bE [0,1,2,13] (Z4 3 10)) Z2 hL1 _ ak) ?_;rintro _ T9 bo bp ⟨rfl,am,_⟩;refine tF [8,9] ?_;refine⟨?_,?_,qZt⟩
           . refine brW [9,10] [0] ?_;refine oP Z2m (U3 (am.bE (Z4 0 4) (Z4 4 10)) Z2 hL1 (mC D) (mC h8) _ V) ?_;rintro _ aN _ _ ⟨rfl,ct,_⟩;have hm:=Q4j hm K O;exact pe hm (ct.sE ([2]++Z4 4 10++[3]))
           refine brW [8,10] [] ?_;refine oaL zv3 am ?_;intro bq b7 bt ap;refine t1W [8] [10] [0] ?_;refine oP Z2m (U3 (ap.bE (Z4 0 5) (Z4 5 10)) Z2 hL1 (mC D) (mC h8) _ V) ?_;rintro _ aN aI aK ⟨rfl,aa,_⟩;have hm:=Q4j hm K O;exact pe hm (aa.sE ([3]++Z4 5 10++[4]))
         refine brW [7,8,10] [] ?_;refine oaL zv3 av ?_;intro bo b7 bp am;refine t1W [7] [8,10] [] ?_;refine oS Z9p (E5 (am.bE [0,1,2,3,14] (Z4 4 10)) Z2 hL1 _ ak) ?_;rintro _ T9 bq bt ⟨rfl,ap,_⟩;refine t1W [8] [10] [0] ?_;refine oP Z2m (U3 (ap.bE (Z4 0 5) (Z4 5 10)) Z2 hL1 (mC D) (mC h8) _ V) ?_;rintro _ aN aI aK ⟨rfl,aa,_⟩;have hm:=Q4j hm K O;exact pe hm (aa.sE ([3]++Z4 5 10++[4]))
       refine brW [4,7,8,10] [] ?_;refine oaL zv3 ai ?_;intro cm b7 cn av;refine t1W [4] [7,8,10] [0] ?_;refine oS I0 (F3 (p0:={E with t:=I}) (av.bE (Z4 0 4) (Z4 5 10++[4])) Z2 hL1 (mC D) _ aj) ?_;rintro _ T8 bo bp ⟨cp,c18,cq,cr,c19,rfl,am,h8,_⟩;refine t1W [7] [8,10] [] ?_;refine oS Z9p (E5 (am.bE [0,1,2,3,14] (Z4 4 10)) Z2 hL1 _ ak) ?_;rintro _ T9 bq bt ⟨rfl,ap,_⟩;refine t1W [8] [10] [0] ?_;refine oP Z2m (U3 (ap.bE (Z4 0 5) (Z4 5 10)) Z2 hL1 (mC D) (mC h8) _ V) ?_;rintro _ aN aI aK ⟨rfl,aa,_⟩;have hm:=Q4j hm K O;exact pe hm (aa.sE ([3]++Z4 5 10++[4]))
     have hm:=C4 hm;refine tF [4,9] ?_;refine⟨?_,?_,qZt⟩
     . refine brW [7,8,9,10] [0] ?_;refine oS I0 (F3 (p0:={E with t:=I}) (ai.bE [0,1,2] (Z4 4 10++[3])) Z2 hL1 (mC D) _ aj) ?_;rintro _ T5 cv cw ⟨cx,c15,cy,cz,c16,rfl,aw,h6,_⟩;refine tF [7,9] ?_;refine⟨?_,?_,qZt⟩
       . refine brW [8,9,10] [] ?_;refine oS Z9p (E5 (aw.bE [0,1,2,13] (Z4 3 10)) Z2 hL1 _ ak) ?_;rintro _ T6 bv bw ⟨rfl,an,_⟩;refine tF [8,9] ?_;refine⟨?_,?_,qZt⟩
         . refine brW [9,10] [0] ?_;refine oS Z2m (U3 (an.bE (Z4 0 4) (Z4 4 10)) Z2 hL1 (mC D) (mC h6) _ V) ?_;rintro _ T7 aQ aR ⟨aS,c17,rfl,ab,h7,_⟩;refine t1W [9] [10] [] ?_;refine oaL zv3 ab ?_;intro aU b6 aW ac;refine t1W [10] [] [] ?_;refine osT 0 ac ?_;intro aX aY ad;refine pu ?_;exact je hm (ad.sE (Z4 1 14++[0]))
         refine brW [8,10] [] ?_;refine oaL zv3 an ?_;intro aQ b6 aR ab;refine t1W [8] [10] [0] ?_;refine oS Z2m (U3 (ab.bE (Z4 0 5) (Z4 5 10)) Z2 hL1 (mC D) (mC h6) _ V) ?_;rintro _ T7 aU aW ⟨aS,c17,rfl,ac,h7,_⟩;refine t1W [10] [] [] ?_;refine osT 0 ac ?_;intro aX aY ad;refine pu ?_;exact je hm (ad.sE (Z4 1 14++[0]))
       refine brW [7,8,10] [] ?_;refine oaL zv3 aw ?_;intro bv b6 bw an;refine t1W [7] [8,10] [] ?_;refine oS Z9p (E5 (an.bE [0,1,2,3,14] (Z4 4 10)) Z2 hL1 _ ak) ?_;rintro _ T6 aQ aR ⟨rfl,ab,_⟩;refine t1W [8] [10] [0] ?_;refine oS Z2m (U3 (ab.bE (Z4 0 5) (Z4 5 10)) Z2 hL1 (mC D) (mC h6) _ V) ?_;rintro _ T7 aU aW ⟨aS,c17,rfl,ac,h7,_⟩;refine t1W [10] [] [] ?_;refine osT 0 ac ?_;intro aX aY ad;refine pu ?_;exact je hm (ad.sE (Z4 1 14++[0]))
     refine brW [4,7,8,10] [] ?_;refine oaL zv3 ai ?_;intro cv b6 cw aw;refine t1W [4] [7,8,10] [0] ?_;refine oS I0 (F3 (p0:={E with t:=I}) (aw.bE (Z4 0 4) (Z4 5 10++[4])) Z2 hL1 (mC D) _ aj) ?_;rintro _ T5 bv bw ⟨cx,c15,cy,cz,c16,rfl,an,h6,_⟩;refine t1W [7] [8,10] [] ?_;refine oS Z9p (E5 (an.bE [0,1,2,3,14] (Z4 4 10)) Z2 hL1 _ ak) ?_;rintro _ T6 aQ aR ⟨rfl,ab,_⟩;refine t1W [8] [10] [0] ?_;refine oS Z2m (U3 (ab.bE (Z4 0 5) (Z4 5 10)) Z2 hL1 (mC D) (mC h6) _ V) ?_;rintro _ T7 aU aW ⟨aS,c17,rfl,ac,h7,_⟩;refine t1W [10] [] [] ?_;refine osT 0 ac ?_;intro aX aY ad;refine pu ?_;exact je hm (ad.sE (Z4 1 14++[0]))
   rintro _ w8 ⟨T4,ah,U,aD,n9,c13,b5,au,aG,c14,⟨J,hm,rfl,aM,_⟩,h5⟩;refine qU ?_;refine cB cf107 hm (Z3l (aM.bE (Z4 0 14) []) h5) ?_;rintro y6 _ _ cj ck ⟨rfl,cC,_⟩ hm;refine kA ?_;refine cP cf68 hm (Q1x (cC.bE (Z4 1 13) [])) ?_ ?_
   . rintro _ _ _ _ _ ⟨rfl,cD,_⟩ hm;have hm:=Q4j hm K O;exact pe hm (cD.sE ([1]++Z4 3 10++[2]))
   rintro _ _ _ _ _ ⟨rfl,cE,_⟩ hm;refine kA ?_;refine cB Z9p hm (E5 (p0:={U with t:=ah}) (cE.bE [0,1,2] (Z4 3 10)) Z2 hL1) ?_;rintro _ _ _ _ _ ⟨rfl,cF,_⟩ hm;refine cB cf102 hm (Q0w (p0:={U with t:=ah}) (cF.bE [0,1,2] (Z4 3 10)) Z2 hL1) ?_;rintro y9 _ cG cI _ ⟨rfl,cJ,_⟩ hm;refine kD ?_;refine lpJ hm (fun bC o2 m a bF=>∃bG aZ ax,JR (nf 74) g cG cI a bF bG (X8 bC m (aZ,ax)=some o2) [(0,pt Y5 Y4),(2,iv p2),(7,.slice a9 n7 c9),(8,iv W),(11,.int .u32 y6.1),(13,iv y9),(25,sv ay y2 c10),(26,iv (qQ y2:Int)),(27,iv W),(55,iv y9),(56,iv ax)] ([G6 (N7 .u8) 5 (.slice a9 n7 c9) aZ,X3 R,Q14 pv1 U]++X7 ({U with t:=ah}) Z7 H1 b1 oo1 aD n9 c13 a2 n2 c2 a3 n3 c3 a4 n4 c4 r1 r2 a5 n5 c5 a6 n6 c6 pv1)) (fun _ _ h=>je h (cJ.sN 0 13)) ?_;rintro bC cK o2 cL _ _ bF ⟨bG,aZ,ax,J,cM,rfl,bI,_⟩;obtain⟨_,_,rfl,hm,bJ⟩:=lrE cM cK;refine qN ?_;refine sq2 (cd hm ?_ ?_)<;>intro dc hm
   . refine kE ?_;refine blk (qN ?_);obtain⟨_,ba,hm⟩:=Z9 hm;have ba:=Y7i ba;obtain⟨u5,cQ,hm⟩:=Z9 hm;obtain⟨u6,bK,hm⟩:=Z9 hm;obtain rfl:u5=u6:=oI (cQ.symm.trans bK);refine pu ?_;refine pv (Y6y rfl rfl ba) (pu ?_);refine wl rfl (Y1q (q:=0) (j:=0) (u':=IntKind.wrap .u8 (Int.fdiv y6.1 (2^(min (Int.toNat (IntKind.wrap .i64 (8*ax))) (IntKind.bits .u32))))) bI ⟨rfl,rfl⟩ bK rfl rfl rfl sizeOf5 rfl rfl rfl (fun c0 cT=>by rw[Q9f (r:=(N7 .u8)) cT rfl];exact rfl) fun dd de cU=>?_);exact lg hm bJ (cU.sN 0 13)
   have hm:=Z0r hm bJ cL;exact lg hm K (bI.sN 0 13)
 have hm:=Z0r hm K O;exact zr hm aA

instance:Ct 74 @Q6n:=⟨@Q6n,cf74⟩
theorem Q4z{p0:Q0}{p1:G9}(hS:Q22 a1 a2 a3 a4 a5 a6 b1 oo1 n1 c1 n2 c2 n3 c3 n4 c4 n5 c5 n6 c6 Z7 H1 T0 g w0 pv1 r1 r2 R p0)(Z2:Ln Y5 Y4 Z7)(hL1:Ln b1 oo1 H1)(h1:Q37 a7 c7 T0 w0 p1)(h2:Q8 a8 c8 T0 w0 p1.Init):∀r,L6 p0 p1=some r->
 Cl 33 #[pt Y5 Y4,Q77 a7 a8 c7 c8 p1] w0 (exR r (fun r=>J1 T0 w0 fun T w v=>∃a20 n18 c20 a21 n19 c21 a22 n20 c22 a23 n21 c23,v= .tuple #[]/\Sep g T w (R++(Q2 a20 a21 a22 a4 a23 a6 b1 oo1 n18 c20 n19 c21 n20 c22 n4 c4 n21 c23 n6 c6 Z7 H1 pv1 r1 r2 r))/\True) (fun r=>L0 T0 w0 fun T w v=>∃a20 n18 c20 a21 n19 c21 a22 n20 c22 a23 n21 c23,v= .iface 76 (Q18 r.1.pos r.1.e)/\Sep g T w (R++(Q2 a20 a21 a22 a4 a23 a6 b1 oo1 n18 c20 n19 c21 n20 c22 n4 c4 n21 c23 n6 c6 Z7 H1 pv1 r1 r2 r.2))/\True)):=by
 intro r hm;refine eN Tryz.func33 Tryz.ntmps33 fun J=>?_;unfold L6 at hm;refine sq2 (bX (Z8m p1 a7 c7 a8 c8) hS ?_);intro _ W _ aa;refine kA ?_;refine cP cf71 hm (Q2i (aa.bE [0,1,12] (Z4 2 10)) Z2 hL1 (mC h1) (mC h2)) ?_ ?_
 . exact zk
 rintro E _ _ _ _ ⟨_,_,c9,rfl,ab,_⟩ hm;refine kE ?_;refine Q9y [0,0,1,0,1,0,0,0,1,2] [0,1,2,3,4,5,6,7,8,9] ab (U5 (C7)) fun w3 aD O=>pu ?_;obtain⟨D,U,hm⟩:=Z9 hm
 rcases D with e2|D
 . have hm:=J4 hm;refine s2 [] rfl qZt rfl (by kernel_rfl) (Q8x cf72 rfl (Q2k (p0:={E.2 with fun_:=p0.fun_}) (p1:=p1.Pos) (p2:=p1.Name) (O.bE [0,1,2] (Z4 3 10)) Z2 hL1 _ U) rfl fun v6 T7 aI aJ ac=>?_);obtain⟨rfl,ad,_⟩:=ac;exact pe hm (ad.sE ([1]++Z4 3 10++[2]))
 have hm:=C4 hm;refine sS [] cf72 (Q2k (p0:={E.2 with fun_:=p0.fun_}) (O.bE [0,1,2] (Z4 3 10)) Z2 hL1 _ U) ?_;rintro _ _ _ _ ⟨rfl,ae,_⟩;refine kE ?_;refine rsS [0,0,0,0,0,1,0,0,1,0,2,2,2,0,0,0,2] [0,1,2,3,4,5,6,7,8,9,10,11,12,13,14,15,16] ae fun w5 aM af=>?_;obtain⟨I,ag,hm⟩:=Z9 hm;refine sS [(5,.slice a2 n2 c2)] cf73 (Q2x (p0:={D with fun_:=p0.fun_}) (af.bE [0,1,2] (Z4 3 10)) Z2 hL1 _ ag) ?_;rintro _ _ _ _ ⟨rfl,ah,_⟩;refine s2W [] ?_;refine obS (r:=Q1e) (l:=([I]:List Q5u)) (css:=[(X0t I)]) ah ⟨(Y1u (x:=I):Q1e.rp _ _ _ _),qZt⟩ ?_;intro _ _ _ c10 _ ai;refine pu ?_;obtain⟨_,aj,hm⟩:=Z9 hm;refine s2W [0] ?_;refine oaO 7 ai (K9 aj) ?_;intro _ _ _ c11 _ ak;refine s2W [] ?_;refine osB 4 1 Z2 ak ?_;intro _ _ am;refine pu ?_;refine se (E9 [(0,pt Y5 Y4),(3,pt W 0),(4,iv E.1)] ⟨rfl,rfl,rfl,qZt⟩ fun J=>sq2 (bS (r:=(N7 .i64)) (l:=([E.1]:List Int)) (css:=[[iv E.1]]) am ⟨rfl,qZt⟩ ?_));intro _ _ _ c12 _ an;obtain⟨_,ao,hm⟩:=Z9 hm;refine aO 13 an (K9 ao) ?_;intro _ _ _ c13 _ ap;refine sB 5 7 Z2 ap ?_;intro _ _ aq;refine pn ?_;refine Q9y [0,0,0,0,0,1,0,1,0,2,2,2,0,0,0,2] [0,1,2,3,4,5,6,7,8,9,10,11,12,13,14,15] aq (C7) fun aN aP V=>pu ?_;obtain⟨K,ar,hm⟩:=Z9 hm
 rcases K with e1|K
 . have dd:KD [(9,[7]),(10,[7,9]),(11,[5,7,9,10]),(15,[5,7,9,10,11])]:=⟨qZt⟩;exact zr hm V
 have hm:=C4 hm;refine sS [(5,.slice a3 n3 c3)] cf74 (Q6n (p0:={D with u:={D.u with Globals:=D.u.Globals++([I]:List Q5u)},gtypes:=D.gtypes++([E.1]:List Int),fun_:=p0.fun_}) (V.bE [3,2] (Z4 5 10++[4])) Z2 hL1 (mC h1) (mC h2) _ ar) ?_;rintro _ _ _ _ ⟨au,_,c14,_,_,c15,rfl,av,_⟩;refine pu ?_;obtain⟨_,_,aw,h3,rfl⟩:=av.sl 13;refine s2W [] ?_;refine obS (r:=(rSl (N7 .u8))) (l:=([K.1]:List (List Int))) (css:=[[sv au K.1 c14]]) aw ⟨⟨_,rfl,h3⟩,qZt⟩ ?_;intro _ _ _ c16 _ ay;refine pu ?_;obtain⟨_,az,hm⟩:=Z9 hm;refine s2W [0] ?_;refine oaO 7 ay (K9 az) ?_;intro _ _ _ c17 _ aA;refine s2W [] ?_;refine osB 3 2 Z2 aA ?_;intro _ _ aB;refine pu ?_;have hm:=oI hm;subst hm;refine pn ?_;exact end0 rfl ⟨_,rfl,_,ch,⟨_,_,_,_,_,_,_,_,_,_,_,_,rfl,(aB.sE ([1]++Z4 3 11)).unb,qZt⟩⟩

instance:Ct 33 @Q4z:=⟨@Q4z,cf33⟩
theorem O0{p0:Q0}{p1:Pos}{p2:List UInt8}(hS:Q19 a1 a2 a3 a4 a5 a6 b1 oo1 n1 c1 n2 c2 n3 c3 n4 c4 n5 c5 n6 c6 Z7 H1 T0 g w0 pv1 r1 r2 R p0)(Z2:Ln Y5 Y4 Z7)(hL1:Ln b1 oo1 H1):∀r,F7 p0 p1 p2=some r->
 Cl 72 #[pt Y5 Y4,Q33 p1,Q16 p2.toArray,.map r2] w0 (exR r (fun r=>J1 T0 w0 fun T w v=>v= .tuple #[]/\Q15 a1 a2 a3 a4 a5 a6 b1 oo1 n1 c1 n2 c2 n3 c3 n4 c4 n5 c5 n6 c6 Z7 H1 T g w pv1 r1 r2 R r) (fun r=>L0 T0 w0 (Q42 a1 a2 a3 a4 a5 a6 b1 oo1 n1 c1 n2 c2 n3 c3 n4 c4 n5 c5 n6 c6 Z7 H1 g pv1 r1 r2 R r.1.pos r.1.e r.2))):=by
 intro r hm;refine eN Tryz.func72 Tryz.ntmps72 fun J=>?_;unfold F7 at hm;refine sq2 (bX [iv p1.Line,iv p1.Col] hS ?_);intro _ E _ D;refine kA ?_;refine pv (Z5g (kk:=p2) (u:=0) rfl rfl (D.getA (i:=8) ⟨rfl,rfl⟩) Q9b underlying67 underlying9 zeroValue3 rfl) (pn ?_);refine qU ?_;refine pv (Z5g (kk:=p2) (u:=0) rfl rfl (D.getA (i:=9) ⟨rfl,rfl⟩) Q9b underlying67 underlying9 zeroValue3 rfl) (pn ?_);refine sq2 (blk (qU ?_));refine fkC (d:=34) (c:=(((J5 p0.globals p2).isSome)||((J5 p0.codes p2).isSome))) 2 [(2,(qZs p2)),(3,.map r2),(5,pt E 0)] rfl (fun hk=>zw ((J5 p0.globals p2).isSome) hk) fun J=>?_;refine cd hm ?_ ?_<;>intro O hm
 . exact zr hm D
 refine qU ?_;refine pv (r_lnM rfl (D.getA (i:=9) ⟨rfl,rfl⟩) underlying67) (cd hm ?_ ?_)<;>intro U hm
 . exact zr hm D
 refine pn ?_;obtain⟨_,I,hm⟩:=Z9 hm;refine pu ?_;refine pv (r_lnM rfl (D.getA (i:=9) ⟨rfl,rfl⟩) underlying67) (wl rfl (muM (q:=9) (k:=p2) (u:=(Q9t p0.codes:Int)) D ⟨rfl,rfl⟩ I rfl rfl rfl Q9b underlying67 underlying9 fun V W K=>?_));have hm:=oI hm;subst hm;refine pn ?_;exact end0 rfl ⟨_,rfl,_,ch,⟨rfl,(K.sN 1 11).unb,qZt⟩⟩
instance:Ct 72 @O0:=⟨@O0,cf72⟩
end Go.Proofs.YtfffghclkmbopaaGreat
