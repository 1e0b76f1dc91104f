/- Go functions compute their models. -/
import Derived.Test.YtjohcgibbiebkaaGreatDoorKWdf
import Derived.Test.YtjohcgibbiebkaaGreatDoorKWdg
import Derived.Test.YtjohcgibbiebkaaGreatDoorKWdc
set_option linter.unusedVariables false
namespace Go.Proofs.YtjohcgibbiebkaaGreatDoor
open List renaming length → qQ
open _root_.Go.Proofs.Tryz
set_option maxRecDepth 100000
set_option maxHeartbeats 8000000
attribute [local irreducible] wpList wpQuiet Code.wp
variable{g:World}{T0:TP}{w0:World}{R:List X1}
variable{b1 b2 Y3 Q1x Z9o Z9n Y1k c1 c2 c3 c4 c5 c6 c7 c8 c9 c10 c11 c12 c13 n1 n2 n3 n4 n5 n6 n7 Y2 Q1w Z9e Z9d Y0q oo1 oo2:Nat}{H1 H2 Z6 Q0a Z6j Z6i Z9p:Ab->X1}{a1 a2 a3 a4 a5 a6 a7 a8 a9 a10 a11 a12 a13:OA}{r1 r2:Option Nat}{pv1:Value}
attribute [local irreducible] H8 Q1o execOp Program.underlying sizeOf isAgg zeroValue

theorem sp3:∀n,Sp3 (Q0l n)
 |0=>⟨(by unfold Q5a;intros;rename_i h;cases(show(none:Option _)=some _ from h)),(by unfold Q3t;intros;rename_i h;cases(show(none:Option _)=some _ from h)),(by unfold Q4w;intros;rename_i h;cases(show(none:Option _)=some _ from h)),(by unfold Q6b;intros;rename_i h;cases(show(none:Option _)=some _ from h)),(by unfold Q3x;intros;rename_i h;cases(show(none:Option _)=some _ from h)),(by unfold Q4y;intros;rename_i h;cases(show(none:Option _)=some _ from h)),(by unfold Q3y;intros;rename_i h;cases(show(none:Option _)=some _ from h)),(by unfold Q5z;intros;rename_i h;cases(show(none:Option _)=some _ from h)),(by unfold Q6a;intros;rename_i h;cases(show(none:Option _)=some _ from h)),(by unfold Q3u;intros;rename_i h;cases(show(none:Option _)=some _ from h)),(by unfold Q5x;intros;rename_i h;cases(show(none:Option _)=some _ from h)),(by unfold Q5y;intros;rename_i h;cases(show(none:Option _)=some _ from h)),(by unfold Q4v;intros;rename_i h;cases(show(none:Option _)=some _ from h))⟩
 |n+1=>⟨Z8l (sp3 n),Z6z (sp3 n),Z8h (sp3 n),Z9l (sp3 n),Z7d (sp3 n),Z8i (sp3 n),Z7e (sp3 n),Z9j (sp3 n),Z9k (sp3 n),Z7a (sp3 n),Z9h (sp3 n),Z9i (sp3 n),Z8g (sp3 n)⟩
theorem Q7a:Q5a V3:=(sp3 NN).V3
theorem Z6g:Q3t X7:=(sp3 NN).X7
theorem Y9o:Q4w F1:=(sp3 NN).F1
theorem X1j:Q6b J5:=(sp3 NN).J5
theorem Y8v:Q3x G5:=(sp3 NN).G5
theorem Y9p:Q4y G3:=(sp3 NN).G3
theorem Y8w:Q3y G6:=(sp3 NN).G6
theorem X1h:Q5z F9:=(sp3 NN).F9
theorem X1i:Q6a E0:=(sp3 NN).E0
theorem Y8s:Q3u G4:=(sp3 NN).G4
theorem X1g:Q5x F8:=(sp3 NN).F8
theorem Z8j:Q5y V5:=(sp3 NN).V5
theorem E5:Q4v Z3:=(sp3 NN).Z3

theorem Z1g{p0}(hS:Sep g T0 w0 [X0 R]):∀r,Q4o p0=some r->
 Cl 179 #[iv p0] w0 (Q29 T0 w0 g R r):=by
 intro r hm;refine eN Tryz.func179 Tryz.ntmps179 fun J=>?_;unfold Q4o at hm;refine qN ?_;refine sq2 (qN ?_);refine blk (sq2 (cd hm ?_ ?_))<;>intro ac hm
 . exact sq2 (re hm (hS.sE [0]))
 refine O1 hm (fun O a D=>∃E I,JR (nf 15) g T0 w0 a D E (O I=some r) [(3,iv p0),(6,.bool I)] [X0 R]) (fun O hm=>?_) ?_
 . exact zr hm hS
 rintro _ D ⟨E,I,J,hm,rfl,U,_⟩;refine cd hm ?_ ?_<;>intro ad hm
 . exact sq2 (re hm (U.sE [0]))
 refine O1 hm (fun V a W=>∃T2 K,JR (nf 15) g E D a W T2 (V K=some r) [(3,iv p0),(9,.bool K)] [X0 R]) (fun V hm=>?_) ?_
 . exact zr hm U
 rintro _ W ⟨T2,K,J,hm,rfl,ab,_⟩;exact zr hm ab

instance:Ct 179 @Z1g:=⟨@Z1g,cf179⟩
def Z0s(F:Y9->Option (Bool)):Prop:=∀{g:World}{T0:TP}{w0:World}{R:List X1}{p0:Y9}{a1 c1}(hS:Sep g T0 w0 [X0 R])(h1:Q11 a1 c1 T0 w0 p0.Kids),∀r,F p0=some r->
 Cl 147 #[Q70 a1 c1 p0] w0 (Q19 T0 w0 g R r)
structure Sp4(G:Rec4):Prop where
 B8:Z0s G.B8
theorem Y5e{G:Rec4}(hG:Sp4 G):Z0s (Q3l G):=by
 intro g _ _ R D a1 c1 hS h1 r hm;refine eN Tryz.func147 Tryz.ntmps147 fun J=>?_;unfold Q3l at hm;refine sq2 (bX (U4 D a1 c1) hS ?_);intro _ _ _ W;refine kE ?_;refine sq2 (rsS [0,1,0,0,1,2,0] [0,1,2,3,4,5,6] W fun w2 ai aa=>?_);obtain⟨_,ab,hm⟩:=bindS hm;refine sS [(1,sv a1 D.Kids c1)] cf179 (Z1g (aa.bE [0,1] []) _ ab) ?_;rintro _ T1 w3 _ ⟨rfl,I,_⟩;refine cd hm ?_ ?_<;>intro aj hm
 . exact sq2 (re hm (I.sE [1]))
 refine kC ?_;refine lpJ hm (fun K O m a U=>∃V E,JR (nf 23) g T1 w3 a U V (loopM K m E=some O) [(13,sv a1 D.Kids c1),(14,iv (qQ D.Kids:Int)),(15,iv E)] [X0 R]) (fun _ _ h=>je h (I.sE [1])) ?_;rintro K ae O _ _ _ U ⟨V,E,J,af,rfl,ag,_⟩;obtain⟨m1,_,rfl,hm,_⟩:=lrE af ae;have ak:Ctr Tryz.prog 147 (type_of%@hG.B8):=⟨@hG.B8,cf147⟩;have dd:KD [(5,[4])]:=⟨qZt⟩;exact zr hm ag
theorem sp4:∀n,Sp4 (Y4v n)
 |0=>⟨(by unfold Z0s;intros;rename_i h;cases(show(none:Option _)=some _ from h))⟩
 |n+1=>⟨Y5e (sp4 n)⟩
theorem Y4q:Z0s B8:=(sp4 NN).B8

theorem Y3q{p0 p1}(hS:Sep g T0 w0 [X0 R]):∀r,Y6t p0 p1=some r->
 Cl 197 #[.int .u32 p0,.int .u32 p1] w0 (Q31 T0 w0 g R r):=by
 intro r hm;refine eN Tryz.func197 Tryz.ntmps197 fun J=>?_;unfold Y6t at hm;exact zr hm hS

instance:Ct 197 @Y3q:=⟨@Y3q,cf197⟩
theorem Y3l{p0 p1}(hS:Sep g T0 w0 [X0 R]):∀r,Y3m p0 p1=some r->
 Cl 198 #[.int .u32 p0,.int .u32 p1] w0 (Q31 T0 w0 g R r):=by
 intro r hm;refine eN Tryz.func198 Tryz.ntmps198 fun J=>?_;unfold Y3m at hm;exact zr hm hS

instance:Ct 198 @Y3l:=⟨@Y3l,cf198⟩
theorem Y3o{p0 p1}(hS:Sep g T0 w0 [X0 R]):∀r,Y6s p0 p1=some r->
 Cl 199 #[.int .u32 p0,.int .u32 p1] w0 (Q31 T0 w0 g R r):=by
 intro r hm;refine eN Tryz.func199 Tryz.ntmps199 fun J=>?_;unfold Y6s at hm;exact zr hm hS

instance:Ct 199 @Y3o:=⟨@Y3o,cf199⟩
theorem Z9t{p0 p1}(hS:Sep g T0 w0 [X0 R]):∀r,Z7h p0 p1=some r->
 Cl 207 #[iv p0,iv p1] w0 (Q29 T0 w0 g R r):=by
 intro r hm;refine eN Tryz.func207 Tryz.ntmps207 fun J=>?_;unfold Z7h at hm;exact zr hm hS

instance:Ct 207 @Z9t:=⟨@Z9t,cf207⟩
theorem Z8s{p0 p1}(hS:Sep g T0 w0 [X0 R]):∀r,Z5m p0 p1=some r->
 Cl 206 #[.int .u32 p0,.int .u32 p1,.func (.func 207) #[] #[]] w0 (Q29 T0 w0 g R r):=by
 intro r hm;refine eN Tryz.func206 Tryz.ntmps206 fun J=>?_;unfold Z5m at hm;exact zr hm hS

instance:Ct 206 @Z8s:=⟨@Z8s,cf206⟩
theorem Y3p{p0 p1}(hS:Sep g T0 w0 [X0 R]):∀r,Z9u p0 p1=some r->
 Cl 200 #[.int .u32 p0,.int .u32 p1] w0 (Q31 T0 w0 g R r):=by
 intro r hm;refine eN Tryz.func200 Tryz.ntmps200 fun J=>?_;unfold Z9u at hm;exact zr hm hS

instance:Ct 200 @Y3p:=⟨@Y3p,cf200⟩
theorem Z9r{p0 p1}(hS:Sep g T0 w0 [X0 R]):∀r,Z7g p0 p1=some r->
 Cl 208 #[iv p0,iv p1] w0 (Q29 T0 w0 g R r):=by
 intro r hm;refine eN Tryz.func208 Tryz.ntmps208 fun J=>?_;unfold Z7g at hm;exact zr hm hS

instance:Ct 208 @Z9r:=⟨@Z9r,cf208⟩
theorem Z5l{p0 p1}(hS:Sep g T0 w0 [X0 R]):∀r,Z3b p0 p1=some r->
 Cl 206 #[.int .u32 p0,.int .u32 p1,.func (.func 208) #[] #[]] w0 (Q29 T0 w0 g R r):=by
 intro r hm;refine eN Tryz.func206 Tryz.ntmps206 fun J=>?_;unfold Z3b at hm;exact zr hm hS

instance:Ct 206 @Z5l:=⟨@Z5l,cf206⟩
theorem Y3n{p0 p1}(hS:Sep g T0 w0 [X0 R]):∀r,Z9s p0 p1=some r->
 Cl 201 #[.int .u32 p0,.int .u32 p1] w0 (Q31 T0 w0 g R r):=by
 intro r hm;refine eN Tryz.func201 Tryz.ntmps201 fun J=>?_;unfold Z9s at hm;exact zr hm hS

instance:Ct 201 @Y3n:=⟨@Y3n,cf201⟩
theorem Y2g{p0 p1}(hS:Sep g T0 w0 [X0 R]):∀r,Z6k p0 p1=some r->
 Cl 202 #[.int .u32 p0,.int .u32 p1] w0 (Q31 T0 w0 g R r):=by
 intro r hm;refine eN Tryz.func202 Tryz.ntmps202 fun J=>?_;unfold Z6k at hm;refine qN ?_;refine sq2 ?_;obtain⟨_,D,hm⟩:=bindS hm;have D:=X0t D;refine pu ?_;exact pv (X4f rfl rfl D) (re hm (hS.sE [0]))

instance:Ct 202 @Y2g:=⟨@Y2g,cf202⟩
theorem Z8t{p0 p1}(hS:Sep g T0 w0 [X0 R]):∀r,Z3f p0 p1=some r->
 Cl 203 #[.int .u32 p0,.int .u32 p1] w0 (Q31 T0 w0 g R r):=by
 intro r hm;refine eN Tryz.func203 Tryz.ntmps203 fun J=>?_;unfold Z3f at hm;refine qN ?_;refine sq2 ?_;obtain⟨_,D,hm⟩:=bindS hm;have D:=X0t D;refine pu ?_;exact pv (X0j rfl rfl D) (re hm (hS.sE [0]))

instance:Ct 203 @Z8t:=⟨@Z8t,cf203⟩
theorem Y2q{p0}(hS:Sep g T0 w0 [X0 R]):∀r,Q8e p0=some r->
 Cl 181 #[.bool p0] w0 (Q31 T0 w0 g R r):=by
 intro r hm;refine eN Tryz.func181 Tryz.ntmps181 fun J=>?_;unfold Q8e at hm;exact zr hm hS

instance:Ct 181 @Y2q:=⟨@Y2q,cf181⟩
theorem Y3j{p0}(hS:Sep g T0 w0 [X0 R]):∀r,Y3k p0=some r->
 Cl 211 #[.bool p0] w0 (Q31 T0 w0 g R r):=by
 intro r hm;refine eN Tryz.func211 Tryz.ntmps211 fun J=>?_;unfold Y3k at hm;exact zr hm hS

instance:Ct 211 @Y3j:=⟨@Y3j,cf211⟩
theorem Y2f{p0 p1}(hS:Sep g T0 w0 [X0 R]):∀r,Z1j p0 p1=some r->
 Cl 209 #[.int .u32 p0,.int .u32 p1] w0 (Q31 T0 w0 g R r):=by
 intro r hm;refine eN Tryz.func209 Tryz.ntmps209 fun J=>?_;unfold Z1j at hm;exact zr hm hS

instance:Ct 209 @Y2f:=⟨@Y2f,cf209⟩
theorem Z5w{p0 p1 p2}(hS:Sep g T0 w0 [X0 R]):∀r,Z0j p0 p1 p2=some r->
 Cl 204 #[iv p0,.int .u32 p1,.int .u32 p2] w0 (Q60 T0 w0 g R r.1 r.2):=by
 intro r hm;refine eN Tryz.func204 Tryz.ntmps204 fun J=>?_;unfold Z0j at hm;exact zr hm hS

instance:Ct 204 @Z5w:=⟨@Z5w,cf204⟩
theorem Z8x{p0 p1 p2}(hS:Sep g T0 w0 [X0 R]):∀r,Q9i p0 p1 p2=some r->
 Cl 180 #[iv p0,.int .u32 p1,.int .u32 p2] w0 (Q60 T0 w0 g R r.1 r.2):=by
 intro r hm;refine eN Tryz.func180 Tryz.ntmps180 fun J=>?_;unfold Q9i at hm;refine qN ?_;refine sq2 (qN ?_);refine blk (sq2 (cd hm ?_ ?_))<;>intro U hm
 . exact zr hm hS
 refine sq2 (cd hm ?_ ?_)<;>intro V hm
 . exact zr hm hS
 refine sq2 (cd hm ?_ ?_)<;>intro W hm
 . exact zr hm hS
 refine O1 hm (fun E a I=>∃K D,JR (nf 81) g T0 w0 a I K (E D=some r) [(0,iv p0),(1,.int .u32 p1),(2,.int .u32 p2),(8,iv p0),(24,.bool D)] [X0 R]) (fun E hm=>?_) ?_
 . exact zr hm hS
 rintro _ I ⟨K,D,J,hm,rfl,O,_⟩;exact zr hm O

instance:Ct 180 @Z8x:=⟨@Z8x,cf180⟩
def Z4i(F:Y9->Option (Int×Int)):Prop:=∀{g:World}{T0:TP}{w0:World}{R:List X1}{p0:Y9}{a1 c1}(hS:Sep g T0 w0 [X0 R])(h1:Q11 a1 c1 T0 w0 p0.Kids),∀r,F p0=some r->
 Cl 148 #[Q70 a1 c1 p0] w0 (Q60 T0 w0 g R r.1 r.2)
structure Sp5(G:Rec5):Prop where
 L5:Z4i G.L5
theorem Y8r{G:Rec5}(hG:Sp5 G):Z4i (Z2f G):=by
 intro g _ _ R I a1 c1 hS h1 r hm;refine eN Tryz.func148 Tryz.ntmps148 fun J=>?_;unfold Z2f at hm;refine sq2 (bX (U4 I a1 c1) hS ?_);intro _ E _ K;refine pn ?_;refine sq2 (sq2 (cd hm ?_ ?_))<;>intro am hm
 . exact sq2 (re hm (K.sE [1]))
 refine pn ?_;refine sq2 ?_;obtain⟨u1,ag,hm⟩:=bindS hm;obtain⟨cs1,ah,_,hT1⟩:=ixS K ag h1;obtain⟨_,c2,rfl,h2⟩:=Z1k ah;refine pu ?_;refine cB cf148 hm (hG.L5 (K.bE [0,1] []) h2) ?_;rintro U _ V W _ ⟨rfl,D,_⟩ hm;refine pn ?_;refine sq2 (sq2 (cd hm ?_ ?_))<;>intro an hm
 . exact sq2 (re hm (D.sE [1]))
 refine pn ?_;refine O1 hm (fun aa a w3=>∃T2,JR (nf 93) g V W a w3 T2 (aa ()=some r) [(1,pt E 0),(4,.int .u32 U.1)] [Q75 a1 E c1 I,X0 R]) (fun aa hm=>?_) ?_
 . refine qN ?_;refine blk (sq2 (cd hm ?_ ?_))<;>intro ao hm
   . exact zr hm D
   refine sq2 (cd hm ?_ ?_)<;>intro ap hm
   . exact zr hm D
   refine sq2 (cd hm ?_ ?_)<;>intro aq hm
   . have ai:Ctr Tryz.prog 148 (type_of%@hG.L5):=⟨@hG.L5,cf148⟩;exact zr hm D
   refine O1 hm (fun ad a w7=>∃T6 O,JR (nf 93) g V W a w7 T6 (ad O=some r) [(1,pt E 0),(4,.int .u32 U.1),(55,.bool O)] [Q75 a1 E c1 I,X0 R]) (fun ad hm=>?_) ?_
   . exact zr hm D
   rintro _ w7 ⟨T6,O,J,hm,rfl,aj,_⟩;exact zr hm aj
 rintro _ w3 ⟨T2,J,hm,rfl,ak,_⟩;have ai:Ctr Tryz.prog 148 (type_of%@hG.L5):=⟨@hG.L5,cf148⟩;exact zr hm ak
theorem sp5:∀n,Sp5 (rec5 n)
 |0=>⟨(by unfold Z4i;intros;rename_i h;cases(show(none:Option _)=some _ from h))⟩
 |n+1=>⟨Y8r (sp5 n)⟩
theorem Y8c:Z4i L5:=(sp5 NN).L5

theorem Z5h{p0:Y9}(hS:Sep g T0 w0 [X0 R])(h1:Q11 a1 c1 T0 w0 p0.Kids):∀r,Z5i p0=some r->
 Cl 109 #[Q70 a1 c1 p0] w0 (Q60 T0 w0 g R r.1 r.2):=by
 intro r hm;refine eN Tryz.func109 Tryz.ntmps109 fun J=>?_;unfold Z5i at hm;refine sq2 (bX (U4 p0 a1 c1) hS ?_);intro _ _ _ E;refine kB ?_;refine cB cf147 hm (Y4q (E.bE [0,1] []) (mC h1)) ?_;rintro _ _ _ _ _ ⟨rfl,D,_⟩ hm;refine cd hm ?_ ?_<;>intro K hm
 . exact sq2 (re hm (D.sE [1]))
 refine kA ?_;refine cB cf148 hm (Y8c (D.bE [1] []) (mC h1)) ?_;rintro _ _ _ _ _ ⟨rfl,I,_⟩ hm;exact re hm (I.sE [0])

instance:Ct 109 @Z5h:=⟨@Z5h,cf109⟩
theorem Q7x{p0:Q0}{p1:J2}{p2}(hS:Q25 a1 a2 a3 a4 a5 a6 b1 oo1 n1 c1 n2 c2 n3 c3 n4 c4 n5 c5 n6 c6 Z6 H1 T0 g w0 pv1 r1 r2 R p0)(Z1:Ln Y3 Y2 Z6)(hL1:Ln b1 oo1 H1)(h1:Q35 a7 c7 T0 w0 p1)(h2:Q7 a8 c8 T0 w0 p1.Init):∀r,Q0i p0 p1 p2=some r->
 Cl 73 #[pt Y3 Y2,Q77 a7 a8 c7 c8 p1,iv p2] w0 (exR r (fun r=>J6 T0 w0 fun T w v=>∃a24 n14 c24 a25 n15 c25,v= .slice a24 n14 c24/\Sep g T w (R++(X5 r.2 Z6 H1 b1 oo1 a25 n15 c25 a2 n2 c2 a3 n3 c3 a4 n4 c4 r1 r2 a5 n5 c5 a6 n6 c6 pv1++[Q16 pv1 r.2,F5 (N1 .u8) 5 (.slice a24 n14 c24) r.1]))/\True) (fun r=>L8 T0 w0 (Q4 a2 a3 a4 a5 a6 b1 oo1 n2 c2 n3 c3 n4 c4 n5 c5 n6 c6 Z6 H1 g pv1 r1 r2 R r.1.pos r.1.e r.2))):=by
 intro r hm;refine eN Tryz.func73 Tryz.ntmps73 fun J=>?_;unfold Q0i at hm;refine sq2 (bX (Z5j p1 a7 c7 a8 c8) hS ?_);intro _ _ _ bK;refine kA ?_;refine cB Q9z hm (V7 (bK.bE ([0,1,2]++Z4 5 8) [3,4]) hL1) ?_;rintro _ _ _ _ _ ⟨rfl,bL,_⟩ hm;obtain⟨u1,bM,hm⟩:=bindS hm;refine wl rfl (msS (r:=(N1 .u8)) bL rfl rfl underlying93 el5 zeroValue5 rfl bM fun w3 a9 n7 c9 cT bN=>pn ?_);refine sq2 (qU ?_);refine cP cf105 hm (Q3i (bN.bE [0,2,11] ([3,12,13]++Z4 4 7)) Z1 hL1 (mC h1) (mC h2)) ?_ ?_
 . exact zk
 rintro y2 _ T2 w4 _ ⟨ax,c10,rfl,bQ,h3,_⟩ hm;refine pn ?_;refine lpJ hm (fun ba o1 m a w5=>∃T3 I E x1 bg n8 c11 W,JR (nf 74) g T2 w4 a w5 T3 (loopM ba m (x1,W,E,I)=some o1) [(0,pt Y3 Y2),(2,iv p2),(7,.slice a9 n7 c9),(25,sv ax y2 c10),(26,iv (qQ y2:Int)),(27,iv W)] ([F5 (N1 .u8) 5 (.slice a9 n7 c9) x1,X0 R,Q16 pv1 E]++X5 ({E with t:=I}) Z6 H1 b1 oo1 bg n8 c11 a2 n2 c2 a3 n3 c3 a4 n4 c4 r1 r2 a5 n5 c5 a6 n6 c6 pv1)) (fun _ _ h=>je h (bQ.sN 0 13)) ?_;rintro ba bR o1 O _ _ w5 ⟨T3,I,E,x1,bg,n8,c11,W,J,bT,rfl,az,_⟩;obtain⟨m1,z1,rfl,hm,K⟩:=lrE bT bR;refine qN ?_;refine sq2 (cd hm ?_ ?_)<;>intro cU hm
 . refine kE ?_;refine blk (sq2 ?_);obtain⟨u2,bW,hm⟩:=bindS hm;obtain⟨cs1,bY,_,hT1⟩:=ixS az bW h3;obtain⟨bZ,c12,rfl,D⟩:=K5 bY;refine aL zv2 az ?_;intro _ b4 _ b0;refine sT 0 b0 ?_;intro w7 _ b8;refine pn ?_;refine O1 hm (fun bj a w8=>∃T4 ah U aC n9 c13 b5 ar aF c14,JR (nf 74) g T3 w7 a w8 T4 (bj U ah ar=some z1) [(0,pt Y3 Y2),(2,iv p2),(7,.slice a9 n7 c9),(8,iv W),(9,pt b4 0),(10,pt b5 0),(25,sv ax y2 c10),(26,iv (qQ y2:Int)),(27,iv W)] ([Q22 bZ b4 c12 u2,F5 (N1 .u8) 5 (.slice a9 n7 c9) x1,X0 R,Q16 pv1 U]++(X5 ({U with t:=ah}) Z6 H1 b1 oo1 aC n9 c13 a2 n2 c2 a3 n3 c3 a4 n4 c4 r1 r2 a5 n5 c5 a6 n6 c6 pv1++[Q75 aF b5 c14 ar]))/\Q11 aF c14 T4 w8 ar.Kids) (fun bj hm=>?_) ?_
   . refine rtPS [0,1,0,1,2,0,0,2,2,2,2] [0,1,2,3,5,6,4,7,8,9,10] b8 (U5 (Q0s (U5 (U5 (Q0s (U5 (C8))))))) fun w9 cW ai=>pu ?_;obtain⟨y3,aj,hm⟩:=bindS hm
     rcases y3 with e1|y3
     . have hm:=G0 hm;refine tF [4,9] ?_;refine⟨?_,?_,qZt⟩
       . refine brW [7,8,9,10] [0] ?_;refine oP I6 (E5 (p0:={E with t:=I}) (ai.bE [0,1,2] (Z4 4 10++[3])) Z1 hL1 (mC D) _ aj) ?_;rintro _ b9 _ _ ⟨cc,ce,c23,rfl,cf,_⟩;have hm:=Q5e hm K O;exact pe hm (cf.sN 2 12)
       refine brW [4,7,8,10] [] ?_;refine oaL zv3 ai ?_;intro aG b7 aJ aa;refine t1W [4] [7,8,10] [0] ?_;refine oP I6 (E5 (p0:={E with t:=I}) (aa.bE (Z4 0 4) (Z4 5 10++[4])) Z1 hL1 (mC D) _ aj) ?_;rintro _ b9 cg ci ⟨cc,ce,c23,rfl,aK,_⟩;have hm:=Q5e hm K O;exact pe hm (aK.sN 3 12)
     have hm:=C1 hm;obtain⟨_,ak,hm⟩:=bindS hm;obtain⟨y5,V,hm⟩:=bindS hm
     rcases y5 with e2|y5
     . have hm:=G0 hm;refine tF [4,9] ?_;refine⟨?_,?_,qZt⟩
       . refine brW [7,8,9,10] [0] ?_;refine oS I6 (E5 (p0:={E with t:=I}) (ai.bE [0,1,2] (Z4 4 10++[3])) Z1 hL1 (mC D) _ aj) ?_;rintro _ T8 ck cl ⟨cm,c18,cn,co,c19,rfl,au,h8,_⟩;refine tF [7,9] ?_;refine⟨?_,?_,qZt⟩
         . refine brW [8,9,10] [] ?_;refine oS Y2r (D7 (au.bE [0,1,2,13] (Z4 3 10)) Z1 hL1 _ ak) ?_;rintro _ T9 bo bp ⟨rfl,am,_⟩;refine tF [8,9] ?_;refine⟨?_,?_,qZt⟩
           . refine brW [9,10] [0] ?_;refine oP Z3y (U2 (am.bE (Z4 0 4) (Z4 4 10)) Z1 hL1 (mC D) (mC h8) _ V) ?_;rintro _ aM _ _ ⟨rfl,cp,_⟩;have hm:=Q5e hm K O;exact pe hm (cp.sE ([2]++Z4 4 10++[3]))
           refine brW [8,10] [] ?_;refine oaL zv3 am ?_;intro bq b7 bt ap;refine t1W [8] [10] [0] ?_;refine oP Z3y (U2 (ap.bE (Z4 0 5) (Z4 5 10)) Z1 hL1 (mC D) (mC h8) _ V) ?_;rintro _ aM aG aJ ⟨rfl,aa,_⟩;have hm:=Q5e hm K O;exact pe hm (aa.sE ([3]++Z4 5 10++[4]))
         refine brW [7,8,10] [] ?_;refine oaL zv3 au ?_;intro bo b7 bp am;refine t1W [7] [8,10] [] ?_;refine oS Y2r (D7 (am.bE [0,1,2,3,14] (Z4 4 10)) Z1 hL1 _ ak) ?_;rintro _ T9 bq bt ⟨rfl,ap,_⟩;refine t1W [8] [10] [0] ?_;refine oP Z3y (U2 (ap.bE (Z4 0 5) (Z4 5 10)) Z1 hL1 (mC D) (mC h8) _ V) ?_;rintro _ aM aG aJ ⟨rfl,aa,_⟩;have hm:=Q5e hm K O;exact pe hm (aa.sE ([3]++Z4 5 10++[4]))
       refine brW [4,7,8,10] [] ?_;refine oaL zv3 ai ?_;intro ck b7 cl au;refine t1W [4] [7,8,10] [0] ?_;refine oS I6 (E5 (p0:={E with t:=I}) (au.bE (Z4 0 4) (Z4 5 10++[4])) Z1 hL1 (mC D) _ aj) ?_;rintro _ T8 bo bp ⟨cm,c18,cn,co,c19,rfl,am,h8,_⟩;refine t1W [7] [8,10] [] ?_;refine oS Y2r (D7 (am.bE [0,1,2,3,14] (Z4 4 10)) Z1 hL1 _ ak) ?_;rintro _ T9 bq bt ⟨rfl,ap,_⟩;refine t1W [8] [10] [0] ?_;refine oP Z3y (U2 (ap.bE (Z4 0 5) (Z4 5 10)) Z1 hL1 (mC D) (mC h8) _ V) ?_;rintro _ aM aG aJ ⟨rfl,aa,_⟩;have hm:=Q5e hm K O;exact pe hm (aa.sE ([3]++Z4 5 10++[4]))
     have hm:=C1 hm;refine tF [4,9] ?_;refine⟨?_,?_,qZt⟩
     . refine brW [7,8,9,10] [0] ?_;refine oS I6 (E5 (p0:={E with t:=I}) (ai.bE [0,1,2] (Z4 4 10++[3])) Z1 hL1 (mC D) _ aj) ?_;rintro _ T5 cr ct ⟨cu,c15,cv,cw,c16,rfl,av,h6,_⟩;refine tF [7,9] ?_;refine⟨?_,?_,qZt⟩
       . refine brW [8,9,10] [] ?_;refine oS Y2r (D7 (av.bE [0,1,2,13] (Z4 3 10)) Z1 hL1 _ ak) ?_;rintro _ T6 bv bw ⟨rfl,an,_⟩;refine tF [8,9] ?_;refine⟨?_,?_,qZt⟩
         . refine brW [9,10] [0] ?_;refine oS Z3y (U2 (an.bE (Z4 0 4) (Z4 4 10)) Z1 hL1 (mC D) (mC h6) _ V) ?_;rintro _ T7 aP aQ ⟨aR,c17,rfl,ab,h7,_⟩;refine t1W [9] [10] [] ?_;refine oaL zv3 ab ?_;intro aT b6 aV ac;refine t1W [10] [] [] ?_;refine osT 0 ac ?_;intro aW aX ad;refine pu ?_;exact je hm (ad.sE (Z4 1 14++[0]))
         refine brW [8,10] [] ?_;refine oaL zv3 an ?_;intro aP b6 aQ ab;refine t1W [8] [10] [0] ?_;refine oS Z3y (U2 (ab.bE (Z4 0 5) (Z4 5 10)) Z1 hL1 (mC D) (mC h6) _ V) ?_;rintro _ T7 aT aV ⟨aR,c17,rfl,ac,h7,_⟩;refine t1W [10] [] [] ?_;refine osT 0 ac ?_;intro aW aX ad;refine pu ?_;exact je hm (ad.sE (Z4 1 14++[0]))
       refine brW [7,8,10] [] ?_;refine oaL zv3 av ?_;intro bv b6 bw an;refine t1W [7] [8,10] [] ?_;refine oS Y2r (D7 (an.bE [0,1,2,3,14] (Z4 4 10)) Z1 hL1 _ ak) ?_;rintro _ T6 aP aQ ⟨rfl,ab,_⟩;refine t1W [8] [10] [0] ?_;refine oS Z3y (U2 (ab.bE (Z4 0 5) (Z4 5 10)) Z1 hL1 (mC D) (mC h6) _ V) ?_;rintro _ T7 aT aV ⟨aR,c17,rfl,ac,h7,_⟩;refine t1W [10] [] [] ?_;refine osT 0 ac ?_;intro aW aX ad;refine pu ?_;exact je hm (ad.sE (Z4 1 14++[0]))
     refine brW [4,7,8,10] [] ?_;refine oaL zv3 ai ?_;intro cr b6 ct av;refine t1W [4] [7,8,10] [0] ?_;refine oS I6 (E5 (p0:={E with t:=I}) (av.bE (Z4 0 4) (Z4 5 10++[4])) Z1 hL1 (mC D) _ aj) ?_;rintro _ T5 bv bw ⟨cu,c15,cv,cw,c16,rfl,an,h6,_⟩;refine t1W [7] [8,10] [] ?_;refine oS Y2r (D7 (an.bE [0,1,2,3,14] (Z4 4 10)) Z1 hL1 _ ak) ?_;rintro _ T6 aP aQ ⟨rfl,ab,_⟩;refine t1W [8] [10] [0] ?_;refine oS Z3y (U2 (ab.bE (Z4 0 5) (Z4 5 10)) Z1 hL1 (mC D) (mC h6) _ V) ?_;rintro _ T7 aT aV ⟨aR,c17,rfl,ac,h7,_⟩;refine t1W [10] [] [] ?_;refine osT 0 ac ?_;intro aW aX ad;refine pu ?_;exact je hm (ad.sE (Z4 1 14++[0]))
   rintro _ w8 ⟨T4,ah,U,aC,n9,c13,b5,ar,aF,c14,⟨J,hm,rfl,aK,_⟩,h5⟩;refine qU ?_;refine cB cf109 hm (Z5h (aK.bE (Z4 0 14) []) h5) ?_;rintro y6 _ _ cg ci ⟨rfl,cy,_⟩ hm;refine kA ?_;refine cP cf67 hm (Q2u (cy.bE (Z4 1 13) [])) ?_ ?_
   . rintro _ _ _ _ _ ⟨rfl,cz,_⟩ hm;have hm:=Q5e hm K O;exact pe hm (cz.sE ([1]++Z4 3 10++[2]))
   rintro _ _ _ _ _ ⟨rfl,cA,_⟩ hm;refine kA ?_;refine cB Y2r hm (D7 (p0:={U with t:=ah}) (cA.bE [0,1,2] (Z4 3 10)) Z1 hL1) ?_;rintro _ _ _ _ _ ⟨rfl,cC,_⟩ hm;refine cB cf104 hm (Q1r (p0:={U with t:=ah}) (cC.bE [0,1,2] (Z4 3 10)) Z1 hL1) ?_;rintro y9 _ cD cE _ ⟨rfl,cF,_⟩ hm;refine kD ?_;refine lpJ hm (fun bB o2 m a bD=>∃bF aY aw,JR (nf 74) g cD cE a bD bF (loopM bB m (aY,aw)=some o2) [(0,pt Y3 Y2),(2,iv p2),(7,.slice a9 n7 c9),(8,iv W),(11,.int .u32 y6.1),(13,iv y9),(25,sv ax y2 c10),(26,iv (qQ y2:Int)),(27,iv W),(55,iv y9),(56,iv aw)] ([F5 (N1 .u8) 5 (.slice a9 n7 c9) aY,X0 R,Q16 pv1 U]++X5 ({U with t:=ah}) Z6 H1 b1 oo1 aC n9 c13 a2 n2 c2 a3 n3 c3 a4 n4 c4 r1 r2 a5 n5 c5 a6 n6 c6 pv1)) (fun _ _ h=>je h (cF.sN 0 13)) ?_;rintro bB cG o2 cI _ _ bD ⟨bF,aY,aw,J,cJ,rfl,bG,_⟩;obtain⟨_,_,rfl,hm,bI⟩:=lrE cJ cG;refine qN ?_;refine sq2 (cd hm ?_ ?_)<;>intro cZ hm
   . refine kE ?_;refine blk (qN ?_);obtain⟨_,aZ,hm⟩:=bindS hm;have aZ:=X0t aZ;obtain⟨u5,cL,hm⟩:=bindS hm;obtain⟨u6,bJ,hm⟩:=bindS hm;obtain rfl:u5=u6:=oI (cL.symm.trans bJ);refine pu ?_;refine pv (X0j rfl rfl aZ) (pu ?_);refine wl rfl (Y4u (q:=0) (j:=0) (u':=IntKind.wrap .u8 (Int.fdiv y6.1 (2^(min (Int.toNat (IntKind.wrap .i64 (8*aw))) (IntKind.bits .u32))))) bG ⟨rfl,rfl⟩ bJ rfl rfl rfl sizeOf5 rfl rfl rfl (fun c0 cO=>by rw[Z0w (r:=(N1 .u8)) cO rfl];exact rfl) fun da db cQ=>?_);exact lg hm bI (cQ.sN 0 13)
   have hm:=Q7b hm bI cI;exact lg hm K (bG.sN 0 13)
 have hm:=Q7b hm K O;exact zr hm az

instance:Ct 73 @Q7x:=⟨@Q7x,cf73⟩
theorem Q6g{p0:Q0}{p1:J2}(hS:Q25 a1 a2 a3 a4 a5 a6 b1 oo1 n1 c1 n2 c2 n3 c3 n4 c4 n5 c5 n6 c6 Z6 H1 T0 g w0 pv1 r1 r2 R p0)(Z1:Ln Y3 Y2 Z6)(hL1:Ln b1 oo1 H1)(h1:Q35 a7 c7 T0 w0 p1)(h2:Q7 a8 c8 T0 w0 p1.Init):∀r,O6 p0 p1=some r->
 Cl 33 #[pt Y3 Y2,Q77 a7 a8 c7 c8 p1] w0 (exR r (fun r=>J6 T0 w0 fun T w v=>∃a20 n18 c20 a21 n19 c21 a22 n20 c22 a23 n21 c23,v= .tuple #[]/\Sep g T w (R++(Q2 a20 a21 a22 a4 a23 a6 b1 oo1 n18 c20 n19 c21 n20 c22 n4 c4 n21 c23 n6 c6 Z6 H1 pv1 r1 r2 r))/\True) (fun r=>L8 T0 w0 fun T w v=>∃a20 n18 c20 a21 n19 c21 a22 n20 c22 a23 n21 c23,v= .iface 91 (Q20 r.1.pos r.1.e)/\Sep g T w (R++(Q2 a20 a21 a22 a4 a23 a6 b1 oo1 n18 c20 n19 c21 n20 c22 n4 c4 n21 c23 n6 c6 Z6 H1 pv1 r1 r2 r.2))/\True)):=by
 intro r hm;refine eN Tryz.func33 Tryz.ntmps33 fun J=>?_;unfold O6 at hm;refine sq2 (bX (Z5j p1 a7 c7 a8 c8) hS ?_);intro _ W _ aa;refine kA ?_;refine cP cf70 hm (Q3f (aa.bE [0,1,12] (Z4 2 10)) Z1 hL1 (mC h1) (mC h2)) ?_ ?_
 . exact zk
 rintro E _ _ _ _ ⟨_,_,c9,rfl,ab,_⟩ hm;refine kE ?_;refine Z1p [0,0,1,0,1,0,0,0,1,2] [0,1,2,3,4,5,6,7,8,9] ab (U5 (C8)) fun w3 aC O=>pu ?_;obtain⟨D,U,hm⟩:=bindS hm
 rcases D with e2|D
 . have hm:=G0 hm;refine s2 [] rfl qZt rfl (by kernel_rfl) (Z0k cf71 rfl (Q3h (p0:={E.2 with fun_:=p0.fun_}) (p1:=p1.Pos) (p2:=p1.Name) (O.bE [0,1,2] (Z4 3 10)) Z1 hL1 _ U) rfl fun v6 T7 aG aI ac=>?_);obtain⟨rfl,ad,_⟩:=ac;exact pe hm (ad.sE ([1]++Z4 3 10++[2]))
 have hm:=C1 hm;refine sS [] cf71 (Q3h (p0:={E.2 with fun_:=p0.fun_}) (O.bE [0,1,2] (Z4 3 10)) Z1 hL1 _ U) ?_;rintro _ _ _ _ ⟨rfl,ae,_⟩;refine kE ?_;refine rsS [0,0,0,0,0,1,0,0,1,0,2,2,2,0,0,0,2] [0,1,2,3,4,5,6,7,8,9,10,11,12,13,14,15,16] ae fun w5 aK af=>?_;obtain⟨I,ag,hm⟩:=bindS hm;refine sS [(5,.slice a2 n2 c2)] cf72 (Q3s (p0:={D with fun_:=p0.fun_}) (af.bE [0,1,2] (Z4 3 10)) Z1 hL1 _ ag) ?_;rintro _ _ _ _ ⟨rfl,ah,_⟩;refine s2W [] ?_;refine obS (r:=Q1v) (l:=([I]:List Q9j)) (css:=[(X4u I)]) ah ⟨(Y4w (x:=I):Q1v.rp _ _ _ _),qZt⟩ ?_;intro _ _ _ c10 _ ai;refine pu ?_;obtain⟨_,aj,hm⟩:=bindS hm;refine s2W [0] ?_;refine oaO 7 ai (K9 aj) ?_;intro _ _ _ c11 _ ak;refine s2W [] ?_;refine osB 4 1 Z1 ak ?_;intro _ _ am;refine pu ?_;refine se (B0 [(0,pt Y3 Y2),(3,pt W 0),(4,iv E.1)] ⟨rfl,rfl,rfl,qZt⟩ fun J=>sq2 (bS (r:=(N1 .i64)) (l:=([E.1]:List Int)) (css:=[[iv E.1]]) am ⟨rfl,qZt⟩ ?_));intro _ _ _ c12 _ an;obtain⟨_,ao,hm⟩:=bindS hm;refine aO 13 an (K9 ao) ?_;intro _ _ _ c13 _ ap;refine sB 5 7 Z1 ap ?_;intro _ _ aq;refine pn ?_;refine Z1p [0,0,0,0,0,1,0,1,0,2,2,2,0,0,0,2] [0,1,2,3,4,5,6,7,8,9,10,11,12,13,14,15] aq (C8) fun aM aN V=>pu ?_;obtain⟨K,ar,hm⟩:=bindS hm
 rcases K with e1|K
 . have dd:KD [(9,[7]),(10,[7,9]),(11,[5,7,9,10]),(15,[5,7,9,10,11])]:=⟨qZt⟩;exact zr hm V
 have hm:=C1 hm;refine sS [(5,.slice a3 n3 c3)] cf73 (Q7x (p0:={D with u:={D.u with Globals:=D.u.Globals++([I]:List Q9j)},gtypes:=D.gtypes++([E.1]:List Int),fun_:=p0.fun_}) (V.bE [3,2] (Z4 5 10++[4])) Z1 hL1 (mC h1) (mC h2) _ ar) ?_;rintro _ _ _ _ ⟨au,_,c14,_,_,c15,rfl,av,_⟩;refine pu ?_;obtain⟨_,_,aw,h3,rfl⟩:=av.sl 13;refine s2W [] ?_;refine obS (r:=(rSl (N1 .u8))) (l:=([K.1]:List (List Int))) (css:=[[sv au K.1 c14]]) aw ⟨⟨_,rfl,h3⟩,qZt⟩ ?_;intro _ _ _ c16 _ ax;refine pu ?_;obtain⟨_,ay,hm⟩:=bindS hm;refine s2W [0] ?_;refine oaO 7 ax (K9 ay) ?_;intro _ _ _ c17 _ az;refine s2W [] ?_;refine osB 3 2 Z1 az ?_;intro _ _ aA;refine pu ?_;have hm:=oI hm;subst hm;refine pn ?_;exact Q6y rfl ⟨_,rfl,_,ch,⟨_,_,_,_,_,_,_,_,_,_,_,_,rfl,(aA.sE ([1]++Z4 3 11)).unb,qZt⟩⟩

instance:Ct 33 @Q6g:=⟨@Q6g,cf33⟩
theorem R6{p0:Q0}{p1:Pos}{p2:Aa}(hS:Q21 a1 a2 a3 a4 a5 a6 b1 oo1 n1 c1 n2 c2 n3 c3 n4 c4 n5 c5 n6 c6 Z6 H1 T0 g w0 pv1 r1 r2 R p0)(Z1:Ln Y3 Y2 Z6)(hL1:Ln b1 oo1 H1):∀r,P4 p0 p1 p2=some r->
 Cl 71 #[pt Y3 Y2,Q36 p1,Q14 p2.toArray,.map r2] w0 (exR r (fun r=>J6 T0 w0 fun T w v=>v= .tuple #[]/\Q18 a1 a2 a3 a4 a5 a6 b1 oo1 n1 c1 n2 c2 n3 c3 n4 c4 n5 c5 n6 c6 Z6 H1 T g w pv1 r1 r2 R r) (fun r=>L8 T0 w0 (Q49 a1 a2 a3 a4 a5 a6 b1 oo1 n1 c1 n2 c2 n3 c3 n4 c4 n5 c5 n6 c6 Z6 H1 g pv1 r1 r2 R r.1.pos r.1.e r.2))):=by
 intro r hm;refine eN Tryz.func71 Tryz.ntmps71 fun J=>?_;unfold P4 at hm;refine sq2 (bX [iv p1.Line,iv p1.Col] hS ?_);intro _ E _ D;refine kA ?_;refine pv (Z7r (kk:=p2) (u:=0) rfl rfl (D.getA (i:=8) ⟨rfl,rfl⟩) Z0r underlying82 underlying9 zeroValue3 rfl) (pn ?_);refine qU ?_;refine pv (Z7r (kk:=p2) (u:=0) rfl rfl (D.getA (i:=9) ⟨rfl,rfl⟩) Z0r underlying82 underlying9 zeroValue3 rfl) (pn ?_);refine sq2 (blk (qU ?_));refine fkC (d:=34) (c:=(((P7 p0.globals p2).isSome)||((P7 p0.codes p2).isSome))) 2 [(2,(qZs p2)),(3,.map r2),(5,pt E 0)] rfl (fun hk=>zw ((P7 p0.globals p2).isSome) hk) fun J=>?_;refine cd hm ?_ ?_<;>intro O hm
 . exact zr hm D
 refine qU ?_;refine pv (r_lnM rfl (D.getA (i:=9) ⟨rfl,rfl⟩) underlying82) (cd hm ?_ ?_)<;>intro U hm
 . exact zr hm D
 refine pn ?_;obtain⟨_,I,hm⟩:=bindS hm;refine pu ?_;refine pv (r_lnM rfl (D.getA (i:=9) ⟨rfl,rfl⟩) underlying82) (wl rfl (muM (q:=9) (k:=p2) (u:=(Z4y p0.codes:Int)) D ⟨rfl,rfl⟩ I rfl rfl rfl Z0r underlying82 underlying9 fun V W K=>?_));have hm:=oI hm;subst hm;refine pn ?_;exact Q6y rfl ⟨_,rfl,_,ch,⟨rfl,(K.sN 1 11).unb,qZt⟩⟩
instance:Ct 71 @R6:=⟨@R6,cf71⟩
end Go.Proofs.YtjohcgibbiebkaaGreatDoor
