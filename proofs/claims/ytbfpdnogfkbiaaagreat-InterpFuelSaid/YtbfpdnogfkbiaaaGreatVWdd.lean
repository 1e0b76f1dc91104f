/- That Go functions compute their models. Printed by gen2.py. -/
import Derived.Test.YtbfpdnogfkbiaaaGreatVWdf
import Derived.Test.YtbfpdnogfkbiaaaGreatVWdb
import Derived.Test.YtbfpdnogfkbiaaaGreatVWdg
import Derived.Test.YtbfpdnogfkbiaaaGreatVWdh
import Derived.Test.YtbfpdnogfkbiaaaGreatVWdc
set_option linter.unusedVariables false
namespace Go.Proofs.YtbfpdnogfkbiaaaGreat
open List renaming length → qQ
open _root_.Go.Proofs.Tryz
set_option maxRecDepth 100000
set_option maxHeartbeats 8000000
attribute [local irreducible] wpList wpQuiet Code.wp
variable{g:World}{T0:Nat->Prop}{w0:World}{R:List Y9}
variable{b1 b2 Y0 Q0f Z7g Z7f Z8d c1 c2 c3 c4 c5 c6 c7 c8 c9 c10 c11 c12 c13 n1 n2 n3 n4 n5 n6 n7 Z9 Q0e Z7a Z6z Z7p oo1 oo2:Nat}{H1 H2 Z5 L4 Z5m Z5l Z7h:List Value->Y9}{a1 a2 a3 a4 a5 a6 a7 a8 a9 a10 a11 a12 a13:OA}{r1 r2:Option Nat}{pv1:Value}
attribute [local irreducible] M1 W7 execOp Program.underlying sizeOf isAgg zeroValue

theorem sp3:∀n,Sp3 (O8 n)
 |0=>⟨(by unfold Q5z;intros;rename_i h;cases(show(none:Option _)=some _ from h)),(by unfold Q4f;intros;rename_i h;cases(show(none:Option _)=some _ from h)),(by unfold Q5v;intros;rename_i h;cases(show(none:Option _)=some _ from h)),(by unfold Q7j;intros;rename_i h;cases(show(none:Option _)=some _ from h)),(by unfold Q4j;intros;rename_i h;cases(show(none:Option _)=some _ from h)),(by unfold Q5x;intros;rename_i h;cases(show(none:Option _)=some _ from h)),(by unfold Q4k;intros;rename_i h;cases(show(none:Option _)=some _ from h)),(by unfold Q7h;intros;rename_i h;cases(show(none:Option _)=some _ from h)),(by unfold Q7i;intros;rename_i h;cases(show(none:Option _)=some _ from h)),(by unfold Q4g;intros;rename_i h;cases(show(none:Option _)=some _ from h)),(by unfold Q7f;intros;rename_i h;cases(show(none:Option _)=some _ from h)),(by unfold Q7g;intros;rename_i h;cases(show(none:Option _)=some _ from h)),(by unfold Q5u;intros;rename_i h;cases(show(none:Option _)=some _ from h))⟩
 |n+1=>⟨Z9h (sp3 n),Z7w (sp3 n),Z9d (sp3 n),Y0g (sp3 n),Z8a (sp3 n),Z9e (sp3 n),Z8b (sp3 n),Y0e (sp3 n),Y0f (sp3 n),Z7x (sp3 n),Y0c (sp3 n),Y0d (sp3 n),Z9c (sp3 n)⟩
theorem Q8s:Q5z K3:=(sp3 NN).K3
theorem Z7d:Q4f V8:=(sp3 NN).V8
theorem Y9e:Q5v P4:=(sp3 NN).P4
theorem X0u:Q7j E3:=(sp3 NN).E3
theorem Y8n:Q4j B5:=(sp3 NN).B5
theorem Y9f:Q5x D5:=(sp3 NN).D5
theorem Y8o:Q4k B6:=(sp3 NN).B6
theorem X0s:Q7h M4:=(sp3 NN).M4
theorem X0t:Q7i M5:=(sp3 NN).M5
theorem Y8k:Q4g B4:=(sp3 NN).B4
theorem X0r:Q7f M3:=(sp3 NN).M3
theorem Z9f:Q7g J1:=(sp3 NN).J1
theorem F5:Q5u Z6:=(sp3 NN).Z6

theorem Z2p{p0}(hS:Sep g T0 w0 [Y7 R]):∀r,Q5j p0=some r->
 Cl 184 #[iv p0] w0 (Q38 T0 w0 g R r):=by
 intro r hm;refine eN Tryz.func184 Tryz.ntmps184 fun J=>?_;unfold Q5j at hm;refine qN ?_;refine sq2 (qN ?_);refine blk (sq2 (cd hm ?_ ?_))<;>intro ad hm
 . exact sq2 (re hm (hS.sE [0]))
 refine M8 hm (fun U a D=>∃E K,JR (nf 15) g T0 w0 a D E (U K=some r) [(3,iv p0),(6,.bool K)] [Y7 R]) (fun U hm=>?_) ?_
 . exact zr hm hS
 rintro _ D ⟨E,K,J,hm,rfl,V,_⟩;refine cd hm ?_ ?_<;>intro ae hm
 . exact sq2 (re hm (V.sE [0]))
 refine M8 hm (fun W a w2=>∃T2 O,JR (nf 15) g E D a w2 T2 (W O=some r) [(3,iv p0),(9,.bool O)] [Y7 R]) (fun W hm=>?_) ?_
 . exact zr hm V
 rintro _ w2 ⟨T2,O,J,hm,rfl,ac,_⟩;exact zr hm ac

instance:Ct 184 @Z2p:=⟨@Z2p,cf184⟩
def Z2i(F:Y6->Option (Bool)):Prop:=∀{g:World}{T0:TP}{w0:World}{R:List Y9}{p0:Y6}{a1 c1}(hS:Sep g T0 w0 [Y7 R])(h1:Q11 a1 c1 T0 w0 p0.Kids),∀r,F p0=some r->
 Cl 151 #[Q55 a1 c1 p0] w0 (Q25 T0 w0 g R r)
structure Sp4(G:Rec4):Prop where
 D9:Z2i G.D9
theorem Y5m{G:Rec4}(hG:Sp4 G):Z2i (Q3n G):=by
 intro g _ _ R D a1 c1 hS h1 r hm;refine eN Tryz.func151 Tryz.ntmps151 fun J=>?_;unfold Q3n at hm;refine sq2 (bX (U2 D a1 c1) hS ?_);intro _ _ _ aa;refine kE ?_;refine sq2 (rsS [0,1,0,0,1,2,0] [0,1,2,3,4,5,6] aa fun w2 aj ab=>?_);obtain⟨_,ac,hm⟩:=Z8 hm;refine sS [(1,sv a1 D.Kids c1)] cf184 (Z2p (ab.bE [0,1] []) _ ac) ?_;rintro _ T1 w3 _ ⟨rfl,K,_⟩;refine cd hm ?_ ?_<;>intro ak hm
 . exact sq2 (re hm (K.sE [1]))
 refine kC ?_;refine lpJ hm (fun O U m a V=>∃W E,JR (nf 23) g T1 w3 a V W (X5 O m E=some U) [(13,sv a1 D.Kids c1),(14,iv (qQ D.Kids:Int)),(15,iv E)] [Y7 R]) (fun _ _ h=>je h (K.sE [1])) ?_;rintro O af U _ _ _ V ⟨W,E,J,ag,rfl,ah,_⟩;obtain⟨m1,_,rfl,hm,_⟩:=lrE ag af;have am:Ctr Tryz.prog 151 (type_of%@hG.D9):=⟨@hG.D9,cf151⟩;have dd:KD [(5,[4])]:=⟨qZt⟩;exact zr hm ah
theorem sp4:∀n,Sp4 (Y5e n)
 |0=>⟨(by unfold Z2i;intros;rename_i h;cases(show(none:Option _)=some _ from h))⟩
 |n+1=>⟨Y5m (sp4 n)⟩
theorem Y4y:Z2i D9:=(sp4 NN).D9

theorem Y3x{p0 p1}(hS:Sep g T0 w0 [Y7 R]):∀r,Y6t p0 p1=some r->
 Cl 201 #[.int .u32 p0,.int .u32 p1] w0 (Q41 T0 w0 g R r):=by
 intro r hm;refine eN Tryz.func201 Tryz.ntmps201 fun J=>?_;unfold Y6t at hm;exact zr hm hS

instance:Ct 201 @Y3x:=⟨@Y3x,cf201⟩
theorem Y3s{p0 p1}(hS:Sep g T0 w0 [Y7 R]):∀r,Y3t p0 p1=some r->
 Cl 202 #[.int .u32 p0,.int .u32 p1] w0 (Q41 T0 w0 g R r):=by
 intro r hm;refine eN Tryz.func202 Tryz.ntmps202 fun J=>?_;unfold Y3t at hm;exact zr hm hS

instance:Ct 202 @Y3s:=⟨@Y3s,cf202⟩
theorem Y3v{p0 p1}(hS:Sep g T0 w0 [Y7 R]):∀r,Y6s p0 p1=some r->
 Cl 203 #[.int .u32 p0,.int .u32 p1] w0 (Q41 T0 w0 g R r):=by
 intro r hm;refine eN Tryz.func203 Tryz.ntmps203 fun J=>?_;unfold Y6s at hm;exact zr hm hS

instance:Ct 203 @Y3v:=⟨@Y3v,cf203⟩
theorem Y0o{p0 p1}(hS:Sep g T0 w0 [Y7 R]):∀r,Z8g p0 p1=some r->
 Cl 211 #[iv p0,iv p1] w0 (Q38 T0 w0 g R r):=by
 intro r hm;refine eN Tryz.func211 Tryz.ntmps211 fun J=>?_;unfold Z8g at hm;exact zr hm hS

instance:Ct 211 @Y0o:=⟨@Y0o,cf211⟩
theorem Z9l{p0 p1}(hS:Sep g T0 w0 [Y7 R]):∀r,Z6j p0 p1=some r->
 Cl 210 #[.int .u32 p0,.int .u32 p1,.func (.func 211) #[] #[]] w0 (Q38 T0 w0 g R r):=by
 intro r hm;refine eN Tryz.func210 Tryz.ntmps210 fun J=>?_;unfold Z6j at hm;exact zr hm hS

instance:Ct 210 @Z9l:=⟨@Z9l,cf210⟩
theorem Y3w{p0 p1}(hS:Sep g T0 w0 [Y7 R]):∀r,Y0p p0 p1=some r->
 Cl 204 #[.int .u32 p0,.int .u32 p1] w0 (Q41 T0 w0 g R r):=by
 intro r hm;refine eN Tryz.func204 Tryz.ntmps204 fun J=>?_;unfold Y0p at hm;exact zr hm hS

instance:Ct 204 @Y3w:=⟨@Y3w,cf204⟩
theorem Y0m{p0 p1}(hS:Sep g T0 w0 [Y7 R]):∀r,Z8f p0 p1=some r->
 Cl 212 #[iv p0,iv p1] w0 (Q38 T0 w0 g R r):=by
 intro r hm;refine eN Tryz.func212 Tryz.ntmps212 fun J=>?_;unfold Z8f at hm;exact zr hm hS

instance:Ct 212 @Y0m:=⟨@Y0m,cf212⟩
theorem Z6i{p0 p1}(hS:Sep g T0 w0 [Y7 R]):∀r,Z4m p0 p1=some r->
 Cl 210 #[.int .u32 p0,.int .u32 p1,.func (.func 212) #[] #[]] w0 (Q38 T0 w0 g R r):=by
 intro r hm;refine eN Tryz.func210 Tryz.ntmps210 fun J=>?_;unfold Z4m at hm;exact zr hm hS

instance:Ct 210 @Z6i:=⟨@Z6i,cf210⟩
theorem Y3u{p0 p1}(hS:Sep g T0 w0 [Y7 R]):∀r,Y0n p0 p1=some r->
 Cl 205 #[.int .u32 p0,.int .u32 p1] w0 (Q41 T0 w0 g R r):=by
 intro r hm;refine eN Tryz.func205 Tryz.ntmps205 fun J=>?_;unfold Y0n at hm;exact zr hm hS

instance:Ct 205 @Y3u:=⟨@Y3u,cf205⟩
theorem Y2r{p0 p1}(hS:Sep g T0 w0 [Y7 R]):∀r,Z7i p0 p1=some r->
 Cl 206 #[.int .u32 p0,.int .u32 p1] w0 (Q41 T0 w0 g R r):=by
 intro r hm;refine eN Tryz.func206 Tryz.ntmps206 fun J=>?_;unfold Z7i at hm;refine qN ?_;refine sq2 ?_;obtain⟨_,D,hm⟩:=Z8 hm;have D:=Y4i D;refine pu ?_;exact pv (X0a rfl rfl D) (re hm (hS.sE [0]))

instance:Ct 206 @Y2r:=⟨@Y2r,cf206⟩
theorem Z9m{p0 p1}(hS:Sep g T0 w0 [Y7 R]):∀r,Z4q p0 p1=some r->
 Cl 207 #[.int .u32 p0,.int .u32 p1] w0 (Q41 T0 w0 g R r):=by
 intro r hm;refine eN Tryz.func207 Tryz.ntmps207 fun J=>?_;unfold Z4q at hm;refine qN ?_;refine sq2 ?_;obtain⟨_,D,hm⟩:=Z8 hm;have D:=Y4i D;refine pu ?_;exact pv (Y7b rfl rfl D) (re hm (hS.sE [0]))

instance:Ct 207 @Z9m:=⟨@Z9m,cf207⟩
theorem Y3a{p0}(hS:Sep g T0 w0 [Y7 R]):∀r,Q9z p0=some r->
 Cl 186 #[.bool p0] w0 (Q41 T0 w0 g R r):=by
 intro r hm;refine eN Tryz.func186 Tryz.ntmps186 fun J=>?_;unfold Q9z at hm;exact zr hm hS

instance:Ct 186 @Y3a:=⟨@Y3a,cf186⟩
theorem Y3q{p0}(hS:Sep g T0 w0 [Y7 R]):∀r,Y3r p0=some r->
 Cl 215 #[.bool p0] w0 (Q41 T0 w0 g R r):=by
 intro r hm;refine eN Tryz.func215 Tryz.ntmps215 fun J=>?_;unfold Y3r at hm;exact zr hm hS

instance:Ct 215 @Y3q:=⟨@Y3q,cf215⟩
theorem Y2q{p0 p1}(hS:Sep g T0 w0 [Y7 R]):∀r,Z2r p0 p1=some r->
 Cl 213 #[.int .u32 p0,.int .u32 p1] w0 (Q41 T0 w0 g R r):=by
 intro r hm;refine eN Tryz.func213 Tryz.ntmps213 fun J=>?_;unfold Z2r at hm;exact zr hm hS

instance:Ct 213 @Y2q:=⟨@Y2q,cf213⟩
theorem Z6s{p0 p1 p2}(hS:Sep g T0 w0 [Y7 R]):∀r,Z2c p0 p1 p2=some r->
 Cl 208 #[iv p0,.int .u32 p1,.int .u32 p2] w0 (Q75 T0 w0 g R r.1 r.2):=by
 intro r hm;refine eN Tryz.func208 Tryz.ntmps208 fun J=>?_;unfold Z2c at hm;exact zr hm hS

instance:Ct 208 @Z6s:=⟨@Z6s,cf208⟩
theorem Z9t{p0 p1 p2}(hS:Sep g T0 w0 [Y7 R]):∀r,Q7l p0 p1 p2=some r->
 Cl 185 #[iv p0,.int .u32 p1,.int .u32 p2] w0 (Q75 T0 w0 g R r.1 r.2):=by
 intro r hm;refine eN Tryz.func185 Tryz.ntmps185 fun J=>?_;unfold Q7l at hm;refine qN ?_;refine sq2 (qN ?_);refine blk (sq2 (cd hm ?_ ?_))<;>intro V hm
 . exact zr hm hS
 refine sq2 (cd hm ?_ ?_)<;>intro W hm
 . exact zr hm hS
 refine sq2 (cd hm ?_ ?_)<;>intro aa hm
 . exact zr hm hS
 refine M8 hm (fun E a K=>∃O D,JR (nf 81) g T0 w0 a K O (E D=some r) [(0,iv p0),(1,.int .u32 p1),(2,.int .u32 p2),(8,iv p0),(24,.bool D)] [Y7 R]) (fun E hm=>?_) ?_
 . exact zr hm hS
 rintro _ K ⟨O,D,J,hm,rfl,U,_⟩;exact zr hm U

instance:Ct 185 @Z9t:=⟨@Z9t,cf185⟩
def Z5j(F:Y6->Option (Int×Int)):Prop:=∀{g:World}{T0:TP}{w0:World}{R:List Y9}{p0:Y6}{a1 c1}(hS:Sep g T0 w0 [Y7 R])(h1:Q11 a1 c1 T0 w0 p0.Kids),∀r,F p0=some r->
 Cl 152 #[Q55 a1 c1 p0] w0 (Q75 T0 w0 g R r.1 r.2)
structure Sp5(G:Rec5):Prop where
 H5:Z5j G.H5
theorem Y8j{G:Rec5}(hG:Sp5 G):Z5j (Z3o G):=by
 intro g _ _ R K a1 c1 hS h1 r hm;refine eN Tryz.func152 Tryz.ntmps152 fun J=>?_;unfold Z3o at hm;refine sq2 (bX (U2 K a1 c1) hS ?_);intro _ E _ O;refine pn ?_;refine sq2 (sq2 (cd hm ?_ ?_))<;>intro an hm
 . exact sq2 (re hm (O.sE [1]))
 refine pn ?_;refine sq2 ?_;obtain⟨u1,ah,hm⟩:=Z8 hm;obtain⟨cs1,ai,_,hT1⟩:=ixS O ah h1;obtain⟨_,c2,rfl,h2⟩:=L0 ai;refine pu ?_;refine cB cf152 hm (hG.H5 (O.bE [0,1] []) h2) ?_;rintro V _ W w2 _ ⟨rfl,D,_⟩ hm;refine pn ?_;refine sq2 (sq2 (cd hm ?_ ?_))<;>intro ao hm
 . exact sq2 (re hm (D.sE [1]))
 refine pn ?_;refine M8 hm (fun ab a w3=>∃T2,JR (nf 93) g W w2 a w3 T2 (ab ()=some r) [(1,pt E 0),(4,.int .u32 V.1)] [Q79 a1 E c1 K,Y7 R]) (fun ab hm=>?_) ?_
 . refine qN ?_;refine blk (sq2 (cd hm ?_ ?_))<;>intro ap hm
   . exact zr hm D
   refine sq2 (cd hm ?_ ?_)<;>intro aq hm
   . exact zr hm D
   refine sq2 (cd hm ?_ ?_)<;>intro ar hm
   . have aj:Ctr Tryz.prog 152 (type_of%@hG.H5):=⟨@hG.H5,cf152⟩;exact zr hm D
   refine M8 hm (fun ae a w7=>∃T6 U,JR (nf 93) g W w2 a w7 T6 (ae U=some r) [(1,pt E 0),(4,.int .u32 V.1),(55,.bool U)] [Q79 a1 E c1 K,Y7 R]) (fun ae hm=>?_) ?_
   . exact zr hm D
   rintro _ w7 ⟨T6,U,J,hm,rfl,ak,_⟩;exact zr hm ak
 rintro _ w3 ⟨T2,J,hm,rfl,am,_⟩;have aj:Ctr Tryz.prog 152 (type_of%@hG.H5):=⟨@hG.H5,cf152⟩;exact zr hm am
theorem sp5:∀n,Sp5 (rec5 n)
 |0=>⟨(by unfold Z5j;intros;rename_i h;cases(show(none:Option _)=some _ from h))⟩
 |n+1=>⟨Y8j (sp5 n)⟩
theorem Y7u:Z5j H5:=(sp5 NN).H5

theorem Z6g{p0:Y6}(hS:Sep g T0 w0 [Y7 R])(h1:Q11 a1 c1 T0 w0 p0.Kids):∀r,Z6h p0=some r->
 Cl 110 #[Q55 a1 c1 p0] w0 (Q75 T0 w0 g R r.1 r.2):=by
 intro r hm;refine eN Tryz.func110 Tryz.ntmps110 fun J=>?_;unfold Z6h at hm;refine sq2 (bX (U2 p0 a1 c1) hS ?_);intro _ _ _ E;refine kB ?_;refine cB cf151 hm (Y4y (E.bE [0,1] []) (mC h1)) ?_;rintro _ _ _ _ _ ⟨rfl,D,_⟩ hm;refine cd hm ?_ ?_<;>intro O hm
 . exact sq2 (re hm (D.sE [1]))
 refine kA ?_;refine cB cf152 hm (Y7u (D.bE [1] []) (mC h1)) ?_;rintro _ _ _ _ _ ⟨rfl,K,_⟩ hm;exact re hm (K.sE [0])

instance:Ct 110 @Z6g:=⟨@Z6g,cf110⟩
theorem Q9q{p0:Q0}{p1:M7}{p2}(hS:Q34 a1 a2 a3 a4 a5 a6 b1 oo1 n1 c1 n2 c2 n3 c3 n4 c4 n5 c5 n6 c6 Z5 H1 T0 g w0 pv1 r1 r2 R p0)(Z2:Ln Y0 Z9 Z5)(hL1:Ln b1 oo1 H1)(h1:Q13 a7 c7 T0 w0 p1.Dims)(h2:Q10 a8 c8 T0 w0 p1.Init):∀r,Q5m p0 p1 p2=some r->
 Cl 72 #[pt Y0 Z9,Q107 a7 a8 c7 c8 p1,iv p2] w0 (exR r (fun r=>K6 T0 w0 fun T w v=>∃a24 n14 c24 a25 n15 c25,v= .slice a24 n14 c24/\Sep g T w (R++(X6 r.2 Z5 H1 b1 oo1 a25 n15 c25 a2 n2 c2 a3 n3 c3 a4 n4 c4 r1 r2 a5 n5 c5 a6 n6 c6 pv1++[Q20 pv1 r.2,Q104 a24 n14 c24 r.1]))/\True) (fun r=>H9 T0 w0 (Q6 a2 a3 a4 a5 a6 b1 oo1 n2 c2 n3 c3 n4 c4 n5 c5 n6 c6 Z5 H1 g pv1 r1 r2 R r.1.pos r.1.e r.2))):=by
 intro r hm;refine eN Tryz.func72 Tryz.ntmps72 fun J=>?_;unfold Q5m at hm;refine sq2 (bX (Y1z p1 a7 c7 a8 c8) hS ?_);intro _ _ _ bK;refine kA ?_;refine cB Z1v hm (V9 (bK.bE ([0,1,2]++Z3 5 8) [3,4]) hL1) ?_;rintro _ _ _ _ _ ⟨rfl,bL,_⟩ hm;obtain⟨u1,bM,hm⟩:=Z8 hm;refine wl rfl (msS (r:=(J3 .u8)) bL rfl rfl underlying99 el5 zeroValue5 rfl bM fun w3 a9 n7 c9 cV bN=>pn ?_);refine sq2 (qU ?_);refine cP cf106 hm (Q3i (bN.bE [0,2,11] ([3,12,13]++Z3 4 7)) Z2 hL1 (mC h1) (mC h2)) ?_ ?_
 . exact zk
 rintro y2 _ T2 w4 _ ⟨az,c10,rfl,bQ,h3,_⟩ hm;refine pn ?_;refine lpJ hm (fun be o1 m a w5=>∃T3 K E x1 bh n8 c11 aa,JR (nf 74) g T2 w4 a w5 T3 (X5 be m (x1,aa,E,K)=some o1) [(0,pt Y0 Z9),(2,iv p2),(7,.slice a9 n7 c9),(25,sv az y2 c10),(26,iv (qQ y2:Int)),(27,iv aa)] ([Q104 a9 n7 c9 x1,Y7 R,Q20 pv1 E]++X6 ({E with t:=K}) Z5 H1 b1 oo1 bh n8 c11 a2 n2 c2 a3 n3 c3 a4 n4 c4 r1 r2 a5 n5 c5 a6 n6 c6 pv1)) (fun _ _ h=>je h (bQ.sN 0 13)) ?_;rintro be bT o1 U _ _ w5 ⟨T3,K,E,x1,bh,n8,c11,aa,J,bU,rfl,aB,_⟩;obtain⟨m1,z1,rfl,hm,O⟩:=lrE bU bT;refine qN ?_;refine sq2 (cd hm ?_ ?_)<;>intro cW hm
 . refine kE ?_;refine blk (sq2 ?_);obtain⟨u2,bY,hm⟩:=Z8 hm;obtain⟨cs1,bZ,_,hT1⟩:=ixS aB bY h3;obtain⟨b0,c12,rfl,D⟩:=G9 bZ;refine aL zv2 aB ?_;intro _ b4 _ b3;refine sT 0 b3 ?_;intro w7 _ b9;refine pn ?_;refine M8 hm (fun bk a w8=>∃T4 ai V aE n9 c13 b5 av aI c14,JR (nf 74) g T3 w7 a w8 T4 (bk V ai av=some z1) [(0,pt Y0 Z9),(2,iv p2),(7,.slice a9 n7 c9),(8,iv aa),(9,pt b4 0),(10,pt b5 0),(25,sv az y2 c10),(26,iv (qQ y2:Int)),(27,iv aa)] ([Q33 b0 b4 c12 u2,Q104 a9 n7 c9 x1,Y7 R,Q20 pv1 V]++(X6 ({V with t:=ai}) Z5 H1 b1 oo1 aE n9 c13 a2 n2 c2 a3 n3 c3 a4 n4 c4 r1 r2 a5 n5 c5 a6 n6 c6 pv1++[Q79 aI b5 c14 av]))/\Q11 aI c14 T4 w8 av.Kids) (fun bk hm=>?_) ?_
   . refine rtPS [0,1,0,1,2,0,0,2,2,2,2] [0,1,2,3,5,6,4,7,8,9,10] b9 (U7 (R6 (U7 (U7 (R6 (U7 (C5))))))) fun w9 cY aj=>pu ?_;obtain⟨y3,ak,hm⟩:=Z8 hm
     rcases y3 with e1|y3
     . have hm:=J8 hm;refine tF [4,9] ?_;refine⟨?_,?_,qZt⟩
       . refine brW [7,8,9,10] [0] ?_;refine oP A5 (F5 (p0:={E with t:=K}) (aj.bE [0,1,2] (Z3 4 10++[3])) Z2 hL1 (mC D) _ ak) ?_;rintro _ cc _ _ ⟨ce,cf,c23,rfl,cg,_⟩;have hm:=Q1b hm O U;exact pe hm (cg.sN 2 12)
       refine brW [4,7,8,10] [] ?_;refine oaL zv3 aj ?_;intro aJ b7 aM ab;refine t1W [4] [7,8,10] [0] ?_;refine oP A5 (F5 (p0:={E with t:=K}) (ab.bE (Z3 0 4) (Z3 5 10++[4])) Z2 hL1 (mC D) _ ak) ?_;rintro _ cc ci cj ⟨ce,cf,c23,rfl,aN,_⟩;have hm:=Q1b hm O U;exact pe hm (aN.sN 3 12)
     have hm:=C2 hm;obtain⟨_,am,hm⟩:=Z8 hm;obtain⟨y5,W,hm⟩:=Z8 hm
     rcases y5 with e2|y5
     . have hm:=J8 hm;refine tF [4,9] ?_;refine⟨?_,?_,qZt⟩
       . refine brW [7,8,9,10] [0] ?_;refine oS A5 (F5 (p0:={E with t:=K}) (aj.bE [0,1,2] (Z3 4 10++[3])) Z2 hL1 (mC D) _ ak) ?_;rintro _ T8 cl cm ⟨cn,c18,co,cp,c19,rfl,aw,h8,_⟩;refine tF [7,9] ?_;refine⟨?_,?_,qZt⟩
         . refine brW [8,9,10] [] ?_;refine oS Y3b (E2 (aw.bE [0,1,2,13] (Z3 3 10)) Z2 hL1 _ am) ?_;rintro _ T9 bo bp ⟨rfl,an,_⟩;refine tF [8,9] ?_;refine⟨?_,?_,qZt⟩
           . refine brW [9,10] [0] ?_;refine oP Z5f (U3 (an.bE (Z3 0 4) (Z3 4 10)) Z2 hL1 (mC D) (mC h8) _ W) ?_;rintro _ aP _ _ ⟨rfl,cq,_⟩;have hm:=Q1b hm O U;exact pe hm (cq.sE ([2]++Z3 4 10++[3]))
           refine brW [8,10] [] ?_;refine oaL zv3 an ?_;intro bq b7 bt aq;refine t1W [8] [10] [0] ?_;refine oP Z5f (U3 (aq.bE (Z3 0 5) (Z3 5 10)) Z2 hL1 (mC D) (mC h8) _ W) ?_;rintro _ aP aJ aM ⟨rfl,ab,_⟩;have hm:=Q1b hm O U;exact pe hm (ab.sE ([3]++Z3 5 10++[4]))
         refine brW [7,8,10] [] ?_;refine oaL zv3 aw ?_;intro bo b7 bp an;refine t1W [7] [8,10] [] ?_;refine oS Y3b (E2 (an.bE [0,1,2,3,14] (Z3 4 10)) Z2 hL1 _ am) ?_;rintro _ T9 bq bt ⟨rfl,aq,_⟩;refine t1W [8] [10] [0] ?_;refine oP Z5f (U3 (aq.bE (Z3 0 5) (Z3 5 10)) Z2 hL1 (mC D) (mC h8) _ W) ?_;rintro _ aP aJ aM ⟨rfl,ab,_⟩;have hm:=Q1b hm O U;exact pe hm (ab.sE ([3]++Z3 5 10++[4]))
       refine brW [4,7,8,10] [] ?_;refine oaL zv3 aj ?_;intro cl b7 cm aw;refine t1W [4] [7,8,10] [0] ?_;refine oS A5 (F5 (p0:={E with t:=K}) (aw.bE (Z3 0 4) (Z3 5 10++[4])) Z2 hL1 (mC D) _ ak) ?_;rintro _ T8 bo bp ⟨cn,c18,co,cp,c19,rfl,an,h8,_⟩;refine t1W [7] [8,10] [] ?_;refine oS Y3b (E2 (an.bE [0,1,2,3,14] (Z3 4 10)) Z2 hL1 _ am) ?_;rintro _ T9 bq bt ⟨rfl,aq,_⟩;refine t1W [8] [10] [0] ?_;refine oP Z5f (U3 (aq.bE (Z3 0 5) (Z3 5 10)) Z2 hL1 (mC D) (mC h8) _ W) ?_;rintro _ aP aJ aM ⟨rfl,ab,_⟩;have hm:=Q1b hm O U;exact pe hm (ab.sE ([3]++Z3 5 10++[4]))
     have hm:=C2 hm;refine tF [4,9] ?_;refine⟨?_,?_,qZt⟩
     . refine brW [7,8,9,10] [0] ?_;refine oS A5 (F5 (p0:={E with t:=K}) (aj.bE [0,1,2] (Z3 4 10++[3])) Z2 hL1 (mC D) _ ak) ?_;rintro _ T5 ct cu ⟨cv,c15,cw,cy,c16,rfl,ax,h6,_⟩;refine tF [7,9] ?_;refine⟨?_,?_,qZt⟩
       . refine brW [8,9,10] [] ?_;refine oS Y3b (E2 (ax.bE [0,1,2,13] (Z3 3 10)) Z2 hL1 _ am) ?_;rintro _ T6 bv bw ⟨rfl,ao,_⟩;refine tF [8,9] ?_;refine⟨?_,?_,qZt⟩
         . refine brW [9,10] [0] ?_;refine oS Z5f (U3 (ao.bE (Z3 0 4) (Z3 4 10)) Z2 hL1 (mC D) (mC h6) _ W) ?_;rintro _ T7 aQ aR ⟨aS,c17,rfl,ac,h7,_⟩;refine t1W [9] [10] [] ?_;refine oaL zv3 ac ?_;intro aU b6 aW ad;refine t1W [10] [] [] ?_;refine osT 0 ad ?_;intro aX aY ae;refine pu ?_;exact je hm (ae.sE (Z3 1 14++[0]))
         refine brW [8,10] [] ?_;refine oaL zv3 ao ?_;intro aQ b6 aR ac;refine t1W [8] [10] [0] ?_;refine oS Z5f (U3 (ac.bE (Z3 0 5) (Z3 5 10)) Z2 hL1 (mC D) (mC h6) _ W) ?_;rintro _ T7 aU aW ⟨aS,c17,rfl,ad,h7,_⟩;refine t1W [10] [] [] ?_;refine osT 0 ad ?_;intro aX aY ae;refine pu ?_;exact je hm (ae.sE (Z3 1 14++[0]))
       refine brW [7,8,10] [] ?_;refine oaL zv3 ax ?_;intro bv b6 bw ao;refine t1W [7] [8,10] [] ?_;refine oS Y3b (E2 (ao.bE [0,1,2,3,14] (Z3 4 10)) Z2 hL1 _ am) ?_;rintro _ T6 aQ aR ⟨rfl,ac,_⟩;refine t1W [8] [10] [0] ?_;refine oS Z5f (U3 (ac.bE (Z3 0 5) (Z3 5 10)) Z2 hL1 (mC D) (mC h6) _ W) ?_;rintro _ T7 aU aW ⟨aS,c17,rfl,ad,h7,_⟩;refine t1W [10] [] [] ?_;refine osT 0 ad ?_;intro aX aY ae;refine pu ?_;exact je hm (ae.sE (Z3 1 14++[0]))
     refine brW [4,7,8,10] [] ?_;refine oaL zv3 aj ?_;intro ct b6 cu ax;refine t1W [4] [7,8,10] [0] ?_;refine oS A5 (F5 (p0:={E with t:=K}) (ax.bE (Z3 0 4) (Z3 5 10++[4])) Z2 hL1 (mC D) _ ak) ?_;rintro _ T5 bv bw ⟨cv,c15,cw,cy,c16,rfl,ao,h6,_⟩;refine t1W [7] [8,10] [] ?_;refine oS Y3b (E2 (ao.bE [0,1,2,3,14] (Z3 4 10)) Z2 hL1 _ am) ?_;rintro _ T6 aQ aR ⟨rfl,ac,_⟩;refine t1W [8] [10] [0] ?_;refine oS Z5f (U3 (ac.bE (Z3 0 5) (Z3 5 10)) Z2 hL1 (mC D) (mC h6) _ W) ?_;rintro _ T7 aU aW ⟨aS,c17,rfl,ad,h7,_⟩;refine t1W [10] [] [] ?_;refine osT 0 ad ?_;intro aX aY ae;refine pu ?_;exact je hm (ae.sE (Z3 1 14++[0]))
   rintro _ w8 ⟨T4,ai,V,aE,n9,c13,b5,av,aI,c14,⟨J,hm,rfl,aN,_⟩,h5⟩;refine qU ?_;refine cB cf110 hm (Z6g (aN.bE (Z3 0 14) []) h5) ?_;rintro y6 _ _ ci cj ⟨rfl,cA,_⟩ hm;refine kA ?_;refine cP cf66 hm (Q2g (cA.bE (Z3 1 13) [])) ?_ ?_
   . rintro e3 _ _ _ _ ⟨rfl,cC,_⟩ hm;have hm:=Q1b hm O U;exact pe hm (cC.sE ([1]++Z3 3 10++[2]))
   rintro _ _ _ _ _ ⟨rfl,cD,_⟩ hm;refine kA ?_;refine cB Y3b hm (E2 (p0:={V with t:=ai}) (cD.bE [0,1,2] (Z3 3 10)) Z2 hL1) ?_;rintro _ _ _ _ _ ⟨rfl,cE,_⟩ hm;refine cB cf105 hm (Q0q (p0:={V with t:=ai}) (cE.bE [0,1,2] (Z3 3 10)) Z2 hL1) ?_;rintro y9 _ cF cG _ ⟨rfl,cI,_⟩ hm;refine kD ?_;refine lpJ hm (fun bB o2 m a bD=>∃bF aZ ay,JR (nf 74) g cF cG a bD bF (X5 bB m (aZ,ay)=some o2) [(0,pt Y0 Z9),(2,iv p2),(7,.slice a9 n7 c9),(8,iv aa),(11,.int .u32 y6.1),(13,iv y9),(25,sv az y2 c10),(26,iv (qQ y2:Int)),(27,iv aa),(55,iv y9),(56,iv ay)] ([Q104 a9 n7 c9 aZ,Y7 R,Q20 pv1 V]++X6 ({V with t:=ai}) Z5 H1 b1 oo1 aE n9 c13 a2 n2 c2 a3 n3 c3 a4 n4 c4 r1 r2 a5 n5 c5 a6 n6 c6 pv1)) (fun _ _ h=>je h (cI.sN 0 13)) ?_;rintro bB cJ o2 cK _ _ bD ⟨bF,aZ,ay,J,cL,rfl,bG,_⟩;obtain⟨_,_,rfl,hm,bI⟩:=lrE cL cJ;refine qN ?_;refine sq2 (cd hm ?_ ?_)<;>intro cZ hm
   . refine kE ?_;refine blk (qN ?_);obtain⟨_,ba,hm⟩:=Z8 hm;have ba:=Y4i ba;obtain⟨u5,cO,hm⟩:=Z8 hm;obtain⟨u6,bJ,hm⟩:=Z8 hm;obtain rfl:u5=u6:=oI (cO.symm.trans bJ);refine pu ?_;refine pv (Y7b rfl rfl ba) (pu ?_);refine wl rfl (Y0x (q:=0) (j:=0) (u':=IntKind.wrap .u8 (Int.fdiv y6.1 (2^(min (Int.toNat (IntKind.wrap .i64 (8*ay))) (IntKind.bits .u32))))) bG ⟨rfl,rfl⟩ bJ rfl rfl rfl sizeOf5 rfl rfl rfl (fun c0 cR=>by rw[Q4z (r:=(J3 .u8)) cR rfl];exact rfl) fun da db cT=>?_);exact lg hm bI (cT.sN 0 13)
   have hm:=Q4m hm bI cK;exact lg hm O (bG.sN 0 13)
 have hm:=Q4m hm O U;exact zr hm aB

instance:Ct 72 @Q9q:=⟨@Q9q,cf72⟩
theorem Q7p{p0:Q0}{p1:M7}(hS:Q34 a1 a2 a3 a4 a5 a6 b1 oo1 n1 c1 n2 c2 n3 c3 n4 c4 n5 c5 n6 c6 Z5 H1 T0 g w0 pv1 r1 r2 R p0)(Z2:Ln Y0 Z9 Z5)(hL1:Ln b1 oo1 H1)(h1:Q13 a7 c7 T0 w0 p1.Dims)(h2:Q10 a8 c8 T0 w0 p1.Init):∀r,Q2k p0 p1=some r->
 Cl 35 #[pt Y0 Z9,Q107 a7 a8 c7 c8 p1] w0 (exR r (fun r=>K6 T0 w0 fun T w v=>∃a20 n18 c20 a21 n19 c21 a22 n20 c22 a23 n21 c23,v= .tuple #[]/\Sep g T w (R++(Q2 a20 a21 a22 a4 a23 a6 b1 oo1 n18 c20 n19 c21 n20 c22 n4 c4 n21 c23 n6 c6 Z5 H1 pv1 r1 r2 r))/\True) (fun r=>H9 T0 w0 fun T w v=>∃a20 n18 c20 a21 n19 c21 a22 n20 c22 a23 n21 c23,v= .iface 89 (Q26 r.1.pos r.1.e)/\Sep g T w (R++(Q2 a20 a21 a22 a4 a23 a6 b1 oo1 n18 c20 n19 c21 n20 c22 n4 c4 n21 c23 n6 c6 Z5 H1 pv1 r1 r2 r.2))/\True)):=by
 intro r hm;refine eN Tryz.func35 Tryz.ntmps35 fun J=>?_;unfold Q2k at hm;refine sq2 (bX (Y1z p1 a7 c7 a8 c8) hS ?_);intro _ b2 _ ab;refine kA ?_;refine cP cf69 hm (Q3f (ab.bE [0,1,12] (Z3 2 10)) Z2 hL1 (mC h1) (mC h2)) ?_ ?_
 . exact zk
 rintro E _ _ _ _ ⟨_,_,c9,rfl,ac,_⟩ hm;refine kE ?_;refine Z2w [0,0,1,0,1,0,0,0,1,2] [0,1,2,3,4,5,6,7,8,9] ac (U7 (C5)) fun w3 aE U=>pu ?_;obtain⟨D,V,hm⟩:=Z8 hm
 rcases D with e2|D
 . have hm:=J8 hm;refine s2 [] rfl qZt rfl (by kernel_rfl) (Z2d cf70 rfl (Q3h (p0:={E.2 with fun_:=p0.fun_}) (p1:=p1.Pos) (p2:=p1.Name) (U.bE [0,1,2] (Z3 3 10)) Z2 hL1 _ V) rfl fun v6 T7 aG aI ad=>?_);obtain⟨rfl,ae,_⟩:=ad;exact pe hm (ae.sE ([1]++Z3 3 10++[2]))
 have hm:=C2 hm;refine sS [] cf70 (Q3h (p0:={E.2 with fun_:=p0.fun_}) (U.bE [0,1,2] (Z3 3 10)) Z2 hL1 _ V) ?_;rintro _ _ _ _ ⟨rfl,af,_⟩;refine kE ?_;refine rsS [0,0,0,0,0,1,0,0,1,0,2,2,2,0,0,0,2] [0,1,2,3,4,5,6,7,8,9,10,11,12,13,14,15,16] af fun w5 aK ag=>?_;obtain⟨K,ah,hm⟩:=Z8 hm;refine sS [(5,.slice a2 n2 c2)] cf71 (Q4e (p0:={D with fun_:=p0.fun_}) (ag.bE [0,1,2] (Z3 3 10)) Z2 hL1 _ ah) ?_;rintro _ _ _ _ ⟨rfl,ai,_⟩;refine s2W [] ?_;refine obS (r:=Q4b) (l:=([K]:List Z3z)) (css:=[(X4a K)]) ai ⟨(Y5g (x:=K):Q4b.rp _ _ _ _),qZt⟩ ?_;intro _ _ _ c10 _ aj;refine pu ?_;obtain⟨_,ak,hm⟩:=Z8 hm;refine s2W [0] ?_;refine oaO 7 aj (U8 ak) ?_;intro _ _ _ c11 _ am;refine s2W [] ?_;refine osB 4 1 Z2 am ?_;intro _ _ an;refine pu ?_;refine se (K7 [(0,pt Y0 Z9),(3,pt b2 0),(4,iv E.1)] ⟨rfl,rfl,rfl,qZt⟩ fun J=>sq2 (bS (r:=(J3 .i64)) (l:=([E.1]:List Int)) (css:=[[iv E.1]]) an ⟨rfl,qZt⟩ ?_));intro _ _ _ c12 _ ao;obtain⟨_,ap,hm⟩:=Z8 hm;refine aO 13 ao (U8 ap) ?_;intro _ _ _ c13 _ aq;refine sB 5 7 Z2 aq ?_;intro _ _ ar;refine pn ?_;refine Z2w [0,0,0,0,0,1,0,1,0,2,2,2,0,0,0,2] [0,1,2,3,4,5,6,7,8,9,10,11,12,13,14,15] ar (C5) fun aM aN W=>pu ?_;obtain⟨O,au,hm⟩:=Z8 hm
 rcases O with e1|O
 . have dd:KD [(9,[7]),(10,[7,9]),(11,[5,7,9,10]),(15,[5,7,9,10,11])]:=⟨qZt⟩;exact zr hm W
 have hm:=C2 hm;refine sS [(5,.slice a3 n3 c3)] cf72 (Q9q (p0:={D with u:={D.u with Globals:=D.u.Globals++([K]:List Z3z)},gtypes:=D.gtypes++([E.1]:List Int),fun_:=p0.fun_}) (W.bE [3,2] (Z3 5 10++[4])) Z2 hL1 (mC h1) (mC h2) _ au) ?_;rintro _ _ _ _ ⟨av,_,c14,_,_,c15,rfl,aw,_⟩;refine pu ?_;obtain⟨_,_,ax,h3,rfl⟩:=aw.sl 13;refine s2W [] ?_;refine obS (r:=(rSl (J3 .u8))) (l:=([O.1]:List (List Int))) (css:=[[sv av O.1 c14]]) ax ⟨⟨_,rfl,h3⟩,qZt⟩ ?_;intro _ _ _ c16 _ az;refine pu ?_;obtain⟨_,aA,hm⟩:=Z8 hm;refine s2W [0] ?_;refine oaO 7 az (U8 aA) ?_;intro _ _ _ c17 _ aB;refine s2W [] ?_;refine osB 3 2 Z2 aB ?_;intro _ _ aC;refine pu ?_;have hm:=oI hm;subst hm;refine pn ?_;exact end0 rfl ⟨_,rfl,_,ch,⟨_,_,_,_,_,_,_,_,_,_,_,_,rfl,(aC.sE ([1]++Z3 3 11)).unb,qZt⟩⟩

instance:Ct 35 @Q7p:=⟨@Q7p,cf35⟩
theorem I0{p0:Q0}{p1:Pos}{p2:List UInt8}(hS:Q28 a1 a2 a3 a4 a5 a6 b1 oo1 n1 c1 n2 c2 n3 c3 n4 c4 n5 c5 n6 c6 Z5 H1 T0 g w0 pv1 r1 r2 R p0)(Z2:Ln Y0 Z9 Z5)(hL1:Ln b1 oo1 H1):∀r,L3 p0 p1 p2=some r->
 Cl 70 #[pt Y0 Z9,Q49 p1,Q23 p2.toArray,.map r2] w0 (exR r (fun r=>K6 T0 w0 fun T w v=>v= .tuple #[]/\Q22 a1 a2 a3 a4 a5 a6 b1 oo1 n1 c1 n2 c2 n3 c3 n4 c4 n5 c5 n6 c6 Z5 H1 T g w pv1 r1 r2 R r) (fun r=>H9 T0 w0 (Q63 a1 a2 a3 a4 a5 a6 b1 oo1 n1 c1 n2 c2 n3 c3 n4 c4 n5 c5 n6 c6 Z5 H1 g pv1 r1 r2 R r.1.pos r.1.e r.2))):=by
 intro r hm;refine eN Tryz.func70 Tryz.ntmps70 fun J=>?_;unfold L3 at hm;refine sq2 (bX [iv p1.Line,iv p1.Col] hS ?_);intro _ E _ D;refine kA ?_;refine pv (Z8m (kk:=p2) (u:=0) rfl rfl (D.getA (i:=8) ⟨rfl,rfl⟩) Z2g underlying80 underlying9 zeroValue3 rfl) (pn ?_);refine qU ?_;refine pv (Z8m (kk:=p2) (u:=0) rfl rfl (D.getA (i:=9) ⟨rfl,rfl⟩) Z2g underlying80 underlying9 zeroValue3 rfl) (pn ?_);refine sq2 (blk (qU ?_));refine fkC (d:=34) (c:=(((D3 p0.globals p2).isSome)||((D3 p0.codes p2).isSome))) 2 [(2,(qZs p2)),(3,.map r2),(5,pt E 0)] rfl (fun hk=>zw ((D3 p0.globals p2).isSome) hk) fun J=>?_;refine cd hm ?_ ?_<;>intro U hm
 . exact zr hm D
 refine qU ?_;refine pv (X1u rfl (D.getA (i:=9) ⟨rfl,rfl⟩) underlying80) (cd hm ?_ ?_)<;>intro V hm
 . exact zr hm D
 refine pn ?_;obtain⟨_,K,hm⟩:=Z8 hm;refine pu ?_;refine pv (X1u rfl (D.getA (i:=9) ⟨rfl,rfl⟩) underlying80) (wl rfl (muM (q:=9) (k:=p2) (u:=(Z3w p0.codes:Int)) D ⟨rfl,rfl⟩ K rfl rfl rfl Z2g underlying80 underlying9 fun W aa O=>?_));have hm:=oI hm;subst hm;refine pn ?_;exact end0 rfl ⟨_,rfl,_,ch,⟨rfl,(O.sN 1 11).unb,qZt⟩⟩
instance:Ct 70 @I0:=⟨@I0,cf70⟩
end Go.Proofs.YtbfpdnogfkbiaaaGreat
