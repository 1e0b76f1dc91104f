/- Go functions compute their models. -/
import Derived.Test.YtjohcgibbiebkaaGreatDoorKWef
set_option linter.unusedVariables false
namespace Go.Proofs.YtjohcgibbiebkaaGreatDoor
open List renaming length → qQ
open Bool renaming eq_false_or_eq_true → kG
open _root_.Go.Proofs.Tryz
set_option maxRecDepth 100000
set_option maxHeartbeats 8000000
attribute [local irreducible] wpList wpQuiet Code.wp
variable{g:World}{T0:TP}{w0:World}{R:List X1}
variable{b1 b2 Y3 Q1x Z9o Z9n Y1k c1 c2 c3 c4 c5 c6 c7 c8 c9 c10 c11 c12 c13 n1 n2 n3 n4 n5 n6 n7 Y2 Q1w Z9e Z9d Y0q oo1 oo2:Nat}{H1 H2 Z6 Q0a Z6j Z6i Z9p:Ab->X1}{a1 a2 a3 a4 a5 a6 a7 a8 a9 a10 a11 a12 a13:OA}{r1 r2:Option Nat}{pv1:Value}
attribute [local irreducible] H8 Q1o execOp Program.underlying sizeOf isAgg zeroValue

theorem Z4s{p0:U3}(hS:Sep g T0 w0 [X0 R])(h1:Q56 a1 c1 T0 w0 p0)(h2:Q26 a2 c2 T0 w0 p0.Globals)(h3:Q67 a3 c3 T0 w0 p0)(hG1:Gc T0 w0 1 (Lib.pow10Tab.map fun z=>Value.int .u64 z)):∀r,Z4t p0=some r->
 Cl 6 #[Q47 a1 a2 a3 c1 c2 c3 p0] w0 (J6 T0 w0 fun T w v=>v=(qZs r)/\Q12 T g w R):=by
 intro r hm;refine eN Tryz.func6 Tryz.ntmps6 fun J=>?_;unfold Z4t at hm;refine sq2 (bX [sv a1 p0.Structs c1,sv a2 p0.Globals c2,sv a3 p0.Funcs c3] hS ?_);intro _ U _ bo;refine kA ?_;refine pv (P3 (by kernel_rfl) rfl (u:= .agg #[.slice none 0 0])) (bX [.slice none 0 0] bo ?_);intro w2 D _ bq;refine kC ?_;have bt:=bq.nilO L9 9;refine lpJ hm (fun E I m a w3=>∃T1 x3 a4 n1 c4 x2,JR (nf 106) g T0 w2 a w3 T1 (loopM E m (x2,x3)=some I) [(1,pt U 0),(3,pt D 0),(17,sv a1 p0.Structs c1),(18,iv (qQ p0.Structs:Int)),(19,iv x2)] [Q43 a4 n1 c4 x3.l,Q91 a4 D n1 c4,Q59 a1 a2 a3 U c1 c2 c3 p0,X0 R]) (fun _ _ h=>je h (bt.sN 0 4)) ?_;rintro E V I W _ _ w3 ⟨T1,x3,a4,n1,c4,x2,J,aa,rfl,ap,_⟩;obtain⟨m1,z1,rfl,hm,K⟩:=lrE aa V;refine qN ?_;refine sq2 (cd hm ?_ ?_)<;>intro db hm
 . refine kE ?_;refine blk (sq2 ?_);obtain⟨u1,bu,hm⟩:=bindS hm;obtain⟨cs1,bv,_,hT1⟩:=ixS ap bu h1;obtain⟨a5,c5,rfl,h4⟩:=Z0g bv;refine aL zv12 ap ?_;intro _ _ _ bA;refine sT 0 bA ?_;intro _ _ bB;refine kE ?_;refine bS (r:=L9) (l:=([([115,116,114,117,99,116]:Aa),u1.Name,([123]:Aa)]:List (Aa))) (css:=[[qZs [115,116,114,117,99,116]],[Q14 u1.Name.toArray],[Q54]]) bB ⟨rfl,rfl,rfl,qZt⟩ ?_;intro _ _ _ c6 _ bC;obtain⟨_,_,bD,h5,rfl⟩:=bC.sl 0;refine cB Q2q hm (Y1 (bD.bE [1,4,5] [3,2]) (Q1j D) h5) ?_;rintro _ _ T3 w7 _ ⟨_,_,c7,rfl,bJ,_⟩ hm;refine kC ?_;refine lpJ hm (fun ab o2 m a w8=>∃T4 x6 a8 n4 c8 x5,JR (nf 106) g T3 w7 a w8 T4 (loopM ab m (x5,x6)=some o2) [(1,pt U 0),(3,pt D 0),(17,sv a1 p0.Structs c1),(18,iv (qQ p0.Structs:Int)),(19,iv x2),(29,sv a5 u1.Fields c5),(30,iv (qQ u1.Fields:Int)),(31,iv x5)] [Q59 a1 a2 a3 U c1 c2 c3 p0,X0 R,Q91 a8 D n4 c8,Q43 a8 n4 c8 x6.l]) (fun _ _ h=>je h (bJ.sN 1 4)) ?_;rintro ab aw o2 ax _ _ w8 ⟨T4,x6,a8,n4,c8,x5,J,ay,rfl,az,_⟩;obtain⟨m2,z2,rfl,hm,ad⟩:=lrE ay aw;refine qN ?_;refine sq2 (cd hm ?_ ?_)<;>intro dc hm
   . refine kE ?_;refine blk (sq2 ?_);obtain⟨_,bL,hm⟩:=bindS hm;obtain⟨cs2,bM,_,hT2⟩:=ixS az bL h4;obtain⟨_,c9,_,c10,rfl,h6,h7⟩:=Q4j bM;refine aL zv4 az ?_;intro _ _ _ bO;refine sT 0 bO ?_;intro _ _ bP;refine kA ?_;refine cB cf12 hm (S9 (bP.bE [1,2] [3,4]) (Q1j D) (mC h6) (mC h7) (hG1.mono ch)) ?_;rintro _ _ _ _ _ ⟨_,_,c11,rfl,bQ,_⟩ hm;refine pn ?_;refine bS (r:=L9) (l:=([([59]:Aa)]:List (Aa))) (css:=[[Q32]]) bQ ⟨rfl,qZt⟩ ?_;intro _ _ _ c12 _ bR;obtain⟨_,_,bT,h8,rfl⟩:=bR.sl 0;refine cB Q2q hm (Y1 (bT.bE [1,2] [3,4]) (Q1j D) h8) ?_;rintro _ _ _ _ _ ⟨_,_,c13,rfl,bV,_⟩ hm;exact lg hm ad (bV.sN 0 4)
   have hm:=Q7b hm ad ax;refine pn ?_;refine bS (r:=L9) (l:=([([125]:Aa),([59]:Aa)]:List (Aa))) (css:=[[Q55],[Q32]]) az ⟨rfl,rfl,qZt⟩ ?_;intro _ _ _ c14 _ bW;obtain⟨_,_,bY,h9,rfl⟩:=bW.sl 0;refine cB Q2q hm (Y1 (bY.bE [1,2] [3,4]) (Q1j D) h9) ?_;rintro _ _ _ _ _ ⟨_,_,c15,rfl,b0,_⟩ hm;exact lg hm K (b0.sE [3,2,0,1])
 have hm:=Q7b hm K W;refine kC ?_;refine lpJ hm (fun E I m a aA=>∃aB x9 aD aE c16 x8,JR (nf 106) g T1 w3 a aA aB (loopM E m (x8,x9)=some I) [(1,pt U 0),(3,pt D 0),(47,sv a2 p0.Globals c2),(48,iv (qQ p0.Globals:Int)),(49,iv x8)] [Q43 aD aE c16 x9.l,Q91 aD D aE c16,Q59 a1 a2 a3 U c1 c2 c3 p0,X0 R]) (fun _ _ h=>je h (ap.sN 0 4)) ?_;rintro E V I W _ _ aA ⟨aB,x9,aD,aE,c16,x8,J,aa,rfl,aG,_⟩;obtain⟨m1,z1,rfl,hm,K⟩:=lrE aa V;refine qN ?_;refine sq2 (cd hm ?_ ?_)<;>intro dd hm
 . refine kE ?_;refine blk (sq2 ?_);obtain⟨_,b3,hm⟩:=bindS hm;obtain⟨cs3,b5,_,hT3⟩:=ixS aG b3 h2;obtain⟨_,c17,_,c18,rfl,b7,b9⟩:=Q4j b5;refine aL zv4 aG ?_;intro _ _ _ cc;refine sT 0 cc ?_;intro _ _ ce;refine kA ?_;refine cB cf12 hm (S9 (ce.bE [3,4] [2,1]) (Q1j D) (mC b7) (mC b9) (hG1.mono ch)) ?_;rintro _ _ _ _ _ ⟨_,_,c19,rfl,cf,_⟩ hm;refine pn ?_;refine bS (r:=L9) (l:=([([59]:Aa)]:List (Aa))) (css:=[[Q32]]) cf ⟨rfl,qZt⟩ ?_;intro _ _ _ c20 _ cg;obtain⟨_,_,ci,cj,rfl⟩:=cg.sl 0;refine cB Q2q hm (Y1 (ci.bE [1,2] [3,4]) (Q1j D) cj) ?_;rintro _ _ _ _ _ ⟨_,_,c21,rfl,ck,_⟩ hm;exact lg hm K (ck.sE [3,2,0,1])
 have hm:=Q7b hm K W;refine kC ?_;refine lpJ hm (fun E I m a be=>∃bf aI aJ aK c22 ae,JR (nf 106) g aB aA a be bf (loopM E m (ae,aI)=some I) [(3,pt D 0),(61,sv a3 p0.Funcs c3),(62,iv (qQ p0.Funcs:Int)),(63,iv ae)] [Q43 aJ aK c22 aI.l,Q91 aJ D aK c22,X0 R]) (fun _ _ h=>je h (aG.sE [0,1,3])) ?_;rintro E V I W _ _ be ⟨bf,aI,aJ,aK,c22,ae,J,aa,rfl,aM,_⟩;obtain⟨m1,z1,rfl,hm,K⟩:=lrE aa V;refine qN ?_;refine sq2 (cd hm ?_ ?_)<;>intro de hm
 . refine kE ?_;refine blk (sq2 ?_);obtain⟨O,cl,hm⟩:=bindS hm;obtain⟨cs4,cm,_,hT4⟩:=ixS aM cl h3;obtain⟨ag,c23,bg,c24,rfl,cn,co⟩:=Q8u cm;refine aL zv6 aM ?_;intro _ ah _ cp;refine sT 0 cp ?_;intro _ _ cq;refine kA ?_;refine cB cf13 hm (Q1b (cq.bE [0,3] [2,1]) (Q1j D)) ?_;rintro _ _ _ _ _ ⟨_,_,c25,rfl,cr,_⟩ hm;refine kE ?_;refine bS (r:=L9) (l:=([O.Name,([40]:Aa)]:List (Aa))) (css:=[[Q14 O.Name.toArray],[Q40]]) cr ⟨rfl,rfl,qZt⟩ ?_;intro _ _ _ c26 _ ct;obtain⟨_,_,cu,cv,rfl⟩:=ct.sl 0;refine cB Q2q hm (Y1 (cu.bE [1,2] [3,4]) (Q1j D) cv) ?_;rintro _ _ cw cx _ ⟨_,_,c27,rfl,cy,_⟩ hm;refine kC ?_;refine lpJ hm (fun ab o2 m a bh=>∃aN aP aQ aR c28 ai,JR (nf 106) g cw cx a bh aN (loopM ab m (ai,aP)=some o2) [(3,pt D 0),(11,pt ah 0),(61,sv a3 p0.Funcs c3),(62,iv (qQ p0.Funcs:Int)),(63,iv ae),(77,sv ag O.Params c23),(78,iv (qQ O.Params:Int)),(79,iv ai)] [K7 ah (Z8n O ag c23 bg c24),X0 R,Q91 aQ D aR c28,Q43 aQ aR c28 aP.l]) (fun _ _ h=>je h (cy.sN 0 4)) ?_;rintro ab aw o2 ax _ _ bh ⟨aN,aP,aQ,aR,c28,ai,J,ay,rfl,aS,_⟩;obtain⟨m2,z2,rfl,hm,ad⟩:=lrE ay aw;refine qN ?_;refine sq2 (cd hm ?_ ?_)<;>intro dg hm
   . refine kE ?_;refine blk (sq2 ?_);obtain⟨u5,cA,hm⟩:=bindS hm;obtain⟨cs5,cC,_,hT5⟩:=ixS aS cA cn;obtain⟨cD,c29,cE,c30,rfl,cF,cG⟩:=Q4j cC;refine aL zv4 aS ?_;intro _ bi _ cI;refine sT 0 cI ?_;intro cJ _ bj;refine pn ?_;refine O1 hm (fun bk a bm=>∃bn aT aU aV c31,JR (nf 106) g aN cJ a bm bn (bk aT=some z2) [(3,pt D 0),(11,pt ah 0),(13,pt bi 0),(61,sv a3 p0.Funcs c3),(62,iv (qQ p0.Funcs:Int)),(63,iv ae),(77,sv ag O.Params c23),(78,iv (qQ O.Params:Int)),(79,iv ai)] [K7 bi (Z5j u5 cD c29 cE c30),K7 ah (Z8n O ag c23 bg c24),X0 R,Q91 aU D aV c31,Q43 aU aV c31 aT.l]) (fun bk hm=>?_) ?_
     . refine sq2 (cd hm ?_ ?_)<;>intro dh hm
       . refine bS (r:=L9) (l:=([([44]:Aa)]:List (Aa))) (css:=[[Q84]]) bj ⟨rfl,qZt⟩ ?_;intro _ _ _ _ _ cK;obtain⟨_,_,cL,cM,rfl⟩:=cK.sl 0;refine cB Q2q hm (Y1 (cL.bE [1,2,3] [4,5]) (Q1j D) cM) ?_;rintro _ _ _ _ _ ⟨_,_,_,rfl,cO,_⟩ hm;exact je hm (cO.sN 0 5)
       exact je hm (bj.sN 0 5)
     rintro _ bm ⟨bn,aT,aU,aV,c31,J,hm,rfl,cQ,_⟩;refine pu ?_;refine cB cf12 hm (S9 (cQ.bE [1,2] [3,4]) (Q1j D) (mC cF) (mC cG) (hG1.mono ch)) ?_;rintro _ _ _ _ _ ⟨_,_,_,rfl,cR,_⟩ hm;exact lg hm ad (cR.sN 0 4)
   have hm:=Q7b hm ad ax;refine kE ?_;refine bS (r:=L9) (l:=([([41]:Aa)]:List (Aa))) (css:=[[Q41]]) aS ⟨rfl,qZt⟩ ?_;intro _ _ _ _ _ cT;obtain⟨_,_,cU,cV,rfl⟩:=cT.sl 0;refine cB Q2q hm (Y1 (cU.bE [1,2] [3,4]) (Q1j D) cV) ?_;rintro _ _ _ _ _ ⟨_,_,_,rfl,cW,_⟩ hm;refine pn ?_;refine cB cf14 hm (Z8y (cW.bE [1] [2,3]) (Q1j D) (mC co) (hG1.mono ch)) ?_;rintro _ _ _ _ _ ⟨_,_,_,rfl,cX,_⟩ hm;exact lg hm K (cX.sE [2,1,0])
 have hm:=Q7b hm K W;refine kA ?_;obtain⟨_,_,cY,cZ,rfl⟩:=aM.sl 0;obtain⟨_,da,hm⟩:=bindS hm;refine cS cf15 (Y4t (cY.bE [2] []) cZ da) ?_;rintro _ _ _ _ ⟨rfl,aW,_⟩;have aW:=aW.unb;exact re hm (aW.sE [0])

instance:Ct 6 @Z4s:=⟨@Z4s,cf6⟩
theorem Q5l(hS:Sep g T0 w0 [X0 R])(hG0:Gi T0 w0 0):∀r,Q8y=some r->
 Cl 4 #[] w0 (Q19 T0 w0 g R r):=by
 intro r hm;refine eN Tryz.func4 Tryz.ntmps4 fun J=>?_;unfold Q8y at hm;refine qN ?_;refine qU ?_;refine cB cf5 hm (Z0f (hS.bE [0] []) hG0) ?_;rintro D _ _ _ _ ⟨a1,c1,_,c2,_,c3,rfl,K,h1,h2,h3,_⟩ hm;refine aL zv13 K ?_;intro _ _ _ O;refine aL [iv 0,iv 0] O ?_;intro _ _ _ U;refine sT 1 U ?_;intro _ _ V;refine sT 0 V ?_;intro _ _ W;refine kA ?_;refine cB cf7 hm (Q8d (W.bE [2] []) (mC h1) (mC h2) (mC h3)) ?_;rintro E _ _ _ _ ⟨_,c4,_,c5,_,c6,rfl,aa,_,_,h6,_⟩ hm;refine aL zv15 aa ?_;intro _ I _ ab;refine aL [iv 0,iv 0] ab ?_;intro _ _ _ ac;refine sT 1 ac ?_;intro _ _ ad;refine sT 0 ad ?_;intro _ _ ae;refine kA ?_;refine fkC (d:=23) (c:=((D.2.2==0)&&(E.2.2==0))) 3 [(4,pt I 0)] rfl (fun hk=>zw (D.2.2==0) hk) fun J=>pu ?_;exact fkC (d:=29) (c:=(((D.2.2==0)&&(E.2.2==0))&&((qQ E.1.Codes:Int)==1))) 5 [(4,pt I 0)] rfl (fun hk=>zw ((D.2.2==0)&&(E.2.2==0)) hk) fun J=>zr hm ae

instance:Ct 4 @Q5l:=⟨@Q5l,cf4⟩
theorem Z0q{p0:List Q9j}{p1:List Q9j}(hS:Sep g T0 w0 [X0 R])(h1:SlR Q1v T0 w0 (sv a1 p0 c1) p0)(h2:SlR Q1v T0 w0 (sv a2 p1 c2) p1):∀r,Z1m p0 p1=some r->
 Cl 18 #[sv a1 p0 c1,sv a2 p1 c2] w0 (Q19 T0 w0 g R r):=by
 intro r hm;refine eN Tryz.func18 Tryz.ntmps18 fun J=>?_;unfold Z1m at hm;refine qN ?_;refine sq2 (sq2 (cd hm ?_ ?_))<;>intro av hm
 . exact sq2 (re hm (hS.sE [0]))
 refine kC ?_;refine lpJ hm (fun K O m a U=>∃V D,JR (nf 54) g T0 w0 a U V (loopM K m D=some O) [(0,sv a1 p0 c1),(1,sv a2 p1 c2),(5,iv D)] [X0 R]) (fun _ _ h=>je h (hS.sE [0])) ?_;rintro K ae O W _ _ U ⟨V,D,J,af,rfl,aa,_⟩;obtain⟨m1,_,rfl,hm,E⟩:=lrE af ae;refine sq2 (sq2 (cd hm ?_ ?_))<;>intro aw hm
 . refine kE ?_;refine blk (sq2 ?_);obtain⟨u1,ag,hm⟩:=bindS hm;obtain⟨I,ah,hm⟩:=bindS hm;refine rqS aa (pu ?_)
   rcases bc hm with⟨ai,hm⟩|⟨ai,hm⟩
   . refine pn ?_;intro _ _ _ aj;exact zr hm aj
   obtain⟨u3,ab,hm⟩:=bindS hm;obtain rfl:u1=u3:=oI (ag.symm.trans ab);obtain⟨u4,ac,hm⟩:=bindS hm;obtain rfl:I=u4:=oI (ah.symm.trans ac);refine pu ?_
   rcases bc hm with⟨an,hm⟩|⟨an,hm⟩
   . refine pn ?_;intro _ _ _ ao;refine B0 [(0,sv a1 p0 c1),(1,sv a2 p1 c2),(5,iv D),(53,.bool true)] ⟨rfl,rfl,rfl,rfl,qZt⟩ fun J=>cnd (b:=true) rfl (fun _=>?_) (fun h=>nomatch h);refine qN ?_;have hm:=Q5e hm E W;exact re hm (ao.sE [0])
   obtain⟨u5,aq,hm⟩:=bindS hm;obtain rfl:u1=u5:=oI (ab.symm.trans aq);obtain⟨u6,au,hm⟩:=bindS hm;obtain rfl:I=u6:=oI (ac.symm.trans au);refine pn ?_;intro _ _ _ ad;refine B0 [(0,sv a1 p0 c1),(1,sv a2 p1 c2),(5,iv D),(53,.bool (u1.Cell !=I.Cell))] ⟨rfl,rfl,rfl,rfl,qZt⟩ fun J=>?_;refine cd hm ?_ ?_<;>intro ax hm
   . refine qN ?_;have hm:=Q5e hm E W;exact re hm (ad.sE [0])
   exact lg hm E (ad.sE [0])
 exact zr hm aa

instance:Ct 18 @Z0q:=⟨@Z0q,cf18⟩
def Z4h(F:(List Y9)->(List Y9)->Option (Bool)):Prop:=∀{g:World}{T0:TP}{w0:World}{R:List X1}{p0:List Y9}{a1 c1}{p1:List Y9}{a2 c2}(hS:Sep g T0 w0 [X0 R])(h1:SlR X6 T0 w0 (sv a1 p0 c1) p0)(h2:SlR X6 T0 w0 (sv a2 p1 c2) p1),∀r,F p0 p1=some r->
 Cl 37 #[sv a1 p0 c1,sv a2 p1 c2] w0 (Q19 T0 w0 g R r)
structure Sp9(G:Rec9):Prop where
 Q2h:Z4h G.Q2h
theorem Y8q{G:Rec9}(hG:Sp9 G):Z4h (Z2c G):=by
 intro g T0 w0 R p0 a1 c1 p1 a2 c2 hS h1 h2 r hm;refine eN Tryz.func37 Tryz.ntmps37 fun J=>?_;unfold Z2c at hm;refine qN ?_;refine sq2 (sq2 (cd hm ?_ ?_))<;>intro ax hm
 . exact sq2 (re hm (hS.sE [0]))
 refine kC ?_;refine lpJ hm (fun ak o1 m a w1=>∃T1 I,JR (nf 89) g T0 w0 a w1 T1 (loopM ak m I=some o1) [(0,sv a1 p0 c1),(1,sv a2 p1 c2),(5,iv I)] [X0 R]) (fun _ _ h=>je h (hS.sE [0])) ?_;rintro ak ar o1 _ _ _ w1 ⟨T1,I,J,au,rfl,an,_⟩;obtain⟨m1,z1,rfl,hm,_⟩:=lrE au ar;refine sq2 (sq2 (cd hm ?_ ?_))<;>intro ay hm
 . refine kE ?_;refine blk (O1 hm (fun ao a w2=>∃T2 V D a3 c3 W E a4 c4,JR (nf 89) g T1 w1 a w2 T2 (ao D E=some z1) [(0,sv a1 p0 c1),(1,sv a2 p1 c2),(5,iv I),(6,pt V 0),(7,pt W 0)] [X0 R,Q75 a3 V c3 D,Q75 a4 W c4 E]/\Q11 a3 c3 T2 w2 D.Kids/\Q11 a4 c4 T2 w2 E.Kids) (fun ao hm=>?_) ?_)
   . refine rtS [0,0,0,1,0,0,0,1,2,2,2,2] [0,1,2,3,4,5,6,7,8,9,10,11] an fun w3 aA aw=>?_;have dd:KD [(8,[]),(9,[]),(10,[3,8,9]),(11,[3,7,8,9,10])]:=⟨qZt⟩;exact zr hm aw
   rintro _ w2 ⟨T2,V,D,a3,c3,W,E,a4,c4,⟨J,hm,rfl,ad,_⟩,h3,_⟩;refine qU ?_;refine fkC (d:=38) (c:=((D.Kind !=E.Kind)||(D.Fn !=E.Fn))) 6 [(0,sv a1 p0 c1),(1,sv a2 p1 c2),(5,iv I),(6,pt V 0),(7,pt W 0)] rfl (fun hk=>zw (D.Kind !=E.Kind) hk) fun J=>pu ?_;refine fkC (d:=45) (c:=(((D.Kind !=E.Kind)||(D.Fn !=E.Fn))||(D.Num !=E.Num))) 6 [(0,sv a1 p0 c1),(1,sv a2 p1 c2),(5,iv I),(6,pt V 0),(7,pt W 0)] rfl (fun hk=>zw ((D.Kind !=E.Kind)||(D.Fn !=E.Fn)) hk) fun J=>pu ?_;refine fkC (d:=52) (c:=((((D.Kind !=E.Kind)||(D.Fn !=E.Fn))||(D.Num !=E.Num))||(D.Var !=E.Var))) 6 [(0,sv a1 p0 c1),(1,sv a2 p1 c2),(5,iv I),(6,pt V 0),(7,pt W 0)] rfl (fun hk=>zw (((D.Kind !=E.Kind)||(D.Fn !=E.Fn))||(D.Num !=E.Num)) hk) fun J=>pu ?_;refine fkC (d:=59) (c:=(((((D.Kind !=E.Kind)||(D.Fn !=E.Fn))||(D.Num !=E.Num))||(D.Var !=E.Var))||(!(D.Global==E.Global)))) 6 [(0,sv a1 p0 c1),(1,sv a2 p1 c2),(5,iv I),(6,pt V 0),(7,pt W 0)] rfl (fun hk=>?_) fun J=>?_
   . rcases kG ((((D.Kind !=E.Kind)||(D.Fn !=E.Fn))||(D.Num !=E.Num))||(D.Var !=E.Var))with K|K
     . exact gF5 (d0:=53) rfl rfl (by rw[K];rfl) (pv (Y2k rfl K rfl) (wlR (fun J=>hk J _ (by rw[K];rfl)) ⟨rfl,rfl,rfl,rfl,rfl,rfl,qZt⟩))
     exact gT (d0:=53) rfl rfl K (pv (Y2x rfl underlying181 rfl sizeOf4 rfl) (gT (d0:=53) rfl rfl K (pv (Y0i rfl isAgg4 (ad.cell0 (i:=1) ⟨rfl,rfl⟩ (j:=4) rfl)) (gT (d0:=53) rfl rfl K (pv (Y2x rfl underlying181 rfl sizeOf4 rfl) (gT (d0:=53) rfl rfl K (pv (Y0i rfl isAgg4 (ad.cell0 (i:=2) ⟨rfl,rfl⟩ (j:=4) rfl)) (gT (d0:=53) rfl rfl K (pv (r_bn rfl rfl underlying4) (pv (Y2l rfl K rfl) (wlR (fun J=>hk J _ (by rw[K];rfl)) ⟨rfl,rfl,rfl,rfl,rfl,rfl,qZt⟩)))))))))))
   refine pu ?_;refine fkC (d:=66) (c:=((((((D.Kind !=E.Kind)||(D.Fn !=E.Fn))||(D.Num !=E.Num))||(D.Var !=E.Var))||(!(D.Global==E.Global)))||(D.Size !=E.Size))) 6 [(0,sv a1 p0 c1),(1,sv a2 p1 c2),(5,iv I),(6,pt V 0),(7,pt W 0)] rfl (fun hk=>zw (((((D.Kind !=E.Kind)||(D.Fn !=E.Fn))||(D.Num !=E.Num))||(D.Var !=E.Var))||(!(D.Global==E.Global))) hk) fun J=>pu ?_;refine fkC (d:=73) (c:=(((((((D.Kind !=E.Kind)||(D.Fn !=E.Fn))||(D.Num !=E.Num))||(D.Var !=E.Var))||(!(D.Global==E.Global)))||(D.Size !=E.Size))||(!(D.Post==E.Post)))) 6 [(0,sv a1 p0 c1),(1,sv a2 p1 c2),(5,iv I),(6,pt V 0),(7,pt W 0)] rfl (fun hk=>?_) fun J=>?_
   . rcases kG ((((((D.Kind !=E.Kind)||(D.Fn !=E.Fn))||(D.Num !=E.Num))||(D.Var !=E.Var))||(!(D.Global==E.Global)))||(D.Size !=E.Size))with O|O
     . exact gF5 (d0:=67) rfl rfl (by rw[O];rfl) (pv (Y2k rfl O rfl) (wlR (fun J=>hk J _ (by rw[O];rfl)) ⟨rfl,rfl,rfl,rfl,rfl,rfl,qZt⟩))
     exact gT (d0:=67) rfl rfl O (pv (Y2x rfl underlying181 rfl sizeOf4 rfl) (gT (d0:=67) rfl rfl O (pv (Y0i rfl isAgg4 (ad.cell0 (i:=1) ⟨rfl,rfl⟩ (j:=6) rfl)) (gT (d0:=67) rfl rfl O (pv (Y2x rfl underlying181 rfl sizeOf4 rfl) (gT (d0:=67) rfl rfl O (pv (Y0i rfl isAgg4 (ad.cell0 (i:=2) ⟨rfl,rfl⟩ (j:=6) rfl)) (gT (d0:=67) rfl rfl O (pv (r_bn rfl rfl underlying4) (pv (Y2l rfl O rfl) (wlR (fun J=>hk J _ (by rw[O];rfl)) ⟨rfl,rfl,rfl,rfl,rfl,rfl,qZt⟩)))))))))))
   refine pu ?_;refine fkC (d:=80) (c:=((((((((D.Kind !=E.Kind)||(D.Fn !=E.Fn))||(D.Num !=E.Num))||(D.Var !=E.Var))||(!(D.Global==E.Global)))||(D.Size !=E.Size))||(!(D.Post==E.Post)))||(!(D.Ptr==E.Ptr)))) 6 [(0,sv a1 p0 c1),(1,sv a2 p1 c2),(5,iv I),(6,pt V 0),(7,pt W 0)] rfl (fun hk=>?_) fun J=>?_
   . rcases kG (((((((D.Kind !=E.Kind)||(D.Fn !=E.Fn))||(D.Num !=E.Num))||(D.Var !=E.Var))||(!(D.Global==E.Global)))||(D.Size !=E.Size))||(!(D.Post==E.Post)))with U|U
     . exact gF5 (d0:=74) rfl rfl (by rw[U];rfl) (pv (Y2k rfl U rfl) (wlR (fun J=>hk J _ (by rw[U];rfl)) ⟨rfl,rfl,rfl,rfl,rfl,rfl,qZt⟩))
     exact gT (d0:=74) rfl rfl U (pv (Y2x rfl underlying181 rfl sizeOf4 rfl) (gT (d0:=74) rfl rfl U (pv (Y0i rfl isAgg4 (ad.cell0 (i:=1) ⟨rfl,rfl⟩ (j:=7) rfl)) (gT (d0:=74) rfl rfl U (pv (Y2x rfl underlying181 rfl sizeOf4 rfl) (gT (d0:=74) rfl rfl U (pv (Y0i rfl isAgg4 (ad.cell0 (i:=2) ⟨rfl,rfl⟩ (j:=7) rfl)) (gT (d0:=74) rfl rfl U (pv (r_bn rfl rfl underlying4) (pv (Y2l rfl U rfl) (wlR (fun J=>hk J _ (by rw[U];rfl)) ⟨rfl,rfl,rfl,rfl,rfl,rfl,qZt⟩)))))))))))
   have aC:Ctr Tryz.prog 37 (type_of%@hG.Q2h):=⟨@hG.Q2h,cf37⟩;exact zr hm ad
 exact zr hm an
theorem sp9:∀n,Sp9 (rec9 n)
 |0=>⟨(by unfold Z4h;intros;rename_i h;cases(show(none:Option _)=some _ from h))⟩
 |n+1=>⟨Y8q (sp9 n)⟩
theorem Y1c:Z4h Q2h:=(sp9 NN).Q2h

def Z3c(F:(List K4)->(List K4)->Option (Bool)):Prop:=∀{g:World}{T0:TP}{w0:World}{R:List X1}{p0:List K4}{a1 c1}{p1:List K4}{a2 c2}(hS:Sep g T0 w0 [X0 R])(h1:SlR A8 T0 w0 (sv a1 p0 c1) p0)(h2:SlR A8 T0 w0 (sv a2 p1 c2) p1),∀r,F p0 p1=some r->
 Cl 19 #[sv a1 p0 c1,sv a2 p1 c2] w0 (Q19 T0 w0 g R r)
structure Sp10(G:Rec10):Prop where
 W4:Z3c G.W4
theorem Y7s{G:Rec10}(hG:Sp10 G):Z3c (Z0i G):=by
 intro g T0 w0 R p0 a1 c1 p1 a2 c2 hS h1 h2 r hm;refine eN Tryz.func19 Tryz.ntmps19 fun J=>?_;unfold Z0i at hm;refine qN ?_;refine sq2 (sq2 (cd hm ?_ ?_))<;>intro bB hm
 . exact sq2 (re hm (hS.sE [0]))
 refine kC ?_;refine lpJ hm (fun aG o1 m a w1=>∃T1 V,JR (nf 127) g T0 w0 a w1 T1 (loopM aG m V=some o1) [(0,sv a1 p0 c1),(1,sv a2 p1 c2),(5,iv V)] [X0 R]) (fun _ _ h=>je h (hS.sE [0])) ?_;rintro aG aY o1 _ _ _ w1 ⟨T1,V,J,aZ,rfl,aJ,_⟩;obtain⟨m1,z1,rfl,hm,_⟩:=lrE aZ aY;refine sq2 (sq2 (cd hm ?_ ?_))<;>intro bC hm
 . refine kE ?_;refine blk (O1 hm (fun aK a W=>∃T2 I D a3 c3 a4 c4 a5 c5 a6 c6 a7 c7 K E a8 c8 a9 c9 ao c10 ap c11 aq c12,JR (nf 127) g T1 w1 a W T2 (aK D E=some z1) [(0,sv a1 p0 c1),(1,sv a2 p1 c2),(5,iv V),(6,pt I 0),(7,pt K 0)] [X0 R,K7 I (Y1h D a3 c3 a4 c4 a5 c5 a6 c6 a7 c7),K7 K (Y1h E a8 c8 a9 c9 ao c10 ap c11 aq c12)]/\Q11 a3 c3 T2 W D.A/\Q11 a4 c4 T2 W D.Post/\Q72 a5 c5 T2 W D.Body/\Q72 a6 c6 T2 W D.Else/\SlR Q8m T2 W (sv a7 D.Cases c7) D.Cases/\Q11 a8 c8 T2 W E.A/\Q38 a9 ao ap aq c9 c10 c11 c12 T2 W E) (fun aK hm=>?_) ?_)
   . refine rtS [0,0,0,1,0,0,0,1,2,2,2,2] [0,1,2,3,4,5,6,7,8,9,10,11] aJ fun w3 bF be=>?_;have dd:KD [(8,[]),(9,[]),(10,[3,8,9]),(11,[3,7,8,9,10])]:=⟨qZt⟩;exact zr hm be
   rintro _ W ⟨T2,I,D,a3,c3,a4,c4,a5,c5,a6,c6,a7,c7,K,E,a8,c8,a9,c9,ao,c10,ap,c11,aq,c12,⟨J,hm,rfl,au,_⟩,h3,h4,h5,h6,_,h8,h9,bk,bm,_⟩;refine sq2 (qU ?_);refine fkC (d:=41) (c:=((D.Kind !=E.Kind)||(!(D.First==E.First)))) 6 [(0,sv a1 p0 c1),(1,sv a2 p1 c2),(5,iv V),(6,pt I 0),(7,pt K 0)] rfl (fun hk=>?_) fun J=>?_
   . rcases kG (D.Kind !=E.Kind)with O|O
     . exact gF5 (d0:=35) rfl rfl (by rw[O];rfl) (pv (Y2k rfl O rfl) (wlR (fun J=>hk J _ (by rw[O];rfl)) ⟨rfl,rfl,rfl,rfl,rfl,rfl,qZt⟩))
     exact gT (d0:=35) rfl rfl O (pv (Y2x rfl underlying136 rfl sizeOf4 rfl) (gT (d0:=35) rfl rfl O (pv (Y0i rfl isAgg4 (au.cell0 (i:=1) ⟨rfl,rfl⟩ (j:=3) rfl)) (gT (d0:=35) rfl rfl O (pv (Y2x rfl underlying136 rfl sizeOf4 rfl) (gT (d0:=35) rfl rfl O (pv (Y0i rfl isAgg4 (au.cell0 (i:=2) ⟨rfl,rfl⟩ (j:=3) rfl)) (gT (d0:=35) rfl rfl O (pv (r_bn rfl rfl underlying4) (pv (Y2l rfl O rfl) (wlR (fun J=>hk J _ (by rw[O];rfl)) ⟨rfl,rfl,rfl,rfl,rfl,rfl,qZt⟩)))))))))))
   refine pu ?_;refine fkC (d:=48) (c:=(((D.Kind !=E.Kind)||(!(D.First==E.First)))||(D.Var !=E.Var))) 6 [(0,sv a1 p0 c1),(1,sv a2 p1 c2),(5,iv V),(6,pt I 0),(7,pt K 0)] rfl (fun hk=>zw ((D.Kind !=E.Kind)||(!(D.First==E.First))) hk) fun J=>pu ?_
   rcases bc hm with⟨bn,hm⟩|⟨bn,hm⟩
   . exact zr hm au
   refine pu ?_;refine cB cf37 hm (Y1c (au.bE [0,1,2] []) h3 h8) ?_;rintro _ _ _ _ _ ⟨rfl,aM,_⟩ hm;refine pu ?_
   rcases bc hm with⟨bo,hm⟩|⟨bo,hm⟩
   . exact zr hm aM
   refine pu ?_;refine cB cf37 hm (Y1c (aM.bE [0,1,2] []) (mC h4) (mC h9)) ?_;rintro _ _ _ _ _ ⟨rfl,aN,_⟩ hm;refine pu ?_
   rcases bc hm with⟨bp,hm⟩|⟨bp,hm⟩
   . exact zr hm aN
   refine pu ?_;refine cB cf19 hm (hG.W4 (aN.bE [0,1,2] []) (mC h5) (mC bk)) ?_;rintro _ _ _ _ _ ⟨rfl,aP,_⟩ hm;refine pu ?_
   rcases bc hm with⟨bq,hm⟩|⟨bq,hm⟩
   . exact zr hm aP
   refine pu ?_;refine cB cf19 hm (hG.W4 (aP.bE [0,1,2] []) (mC h6) (mC bm)) ?_;rintro y4 _ T6 bu _ ⟨rfl,aR,_⟩ hm;refine pu ?_;refine fkN (d:=89) (c:=((!y4)||((qQ D.Cases:Int)!=(qQ E.Cases:Int)))) 8 [(0,sv a1 p0 c1),(1,sv a2 p1 c2),(5,iv V),(6,pt I 0),(7,pt K 0)] rfl (fun hk=>zw (!y4) hk) fun J=>?_;refine cd hm ?_ ?_<;>intro bG hm
   . exact zr hm aR
   refine kD ?_;refine lpJ hm (fun aS o2 m a aB=>∃T7 x4,JR (nf 127) g T6 bu a aB T7 (loopM aS m x4=some o2) [(0,sv a1 p0 c1),(1,sv a2 p1 c2),(5,iv V),(6,pt I 0),(7,pt K 0),(8,iv x4)] [X0 R,K7 I (Y1h D a3 c3 a4 c4 a5 c5 a6 c6 a7 c7),K7 K (Y1h E a8 c8 a9 c9 ao c10 ap c11 aq c12)]) (fun _ _ h=>je h (aR.sE [0,1,2])) ?_;rintro aS bv o2 _ _ _ aB ⟨T7,x4,J,bw,rfl,aU,_⟩;obtain⟨_,z2,rfl,hm,_⟩:=lrE bw bv;refine sq2 (sq2 (cd hm ?_ ?_))<;>intro bI hm
   . refine kE ?_;refine blk (O1 hm (fun aV a av=>∃T8 b7 x5 aD c23 b8 x6 aE c24,JR (nf 127) g T7 aB a av T8 (aV x5 x6=some z2) [(0,sv a1 p0 c1),(1,sv a2 p1 c2),(5,iv V),(6,pt I 0),(7,pt K 0),(8,iv x4),(9,pt b7 0),(10,pt b8 0)] [X0 R,K7 I (Y1h D a3 c3 a4 c4 a5 c5 a6 c6 a7 c7),K7 K (Y1h E a8 c8 a9 c9 ao c10 ap c11 aq c12),K7 b7 (X6d x5 aD c23),K7 b8 (X6d x6 aE c24)]/\Q72 aD c23 T8 av x5.Body/\Q72 aE c24 T8 av x6.Body) (fun aV hm=>?_) ?_)
     . refine rtS [0,1,0,0,1,0,1,0,0,1,2,2,2,2] [0,1,2,3,4,5,6,7,8,9,10,11,12,13] aU fun bJ bK bA=>?_;have dd:KD [(10,[]),(11,[]),(12,[1,4,10,11]),(13,[1,4,6,9,10,11,12])]:=⟨qZt⟩;exact zr hm bA
     rintro _ av ⟨T8,b7,x5,aD,c23,b8,x6,aE,c24,⟨J,hm,rfl,aF,_⟩,_,_⟩;refine qU ?_;refine pv (r_bn rfl rfl underlying4) (pu ?_);refine fkC (d:=118) (c:=((!(x5.Default==x6.Default))||(x5.Num !=x6.Num))) 6 [(0,sv a1 p0 c1),(1,sv a2 p1 c2),(5,iv V),(6,pt I 0),(7,pt K 0),(8,iv x4),(9,pt b7 0),(10,pt b8 0)] rfl (fun hk=>?_) fun J=>?_
     . rcases kG (!(x5.Default==x6.Default))with U|U
       . exact gF5 (d0:=112) rfl rfl (by rw[U];rfl) (pv (Y2k rfl U rfl) (wlR (fun J=>hk J _ (by rw[U];rfl)) ⟨rfl,rfl,rfl,rfl,rfl,rfl,rfl,rfl,rfl,qZt⟩))
       exact gT (d0:=112) rfl rfl U (pv (Y2x rfl underlying139 rfl sizeOf100 rfl) (gT (d0:=112) rfl rfl U (pv (Y0i rfl isAgg100 (aF.cell0 (i:=3) ⟨rfl,rfl⟩ (j:=1) rfl)) (gT (d0:=112) rfl rfl U (pv (Y2x rfl underlying139 rfl sizeOf100 rfl) (gT (d0:=112) rfl rfl U (pv (Y0i rfl isAgg100 (aF.cell0 (i:=4) ⟨rfl,rfl⟩ (j:=1) rfl)) (gT (d0:=112) rfl rfl U (pv (r_ib rfl rfl rfl) (pv (Y2l rfl U rfl) (wlR (fun J=>hk J _ (by rw[U];rfl)) ⟨rfl,rfl,rfl,rfl,rfl,rfl,rfl,rfl,rfl,qZt⟩)))))))))))
     have bL:Ctr Tryz.prog 19 (type_of%@hG.W4):=⟨@hG.W4,cf19⟩;exact zr hm aF
   exact zr hm aU
 exact zr hm aJ
theorem sp10:∀n,Sp10 (X2j n)
 |0=>⟨(by unfold Z3c;intros;rename_i h;cases(show(none:Option _)=some _ from h))⟩
 |n+1=>⟨Y7s (sp10 n)⟩
theorem Y6e:Z3c W4:=(sp10 NN).W4

theorem Z5b{p0:Z4a}{p1:Z4a}(hS:Sep g T0 w0 [X0 R])(h1:SlR Q1v T0 w0 (sv a1 p0.Globals c1) p0.Globals)(h2:SlR (rSl (N1 .u8)) T0 w0 (sv a2 p0.Data c2) p0.Data)(h3:SlR Q7q T0 w0 (sv a3 p0.Codes c3) p0.Codes)(h4:SlR Q1v T0 w0 (sv a4 p1.Globals c4) p1.Globals)(h5:SlR (rSl (N1 .u8)) T0 w0 (sv a5 p1.Data c5) p1.Data)(h6:SlR Q7q T0 w0 (sv a6 p1.Codes c6) p1.Codes):∀r,Z5c p0 p1=some r->
 Cl 8 #[Q89 a1 a2 a3 c1 c2 c3 p0,Q89 a4 a5 a6 c4 c5 c6 p1] w0 (Q19 T0 w0 g R r):=by
 intro r hm;refine eN Tryz.func8 Tryz.ntmps8 fun J=>?_;unfold Z5c at hm;refine sq2 (bX [sv a1 p0.Globals c1,sv a2 p0.Data c2,sv a3 p0.Codes c3,iv p0.Main] hS ?_);intro _ E _ aD;refine bX [sv a4 p1.Globals c4,sv a5 p1.Data c5,sv a6 p1.Codes c6,iv p1.Main] aD ?_;intro _ I _ aE;refine kB ?_;refine cB cf18 hm (Z0q (aE.bE [0,1,2] []) (mC h1) (mC h4)) ?_;rintro U _ T1 w3 _ ⟨rfl,ax,_⟩ hm;refine pu ?_;refine fkC (d:=23) (c:=((!U)||((qQ p0.Data:Int)!=(qQ p1.Data:Int)))) 8 [(2,pt E 0),(3,pt I 0)] rfl (fun hk=>zw (!U) hk) fun J=>pu ?_;refine fkC (d:=32) (c:=(((!U)||((qQ p0.Data:Int)!=(qQ p1.Data:Int)))||((qQ p0.Codes:Int)!=(qQ p1.Codes:Int)))) 8 [(2,pt E 0),(3,pt I 0)] rfl (fun hk=>zw ((!U)||((qQ p0.Data:Int)!=(qQ p1.Data:Int))) hk) fun J=>pu ?_;refine fkN (d:=39) (c:=((((!U)||((qQ p0.Data:Int)!=(qQ p1.Data:Int)))||((qQ p0.Codes:Int)!=(qQ p1.Codes:Int)))||(p0.Main !=p1.Main))) 6 [(2,pt E 0),(3,pt I 0)] rfl (fun hk=>zw (((!U)||((qQ p0.Data:Int)!=(qQ p1.Data:Int)))||((qQ p0.Codes:Int)!=(qQ p1.Codes:Int))) hk) fun J=>?_;refine cd hm ?_ ?_<;>intro aY hm
 . exact sq2 (re hm (ax.sE [2]))
 refine kC ?_;refine lpJ hm (fun aa o1 m a w4=>∃T2 x1,JR (nf 105) g T1 w3 a w4 T2 (loopM aa m x1=some o1) [(2,pt E 0),(3,pt I 0),(5,iv x1)] [Q39 a4 a5 a6 I c4 c5 c6 p1,Q39 a1 a2 a3 E c1 c2 c3 p0,X0 R]) (fun _ _ h=>je h (ax.sE [0,1,2])) ?_;rintro aa an o1 ae _ _ w4 ⟨T2,x1,J,ao,rfl,af,_⟩;obtain⟨m1,z1,rfl,hm,ac⟩:=lrE ao an;refine sq2 (sq2 (cd hm ?_ ?_))<;>intro aZ hm
 . refine kE ?_;refine blk (sq2 ?_);obtain⟨u1,aI,hm⟩:=bindS hm;obtain⟨cs1,aJ,_,hT1⟩:=ixS af aI h2;obtain⟨_,c7,rfl,h7⟩:=X2k aJ;obtain⟨_,aM,hm⟩:=bindS hm;obtain⟨cs2,aN,_,hT2⟩:=ixS af aM h5;obtain⟨_,c8,rfl,h8⟩:=X2k aN;refine rqS af (pu ?_);refine qv (fun _ hq=>r_cvs rfl (hq.slv h7.v) underlying93 underlying5 underlying9) (pu ?_);refine qv (fun _ hq=>r_cvs rfl (hq.slv h8.v) underlying93 underlying5 underlying9) (pn ?_);intro _ _ _ aQ;exact zr hm aQ
 have hm:=Q7b hm ac ae;refine kC ?_;refine lpJ hm (fun aa o1 m a w6=>∃T4 x2,JR (nf 105) g T2 w4 a w6 T4 (loopM aa m x2=some o1) [(2,pt E 0),(3,pt I 0),(6,iv x2)] [Q39 a4 a5 a6 I c4 c5 c6 p1,Q39 a1 a2 a3 E c1 c2 c3 p0,X0 R]) (fun _ _ h=>je h (af.sE [0,1,2])) ?_;rintro aa an o1 ae _ _ w6 ⟨T4,x2,J,ao,rfl,az,_⟩;obtain⟨m1,z1,rfl,hm,ac⟩:=lrE ao an;refine sq2 (sq2 (cd hm ?_ ?_))<;>intro ba hm
 . refine kE ?_;refine blk (O1 hm (fun aA a V=>∃W b5 K a9 c9 au c10 b6 O av c11 aw c12,JR (nf 105) g T4 w6 a V W (aA K O=some z1) [(2,pt E 0),(3,pt I 0),(6,iv x2),(7,pt b5 0),(8,pt b6 0)] [Q39 a4 a5 a6 I c4 c5 c6 p1,Q39 a1 a2 a3 E c1 c2 c3 p0,X0 R,K7 b5 (cGCode K a9 c9 au c10),K7 b6 (cGCode O av c11 aw c12)]/\SlR Q1v W V (sv a9 K.Slots c9) K.Slots/\Q72 au c10 W V K.Body/\SlR Q1v W V (sv av O.Slots c11) O.Slots/\Q72 aw c12 W V O.Body) (fun aA hm=>?_) ?_)
   . refine rtS [0,1,0,0,1,0,1,0,0,1,2,2,2,2] [0,1,2,3,4,5,6,7,8,9,10,11,12,13] az fun w8 bf aR=>?_;have dd:KD [(10,[]),(11,[]),(12,[1,4,10,11]),(13,[1,4,6,9,10,11,12])]:=⟨qZt⟩;exact zr hm aR
   rintro _ V ⟨W,b5,K,a9,c9,au,c10,b6,O,av,c11,aw,c12,⟨J,hm,rfl,ai,_⟩,h9,aT,aU,aV⟩;refine qU ?_;refine pv (r_bn rfl rfl underlying4) (pu ?_);refine fkC (d:=88) (c:=((!(K.Void==O.Void))||(K.Params !=O.Params))) 6 [(2,pt E 0),(3,pt I 0),(6,iv x2),(7,pt b5 0),(8,pt b6 0)] rfl (fun hk=>?_) fun J=>?_
   . rcases kG (!(K.Void==O.Void))with D|D
     . exact gF5 (d0:=82) rfl rfl (by rw[D];rfl) (pv (Y2k rfl D rfl) (wlR (fun J=>hk J _ (by rw[D];rfl)) ⟨rfl,rfl,rfl,rfl,rfl,rfl,qZt⟩))
     exact gT (d0:=82) rfl rfl D (pv (Y2x rfl underlying45 rfl sizeOf3 rfl) (gT (d0:=82) rfl rfl D (pv (Y0i rfl isAgg3 (ai.cell0 (i:=3) ⟨rfl,rfl⟩ (j:=2) rfl)) (gT (d0:=82) rfl rfl D (pv (Y2x rfl underlying45 rfl sizeOf3 rfl) (gT (d0:=82) rfl rfl D (pv (Y0i rfl isAgg3 (ai.cell0 (i:=4) ⟨rfl,rfl⟩ (j:=2) rfl)) (gT (d0:=82) rfl rfl D (pv (r_ib rfl rfl rfl) (pv (Y2l rfl D rfl) (wlR (fun J=>hk J _ (by rw[D];rfl)) ⟨rfl,rfl,rfl,rfl,rfl,rfl,qZt⟩)))))))))))
   refine pu ?_
   rcases bc hm with⟨aW,hm⟩|⟨aW,hm⟩
   . exact zr hm ai
   refine pu ?_;refine cB cf18 hm (Z0q (ai.bE (Z4 0 5) []) h9 aU) ?_;rintro _ _ _ _ _ ⟨rfl,aB,_⟩ hm;refine pu ?_
   rcases bc hm with⟨aX,hm⟩|⟨aX,hm⟩
   . refine pn ?_;refine cnd (b:=true) rfl (fun _=>?_) (fun h=>nomatch h);refine qN ?_;have hm:=Q5e hm ac ae;exact re hm (aB.sE [2])
   refine pu ?_;refine cB cf19 hm (Y6e (aB.bE [0,1,2] []) (mC aT) (mC aV)) ?_;rintro _ _ _ _ _ ⟨rfl,aC,_⟩ hm;refine cd hm ?_ ?_<;>intro bh hm
   . refine qN ?_;have hm:=Q5e hm ac ae;exact re hm (aC.sE [2])
   exact lg hm ac (aC.sE [0,1,2])
 exact zr hm az

instance:Ct 8 @Z5b:=⟨@Z5b,cf8⟩
theorem Z8a{p0:Aa}(hS:Sep g T0 w0 [X0 R])(hG0:Gi T0 w0 0)(hG1:Gc T0 w0 1 (Lib.pow10Tab.map fun z=>Value.int .u64 z)):∀r,Q4l p0=some r->
 Cl 3 #[Q14 p0.toArray] w0 (Q19 T0 w0 g R r):=by
 intro r hm;refine eN Tryz.func3 Tryz.ntmps3 fun J=>?_;unfold Q4l at hm;refine qN ?_;refine sq2 (sq2 (cd hm ?_ ?_))<;>intro aP hm
 . refine qU ?_;refine cB cf4 hm (Q5l (hS.bE [0] []) hG0) ?_;rintro _ _ _ _ _ ⟨rfl,O,_⟩ hm;exact re hm (O.sE [0])
 refine kA ?_;refine cB cf5 hm (Z0f (hS.bE [0] []) hG0) ?_;rintro _ _ _ _ _ ⟨a1,c1,_,c2,_,c3,rfl,U,h1,h2,h3,_⟩ hm;refine aL zv13 U ?_;intro _ V _ W;refine aL [iv 0,iv 0] W ?_;intro _ _ _ aa;refine sT 1 aa ?_;intro _ _ ab;refine sT 0 ab ?_;intro _ _ D;refine pn ?_;refine sq2 (sq2 (cd hm ?_ ?_))<;>intro aQ hm
 . refine qU ?_;refine cB cf4 hm (Q5l (D.bE [2] []) (hG0.mono ch)) ?_;rintro _ _ _ _ _ ⟨rfl,ac,_⟩ hm;exact re hm (ac.sE [0])
 refine kA ?_;refine cB cf6 hm (Z4s (D.bE [1,2] []) (mC h1) (mC h2) (mC h3) (hG1.mono ch)) ?_;rintro _ _ _ _ _ ⟨rfl,ad,_⟩ hm;refine cB cf5 hm (Z0f (ad.bE [0,1] []) (hG0.mono ch)) ?_;rintro y5 _ _ _ _ ⟨_,c4,_,c5,_,c6,rfl,af,h4,h5,h6,_⟩ hm;refine aL zv13 af ?_;intro _ b3 _ aj;refine aL [iv 0,iv 0] aj ?_;intro _ _ _ ak;refine sT 1 ak ?_;intro _ _ am;refine sT 0 am ?_;intro _ _ E;refine pu ?_;refine nil (Y6v (sq2 (qU ?_)));refine nil (B0 [(3,pt V 0),(6,pt b3 0),(36,.bool (y5.2.2 !=0))] ⟨rfl,rfl,rfl,qZt⟩ fun J=>?_);refine cd hm ?_ ?_<;>intro aR hm
 . refine qU ?_;refine cB cf4 hm (Q5l (E.bE [3] []) (hG0.mono ch)) ?_;rintro _ _ _ _ _ ⟨rfl,an,_⟩ hm;exact re hm (an.sE [0])
 refine kA ?_;refine cB cf7 hm (Q8d (E.bE [1,3] []) (mC h1) (mC h2) (mC h3)) ?_;rintro y7 _ _ _ _ ⟨_,c7,_,c8,_,c9,rfl,ap,h7,h8,h9,_⟩ hm;refine aL zv15 ap ?_;intro _ b5 _ aw;refine aL [iv 0,iv 0] aw ?_;intro _ _ _ ax;refine sT 1 ax ?_;intro _ _ ay;refine sT 0 ay ?_;intro _ _ az;refine kA ?_;refine cB cf7 hm (Q8d (az.bE [1,3] []) (mC h4) (mC h5) (mC h6)) ?_;rintro y8 _ _ _ _ ⟨_,c10,_,c11,_,c12,rfl,aB,aC,aD,aE,_⟩ hm;refine aL zv15 aB ?_;intro _ b7 _ aG;refine aL [iv 0,iv 0] aG ?_;intro _ _ _ aI;refine sT 1 aI ?_;intro _ _ aJ;refine sT 0 aJ ?_;intro _ _ aK;refine kA ?_;refine cB cf4 hm (Q5l (aK.bE [1,2,3] []) (hG0.mono ch)) ?_;rintro I _ _ _ _ ⟨rfl,K,_⟩ hm;refine pu ?_;refine fkC (d:=55) (c:=(I&&(y7.2.2==y8.2.2))) 4 [(9,pt b5 0),(12,pt b7 0)] rfl (fun hk=>zw I hk) fun J=>pu ?_
 rcases bc hm with⟨aM,hm⟩|⟨aM,hm⟩
 . refine pu ?_;refine cB cf8 hm (Z5b (K.bE [2] []) (mC h7) (mC h8) (mC h9) (mC aC) (mC aD) (mC aE)) ?_;rintro _ _ _ _ _ ⟨rfl,aN,_⟩ hm;exact re hm (aN.sE [0])
 exact re hm (K.sE [2])
end Go.Proofs.YtjohcgibbiebkaaGreatDoor
