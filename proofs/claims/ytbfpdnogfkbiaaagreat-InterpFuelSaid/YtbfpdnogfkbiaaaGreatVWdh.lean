/- That Go functions compute their models. Printed by gen2.py. -/
import Derived.Test.YtbfpdnogfkbiaaaGreatVWd
set_option linter.unusedVariables false
namespace Go.Proofs.YtbfpdnogfkbiaaaGreat
open _root_.Go.Proofs.Tryz
set_option maxRecDepth 100000
set_option maxHeartbeats 8000000
attribute [local irreducible] wpList wpQuiet Code.wp
variable{g:World}{T0:Nat->Prop}{w0:World}{R:List Y9}
variable{b1 b2 Y0 Q0f Z7g Z7f Z8d c1 c2 c3 c4 c5 c6 c7 c8 c9 c10 c11 c12 c13 n1 n2 n3 n4 n5 n6 n7 Z9 Q0e Z7a Z6z Z7p oo1 oo2:Nat}{H1 H2 Z5 L4 Z5m Z5l Z7h:List Value->Y9}{a1 a2 a3 a4 a5 a6 a7 a8 a9 a10 a11 a12 a13:OA}{r1 r2:Option Nat}{pv1:Value}
attribute [local irreducible] M1 W7 execOp Program.underlying sizeOf isAgg zeroValue

theorem Y0f{G:Z3u}(hG:Sp3 G):Q7i (Q2n G):=by
 intro g _ _ R p0 Y0 Z9 Z5 b1 az H1 a1 n1 c1 a2 n2 c2 a3 n3 c3 a4 n4 c4 r1 r2 a5 n5 c5 a6 n6 c6 ad E a7 c7 hS Z2 hL1 h1 r hm;refine eN Tryz.func178 Tryz.ntmps178 fun J=>?_;unfold Q2n at hm;refine sq2 (bX (E4 E a7 c7) hS ?_);intro _ O _ bI;refine aL zv1 bI ?_;intro _ U _ ae;refine kC ?_;refine blk (sq2 (cd hm ?_ ?_))<;>intro dk hm
 . refine qU ?_;refine pv (F0 (by kernel_rfl) rfl (u:= .agg #[iv 12,iv 0,.int .u32 0,iv 0,.bool false,iv 0,.bool false,.bool false,.slice none 0 0])) (pv (F0 (by kernel_rfl) rfl (u:= .agg #[iv 1,iv 12,iv 0,.int .u32 0,iv 0,.bool false,iv 0,.bool false,.bool false,.slice none 0 0,.bool false])) (sT 0 ae ?_));intro _ _ bJ;exact re hm (bJ.sN 2 12)
 refine sq2 (cd hm ?_ ?_)<;>intro dl hm
 . refine sq2 ?_;obtain⟨u1,bK,hm⟩:=Z8 hm;obtain⟨cs1,bL,_,hT1⟩:=ixS ae bK h1;obtain⟨_,c8,rfl,h2⟩:=G9 bL;refine pu ?_;refine cP Y9i hm (hG.V8 (ae.bE [0,2] (Z3 3 11)) Z2 hL1 h2) ?_ ?_
   . rintro e1 _ _ _ _ ⟨_,_,c12,rfl,bM,_⟩ hm;exact pe hm (bM.sN 1 12)
   rintro y1 _ _ _ _ ⟨a9,c9,_,_,c10,rfl,bO,h3,_⟩ hm;refine bS (r:=X8) (l:=([y1.1]:List Y6)) (css:=[(U2 y1.1 a9 c9)]) bO ⟨(U1 (x:=y1.1) h3:X8.rp _ _ _ _),qZt⟩ ?_;intro _ be n8 c11 _ bQ;refine pv (F0 (by kernel_rfl) rfl (u:= .agg #[iv 11,iv 0,.int .u32 0,iv 0,.bool false,iv 0,.bool false,.bool false,.slice be n8 c11])) (pv (F0 (by kernel_rfl) rfl (u:= .agg #[iv 0,iv 11,iv 0,.int .u32 0,iv 0,.bool false,iv 0,.bool false,.bool false,.slice be n8 c11,.bool false])) (sT 1 bQ ?_));intro _ _ bR;refine pn ?_;obtain⟨_,_,bT,_,rfl⟩:=bR.sl 0;exact re hm (bT.sN 2 12)
 refine kE ?_;refine rqS ae (pu ?_);refine qv (fun _ hq=>(hq.elim fun _ hi=>Z8m (kk:=E.Name) (u:=0) rfl rfl ((ae.keep hi (fun _ h=>h)).getA (i:=10) ⟨rfl,rfl⟩) Z2g underlying80 underlying9 zeroValue3 rfl)) (pn ?_);intro w8 T4 _ aQ;refine pn ?_;refine M8 hm (fun bg a w9=>∃T5 x1,JR (nf 122) g T4 w8 a w9 T5 (bg x1=some r) [(0,pt Y0 Z9),(3,pt O 0),(4,pt U 0),(5,iv ((D3 p0.codes E.Name).getD 0)),(6,.bool x1)] ((Q99 a7 U O c7 R E)++(Q2 a1 a2 a3 a4 a5 a6 b1 az n1 c1 n2 c2 n3 c3 n4 c4 n5 c5 n6 c6 Z5 H1 ad r1 r2 p0))) (fun bg hm=>?_) ?_
 . refine sq2 ?_;obtain⟨_,bW,hm⟩:=Z8 hm;refine pu ?_;refine pv (r_opn rfl rfl (aQ.optV (q:=13) ⟨rfl,rfl⟩ bW) underlying83) (cd hm ?_ ?_)<;>intro dm hm
   . refine sq2 (rsS [0,0,0,1,0,1,2,0,0,0,0,0] [0,1,2,3,4,5,6,7,8,9,10,11] aQ fun dn dp bY=>pu ?_);obtain⟨K,aS,hm⟩:=Z8 hm;obtain⟨b5,cs2,b0,b4⟩:=bY.optE (q:=13) ⟨rfl,rfl⟩ aS;subst b0;obtain⟨⟨ah,ai,c13,aj,ak,c14,am,an,c15⟩,b6⟩:=b4.exE;obtain⟨hcs1,b9⟩:=b6.pE;subst hcs1;have cc:=b9.unb;obtain⟨y2,cf,hm⟩:=Z8 hm;refine sS [] cf193 (Q3e (cc.bE (Z3 3 13) [16,0,1,2]) (Q3w b5) _ cf) ?_;rintro _ T6 bk _ ⟨rfl,bl,_⟩;refine pu ?_;refine se (K7 [(0,pt Y0 Z9),(3,pt O 0),(4,pt U 0),(5,iv ((D3 p0.codes E.Name).getD 0)),(6,.bool ((D3 p0.codes E.Name).isSome)),(8,.bool y2.2)] ⟨rfl,rfl,rfl,rfl,rfl,rfl,qZt⟩ fun J=>?_);refine sq2 (cd hm ?_ ?_)<;>intro dq hm
     . have cg:=bl.bE [14,15,16] (Z3 0 14);have ci:Sep g T6 bk (U9.A K [iv K.ret,.slice ah ai c13,.slice aj ak c14,.slice am an c15,iv K.loops,iv K.breaks]::_):=Sep.exI (ah,ai,c13,aj,ak,c14,am,an,c15) (Sep.pI rfl cg);have cj:=ci.optI0 (q:=13) ⟨rfl,rfl⟩ aS;exact je hm (cj.sN 0 14)
     have ck:=bl.bE [14,15,16] (Z3 0 14);have cl:Sep g T6 bk (U9.A K [iv K.ret,.slice ah ai c13,.slice aj ak c14,.slice am an c15,iv K.loops,iv K.breaks]::_):=Sep.exI (ah,ai,c13,aj,ak,c14,am,an,c15) (Sep.pI rfl ck);have cm:=cl.optI0 (q:=13) ⟨rfl,rfl⟩ aS;exact je hm (cm.sN 0 14)
   exact je hm (aQ.sN 0 14)
 rintro _ w9 ⟨T5,x1,J,hm,rfl,aT,_⟩;refine sq2 (sq2 (cd hm ?_ ?_))<;>intro dr hm
 . refine pu ?_;refine cP Y5n hm (C6 (aT.bE (Z3 0 14) [])) ?_ ?_
   . rintro e2 _ _ _ _ ⟨rfl,cn,_⟩ hm;exact pe hm (cn.sN 2 12)
   rintro _ _ _ _ _ _ hm;cases hm
 refine pn ?_;refine sq2 ?_;obtain⟨u6,co,hm⟩:=Z8 hm;obtain⟨cs3,cp,_⟩:=(aT.own (i:=12) ⟨rfl,rfl⟩).v.ixcS co rfl;obtain⟨bm,c16,rfl,_⟩:=Q6h cp;refine aL [iv 0,.slice none 0 0] aT ?_;intro _ b7 _ cq;refine sT 0 cq ?_;intro _ _ cr;refine kA ?_;refine cB Q1p hm (Y4 (cr.bE [0,1,2,3,14] (Z3 4 10)) Z2 hL1) ?_;rintro y4 _ T9 _ _ ⟨rfl,cv,_⟩ hm;refine pv (F0 (by kernel_rfl) rfl (u:= .agg #[iv 10,iv 0,.int .u32 0,iv ((D3 p0.codes E.Name).getD 0),.bool false,iv 0,.bool false,.bool y4,.slice none 0 0])) (aL zv3 cv ?_);intro _ b8 _ cw;refine sT 0 cw ?_;intro cy _ cz;refine kC ?_;have cA:=cz.nilO X8 197;refine lpJ hm (fun bn o1 m a aU=>∃aV af ab D V W c17 bp bq c18 ar,JR (nf 122) g T9 cy a aU aV (X5 bn m (ar,D,ab,af)=some o1) [(0,pt Y0 Z9),(3,pt O 0),(4,pt U 0),(9,pt b7 0),(10,pt b8 0),(76,sv a7 E.Kids c7),(77,iv (List.length E.Kids:Int)),(78,iv ar)] ([Q91 V W c17 D.Kids,Q51 V b8 W c17 D,K0 b7 [iv u6.ret,sv bm u6.params c16],K0 U zv1,Q33 a7 O c7 E,Y7 R,Q20 ad ab]++X6 ({ab with t:=af}) Z5 H1 b1 az bp bq c18 a2 n2 c2 a3 n3 c3 a4 n4 c4 r1 r2 a5 n5 c5 a6 n6 c6 ad)) (fun _ _ h=>je h (cA.sN 0 17)) ?_;rintro bn cC o1 aW _ _ aU ⟨aV,af,ab,D,V,W,c17,bp,bq,c18,ar,J,cD,rfl,au,_⟩;obtain⟨m1,z1,rfl,hm,av⟩:=lrE cD cC;refine qN ?_;refine sq2 (cd hm ?_ ?_)<;>intro ds hm
 . refine pn ?_;refine M8 hm (fun bt a bu=>∃bv aX aw ax aY aZ c19 bw bz c20,JR (nf 122) g aV aU a bu bv (bt ax aw aX=some z1) [(0,pt Y0 Z9),(3,pt O 0),(4,pt U 0),(9,pt b7 0),(10,pt b8 0),(76,sv a7 E.Kids c7),(77,iv (List.length E.Kids:Int)),(78,iv ar)] ([Q91 aY aZ c19 ax.Kids,Q51 aY b8 aZ c19 ax,K0 b7 [iv u6.ret,sv bm u6.params c16],K0 U zv1,Q33 a7 O c7 E,Y7 R,Q20 ad aw]++X6 ({aw with t:=aX}) Z5 H1 b1 az bw bz c20 a2 n2 c2 a3 n3 c3 a4 n4 c4 r1 r2 a5 n5 c5 a6 n6 c6 ad)) (fun bt hm=>?_) ?_
   . refine blk (sq2 ?_);obtain⟨u7,cG,hm⟩:=Z8 hm;obtain⟨cs4,cI,_,hT2⟩:=ixS au cG h1;obtain⟨_,c21,rfl,h6⟩:=G9 cI;refine aL zv2 au ?_;intro _ _ _ cJ;refine sT 0 cJ ?_;intro _ _ cK;refine kA ?_;refine cP A5 hm (hG.Z6 (p0:={ab with t:=af}) (cK.bE (Z3 0 7) (Z3 8 10++[7])) Z2 hL1 (mC h6)) ?_ ?_
     . rintro e4 _ _ _ _ ⟨_,_,c27,rfl,cL,_⟩ hm;have hm:=Q1b hm av aW;exact pe hm (cL.sN 6 12)
     rintro y5 _ _ _ _ ⟨_,c22,_,_,c23,rfl,cM,h7,_⟩ hm;refine aL zv1 cM ?_;intro _ _ _ cO;refine sT 0 cO ?_;intro _ _ bC;refine pn ?_;refine sq2 (cd hm ?_ ?_)<;>intro du hm
     . refine Z2w [0,1,0,1,1,0,1,0,0,1,2,2,2,0,2] [0,1,2,3,4,5,6,7,8,9,10,11,12,13,14] bC (R6 (U7 (U7 (R6 (U7 (C5)))))) fun dv dw bD=>?_;obtain⟨u8,_,hm⟩:=Z8 hm;refine pu ?_;obtain⟨y6,bF,hm⟩:=Z8 hm
       rcases y6 with e3|y6
       . have hm:=J8 hm;refine s2 [(1,.slice V W c17)] rfl qZt rfl (by kernel_rfl) (Z2d X2p rfl (I7 (p0:=y5.2) (p1:=u7) (p2:=y5.1) (p3:=u8) (bD.bE (Z3 2 6++[18,0,1]) (Z3 8 10)) Z2 hL1 (mC h6) (mC h7) _ bF) rfl fun v9 dy dz dA cR=>?_);obtain⟨rfl,cT,_⟩:=cR;have hm:=Q1b hm av aW;exact pe hm (cT.sE ([5]++Z3 9 10++[6]))
       have hm:=C2 hm;refine sS [(1,.slice V W c17)] X2p (I7 (bD.bE (Z3 2 6++[18,0,1]) (Z3 8 10)) Z2 hL1 (mC h6) (mC h7) _ bF) ?_;rintro _ _ _ _ ⟨cU,c24,rfl,cV,h8,_⟩;refine s2W [] ?_;refine obS (r:=X8) (l:=([y6]:List Y6)) (css:=[(U2 y6 cU c24)]) cV ⟨(U1 (x:=y6) h8:X8.rp _ _ _ _),qZt⟩ ?_;intro _ _ _ c25 _ cX;refine pu ?_;obtain⟨_,cY,hm⟩:=Z8 hm;refine s2W [0] ?_;refine oaO 1 cX (U8 cY) ?_;intro _ _ _ c26 _ cZ;refine s2W [] ?_;refine osT 2 cZ ?_;intro _ _ da;refine pu ?_;exact je hm (da.sE (Z3 1 7++Z3 10 10))
     exact je hm (bC.sE (Z3 2 6++[18]++Z3 8 10))
   rintro _ bu ⟨bv,aX,aw,ax,aY,aZ,c19,bw,bz,c20,J,hm,rfl,db,_⟩;exact lg hm av (db.sN 0 17)
 have hm:=Q4m hm av aW;refine pn ?_;refine sq2 (sq2 (cd hm ?_ ?_))<;>intro dB hm
 . refine pu ?_;refine cP Y5n hm (C6 (au.bE (Z3 0 4++Z3 5 12) [])) ?_ ?_
   . rintro _ _ _ _ _ ⟨rfl,dc,_⟩ hm;exact pe hm (dc.sE ([4]++Z3 6 10++[5]))
   rintro _ _ _ _ _ _ hm;cases hm
 refine kE ?_;refine rsS [0,0,1,2,1,0,2] [0,1,2,4,3,5,6] au fun dC dD dd=>?_;obtain⟨de,dg,hm⟩:=Z8 hm;refine sS [(4,.agg #[iv D.Kind,iv D.Fn,.int .u32 D.Num,iv D.Var,.bool D.Global,iv D.Size,.bool D.Post,.bool D.Ptr,.slice V W c17])] cf199 (Q1y (p0:={ab with t:=af}) (dd.bE [0,3,5,6,1,2] (Z3 7 10)) Z2 hL1 _ dg) ?_;rintro _ _ _ _ ⟨rfl,dh,_⟩;refine pu ?_;refine s0 rfl qZt (fun _=>F0 (by kernel_rfl) rfl (u:= .agg #[iv de,iv D.Kind,iv D.Fn,.int .u32 D.Num,iv D.Var,.bool D.Global,iv D.Size,.bool D.Post,.bool D.Ptr,.slice V W c17,.bool false])) rfl (s2W [0] ?_);refine osT 1 dh ?_;intro _ _ di;refine pn ?_;obtain⟨_,_,dj,_,rfl⟩:=di.sl 0;exact re hm (dj.sE ([2]++Z3 6 10++[3]))
end Go.Proofs.YtbfpdnogfkbiaaaGreat
