/- That Go functions compute their models. Printed by gen2.py. -/
import Derived.Test.YtfffghclkmbopaaGreatKWd
set_option linter.unusedVariables false
namespace Go.Proofs.YtfffghclkmbopaaGreat
open _root_.Go.Proofs.Tryz
set_option maxRecDepth 100000
set_option maxHeartbeats 8000000
attribute [local irreducible] wpList wpQuiet Code.wp
variable {g:World} {T0:Nat→Prop} {w0:World} {R:List Y8}
variable {b1 b2 Y2 Q1c Y0d Y0c Y0z c1 c2 c3 c4 c5 c6 c7 c8 c9 c10 c11 c12 c13 n1 n2 n3 n4 n5 n6 n7 Y1 Q0x Y0a Z9z Y0u oo1 oo2:Nat} {H1 H2 Z5 R5 Z7c Z7b Y0e:List Value→Y8} {a1 a2 a3 a4 a5 a6 a7 a8 a9 a10 a11 a12 a13:OA} {r1 r2:Option Nat} {pv1:Value}
attribute [local irreducible] C7 Q0q execOp Program.underlying sizeOf isAgg zeroValue

theorem Z5v {G:Q1d} (hG:Sp3 G):Q2x (N4 G):=by
  intro g T0 _ R p0 Y2 Y1 Z5 b1 cj H1 a1 n1 c1 a2 n2 c2 a3 n3 c3 a4 n4 c4 r1 r2 a5 n5 c5 a6 n6 c6 bt p1 a7 c7 hS Z2 hL1 h1 r hm;refine enter func159 rfl ntmps159 rfl fun J => ?_;unfold N4 at hm;refine sq2 (bX (F8 p1 a7 c7) hS ?_);intro _ b2 _ cQ;refine aL zv1 cQ ?_;intro w2 b3 _ bY;refine pn ?_;refine sq2 (sq2 (pn ?_));refine blk (sq2 (cd hm ?_ ?_)) <;> intro du hm
  · have cT:Ctr Tryz.prog 177 (type_of% @hG.K4):=⟨@hG.K4,cf177⟩;exact zr hm bY
  refine sq2 (cd hm ?_ ?_) <;> intro dv hm
  · have cT:Ctr Tryz.prog 177 (type_of% @hG.K4):=⟨@hG.K4,cf177⟩;exact zr hm bY
  refine pn ?_;refine O7 hm (fun cx a w9 => ∃(T5:_) (b4:_) (x1:Z8) (bu:_) (c14:_) (b5:_) (x2:Z8) (bv:_) (c15:_),JR (nf 132) g T0 w2 a w9 T5 (cx x1 x2=some r) (Q61 Y2 Y1 b2 b3 b4 b5) ((Q77 a7 b3 b2 c7 R p1)++(X0 p0 Z5 H1 b1 cj a1 n1 c1 a2 n2 c2 a3 n3 c3 a4 n4 c4 r1 r2 a5 n5 c5 a6 n6 c6 bt ++ [Q14 bt p0,Q23 bu b4 c14 x1,Q23 bv b5 c15 x2]))∧Q7 bu c14 T5 w9 x1.Kids∧Q7 bv c15 T5 w9 x2.Kids) (fun cx hm => ?_) ?_
  · refine rtS [0,1,0,1,0,1,0,1,2,2,2,2] [0,1,2,3,4,5,6,7,8,9,10,11] bY fun dw dx bw => ?_;obtain⟨_,cU,hm⟩:=bindS hm;obtain⟨cs1,cV,_,hT1⟩:=ixS bw cU h1;obtain⟨_,c16,rfl,h6⟩:=K2 cV;obtain⟨_,cW,hm⟩:=bindS hm;obtain⟨cs2,cX,_,hT2⟩:=ixS bw cW h1;obtain⟨_,c17,rfl,_⟩:=K2 cX;refine tF [8,9] ?_;refine⟨?_,?_,trivial⟩
    · refine brW [9,10,11] [] ?_;refine oaL zv2 bw ?_;intro cY b8 da bZ;refine t1W [9] [10,11] [] ?_;refine oaL zv2 bZ ?_;intro db b9 dd b0;refine t1W [10] [11] [1,1,0,0] ?_;refine osT 1 b0 ?_;intro de dg b6;refine t1W [11] [] [0,0] ?_;refine osT 0 b6 ?_;intro dh di b7;refine pu ?_;exact je hm (b7.sel (Z1 2 14 ++ [1,0]) rfl)
    refine brW [8,10,11] [] ?_;refine oaL zv2 bw ?_;intro cY b8 da bZ;refine t1W [8] [10,11] [] ?_;refine oaL zv2 bZ ?_;intro db b9 dd b0;refine t1W [10] [11] [1,1,0,0] ?_;refine osT 0 b0 ?_;intro de dg b6;refine t1W [11] [] [0,0] ?_;refine osT 1 b6 ?_;intro dh di b7;refine pu ?_;exact je hm (b7.sel (Z1 2 14 ++ [0,1]) rfl)
  rintro _ w9 ⟨T5,b4,x1,bu,c14,b5,x2,bv,c15,⟨J,hm,rfl,dj,_⟩,h4,U⟩;refine O7 hm (fun cy a bz => ∃(T6:_) (bB:Z6) (bj:Q0) (cz:_) (cA:_) (c18:_) (aQ:_) (ai:Z7) (bC:_) (c19:_) (aR:_) (aE:Z7) (bD:_) (c20:_),JR (nf 132) g T5 w9 a bz T6 (cy bj bB ai aE=some r) [(0,pt Y2 Y1),(3,pt b2 0),(4,pt b3 0),(5,pt b4 0),(6,pt b5 0),(7,pt aQ 0),(8,pt aR 0)] ((Q77 a7 b3 b2 c7 R p1)++(X0 ({bj with t:=bB}) Z5 H1 b1 cj cz cA c18 a2 n2 c2 a3 n3 c3 a4 n4 c4 r1 r2 a5 n5 c5 a6 n6 c6 bt ++ [Q14 bt bj,Q23 bu b4 c14 x1,Q23 bv b5 c15 x2,Q32 bC aQ c19 ai,Q32 bD aR c20 aE]))∧Q56 bC c19 T6 bz ai∧Q56 bD c20 T6 bz aE) (fun cy hm => ?_) ?_
  · refine rtPS [0,1,2,0,1,2,2,2,2,2] [0,1,3,4,2,5,6,7,8,9] dj (V9 (P8)) fun dy cc aF => ?_;refine pu ?_;obtain⟨y3,ac,hm⟩:=bindS hm
    rcases y3 with e3 | y3
    · have hm:=K0 hm;refine tF [2,6,7] ?_;refine⟨?_,?_,?_,trivial⟩
      · refine brW [5,6,7,8,9] [1,0] ?_;refine oP C0 (hG.Z4 (aF.bun [0,1,2,14,15] (Z1 3 11) rfl) Z2 hL1 (h4.mono cc) _ ac) ?_;rintro _ bE aS aT ⟨bF,bG,bI,rfl,aa,_⟩;exact pe hm (aa.sel ([2]++Z1 5 11) rfl)
      · refine brW [2,5,7,8,9] [] ?_;refine oaL zv1 aF ?_;intro bk aX bl ae;refine tF [2,7] ?_;refine⟨?_,?_,trivial⟩
        · refine brW [5,7,8,9] [1,0] ?_;refine oP C0 (hG.Z4 (ae.bun [0,1,2,3,15,16] (Z1 4 11) rfl) Z2 hL1 (h4.mono ch) _ ac) ?_;rintro _ bE cD bJ ⟨bF,bG,bI,rfl,bm,_⟩;exact pe hm (bm.sel ([3]++Z1 6 11) rfl)
        refine brW [2,5,8,9] [] ?_;refine oaL zv1 ae ?_;intro aS aY aT aa;refine t1W [2] [5,8,9] [1,0] ?_;refine oP C0 (hG.Z4 (aa.bun (Z1 0 5 ++ [16,17]) (Z1 5 11) rfl) Z2 hL1 (h4.mono ch) _ ac) ?_;rintro _ bE cE cF ⟨bF,bG,bI,rfl,bn,_⟩;exact pe hm (bn.sel ([4]++Z1 7 11) rfl)
      refine brW [2,5,6,8,9] [] ?_;refine oaL zv1 aF ?_;intro bk aX bl ae;refine tF [2,6] ?_;refine⟨?_,?_,trivial⟩
      · refine brW [5,6,8,9] [1,0] ?_;refine oP C0 (hG.Z4 (ae.bun [0,1,2,3,15,16] (Z1 4 11) rfl) Z2 hL1 (h4.mono ch) _ ac) ?_;rintro _ bE cD bJ ⟨bF,bG,bI,rfl,bm,_⟩;exact pe hm (bm.sel ([3]++Z1 6 11) rfl)
      refine brW [2,5,8,9] [] ?_;refine oaL zv1 ae ?_;intro aS aY aT aa;refine t1W [2] [5,8,9] [1,0] ?_;refine oP C0 (hG.Z4 (aa.bun (Z1 0 5 ++ [16,17]) (Z1 5 11) rfl) Z2 hL1 (h4.mono ch) _ ac) ?_;rintro _ bE cE cF ⟨bF,bG,bI,rfl,bn,_⟩;exact pe hm (bn.sel ([4]++Z1 7 11) rfl)
    have hm:=B8 hm;obtain⟨y4,V,hm⟩:=bindS hm
    rcases y4 with e4 | y4
    · have hm:=K0 hm;refine tF [2,6,7] ?_;refine⟨?_,?_,?_,trivial⟩
      · refine brW [5,6,7,8,9] [1,0] ?_;refine oS C0 (hG.Z4 (aF.bun [0,1,2,14,15] (Z1 3 11) rfl) Z2 hL1 (h4.mono cc) _ ac) ?_;rintro _ T9 cI cJ ⟨bL,c25,bM,bN,c26,rfl,aG,bO,_⟩;refine tF [5,6,7] ?_;refine⟨?_,?_,?_,trivial⟩
        · refine brW [6,7,8,9] [0] ?_;refine oP C0 (hG.Z4 (aG.bun (Z1 0 5) (Z1 5 11) rfl) Z2 hL1 (U.mono ch) _ V) ?_;rintro _ aw a8 a9 ⟨ax,ay,c29,rfl,af,_⟩;exact pe hm (af.sel ([2]++Z1 5 11) rfl)
        · refine brW [5,7,8,9] [] ?_;refine oaL zv1 aG ?_;intro bo aX bp ad;refine tF [5,7] ?_;refine⟨?_,?_,trivial⟩
          · refine brW [7,8,9] [0] ?_;refine oP C0 (hG.Z4 (ad.bun (Z1 0 6) (Z1 6 11) rfl) Z2 hL1 (U.mono ch) _ V) ?_;rintro _ aw bk bl ⟨ax,ay,c29,rfl,ae,_⟩;exact pe hm (ae.sel ([3]++Z1 6 11) rfl)
          refine brW [5,8,9] [] ?_;refine oaL zv1 ad ?_;intro a8 aY a9 af;refine t1W [5] [8,9] [0] ?_;refine oP C0 (hG.Z4 (af.bun (Z1 0 7) (Z1 7 11) rfl) Z2 hL1 (U.mono ch) _ V) ?_;rintro _ aw aS aT ⟨ax,ay,c29,rfl,aa,_⟩;exact pe hm (aa.sel ([4]++Z1 7 11) rfl)
        refine brW [5,6,8,9] [] ?_;refine oaL zv1 aG ?_;intro bo aX bp ad;refine tF [5,6] ?_;refine⟨?_,?_,trivial⟩
        · refine brW [6,8,9] [0] ?_;refine oP C0 (hG.Z4 (ad.bun (Z1 0 6) (Z1 6 11) rfl) Z2 hL1 (U.mono ch) _ V) ?_;rintro _ aw bk bl ⟨ax,ay,c29,rfl,ae,_⟩;exact pe hm (ae.sel ([3]++Z1 6 11) rfl)
        refine brW [5,8,9] [] ?_;refine oaL zv1 ad ?_;intro a8 aY a9 af;refine t1W [5] [8,9] [0] ?_;refine oP C0 (hG.Z4 (af.bun (Z1 0 7) (Z1 7 11) rfl) Z2 hL1 (U.mono ch) _ V) ?_;rintro _ aw aS aT ⟨ax,ay,c29,rfl,aa,_⟩;exact pe hm (aa.sel ([4]++Z1 7 11) rfl)
      · refine brW [2,5,7,8,9] [] ?_;refine oaL zv1 aF ?_;intro cI aX cJ aG;refine tF [2,7] ?_;refine⟨?_,?_,trivial⟩
        · refine brW [5,7,8,9] [1,0] ?_;refine oS C0 (hG.Z4 (aG.bun [0,1,2,3,15,16] (Z1 4 11) rfl) Z2 hL1 (h4.mono ch) _ ac) ?_;rintro _ T9 bo bp ⟨bL,c25,bM,bN,c26,rfl,ad,bO,_⟩;refine tF [5,7] ?_;refine⟨?_,?_,trivial⟩
          · refine brW [7,8,9] [0] ?_;refine oP C0 (hG.Z4 (ad.bun (Z1 0 6) (Z1 6 11) rfl) Z2 hL1 (U.mono ch) _ V) ?_;rintro _ aw bk bl ⟨ax,ay,c29,rfl,ae,_⟩;exact pe hm (ae.sel ([3]++Z1 6 11) rfl)
          refine brW [5,8,9] [] ?_;refine oaL zv1 ad ?_;intro a8 aY a9 af;refine t1W [5] [8,9] [0] ?_;refine oP C0 (hG.Z4 (af.bun (Z1 0 7) (Z1 7 11) rfl) Z2 hL1 (U.mono ch) _ V) ?_;rintro _ aw aS aT ⟨ax,ay,c29,rfl,aa,_⟩;exact pe hm (aa.sel ([4]++Z1 7 11) rfl)
        refine brW [2,5,8,9] [] ?_;refine oaL zv1 aG ?_;intro bo aY bp ad;refine t1W [2] [5,8,9] [1,0] ?_;refine oS C0 (hG.Z4 (ad.bun (Z1 0 5 ++ [16,17]) (Z1 5 11) rfl) Z2 hL1 (h4.mono ch) _ ac) ?_;rintro _ T9 a8 a9 ⟨bL,c25,bM,bN,c26,rfl,af,bO,_⟩;refine t1W [5] [8,9] [0] ?_;refine oP C0 (hG.Z4 (af.bun (Z1 0 7) (Z1 7 11) rfl) Z2 hL1 (U.mono ch) _ V) ?_;rintro _ aw aS aT ⟨ax,ay,c29,rfl,aa,_⟩;exact pe hm (aa.sel ([4]++Z1 7 11) rfl)
      refine brW [2,5,6,8,9] [] ?_;refine oaL zv1 aF ?_;intro cI aX cJ aG;refine tF [2,6] ?_;refine⟨?_,?_,trivial⟩
      · refine brW [5,6,8,9] [1,0] ?_;refine oS C0 (hG.Z4 (aG.bun [0,1,2,3,15,16] (Z1 4 11) rfl) Z2 hL1 (h4.mono ch) _ ac) ?_;rintro _ T9 bo bp ⟨bL,c25,bM,bN,c26,rfl,ad,bO,_⟩;refine tF [5,6] ?_;refine⟨?_,?_,trivial⟩
        · refine brW [6,8,9] [0] ?_;refine oP C0 (hG.Z4 (ad.bun (Z1 0 6) (Z1 6 11) rfl) Z2 hL1 (U.mono ch) _ V) ?_;rintro _ aw bk bl ⟨ax,ay,c29,rfl,ae,_⟩;exact pe hm (ae.sel ([3]++Z1 6 11) rfl)
        refine brW [5,8,9] [] ?_;refine oaL zv1 ad ?_;intro a8 aY a9 af;refine t1W [5] [8,9] [0] ?_;refine oP C0 (hG.Z4 (af.bun (Z1 0 7) (Z1 7 11) rfl) Z2 hL1 (U.mono ch) _ V) ?_;rintro _ aw aS aT ⟨ax,ay,c29,rfl,aa,_⟩;exact pe hm (aa.sel ([4]++Z1 7 11) rfl)
      refine brW [2,5,8,9] [] ?_;refine oaL zv1 aG ?_;intro bo aY bp ad;refine t1W [2] [5,8,9] [1,0] ?_;refine oS C0 (hG.Z4 (ad.bun (Z1 0 5 ++ [16,17]) (Z1 5 11) rfl) Z2 hL1 (h4.mono ch) _ ac) ?_;rintro _ T9 a8 a9 ⟨bL,c25,bM,bN,c26,rfl,af,bO,_⟩;refine t1W [5] [8,9] [0] ?_;refine oP C0 (hG.Z4 (af.bun (Z1 0 7) (Z1 7 11) rfl) Z2 hL1 (U.mono ch) _ V) ?_;rintro _ aw aS aT ⟨ax,ay,c29,rfl,aa,_⟩;exact pe hm (aa.sel ([4]++Z1 7 11) rfl)
    have hm:=B8 hm;refine tF [2,6,7] ?_;refine⟨?_,?_,?_,trivial⟩
    · refine brW [5,6,7,8,9] [1,0] ?_;refine oS C0 (hG.Z4 (aF.bun [0,1,2,14,15] (Z1 3 11) rfl) Z2 hL1 (h4.mono cc) _ ac) ?_;rintro _ T7 cK cL ⟨bQ,c21,bR,bT,c22,rfl,aI,bU,_⟩;refine tF [5,6,7] ?_;refine⟨?_,?_,?_,trivial⟩
      · refine brW [6,7,8,9] [0] ?_;refine oS C0 (hG.Z4 (aI.bun (Z1 0 5) (Z1 5 11) rfl) Z2 hL1 (U.mono ch) _ V) ?_;rintro _ T8 ba be ⟨aA,c23,aB,aC,c24,rfl,W,aD,_⟩;refine tF [6,7] ?_;refine⟨?_,?_,trivial⟩
        · refine brW [7,8,9] [] ?_;refine oaL zv1 W ?_;intro ak bq am D;refine t1W [7] [8,9] [] ?_;refine oaL zv1 D ?_;intro an ao ap E;refine t1W [8] [9] [] ?_;refine osT 1 E ?_;intro aq ar I;refine t1W [9] [] [] ?_;refine osT 0 I ?_;intro au av K;refine pu ?_;exact je hm (K.sel ([2,3,4]++Z1 7 11 ++ [5,6,1,0]) rfl)
        refine brW [6,8,9] [] ?_;refine oaL zv1 W ?_;intro ak bq am D;refine t1W [6] [8,9] [] ?_;refine oaL zv1 D ?_;intro an ao ap E;refine t1W [8] [9] [] ?_;refine osT 0 E ?_;intro aq ar I;refine t1W [9] [] [] ?_;refine osT 1 I ?_;intro au av K;refine pu ?_;exact je hm (K.sel ([2,3,4]++Z1 7 11 ++ [5,6,0,1]) rfl)
      · refine brW [5,7,8,9] [] ?_;refine oaL zv1 aI ?_;intro ba bq be W;refine tF [5,7] ?_;refine⟨?_,?_,trivial⟩
        · refine brW [7,8,9] [0] ?_;refine oS C0 (hG.Z4 (W.bun (Z1 0 6) (Z1 6 11) rfl) Z2 hL1 (U.mono ch) _ V) ?_;rintro _ T8 ak am ⟨aA,c23,aB,aC,c24,rfl,D,aD,_⟩;refine t1W [7] [8,9] [] ?_;refine oaL zv1 D ?_;intro an ao ap E;refine t1W [8] [9] [] ?_;refine osT 1 E ?_;intro aq ar I;refine t1W [9] [] [] ?_;refine osT 0 I ?_;intro au av K;refine pu ?_;exact je hm (K.sel ([2,3,4]++Z1 7 11 ++ [5,6,1,0]) rfl)
        refine brW [5,8,9] [] ?_;refine oaL zv1 W ?_;intro ak ao am D;refine t1W [5] [8,9] [0] ?_;refine oS C0 (hG.Z4 (D.bun (Z1 0 7) (Z1 7 11) rfl) Z2 hL1 (U.mono ch) _ V) ?_;rintro _ T8 an ap ⟨aA,c23,aB,aC,c24,rfl,E,aD,_⟩;refine t1W [8] [9] [] ?_;refine osT 1 E ?_;intro aq ar I;refine t1W [9] [] [] ?_;refine osT 0 I ?_;intro au av K;refine pu ?_;exact je hm (K.sel ([2,3,4]++Z1 7 11 ++ [5,6,1,0]) rfl)
      refine brW [5,6,8,9] [] ?_;refine oaL zv1 aI ?_;intro ba bq be W;refine tF [5,6] ?_;refine⟨?_,?_,trivial⟩
      · refine brW [6,8,9] [0] ?_;refine oS C0 (hG.Z4 (W.bun (Z1 0 6) (Z1 6 11) rfl) Z2 hL1 (U.mono ch) _ V) ?_;rintro _ T8 ak am ⟨aA,c23,aB,aC,c24,rfl,D,aD,_⟩;refine t1W [6] [8,9] [] ?_;refine oaL zv1 D ?_;intro an ao ap E;refine t1W [8] [9] [] ?_;refine osT 0 E ?_;intro aq ar I;refine t1W [9] [] [] ?_;refine osT 1 I ?_;intro au av K;refine pu ?_;exact je hm (K.sel ([2,3,4]++Z1 7 11 ++ [5,6,0,1]) rfl)
      refine brW [5,8,9] [] ?_;refine oaL zv1 W ?_;intro ak ao am D;refine t1W [5] [8,9] [0] ?_;refine oS C0 (hG.Z4 (D.bun (Z1 0 7) (Z1 7 11) rfl) Z2 hL1 (U.mono ch) _ V) ?_;rintro _ T8 an ap ⟨aA,c23,aB,aC,c24,rfl,E,aD,_⟩;refine t1W [8] [9] [] ?_;refine osT 0 E ?_;intro aq ar I;refine t1W [9] [] [] ?_;refine osT 1 I ?_;intro au av K;refine pu ?_;exact je hm (K.sel ([2,3,4]++Z1 7 11 ++ [5,6,0,1]) rfl)
    · refine brW [2,5,7,8,9] [] ?_;refine oaL zv1 aF ?_;intro cK bq cL aI;refine tF [2,7] ?_;refine⟨?_,?_,trivial⟩
      · refine brW [5,7,8,9] [1,0] ?_;refine oS C0 (hG.Z4 (aI.bun [0,1,2,3,15,16] (Z1 4 11) rfl) Z2 hL1 (h4.mono ch) _ ac) ?_;rintro _ T7 ba be ⟨bQ,c21,bR,bT,c22,rfl,W,bU,_⟩;refine tF [5,7] ?_;refine⟨?_,?_,trivial⟩
        · refine brW [7,8,9] [0] ?_;refine oS C0 (hG.Z4 (W.bun (Z1 0 6) (Z1 6 11) rfl) Z2 hL1 (U.mono ch) _ V) ?_;rintro _ T8 ak am ⟨aA,c23,aB,aC,c24,rfl,D,aD,_⟩;refine t1W [7] [8,9] [] ?_;refine oaL zv1 D ?_;intro an ao ap E;refine t1W [8] [9] [] ?_;refine osT 1 E ?_;intro aq ar I;refine t1W [9] [] [] ?_;refine osT 0 I ?_;intro au av K;refine pu ?_;exact je hm (K.sel ([2,3,4]++Z1 7 11 ++ [5,6,1,0]) rfl)
        refine brW [5,8,9] [] ?_;refine oaL zv1 W ?_;intro ak ao am D;refine t1W [5] [8,9] [0] ?_;refine oS C0 (hG.Z4 (D.bun (Z1 0 7) (Z1 7 11) rfl) Z2 hL1 (U.mono ch) _ V) ?_;rintro _ T8 an ap ⟨aA,c23,aB,aC,c24,rfl,E,aD,_⟩;refine t1W [8] [9] [] ?_;refine osT 1 E ?_;intro aq ar I;refine t1W [9] [] [] ?_;refine osT 0 I ?_;intro au av K;refine pu ?_;exact je hm (K.sel ([2,3,4]++Z1 7 11 ++ [5,6,1,0]) rfl)
      refine brW [2,5,8,9] [] ?_;refine oaL zv1 aI ?_;intro ba ao be W;refine t1W [2] [5,8,9] [1,0] ?_;refine oS C0 (hG.Z4 (W.bun (Z1 0 5 ++ [16,17]) (Z1 5 11) rfl) Z2 hL1 (h4.mono ch) _ ac) ?_;rintro _ T7 ak am ⟨bQ,c21,bR,bT,c22,rfl,D,bU,_⟩;refine t1W [5] [8,9] [0] ?_;refine oS C0 (hG.Z4 (D.bun (Z1 0 7) (Z1 7 11) rfl) Z2 hL1 (U.mono ch) _ V) ?_;rintro _ T8 an ap ⟨aA,c23,aB,aC,c24,rfl,E,aD,_⟩;refine t1W [8] [9] [] ?_;refine osT 1 E ?_;intro aq ar I;refine t1W [9] [] [] ?_;refine osT 0 I ?_;intro au av K;refine pu ?_;exact je hm (K.sel ([2,3,4]++Z1 7 11 ++ [5,6,1,0]) rfl)
    refine brW [2,5,6,8,9] [] ?_;refine oaL zv1 aF ?_;intro cK bq cL aI;refine tF [2,6] ?_;refine⟨?_,?_,trivial⟩
    · refine brW [5,6,8,9] [1,0] ?_;refine oS C0 (hG.Z4 (aI.bun [0,1,2,3,15,16] (Z1 4 11) rfl) Z2 hL1 (h4.mono ch) _ ac) ?_;rintro _ T7 ba be ⟨bQ,c21,bR,bT,c22,rfl,W,bU,_⟩;refine tF [5,6] ?_;refine⟨?_,?_,trivial⟩
      · refine brW [6,8,9] [0] ?_;refine oS C0 (hG.Z4 (W.bun (Z1 0 6) (Z1 6 11) rfl) Z2 hL1 (U.mono ch) _ V) ?_;rintro _ T8 ak am ⟨aA,c23,aB,aC,c24,rfl,D,aD,_⟩;refine t1W [6] [8,9] [] ?_;refine oaL zv1 D ?_;intro an ao ap E;refine t1W [8] [9] [] ?_;refine osT 0 E ?_;intro aq ar I;refine t1W [9] [] [] ?_;refine osT 1 I ?_;intro au av K;refine pu ?_;exact je hm (K.sel ([2,3,4]++Z1 7 11 ++ [5,6,0,1]) rfl)
      refine brW [5,8,9] [] ?_;refine oaL zv1 W ?_;intro ak ao am D;refine t1W [5] [8,9] [0] ?_;refine oS C0 (hG.Z4 (D.bun (Z1 0 7) (Z1 7 11) rfl) Z2 hL1 (U.mono ch) _ V) ?_;rintro _ T8 an ap ⟨aA,c23,aB,aC,c24,rfl,E,aD,_⟩;refine t1W [8] [9] [] ?_;refine osT 0 E ?_;intro aq ar I;refine t1W [9] [] [] ?_;refine osT 1 I ?_;intro au av K;refine pu ?_;exact je hm (K.sel ([2,3,4]++Z1 7 11 ++ [5,6,0,1]) rfl)
    refine brW [2,5,8,9] [] ?_;refine oaL zv1 aI ?_;intro ba ao be W;refine t1W [2] [5,8,9] [1,0] ?_;refine oS C0 (hG.Z4 (W.bun (Z1 0 5 ++ [16,17]) (Z1 5 11) rfl) Z2 hL1 (h4.mono ch) _ ac) ?_;rintro _ T7 ak am ⟨bQ,c21,bR,bT,c22,rfl,D,bU,_⟩;refine t1W [5] [8,9] [0] ?_;refine oS C0 (hG.Z4 (D.bun (Z1 0 7) (Z1 7 11) rfl) Z2 hL1 (U.mono ch) _ V) ?_;rintro _ T8 an ap ⟨aA,c23,aB,aC,c24,rfl,E,aD,_⟩;refine t1W [8] [9] [] ?_;refine osT 0 E ?_;intro aq ar I;refine t1W [9] [] [] ?_;refine osT 1 I ?_;intro au av K;refine pu ?_;exact je hm (K.sel ([2,3,4]++Z1 7 11 ++ [5,6,0,1]) rfl)
  rintro _ bz ⟨T6,bB,bj,cz,cA,c18,aQ,ai,bC,c19,aR,aE,bD,c20,⟨J,hm,rfl,bm,_⟩,h8,h9⟩;refine sq2 (pu ?_);refine cB cf178 hm (Q8a (bm.bun (Z1 0 18) [] rfl)) ?_;rintro O _ _ cD bJ ⟨rfl,bn,_⟩ hm;refine pn ?_;refine sq2 (bS (r:=X2) (l:=([ai.term,aE.term]:List Y4)) (css := [(V5 ai.term bC c19),(V5 aE.term bD c20)]) bn ⟨(X6 (x:=ai.term) (h8.mono bJ):X2.rp _ _ _ _),(X6 (x:=aE.term) (h9.mono bJ):X2.rp _ _ _ _),trivial⟩ ?_);intro cE dm dn dp cF dq;refine pv (F9 (by kernel_rfl) rfl (u := .agg #[iv 6,iv O,.int .u32 0,iv 0,.bool false,iv 0,.bool false,.bool false,.slice dm dn dp])) (aL zv3 dq ?_);intro _ aX _ dr;refine sT 0 dr ?_;intro _ _ aJ;refine pn ?_;refine sq2 (blk (sq2 (pu ?_)));refine fkC (d:=55) (c:=((ai.n == 1)&&(aE.n == 1))) 4 [(0,pt Y2 Y1),(3,pt b2 0),(4,pt b3 0),(5,pt b4 0),(6,pt b5 0),(7,pt aQ 0),(8,pt aR 0),(9,iv O),(10,pt aX 0)] rfl (fun hk => ?_) fun J => ?_
  · rcases Bool.eq_false_or_eq_true (ai.n == 1) with aK | aK
    · exact  gT (d0:=51) rfl rfl aK (pv (Q0h rfl underlying202 rfl sizeOf3 rfl) (gT (d0:=51) rfl rfl aK (pv (Q0p rfl isAgg3 (aJ.cell0 (i:=19) ⟨rfl,rfl⟩ (j:=0) rfl)) (gT (d0:=51) rfl rfl aK (pv (Q6y rfl rfl rfl) (pv (O5 rfl aK rfl) (wlR (fun J=>hk J _ (by rw [aK]; rfl)) ⟨rfl,rfl,rfl,rfl,rfl,rfl,rfl,rfl,rfl,rfl,trivial⟩)))))))
    exact  gF3 (d0:=51) rfl rfl (by rw [aK]; rfl) (pv (O6 rfl aK rfl) (wlR (fun J=>hk J _ (by rw [aK]; rfl)) ⟨rfl,rfl,rfl,rfl,rfl,rfl,rfl,rfl,rfl,rfl,trivial⟩))
  refine cd hm ?_ ?_ <;> intro dB hm
  · exact zr hm aJ
  refine sq2 (pu ?_);refine fkC (d:=64) (c:=((O == 11) || (O == 12))) 3 [(0,pt Y2 Y1),(3,pt b2 0),(4,pt b3 0),(5,pt b4 0),(6,pt b5 0),(7,pt aQ 0),(8,pt aR 0),(9,iv O)] rfl (fun hk => ?_) fun J => ?_
  · rcases Bool.eq_false_or_eq_true (O == 11) with aU | aU
    · exact  gF2 (d0:=61) rfl rfl (by rw [aU]; rfl) (pv (O5 rfl aU rfl) (wlR (fun J=>hk J _ (by rw [aU]; rfl)) ⟨rfl,rfl,rfl,rfl,rfl,rfl,rfl,rfl,rfl,trivial⟩))
    exact  gT (d0:=61) rfl rfl aU (pv (r_mi rfl) (gT (d0:=61) rfl rfl aU (pv (Q6y rfl rfl rfl) (pv (O6 rfl aU rfl) (wlR (fun J=>hk J _ (by rw [aU]; rfl)) ⟨rfl,rfl,rfl,rfl,rfl,rfl,rfl,rfl,rfl,trivial⟩)))))
  refine cd hm ?_ ?_ <;> intro dC hm
  · exact zr hm aJ
  refine sq2 (pu ?_);refine fkC (d:=77) (c:=((O == 1)&&(ai.n == 1))) 4 [(0,pt Y2 Y1),(4,pt b3 0),(5,pt b4 0),(6,pt b5 0),(7,pt aQ 0),(8,pt aR 0),(9,iv O)] rfl (fun hk => ?_) fun J => ?_
  · rcases Bool.eq_false_or_eq_true (O == 1) with aM | aM
    · exact  gT (d0:=73) rfl rfl aM (pv (Q0h rfl underlying202 rfl sizeOf3 rfl) (gT (d0:=73) rfl rfl aM (pv (Q0p rfl isAgg3 (aJ.cell0 (i:=18) ⟨rfl,rfl⟩ (j:=0) rfl)) (gT (d0:=73) rfl rfl aM (pv (Q6y rfl rfl rfl) (pv (O5 rfl aM rfl) (wlR (fun J=>hk J _ (by rw [aM]; rfl)) ⟨rfl,rfl,rfl,rfl,rfl,rfl,rfl,rfl,trivial⟩)))))))
    exact  gF3 (d0:=73) rfl rfl (by rw [aM]; rfl) (pv (O6 rfl aM rfl) (wlR (fun J=>hk J _ (by rw [aM]; rfl)) ⟨rfl,rfl,rfl,rfl,rfl,rfl,rfl,rfl,trivial⟩))
  refine cd hm ?_ ?_ <;> intro dD hm
  · exact zr hm aJ
  refine sq2 (pu ?_);refine fkC (d:=92) (c:=((O == 1) || (O == 2))) 3 [(0,pt Y2 Y1),(4,pt b3 0),(5,pt b4 0),(6,pt b5 0),(7,pt aQ 0),(8,pt aR 0),(9,iv O)] rfl (fun hk => ?_) fun J => ?_
  · rcases Bool.eq_false_or_eq_true (O == 1) with aV | aV
    · exact  gF2 (d0:=89) rfl rfl (by rw [aV]; rfl) (pv (O5 rfl aV rfl) (wlR (fun J=>hk J _ (by rw [aV]; rfl)) ⟨rfl,rfl,rfl,rfl,rfl,rfl,rfl,rfl,trivial⟩))
    exact  gT (d0:=89) rfl rfl aV (pv (r_mi rfl) (gT (d0:=89) rfl rfl aV (pv (Q6y rfl rfl rfl) (pv (O6 rfl aV rfl) (wlR (fun J=>hk J _ (by rw [aV]; rfl)) ⟨rfl,rfl,rfl,rfl,rfl,rfl,rfl,rfl,trivial⟩)))))
  refine pu ?_;refine fkC (d:=97) (c:=(((O == 1) || (O == 2))&&(aE.n == 1))) 4 [(0,pt Y2 Y1),(4,pt b3 0),(5,pt b4 0),(6,pt b5 0),(7,pt aQ 0),(8,pt aR 0),(9,iv O)] rfl (fun hk => ?_) fun J => ?_
  · rcases Bool.eq_false_or_eq_true ((O == 1) || (O == 2)) with aN | aN
    · exact  gT (d0:=93) rfl rfl aN (pv (Q0h rfl underlying202 rfl sizeOf3 rfl) (gT (d0:=93) rfl rfl aN (pv (Q0p rfl isAgg3 (aJ.cell0 (i:=19) ⟨rfl,rfl⟩ (j:=0) rfl)) (gT (d0:=93) rfl rfl aN (pv (Q6y rfl rfl rfl) (pv (O5 rfl aN rfl) (wlR (fun J=>hk J _ (by rw [aN]; rfl)) ⟨rfl,rfl,rfl,rfl,rfl,rfl,rfl,rfl,trivial⟩)))))))
    exact  gF3 (d0:=93) rfl rfl (by rw [aN]; rfl) (pv (O6 rfl aN rfl) (wlR (fun J=>hk J _ (by rw [aN]; rfl)) ⟨rfl,rfl,rfl,rfl,rfl,rfl,rfl,rfl,trivial⟩))
  refine cd hm ?_ ?_ <;> intro dE hm
  · exact zr hm aJ
  refine sq2 (pu ?_)
  rcases bc hm with ⟨ce,hm⟩ | ⟨ce,hm⟩
  · refine pu ?_;refine cB Q0e hm (Z9 (p0 := {bj with t:=bB}) (aJ.bun [2,4,15,16,17] (Z1 5 10) rfl) Z2 hL1) ?_;rintro y9 _ _ _ _ ⟨rfl,ds,_⟩ hm;refine pu ?_;refine fkC (d:=123) (c:=((!y9) || ((O != 1)&&(O != 2)))) 7 [(4,pt b3 0),(5,pt b4 0),(6,pt b5 0),(110,.bool (ai.n != 1))] rfl (fun hk => ?_) fun J => ?_
    · rcases Bool.eq_false_or_eq_true (!y9) with aP | aP
      · exact  gF3 (d0:=116) rfl rfl (by rw [aP]; rfl) (gU (d0:=119) rfl rfl (gU (d0:=119) rfl rfl (gF (d0:=116) rfl rfl (by rw [aP]; rfl) (gT (d0:=110) rfl rfl ce (pv (O5 rfl aP rfl) (wlR (fun J=>hk J _ (by rw [aP]; rfl)) ⟨rfl,rfl,rfl,rfl,rfl,trivial⟩))))))
      refine pu ?_;refine fkC (d:=122) (c:=((O != 1)&&(O != 2))) 3 [(4,pt b3 0),(5,pt b4 0),(6,pt b5 0),(110,.bool (ai.n != 1)),(116,.bool (!y9))] rfl (fun hk => ?_) fun J => ?_
      · rcases Bool.eq_false_or_eq_true (O != 1) with aW | aW
        · exact  gT (d0:=119) rfl rfl aW (pv (r_mi rfl) (gT (d0:=119) rfl rfl aW (pv (Q6y rfl rfl rfl) (gT (d0:=116) rfl rfl aP (pv (O5 rfl aW rfl) (wlR (fun J=>hk J _ (by rw [aW]; rfl)) ⟨rfl,rfl,rfl,rfl,rfl,rfl,trivial⟩))))))
        exact  gF2 (d0:=119) rfl rfl (by rw [aW]; rfl) (gT (d0:=116) rfl rfl aP (pv (O6 rfl aW rfl) (wlR (fun J=>hk J _ (by rw [aW]; rfl)) ⟨rfl,rfl,rfl,rfl,rfl,rfl,trivial⟩)))
      exact  gT (d0:=110) rfl rfl ce (pv (O6 rfl aP rfl) (wlR (fun J=>hk J _ (by rw [aP]; rfl)) ⟨rfl,rfl,rfl,rfl,rfl,trivial⟩))
    exact zr hm ds
  exact zr hm aJ
end Go.Proofs.YtfffghclkmbopaaGreat
