/- That Go functions compute their models. Printed by gen2.py. -/
import Derived.Test.YtbfpdnogfkbiaaaGreatVWj
set_option linter.unusedVariables false
namespace Go.Proofs.YtbfpdnogfkbiaaaGreat
open _root_.Go.Proofs.Tryz
set_option maxRecDepth 100000
set_option maxHeartbeats 8000000
attribute [local irreducible] wpList wpQuiet Code.wp
variable{g:World}{T0:Nat->Prop}{w0:World}{R:List Y9}
variable{b1 b2 Y0 Q0f Z7g Z7f Z8d c1 c2 c3 c4 c5 c6 c7 c8 c9 c10 c11 c12 c13 n1 n2 n3 n4 n5 n6 n7 Z9 Q0e Z7a Z6z Z7p oo1 oo2:Nat}{H1 H2 Z5 L4 Z5m Z5l Z7h:List Value->Y9}{a1 a2 a3 a4 a5 a6 a7 a8 a9 a10 a11 a12 a13:OA}{r1 r2:Option Nat}{pv1:Value}
attribute [local irreducible] M1 W7 execOp Program.underlying sizeOf isAgg zeroValue

theorem sp7:∀n,Sp7 (D7 n)
 |0=>⟨(by unfold Q5s;intros;rename_i h;cases(show(none:Option _)=some _ from h)),(by unfold Q6y;intros;rename_i h;cases(show(none:Option _)=some _ from h)),(by unfold Q5t;intros;rename_i h;cases(show(none:Option _)=some _ from h)),(by unfold Q6z;intros;rename_i h;cases(show(none:Option _)=some _ from h)),(by unfold Q4c;intros;rename_i h;cases(show(none:Option _)=some _ from h)),(by unfold Q8a;intros;rename_i h;cases(show(none:Option _)=some _ from h)),(by unfold Q7b;intros;rename_i h;cases(show(none:Option _)=some _ from h)),(by unfold Q7a;intros;rename_i h;cases(show(none:Option _)=some _ from h))⟩
 |n+1=>⟨Z8x (sp7 n),Z9x (sp7 n),Z8z (sp7 n),Z9y (sp7 n),Z7s (sp7 n),Y1t (sp7 n),Y0a (sp7 n),Z9z (sp7 n)⟩
theorem Y9a:Q5s F1:=(sp7 NN).F1
theorem X0j:Q6y X2:=(sp7 NN).X2
theorem Y9b:Q5t V2:=(sp7 NN).V2
theorem X0k:Q6z E1:=(sp7 NN).E1
theorem Y8i:Q4c G6:=(sp7 NN).G6
theorem X1h:Q8a B9:=(sp7 NN).B9
theorem X0l:Q7b V5:=(sp7 NN).V5
theorem Z8y:Q7a K5:=(sp7 NN).K5

theorem X4{p0:Q6a}{p1:List Int}{p2}(hS:Sep g T0 w0 [Y7 R])(h1:Q21 a1 c1 T0 w0 p0.Globals)(h2:Q17 a2 c2 T0 w0 p0.Data)(h3:Q24 a3 c3 T0 w0 p0.Codes)(h4:SlR (J3 .u32) T0 w0 (sv a4 p1 c4) p1):∀r,C8 p0 p1 p2=some r->
 Cl 8 #[Q102 a1 a2 a3 c1 c2 c3 p0,sv a4 p1 c4,iv p2] w0 (K6 T0 w0 fun T w v=>∃a25 c25,v= .agg #[sv a25 r.Out c25,iv r.Ins,.int .u32 r.Exit,iv r.E]/\Sep g T w (R++[])/\Q13 a25 c25 T w r.Out/\True):=by
 intro r hm;refine eN Tryz.func8 Tryz.ntmps8 fun J=>?_;unfold C8 at hm;refine sq2 (bX [sv a1 p0.Globals c1,sv a2 p0.Data c2,sv a3 p0.Codes c3,iv p0.Main] hS ?_);intro _ _ _ ao;refine aL zv5 ao ?_;intro _ b2 _ ap;refine kE ?_;refine rsS [1,2,0,0,0,0,0,2,0] [0,2,3,4,5,1,6,7,8] ap fun w3 aQ aq=>?_;obtain⟨y1,au,hm⟩:=Z8 hm;refine pu ?_;refine s0 rfl qZt (fun _=>r_imx rfl rfl) rfl (s0 rfl qZt (fun _=>r_imn rfl rfl) rfl (sS [(0,.agg #[sv a1 p0.Globals c1,sv a2 p0.Data c2,sv a3 p0.Codes c3,iv p0.Main])] cf13 (Z6w (aq.bE [0,1,2] []) _ au) ?_));rintro _ _ _ _ ⟨D,_,_,c5,rfl,av,_⟩;refine pu ?_;refine s0 rfl qZt (fun _=>F0 (by kernel_rfl) rfl (u:= .agg #[sv a1 p0.Globals c1,sv a2 p0.Data c2,sv a3 p0.Codes c3,iv p0.Main,pt D 0,sv a4 p1 c4,.slice none 0 0,iv 0,.int .u32 0,iv 0,iv (min (max p2 0) 10000000),iv 0,.slice none 0 0,.int .u32 0,iv 0,iv 0,iv 0,iv 0,.bool false])) rfl (s2W [0] ?_);refine obX [sv a1 p0.Globals c1,sv a2 p0.Data c2,sv a3 p0.Codes c3,iv p0.Main,pt D 0,sv a4 p1 c4,.slice none 0 0,iv 0,.int .u32 0,iv 0,iv (min (max p2 0) 10000000),iv 0,.slice none 0 0,.int .u32 0,iv 0,iv 0,iv 0,iv 0,.bool false] av ?_;intro _ K _ aw;refine kB ?_;have ax:=aw.nilO (J3 .u32) 33;refine cB cf14 hm (Q8p (p0:=(⟨p0,y1,p1,(⟨[],0,0,0⟩:P2),min (max p2 0) 10000000,0,[],(⟨0,(⟨0,0,0,0⟩:X9),false⟩:Y1)⟩:Z1)) (ax.bE [2,3,4] [1,5,6,0]) (Q3w K) (mC h1) (mC h2) (mC h3) (Q3w D) (mC h4)) ?_;rintro y2 _ T2 w6 _ ⟨_,c6,_,c7,_,c8,_,_,c9,_,c10,rfl,ag,h5,h6,h7,h8,_⟩ hm;refine cd hm ?_ ?_<;>intro aR hm
 . refine sq2 (sT 0 ag ?_);intro _ _ aF;exact re hm (aF.sE [2])
 refine pn ?_;refine M8 hm (fun ah a U=>∃V W O ai n3 c11 ak n4 c12 aa c13 ab c14 ac c15 ad c16 ae c17,JR (nf 44) g T2 w6 a U V (ah O W=some r) [(6,pt b2 0),(7,pt K 0)] ([K0 b2 zv5,Y7 R]++J5 ({O with mem:=W}) (K0 K) (K0 D) aa c13 ab c14 ac c15 D 0 ai n3 c11 ad c16 ak n4 c12 ae c17)/\Q5 aa ab ac ad ae c13 c14 c15 c16 c17 V U O) (fun ah hm=>?_) ?_
 . refine qU ?_;refine cB cf15 hm (Z8y (p0:={y2.2 with vars:=[]}) (p1:=p0.Main) (p2:=[]) (p3:=false) (ag.bE [0,2] (Z3 3 4)) (Q3w K) h5 h6 h7 (Q3w D) h8 V0 V0) ?_;rintro _ _ _ _ _ ⟨_,c18,_,c19,_,c20,_,_,c21,_,c22,_,_,c23,_,c24,rfl,aG,_,_,_,_,_,_⟩ hm;refine aL zv6 aG ?_;intro _ _ _ aI;refine sT 0 aI ?_;intro _ _ an;refine pn ?_;refine sq2 (cd hm ?_ ?_)<;>intro aS hm
   . refine sT 3 an ?_;intro _ _ aJ;exact je hm (aJ.sN 1 6)
   exact je hm (an.sN 1 6)
 rintro _ U ⟨V,W,O,ai,n3,c11,ak,n4,c12,aa,c13,ab,c14,ac,c15,ad,c16,ae,c17,⟨J,hm,rfl,aK,_⟩,_,_,_,_,_⟩;refine sq2 (sT 0 aK ?_);intro _ _ aM;refine pn ?_;obtain⟨_,_,aN,_,rfl⟩:=aM.sl 5;exact re hm (aN.sE [1])

instance:Ct 8 @X4:=⟨@X4,cf8⟩
theorem Q3m(hS:Sep g T0 w0 [Y7 R])(hG0:Gi T0 w0 0):∀r,Q8t=some r->
 Cl 7 #[] w0 (Q25 T0 w0 g R r):=by
 intro r hm;refine eN Tryz.func7 Tryz.ntmps7 fun J=>?_;unfold Q8t at hm;refine qN ?_;refine qU ?_;refine cB cf6 hm (Q8k (hS.bE [0] []) hG0) ?_;rintro y1 _ _ _ _ ⟨a1,c1,_,c2,_,c3,rfl,bf,h1,h2,h3,_⟩ hm;refine aL zv13 bf ?_;intro _ _ _ bg;refine sT 0 bg ?_;intro _ _ bh;refine kA ?_;refine cB cf6 hm (Q8k (bh.bE [0,1] []) (hG0.mono ch)) ?_;rintro y2 _ T2 _ _ ⟨_,c4,_,c5,_,c6,rfl,bj,h4,h5,h6,_⟩ hm;refine aL zv13 bj ?_;intro _ _ _ bk;refine sT 0 bk ?_;intro w6 _ bm;refine pn ?_;refine M8 hm (fun aY a w7=>∃T3 b3 W a7 c7 b4 x2 a8 c8,JR (nf 57) g T2 w6 a w7 T3 (aY W x2=some r) [(2,.bool y1.2),(4,.bool y2.2),(5,pt b3 0),(6,pt b4 0)] [Y7 R,Q60 a7 b3 c7 W,Q60 a8 b4 c8 x2]/\Q13 a7 c7 T3 w7 W.Out/\Q13 a8 c8 T3 w7 x2.Out) (fun aY hm=>?_) ?_
 . refine rtS [1,2,2,1,2,2,2,2,2] [0,3,1,2,4,5,6,7,8] bm fun w8 bp aX=>?_;obtain⟨_,ay,hm⟩:=Z8 hm;obtain⟨_,ad,hm⟩:=Z8 hm;refine tF [1,5,6] ?_;refine⟨?_,?_,?_,qZt⟩
   . refine brW [2,4,5,6,7,8] [] ?_;refine obS (r:=(J3 .u32)) (l:=([4]:List Int)) (css:=[[.int .u32 4]]) aX ⟨rfl,qZt⟩ ?_;intro w9 a9 n1 c9 ba aF;refine pu ?_;obtain⟨T4,aU,az,h9,rfl⟩:=aF.sl 0;refine tF [2,5,6] ?_;refine⟨?_,?_,?_,qZt⟩
     . refine brW [4,5,6,7,8] [1,0] ?_;refine oS cf8 (X4 (az.bE [3,1,2] []) (mC h1) (mC h2) (mC h3) h9 _ ay) ?_;rintro _ T5 aI aJ ⟨aB,c10,rfl,ae,aC,_⟩;refine tF [4,5,6] ?_;refine⟨?_,?_,?_,qZt⟩
       . refine brW [5,6,7,8] [0] ?_;refine oS cf8 (X4 (ae.bE [0,1] []) (mC h4) (mC h5) (mC h6) V0 _ ad) ?_;rintro _ T6 av aw ⟨aq,c11,rfl,V,ar,_⟩;refine tF [5,6] ?_;refine⟨?_,?_,qZt⟩
         . refine brW [6,7,8] [] ?_;refine oaL zv5 V ?_;intro af b5 ag D;refine t1W [6] [7,8] [] ?_;refine oaL zv5 D ?_;intro ah b6 aj K;refine t1W [7] [8] [] ?_;refine osT 1 K ?_;intro ak am O;refine t1W [8] [] [] ?_;refine osT 0 O ?_;intro an ao U;refine pu ?_;exact je hm (U.sE [2,1,0])
         refine brW [5,7,8] [] ?_;refine oaL zv5 V ?_;intro af b5 ag D;refine t1W [5] [7,8] [] ?_;refine oaL zv5 D ?_;intro ah b6 aj K;refine t1W [7] [8] [] ?_;refine osT 0 K ?_;intro ak am O;refine t1W [8] [] [] ?_;refine osT 1 O ?_;intro an ao U;refine pu ?_;exact je hm (U.sE [2,0,1])
       . refine brW [4,6,7,8] [] ?_;refine oaL zv5 ae ?_;intro av b5 aw V;refine tF [4,6] ?_;refine⟨?_,?_,qZt⟩
         . refine brW [6,7,8] [0] ?_;refine oS cf8 (X4 (V.bE [0,1,2] []) (mC h4) (mC h5) (mC h6) V0 _ ad) ?_;rintro _ T6 af ag ⟨aq,c11,rfl,D,ar,_⟩;refine t1W [6] [7,8] [] ?_;refine oaL zv5 D ?_;intro ah b6 aj K;refine t1W [7] [8] [] ?_;refine osT 1 K ?_;intro ak am O;refine t1W [8] [] [] ?_;refine osT 0 O ?_;intro an ao U;refine pu ?_;exact je hm (U.sE [2,1,0])
         refine brW [4,7,8] [] ?_;refine oaL zv5 V ?_;intro af b6 ag D;refine t1W [4] [7,8] [0] ?_;refine oS cf8 (X4 (D.bE (Z3 0 4) []) (mC h4) (mC h5) (mC h6) V0 _ ad) ?_;rintro _ T6 ah aj ⟨aq,c11,rfl,K,ar,_⟩;refine t1W [7] [8] [] ?_;refine osT 1 K ?_;intro ak am O;refine t1W [8] [] [] ?_;refine osT 0 O ?_;intro an ao U;refine pu ?_;exact je hm (U.sE [2,1,0])
       refine brW [4,5,7,8] [] ?_;refine oaL zv5 ae ?_;intro av b5 aw V;refine tF [4,5] ?_;refine⟨?_,?_,qZt⟩
       . refine brW [5,7,8] [0] ?_;refine oS cf8 (X4 (V.bE [0,1,2] []) (mC h4) (mC h5) (mC h6) V0 _ ad) ?_;rintro _ T6 af ag ⟨aq,c11,rfl,D,ar,_⟩;refine t1W [5] [7,8] [] ?_;refine oaL zv5 D ?_;intro ah b6 aj K;refine t1W [7] [8] [] ?_;refine osT 0 K ?_;intro ak am O;refine t1W [8] [] [] ?_;refine osT 1 O ?_;intro an ao U;refine pu ?_;exact je hm (U.sE [2,0,1])
       refine brW [4,7,8] [] ?_;refine oaL zv5 V ?_;intro af b6 ag D;refine t1W [4] [7,8] [0] ?_;refine oS cf8 (X4 (D.bE (Z3 0 4) []) (mC h4) (mC h5) (mC h6) V0 _ ad) ?_;rintro _ T6 ah aj ⟨aq,c11,rfl,K,ar,_⟩;refine t1W [7] [8] [] ?_;refine osT 0 K ?_;intro ak am O;refine t1W [8] [] [] ?_;refine osT 1 O ?_;intro an ao U;refine pu ?_;exact je hm (U.sE [2,0,1])
     . refine brW [2,4,6,7,8] [] ?_;refine oaL zv5 az ?_;intro aI b5 aJ ae;refine tF [2,6] ?_;refine⟨?_,?_,qZt⟩
       . refine brW [4,6,7,8] [1,0] ?_;refine oS cf8 (X4 (ae.bE [0,4,2,3] []) (mC h1) (mC h2) (mC h3) (mC h9) _ ay) ?_;rintro _ T5 av aw ⟨aB,c10,rfl,V,aC,_⟩;refine tF [4,6] ?_;refine⟨?_,?_,qZt⟩
         . refine brW [6,7,8] [0] ?_;refine oS cf8 (X4 (V.bE [0,1,2] []) (mC h4) (mC h5) (mC h6) V0 _ ad) ?_;rintro _ T6 af ag ⟨aq,c11,rfl,D,ar,_⟩;refine t1W [6] [7,8] [] ?_;refine oaL zv5 D ?_;intro ah b6 aj K;refine t1W [7] [8] [] ?_;refine osT 1 K ?_;intro ak am O;refine t1W [8] [] [] ?_;refine osT 0 O ?_;intro an ao U;refine pu ?_;exact je hm (U.sE [2,1,0])
         refine brW [4,7,8] [] ?_;refine oaL zv5 V ?_;intro af b6 ag D;refine t1W [4] [7,8] [0] ?_;refine oS cf8 (X4 (D.bE (Z3 0 4) []) (mC h4) (mC h5) (mC h6) V0 _ ad) ?_;rintro _ T6 ah aj ⟨aq,c11,rfl,K,ar,_⟩;refine t1W [7] [8] [] ?_;refine osT 1 K ?_;intro ak am O;refine t1W [8] [] [] ?_;refine osT 0 O ?_;intro an ao U;refine pu ?_;exact je hm (U.sE [2,1,0])
       refine brW [2,4,7,8] [] ?_;refine oaL zv5 ae ?_;intro av b6 aw V;refine t1W [2] [4,7,8] [1,0] ?_;refine oS cf8 (X4 (V.bE [0,1,5,3,4] []) (mC h1) (mC h2) (mC h3) (mC h9) _ ay) ?_;rintro _ T5 af ag ⟨aB,c10,rfl,D,aC,_⟩;refine t1W [4] [7,8] [0] ?_;refine oS cf8 (X4 (D.bE (Z3 0 4) []) (mC h4) (mC h5) (mC h6) V0 _ ad) ?_;rintro _ T6 ah aj ⟨aq,c11,rfl,K,ar,_⟩;refine t1W [7] [8] [] ?_;refine osT 1 K ?_;intro ak am O;refine t1W [8] [] [] ?_;refine osT 0 O ?_;intro an ao U;refine pu ?_;exact je hm (U.sE [2,1,0])
     refine brW [2,4,5,7,8] [] ?_;refine oaL zv5 az ?_;intro aI b5 aJ ae;refine tF [2,5] ?_;refine⟨?_,?_,qZt⟩
     . refine brW [4,5,7,8] [1,0] ?_;refine oS cf8 (X4 (ae.bE [0,4,2,3] []) (mC h1) (mC h2) (mC h3) (mC h9) _ ay) ?_;rintro _ T5 av aw ⟨aB,c10,rfl,V,aC,_⟩;refine tF [4,5] ?_;refine⟨?_,?_,qZt⟩
       . refine brW [5,7,8] [0] ?_;refine oS cf8 (X4 (V.bE [0,1,2] []) (mC h4) (mC h5) (mC h6) V0 _ ad) ?_;rintro _ T6 af ag ⟨aq,c11,rfl,D,ar,_⟩;refine t1W [5] [7,8] [] ?_;refine oaL zv5 D ?_;intro ah b6 aj K;refine t1W [7] [8] [] ?_;refine osT 0 K ?_;intro ak am O;refine t1W [8] [] [] ?_;refine osT 1 O ?_;intro an ao U;refine pu ?_;exact je hm (U.sE [2,0,1])
       refine brW [4,7,8] [] ?_;refine oaL zv5 V ?_;intro af b6 ag D;refine t1W [4] [7,8] [0] ?_;refine oS cf8 (X4 (D.bE (Z3 0 4) []) (mC h4) (mC h5) (mC h6) V0 _ ad) ?_;rintro _ T6 ah aj ⟨aq,c11,rfl,K,ar,_⟩;refine t1W [7] [8] [] ?_;refine osT 0 K ?_;intro ak am O;refine t1W [8] [] [] ?_;refine osT 1 O ?_;intro an ao U;refine pu ?_;exact je hm (U.sE [2,0,1])
     refine brW [2,4,7,8] [] ?_;refine oaL zv5 ae ?_;intro av b6 aw V;refine t1W [2] [4,7,8] [1,0] ?_;refine oS cf8 (X4 (V.bE [0,1,5,3,4] []) (mC h1) (mC h2) (mC h3) (mC h9) _ ay) ?_;rintro _ T5 af ag ⟨aB,c10,rfl,D,aC,_⟩;refine t1W [4] [7,8] [0] ?_;refine oS cf8 (X4 (D.bE (Z3 0 4) []) (mC h4) (mC h5) (mC h6) V0 _ ad) ?_;rintro _ T6 ah aj ⟨aq,c11,rfl,K,ar,_⟩;refine t1W [7] [8] [] ?_;refine osT 0 K ?_;intro ak am O;refine t1W [8] [] [] ?_;refine osT 1 O ?_;intro an ao U;refine pu ?_;exact je hm (U.sE [2,0,1])
   . refine brW [1,2,4,6,7,8] [] ?_;refine oaL zv5 aX ?_;intro w9 b5 ba aF;refine tF [1,6] ?_;refine⟨?_,?_,qZt⟩
     . refine brW [2,4,6,7,8] [] ?_;refine obS (r:=(J3 .u32)) (l:=([4]:List Int)) (css:=[[.int .u32 4]]) aF ⟨rfl,qZt⟩ ?_;intro aI a9 n1 c9 aU az;refine pu ?_;obtain⟨T4,aJ,ae,h9,rfl⟩:=az.sl 0;refine tF [2,6] ?_;refine⟨?_,?_,qZt⟩
       . refine brW [4,6,7,8] [1,0] ?_;refine oS cf8 (X4 (ae.bE [1,4,2,3] []) (mC h1) (mC h2) (mC h3) h9 _ ay) ?_;rintro _ T5 av aw ⟨aB,c10,rfl,V,aC,_⟩;refine tF [4,6] ?_;refine⟨?_,?_,qZt⟩
         . refine brW [6,7,8] [0] ?_;refine oS cf8 (X4 (V.bE [0,1,2] []) (mC h4) (mC h5) (mC h6) V0 _ ad) ?_;rintro _ T6 af ag ⟨aq,c11,rfl,D,ar,_⟩;refine t1W [6] [7,8] [] ?_;refine oaL zv5 D ?_;intro ah b6 aj K;refine t1W [7] [8] [] ?_;refine osT 1 K ?_;intro ak am O;refine t1W [8] [] [] ?_;refine osT 0 O ?_;intro an ao U;refine pu ?_;exact je hm (U.sE [2,1,0])
         refine brW [4,7,8] [] ?_;refine oaL zv5 V ?_;intro af b6 ag D;refine t1W [4] [7,8] [0] ?_;refine oS cf8 (X4 (D.bE (Z3 0 4) []) (mC h4) (mC h5) (mC h6) V0 _ ad) ?_;rintro _ T6 ah aj ⟨aq,c11,rfl,K,ar,_⟩;refine t1W [7] [8] [] ?_;refine osT 1 K ?_;intro ak am O;refine t1W [8] [] [] ?_;refine osT 0 O ?_;intro an ao U;refine pu ?_;exact je hm (U.sE [2,1,0])
       refine brW [2,4,7,8] [] ?_;refine oaL zv5 ae ?_;intro av b6 aw V;refine t1W [2] [4,7,8] [1,0] ?_;refine oS cf8 (X4 (V.bE [0,2,5,3,4] []) (mC h1) (mC h2) (mC h3) (mC h9) _ ay) ?_;rintro _ T5 af ag ⟨aB,c10,rfl,D,aC,_⟩;refine t1W [4] [7,8] [0] ?_;refine oS cf8 (X4 (D.bE (Z3 0 4) []) (mC h4) (mC h5) (mC h6) V0 _ ad) ?_;rintro _ T6 ah aj ⟨aq,c11,rfl,K,ar,_⟩;refine t1W [7] [8] [] ?_;refine osT 1 K ?_;intro ak am O;refine t1W [8] [] [] ?_;refine osT 0 O ?_;intro an ao U;refine pu ?_;exact je hm (U.sE [2,1,0])
     refine brW [1,2,4,7,8] [] ?_;refine oaL zv5 aF ?_;intro aI b6 aU az;refine t1W [1] [2,4,7,8] [] ?_;refine obS (r:=(J3 .u32)) (l:=([4]:List Int)) (css:=[[.int .u32 4]]) az ⟨rfl,qZt⟩ ?_;intro av a9 n1 c9 aJ ae;refine pu ?_;obtain⟨T4,aw,V,h9,rfl⟩:=ae.sl 0;refine t1W [2] [4,7,8] [1,0] ?_;refine oS cf8 (X4 (V.bE [1,2,5,3,4] []) (mC h1) (mC h2) (mC h3) h9 _ ay) ?_;rintro _ T5 af ag ⟨aB,c10,rfl,D,aC,_⟩;refine t1W [4] [7,8] [0] ?_;refine oS cf8 (X4 (D.bE (Z3 0 4) []) (mC h4) (mC h5) (mC h6) V0 _ ad) ?_;rintro _ T6 ah aj ⟨aq,c11,rfl,K,ar,_⟩;refine t1W [7] [8] [] ?_;refine osT 1 K ?_;intro ak am O;refine t1W [8] [] [] ?_;refine osT 0 O ?_;intro an ao U;refine pu ?_;exact je hm (U.sE [2,1,0])
   refine brW [1,2,4,5,7,8] [] ?_;refine oaL zv5 aX ?_;intro w9 b5 ba aF;refine tF [1,5] ?_;refine⟨?_,?_,qZt⟩
   . refine brW [2,4,5,7,8] [] ?_;refine obS (r:=(J3 .u32)) (l:=([4]:List Int)) (css:=[[.int .u32 4]]) aF ⟨rfl,qZt⟩ ?_;intro aI a9 n1 c9 aU az;refine pu ?_;obtain⟨T4,aJ,ae,h9,rfl⟩:=az.sl 0;refine tF [2,5] ?_;refine⟨?_,?_,qZt⟩
     . refine brW [4,5,7,8] [1,0] ?_;refine oS cf8 (X4 (ae.bE [1,4,2,3] []) (mC h1) (mC h2) (mC h3) h9 _ ay) ?_;rintro _ T5 av aw ⟨aB,c10,rfl,V,aC,_⟩;refine tF [4,5] ?_;refine⟨?_,?_,qZt⟩
       . refine brW [5,7,8] [0] ?_;refine oS cf8 (X4 (V.bE [0,1,2] []) (mC h4) (mC h5) (mC h6) V0 _ ad) ?_;rintro _ T6 af ag ⟨aq,c11,rfl,D,ar,_⟩;refine t1W [5] [7,8] [] ?_;refine oaL zv5 D ?_;intro ah b6 aj K;refine t1W [7] [8] [] ?_;refine osT 0 K ?_;intro ak am O;refine t1W [8] [] [] ?_;refine osT 1 O ?_;intro an ao U;refine pu ?_;exact je hm (U.sE [2,0,1])
       refine brW [4,7,8] [] ?_;refine oaL zv5 V ?_;intro af b6 ag D;refine t1W [4] [7,8] [0] ?_;refine oS cf8 (X4 (D.bE (Z3 0 4) []) (mC h4) (mC h5) (mC h6) V0 _ ad) ?_;rintro _ T6 ah aj ⟨aq,c11,rfl,K,ar,_⟩;refine t1W [7] [8] [] ?_;refine osT 0 K ?_;intro ak am O;refine t1W [8] [] [] ?_;refine osT 1 O ?_;intro an ao U;refine pu ?_;exact je hm (U.sE [2,0,1])
     refine brW [2,4,7,8] [] ?_;refine oaL zv5 ae ?_;intro av b6 aw V;refine t1W [2] [4,7,8] [1,0] ?_;refine oS cf8 (X4 (V.bE [0,2,5,3,4] []) (mC h1) (mC h2) (mC h3) (mC h9) _ ay) ?_;rintro _ T5 af ag ⟨aB,c10,rfl,D,aC,_⟩;refine t1W [4] [7,8] [0] ?_;refine oS cf8 (X4 (D.bE (Z3 0 4) []) (mC h4) (mC h5) (mC h6) V0 _ ad) ?_;rintro _ T6 ah aj ⟨aq,c11,rfl,K,ar,_⟩;refine t1W [7] [8] [] ?_;refine osT 0 K ?_;intro ak am O;refine t1W [8] [] [] ?_;refine osT 1 O ?_;intro an ao U;refine pu ?_;exact je hm (U.sE [2,0,1])
   refine brW [1,2,4,7,8] [] ?_;refine oaL zv5 aF ?_;intro aI b6 aU az;refine t1W [1] [2,4,7,8] [] ?_;refine obS (r:=(J3 .u32)) (l:=([4]:List Int)) (css:=[[.int .u32 4]]) az ⟨rfl,qZt⟩ ?_;intro av a9 n1 c9 aJ ae;refine pu ?_;obtain⟨T4,aw,V,h9,rfl⟩:=ae.sl 0;refine t1W [2] [4,7,8] [1,0] ?_;refine oS cf8 (X4 (V.bE [1,2,5,3,4] []) (mC h1) (mC h2) (mC h3) h9 _ ay) ?_;rintro _ T5 af ag ⟨aB,c10,rfl,D,aC,_⟩;refine t1W [4] [7,8] [0] ?_;refine oS cf8 (X4 (D.bE (Z3 0 4) []) (mC h4) (mC h5) (mC h6) V0 _ ad) ?_;rintro _ T6 ah aj ⟨aq,c11,rfl,K,ar,_⟩;refine t1W [7] [8] [] ?_;refine osT 0 K ?_;intro ak am O;refine t1W [8] [] [] ?_;refine osT 1 O ?_;intro an ao U;refine pu ?_;exact je hm (U.sE [2,0,1])
 rintro _ w7 ⟨T3,b3,W,a7,c7,b4,x2,a8,c8,⟨J,hm,rfl,be,_⟩,_,_⟩;refine qU ?_;refine fkC (d:=23) (c:=(y1.2&&y2.2)) 2 [(5,pt b3 0),(6,pt b4 0)] rfl (fun hk=>zw y1.2 hk) fun J=>pu ?_;refine fkC (d:=29) (c:=((y1.2&&y2.2)&&((List.length W.Out:Int)==1))) 5 [(5,pt b3 0),(6,pt b4 0)] rfl (fun hk=>zw (y1.2&&y2.2) hk) fun J=>pu ?_
 rcases bc hm with⟨bn,hm⟩|⟨bn,hm⟩
 . obtain⟨u1,_,hm⟩:=Z8 hm;refine pu ?_;refine fkC (d:=41) (c:=((u1==5)&&(W.Exit==44))) 4 [(5,pt b3 0),(6,pt b4 0)] rfl (fun hk=>zw (u1==5) hk) fun J=>pu ?_;refine fkC (d:=46) (c:=(((u1==5)&&(W.Exit==44))&&(W.E==0))) 4 [(5,pt b3 0),(6,pt b4 0)] rfl (fun hk=>zw ((u1==5)&&(W.Exit==44)) hk) fun J=>pu ?_;refine fkC (d:=51) (c:=((((u1==5)&&(W.Exit==44))&&(W.E==0))&&(W.Ins==1))) 4 [(6,pt b4 0)] rfl (fun hk=>zw (((u1==5)&&(W.Exit==44))&&(W.E==0)) hk) fun J=>pu ?_;exact fkC (d:=56) (c:=(((((u1==5)&&(W.Exit==44))&&(W.E==0))&&(W.Ins==1))&&(x2.E==13))) 4 [] rfl (fun hk=>zw ((((u1==5)&&(W.Exit==44))&&(W.E==0))&&(W.Ins==1)) hk) fun J=>re hm (be.sE [0])
 refine pu ?_;exact nil (K7 [(0,.bool false)] ⟨rfl,qZt⟩ fun J=>re hm (be.sE [0]))

instance:Ct 7 @Q3m:=⟨@Q3m,cf7⟩
theorem Z1k{p0:List Int}{p1:List Int}(hS:Sep g T0 w0 [Y7 R])(h1:SlR (J3 .u32) T0 w0 (sv a1 p0 c1) p0)(h2:SlR (J3 .u32) T0 w0 (sv a2 p1 c2) p1):∀r,Z1l p0 p1=some r->
 Cl 10 #[sv a1 p0 c1,sv a2 p1 c2] w0 (Q25 T0 w0 g R r):=by
 intro r hm;refine eN Tryz.func10 Tryz.ntmps10 fun J=>?_;unfold Z1l at hm;refine qN ?_;refine sq2 (sq2 (cd hm ?_ ?_))<;>intro ae hm
 . exact sq2 (re hm (hS.sE [0]))
 refine kC ?_;refine lpJ hm (fun K O m a U=>∃V D,JR (nf 26) g T0 w0 a U V (X5 K m D=some O) [(0,sv a1 p0 c1),(1,sv a2 p1 c2),(5,iv D)] [Y7 R]) (fun _ _ h=>je h (hS.sE [0])) ?_;rintro K ac O W _ _ U ⟨V,D,J,ad,rfl,aa,_⟩;obtain⟨m1,_,rfl,hm,E⟩:=lrE ad ac;refine sq2 (sq2 (cd hm ?_ ?_))<;>intro af hm
 . refine kE ?_;refine blk (sq2 ?_);obtain⟨u1,_,hm⟩:=Z8 hm;obtain⟨_,_,hm⟩:=Z8 hm;refine rqS aa (pn ?_);intro _ _ _ ab;refine cd hm ?_ ?_<;>intro ag hm
   . refine qN ?_;have hm:=Q1b hm E W;exact re hm (ab.sE [0])
   exact lg hm E (ab.sE [0])
 have hm:=Q4m hm E W;refine pn ?_;exact sq2 (re hm (aa.sE [0]))

instance:Ct 10 @Z1k:=⟨@Z1k,cf10⟩
theorem Z0x{p0:P2}{p1:P2}(hS:Sep g T0 w0 [Y7 R])(h1:Q13 a1 c1 T0 w0 p0.Out)(h2:Q13 a2 c2 T0 w0 p1.Out):∀r,Q9i p0 p1=some r->
 Cl 9 #[.agg #[sv a1 p0.Out c1,iv p0.Ins,.int .u32 p0.Exit,iv p0.E],.agg #[sv a2 p1.Out c2,iv p1.Ins,.int .u32 p1.Exit,iv p1.E]] w0 (Q25 T0 w0 g R r):=by
 intro r hm;refine eN Tryz.func9 Tryz.ntmps9 fun J=>?_;unfold Q9i at hm;refine sq2 (bX [sv a1 p0.Out c1,iv p0.Ins,.int .u32 p0.Exit,iv p0.E] hS ?_);intro _ K _ V;refine bX [sv a2 p1.Out c2,iv p1.Ins,.int .u32 p1.Exit,iv p1.E] V ?_;intro _ O _ U;refine kA ?_
 rcases bc hm with⟨W,hm⟩|⟨W,hm⟩
 . refine pu ?_;refine cB cf10 hm (Z1k (U.bE [0,1,2] []) (mC h1) (mC h2)) ?_;rintro D _ _ _ _ ⟨rfl,aa,_⟩ hm;refine pu ?_;refine fkC (d:=25) (c:=(D&&(p0.Ins==p1.Ins))) 6 [(2,pt K 0),(3,pt O 0)] rfl (fun hk=>zw D hk) fun J=>pu ?_;refine fkC (d:=32) (c:=((D&&(p0.Ins==p1.Ins))&&(p0.Exit==p1.Exit))) 6 [(2,pt K 0),(3,pt O 0)] rfl (fun hk=>zw (D&&(p0.Ins==p1.Ins)) hk) fun J=>pu ?_;exact fkC (d:=39) (c:=(((D&&(p0.Ins==p1.Ins))&&(p0.Exit==p1.Exit))&&(p0.E==p1.E))) 6 [] rfl (fun hk=>zw ((D&&(p0.Ins==p1.Ins))&&(p0.Exit==p1.Exit)) hk) fun J=>re hm (aa.sE [2])
 exact zr hm U

instance:Ct 9 @Z0x:=⟨@Z0x,cf9⟩
end Go.Proofs.YtbfpdnogfkbiaaaGreat
