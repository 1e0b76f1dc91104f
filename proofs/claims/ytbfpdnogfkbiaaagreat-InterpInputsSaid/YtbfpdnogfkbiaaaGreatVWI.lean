/- That Go functions compute their models. Printed by gen2.py. -/
import Derived.Test.YtbfpdnogfkbiaaaGreatVW
set_option linter.unusedVariables false
namespace Go.Proofs.YtbfpdnogfkbiaaaGreat
open List renaming length → qQ
open _root_.Go.Proofs.Tryz
set_option maxRecDepth 100000
set_option maxHeartbeats 8000000
attribute [local irreducible] wpList wpQuiet Code.wp
variable{g:World}{T0:Nat->Prop}{w0:World}{R:List Y9}
variable{b1 b2 Y0 Q0f Z7g Z7f Z8d c1 c2 c3 c4 c5 c6 c7 c8 c9 c10 c11 c12 c13 n1 n2 n3 n4 n5 n6 n7 Z9 Q0e Z7a Z6z Z7p oo1 oo2:Nat}{H1 H2 Z5 L4 Z5m Z5l Z7h:List Value->Y9}{a1 a2 a3 a4 a5 a6 a7 a8 a9 a10 a11 a12 a13:OA}{r1 r2:Option Nat}{pv1:Value}
attribute [local irreducible] M1 W7 execOp Program.underlying sizeOf isAgg zeroValue

theorem Z8t{p0:List UInt8}{p1:List Int}{p2:List Int}(hS:Sep g T0 w0 [Y7 R])(h1:SlR (J3 .u32) T0 w0 (sv a1 p1 c1) p1)(h2:SlR (J3 .u32) T0 w0 (sv a2 p2 c2) p2)(hG0:Gi T0 w0 0):∀r,Q5g p0 p1 p2=some r->
 Cl 4 #[Q23 p0.toArray,sv a1 p1 c1,sv a2 p2 c2] w0 (Q25 T0 w0 g R r):=by
 intro r hm;refine eN Tryz.func4 Tryz.ntmps4 fun J=>?_;unfold Q5g at hm;refine qN ?_;refine qU ?_;refine cB cf6 hm (Q8k (hS.bE [0] []) hG0) ?_;rintro y1 _ T1 w1 im1 ⟨a3,c3,a4,c4,a5,c5,rfl,hS1,h3,h4,h5,_⟩ hm;refine aL zv13 hS1 ?_;intro w2 b1 im2 hS2;refine sT 0 hS2 ?_;intro w3 im3 hS3;refine kB ?_;refine fkC (d:=25) (c:=((!y1.2)||(decide (40<(qQ p1:Int))))) 4 [(1,sv a1 p1 c1),(2,sv a2 p2 c2),(7,pt b1 0)] rfl (fun hk=>zw (!y1.2) hk) fun J=>pu ?_;refine fkN (d:=30) (c:=(((!y1.2)||(decide (40<(qQ p1:Int))))||(decide (40<(qQ p2:Int))))) 4 [(1,sv a1 p1 c1),(2,sv a2 p2 c2),(7,pt b1 0)] rfl (fun hk=>zw ((!y1.2)||(decide (40<(qQ p1:Int)))) hk) fun J=>?_;refine cd hm ?_ ?_<;>intro hb3 hm
 . refine qU ?_;refine cB cf7 hm (Q3m (hS3.bE [1] []) (hG0.mono ch)) ?_;rintro y2 _ T2 w4 im4 ⟨rfl,hS4,_⟩ hm;exact re hm (hS4.sE [0])
 refine kA ?_;refine cB cf8 hm (X4 (hS3.bE [0,1] []) (mC h3) (mC h4) (mC h5) (mC h1)) ?_;rintro y3 _ T3 w5 im5 ⟨a6,c6,rfl,hS5,h6,_⟩ hm;refine aL zv5 hS5 ?_;intro w6 b2 im6 hS6;refine sT 0 hS6 ?_;intro w7 im7 hS7;refine kD ?_;refine sq2 (qN ?_);have hS8:=hS7.nilO (J3 .u32) 33;have hS9:=hS8.nilO (J3 .u32) 33;refine lpJ hm (fun bd1 o1 m a w8=>∃T4 x1 a7 n1 c7 x2 a8 n2 c8 x3,JR (nf 95) g T3 w7 a w8 T4 (X5 bd1 m (x1,x2,x3)=some o1) [(1,sv a1 p1 c1),(2,sv a2 p2 c2),(7,pt b1 0),(9,pt b2 0),(10,.slice a8 n2 c8),(11,.slice a7 n1 c7),(12,iv x3)] (Q29 a7 a8 a6 a3 a4 a5 n1 c7 n2 c8 b2 c6 b1 c3 c4 c5 R x1 x2 y3 y1.1)) (fun _ _ h=>je h (hS9.sN 0 5)) ?_;rintro bd1 hbd1 o1 hq1 _ _ w8 ⟨T4,x1,a7,n1,c7,x2,a8,n2,c8,x3,J,ho1,rfl,hS10,im8⟩;obtain⟨m1,z1,rfl,hm,hn1⟩:=lrE ho1 hbd1;refine sq2 (sq2 (cd hm ?_ ?_))<;>intro hb4 hm
 . refine pn ?_;refine M8 hm (fun kk1 a w9=>∃T5 x4 a9 n3 c9 x5 a10 n4 c10,JR (nf 95) g T4 w8 a w9 T5 (kk1 x4 x5=some z1) [(1,sv a1 p1 c1),(2,sv a2 p2 c2),(7,pt b1 0),(9,pt b2 0),(10,.slice a10 n4 c10),(11,.slice a9 n3 c9),(12,iv x3)] (Q29 a9 a10 a6 a3 a4 a5 n3 c9 n4 c10 b2 c6 b1 c3 c4 c5 R x4 x5 y3 y1.1)) (fun kk1 hm=>?_) ?_
   . refine blk (sq2 ?_);obtain⟨u1,hx4,hm⟩:=Z8 hm;refine bS (r:=(J3 .u32)) (l:=([u1]:List Int)) (css:=[[.int .u32 u1]]) hS10 ⟨rfl,qZt⟩ ?_;intro w10 a11 n5 c11 im10 hS11;obtain⟨z_1,hro1,hm⟩:=Z8 hm;refine aO 2 hS11 (U8 hro1) ?_;intro w11 a12 n6 c12 im11 hS12;refine pn ?_;refine sq2 (cd hm ?_ ?_)<;>intro hb5 hm
     . obtain⟨u2,hx5,hm⟩:=Z8 hm;obtain rfl:u1=u2:=oI (hx4.symm.trans hx5);refine bS (r:=(J3 .u32)) (l:=([u1]:List Int)) (css:=[[.int .u32 u1]]) hS12 ⟨rfl,qZt⟩ ?_;intro w12 a13 n7 c13 im12 hS13;obtain⟨z_2,hro2,hm⟩:=Z8 hm;refine aO 2 hS13 (U8 hro2) ?_;intro w13 a14 n8 c14 im13 hS14;exact je hm (hS14.sN 2 5)
     exact je hm (hS12.sN 1 5)
   rintro _ w9 ⟨T5,x4,a9,n3,c9,x5,a10,n4,c10,J,hm,rfl,hS15,im9⟩;exact lg hm hn1 (hS15.sN 0 5)
 have hm:=Q4m hm hn1 hq1;refine kC ?_;refine lpJ hm (fun bd1 o1 m a w14=>∃T6 x6 a15 n9 c15 x7 a16 n10 c16 x8,JR (nf 95) g T4 w8 a w14 T6 (X5 bd1 m (x6,x7,x8)=some o1) [(1,sv a1 p1 c1),(2,sv a2 p2 c2),(7,pt b1 0),(9,pt b2 0),(10,.slice a16 n10 c16),(11,.slice a15 n9 c15),(13,iv x8)] (Q29 a15 a16 a6 a3 a4 a5 n9 c15 n10 c16 b2 c6 b1 c3 c4 c5 R x6 x7 y3 y1.1)) (fun _ _ h=>je h (hS10.sN 0 5)) ?_;rintro bd1 hbd1 o1 hq1 _ _ w14 ⟨T6,x6,a15,n9,c15,x7,a16,n10,c16,x8,J,ho1,rfl,hS16,im14⟩;obtain⟨m1,z1,rfl,hm,hn1⟩:=lrE ho1 hbd1;refine sq2 (sq2 (cd hm ?_ ?_))<;>intro hb6 hm
 . refine pn ?_;refine M8 hm (fun kk2 a w15=>∃T7 x9 a17 n11 c17 x10 a18 n12 c18,JR (nf 95) g T6 w14 a w15 T7 (kk2 x9 x10=some z1) [(1,sv a1 p1 c1),(2,sv a2 p2 c2),(7,pt b1 0),(9,pt b2 0),(10,.slice a18 n12 c18),(11,.slice a17 n11 c17),(13,iv x8)] (Q29 a17 a18 a6 a3 a4 a5 n11 c17 n12 c18 b2 c6 b1 c3 c4 c5 R x9 x10 y3 y1.1)) (fun kk2 hm=>?_) ?_
   . refine blk (sq2 (bS (r:=(J3 .u32)) (l:=([0]:List Int)) (css:=[[.int .u32 0]]) hS16 ⟨rfl,qZt⟩ ?_));intro w16 a19 n13 c19 im16 hS17;obtain⟨z_3,hro3,hm⟩:=Z8 hm;refine aO 2 hS17 (U8 hro3) ?_;intro w17 a20 n14 c20 im17 hS18;refine pn ?_;refine sq2 (cd hm ?_ ?_)<;>intro hb7 hm
     . obtain⟨u3,hx6,hm⟩:=Z8 hm;refine bS (r:=(J3 .u32)) (l:=([u3]:List Int)) (css:=[[.int .u32 u3]]) hS18 ⟨rfl,qZt⟩ ?_;intro w18 a21 n15 c21 im18 hS19;obtain⟨z_4,hro4,hm⟩:=Z8 hm;refine aO 2 hS19 (U8 hro4) ?_;intro w19 a22 n16 c22 im19 hS20;exact je hm (hS20.sN 2 5)
     exact je hm (hS18.sN 1 5)
   rintro _ w15 ⟨T7,x9,a17,n11,c17,x10,a18,n12,c18,J,hm,rfl,hS21,im15⟩;exact lg hm hn1 (hS21.sN 0 5)
 have hm:=Q4m hm hn1 hq1;refine kE ?_;refine rsS [2,0,1,1,0,2,2,0,0,1,1,0,2,2,0,0] [0,1,2,3,4,5,6,7,8,9,10,11,12,13,14,15] hS16 fun w20 im20 hS22=>?_;obtain⟨y4,hx7,hm⟩:=Z8 hm;refine sS [] cf7 (Q3m (hS22.bE (Z3 0 5) []) (hG0.mono ch) _ hx7) ?_;rintro _ T8 w21 im21 ⟨rfl,hS23,_⟩;refine pu ?_
 rcases bc hm with⟨hb8,hm⟩|⟨hb8,hm⟩
 . refine pu ?_;obtain⟨T9,im22,hS24,h7,rfl⟩:=hS23.sl 1;obtain⟨y5,hx8,hm⟩:=Z8 hm;refine sS [(2,.agg #[sv a6 y3.Out c6,iv y3.Ins,.int .u32 y3.Exit,iv y3.E])] cf8 (X4 (hS24.bE [0,2,3,4] []) (mC h3) (mC h4) (mC h5) h7 _ hx8) ?_;rintro _ T10 w22 im23 ⟨a23,c23,rfl,hS25,h8,_⟩;refine pu ?_;obtain⟨y6,hx9,hm⟩:=Z8 hm;refine sS [] cf9 (Z0x (hS25.bE (Z3 0 4) []) (mC h6) h8 _ hx9) ?_;rintro _ T11 w23 im24 ⟨rfl,hS26,_⟩;refine pu ?_
   rcases bc hm with⟨hb9,hm⟩|⟨hb9,hm⟩
   . refine pu ?_;obtain⟨T12,im25,hS27,h9,rfl⟩:=hS26.sl 0;obtain⟨y7,hx10,hm⟩:=Z8 hm;refine sS [(9,.agg #[sv a6 y3.Out c6,iv y3.Ins,.int .u32 y3.Exit,iv y3.E])] cf8 (X4 (hS27.bE [3,2,1] []) (mC h3) (mC h4) (mC h5) h9 _ hx10) ?_;rintro _ T13 w24 im26 ⟨a24,c24,rfl,hS28,h10,_⟩;refine pu ?_;obtain⟨y8,hx11,hm⟩:=Z8 hm;refine sS [] cf9 (Z0x (hS28.bE [0,2] []) (mC h6) h10 _ hx11) ?_;rintro _ T14 w25 im27 ⟨rfl,hS29,_⟩;refine pu ?_;exact se (K7 [(6,.bool y8)] ⟨rfl,qZt⟩ fun J=>re hm (hS29.sE [0]))
   refine pu ?_;exact se (K7 [(6,.bool false)] ⟨rfl,qZt⟩ fun J=>re hm (hS26.sE [3]))
 refine pu ?_;exact se (K7 [(6,.bool false)] ⟨rfl,qZt⟩ fun J=>re hm (hS23.sE [4]))
end Go.Proofs.YtbfpdnogfkbiaaaGreat
