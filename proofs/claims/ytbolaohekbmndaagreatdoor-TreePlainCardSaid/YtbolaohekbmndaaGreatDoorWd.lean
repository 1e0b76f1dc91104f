/- That Go functions compute their models. Printed by gen2.py. -/
import Derived.Test.YtbolaohekbmndaaGreatDoorWc
set_option linter.unusedVariables false
namespace Go.Proofs.YtbolaohekbmndaaGreatDoor
open _root_.Go.Proofs.Tryz
set_option maxRecDepth 100000
set_option maxHeartbeats 8000000
attribute [local irreducible] wpList wpQuiet Code.wp
variable {g:World} {T0:Nat→Prop} {w0:World} {R:J7}

theorem I2 {p0:Q5} {X4 X2:Nat} {Q2:List Value→J7} {a1:OA} {n1:Nat} {c1:Nat} {p1:J8} {a2:OA} {c2:Nat} {a3:OA} {c3:Nat} {r:Q5} (hS:Sep g T0 w0 [R,Q2 [.slice a1 n1 c1],G3 G9 9 (.slice a1 n1 c1) p0.l]) (Q3:Ln X4 X2 Q2) (h1:SlR (Q0m .u32) T0 w0 (sv a2 p1.Dims c2) p1.Dims) (h2:SlR X0 T0 w0 (sv a3 p1.Init c3) p1.Init) (hG1:Gc T0 w0 1 (Lib.pow10Tab.map fun z=>Value.int .u64 z)) (hm:U7 p0 p1=some r) :
    Calls Tryz.prog 23 #[pt X4 X2,.agg (N1 p1 a2 c2 a3 c3).toArray] w0 (E6 T0 w0 fun T w v => ∃(a21:OA) (n19:Nat) (c21:Nat),v = .tuple #[]∧Sep g T w [R,Q2 [.slice a21 n19 c21],G3 G9 9 (.slice a21 n19 c21) r.l]∧True):=by
  refine enter (args := [pt X4 X2,.agg (N1 p1 a2 c2 a3 c3).toArray]) Tryz.func23 rfl Tryz.ntmps23 rfl fun J => ?_
  unfold U7 at hm
  refine sq2 (rg (wl rfl (bxS (cs:=(N1 p1 a2 c2 a3 c3)) rfl rfl hS fun w1 b1 im1 hS1 => ?_)))
  refine nil (Q0 ?_)
  refine sq2 ?_
  obtain⟨y1,hx1,hm⟩:=Q4 hm
  refine rg (pv (Z9 rfl) (pv (Z1 rfl underlying58 rfl sizeOf54 rfl) (pv (Z5 rfl isAgg54 sizeOf54 rfl (hS1.cells0 (i:=0) ⟨rfl,rfl⟩ (o:=2) rfl) (cs:=(U3 p1.Type_))) (wl rfl (Z7 cf24 rfl (S3 (p0:=p0) (Q2:=Q2) (p1:=p1.Type_) (hS1.bun [0,1] [2,3] rfl) Q3 hx1) rfl fun v1 T1 w2 im2 rv1 => ?_)))))
  obtain⟨a4,n2,c4,rfl,hS2,_⟩:=rv1
  have hS2:=hS2.unb
  refine nil (Q0 ?_)
  refine sq2 (rg (pv (Z9 rfl) (pv (Z1 rfl underlying58 rfl sizeOf9 rfl) (pv (Z4 rfl isAgg9 (hS2.cell0 (i:=0) ⟨rfl,rfl⟩ (j:=5) rfl)) (wl rfl (bsS (r:=G9) (l:=([p1.Name]:List (List UInt8))) (css := [[qZs p1.Name]]) hS2 underlying74 sizeOf9 zeroValue9 rfl rfl (by kernel_rfl) rfl ⟨rfl,qZt⟩ rfl rfl fun w3 a5 n3 c5 im3 hS3 => ?_))))))
  obtain⟨T2,im4,hS4,h3⟩:=hS3.seal 0 ⟨rfl,rfl⟩
  have hsh:=h3.len
  subst hsh
  obtain⟨y2,hx2,hm⟩:=Q4 hm
  refine wl rfl (Z7 I6 rfl (Z2 (p0:=y1) (Q2:=Q2) (p1:=([p1.Name]:List (List UInt8))) (hS4.bun [1,2] [3,4] rfl) Q3 h3 hx2) rfl fun v2 T3 w4 im5 rv2 => ?_)
  obtain⟨a6,n4,c6,rfl,hS5,_⟩:=rv2
  have hS5:=hS5.unb
  refine nil (Q0 ?_)
  refine sq2 (sq2 (rg (pv (Z1 rfl underlying58 rfl sizeOf55 rfl) (pv (Z4 rfl isAgg55 (hS5.cell0 (i:=0) ⟨rfl,rfl⟩ (j:=6) rfl)) (pv (L3 rfl underlying55) (pv (U1 rfl) (nil (Q0 ?_))))))))
  obtain⟨o1,ho1,hq1⟩:=Q4 hm
  obtain⟨bd1,hbd1,ho1⟩:=K3 ho1
  refine blk (wp_loop_ghost (fun m a w5 => ∃(J:JV) (T4:TP) (x3:Q5) (a7:OA) (n5:Nat) (c7:Nat) (x2:Int),a=env (nf 53) J [(0,pt X4 X2),(3,pt b1 0),(16,sv a2 p1.Dims c2),(17,iv (List.length p1.Dims:Int)),(18,iv x2)]∧Im T3 w4 T4 w5∧Sep g T4 w5 [J6 b1 (N1 p1 a2 c2 a3 c3),R,Q2 [.slice a7 n5 c7],G3 G9 9 (.slice a7 n5 c7) x3.l]∧V7 bd1 m (x2,x3)=some o1) NN ⟨_,_,y2,_,_,_,0,Q7 ⟨rfl,rfl,rfl,rfl,rfl,qZt⟩,Im.refl,hS5.sel [0,1,2,3] rfl,ho1⟩ ?_)
  rintro m _ w5 ⟨J,T4,x3,a7,n5,c7,x2,rfl,im6,hS6,ho1⟩
  obtain⟨m1,z1,rfl,hm,hn1⟩:=U4 ho1
  rw [hbd1] at hm
  refine sq2 (rg (pv (X7 rfl rfl rfl) (nil (Q0 ?_))))
  refine sq2 (cnd rfl (fun hb1 => ?_) (fun hb1 => ?_))
  · have hm:=V8 hb1 hm
    refine skp (Q0 ?_)
    refine sq2 (blk (sq2 ?_))
    obtain⟨u1,hx3,hm⟩:=Q4 hm
    obtain⟨b2,of1,cs1,k1,cp1,hv1,hp1,hl1,he1,hr1,hc1,hT1⟩:=(h1.mono (iT im1 (iT im2 (iT im3 (iT im4 (iT im5 im6)))))).ixT hx3 rfl
    cases hr1
    refine rg (pv (B2 hv1 rfl underlying55 sizeOf87 hp1 hl1 he1) (pv (Z4 rfl isAgg87 (hc1.get (j:=0) rfl)) (pv (J0 rfl) (nil (Q0 ?_)))))
    refine sq2 (rg (pv (Z9 rfl) (wl rfl (bsS (r:=G9) (l:=([([91]:List UInt8)]:List (List UInt8))) (css := [[qZs [91]]]) hS6 underlying74 sizeOf9 zeroValue9 rfl rfl (by kernel_rfl) rfl ⟨rfl,qZt⟩ rfl rfl fun w6 a8 n6 c8 im7 hS7 => ?_))))
    obtain⟨T5,im8,hS8,h4⟩:=hS7.seal 0 ⟨rfl,rfl⟩
    have hsh:=h4.len
    subst hsh
    obtain⟨y3,hx4,hm⟩:=Q4 hm
    refine wl rfl (Z7 I6 rfl (Z2 (p0:=x3) (Q2:=Q2) (p1:=([([91]:List UInt8)]:List (List UInt8))) (hS8.bun [1,2] [3,4] rfl) Q3 h4 hx4) rfl fun v3 T6 w7 im9 rv3 => ?_)
    obtain⟨a9,n7,c9,rfl,hS9,_⟩:=rv3
    have hS9:=hS9.unb
    refine nil (Q0 ?_)
    refine sq2 ?_
    obtain⟨y4,hx5,hm⟩:=Q4 hm
    refine rg (pv (Z9 rfl) (pv (U1 rfl) (wl rfl (Z7 cf42 rfl (Q0c (p0:=y3) (Q2:=Q2) (p1:=u1) (hS9.bun [0,1] [2,3] rfl) Q3 (hG1.mono (iT im1 (iT im2 (iT im3 (iT im4 (iT im5 (iT im6 (iT im7 (iT im8 im9))))))))) hx5) rfl fun v4 T7 w8 im10 rv4 => ?_))))
    obtain⟨a10,n8,c10,rfl,hS10,_⟩:=rv4
    have hS10:=hS10.unb
    refine nil (Q0 ?_)
    refine rg (pv (Z9 rfl) (wl rfl (bsS (r:=G9) (l:=([([93]:List UInt8)]:List (List UInt8))) (css := [[qZs [93]]]) hS10 underlying74 sizeOf9 zeroValue9 rfl rfl (by kernel_rfl) rfl ⟨rfl,qZt⟩ rfl rfl fun w9 a11 n9 c11 im11 hS11 => ?_)))
    obtain⟨T8,im12,hS12,h5⟩:=hS11.seal 0 ⟨rfl,rfl⟩
    have hsh:=h5.len
    subst hsh
    obtain⟨y5,hx6,hm⟩:=Q4 hm
    refine wl rfl (Z7 I6 rfl (Z2 (p0:=y4) (Q2:=Q2) (p1:=([([93]:List UInt8)]:List (List UInt8))) (hS12.bun [1,2] [3,4] rfl) Q3 h5 hx6) rfl fun v5 T9 w10 im13 rv5 => ?_)
    obtain⟨a12,n10,c12,rfl,hS13,_⟩:=rv5
    have hS13:=hS13.unb
    refine nil (U6 (Q0 ?_))
    cases oI hm
    exact rg (pv (X7 rfl rfl rfl) (pv (U1 rfl) (nil (Q0 ⟨m1,Nat.lt_succ_self _,_,_,y5,_,_,_,(IntKind.wrap .i64 (x2+1)),Q7 ⟨rfl,rfl,rfl,rfl,rfl,qZt⟩,(iT im6 (iT im7 (iT im8 (iT im9 (iT im10 (iT im11 (iT im12 im13))))))),hS13.sel [0,1,2,3] rfl,hn1⟩))))
  have hm:=X3 hb1 hm
  cases oI hm
  have hn1:_=Lp.brk _:=hn1
  subst hn1
  have hm:=F1 hq1
  refine xt (V9 (V9 (L5 (Q0 ?_))))
  refine sq2 (sq2 (rg (pv (Z1 rfl underlying58 rfl sizeOf56 rfl) (pv (Z4 rfl isAgg56 (hS6.cell0 (i:=0) ⟨rfl,rfl⟩ (j:=7) rfl)) (pv (L3 rfl underlying56) (pv (X7 rfl rfl rfl) (nil (Q0 ?_))))))))
  refine V3 rfl hm (fun hb2 hm => ?_) fun hb2 hm => ?_
  · cases oI hm
    exact rtn (Q6 (ret0 rfl ⟨_,rfl,_,(iT im1 (iT im2 (iT im3 (iT im4 (iT im5 im6))))),⟨_,_,_,rfl,hS6.sel [1,2,3] rfl,qZt⟩⟩))
  refine skp (Q0 ?_)
  refine sq2 (rg (pv (Z9 rfl) (wl rfl (bsS (r:=G9) (l:=([([61]:List UInt8)]:List (List UInt8))) (css := [[qZs [61]]]) hS6 underlying74 sizeOf9 zeroValue9 rfl rfl (by kernel_rfl) rfl ⟨rfl,qZt⟩ rfl rfl fun w11 a13 n11 c13 im14 hS14 => ?_))))
  obtain⟨T10,im15,hS15,h6⟩:=hS14.seal 0 ⟨rfl,rfl⟩
  have hsh:=h6.len
  subst hsh
  obtain⟨y6,hx7,hm⟩:=Q4 hm
  refine wl rfl (Z7 I6 rfl (Z2 (p0:=x3) (Q2:=Q2) (p1:=([([61]:List UInt8)]:List (List UInt8))) (hS15.bun [1,2] [3,4] rfl) Q3 h6 hx7) rfl fun v6 T11 w12 im16 rv6 => ?_)
  obtain⟨a14,n12,c14,rfl,hS16,_⟩:=rv6
  have hS16:=hS16.unb
  refine nil (Q0 ?_)
  obtain⟨kk1,hkk1,hm⟩:=F6 hm
  refine cut (fun a w13 => ∃(J:JV) (T12:TP) (x5:Q5) (a15:OA) (n13:Nat) (c15:Nat),a=env (nf 53) J [(0,pt X4 X2),(3,pt b1 0)]∧Im T11 w12 T12 w13∧Sep g T12 w13 [J6 b1 (N1 p1 a2 c2 a3 c3),R,Q2 [.slice a15 n13 c15],G3 G9 9 (.slice a15 n13 c15) x5.l]∧kk1 x5=some r) ?_ ?_
  · refine sq2 (rg (pv (Z1 rfl underlying58 rfl sizeOf4 rfl) (pv (Z4 rfl isAgg4 (hS16.cell0 (i:=0) ⟨rfl,rfl⟩ (j:=8) rfl)) (nil (Q0 ?_)))))
    refine V3 rfl hm (fun hb3 hm => ?_) fun hb3 hm => ?_
    · refine rg (pv (Z9 rfl) (wl rfl (bsS (r:=G9) (l:=([([123]:List UInt8)]:List (List UInt8))) (css := [[qZs [123]]]) hS16 underlying74 sizeOf9 zeroValue9 rfl rfl (by kernel_rfl) rfl ⟨rfl,qZt⟩ rfl rfl fun w14 a16 n14 c16 im18 hS17 => ?_)))
      obtain⟨T13,im19,hS18,h7⟩:=hS17.seal 0 ⟨rfl,rfl⟩
      have hsh:=h7.len
      subst hsh
      obtain⟨y7,hx8,hm⟩:=Q4 hm
      refine wl rfl (Z7 I6 rfl (Z2 (p0:=y6) (Q2:=Q2) (p1:=([([123]:List UInt8)]:List (List UInt8))) (hS18.bun [1,2] [3,4] rfl) Q3 h7 hx8) rfl fun v7 T14 w15 im20 rv7 => ?_)
      obtain⟨a17,n15,c17,rfl,hS19,_⟩:=rv7
      have hS19:=hS19.unb
      exact nil (Q0 ⟨_,_,y7,_,_,_,Q7 ⟨rfl,rfl,qZt⟩,(iT im18 (iT im19 im20)),hS19.sel [0,1,2,3] rfl,hm⟩)
    exact skp (Q0 ⟨_,_,y6,_,_,_,Q7 ⟨rfl,rfl,qZt⟩,Im.refl,hS16.sel [0,1,2,3] rfl,hm⟩)
  rintro _ w13 ⟨J,T12,x5,a15,n13,c15,rfl,im17,hS20,hm⟩
  rw [hkk1] at hm
  refine sq2 ?_
  obtain⟨y8,hx9,hm⟩:=Q4 hm
  refine rg (pv (Z9 rfl) (pv (Z1 rfl underlying58 rfl sizeOf56 rfl) (pv (Z4 rfl isAgg56 (hS20.cell0 (i:=0) ⟨rfl,rfl⟩ (j:=7) rfl)) (wl rfl (Z7 cf43 rfl (H0 (p0:=x5) (Q2:=Q2) (p1:=p1.Init) (hS20.bun [0,1] [2,3] rfl) Q3 (h2.mono (iT im1 (iT im2 (iT im3 (iT im4 (iT im5 (iT im6 (iT im14 (iT im15 (iT im16 im17)))))))))) (hG1.mono (iT im1 (iT im2 (iT im3 (iT im4 (iT im5 (iT im6 (iT im14 (iT im15 (iT im16 im17)))))))))) hx9) rfl fun v8 T15 w16 im21 rv8 => ?_)))))
  obtain⟨a18,n16,c18,rfl,hS21,_⟩:=rv8
  have hS21:=hS21.unb
  refine nil (Q0 ?_)
  refine sq2 (rg (pv (Z1 rfl underlying58 rfl sizeOf4 rfl) (pv (Z4 rfl isAgg4 (hS21.cell0 (i:=0) ⟨rfl,rfl⟩ (j:=8) rfl)) (nil (Q0 ?_)))))
  refine V3 rfl hm (fun hb4 hm => ?_) fun hb4 hm => ?_
  · refine rg (pv (Z9 rfl) (wl rfl (bsS (r:=G9) (l:=([([125]:List UInt8)]:List (List UInt8))) (css := [[qZs [125]]]) hS21 underlying74 sizeOf9 zeroValue9 rfl rfl (by kernel_rfl) rfl ⟨rfl,qZt⟩ rfl rfl fun w17 a19 n17 c19 im22 hS22 => ?_)))
    obtain⟨T16,im23,hS23,h8⟩:=hS22.seal 0 ⟨rfl,rfl⟩
    have hsh:=h8.len
    subst hsh
    obtain⟨y9,hx10,hm⟩:=Q4 hm
    refine wl rfl (Z7 I6 rfl (Z2 (p0:=y8) (Q2:=Q2) (p1:=([([125]:List UInt8)]:List (List UInt8))) (hS23.bun [2] [3,4] rfl) Q3 h8 hx10) rfl fun v9 T17 w18 im24 rv9 => ?_)
    obtain⟨a20,n18,c20,rfl,hS24,_⟩:=rv9
    have hS24:=hS24.unb
    cases oI hm
    exact nil (S7 rfl ⟨_,rfl,_,(iT im1 (iT im2 (iT im3 (iT im4 (iT im5 (iT im6 (iT im14 (iT im15 (iT im16 (iT im17 (iT im21 (iT im22 (iT im23 im24))))))))))))),⟨_,_,_,rfl,hS24.sel [0,1,2] rfl,qZt⟩⟩)
  cases oI hm
  exact skp (S7 rfl ⟨_,rfl,_,(iT im1 (iT im2 (iT im3 (iT im4 (iT im5 (iT im6 (iT im14 (iT im15 (iT im16 (iT im17 im21)))))))))),⟨_,_,_,rfl,hS21.sel [1,2,3] rfl,qZt⟩⟩)

theorem O7 {p0:Q5} {X4 X2:Nat} {Q2:List Value→J7} {a1:OA} {n1:Nat} {c1:Nat} {p1:List UInt8} {p2:List Z6} {a2:OA} {c2:Nat} {r:Q5} (hS:Sep g T0 w0 [R,Q2 [.slice a1 n1 c1],G3 G9 9 (.slice a1 n1 c1) p0.l]) (Q3:Ln X4 X2 Q2) (h1:SlR X0 T0 w0 (sv a2 p2 c2) p2) (hG1:Gc T0 w0 1 (Lib.pow10Tab.map fun z=>Value.int .u64 z)) (hm:D6 p0 p1 p2=some r) :
    Calls Tryz.prog 73 #[pt X4 X2,qZs p1,sv a2 p2 c2] w0 (E6 T0 w0 fun T w v => ∃(a8:OA) (n7:Nat) (c8:Nat),v = .tuple #[]∧Sep g T w [R,Q2 [.slice a8 n7 c8],G3 G9 9 (.slice a8 n7 c8) r.l]∧True):=by
  refine enter (args := [pt X4 X2,qZs p1,sv a2 p2 c2]) Tryz.func73 rfl Tryz.ntmps73 rfl fun J => ?_
  unfold D6 at hm
  refine sq2 (rg (pv (Z9 rfl) (pv (P2 rfl) (wl rfl (bsS (r:=G9) (l:=([p1,([40]:List UInt8)]:List (List UInt8))) (css := [[qZs p1],[qZs [40]]]) hS underlying74 sizeOf9 zeroValue9 rfl rfl (by kernel_rfl) rfl ⟨rfl,rfl,qZt⟩ rfl rfl fun w1 a3 n2 c3 im1 hS1 => ?_)))))
  obtain⟨T1,im2,hS2,h2⟩:=hS1.seal 0 ⟨rfl,rfl⟩
  have hsh:=h2.len
  subst hsh
  obtain⟨y1,hx1,hm⟩:=Q4 hm
  refine wl rfl (Z7 I6 rfl (Z2 (p0:=p0) (Q2:=Q2) (p1:=([p1,([40]:List UInt8)]:List (List UInt8))) (hS2.bun [1] [2,3] rfl) Q3 h2 hx1) rfl fun v1 T2 w2 im3 rv1 => ?_)
  obtain⟨a4,n3,c4,rfl,hS3,_⟩:=rv1
  have hS3:=hS3.unb
  refine nil (Q0 ?_)
  refine sq2 ?_
  obtain⟨y2,hx2,hm⟩:=Q4 hm
  refine rg (pv (Z9 rfl) (pv (N2 rfl) (wl rfl (Z7 cf43 rfl (H0 (p0:=y1) (Q2:=Q2) (p1:=p2) (hS3.bun [0] [1,2] rfl) Q3 (h1.mono (iT im1 (iT im2 im3))) (hG1.mono (iT im1 (iT im2 im3))) hx2) rfl fun v2 T3 w3 im4 rv2 => ?_))))
  obtain⟨a5,n4,c5,rfl,hS4,_⟩:=rv2
  have hS4:=hS4.unb
  refine nil (Q0 ?_)
  refine rg (pv (Z9 rfl) (wl rfl (bsS (r:=G9) (l:=([([41]:List UInt8)]:List (List UInt8))) (css := [[qZs [41]]]) hS4 underlying74 sizeOf9 zeroValue9 rfl rfl (by kernel_rfl) rfl ⟨rfl,qZt⟩ rfl rfl fun w4 a6 n5 c6 im5 hS5 => ?_)))
  obtain⟨T4,im6,hS6,h3⟩:=hS5.seal 0 ⟨rfl,rfl⟩
  have hsh:=h3.len
  subst hsh
  obtain⟨y3,hx3,hm⟩:=Q4 hm
  refine wl rfl (Z7 I6 rfl (Z2 (p0:=y2) (Q2:=Q2) (p1:=([([41]:List UInt8)]:List (List UInt8))) (hS6.bun [1] [2,3] rfl) Q3 h3 hx3) rfl fun v3 T5 w5 im7 rv3 => ?_)
  obtain⟨a7,n6,c7,rfl,hS7,_⟩:=rv3
  have hS7:=hS7.unb
  cases oI hm
  exact nil (S7 rfl ⟨_,rfl,_,(iT im1 (iT im2 (iT im3 (iT im4 (iT im5 (iT im6 im7)))))),⟨_,_,_,rfl,hS7.sel [0,1,2] rfl,qZt⟩⟩)

theorem Q6f {p0:Q5} {X4 X2:Nat} {Q2:List Value→J7} {a1:OA} {n1:Nat} {c1:Nat} {p1:U5} {a2:OA} {c2:Nat} {a3:OA} {c3:Nat} {a4:OA} {c4:Nat} {a5:OA} {c5:Nat} {a6:OA} {c6:Nat} {a7:OA} {c7:Nat} {a8:OA} {c8:Nat} {r:Q5} (hS:Sep g T0 w0 [R,Q2 [.slice a1 n1 c1],G3 G9 9 (.slice a1 n1 c1) p0.l]) (Q3:Ln X4 X2 Q2) (h1:SlR X0 T0 w0 (sv a2 p1.A c2) p1.A) (h2:SlR X0 T0 w0 (sv a3 p1.B c3) p1.B) (h3:SlR X0 T0 w0 (sv a4 p1.C c4) p1.C) (h4:SlR G7 T0 w0 (sv a5 p1.Var c5) p1.Var) (h5:SlR E1 T0 w0 (sv a6 p1.Body c6) p1.Body) (h6:SlR E1 T0 w0 (sv a7 p1.Else c7) p1.Else) (h7:SlR C0 T0 w0 (sv a8 p1.Cases c8) p1.Cases) (hG1:Gc T0 w0 1 (Lib.pow10Tab.map fun z=>Value.int .u64 z)) (hm:M9 p0 p1=some r) :
    Calls Tryz.prog 75 #[pt X4 X2,.agg (B4 p1 a2 c2 a3 c3 a4 c4 a5 c5 a6 c6 a7 c7 a8 c8).toArray] w0 (E6 T0 w0 fun T w v => ∃(a19:OA) (n12:Nat) (c19:Nat),v = .tuple #[]∧Sep g T w [R,Q2 [.slice a19 n12 c19],G3 G9 9 (.slice a19 n12 c19) r.l]∧True):=by
  refine enter (args := [pt X4 X2,.agg (B4 p1 a2 c2 a3 c3 a4 c4 a5 c5 a6 c6 a7 c7 a8 c8).toArray]) Tryz.func75 rfl Tryz.ntmps75 rfl fun J => ?_
  unfold M9 at hm
  refine sq2 (rg (wl rfl (bxS (cs:=(B4 p1 a2 c2 a3 c3 a4 c4 a5 c5 a6 c6 a7 c7 a8 c8)) rfl rfl hS fun w1 b1 im1 hS1 => ?_)))
  refine nil (Q0 ?_)
  obtain⟨kk1,hkk1,hm⟩:=F6 hm
  refine cut (fun a w2 => ∃(J:JV) (T1:TP) (x2:Q5) (a9:OA) (n2:Nat) (c9:Nat),a=env (nf 28) J [(0,pt X4 X2),(3,pt b1 0)]∧Im T0 w1 T1 w2∧Sep g T1 w2 [J6 b1 (B4 p1 a2 c2 a3 c3 a4 c4 a5 c5 a6 c6 a7 c7 a8 c8),R,Q2 [.slice a9 n2 c9],G3 G9 9 (.slice a9 n2 c9) x2.l]∧kk1 x2=some r) ?_ ?_
  · refine sq2 (rg (pv (Z1 rfl underlying68 rfl sizeOf3 rfl) (pv (Z4 rfl isAgg3 (hS1.cell0 (i:=0) ⟨rfl,rfl⟩ (j:=0) rfl)) (nil (Q0 ?_)))))
    refine blk (sq2 (rg (pv (X7 rfl rfl rfl) (pv (X5 rfl) (nil (Q0 ?_))))))
    refine V3 rfl hm (fun hb1 hm => ?_) fun hb1 hm => ?_
    · refine rg (pv (Z9 rfl) (wl rfl (bsS (r:=G9) (l:=([([114,101,116,117,114,110]:List UInt8)]:List (List UInt8))) (css := [[qZs [114,101,116,117,114,110]]]) hS1 underlying74 sizeOf9 zeroValue9 rfl rfl (by kernel_rfl) rfl ⟨rfl,qZt⟩ rfl rfl fun w3 a10 n3 c10 im3 hS2 => ?_)))
      obtain⟨T2,im4,hS3,h8⟩:=hS2.seal 0 ⟨rfl,rfl⟩
      have hsh:=h8.len
      subst hsh
      obtain⟨y1,hx1,hm⟩:=Q4 hm
      refine wl rfl (Z7 I6 rfl (Z2 (p0:=p0) (Q2:=Q2) (p1:=([([114,101,116,117,114,110]:List UInt8)]:List (List UInt8))) (hS3.bun [1,2] [3,4] rfl) Q3 h8 hx1) rfl fun v1 T3 w4 im5 rv1 => ?_)
      obtain⟨a11,n4,c11,rfl,hS4,_⟩:=rv1
      have hS4:=hS4.unb
      exact nil (U6 (Q0 ⟨_,_,y1,_,_,_,Q7 ⟨rfl,rfl,qZt⟩,(iT im3 (iT im4 im5)),hS4.sel [0,1,2,3] rfl,hm⟩))
    refine sq2 (rg (pv (X7 rfl rfl rfl) (pv (X5 rfl) (nil (Q0 ?_)))))
    refine V3 rfl hm (fun hb2 hm => ?_) fun hb2 hm => ?_
    · refine rg (pv (Z9 rfl) (wl rfl (bsS (r:=G9) (l:=([([98,114,101,97,107]:List UInt8)]:List (List UInt8))) (css := [[qZs [98,114,101,97,107]]]) hS1 underlying74 sizeOf9 zeroValue9 rfl rfl (by kernel_rfl) rfl ⟨rfl,qZt⟩ rfl rfl fun w5 a12 n5 c12 im6 hS5 => ?_)))
      obtain⟨T4,im7,hS6,h9⟩:=hS5.seal 0 ⟨rfl,rfl⟩
      have hsh:=h9.len
      subst hsh
      obtain⟨y2,hx2,hm⟩:=Q4 hm
      refine wl rfl (Z7 I6 rfl (Z2 (p0:=p0) (Q2:=Q2) (p1:=([([98,114,101,97,107]:List UInt8)]:List (List UInt8))) (hS6.bun [1,2] [3,4] rfl) Q3 h9 hx2) rfl fun v2 T5 w6 im8 rv2 => ?_)
      obtain⟨a13,n6,c13,rfl,hS7,_⟩:=rv2
      have hS7:=hS7.unb
      exact nil (U6 (Q0 ⟨_,_,y2,_,_,_,Q7 ⟨rfl,rfl,qZt⟩,(iT im6 (iT im7 im8)),hS7.sel [0,1,2,3] rfl,hm⟩))
    refine sq2 (rg (pv (X7 rfl rfl rfl) (pv (X5 rfl) (nil (Q0 ?_)))))
    refine V3 rfl hm (fun hb3 hm => ?_) fun hb3 hm => ?_
    · refine rg (pv (Z9 rfl) (wl rfl (bsS (r:=G9) (l:=([([99,111,110,116,105,110,117,101]:List UInt8)]:List (List UInt8))) (css := [[qZs [99,111,110,116,105,110,117,101]]]) hS1 underlying74 sizeOf9 zeroValue9 rfl rfl (by kernel_rfl) rfl ⟨rfl,qZt⟩ rfl rfl fun w7 a14 n7 c14 im9 hS8 => ?_)))
      obtain⟨T6,im10,hS9,h10⟩:=hS8.seal 0 ⟨rfl,rfl⟩
      have hsh:=h10.len
      subst hsh
      obtain⟨y3,hx3,hm⟩:=Q4 hm
      refine wl rfl (Z7 I6 rfl (Z2 (p0:=p0) (Q2:=Q2) (p1:=([([99,111,110,116,105,110,117,101]:List UInt8)]:List (List UInt8))) (hS9.bun [1,2] [3,4] rfl) Q3 h10 hx3) rfl fun v3 T7 w8 im11 rv3 => ?_)
      obtain⟨a15,n8,c15,rfl,hS10,_⟩:=rv3
      have hS10:=hS10.unb
      exact nil (U6 (Q0 ⟨_,_,y3,_,_,_,Q7 ⟨rfl,rfl,qZt⟩,(iT im9 (iT im10 im11)),hS10.sel [0,1,2,3] rfl,hm⟩))
    exact skp (U6 (Q0 ⟨_,_,p0,_,_,_,Q7 ⟨rfl,rfl,qZt⟩,Im.refl,hS1.sel [0,1,2,3] rfl,hm⟩))
  rintro _ w2 ⟨J,T1,x2,a9,n2,c9,rfl,im2,hS11,hm⟩
  rw [hkk1] at hm
  refine sq2 ?_
  obtain⟨y4,hx4,hm⟩:=Q4 hm
  refine rg (pv (Z9 rfl) (pv (Z1 rfl underlying68 rfl sizeOf56 rfl) (pv (Z4 rfl isAgg56 (hS11.cell0 (i:=0) ⟨rfl,rfl⟩ (j:=3) rfl)) (wl rfl (Z7 cf43 rfl (H0 (p0:=x2) (Q2:=Q2) (p1:=p1.A) (hS11.bun [1] [2,3] rfl) Q3 (h1.mono (iT im1 im2)) (hG1.mono (iT im1 im2)) hx4) rfl fun v4 T8 w9 im12 rv4 => ?_)))))
  obtain⟨a16,n9,c16,rfl,hS12,_⟩:=rv4
  have hS12:=hS12.unb
  refine nil (Q0 ?_)
  refine rg (pv (Z9 rfl) (wl rfl (bsS (r:=G9) (l:=([([59]:List UInt8)]:List (List UInt8))) (css := [[qZs [59]]]) hS12 underlying74 sizeOf9 zeroValue9 rfl rfl (by kernel_rfl) rfl ⟨rfl,qZt⟩ rfl rfl fun w10 a17 n10 c17 im13 hS13 => ?_)))
  obtain⟨T9,im14,hS14,h11⟩:=hS13.seal 0 ⟨rfl,rfl⟩
  have hsh:=h11.len
  subst hsh
  obtain⟨y5,hx5,hm⟩:=Q4 hm
  refine wl rfl (Z7 I6 rfl (Z2 (p0:=y4) (Q2:=Q2) (p1:=([([59]:List UInt8)]:List (List UInt8))) (hS14.bun [1] [2,3] rfl) Q3 h11 hx5) rfl fun v5 T10 w11 im15 rv5 => ?_)
  obtain⟨a18,n11,c18,rfl,hS15,_⟩:=rv5
  have hS15:=hS15.unb
  cases oI hm
  exact nil (S7 rfl ⟨_,rfl,_,(iT im1 (iT im2 (iT im12 (iT im13 (iT im14 im15))))),⟨_,_,_,rfl,hS15.sel [0,1,2] rfl,qZt⟩⟩)

def S8 (F:Q5→(List K7)→Option (Q5)):Prop := ∀ {g:World} {T0:TP} {w0:World} {R:J7} {p0:Q5} {X4 X2:Nat} {Q2:List Value→J7} {a1:OA} {n1:Nat} {c1:Nat} {p1:List K7} {a2:OA} {c2:Nat} {r:Q5} (hS:Sep g T0 w0 [R,Q2 [.slice a1 n1 c1],G3 G9 9 (.slice a1 n1 c1) p0.l]) (Q3:Ln X4 X2 Q2) (h1:SlR C0 T0 w0 (sv a2 p1 c2) p1) (hG1:Gc T0 w0 1 (Lib.pow10Tab.map fun z=>Value.int .u64 z)) (hm:F p0 p1=some r),
    Calls Tryz.prog 74 #[pt X4 X2,sv a2 p1 c2] w0 (E6 T0 w0 fun T w v => ∃(a26:OA) (n17:Nat) (c26:Nat),v = .tuple #[]∧Sep g T w [R,Q2 [.slice a26 n17 c26],G3 G9 9 (.slice a26 n17 c26) r.l]∧True)
def Q0b (F:Q5→U5→Option (Q5)):Prop := ∀ {g:World} {T0:TP} {w0:World} {R:J7} {p0:Q5} {X4 X2:Nat} {Q2:List Value→J7} {a1:OA} {n1:Nat} {c1:Nat} {p1:U5} {a2:OA} {c2:Nat} {a3:OA} {c3:Nat} {a4:OA} {c4:Nat} {a5:OA} {c5:Nat} {a6:OA} {c6:Nat} {a7:OA} {c7:Nat} {a8:OA} {c8:Nat} {r:Q5} (hS:Sep g T0 w0 [R,Q2 [.slice a1 n1 c1],G3 G9 9 (.slice a1 n1 c1) p0.l]) (Q3:Ln X4 X2 Q2) (h1:SlR X0 T0 w0 (sv a2 p1.A c2) p1.A) (h2:SlR X0 T0 w0 (sv a3 p1.B c3) p1.B) (h3:SlR X0 T0 w0 (sv a4 p1.C c4) p1.C) (h4:SlR G7 T0 w0 (sv a5 p1.Var c5) p1.Var) (h5:SlR E1 T0 w0 (sv a6 p1.Body c6) p1.Body) (h6:SlR E1 T0 w0 (sv a7 p1.Else c7) p1.Else) (h7:SlR C0 T0 w0 (sv a8 p1.Cases c8) p1.Cases) (hG1:Gc T0 w0 1 (Lib.pow10Tab.map fun z=>Value.int .u64 z)) (hm:F p0 p1=some r),
    Calls Tryz.prog 44 #[pt X4 X2,.agg (B4 p1 a2 c2 a3 c3 a4 c4 a5 c5 a6 c6 a7 c7 a8 c8).toArray] w0 (E6 T0 w0 fun T w v => ∃(a44:OA) (n35:Nat) (c44:Nat),v = .tuple #[]∧Sep g T w [R,Q2 [.slice a44 n35 c44],G3 G9 9 (.slice a44 n35 c44) r.l]∧True)
def S9 (F:Q5→(List U5)→Option (Q5)):Prop := ∀ {g:World} {T0:TP} {w0:World} {R:J7} {p0:Q5} {X4 X2:Nat} {Q2:List Value→J7} {a1:OA} {n1:Nat} {c1:Nat} {p1:List U5} {a2:OA} {c2:Nat} {r:Q5} (hS:Sep g T0 w0 [R,Q2 [.slice a1 n1 c1],G3 G9 9 (.slice a1 n1 c1) p0.l]) (Q3:Ln X4 X2 Q2) (h1:SlR E1 T0 w0 (sv a2 p1 c2) p1) (hG1:Gc T0 w0 1 (Lib.pow10Tab.map fun z=>Value.int .u64 z)) (hm:F p0 p1=some r),
    Calls Tryz.prog 25 #[pt X4 X2,sv a2 p1 c2] w0 (E6 T0 w0 fun T w v => ∃(a16:OA) (n8:Nat) (c16:Nat),v = .tuple #[]∧Sep g T w [R,Q2 [.slice a16 n8 c16],G3 G9 9 (.slice a16 n8 c16) r.l]∧True)
structure Sp4 (G:Rec4):Prop where
  B5:S8 G.B5
  J2:Q0b G.J2
  V4:S9 G.V4
theorem Q6m {G:Rec4} (hG:Sp4 G):S8 (M3 G) := @fun g T0 w0 R p0 X4 X2 Q2 a1 n1 c1 p1 a2 c2 r hS Q3 h1 hG1 hm=>by
  refine enter (args := [pt X4 X2,sv a2 p1 c2]) Tryz.func74 rfl Tryz.ntmps74 rfl fun J => ?_
  unfold M3 at hm
  refine sq2 (rg (pv (Z9 rfl) (wl rfl (bsS (r:=G9) (l:=([([123]:List UInt8)]:List (List UInt8))) (css := [[qZs [123]]]) hS underlying74 sizeOf9 zeroValue9 rfl rfl (by kernel_rfl) rfl ⟨rfl,qZt⟩ rfl rfl fun w1 a3 n2 c3 im1 hS1 => ?_))))
  obtain⟨T1,im2,hS2,h2⟩:=hS1.seal 0 ⟨rfl,rfl⟩
  have hsh:=h2.len
  subst hsh
  obtain⟨y1,hx1,hm⟩:=Q4 hm
  refine wl rfl (Z7 I6 rfl (Z2 (p0:=p0) (Q2:=Q2) (p1:=([([123]:List UInt8)]:List (List UInt8))) (hS2.bun [1] [2,3] rfl) Q3 h2 hx1) rfl fun v1 T2 w2 im3 rv1 => ?_)
  obtain⟨a4,n3,c4,rfl,hS3,_⟩:=rv1
  have hS3:=hS3.unb
  refine nil (Q0 ?_)
  refine sq2 (sq2 (rg (pv (N2 rfl) (pv (L3 rfl underlying66) (pv (U1 rfl) (nil (Q0 ?_)))))))
  obtain⟨o1,ho1,hq1⟩:=Q4 hm
  obtain⟨bd1,hbd1,ho1⟩:=K3 ho1
  refine blk (wp_loop_ghost (fun m a w3 => ∃(J:JV) (T3:TP) (x3:Q5) (a5:OA) (n4:Nat) (c5:Nat) (x2:Int),a=env (nf 47) J [(0,pt X4 X2),(11,sv a2 p1 c2),(12,iv (List.length p1:Int)),(13,iv x2)]∧Im T2 w2 T3 w3∧Sep g T3 w3 [R,Q2 [.slice a5 n4 c5],G3 G9 9 (.slice a5 n4 c5) x3.l]∧V7 bd1 m (x2,x3)=some o1) NN ⟨_,_,y1,_,_,_,0,Q7 ⟨rfl,rfl,rfl,rfl,qZt⟩,Im.refl,hS3.sel [0,1,2] rfl,ho1⟩ ?_)
  rintro m _ w3 ⟨J,T3,x3,a5,n4,c5,x2,rfl,im4,hS4,ho1⟩
  obtain⟨m1,z1,rfl,hm,hn1⟩:=U4 ho1
  rw [hbd1] at hm
  refine sq2 (rg (pv (X7 rfl rfl rfl) (nil (Q0 ?_))))
  refine sq2 (cnd rfl (fun hb1 => ?_) (fun hb1 => ?_))
  · have hm:=V8 hb1 hm
    refine skp (Q0 ?_)
    refine sq2 (blk (sq2 ?_))
    obtain⟨u1,hx2,hm⟩:=Q4 hm
    obtain⟨b1,of1,cs1,k1,cp1,hv1,hp1,hl1,he1,hr1,hc1,hT1⟩:=(h1.mono (iT im1 (iT im2 (iT im3 im4)))).ixT hx2 rfl
    obtain⟨a6,c6,rfl,h3⟩:=Q1f hr1
    refine rg (pv (B2 hv1 rfl underlying66 sizeOf105 hp1 hl1 he1) (pv (Z5 rfl isAgg105 sizeOf105 rfl hc1 (cs:=(F4 u1 a6 c6))) (wl rfl (alS (zs := [iv 0,iv 0,.bool false,.int .u32 0,.slice none 0 0]) zeroValue105 rfl hS4 fun w4 b2 im5 hS5 => ?_))))
    refine wl rfl (X6 (q:=0) hS5 ⟨rfl,rfl⟩ rfl rfl rfl sizeOf105 rfl rfl rfl fun w5 im6 hS6 => ?_)
    refine nil (Q0 ?_)
    obtain⟨kk1,hkk1,hm⟩:=F6 hm
    refine cut (fun a w6 => ∃(J:JV) (T4:TP) (x5:Q5) (a7:OA) (n5:Nat) (c7:Nat),a=env (nf 47) J [(0,pt X4 X2),(5,pt b2 0),(11,sv a2 p1 c2),(12,iv (List.length p1:Int)),(13,iv x2)]∧Im T3 w5 T4 w6∧Sep g T4 w6 [J6 b2 (F4 u1 a6 c6),R,Q2 [.slice a7 n5 c7],G3 G9 9 (.slice a7 n5 c7) x5.l]∧kk1 x5=some z1) ?_ ?_
    · refine sq2 (rg (pv (Z1 rfl underlying105 rfl sizeOf4 rfl) (pv (Z4 rfl isAgg4 (hS6.cell0 (i:=0) ⟨rfl,rfl⟩ (j:=2) rfl)) (nil (Q0 ?_)))))
      refine V3 rfl hm (fun hb2 hm => ?_) fun hb2 hm => ?_
      · refine rg (pv (Z9 rfl) (wl rfl (bsS (r:=G9) (l:=([([100,101,102,97,117,108,116]:List UInt8)]:List (List UInt8))) (css := [[qZs [100,101,102,97,117,108,116]]]) hS6 underlying74 sizeOf9 zeroValue9 rfl rfl (by kernel_rfl) rfl ⟨rfl,qZt⟩ rfl rfl fun w7 a8 n6 c8 im8 hS7 => ?_)))
        obtain⟨T5,im9,hS8,h4⟩:=hS7.seal 0 ⟨rfl,rfl⟩
        have hsh:=h4.len
        subst hsh
        obtain⟨y2,hx3,hm⟩:=Q4 hm
        refine wl rfl (Z7 I6 rfl (Z2 (p0:=x3) (Q2:=Q2) (p1:=([([100,101,102,97,117,108,116]:List UInt8)]:List (List UInt8))) (hS8.bun [1,2] [3,4] rfl) Q3 h4 hx3) rfl fun v2 T6 w8 im10 rv2 => ?_)
        obtain⟨a9,n7,c9,rfl,hS9,_⟩:=rv2
        have hS9:=hS9.unb
        exact nil (Q0 ⟨_,_,y2,_,_,_,Q7 ⟨rfl,rfl,rfl,rfl,rfl,qZt⟩,(iT im8 (iT im9 im10)),hS9.sel [0,1,2,3] rfl,hm⟩)
      refine sq2 (rg (pv (Z9 rfl) (wl rfl (bsS (r:=G9) (l:=([([99,97,115,101]:List UInt8)]:List (List UInt8))) (css := [[qZs [99,97,115,101]]]) hS6 underlying74 sizeOf9 zeroValue9 rfl rfl (by kernel_rfl) rfl ⟨rfl,qZt⟩ rfl rfl fun w9 a10 n8 c10 im11 hS10 => ?_))))
      obtain⟨T7,im12,hS11,h5⟩:=hS10.seal 0 ⟨rfl,rfl⟩
      have hsh:=h5.len
      subst hsh
      obtain⟨y3,hx4,hm⟩:=Q4 hm
      refine wl rfl (Z7 I6 rfl (Z2 (p0:=x3) (Q2:=Q2) (p1:=([([99,97,115,101]:List UInt8)]:List (List UInt8))) (hS11.bun [1,2] [3,4] rfl) Q3 h5 hx4) rfl fun v3 T8 w10 im13 rv3 => ?_)
      obtain⟨a11,n9,c11,rfl,hS12,_⟩:=rv3
      have hS12:=hS12.unb
      refine nil (Q0 ?_)
      obtain⟨y4,hx5,hm⟩:=Q4 hm
      refine rg (pv (Z9 rfl) (pv (Z1 rfl underlying105 rfl sizeOf87 rfl) (pv (Z4 rfl isAgg87 (hS12.cell0 (i:=0) ⟨rfl,rfl⟩ (j:=3) rfl)) (wl rfl (Z7 cf42 rfl (Q0c (p0:=y3) (Q2:=Q2) (p1:=u1.Num) (hS12.bun [0,1] [2,3] rfl) Q3 (hG1.mono (iT im1 (iT im2 (iT im3 (iT im4 (iT im5 (iT im6 (iT im11 (iT im12 im13))))))))) hx5) rfl fun v4 T9 w11 im14 rv4 => ?_)))))
      obtain⟨a12,n10,c12,rfl,hS13,_⟩:=rv4
      have hS13:=hS13.unb
      exact nil (Q0 ⟨_,_,y4,_,_,_,Q7 ⟨rfl,rfl,rfl,rfl,rfl,qZt⟩,(iT im11 (iT im12 (iT im13 im14))),hS13.sel [0,1,2,3] rfl,hm⟩)
    rintro _ w6 ⟨J,T4,x5,a7,n5,c7,rfl,im7,hS14,hm⟩
    rw [hkk1] at hm
    refine sq2 (rg (pv (Z9 rfl) (wl rfl (bsS (r:=G9) (l:=([([58]:List UInt8)]:List (List UInt8))) (css := [[qZs [58]]]) hS14 underlying74 sizeOf9 zeroValue9 rfl rfl (by kernel_rfl) rfl ⟨rfl,qZt⟩ rfl rfl fun w12 a13 n11 c13 im15 hS15 => ?_))))
    obtain⟨T10,im16,hS16,h6⟩:=hS15.seal 0 ⟨rfl,rfl⟩
    have hsh:=h6.len
    subst hsh
    obtain⟨y5,hx6,hm⟩:=Q4 hm
    refine wl rfl (Z7 I6 rfl (Z2 (p0:=x5) (Q2:=Q2) (p1:=([([58]:List UInt8)]:List (List UInt8))) (hS16.bun [1,2] [3,4] rfl) Q3 h6 hx6) rfl fun v5 T11 w13 im17 rv5 => ?_)
    obtain⟨a14,n12,c14,rfl,hS17,_⟩:=rv5
    have hS17:=hS17.unb
    refine nil (Q0 ?_)
    refine sq2 (rg (pv (Z1 rfl underlying105 rfl sizeOf62 rfl) (pv (Z4 rfl isAgg62 (hS17.cell0 (i:=0) ⟨rfl,rfl⟩ (j:=4) rfl)) (pv (L3 rfl underlying62) (pv (U1 rfl) (nil (Q0 ?_)))))))
    obtain⟨o2,ho2,hq2⟩:=Q4 hm
    obtain⟨bd2,hbd2,ho2⟩:=K3 ho2
    refine blk (wp_loop_ghost (fun m a w14 => ∃(J:JV) (T12:TP) (x8:Q5) (a15:OA) (n13:Nat) (c15:Nat) (x7:Int),a=env (nf 47) J [(0,pt X4 X2),(11,sv a2 p1 c2),(12,iv (List.length p1:Int)),(13,iv x2),(33,sv a6 u1.Body c6),(34,iv (List.length u1.Body:Int)),(35,iv x7)]∧Im T11 w13 T12 w14∧Sep g T12 w14 [R,Q2 [.slice a15 n13 c15],G3 G9 9 (.slice a15 n13 c15) x8.l]∧V7 bd2 m (x7,x8)=some o2) NN ⟨_,_,y5,_,_,_,0,Q7 ⟨rfl,rfl,rfl,rfl,rfl,rfl,rfl,qZt⟩,Im.refl,hS17.sel [1,2,3] rfl,ho2⟩ ?_)
    rintro m _ w14 ⟨J,T12,x8,a15,n13,c15,x7,rfl,im18,hS18,ho2⟩
    obtain⟨m2,z2,rfl,hm,hn2⟩:=U4 ho2
    rw [hbd2] at hm
    refine sq2 (rg (pv (X7 rfl rfl rfl) (nil (Q0 ?_))))
    refine sq2 (cnd rfl (fun hb3 => ?_) (fun hb3 => ?_))
    · have hm:=V8 hb3 hm
      refine skp (Q0 ?_)
      refine sq2 (blk (sq2 ?_))
      obtain⟨u2,hx7,hm⟩:=Q4 hm
      obtain⟨b3,of2,cs2,k2,cp2,hv2,hp2,hl2,he2,hr2,hc2,hT2⟩:=(h3.mono (iT im5 (iT im6 (iT im7 (iT im15 (iT im16 (iT im17 im18))))))).ixT hx7 rfl
      obtain⟨a16,c16,a17,c17,a18,c18,a19,c19,a20,c20,a21,c21,a22,c22,rfl,h7,h8,h9,h10,h11,h12,h13⟩:=Q2r hr2
      refine rg (pv (B2 hv2 rfl underlying62 sizeOf68 hp2 hl2 he2) (pv (Z5 rfl isAgg68 sizeOf68 rfl hc2 (cs:=(B4 u2 a16 c16 a17 c17 a18 c18 a19 c19 a20 c20 a21 c21 a22 c22))) (wl rfl (alS (zs := [iv 0,iv 0,iv 0,.slice none 0 0,.slice none 0 0,.slice none 0 0,.slice none 0 0,.slice none 0 0,.slice none 0 0,.slice none 0 0]) zeroValue68 rfl hS18 fun w15 b4 im19 hS19 => ?_))))
      refine wl rfl (X6 (q:=0) hS19 ⟨rfl,rfl⟩ rfl rfl rfl sizeOf68 rfl rfl rfl fun w16 im20 hS20 => ?_)
      refine nil (Q0 ?_)
      obtain⟨y6,hx8,hm⟩:=Q4 hm
      refine rg (pv (Z9 rfl) (pv (Z5 rfl isAgg68 sizeOf68 rfl (hS20.cells0 (i:=0) ⟨rfl,rfl⟩ (o:=0) rfl) (cs:=(B4 u2 a16 c16 a17 c17 a18 c18 a19 c19 a20 c20 a21 c21 a22 c22))) (wl rfl (Z7 cf44 rfl (hG.J2 (p0:=x8) (Q2:=Q2) (p1:=u2) (hS20.bun [1] [2,3] rfl) Q3 (h7.mono (iT im19 im20)) (h8.mono (iT im19 im20)) (h9.mono (iT im19 im20)) (h10.mono (iT im19 im20)) (h11.mono (iT im19 im20)) (h12.mono (iT im19 im20)) (h13.mono (iT im19 im20)) (hG1.mono (iT im1 (iT im2 (iT im3 (iT im4 (iT im5 (iT im6 (iT im7 (iT im15 (iT im16 (iT im17 (iT im18 (iT im19 im20))))))))))))) hx8) rfl fun v6 T13 w17 im21 rv6 => ?_))))
      obtain⟨a23,n14,c23,rfl,hS21,_⟩:=rv6
      have hS21:=hS21.unb
      refine nil (U6 (Q0 ?_))
      cases oI hm
      exact rg (pv (X7 rfl rfl rfl) (pv (U1 rfl) (nil (Q0 ⟨m2,Nat.lt_succ_self _,_,_,y6,_,_,_,(IntKind.wrap .i64 (x7+1)),Q7 ⟨rfl,rfl,rfl,rfl,rfl,rfl,rfl,qZt⟩,(iT im18 (iT im19 (iT im20 im21))),hS21.sel [0,1,2] rfl,hn2⟩))))
    have hm:=X3 hb3 hm
    cases oI hm
    have hn2:_=Lp.brk _:=hn2
    subst hn2
    have hm:=F1 hq2
    refine xt (V9 (V9 (L5 (U6 (Q0 ?_)))))
    cases oI hm
    exact rg (pv (X7 rfl rfl rfl) (pv (U1 rfl) (nil (Q0 ⟨m1,Nat.lt_succ_self _,_,_,x8,_,_,_,(IntKind.wrap .i64 (x2+1)),Q7 ⟨rfl,rfl,rfl,rfl,qZt⟩,(iT im4 (iT im5 (iT im6 (iT im7 (iT im15 (iT im16 (iT im17 im18))))))),hS18.sel [0,1,2] rfl,hn1⟩))))
  have hm:=X3 hb1 hm
  cases oI hm
  have hn1:_=Lp.brk _:=hn1
  subst hn1
  have hm:=F1 hq1
  refine xt (V9 (V9 (L5 (Q0 ?_))))
  refine rg (pv (Z9 rfl) (wl rfl (bsS (r:=G9) (l:=([([125]:List UInt8)]:List (List UInt8))) (css := [[qZs [125]]]) hS4 underlying74 sizeOf9 zeroValue9 rfl rfl (by kernel_rfl) rfl ⟨rfl,qZt⟩ rfl rfl fun w18 a24 n15 c24 im22 hS22 => ?_)))
  obtain⟨T14,im23,hS23,h14⟩:=hS22.seal 0 ⟨rfl,rfl⟩
  have hsh:=h14.len
  subst hsh
  obtain⟨y7,hx9,hm⟩:=Q4 hm
  refine wl rfl (Z7 I6 rfl (Z2 (p0:=x3) (Q2:=Q2) (p1:=([([125]:List UInt8)]:List (List UInt8))) (hS23.bun [1] [2,3] rfl) Q3 h14 hx9) rfl fun v7 T15 w19 im24 rv7 => ?_)
  obtain⟨a25,n16,c25,rfl,hS24,_⟩:=rv7
  have hS24:=hS24.unb
  cases oI hm
  exact nil (S7 rfl ⟨_,rfl,_,(iT im1 (iT im2 (iT im3 (iT im4 (iT im22 (iT im23 im24)))))),⟨_,_,_,rfl,hS24.sel [0,1,2] rfl,qZt⟩⟩)
theorem Q7p {G:Rec4} (hG:Sp4 G):Q0b (C2 G) := @fun g T0 w0 R p0 X4 X2 Q2 a1 n1 c1 p1 a2 c2 a3 c3 a4 c4 a5 c5 a6 c6 a7 c7 a8 c8 r hS Q3 h1 h2 h3 h4 h5 h6 h7 hG1 hm=>by
  refine enter (args := [pt X4 X2,.agg (B4 p1 a2 c2 a3 c3 a4 c4 a5 c5 a6 c6 a7 c7 a8 c8).toArray]) Tryz.func44 rfl Tryz.ntmps44 rfl fun J => ?_
  unfold C2 at hm
  refine sq2 (rg (wl rfl (bxS (cs:=(B4 p1 a2 c2 a3 c3 a4 c4 a5 c5 a6 c6 a7 c7 a8 c8)) rfl rfl hS fun w1 b1 im1 hS1 => ?_)))
  refine nil (Q0 ?_)
  refine sq2 (rg (pv (Z1 rfl underlying68 rfl sizeOf3 rfl) (pv (Z4 rfl isAgg3 (hS1.cell0 (i:=0) ⟨rfl,rfl⟩ (j:=0) rfl)) (nil (Q0 ?_)))))
  refine blk (sq2 (rg (pv (X7 rfl rfl rfl) (pv (X5 rfl) (nil (Q0 ?_))))))
  refine V3 rfl hm (fun hb1 hm => ?_) fun hb1 hm => ?_
  · refine sq2 (sq2 (rg (pv (Z1 rfl underlying68 rfl sizeOf24 rfl) (pv (Z4 rfl isAgg24 (hS1.cell0 (i:=0) ⟨rfl,rfl⟩ (j:=6) rfl)) (pv (L3 rfl underlying24) (pv (U1 rfl) (nil (Q0 ?_))))))))
    obtain⟨o1,ho1,hq1⟩:=Q4 hm
    obtain⟨bd1,hbd1,ho1⟩:=K3 ho1
    refine blk (wp_loop_ghost (fun m a w2 => ∃(J:JV) (T1:TP) (x3:Q5) (a9:OA) (n2:Nat) (c9:Nat) (x2:Int),a=env (nf 120) J [(0,pt X4 X2),(14,sv a5 p1.Var c5),(15,iv (List.length p1.Var:Int)),(16,iv x2)]∧Im T0 w1 T1 w2∧Sep g T1 w2 [R,Q2 [.slice a9 n2 c9],G3 G9 9 (.slice a9 n2 c9) x3.l]∧V7 bd1 m (x2,x3)=some o1) NN ⟨_,_,p0,_,_,_,0,Q7 ⟨rfl,rfl,rfl,rfl,qZt⟩,Im.refl,hS1.sel [1,2,3] rfl,ho1⟩ ?_)
    rintro m _ w2 ⟨J,T1,x3,a9,n2,c9,x2,rfl,im2,hS2,ho1⟩
    obtain⟨m1,z1,rfl,hm,hn1⟩:=U4 ho1
    rw [hbd1] at hm
    refine sq2 (rg (pv (X7 rfl rfl rfl) (nil (Q0 ?_))))
    refine sq2 (cnd rfl (fun hb2 => ?_) (fun hb2 => ?_))
    · have hm:=V8 hb2 hm
      refine skp (Q0 ?_)
      refine sq2 (blk (sq2 ?_))
      obtain⟨u1,hx1,hm⟩:=Q4 hm
      obtain⟨b2,of1,cs1,k1,cp1,hv1,hp1,hl1,he1,hr1,hc1,hT1⟩:=(h4.mono (iT im1 im2)).ixT hx1 rfl
      obtain⟨a10,c10,a11,c11,rfl,h8,h9⟩:=Q1e hr1
      refine rg (pv (B2 hv1 rfl underlying24 sizeOf58 hp1 hl1 he1) (pv (Z5 rfl isAgg58 sizeOf58 rfl hc1 (cs:=(N1 u1 a10 c10 a11 c11))) (wl rfl (alS (zs := [iv 0,iv 0,qZs [],qZs [],iv 0,qZs [],.slice none 0 0,.slice none 0 0,.bool false]) zeroValue58 rfl hS2 fun w3 b3 im3 hS3 => ?_))))
      refine wl rfl (X6 (q:=0) hS3 ⟨rfl,rfl⟩ rfl rfl rfl sizeOf58 rfl rfl rfl fun w4 im4 hS4 => ?_)
      refine nil (Q0 ?_)
      obtain⟨y1,hx2,hm⟩:=Q4 hm
      refine rg (pv (Z9 rfl) (pv (Z5 rfl isAgg58 sizeOf58 rfl (hS4.cells0 (i:=0) ⟨rfl,rfl⟩ (o:=0) rfl) (cs:=(N1 u1 a10 c10 a11 c11))) (wl rfl (Z7 cf23 rfl (I2 (p0:=x3) (Q2:=Q2) (p1:=u1) (hS4.bun [1] [2,3] rfl) Q3 (h8.mono (iT im3 im4)) (h9.mono (iT im3 im4)) (hG1.mono (iT im1 (iT im2 (iT im3 im4)))) hx2) rfl fun v1 T2 w5 im5 rv1 => ?_))))
      obtain⟨a12,n3,c12,rfl,hS5,_⟩:=rv1
      have hS5:=hS5.unb
      refine nil (U6 (Q0 ?_))
      cases oI hm
      exact rg (pv (X7 rfl rfl rfl) (pv (U1 rfl) (nil (Q0 ⟨m1,Nat.lt_succ_self _,_,_,y1,_,_,_,(IntKind.wrap .i64 (x2+1)),Q7 ⟨rfl,rfl,rfl,rfl,qZt⟩,(iT im2 (iT im3 (iT im4 im5))),hS5.sel [0,1,2] rfl,hn1⟩))))
    have hm:=X3 hb2 hm
    cases oI hm
    have hn1:_=Lp.brk _:=hn1
    subst hn1
    have hm:=F1 hq1
    refine xt (V9 (V9 (L5 (Q0 ?_))))
    refine rg (pv (Z9 rfl) (wl rfl (bsS (r:=G9) (l:=([([59]:List UInt8)]:List (List UInt8))) (css := [[qZs [59]]]) hS2 underlying74 sizeOf9 zeroValue9 rfl rfl (by kernel_rfl) rfl ⟨rfl,qZt⟩ rfl rfl fun w6 a13 n4 c13 im6 hS6 => ?_)))
    obtain⟨T3,im7,hS7,h10⟩:=hS6.seal 0 ⟨rfl,rfl⟩
    have hsh:=h10.len
    subst hsh
    obtain⟨y2,hx3,hm⟩:=Q4 hm
    refine wl rfl (Z7 I6 rfl (Z2 (p0:=x3) (Q2:=Q2) (p1:=([([59]:List UInt8)]:List (List UInt8))) (hS7.bun [1] [2,3] rfl) Q3 h10 hx3) rfl fun v2 T4 w7 im8 rv2 => ?_)
    obtain⟨a14,n5,c14,rfl,hS8,_⟩:=rv2
    have hS8:=hS8.unb
    cases oI hm
    exact nil (U6 (S7 rfl ⟨_,rfl,_,(iT im1 (iT im2 (iT im6 (iT im7 im8)))),⟨_,_,_,rfl,hS8.sel [0,1,2] rfl,qZt⟩⟩))
  refine sq2 (rg (pv (X7 rfl rfl rfl) (pv (X5 rfl) (nil (Q0 ?_)))))
  refine V3 rfl hm (fun hb3 hm => ?_) fun hb3 hm => ?_
  · refine sq2 ?_
    obtain⟨y3,hx4,hm⟩:=Q4 hm
    refine rg (pv (Z9 rfl) (pv (Z1 rfl underlying68 rfl sizeOf56 rfl) (pv (Z4 rfl isAgg56 (hS1.cell0 (i:=0) ⟨rfl,rfl⟩ (j:=3) rfl)) (wl rfl (Z7 cf73 rfl (O7 (p0:=p0) (Q2:=Q2) (p1 := [105,102]) (p2:=p1.A) (hS1.bun [0,1] [2,3] rfl) Q3 (h1.mono im1) (hG1.mono im1) hx4) rfl fun v3 T5 w8 im9 rv3 => ?_)))))
    obtain⟨a15,n6,c15,rfl,hS9,_⟩:=rv3
    have hS9:=hS9.unb
    refine nil (Q0 ?_)
    refine sq2 ?_
    obtain⟨y4,hx5,hm⟩:=Q4 hm
    refine rg (pv (Z9 rfl) (pv (Z1 rfl underlying68 rfl sizeOf62 rfl) (pv (Z4 rfl isAgg62 (hS9.cell0 (i:=0) ⟨rfl,rfl⟩ (j:=7) rfl)) (wl rfl (Z7 cf25 rfl (hG.V4 (p0:=y3) (Q2:=Q2) (p1:=p1.Body) (hS9.bun [0,1] [2,3] rfl) Q3 (h5.mono (iT im1 im9)) (hG1.mono (iT im1 im9)) hx5) rfl fun v4 T6 w9 im10 rv4 => ?_)))))
    obtain⟨a16,n7,c16,rfl,hS10,_⟩:=rv4
    have hS10:=hS10.unb
    refine nil (Q0 ?_)
    refine sq2 (rg (pv (Z1 rfl underlying68 rfl sizeOf62 rfl) (pv (Z4 rfl isAgg62 (hS10.cell0 (i:=0) ⟨rfl,rfl⟩ (j:=8) rfl)) (pv (L3 rfl underlying62) (pv (X7 rfl rfl rfl) (nil (Q0 ?_)))))))
    refine V3 rfl hm (fun hb4 hm => ?_) fun hb4 hm => ?_
    · refine sq2 (rg (pv (Z9 rfl) (wl rfl (bsS (r:=G9) (l:=([([101,108,115,101]:List UInt8)]:List (List UInt8))) (css := [[qZs [101,108,115,101]]]) hS10 underlying74 sizeOf9 zeroValue9 rfl rfl (by kernel_rfl) rfl ⟨rfl,qZt⟩ rfl rfl fun w10 a17 n8 c17 im11 hS11 => ?_))))
      obtain⟨T7,im12,hS12,h11⟩:=hS11.seal 0 ⟨rfl,rfl⟩
      have hsh:=h11.len
      subst hsh
      obtain⟨y5,hx6,hm⟩:=Q4 hm
      refine wl rfl (Z7 I6 rfl (Z2 (p0:=y4) (Q2:=Q2) (p1:=([([101,108,115,101]:List UInt8)]:List (List UInt8))) (hS12.bun [1,2] [3,4] rfl) Q3 h11 hx6) rfl fun v5 T8 w11 im13 rv5 => ?_)
      obtain⟨a18,n9,c18,rfl,hS13,_⟩:=rv5
      have hS13:=hS13.unb
      refine nil (Q0 ?_)
      obtain⟨y6,hx7,hm⟩:=Q4 hm
      refine rg (pv (Z9 rfl) (pv (Z1 rfl underlying68 rfl sizeOf62 rfl) (pv (Z4 rfl isAgg62 (hS13.cell0 (i:=0) ⟨rfl,rfl⟩ (j:=8) rfl)) (wl rfl (Z7 cf25 rfl (hG.V4 (p0:=y5) (Q2:=Q2) (p1:=p1.Else) (hS13.bun [1] [2,3] rfl) Q3 (h6.mono (iT im1 (iT im9 (iT im10 (iT im11 (iT im12 im13)))))) (hG1.mono (iT im1 (iT im9 (iT im10 (iT im11 (iT im12 im13)))))) hx7) rfl fun v6 T9 w12 im14 rv6 => ?_)))))
      obtain⟨a19,n10,c19,rfl,hS14,_⟩:=rv6
      have hS14:=hS14.unb
      cases oI hm
      exact nil (U6 (S7 rfl ⟨_,rfl,_,(iT im1 (iT im9 (iT im10 (iT im11 (iT im12 (iT im13 im14)))))),⟨_,_,_,rfl,hS14.sel [0,1,2] rfl,qZt⟩⟩))
    cases oI hm
    exact skp (U6 (S7 rfl ⟨_,rfl,_,(iT im1 (iT im9 im10)),⟨_,_,_,rfl,hS10.sel [1,2,3] rfl,qZt⟩⟩))
  refine sq2 (rg (pv (X7 rfl rfl rfl) (pv (X5 rfl) (nil (Q0 ?_)))))
  refine V3 rfl hm (fun hb5 hm => ?_) fun hb5 hm => ?_
  · refine sq2 ?_
    obtain⟨y7,hx8,hm⟩:=Q4 hm
    refine rg (pv (Z9 rfl) (pv (Z1 rfl underlying68 rfl sizeOf56 rfl) (pv (Z4 rfl isAgg56 (hS1.cell0 (i:=0) ⟨rfl,rfl⟩ (j:=3) rfl)) (wl rfl (Z7 cf73 rfl (O7 (p0:=p0) (Q2:=Q2) (p1 := [119,104,105,108,101]) (p2:=p1.A) (hS1.bun [0,1] [2,3] rfl) Q3 (h1.mono im1) (hG1.mono im1) hx8) rfl fun v7 T10 w13 im15 rv7 => ?_)))))
    obtain⟨a20,n11,c20,rfl,hS15,_⟩:=rv7
    have hS15:=hS15.unb
    refine nil (Q0 ?_)
    obtain⟨y8,hx9,hm⟩:=Q4 hm
    refine rg (pv (Z9 rfl) (pv (Z1 rfl underlying68 rfl sizeOf62 rfl) (pv (Z4 rfl isAgg62 (hS15.cell0 (i:=0) ⟨rfl,rfl⟩ (j:=7) rfl)) (wl rfl (Z7 cf25 rfl (hG.V4 (p0:=y7) (Q2:=Q2) (p1:=p1.Body) (hS15.bun [1] [2,3] rfl) Q3 (h5.mono (iT im1 im15)) (hG1.mono (iT im1 im15)) hx9) rfl fun v8 T11 w14 im16 rv8 => ?_)))))
    obtain⟨a21,n12,c21,rfl,hS16,_⟩:=rv8
    have hS16:=hS16.unb
    cases oI hm
    exact nil (U6 (S7 rfl ⟨_,rfl,_,(iT im1 (iT im15 im16)),⟨_,_,_,rfl,hS16.sel [0,1,2] rfl,qZt⟩⟩))
  refine sq2 (rg (pv (X7 rfl rfl rfl) (pv (X5 rfl) (nil (Q0 ?_)))))
  refine V3 rfl hm (fun hb6 hm => ?_) fun hb6 hm => ?_
  · refine sq2 (rg (pv (Z9 rfl) (wl rfl (bsS (r:=G9) (l:=([([100,111]:List UInt8)]:List (List UInt8))) (css := [[qZs [100,111]]]) hS1 underlying74 sizeOf9 zeroValue9 rfl rfl (by kernel_rfl) rfl ⟨rfl,qZt⟩ rfl rfl fun w15 a22 n13 c22 im17 hS17 => ?_))))
    obtain⟨T12,im18,hS18,h12⟩:=hS17.seal 0 ⟨rfl,rfl⟩
    have hsh:=h12.len
    subst hsh
    obtain⟨y9,hx10,hm⟩:=Q4 hm
    refine wl rfl (Z7 I6 rfl (Z2 (p0:=p0) (Q2:=Q2) (p1:=([([100,111]:List UInt8)]:List (List UInt8))) (hS18.bun [1,2] [3,4] rfl) Q3 h12 hx10) rfl fun v9 T13 w16 im19 rv9 => ?_)
    obtain⟨a23,n14,c23,rfl,hS19,_⟩:=rv9
    have hS19:=hS19.unb
    refine nil (Q0 ?_)
    refine sq2 ?_
    obtain⟨y10,hx11,hm⟩:=Q4 hm
    refine rg (pv (Z9 rfl) (pv (Z1 rfl underlying68 rfl sizeOf62 rfl) (pv (Z4 rfl isAgg62 (hS19.cell0 (i:=0) ⟨rfl,rfl⟩ (j:=7) rfl)) (wl rfl (Z7 cf25 rfl (hG.V4 (p0:=y9) (Q2:=Q2) (p1:=p1.Body) (hS19.bun [0,1] [2,3] rfl) Q3 (h5.mono (iT im1 (iT im17 (iT im18 im19)))) (hG1.mono (iT im1 (iT im17 (iT im18 im19)))) hx11) rfl fun v10 T14 w17 im20 rv10 => ?_)))))
    obtain⟨a24,n15,c24,rfl,hS20,_⟩:=rv10
    have hS20:=hS20.unb
    refine nil (Q0 ?_)
    refine sq2 ?_
    obtain⟨y11,hx12,hm⟩:=Q4 hm
    refine rg (pv (Z9 rfl) (pv (Z1 rfl underlying68 rfl sizeOf56 rfl) (pv (Z4 rfl isAgg56 (hS20.cell0 (i:=0) ⟨rfl,rfl⟩ (j:=3) rfl)) (wl rfl (Z7 cf73 rfl (O7 (p0:=y10) (Q2:=Q2) (p1 := [119,104,105,108,101]) (p2:=p1.A) (hS20.bun [1] [2,3] rfl) Q3 (h1.mono (iT im1 (iT im17 (iT im18 (iT im19 im20))))) (hG1.mono (iT im1 (iT im17 (iT im18 (iT im19 im20))))) hx12) rfl fun v11 T15 w18 im21 rv11 => ?_)))))
    obtain⟨a25,n16,c25,rfl,hS21,_⟩:=rv11
    have hS21:=hS21.unb
    refine nil (Q0 ?_)
    refine rg (pv (Z9 rfl) (wl rfl (bsS (r:=G9) (l:=([([59]:List UInt8)]:List (List UInt8))) (css := [[qZs [59]]]) hS21 underlying74 sizeOf9 zeroValue9 rfl rfl (by kernel_rfl) rfl ⟨rfl,qZt⟩ rfl rfl fun w19 a26 n17 c26 im22 hS22 => ?_)))
    obtain⟨T16,im23,hS23,h13⟩:=hS22.seal 0 ⟨rfl,rfl⟩
    have hsh:=h13.len
    subst hsh
    obtain⟨y12,hx13,hm⟩:=Q4 hm
    refine wl rfl (Z7 I6 rfl (Z2 (p0:=y11) (Q2:=Q2) (p1:=([([59]:List UInt8)]:List (List UInt8))) (hS23.bun [1] [2,3] rfl) Q3 h13 hx13) rfl fun v12 T17 w20 im24 rv12 => ?_)
    obtain⟨a27,n18,c27,rfl,hS24,_⟩:=rv12
    have hS24:=hS24.unb
    cases oI hm
    exact nil (U6 (S7 rfl ⟨_,rfl,_,(iT im1 (iT im17 (iT im18 (iT im19 (iT im20 (iT im21 (iT im22 (iT im23 im24)))))))),⟨_,_,_,rfl,hS24.sel [0,1,2] rfl,qZt⟩⟩))
  refine sq2 (rg (pv (X7 rfl rfl rfl) (pv (X5 rfl) (nil (Q0 ?_)))))
  refine V3 rfl hm (fun hb7 hm => ?_) fun hb7 hm => ?_
  · refine sq2 (rg (pv (Z9 rfl) (wl rfl (bsS (r:=G9) (l:=([([102,111,114]:List UInt8),([40]:List UInt8)]:List (List UInt8))) (css := [[qZs [102,111,114]],[qZs [40]]]) hS1 underlying74 sizeOf9 zeroValue9 rfl rfl (by kernel_rfl) rfl ⟨rfl,rfl,qZt⟩ rfl rfl fun w21 a28 n19 c28 im25 hS25 => ?_))))
    obtain⟨T18,im26,hS26,h14⟩:=hS25.seal 0 ⟨rfl,rfl⟩
    have hsh:=h14.len
    subst hsh
    obtain⟨y13,hx14,hm⟩:=Q4 hm
    refine wl rfl (Z7 I6 rfl (Z2 (p0:=p0) (Q2:=Q2) (p1:=([([102,111,114]:List UInt8),([40]:List UInt8)]:List (List UInt8))) (hS26.bun [1,2] [3,4] rfl) Q3 h14 hx14) rfl fun v13 T19 w22 im27 rv13 => ?_)
    obtain⟨a29,n20,c29,rfl,hS27,_⟩:=rv13
    have hS27:=hS27.unb
    refine nil (Q0 ?_)
    refine sq2 ?_
    obtain⟨y14,hx15,hm⟩:=Q4 hm
    refine rg (pv (Z9 rfl) (pv (Z1 rfl underlying68 rfl sizeOf56 rfl) (pv (Z4 rfl isAgg56 (hS27.cell0 (i:=0) ⟨rfl,rfl⟩ (j:=3) rfl)) (wl rfl (Z7 cf43 rfl (H0 (p0:=y13) (Q2:=Q2) (p1:=p1.A) (hS27.bun [0,1] [2,3] rfl) Q3 (h1.mono (iT im1 (iT im25 (iT im26 im27)))) (hG1.mono (iT im1 (iT im25 (iT im26 im27)))) hx15) rfl fun v14 T20 w23 im28 rv14 => ?_)))))
    obtain⟨a30,n21,c30,rfl,hS28,_⟩:=rv14
    have hS28:=hS28.unb
    refine nil (Q0 ?_)
    refine sq2 (rg (pv (Z9 rfl) (wl rfl (bsS (r:=G9) (l:=([([59]:List UInt8)]:List (List UInt8))) (css := [[qZs [59]]]) hS28 underlying74 sizeOf9 zeroValue9 rfl rfl (by kernel_rfl) rfl ⟨rfl,qZt⟩ rfl rfl fun w24 a31 n22 c31 im29 hS29 => ?_))))
    obtain⟨T21,im30,hS30,h15⟩:=hS29.seal 0 ⟨rfl,rfl⟩
    have hsh:=h15.len
    subst hsh
    obtain⟨y15,hx16,hm⟩:=Q4 hm
    refine wl rfl (Z7 I6 rfl (Z2 (p0:=y14) (Q2:=Q2) (p1:=([([59]:List UInt8)]:List (List UInt8))) (hS30.bun [1,2] [3,4] rfl) Q3 h15 hx16) rfl fun v15 T22 w25 im31 rv15 => ?_)
    obtain⟨a32,n23,c32,rfl,hS31,_⟩:=rv15
    have hS31:=hS31.unb
    refine nil (Q0 ?_)
    refine sq2 ?_
    obtain⟨y16,hx17,hm⟩:=Q4 hm
    refine rg (pv (Z9 rfl) (pv (Z1 rfl underlying68 rfl sizeOf56 rfl) (pv (Z4 rfl isAgg56 (hS31.cell0 (i:=0) ⟨rfl,rfl⟩ (j:=4) rfl)) (wl rfl (Z7 cf43 rfl (H0 (p0:=y15) (Q2:=Q2) (p1:=p1.B) (hS31.bun [0,1] [2,3] rfl) Q3 (h2.mono (iT im1 (iT im25 (iT im26 (iT im27 (iT im28 (iT im29 (iT im30 im31)))))))) (hG1.mono (iT im1 (iT im25 (iT im26 (iT im27 (iT im28 (iT im29 (iT im30 im31)))))))) hx17) rfl fun v16 T23 w26 im32 rv16 => ?_)))))
    obtain⟨a33,n24,c33,rfl,hS32,_⟩:=rv16
    have hS32:=hS32.unb
    refine nil (Y9 [(0,pt X4 X2),(3,pt b1 0)] ⟨rfl,rfl,qZt⟩ fun J => ?_)
    refine sq2 (rg (pv (Z9 rfl) (wl rfl (bsS (r:=G9) (l:=([([59]:List UInt8)]:List (List UInt8))) (css := [[qZs [59]]]) hS32 underlying74 sizeOf9 zeroValue9 rfl rfl (by kernel_rfl) rfl ⟨rfl,qZt⟩ rfl rfl fun w27 a34 n25 c34 im33 hS33 => ?_))))
    obtain⟨T24,im34,hS34,h16⟩:=hS33.seal 0 ⟨rfl,rfl⟩
    have hsh:=h16.len
    subst hsh
    obtain⟨y17,hx18,hm⟩:=Q4 hm
    refine wl rfl (Z7 I6 rfl (Z2 (p0:=y16) (Q2:=Q2) (p1:=([([59]:List UInt8)]:List (List UInt8))) (hS34.bun [1,2] [3,4] rfl) Q3 h16 hx18) rfl fun v17 T25 w28 im35 rv17 => ?_)
    obtain⟨a35,n26,c35,rfl,hS35,_⟩:=rv17
    have hS35:=hS35.unb
    refine nil (Q0 ?_)
    refine sq2 ?_
    obtain⟨y18,hx19,hm⟩:=Q4 hm
    refine rg (pv (Z9 rfl) (pv (Z1 rfl underlying68 rfl sizeOf56 rfl) (pv (Z4 rfl isAgg56 (hS35.cell0 (i:=0) ⟨rfl,rfl⟩ (j:=5) rfl)) (wl rfl (Z7 cf43 rfl (H0 (p0:=y17) (Q2:=Q2) (p1:=p1.C) (hS35.bun [0,1] [2,3] rfl) Q3 (h3.mono (iT im1 (iT im25 (iT im26 (iT im27 (iT im28 (iT im29 (iT im30 (iT im31 (iT im32 (iT im33 (iT im34 im35)))))))))))) (hG1.mono (iT im1 (iT im25 (iT im26 (iT im27 (iT im28 (iT im29 (iT im30 (iT im31 (iT im32 (iT im33 (iT im34 im35)))))))))))) hx19) rfl fun v18 T26 w29 im36 rv18 => ?_)))))
    obtain⟨a36,n27,c36,rfl,hS36,_⟩:=rv18
    have hS36:=hS36.unb
    refine nil (Q0 ?_)
    refine sq2 (rg (pv (Z9 rfl) (wl rfl (bsS (r:=G9) (l:=([([41]:List UInt8)]:List (List UInt8))) (css := [[qZs [41]]]) hS36 underlying74 sizeOf9 zeroValue9 rfl rfl (by kernel_rfl) rfl ⟨rfl,qZt⟩ rfl rfl fun w30 a37 n28 c37 im37 hS37 => ?_))))
    obtain⟨T27,im38,hS38,h17⟩:=hS37.seal 0 ⟨rfl,rfl⟩
    have hsh:=h17.len
    subst hsh
    obtain⟨y19,hx20,hm⟩:=Q4 hm
    refine wl rfl (Z7 I6 rfl (Z2 (p0:=y18) (Q2:=Q2) (p1:=([([41]:List UInt8)]:List (List UInt8))) (hS38.bun [1,2] [3,4] rfl) Q3 h17 hx20) rfl fun v19 T28 w31 im39 rv19 => ?_)
    obtain⟨a38,n29,c38,rfl,hS39,_⟩:=rv19
    have hS39:=hS39.unb
    refine nil (Q0 ?_)
    obtain⟨y20,hx21,hm⟩:=Q4 hm
    refine rg (pv (Z9 rfl) (pv (Z1 rfl underlying68 rfl sizeOf62 rfl) (pv (Z4 rfl isAgg62 (hS39.cell0 (i:=0) ⟨rfl,rfl⟩ (j:=7) rfl)) (wl rfl (Z7 cf25 rfl (hG.V4 (p0:=y19) (Q2:=Q2) (p1:=p1.Body) (hS39.bun [1] [2,3] rfl) Q3 (h5.mono (iT im1 (iT im25 (iT im26 (iT im27 (iT im28 (iT im29 (iT im30 (iT im31 (iT im32 (iT im33 (iT im34 (iT im35 (iT im36 (iT im37 (iT im38 im39)))))))))))))))) (hG1.mono (iT im1 (iT im25 (iT im26 (iT im27 (iT im28 (iT im29 (iT im30 (iT im31 (iT im32 (iT im33 (iT im34 (iT im35 (iT im36 (iT im37 (iT im38 im39)))))))))))))))) hx21) rfl fun v20 T29 w32 im40 rv20 => ?_)))))
    obtain⟨a39,n30,c39,rfl,hS40,_⟩:=rv20
    have hS40:=hS40.unb
    cases oI hm
    exact nil (U6 (S7 rfl ⟨_,rfl,_,(iT im1 (iT im25 (iT im26 (iT im27 (iT im28 (iT im29 (iT im30 (iT im31 (iT im32 (iT im33 (iT im34 (iT im35 (iT im36 (iT im37 (iT im38 (iT im39 im40)))))))))))))))),⟨_,_,_,rfl,hS40.sel [0,1,2] rfl,qZt⟩⟩))
  refine sq2 (rg (pv (X7 rfl rfl rfl) (pv (X5 rfl) (nil (Q0 ?_)))))
  refine V3 rfl hm (fun hb8 hm => ?_) fun hb8 hm => ?_
  · refine sq2 ?_
    obtain⟨y21,hx22,hm⟩:=Q4 hm
    refine rg (pv (Z9 rfl) (pv (Z1 rfl underlying68 rfl sizeOf56 rfl) (pv (Z4 rfl isAgg56 (hS1.cell0 (i:=0) ⟨rfl,rfl⟩ (j:=3) rfl)) (wl rfl (Z7 cf73 rfl (O7 (p0:=p0) (Q2:=Q2) (p1 := [115,119,105,116,99,104]) (p2:=p1.A) (hS1.bun [0,1] [2,3] rfl) Q3 (h1.mono im1) (hG1.mono im1) hx22) rfl fun v21 T30 w33 im41 rv21 => ?_)))))
    obtain⟨a40,n31,c40,rfl,hS41,_⟩:=rv21
    have hS41:=hS41.unb
    refine nil (Q0 ?_)
    obtain⟨y22,hx23,hm⟩:=Q4 hm
    refine rg (pv (Z9 rfl) (pv (Z1 rfl underlying68 rfl sizeOf66 rfl) (pv (Z4 rfl isAgg66 (hS41.cell0 (i:=0) ⟨rfl,rfl⟩ (j:=9) rfl)) (wl rfl (Z7 cf74 rfl (hG.B5 (p0:=y21) (Q2:=Q2) (p1:=p1.Cases) (hS41.bun [1] [2,3] rfl) Q3 (h7.mono (iT im1 im41)) (hG1.mono (iT im1 im41)) hx23) rfl fun v22 T31 w34 im42 rv22 => ?_)))))
    obtain⟨a41,n32,c41,rfl,hS42,_⟩:=rv22
    have hS42:=hS42.unb
    cases oI hm
    exact nil (U6 (S7 rfl ⟨_,rfl,_,(iT im1 (iT im41 im42)),⟨_,_,_,rfl,hS42.sel [0,1,2] rfl,qZt⟩⟩))
  refine sq2 (rg (pv (X7 rfl rfl rfl) (pv (X5 rfl) (nil (Q0 ?_)))))
  refine V3 rfl hm (fun hb9 hm => ?_) fun hb9 hm => ?_
  · obtain⟨y23,hx24,hm⟩:=Q4 hm
    refine rg (pv (Z9 rfl) (pv (Z1 rfl underlying68 rfl sizeOf62 rfl) (pv (Z4 rfl isAgg62 (hS1.cell0 (i:=0) ⟨rfl,rfl⟩ (j:=7) rfl)) (wl rfl (Z7 cf25 rfl (hG.V4 (p0:=p0) (Q2:=Q2) (p1:=p1.Body) (hS1.bun [1] [2,3] rfl) Q3 (h5.mono im1) (hG1.mono im1) hx24) rfl fun v23 T32 w35 im43 rv23 => ?_)))))
    obtain⟨a42,n33,c42,rfl,hS43,_⟩:=rv23
    have hS43:=hS43.unb
    cases oI hm
    exact nil (U6 (S7 rfl ⟨_,rfl,_,(iT im1 im43),⟨_,_,_,rfl,hS43.sel [0,1,2] rfl,qZt⟩⟩))
  obtain⟨y24,hx25,hm⟩:=Q4 hm
  refine rg (pv (Z9 rfl) (pv (Z5 rfl isAgg68 sizeOf68 rfl (hS1.cells0 (i:=0) ⟨rfl,rfl⟩ (o:=0) rfl) (cs:=(B4 p1 a2 c2 a3 c3 a4 c4 a5 c5 a6 c6 a7 c7 a8 c8))) (wl rfl (Z7 cf75 rfl (Q6f (p0:=p0) (Q2:=Q2) (p1:=p1) (hS1.bun [1] [2,3] rfl) Q3 (h1.mono im1) (h2.mono im1) (h3.mono im1) (h4.mono im1) (h5.mono im1) (h6.mono im1) (h7.mono im1) (hG1.mono im1) hx25) rfl fun v24 T33 w36 im44 rv24 => ?_))))
  obtain⟨a43,n34,c43,rfl,hS44,_⟩:=rv24
  have hS44:=hS44.unb
  cases oI hm
  exact nil (U6 (S7 rfl ⟨_,rfl,_,(iT im1 im44),⟨_,_,_,rfl,hS44.sel [0,1,2] rfl,qZt⟩⟩))
theorem Q6n {G:Rec4} (hG:Sp4 G):S9 (M4 G) := @fun g T0 w0 R p0 X4 X2 Q2 a1 n1 c1 p1 a2 c2 r hS Q3 h1 hG1 hm=>by
  refine enter (args := [pt X4 X2,sv a2 p1 c2]) Tryz.func25 rfl Tryz.ntmps25 rfl fun J => ?_
  unfold M4 at hm
  refine sq2 (rg (pv (Z9 rfl) (wl rfl (bsS (r:=G9) (l:=([([123]:List UInt8)]:List (List UInt8))) (css := [[qZs [123]]]) hS underlying74 sizeOf9 zeroValue9 rfl rfl (by kernel_rfl) rfl ⟨rfl,qZt⟩ rfl rfl fun w1 a3 n2 c3 im1 hS1 => ?_))))
  obtain⟨T1,im2,hS2,h2⟩:=hS1.seal 0 ⟨rfl,rfl⟩
  have hsh:=h2.len
  subst hsh
  obtain⟨y1,hx1,hm⟩:=Q4 hm
  refine wl rfl (Z7 I6 rfl (Z2 (p0:=p0) (Q2:=Q2) (p1:=([([123]:List UInt8)]:List (List UInt8))) (hS2.bun [1] [2,3] rfl) Q3 h2 hx1) rfl fun v1 T2 w2 im3 rv1 => ?_)
  obtain⟨a4,n3,c4,rfl,hS3,_⟩:=rv1
  have hS3:=hS3.unb
  refine nil (Q0 ?_)
  refine sq2 (sq2 (rg (pv (N2 rfl) (pv (L3 rfl underlying62) (pv (U1 rfl) (nil (Q0 ?_)))))))
  obtain⟨o1,ho1,hq1⟩:=Q4 hm
  obtain⟨bd1,hbd1,ho1⟩:=K3 ho1
  refine blk (wp_loop_ghost (fun m a w3 => ∃(J:JV) (T3:TP) (x3:Q5) (a5:OA) (n4:Nat) (c5:Nat) (x2:Int),a=env (nf 22) J [(0,pt X4 X2),(9,sv a2 p1 c2),(10,iv (List.length p1:Int)),(11,iv x2)]∧Im T2 w2 T3 w3∧Sep g T3 w3 [R,Q2 [.slice a5 n4 c5],G3 G9 9 (.slice a5 n4 c5) x3.l]∧V7 bd1 m (x2,x3)=some o1) NN ⟨_,_,y1,_,_,_,0,Q7 ⟨rfl,rfl,rfl,rfl,qZt⟩,Im.refl,hS3.sel [0,1,2] rfl,ho1⟩ ?_)
  rintro m _ w3 ⟨J,T3,x3,a5,n4,c5,x2,rfl,im4,hS4,ho1⟩
  obtain⟨m1,z1,rfl,hm,hn1⟩:=U4 ho1
  rw [hbd1] at hm
  refine sq2 (rg (pv (X7 rfl rfl rfl) (nil (Q0 ?_))))
  refine sq2 (cnd rfl (fun hb1 => ?_) (fun hb1 => ?_))
  · have hm:=V8 hb1 hm
    refine skp (Q0 ?_)
    refine sq2 (blk (sq2 ?_))
    obtain⟨u1,hx2,hm⟩:=Q4 hm
    obtain⟨b1,of1,cs1,k1,cp1,hv1,hp1,hl1,he1,hr1,hc1,hT1⟩:=(h1.mono (iT im1 (iT im2 (iT im3 im4)))).ixT hx2 rfl
    obtain⟨a6,c6,a7,c7,a8,c8,a9,c9,a10,c10,a11,c11,a12,c12,rfl,h3,h4,h5,h6,h7,h8,h9⟩:=Q2r hr1
    refine rg (pv (B2 hv1 rfl underlying62 sizeOf68 hp1 hl1 he1) (pv (Z5 rfl isAgg68 sizeOf68 rfl hc1 (cs:=(B4 u1 a6 c6 a7 c7 a8 c8 a9 c9 a10 c10 a11 c11 a12 c12))) (wl rfl (alS (zs := [iv 0,iv 0,iv 0,.slice none 0 0,.slice none 0 0,.slice none 0 0,.slice none 0 0,.slice none 0 0,.slice none 0 0,.slice none 0 0]) zeroValue68 rfl hS4 fun w4 b2 im5 hS5 => ?_))))
    refine wl rfl (X6 (q:=0) hS5 ⟨rfl,rfl⟩ rfl rfl rfl sizeOf68 rfl rfl rfl fun w5 im6 hS6 => ?_)
    refine nil (Q0 ?_)
    obtain⟨y2,hx3,hm⟩:=Q4 hm
    refine rg (pv (Z9 rfl) (pv (Z5 rfl isAgg68 sizeOf68 rfl (hS6.cells0 (i:=0) ⟨rfl,rfl⟩ (o:=0) rfl) (cs:=(B4 u1 a6 c6 a7 c7 a8 c8 a9 c9 a10 c10 a11 c11 a12 c12))) (wl rfl (Z7 cf44 rfl (hG.J2 (p0:=x3) (Q2:=Q2) (p1:=u1) (hS6.bun [1] [2,3] rfl) Q3 (h3.mono (iT im5 im6)) (h4.mono (iT im5 im6)) (h5.mono (iT im5 im6)) (h6.mono (iT im5 im6)) (h7.mono (iT im5 im6)) (h8.mono (iT im5 im6)) (h9.mono (iT im5 im6)) (hG1.mono (iT im1 (iT im2 (iT im3 (iT im4 (iT im5 im6)))))) hx3) rfl fun v2 T4 w6 im7 rv2 => ?_))))
    obtain⟨a13,n5,c13,rfl,hS7,_⟩:=rv2
    have hS7:=hS7.unb
    refine nil (U6 (Q0 ?_))
    cases oI hm
    exact rg (pv (X7 rfl rfl rfl) (pv (U1 rfl) (nil (Q0 ⟨m1,Nat.lt_succ_self _,_,_,y2,_,_,_,(IntKind.wrap .i64 (x2+1)),Q7 ⟨rfl,rfl,rfl,rfl,qZt⟩,(iT im4 (iT im5 (iT im6 im7))),hS7.sel [0,1,2] rfl,hn1⟩))))
  have hm:=X3 hb1 hm
  cases oI hm
  have hn1:_=Lp.brk _:=hn1
  subst hn1
  have hm:=F1 hq1
  refine xt (V9 (V9 (L5 (Q0 ?_))))
  refine rg (pv (Z9 rfl) (wl rfl (bsS (r:=G9) (l:=([([125]:List UInt8)]:List (List UInt8))) (css := [[qZs [125]]]) hS4 underlying74 sizeOf9 zeroValue9 rfl rfl (by kernel_rfl) rfl ⟨rfl,qZt⟩ rfl rfl fun w7 a14 n6 c14 im8 hS8 => ?_)))
  obtain⟨T5,im9,hS9,h10⟩:=hS8.seal 0 ⟨rfl,rfl⟩
  have hsh:=h10.len
  subst hsh
  obtain⟨y3,hx4,hm⟩:=Q4 hm
  refine wl rfl (Z7 I6 rfl (Z2 (p0:=x3) (Q2:=Q2) (p1:=([([125]:List UInt8)]:List (List UInt8))) (hS9.bun [1] [2,3] rfl) Q3 h10 hx4) rfl fun v3 T6 w8 im10 rv3 => ?_)
  obtain⟨a15,n7,c15,rfl,hS10,_⟩:=rv3
  have hS10:=hS10.unb
  cases oI hm
  exact nil (S7 rfl ⟨_,rfl,_,(iT im1 (iT im2 (iT im3 (iT im4 (iT im8 (iT im9 im10)))))),⟨_,_,_,rfl,hS10.sel [0,1,2] rfl,qZt⟩⟩)
theorem sp4 : ∀ n,Sp4 (Q3g n)
  | 0=>⟨(by unfold S8; intros; rename_i h; cases (show (none:Option _)=some _ from h)),(by unfold Q0b; intros; rename_i h; cases (show (none:Option _)=some _ from h)),(by unfold S9; intros; rename_i h; cases (show (none:Option _)=some _ from h))⟩
  | n+1=>⟨Q6m (sp4 n),Q7p (sp4 n),Q6n (sp4 n)⟩
theorem Z3y:S8 B5:=(sp4 NN).B5
theorem Z4e:Q0b J2:=(sp4 NN).J2
theorem Q6g:S9 V4:=(sp4 NN).V4

theorem Q4c {p0:K4} {a1:OA} {c1:Nat} {a2:OA} {c2:Nat} {a3:OA} {c3:Nat} {r:(List UInt8)} (hS:Sep g T0 w0 [R]) (h1:SlR D3 T0 w0 (sv a1 p0.Structs c1) p0.Structs) (h2:SlR G7 T0 w0 (sv a2 p0.Globals c2) p0.Globals) (h3:SlR A1 T0 w0 (sv a3 p0.Funcs c3) p0.Funcs) (hG1:Gc T0 w0 1 (Lib.pow10Tab.map fun z=>Value.int .u64 z)) (hm:S4 p0=some r) :
    Calls Tryz.prog 9 #[.agg #[sv a1 p0.Structs c1,sv a2 p0.Globals c2,sv a3 p0.Funcs c3]] w0 (E6 T0 w0 fun T w v=>v=(qZs r)∧Sep g T w [R]∧True):=by
  refine enter (args := [.agg #[sv a1 p0.Structs c1,sv a2 p0.Globals c2,sv a3 p0.Funcs c3]]) Tryz.func9 rfl Tryz.ntmps9 rfl fun J => ?_
  unfold S4 at hm
  refine sq2 (rg (wl rfl (bxS (cs := [sv a1 p0.Structs c1,sv a2 p0.Globals c2,sv a3 p0.Funcs c3]) rfl rfl hS fun w1 b1 im1 hS1 => ?_)))
  refine pv (Q5r rfl) (nil (Q0 ?_))
  refine sq2 (rg (pv (A8 (by kernel_rfl) rfl (u := .agg #[.slice none 0 0])) (wl rfl (bxS (cs := [.slice none 0 0]) rfl rfl hS1 fun w2 b2 im2 hS2 => ?_))))
  refine pv (r_zp rfl) (nil (Q0 ?_))
  refine sq2 (sq2 (rg (pv (Z1 rfl underlying27 rfl sizeOf23 rfl) (pv (Z4 rfl isAgg23 (hS2.cell0 (i:=1) ⟨rfl,rfl⟩ (j:=0) rfl)) (pv (L3 rfl underlying23) (pv (U1 rfl) (nil (Q0 ?_))))))))
  obtain⟨o1,ho1,hq1⟩:=Q4 hm
  obtain⟨bd1,hbd1,ho1⟩:=K3 ho1
  have hS3:=hS2.nilO G9 9
  refine blk (wp_loop_ghost (fun m a w3 => ∃(J:JV) (T1:TP) (x3:Q5) (a4:OA) (n1:Nat) (c4:Nat) (x2:Int),a=env (nf 106) J [(1,pt b1 0),(3,pt b2 0),(17,sv a1 p0.Structs c1),(18,iv (List.length p0.Structs:Int)),(19,iv x2)]∧Im T0 w2 T1 w3∧Sep g T1 w3 [G3 G9 9 (.slice a4 n1 c4) x3.l,J6 b2 [.slice a4 n1 c4],J6 b1 [sv a1 p0.Structs c1,sv a2 p0.Globals c2,sv a3 p0.Funcs c3],R]∧V7 bd1 m (x2,x3)=some o1) NN ⟨_,_,(⟨[]⟩:Q5),_,_,_,0,Q7 ⟨rfl,rfl,rfl,rfl,rfl,qZt⟩,Im.refl,hS3.sel [0,1,2,3] rfl,ho1⟩ ?_)
  rintro m _ w3 ⟨J,T1,x3,a4,n1,c4,x2,rfl,im3,hS4,ho1⟩
  obtain⟨m1,z1,rfl,hm,hn1⟩:=U4 ho1
  rw [hbd1] at hm
  refine sq2 (rg (pv (X7 rfl rfl rfl) (nil (Q0 ?_))))
  refine sq2 (cnd rfl (fun hb1 => ?_) (fun hb1 => ?_))
  · have hm:=V8 hb1 hm
    refine skp (Q0 ?_)
    refine sq2 (blk (sq2 ?_))
    obtain⟨u1,hx1,hm⟩:=Q4 hm
    obtain⟨b3,of1,cs1,k1,cp1,hv1,hp1,hl1,he1,hr1,hc1,hT1⟩:=(h1.mono (iT im1 (iT im2 im3))).ixT hx1 rfl
    obtain⟨a5,c5,rfl,h4⟩:=Q1l hr1
    refine rg (pv (B2 hv1 rfl underlying23 sizeOf51 hp1 hl1 he1) (pv (Z5 rfl isAgg51 sizeOf51 rfl hc1 (cs:=(D8 u1 a5 c5))) (wl rfl (alS (zs := [iv 0,iv 0,qZs [],.slice none 0 0]) zeroValue51 rfl hS4 fun w4 b4 im4 hS5 => ?_))))
    refine wl rfl (X6 (q:=0) hS5 ⟨rfl,rfl⟩ rfl rfl rfl sizeOf51 rfl rfl rfl fun w5 im5 hS6 => ?_)
    refine nil (Q0 ?_)
    refine sq2 (rg (pv (Z9 rfl) (pv (Z1 rfl underlying51 rfl sizeOf9 rfl) (pv (Z4 rfl isAgg9 (hS6.cell0 (i:=0) ⟨rfl,rfl⟩ (j:=2) rfl)) (wl rfl (bsS (r:=G9) (l:=([([115,116,114,117,99,116]:List UInt8),u1.Name,([123]:List UInt8)]:List (List UInt8))) (css := [[qZs [115,116,114,117,99,116]],[qZs u1.Name],[qZs [123]]]) hS6 underlying74 sizeOf9 zeroValue9 rfl rfl (by kernel_rfl) rfl ⟨rfl,rfl,rfl,qZt⟩ rfl rfl fun w6 a6 n2 c6 im6 hS7 => ?_))))))
    obtain⟨T2,im7,hS8,h5⟩:=hS7.seal 0 ⟨rfl,rfl⟩
    have hsh:=h5.len
    subst hsh
    obtain⟨y1,hx2,hm⟩:=Q4 hm
    refine wl rfl (Z7 I6 rfl (Z2 (p0:=x3) (Q2:=J6 b2) (p1:=([([115,116,114,117,99,116]:List UInt8),u1.Name,([123]:List UInt8)]:List (List UInt8))) (hS8.bun [1,4,5] [3,2] rfl) (Q0x b2) h5 hx2) rfl fun v1 T3 w7 im8 rv1 => ?_)
    obtain⟨a7,n3,c7,rfl,hS9,_⟩:=rv1
    have hS9:=hS9.unb
    refine nil (Q0 ?_)
    refine sq2 (sq2 (rg (pv (Z1 rfl underlying51 rfl sizeOf24 rfl) (pv (Z4 rfl isAgg24 (hS9.cell0 (i:=0) ⟨rfl,rfl⟩ (j:=3) rfl)) (pv (L3 rfl underlying24) (pv (U1 rfl) (nil (Q0 ?_))))))))
    obtain⟨o2,ho2,hq2⟩:=Q4 hm
    obtain⟨bd2,hbd2,ho2⟩:=K3 ho2
    refine blk (wp_loop_ghost (fun m a w8 => ∃(J:JV) (T4:TP) (x6:Q5) (a8:OA) (n4:Nat) (c8:Nat) (x5:Int),a=env (nf 106) J [(1,pt b1 0),(3,pt b2 0),(17,sv a1 p0.Structs c1),(18,iv (List.length p0.Structs:Int)),(19,iv x2),(29,sv a5 u1.Fields c5),(30,iv (List.length u1.Fields:Int)),(31,iv x5)]∧Im T3 w7 T4 w8∧Sep g T4 w8 [J6 b1 [sv a1 p0.Structs c1,sv a2 p0.Globals c2,sv a3 p0.Funcs c3],R,J6 b2 [.slice a8 n4 c8],G3 G9 9 (.slice a8 n4 c8) x6.l]∧V7 bd2 m (x5,x6)=some o2) NN ⟨_,_,y1,_,_,_,0,Q7 ⟨rfl,rfl,rfl,rfl,rfl,rfl,rfl,rfl,qZt⟩,Im.refl,hS9.sel [1,2,3,4] rfl,ho2⟩ ?_)
    rintro m _ w8 ⟨J,T4,x6,a8,n4,c8,x5,rfl,im9,hS10,ho2⟩
    obtain⟨m2,z2,rfl,hm,hn2⟩:=U4 ho2
    rw [hbd2] at hm
    refine sq2 (rg (pv (X7 rfl rfl rfl) (nil (Q0 ?_))))
    refine sq2 (cnd rfl (fun hb2 => ?_) (fun hb2 => ?_))
    · have hm:=V8 hb2 hm
      refine skp (Q0 ?_)
      refine sq2 (blk (sq2 ?_))
      obtain⟨u2,hx3,hm⟩:=Q4 hm
      obtain⟨b5,of2,cs2,k2,cp2,hv2,hp2,hl2,he2,hr2,hc2,hT2⟩:=(h4.mono (iT im4 (iT im5 (iT im6 (iT im7 (iT im8 im9)))))).ixT hx3 rfl
      obtain⟨a9,c9,a10,c10,rfl,h6,h7⟩:=Q1e hr2
      refine rg (pv (B2 hv2 rfl underlying24 sizeOf58 hp2 hl2 he2) (pv (Z5 rfl isAgg58 sizeOf58 rfl hc2 (cs:=(N1 u2 a9 c9 a10 c10))) (wl rfl (alS (zs := [iv 0,iv 0,qZs [],qZs [],iv 0,qZs [],.slice none 0 0,.slice none 0 0,.bool false]) zeroValue58 rfl hS10 fun w9 b6 im10 hS11 => ?_))))
      refine wl rfl (X6 (q:=0) hS11 ⟨rfl,rfl⟩ rfl rfl rfl sizeOf58 rfl rfl rfl fun w10 im11 hS12 => ?_)
      refine nil (Q0 ?_)
      refine sq2 ?_
      obtain⟨y2,hx4,hm⟩:=Q4 hm
      refine rg (pv (Z9 rfl) (pv (Z5 rfl isAgg58 sizeOf58 rfl (hS12.cells0 (i:=0) ⟨rfl,rfl⟩ (o:=0) rfl) (cs:=(N1 u2 a9 c9 a10 c10))) (wl rfl (Z7 cf23 rfl (I2 (p0:=x6) (Q2:=J6 b2) (p1:=u2) (hS12.bun [1,2] [3,4] rfl) (Q0x b2) (h6.mono (iT im10 im11)) (h7.mono (iT im10 im11)) (hG1.mono (iT im1 (iT im2 (iT im3 (iT im4 (iT im5 (iT im6 (iT im7 (iT im8 (iT im9 (iT im10 im11))))))))))) hx4) rfl fun v2 T5 w11 im12 rv2 => ?_))))
      obtain⟨a11,n5,c11,rfl,hS13,_⟩:=rv2
      have hS13:=hS13.unb
      refine nil (Q0 ?_)
      refine rg (pv (Z9 rfl) (wl rfl (bsS (r:=G9) (l:=([([59]:List UInt8)]:List (List UInt8))) (css := [[qZs [59]]]) hS13 underlying74 sizeOf9 zeroValue9 rfl rfl (by kernel_rfl) rfl ⟨rfl,qZt⟩ rfl rfl fun w12 a12 n6 c12 im13 hS14 => ?_)))
      obtain⟨T6,im14,hS15,h8⟩:=hS14.seal 0 ⟨rfl,rfl⟩
      have hsh:=h8.len
      subst hsh
      obtain⟨y3,hx5,hm⟩:=Q4 hm
      refine wl rfl (Z7 I6 rfl (Z2 (p0:=y2) (Q2:=J6 b2) (p1:=([([59]:List UInt8)]:List (List UInt8))) (hS15.bun [1,2] [3,4] rfl) (Q0x b2) h8 hx5) rfl fun v3 T7 w13 im15 rv3 => ?_)
      obtain⟨a13,n7,c13,rfl,hS16,_⟩:=rv3
      have hS16:=hS16.unb
      refine nil (U6 (Q0 ?_))
      cases oI hm
      exact rg (pv (X7 rfl rfl rfl) (pv (U1 rfl) (nil (Q0 ⟨m2,Nat.lt_succ_self _,_,_,y3,_,_,_,(IntKind.wrap .i64 (x5+1)),Q7 ⟨rfl,rfl,rfl,rfl,rfl,rfl,rfl,rfl,qZt⟩,(iT im9 (iT im10 (iT im11 (iT im12 (iT im13 (iT im14 im15)))))),hS16.sel [0,1,2,3] rfl,hn2⟩))))
    have hm:=X3 hb2 hm
    cases oI hm
    have hn2:_=Lp.brk _:=hn2
    subst hn2
    have hm:=F1 hq2
    refine xt (V9 (V9 (L5 (Q0 ?_))))
    refine rg (pv (Z9 rfl) (wl rfl (bsS (r:=G9) (l:=([([125]:List UInt8),([59]:List UInt8)]:List (List UInt8))) (css := [[qZs [125]],[qZs [59]]]) hS10 underlying74 sizeOf9 zeroValue9 rfl rfl (by kernel_rfl) rfl ⟨rfl,rfl,qZt⟩ rfl rfl fun w14 a14 n8 c14 im16 hS17 => ?_)))
    obtain⟨T8,im17,hS18,h9⟩:=hS17.seal 0 ⟨rfl,rfl⟩
    have hsh:=h9.len
    subst hsh
    obtain⟨y4,hx6,hm⟩:=Q4 hm
    refine wl rfl (Z7 I6 rfl (Z2 (p0:=x6) (Q2:=J6 b2) (p1:=([([125]:List UInt8),([59]:List UInt8)]:List (List UInt8))) (hS18.bun [1,2] [3,4] rfl) (Q0x b2) h9 hx6) rfl fun v4 T9 w15 im18 rv4 => ?_)
    obtain⟨a15,n9,c15,rfl,hS19,_⟩:=rv4
    have hS19:=hS19.unb
    refine nil (U6 (Q0 ?_))
    cases oI hm
    exact rg (pv (X7 rfl rfl rfl) (pv (U1 rfl) (nil (Q0 ⟨m1,Nat.lt_succ_self _,_,_,y4,_,_,_,(IntKind.wrap .i64 (x2+1)),Q7 ⟨rfl,rfl,rfl,rfl,rfl,qZt⟩,(iT im3 (iT im4 (iT im5 (iT im6 (iT im7 (iT im8 (iT im9 (iT im16 (iT im17 im18))))))))),hS19.sel [3,2,0,1] rfl,hn1⟩))))
  have hm:=X3 hb1 hm
  cases oI hm
  have hn1:_=Lp.brk _:=hn1
  subst hn1
  have hm:=F1 hq1
  refine xt (V9 (V9 (L5 (Q0 ?_))))
  refine sq2 (sq2 (rg (pv (Z1 rfl underlying27 rfl sizeOf24 rfl) (pv (Z4 rfl isAgg24 (hS4.cell0 (i:=2) ⟨rfl,rfl⟩ (j:=1) rfl)) (pv (L3 rfl underlying24) (pv (U1 rfl) (nil (Q0 ?_))))))))
  obtain⟨o1,ho1,hq1⟩:=Q4 hm
  obtain⟨bd1,hbd1,ho1⟩:=K3 ho1
  refine blk (wp_loop_ghost (fun m a w16 => ∃(J:JV) (T10:TP) (x9:Q5) (a16:OA) (n10:Nat) (c16:Nat) (x8:Int),a=env (nf 106) J [(1,pt b1 0),(3,pt b2 0),(47,sv a2 p0.Globals c2),(48,iv (List.length p0.Globals:Int)),(49,iv x8)]∧Im T1 w3 T10 w16∧Sep g T10 w16 [G3 G9 9 (.slice a16 n10 c16) x9.l,J6 b2 [.slice a16 n10 c16],J6 b1 [sv a1 p0.Structs c1,sv a2 p0.Globals c2,sv a3 p0.Funcs c3],R]∧V7 bd1 m (x8,x9)=some o1) NN ⟨_,_,x3,_,_,_,0,Q7 ⟨rfl,rfl,rfl,rfl,rfl,qZt⟩,Im.refl,hS4.sel [0,1,2,3] rfl,ho1⟩ ?_)
  rintro m _ w16 ⟨J,T10,x9,a16,n10,c16,x8,rfl,im19,hS20,ho1⟩
  obtain⟨m1,z1,rfl,hm,hn1⟩:=U4 ho1
  rw [hbd1] at hm
  refine sq2 (rg (pv (X7 rfl rfl rfl) (nil (Q0 ?_))))
  refine sq2 (cnd rfl (fun hb3 => ?_) (fun hb3 => ?_))
  · have hm:=V8 hb3 hm
    refine skp (Q0 ?_)
    refine sq2 (blk (sq2 ?_))
    obtain⟨u3,hx7,hm⟩:=Q4 hm
    obtain⟨b7,of3,cs3,k3,cp3,hv3,hp3,hl3,he3,hr3,hc3,hT3⟩:=(h2.mono (iT im1 (iT im2 (iT im3 im19)))).ixT hx7 rfl
    obtain⟨a17,c17,a18,c18,rfl,h10,h11⟩:=Q1e hr3
    refine rg (pv (B2 hv3 rfl underlying24 sizeOf58 hp3 hl3 he3) (pv (Z5 rfl isAgg58 sizeOf58 rfl hc3 (cs:=(N1 u3 a17 c17 a18 c18))) (wl rfl (alS (zs := [iv 0,iv 0,qZs [],qZs [],iv 0,qZs [],.slice none 0 0,.slice none 0 0,.bool false]) zeroValue58 rfl hS20 fun w17 b8 im20 hS21 => ?_))))
    refine wl rfl (X6 (q:=0) hS21 ⟨rfl,rfl⟩ rfl rfl rfl sizeOf58 rfl rfl rfl fun w18 im21 hS22 => ?_)
    refine nil (Q0 ?_)
    refine sq2 ?_
    obtain⟨y5,hx8,hm⟩:=Q4 hm
    refine rg (pv (Z9 rfl) (pv (Z5 rfl isAgg58 sizeOf58 rfl (hS22.cells0 (i:=0) ⟨rfl,rfl⟩ (o:=0) rfl) (cs:=(N1 u3 a17 c17 a18 c18))) (wl rfl (Z7 cf23 rfl (I2 (p0:=x9) (Q2:=J6 b2) (p1:=u3) (hS22.bun [3,4] [2,1] rfl) (Q0x b2) (h10.mono (iT im20 im21)) (h11.mono (iT im20 im21)) (hG1.mono (iT im1 (iT im2 (iT im3 (iT im19 (iT im20 im21)))))) hx8) rfl fun v5 T11 w19 im22 rv5 => ?_))))
    obtain⟨a19,n11,c19,rfl,hS23,_⟩:=rv5
    have hS23:=hS23.unb
    refine nil (Q0 ?_)
    refine rg (pv (Z9 rfl) (wl rfl (bsS (r:=G9) (l:=([([59]:List UInt8)]:List (List UInt8))) (css := [[qZs [59]]]) hS23 underlying74 sizeOf9 zeroValue9 rfl rfl (by kernel_rfl) rfl ⟨rfl,qZt⟩ rfl rfl fun w20 a20 n12 c20 im23 hS24 => ?_)))
    obtain⟨T12,im24,hS25,h12⟩:=hS24.seal 0 ⟨rfl,rfl⟩
    have hsh:=h12.len
    subst hsh
    obtain⟨y6,hx9,hm⟩:=Q4 hm
    refine wl rfl (Z7 I6 rfl (Z2 (p0:=y5) (Q2:=J6 b2) (p1:=([([59]:List UInt8)]:List (List UInt8))) (hS25.bun [1,2] [3,4] rfl) (Q0x b2) h12 hx9) rfl fun v6 T13 w21 im25 rv6 => ?_)
    obtain⟨a21,n13,c21,rfl,hS26,_⟩:=rv6
    have hS26:=hS26.unb
    refine nil (U6 (Q0 ?_))
    cases oI hm
    exact rg (pv (X7 rfl rfl rfl) (pv (U1 rfl) (nil (Q0 ⟨m1,Nat.lt_succ_self _,_,_,y6,_,_,_,(IntKind.wrap .i64 (x8+1)),Q7 ⟨rfl,rfl,rfl,rfl,rfl,qZt⟩,(iT im19 (iT im20 (iT im21 (iT im22 (iT im23 (iT im24 im25)))))),hS26.sel [3,2,0,1] rfl,hn1⟩))))
  have hm:=X3 hb3 hm
  cases oI hm
  have hn1:_=Lp.brk _:=hn1
  subst hn1
  have hm:=F1 hq1
  refine xt (V9 (V9 (L5 (Q0 ?_))))
  refine sq2 (sq2 (rg (pv (Z1 rfl underlying27 rfl sizeOf25 rfl) (pv (Z4 rfl isAgg25 (hS20.cell0 (i:=2) ⟨rfl,rfl⟩ (j:=2) rfl)) (pv (L3 rfl underlying25) (pv (U1 rfl) (nil (Q0 ?_))))))))
  obtain⟨o1,ho1,hq1⟩:=Q4 hm
  obtain⟨bd1,hbd1,ho1⟩:=K3 ho1
  refine blk (wp_loop_ghost (fun m a w22 => ∃(J:JV) (T14:TP) (x12:Q5) (a22:OA) (n14:Nat) (c22:Nat) (x11:Int),a=env (nf 106) J [(3,pt b2 0),(61,sv a3 p0.Funcs c3),(62,iv (List.length p0.Funcs:Int)),(63,iv x11)]∧Im T10 w16 T14 w22∧Sep g T14 w22 [G3 G9 9 (.slice a22 n14 c22) x12.l,J6 b2 [.slice a22 n14 c22],R]∧V7 bd1 m (x11,x12)=some o1) NN ⟨_,_,x9,_,_,_,0,Q7 ⟨rfl,rfl,rfl,rfl,qZt⟩,Im.refl,hS20.sel [0,1,3] rfl,ho1⟩ ?_)
  rintro m _ w22 ⟨J,T14,x12,a22,n14,c22,x11,rfl,im26,hS27,ho1⟩
  obtain⟨m1,z1,rfl,hm,hn1⟩:=U4 ho1
  rw [hbd1] at hm
  refine sq2 (rg (pv (X7 rfl rfl rfl) (nil (Q0 ?_))))
  refine sq2 (cnd rfl (fun hb4 => ?_) (fun hb4 => ?_))
  · have hm:=V8 hb4 hm
    refine skp (Q0 ?_)
    refine sq2 (blk (sq2 ?_))
    obtain⟨u4,hx10,hm⟩:=Q4 hm
    obtain⟨b9,of4,cs4,k4,cp4,hv4,hp4,hl4,he4,hr4,hc4,hT4⟩:=(h3.mono (iT im1 (iT im2 (iT im3 (iT im19 im26))))).ixT hx10 rfl
    obtain⟨a23,c23,a24,c24,rfl,h13,h14⟩:=Q3i hr4
    refine rg (pv (B2 hv4 rfl underlying25 sizeOf64 hp4 hl4 he4) (pv (Z5 rfl isAgg64 sizeOf64 rfl hc4 (cs:=(A2 u4 a23 c23 a24 c24))) (wl rfl (alS (zs := [iv 0,iv 0,qZs [],qZs [],iv 0,qZs [],.slice none 0 0,.slice none 0 0]) zeroValue64 rfl hS27 fun w23 b10 im27 hS28 => ?_))))
    refine wl rfl (X6 (q:=0) hS28 ⟨rfl,rfl⟩ rfl rfl rfl sizeOf64 rfl rfl rfl fun w24 im28 hS29 => ?_)
    refine nil (Q0 ?_)
    refine sq2 ?_
    obtain⟨y7,hx11,hm⟩:=Q4 hm
    refine rg (pv (Z9 rfl) (pv (Z1 rfl underlying64 rfl sizeOf54 rfl) (pv (Z5 rfl isAgg54 sizeOf54 rfl (hS29.cells0 (i:=0) ⟨rfl,rfl⟩ (o:=2) rfl) (cs:=(U3 u4.Ret))) (wl rfl (Z7 cf24 rfl (S3 (p0:=x12) (Q2:=J6 b2) (p1:=u4.Ret) (hS29.bun [0,3] [2,1] rfl) (Q0x b2) hx11) rfl fun v7 T15 w25 im29 rv7 => ?_)))))
    obtain⟨a25,n15,c25,rfl,hS30,_⟩:=rv7
    have hS30:=hS30.unb
    refine nil (Q0 ?_)
    refine sq2 (rg (pv (Z9 rfl) (pv (Z1 rfl underlying64 rfl sizeOf9 rfl) (pv (Z4 rfl isAgg9 (hS30.cell0 (i:=0) ⟨rfl,rfl⟩ (j:=5) rfl)) (wl rfl (bsS (r:=G9) (l:=([u4.Name,([40]:List UInt8)]:List (List UInt8))) (css := [[qZs u4.Name],[qZs [40]]]) hS30 underlying74 sizeOf9 zeroValue9 rfl rfl (by kernel_rfl) rfl ⟨rfl,rfl,qZt⟩ rfl rfl fun w26 a26 n16 c26 im30 hS31 => ?_))))))
    obtain⟨T16,im31,hS32,h15⟩:=hS31.seal 0 ⟨rfl,rfl⟩
    have hsh:=h15.len
    subst hsh
    obtain⟨y8,hx12,hm⟩:=Q4 hm
    refine wl rfl (Z7 I6 rfl (Z2 (p0:=y7) (Q2:=J6 b2) (p1:=([u4.Name,([40]:List UInt8)]:List (List UInt8))) (hS32.bun [1,2] [3,4] rfl) (Q0x b2) h15 hx12) rfl fun v8 T17 w27 im32 rv8 => ?_)
    obtain⟨a27,n17,c27,rfl,hS33,_⟩:=rv8
    have hS33:=hS33.unb
    refine nil (Q0 ?_)
    refine sq2 (sq2 (rg (pv (Z1 rfl underlying64 rfl sizeOf24 rfl) (pv (Z4 rfl isAgg24 (hS33.cell0 (i:=0) ⟨rfl,rfl⟩ (j:=6) rfl)) (pv (L3 rfl underlying24) (pv (U1 rfl) (nil (Q0 ?_))))))))
    obtain⟨o2,ho2,hq2⟩:=Q4 hm
    obtain⟨bd2,hbd2,ho2⟩:=K3 ho2
    refine blk (wp_loop_ghost (fun m a w28 => ∃(J:JV) (T18:TP) (x15:Q5) (a28:OA) (n18:Nat) (c28:Nat) (x14:Int),a=env (nf 106) J [(3,pt b2 0),(11,pt b10 0),(61,sv a3 p0.Funcs c3),(62,iv (List.length p0.Funcs:Int)),(63,iv x11),(77,sv a23 u4.Params c23),(78,iv (List.length u4.Params:Int)),(79,iv x14)]∧Im T17 w27 T18 w28∧Sep g T18 w28 [J6 b10 (A2 u4 a23 c23 a24 c24),R,J6 b2 [.slice a28 n18 c28],G3 G9 9 (.slice a28 n18 c28) x15.l]∧V7 bd2 m (x14,x15)=some o2) NN ⟨_,_,y8,_,_,_,0,Q7 ⟨rfl,rfl,rfl,rfl,rfl,rfl,rfl,rfl,qZt⟩,Im.refl,hS33.sel [0,1,2,3] rfl,ho2⟩ ?_)
    rintro m _ w28 ⟨J,T18,x15,a28,n18,c28,x14,rfl,im33,hS34,ho2⟩
    obtain⟨m2,z2,rfl,hm,hn2⟩:=U4 ho2
    rw [hbd2] at hm
    refine sq2 (rg (pv (X7 rfl rfl rfl) (nil (Q0 ?_))))
    refine sq2 (cnd rfl (fun hb5 => ?_) (fun hb5 => ?_))
    · have hm:=V8 hb5 hm
      refine skp (Q0 ?_)
      refine sq2 (blk (sq2 ?_))
      obtain⟨u5,hx13,hm⟩:=Q4 hm
      obtain⟨b11,of5,cs5,k5,cp5,hv5,hp5,hl5,he5,hr5,hc5,hT5⟩:=(h13.mono (iT im27 (iT im28 (iT im29 (iT im30 (iT im31 (iT im32 im33))))))).ixT hx13 rfl
      obtain⟨a29,c29,a30,c30,rfl,h16,h17⟩:=Q1e hr5
      refine rg (pv (U1 rfl) (pv (B2 hv5 rfl underlying24 sizeOf58 hp5 hl5 he5) (pv (Z5 rfl isAgg58 sizeOf58 rfl hc5 (cs:=(N1 u5 a29 c29 a30 c30))) (wl rfl (alS (zs := [iv 0,iv 0,qZs [],qZs [],iv 0,qZs [],.slice none 0 0,.slice none 0 0,.bool false]) zeroValue58 rfl hS34 fun w29 b12 im34 hS35 => ?_)))))
      refine pv (J0 rfl) (wl rfl (X6 (q:=0) hS35 ⟨rfl,rfl⟩ rfl rfl rfl sizeOf58 rfl rfl rfl fun w30 im35 hS36 => ?_))
      refine nil (Q0 ?_)
      obtain⟨kk1,hkk1,hm⟩:=F6 hm
      refine cut (fun a w31 => ∃(J:JV) (T19:TP) (x17:Q5) (a31:OA) (n19:Nat) (c31:Nat),a=env (nf 106) J [(3,pt b2 0),(11,pt b10 0),(13,pt b12 0),(61,sv a3 p0.Funcs c3),(62,iv (List.length p0.Funcs:Int)),(63,iv x11),(77,sv a23 u4.Params c23),(78,iv (List.length u4.Params:Int)),(79,iv x14)]∧Im T18 w30 T19 w31∧Sep g T19 w31 [J6 b12 (N1 u5 a29 c29 a30 c30),J6 b10 (A2 u4 a23 c23 a24 c24),R,J6 b2 [.slice a31 n19 c31],G3 G9 9 (.slice a31 n19 c31) x17.l]∧kk1 x17=some z2) ?_ ?_
      · refine sq2 (rg (pv (U1 rfl) (pv (X7 rfl rfl rfl) (nil (Q0 ?_)))))
        refine V3 rfl hm (fun hb6 hm => ?_) fun hb6 hm => ?_
        · refine rg (pv (Z9 rfl) (wl rfl (bsS (r:=G9) (l:=([([44]:List UInt8)]:List (List UInt8))) (css := [[qZs [44]]]) hS36 underlying74 sizeOf9 zeroValue9 rfl rfl (by kernel_rfl) rfl ⟨rfl,qZt⟩ rfl rfl fun w32 a32 n20 c32 im37 hS37 => ?_)))
          obtain⟨T20,im38,hS38,h18⟩:=hS37.seal 0 ⟨rfl,rfl⟩
          have hsh:=h18.len
          subst hsh
          obtain⟨y9,hx14,hm⟩:=Q4 hm
          refine wl rfl (Z7 I6 rfl (Z2 (p0:=x15) (Q2:=J6 b2) (p1:=([([44]:List UInt8)]:List (List UInt8))) (hS38.bun [1,2,3] [4,5] rfl) (Q0x b2) h18 hx14) rfl fun v9 T21 w33 im39 rv9 => ?_)
          obtain⟨a33,n21,c33,rfl,hS39,_⟩:=rv9
          have hS39:=hS39.unb
          exact nil (Q0 ⟨_,_,y9,_,_,_,Q7 ⟨rfl,rfl,rfl,rfl,rfl,rfl,rfl,rfl,rfl,qZt⟩,(iT im37 (iT im38 im39)),hS39.sel [0,1,2,3,4] rfl,hm⟩)
        exact skp (Q0 ⟨_,_,x15,_,_,_,Q7 ⟨rfl,rfl,rfl,rfl,rfl,rfl,rfl,rfl,rfl,qZt⟩,Im.refl,hS36.sel [0,1,2,3,4] rfl,hm⟩)
      rintro _ w31 ⟨J,T19,x17,a31,n19,c31,rfl,im36,hS40,hm⟩
      rw [hkk1] at hm
      obtain⟨y10,hx15,hm⟩:=Q4 hm
      refine rg (pv (Z9 rfl) (pv (Z5 rfl isAgg58 sizeOf58 rfl (hS40.cells0 (i:=0) ⟨rfl,rfl⟩ (o:=0) rfl) (cs:=(N1 u5 a29 c29 a30 c30))) (wl rfl (Z7 cf23 rfl (I2 (p0:=x17) (Q2:=J6 b2) (p1:=u5) (hS40.bun [1,2] [3,4] rfl) (Q0x b2) (h16.mono (iT im34 (iT im35 im36))) (h17.mono (iT im34 (iT im35 im36))) (hG1.mono (iT im1 (iT im2 (iT im3 (iT im19 (iT im26 (iT im27 (iT im28 (iT im29 (iT im30 (iT im31 (iT im32 (iT im33 (iT im34 (iT im35 im36))))))))))))))) hx15) rfl fun v10 T22 w34 im40 rv10 => ?_))))
      obtain⟨a34,n22,c34,rfl,hS41,_⟩:=rv10
      have hS41:=hS41.unb
      refine nil (U6 (Q0 ?_))
      cases oI hm
      exact rg (pv (X7 rfl rfl rfl) (pv (U1 rfl) (nil (Q0 ⟨m2,Nat.lt_succ_self _,_,_,y10,_,_,_,(IntKind.wrap .i64 (x14+1)),Q7 ⟨rfl,rfl,rfl,rfl,rfl,rfl,rfl,rfl,qZt⟩,(iT im33 (iT im34 (iT im35 (iT im36 im40)))),hS41.sel [0,1,2,3] rfl,hn2⟩))))
    have hm:=X3 hb5 hm
    cases oI hm
    have hn2:_=Lp.brk _:=hn2
    subst hn2
    have hm:=F1 hq2
    refine xt (V9 (V9 (L5 (Q0 ?_))))
    refine sq2 (rg (pv (Z9 rfl) (wl rfl (bsS (r:=G9) (l:=([([41]:List UInt8)]:List (List UInt8))) (css := [[qZs [41]]]) hS34 underlying74 sizeOf9 zeroValue9 rfl rfl (by kernel_rfl) rfl ⟨rfl,qZt⟩ rfl rfl fun w35 a35 n23 c35 im41 hS42 => ?_))))
    obtain⟨T23,im42,hS43,h19⟩:=hS42.seal 0 ⟨rfl,rfl⟩
    have hsh:=h19.len
    subst hsh
    obtain⟨y11,hx16,hm⟩:=Q4 hm
    refine wl rfl (Z7 I6 rfl (Z2 (p0:=x15) (Q2:=J6 b2) (p1:=([([41]:List UInt8)]:List (List UInt8))) (hS43.bun [1,2] [3,4] rfl) (Q0x b2) h19 hx16) rfl fun v11 T24 w36 im43 rv11 => ?_)
    obtain⟨a36,n24,c36,rfl,hS44,_⟩:=rv11
    have hS44:=hS44.unb
    refine nil (Q0 ?_)
    obtain⟨y12,hx17,hm⟩:=Q4 hm
    refine rg (pv (Z9 rfl) (pv (Z1 rfl underlying64 rfl sizeOf62 rfl) (pv (Z4 rfl isAgg62 (hS44.cell0 (i:=0) ⟨rfl,rfl⟩ (j:=7) rfl)) (wl rfl (Z7 cf25 rfl (Q6g (p0:=y11) (Q2:=J6 b2) (p1:=u4.Body) (hS44.bun [1] [2,3] rfl) (Q0x b2) (h14.mono (iT im27 (iT im28 (iT im29 (iT im30 (iT im31 (iT im32 (iT im33 (iT im41 (iT im42 im43)))))))))) (hG1.mono (iT im1 (iT im2 (iT im3 (iT im19 (iT im26 (iT im27 (iT im28 (iT im29 (iT im30 (iT im31 (iT im32 (iT im33 (iT im41 (iT im42 im43))))))))))))))) hx17) rfl fun v12 T25 w37 im44 rv12 => ?_)))))
    obtain⟨a37,n25,c37,rfl,hS45,_⟩:=rv12
    have hS45:=hS45.unb
    refine nil (U6 (Q0 ?_))
    cases oI hm
    exact rg (pv (X7 rfl rfl rfl) (pv (U1 rfl) (nil (Q0 ⟨m1,Nat.lt_succ_self _,_,_,y12,_,_,_,(IntKind.wrap .i64 (x11+1)),Q7 ⟨rfl,rfl,rfl,rfl,qZt⟩,(iT im26 (iT im27 (iT im28 (iT im29 (iT im30 (iT im31 (iT im32 (iT im33 (iT im41 (iT im42 (iT im43 im44))))))))))),hS45.sel [2,1,0] rfl,hn1⟩))))
  have hm:=X3 hb4 hm
  cases oI hm
  have hn1:_=Lp.brk _:=hn1
  subst hn1
  have hm:=F1 hq1
  refine xt (V9 (V9 (L5 (Q0 ?_))))
  refine sq2 (rg (pv (Z9 rfl) (pv (J1 rfl) (pv (Z1 rfl underlying76 rfl sizeOf74 rfl) (pv (Z4 rfl isAgg74 (hS27.cell0 (i:=1) ⟨rfl,rfl⟩ (j:=0) rfl)) (?_))))))
  obtain⟨T26,im45,hS46,h20⟩:=hS27.seal 0 ⟨rfl,rfl⟩
  have hsh:=h20.len
  subst hsh
  obtain⟨y13,hx18,hm⟩:=Q4 hm
  refine wl rfl (Z7 cf26 rfl (Q9t (p0:=x12.l) (p1 := [32]) (hS46.bun [2] [] rfl) h20 hx18) rfl fun v13 T27 w38 im46 rv13 => ?_)
  obtain⟨rfl,hS47,_⟩:=rv13
  have hS47:=hS47.unb
  refine pv (Q5r rfl) (nil (Q0 ?_))
  cases oI hm
  exact rtn (U2 rfl rfl ⟨_,rfl,_,(iT im1 (iT im2 (iT im3 (iT im19 (iT im26 (iT im45 im46)))))),⟨rfl,hS47.sel [0] rfl,qZt⟩⟩)

theorem Q3o  {r:Bool} (hS:Sep g T0 w0 [R]) (hG0:Gi T0 w0 0) (hG1:Gc T0 w0 1 (Lib.pow10Tab.map fun z=>Value.int .u64 z)) (hm:Q1t=some r) :
    Calls Tryz.prog 5 #[] w0 (E6 T0 w0 fun T w v=>v = .bool r∧Sep g T w [R]∧True):=by
  refine enter (args := []) Tryz.func5 rfl Tryz.ntmps5 rfl fun J => ?_
  unfold Q1t at hm
  refine sq2 (rg (pv (X5 rfl) (nil (Q0 ?_))))
  refine sq2 ?_
  obtain⟨y1,hx1,hm⟩:=Q4 hm
  refine rg (wl rfl (Z7 cf6 rfl (Q8a (p0 := [105,110,116,32,109,97,105,110,40,41,32,123,32,114,101,116,117,114,110,32,49,32,43,32,50,32,42,32,51,59,32,125]) (hS.bun [0] [] rfl) hG0 hx1) rfl fun v1 T1 w1 im1 rv1 => ?_))
  obtain⟨a1,c1,a2,c2,a3,c3,rfl,hS1,h1,h2,h3,_⟩:=rv1
  have hS1:=hS1.unb
  refine pv (r_mv rfl) (pv (Q4q (v := .agg #[sv a1 y1.1.Structs c1,sv a2 y1.1.Globals c2,sv a3 y1.1.Funcs c3]) rfl rfl) (pv (Q4q (v := .agg #[iv y1.2.1.Line,iv y1.2.1.Col]) rfl rfl) (pv (Q4q (v:=iv y1.2.2) rfl rfl) (wl rfl (alS (zs := [.slice none 0 0,.slice none 0 0,.slice none 0 0]) zeroValue27 rfl hS1 fun w2 b1 im2 hS2 => ?_)))))
  refine wl rfl (alS (zs := [iv 0,iv 0]) zeroValue29 rfl hS2 fun w3 b2 im3 hS3 => ?_)
  refine wl rfl (X6 (q:=1) hS3 ⟨rfl,rfl⟩ rfl rfl rfl sizeOf27 rfl rfl rfl fun w4 im4 hS4 => ?_)
  refine wl rfl (X6 (q:=0) hS4 ⟨rfl,rfl⟩ rfl rfl rfl sizeOf29 rfl rfl rfl fun w5 im5 hS5 => ?_)
  refine pv (J0 rfl) (nil (Q0 ?_))
  refine sq2 (rg (pv (U1 rfl) (pv (X7 rfl rfl rfl) (pv (Y7 rfl) (?_)))))
  rcases Bool.eq_false_or_eq_true (y1.2.2 == 0) with hb1 | hb1
  · have hm:=V8 hb1 hm
    refine gT (d0:=11) rfl rfl hb1 (pv (Z1 rfl underlying27 rfl sizeOf25 rfl) (gT (d0:=11) rfl rfl hb1 (pv (Z4 rfl isAgg25 (hS5.cell0 (i:=1) ⟨rfl,rfl⟩ (j:=2) rfl)) (gT (d0:=11) rfl rfl hb1 (pv (L3 rfl underlying25) (gT (d0:=11) rfl rfl hb1 (pv (X7 rfl rfl rfl) (pv (Y1 rfl hb1 rfl) (pv (Y7 rfl) (?_))))))))))
    rcases Bool.eq_false_or_eq_true ((List.length y1.1.Funcs:Int) == 1) with hb2 | hb2
    · have hm:=V8 hb2 hm
      obtain⟨y2,hx2,hm⟩:=Q4 hm
      refine gT (d0:=17) rfl rfl hb2 (pv (Z5 rfl isAgg27 sizeOf27 rfl (hS5.cells0 (i:=1) ⟨rfl,rfl⟩ (o:=0) rfl) (cs := [sv a1 y1.1.Structs c1,sv a2 y1.1.Globals c2,sv a3 y1.1.Funcs c3])) (gT (d0:=17) rfl rfl hb2 (wl rfl (Z7 cf9 rfl (Q4c (p0:=y1.1) (hS5.bun [2] [] rfl) (h1.mono (iT im2 (iT im3 (iT im4 im5)))) (h2.mono (iT im2 (iT im3 (iT im4 im5)))) (h3.mono (iT im2 (iT im3 (iT im4 im5)))) (hG1.mono (iT im1 (iT im2 (iT im3 (iT im4 im5))))) hx2) rfl fun v2 T2 w6 im6 rv2 => ?_))))
      obtain⟨rfl,hS6,_⟩:=rv2
      have hS6:=hS6.unb
      refine gT (d0:=17) rfl rfl hb2 (pv (E7 rfl rfl) (pv (Y1 rfl hb2 rfl) (pv (X5 rfl) (nil (Q0 ?_)))))
      cases oI hm
      exact rtn (U2 rfl rfl ⟨_,rfl,_,(iT im1 (iT im2 (iT im3 (iT im4 (iT im5 im6))))),⟨rfl,hS6.sel [0] rfl,qZt⟩⟩)
    have hm:=X3 hb2 hm
    refine gF (d0:=17) rfl rfl (by rw [hb2]; rfl) (gF (d0:=17) rfl rfl (by rw [hb2]; rfl) (gF (d0:=17) rfl rfl (by rw [hb2]; rfl) (pv (X9 rfl hb2 rfl) (pv (X5 rfl) (nil (Q0 ?_))))))
    cases oI hm
    exact rtn (U2 rfl rfl ⟨_,rfl,_,(iT im1 (iT im2 (iT im3 (iT im4 im5)))),⟨rfl,hS5.sel [2] rfl,qZt⟩⟩)
  have hm:=X3 hb1 hm
  refine gF (d0:=11) rfl rfl (by rw [hb1]; rfl) (gF (d0:=11) rfl rfl (by rw [hb1]; rfl) (gF (d0:=11) rfl rfl (by rw [hb1]; rfl) (gF (d0:=11) rfl rfl (by rw [hb1]; rfl) (pv (X9 rfl hb1 rfl) (pv (Y7 rfl) (gF (d0:=17) rfl rfl rfl (gF (d0:=17) rfl rfl rfl (gF (d0:=17) rfl rfl rfl (pv (X9 rfl rfl rfl) (pv (X5 rfl) (nil (Q0 ?_))))))))))))
  cases oI hm
  exact rtn (U2 rfl rfl ⟨_,rfl,_,(iT im1 (iT im2 (iT im3 (iT im4 im5)))),⟨rfl,hS5.sel [2] rfl,qZt⟩⟩)

theorem Q9u {p0:List F7} {a1:OA} {c1:Nat} {r:(List F7)} (hS:Sep g T0 w0 [R]) (h1:SlR D3 T0 w0 (sv a1 p0 c1) p0) (hm:Q5q p0=some r) :
    Calls Tryz.prog 32 #[sv a1 p0 c1] w0 (E6 T0 w0 fun T w v => ∃(a4:OA) (n3:Nat) (c4:Nat),v = .slice a4 n3 c4∧Sep g T w [R,G3 D3 51 (.slice a4 n3 c4) r]∧True):=by
  refine enter (args := [sv a1 p0 c1]) Tryz.func32 rfl Tryz.ntmps32 rfl fun J => ?_
  unfold Q5q at hm
  refine sq2 (rg (pv (P8 rfl) (nil (Q0 ?_))))
  refine sq2 (sq2 (rg (pv (N2 rfl) (pv (Z1p rfl rfl rfl underlying23) (nil (Q0 ?_))))))
  rcases SlR.nilOr h1 with ⟨hb1,hl0⟩ | hb1
  · subst hb1
    subst hl0
    have hm:some []=some r:=hm
    refine cnd (b:=true) rfl (fun _ => ?_) (fun h=>nomatch h)
    refine sq2 (rg (pv (P8 rfl) (nil (Q0 ?_))))
    have hS1:=hS.nilO D3 51
    cases oI hm
    exact rtn (Q6 (U2 rfl rfl ⟨_,rfl,_,Im.refl,⟨_,_,_,rfl,hS1.sel [1,0] rfl,qZt⟩⟩))
  refine cnd rfl (fun h=>absurd (h.symm.trans hb1) (fun h=>nomatch h)) (fun _ => ?_)
  refine skp (Q0 ?_)
  refine sq2 (rg (wl rfl (bs0S D3 hS underlying23 sizeOf51 fun w1 a2 n1 c2 im1 hS2 => ?_)))
  obtain⟨z_1,hro1,hm⟩:=Q4 hm
  refine pv (N2 rfl) (wl rfl (apO (q:=0) (l:=([]:List F7)) (us:=p0) hS2 ⟨rfl,rfl⟩ rfl rfl (h1.mono im1).v underlying23 el51 (D5 hro1) fun w2 a3 n2 c3 im2 hS3 => ?_))
  refine pv (P8 rfl) (nil (Q0 ?_))
  cases oI hm
  exact rtn (U2 rfl rfl ⟨_,rfl,_,(iT im1 im2),⟨_,_,_,rfl,hS3.sel [1,0] rfl,qZt⟩⟩)

theorem Q8m {p0:List J8} {a1:OA} {c1:Nat} {r:(List J8)} (hS:Sep g T0 w0 [R]) (h1:SlR G7 T0 w0 (sv a1 p0 c1) p0) (hm:Q4i p0=some r) :
    Calls Tryz.prog 33 #[sv a1 p0 c1] w0 (E6 T0 w0 fun T w v => ∃(a4:OA) (n3:Nat) (c4:Nat),v = .slice a4 n3 c4∧Sep g T w [R,G3 G7 58 (.slice a4 n3 c4) r]∧True):=by
  refine enter (args := [sv a1 p0 c1]) Tryz.func33 rfl Tryz.ntmps33 rfl fun J => ?_
  unfold Q4i at hm
  refine sq2 (rg (pv (P8 rfl) (nil (Q0 ?_))))
  refine sq2 (sq2 (rg (pv (N2 rfl) (pv (Z1p rfl rfl rfl underlying24) (nil (Q0 ?_))))))
  rcases SlR.nilOr h1 with ⟨hb1,hl0⟩ | hb1
  · subst hb1
    subst hl0
    have hm:some []=some r:=hm
    refine cnd (b:=true) rfl (fun _ => ?_) (fun h=>nomatch h)
    refine sq2 (rg (pv (P8 rfl) (nil (Q0 ?_))))
    have hS1:=hS.nilO G7 58
    cases oI hm
    exact rtn (Q6 (U2 rfl rfl ⟨_,rfl,_,Im.refl,⟨_,_,_,rfl,hS1.sel [1,0] rfl,qZt⟩⟩))
  refine cnd rfl (fun h=>absurd (h.symm.trans hb1) (fun h=>nomatch h)) (fun _ => ?_)
  refine skp (Q0 ?_)
  refine sq2 (rg (wl rfl (bs0S G7 hS underlying24 sizeOf58 fun w1 a2 n1 c2 im1 hS2 => ?_)))
  obtain⟨z_1,hro1,hm⟩:=Q4 hm
  refine pv (N2 rfl) (wl rfl (apO (q:=0) (l:=([]:List J8)) (us:=p0) hS2 ⟨rfl,rfl⟩ rfl rfl (h1.mono im1).v underlying24 el58 (D5 hro1) fun w2 a3 n2 c3 im2 hS3 => ?_))
  refine pv (P8 rfl) (nil (Q0 ?_))
  cases oI hm
  exact rtn (U2 rfl rfl ⟨_,rfl,_,(iT im1 im2),⟨_,_,_,rfl,hS3.sel [1,0] rfl,qZt⟩⟩)

theorem Q8l {p0:List Int} {a1:OA} {c1:Nat} {r:(List Int)} (hS:Sep g T0 w0 [R]) (h1:SlR (Q0m .u32) T0 w0 (sv a1 p0 c1) p0) (hm:Q1x p0=some r) :
    Calls Tryz.prog 34 #[sv a1 p0 c1] w0 (E6 T0 w0 fun T w v => ∃(a4:OA) (n3:Nat) (c4:Nat),v = .slice a4 n3 c4∧Sep g T w [R,G3 (Q0m .u32) 87 (.slice a4 n3 c4) r]∧True):=by
  refine enter (args := [sv a1 p0 c1]) Tryz.func34 rfl Tryz.ntmps34 rfl fun J => ?_
  unfold Q1x at hm
  refine sq2 (rg (pv (P8 rfl) (nil (Q0 ?_))))
  refine sq2 (sq2 (rg (pv (N2 rfl) (pv (Z1p rfl rfl rfl underlying55) (nil (Q0 ?_))))))
  rcases SlR.nilOr h1 with ⟨hb1,hl0⟩ | hb1
  · subst hb1
    subst hl0
    have hm:some []=some r:=hm
    refine cnd (b:=true) rfl (fun _ => ?_) (fun h=>nomatch h)
    refine sq2 (rg (pv (P8 rfl) (nil (Q0 ?_))))
    have hS1:=hS.nilO (Q0m .u32) 87
    cases oI hm
    exact rtn (Q6 (U2 rfl rfl ⟨_,rfl,_,Im.refl,⟨_,_,_,rfl,hS1.sel [1,0] rfl,qZt⟩⟩))
  refine cnd rfl (fun h=>absurd (h.symm.trans hb1) (fun h=>nomatch h)) (fun _ => ?_)
  refine skp (Q0 ?_)
  refine sq2 (rg (wl rfl (bs0S (Q0m .u32) hS underlying55 sizeOf87 fun w1 a2 n1 c2 im1 hS2 => ?_)))
  obtain⟨z_1,hro1,hm⟩:=Q4 hm
  refine pv (N2 rfl) (wl rfl (apO (q:=0) (l:=([]:List Int)) (us:=p0) hS2 ⟨rfl,rfl⟩ rfl rfl (h1.mono im1).v underlying55 el87 (D5 hro1) fun w2 a3 n2 c3 im2 hS3 => ?_))
  refine pv (P8 rfl) (nil (Q0 ?_))
  cases oI hm
  exact rtn (U2 rfl rfl ⟨_,rfl,_,(iT im1 im2),⟨_,_,_,rfl,hS3.sel [1,0] rfl,qZt⟩⟩)

theorem Q8k {p0:List Z6} {a1:OA} {c1:Nat} {r:(List Z6)} (hS:Sep g T0 w0 [R]) (h1:SlR X0 T0 w0 (sv a1 p0 c1) p0) (hm:Q4h p0=some r) :
    Calls Tryz.prog 69 #[sv a1 p0 c1] w0 (E6 T0 w0 fun T w v => ∃(a4:OA) (n3:Nat) (c4:Nat),v = .slice a4 n3 c4∧Sep g T w [R,G3 X0 99 (.slice a4 n3 c4) r]∧True):=by
  refine enter (args := [sv a1 p0 c1]) Tryz.func69 rfl Tryz.ntmps69 rfl fun J => ?_
  unfold Q4h at hm
  refine sq2 (rg (pv (P8 rfl) (nil (Q0 ?_))))
  refine sq2 (sq2 (rg (pv (N2 rfl) (pv (Z1p rfl rfl rfl underlying56) (nil (Q0 ?_))))))
  rcases SlR.nilOr h1 with ⟨hb1,hl0⟩ | hb1
  · subst hb1
    subst hl0
    have hm:some []=some r:=hm
    refine cnd (b:=true) rfl (fun _ => ?_) (fun h=>nomatch h)
    refine sq2 (rg (pv (P8 rfl) (nil (Q0 ?_))))
    have hS1:=hS.nilO X0 99
    cases oI hm
    exact rtn (Q6 (U2 rfl rfl ⟨_,rfl,_,Im.refl,⟨_,_,_,rfl,hS1.sel [1,0] rfl,qZt⟩⟩))
  refine cnd rfl (fun h=>absurd (h.symm.trans hb1) (fun h=>nomatch h)) (fun _ => ?_)
  refine skp (Q0 ?_)
  refine sq2 (rg (wl rfl (bs0S X0 hS underlying56 sizeOf99 fun w1 a2 n1 c2 im1 hS2 => ?_)))
  obtain⟨z_1,hro1,hm⟩:=Q4 hm
  refine pv (N2 rfl) (wl rfl (apO (q:=0) (l:=([]:List Z6)) (us:=p0) hS2 ⟨rfl,rfl⟩ rfl rfl (h1.mono im1).v underlying56 el99 (D5 hro1) fun w2 a3 n2 c3 im2 hS3 => ?_))
  refine pv (P8 rfl) (nil (Q0 ?_))
  cases oI hm
  exact rtn (U2 rfl rfl ⟨_,rfl,_,(iT im1 im2),⟨_,_,_,rfl,hS3.sel [1,0] rfl,qZt⟩⟩)

def Q1h (F:Z6→Option (Z6)):Prop := ∀ {g:World} {T0:TP} {w0:World} {R:J7} {p0:Z6} {a1:OA} {c1:Nat} {r:Z6} (hS:Sep g T0 w0 [R]) (h1:SlR X0 T0 w0 (sv a1 p0.Kids c1) p0.Kids) (hm:F p0=some r),
    Calls Tryz.prog 36 #[.agg (X8 p0 a1 c1).toArray] w0 (E6 T0 w0 fun T w v => ∃(a3:OA) (c3:Nat),v = .agg (X8 r a3 c3).toArray∧Sep g T w [R]∧SlR X0 T w (sv a3 r.Kids c3) r.Kids∧True)
def Q3b (F:(List Z6)→Option ((List Z6))):Prop := ∀ {g:World} {T0:TP} {w0:World} {R:J7} {p0:List Z6} {a1:OA} {c1:Nat} {r:(List Z6)} (hS:Sep g T0 w0 [R]) (h1:SlR X0 T0 w0 (sv a1 p0 c1) p0) (hm:F p0=some r),
    Calls Tryz.prog 35 #[sv a1 p0 c1,.func (.func 36) #[] #[]] w0 (E6 T0 w0 fun T w v => ∃(a7:OA) (n3:Nat) (c7:Nat),v = .slice a7 n3 c7∧Sep g T w [R,G3 X0 99 (.slice a7 n3 c7) r]∧True)
structure Sp5 (G:Rec5):Prop where
  C6:Q1h G.C6
  C7:Q3b G.C7
theorem Q8v {G:Rec5} (hG:Sp5 G):Q1h (W5 G) := @fun g T0 w0 R p0 a1 c1 r hS h1 hm=>by
  refine enter (args := [.agg (X8 p0 a1 c1).toArray]) Tryz.func36 rfl Tryz.ntmps36 rfl fun J => ?_
  unfold W5 at hm
  refine sq2 (rg (wl rfl (bxS (cs:=(X8 p0 a1 c1)) rfl rfl hS fun w1 b1 im1 hS1 => ?_)))
  refine wl rfl (alS (zs := [iv 0,iv 0,iv 0,qZs [],qZs [],.int .u32 0,qZs [],qZs [],iv 0,.slice none 0 0]) zeroValue99 rfl hS1 fun w2 b2 im2 hS2 => ?_)
  refine nil (Q0 ?_)
  refine sq2 ?_
  obtain⟨y1,hx1,hm⟩:=Q4 hm
  refine rg (pv (A8 (by kernel_rfl) rfl (u := .agg #[iv 0,iv 0])) (pv (Z1 rfl underlying99 rfl sizeOf56 rfl) (pv (Z4 rfl isAgg56 (hS2.cell0 (i:=1) ⟨rfl,rfl⟩ (j:=9) rfl)) (wl rfl (Z7 cf35 rfl (hG.C7 (p0:=p0.Kids) (hS2.bun [0,1,2] [] rfl) (h1.mono (iT im1 im2)) hx1) rfl fun v1 T1 w3 im3 rv1 => ?_)))))
  obtain⟨a2,n1,c2,rfl,hS3,_⟩:=rv1
  have hS3:=hS3.unb
  refine pv (Z1 rfl underlying99 rfl sizeOf29 rfl) (wl rfl (X6 (q:=1) hS3 ⟨rfl,rfl⟩ rfl rfl rfl sizeOf29 rfl rfl rfl fun w4 im4 hS4 => ?_))
  refine pv (Z1 rfl underlying99 rfl sizeOf56 rfl) (wl rfl (X6 (q:=1) hS4 ⟨rfl,rfl⟩ rfl rfl rfl sizeOf56 rfl rfl rfl fun w5 im5 hS5 => ?_))
  refine nil (Q0 ?_)
  refine sq2 (rg (pv (Z5 rfl isAgg99 sizeOf99 rfl (hS5.cells0 (i:=1) ⟨rfl,rfl⟩ (o:=0) rfl) (cs := [iv p0.Kind,iv 0,iv 0,qZs p0.Op,qZs p0.Name,.int .u32 p0.Num,qZs p0.Type_.Word,qZs p0.Type_.Name,iv p0.Type_.Stars,.slice a2 n1 c2])) (wl rfl (X6 (q:=0) hS5 ⟨rfl,rfl⟩ rfl rfl rfl sizeOf99 rfl rfl rfl fun w6 im6 hS6 => ?_))))
  refine nil (Q0 ?_)
  obtain⟨T2,im7,hS7,h2⟩:=hS6.seal 3 ⟨rfl,rfl⟩
  have hsh:=h2.len
  subst hsh
  cases oI hm
  exact rtn (A5 (vs := [.agg #[iv p0.Kind,iv 0,iv 0,qZs p0.Op,qZs p0.Name,.int .u32 p0.Num,qZs p0.Type_.Word,qZs p0.Type_.Name,iv p0.Type_.Stars,sv a2 y1 c2]]) rfl ⟨rvS rfl isAgg99 sizeOf99 rfl (hS7.bx (i:=0) ⟨rfl,rfl⟩),qZt⟩ rfl ⟨_,rfl,_,(iT im1 (iT im2 (iT im3 (iT im4 (iT im5 (iT im6 im7)))))),⟨_,_,rfl,hS7.sel [2] rfl,h2,qZt⟩⟩)
theorem Z1k {G:Rec5} (hG:Sp5 G):Q3b (Q5d G) := @fun g T0 w0 R p0 a1 c1 r hS h1 hm=>by
  refine enter (args := [sv a1 p0 c1,.func (.func 36) #[] #[]]) Tryz.func35 rfl Tryz.ntmps35 rfl fun J => ?_
  unfold Q5d at hm
  refine sq2 (rg (pv (P8 rfl) (nil (Q0 ?_))))
  refine sq2 ?_
  obtain⟨y1,hx1,hm⟩:=Q4 hm
  refine rg (pv (N2 rfl) (wl rfl (Z7 cf69 rfl (Q8k (p0:=p0) (hS.bun [0] [] rfl) h1 hx1) rfl fun v1 T1 w1 im1 rv1 => ?_)))
  obtain⟨a2,n1,c2,rfl,hS1,_⟩:=rv1
  have hS1:=hS1.unb
  refine pv (P8 rfl) (nil (Q0 ?_))
  refine sq2 (sq2 (rg (pv (N2 rfl) (pv (Z2v rfl (hS1.own (i:=1) ⟨rfl,rfl⟩).v underlying56) (pv (U1 rfl) (nil (Q0 ?_)))))))
  obtain⟨o1,ho1,hq1⟩:=Q4 hm
  obtain⟨bd1,hbd1,ho1⟩:=K3 ho1
  refine blk (wp_loop_ghost (fun m a w2 => ∃(J:JV) (T2:TP) (x1:List Z6) (a3:OA) (n2:Nat) (c3:Nat) (x2:Int),a=env (nf 25) J [(1,.func (.func 36) #[] #[]),(5,.slice a3 n2 c3),(10,iv (List.length y1:Int)),(11,iv x2)]∧Im T1 w1 T2 w2∧Sep g T2 w2 [R,G3 X0 99 (.slice a3 n2 c3) x1]∧V7 bd1 m (x1,x2)=some o1) NN ⟨_,_,y1,_,_,_,0,Q7 ⟨rfl,rfl,rfl,rfl,qZt⟩,Im.refl,hS1.sel [0,1] rfl,ho1⟩ ?_)
  rintro m _ w2 ⟨J,T2,x1,a3,n2,c3,x2,rfl,im2,hS2,ho1⟩
  obtain⟨m1,z1,rfl,hm,hn1⟩:=U4 ho1
  rw [hbd1] at hm
  refine sq2 (rg (pv (X7 rfl rfl rfl) (nil (Q0 ?_))))
  refine sq2 (cnd rfl (fun hb1 => ?_) (fun hb1 => ?_))
  · have hm:=V8 hb1 hm
    refine skp (Q0 ?_)
    refine sq2 (blk (sq2 (rg (pv (U1 rfl) (pv (J0 rfl) (nil (Q0 ?_)))))))
    obtain⟨u1,hx2,hm⟩:=Q4 hm
    obtain⟨b1,of1,cs1,k1,cp1,hv1,hp1,hl1,he1,hr1,hc1⟩:=(hS2.own (i:=1) ⟨rfl,rfl⟩).v.ixq hx2 rfl
    obtain⟨a4,c4,rfl,h2⟩:=H4 hr1
    obtain⟨y2,hx3,hm⟩:=Q4 hm
    refine rg (pv (N2 rfl) (pv (U1 rfl) (pv (r_mf rfl) (pv (N2 rfl) (pv (U1 rfl) (pv (B2 hv1 rfl underlying56 sizeOf99 hp1 hl1 he1) (pv (Z5 rfl isAgg99 sizeOf99 rfl hc1 (cs:=(X8 u1 a4 c4))) (wl rfl (Z7 cf36 rfl (hG.C6 (p0:=u1) (hS2.bun [0,1] [] rfl) h2 hx3) rfl fun v2 T3 w3 im3 rv2 => ?_)))))))))
    obtain⟨a5,c5,rfl,hS3,h3,_⟩:=rv2
    have hS3:=hS3.unb
    obtain⟨u2,hx4,hm⟩:=Q4 hm
    obtain⟨b2,of2,cs2,k2,cp2,hv2,hp2,hl2,he2,hr2,hc2⟩:=(hS3.own (i:=1) ⟨rfl,rfl⟩).v.ixq hx4 rfl
    obtain⟨a6,c6,rfl,h4⟩:=H4 hr2
    obtain⟨u3,hx5,hm⟩:=Q4 hm
    refine pv (B2 hv2 rfl underlying56 sizeOf99 hp2 hl2 he2) (wl rfl (stO (q:=1) (i:=Int.toNat x2) (j:=0) (u:=u3) (u' := y2) hS3 ⟨rfl,rfl⟩ hv2 (W8 hx5).2.2 he2 rfl rfl rfl sizeOf99 rfl rfl rfl (fun c0 hc0=>by rw [Q2o (r:=X0) hc0 rfl]; exact(M2 (x:=y2) h3:X0.rp _ _ _ _)) fun w4 im4 hS4 => ?_))
    refine nil (U6 (Q0 ?_))
    cases oI hm
    exact rg (pv (X7 rfl rfl rfl) (pv (U1 rfl) (nil (Q0 ⟨m1,Nat.lt_succ_self _,_,_,(List.set x1 (Int.toNat x2) y2),_,_,_,(IntKind.wrap .i64 (x2+1)),Q7 ⟨rfl,rfl,rfl,rfl,qZt⟩,(iT im2 (iT im3 im4)),hS4.sel [0,1] rfl,hn1⟩))))
  have hm:=X3 hb1 hm
  cases oI hm
  have hn1:_=Lp.brk _:=hn1
  subst hn1
  have hm:=F1 hq1
  refine xt (V9 (V9 (L5 (Q0 ?_))))
  refine sq2 (rg (pv (N2 rfl) (pv (P8 rfl) (nil (Q0 ?_)))))
  cases oI hm
  exact rtn (U2 rfl rfl ⟨_,rfl,_,(iT im1 im2),⟨_,_,_,rfl,hS2.sel [0,1] rfl,qZt⟩⟩)
theorem sp5 : ∀ n,Sp5 (rec5 n)
  | 0=>⟨(by unfold Q1h; intros; rename_i h; cases (show (none:Option _)=some _ from h)),(by unfold Q3b; intros; rename_i h; cases (show (none:Option _)=some _ from h))⟩
  | n+1=>⟨Q8v (sp5 n),Z1k (sp5 n)⟩
theorem Z5k:Q1h C6:=(sp5 NN).C6
theorem Q1n:Q3b C7:=(sp5 NN).C7

theorem Q8t {p0:J8} {a1:OA} {c1:Nat} {a2:OA} {c2:Nat} {r:J8} (hS:Sep g T0 w0 [R]) (h1:SlR (Q0m .u32) T0 w0 (sv a1 p0.Dims c1) p0.Dims) (h2:SlR X0 T0 w0 (sv a2 p0.Init c2) p0.Init) (hm:Q1k p0=some r) :
    Calls Tryz.prog 15 #[.agg (N1 p0 a1 c1 a2 c2).toArray] w0 (E6 T0 w0 fun T w v => ∃(a5:OA) (c5:Nat) (a6:OA) (c6:Nat),v = .agg (N1 r a5 c5 a6 c6).toArray∧Sep g T w [R]∧SlR (Q0m .u32) T w (sv a5 r.Dims c5) r.Dims∧SlR X0 T w (sv a6 r.Init c6) r.Init∧True):=by
  refine enter (args := [.agg (N1 p0 a1 c1 a2 c2).toArray]) Tryz.func15 rfl Tryz.ntmps15 rfl fun J => ?_
  unfold Q1k at hm
  refine sq2 (rg (wl rfl (bxS (cs:=(N1 p0 a1 c1 a2 c2)) rfl rfl hS fun w1 b1 im1 hS1 => ?_)))
  refine wl rfl (alS (zs := [iv 0,iv 0,qZs [],qZs [],iv 0,qZs [],.slice none 0 0,.slice none 0 0,.bool false]) zeroValue58 rfl hS1 fun w2 b2 im2 hS2 => ?_)
  refine nil (Q0 ?_)
  refine sq2 (rs [0,0,1,2,0,1,2,0,2,0,2,0,2] [0,1,2,4,5,7,3,6,8,9,10,11,12] mix (by kernel_rfl) hS2.lt fun w3 i1 => ?_)
  have im3:=i1.imm
  have hS3:=hS2.keep i1 (fun _ h=>h)
  obtain⟨y1,hx1,hm⟩:=Q4 hm
  refine s0 rfl qZt (fun _=>A8 (by kernel_rfl) rfl (u := .agg #[iv 0,iv 0])) rfl (s0 rfl qZt (fun _=>Z1 rfl underlying58 rfl sizeOf55 rfl) rfl (s1 rfl qZt (Z4 rfl isAgg55 (hS3.cell0 (i:=1) ⟨rfl,rfl⟩ (j:=6) rfl)) rfl (s0 rfl qZt (fun _=>Z1 rfl underlying58 rfl sizeOf56 rfl) rfl (s1 rfl qZt (Z4 rfl isAgg56 (hS3.cell0 (i:=1) ⟨rfl,rfl⟩ (j:=7) rfl)) rfl (s0 rfl qZt (fun _=>Z1 rfl underlying58 rfl sizeOf29 rfl) rfl (s2 [(5,sv a2 p0.Init c2)] rfl qZt rfl (by kernel_rfl) (Z7 cf34 rfl (Q8l (p0:=p0.Dims) (hS3.bun [0,1,2] [] rfl) (h1.mono (iT im1 (iT im2 im3))) hx1) rfl fun v1 T1 w4 im4 rv1 => ?_)))))))
  obtain⟨a3,n1,c3,rfl,hS4,_⟩:=rv1
  have hS4:=hS4.unb
  refine⟨st1 rfl (Z4 rfl isAgg56 (hS4.cell0 (i:=1) ⟨rfl,rfl⟩ (j:=7) rfl)) (st0),?_⟩
  obtain⟨y2,hx2,hm⟩:=Q4 hm
  refine s2 [] rfl qZt rfl (by kernel_rfl) (Z7 cf35 rfl (Q1n (p0:=p0.Init) (hS4.bun [0,1,2,3] [] rfl) (h2.mono (iT im1 (iT im2 (iT im3 im4)))) hx2) rfl fun v2 T2 w5 im5 rv2 => ?_)
  obtain⟨a4,n2,c4,rfl,hS5,_⟩:=rv2
  have hS5:=hS5.unb
  refine⟨st0,?_⟩
  refine s2 [] rfl qZt rfl (by kernel_rfl) (X6 (q:=1) hS5 ⟨rfl,rfl⟩ rfl rfl rfl sizeOf29 rfl rfl rfl fun w6 im6 hS6 => ?_)
  refine⟨st0,?_⟩
  refine s0 rfl qZt (fun _=>Z1 rfl underlying58 rfl sizeOf55 rfl) rfl (s2 [] rfl qZt rfl (by kernel_rfl) (X6 (q:=1) hS6 ⟨rfl,rfl⟩ rfl rfl rfl sizeOf55 rfl rfl rfl fun w7 im7 hS7 => ?_))
  refine⟨st0,?_⟩
  refine s0 rfl qZt (fun _=>Z1 rfl underlying58 rfl sizeOf56 rfl) rfl (s2 [] rfl qZt rfl (by kernel_rfl) (X6 (q:=1) hS7 ⟨rfl,rfl⟩ rfl rfl rfl sizeOf56 rfl rfl rfl fun w8 im8 hS8 => ?_))
  refine⟨st0,?_⟩
  refine se (Q0 ?_)
  refine sq2 (rg (pv (Z5 rfl isAgg58 sizeOf58 rfl (hS8.cells0 (i:=1) ⟨rfl,rfl⟩ (o:=0) rfl) (cs := [iv 0,iv 0,qZs p0.Type_.Word,qZs p0.Type_.Name,iv p0.Type_.Stars,qZs p0.Name,.slice a3 n1 c3,.slice a4 n2 c4,.bool p0.Brace])) (wl rfl (X6 (q:=0) hS8 ⟨rfl,rfl⟩ rfl rfl rfl sizeOf58 rfl rfl rfl fun w9 im9 hS9 => ?_))))
  refine nil (Q0 ?_)
  obtain⟨T3,im10,hS10,h3⟩:=hS9.seal 3 ⟨rfl,rfl⟩
  have hsh:=h3.len
  subst hsh
  obtain⟨T4,im11,hS11,h4⟩:=hS10.seal 4 ⟨rfl,rfl⟩
  have hsh:=h4.len
  subst hsh
  cases oI hm
  exact rtn (A5 (vs := [.agg #[iv 0,iv 0,qZs p0.Type_.Word,qZs p0.Type_.Name,iv p0.Type_.Stars,qZs p0.Name,sv a3 y1 c3,sv a4 y2 c4,.bool p0.Brace]]) rfl ⟨rvS rfl isAgg58 sizeOf58 rfl (hS11.bx (i:=0) ⟨rfl,rfl⟩),qZt⟩ rfl ⟨_,rfl,_,(iT im1 (iT im2 (iT im3 (iT im4 (iT im5 (iT im6 (iT im7 (iT im8 (iT im9 (iT im10 im11)))))))))),⟨_,_,_,_,rfl,hS11.sel [2] rfl,(h3.mono im11),h4,qZt⟩⟩)

theorem Q1o {p0:List J8} {a1:OA} {c1:Nat} {r:(List J8)} (hS:Sep g T0 w0 [R]) (h1:SlR G7 T0 w0 (sv a1 p0 c1) p0) (hm:Q1c p0=some r) :
    Calls Tryz.prog 14 #[sv a1 p0 c1,.func (.func 15) #[] #[]] w0 (E6 T0 w0 fun T w v => ∃(a10:OA) (n3:Nat) (c10:Nat),v = .slice a10 n3 c10∧Sep g T w [R,G3 G7 58 (.slice a10 n3 c10) r]∧True):=by
  refine enter (args := [sv a1 p0 c1,.func (.func 15) #[] #[]]) Tryz.func14 rfl Tryz.ntmps14 rfl fun J => ?_
  unfold Q1c at hm
  refine sq2 (rg (pv (P8 rfl) (nil (Q0 ?_))))
  refine sq2 ?_
  obtain⟨y1,hx1,hm⟩:=Q4 hm
  refine rg (pv (N2 rfl) (wl rfl (Z7 cf33 rfl (Q8m (p0:=p0) (hS.bun [0] [] rfl) h1 hx1) rfl fun v1 T1 w1 im1 rv1 => ?_)))
  obtain⟨a2,n1,c2,rfl,hS1,_⟩:=rv1
  have hS1:=hS1.unb
  refine pv (P8 rfl) (nil (Q0 ?_))
  refine sq2 (sq2 (rg (pv (N2 rfl) (pv (Z2v rfl (hS1.own (i:=1) ⟨rfl,rfl⟩).v underlying24) (pv (U1 rfl) (nil (Q0 ?_)))))))
  obtain⟨o1,ho1,hq1⟩:=Q4 hm
  obtain⟨bd1,hbd1,ho1⟩:=K3 ho1
  refine blk (wp_loop_ghost (fun m a w2 => ∃(J:JV) (T2:TP) (x1:List J8) (a3:OA) (n2:Nat) (c3:Nat) (x2:Int),a=env (nf 25) J [(1,.func (.func 15) #[] #[]),(5,.slice a3 n2 c3),(10,iv (List.length y1:Int)),(11,iv x2)]∧Im T1 w1 T2 w2∧Sep g T2 w2 [R,G3 G7 58 (.slice a3 n2 c3) x1]∧V7 bd1 m (x1,x2)=some o1) NN ⟨_,_,y1,_,_,_,0,Q7 ⟨rfl,rfl,rfl,rfl,qZt⟩,Im.refl,hS1.sel [0,1] rfl,ho1⟩ ?_)
  rintro m _ w2 ⟨J,T2,x1,a3,n2,c3,x2,rfl,im2,hS2,ho1⟩
  obtain⟨m1,z1,rfl,hm,hn1⟩:=U4 ho1
  rw [hbd1] at hm
  refine sq2 (rg (pv (X7 rfl rfl rfl) (nil (Q0 ?_))))
  refine sq2 (cnd rfl (fun hb1 => ?_) (fun hb1 => ?_))
  · have hm:=V8 hb1 hm
    refine skp (Q0 ?_)
    refine sq2 (blk (sq2 (rg (pv (U1 rfl) (pv (J0 rfl) (nil (Q0 ?_)))))))
    obtain⟨u1,hx2,hm⟩:=Q4 hm
    obtain⟨b1,of1,cs1,k1,cp1,hv1,hp1,hl1,he1,hr1,hc1⟩:=(hS2.own (i:=1) ⟨rfl,rfl⟩).v.ixq hx2 rfl
    obtain⟨a4,c4,a5,c5,rfl,h2,h3⟩:=Q1e hr1
    obtain⟨y2,hx3,hm⟩:=Q4 hm
    refine rg (pv (N2 rfl) (pv (U1 rfl) (pv (r_mf rfl) (pv (N2 rfl) (pv (U1 rfl) (pv (B2 hv1 rfl underlying24 sizeOf58 hp1 hl1 he1) (pv (Z5 rfl isAgg58 sizeOf58 rfl hc1 (cs:=(N1 u1 a4 c4 a5 c5))) (wl rfl (Z7 cf15 rfl (Q8t (p0:=u1) (hS2.bun [0,1] [] rfl) h2 h3 hx3) rfl fun v2 T3 w3 im3 rv2 => ?_)))))))))
    obtain⟨a6,c6,a7,c7,rfl,hS3,h4,h5,_⟩:=rv2
    have hS3:=hS3.unb
    obtain⟨u2,hx4,hm⟩:=Q4 hm
    obtain⟨b2,of2,cs2,k2,cp2,hv2,hp2,hl2,he2,hr2,hc2⟩:=(hS3.own (i:=1) ⟨rfl,rfl⟩).v.ixq hx4 rfl
    obtain⟨a8,c8,a9,c9,rfl,h6,h7⟩:=Q1e hr2
    obtain⟨u3,hx5,hm⟩:=Q4 hm
    refine pv (B2 hv2 rfl underlying24 sizeOf58 hp2 hl2 he2) (wl rfl (stO (q:=1) (i:=Int.toNat x2) (j:=0) (u:=u3) (u' := y2) hS3 ⟨rfl,rfl⟩ hv2 (W8 hx5).2.2 he2 rfl rfl rfl sizeOf58 rfl rfl rfl (fun c0 hc0=>by rw [Q2o (r:=G7) hc0 rfl]; exact(Q5h (x:=y2) h4 h5:G7.rp _ _ _ _)) fun w4 im4 hS4 => ?_))
    refine nil (U6 (Q0 ?_))
    cases oI hm
    exact rg (pv (X7 rfl rfl rfl) (pv (U1 rfl) (nil (Q0 ⟨m1,Nat.lt_succ_self _,_,_,(List.set x1 (Int.toNat x2) y2),_,_,_,(IntKind.wrap .i64 (x2+1)),Q7 ⟨rfl,rfl,rfl,rfl,qZt⟩,(iT im2 (iT im3 im4)),hS4.sel [0,1] rfl,hn1⟩))))
  have hm:=X3 hb1 hm
  cases oI hm
  have hn1:_=Lp.brk _:=hn1
  subst hn1
  have hm:=F1 hq1
  refine xt (V9 (V9 (L5 (Q0 ?_))))
  refine sq2 (rg (pv (N2 rfl) (pv (P8 rfl) (nil (Q0 ?_)))))
  cases oI hm
  exact rtn (U2 rfl rfl ⟨_,rfl,_,(iT im1 im2),⟨_,_,_,rfl,hS2.sel [0,1] rfl,qZt⟩⟩)

theorem Q9s {p0:F7} {a1:OA} {c1:Nat} {r:F7} (hS:Sep g T0 w0 [R]) (h1:SlR G7 T0 w0 (sv a1 p0.Fields c1) p0.Fields) (hm:Q3s p0=some r) :
    Calls Tryz.prog 13 #[.agg (D8 p0 a1 c1).toArray] w0 (E6 T0 w0 fun T w v => ∃(a3:OA) (c3:Nat),v = .agg (D8 r a3 c3).toArray∧Sep g T w [R]∧SlR G7 T w (sv a3 r.Fields c3) r.Fields∧True):=by
  refine enter (args := [.agg (D8 p0 a1 c1).toArray]) Tryz.func13 rfl Tryz.ntmps13 rfl fun J => ?_
  unfold Q3s at hm
  refine sq2 (rg (wl rfl (bxS (cs:=(D8 p0 a1 c1)) rfl rfl hS fun w1 b1 im1 hS1 => ?_)))
  refine wl rfl (alS (zs := [iv 0,iv 0,qZs [],.slice none 0 0]) zeroValue51 rfl hS1 fun w2 b2 im2 hS2 => ?_)
  refine nil (Q0 ?_)
  refine sq2 ?_
  obtain⟨y1,hx1,hm⟩:=Q4 hm
  refine rg (pv (A8 (by kernel_rfl) rfl (u := .agg #[iv 0,iv 0])) (pv (Z1 rfl underlying51 rfl sizeOf24 rfl) (pv (Z4 rfl isAgg24 (hS2.cell0 (i:=1) ⟨rfl,rfl⟩ (j:=3) rfl)) (wl rfl (Z7 cf14 rfl (Q1o (p0:=p0.Fields) (hS2.bun [0,1,2] [] rfl) (h1.mono (iT im1 im2)) hx1) rfl fun v1 T1 w3 im3 rv1 => ?_)))))
  obtain⟨a2,n1,c2,rfl,hS3,_⟩:=rv1
  have hS3:=hS3.unb
  refine pv (Z1 rfl underlying51 rfl sizeOf29 rfl) (wl rfl (X6 (q:=1) hS3 ⟨rfl,rfl⟩ rfl rfl rfl sizeOf29 rfl rfl rfl fun w4 im4 hS4 => ?_))
  refine pv (Z1 rfl underlying51 rfl sizeOf24 rfl) (wl rfl (X6 (q:=1) hS4 ⟨rfl,rfl⟩ rfl rfl rfl sizeOf24 rfl rfl rfl fun w5 im5 hS5 => ?_))
  refine nil (Q0 ?_)
  refine sq2 (rg (pv (Z5 rfl isAgg51 sizeOf51 rfl (hS5.cells0 (i:=1) ⟨rfl,rfl⟩ (o:=0) rfl) (cs := [iv 0,iv 0,qZs p0.Name,.slice a2 n1 c2])) (wl rfl (X6 (q:=0) hS5 ⟨rfl,rfl⟩ rfl rfl rfl sizeOf51 rfl rfl rfl fun w6 im6 hS6 => ?_))))
  refine nil (Q0 ?_)
  obtain⟨T2,im7,hS7,h2⟩:=hS6.seal 3 ⟨rfl,rfl⟩
  have hsh:=h2.len
  subst hsh
  cases oI hm
  exact rtn (A5 (vs := [.agg #[iv 0,iv 0,qZs p0.Name,sv a2 y1 c2]]) rfl ⟨rvS rfl isAgg51 sizeOf51 rfl (hS7.bx (i:=0) ⟨rfl,rfl⟩),qZt⟩ rfl ⟨_,rfl,_,(iT im1 (iT im2 (iT im3 (iT im4 (iT im5 (iT im6 im7)))))),⟨_,_,rfl,hS7.sel [2] rfl,h2,qZt⟩⟩)

theorem Z2l {p0:List F7} {a1:OA} {c1:Nat} {r:(List F7)} (hS:Sep g T0 w0 [R]) (h1:SlR D3 T0 w0 (sv a1 p0 c1) p0) (hm:Q7h p0=some r) :
    Calls Tryz.prog 12 #[sv a1 p0 c1,.func (.func 13) #[] #[]] w0 (E6 T0 w0 fun T w v => ∃(a7:OA) (n3:Nat) (c7:Nat),v = .slice a7 n3 c7∧Sep g T w [R,G3 D3 51 (.slice a7 n3 c7) r]∧True):=by
  refine enter (args := [sv a1 p0 c1,.func (.func 13) #[] #[]]) Tryz.func12 rfl Tryz.ntmps12 rfl fun J => ?_
  unfold Q7h at hm
  refine sq2 (rg (pv (P8 rfl) (nil (Q0 ?_))))
  refine sq2 ?_
  obtain⟨y1,hx1,hm⟩:=Q4 hm
  refine rg (pv (N2 rfl) (wl rfl (Z7 cf32 rfl (Q9u (p0:=p0) (hS.bun [0] [] rfl) h1 hx1) rfl fun v1 T1 w1 im1 rv1 => ?_)))
  obtain⟨a2,n1,c2,rfl,hS1,_⟩:=rv1
  have hS1:=hS1.unb
  refine pv (P8 rfl) (nil (Q0 ?_))
  refine sq2 (sq2 (rg (pv (N2 rfl) (pv (Z2v rfl (hS1.own (i:=1) ⟨rfl,rfl⟩).v underlying23) (pv (U1 rfl) (nil (Q0 ?_)))))))
  obtain⟨o1,ho1,hq1⟩:=Q4 hm
  obtain⟨bd1,hbd1,ho1⟩:=K3 ho1
  refine blk (wp_loop_ghost (fun m a w2 => ∃(J:JV) (T2:TP) (x1:List F7) (a3:OA) (n2:Nat) (c3:Nat) (x2:Int),a=env (nf 25) J [(1,.func (.func 13) #[] #[]),(5,.slice a3 n2 c3),(10,iv (List.length y1:Int)),(11,iv x2)]∧Im T1 w1 T2 w2∧Sep g T2 w2 [R,G3 D3 51 (.slice a3 n2 c3) x1]∧V7 bd1 m (x1,x2)=some o1) NN ⟨_,_,y1,_,_,_,0,Q7 ⟨rfl,rfl,rfl,rfl,qZt⟩,Im.refl,hS1.sel [0,1] rfl,ho1⟩ ?_)
  rintro m _ w2 ⟨J,T2,x1,a3,n2,c3,x2,rfl,im2,hS2,ho1⟩
  obtain⟨m1,z1,rfl,hm,hn1⟩:=U4 ho1
  rw [hbd1] at hm
  refine sq2 (rg (pv (X7 rfl rfl rfl) (nil (Q0 ?_))))
  refine sq2 (cnd rfl (fun hb1 => ?_) (fun hb1 => ?_))
  · have hm:=V8 hb1 hm
    refine skp (Q0 ?_)
    refine sq2 (blk (sq2 (rg (pv (U1 rfl) (pv (J0 rfl) (nil (Q0 ?_)))))))
    obtain⟨u1,hx2,hm⟩:=Q4 hm
    obtain⟨b1,of1,cs1,k1,cp1,hv1,hp1,hl1,he1,hr1,hc1⟩:=(hS2.own (i:=1) ⟨rfl,rfl⟩).v.ixq hx2 rfl
    obtain⟨a4,c4,rfl,h2⟩:=Q1l hr1
    obtain⟨y2,hx3,hm⟩:=Q4 hm
    refine rg (pv (N2 rfl) (pv (U1 rfl) (pv (r_mf rfl) (pv (N2 rfl) (pv (U1 rfl) (pv (B2 hv1 rfl underlying23 sizeOf51 hp1 hl1 he1) (pv (Z5 rfl isAgg51 sizeOf51 rfl hc1 (cs:=(D8 u1 a4 c4))) (wl rfl (Z7 cf13 rfl (Q9s (p0:=u1) (hS2.bun [0,1] [] rfl) h2 hx3) rfl fun v2 T3 w3 im3 rv2 => ?_)))))))))
    obtain⟨a5,c5,rfl,hS3,h3,_⟩:=rv2
    have hS3:=hS3.unb
    obtain⟨u2,hx4,hm⟩:=Q4 hm
    obtain⟨b2,of2,cs2,k2,cp2,hv2,hp2,hl2,he2,hr2,hc2⟩:=(hS3.own (i:=1) ⟨rfl,rfl⟩).v.ixq hx4 rfl
    obtain⟨a6,c6,rfl,h4⟩:=Q1l hr2
    obtain⟨u3,hx5,hm⟩:=Q4 hm
    refine pv (B2 hv2 rfl underlying23 sizeOf51 hp2 hl2 he2) (wl rfl (stO (q:=1) (i:=Int.toNat x2) (j:=0) (u:=u3) (u' := y2) hS3 ⟨rfl,rfl⟩ hv2 (W8 hx5).2.2 he2 rfl rfl rfl sizeOf51 rfl rfl rfl (fun c0 hc0=>by rw [Q2o (r:=D3) hc0 rfl]; exact(Z0l (x:=y2) h3:D3.rp _ _ _ _)) fun w4 im4 hS4 => ?_))
    refine nil (U6 (Q0 ?_))
    cases oI hm
    exact rg (pv (X7 rfl rfl rfl) (pv (U1 rfl) (nil (Q0 ⟨m1,Nat.lt_succ_self _,_,_,(List.set x1 (Int.toNat x2) y2),_,_,_,(IntKind.wrap .i64 (x2+1)),Q7 ⟨rfl,rfl,rfl,rfl,qZt⟩,(iT im2 (iT im3 im4)),hS4.sel [0,1] rfl,hn1⟩))))
  have hm:=X3 hb1 hm
  cases oI hm
  have hn1:_=Lp.brk _:=hn1
  subst hn1
  have hm:=F1 hq1
  refine xt (V9 (V9 (L5 (Q0 ?_))))
  refine sq2 (rg (pv (N2 rfl) (pv (P8 rfl) (nil (Q0 ?_)))))
  cases oI hm
  exact rtn (U2 rfl rfl ⟨_,rfl,_,(iT im1 im2),⟨_,_,_,rfl,hS2.sel [0,1] rfl,qZt⟩⟩)

theorem Q8j {p0:List P4} {a1:OA} {c1:Nat} {r:(List P4)} (hS:Sep g T0 w0 [R]) (h1:SlR A1 T0 w0 (sv a1 p0 c1) p0) (hm:Q4g p0=some r) :
    Calls Tryz.prog 37 #[sv a1 p0 c1] w0 (E6 T0 w0 fun T w v => ∃(a4:OA) (n3:Nat) (c4:Nat),v = .slice a4 n3 c4∧Sep g T w [R,G3 A1 64 (.slice a4 n3 c4) r]∧True):=by
  refine enter (args := [sv a1 p0 c1]) Tryz.func37 rfl Tryz.ntmps37 rfl fun J => ?_
  unfold Q4g at hm
  refine sq2 (rg (pv (P8 rfl) (nil (Q0 ?_))))
  refine sq2 (sq2 (rg (pv (N2 rfl) (pv (Z1p rfl rfl rfl underlying25) (nil (Q0 ?_))))))
  rcases SlR.nilOr h1 with ⟨hb1,hl0⟩ | hb1
  · subst hb1
    subst hl0
    have hm:some []=some r:=hm
    refine cnd (b:=true) rfl (fun _ => ?_) (fun h=>nomatch h)
    refine sq2 (rg (pv (P8 rfl) (nil (Q0 ?_))))
    have hS1:=hS.nilO A1 64
    cases oI hm
    exact rtn (Q6 (U2 rfl rfl ⟨_,rfl,_,Im.refl,⟨_,_,_,rfl,hS1.sel [1,0] rfl,qZt⟩⟩))
  refine cnd rfl (fun h=>absurd (h.symm.trans hb1) (fun h=>nomatch h)) (fun _ => ?_)
  refine skp (Q0 ?_)
  refine sq2 (rg (wl rfl (bs0S A1 hS underlying25 sizeOf64 fun w1 a2 n1 c2 im1 hS2 => ?_)))
  obtain⟨z_1,hro1,hm⟩:=Q4 hm
  refine pv (N2 rfl) (wl rfl (apO (q:=0) (l:=([]:List P4)) (us:=p0) hS2 ⟨rfl,rfl⟩ rfl rfl (h1.mono im1).v underlying25 el64 (D5 hro1) fun w2 a3 n2 c3 im2 hS3 => ?_))
  refine pv (P8 rfl) (nil (Q0 ?_))
  cases oI hm
  exact rtn (U2 rfl rfl ⟨_,rfl,_,(iT im1 im2),⟨_,_,_,rfl,hS3.sel [1,0] rfl,qZt⟩⟩)

theorem Q8i {p0:List U5} {a1:OA} {c1:Nat} {r:(List U5)} (hS:Sep g T0 w0 [R]) (h1:SlR E1 T0 w0 (sv a1 p0 c1) p0) (hm:Q4f p0=some r) :
    Calls Tryz.prog 38 #[sv a1 p0 c1] w0 (E6 T0 w0 fun T w v => ∃(a4:OA) (n3:Nat) (c4:Nat),v = .slice a4 n3 c4∧Sep g T w [R,G3 E1 68 (.slice a4 n3 c4) r]∧True):=by
  refine enter (args := [sv a1 p0 c1]) Tryz.func38 rfl Tryz.ntmps38 rfl fun J => ?_
  unfold Q4f at hm
  refine sq2 (rg (pv (P8 rfl) (nil (Q0 ?_))))
  refine sq2 (sq2 (rg (pv (N2 rfl) (pv (Z1p rfl rfl rfl underlying62) (nil (Q0 ?_))))))
  rcases SlR.nilOr h1 with ⟨hb1,hl0⟩ | hb1
  · subst hb1
    subst hl0
    have hm:some []=some r:=hm
    refine cnd (b:=true) rfl (fun _ => ?_) (fun h=>nomatch h)
    refine sq2 (rg (pv (P8 rfl) (nil (Q0 ?_))))
    have hS1:=hS.nilO E1 68
    cases oI hm
    exact rtn (Q6 (U2 rfl rfl ⟨_,rfl,_,Im.refl,⟨_,_,_,rfl,hS1.sel [1,0] rfl,qZt⟩⟩))
  refine cnd rfl (fun h=>absurd (h.symm.trans hb1) (fun h=>nomatch h)) (fun _ => ?_)
  refine skp (Q0 ?_)
  refine sq2 (rg (wl rfl (bs0S E1 hS underlying62 sizeOf68 fun w1 a2 n1 c2 im1 hS2 => ?_)))
  obtain⟨z_1,hro1,hm⟩:=Q4 hm
  refine pv (N2 rfl) (wl rfl (apO (q:=0) (l:=([]:List U5)) (us:=p0) hS2 ⟨rfl,rfl⟩ rfl rfl (h1.mono im1).v underlying62 el68 (D5 hro1) fun w2 a3 n2 c3 im2 hS3 => ?_))
  refine pv (P8 rfl) (nil (Q0 ?_))
  cases oI hm
  exact rtn (U2 rfl rfl ⟨_,rfl,_,(iT im1 im2),⟨_,_,_,rfl,hS3.sel [1,0] rfl,qZt⟩⟩)

theorem Q8h {p0:List K7} {a1:OA} {c1:Nat} {r:(List K7)} (hS:Sep g T0 w0 [R]) (h1:SlR C0 T0 w0 (sv a1 p0 c1) p0) (hm:Q4e p0=some r) :
    Calls Tryz.prog 70 #[sv a1 p0 c1] w0 (E6 T0 w0 fun T w v => ∃(a4:OA) (n3:Nat) (c4:Nat),v = .slice a4 n3 c4∧Sep g T w [R,G3 C0 105 (.slice a4 n3 c4) r]∧True):=by
  refine enter (args := [sv a1 p0 c1]) Tryz.func70 rfl Tryz.ntmps70 rfl fun J => ?_
  unfold Q4e at hm
  refine sq2 (rg (pv (P8 rfl) (nil (Q0 ?_))))
  refine sq2 (sq2 (rg (pv (N2 rfl) (pv (Z1p rfl rfl rfl underlying66) (nil (Q0 ?_))))))
  rcases SlR.nilOr h1 with ⟨hb1,hl0⟩ | hb1
  · subst hb1
    subst hl0
    have hm:some []=some r:=hm
    refine cnd (b:=true) rfl (fun _ => ?_) (fun h=>nomatch h)
    refine sq2 (rg (pv (P8 rfl) (nil (Q0 ?_))))
    have hS1:=hS.nilO C0 105
    cases oI hm
    exact rtn (Q6 (U2 rfl rfl ⟨_,rfl,_,Im.refl,⟨_,_,_,rfl,hS1.sel [1,0] rfl,qZt⟩⟩))
  refine cnd rfl (fun h=>absurd (h.symm.trans hb1) (fun h=>nomatch h)) (fun _ => ?_)
  refine skp (Q0 ?_)
  refine sq2 (rg (wl rfl (bs0S C0 hS underlying66 sizeOf105 fun w1 a2 n1 c2 im1 hS2 => ?_)))
  obtain⟨z_1,hro1,hm⟩:=Q4 hm
  refine pv (N2 rfl) (wl rfl (apO (q:=0) (l:=([]:List K7)) (us:=p0) hS2 ⟨rfl,rfl⟩ rfl rfl (h1.mono im1).v underlying66 el105 (D5 hro1) fun w2 a3 n2 c3 im2 hS3 => ?_))
  refine pv (P8 rfl) (nil (Q0 ?_))
  cases oI hm
  exact rtn (U2 rfl rfl ⟨_,rfl,_,(iT im1 im2),⟨_,_,_,rfl,hS3.sel [1,0] rfl,qZt⟩⟩)

def Q0j (F:K7→Option (K7)):Prop := ∀ {g:World} {T0:TP} {w0:World} {R:J7} {p0:K7} {a1:OA} {c1:Nat} {r:K7} (hS:Sep g T0 w0 [R]) (h1:SlR E1 T0 w0 (sv a1 p0.Body c1) p0.Body) (hm:F p0=some r),
    Calls Tryz.prog 40 #[.agg (F4 p0 a1 c1).toArray] w0 (E6 T0 w0 fun T w v => ∃(a3:OA) (c3:Nat),v = .agg (F4 r a3 c3).toArray∧Sep g T w [R]∧SlR E1 T w (sv a3 r.Body c3) r.Body∧True)
def Q2z (F:(List K7)→Option ((List K7))):Prop := ∀ {g:World} {T0:TP} {w0:World} {R:J7} {p0:List K7} {a1:OA} {c1:Nat} {r:(List K7)} (hS:Sep g T0 w0 [R]) (h1:SlR C0 T0 w0 (sv a1 p0 c1) p0) (hm:F p0=some r),
    Calls Tryz.prog 39 #[sv a1 p0 c1,.func (.func 40) #[] #[]] w0 (E6 T0 w0 fun T w v => ∃(a7:OA) (n3:Nat) (c7:Nat),v = .slice a7 n3 c7∧Sep g T w [R,G3 C0 105 (.slice a7 n3 c7) r]∧True)
def Q1g (F:U5→Option (U5)):Prop := ∀ {g:World} {T0:TP} {w0:World} {R:J7} {p0:U5} {a1:OA} {c1:Nat} {a2:OA} {c2:Nat} {a3:OA} {c3:Nat} {a4:OA} {c4:Nat} {a5:OA} {c5:Nat} {a6:OA} {c6:Nat} {a7:OA} {c7:Nat} {r:U5} (hS:Sep g T0 w0 [R]) (h1:SlR X0 T0 w0 (sv a1 p0.A c1) p0.A) (h2:SlR X0 T0 w0 (sv a2 p0.B c2) p0.B) (h3:SlR X0 T0 w0 (sv a3 p0.C c3) p0.C) (h4:SlR G7 T0 w0 (sv a4 p0.Var c4) p0.Var) (h5:SlR E1 T0 w0 (sv a5 p0.Body c5) p0.Body) (h6:SlR E1 T0 w0 (sv a6 p0.Else c6) p0.Else) (h7:SlR C0 T0 w0 (sv a7 p0.Cases c7) p0.Cases) (hm:F p0=some r),
    Calls Tryz.prog 19 #[.agg (B4 p0 a1 c1 a2 c2 a3 c3 a4 c4 a5 c5 a6 c6 a7 c7).toArray] w0 (E6 T0 w0 fun T w v => ∃(a15:OA) (c15:Nat) (a16:OA) (c16:Nat) (a17:OA) (c17:Nat) (a18:OA) (c18:Nat) (a19:OA) (c19:Nat) (a20:OA) (c20:Nat) (a21:OA) (c21:Nat),v = .agg (B4 r a15 c15 a16 c16 a17 c17 a18 c18 a19 c19 a20 c20 a21 c21).toArray∧Sep g T w [R]∧SlR X0 T w (sv a15 r.A c15) r.A∧SlR X0 T w (sv a16 r.B c16) r.B∧SlR X0 T w (sv a17 r.C c17) r.C∧SlR G7 T w (sv a18 r.Var c18) r.Var∧SlR E1 T w (sv a19 r.Body c19) r.Body∧SlR E1 T w (sv a20 r.Else c20) r.Else∧SlR C0 T w (sv a21 r.Cases c21) r.Cases∧True)
def Q3a (F:(List U5)→Option ((List U5))):Prop := ∀ {g:World} {T0:TP} {w0:World} {R:J7} {p0:List U5} {a1:OA} {c1:Nat} {r:(List U5)} (hS:Sep g T0 w0 [R]) (h1:SlR E1 T0 w0 (sv a1 p0 c1) p0) (hm:F p0=some r),
    Calls Tryz.prog 18 #[sv a1 p0 c1,.func (.func 19) #[] #[]] w0 (E6 T0 w0 fun T w v => ∃(a25:OA) (n3:Nat) (c25:Nat),v = .slice a25 n3 c25∧Sep g T w [R,G3 E1 68 (.slice a25 n3 c25) r]∧True)
structure Sp6 (G:Rec6):Prop where
  A0:Q0j G.A0
  R9:Q2z G.R9
  N9:Q1g G.N9
  M7:Q3a G.M7
theorem Q7w {G:Rec6} (hG:Sp6 G):Q0j (O1 G) := @fun g T0 w0 R p0 a1 c1 r hS h1 hm=>by
  refine enter (args := [.agg (F4 p0 a1 c1).toArray]) Tryz.func40 rfl Tryz.ntmps40 rfl fun J => ?_
  unfold O1 at hm
  refine sq2 (rg (wl rfl (bxS (cs:=(F4 p0 a1 c1)) rfl rfl hS fun w1 b1 im1 hS1 => ?_)))
  refine wl rfl (alS (zs := [iv 0,iv 0,.bool false,.int .u32 0,.slice none 0 0]) zeroValue105 rfl hS1 fun w2 b2 im2 hS2 => ?_)
  refine nil (Q0 ?_)
  refine sq2 ?_
  obtain⟨y1,hx1,hm⟩:=Q4 hm
  refine rg (pv (A8 (by kernel_rfl) rfl (u := .agg #[iv 0,iv 0])) (pv (Z1 rfl underlying105 rfl sizeOf62 rfl) (pv (Z4 rfl isAgg62 (hS2.cell0 (i:=1) ⟨rfl,rfl⟩ (j:=4) rfl)) (wl rfl (Z7 cf18 rfl (hG.M7 (p0:=p0.Body) (hS2.bun [0,1,2] [] rfl) (h1.mono (iT im1 im2)) hx1) rfl fun v1 T1 w3 im3 rv1 => ?_)))))
  obtain⟨a2,n1,c2,rfl,hS3,_⟩:=rv1
  have hS3:=hS3.unb
  refine pv (Z1 rfl underlying105 rfl sizeOf29 rfl) (wl rfl (X6 (q:=1) hS3 ⟨rfl,rfl⟩ rfl rfl rfl sizeOf29 rfl rfl rfl fun w4 im4 hS4 => ?_))
  refine pv (Z1 rfl underlying105 rfl sizeOf62 rfl) (wl rfl (X6 (q:=1) hS4 ⟨rfl,rfl⟩ rfl rfl rfl sizeOf62 rfl rfl rfl fun w5 im5 hS5 => ?_))
  refine nil (Q0 ?_)
  refine sq2 (rg (pv (Z5 rfl isAgg105 sizeOf105 rfl (hS5.cells0 (i:=1) ⟨rfl,rfl⟩ (o:=0) rfl) (cs := [iv 0,iv 0,.bool p0.Default,.int .u32 p0.Num,.slice a2 n1 c2])) (wl rfl (X6 (q:=0) hS5 ⟨rfl,rfl⟩ rfl rfl rfl sizeOf105 rfl rfl rfl fun w6 im6 hS6 => ?_))))
  refine nil (Q0 ?_)
  obtain⟨T2,im7,hS7,h2⟩:=hS6.seal 3 ⟨rfl,rfl⟩
  have hsh:=h2.len
  subst hsh
  cases oI hm
  exact rtn (A5 (vs := [.agg #[iv 0,iv 0,.bool p0.Default,.int .u32 p0.Num,sv a2 y1 c2]]) rfl ⟨rvS rfl isAgg105 sizeOf105 rfl (hS7.bx (i:=0) ⟨rfl,rfl⟩),qZt⟩ rfl ⟨_,rfl,_,(iT im1 (iT im2 (iT im3 (iT im4 (iT im5 (iT im6 im7)))))),⟨_,_,rfl,hS7.sel [2] rfl,h2,qZt⟩⟩)
theorem Z1i {G:Rec6} (hG:Sp6 G):Q2z (Q5b G) := @fun g T0 w0 R p0 a1 c1 r hS h1 hm=>by
  refine enter (args := [sv a1 p0 c1,.func (.func 40) #[] #[]]) Tryz.func39 rfl Tryz.ntmps39 rfl fun J => ?_
  unfold Q5b at hm
  refine sq2 (rg (pv (P8 rfl) (nil (Q0 ?_))))
  refine sq2 ?_
  obtain⟨y1,hx1,hm⟩:=Q4 hm
  refine rg (pv (N2 rfl) (wl rfl (Z7 cf70 rfl (Q8h (p0:=p0) (hS.bun [0] [] rfl) h1 hx1) rfl fun v1 T1 w1 im1 rv1 => ?_)))
  obtain⟨a2,n1,c2,rfl,hS1,_⟩:=rv1
  have hS1:=hS1.unb
  refine pv (P8 rfl) (nil (Q0 ?_))
  refine sq2 (sq2 (rg (pv (N2 rfl) (pv (Z2v rfl (hS1.own (i:=1) ⟨rfl,rfl⟩).v underlying66) (pv (U1 rfl) (nil (Q0 ?_)))))))
  obtain⟨o1,ho1,hq1⟩:=Q4 hm
  obtain⟨bd1,hbd1,ho1⟩:=K3 ho1
  refine blk (wp_loop_ghost (fun m a w2 => ∃(J:JV) (T2:TP) (x1:List K7) (a3:OA) (n2:Nat) (c3:Nat) (x2:Int),a=env (nf 25) J [(1,.func (.func 40) #[] #[]),(5,.slice a3 n2 c3),(10,iv (List.length y1:Int)),(11,iv x2)]∧Im T1 w1 T2 w2∧Sep g T2 w2 [R,G3 C0 105 (.slice a3 n2 c3) x1]∧V7 bd1 m (x1,x2)=some o1) NN ⟨_,_,y1,_,_,_,0,Q7 ⟨rfl,rfl,rfl,rfl,qZt⟩,Im.refl,hS1.sel [0,1] rfl,ho1⟩ ?_)
  rintro m _ w2 ⟨J,T2,x1,a3,n2,c3,x2,rfl,im2,hS2,ho1⟩
  obtain⟨m1,z1,rfl,hm,hn1⟩:=U4 ho1
  rw [hbd1] at hm
  refine sq2 (rg (pv (X7 rfl rfl rfl) (nil (Q0 ?_))))
  refine sq2 (cnd rfl (fun hb1 => ?_) (fun hb1 => ?_))
  · have hm:=V8 hb1 hm
    refine skp (Q0 ?_)
    refine sq2 (blk (sq2 (rg (pv (U1 rfl) (pv (J0 rfl) (nil (Q0 ?_)))))))
    obtain⟨u1,hx2,hm⟩:=Q4 hm
    obtain⟨b1,of1,cs1,k1,cp1,hv1,hp1,hl1,he1,hr1,hc1⟩:=(hS2.own (i:=1) ⟨rfl,rfl⟩).v.ixq hx2 rfl
    obtain⟨a4,c4,rfl,h2⟩:=Q1f hr1
    obtain⟨y2,hx3,hm⟩:=Q4 hm
    refine rg (pv (N2 rfl) (pv (U1 rfl) (pv (r_mf rfl) (pv (N2 rfl) (pv (U1 rfl) (pv (B2 hv1 rfl underlying66 sizeOf105 hp1 hl1 he1) (pv (Z5 rfl isAgg105 sizeOf105 rfl hc1 (cs:=(F4 u1 a4 c4))) (wl rfl (Z7 cf40 rfl (hG.A0 (p0:=u1) (hS2.bun [0,1] [] rfl) h2 hx3) rfl fun v2 T3 w3 im3 rv2 => ?_)))))))))
    obtain⟨a5,c5,rfl,hS3,h3,_⟩:=rv2
    have hS3:=hS3.unb
    obtain⟨u2,hx4,hm⟩:=Q4 hm
    obtain⟨b2,of2,cs2,k2,cp2,hv2,hp2,hl2,he2,hr2,hc2⟩:=(hS3.own (i:=1) ⟨rfl,rfl⟩).v.ixq hx4 rfl
    obtain⟨a6,c6,rfl,h4⟩:=Q1f hr2
    obtain⟨u3,hx5,hm⟩:=Q4 hm
    refine pv (B2 hv2 rfl underlying66 sizeOf105 hp2 hl2 he2) (wl rfl (stO (q:=1) (i:=Int.toNat x2) (j:=0) (u:=u3) (u' := y2) hS3 ⟨rfl,rfl⟩ hv2 (W8 hx5).2.2 he2 rfl rfl rfl sizeOf105 rfl rfl rfl (fun c0 hc0=>by rw [Q2o (r:=C0) hc0 rfl]; exact(Q7j (x:=y2) h3:C0.rp _ _ _ _)) fun w4 im4 hS4 => ?_))
    refine nil (U6 (Q0 ?_))
    cases oI hm
    exact rg (pv (X7 rfl rfl rfl) (pv (U1 rfl) (nil (Q0 ⟨m1,Nat.lt_succ_self _,_,_,(List.set x1 (Int.toNat x2) y2),_,_,_,(IntKind.wrap .i64 (x2+1)),Q7 ⟨rfl,rfl,rfl,rfl,qZt⟩,(iT im2 (iT im3 im4)),hS4.sel [0,1] rfl,hn1⟩))))
  have hm:=X3 hb1 hm
  cases oI hm
  have hn1:_=Lp.brk _:=hn1
  subst hn1
  have hm:=F1 hq1
  refine xt (V9 (V9 (L5 (Q0 ?_))))
  refine sq2 (rg (pv (N2 rfl) (pv (P8 rfl) (nil (Q0 ?_)))))
  cases oI hm
  exact rtn (U2 rfl rfl ⟨_,rfl,_,(iT im1 im2),⟨_,_,_,rfl,hS2.sel [0,1] rfl,qZt⟩⟩)
theorem Q8u {G:Rec6} (hG:Sp6 G):Q1g (W4 G) := @fun g T0 w0 R p0 a1 c1 a2 c2 a3 c3 a4 c4 a5 c5 a6 c6 a7 c7 r hS h1 h2 h3 h4 h5 h6 h7 hm=>by
  refine enter (args := [.agg (B4 p0 a1 c1 a2 c2 a3 c3 a4 c4 a5 c5 a6 c6 a7 c7).toArray]) Tryz.func19 rfl Tryz.ntmps19 rfl fun J => ?_
  unfold W4 at hm
  refine sq2 (rg (wl rfl (bxS (cs:=(B4 p0 a1 c1 a2 c2 a3 c3 a4 c4 a5 c5 a6 c6 a7 c7)) rfl rfl hS fun w1 b1 im1 hS1 => ?_)))
  refine wl rfl (alS (zs := [iv 0,iv 0,iv 0,.slice none 0 0,.slice none 0 0,.slice none 0 0,.slice none 0 0,.slice none 0 0,.slice none 0 0,.slice none 0 0]) zeroValue68 rfl hS1 fun w2 b2 im2 hS2 => ?_)
  refine nil (Q0 ?_)
  refine sq2 (rg (pv (A8 (by kernel_rfl) rfl (u := .agg #[iv 0,iv 0])) (pv (Z1 rfl underlying68 rfl sizeOf29 rfl) (wl rfl (X6 (q:=1) hS2 ⟨rfl,rfl⟩ rfl rfl rfl sizeOf29 rfl rfl rfl fun w3 im3 hS3 => ?_)))))
  refine nil (Q0 ?_)
  refine sq2 (rs [0,1,2,0,1,2,0,1,2,0,2,0,2,0,2] [0,1,3,4,6,7,2,9,5,8,10,11,12,13,14] mix (by kernel_rfl) hS3.lt fun w4 i1 => ?_)
  have im4:=i1.imm
  have hS4:=hS3.keep i1 (fun _ h=>h)
  obtain⟨y1,hx1,hm⟩:=Q4 hm
  refine s0 rfl qZt (fun _=>Z1 rfl underlying68 rfl sizeOf56 rfl) rfl (s1 rfl qZt (Z4 rfl isAgg56 (hS4.cell0 (i:=1) ⟨rfl,rfl⟩ (j:=3) rfl)) rfl (s0 rfl qZt (fun _=>Z1 rfl underlying68 rfl sizeOf56 rfl) rfl (s1 rfl qZt (Z4 rfl isAgg56 (hS4.cell0 (i:=1) ⟨rfl,rfl⟩ (j:=4) rfl)) rfl (s0 rfl qZt (fun _=>Z1 rfl underlying68 rfl sizeOf56 rfl) rfl (s1 rfl qZt (Z4 rfl isAgg56 (hS4.cell0 (i:=1) ⟨rfl,rfl⟩ (j:=5) rfl)) rfl (s2 [(7,sv a3 p0.C c3),(4,sv a2 p0.B c2)] rfl qZt rfl (by kernel_rfl) (Z7 cf35 rfl (Q1n (p0:=p0.A) (hS4.bun [0,1,2] [] rfl) (h1.mono (iT im1 (iT im2 (iT im3 im4)))) hx1) rfl fun v1 T1 w5 im5 rv1 => ?_)))))))
  obtain⟨a8,n1,c8,rfl,hS5,_⟩:=rv1
  have hS5:=hS5.unb
  refine⟨st1 rfl (Z4 rfl isAgg56 (hS5.cell0 (i:=1) ⟨rfl,rfl⟩ (j:=5) rfl)) (st1 rfl (Z4 rfl isAgg56 (hS5.cell0 (i:=1) ⟨rfl,rfl⟩ (j:=4) rfl)) (st0)),?_⟩
  obtain⟨y2,hx2,hm⟩:=Q4 hm
  refine s0 rfl qZt (fun _=>Z1 rfl underlying68 rfl sizeOf56 rfl) rfl (s2 [(7,sv a3 p0.C c3)] rfl qZt rfl (by kernel_rfl) (Z7 cf35 rfl (Q1n (p0:=p0.B) (hS5.bun [0,1,2,3] [] rfl) (h2.mono (iT im1 (iT im2 (iT im3 (iT im4 im5))))) hx2) rfl fun v2 T2 w6 im6 rv2 => ?_))
  obtain⟨a9,n2,c9,rfl,hS6,_⟩:=rv2
  have hS6:=hS6.unb
  refine⟨st1 rfl (Z4 rfl isAgg56 (hS6.cell0 (i:=1) ⟨rfl,rfl⟩ (j:=5) rfl)) (st0),?_⟩
  obtain⟨y3,hx3,hm⟩:=Q4 hm
  refine s2 [] rfl qZt rfl (by kernel_rfl) (Z7 cf35 rfl (Q1n (p0:=p0.C) (hS6.bun [0,1,2,3,4] [] rfl) (h3.mono (iT im1 (iT im2 (iT im3 (iT im4 (iT im5 im6)))))) hx3) rfl fun v3 T3 w7 im7 rv3 => ?_)
  obtain⟨a10,n3,c10,rfl,hS7,_⟩:=rv3
  have hS7:=hS7.unb
  refine⟨st0,?_⟩
  refine s2 [] rfl qZt rfl (by kernel_rfl) (X6 (q:=1) hS7 ⟨rfl,rfl⟩ rfl rfl rfl sizeOf56 rfl rfl rfl fun w8 im8 hS8 => ?_)
  refine⟨st0,?_⟩
  refine s0 rfl qZt (fun _=>Z1 rfl underlying68 rfl sizeOf56 rfl) rfl (s2 [] rfl qZt rfl (by kernel_rfl) (X6 (q:=1) hS8 ⟨rfl,rfl⟩ rfl rfl rfl sizeOf56 rfl rfl rfl fun w9 im9 hS9 => ?_))
  refine⟨st0,?_⟩
  refine s0 rfl qZt (fun _=>Z1 rfl underlying68 rfl sizeOf56 rfl) rfl (s2 [] rfl qZt rfl (by kernel_rfl) (X6 (q:=1) hS9 ⟨rfl,rfl⟩ rfl rfl rfl sizeOf56 rfl rfl rfl fun w10 im10 hS10 => ?_))
  refine⟨st0,?_⟩
  refine se (Q0 ?_)
  refine sq2 (rs [0,1,2,0,1,2,0,1,2,0,2,0,2,0,2] [0,1,3,4,6,7,2,9,5,8,10,11,12,13,14] mix (by kernel_rfl) hS10.lt fun w11 i2 => ?_)
  have im11:=i2.imm
  have hS11:=hS10.keep i2 (fun _ h=>h)
  obtain⟨y4,hx4,hm⟩:=Q4 hm
  refine s0 rfl qZt (fun _=>Z1 rfl underlying68 rfl sizeOf24 rfl) rfl (s1 rfl qZt (Z4 rfl isAgg24 (hS11.cell0 (i:=1) ⟨rfl,rfl⟩ (j:=6) rfl)) rfl (s0 rfl qZt (fun _=>Z1 rfl underlying68 rfl sizeOf62 rfl) rfl (s1 rfl qZt (Z4 rfl isAgg62 (hS11.cell0 (i:=1) ⟨rfl,rfl⟩ (j:=7) rfl)) rfl (s0 rfl qZt (fun _=>Z1 rfl underlying68 rfl sizeOf62 rfl) rfl (s1 rfl qZt (Z4 rfl isAgg62 (hS11.cell0 (i:=1) ⟨rfl,rfl⟩ (j:=8) rfl)) rfl (s2 [(7,sv a6 p0.Else c6),(4,sv a5 p0.Body c5)] rfl qZt rfl (by kernel_rfl) (Z7 cf14 rfl (Q1o (p0:=p0.Var) (hS11.bun [0,1,2,3,4,5] [] rfl) (h4.mono (iT im1 (iT im2 (iT im3 (iT im4 (iT im5 (iT im6 (iT im7 (iT im8 (iT im9 (iT im10 im11))))))))))) hx4) rfl fun v4 T4 w12 im12 rv4 => ?_)))))))
  obtain⟨a11,n4,c11,rfl,hS12,_⟩:=rv4
  have hS12:=hS12.unb
  refine⟨st1 rfl (Z4 rfl isAgg62 (hS12.cell0 (i:=1) ⟨rfl,rfl⟩ (j:=8) rfl)) (st1 rfl (Z4 rfl isAgg62 (hS12.cell0 (i:=1) ⟨rfl,rfl⟩ (j:=7) rfl)) (st0)),?_⟩
  obtain⟨y5,hx5,hm⟩:=Q4 hm
  refine s0 rfl qZt (fun _=>Z1 rfl underlying68 rfl sizeOf24 rfl) rfl (s2 [(7,sv a6 p0.Else c6)] rfl qZt rfl (by kernel_rfl) (Z7 cf18 rfl (hG.M7 (p0:=p0.Body) (hS12.bun [0,1,2,3,4,5,6] [] rfl) (h5.mono (iT im1 (iT im2 (iT im3 (iT im4 (iT im5 (iT im6 (iT im7 (iT im8 (iT im9 (iT im10 (iT im11 im12)))))))))))) hx5) rfl fun v5 T5 w13 im13 rv5 => ?_))
  obtain⟨a12,n5,c12,rfl,hS13,_⟩:=rv5
  have hS13:=hS13.unb
  refine⟨st1 rfl (Z4 rfl isAgg62 (hS13.cell0 (i:=1) ⟨rfl,rfl⟩ (j:=8) rfl)) (st0),?_⟩
  obtain⟨y6,hx6,hm⟩:=Q4 hm
  refine s2 [] rfl qZt rfl (by kernel_rfl) (Z7 cf18 rfl (hG.M7 (p0:=p0.Else) (hS13.bun [0,1,2,3,4,5,6,7] [] rfl) (h6.mono (iT im1 (iT im2 (iT im3 (iT im4 (iT im5 (iT im6 (iT im7 (iT im8 (iT im9 (iT im10 (iT im11 (iT im12 im13))))))))))))) hx6) rfl fun v6 T6 w14 im14 rv6 => ?_)
  obtain⟨a13,n6,c13,rfl,hS14,_⟩:=rv6
  have hS14:=hS14.unb
  refine⟨st0,?_⟩
  refine s2 [] rfl qZt rfl (by kernel_rfl) (X6 (q:=1) hS14 ⟨rfl,rfl⟩ rfl rfl rfl sizeOf24 rfl rfl rfl fun w15 im15 hS15 => ?_)
  refine⟨st0,?_⟩
  refine s0 rfl qZt (fun _=>Z1 rfl underlying68 rfl sizeOf62 rfl) rfl (s2 [] rfl qZt rfl (by kernel_rfl) (X6 (q:=1) hS15 ⟨rfl,rfl⟩ rfl rfl rfl sizeOf62 rfl rfl rfl fun w16 im16 hS16 => ?_))
  refine⟨st0,?_⟩
  refine s0 rfl qZt (fun _=>Z1 rfl underlying68 rfl sizeOf62 rfl) rfl (s2 [] rfl qZt rfl (by kernel_rfl) (X6 (q:=1) hS16 ⟨rfl,rfl⟩ rfl rfl rfl sizeOf62 rfl rfl rfl fun w17 im17 hS17 => ?_))
  refine⟨st0,?_⟩
  refine se (Y9 [(1,pt b1 0),(2,pt b2 0)] ⟨rfl,rfl,qZt⟩ fun J => ?_)
  refine sq2 ?_
  obtain⟨y7,hx7,hm⟩:=Q4 hm
  refine rg (pv (Z1 rfl underlying68 rfl sizeOf66 rfl) (pv (Z4 rfl isAgg66 (hS17.cell0 (i:=1) ⟨rfl,rfl⟩ (j:=9) rfl)) (wl rfl (Z7 cf39 rfl (hG.R9 (p0:=p0.Cases) (hS17.bun [0,1,2,3,4,5,6,7,8] [] rfl) (h7.mono (iT im1 (iT im2 (iT im3 (iT im4 (iT im5 (iT im6 (iT im7 (iT im8 (iT im9 (iT im10 (iT im11 (iT im12 (iT im13 (iT im14 (iT im15 (iT im16 im17))))))))))))))))) hx7) rfl fun v7 T7 w18 im18 rv7 => ?_))))
  obtain⟨a14,n7,c14,rfl,hS18,_⟩:=rv7
  have hS18:=hS18.unb
  refine pv (Z1 rfl underlying68 rfl sizeOf66 rfl) (wl rfl (X6 (q:=1) hS18 ⟨rfl,rfl⟩ rfl rfl rfl sizeOf66 rfl rfl rfl fun w19 im19 hS19 => ?_))
  refine nil (Q0 ?_)
  refine sq2 (rg (pv (Z5 rfl isAgg68 sizeOf68 rfl (hS19.cells0 (i:=1) ⟨rfl,rfl⟩ (o:=0) rfl) (cs := [iv p0.Kind,iv 0,iv 0,.slice a8 n1 c8,.slice a9 n2 c9,.slice a10 n3 c10,.slice a11 n4 c11,.slice a12 n5 c12,.slice a13 n6 c13,.slice a14 n7 c14])) (wl rfl (X6 (q:=0) hS19 ⟨rfl,rfl⟩ rfl rfl rfl sizeOf68 rfl rfl rfl fun w20 im20 hS20 => ?_))))
  refine nil (Q0 ?_)
  obtain⟨T8,im21,hS21,h8⟩:=hS20.seal 3 ⟨rfl,rfl⟩
  have hsh:=h8.len
  subst hsh
  obtain⟨T9,im22,hS22,h9⟩:=hS21.seal 4 ⟨rfl,rfl⟩
  have hsh:=h9.len
  subst hsh
  obtain⟨T10,im23,hS23,h10⟩:=hS22.seal 5 ⟨rfl,rfl⟩
  have hsh:=h10.len
  subst hsh
  obtain⟨T11,im24,hS24,h11⟩:=hS23.seal 6 ⟨rfl,rfl⟩
  have hsh:=h11.len
  subst hsh
  obtain⟨T12,im25,hS25,h12⟩:=hS24.seal 7 ⟨rfl,rfl⟩
  have hsh:=h12.len
  subst hsh
  obtain⟨T13,im26,hS26,h13⟩:=hS25.seal 8 ⟨rfl,rfl⟩
  have hsh:=h13.len
  subst hsh
  obtain⟨T14,im27,hS27,h14⟩:=hS26.seal 9 ⟨rfl,rfl⟩
  have hsh:=h14.len
  subst hsh
  cases oI hm
  exact rtn (A5 (vs := [.agg #[iv p0.Kind,iv 0,iv 0,sv a8 y1 c8,sv a9 y2 c9,sv a10 y3 c10,sv a11 y4 c11,sv a12 y5 c12,sv a13 y6 c13,sv a14 y7 c14]]) rfl ⟨rvS rfl isAgg68 sizeOf68 rfl (hS27.bx (i:=0) ⟨rfl,rfl⟩),qZt⟩ rfl ⟨_,rfl,_,(iT im1 (iT im2 (iT im3 (iT im4 (iT im5 (iT im6 (iT im7 (iT im8 (iT im9 (iT im10 (iT im11 (iT im12 (iT im13 (iT im14 (iT im15 (iT im16 (iT im17 (iT im18 (iT im19 (iT im20 (iT im21 (iT im22 (iT im23 (iT im24 (iT im25 (iT im26 im27)))))))))))))))))))))))))),⟨_,_,_,_,_,_,_,_,_,_,_,_,_,_,rfl,hS27.sel [2] rfl,(h8.mono (iT im22 (iT im23 (iT im24 (iT im25 (iT im26 im27)))))),(h9.mono (iT im23 (iT im24 (iT im25 (iT im26 im27))))),(h10.mono (iT im24 (iT im25 (iT im26 im27)))),(h11.mono (iT im25 (iT im26 im27))),(h12.mono (iT im26 im27)),(h13.mono im27),h14,qZt⟩⟩)
theorem Z1j {G:Rec6} (hG:Sp6 G):Q3a (Q5c G) := @fun g T0 w0 R p0 a1 c1 r hS h1 hm=>by
  refine enter (args := [sv a1 p0 c1,.func (.func 19) #[] #[]]) Tryz.func18 rfl Tryz.ntmps18 rfl fun J => ?_
  unfold Q5c at hm
  refine sq2 (rg (pv (P8 rfl) (nil (Q0 ?_))))
  refine sq2 ?_
  obtain⟨y1,hx1,hm⟩:=Q4 hm
  refine rg (pv (N2 rfl) (wl rfl (Z7 cf38 rfl (Q8i (p0:=p0) (hS.bun [0] [] rfl) h1 hx1) rfl fun v1 T1 w1 im1 rv1 => ?_)))
  obtain⟨a2,n1,c2,rfl,hS1,_⟩:=rv1
  have hS1:=hS1.unb
  refine pv (P8 rfl) (nil (Q0 ?_))
  refine sq2 (sq2 (rg (pv (N2 rfl) (pv (Z2v rfl (hS1.own (i:=1) ⟨rfl,rfl⟩).v underlying62) (pv (U1 rfl) (nil (Q0 ?_)))))))
  obtain⟨o1,ho1,hq1⟩:=Q4 hm
  obtain⟨bd1,hbd1,ho1⟩:=K3 ho1
  refine blk (wp_loop_ghost (fun m a w2 => ∃(J:JV) (T2:TP) (x1:List U5) (a3:OA) (n2:Nat) (c3:Nat) (x2:Int),a=env (nf 25) J [(1,.func (.func 19) #[] #[]),(5,.slice a3 n2 c3),(10,iv (List.length y1:Int)),(11,iv x2)]∧Im T1 w1 T2 w2∧Sep g T2 w2 [R,G3 E1 68 (.slice a3 n2 c3) x1]∧V7 bd1 m (x1,x2)=some o1) NN ⟨_,_,y1,_,_,_,0,Q7 ⟨rfl,rfl,rfl,rfl,qZt⟩,Im.refl,hS1.sel [0,1] rfl,ho1⟩ ?_)
  rintro m _ w2 ⟨J,T2,x1,a3,n2,c3,x2,rfl,im2,hS2,ho1⟩
  obtain⟨m1,z1,rfl,hm,hn1⟩:=U4 ho1
  rw [hbd1] at hm
  refine sq2 (rg (pv (X7 rfl rfl rfl) (nil (Q0 ?_))))
  refine sq2 (cnd rfl (fun hb1 => ?_) (fun hb1 => ?_))
  · have hm:=V8 hb1 hm
    refine skp (Q0 ?_)
    refine sq2 (blk (sq2 (rg (pv (U1 rfl) (pv (J0 rfl) (nil (Q0 ?_)))))))
    obtain⟨u1,hx2,hm⟩:=Q4 hm
    obtain⟨b1,of1,cs1,k1,cp1,hv1,hp1,hl1,he1,hr1,hc1⟩:=(hS2.own (i:=1) ⟨rfl,rfl⟩).v.ixq hx2 rfl
    obtain⟨a4,c4,a5,c5,a6,c6,a7,c7,a8,c8,a9,c9,a10,c10,rfl,h2,h3,h4,h5,h6,h7,h8⟩:=Q2r hr1
    obtain⟨y2,hx3,hm⟩:=Q4 hm
    refine rg (pv (N2 rfl) (pv (U1 rfl) (pv (r_mf rfl) (pv (N2 rfl) (pv (U1 rfl) (pv (B2 hv1 rfl underlying62 sizeOf68 hp1 hl1 he1) (pv (Z5 rfl isAgg68 sizeOf68 rfl hc1 (cs:=(B4 u1 a4 c4 a5 c5 a6 c6 a7 c7 a8 c8 a9 c9 a10 c10))) (wl rfl (Z7 cf19 rfl (hG.N9 (p0:=u1) (hS2.bun [0,1] [] rfl) h2 h3 h4 h5 h6 h7 h8 hx3) rfl fun v2 T3 w3 im3 rv2 => ?_)))))))))
    obtain⟨a11,c11,a12,c12,a13,c13,a14,c14,a15,c15,a16,c16,a17,c17,rfl,hS3,h9,h10,h11,h12,h13,h14,h15,_⟩:=rv2
    have hS3:=hS3.unb
    obtain⟨u2,hx4,hm⟩:=Q4 hm
    obtain⟨b2,of2,cs2,k2,cp2,hv2,hp2,hl2,he2,hr2,hc2⟩:=(hS3.own (i:=1) ⟨rfl,rfl⟩).v.ixq hx4 rfl
    obtain⟨a18,c18,a19,c19,a20,c20,a21,c21,a22,c22,a23,c23,a24,c24,rfl,h16,h17,h18,h19,h20,h21,h22⟩:=Q2r hr2
    obtain⟨u3,hx5,hm⟩:=Q4 hm
    refine pv (B2 hv2 rfl underlying62 sizeOf68 hp2 hl2 he2) (wl rfl (stO (q:=1) (i:=Int.toNat x2) (j:=0) (u:=u3) (u' := y2) hS3 ⟨rfl,rfl⟩ hv2 (W8 hx5).2.2 he2 rfl rfl rfl sizeOf68 rfl rfl rfl (fun c0 hc0=>by rw [Q2o (r:=E1) hc0 rfl]; exact(Q9e (x:=y2) h9 h10 h11 h12 h13 h14 h15:E1.rp _ _ _ _)) fun w4 im4 hS4 => ?_))
    refine nil (U6 (Q0 ?_))
    cases oI hm
    exact rg (pv (X7 rfl rfl rfl) (pv (U1 rfl) (nil (Q0 ⟨m1,Nat.lt_succ_self _,_,_,(List.set x1 (Int.toNat x2) y2),_,_,_,(IntKind.wrap .i64 (x2+1)),Q7 ⟨rfl,rfl,rfl,rfl,qZt⟩,(iT im2 (iT im3 im4)),hS4.sel [0,1] rfl,hn1⟩))))
  have hm:=X3 hb1 hm
  cases oI hm
  have hn1:_=Lp.brk _:=hn1
  subst hn1
  have hm:=F1 hq1
  refine xt (V9 (V9 (L5 (Q0 ?_))))
  refine sq2 (rg (pv (N2 rfl) (pv (P8 rfl) (nil (Q0 ?_)))))
  cases oI hm
  exact rtn (U2 rfl rfl ⟨_,rfl,_,(iT im1 im2),⟨_,_,_,rfl,hS2.sel [0,1] rfl,qZt⟩⟩)
theorem sp6 : ∀ n,Sp6 (Q6k n)
  | 0=>⟨(by unfold Q0j; intros; rename_i h; cases (show (none:Option _)=some _ from h)),(by unfold Q2z; intros; rename_i h; cases (show (none:Option _)=some _ from h)),(by unfold Q1g; intros; rename_i h; cases (show (none:Option _)=some _ from h)),(by unfold Q3a; intros; rename_i h; cases (show (none:Option _)=some _ from h))⟩
  | n+1=>⟨Q7w (sp6 n),Z1i (sp6 n),Q8u (sp6 n),Z1j (sp6 n)⟩
theorem Z4k:Q0j A0:=(sp6 NN).A0
theorem Z7u:Q2z R9:=(sp6 NN).R9
theorem Z5j:Q1g N9:=(sp6 NN).N9
theorem Z0s:Q3a M7:=(sp6 NN).M7

theorem Q9r {p0:P4} {a1:OA} {c1:Nat} {a2:OA} {c2:Nat} {r:P4} (hS:Sep g T0 w0 [R]) (h1:SlR G7 T0 w0 (sv a1 p0.Params c1) p0.Params) (h2:SlR E1 T0 w0 (sv a2 p0.Body c2) p0.Body) (hm:Q3r p0=some r) :
    Calls Tryz.prog 17 #[.agg (A2 p0 a1 c1 a2 c2).toArray] w0 (E6 T0 w0 fun T w v => ∃(a5:OA) (c5:Nat) (a6:OA) (c6:Nat),v = .agg (A2 r a5 c5 a6 c6).toArray∧Sep g T w [R]∧SlR G7 T w (sv a5 r.Params c5) r.Params∧SlR E1 T w (sv a6 r.Body c6) r.Body∧True):=by
  refine enter (args := [.agg (A2 p0 a1 c1 a2 c2).toArray]) Tryz.func17 rfl Tryz.ntmps17 rfl fun J => ?_
  unfold Q3r at hm
  refine sq2 (rg (wl rfl (bxS (cs:=(A2 p0 a1 c1 a2 c2)) rfl rfl hS fun w1 b1 im1 hS1 => ?_)))
  refine wl rfl (alS (zs := [iv 0,iv 0,qZs [],qZs [],iv 0,qZs [],.slice none 0 0,.slice none 0 0]) zeroValue64 rfl hS1 fun w2 b2 im2 hS2 => ?_)
  refine nil (Q0 ?_)
  refine sq2 (rs [0,0,1,2,0,1,2,0,2,0,2,0,2] [0,1,2,4,5,7,3,6,8,9,10,11,12] mix (by kernel_rfl) hS2.lt fun w3 i1 => ?_)
  have im3:=i1.imm
  have hS3:=hS2.keep i1 (fun _ h=>h)
  obtain⟨y1,hx1,hm⟩:=Q4 hm
  refine s0 rfl qZt (fun _=>A8 (by kernel_rfl) rfl (u := .agg #[iv 0,iv 0])) rfl (s0 rfl qZt (fun _=>Z1 rfl underlying64 rfl sizeOf24 rfl) rfl (s1 rfl qZt (Z4 rfl isAgg24 (hS3.cell0 (i:=1) ⟨rfl,rfl⟩ (j:=6) rfl)) rfl (s0 rfl qZt (fun _=>Z1 rfl underlying64 rfl sizeOf62 rfl) rfl (s1 rfl qZt (Z4 rfl isAgg62 (hS3.cell0 (i:=1) ⟨rfl,rfl⟩ (j:=7) rfl)) rfl (s0 rfl qZt (fun _=>Z1 rfl underlying64 rfl sizeOf29 rfl) rfl (s2 [(5,sv a2 p0.Body c2)] rfl qZt rfl (by kernel_rfl) (Z7 cf14 rfl (Q1o (p0:=p0.Params) (hS3.bun [0,1,2] [] rfl) (h1.mono (iT im1 (iT im2 im3))) hx1) rfl fun v1 T1 w4 im4 rv1 => ?_)))))))
  obtain⟨a3,n1,c3,rfl,hS4,_⟩:=rv1
  have hS4:=hS4.unb
  refine⟨st1 rfl (Z4 rfl isAgg62 (hS4.cell0 (i:=1) ⟨rfl,rfl⟩ (j:=7) rfl)) (st0),?_⟩
  obtain⟨y2,hx2,hm⟩:=Q4 hm
  refine s2 [] rfl qZt rfl (by kernel_rfl) (Z7 cf18 rfl (Z0s (p0:=p0.Body) (hS4.bun [0,1,2,3] [] rfl) (h2.mono (iT im1 (iT im2 (iT im3 im4)))) hx2) rfl fun v2 T2 w5 im5 rv2 => ?_)
  obtain⟨a4,n2,c4,rfl,hS5,_⟩:=rv2
  have hS5:=hS5.unb
  refine⟨st0,?_⟩
  refine s2 [] rfl qZt rfl (by kernel_rfl) (X6 (q:=1) hS5 ⟨rfl,rfl⟩ rfl rfl rfl sizeOf29 rfl rfl rfl fun w6 im6 hS6 => ?_)
  refine⟨st0,?_⟩
  refine s0 rfl qZt (fun _=>Z1 rfl underlying64 rfl sizeOf24 rfl) rfl (s2 [] rfl qZt rfl (by kernel_rfl) (X6 (q:=1) hS6 ⟨rfl,rfl⟩ rfl rfl rfl sizeOf24 rfl rfl rfl fun w7 im7 hS7 => ?_))
  refine⟨st0,?_⟩
  refine s0 rfl qZt (fun _=>Z1 rfl underlying64 rfl sizeOf62 rfl) rfl (s2 [] rfl qZt rfl (by kernel_rfl) (X6 (q:=1) hS7 ⟨rfl,rfl⟩ rfl rfl rfl sizeOf62 rfl rfl rfl fun w8 im8 hS8 => ?_))
  refine⟨st0,?_⟩
  refine se (Q0 ?_)
  refine sq2 (rg (pv (Z5 rfl isAgg64 sizeOf64 rfl (hS8.cells0 (i:=1) ⟨rfl,rfl⟩ (o:=0) rfl) (cs := [iv 0,iv 0,qZs p0.Ret.Word,qZs p0.Ret.Name,iv p0.Ret.Stars,qZs p0.Name,.slice a3 n1 c3,.slice a4 n2 c4])) (wl rfl (X6 (q:=0) hS8 ⟨rfl,rfl⟩ rfl rfl rfl sizeOf64 rfl rfl rfl fun w9 im9 hS9 => ?_))))
  refine nil (Q0 ?_)
  obtain⟨T3,im10,hS10,h3⟩:=hS9.seal 3 ⟨rfl,rfl⟩
  have hsh:=h3.len
  subst hsh
  obtain⟨T4,im11,hS11,h4⟩:=hS10.seal 4 ⟨rfl,rfl⟩
  have hsh:=h4.len
  subst hsh
  cases oI hm
  exact rtn (A5 (vs := [.agg #[iv 0,iv 0,qZs p0.Ret.Word,qZs p0.Ret.Name,iv p0.Ret.Stars,qZs p0.Name,sv a3 y1 c3,sv a4 y2 c4]]) rfl ⟨rvS rfl isAgg64 sizeOf64 rfl (hS11.bx (i:=0) ⟨rfl,rfl⟩),qZt⟩ rfl ⟨_,rfl,_,(iT im1 (iT im2 (iT im3 (iT im4 (iT im5 (iT im6 (iT im7 (iT im8 (iT im9 (iT im10 im11)))))))))),⟨_,_,_,_,rfl,hS11.sel [2] rfl,(h3.mono im11),h4,qZt⟩⟩)

theorem Z0t {p0:List P4} {a1:OA} {c1:Nat} {r:(List P4)} (hS:Sep g T0 w0 [R]) (h1:SlR A1 T0 w0 (sv a1 p0 c1) p0) (hm:Q4u p0=some r) :
    Calls Tryz.prog 16 #[sv a1 p0 c1,.func (.func 17) #[] #[]] w0 (E6 T0 w0 fun T w v => ∃(a10:OA) (n3:Nat) (c10:Nat),v = .slice a10 n3 c10∧Sep g T w [R,G3 A1 64 (.slice a10 n3 c10) r]∧True):=by
  refine enter (args := [sv a1 p0 c1,.func (.func 17) #[] #[]]) Tryz.func16 rfl Tryz.ntmps16 rfl fun J => ?_
  unfold Q4u at hm
  refine sq2 (rg (pv (P8 rfl) (nil (Q0 ?_))))
  refine sq2 ?_
  obtain⟨y1,hx1,hm⟩:=Q4 hm
  refine rg (pv (N2 rfl) (wl rfl (Z7 cf37 rfl (Q8j (p0:=p0) (hS.bun [0] [] rfl) h1 hx1) rfl fun v1 T1 w1 im1 rv1 => ?_)))
  obtain⟨a2,n1,c2,rfl,hS1,_⟩:=rv1
  have hS1:=hS1.unb
  refine pv (P8 rfl) (nil (Q0 ?_))
  refine sq2 (sq2 (rg (pv (N2 rfl) (pv (Z2v rfl (hS1.own (i:=1) ⟨rfl,rfl⟩).v underlying25) (pv (U1 rfl) (nil (Q0 ?_)))))))
  obtain⟨o1,ho1,hq1⟩:=Q4 hm
  obtain⟨bd1,hbd1,ho1⟩:=K3 ho1
  refine blk (wp_loop_ghost (fun m a w2 => ∃(J:JV) (T2:TP) (x1:List P4) (a3:OA) (n2:Nat) (c3:Nat) (x2:Int),a=env (nf 25) J [(1,.func (.func 17) #[] #[]),(5,.slice a3 n2 c3),(10,iv (List.length y1:Int)),(11,iv x2)]∧Im T1 w1 T2 w2∧Sep g T2 w2 [R,G3 A1 64 (.slice a3 n2 c3) x1]∧V7 bd1 m (x1,x2)=some o1) NN ⟨_,_,y1,_,_,_,0,Q7 ⟨rfl,rfl,rfl,rfl,qZt⟩,Im.refl,hS1.sel [0,1] rfl,ho1⟩ ?_)
  rintro m _ w2 ⟨J,T2,x1,a3,n2,c3,x2,rfl,im2,hS2,ho1⟩
  obtain⟨m1,z1,rfl,hm,hn1⟩:=U4 ho1
  rw [hbd1] at hm
  refine sq2 (rg (pv (X7 rfl rfl rfl) (nil (Q0 ?_))))
  refine sq2 (cnd rfl (fun hb1 => ?_) (fun hb1 => ?_))
  · have hm:=V8 hb1 hm
    refine skp (Q0 ?_)
    refine sq2 (blk (sq2 (rg (pv (U1 rfl) (pv (J0 rfl) (nil (Q0 ?_)))))))
    obtain⟨u1,hx2,hm⟩:=Q4 hm
    obtain⟨b1,of1,cs1,k1,cp1,hv1,hp1,hl1,he1,hr1,hc1⟩:=(hS2.own (i:=1) ⟨rfl,rfl⟩).v.ixq hx2 rfl
    obtain⟨a4,c4,a5,c5,rfl,h2,h3⟩:=Q3i hr1
    obtain⟨y2,hx3,hm⟩:=Q4 hm
    refine rg (pv (N2 rfl) (pv (U1 rfl) (pv (r_mf rfl) (pv (N2 rfl) (pv (U1 rfl) (pv (B2 hv1 rfl underlying25 sizeOf64 hp1 hl1 he1) (pv (Z5 rfl isAgg64 sizeOf64 rfl hc1 (cs:=(A2 u1 a4 c4 a5 c5))) (wl rfl (Z7 cf17 rfl (Q9r (p0:=u1) (hS2.bun [0,1] [] rfl) h2 h3 hx3) rfl fun v2 T3 w3 im3 rv2 => ?_)))))))))
    obtain⟨a6,c6,a7,c7,rfl,hS3,h4,h5,_⟩:=rv2
    have hS3:=hS3.unb
    obtain⟨u2,hx4,hm⟩:=Q4 hm
    obtain⟨b2,of2,cs2,k2,cp2,hv2,hp2,hl2,he2,hr2,hc2⟩:=(hS3.own (i:=1) ⟨rfl,rfl⟩).v.ixq hx4 rfl
    obtain⟨a8,c8,a9,c9,rfl,h6,h7⟩:=Q3i hr2
    obtain⟨u3,hx5,hm⟩:=Q4 hm
    refine pv (B2 hv2 rfl underlying25 sizeOf64 hp2 hl2 he2) (wl rfl (stO (q:=1) (i:=Int.toNat x2) (j:=0) (u:=u3) (u' := y2) hS3 ⟨rfl,rfl⟩ hv2 (W8 hx5).2.2 he2 rfl rfl rfl sizeOf64 rfl rfl rfl (fun c0 hc0=>by rw [Q2o (r:=A1) hc0 rfl]; exact(Q9v (x:=y2) h4 h5:A1.rp _ _ _ _)) fun w4 im4 hS4 => ?_))
    refine nil (U6 (Q0 ?_))
    cases oI hm
    exact rg (pv (X7 rfl rfl rfl) (pv (U1 rfl) (nil (Q0 ⟨m1,Nat.lt_succ_self _,_,_,(List.set x1 (Int.toNat x2) y2),_,_,_,(IntKind.wrap .i64 (x2+1)),Q7 ⟨rfl,rfl,rfl,rfl,qZt⟩,(iT im2 (iT im3 im4)),hS4.sel [0,1] rfl,hn1⟩))))
  have hm:=X3 hb1 hm
  cases oI hm
  have hn1:_=Lp.brk _:=hn1
  subst hn1
  have hm:=F1 hq1
  refine xt (V9 (V9 (L5 (Q0 ?_))))
  refine sq2 (rg (pv (N2 rfl) (pv (P8 rfl) (nil (Q0 ?_)))))
  cases oI hm
  exact rtn (U2 rfl rfl ⟨_,rfl,_,(iT im1 im2),⟨_,_,_,rfl,hS2.sel [0,1] rfl,qZt⟩⟩)

theorem Q6s {p0:K4} {a1:OA} {c1:Nat} {a2:OA} {c2:Nat} {a3:OA} {c3:Nat} {r:K4} (hS:Sep g T0 w0 [R]) (h1:SlR D3 T0 w0 (sv a1 p0.Structs c1) p0.Structs) (h2:SlR G7 T0 w0 (sv a2 p0.Globals c2) p0.Globals) (h3:SlR A1 T0 w0 (sv a3 p0.Funcs c3) p0.Funcs) (hm:Q2m p0=some r) :
    Calls Tryz.prog 7 #[.agg #[sv a1 p0.Structs c1,sv a2 p0.Globals c2,sv a3 p0.Funcs c3]] w0 (E6 T0 w0 fun T w v => ∃(a7:OA) (c7:Nat) (a8:OA) (c8:Nat) (a9:OA) (c9:Nat),v = .agg #[sv a7 r.Structs c7,sv a8 r.Globals c8,sv a9 r.Funcs c9]∧Sep g T w [R]∧SlR D3 T w (sv a7 r.Structs c7) r.Structs∧SlR G7 T w (sv a8 r.Globals c8) r.Globals∧SlR A1 T w (sv a9 r.Funcs c9) r.Funcs∧True):=by
  refine enter (args := [.agg #[sv a1 p0.Structs c1,sv a2 p0.Globals c2,sv a3 p0.Funcs c3]]) Tryz.func7 rfl Tryz.ntmps7 rfl fun J => ?_
  unfold Q2m at hm
  refine sq2 (rg (wl rfl (bxS (cs := [sv a1 p0.Structs c1,sv a2 p0.Globals c2,sv a3 p0.Funcs c3]) rfl rfl hS fun w1 b1 im1 hS1 => ?_)))
  refine wl rfl (alS (zs := [.slice none 0 0,.slice none 0 0,.slice none 0 0]) zeroValue27 rfl hS1 fun w2 b2 im2 hS2 => ?_)
  refine nil (Q0 ?_)
  refine sq2 ?_
  obtain⟨y1,hx1,hm⟩:=Q4 hm
  refine rg (pv (Z1 rfl underlying27 rfl sizeOf23 rfl) (pv (Z4 rfl isAgg23 (hS2.cell0 (i:=1) ⟨rfl,rfl⟩ (j:=0) rfl)) (wl rfl (Z7 cf12 rfl (Z2l (p0:=p0.Structs) (hS2.bun [0,1,2] [] rfl) (h1.mono (iT im1 im2)) hx1) rfl fun v1 T1 w3 im3 rv1 => ?_))))
  obtain⟨a4,n1,c4,rfl,hS3,_⟩:=rv1
  have hS3:=hS3.unb
  refine pv (Z1 rfl underlying27 rfl sizeOf23 rfl) (wl rfl (X6 (q:=1) hS3 ⟨rfl,rfl⟩ rfl rfl rfl sizeOf23 rfl rfl rfl fun w4 im4 hS4 => ?_))
  refine nil (Q0 ?_)
  refine sq2 ?_
  obtain⟨y2,hx2,hm⟩:=Q4 hm
  refine rg (pv (Z1 rfl underlying27 rfl sizeOf24 rfl) (pv (Z4 rfl isAgg24 (hS4.cell0 (i:=1) ⟨rfl,rfl⟩ (j:=1) rfl)) (wl rfl (Z7 cf14 rfl (Q1o (p0:=p0.Globals) (hS4.bun [0,1,2,3] [] rfl) (h2.mono (iT im1 (iT im2 (iT im3 im4)))) hx2) rfl fun v2 T2 w5 im5 rv2 => ?_))))
  obtain⟨a5,n2,c5,rfl,hS5,_⟩:=rv2
  have hS5:=hS5.unb
  refine pv (Z1 rfl underlying27 rfl sizeOf24 rfl) (wl rfl (X6 (q:=1) hS5 ⟨rfl,rfl⟩ rfl rfl rfl sizeOf24 rfl rfl rfl fun w6 im6 hS6 => ?_))
  refine nil (Q0 ?_)
  refine sq2 ?_
  obtain⟨y3,hx3,hm⟩:=Q4 hm
  refine rg (pv (Z1 rfl underlying27 rfl sizeOf25 rfl) (pv (Z4 rfl isAgg25 (hS6.cell0 (i:=1) ⟨rfl,rfl⟩ (j:=2) rfl)) (wl rfl (Z7 cf16 rfl (Z0t (p0:=p0.Funcs) (hS6.bun [0,1,2,3,4] [] rfl) (h3.mono (iT im1 (iT im2 (iT im3 (iT im4 (iT im5 im6)))))) hx3) rfl fun v3 T3 w7 im7 rv3 => ?_))))
  obtain⟨a6,n3,c6,rfl,hS7,_⟩:=rv3
  have hS7:=hS7.unb
  refine pv (Z1 rfl underlying27 rfl sizeOf25 rfl) (wl rfl (X6 (q:=1) hS7 ⟨rfl,rfl⟩ rfl rfl rfl sizeOf25 rfl rfl rfl fun w8 im8 hS8 => ?_))
  refine nil (Q0 ?_)
  refine sq2 (rg (pv (Z5 rfl isAgg27 sizeOf27 rfl (hS8.cells0 (i:=1) ⟨rfl,rfl⟩ (o:=0) rfl) (cs := [.slice a4 n1 c4,.slice a5 n2 c5,.slice a6 n3 c6])) (wl rfl (X6 (q:=0) hS8 ⟨rfl,rfl⟩ rfl rfl rfl sizeOf27 rfl rfl rfl fun w9 im9 hS9 => ?_))))
  refine nil (Q0 ?_)
  obtain⟨T4,im10,hS10,h4⟩:=hS9.seal 3 ⟨rfl,rfl⟩
  have hsh:=h4.len
  subst hsh
  obtain⟨T5,im11,hS11,h5⟩:=hS10.seal 4 ⟨rfl,rfl⟩
  have hsh:=h5.len
  subst hsh
  obtain⟨T6,im12,hS12,h6⟩:=hS11.seal 5 ⟨rfl,rfl⟩
  have hsh:=h6.len
  subst hsh
  cases oI hm
  exact rtn (A5 (vs := [.agg #[sv a4 y1 c4,sv a5 y2 c5,sv a6 y3 c6]]) rfl ⟨rvS rfl isAgg27 sizeOf27 rfl (hS12.bx (i:=0) ⟨rfl,rfl⟩),qZt⟩ rfl ⟨_,rfl,_,(iT im1 (iT im2 (iT im3 (iT im4 (iT im5 (iT im6 (iT im7 (iT im8 (iT im9 (iT im10 (iT im11 im12))))))))))),⟨_,_,_,_,_,_,rfl,hS12.sel [2] rfl,(h4.mono (iT im11 im12)),(h5.mono im12),h6,qZt⟩⟩)

def Q3e (F:(List Z6)→(List Z6)→Bool→Option (Bool)):Prop := ∀ {g:World} {T0:TP} {w0:World} {R:J7} {p0:List Z6} {a1:OA} {c1:Nat} {p1:List Z6} {a2:OA} {c2:Nat} {p2:Bool} {r:Bool} (hS:Sep g T0 w0 [R]) (h1:SlR X0 T0 w0 (sv a1 p0 c1) p0) (h2:SlR X0 T0 w0 (sv a2 p1 c2) p1) (hm:F p0 p1 p2=some r),
    Calls Tryz.prog 41 #[sv a1 p0 c1,sv a2 p1 c2,.bool p2] w0 (E6 T0 w0 fun T w v=>v = .bool r∧Sep g T w [R]∧True)
structure Sp7 (G:Rec7):Prop where
  E5:Q3e G.E5
theorem Z1x {G:Rec7} (hG:Sp7 G):Q3e (S6 G) := @fun g T0 w0 R p0 a1 c1 p1 a2 c2 p2 r hS h1 h2 hm=>by
  refine enter (args := [sv a1 p0 c1,sv a2 p1 c2,.bool p2]) Tryz.func41 rfl Tryz.ntmps41 rfl fun J => ?_
  unfold S6 at hm
  refine sq2 (rg (pv (X5 rfl) (nil (Q0 ?_))))
  refine sq2 (sq2 (rg (pv (N2 rfl) (pv (L3 rfl underlying56) (pv (N2 rfl) (pv (L3 rfl underlying56) (pv (X7 rfl rfl rfl) (nil (Q0 ?_)))))))))
  refine V3 rfl hm (fun hb1 hm => ?_) fun hb1 hm => ?_
  · refine sq2 (rg (pv (X5 rfl) (nil (Q0 ?_))))
    cases oI hm
    exact rtn (Q6 (U2 rfl rfl ⟨_,rfl,_,Im.refl,⟨rfl,hS.sel [0] rfl,qZt⟩⟩))
  refine skp (Q0 ?_)
  refine sq2 (sq2 (rg (pv (J0 rfl) (nil (Q0 ?_)))))
  obtain⟨o1,ho1,hq1⟩:=Q4 hm
  obtain⟨bd1,hbd1,ho1⟩:=K3 ho1
  refine blk (wp_loop_ghost (fun m a w1 => ∃(J:JV) (T1:TP) (x1:Int),a=env (nf 82) J [(0,sv a1 p0 c1),(1,sv a2 p1 c2),(2,.bool p2),(7,iv x1)]∧Im T0 w0 T1 w1∧Sep g T1 w1 [R]∧V7 bd1 m x1=some o1) NN ⟨_,_,0,Q7 ⟨rfl,rfl,rfl,rfl,qZt⟩,Im.refl,hS.sel [0] rfl,ho1⟩ ?_)
  rintro m _ w1 ⟨J,T1,x1,rfl,im1,hS1,ho1⟩
  obtain⟨m1,z1,rfl,hm,hn1⟩:=U4 ho1
  rw [hbd1] at hm
  refine sq2 (sq2 (rg (pv (U1 rfl) (pv (N2 rfl) (pv (L3 rfl underlying56) (pv (X7 rfl rfl rfl) (nil (Q0 ?_))))))))
  refine V3 rfl hm (fun hb2 hm => ?_) fun hb2 hm => ?_
  · refine skp (Q0 ?_)
    refine sq2 (blk ?_)
    obtain⟨kk1,hkk1,hm⟩:=F6 hm
    refine cut (fun a w2 => ∃(J:JV) (T2:TP) (b1:Nat) (x2:Z6) (a3:OA) (c3:Nat) (b2:Nat) (x3:Z6) (a4:OA) (c4:Nat),a=env (nf 82) J [(0,sv a1 p0 c1),(1,sv a2 p1 c2),(2,.bool p2),(7,iv x1),(8,pt b1 0),(9,pt b2 0)]∧Im T1 w1 T2 w2∧Sep g T2 w2 [R,J6 b1 (X8 x2 a3 c3),J6 b2 (X8 x3 a4 c4)]∧SlR X0 T2 w2 (sv a3 x2.Kids c3) x2.Kids∧SlR X0 T2 w2 (sv a4 x3.Kids c4) x3.Kids∧kk1 x2 x3=some z1) ?_ ?_
    · refine rt [0,0,0,1,0,0,0,1,2,2,2,2] [0,1,2,3,4,5,6,7,8,9,10,11] mix (by kernel_rfl) hS1.lt fun w3 i1 => ?_
      have im3:=i1.imm
      have hS2:=hS1.keep i1 (fun _ h=>h)
      obtain⟨u1,hx1,hm⟩:=Q4 hm
      obtain⟨b3,of1,cs1,k1,cp1,hv1,hp1,hl1,he1,hr1,hc1,hT1⟩:=(h1.mono (iT im1 im3)).ixT hx1 rfl
      obtain⟨a5,c5,rfl,h5⟩:=H4 hr1
      obtain⟨u2,hx2,hm⟩:=Q4 hm
      obtain⟨b4,of2,cs2,k2,cp2,hv2,hp2,hl2,he2,hr2,hc2,hT2⟩:=(h2.mono (iT im1 im3)).ixT hx2 rfl
      obtain⟨a6,c6,rfl,h6⟩:=H4 hr2
      refine t0 rfl qZt (fun _=>N2 rfl) rfl (t0 rfl qZt (fun _=>U1 rfl) rfl (t0 rfl qZt (fun _=>B2 hv1 rfl underlying56 sizeOf99 hp1 hl1 he1) rfl (t1 rfl qZt (Z5 rfl isAgg99 sizeOf99 rfl hc1 (cs:=(X8 u1 a5 c5))) rfl (t0 rfl qZt (fun _=>N2 rfl) rfl (t0 rfl qZt (fun _=>U1 rfl) rfl (t0 rfl qZt (fun _=>B2 hv2 rfl underlying56 sizeOf99 hp2 hl2 he2) rfl (t1 rfl qZt (Z5 rfl isAgg99 sizeOf99 rfl hc2 (cs:=(X8 u2 a6 c6))) rfl (tw [8,9] rfl (F5 rfl rfl qZt) rfl (by kernel_rfl) (by kernel_rfl) ⟨br [9,10,11] [(7,.agg (X8 u2 a6 c6).toArray),(3,.agg (X8 u1 a5 c5).toArray)] rfl (by kernel_rfl) (by kernel_rfl) qZt (by kernel_rfl) (alS (zs := [iv 0,iv 0,iv 0,qZs [],qZs [],.int .u32 0,qZs [],qZs [],iv 0,.slice none 0 0]) zeroValue99 rfl hS2 fun w4 b5 im4 hS3 => ?_),br [8,10,11] [(7,.agg (X8 u2 a6 c6).toArray),(3,.agg (X8 u1 a5 c5).toArray)] rfl (by kernel_rfl) (by kernel_rfl) qZt (by kernel_rfl) (alS (zs := [iv 0,iv 0,iv 0,qZs [],qZs [],.int .u32 0,qZs [],qZs [],iv 0,.slice none 0 0]) zeroValue99 rfl hS2 fun w4 b5 im4 hS3 => ?_),qZt⟩))))))))
      · refine⟨st1 rfl (Z5 rfl isAgg99 sizeOf99 rfl (hc2.same (im4 b4 hT2).2) (cs:=(X8 u2 a6 c6))) (st1 rfl (Z5 rfl isAgg99 sizeOf99 rfl (hc1.same (im4 b3 hT1).2) (cs:=(X8 u1 a5 c5))) (st0)),?_⟩
        refine tw [9] rfl (F5 rfl rfl qZt) rfl (by kernel_rfl) (by kernel_rfl) ⟨br [10,11] [(7,.agg (X8 u2 a6 c6).toArray),(3,.agg (X8 u1 a5 c5).toArray)] rfl (by kernel_rfl) (by kernel_rfl) qZt (by kernel_rfl) (alS (zs := [iv 0,iv 0,iv 0,qZs [],qZs [],.int .u32 0,qZs [],qZs [],iv 0,.slice none 0 0]) zeroValue99 rfl hS3 fun w5 b6 im5 hS4 => ?_),qZt⟩
        refine⟨st1 rfl (Z5 rfl isAgg99 sizeOf99 rfl (hc2.same ((iT im4 im5) b4 hT2).2) (cs:=(X8 u2 a6 c6))) (st1 rfl (Z5 rfl isAgg99 sizeOf99 rfl (hc1.same ((iT im4 im5) b3 hT1).2) (cs:=(X8 u1 a5 c5))) (st0)),?_⟩
        refine tw [10] rfl (F5 rfl rfl qZt) rfl (by kernel_rfl) (by kernel_rfl) ⟨br [11] [(7,.agg (X8 u2 a6 c6).toArray)] rfl (by kernel_rfl) (by kernel_rfl) qZt (by kernel_rfl) (X6 (q:=1) hS4 ⟨rfl,rfl⟩ rfl rfl rfl sizeOf99 rfl rfl rfl fun w6 im6 hS5 => ?_),qZt⟩
        refine⟨st1 rfl (Z5 rfl isAgg99 sizeOf99 rfl (hc2.same ((iT im4 (iT im5 im6)) b4 hT2).2) (cs:=(X8 u2 a6 c6))) (st0),?_⟩
        refine tw [11] rfl (F5 rfl rfl qZt) rfl (by kernel_rfl) (by kernel_rfl) ⟨br [] [] rfl (by kernel_rfl) (by kernel_rfl) qZt (by kernel_rfl) (X6 (q:=0) hS5 ⟨rfl,rfl⟩ rfl rfl rfl sizeOf99 rfl rfl rfl fun w7 im7 hS6 => ?_),qZt⟩
        refine⟨st0,?_⟩
        exact te (Q0 ⟨_,_,_,u1,_,_,_,u2,_,_,Q7 ⟨rfl,rfl,rfl,rfl,rfl,rfl,qZt⟩,(iT im3 (iT im4 (iT im5 (iT im6 im7)))),hS6.sel [2,1,0] rfl,(h5.mono (iT im4 (iT im5 (iT im6 im7)))),(h6.mono (iT im4 (iT im5 (iT im6 im7)))),hm⟩)
      refine⟨st1 rfl (Z5 rfl isAgg99 sizeOf99 rfl (hc2.same (im4 b4 hT2).2) (cs:=(X8 u2 a6 c6))) (st1 rfl (Z5 rfl isAgg99 sizeOf99 rfl (hc1.same (im4 b3 hT1).2) (cs:=(X8 u1 a5 c5))) (st0)),?_⟩
      refine tw [8] rfl (F5 rfl rfl qZt) rfl (by kernel_rfl) (by kernel_rfl) ⟨br [10,11] [(7,.agg (X8 u2 a6 c6).toArray),(3,.agg (X8 u1 a5 c5).toArray)] rfl (by kernel_rfl) (by kernel_rfl) qZt (by kernel_rfl) (alS (zs := [iv 0,iv 0,iv 0,qZs [],qZs [],.int .u32 0,qZs [],qZs [],iv 0,.slice none 0 0]) zeroValue99 rfl hS3 fun w5 b6 im5 hS4 => ?_),qZt⟩
      refine⟨st1 rfl (Z5 rfl isAgg99 sizeOf99 rfl (hc2.same ((iT im4 im5) b4 hT2).2) (cs:=(X8 u2 a6 c6))) (st1 rfl (Z5 rfl isAgg99 sizeOf99 rfl (hc1.same ((iT im4 im5) b3 hT1).2) (cs:=(X8 u1 a5 c5))) (st0)),?_⟩
      refine tw [10] rfl (F5 rfl rfl qZt) rfl (by kernel_rfl) (by kernel_rfl) ⟨br [11] [(7,.agg (X8 u2 a6 c6).toArray)] rfl (by kernel_rfl) (by kernel_rfl) qZt (by kernel_rfl) (X6 (q:=0) hS4 ⟨rfl,rfl⟩ rfl rfl rfl sizeOf99 rfl rfl rfl fun w6 im6 hS5 => ?_),qZt⟩
      refine⟨st1 rfl (Z5 rfl isAgg99 sizeOf99 rfl (hc2.same ((iT im4 (iT im5 im6)) b4 hT2).2) (cs:=(X8 u2 a6 c6))) (st0),?_⟩
      refine tw [11] rfl (F5 rfl rfl qZt) rfl (by kernel_rfl) (by kernel_rfl) ⟨br [] [] rfl (by kernel_rfl) (by kernel_rfl) qZt (by kernel_rfl) (X6 (q:=1) hS5 ⟨rfl,rfl⟩ rfl rfl rfl sizeOf99 rfl rfl rfl fun w7 im7 hS6 => ?_),qZt⟩
      refine⟨st0,?_⟩
      exact te (Q0 ⟨_,_,_,u1,_,_,_,u2,_,_,Q7 ⟨rfl,rfl,rfl,rfl,rfl,rfl,qZt⟩,(iT im3 (iT im4 (iT im5 (iT im6 im7)))),hS6.sel [2,0,1] rfl,(h5.mono (iT im4 (iT im5 (iT im6 im7)))),(h6.mono (iT im4 (iT im5 (iT im6 im7)))),hm⟩)
    rintro _ w2 ⟨J,T2,b1,x2,a3,c3,b2,x3,a4,c4,rfl,im2,hS7,h3,h4,hm⟩
    rw [hkk1] at hm
    refine sq2 (rg (pv (Z1 rfl underlying99 rfl sizeOf3 rfl) (pv (Z4 rfl isAgg3 (hS7.cell0 (i:=1) ⟨rfl,rfl⟩ (j:=0) rfl)) (pv (Z1 rfl underlying99 rfl sizeOf3 rfl) (pv (Z4 rfl isAgg3 (hS7.cell0 (i:=2) ⟨rfl,rfl⟩ (j:=0) rfl)) (pv (X7 rfl rfl rfl) (pv (Y7 rfl) (?_))))))))
    rcases Bool.eq_false_or_eq_true (x2.Kind != x3.Kind) with hb3 | hb3
    · have hm:=V8 hb3 hm
      refine gF (d0:=34) rfl rfl (by rw [hb3]; rfl) (gF (d0:=34) rfl rfl (by rw [hb3]; rfl) (gF (d0:=34) rfl rfl (by rw [hb3]; rfl) (gU (d0:=37) rfl rfl (gU (d0:=37) rfl rfl (gU (d0:=37) rfl rfl (gU (d0:=37) rfl rfl (gU (d0:=37) rfl rfl (gF (d0:=34) rfl rfl (by rw [hb3]; rfl) (pv (Y1 rfl hb3 rfl) (pv (Y7 rfl) (gF (d0:=45) rfl rfl rfl (gF (d0:=45) rfl rfl rfl (gF (d0:=45) rfl rfl rfl (gF (d0:=45) rfl rfl rfl (gF (d0:=45) rfl rfl rfl (pv (Y1 rfl rfl rfl) (pv (Y7 rfl) (gF (d0:=52) rfl rfl rfl (gF (d0:=52) rfl rfl rfl (gF (d0:=52) rfl rfl rfl (gF (d0:=52) rfl rfl rfl (gF (d0:=52) rfl rfl rfl (pv (Y1 rfl rfl rfl) (pv (Y7 rfl) (gF (d0:=59) rfl rfl rfl (gF (d0:=59) rfl rfl rfl (gF (d0:=59) rfl rfl rfl (gF (d0:=59) rfl rfl rfl (gF (d0:=59) rfl rfl rfl (pv (Y1 rfl rfl rfl) (pv (Y7 rfl) (gF (d0:=66) rfl rfl rfl (gF (d0:=66) rfl rfl rfl (gF (d0:=66) rfl rfl rfl (gF (d0:=66) rfl rfl rfl (gF (d0:=66) rfl rfl rfl (pv (Y1 rfl rfl rfl) (pv (Y7 rfl) (gF (d0:=73) rfl rfl rfl (gF (d0:=73) rfl rfl rfl (gF (d0:=73) rfl rfl rfl (gF (d0:=73) rfl rfl rfl (gF (d0:=73) rfl rfl rfl (gF (d0:=73) rfl rfl rfl (gF (d0:=73) rfl rfl rfl (pv (Y1 rfl rfl rfl) (nil (Y9 [(0,sv a1 p0 c1),(1,sv a2 p1 c2),(2,.bool p2),(7,iv x1),(81,.bool true)] ⟨rfl,rfl,rfl,rfl,rfl,qZt⟩ fun J => ?_))))))))))))))))))))))))))))))))))))))))))))))))
      refine cnd (b:=true) rfl (fun _ => ?_) (fun h=>nomatch h)
      refine sq2 (rg (pv (X5 rfl) (nil (Q0 ?_))))
      cases oI hm
      have hn1:_=Lp.ret _:=hn1
      subst hn1
      have hm:=X1 hq1
      cases oI hm
      exact rtn (Y5 (Q6 (Q6 (Y5 (Q6 (U2 rfl rfl ⟨_,rfl,_,(iT im1 im2),⟨rfl,hS7.sel [0] rfl,qZt⟩⟩))))))
    have hm:=X3 hb3 hm
    refine gT (d0:=34) rfl rfl hb3 (pv (Y7 rfl) (gT (d0:=34) rfl rfl hb3 (pv (L7 rfl) (gT (d0:=34) rfl rfl hb3 (pv (Y7 rfl) (?_))))))
    rcases Bool.eq_false_or_eq_true (!p2) with hb4 | hb4
    · have hm:=V8 hb4 hm
      refine gT (d0:=37) rfl rfl hb4 (pv (Z1 rfl underlying99 rfl sizeOf29 rfl) (gT (d0:=37) rfl rfl hb4 (pv (Z5 rfl isAgg29 sizeOf29 rfl (hS7.cells0 (i:=1) ⟨rfl,rfl⟩ (o:=1) rfl) (cs := [iv x2.Pos.Line,iv x2.Pos.Col])) (gT (d0:=37) rfl rfl hb4 (pv (Z1 rfl underlying99 rfl sizeOf29 rfl) (gT (d0:=37) rfl rfl hb4 (pv (Z5 rfl isAgg29 sizeOf29 rfl (hS7.cells0 (i:=2) ⟨rfl,rfl⟩ (o:=1) rfl) (cs := [iv x3.Pos.Line,iv x3.Pos.Col])) (gT (d0:=37) rfl rfl hb4 (pv (Q2q rfl rfl (Z1s x2.Pos.Line x2.Pos.Col x3.Pos.Line x3.Pos.Col)) (gT (d0:=34) rfl rfl hb3 (pv (Y1 rfl hb4 rfl) (pv (X9 rfl hb3 rfl) (pv (Y7 rfl) (?_))))))))))))))
      rcases Bool.eq_false_or_eq_true (!((x2.Pos.Line == x3.Pos.Line)&&(x2.Pos.Col == x3.Pos.Col))) with hb5 | hb5
      · have hm:=V8 hb5 hm
        refine gF (d0:=45) rfl rfl (by rw [hb5]; rfl) (gF (d0:=45) rfl rfl (by rw [hb5]; rfl) (gF (d0:=45) rfl rfl (by rw [hb5]; rfl) (gF (d0:=45) rfl rfl (by rw [hb5]; rfl) (gF (d0:=45) rfl rfl (by rw [hb5]; rfl) (pv (Y1 rfl hb5 rfl) (pv (Y7 rfl) (gF (d0:=52) rfl rfl rfl (gF (d0:=52) rfl rfl rfl (gF (d0:=52) rfl rfl rfl (gF (d0:=52) rfl rfl rfl (gF (d0:=52) rfl rfl rfl (pv (Y1 rfl rfl rfl) (pv (Y7 rfl) (gF (d0:=59) rfl rfl rfl (gF (d0:=59) rfl rfl rfl (gF (d0:=59) rfl rfl rfl (gF (d0:=59) rfl rfl rfl (gF (d0:=59) rfl rfl rfl (pv (Y1 rfl rfl rfl) (pv (Y7 rfl) (gF (d0:=66) rfl rfl rfl (gF (d0:=66) rfl rfl rfl (gF (d0:=66) rfl rfl rfl (gF (d0:=66) rfl rfl rfl (gF (d0:=66) rfl rfl rfl (pv (Y1 rfl rfl rfl) (pv (Y7 rfl) (gF (d0:=73) rfl rfl rfl (gF (d0:=73) rfl rfl rfl (gF (d0:=73) rfl rfl rfl (gF (d0:=73) rfl rfl rfl (gF (d0:=73) rfl rfl rfl (gF (d0:=73) rfl rfl rfl (gF (d0:=73) rfl rfl rfl (pv (Y1 rfl rfl rfl) (nil (Y9 [(0,sv a1 p0 c1),(1,sv a2 p1 c2),(2,.bool p2),(7,iv x1),(81,.bool true)] ⟨rfl,rfl,rfl,rfl,rfl,qZt⟩ fun J => ?_)))))))))))))))))))))))))))))))))))))
        refine cnd (b:=true) rfl (fun _ => ?_) (fun h=>nomatch h)
        refine sq2 (rg (pv (X5 rfl) (nil (Q0 ?_))))
        cases oI hm
        have hn1:_=Lp.ret _:=hn1
        subst hn1
        have hm:=X1 hq1
        cases oI hm
        exact rtn (Y5 (Q6 (Q6 (Y5 (Q6 (U2 rfl rfl ⟨_,rfl,_,(iT im1 im2),⟨rfl,hS7.sel [0] rfl,qZt⟩⟩))))))
      have hm:=X3 hb5 hm
      refine gT (d0:=45) rfl rfl hb5 (pv (Z1 rfl underlying99 rfl sizeOf9 rfl) (gT (d0:=45) rfl rfl hb5 (pv (Z4 rfl isAgg9 (hS7.cell0 (i:=1) ⟨rfl,rfl⟩ (j:=3) rfl)) (gT (d0:=45) rfl rfl hb5 (pv (Z1 rfl underlying99 rfl sizeOf9 rfl) (gT (d0:=45) rfl rfl hb5 (pv (Z4 rfl isAgg9 (hS7.cell0 (i:=2) ⟨rfl,rfl⟩ (j:=3) rfl)) (gT (d0:=45) rfl rfl hb5 (pv (Q8b rfl rfl) (pv (X9 rfl hb5 rfl) (pv (Y7 rfl) (?_))))))))))))
      rcases Bool.eq_false_or_eq_true (!(decide (x2.Op=x3.Op))) with hb6 | hb6
      · have hm:=V8 hb6 hm
        refine gF (d0:=52) rfl rfl (by rw [hb6]; rfl) (gF (d0:=52) rfl rfl (by rw [hb6]; rfl) (gF (d0:=52) rfl rfl (by rw [hb6]; rfl) (gF (d0:=52) rfl rfl (by rw [hb6]; rfl) (gF (d0:=52) rfl rfl (by rw [hb6]; rfl) (pv (Y1 rfl hb6 rfl) (pv (Y7 rfl) (gF (d0:=59) rfl rfl rfl (gF (d0:=59) rfl rfl rfl (gF (d0:=59) rfl rfl rfl (gF (d0:=59) rfl rfl rfl (gF (d0:=59) rfl rfl rfl (pv (Y1 rfl rfl rfl) (pv (Y7 rfl) (gF (d0:=66) rfl rfl rfl (gF (d0:=66) rfl rfl rfl (gF (d0:=66) rfl rfl rfl (gF (d0:=66) rfl rfl rfl (gF (d0:=66) rfl rfl rfl (pv (Y1 rfl rfl rfl) (pv (Y7 rfl) (gF (d0:=73) rfl rfl rfl (gF (d0:=73) rfl rfl rfl (gF (d0:=73) rfl rfl rfl (gF (d0:=73) rfl rfl rfl (gF (d0:=73) rfl rfl rfl (gF (d0:=73) rfl rfl rfl (gF (d0:=73) rfl rfl rfl (pv (Y1 rfl rfl rfl) (nil (Y9 [(0,sv a1 p0 c1),(1,sv a2 p1 c2),(2,.bool p2),(7,iv x1),(81,.bool true)] ⟨rfl,rfl,rfl,rfl,rfl,qZt⟩ fun J => ?_))))))))))))))))))))))))))))))
        refine cnd (b:=true) rfl (fun _ => ?_) (fun h=>nomatch h)
        refine sq2 (rg (pv (X5 rfl) (nil (Q0 ?_))))
        cases oI hm
        have hn1:_=Lp.ret _:=hn1
        subst hn1
        have hm:=X1 hq1
        cases oI hm
        exact rtn (Y5 (Q6 (Q6 (Y5 (Q6 (U2 rfl rfl ⟨_,rfl,_,(iT im1 im2),⟨rfl,hS7.sel [0] rfl,qZt⟩⟩))))))
      have hm:=X3 hb6 hm
      refine gT (d0:=52) rfl rfl hb6 (pv (Z1 rfl underlying99 rfl sizeOf9 rfl) (gT (d0:=52) rfl rfl hb6 (pv (Z4 rfl isAgg9 (hS7.cell0 (i:=1) ⟨rfl,rfl⟩ (j:=4) rfl)) (gT (d0:=52) rfl rfl hb6 (pv (Z1 rfl underlying99 rfl sizeOf9 rfl) (gT (d0:=52) rfl rfl hb6 (pv (Z4 rfl isAgg9 (hS7.cell0 (i:=2) ⟨rfl,rfl⟩ (j:=4) rfl)) (gT (d0:=52) rfl rfl hb6 (pv (Q8b rfl rfl) (pv (X9 rfl hb6 rfl) (pv (Y7 rfl) (?_))))))))))))
      rcases Bool.eq_false_or_eq_true (!(decide (x2.Name=x3.Name))) with hb7 | hb7
      · have hm:=V8 hb7 hm
        refine gF (d0:=59) rfl rfl (by rw [hb7]; rfl) (gF (d0:=59) rfl rfl (by rw [hb7]; rfl) (gF (d0:=59) rfl rfl (by rw [hb7]; rfl) (gF (d0:=59) rfl rfl (by rw [hb7]; rfl) (gF (d0:=59) rfl rfl (by rw [hb7]; rfl) (pv (Y1 rfl hb7 rfl) (pv (Y7 rfl) (gF (d0:=66) rfl rfl rfl (gF (d0:=66) rfl rfl rfl (gF (d0:=66) rfl rfl rfl (gF (d0:=66) rfl rfl rfl (gF (d0:=66) rfl rfl rfl (pv (Y1 rfl rfl rfl) (pv (Y7 rfl) (gF (d0:=73) rfl rfl rfl (gF (d0:=73) rfl rfl rfl (gF (d0:=73) rfl rfl rfl (gF (d0:=73) rfl rfl rfl (gF (d0:=73) rfl rfl rfl (gF (d0:=73) rfl rfl rfl (gF (d0:=73) rfl rfl rfl (pv (Y1 rfl rfl rfl) (nil (Y9 [(0,sv a1 p0 c1),(1,sv a2 p1 c2),(2,.bool p2),(7,iv x1),(81,.bool true)] ⟨rfl,rfl,rfl,rfl,rfl,qZt⟩ fun J => ?_)))))))))))))))))))))))
        refine cnd (b:=true) rfl (fun _ => ?_) (fun h=>nomatch h)
        refine sq2 (rg (pv (X5 rfl) (nil (Q0 ?_))))
        cases oI hm
        have hn1:_=Lp.ret _:=hn1
        subst hn1
        have hm:=X1 hq1
        cases oI hm
        exact rtn (Y5 (Q6 (Q6 (Y5 (Q6 (U2 rfl rfl ⟨_,rfl,_,(iT im1 im2),⟨rfl,hS7.sel [0] rfl,qZt⟩⟩))))))
      have hm:=X3 hb7 hm
      refine gT (d0:=59) rfl rfl hb7 (pv (Z1 rfl underlying99 rfl sizeOf87 rfl) (gT (d0:=59) rfl rfl hb7 (pv (Z4 rfl isAgg87 (hS7.cell0 (i:=1) ⟨rfl,rfl⟩ (j:=5) rfl)) (gT (d0:=59) rfl rfl hb7 (pv (Z1 rfl underlying99 rfl sizeOf87 rfl) (gT (d0:=59) rfl rfl hb7 (pv (Z4 rfl isAgg87 (hS7.cell0 (i:=2) ⟨rfl,rfl⟩ (j:=5) rfl)) (gT (d0:=59) rfl rfl hb7 (pv (X7 rfl rfl rfl) (pv (X9 rfl hb7 rfl) (pv (Y7 rfl) (?_))))))))))))
      rcases Bool.eq_false_or_eq_true (x2.Num != x3.Num) with hb8 | hb8
      · have hm:=V8 hb8 hm
        refine gF (d0:=66) rfl rfl (by rw [hb8]; rfl) (gF (d0:=66) rfl rfl (by rw [hb8]; rfl) (gF (d0:=66) rfl rfl (by rw [hb8]; rfl) (gF (d0:=66) rfl rfl (by rw [hb8]; rfl) (gF (d0:=66) rfl rfl (by rw [hb8]; rfl) (pv (Y1 rfl hb8 rfl) (pv (Y7 rfl) (gF (d0:=73) rfl rfl rfl (gF (d0:=73) rfl rfl rfl (gF (d0:=73) rfl rfl rfl (gF (d0:=73) rfl rfl rfl (gF (d0:=73) rfl rfl rfl (gF (d0:=73) rfl rfl rfl (gF (d0:=73) rfl rfl rfl (pv (Y1 rfl rfl rfl) (nil (Y9 [(0,sv a1 p0 c1),(1,sv a2 p1 c2),(2,.bool p2),(7,iv x1),(81,.bool true)] ⟨rfl,rfl,rfl,rfl,rfl,qZt⟩ fun J => ?_))))))))))))))))
        refine cnd (b:=true) rfl (fun _ => ?_) (fun h=>nomatch h)
        refine sq2 (rg (pv (X5 rfl) (nil (Q0 ?_))))
        cases oI hm
        have hn1:_=Lp.ret _:=hn1
        subst hn1
        have hm:=X1 hq1
        cases oI hm
        exact rtn (Y5 (Q6 (Q6 (Y5 (Q6 (U2 rfl rfl ⟨_,rfl,_,(iT im1 im2),⟨rfl,hS7.sel [0] rfl,qZt⟩⟩))))))
      have hm:=X3 hb8 hm
      refine gT (d0:=66) rfl rfl hb8 (pv (Z1 rfl underlying99 rfl sizeOf54 rfl) (gT (d0:=66) rfl rfl hb8 (pv (Z5 rfl isAgg54 sizeOf54 rfl (hS7.cells0 (i:=1) ⟨rfl,rfl⟩ (o:=6) rfl) (cs:=(U3 x2.Type_))) (gT (d0:=66) rfl rfl hb8 (pv (Z1 rfl underlying99 rfl sizeOf54 rfl) (gT (d0:=66) rfl rfl hb8 (pv (Z5 rfl isAgg54 sizeOf54 rfl (hS7.cells0 (i:=2) ⟨rfl,rfl⟩ (o:=6) rfl) (cs:=(U3 x3.Type_))) (gT (d0:=66) rfl rfl hb8 (pv (Q2q rfl rfl (Z2y x2.Type_.Word x2.Type_.Name x2.Type_.Stars x3.Type_.Word x3.Type_.Name x3.Type_.Stars)) (pv (X9 rfl hb8 rfl) (pv (Y7 rfl) (?_))))))))))))
      rcases Bool.eq_false_or_eq_true (!((decide (x2.Type_.Word=x3.Type_.Word))&&(decide (x2.Type_.Name=x3.Type_.Name))&&(x2.Type_.Stars == x3.Type_.Stars))) with hb9 | hb9
      · have hm:=V8 hb9 hm
        refine gF (d0:=73) rfl rfl (by rw [hb9]; rfl) (gF (d0:=73) rfl rfl (by rw [hb9]; rfl) (gF (d0:=73) rfl rfl (by rw [hb9]; rfl) (gF (d0:=73) rfl rfl (by rw [hb9]; rfl) (gF (d0:=73) rfl rfl (by rw [hb9]; rfl) (gF (d0:=73) rfl rfl (by rw [hb9]; rfl) (gF (d0:=73) rfl rfl (by rw [hb9]; rfl) (pv (Y1 rfl hb9 rfl) (nil (Y9 [(0,sv a1 p0 c1),(1,sv a2 p1 c2),(2,.bool p2),(7,iv x1),(81,.bool true)] ⟨rfl,rfl,rfl,rfl,rfl,qZt⟩ fun J => ?_)))))))))
        refine cnd (b:=true) rfl (fun _ => ?_) (fun h=>nomatch h)
        refine sq2 (rg (pv (X5 rfl) (nil (Q0 ?_))))
        cases oI hm
        have hn1:_=Lp.ret _:=hn1
        subst hn1
        have hm:=X1 hq1
        cases oI hm
        exact rtn (Y5 (Q6 (Q6 (Y5 (Q6 (U2 rfl rfl ⟨_,rfl,_,(iT im1 im2),⟨rfl,hS7.sel [0] rfl,qZt⟩⟩))))))
      have hm:=X3 hb9 hm
      obtain⟨y1,hx3,hm⟩:=Q4 hm
      refine gT (d0:=73) rfl rfl hb9 (pv (Z1 rfl underlying99 rfl sizeOf56 rfl) (gT (d0:=73) rfl rfl hb9 (pv (Z4 rfl isAgg56 (hS7.cell0 (i:=1) ⟨rfl,rfl⟩ (j:=9) rfl)) (gT (d0:=73) rfl rfl hb9 (pv (Z1 rfl underlying99 rfl sizeOf56 rfl) (gT (d0:=73) rfl rfl hb9 (pv (Z4 rfl isAgg56 (hS7.cell0 (i:=2) ⟨rfl,rfl⟩ (j:=9) rfl)) (gT (d0:=73) rfl rfl hb9 (pv (Y7 rfl) (gT (d0:=73) rfl rfl hb9 (wl rfl (Z7 cf41 rfl (hG.E5 (p0:=x2.Kids) (p1:=x3.Kids) (p2:=p2) (hS7.bun [0] [] rfl) h3 h4 hx3) rfl fun v1 T3 w8 im8 rv1 => ?_))))))))))))
      obtain⟨rfl,hS8,_⟩:=rv1
      have hS8:=hS8.unb
      refine gT (d0:=73) rfl rfl hb9 (pv (L7 rfl) (pv (X9 rfl hb9 rfl) (nil (Y9 [(0,sv a1 p0 c1),(1,sv a2 p1 c2),(2,.bool p2),(7,iv x1),(81,.bool (!y1))] ⟨rfl,rfl,rfl,rfl,rfl,qZt⟩ fun J => ?_))))
      refine V3 rfl hm (fun hb10 hm => ?_) fun hb10 hm => ?_
      · refine sq2 (rg (pv (X5 rfl) (nil (Q0 ?_))))
        cases oI hm
        have hn1:_=Lp.ret _:=hn1
        subst hn1
        have hm:=X1 hq1
        cases oI hm
        exact rtn (Y5 (Q6 (Q6 (Y5 (Q6 (U2 rfl rfl ⟨_,rfl,_,(iT im1 (iT im2 im8)),⟨rfl,hS8.sel [0] rfl,qZt⟩⟩))))))
      refine skp (U6 (Q0 ?_))
      cases oI hm
      exact rg (pv (U1 rfl) (pv (X7 rfl rfl rfl) (pv (J0 rfl) (nil (Q0 ⟨m1,Nat.lt_succ_self _,_,_,(IntKind.wrap .i64 (x1+1)),Q7 ⟨rfl,rfl,rfl,rfl,qZt⟩,(iT im1 (iT im2 im8)),hS8.sel [0] rfl,hn1⟩)))))
    have hm:=X3 hb4 hm
    refine gF (d0:=37) rfl rfl (by rw [hb4]; rfl) (gF (d0:=37) rfl rfl (by rw [hb4]; rfl) (gF (d0:=37) rfl rfl (by rw [hb4]; rfl) (gF (d0:=37) rfl rfl (by rw [hb4]; rfl) (gF (d0:=37) rfl rfl (by rw [hb4]; rfl) (gT (d0:=34) rfl rfl hb3 (pv (X9 rfl hb4 rfl) (pv (X9 rfl hb3 rfl) (pv (Y7 rfl) (gT (d0:=45) rfl rfl rfl (pv (Z1 rfl underlying99 rfl sizeOf9 rfl) (gT (d0:=45) rfl rfl rfl (pv (Z4 rfl isAgg9 (hS7.cell0 (i:=1) ⟨rfl,rfl⟩ (j:=3) rfl)) (gT (d0:=45) rfl rfl rfl (pv (Z1 rfl underlying99 rfl sizeOf9 rfl) (gT (d0:=45) rfl rfl rfl (pv (Z4 rfl isAgg9 (hS7.cell0 (i:=2) ⟨rfl,rfl⟩ (j:=3) rfl)) (gT (d0:=45) rfl rfl rfl (pv (Q8b rfl rfl) (pv (X9 rfl rfl rfl) (pv (Y7 rfl) (?_)))))))))))))))))))))
    rcases Bool.eq_false_or_eq_true (!(decide (x2.Op=x3.Op))) with hb16 | hb16
    · have hm:=V8 hb16 hm
      refine gF (d0:=52) rfl rfl (by rw [hb16]; rfl) (gF (d0:=52) rfl rfl (by rw [hb16]; rfl) (gF (d0:=52) rfl rfl (by rw [hb16]; rfl) (gF (d0:=52) rfl rfl (by rw [hb16]; rfl) (gF (d0:=52) rfl rfl (by rw [hb16]; rfl) (pv (Y1 rfl hb16 rfl) (pv (Y7 rfl) (gF (d0:=59) rfl rfl rfl (gF (d0:=59) rfl rfl rfl (gF (d0:=59) rfl rfl rfl (gF (d0:=59) rfl rfl rfl (gF (d0:=59) rfl rfl rfl (pv (Y1 rfl rfl rfl) (pv (Y7 rfl) (gF (d0:=66) rfl rfl rfl (gF (d0:=66) rfl rfl rfl (gF (d0:=66) rfl rfl rfl (gF (d0:=66) rfl rfl rfl (gF (d0:=66) rfl rfl rfl (pv (Y1 rfl rfl rfl) (pv (Y7 rfl) (gF (d0:=73) rfl rfl rfl (gF (d0:=73) rfl rfl rfl (gF (d0:=73) rfl rfl rfl (gF (d0:=73) rfl rfl rfl (gF (d0:=73) rfl rfl rfl (gF (d0:=73) rfl rfl rfl (gF (d0:=73) rfl rfl rfl (pv (Y1 rfl rfl rfl) (nil (Y9 [(0,sv a1 p0 c1),(1,sv a2 p1 c2),(2,.bool p2),(7,iv x1),(81,.bool true)] ⟨rfl,rfl,rfl,rfl,rfl,qZt⟩ fun J => ?_))))))))))))))))))))))))))))))
      refine cnd (b:=true) rfl (fun _ => ?_) (fun h=>nomatch h)
      refine sq2 (rg (pv (X5 rfl) (nil (Q0 ?_))))
      cases oI hm
      have hn1:_=Lp.ret _:=hn1
      subst hn1
      have hm:=X1 hq1
      cases oI hm
      exact rtn (Y5 (Q6 (Q6 (Y5 (Q6 (U2 rfl rfl ⟨_,rfl,_,(iT im1 im2),⟨rfl,hS7.sel [0] rfl,qZt⟩⟩))))))
    have hm:=X3 hb16 hm
    refine gT (d0:=52) rfl rfl hb16 (pv (Z1 rfl underlying99 rfl sizeOf9 rfl) (gT (d0:=52) rfl rfl hb16 (pv (Z4 rfl isAgg9 (hS7.cell0 (i:=1) ⟨rfl,rfl⟩ (j:=4) rfl)) (gT (d0:=52) rfl rfl hb16 (pv (Z1 rfl underlying99 rfl sizeOf9 rfl) (gT (d0:=52) rfl rfl hb16 (pv (Z4 rfl isAgg9 (hS7.cell0 (i:=2) ⟨rfl,rfl⟩ (j:=4) rfl)) (gT (d0:=52) rfl rfl hb16 (pv (Q8b rfl rfl) (pv (X9 rfl hb16 rfl) (pv (Y7 rfl) (?_))))))))))))
    rcases Bool.eq_false_or_eq_true (!(decide (x2.Name=x3.Name))) with hb17 | hb17
    · have hm:=V8 hb17 hm
      refine gF (d0:=59) rfl rfl (by rw [hb17]; rfl) (gF (d0:=59) rfl rfl (by rw [hb17]; rfl) (gF (d0:=59) rfl rfl (by rw [hb17]; rfl) (gF (d0:=59) rfl rfl (by rw [hb17]; rfl) (gF (d0:=59) rfl rfl (by rw [hb17]; rfl) (pv (Y1 rfl hb17 rfl) (pv (Y7 rfl) (gF (d0:=66) rfl rfl rfl (gF (d0:=66) rfl rfl rfl (gF (d0:=66) rfl rfl rfl (gF (d0:=66) rfl rfl rfl (gF (d0:=66) rfl rfl rfl (pv (Y1 rfl rfl rfl) (pv (Y7 rfl) (gF (d0:=73) rfl rfl rfl (gF (d0:=73) rfl rfl rfl (gF (d0:=73) rfl rfl rfl (gF (d0:=73) rfl rfl rfl (gF (d0:=73) rfl rfl rfl (gF (d0:=73) rfl rfl rfl (gF (d0:=73) rfl rfl rfl (pv (Y1 rfl rfl rfl) (nil (Y9 [(0,sv a1 p0 c1),(1,sv a2 p1 c2),(2,.bool p2),(7,iv x1),(81,.bool true)] ⟨rfl,rfl,rfl,rfl,rfl,qZt⟩ fun J => ?_)))))))))))))))))))))))
      refine cnd (b:=true) rfl (fun _ => ?_) (fun h=>nomatch h)
      refine sq2 (rg (pv (X5 rfl) (nil (Q0 ?_))))
      cases oI hm
      have hn1:_=Lp.ret _:=hn1
      subst hn1
      have hm:=X1 hq1
      cases oI hm
      exact rtn (Y5 (Q6 (Q6 (Y5 (Q6 (U2 rfl rfl ⟨_,rfl,_,(iT im1 im2),⟨rfl,hS7.sel [0] rfl,qZt⟩⟩))))))
    have hm:=X3 hb17 hm
    refine gT (d0:=59) rfl rfl hb17 (pv (Z1 rfl underlying99 rfl sizeOf87 rfl) (gT (d0:=59) rfl rfl hb17 (pv (Z4 rfl isAgg87 (hS7.cell0 (i:=1) ⟨rfl,rfl⟩ (j:=5) rfl)) (gT (d0:=59) rfl rfl hb17 (pv (Z1 rfl underlying99 rfl sizeOf87 rfl) (gT (d0:=59) rfl rfl hb17 (pv (Z4 rfl isAgg87 (hS7.cell0 (i:=2) ⟨rfl,rfl⟩ (j:=5) rfl)) (gT (d0:=59) rfl rfl hb17 (pv (X7 rfl rfl rfl) (pv (X9 rfl hb17 rfl) (pv (Y7 rfl) (?_))))))))))))
    rcases Bool.eq_false_or_eq_true (x2.Num != x3.Num) with hb18 | hb18
    · have hm:=V8 hb18 hm
      refine gF (d0:=66) rfl rfl (by rw [hb18]; rfl) (gF (d0:=66) rfl rfl (by rw [hb18]; rfl) (gF (d0:=66) rfl rfl (by rw [hb18]; rfl) (gF (d0:=66) rfl rfl (by rw [hb18]; rfl) (gF (d0:=66) rfl rfl (by rw [hb18]; rfl) (pv (Y1 rfl hb18 rfl) (pv (Y7 rfl) (gF (d0:=73) rfl rfl rfl (gF (d0:=73) rfl rfl rfl (gF (d0:=73) rfl rfl rfl (gF (d0:=73) rfl rfl rfl (gF (d0:=73) rfl rfl rfl (gF (d0:=73) rfl rfl rfl (gF (d0:=73) rfl rfl rfl (pv (Y1 rfl rfl rfl) (nil (Y9 [(0,sv a1 p0 c1),(1,sv a2 p1 c2),(2,.bool p2),(7,iv x1),(81,.bool true)] ⟨rfl,rfl,rfl,rfl,rfl,qZt⟩ fun J => ?_))))))))))))))))
      refine cnd (b:=true) rfl (fun _ => ?_) (fun h=>nomatch h)
      refine sq2 (rg (pv (X5 rfl) (nil (Q0 ?_))))
      cases oI hm
      have hn1:_=Lp.ret _:=hn1
      subst hn1
      have hm:=X1 hq1
      cases oI hm
      exact rtn (Y5 (Q6 (Q6 (Y5 (Q6 (U2 rfl rfl ⟨_,rfl,_,(iT im1 im2),⟨rfl,hS7.sel [0] rfl,qZt⟩⟩))))))
    have hm:=X3 hb18 hm
    refine gT (d0:=66) rfl rfl hb18 (pv (Z1 rfl underlying99 rfl sizeOf54 rfl) (gT (d0:=66) rfl rfl hb18 (pv (Z5 rfl isAgg54 sizeOf54 rfl (hS7.cells0 (i:=1) ⟨rfl,rfl⟩ (o:=6) rfl) (cs:=(U3 x2.Type_))) (gT (d0:=66) rfl rfl hb18 (pv (Z1 rfl underlying99 rfl sizeOf54 rfl) (gT (d0:=66) rfl rfl hb18 (pv (Z5 rfl isAgg54 sizeOf54 rfl (hS7.cells0 (i:=2) ⟨rfl,rfl⟩ (o:=6) rfl) (cs:=(U3 x3.Type_))) (gT (d0:=66) rfl rfl hb18 (pv (Q2q rfl rfl (Z2y x2.Type_.Word x2.Type_.Name x2.Type_.Stars x3.Type_.Word x3.Type_.Name x3.Type_.Stars)) (pv (X9 rfl hb18 rfl) (pv (Y7 rfl) (?_))))))))))))
    rcases Bool.eq_false_or_eq_true (!((decide (x2.Type_.Word=x3.Type_.Word))&&(decide (x2.Type_.Name=x3.Type_.Name))&&(x2.Type_.Stars == x3.Type_.Stars))) with hb19 | hb19
    · have hm:=V8 hb19 hm
      refine gF (d0:=73) rfl rfl (by rw [hb19]; rfl) (gF (d0:=73) rfl rfl (by rw [hb19]; rfl) (gF (d0:=73) rfl rfl (by rw [hb19]; rfl) (gF (d0:=73) rfl rfl (by rw [hb19]; rfl) (gF (d0:=73) rfl rfl (by rw [hb19]; rfl) (gF (d0:=73) rfl rfl (by rw [hb19]; rfl) (gF (d0:=73) rfl rfl (by rw [hb19]; rfl) (pv (Y1 rfl hb19 rfl) (nil (Y9 [(0,sv a1 p0 c1),(1,sv a2 p1 c2),(2,.bool p2),(7,iv x1),(81,.bool true)] ⟨rfl,rfl,rfl,rfl,rfl,qZt⟩ fun J => ?_)))))))))
      refine cnd (b:=true) rfl (fun _ => ?_) (fun h=>nomatch h)
      refine sq2 (rg (pv (X5 rfl) (nil (Q0 ?_))))
      cases oI hm
      have hn1:_=Lp.ret _:=hn1
      subst hn1
      have hm:=X1 hq1
      cases oI hm
      exact rtn (Y5 (Q6 (Q6 (Y5 (Q6 (U2 rfl rfl ⟨_,rfl,_,(iT im1 im2),⟨rfl,hS7.sel [0] rfl,qZt⟩⟩))))))
    have hm:=X3 hb19 hm
    obtain⟨y2,hx4,hm⟩:=Q4 hm
    refine gT (d0:=73) rfl rfl hb19 (pv (Z1 rfl underlying99 rfl sizeOf56 rfl) (gT (d0:=73) rfl rfl hb19 (pv (Z4 rfl isAgg56 (hS7.cell0 (i:=1) ⟨rfl,rfl⟩ (j:=9) rfl)) (gT (d0:=73) rfl rfl hb19 (pv (Z1 rfl underlying99 rfl sizeOf56 rfl) (gT (d0:=73) rfl rfl hb19 (pv (Z4 rfl isAgg56 (hS7.cell0 (i:=2) ⟨rfl,rfl⟩ (j:=9) rfl)) (gT (d0:=73) rfl rfl hb19 (pv (Y7 rfl) (gT (d0:=73) rfl rfl hb19 (wl rfl (Z7 cf41 rfl (hG.E5 (p0:=x2.Kids) (p1:=x3.Kids) (p2:=p2) (hS7.bun [0] [] rfl) h3 h4 hx4) rfl fun v2 T4 w9 im9 rv2 => ?_))))))))))))
    obtain⟨rfl,hS9,_⟩:=rv2
    have hS9:=hS9.unb
    refine gT (d0:=73) rfl rfl hb19 (pv (L7 rfl) (pv (X9 rfl hb19 rfl) (nil (Y9 [(0,sv a1 p0 c1),(1,sv a2 p1 c2),(2,.bool p2),(7,iv x1),(81,.bool (!y2))] ⟨rfl,rfl,rfl,rfl,rfl,qZt⟩ fun J => ?_))))
    refine V3 rfl hm (fun hb20 hm => ?_) fun hb20 hm => ?_
    · refine sq2 (rg (pv (X5 rfl) (nil (Q0 ?_))))
      cases oI hm
      have hn1:_=Lp.ret _:=hn1
      subst hn1
      have hm:=X1 hq1
      cases oI hm
      exact rtn (Y5 (Q6 (Q6 (Y5 (Q6 (U2 rfl rfl ⟨_,rfl,_,(iT im1 (iT im2 im9)),⟨rfl,hS9.sel [0] rfl,qZt⟩⟩))))))
    refine skp (U6 (Q0 ?_))
    cases oI hm
    exact rg (pv (U1 rfl) (pv (X7 rfl rfl rfl) (pv (J0 rfl) (nil (Q0 ⟨m1,Nat.lt_succ_self _,_,_,(IntKind.wrap .i64 (x1+1)),Q7 ⟨rfl,rfl,rfl,rfl,qZt⟩,(iT im1 (iT im2 im9)),hS9.sel [0] rfl,hn1⟩)))))
  cases oI hm
  have hn1:_=Lp.brk _:=hn1
  subst hn1
  have hm:=F1 hq1
  refine xt (V9 (V9 (L5 (Q0 ?_))))
  refine sq2 (rg (pv (X5 rfl) (nil (Q0 ?_))))
  cases oI hm
  exact rtn (U2 rfl rfl ⟨_,rfl,_,im1,⟨rfl,hS1.sel [0] rfl,qZt⟩⟩)
theorem sp7 : ∀ n,Sp7 (rec7 n)
  | 0=>⟨(by unfold Q3e; intros; rename_i h; cases (show (none:Option _)=some _ from h))⟩
  | n+1=>⟨Z1x (sp7 n)⟩
theorem H6:Q3e E5:=(sp7 NN).E5
end Go.Proofs.YtbolaohekbmndaaGreatDoor
