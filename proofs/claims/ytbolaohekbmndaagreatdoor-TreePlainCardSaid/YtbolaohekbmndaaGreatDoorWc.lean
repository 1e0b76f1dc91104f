/- That Go functions compute their models. Printed by gen2.py. -/
import Derived.Test.YtbolaohekbmndaaGreatDoorWb
set_option linter.unusedVariables false
namespace Go.Proofs.YtbolaohekbmndaaGreatDoor
open _root_.Go.Proofs.Tryz
set_option maxRecDepth 100000
set_option maxHeartbeats 8000000
attribute [local irreducible] wpList wpQuiet Code.wp
variable {g:World} {T0:Nat→Prop} {w0:World} {R:J7}

def Q0i (F:Q1→Option (Except (Q8×Q1) ((List U5)×Q1))):Prop := ∀ {g:World} {T0:TP} {w0:World} {R:J7} {p0:Q1} {X4 X2:Nat} {Q2:List Value→J7} {a1:OA} {c1:Nat} {r:Except (Q8×Q1) ((List U5)×Q1)} (hS:Sep g T0 w0 [R,Q2 [sv a1 p0.l c1,iv p0.end_.Line,iv p0.end_.Col,iv p0.depth]]) (Q3:Ln X4 X2 Q2) (h1:SlR Y3 T0 w0 (sv a1 p0.l c1) p0.l) (hm:F p0=some r),
    Calls Tryz.prog 105 #[pt X4 X2] w0 (exR r (fun r=>E6 T0 w0 fun T w v => ∃(a12:OA) (c12:Nat) (a13:OA) (c13:Nat),v=sv a12 r.1 c12∧Sep g T w [R,Q2 [sv a13 r.2.l c13,iv r.2.end_.Line,iv r.2.end_.Col,iv r.2.depth]]∧SlR E1 T w (sv a12 r.1 c12) r.1∧SlR Y3 T w (sv a13 r.2.l c13) r.2.l∧True) (fun r=>Q2x T0 w0 fun T w v => ∃(a12:OA) (c12:Nat),v = .iface 48 (.agg (K6 r.1).toArray)∧Sep g T w [R,Q2 [sv a12 r.2.l c12,iv r.2.end_.Line,iv r.2.end_.Col,iv r.2.depth]]∧SlR Y3 T w (sv a12 r.2.l c12) r.2.l∧True))
def W2 (F:Q1→Option (Except (Q8×Q1) ((List K7)×Q1))):Prop := ∀ {g:World} {T0:TP} {w0:World} {R:J7} {p0:Q1} {X4 X2:Nat} {Q2:List Value→J7} {a1:OA} {c1:Nat} {r:Except (Q8×Q1) ((List K7)×Q1)} (hS:Sep g T0 w0 [R,Q2 [sv a1 p0.l c1,iv p0.end_.Line,iv p0.end_.Col,iv p0.depth]]) (Q3:Ln X4 X2 Q2) (h1:SlR Y3 T0 w0 (sv a1 p0.l c1) p0.l) (hm:F p0=some r),
    Calls Tryz.prog 107 #[pt X4 X2] w0 (exR r (fun r=>E6 T0 w0 fun T w v => ∃(a36:OA) (n12:Nat) (c36:Nat) (a37:OA) (c37:Nat),v = .slice a36 n12 c36∧Sep g T w [R,Q2 [sv a37 r.2.l c37,iv r.2.end_.Line,iv r.2.end_.Col,iv r.2.depth],G3 C0 105 (.slice a36 n12 c36) r.1]∧SlR Y3 T w (sv a37 r.2.l c37) r.2.l∧True) (fun r=>Q2x T0 w0 fun T w v => ∃(a36:OA) (c36:Nat),v = .iface 48 (.agg (K6 r.1).toArray)∧Sep g T w [R,Q2 [sv a36 r.2.l c36,iv r.2.end_.Line,iv r.2.end_.Col,iv r.2.depth]]∧SlR Y3 T w (sv a36 r.2.l c36) r.2.l∧True))
def Q0f (F:Q1→Option (Except (Q8×Q1) (U5×Q1))):Prop := ∀ {g:World} {T0:TP} {w0:World} {R:J7} {p0:Q1} {X4 X2:Nat} {Q2:List Value→J7} {a1:OA} {c1:Nat} {r:Except (Q8×Q1) (U5×Q1)} (hS:Sep g T0 w0 [R,Q2 [sv a1 p0.l c1,iv p0.end_.Line,iv p0.end_.Col,iv p0.depth]]) (Q3:Ln X4 X2 Q2) (h1:SlR Y3 T0 w0 (sv a1 p0.l c1) p0.l) (hm:F p0=some r),
    Calls Tryz.prog 88 #[pt X4 X2] w0 (exR r (fun r=>E6 T0 w0 fun T w v => ∃(a88:OA) (c88:Nat) (a89:OA) (c89:Nat) (a90:OA) (c90:Nat) (a91:OA) (c91:Nat) (a92:OA) (c92:Nat) (a93:OA) (c93:Nat) (a94:OA) (c94:Nat) (a95:OA) (c95:Nat),v = .agg (B4 r.1 a88 c88 a89 c89 a90 c90 a91 c91 a92 c92 a93 c93 a94 c94).toArray∧Sep g T w [R,Q2 [sv a95 r.2.l c95,iv r.2.end_.Line,iv r.2.end_.Col,iv r.2.depth]]∧SlR X0 T w (sv a88 r.1.A c88) r.1.A∧SlR X0 T w (sv a89 r.1.B c89) r.1.B∧SlR X0 T w (sv a90 r.1.C c90) r.1.C∧SlR G7 T w (sv a91 r.1.Var c91) r.1.Var∧SlR E1 T w (sv a92 r.1.Body c92) r.1.Body∧SlR E1 T w (sv a93 r.1.Else c93) r.1.Else∧SlR C0 T w (sv a94 r.1.Cases c94) r.1.Cases∧SlR Y3 T w (sv a95 r.2.l c95) r.2.l∧True) (fun r=>Q2x T0 w0 fun T w v => ∃(a88:OA) (c88:Nat),v = .iface 48 (.agg (K6 r.1).toArray)∧Sep g T w [R,Q2 [sv a88 r.2.l c88,iv r.2.end_.Line,iv r.2.end_.Col,iv r.2.depth]]∧SlR Y3 T w (sv a88 r.2.l c88) r.2.l∧True))
def W3 (F:Q1→Option (Except (Q8×Q1) ((List U5)×Q1))):Prop := ∀ {g:World} {T0:TP} {w0:World} {R:J7} {p0:Q1} {X4 X2:Nat} {Q2:List Value→J7} {a1:OA} {c1:Nat} {r:Except (Q8×Q1) ((List U5)×Q1)} (hS:Sep g T0 w0 [R,Q2 [sv a1 p0.l c1,iv p0.end_.Line,iv p0.end_.Col,iv p0.depth]]) (Q3:Ln X4 X2 Q2) (h1:SlR Y3 T0 w0 (sv a1 p0.l c1) p0.l) (hm:F p0=some r),
    Calls Tryz.prog 68 #[pt X4 X2] w0 (exR r (fun r=>E6 T0 w0 fun T w v => ∃(a18:OA) (n4:Nat) (c18:Nat) (a19:OA) (c19:Nat),v = .slice a18 n4 c18∧Sep g T w [R,Q2 [sv a19 r.2.l c19,iv r.2.end_.Line,iv r.2.end_.Col,iv r.2.depth],G3 E1 68 (.slice a18 n4 c18) r.1]∧SlR Y3 T w (sv a19 r.2.l c19) r.2.l∧True) (fun r=>Q2x T0 w0 fun T w v => ∃(a18:OA) (c18:Nat),v = .iface 48 (.agg (K6 r.1).toArray)∧Sep g T w [R,Q2 [sv a18 r.2.l c18,iv r.2.end_.Line,iv r.2.end_.Col,iv r.2.depth]]∧SlR Y3 T w (sv a18 r.2.l c18) r.2.l∧True))
structure Sp2 (G:Rec2):Prop where
  U9:Q0i G.U9
  B8:W2 G.B8
  J3:Q0f G.J3
  F0:W3 G.F0
theorem Q7v {G:Rec2} (hG:Sp2 G):Q0i (O0 G) := @fun g T0 w0 R p0 X4 X2 Q2 a1 c1 r hS Q3 h1 hm=>by
  refine enter (args := [pt X4 X2]) Tryz.func105 rfl Tryz.ntmps105 rfl fun J => ?_
  unfold O0 at hm
  refine sq2 (rg (pv (P8 rfl) (nil (Q0 ?_))))
  refine sq2 (rg (pv (Z9 rfl) (?_)))
  obtain⟨y1,hx1,hm⟩:=Q4 hm
  rcases y1 with e1 | y1
  · have hm:=Z3 hm
    refine wl rfl (G8 cf88 rfl (hG.J3 (p0:=p0) (Q2:=Q2) (hS.bun [0] [1] rfl) Q3 h1 hx1) rfl fun v2 T3 w5 im6 rv2 => ?_)
    obtain⟨a11,c11,rfl,hS6,h11,_⟩:=rv2
    have hS6:=hS6.unb
    cases oI hm
    exact Z8 (P3 ⟨_,rfl,_,im6,⟨_,_,rfl,hS6.sel [0,1] rfl,h11,qZt⟩⟩)
  have hm:=V1 hm
  refine wl rfl (Z7 cf88 rfl (hG.J3 (p0:=p0) (Q2:=Q2) (hS.bun [0] [1] rfl) Q3 h1 hx1) rfl fun v1 T1 w1 im1 rv1 => ?_)
  obtain⟨a2,c2,a3,c3,a4,c4,a5,c5,a6,c6,a7,c7,a8,c8,a9,c9,rfl,hS1,h2,h3,h4,h5,h6,h7,h8,h9,_⟩:=rv1
  have hS1:=hS1.unb
  refine wl rfl (alS (zs := [iv 0,iv 0,iv 0,.slice none 0 0,.slice none 0 0,.slice none 0 0,.slice none 0 0,.slice none 0 0,.slice none 0 0,.slice none 0 0]) zeroValue68 rfl hS1 fun w2 b1 im2 hS2 => ?_)
  refine wl rfl (X6 (q:=0) hS2 ⟨rfl,rfl⟩ rfl rfl rfl sizeOf68 rfl rfl rfl fun w3 im3 hS3 => ?_)
  refine nil (Q0 ?_)
  refine sq2 (sq2 (rg (pv (Z1 rfl underlying68 rfl sizeOf3 rfl) (pv (Z4 rfl isAgg3 (hS3.cell0 (i:=0) ⟨rfl,rfl⟩ (j:=0) rfl)) (pv (X7 rfl rfl rfl) (nil (Q0 ?_)))))))
  refine V3 rfl hm (fun hb1 hm => ?_) fun hb1 hm => ?_
  · refine sq2 (rg (pv (Z1 rfl underlying68 rfl sizeOf62 rfl) (pv (Z4 rfl isAgg62 (hS3.cell0 (i:=0) ⟨rfl,rfl⟩ (j:=7) rfl)) (pv (P8 rfl) (nil (Q0 ?_))))))
    cases oI hm
    exact rtn (Q6 (U2 rfl rfl ⟨_,rfl,_,(iT im1 (iT im2 im3)),⟨_,_,_,_,rfl,hS3.sel [1,2] rfl,(h6.mono (iT im2 im3)),(h9.mono (iT im2 im3)),qZt⟩⟩))
  refine skp (Q0 ?_)
  refine sq2 (rg (pv (Z5 rfl isAgg68 sizeOf68 rfl (hS3.cells0 (i:=0) ⟨rfl,rfl⟩ (o:=0) rfl) (cs:=(B4 y1.1 a2 c2 a3 c3 a4 c4 a5 c5 a6 c6 a7 c7 a8 c8))) (wl rfl (bsS (r:=E1) (l:=([y1.1]:List U5)) (css := [(B4 y1.1 a2 c2 a3 c3 a4 c4 a5 c5 a6 c6 a7 c7 a8 c8)]) hS3 underlying62 sizeOf68 zeroValue68 rfl rfl (by kernel_rfl) rfl ⟨(Q9e (x:=y1.1) (h2.mono (iT im2 im3)) (h3.mono (iT im2 im3)) (h4.mono (iT im2 im3)) (h5.mono (iT im2 im3)) (h6.mono (iT im2 im3)) (h7.mono (iT im2 im3)) (h8.mono (iT im2 im3)):E1.rp _ _ _ _),qZt⟩ rfl rfl fun w4 a10 n1 c10 im4 hS4 => ?_))))
  refine pv (P8 rfl) (nil (Q0 ?_))
  obtain⟨T2,im5,hS5,h10⟩:=hS4.seal 0 ⟨rfl,rfl⟩
  have hsh:=h10.len
  subst hsh
  cases oI hm
  exact rtn (U2 rfl rfl ⟨_,rfl,_,(iT im1 (iT im2 (iT im3 (iT im4 im5)))),⟨_,_,_,_,rfl,hS5.sel [2,3] rfl,h10,(h9.mono (iT im2 (iT im3 (iT im4 im5)))),qZt⟩⟩)
theorem Q6q {G:Rec2} (hG:Sp2 G):W2 (L1 G) := @fun g T0 w0 R p0 X4 X2 Q2 a1 c1 r hS Q3 h1 hm=>by
  refine enter (args := [pt X4 X2]) Tryz.func107 rfl Tryz.ntmps107 rfl fun J => ?_
  unfold L1 at hm
  refine sq2 (rg (pv (P8 rfl) (nil (Q0 ?_))))
  refine sq2 (rg (pv (P8 rfl) (nil (Q0 ?_))))
  refine sq2 (rg (pv (Z9 rfl) (?_)))
  obtain⟨y1,hx1,hm⟩:=Q4 hm
  rcases y1 with e5 | y1
  · have hm:=Z3 hm
    refine wl rfl (G8 A3 rfl (Q9 (p0:=p0) (Q2:=Q2) (p1 := [123]) (hS.bun [0] [1] rfl) Q3 h1 hx1) rfl fun v17 T23 w35 im38 rv17 => ?_)
    obtain⟨a35,c35,rfl,hS40,h27,_⟩:=rv17
    have hS40:=hS40.unb
    cases oI hm
    exact Z8 (P3 ⟨_,rfl,_,im38,⟨_,_,rfl,hS40.sel [0,1] rfl,h27,qZt⟩⟩)
  have hm:=V1 hm
  refine wl rfl (Z7 A3 rfl (Q9 (p0:=p0) (Q2:=Q2) (p1 := [123]) (hS.bun [0] [1] rfl) Q3 h1 hx1) rfl fun v1 T1 w1 im1 rv1 => ?_)
  obtain⟨a2,c2,rfl,hS1,h2,_⟩:=rv1
  have hS1:=hS1.unb
  refine nil (Q0 ?_)
  refine sq2 ?_
  obtain⟨o1,ho1,hq1⟩:=Q4 hm
  obtain⟨bd1,hbd1,ho1⟩:=K3 ho1
  have hS2:=hS1.nilO C0 105
  refine blk (wp_loop_ghost (fun m a w2 => ∃(J:JV) (T2:TP) (x2:Q1) (x1:List K7) (a3:OA) (n1:Nat) (c3:Nat) (a4:OA) (c4:Nat),a=env (nf 57) J [(0,pt X4 X2),(3,.slice a3 n1 c3)]∧Im T1 w1 T2 w2∧Sep g T2 w2 [G3 C0 105 (.slice a3 n1 c3) x1,R,Q2 [sv a4 x2.l c4,iv x2.end_.Line,iv x2.end_.Col,iv x2.depth]]∧SlR Y3 T2 w2 (sv a4 x2.l c4) x2.l∧V7 bd1 m (x1,x2)=some o1) NN ⟨_,_,y1,[],_,_,_,_,_,Q7 ⟨rfl,rfl,qZt⟩,Im.refl,hS2.sel [0,1,2] rfl,h2,ho1⟩ ?_)
  rintro m _ w2 ⟨J,T2,x2,x1,a3,n1,c3,a4,c4,rfl,im2,hS3,h3,ho1⟩
  obtain⟨m1,z1,rfl,hm,hn1⟩:=U4 ho1
  rw [hbd1] at hm
  refine sq2 (sq2 ?_)
  obtain⟨y2,hx2,hm⟩:=Q4 hm
  refine rg (pv (Z9 rfl) (wl rfl (Z7 Q1u rfl (Y8 (p0:=x2) (Q2:=Q2) (p1 := [125]) (hS3.bun [0,1] [2] rfl) Q3 h3 hx2) rfl fun v2 T3 w3 im3 rv2 => ?_)))
  obtain⟨a5,c5,rfl,hS4,h4,_⟩:=rv2
  have hS4:=hS4.unb
  refine pv (L7 rfl) (nil (Q0 ?_))
  refine V3 rfl hm (fun hb1 hm => ?_) fun hb1 hm => ?_
  · refine skp (Q0 ?_)
    refine blk (sq2 ?_)
    obtain⟨y3,hx3,hm⟩:=Q4 hm
    refine rg (pv (Z9 rfl) (wl rfl (Z7 cf59 rfl (B0 (p0:=y2.2) (Q2:=Q2) (hS4.bun [0,1] [2] rfl) Q3 h4 hx3) rfl fun v3 T4 w4 im4 rv3 => ?_)))
    obtain⟨rfl,hS5,_⟩:=rv3
    have hS5:=hS5.unb
    refine pv (A8 (by kernel_rfl) rfl (u := .agg #[iv y3.Line,iv y3.Col,.bool false,.int .u32 0,.slice none 0 0])) (wl rfl (alS (zs := [iv 0,iv 0,.bool false,.int .u32 0,.slice none 0 0]) zeroValue105 rfl hS5 fun w5 b1 im5 hS6 => ?_))
    refine wl rfl (X6 (q:=0) hS6 ⟨rfl,rfl⟩ rfl rfl rfl sizeOf105 rfl rfl rfl fun w6 im6 hS7 => ?_)
    refine nil (Q0 ?_)
    obtain⟨kk1,hkk1,hm⟩:=F6 hm
    have hS8:=hS7.nilO E1 68
    refine cut (fun a w7 => ∃(J:JV) (T5:TP) (x5:Q1) (x4:K7) (a6:OA) (n2:Nat) (c6:Nat) (a7:OA) (c7:Nat),a=env (nf 57) J [(0,pt X4 X2),(3,.slice a3 n1 c3),(4,pt b1 0)]∧Im T4 w6 T5 w7∧Sep g T5 w7 [G3 E1 68 (.slice a6 n2 c6) x4.Body,J6 b1 [iv x4.Pos.Line,iv x4.Pos.Col,.bool x4.Default,.int .u32 x4.Num,.slice a6 n2 c6],G3 C0 105 (.slice a3 n1 c3) x1,R,Q2 [sv a7 x5.l c7,iv x5.end_.Line,iv x5.end_.Col,iv x5.depth]]∧SlR Y3 T5 w7 (sv a7 x5.l c7) x5.l∧kk1 x4 x5=some z1) ?_ ?_
    · refine sq2 ?_
      obtain⟨y4,hx4,hm⟩:=Q4 hm
      refine rg (pv (Z9 rfl) (wl rfl (Z7 Q1u rfl (Y8 (p0:=y2.2) (Q2:=Q2) (p1 := [100,101,102,97,117,108,116]) (hS8.bun [0,1,2,3] [4] rfl) Q3 (h4.mono (iT im4 (iT im5 im6))) hx4) rfl fun v4 T6 w8 im8 rv4 => ?_)))
      obtain⟨a8,c8,rfl,hS9,h6,_⟩:=rv4
      have hS9:=hS9.unb
      refine nil (Q0 ?_)
      refine V3 rfl hm (fun hb2 hm => ?_) fun hb2 hm => ?_
      · refine rg (pv (Z1 rfl underlying105 rfl sizeOf4 rfl) (wl rfl (X6 (q:=1) hS9 ⟨rfl,rfl⟩ rfl rfl rfl sizeOf4 rfl rfl rfl fun w9 im9 hS10 => ?_)))
        exact nil (Q0 ⟨_,_,y4.2,(⟨y3,true,0,[]⟩:K7),_,_,_,_,_,Q7 ⟨rfl,rfl,rfl,qZt⟩,(iT im8 im9),hS10.sel [0,1,2,3,4] rfl,(h6.mono im9),hm⟩)
      refine sq2 (rg (pv (Z9 rfl) (?_)))
      obtain⟨y5,hx5,hm⟩:=Q4 hm
      rcases y5 with e2 | y5
      · have hm:=Z3 hm
        refine wl rfl (G8 A3 rfl (Q9 (p0:=y4.2) (Q2:=Q2) (p1 := [99,97,115,101]) (hS9.bun [0,1,2,3] [4] rfl) Q3 h6 hx5) rfl fun v9 T11 w16 im16 rv9 => ?_)
        obtain⟨a13,c13,rfl,hS17,h11,_⟩:=rv9
        have hS17:=hS17.unb
        cases oI hm
        have hn1:_=Lp.ret _:=hn1
        subst hn1
        have hm:=X1 hq1
        cases oI hm
        exact Z8 (Z8 (G4 (Z8 (G4 (Z8 (P3 ⟨_,rfl,_,(iT im1 (iT im2 (iT im3 (iT im4 (iT im5 (iT im6 (iT im8 im16))))))),⟨_,_,rfl,hS17.sel [3,4] rfl,h11,qZt⟩⟩))))))
      have hm:=V1 hm
      refine wl rfl (Z7 A3 rfl (Q9 (p0:=y4.2) (Q2:=Q2) (p1 := [99,97,115,101]) (hS9.bun [0,1,2,3] [4] rfl) Q3 h6 hx5) rfl fun v5 T7 w10 im10 rv5 => ?_)
      obtain⟨a9,c9,rfl,hS11,h7,_⟩:=rv5
      have hS11:=hS11.unb
      refine nil (Q0 ?_)
      refine sq2 ?_
      obtain⟨y6,hx6,hm⟩:=Q4 hm
      refine rg (pv (Z9 rfl) (wl rfl (Z7 Q1u rfl (Y8 (p0:=y5) (Q2:=Q2) (p1 := [45]) (hS11.bun [0,1,2,3] [4] rfl) Q3 h7 hx6) rfl fun v6 T8 w11 im11 rv6 => ?_)))
      obtain⟨a10,c10,rfl,hS12,h8,_⟩:=rv6
      have hS12:=hS12.unb
      refine pv (X5 rfl) (nil (Q0 ?_))
      refine sq2 (rg (pv (Z9 rfl) (?_)))
      obtain⟨y7,hx7,hm⟩:=Q4 hm
      rcases y7 with e1 | y7
      · have hm:=Z3 hm
        refine wl rfl (G8 cf84 rfl (N4 (p0:=y6.2) (Q2:=Q2) (p1:=3) (hS12.bun [0,1,2,3] [4] rfl) Q3 h8 hx7) rfl fun v8 T10 w15 im15 rv8 => ?_)
        obtain⟨a12,c12,rfl,hS16,h10,_⟩:=rv8
        have hS16:=hS16.unb
        cases oI hm
        have hn1:_=Lp.ret _:=hn1
        subst hn1
        have hm:=X1 hq1
        cases oI hm
        exact Z8 (Z8 (G4 (Z8 (G4 (Z8 (P3 ⟨_,rfl,_,(iT im1 (iT im2 (iT im3 (iT im4 (iT im5 (iT im6 (iT im8 (iT im10 (iT im11 im15))))))))),⟨_,_,rfl,hS16.sel [3,4] rfl,h10,qZt⟩⟩))))))
      have hm:=V1 hm
      refine wl rfl (Z7 cf84 rfl (N4 (p0:=y6.2) (Q2:=Q2) (p1:=3) (hS12.bun [0,1,2,3] [4] rfl) Q3 h8 hx7) rfl fun v7 T9 w12 im12 rv7 => ?_)
      obtain⟨a11,c11,rfl,hS13,h9,_⟩:=rv7
      have hS13:=hS13.unb
      refine pv (r_fd1 rfl underlying89 rfl isAgg87 rfl) (pv (Z1 rfl underlying105 rfl sizeOf87 rfl) (wl rfl (X6 (q:=1) hS13 ⟨rfl,rfl⟩ rfl rfl rfl sizeOf87 rfl rfl rfl fun w13 im13 hS14 => ?_)))
      refine nil (Q0 ?_)
      refine sq2 (rg (pv (Y7 rfl) (nil (Q0 ?_))))
      refine V3 rfl hm (fun hb3 hm => ?_) fun hb3 hm => ?_
      · refine rg (pv (Z1 rfl underlying105 rfl sizeOf87 rfl) (pv (Z4 rfl isAgg87 (hS14.cell0 (i:=1) ⟨rfl,rfl⟩ (j:=3) rfl)) (pv (r_ng rfl) (pv (Z1 rfl underlying105 rfl sizeOf87 rfl) (wl rfl (X6 (q:=1) hS14 ⟨rfl,rfl⟩ rfl rfl rfl sizeOf87 rfl rfl rfl fun w14 im14 hS15 => ?_))))))
        exact nil (Q0 ⟨_,_,y7.2,(⟨y3,false,IntKind.wrap .u32 (0 - y7.1.Num),[]⟩:K7),_,_,_,_,_,Q7 ⟨rfl,rfl,rfl,qZt⟩,(iT im8 (iT im10 (iT im11 (iT im12 (iT im13 im14))))),hS15.sel [0,1,2,3,4] rfl,(h9.mono (iT im13 im14)),hm⟩)
      exact skp (Q0 ⟨_,_,y7.2,(⟨y3,false,y7.1.Num,[]⟩:K7),_,_,_,_,_,Q7 ⟨rfl,rfl,rfl,qZt⟩,(iT im8 (iT im10 (iT im11 (iT im12 im13)))),hS14.sel [0,1,2,3,4] rfl,(h9.mono im13),hm⟩)
    rintro _ w7 ⟨J,T5,x5,x4,a6,n2,c6,a7,c7,rfl,im7,hS18,h5,hm⟩
    rw [hkk1] at hm
    refine sq2 (rg (pv (Z9 rfl) (?_)))
    obtain⟨y8,hx8,hm⟩:=Q4 hm
    rcases y8 with e4 | y8
    · have hm:=Z3 hm
      refine wl rfl (G8 A3 rfl (Q9 (p0:=x5) (Q2:=Q2) (p1 := [58]) (hS18.bun [0,1,2,3] [4] rfl) Q3 h5 hx8) rfl fun v16 T22 w34 im37 rv16 => ?_)
      obtain⟨a34,c34,rfl,hS39,h26,_⟩:=rv16
      have hS39:=hS39.unb
      cases oI hm
      have hn1:_=Lp.ret _:=hn1
      subst hn1
      have hm:=X1 hq1
      cases oI hm
      exact Z8 (G4 (Z8 (G4 (Z8 (P3 ⟨_,rfl,_,(iT im1 (iT im2 (iT im3 (iT im4 (iT im5 (iT im6 (iT im7 im37))))))),⟨_,_,rfl,hS39.sel [3,4] rfl,h26,qZt⟩⟩)))))
    have hm:=V1 hm
    refine wl rfl (Z7 A3 rfl (Q9 (p0:=x5) (Q2:=Q2) (p1 := [58]) (hS18.bun [0,1,2,3] [4] rfl) Q3 h5 hx8) rfl fun v10 T12 w17 im17 rv10 => ?_)
    obtain⟨a14,c14,rfl,hS19,h12,_⟩:=rv10
    have hS19:=hS19.unb
    refine nil (Q0 ?_)
    refine sq2 ?_
    obtain⟨o2,ho2,hq2⟩:=Q4 hm
    obtain⟨bd2,hbd2,ho2⟩:=K3 ho2
    refine blk (wp_loop_ghost (fun m a w18 => ∃(J:JV) (T13:TP) (x8:Q1) (x7:K7) (a15:OA) (n3:Nat) (c15:Nat) (a16:OA) (c16:Nat),a=env (nf 57) J [(0,pt X4 X2),(3,.slice a3 n1 c3),(4,pt b1 0)]∧Im T12 w17 T13 w18∧Sep g T13 w18 [G3 E1 68 (.slice a15 n3 c15) x7.Body,J6 b1 [iv x7.Pos.Line,iv x7.Pos.Col,.bool x7.Default,.int .u32 x7.Num,.slice a15 n3 c15],G3 C0 105 (.slice a3 n1 c3) x1,R,Q2 [sv a16 x8.l c16,iv x8.end_.Line,iv x8.end_.Col,iv x8.depth]]∧SlR Y3 T13 w18 (sv a16 x8.l c16) x8.l∧V7 bd2 m (x7,x8)=some o2) NN ⟨_,_,y8,x4,_,_,_,_,_,Q7 ⟨rfl,rfl,rfl,qZt⟩,Im.refl,hS19.sel [0,1,2,3,4] rfl,h12,ho2⟩ ?_)
    rintro m _ w18 ⟨J,T13,x8,x7,a15,n3,c15,a16,c16,rfl,im18,hS20,h13,ho2⟩
    obtain⟨m2,z2,rfl,hm,hn2⟩:=U4 ho2
    rw [hbd2] at hm
    refine sq2 (sq2 ?_)
    obtain⟨y9,hx9,hm⟩:=Q4 hm
    refine rg (pv (Z9 rfl) (wl rfl (Z7 Q8q rfl (G0 (p0:=x8) (Q2:=Q2) (p1 := [99,97,115,101]) (hS20.bun [0,1,2,3] [4] rfl) Q3 h13 hx9) rfl fun v11 T14 w19 im19 rv11 => ?_)))
    obtain⟨rfl,hS21,_⟩:=rv11
    have hS21:=hS21.unb
    refine pv (L7 rfl) (pv (Y7 rfl) (?_))
    rcases Bool.eq_false_or_eq_true (!y9) with hb4 | hb4
    · have hm:=V8 hb4 hm
      obtain⟨y10,hx10,hm⟩:=Q4 hm
      refine gT (d0:=35) rfl rfl hb4 (pv (Z9 rfl) (gT (d0:=35) rfl rfl hb4 (wl rfl (Z7 Q8q rfl (G0 (p0:=x8) (Q2:=Q2) (p1 := [100,101,102,97,117,108,116]) (hS21.bun [0,1,2,3] [4] rfl) Q3 (h13.mono im19) hx10) rfl fun v12 T15 w20 im20 rv12 => ?_))))
      obtain⟨rfl,hS22,_⟩:=rv12
      have hS22:=hS22.unb
      refine gT (d0:=35) rfl rfl hb4 (pv (L7 rfl) (pv (Y1 rfl hb4 rfl) (pv (Y7 rfl) (?_))))
      rcases Bool.eq_false_or_eq_true (!y10) with hb5 | hb5
      · have hm:=V8 hb5 hm
        obtain⟨y11,hx11,hm⟩:=Q4 hm
        refine gT (d0:=40) rfl rfl hb5 (pv (Z9 rfl) (gT (d0:=40) rfl rfl hb5 (wl rfl (Z7 Q8q rfl (G0 (p0:=x8) (Q2:=Q2) (p1 := [125]) (hS22.bun [0,1,2,3] [4] rfl) Q3 (h13.mono (iT im19 im20)) hx11) rfl fun v13 T16 w21 im21 rv13 => ?_))))
        obtain⟨rfl,hS23,_⟩:=rv13
        have hS23:=hS23.unb
        refine gT (d0:=40) rfl rfl hb5 (pv (L7 rfl) (pv (Y1 rfl hb5 rfl) (nil (Q0 ?_))))
        refine V3 rfl hm (fun hb6 hm => ?_) fun hb6 hm => ?_
        · refine skp (Q0 ?_)
          refine blk (rsP [0,1,0,2,2,2,0,2] [0,1,2,3,4,5,6,7] mix (by kernel_rfl) hS23.lt (Q4m (A4 (Q4m (A4 (Q4m (A4 (Q4m (A4 (Q1y))))))))) fun w22 i1 => ?_)
          have im22:=i1.imm
          have hS24:=hS23.keep i1 (fun _ h=>h)
          refine s0 rfl qZt (fun _=>Z1 rfl underlying105 rfl sizeOf62 rfl) rfl (s1 rfl qZt (Z4 rfl isAgg62 (hS24.cell0 (i:=1) ⟨rfl,rfl⟩ (j:=4) rfl)) rfl (s0 rfl qZt (fun _=>Z9 rfl) rfl (?_)))
          obtain⟨y12,hx12,hm⟩:=Q4 hm
          rcases y12 with e3 | y12
          · have hm:=Z3 hm
            refine s2 [(1,.slice a15 n3 c15)] rfl qZt rfl (by kernel_rfl) (G8 cf88 rfl (hG.J3 (p0:=x8) (Q2:=Q2) (hS24.bun [0,1,2,3] [4] rfl) Q3 (h13.mono (iT im19 (iT im20 (iT im21 im22)))) hx12) rfl fun v15 T18 w27 im27 rv15 => ?_)
            obtain⟨a27,c27,rfl,hS29,h22,_⟩:=rv15
            have hS29:=hS29.unb
            cases oI hm
            have hn2:_=Lp.ret _:=hn2
            subst hn2
            have hm:=X1 hq2
            cases oI hm
            have hn1:_=Lp.ret _:=hn1
            subst hn1
            have hm:=X1 hq1
            cases oI hm
            exact G4 (Z8 (G4 (Z8 (G4 (Z8 (G4 (Z8 (P3 ⟨_,rfl,_,(iT im1 (iT im2 (iT im3 (iT im4 (iT im5 (iT im6 (iT im7 (iT im17 (iT im18 (iT im19 (iT im20 (iT im21 (iT im22 im27))))))))))))),⟨_,_,rfl,hS29.sel [3,4] rfl,h22,qZt⟩⟩))))))))
          have hm:=V1 hm
          refine s2 [(1,.slice a15 n3 c15)] rfl qZt rfl (by kernel_rfl) (Z7 cf88 rfl (hG.J3 (p0:=x8) (Q2:=Q2) (hS24.bun [0,1,2,3] [4] rfl) Q3 (h13.mono (iT im19 (iT im20 (iT im21 im22)))) hx12) rfl fun v14 T17 w23 im23 rv14 => ?_)
          obtain⟨a17,c17,a18,c18,a19,c19,a20,c20,a21,c21,a22,c22,a23,c23,a24,c24,rfl,hS25,h14,h15,h16,h17,h18,h19,h20,h21,_⟩:=rv14
          have hS25:=hS25.unb
          refine⟨st1 rfl (Z4 rfl isAgg62 (hS25.cell0 (i:=1) ⟨rfl,rfl⟩ (j:=4) rfl)) (st0),?_⟩
          refine s2 [(1,.slice a15 n3 c15)] rfl qZt rfl (by kernel_rfl) (bsS (r:=E1) (l:=([y12.1]:List U5)) (css := [(B4 y12.1 a17 c17 a18 c18 a19 c19 a20 c20 a21 c21 a22 c22 a23 c23)]) hS25 underlying62 sizeOf68 zeroValue68 rfl rfl (by kernel_rfl) rfl ⟨(Q9e (x:=y12.1) h14 h15 h16 h17 h18 h19 h20:E1.rp _ _ _ _),qZt⟩ rfl rfl fun w24 a25 n4 c25 im24 hS26 => ?_)
          refine⟨st1 rfl (Z4 rfl isAgg62 (hS26.cell0 (i:=2) ⟨rfl,rfl⟩ (j:=4) rfl)) (st0),?_⟩
          obtain⟨z_1,hro1,hm⟩:=Q4 hm
          refine s2 [] rfl qZt rfl (by kernel_rfl) (apO (q:=1) (l:=x7.Body) (us:=([y12.1]:List U5)) hS26 ⟨rfl,rfl⟩ rfl rfl (hS26.own (i:=0) ⟨rfl,rfl⟩).v underlying62 el68 (D5 hro1) fun w25 a26 n5 c26 im25 hS27 => ?_)
          refine⟨st0,?_⟩
          refine s0 rfl qZt (fun _=>Z1 rfl underlying105 rfl sizeOf62 rfl) rfl (s2 [] rfl qZt rfl (by kernel_rfl) (X6 (q:=2) hS27 ⟨rfl,rfl⟩ rfl rfl rfl sizeOf62 rfl rfl rfl fun w26 im26 hS28 => ?_))
          refine⟨st0,?_⟩
          cases oI hm
          exact seP (U6 (Q0 ⟨m2,Nat.lt_succ_self _,_,_,y12.2,({x7 with Body:=x7.Body++([y12.1]:List U5)}),_,_,_,_,_,Q7 ⟨rfl,rfl,rfl,qZt⟩,(iT im18 (iT im19 (iT im20 (iT im21 (iT im22 (iT im23 (iT im24 (iT im25 im26)))))))),hS28.sel [1,2,3,4,5] rfl,(h21.mono (iT im24 (iT im25 im26))),hn2⟩))
        cases oI hm
        have hn2:_=Lp.brk _:=hn2
        subst hn2
        have hm:=F1 hq2
        refine xt (V9 (V9 (L5 (Q0 ?_))))
        refine rg (pv (N2 rfl) (pv (Z5 rfl isAgg105 sizeOf105 rfl (hS23.cells0 (i:=1) ⟨rfl,rfl⟩ (o:=0) rfl) (cs := [iv x7.Pos.Line,iv x7.Pos.Col,.bool x7.Default,.int .u32 x7.Num,.slice a15 n3 c15])) (?_)))
        obtain⟨T19,im28,hS30,h23⟩:=hS23.seal 0 ⟨rfl,rfl⟩
        have hsh:=h23.len
        subst hsh
        refine wl rfl (bsS (r:=C0) (l:=([x7]:List K7)) (css := [(F4 x7 a15 c15)]) hS30 underlying66 sizeOf105 zeroValue105 rfl rfl (by kernel_rfl) rfl ⟨(Q7j (x:=x7) h23:C0.rp _ _ _ _),qZt⟩ rfl rfl fun w28 a28 n6 c28 im29 hS31 => ?_)
        obtain⟨z_2,hro2,hm⟩:=Q4 hm
        refine wl rfl (apO (q:=3) (l:=x1) (us:=([x7]:List K7)) hS31 ⟨rfl,rfl⟩ rfl rfl (hS31.own (i:=0) ⟨rfl,rfl⟩).v underlying66 el105 (D5 hro2) fun w29 a29 n7 c29 im30 hS32 => ?_)
        cases oI hm
        exact pv (P8 rfl) (nil (U6 (Q0 ⟨m1,Nat.lt_succ_self _,_,_,x8,(x1++([x7]:List K7)),_,_,_,_,_,Q7 ⟨rfl,rfl,qZt⟩,(iT im2 (iT im3 (iT im4 (iT im5 (iT im6 (iT im7 (iT im17 (iT im18 (iT im19 (iT im20 (iT im21 (iT im28 (iT im29 im30))))))))))))),hS32.sel [3,4,5] rfl,(h13.mono (iT im19 (iT im20 (iT im21 (iT im28 (iT im29 im30)))))),hn1⟩)))
      have hm:=X3 hb5 hm
      refine gF (d0:=40) rfl rfl (by rw [hb5]; rfl) (gF (d0:=40) rfl rfl (by rw [hb5]; rfl) (gF (d0:=40) rfl rfl (by rw [hb5]; rfl) (pv (X9 rfl hb5 rfl) (nil (Q0 ?_)))))
      refine cnd (b:=false) rfl (fun h=>nomatch h) (fun _ => ?_)
      cases oI hm
      have hn2:_=Lp.brk _:=hn2
      subst hn2
      have hm:=F1 hq2
      refine xt (V9 (V9 (L5 (Q0 ?_))))
      refine rg (pv (N2 rfl) (pv (Z5 rfl isAgg105 sizeOf105 rfl (hS22.cells0 (i:=1) ⟨rfl,rfl⟩ (o:=0) rfl) (cs := [iv x7.Pos.Line,iv x7.Pos.Col,.bool x7.Default,.int .u32 x7.Num,.slice a15 n3 c15])) (?_)))
      obtain⟨T20,im31,hS33,h24⟩:=hS22.seal 0 ⟨rfl,rfl⟩
      have hsh:=h24.len
      subst hsh
      refine wl rfl (bsS (r:=C0) (l:=([x7]:List K7)) (css := [(F4 x7 a15 c15)]) hS33 underlying66 sizeOf105 zeroValue105 rfl rfl (by kernel_rfl) rfl ⟨(Q7j (x:=x7) h24:C0.rp _ _ _ _),qZt⟩ rfl rfl fun w30 a30 n8 c30 im32 hS34 => ?_)
      obtain⟨z_3,hro3,hm⟩:=Q4 hm
      refine wl rfl (apO (q:=3) (l:=x1) (us:=([x7]:List K7)) hS34 ⟨rfl,rfl⟩ rfl rfl (hS34.own (i:=0) ⟨rfl,rfl⟩).v underlying66 el105 (D5 hro3) fun w31 a31 n9 c31 im33 hS35 => ?_)
      cases oI hm
      exact pv (P8 rfl) (nil (U6 (Q0 ⟨m1,Nat.lt_succ_self _,_,_,x8,(x1++([x7]:List K7)),_,_,_,_,_,Q7 ⟨rfl,rfl,qZt⟩,(iT im2 (iT im3 (iT im4 (iT im5 (iT im6 (iT im7 (iT im17 (iT im18 (iT im19 (iT im20 (iT im31 (iT im32 im33)))))))))))),hS35.sel [3,4,5] rfl,(h13.mono (iT im19 (iT im20 (iT im31 (iT im32 im33))))),hn1⟩)))
    have hm:=X3 hb4 hm
    refine gF (d0:=35) rfl rfl (by rw [hb4]; rfl) (gF (d0:=35) rfl rfl (by rw [hb4]; rfl) (gF (d0:=35) rfl rfl (by rw [hb4]; rfl) (pv (X9 rfl hb4 rfl) (pv (Y7 rfl) (gF (d0:=40) rfl rfl rfl (gF (d0:=40) rfl rfl rfl (gF (d0:=40) rfl rfl rfl (pv (X9 rfl rfl rfl) (nil (Q0 ?_))))))))))
    refine cnd (b:=false) rfl (fun h=>nomatch h) (fun _ => ?_)
    cases oI hm
    have hn2:_=Lp.brk _:=hn2
    subst hn2
    have hm:=F1 hq2
    refine xt (V9 (V9 (L5 (Q0 ?_))))
    refine rg (pv (N2 rfl) (pv (Z5 rfl isAgg105 sizeOf105 rfl (hS21.cells0 (i:=1) ⟨rfl,rfl⟩ (o:=0) rfl) (cs := [iv x7.Pos.Line,iv x7.Pos.Col,.bool x7.Default,.int .u32 x7.Num,.slice a15 n3 c15])) (?_)))
    obtain⟨T21,im34,hS36,h25⟩:=hS21.seal 0 ⟨rfl,rfl⟩
    have hsh:=h25.len
    subst hsh
    refine wl rfl (bsS (r:=C0) (l:=([x7]:List K7)) (css := [(F4 x7 a15 c15)]) hS36 underlying66 sizeOf105 zeroValue105 rfl rfl (by kernel_rfl) rfl ⟨(Q7j (x:=x7) h25:C0.rp _ _ _ _),qZt⟩ rfl rfl fun w32 a32 n10 c32 im35 hS37 => ?_)
    obtain⟨z_4,hro4,hm⟩:=Q4 hm
    refine wl rfl (apO (q:=3) (l:=x1) (us:=([x7]:List K7)) hS37 ⟨rfl,rfl⟩ rfl rfl (hS37.own (i:=0) ⟨rfl,rfl⟩).v underlying66 el105 (D5 hro4) fun w33 a33 n11 c33 im36 hS38 => ?_)
    cases oI hm
    exact pv (P8 rfl) (nil (U6 (Q0 ⟨m1,Nat.lt_succ_self _,_,_,x8,(x1++([x7]:List K7)),_,_,_,_,_,Q7 ⟨rfl,rfl,qZt⟩,(iT im2 (iT im3 (iT im4 (iT im5 (iT im6 (iT im7 (iT im17 (iT im18 (iT im19 (iT im34 (iT im35 im36))))))))))),hS38.sel [3,4,5] rfl,(h13.mono (iT im19 (iT im34 (iT im35 im36)))),hn1⟩)))
  cases oI hm
  have hn1:_=Lp.brk _:=hn1
  subst hn1
  have hm:=F1 hq1
  refine xt (V9 (V9 (L5 (Q0 ?_))))
  refine sq2 (rg (pv (N2 rfl) (pv (P8 rfl) (nil (Q0 ?_)))))
  cases oI hm
  exact rtn (U2 rfl rfl ⟨_,rfl,_,(iT im1 (iT im2 im3)),⟨_,_,_,_,_,rfl,hS4.sel [1,2,0] rfl,h4,qZt⟩⟩)
theorem Q7s {G:Rec2} (hG:Sp2 G):Q0f (L8 G) := @fun g T0 w0 R p0 X4 X2 Q2 a1 c1 r hS Q3 h1 hm=>by
  refine Z3t (args := [pt X4 X2]) Tryz.func88 rfl Tryz.ntmps88 rfl fun J => ?_
  unfold L8 at hm
  refine sq2 (rg (wl rfl (alS (zs := [iv 0,iv 0,iv 0,.slice none 0 0,.slice none 0 0,.slice none 0 0,.slice none 0 0,.slice none 0 0,.slice none 0 0,.slice none 0 0]) zeroValue68 rfl hS fun w1 b1 im1 hS1 => ?_)))
  refine nil (Q0 ?_)
  refine sq2 (rg (pv (Z9 rfl) (?_)))
  obtain⟨y1,hx1,hm⟩:=Q4 hm
  rcases y1 with e20 | y1
  · have hm:=Z3 hm
    refine wl rfl (G8 cf98 rfl (B7 (p0:=p0) (Q2:=Q2) (hS1.bun [0,1] [2] rfl) Q3 (h1.mono im1) hx1) rfl fun v50 T62 w99 im110 rv50 => ?_)
    obtain⟨a87,c87,rfl,hS110,h88,_⟩:=rv50
    have hS110:=hS110.unb
    cases oI hm
    exact Z8 (panED ⟨_,rfl,_,(iT im1 im110),⟨_,_,rfl,hS110.sel [1,2] rfl,h88,qZt⟩⟩)
  have hm:=V1 hm
  refine wl rfl (Z7 cf98 rfl (B7 (p0:=p0) (Q2:=Q2) (hS1.bun [0,1] [2] rfl) Q3 (h1.mono im1) hx1) rfl fun v1 T1 w2 im2 rv1 => ?_)
  obtain⟨b2,a2,c2,rfl,hS2,h2,_⟩:=rv1
  have hS2:=hS2.unb
  refine wl rfl (dfO (f:=115) (cap := #[pt b2 0]) rfl ?_)
  refine nil (Q0 ?_)
  refine sq2 ?_
  obtain⟨y2,hx2,hm⟩:=Q4 hm
  refine rg (pv (Z9 rfl) (wl rfl (Z7 cf59 rfl (B0 (p0:=y1) (Q2:=Q2) (hS2.bun [0,1,3] [2] rfl) Q3 h2 hx2) rfl fun v2 T2 w3 im3 rv2 => ?_)))
  obtain⟨rfl,hS3,_⟩:=rv2
  have hS3:=hS3.unb
  refine pv (A8 (by kernel_rfl) rfl (u := .agg #[iv 0,iv y2.Line,iv y2.Col,.slice none 0 0,.slice none 0 0,.slice none 0 0,.slice none 0 0,.slice none 0 0,.slice none 0 0,.slice none 0 0])) (wl rfl (alS (zs := [iv 0,iv 0,iv 0,.slice none 0 0,.slice none 0 0,.slice none 0 0,.slice none 0 0,.slice none 0 0,.slice none 0 0,.slice none 0 0]) zeroValue68 rfl hS3 fun w4 b3 im4 hS4 => ?_))
  refine wl rfl (X6 (q:=0) hS4 ⟨rfl,rfl⟩ rfl rfl rfl sizeOf68 rfl rfl rfl fun w5 im5 hS5 => ?_)
  refine nil (Q0 ?_)
  obtain⟨kk1,hkk1,hm⟩:=F6 hm
  refine cut (fun a w6 => ∃(J:JV) (T3:TP) (x2:Q1) (x1:U5) (a3:OA) (c3:Nat) (a4:OA) (c4:Nat) (a5:OA) (c5:Nat) (a6:OA) (c6:Nat) (a7:OA) (c7:Nat) (a8:OA) (c8:Nat) (a9:OA) (c9:Nat) (a10:OA) (c10:Nat),a=env ⟨98,[⟨.fn (.func 115) #[pt b2 0],#[]⟩]⟩ J [(2,pt b1 0),(3,pt b3 0)]∧Im T2 w5 T3 w6∧Sep g T3 w6 [J6 b3 (B4 x1 a3 c3 a4 c4 a5 c5 a6 c6 a7 c7 a8 c8 a9 c9),J6 b1 [iv 0,iv 0,iv 0,.slice none 0 0,.slice none 0 0,.slice none 0 0,.slice none 0 0,.slice none 0 0,.slice none 0 0,.slice none 0 0],R,J6 b2 [pt X4 X2],Q2 [sv a10 x2.l c10,iv x2.end_.Line,iv x2.end_.Col,iv x2.depth]]∧SlR X0 T3 w6 (sv a3 x1.A c3) x1.A∧SlR X0 T3 w6 (sv a4 x1.B c4) x1.B∧SlR X0 T3 w6 (sv a5 x1.C c5) x1.C∧SlR G7 T3 w6 (sv a6 x1.Var c6) x1.Var∧SlR E1 T3 w6 (sv a7 x1.Body c7) x1.Body∧SlR E1 T3 w6 (sv a8 x1.Else c8) x1.Else∧SlR C0 T3 w6 (sv a9 x1.Cases c9) x1.Cases∧SlR Y3 T3 w6 (sv a10 x2.l c10) x2.l∧kk1 x1 x2=some r) ?_ ?_
  · refine blk (sq2 ?_)
    obtain⟨y3,hx3,hm⟩:=Q4 hm
    refine rg (pv (Z9 rfl) (wl rfl (Z7 cf86 rfl (Q2d (p0:=y1) (Q2:=Q2) (hS5.bun [0,1,2,3] [4] rfl) Q3 (h2.mono (iT im3 (iT im4 im5))) hx3) rfl fun v3 T4 w7 im7 rv3 => ?_)))
    obtain⟨rfl,hS6,_⟩:=rv3
    have hS6:=hS6.unb
    refine pv (X5 rfl) (nil (Q0 ?_))
    refine V3 rfl hm (fun hb1 hm => ?_) fun hb1 hm => ?_
    · refine rg (pv (Z9 rfl) (?_))
      obtain⟨y4,hx4,hm⟩:=Q4 hm
      rcases y4 with e1 | y4
      · have hm:=Z3 hm
        refine wl rfl (G8 cf103 rfl (Q1j (p0:=y1) (Q2:=Q2) (hS6.bun [0,1,2,3] [4] rfl) Q3 (h2.mono (iT im3 (iT im4 (iT im5 im7)))) hx4) rfl fun v5 T7 w12 im13 rv5 => ?_)
        obtain⟨a15,c15,rfl,hS12,h15,_⟩:=rv5
        have hS12:=hS12.unb
        refine G4 (Z8 (S0 H7 (M8 (args := [pt b2 0]) Tryz.func115 rfl Tryz.ntmps115 rfl rfl fun J => ?_)))
        refine rg (pv (Z4 rfl isAgg41 (hS12.cell0 (i:=3) ⟨rfl,rfl⟩ (j:=0) rfl)) (pv (J1 rfl) (pv (Z1 rfl underlying43 rfl sizeOf3 rfl) (pv (Z4 rfl isAgg3 (hS12.cellB (i:=4) ⟨rfl,rfl⟩ Q3 (j:=3) rfl)) (pv (X7 rfl rfl rfl) (pv (J1 rfl) (pv (Z1 rfl underlying43 rfl sizeOf3 rfl) (wl rfl (stB (q:=4) (j:=3) hS12 ⟨rfl,rfl⟩ Q3 rfl rfl rfl sizeOf3 rfl rfl rfl fun w13 im14 hS13 => ?_)))))))))
        cases oI hm
        exact nil (Q0s rfl ⟨_,rfl,_,(iT im1 (iT im2 (iT im3 (iT im4 (iT im5 (iT im7 (iT im13 im14))))))),⟨_,_,rfl,hS13.sel [2,4] rfl,(h15.mono im14),qZt⟩⟩)
      have hm:=V1 hm
      refine wl rfl (Z7 cf103 rfl (Q1j (p0:=y1) (Q2:=Q2) (hS6.bun [0,1,2,3] [4] rfl) Q3 (h2.mono (iT im3 (iT im4 (iT im5 im7)))) hx4) rfl fun v4 T5 w8 im8 rv4 => ?_)
      obtain⟨a11,c11,a12,c12,a13,c13,rfl,hS7,h11,h12,h13,_⟩:=rv4
      have hS7:=hS7.unb
      refine wl rfl (bsS (r:=G7) (l:=([y4.1]:List J8)) (css := [(N1 y4.1 a11 c11 a12 c12)]) hS7 underlying24 sizeOf58 zeroValue58 rfl rfl (by kernel_rfl) rfl ⟨(Q5h (x:=y4.1) h11 h12:G7.rp _ _ _ _),qZt⟩ rfl rfl fun w9 a14 n1 c14 im9 hS8 => ?_)
      refine pv (Z1 rfl underlying68 rfl sizeOf3 rfl) (wl rfl (X6 (q:=1) hS8 ⟨rfl,rfl⟩ rfl rfl rfl sizeOf3 rfl rfl rfl fun w10 im10 hS9 => ?_))
      refine pv (Z1 rfl underlying68 rfl sizeOf24 rfl) (wl rfl (X6 (q:=1) hS9 ⟨rfl,rfl⟩ rfl rfl rfl sizeOf24 rfl rfl rfl fun w11 im11 hS10 => ?_))
      obtain⟨T6,im12,hS11,h14⟩:=hS10.seal 0 ⟨rfl,rfl⟩
      have hsh:=h14.len
      subst hsh
      exact nil (U6 (Q0 ⟨_,_,y4.2,(⟨2,y2,[],[],[],([y4.1]:List J8),[],[],[]⟩:U5),_,_,_,_,_,_,_,_,_,_,_,_,_,_,_,_,Q7 ⟨rfl,rfl,qZt⟩,(iT im7 (iT im8 (iT im9 (iT im10 (iT im11 im12))))),hS11.sel [1,2,3,4,5] rfl,V2,V2,V2,h14,V2,V2,V2,(h13.mono (iT im9 (iT im10 (iT im11 im12)))),hm⟩))
    refine sq2 ?_
    obtain⟨y5,hx5,hm⟩:=Q4 hm
    refine rg (pv (Z9 rfl) (wl rfl (Z7 Q8q rfl (G0 (p0:=y1) (Q2:=Q2) (p1 := [123]) (hS6.bun [0,1,2,3] [4] rfl) Q3 (h2.mono (iT im3 (iT im4 (iT im5 im7)))) hx5) rfl fun v6 T8 w14 im15 rv6 => ?_)))
    obtain⟨rfl,hS14,_⟩:=rv6
    have hS14:=hS14.unb
    refine pv (X5 rfl) (nil (Q0 ?_))
    refine V3 rfl hm (fun hb2 hm => ?_) fun hb2 hm => ?_
    · refine rg (pv (Z9 rfl) (?_))
      obtain⟨y6,hx6,hm⟩:=Q4 hm
      rcases y6 with e2 | y6
      · have hm:=Z3 hm
        refine wl rfl (G8 cf68 rfl (hG.F0 (p0:=y1) (Q2:=Q2) (hS14.bun [0,1,2,3] [4] rfl) Q3 (h2.mono (iT im3 (iT im4 (iT im5 (iT im7 im15))))) hx6) rfl fun v8 T11 w18 im20 rv8 => ?_)
        obtain⟨a18,c18,rfl,hS19,h18,_⟩:=rv8
        have hS19:=hS19.unb
        refine G4 (Z8 (S0 H7 (M8 (args := [pt b2 0]) Tryz.func115 rfl Tryz.ntmps115 rfl rfl fun J => ?_)))
        refine rg (pv (Z4 rfl isAgg41 (hS19.cell0 (i:=3) ⟨rfl,rfl⟩ (j:=0) rfl)) (pv (J1 rfl) (pv (Z1 rfl underlying43 rfl sizeOf3 rfl) (pv (Z4 rfl isAgg3 (hS19.cellB (i:=4) ⟨rfl,rfl⟩ Q3 (j:=3) rfl)) (pv (X7 rfl rfl rfl) (pv (J1 rfl) (pv (Z1 rfl underlying43 rfl sizeOf3 rfl) (wl rfl (stB (q:=4) (j:=3) hS19 ⟨rfl,rfl⟩ Q3 rfl rfl rfl sizeOf3 rfl rfl rfl fun w19 im21 hS20 => ?_)))))))))
        cases oI hm
        exact nil (Q0s rfl ⟨_,rfl,_,(iT im1 (iT im2 (iT im3 (iT im4 (iT im5 (iT im7 (iT im15 (iT im20 im21)))))))),⟨_,_,rfl,hS20.sel [2,4] rfl,(h18.mono im21),qZt⟩⟩)
      have hm:=V1 hm
      refine wl rfl (Z7 cf68 rfl (hG.F0 (p0:=y1) (Q2:=Q2) (hS14.bun [0,1,2,3] [4] rfl) Q3 (h2.mono (iT im3 (iT im4 (iT im5 (iT im7 im15))))) hx6) rfl fun v7 T9 w15 im16 rv7 => ?_)
      obtain⟨a16,n2,c16,a17,c17,rfl,hS15,h16,_⟩:=rv7
      have hS15:=hS15.unb
      refine pv (Z1 rfl underlying68 rfl sizeOf3 rfl) (wl rfl (X6 (q:=0) hS15 ⟨rfl,rfl⟩ rfl rfl rfl sizeOf3 rfl rfl rfl fun w16 im17 hS16 => ?_))
      refine pv (Z1 rfl underlying68 rfl sizeOf62 rfl) (wl rfl (X6 (q:=0) hS16 ⟨rfl,rfl⟩ rfl rfl rfl sizeOf62 rfl rfl rfl fun w17 im18 hS17 => ?_))
      obtain⟨T10,im19,hS18,h17⟩:=hS17.seal 5 ⟨rfl,rfl⟩
      have hsh:=h17.len
      subst hsh
      exact nil (U6 (Q0 ⟨_,_,y6.2,(⟨11,y2,[],[],[],[],y6.1,[],[]⟩:U5),_,_,_,_,_,_,_,_,_,_,_,_,_,_,_,_,Q7 ⟨rfl,rfl,qZt⟩,(iT im7 (iT im15 (iT im16 (iT im17 (iT im18 im19))))),hS18.sel [0,1,2,3,4] rfl,V2,V2,V2,V2,h17,V2,V2,(h16.mono (iT im17 (iT im18 im19))),hm⟩))
    refine sq2 ?_
    obtain⟨y7,hx7,hm⟩:=Q4 hm
    refine rg (pv (Z9 rfl) (wl rfl (Z7 Q1u rfl (Y8 (p0:=y1) (Q2:=Q2) (p1 := [59]) (hS14.bun [0,1,2,3] [4] rfl) Q3 (h2.mono (iT im3 (iT im4 (iT im5 (iT im7 im15))))) hx7) rfl fun v9 T12 w20 im22 rv9 => ?_)))
    obtain⟨a19,c19,rfl,hS21,h19,_⟩:=rv9
    have hS21:=hS21.unb
    refine pv (X5 rfl) (nil (Q0 ?_))
    refine V3 rfl hm (fun hb3 hm => ?_) fun hb3 hm => ?_
    · refine rg (pv (Z1 rfl underlying68 rfl sizeOf3 rfl) (wl rfl (X6 (q:=0) hS21 ⟨rfl,rfl⟩ rfl rfl rfl sizeOf3 rfl rfl rfl fun w21 im23 hS22 => ?_)))
      exact nil (U6 (Q0 ⟨_,_,y7.2,(⟨12,y2,[],[],[],[],[],[],[]⟩:U5),_,_,_,_,_,_,_,_,_,_,_,_,_,_,_,_,Q7 ⟨rfl,rfl,qZt⟩,(iT im7 (iT im15 (iT im22 im23))),hS22.sel [0,1,2,3,4] rfl,V2,V2,V2,V2,V2,V2,V2,(h19.mono im23),hm⟩))
    refine sq2 ?_
    obtain⟨y8,hx8,hm⟩:=Q4 hm
    refine rg (pv (Z9 rfl) (wl rfl (Z7 Q1u rfl (Y8 (p0:=y7.2) (Q2:=Q2) (p1 := [105,102]) (hS21.bun [0,1,2,3] [4] rfl) Q3 h19 hx8) rfl fun v10 T13 w22 im24 rv10 => ?_)))
    obtain⟨a20,c20,rfl,hS23,h20,_⟩:=rv10
    have hS23:=hS23.unb
    refine pv (X5 rfl) (nil (Q0 ?_))
    refine V3 rfl hm (fun hb4 hm => ?_) fun hb4 hm => ?_
    · refine sq2 (rg (pv (Z9 rfl) (?_)))
      obtain⟨y9,hx9,hm⟩:=Q4 hm
      rcases y9 with e5 | y9
      · have hm:=Z3 hm
        refine wl rfl (G8 Q8e rfl (E4 (p0:=y8.2) (Q2:=Q2) (hS23.bun [0,1,2,3] [4] rfl) Q3 h20 hx9) rfl fun v17 T22 w35 im39 rv17 => ?_)
        obtain⟨a30,c30,rfl,hS38,h31,_⟩:=rv17
        have hS38:=hS38.unb
        refine Z8 (G4 (Z8 (S0 H7 (M8 (args := [pt b2 0]) Tryz.func115 rfl Tryz.ntmps115 rfl rfl fun J => ?_))))
        refine rg (pv (Z4 rfl isAgg41 (hS38.cell0 (i:=3) ⟨rfl,rfl⟩ (j:=0) rfl)) (pv (J1 rfl) (pv (Z1 rfl underlying43 rfl sizeOf3 rfl) (pv (Z4 rfl isAgg3 (hS38.cellB (i:=4) ⟨rfl,rfl⟩ Q3 (j:=3) rfl)) (pv (X7 rfl rfl rfl) (pv (J1 rfl) (pv (Z1 rfl underlying43 rfl sizeOf3 rfl) (wl rfl (stB (q:=4) (j:=3) hS38 ⟨rfl,rfl⟩ Q3 rfl rfl rfl sizeOf3 rfl rfl rfl fun w36 im40 hS39 => ?_)))))))))
        cases oI hm
        exact nil (Q0s rfl ⟨_,rfl,_,(iT im1 (iT im2 (iT im3 (iT im4 (iT im5 (iT im7 (iT im15 (iT im22 (iT im24 (iT im39 im40)))))))))),⟨_,_,rfl,hS39.sel [2,4] rfl,(h31.mono im40),qZt⟩⟩)
      have hm:=V1 hm
      refine wl rfl (Z7 Q8e rfl (E4 (p0:=y8.2) (Q2:=Q2) (hS23.bun [0,1,2,3] [4] rfl) Q3 h20 hx9) rfl fun v11 T14 w23 im25 rv11 => ?_)
      obtain⟨a21,n3,c21,a22,c22,rfl,hS24,h21,_⟩:=rv11
      have hS24:=hS24.unb
      refine pv (Z1 rfl underlying68 rfl sizeOf3 rfl) (wl rfl (X6 (q:=0) hS24 ⟨rfl,rfl⟩ rfl rfl rfl sizeOf3 rfl rfl rfl fun w24 im26 hS25 => ?_))
      refine pv (Z1 rfl underlying68 rfl sizeOf56 rfl) (wl rfl (X6 (q:=0) hS25 ⟨rfl,rfl⟩ rfl rfl rfl sizeOf56 rfl rfl rfl fun w25 im27 hS26 => ?_))
      refine nil (Q0 ?_)
      refine sq2 (rg (pv (Z9 rfl) (?_)))
      obtain⟨y10,hx10,hm⟩:=Q4 hm
      rcases y10 with e4 | y10
      · have hm:=Z3 hm
        refine wl rfl (G8 Q8d rfl (hG.U9 (p0:=y9.2) (Q2:=Q2) (hS26.bun [0,1,2,3,5] [4] rfl) Q3 (h21.mono (iT im26 im27)) hx10) rfl fun v16 T21 w33 im37 rv16 => ?_)
        obtain⟨a29,c29,rfl,hS36,h30,_⟩:=rv16
        have hS36:=hS36.unb
        refine Z8 (G4 (Z8 (S0 H7 (M8 (args := [pt b2 0]) Tryz.func115 rfl Tryz.ntmps115 rfl rfl fun J => ?_))))
        refine rg (pv (Z4 rfl isAgg41 (hS36.cell0 (i:=3) ⟨rfl,rfl⟩ (j:=0) rfl)) (pv (J1 rfl) (pv (Z1 rfl underlying43 rfl sizeOf3 rfl) (pv (Z4 rfl isAgg3 (hS36.cellB (i:=5) ⟨rfl,rfl⟩ Q3 (j:=3) rfl)) (pv (X7 rfl rfl rfl) (pv (J1 rfl) (pv (Z1 rfl underlying43 rfl sizeOf3 rfl) (wl rfl (stB (q:=5) (j:=3) hS36 ⟨rfl,rfl⟩ Q3 rfl rfl rfl sizeOf3 rfl rfl rfl fun w34 im38 hS37 => ?_)))))))))
        cases oI hm
        exact nil (Q0s rfl ⟨_,rfl,_,(iT im1 (iT im2 (iT im3 (iT im4 (iT im5 (iT im7 (iT im15 (iT im22 (iT im24 (iT im25 (iT im26 (iT im27 (iT im37 im38))))))))))))),⟨_,_,rfl,hS37.sel [2,5] rfl,(h30.mono im38),qZt⟩⟩)
      have hm:=V1 hm
      refine wl rfl (Z7 Q8d rfl (hG.U9 (p0:=y9.2) (Q2:=Q2) (hS26.bun [0,1,2,3,5] [4] rfl) Q3 (h21.mono (iT im26 im27)) hx10) rfl fun v12 T15 w26 im28 rv12 => ?_)
      obtain⟨a23,c23,a24,c24,rfl,hS27,h22,h23,_⟩:=rv12
      have hS27:=hS27.unb
      refine pv (Z1 rfl underlying68 rfl sizeOf62 rfl) (wl rfl (X6 (q:=0) hS27 ⟨rfl,rfl⟩ rfl rfl rfl sizeOf62 rfl rfl rfl fun w27 im29 hS28 => ?_))
      refine nil (Q0 ?_)
      refine sq2 ?_
      obtain⟨y11,hx11,hm⟩:=Q4 hm
      refine rg (pv (Z9 rfl) (wl rfl (Z7 Q1u rfl (Y8 (p0:=y10.2) (Q2:=Q2) (p1 := [101,108,115,101]) (hS28.bun [0,1,2,3,4] [5] rfl) Q3 (h23.mono im29) hx11) rfl fun v13 T16 w28 im30 rv13 => ?_)))
      obtain⟨a25,c25,rfl,hS29,h24,_⟩:=rv13
      have hS29:=hS29.unb
      refine nil (Y9 [(0,pt X4 X2),(2,pt b1 0),(3,pt b3 0),(41,.bool y11.1)] ⟨rfl,rfl,rfl,rfl,qZt⟩ fun J => ?_)
      refine V3 rfl hm (fun hb5 hm => ?_) fun hb5 hm => ?_
      · refine rg (pv (Z9 rfl) (?_))
        obtain⟨y12,hx12,hm⟩:=Q4 hm
        rcases y12 with e3 | y12
        · have hm:=Z3 hm
          refine wl rfl (G8 Q8d rfl (hG.U9 (p0:=y11.2) (Q2:=Q2) (hS29.bun [0,1,2,3,4] [5] rfl) Q3 h24 hx12) rfl fun v15 T19 w31 im34 rv15 => ?_)
          obtain⟨a28,c28,rfl,hS33,h28,_⟩:=rv15
          have hS33:=hS33.unb
          refine G4 (Z8 (S0 H7 (M8 (args := [pt b2 0]) Tryz.func115 rfl Tryz.ntmps115 rfl rfl fun J => ?_)))
          refine rg (pv (Z4 rfl isAgg41 (hS33.cell0 (i:=3) ⟨rfl,rfl⟩ (j:=0) rfl)) (pv (J1 rfl) (pv (Z1 rfl underlying43 rfl sizeOf3 rfl) (pv (Z4 rfl isAgg3 (hS33.cellB (i:=5) ⟨rfl,rfl⟩ Q3 (j:=3) rfl)) (pv (X7 rfl rfl rfl) (pv (J1 rfl) (pv (Z1 rfl underlying43 rfl sizeOf3 rfl) (wl rfl (stB (q:=5) (j:=3) hS33 ⟨rfl,rfl⟩ Q3 rfl rfl rfl sizeOf3 rfl rfl rfl fun w32 im35 hS34 => ?_)))))))))
          cases oI hm
          exact nil (Q0s rfl ⟨_,rfl,_,(iT im1 (iT im2 (iT im3 (iT im4 (iT im5 (iT im7 (iT im15 (iT im22 (iT im24 (iT im25 (iT im26 (iT im27 (iT im28 (iT im29 (iT im30 (iT im34 im35)))))))))))))))),⟨_,_,rfl,hS34.sel [2,5] rfl,(h28.mono im35),qZt⟩⟩)
        have hm:=V1 hm
        refine wl rfl (Z7 Q8d rfl (hG.U9 (p0:=y11.2) (Q2:=Q2) (hS29.bun [0,1,2,3,4] [5] rfl) Q3 h24 hx12) rfl fun v14 T17 w29 im31 rv14 => ?_)
        obtain⟨a26,c26,a27,c27,rfl,hS30,h25,h26,_⟩:=rv14
        have hS30:=hS30.unb
        refine pv (Z1 rfl underlying68 rfl sizeOf62 rfl) (wl rfl (X6 (q:=0) hS30 ⟨rfl,rfl⟩ rfl rfl rfl sizeOf62 rfl rfl rfl fun w30 im32 hS31 => ?_))
        obtain⟨T18,im33,hS32,h27⟩:=hS31.seal 4 ⟨rfl,rfl⟩
        have hsh:=h27.len
        subst hsh
        exact nil (U6 (Q0 ⟨_,_,y12.2,(⟨3,y2,y9.1,[],[],[],y10.1,y12.1,[]⟩:U5),_,_,_,_,_,_,_,_,_,_,_,_,_,_,_,_,Q7 ⟨rfl,rfl,qZt⟩,(iT im7 (iT im15 (iT im22 (iT im24 (iT im25 (iT im26 (iT im27 (iT im28 (iT im29 (iT im30 (iT im31 (iT im32 im33)))))))))))),hS32.sel [0,1,2,3,5] rfl,h27,V2,V2,V2,(h22.mono (iT im29 (iT im30 (iT im31 (iT im32 im33))))),(h25.mono (iT im32 im33)),V2,(h26.mono (iT im32 im33)),hm⟩))
      obtain⟨T20,im36,hS35,h29⟩:=hS29.seal 4 ⟨rfl,rfl⟩
      have hsh:=h29.len
      subst hsh
      exact skp (U6 (Q0 ⟨_,_,y11.2,(⟨3,y2,y9.1,[],[],[],y10.1,[],[]⟩:U5),_,_,_,_,_,_,_,_,_,_,_,_,_,_,_,_,Q7 ⟨rfl,rfl,qZt⟩,(iT im7 (iT im15 (iT im22 (iT im24 (iT im25 (iT im26 (iT im27 (iT im28 (iT im29 (iT im30 im36)))))))))),hS35.sel [0,1,2,3,5] rfl,h29,V2,V2,V2,(h22.mono (iT im29 (iT im30 im36))),V2,V2,(h24.mono im36),hm⟩))
    refine sq2 ?_
    obtain⟨y13,hx13,hm⟩:=Q4 hm
    refine rg (pv (Z9 rfl) (wl rfl (Z7 Q1u rfl (Y8 (p0:=y8.2) (Q2:=Q2) (p1 := [119,104,105,108,101]) (hS23.bun [0,1,2,3] [4] rfl) Q3 h20 hx13) rfl fun v18 T23 w37 im41 rv18 => ?_)))
    obtain⟨a31,c31,rfl,hS40,h32,_⟩:=rv18
    have hS40:=hS40.unb
    refine pv (X5 rfl) (nil (Q0 ?_))
    refine V3 rfl hm (fun hb6 hm => ?_) fun hb6 hm => ?_
    · refine sq2 (rg (pv (Z9 rfl) (?_)))
      obtain⟨y14,hx14,hm⟩:=Q4 hm
      rcases y14 with e7 | y14
      · have hm:=Z3 hm
        refine wl rfl (G8 Q8e rfl (E4 (p0:=y13.2) (Q2:=Q2) (hS40.bun [0,1,2,3] [4] rfl) Q3 h32 hx14) rfl fun v22 T28 w45 im50 rv22 => ?_)
        obtain⟨a37,c37,rfl,hS49,h38,_⟩:=rv22
        have hS49:=hS49.unb
        refine Z8 (G4 (Z8 (S0 H7 (M8 (args := [pt b2 0]) Tryz.func115 rfl Tryz.ntmps115 rfl rfl fun J => ?_))))
        refine rg (pv (Z4 rfl isAgg41 (hS49.cell0 (i:=3) ⟨rfl,rfl⟩ (j:=0) rfl)) (pv (J1 rfl) (pv (Z1 rfl underlying43 rfl sizeOf3 rfl) (pv (Z4 rfl isAgg3 (hS49.cellB (i:=4) ⟨rfl,rfl⟩ Q3 (j:=3) rfl)) (pv (X7 rfl rfl rfl) (pv (J1 rfl) (pv (Z1 rfl underlying43 rfl sizeOf3 rfl) (wl rfl (stB (q:=4) (j:=3) hS49 ⟨rfl,rfl⟩ Q3 rfl rfl rfl sizeOf3 rfl rfl rfl fun w46 im51 hS50 => ?_)))))))))
        cases oI hm
        exact nil (Q0s rfl ⟨_,rfl,_,(iT im1 (iT im2 (iT im3 (iT im4 (iT im5 (iT im7 (iT im15 (iT im22 (iT im24 (iT im41 (iT im50 im51))))))))))),⟨_,_,rfl,hS50.sel [2,4] rfl,(h38.mono im51),qZt⟩⟩)
      have hm:=V1 hm
      refine wl rfl (Z7 Q8e rfl (E4 (p0:=y13.2) (Q2:=Q2) (hS40.bun [0,1,2,3] [4] rfl) Q3 h32 hx14) rfl fun v19 T24 w38 im42 rv19 => ?_)
      obtain⟨a32,n4,c32,a33,c33,rfl,hS41,h33,_⟩:=rv19
      have hS41:=hS41.unb
      refine pv (Z1 rfl underlying68 rfl sizeOf3 rfl) (wl rfl (X6 (q:=0) hS41 ⟨rfl,rfl⟩ rfl rfl rfl sizeOf3 rfl rfl rfl fun w39 im43 hS42 => ?_))
      refine pv (Z1 rfl underlying68 rfl sizeOf56 rfl) (wl rfl (X6 (q:=0) hS42 ⟨rfl,rfl⟩ rfl rfl rfl sizeOf56 rfl rfl rfl fun w40 im44 hS43 => ?_))
      refine nil (Q0 ?_)
      refine rg (pv (Z9 rfl) (?_))
      obtain⟨y15,hx15,hm⟩:=Q4 hm
      rcases y15 with e6 | y15
      · have hm:=Z3 hm
        refine wl rfl (G8 Q8d rfl (hG.U9 (p0:=y14.2) (Q2:=Q2) (hS43.bun [0,1,2,3,5] [4] rfl) Q3 (h33.mono (iT im43 im44)) hx15) rfl fun v21 T27 w43 im48 rv21 => ?_)
        obtain⟨a36,c36,rfl,hS47,h37,_⟩:=rv21
        have hS47:=hS47.unb
        refine G4 (Z8 (S0 H7 (M8 (args := [pt b2 0]) Tryz.func115 rfl Tryz.ntmps115 rfl rfl fun J => ?_)))
        refine rg (pv (Z4 rfl isAgg41 (hS47.cell0 (i:=3) ⟨rfl,rfl⟩ (j:=0) rfl)) (pv (J1 rfl) (pv (Z1 rfl underlying43 rfl sizeOf3 rfl) (pv (Z4 rfl isAgg3 (hS47.cellB (i:=5) ⟨rfl,rfl⟩ Q3 (j:=3) rfl)) (pv (X7 rfl rfl rfl) (pv (J1 rfl) (pv (Z1 rfl underlying43 rfl sizeOf3 rfl) (wl rfl (stB (q:=5) (j:=3) hS47 ⟨rfl,rfl⟩ Q3 rfl rfl rfl sizeOf3 rfl rfl rfl fun w44 im49 hS48 => ?_)))))))))
        cases oI hm
        exact nil (Q0s rfl ⟨_,rfl,_,(iT im1 (iT im2 (iT im3 (iT im4 (iT im5 (iT im7 (iT im15 (iT im22 (iT im24 (iT im41 (iT im42 (iT im43 (iT im44 (iT im48 im49)))))))))))))),⟨_,_,rfl,hS48.sel [2,5] rfl,(h37.mono im49),qZt⟩⟩)
      have hm:=V1 hm
      refine wl rfl (Z7 Q8d rfl (hG.U9 (p0:=y14.2) (Q2:=Q2) (hS43.bun [0,1,2,3,5] [4] rfl) Q3 (h33.mono (iT im43 im44)) hx15) rfl fun v20 T25 w41 im45 rv20 => ?_)
      obtain⟨a34,c34,a35,c35,rfl,hS44,h34,h35,_⟩:=rv20
      have hS44:=hS44.unb
      refine pv (Z1 rfl underlying68 rfl sizeOf62 rfl) (wl rfl (X6 (q:=0) hS44 ⟨rfl,rfl⟩ rfl rfl rfl sizeOf62 rfl rfl rfl fun w42 im46 hS45 => ?_))
      obtain⟨T26,im47,hS46,h36⟩:=hS45.seal 4 ⟨rfl,rfl⟩
      have hsh:=h36.len
      subst hsh
      exact nil (U6 (Q0 ⟨_,_,y15.2,(⟨4,y2,y14.1,[],[],[],y15.1,[],[]⟩:U5),_,_,_,_,_,_,_,_,_,_,_,_,_,_,_,_,Q7 ⟨rfl,rfl,qZt⟩,(iT im7 (iT im15 (iT im22 (iT im24 (iT im41 (iT im42 (iT im43 (iT im44 (iT im45 (iT im46 im47)))))))))),hS46.sel [0,1,2,3,5] rfl,h36,V2,V2,V2,(h34.mono (iT im46 im47)),V2,V2,(h35.mono (iT im46 im47)),hm⟩))
    refine sq2 ?_
    obtain⟨y16,hx16,hm⟩:=Q4 hm
    refine rg (pv (Z9 rfl) (wl rfl (Z7 Q1u rfl (Y8 (p0:=y13.2) (Q2:=Q2) (p1 := [100,111]) (hS40.bun [0,1,2,3] [4] rfl) Q3 h32 hx16) rfl fun v23 T29 w47 im52 rv23 => ?_)))
    obtain⟨a38,c38,rfl,hS51,h39,_⟩:=rv23
    have hS51:=hS51.unb
    refine pv (X5 rfl) (nil (Q0 ?_))
    refine V3 rfl hm (fun hb7 hm => ?_) fun hb7 hm => ?_
    · refine sq2 (rg (pv (Z9 rfl) (?_)))
      obtain⟨y17,hx17,hm⟩:=Q4 hm
      rcases y17 with e11 | y17
      · have hm:=Z3 hm
        refine wl rfl (G8 Q8d rfl (hG.U9 (p0:=y16.2) (Q2:=Q2) (hS51.bun [0,1,2,3] [4] rfl) Q3 h39 hx17) rfl fun v31 T38 w61 im67 rv31 => ?_)
        obtain⟨a48,c48,rfl,hS66,h49,_⟩:=rv31
        have hS66:=hS66.unb
        refine Z8 (G4 (Z8 (S0 H7 (M8 (args := [pt b2 0]) Tryz.func115 rfl Tryz.ntmps115 rfl rfl fun J => ?_))))
        refine rg (pv (Z4 rfl isAgg41 (hS66.cell0 (i:=3) ⟨rfl,rfl⟩ (j:=0) rfl)) (pv (J1 rfl) (pv (Z1 rfl underlying43 rfl sizeOf3 rfl) (pv (Z4 rfl isAgg3 (hS66.cellB (i:=4) ⟨rfl,rfl⟩ Q3 (j:=3) rfl)) (pv (X7 rfl rfl rfl) (pv (J1 rfl) (pv (Z1 rfl underlying43 rfl sizeOf3 rfl) (wl rfl (stB (q:=4) (j:=3) hS66 ⟨rfl,rfl⟩ Q3 rfl rfl rfl sizeOf3 rfl rfl rfl fun w62 im68 hS67 => ?_)))))))))
        cases oI hm
        exact nil (Q0s rfl ⟨_,rfl,_,(iT im1 (iT im2 (iT im3 (iT im4 (iT im5 (iT im7 (iT im15 (iT im22 (iT im24 (iT im41 (iT im52 (iT im67 im68)))))))))))),⟨_,_,rfl,hS67.sel [2,4] rfl,(h49.mono im68),qZt⟩⟩)
      have hm:=V1 hm
      refine wl rfl (Z7 Q8d rfl (hG.U9 (p0:=y16.2) (Q2:=Q2) (hS51.bun [0,1,2,3] [4] rfl) Q3 h39 hx17) rfl fun v24 T30 w48 im53 rv24 => ?_)
      obtain⟨a39,c39,a40,c40,rfl,hS52,h40,h41,_⟩:=rv24
      have hS52:=hS52.unb
      refine pv (Z1 rfl underlying68 rfl sizeOf3 rfl) (wl rfl (X6 (q:=0) hS52 ⟨rfl,rfl⟩ rfl rfl rfl sizeOf3 rfl rfl rfl fun w49 im54 hS53 => ?_))
      refine pv (Z1 rfl underlying68 rfl sizeOf62 rfl) (wl rfl (X6 (q:=0) hS53 ⟨rfl,rfl⟩ rfl rfl rfl sizeOf62 rfl rfl rfl fun w50 im55 hS54 => ?_))
      refine nil (Y9 [(0,pt X4 X2),(2,pt b1 0),(3,pt b3 0)] ⟨rfl,rfl,rfl,qZt⟩ fun J => ?_)
      refine sq2 (rg (pv (Z9 rfl) (?_)))
      obtain⟨y18,hx18,hm⟩:=Q4 hm
      rcases y18 with e10 | y18
      · have hm:=Z3 hm
        refine wl rfl (G8 A3 rfl (Q9 (p0:=y17.2) (Q2:=Q2) (p1 := [119,104,105,108,101]) (hS54.bun [0,1,2,3] [4] rfl) Q3 (h41.mono (iT im54 im55)) hx18) rfl fun v30 T37 w59 im65 rv30 => ?_)
        obtain⟨a47,c47,rfl,hS64,h48,_⟩:=rv30
        have hS64:=hS64.unb
        refine Z8 (G4 (Z8 (S0 H7 (M8 (args := [pt b2 0]) Tryz.func115 rfl Tryz.ntmps115 rfl rfl fun J => ?_))))
        refine rg (pv (Z4 rfl isAgg41 (hS64.cell0 (i:=3) ⟨rfl,rfl⟩ (j:=0) rfl)) (pv (J1 rfl) (pv (Z1 rfl underlying43 rfl sizeOf3 rfl) (pv (Z4 rfl isAgg3 (hS64.cellB (i:=4) ⟨rfl,rfl⟩ Q3 (j:=3) rfl)) (pv (X7 rfl rfl rfl) (pv (J1 rfl) (pv (Z1 rfl underlying43 rfl sizeOf3 rfl) (wl rfl (stB (q:=4) (j:=3) hS64 ⟨rfl,rfl⟩ Q3 rfl rfl rfl sizeOf3 rfl rfl rfl fun w60 im66 hS65 => ?_)))))))))
        cases oI hm
        exact nil (Q0s rfl ⟨_,rfl,_,(iT im1 (iT im2 (iT im3 (iT im4 (iT im5 (iT im7 (iT im15 (iT im22 (iT im24 (iT im41 (iT im52 (iT im53 (iT im54 (iT im55 (iT im65 im66))))))))))))))),⟨_,_,rfl,hS65.sel [2,4] rfl,(h48.mono im66),qZt⟩⟩)
      have hm:=V1 hm
      refine wl rfl (Z7 A3 rfl (Q9 (p0:=y17.2) (Q2:=Q2) (p1 := [119,104,105,108,101]) (hS54.bun [0,1,2,3] [4] rfl) Q3 (h41.mono (iT im54 im55)) hx18) rfl fun v25 T31 w51 im56 rv25 => ?_)
      obtain⟨a41,c41,rfl,hS55,h42,_⟩:=rv25
      have hS55:=hS55.unb
      refine nil (Q0 ?_)
      refine sq2 (rg (pv (Z9 rfl) (?_)))
      obtain⟨y19,hx19,hm⟩:=Q4 hm
      rcases y19 with e9 | y19
      · have hm:=Z3 hm
        refine wl rfl (G8 Q8e rfl (E4 (p0:=y18) (Q2:=Q2) (hS55.bun [0,1,2,3] [4] rfl) Q3 h42 hx19) rfl fun v29 T36 w57 im63 rv29 => ?_)
        obtain⟨a46,c46,rfl,hS62,h47,_⟩:=rv29
        have hS62:=hS62.unb
        refine Z8 (G4 (Z8 (S0 H7 (M8 (args := [pt b2 0]) Tryz.func115 rfl Tryz.ntmps115 rfl rfl fun J => ?_))))
        refine rg (pv (Z4 rfl isAgg41 (hS62.cell0 (i:=3) ⟨rfl,rfl⟩ (j:=0) rfl)) (pv (J1 rfl) (pv (Z1 rfl underlying43 rfl sizeOf3 rfl) (pv (Z4 rfl isAgg3 (hS62.cellB (i:=4) ⟨rfl,rfl⟩ Q3 (j:=3) rfl)) (pv (X7 rfl rfl rfl) (pv (J1 rfl) (pv (Z1 rfl underlying43 rfl sizeOf3 rfl) (wl rfl (stB (q:=4) (j:=3) hS62 ⟨rfl,rfl⟩ Q3 rfl rfl rfl sizeOf3 rfl rfl rfl fun w58 im64 hS63 => ?_)))))))))
        cases oI hm
        exact nil (Q0s rfl ⟨_,rfl,_,(iT im1 (iT im2 (iT im3 (iT im4 (iT im5 (iT im7 (iT im15 (iT im22 (iT im24 (iT im41 (iT im52 (iT im53 (iT im54 (iT im55 (iT im56 (iT im63 im64)))))))))))))))),⟨_,_,rfl,hS63.sel [2,4] rfl,(h47.mono im64),qZt⟩⟩)
      have hm:=V1 hm
      refine wl rfl (Z7 Q8e rfl (E4 (p0:=y18) (Q2:=Q2) (hS55.bun [0,1,2,3] [4] rfl) Q3 h42 hx19) rfl fun v26 T32 w52 im57 rv26 => ?_)
      obtain⟨a42,n5,c42,a43,c43,rfl,hS56,h43,_⟩:=rv26
      have hS56:=hS56.unb
      refine pv (Z1 rfl underlying68 rfl sizeOf56 rfl) (wl rfl (X6 (q:=0) hS56 ⟨rfl,rfl⟩ rfl rfl rfl sizeOf56 rfl rfl rfl fun w53 im58 hS57 => ?_))
      refine nil (Q0 ?_)
      refine rg (pv (Z9 rfl) (?_))
      obtain⟨y20,hx20,hm⟩:=Q4 hm
      rcases y20 with e8 | y20
      · have hm:=Z3 hm
        refine wl rfl (G8 A3 rfl (Q9 (p0:=y19.2) (Q2:=Q2) (p1 := [59]) (hS57.bun [0,1,2,3,5] [4] rfl) Q3 (h43.mono im58) hx20) rfl fun v28 T35 w55 im61 rv28 => ?_)
        obtain⟨a45,c45,rfl,hS60,h46,_⟩:=rv28
        have hS60:=hS60.unb
        refine G4 (Z8 (S0 H7 (M8 (args := [pt b2 0]) Tryz.func115 rfl Tryz.ntmps115 rfl rfl fun J => ?_)))
        refine rg (pv (Z4 rfl isAgg41 (hS60.cell0 (i:=3) ⟨rfl,rfl⟩ (j:=0) rfl)) (pv (J1 rfl) (pv (Z1 rfl underlying43 rfl sizeOf3 rfl) (pv (Z4 rfl isAgg3 (hS60.cellB (i:=5) ⟨rfl,rfl⟩ Q3 (j:=3) rfl)) (pv (X7 rfl rfl rfl) (pv (J1 rfl) (pv (Z1 rfl underlying43 rfl sizeOf3 rfl) (wl rfl (stB (q:=5) (j:=3) hS60 ⟨rfl,rfl⟩ Q3 rfl rfl rfl sizeOf3 rfl rfl rfl fun w56 im62 hS61 => ?_)))))))))
        cases oI hm
        exact nil (Q0s rfl ⟨_,rfl,_,(iT im1 (iT im2 (iT im3 (iT im4 (iT im5 (iT im7 (iT im15 (iT im22 (iT im24 (iT im41 (iT im52 (iT im53 (iT im54 (iT im55 (iT im56 (iT im57 (iT im58 (iT im61 im62)))))))))))))))))),⟨_,_,rfl,hS61.sel [2,5] rfl,(h46.mono im62),qZt⟩⟩)
      have hm:=V1 hm
      refine wl rfl (Z7 A3 rfl (Q9 (p0:=y19.2) (Q2:=Q2) (p1 := [59]) (hS57.bun [0,1,2,3,5] [4] rfl) Q3 (h43.mono im58) hx20) rfl fun v27 T33 w54 im59 rv27 => ?_)
      obtain⟨a44,c44,rfl,hS58,h44,_⟩:=rv27
      have hS58:=hS58.unb
      obtain⟨T34,im60,hS59,h45⟩:=hS58.seal 4 ⟨rfl,rfl⟩
      have hsh:=h45.len
      subst hsh
      exact nil (U6 (Q0 ⟨_,_,y20,(⟨5,y2,y19.1,[],[],[],y17.1,[],[]⟩:U5),_,_,_,_,_,_,_,_,_,_,_,_,_,_,_,_,Q7 ⟨rfl,rfl,qZt⟩,(iT im7 (iT im15 (iT im22 (iT im24 (iT im41 (iT im52 (iT im53 (iT im54 (iT im55 (iT im56 (iT im57 (iT im58 (iT im59 im60))))))))))))),hS59.sel [0,1,2,3,5] rfl,h45,V2,V2,V2,(h40.mono (iT im54 (iT im55 (iT im56 (iT im57 (iT im58 (iT im59 im60))))))),V2,V2,(h44.mono im60),hm⟩))
    refine sq2 ?_
    obtain⟨y21,hx21,hm⟩:=Q4 hm
    refine rg (pv (Z9 rfl) (wl rfl (Z7 Q1u rfl (Y8 (p0:=y16.2) (Q2:=Q2) (p1 := [102,111,114]) (hS51.bun [0,1,2,3] [4] rfl) Q3 h39 hx21) rfl fun v32 T39 w63 im69 rv32 => ?_)))
    obtain⟨a49,c49,rfl,hS68,h50,_⟩:=rv32
    have hS68:=hS68.unb
    refine pv (X5 rfl) (nil (Y9 [(0,pt X4 X2),(2,pt b1 0),(3,pt b3 0),(69,.bool y21.1)] ⟨rfl,rfl,rfl,rfl,qZt⟩ fun J => ?_))
    refine V3 rfl hm (fun hb8 hm => ?_) fun hb8 hm => ?_
    · refine sq2 (rg (pv (Z1 rfl underlying68 rfl sizeOf3 rfl) (wl rfl (X6 (q:=0) hS68 ⟨rfl,rfl⟩ rfl rfl rfl sizeOf3 rfl rfl rfl fun w64 im70 hS69 => ?_))))
      refine nil (Q0 ?_)
      refine sq2 (rg (pv (Z9 rfl) (?_)))
      obtain⟨y22,hx22,hm⟩:=Q4 hm
      rcases y22 with e16 | y22
      · have hm:=Z3 hm
        refine wl rfl (G8 A3 rfl (Q9 (p0:=y21.2) (Q2:=Q2) (p1 := [40]) (hS69.bun [0,1,2,3] [4] rfl) Q3 (h50.mono im70) hx22) rfl fun v42 T52 w82 im91 rv42 => ?_)
        obtain⟨a63,c63,rfl,hS90,h64,_⟩:=rv42
        have hS90:=hS90.unb
        refine Z8 (G4 (Z8 (S0 H7 (M8 (args := [pt b2 0]) Tryz.func115 rfl Tryz.ntmps115 rfl rfl fun J => ?_))))
        refine rg (pv (Z4 rfl isAgg41 (hS90.cell0 (i:=3) ⟨rfl,rfl⟩ (j:=0) rfl)) (pv (J1 rfl) (pv (Z1 rfl underlying43 rfl sizeOf3 rfl) (pv (Z4 rfl isAgg3 (hS90.cellB (i:=4) ⟨rfl,rfl⟩ Q3 (j:=3) rfl)) (pv (X7 rfl rfl rfl) (pv (J1 rfl) (pv (Z1 rfl underlying43 rfl sizeOf3 rfl) (wl rfl (stB (q:=4) (j:=3) hS90 ⟨rfl,rfl⟩ Q3 rfl rfl rfl sizeOf3 rfl rfl rfl fun w83 im92 hS91 => ?_)))))))))
        cases oI hm
        exact nil (Q0s rfl ⟨_,rfl,_,(iT im1 (iT im2 (iT im3 (iT im4 (iT im5 (iT im7 (iT im15 (iT im22 (iT im24 (iT im41 (iT im52 (iT im69 (iT im70 (iT im91 im92)))))))))))))),⟨_,_,rfl,hS91.sel [2,4] rfl,(h64.mono im92),qZt⟩⟩)
      have hm:=V1 hm
      refine wl rfl (Z7 A3 rfl (Q9 (p0:=y21.2) (Q2:=Q2) (p1 := [40]) (hS69.bun [0,1,2,3] [4] rfl) Q3 (h50.mono im70) hx22) rfl fun v33 T40 w65 im71 rv33 => ?_)
      obtain⟨a50,c50,rfl,hS70,h51,_⟩:=rv33
      have hS70:=hS70.unb
      refine nil (Q0 ?_)
      refine sq2 (rg (pv (Z9 rfl) (?_)))
      obtain⟨y23,hx23,hm⟩:=Q4 hm
      rcases y23 with e15 | y23
      · have hm:=Z3 hm
        refine wl rfl (G8 Z0q rfl (D9 (p0:=y22) (Q2:=Q2) (p1 := [59]) (hS70.bun [0,1,2,3] [4] rfl) Q3 h51 hx23) rfl fun v41 T51 w80 im89 rv41 => ?_)
        obtain⟨a62,c62,rfl,hS88,h63,_⟩:=rv41
        have hS88:=hS88.unb
        refine Z8 (G4 (Z8 (S0 H7 (M8 (args := [pt b2 0]) Tryz.func115 rfl Tryz.ntmps115 rfl rfl fun J => ?_))))
        refine rg (pv (Z4 rfl isAgg41 (hS88.cell0 (i:=3) ⟨rfl,rfl⟩ (j:=0) rfl)) (pv (J1 rfl) (pv (Z1 rfl underlying43 rfl sizeOf3 rfl) (pv (Z4 rfl isAgg3 (hS88.cellB (i:=4) ⟨rfl,rfl⟩ Q3 (j:=3) rfl)) (pv (X7 rfl rfl rfl) (pv (J1 rfl) (pv (Z1 rfl underlying43 rfl sizeOf3 rfl) (wl rfl (stB (q:=4) (j:=3) hS88 ⟨rfl,rfl⟩ Q3 rfl rfl rfl sizeOf3 rfl rfl rfl fun w81 im90 hS89 => ?_)))))))))
        cases oI hm
        exact nil (Q0s rfl ⟨_,rfl,_,(iT im1 (iT im2 (iT im3 (iT im4 (iT im5 (iT im7 (iT im15 (iT im22 (iT im24 (iT im41 (iT im52 (iT im69 (iT im70 (iT im71 (iT im89 im90))))))))))))))),⟨_,_,rfl,hS89.sel [2,4] rfl,(h63.mono im90),qZt⟩⟩)
      have hm:=V1 hm
      refine wl rfl (Z7 Z0q rfl (D9 (p0:=y22) (Q2:=Q2) (p1 := [59]) (hS70.bun [0,1,2,3] [4] rfl) Q3 h51 hx23) rfl fun v34 T41 w66 im72 rv34 => ?_)
      obtain⟨a51,n6,c51,a52,c52,rfl,hS71,h52,_⟩:=rv34
      have hS71:=hS71.unb
      refine pv (Z9 rfl) (?_)
      obtain⟨y24,hx24,hm⟩:=Q4 hm
      rcases y24 with e14 | y24
      · have hm:=Z3 hm
        refine wl rfl (G8 Z0q rfl (D9 (p0:=y23.2) (Q2:=Q2) (p1 := [59]) (hS71.bun [0,1,2,3,5] [4] rfl) Q3 h52 hx24) rfl fun v40 T50 w78 im87 rv40 => ?_)
        obtain⟨a61,c61,rfl,hS86,h62,_⟩:=rv40
        have hS86:=hS86.unb
        refine Z8 (G4 (Z8 (S0 H7 (M8 (args := [pt b2 0]) Tryz.func115 rfl Tryz.ntmps115 rfl rfl fun J => ?_))))
        refine rg (pv (Z4 rfl isAgg41 (hS86.cell0 (i:=3) ⟨rfl,rfl⟩ (j:=0) rfl)) (pv (J1 rfl) (pv (Z1 rfl underlying43 rfl sizeOf3 rfl) (pv (Z4 rfl isAgg3 (hS86.cellB (i:=5) ⟨rfl,rfl⟩ Q3 (j:=3) rfl)) (pv (X7 rfl rfl rfl) (pv (J1 rfl) (pv (Z1 rfl underlying43 rfl sizeOf3 rfl) (wl rfl (stB (q:=5) (j:=3) hS86 ⟨rfl,rfl⟩ Q3 rfl rfl rfl sizeOf3 rfl rfl rfl fun w79 im88 hS87 => ?_)))))))))
        cases oI hm
        exact nil (Q0s rfl ⟨_,rfl,_,(iT im1 (iT im2 (iT im3 (iT im4 (iT im5 (iT im7 (iT im15 (iT im22 (iT im24 (iT im41 (iT im52 (iT im69 (iT im70 (iT im71 (iT im72 (iT im87 im88)))))))))))))))),⟨_,_,rfl,hS87.sel [2,5] rfl,(h62.mono im88),qZt⟩⟩)
      have hm:=V1 hm
      refine wl rfl (Z7 Z0q rfl (D9 (p0:=y23.2) (Q2:=Q2) (p1 := [59]) (hS71.bun [0,1,2,3,5] [4] rfl) Q3 h52 hx24) rfl fun v35 T42 w67 im73 rv35 => ?_)
      obtain⟨a53,n7,c53,a54,c54,rfl,hS72,h53,_⟩:=rv35
      have hS72:=hS72.unb
      refine pv (Z9 rfl) (?_)
      obtain⟨y25,hx25,hm⟩:=Q4 hm
      rcases y25 with e13 | y25
      · have hm:=Z3 hm
        refine wl rfl (G8 Z0q rfl (D9 (p0:=y24.2) (Q2:=Q2) (p1 := [41]) (hS72.bun [0,1,2,3,4,6] [5] rfl) Q3 h53 hx25) rfl fun v39 T49 w76 im85 rv39 => ?_)
        obtain⟨a60,c60,rfl,hS84,h61,_⟩:=rv39
        have hS84:=hS84.unb
        refine Z8 (G4 (Z8 (S0 H7 (M8 (args := [pt b2 0]) Tryz.func115 rfl Tryz.ntmps115 rfl rfl fun J => ?_))))
        refine rg (pv (Z4 rfl isAgg41 (hS84.cell0 (i:=3) ⟨rfl,rfl⟩ (j:=0) rfl)) (pv (J1 rfl) (pv (Z1 rfl underlying43 rfl sizeOf3 rfl) (pv (Z4 rfl isAgg3 (hS84.cellB (i:=6) ⟨rfl,rfl⟩ Q3 (j:=3) rfl)) (pv (X7 rfl rfl rfl) (pv (J1 rfl) (pv (Z1 rfl underlying43 rfl sizeOf3 rfl) (wl rfl (stB (q:=6) (j:=3) hS84 ⟨rfl,rfl⟩ Q3 rfl rfl rfl sizeOf3 rfl rfl rfl fun w77 im86 hS85 => ?_)))))))))
        cases oI hm
        exact nil (Q0s rfl ⟨_,rfl,_,(iT im1 (iT im2 (iT im3 (iT im4 (iT im5 (iT im7 (iT im15 (iT im22 (iT im24 (iT im41 (iT im52 (iT im69 (iT im70 (iT im71 (iT im72 (iT im73 (iT im85 im86))))))))))))))))),⟨_,_,rfl,hS85.sel [2,6] rfl,(h61.mono im86),qZt⟩⟩)
      have hm:=V1 hm
      refine wl rfl (Z7 Z0q rfl (D9 (p0:=y24.2) (Q2:=Q2) (p1 := [41]) (hS72.bun [0,1,2,3,4,6] [5] rfl) Q3 h53 hx25) rfl fun v36 T43 w68 im74 rv36 => ?_)
      obtain⟨a55,n8,c55,a56,c56,rfl,hS73,h54,_⟩:=rv36
      have hS73:=hS73.unb
      refine pv (Z1 rfl underlying68 rfl sizeOf56 rfl) (wl rfl (X6 (q:=0) hS73 ⟨rfl,rfl⟩ rfl rfl rfl sizeOf56 rfl rfl rfl fun w69 im75 hS74 => ?_))
      refine pv (Z1 rfl underlying68 rfl sizeOf56 rfl) (wl rfl (X6 (q:=0) hS74 ⟨rfl,rfl⟩ rfl rfl rfl sizeOf56 rfl rfl rfl fun w70 im76 hS75 => ?_))
      refine pv (Z1 rfl underlying68 rfl sizeOf56 rfl) (wl rfl (X6 (q:=0) hS75 ⟨rfl,rfl⟩ rfl rfl rfl sizeOf56 rfl rfl rfl fun w71 im77 hS76 => ?_))
      refine nil (Q0 ?_)
      refine rg (pv (Z9 rfl) (?_))
      obtain⟨y26,hx26,hm⟩:=Q4 hm
      rcases y26 with e12 | y26
      · have hm:=Z3 hm
        refine wl rfl (G8 Q8d rfl (hG.U9 (p0:=y25.2) (Q2:=Q2) (hS76.bun [0,1,2,3,4,5,7] [6] rfl) Q3 (h54.mono (iT im75 (iT im76 im77))) hx26) rfl fun v38 T48 w74 im83 rv38 => ?_)
        obtain⟨a59,c59,rfl,hS82,h60,_⟩:=rv38
        have hS82:=hS82.unb
        refine G4 (Z8 (S0 H7 (M8 (args := [pt b2 0]) Tryz.func115 rfl Tryz.ntmps115 rfl rfl fun J => ?_)))
        refine rg (pv (Z4 rfl isAgg41 (hS82.cell0 (i:=3) ⟨rfl,rfl⟩ (j:=0) rfl)) (pv (J1 rfl) (pv (Z1 rfl underlying43 rfl sizeOf3 rfl) (pv (Z4 rfl isAgg3 (hS82.cellB (i:=7) ⟨rfl,rfl⟩ Q3 (j:=3) rfl)) (pv (X7 rfl rfl rfl) (pv (J1 rfl) (pv (Z1 rfl underlying43 rfl sizeOf3 rfl) (wl rfl (stB (q:=7) (j:=3) hS82 ⟨rfl,rfl⟩ Q3 rfl rfl rfl sizeOf3 rfl rfl rfl fun w75 im84 hS83 => ?_)))))))))
        cases oI hm
        exact nil (Q0s rfl ⟨_,rfl,_,(iT im1 (iT im2 (iT im3 (iT im4 (iT im5 (iT im7 (iT im15 (iT im22 (iT im24 (iT im41 (iT im52 (iT im69 (iT im70 (iT im71 (iT im72 (iT im73 (iT im74 (iT im75 (iT im76 (iT im77 (iT im83 im84))))))))))))))))))))),⟨_,_,rfl,hS83.sel [2,7] rfl,(h60.mono im84),qZt⟩⟩)
      have hm:=V1 hm
      refine wl rfl (Z7 Q8d rfl (hG.U9 (p0:=y25.2) (Q2:=Q2) (hS76.bun [0,1,2,3,4,5,7] [6] rfl) Q3 (h54.mono (iT im75 (iT im76 im77))) hx26) rfl fun v37 T44 w72 im78 rv37 => ?_)
      obtain⟨a57,c57,a58,c58,rfl,hS77,h55,h56,_⟩:=rv37
      have hS77:=hS77.unb
      refine pv (Z1 rfl underlying68 rfl sizeOf62 rfl) (wl rfl (X6 (q:=0) hS77 ⟨rfl,rfl⟩ rfl rfl rfl sizeOf62 rfl rfl rfl fun w73 im79 hS78 => ?_))
      obtain⟨T45,im80,hS79,h57⟩:=hS78.seal 4 ⟨rfl,rfl⟩
      have hsh:=h57.len
      subst hsh
      obtain⟨T46,im81,hS80,h58⟩:=hS79.seal 5 ⟨rfl,rfl⟩
      have hsh:=h58.len
      subst hsh
      obtain⟨T47,im82,hS81,h59⟩:=hS80.seal 6 ⟨rfl,rfl⟩
      have hsh:=h59.len
      subst hsh
      exact nil (U6 (Q0 ⟨_,_,y26.2,(⟨6,y2,y23.1,y24.1,y25.1,[],y26.1,[],[]⟩:U5),_,_,_,_,_,_,_,_,_,_,_,_,_,_,_,_,Q7 ⟨rfl,rfl,qZt⟩,(iT im7 (iT im15 (iT im22 (iT im24 (iT im41 (iT im52 (iT im69 (iT im70 (iT im71 (iT im72 (iT im73 (iT im74 (iT im75 (iT im76 (iT im77 (iT im78 (iT im79 (iT im80 (iT im81 im82))))))))))))))))))),hS81.sel [0,1,2,3,7] rfl,(h57.mono (iT im81 im82)),(h58.mono im82),h59,V2,(h55.mono (iT im79 (iT im80 (iT im81 im82)))),V2,V2,(h56.mono (iT im79 (iT im80 (iT im81 im82)))),hm⟩))
    refine sq2 ?_
    obtain⟨y27,hx27,hm⟩:=Q4 hm
    refine rg (pv (Z9 rfl) (wl rfl (Z7 Q1u rfl (Y8 (p0:=y21.2) (Q2:=Q2) (p1 := [115,119,105,116,99,104]) (hS68.bun [0,1,2,3] [4] rfl) Q3 h50 hx27) rfl fun v43 T53 w84 im93 rv43 => ?_)))
    obtain⟨a64,c64,rfl,hS92,h65,_⟩:=rv43
    have hS92:=hS92.unb
    refine pv (X5 rfl) (nil (Q0 ?_))
    refine V3 rfl hm (fun hb9 hm => ?_) fun hb9 hm => ?_
    · refine sq2 (rg (pv (Z9 rfl) (?_)))
      obtain⟨y28,hx28,hm⟩:=Q4 hm
      rcases y28 with e18 | y28
      · have hm:=Z3 hm
        refine wl rfl (G8 Q8e rfl (E4 (p0:=y27.2) (Q2:=Q2) (hS92.bun [0,1,2,3] [4] rfl) Q3 h65 hx28) rfl fun v47 T59 w92 im103 rv47 => ?_)
        obtain⟨a70,c70,rfl,hS102,h71,_⟩:=rv47
        have hS102:=hS102.unb
        refine Z8 (G4 (Z8 (S0 H7 (M8 (args := [pt b2 0]) Tryz.func115 rfl Tryz.ntmps115 rfl rfl fun J => ?_))))
        refine rg (pv (Z4 rfl isAgg41 (hS102.cell0 (i:=3) ⟨rfl,rfl⟩ (j:=0) rfl)) (pv (J1 rfl) (pv (Z1 rfl underlying43 rfl sizeOf3 rfl) (pv (Z4 rfl isAgg3 (hS102.cellB (i:=4) ⟨rfl,rfl⟩ Q3 (j:=3) rfl)) (pv (X7 rfl rfl rfl) (pv (J1 rfl) (pv (Z1 rfl underlying43 rfl sizeOf3 rfl) (wl rfl (stB (q:=4) (j:=3) hS102 ⟨rfl,rfl⟩ Q3 rfl rfl rfl sizeOf3 rfl rfl rfl fun w93 im104 hS103 => ?_)))))))))
        cases oI hm
        exact nil (Q0s rfl ⟨_,rfl,_,(iT im1 (iT im2 (iT im3 (iT im4 (iT im5 (iT im7 (iT im15 (iT im22 (iT im24 (iT im41 (iT im52 (iT im69 (iT im93 (iT im103 im104)))))))))))))),⟨_,_,rfl,hS103.sel [2,4] rfl,(h71.mono im104),qZt⟩⟩)
      have hm:=V1 hm
      refine wl rfl (Z7 Q8e rfl (E4 (p0:=y27.2) (Q2:=Q2) (hS92.bun [0,1,2,3] [4] rfl) Q3 h65 hx28) rfl fun v44 T54 w85 im94 rv44 => ?_)
      obtain⟨a65,n9,c65,a66,c66,rfl,hS93,h66,_⟩:=rv44
      have hS93:=hS93.unb
      refine pv (Z1 rfl underlying68 rfl sizeOf3 rfl) (wl rfl (X6 (q:=0) hS93 ⟨rfl,rfl⟩ rfl rfl rfl sizeOf3 rfl rfl rfl fun w86 im95 hS94 => ?_))
      refine pv (Z1 rfl underlying68 rfl sizeOf56 rfl) (wl rfl (X6 (q:=0) hS94 ⟨rfl,rfl⟩ rfl rfl rfl sizeOf56 rfl rfl rfl fun w87 im96 hS95 => ?_))
      refine nil (Q0 ?_)
      refine rg (pv (Z9 rfl) (?_))
      obtain⟨y29,hx29,hm⟩:=Q4 hm
      rcases y29 with e17 | y29
      · have hm:=Z3 hm
        refine wl rfl (G8 cf107 rfl (hG.B8 (p0:=y28.2) (Q2:=Q2) (hS95.bun [0,1,2,3,5] [4] rfl) Q3 (h66.mono (iT im95 im96)) hx29) rfl fun v46 T58 w90 im101 rv46 => ?_)
        obtain⟨a69,c69,rfl,hS100,h70,_⟩:=rv46
        have hS100:=hS100.unb
        refine G4 (Z8 (S0 H7 (M8 (args := [pt b2 0]) Tryz.func115 rfl Tryz.ntmps115 rfl rfl fun J => ?_)))
        refine rg (pv (Z4 rfl isAgg41 (hS100.cell0 (i:=3) ⟨rfl,rfl⟩ (j:=0) rfl)) (pv (J1 rfl) (pv (Z1 rfl underlying43 rfl sizeOf3 rfl) (pv (Z4 rfl isAgg3 (hS100.cellB (i:=5) ⟨rfl,rfl⟩ Q3 (j:=3) rfl)) (pv (X7 rfl rfl rfl) (pv (J1 rfl) (pv (Z1 rfl underlying43 rfl sizeOf3 rfl) (wl rfl (stB (q:=5) (j:=3) hS100 ⟨rfl,rfl⟩ Q3 rfl rfl rfl sizeOf3 rfl rfl rfl fun w91 im102 hS101 => ?_)))))))))
        cases oI hm
        exact nil (Q0s rfl ⟨_,rfl,_,(iT im1 (iT im2 (iT im3 (iT im4 (iT im5 (iT im7 (iT im15 (iT im22 (iT im24 (iT im41 (iT im52 (iT im69 (iT im93 (iT im94 (iT im95 (iT im96 (iT im101 im102))))))))))))))))),⟨_,_,rfl,hS101.sel [2,5] rfl,(h70.mono im102),qZt⟩⟩)
      have hm:=V1 hm
      refine wl rfl (Z7 cf107 rfl (hG.B8 (p0:=y28.2) (Q2:=Q2) (hS95.bun [0,1,2,3,5] [4] rfl) Q3 (h66.mono (iT im95 im96)) hx29) rfl fun v45 T55 w88 im97 rv45 => ?_)
      obtain⟨a67,n10,c67,a68,c68,rfl,hS96,h67,_⟩:=rv45
      have hS96:=hS96.unb
      refine pv (Z1 rfl underlying68 rfl sizeOf66 rfl) (wl rfl (X6 (q:=0) hS96 ⟨rfl,rfl⟩ rfl rfl rfl sizeOf66 rfl rfl rfl fun w89 im98 hS97 => ?_))
      obtain⟨T56,im99,hS98,h68⟩:=hS97.seal 4 ⟨rfl,rfl⟩
      have hsh:=h68.len
      subst hsh
      obtain⟨T57,im100,hS99,h69⟩:=hS98.seal 6 ⟨rfl,rfl⟩
      have hsh:=h69.len
      subst hsh
      exact nil (U6 (Q0 ⟨_,_,y29.2,(⟨7,y2,y28.1,[],[],[],[],[],y29.1⟩:U5),_,_,_,_,_,_,_,_,_,_,_,_,_,_,_,_,Q7 ⟨rfl,rfl,qZt⟩,(iT im7 (iT im15 (iT im22 (iT im24 (iT im41 (iT im52 (iT im69 (iT im93 (iT im94 (iT im95 (iT im96 (iT im97 (iT im98 (iT im99 im100)))))))))))))),hS99.sel [0,1,2,3,5] rfl,(h68.mono im100),V2,V2,V2,V2,V2,h69,(h67.mono (iT im98 (iT im99 im100))),hm⟩))
    refine rg (pv (Z9 rfl) (?_))
    obtain⟨y30,hx30,hm⟩:=Q4 hm
    rcases y30 with e19 | y30
    · have hm:=Z3 hm
      refine wl rfl (G8 cf108 rfl (Q2e (p0:=y27.2) (Q2:=Q2) (p1:=(⟨0,y2,[],[],[],[],[],[],[]⟩:U5)) (Q7y:=J6 b3) (hS92.bun [1,2,3] [4,0] rfl) Q3 h65 (Q0x b3) V2 V2 V2 V2 V2 V2 V2 hx30) rfl fun v49 T61 w95 im106 rv49 => ?_)
      obtain⟨a79,c79,a80,c80,a81,c81,a82,c82,a83,c83,a84,c84,a85,c85,a86,c86,rfl,hS105,h80,h81,h82,h83,h84,h85,h86,h87,_⟩:=rv49
      have hS105:=hS105.unb
      refine G4 (Z8 (S0 H7 (M8 (args := [pt b2 0]) Tryz.func115 rfl Tryz.ntmps115 rfl rfl fun J => ?_)))
      refine rg (pv (Z4 rfl isAgg41 (hS105.cell0 (i:=2) ⟨rfl,rfl⟩ (j:=0) rfl)) (pv (J1 rfl) (pv (Z1 rfl underlying43 rfl sizeOf3 rfl) (pv (Z4 rfl isAgg3 (hS105.cellB (i:=3) ⟨rfl,rfl⟩ Q3 (j:=3) rfl)) (pv (X7 rfl rfl rfl) (pv (J1 rfl) (pv (Z1 rfl underlying43 rfl sizeOf3 rfl) (wl rfl (stB (q:=3) (j:=3) hS105 ⟨rfl,rfl⟩ Q3 rfl rfl rfl sizeOf3 rfl rfl rfl fun w96 im107 hS106 => ?_)))))))))
      cases oI hm
      exact nil (Q0s rfl ⟨_,rfl,_,(iT im1 (iT im2 (iT im3 (iT im4 (iT im5 (iT im7 (iT im15 (iT im22 (iT im24 (iT im41 (iT im52 (iT im69 (iT im93 (iT im106 im107)))))))))))))),⟨_,_,rfl,hS106.sel [1,3] rfl,(h80.mono im107),qZt⟩⟩)
    have hm:=V1 hm
    refine wl rfl (Z7 cf108 rfl (Q2e (p0:=y27.2) (Q2:=Q2) (p1:=(⟨0,y2,[],[],[],[],[],[],[]⟩:U5)) (Q7y:=J6 b3) (hS92.bun [1,2,3] [4,0] rfl) Q3 h65 (Q0x b3) V2 V2 V2 V2 V2 V2 V2 hx30) rfl fun v48 T60 w94 im105 rv48 => ?_)
    obtain⟨a71,c71,a72,c72,a73,c73,a74,c74,a75,c75,a76,c76,a77,c77,a78,c78,rfl,hS104,h72,h73,h74,h75,h76,h77,h78,h79,_⟩:=rv48
    have hS104:=hS104.unb
    exact nil (U6 (Q0 ⟨_,_,y30.1,y30.2,_,_,_,_,_,_,_,_,_,_,_,_,_,_,_,_,Q7 ⟨rfl,rfl,qZt⟩,(iT im7 (iT im15 (iT im22 (iT im24 (iT im41 (iT im52 (iT im69 (iT im93 im105)))))))),hS104.sel [4,0,1,2,3] rfl,h73,h74,h75,h76,h77,h78,h79,h72,hm⟩))
  rintro _ w6 ⟨J,T3,x2,x1,a3,c3,a4,c4,a5,c5,a6,c6,a7,c7,a8,c8,a9,c9,a10,c10,rfl,im6,hS107,h3,h4,h5,h6,h7,h8,h9,h10,hm⟩
  rw [hkk1] at hm
  refine sq2 (rg (pv (Z5 rfl isAgg68 sizeOf68 rfl (hS107.cells0 (i:=0) ⟨rfl,rfl⟩ (o:=0) rfl) (cs:=(B4 x1 a3 c3 a4 c4 a5 c5 a6 c6 a7 c7 a8 c8 a9 c9))) (wl rfl (X6 (q:=1) hS107 ⟨rfl,rfl⟩ rfl rfl rfl sizeOf68 rfl rfl rfl fun w97 im108 hS108 => ?_))))
  refine nil (Q0 ?_)
  refine rtn (retD H7 (M8 (args := [pt b2 0]) Tryz.func115 rfl Tryz.ntmps115 rfl rfl fun J => ?_))
  refine rg (pv (Z4 rfl isAgg41 (hS108.cell0 (i:=3) ⟨rfl,rfl⟩ (j:=0) rfl)) (pv (J1 rfl) (pv (Z1 rfl underlying43 rfl sizeOf3 rfl) (pv (Z4 rfl isAgg3 (hS108.cellB (i:=4) ⟨rfl,rfl⟩ Q3 (j:=3) rfl)) (pv (X7 rfl rfl rfl) (pv (J1 rfl) (pv (Z1 rfl underlying43 rfl sizeOf3 rfl) (wl rfl (stB (q:=4) (j:=3) hS108 ⟨rfl,rfl⟩ Q3 rfl rfl rfl sizeOf3 rfl rfl rfl fun w98 im109 hS109 => ?_)))))))))
  cases oI hm
  exact nil (Q0s rfl ⟨_,Z1n (vs := [.agg (B4 x1 a3 c3 a4 c4 a5 c5 a6 c6 a7 c7 a8 c8 a9 c9).toArray]) rfl ⟨rvS rfl isAgg68 sizeOf68 rfl (hS109.bx (i:=1) ⟨rfl,rfl⟩),qZt⟩ rfl,⟨_,rfl,_,(iT im1 (iT im2 (iT im3 (iT im4 (iT im5 (iT im6 (iT im108 im109))))))),⟨_,_,_,_,_,_,_,_,_,_,_,_,_,_,_,_,rfl,hS109.sel [2,4] rfl,(h3.mono (iT im108 im109)),(h4.mono (iT im108 im109)),(h5.mono (iT im108 im109)),(h6.mono (iT im108 im109)),(h7.mono (iT im108 im109)),(h8.mono (iT im108 im109)),(h9.mono (iT im108 im109)),(h10.mono (iT im108 im109)),qZt⟩⟩⟩)
theorem Q6r {G:Rec2} (hG:Sp2 G):W3 (L2 G) := @fun g T0 w0 R p0 X4 X2 Q2 a1 c1 r hS Q3 h1 hm=>by
  refine enter (args := [pt X4 X2]) Tryz.func68 rfl Tryz.ntmps68 rfl fun J => ?_
  unfold L2 at hm
  refine sq2 (rg (pv (P8 rfl) (nil (Q0 ?_))))
  refine sq2 (rg (pv (P8 rfl) (nil (Q0 ?_))))
  refine sq2 (rg (pv (Z9 rfl) (?_)))
  obtain⟨y1,hx1,hm⟩:=Q4 hm
  rcases y1 with e2 | y1
  · have hm:=Z3 hm
    refine wl rfl (G8 A3 rfl (Q9 (p0:=p0) (Q2:=Q2) (p1 := [123]) (hS.bun [0] [1] rfl) Q3 h1 hx1) rfl fun v5 T6 w8 im8 rv5 => ?_)
    obtain⟨a17,c17,rfl,hS9,h14,_⟩:=rv5
    have hS9:=hS9.unb
    cases oI hm
    exact Z8 (P3 ⟨_,rfl,_,im8,⟨_,_,rfl,hS9.sel [0,1] rfl,h14,qZt⟩⟩)
  have hm:=V1 hm
  refine wl rfl (Z7 A3 rfl (Q9 (p0:=p0) (Q2:=Q2) (p1 := [123]) (hS.bun [0] [1] rfl) Q3 h1 hx1) rfl fun v1 T1 w1 im1 rv1 => ?_)
  obtain⟨a2,c2,rfl,hS1,h2,_⟩:=rv1
  have hS1:=hS1.unb
  refine nil (Q0 ?_)
  refine sq2 ?_
  obtain⟨o1,ho1,hq1⟩:=Q4 hm
  obtain⟨bd1,hbd1,ho1⟩:=K3 ho1
  have hS2:=hS1.nilO E1 68
  refine blk (wp_loop_ghost (fun m a w2 => ∃(J:JV) (T2:TP) (x2:Q1) (x1:List U5) (a3:OA) (n1:Nat) (c3:Nat) (a4:OA) (c4:Nat),a=env (nf 15) J [(0,pt X4 X2),(3,.slice a3 n1 c3)]∧Im T1 w1 T2 w2∧Sep g T2 w2 [G3 E1 68 (.slice a3 n1 c3) x1,R,Q2 [sv a4 x2.l c4,iv x2.end_.Line,iv x2.end_.Col,iv x2.depth]]∧SlR Y3 T2 w2 (sv a4 x2.l c4) x2.l∧V7 bd1 m (x1,x2)=some o1) NN ⟨_,_,y1,[],_,_,_,_,_,Q7 ⟨rfl,rfl,qZt⟩,Im.refl,hS2.sel [0,1,2] rfl,h2,ho1⟩ ?_)
  rintro m _ w2 ⟨J,T2,x2,x1,a3,n1,c3,a4,c4,rfl,im2,hS3,h3,ho1⟩
  obtain⟨m1,z1,rfl,hm,hn1⟩:=U4 ho1
  rw [hbd1] at hm
  refine sq2 (sq2 ?_)
  obtain⟨y2,hx2,hm⟩:=Q4 hm
  refine rg (pv (Z9 rfl) (wl rfl (Z7 Q1u rfl (Y8 (p0:=x2) (Q2:=Q2) (p1 := [125]) (hS3.bun [0,1] [2] rfl) Q3 h3 hx2) rfl fun v2 T3 w3 im3 rv2 => ?_)))
  obtain⟨a5,c5,rfl,hS4,h4,_⟩:=rv2
  have hS4:=hS4.unb
  refine pv (L7 rfl) (nil (Q0 ?_))
  refine V3 rfl hm (fun hb1 hm => ?_) fun hb1 hm => ?_
  · refine skp (Q0 ?_)
    refine blk (rg (pv (N2 rfl) (pv (Z9 rfl) (?_))))
    obtain⟨y3,hx3,hm⟩:=Q4 hm
    rcases y3 with e1 | y3
    · have hm:=Z3 hm
      refine wl rfl (G8 cf88 rfl (hG.J3 (p0:=y2.2) (Q2:=Q2) (hS4.bun [0,1] [2] rfl) Q3 h4 hx3) rfl fun v4 T5 w7 im7 rv4 => ?_)
      obtain⟨a16,c16,rfl,hS8,h13,_⟩:=rv4
      have hS8:=hS8.unb
      cases oI hm
      have hn1:_=Lp.ret _:=hn1
      subst hn1
      have hm:=X1 hq1
      cases oI hm
      exact G4 (Z8 (G4 (Z8 (P3 ⟨_,rfl,_,(iT im1 (iT im2 (iT im3 im7))),⟨_,_,rfl,hS8.sel [1,2] rfl,h13,qZt⟩⟩))))
    have hm:=V1 hm
    refine wl rfl (Z7 cf88 rfl (hG.J3 (p0:=y2.2) (Q2:=Q2) (hS4.bun [0,1] [2] rfl) Q3 h4 hx3) rfl fun v3 T4 w4 im4 rv3 => ?_)
    obtain⟨a6,c6,a7,c7,a8,c8,a9,c9,a10,c10,a11,c11,a12,c12,a13,c13,rfl,hS5,h5,h6,h7,h8,h9,h10,h11,h12,_⟩:=rv3
    have hS5:=hS5.unb
    refine wl rfl (bsS (r:=E1) (l:=([y3.1]:List U5)) (css := [(B4 y3.1 a6 c6 a7 c7 a8 c8 a9 c9 a10 c10 a11 c11 a12 c12)]) hS5 underlying62 sizeOf68 zeroValue68 rfl rfl (by kernel_rfl) rfl ⟨(Q9e (x:=y3.1) h5 h6 h7 h8 h9 h10 h11:E1.rp _ _ _ _),qZt⟩ rfl rfl fun w5 a14 n2 c14 im5 hS6 => ?_)
    obtain⟨z_1,hro1,hm⟩:=Q4 hm
    refine wl rfl (apO (q:=1) (l:=x1) (us:=([y3.1]:List U5)) hS6 ⟨rfl,rfl⟩ rfl rfl (hS6.own (i:=0) ⟨rfl,rfl⟩).v underlying62 el68 (D5 hro1) fun w6 a15 n3 c15 im6 hS7 => ?_)
    cases oI hm
    exact pv (P8 rfl) (nil (U6 (Q0 ⟨m1,Nat.lt_succ_self _,_,_,y3.2,(x1++([y3.1]:List U5)),_,_,_,_,_,Q7 ⟨rfl,rfl,qZt⟩,(iT im2 (iT im3 (iT im4 (iT im5 im6)))),hS7.sel [1,2,3] rfl,(h12.mono (iT im5 im6)),hn1⟩)))
  cases oI hm
  have hn1:_=Lp.brk _:=hn1
  subst hn1
  have hm:=F1 hq1
  refine xt (V9 (V9 (L5 (Q0 ?_))))
  refine sq2 (rg (pv (N2 rfl) (pv (P8 rfl) (nil (Q0 ?_)))))
  cases oI hm
  exact rtn (U2 rfl rfl ⟨_,rfl,_,(iT im1 (iT im2 im3)),⟨_,_,_,_,_,rfl,hS4.sel [1,2,0] rfl,h4,qZt⟩⟩)
theorem sp2 : ∀ n,Sp2 (Q4k n)
  | 0=>⟨(by unfold Q0i; intros; rename_i h; cases (show (none:Option _)=some _ from h)),(by unfold W2; intros; rename_i h; cases (show (none:Option _)=some _ from h)),(by unfold Q0f; intros; rename_i h; cases (show (none:Option _)=some _ from h)),(by unfold W3; intros; rename_i h; cases (show (none:Option _)=some _ from h))⟩
  | n+1=>⟨Q7v (sp2 n),Q6q (sp2 n),Q7s (sp2 n),Q6r (sp2 n)⟩
theorem Z4j:Q0i U9:=(sp2 NN).U9
theorem Z4b:W2 B8:=(sp2 NN).B8
theorem Z4g:Q0f J3:=(sp2 NN).J3
theorem O8:W3 F0:=(sp2 NN).F0

theorem Q2f {p0:Q1} {X4 X2:Nat} {Q2:List Value→J7} {a1:OA} {c1:Nat} {p1:K4} {b_p1 o_p1:Nat} {Q7y:List Value→J7} {a2:OA} {n1:Nat} {c2:Nat} {a3:OA} {n2:Nat} {c3:Nat} {a4:OA} {n3:Nat} {c4:Nat} {r:Except (Q8×Q1×K4) (Q1×K4)} (hS:Sep g T0 w0 [R,Q2 [sv a1 p0.l c1,iv p0.end_.Line,iv p0.end_.Col,iv p0.depth],Q7y [.slice a2 n1 c2,.slice a3 n2 c3,.slice a4 n3 c4],G3 D3 51 (.slice a2 n1 c2) p1.Structs,G3 G7 58 (.slice a3 n2 c3) p1.Globals,G3 A1 64 (.slice a4 n3 c4) p1.Funcs]) (Q3:Ln X4 X2 Q2) (h1:SlR Y3 T0 w0 (sv a1 p0.l c1) p0.l) (Q0y:Ln b_p1 o_p1 Q7y) (hm:I8 p0 p1=some r) :
    Calls Tryz.prog 31 #[pt X4 X2,pt b_p1 o_p1] w0 (exR r (fun r=>E6 T0 w0 fun T w v => ∃(a63:OA) (c63:Nat) (a64:OA) (n21:Nat) (c64:Nat) (a65:OA) (n22:Nat) (c65:Nat) (a66:OA) (n23:Nat) (c66:Nat),v = .tuple #[]∧Sep g T w [R,Q2 [sv a63 r.1.l c63,iv r.1.end_.Line,iv r.1.end_.Col,iv r.1.depth],Q7y [.slice a64 n21 c64,.slice a65 n22 c65,.slice a66 n23 c66],G3 D3 51 (.slice a64 n21 c64) r.2.Structs,G3 G7 58 (.slice a65 n22 c65) r.2.Globals,G3 A1 64 (.slice a66 n23 c66) r.2.Funcs]∧SlR Y3 T w (sv a63 r.1.l c63) r.1.l∧True) (fun r=>Q2x T0 w0 fun T w v => ∃(a63:OA) (c63:Nat) (a64:OA) (n21:Nat) (c64:Nat) (a65:OA) (n22:Nat) (c65:Nat) (a66:OA) (n23:Nat) (c66:Nat),v = .iface 48 (.agg (K6 r.1).toArray)∧Sep g T w [R,Q2 [sv a63 r.2.1.l c63,iv r.2.1.end_.Line,iv r.2.1.end_.Col,iv r.2.1.depth],Q7y [.slice a64 n21 c64,.slice a65 n22 c65,.slice a66 n23 c66],G3 D3 51 (.slice a64 n21 c64) r.2.2.Structs,G3 G7 58 (.slice a65 n22 c65) r.2.2.Globals,G3 A1 64 (.slice a66 n23 c66) r.2.2.Funcs]∧SlR Y3 T w (sv a63 r.2.1.l c63) r.2.1.l∧True)):=by
  refine enter (args := [pt X4 X2,pt b_p1 o_p1]) Tryz.func31 rfl Tryz.ntmps31 rfl fun J => ?_
  unfold I8 at hm
  refine sq2 ?_
  obtain⟨y1,hx1,hm⟩:=Q4 hm
  refine rg (pv (Z9 rfl) (wl rfl (Z7 cf59 rfl (B0 (p0:=p0) (Q2:=Q2) (hS.bun [0,2,3,4,5] [1] rfl) Q3 h1 hx1) rfl fun v1 T1 w1 im1 rv1 => ?_)))
  obtain⟨rfl,hS1,_⟩:=rv1
  have hS1:=hS1.unb
  refine wl rfl (alS (zs := [iv 0,iv 0]) zeroValue29 rfl hS1 fun w2 b1 im2 hS2 => ?_)
  refine wl rfl (X6 (q:=0) hS2 ⟨rfl,rfl⟩ rfl rfl rfl sizeOf29 rfl rfl rfl fun w3 im3 hS3 => ?_)
  refine nil (Q0 ?_)
  refine sq2 (sq2 ?_)
  obtain⟨y2,hx2,hm⟩:=Q4 hm
  refine rg (pv (Z9 rfl) (wl rfl (Z7 Q8q rfl (G0 (p0:=p0) (Q2:=Q2) (p1 := [115,116,114,117,99,116]) (hS3.bun [0,1,2,3,4,5] [6] rfl) Q3 (h1.mono (iT im1 (iT im2 im3))) hx2) rfl fun v2 T2 w4 im4 rv2 => ?_)))
  obtain⟨rfl,hS4,_⟩:=rv2
  have hS4:=hS4.unb
  refine pv (Y7 rfl) (?_)
  rcases Bool.eq_false_or_eq_true y2 with hb1 | hb1
  · have hm:=V8 hb1 hm
    obtain⟨y3,hx3,hm⟩:=Q4 hm
    refine gT (d0:=13) rfl rfl hb1 (pv (Z9 rfl) (gT (d0:=13) rfl rfl hb1 (wl rfl (Z7 cf61 rfl (Q1a (p0:=p0) (Q2:=Q2) (p1:=2) (p2 := [123]) (hS4.bun [0,1,2,3,4,5] [6] rfl) Q3 (h1.mono (iT im1 (iT im2 (iT im3 im4)))) hx3) rfl fun v3 T3 w5 im5 rv3 => ?_))))
    obtain⟨rfl,hS5,_⟩:=rv3
    have hS5:=hS5.unb
    refine pv (Y1 rfl hb1 rfl) (nil (Q0 ?_))
    refine V3 rfl hm (fun hb2 hm => ?_) fun hb2 hm => ?_
    · refine sq2 (rg (pv (Z9 rfl) (?_)))
      obtain⟨y4,hx4,hm⟩:=Q4 hm
      rcases y4 with e3 | y4
      · have hm:=Z3 hm
        refine wl rfl (G8 A3 rfl (Q9 (p0:=p0) (Q2:=Q2) (p1 := [115,116,114,117,99,116]) (hS5.bun [0,1,2,3,4,5] [6] rfl) Q3 (h1.mono (iT im1 (iT im2 (iT im3 (iT im4 im5))))) hx4) rfl fun v10 T12 w21 im22 rv10 => ?_)
        obtain⟨a16,c16,rfl,hS22,h11,_⟩:=rv10
        have hS22:=hS22.unb
        cases oI hm
        exact Z8 (Z8 (P3 ⟨_,rfl,_,(iT im1 (iT im2 (iT im3 (iT im4 (iT im5 im22))))),⟨_,_,_,_,_,_,_,_,_,_,_,rfl,hS22.sel [1,6,2,3,4,5] rfl,h11,qZt⟩⟩))
      have hm:=V1 hm
      refine wl rfl (Z7 A3 rfl (Q9 (p0:=p0) (Q2:=Q2) (p1 := [115,116,114,117,99,116]) (hS5.bun [0,1,2,3,4,5] [6] rfl) Q3 (h1.mono (iT im1 (iT im2 (iT im3 (iT im4 im5))))) hx4) rfl fun v4 T4 w6 im6 rv4 => ?_)
      obtain⟨a5,c5,rfl,hS6,h2,_⟩:=rv4
      have hS6:=hS6.unb
      refine nil (Q0 ?_)
      obtain⟨kk1,hkk1,hm⟩:=F6 hm
      refine cut (fun a w7 => ∃(J:JV) (T5:TP) (x1:Q1) (a6:OA) (c6:Nat) (b2:Nat) (x2:F7) (a7:OA) (c7:Nat),a=env (nf 77) J [(0,pt X4 X2),(1,pt b_p1 o_p1),(5,pt b2 0)]∧Im T4 w6 T5 w7∧Sep g T5 w7 [R,Q7y [.slice a2 n1 c2,.slice a3 n2 c3,.slice a4 n3 c4],G3 D3 51 (.slice a2 n1 c2) p1.Structs,G3 G7 58 (.slice a3 n2 c3) p1.Globals,G3 A1 64 (.slice a4 n3 c4) p1.Funcs,Q2 [sv a6 x1.l c6,iv x1.end_.Line,iv x1.end_.Col,iv x1.depth],J6 b2 (D8 x2 a7 c7)]∧SlR Y3 T5 w7 (sv a6 x1.l c6) x1.l∧SlR G7 T5 w7 (sv a7 x2.Fields c7) x2.Fields∧kk1 x1 x2=some r) ?_ ?_
      · refine rtP [1,0,2,0,2,2] [0,1,2,3,4,5] mix (by kernel_rfl) hS6.lt (A4 (A4 (Q1y))) fun w8 i1 => ?_
        have im8:=i1.imm
        have hS7:=hS6.keep i1 (fun _ h=>h)
        refine t1 rfl qZt (Z5 rfl isAgg29 sizeOf29 rfl (hS7.cells0 (i:=0) ⟨rfl,rfl⟩ (o:=0) rfl) (cs := [iv y1.Line,iv y1.Col])) rfl (t0 rfl qZt (fun _=>Z9 rfl) rfl (?_))
        obtain⟨y5,hx5,hm⟩:=Q4 hm
        rcases y5 with e1 | y5
        · have hm:=Z3 hm
          refine tw [2,4] rfl (F5 rfl rfl qZt) rfl (by kernel_rfl) (by kernel_rfl) ⟨br [3,4,5] [(0,.agg #[iv y1.Line,iv y1.Col])] rfl (by kernel_rfl) (by kernel_rfl) qZt (by kernel_rfl) (G8 Q4s rfl (V6 (p0:=y4) (Q2:=Q2) (hS7.bun [1,2,3,4,5,0] [6] rfl) Q3 (h2.mono im8) hx5) rfl fun v7 T8 w13 im13 rv7 => ?_),br [2,3,5] [(0,.agg #[iv y1.Line,iv y1.Col])] rfl (by kernel_rfl) (by kernel_rfl) qZt (by kernel_rfl) (alS (zs := [iv 0,iv 0,qZs [],.slice none 0 0]) zeroValue51 rfl hS7 fun w12 b4 im12 hS11 => ?_),qZt⟩
          · obtain⟨a10,c10,rfl,hS12,h7,_⟩:=rv7
            have hS12:=hS12.unb
            cases oI hm
            exact Z8 (Z8 (P3 ⟨_,rfl,_,(iT im1 (iT im2 (iT im3 (iT im4 (iT im5 (iT im6 (iT im8 im13))))))),⟨_,_,_,_,_,_,_,_,_,_,_,rfl,hS12.sel [0,6,1,2,3,4] rfl,h7,qZt⟩⟩))
          refine⟨st1 rfl (Z5 rfl isAgg29 sizeOf29 rfl (hS11.cells0 (i:=1) ⟨rfl,rfl⟩ (o:=0) rfl) (cs := [iv y1.Line,iv y1.Col])) (st0),?_⟩
          refine tw [2] rfl (F5 rfl rfl qZt) rfl (by kernel_rfl) (by kernel_rfl) ⟨br [3,5] [(0,.agg #[iv y1.Line,iv y1.Col])] rfl (by kernel_rfl) (by kernel_rfl) qZt (by kernel_rfl) (G8 Q4s rfl (V6 (p0:=y4) (Q2:=Q2) (hS11.bun [0,2,3,4,5,6,1] [7] rfl) Q3 (h2.mono (iT im8 im12)) hx5) rfl fun v7 T8 w14 im14 rv7 => ?_),qZt⟩
          obtain⟨a10,c10,rfl,hS13,h7,_⟩:=rv7
          have hS13:=hS13.unb
          cases oI hm
          exact Z8 (Z8 (P3 ⟨_,rfl,_,(iT im1 (iT im2 (iT im3 (iT im4 (iT im5 (iT im6 (iT im8 (iT im12 im14)))))))),⟨_,_,_,_,_,_,_,_,_,_,_,rfl,hS13.sel [1,7,2,3,4,5] rfl,h7,qZt⟩⟩))
        have hm:=V1 hm
        refine tw [2,4] rfl (F5 rfl rfl qZt) rfl (by kernel_rfl) (by kernel_rfl) ⟨br [3,4,5] [(0,.agg #[iv y1.Line,iv y1.Col])] rfl (by kernel_rfl) (by kernel_rfl) qZt (by kernel_rfl) (Z7 Q4s rfl (V6 (p0:=y4) (Q2:=Q2) (hS7.bun [1,2,3,4,5,0] [6] rfl) Q3 (h2.mono im8) hx5) rfl fun v5 T6 w9 im9 rv5 => ?_),br [2,3,5] [(0,.agg #[iv y1.Line,iv y1.Col])] rfl (by kernel_rfl) (by kernel_rfl) qZt (by kernel_rfl) (alS (zs := [iv 0,iv 0,qZs [],.slice none 0 0]) zeroValue51 rfl hS7 fun w9 b3 im9 hS8 => ?_),qZt⟩
        · obtain⟨a8,c8,rfl,hS8,h5,_⟩:=rv5
          have hS8:=hS8.unb
          refine⟨st1 rfl (Z5 rfl isAgg29 sizeOf29 rfl (hS8.cells0 (i:=5) ⟨rfl,rfl⟩ (o:=0) rfl) (cs := [iv y1.Line,iv y1.Col])) (st0),?_⟩
          refine t0 rfl qZt (fun _=>A8 (by kernel_rfl) rfl (u := .agg #[iv y1.Line,iv y1.Col,qZs y5.1,.slice none 0 0])) rfl (tw [4] rfl (F5 rfl rfl qZt) rfl (by kernel_rfl) (by kernel_rfl) ⟨br [5] [(0,.agg #[iv y1.Line,iv y1.Col])] rfl (by kernel_rfl) (by kernel_rfl) qZt (by kernel_rfl) (alS (zs := [iv 0,iv 0,qZs [],.slice none 0 0]) zeroValue51 rfl hS8 fun w10 b3 im10 hS9 => ?_),qZt⟩)
          refine⟨st1 rfl (Z5 rfl isAgg29 sizeOf29 rfl (hS9.cells0 (i:=6) ⟨rfl,rfl⟩ (o:=0) rfl) (cs := [iv y1.Line,iv y1.Col])) (st0),?_⟩
          refine tw [5] rfl (F5 rfl rfl qZt) rfl (by kernel_rfl) (by kernel_rfl) ⟨br [] [] rfl (by kernel_rfl) (by kernel_rfl) qZt (by kernel_rfl) (X6 (q:=0) hS9 ⟨rfl,rfl⟩ rfl rfl rfl sizeOf51 rfl rfl rfl fun w11 im11 hS10 => ?_),qZt⟩
          refine⟨st0,?_⟩
          exact teP (Q0 ⟨_,_,y5.2,_,_,_,(⟨y1,y5.1,[]⟩:F7),_,_,Q7 ⟨rfl,rfl,rfl,qZt⟩,(iT im8 (iT im9 (iT im10 im11))),hS10.sel [1,2,3,4,5,7,0] rfl,(h5.mono (iT im10 im11)),V2,hm⟩)
        refine⟨st1 rfl (Z5 rfl isAgg29 sizeOf29 rfl (hS8.cells0 (i:=1) ⟨rfl,rfl⟩ (o:=0) rfl) (cs := [iv y1.Line,iv y1.Col])) (st0),?_⟩
        refine tw [2] rfl (F5 rfl rfl qZt) rfl (by kernel_rfl) (by kernel_rfl) ⟨br [3,5] [(0,.agg #[iv y1.Line,iv y1.Col])] rfl (by kernel_rfl) (by kernel_rfl) qZt (by kernel_rfl) (Z7 Q4s rfl (V6 (p0:=y4) (Q2:=Q2) (hS8.bun [0,2,3,4,5,6,1] [7] rfl) Q3 (h2.mono (iT im8 im9)) hx5) rfl fun v5 T6 w10 im10 rv5 => ?_),qZt⟩
        obtain⟨a8,c8,rfl,hS9,h5,_⟩:=rv5
        have hS9:=hS9.unb
        refine⟨st1 rfl (Z5 rfl isAgg29 sizeOf29 rfl (hS9.cells0 (i:=6) ⟨rfl,rfl⟩ (o:=0) rfl) (cs := [iv y1.Line,iv y1.Col])) (st0),?_⟩
        refine t0 rfl qZt (fun _=>A8 (by kernel_rfl) rfl (u := .agg #[iv y1.Line,iv y1.Col,qZs y5.1,.slice none 0 0])) rfl (tw [5] rfl (F5 rfl rfl qZt) rfl (by kernel_rfl) (by kernel_rfl) ⟨br [] [] rfl (by kernel_rfl) (by kernel_rfl) qZt (by kernel_rfl) (X6 (q:=0) hS9 ⟨rfl,rfl⟩ rfl rfl rfl sizeOf51 rfl rfl rfl fun w11 im11 hS10 => ?_),qZt⟩)
        refine⟨st0,?_⟩
        exact teP (Q0 ⟨_,_,y5.2,_,_,_,(⟨y1,y5.1,[]⟩:F7),_,_,Q7 ⟨rfl,rfl,rfl,qZt⟩,(iT im8 (iT im9 (iT im10 im11))),hS10.sel [1,2,3,4,5,7,0] rfl,(h5.mono im11),V2,hm⟩)
      rintro _ w7 ⟨J,T5,x1,a6,c6,b2,x2,a7,c7,rfl,im7,hS13,h3,h4,hm⟩
      rw [hkk1] at hm
      refine sq2 (rg (pv (Z9 rfl) (?_)))
      obtain⟨y6,hx6,hm⟩:=Q4 hm
      rcases y6 with e2 | y6
      · have hm:=Z3 hm
        refine wl rfl (G8 cf64 rfl (Q1w (p0:=x1) (Q2:=Q2) (hS13.bun [0,1,2,3,4,6] [5] rfl) Q3 h3 hx6) rfl fun v9 T11 w20 im21 rv9 => ?_)
        obtain⟨a15,c15,rfl,hS21,h10,_⟩:=rv9
        have hS21:=hS21.unb
        cases oI hm
        exact Z8 (Z8 (P3 ⟨_,rfl,_,(iT im1 (iT im2 (iT im3 (iT im4 (iT im5 (iT im6 (iT im7 im21))))))),⟨_,_,_,_,_,_,_,_,_,_,_,rfl,hS21.sel [0,6,1,2,3,4] rfl,h10,qZt⟩⟩))
      have hm:=V1 hm
      refine wl rfl (Z7 cf64 rfl (Q1w (p0:=x1) (Q2:=Q2) (hS13.bun [0,1,2,3,4,6] [5] rfl) Q3 h3 hx6) rfl fun v8 T9 w14 im14 rv8 => ?_)
      obtain⟨a11,n4,c11,a12,c12,rfl,hS14,h8,_⟩:=rv8
      have hS14:=hS14.unb
      refine pv (Z1 rfl underlying51 rfl sizeOf24 rfl) (wl rfl (X6 (q:=5) hS14 ⟨rfl,rfl⟩ rfl rfl rfl sizeOf24 rfl rfl rfl fun w15 im15 hS15 => ?_))
      refine nil (Q0 ?_)
      refine sq2 (rs [0,0,0,0,1,1,2,2,0,0,2] [0,1,2,3,4,5,6,7,8,9,10] mix (by kernel_rfl) hS15.lt fun w16 i2 => ?_)
      have im16:=i2.imm
      have hS16:=hS15.keep i2 (fun _ h=>h)
      refine s0 rfl qZt (fun _=>Z9 rfl) rfl (s0 rfl qZt (fun _=>Z9 rfl) rfl (s0 rfl qZt (fun _=>J1 rfl) rfl (s0 rfl qZt (fun _=>Z1 rfl underlying27 rfl sizeOf23 rfl) rfl (s1 rfl qZt (Z4 rfl isAgg23 (hS16.cellB (i:=1) ⟨rfl,rfl⟩ Q0y (j:=0) rfl)) rfl (s1 rfl qZt (Z5 rfl isAgg51 sizeOf51 rfl (hS16.cells0 (i:=5) ⟨rfl,rfl⟩ (o:=0) rfl) (cs := [iv x2.Pos.Line,iv x2.Pos.Col,qZs x2.Name,.slice a11 n4 c11])) rfl (?_))))))
      obtain⟨T10,im17,hS17,h9⟩:=hS16.seal 7 ⟨rfl,rfl⟩
      have hsh:=h9.len
      subst hsh
      refine s2 [(4,.slice a2 n1 c2)] rfl qZt rfl (by kernel_rfl) (bsS (r:=D3) (l:=([{x2 with Fields:=y6.1}]:List F7)) (css := [[iv x2.Pos.Line,iv x2.Pos.Col,qZs x2.Name,sv a11 y6.1 c11]]) hS17 underlying23 sizeOf51 zeroValue51 rfl rfl (by kernel_rfl) rfl ⟨(Z0l (x := {x2 with Fields:=y6.1}) h9:D3.rp _ _ _ _),qZt⟩ rfl rfl fun w17 a13 n5 c13 im18 hS18 => ?_)
      refine⟨st1 rfl (Z4 rfl isAgg23 (hS18.cellB (i:=2) ⟨rfl,rfl⟩ Q0y (j:=0) rfl)) (st0),?_⟩
      obtain⟨z_1,hro1,hm⟩:=Q4 hm
      refine s2 [] rfl qZt rfl (by kernel_rfl) (apO (q:=3) (l:=p1.Structs) (us:=([{x2 with Fields:=y6.1}]:List F7)) hS18 ⟨rfl,rfl⟩ rfl rfl (hS18.own (i:=0) ⟨rfl,rfl⟩).v underlying23 el51 (D5 hro1) fun w18 a14 n6 c14 im19 hS19 => ?_)
      refine⟨st0,?_⟩
      refine s0 rfl qZt (fun _=>J1 rfl) rfl (s0 rfl qZt (fun _=>Z1 rfl underlying27 rfl sizeOf23 rfl) rfl (s2 [] rfl qZt rfl (by kernel_rfl) (stB (q:=2) (j:=0) hS19 ⟨rfl,rfl⟩ Q0y rfl rfl rfl sizeOf23 rfl rfl rfl fun w19 im20 hS20 => ?_)))
      refine⟨st0,?_⟩
      refine se (Q0 ?_)
      cases oI hm
      exact rtn (Q6 (ret0 rfl ⟨_,rfl,_,(iT im1 (iT im2 (iT im3 (iT im4 (iT im5 (iT im6 (iT im7 (iT im14 (iT im15 (iT im16 (iT im17 (iT im18 (iT im19 im20))))))))))))),⟨_,_,_,_,_,_,_,_,_,_,_,rfl,hS20.sel [1,7,2,3,4,5] rfl,(h8.mono (iT im15 (iT im16 (iT im17 (iT im18 (iT im19 im20)))))),qZt⟩⟩))
    refine skp (Q0 ?_)
    refine sq2 (rg (pv (Z9 rfl) (?_)))
    obtain⟨y7,hx7,hm⟩:=Q4 hm
    rcases y7 with e8 | y7
    · have hm:=Z3 hm
      refine wl rfl (G8 Q9l rfl (K0 (p0:=p0) (Q2:=Q2) (hS5.bun [0,1,2,3,4,5] [6] rfl) Q3 (h1.mono (iT im1 (iT im2 (iT im3 (iT im4 im5))))) hx7) rfl fun v22 T27 w48 im51 rv22 => ?_)
      obtain⟨a39,c39,rfl,hS51,h29,_⟩:=rv22
      have hS51:=hS51.unb
      cases oI hm
      exact Z8 (P3 ⟨_,rfl,_,(iT im1 (iT im2 (iT im3 (iT im4 (iT im5 im51))))),⟨_,_,_,_,_,_,_,_,_,_,_,rfl,hS51.sel [1,6,2,3,4,5] rfl,h29,qZt⟩⟩)
    have hm:=V1 hm
    refine wl rfl (Z7 Q9l rfl (K0 (p0:=p0) (Q2:=Q2) (hS5.bun [0,1,2,3,4,5] [6] rfl) Q3 (h1.mono (iT im1 (iT im2 (iT im3 (iT im4 im5))))) hx7) rfl fun v11 T13 w22 im23 rv11 => ?_)
    obtain⟨a17,c17,rfl,hS23,h12,_⟩:=rv11
    have hS23:=hS23.unb
    refine wl rfl (alS (zs := [qZs [],qZs [],iv 0]) zeroValue54 rfl hS23 fun w23 b4 im24 hS24 => ?_)
    refine wl rfl (X6 (q:=0) hS24 ⟨rfl,rfl⟩ rfl rfl rfl sizeOf54 rfl rfl rfl fun w24 im25 hS25 => ?_)
    refine nil (Q0 ?_)
    refine sq2 (rg (pv (Z9 rfl) (?_)))
    obtain⟨y8,hx8,hm⟩:=Q4 hm
    rcases y8 with e7 | y8
    · have hm:=Z3 hm
      refine wl rfl (G8 Q4s rfl (V6 (p0:=y7.2) (Q2:=Q2) (hS25.bun [0,1,2,3,4,5,6] [7] rfl) Q3 (h12.mono (iT im24 im25)) hx8) rfl fun v21 T26 w47 im50 rv21 => ?_)
      obtain⟨a38,c38,rfl,hS50,h28,_⟩:=rv21
      have hS50:=hS50.unb
      cases oI hm
      exact Z8 (P3 ⟨_,rfl,_,(iT im1 (iT im2 (iT im3 (iT im4 (iT im5 (iT im23 (iT im24 (iT im25 im50)))))))),⟨_,_,_,_,_,_,_,_,_,_,_,rfl,hS50.sel [2,7,3,4,5,6] rfl,h28,qZt⟩⟩)
    have hm:=V1 hm
    refine wl rfl (Z7 Q4s rfl (V6 (p0:=y7.2) (Q2:=Q2) (hS25.bun [0,1,2,3,4,5,6] [7] rfl) Q3 (h12.mono (iT im24 im25)) hx8) rfl fun v12 T14 w25 im26 rv12 => ?_)
    obtain⟨a18,c18,rfl,hS26,h13,_⟩:=rv12
    have hS26:=hS26.unb
    refine pv (Q5r rfl) (nil (Q0 ?_))
    refine sq2 (sq2 ?_)
    obtain⟨y9,hx9,hm⟩:=Q4 hm
    refine rg (pv (Z9 rfl) (wl rfl (Z7 Q8q rfl (G0 (p0:=y8.2) (Q2:=Q2) (p1 := [40]) (hS26.bun [0,1,2,3,4,5,6] [7] rfl) Q3 h13 hx9) rfl fun v13 T15 w26 im27 rv13 => ?_)))
    obtain⟨rfl,hS27,_⟩:=rv13
    have hS27:=hS27.unb
    refine pv (L7 rfl) (nil (Q0 ?_))
    refine V3 rfl hm (fun hb3 hm => ?_) fun hb3 hm => ?_
    · refine sq2 (rsP [0,0,0,0,1,0,1,1,0,0,2,2,2,0,0,2] [0,1,2,3,4,5,6,7,8,9,10,11,12,13,14,15] mix (by kernel_rfl) hS27.lt (A4 (A4 (Q1y))) fun w27 i3 => ?_)
      have im28:=i3.imm
      have hS28:=hS27.keep i3 (fun _ h=>h)
      refine s0 rfl qZt (fun _=>Z9 rfl) rfl (s0 rfl qZt (fun _=>Z9 rfl) rfl (s0 rfl qZt (fun _=>J1 rfl) rfl (s0 rfl qZt (fun _=>Z1 rfl underlying27 rfl sizeOf24 rfl) rfl (s1 rfl qZt (Z4 rfl isAgg24 (hS28.cellB (i:=3) ⟨rfl,rfl⟩ Q0y (j:=1) rfl)) rfl (s0 rfl qZt (fun _=>Z9 rfl) rfl (s1 rfl qZt (Z5 rfl isAgg29 sizeOf29 rfl (hS28.cells0 (i:=1) ⟨rfl,rfl⟩ (o:=0) rfl) (cs := [iv y1.Line,iv y1.Col])) rfl (s1 rfl qZt (Z5 rfl isAgg54 sizeOf54 rfl (hS28.cells0 (i:=0) ⟨rfl,rfl⟩ (o:=0) rfl) (cs:=(U3 y7.1))) rfl (s0 rfl qZt (fun _=>P2 rfl) rfl (s0 rfl qZt (fun _=>A8 (by kernel_rfl) rfl (u := .agg #[iv y1.Line,iv y1.Col,qZs y7.1.Word,qZs y7.1.Name,iv y7.1.Stars,qZs y8.1,.slice none 0 0,.slice none 0 0,.bool false])) rfl (?_))))))))))
      obtain⟨y10,hx10,hm⟩:=Q4 hm
      rcases y10 with e4 | y10
      · have hm:=Z3 hm
        refine s2 [(4,.slice a3 n2 c3)] rfl qZt rfl (by kernel_rfl) (G8 cf66 rfl (C9 (p0:=y8.2) (Q2:=Q2) (p1:=(⟨y1,y7.1,y8.1,[],[],false⟩:J8)) (hS28.bun [2,3,4,5,6,0,1] [7] rfl) Q3 (h13.mono (iT im27 im28)) V2 hx10) rfl fun v15 T17 w32 im33 rv15 => ?_)
        obtain⟨a24,c24,rfl,hS33,h17,_⟩:=rv15
        have hS33:=hS33.unb
        cases oI hm
        exact Z8 (Z8 (P3 ⟨_,rfl,_,(iT im1 (iT im2 (iT im3 (iT im4 (iT im5 (iT im23 (iT im24 (iT im25 (iT im26 (iT im27 (iT im28 im33))))))))))),⟨_,_,_,_,_,_,_,_,_,_,_,rfl,hS33.sel [0,7,1,2,3,4] rfl,h17,qZt⟩⟩))
      have hm:=V1 hm
      refine s2 [(4,.slice a3 n2 c3)] rfl qZt rfl (by kernel_rfl) (Z7 cf66 rfl (C9 (p0:=y8.2) (Q2:=Q2) (p1:=(⟨y1,y7.1,y8.1,[],[],false⟩:J8)) (hS28.bun [2,3,4,5,6,0,1] [7] rfl) Q3 (h13.mono (iT im27 im28)) V2 hx10) rfl fun v14 T16 w28 im29 rv14 => ?_)
      obtain⟨a19,c19,a20,c20,a21,c21,rfl,hS29,h14,h15,h16,_⟩:=rv14
      have hS29:=hS29.unb
      refine⟨st1 rfl (Z4 rfl isAgg24 (hS29.cellB (i:=1) ⟨rfl,rfl⟩ Q0y (j:=1) rfl)) (st0),?_⟩
      refine s2 [(4,.slice a3 n2 c3)] rfl qZt rfl (by kernel_rfl) (bsS (r:=G7) (l:=([y10.1]:List J8)) (css := [(N1 y10.1 a19 c19 a20 c20)]) hS29 underlying24 sizeOf58 zeroValue58 rfl rfl (by kernel_rfl) rfl ⟨(Q5h (x:=y10.1) h14 h15:G7.rp _ _ _ _),qZt⟩ rfl rfl fun w29 a22 n7 c22 im30 hS30 => ?_)
      refine⟨st1 rfl (Z4 rfl isAgg24 (hS30.cellB (i:=2) ⟨rfl,rfl⟩ Q0y (j:=1) rfl)) (st0),?_⟩
      obtain⟨z_2,hro2,hm⟩:=Q4 hm
      refine s2 [] rfl qZt rfl (by kernel_rfl) (apO (q:=4) (l:=p1.Globals) (us:=([y10.1]:List J8)) hS30 ⟨rfl,rfl⟩ rfl rfl (hS30.own (i:=0) ⟨rfl,rfl⟩).v underlying24 el58 (D5 hro2) fun w30 a23 n8 c23 im31 hS31 => ?_)
      refine⟨st0,?_⟩
      refine s0 rfl qZt (fun _=>J1 rfl) rfl (s0 rfl qZt (fun _=>Z1 rfl underlying27 rfl sizeOf24 rfl) rfl (s2 [] rfl qZt rfl (by kernel_rfl) (stB (q:=2) (j:=1) hS31 ⟨rfl,rfl⟩ Q0y rfl rfl rfl sizeOf24 rfl rfl rfl fun w31 im32 hS32 => ?_)))
      refine⟨st0,?_⟩
      refine seP (Y9 [] qZt fun J => ?_)
      cases oI hm
      exact rtn (Q6 (ret0 rfl ⟨_,rfl,_,(iT im1 (iT im2 (iT im3 (iT im4 (iT im5 (iT im23 (iT im24 (iT im25 (iT im26 (iT im27 (iT im28 (iT im29 (iT im30 (iT im31 im32)))))))))))))),⟨_,_,_,_,_,_,_,_,_,_,_,rfl,hS32.sel [1,8,2,3,4,5] rfl,(h16.mono (iT im30 (iT im31 im32))),qZt⟩⟩))
    refine skp (Q0 ?_)
    obtain⟨kk2,hkk2,hm⟩:=F6 hm
    refine cut (fun a w33 => ∃(J:JV) (T18:TP) (x3:Q1) (a25:OA) (c25:Nat) (b5:Nat) (x4:P4) (a26:OA) (c26:Nat) (a27:OA) (c27:Nat),a=env (nf 77) J [(0,pt X4 X2),(1,pt b_p1 o_p1),(8,pt b5 0)]∧Im T15 w26 T18 w33∧Sep g T18 w33 [R,Q7y [.slice a2 n1 c2,.slice a3 n2 c3,.slice a4 n3 c4],G3 D3 51 (.slice a2 n1 c2) p1.Structs,G3 G7 58 (.slice a3 n2 c3) p1.Globals,G3 A1 64 (.slice a4 n3 c4) p1.Funcs,Q2 [sv a25 x3.l c25,iv x3.end_.Line,iv x3.end_.Col,iv x3.depth],J6 b5 (A2 x4 a26 c26 a27 c27)]∧SlR Y3 T18 w33 (sv a25 x3.l c25) x3.l∧SlR G7 T18 w33 (sv a26 x4.Params c26) x4.Params∧SlR E1 T18 w33 (sv a27 x4.Body c27) x4.Body∧kk2 x3 x4=some r) ?_ ?_
    · refine rtP [1,1,0,0,2,0,2,2] [0,1,2,3,4,5,6,7] mix (by kernel_rfl) hS27.lt (A4 (Q1y)) fun w34 i4 => ?_
      have im35:=i4.imm
      have hS34:=hS27.keep i4 (fun _ h=>h)
      refine t1 rfl qZt (Z5 rfl isAgg29 sizeOf29 rfl (hS34.cells0 (i:=1) ⟨rfl,rfl⟩ (o:=0) rfl) (cs := [iv y1.Line,iv y1.Col])) rfl (t1 rfl qZt (Z5 rfl isAgg54 sizeOf54 rfl (hS34.cells0 (i:=0) ⟨rfl,rfl⟩ (o:=0) rfl) (cs:=(U3 y7.1))) rfl (t0 rfl qZt (fun _=>P2 rfl) rfl (t0 rfl qZt (fun _=>Z9 rfl) rfl (?_))))
      obtain⟨y11,hx11,hm⟩:=Q4 hm
      rcases y11 with e5 | y11
      · have hm:=Z3 hm
        refine tw [4,6] rfl (F5 rfl rfl qZt) rfl (by kernel_rfl) (by kernel_rfl) ⟨br [5,6,7] [(1,.agg (U3 y7.1).toArray),(0,.agg #[iv y1.Line,iv y1.Col])] rfl (by kernel_rfl) (by kernel_rfl) qZt (by kernel_rfl) (G8 cf67 rfl (B6 (p0:=y8.2) (Q2:=Q2) (hS34.bun [2,3,4,5,6,0,1] [7] rfl) Q3 (h13.mono (iT im27 im35)) hx11) rfl fun v18 T22 w39 im41 rv18 => ?_),br [4,5,7] [(1,.agg (U3 y7.1).toArray),(0,.agg #[iv y1.Line,iv y1.Col])] rfl (by kernel_rfl) (by kernel_rfl) qZt (by kernel_rfl) (alS (zs := [iv 0,iv 0,qZs [],qZs [],iv 0,qZs [],.slice none 0 0,.slice none 0 0]) zeroValue64 rfl hS34 fun w38 b7 im40 hS39 => ?_),qZt⟩
        · obtain⟨a32,c32,rfl,hS40,h24,_⟩:=rv18
          have hS40:=hS40.unb
          cases oI hm
          exact Z8 (P3 ⟨_,rfl,_,(iT im1 (iT im2 (iT im3 (iT im4 (iT im5 (iT im23 (iT im24 (iT im25 (iT im26 (iT im27 (iT im35 im41))))))))))),⟨_,_,_,_,_,_,_,_,_,_,_,rfl,hS40.sel [0,7,1,2,3,4] rfl,h24,qZt⟩⟩)
        refine⟨st1 rfl (Z5 rfl isAgg54 sizeOf54 rfl (hS39.cells0 (i:=1) ⟨rfl,rfl⟩ (o:=0) rfl) (cs:=(U3 y7.1))) (st1 rfl (Z5 rfl isAgg29 sizeOf29 rfl (hS39.cells0 (i:=2) ⟨rfl,rfl⟩ (o:=0) rfl) (cs := [iv y1.Line,iv y1.Col])) (st0)),?_⟩
        refine tw [4] rfl (F5 rfl rfl qZt) rfl (by kernel_rfl) (by kernel_rfl) ⟨br [5,7] [(1,.agg (U3 y7.1).toArray),(0,.agg #[iv y1.Line,iv y1.Col])] rfl (by kernel_rfl) (by kernel_rfl) qZt (by kernel_rfl) (G8 cf67 rfl (B6 (p0:=y8.2) (Q2:=Q2) (hS39.bun [0,3,4,5,6,7,1,2] [8] rfl) Q3 (h13.mono (iT im27 (iT im35 im40))) hx11) rfl fun v18 T22 w40 im42 rv18 => ?_),qZt⟩
        obtain⟨a32,c32,rfl,hS41,h24,_⟩:=rv18
        have hS41:=hS41.unb
        cases oI hm
        exact Z8 (P3 ⟨_,rfl,_,(iT im1 (iT im2 (iT im3 (iT im4 (iT im5 (iT im23 (iT im24 (iT im25 (iT im26 (iT im27 (iT im35 (iT im40 im42)))))))))))),⟨_,_,_,_,_,_,_,_,_,_,_,rfl,hS41.sel [1,8,2,3,4,5] rfl,h24,qZt⟩⟩)
      have hm:=V1 hm
      refine tw [4,6] rfl (F5 rfl rfl qZt) rfl (by kernel_rfl) (by kernel_rfl) ⟨br [5,6,7] [(1,.agg (U3 y7.1).toArray),(0,.agg #[iv y1.Line,iv y1.Col])] rfl (by kernel_rfl) (by kernel_rfl) qZt (by kernel_rfl) (Z7 cf67 rfl (B6 (p0:=y8.2) (Q2:=Q2) (hS34.bun [2,3,4,5,6,0,1] [7] rfl) Q3 (h13.mono (iT im27 im35)) hx11) rfl fun v16 T19 w35 im36 rv16 => ?_),br [4,5,7] [(1,.agg (U3 y7.1).toArray),(0,.agg #[iv y1.Line,iv y1.Col])] rfl (by kernel_rfl) (by kernel_rfl) qZt (by kernel_rfl) (alS (zs := [iv 0,iv 0,qZs [],qZs [],iv 0,qZs [],.slice none 0 0,.slice none 0 0]) zeroValue64 rfl hS34 fun w35 b6 im36 hS35 => ?_),qZt⟩
      · obtain⟨a28,n9,c28,a29,c29,rfl,hS35,h21,_⟩:=rv16
        have hS35:=hS35.unb
        refine⟨st1 rfl (Z5 rfl isAgg54 sizeOf54 rfl (hS35.cells0 (i:=5) ⟨rfl,rfl⟩ (o:=0) rfl) (cs:=(U3 y7.1))) (st1 rfl (Z5 rfl isAgg29 sizeOf29 rfl (hS35.cells0 (i:=6) ⟨rfl,rfl⟩ (o:=0) rfl) (cs := [iv y1.Line,iv y1.Col])) (st0)),?_⟩
        refine t0 rfl qZt (fun _=>A8 (by kernel_rfl) rfl (u := .agg #[iv y1.Line,iv y1.Col,qZs y7.1.Word,qZs y7.1.Name,iv y7.1.Stars,qZs y8.1,.slice a28 n9 c28,.slice none 0 0])) rfl (tw [6] rfl (F5 rfl rfl qZt) rfl (by kernel_rfl) (by kernel_rfl) ⟨br [7] [(1,.agg (U3 y7.1).toArray),(0,.agg #[iv y1.Line,iv y1.Col])] rfl (by kernel_rfl) (by kernel_rfl) qZt (by kernel_rfl) (alS (zs := [iv 0,iv 0,qZs [],qZs [],iv 0,qZs [],.slice none 0 0,.slice none 0 0]) zeroValue64 rfl hS35 fun w36 b6 im37 hS36 => ?_),qZt⟩)
        refine⟨st1 rfl (Z5 rfl isAgg54 sizeOf54 rfl (hS36.cells0 (i:=6) ⟨rfl,rfl⟩ (o:=0) rfl) (cs:=(U3 y7.1))) (st1 rfl (Z5 rfl isAgg29 sizeOf29 rfl (hS36.cells0 (i:=7) ⟨rfl,rfl⟩ (o:=0) rfl) (cs := [iv y1.Line,iv y1.Col])) (st0)),?_⟩
        refine tw [7] rfl (F5 rfl rfl qZt) rfl (by kernel_rfl) (by kernel_rfl) ⟨br [] [] rfl (by kernel_rfl) (by kernel_rfl) qZt (by kernel_rfl) (X6 (q:=0) hS36 ⟨rfl,rfl⟩ rfl rfl rfl sizeOf64 rfl rfl rfl fun w37 im38 hS37 => ?_),qZt⟩
        refine⟨st0,?_⟩
        obtain⟨T20,im39,hS38,h22⟩:=hS37.seal 9 ⟨rfl,rfl⟩
        have hsh:=h22.len
        subst hsh
        exact teP (Q0 ⟨_,_,y11.2,_,_,_,(⟨y1,y7.1,y8.1,y11.1,[]⟩:P4),_,_,_,_,Q7 ⟨rfl,rfl,rfl,qZt⟩,(iT im35 (iT im36 (iT im37 (iT im38 im39)))),hS38.sel [1,2,3,4,5,8,0] rfl,(h21.mono (iT im37 (iT im38 im39))),h22,V2,hm⟩)
      refine⟨st1 rfl (Z5 rfl isAgg54 sizeOf54 rfl (hS35.cells0 (i:=1) ⟨rfl,rfl⟩ (o:=0) rfl) (cs:=(U3 y7.1))) (st1 rfl (Z5 rfl isAgg29 sizeOf29 rfl (hS35.cells0 (i:=2) ⟨rfl,rfl⟩ (o:=0) rfl) (cs := [iv y1.Line,iv y1.Col])) (st0)),?_⟩
      refine tw [4] rfl (F5 rfl rfl qZt) rfl (by kernel_rfl) (by kernel_rfl) ⟨br [5,7] [(1,.agg (U3 y7.1).toArray),(0,.agg #[iv y1.Line,iv y1.Col])] rfl (by kernel_rfl) (by kernel_rfl) qZt (by kernel_rfl) (Z7 cf67 rfl (B6 (p0:=y8.2) (Q2:=Q2) (hS35.bun [0,3,4,5,6,7,1,2] [8] rfl) Q3 (h13.mono (iT im27 (iT im35 im36))) hx11) rfl fun v16 T19 w36 im37 rv16 => ?_),qZt⟩
      obtain⟨a28,n9,c28,a29,c29,rfl,hS36,h21,_⟩:=rv16
      have hS36:=hS36.unb
      refine⟨st1 rfl (Z5 rfl isAgg54 sizeOf54 rfl (hS36.cells0 (i:=6) ⟨rfl,rfl⟩ (o:=0) rfl) (cs:=(U3 y7.1))) (st1 rfl (Z5 rfl isAgg29 sizeOf29 rfl (hS36.cells0 (i:=7) ⟨rfl,rfl⟩ (o:=0) rfl) (cs := [iv y1.Line,iv y1.Col])) (st0)),?_⟩
      refine t0 rfl qZt (fun _=>A8 (by kernel_rfl) rfl (u := .agg #[iv y1.Line,iv y1.Col,qZs y7.1.Word,qZs y7.1.Name,iv y7.1.Stars,qZs y8.1,.slice a28 n9 c28,.slice none 0 0])) rfl (tw [7] rfl (F5 rfl rfl qZt) rfl (by kernel_rfl) (by kernel_rfl) ⟨br [] [] rfl (by kernel_rfl) (by kernel_rfl) qZt (by kernel_rfl) (X6 (q:=0) hS36 ⟨rfl,rfl⟩ rfl rfl rfl sizeOf64 rfl rfl rfl fun w37 im38 hS37 => ?_),qZt⟩)
      refine⟨st0,?_⟩
      obtain⟨T20,im39,hS38,h22⟩:=hS37.seal 9 ⟨rfl,rfl⟩
      have hsh:=h22.len
      subst hsh
      exact teP (Q0 ⟨_,_,y11.2,_,_,_,(⟨y1,y7.1,y8.1,y11.1,[]⟩:P4),_,_,_,_,Q7 ⟨rfl,rfl,rfl,qZt⟩,(iT im35 (iT im36 (iT im37 (iT im38 im39)))),hS38.sel [1,2,3,4,5,8,0] rfl,(h21.mono (iT im38 im39)),h22,V2,hm⟩)
    rintro _ w33 ⟨J,T18,x3,a25,c25,b5,x4,a26,c26,a27,c27,rfl,im34,hS41,h18,h19,h20,hm⟩
    rw [hkk2] at hm
    refine sq2 (rg (pv (Z9 rfl) (?_)))
    obtain⟨y12,hx12,hm⟩:=Q4 hm
    rcases y12 with e6 | y12
    · have hm:=Z3 hm
      refine wl rfl (G8 cf68 rfl (O8 (p0:=x3) (Q2:=Q2) (hS41.bun [0,1,2,3,4,6] [5] rfl) Q3 h18 hx12) rfl fun v20 T25 w46 im49 rv20 => ?_)
      obtain⟨a37,c37,rfl,hS49,h27,_⟩:=rv20
      have hS49:=hS49.unb
      cases oI hm
      exact Z8 (P3 ⟨_,rfl,_,(iT im1 (iT im2 (iT im3 (iT im4 (iT im5 (iT im23 (iT im24 (iT im25 (iT im26 (iT im27 (iT im34 im49))))))))))),⟨_,_,_,_,_,_,_,_,_,_,_,rfl,hS49.sel [0,6,1,2,3,4] rfl,h27,qZt⟩⟩)
    have hm:=V1 hm
    refine wl rfl (Z7 cf68 rfl (O8 (p0:=x3) (Q2:=Q2) (hS41.bun [0,1,2,3,4,6] [5] rfl) Q3 h18 hx12) rfl fun v19 T23 w40 im42 rv19 => ?_)
    obtain⟨a33,n11,c33,a34,c34,rfl,hS42,h25,_⟩:=rv19
    have hS42:=hS42.unb
    refine pv (Z1 rfl underlying64 rfl sizeOf62 rfl) (wl rfl (X6 (q:=5) hS42 ⟨rfl,rfl⟩ rfl rfl rfl sizeOf62 rfl rfl rfl fun w41 im43 hS43 => ?_))
    refine nil (Q0 ?_)
    refine rs [0,0,0,0,1,1,2,2,0,0,2] [0,1,2,3,4,5,6,7,8,9,10] mix (by kernel_rfl) hS43.lt fun w42 i5 => ?_
    have im44:=i5.imm
    have hS44:=hS43.keep i5 (fun _ h=>h)
    refine s0 rfl qZt (fun _=>Z9 rfl) rfl (s0 rfl qZt (fun _=>Z9 rfl) rfl (s0 rfl qZt (fun _=>J1 rfl) rfl (s0 rfl qZt (fun _=>Z1 rfl underlying27 rfl sizeOf25 rfl) rfl (s1 rfl qZt (Z4 rfl isAgg25 (hS44.cellB (i:=1) ⟨rfl,rfl⟩ Q0y (j:=2) rfl)) rfl (s1 rfl qZt (Z5 rfl isAgg64 sizeOf64 rfl (hS44.cells0 (i:=5) ⟨rfl,rfl⟩ (o:=0) rfl) (cs := [iv x4.Pos.Line,iv x4.Pos.Col,qZs x4.Ret.Word,qZs x4.Ret.Name,iv x4.Ret.Stars,qZs x4.Name,sv a26 x4.Params c26,.slice a33 n11 c33])) rfl (?_))))))
    obtain⟨T24,im45,hS45,h26⟩:=hS44.seal 7 ⟨rfl,rfl⟩
    have hsh:=h26.len
    subst hsh
    refine s2 [(4,.slice a4 n3 c4)] rfl qZt rfl (by kernel_rfl) (bsS (r:=A1) (l:=([{x4 with Body:=y12.1}]:List P4)) (css := [[iv x4.Pos.Line,iv x4.Pos.Col,qZs x4.Ret.Word,qZs x4.Ret.Name,iv x4.Ret.Stars,qZs x4.Name,sv a26 x4.Params c26,sv a33 y12.1 c33]]) hS45 underlying25 sizeOf64 zeroValue64 rfl rfl (by kernel_rfl) rfl ⟨(Q9v (x := {x4 with Body:=y12.1}) (h19.mono (iT im42 (iT im43 (iT im44 im45)))) h26:A1.rp _ _ _ _),qZt⟩ rfl rfl fun w43 a35 n12 c35 im46 hS46 => ?_)
    refine⟨st1 rfl (Z4 rfl isAgg25 (hS46.cellB (i:=2) ⟨rfl,rfl⟩ Q0y (j:=2) rfl)) (st0),?_⟩
    obtain⟨z_3,hro3,hm⟩:=Q4 hm
    refine s2 [] rfl qZt rfl (by kernel_rfl) (apO (q:=5) (l:=p1.Funcs) (us:=([{x4 with Body:=y12.1}]:List P4)) hS46 ⟨rfl,rfl⟩ rfl rfl (hS46.own (i:=0) ⟨rfl,rfl⟩).v underlying25 el64 (D5 hro3) fun w44 a36 n13 c36 im47 hS47 => ?_)
    refine⟨st0,?_⟩
    refine s0 rfl qZt (fun _=>J1 rfl) rfl (s0 rfl qZt (fun _=>Z1 rfl underlying27 rfl sizeOf25 rfl) rfl (s2 [] rfl qZt rfl (by kernel_rfl) (stB (q:=2) (j:=2) hS47 ⟨rfl,rfl⟩ Q0y rfl rfl rfl sizeOf25 rfl rfl rfl fun w45 im48 hS48 => ?_)))
    refine⟨st0,?_⟩
    cases oI hm
    exact se (S7 rfl ⟨_,rfl,_,(iT im1 (iT im2 (iT im3 (iT im4 (iT im5 (iT im23 (iT im24 (iT im25 (iT im26 (iT im27 (iT im34 (iT im42 (iT im43 (iT im44 (iT im45 (iT im46 (iT im47 im48))))))))))))))))),⟨_,_,_,_,_,_,_,_,_,_,_,rfl,hS48.sel [1,7,2,3,4,5] rfl,(h25.mono (iT im43 (iT im44 (iT im45 (iT im46 (iT im47 im48)))))),qZt⟩⟩)
  have hm:=X3 hb1 hm
  refine gF (d0:=13) rfl rfl (by rw [hb1]; rfl) (gF (d0:=13) rfl rfl (by rw [hb1]; rfl) (pv (X9 rfl hb1 rfl) (nil (Q0 ?_))))
  refine cnd (b:=false) rfl (fun h=>nomatch h) (fun _ => ?_)
  refine skp (Q0 ?_)
  refine sq2 (rg (pv (Z9 rfl) (?_)))
  obtain⟨y13,hx13,hm⟩:=Q4 hm
  rcases y13 with e13 | y13
  · have hm:=Z3 hm
    refine wl rfl (G8 Q9l rfl (K0 (p0:=p0) (Q2:=Q2) (hS4.bun [0,1,2,3,4,5] [6] rfl) Q3 (h1.mono (iT im1 (iT im2 (iT im3 im4)))) hx13) rfl fun v34 T42 w75 im80 rv34 => ?_)
    obtain⟨a62,c62,rfl,hS80,h47,_⟩:=rv34
    have hS80:=hS80.unb
    cases oI hm
    exact Z8 (P3 ⟨_,rfl,_,(iT im1 (iT im2 (iT im3 (iT im4 im80)))),⟨_,_,_,_,_,_,_,_,_,_,_,rfl,hS80.sel [1,6,2,3,4,5] rfl,h47,qZt⟩⟩)
  have hm:=V1 hm
  refine wl rfl (Z7 Q9l rfl (K0 (p0:=p0) (Q2:=Q2) (hS4.bun [0,1,2,3,4,5] [6] rfl) Q3 (h1.mono (iT im1 (iT im2 (iT im3 im4)))) hx13) rfl fun v23 T28 w49 im52 rv23 => ?_)
  obtain⟨a40,c40,rfl,hS52,h30,_⟩:=rv23
  have hS52:=hS52.unb
  refine wl rfl (alS (zs := [qZs [],qZs [],iv 0]) zeroValue54 rfl hS52 fun w50 b7 im53 hS53 => ?_)
  refine wl rfl (X6 (q:=0) hS53 ⟨rfl,rfl⟩ rfl rfl rfl sizeOf54 rfl rfl rfl fun w51 im54 hS54 => ?_)
  refine nil (Q0 ?_)
  refine sq2 (rg (pv (Z9 rfl) (?_)))
  obtain⟨y14,hx14,hm⟩:=Q4 hm
  rcases y14 with e12 | y14
  · have hm:=Z3 hm
    refine wl rfl (G8 Q4s rfl (V6 (p0:=y13.2) (Q2:=Q2) (hS54.bun [0,1,2,3,4,5,6] [7] rfl) Q3 (h30.mono (iT im53 im54)) hx14) rfl fun v33 T41 w74 im79 rv33 => ?_)
    obtain⟨a61,c61,rfl,hS79,h46,_⟩:=rv33
    have hS79:=hS79.unb
    cases oI hm
    exact Z8 (P3 ⟨_,rfl,_,(iT im1 (iT im2 (iT im3 (iT im4 (iT im52 (iT im53 (iT im54 im79))))))),⟨_,_,_,_,_,_,_,_,_,_,_,rfl,hS79.sel [2,7,3,4,5,6] rfl,h46,qZt⟩⟩)
  have hm:=V1 hm
  refine wl rfl (Z7 Q4s rfl (V6 (p0:=y13.2) (Q2:=Q2) (hS54.bun [0,1,2,3,4,5,6] [7] rfl) Q3 (h30.mono (iT im53 im54)) hx14) rfl fun v24 T29 w52 im55 rv24 => ?_)
  obtain⟨a41,c41,rfl,hS55,h31,_⟩:=rv24
  have hS55:=hS55.unb
  refine pv (Q5r rfl) (nil (Q0 ?_))
  refine sq2 (sq2 ?_)
  obtain⟨y15,hx15,hm⟩:=Q4 hm
  refine rg (pv (Z9 rfl) (wl rfl (Z7 Q8q rfl (G0 (p0:=y14.2) (Q2:=Q2) (p1 := [40]) (hS55.bun [0,1,2,3,4,5,6] [7] rfl) Q3 h31 hx15) rfl fun v25 T30 w53 im56 rv25 => ?_)))
  obtain⟨rfl,hS56,_⟩:=rv25
  have hS56:=hS56.unb
  refine pv (L7 rfl) (nil (Q0 ?_))
  refine V3 rfl hm (fun hb5 hm => ?_) fun hb5 hm => ?_
  · refine sq2 (rsP [0,0,0,0,1,0,1,1,0,0,2,2,2,0,0,2] [0,1,2,3,4,5,6,7,8,9,10,11,12,13,14,15] mix (by kernel_rfl) hS56.lt (A4 (A4 (Q1y))) fun w54 i6 => ?_)
    have im57:=i6.imm
    have hS57:=hS56.keep i6 (fun _ h=>h)
    refine s0 rfl qZt (fun _=>Z9 rfl) rfl (s0 rfl qZt (fun _=>Z9 rfl) rfl (s0 rfl qZt (fun _=>J1 rfl) rfl (s0 rfl qZt (fun _=>Z1 rfl underlying27 rfl sizeOf24 rfl) rfl (s1 rfl qZt (Z4 rfl isAgg24 (hS57.cellB (i:=3) ⟨rfl,rfl⟩ Q0y (j:=1) rfl)) rfl (s0 rfl qZt (fun _=>Z9 rfl) rfl (s1 rfl qZt (Z5 rfl isAgg29 sizeOf29 rfl (hS57.cells0 (i:=1) ⟨rfl,rfl⟩ (o:=0) rfl) (cs := [iv y1.Line,iv y1.Col])) rfl (s1 rfl qZt (Z5 rfl isAgg54 sizeOf54 rfl (hS57.cells0 (i:=0) ⟨rfl,rfl⟩ (o:=0) rfl) (cs:=(U3 y13.1))) rfl (s0 rfl qZt (fun _=>P2 rfl) rfl (s0 rfl qZt (fun _=>A8 (by kernel_rfl) rfl (u := .agg #[iv y1.Line,iv y1.Col,qZs y13.1.Word,qZs y13.1.Name,iv y13.1.Stars,qZs y14.1,.slice none 0 0,.slice none 0 0,.bool false])) rfl (?_))))))))))
    obtain⟨y16,hx16,hm⟩:=Q4 hm
    rcases y16 with e9 | y16
    · have hm:=Z3 hm
      refine s2 [(4,.slice a3 n2 c3)] rfl qZt rfl (by kernel_rfl) (G8 cf66 rfl (C9 (p0:=y14.2) (Q2:=Q2) (p1:=(⟨y1,y13.1,y14.1,[],[],false⟩:J8)) (hS57.bun [2,3,4,5,6,0,1] [7] rfl) Q3 (h31.mono (iT im56 im57)) V2 hx16) rfl fun v27 T32 w59 im62 rv27 => ?_)
      obtain⟨a47,c47,rfl,hS62,h35,_⟩:=rv27
      have hS62:=hS62.unb
      cases oI hm
      exact Z8 (Z8 (P3 ⟨_,rfl,_,(iT im1 (iT im2 (iT im3 (iT im4 (iT im52 (iT im53 (iT im54 (iT im55 (iT im56 (iT im57 im62)))))))))),⟨_,_,_,_,_,_,_,_,_,_,_,rfl,hS62.sel [0,7,1,2,3,4] rfl,h35,qZt⟩⟩))
    have hm:=V1 hm
    refine s2 [(4,.slice a3 n2 c3)] rfl qZt rfl (by kernel_rfl) (Z7 cf66 rfl (C9 (p0:=y14.2) (Q2:=Q2) (p1:=(⟨y1,y13.1,y14.1,[],[],false⟩:J8)) (hS57.bun [2,3,4,5,6,0,1] [7] rfl) Q3 (h31.mono (iT im56 im57)) V2 hx16) rfl fun v26 T31 w55 im58 rv26 => ?_)
    obtain⟨a42,c42,a43,c43,a44,c44,rfl,hS58,h32,h33,h34,_⟩:=rv26
    have hS58:=hS58.unb
    refine⟨st1 rfl (Z4 rfl isAgg24 (hS58.cellB (i:=1) ⟨rfl,rfl⟩ Q0y (j:=1) rfl)) (st0),?_⟩
    refine s2 [(4,.slice a3 n2 c3)] rfl qZt rfl (by kernel_rfl) (bsS (r:=G7) (l:=([y16.1]:List J8)) (css := [(N1 y16.1 a42 c42 a43 c43)]) hS58 underlying24 sizeOf58 zeroValue58 rfl rfl (by kernel_rfl) rfl ⟨(Q5h (x:=y16.1) h32 h33:G7.rp _ _ _ _),qZt⟩ rfl rfl fun w56 a45 n14 c45 im59 hS59 => ?_)
    refine⟨st1 rfl (Z4 rfl isAgg24 (hS59.cellB (i:=2) ⟨rfl,rfl⟩ Q0y (j:=1) rfl)) (st0),?_⟩
    obtain⟨z_4,hro4,hm⟩:=Q4 hm
    refine s2 [] rfl qZt rfl (by kernel_rfl) (apO (q:=4) (l:=p1.Globals) (us:=([y16.1]:List J8)) hS59 ⟨rfl,rfl⟩ rfl rfl (hS59.own (i:=0) ⟨rfl,rfl⟩).v underlying24 el58 (D5 hro4) fun w57 a46 n15 c46 im60 hS60 => ?_)
    refine⟨st0,?_⟩
    refine s0 rfl qZt (fun _=>J1 rfl) rfl (s0 rfl qZt (fun _=>Z1 rfl underlying27 rfl sizeOf24 rfl) rfl (s2 [] rfl qZt rfl (by kernel_rfl) (stB (q:=2) (j:=1) hS60 ⟨rfl,rfl⟩ Q0y rfl rfl rfl sizeOf24 rfl rfl rfl fun w58 im61 hS61 => ?_)))
    refine⟨st0,?_⟩
    refine seP (Y9 [] qZt fun J => ?_)
    cases oI hm
    exact rtn (Q6 (ret0 rfl ⟨_,rfl,_,(iT im1 (iT im2 (iT im3 (iT im4 (iT im52 (iT im53 (iT im54 (iT im55 (iT im56 (iT im57 (iT im58 (iT im59 (iT im60 im61))))))))))))),⟨_,_,_,_,_,_,_,_,_,_,_,rfl,hS61.sel [1,8,2,3,4,5] rfl,(h34.mono (iT im59 (iT im60 im61))),qZt⟩⟩))
  refine skp (Q0 ?_)
  obtain⟨kk3,hkk3,hm⟩:=F6 hm
  refine cut (fun a w60 => ∃(J:JV) (T33:TP) (x5:Q1) (a48:OA) (c48:Nat) (b8:Nat) (x6:P4) (a49:OA) (c49:Nat) (a50:OA) (c50:Nat),a=env (nf 77) J [(0,pt X4 X2),(1,pt b_p1 o_p1),(8,pt b8 0)]∧Im T30 w53 T33 w60∧Sep g T33 w60 [R,Q7y [.slice a2 n1 c2,.slice a3 n2 c3,.slice a4 n3 c4],G3 D3 51 (.slice a2 n1 c2) p1.Structs,G3 G7 58 (.slice a3 n2 c3) p1.Globals,G3 A1 64 (.slice a4 n3 c4) p1.Funcs,Q2 [sv a48 x5.l c48,iv x5.end_.Line,iv x5.end_.Col,iv x5.depth],J6 b8 (A2 x6 a49 c49 a50 c50)]∧SlR Y3 T33 w60 (sv a48 x5.l c48) x5.l∧SlR G7 T33 w60 (sv a49 x6.Params c49) x6.Params∧SlR E1 T33 w60 (sv a50 x6.Body c50) x6.Body∧kk3 x5 x6=some r) ?_ ?_
  · refine rtP [1,1,0,0,2,0,2,2] [0,1,2,3,4,5,6,7] mix (by kernel_rfl) hS56.lt (A4 (Q1y)) fun w61 i7 => ?_
    have im64:=i7.imm
    have hS63:=hS56.keep i7 (fun _ h=>h)
    refine t1 rfl qZt (Z5 rfl isAgg29 sizeOf29 rfl (hS63.cells0 (i:=1) ⟨rfl,rfl⟩ (o:=0) rfl) (cs := [iv y1.Line,iv y1.Col])) rfl (t1 rfl qZt (Z5 rfl isAgg54 sizeOf54 rfl (hS63.cells0 (i:=0) ⟨rfl,rfl⟩ (o:=0) rfl) (cs:=(U3 y13.1))) rfl (t0 rfl qZt (fun _=>P2 rfl) rfl (t0 rfl qZt (fun _=>Z9 rfl) rfl (?_))))
    obtain⟨y17,hx17,hm⟩:=Q4 hm
    rcases y17 with e10 | y17
    · have hm:=Z3 hm
      refine tw [4,6] rfl (F5 rfl rfl qZt) rfl (by kernel_rfl) (by kernel_rfl) ⟨br [5,6,7] [(1,.agg (U3 y13.1).toArray),(0,.agg #[iv y1.Line,iv y1.Col])] rfl (by kernel_rfl) (by kernel_rfl) qZt (by kernel_rfl) (G8 cf67 rfl (B6 (p0:=y14.2) (Q2:=Q2) (hS63.bun [2,3,4,5,6,0,1] [7] rfl) Q3 (h31.mono (iT im56 im64)) hx17) rfl fun v30 T37 w66 im70 rv30 => ?_),br [4,5,7] [(1,.agg (U3 y13.1).toArray),(0,.agg #[iv y1.Line,iv y1.Col])] rfl (by kernel_rfl) (by kernel_rfl) qZt (by kernel_rfl) (alS (zs := [iv 0,iv 0,qZs [],qZs [],iv 0,qZs [],.slice none 0 0,.slice none 0 0]) zeroValue64 rfl hS63 fun w65 b10 im69 hS68 => ?_),qZt⟩
      · obtain⟨a55,c55,rfl,hS69,h42,_⟩:=rv30
        have hS69:=hS69.unb
        cases oI hm
        exact Z8 (P3 ⟨_,rfl,_,(iT im1 (iT im2 (iT im3 (iT im4 (iT im52 (iT im53 (iT im54 (iT im55 (iT im56 (iT im64 im70)))))))))),⟨_,_,_,_,_,_,_,_,_,_,_,rfl,hS69.sel [0,7,1,2,3,4] rfl,h42,qZt⟩⟩)
      refine⟨st1 rfl (Z5 rfl isAgg54 sizeOf54 rfl (hS68.cells0 (i:=1) ⟨rfl,rfl⟩ (o:=0) rfl) (cs:=(U3 y13.1))) (st1 rfl (Z5 rfl isAgg29 sizeOf29 rfl (hS68.cells0 (i:=2) ⟨rfl,rfl⟩ (o:=0) rfl) (cs := [iv y1.Line,iv y1.Col])) (st0)),?_⟩
      refine tw [4] rfl (F5 rfl rfl qZt) rfl (by kernel_rfl) (by kernel_rfl) ⟨br [5,7] [(1,.agg (U3 y13.1).toArray),(0,.agg #[iv y1.Line,iv y1.Col])] rfl (by kernel_rfl) (by kernel_rfl) qZt (by kernel_rfl) (G8 cf67 rfl (B6 (p0:=y14.2) (Q2:=Q2) (hS68.bun [0,3,4,5,6,7,1,2] [8] rfl) Q3 (h31.mono (iT im56 (iT im64 im69))) hx17) rfl fun v30 T37 w67 im71 rv30 => ?_),qZt⟩
      obtain⟨a55,c55,rfl,hS70,h42,_⟩:=rv30
      have hS70:=hS70.unb
      cases oI hm
      exact Z8 (P3 ⟨_,rfl,_,(iT im1 (iT im2 (iT im3 (iT im4 (iT im52 (iT im53 (iT im54 (iT im55 (iT im56 (iT im64 (iT im69 im71))))))))))),⟨_,_,_,_,_,_,_,_,_,_,_,rfl,hS70.sel [1,8,2,3,4,5] rfl,h42,qZt⟩⟩)
    have hm:=V1 hm
    refine tw [4,6] rfl (F5 rfl rfl qZt) rfl (by kernel_rfl) (by kernel_rfl) ⟨br [5,6,7] [(1,.agg (U3 y13.1).toArray),(0,.agg #[iv y1.Line,iv y1.Col])] rfl (by kernel_rfl) (by kernel_rfl) qZt (by kernel_rfl) (Z7 cf67 rfl (B6 (p0:=y14.2) (Q2:=Q2) (hS63.bun [2,3,4,5,6,0,1] [7] rfl) Q3 (h31.mono (iT im56 im64)) hx17) rfl fun v28 T34 w62 im65 rv28 => ?_),br [4,5,7] [(1,.agg (U3 y13.1).toArray),(0,.agg #[iv y1.Line,iv y1.Col])] rfl (by kernel_rfl) (by kernel_rfl) qZt (by kernel_rfl) (alS (zs := [iv 0,iv 0,qZs [],qZs [],iv 0,qZs [],.slice none 0 0,.slice none 0 0]) zeroValue64 rfl hS63 fun w62 b9 im65 hS64 => ?_),qZt⟩
    · obtain⟨a51,n16,c51,a52,c52,rfl,hS64,h39,_⟩:=rv28
      have hS64:=hS64.unb
      refine⟨st1 rfl (Z5 rfl isAgg54 sizeOf54 rfl (hS64.cells0 (i:=5) ⟨rfl,rfl⟩ (o:=0) rfl) (cs:=(U3 y13.1))) (st1 rfl (Z5 rfl isAgg29 sizeOf29 rfl (hS64.cells0 (i:=6) ⟨rfl,rfl⟩ (o:=0) rfl) (cs := [iv y1.Line,iv y1.Col])) (st0)),?_⟩
      refine t0 rfl qZt (fun _=>A8 (by kernel_rfl) rfl (u := .agg #[iv y1.Line,iv y1.Col,qZs y13.1.Word,qZs y13.1.Name,iv y13.1.Stars,qZs y14.1,.slice a51 n16 c51,.slice none 0 0])) rfl (tw [6] rfl (F5 rfl rfl qZt) rfl (by kernel_rfl) (by kernel_rfl) ⟨br [7] [(1,.agg (U3 y13.1).toArray),(0,.agg #[iv y1.Line,iv y1.Col])] rfl (by kernel_rfl) (by kernel_rfl) qZt (by kernel_rfl) (alS (zs := [iv 0,iv 0,qZs [],qZs [],iv 0,qZs [],.slice none 0 0,.slice none 0 0]) zeroValue64 rfl hS64 fun w63 b9 im66 hS65 => ?_),qZt⟩)
      refine⟨st1 rfl (Z5 rfl isAgg54 sizeOf54 rfl (hS65.cells0 (i:=6) ⟨rfl,rfl⟩ (o:=0) rfl) (cs:=(U3 y13.1))) (st1 rfl (Z5 rfl isAgg29 sizeOf29 rfl (hS65.cells0 (i:=7) ⟨rfl,rfl⟩ (o:=0) rfl) (cs := [iv y1.Line,iv y1.Col])) (st0)),?_⟩
      refine tw [7] rfl (F5 rfl rfl qZt) rfl (by kernel_rfl) (by kernel_rfl) ⟨br [] [] rfl (by kernel_rfl) (by kernel_rfl) qZt (by kernel_rfl) (X6 (q:=0) hS65 ⟨rfl,rfl⟩ rfl rfl rfl sizeOf64 rfl rfl rfl fun w64 im67 hS66 => ?_),qZt⟩
      refine⟨st0,?_⟩
      obtain⟨T35,im68,hS67,h40⟩:=hS66.seal 9 ⟨rfl,rfl⟩
      have hsh:=h40.len
      subst hsh
      exact teP (Q0 ⟨_,_,y17.2,_,_,_,(⟨y1,y13.1,y14.1,y17.1,[]⟩:P4),_,_,_,_,Q7 ⟨rfl,rfl,rfl,qZt⟩,(iT im64 (iT im65 (iT im66 (iT im67 im68)))),hS67.sel [1,2,3,4,5,8,0] rfl,(h39.mono (iT im66 (iT im67 im68))),h40,V2,hm⟩)
    refine⟨st1 rfl (Z5 rfl isAgg54 sizeOf54 rfl (hS64.cells0 (i:=1) ⟨rfl,rfl⟩ (o:=0) rfl) (cs:=(U3 y13.1))) (st1 rfl (Z5 rfl isAgg29 sizeOf29 rfl (hS64.cells0 (i:=2) ⟨rfl,rfl⟩ (o:=0) rfl) (cs := [iv y1.Line,iv y1.Col])) (st0)),?_⟩
    refine tw [4] rfl (F5 rfl rfl qZt) rfl (by kernel_rfl) (by kernel_rfl) ⟨br [5,7] [(1,.agg (U3 y13.1).toArray),(0,.agg #[iv y1.Line,iv y1.Col])] rfl (by kernel_rfl) (by kernel_rfl) qZt (by kernel_rfl) (Z7 cf67 rfl (B6 (p0:=y14.2) (Q2:=Q2) (hS64.bun [0,3,4,5,6,7,1,2] [8] rfl) Q3 (h31.mono (iT im56 (iT im64 im65))) hx17) rfl fun v28 T34 w63 im66 rv28 => ?_),qZt⟩
    obtain⟨a51,n16,c51,a52,c52,rfl,hS65,h39,_⟩:=rv28
    have hS65:=hS65.unb
    refine⟨st1 rfl (Z5 rfl isAgg54 sizeOf54 rfl (hS65.cells0 (i:=6) ⟨rfl,rfl⟩ (o:=0) rfl) (cs:=(U3 y13.1))) (st1 rfl (Z5 rfl isAgg29 sizeOf29 rfl (hS65.cells0 (i:=7) ⟨rfl,rfl⟩ (o:=0) rfl) (cs := [iv y1.Line,iv y1.Col])) (st0)),?_⟩
    refine t0 rfl qZt (fun _=>A8 (by kernel_rfl) rfl (u := .agg #[iv y1.Line,iv y1.Col,qZs y13.1.Word,qZs y13.1.Name,iv y13.1.Stars,qZs y14.1,.slice a51 n16 c51,.slice none 0 0])) rfl (tw [7] rfl (F5 rfl rfl qZt) rfl (by kernel_rfl) (by kernel_rfl) ⟨br [] [] rfl (by kernel_rfl) (by kernel_rfl) qZt (by kernel_rfl) (X6 (q:=0) hS65 ⟨rfl,rfl⟩ rfl rfl rfl sizeOf64 rfl rfl rfl fun w64 im67 hS66 => ?_),qZt⟩)
    refine⟨st0,?_⟩
    obtain⟨T35,im68,hS67,h40⟩:=hS66.seal 9 ⟨rfl,rfl⟩
    have hsh:=h40.len
    subst hsh
    exact teP (Q0 ⟨_,_,y17.2,_,_,_,(⟨y1,y13.1,y14.1,y17.1,[]⟩:P4),_,_,_,_,Q7 ⟨rfl,rfl,rfl,qZt⟩,(iT im64 (iT im65 (iT im66 (iT im67 im68)))),hS67.sel [1,2,3,4,5,8,0] rfl,(h39.mono (iT im67 im68)),h40,V2,hm⟩)
  rintro _ w60 ⟨J,T33,x5,a48,c48,b8,x6,a49,c49,a50,c50,rfl,im63,hS70,h36,h37,h38,hm⟩
  rw [hkk3] at hm
  refine sq2 (rg (pv (Z9 rfl) (?_)))
  obtain⟨y18,hx18,hm⟩:=Q4 hm
  rcases y18 with e11 | y18
  · have hm:=Z3 hm
    refine wl rfl (G8 cf68 rfl (O8 (p0:=x5) (Q2:=Q2) (hS70.bun [0,1,2,3,4,6] [5] rfl) Q3 h36 hx18) rfl fun v32 T40 w73 im78 rv32 => ?_)
    obtain⟨a60,c60,rfl,hS78,h45,_⟩:=rv32
    have hS78:=hS78.unb
    cases oI hm
    exact Z8 (P3 ⟨_,rfl,_,(iT im1 (iT im2 (iT im3 (iT im4 (iT im52 (iT im53 (iT im54 (iT im55 (iT im56 (iT im63 im78)))))))))),⟨_,_,_,_,_,_,_,_,_,_,_,rfl,hS78.sel [0,6,1,2,3,4] rfl,h45,qZt⟩⟩)
  have hm:=V1 hm
  refine wl rfl (Z7 cf68 rfl (O8 (p0:=x5) (Q2:=Q2) (hS70.bun [0,1,2,3,4,6] [5] rfl) Q3 h36 hx18) rfl fun v31 T38 w67 im71 rv31 => ?_)
  obtain⟨a56,n18,c56,a57,c57,rfl,hS71,h43,_⟩:=rv31
  have hS71:=hS71.unb
  refine pv (Z1 rfl underlying64 rfl sizeOf62 rfl) (wl rfl (X6 (q:=5) hS71 ⟨rfl,rfl⟩ rfl rfl rfl sizeOf62 rfl rfl rfl fun w68 im72 hS72 => ?_))
  refine nil (Q0 ?_)
  refine rs [0,0,0,0,1,1,2,2,0,0,2] [0,1,2,3,4,5,6,7,8,9,10] mix (by kernel_rfl) hS72.lt fun w69 i8 => ?_
  have im73:=i8.imm
  have hS73:=hS72.keep i8 (fun _ h=>h)
  refine s0 rfl qZt (fun _=>Z9 rfl) rfl (s0 rfl qZt (fun _=>Z9 rfl) rfl (s0 rfl qZt (fun _=>J1 rfl) rfl (s0 rfl qZt (fun _=>Z1 rfl underlying27 rfl sizeOf25 rfl) rfl (s1 rfl qZt (Z4 rfl isAgg25 (hS73.cellB (i:=1) ⟨rfl,rfl⟩ Q0y (j:=2) rfl)) rfl (s1 rfl qZt (Z5 rfl isAgg64 sizeOf64 rfl (hS73.cells0 (i:=5) ⟨rfl,rfl⟩ (o:=0) rfl) (cs := [iv x6.Pos.Line,iv x6.Pos.Col,qZs x6.Ret.Word,qZs x6.Ret.Name,iv x6.Ret.Stars,qZs x6.Name,sv a49 x6.Params c49,.slice a56 n18 c56])) rfl (?_))))))
  obtain⟨T39,im74,hS74,h44⟩:=hS73.seal 7 ⟨rfl,rfl⟩
  have hsh:=h44.len
  subst hsh
  refine s2 [(4,.slice a4 n3 c4)] rfl qZt rfl (by kernel_rfl) (bsS (r:=A1) (l:=([{x6 with Body:=y18.1}]:List P4)) (css := [[iv x6.Pos.Line,iv x6.Pos.Col,qZs x6.Ret.Word,qZs x6.Ret.Name,iv x6.Ret.Stars,qZs x6.Name,sv a49 x6.Params c49,sv a56 y18.1 c56]]) hS74 underlying25 sizeOf64 zeroValue64 rfl rfl (by kernel_rfl) rfl ⟨(Q9v (x := {x6 with Body:=y18.1}) (h37.mono (iT im71 (iT im72 (iT im73 im74)))) h44:A1.rp _ _ _ _),qZt⟩ rfl rfl fun w70 a58 n19 c58 im75 hS75 => ?_)
  refine⟨st1 rfl (Z4 rfl isAgg25 (hS75.cellB (i:=2) ⟨rfl,rfl⟩ Q0y (j:=2) rfl)) (st0),?_⟩
  obtain⟨z_5,hro5,hm⟩:=Q4 hm
  refine s2 [] rfl qZt rfl (by kernel_rfl) (apO (q:=5) (l:=p1.Funcs) (us:=([{x6 with Body:=y18.1}]:List P4)) hS75 ⟨rfl,rfl⟩ rfl rfl (hS75.own (i:=0) ⟨rfl,rfl⟩).v underlying25 el64 (D5 hro5) fun w71 a59 n20 c59 im76 hS76 => ?_)
  refine⟨st0,?_⟩
  refine s0 rfl qZt (fun _=>J1 rfl) rfl (s0 rfl qZt (fun _=>Z1 rfl underlying27 rfl sizeOf25 rfl) rfl (s2 [] rfl qZt rfl (by kernel_rfl) (stB (q:=2) (j:=2) hS76 ⟨rfl,rfl⟩ Q0y rfl rfl rfl sizeOf25 rfl rfl rfl fun w72 im77 hS77 => ?_)))
  refine⟨st0,?_⟩
  cases oI hm
  exact se (S7 rfl ⟨_,rfl,_,(iT im1 (iT im2 (iT im3 (iT im4 (iT im52 (iT im53 (iT im54 (iT im55 (iT im56 (iT im63 (iT im71 (iT im72 (iT im73 (iT im74 (iT im75 (iT im76 im77)))))))))))))))),⟨_,_,_,_,_,_,_,_,_,_,_,rfl,hS77.sel [1,7,2,3,4,5] rfl,(h43.mono (iT im72 (iT im73 (iT im74 (iT im75 (iT im76 im77)))))),qZt⟩⟩)

theorem Q3p {p0:Q1} {X4 X2:Nat} {Q2:List Value→J7} {a1:OA} {c1:Nat} {r:Except (K4×Q8×Q1) (K4×Q1)} (hS:Sep g T0 w0 [R,Q2 [sv a1 p0.l c1,iv p0.end_.Line,iv p0.end_.Col,iv p0.depth]]) (Q3:Ln X4 X2 Q2) (h1:SlR Y3 T0 w0 (sv a1 p0.l c1) p0.l) (hm:Q0p p0=some r) :
    Calls Tryz.prog 11 #[pt X4 X2] w0 (exR r (fun r=>E6 T0 w0 fun T w v => ∃(a14:OA) (c14:Nat) (a15:OA) (c15:Nat) (a16:OA) (c16:Nat) (a17:OA) (c17:Nat),v = .tuple #[.agg #[sv a14 r.1.Structs c14,sv a15 r.1.Globals c15,sv a16 r.1.Funcs c16],.pointer none]∧Sep g T w [R,Q2 [sv a17 r.2.l c17,iv r.2.end_.Line,iv r.2.end_.Col,iv r.2.depth]]∧SlR D3 T w (sv a14 r.1.Structs c14) r.1.Structs∧SlR G7 T w (sv a15 r.1.Globals c15) r.1.Globals∧SlR A1 T w (sv a16 r.1.Funcs c16) r.1.Funcs∧SlR Y3 T w (sv a17 r.2.l c17) r.2.l∧True) (fun r=>E6 T0 w0 fun T w v => ∃(a14:OA) (c14:Nat) (a15:OA) (c15:Nat) (a16:OA) (c16:Nat) (b4:Nat) (a17:OA) (c17:Nat),v = .tuple #[.agg #[sv a14 r.1.Structs c14,sv a15 r.1.Globals c15,sv a16 r.1.Funcs c16],pt b4 0]∧Sep g T w [R,Q2 [sv a17 r.2.2.l c17,iv r.2.2.end_.Line,iv r.2.2.end_.Col,iv r.2.2.depth],J6 b4 (K6 r.2.1)]∧SlR D3 T w (sv a14 r.1.Structs c14) r.1.Structs∧SlR G7 T w (sv a15 r.1.Globals c15) r.1.Globals∧SlR A1 T w (sv a16 r.1.Funcs c16) r.1.Funcs∧SlR Y3 T w (sv a17 r.2.2.l c17) r.2.2.l∧True)):=by
  refine Z3t (args := [pt X4 X2]) Tryz.func11 rfl Tryz.ntmps11 rfl fun J => ?_
  unfold Q0p at hm
  refine sq2 (rg (wl rfl (alS (zs := [.slice none 0 0,.slice none 0 0,.slice none 0 0]) zeroValue27 rfl hS fun w1 b1 im1 hS1 => ?_)))
  refine wl rfl (alS (zs := [.pointer none]) zeroValue44 rfl hS1 fun w2 b2 im2 hS2 => ?_)
  refine nil (Q0 ?_)
  refine sq2 (rg (pv (r_mkf (u := .func (.func 30) #[] #[pt b1 0,pt b2 0]) rfl) (wl rfl (dfO (f:=30) (cap := #[pt b1 0,pt b2 0]) rfl ?_))))
  refine nil (Q0 ?_)
  refine sq2 ?_
  obtain⟨o1,ho1,hq1⟩:=Q4 hm
  obtain⟨bd1,hbd1,ho1⟩:=K3 ho1
  have hS3:=hS2.nilO D3 51
  have hS4:=hS3.nilO G7 58
  have hS5:=hS4.nilO A1 64
  refine blk (wp_loop_ghost (fun m a w3 => ∃(J:JV) (T1:TP) (x5:Q1) (x4:K4) (a2:OA) (n1:Nat) (c2:Nat) (a3:OA) (n2:Nat) (c3:Nat) (a4:OA) (n3:Nat) (c4:Nat) (a5:OA) (c5:Nat),a=env ⟨14,[⟨.fn (.func 30) #[pt b1 0,pt b2 0],#[]⟩]⟩ J [(0,pt X4 X2),(2,pt b1 0),(3,pt b2 0)]∧Im T0 w2 T1 w3∧Sep g T1 w3 [G3 A1 64 (.slice a2 n1 c2) x4.Funcs,G3 G7 58 (.slice a3 n2 c3) x4.Globals,G3 D3 51 (.slice a4 n3 c4) x4.Structs,J6 b2 [.pointer none],J6 b1 [.slice a4 n3 c4,.slice a3 n2 c3,.slice a2 n1 c2],R,Q2 [sv a5 x5.l c5,iv x5.end_.Line,iv x5.end_.Col,iv x5.depth]]∧SlR Y3 T1 w3 (sv a5 x5.l c5) x5.l∧V7 bd1 m (x4,x5)=some o1) NN ⟨_,_,p0,(⟨[],[],[]⟩:K4),_,_,_,_,_,_,_,_,_,_,_,Q7 ⟨rfl,rfl,rfl,qZt⟩,Im.refl,hS5.sel [0,1,2,3,4,5,6] rfl,(h1.mono (iT im1 im2)),ho1⟩ ?_)
  rintro m _ w3 ⟨J,T1,x5,x4,a2,n1,c2,a3,n2,c3,a4,n3,c4,a5,c5,rfl,im3,hS6,h2,ho1⟩
  obtain⟨m1,z1,rfl,hm,hn1⟩:=U4 ho1
  rw [hbd1] at hm
  refine sq2 (sq2 (rg (pv (Z9 rfl) (pv (J1 rfl) (pv (Z1 rfl underlying43 rfl sizeOf38 rfl) (pv (Z4 rfl isAgg38 (hS6.cellB (i:=6) ⟨rfl,rfl⟩ Q3 (j:=0) rfl)) (pv (L3 rfl underlying38) (pv (X7 rfl rfl rfl) (nil (Q0 ?_))))))))))
  refine V3 rfl hm (fun hb1 hm => ?_) fun hb1 hm => ?_
  · refine skp (Q0 ?_)
    refine blk (rg (pv (Z9 rfl) (?_)))
    obtain⟨y1,hx1,hm⟩:=Q4 hm
    rcases y1 with e1 | y1
    · have hm:=Z3 hm
      refine wl rfl (G8 cf31 rfl (Q2f (p0:=x5) (Q2:=Q2) (p1:=x4) (Q7y:=J6 b1) (hS6.bun [3,5] [6,4,2,1,0] rfl) Q3 h2 (Q0x b1) hx1) rfl fun v2 T3 w5 im5 rv2 => ?_)
      obtain⟨a10,c10,a11,n7,c11,a12,n8,c12,a13,n9,c13,rfl,hS8,h4,_⟩:=rv2
      have hS8:=hS8.unb
      refine G4 (Z8 (G4 (Z8 (panD cf30 (recP2 (args := [pt b1 0,pt b2 0]) Tryz.func30 rfl Tryz.ntmps30 rfl rfl rfl fun J => ?_)))))
      refine sq2 (sq2 (rg (pv (r_mx (v := .iface 48 (.agg (K6 e1.1).toArray)) rfl) (pv (r_eqh rfl (by kernel_rfl)) (nil (Q0 ?_))))))
      refine cnd (b:=false) rfl (fun h=>nomatch h) (fun _ => ?_)
      refine skp (Q0 ?_)
      refine sq2 (rg (pv (r_mx (v := .iface 48 (.agg (K6 e1.1).toArray)) rfl) (pv (r_ta rfl (by kernel_rfl)) (wl rfl (alS (zs := [iv 0,iv 0,iv 0]) zeroValue48 rfl hS8 fun w6 b3 im6 hS9 => ?_)))))
      refine wl rfl (X6 (q:=0) hS9 ⟨rfl,rfl⟩ rfl rfl rfl sizeOf48 rfl rfl rfl fun w7 im7 hS10 => ?_)
      refine nil (Q0 ?_)
      refine rg (pv (A8 (by kernel_rfl) rfl (u := .agg #[.slice none 0 0,.slice none 0 0,.slice none 0 0])) (wl rfl (X6 (q:=4) hS10 ⟨rfl,rfl⟩ rfl rfl rfl sizeOf27 rfl rfl rfl fun w8 im8 hS11 => ?_)))
      refine wl rfl (X6 (q:=1) hS11 ⟨rfl,rfl⟩ rfl rfl rfl sizeOf44 rfl rfl rfl fun w9 im9 hS12 => ?_)
      cases oI hm
      have hn1:_=Lp.ret _:=hn1
      subst hn1
      have hm:=X1 hq1
      cases oI hm
      exact nil (Q0s rfl ⟨_,Z1n (vs := [.agg #[.slice none 0 0,.slice none 0 0,.slice none 0 0],pt b3 0]) rfl ⟨rvS rfl isAgg27 sizeOf27 rfl (hS12.bx (i:=4) ⟨rfl,rfl⟩),rv1 rfl isAgg44 (hS12.bx (i:=1) ⟨rfl,rfl⟩),qZt⟩ rfl,⟨_,rfl,_,(iT im1 (iT im2 (iT im3 (iT im5 (iT im6 (iT im7 (iT im8 im9))))))),⟨_,_,_,_,_,_,_,_,_,rfl,hS12.sel [2,3,0] rfl,V2,V2,V2,(h4.mono (iT im6 (iT im7 (iT im8 im9)))),qZt⟩⟩⟩)
    have hm:=V1 hm
    refine wl rfl (Z7 cf31 rfl (Q2f (p0:=x5) (Q2:=Q2) (p1:=x4) (Q7y:=J6 b1) (hS6.bun [3,5] [6,4,2,1,0] rfl) Q3 h2 (Q0x b1) hx1) rfl fun v1 T2 w4 im4 rv1 => ?_)
    obtain⟨a6,c6,a7,n4,c7,a8,n5,c8,a9,n6,c9,rfl,hS7,h3,_⟩:=rv1
    have hS7:=hS7.unb
    cases oI hm
    exact nil (U6 (Q0 ⟨m1,Nat.lt_succ_self _,_,_,y1.1,y1.2,_,_,_,_,_,_,_,_,_,_,_,Q7 ⟨rfl,rfl,rfl,qZt⟩,(iT im3 im4),hS7.sel [6,5,4,0,3,1,2] rfl,h3,hn1⟩))
  cases oI hm
  have hn1:_=Lp.brk _:=hn1
  subst hn1
  have hm:=F1 hq1
  refine xt (V9 (V9 (L5 (Q0 ?_))))
  refine sq2 (rg (pv (Z5 rfl isAgg27 sizeOf27 rfl (hS6.cells0 (i:=4) ⟨rfl,rfl⟩ (o:=0) rfl) (cs := [.slice a4 n3 c4,.slice a3 n2 c3,.slice a2 n1 c2])) (wl rfl (X6 (q:=4) hS6 ⟨rfl,rfl⟩ rfl rfl rfl sizeOf27 rfl rfl rfl fun w10 im10 hS13 => ?_))))
  refine wl rfl (X6 (q:=3) hS13 ⟨rfl,rfl⟩ rfl rfl rfl sizeOf44 rfl rfl rfl fun w11 im11 hS14 => ?_)
  refine nil (Q0 ?_)
  refine rtn (retD cf30 (recN2 (args := [pt b1 0,pt b2 0]) Tryz.func30 rfl Tryz.ntmps30 rfl rfl rfl fun J => ?_))
  refine sq2 (sq2 (rg (pv (r_mx (v := .nilIface) rfl) (pv (r_eqn rfl (by kernel_rfl)) (nil (Q0 ?_))))))
  refine cnd (b:=true) rfl (fun _ => ?_) (fun h=>nomatch h)
  obtain⟨T4,im12,hS15,h5⟩:=hS14.seal 2 ⟨rfl,rfl⟩
  have hsh:=h5.len
  subst hsh
  obtain⟨T5,im13,hS16,h6⟩:=hS15.seal 1 ⟨rfl,rfl⟩
  have hsh:=h6.len
  subst hsh
  obtain⟨T6,im14,hS17,h7⟩:=hS16.seal 0 ⟨rfl,rfl⟩
  have hsh:=h7.len
  subst hsh
  cases oI hm
  exact rtn (Q6 (endR rfl ⟨_,Z1n (vs := [.agg #[sv a4 x4.Structs c4,sv a3 x4.Globals c3,sv a2 x4.Funcs c2],.pointer none]) rfl ⟨rvS rfl isAgg27 sizeOf27 rfl (hS17.bx (i:=4) ⟨rfl,rfl⟩),rv1 rfl isAgg44 (hS17.bx (i:=3) ⟨rfl,rfl⟩),qZt⟩ rfl,⟨_,rfl,_,(iT im1 (iT im2 (iT im3 (iT im10 (iT im11 (iT im12 (iT im13 im14))))))),⟨_,_,_,_,_,_,_,_,rfl,hS17.sel [5,6] rfl,(h5.mono (iT im13 im14)),(h6.mono im14),h7,(h2.mono (iT im10 (iT im11 (iT im12 (iT im13 im14))))),qZt⟩⟩⟩))

theorem Q8a {p0:List UInt8} {r:K4×Pos×Int} (hS:Sep g T0 w0 [R]) (hG0:Gi T0 w0 0) (hm:Q3v p0=some r) :
    Calls Tryz.prog 6 #[qZs p0] w0 (E6 T0 w0 fun T w v => ∃(a10:OA) (c10:Nat) (a11:OA) (c11:Nat) (a12:OA) (c12:Nat),v = .tuple #[.agg #[sv a10 r.1.Structs c10,sv a11 r.1.Globals c11,sv a12 r.1.Funcs c12],.agg #[iv r.2.1.Line,iv r.2.1.Col],iv r.2.2]∧Sep g T w [R]∧SlR D3 T w (sv a10 r.1.Structs c10) r.1.Structs∧SlR G7 T w (sv a11 r.1.Globals c11) r.1.Globals∧SlR A1 T w (sv a12 r.1.Funcs c12) r.1.Funcs∧True):=by
  refine enter (args := [qZs p0]) Tryz.func6 rfl Tryz.ntmps6 rfl fun J => ?_
  unfold Q3v at hm
  refine sq2 (rg (wl rfl (alS (zs := [.slice none 0 0,.slice none 0 0,.slice none 0 0]) zeroValue27 rfl hS fun w1 b1 im1 hS1 => ?_)))
  refine wl rfl (alS (zs := [iv 0,iv 0]) zeroValue29 rfl hS1 fun w2 b2 im2 hS2 => ?_)
  refine pv (J0 rfl) (nil (Q0 ?_))
  refine sq2 ?_
  obtain⟨y1,hx1,hm⟩:=Q4 hm
  refine rg (pv (P2 rfl) (wl rfl (Z7 cf10 rfl (Z4s (p0:=p0) (hS2.bun [0,1,2] [] rfl) (hG0.mono (iT im1 im2)) hx1) rfl fun v1 T1 w3 im3 rv1 => ?_)))
  obtain⟨a1,n1,c1,rfl,hS3,_⟩:=rv1
  have hS3:=hS3.unb
  refine pv (r_mv rfl) (pv (Q4q (v := .slice a1 n1 c1) rfl rfl) (pv (Q4q (v := .agg #[iv y1.2.1.Line,iv y1.2.1.Col]) rfl rfl) (pv (Q4q (v:=iv y1.2.2) rfl rfl) (wl rfl (alS (zs := [iv 0,iv 0]) zeroValue29 rfl hS3 fun w4 b3 im4 hS4 => ?_)))))
  refine pv (P8 rfl) (wl rfl (X6 (q:=0) hS4 ⟨rfl,rfl⟩ rfl rfl rfl sizeOf29 rfl rfl rfl fun w5 im5 hS5 => ?_))
  refine pv (J0 rfl) (nil (Q0 ?_))
  refine sq2 (sq2 (rg (pv (U1 rfl) (pv (X7 rfl rfl rfl) (nil (Q0 ?_))))))
  refine V3 rfl hm (fun hb1 hm => ?_) fun hb1 hm => ?_
  · refine sq2 (rs [0,1,0,2,2,0] [0,1,2,3,4,5] mix (by kernel_rfl) hS5.lt fun w6 i1 => ?_)
    have im6:=i1.imm
    have hS6:=hS5.keep i1 (fun _ h=>h)
    refine s0 rfl qZt (fun _=>A8 (by kernel_rfl) rfl (u := .agg #[.slice none 0 0,.slice none 0 0,.slice none 0 0])) rfl (s1 rfl qZt (Z5 rfl isAgg29 sizeOf29 rfl (hS6.cells0 (i:=0) ⟨rfl,rfl⟩ (o:=0) rfl) (cs := [iv y1.2.1.Line,iv y1.2.1.Col])) rfl (s0 rfl qZt (fun _=>U1 rfl) rfl (s2 [(1,.agg #[iv y1.2.1.Line,iv y1.2.1.Col])] rfl qZt rfl (by kernel_rfl) (X6 (q:=2) hS6 ⟨rfl,rfl⟩ rfl rfl rfl sizeOf27 rfl rfl rfl fun w7 im7 hS7 => ?_))))
    refine⟨st1 rfl (Z5 rfl isAgg29 sizeOf29 rfl (hS7.cells0 (i:=0) ⟨rfl,rfl⟩ (o:=0) rfl) (cs := [iv y1.2.1.Line,iv y1.2.1.Col])) (st0),?_⟩
    refine s2 [] rfl qZt rfl (by kernel_rfl) (X6 (q:=1) hS7 ⟨rfl,rfl⟩ rfl rfl rfl sizeOf29 rfl rfl rfl fun w8 im8 hS8 => ?_)
    refine⟨st0,?_⟩
    refine s0 rfl qZt (fun _=>J0 rfl) rfl (se (Q0 ?_))
    cases oI hm
    exact rtn (Q6 (A5 (vs := [.agg #[.slice none 0 0,.slice none 0 0,.slice none 0 0],.agg #[iv y1.2.1.Line,iv y1.2.1.Col],iv y1.2.2]) rfl ⟨rvS rfl isAgg27 sizeOf27 rfl (hS8.bx (i:=2) ⟨rfl,rfl⟩),rvS rfl isAgg29 sizeOf29 rfl (hS8.bx (i:=1) ⟨rfl,rfl⟩),rfl,qZt⟩ rfl ⟨_,rfl,_,(iT im1 (iT im2 (iT im3 (iT im4 (iT im5 (iT im6 (iT im7 im8))))))),⟨_,_,_,_,_,_,rfl,hS8.sel [3] rfl,V2,V2,V2,qZt⟩⟩))
  refine skp (Q0 ?_)
  refine sq2 (rg (pv (N2 rfl) (pv (Z5 rfl isAgg29 sizeOf29 rfl (hS5.cells0 (i:=0) ⟨rfl,rfl⟩ (o:=0) rfl) (cs := [iv y1.2.1.Line,iv y1.2.1.Col])) (pv (A8 (by kernel_rfl) rfl (u := .agg #[.slice a1 n1 c1,iv y1.2.1.Line,iv y1.2.1.Col,iv 0])) (wl rfl (bxS (cs := [.slice a1 n1 c1,iv y1.2.1.Line,iv y1.2.1.Col,iv 0]) rfl rfl hS5 fun w9 b4 im9 hS9 => ?_))))))
  refine pv (r_zp rfl) (nil (Q0 ?_))
  refine sq2 (rg (pv (Z9 rfl) (?_)))
  obtain⟨T2,im10,hS10,h1⟩:=hS9.seal 5 ⟨rfl,rfl⟩
  have hsh:=h1.len
  subst hsh
  obtain⟨y2,hx2,hm⟩:=Q4 hm
  rcases y2 with e1 | y2
  · have hm:=Z3 hm
    refine wl rfl (Z7 cf11 rfl (Q3p (p0:=(⟨y1.1,y1.2.1,0⟩:Q1)) (Q2:=J6 b4) (hS10.bun [1,2,3,4] [0] rfl) (Q0x b4) h1 hx2) rfl fun v3 T4 w16 im17 rv3 => ?_)
    obtain⟨a6,c6,a7,c7,a8,c8,b6,a9,c9,rfl,hS17,h6,h7,h8,h9,_⟩:=rv3
    have hS17:=hS17.unb
    refine pv (r_mv rfl) (pv (Q4q (v := .agg #[sv a6 e1.1.Structs c6,sv a7 e1.1.Globals c7,sv a8 e1.1.Funcs c8]) rfl rfl) (pv (Q4q (v:=pt b6 0) rfl rfl) (wl rfl (alS (zs := [.slice none 0 0,.slice none 0 0,.slice none 0 0]) zeroValue27 rfl hS17 fun w17 b7 im18 hS18 => ?_))))
    refine wl rfl (X6 (q:=0) hS18 ⟨rfl,rfl⟩ rfl rfl rfl sizeOf27 rfl rfl rfl fun w18 im19 hS19 => ?_)
    refine pv (r_zp rfl) (nil (Q0 ?_))
    refine sq2 (sq2 (rg (pv (Z9 rfl) (pv (r_pnn rfl rfl rfl underlying44) (nil (Q0 ?_))))))
    refine cnd (b:=true) rfl (fun _ => ?_) (fun h=>nomatch h)
    refine sq2 (rs [0,0,0,0,1,0,0,0,1,2,2,0] [0,1,2,3,4,5,6,7,8,9,10,11] mix (by kernel_rfl) hS19.lt fun w19 i3 => ?_)
    have im20:=i3.imm
    have hS20:=hS19.keep i3 (fun _ h=>h)
    refine s0 rfl qZt (fun _=>A8 (by kernel_rfl) rfl (u := .agg #[.slice none 0 0,.slice none 0 0,.slice none 0 0])) rfl (s0 rfl qZt (fun _=>Z9 rfl) rfl (s0 rfl qZt (fun _=>J1 rfl) rfl (s0 rfl qZt (fun _=>Z1 rfl underlying48 rfl sizeOf29 rfl) rfl (s1 rfl qZt (Z5 rfl isAgg29 sizeOf29 rfl (hS20.cells0 (i:=6) ⟨rfl,rfl⟩ (o:=0) rfl) (cs := [iv e1.2.1.pos.Line,iv e1.2.1.pos.Col])) rfl (s0 rfl qZt (fun _=>Z9 rfl) rfl (s0 rfl qZt (fun _=>J1 rfl) rfl (s0 rfl qZt (fun _=>Z1 rfl underlying48 rfl sizeOf30 rfl) rfl (s1 rfl qZt (Z4 rfl isAgg30 (hS20.cell0 (i:=6) ⟨rfl,rfl⟩ (j:=2) rfl)) rfl (s2 [(8,iv e1.2.1.e),(4,.agg #[iv e1.2.1.pos.Line,iv e1.2.1.pos.Col])] rfl qZt rfl (by kernel_rfl) (X6 (q:=3) hS20 ⟨rfl,rfl⟩ rfl rfl rfl sizeOf27 rfl rfl rfl fun w20 im21 hS21 => ?_))))))))))
    refine⟨st1 rfl (Z4 rfl isAgg30 (hS21.cell0 (i:=6) ⟨rfl,rfl⟩ (j:=2) rfl)) (st1 rfl (Z5 rfl isAgg29 sizeOf29 rfl (hS21.cells0 (i:=6) ⟨rfl,rfl⟩ (o:=0) rfl) (cs := [iv e1.2.1.pos.Line,iv e1.2.1.pos.Col])) (st0)),?_⟩
    refine s2 [(8,iv e1.2.1.e)] rfl qZt rfl (by kernel_rfl) (X6 (q:=2) hS21 ⟨rfl,rfl⟩ rfl rfl rfl sizeOf29 rfl rfl rfl fun w21 im22 hS22 => ?_)
    refine⟨st1 rfl (Z4 rfl isAgg30 (hS22.cell0 (i:=6) ⟨rfl,rfl⟩ (j:=2) rfl)) (st0),?_⟩
    refine s0 rfl qZt (fun _=>J0 rfl) rfl (se (Y9 [(2,pt b1 0),(3,pt b2 0),(4,iv e1.2.1.e)] ⟨rfl,rfl,rfl,qZt⟩ fun J => ?_))
    cases oI hm
    exact rtn (Q6 (A5 (vs := [.agg #[.slice none 0 0,.slice none 0 0,.slice none 0 0],.agg #[iv e1.2.1.pos.Line,iv e1.2.1.pos.Col],iv e1.2.1.e]) rfl ⟨rvS rfl isAgg27 sizeOf27 rfl (hS22.bx (i:=3) ⟨rfl,rfl⟩),rvS rfl isAgg29 sizeOf29 rfl (hS22.bx (i:=2) ⟨rfl,rfl⟩),rfl,qZt⟩ rfl ⟨_,rfl,_,(iT im1 (iT im2 (iT im3 (iT im4 (iT im5 (iT im9 (iT im10 (iT im17 (iT im18 (iT im19 (iT im20 (iT im21 im22)))))))))))),⟨_,_,_,_,_,_,rfl,hS22.sel [4] rfl,V2,V2,V2,qZt⟩⟩))
  have hm:=V1 hm
  refine wl rfl (Z7 cf11 rfl (Q3p (p0:=(⟨y1.1,y1.2.1,0⟩:Q1)) (Q2:=J6 b4) (hS10.bun [1,2,3,4] [0] rfl) (Q0x b4) h1 hx2) rfl fun v2 T3 w10 im11 rv2 => ?_)
  obtain⟨a2,c2,a3,c3,a4,c4,a5,c5,rfl,hS11,h2,h3,h4,h5,_⟩:=rv2
  have hS11:=hS11.unb
  refine pv (r_mv rfl) (pv (Q4q (v := .agg #[sv a2 y2.1.Structs c2,sv a3 y2.1.Globals c3,sv a4 y2.1.Funcs c4]) rfl rfl) (pv (Q4q (v := .pointer none) rfl rfl) (wl rfl (alS (zs := [.slice none 0 0,.slice none 0 0,.slice none 0 0]) zeroValue27 rfl hS11 fun w11 b5 im12 hS12 => ?_))))
  refine wl rfl (X6 (q:=0) hS12 ⟨rfl,rfl⟩ rfl rfl rfl sizeOf27 rfl rfl rfl fun w12 im13 hS13 => ?_)
  refine pv (r_zp rfl) (nil (Q0 ?_))
  refine sq2 (sq2 (rg (pv (Z9 rfl) (pv (r_pnn rfl rfl rfl underlying44) (nil (Q0 ?_))))))
  refine cnd (b:=false) rfl (fun h=>nomatch h) (fun _ => ?_)
  refine skp (Y9 [(2,pt b1 0),(3,pt b2 0),(6,pt b3 0),(9,pt b5 0)] ⟨rfl,rfl,rfl,rfl,qZt⟩ fun J => ?_)
  refine sq2 (rs [1,1,2,2,0] [0,1,2,3,4] mix (by kernel_rfl) hS13.lt fun w13 i2 => ?_)
  have im14:=i2.imm
  have hS14:=hS13.keep i2 (fun _ h=>h)
  refine s1 rfl qZt (Z5 rfl isAgg27 sizeOf27 rfl (hS14.cells0 (i:=0) ⟨rfl,rfl⟩ (o:=0) rfl) (cs := [sv a2 y2.1.Structs c2,sv a3 y2.1.Globals c3,sv a4 y2.1.Funcs c4])) rfl (s1 rfl qZt (Z5 rfl isAgg29 sizeOf29 rfl (hS14.cells0 (i:=1) ⟨rfl,rfl⟩ (o:=0) rfl) (cs := [iv y1.2.1.Line,iv y1.2.1.Col])) rfl (s2 [(1,.agg #[iv y1.2.1.Line,iv y1.2.1.Col])] rfl qZt rfl (by kernel_rfl) (X6 (q:=3) hS14 ⟨rfl,rfl⟩ rfl rfl rfl sizeOf27 rfl rfl rfl fun w14 im15 hS15 => ?_)))
  refine⟨st1 rfl (Z5 rfl isAgg29 sizeOf29 rfl (hS15.cells0 (i:=1) ⟨rfl,rfl⟩ (o:=0) rfl) (cs := [iv y1.2.1.Line,iv y1.2.1.Col])) (st0),?_⟩
  refine s2 [] rfl qZt rfl (by kernel_rfl) (X6 (q:=2) hS15 ⟨rfl,rfl⟩ rfl rfl rfl sizeOf29 rfl rfl rfl fun w15 im16 hS16 => ?_)
  refine⟨st0,?_⟩
  refine s0 rfl qZt (fun _=>J0 rfl) rfl (se (Q0 ?_))
  cases oI hm
  exact rtn (A5 (vs := [.agg #[sv a2 y2.1.Structs c2,sv a3 y2.1.Globals c3,sv a4 y2.1.Funcs c4],.agg #[iv y1.2.1.Line,iv y1.2.1.Col],iv 0]) rfl ⟨rvS rfl isAgg27 sizeOf27 rfl (hS16.bx (i:=3) ⟨rfl,rfl⟩),rvS rfl isAgg29 sizeOf29 rfl (hS16.bx (i:=2) ⟨rfl,rfl⟩),rfl,qZt⟩ rfl ⟨_,rfl,_,(iT im1 (iT im2 (iT im3 (iT im4 (iT im5 (iT im9 (iT im10 (iT im11 (iT im12 (iT im13 (iT im14 (iT im15 im16)))))))))))),⟨_,_,_,_,_,_,rfl,hS16.sel [4] rfl,(h2.mono (iT im12 (iT im13 (iT im14 (iT im15 im16))))),(h3.mono (iT im12 (iT im13 (iT im14 (iT im15 im16))))),(h4.mono (iT im12 (iT im13 (iT im14 (iT im15 im16))))),qZt⟩⟩)

theorem Z2 {p0:Q5} {X4 X2:Nat} {Q2:List Value→J7} {a1:OA} {n1:Nat} {c1:Nat} {p1:List (List UInt8)} {a2:OA} {c2:Nat} {r:Q5} (hS:Sep g T0 w0 [R,Q2 [.slice a1 n1 c1],G3 G9 9 (.slice a1 n1 c1) p0.l]) (Q3:Ln X4 X2 Q2) (h1:SlR G9 T0 w0 (sv a2 p1 c2) p1) (hm:Z0 p0 p1=some r) :
    Calls Tryz.prog 22 #[pt X4 X2,sv a2 p1 c2] w0 (E6 T0 w0 fun T w v => ∃(a4:OA) (n3:Nat) (c4:Nat),v = .tuple #[]∧Sep g T w [R,Q2 [.slice a4 n3 c4],G3 G9 9 (.slice a4 n3 c4) r.l]∧True):=by
  refine enter (args := [pt X4 X2,sv a2 p1 c2]) Tryz.func22 rfl Tryz.ntmps22 rfl fun J => ?_
  unfold Z0 at hm
  obtain⟨z_1,hro1,hm⟩:=Q4 hm
  refine rg (pv (Z9 rfl) (pv (Z9 rfl) (pv (J1 rfl) (pv (Z1 rfl underlying76 rfl sizeOf74 rfl) (pv (Z4 rfl isAgg74 (hS.cellB (i:=1) ⟨rfl,rfl⟩ Q3 (j:=0) rfl)) (pv (N2 rfl) (wl rfl (apO (q:=2) (l:=p0.l) (us:=p1) hS ⟨rfl,rfl⟩ rfl rfl h1.v underlying74 el9 (D5 hro1) fun w1 a3 n2 c3 im1 hS1 => ?_))))))))
  refine pv (J1 rfl) (pv (Z1 rfl underlying76 rfl sizeOf74 rfl) (wl rfl (stB (q:=1) (j:=0) hS1 ⟨rfl,rfl⟩ Q3 rfl rfl rfl sizeOf74 rfl rfl rfl fun w2 im2 hS2 => ?_)))
  cases oI hm
  exact nil (S7 rfl ⟨_,rfl,_,(iT im1 im2),⟨_,_,_,rfl,hS2.sel [0,1,2] rfl,qZt⟩⟩)

theorem S3 {p0:Q5} {X4 X2:Nat} {Q2:List Value→J7} {a1:OA} {n1:Nat} {c1:Nat} {p1:G5} {r:Q5} (hS:Sep g T0 w0 [R,Q2 [.slice a1 n1 c1],G3 G9 9 (.slice a1 n1 c1) p0.l]) (Q3:Ln X4 X2 Q2) (hm:N3 p0 p1=some r) :
    Calls Tryz.prog 24 #[pt X4 X2,.agg (U3 p1).toArray] w0 (E6 T0 w0 fun T w v => ∃(a10:OA) (n10:Nat) (c10:Nat),v = .tuple #[]∧Sep g T w [R,Q2 [.slice a10 n10 c10],G3 G9 9 (.slice a10 n10 c10) r.l]∧True):=by
  refine enter (args := [pt X4 X2,.agg (U3 p1).toArray]) Tryz.func24 rfl Tryz.ntmps24 rfl fun J => ?_
  unfold N3 at hm
  refine sq2 (rg (wl rfl (bxS (cs:=(U3 p1)) rfl rfl hS fun w1 b1 im1 hS1 => ?_)))
  refine nil (Q0 ?_)
  refine sq2 (rg (pv (Z9 rfl) (pv (Z1 rfl underlying54 rfl sizeOf9 rfl) (pv (Z4 rfl isAgg9 (hS1.cell0 (i:=0) ⟨rfl,rfl⟩ (j:=0) rfl)) (wl rfl (bsS (r:=G9) (l:=([p1.Word]:List (List UInt8))) (css := [[qZs p1.Word]]) hS1 underlying74 sizeOf9 zeroValue9 rfl rfl (by kernel_rfl) rfl ⟨rfl,qZt⟩ rfl rfl fun w2 a2 n2 c2 im2 hS2 => ?_))))))
  obtain⟨T1,im3,hS3,h1⟩:=hS2.seal 0 ⟨rfl,rfl⟩
  have hsh:=h1.len
  subst hsh
  obtain⟨y1,hx1,hm⟩:=Q4 hm
  refine wl rfl (Z7 I6 rfl (Z2 (p0:=p0) (Q2:=Q2) (p1:=([p1.Word]:List (List UInt8))) (hS3.bun [1,2] [3,4] rfl) Q3 h1 hx1) rfl fun v1 T2 w3 im4 rv1 => ?_)
  obtain⟨a3,n3,c3,rfl,hS4,_⟩:=rv1
  have hS4:=hS4.unb
  refine nil (Q0 ?_)
  obtain⟨kk1,hkk1,hm⟩:=F6 hm
  refine cut (fun a w4 => ∃(J:JV) (T3:TP) (x2:Q5) (a4:OA) (n4:Nat) (c4:Nat),a=env (nf 25) J [(0,pt X4 X2),(3,pt b1 0)]∧Im T2 w3 T3 w4∧Sep g T3 w4 [J6 b1 (U3 p1),R,Q2 [.slice a4 n4 c4],G3 G9 9 (.slice a4 n4 c4) x2.l]∧kk1 x2=some r) ?_ ?_
  · refine sq2 (rg (pv (Z1 rfl underlying54 rfl sizeOf9 rfl) (pv (Z4 rfl isAgg9 (hS4.cell0 (i:=0) ⟨rfl,rfl⟩ (j:=0) rfl)) (pv (E7 rfl rfl) (nil (Q0 ?_))))))
    refine V3 rfl hm (fun hb1 hm => ?_) fun hb1 hm => ?_
    · refine rg (pv (Z9 rfl) (pv (Z1 rfl underlying54 rfl sizeOf9 rfl) (pv (Z4 rfl isAgg9 (hS4.cell0 (i:=0) ⟨rfl,rfl⟩ (j:=1) rfl)) (wl rfl (bsS (r:=G9) (l:=([p1.Name]:List (List UInt8))) (css := [[qZs p1.Name]]) hS4 underlying74 sizeOf9 zeroValue9 rfl rfl (by kernel_rfl) rfl ⟨rfl,qZt⟩ rfl rfl fun w5 a5 n5 c5 im6 hS5 => ?_)))))
      obtain⟨T4,im7,hS6,h2⟩:=hS5.seal 0 ⟨rfl,rfl⟩
      have hsh:=h2.len
      subst hsh
      obtain⟨y2,hx2,hm⟩:=Q4 hm
      refine wl rfl (Z7 I6 rfl (Z2 (p0:=y1) (Q2:=Q2) (p1:=([p1.Name]:List (List UInt8))) (hS6.bun [1,2] [3,4] rfl) Q3 h2 hx2) rfl fun v2 T5 w6 im8 rv2 => ?_)
      obtain⟨a6,n6,c6,rfl,hS7,_⟩:=rv2
      have hS7:=hS7.unb
      exact nil (Q0 ⟨_,_,y2,_,_,_,Q7 ⟨rfl,rfl,qZt⟩,(iT im6 (iT im7 im8)),hS7.sel [0,1,2,3] rfl,hm⟩)
    exact skp (Q0 ⟨_,_,y1,_,_,_,Q7 ⟨rfl,rfl,qZt⟩,Im.refl,hS4.sel [0,1,2,3] rfl,hm⟩)
  rintro _ w4 ⟨J,T3,x2,a4,n4,c4,rfl,im5,hS8,hm⟩
  rw [hkk1] at hm
  refine sq2 (rg (pv (Z1 rfl underlying54 rfl sizeOf3 rfl) (pv (Z4 rfl isAgg3 (hS8.cell0 (i:=0) ⟨rfl,rfl⟩ (j:=2) rfl)) (pv (U1 rfl) (nil (Q0 ?_))))))
  obtain⟨o1,ho1,hq1⟩:=Q4 hm
  obtain⟨bd1,hbd1,ho1⟩:=K3 ho1
  refine blk (wp_loop_ghost (fun m a w7 => ∃(J:JV) (T6:TP) (x5:Q5) (a7:OA) (n7:Nat) (c7:Nat) (x4:Int),a=env (nf 25) J [(0,pt X4 X2),(18,iv p1.Stars),(19,iv x4)]∧Im T3 w4 T6 w7∧Sep g T6 w7 [R,Q2 [.slice a7 n7 c7],G3 G9 9 (.slice a7 n7 c7) x5.l]∧V7 bd1 m (x4,x5)=some o1) NN ⟨_,_,x2,_,_,_,0,Q7 ⟨rfl,rfl,rfl,qZt⟩,Im.refl,hS8.sel [1,2,3] rfl,ho1⟩ ?_)
  rintro m _ w7 ⟨J,T6,x5,a7,n7,c7,x4,rfl,im9,hS9,ho1⟩
  obtain⟨m1,z1,rfl,hm,hn1⟩:=U4 ho1
  rw [hbd1] at hm
  refine sq2 (rg (pv (X7 rfl rfl rfl) (nil (Q0 ?_))))
  refine sq2 (cnd rfl (fun hb2 => ?_) (fun hb2 => ?_))
  · have hm:=V8 hb2 hm
    refine skp (Q0 ?_)
    refine sq2 (blk (rg (pv (Z9 rfl) (wl rfl (bsS (r:=G9) (l:=([([42]:List UInt8)]:List (List UInt8))) (css := [[qZs [42]]]) hS9 underlying74 sizeOf9 zeroValue9 rfl rfl (by kernel_rfl) rfl ⟨rfl,qZt⟩ rfl rfl fun w8 a8 n8 c8 im10 hS10 => ?_)))))
    obtain⟨T7,im11,hS11,h3⟩:=hS10.seal 0 ⟨rfl,rfl⟩
    have hsh:=h3.len
    subst hsh
    obtain⟨y3,hx3,hm⟩:=Q4 hm
    refine wl rfl (Z7 I6 rfl (Z2 (p0:=x5) (Q2:=Q2) (p1:=([([42]:List UInt8)]:List (List UInt8))) (hS11.bun [1] [2,3] rfl) Q3 h3 hx3) rfl fun v3 T8 w9 im12 rv3 => ?_)
    obtain⟨a9,n9,c9,rfl,hS12,_⟩:=rv3
    have hS12:=hS12.unb
    refine nil (U6 (Q0 ?_))
    cases oI hm
    exact rg (pv (X7 rfl rfl rfl) (pv (U1 rfl) (nil (Q0 ⟨m1,Nat.lt_succ_self _,_,_,y3,_,_,_,(IntKind.wrap .i64 (x4+1)),Q7 ⟨rfl,rfl,rfl,qZt⟩,(iT im9 (iT im10 (iT im11 im12))),hS12.sel [0,1,2] rfl,hn1⟩))))
  have hm:=X3 hb2 hm
  cases oI hm
  have hn1:_=Lp.brk _:=hn1
  subst hn1
  have hm:=F1 hq1
  cases oI hm
  exact xt (V9 (V9 (L5 (S7 rfl ⟨_,rfl,_,(iT im1 (iT im2 (iT im3 (iT im4 (iT im5 im9))))),⟨_,_,_,rfl,hS9.sel [0,1,2] rfl,qZt⟩⟩))))

theorem Q0c {p0:Q5} {X4 X2:Nat} {Q2:List Value→J7} {a1:OA} {n1:Nat} {c1:Nat} {p1:Int} {r:Q5} (hS:Sep g T0 w0 [R,Q2 [.slice a1 n1 c1],G3 G9 9 (.slice a1 n1 c1) p0.l]) (Q3:Ln X4 X2 Q2) (hG1:Gc T0 w0 1 (Lib.pow10Tab.map fun z=>Value.int .u64 z)) (hm:N5 p0 p1=some r) :
    Calls Tryz.prog 42 #[pt X4 X2,.int .u32 p1] w0 (E6 T0 w0 fun T w v => ∃(a4:OA) (n4:Nat) (c4:Nat),v = .tuple #[]∧Sep g T w [R,Q2 [.slice a4 n4 c4],G3 G9 9 (.slice a4 n4 c4) r.l]∧True):=by
  refine enter (args := [pt X4 X2,.int .u32 p1]) Tryz.func42 rfl Tryz.ntmps42 rfl fun J => ?_
  unfold N5 at hm
  obtain⟨y1,hx1,hm⟩:=Q4 hm
  refine rg (pv (Z9 rfl) (pv (U1 rfl) (pv (r_cv rfl underlying87 underlying134) (wl rfl (Z7 cf71 rfl (Q5p (p0:=IntKind.wrap .u64 p1) (p1:=10) (hS.bun [0,1,2] [] rfl) hG1 hx1) rfl fun v1 T1 w1 im1 rv1 => ?_)))))
  obtain⟨rfl,hS1,_⟩:=rv1
  have hS1:=hS1.unb
  refine wl rfl (bsS (r:=G9) (l:=([y1]:List (List UInt8))) (css := [[qZs y1]]) hS1 underlying74 sizeOf9 zeroValue9 rfl rfl (by kernel_rfl) rfl ⟨rfl,qZt⟩ rfl rfl fun w2 a2 n2 c2 im2 hS2 => ?_)
  obtain⟨T2,im3,hS3,h1⟩:=hS2.seal 0 ⟨rfl,rfl⟩
  have hsh:=h1.len
  subst hsh
  obtain⟨y2,hx2,hm⟩:=Q4 hm
  refine wl rfl (Z7 I6 rfl (Z2 (p0:=p0) (Q2:=Q2) (p1:=([y1]:List (List UInt8))) (hS3.bun [1] [2,3] rfl) Q3 h1 hx2) rfl fun v2 T3 w3 im4 rv2 => ?_)
  obtain⟨a3,n3,c3,rfl,hS4,_⟩:=rv2
  have hS4:=hS4.unb
  cases oI hm
  exact nil (S7 rfl ⟨_,rfl,_,(iT im1 (iT im2 (iT im3 im4))),⟨_,_,_,rfl,hS4.sel [0,1,2] rfl,qZt⟩⟩)

def O5 (F:Q5→Z6→Option (Q5)):Prop := ∀ {g:World} {T0:TP} {w0:World} {R:J7} {p0:Q5} {X4 X2:Nat} {Q2:List Value→J7} {a1:OA} {n1:Nat} {c1:Nat} {p1:Z6} {a2:OA} {c2:Nat} {r:Q5} (hS:Sep g T0 w0 [R,Q2 [.slice a1 n1 c1],G3 G9 9 (.slice a1 n1 c1) p0.l]) (Q3:Ln X4 X2 Q2) (h1:SlR X0 T0 w0 (sv a2 p1.Kids c2) p1.Kids) (hG1:Gc T0 w0 1 (Lib.pow10Tab.map fun z=>Value.int .u64 z)) (hm:F p0 p1=some r),
    Calls Tryz.prog 90 #[pt X4 X2,.agg (X8 p1 a2 c2).toArray] w0 (E6 T0 w0 fun T w v => ∃(a9:OA) (n8:Nat) (c9:Nat),v = .tuple #[]∧Sep g T w [R,Q2 [.slice a9 n8 c9],G3 G9 9 (.slice a9 n8 c9) r.l]∧True)
def O6 (F:Q5→Z6→(List UInt8)→Option (Q5)):Prop := ∀ {g:World} {T0:TP} {w0:World} {R:J7} {p0:Q5} {X4 X2:Nat} {Q2:List Value→J7} {a1:OA} {n1:Nat} {c1:Nat} {p1:Z6} {a2:OA} {c2:Nat} {p2:List UInt8} {r:Q5} (hS:Sep g T0 w0 [R,Q2 [.slice a1 n1 c1],G3 G9 9 (.slice a1 n1 c1) p0.l]) (Q3:Ln X4 X2 Q2) (h1:SlR X0 T0 w0 (sv a2 p1.Kids c2) p1.Kids) (hG1:Gc T0 w0 1 (Lib.pow10Tab.map fun z=>Value.int .u64 z)) (hm:F p0 p1 p2=some r),
    Calls Tryz.prog 91 #[pt X4 X2,.agg (X8 p1 a2 c2).toArray,qZs p2] w0 (E6 T0 w0 fun T w v => ∃(a9:OA) (n6:Nat) (c9:Nat),v = .tuple #[]∧Sep g T w [R,Q2 [.slice a9 n6 c9],G3 G9 9 (.slice a9 n6 c9) r.l]∧True)
def Q0e (F:Q5→Z6→Option (Q5)):Prop := ∀ {g:World} {T0:TP} {w0:World} {R:J7} {p0:Q5} {X4 X2:Nat} {Q2:List Value→J7} {a1:OA} {n1:Nat} {c1:Nat} {p1:Z6} {a2:OA} {c2:Nat} {r:Q5} (hS:Sep g T0 w0 [R,Q2 [.slice a1 n1 c1],G3 G9 9 (.slice a1 n1 c1) p0.l]) (Q3:Ln X4 X2 Q2) (h1:SlR X0 T0 w0 (sv a2 p1.Kids c2) p1.Kids) (hG1:Gc T0 w0 1 (Lib.pow10Tab.map fun z=>Value.int .u64 z)) (hm:F p0 p1=some r),
    Calls Tryz.prog 72 #[pt X4 X2,.agg (X8 p1 a2 c2).toArray] w0 (E6 T0 w0 fun T w v => ∃(a42:OA) (n35:Nat) (c42:Nat),v = .tuple #[]∧Sep g T w [R,Q2 [.slice a42 n35 c42],G3 G9 9 (.slice a42 n35 c42) r.l]∧True)
def Q0d (F:Q5→(List Z6)→Option (Q5)):Prop := ∀ {g:World} {T0:TP} {w0:World} {R:J7} {p0:Q5} {X4 X2:Nat} {Q2:List Value→J7} {a1:OA} {n1:Nat} {c1:Nat} {p1:List Z6} {a2:OA} {c2:Nat} {r:Q5} (hS:Sep g T0 w0 [R,Q2 [.slice a1 n1 c1],G3 G9 9 (.slice a1 n1 c1) p0.l]) (Q3:Ln X4 X2 Q2) (h1:SlR X0 T0 w0 (sv a2 p1 c2) p1) (hG1:Gc T0 w0 1 (Lib.pow10Tab.map fun z=>Value.int .u64 z)) (hm:F p0 p1=some r),
    Calls Tryz.prog 43 #[pt X4 X2,sv a2 p1 c2] w0 (E6 T0 w0 fun T w v => ∃(a9:OA) (n7:Nat) (c9:Nat),v = .tuple #[]∧Sep g T w [R,Q2 [.slice a9 n7 c9],G3 G9 9 (.slice a9 n7 c9) r.l]∧True)
structure Sp3 (G:Z2j):Prop where
  V0:O5 G.V0
  G2:O6 G.G2
  U8:Q0e G.U8
  K2:Q0d G.K2
theorem Q5n {G:Z2j} (hG:Sp3 G):O5 (P5 G) := @fun g T0 w0 R p0 X4 X2 Q2 a1 n1 c1 p1 a2 c2 r hS Q3 h1 hG1 hm=>by
  refine enter (args := [pt X4 X2,.agg (X8 p1 a2 c2).toArray]) Tryz.func90 rfl Tryz.ntmps90 rfl fun J => ?_
  unfold P5 at hm
  refine sq2 (rg (wl rfl (bxS (cs:=(X8 p1 a2 c2)) rfl rfl hS fun w1 b1 im1 hS1 => ?_)))
  refine nil (Q0 ?_)
  refine sq2 (sq2 (rg (pv (Z1 rfl underlying99 rfl sizeOf3 rfl) (pv (Z4 rfl isAgg3 (hS1.cell0 (i:=0) ⟨rfl,rfl⟩ (j:=0) rfl)) (nil (Q0 ?_))))))
  refine blk ?_
  obtain⟨kk1,hkk1,hm⟩:=F6 hm
  refine cut (fun a w2 => ∃(J:JV) (T1:TP) (x1:Bool),a=env (nf 25) J [(0,pt X4 X2),(3,pt b1 0),(6,.bool x1)]∧Im T0 w1 T1 w2∧Sep g T1 w2 [J6 b1 (X8 p1 a2 c2),R,Q2 [.slice a1 n1 c1],G3 G9 9 (.slice a1 n1 c1) p0.l]∧kk1 x1=some r) ?_ ?_
  · refine sq2 (rg (pv (X7 rfl rfl rfl) (pv (X5 rfl) (nil (Q0 ?_)))))
    refine V3 rfl hm (fun hb1 hm => ?_) fun hb1 hm => ?_
    · exact skp (Q0 ⟨_,_,(p1.Kind == 1),Q7 ⟨rfl,rfl,rfl,qZt⟩,Im.refl,hS1.sel [0,1,2,3] rfl,hm⟩)
    refine sq2 (rg (pv (X7 rfl rfl rfl) (pv (X5 rfl) (nil (Q0 ?_)))))
    refine V3 rfl hm (fun hb2 hm => ?_) fun hb2 hm => ?_
    · exact skp (Q0 ⟨_,_,(p1.Kind == 2),Q7 ⟨rfl,rfl,rfl,qZt⟩,Im.refl,hS1.sel [0,1,2,3] rfl,hm⟩)
    refine sq2 (rg (pv (X7 rfl rfl rfl) (pv (X5 rfl) (nil (Q0 ?_)))))
    refine V3 rfl hm (fun hb3 hm => ?_) fun hb3 hm => ?_
    · exact skp (Q0 ⟨_,_,(p1.Kind == 7),Q7 ⟨rfl,rfl,rfl,qZt⟩,Im.refl,hS1.sel [0,1,2,3] rfl,hm⟩)
    refine sq2 (rg (pv (X7 rfl rfl rfl) (pv (X5 rfl) (nil (Q0 ?_)))))
    refine V3 rfl hm (fun hb4 hm => ?_) fun hb4 hm => ?_
    · exact skp (Q0 ⟨_,_,(p1.Kind == 8),Q7 ⟨rfl,rfl,rfl,qZt⟩,Im.refl,hS1.sel [0,1,2,3] rfl,hm⟩)
    refine sq2 (rg (pv (X7 rfl rfl rfl) (pv (X5 rfl) (nil (Q0 ?_)))))
    refine V3 rfl hm (fun hb5 hm => ?_) fun hb5 hm => ?_
    · exact skp (Q0 ⟨_,_,(p1.Kind == 9),Q7 ⟨rfl,rfl,rfl,qZt⟩,Im.refl,hS1.sel [0,1,2,3] rfl,hm⟩)
    exact rg (pv (X7 rfl rfl rfl) (pv (X5 rfl) (nil (Q0 ⟨_,_,(p1.Kind == 12),Q7 ⟨rfl,rfl,rfl,qZt⟩,Im.refl,hS1.sel [0,1,2,3] rfl,hm⟩))))
  rintro _ w2 ⟨J,T1,x1,rfl,im2,hS2,hm⟩
  rw [hkk1] at hm
  refine V3 rfl hm (fun hb6 hm => ?_) fun hb6 hm => ?_
  · refine sq2 ?_
    obtain⟨y1,hx1,hm⟩:=Q4 hm
    refine rg (pv (Z9 rfl) (pv (Z5 rfl isAgg99 sizeOf99 rfl (hS2.cells0 (i:=0) ⟨rfl,rfl⟩ (o:=0) rfl) (cs:=(X8 p1 a2 c2))) (wl rfl (Z7 cf72 rfl (hG.U8 (p0:=p0) (Q2:=Q2) (p1:=p1) (hS2.bun [1] [2,3] rfl) Q3 (h1.mono (iT im1 im2)) (hG1.mono (iT im1 im2)) hx1) rfl fun v1 T2 w3 im3 rv1 => ?_))))
    obtain⟨a3,n2,c3,rfl,hS3,_⟩:=rv1
    have hS3:=hS3.unb
    refine nil (Q0 ?_)
    cases oI hm
    exact rtn (Y5 (Q6 (ret0 rfl ⟨_,rfl,_,(iT im1 (iT im2 im3)),⟨_,_,_,rfl,hS3.sel [0,1,2] rfl,qZt⟩⟩)))
  refine skp (U6 (Q0 ?_))
  refine sq2 (rg (pv (Z9 rfl) (wl rfl (bsS (r:=G9) (l:=([([40]:List UInt8)]:List (List UInt8))) (css := [[qZs [40]]]) hS2 underlying74 sizeOf9 zeroValue9 rfl rfl (by kernel_rfl) rfl ⟨rfl,qZt⟩ rfl rfl fun w4 a4 n3 c4 im4 hS4 => ?_))))
  obtain⟨T3,im5,hS5,h2⟩:=hS4.seal 0 ⟨rfl,rfl⟩
  have hsh:=h2.len
  subst hsh
  obtain⟨y2,hx2,hm⟩:=Q4 hm
  refine wl rfl (Z7 I6 rfl (Z2 (p0:=p0) (Q2:=Q2) (p1:=([([40]:List UInt8)]:List (List UInt8))) (hS5.bun [1,2] [3,4] rfl) Q3 h2 hx2) rfl fun v2 T4 w5 im6 rv2 => ?_)
  obtain⟨a5,n4,c5,rfl,hS6,_⟩:=rv2
  have hS6:=hS6.unb
  refine nil (Q0 ?_)
  refine sq2 ?_
  obtain⟨y3,hx3,hm⟩:=Q4 hm
  refine rg (pv (Z9 rfl) (pv (Z5 rfl isAgg99 sizeOf99 rfl (hS6.cells0 (i:=0) ⟨rfl,rfl⟩ (o:=0) rfl) (cs:=(X8 p1 a2 c2))) (wl rfl (Z7 cf72 rfl (hG.U8 (p0:=y2) (Q2:=Q2) (p1:=p1) (hS6.bun [1] [2,3] rfl) Q3 (h1.mono (iT im1 (iT im2 (iT im4 (iT im5 im6))))) (hG1.mono (iT im1 (iT im2 (iT im4 (iT im5 im6))))) hx3) rfl fun v3 T5 w6 im7 rv3 => ?_))))
  obtain⟨a6,n5,c6,rfl,hS7,_⟩:=rv3
  have hS7:=hS7.unb
  refine nil (Q0 ?_)
  refine rg (pv (Z9 rfl) (wl rfl (bsS (r:=G9) (l:=([([41]:List UInt8)]:List (List UInt8))) (css := [[qZs [41]]]) hS7 underlying74 sizeOf9 zeroValue9 rfl rfl (by kernel_rfl) rfl ⟨rfl,qZt⟩ rfl rfl fun w7 a7 n6 c7 im8 hS8 => ?_)))
  obtain⟨T6,im9,hS9,h3⟩:=hS8.seal 0 ⟨rfl,rfl⟩
  have hsh:=h3.len
  subst hsh
  obtain⟨y4,hx4,hm⟩:=Q4 hm
  refine wl rfl (Z7 I6 rfl (Z2 (p0:=y3) (Q2:=Q2) (p1:=([([41]:List UInt8)]:List (List UInt8))) (hS9.bun [1] [2,3] rfl) Q3 h3 hx4) rfl fun v4 T7 w8 im10 rv4 => ?_)
  obtain⟨a8,n7,c8,rfl,hS10,_⟩:=rv4
  have hS10:=hS10.unb
  cases oI hm
  exact nil (S7 rfl ⟨_,rfl,_,(iT im1 (iT im2 (iT im4 (iT im5 (iT im6 (iT im7 (iT im8 (iT im9 im10)))))))),⟨_,_,_,rfl,hS10.sel [0,1,2] rfl,qZt⟩⟩)
theorem Q5o {G:Z2j} (hG:Sp3 G):O6 (P6 G) := @fun g T0 w0 R p0 X4 X2 Q2 a1 n1 c1 p1 a2 c2 p2 r hS Q3 h1 hG1 hm=>by
  refine enter (args := [pt X4 X2,.agg (X8 p1 a2 c2).toArray,qZs p2]) Tryz.func91 rfl Tryz.ntmps91 rfl fun J => ?_
  unfold P6 at hm
  refine sq2 (rg (wl rfl (bxS (cs:=(X8 p1 a2 c2)) rfl rfl hS fun w1 b1 im1 hS1 => ?_)))
  refine nil (Q0 ?_)
  refine sq2 ?_
  obtain⟨u1,hx1,hm⟩:=Q4 hm
  obtain⟨b2,of1,cs1,k1,cp1,hv1,hp1,hl1,he1,hr1,hc1,hT1⟩:=(h1.mono im1).ixT hx1 rfl
  obtain⟨a3,c3,rfl,h2⟩:=H4 hr1
  obtain⟨y1,hx2,hm⟩:=Q4 hm
  refine rg (pv (Z9 rfl) (pv (Z1 rfl underlying99 rfl sizeOf56 rfl) (pv (Z4 rfl isAgg56 (hS1.cell0 (i:=0) ⟨rfl,rfl⟩ (j:=9) rfl)) (pv (B2 hv1 rfl underlying56 sizeOf99 hp1 hl1 he1) (pv (Z5 rfl isAgg99 sizeOf99 rfl hc1 (cs:=(X8 u1 a3 c3))) (wl rfl (Z7 cf90 rfl (hG.V0 (p0:=p0) (Q2:=Q2) (p1:=u1) (hS1.bun [0,1] [2,3] rfl) Q3 h2 (hG1.mono im1) hx2) rfl fun v1 T1 w2 im2 rv1 => ?_)))))))
  obtain⟨a4,n2,c4,rfl,hS2,_⟩:=rv1
  have hS2:=hS2.unb
  refine nil (Q0 ?_)
  refine sq2 (rg (pv (Z9 rfl) (pv (P2 rfl) (wl rfl (bsS (r:=G9) (l:=([p2]:List (List UInt8))) (css := [[qZs p2]]) hS2 underlying74 sizeOf9 zeroValue9 rfl rfl (by kernel_rfl) rfl ⟨rfl,qZt⟩ rfl rfl fun w3 a5 n3 c5 im3 hS3 => ?_)))))
  obtain⟨T2,im4,hS4,h3⟩:=hS3.seal 0 ⟨rfl,rfl⟩
  have hsh:=h3.len
  subst hsh
  obtain⟨y2,hx3,hm⟩:=Q4 hm
  refine wl rfl (Z7 I6 rfl (Z2 (p0:=y1) (Q2:=Q2) (p1:=([p2]:List (List UInt8))) (hS4.bun [1,2] [3,4] rfl) Q3 h3 hx3) rfl fun v2 T3 w4 im5 rv2 => ?_)
  obtain⟨a6,n4,c6,rfl,hS5,_⟩:=rv2
  have hS5:=hS5.unb
  refine nil (Q0 ?_)
  obtain⟨u2,hx4,hm⟩:=Q4 hm
  obtain⟨b3,of2,cs2,k2,cp2,hv2,hp2,hl2,he2,hr2,hc2,hT2⟩:=(h1.mono (iT im1 (iT im2 (iT im3 (iT im4 im5))))).ixT hx4 rfl
  obtain⟨a7,c7,rfl,h4⟩:=H4 hr2
  obtain⟨y3,hx5,hm⟩:=Q4 hm
  refine rg (pv (Z9 rfl) (pv (Z1 rfl underlying99 rfl sizeOf56 rfl) (pv (Z4 rfl isAgg56 (hS5.cell0 (i:=0) ⟨rfl,rfl⟩ (j:=9) rfl)) (pv (B2 hv2 rfl underlying56 sizeOf99 hp2 hl2 he2) (pv (Z5 rfl isAgg99 sizeOf99 rfl hc2 (cs:=(X8 u2 a7 c7))) (wl rfl (Z7 cf90 rfl (hG.V0 (p0:=y2) (Q2:=Q2) (p1:=u2) (hS5.bun [1] [2,3] rfl) Q3 h4 (hG1.mono (iT im1 (iT im2 (iT im3 (iT im4 im5))))) hx5) rfl fun v3 T4 w5 im6 rv3 => ?_)))))))
  obtain⟨a8,n5,c8,rfl,hS6,_⟩:=rv3
  have hS6:=hS6.unb
  cases oI hm
  exact nil (S7 rfl ⟨_,rfl,_,(iT im1 (iT im2 (iT im3 (iT im4 (iT im5 im6))))),⟨_,_,_,rfl,hS6.sel [0,1,2] rfl,qZt⟩⟩)
theorem Q7r {G:Z2j} (hG:Sp3 G):Q0e (C4 G) := @fun g T0 w0 R p0 X4 X2 Q2 a1 n1 c1 p1 a2 c2 r hS Q3 h1 hG1 hm=>by
  refine enter (args := [pt X4 X2,.agg (X8 p1 a2 c2).toArray]) Tryz.func72 rfl Tryz.ntmps72 rfl fun J => ?_
  unfold C4 at hm
  refine sq2 (rg (wl rfl (bxS (cs:=(X8 p1 a2 c2)) rfl rfl hS fun w1 b1 im1 hS1 => ?_)))
  refine nil (Q0 ?_)
  refine sq2 (rg (pv (Z1 rfl underlying99 rfl sizeOf3 rfl) (pv (Z4 rfl isAgg3 (hS1.cell0 (i:=0) ⟨rfl,rfl⟩ (j:=0) rfl)) (nil (Q0 ?_)))))
  refine blk (sq2 (rg (pv (X7 rfl rfl rfl) (pv (X5 rfl) (nil (Q0 ?_))))))
  refine V3 rfl hm (fun hb1 hm => ?_) fun hb1 hm => ?_
  · obtain⟨y1,hx1,hm⟩:=Q4 hm
    refine rg (pv (Z9 rfl) (pv (Z1 rfl underlying99 rfl sizeOf87 rfl) (pv (Z4 rfl isAgg87 (hS1.cell0 (i:=0) ⟨rfl,rfl⟩ (j:=5) rfl)) (wl rfl (Z7 cf42 rfl (Q0c (p0:=p0) (Q2:=Q2) (p1:=p1.Num) (hS1.bun [1] [2,3] rfl) Q3 (hG1.mono im1) hx1) rfl fun v1 T1 w2 im2 rv1 => ?_)))))
    obtain⟨a3,n2,c3,rfl,hS2,_⟩:=rv1
    have hS2:=hS2.unb
    cases oI hm
    exact nil (U6 (S7 rfl ⟨_,rfl,_,(iT im1 im2),⟨_,_,_,rfl,hS2.sel [0,1,2] rfl,qZt⟩⟩))
  refine sq2 (rg (pv (X7 rfl rfl rfl) (pv (X5 rfl) (nil (Q0 ?_)))))
  refine V3 rfl hm (fun hb2 hm => ?_) fun hb2 hm => ?_
  · refine rg (pv (Z9 rfl) (pv (Z1 rfl underlying99 rfl sizeOf9 rfl) (pv (Z4 rfl isAgg9 (hS1.cell0 (i:=0) ⟨rfl,rfl⟩ (j:=4) rfl)) (wl rfl (bsS (r:=G9) (l:=([p1.Name]:List (List UInt8))) (css := [[qZs p1.Name]]) hS1 underlying74 sizeOf9 zeroValue9 rfl rfl (by kernel_rfl) rfl ⟨rfl,qZt⟩ rfl rfl fun w3 a4 n3 c4 im3 hS3 => ?_)))))
    obtain⟨T2,im4,hS4,h2⟩:=hS3.seal 0 ⟨rfl,rfl⟩
    have hsh:=h2.len
    subst hsh
    obtain⟨y2,hx2,hm⟩:=Q4 hm
    refine wl rfl (Z7 I6 rfl (Z2 (p0:=p0) (Q2:=Q2) (p1:=([p1.Name]:List (List UInt8))) (hS4.bun [2] [3,4] rfl) Q3 h2 hx2) rfl fun v2 T3 w4 im5 rv2 => ?_)
    obtain⟨a5,n4,c5,rfl,hS5,_⟩:=rv2
    have hS5:=hS5.unb
    cases oI hm
    exact nil (U6 (S7 rfl ⟨_,rfl,_,(iT im1 (iT im3 (iT im4 im5))),⟨_,_,_,rfl,hS5.sel [0,1,2] rfl,qZt⟩⟩))
  obtain⟨kk1,hkk1,hm⟩:=F6 hm
  refine cut (fun a w5 => ∃(J:JV) (T4:TP) (x1:Bool),a=env (nf 129) J [(0,pt X4 X2),(3,pt b1 0),(5,iv p1.Kind),(19,.bool x1)]∧Im T0 w1 T4 w5∧Sep g T4 w5 [J6 b1 (X8 p1 a2 c2),R,Q2 [.slice a1 n1 c1],G3 G9 9 (.slice a1 n1 c1) p0.l]∧kk1 x1=some r) ?_ ?_
  · refine sq2 (rg (pv (X7 rfl rfl rfl) (pv (X5 rfl) (nil (Q0 ?_)))))
    refine V3 rfl hm (fun hb3 hm => ?_) fun hb3 hm => ?_
    · exact skp (Q0 ⟨_,_,(p1.Kind == 3),Q7 ⟨rfl,rfl,rfl,rfl,qZt⟩,Im.refl,hS1.sel [0,1,2,3] rfl,hm⟩)
    exact rg (pv (X7 rfl rfl rfl) (pv (X5 rfl) (nil (Q0 ⟨_,_,(p1.Kind == 10),Q7 ⟨rfl,rfl,rfl,rfl,qZt⟩,Im.refl,hS1.sel [0,1,2,3] rfl,hm⟩))))
  rintro _ w5 ⟨J,T4,x1,rfl,im6,hS6,hm⟩
  rw [hkk1] at hm
  refine V3 rfl hm (fun hb4 hm => ?_) fun hb4 hm => ?_
  · refine sq2 (rg (pv (Z9 rfl) (pv (Z1 rfl underlying99 rfl sizeOf9 rfl) (pv (Z4 rfl isAgg9 (hS6.cell0 (i:=0) ⟨rfl,rfl⟩ (j:=3) rfl)) (wl rfl (bsS (r:=G9) (l:=([p1.Op]:List (List UInt8))) (css := [[qZs p1.Op]]) hS6 underlying74 sizeOf9 zeroValue9 rfl rfl (by kernel_rfl) rfl ⟨rfl,qZt⟩ rfl rfl fun w6 a6 n5 c6 im7 hS7 => ?_))))))
    obtain⟨T5,im8,hS8,h3⟩:=hS7.seal 0 ⟨rfl,rfl⟩
    have hsh:=h3.len
    subst hsh
    obtain⟨y3,hx3,hm⟩:=Q4 hm
    refine wl rfl (Z7 I6 rfl (Z2 (p0:=p0) (Q2:=Q2) (p1:=([p1.Op]:List (List UInt8))) (hS8.bun [1,2] [3,4] rfl) Q3 h3 hx3) rfl fun v3 T6 w7 im9 rv3 => ?_)
    obtain⟨a7,n6,c7,rfl,hS9,_⟩:=rv3
    have hS9:=hS9.unb
    refine nil (Q0 ?_)
    obtain⟨u1,hx4,hm⟩:=Q4 hm
    obtain⟨b2,of1,cs1,k1,cp1,hv1,hp1,hl1,he1,hr1,hc1,hT1⟩:=(h1.mono (iT im1 (iT im6 (iT im7 (iT im8 im9))))).ixT hx4 rfl
    obtain⟨a8,c8,rfl,h4⟩:=H4 hr1
    obtain⟨y4,hx5,hm⟩:=Q4 hm
    refine rg (pv (Z9 rfl) (pv (Z1 rfl underlying99 rfl sizeOf56 rfl) (pv (Z4 rfl isAgg56 (hS9.cell0 (i:=0) ⟨rfl,rfl⟩ (j:=9) rfl)) (pv (B2 hv1 rfl underlying56 sizeOf99 hp1 hl1 he1) (pv (Z5 rfl isAgg99 sizeOf99 rfl hc1 (cs:=(X8 u1 a8 c8))) (wl rfl (Z7 cf90 rfl (hG.V0 (p0:=y3) (Q2:=Q2) (p1:=u1) (hS9.bun [1] [2,3] rfl) Q3 h4 (hG1.mono (iT im1 (iT im6 (iT im7 (iT im8 im9))))) hx5) rfl fun v4 T7 w8 im10 rv4 => ?_)))))))
    obtain⟨a9,n7,c9,rfl,hS10,_⟩:=rv4
    have hS10:=hS10.unb
    cases oI hm
    exact nil (U6 (S7 rfl ⟨_,rfl,_,(iT im1 (iT im6 (iT im7 (iT im8 (iT im9 im10))))),⟨_,_,_,rfl,hS10.sel [0,1,2] rfl,qZt⟩⟩))
  obtain⟨kk2,hkk2,hm⟩:=F6 hm
  refine cut (fun a w9 => ∃(J:JV) (T8:TP) (x2:Bool),a=env (nf 129) J [(0,pt X4 X2),(3,pt b1 0),(5,iv p1.Kind),(33,.bool x2)]∧Im T4 w5 T8 w9∧Sep g T8 w9 [J6 b1 (X8 p1 a2 c2),R,Q2 [.slice a1 n1 c1],G3 G9 9 (.slice a1 n1 c1) p0.l]∧kk2 x2=some r) ?_ ?_
  · refine sq2 (rg (pv (X7 rfl rfl rfl) (pv (X5 rfl) (nil (Q0 ?_)))))
    refine V3 rfl hm (fun hb5 hm => ?_) fun hb5 hm => ?_
    · exact skp (Q0 ⟨_,_,(p1.Kind == 4),Q7 ⟨rfl,rfl,rfl,rfl,qZt⟩,Im.refl,hS6.sel [0,1,2,3] rfl,hm⟩)
    exact rg (pv (X7 rfl rfl rfl) (pv (X5 rfl) (nil (Q0 ⟨_,_,(p1.Kind == 5),Q7 ⟨rfl,rfl,rfl,rfl,qZt⟩,Im.refl,hS6.sel [0,1,2,3] rfl,hm⟩))))
  rintro _ w9 ⟨J,T8,x2,rfl,im11,hS11,hm⟩
  rw [hkk2] at hm
  refine V3 rfl hm (fun hb6 hm => ?_) fun hb6 hm => ?_
  · obtain⟨y5,hx6,hm⟩:=Q4 hm
    refine rg (pv (Z9 rfl) (pv (Z5 rfl isAgg99 sizeOf99 rfl (hS11.cells0 (i:=0) ⟨rfl,rfl⟩ (o:=0) rfl) (cs:=(X8 p1 a2 c2))) (pv (Z1 rfl underlying99 rfl sizeOf9 rfl) (pv (Z4 rfl isAgg9 (hS11.cell0 (i:=0) ⟨rfl,rfl⟩ (j:=3) rfl)) (wl rfl (Z7 cf91 rfl (hG.G2 (p0:=p0) (Q2:=Q2) (p1:=p1) (p2:=p1.Op) (hS11.bun [1] [2,3] rfl) Q3 (h1.mono (iT im1 (iT im6 im11))) (hG1.mono (iT im1 (iT im6 im11))) hx6) rfl fun v5 T9 w10 im12 rv5 => ?_))))))
    obtain⟨a10,n8,c10,rfl,hS12,_⟩:=rv5
    have hS12:=hS12.unb
    cases oI hm
    exact nil (U6 (S7 rfl ⟨_,rfl,_,(iT im1 (iT im6 (iT im11 im12))),⟨_,_,_,rfl,hS12.sel [0,1,2] rfl,qZt⟩⟩))
  refine sq2 (rg (pv (X7 rfl rfl rfl) (pv (X5 rfl) (nil (Q0 ?_)))))
  refine V3 rfl hm (fun hb7 hm => ?_) fun hb7 hm => ?_
  · refine sq2 ?_
    obtain⟨y6,hx7,hm⟩:=Q4 hm
    refine rg (pv (Z9 rfl) (pv (Z5 rfl isAgg99 sizeOf99 rfl (hS11.cells0 (i:=0) ⟨rfl,rfl⟩ (o:=0) rfl) (cs:=(X8 p1 a2 c2))) (wl rfl (Z7 cf91 rfl (hG.G2 (p0:=p0) (Q2:=Q2) (p1:=p1) (p2 := [63]) (hS11.bun [0,1] [2,3] rfl) Q3 (h1.mono (iT im1 (iT im6 im11))) (hG1.mono (iT im1 (iT im6 im11))) hx7) rfl fun v6 T10 w11 im13 rv6 => ?_))))
    obtain⟨a11,n9,c11,rfl,hS13,_⟩:=rv6
    have hS13:=hS13.unb
    refine nil (Q0 ?_)
    refine sq2 (rg (pv (Z9 rfl) (wl rfl (bsS (r:=G9) (l:=([([58]:List UInt8)]:List (List UInt8))) (css := [[qZs [58]]]) hS13 underlying74 sizeOf9 zeroValue9 rfl rfl (by kernel_rfl) rfl ⟨rfl,qZt⟩ rfl rfl fun w12 a12 n10 c12 im14 hS14 => ?_))))
    obtain⟨T11,im15,hS15,h5⟩:=hS14.seal 0 ⟨rfl,rfl⟩
    have hsh:=h5.len
    subst hsh
    obtain⟨y7,hx8,hm⟩:=Q4 hm
    refine wl rfl (Z7 I6 rfl (Z2 (p0:=y6) (Q2:=Q2) (p1:=([([58]:List UInt8)]:List (List UInt8))) (hS15.bun [1,2] [3,4] rfl) Q3 h5 hx8) rfl fun v7 T12 w13 im16 rv7 => ?_)
    obtain⟨a13,n11,c13,rfl,hS16,_⟩:=rv7
    have hS16:=hS16.unb
    refine nil (Q0 ?_)
    obtain⟨u2,hx9,hm⟩:=Q4 hm
    obtain⟨b3,of2,cs2,k2,cp2,hv2,hp2,hl2,he2,hr2,hc2,hT2⟩:=(h1.mono (iT im1 (iT im6 (iT im11 (iT im13 (iT im14 (iT im15 im16))))))).ixT hx9 rfl
    obtain⟨a14,c14,rfl,h6⟩:=H4 hr2
    obtain⟨y8,hx10,hm⟩:=Q4 hm
    refine rg (pv (Z9 rfl) (pv (Z1 rfl underlying99 rfl sizeOf56 rfl) (pv (Z4 rfl isAgg56 (hS16.cell0 (i:=0) ⟨rfl,rfl⟩ (j:=9) rfl)) (pv (B2 hv2 rfl underlying56 sizeOf99 hp2 hl2 he2) (pv (Z5 rfl isAgg99 sizeOf99 rfl hc2 (cs:=(X8 u2 a14 c14))) (wl rfl (Z7 cf90 rfl (hG.V0 (p0:=y7) (Q2:=Q2) (p1:=u2) (hS16.bun [1] [2,3] rfl) Q3 h6 (hG1.mono (iT im1 (iT im6 (iT im11 (iT im13 (iT im14 (iT im15 im16))))))) hx10) rfl fun v8 T13 w14 im17 rv8 => ?_)))))))
    obtain⟨a15,n12,c15,rfl,hS17,_⟩:=rv8
    have hS17:=hS17.unb
    cases oI hm
    exact nil (U6 (S7 rfl ⟨_,rfl,_,(iT im1 (iT im6 (iT im11 (iT im13 (iT im14 (iT im15 (iT im16 im17))))))),⟨_,_,_,rfl,hS17.sel [0,1,2] rfl,qZt⟩⟩))
  refine sq2 (rg (pv (X7 rfl rfl rfl) (pv (X5 rfl) (nil (Q0 ?_)))))
  refine V3 rfl hm (fun hb8 hm => ?_) fun hb8 hm => ?_
  · refine sq2 (rg (pv (Z9 rfl) (pv (Z1 rfl underlying99 rfl sizeOf9 rfl) (pv (Z4 rfl isAgg9 (hS11.cell0 (i:=0) ⟨rfl,rfl⟩ (j:=4) rfl)) (wl rfl (bsS (r:=G9) (l:=([p1.Name,([40]:List UInt8)]:List (List UInt8))) (css := [[qZs p1.Name],[qZs [40]]]) hS11 underlying74 sizeOf9 zeroValue9 rfl rfl (by kernel_rfl) rfl ⟨rfl,rfl,qZt⟩ rfl rfl fun w15 a16 n13 c16 im18 hS18 => ?_))))))
    obtain⟨T14,im19,hS19,h7⟩:=hS18.seal 0 ⟨rfl,rfl⟩
    have hsh:=h7.len
    subst hsh
    obtain⟨y9,hx11,hm⟩:=Q4 hm
    refine wl rfl (Z7 I6 rfl (Z2 (p0:=p0) (Q2:=Q2) (p1:=([p1.Name,([40]:List UInt8)]:List (List UInt8))) (hS19.bun [1,2] [3,4] rfl) Q3 h7 hx11) rfl fun v9 T15 w16 im20 rv9 => ?_)
    obtain⟨a17,n14,c17,rfl,hS20,_⟩:=rv9
    have hS20:=hS20.unb
    refine nil (Q0 ?_)
    refine sq2 ?_
    obtain⟨y10,hx12,hm⟩:=Q4 hm
    refine rg (pv (Z9 rfl) (pv (Z1 rfl underlying99 rfl sizeOf56 rfl) (pv (Z4 rfl isAgg56 (hS20.cell0 (i:=0) ⟨rfl,rfl⟩ (j:=9) rfl)) (wl rfl (Z7 cf43 rfl (hG.K2 (p0:=y9) (Q2:=Q2) (p1:=p1.Kids) (hS20.bun [1] [2,3] rfl) Q3 (h1.mono (iT im1 (iT im6 (iT im11 (iT im18 (iT im19 im20)))))) (hG1.mono (iT im1 (iT im6 (iT im11 (iT im18 (iT im19 im20)))))) hx12) rfl fun v10 T16 w17 im21 rv10 => ?_)))))
    obtain⟨a18,n15,c18,rfl,hS21,_⟩:=rv10
    have hS21:=hS21.unb
    refine nil (Q0 ?_)
    refine rg (pv (Z9 rfl) (wl rfl (bsS (r:=G9) (l:=([([41]:List UInt8)]:List (List UInt8))) (css := [[qZs [41]]]) hS21 underlying74 sizeOf9 zeroValue9 rfl rfl (by kernel_rfl) rfl ⟨rfl,qZt⟩ rfl rfl fun w18 a19 n16 c19 im22 hS22 => ?_)))
    obtain⟨T17,im23,hS23,h8⟩:=hS22.seal 0 ⟨rfl,rfl⟩
    have hsh:=h8.len
    subst hsh
    obtain⟨y11,hx13,hm⟩:=Q4 hm
    refine wl rfl (Z7 I6 rfl (Z2 (p0:=y10) (Q2:=Q2) (p1:=([([41]:List UInt8)]:List (List UInt8))) (hS23.bun [1] [2,3] rfl) Q3 h8 hx13) rfl fun v11 T18 w19 im24 rv11 => ?_)
    obtain⟨a20,n17,c20,rfl,hS24,_⟩:=rv11
    have hS24:=hS24.unb
    cases oI hm
    exact nil (U6 (S7 rfl ⟨_,rfl,_,(iT im1 (iT im6 (iT im11 (iT im18 (iT im19 (iT im20 (iT im21 (iT im22 (iT im23 im24))))))))),⟨_,_,_,rfl,hS24.sel [0,1,2] rfl,qZt⟩⟩))
  refine sq2 (rg (pv (X7 rfl rfl rfl) (pv (X5 rfl) (nil (Q0 ?_)))))
  refine V3 rfl hm (fun hb9 hm => ?_) fun hb9 hm => ?_
  · refine sq2 ?_
    obtain⟨u3,hx14,hm⟩:=Q4 hm
    obtain⟨b4,of3,cs3,k3,cp3,hv3,hp3,hl3,he3,hr3,hc3,hT3⟩:=(h1.mono (iT im1 (iT im6 im11))).ixT hx14 rfl
    obtain⟨a21,c21,rfl,h9⟩:=H4 hr3
    obtain⟨y12,hx15,hm⟩:=Q4 hm
    refine rg (pv (Z9 rfl) (pv (Z1 rfl underlying99 rfl sizeOf56 rfl) (pv (Z4 rfl isAgg56 (hS11.cell0 (i:=0) ⟨rfl,rfl⟩ (j:=9) rfl)) (pv (B2 hv3 rfl underlying56 sizeOf99 hp3 hl3 he3) (pv (Z5 rfl isAgg99 sizeOf99 rfl hc3 (cs:=(X8 u3 a21 c21))) (wl rfl (Z7 cf90 rfl (hG.V0 (p0:=p0) (Q2:=Q2) (p1:=u3) (hS11.bun [0,1] [2,3] rfl) Q3 h9 (hG1.mono (iT im1 (iT im6 im11))) hx15) rfl fun v12 T19 w20 im25 rv12 => ?_)))))))
    obtain⟨a22,n18,c22,rfl,hS25,_⟩:=rv12
    have hS25:=hS25.unb
    refine nil (Q0 ?_)
    refine sq2 (rg (pv (Z9 rfl) (wl rfl (bsS (r:=G9) (l:=([([91]:List UInt8)]:List (List UInt8))) (css := [[qZs [91]]]) hS25 underlying74 sizeOf9 zeroValue9 rfl rfl (by kernel_rfl) rfl ⟨rfl,qZt⟩ rfl rfl fun w21 a23 n19 c23 im26 hS26 => ?_))))
    obtain⟨T20,im27,hS27,h10⟩:=hS26.seal 0 ⟨rfl,rfl⟩
    have hsh:=h10.len
    subst hsh
    obtain⟨y13,hx16,hm⟩:=Q4 hm
    refine wl rfl (Z7 I6 rfl (Z2 (p0:=y12) (Q2:=Q2) (p1:=([([91]:List UInt8)]:List (List UInt8))) (hS27.bun [1,2] [3,4] rfl) Q3 h10 hx16) rfl fun v13 T21 w22 im28 rv13 => ?_)
    obtain⟨a24,n20,c24,rfl,hS28,_⟩:=rv13
    have hS28:=hS28.unb
    refine nil (Q0 ?_)
    refine sq2 ?_
    obtain⟨u4,hx17,hm⟩:=Q4 hm
    obtain⟨b5,of4,cs4,k4,cp4,hv4,hp4,hl4,he4,hr4,hc4,hT4⟩:=(h1.mono (iT im1 (iT im6 (iT im11 (iT im25 (iT im26 (iT im27 im28))))))).ixT hx17 rfl
    obtain⟨a25,c25,rfl,h11⟩:=H4 hr4
    obtain⟨y14,hx18,hm⟩:=Q4 hm
    refine rg (pv (Z9 rfl) (pv (Z1 rfl underlying99 rfl sizeOf56 rfl) (pv (Z4 rfl isAgg56 (hS28.cell0 (i:=0) ⟨rfl,rfl⟩ (j:=9) rfl)) (pv (B2 hv4 rfl underlying56 sizeOf99 hp4 hl4 he4) (pv (Z5 rfl isAgg99 sizeOf99 rfl hc4 (cs:=(X8 u4 a25 c25))) (wl rfl (Z7 cf72 rfl (hG.U8 (p0:=y13) (Q2:=Q2) (p1:=u4) (hS28.bun [1] [2,3] rfl) Q3 h11 (hG1.mono (iT im1 (iT im6 (iT im11 (iT im25 (iT im26 (iT im27 im28))))))) hx18) rfl fun v14 T22 w23 im29 rv14 => ?_)))))))
    obtain⟨a26,n21,c26,rfl,hS29,_⟩:=rv14
    have hS29:=hS29.unb
    refine nil (Q0 ?_)
    refine rg (pv (Z9 rfl) (wl rfl (bsS (r:=G9) (l:=([([93]:List UInt8)]:List (List UInt8))) (css := [[qZs [93]]]) hS29 underlying74 sizeOf9 zeroValue9 rfl rfl (by kernel_rfl) rfl ⟨rfl,qZt⟩ rfl rfl fun w24 a27 n22 c27 im30 hS30 => ?_)))
    obtain⟨T23,im31,hS31,h12⟩:=hS30.seal 0 ⟨rfl,rfl⟩
    have hsh:=h12.len
    subst hsh
    obtain⟨y15,hx19,hm⟩:=Q4 hm
    refine wl rfl (Z7 I6 rfl (Z2 (p0:=y14) (Q2:=Q2) (p1:=([([93]:List UInt8)]:List (List UInt8))) (hS31.bun [1] [2,3] rfl) Q3 h12 hx19) rfl fun v15 T24 w25 im32 rv15 => ?_)
    obtain⟨a28,n23,c28,rfl,hS32,_⟩:=rv15
    have hS32:=hS32.unb
    cases oI hm
    exact nil (U6 (S7 rfl ⟨_,rfl,_,(iT im1 (iT im6 (iT im11 (iT im25 (iT im26 (iT im27 (iT im28 (iT im29 (iT im30 (iT im31 im32)))))))))),⟨_,_,_,rfl,hS32.sel [0,1,2] rfl,qZt⟩⟩))
  refine sq2 (rg (pv (X7 rfl rfl rfl) (pv (X5 rfl) (nil (Q0 ?_)))))
  refine V3 rfl hm (fun hb10 hm => ?_) fun hb10 hm => ?_
  · refine sq2 ?_
    obtain⟨u5,hx20,hm⟩:=Q4 hm
    obtain⟨b6,of5,cs5,k5,cp5,hv5,hp5,hl5,he5,hr5,hc5,hT5⟩:=(h1.mono (iT im1 (iT im6 im11))).ixT hx20 rfl
    obtain⟨a29,c29,rfl,h13⟩:=H4 hr5
    obtain⟨y16,hx21,hm⟩:=Q4 hm
    refine rg (pv (Z9 rfl) (pv (Z1 rfl underlying99 rfl sizeOf56 rfl) (pv (Z4 rfl isAgg56 (hS11.cell0 (i:=0) ⟨rfl,rfl⟩ (j:=9) rfl)) (pv (B2 hv5 rfl underlying56 sizeOf99 hp5 hl5 he5) (pv (Z5 rfl isAgg99 sizeOf99 rfl hc5 (cs:=(X8 u5 a29 c29))) (wl rfl (Z7 cf90 rfl (hG.V0 (p0:=p0) (Q2:=Q2) (p1:=u5) (hS11.bun [0,1] [2,3] rfl) Q3 h13 (hG1.mono (iT im1 (iT im6 im11))) hx21) rfl fun v16 T25 w26 im33 rv16 => ?_)))))))
    obtain⟨a30,n24,c30,rfl,hS33,_⟩:=rv16
    have hS33:=hS33.unb
    refine nil (Q0 ?_)
    refine rg (pv (Z9 rfl) (pv (Z1 rfl underlying99 rfl sizeOf9 rfl) (pv (Z4 rfl isAgg9 (hS33.cell0 (i:=0) ⟨rfl,rfl⟩ (j:=3) rfl)) (pv (Z1 rfl underlying99 rfl sizeOf9 rfl) (pv (Z4 rfl isAgg9 (hS33.cell0 (i:=0) ⟨rfl,rfl⟩ (j:=4) rfl)) (wl rfl (bsS (r:=G9) (l:=([p1.Op,p1.Name]:List (List UInt8))) (css := [[qZs p1.Op],[qZs p1.Name]]) hS33 underlying74 sizeOf9 zeroValue9 rfl rfl (by kernel_rfl) rfl ⟨rfl,rfl,qZt⟩ rfl rfl fun w27 a31 n25 c31 im34 hS34 => ?_)))))))
    obtain⟨T26,im35,hS35,h14⟩:=hS34.seal 0 ⟨rfl,rfl⟩
    have hsh:=h14.len
    subst hsh
    obtain⟨y17,hx22,hm⟩:=Q4 hm
    refine wl rfl (Z7 I6 rfl (Z2 (p0:=y16) (Q2:=Q2) (p1:=([p1.Op,p1.Name]:List (List UInt8))) (hS35.bun [2] [3,4] rfl) Q3 h14 hx22) rfl fun v17 T27 w28 im36 rv17 => ?_)
    obtain⟨a32,n26,c32,rfl,hS36,_⟩:=rv17
    have hS36:=hS36.unb
    cases oI hm
    exact nil (U6 (S7 rfl ⟨_,rfl,_,(iT im1 (iT im6 (iT im11 (iT im33 (iT im34 (iT im35 im36)))))),⟨_,_,_,rfl,hS36.sel [0,1,2] rfl,qZt⟩⟩))
  refine sq2 (rg (pv (X7 rfl rfl rfl) (pv (X5 rfl) (nil (Q0 ?_)))))
  refine V3 rfl hm (fun hb11 hm => ?_) fun hb11 hm => ?_
  · refine sq2 ?_
    obtain⟨u6,hx23,hm⟩:=Q4 hm
    obtain⟨b7,of6,cs6,k6,cp6,hv6,hp6,hl6,he6,hr6,hc6,hT6⟩:=(h1.mono (iT im1 (iT im6 im11))).ixT hx23 rfl
    obtain⟨a33,c33,rfl,h15⟩:=H4 hr6
    obtain⟨y18,hx24,hm⟩:=Q4 hm
    refine rg (pv (Z9 rfl) (pv (Z1 rfl underlying99 rfl sizeOf56 rfl) (pv (Z4 rfl isAgg56 (hS11.cell0 (i:=0) ⟨rfl,rfl⟩ (j:=9) rfl)) (pv (B2 hv6 rfl underlying56 sizeOf99 hp6 hl6 he6) (pv (Z5 rfl isAgg99 sizeOf99 rfl hc6 (cs:=(X8 u6 a33 c33))) (wl rfl (Z7 cf90 rfl (hG.V0 (p0:=p0) (Q2:=Q2) (p1:=u6) (hS11.bun [0,1] [2,3] rfl) Q3 h15 (hG1.mono (iT im1 (iT im6 im11))) hx24) rfl fun v18 T28 w29 im37 rv18 => ?_)))))))
    obtain⟨a34,n27,c34,rfl,hS37,_⟩:=rv18
    have hS37:=hS37.unb
    refine nil (Q0 ?_)
    refine rg (pv (Z9 rfl) (pv (Z1 rfl underlying99 rfl sizeOf9 rfl) (pv (Z4 rfl isAgg9 (hS37.cell0 (i:=0) ⟨rfl,rfl⟩ (j:=3) rfl)) (wl rfl (bsS (r:=G9) (l:=([p1.Op]:List (List UInt8))) (css := [[qZs p1.Op]]) hS37 underlying74 sizeOf9 zeroValue9 rfl rfl (by kernel_rfl) rfl ⟨rfl,qZt⟩ rfl rfl fun w30 a35 n28 c35 im38 hS38 => ?_)))))
    obtain⟨T29,im39,hS39,h16⟩:=hS38.seal 0 ⟨rfl,rfl⟩
    have hsh:=h16.len
    subst hsh
    obtain⟨y19,hx25,hm⟩:=Q4 hm
    refine wl rfl (Z7 I6 rfl (Z2 (p0:=y18) (Q2:=Q2) (p1:=([p1.Op]:List (List UInt8))) (hS39.bun [2] [3,4] rfl) Q3 h16 hx25) rfl fun v19 T30 w31 im40 rv19 => ?_)
    obtain⟨a36,n29,c36,rfl,hS40,_⟩:=rv19
    have hS40:=hS40.unb
    cases oI hm
    exact nil (U6 (S7 rfl ⟨_,rfl,_,(iT im1 (iT im6 (iT im11 (iT im37 (iT im38 (iT im39 im40)))))),⟨_,_,_,rfl,hS40.sel [0,1,2] rfl,qZt⟩⟩))
  refine sq2 (rg (pv (X7 rfl rfl rfl) (pv (X5 rfl) (nil (Q0 ?_)))))
  refine V3 rfl hm (fun hb12 hm => ?_) fun hb12 hm => ?_
  · refine sq2 (rg (pv (Z9 rfl) (wl rfl (bsS (r:=G9) (l:=([([115,105,122,101,111,102]:List UInt8),([40]:List UInt8)]:List (List UInt8))) (css := [[qZs [115,105,122,101,111,102]],[qZs [40]]]) hS11 underlying74 sizeOf9 zeroValue9 rfl rfl (by kernel_rfl) rfl ⟨rfl,rfl,qZt⟩ rfl rfl fun w32 a37 n30 c37 im41 hS41 => ?_))))
    obtain⟨T31,im42,hS42,h17⟩:=hS41.seal 0 ⟨rfl,rfl⟩
    have hsh:=h17.len
    subst hsh
    obtain⟨y20,hx26,hm⟩:=Q4 hm
    refine wl rfl (Z7 I6 rfl (Z2 (p0:=p0) (Q2:=Q2) (p1:=([([115,105,122,101,111,102]:List UInt8),([40]:List UInt8)]:List (List UInt8))) (hS42.bun [1,2] [3,4] rfl) Q3 h17 hx26) rfl fun v20 T32 w33 im43 rv20 => ?_)
    obtain⟨a38,n31,c38,rfl,hS43,_⟩:=rv20
    have hS43:=hS43.unb
    refine nil (Q0 ?_)
    refine sq2 ?_
    obtain⟨y21,hx27,hm⟩:=Q4 hm
    refine rg (pv (Z9 rfl) (pv (Z1 rfl underlying99 rfl sizeOf54 rfl) (pv (Z5 rfl isAgg54 sizeOf54 rfl (hS43.cells0 (i:=0) ⟨rfl,rfl⟩ (o:=6) rfl) (cs:=(U3 p1.Type_))) (wl rfl (Z7 cf24 rfl (S3 (p0:=y20) (Q2:=Q2) (p1:=p1.Type_) (hS43.bun [1] [2,3] rfl) Q3 hx27) rfl fun v21 T33 w34 im44 rv21 => ?_)))))
    obtain⟨a39,n32,c39,rfl,hS44,_⟩:=rv21
    have hS44:=hS44.unb
    refine nil (Q0 ?_)
    refine rg (pv (Z9 rfl) (wl rfl (bsS (r:=G9) (l:=([([41]:List UInt8)]:List (List UInt8))) (css := [[qZs [41]]]) hS44 underlying74 sizeOf9 zeroValue9 rfl rfl (by kernel_rfl) rfl ⟨rfl,qZt⟩ rfl rfl fun w35 a40 n33 c40 im45 hS45 => ?_)))
    obtain⟨T34,im46,hS46,h18⟩:=hS45.seal 0 ⟨rfl,rfl⟩
    have hsh:=h18.len
    subst hsh
    obtain⟨y22,hx28,hm⟩:=Q4 hm
    refine wl rfl (Z7 I6 rfl (Z2 (p0:=y21) (Q2:=Q2) (p1:=([([41]:List UInt8)]:List (List UInt8))) (hS46.bun [1] [2,3] rfl) Q3 h18 hx28) rfl fun v22 T35 w36 im47 rv22 => ?_)
    obtain⟨a41,n34,c41,rfl,hS47,_⟩:=rv22
    have hS47:=hS47.unb
    cases oI hm
    exact nil (U6 (S7 rfl ⟨_,rfl,_,(iT im1 (iT im6 (iT im11 (iT im41 (iT im42 (iT im43 (iT im44 (iT im45 (iT im46 im47))))))))),⟨_,_,_,rfl,hS47.sel [0,1,2] rfl,qZt⟩⟩))
  cases oI hm
  exact skp (U6 (S7 rfl ⟨_,rfl,_,(iT im1 (iT im6 im11)),⟨_,_,_,rfl,hS11.sel [1,2,3] rfl,qZt⟩⟩))
theorem Q7q {G:Z2j} (hG:Sp3 G):Q0d (C3 G) := @fun g T0 w0 R p0 X4 X2 Q2 a1 n1 c1 p1 a2 c2 r hS Q3 h1 hG1 hm=>by
  refine enter (args := [pt X4 X2,sv a2 p1 c2]) Tryz.func43 rfl Tryz.ntmps43 rfl fun J => ?_
  unfold C3 at hm
  refine sq2 (rg (pv (N2 rfl) (pv (L3 rfl underlying56) (pv (U1 rfl) (nil (Q0 ?_))))))
  obtain⟨o1,ho1,hq1⟩:=Q4 hm
  obtain⟨bd1,hbd1,ho1⟩:=K3 ho1
  refine blk (wp_loop_ghost (fun m a w1 => ∃(J:JV) (T1:TP) (x3:Q5) (a3:OA) (n2:Nat) (c3:Nat) (x2:Int),a=env (nf 22) J [(0,pt X4 X2),(6,sv a2 p1 c2),(7,iv (List.length p1:Int)),(8,iv x2)]∧Im T0 w0 T1 w1∧Sep g T1 w1 [R,Q2 [.slice a3 n2 c3],G3 G9 9 (.slice a3 n2 c3) x3.l]∧V7 bd1 m (x2,x3)=some o1) NN ⟨_,_,p0,_,_,_,0,Q7 ⟨rfl,rfl,rfl,rfl,qZt⟩,Im.refl,hS.sel [0,1,2] rfl,ho1⟩ ?_)
  rintro m _ w1 ⟨J,T1,x3,a3,n2,c3,x2,rfl,im1,hS1,ho1⟩
  obtain⟨m1,z1,rfl,hm,hn1⟩:=U4 ho1
  rw [hbd1] at hm
  refine sq2 (rg (pv (X7 rfl rfl rfl) (nil (Q0 ?_))))
  refine sq2 (cnd rfl (fun hb1 => ?_) (fun hb1 => ?_))
  · have hm:=V8 hb1 hm
    refine skp (Q0 ?_)
    refine sq2 (blk (sq2 ?_))
    obtain⟨u1,hx1,hm⟩:=Q4 hm
    obtain⟨b1,of1,cs1,k1,cp1,hv1,hp1,hl1,he1,hr1,hc1,hT1⟩:=(h1.mono im1).ixT hx1 rfl
    obtain⟨a4,c4,rfl,h2⟩:=H4 hr1
    refine rg (pv (U1 rfl) (pv (B2 hv1 rfl underlying56 sizeOf99 hp1 hl1 he1) (pv (Z5 rfl isAgg99 sizeOf99 rfl hc1 (cs:=(X8 u1 a4 c4))) (wl rfl (alS (zs := [iv 0,iv 0,iv 0,qZs [],qZs [],.int .u32 0,qZs [],qZs [],iv 0,.slice none 0 0]) zeroValue99 rfl hS1 fun w2 b2 im2 hS2 => ?_)))))
    refine pv (J0 rfl) (wl rfl (X6 (q:=0) hS2 ⟨rfl,rfl⟩ rfl rfl rfl sizeOf99 rfl rfl rfl fun w3 im3 hS3 => ?_))
    refine nil (Q0 ?_)
    obtain⟨kk1,hkk1,hm⟩:=F6 hm
    refine cut (fun a w4 => ∃(J:JV) (T2:TP) (x5:Q5) (a5:OA) (n3:Nat) (c5:Nat),a=env (nf 22) J [(0,pt X4 X2),(5,pt b2 0),(6,sv a2 p1 c2),(7,iv (List.length p1:Int)),(8,iv x2)]∧Im T1 w3 T2 w4∧Sep g T2 w4 [J6 b2 (X8 u1 a4 c4),R,Q2 [.slice a5 n3 c5],G3 G9 9 (.slice a5 n3 c5) x5.l]∧kk1 x5=some z1) ?_ ?_
    · refine sq2 (rg (pv (U1 rfl) (pv (X7 rfl rfl rfl) (nil (Q0 ?_)))))
      refine V3 rfl hm (fun hb2 hm => ?_) fun hb2 hm => ?_
      · refine rg (pv (Z9 rfl) (wl rfl (bsS (r:=G9) (l:=([([44]:List UInt8)]:List (List UInt8))) (css := [[qZs [44]]]) hS3 underlying74 sizeOf9 zeroValue9 rfl rfl (by kernel_rfl) rfl ⟨rfl,qZt⟩ rfl rfl fun w5 a6 n4 c6 im5 hS4 => ?_)))
        obtain⟨T3,im6,hS5,h3⟩:=hS4.seal 0 ⟨rfl,rfl⟩
        have hsh:=h3.len
        subst hsh
        obtain⟨y1,hx2,hm⟩:=Q4 hm
        refine wl rfl (Z7 I6 rfl (Z2 (p0:=x3) (Q2:=Q2) (p1:=([([44]:List UInt8)]:List (List UInt8))) (hS5.bun [1,2] [3,4] rfl) Q3 h3 hx2) rfl fun v1 T4 w6 im7 rv1 => ?_)
        obtain⟨a7,n5,c7,rfl,hS6,_⟩:=rv1
        have hS6:=hS6.unb
        exact nil (Q0 ⟨_,_,y1,_,_,_,Q7 ⟨rfl,rfl,rfl,rfl,rfl,qZt⟩,(iT im5 (iT im6 im7)),hS6.sel [0,1,2,3] rfl,hm⟩)
      exact skp (Q0 ⟨_,_,x3,_,_,_,Q7 ⟨rfl,rfl,rfl,rfl,rfl,qZt⟩,Im.refl,hS3.sel [0,1,2,3] rfl,hm⟩)
    rintro _ w4 ⟨J,T2,x5,a5,n3,c5,rfl,im4,hS7,hm⟩
    rw [hkk1] at hm
    obtain⟨y2,hx3,hm⟩:=Q4 hm
    refine rg (pv (Z9 rfl) (pv (Z5 rfl isAgg99 sizeOf99 rfl (hS7.cells0 (i:=0) ⟨rfl,rfl⟩ (o:=0) rfl) (cs:=(X8 u1 a4 c4))) (wl rfl (Z7 cf72 rfl (hG.U8 (p0:=x5) (Q2:=Q2) (p1:=u1) (hS7.bun [1] [2,3] rfl) Q3 (h2.mono (iT im2 (iT im3 im4))) (hG1.mono (iT im1 (iT im2 (iT im3 im4)))) hx3) rfl fun v2 T5 w7 im8 rv2 => ?_))))
    obtain⟨a8,n6,c8,rfl,hS8,_⟩:=rv2
    have hS8:=hS8.unb
    refine nil (U6 (Q0 ?_))
    cases oI hm
    exact rg (pv (X7 rfl rfl rfl) (pv (U1 rfl) (nil (Q0 ⟨m1,Nat.lt_succ_self _,_,_,y2,_,_,_,(IntKind.wrap .i64 (x2+1)),Q7 ⟨rfl,rfl,rfl,rfl,qZt⟩,(iT im1 (iT im2 (iT im3 (iT im4 im8)))),hS8.sel [0,1,2] rfl,hn1⟩))))
  have hm:=X3 hb1 hm
  cases oI hm
  have hn1:_=Lp.brk _:=hn1
  subst hn1
  have hm:=F1 hq1
  cases oI hm
  exact xt (V9 (V9 (L5 (S7 rfl ⟨_,rfl,_,im1,⟨_,_,_,rfl,hS1.sel [0,1,2] rfl,qZt⟩⟩))))
theorem sp3 : ∀ n,Sp3 (Q0w n)
  | 0=>⟨(by unfold O5; intros; rename_i h; cases (show (none:Option _)=some _ from h)),(by unfold O6; intros; rename_i h; cases (show (none:Option _)=some _ from h)),(by unfold Q0e; intros; rename_i h; cases (show (none:Option _)=some _ from h)),(by unfold Q0d; intros; rename_i h; cases (show (none:Option _)=some _ from h))⟩
  | n+1=>⟨Q5n (sp3 n),Q5o (sp3 n),Q7r (sp3 n),Q7q (sp3 n)⟩
theorem Z2s:O5 V0:=(sp3 NN).V0
theorem Z2t:O6 G2:=(sp3 NN).G2
theorem Z4f:Q0e U8:=(sp3 NN).U8
theorem H0:Q0d K2:=(sp3 NN).K2
end Go.Proofs.YtbolaohekbmndaaGreatDoor
