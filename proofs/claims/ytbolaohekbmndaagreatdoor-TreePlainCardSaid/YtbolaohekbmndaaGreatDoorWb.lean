/- That Go functions compute their models. Printed by gen2.py. -/
import Derived.Test.YtbolaohekbmndaaGreatDoorWa
set_option linter.unusedVariables false
namespace Go.Proofs.YtbolaohekbmndaaGreatDoor
open _root_.Go.Proofs.Tryz
set_option maxRecDepth 100000
set_option maxHeartbeats 8000000
attribute [local irreducible] wpList wpQuiet Code.wp
variable {g:World} {T0:Nat→Prop} {w0:World} {R:J7}

theorem Z2k {p0:List UInt8} {r:Int} (hS:Sep g T0 w0 [R])  (hm:Q2l p0=some r) :
    Calls Tryz.prog 123 #[qZs p0] w0 (E6 T0 w0 fun T w v=>v=iv r∧Sep g T w [R]∧True):=by
  refine enter (args := [qZs p0]) Tryz.func123 rfl Tryz.ntmps123 rfl fun J => ?_
  unfold Q2l at hm
  refine sq2 (rg (pv (J0 rfl) (nil (Q0 ?_))))
  refine sq2 (sq2 (rg (pv (P2 rfl) (nil (Q0 ?_)))))
  refine blk (sq2 (rg (pv (E7 rfl rfl) (pv (X5 rfl) (nil (Q0 ?_))))))
  refine V3 rfl hm (fun hb1 hm => ?_) fun hb1 hm => ?_
  · refine sq2 (rg (pv (J0 rfl) (nil (Q0 ?_))))
    cases oI hm
    exact rtn (Y5 (Q6 (U2 rfl rfl ⟨_,rfl,_,Im.refl,⟨rfl,hS.sel [0] rfl,qZt⟩⟩)))
  refine sq2 (rg (pv (E7 rfl rfl) (pv (X5 rfl) (nil (Q0 ?_)))))
  refine V3 rfl hm (fun hb2 hm => ?_) fun hb2 hm => ?_
  · refine sq2 (rg (pv (J0 rfl) (nil (Q0 ?_))))
    cases oI hm
    exact rtn (Y5 (Q6 (U2 rfl rfl ⟨_,rfl,_,Im.refl,⟨rfl,hS.sel [0] rfl,qZt⟩⟩)))
  refine sq2 (rg (pv (E7 rfl rfl) (pv (X5 rfl) (nil (Q0 ?_)))))
  refine V3 rfl hm (fun hb3 hm => ?_) fun hb3 hm => ?_
  · refine sq2 (rg (pv (J0 rfl) (nil (Q0 ?_))))
    cases oI hm
    exact rtn (Y5 (Q6 (U2 rfl rfl ⟨_,rfl,_,Im.refl,⟨rfl,hS.sel [0] rfl,qZt⟩⟩)))
  refine sq2 (rg (pv (E7 rfl rfl) (pv (X5 rfl) (nil (Q0 ?_)))))
  refine V3 rfl hm (fun hb4 hm => ?_) fun hb4 hm => ?_
  · refine sq2 (rg (pv (J0 rfl) (nil (Q0 ?_))))
    cases oI hm
    exact rtn (Y5 (Q6 (U2 rfl rfl ⟨_,rfl,_,Im.refl,⟨rfl,hS.sel [0] rfl,qZt⟩⟩)))
  refine sq2 (rg (pv (E7 rfl rfl) (pv (X5 rfl) (nil (Q0 ?_)))))
  refine V3 rfl hm (fun hb5 hm => ?_) fun hb5 hm => ?_
  · refine sq2 (rg (pv (J0 rfl) (nil (Q0 ?_))))
    cases oI hm
    exact rtn (Y5 (Q6 (U2 rfl rfl ⟨_,rfl,_,Im.refl,⟨rfl,hS.sel [0] rfl,qZt⟩⟩)))
  obtain⟨kk1,hkk1,hm⟩:=F6 hm
  refine cut (fun a w1 => ∃(J:JV) (T1:TP) (x1:Bool),a=env (nf 32) J [(3,(qZs p0)),(14,.bool x1)]∧Im T0 w0 T1 w1∧Sep g T1 w1 [R]∧kk1 x1=some r) ?_ ?_
  · refine sq2 (rg (pv (E7 rfl rfl) (pv (X5 rfl) (nil (Q0 ?_)))))
    refine V3 rfl hm (fun hb6 hm => ?_) fun hb6 hm => ?_
    · exact skp (Q0 ⟨_,_,(decide (p0=([61,61]:List UInt8))),Q7 ⟨rfl,rfl,qZt⟩,Im.refl,hS.sel [0] rfl,hm⟩)
    exact rg (pv (E7 rfl rfl) (pv (X5 rfl) (nil (Q0 ⟨_,_,(decide (p0=([33,61]:List UInt8))),Q7 ⟨rfl,rfl,qZt⟩,Im.refl,hS.sel [0] rfl,hm⟩))))
  rintro _ w1 ⟨J,T1,x1,rfl,im1,hS1,hm⟩
  rw [hkk1] at hm
  refine V3 rfl hm (fun hb7 hm => ?_) fun hb7 hm => ?_
  · refine sq2 (rg (pv (J0 rfl) (nil (Q0 ?_))))
    cases oI hm
    exact rtn (Y5 (Q6 (U2 rfl rfl ⟨_,rfl,_,im1,⟨rfl,hS1.sel [0] rfl,qZt⟩⟩)))
  obtain⟨kk2,hkk2,hm⟩:=F6 hm
  refine cut (fun a w2 => ∃(J:JV) (T2:TP) (x2:Bool),a=env (nf 32) J [(3,(qZs p0)),(17,.bool x2)]∧Im T1 w1 T2 w2∧Sep g T2 w2 [R]∧kk2 x2=some r) ?_ ?_
  · refine sq2 (rg (pv (E7 rfl rfl) (pv (X5 rfl) (nil (Q0 ?_)))))
    refine V3 rfl hm (fun hb8 hm => ?_) fun hb8 hm => ?_
    · exact skp (Q0 ⟨_,_,(decide (p0=([60]:List UInt8))),Q7 ⟨rfl,rfl,qZt⟩,Im.refl,hS1.sel [0] rfl,hm⟩)
    refine sq2 (rg (pv (E7 rfl rfl) (pv (X5 rfl) (nil (Q0 ?_)))))
    refine V3 rfl hm (fun hb9 hm => ?_) fun hb9 hm => ?_
    · exact skp (Q0 ⟨_,_,(decide (p0=([62]:List UInt8))),Q7 ⟨rfl,rfl,qZt⟩,Im.refl,hS1.sel [0] rfl,hm⟩)
    refine sq2 (rg (pv (E7 rfl rfl) (pv (X5 rfl) (nil (Q0 ?_)))))
    refine V3 rfl hm (fun hb10 hm => ?_) fun hb10 hm => ?_
    · exact skp (Q0 ⟨_,_,(decide (p0=([60,61]:List UInt8))),Q7 ⟨rfl,rfl,qZt⟩,Im.refl,hS1.sel [0] rfl,hm⟩)
    exact rg (pv (E7 rfl rfl) (pv (X5 rfl) (nil (Q0 ⟨_,_,(decide (p0=([62,61]:List UInt8))),Q7 ⟨rfl,rfl,qZt⟩,Im.refl,hS1.sel [0] rfl,hm⟩))))
  rintro _ w2 ⟨J,T2,x2,rfl,im2,hS2,hm⟩
  rw [hkk2] at hm
  refine V3 rfl hm (fun hb11 hm => ?_) fun hb11 hm => ?_
  · refine sq2 (rg (pv (J0 rfl) (nil (Q0 ?_))))
    cases oI hm
    exact rtn (Y5 (Q6 (U2 rfl rfl ⟨_,rfl,_,(iT im1 im2),⟨rfl,hS2.sel [0] rfl,qZt⟩⟩)))
  obtain⟨kk3,hkk3,hm⟩:=F6 hm
  refine cut (fun a w3 => ∃(J:JV) (T3:TP) (x3:Bool),a=env (nf 32) J [(3,(qZs p0)),(22,.bool x3)]∧Im T2 w2 T3 w3∧Sep g T3 w3 [R]∧kk3 x3=some r) ?_ ?_
  · refine sq2 (rg (pv (E7 rfl rfl) (pv (X5 rfl) (nil (Q0 ?_)))))
    refine V3 rfl hm (fun hb12 hm => ?_) fun hb12 hm => ?_
    · exact skp (Q0 ⟨_,_,(decide (p0=([60,60]:List UInt8))),Q7 ⟨rfl,rfl,qZt⟩,Im.refl,hS2.sel [0] rfl,hm⟩)
    exact rg (pv (E7 rfl rfl) (pv (X5 rfl) (nil (Q0 ⟨_,_,(decide (p0=([62,62]:List UInt8))),Q7 ⟨rfl,rfl,qZt⟩,Im.refl,hS2.sel [0] rfl,hm⟩))))
  rintro _ w3 ⟨J,T3,x3,rfl,im3,hS3,hm⟩
  rw [hkk3] at hm
  refine V3 rfl hm (fun hb13 hm => ?_) fun hb13 hm => ?_
  · refine sq2 (rg (pv (J0 rfl) (nil (Q0 ?_))))
    cases oI hm
    exact rtn (Y5 (Q6 (U2 rfl rfl ⟨_,rfl,_,(iT im1 (iT im2 im3)),⟨rfl,hS3.sel [0] rfl,qZt⟩⟩)))
  obtain⟨kk4,hkk4,hm⟩:=F6 hm
  refine cut (fun a w4 => ∃(J:JV) (T4:TP) (x4:Bool),a=env (nf 32) J [(3,(qZs p0)),(25,.bool x4)]∧Im T3 w3 T4 w4∧Sep g T4 w4 [R]∧kk4 x4=some r) ?_ ?_
  · refine sq2 (rg (pv (E7 rfl rfl) (pv (X5 rfl) (nil (Q0 ?_)))))
    refine V3 rfl hm (fun hb14 hm => ?_) fun hb14 hm => ?_
    · exact skp (Q0 ⟨_,_,(decide (p0=([43]:List UInt8))),Q7 ⟨rfl,rfl,qZt⟩,Im.refl,hS3.sel [0] rfl,hm⟩)
    exact rg (pv (E7 rfl rfl) (pv (X5 rfl) (nil (Q0 ⟨_,_,(decide (p0=([45]:List UInt8))),Q7 ⟨rfl,rfl,qZt⟩,Im.refl,hS3.sel [0] rfl,hm⟩))))
  rintro _ w4 ⟨J,T4,x4,rfl,im4,hS4,hm⟩
  rw [hkk4] at hm
  refine V3 rfl hm (fun hb15 hm => ?_) fun hb15 hm => ?_
  · refine sq2 (rg (pv (J0 rfl) (nil (Q0 ?_))))
    cases oI hm
    exact rtn (Y5 (Q6 (U2 rfl rfl ⟨_,rfl,_,(iT im1 (iT im2 (iT im3 im4))),⟨rfl,hS4.sel [0] rfl,qZt⟩⟩)))
  obtain⟨kk5,hkk5,hm⟩:=F6 hm
  refine cut (fun a w5 => ∃(J:JV) (T5:TP) (x5:Bool),a=env (nf 32) J [(28,.bool x5)]∧Im T4 w4 T5 w5∧Sep g T5 w5 [R]∧kk5 x5=some r) ?_ ?_
  · refine sq2 (rg (pv (E7 rfl rfl) (pv (X5 rfl) (nil (Q0 ?_)))))
    refine V3 rfl hm (fun hb16 hm => ?_) fun hb16 hm => ?_
    · exact skp (Q0 ⟨_,_,(decide (p0=([42]:List UInt8))),Q7 ⟨rfl,qZt⟩,Im.refl,hS4.sel [0] rfl,hm⟩)
    refine sq2 (rg (pv (E7 rfl rfl) (pv (X5 rfl) (nil (Q0 ?_)))))
    refine V3 rfl hm (fun hb17 hm => ?_) fun hb17 hm => ?_
    · exact skp (Q0 ⟨_,_,(decide (p0=([47]:List UInt8))),Q7 ⟨rfl,qZt⟩,Im.refl,hS4.sel [0] rfl,hm⟩)
    exact rg (pv (E7 rfl rfl) (pv (X5 rfl) (nil (Q0 ⟨_,_,(decide (p0=([37]:List UInt8))),Q7 ⟨rfl,qZt⟩,Im.refl,hS4.sel [0] rfl,hm⟩))))
  rintro _ w5 ⟨J,T5,x5,rfl,im5,hS5,hm⟩
  rw [hkk5] at hm
  refine V3 rfl hm (fun hb18 hm => ?_) fun hb18 hm => ?_
  · refine sq2 (rg (pv (J0 rfl) (nil (Q0 ?_))))
    cases oI hm
    exact rtn (Y5 (Q6 (U2 rfl rfl ⟨_,rfl,_,(iT im1 (iT im2 (iT im3 (iT im4 im5)))),⟨rfl,hS5.sel [0] rfl,qZt⟩⟩)))
  refine skp (U6 (Q0 ?_))
  refine sq2 (rg (pv (J0 rfl) (nil (Q0 ?_))))
  cases oI hm
  exact rtn (U2 rfl rfl ⟨_,rfl,_,(iT im1 (iT im2 (iT im3 (iT im4 im5)))),⟨rfl,hS5.sel [0] rfl,qZt⟩⟩)

theorem Q4z {p0:Q1} {X4 X2:Nat} {Q2:List Value→J7} {b1:Nat} {oo1:Nat} {H1:List Value→J7} {a1:OA} {c1:Nat} {r:Q1} (hS:Sep g T0 w0 [R,Q2 [pt b1 oo1],H1 [sv a1 p0.l c1,iv p0.end_.Line,iv p0.end_.Col,iv p0.depth]]) (Q3:Ln X4 X2 Q2) (hL1:Ln b1 oo1 H1) (h1:SlR Y3 T0 w0 (sv a1 p0.l c1) p0.l) (hm:Q1b p0=some r) :
    Calls Tryz.prog 115 #[pt X4 X2] w0 (E6 T0 w0 fun T w v => ∃(a2:OA) (c2:Nat),v = .tuple #[]∧Sep g T w [R,Q2 [pt b1 oo1],H1 [sv a2 r.l c2,iv r.end_.Line,iv r.end_.Col,iv r.depth]]∧SlR Y3 T w (sv a2 r.l c2) r.l∧True):=by
  refine enter (args := [pt X4 X2]) Tryz.func115 rfl Tryz.ntmps115 rfl fun J => ?_
  unfold Q1b at hm
  refine rg (pv (Z4 rfl isAgg41 (hS.cellB (i:=1) ⟨rfl,rfl⟩ Q3 (j:=0) rfl)) (pv (J1 rfl) (pv (Z1 rfl underlying43 rfl sizeOf3 rfl) (pv (Z4 rfl isAgg3 (hS.cellB (i:=2) ⟨rfl,rfl⟩ hL1 (j:=3) rfl)) (pv (X7 rfl rfl rfl) (pv (J1 rfl) (pv (Z1 rfl underlying43 rfl sizeOf3 rfl) (wl rfl (stB (q:=2) (j:=3) hS ⟨rfl,rfl⟩ hL1 rfl rfl rfl sizeOf3 rfl rfl rfl fun w1 im1 hS1 => ?_)))))))))
  cases oI hm
  exact nil (S7 rfl ⟨_,rfl,_,im1,⟨_,_,rfl,hS1.sel [0,1,2] rfl,(h1.mono im1),qZt⟩⟩)

theorem Q9q {p0:List UInt8} {r:Bool} (hS:Sep g T0 w0 [R])  (hm:Q0k p0=some r) :
    Calls Tryz.prog 100 #[qZs p0] w0 (E6 T0 w0 fun T w v=>v = .bool r∧Sep g T w [R]∧True):=by
  refine enter (args := [qZs p0]) Tryz.func100 rfl Tryz.ntmps100 rfl fun J => ?_
  unfold Q0k at hm
  refine sq2 (rg (pv (X5 rfl) (nil (Q0 ?_))))
  refine sq2 (sq2 (rg (pv (P2 rfl) (nil (Q0 ?_)))))
  refine blk ?_
  obtain⟨kk1,hkk1,hm⟩:=F6 hm
  refine cut (fun a w1 => ∃(J:JV) (T1:TP) (x1:Bool),a=env (nf 16) J [(4,.bool x1)]∧Im T0 w0 T1 w1∧Sep g T1 w1 [R]∧kk1 x1=some r) ?_ ?_
  · refine sq2 (rg (pv (E7 rfl rfl) (pv (X5 rfl) (nil (Q0 ?_)))))
    refine V3 rfl hm (fun hb1 hm => ?_) fun hb1 hm => ?_
    · exact skp (Q0 ⟨_,_,(decide (p0=([61]:List UInt8))),Q7 ⟨rfl,qZt⟩,Im.refl,hS.sel [0] rfl,hm⟩)
    refine sq2 (rg (pv (E7 rfl rfl) (pv (X5 rfl) (nil (Q0 ?_)))))
    refine V3 rfl hm (fun hb2 hm => ?_) fun hb2 hm => ?_
    · exact skp (Q0 ⟨_,_,(decide (p0=([43,61]:List UInt8))),Q7 ⟨rfl,qZt⟩,Im.refl,hS.sel [0] rfl,hm⟩)
    refine sq2 (rg (pv (E7 rfl rfl) (pv (X5 rfl) (nil (Q0 ?_)))))
    refine V3 rfl hm (fun hb3 hm => ?_) fun hb3 hm => ?_
    · exact skp (Q0 ⟨_,_,(decide (p0=([45,61]:List UInt8))),Q7 ⟨rfl,qZt⟩,Im.refl,hS.sel [0] rfl,hm⟩)
    refine sq2 (rg (pv (E7 rfl rfl) (pv (X5 rfl) (nil (Q0 ?_)))))
    refine V3 rfl hm (fun hb4 hm => ?_) fun hb4 hm => ?_
    · exact skp (Q0 ⟨_,_,(decide (p0=([42,61]:List UInt8))),Q7 ⟨rfl,qZt⟩,Im.refl,hS.sel [0] rfl,hm⟩)
    refine sq2 (rg (pv (E7 rfl rfl) (pv (X5 rfl) (nil (Q0 ?_)))))
    refine V3 rfl hm (fun hb5 hm => ?_) fun hb5 hm => ?_
    · exact skp (Q0 ⟨_,_,(decide (p0=([47,61]:List UInt8))),Q7 ⟨rfl,qZt⟩,Im.refl,hS.sel [0] rfl,hm⟩)
    refine sq2 (rg (pv (E7 rfl rfl) (pv (X5 rfl) (nil (Q0 ?_)))))
    refine V3 rfl hm (fun hb6 hm => ?_) fun hb6 hm => ?_
    · exact skp (Q0 ⟨_,_,(decide (p0=([37,61]:List UInt8))),Q7 ⟨rfl,qZt⟩,Im.refl,hS.sel [0] rfl,hm⟩)
    refine sq2 (rg (pv (E7 rfl rfl) (pv (X5 rfl) (nil (Q0 ?_)))))
    refine V3 rfl hm (fun hb7 hm => ?_) fun hb7 hm => ?_
    · exact skp (Q0 ⟨_,_,(decide (p0=([38,61]:List UInt8))),Q7 ⟨rfl,qZt⟩,Im.refl,hS.sel [0] rfl,hm⟩)
    refine sq2 (rg (pv (E7 rfl rfl) (pv (X5 rfl) (nil (Q0 ?_)))))
    refine V3 rfl hm (fun hb8 hm => ?_) fun hb8 hm => ?_
    · exact skp (Q0 ⟨_,_,(decide (p0=([124,61]:List UInt8))),Q7 ⟨rfl,qZt⟩,Im.refl,hS.sel [0] rfl,hm⟩)
    refine sq2 (rg (pv (E7 rfl rfl) (pv (X5 rfl) (nil (Q0 ?_)))))
    refine V3 rfl hm (fun hb9 hm => ?_) fun hb9 hm => ?_
    · exact skp (Q0 ⟨_,_,(decide (p0=([94,61]:List UInt8))),Q7 ⟨rfl,qZt⟩,Im.refl,hS.sel [0] rfl,hm⟩)
    refine sq2 (rg (pv (E7 rfl rfl) (pv (X5 rfl) (nil (Q0 ?_)))))
    refine V3 rfl hm (fun hb10 hm => ?_) fun hb10 hm => ?_
    · exact skp (Q0 ⟨_,_,(decide (p0=([60,60,61]:List UInt8))),Q7 ⟨rfl,qZt⟩,Im.refl,hS.sel [0] rfl,hm⟩)
    exact rg (pv (E7 rfl rfl) (pv (X5 rfl) (nil (Q0 ⟨_,_,(decide (p0=([62,62,61]:List UInt8))),Q7 ⟨rfl,qZt⟩,Im.refl,hS.sel [0] rfl,hm⟩))))
  rintro _ w1 ⟨J,T1,x1,rfl,im1,hS1,hm⟩
  rw [hkk1] at hm
  refine V3 rfl hm (fun hb11 hm => ?_) fun hb11 hm => ?_
  · refine sq2 (rg (pv (X5 rfl) (nil (Q0 ?_))))
    cases oI hm
    exact rtn (Y5 (Q6 (U2 rfl rfl ⟨_,rfl,_,im1,⟨rfl,hS1.sel [0] rfl,qZt⟩⟩)))
  refine skp (U6 (Q0 ?_))
  refine sq2 (rg (pv (X5 rfl) (nil (Q0 ?_))))
  cases oI hm
  exact rtn (U2 rfl rfl ⟨_,rfl,_,im1,⟨rfl,hS1.sel [0] rfl,qZt⟩⟩)

def I9 (F:Q1→Option (Except (Q8×Q1) ((List Z6)×Q1))):Prop := ∀ {g:World} {T0:TP} {w0:World} {R:J7} {p0:Q1} {X4 X2:Nat} {Q2:List Value→J7} {a1:OA} {c1:Nat} {r:Except (Q8×Q1) ((List Z6)×Q1)} (hS:Sep g T0 w0 [R,Q2 [sv a1 p0.l c1,iv p0.end_.Line,iv p0.end_.Col,iv p0.depth]]) (Q3:Ln X4 X2 Q2) (h1:SlR Y3 T0 w0 (sv a1 p0.l c1) p0.l) (hm:F p0=some r),
    Calls Tryz.prog 104 #[pt X4 X2] w0 (exR r (fun r=>E6 T0 w0 fun T w v => ∃(a10:OA) (n2:Nat) (c10:Nat) (a11:OA) (c11:Nat),v = .slice a10 n2 c10∧Sep g T w [R,Q2 [sv a11 r.2.l c11,iv r.2.end_.Line,iv r.2.end_.Col,iv r.2.depth],G3 X0 99 (.slice a10 n2 c10) r.1]∧SlR Y3 T w (sv a11 r.2.l c11) r.2.l∧True) (fun r=>Q2x T0 w0 fun T w v => ∃(a10:OA) (c10:Nat),v = .iface 48 (.agg (K6 r.1).toArray)∧Sep g T w [R,Q2 [sv a10 r.2.l c10,iv r.2.end_.Line,iv r.2.end_.Col,iv r.2.depth]]∧SlR Y3 T w (sv a10 r.2.l c10) r.2.l∧True))
def R5 (F:Q1→Option (Except (Q8×Q1) ((List Z6)×Q1))):Prop := ∀ {g:World} {T0:TP} {w0:World} {R:J7} {p0:Q1} {X4 X2:Nat} {Q2:List Value→J7} {a1:OA} {c1:Nat} {r:Except (Q8×Q1) ((List Z6)×Q1)} (hS:Sep g T0 w0 [R,Q2 [sv a1 p0.l c1,iv p0.end_.Line,iv p0.end_.Col,iv p0.depth]]) (Q3:Ln X4 X2 Q2) (h1:SlR Y3 T0 w0 (sv a1 p0.l c1) p0.l) (hm:F p0=some r),
    Calls Tryz.prog 128 #[pt X4 X2] w0 (exR r (fun r=>E6 T0 w0 fun T w v => ∃(a21:OA) (n5:Nat) (c21:Nat) (a22:OA) (c22:Nat),v = .slice a21 n5 c21∧Sep g T w [R,Q2 [sv a22 r.2.l c22,iv r.2.end_.Line,iv r.2.end_.Col,iv r.2.depth],G3 X0 99 (.slice a21 n5 c21) r.1]∧SlR Y3 T w (sv a22 r.2.l c22) r.2.l∧True) (fun r=>Q2x T0 w0 fun T w v => ∃(a21:OA) (c21:Nat),v = .iface 48 (.agg (K6 r.1).toArray)∧Sep g T w [R,Q2 [sv a21 r.2.l c21,iv r.2.end_.Line,iv r.2.end_.Col,iv r.2.depth]]∧SlR Y3 T w (sv a21 r.2.l c21) r.2.l∧True))
def W1 (F:Q1→Option (Except (Q8×Q1) (Z6×Q1))):Prop := ∀ {g:World} {T0:TP} {w0:World} {R:J7} {p0:Q1} {X4 X2:Nat} {Q2:List Value→J7} {a1:OA} {c1:Nat} {r:Except (Q8×Q1) (Z6×Q1)} (hS:Sep g T0 w0 [R,Q2 [sv a1 p0.l c1,iv p0.end_.Line,iv p0.end_.Col,iv p0.depth]]) (Q3:Ln X4 X2 Q2) (h1:SlR Y3 T0 w0 (sv a1 p0.l c1) p0.l) (hm:F p0=some r),
    Calls Tryz.prog 127 #[pt X4 X2] w0 (exR r (fun r=>E6 T0 w0 fun T w v => ∃(a31:OA) (c31:Nat) (a32:OA) (c32:Nat),v = .agg (X8 r.1 a31 c31).toArray∧Sep g T w [R,Q2 [sv a32 r.2.l c32,iv r.2.end_.Line,iv r.2.end_.Col,iv r.2.depth]]∧SlR X0 T w (sv a31 r.1.Kids c31) r.1.Kids∧SlR Y3 T w (sv a32 r.2.l c32) r.2.l∧True) (fun r=>Q2x T0 w0 fun T w v => ∃(a31:OA) (c31:Nat),v = .iface 48 (.agg (K6 r.1).toArray)∧Sep g T w [R,Q2 [sv a31 r.2.l c31,iv r.2.end_.Line,iv r.2.end_.Col,iv r.2.depth]]∧SlR Y3 T w (sv a31 r.2.l c31) r.2.l∧True))
def Q0g (F:Q1→Option (Except (Q8×Q1) (Z6×Q1))):Prop := ∀ {g:World} {T0:TP} {w0:World} {R:J7} {p0:Q1} {X4 X2:Nat} {Q2:List Value→J7} {a1:OA} {c1:Nat} {r:Except (Q8×Q1) (Z6×Q1)} (hS:Sep g T0 w0 [R,Q2 [sv a1 p0.l c1,iv p0.end_.Line,iv p0.end_.Col,iv p0.depth]]) (Q3:Ln X4 X2 Q2) (h1:SlR Y3 T0 w0 (sv a1 p0.l c1) p0.l) (hm:F p0=some r),
    Calls Tryz.prog 126 #[pt X4 X2] w0 (exR r (fun r=>E6 T0 w0 fun T w v => ∃(a25:OA) (c25:Nat) (a26:OA) (c26:Nat),v = .agg (X8 r.1 a25 c25).toArray∧Sep g T w [R,Q2 [sv a26 r.2.l c26,iv r.2.end_.Line,iv r.2.end_.Col,iv r.2.depth]]∧SlR X0 T w (sv a25 r.1.Kids c25) r.1.Kids∧SlR Y3 T w (sv a26 r.2.l c26) r.2.l∧True) (fun r=>Q2x T0 w0 fun T w v => ∃(a25:OA) (c25:Nat),v = .iface 48 (.agg (K6 r.1).toArray)∧Sep g T w [R,Q2 [sv a25 r.2.l c25,iv r.2.end_.Line,iv r.2.end_.Col,iv r.2.depth]]∧SlR Y3 T w (sv a25 r.2.l c25) r.2.l∧True))
def W0 (F:Q1→Option (Except (Q8×Q1) (Z6×Q1))):Prop := ∀ {g:World} {T0:TP} {w0:World} {R:J7} {p0:Q1} {X4 X2:Nat} {Q2:List Value→J7} {a1:OA} {c1:Nat} {r:Except (Q8×Q1) (Z6×Q1)} (hS:Sep g T0 w0 [R,Q2 [sv a1 p0.l c1,iv p0.end_.Line,iv p0.end_.Col,iv p0.depth]]) (Q3:Ln X4 X2 Q2) (h1:SlR Y3 T0 w0 (sv a1 p0.l c1) p0.l) (hm:F p0=some r),
    Calls Tryz.prog 122 #[pt X4 X2] w0 (exR r (fun r=>E6 T0 w0 fun T w v => ∃(a27:OA) (c27:Nat) (a28:OA) (c28:Nat),v = .agg (X8 r.1 a27 c27).toArray∧Sep g T w [R,Q2 [sv a28 r.2.l c28,iv r.2.end_.Line,iv r.2.end_.Col,iv r.2.depth]]∧SlR X0 T w (sv a27 r.1.Kids c27) r.1.Kids∧SlR Y3 T w (sv a28 r.2.l c28) r.2.l∧True) (fun r=>Q2x T0 w0 fun T w v => ∃(a27:OA) (c27:Nat),v = .iface 48 (.agg (K6 r.1).toArray)∧Sep g T w [R,Q2 [sv a27 r.2.l c27,iv r.2.end_.Line,iv r.2.end_.Col,iv r.2.depth]]∧SlR Y3 T w (sv a27 r.2.l c27) r.2.l∧True))
def R7 (F:Q1→Int→Option (Except (Q8×Q1) (Z6×Q1))):Prop := ∀ {g:World} {T0:TP} {w0:World} {R:J7} {p0:Q1} {X4 X2:Nat} {Q2:List Value→J7} {a1:OA} {c1:Nat} {p1:Int} {r:Except (Q8×Q1) (Z6×Q1)} (hS:Sep g T0 w0 [R,Q2 [sv a1 p0.l c1,iv p0.end_.Line,iv p0.end_.Col,iv p0.depth]]) (Q3:Ln X4 X2 Q2) (h1:SlR Y3 T0 w0 (sv a1 p0.l c1) p0.l) (hm:F p0 p1=some r),
    Calls Tryz.prog 116 #[pt X4 X2,iv p1] w0 (exR r (fun r=>E6 T0 w0 fun T w v => ∃(a13:OA) (c13:Nat) (a14:OA) (c14:Nat),v = .agg (X8 r.1 a13 c13).toArray∧Sep g T w [R,Q2 [sv a14 r.2.l c14,iv r.2.end_.Line,iv r.2.end_.Col,iv r.2.depth]]∧SlR X0 T w (sv a13 r.1.Kids c13) r.1.Kids∧SlR Y3 T w (sv a14 r.2.l c14) r.2.l∧True) (fun r=>Q2x T0 w0 fun T w v => ∃(a13:OA) (c13:Nat),v = .iface 48 (.agg (K6 r.1).toArray)∧Sep g T w [R,Q2 [sv a13 r.2.l c13,iv r.2.end_.Line,iv r.2.end_.Col,iv r.2.depth]]∧SlR Y3 T w (sv a13 r.2.l c13) r.2.l∧True))
def Q0h (F:Q1→Option (Except (Q8×Q1) (Z6×Q1))):Prop := ∀ {g:World} {T0:TP} {w0:World} {R:J7} {p0:Q1} {X4 X2:Nat} {Q2:List Value→J7} {a1:OA} {c1:Nat} {r:Except (Q8×Q1) (Z6×Q1)} (hS:Sep g T0 w0 [R,Q2 [sv a1 p0.l c1,iv p0.end_.Line,iv p0.end_.Col,iv p0.depth]]) (Q3:Ln X4 X2 Q2) (h1:SlR Y3 T0 w0 (sv a1 p0.l c1) p0.l) (hm:F p0=some r),
    Calls Tryz.prog 99 #[pt X4 X2] w0 (exR r (fun r=>E6 T0 w0 fun T w v => ∃(a19:OA) (c19:Nat) (a20:OA) (c20:Nat),v = .agg (X8 r.1 a19 c19).toArray∧Sep g T w [R,Q2 [sv a20 r.2.l c20,iv r.2.end_.Line,iv r.2.end_.Col,iv r.2.depth]]∧SlR X0 T w (sv a19 r.1.Kids c19) r.1.Kids∧SlR Y3 T w (sv a20 r.2.l c20) r.2.l∧True) (fun r=>Q2x T0 w0 fun T w v => ∃(a19:OA) (c19:Nat),v = .iface 48 (.agg (K6 r.1).toArray)∧Sep g T w [R,Q2 [sv a19 r.2.l c19,iv r.2.end_.Line,iv r.2.end_.Col,iv r.2.depth]]∧SlR Y3 T w (sv a19 r.2.l c19) r.2.l∧True))
def R8 (F:Q1→Option (Except (Q8×Q1) (Z6×Q1))):Prop := ∀ {g:World} {T0:TP} {w0:World} {R:J7} {p0:Q1} {X4 X2:Nat} {Q2:List Value→J7} {a1:OA} {c1:Nat} {r:Except (Q8×Q1) (Z6×Q1)} (hS:Sep g T0 w0 [R,Q2 [sv a1 p0.l c1,iv p0.end_.Line,iv p0.end_.Col,iv p0.depth]]) (Q3:Ln X4 X2 Q2) (h1:SlR Y3 T0 w0 (sv a1 p0.l c1) p0.l) (hm:F p0=some r),
    Calls Tryz.prog 87 #[pt X4 X2] w0 (exR r (fun r=>E6 T0 w0 fun T w v => ∃(a13:OA) (c13:Nat) (a14:OA) (c14:Nat),v = .agg (X8 r.1 a13 c13).toArray∧Sep g T w [R,Q2 [sv a14 r.2.l c14,iv r.2.end_.Line,iv r.2.end_.Col,iv r.2.depth]]∧SlR X0 T w (sv a13 r.1.Kids c13) r.1.Kids∧SlR Y3 T w (sv a14 r.2.l c14) r.2.l∧True) (fun r=>Q2x T0 w0 fun T w v => ∃(a13:OA) (c13:Nat),v = .iface 48 (.agg (K6 r.1).toArray)∧Sep g T w [R,Q2 [sv a13 r.2.l c13,iv r.2.end_.Line,iv r.2.end_.Col,iv r.2.depth]]∧SlR Y3 T w (sv a13 r.2.l c13) r.2.l∧True))
structure Sp1 (G:Q6b):Prop where
  K1:I9 G.K1
  G1:R5 G.G1
  F8:W1 G.F8
  F2:Q0g G.F2
  K5:W0 G.K5
  J4:R7 G.J4
  F3:Q0h G.F3
  Y2:R8 G.Y2
theorem Q5a {G:Q6b} (hG:Sp1 G):I9 (H3 G) := @fun g T0 w0 R p0 X4 X2 Q2 a1 c1 r hS Q3 h1 hm=>by
  refine enter (args := [pt X4 X2]) Tryz.func104 rfl Tryz.ntmps104 rfl fun J => ?_
  unfold H3 at hm
  refine sq2 (rg (pv (P8 rfl) (nil (Q0 ?_))))
  refine sq2 (rg (pv (Z9 rfl) (?_)))
  obtain⟨y1,hx1,hm⟩:=Q4 hm
  rcases y1 with e3 | y1
  · have hm:=Z3 hm
    refine wl rfl (G8 A3 rfl (Q9 (p0:=p0) (Q2:=Q2) (p1 := [40]) (hS.bun [0] [1] rfl) Q3 h1 hx1) rfl fun v6 T6 w9 im9 rv6 => ?_)
    obtain⟨a9,c9,rfl,hS9,h8,_⟩:=rv6
    have hS9:=hS9.unb
    cases oI hm
    exact Z8 (P3 ⟨_,rfl,_,im9,⟨_,_,rfl,hS9.sel [0,1] rfl,h8,qZt⟩⟩)
  have hm:=V1 hm
  refine wl rfl (Z7 A3 rfl (Q9 (p0:=p0) (Q2:=Q2) (p1 := [40]) (hS.bun [0] [1] rfl) Q3 h1 hx1) rfl fun v1 T1 w1 im1 rv1 => ?_)
  obtain⟨a2,c2,rfl,hS1,h2,_⟩:=rv1
  have hS1:=hS1.unb
  refine nil (Q0 ?_)
  refine sq2 (rg (pv (Z9 rfl) (?_)))
  obtain⟨y2,hx2,hm⟩:=Q4 hm
  rcases y2 with e2 | y2
  · have hm:=Z3 hm
    refine wl rfl (G8 Q4r rfl (hG.Y2 (p0:=y1) (Q2:=Q2) (hS1.bun [0] [1] rfl) Q3 h2 hx2) rfl fun v5 T5 w8 im8 rv5 => ?_)
    obtain⟨a8,c8,rfl,hS8,h7,_⟩:=rv5
    have hS8:=hS8.unb
    cases oI hm
    exact Z8 (P3 ⟨_,rfl,_,(iT im1 im8),⟨_,_,rfl,hS8.sel [0,1] rfl,h7,qZt⟩⟩)
  have hm:=V1 hm
  refine wl rfl (Z7 Q4r rfl (hG.Y2 (p0:=y1) (Q2:=Q2) (hS1.bun [0] [1] rfl) Q3 h2 hx2) rfl fun v2 T2 w2 im2 rv2 => ?_)
  obtain⟨a3,c3,a4,c4,rfl,hS2,h3,h4,_⟩:=rv2
  have hS2:=hS2.unb
  refine wl rfl (alS (zs := [iv 0,iv 0,iv 0,qZs [],qZs [],.int .u32 0,qZs [],qZs [],iv 0,.slice none 0 0]) zeroValue99 rfl hS2 fun w3 b1 im3 hS3 => ?_)
  refine wl rfl (X6 (q:=0) hS3 ⟨rfl,rfl⟩ rfl rfl rfl sizeOf99 rfl rfl rfl fun w4 im4 hS4 => ?_)
  refine nil (Q0 ?_)
  refine sq2 (rg (pv (Z9 rfl) (?_)))
  obtain⟨y3,hx3,hm⟩:=Q4 hm
  rcases y3 with e1 | y3
  · have hm:=Z3 hm
    refine wl rfl (G8 A3 rfl (Q9 (p0:=y2.2) (Q2:=Q2) (p1 := [41]) (hS4.bun [0,1] [2] rfl) Q3 (h4.mono (iT im3 im4)) hx3) rfl fun v4 T4 w7 im7 rv4 => ?_)
    obtain⟨a7,c7,rfl,hS7,h6,_⟩:=rv4
    have hS7:=hS7.unb
    cases oI hm
    exact Z8 (P3 ⟨_,rfl,_,(iT im1 (iT im2 (iT im3 (iT im4 im7)))),⟨_,_,rfl,hS7.sel [1,2] rfl,h6,qZt⟩⟩)
  have hm:=V1 hm
  refine wl rfl (Z7 A3 rfl (Q9 (p0:=y2.2) (Q2:=Q2) (p1 := [41]) (hS4.bun [0,1] [2] rfl) Q3 (h4.mono (iT im3 im4)) hx3) rfl fun v3 T3 w5 im5 rv3 => ?_)
  obtain⟨a5,c5,rfl,hS5,h5,_⟩:=rv3
  have hS5:=hS5.unb
  refine nil (Q0 ?_)
  refine sq2 (rg (pv (Z5 rfl isAgg99 sizeOf99 rfl (hS5.cells0 (i:=0) ⟨rfl,rfl⟩ (o:=0) rfl) (cs:=(X8 y2.1 a3 c3))) (wl rfl (bsS (r:=X0) (l:=([y2.1]:List Z6)) (css := [(X8 y2.1 a3 c3)]) hS5 underlying56 sizeOf99 zeroValue99 rfl rfl (by kernel_rfl) rfl ⟨(M2 (x:=y2.1) (h3.mono (iT im3 (iT im4 im5))):X0.rp _ _ _ _),qZt⟩ rfl rfl fun w6 a6 n1 c6 im6 hS6 => ?_))))
  refine pv (P8 rfl) (nil (Q0 ?_))
  cases oI hm
  exact rtn (U2 rfl rfl ⟨_,rfl,_,(iT im1 (iT im2 (iT im3 (iT im4 (iT im5 im6))))),⟨_,_,_,_,_,rfl,hS6.sel [2,3,0] rfl,(h5.mono im6),qZt⟩⟩)
theorem Q6h {G:Q6b} (hG:Sp1 G):R5 (I5 G) := @fun g T0 w0 R p0 X4 X2 Q2 a1 c1 r hS Q3 h1 hm=>by
  refine enter (args := [pt X4 X2]) Tryz.func128 rfl Tryz.ntmps128 rfl fun J => ?_
  unfold I5 at hm
  refine sq2 (rg (pv (P8 rfl) (nil (Q0 ?_))))
  refine sq2 (rg (pv (Z9 rfl) (?_)))
  obtain⟨y1,hx1,hm⟩:=Q4 hm
  rcases y1 with e5 | y1
  · have hm:=Z3 hm
    refine wl rfl (G8 A3 rfl (Q9 (p0:=p0) (Q2:=Q2) (p1 := [40]) (hS.bun [0] [1] rfl) Q3 h1 hx1) rfl fun v12 T13 w16 im16 rv12 => ?_)
    obtain⟨a20,c20,rfl,hS17,h16,_⟩:=rv12
    have hS17:=hS17.unb
    cases oI hm
    exact Z8 (P3 ⟨_,rfl,_,im16,⟨_,_,rfl,hS17.sel [0,1] rfl,h16,qZt⟩⟩)
  have hm:=V1 hm
  refine wl rfl (Z7 A3 rfl (Q9 (p0:=p0) (Q2:=Q2) (p1 := [40]) (hS.bun [0] [1] rfl) Q3 h1 hx1) rfl fun v1 T1 w1 im1 rv1 => ?_)
  obtain⟨a2,c2,rfl,hS1,h2,_⟩:=rv1
  have hS1:=hS1.unb
  refine nil (Q0 ?_)
  refine sq2 (sq2 ?_)
  obtain⟨y2,hx2,hm⟩:=Q4 hm
  refine rg (pv (Z9 rfl) (wl rfl (Z7 Q1u rfl (Y8 (p0:=y1) (Q2:=Q2) (p1 := [41]) (hS1.bun [0] [1] rfl) Q3 h2 hx2) rfl fun v2 T2 w2 im2 rv2 => ?_)))
  obtain⟨a3,c3,rfl,hS2,h3,_⟩:=rv2
  have hS2:=hS2.unb
  refine nil (Q0 ?_)
  refine V3 rfl hm (fun hb1 hm => ?_) fun hb1 hm => ?_
  · refine sq2 (rg (pv (P8 rfl) (nil (Q0 ?_))))
    have hS3:=hS2.nilO X0 99
    cases oI hm
    exact rtn (Q6 (U2 rfl rfl ⟨_,rfl,_,(iT im1 im2),⟨_,_,_,_,_,rfl,hS3.sel [1,2,0] rfl,h3,qZt⟩⟩))
  refine skp (Q0 ?_)
  refine sq2 (rg (pv (Z9 rfl) (?_)))
  obtain⟨y3,hx3,hm⟩:=Q4 hm
  rcases y3 with e4 | y3
  · have hm:=Z3 hm
    refine wl rfl (G8 Q4r rfl (hG.Y2 (p0:=y2.2) (Q2:=Q2) (hS2.bun [0] [1] rfl) Q3 h3 hx3) rfl fun v11 T12 w15 im15 rv11 => ?_)
    obtain⟨a19,c19,rfl,hS16,h15,_⟩:=rv11
    have hS16:=hS16.unb
    cases oI hm
    exact Z8 (P3 ⟨_,rfl,_,(iT im1 (iT im2 im15)),⟨_,_,rfl,hS16.sel [0,1] rfl,h15,qZt⟩⟩)
  have hm:=V1 hm
  refine wl rfl (Z7 Q4r rfl (hG.Y2 (p0:=y2.2) (Q2:=Q2) (hS2.bun [0] [1] rfl) Q3 h3 hx3) rfl fun v3 T3 w3 im3 rv3 => ?_)
  obtain⟨a4,c4,a5,c5,rfl,hS4,h4,h5,_⟩:=rv3
  have hS4:=hS4.unb
  refine wl rfl (bsS (r:=X0) (l:=([y3.1]:List Z6)) (css := [(X8 y3.1 a4 c4)]) hS4 underlying56 sizeOf99 zeroValue99 rfl rfl (by kernel_rfl) rfl ⟨(M2 (x:=y3.1) h4:X0.rp _ _ _ _),qZt⟩ rfl rfl fun w4 a6 n1 c6 im4 hS5 => ?_)
  refine pv (P8 rfl) (nil (Q0 ?_))
  refine sq2 ?_
  obtain⟨o1,ho1,hq1⟩:=Q4 hm
  obtain⟨bd1,hbd1,ho1⟩:=K3 ho1
  refine blk (wp_loop_ghost (fun m a w5 => ∃(J:JV) (T4:TP) (x2:Q1) (x1:List Z6) (a7:OA) (n2:Nat) (c7:Nat) (a8:OA) (c8:Nat),a=env (nf 21) J [(0,pt X4 X2),(3,.slice a7 n2 c7)]∧Im T3 w4 T4 w5∧Sep g T4 w5 [G3 X0 99 (.slice a7 n2 c7) x1,R,Q2 [sv a8 x2.l c8,iv x2.end_.Line,iv x2.end_.Col,iv x2.depth]]∧SlR Y3 T4 w5 (sv a8 x2.l c8) x2.l∧V7 bd1 m (x1,x2)=some o1) NN ⟨_,_,y3.2,([y3.1]:List Z6),_,_,_,_,_,Q7 ⟨rfl,rfl,qZt⟩,Im.refl,hS5.sel [0,1,2] rfl,(h5.mono im4),ho1⟩ ?_)
  rintro m _ w5 ⟨J,T4,x2,x1,a7,n2,c7,a8,c8,rfl,im5,hS6,h6,ho1⟩
  obtain⟨m1,z1,rfl,hm,hn1⟩:=U4 ho1
  rw [hbd1] at hm
  refine sq2 (sq2 ?_)
  obtain⟨y4,hx4,hm⟩:=Q4 hm
  refine rg (pv (Z9 rfl) (wl rfl (Z7 Q1u rfl (Y8 (p0:=x2) (Q2:=Q2) (p1 := [44]) (hS6.bun [0,1] [2] rfl) Q3 h6 hx4) rfl fun v4 T5 w6 im6 rv4 => ?_)))
  obtain⟨a9,c9,rfl,hS7,h7,_⟩:=rv4
  have hS7:=hS7.unb
  refine nil (Q0 ?_)
  refine V3 rfl hm (fun hb2 hm => ?_) fun hb2 hm => ?_
  · refine skp (Q0 ?_)
    refine blk (rg (pv (N2 rfl) (pv (Z9 rfl) (?_))))
    obtain⟨y5,hx5,hm⟩:=Q4 hm
    rcases y5 with e1 | y5
    · have hm:=Z3 hm
      refine wl rfl (G8 Q4r rfl (hG.Y2 (p0:=y4.2) (Q2:=Q2) (hS7.bun [0,1] [2] rfl) Q3 h7 hx5) rfl fun v6 T7 w10 im10 rv6 => ?_)
      obtain⟨a14,c14,rfl,hS11,h10,_⟩:=rv6
      have hS11:=hS11.unb
      cases oI hm
      have hn1:_=Lp.ret _:=hn1
      subst hn1
      have hm:=X1 hq1
      cases oI hm
      exact G4 (Z8 (G4 (Z8 (P3 ⟨_,rfl,_,(iT im1 (iT im2 (iT im3 (iT im4 (iT im5 (iT im6 im10)))))),⟨_,_,rfl,hS11.sel [1,2] rfl,h10,qZt⟩⟩))))
    have hm:=V1 hm
    refine wl rfl (Z7 Q4r rfl (hG.Y2 (p0:=y4.2) (Q2:=Q2) (hS7.bun [0,1] [2] rfl) Q3 h7 hx5) rfl fun v5 T6 w7 im7 rv5 => ?_)
    obtain⟨a10,c10,a11,c11,rfl,hS8,h8,h9,_⟩:=rv5
    have hS8:=hS8.unb
    refine wl rfl (bsS (r:=X0) (l:=([y5.1]:List Z6)) (css := [(X8 y5.1 a10 c10)]) hS8 underlying56 sizeOf99 zeroValue99 rfl rfl (by kernel_rfl) rfl ⟨(M2 (x:=y5.1) h8:X0.rp _ _ _ _),qZt⟩ rfl rfl fun w8 a12 n3 c12 im8 hS9 => ?_)
    obtain⟨z_1,hro1,hm⟩:=Q4 hm
    refine wl rfl (apO (q:=1) (l:=x1) (us:=([y5.1]:List Z6)) hS9 ⟨rfl,rfl⟩ rfl rfl (hS9.own (i:=0) ⟨rfl,rfl⟩).v underlying56 el99 (D5 hro1) fun w9 a13 n4 c13 im9 hS10 => ?_)
    cases oI hm
    exact pv (P8 rfl) (nil (U6 (Q0 ⟨m1,Nat.lt_succ_self _,_,_,y5.2,(x1++([y5.1]:List Z6)),_,_,_,_,_,Q7 ⟨rfl,rfl,qZt⟩,(iT im5 (iT im6 (iT im7 (iT im8 im9)))),hS10.sel [1,2,3] rfl,(h9.mono (iT im8 im9)),hn1⟩)))
  cases oI hm
  have hn1:_=Lp.brk _:=hn1
  subst hn1
  have hm:=F1 hq1
  refine xt (V9 (V9 (L5 (Q0 ?_))))
  refine sq2 (rg (pv (Z9 rfl) (?_)))
  obtain⟨y7,hx7,hm⟩:=Q4 hm
  rcases y7 with e3 | y7
  · have hm:=Z3 hm
    refine wl rfl (G8 A3 rfl (Q9 (p0:=y4.2) (Q2:=Q2) (p1 := [41]) (hS7.bun [0,1] [2] rfl) Q3 h7 hx7) rfl fun v10 T11 w14 im14 rv10 => ?_)
    obtain⟨a18,c18,rfl,hS15,h14,_⟩:=rv10
    have hS15:=hS15.unb
    cases oI hm
    exact Z8 (P3 ⟨_,rfl,_,(iT im1 (iT im2 (iT im3 (iT im4 (iT im5 (iT im6 im14)))))),⟨_,_,rfl,hS15.sel [1,2] rfl,h14,qZt⟩⟩)
  have hm:=V1 hm
  refine wl rfl (Z7 A3 rfl (Q9 (p0:=y4.2) (Q2:=Q2) (p1 := [41]) (hS7.bun [0,1] [2] rfl) Q3 h7 hx7) rfl fun v9 T10 w13 im13 rv9 => ?_)
  obtain⟨a17,c17,rfl,hS14,h13,_⟩:=rv9
  have hS14:=hS14.unb
  refine nil (Q0 ?_)
  refine sq2 (rg (pv (N2 rfl) (pv (P8 rfl) (nil (Q0 ?_)))))
  cases oI hm
  exact rtn (U2 rfl rfl ⟨_,rfl,_,(iT im1 (iT im2 (iT im3 (iT im4 (iT im5 (iT im6 im13)))))),⟨_,_,_,_,_,rfl,hS14.sel [1,2,0] rfl,h13,qZt⟩⟩)
theorem Q6p {G:Q6b} (hG:Sp1 G):W1 (P7 G) := @fun g T0 w0 R p0 X4 X2 Q2 a1 c1 r hS Q3 h1 hm=>by
  refine enter (args := [pt X4 X2]) Tryz.func127 rfl Tryz.ntmps127 rfl fun J => ?_
  unfold P7 at hm
  refine sq2 (rg (wl rfl (alS (zs := [iv 0,iv 0,iv 0,qZs [],qZs [],.int .u32 0,qZs [],qZs [],iv 0,.slice none 0 0]) zeroValue99 rfl hS fun w1 b1 im1 hS1 => ?_)))
  refine nil (Q0 ?_)
  refine sq2 ?_
  obtain⟨y1,hx1,hm⟩:=Q4 hm
  refine rg (pv (Z9 rfl) (wl rfl (Z7 cf59 rfl (B0 (p0:=p0) (Q2:=Q2) (hS1.bun [0,1] [2] rfl) Q3 (h1.mono im1) hx1) rfl fun v1 T1 w2 im2 rv1 => ?_)))
  obtain⟨rfl,hS2,_⟩:=rv1
  have hS2:=hS2.unb
  refine pv (A8 (by kernel_rfl) rfl (u := .agg #[iv 0,iv y1.Line,iv y1.Col,qZs [],qZs [],.int .u32 0,qZs [],qZs [],iv 0,.slice none 0 0])) (wl rfl (alS (zs := [iv 0,iv 0,iv 0,qZs [],qZs [],.int .u32 0,qZs [],qZs [],iv 0,.slice none 0 0]) zeroValue99 rfl hS2 fun w3 b2 im3 hS3 => ?_))
  refine wl rfl (X6 (q:=0) hS3 ⟨rfl,rfl⟩ rfl rfl rfl sizeOf99 rfl rfl rfl fun w4 im4 hS4 => ?_)
  refine nil (Q0 ?_)
  obtain⟨kk1,hkk1,hm⟩:=F6 hm
  refine cut (fun a w5 => ∃(J:JV) (T2:TP) (x2:Q1) (x1:Z6) (a2:OA) (c2:Nat) (a3:OA) (c3:Nat),a=env (nf 64) J [(2,pt b1 0),(3,pt b2 0)]∧Im T1 w4 T2 w5∧Sep g T2 w5 [J6 b2 (X8 x1 a2 c2),J6 b1 [iv 0,iv 0,iv 0,qZs [],qZs [],.int .u32 0,qZs [],qZs [],iv 0,.slice none 0 0],R,Q2 [sv a3 x2.l c3,iv x2.end_.Line,iv x2.end_.Col,iv x2.depth]]∧SlR X0 T2 w5 (sv a2 x1.Kids c2) x1.Kids∧SlR Y3 T2 w5 (sv a3 x2.l c3) x2.l∧kk1 x1 x2=some r) ?_ ?_
  · refine blk (sq2 ?_)
    obtain⟨y2,hx2,hm⟩:=Q4 hm
    refine rg (pv (Z9 rfl) (wl rfl (Z7 Q1u rfl (Y8 (p0:=p0) (Q2:=Q2) (p1 := [40]) (hS4.bun [0,1,2] [3] rfl) Q3 (h1.mono (iT im1 (iT im2 (iT im3 im4)))) hx2) rfl fun v2 T3 w6 im6 rv2 => ?_)))
    obtain⟨a4,c4,rfl,hS5,h4,_⟩:=rv2
    have hS5:=hS5.unb
    refine pv (X5 rfl) (nil (Q0 ?_))
    refine V3 rfl hm (fun hb1 hm => ?_) fun hb1 hm => ?_
    · refine sq2 (rg (pv (Z9 rfl) (?_)))
      obtain⟨y3,hx3,hm⟩:=Q4 hm
      rcases y3 with e2 | y3
      · have hm:=Z3 hm
        refine wl rfl (G8 Q4r rfl (hG.Y2 (p0:=y2.2) (Q2:=Q2) (hS5.bun [0,1,2] [3] rfl) Q3 h4 hx3) rfl fun v6 T7 w11 im11 rv6 => ?_)
        obtain⟨a9,c9,rfl,hS10,h9,_⟩:=rv6
        have hS10:=hS10.unb
        cases oI hm
        exact Z8 (G4 (Z8 (P3 ⟨_,rfl,_,(iT im1 (iT im2 (iT im3 (iT im4 (iT im6 im11))))),⟨_,_,rfl,hS10.sel [2,3] rfl,h9,qZt⟩⟩)))
      have hm:=V1 hm
      refine wl rfl (Z7 Q4r rfl (hG.Y2 (p0:=y2.2) (Q2:=Q2) (hS5.bun [0,1,2] [3] rfl) Q3 h4 hx3) rfl fun v3 T4 w7 im7 rv3 => ?_)
      obtain⟨a5,c5,a6,c6,rfl,hS6,h5,h6,_⟩:=rv3
      have hS6:=hS6.unb
      refine wl rfl (X6 (q:=0) hS6 ⟨rfl,rfl⟩ rfl rfl rfl sizeOf99 rfl rfl rfl fun w8 im8 hS7 => ?_)
      refine nil (Q0 ?_)
      refine rg (pv (Z9 rfl) (?_))
      obtain⟨y4,hx4,hm⟩:=Q4 hm
      rcases y4 with e1 | y4
      · have hm:=Z3 hm
        refine wl rfl (G8 A3 rfl (Q9 (p0:=y3.2) (Q2:=Q2) (p1 := [41]) (hS7.bun [0,1,2] [3] rfl) Q3 (h6.mono im8) hx4) rfl fun v5 T6 w10 im10 rv5 => ?_)
        obtain⟨a8,c8,rfl,hS9,h8,_⟩:=rv5
        have hS9:=hS9.unb
        cases oI hm
        exact G4 (Z8 (P3 ⟨_,rfl,_,(iT im1 (iT im2 (iT im3 (iT im4 (iT im6 (iT im7 (iT im8 im10))))))),⟨_,_,rfl,hS9.sel [2,3] rfl,h8,qZt⟩⟩))
      have hm:=V1 hm
      refine wl rfl (Z7 A3 rfl (Q9 (p0:=y3.2) (Q2:=Q2) (p1 := [41]) (hS7.bun [0,1,2] [3] rfl) Q3 (h6.mono im8) hx4) rfl fun v4 T5 w9 im9 rv4 => ?_)
      obtain⟨a7,c7,rfl,hS8,h7,_⟩:=rv4
      have hS8:=hS8.unb
      exact nil (U6 (Q0 ⟨_,_,y4,y3.1,_,_,_,_,Q7 ⟨rfl,rfl,qZt⟩,(iT im6 (iT im7 (iT im8 im9))),hS8.sel [0,1,2,3] rfl,(h5.mono (iT im8 im9)),h7,hm⟩))
    refine sq2 ?_
    obtain⟨y5,hx5,hm⟩:=Q4 hm
    refine rg (pv (Z9 rfl) (wl rfl (Z7 Q1u rfl (Y8 (p0:=y2.2) (Q2:=Q2) (p1 := [105,110]) (hS5.bun [0,1,2] [3] rfl) Q3 h4 hx5) rfl fun v7 T8 w12 im12 rv7 => ?_)))
    obtain⟨a10,c10,rfl,hS11,h10,_⟩:=rv7
    have hS11:=hS11.unb
    refine pv (X5 rfl) (nil (Q0 ?_))
    refine V3 rfl hm (fun hb2 hm => ?_) fun hb2 hm => ?_
    · refine sq2 (rg (pv (Z1 rfl underlying99 rfl sizeOf3 rfl) (wl rfl (X6 (q:=0) hS11 ⟨rfl,rfl⟩ rfl rfl rfl sizeOf3 rfl rfl rfl fun w13 im13 hS12 => ?_))))
      refine pv (Z1 rfl underlying99 rfl sizeOf9 rfl) (wl rfl (X6 (q:=0) hS12 ⟨rfl,rfl⟩ rfl rfl rfl sizeOf9 rfl rfl rfl fun w14 im14 hS13 => ?_))
      refine nil (Q0 ?_)
      refine sq2 (rg (pv (Z9 rfl) (?_)))
      obtain⟨y6,hx6,hm⟩:=Q4 hm
      rcases y6 with e4 | y6
      · have hm:=Z3 hm
        refine wl rfl (G8 A3 rfl (Q9 (p0:=y5.2) (Q2:=Q2) (p1 := [40]) (hS13.bun [0,1,2] [3] rfl) Q3 (h10.mono (iT im13 im14)) hx6) rfl fun v11 T12 w18 im18 rv11 => ?_)
        obtain⟨a14,c14,rfl,hS17,h14,_⟩:=rv11
        have hS17:=hS17.unb
        cases oI hm
        exact Z8 (G4 (Z8 (P3 ⟨_,rfl,_,(iT im1 (iT im2 (iT im3 (iT im4 (iT im6 (iT im12 (iT im13 (iT im14 im18)))))))),⟨_,_,rfl,hS17.sel [2,3] rfl,h14,qZt⟩⟩)))
      have hm:=V1 hm
      refine wl rfl (Z7 A3 rfl (Q9 (p0:=y5.2) (Q2:=Q2) (p1 := [40]) (hS13.bun [0,1,2] [3] rfl) Q3 (h10.mono (iT im13 im14)) hx6) rfl fun v8 T9 w15 im15 rv8 => ?_)
      obtain⟨a11,c11,rfl,hS14,h11,_⟩:=rv8
      have hS14:=hS14.unb
      refine nil (Q0 ?_)
      refine rg (pv (Z9 rfl) (?_))
      obtain⟨y7,hx7,hm⟩:=Q4 hm
      rcases y7 with e3 | y7
      · have hm:=Z3 hm
        refine wl rfl (G8 A3 rfl (Q9 (p0:=y6) (Q2:=Q2) (p1 := [41]) (hS14.bun [0,1,2] [3] rfl) Q3 h11 hx7) rfl fun v10 T11 w17 im17 rv10 => ?_)
        obtain⟨a13,c13,rfl,hS16,h13,_⟩:=rv10
        have hS16:=hS16.unb
        cases oI hm
        exact G4 (Z8 (P3 ⟨_,rfl,_,(iT im1 (iT im2 (iT im3 (iT im4 (iT im6 (iT im12 (iT im13 (iT im14 (iT im15 im17))))))))),⟨_,_,rfl,hS16.sel [2,3] rfl,h13,qZt⟩⟩))
      have hm:=V1 hm
      refine wl rfl (Z7 A3 rfl (Q9 (p0:=y6) (Q2:=Q2) (p1 := [41]) (hS14.bun [0,1,2] [3] rfl) Q3 h11 hx7) rfl fun v9 T10 w16 im16 rv9 => ?_)
      obtain⟨a12,c12,rfl,hS15,h12,_⟩:=rv9
      have hS15:=hS15.unb
      exact nil (U6 (Q0 ⟨_,_,y7,(⟨7,y1,([]:List UInt8),([105,110]:List UInt8),0,(⟨([]:List UInt8),([]:List UInt8),0⟩:G5),[]⟩:Z6),_,_,_,_,Q7 ⟨rfl,rfl,qZt⟩,(iT im6 (iT im12 (iT im13 (iT im14 (iT im15 im16))))),hS15.sel [0,1,2,3] rfl,V2,h12,hm⟩))
    refine sq2 ?_
    obtain⟨y8,hx8,hm⟩:=Q4 hm
    refine rg (pv (Z9 rfl) (wl rfl (Z7 Q1u rfl (Y8 (p0:=y5.2) (Q2:=Q2) (p1 := [111,117,116]) (hS11.bun [0,1,2] [3] rfl) Q3 h10 hx8) rfl fun v12 T13 w19 im19 rv12 => ?_)))
    obtain⟨a15,c15,rfl,hS18,h15,_⟩:=rv12
    have hS18:=hS18.unb
    refine pv (X5 rfl) (nil (Q0 ?_))
    refine V3 rfl hm (fun hb3 hm => ?_) fun hb3 hm => ?_
    · refine sq2 (rg (pv (Z1 rfl underlying99 rfl sizeOf3 rfl) (wl rfl (X6 (q:=0) hS18 ⟨rfl,rfl⟩ rfl rfl rfl sizeOf3 rfl rfl rfl fun w20 im20 hS19 => ?_))))
      refine pv (Z1 rfl underlying99 rfl sizeOf9 rfl) (wl rfl (X6 (q:=0) hS19 ⟨rfl,rfl⟩ rfl rfl rfl sizeOf9 rfl rfl rfl fun w21 im21 hS20 => ?_))
      refine nil (Q0 ?_)
      refine rg (pv (Z9 rfl) (?_))
      obtain⟨y9,hx9,hm⟩:=Q4 hm
      rcases y9 with e5 | y9
      · have hm:=Z3 hm
        refine wl rfl (G8 Q8e rfl (hG.K1 (p0:=y8.2) (Q2:=Q2) (hS20.bun [0,1,2] [3] rfl) Q3 (h15.mono (iT im20 im21)) hx9) rfl fun v14 T16 w24 im25 rv14 => ?_)
        obtain⟨a18,c18,rfl,hS24,h18,_⟩:=rv14
        have hS24:=hS24.unb
        cases oI hm
        exact G4 (Z8 (P3 ⟨_,rfl,_,(iT im1 (iT im2 (iT im3 (iT im4 (iT im6 (iT im12 (iT im19 (iT im20 (iT im21 im25))))))))),⟨_,_,rfl,hS24.sel [2,3] rfl,h18,qZt⟩⟩))
      have hm:=V1 hm
      refine wl rfl (Z7 Q8e rfl (hG.K1 (p0:=y8.2) (Q2:=Q2) (hS20.bun [0,1,2] [3] rfl) Q3 (h15.mono (iT im20 im21)) hx9) rfl fun v13 T14 w22 im22 rv13 => ?_)
      obtain⟨a16,n1,c16,a17,c17,rfl,hS21,h16,_⟩:=rv13
      have hS21:=hS21.unb
      refine pv (Z1 rfl underlying99 rfl sizeOf56 rfl) (wl rfl (X6 (q:=0) hS21 ⟨rfl,rfl⟩ rfl rfl rfl sizeOf56 rfl rfl rfl fun w23 im23 hS22 => ?_))
      obtain⟨T15,im24,hS23,h17⟩:=hS22.seal 4 ⟨rfl,rfl⟩
      have hsh:=h17.len
      subst hsh
      exact nil (U6 (Q0 ⟨_,_,y9.2,(⟨7,y1,([]:List UInt8),([111,117,116]:List UInt8),0,(⟨([]:List UInt8),([]:List UInt8),0⟩:G5),y9.1⟩:Z6),_,_,_,_,Q7 ⟨rfl,rfl,qZt⟩,(iT im6 (iT im12 (iT im19 (iT im20 (iT im21 (iT im22 (iT im23 im24))))))),hS23.sel [0,1,2,3] rfl,h17,(h16.mono (iT im23 im24)),hm⟩))
    refine sq2 (rg (pv (Z9 rfl) (pv (J1 rfl) (pv (Z1 rfl underlying43 rfl sizeOf38 rfl) (pv (Z4 rfl isAgg38 (hS18.cellB (i:=3) ⟨rfl,rfl⟩ Q3 (j:=0) rfl)) (pv (L3 rfl underlying38) (pv (X7 rfl rfl rfl) (pv (Y7 rfl) (?_)))))))))
    rcases Bool.eq_false_or_eq_true (decide (0 < (List.length y8.2.l:Int))) with hb4 | hb4
    · have hm:=V8 hb4 hm
      obtain⟨u6,hx10,hm⟩:=Q4 hm
      obtain⟨b3,of1,cs1,k1,cp1,hv1,hp1,hl1,he1,hr1,hc1,hT1⟩:=h15.ixT hx10 rfl
      cases I3 hr1
      refine gT (d0:=48) rfl rfl hb4 (pv (Z9 rfl) (gT (d0:=48) rfl rfl hb4 (pv (J1 rfl) (gT (d0:=48) rfl rfl hb4 (pv (Z1 rfl underlying43 rfl sizeOf38 rfl) (gT (d0:=48) rfl rfl hb4 (pv (Z4 rfl isAgg38 (hS18.cellB (i:=3) ⟨rfl,rfl⟩ Q3 (j:=0) rfl)) (gT (d0:=48) rfl rfl hb4 (pv (B2 hv1 rfl underlying38 sizeOf89 hp1 hl1 he1) (gT (d0:=48) rfl rfl hb4 (pv (Z1 rfl underlying89 rfl sizeOf3 rfl) (gT (d0:=48) rfl rfl hb4 (pv (Z4 rfl isAgg3 (hc1.get (j:=0) rfl)) (gT (d0:=48) rfl rfl hb4 (pv (X7 rfl rfl rfl) (pv (Y1 rfl hb4 rfl) (pv (X5 rfl) (nil (Y9 [(0,pt X4 X2),(2,pt b1 0),(3,pt b2 0),(41,.bool (u6.Kind == 3))] ⟨rfl,rfl,rfl,rfl,qZt⟩ fun J => ?_)))))))))))))))))))
      refine V3 rfl hm (fun hb5 hm => ?_) fun hb5 hm => ?_
      · refine rg (pv (Z9 rfl) (?_))
        obtain⟨y10,hx11,hm⟩:=Q4 hm
        rcases y10 with e6 | y10
        · have hm:=Z3 hm
          refine wl rfl (G8 cf84 rfl (N4 (p0:=y8.2) (Q2:=Q2) (p1:=3) (hS18.bun [0,1,2] [3] rfl) Q3 h15 hx11) rfl fun v16 T18 w28 im29 rv16 => ?_)
          obtain⟨a20,c20,rfl,hS28,h20,_⟩:=rv16
          have hS28:=hS28.unb
          cases oI hm
          exact G4 (Z8 (P3 ⟨_,rfl,_,(iT im1 (iT im2 (iT im3 (iT im4 (iT im6 (iT im12 (iT im19 im29))))))),⟨_,_,rfl,hS28.sel [2,3] rfl,h20,qZt⟩⟩))
        have hm:=V1 hm
        refine wl rfl (Z7 cf84 rfl (N4 (p0:=y8.2) (Q2:=Q2) (p1:=3) (hS18.bun [0,1,2] [3] rfl) Q3 h15 hx11) rfl fun v15 T17 w25 im26 rv15 => ?_)
        obtain⟨a19,c19,rfl,hS25,h19,_⟩:=rv15
        have hS25:=hS25.unb
        refine pv (r_fd1 rfl underlying89 rfl isAgg87 rfl) (pv (Z1 rfl underlying99 rfl sizeOf3 rfl) (wl rfl (X6 (q:=0) hS25 ⟨rfl,rfl⟩ rfl rfl rfl sizeOf3 rfl rfl rfl fun w26 im27 hS26 => ?_)))
        refine pv (Z1 rfl underlying99 rfl sizeOf87 rfl) (wl rfl (X6 (q:=0) hS26 ⟨rfl,rfl⟩ rfl rfl rfl sizeOf87 rfl rfl rfl fun w27 im28 hS27 => ?_))
        exact nil (U6 (Q0 ⟨_,_,y10.2,(⟨1,y1,([]:List UInt8),([]:List UInt8),y10.1.Num,(⟨([]:List UInt8),([]:List UInt8),0⟩:G5),[]⟩:Z6),_,_,_,_,Q7 ⟨rfl,rfl,qZt⟩,(iT im6 (iT im12 (iT im19 (iT im26 (iT im27 im28))))),hS27.sel [0,1,2,3] rfl,V2,(h19.mono (iT im27 im28)),hm⟩))
      refine sq2 (rg (pv (Z9 rfl) (?_)))
      obtain⟨y11,hx12,hm⟩:=Q4 hm
      rcases y11 with e8 | y11
      · have hm:=Z3 hm
        refine wl rfl (G8 Q4s rfl (V6 (p0:=y8.2) (Q2:=Q2) (hS18.bun [0,1,2] [3] rfl) Q3 h15 hx12) rfl fun v21 T24 w37 im39 rv21 => ?_)
        obtain⟨a25,c25,rfl,hS38,h25,_⟩:=rv21
        have hS38:=hS38.unb
        cases oI hm
        exact Z8 (G4 (Z8 (P3 ⟨_,rfl,_,(iT im1 (iT im2 (iT im3 (iT im4 (iT im6 (iT im12 (iT im19 im39))))))),⟨_,_,rfl,hS38.sel [2,3] rfl,h25,qZt⟩⟩)))
      have hm:=V1 hm
      refine wl rfl (Z7 Q4s rfl (V6 (p0:=y8.2) (Q2:=Q2) (hS18.bun [0,1,2] [3] rfl) Q3 h15 hx12) rfl fun v17 T19 w29 im30 rv17 => ?_)
      obtain⟨a21,c21,rfl,hS29,h21,_⟩:=rv17
      have hS29:=hS29.unb
      refine pv (Z1 rfl underlying99 rfl sizeOf3 rfl) (wl rfl (X6 (q:=0) hS29 ⟨rfl,rfl⟩ rfl rfl rfl sizeOf3 rfl rfl rfl fun w30 im31 hS30 => ?_))
      refine pv (Z1 rfl underlying99 rfl sizeOf9 rfl) (wl rfl (X6 (q:=0) hS30 ⟨rfl,rfl⟩ rfl rfl rfl sizeOf9 rfl rfl rfl fun w31 im32 hS31 => ?_))
      refine nil (Q0 ?_)
      refine sq2 ?_
      obtain⟨y12,hx13,hm⟩:=Q4 hm
      refine rg (pv (Z9 rfl) (wl rfl (Z7 Q8q rfl (G0 (p0:=y11.2) (Q2:=Q2) (p1 := [40]) (hS31.bun [0,1,2] [3] rfl) Q3 (h21.mono (iT im31 im32)) hx13) rfl fun v18 T20 w32 im33 rv18 => ?_)))
      obtain⟨rfl,hS32,_⟩:=rv18
      have hS32:=hS32.unb
      refine nil (Q0 ?_)
      refine V3 rfl hm (fun hb6 hm => ?_) fun hb6 hm => ?_
      · refine rg (pv (Z9 rfl) (?_))
        obtain⟨y13,hx14,hm⟩:=Q4 hm
        rcases y13 with e7 | y13
        · have hm:=Z3 hm
          refine wl rfl (G8 cf128 rfl (hG.G1 (p0:=y11.2) (Q2:=Q2) (hS32.bun [0,1,2] [3] rfl) Q3 (h21.mono (iT im31 (iT im32 im33))) hx14) rfl fun v20 T23 w36 im38 rv20 => ?_)
          obtain⟨a24,c24,rfl,hS37,h24,_⟩:=rv20
          have hS37:=hS37.unb
          cases oI hm
          exact G4 (Z8 (P3 ⟨_,rfl,_,(iT im1 (iT im2 (iT im3 (iT im4 (iT im6 (iT im12 (iT im19 (iT im30 (iT im31 (iT im32 (iT im33 im38))))))))))),⟨_,_,rfl,hS37.sel [2,3] rfl,h24,qZt⟩⟩))
        have hm:=V1 hm
        refine wl rfl (Z7 cf128 rfl (hG.G1 (p0:=y11.2) (Q2:=Q2) (hS32.bun [0,1,2] [3] rfl) Q3 (h21.mono (iT im31 (iT im32 im33))) hx14) rfl fun v19 T21 w33 im34 rv19 => ?_)
        obtain⟨a22,n2,c22,a23,c23,rfl,hS33,h22,_⟩:=rv19
        have hS33:=hS33.unb
        refine pv (Z1 rfl underlying99 rfl sizeOf3 rfl) (wl rfl (X6 (q:=0) hS33 ⟨rfl,rfl⟩ rfl rfl rfl sizeOf3 rfl rfl rfl fun w34 im35 hS34 => ?_))
        refine pv (Z1 rfl underlying99 rfl sizeOf56 rfl) (wl rfl (X6 (q:=0) hS34 ⟨rfl,rfl⟩ rfl rfl rfl sizeOf56 rfl rfl rfl fun w35 im36 hS35 => ?_))
        obtain⟨T22,im37,hS36,h23⟩:=hS35.seal 4 ⟨rfl,rfl⟩
        have hsh:=h23.len
        subst hsh
        exact nil (U6 (Q0 ⟨_,_,y13.2,(⟨7,y1,([]:List UInt8),y11.1,0,(⟨([]:List UInt8),([]:List UInt8),0⟩:G5),y13.1⟩:Z6),_,_,_,_,Q7 ⟨rfl,rfl,qZt⟩,(iT im6 (iT im12 (iT im19 (iT im30 (iT im31 (iT im32 (iT im33 (iT im34 (iT im35 (iT im36 im37)))))))))),hS36.sel [0,1,2,3] rfl,h23,(h22.mono (iT im35 (iT im36 im37))),hm⟩))
      exact skp (U6 (Q0 ⟨_,_,y11.2,(⟨2,y1,([]:List UInt8),y11.1,0,(⟨([]:List UInt8),([]:List UInt8),0⟩:G5),[]⟩:Z6),_,_,_,_,Q7 ⟨rfl,rfl,qZt⟩,(iT im6 (iT im12 (iT im19 (iT im30 (iT im31 (iT im32 im33)))))),hS32.sel [0,1,2,3] rfl,V2,(h21.mono (iT im31 (iT im32 im33))),hm⟩))
    have hm:=X3 hb4 hm
    refine gF (d0:=48) rfl rfl (by rw [hb4]; rfl) (gF (d0:=48) rfl rfl (by rw [hb4]; rfl) (gF (d0:=48) rfl rfl (by rw [hb4]; rfl) (gF (d0:=48) rfl rfl (by rw [hb4]; rfl) (gF (d0:=48) rfl rfl (by rw [hb4]; rfl) (gF (d0:=48) rfl rfl (by rw [hb4]; rfl) (gF (d0:=48) rfl rfl (by rw [hb4]; rfl) (gF (d0:=48) rfl rfl (by rw [hb4]; rfl) (pv (X9 rfl hb4 rfl) (pv (X5 rfl) (nil (Y9 [(0,pt X4 X2),(2,pt b1 0),(3,pt b2 0),(41,.bool false)] ⟨rfl,rfl,rfl,rfl,qZt⟩ fun J => ?_)))))))))))
    refine cnd (b:=false) rfl (fun h=>nomatch h) (fun _ => ?_)
    refine sq2 (rg (pv (Z9 rfl) (?_)))
    obtain⟨y14,hx15,hm⟩:=Q4 hm
    rcases y14 with e10 | y14
    · have hm:=Z3 hm
      refine wl rfl (G8 Q4s rfl (V6 (p0:=y8.2) (Q2:=Q2) (hS18.bun [0,1,2] [3] rfl) Q3 h15 hx15) rfl fun v26 T30 w46 im49 rv26 => ?_)
      obtain⟨a30,c30,rfl,hS48,h30,_⟩:=rv26
      have hS48:=hS48.unb
      cases oI hm
      exact Z8 (G4 (Z8 (P3 ⟨_,rfl,_,(iT im1 (iT im2 (iT im3 (iT im4 (iT im6 (iT im12 (iT im19 im49))))))),⟨_,_,rfl,hS48.sel [2,3] rfl,h30,qZt⟩⟩)))
    have hm:=V1 hm
    refine wl rfl (Z7 Q4s rfl (V6 (p0:=y8.2) (Q2:=Q2) (hS18.bun [0,1,2] [3] rfl) Q3 h15 hx15) rfl fun v22 T25 w38 im40 rv22 => ?_)
    obtain⟨a26,c26,rfl,hS39,h26,_⟩:=rv22
    have hS39:=hS39.unb
    refine pv (Z1 rfl underlying99 rfl sizeOf3 rfl) (wl rfl (X6 (q:=0) hS39 ⟨rfl,rfl⟩ rfl rfl rfl sizeOf3 rfl rfl rfl fun w39 im41 hS40 => ?_))
    refine pv (Z1 rfl underlying99 rfl sizeOf9 rfl) (wl rfl (X6 (q:=0) hS40 ⟨rfl,rfl⟩ rfl rfl rfl sizeOf9 rfl rfl rfl fun w40 im42 hS41 => ?_))
    refine nil (Q0 ?_)
    refine sq2 ?_
    obtain⟨y15,hx16,hm⟩:=Q4 hm
    refine rg (pv (Z9 rfl) (wl rfl (Z7 Q8q rfl (G0 (p0:=y14.2) (Q2:=Q2) (p1 := [40]) (hS41.bun [0,1,2] [3] rfl) Q3 (h26.mono (iT im41 im42)) hx16) rfl fun v23 T26 w41 im43 rv23 => ?_)))
    obtain⟨rfl,hS42,_⟩:=rv23
    have hS42:=hS42.unb
    refine nil (Q0 ?_)
    refine V3 rfl hm (fun hb8 hm => ?_) fun hb8 hm => ?_
    · refine rg (pv (Z9 rfl) (?_))
      obtain⟨y16,hx17,hm⟩:=Q4 hm
      rcases y16 with e9 | y16
      · have hm:=Z3 hm
        refine wl rfl (G8 cf128 rfl (hG.G1 (p0:=y14.2) (Q2:=Q2) (hS42.bun [0,1,2] [3] rfl) Q3 (h26.mono (iT im41 (iT im42 im43))) hx17) rfl fun v25 T29 w45 im48 rv25 => ?_)
        obtain⟨a29,c29,rfl,hS47,h29,_⟩:=rv25
        have hS47:=hS47.unb
        cases oI hm
        exact G4 (Z8 (P3 ⟨_,rfl,_,(iT im1 (iT im2 (iT im3 (iT im4 (iT im6 (iT im12 (iT im19 (iT im40 (iT im41 (iT im42 (iT im43 im48))))))))))),⟨_,_,rfl,hS47.sel [2,3] rfl,h29,qZt⟩⟩))
      have hm:=V1 hm
      refine wl rfl (Z7 cf128 rfl (hG.G1 (p0:=y14.2) (Q2:=Q2) (hS42.bun [0,1,2] [3] rfl) Q3 (h26.mono (iT im41 (iT im42 im43))) hx17) rfl fun v24 T27 w42 im44 rv24 => ?_)
      obtain⟨a27,n3,c27,a28,c28,rfl,hS43,h27,_⟩:=rv24
      have hS43:=hS43.unb
      refine pv (Z1 rfl underlying99 rfl sizeOf3 rfl) (wl rfl (X6 (q:=0) hS43 ⟨rfl,rfl⟩ rfl rfl rfl sizeOf3 rfl rfl rfl fun w43 im45 hS44 => ?_))
      refine pv (Z1 rfl underlying99 rfl sizeOf56 rfl) (wl rfl (X6 (q:=0) hS44 ⟨rfl,rfl⟩ rfl rfl rfl sizeOf56 rfl rfl rfl fun w44 im46 hS45 => ?_))
      obtain⟨T28,im47,hS46,h28⟩:=hS45.seal 4 ⟨rfl,rfl⟩
      have hsh:=h28.len
      subst hsh
      exact nil (U6 (Q0 ⟨_,_,y16.2,(⟨7,y1,([]:List UInt8),y14.1,0,(⟨([]:List UInt8),([]:List UInt8),0⟩:G5),y16.1⟩:Z6),_,_,_,_,Q7 ⟨rfl,rfl,qZt⟩,(iT im6 (iT im12 (iT im19 (iT im40 (iT im41 (iT im42 (iT im43 (iT im44 (iT im45 (iT im46 im47)))))))))),hS46.sel [0,1,2,3] rfl,h28,(h27.mono (iT im45 (iT im46 im47))),hm⟩))
    exact skp (U6 (Q0 ⟨_,_,y14.2,(⟨2,y1,([]:List UInt8),y14.1,0,(⟨([]:List UInt8),([]:List UInt8),0⟩:G5),[]⟩:Z6),_,_,_,_,Q7 ⟨rfl,rfl,qZt⟩,(iT im6 (iT im12 (iT im19 (iT im40 (iT im41 (iT im42 im43)))))),hS42.sel [0,1,2,3] rfl,V2,(h26.mono (iT im41 (iT im42 im43))),hm⟩))
  rintro _ w5 ⟨J,T2,x2,x1,a2,c2,a3,c3,rfl,im5,hS49,h2,h3,hm⟩
  rw [hkk1] at hm
  refine sq2 (rg (pv (Z5 rfl isAgg99 sizeOf99 rfl (hS49.cells0 (i:=0) ⟨rfl,rfl⟩ (o:=0) rfl) (cs:=(X8 x1 a2 c2))) (wl rfl (X6 (q:=1) hS49 ⟨rfl,rfl⟩ rfl rfl rfl sizeOf99 rfl rfl rfl fun w47 im50 hS50 => ?_))))
  refine nil (Q0 ?_)
  cases oI hm
  exact rtn (A5 (vs := [.agg (X8 x1 a2 c2).toArray]) rfl ⟨rvS rfl isAgg99 sizeOf99 rfl (hS50.bx (i:=1) ⟨rfl,rfl⟩),qZt⟩ rfl ⟨_,rfl,_,(iT im1 (iT im2 (iT im3 (iT im4 (iT im5 im50))))),⟨_,_,_,_,rfl,hS50.sel [2,3] rfl,(h2.mono im50),(h3.mono im50),qZt⟩⟩)
theorem Q7t {G:Q6b} (hG:Sp1 G):Q0g (N6 G) := @fun g T0 w0 R p0 X4 X2 Q2 a1 c1 r hS Q3 h1 hm=>by
  refine enter (args := [pt X4 X2]) Tryz.func126 rfl Tryz.ntmps126 rfl fun J => ?_
  unfold N6 at hm
  refine sq2 (rg (wl rfl (alS (zs := [iv 0,iv 0,iv 0,qZs [],qZs [],.int .u32 0,qZs [],qZs [],iv 0,.slice none 0 0]) zeroValue99 rfl hS fun w1 b1 im1 hS1 => ?_)))
  refine nil (Q0 ?_)
  refine sq2 (rg (pv (Z9 rfl) (?_)))
  obtain⟨y1,hx1,hm⟩:=Q4 hm
  rcases y1 with e4 | y1
  · have hm:=Z3 hm
    refine wl rfl (G8 cf127 rfl (hG.F8 (p0:=p0) (Q2:=Q2) (hS1.bun [0,1] [2] rfl) Q3 (h1.mono im1) hx1) rfl fun v12 T17 w34 im35 rv12 => ?_)
    obtain⟨a24,c24,rfl,hS36,h21,_⟩:=rv12
    have hS36:=hS36.unb
    cases oI hm
    exact Z8 (P3 ⟨_,rfl,_,(iT im1 im35),⟨_,_,rfl,hS36.sel [1,2] rfl,h21,qZt⟩⟩)
  have hm:=V1 hm
  refine wl rfl (Z7 cf127 rfl (hG.F8 (p0:=p0) (Q2:=Q2) (hS1.bun [0,1] [2] rfl) Q3 (h1.mono im1) hx1) rfl fun v1 T1 w2 im2 rv1 => ?_)
  obtain⟨a2,c2,a3,c3,rfl,hS2,h2,h3,_⟩:=rv1
  have hS2:=hS2.unb
  refine wl rfl (alS (zs := [iv 0,iv 0,iv 0,qZs [],qZs [],.int .u32 0,qZs [],qZs [],iv 0,.slice none 0 0]) zeroValue99 rfl hS2 fun w3 b2 im3 hS3 => ?_)
  refine wl rfl (X6 (q:=0) hS3 ⟨rfl,rfl⟩ rfl rfl rfl sizeOf99 rfl rfl rfl fun w4 im4 hS4 => ?_)
  refine nil (Q0 ?_)
  obtain⟨o1,ho1,hq1⟩:=Q4 hm
  obtain⟨bd1,hbd1,ho1⟩:=K3 ho1
  refine blk (wp_loop_ghost (fun m a w5 => ∃(J:JV) (T2:TP) (x2:Q1) (x1:Z6) (a4:OA) (c4:Nat) (a5:OA) (c5:Nat),a=env (nf 42) J [(0,pt X4 X2),(2,pt b1 0),(3,pt b2 0)]∧Im T1 w4 T2 w5∧Sep g T2 w5 [J6 b2 (X8 x1 a4 c4),J6 b1 [iv 0,iv 0,iv 0,qZs [],qZs [],.int .u32 0,qZs [],qZs [],iv 0,.slice none 0 0],R,Q2 [sv a5 x2.l c5,iv x2.end_.Line,iv x2.end_.Col,iv x2.depth]]∧SlR X0 T2 w5 (sv a4 x1.Kids c4) x1.Kids∧SlR Y3 T2 w5 (sv a5 x2.l c5) x2.l∧V7 bd1 m (x1,x2)=some o1) NN ⟨_,_,y1.2,y1.1,_,_,_,_,Q7 ⟨rfl,rfl,rfl,qZt⟩,Im.refl,hS4.sel [0,1,2,3] rfl,(h2.mono (iT im3 im4)),(h3.mono (iT im3 im4)),ho1⟩ ?_)
  rintro m _ w5 ⟨J,T2,x2,x1,a4,c4,a5,c5,rfl,im5,hS5,h4,h5,ho1⟩
  obtain⟨m1,z1,rfl,hm,hn1⟩:=U4 ho1
  rw [hbd1] at hm
  refine blk (sq2 (rg (wl rfl (alS (zs := [iv 0,iv 0,iv 0,qZs [],qZs [],.int .u32 0,qZs [],qZs [],iv 0,.slice none 0 0]) zeroValue99 rfl hS5 fun w6 b3 im6 hS6 => ?_))))
  refine nil (Q0 ?_)
  obtain⟨kk1,hkk1,hm⟩:=F6 hm
  have hS7:=hS6.nilO X0 99
  refine cut (fun a w7 => ∃(J:JV) (T3:TP) (x5:Q1) (x4:Z6) (a6:OA) (n1:Nat) (c6:Nat) (a7:OA) (c7:Nat),a=env (nf 42) J [(0,pt X4 X2),(2,pt b1 0),(3,pt b2 0),(4,pt b3 0)]∧Im T2 w6 T3 w7∧Sep g T3 w7 [G3 X0 99 (.slice a6 n1 c6) x4.Kids,J6 b3 [iv x4.Kind,iv x4.Pos.Line,iv x4.Pos.Col,qZs x4.Op,qZs x4.Name,.int .u32 x4.Num,qZs x4.Type_.Word,qZs x4.Type_.Name,iv x4.Type_.Stars,.slice a6 n1 c6],J6 b2 (X8 x1 a4 c4),J6 b1 [iv 0,iv 0,iv 0,qZs [],qZs [],.int .u32 0,qZs [],qZs [],iv 0,.slice none 0 0],R,Q2 [sv a7 x5.l c7,iv x5.end_.Line,iv x5.end_.Col,iv x5.depth]]∧SlR Y3 T3 w7 (sv a7 x5.l c7) x5.l∧kk1 x4 x5=some z1) ?_ ?_
  · refine sq2 ?_
    obtain⟨y2,hx2,hm⟩:=Q4 hm
    refine rg (pv (Z9 rfl) (wl rfl (Z7 Z3c rfl (H2 (p0:=x2) (Q2:=Q2) (hS7.bun [0,1,2,3,4] [5] rfl) Q3 (h5.mono im6) hx2) rfl fun v2 T4 w8 im8 rv2 => ?_)))
    obtain⟨rfl,hS8,_⟩:=rv2
    have hS8:=hS8.unb
    refine nil (Q0 ?_)
    refine blk (sq2 (rg (pv (E7 rfl rfl) (pv (X5 rfl) (nil (Q0 ?_))))))
    refine V3 rfl hm (fun hb1 hm => ?_) fun hb1 hm => ?_
    · refine sq2 ?_
      obtain⟨y3,hx3,hm⟩:=Q4 hm
      refine rg (pv (Z9 rfl) (wl rfl (Z7 Z0r rfl (E8 (p0:=x2) (Q2:=Q2) (p1:=8) (hS8.bun [0,1,2,3,4] [5] rfl) Q3 (h5.mono (iT im6 im8)) hx3) rfl fun v3 T5 w9 im9 rv3 => ?_)))
      obtain⟨a8,c8,a9,c9,rfl,hS9,h7,h8,_⟩:=rv3
      have hS9:=hS9.unb
      refine wl rfl (X6 (q:=1) hS9 ⟨rfl,rfl⟩ rfl rfl rfl sizeOf99 rfl rfl rfl fun w10 im10 hS10 => ?_)
      refine nil (Q0 ?_)
      refine sq2 (rg (pv (Z1 rfl underlying99 rfl sizeOf9 rfl) (wl rfl (X6 (q:=1) hS10 ⟨rfl,rfl⟩ rfl rfl rfl sizeOf9 rfl rfl rfl fun w11 im11 hS11 => ?_))))
      refine nil (Q0 ?_)
      refine sq2 (rsP [1,0,2,2,0,2] [0,1,2,3,4,5] mix (by kernel_rfl) hS11.lt (A4 (Q4m (A4 (Q4m (A4 (Q4m (Q1y))))))) fun w12 i1 => ?_)
      have im12:=i1.imm
      have hS12:=hS11.keep i1 (fun _ h=>h)
      refine s1 rfl qZt (Z5 rfl isAgg99 sizeOf99 rfl (hS12.cells0 (i:=2) ⟨rfl,rfl⟩ (o:=0) rfl) (cs:=(X8 x1 a4 c4))) rfl (s0 rfl qZt (fun _=>Z9 rfl) rfl (?_))
      obtain⟨y4,hx4,hm⟩:=Q4 hm
      rcases y4 with e2 | y4
      · have hm:=Z3 hm
        refine s2 [(0,.agg (X8 x1 a4 c4).toArray)] rfl qZt rfl (by kernel_rfl) (G8 Q4r rfl (hG.Y2 (p0:=y3.2) (Q2:=Q2) (hS12.bun [1,2,3,4] [5] rfl) Q3 (h8.mono (iT im10 (iT im11 im12))) hx4) rfl fun v7 T9 w18 im18 rv7 => ?_)
        obtain⟨a15,c15,rfl,hS18,h13,_⟩:=rv7
        have hS18:=hS18.unb
        cases oI hm
        have hn1:_=Lp.ret _:=hn1
        subst hn1
        have hm:=X1 hq1
        cases oI hm
        exact Z8 (G4 (Z8 (G4 (Z8 (G4 (P3 ⟨_,rfl,_,(iT im1 (iT im2 (iT im3 (iT im4 (iT im5 (iT im6 (iT im8 (iT im9 (iT im10 (iT im11 (iT im12 im18))))))))))),⟨_,_,rfl,hS18.sel [3,4] rfl,h13,qZt⟩⟩))))))
      have hm:=V1 hm
      refine s2 [(0,.agg (X8 x1 a4 c4).toArray)] rfl qZt rfl (by kernel_rfl) (Z7 Q4r rfl (hG.Y2 (p0:=y3.2) (Q2:=Q2) (hS12.bun [1,2,3,4] [5] rfl) Q3 (h8.mono (iT im10 (iT im11 im12))) hx4) rfl fun v4 T6 w13 im13 rv4 => ?_)
      obtain⟨a10,c10,a11,c11,rfl,hS13,h9,h10,_⟩:=rv4
      have hS13:=hS13.unb
      refine⟨st1 rfl (Z5 rfl isAgg99 sizeOf99 rfl (hS13.cells0 (i:=1) ⟨rfl,rfl⟩ (o:=0) rfl) (cs:=(X8 x1 a4 c4))) (st0),?_⟩
      refine s2 [] rfl qZt rfl (by kernel_rfl) (bsS (r:=X0) (l:=([x1,y4.1]:List Z6)) (css := [(X8 x1 a4 c4),(X8 y4.1 a10 c10)]) hS13 underlying56 sizeOf99 zeroValue99 rfl rfl (by kernel_rfl) rfl ⟨(M2 (x:=x1) (h4.mono (iT im6 (iT im8 (iT im9 (iT im10 (iT im11 (iT im12 im13))))))):X0.rp _ _ _ _),(M2 (x:=y4.1) h9:X0.rp _ _ _ _),qZt⟩ rfl rfl fun w14 a12 n2 c12 im14 hS14 => ?_)
      refine⟨st0,?_⟩
      refine s0 rfl qZt (fun _=>Z1 rfl underlying99 rfl sizeOf56 rfl) rfl (s2 [] rfl qZt rfl (by kernel_rfl) (X6 (q:=1) hS14 ⟨rfl,rfl⟩ rfl rfl rfl sizeOf56 rfl rfl rfl fun w15 im15 hS15 => ?_))
      refine⟨st0,?_⟩
      refine seP (Q0 ?_)
      refine rg (pv (Z9 rfl) (?_))
      obtain⟨y5,hx5,hm⟩:=Q4 hm
      rcases y5 with e1 | y5
      · have hm:=Z3 hm
        refine wl rfl (G8 A3 rfl (Q9 (p0:=y4.2) (Q2:=Q2) (p1 := [93]) (hS15.bun [0,1,2,3,4] [5] rfl) Q3 (h10.mono (iT im14 im15)) hx5) rfl fun v6 T8 w17 im17 rv6 => ?_)
        obtain⟨a14,c14,rfl,hS17,h12,_⟩:=rv6
        have hS17:=hS17.unb
        cases oI hm
        have hn1:_=Lp.ret _:=hn1
        subst hn1
        have hm:=X1 hq1
        cases oI hm
        exact G4 (Z8 (G4 (Z8 (G4 (P3 ⟨_,rfl,_,(iT im1 (iT im2 (iT im3 (iT im4 (iT im5 (iT im6 (iT im8 (iT im9 (iT im10 (iT im11 (iT im12 (iT im13 (iT im14 (iT im15 im17)))))))))))))),⟨_,_,rfl,hS17.sel [4,5] rfl,h12,qZt⟩⟩)))))
      have hm:=V1 hm
      refine wl rfl (Z7 A3 rfl (Q9 (p0:=y4.2) (Q2:=Q2) (p1 := [93]) (hS15.bun [0,1,2,3,4] [5] rfl) Q3 (h10.mono (iT im14 im15)) hx5) rfl fun v5 T7 w16 im16 rv5 => ?_)
      obtain⟨a13,c13,rfl,hS16,h11,_⟩:=rv5
      have hS16:=hS16.unb
      exact nil (U6 (Q0 ⟨_,_,y5,({y3.1 with Op:=([]:List UInt8),Kids:=([x1,y4.1]:List Z6)}),_,_,_,_,_,Q7 ⟨rfl,rfl,rfl,rfl,qZt⟩,(iT im8 (iT im9 (iT im10 (iT im11 (iT im12 (iT im13 (iT im14 (iT im15 im16)))))))),hS16.sel [0,1,2,3,4,5] rfl,h11,hm⟩))
    obtain⟨kk2,hkk2,hm⟩:=F6 hm
    refine cut (fun a w19 => ∃(J:JV) (T10:TP) (x6:Bool),a=env (nf 42) J [(0,pt X4 X2),(2,pt b1 0),(3,pt b2 0),(4,pt b3 0),(8,(qZs y2)),(22,.bool x6)]∧Im T4 w8 T10 w19∧Sep g T10 w19 [G3 X0 99 (.slice none 0 0) [],J6 b3 [iv 0,iv 0,iv 0,qZs [],qZs [],.int .u32 0,qZs [],qZs [],iv 0,.slice none 0 0],J6 b2 (X8 x1 a4 c4),J6 b1 [iv 0,iv 0,iv 0,qZs [],qZs [],.int .u32 0,qZs [],qZs [],iv 0,.slice none 0 0],R,Q2 [sv a5 x2.l c5,iv x2.end_.Line,iv x2.end_.Col,iv x2.depth]]∧kk2 x6=some z1) ?_ ?_
    · refine sq2 (rg (pv (E7 rfl rfl) (pv (X5 rfl) (nil (Q0 ?_)))))
      refine V3 rfl hm (fun hb2 hm => ?_) fun hb2 hm => ?_
      · exact skp (Q0 ⟨_,_,(decide (y2=([46]:List UInt8))),Q7 ⟨rfl,rfl,rfl,rfl,rfl,rfl,qZt⟩,Im.refl,hS8.sel [0,1,2,3,4,5] rfl,hm⟩)
      exact rg (pv (E7 rfl rfl) (pv (X5 rfl) (nil (Q0 ⟨_,_,(decide (y2=([45,62]:List UInt8))),Q7 ⟨rfl,rfl,rfl,rfl,rfl,rfl,qZt⟩,Im.refl,hS8.sel [0,1,2,3,4,5] rfl,hm⟩))))
    rintro _ w19 ⟨J,T10,x6,rfl,im19,hS19,hm⟩
    rw [hkk2] at hm
    refine V3 rfl hm (fun hb3 hm => ?_) fun hb3 hm => ?_
    · refine sq2 ?_
      obtain⟨y6,hx6,hm⟩:=Q4 hm
      refine rg (pv (Z9 rfl) (wl rfl (Z7 Z0r rfl (E8 (p0:=x2) (Q2:=Q2) (p1:=9) (hS19.bun [0,1,2,3,4] [5] rfl) Q3 (h5.mono (iT im6 (iT im8 im19))) hx6) rfl fun v8 T11 w20 im20 rv8 => ?_)))
      obtain⟨a16,c16,a17,c17,rfl,hS20,h14,h15,_⟩:=rv8
      have hS20:=hS20.unb
      refine wl rfl (X6 (q:=1) hS20 ⟨rfl,rfl⟩ rfl rfl rfl sizeOf99 rfl rfl rfl fun w21 im21 hS21 => ?_)
      refine nil (Q0 ?_)
      refine sq2 (rg (pv (Z9 rfl) (?_)))
      obtain⟨y7,hx7,hm⟩:=Q4 hm
      rcases y7 with e3 | y7
      · have hm:=Z3 hm
        refine wl rfl (G8 Q4s rfl (V6 (p0:=y6.2) (Q2:=Q2) (hS21.bun [1,2,3,4] [5] rfl) Q3 (h15.mono im21) hx7) rfl fun v10 T13 w26 im26 rv10 => ?_)
        obtain⟨a20,c20,rfl,hS26,h17,_⟩:=rv10
        have hS26:=hS26.unb
        cases oI hm
        have hn1:_=Lp.ret _:=hn1
        subst hn1
        have hm:=X1 hq1
        cases oI hm
        exact Z8 (G4 (Z8 (G4 (Z8 (G4 (P3 ⟨_,rfl,_,(iT im1 (iT im2 (iT im3 (iT im4 (iT im5 (iT im6 (iT im8 (iT im19 (iT im20 (iT im21 im26)))))))))),⟨_,_,rfl,hS26.sel [3,4] rfl,h17,qZt⟩⟩))))))
      have hm:=V1 hm
      refine wl rfl (Z7 Q4s rfl (V6 (p0:=y6.2) (Q2:=Q2) (hS21.bun [1,2,3,4] [5] rfl) Q3 (h15.mono im21) hx7) rfl fun v9 T12 w22 im22 rv9 => ?_)
      obtain⟨a18,c18,rfl,hS22,h16,_⟩:=rv9
      have hS22:=hS22.unb
      refine pv (Z1 rfl underlying99 rfl sizeOf9 rfl) (wl rfl (X6 (q:=0) hS22 ⟨rfl,rfl⟩ rfl rfl rfl sizeOf9 rfl rfl rfl fun w23 im23 hS23 => ?_))
      refine nil (Q0 ?_)
      refine rg (pv (Z5 rfl isAgg99 sizeOf99 rfl (hS23.cells0 (i:=1) ⟨rfl,rfl⟩ (o:=0) rfl) (cs:=(X8 x1 a4 c4))) (wl rfl (bsS (r:=X0) (l:=([x1]:List Z6)) (css := [(X8 x1 a4 c4)]) hS23 underlying56 sizeOf99 zeroValue99 rfl rfl (by kernel_rfl) rfl ⟨(M2 (x:=x1) (h4.mono (iT im6 (iT im8 (iT im19 (iT im20 (iT im21 (iT im22 im23))))))):X0.rp _ _ _ _),qZt⟩ rfl rfl fun w24 a19 n3 c19 im24 hS24 => ?_)))
      refine pv (Z1 rfl underlying99 rfl sizeOf56 rfl) (wl rfl (X6 (q:=1) hS24 ⟨rfl,rfl⟩ rfl rfl rfl sizeOf56 rfl rfl rfl fun w25 im25 hS25 => ?_))
      exact nil (U6 (Q0 ⟨_,_,y7.2,({y6.1 with Name:=y7.1,Kids:=([x1]:List Z6)}),_,_,_,_,_,Q7 ⟨rfl,rfl,rfl,rfl,qZt⟩,(iT im8 (iT im19 (iT im20 (iT im21 (iT im22 (iT im23 (iT im24 im25))))))),hS25.sel [0,1,2,3,4,5] rfl,(h16.mono (iT im23 (iT im24 im25))),hm⟩))
    obtain⟨kk3,hkk3,hm⟩:=F6 hm
    refine cut (fun a w27 => ∃(J:JV) (T14:TP) (x7:Bool),a=env (nf 42) J [(0,pt X4 X2),(2,pt b1 0),(3,pt b2 0),(4,pt b3 0),(33,.bool x7)]∧Im T10 w19 T14 w27∧Sep g T14 w27 [G3 X0 99 (.slice none 0 0) [],J6 b3 [iv 0,iv 0,iv 0,qZs [],qZs [],.int .u32 0,qZs [],qZs [],iv 0,.slice none 0 0],J6 b2 (X8 x1 a4 c4),J6 b1 [iv 0,iv 0,iv 0,qZs [],qZs [],.int .u32 0,qZs [],qZs [],iv 0,.slice none 0 0],R,Q2 [sv a5 x2.l c5,iv x2.end_.Line,iv x2.end_.Col,iv x2.depth]]∧kk3 x7=some z1) ?_ ?_
    · refine sq2 (rg (pv (E7 rfl rfl) (pv (X5 rfl) (nil (Q0 ?_)))))
      refine V3 rfl hm (fun hb4 hm => ?_) fun hb4 hm => ?_
      · exact skp (Q0 ⟨_,_,(decide (y2=([43,43]:List UInt8))),Q7 ⟨rfl,rfl,rfl,rfl,rfl,qZt⟩,Im.refl,hS19.sel [0,1,2,3,4,5] rfl,hm⟩)
      exact rg (pv (E7 rfl rfl) (pv (X5 rfl) (nil (Q0 ⟨_,_,(decide (y2=([45,45]:List UInt8))),Q7 ⟨rfl,rfl,rfl,rfl,rfl,qZt⟩,Im.refl,hS19.sel [0,1,2,3,4,5] rfl,hm⟩))))
    rintro _ w27 ⟨J,T14,x7,rfl,im27,hS27,hm⟩
    rw [hkk3] at hm
    refine V3 rfl hm (fun hb5 hm => ?_) fun hb5 hm => ?_
    · refine sq2 ?_
      obtain⟨y8,hx8,hm⟩:=Q4 hm
      refine rg (pv (Z9 rfl) (wl rfl (Z7 Z0r rfl (E8 (p0:=x2) (Q2:=Q2) (p1:=11) (hS27.bun [0,1,2,3,4] [5] rfl) Q3 (h5.mono (iT im6 (iT im8 (iT im19 im27)))) hx8) rfl fun v11 T15 w28 im28 rv11 => ?_)))
      obtain⟨a21,c21,a22,c22,rfl,hS28,h18,h19,_⟩:=rv11
      have hS28:=hS28.unb
      refine wl rfl (X6 (q:=1) hS28 ⟨rfl,rfl⟩ rfl rfl rfl sizeOf99 rfl rfl rfl fun w29 im29 hS29 => ?_)
      refine nil (Q0 ?_)
      refine rg (pv (Z5 rfl isAgg99 sizeOf99 rfl (hS29.cells0 (i:=2) ⟨rfl,rfl⟩ (o:=0) rfl) (cs:=(X8 x1 a4 c4))) (wl rfl (bsS (r:=X0) (l:=([x1]:List Z6)) (css := [(X8 x1 a4 c4)]) hS29 underlying56 sizeOf99 zeroValue99 rfl rfl (by kernel_rfl) rfl ⟨(M2 (x:=x1) (h4.mono (iT im6 (iT im8 (iT im19 (iT im27 (iT im28 im29)))))):X0.rp _ _ _ _),qZt⟩ rfl rfl fun w30 a23 n4 c23 im30 hS30 => ?_)))
      refine pv (Z1 rfl underlying99 rfl sizeOf56 rfl) (wl rfl (X6 (q:=2) hS30 ⟨rfl,rfl⟩ rfl rfl rfl sizeOf56 rfl rfl rfl fun w31 im31 hS31 => ?_))
      exact nil (U6 (Q0 ⟨_,_,y8.2,({y8.1 with Kids:=([x1]:List Z6)}),_,_,_,_,_,Q7 ⟨rfl,rfl,rfl,rfl,qZt⟩,(iT im8 (iT im19 (iT im27 (iT im28 (iT im29 (iT im30 im31)))))),hS31.sel [0,2,3,4,5,6] rfl,(h19.mono (iT im29 (iT im30 im31))),hm⟩))
    refine sq2 (rg (pv (Z5 rfl isAgg99 sizeOf99 rfl (hS27.cells0 (i:=2) ⟨rfl,rfl⟩ (o:=0) rfl) (cs:=(X8 x1 a4 c4))) (wl rfl (X6 (q:=3) hS27 ⟨rfl,rfl⟩ rfl rfl rfl sizeOf99 rfl rfl rfl fun w32 im32 hS32 => ?_))))
    refine nil (Q0 ?_)
    cases oI hm
    have hn1:_=Lp.ret _:=hn1
    subst hn1
    have hm:=X1 hq1
    cases oI hm
    exact rtn (Y5 (Q6 (Y5 (Q6 (Y5 (A5 (vs := [.agg (X8 x1 a4 c4).toArray]) rfl ⟨rvS rfl isAgg99 sizeOf99 rfl (hS32.bx (i:=3) ⟨rfl,rfl⟩),qZt⟩ rfl ⟨_,rfl,_,(iT im1 (iT im2 (iT im3 (iT im4 (iT im5 (iT im6 (iT im8 (iT im19 (iT im27 im32))))))))),⟨_,_,_,_,rfl,hS32.sel [4,5] rfl,(h4.mono (iT im6 (iT im8 (iT im19 (iT im27 im32))))),(h5.mono (iT im6 (iT im8 (iT im19 (iT im27 im32))))),qZt⟩⟩))))))
  rintro _ w7 ⟨J,T3,x5,x4,a6,n1,c6,a7,c7,rfl,im7,hS33,h6,hm⟩
  rw [hkk1] at hm
  refine rg (pv (Z5 rfl isAgg99 sizeOf99 rfl (hS33.cells0 (i:=1) ⟨rfl,rfl⟩ (o:=0) rfl) (cs := [iv x4.Kind,iv x4.Pos.Line,iv x4.Pos.Col,qZs x4.Op,qZs x4.Name,.int .u32 x4.Num,qZs x4.Type_.Word,qZs x4.Type_.Name,iv x4.Type_.Stars,.slice a6 n1 c6])) (wl rfl (X6 (q:=2) hS33 ⟨rfl,rfl⟩ rfl rfl rfl sizeOf99 rfl rfl rfl fun w33 im33 hS34 => ?_)))
  obtain⟨T16,im34,hS35,h20⟩:=hS34.seal 0 ⟨rfl,rfl⟩
  have hsh:=h20.len
  subst hsh
  cases oI hm
  exact nil (U6 (Q0 ⟨m1,Nat.lt_succ_self _,_,_,x5,x4,_,_,_,_,Q7 ⟨rfl,rfl,rfl,qZt⟩,(iT im5 (iT im6 (iT im7 (iT im33 im34)))),hS35.sel [2,3,4,5] rfl,h20,(h6.mono (iT im33 im34)),hn1⟩))
theorem Q6o {G:Q6b} (hG:Sp1 G):W0 (M5 G) := @fun g T0 w0 R p0 X4 X2 Q2 a1 c1 r hS Q3 h1 hm=>by
  refine Z3t (args := [pt X4 X2]) Tryz.func122 rfl Tryz.ntmps122 rfl fun J => ?_
  unfold M5 at hm
  refine sq2 (rg (wl rfl (alS (zs := [iv 0,iv 0,iv 0,qZs [],qZs [],.int .u32 0,qZs [],qZs [],iv 0,.slice none 0 0]) zeroValue99 rfl hS fun w1 b1 im1 hS1 => ?_)))
  refine nil (Q0 ?_)
  refine sq2 (rg (pv (Z9 rfl) (?_)))
  obtain⟨y1,hx1,hm⟩:=Q4 hm
  rcases y1 with e7 | y1
  · have hm:=Z3 hm
    refine wl rfl (G8 cf98 rfl (B7 (p0:=p0) (Q2:=Q2) (hS1.bun [0,1] [2] rfl) Q3 (h1.mono im1) hx1) rfl fun v20 T24 w50 im52 rv20 => ?_)
    obtain⟨a26,c26,rfl,hS52,h26,_⟩:=rv20
    have hS52:=hS52.unb
    cases oI hm
    exact Z8 (panED ⟨_,rfl,_,(iT im1 im52),⟨_,_,rfl,hS52.sel [1,2] rfl,h26,qZt⟩⟩)
  have hm:=V1 hm
  refine wl rfl (Z7 cf98 rfl (B7 (p0:=p0) (Q2:=Q2) (hS1.bun [0,1] [2] rfl) Q3 (h1.mono im1) hx1) rfl fun v1 T1 w2 im2 rv1 => ?_)
  obtain⟨b2,a2,c2,rfl,hS2,h2,_⟩:=rv1
  have hS2:=hS2.unb
  refine wl rfl (dfO (f:=115) (cap := #[pt b2 0]) rfl ?_)
  refine nil (Q0 ?_)
  refine sq2 (sq2 ?_)
  obtain⟨y2,hx2,hm⟩:=Q4 hm
  refine rg (pv (Z9 rfl) (wl rfl (Z7 Z3c rfl (H2 (p0:=y1) (Q2:=Q2) (hS2.bun [0,1,3] [2] rfl) Q3 h2 hx2) rfl fun v2 T2 w3 im3 rv2 => ?_)))
  obtain⟨rfl,hS3,_⟩:=rv2
  have hS3:=hS3.unb
  refine nil (Q0 ?_)
  refine blk ?_
  obtain⟨kk1,hkk1,hm⟩:=F6 hm
  refine cut (fun a w4 => ∃(J:JV) (T3:TP) (x1:Bool),a=env ⟨49,[⟨.fn (.func 115) #[pt b2 0],#[]⟩]⟩ J [(0,pt X4 X2),(2,pt b1 0),(10,(qZs y2)),(11,.bool x1)]∧Im T2 w3 T3 w4∧Sep g T3 w4 [J6 b1 [iv 0,iv 0,iv 0,qZs [],qZs [],.int .u32 0,qZs [],qZs [],iv 0,.slice none 0 0],R,J6 b2 [pt X4 X2],Q2 [sv a2 y1.l c2,iv y1.end_.Line,iv y1.end_.Col,iv y1.depth]]∧kk1 x1=some r) ?_ ?_
  · refine sq2 (rg (pv (E7 rfl rfl) (pv (X5 rfl) (nil (Q0 ?_)))))
    refine V3 rfl hm (fun hb1 hm => ?_) fun hb1 hm => ?_
    · exact skp (Q0 ⟨_,_,(decide (y2=([45]:List UInt8))),Q7 ⟨rfl,rfl,rfl,rfl,qZt⟩,Im.refl,hS3.sel [0,1,2,3] rfl,hm⟩)
    refine sq2 (rg (pv (E7 rfl rfl) (pv (X5 rfl) (nil (Q0 ?_)))))
    refine V3 rfl hm (fun hb2 hm => ?_) fun hb2 hm => ?_
    · exact skp (Q0 ⟨_,_,(decide (y2=([126]:List UInt8))),Q7 ⟨rfl,rfl,rfl,rfl,qZt⟩,Im.refl,hS3.sel [0,1,2,3] rfl,hm⟩)
    refine sq2 (rg (pv (E7 rfl rfl) (pv (X5 rfl) (nil (Q0 ?_)))))
    refine V3 rfl hm (fun hb3 hm => ?_) fun hb3 hm => ?_
    · exact skp (Q0 ⟨_,_,(decide (y2=([33]:List UInt8))),Q7 ⟨rfl,rfl,rfl,rfl,qZt⟩,Im.refl,hS3.sel [0,1,2,3] rfl,hm⟩)
    refine sq2 (rg (pv (E7 rfl rfl) (pv (X5 rfl) (nil (Q0 ?_)))))
    refine V3 rfl hm (fun hb4 hm => ?_) fun hb4 hm => ?_
    · exact skp (Q0 ⟨_,_,(decide (y2=([42]:List UInt8))),Q7 ⟨rfl,rfl,rfl,rfl,qZt⟩,Im.refl,hS3.sel [0,1,2,3] rfl,hm⟩)
    exact rg (pv (E7 rfl rfl) (pv (X5 rfl) (nil (Q0 ⟨_,_,(decide (y2=([38]:List UInt8))),Q7 ⟨rfl,rfl,rfl,rfl,qZt⟩,Im.refl,hS3.sel [0,1,2,3] rfl,hm⟩))))
  rintro _ w4 ⟨J,T3,x1,rfl,im4,hS4,hm⟩
  rw [hkk1] at hm
  refine V3 rfl hm (fun hb5 hm => ?_) fun hb5 hm => ?_
  · refine sq2 ?_
    obtain⟨y3,hx3,hm⟩:=Q4 hm
    refine rg (pv (Z9 rfl) (wl rfl (Z7 Z0r rfl (E8 (p0:=y1) (Q2:=Q2) (p1:=3) (hS4.bun [0,1,2] [3] rfl) Q3 (h2.mono (iT im3 im4)) hx3) rfl fun v3 T4 w5 im5 rv3 => ?_)))
    obtain⟨a3,c3,a4,c4,rfl,hS5,h3,h4,_⟩:=rv3
    have hS5:=hS5.unb
    refine wl rfl (alS (zs := [iv 0,iv 0,iv 0,qZs [],qZs [],.int .u32 0,qZs [],qZs [],iv 0,.slice none 0 0]) zeroValue99 rfl hS5 fun w6 b3 im6 hS6 => ?_)
    refine wl rfl (X6 (q:=0) hS6 ⟨rfl,rfl⟩ rfl rfl rfl sizeOf99 rfl rfl rfl fun w7 im7 hS7 => ?_)
    refine nil (Q0 ?_)
    refine sq2 (rg (pv (Z9 rfl) (?_)))
    obtain⟨y4,hx4,hm⟩:=Q4 hm
    rcases y4 with e1 | y4
    · have hm:=Z3 hm
      refine wl rfl (G8 Z3b rfl (hG.K5 (p0:=y3.2) (Q2:=Q2) (hS7.bun [0,1,2,3] [4] rfl) Q3 (h4.mono (iT im6 im7)) hx4) rfl fun v5 T7 w13 im14 rv5 => ?_)
      obtain⟨a8,c8,rfl,hS14,h8,_⟩:=rv5
      have hS14:=hS14.unb
      refine Z8 (G4 (Z8 (S0 H7 (M8 (args := [pt b2 0]) Tryz.func115 rfl Tryz.ntmps115 rfl rfl fun J => ?_))))
      refine rg (pv (Z4 rfl isAgg41 (hS14.cell0 (i:=3) ⟨rfl,rfl⟩ (j:=0) rfl)) (pv (J1 rfl) (pv (Z1 rfl underlying43 rfl sizeOf3 rfl) (pv (Z4 rfl isAgg3 (hS14.cellB (i:=4) ⟨rfl,rfl⟩ Q3 (j:=3) rfl)) (pv (X7 rfl rfl rfl) (pv (J1 rfl) (pv (Z1 rfl underlying43 rfl sizeOf3 rfl) (wl rfl (stB (q:=4) (j:=3) hS14 ⟨rfl,rfl⟩ Q3 rfl rfl rfl sizeOf3 rfl rfl rfl fun w14 im15 hS15 => ?_)))))))))
      cases oI hm
      exact nil (Q0s rfl ⟨_,rfl,_,(iT im1 (iT im2 (iT im3 (iT im4 (iT im5 (iT im6 (iT im7 (iT im14 im15)))))))),⟨_,_,rfl,hS15.sel [2,4] rfl,(h8.mono im15),qZt⟩⟩)
    have hm:=V1 hm
    refine wl rfl (Z7 Z3b rfl (hG.K5 (p0:=y3.2) (Q2:=Q2) (hS7.bun [0,1,2,3] [4] rfl) Q3 (h4.mono (iT im6 im7)) hx4) rfl fun v4 T5 w8 im8 rv4 => ?_)
    obtain⟨a5,c5,a6,c6,rfl,hS8,h5,h6,_⟩:=rv4
    have hS8:=hS8.unb
    refine wl rfl (bsS (r:=X0) (l:=([y4.1]:List Z6)) (css := [(X8 y4.1 a5 c5)]) hS8 underlying56 sizeOf99 zeroValue99 rfl rfl (by kernel_rfl) rfl ⟨(M2 (x:=y4.1) h5:X0.rp _ _ _ _),qZt⟩ rfl rfl fun w9 a7 n1 c7 im9 hS9 => ?_)
    refine pv (Z1 rfl underlying99 rfl sizeOf56 rfl) (wl rfl (X6 (q:=1) hS9 ⟨rfl,rfl⟩ rfl rfl rfl sizeOf56 rfl rfl rfl fun w10 im10 hS10 => ?_))
    refine nil (Q0 ?_)
    refine sq2 (rg (pv (Z5 rfl isAgg99 sizeOf99 rfl (hS10.cells0 (i:=1) ⟨rfl,rfl⟩ (o:=0) rfl) (cs := [iv y3.1.Kind,iv y3.1.Pos.Line,iv y3.1.Pos.Col,qZs y3.1.Op,qZs y3.1.Name,.int .u32 y3.1.Num,qZs y3.1.Type_.Word,qZs y3.1.Type_.Name,iv y3.1.Type_.Stars,.slice a7 n1 c7])) (wl rfl (X6 (q:=2) hS10 ⟨rfl,rfl⟩ rfl rfl rfl sizeOf99 rfl rfl rfl fun w11 im11 hS11 => ?_))))
    refine nil (Q0 ?_)
    refine rtn (Y5 (Q6 (retD H7 (M8 (args := [pt b2 0]) Tryz.func115 rfl Tryz.ntmps115 rfl rfl fun J => ?_))))
    refine rg (pv (Z4 rfl isAgg41 (hS11.cell0 (i:=4) ⟨rfl,rfl⟩ (j:=0) rfl)) (pv (J1 rfl) (pv (Z1 rfl underlying43 rfl sizeOf3 rfl) (pv (Z4 rfl isAgg3 (hS11.cellB (i:=5) ⟨rfl,rfl⟩ Q3 (j:=3) rfl)) (pv (X7 rfl rfl rfl) (pv (J1 rfl) (pv (Z1 rfl underlying43 rfl sizeOf3 rfl) (wl rfl (stB (q:=5) (j:=3) hS11 ⟨rfl,rfl⟩ Q3 rfl rfl rfl sizeOf3 rfl rfl rfl fun w12 im12 hS12 => ?_)))))))))
    obtain⟨T6,im13,hS13,h7⟩:=hS12.seal 0 ⟨rfl,rfl⟩
    have hsh:=h7.len
    subst hsh
    cases oI hm
    exact nil (Q0s rfl ⟨_,Z1n (vs := [.agg #[iv y3.1.Kind,iv y3.1.Pos.Line,iv y3.1.Pos.Col,qZs y3.1.Op,qZs y3.1.Name,.int .u32 y3.1.Num,qZs y3.1.Type_.Word,qZs y3.1.Type_.Name,iv y3.1.Type_.Stars,.slice a7 (List.length ([y4.1]:List Z6)) c7]]) rfl ⟨rvS rfl isAgg99 sizeOf99 rfl (hS13.bx (i:=2) ⟨rfl,rfl⟩),qZt⟩ rfl,⟨_,rfl,_,(iT im1 (iT im2 (iT im3 (iT im4 (iT im5 (iT im6 (iT im7 (iT im8 (iT im9 (iT im10 (iT im11 (iT im12 im13)))))))))))),⟨_,_,_,_,rfl,hS13.sel [3,5] rfl,h7,(h6.mono (iT im9 (iT im10 (iT im11 (iT im12 im13))))),qZt⟩⟩⟩)
  obtain⟨kk2,hkk2,hm⟩:=F6 hm
  refine cut (fun a w15 => ∃(J:JV) (T8:TP) (x2:Bool),a=env ⟨49,[⟨.fn (.func 115) #[pt b2 0],#[]⟩]⟩ J [(0,pt X4 X2),(2,pt b1 0),(24,.bool x2)]∧Im T3 w4 T8 w15∧Sep g T8 w15 [J6 b1 [iv 0,iv 0,iv 0,qZs [],qZs [],.int .u32 0,qZs [],qZs [],iv 0,.slice none 0 0],R,J6 b2 [pt X4 X2],Q2 [sv a2 y1.l c2,iv y1.end_.Line,iv y1.end_.Col,iv y1.depth]]∧kk2 x2=some r) ?_ ?_
  · refine sq2 (rg (pv (E7 rfl rfl) (pv (X5 rfl) (nil (Q0 ?_)))))
    refine V3 rfl hm (fun hb6 hm => ?_) fun hb6 hm => ?_
    · exact skp (Q0 ⟨_,_,(decide (y2=([43,43]:List UInt8))),Q7 ⟨rfl,rfl,rfl,qZt⟩,Im.refl,hS4.sel [0,1,2,3] rfl,hm⟩)
    exact rg (pv (E7 rfl rfl) (pv (X5 rfl) (nil (Q0 ⟨_,_,(decide (y2=([45,45]:List UInt8))),Q7 ⟨rfl,rfl,rfl,qZt⟩,Im.refl,hS4.sel [0,1,2,3] rfl,hm⟩))))
  rintro _ w15 ⟨J,T8,x2,rfl,im16,hS16,hm⟩
  rw [hkk2] at hm
  refine V3 rfl hm (fun hb7 hm => ?_) fun hb7 hm => ?_
  · refine sq2 ?_
    obtain⟨y5,hx5,hm⟩:=Q4 hm
    refine rg (pv (Z9 rfl) (wl rfl (Z7 Z0r rfl (E8 (p0:=y1) (Q2:=Q2) (p1:=10) (hS16.bun [0,1,2] [3] rfl) Q3 (h2.mono (iT im3 (iT im4 im16))) hx5) rfl fun v6 T9 w16 im17 rv6 => ?_)))
    obtain⟨a9,c9,a10,c10,rfl,hS17,h9,h10,_⟩:=rv6
    have hS17:=hS17.unb
    refine wl rfl (alS (zs := [iv 0,iv 0,iv 0,qZs [],qZs [],.int .u32 0,qZs [],qZs [],iv 0,.slice none 0 0]) zeroValue99 rfl hS17 fun w17 b4 im18 hS18 => ?_)
    refine wl rfl (X6 (q:=0) hS18 ⟨rfl,rfl⟩ rfl rfl rfl sizeOf99 rfl rfl rfl fun w18 im19 hS19 => ?_)
    refine nil (Q0 ?_)
    refine sq2 (rg (pv (Z9 rfl) (?_)))
    obtain⟨y6,hx6,hm⟩:=Q4 hm
    rcases y6 with e2 | y6
    · have hm:=Z3 hm
      refine wl rfl (G8 Z3b rfl (hG.K5 (p0:=y5.2) (Q2:=Q2) (hS19.bun [0,1,2,3] [4] rfl) Q3 (h10.mono (iT im18 im19)) hx6) rfl fun v8 T12 w24 im26 rv8 => ?_)
      obtain⟨a14,c14,rfl,hS26,h14,_⟩:=rv8
      have hS26:=hS26.unb
      refine Z8 (G4 (Z8 (S0 H7 (M8 (args := [pt b2 0]) Tryz.func115 rfl Tryz.ntmps115 rfl rfl fun J => ?_))))
      refine rg (pv (Z4 rfl isAgg41 (hS26.cell0 (i:=3) ⟨rfl,rfl⟩ (j:=0) rfl)) (pv (J1 rfl) (pv (Z1 rfl underlying43 rfl sizeOf3 rfl) (pv (Z4 rfl isAgg3 (hS26.cellB (i:=4) ⟨rfl,rfl⟩ Q3 (j:=3) rfl)) (pv (X7 rfl rfl rfl) (pv (J1 rfl) (pv (Z1 rfl underlying43 rfl sizeOf3 rfl) (wl rfl (stB (q:=4) (j:=3) hS26 ⟨rfl,rfl⟩ Q3 rfl rfl rfl sizeOf3 rfl rfl rfl fun w25 im27 hS27 => ?_)))))))))
      cases oI hm
      exact nil (Q0s rfl ⟨_,rfl,_,(iT im1 (iT im2 (iT im3 (iT im4 (iT im16 (iT im17 (iT im18 (iT im19 (iT im26 im27))))))))),⟨_,_,rfl,hS27.sel [2,4] rfl,(h14.mono im27),qZt⟩⟩)
    have hm:=V1 hm
    refine wl rfl (Z7 Z3b rfl (hG.K5 (p0:=y5.2) (Q2:=Q2) (hS19.bun [0,1,2,3] [4] rfl) Q3 (h10.mono (iT im18 im19)) hx6) rfl fun v7 T10 w19 im20 rv7 => ?_)
    obtain⟨a11,c11,a12,c12,rfl,hS20,h11,h12,_⟩:=rv7
    have hS20:=hS20.unb
    refine wl rfl (bsS (r:=X0) (l:=([y6.1]:List Z6)) (css := [(X8 y6.1 a11 c11)]) hS20 underlying56 sizeOf99 zeroValue99 rfl rfl (by kernel_rfl) rfl ⟨(M2 (x:=y6.1) h11:X0.rp _ _ _ _),qZt⟩ rfl rfl fun w20 a13 n2 c13 im21 hS21 => ?_)
    refine pv (Z1 rfl underlying99 rfl sizeOf56 rfl) (wl rfl (X6 (q:=1) hS21 ⟨rfl,rfl⟩ rfl rfl rfl sizeOf56 rfl rfl rfl fun w21 im22 hS22 => ?_))
    refine nil (Q0 ?_)
    refine sq2 (rg (pv (Z5 rfl isAgg99 sizeOf99 rfl (hS22.cells0 (i:=1) ⟨rfl,rfl⟩ (o:=0) rfl) (cs := [iv y5.1.Kind,iv y5.1.Pos.Line,iv y5.1.Pos.Col,qZs y5.1.Op,qZs y5.1.Name,.int .u32 y5.1.Num,qZs y5.1.Type_.Word,qZs y5.1.Type_.Name,iv y5.1.Type_.Stars,.slice a13 n2 c13])) (wl rfl (X6 (q:=2) hS22 ⟨rfl,rfl⟩ rfl rfl rfl sizeOf99 rfl rfl rfl fun w22 im23 hS23 => ?_))))
    refine nil (Q0 ?_)
    refine rtn (Y5 (Q6 (retD H7 (M8 (args := [pt b2 0]) Tryz.func115 rfl Tryz.ntmps115 rfl rfl fun J => ?_))))
    refine rg (pv (Z4 rfl isAgg41 (hS23.cell0 (i:=4) ⟨rfl,rfl⟩ (j:=0) rfl)) (pv (J1 rfl) (pv (Z1 rfl underlying43 rfl sizeOf3 rfl) (pv (Z4 rfl isAgg3 (hS23.cellB (i:=5) ⟨rfl,rfl⟩ Q3 (j:=3) rfl)) (pv (X7 rfl rfl rfl) (pv (J1 rfl) (pv (Z1 rfl underlying43 rfl sizeOf3 rfl) (wl rfl (stB (q:=5) (j:=3) hS23 ⟨rfl,rfl⟩ Q3 rfl rfl rfl sizeOf3 rfl rfl rfl fun w23 im24 hS24 => ?_)))))))))
    obtain⟨T11,im25,hS25,h13⟩:=hS24.seal 0 ⟨rfl,rfl⟩
    have hsh:=h13.len
    subst hsh
    cases oI hm
    exact nil (Q0s rfl ⟨_,Z1n (vs := [.agg #[iv y5.1.Kind,iv y5.1.Pos.Line,iv y5.1.Pos.Col,qZs y5.1.Op,qZs y5.1.Name,.int .u32 y5.1.Num,qZs y5.1.Type_.Word,qZs y5.1.Type_.Name,iv y5.1.Type_.Stars,.slice a13 (List.length ([y6.1]:List Z6)) c13]]) rfl ⟨rvS rfl isAgg99 sizeOf99 rfl (hS25.bx (i:=2) ⟨rfl,rfl⟩),qZt⟩ rfl,⟨_,rfl,_,(iT im1 (iT im2 (iT im3 (iT im4 (iT im16 (iT im17 (iT im18 (iT im19 (iT im20 (iT im21 (iT im22 (iT im23 (iT im24 im25))))))))))))),⟨_,_,_,_,rfl,hS25.sel [3,5] rfl,h13,(h12.mono (iT im21 (iT im22 (iT im23 (iT im24 im25))))),qZt⟩⟩⟩)
  refine skp (U6 (Q0 ?_))
  refine sq2 (sq2 ?_)
  obtain⟨y7,hx7,hm⟩:=Q4 hm
  refine rg (pv (Z9 rfl) (wl rfl (Z7 cf59 rfl (B0 (p0:=y1) (Q2:=Q2) (hS16.bun [0,1,2] [3] rfl) Q3 (h2.mono (iT im3 (iT im4 im16))) hx7) rfl fun v9 T13 w26 im28 rv9 => ?_)))
  obtain⟨rfl,hS28,_⟩:=rv9
  have hS28:=hS28.unb
  refine wl rfl (alS (zs := [iv 0,iv 0]) zeroValue29 rfl hS28 fun w27 b5 im29 hS29 => ?_)
  refine wl rfl (X6 (q:=0) hS29 ⟨rfl,rfl⟩ rfl rfl rfl sizeOf29 rfl rfl rfl fun w28 im30 hS30 => ?_)
  refine nil (Q0 ?_)
  refine sq2 ?_
  obtain⟨y8,hx8,hm⟩:=Q4 hm
  refine rg (pv (Z9 rfl) (wl rfl (Z7 Q1u rfl (Y8 (p0:=y1) (Q2:=Q2) (p1 := [115,105,122,101,111,102]) (hS30.bun [0,1,2,3] [4] rfl) Q3 (h2.mono (iT im3 (iT im4 (iT im16 (iT im28 (iT im29 im30)))))) hx8) rfl fun v10 T14 w29 im31 rv10 => ?_)))
  obtain⟨a15,c15,rfl,hS31,h15,_⟩:=rv10
  have hS31:=hS31.unb
  refine nil (Q0 ?_)
  refine V3 rfl hm (fun hb8 hm => ?_) fun hb8 hm => ?_
  · refine sq2 (rg (pv (Z9 rfl) (?_)))
    obtain⟨y9,hx9,hm⟩:=Q4 hm
    rcases y9 with e5 | y9
    · have hm:=Z3 hm
      refine wl rfl (G8 A3 rfl (Q9 (p0:=y8.2) (Q2:=Q2) (p1 := [40]) (hS31.bun [0,1,2,3] [4] rfl) Q3 h15 hx9) rfl fun v17 T21 w43 im45 rv17 => ?_)
      obtain⟨a22,c22,rfl,hS45,h22,_⟩:=rv17
      have hS45:=hS45.unb
      refine Z8 (Z8 (S0 H7 (M8 (args := [pt b2 0]) Tryz.func115 rfl Tryz.ntmps115 rfl rfl fun J => ?_)))
      refine rg (pv (Z4 rfl isAgg41 (hS45.cell0 (i:=3) ⟨rfl,rfl⟩ (j:=0) rfl)) (pv (J1 rfl) (pv (Z1 rfl underlying43 rfl sizeOf3 rfl) (pv (Z4 rfl isAgg3 (hS45.cellB (i:=4) ⟨rfl,rfl⟩ Q3 (j:=3) rfl)) (pv (X7 rfl rfl rfl) (pv (J1 rfl) (pv (Z1 rfl underlying43 rfl sizeOf3 rfl) (wl rfl (stB (q:=4) (j:=3) hS45 ⟨rfl,rfl⟩ Q3 rfl rfl rfl sizeOf3 rfl rfl rfl fun w44 im46 hS46 => ?_)))))))))
      cases oI hm
      exact nil (Q0s rfl ⟨_,rfl,_,(iT im1 (iT im2 (iT im3 (iT im4 (iT im16 (iT im28 (iT im29 (iT im30 (iT im31 (iT im45 im46)))))))))),⟨_,_,rfl,hS46.sel [2,4] rfl,(h22.mono im46),qZt⟩⟩)
    have hm:=V1 hm
    refine wl rfl (Z7 A3 rfl (Q9 (p0:=y8.2) (Q2:=Q2) (p1 := [40]) (hS31.bun [0,1,2,3] [4] rfl) Q3 h15 hx9) rfl fun v11 T15 w30 im32 rv11 => ?_)
    obtain⟨a16,c16,rfl,hS32,h16,_⟩:=rv11
    have hS32:=hS32.unb
    refine nil (Q0 ?_)
    refine sq2 (rtP [1,0,2,0,2,2] [0,1,2,3,4,5] mix (by kernel_rfl) hS32.lt (A4 (A4 (Z4o (rs := [.cell 2 99]) rfl (by kernel_rfl)))) fun w31 i1 => ?_)
    have im33:=i1.imm
    have hS33:=hS32.keep i1 (fun _ h=>h)
    refine t1 rfl qZt (Z5 rfl isAgg29 sizeOf29 rfl (hS33.cells0 (i:=0) ⟨rfl,rfl⟩ (o:=0) rfl) (cs := [iv y7.Line,iv y7.Col])) rfl (t0 rfl qZt (fun _=>Z9 rfl) rfl (?_))
    obtain⟨y10,hx10,hm⟩:=Q4 hm
    rcases y10 with e3 | y10
    · have hm:=Z3 hm
      refine tw [2,4] rfl (F5 rfl rfl qZt) rfl (by kernel_rfl) (by kernel_rfl) ⟨br [3,4,5] [(0,.agg #[iv y7.Line,iv y7.Col])] rfl (by kernel_rfl) (by kernel_rfl) qZt (by kernel_rfl) (G8 Q9l rfl (K0 (p0:=y9) (Q2:=Q2) (hS33.bun [1,2,3,0] [4] rfl) Q3 (h16.mono im33) hx10) rfl fun v16 T20 w41 im43 rv16 => ?_),br [2,3,5] [(0,.agg #[iv y7.Line,iv y7.Col])] rfl (by kernel_rfl) (by kernel_rfl) qZt (by kernel_rfl) (alS (zs := [iv 0,iv 0,iv 0,qZs [],qZs [],.int .u32 0,qZs [],qZs [],iv 0,.slice none 0 0]) zeroValue99 rfl hS33 fun w40 b7 im42 hS42 => ?_),qZt⟩
      · obtain⟨a21,c21,rfl,hS43,h21,_⟩:=rv16
        have hS43:=hS43.unb
        refine Z8 (Z8 (S0 H7 (M8 (args := [pt b2 0]) Tryz.func115 rfl Tryz.ntmps115 rfl rfl fun J => ?_)))
        refine rg (pv (Z4 rfl isAgg41 (hS43.cell0 (i:=2) ⟨rfl,rfl⟩ (j:=0) rfl)) (pv (J1 rfl) (pv (Z1 rfl underlying43 rfl sizeOf3 rfl) (pv (Z4 rfl isAgg3 (hS43.cellB (i:=4) ⟨rfl,rfl⟩ Q3 (j:=3) rfl)) (pv (X7 rfl rfl rfl) (pv (J1 rfl) (pv (Z1 rfl underlying43 rfl sizeOf3 rfl) (wl rfl (stB (q:=4) (j:=3) hS43 ⟨rfl,rfl⟩ Q3 rfl rfl rfl sizeOf3 rfl rfl rfl fun w42 im44 hS44 => ?_)))))))))
        cases oI hm
        exact nil (Q0s rfl ⟨_,rfl,_,(iT im1 (iT im2 (iT im3 (iT im4 (iT im16 (iT im28 (iT im29 (iT im30 (iT im31 (iT im32 (iT im33 (iT im43 im44)))))))))))),⟨_,_,rfl,hS44.sel [1,4] rfl,(h21.mono im44),qZt⟩⟩)
      refine⟨st1 rfl (Z5 rfl isAgg29 sizeOf29 rfl (hS42.cells0 (i:=1) ⟨rfl,rfl⟩ (o:=0) rfl) (cs := [iv y7.Line,iv y7.Col])) (st0),?_⟩
      refine tw [2] rfl (F5 rfl rfl qZt) rfl (by kernel_rfl) (by kernel_rfl) ⟨br [3,5] [(0,.agg #[iv y7.Line,iv y7.Col])] rfl (by kernel_rfl) (by kernel_rfl) qZt (by kernel_rfl) (G8 Q9l rfl (K0 (p0:=y9) (Q2:=Q2) (hS42.bun [0,2,3,4,1] [5] rfl) Q3 (h16.mono (iT im33 im42)) hx10) rfl fun v16 T20 w42 im44 rv16 => ?_),qZt⟩
      obtain⟨a21,c21,rfl,hS44,h21,_⟩:=rv16
      have hS44:=hS44.unb
      refine Z8 (Z8 (S0 H7 (M8 (args := [pt b2 0]) Tryz.func115 rfl Tryz.ntmps115 rfl rfl fun J => ?_)))
      refine rg (pv (Z4 rfl isAgg41 (hS44.cell0 (i:=3) ⟨rfl,rfl⟩ (j:=0) rfl)) (pv (J1 rfl) (pv (Z1 rfl underlying43 rfl sizeOf3 rfl) (pv (Z4 rfl isAgg3 (hS44.cellB (i:=5) ⟨rfl,rfl⟩ Q3 (j:=3) rfl)) (pv (X7 rfl rfl rfl) (pv (J1 rfl) (pv (Z1 rfl underlying43 rfl sizeOf3 rfl) (wl rfl (stB (q:=5) (j:=3) hS44 ⟨rfl,rfl⟩ Q3 rfl rfl rfl sizeOf3 rfl rfl rfl fun w43 im45 hS45 => ?_)))))))))
      cases oI hm
      exact nil (Q0s rfl ⟨_,rfl,_,(iT im1 (iT im2 (iT im3 (iT im4 (iT im16 (iT im28 (iT im29 (iT im30 (iT im31 (iT im32 (iT im33 (iT im42 (iT im44 im45))))))))))))),⟨_,_,rfl,hS45.sel [2,5] rfl,(h21.mono im45),qZt⟩⟩)
    have hm:=V1 hm
    refine tw [2,4] rfl (F5 rfl rfl qZt) rfl (by kernel_rfl) (by kernel_rfl) ⟨br [3,4,5] [(0,.agg #[iv y7.Line,iv y7.Col])] rfl (by kernel_rfl) (by kernel_rfl) qZt (by kernel_rfl) (Z7 Q9l rfl (K0 (p0:=y9) (Q2:=Q2) (hS33.bun [1,2,3,0] [4] rfl) Q3 (h16.mono im33) hx10) rfl fun v12 T16 w32 im34 rv12 => ?_),br [2,3,5] [(0,.agg #[iv y7.Line,iv y7.Col])] rfl (by kernel_rfl) (by kernel_rfl) qZt (by kernel_rfl) (alS (zs := [iv 0,iv 0,iv 0,qZs [],qZs [],.int .u32 0,qZs [],qZs [],iv 0,.slice none 0 0]) zeroValue99 rfl hS33 fun w32 b6 im34 hS34 => ?_),qZt⟩
    · obtain⟨a17,c17,rfl,hS34,h17,_⟩:=rv12
      have hS34:=hS34.unb
      refine⟨st1 rfl (Z5 rfl isAgg29 sizeOf29 rfl (hS34.cells0 (i:=3) ⟨rfl,rfl⟩ (o:=0) rfl) (cs := [iv y7.Line,iv y7.Col])) (st0),?_⟩
      refine t0 rfl qZt (fun _=>A8 (by kernel_rfl) rfl (u := .agg #[iv 12,iv y7.Line,iv y7.Col,qZs [],qZs [],.int .u32 0,qZs y10.1.Word,qZs y10.1.Name,iv y10.1.Stars,.slice none 0 0])) rfl (tw [4] rfl (F5 rfl rfl qZt) rfl (by kernel_rfl) (by kernel_rfl) ⟨br [5] [(0,.agg #[iv y7.Line,iv y7.Col])] rfl (by kernel_rfl) (by kernel_rfl) qZt (by kernel_rfl) (alS (zs := [iv 0,iv 0,iv 0,qZs [],qZs [],.int .u32 0,qZs [],qZs [],iv 0,.slice none 0 0]) zeroValue99 rfl hS34 fun w33 b6 im35 hS35 => ?_),qZt⟩)
      refine⟨st1 rfl (Z5 rfl isAgg29 sizeOf29 rfl (hS35.cells0 (i:=4) ⟨rfl,rfl⟩ (o:=0) rfl) (cs := [iv y7.Line,iv y7.Col])) (st0),?_⟩
      refine tw [5] rfl (F5 rfl rfl qZt) rfl (by kernel_rfl) (by kernel_rfl) ⟨br [] [] rfl (by kernel_rfl) (by kernel_rfl) qZt (by kernel_rfl) (X6 (q:=0) hS35 ⟨rfl,rfl⟩ rfl rfl rfl sizeOf99 rfl rfl rfl fun w34 im36 hS36 => ?_),qZt⟩
      refine⟨st0,?_⟩
      refine teP (Q0 ?_)
      refine sq2 (rg (pv (Z9 rfl) (?_)))
      obtain⟨y11,hx11,hm⟩:=Q4 hm
      rcases y11 with e4 | y11
      · have hm:=Z3 hm
        refine wl rfl (G8 A3 rfl (Q9 (p0:=y10.2) (Q2:=Q2) (p1 := [41]) (hS36.bun [0,1,2,3] [5] rfl) Q3 (h17.mono (iT im35 im36)) hx11) rfl fun v14 T18 w38 im40 rv14 => ?_)
        obtain⟨a19,c19,rfl,hS40,h19,_⟩:=rv14
        have hS40:=hS40.unb
        refine Z8 (Z8 (S0 H7 (M8 (args := [pt b2 0]) Tryz.func115 rfl Tryz.ntmps115 rfl rfl fun J => ?_)))
        refine rg (pv (Z4 rfl isAgg41 (hS40.cell0 (i:=3) ⟨rfl,rfl⟩ (j:=0) rfl)) (pv (J1 rfl) (pv (Z1 rfl underlying43 rfl sizeOf3 rfl) (pv (Z4 rfl isAgg3 (hS40.cellB (i:=4) ⟨rfl,rfl⟩ Q3 (j:=3) rfl)) (pv (X7 rfl rfl rfl) (pv (J1 rfl) (pv (Z1 rfl underlying43 rfl sizeOf3 rfl) (wl rfl (stB (q:=4) (j:=3) hS40 ⟨rfl,rfl⟩ Q3 rfl rfl rfl sizeOf3 rfl rfl rfl fun w39 im41 hS41 => ?_)))))))))
        cases oI hm
        exact nil (Q0s rfl ⟨_,rfl,_,(iT im1 (iT im2 (iT im3 (iT im4 (iT im16 (iT im28 (iT im29 (iT im30 (iT im31 (iT im32 (iT im33 (iT im34 (iT im35 (iT im36 (iT im40 im41))))))))))))))),⟨_,_,rfl,hS41.sel [2,4] rfl,(h19.mono im41),qZt⟩⟩)
      have hm:=V1 hm
      refine wl rfl (Z7 A3 rfl (Q9 (p0:=y10.2) (Q2:=Q2) (p1 := [41]) (hS36.bun [0,1,2,3] [5] rfl) Q3 (h17.mono (iT im35 im36)) hx11) rfl fun v13 T17 w35 im37 rv13 => ?_)
      obtain⟨a18,c18,rfl,hS37,h18,_⟩:=rv13
      have hS37:=hS37.unb
      refine nil (Q0 ?_)
      refine sq2 (rg (pv (Z5 rfl isAgg99 sizeOf99 rfl (hS37.cells0 (i:=0) ⟨rfl,rfl⟩ (o:=0) rfl) (cs := [iv 12,iv y7.Line,iv y7.Col,qZs [],qZs [],.int .u32 0,qZs y10.1.Word,qZs y10.1.Name,iv y10.1.Stars,.slice none 0 0])) (wl rfl (X6 (q:=1) hS37 ⟨rfl,rfl⟩ rfl rfl rfl sizeOf99 rfl rfl rfl fun w36 im38 hS38 => ?_))))
      refine nil (Q0 ?_)
      refine rtn (Q6 (retD H7 (M8 (args := [pt b2 0]) Tryz.func115 rfl Tryz.ntmps115 rfl rfl fun J => ?_)))
      refine rg (pv (Z4 rfl isAgg41 (hS38.cell0 (i:=3) ⟨rfl,rfl⟩ (j:=0) rfl)) (pv (J1 rfl) (pv (Z1 rfl underlying43 rfl sizeOf3 rfl) (pv (Z4 rfl isAgg3 (hS38.cellB (i:=4) ⟨rfl,rfl⟩ Q3 (j:=3) rfl)) (pv (X7 rfl rfl rfl) (pv (J1 rfl) (pv (Z1 rfl underlying43 rfl sizeOf3 rfl) (wl rfl (stB (q:=4) (j:=3) hS38 ⟨rfl,rfl⟩ Q3 rfl rfl rfl sizeOf3 rfl rfl rfl fun w37 im39 hS39 => ?_)))))))))
      cases oI hm
      exact nil (Q0s rfl ⟨_,Z1n (vs := [.agg #[iv 12,iv y7.Line,iv y7.Col,qZs [],qZs [],.int .u32 0,qZs y10.1.Word,qZs y10.1.Name,iv y10.1.Stars,.slice none 0 0]]) rfl ⟨rvS rfl isAgg99 sizeOf99 rfl (hS39.bx (i:=1) ⟨rfl,rfl⟩),qZt⟩ rfl,⟨_,rfl,_,(iT im1 (iT im2 (iT im3 (iT im4 (iT im16 (iT im28 (iT im29 (iT im30 (iT im31 (iT im32 (iT im33 (iT im34 (iT im35 (iT im36 (iT im37 (iT im38 im39)))))))))))))))),⟨_,_,_,_,rfl,hS39.sel [2,4] rfl,V2,(h18.mono (iT im38 im39)),qZt⟩⟩⟩)
    refine⟨st1 rfl (Z5 rfl isAgg29 sizeOf29 rfl (hS34.cells0 (i:=1) ⟨rfl,rfl⟩ (o:=0) rfl) (cs := [iv y7.Line,iv y7.Col])) (st0),?_⟩
    refine tw [2] rfl (F5 rfl rfl qZt) rfl (by kernel_rfl) (by kernel_rfl) ⟨br [3,5] [(0,.agg #[iv y7.Line,iv y7.Col])] rfl (by kernel_rfl) (by kernel_rfl) qZt (by kernel_rfl) (Z7 Q9l rfl (K0 (p0:=y9) (Q2:=Q2) (hS34.bun [0,2,3,4,1] [5] rfl) Q3 (h16.mono (iT im33 im34)) hx10) rfl fun v12 T16 w33 im35 rv12 => ?_),qZt⟩
    obtain⟨a17,c17,rfl,hS35,h17,_⟩:=rv12
    have hS35:=hS35.unb
    refine⟨st1 rfl (Z5 rfl isAgg29 sizeOf29 rfl (hS35.cells0 (i:=4) ⟨rfl,rfl⟩ (o:=0) rfl) (cs := [iv y7.Line,iv y7.Col])) (st0),?_⟩
    refine t0 rfl qZt (fun _=>A8 (by kernel_rfl) rfl (u := .agg #[iv 12,iv y7.Line,iv y7.Col,qZs [],qZs [],.int .u32 0,qZs y10.1.Word,qZs y10.1.Name,iv y10.1.Stars,.slice none 0 0])) rfl (tw [5] rfl (F5 rfl rfl qZt) rfl (by kernel_rfl) (by kernel_rfl) ⟨br [] [] rfl (by kernel_rfl) (by kernel_rfl) qZt (by kernel_rfl) (X6 (q:=0) hS35 ⟨rfl,rfl⟩ rfl rfl rfl sizeOf99 rfl rfl rfl fun w34 im36 hS36 => ?_),qZt⟩)
    refine⟨st0,?_⟩
    refine teP (Q0 ?_)
    refine sq2 (rg (pv (Z9 rfl) (?_)))
    obtain⟨y11,hx11,hm⟩:=Q4 hm
    rcases y11 with e4 | y11
    · have hm:=Z3 hm
      refine wl rfl (G8 A3 rfl (Q9 (p0:=y10.2) (Q2:=Q2) (p1 := [41]) (hS36.bun [0,1,2,3] [5] rfl) Q3 (h17.mono im36) hx11) rfl fun v14 T18 w38 im40 rv14 => ?_)
      obtain⟨a19,c19,rfl,hS40,h19,_⟩:=rv14
      have hS40:=hS40.unb
      refine Z8 (Z8 (S0 H7 (M8 (args := [pt b2 0]) Tryz.func115 rfl Tryz.ntmps115 rfl rfl fun J => ?_)))
      refine rg (pv (Z4 rfl isAgg41 (hS40.cell0 (i:=3) ⟨rfl,rfl⟩ (j:=0) rfl)) (pv (J1 rfl) (pv (Z1 rfl underlying43 rfl sizeOf3 rfl) (pv (Z4 rfl isAgg3 (hS40.cellB (i:=4) ⟨rfl,rfl⟩ Q3 (j:=3) rfl)) (pv (X7 rfl rfl rfl) (pv (J1 rfl) (pv (Z1 rfl underlying43 rfl sizeOf3 rfl) (wl rfl (stB (q:=4) (j:=3) hS40 ⟨rfl,rfl⟩ Q3 rfl rfl rfl sizeOf3 rfl rfl rfl fun w39 im41 hS41 => ?_)))))))))
      cases oI hm
      exact nil (Q0s rfl ⟨_,rfl,_,(iT im1 (iT im2 (iT im3 (iT im4 (iT im16 (iT im28 (iT im29 (iT im30 (iT im31 (iT im32 (iT im33 (iT im34 (iT im35 (iT im36 (iT im40 im41))))))))))))))),⟨_,_,rfl,hS41.sel [2,4] rfl,(h19.mono im41),qZt⟩⟩)
    have hm:=V1 hm
    refine wl rfl (Z7 A3 rfl (Q9 (p0:=y10.2) (Q2:=Q2) (p1 := [41]) (hS36.bun [0,1,2,3] [5] rfl) Q3 (h17.mono im36) hx11) rfl fun v13 T17 w35 im37 rv13 => ?_)
    obtain⟨a18,c18,rfl,hS37,h18,_⟩:=rv13
    have hS37:=hS37.unb
    refine nil (Q0 ?_)
    refine sq2 (rg (pv (Z5 rfl isAgg99 sizeOf99 rfl (hS37.cells0 (i:=0) ⟨rfl,rfl⟩ (o:=0) rfl) (cs := [iv 12,iv y7.Line,iv y7.Col,qZs [],qZs [],.int .u32 0,qZs y10.1.Word,qZs y10.1.Name,iv y10.1.Stars,.slice none 0 0])) (wl rfl (X6 (q:=1) hS37 ⟨rfl,rfl⟩ rfl rfl rfl sizeOf99 rfl rfl rfl fun w36 im38 hS38 => ?_))))
    refine nil (Q0 ?_)
    refine rtn (Q6 (retD H7 (M8 (args := [pt b2 0]) Tryz.func115 rfl Tryz.ntmps115 rfl rfl fun J => ?_)))
    refine rg (pv (Z4 rfl isAgg41 (hS38.cell0 (i:=3) ⟨rfl,rfl⟩ (j:=0) rfl)) (pv (J1 rfl) (pv (Z1 rfl underlying43 rfl sizeOf3 rfl) (pv (Z4 rfl isAgg3 (hS38.cellB (i:=4) ⟨rfl,rfl⟩ Q3 (j:=3) rfl)) (pv (X7 rfl rfl rfl) (pv (J1 rfl) (pv (Z1 rfl underlying43 rfl sizeOf3 rfl) (wl rfl (stB (q:=4) (j:=3) hS38 ⟨rfl,rfl⟩ Q3 rfl rfl rfl sizeOf3 rfl rfl rfl fun w37 im39 hS39 => ?_)))))))))
    cases oI hm
    exact nil (Q0s rfl ⟨_,Z1n (vs := [.agg #[iv 12,iv y7.Line,iv y7.Col,qZs [],qZs [],.int .u32 0,qZs y10.1.Word,qZs y10.1.Name,iv y10.1.Stars,.slice none 0 0]]) rfl ⟨rvS rfl isAgg99 sizeOf99 rfl (hS39.bx (i:=1) ⟨rfl,rfl⟩),qZt⟩ rfl,⟨_,rfl,_,(iT im1 (iT im2 (iT im3 (iT im4 (iT im16 (iT im28 (iT im29 (iT im30 (iT im31 (iT im32 (iT im33 (iT im34 (iT im35 (iT im36 (iT im37 (iT im38 im39)))))))))))))))),⟨_,_,_,_,rfl,hS39.sel [2,4] rfl,V2,(h18.mono (iT im38 im39)),qZt⟩⟩⟩)
  refine skp (Q0 ?_)
  refine sq2 (rg (pv (Z9 rfl) (?_)))
  obtain⟨y12,hx12,hm⟩:=Q4 hm
  rcases y12 with e6 | y12
  · have hm:=Z3 hm
    refine wl rfl (G8 cf126 rfl (hG.F2 (p0:=y8.2) (Q2:=Q2) (hS31.bun [1,2,3] [4] rfl) Q3 h15 hx12) rfl fun v19 T23 w48 im50 rv19 => ?_)
    obtain⟨a25,c25,rfl,hS50,h25,_⟩:=rv19
    have hS50:=hS50.unb
    refine Z8 (S0 H7 (M8 (args := [pt b2 0]) Tryz.func115 rfl Tryz.ntmps115 rfl rfl fun J => ?_))
    refine rg (pv (Z4 rfl isAgg41 (hS50.cell0 (i:=2) ⟨rfl,rfl⟩ (j:=0) rfl)) (pv (J1 rfl) (pv (Z1 rfl underlying43 rfl sizeOf3 rfl) (pv (Z4 rfl isAgg3 (hS50.cellB (i:=3) ⟨rfl,rfl⟩ Q3 (j:=3) rfl)) (pv (X7 rfl rfl rfl) (pv (J1 rfl) (pv (Z1 rfl underlying43 rfl sizeOf3 rfl) (wl rfl (stB (q:=3) (j:=3) hS50 ⟨rfl,rfl⟩ Q3 rfl rfl rfl sizeOf3 rfl rfl rfl fun w49 im51 hS51 => ?_)))))))))
    cases oI hm
    exact nil (Q0s rfl ⟨_,rfl,_,(iT im1 (iT im2 (iT im3 (iT im4 (iT im16 (iT im28 (iT im29 (iT im30 (iT im31 (iT im50 im51)))))))))),⟨_,_,rfl,hS51.sel [1,3] rfl,(h25.mono im51),qZt⟩⟩)
  have hm:=V1 hm
  refine wl rfl (Z7 cf126 rfl (hG.F2 (p0:=y8.2) (Q2:=Q2) (hS31.bun [1,2,3] [4] rfl) Q3 h15 hx12) rfl fun v18 T22 w45 im47 rv18 => ?_)
  obtain⟨a23,c23,a24,c24,rfl,hS47,h23,h24,_⟩:=rv18
  have hS47:=hS47.unb
  refine wl rfl (X6 (q:=0) hS47 ⟨rfl,rfl⟩ rfl rfl rfl sizeOf99 rfl rfl rfl fun w46 im48 hS48 => ?_)
  refine nil (Q0 ?_)
  refine rtn (retD H7 (M8 (args := [pt b2 0]) Tryz.func115 rfl Tryz.ntmps115 rfl rfl fun J => ?_))
  refine rg (pv (Z4 rfl isAgg41 (hS48.cell0 (i:=2) ⟨rfl,rfl⟩ (j:=0) rfl)) (pv (J1 rfl) (pv (Z1 rfl underlying43 rfl sizeOf3 rfl) (pv (Z4 rfl isAgg3 (hS48.cellB (i:=3) ⟨rfl,rfl⟩ Q3 (j:=3) rfl)) (pv (X7 rfl rfl rfl) (pv (J1 rfl) (pv (Z1 rfl underlying43 rfl sizeOf3 rfl) (wl rfl (stB (q:=3) (j:=3) hS48 ⟨rfl,rfl⟩ Q3 rfl rfl rfl sizeOf3 rfl rfl rfl fun w47 im49 hS49 => ?_)))))))))
  cases oI hm
  exact nil (Q0s rfl ⟨_,Z1n (vs := [.agg (X8 y12.1 a23 c23).toArray]) rfl ⟨rvS rfl isAgg99 sizeOf99 rfl (hS49.bx (i:=0) ⟨rfl,rfl⟩),qZt⟩ rfl,⟨_,rfl,_,(iT im1 (iT im2 (iT im3 (iT im4 (iT im16 (iT im28 (iT im29 (iT im30 (iT im31 (iT im47 (iT im48 im49))))))))))),⟨_,_,_,_,rfl,hS49.sel [1,3] rfl,(h23.mono (iT im48 im49)),(h24.mono (iT im48 im49)),qZt⟩⟩⟩)
theorem Q6i {G:Q6b} (hG:Sp1 G):R7 (B9 G) := @fun g T0 w0 R p0 X4 X2 Q2 a1 c1 p1 r hS Q3 h1 hm=>by
  refine enter (args := [pt X4 X2,iv p1]) Tryz.func116 rfl Tryz.ntmps116 rfl fun J => ?_
  unfold B9 at hm
  refine sq2 (rg (wl rfl (alS (zs := [iv 0,iv 0,iv 0,qZs [],qZs [],.int .u32 0,qZs [],qZs [],iv 0,.slice none 0 0]) zeroValue99 rfl hS fun w1 b1 im1 hS1 => ?_)))
  refine nil (Q0 ?_)
  refine sq2 (rg (pv (Z9 rfl) (?_)))
  obtain⟨y1,hx1,hm⟩:=Q4 hm
  rcases y1 with e2 | y1
  · have hm:=Z3 hm
    refine wl rfl (G8 Z3b rfl (hG.K5 (p0:=p0) (Q2:=Q2) (hS1.bun [0,1] [2] rfl) Q3 (h1.mono im1) hx1) rfl fun v7 T9 w19 im20 rv7 => ?_)
    obtain⟨a12,c12,rfl,hS20,h12,_⟩:=rv7
    have hS20:=hS20.unb
    cases oI hm
    exact Z8 (P3 ⟨_,rfl,_,(iT im1 im20),⟨_,_,rfl,hS20.sel [1,2] rfl,h12,qZt⟩⟩)
  have hm:=V1 hm
  refine wl rfl (Z7 Z3b rfl (hG.K5 (p0:=p0) (Q2:=Q2) (hS1.bun [0,1] [2] rfl) Q3 (h1.mono im1) hx1) rfl fun v1 T1 w2 im2 rv1 => ?_)
  obtain⟨a2,c2,a3,c3,rfl,hS2,h2,h3,_⟩:=rv1
  have hS2:=hS2.unb
  refine wl rfl (alS (zs := [iv 0,iv 0,iv 0,qZs [],qZs [],.int .u32 0,qZs [],qZs [],iv 0,.slice none 0 0]) zeroValue99 rfl hS2 fun w3 b2 im3 hS3 => ?_)
  refine wl rfl (X6 (q:=0) hS3 ⟨rfl,rfl⟩ rfl rfl rfl sizeOf99 rfl rfl rfl fun w4 im4 hS4 => ?_)
  refine nil (Q0 ?_)
  obtain⟨o1,ho1,hq1⟩:=Q4 hm
  obtain⟨bd1,hbd1,ho1⟩:=K3 ho1
  refine blk (wp_loop_ghost (fun m a w5 => ∃(J:JV) (T2:TP) (x2:Q1) (x1:Z6) (a4:OA) (c4:Nat) (a5:OA) (c5:Nat),a=env (nf 31) J [(0,pt X4 X2),(1,iv p1),(4,pt b1 0),(5,pt b2 0)]∧Im T1 w4 T2 w5∧Sep g T2 w5 [J6 b2 (X8 x1 a4 c4),J6 b1 [iv 0,iv 0,iv 0,qZs [],qZs [],.int .u32 0,qZs [],qZs [],iv 0,.slice none 0 0],R,Q2 [sv a5 x2.l c5,iv x2.end_.Line,iv x2.end_.Col,iv x2.depth]]∧SlR X0 T2 w5 (sv a4 x1.Kids c4) x1.Kids∧SlR Y3 T2 w5 (sv a5 x2.l c5) x2.l∧V7 bd1 m (x1,x2)=some o1) NN ⟨_,_,y1.2,y1.1,_,_,_,_,Q7 ⟨rfl,rfl,rfl,rfl,qZt⟩,Im.refl,hS4.sel [0,1,2,3] rfl,(h2.mono (iT im3 im4)),(h3.mono (iT im3 im4)),ho1⟩ ?_)
  rintro m _ w5 ⟨J,T2,x2,x1,a4,c4,a5,c5,rfl,im5,hS5,h4,h5,ho1⟩
  obtain⟨m1,z1,rfl,hm,hn1⟩:=U4 ho1
  rw [hbd1] at hm
  refine blk (sq2 ?_)
  obtain⟨y2,hx2,hm⟩:=Q4 hm
  refine rg (pv (Z9 rfl) (wl rfl (Z7 Z3c rfl (H2 (p0:=x2) (Q2:=Q2) (hS5.bun [0,1,2] [3] rfl) Q3 h5 hx2) rfl fun v2 T3 w6 im6 rv2 => ?_)))
  obtain⟨rfl,hS6,_⟩:=rv2
  have hS6:=hS6.unb
  obtain⟨y3,hx3,hm⟩:=Q4 hm
  refine wl rfl (Z7 cf123 rfl (Z2k (p0:=y2) (hS6.bun [0,1,2,3] [] rfl)  hx3) rfl fun v3 T4 w7 im7 rv3 => ?_)
  obtain⟨rfl,hS7,_⟩:=rv3
  have hS7:=hS7.unb
  refine pv (J0 rfl) (nil (Q0 ?_))
  refine sq2 (sq2 (rg (pv (U1 rfl) (pv (U1 rfl) (pv (X7 rfl rfl rfl) (pv (Y7 rfl) (?_)))))))
  rcases Bool.eq_false_or_eq_true (decide (y3 < p1)) with hb1 | hb1
  · have hm:=V8 hb1 hm
    refine gF (d0:=16) rfl rfl (by rw [hb1]; rfl) (gF (d0:=16) rfl rfl (by rw [hb1]; rfl) (pv (Y1 rfl hb1 rfl) (nil (Q0 ?_))))
    refine cnd (b:=true) rfl (fun _ => ?_) (fun h=>nomatch h)
    refine sq2 (rg (pv (Z5 rfl isAgg99 sizeOf99 rfl (hS7.cells0 (i:=0) ⟨rfl,rfl⟩ (o:=0) rfl) (cs:=(X8 x1 a4 c4))) (wl rfl (X6 (q:=1) hS7 ⟨rfl,rfl⟩ rfl rfl rfl sizeOf99 rfl rfl rfl fun w18 im19 hS19 => ?_))))
    refine nil (Q0 ?_)
    cases oI hm
    have hn1:_=Lp.ret _:=hn1
    subst hn1
    have hm:=X1 hq1
    cases oI hm
    exact rtn (Q6 (Y5 (Q6 (Y5 (A5 (vs := [.agg (X8 x1 a4 c4).toArray]) rfl ⟨rvS rfl isAgg99 sizeOf99 rfl (hS19.bx (i:=1) ⟨rfl,rfl⟩),qZt⟩ rfl ⟨_,rfl,_,(iT im1 (iT im2 (iT im3 (iT im4 (iT im5 (iT im6 (iT im7 im19))))))),⟨_,_,_,_,rfl,hS19.sel [2,3] rfl,(h4.mono (iT im6 (iT im7 im19))),(h5.mono (iT im6 (iT im7 im19))),qZt⟩⟩)))))
  have hm:=X3 hb1 hm
  refine gT (d0:=16) rfl rfl hb1 (pv (U1 rfl) (gT (d0:=16) rfl rfl hb1 (pv (X7 rfl rfl rfl) (pv (X9 rfl hb1 rfl) (nil (Q0 ?_))))))
  refine V3 rfl hm (fun hb2 hm => ?_) fun hb2 hm => ?_
  · refine sq2 (rg (pv (Z5 rfl isAgg99 sizeOf99 rfl (hS7.cells0 (i:=0) ⟨rfl,rfl⟩ (o:=0) rfl) (cs:=(X8 x1 a4 c4))) (wl rfl (X6 (q:=1) hS7 ⟨rfl,rfl⟩ rfl rfl rfl sizeOf99 rfl rfl rfl fun w8 im8 hS8 => ?_))))
    refine nil (Q0 ?_)
    cases oI hm
    have hn1:_=Lp.ret _:=hn1
    subst hn1
    have hm:=X1 hq1
    cases oI hm
    exact rtn (Q6 (Y5 (Q6 (Y5 (A5 (vs := [.agg (X8 x1 a4 c4).toArray]) rfl ⟨rvS rfl isAgg99 sizeOf99 rfl (hS8.bx (i:=1) ⟨rfl,rfl⟩),qZt⟩ rfl ⟨_,rfl,_,(iT im1 (iT im2 (iT im3 (iT im4 (iT im5 (iT im6 (iT im7 im8))))))),⟨_,_,_,_,rfl,hS8.sel [2,3] rfl,(h4.mono (iT im6 (iT im7 im8))),(h5.mono (iT im6 (iT im7 im8))),qZt⟩⟩)))))
  refine skp (Q0 ?_)
  refine sq2 ?_
  obtain⟨y4,hx4,hm⟩:=Q4 hm
  refine rg (pv (Z9 rfl) (wl rfl (Z7 Z0r rfl (E8 (p0:=x2) (Q2:=Q2) (p1:=4) (hS7.bun [0,1,2] [3] rfl) Q3 (h5.mono (iT im6 im7)) hx4) rfl fun v4 T5 w9 im9 rv4 => ?_)))
  obtain⟨a6,c6,a7,c7,rfl,hS9,h6,h7,_⟩:=rv4
  have hS9:=hS9.unb
  refine wl rfl (alS (zs := [iv 0,iv 0,iv 0,qZs [],qZs [],.int .u32 0,qZs [],qZs [],iv 0,.slice none 0 0]) zeroValue99 rfl hS9 fun w10 b3 im10 hS10 => ?_)
  refine wl rfl (X6 (q:=0) hS10 ⟨rfl,rfl⟩ rfl rfl rfl sizeOf99 rfl rfl rfl fun w11 im11 hS11 => ?_)
  refine nil (Q0 ?_)
  refine sq2 (rsP [1,0,0,0,2,2,0,2] [0,1,2,3,4,5,6,7] mix (by kernel_rfl) hS11.lt (A4 (Q4m (A4 (Q4m (Q1y))))) fun w12 i1 => ?_)
  have im12:=i1.imm
  have hS12:=hS11.keep i1 (fun _ h=>h)
  refine s1 rfl qZt (Z5 rfl isAgg99 sizeOf99 rfl (hS12.cells0 (i:=1) ⟨rfl,rfl⟩ (o:=0) rfl) (cs:=(X8 x1 a4 c4))) rfl (s0 rfl qZt (fun _=>Z9 rfl) rfl (s0 rfl qZt (fun _=>U1 rfl) rfl (s0 rfl qZt (fun _=>X7 rfl rfl rfl) rfl (?_))))
  obtain⟨y5,hx5,hm⟩:=Q4 hm
  rcases y5 with e1 | y5
  · have hm:=Z3 hm
    refine s2 [(0,.agg (X8 x1 a4 c4).toArray)] rfl qZt rfl (by kernel_rfl) (G8 cf116 rfl (hG.J4 (p0:=y4.2) (Q2:=Q2) (p1:=IntKind.wrap .i64 (y3+1)) (hS12.bun [0,1,2,3] [4] rfl) Q3 (h7.mono (iT im10 (iT im11 im12))) hx5) rfl fun v6 T8 w17 im18 rv6 => ?_)
    obtain⟨a11,c11,rfl,hS18,h11,_⟩:=rv6
    have hS18:=hS18.unb
    cases oI hm
    have hn1:_=Lp.ret _:=hn1
    subst hn1
    have hm:=X1 hq1
    cases oI hm
    exact Z8 (G4 (Z8 (G4 (P3 ⟨_,rfl,_,(iT im1 (iT im2 (iT im3 (iT im4 (iT im5 (iT im6 (iT im7 (iT im9 (iT im10 (iT im11 (iT im12 im18))))))))))),⟨_,_,rfl,hS18.sel [3,4] rfl,h11,qZt⟩⟩))))
  have hm:=V1 hm
  refine s2 [(0,.agg (X8 x1 a4 c4).toArray)] rfl qZt rfl (by kernel_rfl) (Z7 cf116 rfl (hG.J4 (p0:=y4.2) (Q2:=Q2) (p1:=IntKind.wrap .i64 (y3+1)) (hS12.bun [0,1,2,3] [4] rfl) Q3 (h7.mono (iT im10 (iT im11 im12))) hx5) rfl fun v5 T6 w13 im13 rv5 => ?_)
  obtain⟨a8,c8,a9,c9,rfl,hS13,h8,h9,_⟩:=rv5
  have hS13:=hS13.unb
  refine⟨st1 rfl (Z5 rfl isAgg99 sizeOf99 rfl (hS13.cells0 (i:=1) ⟨rfl,rfl⟩ (o:=0) rfl) (cs:=(X8 x1 a4 c4))) (st0),?_⟩
  refine s2 [] rfl qZt rfl (by kernel_rfl) (bsS (r:=X0) (l:=([x1,y5.1]:List Z6)) (css := [(X8 x1 a4 c4),(X8 y5.1 a8 c8)]) hS13 underlying56 sizeOf99 zeroValue99 rfl rfl (by kernel_rfl) rfl ⟨(M2 (x:=x1) (h4.mono (iT im6 (iT im7 (iT im9 (iT im10 (iT im11 (iT im12 im13))))))):X0.rp _ _ _ _),(M2 (x:=y5.1) h8:X0.rp _ _ _ _),qZt⟩ rfl rfl fun w14 a10 n1 c10 im14 hS14 => ?_)
  refine⟨st0,?_⟩
  refine s0 rfl qZt (fun _=>Z1 rfl underlying99 rfl sizeOf56 rfl) rfl (s2 [] rfl qZt rfl (by kernel_rfl) (X6 (q:=1) hS14 ⟨rfl,rfl⟩ rfl rfl rfl sizeOf56 rfl rfl rfl fun w15 im15 hS15 => ?_))
  refine⟨st0,?_⟩
  refine seP (Q0 ?_)
  refine rg (pv (Z5 rfl isAgg99 sizeOf99 rfl (hS15.cells0 (i:=1) ⟨rfl,rfl⟩ (o:=0) rfl) (cs := [iv y4.1.Kind,iv y4.1.Pos.Line,iv y4.1.Pos.Col,qZs y4.1.Op,qZs y4.1.Name,.int .u32 y4.1.Num,qZs y4.1.Type_.Word,qZs y4.1.Type_.Name,iv y4.1.Type_.Stars,.slice a10 n1 c10])) (wl rfl (X6 (q:=2) hS15 ⟨rfl,rfl⟩ rfl rfl rfl sizeOf99 rfl rfl rfl fun w16 im16 hS16 => ?_)))
  obtain⟨T7,im17,hS17,h10⟩:=hS16.seal 0 ⟨rfl,rfl⟩
  have hsh:=h10.len
  subst hsh
  cases oI hm
  exact nil (U6 (Q0 ⟨m1,Nat.lt_succ_self _,_,_,y5.2,({y4.1 with Kids:=([x1,y5.1]:List Z6)}),_,_,_,_,Q7 ⟨rfl,rfl,rfl,rfl,qZt⟩,(iT im5 (iT im6 (iT im7 (iT im9 (iT im10 (iT im11 (iT im12 (iT im13 (iT im14 (iT im15 (iT im16 im17))))))))))),hS17.sel [2,3,4,5] rfl,h10,(h9.mono (iT im14 (iT im15 (iT im16 im17)))),hn1⟩))
theorem Q7u {G:Q6b} (hG:Sp1 G):Q0h (N7 G) := @fun g T0 w0 R p0 X4 X2 Q2 a1 c1 r hS Q3 h1 hm=>by
  refine enter (args := [pt X4 X2]) Tryz.func99 rfl Tryz.ntmps99 rfl fun J => ?_
  unfold N7 at hm
  refine sq2 (rg (wl rfl (alS (zs := [iv 0,iv 0,iv 0,qZs [],qZs [],.int .u32 0,qZs [],qZs [],iv 0,.slice none 0 0]) zeroValue99 rfl hS fun w1 b1 im1 hS1 => ?_)))
  refine nil (Q0 ?_)
  refine sq2 (rg (pv (Z9 rfl) (?_)))
  obtain⟨y1,hx1,hm⟩:=Q4 hm
  rcases y1 with e5 | y1
  · have hm:=Z3 hm
    refine wl rfl (G8 cf116 rfl (hG.J4 (p0:=p0) (Q2:=Q2) (p1:=1) (hS1.bun [0,1] [2] rfl) Q3 (h1.mono im1) hx1) rfl fun v13 T14 w26 im27 rv13 => ?_)
    obtain⟨a18,c18,rfl,hS27,h18,_⟩:=rv13
    have hS27:=hS27.unb
    cases oI hm
    exact Z8 (P3 ⟨_,rfl,_,(iT im1 im27),⟨_,_,rfl,hS27.sel [1,2] rfl,h18,qZt⟩⟩)
  have hm:=V1 hm
  refine wl rfl (Z7 cf116 rfl (hG.J4 (p0:=p0) (Q2:=Q2) (p1:=1) (hS1.bun [0,1] [2] rfl) Q3 (h1.mono im1) hx1) rfl fun v1 T1 w2 im2 rv1 => ?_)
  obtain⟨a2,c2,a3,c3,rfl,hS2,h2,h3,_⟩:=rv1
  have hS2:=hS2.unb
  refine wl rfl (alS (zs := [iv 0,iv 0,iv 0,qZs [],qZs [],.int .u32 0,qZs [],qZs [],iv 0,.slice none 0 0]) zeroValue99 rfl hS2 fun w3 b2 im3 hS3 => ?_)
  refine wl rfl (X6 (q:=0) hS3 ⟨rfl,rfl⟩ rfl rfl rfl sizeOf99 rfl rfl rfl fun w4 im4 hS4 => ?_)
  refine nil (Q0 ?_)
  refine sq2 (sq2 ?_)
  obtain⟨y2,hx2,hm⟩:=Q4 hm
  refine rg (pv (Z9 rfl) (wl rfl (Z7 Z3c rfl (H2 (p0:=y1.2) (Q2:=Q2) (hS4.bun [0,1,2] [3] rfl) Q3 (h3.mono (iT im3 im4)) hx2) rfl fun v2 T2 w5 im5 rv2 => ?_)))
  obtain⟨rfl,hS5,_⟩:=rv2
  have hS5:=hS5.unb
  refine pv (Q8b rfl rfl) (nil (Q0 ?_))
  refine V3 rfl hm (fun hb1 hm => ?_) fun hb1 hm => ?_
  · refine sq2 (rg (pv (Z5 rfl isAgg99 sizeOf99 rfl (hS5.cells0 (i:=0) ⟨rfl,rfl⟩ (o:=0) rfl) (cs:=(X8 y1.1 a2 c2))) (wl rfl (X6 (q:=1) hS5 ⟨rfl,rfl⟩ rfl rfl rfl sizeOf99 rfl rfl rfl fun w6 im6 hS6 => ?_))))
    refine nil (Q0 ?_)
    cases oI hm
    exact rtn (Q6 (A5 (vs := [.agg (X8 y1.1 a2 c2).toArray]) rfl ⟨rvS rfl isAgg99 sizeOf99 rfl (hS6.bx (i:=1) ⟨rfl,rfl⟩),qZt⟩ rfl ⟨_,rfl,_,(iT im1 (iT im2 (iT im3 (iT im4 (iT im5 im6))))),⟨_,_,_,_,rfl,hS6.sel [2,3] rfl,(h2.mono (iT im3 (iT im4 (iT im5 im6)))),(h3.mono (iT im3 (iT im4 (iT im5 im6)))),qZt⟩⟩))
  refine skp (Q0 ?_)
  refine sq2 ?_
  obtain⟨y3,hx3,hm⟩:=Q4 hm
  refine rg (pv (Z9 rfl) (wl rfl (Z7 Z0r rfl (E8 (p0:=y1.2) (Q2:=Q2) (p1:=6) (hS5.bun [0,1,2] [3] rfl) Q3 (h3.mono (iT im3 (iT im4 im5))) hx3) rfl fun v3 T3 w7 im7 rv3 => ?_)))
  obtain⟨a4,c4,a5,c5,rfl,hS7,h4,h5,_⟩:=rv3
  have hS7:=hS7.unb
  refine wl rfl (alS (zs := [iv 0,iv 0,iv 0,qZs [],qZs [],.int .u32 0,qZs [],qZs [],iv 0,.slice none 0 0]) zeroValue99 rfl hS7 fun w8 b3 im8 hS8 => ?_)
  refine wl rfl (X6 (q:=0) hS8 ⟨rfl,rfl⟩ rfl rfl rfl sizeOf99 rfl rfl rfl fun w9 im9 hS9 => ?_)
  refine nil (Q0 ?_)
  refine sq2 (rg (pv (Z1 rfl underlying99 rfl sizeOf9 rfl) (wl rfl (X6 (q:=0) hS9 ⟨rfl,rfl⟩ rfl rfl rfl sizeOf9 rfl rfl rfl fun w10 im10 hS10 => ?_))))
  refine nil (Q0 ?_)
  refine sq2 (rg (pv (Z9 rfl) (?_)))
  obtain⟨y4,hx4,hm⟩:=Q4 hm
  rcases y4 with e4 | y4
  · have hm:=Z3 hm
    refine wl rfl (G8 Q4r rfl (hG.Y2 (p0:=y3.2) (Q2:=Q2) (hS10.bun [0,1,2,3] [4] rfl) Q3 (h5.mono (iT im8 (iT im9 im10))) hx4) rfl fun v12 T13 w25 im26 rv12 => ?_)
    obtain⟨a17,c17,rfl,hS26,h17,_⟩:=rv12
    have hS26:=hS26.unb
    cases oI hm
    exact Z8 (P3 ⟨_,rfl,_,(iT im1 (iT im2 (iT im3 (iT im4 (iT im5 (iT im7 (iT im8 (iT im9 (iT im10 im26))))))))),⟨_,_,rfl,hS26.sel [3,4] rfl,h17,qZt⟩⟩)
  have hm:=V1 hm
  refine wl rfl (Z7 Q4r rfl (hG.Y2 (p0:=y3.2) (Q2:=Q2) (hS10.bun [0,1,2,3] [4] rfl) Q3 (h5.mono (iT im8 (iT im9 im10))) hx4) rfl fun v4 T4 w11 im11 rv4 => ?_)
  obtain⟨a6,c6,a7,c7,rfl,hS11,h6,h7,_⟩:=rv4
  have hS11:=hS11.unb
  refine wl rfl (alS (zs := [iv 0,iv 0,iv 0,qZs [],qZs [],.int .u32 0,qZs [],qZs [],iv 0,.slice none 0 0]) zeroValue99 rfl hS11 fun w12 b4 im12 hS12 => ?_)
  refine wl rfl (X6 (q:=0) hS12 ⟨rfl,rfl⟩ rfl rfl rfl sizeOf99 rfl rfl rfl fun w13 im13 hS13 => ?_)
  refine nil (Q0 ?_)
  refine sq2 (rg (pv (Z9 rfl) (?_)))
  obtain⟨y5,hx5,hm⟩:=Q4 hm
  rcases y5 with e3 | y5
  · have hm:=Z3 hm
    refine wl rfl (G8 A3 rfl (Q9 (p0:=y4.2) (Q2:=Q2) (p1 := [58]) (hS13.bun [0,1,2,3,4] [5] rfl) Q3 (h7.mono (iT im12 im13)) hx5) rfl fun v11 T12 w24 im25 rv11 => ?_)
    obtain⟨a16,c16,rfl,hS25,h16,_⟩:=rv11
    have hS25:=hS25.unb
    cases oI hm
    exact Z8 (P3 ⟨_,rfl,_,(iT im1 (iT im2 (iT im3 (iT im4 (iT im5 (iT im7 (iT im8 (iT im9 (iT im10 (iT im11 (iT im12 (iT im13 im25)))))))))))),⟨_,_,rfl,hS25.sel [4,5] rfl,h16,qZt⟩⟩)
  have hm:=V1 hm
  refine wl rfl (Z7 A3 rfl (Q9 (p0:=y4.2) (Q2:=Q2) (p1 := [58]) (hS13.bun [0,1,2,3,4] [5] rfl) Q3 (h7.mono (iT im12 im13)) hx5) rfl fun v5 T5 w14 im14 rv5 => ?_)
  obtain⟨a8,c8,rfl,hS14,h8,_⟩:=rv5
  have hS14:=hS14.unb
  refine nil (Q0 ?_)
  refine sq2 (rg (pv (Z9 rfl) (?_)))
  obtain⟨y6,hx6,hm⟩:=Q4 hm
  rcases y6 with e2 | y6
  · have hm:=Z3 hm
    refine wl rfl (G8 cf98 rfl (B7 (p0:=y5) (Q2:=Q2) (hS14.bun [0,1,2,3,4] [5] rfl) Q3 h8 hx6) rfl fun v10 T11 w23 im24 rv10 => ?_)
    obtain⟨a15,c15,rfl,hS24,h15,_⟩:=rv10
    have hS24:=hS24.unb
    cases oI hm
    exact Z8 (P3 ⟨_,rfl,_,(iT im1 (iT im2 (iT im3 (iT im4 (iT im5 (iT im7 (iT im8 (iT im9 (iT im10 (iT im11 (iT im12 (iT im13 (iT im14 im24))))))))))))),⟨_,_,rfl,hS24.sel [4,5] rfl,h15,qZt⟩⟩)
  have hm:=V1 hm
  refine wl rfl (Z7 cf98 rfl (B7 (p0:=y5) (Q2:=Q2) (hS14.bun [0,1,2,3,4] [5] rfl) Q3 h8 hx6) rfl fun v6 T6 w15 im15 rv6 => ?_)
  obtain⟨b5,a9,c9,rfl,hS15,h9,_⟩:=rv6
  have hS15:=hS15.unb
  refine pv (r_zf rfl) (nil (Q0 ?_))
  refine sq2 (rsP [1,1,0,2,2,0,2] [0,1,2,3,4,5,6] mix (by kernel_rfl) hS15.lt (A4 (Q1y)) fun w16 i1 => ?_)
  have im16:=i1.imm
  have hS16:=hS15.keep i1 (fun _ h=>h)
  refine s1 rfl qZt (Z5 rfl isAgg99 sizeOf99 rfl (hS16.cells0 (i:=2) ⟨rfl,rfl⟩ (o:=0) rfl) (cs:=(X8 y1.1 a2 c2))) rfl (s1 rfl qZt (Z5 rfl isAgg99 sizeOf99 rfl (hS16.cells0 (i:=0) ⟨rfl,rfl⟩ (o:=0) rfl) (cs:=(X8 y4.1 a6 c6))) rfl (s0 rfl qZt (fun _=>Z9 rfl) rfl (?_)))
  obtain⟨y7,hx7,hm⟩:=Q4 hm
  rcases y7 with e1 | y7
  · have hm:=Z3 hm
    refine s2 [(1,.agg (X8 y4.1 a6 c6).toArray),(0,.agg (X8 y1.1 a2 c2).toArray)] rfl qZt rfl (by kernel_rfl) (G8 cf99 rfl (hG.F3 (p0:=y6) (Q2:=Q2) (hS16.bun [1,3,4,6,0,2] [5] rfl) Q3 (h9.mono im16) hx7) rfl fun v9 T10 w22 im23 rv9 => ?_)
    obtain⟨a14,c14,rfl,hS23,h14,_⟩:=rv9
    have hS23:=hS23.unb
    cases oI hm
    exact Z8 (P3 ⟨_,rfl,_,(iT im1 (iT im2 (iT im3 (iT im4 (iT im5 (iT im7 (iT im8 (iT im9 (iT im10 (iT im11 (iT im12 (iT im13 (iT im14 (iT im15 (iT im16 im23))))))))))))))),⟨_,_,rfl,hS23.sel [2,6] rfl,h14,qZt⟩⟩)
  have hm:=V1 hm
  refine s2 [(1,.agg (X8 y4.1 a6 c6).toArray),(0,.agg (X8 y1.1 a2 c2).toArray)] rfl qZt rfl (by kernel_rfl) (Z7 cf99 rfl (hG.F3 (p0:=y6) (Q2:=Q2) (hS16.bun [1,3,4,6,0,2] [5] rfl) Q3 (h9.mono im16) hx7) rfl fun v7 T7 w17 im17 rv7 => ?_)
  obtain⟨a10,c10,a11,c11,rfl,hS17,h10,h11,_⟩:=rv7
  have hS17:=hS17.unb
  refine⟨st1 rfl (Z5 rfl isAgg99 sizeOf99 rfl (hS17.cells0 (i:=4) ⟨rfl,rfl⟩ (o:=0) rfl) (cs:=(X8 y4.1 a6 c6))) (st1 rfl (Z5 rfl isAgg99 sizeOf99 rfl (hS17.cells0 (i:=5) ⟨rfl,rfl⟩ (o:=0) rfl) (cs:=(X8 y1.1 a2 c2))) (st0)),?_⟩
  refine s2 [] rfl qZt rfl (by kernel_rfl) (bsS (r:=X0) (l:=([y1.1,y4.1,y7.1]:List Z6)) (css := [(X8 y1.1 a2 c2),(X8 y4.1 a6 c6),(X8 y7.1 a10 c10)]) hS17 underlying56 sizeOf99 zeroValue99 rfl rfl (by kernel_rfl) rfl ⟨(M2 (x:=y1.1) (h2.mono (iT im3 (iT im4 (iT im5 (iT im7 (iT im8 (iT im9 (iT im10 (iT im11 (iT im12 (iT im13 (iT im14 (iT im15 (iT im16 im17)))))))))))))):X0.rp _ _ _ _),(M2 (x:=y4.1) (h6.mono (iT im12 (iT im13 (iT im14 (iT im15 (iT im16 im17)))))):X0.rp _ _ _ _),(M2 (x:=y7.1) h10:X0.rp _ _ _ _),qZt⟩ rfl rfl fun w18 a12 n1 c12 im18 hS18 => ?_)
  refine⟨st0,?_⟩
  refine s0 rfl qZt (fun _=>Z1 rfl underlying99 rfl sizeOf56 rfl) rfl (s2 [] rfl qZt rfl (by kernel_rfl) (X6 (q:=1) hS18 ⟨rfl,rfl⟩ rfl rfl rfl sizeOf56 rfl rfl rfl fun w19 im19 hS19 => ?_))
  refine⟨st0,?_⟩
  refine seP (Q0 ?_)
  refine sq2 ?_
  obtain⟨y8,hx8,hm⟩:=Q4 hm
  refine rg (pv (r_mf rfl) (wl rfl (Z7 H7 rfl (Q4z (p0:=y7.2) (Q2:=J6 b5) (H1:=Q2) (hS19.bun [0,1,2,3] [4,7] rfl) (Q0x b5) Q3 (h11.mono (iT im18 im19)) hx8) rfl fun v8 T8 w20 im20 rv8 => ?_)))
  obtain⟨a13,c13,rfl,hS20,h12,_⟩:=rv8
  have hS20:=hS20.unb
  refine nil (Y9 [(2,pt b1 0),(4,pt b3 0)] ⟨rfl,rfl,qZt⟩ fun J => ?_)
  refine sq2 (rg (pv (Z5 rfl isAgg99 sizeOf99 rfl (hS20.cells0 (i:=1) ⟨rfl,rfl⟩ (o:=0) rfl) (cs := [iv y3.1.Kind,iv y3.1.Pos.Line,iv y3.1.Pos.Col,qZs [],qZs y3.1.Name,.int .u32 y3.1.Num,qZs y3.1.Type_.Word,qZs y3.1.Type_.Name,iv y3.1.Type_.Stars,.slice a12 n1 c12])) (wl rfl (X6 (q:=2) hS20 ⟨rfl,rfl⟩ rfl rfl rfl sizeOf99 rfl rfl rfl fun w21 im21 hS21 => ?_))))
  refine nil (Q0 ?_)
  obtain⟨T9,im22,hS22,h13⟩:=hS21.seal 0 ⟨rfl,rfl⟩
  have hsh:=h13.len
  subst hsh
  cases oI hm
  exact rtn (A5 (vs := [.agg #[iv y3.1.Kind,iv y3.1.Pos.Line,iv y3.1.Pos.Col,qZs [],qZs y3.1.Name,.int .u32 y3.1.Num,qZs y3.1.Type_.Word,qZs y3.1.Type_.Name,iv y3.1.Type_.Stars,.slice a12 (List.length ([y1.1,y4.1,y7.1]:List Z6)) c12]]) rfl ⟨rvS rfl isAgg99 sizeOf99 rfl (hS22.bx (i:=2) ⟨rfl,rfl⟩),qZt⟩ rfl ⟨_,rfl,_,(iT im1 (iT im2 (iT im3 (iT im4 (iT im5 (iT im7 (iT im8 (iT im9 (iT im10 (iT im11 (iT im12 (iT im13 (iT im14 (iT im15 (iT im16 (iT im17 (iT im18 (iT im19 (iT im20 (iT im21 im22)))))))))))))))))))),⟨_,_,_,_,rfl,hS22.sel [3,5] rfl,h13,(h12.mono (iT im21 im22)),qZt⟩⟩)
theorem Q6j {G:Q6b} (hG:Sp1 G):R8 (E0 G) := @fun g T0 w0 R p0 X4 X2 Q2 a1 c1 r hS Q3 h1 hm=>by
  refine Z3t (args := [pt X4 X2]) Tryz.func87 rfl Tryz.ntmps87 rfl fun J => ?_
  unfold E0 at hm
  refine sq2 (rg (wl rfl (alS (zs := [iv 0,iv 0,iv 0,qZs [],qZs [],.int .u32 0,qZs [],qZs [],iv 0,.slice none 0 0]) zeroValue99 rfl hS fun w1 b1 im1 hS1 => ?_)))
  refine nil (Q0 ?_)
  refine sq2 (rg (pv (Z9 rfl) (?_)))
  obtain⟨y1,hx1,hm⟩:=Q4 hm
  rcases y1 with e3 | y1
  · have hm:=Z3 hm
    refine wl rfl (G8 cf98 rfl (B7 (p0:=p0) (Q2:=Q2) (hS1.bun [0,1] [2] rfl) Q3 (h1.mono im1) hx1) rfl fun v9 T10 w23 im24 rv9 => ?_)
    obtain⟨a12,c12,rfl,hS24,h12,_⟩:=rv9
    have hS24:=hS24.unb
    cases oI hm
    exact Z8 (panED ⟨_,rfl,_,(iT im1 im24),⟨_,_,rfl,hS24.sel [1,2] rfl,h12,qZt⟩⟩)
  have hm:=V1 hm
  refine wl rfl (Z7 cf98 rfl (B7 (p0:=p0) (Q2:=Q2) (hS1.bun [0,1] [2] rfl) Q3 (h1.mono im1) hx1) rfl fun v1 T1 w2 im2 rv1 => ?_)
  obtain⟨b2,a2,c2,rfl,hS2,h2,_⟩:=rv1
  have hS2:=hS2.unb
  refine wl rfl (dfO (f:=115) (cap := #[pt b2 0]) rfl ?_)
  refine nil (Q0 ?_)
  refine sq2 (rg (pv (Z9 rfl) (?_)))
  obtain⟨y2,hx2,hm⟩:=Q4 hm
  rcases y2 with e2 | y2
  · have hm:=Z3 hm
    refine wl rfl (G8 cf99 rfl (hG.F3 (p0:=y1) (Q2:=Q2) (hS2.bun [0,1,3] [2] rfl) Q3 h2 hx2) rfl fun v8 T9 w21 im22 rv8 => ?_)
    obtain⟨a11,c11,rfl,hS22,h11,_⟩:=rv8
    have hS22:=hS22.unb
    refine Z8 (S0 H7 (M8 (args := [pt b2 0]) Tryz.func115 rfl Tryz.ntmps115 rfl rfl fun J => ?_))
    refine rg (pv (Z4 rfl isAgg41 (hS22.cell0 (i:=2) ⟨rfl,rfl⟩ (j:=0) rfl)) (pv (J1 rfl) (pv (Z1 rfl underlying43 rfl sizeOf3 rfl) (pv (Z4 rfl isAgg3 (hS22.cellB (i:=3) ⟨rfl,rfl⟩ Q3 (j:=3) rfl)) (pv (X7 rfl rfl rfl) (pv (J1 rfl) (pv (Z1 rfl underlying43 rfl sizeOf3 rfl) (wl rfl (stB (q:=3) (j:=3) hS22 ⟨rfl,rfl⟩ Q3 rfl rfl rfl sizeOf3 rfl rfl rfl fun w22 im23 hS23 => ?_)))))))))
    cases oI hm
    exact nil (Q0s rfl ⟨_,rfl,_,(iT im1 (iT im2 (iT im22 im23))),⟨_,_,rfl,hS23.sel [1,3] rfl,(h11.mono im23),qZt⟩⟩)
  have hm:=V1 hm
  refine wl rfl (Z7 cf99 rfl (hG.F3 (p0:=y1) (Q2:=Q2) (hS2.bun [0,1,3] [2] rfl) Q3 h2 hx2) rfl fun v2 T2 w3 im3 rv2 => ?_)
  obtain⟨a3,c3,a4,c4,rfl,hS3,h3,h4,_⟩:=rv2
  have hS3:=hS3.unb
  refine wl rfl (alS (zs := [iv 0,iv 0,iv 0,qZs [],qZs [],.int .u32 0,qZs [],qZs [],iv 0,.slice none 0 0]) zeroValue99 rfl hS3 fun w4 b3 im4 hS4 => ?_)
  refine wl rfl (X6 (q:=0) hS4 ⟨rfl,rfl⟩ rfl rfl rfl sizeOf99 rfl rfl rfl fun w5 im5 hS5 => ?_)
  refine nil (Q0 ?_)
  refine sq2 (sq2 ?_)
  obtain⟨y3,hx3,hm⟩:=Q4 hm
  refine rg (pv (Z9 rfl) (wl rfl (Z7 Z3c rfl (H2 (p0:=y2.2) (Q2:=Q2) (hS5.bun [0,1,2,3] [4] rfl) Q3 (h4.mono (iT im4 im5)) hx3) rfl fun v3 T3 w6 im6 rv3 => ?_)))
  obtain⟨rfl,hS6,_⟩:=rv3
  have hS6:=hS6.unb
  obtain⟨y4,hx4,hm⟩:=Q4 hm
  refine wl rfl (Z7 cf100 rfl (Q9q (p0:=y3) (hS6.bun [0,1,2,3,4] [] rfl)  hx4) rfl fun v4 T4 w7 im7 rv4 => ?_)
  obtain⟨rfl,hS7,_⟩:=rv4
  have hS7:=hS7.unb
  refine pv (L7 rfl) (nil (Q0 ?_))
  refine V3 rfl hm (fun hb1 hm => ?_) fun hb1 hm => ?_
  · refine sq2 (rg (pv (Z5 rfl isAgg99 sizeOf99 rfl (hS7.cells0 (i:=0) ⟨rfl,rfl⟩ (o:=0) rfl) (cs:=(X8 y2.1 a3 c3))) (wl rfl (X6 (q:=1) hS7 ⟨rfl,rfl⟩ rfl rfl rfl sizeOf99 rfl rfl rfl fun w8 im8 hS8 => ?_))))
    refine nil (Q0 ?_)
    refine rtn (Q6 (retD H7 (M8 (args := [pt b2 0]) Tryz.func115 rfl Tryz.ntmps115 rfl rfl fun J => ?_)))
    refine rg (pv (Z4 rfl isAgg41 (hS8.cell0 (i:=3) ⟨rfl,rfl⟩ (j:=0) rfl)) (pv (J1 rfl) (pv (Z1 rfl underlying43 rfl sizeOf3 rfl) (pv (Z4 rfl isAgg3 (hS8.cellB (i:=4) ⟨rfl,rfl⟩ Q3 (j:=3) rfl)) (pv (X7 rfl rfl rfl) (pv (J1 rfl) (pv (Z1 rfl underlying43 rfl sizeOf3 rfl) (wl rfl (stB (q:=4) (j:=3) hS8 ⟨rfl,rfl⟩ Q3 rfl rfl rfl sizeOf3 rfl rfl rfl fun w9 im9 hS9 => ?_)))))))))
    cases oI hm
    exact nil (Q0s rfl ⟨_,Z1n (vs := [.agg (X8 y2.1 a3 c3).toArray]) rfl ⟨rvS rfl isAgg99 sizeOf99 rfl (hS9.bx (i:=1) ⟨rfl,rfl⟩),qZt⟩ rfl,⟨_,rfl,_,(iT im1 (iT im2 (iT im3 (iT im4 (iT im5 (iT im6 (iT im7 (iT im8 im9)))))))),⟨_,_,_,_,rfl,hS9.sel [2,4] rfl,(h3.mono (iT im4 (iT im5 (iT im6 (iT im7 (iT im8 im9)))))),(h4.mono (iT im4 (iT im5 (iT im6 (iT im7 (iT im8 im9)))))),qZt⟩⟩⟩)
  refine skp (Q0 ?_)
  refine sq2 ?_
  obtain⟨y5,hx5,hm⟩:=Q4 hm
  refine rg (pv (Z9 rfl) (wl rfl (Z7 Z0r rfl (E8 (p0:=y2.2) (Q2:=Q2) (p1:=5) (hS7.bun [0,1,2,3] [4] rfl) Q3 (h4.mono (iT im4 (iT im5 (iT im6 im7)))) hx5) rfl fun v5 T5 w10 im10 rv5 => ?_)))
  obtain⟨a5,c5,a6,c6,rfl,hS10,h5,h6,_⟩:=rv5
  have hS10:=hS10.unb
  refine wl rfl (alS (zs := [iv 0,iv 0,iv 0,qZs [],qZs [],.int .u32 0,qZs [],qZs [],iv 0,.slice none 0 0]) zeroValue99 rfl hS10 fun w11 b4 im11 hS11 => ?_)
  refine wl rfl (X6 (q:=0) hS11 ⟨rfl,rfl⟩ rfl rfl rfl sizeOf99 rfl rfl rfl fun w12 im12 hS12 => ?_)
  refine nil (Q0 ?_)
  refine sq2 (rsP [1,0,2,2,0,2] [0,1,2,3,4,5] mix (by kernel_rfl) hS12.lt (A4 (Z4o (rs := [.cell 2 99]) rfl (by kernel_rfl))) fun w13 i1 => ?_)
  have im13:=i1.imm
  have hS13:=hS12.keep i1 (fun _ h=>h)
  refine s1 rfl qZt (Z5 rfl isAgg99 sizeOf99 rfl (hS13.cells0 (i:=1) ⟨rfl,rfl⟩ (o:=0) rfl) (cs:=(X8 y2.1 a3 c3))) rfl (s0 rfl qZt (fun _=>Z9 rfl) rfl (?_))
  obtain⟨y6,hx6,hm⟩:=Q4 hm
  rcases y6 with e1 | y6
  · have hm:=Z3 hm
    refine s2 [(0,.agg (X8 y2.1 a3 c3).toArray)] rfl qZt rfl (by kernel_rfl) (G8 Q4r rfl (hG.Y2 (p0:=y5.2) (Q2:=Q2) (hS13.bun [0,2,3,4,1] [5] rfl) Q3 (h6.mono (iT im11 (iT im12 im13))) hx6) rfl fun v7 T8 w19 im20 rv7 => ?_)
    obtain⟨a10,c10,rfl,hS20,h10,_⟩:=rv7
    have hS20:=hS20.unb
    refine Z8 (S0 H7 (M8 (args := [pt b2 0]) Tryz.func115 rfl Tryz.ntmps115 rfl rfl fun J => ?_))
    refine rg (pv (Z4 rfl isAgg41 (hS20.cell0 (i:=3) ⟨rfl,rfl⟩ (j:=0) rfl)) (pv (J1 rfl) (pv (Z1 rfl underlying43 rfl sizeOf3 rfl) (pv (Z4 rfl isAgg3 (hS20.cellB (i:=5) ⟨rfl,rfl⟩ Q3 (j:=3) rfl)) (pv (X7 rfl rfl rfl) (pv (J1 rfl) (pv (Z1 rfl underlying43 rfl sizeOf3 rfl) (wl rfl (stB (q:=5) (j:=3) hS20 ⟨rfl,rfl⟩ Q3 rfl rfl rfl sizeOf3 rfl rfl rfl fun w20 im21 hS21 => ?_)))))))))
    cases oI hm
    exact nil (Q0s rfl ⟨_,rfl,_,(iT im1 (iT im2 (iT im3 (iT im4 (iT im5 (iT im6 (iT im7 (iT im10 (iT im11 (iT im12 (iT im13 (iT im20 im21)))))))))))),⟨_,_,rfl,hS21.sel [2,5] rfl,(h10.mono im21),qZt⟩⟩)
  have hm:=V1 hm
  refine s2 [(0,.agg (X8 y2.1 a3 c3).toArray)] rfl qZt rfl (by kernel_rfl) (Z7 Q4r rfl (hG.Y2 (p0:=y5.2) (Q2:=Q2) (hS13.bun [0,2,3,4,1] [5] rfl) Q3 (h6.mono (iT im11 (iT im12 im13))) hx6) rfl fun v6 T6 w14 im14 rv6 => ?_)
  obtain⟨a7,c7,a8,c8,rfl,hS14,h7,h8,_⟩:=rv6
  have hS14:=hS14.unb
  refine⟨st1 rfl (Z5 rfl isAgg99 sizeOf99 rfl (hS14.cells0 (i:=4) ⟨rfl,rfl⟩ (o:=0) rfl) (cs:=(X8 y2.1 a3 c3))) (st0),?_⟩
  refine s2 [] rfl qZt rfl (by kernel_rfl) (bsS (r:=X0) (l:=([y2.1,y6.1]:List Z6)) (css := [(X8 y2.1 a3 c3),(X8 y6.1 a7 c7)]) hS14 underlying56 sizeOf99 zeroValue99 rfl rfl (by kernel_rfl) rfl ⟨(M2 (x:=y2.1) (h3.mono (iT im4 (iT im5 (iT im6 (iT im7 (iT im10 (iT im11 (iT im12 (iT im13 im14))))))))):X0.rp _ _ _ _),(M2 (x:=y6.1) h7:X0.rp _ _ _ _),qZt⟩ rfl rfl fun w15 a9 n1 c9 im15 hS15 => ?_)
  refine⟨st0,?_⟩
  refine s0 rfl qZt (fun _=>Z1 rfl underlying99 rfl sizeOf56 rfl) rfl (s2 [] rfl qZt rfl (by kernel_rfl) (X6 (q:=1) hS15 ⟨rfl,rfl⟩ rfl rfl rfl sizeOf56 rfl rfl rfl fun w16 im16 hS16 => ?_))
  refine⟨st0,?_⟩
  refine seP (Q0 ?_)
  refine sq2 (rg (pv (Z5 rfl isAgg99 sizeOf99 rfl (hS16.cells0 (i:=1) ⟨rfl,rfl⟩ (o:=0) rfl) (cs := [iv y5.1.Kind,iv y5.1.Pos.Line,iv y5.1.Pos.Col,qZs y5.1.Op,qZs y5.1.Name,.int .u32 y5.1.Num,qZs y5.1.Type_.Word,qZs y5.1.Type_.Name,iv y5.1.Type_.Stars,.slice a9 n1 c9])) (wl rfl (X6 (q:=2) hS16 ⟨rfl,rfl⟩ rfl rfl rfl sizeOf99 rfl rfl rfl fun w17 im17 hS17 => ?_))))
  refine nil (Q0 ?_)
  refine rtn (retD H7 (M8 (args := [pt b2 0]) Tryz.func115 rfl Tryz.ntmps115 rfl rfl fun J => ?_))
  refine rg (pv (Z4 rfl isAgg41 (hS17.cell0 (i:=4) ⟨rfl,rfl⟩ (j:=0) rfl)) (pv (J1 rfl) (pv (Z1 rfl underlying43 rfl sizeOf3 rfl) (pv (Z4 rfl isAgg3 (hS17.cellB (i:=6) ⟨rfl,rfl⟩ Q3 (j:=3) rfl)) (pv (X7 rfl rfl rfl) (pv (J1 rfl) (pv (Z1 rfl underlying43 rfl sizeOf3 rfl) (wl rfl (stB (q:=6) (j:=3) hS17 ⟨rfl,rfl⟩ Q3 rfl rfl rfl sizeOf3 rfl rfl rfl fun w18 im18 hS18 => ?_)))))))))
  obtain⟨T7,im19,hS19,h9⟩:=hS18.seal 0 ⟨rfl,rfl⟩
  have hsh:=h9.len
  subst hsh
  cases oI hm
  exact nil (Q0s rfl ⟨_,Z1n (vs := [.agg #[iv y5.1.Kind,iv y5.1.Pos.Line,iv y5.1.Pos.Col,qZs y5.1.Op,qZs y5.1.Name,.int .u32 y5.1.Num,qZs y5.1.Type_.Word,qZs y5.1.Type_.Name,iv y5.1.Type_.Stars,.slice a9 (List.length ([y2.1,y6.1]:List Z6)) c9]]) rfl ⟨rvS rfl isAgg99 sizeOf99 rfl (hS19.bx (i:=2) ⟨rfl,rfl⟩),qZt⟩ rfl,⟨_,rfl,_,(iT im1 (iT im2 (iT im3 (iT im4 (iT im5 (iT im6 (iT im7 (iT im10 (iT im11 (iT im12 (iT im13 (iT im14 (iT im15 (iT im16 (iT im17 (iT im18 im19)))))))))))))))),⟨_,_,_,_,rfl,hS19.sel [3,6] rfl,h9,(h8.mono (iT im15 (iT im16 (iT im17 (iT im18 im19))))),qZt⟩⟩⟩)
theorem sp1 : ∀ n,Sp1 (C1 n)
  | 0=>⟨(by unfold I9; intros; rename_i h; cases (show (none:Option _)=some _ from h)),(by unfold R5; intros; rename_i h; cases (show (none:Option _)=some _ from h)),(by unfold W1; intros; rename_i h; cases (show (none:Option _)=some _ from h)),(by unfold Q0g; intros; rename_i h; cases (show (none:Option _)=some _ from h)),(by unfold W0; intros; rename_i h; cases (show (none:Option _)=some _ from h)),(by unfold R7; intros; rename_i h; cases (show (none:Option _)=some _ from h)),(by unfold Q0h; intros; rename_i h; cases (show (none:Option _)=some _ from h)),(by unfold R8; intros; rename_i h; cases (show (none:Option _)=some _ from h))⟩
  | n+1=>⟨Q5a (sp1 n),Q6h (sp1 n),Q6p (sp1 n),Q7t (sp1 n),Q6o (sp1 n),Q6i (sp1 n),Q7u (sp1 n),Q6j (sp1 n)⟩
theorem E4:I9 K1:=(sp1 NN).K1
theorem Z3h:R5 G1:=(sp1 NN).G1
theorem Z4a:W1 F8:=(sp1 NN).F8
theorem Z4h:Q0g F2:=(sp1 NN).F2
theorem Z3z:W0 K5:=(sp1 NN).K5
theorem Z3i:R7 J4:=(sp1 NN).J4
theorem Z4i:Q0h F3:=(sp1 NN).F3
theorem P0:R8 Y2:=(sp1 NN).Y2

theorem C9 {p0:Q1} {X4 X2:Nat} {Q2:List Value→J7} {a1:OA} {c1:Nat} {p1:J8} {a2:OA} {c2:Nat} {r:Except (Q8×Q1) (J8×Q1)} (hS:Sep g T0 w0 [R,Q2 [sv a1 p0.l c1,iv p0.end_.Line,iv p0.end_.Col,iv p0.depth]]) (Q3:Ln X4 X2 Q2) (h1:SlR Y3 T0 w0 (sv a1 p0.l c1) p0.l) (h2:SlR (Q0m .u32) T0 w0 (sv a2 p1.Dims c2) p1.Dims) (hm:C5 p0 p1=some r) :
    Calls Tryz.prog 66 #[pt X4 X2,.agg #[iv p1.Pos.Line,iv p1.Pos.Col,qZs p1.Type_.Word,qZs p1.Type_.Name,iv p1.Type_.Stars,qZs p1.Name,sv a2 p1.Dims c2,.slice none 0 0,.bool p1.Brace]] w0 (exR r (fun r=>E6 T0 w0 fun T w v => ∃(a34:OA) (c34:Nat) (a35:OA) (c35:Nat) (a36:OA) (c36:Nat),v = .agg (N1 r.1 a34 c34 a35 c35).toArray∧Sep g T w [R,Q2 [sv a36 r.2.l c36,iv r.2.end_.Line,iv r.2.end_.Col,iv r.2.depth]]∧SlR (Q0m .u32) T w (sv a34 r.1.Dims c34) r.1.Dims∧SlR X0 T w (sv a35 r.1.Init c35) r.1.Init∧SlR Y3 T w (sv a36 r.2.l c36) r.2.l∧True) (fun r=>Q2x T0 w0 fun T w v => ∃(a34:OA) (c34:Nat),v = .iface 48 (.agg (K6 r.1).toArray)∧Sep g T w [R,Q2 [sv a34 r.2.l c34,iv r.2.end_.Line,iv r.2.end_.Col,iv r.2.depth]]∧SlR Y3 T w (sv a34 r.2.l c34) r.2.l∧True)):=by
  refine enter (args := [pt X4 X2,.agg #[iv p1.Pos.Line,iv p1.Pos.Col,qZs p1.Type_.Word,qZs p1.Type_.Name,iv p1.Type_.Stars,qZs p1.Name,sv a2 p1.Dims c2,.slice none 0 0,.bool p1.Brace]]) Tryz.func66 rfl Tryz.ntmps66 rfl fun J => ?_
  unfold C5 at hm
  refine sq2 (rg (wl rfl (bxS (cs := [iv p1.Pos.Line,iv p1.Pos.Col,qZs p1.Type_.Word,qZs p1.Type_.Name,iv p1.Type_.Stars,qZs p1.Name,sv a2 p1.Dims c2,.slice none 0 0,.bool p1.Brace]) rfl rfl hS fun w1 b1 im1 hS1 => ?_)))
  refine wl rfl (alS (zs := [iv 0,iv 0,qZs [],qZs [],iv 0,qZs [],.slice none 0 0,.slice none 0 0,.bool false]) zeroValue58 rfl hS1 fun w2 b2 im2 hS2 => ?_)
  refine nil (Q0 ?_)
  refine sq2 (rg (pv (Z9 rfl) (?_)))
  obtain⟨y1,hx1,hm⟩:=Q4 hm
  rcases y1 with e7 | y1
  · have hm:=Z3 hm
    refine wl rfl (G8 cf85 rfl (R6 (p0:=p0) (Q2:=Q2) (hS2.bun [0,1,2] [3] rfl) Q3 (h1.mono (iT im1 im2)) hx1) rfl fun v17 T21 w32 im34 rv17 => ?_)
    obtain⟨a33,c33,rfl,hS35,h26,_⟩:=rv17
    have hS35:=hS35.unb
    cases oI hm
    exact Z8 (P3 ⟨_,rfl,_,(iT im1 (iT im2 im34)),⟨_,_,rfl,hS35.sel [2,3] rfl,h26,qZt⟩⟩)
  have hm:=V1 hm
  refine wl rfl (Z7 cf85 rfl (R6 (p0:=p0) (Q2:=Q2) (hS2.bun [0,1,2] [3] rfl) Q3 (h1.mono (iT im1 im2)) hx1) rfl fun v1 T1 w3 im3 rv1 => ?_)
  obtain⟨a4,n1,c4,a5,c5,rfl,hS3,h4,_⟩:=rv1
  have hS3:=hS3.unb
  refine pv (Z1 rfl underlying58 rfl sizeOf55 rfl) (wl rfl (X6 (q:=1) hS3 ⟨rfl,rfl⟩ rfl rfl rfl sizeOf55 rfl rfl rfl fun w4 im4 hS4 => ?_))
  refine nil (Q0 ?_)
  obtain⟨kk1,hkk1,hm⟩:=F6 hm
  have hS5:=hS4.nilO X0 99
  refine cut (fun a w5 => ∃(J:JV) (T2:TP) (x4:Q1) (x3:J8) (a6:OA) (n2:Nat) (c6:Nat) (a7:OA) (n3:Nat) (c7:Nat) (a8:OA) (c8:Nat),a=env (nf 40) J [(0,pt X4 X2),(3,pt b1 0),(4,pt b2 0)]∧Im T1 w4 T2 w5∧Sep g T2 w5 [G3 X0 99 (.slice a6 n2 c6) x3.Init,J6 b2 [iv 0,iv 0,qZs [],qZs [],iv 0,qZs [],.slice none 0 0,.slice none 0 0,.bool false],J6 b1 [iv x3.Pos.Line,iv x3.Pos.Col,qZs x3.Type_.Word,qZs x3.Type_.Name,iv x3.Type_.Stars,qZs x3.Name,.slice a7 n3 c7,.slice a6 n2 c6,.bool x3.Brace],R,Q2 [sv a8 x4.l c8,iv x4.end_.Line,iv x4.end_.Col,iv x4.depth],G3 (Q0m .u32) 87 (.slice a7 n3 c7) x3.Dims]∧SlR Y3 T2 w5 (sv a8 x4.l c8) x4.l∧kk1 x3 x4=some r) ?_ ?_
  · refine sq2 ?_
    obtain⟨y2,hx2,hm⟩:=Q4 hm
    refine rg (pv (Z9 rfl) (wl rfl (Z7 Q1u rfl (Y8 (p0:=y1.2) (Q2:=Q2) (p1 := [61]) (hS5.bun [0,1,2,3,5] [4] rfl) Q3 (h4.mono im4) hx2) rfl fun v2 T3 w6 im6 rv2 => ?_)))
    obtain⟨a9,c9,rfl,hS6,h6,_⟩:=rv2
    have hS6:=hS6.unb
    refine nil (Q0 ?_)
    refine V3 rfl hm (fun hb1 hm => ?_) fun hb1 hm => ?_
    · refine sq2 ?_
      obtain⟨y3,hx3,hm⟩:=Q4 hm
      refine rg (pv (Z9 rfl) (wl rfl (Z7 Q1u rfl (Y8 (p0:=y2.2) (Q2:=Q2) (p1 := [123]) (hS6.bun [0,1,2,3,4] [5] rfl) Q3 h6 hx3) rfl fun v3 T4 w7 im7 rv3 => ?_)))
      obtain⟨a10,c10,rfl,hS7,h7,_⟩:=rv3
      have hS7:=hS7.unb
      refine pv (Z1 rfl underlying58 rfl sizeOf4 rfl) (wl rfl (X6 (q:=2) hS7 ⟨rfl,rfl⟩ rfl rfl rfl sizeOf4 rfl rfl rfl fun w8 im8 hS8 => ?_))
      refine nil (Q0 ?_)
      refine sq2 (rsP [0,1,0,2,2,2,0,2] [0,1,2,3,4,5,6,7] mix (by kernel_rfl) hS8.lt (A4 (A4 (Q1y))) fun w9 i1 => ?_)
      have im9:=i1.imm
      have hS9:=hS8.keep i1 (fun _ h=>h)
      refine s0 rfl qZt (fun _=>Z1 rfl underlying58 rfl sizeOf56 rfl) rfl (s1 rfl qZt (Z4 rfl isAgg56 (hS9.cell0 (i:=2) ⟨rfl,rfl⟩ (j:=7) rfl)) rfl (s0 rfl qZt (fun _=>Z9 rfl) rfl (?_)))
      obtain⟨y4,hx4,hm⟩:=Q4 hm
      rcases y4 with e5 | y4
      · have hm:=Z3 hm
        refine s2 [(1,.slice none 0 0)] rfl qZt rfl (by kernel_rfl) (G8 Q4r rfl (P0 (p0:=y3.2) (Q2:=Q2) (hS9.bun [0,1,2,3,4] [5] rfl) Q3 (h7.mono (iT im8 im9)) hx4) rfl fun v14 T16 w28 im28 rv14 => ?_)
        obtain⟨a30,c30,rfl,hS28,h21,_⟩:=rv14
        have hS28:=hS28.unb
        cases oI hm
        exact Z8 (Z8 (P3 ⟨_,rfl,_,(iT im1 (iT im2 (iT im3 (iT im4 (iT im6 (iT im7 (iT im8 (iT im9 im28)))))))),⟨_,_,rfl,hS28.sel [3,5] rfl,h21,qZt⟩⟩))
      have hm:=V1 hm
      refine s2 [(1,.slice none 0 0)] rfl qZt rfl (by kernel_rfl) (Z7 Q4r rfl (P0 (p0:=y3.2) (Q2:=Q2) (hS9.bun [0,1,2,3,4] [5] rfl) Q3 (h7.mono (iT im8 im9)) hx4) rfl fun v4 T5 w10 im10 rv4 => ?_)
      obtain⟨a11,c11,a12,c12,rfl,hS10,h8,h9,_⟩:=rv4
      have hS10:=hS10.unb
      refine⟨st1 rfl (Z4 rfl isAgg56 (hS10.cell0 (i:=2) ⟨rfl,rfl⟩ (j:=7) rfl)) (st0),?_⟩
      refine s2 [(1,.slice none 0 0)] rfl qZt rfl (by kernel_rfl) (bsS (r:=X0) (l:=([y4.1]:List Z6)) (css := [(X8 y4.1 a11 c11)]) hS10 underlying56 sizeOf99 zeroValue99 rfl rfl (by kernel_rfl) rfl ⟨(M2 (x:=y4.1) h8:X0.rp _ _ _ _),qZt⟩ rfl rfl fun w11 a13 n4 c13 im11 hS11 => ?_)
      refine⟨st1 rfl (Z4 rfl isAgg56 (hS11.cell0 (i:=3) ⟨rfl,rfl⟩ (j:=7) rfl)) (st0),?_⟩
      obtain⟨z_1,hro1,hm⟩:=Q4 hm
      refine s2 [] rfl qZt rfl (by kernel_rfl) (apO (q:=1) (l:=([]:List Z6)) (us:=([y4.1]:List Z6)) hS11 ⟨rfl,rfl⟩ rfl rfl (hS11.own (i:=0) ⟨rfl,rfl⟩).v underlying56 el99 (D5 hro1) fun w12 a14 n5 c14 im12 hS12 => ?_)
      refine⟨st0,?_⟩
      refine s0 rfl qZt (fun _=>Z1 rfl underlying58 rfl sizeOf56 rfl) rfl (s2 [] rfl qZt rfl (by kernel_rfl) (X6 (q:=3) hS12 ⟨rfl,rfl⟩ rfl rfl rfl sizeOf56 rfl rfl rfl fun w13 im13 hS13 => ?_))
      refine⟨st0,?_⟩
      refine seP (Q0 ?_)
      refine sq2 ?_
      obtain⟨o1,ho1,hq1⟩:=Q4 hm
      obtain⟨bd1,hbd1,ho1⟩:=K3 ho1
      refine blk (wp_loop_ghost (fun m a w14 => ∃(J:JV) (T6:TP) (x8:Q1) (x7:J8) (a15:OA) (n6:Nat) (c15:Nat) (a16:OA) (n7:Nat) (c16:Nat) (a17:OA) (c17:Nat),a=env (nf 40) J [(0,pt X4 X2),(3,pt b1 0),(4,pt b2 0)]∧Im T5 w13 T6 w14∧Sep g T6 w14 [G3 X0 99 (.slice a15 n6 c15) x7.Init,J6 b2 [iv 0,iv 0,qZs [],qZs [],iv 0,qZs [],.slice none 0 0,.slice none 0 0,.bool false],J6 b1 [iv x7.Pos.Line,iv x7.Pos.Col,qZs x7.Type_.Word,qZs x7.Type_.Name,iv x7.Type_.Stars,qZs x7.Name,.slice a16 n7 c16,.slice a15 n6 c15,.bool x7.Brace],R,G3 (Q0m .u32) 87 (.slice a16 n7 c16) x7.Dims,Q2 [sv a17 x8.l c17,iv x8.end_.Line,iv x8.end_.Col,iv x8.depth]]∧SlR Y3 T6 w14 (sv a17 x8.l c17) x8.l∧V7 bd1 m (x7,x8)=some o1) NN ⟨_,_,y4.2,({p1 with Dims:=y1.1,Init:=([]:List Z6)++([y4.1]:List Z6),Brace:=y3.1}),_,_,_,_,_,_,_,_,Q7 ⟨rfl,rfl,rfl,qZt⟩,Im.refl,hS13.sel [1,2,3,4,5,6] rfl,(h9.mono (iT im11 (iT im12 im13))),ho1⟩ ?_)
      rintro m _ w14 ⟨J,T6,x8,x7,a15,n6,c15,a16,n7,c16,a17,c17,rfl,im14,hS14,h10,ho1⟩
      obtain⟨m1,z1,rfl,hm,hn1⟩:=U4 ho1
      rw [hbd1] at hm
      refine sq2 (sq2 (rg (pv (Z1 rfl underlying58 rfl sizeOf4 rfl) (pv (Z4 rfl isAgg4 (hS14.cell0 (i:=2) ⟨rfl,rfl⟩ (j:=8) rfl)) (pv (Y7 rfl) (?_))))))
      rcases Bool.eq_false_or_eq_true x7.Brace with hb2 | hb2
      · have hm:=V8 hb2 hm
        obtain⟨y5,hx5,hm⟩:=Q4 hm
        refine gT (d0:=22) rfl rfl hb2 (pv (Z9 rfl) (gT (d0:=22) rfl rfl hb2 (wl rfl (Z7 Q1u rfl (Y8 (p0:=x8) (Q2:=Q2) (p1 := [44]) (hS14.bun [0,1,2,3,4] [5] rfl) Q3 h10 hx5) rfl fun v5 T7 w15 im15 rv5 => ?_))))
        obtain⟨a18,c18,rfl,hS15,h11,_⟩:=rv5
        have hS15:=hS15.unb
        refine pv (Y1 rfl hb2 rfl) (nil (Q0 ?_))
        refine V3 rfl hm (fun hb3 hm => ?_) fun hb3 hm => ?_
        · refine skp (Q0 ?_)
          refine blk (rsP [0,1,0,2,2,2,0,2] [0,1,2,3,4,5,6,7] mix (by kernel_rfl) hS15.lt (Q4m (A4 (Q4m (A4 (A4 (Q1y)))))) fun w16 i2 => ?_)
          have im16:=i2.imm
          have hS16:=hS15.keep i2 (fun _ h=>h)
          refine s0 rfl qZt (fun _=>Z1 rfl underlying58 rfl sizeOf56 rfl) rfl (s1 rfl qZt (Z4 rfl isAgg56 (hS16.cell0 (i:=2) ⟨rfl,rfl⟩ (j:=7) rfl)) rfl (s0 rfl qZt (fun _=>Z9 rfl) rfl (?_)))
          obtain⟨y6,hx6,hm⟩:=Q4 hm
          rcases y6 with e1 | y6
          · have hm:=Z3 hm
            refine s2 [(1,.slice a15 n6 c15)] rfl qZt rfl (by kernel_rfl) (G8 Q4r rfl (P0 (p0:=y5.2) (Q2:=Q2) (hS16.bun [0,1,2,3,4] [5] rfl) Q3 (h11.mono im16) hx6) rfl fun v7 T9 w21 im21 rv7 => ?_)
            obtain⟨a23,c23,rfl,hS21,h14,_⟩:=rv7
            have hS21:=hS21.unb
            cases oI hm
            have hn1:_=Lp.ret _:=hn1
            subst hn1
            have hm:=X1 hq1
            cases oI hm
            exact G4 (Z8 (G4 (Z8 (Z8 (P3 ⟨_,rfl,_,(iT im1 (iT im2 (iT im3 (iT im4 (iT im6 (iT im7 (iT im8 (iT im9 (iT im10 (iT im11 (iT im12 (iT im13 (iT im14 (iT im15 (iT im16 im21))))))))))))))),⟨_,_,rfl,hS21.sel [3,5] rfl,h14,qZt⟩⟩)))))
          have hm:=V1 hm
          refine s2 [(1,.slice a15 n6 c15)] rfl qZt rfl (by kernel_rfl) (Z7 Q4r rfl (P0 (p0:=y5.2) (Q2:=Q2) (hS16.bun [0,1,2,3,4] [5] rfl) Q3 (h11.mono im16) hx6) rfl fun v6 T8 w17 im17 rv6 => ?_)
          obtain⟨a19,c19,a20,c20,rfl,hS17,h12,h13,_⟩:=rv6
          have hS17:=hS17.unb
          refine⟨st1 rfl (Z4 rfl isAgg56 (hS17.cell0 (i:=2) ⟨rfl,rfl⟩ (j:=7) rfl)) (st0),?_⟩
          refine s2 [(1,.slice a15 n6 c15)] rfl qZt rfl (by kernel_rfl) (bsS (r:=X0) (l:=([y6.1]:List Z6)) (css := [(X8 y6.1 a19 c19)]) hS17 underlying56 sizeOf99 zeroValue99 rfl rfl (by kernel_rfl) rfl ⟨(M2 (x:=y6.1) h12:X0.rp _ _ _ _),qZt⟩ rfl rfl fun w18 a21 n8 c21 im18 hS18 => ?_)
          refine⟨st1 rfl (Z4 rfl isAgg56 (hS18.cell0 (i:=3) ⟨rfl,rfl⟩ (j:=7) rfl)) (st0),?_⟩
          obtain⟨z_2,hro2,hm⟩:=Q4 hm
          refine s2 [] rfl qZt rfl (by kernel_rfl) (apO (q:=1) (l:=x7.Init) (us:=([y6.1]:List Z6)) hS18 ⟨rfl,rfl⟩ rfl rfl (hS18.own (i:=0) ⟨rfl,rfl⟩).v underlying56 el99 (D5 hro2) fun w19 a22 n9 c22 im19 hS19 => ?_)
          refine⟨st0,?_⟩
          refine s0 rfl qZt (fun _=>Z1 rfl underlying58 rfl sizeOf56 rfl) rfl (s2 [] rfl qZt rfl (by kernel_rfl) (X6 (q:=3) hS19 ⟨rfl,rfl⟩ rfl rfl rfl sizeOf56 rfl rfl rfl fun w20 im20 hS20 => ?_))
          refine⟨st0,?_⟩
          cases oI hm
          exact seP (U6 (Q0 ⟨m1,Nat.lt_succ_self _,_,_,y6.2,({x7 with Init:=x7.Init++([y6.1]:List Z6)}),_,_,_,_,_,_,_,_,Q7 ⟨rfl,rfl,rfl,qZt⟩,(iT im14 (iT im15 (iT im16 (iT im17 (iT im18 (iT im19 im20)))))),hS20.sel [1,2,3,4,5,6] rfl,(h13.mono (iT im18 (iT im19 im20))),hn1⟩))
        cases oI hm
        have hn1:_=Lp.brk _:=hn1
        subst hn1
        have hm:=F1 hq1
        refine xt (V9 (V9 (L5 (Q0 ?_))))
        refine sq2 (rg (pv (Z1 rfl underlying58 rfl sizeOf4 rfl) (pv (Z4 rfl isAgg4 (hS15.cell0 (i:=2) ⟨rfl,rfl⟩ (j:=8) rfl)) (nil (Q0 ?_)))))
        refine V3 rfl hm (fun hb5 hm => ?_) fun hb5 hm => ?_
        · refine rg (pv (Z9 rfl) (?_))
          obtain⟨y8,hx8,hm⟩:=Q4 hm
          rcases y8 with e3 | y8
          · have hm:=Z3 hm
            refine wl rfl (G8 A3 rfl (Q9 (p0:=y5.2) (Q2:=Q2) (p1 := [125]) (hS15.bun [0,1,2,3,4] [5] rfl) Q3 h11 hx8) rfl fun v11 T13 w25 im25 rv11 => ?_)
            obtain⟨a27,c27,rfl,hS25,h18,_⟩:=rv11
            have hS25:=hS25.unb
            cases oI hm
            exact Z8 (P3 ⟨_,rfl,_,(iT im1 (iT im2 (iT im3 (iT im4 (iT im6 (iT im7 (iT im8 (iT im9 (iT im10 (iT im11 (iT im12 (iT im13 (iT im14 (iT im15 im25)))))))))))))),⟨_,_,rfl,hS25.sel [3,5] rfl,h18,qZt⟩⟩)
          have hm:=V1 hm
          refine wl rfl (Z7 A3 rfl (Q9 (p0:=y5.2) (Q2:=Q2) (p1 := [125]) (hS15.bun [0,1,2,3,4] [5] rfl) Q3 h11 hx8) rfl fun v10 T12 w24 im24 rv10 => ?_)
          obtain⟨a26,c26,rfl,hS24,h17,_⟩:=rv10
          have hS24:=hS24.unb
          exact nil (Q0 ⟨_,_,y8,x7,_,_,_,_,_,_,_,_,Q7 ⟨rfl,rfl,rfl,qZt⟩,(iT im6 (iT im7 (iT im8 (iT im9 (iT im10 (iT im11 (iT im12 (iT im13 (iT im14 (iT im15 im24)))))))))),hS24.sel [0,1,2,3,5,4] rfl,h17,hm⟩)
        exact skp (Q0 ⟨_,_,y5.2,x7,_,_,_,_,_,_,_,_,Q7 ⟨rfl,rfl,rfl,qZt⟩,(iT im6 (iT im7 (iT im8 (iT im9 (iT im10 (iT im11 (iT im12 (iT im13 (iT im14 im15))))))))),hS15.sel [0,1,2,3,5,4] rfl,h11,hm⟩)
      have hm:=X3 hb2 hm
      refine gF (d0:=22) rfl rfl (by rw [hb2]; rfl) (gF (d0:=22) rfl rfl (by rw [hb2]; rfl) (pv (X9 rfl hb2 rfl) (nil (Q0 ?_))))
      refine cnd (b:=false) rfl (fun h=>nomatch h) (fun _ => ?_)
      cases oI hm
      have hn1:_=Lp.brk _:=hn1
      subst hn1
      have hm:=F1 hq1
      refine xt (V9 (V9 (L5 (Q0 ?_))))
      refine sq2 (rg (pv (Z1 rfl underlying58 rfl sizeOf4 rfl) (pv (Z4 rfl isAgg4 (hS14.cell0 (i:=2) ⟨rfl,rfl⟩ (j:=8) rfl)) (nil (Q0 ?_)))))
      refine V3 rfl hm (fun hb7 hm => ?_) fun hb7 hm => ?_
      · refine rg (pv (Z9 rfl) (?_))
        obtain⟨y9,hx9,hm⟩:=Q4 hm
        rcases y9 with e4 | y9
        · have hm:=Z3 hm
          refine wl rfl (G8 A3 rfl (Q9 (p0:=x8) (Q2:=Q2) (p1 := [125]) (hS14.bun [0,1,2,3,4] [5] rfl) Q3 h10 hx9) rfl fun v13 T15 w27 im27 rv13 => ?_)
          obtain⟨a29,c29,rfl,hS27,h20,_⟩:=rv13
          have hS27:=hS27.unb
          cases oI hm
          exact Z8 (P3 ⟨_,rfl,_,(iT im1 (iT im2 (iT im3 (iT im4 (iT im6 (iT im7 (iT im8 (iT im9 (iT im10 (iT im11 (iT im12 (iT im13 (iT im14 im27))))))))))))),⟨_,_,rfl,hS27.sel [3,5] rfl,h20,qZt⟩⟩)
        have hm:=V1 hm
        refine wl rfl (Z7 A3 rfl (Q9 (p0:=x8) (Q2:=Q2) (p1 := [125]) (hS14.bun [0,1,2,3,4] [5] rfl) Q3 h10 hx9) rfl fun v12 T14 w26 im26 rv12 => ?_)
        obtain⟨a28,c28,rfl,hS26,h19,_⟩:=rv12
        have hS26:=hS26.unb
        exact nil (Q0 ⟨_,_,y9,x7,_,_,_,_,_,_,_,_,Q7 ⟨rfl,rfl,rfl,qZt⟩,(iT im6 (iT im7 (iT im8 (iT im9 (iT im10 (iT im11 (iT im12 (iT im13 (iT im14 im26))))))))),hS26.sel [0,1,2,3,5,4] rfl,h19,hm⟩)
      exact skp (Q0 ⟨_,_,x8,x7,_,_,_,_,_,_,_,_,Q7 ⟨rfl,rfl,rfl,qZt⟩,(iT im6 (iT im7 (iT im8 (iT im9 (iT im10 (iT im11 (iT im12 (iT im13 im14)))))))),hS14.sel [0,1,2,3,5,4] rfl,h10,hm⟩)
    exact skp (Q0 ⟨_,_,y2.2,({p1 with Dims:=y1.1,Init := []}),_,_,_,_,_,_,_,_,Q7 ⟨rfl,rfl,rfl,qZt⟩,im6,hS6.sel [0,1,2,3,5,4] rfl,h6,hm⟩)
  rintro _ w5 ⟨J,T2,x4,x3,a6,n2,c6,a7,n3,c7,a8,c8,rfl,im5,hS29,h5,hm⟩
  rw [hkk1] at hm
  refine sq2 (rg (pv (Z9 rfl) (?_)))
  obtain⟨y10,hx10,hm⟩:=Q4 hm
  rcases y10 with e6 | y10
  · have hm:=Z3 hm
    refine wl rfl (G8 A3 rfl (Q9 (p0:=x4) (Q2:=Q2) (p1 := [59]) (hS29.bun [0,1,2,3,5] [4] rfl) Q3 h5 hx10) rfl fun v16 T20 w31 im33 rv16 => ?_)
    obtain⟨a32,c32,rfl,hS34,h25,_⟩:=rv16
    have hS34:=hS34.unb
    cases oI hm
    exact Z8 (P3 ⟨_,rfl,_,(iT im1 (iT im2 (iT im3 (iT im4 (iT im5 im33))))),⟨_,_,rfl,hS34.sel [3,5] rfl,h25,qZt⟩⟩)
  have hm:=V1 hm
  refine wl rfl (Z7 A3 rfl (Q9 (p0:=x4) (Q2:=Q2) (p1 := [59]) (hS29.bun [0,1,2,3,5] [4] rfl) Q3 h5 hx10) rfl fun v15 T17 w29 im29 rv15 => ?_)
  obtain⟨a31,c31,rfl,hS30,h22,_⟩:=rv15
  have hS30:=hS30.unb
  refine nil (Q0 ?_)
  refine sq2 (rg (pv (Z5 rfl isAgg58 sizeOf58 rfl (hS30.cells0 (i:=2) ⟨rfl,rfl⟩ (o:=0) rfl) (cs := [iv x3.Pos.Line,iv x3.Pos.Col,qZs x3.Type_.Word,qZs x3.Type_.Name,iv x3.Type_.Stars,qZs x3.Name,.slice a7 n3 c7,.slice a6 n2 c6,.bool x3.Brace])) (wl rfl (X6 (q:=1) hS30 ⟨rfl,rfl⟩ rfl rfl rfl sizeOf58 rfl rfl rfl fun w30 im30 hS31 => ?_))))
  refine nil (Q0 ?_)
  obtain⟨T18,im31,hS32,h23⟩:=hS31.seal 4 ⟨rfl,rfl⟩
  have hsh:=h23.len
  subst hsh
  obtain⟨T19,im32,hS33,h24⟩:=hS32.seal 0 ⟨rfl,rfl⟩
  have hsh:=h24.len
  subst hsh
  cases oI hm
  exact rtn (A5 (vs := [.agg (N1 x3 a7 c7 a6 c6).toArray]) rfl ⟨rvS rfl isAgg58 sizeOf58 rfl (hS33.bx (i:=1) ⟨rfl,rfl⟩),qZt⟩ rfl ⟨_,rfl,_,(iT im1 (iT im2 (iT im3 (iT im4 (iT im5 (iT im29 (iT im30 (iT im31 im32)))))))),⟨_,_,_,_,_,_,rfl,hS33.sel [3,5] rfl,(h23.mono im32),h24,(h22.mono (iT im30 (iT im31 im32))),qZt⟩⟩)

theorem B6 {p0:Q1} {X4 X2:Nat} {Q2:List Value→J7} {a1:OA} {c1:Nat} {r:Except (Q8×Q1) ((List J8)×Q1)} (hS:Sep g T0 w0 [R,Q2 [sv a1 p0.l c1,iv p0.end_.Line,iv p0.end_.Col,iv p0.depth]]) (Q3:Ln X4 X2 Q2) (h1:SlR Y3 T0 w0 (sv a1 p0.l c1) p0.l) (hm:A9 p0=some r) :
    Calls Tryz.prog 67 #[pt X4 X2] w0 (exR r (fun r=>E6 T0 w0 fun T w v => ∃(a19:OA) (n4:Nat) (c19:Nat) (a20:OA) (c20:Nat),v = .slice a19 n4 c19∧Sep g T w [R,Q2 [sv a20 r.2.l c20,iv r.2.end_.Line,iv r.2.end_.Col,iv r.2.depth],G3 G7 58 (.slice a19 n4 c19) r.1]∧SlR Y3 T w (sv a20 r.2.l c20) r.2.l∧True) (fun r=>Q2x T0 w0 fun T w v => ∃(a19:OA) (c19:Nat),v = .iface 48 (.agg (K6 r.1).toArray)∧Sep g T w [R,Q2 [sv a19 r.2.l c19,iv r.2.end_.Line,iv r.2.end_.Col,iv r.2.depth]]∧SlR Y3 T w (sv a19 r.2.l c19) r.2.l∧True)):=by
  refine enter (args := [pt X4 X2]) Tryz.func67 rfl Tryz.ntmps67 rfl fun J => ?_
  unfold A9 at hm
  refine sq2 (rg (pv (P8 rfl) (nil (Q0 ?_))))
  refine sq2 (rg (pv (P8 rfl) (nil (Q0 ?_))))
  refine sq2 (rg (pv (Z9 rfl) (?_)))
  obtain⟨y1,hx1,hm⟩:=Q4 hm
  rcases y1 with e5 | y1
  · have hm:=Z3 hm
    refine wl rfl (G8 A3 rfl (Q9 (p0:=p0) (Q2:=Q2) (p1 := [40]) (hS.bun [0] [1] rfl) Q3 h1 hx1) rfl fun v15 T17 w22 im22 rv15 => ?_)
    obtain⟨a18,c18,rfl,hS24,h15,_⟩:=rv15
    have hS24:=hS24.unb
    cases oI hm
    exact Z8 (P3 ⟨_,rfl,_,im22,⟨_,_,rfl,hS24.sel [0,1] rfl,h15,qZt⟩⟩)
  have hm:=V1 hm
  refine wl rfl (Z7 A3 rfl (Q9 (p0:=p0) (Q2:=Q2) (p1 := [40]) (hS.bun [0] [1] rfl) Q3 h1 hx1) rfl fun v1 T1 w1 im1 rv1 => ?_)
  obtain⟨a2,c2,rfl,hS1,h2,_⟩:=rv1
  have hS1:=hS1.unb
  refine nil (Q0 ?_)
  obtain⟨kk1,hkk1,hm⟩:=F6 hm
  refine cut (fun a w2 => ∃(J:JV) (T2:TP) (x1:Q1) (a3:OA) (c3:Nat),a=env (nf 35) J [(0,pt X4 X2),(3,.slice none 0 0)]∧Im T1 w1 T2 w2∧Sep g T2 w2 [R,Q2 [sv a3 x1.l c3,iv x1.end_.Line,iv x1.end_.Col,iv x1.depth]]∧SlR Y3 T2 w2 (sv a3 x1.l c3) x1.l∧kk1 x1=some r) ?_ ?_
  · refine sq2 ?_
    obtain⟨y2,hx2,hm⟩:=Q4 hm
    refine rg (pv (Z9 rfl) (wl rfl (Z7 Q8q rfl (G0 (p0:=y1) (Q2:=Q2) (p1 := [118,111,105,100]) (hS1.bun [0] [1] rfl) Q3 h2 hx2) rfl fun v2 T3 w3 im3 rv2 => ?_)))
    obtain⟨rfl,hS2,_⟩:=rv2
    have hS2:=hS2.unb
    refine pv (Y7 rfl) (?_)
    rcases Bool.eq_false_or_eq_true y2 with hb1 | hb1
    · have hm:=V8 hb1 hm
      obtain⟨y3,hx3,hm⟩:=Q4 hm
      refine gT (d0:=9) rfl rfl hb1 (pv (Z9 rfl) (gT (d0:=9) rfl rfl hb1 (wl rfl (Z7 cf61 rfl (Q1a (p0:=y1) (Q2:=Q2) (p1:=1) (p2 := [41]) (hS2.bun [0] [1] rfl) Q3 (h2.mono im3) hx3) rfl fun v3 T4 w4 im4 rv3 => ?_))))
      obtain⟨rfl,hS3,_⟩:=rv3
      have hS3:=hS3.unb
      refine pv (Y1 rfl hb1 rfl) (nil (Q0 ?_))
      refine V3 rfl hm (fun hb2 hm => ?_) fun hb2 hm => ?_
      · refine rg (pv (Z9 rfl) (?_))
        obtain⟨y4,hx4,hm⟩:=Q4 hm
        rcases y4 with e1 | y4
        · have hm:=Z3 hm
          refine wl rfl (G8 A3 rfl (Q9 (p0:=y1) (Q2:=Q2) (p1 := [118,111,105,100]) (hS3.bun [0] [1] rfl) Q3 (h2.mono (iT im3 im4)) hx4) rfl fun v5 T6 w6 im6 rv5 => ?_)
          obtain⟨a5,c5,rfl,hS5,h5,_⟩:=rv5
          have hS5:=hS5.unb
          cases oI hm
          exact Z8 (P3 ⟨_,rfl,_,(iT im1 (iT im3 (iT im4 im6))),⟨_,_,rfl,hS5.sel [0,1] rfl,h5,qZt⟩⟩)
        have hm:=V1 hm
        refine wl rfl (Z7 A3 rfl (Q9 (p0:=y1) (Q2:=Q2) (p1 := [118,111,105,100]) (hS3.bun [0] [1] rfl) Q3 (h2.mono (iT im3 im4)) hx4) rfl fun v4 T5 w5 im5 rv4 => ?_)
        obtain⟨a4,c4,rfl,hS4,h4,_⟩:=rv4
        have hS4:=hS4.unb
        exact nil (Q0 ⟨_,_,y4,_,_,Q7 ⟨rfl,rfl,qZt⟩,(iT im3 (iT im4 im5)),hS4.sel [0,1] rfl,h4,hm⟩)
      exact skp (Q0 ⟨_,_,y1,_,_,Q7 ⟨rfl,rfl,qZt⟩,(iT im3 im4),hS3.sel [0,1] rfl,(h2.mono (iT im3 im4)),hm⟩)
    have hm:=X3 hb1 hm
    refine gF (d0:=9) rfl rfl (by rw [hb1]; rfl) (gF (d0:=9) rfl rfl (by rw [hb1]; rfl) (pv (X9 rfl hb1 rfl) (nil (Q0 ?_))))
    refine cnd (b:=false) rfl (fun h=>nomatch h) (fun _ => ?_)
    exact skp (Q0 ⟨_,_,y1,_,_,Q7 ⟨rfl,rfl,qZt⟩,im3,hS2.sel [0,1] rfl,(h2.mono im3),hm⟩)
  rintro _ w2 ⟨J,T2,x1,a3,c3,rfl,im2,hS6,h3,hm⟩
  rw [hkk1] at hm
  refine sq2 (sq2 ?_)
  obtain⟨y5,hx5,hm⟩:=Q4 hm
  refine rg (pv (Z9 rfl) (wl rfl (Z7 Q1u rfl (Y8 (p0:=x1) (Q2:=Q2) (p1 := [41]) (hS6.bun [0] [1] rfl) Q3 h3 hx5) rfl fun v6 T7 w7 im7 rv6 => ?_)))
  obtain⟨a6,c6,rfl,hS7,h6,_⟩:=rv6
  have hS7:=hS7.unb
  refine nil (Q0 ?_)
  refine V3 rfl hm (fun hb4 hm => ?_) fun hb4 hm => ?_
  · refine sq2 (rg (pv (P8 rfl) (nil (Q0 ?_))))
    have hS8:=hS7.nilO G7 58
    cases oI hm
    exact rtn (Q6 (U2 rfl rfl ⟨_,rfl,_,(iT im1 (iT im2 im7)),⟨_,_,_,_,_,rfl,hS8.sel [1,2,0] rfl,h6,qZt⟩⟩))
  refine skp (Q0 ?_)
  obtain⟨o1,ho1,hq1⟩:=Q4 hm
  obtain⟨bd1,hbd1,ho1⟩:=K3 ho1
  have hS9:=hS7.nilO G7 58
  refine blk (wp_loop_ghost (fun m a w8 => ∃(J:JV) (T8:TP) (x3:Q1) (x2:List J8) (a7:OA) (n1:Nat) (c7:Nat) (a8:OA) (c8:Nat),a=env (nf 35) J [(0,pt X4 X2),(3,.slice a7 n1 c7)]∧Im T7 w7 T8 w8∧Sep g T8 w8 [G3 G7 58 (.slice a7 n1 c7) x2,R,Q2 [sv a8 x3.l c8,iv x3.end_.Line,iv x3.end_.Col,iv x3.depth]]∧SlR Y3 T8 w8 (sv a8 x3.l c8) x3.l∧V7 bd1 m (x2,x3)=some o1) NN ⟨_,_,y5.2,[],_,_,_,_,_,Q7 ⟨rfl,rfl,qZt⟩,Im.refl,hS9.sel [0,1,2] rfl,h6,ho1⟩ ?_)
  rintro m _ w8 ⟨J,T8,x3,x2,a7,n1,c7,a8,c8,rfl,im8,hS10,h7,ho1⟩
  obtain⟨m1,z1,rfl,hm,hn1⟩:=U4 ho1
  rw [hbd1] at hm
  refine blk (sq2 ?_)
  obtain⟨y6,hx6,hm⟩:=Q4 hm
  refine rg (pv (Z9 rfl) (wl rfl (Z7 cf59 rfl (B0 (p0:=x3) (Q2:=Q2) (hS10.bun [0,1] [2] rfl) Q3 h7 hx6) rfl fun v7 T9 w9 im9 rv7 => ?_)))
  obtain⟨rfl,hS11,_⟩:=rv7
  have hS11:=hS11.unb
  refine pv (Z9 rfl) (?_)
  obtain⟨y7,hx7,hm⟩:=Q4 hm
  rcases y7 with e4 | y7
  · have hm:=Z3 hm
    refine wl rfl (G8 Q9l rfl (K0 (p0:=x3) (Q2:=Q2) (hS11.bun [0,1] [2] rfl) Q3 (h7.mono im9) hx7) rfl fun v14 T16 w21 im21 rv14 => ?_)
    obtain⟨a17,c17,rfl,hS23,h14,_⟩:=rv14
    have hS23:=hS23.unb
    cases oI hm
    have hn1:_=Lp.ret _:=hn1
    subst hn1
    have hm:=X1 hq1
    cases oI hm
    exact Z8 (G4 (Z8 (G4 (P3 ⟨_,rfl,_,(iT im1 (iT im2 (iT im7 (iT im8 (iT im9 im21))))),⟨_,_,rfl,hS23.sel [1,2] rfl,h14,qZt⟩⟩))))
  have hm:=V1 hm
  refine wl rfl (Z7 Q9l rfl (K0 (p0:=x3) (Q2:=Q2) (hS11.bun [0,1] [2] rfl) Q3 (h7.mono im9) hx7) rfl fun v8 T10 w10 im10 rv8 => ?_)
  obtain⟨a9,c9,rfl,hS12,h8,_⟩:=rv8
  have hS12:=hS12.unb
  refine pv (A8 (by kernel_rfl) rfl (u := .agg #[iv y6.Line,iv y6.Col,qZs y7.1.Word,qZs y7.1.Name,iv y7.1.Stars,qZs [],.slice none 0 0,.slice none 0 0,.bool false])) (wl rfl (alS (zs := [iv 0,iv 0,qZs [],qZs [],iv 0,qZs [],.slice none 0 0,.slice none 0 0,.bool false]) zeroValue58 rfl hS12 fun w11 b1 im11 hS13 => ?_))
  refine wl rfl (X6 (q:=0) hS13 ⟨rfl,rfl⟩ rfl rfl rfl sizeOf58 rfl rfl rfl fun w12 im12 hS14 => ?_)
  refine nil (Q0 ?_)
  refine sq2 (rg (pv (Z9 rfl) (?_)))
  obtain⟨y8,hx8,hm⟩:=Q4 hm
  rcases y8 with e3 | y8
  · have hm:=Z3 hm
    refine wl rfl (G8 Q4s rfl (V6 (p0:=y7.2) (Q2:=Q2) (hS14.bun [0,1,2] [3] rfl) Q3 (h8.mono (iT im11 im12)) hx8) rfl fun v13 T15 w20 im20 rv13 => ?_)
    obtain⟨a16,c16,rfl,hS22,h13,_⟩:=rv13
    have hS22:=hS22.unb
    cases oI hm
    have hn1:_=Lp.ret _:=hn1
    subst hn1
    have hm:=X1 hq1
    cases oI hm
    exact Z8 (G4 (Z8 (G4 (P3 ⟨_,rfl,_,(iT im1 (iT im2 (iT im7 (iT im8 (iT im9 (iT im10 (iT im11 (iT im12 im20)))))))),⟨_,_,rfl,hS22.sel [2,3] rfl,h13,qZt⟩⟩))))
  have hm:=V1 hm
  refine wl rfl (Z7 Q4s rfl (V6 (p0:=y7.2) (Q2:=Q2) (hS14.bun [0,1,2] [3] rfl) Q3 (h8.mono (iT im11 im12)) hx8) rfl fun v9 T11 w13 im13 rv9 => ?_)
  obtain⟨a10,c10,rfl,hS15,h9,_⟩:=rv9
  have hS15:=hS15.unb
  refine pv (Z1 rfl underlying58 rfl sizeOf9 rfl) (wl rfl (X6 (q:=0) hS15 ⟨rfl,rfl⟩ rfl rfl rfl sizeOf9 rfl rfl rfl fun w14 im14 hS16 => ?_))
  refine nil (Q0 ?_)
  refine sq2 (rg (pv (N2 rfl) (pv (Z5 rfl isAgg58 sizeOf58 rfl (hS16.cells0 (i:=0) ⟨rfl,rfl⟩ (o:=0) rfl) (cs := [iv y6.Line,iv y6.Col,qZs y7.1.Word,qZs y7.1.Name,iv y7.1.Stars,qZs y8.1,.slice none 0 0,.slice none 0 0,.bool false])) (wl rfl (bsS (r:=G7) (l:=([(⟨y6,y7.1,y8.1,[],[],false⟩:J8)]:List J8)) (css := [[iv y6.Line,iv y6.Col,qZs y7.1.Word,qZs y7.1.Name,iv y7.1.Stars,qZs y8.1,.slice none 0 0,.slice none 0 0,.bool false]]) hS16 underlying24 sizeOf58 zeroValue58 rfl rfl (by kernel_rfl) rfl ⟨(Q5h (x:=(⟨y6,y7.1,y8.1,[],[],false⟩:J8)) V2 V2:G7.rp _ _ _ _),qZt⟩ rfl rfl fun w15 a11 n2 c11 im15 hS17 => ?_)))))
  obtain⟨z_1,hro1,hm⟩:=Q4 hm
  refine wl rfl (apO (q:=2) (l:=x2) (us:=([(⟨y6,y7.1,y8.1,[],[],false⟩:J8)]:List J8)) hS17 ⟨rfl,rfl⟩ rfl rfl (hS17.own (i:=0) ⟨rfl,rfl⟩).v underlying24 el58 (D5 hro1) fun w16 a12 n3 c12 im16 hS18 => ?_)
  refine pv (P8 rfl) (nil (Q0 ?_))
  refine sq2 ?_
  obtain⟨y9,hx9,hm⟩:=Q4 hm
  refine rg (pv (Z9 rfl) (wl rfl (Z7 Q1u rfl (Y8 (p0:=y8.2) (Q2:=Q2) (p1 := [44]) (hS18.bun [2,3] [4] rfl) Q3 (h9.mono (iT im14 (iT im15 im16))) hx9) rfl fun v10 T12 w17 im17 rv10 => ?_)))
  obtain⟨a13,c13,rfl,hS19,h10,_⟩:=rv10
  have hS19:=hS19.unb
  refine pv (L7 rfl) (nil (Q0 ?_))
  refine V3 rfl hm (fun hb5 hm => ?_) fun hb5 hm => ?_
  · refine sq2 (rg (pv (Z9 rfl) (?_)))
    obtain⟨y10,hx10,hm⟩:=Q4 hm
    rcases y10 with e2 | y10
    · have hm:=Z3 hm
      refine wl rfl (G8 A3 rfl (Q9 (p0:=y9.2) (Q2:=Q2) (p1 := [41]) (hS19.bun [0,1] [2] rfl) Q3 h10 hx10) rfl fun v12 T14 w19 im19 rv12 => ?_)
      obtain⟨a15,c15,rfl,hS21,h12,_⟩:=rv12
      have hS21:=hS21.unb
      cases oI hm
      have hn1:_=Lp.ret _:=hn1
      subst hn1
      have hm:=X1 hq1
      cases oI hm
      exact Z8 (G4 (Z8 (G4 (P3 ⟨_,rfl,_,(iT im1 (iT im2 (iT im7 (iT im8 (iT im9 (iT im10 (iT im11 (iT im12 (iT im13 (iT im14 (iT im15 (iT im16 (iT im17 im19))))))))))))),⟨_,_,rfl,hS21.sel [1,2] rfl,h12,qZt⟩⟩))))
    have hm:=V1 hm
    refine wl rfl (Z7 A3 rfl (Q9 (p0:=y9.2) (Q2:=Q2) (p1 := [41]) (hS19.bun [0,1] [2] rfl) Q3 h10 hx10) rfl fun v11 T13 w18 im18 rv11 => ?_)
    obtain⟨a14,c14,rfl,hS20,h11,_⟩:=rv11
    have hS20:=hS20.unb
    refine nil (Q0 ?_)
    refine sq2 (rg (pv (N2 rfl) (pv (P8 rfl) (nil (Q0 ?_)))))
    cases oI hm
    have hn1:_=Lp.ret _:=hn1
    subst hn1
    have hm:=X1 hq1
    cases oI hm
    exact rtn (Y5 (Q6 (Y5 (U2 rfl rfl ⟨_,rfl,_,(iT im1 (iT im2 (iT im7 (iT im8 (iT im9 (iT im10 (iT im11 (iT im12 (iT im13 (iT im14 (iT im15 (iT im16 (iT im17 im18))))))))))))),⟨_,_,_,_,_,rfl,hS20.sel [1,2,0] rfl,h11,qZt⟩⟩))))
  cases oI hm
  exact skp (U6 (Q0 ⟨m1,Nat.lt_succ_self _,_,_,y9.2,(x2++([(⟨y6,y7.1,y8.1,[],[],false⟩:J8)]:List J8)),_,_,_,_,_,Q7 ⟨rfl,rfl,qZt⟩,(iT im8 (iT im9 (iT im10 (iT im11 (iT im12 (iT im13 (iT im14 (iT im15 (iT im16 im17))))))))),hS19.sel [0,1,2] rfl,h10,hn1⟩))

theorem Q1j {p0:Q1} {X4 X2:Nat} {Q2:List Value→J7} {a1:OA} {c1:Nat} {r:Except (Q8×Q1) (J8×Q1)} (hS:Sep g T0 w0 [R,Q2 [sv a1 p0.l c1,iv p0.end_.Line,iv p0.end_.Col,iv p0.depth]]) (Q3:Ln X4 X2 Q2) (h1:SlR Y3 T0 w0 (sv a1 p0.l c1) p0.l) (hm:I4 p0=some r) :
    Calls Tryz.prog 103 #[pt X4 X2] w0 (exR r (fun r=>E6 T0 w0 fun T w v => ∃(a10:OA) (c10:Nat) (a11:OA) (c11:Nat) (a12:OA) (c12:Nat),v = .agg (N1 r.1 a10 c10 a11 c11).toArray∧Sep g T w [R,Q2 [sv a12 r.2.l c12,iv r.2.end_.Line,iv r.2.end_.Col,iv r.2.depth]]∧SlR (Q0m .u32) T w (sv a10 r.1.Dims c10) r.1.Dims∧SlR X0 T w (sv a11 r.1.Init c11) r.1.Init∧SlR Y3 T w (sv a12 r.2.l c12) r.2.l∧True) (fun r=>Q2x T0 w0 fun T w v => ∃(a10:OA) (c10:Nat),v = .iface 48 (.agg (K6 r.1).toArray)∧Sep g T w [R,Q2 [sv a10 r.2.l c10,iv r.2.end_.Line,iv r.2.end_.Col,iv r.2.depth]]∧SlR Y3 T w (sv a10 r.2.l c10) r.2.l∧True)):=by
  refine enter (args := [pt X4 X2]) Tryz.func103 rfl Tryz.ntmps103 rfl fun J => ?_
  unfold I4 at hm
  refine sq2 (rg (wl rfl (alS (zs := [iv 0,iv 0,qZs [],qZs [],iv 0,qZs [],.slice none 0 0,.slice none 0 0,.bool false]) zeroValue58 rfl hS fun w1 b1 im1 hS1 => ?_)))
  refine nil (Q0 ?_)
  refine sq2 ?_
  obtain⟨y1,hx1,hm⟩:=Q4 hm
  refine rg (pv (Z9 rfl) (wl rfl (Z7 cf59 rfl (B0 (p0:=p0) (Q2:=Q2) (hS1.bun [0,1] [2] rfl) Q3 (h1.mono im1) hx1) rfl fun v1 T1 w2 im2 rv1 => ?_)))
  obtain⟨rfl,hS2,_⟩:=rv1
  have hS2:=hS2.unb
  refine pv (Z9 rfl) (?_)
  obtain⟨y2,hx2,hm⟩:=Q4 hm
  rcases y2 with e3 | y2
  · have hm:=Z3 hm
    refine wl rfl (G8 Q9l rfl (K0 (p0:=p0) (Q2:=Q2) (hS2.bun [0,1] [2] rfl) Q3 (h1.mono (iT im1 im2)) hx2) rfl fun v7 T7 w12 im12 rv7 => ?_)
    obtain⟨a9,c9,rfl,hS12,h9,_⟩:=rv7
    have hS12:=hS12.unb
    cases oI hm
    exact Z8 (P3 ⟨_,rfl,_,(iT im1 (iT im2 im12)),⟨_,_,rfl,hS12.sel [1,2] rfl,h9,qZt⟩⟩)
  have hm:=V1 hm
  refine wl rfl (Z7 Q9l rfl (K0 (p0:=p0) (Q2:=Q2) (hS2.bun [0,1] [2] rfl) Q3 (h1.mono (iT im1 im2)) hx2) rfl fun v2 T2 w3 im3 rv2 => ?_)
  obtain⟨a2,c2,rfl,hS3,h2,_⟩:=rv2
  have hS3:=hS3.unb
  refine pv (A8 (by kernel_rfl) rfl (u := .agg #[iv y1.Line,iv y1.Col,qZs y2.1.Word,qZs y2.1.Name,iv y2.1.Stars,qZs [],.slice none 0 0,.slice none 0 0,.bool false])) (wl rfl (alS (zs := [iv 0,iv 0,qZs [],qZs [],iv 0,qZs [],.slice none 0 0,.slice none 0 0,.bool false]) zeroValue58 rfl hS3 fun w4 b2 im4 hS4 => ?_))
  refine wl rfl (X6 (q:=0) hS4 ⟨rfl,rfl⟩ rfl rfl rfl sizeOf58 rfl rfl rfl fun w5 im5 hS5 => ?_)
  refine nil (Q0 ?_)
  refine sq2 (rg (pv (Z9 rfl) (?_)))
  obtain⟨y3,hx3,hm⟩:=Q4 hm
  rcases y3 with e2 | y3
  · have hm:=Z3 hm
    refine wl rfl (G8 Q4s rfl (V6 (p0:=y2.2) (Q2:=Q2) (hS5.bun [0,1,2] [3] rfl) Q3 (h2.mono (iT im4 im5)) hx3) rfl fun v6 T6 w11 im11 rv6 => ?_)
    obtain⟨a8,c8,rfl,hS11,h8,_⟩:=rv6
    have hS11:=hS11.unb
    cases oI hm
    exact Z8 (P3 ⟨_,rfl,_,(iT im1 (iT im2 (iT im3 (iT im4 (iT im5 im11))))),⟨_,_,rfl,hS11.sel [2,3] rfl,h8,qZt⟩⟩)
  have hm:=V1 hm
  refine wl rfl (Z7 Q4s rfl (V6 (p0:=y2.2) (Q2:=Q2) (hS5.bun [0,1,2] [3] rfl) Q3 (h2.mono (iT im4 im5)) hx3) rfl fun v3 T3 w6 im6 rv3 => ?_)
  obtain⟨a3,c3,rfl,hS6,h3,_⟩:=rv3
  have hS6:=hS6.unb
  refine pv (Z1 rfl underlying58 rfl sizeOf9 rfl) (wl rfl (X6 (q:=0) hS6 ⟨rfl,rfl⟩ rfl rfl rfl sizeOf9 rfl rfl rfl fun w7 im7 hS7 => ?_))
  refine nil (Q0 ?_)
  refine sq2 (rg (pv (Z9 rfl) (pv (Z5 rfl isAgg58 sizeOf58 rfl (hS7.cells0 (i:=0) ⟨rfl,rfl⟩ (o:=0) rfl) (cs := [iv y1.Line,iv y1.Col,qZs y2.1.Word,qZs y2.1.Name,iv y2.1.Stars,qZs y3.1,.slice none 0 0,.slice none 0 0,.bool false])) (?_))))
  obtain⟨y4,hx4,hm⟩:=Q4 hm
  rcases y4 with e1 | y4
  · have hm:=Z3 hm
    refine wl rfl (G8 cf66 rfl (C9 (p0:=y3.2) (Q2:=Q2) (p1:=(⟨y1,y2.1,y3.1,[],[],false⟩:J8)) (hS7.bun [1,2] [3] rfl) Q3 (h3.mono im7) V2 hx4) rfl fun v5 T5 w10 im10 rv5 => ?_)
    obtain⟨a7,c7,rfl,hS10,h7,_⟩:=rv5
    have hS10:=hS10.unb
    cases oI hm
    exact Z8 (P3 ⟨_,rfl,_,(iT im1 (iT im2 (iT im3 (iT im4 (iT im5 (iT im6 (iT im7 im10))))))),⟨_,_,rfl,hS10.sel [1,2] rfl,h7,qZt⟩⟩)
  have hm:=V1 hm
  refine wl rfl (Z7 cf66 rfl (C9 (p0:=y3.2) (Q2:=Q2) (p1:=(⟨y1,y2.1,y3.1,[],[],false⟩:J8)) (hS7.bun [1,2] [3] rfl) Q3 (h3.mono im7) V2 hx4) rfl fun v4 T4 w8 im8 rv4 => ?_)
  obtain⟨a4,c4,a5,c5,a6,c6,rfl,hS8,h4,h5,h6,_⟩:=rv4
  have hS8:=hS8.unb
  refine wl rfl (X6 (q:=0) hS8 ⟨rfl,rfl⟩ rfl rfl rfl sizeOf58 rfl rfl rfl fun w9 im9 hS9 => ?_)
  refine nil (Q0 ?_)
  cases oI hm
  exact rtn (A5 (vs := [.agg (N1 y4.1 a4 c4 a5 c5).toArray]) rfl ⟨rvS rfl isAgg58 sizeOf58 rfl (hS9.bx (i:=0) ⟨rfl,rfl⟩),qZt⟩ rfl ⟨_,rfl,_,(iT im1 (iT im2 (iT im3 (iT im4 (iT im5 (iT im6 (iT im7 (iT im8 im9)))))))),⟨_,_,_,_,_,_,rfl,hS9.sel [1,2] rfl,(h4.mono im9),(h5.mono im9),(h6.mono im9),qZt⟩⟩)

theorem D9 {p0:Q1} {X4 X2:Nat} {Q2:List Value→J7} {a1:OA} {c1:Nat} {p1:List UInt8} {r:Except (Q8×Q1) ((List Z6)×Q1)} (hS:Sep g T0 w0 [R,Q2 [sv a1 p0.l c1,iv p0.end_.Line,iv p0.end_.Col,iv p0.depth]]) (Q3:Ln X4 X2 Q2) (h1:SlR Y3 T0 w0 (sv a1 p0.l c1) p0.l) (hm:M6 p0 p1=some r) :
    Calls Tryz.prog 106 #[pt X4 X2,qZs p1] w0 (exR r (fun r=>E6 T0 w0 fun T w v => ∃(a9:OA) (n2:Nat) (c9:Nat) (a10:OA) (c10:Nat),v = .slice a9 n2 c9∧Sep g T w [R,Q2 [sv a10 r.2.l c10,iv r.2.end_.Line,iv r.2.end_.Col,iv r.2.depth],G3 X0 99 (.slice a9 n2 c9) r.1]∧SlR Y3 T w (sv a10 r.2.l c10) r.2.l∧True) (fun r=>Q2x T0 w0 fun T w v => ∃(a9:OA) (c9:Nat),v = .iface 48 (.agg (K6 r.1).toArray)∧Sep g T w [R,Q2 [sv a9 r.2.l c9,iv r.2.end_.Line,iv r.2.end_.Col,iv r.2.depth]]∧SlR Y3 T w (sv a9 r.2.l c9) r.2.l∧True)):=by
  refine enter (args := [pt X4 X2,qZs p1]) Tryz.func106 rfl Tryz.ntmps106 rfl fun J => ?_
  unfold M6 at hm
  refine sq2 (rg (pv (P8 rfl) (nil (Q0 ?_))))
  refine sq2 (sq2 ?_)
  obtain⟨y1,hx1,hm⟩:=Q4 hm
  refine rg (pv (Z9 rfl) (pv (P2 rfl) (wl rfl (Z7 Q1u rfl (Y8 (p0:=p0) (Q2:=Q2) (p1:=p1) (hS.bun [0] [1] rfl) Q3 h1 hx1) rfl fun v1 T1 w1 im1 rv1 => ?_))))
  obtain⟨a2,c2,rfl,hS1,h2,_⟩:=rv1
  have hS1:=hS1.unb
  refine nil (Q0 ?_)
  refine V3 rfl hm (fun hb1 hm => ?_) fun hb1 hm => ?_
  · refine sq2 (rg (pv (P8 rfl) (nil (Q0 ?_))))
    have hS2:=hS1.nilO X0 99
    cases oI hm
    exact rtn (Q6 (U2 rfl rfl ⟨_,rfl,_,im1,⟨_,_,_,_,_,rfl,hS2.sel [1,2,0] rfl,h2,qZt⟩⟩))
  refine skp (Q0 ?_)
  refine sq2 (rg (pv (Z9 rfl) (?_)))
  obtain⟨y2,hx2,hm⟩:=Q4 hm
  rcases y2 with e2 | y2
  · have hm:=Z3 hm
    refine wl rfl (G8 Q4r rfl (P0 (p0:=y1.2) (Q2:=Q2) (hS1.bun [0] [1] rfl) Q3 h2 hx2) rfl fun v5 T5 w8 im8 rv5 => ?_)
    obtain⟨a8,c8,rfl,hS9,h7,_⟩:=rv5
    have hS9:=hS9.unb
    cases oI hm
    exact Z8 (P3 ⟨_,rfl,_,(iT im1 im8),⟨_,_,rfl,hS9.sel [0,1] rfl,h7,qZt⟩⟩)
  have hm:=V1 hm
  refine wl rfl (Z7 Q4r rfl (P0 (p0:=y1.2) (Q2:=Q2) (hS1.bun [0] [1] rfl) Q3 h2 hx2) rfl fun v2 T2 w2 im2 rv2 => ?_)
  obtain⟨a3,c3,a4,c4,rfl,hS3,h3,h4,_⟩:=rv2
  have hS3:=hS3.unb
  refine wl rfl (alS (zs := [iv 0,iv 0,iv 0,qZs [],qZs [],.int .u32 0,qZs [],qZs [],iv 0,.slice none 0 0]) zeroValue99 rfl hS3 fun w3 b1 im3 hS4 => ?_)
  refine wl rfl (X6 (q:=0) hS4 ⟨rfl,rfl⟩ rfl rfl rfl sizeOf99 rfl rfl rfl fun w4 im4 hS5 => ?_)
  refine nil (Q0 ?_)
  refine sq2 (rg (pv (Z9 rfl) (pv (P2 rfl) (?_))))
  obtain⟨y3,hx3,hm⟩:=Q4 hm
  rcases y3 with e1 | y3
  · have hm:=Z3 hm
    refine wl rfl (G8 A3 rfl (Q9 (p0:=y2.2) (Q2:=Q2) (p1:=p1) (hS5.bun [0,1] [2] rfl) Q3 (h4.mono (iT im3 im4)) hx3) rfl fun v4 T4 w7 im7 rv4 => ?_)
    obtain⟨a7,c7,rfl,hS8,h6,_⟩:=rv4
    have hS8:=hS8.unb
    cases oI hm
    exact Z8 (P3 ⟨_,rfl,_,(iT im1 (iT im2 (iT im3 (iT im4 im7)))),⟨_,_,rfl,hS8.sel [1,2] rfl,h6,qZt⟩⟩)
  have hm:=V1 hm
  refine wl rfl (Z7 A3 rfl (Q9 (p0:=y2.2) (Q2:=Q2) (p1:=p1) (hS5.bun [0,1] [2] rfl) Q3 (h4.mono (iT im3 im4)) hx3) rfl fun v3 T3 w5 im5 rv3 => ?_)
  obtain⟨a5,c5,rfl,hS6,h5,_⟩:=rv3
  have hS6:=hS6.unb
  refine nil (Q0 ?_)
  refine sq2 (rg (pv (Z5 rfl isAgg99 sizeOf99 rfl (hS6.cells0 (i:=0) ⟨rfl,rfl⟩ (o:=0) rfl) (cs:=(X8 y2.1 a3 c3))) (wl rfl (bsS (r:=X0) (l:=([y2.1]:List Z6)) (css := [(X8 y2.1 a3 c3)]) hS6 underlying56 sizeOf99 zeroValue99 rfl rfl (by kernel_rfl) rfl ⟨(M2 (x:=y2.1) (h3.mono (iT im3 (iT im4 im5))):X0.rp _ _ _ _),qZt⟩ rfl rfl fun w6 a6 n1 c6 im6 hS7 => ?_))))
  refine pv (P8 rfl) (nil (Q0 ?_))
  cases oI hm
  exact rtn (U2 rfl rfl ⟨_,rfl,_,(iT im1 (iT im2 (iT im3 (iT im4 (iT im5 im6))))),⟨_,_,_,_,_,rfl,hS7.sel [2,3,0] rfl,(h5.mono im6),qZt⟩⟩)

theorem Q2e {p0:Q1} {X4 X2:Nat} {Q2:List Value→J7} {a1:OA} {c1:Nat} {p1:U5} {b_p1 o_p1:Nat} {Q7y:List Value→J7} {a2:OA} {c2:Nat} {a3:OA} {c3:Nat} {a4:OA} {c4:Nat} {a5:OA} {c5:Nat} {a6:OA} {c6:Nat} {a7:OA} {c7:Nat} {a8:OA} {c8:Nat} {r:Except (Q8×Q1×U5) (Q1×U5)} (hS:Sep g T0 w0 [R,Q2 [sv a1 p0.l c1,iv p0.end_.Line,iv p0.end_.Col,iv p0.depth],Q7y (B4 p1 a2 c2 a3 c3 a4 c4 a5 c5 a6 c6 a7 c7 a8 c8)]) (Q3:Ln X4 X2 Q2) (h1:SlR Y3 T0 w0 (sv a1 p0.l c1) p0.l) (Q0y:Ln b_p1 o_p1 Q7y) (h2:SlR X0 T0 w0 (sv a2 p1.A c2) p1.A) (h3:SlR X0 T0 w0 (sv a3 p1.B c3) p1.B) (h4:SlR X0 T0 w0 (sv a4 p1.C c4) p1.C) (h5:SlR G7 T0 w0 (sv a5 p1.Var c5) p1.Var) (h6:SlR E1 T0 w0 (sv a6 p1.Body c6) p1.Body) (h7:SlR E1 T0 w0 (sv a7 p1.Else c7) p1.Else) (h8:SlR C0 T0 w0 (sv a8 p1.Cases c8) p1.Cases) (hm:R4 p0 p1=some r) :
    Calls Tryz.prog 108 #[pt X4 X2,pt b_p1 o_p1] w0 (exR r (fun r=>E6 T0 w0 fun T w v => ∃(a25:OA) (c25:Nat) (a26:OA) (c26:Nat) (a27:OA) (c27:Nat) (a28:OA) (c28:Nat) (a29:OA) (c29:Nat) (a30:OA) (c30:Nat) (a31:OA) (c31:Nat) (a32:OA) (c32:Nat),v = .tuple #[]∧Sep g T w [R,Q2 [sv a25 r.1.l c25,iv r.1.end_.Line,iv r.1.end_.Col,iv r.1.depth],Q7y (B4 r.2 a26 c26 a27 c27 a28 c28 a29 c29 a30 c30 a31 c31 a32 c32)]∧SlR Y3 T w (sv a25 r.1.l c25) r.1.l∧SlR X0 T w (sv a26 r.2.A c26) r.2.A∧SlR X0 T w (sv a27 r.2.B c27) r.2.B∧SlR X0 T w (sv a28 r.2.C c28) r.2.C∧SlR G7 T w (sv a29 r.2.Var c29) r.2.Var∧SlR E1 T w (sv a30 r.2.Body c30) r.2.Body∧SlR E1 T w (sv a31 r.2.Else c31) r.2.Else∧SlR C0 T w (sv a32 r.2.Cases c32) r.2.Cases∧True) (fun r=>Q2x T0 w0 fun T w v => ∃(a25:OA) (c25:Nat) (a26:OA) (c26:Nat) (a27:OA) (c27:Nat) (a28:OA) (c28:Nat) (a29:OA) (c29:Nat) (a30:OA) (c30:Nat) (a31:OA) (c31:Nat) (a32:OA) (c32:Nat),v = .iface 48 (.agg (K6 r.1).toArray)∧Sep g T w [R,Q2 [sv a25 r.2.1.l c25,iv r.2.1.end_.Line,iv r.2.1.end_.Col,iv r.2.1.depth],Q7y (B4 r.2.2 a26 c26 a27 c27 a28 c28 a29 c29 a30 c30 a31 c31 a32 c32)]∧SlR Y3 T w (sv a25 r.2.1.l c25) r.2.1.l∧SlR X0 T w (sv a26 r.2.2.A c26) r.2.2.A∧SlR X0 T w (sv a27 r.2.2.B c27) r.2.2.B∧SlR X0 T w (sv a28 r.2.2.C c28) r.2.2.C∧SlR G7 T w (sv a29 r.2.2.Var c29) r.2.2.Var∧SlR E1 T w (sv a30 r.2.2.Body c30) r.2.2.Body∧SlR E1 T w (sv a31 r.2.2.Else c31) r.2.2.Else∧SlR C0 T w (sv a32 r.2.2.Cases c32) r.2.2.Cases∧True)):=by
  refine enter (args := [pt X4 X2,pt b_p1 o_p1]) Tryz.func108 rfl Tryz.ntmps108 rfl fun J => ?_
  unfold R4 at hm
  refine blk (sq2 ?_)
  obtain⟨y1,hx1,hm⟩:=Q4 hm
  refine rg (pv (Z9 rfl) (wl rfl (Z7 Q1u rfl (Y8 (p0:=p0) (Q2:=Q2) (p1 := [114,101,116,117,114,110]) (hS.bun [0,2] [1] rfl) Q3 h1 hx1) rfl fun v1 T1 w1 im1 rv1 => ?_)))
  obtain⟨a9,c9,rfl,hS1,h9,_⟩:=rv1
  have hS1:=hS1.unb
  refine pv (X5 rfl) (nil (Q0 ?_))
  refine V3 rfl hm (fun hb1 hm => ?_) fun hb1 hm => ?_
  · refine rg (pv (Z9 rfl) (pv (Z9 rfl) (pv (Z9 rfl) (?_))))
    obtain⟨y2,hx2,hm⟩:=Q4 hm
    rcases y2 with e1 | y2
    · have hm:=Z3 hm
      refine wl rfl (G8 Z0q rfl (D9 (p0:=y1.2) (Q2:=Q2) (p1 := [59]) (hS1.bun [0,1] [2] rfl) Q3 h9 hx2) rfl fun v3 T4 w5 im6 rv3 => ?_)
      obtain⟨a12,c12,rfl,hS6,h12,_⟩:=rv3
      have hS6:=hS6.unb
      cases oI hm
      exact G4 (P3 ⟨_,rfl,_,(iT im1 im6),⟨_,_,_,_,_,_,_,_,_,_,_,_,_,_,_,_,rfl,hS6.sel [0,2,1] rfl,h12,(h2.mono (iT im1 im6)),(h3.mono (iT im1 im6)),(h4.mono (iT im1 im6)),(h5.mono (iT im1 im6)),(h6.mono (iT im1 im6)),(h7.mono (iT im1 im6)),(h8.mono (iT im1 im6)),qZt⟩⟩)
    have hm:=V1 hm
    refine wl rfl (Z7 Z0q rfl (D9 (p0:=y1.2) (Q2:=Q2) (p1 := [59]) (hS1.bun [0,1] [2] rfl) Q3 h9 hx2) rfl fun v2 T2 w2 im2 rv2 => ?_)
    obtain⟨a10,n1,c10,a11,c11,rfl,hS2,h10,_⟩:=rv2
    have hS2:=hS2.unb
    refine pv (J1 rfl) (pv (Z1 rfl underlying68 rfl sizeOf3 rfl) (wl rfl (stB (q:=1) (j:=0) hS2 ⟨rfl,rfl⟩ Q0y rfl rfl rfl sizeOf3 rfl rfl rfl fun w3 im3 hS3 => ?_)))
    refine pv (J1 rfl) (pv (Z1 rfl underlying68 rfl sizeOf56 rfl) (wl rfl (stB (q:=1) (j:=3) hS3 ⟨rfl,rfl⟩ Q0y rfl rfl rfl sizeOf56 rfl rfl rfl fun w4 im4 hS4 => ?_)))
    obtain⟨T3,im5,hS5,h11⟩:=hS4.seal 3 ⟨rfl,rfl⟩
    have hsh:=h11.len
    subst hsh
    cases oI hm
    exact nil (U6 (S7 rfl ⟨_,rfl,_,(iT im1 (iT im2 (iT im3 (iT im4 im5)))),⟨_,_,_,_,_,_,_,_,_,_,_,_,_,_,_,_,rfl,hS5.sel [0,2,1] rfl,(h10.mono (iT im3 (iT im4 im5))),h11,(h3.mono (iT im1 (iT im2 (iT im3 (iT im4 im5))))),(h4.mono (iT im1 (iT im2 (iT im3 (iT im4 im5))))),(h5.mono (iT im1 (iT im2 (iT im3 (iT im4 im5))))),(h6.mono (iT im1 (iT im2 (iT im3 (iT im4 im5))))),(h7.mono (iT im1 (iT im2 (iT im3 (iT im4 im5))))),(h8.mono (iT im1 (iT im2 (iT im3 (iT im4 im5))))),qZt⟩⟩))
  refine sq2 ?_
  obtain⟨y3,hx3,hm⟩:=Q4 hm
  refine rg (pv (Z9 rfl) (wl rfl (Z7 Q1u rfl (Y8 (p0:=y1.2) (Q2:=Q2) (p1 := [98,114,101,97,107]) (hS1.bun [0,1] [2] rfl) Q3 h9 hx3) rfl fun v4 T5 w6 im7 rv4 => ?_)))
  obtain⟨a13,c13,rfl,hS7,h13,_⟩:=rv4
  have hS7:=hS7.unb
  refine pv (X5 rfl) (nil (Q0 ?_))
  refine V3 rfl hm (fun hb2 hm => ?_) fun hb2 hm => ?_
  · refine sq2 (rg (pv (Z9 rfl) (pv (J1 rfl) (pv (Z1 rfl underlying68 rfl sizeOf3 rfl) (wl rfl (stB (q:=1) (j:=0) hS7 ⟨rfl,rfl⟩ Q0y rfl rfl rfl sizeOf3 rfl rfl rfl fun w7 im8 hS8 => ?_))))))
    refine nil (Q0 ?_)
    refine rg (pv (Z9 rfl) (?_))
    obtain⟨y4,hx4,hm⟩:=Q4 hm
    rcases y4 with e2 | y4
    · have hm:=Z3 hm
      refine wl rfl (G8 A3 rfl (Q9 (p0:=y3.2) (Q2:=Q2) (p1 := [59]) (hS8.bun [0,1] [2] rfl) Q3 (h13.mono im8) hx4) rfl fun v6 T7 w9 im10 rv6 => ?_)
      obtain⟨a15,c15,rfl,hS10,h15,_⟩:=rv6
      have hS10:=hS10.unb
      cases oI hm
      exact G4 (P3 ⟨_,rfl,_,(iT im1 (iT im7 (iT im8 im10))),⟨_,_,_,_,_,_,_,_,_,_,_,_,_,_,_,_,rfl,hS10.sel [0,2,1] rfl,h15,(h2.mono (iT im1 (iT im7 (iT im8 im10)))),(h3.mono (iT im1 (iT im7 (iT im8 im10)))),(h4.mono (iT im1 (iT im7 (iT im8 im10)))),(h5.mono (iT im1 (iT im7 (iT im8 im10)))),(h6.mono (iT im1 (iT im7 (iT im8 im10)))),(h7.mono (iT im1 (iT im7 (iT im8 im10)))),(h8.mono (iT im1 (iT im7 (iT im8 im10)))),qZt⟩⟩)
    have hm:=V1 hm
    refine wl rfl (Z7 A3 rfl (Q9 (p0:=y3.2) (Q2:=Q2) (p1 := [59]) (hS8.bun [0,1] [2] rfl) Q3 (h13.mono im8) hx4) rfl fun v5 T6 w8 im9 rv5 => ?_)
    obtain⟨a14,c14,rfl,hS9,h14,_⟩:=rv5
    have hS9:=hS9.unb
    cases oI hm
    exact nil (U6 (S7 rfl ⟨_,rfl,_,(iT im1 (iT im7 (iT im8 im9))),⟨_,_,_,_,_,_,_,_,_,_,_,_,_,_,_,_,rfl,hS9.sel [0,2,1] rfl,h14,(h2.mono (iT im1 (iT im7 (iT im8 im9)))),(h3.mono (iT im1 (iT im7 (iT im8 im9)))),(h4.mono (iT im1 (iT im7 (iT im8 im9)))),(h5.mono (iT im1 (iT im7 (iT im8 im9)))),(h6.mono (iT im1 (iT im7 (iT im8 im9)))),(h7.mono (iT im1 (iT im7 (iT im8 im9)))),(h8.mono (iT im1 (iT im7 (iT im8 im9)))),qZt⟩⟩))
  refine sq2 ?_
  obtain⟨y5,hx5,hm⟩:=Q4 hm
  refine rg (pv (Z9 rfl) (wl rfl (Z7 Q1u rfl (Y8 (p0:=y3.2) (Q2:=Q2) (p1 := [99,111,110,116,105,110,117,101]) (hS7.bun [0,1] [2] rfl) Q3 h13 hx5) rfl fun v7 T8 w10 im11 rv7 => ?_)))
  obtain⟨a16,c16,rfl,hS11,h16,_⟩:=rv7
  have hS11:=hS11.unb
  refine pv (X5 rfl) (nil (Q0 ?_))
  refine V3 rfl hm (fun hb3 hm => ?_) fun hb3 hm => ?_
  · refine sq2 (rg (pv (Z9 rfl) (pv (J1 rfl) (pv (Z1 rfl underlying68 rfl sizeOf3 rfl) (wl rfl (stB (q:=1) (j:=0) hS11 ⟨rfl,rfl⟩ Q0y rfl rfl rfl sizeOf3 rfl rfl rfl fun w11 im12 hS12 => ?_))))))
    refine nil (Q0 ?_)
    refine rg (pv (Z9 rfl) (?_))
    obtain⟨y6,hx6,hm⟩:=Q4 hm
    rcases y6 with e3 | y6
    · have hm:=Z3 hm
      refine wl rfl (G8 A3 rfl (Q9 (p0:=y5.2) (Q2:=Q2) (p1 := [59]) (hS12.bun [0,1] [2] rfl) Q3 (h16.mono im12) hx6) rfl fun v9 T10 w13 im14 rv9 => ?_)
      obtain⟨a18,c18,rfl,hS14,h18,_⟩:=rv9
      have hS14:=hS14.unb
      cases oI hm
      exact G4 (P3 ⟨_,rfl,_,(iT im1 (iT im7 (iT im11 (iT im12 im14)))),⟨_,_,_,_,_,_,_,_,_,_,_,_,_,_,_,_,rfl,hS14.sel [0,2,1] rfl,h18,(h2.mono (iT im1 (iT im7 (iT im11 (iT im12 im14))))),(h3.mono (iT im1 (iT im7 (iT im11 (iT im12 im14))))),(h4.mono (iT im1 (iT im7 (iT im11 (iT im12 im14))))),(h5.mono (iT im1 (iT im7 (iT im11 (iT im12 im14))))),(h6.mono (iT im1 (iT im7 (iT im11 (iT im12 im14))))),(h7.mono (iT im1 (iT im7 (iT im11 (iT im12 im14))))),(h8.mono (iT im1 (iT im7 (iT im11 (iT im12 im14))))),qZt⟩⟩)
    have hm:=V1 hm
    refine wl rfl (Z7 A3 rfl (Q9 (p0:=y5.2) (Q2:=Q2) (p1 := [59]) (hS12.bun [0,1] [2] rfl) Q3 (h16.mono im12) hx6) rfl fun v8 T9 w12 im13 rv8 => ?_)
    obtain⟨a17,c17,rfl,hS13,h17,_⟩:=rv8
    have hS13:=hS13.unb
    cases oI hm
    exact nil (U6 (S7 rfl ⟨_,rfl,_,(iT im1 (iT im7 (iT im11 (iT im12 im13)))),⟨_,_,_,_,_,_,_,_,_,_,_,_,_,_,_,_,rfl,hS13.sel [0,2,1] rfl,h17,(h2.mono (iT im1 (iT im7 (iT im11 (iT im12 im13))))),(h3.mono (iT im1 (iT im7 (iT im11 (iT im12 im13))))),(h4.mono (iT im1 (iT im7 (iT im11 (iT im12 im13))))),(h5.mono (iT im1 (iT im7 (iT im11 (iT im12 im13))))),(h6.mono (iT im1 (iT im7 (iT im11 (iT im12 im13))))),(h7.mono (iT im1 (iT im7 (iT im11 (iT im12 im13))))),(h8.mono (iT im1 (iT im7 (iT im11 (iT im12 im13))))),qZt⟩⟩))
  refine sq2 (rg (pv (Z9 rfl) (pv (Z9 rfl) (pv (Z9 rfl) (?_)))))
  obtain⟨y7,hx7,hm⟩:=Q4 hm
  rcases y7 with e5 | y7
  · have hm:=Z3 hm
    refine wl rfl (G8 Q4r rfl (P0 (p0:=y5.2) (Q2:=Q2) (hS11.bun [0,1] [2] rfl) Q3 h16 hx7) rfl fun v13 T16 w20 im23 rv13 => ?_)
    obtain⟨a24,c24,rfl,hS23,h25,_⟩:=rv13
    have hS23:=hS23.unb
    cases oI hm
    exact Z8 (G4 (P3 ⟨_,rfl,_,(iT im1 (iT im7 (iT im11 im23))),⟨_,_,_,_,_,_,_,_,_,_,_,_,_,_,_,_,rfl,hS23.sel [0,2,1] rfl,h25,(h2.mono (iT im1 (iT im7 (iT im11 im23)))),(h3.mono (iT im1 (iT im7 (iT im11 im23)))),(h4.mono (iT im1 (iT im7 (iT im11 im23)))),(h5.mono (iT im1 (iT im7 (iT im11 im23)))),(h6.mono (iT im1 (iT im7 (iT im11 im23)))),(h7.mono (iT im1 (iT im7 (iT im11 im23)))),(h8.mono (iT im1 (iT im7 (iT im11 im23)))),qZt⟩⟩))
  have hm:=V1 hm
  refine wl rfl (Z7 Q4r rfl (P0 (p0:=y5.2) (Q2:=Q2) (hS11.bun [0,1] [2] rfl) Q3 h16 hx7) rfl fun v10 T11 w14 im15 rv10 => ?_)
  obtain⟨a19,c19,a20,c20,rfl,hS15,h19,h20,_⟩:=rv10
  have hS15:=hS15.unb
  refine wl rfl (bsS (r:=X0) (l:=([y7.1]:List Z6)) (css := [(X8 y7.1 a19 c19)]) hS15 underlying56 sizeOf99 zeroValue99 rfl rfl (by kernel_rfl) rfl ⟨(M2 (x:=y7.1) h19:X0.rp _ _ _ _),qZt⟩ rfl rfl fun w15 a21 n2 c21 im16 hS16 => ?_)
  refine pv (J1 rfl) (pv (Z1 rfl underlying68 rfl sizeOf3 rfl) (wl rfl (stB (q:=2) (j:=0) hS16 ⟨rfl,rfl⟩ Q0y rfl rfl rfl sizeOf3 rfl rfl rfl fun w16 im17 hS17 => ?_)))
  refine pv (J1 rfl) (pv (Z1 rfl underlying68 rfl sizeOf56 rfl) (wl rfl (stB (q:=2) (j:=3) hS17 ⟨rfl,rfl⟩ Q0y rfl rfl rfl sizeOf56 rfl rfl rfl fun w17 im18 hS18 => ?_)))
  refine nil (Q0 ?_)
  refine rg (pv (Z9 rfl) (?_))
  obtain⟨y8,hx8,hm⟩:=Q4 hm
  rcases y8 with e4 | y8
  · have hm:=Z3 hm
    refine wl rfl (G8 A3 rfl (Q9 (p0:=y7.2) (Q2:=Q2) (p1 := [59]) (hS18.bun [0,1,2] [3] rfl) Q3 (h20.mono (iT im16 (iT im17 im18))) hx8) rfl fun v12 T14 w19 im21 rv12 => ?_)
    obtain⟨a23,c23,rfl,hS21,h23,_⟩:=rv12
    have hS21:=hS21.unb
    obtain⟨T15,im22,hS22,h24⟩:=hS21.seal 0 ⟨rfl,rfl⟩
    have hsh:=h24.len
    subst hsh
    cases oI hm
    exact G4 (P3 ⟨_,rfl,_,(iT im1 (iT im7 (iT im11 (iT im15 (iT im16 (iT im17 (iT im18 (iT im21 im22)))))))),⟨_,_,_,_,_,_,_,_,_,_,_,_,_,_,_,_,rfl,hS22.sel [1,3,2] rfl,(h23.mono im22),h24,(h3.mono (iT im1 (iT im7 (iT im11 (iT im15 (iT im16 (iT im17 (iT im18 (iT im21 im22))))))))),(h4.mono (iT im1 (iT im7 (iT im11 (iT im15 (iT im16 (iT im17 (iT im18 (iT im21 im22))))))))),(h5.mono (iT im1 (iT im7 (iT im11 (iT im15 (iT im16 (iT im17 (iT im18 (iT im21 im22))))))))),(h6.mono (iT im1 (iT im7 (iT im11 (iT im15 (iT im16 (iT im17 (iT im18 (iT im21 im22))))))))),(h7.mono (iT im1 (iT im7 (iT im11 (iT im15 (iT im16 (iT im17 (iT im18 (iT im21 im22))))))))),(h8.mono (iT im1 (iT im7 (iT im11 (iT im15 (iT im16 (iT im17 (iT im18 (iT im21 im22))))))))),qZt⟩⟩)
  have hm:=V1 hm
  refine wl rfl (Z7 A3 rfl (Q9 (p0:=y7.2) (Q2:=Q2) (p1 := [59]) (hS18.bun [0,1,2] [3] rfl) Q3 (h20.mono (iT im16 (iT im17 im18))) hx8) rfl fun v11 T12 w18 im19 rv11 => ?_)
  obtain⟨a22,c22,rfl,hS19,h21,_⟩:=rv11
  have hS19:=hS19.unb
  obtain⟨T13,im20,hS20,h22⟩:=hS19.seal 0 ⟨rfl,rfl⟩
  have hsh:=h22.len
  subst hsh
  cases oI hm
  exact nil (U6 (S7 rfl ⟨_,rfl,_,(iT im1 (iT im7 (iT im11 (iT im15 (iT im16 (iT im17 (iT im18 (iT im19 im20)))))))),⟨_,_,_,_,_,_,_,_,_,_,_,_,_,_,_,_,rfl,hS20.sel [1,3,2] rfl,(h21.mono im20),h22,(h3.mono (iT im1 (iT im7 (iT im11 (iT im15 (iT im16 (iT im17 (iT im18 (iT im19 im20))))))))),(h4.mono (iT im1 (iT im7 (iT im11 (iT im15 (iT im16 (iT im17 (iT im18 (iT im19 im20))))))))),(h5.mono (iT im1 (iT im7 (iT im11 (iT im15 (iT im16 (iT im17 (iT im18 (iT im19 im20))))))))),(h6.mono (iT im1 (iT im7 (iT im11 (iT im15 (iT im16 (iT im17 (iT im18 (iT im19 im20))))))))),(h7.mono (iT im1 (iT im7 (iT im11 (iT im15 (iT im16 (iT im17 (iT im18 (iT im19 im20))))))))),(h8.mono (iT im1 (iT im7 (iT im11 (iT im15 (iT im16 (iT im17 (iT im18 (iT im19 im20))))))))),qZt⟩⟩))
end Go.Proofs.YtbolaohekbmndaaGreatDoor
