/- That Go functions compute their models. Printed by gen2.py. -/
import Derived.Test.YtbolaohekbmndaaGreatDoorWd
set_option linter.unusedVariables false
namespace Go.Proofs.YtbolaohekbmndaaGreatDoor
open _root_.Go.Proofs.Tryz
set_option maxRecDepth 100000
set_option maxHeartbeats 8000000
attribute [local irreducible] wpList wpQuiet Code.wp
variable {g:World} {T0:Nat→Prop} {w0:World} {R:J7}

theorem O3 {p0:List J8} {a1:OA} {c1:Nat} {p1:List J8} {a2:OA} {c2:Nat} {p2:Bool} {r:Bool} (hS:Sep g T0 w0 [R]) (h1:SlR G7 T0 w0 (sv a1 p0 c1) p0) (h2:SlR G7 T0 w0 (sv a2 p1 c2) p1) (hm:O4 p0 p1 p2=some r) :
    Calls Tryz.prog 20 #[sv a1 p0 c1,sv a2 p1 c2,.bool p2] w0 (E6 T0 w0 fun T w v=>v = .bool r∧Sep g T w [R]∧True):=by
  refine enter (args := [sv a1 p0 c1,sv a2 p1 c2,.bool p2]) Tryz.func20 rfl Tryz.ntmps20 rfl fun J => ?_
  unfold O4 at hm
  refine sq2 (rg (pv (X5 rfl) (nil (Q0 ?_))))
  refine sq2 (sq2 (rg (pv (N2 rfl) (pv (L3 rfl underlying24) (pv (N2 rfl) (pv (L3 rfl underlying24) (pv (X7 rfl rfl rfl) (nil (Q0 ?_)))))))))
  refine V3 rfl hm (fun hb1 hm => ?_) fun hb1 hm => ?_
  · refine sq2 (rg (pv (X5 rfl) (nil (Q0 ?_))))
    cases oI hm
    exact rtn (Q6 (U2 rfl rfl ⟨_,rfl,_,Im.refl,⟨rfl,hS.sel [0] rfl,qZt⟩⟩))
  refine skp (Q0 ?_)
  refine sq2 (sq2 (rg (pv (J0 rfl) (nil (Q0 ?_)))))
  obtain⟨o1,ho1,hq1⟩:=Q4 hm
  obtain⟨bd1,hbd1,ho1⟩:=K3 ho1
  refine blk (wp_loop_ghost (fun m a w1 => ∃(J:JV) (T1:TP) (x1:Int),a=env (nf 96) J [(0,sv a1 p0 c1),(1,sv a2 p1 c2),(2,.bool p2),(7,iv x1)]∧Im T0 w0 T1 w1∧Sep g T1 w1 [R]∧V7 bd1 m x1=some o1) NN ⟨_,_,0,Q7 ⟨rfl,rfl,rfl,rfl,qZt⟩,Im.refl,hS.sel [0] rfl,ho1⟩ ?_)
  rintro m _ w1 ⟨J,T1,x1,rfl,im1,hS1,ho1⟩
  obtain⟨m1,z1,rfl,hm,hn1⟩:=U4 ho1
  rw [hbd1] at hm
  refine sq2 (sq2 (rg (pv (U1 rfl) (pv (N2 rfl) (pv (L3 rfl underlying24) (pv (X7 rfl rfl rfl) (nil (Q0 ?_))))))))
  refine V3 rfl hm (fun hb2 hm => ?_) fun hb2 hm => ?_
  · refine skp (Q0 ?_)
    refine sq2 (blk ?_)
    obtain⟨kk1,hkk1,hm⟩:=F6 hm
    refine cut (fun a w2 => ∃(J:JV) (T2:TP) (b1:Nat) (x2:J8) (a3:OA) (c3:Nat) (a4:OA) (c4:Nat) (b2:Nat) (x3:J8) (a5:OA) (c5:Nat) (a6:OA) (c6:Nat),a=env (nf 96) J [(0,sv a1 p0 c1),(1,sv a2 p1 c2),(2,.bool p2),(7,iv x1),(8,pt b1 0),(9,pt b2 0)]∧Im T1 w1 T2 w2∧Sep g T2 w2 [R,J6 b1 (N1 x2 a3 c3 a4 c4),J6 b2 (N1 x3 a5 c5 a6 c6)]∧SlR (Q0m .u32) T2 w2 (sv a3 x2.Dims c3) x2.Dims∧SlR X0 T2 w2 (sv a4 x2.Init c4) x2.Init∧SlR (Q0m .u32) T2 w2 (sv a5 x3.Dims c5) x3.Dims∧SlR X0 T2 w2 (sv a6 x3.Init c6) x3.Init∧kk1 x2 x3=some z1) ?_ ?_
    · refine rt [0,0,0,1,0,0,0,1,2,2,2,2] [0,1,2,3,4,5,6,7,8,9,10,11] mix (by kernel_rfl) hS1.lt fun w3 i1 => ?_
      have im3:=i1.imm
      have hS2:=hS1.keep i1 (fun _ h=>h)
      obtain⟨u1,hx1,hm⟩:=Q4 hm
      obtain⟨b3,of1,cs1,k1,cp1,hv1,hp1,hl1,he1,hr1,hc1,hT1⟩:=(h1.mono (iT im1 im3)).ixT hx1 rfl
      obtain⟨a7,c7,a8,c8,rfl,h7,h8⟩:=Q1e hr1
      obtain⟨u2,hx2,hm⟩:=Q4 hm
      obtain⟨b4,of2,cs2,k2,cp2,hv2,hp2,hl2,he2,hr2,hc2,hT2⟩:=(h2.mono (iT im1 im3)).ixT hx2 rfl
      obtain⟨a9,c9,a10,c10,rfl,h9,h10⟩:=Q1e hr2
      refine t0 rfl qZt (fun _=>N2 rfl) rfl (t0 rfl qZt (fun _=>U1 rfl) rfl (t0 rfl qZt (fun _=>B2 hv1 rfl underlying24 sizeOf58 hp1 hl1 he1) rfl (t1 rfl qZt (Z5 rfl isAgg58 sizeOf58 rfl hc1 (cs:=(N1 u1 a7 c7 a8 c8))) rfl (t0 rfl qZt (fun _=>N2 rfl) rfl (t0 rfl qZt (fun _=>U1 rfl) rfl (t0 rfl qZt (fun _=>B2 hv2 rfl underlying24 sizeOf58 hp2 hl2 he2) rfl (t1 rfl qZt (Z5 rfl isAgg58 sizeOf58 rfl hc2 (cs:=(N1 u2 a9 c9 a10 c10))) rfl (tw [8,9] rfl (F5 rfl rfl qZt) rfl (by kernel_rfl) (by kernel_rfl) ⟨br [9,10,11] [(7,.agg (N1 u2 a9 c9 a10 c10).toArray),(3,.agg (N1 u1 a7 c7 a8 c8).toArray)] rfl (by kernel_rfl) (by kernel_rfl) qZt (by kernel_rfl) (alS (zs := [iv 0,iv 0,qZs [],qZs [],iv 0,qZs [],.slice none 0 0,.slice none 0 0,.bool false]) zeroValue58 rfl hS2 fun w4 b5 im4 hS3 => ?_),br [8,10,11] [(7,.agg (N1 u2 a9 c9 a10 c10).toArray),(3,.agg (N1 u1 a7 c7 a8 c8).toArray)] rfl (by kernel_rfl) (by kernel_rfl) qZt (by kernel_rfl) (alS (zs := [iv 0,iv 0,qZs [],qZs [],iv 0,qZs [],.slice none 0 0,.slice none 0 0,.bool false]) zeroValue58 rfl hS2 fun w4 b5 im4 hS3 => ?_),qZt⟩))))))))
      · refine⟨st1 rfl (Z5 rfl isAgg58 sizeOf58 rfl (hc2.same (im4 b4 hT2).2) (cs:=(N1 u2 a9 c9 a10 c10))) (st1 rfl (Z5 rfl isAgg58 sizeOf58 rfl (hc1.same (im4 b3 hT1).2) (cs:=(N1 u1 a7 c7 a8 c8))) (st0)),?_⟩
        refine tw [9] rfl (F5 rfl rfl qZt) rfl (by kernel_rfl) (by kernel_rfl) ⟨br [10,11] [(7,.agg (N1 u2 a9 c9 a10 c10).toArray),(3,.agg (N1 u1 a7 c7 a8 c8).toArray)] rfl (by kernel_rfl) (by kernel_rfl) qZt (by kernel_rfl) (alS (zs := [iv 0,iv 0,qZs [],qZs [],iv 0,qZs [],.slice none 0 0,.slice none 0 0,.bool false]) zeroValue58 rfl hS3 fun w5 b6 im5 hS4 => ?_),qZt⟩
        refine⟨st1 rfl (Z5 rfl isAgg58 sizeOf58 rfl (hc2.same ((iT im4 im5) b4 hT2).2) (cs:=(N1 u2 a9 c9 a10 c10))) (st1 rfl (Z5 rfl isAgg58 sizeOf58 rfl (hc1.same ((iT im4 im5) b3 hT1).2) (cs:=(N1 u1 a7 c7 a8 c8))) (st0)),?_⟩
        refine tw [10] rfl (F5 rfl rfl qZt) rfl (by kernel_rfl) (by kernel_rfl) ⟨br [11] [(7,.agg (N1 u2 a9 c9 a10 c10).toArray)] rfl (by kernel_rfl) (by kernel_rfl) qZt (by kernel_rfl) (X6 (q:=1) hS4 ⟨rfl,rfl⟩ rfl rfl rfl sizeOf58 rfl rfl rfl fun w6 im6 hS5 => ?_),qZt⟩
        refine⟨st1 rfl (Z5 rfl isAgg58 sizeOf58 rfl (hc2.same ((iT im4 (iT im5 im6)) b4 hT2).2) (cs:=(N1 u2 a9 c9 a10 c10))) (st0),?_⟩
        refine tw [11] rfl (F5 rfl rfl qZt) rfl (by kernel_rfl) (by kernel_rfl) ⟨br [] [] rfl (by kernel_rfl) (by kernel_rfl) qZt (by kernel_rfl) (X6 (q:=0) hS5 ⟨rfl,rfl⟩ rfl rfl rfl sizeOf58 rfl rfl rfl fun w7 im7 hS6 => ?_),qZt⟩
        refine⟨st0,?_⟩
        exact te (Q0 ⟨_,_,_,u1,_,_,_,_,_,u2,_,_,_,_,Q7 ⟨rfl,rfl,rfl,rfl,rfl,rfl,qZt⟩,(iT im3 (iT im4 (iT im5 (iT im6 im7)))),hS6.sel [2,1,0] rfl,(h7.mono (iT im4 (iT im5 (iT im6 im7)))),(h8.mono (iT im4 (iT im5 (iT im6 im7)))),(h9.mono (iT im4 (iT im5 (iT im6 im7)))),(h10.mono (iT im4 (iT im5 (iT im6 im7)))),hm⟩)
      refine⟨st1 rfl (Z5 rfl isAgg58 sizeOf58 rfl (hc2.same (im4 b4 hT2).2) (cs:=(N1 u2 a9 c9 a10 c10))) (st1 rfl (Z5 rfl isAgg58 sizeOf58 rfl (hc1.same (im4 b3 hT1).2) (cs:=(N1 u1 a7 c7 a8 c8))) (st0)),?_⟩
      refine tw [8] rfl (F5 rfl rfl qZt) rfl (by kernel_rfl) (by kernel_rfl) ⟨br [10,11] [(7,.agg (N1 u2 a9 c9 a10 c10).toArray),(3,.agg (N1 u1 a7 c7 a8 c8).toArray)] rfl (by kernel_rfl) (by kernel_rfl) qZt (by kernel_rfl) (alS (zs := [iv 0,iv 0,qZs [],qZs [],iv 0,qZs [],.slice none 0 0,.slice none 0 0,.bool false]) zeroValue58 rfl hS3 fun w5 b6 im5 hS4 => ?_),qZt⟩
      refine⟨st1 rfl (Z5 rfl isAgg58 sizeOf58 rfl (hc2.same ((iT im4 im5) b4 hT2).2) (cs:=(N1 u2 a9 c9 a10 c10))) (st1 rfl (Z5 rfl isAgg58 sizeOf58 rfl (hc1.same ((iT im4 im5) b3 hT1).2) (cs:=(N1 u1 a7 c7 a8 c8))) (st0)),?_⟩
      refine tw [10] rfl (F5 rfl rfl qZt) rfl (by kernel_rfl) (by kernel_rfl) ⟨br [11] [(7,.agg (N1 u2 a9 c9 a10 c10).toArray)] rfl (by kernel_rfl) (by kernel_rfl) qZt (by kernel_rfl) (X6 (q:=0) hS4 ⟨rfl,rfl⟩ rfl rfl rfl sizeOf58 rfl rfl rfl fun w6 im6 hS5 => ?_),qZt⟩
      refine⟨st1 rfl (Z5 rfl isAgg58 sizeOf58 rfl (hc2.same ((iT im4 (iT im5 im6)) b4 hT2).2) (cs:=(N1 u2 a9 c9 a10 c10))) (st0),?_⟩
      refine tw [11] rfl (F5 rfl rfl qZt) rfl (by kernel_rfl) (by kernel_rfl) ⟨br [] [] rfl (by kernel_rfl) (by kernel_rfl) qZt (by kernel_rfl) (X6 (q:=1) hS5 ⟨rfl,rfl⟩ rfl rfl rfl sizeOf58 rfl rfl rfl fun w7 im7 hS6 => ?_),qZt⟩
      refine⟨st0,?_⟩
      exact te (Q0 ⟨_,_,_,u1,_,_,_,_,_,u2,_,_,_,_,Q7 ⟨rfl,rfl,rfl,rfl,rfl,rfl,qZt⟩,(iT im3 (iT im4 (iT im5 (iT im6 im7)))),hS6.sel [2,0,1] rfl,(h7.mono (iT im4 (iT im5 (iT im6 im7)))),(h8.mono (iT im4 (iT im5 (iT im6 im7)))),(h9.mono (iT im4 (iT im5 (iT im6 im7)))),(h10.mono (iT im4 (iT im5 (iT im6 im7)))),hm⟩)
    rintro _ w2 ⟨J,T2,b1,x2,a3,c3,a4,c4,b2,x3,a5,c5,a6,c6,rfl,im2,hS7,h3,h4,h5,h6,hm⟩
    rw [hkk1] at hm
    refine sq2 (sq2 (rg (pv (Y7 rfl) (pv (L7 rfl) (pv (Y7 rfl) (?_))))))
    rcases Bool.eq_false_or_eq_true (!p2) with hb3 | hb3
    · have hm:=V8 hb3 hm
      refine gT (d0:=32) rfl rfl hb3 (pv (Z1 rfl underlying58 rfl sizeOf29 rfl) (gT (d0:=32) rfl rfl hb3 (pv (Z5 rfl isAgg29 sizeOf29 rfl (hS7.cells0 (i:=1) ⟨rfl,rfl⟩ (o:=0) rfl) (cs := [iv x2.Pos.Line,iv x2.Pos.Col])) (gT (d0:=32) rfl rfl hb3 (pv (Z1 rfl underlying58 rfl sizeOf29 rfl) (gT (d0:=32) rfl rfl hb3 (pv (Z5 rfl isAgg29 sizeOf29 rfl (hS7.cells0 (i:=2) ⟨rfl,rfl⟩ (o:=0) rfl) (cs := [iv x3.Pos.Line,iv x3.Pos.Col])) (gT (d0:=32) rfl rfl hb3 (pv (Q2q rfl rfl (Z1s x2.Pos.Line x2.Pos.Col x3.Pos.Line x3.Pos.Col)) (pv (Y1 rfl hb3 rfl) (pv (Y7 rfl) (?_))))))))))))
      rcases Bool.eq_false_or_eq_true (!((x2.Pos.Line == x3.Pos.Line)&&(x2.Pos.Col == x3.Pos.Col))) with hb4 | hb4
      · have hm:=V8 hb4 hm
        refine gF (d0:=39) rfl rfl (by rw [hb4]; rfl) (gF (d0:=39) rfl rfl (by rw [hb4]; rfl) (gF (d0:=39) rfl rfl (by rw [hb4]; rfl) (gF (d0:=39) rfl rfl (by rw [hb4]; rfl) (gF (d0:=39) rfl rfl (by rw [hb4]; rfl) (pv (Y1 rfl hb4 rfl) (pv (Y7 rfl) (gF (d0:=46) rfl rfl rfl (gF (d0:=46) rfl rfl rfl (gF (d0:=46) rfl rfl rfl (gF (d0:=46) rfl rfl rfl (gF (d0:=46) rfl rfl rfl (pv (Y1 rfl rfl rfl) (pv (Y7 rfl) (gF (d0:=53) rfl rfl rfl (gF (d0:=53) rfl rfl rfl (gF (d0:=53) rfl rfl rfl (gF (d0:=53) rfl rfl rfl (gF (d0:=53) rfl rfl rfl (pv (Y1 rfl rfl rfl) (pv (Y7 rfl) (gF (d0:=60) rfl rfl rfl (gF (d0:=60) rfl rfl rfl (gF (d0:=60) rfl rfl rfl (gF (d0:=60) rfl rfl rfl (gF (d0:=60) rfl rfl rfl (gF (d0:=60) rfl rfl rfl (gF (d0:=60) rfl rfl rfl (pv (Y1 rfl rfl rfl) (pv (Y7 rfl) (gF (d0:=69) rfl rfl rfl (gF (d0:=69) rfl rfl rfl (gF (d0:=69) rfl rfl rfl (gF (d0:=69) rfl rfl rfl (gF (d0:=69) rfl rfl rfl (gF (d0:=69) rfl rfl rfl (gF (d0:=69) rfl rfl rfl (pv (Y1 rfl rfl rfl) (nil (Y9 [(0,sv a1 p0 c1),(1,sv a2 p1 c2),(2,.bool p2),(7,iv x1),(8,pt b1 0),(9,pt b2 0),(77,.bool true)] ⟨rfl,rfl,rfl,rfl,rfl,rfl,rfl,qZt⟩ fun J => ?_)))))))))))))))))))))))))))))))))))))))
        refine cnd (b:=true) rfl (fun _ => ?_) (fun h=>nomatch h)
        refine sq2 (rg (pv (X5 rfl) (nil (Q0 ?_))))
        cases oI hm
        have hn1:_=Lp.ret _:=hn1
        subst hn1
        have hm:=X1 hq1
        cases oI hm
        exact rtn (Q6 (Y5 (Q6 (Q6 (Y5 (Q6 (U2 rfl rfl ⟨_,rfl,_,(iT im1 im2),⟨rfl,hS7.sel [0] rfl,qZt⟩⟩)))))))
      have hm:=X3 hb4 hm
      refine gT (d0:=39) rfl rfl hb4 (pv (Z1 rfl underlying58 rfl sizeOf54 rfl) (gT (d0:=39) rfl rfl hb4 (pv (Z5 rfl isAgg54 sizeOf54 rfl (hS7.cells0 (i:=1) ⟨rfl,rfl⟩ (o:=2) rfl) (cs:=(U3 x2.Type_))) (gT (d0:=39) rfl rfl hb4 (pv (Z1 rfl underlying58 rfl sizeOf54 rfl) (gT (d0:=39) rfl rfl hb4 (pv (Z5 rfl isAgg54 sizeOf54 rfl (hS7.cells0 (i:=2) ⟨rfl,rfl⟩ (o:=2) rfl) (cs:=(U3 x3.Type_))) (gT (d0:=39) rfl rfl hb4 (pv (Q2q rfl rfl (Z2y x2.Type_.Word x2.Type_.Name x2.Type_.Stars x3.Type_.Word x3.Type_.Name x3.Type_.Stars)) (pv (X9 rfl hb4 rfl) (pv (Y7 rfl) (?_))))))))))))
      rcases Bool.eq_false_or_eq_true (!((decide (x2.Type_.Word=x3.Type_.Word))&&(decide (x2.Type_.Name=x3.Type_.Name))&&(x2.Type_.Stars == x3.Type_.Stars))) with hb5 | hb5
      · have hm:=V8 hb5 hm
        refine gF (d0:=46) rfl rfl (by rw [hb5]; rfl) (gF (d0:=46) rfl rfl (by rw [hb5]; rfl) (gF (d0:=46) rfl rfl (by rw [hb5]; rfl) (gF (d0:=46) rfl rfl (by rw [hb5]; rfl) (gF (d0:=46) rfl rfl (by rw [hb5]; rfl) (pv (Y1 rfl hb5 rfl) (pv (Y7 rfl) (gF (d0:=53) rfl rfl rfl (gF (d0:=53) rfl rfl rfl (gF (d0:=53) rfl rfl rfl (gF (d0:=53) rfl rfl rfl (gF (d0:=53) rfl rfl rfl (pv (Y1 rfl rfl rfl) (pv (Y7 rfl) (gF (d0:=60) rfl rfl rfl (gF (d0:=60) rfl rfl rfl (gF (d0:=60) rfl rfl rfl (gF (d0:=60) rfl rfl rfl (gF (d0:=60) rfl rfl rfl (gF (d0:=60) rfl rfl rfl (gF (d0:=60) rfl rfl rfl (pv (Y1 rfl rfl rfl) (pv (Y7 rfl) (gF (d0:=69) rfl rfl rfl (gF (d0:=69) rfl rfl rfl (gF (d0:=69) rfl rfl rfl (gF (d0:=69) rfl rfl rfl (gF (d0:=69) rfl rfl rfl (gF (d0:=69) rfl rfl rfl (gF (d0:=69) rfl rfl rfl (pv (Y1 rfl rfl rfl) (nil (Y9 [(0,sv a1 p0 c1),(1,sv a2 p1 c2),(2,.bool p2),(7,iv x1),(8,pt b1 0),(9,pt b2 0),(77,.bool true)] ⟨rfl,rfl,rfl,rfl,rfl,rfl,rfl,qZt⟩ fun J => ?_))))))))))))))))))))))))))))))))
        refine cnd (b:=true) rfl (fun _ => ?_) (fun h=>nomatch h)
        refine sq2 (rg (pv (X5 rfl) (nil (Q0 ?_))))
        cases oI hm
        have hn1:_=Lp.ret _:=hn1
        subst hn1
        have hm:=X1 hq1
        cases oI hm
        exact rtn (Q6 (Y5 (Q6 (Q6 (Y5 (Q6 (U2 rfl rfl ⟨_,rfl,_,(iT im1 im2),⟨rfl,hS7.sel [0] rfl,qZt⟩⟩)))))))
      have hm:=X3 hb5 hm
      refine gT (d0:=46) rfl rfl hb5 (pv (Z1 rfl underlying58 rfl sizeOf9 rfl) (gT (d0:=46) rfl rfl hb5 (pv (Z4 rfl isAgg9 (hS7.cell0 (i:=1) ⟨rfl,rfl⟩ (j:=5) rfl)) (gT (d0:=46) rfl rfl hb5 (pv (Z1 rfl underlying58 rfl sizeOf9 rfl) (gT (d0:=46) rfl rfl hb5 (pv (Z4 rfl isAgg9 (hS7.cell0 (i:=2) ⟨rfl,rfl⟩ (j:=5) rfl)) (gT (d0:=46) rfl rfl hb5 (pv (Q8b rfl rfl) (pv (X9 rfl hb5 rfl) (pv (Y7 rfl) (?_))))))))))))
      rcases Bool.eq_false_or_eq_true (!(decide (x2.Name=x3.Name))) with hb6 | hb6
      · have hm:=V8 hb6 hm
        refine gF (d0:=53) rfl rfl (by rw [hb6]; rfl) (gF (d0:=53) rfl rfl (by rw [hb6]; rfl) (gF (d0:=53) rfl rfl (by rw [hb6]; rfl) (gF (d0:=53) rfl rfl (by rw [hb6]; rfl) (gF (d0:=53) rfl rfl (by rw [hb6]; rfl) (pv (Y1 rfl hb6 rfl) (pv (Y7 rfl) (gF (d0:=60) rfl rfl rfl (gF (d0:=60) rfl rfl rfl (gF (d0:=60) rfl rfl rfl (gF (d0:=60) rfl rfl rfl (gF (d0:=60) rfl rfl rfl (gF (d0:=60) rfl rfl rfl (gF (d0:=60) rfl rfl rfl (pv (Y1 rfl rfl rfl) (pv (Y7 rfl) (gF (d0:=69) rfl rfl rfl (gF (d0:=69) rfl rfl rfl (gF (d0:=69) rfl rfl rfl (gF (d0:=69) rfl rfl rfl (gF (d0:=69) rfl rfl rfl (gF (d0:=69) rfl rfl rfl (gF (d0:=69) rfl rfl rfl (pv (Y1 rfl rfl rfl) (nil (Y9 [(0,sv a1 p0 c1),(1,sv a2 p1 c2),(2,.bool p2),(7,iv x1),(8,pt b1 0),(9,pt b2 0),(77,.bool true)] ⟨rfl,rfl,rfl,rfl,rfl,rfl,rfl,qZt⟩ fun J => ?_)))))))))))))))))))))))))
        refine cnd (b:=true) rfl (fun _ => ?_) (fun h=>nomatch h)
        refine sq2 (rg (pv (X5 rfl) (nil (Q0 ?_))))
        cases oI hm
        have hn1:_=Lp.ret _:=hn1
        subst hn1
        have hm:=X1 hq1
        cases oI hm
        exact rtn (Q6 (Y5 (Q6 (Q6 (Y5 (Q6 (U2 rfl rfl ⟨_,rfl,_,(iT im1 im2),⟨rfl,hS7.sel [0] rfl,qZt⟩⟩)))))))
      have hm:=X3 hb6 hm
      refine gT (d0:=53) rfl rfl hb6 (pv (Z1 rfl underlying58 rfl sizeOf4 rfl) (gT (d0:=53) rfl rfl hb6 (pv (Z4 rfl isAgg4 (hS7.cell0 (i:=1) ⟨rfl,rfl⟩ (j:=8) rfl)) (gT (d0:=53) rfl rfl hb6 (pv (Z1 rfl underlying58 rfl sizeOf4 rfl) (gT (d0:=53) rfl rfl hb6 (pv (Z4 rfl isAgg4 (hS7.cell0 (i:=2) ⟨rfl,rfl⟩ (j:=8) rfl)) (gT (d0:=53) rfl rfl hb6 (pv (r_bn rfl rfl underlying4) (pv (X9 rfl hb6 rfl) (pv (Y7 rfl) (?_))))))))))))
      rcases Bool.eq_false_or_eq_true (!(x2.Brace == x3.Brace)) with hb7 | hb7
      · have hm:=V8 hb7 hm
        refine gF (d0:=60) rfl rfl (by rw [hb7]; rfl) (gF (d0:=60) rfl rfl (by rw [hb7]; rfl) (gF (d0:=60) rfl rfl (by rw [hb7]; rfl) (gF (d0:=60) rfl rfl (by rw [hb7]; rfl) (gF (d0:=60) rfl rfl (by rw [hb7]; rfl) (gF (d0:=60) rfl rfl (by rw [hb7]; rfl) (gF (d0:=60) rfl rfl (by rw [hb7]; rfl) (pv (Y1 rfl hb7 rfl) (pv (Y7 rfl) (gF (d0:=69) rfl rfl rfl (gF (d0:=69) rfl rfl rfl (gF (d0:=69) rfl rfl rfl (gF (d0:=69) rfl rfl rfl (gF (d0:=69) rfl rfl rfl (gF (d0:=69) rfl rfl rfl (gF (d0:=69) rfl rfl rfl (pv (Y1 rfl rfl rfl) (nil (Y9 [(0,sv a1 p0 c1),(1,sv a2 p1 c2),(2,.bool p2),(7,iv x1),(8,pt b1 0),(9,pt b2 0),(77,.bool true)] ⟨rfl,rfl,rfl,rfl,rfl,rfl,rfl,qZt⟩ fun J => ?_))))))))))))))))))
        refine cnd (b:=true) rfl (fun _ => ?_) (fun h=>nomatch h)
        refine sq2 (rg (pv (X5 rfl) (nil (Q0 ?_))))
        cases oI hm
        have hn1:_=Lp.ret _:=hn1
        subst hn1
        have hm:=X1 hq1
        cases oI hm
        exact rtn (Q6 (Y5 (Q6 (Q6 (Y5 (Q6 (U2 rfl rfl ⟨_,rfl,_,(iT im1 im2),⟨rfl,hS7.sel [0] rfl,qZt⟩⟩)))))))
      have hm:=X3 hb7 hm
      refine gT (d0:=60) rfl rfl hb7 (pv (Z1 rfl underlying58 rfl sizeOf55 rfl) (gT (d0:=60) rfl rfl hb7 (pv (Z4 rfl isAgg55 (hS7.cell0 (i:=1) ⟨rfl,rfl⟩ (j:=6) rfl)) (gT (d0:=60) rfl rfl hb7 (pv (L3 rfl underlying55) (gT (d0:=60) rfl rfl hb7 (pv (Z1 rfl underlying58 rfl sizeOf55 rfl) (gT (d0:=60) rfl rfl hb7 (pv (Z4 rfl isAgg55 (hS7.cell0 (i:=2) ⟨rfl,rfl⟩ (j:=6) rfl)) (gT (d0:=60) rfl rfl hb7 (pv (L3 rfl underlying55) (gT (d0:=60) rfl rfl hb7 (pv (X7 rfl rfl rfl) (pv (X9 rfl hb7 rfl) (pv (Y7 rfl) (?_))))))))))))))))
      rcases Bool.eq_false_or_eq_true ((List.length x2.Dims:Int) != (List.length x3.Dims:Int)) with hb8 | hb8
      · have hm:=V8 hb8 hm
        refine gF (d0:=69) rfl rfl (by rw [hb8]; rfl) (gF (d0:=69) rfl rfl (by rw [hb8]; rfl) (gF (d0:=69) rfl rfl (by rw [hb8]; rfl) (gF (d0:=69) rfl rfl (by rw [hb8]; rfl) (gF (d0:=69) rfl rfl (by rw [hb8]; rfl) (gF (d0:=69) rfl rfl (by rw [hb8]; rfl) (gF (d0:=69) rfl rfl (by rw [hb8]; rfl) (pv (Y1 rfl hb8 rfl) (nil (Y9 [(0,sv a1 p0 c1),(1,sv a2 p1 c2),(2,.bool p2),(7,iv x1),(8,pt b1 0),(9,pt b2 0),(77,.bool true)] ⟨rfl,rfl,rfl,rfl,rfl,rfl,rfl,qZt⟩ fun J => ?_)))))))))
        refine cnd (b:=true) rfl (fun _ => ?_) (fun h=>nomatch h)
        refine sq2 (rg (pv (X5 rfl) (nil (Q0 ?_))))
        cases oI hm
        have hn1:_=Lp.ret _:=hn1
        subst hn1
        have hm:=X1 hq1
        cases oI hm
        exact rtn (Q6 (Y5 (Q6 (Q6 (Y5 (Q6 (U2 rfl rfl ⟨_,rfl,_,(iT im1 im2),⟨rfl,hS7.sel [0] rfl,qZt⟩⟩)))))))
      have hm:=X3 hb8 hm
      obtain⟨y1,hx3,hm⟩:=Q4 hm
      refine gT (d0:=69) rfl rfl hb8 (pv (Z1 rfl underlying58 rfl sizeOf56 rfl) (gT (d0:=69) rfl rfl hb8 (pv (Z4 rfl isAgg56 (hS7.cell0 (i:=1) ⟨rfl,rfl⟩ (j:=7) rfl)) (gT (d0:=69) rfl rfl hb8 (pv (Z1 rfl underlying58 rfl sizeOf56 rfl) (gT (d0:=69) rfl rfl hb8 (pv (Z4 rfl isAgg56 (hS7.cell0 (i:=2) ⟨rfl,rfl⟩ (j:=7) rfl)) (gT (d0:=69) rfl rfl hb8 (pv (Y7 rfl) (gT (d0:=69) rfl rfl hb8 (wl rfl (Z7 cf41 rfl (H6 (p0:=x2.Init) (p1:=x3.Init) (p2:=p2) (hS7.bun [0,1,2] [] rfl) h4 h6 hx3) rfl fun v1 T3 w8 im8 rv1 => ?_))))))))))))
      obtain⟨rfl,hS8,_⟩:=rv1
      have hS8:=hS8.unb
      refine gT (d0:=69) rfl rfl hb8 (pv (L7 rfl) (pv (X9 rfl hb8 rfl) (nil (Y9 [(0,sv a1 p0 c1),(1,sv a2 p1 c2),(2,.bool p2),(7,iv x1),(8,pt b1 0),(9,pt b2 0),(77,.bool (!y1))] ⟨rfl,rfl,rfl,rfl,rfl,rfl,rfl,qZt⟩ fun J => ?_))))
      refine V3 rfl hm (fun hb9 hm => ?_) fun hb9 hm => ?_
      · refine sq2 (rg (pv (X5 rfl) (nil (Q0 ?_))))
        cases oI hm
        have hn1:_=Lp.ret _:=hn1
        subst hn1
        have hm:=X1 hq1
        cases oI hm
        exact rtn (Q6 (Y5 (Q6 (Q6 (Y5 (Q6 (U2 rfl rfl ⟨_,rfl,_,(iT im1 (iT im2 im8)),⟨rfl,hS8.sel [0] rfl,qZt⟩⟩)))))))
      refine skp (Q0 ?_)
      refine sq2 (rg (pv (J0 rfl) (nil (Q0 ?_))))
      obtain⟨o2,ho2,hq2⟩:=Q4 hm
      obtain⟨bd2,hbd2,ho2⟩:=K3 ho2
      refine blk (wp_loop_ghost (fun m a w9 => ∃(J:JV) (T4:TP) (x4:Int),a=env (nf 96) J [(0,sv a1 p0 c1),(1,sv a2 p1 c2),(2,.bool p2),(7,iv x1),(8,pt b1 0),(9,pt b2 0),(10,iv x4)]∧Im T3 w8 T4 w9∧Sep g T4 w9 [R,J6 b1 (N1 x2 a3 c3 a4 c4),J6 b2 (N1 x3 a5 c5 a6 c6)]∧V7 bd2 m x4=some o2) NN ⟨_,_,0,Q7 ⟨rfl,rfl,rfl,rfl,rfl,rfl,rfl,qZt⟩,Im.refl,hS8.sel [0,1,2] rfl,ho2⟩ ?_)
      rintro m _ w9 ⟨J,T4,x4,rfl,im9,hS9,ho2⟩
      obtain⟨m2,z2,rfl,hm,hn2⟩:=U4 ho2
      rw [hbd2] at hm
      refine sq2 (sq2 (rg (pv (U1 rfl) (pv (Z1 rfl underlying58 rfl sizeOf55 rfl) (pv (Z4 rfl isAgg55 (hS9.cell0 (i:=1) ⟨rfl,rfl⟩ (j:=6) rfl)) (pv (L3 rfl underlying55) (pv (X7 rfl rfl rfl) (nil (Q0 ?_)))))))))
      refine V3 rfl hm (fun hb10 hm => ?_) fun hb10 hm => ?_
      · refine skp (Q0 ?_)
        refine sq2 (blk (sq2 ?_))
        obtain⟨u3,hx4,hm⟩:=Q4 hm
        obtain⟨b7,of3,cs3,k3,cp3,hv3,hp3,hl3,he3,hr3,hc3,hT3⟩:=(h3.mono (iT im8 im9)).ixT hx4 rfl
        cases hr3
        obtain⟨u4,hx5,hm⟩:=Q4 hm
        obtain⟨b8,of4,cs4,k4,cp4,hv4,hp4,hl4,he4,hr4,hc4,hT4⟩:=(h5.mono (iT im8 im9)).ixT hx5 rfl
        cases hr4
        refine rq mix (by kernel_rfl) hS9.lt (qv (fun _ hq=>Z1 rfl underlying58 rfl sizeOf55 rfl) (qv (fun _ hq=>Z4 rfl isAgg55 (hq.cell (hS9.cell0 (i:=1) ⟨rfl,rfl⟩ (j:=6) rfl))) (qv (fun _ hq=>U1 rfl) (qv (fun _ hq=>B2 hv3 rfl underlying55 sizeOf87 hp3 hl3 he3) (qv (fun _ hq=>Z4 rfl isAgg87 (hq.cell (hc3.get (j:=0) rfl))) (qv (fun _ hq=>Z1 rfl underlying58 rfl sizeOf55 rfl) (qv (fun _ hq=>Z4 rfl isAgg55 (hq.cell (hS9.cell0 (i:=2) ⟨rfl,rfl⟩ (j:=6) rfl))) (qv (fun _ hq=>U1 rfl) (qv (fun _ hq=>B2 hv4 rfl underlying55 sizeOf87 hp4 hl4 he4) (qv (fun _ hq=>Z4 rfl isAgg87 (hq.cell (hc4.get (j:=0) rfl))) (qv (fun _ hq=>X7 rfl rfl rfl) (qn fun w10 T5 i2 => ?_))))))))))))
        have im10:=i2.imm
        have hS10:=hS9.keep i2 (fun _ h=>h)
        refine Q0 ?_
        refine V3 rfl hm (fun hb11 hm => ?_) fun hb11 hm => ?_
        · refine sq2 (rg (pv (X5 rfl) (nil (Q0 ?_))))
          cases oI hm
          have hn2:_=Lp.ret _:=hn2
          subst hn2
          have hm:=X1 hq2
          cases oI hm
          have hn1:_=Lp.ret _:=hn1
          subst hn1
          have hm:=X1 hq1
          cases oI hm
          exact rtn (Y5 (Q6 (Q6 (Y5 (Y5 (Q6 (Q6 (Y5 (Q6 (U2 rfl rfl ⟨_,rfl,_,(iT im1 (iT im2 (iT im8 (iT im9 im10)))),⟨rfl,hS10.sel [0] rfl,qZt⟩⟩))))))))))
        refine skp (U6 (Q0 ?_))
        cases oI hm
        exact rg (pv (U1 rfl) (pv (X7 rfl rfl rfl) (pv (J0 rfl) (nil (Q0 ⟨m2,Nat.lt_succ_self _,_,_,(IntKind.wrap .i64 (x4+1)),Q7 ⟨rfl,rfl,rfl,rfl,rfl,rfl,rfl,qZt⟩,(iT im9 im10),hS10.sel [0,1,2] rfl,hn2⟩)))))
      cases oI hm
      have hn2:_=Lp.brk _:=hn2
      subst hn2
      have hm:=F1 hq2
      refine xt (V9 (V9 (L5 (U6 (Q0 ?_)))))
      cases oI hm
      exact rg (pv (U1 rfl) (pv (X7 rfl rfl rfl) (pv (J0 rfl) (nil (Q0 ⟨m1,Nat.lt_succ_self _,_,_,(IntKind.wrap .i64 (x1+1)),Q7 ⟨rfl,rfl,rfl,rfl,qZt⟩,(iT im1 (iT im2 (iT im8 im9))),hS9.sel [0] rfl,hn1⟩)))))
    have hm:=X3 hb3 hm
    refine gF (d0:=32) rfl rfl (by rw [hb3]; rfl) (gF (d0:=32) rfl rfl (by rw [hb3]; rfl) (gF (d0:=32) rfl rfl (by rw [hb3]; rfl) (gF (d0:=32) rfl rfl (by rw [hb3]; rfl) (gF (d0:=32) rfl rfl (by rw [hb3]; rfl) (pv (X9 rfl hb3 rfl) (pv (Y7 rfl) (gT (d0:=39) rfl rfl rfl (pv (Z1 rfl underlying58 rfl sizeOf54 rfl) (gT (d0:=39) rfl rfl rfl (pv (Z5 rfl isAgg54 sizeOf54 rfl (hS7.cells0 (i:=1) ⟨rfl,rfl⟩ (o:=2) rfl) (cs:=(U3 x2.Type_))) (gT (d0:=39) rfl rfl rfl (pv (Z1 rfl underlying58 rfl sizeOf54 rfl) (gT (d0:=39) rfl rfl rfl (pv (Z5 rfl isAgg54 sizeOf54 rfl (hS7.cells0 (i:=2) ⟨rfl,rfl⟩ (o:=2) rfl) (cs:=(U3 x3.Type_))) (gT (d0:=39) rfl rfl rfl (pv (Q2q rfl rfl (Z2y x2.Type_.Word x2.Type_.Name x2.Type_.Stars x3.Type_.Word x3.Type_.Name x3.Type_.Stars)) (pv (X9 rfl rfl rfl) (pv (Y7 rfl) (?_)))))))))))))))))))
    rcases Bool.eq_false_or_eq_true (!((decide (x2.Type_.Word=x3.Type_.Word))&&(decide (x2.Type_.Name=x3.Type_.Name))&&(x2.Type_.Stars == x3.Type_.Stars))) with hb17 | hb17
    · have hm:=V8 hb17 hm
      refine gF (d0:=46) rfl rfl (by rw [hb17]; rfl) (gF (d0:=46) rfl rfl (by rw [hb17]; rfl) (gF (d0:=46) rfl rfl (by rw [hb17]; rfl) (gF (d0:=46) rfl rfl (by rw [hb17]; rfl) (gF (d0:=46) rfl rfl (by rw [hb17]; rfl) (pv (Y1 rfl hb17 rfl) (pv (Y7 rfl) (gF (d0:=53) rfl rfl rfl (gF (d0:=53) rfl rfl rfl (gF (d0:=53) rfl rfl rfl (gF (d0:=53) rfl rfl rfl (gF (d0:=53) rfl rfl rfl (pv (Y1 rfl rfl rfl) (pv (Y7 rfl) (gF (d0:=60) rfl rfl rfl (gF (d0:=60) rfl rfl rfl (gF (d0:=60) rfl rfl rfl (gF (d0:=60) rfl rfl rfl (gF (d0:=60) rfl rfl rfl (gF (d0:=60) rfl rfl rfl (gF (d0:=60) rfl rfl rfl (pv (Y1 rfl rfl rfl) (pv (Y7 rfl) (gF (d0:=69) rfl rfl rfl (gF (d0:=69) rfl rfl rfl (gF (d0:=69) rfl rfl rfl (gF (d0:=69) rfl rfl rfl (gF (d0:=69) rfl rfl rfl (gF (d0:=69) rfl rfl rfl (gF (d0:=69) rfl rfl rfl (pv (Y1 rfl rfl rfl) (nil (Y9 [(0,sv a1 p0 c1),(1,sv a2 p1 c2),(2,.bool p2),(7,iv x1),(8,pt b1 0),(9,pt b2 0),(77,.bool true)] ⟨rfl,rfl,rfl,rfl,rfl,rfl,rfl,qZt⟩ fun J => ?_))))))))))))))))))))))))))))))))
      refine cnd (b:=true) rfl (fun _ => ?_) (fun h=>nomatch h)
      refine sq2 (rg (pv (X5 rfl) (nil (Q0 ?_))))
      cases oI hm
      have hn1:_=Lp.ret _:=hn1
      subst hn1
      have hm:=X1 hq1
      cases oI hm
      exact rtn (Q6 (Y5 (Q6 (Q6 (Y5 (Q6 (U2 rfl rfl ⟨_,rfl,_,(iT im1 im2),⟨rfl,hS7.sel [0] rfl,qZt⟩⟩)))))))
    have hm:=X3 hb17 hm
    refine gT (d0:=46) rfl rfl hb17 (pv (Z1 rfl underlying58 rfl sizeOf9 rfl) (gT (d0:=46) rfl rfl hb17 (pv (Z4 rfl isAgg9 (hS7.cell0 (i:=1) ⟨rfl,rfl⟩ (j:=5) rfl)) (gT (d0:=46) rfl rfl hb17 (pv (Z1 rfl underlying58 rfl sizeOf9 rfl) (gT (d0:=46) rfl rfl hb17 (pv (Z4 rfl isAgg9 (hS7.cell0 (i:=2) ⟨rfl,rfl⟩ (j:=5) rfl)) (gT (d0:=46) rfl rfl hb17 (pv (Q8b rfl rfl) (pv (X9 rfl hb17 rfl) (pv (Y7 rfl) (?_))))))))))))
    rcases Bool.eq_false_or_eq_true (!(decide (x2.Name=x3.Name))) with hb18 | hb18
    · have hm:=V8 hb18 hm
      refine gF (d0:=53) rfl rfl (by rw [hb18]; rfl) (gF (d0:=53) rfl rfl (by rw [hb18]; rfl) (gF (d0:=53) rfl rfl (by rw [hb18]; rfl) (gF (d0:=53) rfl rfl (by rw [hb18]; rfl) (gF (d0:=53) rfl rfl (by rw [hb18]; rfl) (pv (Y1 rfl hb18 rfl) (pv (Y7 rfl) (gF (d0:=60) rfl rfl rfl (gF (d0:=60) rfl rfl rfl (gF (d0:=60) rfl rfl rfl (gF (d0:=60) rfl rfl rfl (gF (d0:=60) rfl rfl rfl (gF (d0:=60) rfl rfl rfl (gF (d0:=60) rfl rfl rfl (pv (Y1 rfl rfl rfl) (pv (Y7 rfl) (gF (d0:=69) rfl rfl rfl (gF (d0:=69) rfl rfl rfl (gF (d0:=69) rfl rfl rfl (gF (d0:=69) rfl rfl rfl (gF (d0:=69) rfl rfl rfl (gF (d0:=69) rfl rfl rfl (gF (d0:=69) rfl rfl rfl (pv (Y1 rfl rfl rfl) (nil (Y9 [(0,sv a1 p0 c1),(1,sv a2 p1 c2),(2,.bool p2),(7,iv x1),(8,pt b1 0),(9,pt b2 0),(77,.bool true)] ⟨rfl,rfl,rfl,rfl,rfl,rfl,rfl,qZt⟩ fun J => ?_)))))))))))))))))))))))))
      refine cnd (b:=true) rfl (fun _ => ?_) (fun h=>nomatch h)
      refine sq2 (rg (pv (X5 rfl) (nil (Q0 ?_))))
      cases oI hm
      have hn1:_=Lp.ret _:=hn1
      subst hn1
      have hm:=X1 hq1
      cases oI hm
      exact rtn (Q6 (Y5 (Q6 (Q6 (Y5 (Q6 (U2 rfl rfl ⟨_,rfl,_,(iT im1 im2),⟨rfl,hS7.sel [0] rfl,qZt⟩⟩)))))))
    have hm:=X3 hb18 hm
    refine gT (d0:=53) rfl rfl hb18 (pv (Z1 rfl underlying58 rfl sizeOf4 rfl) (gT (d0:=53) rfl rfl hb18 (pv (Z4 rfl isAgg4 (hS7.cell0 (i:=1) ⟨rfl,rfl⟩ (j:=8) rfl)) (gT (d0:=53) rfl rfl hb18 (pv (Z1 rfl underlying58 rfl sizeOf4 rfl) (gT (d0:=53) rfl rfl hb18 (pv (Z4 rfl isAgg4 (hS7.cell0 (i:=2) ⟨rfl,rfl⟩ (j:=8) rfl)) (gT (d0:=53) rfl rfl hb18 (pv (r_bn rfl rfl underlying4) (pv (X9 rfl hb18 rfl) (pv (Y7 rfl) (?_))))))))))))
    rcases Bool.eq_false_or_eq_true (!(x2.Brace == x3.Brace)) with hb19 | hb19
    · have hm:=V8 hb19 hm
      refine gF (d0:=60) rfl rfl (by rw [hb19]; rfl) (gF (d0:=60) rfl rfl (by rw [hb19]; rfl) (gF (d0:=60) rfl rfl (by rw [hb19]; rfl) (gF (d0:=60) rfl rfl (by rw [hb19]; rfl) (gF (d0:=60) rfl rfl (by rw [hb19]; rfl) (gF (d0:=60) rfl rfl (by rw [hb19]; rfl) (gF (d0:=60) rfl rfl (by rw [hb19]; rfl) (pv (Y1 rfl hb19 rfl) (pv (Y7 rfl) (gF (d0:=69) rfl rfl rfl (gF (d0:=69) rfl rfl rfl (gF (d0:=69) rfl rfl rfl (gF (d0:=69) rfl rfl rfl (gF (d0:=69) rfl rfl rfl (gF (d0:=69) rfl rfl rfl (gF (d0:=69) rfl rfl rfl (pv (Y1 rfl rfl rfl) (nil (Y9 [(0,sv a1 p0 c1),(1,sv a2 p1 c2),(2,.bool p2),(7,iv x1),(8,pt b1 0),(9,pt b2 0),(77,.bool true)] ⟨rfl,rfl,rfl,rfl,rfl,rfl,rfl,qZt⟩ fun J => ?_))))))))))))))))))
      refine cnd (b:=true) rfl (fun _ => ?_) (fun h=>nomatch h)
      refine sq2 (rg (pv (X5 rfl) (nil (Q0 ?_))))
      cases oI hm
      have hn1:_=Lp.ret _:=hn1
      subst hn1
      have hm:=X1 hq1
      cases oI hm
      exact rtn (Q6 (Y5 (Q6 (Q6 (Y5 (Q6 (U2 rfl rfl ⟨_,rfl,_,(iT im1 im2),⟨rfl,hS7.sel [0] rfl,qZt⟩⟩)))))))
    have hm:=X3 hb19 hm
    refine gT (d0:=60) rfl rfl hb19 (pv (Z1 rfl underlying58 rfl sizeOf55 rfl) (gT (d0:=60) rfl rfl hb19 (pv (Z4 rfl isAgg55 (hS7.cell0 (i:=1) ⟨rfl,rfl⟩ (j:=6) rfl)) (gT (d0:=60) rfl rfl hb19 (pv (L3 rfl underlying55) (gT (d0:=60) rfl rfl hb19 (pv (Z1 rfl underlying58 rfl sizeOf55 rfl) (gT (d0:=60) rfl rfl hb19 (pv (Z4 rfl isAgg55 (hS7.cell0 (i:=2) ⟨rfl,rfl⟩ (j:=6) rfl)) (gT (d0:=60) rfl rfl hb19 (pv (L3 rfl underlying55) (gT (d0:=60) rfl rfl hb19 (pv (X7 rfl rfl rfl) (pv (X9 rfl hb19 rfl) (pv (Y7 rfl) (?_))))))))))))))))
    rcases Bool.eq_false_or_eq_true ((List.length x2.Dims:Int) != (List.length x3.Dims:Int)) with hb20 | hb20
    · have hm:=V8 hb20 hm
      refine gF (d0:=69) rfl rfl (by rw [hb20]; rfl) (gF (d0:=69) rfl rfl (by rw [hb20]; rfl) (gF (d0:=69) rfl rfl (by rw [hb20]; rfl) (gF (d0:=69) rfl rfl (by rw [hb20]; rfl) (gF (d0:=69) rfl rfl (by rw [hb20]; rfl) (gF (d0:=69) rfl rfl (by rw [hb20]; rfl) (gF (d0:=69) rfl rfl (by rw [hb20]; rfl) (pv (Y1 rfl hb20 rfl) (nil (Y9 [(0,sv a1 p0 c1),(1,sv a2 p1 c2),(2,.bool p2),(7,iv x1),(8,pt b1 0),(9,pt b2 0),(77,.bool true)] ⟨rfl,rfl,rfl,rfl,rfl,rfl,rfl,qZt⟩ fun J => ?_)))))))))
      refine cnd (b:=true) rfl (fun _ => ?_) (fun h=>nomatch h)
      refine sq2 (rg (pv (X5 rfl) (nil (Q0 ?_))))
      cases oI hm
      have hn1:_=Lp.ret _:=hn1
      subst hn1
      have hm:=X1 hq1
      cases oI hm
      exact rtn (Q6 (Y5 (Q6 (Q6 (Y5 (Q6 (U2 rfl rfl ⟨_,rfl,_,(iT im1 im2),⟨rfl,hS7.sel [0] rfl,qZt⟩⟩)))))))
    have hm:=X3 hb20 hm
    obtain⟨y2,hx6,hm⟩:=Q4 hm
    refine gT (d0:=69) rfl rfl hb20 (pv (Z1 rfl underlying58 rfl sizeOf56 rfl) (gT (d0:=69) rfl rfl hb20 (pv (Z4 rfl isAgg56 (hS7.cell0 (i:=1) ⟨rfl,rfl⟩ (j:=7) rfl)) (gT (d0:=69) rfl rfl hb20 (pv (Z1 rfl underlying58 rfl sizeOf56 rfl) (gT (d0:=69) rfl rfl hb20 (pv (Z4 rfl isAgg56 (hS7.cell0 (i:=2) ⟨rfl,rfl⟩ (j:=7) rfl)) (gT (d0:=69) rfl rfl hb20 (pv (Y7 rfl) (gT (d0:=69) rfl rfl hb20 (wl rfl (Z7 cf41 rfl (H6 (p0:=x2.Init) (p1:=x3.Init) (p2:=p2) (hS7.bun [0,1,2] [] rfl) h4 h6 hx6) rfl fun v2 T6 w11 im11 rv2 => ?_))))))))))))
    obtain⟨rfl,hS11,_⟩:=rv2
    have hS11:=hS11.unb
    refine gT (d0:=69) rfl rfl hb20 (pv (L7 rfl) (pv (X9 rfl hb20 rfl) (nil (Y9 [(0,sv a1 p0 c1),(1,sv a2 p1 c2),(2,.bool p2),(7,iv x1),(8,pt b1 0),(9,pt b2 0),(77,.bool (!y2))] ⟨rfl,rfl,rfl,rfl,rfl,rfl,rfl,qZt⟩ fun J => ?_))))
    refine V3 rfl hm (fun hb21 hm => ?_) fun hb21 hm => ?_
    · refine sq2 (rg (pv (X5 rfl) (nil (Q0 ?_))))
      cases oI hm
      have hn1:_=Lp.ret _:=hn1
      subst hn1
      have hm:=X1 hq1
      cases oI hm
      exact rtn (Q6 (Y5 (Q6 (Q6 (Y5 (Q6 (U2 rfl rfl ⟨_,rfl,_,(iT im1 (iT im2 im11)),⟨rfl,hS11.sel [0] rfl,qZt⟩⟩)))))))
    refine skp (Q0 ?_)
    refine sq2 (rg (pv (J0 rfl) (nil (Q0 ?_))))
    obtain⟨o2,ho2,hq2⟩:=Q4 hm
    obtain⟨bd2,hbd2,ho2⟩:=K3 ho2
    refine blk (wp_loop_ghost (fun m a w12 => ∃(J:JV) (T7:TP) (x5:Int),a=env (nf 96) J [(0,sv a1 p0 c1),(1,sv a2 p1 c2),(2,.bool p2),(7,iv x1),(8,pt b1 0),(9,pt b2 0),(10,iv x5)]∧Im T6 w11 T7 w12∧Sep g T7 w12 [R,J6 b1 (N1 x2 a3 c3 a4 c4),J6 b2 (N1 x3 a5 c5 a6 c6)]∧V7 bd2 m x5=some o2) NN ⟨_,_,0,Q7 ⟨rfl,rfl,rfl,rfl,rfl,rfl,rfl,qZt⟩,Im.refl,hS11.sel [0,1,2] rfl,ho2⟩ ?_)
    rintro m _ w12 ⟨J,T7,x5,rfl,im12,hS12,ho2⟩
    obtain⟨m2,z2,rfl,hm,hn2⟩:=U4 ho2
    rw [hbd2] at hm
    refine sq2 (sq2 (rg (pv (U1 rfl) (pv (Z1 rfl underlying58 rfl sizeOf55 rfl) (pv (Z4 rfl isAgg55 (hS12.cell0 (i:=1) ⟨rfl,rfl⟩ (j:=6) rfl)) (pv (L3 rfl underlying55) (pv (X7 rfl rfl rfl) (nil (Q0 ?_)))))))))
    refine V3 rfl hm (fun hb22 hm => ?_) fun hb22 hm => ?_
    · refine skp (Q0 ?_)
      refine sq2 (blk (sq2 ?_))
      obtain⟨u5,hx7,hm⟩:=Q4 hm
      obtain⟨b9,of5,cs5,k5,cp5,hv5,hp5,hl5,he5,hr5,hc5,hT5⟩:=(h3.mono (iT im11 im12)).ixT hx7 rfl
      cases hr5
      obtain⟨u6,hx8,hm⟩:=Q4 hm
      obtain⟨b10,of6,cs6,k6,cp6,hv6,hp6,hl6,he6,hr6,hc6,hT6⟩:=(h5.mono (iT im11 im12)).ixT hx8 rfl
      cases hr6
      refine rq mix (by kernel_rfl) hS12.lt (qv (fun _ hq=>Z1 rfl underlying58 rfl sizeOf55 rfl) (qv (fun _ hq=>Z4 rfl isAgg55 (hq.cell (hS12.cell0 (i:=1) ⟨rfl,rfl⟩ (j:=6) rfl))) (qv (fun _ hq=>U1 rfl) (qv (fun _ hq=>B2 hv5 rfl underlying55 sizeOf87 hp5 hl5 he5) (qv (fun _ hq=>Z4 rfl isAgg87 (hq.cell (hc5.get (j:=0) rfl))) (qv (fun _ hq=>Z1 rfl underlying58 rfl sizeOf55 rfl) (qv (fun _ hq=>Z4 rfl isAgg55 (hq.cell (hS12.cell0 (i:=2) ⟨rfl,rfl⟩ (j:=6) rfl))) (qv (fun _ hq=>U1 rfl) (qv (fun _ hq=>B2 hv6 rfl underlying55 sizeOf87 hp6 hl6 he6) (qv (fun _ hq=>Z4 rfl isAgg87 (hq.cell (hc6.get (j:=0) rfl))) (qv (fun _ hq=>X7 rfl rfl rfl) (qn fun w13 T8 i3 => ?_))))))))))))
      have im13:=i3.imm
      have hS13:=hS12.keep i3 (fun _ h=>h)
      refine Q0 ?_
      refine V3 rfl hm (fun hb23 hm => ?_) fun hb23 hm => ?_
      · refine sq2 (rg (pv (X5 rfl) (nil (Q0 ?_))))
        cases oI hm
        have hn2:_=Lp.ret _:=hn2
        subst hn2
        have hm:=X1 hq2
        cases oI hm
        have hn1:_=Lp.ret _:=hn1
        subst hn1
        have hm:=X1 hq1
        cases oI hm
        exact rtn (Y5 (Q6 (Q6 (Y5 (Y5 (Q6 (Q6 (Y5 (Q6 (U2 rfl rfl ⟨_,rfl,_,(iT im1 (iT im2 (iT im11 (iT im12 im13)))),⟨rfl,hS13.sel [0] rfl,qZt⟩⟩))))))))))
      refine skp (U6 (Q0 ?_))
      cases oI hm
      exact rg (pv (U1 rfl) (pv (X7 rfl rfl rfl) (pv (J0 rfl) (nil (Q0 ⟨m2,Nat.lt_succ_self _,_,_,(IntKind.wrap .i64 (x5+1)),Q7 ⟨rfl,rfl,rfl,rfl,rfl,rfl,rfl,qZt⟩,(iT im12 im13),hS13.sel [0,1,2] rfl,hn2⟩)))))
    cases oI hm
    have hn2:_=Lp.brk _:=hn2
    subst hn2
    have hm:=F1 hq2
    refine xt (V9 (V9 (L5 (U6 (Q0 ?_)))))
    cases oI hm
    exact rg (pv (U1 rfl) (pv (X7 rfl rfl rfl) (pv (J0 rfl) (nil (Q0 ⟨m1,Nat.lt_succ_self _,_,_,(IntKind.wrap .i64 (x1+1)),Q7 ⟨rfl,rfl,rfl,rfl,qZt⟩,(iT im1 (iT im2 (iT im11 im12))),hS12.sel [0] rfl,hn1⟩)))))
  cases oI hm
  have hn1:_=Lp.brk _:=hn1
  subst hn1
  have hm:=F1 hq1
  refine xt (V9 (V9 (L5 (Q0 ?_))))
  refine sq2 (rg (pv (X5 rfl) (nil (Q0 ?_))))
  cases oI hm
  exact rtn (U2 rfl rfl ⟨_,rfl,_,im1,⟨rfl,hS1.sel [0] rfl,qZt⟩⟩)

def Q3d (F:(List U5)→(List U5)→Bool→Option (Bool)):Prop := ∀ {g:World} {T0:TP} {w0:World} {R:J7} {p0:List U5} {a1:OA} {c1:Nat} {p1:List U5} {a2:OA} {c2:Nat} {p2:Bool} {r:Bool} (hS:Sep g T0 w0 [R]) (h1:SlR E1 T0 w0 (sv a1 p0 c1) p0) (h2:SlR E1 T0 w0 (sv a2 p1 c2) p1) (hm:F p0 p1 p2=some r),
    Calls Tryz.prog 21 #[sv a1 p0 c1,sv a2 p1 c2,.bool p2] w0 (E6 T0 w0 fun T w v=>v = .bool r∧Sep g T w [R]∧True)
structure Sp8 (G:Rec8):Prop where
  J9:Q3d G.J9
theorem Z1w {G:Rec8} (hG:Sp8 G):Q3d (S5 G) := @fun g T0 w0 R p0 a1 c1 p1 a2 c2 p2 r hS h1 h2 hm=>by
  refine enter (args := [sv a1 p0 c1,sv a2 p1 c2,.bool p2]) Tryz.func21 rfl Tryz.ntmps21 rfl fun J => ?_
  unfold S5 at hm
  refine sq2 (rg (pv (X5 rfl) (nil (Q0 ?_))))
  refine sq2 (sq2 (rg (pv (N2 rfl) (pv (L3 rfl underlying62) (pv (N2 rfl) (pv (L3 rfl underlying62) (pv (X7 rfl rfl rfl) (nil (Q0 ?_)))))))))
  refine V3 rfl hm (fun hb1 hm => ?_) fun hb1 hm => ?_
  · refine sq2 (rg (pv (X5 rfl) (nil (Q0 ?_))))
    cases oI hm
    exact rtn (Q6 (U2 rfl rfl ⟨_,rfl,_,Im.refl,⟨rfl,hS.sel [0] rfl,qZt⟩⟩))
  refine skp (Q0 ?_)
  refine sq2 (sq2 (rg (pv (J0 rfl) (nil (Q0 ?_)))))
  obtain⟨o1,ho1,hq1⟩:=Q4 hm
  obtain⟨bd1,hbd1,ho1⟩:=K3 ho1
  refine blk (wp_loop_ghost (fun m a w1 => ∃(J:JV) (T1:TP) (x1:Int),a=env (nf 160) J [(0,sv a1 p0 c1),(1,sv a2 p1 c2),(2,.bool p2),(7,iv x1)]∧Im T0 w0 T1 w1∧Sep g T1 w1 [R]∧V7 bd1 m x1=some o1) NN ⟨_,_,0,Q7 ⟨rfl,rfl,rfl,rfl,qZt⟩,Im.refl,hS.sel [0] rfl,ho1⟩ ?_)
  rintro m _ w1 ⟨J,T1,x1,rfl,im1,hS1,ho1⟩
  obtain⟨m1,z1,rfl,hm,hn1⟩:=U4 ho1
  rw [hbd1] at hm
  refine sq2 (sq2 (rg (pv (U1 rfl) (pv (N2 rfl) (pv (L3 rfl underlying62) (pv (X7 rfl rfl rfl) (nil (Q0 ?_))))))))
  refine V3 rfl hm (fun hb2 hm => ?_) fun hb2 hm => ?_
  · refine skp (Q0 ?_)
    refine sq2 (blk ?_)
    obtain⟨kk1,hkk1,hm⟩:=F6 hm
    refine cut (fun a w2 => ∃(J:JV) (T2:TP) (b1:Nat) (x2:U5) (a3:OA) (c3:Nat) (a4:OA) (c4:Nat) (a5:OA) (c5:Nat) (a6:OA) (c6:Nat) (a7:OA) (c7:Nat) (a8:OA) (c8:Nat) (a9:OA) (c9:Nat) (b2:Nat) (x3:U5) (a10:OA) (c10:Nat) (a11:OA) (c11:Nat) (a12:OA) (c12:Nat) (a13:OA) (c13:Nat) (a14:OA) (c14:Nat) (a15:OA) (c15:Nat) (a16:OA) (c16:Nat),a=env (nf 160) J [(0,sv a1 p0 c1),(1,sv a2 p1 c2),(2,.bool p2),(7,iv x1),(8,pt b1 0),(9,pt b2 0)]∧Im T1 w1 T2 w2∧Sep g T2 w2 [R,J6 b1 (B4 x2 a3 c3 a4 c4 a5 c5 a6 c6 a7 c7 a8 c8 a9 c9),J6 b2 (B4 x3 a10 c10 a11 c11 a12 c12 a13 c13 a14 c14 a15 c15 a16 c16)]∧SlR X0 T2 w2 (sv a3 x2.A c3) x2.A∧SlR X0 T2 w2 (sv a4 x2.B c4) x2.B∧SlR X0 T2 w2 (sv a5 x2.C c5) x2.C∧SlR G7 T2 w2 (sv a6 x2.Var c6) x2.Var∧SlR E1 T2 w2 (sv a7 x2.Body c7) x2.Body∧SlR E1 T2 w2 (sv a8 x2.Else c8) x2.Else∧SlR C0 T2 w2 (sv a9 x2.Cases c9) x2.Cases∧SlR X0 T2 w2 (sv a10 x3.A c10) x3.A∧SlR X0 T2 w2 (sv a11 x3.B c11) x3.B∧SlR X0 T2 w2 (sv a12 x3.C c12) x3.C∧SlR G7 T2 w2 (sv a13 x3.Var c13) x3.Var∧SlR E1 T2 w2 (sv a14 x3.Body c14) x3.Body∧SlR E1 T2 w2 (sv a15 x3.Else c15) x3.Else∧SlR C0 T2 w2 (sv a16 x3.Cases c16) x3.Cases∧kk1 x2 x3=some z1) ?_ ?_
    · refine rt [0,0,0,1,0,0,0,1,2,2,2,2] [0,1,2,3,4,5,6,7,8,9,10,11] mix (by kernel_rfl) hS1.lt fun w3 i1 => ?_
      have im3:=i1.imm
      have hS2:=hS1.keep i1 (fun _ h=>h)
      obtain⟨u1,hx1,hm⟩:=Q4 hm
      obtain⟨b3,of1,cs1,k1,cp1,hv1,hp1,hl1,he1,hr1,hc1,hT1⟩:=(h1.mono (iT im1 im3)).ixT hx1 rfl
      obtain⟨a17,c17,a18,c18,a19,c19,a20,c20,a21,c21,a22,c22,a23,c23,rfl,h17,h18,h19,h20,h21,h22,h23⟩:=Q2r hr1
      obtain⟨u2,hx2,hm⟩:=Q4 hm
      obtain⟨b4,of2,cs2,k2,cp2,hv2,hp2,hl2,he2,hr2,hc2,hT2⟩:=(h2.mono (iT im1 im3)).ixT hx2 rfl
      obtain⟨a24,c24,a25,c25,a26,c26,a27,c27,a28,c28,a29,c29,a30,c30,rfl,h24,h25,h26,h27,h28,h29,h30⟩:=Q2r hr2
      refine t0 rfl qZt (fun _=>N2 rfl) rfl (t0 rfl qZt (fun _=>U1 rfl) rfl (t0 rfl qZt (fun _=>B2 hv1 rfl underlying62 sizeOf68 hp1 hl1 he1) rfl (t1 rfl qZt (Z5 rfl isAgg68 sizeOf68 rfl hc1 (cs:=(B4 u1 a17 c17 a18 c18 a19 c19 a20 c20 a21 c21 a22 c22 a23 c23))) rfl (t0 rfl qZt (fun _=>N2 rfl) rfl (t0 rfl qZt (fun _=>U1 rfl) rfl (t0 rfl qZt (fun _=>B2 hv2 rfl underlying62 sizeOf68 hp2 hl2 he2) rfl (t1 rfl qZt (Z5 rfl isAgg68 sizeOf68 rfl hc2 (cs:=(B4 u2 a24 c24 a25 c25 a26 c26 a27 c27 a28 c28 a29 c29 a30 c30))) rfl (tw [8,9] rfl (F5 rfl rfl qZt) rfl (by kernel_rfl) (by kernel_rfl) ⟨br [9,10,11] [(7,.agg (B4 u2 a24 c24 a25 c25 a26 c26 a27 c27 a28 c28 a29 c29 a30 c30).toArray),(3,.agg (B4 u1 a17 c17 a18 c18 a19 c19 a20 c20 a21 c21 a22 c22 a23 c23).toArray)] rfl (by kernel_rfl) (by kernel_rfl) qZt (by kernel_rfl) (alS (zs := [iv 0,iv 0,iv 0,.slice none 0 0,.slice none 0 0,.slice none 0 0,.slice none 0 0,.slice none 0 0,.slice none 0 0,.slice none 0 0]) zeroValue68 rfl hS2 fun w4 b5 im4 hS3 => ?_),br [8,10,11] [(7,.agg (B4 u2 a24 c24 a25 c25 a26 c26 a27 c27 a28 c28 a29 c29 a30 c30).toArray),(3,.agg (B4 u1 a17 c17 a18 c18 a19 c19 a20 c20 a21 c21 a22 c22 a23 c23).toArray)] rfl (by kernel_rfl) (by kernel_rfl) qZt (by kernel_rfl) (alS (zs := [iv 0,iv 0,iv 0,.slice none 0 0,.slice none 0 0,.slice none 0 0,.slice none 0 0,.slice none 0 0,.slice none 0 0,.slice none 0 0]) zeroValue68 rfl hS2 fun w4 b5 im4 hS3 => ?_),qZt⟩))))))))
      · refine⟨st1 rfl (Z5 rfl isAgg68 sizeOf68 rfl (hc2.same (im4 b4 hT2).2) (cs:=(B4 u2 a24 c24 a25 c25 a26 c26 a27 c27 a28 c28 a29 c29 a30 c30))) (st1 rfl (Z5 rfl isAgg68 sizeOf68 rfl (hc1.same (im4 b3 hT1).2) (cs:=(B4 u1 a17 c17 a18 c18 a19 c19 a20 c20 a21 c21 a22 c22 a23 c23))) (st0)),?_⟩
        refine tw [9] rfl (F5 rfl rfl qZt) rfl (by kernel_rfl) (by kernel_rfl) ⟨br [10,11] [(7,.agg (B4 u2 a24 c24 a25 c25 a26 c26 a27 c27 a28 c28 a29 c29 a30 c30).toArray),(3,.agg (B4 u1 a17 c17 a18 c18 a19 c19 a20 c20 a21 c21 a22 c22 a23 c23).toArray)] rfl (by kernel_rfl) (by kernel_rfl) qZt (by kernel_rfl) (alS (zs := [iv 0,iv 0,iv 0,.slice none 0 0,.slice none 0 0,.slice none 0 0,.slice none 0 0,.slice none 0 0,.slice none 0 0,.slice none 0 0]) zeroValue68 rfl hS3 fun w5 b6 im5 hS4 => ?_),qZt⟩
        refine⟨st1 rfl (Z5 rfl isAgg68 sizeOf68 rfl (hc2.same ((iT im4 im5) b4 hT2).2) (cs:=(B4 u2 a24 c24 a25 c25 a26 c26 a27 c27 a28 c28 a29 c29 a30 c30))) (st1 rfl (Z5 rfl isAgg68 sizeOf68 rfl (hc1.same ((iT im4 im5) b3 hT1).2) (cs:=(B4 u1 a17 c17 a18 c18 a19 c19 a20 c20 a21 c21 a22 c22 a23 c23))) (st0)),?_⟩
        refine tw [10] rfl (F5 rfl rfl qZt) rfl (by kernel_rfl) (by kernel_rfl) ⟨br [11] [(7,.agg (B4 u2 a24 c24 a25 c25 a26 c26 a27 c27 a28 c28 a29 c29 a30 c30).toArray)] rfl (by kernel_rfl) (by kernel_rfl) qZt (by kernel_rfl) (X6 (q:=1) hS4 ⟨rfl,rfl⟩ rfl rfl rfl sizeOf68 rfl rfl rfl fun w6 im6 hS5 => ?_),qZt⟩
        refine⟨st1 rfl (Z5 rfl isAgg68 sizeOf68 rfl (hc2.same ((iT im4 (iT im5 im6)) b4 hT2).2) (cs:=(B4 u2 a24 c24 a25 c25 a26 c26 a27 c27 a28 c28 a29 c29 a30 c30))) (st0),?_⟩
        refine tw [11] rfl (F5 rfl rfl qZt) rfl (by kernel_rfl) (by kernel_rfl) ⟨br [] [] rfl (by kernel_rfl) (by kernel_rfl) qZt (by kernel_rfl) (X6 (q:=0) hS5 ⟨rfl,rfl⟩ rfl rfl rfl sizeOf68 rfl rfl rfl fun w7 im7 hS6 => ?_),qZt⟩
        refine⟨st0,?_⟩
        exact te (Q0 ⟨_,_,_,u1,_,_,_,_,_,_,_,_,_,_,_,_,_,_,_,u2,_,_,_,_,_,_,_,_,_,_,_,_,_,_,Q7 ⟨rfl,rfl,rfl,rfl,rfl,rfl,qZt⟩,(iT im3 (iT im4 (iT im5 (iT im6 im7)))),hS6.sel [2,1,0] rfl,(h17.mono (iT im4 (iT im5 (iT im6 im7)))),(h18.mono (iT im4 (iT im5 (iT im6 im7)))),(h19.mono (iT im4 (iT im5 (iT im6 im7)))),(h20.mono (iT im4 (iT im5 (iT im6 im7)))),(h21.mono (iT im4 (iT im5 (iT im6 im7)))),(h22.mono (iT im4 (iT im5 (iT im6 im7)))),(h23.mono (iT im4 (iT im5 (iT im6 im7)))),(h24.mono (iT im4 (iT im5 (iT im6 im7)))),(h25.mono (iT im4 (iT im5 (iT im6 im7)))),(h26.mono (iT im4 (iT im5 (iT im6 im7)))),(h27.mono (iT im4 (iT im5 (iT im6 im7)))),(h28.mono (iT im4 (iT im5 (iT im6 im7)))),(h29.mono (iT im4 (iT im5 (iT im6 im7)))),(h30.mono (iT im4 (iT im5 (iT im6 im7)))),hm⟩)
      refine⟨st1 rfl (Z5 rfl isAgg68 sizeOf68 rfl (hc2.same (im4 b4 hT2).2) (cs:=(B4 u2 a24 c24 a25 c25 a26 c26 a27 c27 a28 c28 a29 c29 a30 c30))) (st1 rfl (Z5 rfl isAgg68 sizeOf68 rfl (hc1.same (im4 b3 hT1).2) (cs:=(B4 u1 a17 c17 a18 c18 a19 c19 a20 c20 a21 c21 a22 c22 a23 c23))) (st0)),?_⟩
      refine tw [8] rfl (F5 rfl rfl qZt) rfl (by kernel_rfl) (by kernel_rfl) ⟨br [10,11] [(7,.agg (B4 u2 a24 c24 a25 c25 a26 c26 a27 c27 a28 c28 a29 c29 a30 c30).toArray),(3,.agg (B4 u1 a17 c17 a18 c18 a19 c19 a20 c20 a21 c21 a22 c22 a23 c23).toArray)] rfl (by kernel_rfl) (by kernel_rfl) qZt (by kernel_rfl) (alS (zs := [iv 0,iv 0,iv 0,.slice none 0 0,.slice none 0 0,.slice none 0 0,.slice none 0 0,.slice none 0 0,.slice none 0 0,.slice none 0 0]) zeroValue68 rfl hS3 fun w5 b6 im5 hS4 => ?_),qZt⟩
      refine⟨st1 rfl (Z5 rfl isAgg68 sizeOf68 rfl (hc2.same ((iT im4 im5) b4 hT2).2) (cs:=(B4 u2 a24 c24 a25 c25 a26 c26 a27 c27 a28 c28 a29 c29 a30 c30))) (st1 rfl (Z5 rfl isAgg68 sizeOf68 rfl (hc1.same ((iT im4 im5) b3 hT1).2) (cs:=(B4 u1 a17 c17 a18 c18 a19 c19 a20 c20 a21 c21 a22 c22 a23 c23))) (st0)),?_⟩
      refine tw [10] rfl (F5 rfl rfl qZt) rfl (by kernel_rfl) (by kernel_rfl) ⟨br [11] [(7,.agg (B4 u2 a24 c24 a25 c25 a26 c26 a27 c27 a28 c28 a29 c29 a30 c30).toArray)] rfl (by kernel_rfl) (by kernel_rfl) qZt (by kernel_rfl) (X6 (q:=0) hS4 ⟨rfl,rfl⟩ rfl rfl rfl sizeOf68 rfl rfl rfl fun w6 im6 hS5 => ?_),qZt⟩
      refine⟨st1 rfl (Z5 rfl isAgg68 sizeOf68 rfl (hc2.same ((iT im4 (iT im5 im6)) b4 hT2).2) (cs:=(B4 u2 a24 c24 a25 c25 a26 c26 a27 c27 a28 c28 a29 c29 a30 c30))) (st0),?_⟩
      refine tw [11] rfl (F5 rfl rfl qZt) rfl (by kernel_rfl) (by kernel_rfl) ⟨br [] [] rfl (by kernel_rfl) (by kernel_rfl) qZt (by kernel_rfl) (X6 (q:=1) hS5 ⟨rfl,rfl⟩ rfl rfl rfl sizeOf68 rfl rfl rfl fun w7 im7 hS6 => ?_),qZt⟩
      refine⟨st0,?_⟩
      exact te (Q0 ⟨_,_,_,u1,_,_,_,_,_,_,_,_,_,_,_,_,_,_,_,u2,_,_,_,_,_,_,_,_,_,_,_,_,_,_,Q7 ⟨rfl,rfl,rfl,rfl,rfl,rfl,qZt⟩,(iT im3 (iT im4 (iT im5 (iT im6 im7)))),hS6.sel [2,0,1] rfl,(h17.mono (iT im4 (iT im5 (iT im6 im7)))),(h18.mono (iT im4 (iT im5 (iT im6 im7)))),(h19.mono (iT im4 (iT im5 (iT im6 im7)))),(h20.mono (iT im4 (iT im5 (iT im6 im7)))),(h21.mono (iT im4 (iT im5 (iT im6 im7)))),(h22.mono (iT im4 (iT im5 (iT im6 im7)))),(h23.mono (iT im4 (iT im5 (iT im6 im7)))),(h24.mono (iT im4 (iT im5 (iT im6 im7)))),(h25.mono (iT im4 (iT im5 (iT im6 im7)))),(h26.mono (iT im4 (iT im5 (iT im6 im7)))),(h27.mono (iT im4 (iT im5 (iT im6 im7)))),(h28.mono (iT im4 (iT im5 (iT im6 im7)))),(h29.mono (iT im4 (iT im5 (iT im6 im7)))),(h30.mono (iT im4 (iT im5 (iT im6 im7)))),hm⟩)
    rintro _ w2 ⟨J,T2,b1,x2,a3,c3,a4,c4,a5,c5,a6,c6,a7,c7,a8,c8,a9,c9,b2,x3,a10,c10,a11,c11,a12,c12,a13,c13,a14,c14,a15,c15,a16,c16,rfl,im2,hS7,h3,h4,h5,h6,h7,h8,h9,h10,h11,h12,h13,h14,h15,h16,hm⟩
    rw [hkk1] at hm
    refine sq2 (sq2 (rg (pv (Z1 rfl underlying68 rfl sizeOf3 rfl) (pv (Z4 rfl isAgg3 (hS7.cell0 (i:=1) ⟨rfl,rfl⟩ (j:=0) rfl)) (pv (Z1 rfl underlying68 rfl sizeOf3 rfl) (pv (Z4 rfl isAgg3 (hS7.cell0 (i:=2) ⟨rfl,rfl⟩ (j:=0) rfl)) (pv (X7 rfl rfl rfl) (pv (Y7 rfl) (?_)))))))))
    rcases Bool.eq_false_or_eq_true (x2.Kind != x3.Kind) with hb3 | hb3
    · have hm:=V8 hb3 hm
      refine gF (d0:=37) rfl rfl (by rw [hb3]; rfl) (gF (d0:=37) rfl rfl (by rw [hb3]; rfl) (gF (d0:=37) rfl rfl (by rw [hb3]; rfl) (gU (d0:=40) rfl rfl (gU (d0:=40) rfl rfl (gU (d0:=40) rfl rfl (gU (d0:=40) rfl rfl (gU (d0:=40) rfl rfl (gF (d0:=37) rfl rfl (by rw [hb3]; rfl) (pv (Y1 rfl hb3 rfl) (pv (Y7 rfl) (gF (d0:=48) rfl rfl rfl (gF (d0:=48) rfl rfl rfl (gF (d0:=48) rfl rfl rfl (gF (d0:=48) rfl rfl rfl (gF (d0:=48) rfl rfl rfl (gF (d0:=48) rfl rfl rfl (gF (d0:=48) rfl rfl rfl (pv (Y1 rfl rfl rfl) (pv (Y7 rfl) (gF (d0:=57) rfl rfl rfl (gF (d0:=57) rfl rfl rfl (gF (d0:=57) rfl rfl rfl (gF (d0:=57) rfl rfl rfl (gF (d0:=57) rfl rfl rfl (gF (d0:=57) rfl rfl rfl (gF (d0:=57) rfl rfl rfl (pv (Y1 rfl rfl rfl) (pv (Y7 rfl) (gF (d0:=66) rfl rfl rfl (gF (d0:=66) rfl rfl rfl (gF (d0:=66) rfl rfl rfl (gF (d0:=66) rfl rfl rfl (gF (d0:=66) rfl rfl rfl (gF (d0:=66) rfl rfl rfl (gF (d0:=66) rfl rfl rfl (pv (Y1 rfl rfl rfl) (pv (Y7 rfl) (gF (d0:=75) rfl rfl rfl (gF (d0:=75) rfl rfl rfl (gF (d0:=75) rfl rfl rfl (gF (d0:=75) rfl rfl rfl (gF (d0:=75) rfl rfl rfl (gF (d0:=75) rfl rfl rfl (gF (d0:=75) rfl rfl rfl (pv (Y1 rfl rfl rfl) (pv (Y7 rfl) (gF (d0:=84) rfl rfl rfl (gF (d0:=84) rfl rfl rfl (gF (d0:=84) rfl rfl rfl (gF (d0:=84) rfl rfl rfl (gF (d0:=84) rfl rfl rfl (gF (d0:=84) rfl rfl rfl (gF (d0:=84) rfl rfl rfl (pv (Y1 rfl rfl rfl) (pv (Y7 rfl) (gF (d0:=93) rfl rfl rfl (gF (d0:=93) rfl rfl rfl (gF (d0:=93) rfl rfl rfl (gF (d0:=93) rfl rfl rfl (gF (d0:=93) rfl rfl rfl (gF (d0:=93) rfl rfl rfl (gF (d0:=93) rfl rfl rfl (pv (Y1 rfl rfl rfl) (pv (Y7 rfl) (gF (d0:=102) rfl rfl rfl (gF (d0:=102) rfl rfl rfl (gF (d0:=102) rfl rfl rfl (gF (d0:=102) rfl rfl rfl (gF (d0:=102) rfl rfl rfl (gF (d0:=102) rfl rfl rfl (gF (d0:=102) rfl rfl rfl (pv (Y1 rfl rfl rfl) (nil (Y9 [(0,sv a1 p0 c1),(1,sv a2 p1 c2),(2,.bool p2),(7,iv x1),(8,pt b1 0),(9,pt b2 0),(110,.bool true)] ⟨rfl,rfl,rfl,rfl,rfl,rfl,rfl,qZt⟩ fun J => ?_))))))))))))))))))))))))))))))))))))))))))))))))))))))))))))))))))))))))))
      refine cnd (b:=true) rfl (fun _ => ?_) (fun h=>nomatch h)
      refine sq2 (rg (pv (X5 rfl) (nil (Q0 ?_))))
      cases oI hm
      have hn1:_=Lp.ret _:=hn1
      subst hn1
      have hm:=X1 hq1
      cases oI hm
      exact rtn (Q6 (Y5 (Q6 (Q6 (Y5 (Q6 (U2 rfl rfl ⟨_,rfl,_,(iT im1 im2),⟨rfl,hS7.sel [0] rfl,qZt⟩⟩)))))))
    have hm:=X3 hb3 hm
    refine gT (d0:=37) rfl rfl hb3 (pv (Y7 rfl) (gT (d0:=37) rfl rfl hb3 (pv (L7 rfl) (gT (d0:=37) rfl rfl hb3 (pv (Y7 rfl) (?_))))))
    rcases Bool.eq_false_or_eq_true (!p2) with hb4 | hb4
    · have hm:=V8 hb4 hm
      refine gT (d0:=40) rfl rfl hb4 (pv (Z1 rfl underlying68 rfl sizeOf29 rfl) (gT (d0:=40) rfl rfl hb4 (pv (Z5 rfl isAgg29 sizeOf29 rfl (hS7.cells0 (i:=1) ⟨rfl,rfl⟩ (o:=1) rfl) (cs := [iv x2.Pos.Line,iv x2.Pos.Col])) (gT (d0:=40) rfl rfl hb4 (pv (Z1 rfl underlying68 rfl sizeOf29 rfl) (gT (d0:=40) rfl rfl hb4 (pv (Z5 rfl isAgg29 sizeOf29 rfl (hS7.cells0 (i:=2) ⟨rfl,rfl⟩ (o:=1) rfl) (cs := [iv x3.Pos.Line,iv x3.Pos.Col])) (gT (d0:=40) rfl rfl hb4 (pv (Q2q rfl rfl (Z1s x2.Pos.Line x2.Pos.Col x3.Pos.Line x3.Pos.Col)) (gT (d0:=37) rfl rfl hb3 (pv (Y1 rfl hb4 rfl) (pv (X9 rfl hb3 rfl) (pv (Y7 rfl) (?_))))))))))))))
      rcases Bool.eq_false_or_eq_true (!((x2.Pos.Line == x3.Pos.Line)&&(x2.Pos.Col == x3.Pos.Col))) with hb5 | hb5
      · have hm:=V8 hb5 hm
        refine gF (d0:=48) rfl rfl (by rw [hb5]; rfl) (gF (d0:=48) rfl rfl (by rw [hb5]; rfl) (gF (d0:=48) rfl rfl (by rw [hb5]; rfl) (gF (d0:=48) rfl rfl (by rw [hb5]; rfl) (gF (d0:=48) rfl rfl (by rw [hb5]; rfl) (gF (d0:=48) rfl rfl (by rw [hb5]; rfl) (gF (d0:=48) rfl rfl (by rw [hb5]; rfl) (pv (Y1 rfl hb5 rfl) (pv (Y7 rfl) (gF (d0:=57) rfl rfl rfl (gF (d0:=57) rfl rfl rfl (gF (d0:=57) rfl rfl rfl (gF (d0:=57) rfl rfl rfl (gF (d0:=57) rfl rfl rfl (gF (d0:=57) rfl rfl rfl (gF (d0:=57) rfl rfl rfl (pv (Y1 rfl rfl rfl) (pv (Y7 rfl) (gF (d0:=66) rfl rfl rfl (gF (d0:=66) rfl rfl rfl (gF (d0:=66) rfl rfl rfl (gF (d0:=66) rfl rfl rfl (gF (d0:=66) rfl rfl rfl (gF (d0:=66) rfl rfl rfl (gF (d0:=66) rfl rfl rfl (pv (Y1 rfl rfl rfl) (pv (Y7 rfl) (gF (d0:=75) rfl rfl rfl (gF (d0:=75) rfl rfl rfl (gF (d0:=75) rfl rfl rfl (gF (d0:=75) rfl rfl rfl (gF (d0:=75) rfl rfl rfl (gF (d0:=75) rfl rfl rfl (gF (d0:=75) rfl rfl rfl (pv (Y1 rfl rfl rfl) (pv (Y7 rfl) (gF (d0:=84) rfl rfl rfl (gF (d0:=84) rfl rfl rfl (gF (d0:=84) rfl rfl rfl (gF (d0:=84) rfl rfl rfl (gF (d0:=84) rfl rfl rfl (gF (d0:=84) rfl rfl rfl (gF (d0:=84) rfl rfl rfl (pv (Y1 rfl rfl rfl) (pv (Y7 rfl) (gF (d0:=93) rfl rfl rfl (gF (d0:=93) rfl rfl rfl (gF (d0:=93) rfl rfl rfl (gF (d0:=93) rfl rfl rfl (gF (d0:=93) rfl rfl rfl (gF (d0:=93) rfl rfl rfl (gF (d0:=93) rfl rfl rfl (pv (Y1 rfl rfl rfl) (pv (Y7 rfl) (gF (d0:=102) rfl rfl rfl (gF (d0:=102) rfl rfl rfl (gF (d0:=102) rfl rfl rfl (gF (d0:=102) rfl rfl rfl (gF (d0:=102) rfl rfl rfl (gF (d0:=102) rfl rfl rfl (gF (d0:=102) rfl rfl rfl (pv (Y1 rfl rfl rfl) (nil (Y9 [(0,sv a1 p0 c1),(1,sv a2 p1 c2),(2,.bool p2),(7,iv x1),(8,pt b1 0),(9,pt b2 0),(110,.bool true)] ⟨rfl,rfl,rfl,rfl,rfl,rfl,rfl,qZt⟩ fun J => ?_)))))))))))))))))))))))))))))))))))))))))))))))))))))))))))))))
        refine cnd (b:=true) rfl (fun _ => ?_) (fun h=>nomatch h)
        refine sq2 (rg (pv (X5 rfl) (nil (Q0 ?_))))
        cases oI hm
        have hn1:_=Lp.ret _:=hn1
        subst hn1
        have hm:=X1 hq1
        cases oI hm
        exact rtn (Q6 (Y5 (Q6 (Q6 (Y5 (Q6 (U2 rfl rfl ⟨_,rfl,_,(iT im1 im2),⟨rfl,hS7.sel [0] rfl,qZt⟩⟩)))))))
      have hm:=X3 hb5 hm
      obtain⟨y1,hx3,hm⟩:=Q4 hm
      refine gT (d0:=48) rfl rfl hb5 (pv (Z1 rfl underlying68 rfl sizeOf56 rfl) (gT (d0:=48) rfl rfl hb5 (pv (Z4 rfl isAgg56 (hS7.cell0 (i:=1) ⟨rfl,rfl⟩ (j:=3) rfl)) (gT (d0:=48) rfl rfl hb5 (pv (Z1 rfl underlying68 rfl sizeOf56 rfl) (gT (d0:=48) rfl rfl hb5 (pv (Z4 rfl isAgg56 (hS7.cell0 (i:=2) ⟨rfl,rfl⟩ (j:=3) rfl)) (gT (d0:=48) rfl rfl hb5 (pv (Y7 rfl) (gT (d0:=48) rfl rfl hb5 (wl rfl (Z7 cf41 rfl (H6 (p0:=x2.A) (p1:=x3.A) (p2:=p2) (hS7.bun [0,1,2] [] rfl) h3 h10 hx3) rfl fun v1 T3 w8 im8 rv1 => ?_))))))))))))
      obtain⟨rfl,hS8,_⟩:=rv1
      have hS8:=hS8.unb
      refine gT (d0:=48) rfl rfl hb5 (pv (L7 rfl) (pv (X9 rfl hb5 rfl) (pv (Y7 rfl) (?_))))
      rcases Bool.eq_false_or_eq_true (!y1) with hb6 | hb6
      · have hm:=V8 hb6 hm
        refine gF (d0:=57) rfl rfl (by rw [hb6]; rfl) (gF (d0:=57) rfl rfl (by rw [hb6]; rfl) (gF (d0:=57) rfl rfl (by rw [hb6]; rfl) (gF (d0:=57) rfl rfl (by rw [hb6]; rfl) (gF (d0:=57) rfl rfl (by rw [hb6]; rfl) (gF (d0:=57) rfl rfl (by rw [hb6]; rfl) (gF (d0:=57) rfl rfl (by rw [hb6]; rfl) (pv (Y1 rfl hb6 rfl) (pv (Y7 rfl) (gF (d0:=66) rfl rfl rfl (gF (d0:=66) rfl rfl rfl (gF (d0:=66) rfl rfl rfl (gF (d0:=66) rfl rfl rfl (gF (d0:=66) rfl rfl rfl (gF (d0:=66) rfl rfl rfl (gF (d0:=66) rfl rfl rfl (pv (Y1 rfl rfl rfl) (pv (Y7 rfl) (gF (d0:=75) rfl rfl rfl (gF (d0:=75) rfl rfl rfl (gF (d0:=75) rfl rfl rfl (gF (d0:=75) rfl rfl rfl (gF (d0:=75) rfl rfl rfl (gF (d0:=75) rfl rfl rfl (gF (d0:=75) rfl rfl rfl (pv (Y1 rfl rfl rfl) (pv (Y7 rfl) (gF (d0:=84) rfl rfl rfl (gF (d0:=84) rfl rfl rfl (gF (d0:=84) rfl rfl rfl (gF (d0:=84) rfl rfl rfl (gF (d0:=84) rfl rfl rfl (gF (d0:=84) rfl rfl rfl (gF (d0:=84) rfl rfl rfl (pv (Y1 rfl rfl rfl) (pv (Y7 rfl) (gF (d0:=93) rfl rfl rfl (gF (d0:=93) rfl rfl rfl (gF (d0:=93) rfl rfl rfl (gF (d0:=93) rfl rfl rfl (gF (d0:=93) rfl rfl rfl (gF (d0:=93) rfl rfl rfl (gF (d0:=93) rfl rfl rfl (pv (Y1 rfl rfl rfl) (pv (Y7 rfl) (gF (d0:=102) rfl rfl rfl (gF (d0:=102) rfl rfl rfl (gF (d0:=102) rfl rfl rfl (gF (d0:=102) rfl rfl rfl (gF (d0:=102) rfl rfl rfl (gF (d0:=102) rfl rfl rfl (gF (d0:=102) rfl rfl rfl (pv (Y1 rfl rfl rfl) (nil (Y9 [(0,sv a1 p0 c1),(1,sv a2 p1 c2),(2,.bool p2),(7,iv x1),(8,pt b1 0),(9,pt b2 0),(110,.bool true)] ⟨rfl,rfl,rfl,rfl,rfl,rfl,rfl,qZt⟩ fun J => ?_))))))))))))))))))))))))))))))))))))))))))))))))))))))
        refine cnd (b:=true) rfl (fun _ => ?_) (fun h=>nomatch h)
        refine sq2 (rg (pv (X5 rfl) (nil (Q0 ?_))))
        cases oI hm
        have hn1:_=Lp.ret _:=hn1
        subst hn1
        have hm:=X1 hq1
        cases oI hm
        exact rtn (Q6 (Y5 (Q6 (Q6 (Y5 (Q6 (U2 rfl rfl ⟨_,rfl,_,(iT im1 (iT im2 im8)),⟨rfl,hS8.sel [0] rfl,qZt⟩⟩)))))))
      have hm:=X3 hb6 hm
      obtain⟨y2,hx4,hm⟩:=Q4 hm
      refine gT (d0:=57) rfl rfl hb6 (pv (Z1 rfl underlying68 rfl sizeOf56 rfl) (gT (d0:=57) rfl rfl hb6 (pv (Z4 rfl isAgg56 (hS8.cell0 (i:=1) ⟨rfl,rfl⟩ (j:=4) rfl)) (gT (d0:=57) rfl rfl hb6 (pv (Z1 rfl underlying68 rfl sizeOf56 rfl) (gT (d0:=57) rfl rfl hb6 (pv (Z4 rfl isAgg56 (hS8.cell0 (i:=2) ⟨rfl,rfl⟩ (j:=4) rfl)) (gT (d0:=57) rfl rfl hb6 (pv (Y7 rfl) (gT (d0:=57) rfl rfl hb6 (wl rfl (Z7 cf41 rfl (H6 (p0:=x2.B) (p1:=x3.B) (p2:=p2) (hS8.bun [0,1,2] [] rfl) (h4.mono im8) (h11.mono im8) hx4) rfl fun v2 T4 w9 im9 rv2 => ?_))))))))))))
      obtain⟨rfl,hS9,_⟩:=rv2
      have hS9:=hS9.unb
      refine gT (d0:=57) rfl rfl hb6 (pv (L7 rfl) (pv (X9 rfl hb6 rfl) (pv (Y7 rfl) (?_))))
      rcases Bool.eq_false_or_eq_true (!y2) with hb7 | hb7
      · have hm:=V8 hb7 hm
        refine gF (d0:=66) rfl rfl (by rw [hb7]; rfl) (gF (d0:=66) rfl rfl (by rw [hb7]; rfl) (gF (d0:=66) rfl rfl (by rw [hb7]; rfl) (gF (d0:=66) rfl rfl (by rw [hb7]; rfl) (gF (d0:=66) rfl rfl (by rw [hb7]; rfl) (gF (d0:=66) rfl rfl (by rw [hb7]; rfl) (gF (d0:=66) rfl rfl (by rw [hb7]; rfl) (pv (Y1 rfl hb7 rfl) (pv (Y7 rfl) (gF (d0:=75) rfl rfl rfl (gF (d0:=75) rfl rfl rfl (gF (d0:=75) rfl rfl rfl (gF (d0:=75) rfl rfl rfl (gF (d0:=75) rfl rfl rfl (gF (d0:=75) rfl rfl rfl (gF (d0:=75) rfl rfl rfl (pv (Y1 rfl rfl rfl) (pv (Y7 rfl) (gF (d0:=84) rfl rfl rfl (gF (d0:=84) rfl rfl rfl (gF (d0:=84) rfl rfl rfl (gF (d0:=84) rfl rfl rfl (gF (d0:=84) rfl rfl rfl (gF (d0:=84) rfl rfl rfl (gF (d0:=84) rfl rfl rfl (pv (Y1 rfl rfl rfl) (pv (Y7 rfl) (gF (d0:=93) rfl rfl rfl (gF (d0:=93) rfl rfl rfl (gF (d0:=93) rfl rfl rfl (gF (d0:=93) rfl rfl rfl (gF (d0:=93) rfl rfl rfl (gF (d0:=93) rfl rfl rfl (gF (d0:=93) rfl rfl rfl (pv (Y1 rfl rfl rfl) (pv (Y7 rfl) (gF (d0:=102) rfl rfl rfl (gF (d0:=102) rfl rfl rfl (gF (d0:=102) rfl rfl rfl (gF (d0:=102) rfl rfl rfl (gF (d0:=102) rfl rfl rfl (gF (d0:=102) rfl rfl rfl (gF (d0:=102) rfl rfl rfl (pv (Y1 rfl rfl rfl) (nil (Y9 [(0,sv a1 p0 c1),(1,sv a2 p1 c2),(2,.bool p2),(7,iv x1),(8,pt b1 0),(9,pt b2 0),(110,.bool true)] ⟨rfl,rfl,rfl,rfl,rfl,rfl,rfl,qZt⟩ fun J => ?_)))))))))))))))))))))))))))))))))))))))))))))
        refine cnd (b:=true) rfl (fun _ => ?_) (fun h=>nomatch h)
        refine sq2 (rg (pv (X5 rfl) (nil (Q0 ?_))))
        cases oI hm
        have hn1:_=Lp.ret _:=hn1
        subst hn1
        have hm:=X1 hq1
        cases oI hm
        exact rtn (Q6 (Y5 (Q6 (Q6 (Y5 (Q6 (U2 rfl rfl ⟨_,rfl,_,(iT im1 (iT im2 (iT im8 im9))),⟨rfl,hS9.sel [0] rfl,qZt⟩⟩)))))))
      have hm:=X3 hb7 hm
      obtain⟨y3,hx5,hm⟩:=Q4 hm
      refine gT (d0:=66) rfl rfl hb7 (pv (Z1 rfl underlying68 rfl sizeOf56 rfl) (gT (d0:=66) rfl rfl hb7 (pv (Z4 rfl isAgg56 (hS9.cell0 (i:=1) ⟨rfl,rfl⟩ (j:=5) rfl)) (gT (d0:=66) rfl rfl hb7 (pv (Z1 rfl underlying68 rfl sizeOf56 rfl) (gT (d0:=66) rfl rfl hb7 (pv (Z4 rfl isAgg56 (hS9.cell0 (i:=2) ⟨rfl,rfl⟩ (j:=5) rfl)) (gT (d0:=66) rfl rfl hb7 (pv (Y7 rfl) (gT (d0:=66) rfl rfl hb7 (wl rfl (Z7 cf41 rfl (H6 (p0:=x2.C) (p1:=x3.C) (p2:=p2) (hS9.bun [0,1,2] [] rfl) (h5.mono (iT im8 im9)) (h12.mono (iT im8 im9)) hx5) rfl fun v3 T5 w10 im10 rv3 => ?_))))))))))))
      obtain⟨rfl,hS10,_⟩:=rv3
      have hS10:=hS10.unb
      refine gT (d0:=66) rfl rfl hb7 (pv (L7 rfl) (pv (X9 rfl hb7 rfl) (pv (Y7 rfl) (?_))))
      rcases Bool.eq_false_or_eq_true (!y3) with hb8 | hb8
      · have hm:=V8 hb8 hm
        refine gF (d0:=75) rfl rfl (by rw [hb8]; rfl) (gF (d0:=75) rfl rfl (by rw [hb8]; rfl) (gF (d0:=75) rfl rfl (by rw [hb8]; rfl) (gF (d0:=75) rfl rfl (by rw [hb8]; rfl) (gF (d0:=75) rfl rfl (by rw [hb8]; rfl) (gF (d0:=75) rfl rfl (by rw [hb8]; rfl) (gF (d0:=75) rfl rfl (by rw [hb8]; rfl) (pv (Y1 rfl hb8 rfl) (pv (Y7 rfl) (gF (d0:=84) rfl rfl rfl (gF (d0:=84) rfl rfl rfl (gF (d0:=84) rfl rfl rfl (gF (d0:=84) rfl rfl rfl (gF (d0:=84) rfl rfl rfl (gF (d0:=84) rfl rfl rfl (gF (d0:=84) rfl rfl rfl (pv (Y1 rfl rfl rfl) (pv (Y7 rfl) (gF (d0:=93) rfl rfl rfl (gF (d0:=93) rfl rfl rfl (gF (d0:=93) rfl rfl rfl (gF (d0:=93) rfl rfl rfl (gF (d0:=93) rfl rfl rfl (gF (d0:=93) rfl rfl rfl (gF (d0:=93) rfl rfl rfl (pv (Y1 rfl rfl rfl) (pv (Y7 rfl) (gF (d0:=102) rfl rfl rfl (gF (d0:=102) rfl rfl rfl (gF (d0:=102) rfl rfl rfl (gF (d0:=102) rfl rfl rfl (gF (d0:=102) rfl rfl rfl (gF (d0:=102) rfl rfl rfl (gF (d0:=102) rfl rfl rfl (pv (Y1 rfl rfl rfl) (nil (Y9 [(0,sv a1 p0 c1),(1,sv a2 p1 c2),(2,.bool p2),(7,iv x1),(8,pt b1 0),(9,pt b2 0),(110,.bool true)] ⟨rfl,rfl,rfl,rfl,rfl,rfl,rfl,qZt⟩ fun J => ?_))))))))))))))))))))))))))))))))))))
        refine cnd (b:=true) rfl (fun _ => ?_) (fun h=>nomatch h)
        refine sq2 (rg (pv (X5 rfl) (nil (Q0 ?_))))
        cases oI hm
        have hn1:_=Lp.ret _:=hn1
        subst hn1
        have hm:=X1 hq1
        cases oI hm
        exact rtn (Q6 (Y5 (Q6 (Q6 (Y5 (Q6 (U2 rfl rfl ⟨_,rfl,_,(iT im1 (iT im2 (iT im8 (iT im9 im10)))),⟨rfl,hS10.sel [0] rfl,qZt⟩⟩)))))))
      have hm:=X3 hb8 hm
      obtain⟨y4,hx6,hm⟩:=Q4 hm
      refine gT (d0:=75) rfl rfl hb8 (pv (Z1 rfl underlying68 rfl sizeOf24 rfl) (gT (d0:=75) rfl rfl hb8 (pv (Z4 rfl isAgg24 (hS10.cell0 (i:=1) ⟨rfl,rfl⟩ (j:=6) rfl)) (gT (d0:=75) rfl rfl hb8 (pv (Z1 rfl underlying68 rfl sizeOf24 rfl) (gT (d0:=75) rfl rfl hb8 (pv (Z4 rfl isAgg24 (hS10.cell0 (i:=2) ⟨rfl,rfl⟩ (j:=6) rfl)) (gT (d0:=75) rfl rfl hb8 (pv (Y7 rfl) (gT (d0:=75) rfl rfl hb8 (wl rfl (Z7 cf20 rfl (O3 (p0:=x2.Var) (p1:=x3.Var) (p2:=p2) (hS10.bun [0,1,2] [] rfl) (h6.mono (iT im8 (iT im9 im10))) (h13.mono (iT im8 (iT im9 im10))) hx6) rfl fun v4 T6 w11 im11 rv4 => ?_))))))))))))
      obtain⟨rfl,hS11,_⟩:=rv4
      have hS11:=hS11.unb
      refine gT (d0:=75) rfl rfl hb8 (pv (L7 rfl) (pv (X9 rfl hb8 rfl) (pv (Y7 rfl) (?_))))
      rcases Bool.eq_false_or_eq_true (!y4) with hb9 | hb9
      · have hm:=V8 hb9 hm
        refine gF (d0:=84) rfl rfl (by rw [hb9]; rfl) (gF (d0:=84) rfl rfl (by rw [hb9]; rfl) (gF (d0:=84) rfl rfl (by rw [hb9]; rfl) (gF (d0:=84) rfl rfl (by rw [hb9]; rfl) (gF (d0:=84) rfl rfl (by rw [hb9]; rfl) (gF (d0:=84) rfl rfl (by rw [hb9]; rfl) (gF (d0:=84) rfl rfl (by rw [hb9]; rfl) (pv (Y1 rfl hb9 rfl) (pv (Y7 rfl) (gF (d0:=93) rfl rfl rfl (gF (d0:=93) rfl rfl rfl (gF (d0:=93) rfl rfl rfl (gF (d0:=93) rfl rfl rfl (gF (d0:=93) rfl rfl rfl (gF (d0:=93) rfl rfl rfl (gF (d0:=93) rfl rfl rfl (pv (Y1 rfl rfl rfl) (pv (Y7 rfl) (gF (d0:=102) rfl rfl rfl (gF (d0:=102) rfl rfl rfl (gF (d0:=102) rfl rfl rfl (gF (d0:=102) rfl rfl rfl (gF (d0:=102) rfl rfl rfl (gF (d0:=102) rfl rfl rfl (gF (d0:=102) rfl rfl rfl (pv (Y1 rfl rfl rfl) (nil (Y9 [(0,sv a1 p0 c1),(1,sv a2 p1 c2),(2,.bool p2),(7,iv x1),(8,pt b1 0),(9,pt b2 0),(110,.bool true)] ⟨rfl,rfl,rfl,rfl,rfl,rfl,rfl,qZt⟩ fun J => ?_)))))))))))))))))))))))))))
        refine cnd (b:=true) rfl (fun _ => ?_) (fun h=>nomatch h)
        refine sq2 (rg (pv (X5 rfl) (nil (Q0 ?_))))
        cases oI hm
        have hn1:_=Lp.ret _:=hn1
        subst hn1
        have hm:=X1 hq1
        cases oI hm
        exact rtn (Q6 (Y5 (Q6 (Q6 (Y5 (Q6 (U2 rfl rfl ⟨_,rfl,_,(iT im1 (iT im2 (iT im8 (iT im9 (iT im10 im11))))),⟨rfl,hS11.sel [0] rfl,qZt⟩⟩)))))))
      have hm:=X3 hb9 hm
      obtain⟨y5,hx7,hm⟩:=Q4 hm
      refine gT (d0:=84) rfl rfl hb9 (pv (Z1 rfl underlying68 rfl sizeOf62 rfl) (gT (d0:=84) rfl rfl hb9 (pv (Z4 rfl isAgg62 (hS11.cell0 (i:=1) ⟨rfl,rfl⟩ (j:=7) rfl)) (gT (d0:=84) rfl rfl hb9 (pv (Z1 rfl underlying68 rfl sizeOf62 rfl) (gT (d0:=84) rfl rfl hb9 (pv (Z4 rfl isAgg62 (hS11.cell0 (i:=2) ⟨rfl,rfl⟩ (j:=7) rfl)) (gT (d0:=84) rfl rfl hb9 (pv (Y7 rfl) (gT (d0:=84) rfl rfl hb9 (wl rfl (Z7 cf21 rfl (hG.J9 (p0:=x2.Body) (p1:=x3.Body) (p2:=p2) (hS11.bun [0,1,2] [] rfl) (h7.mono (iT im8 (iT im9 (iT im10 im11)))) (h14.mono (iT im8 (iT im9 (iT im10 im11)))) hx7) rfl fun v5 T7 w12 im12 rv5 => ?_))))))))))))
      obtain⟨rfl,hS12,_⟩:=rv5
      have hS12:=hS12.unb
      refine gT (d0:=84) rfl rfl hb9 (pv (L7 rfl) (pv (X9 rfl hb9 rfl) (pv (Y7 rfl) (?_))))
      rcases Bool.eq_false_or_eq_true (!y5) with hb10 | hb10
      · have hm:=V8 hb10 hm
        refine gF (d0:=93) rfl rfl (by rw [hb10]; rfl) (gF (d0:=93) rfl rfl (by rw [hb10]; rfl) (gF (d0:=93) rfl rfl (by rw [hb10]; rfl) (gF (d0:=93) rfl rfl (by rw [hb10]; rfl) (gF (d0:=93) rfl rfl (by rw [hb10]; rfl) (gF (d0:=93) rfl rfl (by rw [hb10]; rfl) (gF (d0:=93) rfl rfl (by rw [hb10]; rfl) (pv (Y1 rfl hb10 rfl) (pv (Y7 rfl) (gF (d0:=102) rfl rfl rfl (gF (d0:=102) rfl rfl rfl (gF (d0:=102) rfl rfl rfl (gF (d0:=102) rfl rfl rfl (gF (d0:=102) rfl rfl rfl (gF (d0:=102) rfl rfl rfl (gF (d0:=102) rfl rfl rfl (pv (Y1 rfl rfl rfl) (nil (Y9 [(0,sv a1 p0 c1),(1,sv a2 p1 c2),(2,.bool p2),(7,iv x1),(8,pt b1 0),(9,pt b2 0),(110,.bool true)] ⟨rfl,rfl,rfl,rfl,rfl,rfl,rfl,qZt⟩ fun J => ?_))))))))))))))))))
        refine cnd (b:=true) rfl (fun _ => ?_) (fun h=>nomatch h)
        refine sq2 (rg (pv (X5 rfl) (nil (Q0 ?_))))
        cases oI hm
        have hn1:_=Lp.ret _:=hn1
        subst hn1
        have hm:=X1 hq1
        cases oI hm
        exact rtn (Q6 (Y5 (Q6 (Q6 (Y5 (Q6 (U2 rfl rfl ⟨_,rfl,_,(iT im1 (iT im2 (iT im8 (iT im9 (iT im10 (iT im11 im12)))))),⟨rfl,hS12.sel [0] rfl,qZt⟩⟩)))))))
      have hm:=X3 hb10 hm
      obtain⟨y6,hx8,hm⟩:=Q4 hm
      refine gT (d0:=93) rfl rfl hb10 (pv (Z1 rfl underlying68 rfl sizeOf62 rfl) (gT (d0:=93) rfl rfl hb10 (pv (Z4 rfl isAgg62 (hS12.cell0 (i:=1) ⟨rfl,rfl⟩ (j:=8) rfl)) (gT (d0:=93) rfl rfl hb10 (pv (Z1 rfl underlying68 rfl sizeOf62 rfl) (gT (d0:=93) rfl rfl hb10 (pv (Z4 rfl isAgg62 (hS12.cell0 (i:=2) ⟨rfl,rfl⟩ (j:=8) rfl)) (gT (d0:=93) rfl rfl hb10 (pv (Y7 rfl) (gT (d0:=93) rfl rfl hb10 (wl rfl (Z7 cf21 rfl (hG.J9 (p0:=x2.Else) (p1:=x3.Else) (p2:=p2) (hS12.bun [0,1,2] [] rfl) (h8.mono (iT im8 (iT im9 (iT im10 (iT im11 im12))))) (h15.mono (iT im8 (iT im9 (iT im10 (iT im11 im12))))) hx8) rfl fun v6 T8 w13 im13 rv6 => ?_))))))))))))
      obtain⟨rfl,hS13,_⟩:=rv6
      have hS13:=hS13.unb
      refine gT (d0:=93) rfl rfl hb10 (pv (L7 rfl) (pv (X9 rfl hb10 rfl) (pv (Y7 rfl) (?_))))
      rcases Bool.eq_false_or_eq_true (!y6) with hb11 | hb11
      · have hm:=V8 hb11 hm
        refine gF (d0:=102) rfl rfl (by rw [hb11]; rfl) (gF (d0:=102) rfl rfl (by rw [hb11]; rfl) (gF (d0:=102) rfl rfl (by rw [hb11]; rfl) (gF (d0:=102) rfl rfl (by rw [hb11]; rfl) (gF (d0:=102) rfl rfl (by rw [hb11]; rfl) (gF (d0:=102) rfl rfl (by rw [hb11]; rfl) (gF (d0:=102) rfl rfl (by rw [hb11]; rfl) (pv (Y1 rfl hb11 rfl) (nil (Y9 [(0,sv a1 p0 c1),(1,sv a2 p1 c2),(2,.bool p2),(7,iv x1),(8,pt b1 0),(9,pt b2 0),(110,.bool true)] ⟨rfl,rfl,rfl,rfl,rfl,rfl,rfl,qZt⟩ fun J => ?_)))))))))
        refine cnd (b:=true) rfl (fun _ => ?_) (fun h=>nomatch h)
        refine sq2 (rg (pv (X5 rfl) (nil (Q0 ?_))))
        cases oI hm
        have hn1:_=Lp.ret _:=hn1
        subst hn1
        have hm:=X1 hq1
        cases oI hm
        exact rtn (Q6 (Y5 (Q6 (Q6 (Y5 (Q6 (U2 rfl rfl ⟨_,rfl,_,(iT im1 (iT im2 (iT im8 (iT im9 (iT im10 (iT im11 (iT im12 im13))))))),⟨rfl,hS13.sel [0] rfl,qZt⟩⟩)))))))
      have hm:=X3 hb11 hm
      refine gT (d0:=102) rfl rfl hb11 (pv (Z1 rfl underlying68 rfl sizeOf66 rfl) (gT (d0:=102) rfl rfl hb11 (pv (Z4 rfl isAgg66 (hS13.cell0 (i:=1) ⟨rfl,rfl⟩ (j:=9) rfl)) (gT (d0:=102) rfl rfl hb11 (pv (L3 rfl underlying66) (gT (d0:=102) rfl rfl hb11 (pv (Z1 rfl underlying68 rfl sizeOf66 rfl) (gT (d0:=102) rfl rfl hb11 (pv (Z4 rfl isAgg66 (hS13.cell0 (i:=2) ⟨rfl,rfl⟩ (j:=9) rfl)) (gT (d0:=102) rfl rfl hb11 (pv (L3 rfl underlying66) (gT (d0:=102) rfl rfl hb11 (pv (X7 rfl rfl rfl) (pv (X9 rfl hb11 rfl) (nil (Y9 [(0,sv a1 p0 c1),(1,sv a2 p1 c2),(2,.bool p2),(7,iv x1),(8,pt b1 0),(9,pt b2 0),(110,.bool ((List.length x2.Cases:Int) != (List.length x3.Cases:Int)))] ⟨rfl,rfl,rfl,rfl,rfl,rfl,rfl,qZt⟩ fun J => ?_))))))))))))))))
      refine V3 rfl hm (fun hb12 hm => ?_) fun hb12 hm => ?_
      · refine sq2 (rg (pv (X5 rfl) (nil (Q0 ?_))))
        cases oI hm
        have hn1:_=Lp.ret _:=hn1
        subst hn1
        have hm:=X1 hq1
        cases oI hm
        exact rtn (Q6 (Y5 (Q6 (Q6 (Y5 (Q6 (U2 rfl rfl ⟨_,rfl,_,(iT im1 (iT im2 (iT im8 (iT im9 (iT im10 (iT im11 (iT im12 im13))))))),⟨rfl,hS13.sel [0] rfl,qZt⟩⟩)))))))
      refine skp (Q0 ?_)
      refine sq2 (rg (pv (J0 rfl) (nil (Q0 ?_))))
      obtain⟨o2,ho2,hq2⟩:=Q4 hm
      obtain⟨bd2,hbd2,ho2⟩:=K3 ho2
      refine blk (wp_loop_ghost (fun m a w14 => ∃(J:JV) (T9:TP) (x4:Int),a=env (nf 160) J [(0,sv a1 p0 c1),(1,sv a2 p1 c2),(2,.bool p2),(7,iv x1),(8,pt b1 0),(9,pt b2 0),(10,iv x4)]∧Im T8 w13 T9 w14∧Sep g T9 w14 [R,J6 b1 (B4 x2 a3 c3 a4 c4 a5 c5 a6 c6 a7 c7 a8 c8 a9 c9),J6 b2 (B4 x3 a10 c10 a11 c11 a12 c12 a13 c13 a14 c14 a15 c15 a16 c16)]∧V7 bd2 m x4=some o2) NN ⟨_,_,0,Q7 ⟨rfl,rfl,rfl,rfl,rfl,rfl,rfl,qZt⟩,Im.refl,hS13.sel [0,1,2] rfl,ho2⟩ ?_)
      rintro m _ w14 ⟨J,T9,x4,rfl,im14,hS14,ho2⟩
      obtain⟨m2,z2,rfl,hm,hn2⟩:=U4 ho2
      rw [hbd2] at hm
      refine sq2 (sq2 (rg (pv (U1 rfl) (pv (Z1 rfl underlying68 rfl sizeOf66 rfl) (pv (Z4 rfl isAgg66 (hS14.cell0 (i:=1) ⟨rfl,rfl⟩ (j:=9) rfl)) (pv (L3 rfl underlying66) (pv (X7 rfl rfl rfl) (nil (Q0 ?_)))))))))
      refine V3 rfl hm (fun hb13 hm => ?_) fun hb13 hm => ?_
      · refine skp (Q0 ?_)
        refine sq2 (blk ?_)
        obtain⟨kk2,hkk2,hm⟩:=F6 hm
        refine cut (fun a w15 => ∃(J:JV) (T10:TP) (b7:Nat) (x5:K7) (a31:OA) (c31:Nat) (b8:Nat) (x6:K7) (a32:OA) (c32:Nat),a=env (nf 160) J [(0,sv a1 p0 c1),(1,sv a2 p1 c2),(2,.bool p2),(7,iv x1),(8,pt b1 0),(9,pt b2 0),(10,iv x4),(11,pt b7 0),(12,pt b8 0)]∧Im T9 w14 T10 w15∧Sep g T10 w15 [R,J6 b1 (B4 x2 a3 c3 a4 c4 a5 c5 a6 c6 a7 c7 a8 c8 a9 c9),J6 b2 (B4 x3 a10 c10 a11 c11 a12 c12 a13 c13 a14 c14 a15 c15 a16 c16),J6 b7 (F4 x5 a31 c31),J6 b8 (F4 x6 a32 c32)]∧SlR E1 T10 w15 (sv a31 x5.Body c31) x5.Body∧SlR E1 T10 w15 (sv a32 x6.Body c32) x6.Body∧kk2 x5 x6=some z2) ?_ ?_
        · refine rt [0,1,0,0,1,0,1,0,0,1,2,2,2,2] [0,1,2,3,4,5,6,7,8,9,10,11,12,13] mix (by kernel_rfl) hS14.lt fun w16 i2 => ?_
          have im16:=i2.imm
          have hS15:=hS14.keep i2 (fun _ h=>h)
          obtain⟨u3,hx9,hm⟩:=Q4 hm
          obtain⟨b9,of3,cs3,k3,cp3,hv3,hp3,hl3,he3,hr3,hc3,hT3⟩:=(h9.mono (iT im8 (iT im9 (iT im10 (iT im11 (iT im12 (iT im13 (iT im14 im16)))))))).ixT hx9 rfl
          obtain⟨a33,c33,rfl,h33⟩:=Q1f hr3
          obtain⟨u4,hx10,hm⟩:=Q4 hm
          obtain⟨b10,of4,cs4,k4,cp4,hv4,hp4,hl4,he4,hr4,hc4,hT4⟩:=(h16.mono (iT im8 (iT im9 (iT im10 (iT im11 (iT im12 (iT im13 (iT im14 im16)))))))).ixT hx10 rfl
          obtain⟨a34,c34,rfl,h34⟩:=Q1f hr4
          refine t0 rfl qZt (fun _=>Z1 rfl underlying68 rfl sizeOf66 rfl) rfl (t1 rfl qZt (Z4 rfl isAgg66 (hS15.cell0 (i:=1) ⟨rfl,rfl⟩ (j:=9) rfl)) rfl (t0 rfl qZt (fun _=>U1 rfl) rfl (t0 rfl qZt (fun _=>B2 hv3 rfl underlying66 sizeOf105 hp3 hl3 he3) rfl (t1 rfl qZt (Z5 rfl isAgg105 sizeOf105 rfl hc3 (cs:=(F4 u3 a33 c33))) rfl (t0 rfl qZt (fun _=>Z1 rfl underlying68 rfl sizeOf66 rfl) rfl (t1 rfl qZt (Z4 rfl isAgg66 (hS15.cell0 (i:=2) ⟨rfl,rfl⟩ (j:=9) rfl)) rfl (t0 rfl qZt (fun _=>U1 rfl) rfl (t0 rfl qZt (fun _=>B2 hv4 rfl underlying66 sizeOf105 hp4 hl4 he4) rfl (t1 rfl qZt (Z5 rfl isAgg105 sizeOf105 rfl hc4 (cs:=(F4 u4 a34 c34))) rfl (tw [10,11] rfl (F5 rfl rfl qZt) rfl (by kernel_rfl) (by kernel_rfl) ⟨br [11,12,13] [(9,.agg (F4 u4 a34 c34).toArray),(6,sv a16 x3.Cases c16),(4,.agg (F4 u3 a33 c33).toArray),(1,sv a9 x2.Cases c9)] rfl (by kernel_rfl) (by kernel_rfl) qZt (by kernel_rfl) (alS (zs := [iv 0,iv 0,.bool false,.int .u32 0,.slice none 0 0]) zeroValue105 rfl hS15 fun w17 b11 im17 hS16 => ?_),br [10,12,13] [(9,.agg (F4 u4 a34 c34).toArray),(6,sv a16 x3.Cases c16),(4,.agg (F4 u3 a33 c33).toArray),(1,sv a9 x2.Cases c9)] rfl (by kernel_rfl) (by kernel_rfl) qZt (by kernel_rfl) (alS (zs := [iv 0,iv 0,.bool false,.int .u32 0,.slice none 0 0]) zeroValue105 rfl hS15 fun w17 b11 im17 hS16 => ?_),qZt⟩))))))))))
          · refine⟨st1 rfl (Z5 rfl isAgg105 sizeOf105 rfl (hc4.same (im17 b10 hT4).2) (cs:=(F4 u4 a34 c34))) (st1 rfl (Z4 rfl isAgg66 (hS16.cell0 (i:=3) ⟨rfl,rfl⟩ (j:=9) rfl)) (st1 rfl (Z5 rfl isAgg105 sizeOf105 rfl (hc3.same (im17 b9 hT3).2) (cs:=(F4 u3 a33 c33))) (st1 rfl (Z4 rfl isAgg66 (hS16.cell0 (i:=2) ⟨rfl,rfl⟩ (j:=9) rfl)) (st0)))),?_⟩
            refine tw [11] rfl (F5 rfl rfl qZt) rfl (by kernel_rfl) (by kernel_rfl) ⟨br [12,13] [(9,.agg (F4 u4 a34 c34).toArray),(6,sv a16 x3.Cases c16),(4,.agg (F4 u3 a33 c33).toArray),(1,sv a9 x2.Cases c9)] rfl (by kernel_rfl) (by kernel_rfl) qZt (by kernel_rfl) (alS (zs := [iv 0,iv 0,.bool false,.int .u32 0,.slice none 0 0]) zeroValue105 rfl hS16 fun w18 b12 im18 hS17 => ?_),qZt⟩
            refine⟨st1 rfl (Z5 rfl isAgg105 sizeOf105 rfl (hc4.same ((iT im17 im18) b10 hT4).2) (cs:=(F4 u4 a34 c34))) (st1 rfl (Z4 rfl isAgg66 (hS17.cell0 (i:=4) ⟨rfl,rfl⟩ (j:=9) rfl)) (st1 rfl (Z5 rfl isAgg105 sizeOf105 rfl (hc3.same ((iT im17 im18) b9 hT3).2) (cs:=(F4 u3 a33 c33))) (st1 rfl (Z4 rfl isAgg66 (hS17.cell0 (i:=3) ⟨rfl,rfl⟩ (j:=9) rfl)) (st0)))),?_⟩
            refine tw [12] rfl (F5 rfl rfl qZt) rfl (by kernel_rfl) (by kernel_rfl) ⟨br [13] [(9,.agg (F4 u4 a34 c34).toArray),(6,sv a16 x3.Cases c16)] rfl (by kernel_rfl) (by kernel_rfl) qZt (by kernel_rfl) (X6 (q:=1) hS17 ⟨rfl,rfl⟩ rfl rfl rfl sizeOf105 rfl rfl rfl fun w19 im19 hS18 => ?_),qZt⟩
            refine⟨st1 rfl (Z5 rfl isAgg105 sizeOf105 rfl (hc4.same ((iT im17 (iT im18 im19)) b10 hT4).2) (cs:=(F4 u4 a34 c34))) (st1 rfl (Z4 rfl isAgg66 (hS18.cell0 (i:=4) ⟨rfl,rfl⟩ (j:=9) rfl)) (st0)),?_⟩
            refine tw [13] rfl (F5 rfl rfl qZt) rfl (by kernel_rfl) (by kernel_rfl) ⟨br [] [] rfl (by kernel_rfl) (by kernel_rfl) qZt (by kernel_rfl) (X6 (q:=0) hS18 ⟨rfl,rfl⟩ rfl rfl rfl sizeOf105 rfl rfl rfl fun w20 im20 hS19 => ?_),qZt⟩
            refine⟨st0,?_⟩
            exact te (Q0 ⟨_,_,_,u3,_,_,_,u4,_,_,Q7 ⟨rfl,rfl,rfl,rfl,rfl,rfl,rfl,rfl,rfl,qZt⟩,(iT im16 (iT im17 (iT im18 (iT im19 im20)))),hS19.sel [2,3,4,1,0] rfl,(h33.mono (iT im17 (iT im18 (iT im19 im20)))),(h34.mono (iT im17 (iT im18 (iT im19 im20)))),hm⟩)
          refine⟨st1 rfl (Z5 rfl isAgg105 sizeOf105 rfl (hc4.same (im17 b10 hT4).2) (cs:=(F4 u4 a34 c34))) (st1 rfl (Z4 rfl isAgg66 (hS16.cell0 (i:=3) ⟨rfl,rfl⟩ (j:=9) rfl)) (st1 rfl (Z5 rfl isAgg105 sizeOf105 rfl (hc3.same (im17 b9 hT3).2) (cs:=(F4 u3 a33 c33))) (st1 rfl (Z4 rfl isAgg66 (hS16.cell0 (i:=2) ⟨rfl,rfl⟩ (j:=9) rfl)) (st0)))),?_⟩
          refine tw [10] rfl (F5 rfl rfl qZt) rfl (by kernel_rfl) (by kernel_rfl) ⟨br [12,13] [(9,.agg (F4 u4 a34 c34).toArray),(6,sv a16 x3.Cases c16),(4,.agg (F4 u3 a33 c33).toArray),(1,sv a9 x2.Cases c9)] rfl (by kernel_rfl) (by kernel_rfl) qZt (by kernel_rfl) (alS (zs := [iv 0,iv 0,.bool false,.int .u32 0,.slice none 0 0]) zeroValue105 rfl hS16 fun w18 b12 im18 hS17 => ?_),qZt⟩
          refine⟨st1 rfl (Z5 rfl isAgg105 sizeOf105 rfl (hc4.same ((iT im17 im18) b10 hT4).2) (cs:=(F4 u4 a34 c34))) (st1 rfl (Z4 rfl isAgg66 (hS17.cell0 (i:=4) ⟨rfl,rfl⟩ (j:=9) rfl)) (st1 rfl (Z5 rfl isAgg105 sizeOf105 rfl (hc3.same ((iT im17 im18) b9 hT3).2) (cs:=(F4 u3 a33 c33))) (st1 rfl (Z4 rfl isAgg66 (hS17.cell0 (i:=3) ⟨rfl,rfl⟩ (j:=9) rfl)) (st0)))),?_⟩
          refine tw [12] rfl (F5 rfl rfl qZt) rfl (by kernel_rfl) (by kernel_rfl) ⟨br [13] [(9,.agg (F4 u4 a34 c34).toArray),(6,sv a16 x3.Cases c16)] rfl (by kernel_rfl) (by kernel_rfl) qZt (by kernel_rfl) (X6 (q:=0) hS17 ⟨rfl,rfl⟩ rfl rfl rfl sizeOf105 rfl rfl rfl fun w19 im19 hS18 => ?_),qZt⟩
          refine⟨st1 rfl (Z5 rfl isAgg105 sizeOf105 rfl (hc4.same ((iT im17 (iT im18 im19)) b10 hT4).2) (cs:=(F4 u4 a34 c34))) (st1 rfl (Z4 rfl isAgg66 (hS18.cell0 (i:=4) ⟨rfl,rfl⟩ (j:=9) rfl)) (st0)),?_⟩
          refine tw [13] rfl (F5 rfl rfl qZt) rfl (by kernel_rfl) (by kernel_rfl) ⟨br [] [] rfl (by kernel_rfl) (by kernel_rfl) qZt (by kernel_rfl) (X6 (q:=1) hS18 ⟨rfl,rfl⟩ rfl rfl rfl sizeOf105 rfl rfl rfl fun w20 im20 hS19 => ?_),qZt⟩
          refine⟨st0,?_⟩
          exact te (Q0 ⟨_,_,_,u3,_,_,_,u4,_,_,Q7 ⟨rfl,rfl,rfl,rfl,rfl,rfl,rfl,rfl,rfl,qZt⟩,(iT im16 (iT im17 (iT im18 (iT im19 im20)))),hS19.sel [2,3,4,0,1] rfl,(h33.mono (iT im17 (iT im18 (iT im19 im20)))),(h34.mono (iT im17 (iT im18 (iT im19 im20)))),hm⟩)
        rintro _ w15 ⟨J,T10,b7,x5,a31,c31,b8,x6,a32,c32,rfl,im15,hS20,h31,h32,hm⟩
        rw [hkk2] at hm
        refine sq2 (rg (pv (Z1 rfl underlying105 rfl sizeOf4 rfl) (pv (Z4 rfl isAgg4 (hS20.cell0 (i:=3) ⟨rfl,rfl⟩ (j:=2) rfl)) (pv (Z1 rfl underlying105 rfl sizeOf4 rfl) (pv (Z4 rfl isAgg4 (hS20.cell0 (i:=4) ⟨rfl,rfl⟩ (j:=2) rfl)) (pv (r_bn rfl rfl underlying4) (pv (Y7 rfl) (?_))))))))
        rcases Bool.eq_false_or_eq_true (!(x5.Default == x6.Default)) with hb14 | hb14
        · have hm:=V8 hb14 hm
          refine gF (d0:=133) rfl rfl (by rw [hb14]; rfl) (gF (d0:=133) rfl rfl (by rw [hb14]; rfl) (gF (d0:=133) rfl rfl (by rw [hb14]; rfl) (gU (d0:=136) rfl rfl (gU (d0:=136) rfl rfl (gU (d0:=136) rfl rfl (gU (d0:=136) rfl rfl (gU (d0:=136) rfl rfl (gF (d0:=133) rfl rfl (by rw [hb14]; rfl) (pv (Y1 rfl hb14 rfl) (pv (Y7 rfl) (gF (d0:=144) rfl rfl rfl (gF (d0:=144) rfl rfl rfl (gF (d0:=144) rfl rfl rfl (gF (d0:=144) rfl rfl rfl (gF (d0:=144) rfl rfl rfl (pv (Y1 rfl rfl rfl) (pv (Y7 rfl) (gF (d0:=151) rfl rfl rfl (gF (d0:=151) rfl rfl rfl (gF (d0:=151) rfl rfl rfl (gF (d0:=151) rfl rfl rfl (gF (d0:=151) rfl rfl rfl (gF (d0:=151) rfl rfl rfl (gF (d0:=151) rfl rfl rfl (pv (Y1 rfl rfl rfl) (nil (Y9 [(0,sv a1 p0 c1),(1,sv a2 p1 c2),(2,.bool p2),(7,iv x1),(8,pt b1 0),(9,pt b2 0),(10,iv x4),(159,.bool true)] ⟨rfl,rfl,rfl,rfl,rfl,rfl,rfl,rfl,qZt⟩ fun J => ?_)))))))))))))))))))))))))))
          refine cnd (b:=true) rfl (fun _ => ?_) (fun h=>nomatch h)
          refine sq2 (rg (pv (X5 rfl) (nil (Q0 ?_))))
          cases oI hm
          have hn2:_=Lp.ret _:=hn2
          subst hn2
          have hm:=X1 hq2
          cases oI hm
          have hn1:_=Lp.ret _:=hn1
          subst hn1
          have hm:=X1 hq1
          cases oI hm
          exact rtn (Y5 (Q6 (Q6 (Y5 (Y5 (Q6 (Q6 (Y5 (Q6 (U2 rfl rfl ⟨_,rfl,_,(iT im1 (iT im2 (iT im8 (iT im9 (iT im10 (iT im11 (iT im12 (iT im13 (iT im14 im15))))))))),⟨rfl,hS20.sel [0] rfl,qZt⟩⟩))))))))))
        have hm:=X3 hb14 hm
        refine gT (d0:=133) rfl rfl hb14 (pv (Y7 rfl) (gT (d0:=133) rfl rfl hb14 (pv (L7 rfl) (gT (d0:=133) rfl rfl hb14 (pv (Y7 rfl) (?_))))))
        rcases Bool.eq_false_or_eq_true (!p2) with hb15 | hb15
        · have hm:=V8 hb15 hm
          refine gT (d0:=136) rfl rfl hb15 (pv (Z1 rfl underlying105 rfl sizeOf29 rfl) (gT (d0:=136) rfl rfl hb15 (pv (Z5 rfl isAgg29 sizeOf29 rfl (hS20.cells0 (i:=3) ⟨rfl,rfl⟩ (o:=0) rfl) (cs := [iv x5.Pos.Line,iv x5.Pos.Col])) (gT (d0:=136) rfl rfl hb15 (pv (Z1 rfl underlying105 rfl sizeOf29 rfl) (gT (d0:=136) rfl rfl hb15 (pv (Z5 rfl isAgg29 sizeOf29 rfl (hS20.cells0 (i:=4) ⟨rfl,rfl⟩ (o:=0) rfl) (cs := [iv x6.Pos.Line,iv x6.Pos.Col])) (gT (d0:=136) rfl rfl hb15 (pv (Q2q rfl rfl (Z1s x5.Pos.Line x5.Pos.Col x6.Pos.Line x6.Pos.Col)) (gT (d0:=133) rfl rfl hb14 (pv (Y1 rfl hb15 rfl) (pv (X9 rfl hb14 rfl) (pv (Y7 rfl) (?_))))))))))))))
          rcases Bool.eq_false_or_eq_true (!((x5.Pos.Line == x6.Pos.Line)&&(x5.Pos.Col == x6.Pos.Col))) with hb16 | hb16
          · have hm:=V8 hb16 hm
            refine gF (d0:=144) rfl rfl (by rw [hb16]; rfl) (gF (d0:=144) rfl rfl (by rw [hb16]; rfl) (gF (d0:=144) rfl rfl (by rw [hb16]; rfl) (gF (d0:=144) rfl rfl (by rw [hb16]; rfl) (gF (d0:=144) rfl rfl (by rw [hb16]; rfl) (pv (Y1 rfl hb16 rfl) (pv (Y7 rfl) (gF (d0:=151) rfl rfl rfl (gF (d0:=151) rfl rfl rfl (gF (d0:=151) rfl rfl rfl (gF (d0:=151) rfl rfl rfl (gF (d0:=151) rfl rfl rfl (gF (d0:=151) rfl rfl rfl (gF (d0:=151) rfl rfl rfl (pv (Y1 rfl rfl rfl) (nil (Y9 [(0,sv a1 p0 c1),(1,sv a2 p1 c2),(2,.bool p2),(7,iv x1),(8,pt b1 0),(9,pt b2 0),(10,iv x4),(159,.bool true)] ⟨rfl,rfl,rfl,rfl,rfl,rfl,rfl,rfl,qZt⟩ fun J => ?_))))))))))))))))
            refine cnd (b:=true) rfl (fun _ => ?_) (fun h=>nomatch h)
            refine sq2 (rg (pv (X5 rfl) (nil (Q0 ?_))))
            cases oI hm
            have hn2:_=Lp.ret _:=hn2
            subst hn2
            have hm:=X1 hq2
            cases oI hm
            have hn1:_=Lp.ret _:=hn1
            subst hn1
            have hm:=X1 hq1
            cases oI hm
            exact rtn (Y5 (Q6 (Q6 (Y5 (Y5 (Q6 (Q6 (Y5 (Q6 (U2 rfl rfl ⟨_,rfl,_,(iT im1 (iT im2 (iT im8 (iT im9 (iT im10 (iT im11 (iT im12 (iT im13 (iT im14 im15))))))))),⟨rfl,hS20.sel [0] rfl,qZt⟩⟩))))))))))
          have hm:=X3 hb16 hm
          refine gT (d0:=144) rfl rfl hb16 (pv (Z1 rfl underlying105 rfl sizeOf87 rfl) (gT (d0:=144) rfl rfl hb16 (pv (Z4 rfl isAgg87 (hS20.cell0 (i:=3) ⟨rfl,rfl⟩ (j:=3) rfl)) (gT (d0:=144) rfl rfl hb16 (pv (Z1 rfl underlying105 rfl sizeOf87 rfl) (gT (d0:=144) rfl rfl hb16 (pv (Z4 rfl isAgg87 (hS20.cell0 (i:=4) ⟨rfl,rfl⟩ (j:=3) rfl)) (gT (d0:=144) rfl rfl hb16 (pv (X7 rfl rfl rfl) (pv (X9 rfl hb16 rfl) (pv (Y7 rfl) (?_))))))))))))
          rcases Bool.eq_false_or_eq_true (x5.Num != x6.Num) with hb17 | hb17
          · have hm:=V8 hb17 hm
            refine gF (d0:=151) rfl rfl (by rw [hb17]; rfl) (gF (d0:=151) rfl rfl (by rw [hb17]; rfl) (gF (d0:=151) rfl rfl (by rw [hb17]; rfl) (gF (d0:=151) rfl rfl (by rw [hb17]; rfl) (gF (d0:=151) rfl rfl (by rw [hb17]; rfl) (gF (d0:=151) rfl rfl (by rw [hb17]; rfl) (gF (d0:=151) rfl rfl (by rw [hb17]; rfl) (pv (Y1 rfl hb17 rfl) (nil (Y9 [(0,sv a1 p0 c1),(1,sv a2 p1 c2),(2,.bool p2),(7,iv x1),(8,pt b1 0),(9,pt b2 0),(10,iv x4),(159,.bool true)] ⟨rfl,rfl,rfl,rfl,rfl,rfl,rfl,rfl,qZt⟩ fun J => ?_)))))))))
            refine cnd (b:=true) rfl (fun _ => ?_) (fun h=>nomatch h)
            refine sq2 (rg (pv (X5 rfl) (nil (Q0 ?_))))
            cases oI hm
            have hn2:_=Lp.ret _:=hn2
            subst hn2
            have hm:=X1 hq2
            cases oI hm
            have hn1:_=Lp.ret _:=hn1
            subst hn1
            have hm:=X1 hq1
            cases oI hm
            exact rtn (Y5 (Q6 (Q6 (Y5 (Y5 (Q6 (Q6 (Y5 (Q6 (U2 rfl rfl ⟨_,rfl,_,(iT im1 (iT im2 (iT im8 (iT im9 (iT im10 (iT im11 (iT im12 (iT im13 (iT im14 im15))))))))),⟨rfl,hS20.sel [0] rfl,qZt⟩⟩))))))))))
          have hm:=X3 hb17 hm
          obtain⟨y7,hx11,hm⟩:=Q4 hm
          refine gT (d0:=151) rfl rfl hb17 (pv (Z1 rfl underlying105 rfl sizeOf62 rfl) (gT (d0:=151) rfl rfl hb17 (pv (Z4 rfl isAgg62 (hS20.cell0 (i:=3) ⟨rfl,rfl⟩ (j:=4) rfl)) (gT (d0:=151) rfl rfl hb17 (pv (Z1 rfl underlying105 rfl sizeOf62 rfl) (gT (d0:=151) rfl rfl hb17 (pv (Z4 rfl isAgg62 (hS20.cell0 (i:=4) ⟨rfl,rfl⟩ (j:=4) rfl)) (gT (d0:=151) rfl rfl hb17 (pv (Y7 rfl) (gT (d0:=151) rfl rfl hb17 (wl rfl (Z7 cf21 rfl (hG.J9 (p0:=x5.Body) (p1:=x6.Body) (p2:=p2) (hS20.bun [0,1,2] [] rfl) h31 h32 hx11) rfl fun v7 T11 w21 im21 rv7 => ?_))))))))))))
          obtain⟨rfl,hS21,_⟩:=rv7
          have hS21:=hS21.unb
          refine gT (d0:=151) rfl rfl hb17 (pv (L7 rfl) (pv (X9 rfl hb17 rfl) (nil (Y9 [(0,sv a1 p0 c1),(1,sv a2 p1 c2),(2,.bool p2),(7,iv x1),(8,pt b1 0),(9,pt b2 0),(10,iv x4),(159,.bool (!y7))] ⟨rfl,rfl,rfl,rfl,rfl,rfl,rfl,rfl,qZt⟩ fun J => ?_))))
          refine V3 rfl hm (fun hb18 hm => ?_) fun hb18 hm => ?_
          · refine sq2 (rg (pv (X5 rfl) (nil (Q0 ?_))))
            cases oI hm
            have hn2:_=Lp.ret _:=hn2
            subst hn2
            have hm:=X1 hq2
            cases oI hm
            have hn1:_=Lp.ret _:=hn1
            subst hn1
            have hm:=X1 hq1
            cases oI hm
            exact rtn (Y5 (Q6 (Q6 (Y5 (Y5 (Q6 (Q6 (Y5 (Q6 (U2 rfl rfl ⟨_,rfl,_,(iT im1 (iT im2 (iT im8 (iT im9 (iT im10 (iT im11 (iT im12 (iT im13 (iT im14 (iT im15 im21)))))))))),⟨rfl,hS21.sel [0] rfl,qZt⟩⟩))))))))))
          refine skp (U6 (Q0 ?_))
          cases oI hm
          exact rg (pv (U1 rfl) (pv (X7 rfl rfl rfl) (pv (J0 rfl) (nil (Q0 ⟨m2,Nat.lt_succ_self _,_,_,(IntKind.wrap .i64 (x4+1)),Q7 ⟨rfl,rfl,rfl,rfl,rfl,rfl,rfl,qZt⟩,(iT im14 (iT im15 im21)),hS21.sel [0,1,2] rfl,hn2⟩)))))
        have hm:=X3 hb15 hm
        refine gF (d0:=136) rfl rfl (by rw [hb15]; rfl) (gF (d0:=136) rfl rfl (by rw [hb15]; rfl) (gF (d0:=136) rfl rfl (by rw [hb15]; rfl) (gF (d0:=136) rfl rfl (by rw [hb15]; rfl) (gF (d0:=136) rfl rfl (by rw [hb15]; rfl) (gT (d0:=133) rfl rfl hb14 (pv (X9 rfl hb15 rfl) (pv (X9 rfl hb14 rfl) (pv (Y7 rfl) (gT (d0:=144) rfl rfl rfl (pv (Z1 rfl underlying105 rfl sizeOf87 rfl) (gT (d0:=144) rfl rfl rfl (pv (Z4 rfl isAgg87 (hS20.cell0 (i:=3) ⟨rfl,rfl⟩ (j:=3) rfl)) (gT (d0:=144) rfl rfl rfl (pv (Z1 rfl underlying105 rfl sizeOf87 rfl) (gT (d0:=144) rfl rfl rfl (pv (Z4 rfl isAgg87 (hS20.cell0 (i:=4) ⟨rfl,rfl⟩ (j:=3) rfl)) (gT (d0:=144) rfl rfl rfl (pv (X7 rfl rfl rfl) (pv (X9 rfl rfl rfl) (pv (Y7 rfl) (?_)))))))))))))))))))))
        rcases Bool.eq_false_or_eq_true (x5.Num != x6.Num) with hb21 | hb21
        · have hm:=V8 hb21 hm
          refine gF (d0:=151) rfl rfl (by rw [hb21]; rfl) (gF (d0:=151) rfl rfl (by rw [hb21]; rfl) (gF (d0:=151) rfl rfl (by rw [hb21]; rfl) (gF (d0:=151) rfl rfl (by rw [hb21]; rfl) (gF (d0:=151) rfl rfl (by rw [hb21]; rfl) (gF (d0:=151) rfl rfl (by rw [hb21]; rfl) (gF (d0:=151) rfl rfl (by rw [hb21]; rfl) (pv (Y1 rfl hb21 rfl) (nil (Y9 [(0,sv a1 p0 c1),(1,sv a2 p1 c2),(2,.bool p2),(7,iv x1),(8,pt b1 0),(9,pt b2 0),(10,iv x4),(159,.bool true)] ⟨rfl,rfl,rfl,rfl,rfl,rfl,rfl,rfl,qZt⟩ fun J => ?_)))))))))
          refine cnd (b:=true) rfl (fun _ => ?_) (fun h=>nomatch h)
          refine sq2 (rg (pv (X5 rfl) (nil (Q0 ?_))))
          cases oI hm
          have hn2:_=Lp.ret _:=hn2
          subst hn2
          have hm:=X1 hq2
          cases oI hm
          have hn1:_=Lp.ret _:=hn1
          subst hn1
          have hm:=X1 hq1
          cases oI hm
          exact rtn (Y5 (Q6 (Q6 (Y5 (Y5 (Q6 (Q6 (Y5 (Q6 (U2 rfl rfl ⟨_,rfl,_,(iT im1 (iT im2 (iT im8 (iT im9 (iT im10 (iT im11 (iT im12 (iT im13 (iT im14 im15))))))))),⟨rfl,hS20.sel [0] rfl,qZt⟩⟩))))))))))
        have hm:=X3 hb21 hm
        obtain⟨y8,hx12,hm⟩:=Q4 hm
        refine gT (d0:=151) rfl rfl hb21 (pv (Z1 rfl underlying105 rfl sizeOf62 rfl) (gT (d0:=151) rfl rfl hb21 (pv (Z4 rfl isAgg62 (hS20.cell0 (i:=3) ⟨rfl,rfl⟩ (j:=4) rfl)) (gT (d0:=151) rfl rfl hb21 (pv (Z1 rfl underlying105 rfl sizeOf62 rfl) (gT (d0:=151) rfl rfl hb21 (pv (Z4 rfl isAgg62 (hS20.cell0 (i:=4) ⟨rfl,rfl⟩ (j:=4) rfl)) (gT (d0:=151) rfl rfl hb21 (pv (Y7 rfl) (gT (d0:=151) rfl rfl hb21 (wl rfl (Z7 cf21 rfl (hG.J9 (p0:=x5.Body) (p1:=x6.Body) (p2:=p2) (hS20.bun [0,1,2] [] rfl) h31 h32 hx12) rfl fun v8 T12 w22 im22 rv8 => ?_))))))))))))
        obtain⟨rfl,hS22,_⟩:=rv8
        have hS22:=hS22.unb
        refine gT (d0:=151) rfl rfl hb21 (pv (L7 rfl) (pv (X9 rfl hb21 rfl) (nil (Y9 [(0,sv a1 p0 c1),(1,sv a2 p1 c2),(2,.bool p2),(7,iv x1),(8,pt b1 0),(9,pt b2 0),(10,iv x4),(159,.bool (!y8))] ⟨rfl,rfl,rfl,rfl,rfl,rfl,rfl,rfl,qZt⟩ fun J => ?_))))
        refine V3 rfl hm (fun hb22 hm => ?_) fun hb22 hm => ?_
        · refine sq2 (rg (pv (X5 rfl) (nil (Q0 ?_))))
          cases oI hm
          have hn2:_=Lp.ret _:=hn2
          subst hn2
          have hm:=X1 hq2
          cases oI hm
          have hn1:_=Lp.ret _:=hn1
          subst hn1
          have hm:=X1 hq1
          cases oI hm
          exact rtn (Y5 (Q6 (Q6 (Y5 (Y5 (Q6 (Q6 (Y5 (Q6 (U2 rfl rfl ⟨_,rfl,_,(iT im1 (iT im2 (iT im8 (iT im9 (iT im10 (iT im11 (iT im12 (iT im13 (iT im14 (iT im15 im22)))))))))),⟨rfl,hS22.sel [0] rfl,qZt⟩⟩))))))))))
        refine skp (U6 (Q0 ?_))
        cases oI hm
        exact rg (pv (U1 rfl) (pv (X7 rfl rfl rfl) (pv (J0 rfl) (nil (Q0 ⟨m2,Nat.lt_succ_self _,_,_,(IntKind.wrap .i64 (x4+1)),Q7 ⟨rfl,rfl,rfl,rfl,rfl,rfl,rfl,qZt⟩,(iT im14 (iT im15 im22)),hS22.sel [0,1,2] rfl,hn2⟩)))))
      cases oI hm
      have hn2:_=Lp.brk _:=hn2
      subst hn2
      have hm:=F1 hq2
      refine xt (V9 (V9 (L5 (U6 (Q0 ?_)))))
      cases oI hm
      exact rg (pv (U1 rfl) (pv (X7 rfl rfl rfl) (pv (J0 rfl) (nil (Q0 ⟨m1,Nat.lt_succ_self _,_,_,(IntKind.wrap .i64 (x1+1)),Q7 ⟨rfl,rfl,rfl,rfl,qZt⟩,(iT im1 (iT im2 (iT im8 (iT im9 (iT im10 (iT im11 (iT im12 (iT im13 im14)))))))),hS14.sel [0] rfl,hn1⟩)))))
    have hm:=X3 hb4 hm
    obtain⟨y9,hx13,hm⟩:=Q4 hm
    refine gF (d0:=40) rfl rfl (by rw [hb4]; rfl) (gF (d0:=40) rfl rfl (by rw [hb4]; rfl) (gF (d0:=40) rfl rfl (by rw [hb4]; rfl) (gF (d0:=40) rfl rfl (by rw [hb4]; rfl) (gF (d0:=40) rfl rfl (by rw [hb4]; rfl) (gT (d0:=37) rfl rfl hb3 (pv (X9 rfl hb4 rfl) (pv (X9 rfl hb3 rfl) (pv (Y7 rfl) (gT (d0:=48) rfl rfl rfl (pv (Z1 rfl underlying68 rfl sizeOf56 rfl) (gT (d0:=48) rfl rfl rfl (pv (Z4 rfl isAgg56 (hS7.cell0 (i:=1) ⟨rfl,rfl⟩ (j:=3) rfl)) (gT (d0:=48) rfl rfl rfl (pv (Z1 rfl underlying68 rfl sizeOf56 rfl) (gT (d0:=48) rfl rfl rfl (pv (Z4 rfl isAgg56 (hS7.cell0 (i:=2) ⟨rfl,rfl⟩ (j:=3) rfl)) (gT (d0:=48) rfl rfl rfl (pv (Y7 rfl) (gT (d0:=48) rfl rfl rfl (wl rfl (Z7 cf41 rfl (H6 (p0:=x2.A) (p1:=x3.A) (p2:=p2) (hS7.bun [0,1,2] [] rfl) h3 h10 hx13) rfl fun v9 T13 w23 im23 rv9 => ?_)))))))))))))))))))))
    obtain⟨rfl,hS23,_⟩:=rv9
    have hS23:=hS23.unb
    refine gT (d0:=48) rfl rfl rfl (pv (L7 rfl) (pv (X9 rfl rfl rfl) (pv (Y7 rfl) (?_))))
    rcases Bool.eq_false_or_eq_true (!y9) with hb32 | hb32
    · have hm:=V8 hb32 hm
      refine gF (d0:=57) rfl rfl (by rw [hb32]; rfl) (gF (d0:=57) rfl rfl (by rw [hb32]; rfl) (gF (d0:=57) rfl rfl (by rw [hb32]; rfl) (gF (d0:=57) rfl rfl (by rw [hb32]; rfl) (gF (d0:=57) rfl rfl (by rw [hb32]; rfl) (gF (d0:=57) rfl rfl (by rw [hb32]; rfl) (gF (d0:=57) rfl rfl (by rw [hb32]; rfl) (pv (Y1 rfl hb32 rfl) (pv (Y7 rfl) (gF (d0:=66) rfl rfl rfl (gF (d0:=66) rfl rfl rfl (gF (d0:=66) rfl rfl rfl (gF (d0:=66) rfl rfl rfl (gF (d0:=66) rfl rfl rfl (gF (d0:=66) rfl rfl rfl (gF (d0:=66) rfl rfl rfl (pv (Y1 rfl rfl rfl) (pv (Y7 rfl) (gF (d0:=75) rfl rfl rfl (gF (d0:=75) rfl rfl rfl (gF (d0:=75) rfl rfl rfl (gF (d0:=75) rfl rfl rfl (gF (d0:=75) rfl rfl rfl (gF (d0:=75) rfl rfl rfl (gF (d0:=75) rfl rfl rfl (pv (Y1 rfl rfl rfl) (pv (Y7 rfl) (gF (d0:=84) rfl rfl rfl (gF (d0:=84) rfl rfl rfl (gF (d0:=84) rfl rfl rfl (gF (d0:=84) rfl rfl rfl (gF (d0:=84) rfl rfl rfl (gF (d0:=84) rfl rfl rfl (gF (d0:=84) rfl rfl rfl (pv (Y1 rfl rfl rfl) (pv (Y7 rfl) (gF (d0:=93) rfl rfl rfl (gF (d0:=93) rfl rfl rfl (gF (d0:=93) rfl rfl rfl (gF (d0:=93) rfl rfl rfl (gF (d0:=93) rfl rfl rfl (gF (d0:=93) rfl rfl rfl (gF (d0:=93) rfl rfl rfl (pv (Y1 rfl rfl rfl) (pv (Y7 rfl) (gF (d0:=102) rfl rfl rfl (gF (d0:=102) rfl rfl rfl (gF (d0:=102) rfl rfl rfl (gF (d0:=102) rfl rfl rfl (gF (d0:=102) rfl rfl rfl (gF (d0:=102) rfl rfl rfl (gF (d0:=102) rfl rfl rfl (pv (Y1 rfl rfl rfl) (nil (Y9 [(0,sv a1 p0 c1),(1,sv a2 p1 c2),(2,.bool p2),(7,iv x1),(8,pt b1 0),(9,pt b2 0),(110,.bool true)] ⟨rfl,rfl,rfl,rfl,rfl,rfl,rfl,qZt⟩ fun J => ?_))))))))))))))))))))))))))))))))))))))))))))))))))))))
      refine cnd (b:=true) rfl (fun _ => ?_) (fun h=>nomatch h)
      refine sq2 (rg (pv (X5 rfl) (nil (Q0 ?_))))
      cases oI hm
      have hn1:_=Lp.ret _:=hn1
      subst hn1
      have hm:=X1 hq1
      cases oI hm
      exact rtn (Q6 (Y5 (Q6 (Q6 (Y5 (Q6 (U2 rfl rfl ⟨_,rfl,_,(iT im1 (iT im2 im23)),⟨rfl,hS23.sel [0] rfl,qZt⟩⟩)))))))
    have hm:=X3 hb32 hm
    obtain⟨y10,hx14,hm⟩:=Q4 hm
    refine gT (d0:=57) rfl rfl hb32 (pv (Z1 rfl underlying68 rfl sizeOf56 rfl) (gT (d0:=57) rfl rfl hb32 (pv (Z4 rfl isAgg56 (hS23.cell0 (i:=1) ⟨rfl,rfl⟩ (j:=4) rfl)) (gT (d0:=57) rfl rfl hb32 (pv (Z1 rfl underlying68 rfl sizeOf56 rfl) (gT (d0:=57) rfl rfl hb32 (pv (Z4 rfl isAgg56 (hS23.cell0 (i:=2) ⟨rfl,rfl⟩ (j:=4) rfl)) (gT (d0:=57) rfl rfl hb32 (pv (Y7 rfl) (gT (d0:=57) rfl rfl hb32 (wl rfl (Z7 cf41 rfl (H6 (p0:=x2.B) (p1:=x3.B) (p2:=p2) (hS23.bun [0,1,2] [] rfl) (h4.mono im23) (h11.mono im23) hx14) rfl fun v10 T14 w24 im24 rv10 => ?_))))))))))))
    obtain⟨rfl,hS24,_⟩:=rv10
    have hS24:=hS24.unb
    refine gT (d0:=57) rfl rfl hb32 (pv (L7 rfl) (pv (X9 rfl hb32 rfl) (pv (Y7 rfl) (?_))))
    rcases Bool.eq_false_or_eq_true (!y10) with hb33 | hb33
    · have hm:=V8 hb33 hm
      refine gF (d0:=66) rfl rfl (by rw [hb33]; rfl) (gF (d0:=66) rfl rfl (by rw [hb33]; rfl) (gF (d0:=66) rfl rfl (by rw [hb33]; rfl) (gF (d0:=66) rfl rfl (by rw [hb33]; rfl) (gF (d0:=66) rfl rfl (by rw [hb33]; rfl) (gF (d0:=66) rfl rfl (by rw [hb33]; rfl) (gF (d0:=66) rfl rfl (by rw [hb33]; rfl) (pv (Y1 rfl hb33 rfl) (pv (Y7 rfl) (gF (d0:=75) rfl rfl rfl (gF (d0:=75) rfl rfl rfl (gF (d0:=75) rfl rfl rfl (gF (d0:=75) rfl rfl rfl (gF (d0:=75) rfl rfl rfl (gF (d0:=75) rfl rfl rfl (gF (d0:=75) rfl rfl rfl (pv (Y1 rfl rfl rfl) (pv (Y7 rfl) (gF (d0:=84) rfl rfl rfl (gF (d0:=84) rfl rfl rfl (gF (d0:=84) rfl rfl rfl (gF (d0:=84) rfl rfl rfl (gF (d0:=84) rfl rfl rfl (gF (d0:=84) rfl rfl rfl (gF (d0:=84) rfl rfl rfl (pv (Y1 rfl rfl rfl) (pv (Y7 rfl) (gF (d0:=93) rfl rfl rfl (gF (d0:=93) rfl rfl rfl (gF (d0:=93) rfl rfl rfl (gF (d0:=93) rfl rfl rfl (gF (d0:=93) rfl rfl rfl (gF (d0:=93) rfl rfl rfl (gF (d0:=93) rfl rfl rfl (pv (Y1 rfl rfl rfl) (pv (Y7 rfl) (gF (d0:=102) rfl rfl rfl (gF (d0:=102) rfl rfl rfl (gF (d0:=102) rfl rfl rfl (gF (d0:=102) rfl rfl rfl (gF (d0:=102) rfl rfl rfl (gF (d0:=102) rfl rfl rfl (gF (d0:=102) rfl rfl rfl (pv (Y1 rfl rfl rfl) (nil (Y9 [(0,sv a1 p0 c1),(1,sv a2 p1 c2),(2,.bool p2),(7,iv x1),(8,pt b1 0),(9,pt b2 0),(110,.bool true)] ⟨rfl,rfl,rfl,rfl,rfl,rfl,rfl,qZt⟩ fun J => ?_)))))))))))))))))))))))))))))))))))))))))))))
      refine cnd (b:=true) rfl (fun _ => ?_) (fun h=>nomatch h)
      refine sq2 (rg (pv (X5 rfl) (nil (Q0 ?_))))
      cases oI hm
      have hn1:_=Lp.ret _:=hn1
      subst hn1
      have hm:=X1 hq1
      cases oI hm
      exact rtn (Q6 (Y5 (Q6 (Q6 (Y5 (Q6 (U2 rfl rfl ⟨_,rfl,_,(iT im1 (iT im2 (iT im23 im24))),⟨rfl,hS24.sel [0] rfl,qZt⟩⟩)))))))
    have hm:=X3 hb33 hm
    obtain⟨y11,hx15,hm⟩:=Q4 hm
    refine gT (d0:=66) rfl rfl hb33 (pv (Z1 rfl underlying68 rfl sizeOf56 rfl) (gT (d0:=66) rfl rfl hb33 (pv (Z4 rfl isAgg56 (hS24.cell0 (i:=1) ⟨rfl,rfl⟩ (j:=5) rfl)) (gT (d0:=66) rfl rfl hb33 (pv (Z1 rfl underlying68 rfl sizeOf56 rfl) (gT (d0:=66) rfl rfl hb33 (pv (Z4 rfl isAgg56 (hS24.cell0 (i:=2) ⟨rfl,rfl⟩ (j:=5) rfl)) (gT (d0:=66) rfl rfl hb33 (pv (Y7 rfl) (gT (d0:=66) rfl rfl hb33 (wl rfl (Z7 cf41 rfl (H6 (p0:=x2.C) (p1:=x3.C) (p2:=p2) (hS24.bun [0,1,2] [] rfl) (h5.mono (iT im23 im24)) (h12.mono (iT im23 im24)) hx15) rfl fun v11 T15 w25 im25 rv11 => ?_))))))))))))
    obtain⟨rfl,hS25,_⟩:=rv11
    have hS25:=hS25.unb
    refine gT (d0:=66) rfl rfl hb33 (pv (L7 rfl) (pv (X9 rfl hb33 rfl) (pv (Y7 rfl) (?_))))
    rcases Bool.eq_false_or_eq_true (!y11) with hb34 | hb34
    · have hm:=V8 hb34 hm
      refine gF (d0:=75) rfl rfl (by rw [hb34]; rfl) (gF (d0:=75) rfl rfl (by rw [hb34]; rfl) (gF (d0:=75) rfl rfl (by rw [hb34]; rfl) (gF (d0:=75) rfl rfl (by rw [hb34]; rfl) (gF (d0:=75) rfl rfl (by rw [hb34]; rfl) (gF (d0:=75) rfl rfl (by rw [hb34]; rfl) (gF (d0:=75) rfl rfl (by rw [hb34]; rfl) (pv (Y1 rfl hb34 rfl) (pv (Y7 rfl) (gF (d0:=84) rfl rfl rfl (gF (d0:=84) rfl rfl rfl (gF (d0:=84) rfl rfl rfl (gF (d0:=84) rfl rfl rfl (gF (d0:=84) rfl rfl rfl (gF (d0:=84) rfl rfl rfl (gF (d0:=84) rfl rfl rfl (pv (Y1 rfl rfl rfl) (pv (Y7 rfl) (gF (d0:=93) rfl rfl rfl (gF (d0:=93) rfl rfl rfl (gF (d0:=93) rfl rfl rfl (gF (d0:=93) rfl rfl rfl (gF (d0:=93) rfl rfl rfl (gF (d0:=93) rfl rfl rfl (gF (d0:=93) rfl rfl rfl (pv (Y1 rfl rfl rfl) (pv (Y7 rfl) (gF (d0:=102) rfl rfl rfl (gF (d0:=102) rfl rfl rfl (gF (d0:=102) rfl rfl rfl (gF (d0:=102) rfl rfl rfl (gF (d0:=102) rfl rfl rfl (gF (d0:=102) rfl rfl rfl (gF (d0:=102) rfl rfl rfl (pv (Y1 rfl rfl rfl) (nil (Y9 [(0,sv a1 p0 c1),(1,sv a2 p1 c2),(2,.bool p2),(7,iv x1),(8,pt b1 0),(9,pt b2 0),(110,.bool true)] ⟨rfl,rfl,rfl,rfl,rfl,rfl,rfl,qZt⟩ fun J => ?_))))))))))))))))))))))))))))))))))))
      refine cnd (b:=true) rfl (fun _ => ?_) (fun h=>nomatch h)
      refine sq2 (rg (pv (X5 rfl) (nil (Q0 ?_))))
      cases oI hm
      have hn1:_=Lp.ret _:=hn1
      subst hn1
      have hm:=X1 hq1
      cases oI hm
      exact rtn (Q6 (Y5 (Q6 (Q6 (Y5 (Q6 (U2 rfl rfl ⟨_,rfl,_,(iT im1 (iT im2 (iT im23 (iT im24 im25)))),⟨rfl,hS25.sel [0] rfl,qZt⟩⟩)))))))
    have hm:=X3 hb34 hm
    obtain⟨y12,hx16,hm⟩:=Q4 hm
    refine gT (d0:=75) rfl rfl hb34 (pv (Z1 rfl underlying68 rfl sizeOf24 rfl) (gT (d0:=75) rfl rfl hb34 (pv (Z4 rfl isAgg24 (hS25.cell0 (i:=1) ⟨rfl,rfl⟩ (j:=6) rfl)) (gT (d0:=75) rfl rfl hb34 (pv (Z1 rfl underlying68 rfl sizeOf24 rfl) (gT (d0:=75) rfl rfl hb34 (pv (Z4 rfl isAgg24 (hS25.cell0 (i:=2) ⟨rfl,rfl⟩ (j:=6) rfl)) (gT (d0:=75) rfl rfl hb34 (pv (Y7 rfl) (gT (d0:=75) rfl rfl hb34 (wl rfl (Z7 cf20 rfl (O3 (p0:=x2.Var) (p1:=x3.Var) (p2:=p2) (hS25.bun [0,1,2] [] rfl) (h6.mono (iT im23 (iT im24 im25))) (h13.mono (iT im23 (iT im24 im25))) hx16) rfl fun v12 T16 w26 im26 rv12 => ?_))))))))))))
    obtain⟨rfl,hS26,_⟩:=rv12
    have hS26:=hS26.unb
    refine gT (d0:=75) rfl rfl hb34 (pv (L7 rfl) (pv (X9 rfl hb34 rfl) (pv (Y7 rfl) (?_))))
    rcases Bool.eq_false_or_eq_true (!y12) with hb35 | hb35
    · have hm:=V8 hb35 hm
      refine gF (d0:=84) rfl rfl (by rw [hb35]; rfl) (gF (d0:=84) rfl rfl (by rw [hb35]; rfl) (gF (d0:=84) rfl rfl (by rw [hb35]; rfl) (gF (d0:=84) rfl rfl (by rw [hb35]; rfl) (gF (d0:=84) rfl rfl (by rw [hb35]; rfl) (gF (d0:=84) rfl rfl (by rw [hb35]; rfl) (gF (d0:=84) rfl rfl (by rw [hb35]; rfl) (pv (Y1 rfl hb35 rfl) (pv (Y7 rfl) (gF (d0:=93) rfl rfl rfl (gF (d0:=93) rfl rfl rfl (gF (d0:=93) rfl rfl rfl (gF (d0:=93) rfl rfl rfl (gF (d0:=93) rfl rfl rfl (gF (d0:=93) rfl rfl rfl (gF (d0:=93) rfl rfl rfl (pv (Y1 rfl rfl rfl) (pv (Y7 rfl) (gF (d0:=102) rfl rfl rfl (gF (d0:=102) rfl rfl rfl (gF (d0:=102) rfl rfl rfl (gF (d0:=102) rfl rfl rfl (gF (d0:=102) rfl rfl rfl (gF (d0:=102) rfl rfl rfl (gF (d0:=102) rfl rfl rfl (pv (Y1 rfl rfl rfl) (nil (Y9 [(0,sv a1 p0 c1),(1,sv a2 p1 c2),(2,.bool p2),(7,iv x1),(8,pt b1 0),(9,pt b2 0),(110,.bool true)] ⟨rfl,rfl,rfl,rfl,rfl,rfl,rfl,qZt⟩ fun J => ?_)))))))))))))))))))))))))))
      refine cnd (b:=true) rfl (fun _ => ?_) (fun h=>nomatch h)
      refine sq2 (rg (pv (X5 rfl) (nil (Q0 ?_))))
      cases oI hm
      have hn1:_=Lp.ret _:=hn1
      subst hn1
      have hm:=X1 hq1
      cases oI hm
      exact rtn (Q6 (Y5 (Q6 (Q6 (Y5 (Q6 (U2 rfl rfl ⟨_,rfl,_,(iT im1 (iT im2 (iT im23 (iT im24 (iT im25 im26))))),⟨rfl,hS26.sel [0] rfl,qZt⟩⟩)))))))
    have hm:=X3 hb35 hm
    obtain⟨y13,hx17,hm⟩:=Q4 hm
    refine gT (d0:=84) rfl rfl hb35 (pv (Z1 rfl underlying68 rfl sizeOf62 rfl) (gT (d0:=84) rfl rfl hb35 (pv (Z4 rfl isAgg62 (hS26.cell0 (i:=1) ⟨rfl,rfl⟩ (j:=7) rfl)) (gT (d0:=84) rfl rfl hb35 (pv (Z1 rfl underlying68 rfl sizeOf62 rfl) (gT (d0:=84) rfl rfl hb35 (pv (Z4 rfl isAgg62 (hS26.cell0 (i:=2) ⟨rfl,rfl⟩ (j:=7) rfl)) (gT (d0:=84) rfl rfl hb35 (pv (Y7 rfl) (gT (d0:=84) rfl rfl hb35 (wl rfl (Z7 cf21 rfl (hG.J9 (p0:=x2.Body) (p1:=x3.Body) (p2:=p2) (hS26.bun [0,1,2] [] rfl) (h7.mono (iT im23 (iT im24 (iT im25 im26)))) (h14.mono (iT im23 (iT im24 (iT im25 im26)))) hx17) rfl fun v13 T17 w27 im27 rv13 => ?_))))))))))))
    obtain⟨rfl,hS27,_⟩:=rv13
    have hS27:=hS27.unb
    refine gT (d0:=84) rfl rfl hb35 (pv (L7 rfl) (pv (X9 rfl hb35 rfl) (pv (Y7 rfl) (?_))))
    rcases Bool.eq_false_or_eq_true (!y13) with hb36 | hb36
    · have hm:=V8 hb36 hm
      refine gF (d0:=93) rfl rfl (by rw [hb36]; rfl) (gF (d0:=93) rfl rfl (by rw [hb36]; rfl) (gF (d0:=93) rfl rfl (by rw [hb36]; rfl) (gF (d0:=93) rfl rfl (by rw [hb36]; rfl) (gF (d0:=93) rfl rfl (by rw [hb36]; rfl) (gF (d0:=93) rfl rfl (by rw [hb36]; rfl) (gF (d0:=93) rfl rfl (by rw [hb36]; rfl) (pv (Y1 rfl hb36 rfl) (pv (Y7 rfl) (gF (d0:=102) rfl rfl rfl (gF (d0:=102) rfl rfl rfl (gF (d0:=102) rfl rfl rfl (gF (d0:=102) rfl rfl rfl (gF (d0:=102) rfl rfl rfl (gF (d0:=102) rfl rfl rfl (gF (d0:=102) rfl rfl rfl (pv (Y1 rfl rfl rfl) (nil (Y9 [(0,sv a1 p0 c1),(1,sv a2 p1 c2),(2,.bool p2),(7,iv x1),(8,pt b1 0),(9,pt b2 0),(110,.bool true)] ⟨rfl,rfl,rfl,rfl,rfl,rfl,rfl,qZt⟩ fun J => ?_))))))))))))))))))
      refine cnd (b:=true) rfl (fun _ => ?_) (fun h=>nomatch h)
      refine sq2 (rg (pv (X5 rfl) (nil (Q0 ?_))))
      cases oI hm
      have hn1:_=Lp.ret _:=hn1
      subst hn1
      have hm:=X1 hq1
      cases oI hm
      exact rtn (Q6 (Y5 (Q6 (Q6 (Y5 (Q6 (U2 rfl rfl ⟨_,rfl,_,(iT im1 (iT im2 (iT im23 (iT im24 (iT im25 (iT im26 im27)))))),⟨rfl,hS27.sel [0] rfl,qZt⟩⟩)))))))
    have hm:=X3 hb36 hm
    obtain⟨y14,hx18,hm⟩:=Q4 hm
    refine gT (d0:=93) rfl rfl hb36 (pv (Z1 rfl underlying68 rfl sizeOf62 rfl) (gT (d0:=93) rfl rfl hb36 (pv (Z4 rfl isAgg62 (hS27.cell0 (i:=1) ⟨rfl,rfl⟩ (j:=8) rfl)) (gT (d0:=93) rfl rfl hb36 (pv (Z1 rfl underlying68 rfl sizeOf62 rfl) (gT (d0:=93) rfl rfl hb36 (pv (Z4 rfl isAgg62 (hS27.cell0 (i:=2) ⟨rfl,rfl⟩ (j:=8) rfl)) (gT (d0:=93) rfl rfl hb36 (pv (Y7 rfl) (gT (d0:=93) rfl rfl hb36 (wl rfl (Z7 cf21 rfl (hG.J9 (p0:=x2.Else) (p1:=x3.Else) (p2:=p2) (hS27.bun [0,1,2] [] rfl) (h8.mono (iT im23 (iT im24 (iT im25 (iT im26 im27))))) (h15.mono (iT im23 (iT im24 (iT im25 (iT im26 im27))))) hx18) rfl fun v14 T18 w28 im28 rv14 => ?_))))))))))))
    obtain⟨rfl,hS28,_⟩:=rv14
    have hS28:=hS28.unb
    refine gT (d0:=93) rfl rfl hb36 (pv (L7 rfl) (pv (X9 rfl hb36 rfl) (pv (Y7 rfl) (?_))))
    rcases Bool.eq_false_or_eq_true (!y14) with hb37 | hb37
    · have hm:=V8 hb37 hm
      refine gF (d0:=102) rfl rfl (by rw [hb37]; rfl) (gF (d0:=102) rfl rfl (by rw [hb37]; rfl) (gF (d0:=102) rfl rfl (by rw [hb37]; rfl) (gF (d0:=102) rfl rfl (by rw [hb37]; rfl) (gF (d0:=102) rfl rfl (by rw [hb37]; rfl) (gF (d0:=102) rfl rfl (by rw [hb37]; rfl) (gF (d0:=102) rfl rfl (by rw [hb37]; rfl) (pv (Y1 rfl hb37 rfl) (nil (Y9 [(0,sv a1 p0 c1),(1,sv a2 p1 c2),(2,.bool p2),(7,iv x1),(8,pt b1 0),(9,pt b2 0),(110,.bool true)] ⟨rfl,rfl,rfl,rfl,rfl,rfl,rfl,qZt⟩ fun J => ?_)))))))))
      refine cnd (b:=true) rfl (fun _ => ?_) (fun h=>nomatch h)
      refine sq2 (rg (pv (X5 rfl) (nil (Q0 ?_))))
      cases oI hm
      have hn1:_=Lp.ret _:=hn1
      subst hn1
      have hm:=X1 hq1
      cases oI hm
      exact rtn (Q6 (Y5 (Q6 (Q6 (Y5 (Q6 (U2 rfl rfl ⟨_,rfl,_,(iT im1 (iT im2 (iT im23 (iT im24 (iT im25 (iT im26 (iT im27 im28))))))),⟨rfl,hS28.sel [0] rfl,qZt⟩⟩)))))))
    have hm:=X3 hb37 hm
    refine gT (d0:=102) rfl rfl hb37 (pv (Z1 rfl underlying68 rfl sizeOf66 rfl) (gT (d0:=102) rfl rfl hb37 (pv (Z4 rfl isAgg66 (hS28.cell0 (i:=1) ⟨rfl,rfl⟩ (j:=9) rfl)) (gT (d0:=102) rfl rfl hb37 (pv (L3 rfl underlying66) (gT (d0:=102) rfl rfl hb37 (pv (Z1 rfl underlying68 rfl sizeOf66 rfl) (gT (d0:=102) rfl rfl hb37 (pv (Z4 rfl isAgg66 (hS28.cell0 (i:=2) ⟨rfl,rfl⟩ (j:=9) rfl)) (gT (d0:=102) rfl rfl hb37 (pv (L3 rfl underlying66) (gT (d0:=102) rfl rfl hb37 (pv (X7 rfl rfl rfl) (pv (X9 rfl hb37 rfl) (nil (Y9 [(0,sv a1 p0 c1),(1,sv a2 p1 c2),(2,.bool p2),(7,iv x1),(8,pt b1 0),(9,pt b2 0),(110,.bool ((List.length x2.Cases:Int) != (List.length x3.Cases:Int)))] ⟨rfl,rfl,rfl,rfl,rfl,rfl,rfl,qZt⟩ fun J => ?_))))))))))))))))
    refine V3 rfl hm (fun hb38 hm => ?_) fun hb38 hm => ?_
    · refine sq2 (rg (pv (X5 rfl) (nil (Q0 ?_))))
      cases oI hm
      have hn1:_=Lp.ret _:=hn1
      subst hn1
      have hm:=X1 hq1
      cases oI hm
      exact rtn (Q6 (Y5 (Q6 (Q6 (Y5 (Q6 (U2 rfl rfl ⟨_,rfl,_,(iT im1 (iT im2 (iT im23 (iT im24 (iT im25 (iT im26 (iT im27 im28))))))),⟨rfl,hS28.sel [0] rfl,qZt⟩⟩)))))))
    refine skp (Q0 ?_)
    refine sq2 (rg (pv (J0 rfl) (nil (Q0 ?_))))
    obtain⟨o2,ho2,hq2⟩:=Q4 hm
    obtain⟨bd2,hbd2,ho2⟩:=K3 ho2
    refine blk (wp_loop_ghost (fun m a w29 => ∃(J:JV) (T19:TP) (x7:Int),a=env (nf 160) J [(0,sv a1 p0 c1),(1,sv a2 p1 c2),(2,.bool p2),(7,iv x1),(8,pt b1 0),(9,pt b2 0),(10,iv x7)]∧Im T18 w28 T19 w29∧Sep g T19 w29 [R,J6 b1 (B4 x2 a3 c3 a4 c4 a5 c5 a6 c6 a7 c7 a8 c8 a9 c9),J6 b2 (B4 x3 a10 c10 a11 c11 a12 c12 a13 c13 a14 c14 a15 c15 a16 c16)]∧V7 bd2 m x7=some o2) NN ⟨_,_,0,Q7 ⟨rfl,rfl,rfl,rfl,rfl,rfl,rfl,qZt⟩,Im.refl,hS28.sel [0,1,2] rfl,ho2⟩ ?_)
    rintro m _ w29 ⟨J,T19,x7,rfl,im29,hS29,ho2⟩
    obtain⟨m2,z2,rfl,hm,hn2⟩:=U4 ho2
    rw [hbd2] at hm
    refine sq2 (sq2 (rg (pv (U1 rfl) (pv (Z1 rfl underlying68 rfl sizeOf66 rfl) (pv (Z4 rfl isAgg66 (hS29.cell0 (i:=1) ⟨rfl,rfl⟩ (j:=9) rfl)) (pv (L3 rfl underlying66) (pv (X7 rfl rfl rfl) (nil (Q0 ?_)))))))))
    refine V3 rfl hm (fun hb39 hm => ?_) fun hb39 hm => ?_
    · refine skp (Q0 ?_)
      refine sq2 (blk ?_)
      obtain⟨kk3,hkk3,hm⟩:=F6 hm
      refine cut (fun a w30 => ∃(J:JV) (T20:TP) (b13:Nat) (x8:K7) (a35:OA) (c35:Nat) (b14:Nat) (x9:K7) (a36:OA) (c36:Nat),a=env (nf 160) J [(0,sv a1 p0 c1),(1,sv a2 p1 c2),(2,.bool p2),(7,iv x1),(8,pt b1 0),(9,pt b2 0),(10,iv x7),(11,pt b13 0),(12,pt b14 0)]∧Im T19 w29 T20 w30∧Sep g T20 w30 [R,J6 b1 (B4 x2 a3 c3 a4 c4 a5 c5 a6 c6 a7 c7 a8 c8 a9 c9),J6 b2 (B4 x3 a10 c10 a11 c11 a12 c12 a13 c13 a14 c14 a15 c15 a16 c16),J6 b13 (F4 x8 a35 c35),J6 b14 (F4 x9 a36 c36)]∧SlR E1 T20 w30 (sv a35 x8.Body c35) x8.Body∧SlR E1 T20 w30 (sv a36 x9.Body c36) x9.Body∧kk3 x8 x9=some z2) ?_ ?_
      · refine rt [0,1,0,0,1,0,1,0,0,1,2,2,2,2] [0,1,2,3,4,5,6,7,8,9,10,11,12,13] mix (by kernel_rfl) hS29.lt fun w31 i3 => ?_
        have im31:=i3.imm
        have hS30:=hS29.keep i3 (fun _ h=>h)
        obtain⟨u5,hx19,hm⟩:=Q4 hm
        obtain⟨b15,of5,cs5,k5,cp5,hv5,hp5,hl5,he5,hr5,hc5,hT5⟩:=(h9.mono (iT im23 (iT im24 (iT im25 (iT im26 (iT im27 (iT im28 (iT im29 im31)))))))).ixT hx19 rfl
        obtain⟨a37,c37,rfl,h37⟩:=Q1f hr5
        obtain⟨u6,hx20,hm⟩:=Q4 hm
        obtain⟨b16,of6,cs6,k6,cp6,hv6,hp6,hl6,he6,hr6,hc6,hT6⟩:=(h16.mono (iT im23 (iT im24 (iT im25 (iT im26 (iT im27 (iT im28 (iT im29 im31)))))))).ixT hx20 rfl
        obtain⟨a38,c38,rfl,h38⟩:=Q1f hr6
        refine t0 rfl qZt (fun _=>Z1 rfl underlying68 rfl sizeOf66 rfl) rfl (t1 rfl qZt (Z4 rfl isAgg66 (hS30.cell0 (i:=1) ⟨rfl,rfl⟩ (j:=9) rfl)) rfl (t0 rfl qZt (fun _=>U1 rfl) rfl (t0 rfl qZt (fun _=>B2 hv5 rfl underlying66 sizeOf105 hp5 hl5 he5) rfl (t1 rfl qZt (Z5 rfl isAgg105 sizeOf105 rfl hc5 (cs:=(F4 u5 a37 c37))) rfl (t0 rfl qZt (fun _=>Z1 rfl underlying68 rfl sizeOf66 rfl) rfl (t1 rfl qZt (Z4 rfl isAgg66 (hS30.cell0 (i:=2) ⟨rfl,rfl⟩ (j:=9) rfl)) rfl (t0 rfl qZt (fun _=>U1 rfl) rfl (t0 rfl qZt (fun _=>B2 hv6 rfl underlying66 sizeOf105 hp6 hl6 he6) rfl (t1 rfl qZt (Z5 rfl isAgg105 sizeOf105 rfl hc6 (cs:=(F4 u6 a38 c38))) rfl (tw [10,11] rfl (F5 rfl rfl qZt) rfl (by kernel_rfl) (by kernel_rfl) ⟨br [11,12,13] [(9,.agg (F4 u6 a38 c38).toArray),(6,sv a16 x3.Cases c16),(4,.agg (F4 u5 a37 c37).toArray),(1,sv a9 x2.Cases c9)] rfl (by kernel_rfl) (by kernel_rfl) qZt (by kernel_rfl) (alS (zs := [iv 0,iv 0,.bool false,.int .u32 0,.slice none 0 0]) zeroValue105 rfl hS30 fun w32 b17 im32 hS31 => ?_),br [10,12,13] [(9,.agg (F4 u6 a38 c38).toArray),(6,sv a16 x3.Cases c16),(4,.agg (F4 u5 a37 c37).toArray),(1,sv a9 x2.Cases c9)] rfl (by kernel_rfl) (by kernel_rfl) qZt (by kernel_rfl) (alS (zs := [iv 0,iv 0,.bool false,.int .u32 0,.slice none 0 0]) zeroValue105 rfl hS30 fun w32 b17 im32 hS31 => ?_),qZt⟩))))))))))
        · refine⟨st1 rfl (Z5 rfl isAgg105 sizeOf105 rfl (hc6.same (im32 b16 hT6).2) (cs:=(F4 u6 a38 c38))) (st1 rfl (Z4 rfl isAgg66 (hS31.cell0 (i:=3) ⟨rfl,rfl⟩ (j:=9) rfl)) (st1 rfl (Z5 rfl isAgg105 sizeOf105 rfl (hc5.same (im32 b15 hT5).2) (cs:=(F4 u5 a37 c37))) (st1 rfl (Z4 rfl isAgg66 (hS31.cell0 (i:=2) ⟨rfl,rfl⟩ (j:=9) rfl)) (st0)))),?_⟩
          refine tw [11] rfl (F5 rfl rfl qZt) rfl (by kernel_rfl) (by kernel_rfl) ⟨br [12,13] [(9,.agg (F4 u6 a38 c38).toArray),(6,sv a16 x3.Cases c16),(4,.agg (F4 u5 a37 c37).toArray),(1,sv a9 x2.Cases c9)] rfl (by kernel_rfl) (by kernel_rfl) qZt (by kernel_rfl) (alS (zs := [iv 0,iv 0,.bool false,.int .u32 0,.slice none 0 0]) zeroValue105 rfl hS31 fun w33 b18 im33 hS32 => ?_),qZt⟩
          refine⟨st1 rfl (Z5 rfl isAgg105 sizeOf105 rfl (hc6.same ((iT im32 im33) b16 hT6).2) (cs:=(F4 u6 a38 c38))) (st1 rfl (Z4 rfl isAgg66 (hS32.cell0 (i:=4) ⟨rfl,rfl⟩ (j:=9) rfl)) (st1 rfl (Z5 rfl isAgg105 sizeOf105 rfl (hc5.same ((iT im32 im33) b15 hT5).2) (cs:=(F4 u5 a37 c37))) (st1 rfl (Z4 rfl isAgg66 (hS32.cell0 (i:=3) ⟨rfl,rfl⟩ (j:=9) rfl)) (st0)))),?_⟩
          refine tw [12] rfl (F5 rfl rfl qZt) rfl (by kernel_rfl) (by kernel_rfl) ⟨br [13] [(9,.agg (F4 u6 a38 c38).toArray),(6,sv a16 x3.Cases c16)] rfl (by kernel_rfl) (by kernel_rfl) qZt (by kernel_rfl) (X6 (q:=1) hS32 ⟨rfl,rfl⟩ rfl rfl rfl sizeOf105 rfl rfl rfl fun w34 im34 hS33 => ?_),qZt⟩
          refine⟨st1 rfl (Z5 rfl isAgg105 sizeOf105 rfl (hc6.same ((iT im32 (iT im33 im34)) b16 hT6).2) (cs:=(F4 u6 a38 c38))) (st1 rfl (Z4 rfl isAgg66 (hS33.cell0 (i:=4) ⟨rfl,rfl⟩ (j:=9) rfl)) (st0)),?_⟩
          refine tw [13] rfl (F5 rfl rfl qZt) rfl (by kernel_rfl) (by kernel_rfl) ⟨br [] [] rfl (by kernel_rfl) (by kernel_rfl) qZt (by kernel_rfl) (X6 (q:=0) hS33 ⟨rfl,rfl⟩ rfl rfl rfl sizeOf105 rfl rfl rfl fun w35 im35 hS34 => ?_),qZt⟩
          refine⟨st0,?_⟩
          exact te (Q0 ⟨_,_,_,u5,_,_,_,u6,_,_,Q7 ⟨rfl,rfl,rfl,rfl,rfl,rfl,rfl,rfl,rfl,qZt⟩,(iT im31 (iT im32 (iT im33 (iT im34 im35)))),hS34.sel [2,3,4,1,0] rfl,(h37.mono (iT im32 (iT im33 (iT im34 im35)))),(h38.mono (iT im32 (iT im33 (iT im34 im35)))),hm⟩)
        refine⟨st1 rfl (Z5 rfl isAgg105 sizeOf105 rfl (hc6.same (im32 b16 hT6).2) (cs:=(F4 u6 a38 c38))) (st1 rfl (Z4 rfl isAgg66 (hS31.cell0 (i:=3) ⟨rfl,rfl⟩ (j:=9) rfl)) (st1 rfl (Z5 rfl isAgg105 sizeOf105 rfl (hc5.same (im32 b15 hT5).2) (cs:=(F4 u5 a37 c37))) (st1 rfl (Z4 rfl isAgg66 (hS31.cell0 (i:=2) ⟨rfl,rfl⟩ (j:=9) rfl)) (st0)))),?_⟩
        refine tw [10] rfl (F5 rfl rfl qZt) rfl (by kernel_rfl) (by kernel_rfl) ⟨br [12,13] [(9,.agg (F4 u6 a38 c38).toArray),(6,sv a16 x3.Cases c16),(4,.agg (F4 u5 a37 c37).toArray),(1,sv a9 x2.Cases c9)] rfl (by kernel_rfl) (by kernel_rfl) qZt (by kernel_rfl) (alS (zs := [iv 0,iv 0,.bool false,.int .u32 0,.slice none 0 0]) zeroValue105 rfl hS31 fun w33 b18 im33 hS32 => ?_),qZt⟩
        refine⟨st1 rfl (Z5 rfl isAgg105 sizeOf105 rfl (hc6.same ((iT im32 im33) b16 hT6).2) (cs:=(F4 u6 a38 c38))) (st1 rfl (Z4 rfl isAgg66 (hS32.cell0 (i:=4) ⟨rfl,rfl⟩ (j:=9) rfl)) (st1 rfl (Z5 rfl isAgg105 sizeOf105 rfl (hc5.same ((iT im32 im33) b15 hT5).2) (cs:=(F4 u5 a37 c37))) (st1 rfl (Z4 rfl isAgg66 (hS32.cell0 (i:=3) ⟨rfl,rfl⟩ (j:=9) rfl)) (st0)))),?_⟩
        refine tw [12] rfl (F5 rfl rfl qZt) rfl (by kernel_rfl) (by kernel_rfl) ⟨br [13] [(9,.agg (F4 u6 a38 c38).toArray),(6,sv a16 x3.Cases c16)] rfl (by kernel_rfl) (by kernel_rfl) qZt (by kernel_rfl) (X6 (q:=0) hS32 ⟨rfl,rfl⟩ rfl rfl rfl sizeOf105 rfl rfl rfl fun w34 im34 hS33 => ?_),qZt⟩
        refine⟨st1 rfl (Z5 rfl isAgg105 sizeOf105 rfl (hc6.same ((iT im32 (iT im33 im34)) b16 hT6).2) (cs:=(F4 u6 a38 c38))) (st1 rfl (Z4 rfl isAgg66 (hS33.cell0 (i:=4) ⟨rfl,rfl⟩ (j:=9) rfl)) (st0)),?_⟩
        refine tw [13] rfl (F5 rfl rfl qZt) rfl (by kernel_rfl) (by kernel_rfl) ⟨br [] [] rfl (by kernel_rfl) (by kernel_rfl) qZt (by kernel_rfl) (X6 (q:=1) hS33 ⟨rfl,rfl⟩ rfl rfl rfl sizeOf105 rfl rfl rfl fun w35 im35 hS34 => ?_),qZt⟩
        refine⟨st0,?_⟩
        exact te (Q0 ⟨_,_,_,u5,_,_,_,u6,_,_,Q7 ⟨rfl,rfl,rfl,rfl,rfl,rfl,rfl,rfl,rfl,qZt⟩,(iT im31 (iT im32 (iT im33 (iT im34 im35)))),hS34.sel [2,3,4,0,1] rfl,(h37.mono (iT im32 (iT im33 (iT im34 im35)))),(h38.mono (iT im32 (iT im33 (iT im34 im35)))),hm⟩)
      rintro _ w30 ⟨J,T20,b13,x8,a35,c35,b14,x9,a36,c36,rfl,im30,hS35,h35,h36,hm⟩
      rw [hkk3] at hm
      refine sq2 (rg (pv (Z1 rfl underlying105 rfl sizeOf4 rfl) (pv (Z4 rfl isAgg4 (hS35.cell0 (i:=3) ⟨rfl,rfl⟩ (j:=2) rfl)) (pv (Z1 rfl underlying105 rfl sizeOf4 rfl) (pv (Z4 rfl isAgg4 (hS35.cell0 (i:=4) ⟨rfl,rfl⟩ (j:=2) rfl)) (pv (r_bn rfl rfl underlying4) (pv (Y7 rfl) (?_))))))))
      rcases Bool.eq_false_or_eq_true (!(x8.Default == x9.Default)) with hb40 | hb40
      · have hm:=V8 hb40 hm
        refine gF (d0:=133) rfl rfl (by rw [hb40]; rfl) (gF (d0:=133) rfl rfl (by rw [hb40]; rfl) (gF (d0:=133) rfl rfl (by rw [hb40]; rfl) (gU (d0:=136) rfl rfl (gU (d0:=136) rfl rfl (gU (d0:=136) rfl rfl (gU (d0:=136) rfl rfl (gU (d0:=136) rfl rfl (gF (d0:=133) rfl rfl (by rw [hb40]; rfl) (pv (Y1 rfl hb40 rfl) (pv (Y7 rfl) (gF (d0:=144) rfl rfl rfl (gF (d0:=144) rfl rfl rfl (gF (d0:=144) rfl rfl rfl (gF (d0:=144) rfl rfl rfl (gF (d0:=144) rfl rfl rfl (pv (Y1 rfl rfl rfl) (pv (Y7 rfl) (gF (d0:=151) rfl rfl rfl (gF (d0:=151) rfl rfl rfl (gF (d0:=151) rfl rfl rfl (gF (d0:=151) rfl rfl rfl (gF (d0:=151) rfl rfl rfl (gF (d0:=151) rfl rfl rfl (gF (d0:=151) rfl rfl rfl (pv (Y1 rfl rfl rfl) (nil (Y9 [(0,sv a1 p0 c1),(1,sv a2 p1 c2),(2,.bool p2),(7,iv x1),(8,pt b1 0),(9,pt b2 0),(10,iv x7),(159,.bool true)] ⟨rfl,rfl,rfl,rfl,rfl,rfl,rfl,rfl,qZt⟩ fun J => ?_)))))))))))))))))))))))))))
        refine cnd (b:=true) rfl (fun _ => ?_) (fun h=>nomatch h)
        refine sq2 (rg (pv (X5 rfl) (nil (Q0 ?_))))
        cases oI hm
        have hn2:_=Lp.ret _:=hn2
        subst hn2
        have hm:=X1 hq2
        cases oI hm
        have hn1:_=Lp.ret _:=hn1
        subst hn1
        have hm:=X1 hq1
        cases oI hm
        exact rtn (Y5 (Q6 (Q6 (Y5 (Y5 (Q6 (Q6 (Y5 (Q6 (U2 rfl rfl ⟨_,rfl,_,(iT im1 (iT im2 (iT im23 (iT im24 (iT im25 (iT im26 (iT im27 (iT im28 (iT im29 im30))))))))),⟨rfl,hS35.sel [0] rfl,qZt⟩⟩))))))))))
      have hm:=X3 hb40 hm
      refine gT (d0:=133) rfl rfl hb40 (pv (Y7 rfl) (gT (d0:=133) rfl rfl hb40 (pv (L7 rfl) (gT (d0:=133) rfl rfl hb40 (pv (Y7 rfl) (?_))))))
      rcases Bool.eq_false_or_eq_true (!p2) with hb41 | hb41
      · have hm:=V8 hb41 hm
        refine gT (d0:=136) rfl rfl hb41 (pv (Z1 rfl underlying105 rfl sizeOf29 rfl) (gT (d0:=136) rfl rfl hb41 (pv (Z5 rfl isAgg29 sizeOf29 rfl (hS35.cells0 (i:=3) ⟨rfl,rfl⟩ (o:=0) rfl) (cs := [iv x8.Pos.Line,iv x8.Pos.Col])) (gT (d0:=136) rfl rfl hb41 (pv (Z1 rfl underlying105 rfl sizeOf29 rfl) (gT (d0:=136) rfl rfl hb41 (pv (Z5 rfl isAgg29 sizeOf29 rfl (hS35.cells0 (i:=4) ⟨rfl,rfl⟩ (o:=0) rfl) (cs := [iv x9.Pos.Line,iv x9.Pos.Col])) (gT (d0:=136) rfl rfl hb41 (pv (Q2q rfl rfl (Z1s x8.Pos.Line x8.Pos.Col x9.Pos.Line x9.Pos.Col)) (gT (d0:=133) rfl rfl hb40 (pv (Y1 rfl hb41 rfl) (pv (X9 rfl hb40 rfl) (pv (Y7 rfl) (?_))))))))))))))
        rcases Bool.eq_false_or_eq_true (!((x8.Pos.Line == x9.Pos.Line)&&(x8.Pos.Col == x9.Pos.Col))) with hb42 | hb42
        · have hm:=V8 hb42 hm
          refine gF (d0:=144) rfl rfl (by rw [hb42]; rfl) (gF (d0:=144) rfl rfl (by rw [hb42]; rfl) (gF (d0:=144) rfl rfl (by rw [hb42]; rfl) (gF (d0:=144) rfl rfl (by rw [hb42]; rfl) (gF (d0:=144) rfl rfl (by rw [hb42]; rfl) (pv (Y1 rfl hb42 rfl) (pv (Y7 rfl) (gF (d0:=151) rfl rfl rfl (gF (d0:=151) rfl rfl rfl (gF (d0:=151) rfl rfl rfl (gF (d0:=151) rfl rfl rfl (gF (d0:=151) rfl rfl rfl (gF (d0:=151) rfl rfl rfl (gF (d0:=151) rfl rfl rfl (pv (Y1 rfl rfl rfl) (nil (Y9 [(0,sv a1 p0 c1),(1,sv a2 p1 c2),(2,.bool p2),(7,iv x1),(8,pt b1 0),(9,pt b2 0),(10,iv x7),(159,.bool true)] ⟨rfl,rfl,rfl,rfl,rfl,rfl,rfl,rfl,qZt⟩ fun J => ?_))))))))))))))))
          refine cnd (b:=true) rfl (fun _ => ?_) (fun h=>nomatch h)
          refine sq2 (rg (pv (X5 rfl) (nil (Q0 ?_))))
          cases oI hm
          have hn2:_=Lp.ret _:=hn2
          subst hn2
          have hm:=X1 hq2
          cases oI hm
          have hn1:_=Lp.ret _:=hn1
          subst hn1
          have hm:=X1 hq1
          cases oI hm
          exact rtn (Y5 (Q6 (Q6 (Y5 (Y5 (Q6 (Q6 (Y5 (Q6 (U2 rfl rfl ⟨_,rfl,_,(iT im1 (iT im2 (iT im23 (iT im24 (iT im25 (iT im26 (iT im27 (iT im28 (iT im29 im30))))))))),⟨rfl,hS35.sel [0] rfl,qZt⟩⟩))))))))))
        have hm:=X3 hb42 hm
        refine gT (d0:=144) rfl rfl hb42 (pv (Z1 rfl underlying105 rfl sizeOf87 rfl) (gT (d0:=144) rfl rfl hb42 (pv (Z4 rfl isAgg87 (hS35.cell0 (i:=3) ⟨rfl,rfl⟩ (j:=3) rfl)) (gT (d0:=144) rfl rfl hb42 (pv (Z1 rfl underlying105 rfl sizeOf87 rfl) (gT (d0:=144) rfl rfl hb42 (pv (Z4 rfl isAgg87 (hS35.cell0 (i:=4) ⟨rfl,rfl⟩ (j:=3) rfl)) (gT (d0:=144) rfl rfl hb42 (pv (X7 rfl rfl rfl) (pv (X9 rfl hb42 rfl) (pv (Y7 rfl) (?_))))))))))))
        rcases Bool.eq_false_or_eq_true (x8.Num != x9.Num) with hb43 | hb43
        · have hm:=V8 hb43 hm
          refine gF (d0:=151) rfl rfl (by rw [hb43]; rfl) (gF (d0:=151) rfl rfl (by rw [hb43]; rfl) (gF (d0:=151) rfl rfl (by rw [hb43]; rfl) (gF (d0:=151) rfl rfl (by rw [hb43]; rfl) (gF (d0:=151) rfl rfl (by rw [hb43]; rfl) (gF (d0:=151) rfl rfl (by rw [hb43]; rfl) (gF (d0:=151) rfl rfl (by rw [hb43]; rfl) (pv (Y1 rfl hb43 rfl) (nil (Y9 [(0,sv a1 p0 c1),(1,sv a2 p1 c2),(2,.bool p2),(7,iv x1),(8,pt b1 0),(9,pt b2 0),(10,iv x7),(159,.bool true)] ⟨rfl,rfl,rfl,rfl,rfl,rfl,rfl,rfl,qZt⟩ fun J => ?_)))))))))
          refine cnd (b:=true) rfl (fun _ => ?_) (fun h=>nomatch h)
          refine sq2 (rg (pv (X5 rfl) (nil (Q0 ?_))))
          cases oI hm
          have hn2:_=Lp.ret _:=hn2
          subst hn2
          have hm:=X1 hq2
          cases oI hm
          have hn1:_=Lp.ret _:=hn1
          subst hn1
          have hm:=X1 hq1
          cases oI hm
          exact rtn (Y5 (Q6 (Q6 (Y5 (Y5 (Q6 (Q6 (Y5 (Q6 (U2 rfl rfl ⟨_,rfl,_,(iT im1 (iT im2 (iT im23 (iT im24 (iT im25 (iT im26 (iT im27 (iT im28 (iT im29 im30))))))))),⟨rfl,hS35.sel [0] rfl,qZt⟩⟩))))))))))
        have hm:=X3 hb43 hm
        obtain⟨y15,hx21,hm⟩:=Q4 hm
        refine gT (d0:=151) rfl rfl hb43 (pv (Z1 rfl underlying105 rfl sizeOf62 rfl) (gT (d0:=151) rfl rfl hb43 (pv (Z4 rfl isAgg62 (hS35.cell0 (i:=3) ⟨rfl,rfl⟩ (j:=4) rfl)) (gT (d0:=151) rfl rfl hb43 (pv (Z1 rfl underlying105 rfl sizeOf62 rfl) (gT (d0:=151) rfl rfl hb43 (pv (Z4 rfl isAgg62 (hS35.cell0 (i:=4) ⟨rfl,rfl⟩ (j:=4) rfl)) (gT (d0:=151) rfl rfl hb43 (pv (Y7 rfl) (gT (d0:=151) rfl rfl hb43 (wl rfl (Z7 cf21 rfl (hG.J9 (p0:=x8.Body) (p1:=x9.Body) (p2:=p2) (hS35.bun [0,1,2] [] rfl) h35 h36 hx21) rfl fun v15 T21 w36 im36 rv15 => ?_))))))))))))
        obtain⟨rfl,hS36,_⟩:=rv15
        have hS36:=hS36.unb
        refine gT (d0:=151) rfl rfl hb43 (pv (L7 rfl) (pv (X9 rfl hb43 rfl) (nil (Y9 [(0,sv a1 p0 c1),(1,sv a2 p1 c2),(2,.bool p2),(7,iv x1),(8,pt b1 0),(9,pt b2 0),(10,iv x7),(159,.bool (!y15))] ⟨rfl,rfl,rfl,rfl,rfl,rfl,rfl,rfl,qZt⟩ fun J => ?_))))
        refine V3 rfl hm (fun hb44 hm => ?_) fun hb44 hm => ?_
        · refine sq2 (rg (pv (X5 rfl) (nil (Q0 ?_))))
          cases oI hm
          have hn2:_=Lp.ret _:=hn2
          subst hn2
          have hm:=X1 hq2
          cases oI hm
          have hn1:_=Lp.ret _:=hn1
          subst hn1
          have hm:=X1 hq1
          cases oI hm
          exact rtn (Y5 (Q6 (Q6 (Y5 (Y5 (Q6 (Q6 (Y5 (Q6 (U2 rfl rfl ⟨_,rfl,_,(iT im1 (iT im2 (iT im23 (iT im24 (iT im25 (iT im26 (iT im27 (iT im28 (iT im29 (iT im30 im36)))))))))),⟨rfl,hS36.sel [0] rfl,qZt⟩⟩))))))))))
        refine skp (U6 (Q0 ?_))
        cases oI hm
        exact rg (pv (U1 rfl) (pv (X7 rfl rfl rfl) (pv (J0 rfl) (nil (Q0 ⟨m2,Nat.lt_succ_self _,_,_,(IntKind.wrap .i64 (x7+1)),Q7 ⟨rfl,rfl,rfl,rfl,rfl,rfl,rfl,qZt⟩,(iT im29 (iT im30 im36)),hS36.sel [0,1,2] rfl,hn2⟩)))))
      have hm:=X3 hb41 hm
      refine gF (d0:=136) rfl rfl (by rw [hb41]; rfl) (gF (d0:=136) rfl rfl (by rw [hb41]; rfl) (gF (d0:=136) rfl rfl (by rw [hb41]; rfl) (gF (d0:=136) rfl rfl (by rw [hb41]; rfl) (gF (d0:=136) rfl rfl (by rw [hb41]; rfl) (gT (d0:=133) rfl rfl hb40 (pv (X9 rfl hb41 rfl) (pv (X9 rfl hb40 rfl) (pv (Y7 rfl) (gT (d0:=144) rfl rfl rfl (pv (Z1 rfl underlying105 rfl sizeOf87 rfl) (gT (d0:=144) rfl rfl rfl (pv (Z4 rfl isAgg87 (hS35.cell0 (i:=3) ⟨rfl,rfl⟩ (j:=3) rfl)) (gT (d0:=144) rfl rfl rfl (pv (Z1 rfl underlying105 rfl sizeOf87 rfl) (gT (d0:=144) rfl rfl rfl (pv (Z4 rfl isAgg87 (hS35.cell0 (i:=4) ⟨rfl,rfl⟩ (j:=3) rfl)) (gT (d0:=144) rfl rfl rfl (pv (X7 rfl rfl rfl) (pv (X9 rfl rfl rfl) (pv (Y7 rfl) (?_)))))))))))))))))))))
      rcases Bool.eq_false_or_eq_true (x8.Num != x9.Num) with hb47 | hb47
      · have hm:=V8 hb47 hm
        refine gF (d0:=151) rfl rfl (by rw [hb47]; rfl) (gF (d0:=151) rfl rfl (by rw [hb47]; rfl) (gF (d0:=151) rfl rfl (by rw [hb47]; rfl) (gF (d0:=151) rfl rfl (by rw [hb47]; rfl) (gF (d0:=151) rfl rfl (by rw [hb47]; rfl) (gF (d0:=151) rfl rfl (by rw [hb47]; rfl) (gF (d0:=151) rfl rfl (by rw [hb47]; rfl) (pv (Y1 rfl hb47 rfl) (nil (Y9 [(0,sv a1 p0 c1),(1,sv a2 p1 c2),(2,.bool p2),(7,iv x1),(8,pt b1 0),(9,pt b2 0),(10,iv x7),(159,.bool true)] ⟨rfl,rfl,rfl,rfl,rfl,rfl,rfl,rfl,qZt⟩ fun J => ?_)))))))))
        refine cnd (b:=true) rfl (fun _ => ?_) (fun h=>nomatch h)
        refine sq2 (rg (pv (X5 rfl) (nil (Q0 ?_))))
        cases oI hm
        have hn2:_=Lp.ret _:=hn2
        subst hn2
        have hm:=X1 hq2
        cases oI hm
        have hn1:_=Lp.ret _:=hn1
        subst hn1
        have hm:=X1 hq1
        cases oI hm
        exact rtn (Y5 (Q6 (Q6 (Y5 (Y5 (Q6 (Q6 (Y5 (Q6 (U2 rfl rfl ⟨_,rfl,_,(iT im1 (iT im2 (iT im23 (iT im24 (iT im25 (iT im26 (iT im27 (iT im28 (iT im29 im30))))))))),⟨rfl,hS35.sel [0] rfl,qZt⟩⟩))))))))))
      have hm:=X3 hb47 hm
      obtain⟨y16,hx22,hm⟩:=Q4 hm
      refine gT (d0:=151) rfl rfl hb47 (pv (Z1 rfl underlying105 rfl sizeOf62 rfl) (gT (d0:=151) rfl rfl hb47 (pv (Z4 rfl isAgg62 (hS35.cell0 (i:=3) ⟨rfl,rfl⟩ (j:=4) rfl)) (gT (d0:=151) rfl rfl hb47 (pv (Z1 rfl underlying105 rfl sizeOf62 rfl) (gT (d0:=151) rfl rfl hb47 (pv (Z4 rfl isAgg62 (hS35.cell0 (i:=4) ⟨rfl,rfl⟩ (j:=4) rfl)) (gT (d0:=151) rfl rfl hb47 (pv (Y7 rfl) (gT (d0:=151) rfl rfl hb47 (wl rfl (Z7 cf21 rfl (hG.J9 (p0:=x8.Body) (p1:=x9.Body) (p2:=p2) (hS35.bun [0,1,2] [] rfl) h35 h36 hx22) rfl fun v16 T22 w37 im37 rv16 => ?_))))))))))))
      obtain⟨rfl,hS37,_⟩:=rv16
      have hS37:=hS37.unb
      refine gT (d0:=151) rfl rfl hb47 (pv (L7 rfl) (pv (X9 rfl hb47 rfl) (nil (Y9 [(0,sv a1 p0 c1),(1,sv a2 p1 c2),(2,.bool p2),(7,iv x1),(8,pt b1 0),(9,pt b2 0),(10,iv x7),(159,.bool (!y16))] ⟨rfl,rfl,rfl,rfl,rfl,rfl,rfl,rfl,qZt⟩ fun J => ?_))))
      refine V3 rfl hm (fun hb48 hm => ?_) fun hb48 hm => ?_
      · refine sq2 (rg (pv (X5 rfl) (nil (Q0 ?_))))
        cases oI hm
        have hn2:_=Lp.ret _:=hn2
        subst hn2
        have hm:=X1 hq2
        cases oI hm
        have hn1:_=Lp.ret _:=hn1
        subst hn1
        have hm:=X1 hq1
        cases oI hm
        exact rtn (Y5 (Q6 (Q6 (Y5 (Y5 (Q6 (Q6 (Y5 (Q6 (U2 rfl rfl ⟨_,rfl,_,(iT im1 (iT im2 (iT im23 (iT im24 (iT im25 (iT im26 (iT im27 (iT im28 (iT im29 (iT im30 im37)))))))))),⟨rfl,hS37.sel [0] rfl,qZt⟩⟩))))))))))
      refine skp (U6 (Q0 ?_))
      cases oI hm
      exact rg (pv (U1 rfl) (pv (X7 rfl rfl rfl) (pv (J0 rfl) (nil (Q0 ⟨m2,Nat.lt_succ_self _,_,_,(IntKind.wrap .i64 (x7+1)),Q7 ⟨rfl,rfl,rfl,rfl,rfl,rfl,rfl,qZt⟩,(iT im29 (iT im30 im37)),hS37.sel [0,1,2] rfl,hn2⟩)))))
    cases oI hm
    have hn2:_=Lp.brk _:=hn2
    subst hn2
    have hm:=F1 hq2
    refine xt (V9 (V9 (L5 (U6 (Q0 ?_)))))
    cases oI hm
    exact rg (pv (U1 rfl) (pv (X7 rfl rfl rfl) (pv (J0 rfl) (nil (Q0 ⟨m1,Nat.lt_succ_self _,_,_,(IntKind.wrap .i64 (x1+1)),Q7 ⟨rfl,rfl,rfl,rfl,qZt⟩,(iT im1 (iT im2 (iT im23 (iT im24 (iT im25 (iT im26 (iT im27 (iT im28 im29)))))))),hS29.sel [0] rfl,hn1⟩)))))
  cases oI hm
  have hn1:_=Lp.brk _:=hn1
  subst hn1
  have hm:=F1 hq1
  refine xt (V9 (V9 (L5 (Q0 ?_))))
  refine sq2 (rg (pv (X5 rfl) (nil (Q0 ?_))))
  cases oI hm
  exact rtn (U2 rfl rfl ⟨_,rfl,_,im1,⟨rfl,hS1.sel [0] rfl,qZt⟩⟩)
theorem sp8 : ∀ n,Sp8 (rec8 n)
  | 0=>⟨(by unfold Q3d; intros; rename_i h; cases (show (none:Option _)=some _ from h))⟩
  | n+1=>⟨Z1w (sp8 n)⟩
theorem Q6d:Q3d J9:=(sp8 NN).J9

theorem Q7d {p0:K4} {a1:OA} {c1:Nat} {a2:OA} {c2:Nat} {a3:OA} {c3:Nat} {p1:K4} {a4:OA} {c4:Nat} {a5:OA} {c5:Nat} {a6:OA} {c6:Nat} {p2:Bool} {r:Bool} (hS:Sep g T0 w0 [R]) (h1:SlR D3 T0 w0 (sv a1 p0.Structs c1) p0.Structs) (h2:SlR G7 T0 w0 (sv a2 p0.Globals c2) p0.Globals) (h3:SlR A1 T0 w0 (sv a3 p0.Funcs c3) p0.Funcs) (h4:SlR D3 T0 w0 (sv a4 p1.Structs c4) p1.Structs) (h5:SlR G7 T0 w0 (sv a5 p1.Globals c5) p1.Globals) (h6:SlR A1 T0 w0 (sv a6 p1.Funcs c6) p1.Funcs) (hm:Q2v p0 p1 p2=some r) :
    Calls Tryz.prog 8 #[.agg #[sv a1 p0.Structs c1,sv a2 p0.Globals c2,sv a3 p0.Funcs c3],.agg #[sv a4 p1.Structs c4,sv a5 p1.Globals c5,sv a6 p1.Funcs c6],.bool p2] w0 (E6 T0 w0 fun T w v=>v = .bool r∧Sep g T w [R]∧True):=by
  refine enter (args := [.agg #[sv a1 p0.Structs c1,sv a2 p0.Globals c2,sv a3 p0.Funcs c3],.agg #[sv a4 p1.Structs c4,sv a5 p1.Globals c5,sv a6 p1.Funcs c6],.bool p2]) Tryz.func8 rfl Tryz.ntmps8 rfl fun J => ?_
  unfold Q2v at hm
  refine sq2 (rg (wl rfl (bxS (cs := [sv a1 p0.Structs c1,sv a2 p0.Globals c2,sv a3 p0.Funcs c3]) rfl rfl hS fun w1 b1 im1 hS1 => ?_)))
  refine wl rfl (bxS (cs := [sv a4 p1.Structs c4,sv a5 p1.Globals c5,sv a6 p1.Funcs c6]) rfl rfl hS1 fun w2 b2 im2 hS2 => ?_)
  refine pv (X5 rfl) (nil (Q0 ?_))
  refine sq2 (sq2 (rg (pv (Z1 rfl underlying27 rfl sizeOf23 rfl) (pv (Z4 rfl isAgg23 (hS2.cell0 (i:=1) ⟨rfl,rfl⟩ (j:=0) rfl)) (pv (L3 rfl underlying23) (pv (Z1 rfl underlying27 rfl sizeOf23 rfl) (pv (Z4 rfl isAgg23 (hS2.cell0 (i:=0) ⟨rfl,rfl⟩ (j:=0) rfl)) (pv (L3 rfl underlying23) (pv (X7 rfl rfl rfl) (pv (Y7 rfl) (?_)))))))))))
  rcases Bool.eq_false_or_eq_true ((List.length p0.Structs:Int) != (List.length p1.Structs:Int)) with hb1 | hb1
  · have hm:=V8 hb1 hm
    refine gF (d0:=20) rfl rfl (by rw [hb1]; rfl) (gF (d0:=20) rfl rfl (by rw [hb1]; rfl) (gF (d0:=20) rfl rfl (by rw [hb1]; rfl) (gF (d0:=20) rfl rfl (by rw [hb1]; rfl) (gF (d0:=20) rfl rfl (by rw [hb1]; rfl) (gF (d0:=20) rfl rfl (by rw [hb1]; rfl) (gF (d0:=20) rfl rfl (by rw [hb1]; rfl) (pv (Y1 rfl hb1 rfl) (pv (Y7 rfl) (gF (d0:=29) rfl rfl rfl (gF (d0:=29) rfl rfl rfl (gF (d0:=29) rfl rfl rfl (gF (d0:=29) rfl rfl rfl (gF (d0:=29) rfl rfl rfl (gF (d0:=29) rfl rfl rfl (gF (d0:=29) rfl rfl rfl (pv (Y1 rfl rfl rfl) (nil (Y9 [(2,.bool p2),(3,pt b1 0),(4,pt b2 0),(37,.bool true)] ⟨rfl,rfl,rfl,rfl,qZt⟩ fun J => ?_))))))))))))))))))
    refine cnd (b:=true) rfl (fun _ => ?_) (fun h=>nomatch h)
    refine sq2 (rg (pv (X5 rfl) (nil (Q0 ?_))))
    cases oI hm
    exact rtn (Q6 (U2 rfl rfl ⟨_,rfl,_,(iT im1 im2),⟨rfl,hS2.sel [2] rfl,qZt⟩⟩))
  have hm:=X3 hb1 hm
  refine gT (d0:=20) rfl rfl hb1 (pv (Z1 rfl underlying27 rfl sizeOf25 rfl) (gT (d0:=20) rfl rfl hb1 (pv (Z4 rfl isAgg25 (hS2.cell0 (i:=1) ⟨rfl,rfl⟩ (j:=2) rfl)) (gT (d0:=20) rfl rfl hb1 (pv (L3 rfl underlying25) (gT (d0:=20) rfl rfl hb1 (pv (Z1 rfl underlying27 rfl sizeOf25 rfl) (gT (d0:=20) rfl rfl hb1 (pv (Z4 rfl isAgg25 (hS2.cell0 (i:=0) ⟨rfl,rfl⟩ (j:=2) rfl)) (gT (d0:=20) rfl rfl hb1 (pv (L3 rfl underlying25) (gT (d0:=20) rfl rfl hb1 (pv (X7 rfl rfl rfl) (pv (X9 rfl hb1 rfl) (pv (Y7 rfl) (?_))))))))))))))))
  rcases Bool.eq_false_or_eq_true ((List.length p0.Funcs:Int) != (List.length p1.Funcs:Int)) with hb2 | hb2
  · have hm:=V8 hb2 hm
    refine gF (d0:=29) rfl rfl (by rw [hb2]; rfl) (gF (d0:=29) rfl rfl (by rw [hb2]; rfl) (gF (d0:=29) rfl rfl (by rw [hb2]; rfl) (gF (d0:=29) rfl rfl (by rw [hb2]; rfl) (gF (d0:=29) rfl rfl (by rw [hb2]; rfl) (gF (d0:=29) rfl rfl (by rw [hb2]; rfl) (gF (d0:=29) rfl rfl (by rw [hb2]; rfl) (pv (Y1 rfl hb2 rfl) (nil (Y9 [(2,.bool p2),(3,pt b1 0),(4,pt b2 0),(37,.bool true)] ⟨rfl,rfl,rfl,rfl,qZt⟩ fun J => ?_)))))))))
    refine cnd (b:=true) rfl (fun _ => ?_) (fun h=>nomatch h)
    refine sq2 (rg (pv (X5 rfl) (nil (Q0 ?_))))
    cases oI hm
    exact rtn (Q6 (U2 rfl rfl ⟨_,rfl,_,(iT im1 im2),⟨rfl,hS2.sel [2] rfl,qZt⟩⟩))
  have hm:=X3 hb2 hm
  obtain⟨y1,hx1,hm⟩:=Q4 hm
  refine gT (d0:=29) rfl rfl hb2 (pv (Z1 rfl underlying27 rfl sizeOf24 rfl) (gT (d0:=29) rfl rfl hb2 (pv (Z4 rfl isAgg24 (hS2.cell0 (i:=1) ⟨rfl,rfl⟩ (j:=1) rfl)) (gT (d0:=29) rfl rfl hb2 (pv (Z1 rfl underlying27 rfl sizeOf24 rfl) (gT (d0:=29) rfl rfl hb2 (pv (Z4 rfl isAgg24 (hS2.cell0 (i:=0) ⟨rfl,rfl⟩ (j:=1) rfl)) (gT (d0:=29) rfl rfl hb2 (pv (Y7 rfl) (gT (d0:=29) rfl rfl hb2 (wl rfl (Z7 cf20 rfl (O3 (p0:=p0.Globals) (p1:=p1.Globals) (p2:=p2) (hS2.bun [0,1,2] [] rfl) (h2.mono (iT im1 im2)) (h5.mono (iT im1 im2)) hx1) rfl fun v1 T1 w3 im3 rv1 => ?_))))))))))))
  obtain⟨rfl,hS3,_⟩:=rv1
  have hS3:=hS3.unb
  refine gT (d0:=29) rfl rfl hb2 (pv (L7 rfl) (pv (X9 rfl hb2 rfl) (nil (Y9 [(2,.bool p2),(3,pt b1 0),(4,pt b2 0),(37,.bool (!y1))] ⟨rfl,rfl,rfl,rfl,qZt⟩ fun J => ?_))))
  refine V3 rfl hm (fun hb3 hm => ?_) fun hb3 hm => ?_
  · refine sq2 (rg (pv (X5 rfl) (nil (Q0 ?_))))
    cases oI hm
    exact rtn (Q6 (U2 rfl rfl ⟨_,rfl,_,(iT im1 (iT im2 im3)),⟨rfl,hS3.sel [2] rfl,qZt⟩⟩))
  refine skp (Q0 ?_)
  refine sq2 (sq2 (rg (pv (J0 rfl) (nil (Q0 ?_)))))
  obtain⟨o1,ho1,hq1⟩:=Q4 hm
  obtain⟨bd1,hbd1,ho1⟩:=K3 ho1
  refine blk (wp_loop_ghost (fun m a w4 => ∃(J:JV) (T2:TP) (x1:Int),a=env (nf 138) J [(2,.bool p2),(3,pt b1 0),(4,pt b2 0),(7,iv x1)]∧Im T1 w3 T2 w4∧Sep g T2 w4 [J6 b2 [sv a4 p1.Structs c4,sv a5 p1.Globals c5,sv a6 p1.Funcs c6],J6 b1 [sv a1 p0.Structs c1,sv a2 p0.Globals c2,sv a3 p0.Funcs c3],R]∧V7 bd1 m x1=some o1) NN ⟨_,_,0,Q7 ⟨rfl,rfl,rfl,rfl,qZt⟩,Im.refl,hS3.sel [0,1,2] rfl,ho1⟩ ?_)
  rintro m _ w4 ⟨J,T2,x1,rfl,im4,hS4,ho1⟩
  obtain⟨m1,z1,rfl,hm,hn1⟩:=U4 ho1
  rw [hbd1] at hm
  refine sq2 (sq2 (rg (pv (U1 rfl) (pv (Z1 rfl underlying27 rfl sizeOf23 rfl) (pv (Z4 rfl isAgg23 (hS4.cell0 (i:=1) ⟨rfl,rfl⟩ (j:=0) rfl)) (pv (L3 rfl underlying23) (pv (X7 rfl rfl rfl) (nil (Q0 ?_)))))))))
  refine V3 rfl hm (fun hb4 hm => ?_) fun hb4 hm => ?_
  · refine skp (Q0 ?_)
    refine sq2 (blk ?_)
    obtain⟨kk1,hkk1,hm⟩:=F6 hm
    refine cut (fun a w5 => ∃(J:JV) (T3:TP) (b3:Nat) (x2:F7) (a7:OA) (c7:Nat) (b4:Nat) (x3:F7) (a8:OA) (c8:Nat),a=env (nf 138) J [(2,.bool p2),(3,pt b1 0),(4,pt b2 0),(7,iv x1),(8,pt b3 0),(9,pt b4 0)]∧Im T2 w4 T3 w5∧Sep g T3 w5 [J6 b2 [sv a4 p1.Structs c4,sv a5 p1.Globals c5,sv a6 p1.Funcs c6],J6 b1 [sv a1 p0.Structs c1,sv a2 p0.Globals c2,sv a3 p0.Funcs c3],R,J6 b3 (D8 x2 a7 c7),J6 b4 (D8 x3 a8 c8)]∧SlR G7 T3 w5 (sv a7 x2.Fields c7) x2.Fields∧SlR G7 T3 w5 (sv a8 x3.Fields c8) x3.Fields∧kk1 x2 x3=some z1) ?_ ?_
    · refine rt [0,1,0,0,1,0,1,0,0,1,2,2,2,2] [0,1,2,3,4,5,6,7,8,9,10,11,12,13] mix (by kernel_rfl) hS4.lt fun w6 i1 => ?_
      have im6:=i1.imm
      have hS5:=hS4.keep i1 (fun _ h=>h)
      obtain⟨u1,hx2,hm⟩:=Q4 hm
      obtain⟨b5,of1,cs1,k1,cp1,hv1,hp1,hl1,he1,hr1,hc1,hT1⟩:=(h1.mono (iT im1 (iT im2 (iT im3 (iT im4 im6))))).ixT hx2 rfl
      obtain⟨a9,c9,rfl,h9⟩:=Q1l hr1
      obtain⟨u2,hx3,hm⟩:=Q4 hm
      obtain⟨b6,of2,cs2,k2,cp2,hv2,hp2,hl2,he2,hr2,hc2,hT2⟩:=(h4.mono (iT im1 (iT im2 (iT im3 (iT im4 im6))))).ixT hx3 rfl
      obtain⟨a10,c10,rfl,h10⟩:=Q1l hr2
      refine t0 rfl qZt (fun _=>Z1 rfl underlying27 rfl sizeOf23 rfl) rfl (t1 rfl qZt (Z4 rfl isAgg23 (hS5.cell0 (i:=1) ⟨rfl,rfl⟩ (j:=0) rfl)) rfl (t0 rfl qZt (fun _=>U1 rfl) rfl (t0 rfl qZt (fun _=>B2 hv1 rfl underlying23 sizeOf51 hp1 hl1 he1) rfl (t1 rfl qZt (Z5 rfl isAgg51 sizeOf51 rfl hc1 (cs:=(D8 u1 a9 c9))) rfl (t0 rfl qZt (fun _=>Z1 rfl underlying27 rfl sizeOf23 rfl) rfl (t1 rfl qZt (Z4 rfl isAgg23 (hS5.cell0 (i:=0) ⟨rfl,rfl⟩ (j:=0) rfl)) rfl (t0 rfl qZt (fun _=>U1 rfl) rfl (t0 rfl qZt (fun _=>B2 hv2 rfl underlying23 sizeOf51 hp2 hl2 he2) rfl (t1 rfl qZt (Z5 rfl isAgg51 sizeOf51 rfl hc2 (cs:=(D8 u2 a10 c10))) rfl (tw [10,11] rfl (F5 rfl rfl qZt) rfl (by kernel_rfl) (by kernel_rfl) ⟨br [11,12,13] [(9,.agg (D8 u2 a10 c10).toArray),(6,sv a4 p1.Structs c4),(4,.agg (D8 u1 a9 c9).toArray),(1,sv a1 p0.Structs c1)] rfl (by kernel_rfl) (by kernel_rfl) qZt (by kernel_rfl) (alS (zs := [iv 0,iv 0,qZs [],.slice none 0 0]) zeroValue51 rfl hS5 fun w7 b7 im7 hS6 => ?_),br [10,12,13] [(9,.agg (D8 u2 a10 c10).toArray),(6,sv a4 p1.Structs c4),(4,.agg (D8 u1 a9 c9).toArray),(1,sv a1 p0.Structs c1)] rfl (by kernel_rfl) (by kernel_rfl) qZt (by kernel_rfl) (alS (zs := [iv 0,iv 0,qZs [],.slice none 0 0]) zeroValue51 rfl hS5 fun w7 b7 im7 hS6 => ?_),qZt⟩))))))))))
      · refine⟨st1 rfl (Z5 rfl isAgg51 sizeOf51 rfl (hc2.same (im7 b6 hT2).2) (cs:=(D8 u2 a10 c10))) (st1 rfl (Z4 rfl isAgg23 (hS6.cell0 (i:=1) ⟨rfl,rfl⟩ (j:=0) rfl)) (st1 rfl (Z5 rfl isAgg51 sizeOf51 rfl (hc1.same (im7 b5 hT1).2) (cs:=(D8 u1 a9 c9))) (st1 rfl (Z4 rfl isAgg23 (hS6.cell0 (i:=2) ⟨rfl,rfl⟩ (j:=0) rfl)) (st0)))),?_⟩
        refine tw [11] rfl (F5 rfl rfl qZt) rfl (by kernel_rfl) (by kernel_rfl) ⟨br [12,13] [(9,.agg (D8 u2 a10 c10).toArray),(6,sv a4 p1.Structs c4),(4,.agg (D8 u1 a9 c9).toArray),(1,sv a1 p0.Structs c1)] rfl (by kernel_rfl) (by kernel_rfl) qZt (by kernel_rfl) (alS (zs := [iv 0,iv 0,qZs [],.slice none 0 0]) zeroValue51 rfl hS6 fun w8 b8 im8 hS7 => ?_),qZt⟩
        refine⟨st1 rfl (Z5 rfl isAgg51 sizeOf51 rfl (hc2.same ((iT im7 im8) b6 hT2).2) (cs:=(D8 u2 a10 c10))) (st1 rfl (Z4 rfl isAgg23 (hS7.cell0 (i:=2) ⟨rfl,rfl⟩ (j:=0) rfl)) (st1 rfl (Z5 rfl isAgg51 sizeOf51 rfl (hc1.same ((iT im7 im8) b5 hT1).2) (cs:=(D8 u1 a9 c9))) (st1 rfl (Z4 rfl isAgg23 (hS7.cell0 (i:=3) ⟨rfl,rfl⟩ (j:=0) rfl)) (st0)))),?_⟩
        refine tw [12] rfl (F5 rfl rfl qZt) rfl (by kernel_rfl) (by kernel_rfl) ⟨br [13] [(9,.agg (D8 u2 a10 c10).toArray),(6,sv a4 p1.Structs c4)] rfl (by kernel_rfl) (by kernel_rfl) qZt (by kernel_rfl) (X6 (q:=1) hS7 ⟨rfl,rfl⟩ rfl rfl rfl sizeOf51 rfl rfl rfl fun w9 im9 hS8 => ?_),qZt⟩
        refine⟨st1 rfl (Z5 rfl isAgg51 sizeOf51 rfl (hc2.same ((iT im7 (iT im8 im9)) b6 hT2).2) (cs:=(D8 u2 a10 c10))) (st1 rfl (Z4 rfl isAgg23 (hS8.cell0 (i:=2) ⟨rfl,rfl⟩ (j:=0) rfl)) (st0)),?_⟩
        refine tw [13] rfl (F5 rfl rfl qZt) rfl (by kernel_rfl) (by kernel_rfl) ⟨br [] [] rfl (by kernel_rfl) (by kernel_rfl) qZt (by kernel_rfl) (X6 (q:=0) hS8 ⟨rfl,rfl⟩ rfl rfl rfl sizeOf51 rfl rfl rfl fun w10 im10 hS9 => ?_),qZt⟩
        refine⟨st0,?_⟩
        exact te (Q0 ⟨_,_,_,u1,_,_,_,u2,_,_,Q7 ⟨rfl,rfl,rfl,rfl,rfl,rfl,qZt⟩,(iT im6 (iT im7 (iT im8 (iT im9 im10)))),hS9.sel [2,3,4,1,0] rfl,(h9.mono (iT im7 (iT im8 (iT im9 im10)))),(h10.mono (iT im7 (iT im8 (iT im9 im10)))),hm⟩)
      refine⟨st1 rfl (Z5 rfl isAgg51 sizeOf51 rfl (hc2.same (im7 b6 hT2).2) (cs:=(D8 u2 a10 c10))) (st1 rfl (Z4 rfl isAgg23 (hS6.cell0 (i:=1) ⟨rfl,rfl⟩ (j:=0) rfl)) (st1 rfl (Z5 rfl isAgg51 sizeOf51 rfl (hc1.same (im7 b5 hT1).2) (cs:=(D8 u1 a9 c9))) (st1 rfl (Z4 rfl isAgg23 (hS6.cell0 (i:=2) ⟨rfl,rfl⟩ (j:=0) rfl)) (st0)))),?_⟩
      refine tw [10] rfl (F5 rfl rfl qZt) rfl (by kernel_rfl) (by kernel_rfl) ⟨br [12,13] [(9,.agg (D8 u2 a10 c10).toArray),(6,sv a4 p1.Structs c4),(4,.agg (D8 u1 a9 c9).toArray),(1,sv a1 p0.Structs c1)] rfl (by kernel_rfl) (by kernel_rfl) qZt (by kernel_rfl) (alS (zs := [iv 0,iv 0,qZs [],.slice none 0 0]) zeroValue51 rfl hS6 fun w8 b8 im8 hS7 => ?_),qZt⟩
      refine⟨st1 rfl (Z5 rfl isAgg51 sizeOf51 rfl (hc2.same ((iT im7 im8) b6 hT2).2) (cs:=(D8 u2 a10 c10))) (st1 rfl (Z4 rfl isAgg23 (hS7.cell0 (i:=2) ⟨rfl,rfl⟩ (j:=0) rfl)) (st1 rfl (Z5 rfl isAgg51 sizeOf51 rfl (hc1.same ((iT im7 im8) b5 hT1).2) (cs:=(D8 u1 a9 c9))) (st1 rfl (Z4 rfl isAgg23 (hS7.cell0 (i:=3) ⟨rfl,rfl⟩ (j:=0) rfl)) (st0)))),?_⟩
      refine tw [12] rfl (F5 rfl rfl qZt) rfl (by kernel_rfl) (by kernel_rfl) ⟨br [13] [(9,.agg (D8 u2 a10 c10).toArray),(6,sv a4 p1.Structs c4)] rfl (by kernel_rfl) (by kernel_rfl) qZt (by kernel_rfl) (X6 (q:=0) hS7 ⟨rfl,rfl⟩ rfl rfl rfl sizeOf51 rfl rfl rfl fun w9 im9 hS8 => ?_),qZt⟩
      refine⟨st1 rfl (Z5 rfl isAgg51 sizeOf51 rfl (hc2.same ((iT im7 (iT im8 im9)) b6 hT2).2) (cs:=(D8 u2 a10 c10))) (st1 rfl (Z4 rfl isAgg23 (hS8.cell0 (i:=2) ⟨rfl,rfl⟩ (j:=0) rfl)) (st0)),?_⟩
      refine tw [13] rfl (F5 rfl rfl qZt) rfl (by kernel_rfl) (by kernel_rfl) ⟨br [] [] rfl (by kernel_rfl) (by kernel_rfl) qZt (by kernel_rfl) (X6 (q:=1) hS8 ⟨rfl,rfl⟩ rfl rfl rfl sizeOf51 rfl rfl rfl fun w10 im10 hS9 => ?_),qZt⟩
      refine⟨st0,?_⟩
      exact te (Q0 ⟨_,_,_,u1,_,_,_,u2,_,_,Q7 ⟨rfl,rfl,rfl,rfl,rfl,rfl,qZt⟩,(iT im6 (iT im7 (iT im8 (iT im9 im10)))),hS9.sel [2,3,4,0,1] rfl,(h9.mono (iT im7 (iT im8 (iT im9 im10)))),(h10.mono (iT im7 (iT im8 (iT im9 im10)))),hm⟩)
    rintro _ w5 ⟨J,T3,b3,x2,a7,c7,b4,x3,a8,c8,rfl,im5,hS10,h7,h8,hm⟩
    rw [hkk1] at hm
    refine sq2 (rg (pv (Z1 rfl underlying51 rfl sizeOf9 rfl) (pv (Z4 rfl isAgg9 (hS10.cell0 (i:=3) ⟨rfl,rfl⟩ (j:=2) rfl)) (pv (Z1 rfl underlying51 rfl sizeOf9 rfl) (pv (Z4 rfl isAgg9 (hS10.cell0 (i:=4) ⟨rfl,rfl⟩ (j:=2) rfl)) (pv (Q8b rfl rfl) (pv (Y7 rfl) (?_))))))))
    rcases Bool.eq_false_or_eq_true (!(decide (x2.Name=x3.Name))) with hb5 | hb5
    · have hm:=V8 hb5 hm
      refine gF (d0:=60) rfl rfl (by rw [hb5]; rfl) (gF (d0:=60) rfl rfl (by rw [hb5]; rfl) (gF (d0:=60) rfl rfl (by rw [hb5]; rfl) (gU (d0:=63) rfl rfl (gU (d0:=63) rfl rfl (gU (d0:=63) rfl rfl (gU (d0:=63) rfl rfl (gU (d0:=63) rfl rfl (gF (d0:=60) rfl rfl (by rw [hb5]; rfl) (pv (Y1 rfl hb5 rfl) (pv (Y7 rfl) (gF (d0:=71) rfl rfl rfl (gF (d0:=71) rfl rfl rfl (gF (d0:=71) rfl rfl rfl (gF (d0:=71) rfl rfl rfl (gF (d0:=71) rfl rfl rfl (gF (d0:=71) rfl rfl rfl (gF (d0:=71) rfl rfl rfl (pv (Y1 rfl rfl rfl) (nil (Y9 [(2,.bool p2),(3,pt b1 0),(4,pt b2 0),(7,iv x1),(79,.bool true)] ⟨rfl,rfl,rfl,rfl,rfl,qZt⟩ fun J => ?_))))))))))))))))))))
      refine cnd (b:=true) rfl (fun _ => ?_) (fun h=>nomatch h)
      refine sq2 (rg (pv (X5 rfl) (nil (Q0 ?_))))
      cases oI hm
      have hn1:_=Lp.ret _:=hn1
      subst hn1
      have hm:=X1 hq1
      cases oI hm
      exact rtn (Y5 (Q6 (Q6 (Y5 (Q6 (U2 rfl rfl ⟨_,rfl,_,(iT im1 (iT im2 (iT im3 (iT im4 im5)))),⟨rfl,hS10.sel [2] rfl,qZt⟩⟩))))))
    have hm:=X3 hb5 hm
    refine gT (d0:=60) rfl rfl hb5 (pv (Y7 rfl) (gT (d0:=60) rfl rfl hb5 (pv (L7 rfl) (gT (d0:=60) rfl rfl hb5 (pv (Y7 rfl) (?_))))))
    rcases Bool.eq_false_or_eq_true (!p2) with hb6 | hb6
    · have hm:=V8 hb6 hm
      refine gT (d0:=63) rfl rfl hb6 (pv (Z1 rfl underlying51 rfl sizeOf29 rfl) (gT (d0:=63) rfl rfl hb6 (pv (Z5 rfl isAgg29 sizeOf29 rfl (hS10.cells0 (i:=3) ⟨rfl,rfl⟩ (o:=0) rfl) (cs := [iv x2.Pos.Line,iv x2.Pos.Col])) (gT (d0:=63) rfl rfl hb6 (pv (Z1 rfl underlying51 rfl sizeOf29 rfl) (gT (d0:=63) rfl rfl hb6 (pv (Z5 rfl isAgg29 sizeOf29 rfl (hS10.cells0 (i:=4) ⟨rfl,rfl⟩ (o:=0) rfl) (cs := [iv x3.Pos.Line,iv x3.Pos.Col])) (gT (d0:=63) rfl rfl hb6 (pv (Q2q rfl rfl (Z1s x2.Pos.Line x2.Pos.Col x3.Pos.Line x3.Pos.Col)) (gT (d0:=60) rfl rfl hb5 (pv (Y1 rfl hb6 rfl) (pv (X9 rfl hb5 rfl) (pv (Y7 rfl) (?_))))))))))))))
      rcases Bool.eq_false_or_eq_true (!((x2.Pos.Line == x3.Pos.Line)&&(x2.Pos.Col == x3.Pos.Col))) with hb7 | hb7
      · have hm:=V8 hb7 hm
        refine gF (d0:=71) rfl rfl (by rw [hb7]; rfl) (gF (d0:=71) rfl rfl (by rw [hb7]; rfl) (gF (d0:=71) rfl rfl (by rw [hb7]; rfl) (gF (d0:=71) rfl rfl (by rw [hb7]; rfl) (gF (d0:=71) rfl rfl (by rw [hb7]; rfl) (gF (d0:=71) rfl rfl (by rw [hb7]; rfl) (gF (d0:=71) rfl rfl (by rw [hb7]; rfl) (pv (Y1 rfl hb7 rfl) (nil (Y9 [(2,.bool p2),(3,pt b1 0),(4,pt b2 0),(7,iv x1),(79,.bool true)] ⟨rfl,rfl,rfl,rfl,rfl,qZt⟩ fun J => ?_)))))))))
        refine cnd (b:=true) rfl (fun _ => ?_) (fun h=>nomatch h)
        refine sq2 (rg (pv (X5 rfl) (nil (Q0 ?_))))
        cases oI hm
        have hn1:_=Lp.ret _:=hn1
        subst hn1
        have hm:=X1 hq1
        cases oI hm
        exact rtn (Y5 (Q6 (Q6 (Y5 (Q6 (U2 rfl rfl ⟨_,rfl,_,(iT im1 (iT im2 (iT im3 (iT im4 im5)))),⟨rfl,hS10.sel [2] rfl,qZt⟩⟩))))))
      have hm:=X3 hb7 hm
      obtain⟨y2,hx4,hm⟩:=Q4 hm
      refine gT (d0:=71) rfl rfl hb7 (pv (Z1 rfl underlying51 rfl sizeOf24 rfl) (gT (d0:=71) rfl rfl hb7 (pv (Z4 rfl isAgg24 (hS10.cell0 (i:=3) ⟨rfl,rfl⟩ (j:=3) rfl)) (gT (d0:=71) rfl rfl hb7 (pv (Z1 rfl underlying51 rfl sizeOf24 rfl) (gT (d0:=71) rfl rfl hb7 (pv (Z4 rfl isAgg24 (hS10.cell0 (i:=4) ⟨rfl,rfl⟩ (j:=3) rfl)) (gT (d0:=71) rfl rfl hb7 (pv (Y7 rfl) (gT (d0:=71) rfl rfl hb7 (wl rfl (Z7 cf20 rfl (O3 (p0:=x2.Fields) (p1:=x3.Fields) (p2:=p2) (hS10.bun [0,1,2] [] rfl) h7 h8 hx4) rfl fun v2 T4 w11 im11 rv2 => ?_))))))))))))
      obtain⟨rfl,hS11,_⟩:=rv2
      have hS11:=hS11.unb
      refine gT (d0:=71) rfl rfl hb7 (pv (L7 rfl) (pv (X9 rfl hb7 rfl) (nil (Y9 [(2,.bool p2),(3,pt b1 0),(4,pt b2 0),(7,iv x1),(79,.bool (!y2))] ⟨rfl,rfl,rfl,rfl,rfl,qZt⟩ fun J => ?_))))
      refine V3 rfl hm (fun hb8 hm => ?_) fun hb8 hm => ?_
      · refine sq2 (rg (pv (X5 rfl) (nil (Q0 ?_))))
        cases oI hm
        have hn1:_=Lp.ret _:=hn1
        subst hn1
        have hm:=X1 hq1
        cases oI hm
        exact rtn (Y5 (Q6 (Q6 (Y5 (Q6 (U2 rfl rfl ⟨_,rfl,_,(iT im1 (iT im2 (iT im3 (iT im4 (iT im5 im11))))),⟨rfl,hS11.sel [2] rfl,qZt⟩⟩))))))
      refine skp (U6 (Q0 ?_))
      cases oI hm
      exact rg (pv (U1 rfl) (pv (X7 rfl rfl rfl) (pv (J0 rfl) (nil (Q0 ⟨m1,Nat.lt_succ_self _,_,_,(IntKind.wrap .i64 (x1+1)),Q7 ⟨rfl,rfl,rfl,rfl,qZt⟩,(iT im4 (iT im5 im11)),hS11.sel [0,1,2] rfl,hn1⟩)))))
    have hm:=X3 hb6 hm
    obtain⟨y3,hx5,hm⟩:=Q4 hm
    refine gF (d0:=63) rfl rfl (by rw [hb6]; rfl) (gF (d0:=63) rfl rfl (by rw [hb6]; rfl) (gF (d0:=63) rfl rfl (by rw [hb6]; rfl) (gF (d0:=63) rfl rfl (by rw [hb6]; rfl) (gF (d0:=63) rfl rfl (by rw [hb6]; rfl) (gT (d0:=60) rfl rfl hb5 (pv (X9 rfl hb6 rfl) (pv (X9 rfl hb5 rfl) (pv (Y7 rfl) (gT (d0:=71) rfl rfl rfl (pv (Z1 rfl underlying51 rfl sizeOf24 rfl) (gT (d0:=71) rfl rfl rfl (pv (Z4 rfl isAgg24 (hS10.cell0 (i:=3) ⟨rfl,rfl⟩ (j:=3) rfl)) (gT (d0:=71) rfl rfl rfl (pv (Z1 rfl underlying51 rfl sizeOf24 rfl) (gT (d0:=71) rfl rfl rfl (pv (Z4 rfl isAgg24 (hS10.cell0 (i:=4) ⟨rfl,rfl⟩ (j:=3) rfl)) (gT (d0:=71) rfl rfl rfl (pv (Y7 rfl) (gT (d0:=71) rfl rfl rfl (wl rfl (Z7 cf20 rfl (O3 (p0:=x2.Fields) (p1:=x3.Fields) (p2:=p2) (hS10.bun [0,1,2] [] rfl) h7 h8 hx5) rfl fun v3 T5 w12 im12 rv3 => ?_)))))))))))))))))))))
    obtain⟨rfl,hS12,_⟩:=rv3
    have hS12:=hS12.unb
    refine gT (d0:=71) rfl rfl rfl (pv (L7 rfl) (pv (X9 rfl rfl rfl) (nil (Y9 [(2,.bool p2),(3,pt b1 0),(4,pt b2 0),(7,iv x1),(79,.bool (!y3))] ⟨rfl,rfl,rfl,rfl,rfl,qZt⟩ fun J => ?_))))
    refine V3 rfl hm (fun hb10 hm => ?_) fun hb10 hm => ?_
    · refine sq2 (rg (pv (X5 rfl) (nil (Q0 ?_))))
      cases oI hm
      have hn1:_=Lp.ret _:=hn1
      subst hn1
      have hm:=X1 hq1
      cases oI hm
      exact rtn (Y5 (Q6 (Q6 (Y5 (Q6 (U2 rfl rfl ⟨_,rfl,_,(iT im1 (iT im2 (iT im3 (iT im4 (iT im5 im12))))),⟨rfl,hS12.sel [2] rfl,qZt⟩⟩))))))
    refine skp (U6 (Q0 ?_))
    cases oI hm
    exact rg (pv (U1 rfl) (pv (X7 rfl rfl rfl) (pv (J0 rfl) (nil (Q0 ⟨m1,Nat.lt_succ_self _,_,_,(IntKind.wrap .i64 (x1+1)),Q7 ⟨rfl,rfl,rfl,rfl,qZt⟩,(iT im4 (iT im5 im12)),hS12.sel [0,1,2] rfl,hn1⟩)))))
  cases oI hm
  have hn1:_=Lp.brk _:=hn1
  subst hn1
  have hm:=F1 hq1
  refine xt (V9 (V9 (L5 (Q0 ?_))))
  refine sq2 (sq2 (rg (pv (J0 rfl) (nil (Q0 ?_)))))
  obtain⟨o1,ho1,hq1⟩:=Q4 hm
  obtain⟨bd1,hbd1,ho1⟩:=K3 ho1
  refine blk (wp_loop_ghost (fun m a w13 => ∃(J:JV) (T6:TP) (x4:Int),a=env (nf 138) J [(2,.bool p2),(3,pt b1 0),(4,pt b2 0),(10,iv x4)]∧Im T2 w4 T6 w13∧Sep g T6 w13 [J6 b2 [sv a4 p1.Structs c4,sv a5 p1.Globals c5,sv a6 p1.Funcs c6],J6 b1 [sv a1 p0.Structs c1,sv a2 p0.Globals c2,sv a3 p0.Funcs c3],R]∧V7 bd1 m x4=some o1) NN ⟨_,_,0,Q7 ⟨rfl,rfl,rfl,rfl,qZt⟩,Im.refl,hS4.sel [0,1,2] rfl,ho1⟩ ?_)
  rintro m _ w13 ⟨J,T6,x4,rfl,im13,hS13,ho1⟩
  obtain⟨m1,z1,rfl,hm,hn1⟩:=U4 ho1
  rw [hbd1] at hm
  refine sq2 (sq2 (rg (pv (U1 rfl) (pv (Z1 rfl underlying27 rfl sizeOf25 rfl) (pv (Z4 rfl isAgg25 (hS13.cell0 (i:=1) ⟨rfl,rfl⟩ (j:=2) rfl)) (pv (L3 rfl underlying25) (pv (X7 rfl rfl rfl) (nil (Q0 ?_)))))))))
  refine V3 rfl hm (fun hb12 hm => ?_) fun hb12 hm => ?_
  · refine skp (Q0 ?_)
    refine sq2 (blk ?_)
    obtain⟨kk2,hkk2,hm⟩:=F6 hm
    refine cut (fun a w14 => ∃(J:JV) (T7:TP) (b9:Nat) (x5:P4) (a11:OA) (c11:Nat) (a12:OA) (c12:Nat) (b10:Nat) (x6:P4) (a13:OA) (c13:Nat) (a14:OA) (c14:Nat),a=env (nf 138) J [(2,.bool p2),(3,pt b1 0),(4,pt b2 0),(10,iv x4),(11,pt b9 0),(12,pt b10 0)]∧Im T6 w13 T7 w14∧Sep g T7 w14 [J6 b2 [sv a4 p1.Structs c4,sv a5 p1.Globals c5,sv a6 p1.Funcs c6],J6 b1 [sv a1 p0.Structs c1,sv a2 p0.Globals c2,sv a3 p0.Funcs c3],R,J6 b9 (A2 x5 a11 c11 a12 c12),J6 b10 (A2 x6 a13 c13 a14 c14)]∧SlR G7 T7 w14 (sv a11 x5.Params c11) x5.Params∧SlR E1 T7 w14 (sv a12 x5.Body c12) x5.Body∧SlR G7 T7 w14 (sv a13 x6.Params c13) x6.Params∧SlR E1 T7 w14 (sv a14 x6.Body c14) x6.Body∧kk2 x5 x6=some z1) ?_ ?_
    · refine rt [0,1,0,0,1,0,1,0,0,1,2,2,2,2] [0,1,2,3,4,5,6,7,8,9,10,11,12,13] mix (by kernel_rfl) hS13.lt fun w15 i2 => ?_
      have im15:=i2.imm
      have hS14:=hS13.keep i2 (fun _ h=>h)
      obtain⟨u3,hx6,hm⟩:=Q4 hm
      obtain⟨b11,of3,cs3,k3,cp3,hv3,hp3,hl3,he3,hr3,hc3,hT3⟩:=(h3.mono (iT im1 (iT im2 (iT im3 (iT im4 (iT im13 im15)))))).ixT hx6 rfl
      obtain⟨a15,c15,a16,c16,rfl,h15,h16⟩:=Q3i hr3
      obtain⟨u4,hx7,hm⟩:=Q4 hm
      obtain⟨b12,of4,cs4,k4,cp4,hv4,hp4,hl4,he4,hr4,hc4,hT4⟩:=(h6.mono (iT im1 (iT im2 (iT im3 (iT im4 (iT im13 im15)))))).ixT hx7 rfl
      obtain⟨a17,c17,a18,c18,rfl,h17,h18⟩:=Q3i hr4
      refine t0 rfl qZt (fun _=>Z1 rfl underlying27 rfl sizeOf25 rfl) rfl (t1 rfl qZt (Z4 rfl isAgg25 (hS14.cell0 (i:=1) ⟨rfl,rfl⟩ (j:=2) rfl)) rfl (t0 rfl qZt (fun _=>U1 rfl) rfl (t0 rfl qZt (fun _=>B2 hv3 rfl underlying25 sizeOf64 hp3 hl3 he3) rfl (t1 rfl qZt (Z5 rfl isAgg64 sizeOf64 rfl hc3 (cs:=(A2 u3 a15 c15 a16 c16))) rfl (t0 rfl qZt (fun _=>Z1 rfl underlying27 rfl sizeOf25 rfl) rfl (t1 rfl qZt (Z4 rfl isAgg25 (hS14.cell0 (i:=0) ⟨rfl,rfl⟩ (j:=2) rfl)) rfl (t0 rfl qZt (fun _=>U1 rfl) rfl (t0 rfl qZt (fun _=>B2 hv4 rfl underlying25 sizeOf64 hp4 hl4 he4) rfl (t1 rfl qZt (Z5 rfl isAgg64 sizeOf64 rfl hc4 (cs:=(A2 u4 a17 c17 a18 c18))) rfl (tw [10,11] rfl (F5 rfl rfl qZt) rfl (by kernel_rfl) (by kernel_rfl) ⟨br [11,12,13] [(9,.agg (A2 u4 a17 c17 a18 c18).toArray),(6,sv a6 p1.Funcs c6),(4,.agg (A2 u3 a15 c15 a16 c16).toArray),(1,sv a3 p0.Funcs c3)] rfl (by kernel_rfl) (by kernel_rfl) qZt (by kernel_rfl) (alS (zs := [iv 0,iv 0,qZs [],qZs [],iv 0,qZs [],.slice none 0 0,.slice none 0 0]) zeroValue64 rfl hS14 fun w16 b13 im16 hS15 => ?_),br [10,12,13] [(9,.agg (A2 u4 a17 c17 a18 c18).toArray),(6,sv a6 p1.Funcs c6),(4,.agg (A2 u3 a15 c15 a16 c16).toArray),(1,sv a3 p0.Funcs c3)] rfl (by kernel_rfl) (by kernel_rfl) qZt (by kernel_rfl) (alS (zs := [iv 0,iv 0,qZs [],qZs [],iv 0,qZs [],.slice none 0 0,.slice none 0 0]) zeroValue64 rfl hS14 fun w16 b13 im16 hS15 => ?_),qZt⟩))))))))))
      · refine⟨st1 rfl (Z5 rfl isAgg64 sizeOf64 rfl (hc4.same (im16 b12 hT4).2) (cs:=(A2 u4 a17 c17 a18 c18))) (st1 rfl (Z4 rfl isAgg25 (hS15.cell0 (i:=1) ⟨rfl,rfl⟩ (j:=2) rfl)) (st1 rfl (Z5 rfl isAgg64 sizeOf64 rfl (hc3.same (im16 b11 hT3).2) (cs:=(A2 u3 a15 c15 a16 c16))) (st1 rfl (Z4 rfl isAgg25 (hS15.cell0 (i:=2) ⟨rfl,rfl⟩ (j:=2) rfl)) (st0)))),?_⟩
        refine tw [11] rfl (F5 rfl rfl qZt) rfl (by kernel_rfl) (by kernel_rfl) ⟨br [12,13] [(9,.agg (A2 u4 a17 c17 a18 c18).toArray),(6,sv a6 p1.Funcs c6),(4,.agg (A2 u3 a15 c15 a16 c16).toArray),(1,sv a3 p0.Funcs c3)] rfl (by kernel_rfl) (by kernel_rfl) qZt (by kernel_rfl) (alS (zs := [iv 0,iv 0,qZs [],qZs [],iv 0,qZs [],.slice none 0 0,.slice none 0 0]) zeroValue64 rfl hS15 fun w17 b14 im17 hS16 => ?_),qZt⟩
        refine⟨st1 rfl (Z5 rfl isAgg64 sizeOf64 rfl (hc4.same ((iT im16 im17) b12 hT4).2) (cs:=(A2 u4 a17 c17 a18 c18))) (st1 rfl (Z4 rfl isAgg25 (hS16.cell0 (i:=2) ⟨rfl,rfl⟩ (j:=2) rfl)) (st1 rfl (Z5 rfl isAgg64 sizeOf64 rfl (hc3.same ((iT im16 im17) b11 hT3).2) (cs:=(A2 u3 a15 c15 a16 c16))) (st1 rfl (Z4 rfl isAgg25 (hS16.cell0 (i:=3) ⟨rfl,rfl⟩ (j:=2) rfl)) (st0)))),?_⟩
        refine tw [12] rfl (F5 rfl rfl qZt) rfl (by kernel_rfl) (by kernel_rfl) ⟨br [13] [(9,.agg (A2 u4 a17 c17 a18 c18).toArray),(6,sv a6 p1.Funcs c6)] rfl (by kernel_rfl) (by kernel_rfl) qZt (by kernel_rfl) (X6 (q:=1) hS16 ⟨rfl,rfl⟩ rfl rfl rfl sizeOf64 rfl rfl rfl fun w18 im18 hS17 => ?_),qZt⟩
        refine⟨st1 rfl (Z5 rfl isAgg64 sizeOf64 rfl (hc4.same ((iT im16 (iT im17 im18)) b12 hT4).2) (cs:=(A2 u4 a17 c17 a18 c18))) (st1 rfl (Z4 rfl isAgg25 (hS17.cell0 (i:=2) ⟨rfl,rfl⟩ (j:=2) rfl)) (st0)),?_⟩
        refine tw [13] rfl (F5 rfl rfl qZt) rfl (by kernel_rfl) (by kernel_rfl) ⟨br [] [] rfl (by kernel_rfl) (by kernel_rfl) qZt (by kernel_rfl) (X6 (q:=0) hS17 ⟨rfl,rfl⟩ rfl rfl rfl sizeOf64 rfl rfl rfl fun w19 im19 hS18 => ?_),qZt⟩
        refine⟨st0,?_⟩
        exact te (Q0 ⟨_,_,_,u3,_,_,_,_,_,u4,_,_,_,_,Q7 ⟨rfl,rfl,rfl,rfl,rfl,rfl,qZt⟩,(iT im15 (iT im16 (iT im17 (iT im18 im19)))),hS18.sel [2,3,4,1,0] rfl,(h15.mono (iT im16 (iT im17 (iT im18 im19)))),(h16.mono (iT im16 (iT im17 (iT im18 im19)))),(h17.mono (iT im16 (iT im17 (iT im18 im19)))),(h18.mono (iT im16 (iT im17 (iT im18 im19)))),hm⟩)
      refine⟨st1 rfl (Z5 rfl isAgg64 sizeOf64 rfl (hc4.same (im16 b12 hT4).2) (cs:=(A2 u4 a17 c17 a18 c18))) (st1 rfl (Z4 rfl isAgg25 (hS15.cell0 (i:=1) ⟨rfl,rfl⟩ (j:=2) rfl)) (st1 rfl (Z5 rfl isAgg64 sizeOf64 rfl (hc3.same (im16 b11 hT3).2) (cs:=(A2 u3 a15 c15 a16 c16))) (st1 rfl (Z4 rfl isAgg25 (hS15.cell0 (i:=2) ⟨rfl,rfl⟩ (j:=2) rfl)) (st0)))),?_⟩
      refine tw [10] rfl (F5 rfl rfl qZt) rfl (by kernel_rfl) (by kernel_rfl) ⟨br [12,13] [(9,.agg (A2 u4 a17 c17 a18 c18).toArray),(6,sv a6 p1.Funcs c6),(4,.agg (A2 u3 a15 c15 a16 c16).toArray),(1,sv a3 p0.Funcs c3)] rfl (by kernel_rfl) (by kernel_rfl) qZt (by kernel_rfl) (alS (zs := [iv 0,iv 0,qZs [],qZs [],iv 0,qZs [],.slice none 0 0,.slice none 0 0]) zeroValue64 rfl hS15 fun w17 b14 im17 hS16 => ?_),qZt⟩
      refine⟨st1 rfl (Z5 rfl isAgg64 sizeOf64 rfl (hc4.same ((iT im16 im17) b12 hT4).2) (cs:=(A2 u4 a17 c17 a18 c18))) (st1 rfl (Z4 rfl isAgg25 (hS16.cell0 (i:=2) ⟨rfl,rfl⟩ (j:=2) rfl)) (st1 rfl (Z5 rfl isAgg64 sizeOf64 rfl (hc3.same ((iT im16 im17) b11 hT3).2) (cs:=(A2 u3 a15 c15 a16 c16))) (st1 rfl (Z4 rfl isAgg25 (hS16.cell0 (i:=3) ⟨rfl,rfl⟩ (j:=2) rfl)) (st0)))),?_⟩
      refine tw [12] rfl (F5 rfl rfl qZt) rfl (by kernel_rfl) (by kernel_rfl) ⟨br [13] [(9,.agg (A2 u4 a17 c17 a18 c18).toArray),(6,sv a6 p1.Funcs c6)] rfl (by kernel_rfl) (by kernel_rfl) qZt (by kernel_rfl) (X6 (q:=0) hS16 ⟨rfl,rfl⟩ rfl rfl rfl sizeOf64 rfl rfl rfl fun w18 im18 hS17 => ?_),qZt⟩
      refine⟨st1 rfl (Z5 rfl isAgg64 sizeOf64 rfl (hc4.same ((iT im16 (iT im17 im18)) b12 hT4).2) (cs:=(A2 u4 a17 c17 a18 c18))) (st1 rfl (Z4 rfl isAgg25 (hS17.cell0 (i:=2) ⟨rfl,rfl⟩ (j:=2) rfl)) (st0)),?_⟩
      refine tw [13] rfl (F5 rfl rfl qZt) rfl (by kernel_rfl) (by kernel_rfl) ⟨br [] [] rfl (by kernel_rfl) (by kernel_rfl) qZt (by kernel_rfl) (X6 (q:=1) hS17 ⟨rfl,rfl⟩ rfl rfl rfl sizeOf64 rfl rfl rfl fun w19 im19 hS18 => ?_),qZt⟩
      refine⟨st0,?_⟩
      exact te (Q0 ⟨_,_,_,u3,_,_,_,_,_,u4,_,_,_,_,Q7 ⟨rfl,rfl,rfl,rfl,rfl,rfl,qZt⟩,(iT im15 (iT im16 (iT im17 (iT im18 im19)))),hS18.sel [2,3,4,0,1] rfl,(h15.mono (iT im16 (iT im17 (iT im18 im19)))),(h16.mono (iT im16 (iT im17 (iT im18 im19)))),(h17.mono (iT im16 (iT im17 (iT im18 im19)))),(h18.mono (iT im16 (iT im17 (iT im18 im19)))),hm⟩)
    rintro _ w14 ⟨J,T7,b9,x5,a11,c11,a12,c12,b10,x6,a13,c13,a14,c14,rfl,im14,hS19,h11,h12,h13,h14,hm⟩
    rw [hkk2] at hm
    refine sq2 (rg (pv (Z1 rfl underlying64 rfl sizeOf9 rfl) (pv (Z4 rfl isAgg9 (hS19.cell0 (i:=3) ⟨rfl,rfl⟩ (j:=5) rfl)) (pv (Z1 rfl underlying64 rfl sizeOf9 rfl) (pv (Z4 rfl isAgg9 (hS19.cell0 (i:=4) ⟨rfl,rfl⟩ (j:=5) rfl)) (pv (Q8b rfl rfl) (pv (Y7 rfl) (?_))))))))
    rcases Bool.eq_false_or_eq_true (!(decide (x5.Name=x6.Name))) with hb13 | hb13
    · have hm:=V8 hb13 hm
      refine gF (d0:=102) rfl rfl (by rw [hb13]; rfl) (gF (d0:=102) rfl rfl (by rw [hb13]; rfl) (gF (d0:=102) rfl rfl (by rw [hb13]; rfl) (gU (d0:=105) rfl rfl (gU (d0:=105) rfl rfl (gU (d0:=105) rfl rfl (gU (d0:=105) rfl rfl (gU (d0:=105) rfl rfl (gF (d0:=102) rfl rfl (by rw [hb13]; rfl) (pv (Y1 rfl hb13 rfl) (pv (Y7 rfl) (gF (d0:=113) rfl rfl rfl (gF (d0:=113) rfl rfl rfl (gF (d0:=113) rfl rfl rfl (gF (d0:=113) rfl rfl rfl (gF (d0:=113) rfl rfl rfl (pv (Y1 rfl rfl rfl) (pv (Y7 rfl) (gF (d0:=120) rfl rfl rfl (gF (d0:=120) rfl rfl rfl (gF (d0:=120) rfl rfl rfl (gF (d0:=120) rfl rfl rfl (gF (d0:=120) rfl rfl rfl (gF (d0:=120) rfl rfl rfl (gF (d0:=120) rfl rfl rfl (pv (Y1 rfl rfl rfl) (pv (Y7 rfl) (gF (d0:=129) rfl rfl rfl (gF (d0:=129) rfl rfl rfl (gF (d0:=129) rfl rfl rfl (gF (d0:=129) rfl rfl rfl (gF (d0:=129) rfl rfl rfl (gF (d0:=129) rfl rfl rfl (gF (d0:=129) rfl rfl rfl (pv (Y1 rfl rfl rfl) (nil (Y9 [(2,.bool p2),(3,pt b1 0),(4,pt b2 0),(10,iv x4),(137,.bool true)] ⟨rfl,rfl,rfl,rfl,rfl,qZt⟩ fun J => ?_))))))))))))))))))))))))))))))))))))
      refine cnd (b:=true) rfl (fun _ => ?_) (fun h=>nomatch h)
      refine sq2 (rg (pv (X5 rfl) (nil (Q0 ?_))))
      cases oI hm
      have hn1:_=Lp.ret _:=hn1
      subst hn1
      have hm:=X1 hq1
      cases oI hm
      exact rtn (Y5 (Q6 (Q6 (Y5 (Q6 (U2 rfl rfl ⟨_,rfl,_,(iT im1 (iT im2 (iT im3 (iT im4 (iT im13 im14))))),⟨rfl,hS19.sel [2] rfl,qZt⟩⟩))))))
    have hm:=X3 hb13 hm
    refine gT (d0:=102) rfl rfl hb13 (pv (Y7 rfl) (gT (d0:=102) rfl rfl hb13 (pv (L7 rfl) (gT (d0:=102) rfl rfl hb13 (pv (Y7 rfl) (?_))))))
    rcases Bool.eq_false_or_eq_true (!p2) with hb14 | hb14
    · have hm:=V8 hb14 hm
      refine gT (d0:=105) rfl rfl hb14 (pv (Z1 rfl underlying64 rfl sizeOf29 rfl) (gT (d0:=105) rfl rfl hb14 (pv (Z5 rfl isAgg29 sizeOf29 rfl (hS19.cells0 (i:=3) ⟨rfl,rfl⟩ (o:=0) rfl) (cs := [iv x5.Pos.Line,iv x5.Pos.Col])) (gT (d0:=105) rfl rfl hb14 (pv (Z1 rfl underlying64 rfl sizeOf29 rfl) (gT (d0:=105) rfl rfl hb14 (pv (Z5 rfl isAgg29 sizeOf29 rfl (hS19.cells0 (i:=4) ⟨rfl,rfl⟩ (o:=0) rfl) (cs := [iv x6.Pos.Line,iv x6.Pos.Col])) (gT (d0:=105) rfl rfl hb14 (pv (Q2q rfl rfl (Z1s x5.Pos.Line x5.Pos.Col x6.Pos.Line x6.Pos.Col)) (gT (d0:=102) rfl rfl hb13 (pv (Y1 rfl hb14 rfl) (pv (X9 rfl hb13 rfl) (pv (Y7 rfl) (?_))))))))))))))
      rcases Bool.eq_false_or_eq_true (!((x5.Pos.Line == x6.Pos.Line)&&(x5.Pos.Col == x6.Pos.Col))) with hb15 | hb15
      · have hm:=V8 hb15 hm
        refine gF (d0:=113) rfl rfl (by rw [hb15]; rfl) (gF (d0:=113) rfl rfl (by rw [hb15]; rfl) (gF (d0:=113) rfl rfl (by rw [hb15]; rfl) (gF (d0:=113) rfl rfl (by rw [hb15]; rfl) (gF (d0:=113) rfl rfl (by rw [hb15]; rfl) (pv (Y1 rfl hb15 rfl) (pv (Y7 rfl) (gF (d0:=120) rfl rfl rfl (gF (d0:=120) rfl rfl rfl (gF (d0:=120) rfl rfl rfl (gF (d0:=120) rfl rfl rfl (gF (d0:=120) rfl rfl rfl (gF (d0:=120) rfl rfl rfl (gF (d0:=120) rfl rfl rfl (pv (Y1 rfl rfl rfl) (pv (Y7 rfl) (gF (d0:=129) rfl rfl rfl (gF (d0:=129) rfl rfl rfl (gF (d0:=129) rfl rfl rfl (gF (d0:=129) rfl rfl rfl (gF (d0:=129) rfl rfl rfl (gF (d0:=129) rfl rfl rfl (gF (d0:=129) rfl rfl rfl (pv (Y1 rfl rfl rfl) (nil (Y9 [(2,.bool p2),(3,pt b1 0),(4,pt b2 0),(10,iv x4),(137,.bool true)] ⟨rfl,rfl,rfl,rfl,rfl,qZt⟩ fun J => ?_)))))))))))))))))))))))))
        refine cnd (b:=true) rfl (fun _ => ?_) (fun h=>nomatch h)
        refine sq2 (rg (pv (X5 rfl) (nil (Q0 ?_))))
        cases oI hm
        have hn1:_=Lp.ret _:=hn1
        subst hn1
        have hm:=X1 hq1
        cases oI hm
        exact rtn (Y5 (Q6 (Q6 (Y5 (Q6 (U2 rfl rfl ⟨_,rfl,_,(iT im1 (iT im2 (iT im3 (iT im4 (iT im13 im14))))),⟨rfl,hS19.sel [2] rfl,qZt⟩⟩))))))
      have hm:=X3 hb15 hm
      refine gT (d0:=113) rfl rfl hb15 (pv (Z1 rfl underlying64 rfl sizeOf54 rfl) (gT (d0:=113) rfl rfl hb15 (pv (Z5 rfl isAgg54 sizeOf54 rfl (hS19.cells0 (i:=3) ⟨rfl,rfl⟩ (o:=2) rfl) (cs:=(U3 x5.Ret))) (gT (d0:=113) rfl rfl hb15 (pv (Z1 rfl underlying64 rfl sizeOf54 rfl) (gT (d0:=113) rfl rfl hb15 (pv (Z5 rfl isAgg54 sizeOf54 rfl (hS19.cells0 (i:=4) ⟨rfl,rfl⟩ (o:=2) rfl) (cs:=(U3 x6.Ret))) (gT (d0:=113) rfl rfl hb15 (pv (Q2q rfl rfl (Z2y x5.Ret.Word x5.Ret.Name x5.Ret.Stars x6.Ret.Word x6.Ret.Name x6.Ret.Stars)) (pv (X9 rfl hb15 rfl) (pv (Y7 rfl) (?_))))))))))))
      rcases Bool.eq_false_or_eq_true (!((decide (x5.Ret.Word=x6.Ret.Word))&&(decide (x5.Ret.Name=x6.Ret.Name))&&(x5.Ret.Stars == x6.Ret.Stars))) with hb16 | hb16
      · have hm:=V8 hb16 hm
        refine gF (d0:=120) rfl rfl (by rw [hb16]; rfl) (gF (d0:=120) rfl rfl (by rw [hb16]; rfl) (gF (d0:=120) rfl rfl (by rw [hb16]; rfl) (gF (d0:=120) rfl rfl (by rw [hb16]; rfl) (gF (d0:=120) rfl rfl (by rw [hb16]; rfl) (gF (d0:=120) rfl rfl (by rw [hb16]; rfl) (gF (d0:=120) rfl rfl (by rw [hb16]; rfl) (pv (Y1 rfl hb16 rfl) (pv (Y7 rfl) (gF (d0:=129) rfl rfl rfl (gF (d0:=129) rfl rfl rfl (gF (d0:=129) rfl rfl rfl (gF (d0:=129) rfl rfl rfl (gF (d0:=129) rfl rfl rfl (gF (d0:=129) rfl rfl rfl (gF (d0:=129) rfl rfl rfl (pv (Y1 rfl rfl rfl) (nil (Y9 [(2,.bool p2),(3,pt b1 0),(4,pt b2 0),(10,iv x4),(137,.bool true)] ⟨rfl,rfl,rfl,rfl,rfl,qZt⟩ fun J => ?_))))))))))))))))))
        refine cnd (b:=true) rfl (fun _ => ?_) (fun h=>nomatch h)
        refine sq2 (rg (pv (X5 rfl) (nil (Q0 ?_))))
        cases oI hm
        have hn1:_=Lp.ret _:=hn1
        subst hn1
        have hm:=X1 hq1
        cases oI hm
        exact rtn (Y5 (Q6 (Q6 (Y5 (Q6 (U2 rfl rfl ⟨_,rfl,_,(iT im1 (iT im2 (iT im3 (iT im4 (iT im13 im14))))),⟨rfl,hS19.sel [2] rfl,qZt⟩⟩))))))
      have hm:=X3 hb16 hm
      obtain⟨y4,hx8,hm⟩:=Q4 hm
      refine gT (d0:=120) rfl rfl hb16 (pv (Z1 rfl underlying64 rfl sizeOf24 rfl) (gT (d0:=120) rfl rfl hb16 (pv (Z4 rfl isAgg24 (hS19.cell0 (i:=3) ⟨rfl,rfl⟩ (j:=6) rfl)) (gT (d0:=120) rfl rfl hb16 (pv (Z1 rfl underlying64 rfl sizeOf24 rfl) (gT (d0:=120) rfl rfl hb16 (pv (Z4 rfl isAgg24 (hS19.cell0 (i:=4) ⟨rfl,rfl⟩ (j:=6) rfl)) (gT (d0:=120) rfl rfl hb16 (pv (Y7 rfl) (gT (d0:=120) rfl rfl hb16 (wl rfl (Z7 cf20 rfl (O3 (p0:=x5.Params) (p1:=x6.Params) (p2:=p2) (hS19.bun [0,1,2,3,4] [] rfl) h11 h13 hx8) rfl fun v4 T8 w20 im20 rv4 => ?_))))))))))))
      obtain⟨rfl,hS20,_⟩:=rv4
      have hS20:=hS20.unb
      refine gT (d0:=120) rfl rfl hb16 (pv (L7 rfl) (pv (X9 rfl hb16 rfl) (pv (Y7 rfl) (?_))))
      rcases Bool.eq_false_or_eq_true (!y4) with hb17 | hb17
      · have hm:=V8 hb17 hm
        refine gF (d0:=129) rfl rfl (by rw [hb17]; rfl) (gF (d0:=129) rfl rfl (by rw [hb17]; rfl) (gF (d0:=129) rfl rfl (by rw [hb17]; rfl) (gF (d0:=129) rfl rfl (by rw [hb17]; rfl) (gF (d0:=129) rfl rfl (by rw [hb17]; rfl) (gF (d0:=129) rfl rfl (by rw [hb17]; rfl) (gF (d0:=129) rfl rfl (by rw [hb17]; rfl) (pv (Y1 rfl hb17 rfl) (nil (Y9 [(2,.bool p2),(3,pt b1 0),(4,pt b2 0),(10,iv x4),(137,.bool true)] ⟨rfl,rfl,rfl,rfl,rfl,qZt⟩ fun J => ?_)))))))))
        refine cnd (b:=true) rfl (fun _ => ?_) (fun h=>nomatch h)
        refine sq2 (rg (pv (X5 rfl) (nil (Q0 ?_))))
        cases oI hm
        have hn1:_=Lp.ret _:=hn1
        subst hn1
        have hm:=X1 hq1
        cases oI hm
        exact rtn (Y5 (Q6 (Q6 (Y5 (Q6 (U2 rfl rfl ⟨_,rfl,_,(iT im1 (iT im2 (iT im3 (iT im4 (iT im13 (iT im14 im20)))))),⟨rfl,hS20.sel [2] rfl,qZt⟩⟩))))))
      have hm:=X3 hb17 hm
      obtain⟨y5,hx9,hm⟩:=Q4 hm
      refine gT (d0:=129) rfl rfl hb17 (pv (Z1 rfl underlying64 rfl sizeOf62 rfl) (gT (d0:=129) rfl rfl hb17 (pv (Z4 rfl isAgg62 (hS20.cell0 (i:=3) ⟨rfl,rfl⟩ (j:=7) rfl)) (gT (d0:=129) rfl rfl hb17 (pv (Z1 rfl underlying64 rfl sizeOf62 rfl) (gT (d0:=129) rfl rfl hb17 (pv (Z4 rfl isAgg62 (hS20.cell0 (i:=4) ⟨rfl,rfl⟩ (j:=7) rfl)) (gT (d0:=129) rfl rfl hb17 (pv (Y7 rfl) (gT (d0:=129) rfl rfl hb17 (wl rfl (Z7 cf21 rfl (Q6d (p0:=x5.Body) (p1:=x6.Body) (p2:=p2) (hS20.bun [0,1,2] [] rfl) (h12.mono im20) (h14.mono im20) hx9) rfl fun v5 T9 w21 im21 rv5 => ?_))))))))))))
      obtain⟨rfl,hS21,_⟩:=rv5
      have hS21:=hS21.unb
      refine gT (d0:=129) rfl rfl hb17 (pv (L7 rfl) (pv (X9 rfl hb17 rfl) (nil (Y9 [(2,.bool p2),(3,pt b1 0),(4,pt b2 0),(10,iv x4),(137,.bool (!y5))] ⟨rfl,rfl,rfl,rfl,rfl,qZt⟩ fun J => ?_))))
      refine V3 rfl hm (fun hb18 hm => ?_) fun hb18 hm => ?_
      · refine sq2 (rg (pv (X5 rfl) (nil (Q0 ?_))))
        cases oI hm
        have hn1:_=Lp.ret _:=hn1
        subst hn1
        have hm:=X1 hq1
        cases oI hm
        exact rtn (Y5 (Q6 (Q6 (Y5 (Q6 (U2 rfl rfl ⟨_,rfl,_,(iT im1 (iT im2 (iT im3 (iT im4 (iT im13 (iT im14 (iT im20 im21))))))),⟨rfl,hS21.sel [2] rfl,qZt⟩⟩))))))
      refine skp (U6 (Q0 ?_))
      cases oI hm
      exact rg (pv (U1 rfl) (pv (X7 rfl rfl rfl) (pv (J0 rfl) (nil (Q0 ⟨m1,Nat.lt_succ_self _,_,_,(IntKind.wrap .i64 (x4+1)),Q7 ⟨rfl,rfl,rfl,rfl,qZt⟩,(iT im13 (iT im14 (iT im20 im21))),hS21.sel [0,1,2] rfl,hn1⟩)))))
    have hm:=X3 hb14 hm
    refine gF (d0:=105) rfl rfl (by rw [hb14]; rfl) (gF (d0:=105) rfl rfl (by rw [hb14]; rfl) (gF (d0:=105) rfl rfl (by rw [hb14]; rfl) (gF (d0:=105) rfl rfl (by rw [hb14]; rfl) (gF (d0:=105) rfl rfl (by rw [hb14]; rfl) (gT (d0:=102) rfl rfl hb13 (pv (X9 rfl hb14 rfl) (pv (X9 rfl hb13 rfl) (pv (Y7 rfl) (gT (d0:=113) rfl rfl rfl (pv (Z1 rfl underlying64 rfl sizeOf54 rfl) (gT (d0:=113) rfl rfl rfl (pv (Z5 rfl isAgg54 sizeOf54 rfl (hS19.cells0 (i:=3) ⟨rfl,rfl⟩ (o:=2) rfl) (cs:=(U3 x5.Ret))) (gT (d0:=113) rfl rfl rfl (pv (Z1 rfl underlying64 rfl sizeOf54 rfl) (gT (d0:=113) rfl rfl rfl (pv (Z5 rfl isAgg54 sizeOf54 rfl (hS19.cells0 (i:=4) ⟨rfl,rfl⟩ (o:=2) rfl) (cs:=(U3 x6.Ret))) (gT (d0:=113) rfl rfl rfl (pv (Q2q rfl rfl (Z2y x5.Ret.Word x5.Ret.Name x5.Ret.Stars x6.Ret.Word x6.Ret.Name x6.Ret.Stars)) (pv (X9 rfl rfl rfl) (pv (Y7 rfl) (?_)))))))))))))))))))))
    rcases Bool.eq_false_or_eq_true (!((decide (x5.Ret.Word=x6.Ret.Word))&&(decide (x5.Ret.Name=x6.Ret.Name))&&(x5.Ret.Stars == x6.Ret.Stars))) with hb22 | hb22
    · have hm:=V8 hb22 hm
      refine gF (d0:=120) rfl rfl (by rw [hb22]; rfl) (gF (d0:=120) rfl rfl (by rw [hb22]; rfl) (gF (d0:=120) rfl rfl (by rw [hb22]; rfl) (gF (d0:=120) rfl rfl (by rw [hb22]; rfl) (gF (d0:=120) rfl rfl (by rw [hb22]; rfl) (gF (d0:=120) rfl rfl (by rw [hb22]; rfl) (gF (d0:=120) rfl rfl (by rw [hb22]; rfl) (pv (Y1 rfl hb22 rfl) (pv (Y7 rfl) (gF (d0:=129) rfl rfl rfl (gF (d0:=129) rfl rfl rfl (gF (d0:=129) rfl rfl rfl (gF (d0:=129) rfl rfl rfl (gF (d0:=129) rfl rfl rfl (gF (d0:=129) rfl rfl rfl (gF (d0:=129) rfl rfl rfl (pv (Y1 rfl rfl rfl) (nil (Y9 [(2,.bool p2),(3,pt b1 0),(4,pt b2 0),(10,iv x4),(137,.bool true)] ⟨rfl,rfl,rfl,rfl,rfl,qZt⟩ fun J => ?_))))))))))))))))))
      refine cnd (b:=true) rfl (fun _ => ?_) (fun h=>nomatch h)
      refine sq2 (rg (pv (X5 rfl) (nil (Q0 ?_))))
      cases oI hm
      have hn1:_=Lp.ret _:=hn1
      subst hn1
      have hm:=X1 hq1
      cases oI hm
      exact rtn (Y5 (Q6 (Q6 (Y5 (Q6 (U2 rfl rfl ⟨_,rfl,_,(iT im1 (iT im2 (iT im3 (iT im4 (iT im13 im14))))),⟨rfl,hS19.sel [2] rfl,qZt⟩⟩))))))
    have hm:=X3 hb22 hm
    obtain⟨y6,hx10,hm⟩:=Q4 hm
    refine gT (d0:=120) rfl rfl hb22 (pv (Z1 rfl underlying64 rfl sizeOf24 rfl) (gT (d0:=120) rfl rfl hb22 (pv (Z4 rfl isAgg24 (hS19.cell0 (i:=3) ⟨rfl,rfl⟩ (j:=6) rfl)) (gT (d0:=120) rfl rfl hb22 (pv (Z1 rfl underlying64 rfl sizeOf24 rfl) (gT (d0:=120) rfl rfl hb22 (pv (Z4 rfl isAgg24 (hS19.cell0 (i:=4) ⟨rfl,rfl⟩ (j:=6) rfl)) (gT (d0:=120) rfl rfl hb22 (pv (Y7 rfl) (gT (d0:=120) rfl rfl hb22 (wl rfl (Z7 cf20 rfl (O3 (p0:=x5.Params) (p1:=x6.Params) (p2:=p2) (hS19.bun [0,1,2,3,4] [] rfl) h11 h13 hx10) rfl fun v6 T10 w22 im22 rv6 => ?_))))))))))))
    obtain⟨rfl,hS22,_⟩:=rv6
    have hS22:=hS22.unb
    refine gT (d0:=120) rfl rfl hb22 (pv (L7 rfl) (pv (X9 rfl hb22 rfl) (pv (Y7 rfl) (?_))))
    rcases Bool.eq_false_or_eq_true (!y6) with hb23 | hb23
    · have hm:=V8 hb23 hm
      refine gF (d0:=129) rfl rfl (by rw [hb23]; rfl) (gF (d0:=129) rfl rfl (by rw [hb23]; rfl) (gF (d0:=129) rfl rfl (by rw [hb23]; rfl) (gF (d0:=129) rfl rfl (by rw [hb23]; rfl) (gF (d0:=129) rfl rfl (by rw [hb23]; rfl) (gF (d0:=129) rfl rfl (by rw [hb23]; rfl) (gF (d0:=129) rfl rfl (by rw [hb23]; rfl) (pv (Y1 rfl hb23 rfl) (nil (Y9 [(2,.bool p2),(3,pt b1 0),(4,pt b2 0),(10,iv x4),(137,.bool true)] ⟨rfl,rfl,rfl,rfl,rfl,qZt⟩ fun J => ?_)))))))))
      refine cnd (b:=true) rfl (fun _ => ?_) (fun h=>nomatch h)
      refine sq2 (rg (pv (X5 rfl) (nil (Q0 ?_))))
      cases oI hm
      have hn1:_=Lp.ret _:=hn1
      subst hn1
      have hm:=X1 hq1
      cases oI hm
      exact rtn (Y5 (Q6 (Q6 (Y5 (Q6 (U2 rfl rfl ⟨_,rfl,_,(iT im1 (iT im2 (iT im3 (iT im4 (iT im13 (iT im14 im22)))))),⟨rfl,hS22.sel [2] rfl,qZt⟩⟩))))))
    have hm:=X3 hb23 hm
    obtain⟨y7,hx11,hm⟩:=Q4 hm
    refine gT (d0:=129) rfl rfl hb23 (pv (Z1 rfl underlying64 rfl sizeOf62 rfl) (gT (d0:=129) rfl rfl hb23 (pv (Z4 rfl isAgg62 (hS22.cell0 (i:=3) ⟨rfl,rfl⟩ (j:=7) rfl)) (gT (d0:=129) rfl rfl hb23 (pv (Z1 rfl underlying64 rfl sizeOf62 rfl) (gT (d0:=129) rfl rfl hb23 (pv (Z4 rfl isAgg62 (hS22.cell0 (i:=4) ⟨rfl,rfl⟩ (j:=7) rfl)) (gT (d0:=129) rfl rfl hb23 (pv (Y7 rfl) (gT (d0:=129) rfl rfl hb23 (wl rfl (Z7 cf21 rfl (Q6d (p0:=x5.Body) (p1:=x6.Body) (p2:=p2) (hS22.bun [0,1,2] [] rfl) (h12.mono im22) (h14.mono im22) hx11) rfl fun v7 T11 w23 im23 rv7 => ?_))))))))))))
    obtain⟨rfl,hS23,_⟩:=rv7
    have hS23:=hS23.unb
    refine gT (d0:=129) rfl rfl hb23 (pv (L7 rfl) (pv (X9 rfl hb23 rfl) (nil (Y9 [(2,.bool p2),(3,pt b1 0),(4,pt b2 0),(10,iv x4),(137,.bool (!y7))] ⟨rfl,rfl,rfl,rfl,rfl,qZt⟩ fun J => ?_))))
    refine V3 rfl hm (fun hb24 hm => ?_) fun hb24 hm => ?_
    · refine sq2 (rg (pv (X5 rfl) (nil (Q0 ?_))))
      cases oI hm
      have hn1:_=Lp.ret _:=hn1
      subst hn1
      have hm:=X1 hq1
      cases oI hm
      exact rtn (Y5 (Q6 (Q6 (Y5 (Q6 (U2 rfl rfl ⟨_,rfl,_,(iT im1 (iT im2 (iT im3 (iT im4 (iT im13 (iT im14 (iT im22 im23))))))),⟨rfl,hS23.sel [2] rfl,qZt⟩⟩))))))
    refine skp (U6 (Q0 ?_))
    cases oI hm
    exact rg (pv (U1 rfl) (pv (X7 rfl rfl rfl) (pv (J0 rfl) (nil (Q0 ⟨m1,Nat.lt_succ_self _,_,_,(IntKind.wrap .i64 (x4+1)),Q7 ⟨rfl,rfl,rfl,rfl,qZt⟩,(iT im13 (iT im14 (iT im22 im23))),hS23.sel [0,1,2] rfl,hn1⟩)))))
  cases oI hm
  have hn1:_=Lp.brk _:=hn1
  subst hn1
  have hm:=F1 hq1
  refine xt (V9 (V9 (L5 (Q0 ?_))))
  refine sq2 (rg (pv (X5 rfl) (nil (Q0 ?_))))
  cases oI hm
  exact rtn (U2 rfl rfl ⟨_,rfl,_,(iT im1 (iT im2 (iT im3 (iT im4 im13)))),⟨rfl,hS13.sel [2] rfl,qZt⟩⟩)

theorem Q7x {p0:List UInt8} {r:Bool} (hS:Sep g T0 w0 [R]) (hG0:Gi T0 w0 0) (hG1:Gc T0 w0 1 (Lib.pow10Tab.map fun z=>Value.int .u64 z)) (hm:Q0r p0=some r) :
    Calls Tryz.prog 4 #[qZs p0] w0 (E6 T0 w0 fun T w v=>v = .bool r∧Sep g T w [R]∧True):=by
  refine enter (args := [qZs p0]) Tryz.func4 rfl Tryz.ntmps4 rfl fun J => ?_
  unfold Q0r at hm
  refine sq2 (rg (pv (X5 rfl) (nil (Q0 ?_))))
  refine sq2 (sq2 (rg (pv (P2 rfl) (pv (Q5g rfl underlying9) (pv (X7 rfl rfl rfl) (nil (Q0 ?_)))))))
  refine V3 rfl hm (fun hb1 hm => ?_) fun hb1 hm => ?_
  · refine sq2 ?_
    obtain⟨y1,hx1,hm⟩:=Q4 hm
    refine rg (wl rfl (Z7 cf5 rfl (Q3o  (hS.bun [0] [] rfl) hG0 hG1 hx1) rfl fun v1 T1 w1 im1 rv1 => ?_))
    obtain⟨rfl,hS1,_⟩:=rv1
    have hS1:=hS1.unb
    refine pv (X5 rfl) (nil (Q0 ?_))
    cases oI hm
    exact rtn (Q6 (U2 rfl rfl ⟨_,rfl,_,im1,⟨rfl,hS1.sel [0] rfl,qZt⟩⟩))
  refine skp (Q0 ?_)
  refine sq2 ?_
  obtain⟨y2,hx2,hm⟩:=Q4 hm
  refine rg (pv (P2 rfl) (wl rfl (Z7 cf6 rfl (Q8a (p0:=p0) (hS.bun [0] [] rfl) hG0 hx2) rfl fun v2 T2 w2 im2 rv2 => ?_)))
  obtain⟨a1,c1,a2,c2,a3,c3,rfl,hS2,h1,h2,h3,_⟩:=rv2
  have hS2:=hS2.unb
  refine pv (r_mv rfl) (pv (Q4q (v := .agg #[sv a1 y2.1.Structs c1,sv a2 y2.1.Globals c2,sv a3 y2.1.Funcs c3]) rfl rfl) (pv (Q4q (v := .agg #[iv y2.2.1.Line,iv y2.2.1.Col]) rfl rfl) (pv (Q4q (v:=iv y2.2.2) rfl rfl) (wl rfl (alS (zs := [.slice none 0 0,.slice none 0 0,.slice none 0 0]) zeroValue27 rfl hS2 fun w3 b1 im3 hS3 => ?_)))))
  refine wl rfl (alS (zs := [iv 0,iv 0]) zeroValue29 rfl hS3 fun w4 b2 im4 hS4 => ?_)
  refine wl rfl (X6 (q:=1) hS4 ⟨rfl,rfl⟩ rfl rfl rfl sizeOf27 rfl rfl rfl fun w5 im5 hS5 => ?_)
  refine wl rfl (X6 (q:=0) hS5 ⟨rfl,rfl⟩ rfl rfl rfl sizeOf29 rfl rfl rfl fun w6 im6 hS6 => ?_)
  refine pv (J0 rfl) (nil (Q0 ?_))
  refine sq2 (sq2 (rg (pv (U1 rfl) (pv (X7 rfl rfl rfl) (nil (Q0 ?_))))))
  refine V3 rfl hm (fun hb2 hm => ?_) fun hb2 hm => ?_
  · refine sq2 ?_
    obtain⟨y3,hx3,hm⟩:=Q4 hm
    refine rg (wl rfl (Z7 cf5 rfl (Q3o  (hS6.bun [2] [] rfl) (hG0.mono (iT im2 (iT im3 (iT im4 (iT im5 im6))))) (hG1.mono (iT im2 (iT im3 (iT im4 (iT im5 im6))))) hx3) rfl fun v3 T3 w7 im7 rv3 => ?_))
    obtain⟨rfl,hS7,_⟩:=rv3
    have hS7:=hS7.unb
    refine pv (X5 rfl) (nil (Q0 ?_))
    cases oI hm
    exact rtn (Q6 (U2 rfl rfl ⟨_,rfl,_,(iT im2 (iT im3 (iT im4 (iT im5 (iT im6 im7))))),⟨rfl,hS7.sel [0] rfl,qZt⟩⟩))
  refine skp (Q0 ?_)
  refine sq2 ?_
  obtain⟨y4,hx4,hm⟩:=Q4 hm
  refine rg (pv (Z5 rfl isAgg27 sizeOf27 rfl (hS6.cells0 (i:=1) ⟨rfl,rfl⟩ (o:=0) rfl) (cs := [sv a1 y2.1.Structs c1,sv a2 y2.1.Globals c2,sv a3 y2.1.Funcs c3])) (wl rfl (Z7 cf7 rfl (Q6s (p0:=y2.1) (hS6.bun [1,2] [] rfl) (h1.mono (iT im3 (iT im4 (iT im5 im6)))) (h2.mono (iT im3 (iT im4 (iT im5 im6)))) (h3.mono (iT im3 (iT im4 (iT im5 im6)))) hx4) rfl fun v4 T4 w8 im8 rv4 => ?_)))
  obtain⟨a4,c4,a5,c5,a6,c6,rfl,hS8,h4,h5,h6,_⟩:=rv4
  have hS8:=hS8.unb
  refine wl rfl (alS (zs := [.slice none 0 0,.slice none 0 0,.slice none 0 0]) zeroValue27 rfl hS8 fun w9 b3 im9 hS9 => ?_)
  refine wl rfl (X6 (q:=0) hS9 ⟨rfl,rfl⟩ rfl rfl rfl sizeOf27 rfl rfl rfl fun w10 im10 hS10 => ?_)
  refine nil (Q0 ?_)
  refine sq2 (rs [2,0,1,1,2,0,0,1,2,1,2,0,0,1,2,1,2,0,0,0] [0,1,2,3,4,5,6,7,9,8,10,11,12,13,15,14,16,17,18,19] mix (by kernel_rfl) hS10.lt fun w11 i1 => ?_)
  have im11:=i1.imm
  have hS11:=hS10.keep i1 (fun _ h=>h)
  obtain⟨y5,hx5,hm⟩:=Q4 hm
  refine s2 [] rfl qZt rfl (by kernel_rfl) (Z7 cf5 rfl (Q3o  (hS11.bun [0,1,2] [] rfl) (hG0.mono (iT im2 (iT im3 (iT im4 (iT im5 (iT im6 (iT im8 (iT im9 (iT im10 im11))))))))) (hG1.mono (iT im2 (iT im3 (iT im4 (iT im5 (iT im6 (iT im8 (iT im9 (iT im10 im11))))))))) hx5) rfl fun v5 T5 w12 im12 rv5 => ?_)
  obtain⟨rfl,hS12,_⟩:=rv5
  have hS12:=hS12.unb
  refine⟨st0,?_⟩
  refine s0 rfl qZt (fun _=>Y7 rfl) rfl (?_)
  rcases Bool.eq_false_or_eq_true y5 with hb3 | hb3
  · have hm:=V8 hb3 hm
    obtain⟨y6,hx6,hm⟩:=Q4 hm
    refine s1 rfl ⟨_,rfl,congrArg Value.bool hb3⟩ (Z5 rfl isAgg27 sizeOf27 rfl (hS12.cells0 (i:=0) ⟨rfl,rfl⟩ (o:=0) rfl) (cs := [sv a4 y4.Structs c4,sv a5 y4.Globals c5,sv a6 y4.Funcs c6])) rfl (s1 rfl ⟨_,rfl,congrArg Value.bool hb3⟩ (Z5 rfl isAgg27 sizeOf27 rfl (hS12.cells0 (i:=1) ⟨rfl,rfl⟩ (o:=0) rfl) (cs := [sv a1 y2.1.Structs c1,sv a2 y2.1.Globals c2,sv a3 y2.1.Funcs c3])) rfl (s2 [] rfl ⟨_,rfl,congrArg Value.bool hb3⟩ rfl (by kernel_rfl) (Z7 cf8 rfl (Q7d (p0:=y4) (p1:=y2.1) (p2:=true) (hS12.bun [0,1,2] [] rfl) (h4.mono (iT im9 (iT im10 (iT im11 im12)))) (h5.mono (iT im9 (iT im10 (iT im11 im12)))) (h6.mono (iT im9 (iT im10 (iT im11 im12)))) (h1.mono (iT im3 (iT im4 (iT im5 (iT im6 (iT im8 (iT im9 (iT im10 (iT im11 im12))))))))) (h2.mono (iT im3 (iT im4 (iT im5 (iT im6 (iT im8 (iT im9 (iT im10 (iT im11 im12))))))))) (h3.mono (iT im3 (iT im4 (iT im5 (iT im6 (iT im8 (iT im9 (iT im10 (iT im11 im12))))))))) hx6) rfl fun v6 T6 w13 im13 rv6 => ?_)))
    obtain⟨rfl,hS13,_⟩:=rv6
    have hS13:=hS13.unb
    refine⟨st0,?_⟩
    refine s0 rfl qZt (fun _=>Y1 rfl hb3 rfl) rfl (s0 rfl qZt (fun _=>Y7 rfl) rfl (?_))
    rcases Bool.eq_false_or_eq_true y6 with hb4 | hb4
    · have hm:=V8 hb4 hm
      obtain⟨y7,hx7,hm⟩:=Q4 hm
      refine s1 rfl ⟨_,rfl,congrArg Value.bool hb4⟩ (Z5 rfl isAgg27 sizeOf27 rfl (hS13.cells0 (i:=0) ⟨rfl,rfl⟩ (o:=0) rfl) (cs := [sv a4 y4.Structs c4,sv a5 y4.Globals c5,sv a6 y4.Funcs c6])) rfl (s1 rfl ⟨_,rfl,congrArg Value.bool hb4⟩ (Z5 rfl isAgg27 sizeOf27 rfl (hS13.cells0 (i:=0) ⟨rfl,rfl⟩ (o:=0) rfl) (cs := [sv a4 y4.Structs c4,sv a5 y4.Globals c5,sv a6 y4.Funcs c6])) rfl (s2 [(9,.agg #[sv a4 y4.Structs c4,sv a5 y4.Globals c5,sv a6 y4.Funcs c6])] rfl ⟨_,rfl,congrArg Value.bool hb4⟩ rfl (by kernel_rfl) (Z7 cf7 rfl (Q6s (p0:=y4) (hS13.bun [0,1,2] [] rfl) (h4.mono (iT im9 (iT im10 (iT im11 (iT im12 im13))))) (h5.mono (iT im9 (iT im10 (iT im11 (iT im12 im13))))) (h6.mono (iT im9 (iT im10 (iT im11 (iT im12 im13))))) hx7) rfl fun v7 T7 w14 im14 rv7 => ?_)))
      obtain⟨a7,c7,a8,c8,a9,c9,rfl,hS14,h7,h8,h9,_⟩:=rv7
      have hS14:=hS14.unb
      refine⟨st1 rfl (Z5 rfl isAgg27 sizeOf27 rfl (hS14.cells0 (i:=0) ⟨rfl,rfl⟩ (o:=0) rfl) (cs := [sv a4 y4.Structs c4,sv a5 y4.Globals c5,sv a6 y4.Funcs c6])) (st0),?_⟩
      obtain⟨y8,hx8,hm⟩:=Q4 hm
      refine s2 [] rfl ⟨_,rfl,congrArg Value.bool hb4⟩ rfl (by kernel_rfl) (Z7 cf8 rfl (Q7d (p0:=y7) (p1:=y4) (p2:=false) (hS14.bun [0,1,2] [] rfl) h7 h8 h9 (h4.mono (iT im9 (iT im10 (iT im11 (iT im12 (iT im13 im14)))))) (h5.mono (iT im9 (iT im10 (iT im11 (iT im12 (iT im13 im14)))))) (h6.mono (iT im9 (iT im10 (iT im11 (iT im12 (iT im13 im14)))))) hx8) rfl fun v8 T8 w15 im15 rv8 => ?_)
      obtain⟨rfl,hS15,_⟩:=rv8
      have hS15:=hS15.unb
      refine⟨st0,?_⟩
      refine s0 rfl qZt (fun _=>Y1 rfl hb4 rfl) rfl (s0 rfl qZt (fun _=>Y7 rfl) rfl (?_))
      rcases Bool.eq_false_or_eq_true y8 with hb5 | hb5
      · have hm:=V8 hb5 hm
        obtain⟨y9,hx9,hm⟩:=Q4 hm
        refine s1 rfl ⟨_,rfl,congrArg Value.bool hb5⟩ (Z5 rfl isAgg27 sizeOf27 rfl (hS15.cells0 (i:=0) ⟨rfl,rfl⟩ (o:=0) rfl) (cs := [sv a4 y4.Structs c4,sv a5 y4.Globals c5,sv a6 y4.Funcs c6])) rfl (s1 rfl ⟨_,rfl,congrArg Value.bool hb5⟩ (Z5 rfl isAgg27 sizeOf27 rfl (hS15.cells0 (i:=1) ⟨rfl,rfl⟩ (o:=0) rfl) (cs := [sv a1 y2.1.Structs c1,sv a2 y2.1.Globals c2,sv a3 y2.1.Funcs c3])) rfl (s2 [(15,.agg #[sv a1 y2.1.Structs c1,sv a2 y2.1.Globals c2,sv a3 y2.1.Funcs c3])] rfl ⟨_,rfl,congrArg Value.bool hb5⟩ rfl (by kernel_rfl) (Z7 cf9 rfl (Q4c (p0:=y4) (hS15.bun [2,1,0] [] rfl) (h4.mono (iT im9 (iT im10 (iT im11 (iT im12 (iT im13 (iT im14 im15))))))) (h5.mono (iT im9 (iT im10 (iT im11 (iT im12 (iT im13 (iT im14 im15))))))) (h6.mono (iT im9 (iT im10 (iT im11 (iT im12 (iT im13 (iT im14 im15))))))) (hG1.mono (iT im2 (iT im3 (iT im4 (iT im5 (iT im6 (iT im8 (iT im9 (iT im10 (iT im11 (iT im12 (iT im13 (iT im14 im15))))))))))))) hx9) rfl fun v9 T9 w16 im16 rv9 => ?_)))
        obtain⟨rfl,hS16,_⟩:=rv9
        have hS16:=hS16.unb
        refine⟨st1 rfl (Z5 rfl isAgg27 sizeOf27 rfl (hS16.cells0 (i:=1) ⟨rfl,rfl⟩ (o:=0) rfl) (cs := [sv a1 y2.1.Structs c1,sv a2 y2.1.Globals c2,sv a3 y2.1.Funcs c3])) (st0),?_⟩
        obtain⟨y10,hx10,hm⟩:=Q4 hm
        refine s2 [] rfl ⟨_,rfl,congrArg Value.bool hb5⟩ rfl (by kernel_rfl) (Z7 cf9 rfl (Q4c (p0:=y2.1) (hS16.bun [0,1] [] rfl) (h1.mono (iT im3 (iT im4 (iT im5 (iT im6 (iT im8 (iT im9 (iT im10 (iT im11 (iT im12 (iT im13 (iT im14 (iT im15 im16))))))))))))) (h2.mono (iT im3 (iT im4 (iT im5 (iT im6 (iT im8 (iT im9 (iT im10 (iT im11 (iT im12 (iT im13 (iT im14 (iT im15 im16))))))))))))) (h3.mono (iT im3 (iT im4 (iT im5 (iT im6 (iT im8 (iT im9 (iT im10 (iT im11 (iT im12 (iT im13 (iT im14 (iT im15 im16))))))))))))) (hG1.mono (iT im2 (iT im3 (iT im4 (iT im5 (iT im6 (iT im8 (iT im9 (iT im10 (iT im11 (iT im12 (iT im13 (iT im14 (iT im15 im16)))))))))))))) hx10) rfl fun v10 T10 w17 im17 rv10 => ?_)
        obtain⟨rfl,hS17,_⟩:=rv10
        have hS17:=hS17.unb
        refine⟨st0,?_⟩
        refine s0 rfl ⟨_,rfl,congrArg Value.bool hb5⟩ (fun _=>E7 rfl rfl) rfl (s0 rfl qZt (fun _=>Y1 rfl hb5 rfl) rfl (s0 rfl qZt (fun _=>X5 rfl) rfl (se (Y9 [(2,.bool (decide (y9=y10)))] ⟨rfl,qZt⟩ fun J => ?_))))
        cases oI hm
        exact rtn (U2 rfl rfl ⟨_,rfl,_,(iT im2 (iT im3 (iT im4 (iT im5 (iT im6 (iT im8 (iT im9 (iT im10 (iT im11 (iT im12 (iT im13 (iT im14 (iT im15 (iT im16 im17)))))))))))))),⟨rfl,hS17.sel [0] rfl,qZt⟩⟩)
      have hm:=X3 hb5 hm
      refine sU rfl (gI rfl rfl hb5) (sU rfl (gI rfl rfl hb5) (sU rfl (gI rfl rfl hb5) (sU rfl (gI rfl rfl hb5) (sU rfl (gI rfl rfl hb5) (s0 rfl qZt (fun _=>X9 rfl hb5 rfl) rfl (s0 rfl qZt (fun _=>X5 rfl) rfl (se (Y9 [(2,.bool false)] ⟨rfl,qZt⟩ fun J => ?_))))))))
      cases oI hm
      exact rtn (U2 rfl rfl ⟨_,rfl,_,(iT im2 (iT im3 (iT im4 (iT im5 (iT im6 (iT im8 (iT im9 (iT im10 (iT im11 (iT im12 (iT im13 (iT im14 im15)))))))))))),⟨rfl,hS15.sel [2] rfl,qZt⟩⟩)
    have hm:=X3 hb4 hm
    refine sU rfl (gI rfl rfl hb4) (sU rfl (gI rfl rfl hb4) (sU rfl (gI rfl rfl hb4) (sU rfl (gI rfl rfl hb4) (s0 rfl qZt (fun _=>X9 rfl hb4 rfl) rfl (s0 rfl qZt (fun _=>Y7 rfl) rfl (sU rfl (gI rfl rfl rfl) (sU rfl (gI rfl rfl rfl) (sU rfl (gI rfl rfl rfl) (sU rfl (gI rfl rfl rfl) (sU rfl (gI rfl rfl rfl) (s0 rfl qZt (fun _=>X9 rfl rfl rfl) rfl (s0 rfl qZt (fun _=>X5 rfl) rfl (se (Y9 [(2,.bool false)] ⟨rfl,qZt⟩ fun J => ?_))))))))))))))
    cases oI hm
    exact rtn (U2 rfl rfl ⟨_,rfl,_,(iT im2 (iT im3 (iT im4 (iT im5 (iT im6 (iT im8 (iT im9 (iT im10 (iT im11 (iT im12 im13)))))))))),⟨rfl,hS13.sel [2] rfl,qZt⟩⟩)
  have hm:=X3 hb3 hm
  refine sU rfl (gI rfl rfl hb3) (sU rfl (gI rfl rfl hb3) (sU rfl (gI rfl rfl hb3) (s0 rfl qZt (fun _=>X9 rfl hb3 rfl) rfl (s0 rfl qZt (fun _=>Y7 rfl) rfl (sU rfl (gI rfl rfl rfl) (sU rfl (gI rfl rfl rfl) (sU rfl (gI rfl rfl rfl) (sU rfl (gI rfl rfl rfl) (s0 rfl qZt (fun _=>X9 rfl rfl rfl) rfl (s0 rfl qZt (fun _=>Y7 rfl) rfl (sU rfl (gI rfl rfl rfl) (sU rfl (gI rfl rfl rfl) (sU rfl (gI rfl rfl rfl) (sU rfl (gI rfl rfl rfl) (sU rfl (gI rfl rfl rfl) (s0 rfl qZt (fun _=>X9 rfl rfl rfl) rfl (s0 rfl qZt (fun _=>X5 rfl) rfl (se (Y9 [(2,.bool false)] ⟨rfl,qZt⟩ fun J => ?_)))))))))))))))))))
  cases oI hm
  exact rtn (U2 rfl rfl ⟨_,rfl,_,(iT im2 (iT im3 (iT im4 (iT im5 (iT im6 (iT im8 (iT im9 (iT im10 (iT im11 im12))))))))),⟨rfl,hS12.sel [2] rfl,qZt⟩⟩)
end Go.Proofs.YtbolaohekbmndaaGreatDoor
