/- That Go functions compute their models. Printed by gen2.py. -/
import Derived.Test.YtecakklofhfphaaGreatDoorKWa
set_option linter.unusedVariables false
namespace Go.Proofs.YtecakklofhfphaaGreatDoor
open _root_.Go.Proofs.Tryz
set_option maxRecDepth 100000
set_option maxHeartbeats 8000000
attribute [local irreducible] wpList wpQuiet Code.wp
variable {g:World} {T0:Nat→Prop} {w0:World} {R:List Z4}
attribute [local irreducible] K6 B3 execOp Program.underlying sizeOf isAgg zeroValue

theorem Z0q {p0:X8} {a1 c1 a2 c2} {p1:List Int} {a3 c3} {p2:List Int} {a4 c4 p3} (hS:Sep g T0 w0 [Q3 R]) (h1:SlR (Q2 .u32) T0 w0 (sv a1 p0.Code c1) p0.Code) (h2:SlR (Q2 .u8) T0 w0 (sv a2 p0.Data c2) p0.Data) (h3:SlR (Q2 .u32) T0 w0 (sv a3 p1 c3) p1) (h4:SlR (Q2 .i64) T0 w0 (sv a4 p2 c4) p2) : ∀ r,O7 p0 p1 p2 p3=some r →
    Calls Tryz.prog 5 #[.agg #[sv a1 p0.Code c1,sv a2 p0.Data c2,iv p0.Limit,iv p0.Notes],sv a3 p1 c3,sv a4 p2 c4,iv p3] w0 (Y4 T0 w0 fun T w v => ∃ a19 c19,v = .tuple #[.agg #[iv (List.getD r.1.Part 0 0),iv (List.getD r.1.Part 1 0),iv (List.getD r.1.Part 2 0),iv (List.getD r.1.Part 3 0),iv (List.getD r.1.Part 4 0),iv (List.getD r.1.Part 5 0),iv (List.getD r.1.Part 6 0),sv a19 r.1.Words c19,iv r.1.Most,iv r.1.Steps,iv r.1.Fails],iv r.2]∧Sep g T w (R ++ [])∧SlR (Q2 .i64) T w (sv a19 r.1.Words c19) r.1.Words∧True):=by
  intro r hm
  refine enterM Tryz.func5 rfl Tryz.ntmps5 rfl fun J => ?_
  unfold O7 at hm
  refine sq2 (bX [sv a1 p0.Code c1,sv a2 p0.Data c2,iv p0.Limit,iv p0.Notes] hS ?_)
  intro w1 b1 im1 hS1
  refine aL zv1 hS1 ?_
  intro w2 b2 im2 hS2
  refine pn ?_
  refine sq2 (pu ?_)
  obtain⟨y1,hx1,hm⟩:=Q4 hm
  rcases y1 with e1 | y1
  · have hm:=Q5g hm
    refine cS cf11 (Q4v (hS2.bun [0,1,2] [] rfl) (h1.mono ch) (h2.mono ch) (h3.mono ch) _ hx1) ?_
    rintro _ T2 w8 im8 ⟨b4,a6,c6,a7,n2,c7,a8,n3,c8,a9,c9,a10,n4,c10,rfl,hS8,h5,h6,_⟩
    refine pn ?_
    refine sq2 (sq2 (cd hm ?_ ?_)) <;> intro hb2 hm
    · refine sq2 (pu ?_)
      refine pv (U3 (by kernel_rfl) rfl (u := .agg #[iv 0,iv 0,iv 0,iv 0,iv 0,iv 0,iv 0,.slice none 0 0,iv 0,iv 0,iv 0])) (sT 0 hS8 ?_)
      intro w9 im9 hS9
      refine pn ?_
      cases oI hm
      refine pn ?_
      exact retNM (vs := [.agg #[iv 0,iv 0,iv 0,iv 0,iv 0,iv 0,iv 0,.slice none 0 0,iv 0,iv 0,iv 0],iv e1.2]) rfl ⟨rvS rfl isAgg32 sizeOf32 rfl (hS9.bx (i:=0) ⟨rfl,rfl⟩),rfl,qZt⟩ rfl ⟨_,rfl,_,ch,⟨_,_,rfl,(hS9.sel [2] rfl).unb,Q1x,qZt⟩⟩
    refine pn ?_
    refine sq2 ?_
    obtain⟨u2,hx3,hm⟩:=Q4 hm
    refine pu ?_
    refine wl rfl (msS (r:=(Q2 .i64)) hS8 rfl rfl underlying26 el3 zeroValue3 rfl hx3 fun w10 a11 n5 c11 im10 hS10 => ?_)
    refine pv (U3 (by kernel_rfl) rfl (u := .agg #[iv 0,iv 0,iv 0,iv 0,iv 0,iv 0,iv 0,.slice a11 n5 c11,iv 0,iv 0,iv 0])) (aL zv1 hS10 ?_)
    intro w11 b5 im11 hS11
    refine sT 0 hS11 ?_
    intro w12 im12 hS12
    refine pn ?_
    refine sq2 (sq2 (pu ?_))
    refine cB cf12 hm (Z0p (Q8k:=fun cs=>Y2 b5 ([iv 0,iv 0,iv 0,iv 0,iv 0,iv 0,iv 0,.slice a11 n5 c11,iv 0,iv 0]++cs ++ [])) (hS12.bun [2,3,4,1] [5,6,7,8,0] rfl) (h1.mono ch) (h2.mono ch) (C3 b4) (h5.mono ch) (h6.mono ch) (h4.mono ch) (lnSub (C3 b5) [iv 0,iv 0,iv 0,iv 0,iv 0,iv 0,iv 0,.slice a11 n5 c11,iv 0,iv 0] [])) ?_
    rintro y2 _ T3 w13 im13 ⟨b6,b7,b8,a12,c12,b9,b10,a13,c13,a14,c14,rfl,hS13,h7,h8,h9,_⟩ hm
    refine pn ?_
    refine blk ?_
    obtain⟨⟨zi1,yi1⟩,ho1,hm⟩:=Q4 hm
    rcases go_or zi1 with ⟨s1,rfl⟩ | hz1
    · have hm:=Y1e hm
      obtain⟨x3o,x2o⟩:=s1
      have hB1:=hS13.bun [8,1,0,3] ([2,9]++Q9 4 4++Q9 10 4) rfl
      have hB1:Sep g T3 w13 (Q3 [Y2 b5 [iv 0,iv 0,iv 0,iv 0,iv 0,iv 0,iv 0,.slice a11 n5 c11,iv 0,iv 0,iv 0],Y2 b1 [sv a1 p0.Code c1,sv a2 p0.Data c2,iv p0.Limit,iv p0.Notes],Y2 b2 zv1,Z0 (Q2 .i64) 3 (.slice a11 n5 c11) u2] :: [Q3 R,Y2 b6 [pt b4 0],U9 (Y2 b4) Z9 e1.1.volatile.regs [.int .u32 e1.1.volatile.pc,.int .u32 e1.1.volatile.seq,.int .u32 e1.1.volatile.index,sv a6 e1.1.code c6,.slice a7 n2 c7,.slice a8 n3 c8,sv a9 e1.1.inputs c9,.slice a10 n4 c10,iv e1.1.steps,iv e1.1.state,.int .u32 e1.1.exit],Z0 Q6 218 (.slice a7 n2 c7) e1.1.met,Z0 (Q2 .u8) 5 (.slice a8 n3 c8) e1.1.data,Z0 Z1 403 (.slice a10 n4 c10) e1.1.log,Y2 b7 [iv y2.1],Y2 b8 [sv a12 y2.2.1 c12],Y2 b9 [pt b5 10],Y2 b10 [sv a13 y2.2.2.Code c13,sv a14 y2.2.2.Data c14,iv y2.2.2.Limit,iv y2.2.2.Notes]]):=hB1
      have hA1:Sep g T3 w13 ((fun(x3:Int) (x2:Z7)=>Q3 [Y2 b5 [iv (List.getD x2.Part 0 0),iv (List.getD x2.Part 1 0),iv (List.getD x2.Part 2 0),iv (List.getD x2.Part 3 0),iv (List.getD x2.Part 4 0),iv (List.getD x2.Part 5 0),iv (List.getD x2.Part 6 0),.slice a11 n5 c11,iv x2.Most,iv x2.Steps,iv x3],Y2 b1 [sv a1 p0.Code c1,sv a2 p0.Data c2,iv p0.Limit,iv p0.Notes],Y2 b2 zv1,Z0 (Q2 .i64) 3 (.slice a11 n5 c11) x2.Words]) 0 (⟨([0,0,0,0,0,0,0]:List Int),u2,0,0,0⟩:Z7) :: [Q3 R,Y2 b6 [pt b4 0],U9 (Y2 b4) Z9 e1.1.volatile.regs [.int .u32 e1.1.volatile.pc,.int .u32 e1.1.volatile.seq,.int .u32 e1.1.volatile.index,sv a6 e1.1.code c6,.slice a7 n2 c7,.slice a8 n3 c8,sv a9 e1.1.inputs c9,.slice a10 n4 c10,iv e1.1.steps,iv e1.1.state,.int .u32 e1.1.exit],Z0 Q6 218 (.slice a7 n2 c7) e1.1.met,Z0 (Q2 .u8) 5 (.slice a8 n3 c8) e1.1.data,Z0 Z1 403 (.slice a10 n4 c10) e1.1.log,Y2 b7 [iv y2.1],Y2 b8 [sv a12 y2.2.1 c12],Y2 b9 [pt b5 10],Y2 b10 [sv a13 y2.2.2.Code c13,sv a14 y2.2.2.Data c14,iv y2.2.2.Limit,iv y2.2.2.Notes]]):=hB1
      refine wpR [(4,pt b1 0),(8,pt b2 0),(10,pt b4 0),(12,pt b5 0),(35,.func (.func 24) #[] #[pt b6 0,pt b7 0,pt b8 0,pt b9 0,pt b10 0])] ⟨rfl,rfl,rfl,rfl,rfl,qZt⟩ fun J => ?_
      refine rfG (σ := Int×Z7) (ε := Unit) (yb:=(fun(sx:Int×Z7) (x4:Int)=>(match sx with | (x3,x2)=>(O6 p0 x4).bind fun y3=>(idx ([List.getD x2.Part 0 0,List.getD x2.Part 1 0,List.getD x2.Part 2 0,List.getD x2.Part 3 0,List.getD x2.Part 4 0,List.getD x2.Part 5 0,List.getD x2.Part 6 0]:List Int) y3).bind fun u3=>(idx ([List.getD x2.Part 0 0,List.getD x2.Part 1 0,List.getD x2.Part 2 0,List.getD x2.Part 3 0,List.getD x2.Part 4 0,List.getD x2.Part 5 0,List.getD x2.Part 6 0]:List Int) y3).bind fun u4=>(setD ([List.getD x2.Part 0 0,List.getD x2.Part 1 0,List.getD x2.Part 2 0,List.getD x2.Part 3 0,List.getD x2.Part 4 0,List.getD x2.Part 5 0,List.getD x2.Part 6 0]:List Int) y3 (IntKind.wrap .i64 (u3+1))).bind fun u5=>(idx x2.Words (IntKind.wrap .i64 (Int.tdiv x4 4))).bind fun u6=>(idx x2.Words (IntKind.wrap .i64 (Int.tdiv x4 4))).bind fun u7=>(idx x2.Words (IntKind.wrap .i64 (Int.tdiv x4 4))).bind fun u8=>(idx (List.set x2.Words (Int.toNat (IntKind.wrap .i64 (Int.tdiv x4 4))) (IntKind.wrap .i64 (u6+1))) (IntKind.wrap .i64 (Int.tdiv x4 4))).bind fun u9=>some (Lp.go (x3,(⟨u5,List.set x2.Words (Int.toNat (IntKind.wrap .i64 (Int.tdiv x4 4))) (IntKind.wrap .i64 (u6+1)),max x2.Most u9,x2.Steps,x3⟩:Z7))):Option (Lp (Int×Z7) Unit)))) (encs:=fun(x4:Int) => #[iv x4]) (jump:=fun z=>match z with | .go _=>none | _=>some .ret) (Yz:=fun z=>match z with | .go s=>(fun(x3:Int) (x2:Z7)=>Q3 [Y2 b5 [iv (List.getD x2.Part 0 0),iv (List.getD x2.Part 1 0),iv (List.getD x2.Part 2 0),iv (List.getD x2.Part 3 0),iv (List.getD x2.Part 4 0),iv (List.getD x2.Part 5 0),iv (List.getD x2.Part 6 0),.slice a11 n5 c11,iv x2.Most,iv x2.Steps,iv x3],Y2 b1 [sv a1 p0.Code c1,sv a2 p0.Data c2,iv p0.Limit,iv p0.Notes],Y2 b2 zv1,Z0 (Q2 .i64) 3 (.slice a11 n5 c11) x2.Words]) s.1 s.2 | _=>empA) (A:=Q3 R) (C:=Q3 [Y2 b6 [pt b4 0],U9 (Y2 b4) Z9 e1.1.volatile.regs [.int .u32 e1.1.volatile.pc,.int .u32 e1.1.volatile.seq,.int .u32 e1.1.volatile.index,sv a6 e1.1.code c6,.slice a7 n2 c7,.slice a8 n3 c8,sv a9 e1.1.inputs c9,.slice a10 n4 c10,iv e1.1.steps,iv e1.1.state,.int .u32 e1.1.exit],Z0 Q6 218 (.slice a7 n2 c7) e1.1.met,Z0 (Q2 .u8) 5 (.slice a8 n3 c8) e1.1.data,Z0 Z1 403 (.slice a10 n4 c10) e1.1.log,Y2 b7 [iv y2.1],Y2 b8 [sv a12 y2.2.1 c12],Y2 b9 [pt b5 10],Y2 b10 [sv a13 y2.2.2.Code c13,sv a14 y2.2.2.Data c14,iv y2.2.2.Limit,iv y2.2.2.Notes]]) (C2:=exA fun a15=>exA fun c15=>exA fun a16=>exA fun c16=>exA fun a17=>exA fun n6=>exA fun c17=>exA fun a18=>exA fun c18=>slA (Q2 .u32) (sv a15 yi1.1.code c15) yi1.1.code (slA (Q2 .u32) (sv a16 yi1.1.inputs c16) yi1.1.inputs (slA (Q2 .i64) (sv a18 yi1.2 c18) yi1.2 (Q3 [Y2 b6 [pt b4 0],U9 (Y2 b4) Z9 yi1.1.volatile.regs [.int .u32 yi1.1.volatile.pc,.int .u32 yi1.1.volatile.seq,.int .u32 yi1.1.volatile.index,sv a15 yi1.1.code c15,.slice a7 n2 c7,.slice a8 n3 c8,sv a16 yi1.1.inputs c16,.slice a17 n6 c17,iv yi1.1.steps,iv yi1.1.state,.int .u32 yi1.1.exit],Z0 Q6 218 (.slice a7 n2 c7) yi1.1.met,Z0 (Q2 .u8) 5 (.slice a8 n3 c8) yi1.1.data,Z0 Z1 403 (.slice a17 n6 c17) yi1.1.log,Y2 b7 [iv y2.1],Y2 b8 [sv a18 yi1.2 c18],Y2 b9 [pt b5 10],Y2 b10 [sv a13 y2.2.2.Code c13,sv a14 y2.2.2.Data c14,iv y2.2.2.Limit,iv y2.2.2.Notes]])))) (s0:=(0,(⟨([0,0,0,0,0,0,0]:List Int),u2,0,0,0⟩:Z7))) (o := .go (x3o,x2o)) (Lx:=fun x4 => [(13,iv x4),(36,iv x4),(4,pt b1 0),(8,pt b2 0),(10,pt b4 0),(12,pt b5 0),(35,.func (.func 24) #[] #[pt b6 0,pt b7 0,pt b8 0,pt b9 0,pt b10 0])]) rfl cf24 ((hA1.bun (Q9 2 9) [1,0] rfl).sel [1,0,2] rfl) (fun z=>by cases z <;> rfl) (fun _=>rfl) ?_ ?_ ?_ ?_
      · intro l x w1 K hK
        rw [prm1]
        refine regIn (fun _ _ h=>h) rfl ?_
        refine pn ?_
        exact hK
      · intro l T4 w14 s2 x4 z R2 im14 hS14 hm
        obtain⟨x3,x2⟩:=s2
        have hS14:Sep g T4 w14 ((fun(x3:Int) (x2:Z7)=>Q3 [Y2 b5 [iv (List.getD x2.Part 0 0),iv (List.getD x2.Part 1 0),iv (List.getD x2.Part 2 0),iv (List.getD x2.Part 3 0),iv (List.getD x2.Part 4 0),iv (List.getD x2.Part 5 0),iv (List.getD x2.Part 6 0),.slice a11 n5 c11,iv x2.Most,iv x2.Steps,iv x3],Y2 b1 [sv a1 p0.Code c1,sv a2 p0.Data c2,iv p0.Limit,iv p0.Notes],Y2 b2 zv1,Z0 (Q2 .i64) 3 (.slice a11 n5 c11) x2.Words]) x3 x2 :: [R2]):=hS14.sel [1,0] rfl
        have hS14:=hS14.unb
        refine blkI ?_
        refine sq2I ?_
        refine regIn (fun _ _ h=>rndOut h) rfl ?_
        refine pu ?_
        refine cB cf10 hm (Z3t (hS14.bun (Q9 0 5) [] rfl) (h1.mono ch) (h2.mono ch)) ?_
        rintro y3 _ T5 w15 im15 ⟨rfl,hS15,_⟩ hm
        obtain⟨u3,hx6,hm⟩:=Q4 hm
        obtain⟨of1,he1⟩ : ∃ z:Nat,z=0+(Int.toNat y3) * 1:=⟨_,rfl⟩
        obtain⟨u4,hx7,hm⟩:=Q4 hm
        obtain rfl:u3=u4:=oI (hx6.symm.trans hx7)
        obtain⟨of2,he2⟩ : ∃ z:Nat,z=0+(Int.toNat y3) * 1:=⟨_,rfl⟩
        obtain⟨u5,hx8,hm⟩:=Q4 hm
        refine pu ?_
        refine pv (Q1g rfl rfl rfl hx6 underlying30 sizeOf3 he1) (pv (K3 rfl isAgg3 ((Sep.segEl (l:=([List.getD x2.Part 0 0,List.getD x2.Part 1 0,List.getD x2.Part 2 0,List.getD x2.Part 3 0,List.getD x2.Part 4 0,List.getD x2.Part 5 0,List.getD x2.Part 6 0]:List Int)) (cs := [.slice a11 n5 c11,iv x2.Most,iv x2.Steps,iv x3]) hS15 (q:=0) ⟨rfl,rfl⟩ (C3 b5) Q3q hx6 he1).get (j:=0) rfl)) (pu ?_))
        refine pv (Q1g rfl rfl rfl hx7 underlying30 sizeOf3 he2) (wl rfl (stFl (q:=0) (l:=([List.getD x2.Part 0 0,List.getD x2.Part 1 0,List.getD x2.Part 2 0,List.getD x2.Part 3 0,List.getD x2.Part 4 0,List.getD x2.Part 5 0,List.getD x2.Part 6 0]:List Int)) (cs := [.slice a11 n5 c11,iv x2.Most,iv x2.Steps,iv x3]) (en:=Z2u) (u' := IntKind.wrap .i64 (u3+1)) (dd:=0) (j:=0) hS15 ⟨rfl,rfl⟩ (C3 b5) Q3q hx7 he2 rfl rfl rfl sizeOf3 rfl rfl rfl rfl hx8 rfl rfl fun w16 im16 hS16 => ?_))
        refine pn ?_
        refine sq2I ?_
        obtain⟨u6,hx9,hm⟩:=Q4 hm
        obtain⟨u7,hx10,hm⟩:=Q4 hm
        obtain rfl:u6=u7:=oI (hx9.symm.trans hx10)
        obtain⟨u8,hx11,hm⟩:=Q4 hm
        obtain rfl:u6=u8:=oI (hx10.symm.trans hx11)
        refine regIn (fun _ _ h=>rndOut h) rfl ?_
        refine pu ?_
        refine wl rfl (stOc (q:=3) (j:=0) (u' := IntKind.wrap .i64 (u6+1)) hS16 ⟨rfl,rfl⟩ hx11 rfl rfl rfl sizeOf3 rfl rfl rfl (fun c0 hc0=>by rw [B8 (r:=(Q2 .i64)) hc0 rfl]; exact rfl) fun w17 im17 hS17 => ?_)
        refine pn ?_
        refine rsI [0,1,0,1,0,0,0,1,0,0,2] [0,1,2,3,4,5,6,7,8,9,10] mix (by kernel_rfl) rfl hS17.lt fun w18 i1 => ?_
        have im18:=i1.imm
        have hS18:=hS17.keep i1 (fun _ h=>h)
        obtain⟨u9,hx12,hm⟩:=Q4 hm
        refine pu ?_
        refine s0 rfl qZt (fun _=>r_imx rfl rfl) rfl (pu ?_)
        refine s2W [0,0,0] ?_
        refine osT 0 hS18 ?_
        intro w19 im19 hS19
        refine pu ?_
        cases oI hm
        refine pn ?_
        exact⟨rfl,_,ch,(show Sep g T5 w19 ((fun(x3:Int) (x2:Z7)=>Q3 [Y2 b5 [iv (List.getD x2.Part 0 0),iv (List.getD x2.Part 1 0),iv (List.getD x2.Part 2 0),iv (List.getD x2.Part 3 0),iv (List.getD x2.Part 4 0),iv (List.getD x2.Part 5 0),iv (List.getD x2.Part 6 0),.slice a11 n5 c11,iv x2.Most,iv x2.Steps,iv x3],Y2 b1 [sv a1 p0.Code c1,sv a2 p0.Data c2,iv p0.Limit,iv p0.Notes],Y2 b2 zv1,Z0 (Q2 .i64) 3 (.slice a11 n5 c11) x2.Words]) x3 (⟨u5,List.set x2.Words (Int.toNat (IntKind.wrap .i64 (Int.tdiv x4 4))) (IntKind.wrap .i64 (u6+1)),max x2.Most u9,x2.Steps,x3⟩:Z7) :: [R2]) from hS19.bun (Q9 0 4) [4] rfl).sel [1,0] rfl⟩
      · intro l T1 w1 R2 U Aq Bq hU im20 hS hY
        have hUy:Uy (fun(s:Z7) (cs:List Value)=>Q3 [(fun(x2:Z7) (cs:List Value)=>Q3 [Y2 b5 ([iv (List.getD x2.Part 0 0),iv (List.getD x2.Part 1 0),iv (List.getD x2.Part 2 0),iv (List.getD x2.Part 3 0),iv (List.getD x2.Part 4 0),iv (List.getD x2.Part 5 0),iv (List.getD x2.Part 6 0),.slice a11 n5 c11,iv x2.Most,iv x2.Steps]++cs ++ []),Y2 b1 [sv a1 p0.Code c1,sv a2 p0.Data c2,iv p0.Limit,iv p0.Notes],Y2 b2 zv1,Z0 (Q2 .i64) 3 (.slice a11 n5 c11) x2.Words]) s cs,Aq none,Bq]) U=U:=Uy_eq fun x s=>(hU (.go (x,s))).symm
        have hS:Sep g T1 w1 ([Y2 b6 [pt b4 0],U9 (Y2 b4) Z9 e1.1.volatile.regs [.int .u32 e1.1.volatile.pc,.int .u32 e1.1.volatile.seq,.int .u32 e1.1.volatile.index,sv a6 e1.1.code c6,.slice a7 n2 c7,.slice a8 n3 c8,sv a9 e1.1.inputs c9,.slice a10 n4 c10,iv e1.1.steps,iv e1.1.state,.int .u32 e1.1.exit],Z0 Q6 218 (.slice a7 n2 c7) e1.1.met,Z0 (Q2 .u8) 5 (.slice a8 n3 c8) e1.1.data,Z0 Z1 403 (.slice a10 n4 c10) e1.1.log,Y2 b7 [iv y2.1],Y2 b8 [sv a12 y2.2.1 c12],Y2 b9 [pt b5 10],Y2 b10 [sv a13 y2.2.2.Code c13,sv a14 y2.2.2.Data c14,iv y2.2.2.Limit,iv y2.2.2.Notes]] ++ [R2,U (.go (0,(⟨([0,0,0,0,0,0,0]:List Int),u2,0,0,0⟩:Z7)))]):=(hS.sel [1,0,2] rfl).unb
        have hS:=hS.sel ([9,10]++Q9 0 9) rfl
        rw [hU] at hS
        refine callsIn_wide.2 ((Q7q (U_p0:=U) (l_p0:=l) (p2:=e1.1) (p3:=y2.1) (p4:=y2.2.1) (p5:=0) (H2:=(fun(s:Z7) (cs:List Value)=>Q3 [(fun(x2:Z7) (cs:List Value)=>Q3 [Y2 b5 ([iv (List.getD x2.Part 0 0),iv (List.getD x2.Part 1 0),iv (List.getD x2.Part 2 0),iv (List.getD x2.Part 3 0),iv (List.getD x2.Part 4 0),iv (List.getD x2.Part 5 0),iv (List.getD x2.Part 6 0),.slice a11 n5 c11,iv x2.Most,iv x2.Steps]++cs ++ []),Y2 b1 [sv a1 p0.Code c1,sv a2 p0.Data c2,iv p0.Limit,iv p0.Notes],Y2 b2 zv1,Z0 (Q2 .i64) 3 (.slice a11 n5 c11) x2.Words]) s cs,Aq none,Bq])) (p6:=y2.2.2) (hS.bun [0] (Q9 2 8 ++ [1,10]) rfl) (by rw [hUy]; exact fun T2 w2 x s x4 z R2 i h e=>hY T2 w2 (x,s) x4 z R2 i (by rw [hU]; exact h) e) (C3 b6) (C3 b4) (h5.mono ch) (h6.mono ch) (C3 b7) (C3 b8) (h7.mono im20) (C3 b9) (fun _=>lnStar (lnStar (lnSub (C3 b5) [_,_,_,_,_,_,_,_,_,_] []) _) _) (C3 b10) (h8.mono im20) (h9.mono im20) _ ho1).mono ?_)
        rintro e w3 ⟨v,rfl,T3,im3,a15,c15,a16,c16,a17,n6,c17,a18,c18,rfl,hS3,h10,h11,h12,_⟩
        rw [hUy] at hS3
        have hB:=hS3.bun (Q9 1 8 ++ [10]) [0,9] rfl
        have hB:Sep g T3 w3 (Q3 [Y2 b6 [pt b4 0],U9 (Y2 b4) Z9 yi1.1.volatile.regs [.int .u32 yi1.1.volatile.pc,.int .u32 yi1.1.volatile.seq,.int .u32 yi1.1.volatile.index,sv a15 yi1.1.code c15,.slice a7 n2 c7,.slice a8 n3 c8,sv a16 yi1.1.inputs c16,.slice a17 n6 c17,iv yi1.1.steps,iv yi1.1.state,.int .u32 yi1.1.exit],Z0 Q6 218 (.slice a7 n2 c7) yi1.1.met,Z0 (Q2 .u8) 5 (.slice a8 n3 c8) yi1.1.data,Z0 Z1 403 (.slice a17 n6 c17) yi1.1.log,Y2 b7 [iv y2.1],Y2 b8 [sv a18 yi1.2 c18],Y2 b9 [pt b5 10],Y2 b10 [sv a13 y2.2.2.Code c13,sv a14 y2.2.2.Data c14,iv y2.2.2.Limit,iv y2.2.2.Notes]] :: [R2,U (.go (x3o,x2o))]):=hB
        have hC:Sep g T3 w3 ((exA fun a15=>exA fun c15=>exA fun a16=>exA fun c16=>exA fun a17=>exA fun n6=>exA fun c17=>exA fun a18=>exA fun c18=>slA (Q2 .u32) (sv a15 yi1.1.code c15) yi1.1.code (slA (Q2 .u32) (sv a16 yi1.1.inputs c16) yi1.1.inputs (slA (Q2 .i64) (sv a18 yi1.2 c18) yi1.2 (Q3 [Y2 b6 [pt b4 0],U9 (Y2 b4) Z9 yi1.1.volatile.regs [.int .u32 yi1.1.volatile.pc,.int .u32 yi1.1.volatile.seq,.int .u32 yi1.1.volatile.index,sv a15 yi1.1.code c15,.slice a7 n2 c7,.slice a8 n3 c8,sv a16 yi1.1.inputs c16,.slice a17 n6 c17,iv yi1.1.steps,iv yi1.1.state,.int .u32 yi1.1.exit],Z0 Q6 218 (.slice a7 n2 c7) yi1.1.met,Z0 (Q2 .u8) 5 (.slice a8 n3 c8) yi1.1.data,Z0 Z1 403 (.slice a17 n6 c17) yi1.1.log,Y2 b7 [iv y2.1],Y2 b8 [sv a18 yi1.2 c18],Y2 b9 [pt b5 10],Y2 b10 [sv a13 y2.2.2.Code c13,sv a14 y2.2.2.Data c14,iv y2.2.2.Limit,iv y2.2.2.Notes]])))) :: [R2,U (.go (x3o,x2o))]):=Sep.exI _ (Sep.exI _ (Sep.exI _ (Sep.exI _ (Sep.exI _ (Sep.exI _ (Sep.exI _ (Sep.exI _ (Sep.exI _ (Sep.slI h10 (Sep.slI h11 (Sep.slI h12 (hB))))))))))))
        exact⟨_,rfl,T3,im3,hC.sel [1,0,2] rfl⟩
      intro T6 w20 D im21 hS20
      have hS20:Sep g T6 w20 ((exA fun a15=>exA fun c15=>exA fun a16=>exA fun c16=>exA fun a17=>exA fun n6=>exA fun c17=>exA fun a18=>exA fun c18=>slA (Q2 .u32) (sv a15 yi1.1.code c15) yi1.1.code (slA (Q2 .u32) (sv a16 yi1.1.inputs c16) yi1.1.inputs (slA (Q2 .i64) (sv a18 yi1.2 c18) yi1.2 (Q3 [Y2 b6 [pt b4 0],U9 (Y2 b4) Z9 yi1.1.volatile.regs [.int .u32 yi1.1.volatile.pc,.int .u32 yi1.1.volatile.seq,.int .u32 yi1.1.volatile.index,sv a15 yi1.1.code c15,.slice a7 n2 c7,.slice a8 n3 c8,sv a16 yi1.1.inputs c16,.slice a17 n6 c17,iv yi1.1.steps,iv yi1.1.state,.int .u32 yi1.1.exit],Z0 Q6 218 (.slice a7 n2 c7) yi1.1.met,Z0 (Q2 .u8) 5 (.slice a8 n3 c8) yi1.1.data,Z0 Z1 403 (.slice a17 n6 c17) yi1.1.log,Y2 b7 [iv y2.1],Y2 b8 [sv a18 yi1.2 c18],Y2 b9 [pt b5 10],Y2 b10 [sv a13 y2.2.2.Code c13,sv a14 y2.2.2.Data c14,iv y2.2.2.Limit,iv y2.2.2.Notes]])))) :: [Q3 R,(fun(x3o:Int) (x2o:Z7)=>Q3 [Y2 b5 [iv (List.getD x2o.Part 0 0),iv (List.getD x2o.Part 1 0),iv (List.getD x2o.Part 2 0),iv (List.getD x2o.Part 3 0),iv (List.getD x2o.Part 4 0),iv (List.getD x2o.Part 5 0),iv (List.getD x2o.Part 6 0),.slice a11 n5 c11,iv x2o.Most,iv x2o.Steps,iv x3o],Y2 b1 [sv a1 p0.Code c1,sv a2 p0.Data c2,iv p0.Limit,iv p0.Notes],Y2 b2 zv1,Z0 (Q2 .i64) 3 (.slice a11 n5 c11) x2o.Words]) x3o x2o,Q1o D (.deferred (some []))]):=hS20.sel [1,0,2,3] rfl
      obtain⟨a15,hS20⟩:=Sep.exE hS20
      obtain⟨c15,hS20⟩:=Sep.exE hS20
      obtain⟨a16,hS20⟩:=Sep.exE hS20
      obtain⟨c16,hS20⟩:=Sep.exE hS20
      obtain⟨a17,hS20⟩:=Sep.exE hS20
      obtain⟨n6,hS20⟩:=Sep.exE hS20
      obtain⟨c17,hS20⟩:=Sep.exE hS20
      obtain⟨a18,hS20⟩:=Sep.exE hS20
      obtain⟨c18,hS20⟩:=Sep.exE hS20
      obtain⟨h10,hS20⟩:=Sep.slE hS20
      obtain⟨h11,hS20⟩:=Sep.slE hS20
      obtain⟨h12,hS20⟩:=Sep.slE hS20
      have hS20:=Sep.unb hS20
      have hS20:=hS20.sel [10,9,11,1,2,3,4] rfl
      have hS20:=hS20.unb
      refine pn ?_
      refine sq2 (pu ?_)
      refine cB cf13 hm (U0 (hS20.bun [0,2,3,4,5] (Q9 6 4) rfl) (C3 b4) h10 h11) ?_
      rintro y4 _ T7 w21 im22 ⟨rfl,hS21,_⟩ hm
      refine sT 0 hS21 ?_
      intro w22 im23 hS22
      refine pn ?_
      refine sq2 (sT 1 hS22 ?_)
      intro w23 im24 hS23
      refine pn ?_
      obtain⟨T8,im25,hS24,h13,rfl⟩:=hS23.sl 2
      cases oI hm
      obtain⟨im26,hS25⟩:=hS24.setObj 4 rfl rfl (.deferred none)
      refine pn ?_
      exact retNK (vs := [.agg #[iv (List.getD x2o.Part 0 0),iv (List.getD x2o.Part 1 0),iv (List.getD x2o.Part 2 0),iv (List.getD x2o.Part 3 0),iv (List.getD x2o.Part 4 0),iv (List.getD x2o.Part 5 0),iv (List.getD x2o.Part 6 0),sv a11 x2o.Words c11,iv x2o.Most,iv y4,iv x3o],iv 0]) (hS24.obj 4 rfl rfl).1 rfl ⟨rvS rfl isAgg32 sizeOf32 rfl (hS25.bx (i:=1) ⟨rfl,rfl⟩),rfl,qZt⟩ rfl ⟨_,rfl,_,ch,⟨_,_,rfl,(hS25.sel [3] rfl).unb,(h13.mono im26),qZt⟩⟩
    have hm:=Y1d hz1 hm
    cases hm
  have hm:=Z6q hm
  refine cS cf11 (Q4v (hS2.bun [0,1,2] [] rfl) (h1.mono ch) (h2.mono ch) (h3.mono ch) _ hx1) ?_
  rintro _ T1 w3 im3 ⟨rfl,hS3,_⟩
  refine pn ?_
  refine sq2 (sq2 (cd hm ?_ ?_)) <;> intro hb1 hm
  · refine sq2 (pu ?_)
    refine pv (U3 (by kernel_rfl) rfl (u := .agg #[iv 0,iv 0,iv 0,iv 0,iv 0,iv 0,iv 0,.slice none 0 0,iv 0,iv 0,iv 0])) (sT 0 hS3 ?_)
    intro w4 im4 hS4
    refine pn ?_
    cases oI hm
    refine pn ?_
    exact retNM (vs := [.agg #[iv 0,iv 0,iv 0,iv 0,iv 0,iv 0,iv 0,.slice none 0 0,iv 0,iv 0,iv 0],iv y1]) rfl ⟨rvS rfl isAgg32 sizeOf32 rfl (hS4.bx (i:=0) ⟨rfl,rfl⟩),rfl,qZt⟩ rfl ⟨_,rfl,_,ch,⟨_,_,rfl,(hS4.sel [2] rfl).unb,Q1x,qZt⟩⟩
  refine pn ?_
  refine sq2 ?_
  obtain⟨u1,hx2,hm⟩:=Q4 hm
  refine pu ?_
  refine wl rfl (msS (r:=(Q2 .i64)) hS3 rfl rfl underlying26 el3 zeroValue3 rfl hx2 fun w5 a5 n1 c5 im5 hS5 => ?_)
  refine pv (U3 (by kernel_rfl) rfl (u := .agg #[iv 0,iv 0,iv 0,iv 0,iv 0,iv 0,iv 0,.slice a5 n1 c5,iv 0,iv 0,iv 0])) (aL zv1 hS5 ?_)
  intro w6 b3 im6 hS6
  refine sT 0 hS6 ?_
  intro w7 im7 hS7
  refine pn ?_
  refine sq2 (sq2 ?_)
  cases hm

theorem Z3v {p0 p1} (hS:Sep g T0 w0 [Q3 R])  : ∀ r,Q2o p0 p1=some r →
    Calls Tryz.prog 6 #[iv p0,iv p1] w0 (Y4 T0 w0 fun T w v=>v=iv r∧Sep g T w (R ++ [])∧True):=by
  intro r hm
  refine enter Tryz.func6 rfl Tryz.ntmps6 rfl fun J => ?_
  unfold Q2o at hm
  refine sq2 (pn ?_)
  refine sq2 (sq2 (pu ?_))
  refine fkC (d:=10) (c:=((decide (p0 < 1)) || (decide (32768 < p0)))) 3 [(1,iv p1)] rfl (fun hk => ?_) fun J => ?_
  · rcases Bool.eq_false_or_eq_true (decide (p0 < 1)) with hb1 | hb1
    · exact  gF2 (d0:=7) rfl rfl (by rw [hb1]; rfl) (pv (V1 rfl hb1 rfl) (wlR (fun J=>hk J _ (by rw [hb1]; rfl)) ⟨rfl,rfl,qZt⟩))
    exact  gT (d0:=7) rfl rfl hb1 (pv (N2 rfl) (gT (d0:=7) rfl rfl hb1 (pv (J8 rfl rfl rfl) (pv (V2 rfl hb1 rfl) (wlR (fun J=>hk J _ (by rw [hb1]; rfl)) ⟨rfl,rfl,qZt⟩)))))
  refine pu ?_
  refine fkC (d:=14) (c:=(((decide (p0 < 1)) || (decide (32768 < p0))) || (decide (p1 < 4)))) 3 [(1,iv p1)] rfl (fun hk => ?_) fun J => ?_
  · rcases Bool.eq_false_or_eq_true ((decide (p0 < 1)) || (decide (32768 < p0))) with hb2 | hb2
    · exact  gF2 (d0:=11) rfl rfl (by rw [hb2]; rfl) (pv (V1 rfl hb2 rfl) (wlR (fun J=>hk J _ (by rw [hb2]; rfl)) ⟨rfl,rfl,qZt⟩))
    exact  gT (d0:=11) rfl rfl hb2 (pv (N2 rfl) (gT (d0:=11) rfl rfl hb2 (pv (J8 rfl rfl rfl) (pv (V2 rfl hb2 rfl) (wlR (fun J=>hk J _ (by rw [hb2]; rfl)) ⟨rfl,rfl,qZt⟩)))))
  refine pu ?_
  refine fkC (d:=18) (c:=((((decide (p0 < 1)) || (decide (32768 < p0))) || (decide (p1 < 4))) || (decide (65536 < p1)))) 3 [(1,iv p1)] rfl (fun hk => ?_) fun J => ?_
  · rcases Bool.eq_false_or_eq_true (((decide (p0 < 1)) || (decide (32768 < p0))) || (decide (p1 < 4))) with hb3 | hb3
    · exact  gF2 (d0:=15) rfl rfl (by rw [hb3]; rfl) (pv (V1 rfl hb3 rfl) (wlR (fun J=>hk J _ (by rw [hb3]; rfl)) ⟨rfl,rfl,qZt⟩))
    exact  gT (d0:=15) rfl rfl hb3 (pv (N2 rfl) (gT (d0:=15) rfl rfl hb3 (pv (J8 rfl rfl rfl) (pv (V2 rfl hb3 rfl) (wlR (fun J=>hk J _ (by rw [hb3]; rfl)) ⟨rfl,rfl,qZt⟩)))))
  refine pu ?_
  refine fkN (d:=23) (c:=(((((decide (p0 < 1)) || (decide (32768 < p0))) || (decide (p1 < 4))) || (decide (65536 < p1))) || ((Int.tmod p1 4) != 0))) 4 [] rfl (fun hk => ?_) fun J => ?_
  · rcases Bool.eq_false_or_eq_true ((((decide (p0 < 1)) || (decide (32768 < p0))) || (decide (p1 < 4))) || (decide (65536 < p1))) with hb4 | hb4
    · exact  gF3 (d0:=19) rfl rfl (by rw [hb4]; rfl) (pv (V1 rfl hb4 rfl) (wlR (fun J=>hk J _ (by rw [hb4]; rfl)) ⟨rfl,qZt⟩))
    exact  gT (d0:=19) rfl rfl hb4 (pv (N2 rfl) (gT (d0:=19) rfl rfl hb4 (pv (Q3u rfl rfl (by decide)) (gT (d0:=19) rfl rfl hb4 (pv (J8 rfl rfl rfl) (pv (V2 rfl hb4 rfl) (wlR (fun J=>hk J _ (by rw [hb4]; rfl)) ⟨rfl,qZt⟩)))))))
  refine cd hm ?_ ?_ <;> intro hb5 hm
  · exact sq2 (re hm (hS.sel [0] rfl))
  refine pn ?_
  exact sq2 (re hm (hS.sel [0] rfl))

theorem Q9q {p0:List Int} {a1 c1} {p1:List Int} {a2 c2} {p2:List Int} {a3 c3} (hS:Sep g T0 w0 [Q3 R]) (h1:SlR (Q2 .u32) T0 w0 (sv a1 p0 c1) p0) (h2:SlR (Q2 .u8) T0 w0 (sv a2 p1 c2) p1) (h3:SlR (Q2 .u32) T0 w0 (sv a3 p2 c3) p2) : ∀ r,H7 p0 p1 p2=some r →
    Calls Tryz.prog 14 #[sv a1 p0 c1,sv a2 p1 c2,sv a3 p2 c3] w0 (Y4 T0 w0 fun T w v => ∃ b2 a8 c8 a9 n5 c9 a10 c10 a11 n6 c11 a12 n7 c12,v=pt b2 0∧Sep g T w (R++Z8 r (Y2 b2) a8 c8 a9 n5 c9 a10 c10 a11 n6 c11 a12 n7 c12)∧SlR (Q2 .u32) T w (sv a8 r.Code c8) r.Code∧SlR (Q2 .u32) T w (sv a10 r.Inputs c10) r.Inputs∧True):=by
  intro r hm
  refine enter Tryz.func14 rfl Tryz.ntmps14 rfl fun J => ?_
  unfold H7 at hm
  refine sq2 (pn ?_)
  refine sq2 (pn ?_)
  refine sq2 (sq2 (pn ?_))
  have hS1:=hS.nilO (Q2 .u8) 5
  refine lpJ hm (fun bd1 o1 m a w1 => ∃(T1:_) (x1:List Int) (a4:_) (n1:_) (c4:_) (x2:_),JR (nf 28) g T0 w0 a w1 T1 (Y9 bd1 m (x1,x2)=some o1) [(0,sv a1 p0 c1),(1,sv a2 p1 c2),(2,sv a3 p2 c3),(7,.slice a4 n1 c4),(8,iv x2)] [Q3 R,Z0 (Q2 .u8) 5 (.slice a4 n1 c4) x1]) (fun _ _ h=>je h (hS1.sel [1,0] rfl)) ?_
  rintro bd1 hbd1 o1 hq1 _ _ w1 ⟨T1,x1,a4,n1,c4,x2,J,ho1,rfl,hS2,im1⟩
  obtain⟨m1,z1,rfl,hm,hn1⟩:=lrE ho1 hbd1
  refine sq2 (sq2 (cd hm ?_ ?_)) <;> intro hb1 hm
  · refine pn ?_
    refine sq2 (blk ?_)
    obtain⟨u1,hx1,hm⟩:=Q4 hm
    refine bS (r:=(Q2 .u8)) (l:=([u1]:List Int)) (css := [[.int .u8 u1]]) hS2 ⟨rfl,qZt⟩ ?_
    intro w2 a5 n2 c5 im2 hS3
    obtain⟨z_1,hro1,hm⟩:=Q4 hm
    refine aO 2 hS3 (Q2m hro1) ?_
    intro w3 a6 n3 c6 im3 hS4
    exact lg hm hn1 (hS4.sel [1,2] rfl)
  have hm:=Q3s hm hn1 hq1
  refine pn ?_
  refine sq2 ?_
  obtain⟨u2,hx2,hm⟩:=Q4 hm
  refine pu ?_
  refine wl rfl (msS (r:=(Q2 .u32)) hS2 rfl rfl underlying22 el59 zeroValue59 rfl hx2 fun w4 a7 n4 c7 im4 hS5 => ?_)
  refine pv (U3 (by kernel_rfl) rfl (u := .agg #[sv a1 p0 c1,.slice a4 n1 c4,sv a3 p2 c3,.slice a7 n4 c7,iv 0,.int .u32 0,.int .u32 0,.slice none 0 0,iv 0,iv 0,.int .u32 0])) (bX [sv a1 p0 c1,.slice a4 n1 c4,sv a3 p2 c3,.slice a7 n4 c7,iv 0,.int .u32 0,.int .u32 0,.slice none 0 0,iv 0,iv 0,.int .u32 0] hS5 ?_)
  intro w5 b1 im5 hS6
  refine pn ?_
  have hS7:=hS6.nilO Z1 224
  exact re hm (hS7.sel [3,1,4,2,0] rfl)

theorem Q3h {p0:Q0} {X3 Y8:Nat} {X4:List Value→Z4} {a1 c1 a2 n1 c2 a3 c3 a4 n2 c4 a5 n3 c5} (hS:Sep g T0 w0 ([Q3 R]++Z8 p0 X4 a1 c1 a2 n1 c2 a3 c3 a4 n2 c4 a5 n3 c5)) (Z6:Ln X3 Y8 X4) (h1:SlR (Q2 .u32) T0 w0 (sv a1 p0.Code c1) p0.Code) (h2:SlR (Q2 .u32) T0 w0 (sv a3 p0.Inputs c3) p0.Inputs) : ∀ r,G2 p0=some r →
    Calls Tryz.prog 15 #[pt X3 Y8] w0 (Y4 T0 w0 fun T w v => ∃ a7 c7 a8 c8 a9 n5 c9,v = .tuple #[]∧Sep g T w (R++Z8 r X4 a7 c7 a2 n1 c2 a8 c8 a9 n5 c9 a5 n3 c5)∧SlR (Q2 .u32) T w (sv a7 r.Code c7) r.Code∧SlR (Q2 .u32) T w (sv a8 r.Inputs c8) r.Inputs∧True):=by
  intro r hm
  refine enter Tryz.func15 rfl Tryz.ntmps15 rfl fun J => ?_
  unfold G2 at hm
  refine sq2 (cd hm ?_ ?_) <;> intro hb1 hm
  · refine sq2 ?_
    obtain⟨u1,hx1,hm⟩:=Q4 hm
    refine pu ?_
    refine wl rfl (msS (r:=(Q2 .u32)) hS rfl rfl underlying22 el59 zeroValue59 rfl hx1 fun w1 a6 n4 c6 im1 hS1 => ?_)
    refine sB 2 3 Z6 hS1 ?_
    intro w2 im2 hS2
    refine pn ?_
    refine sq2 (sB 2 4 Z6 hS2 ?_)
    intro w3 im3 hS3
    refine pn ?_
    refine sq2 (sB 2 5 Z6 hS3 ?_)
    intro w4 im4 hS4
    refine pn ?_
    refine sB 2 6 Z6 hS4 ?_
    intro w5 im5 hS5
    cases oI hm
    refine pn ?_
    exact end0 rfl ⟨_,rfl,_,ch,⟨_,_,_,_,_,_,_,rfl,(hS5.sel [1,2,3,0,5] rfl).unb,(h1.mono ch),(h2.mono ch),qZt⟩⟩
  cases oI hm
  refine pn ?_
  exact end0 rfl ⟨_,rfl,_,Im.refl,⟨_,_,_,_,_,_,_,rfl,(hS.sel (Q9 0 5) rfl).unb,h1,h2,qZt⟩⟩

theorem Q1c {p0} (hS:Sep g T0 w0 [Q3 R])  : ∀ r,M0 p0=some r →
    Calls Tryz.prog 52 #[iv p0] w0 (Y4 T0 w0 fun T w v=>v = .int .u8 r∧Sep g T w (R ++ [])∧True):=by
  intro r hm
  refine enter Tryz.func52 rfl Tryz.ntmps52 rfl fun J => ?_
  unfold M0 at hm
  refine sq2 (pn ?_)
  refine sq2 (sq2 (pu ?_))
  rcases bc hm with ⟨hb1,hm⟩ | ⟨hb1,hm⟩
  · refine pn ?_
    refine cnd (b:=true) rfl (fun _ => ?_) (fun h=>nomatch h)
    exact sq2 (re hm (hS.sel [0] rfl))
  refine cd hm ?_ ?_ <;> intro hb2 hm
  · exact sq2 (re hm (hS.sel [0] rfl))
  refine pn ?_
  refine sq2 (sq2 (cd hm ?_ ?_)) <;> intro hb3 hm
  · exact sq2 (re hm (hS.sel [0] rfl))
  refine pn ?_
  refine sq2 (sq2 (cd hm ?_ ?_)) <;> intro hb4 hm
  · exact sq2 (re hm (hS.sel [0] rfl))
  refine pn ?_
  refine sq2 (sq2 (pu ?_))
  rcases bc hm with ⟨hb5,hm⟩ | ⟨hb5,hm⟩
  · refine cd hm ?_ ?_ <;> intro hb6 hm
    · exact sq2 (re hm (hS.sel [0] rfl))
    refine pn ?_
    refine sq2 (sq2 (pu ?_))
    rcases bc hm with ⟨hb7,hm⟩ | ⟨hb7,hm⟩
    · refine cd hm ?_ ?_ <;> intro hb8 hm
      · exact sq2 (re hm (hS.sel [0] rfl))
      refine pn ?_
      refine sq2 (sq2 (pu ?_))
      rcases bc hm with ⟨hb9,hm⟩ | ⟨hb9,hm⟩
      · refine pu ?_
        refine nil (Z3 [(0,iv p0),(30,.bool (decide (p0≤27)))] ⟨rfl,rfl,qZt⟩ fun J => ?_)
        refine cd hm ?_ ?_ <;> intro hb10 hm
        · exact sq2 (re hm (hS.sel [0] rfl))
        refine pn ?_
        refine sq2 (sq2 (cd hm ?_ ?_)) <;> intro hb11 hm
        · exact sq2 (re hm (hS.sel [0] rfl))
        refine pn ?_
        exact sq2 (re hm (hS.sel [0] rfl))
      refine pu ?_
      refine nil (Z3 [(0,iv p0),(30,.bool false)] ⟨rfl,rfl,qZt⟩ fun J => ?_)
      refine cnd (b:=false) rfl (fun h=>nomatch h) (fun _ => ?_)
      refine pn ?_
      refine sq2 (sq2 (cd hm ?_ ?_)) <;> intro hb13 hm
      · exact sq2 (re hm (hS.sel [0] rfl))
      refine pn ?_
      exact sq2 (re hm (hS.sel [0] rfl))
    refine pn ?_
    refine cnd (b:=false) rfl (fun h=>nomatch h) (fun _ => ?_)
    refine pn ?_
    refine sq2 (sq2 (pu ?_))
    rcases bc hm with ⟨hb15,hm⟩ | ⟨hb15,hm⟩
    · refine pu ?_
      refine nil (Z3 [(0,iv p0),(30,.bool (decide (p0≤27)))] ⟨rfl,rfl,qZt⟩ fun J => ?_)
      refine cd hm ?_ ?_ <;> intro hb16 hm
      · exact sq2 (re hm (hS.sel [0] rfl))
      refine pn ?_
      refine sq2 (sq2 (cd hm ?_ ?_)) <;> intro hb17 hm
      · exact sq2 (re hm (hS.sel [0] rfl))
      refine pn ?_
      exact sq2 (re hm (hS.sel [0] rfl))
    refine pu ?_
    refine nil (Z3 [(0,iv p0),(30,.bool false)] ⟨rfl,rfl,qZt⟩ fun J => ?_)
    refine cnd (b:=false) rfl (fun h=>nomatch h) (fun _ => ?_)
    refine pn ?_
    refine sq2 (sq2 (cd hm ?_ ?_)) <;> intro hb19 hm
    · exact sq2 (re hm (hS.sel [0] rfl))
    refine pn ?_
    exact sq2 (re hm (hS.sel [0] rfl))
  refine pn ?_
  refine cnd (b:=false) rfl (fun h=>nomatch h) (fun _ => ?_)
  refine pn ?_
  refine sq2 (sq2 (pu ?_))
  rcases bc hm with ⟨hb21,hm⟩ | ⟨hb21,hm⟩
  · refine cd hm ?_ ?_ <;> intro hb22 hm
    · exact sq2 (re hm (hS.sel [0] rfl))
    refine pn ?_
    refine sq2 (sq2 (pu ?_))
    rcases bc hm with ⟨hb23,hm⟩ | ⟨hb23,hm⟩
    · refine pu ?_
      refine nil (Z3 [(0,iv p0),(30,.bool (decide (p0≤27)))] ⟨rfl,rfl,qZt⟩ fun J => ?_)
      refine cd hm ?_ ?_ <;> intro hb24 hm
      · exact sq2 (re hm (hS.sel [0] rfl))
      refine pn ?_
      refine sq2 (sq2 (cd hm ?_ ?_)) <;> intro hb25 hm
      · exact sq2 (re hm (hS.sel [0] rfl))
      refine pn ?_
      exact sq2 (re hm (hS.sel [0] rfl))
    refine pu ?_
    refine nil (Z3 [(0,iv p0),(30,.bool false)] ⟨rfl,rfl,qZt⟩ fun J => ?_)
    refine cnd (b:=false) rfl (fun h=>nomatch h) (fun _ => ?_)
    refine pn ?_
    refine sq2 (sq2 (cd hm ?_ ?_)) <;> intro hb27 hm
    · exact sq2 (re hm (hS.sel [0] rfl))
    refine pn ?_
    exact sq2 (re hm (hS.sel [0] rfl))
  refine pn ?_
  refine cnd (b:=false) rfl (fun h=>nomatch h) (fun _ => ?_)
  refine pn ?_
  refine sq2 (sq2 (pu ?_))
  rcases bc hm with ⟨hb29,hm⟩ | ⟨hb29,hm⟩
  · refine pu ?_
    refine nil (Z3 [(0,iv p0),(30,.bool (decide (p0≤27)))] ⟨rfl,rfl,qZt⟩ fun J => ?_)
    refine cd hm ?_ ?_ <;> intro hb30 hm
    · exact sq2 (re hm (hS.sel [0] rfl))
    refine pn ?_
    refine sq2 (sq2 (cd hm ?_ ?_)) <;> intro hb31 hm
    · exact sq2 (re hm (hS.sel [0] rfl))
    refine pn ?_
    exact sq2 (re hm (hS.sel [0] rfl))
  refine pu ?_
  refine nil (Z3 [(0,iv p0),(30,.bool false)] ⟨rfl,rfl,qZt⟩ fun J => ?_)
  refine cnd (b:=false) rfl (fun h=>nomatch h) (fun _ => ?_)
  refine pn ?_
  refine sq2 (sq2 (cd hm ?_ ?_)) <;> intro hb33 hm
  · exact sq2 (re hm (hS.sel [0] rfl))
  refine pn ?_
  exact sq2 (re hm (hS.sel [0] rfl))

theorem J6 {p0} (hS:Sep g T0 w0 [Q3 R])  : ∀ r,J1 p0=some r →
    Calls Tryz.prog 97 #[iv p0] w0 (Y4 T0 w0 fun T w v=>v=iv r∧Sep g T w (R ++ [])∧True):=by
  intro r hm
  refine enter Tryz.func97 rfl Tryz.ntmps97 rfl fun J => ?_
  unfold J1 at hm
  refine sq2 (pn ?_)
  refine sq2 (pn ?_)
  refine sq2 (sq2 (pn ?_))
  refine lpJ hm (fun bd1 o1 m a w1 => ∃ T1 x1 x2,JR (nf 13) g T0 w0 a w1 T1 (Y9 bd1 m (x1,x2)=some o1) [(0,iv p0),(3,iv x1),(4,iv x2)] [Q3 R]) (fun _ _ h=>je h (hS.sel [0] rfl)) ?_
  rintro bd1 hbd1 o1 hq1 _ _ w1 ⟨T1,x1,x2,J,ho1,rfl,hS1,im1⟩
  obtain⟨m1,z1,rfl,hm,hn1⟩:=lrE ho1 hbd1
  refine sq2 (sq2 (cd hm ?_ ?_)) <;> intro hb1 hm
  · refine pn ?_
    exact sq2 (blk (lg hm hn1 (hS1.sel [0] rfl)))
  have hm:=Q3s hm hn1 hq1
  refine pn ?_
  exact sq2 (re hm (hS1.sel [0] rfl))

theorem Z5 {p0 p1 p2 p3} (hS:Sep g T0 w0 [Q3 R])  : ∀ r,Y0 p0 p1 p2 p3=some r →
    Calls Tryz.prog 55 #[iv p0,iv p1,iv p2,iv p3] w0 (Y4 T0 w0 fun T w v=>v=iv r∧Sep g T w (R ++ [])∧True):=by
  intro r hm
  refine enter Tryz.func55 rfl Tryz.ntmps55 rfl fun J => ?_
  unfold Y0 at hm
  refine sq2 (pn ?_)
  refine sq2 (pn ?_)
  refine F0 hm (fun kk1 a w1 => ∃ T1 x1,JR (nf 28) g T0 w0 a w1 T1 (kk1 x1=some r) [(1,iv p1),(2,iv p2),(3,iv p3),(9,iv x1)] [Q3 R]) (fun kk1 hm => ?_) ?_
  · refine sq2 (cd hm ?_ ?_) <;> intro hb1 hm
    · exact je hm (hS.sel [0] rfl)
    exact je hm (hS.sel [0] rfl)
  rintro _ w1 ⟨T1,x1,J,hm,rfl,hS1,im1⟩
  refine sq2 (rsS [0,0,2,0,0,0,0,0,2,0,0,2,0,0] [0,1,4,5,6,7,10,2,3,8,9,11,12,13] hS1 fun w2 im2 hS2 => ?_)
  obtain⟨y1,hx1,hm⟩:=Q4 hm
  refine sS [] cf97 (J6 (hS2.bun [0] [] rfl) _ hx1) ?_
  rintro _ T2 w3 im3 ⟨rfl,hS3,_⟩
  refine pu ?_
  obtain⟨_,hz1,hm⟩:=Q4 hm
  have hz1:=D3 hz1
  obtain⟨y2,hx2,hm⟩:=Q4 hm
  refine s0 rfl qZt (fun _=>r_iq rfl rfl hz1) rfl (sS [] cf97 (J6 (hS3.bun [0] [] rfl) _ hx2) ?_)
  rintro _ T3 w4 im4 ⟨rfl,hS4,_⟩
  refine pu ?_
  obtain⟨_,hz2,hm⟩:=Q4 hm
  have hz2:=D3 hz2
  obtain⟨y3,hx3,hm⟩:=Q4 hm
  refine s0 rfl qZt (fun _=>Q3u rfl rfl hz2) rfl (sS [] cf97 (J6 (hS4.bun [0] [] rfl) _ hx3) ?_)
  rintro _ T4 w5 im5 ⟨rfl,hS5,_⟩
  exact re hm (hS5.sel [0] rfl)

theorem D7 {p0 p1} (hS:Sep g T0 w0 [Q3 R])  : ∀ r,F1 p0 p1=some r →
    Calls Tryz.prog 96 #[iv p0,iv p1] w0 (Y4 T0 w0 fun T w v=>v=iv r∧Sep g T w (R ++ [])∧True):=by
  intro r hm
  refine enter Tryz.func96 rfl Tryz.ntmps96 rfl fun J => ?_
  unfold F1 at hm
  refine sq2 (pn ?_)
  refine sq2 (sq2 (pu ?_))
  refine cB cf97 hm (J6 (hS.bun [0] [] rfl)) ?_
  rintro y1 _ T1 w1 im1 ⟨rfl,hS1,_⟩ hm
  refine cd hm ?_ ?_ <;> intro hb1 hm
  · refine sq2 (pu ?_)
    refine cB cf97 hm (J6 (hS1.bun [0] [] rfl)) ?_
    rintro y2 _ T2 w2 im2 ⟨rfl,hS2,_⟩ hm
    exact re hm (hS2.sel [0] rfl)
  refine pn ?_
  exact sq2 (re hm (hS1.sel [0] rfl))

theorem Q7v {p0 p1} (hS:Sep g T0 w0 [Q3 R])  : ∀ r,I7 p0 p1=some r →
    Calls Tryz.prog 53 #[.int .u8 p0,iv p1] w0 (Y4 T0 w0 fun T w v=>v=iv r∧Sep g T w (R ++ [])∧True):=by
  intro r hm
  refine enter Tryz.func53 rfl Tryz.ntmps53 rfl fun J => ?_
  unfold I7 at hm
  refine sq2 (pn ?_)
  refine sq2 (sq2 (cd hm ?_ ?_)) <;> intro hb1 hm
  · refine sq2 (pu ?_)
    refine cB L6 hm (Z5 (hS.bun [0] [] rfl)) ?_
    rintro y1 _ T1 w1 im1 ⟨rfl,hS1,_⟩ hm
    refine cB cf96 hm (D7 (hS1.bun [0] [] rfl)) ?_
    rintro y2 _ T2 w2 im2 ⟨rfl,hS2,_⟩ hm
    exact re hm (hS2.sel [0] rfl)
  refine pn ?_
  refine sq2 (sq2 (cd hm ?_ ?_)) <;> intro hb2 hm
  · refine sq2 (pu ?_)
    refine cB L6 hm (Z5 (hS.bun [0] [] rfl)) ?_
    rintro y3 _ T3 w3 im3 ⟨rfl,hS3,_⟩ hm
    refine pu ?_
    refine cB L6 hm (Z5 (hS3.bun [0] [] rfl)) ?_
    rintro y4 _ T4 w4 im4 ⟨rfl,hS4,_⟩ hm
    refine pu ?_
    refine cB L6 hm (Z5 (hS4.bun [0] [] rfl)) ?_
    rintro y5 _ T5 w5 im5 ⟨rfl,hS5,_⟩ hm
    refine pu ?_
    refine cB L6 hm (Z5 (hS5.bun [0] [] rfl)) ?_
    rintro y6 _ T6 w6 im6 ⟨rfl,hS6,_⟩ hm
    refine pu ?_
    refine cB cf96 hm (D7 (hS6.bun [0] [] rfl)) ?_
    rintro y7 _ T7 w7 im7 ⟨rfl,hS7,_⟩ hm
    exact re hm (hS7.sel [0] rfl)
  refine pn ?_
  refine sq2 (sq2 (cd hm ?_ ?_)) <;> intro hb3 hm
  · refine sq2 (pu ?_)
    refine cB L6 hm (Z5 (hS.bun [0] [] rfl)) ?_
    rintro y8 _ T8 w8 im8 ⟨rfl,hS8,_⟩ hm
    refine cB cf96 hm (D7 (hS8.bun [0] [] rfl)) ?_
    rintro y9 _ T9 w9 im9 ⟨rfl,hS9,_⟩ hm
    exact re hm (hS9.sel [0] rfl)
  refine pn ?_
  refine sq2 (sq2 (cd hm ?_ ?_)) <;> intro hb4 hm
  · refine sq2 (pu ?_)
    refine cB L6 hm (Z5 (hS.bun [0] [] rfl)) ?_
    rintro y10 _ T10 w10 im10 ⟨rfl,hS10,_⟩ hm
    exact re hm (hS10.sel [0] rfl)
  refine pn ?_
  refine sq2 (sq2 (cd hm ?_ ?_)) <;> intro hb5 hm
  · refine sq2 (pu ?_)
    refine cB L6 hm (Z5 (hS.bun [0] [] rfl)) ?_
    rintro y11 _ T11 w11 im11 ⟨rfl,hS11,_⟩ hm
    refine pu ?_
    refine cB L6 hm (Z5 (hS11.bun [0] [] rfl)) ?_
    rintro y12 _ T12 w12 im12 ⟨rfl,hS12,_⟩ hm
    refine pu ?_
    refine cB cf96 hm (D7 (hS12.bun [0] [] rfl)) ?_
    rintro y13 _ T13 w13 im13 ⟨rfl,hS13,_⟩ hm
    exact re hm (hS13.sel [0] rfl)
  refine pn ?_
  refine sq2 (sq2 (cd hm ?_ ?_)) <;> intro hb6 hm
  · refine sq2 (pu ?_)
    refine cB L6 hm (Z5 (hS.bun [0] [] rfl)) ?_
    rintro y14 _ T14 w14 im14 ⟨rfl,hS14,_⟩ hm
    refine pu ?_
    refine cB L6 hm (Z5 (hS14.bun [0] [] rfl)) ?_
    rintro y15 _ T15 w15 im15 ⟨rfl,hS15,_⟩ hm
    refine pu ?_
    refine cB L6 hm (Z5 (hS15.bun [0] [] rfl)) ?_
    rintro y16 _ T16 w16 im16 ⟨rfl,hS16,_⟩ hm
    refine pu ?_
    refine cB L6 hm (Z5 (hS16.bun [0] [] rfl)) ?_
    rintro y17 _ T17 w17 im17 ⟨rfl,hS17,_⟩ hm
    refine pu ?_
    refine cB cf96 hm (D7 (hS17.bun [0] [] rfl)) ?_
    rintro y18 _ T18 w18 im18 ⟨rfl,hS18,_⟩ hm
    refine pu ?_
    refine nil (Z3 [(4,iv y18)] ⟨rfl,qZt⟩ fun J => ?_)
    exact re hm (hS18.sel [0] rfl)
  refine pn ?_
  exact sq2 (re hm (hS.sel [0] rfl))

theorem P6 {p0 p1} (hS:Sep g T0 w0 [Q3 R])  : ∀ r,G5 p0 p1=some r →
    Calls Tryz.prog 54 #[.int .u8 p0,iv p1] w0 (Y4 T0 w0 fun T w v=>v = .bool r∧Sep g T w (R ++ [])∧True):=by
  intro r hm
  refine enter Tryz.func54 rfl Tryz.ntmps54 rfl fun J => ?_
  unfold G5 at hm
  refine sq2 (pn ?_)
  refine sq2 (sq2 (cd hm ?_ ?_)) <;> intro hb1 hm
  · refine sq2 (pu ?_)
    rcases bc hm with ⟨hb2,hm⟩ | ⟨hb2,hm⟩
    · exact re hm (hS.sel [0] rfl)
    exact re hm (hS.sel [0] rfl)
  refine pn ?_
  refine sq2 (sq2 (cd hm ?_ ?_)) <;> intro hb3 hm
  · refine sq2 (pu ?_)
    rcases bc hm with ⟨hb4,hm⟩ | ⟨hb4,hm⟩
    · exact re hm (hS.sel [0] rfl)
    exact re hm (hS.sel [0] rfl)
  refine pn ?_
  refine sq2 (pu ?_)
  rcases bc hm with ⟨hb5,hm⟩ | ⟨hb5,hm⟩
  · exact re hm (hS.sel [0] rfl)
  refine pu ?_
  rcases bc hm with ⟨hb6,hm⟩ | ⟨hb6,hm⟩
  · exact re hm (hS.sel [0] rfl)
  exact re hm (hS.sel [0] rfl)

theorem Q2a {p0 p1} (hS:Sep g T0 w0 [Q3 R])  : ∀ r,O9 p0 p1=some r →
    Calls Tryz.prog 98 #[iv p0,.bool p1] w0 (Y4 T0 w0 fun T w v=>v = .bool r∧Sep g T w (R ++ [])∧True):=by
  intro r hm
  refine enter Tryz.func98 rfl Tryz.ntmps98 rfl fun J => ?_
  unfold O9 at hm
  refine sq2 (pn ?_)
  refine sq2 (sq2 (cd hm ?_ ?_)) <;> intro hb1 hm
  · exact sq2 (re hm (hS.sel [0] rfl))
  refine pn ?_
  refine sq2 (pu ?_)
  rcases bc hm with ⟨hb2,hm⟩ | ⟨hb2,hm⟩
  · exact re hm (hS.sel [0] rfl)
  exact re hm (hS.sel [0] rfl)

theorem Z1c {p0 p1} (hS:Sep g T0 w0 [Q3 R])  : ∀ r,N8 p0 p1=some r →
    Calls Tryz.prog 99 #[.int .u8 p0,iv p1] w0 (Y4 T0 w0 fun T w v=>v = .bool r∧Sep g T w (R ++ [])∧True):=by
  intro r hm
  refine enter Tryz.func99 rfl Tryz.ntmps99 rfl fun J => ?_
  unfold N8 at hm
  refine sq2 (pn ?_)
  refine sq2 (sq2 (cd hm ?_ ?_)) <;> intro hb1 hm
  · refine sq2 (pu ?_)
    rcases bc hm with ⟨hb2,hm⟩ | ⟨hb2,hm⟩
    · refine pu ?_
      rcases bc hm with ⟨hb3,hm⟩ | ⟨hb3,hm⟩
      · exact re hm (hS.sel [0] rfl)
      exact re hm (hS.sel [0] rfl)
    exact re hm (hS.sel [0] rfl)
  refine pn ?_
  refine sq2 (sq2 (cd hm ?_ ?_)) <;> intro hb4 hm
  · refine sq2 (pu ?_)
    rcases bc hm with ⟨hb5,hm⟩ | ⟨hb5,hm⟩
    · refine pu ?_
      rcases bc hm with ⟨hb6,hm⟩ | ⟨hb6,hm⟩
      · exact re hm (hS.sel [0] rfl)
      exact re hm (hS.sel [0] rfl)
    exact re hm (hS.sel [0] rfl)
  refine pn ?_
  refine sq2 (sq2 (pu ?_))
  rcases bc hm with ⟨hb7,hm⟩ | ⟨hb7,hm⟩
  · refine pn ?_
    refine cnd (b:=true) rfl (fun _ => ?_) (fun h=>nomatch h)
    refine sq2 (pu ?_)
    rcases bc hm with ⟨hb16,hm⟩ | ⟨hb16,hm⟩
    · exact re hm (hS.sel [0] rfl)
    exact re hm (hS.sel [0] rfl)
  refine cd hm ?_ ?_ <;> intro hb8 hm
  · refine sq2 (pu ?_)
    rcases bc hm with ⟨hb9,hm⟩ | ⟨hb9,hm⟩
    · exact re hm (hS.sel [0] rfl)
    exact re hm (hS.sel [0] rfl)
  refine pn ?_
  refine sq2 (sq2 (cd hm ?_ ?_)) <;> intro hb10 hm
  · refine sq2 (pu ?_)
    rcases bc hm with ⟨hb11,hm⟩ | ⟨hb11,hm⟩
    · exact re hm (hS.sel [0] rfl)
    exact re hm (hS.sel [0] rfl)
  refine pn ?_
  refine sq2 (sq2 (cd hm ?_ ?_)) <;> intro hb12 hm
  · refine sq2 (pu ?_)
    rcases bc hm with ⟨hb13,hm⟩ | ⟨hb13,hm⟩
    · refine pu ?_
      rcases bc hm with ⟨hb14,hm⟩ | ⟨hb14,hm⟩
      · refine pu ?_
        refine nil (Z3 [(4,.bool ((Int.tmod p1 2) == 0))] ⟨rfl,qZt⟩ fun J => ?_)
        exact re hm (hS.sel [0] rfl)
      refine pu ?_
      refine nil (Z3 [(4,.bool false)] ⟨rfl,qZt⟩ fun J => ?_)
      exact re hm (hS.sel [0] rfl)
    refine pu ?_
    refine nil (Z3 [(4,.bool false)] ⟨rfl,qZt⟩ fun J => ?_)
    exact re hm (hS.sel [0] rfl)
  refine pn ?_
  exact sq2 (re hm (hS.sel [0] rfl))

theorem Q9s {p0:V4} (hS:Sep g T0 w0 [Q3 R])  : ∀ r,N9 p0=some r →
    Calls Tryz.prog 56 #[.agg (P1 p0).toArray] w0 (Y4 T0 w0 fun T w v=>v = .bool r∧Sep g T w (R ++ [])∧True):=by
  intro r hm
  refine enter Tryz.func56 rfl Tryz.ntmps56 rfl fun J => ?_
  unfold N9 at hm
  refine sq2 (bX (P1 p0) hS ?_)
  intro w1 b1 im1 hS1
  refine pn ?_
  refine sq2 (pu ?_)
  refine cB cf52 hm (Q1c (hS1.bun [0,1] [] rfl)) ?_
  rintro y1 _ T1 w2 im2 ⟨rfl,hS2,_⟩ hm
  refine pn ?_
  refine sq2 (rsS [0,0,0,0,1,0,2,2,0,0,0,1,0,2,2,0,0,0,1,0,2,2,0,0,0,0,1,2,0,0] [0,1,2,3,4,5,6,7,8,9,10,11,12,13,14,15,16,17,18,19,20,21,22,23,24,25,26,27,28,29] hS2 fun w3 im3 hS3 => ?_)
  refine pu ?_
  rcases bc hm with ⟨hb1,hm⟩ | ⟨hb1,hm⟩
  · obtain⟨y2,hx2,hm⟩:=Q4 hm
    refine sS [(4,iv p0.Rd)] cf54 (P6 (hS3.bun [0,1] [] rfl) _ hx2) ?_
    rintro _ T2 w4 im4 ⟨rfl,hS4,_⟩
    refine pu ?_
    obtain⟨y3,hx3,hm⟩:=Q4 hm
    refine sS [] cf98 (Q2a (hS4.bun [0,1] [] rfl) _ hx3) ?_
    rintro _ T3 w5 im5 ⟨rfl,hS5,_⟩
    refine pu ?_
    rcases bc hm with ⟨hb2,hm⟩ | ⟨hb2,hm⟩
    · obtain⟨y4,hx4,hm⟩:=Q4 hm
      refine sS [(11,iv p0.Rs1)] cf54 (P6 (hS5.bun [0,1] [] rfl) _ hx4) ?_
      rintro _ T4 w6 im6 ⟨rfl,hS6,_⟩
      refine pu ?_
      obtain⟨y5,hx5,hm⟩:=Q4 hm
      refine sS [] cf98 (Q2a (hS6.bun [0,1] [] rfl) _ hx5) ?_
      rintro _ T5 w7 im7 ⟨rfl,hS7,_⟩
      refine pu ?_
      rcases bc hm with ⟨hb3,hm⟩ | ⟨hb3,hm⟩
      · obtain⟨y6,hx6,hm⟩:=Q4 hm
        refine sS [(18,iv p0.Rs2)] cf54 (P6 (hS7.bun [0,1] [] rfl) _ hx6) ?_
        rintro _ T6 w8 im8 ⟨rfl,hS8,_⟩
        refine pu ?_
        obtain⟨y7,hx7,hm⟩:=Q4 hm
        refine sS [] cf98 (Q2a (hS8.bun [0,1] [] rfl) _ hx7) ?_
        rintro _ T7 w9 im9 ⟨rfl,hS9,_⟩
        refine pu ?_
        rcases bc hm with ⟨hb4,hm⟩ | ⟨hb4,hm⟩
        · obtain⟨y8,hx8,hm⟩:=Q4 hm
          refine sS [] cf99 (Z1c (hS9.bun [1,0] [] rfl) _ hx8) ?_
          rintro _ T8 w10 im10 ⟨rfl,hS10,_⟩
          refine pu ?_
          refine se (Z3 [(2,.bool y8)] ⟨rfl,qZt⟩ fun J => ?_)
          exact re hm (hS10.sel [0] rfl)
        refine pu ?_
        refine se (Z3 [(2,.bool false)] ⟨rfl,qZt⟩ fun J => ?_)
        exact re hm (hS9.sel [1] rfl)
      refine pu ?_
      refine se (Z3 [(2,.bool false)] ⟨rfl,qZt⟩ fun J => ?_)
      exact re hm (hS7.sel [1] rfl)
    refine pu ?_
    refine se (Z3 [(2,.bool false)] ⟨rfl,qZt⟩ fun J => ?_)
    exact re hm (hS5.sel [1] rfl)
  refine pu ?_
  refine se (Z3 [(2,.bool false)] ⟨rfl,qZt⟩ fun J => ?_)
  exact re hm (hS3.sel [1] rfl)

theorem Z1e {p0} (hS:Sep g T0 w0 [Q3 R])  : ∀ r,R6 p0=some r →
    Calls Tryz.prog 100 #[iv p0] w0 (Y4 T0 w0 fun T w v=>v=iv r∧Sep g T w (R ++ [])∧True):=by
  intro r hm
  refine enter Tryz.func100 rfl Tryz.ntmps100 rfl fun J => ?_
  unfold R6 at hm
  refine sq2 (pn ?_)
  refine sq2 (sq2 (cd hm ?_ ?_)) <;> intro hb1 hm
  · exact sq2 (re hm (hS.sel [0] rfl))
  refine pn ?_
  refine sq2 (sq2 (cd hm ?_ ?_)) <;> intro hb2 hm
  · exact sq2 (re hm (hS.sel [0] rfl))
  refine pn ?_
  refine sq2 (sq2 (cd hm ?_ ?_)) <;> intro hb3 hm
  · exact sq2 (re hm (hS.sel [0] rfl))
  refine pn ?_
  refine sq2 (sq2 (cd hm ?_ ?_)) <;> intro hb4 hm
  · exact sq2 (re hm (hS.sel [0] rfl))
  refine pn ?_
  refine sq2 (sq2 (cd hm ?_ ?_)) <;> intro hb5 hm
  · exact sq2 (re hm (hS.sel [0] rfl))
  refine pn ?_
  refine sq2 (sq2 (cd hm ?_ ?_)) <;> intro hb6 hm
  · exact sq2 (re hm (hS.sel [0] rfl))
  refine pn ?_
  refine sq2 (sq2 (cd hm ?_ ?_)) <;> intro hb7 hm
  · exact sq2 (re hm (hS.sel [0] rfl))
  refine pn ?_
  refine sq2 (sq2 (cd hm ?_ ?_)) <;> intro hb8 hm
  · exact sq2 (re hm (hS.sel [0] rfl))
  refine pn ?_
  exact sq2 (re hm (hS.sel [0] rfl))

theorem Q9r {p0} (hS:Sep g T0 w0 [Q3 R])  : ∀ r,H8 p0=some r →
    Calls Tryz.prog 101 #[iv p0] w0 (Y4 T0 w0 fun T w v=>v=iv r∧Sep g T w (R ++ [])∧True):=by
  intro r hm
  refine enter Tryz.func101 rfl Tryz.ntmps101 rfl fun J => ?_
  unfold H8 at hm
  refine sq2 (pn ?_)
  refine sq2 (bS (r:=(Q2 .i64)) (l:=([0,0,0,0,0,0,1,4,5,6,7,0,1,2,4,5,0,1,2,0,2,3,4,6,7,1,5,5,0,0,1,2,3,4,5,5,6,7,0,1,2,3,4,5,6,7]:List Int)) (css := [[iv 0],[iv 0],[iv 0],[iv 0],[iv 0],[iv 0],[iv 1],[iv 4],[iv 5],[iv 6],[iv 7],[iv 0],[iv 1],[iv 2],[iv 4],[iv 5],[iv 0],[iv 1],[iv 2],[iv 0],[iv 2],[iv 3],[iv 4],[iv 6],[iv 7],[iv 1],[iv 5],[iv 5],[iv 0],[iv 0],[iv 1],[iv 2],[iv 3],[iv 4],[iv 5],[iv 5],[iv 6],[iv 7],[iv 0],[iv 1],[iv 2],[iv 3],[iv 4],[iv 5],[iv 6],[iv 7]]) hS ⟨rfl,rfl,rfl,rfl,rfl,rfl,rfl,rfl,rfl,rfl,rfl,rfl,rfl,rfl,rfl,rfl,rfl,rfl,rfl,rfl,rfl,rfl,rfl,rfl,rfl,rfl,rfl,rfl,rfl,rfl,rfl,rfl,rfl,rfl,rfl,rfl,rfl,rfl,rfl,rfl,rfl,rfl,rfl,rfl,rfl,rfl,qZt⟩ ?_)
  intro w1 a1 n1 c1 im1 hS1
  refine pn ?_
  refine sq2 ?_
  obtain⟨u1,hx1,hm⟩:=Q4 hm
  exact re hm (hS1.sel [1] rfl)

theorem Q6w {p0} (hS:Sep g T0 w0 [Q3 R])  : ∀ r,P7 p0=some r →
    Calls Tryz.prog 102 #[iv p0] w0 (Y4 T0 w0 fun T w v=>v=iv r∧Sep g T w (R ++ [])∧True):=by
  intro r hm
  refine enter Tryz.func102 rfl Tryz.ntmps102 rfl fun J => ?_
  unfold P7 at hm
  refine sq2 (pn ?_)
  refine sq2 (sq2 (pu ?_))
  rcases bc hm with ⟨hb1,hm⟩ | ⟨hb1,hm⟩
  · refine pn ?_
    refine cnd (b:=true) rfl (fun _ => ?_) (fun h=>nomatch h)
    exact sq2 (re hm (hS.sel [0] rfl))
  refine pu ?_
  rcases bc hm with ⟨hb2,hm⟩ | ⟨hb2,hm⟩
  · refine pn ?_
    refine cnd (b:=true) rfl (fun _ => ?_) (fun h=>nomatch h)
    exact sq2 (re hm (hS.sel [0] rfl))
  refine cd hm ?_ ?_ <;> intro hb3 hm
  · exact sq2 (re hm (hS.sel [0] rfl))
  refine pn ?_
  refine sq2 (sq2 (cd hm ?_ ?_)) <;> intro hb4 hm
  · exact sq2 (re hm (hS.sel [0] rfl))
  refine pn ?_
  exact sq2 (re hm (hS.sel [0] rfl))

theorem Q7u {p0 p1} (hS:Sep g T0 w0 [Q3 R])  : ∀ r,M8 p0 p1=some r →
    Calls Tryz.prog 103 #[.int .u8 p0,iv p1] w0 (Y4 T0 w0 fun T w v=>v=iv r∧Sep g T w (R ++ [])∧True):=by
  intro r hm
  refine enter Tryz.func103 rfl Tryz.ntmps103 rfl fun J => ?_
  unfold M8 at hm
  refine sq2 (pn ?_)
  refine sq2 (sq2 (cd hm ?_ ?_)) <;> intro hb1 hm
  · refine sq2 (pu ?_)
    refine cB L6 hm (Z5 (hS.bun [0] [] rfl)) ?_
    rintro y1 _ T1 w1 im1 ⟨rfl,hS1,_⟩ hm
    exact re hm (hS1.sel [0] rfl)
  refine pn ?_
  refine sq2 (sq2 (cd hm ?_ ?_)) <;> intro hb2 hm
  · refine sq2 (pu ?_)
    refine cB L6 hm (Z5 (hS.bun [0] [] rfl)) ?_
    rintro y2 _ T2 w2 im2 ⟨rfl,hS2,_⟩ hm
    refine pu ?_
    refine cB L6 hm (Z5 (hS2.bun [0] [] rfl)) ?_
    rintro y3 _ T3 w3 im3 ⟨rfl,hS3,_⟩ hm
    refine pu ?_
    refine cB L6 hm (Z5 (hS3.bun [0] [] rfl)) ?_
    rintro y4 _ T4 w4 im4 ⟨rfl,hS4,_⟩ hm
    refine pu ?_
    refine cB L6 hm (Z5 (hS4.bun [0] [] rfl)) ?_
    rintro y5 _ T5 w5 im5 ⟨rfl,hS5,_⟩ hm
    exact re hm (hS5.sel [0] rfl)
  refine pn ?_
  refine sq2 (sq2 (cd hm ?_ ?_)) <;> intro hb3 hm
  · refine sq2 (pu ?_)
    refine cB L6 hm (Z5 (hS.bun [0] [] rfl)) ?_
    rintro y6 _ T6 w6 im6 ⟨rfl,hS6,_⟩ hm
    exact re hm (hS6.sel [0] rfl)
  refine pn ?_
  refine sq2 (sq2 (cd hm ?_ ?_)) <;> intro hb4 hm
  · refine sq2 (pu ?_)
    refine cB L6 hm (Z5 (hS.bun [0] [] rfl)) ?_
    rintro y7 _ T7 w7 im7 ⟨rfl,hS7,_⟩ hm
    exact re hm (hS7.sel [0] rfl)
  refine pn ?_
  refine sq2 (sq2 (cd hm ?_ ?_)) <;> intro hb5 hm
  · refine sq2 (pu ?_)
    refine cB L6 hm (Z5 (hS.bun [0] [] rfl)) ?_
    rintro y8 _ T8 w8 im8 ⟨rfl,hS8,_⟩ hm
    refine pu ?_
    refine cB L6 hm (Z5 (hS8.bun [0] [] rfl)) ?_
    rintro y9 _ T9 w9 im9 ⟨rfl,hS9,_⟩ hm
    exact re hm (hS9.sel [0] rfl)
  refine pn ?_
  refine sq2 (sq2 (cd hm ?_ ?_)) <;> intro hb6 hm
  · refine sq2 (pu ?_)
    refine cB L6 hm (Z5 (hS.bun [0] [] rfl)) ?_
    rintro y10 _ T10 w10 im10 ⟨rfl,hS10,_⟩ hm
    refine pu ?_
    refine cB L6 hm (Z5 (hS10.bun [0] [] rfl)) ?_
    rintro y11 _ T11 w11 im11 ⟨rfl,hS11,_⟩ hm
    refine pu ?_
    refine cB L6 hm (Z5 (hS11.bun [0] [] rfl)) ?_
    rintro y12 _ T12 w12 im12 ⟨rfl,hS12,_⟩ hm
    refine pu ?_
    refine cB L6 hm (Z5 (hS12.bun [0] [] rfl)) ?_
    rintro y13 _ T13 w13 im13 ⟨rfl,hS13,_⟩ hm
    refine pu ?_
    refine nil (Z3 [(4,iv (IntKind.wrap .i64 ((IntKind.wrap .i64 ((IntKind.wrap .i64 (y10+y11))+y12))+y13)))] ⟨rfl,qZt⟩ fun J => ?_)
    exact re hm (hS13.sel [0] rfl)
  refine pn ?_
  exact sq2 (re hm (hS.sel [0] rfl))

theorem Z1d {p0:V4} (hS:Sep g T0 w0 [Q3 R])  : ∀ r,J7 p0=some r →
    Calls Tryz.prog 57 #[.agg (P1 p0).toArray] w0 (Y4 T0 w0 fun T w v=>v = .int .u32 r∧Sep g T w (R ++ [])∧True):=by
  intro r hm
  refine enter Tryz.func57 rfl Tryz.ntmps57 rfl fun J => ?_
  unfold J7 at hm
  refine sq2 (bX (P1 p0) hS ?_)
  intro w1 b1 im1 hS1
  refine pn ?_
  refine sq2 (pu ?_)
  refine cB cf52 hm (Q1c (hS1.bun [0,1] [] rfl)) ?_
  rintro y1 _ T1 w2 im2 ⟨rfl,hS2,_⟩ hm
  refine pn ?_
  refine sq2 (rsS [0,1,2,0,1,2,0,0,0,1,2,2,0,0,0,1,2,0,0,0,1,2,0,0,0,1,2,2,0,0,0,0,1,2,0,0,0] [0,1,3,4,8,9,14,15,19,20,24,25,30,31,32,2,5,6,7,10,11,12,13,16,17,18,21,22,23,26,27,28,29,33,34,35,36] hS2 fun w3 im3 hS3 => ?_)
  obtain⟨y2,hx2,hm⟩:=Q4 hm
  refine sS [(32,iv p0.Imm),(25,iv p0.Op),(20,iv p0.Rs2),(15,iv p0.Rs1),(9,iv p0.Op),(4,iv p0.Rd)] cf100 (Z1e (hS3.bun [1,0] [] rfl) _ hx2) ?_
  rintro _ T2 w4 im4 ⟨rfl,hS4,_⟩
  refine pu ?_
  obtain⟨y3,hx3,hm⟩:=Q4 hm
  refine sS [(32,iv p0.Imm),(25,iv p0.Op),(20,iv p0.Rs2),(15,iv p0.Rs1),(9,iv p0.Op),(4,iv p0.Rd)] cf97 (J6 (hS4.bun [0,1] [] rfl) _ hx3) ?_
  rintro _ T3 w5 im5 ⟨rfl,hS5,_⟩
  refine pu ?_
  obtain⟨y4,hx4,hm⟩:=Q4 hm
  refine sS [(32,iv p0.Imm),(25,iv p0.Op),(20,iv p0.Rs2),(15,iv p0.Rs1),(4,iv p0.Rd)] cf101 (Q9r (hS5.bun [0,1] [] rfl) _ hx4) ?_
  rintro _ T4 w6 im6 ⟨rfl,hS6,_⟩
  refine pu ?_
  obtain⟨y5,hx5,hm⟩:=Q4 hm
  refine sS [(32,iv p0.Imm),(25,iv p0.Op),(20,iv p0.Rs2),(15,iv p0.Rs1),(4,iv p0.Rd)] cf97 (J6 (hS6.bun [0,1] [] rfl) _ hx5) ?_
  rintro _ T5 w7 im7 ⟨rfl,hS7,_⟩
  refine pu ?_
  obtain⟨y6,hx6,hm⟩:=Q4 hm
  refine sS [(32,iv p0.Imm),(25,iv p0.Op),(20,iv p0.Rs2),(15,iv p0.Rs1),(4,iv p0.Rd)] cf97 (J6 (hS7.bun [0,1] [] rfl) _ hx6) ?_
  rintro _ T6 w8 im8 ⟨rfl,hS8,_⟩
  refine pu ?_
  obtain⟨y7,hx7,hm⟩:=Q4 hm
  refine sS [(32,iv p0.Imm),(25,iv p0.Op),(20,iv p0.Rs2),(15,iv p0.Rs1),(4,iv p0.Rd)] cf97 (J6 (hS8.bun [0,1] [] rfl) _ hx7) ?_
  rintro _ T7 w9 im9 ⟨rfl,hS9,_⟩
  refine pu ?_
  obtain⟨y8,hx8,hm⟩:=Q4 hm
  refine sS [(32,iv p0.Imm),(20,iv p0.Rs2),(15,iv p0.Rs1),(4,iv p0.Rd)] cf102 (Q6w (hS9.bun [0,1] [] rfl) _ hx8) ?_
  rintro _ T8 w10 im10 ⟨rfl,hS10,_⟩
  refine pu ?_
  obtain⟨y9,hx9,hm⟩:=Q4 hm
  refine sS [(32,iv p0.Imm),(20,iv p0.Rs2),(15,iv p0.Rs1),(4,iv p0.Rd)] cf97 (J6 (hS10.bun [0,1] [] rfl) _ hx9) ?_
  rintro _ T9 w11 im11 ⟨rfl,hS11,_⟩
  refine pu ?_
  obtain⟨y10,hx10,hm⟩:=Q4 hm
  refine sS [(20,iv p0.Rs2),(15,iv p0.Rs1),(4,iv p0.Rd)] cf103 (Q7u (hS11.bun [0,1] [] rfl) _ hx10) ?_
  rintro _ T10 w12 im12 ⟨rfl,hS12,_⟩
  refine pu ?_
  refine se (Z3 [(2,.int .u32 (IntKind.wrap .u32 (IntKind.wrap .i64 ((IntKind.wrap .i64 ((IntKind.wrap .i64 ((IntKind.wrap .i64 ((IntKind.wrap .i64 ((IntKind.wrap .i64 (y2+(IntKind.wrap .i64 (p0.Rd * y3))))+(IntKind.wrap .i64 (y4 * y5))))+(IntKind.wrap .i64 (p0.Rs1 * y6))))+(IntKind.wrap .i64 (p0.Rs2 * y7))))+(IntKind.wrap .i64 (y8 * y9))))+y10))))] ⟨rfl,qZt⟩ fun J => ?_)
  exact re hm (hS12.sel [0] rfl)

theorem M9 {p0} (hS:Sep g T0 w0 [Q3 R])  : ∀ r,E0 p0=some r →
    Calls Tryz.prog 29 #[.int .u32 p0] w0 (Y4 T0 w0 fun T w v=>v = .tuple #[.agg (P1 r.1).toArray,iv r.2]∧Sep g T w (R ++ [])∧True):=by
  intro r hm
  refine enter Tryz.func29 rfl Tryz.ntmps29 rfl fun J => ?_
  unfold E0 at hm
  refine sq2 (aL [iv 0,iv 0,iv 0,iv 0,iv 0] hS ?_)
  intro w1 b1 im1 hS1
  refine pn ?_
  refine sq2 (pn ?_)
  refine sq2 (sq2 (pn ?_))
  refine lpJ hm (fun bd1 o1 m a w2 => ∃ T1 x1,JR (nf 46) g T0 w1 a w2 T1 (Y9 bd1 m x1=some o1) [(0,.int .u32 p0),(2,pt b1 0),(4,iv (IntKind.wrap .i64 p0)),(5,iv x1)] [Q3 R,Y2 b1 [iv 0,iv 0,iv 0,iv 0,iv 0]]) (fun _ _ h=>je h (hS1.sel [1,0] rfl)) ?_
  rintro bd1 hbd1 o1 hq1 _ _ w2 ⟨T1,x1,J,ho1,rfl,hS2,im2⟩
  obtain⟨m1,z1,rfl,hm,hn1⟩:=lrE ho1 hbd1
  refine sq2 (sq2 (cd hm ?_ ?_)) <;> intro hb1 hm
  · refine pn ?_
    refine sq2 (blk (sq2 (pu ?_)))
    refine cB cf52 hm (Q1c (hS2.bun [0,1] [] rfl)) ?_
    rintro y1 _ T2 w3 im3 ⟨rfl,hS3,_⟩ hm
    refine pn ?_
    refine sq2 (pu ?_)
    refine cB cf53 hm (Q7v (hS3.bun [0,1] [] rfl)) ?_
    rintro y2 _ T3 w4 im4 ⟨rfl,hS4,_⟩ hm
    refine pv (U3 (by kernel_rfl) rfl (u := .agg #[iv x1,iv 0,iv 0,iv 0,iv y2])) (aL [iv 0,iv 0,iv 0,iv 0,iv 0] hS4 ?_)
    intro w5 b2 im5 hS5
    refine sT 0 hS5 ?_
    intro w6 im6 hS6
    refine pn ?_
    refine F0 hm (fun kk1 a w7 => ∃(T4:_) (x2:V4),JR (nf 46) g T3 w6 a w7 T4 (kk1 x2=some z1) [(0,.int .u32 p0),(2,pt b1 0),(4,iv (IntKind.wrap .i64 p0)),(5,iv x1),(6,.int .u8 y1),(7,pt b2 0)] [Q3 R,Y2 b1 [iv 0,iv 0,iv 0,iv 0,iv 0],Y2 b2 (P1 x2)]) (fun kk1 hm => ?_) ?_
    · refine sq2 (pu ?_)
      refine cB cf54 hm (P6 (hS6.bun [0,1,2] [] rfl)) ?_
      rintro y3 _ T5 w8 im8 ⟨rfl,hS7,_⟩ hm
      refine cd hm ?_ ?_ <;> intro hb2 hm
      · refine pu ?_
        refine cB L6 hm (Z5 (hS7.bun [0,1,2] [] rfl)) ?_
        rintro y4 _ T6 w9 im9 ⟨rfl,hS8,_⟩ hm
        refine sT 0 hS8 ?_
        intro w10 im10 hS9
        exact je hm (hS9.sel [1,2,0] rfl)
      exact je hm (hS7.sel [1,2,0] rfl)
    rintro _ w7 ⟨T4,x2,J,hm,rfl,hS10,im7⟩
    refine F0 hm (fun kk2 a w11 => ∃(T7:_) (x3:V4),JR (nf 46) g T4 w7 a w11 T7 (kk2 x3=some z1) [(0,.int .u32 p0),(2,pt b1 0),(4,iv (IntKind.wrap .i64 p0)),(5,iv x1),(6,.int .u8 y1),(7,pt b2 0)] [Q3 R,Y2 b1 [iv 0,iv 0,iv 0,iv 0,iv 0],Y2 b2 (P1 x3)]) (fun kk2 hm => ?_) ?_
    · refine sq2 (pu ?_)
      refine cB cf54 hm (P6 (hS10.bun [0,1,2] [] rfl)) ?_
      rintro y5 _ T8 w12 im12 ⟨rfl,hS11,_⟩ hm
      refine cd hm ?_ ?_ <;> intro hb3 hm
      · refine pu ?_
        refine cB L6 hm (Z5 (hS11.bun [0,1,2] [] rfl)) ?_
        rintro y6 _ T9 w13 im13 ⟨rfl,hS12,_⟩ hm
        refine sT 2 hS12 ?_
        intro w14 im14 hS13
        exact je hm (hS13.sel [0,1,2] rfl)
      exact je hm (hS11.sel [0,1,2] rfl)
    rintro _ w11 ⟨T7,x3,J,hm,rfl,hS14,im11⟩
    refine F0 hm (fun kk3 a w15 => ∃(T10:_) (x4:V4),JR (nf 46) g T7 w11 a w15 T10 (kk3 x4=some z1) [(0,.int .u32 p0),(2,pt b1 0),(4,iv (IntKind.wrap .i64 p0)),(5,iv x1),(7,pt b2 0)] [Q3 R,Y2 b1 [iv 0,iv 0,iv 0,iv 0,iv 0],Y2 b2 (P1 x4)]) (fun kk3 hm => ?_) ?_
    · refine sq2 (pu ?_)
      refine cB cf54 hm (P6 (hS14.bun [0,1,2] [] rfl)) ?_
      rintro y7 _ T11 w16 im16 ⟨rfl,hS15,_⟩ hm
      refine cd hm ?_ ?_ <;> intro hb4 hm
      · refine pu ?_
        refine cB L6 hm (Z5 (hS15.bun [0,1,2] [] rfl)) ?_
        rintro y8 _ T12 w17 im17 ⟨rfl,hS16,_⟩ hm
        refine sT 2 hS16 ?_
        intro w18 im18 hS17
        exact je hm (hS17.sel [0,1,2] rfl)
      exact je hm (hS15.sel [0,1,2] rfl)
    rintro _ w15 ⟨T10,x4,J,hm,rfl,hS18,im15⟩
    refine sq2 (pu ?_)
    refine cB cf56 hm (Q9s (hS18.bun [0,1,2] [] rfl)) ?_
    rintro y9 _ T13 w19 im19 ⟨rfl,hS19,_⟩ hm
    refine pu ?_
    rcases bc hm with ⟨hb5,hm⟩ | ⟨hb5,hm⟩
    · refine pu ?_
      refine cB cf57 hm (Z1d (hS19.bun [0,1,2] [] rfl)) ?_
      rintro y10 _ T14 w20 im20 ⟨rfl,hS20,_⟩ hm
      refine cd hm ?_ ?_ <;> intro hb6 hm
      · refine sq2 (sT 1 hS20 ?_)
        intro w21 im21 hS21
        refine pn ?_
        have hm:=retE hm hn1 hq1
        exact re hm (hS21.sel [0] rfl)
      exact lg hm hn1 (hS20.sel [0,1] rfl)
    refine pn ?_
    refine cnd (b:=false) rfl (fun h=>nomatch h) (fun _ => ?_)
    exact lg hm hn1 (hS19.sel [0,1] rfl)
  have hm:=Q3s hm hn1 hq1
  refine pn ?_
  refine sq2 (pu ?_)
  refine pv (U3 (by kernel_rfl) rfl (u := .agg #[iv 0,iv 0,iv 0,iv 0,iv 0])) (sT 1 hS2 ?_)
  intro w22 im22 hS22
  exact re hm (hS22.sel [0] rfl)

theorem V9 {p0} (hS:Sep g T0 w0 [Q3 R])  : ∀ r,J2 p0=some r →
    Calls Tryz.prog 30 #[iv p0] w0 (Y4 T0 w0 fun T w v=>v = .int .u32 r∧Sep g T w (R ++ [])∧True):=by
  intro r hm
  refine enter Tryz.func30 rfl Tryz.ntmps30 rfl fun J => ?_
  unfold J2 at hm
  refine sq2 (pn ?_)
  refine sq2 (pn ?_)
  refine F0 hm (fun kk1 a w1 => ∃ T1 x1,JR (nf 12) g T0 w0 a w1 T1 (kk1 x1=some r) [(3,iv x1)] [Q3 R]) (fun kk1 hm => ?_) ?_
  · refine sq2 (cd hm ?_ ?_) <;> intro hb1 hm
    · exact je hm (hS.sel [0] rfl)
    exact je hm (hS.sel [0] rfl)
  rintro _ w1 ⟨T1,x1,J,hm,rfl,hS1,im1⟩
  exact sq2 (re hm (hS1.sel [0] rfl))

theorem Q9n {p0:Q0} {X3 Y8:Nat} {X4:List Value→Z4} {a1 c1 a2 n1 c2 a3 c3 a4 n2 c4 a5 n3 c5} (hS:Sep g T0 w0 ([Q3 R]++Z8 p0 X4 a1 c1 a2 n1 c2 a3 c3 a4 n2 c4 a5 n3 c5)) (Z6:Ln X3 Y8 X4) (h1:SlR (Q2 .u32) T0 w0 (sv a1 p0.Code c1) p0.Code) (h2:SlR (Q2 .u32) T0 w0 (sv a3 p0.Inputs c3) p0.Inputs) : ∀ r,H6 p0=some r →
    Calls Tryz.prog 16 #[pt X3 Y8] w0 (Y4 T0 w0 fun T w v=>v=iv r∧Sep g T w (R++Z8 p0 X4 a1 c1 a2 n1 c2 a3 c3 a4 n2 c4 a5 n3 c5)∧True):=by
  intro r hm
  refine enter Tryz.func16 rfl Tryz.ntmps16 rfl fun J => ?_
  unfold H6 at hm
  refine sq2 (pn ?_)
  refine sq2 (sq2 (rqS hS (pu ?_)))
  rcases bc hm with ⟨hb1,hm⟩ | ⟨hb1,hm⟩
  · refine pn ?_
    intro w8 T4 im8 hS8
    refine pn ?_
    refine cnd (b:=true) rfl (fun _ => ?_) (fun h=>nomatch h)
    exact sq2 (re hm (hS8.sel (Q9 0 5) rfl))
  refine pn ?_
  intro w1 T1 im1 hS1
  refine cd hm ?_ ?_ <;> intro hb2 hm
  · exact sq2 (re hm (hS1.sel (Q9 0 5) rfl))
  refine pn ?_
  refine sq2 (rtS [0,0,0,1,0,0,0,1,0,0,1,2,0,0,0,2,2,0] [0,1,2,3,4,5,6,7,8,9,10,11,12,13,14,15,16,17] hS1 fun w2 im2 hS2 => ?_)
  obtain⟨u1,hx1,hm⟩:=Q4 hm
  obtain⟨y1,hx2,hm⟩:=Q4 hm
  refine tF [11,15] ?_
  refine⟨?_,?_,qZt⟩
  · refine brW [12,13,14,15,16,17] [0,0,0] ?_
    refine oS cf29 (M9 (hS2.bun (Q9 0 5) [] rfl) _ hx2) ?_
    rintro _ T2 w3 im3 ⟨rfl,hS3,_⟩
    refine t1W [15] [16,17] [] ?_
    refine oaL [iv 0,iv 0,iv 0,iv 0,iv 0] hS3 ?_
    intro w4 b1 im4 hS4
    refine t1W [16] [17] [] ?_
    refine osT 0 hS4 ?_
    intro w5 im5 hS5
    refine pu ?_
    refine te (Z3 [(0,pt X3 Y8),(3,pt b1 0),(4,iv y1.2)] ⟨rfl,rfl,rfl,qZt⟩ fun J => ?_)
    refine sq2 (sq2 (pu ?_))
    refine fkC (d:=46) (c:=((y1.2 != 0) || (decide (y1.1.Op < 16)))) 4 [(0,pt X3 Y8),(3,pt b1 0)] rfl (fun hk => ?_) fun J => ?_
    · rcases Bool.eq_false_or_eq_true (y1.2 != 0) with hb3 | hb3
      · exact  gF3 (d0:=42) rfl rfl (by rw [hb3]; rfl) (pv (V1 rfl hb3 rfl) (wlR (fun J=>hk J _ (by rw [hb3]; rfl)) ⟨rfl,rfl,rfl,qZt⟩))
      exact  gT (d0:=42) rfl rfl hb3 (pv (I8 rfl underlying88 rfl sizeOf3 rfl) (gT (d0:=42) rfl rfl hb3 (pv (K3 rfl isAgg3 (hS5.cell0 (i:=0) ⟨rfl,rfl⟩ (j:=0) rfl)) (gT (d0:=42) rfl rfl hb3 (pv (J8 rfl rfl rfl) (pv (V2 rfl hb3 rfl) (wlR (fun J=>hk J _ (by rw [hb3]; rfl)) ⟨rfl,rfl,rfl,qZt⟩)))))))
    refine pu ?_
    refine fkN (d:=51) (c:=(((y1.2 != 0) || (decide (y1.1.Op < 16))) || (decide (18 < y1.1.Op)))) 4 [(0,pt X3 Y8),(3,pt b1 0)] rfl (fun hk => ?_) fun J => ?_
    · rcases Bool.eq_false_or_eq_true ((y1.2 != 0) || (decide (y1.1.Op < 16))) with hb4 | hb4
      · exact  gF3 (d0:=47) rfl rfl (by rw [hb4]; rfl) (pv (V1 rfl hb4 rfl) (wlR (fun J=>hk J _ (by rw [hb4]; rfl)) ⟨rfl,rfl,rfl,qZt⟩))
      exact  gT (d0:=47) rfl rfl hb4 (pv (I8 rfl underlying88 rfl sizeOf3 rfl) (gT (d0:=47) rfl rfl hb4 (pv (K3 rfl isAgg3 (hS5.cell0 (i:=0) ⟨rfl,rfl⟩ (j:=0) rfl)) (gT (d0:=47) rfl rfl hb4 (pv (J8 rfl rfl rfl) (pv (V2 rfl hb4 rfl) (wlR (fun J=>hk J _ (by rw [hb4]; rfl)) ⟨rfl,rfl,rfl,qZt⟩)))))))
    refine cd hm ?_ ?_ <;> intro hb5 hm
    · exact sq2 (re hm (hS5.sel (Q9 1 5) rfl))
    refine pn ?_
    refine sq2 (rsS [0,0,0,1,0,1,0,1,0,0,1,0,2,0,0,0] [0,1,2,3,4,5,6,7,8,9,10,11,12,13,14,15] hS5 fun w6 im6 hS6 => ?_)
    obtain⟨u2,hx3,hm⟩:=Q4 hm
    obtain⟨y2,hx4,hm⟩:=Q4 hm
    refine sS [] Q8h (V9 (hS6.bun (Q9 1 5 ++ [0]) [] rfl) _ hx4) ?_
    rintro _ T3 w7 im7 ⟨rfl,hS7,_⟩
    refine pn ?_
    refine sq2 (sq2 (pu ?_))
    refine fkN (d:=77) (c:=((decide ((IntKind.wrap .i64 ((IntKind.wrap .i64 y2) - 268435456)) < 0)) || (decide ((List.length p0.Data:Int)≤(IntKind.wrap .i64 ((IntKind.wrap .i64 y2) - 268435456)))))) 8 [(5,iv (IntKind.wrap .i64 ((IntKind.wrap .i64 y2) - 268435456)))] rfl (fun hk => ?_) fun J => ?_
    · rcases Bool.eq_false_or_eq_true (decide ((IntKind.wrap .i64 ((IntKind.wrap .i64 y2) - 268435456)) < 0)) with hb6 | hb6
      · exact  gF7 (d0:=69) rfl rfl (by rw [hb6]; rfl) (pv (V1 rfl hb6 rfl) (wlR (fun J=>hk J _ (by rw [hb6]; rfl)) ⟨rfl,rfl,qZt⟩))
      exact  gT (d0:=69) rfl rfl hb6 (pv (N2 rfl) (gT (d0:=69) rfl rfl hb6 (pv (r_mp rfl) (gT (d0:=69) rfl rfl hb6 (pv (r_nc rfl) (gT (d0:=69) rfl rfl hb6 (pv (I8 rfl underlying62 rfl sizeOf23 rfl) (gT (d0:=69) rfl rfl hb6 (pv (K3 rfl isAgg23 (hS7.cellB (i:=1) ⟨rfl,rfl⟩ Z6 (j:=1) rfl)) (gT (d0:=69) rfl rfl hb6 (pv (r_lnV rfl (hS7.own (i:=2) ⟨rfl,rfl⟩).v underlying23) (gT (d0:=69) rfl rfl hb6 (pv (J8 rfl rfl rfl) (pv (V2 rfl hb6 rfl) (wlR (fun J=>hk J _ (by rw [hb6]; rfl)) ⟨rfl,rfl,qZt⟩)))))))))))))))
    refine cd hm ?_ ?_ <;> intro hb7 hm
    · exact sq2 (re hm (hS7.sel (Q9 0 5) rfl))
    refine pn ?_
    exact sq2 (re hm (hS7.sel (Q9 0 5) rfl))
  refine brW [11,12,13,14,16,17] [] ?_
  refine oaL [iv 0,iv 0,iv 0,iv 0,iv 0] hS2 ?_
  intro w3 b1 im3 hS3
  refine t1W [11] [12,13,14,16,17] [0,0,0] ?_
  refine oS cf29 (M9 (hS3.bun (Q9 0 6) [] rfl) _ hx2) ?_
  rintro _ T2 w4 im4 ⟨rfl,hS4,_⟩
  refine t1W [16] [17] [] ?_
  refine osT 0 hS4 ?_
  intro w5 im5 hS5
  refine pu ?_
  refine te (Z3 [(0,pt X3 Y8),(3,pt b1 0),(4,iv y1.2)] ⟨rfl,rfl,rfl,qZt⟩ fun J => ?_)
  refine sq2 (sq2 (pu ?_))
  refine fkC (d:=46) (c:=((y1.2 != 0) || (decide (y1.1.Op < 16)))) 4 [(0,pt X3 Y8),(3,pt b1 0)] rfl (fun hk => ?_) fun J => ?_
  · rcases Bool.eq_false_or_eq_true (y1.2 != 0) with hb3 | hb3
    · exact  gF3 (d0:=42) rfl rfl (by rw [hb3]; rfl) (pv (V1 rfl hb3 rfl) (wlR (fun J=>hk J _ (by rw [hb3]; rfl)) ⟨rfl,rfl,rfl,qZt⟩))
    exact  gT (d0:=42) rfl rfl hb3 (pv (I8 rfl underlying88 rfl sizeOf3 rfl) (gT (d0:=42) rfl rfl hb3 (pv (K3 rfl isAgg3 (hS5.cell0 (i:=0) ⟨rfl,rfl⟩ (j:=0) rfl)) (gT (d0:=42) rfl rfl hb3 (pv (J8 rfl rfl rfl) (pv (V2 rfl hb3 rfl) (wlR (fun J=>hk J _ (by rw [hb3]; rfl)) ⟨rfl,rfl,rfl,qZt⟩)))))))
  refine pu ?_
  refine fkN (d:=51) (c:=(((y1.2 != 0) || (decide (y1.1.Op < 16))) || (decide (18 < y1.1.Op)))) 4 [(0,pt X3 Y8),(3,pt b1 0)] rfl (fun hk => ?_) fun J => ?_
  · rcases Bool.eq_false_or_eq_true ((y1.2 != 0) || (decide (y1.1.Op < 16))) with hb4 | hb4
    · exact  gF3 (d0:=47) rfl rfl (by rw [hb4]; rfl) (pv (V1 rfl hb4 rfl) (wlR (fun J=>hk J _ (by rw [hb4]; rfl)) ⟨rfl,rfl,rfl,qZt⟩))
    exact  gT (d0:=47) rfl rfl hb4 (pv (I8 rfl underlying88 rfl sizeOf3 rfl) (gT (d0:=47) rfl rfl hb4 (pv (K3 rfl isAgg3 (hS5.cell0 (i:=0) ⟨rfl,rfl⟩ (j:=0) rfl)) (gT (d0:=47) rfl rfl hb4 (pv (J8 rfl rfl rfl) (pv (V2 rfl hb4 rfl) (wlR (fun J=>hk J _ (by rw [hb4]; rfl)) ⟨rfl,rfl,rfl,qZt⟩)))))))
  refine cd hm ?_ ?_ <;> intro hb5 hm
  · exact sq2 (re hm (hS5.sel (Q9 1 5) rfl))
  refine pn ?_
  refine sq2 (rsS [0,0,0,1,0,1,0,1,0,0,1,0,2,0,0,0] [0,1,2,3,4,5,6,7,8,9,10,11,12,13,14,15] hS5 fun w6 im6 hS6 => ?_)
  obtain⟨u2,hx3,hm⟩:=Q4 hm
  obtain⟨y2,hx4,hm⟩:=Q4 hm
  refine sS [] Q8h (V9 (hS6.bun (Q9 1 5 ++ [0]) [] rfl) _ hx4) ?_
  rintro _ T3 w7 im7 ⟨rfl,hS7,_⟩
  refine pn ?_
  refine sq2 (sq2 (pu ?_))
  refine fkN (d:=77) (c:=((decide ((IntKind.wrap .i64 ((IntKind.wrap .i64 y2) - 268435456)) < 0)) || (decide ((List.length p0.Data:Int)≤(IntKind.wrap .i64 ((IntKind.wrap .i64 y2) - 268435456)))))) 8 [(5,iv (IntKind.wrap .i64 ((IntKind.wrap .i64 y2) - 268435456)))] rfl (fun hk => ?_) fun J => ?_
  · rcases Bool.eq_false_or_eq_true (decide ((IntKind.wrap .i64 ((IntKind.wrap .i64 y2) - 268435456)) < 0)) with hb6 | hb6
    · exact  gF7 (d0:=69) rfl rfl (by rw [hb6]; rfl) (pv (V1 rfl hb6 rfl) (wlR (fun J=>hk J _ (by rw [hb6]; rfl)) ⟨rfl,rfl,qZt⟩))
    exact  gT (d0:=69) rfl rfl hb6 (pv (N2 rfl) (gT (d0:=69) rfl rfl hb6 (pv (r_mp rfl) (gT (d0:=69) rfl rfl hb6 (pv (r_nc rfl) (gT (d0:=69) rfl rfl hb6 (pv (I8 rfl underlying62 rfl sizeOf23 rfl) (gT (d0:=69) rfl rfl hb6 (pv (K3 rfl isAgg23 (hS7.cellB (i:=1) ⟨rfl,rfl⟩ Z6 (j:=1) rfl)) (gT (d0:=69) rfl rfl hb6 (pv (r_lnV rfl (hS7.own (i:=2) ⟨rfl,rfl⟩).v underlying23) (gT (d0:=69) rfl rfl hb6 (pv (J8 rfl rfl rfl) (pv (V2 rfl hb6 rfl) (wlR (fun J=>hk J _ (by rw [hb6]; rfl)) ⟨rfl,rfl,qZt⟩)))))))))))))))
  refine cd hm ?_ ?_ <;> intro hb7 hm
  · exact sq2 (re hm (hS7.sel (Q9 0 5) rfl))
  refine pn ?_
  exact sq2 (re hm (hS7.sel (Q9 0 5) rfl))

theorem I5 {p0} (hS:Sep g T0 w0 [Q3 R])  : ∀ r,N7 p0=some r →
    Calls Tryz.prog 58 #[iv p0] w0 (Y4 T0 w0 fun T w v=>v=iv r∧Sep g T w (R ++ [])∧True):=by
  intro r hm
  refine enter Tryz.func58 rfl Tryz.ntmps58 rfl fun J => ?_
  unfold N7 at hm
  refine sq2 (pn ?_)
  refine sq2 (pu ?_)
  refine cB Q8h hm (V9 (hS.bun [0] [] rfl)) ?_
  rintro y1 _ T1 w1 im1 ⟨rfl,hS1,_⟩ hm
  exact re hm (hS1.sel [0] rfl)

theorem U2 {p0:Q0} {X3 Y8:Nat} {X4:List Value→Z4} {a1 c1 a2 n1 c2 a3 c3 a4 n2 c4 a5 n3 c5 p1 p2} (hS:Sep g T0 w0 ([Q3 R]++Z8 p0 X4 a1 c1 a2 n1 c2 a3 c3 a4 n2 c4 a5 n3 c5)) (Z6:Ln X3 Y8 X4) (h1:SlR (Q2 .u32) T0 w0 (sv a1 p0.Code c1) p0.Code) (h2:SlR (Q2 .u32) T0 w0 (sv a3 p0.Inputs c3) p0.Inputs) : ∀ r,X5 p0 p1 p2=some r →
    Calls Tryz.prog 59 #[pt X3 Y8,iv p1,.int .u32 p2] w0 (Y4 T0 w0 fun T w v => ∃ a6 c6 a7 c7,v = .tuple #[]∧Sep g T w (R++Z8 r X4 a6 c6 a2 n1 c2 a7 c7 a4 n2 c4 a5 n3 c5)∧SlR (Q2 .u32) T w (sv a6 r.Code c6) r.Code∧SlR (Q2 .u32) T w (sv a7 r.Inputs c7) r.Inputs∧True):=by
  intro r hm
  refine enter Tryz.func59 rfl Tryz.ntmps59 rfl fun J => ?_
  unfold X5 at hm
  refine sq2 (cd hm ?_ ?_) <;> intro hb1 hm
  · obtain⟨u1,hx1,hm⟩:=Q4 hm
    obtain⟨u2,hx2,hm⟩:=Q4 hm
    obtain rfl:u1=u2:=oI (hx1.symm.trans hx2)
    refine pu ?_
    refine wl rfl (stOc (q:=3) (j:=0) (u' := p2) hS ⟨rfl,rfl⟩ hx2 rfl rfl rfl sizeOf59 rfl rfl rfl (fun c0 hc0=>by rw [B8 (r:=(Q2 .u32)) hc0 rfl]; exact rfl) fun w1 im1 hS1 => ?_)
    cases oI hm
    refine pn ?_
    exact end0 rfl ⟨_,rfl,_,im1,⟨_,_,_,_,rfl,(hS1.sel (Q9 0 5) rfl).unb,(h1.mono im1),(h2.mono im1),qZt⟩⟩
  cases oI hm
  refine pn ?_
  exact end0 rfl ⟨_,rfl,_,Im.refl,⟨_,_,_,_,rfl,(hS.sel (Q9 0 5) rfl).unb,h1,h2,qZt⟩⟩

theorem V0 {p0} (hS:Sep g T0 w0 [Q3 R])  : ∀ r,V7 p0=some r →
    Calls Tryz.prog 104 #[.int .u32 p0] w0 (Y4 T0 w0 fun T w v=>v=iv r∧Sep g T w (R ++ [])∧True):=by
  intro r hm
  refine enter Tryz.func104 rfl Tryz.ntmps104 rfl fun J => ?_
  unfold V7 at hm
  refine sq2 (pn ?_)
  refine sq2 (sq2 (cd hm ?_ ?_)) <;> intro hb1 hm
  · exact sq2 (re hm (hS.sel [0] rfl))
  refine pn ?_
  exact sq2 (re hm (hS.sel [0] rfl))

theorem Q9p {p0 p1 p2} (hS:Sep g T0 w0 [Q3 R])  : ∀ r,W9 p0 p1 p2=some r →
    Calls Tryz.prog 60 #[iv p0,.int .u32 p1,.int .u32 p2] w0 (Y4 T0 w0 fun T w v=>v = .bool r∧Sep g T w (R ++ [])∧True):=by
  intro r hm
  refine enter Tryz.func60 rfl Tryz.ntmps60 rfl fun J => ?_
  unfold W9 at hm
  refine sq2 (pn ?_)
  refine sq2 (pu ?_)
  refine cB Q4z hm (V0 (hS.bun [0] [] rfl)) ?_
  rintro y1 _ T1 w1 im1 ⟨rfl,hS1,_⟩ hm
  refine pu ?_
  refine cB Q4z hm (V0 (hS1.bun [0] [] rfl)) ?_
  rintro y2 _ T2 w2 im2 ⟨rfl,hS2,_⟩ hm
  refine pn ?_
  refine sq2 (sq2 (cd hm ?_ ?_)) <;> intro hb1 hm
  · exact sq2 (re hm (hS2.sel [0] rfl))
  refine pn ?_
  refine sq2 (sq2 (cd hm ?_ ?_)) <;> intro hb2 hm
  · exact sq2 (re hm (hS2.sel [0] rfl))
  refine pn ?_
  refine sq2 (sq2 (cd hm ?_ ?_)) <;> intro hb3 hm
  · exact sq2 (re hm (hS2.sel [0] rfl))
  refine pn ?_
  refine sq2 (sq2 (cd hm ?_ ?_)) <;> intro hb4 hm
  · exact sq2 (re hm (hS2.sel [0] rfl))
  refine pn ?_
  refine sq2 (sq2 (cd hm ?_ ?_)) <;> intro hb5 hm
  · exact sq2 (re hm (hS2.sel [0] rfl))
  refine pn ?_
  exact sq2 (re hm (hS2.sel [0] rfl))

theorem Q4i {p0} (hS:Sep g T0 w0 [Q3 R])  : ∀ r,Q1b p0=some r →
    Calls Tryz.prog 105 #[iv p0] w0 (Y4 T0 w0 fun T w v=>v=iv r∧Sep g T w (R ++ [])∧True):=by
  intro r hm
  refine enter Tryz.func105 rfl Tryz.ntmps105 rfl fun J => ?_
  unfold Q1b at hm
  refine sq2 (pn ?_)
  refine sq2 (sq2 (pu ?_))
  refine fkC (d:=8) (c:=((p0 == 11) || (p0 == 14))) 3 [(0,iv p0)] rfl (fun hk => ?_) fun J => ?_
  · rcases Bool.eq_false_or_eq_true (p0 == 11) with hb1 | hb1
    · exact  gF2 (d0:=5) rfl rfl (by rw [hb1]; rfl) (pv (V1 rfl hb1 rfl) (wlR (fun J=>hk J _ (by rw [hb1]; rfl)) ⟨rfl,rfl,qZt⟩))
    exact  gT (d0:=5) rfl rfl hb1 (pv (N2 rfl) (gT (d0:=5) rfl rfl hb1 (pv (J8 rfl rfl rfl) (pv (V2 rfl hb1 rfl) (wlR (fun J=>hk J _ (by rw [hb1]; rfl)) ⟨rfl,rfl,qZt⟩)))))
  refine pu ?_
  refine fkN (d:=12) (c:=(((p0 == 11) || (p0 == 14)) || (p0 == 16))) 3 [(0,iv p0)] rfl (fun hk => ?_) fun J => ?_
  · rcases Bool.eq_false_or_eq_true ((p0 == 11) || (p0 == 14)) with hb2 | hb2
    · exact  gF2 (d0:=9) rfl rfl (by rw [hb2]; rfl) (pv (V1 rfl hb2 rfl) (wlR (fun J=>hk J _ (by rw [hb2]; rfl)) ⟨rfl,rfl,qZt⟩))
    exact  gT (d0:=9) rfl rfl hb2 (pv (N2 rfl) (gT (d0:=9) rfl rfl hb2 (pv (J8 rfl rfl rfl) (pv (V2 rfl hb2 rfl) (wlR (fun J=>hk J _ (by rw [hb2]; rfl)) ⟨rfl,rfl,qZt⟩)))))
  refine cd hm ?_ ?_ <;> intro hb3 hm
  · exact sq2 (re hm (hS.sel [0] rfl))
  refine pn ?_
  refine sq2 (sq2 (pu ?_))
  refine fkC (d:=18) (c:=((p0 == 12) || (p0 == 15))) 3 [(0,iv p0)] rfl (fun hk => ?_) fun J => ?_
  · rcases Bool.eq_false_or_eq_true (p0 == 12) with hb4 | hb4
    · exact  gF2 (d0:=15) rfl rfl (by rw [hb4]; rfl) (pv (V1 rfl hb4 rfl) (wlR (fun J=>hk J _ (by rw [hb4]; rfl)) ⟨rfl,rfl,qZt⟩))
    exact  gT (d0:=15) rfl rfl hb4 (pv (N2 rfl) (gT (d0:=15) rfl rfl hb4 (pv (J8 rfl rfl rfl) (pv (V2 rfl hb4 rfl) (wlR (fun J=>hk J _ (by rw [hb4]; rfl)) ⟨rfl,rfl,qZt⟩)))))
  refine pu ?_
  refine fkN (d:=22) (c:=(((p0 == 12) || (p0 == 15)) || (p0 == 17))) 3 [] rfl (fun hk => ?_) fun J => ?_
  · rcases Bool.eq_false_or_eq_true ((p0 == 12) || (p0 == 15)) with hb5 | hb5
    · exact  gF2 (d0:=19) rfl rfl (by rw [hb5]; rfl) (pv (V1 rfl hb5 rfl) (wlR (fun J=>hk J _ (by rw [hb5]; rfl)) ⟨rfl,qZt⟩))
    exact  gT (d0:=19) rfl rfl hb5 (pv (N2 rfl) (gT (d0:=19) rfl rfl hb5 (pv (J8 rfl rfl rfl) (pv (V2 rfl hb5 rfl) (wlR (fun J=>hk J _ (by rw [hb5]; rfl)) ⟨rfl,qZt⟩)))))
  refine cd hm ?_ ?_ <;> intro hb6 hm
  · exact sq2 (re hm (hS.sel [0] rfl))
  refine pn ?_
  exact sq2 (re hm (hS.sel [0] rfl))

theorem Q0a {p0:Q0} {X3 Y8:Nat} {X4:List Value→Z4} {a1 c1 a2 n1 c2 a3 c3 a4 n2 c4 a5 n3 c5 p1 p2} (hS:Sep g T0 w0 ([Q3 R]++Z8 p0 X4 a1 c1 a2 n1 c2 a3 c3 a4 n2 c4 a5 n3 c5)) (Z6:Ln X3 Y8 X4) (h1:SlR (Q2 .u32) T0 w0 (sv a1 p0.Code c1) p0.Code) (h2:SlR (Q2 .u32) T0 w0 (sv a3 p0.Inputs c3) p0.Inputs) : ∀ r,F5 p0 p1 p2=some r →
    Calls Tryz.prog 106 #[pt X3 Y8,iv p1,iv p2] w0 (Y4 T0 w0 fun T w v=>v = .bool r∧Sep g T w (R++Z8 p0 X4 a1 c1 a2 n1 c2 a3 c3 a4 n2 c4 a5 n3 c5)∧True):=by
  intro r hm
  refine enter Tryz.func106 rfl Tryz.ntmps106 rfl fun J => ?_
  unfold F5 at hm
  refine sq2 (pn ?_)
  refine sq2 ?_
  obtain⟨_,hz1,hm⟩:=Q4 hm
  have hz1:=D3 hz1
  refine pu ?_
  refine pv (Q3u rfl rfl hz1) (pu ?_)
  refine fkC (d:=14) (c:=(((Int.tmod p1 p2) == 0)&&(decide (268435456≤p1)))) 3 [(0,pt X3 Y8),(1,iv p1),(2,iv p2)] rfl (fun hk => ?_) fun J => ?_
  · rcases Bool.eq_false_or_eq_true ((Int.tmod p1 p2) == 0) with hb1 | hb1
    · exact  gT (d0:=11) rfl rfl hb1 (pv (N2 rfl) (gT (d0:=11) rfl rfl hb1 (pv (J8 rfl rfl rfl) (pv (V1 rfl hb1 rfl) (wlR (fun J=>hk J _ (by rw [hb1]; rfl)) ⟨rfl,rfl,rfl,rfl,qZt⟩)))))
    exact  gF2 (d0:=11) rfl rfl (by rw [hb1]; rfl) (pv (V2 rfl hb1 rfl) (wlR (fun J=>hk J _ (by rw [hb1]; rfl)) ⟨rfl,rfl,rfl,rfl,qZt⟩))
  refine pu ?_
  refine fkC (d:=26) (c:=((((Int.tmod p1 p2) == 0)&&(decide (268435456≤p1)))&&(decide ((IntKind.wrap .i64 (p1+p2))≤(IntKind.wrap .i64 (268435456+(List.length p0.Data:Int))))))) 11 [] rfl (fun hk => ?_) fun J => ?_
  · rcases Bool.eq_false_or_eq_true (((Int.tmod p1 p2) == 0)&&(decide (268435456≤p1))) with hb2 | hb2
    · exact  gT (d0:=15) rfl rfl hb2 (pv (N2 rfl) (gT (d0:=15) rfl rfl hb2 (pv (N2 rfl) (gT (d0:=15) rfl rfl hb2 (pv (J8 rfl rfl rfl) (gT (d0:=15) rfl rfl hb2 (pv (r_mp rfl) (gT (d0:=15) rfl rfl hb2 (pv (r_nc rfl) (gT (d0:=15) rfl rfl hb2 (pv (I8 rfl underlying62 rfl sizeOf23 rfl) (gT (d0:=15) rfl rfl hb2 (pv (K3 rfl isAgg23 (hS.cellB (i:=1) ⟨rfl,rfl⟩ Z6 (j:=1) rfl)) (gT (d0:=15) rfl rfl hb2 (pv (r_lnV rfl (hS.own (i:=2) ⟨rfl,rfl⟩).v underlying23) (gT (d0:=15) rfl rfl hb2 (pv (J8 rfl rfl rfl) (gT (d0:=15) rfl rfl hb2 (pv (J8 rfl rfl rfl) (pv (V1 rfl hb2 rfl) (wlR (fun J=>hk J _ (by rw [hb2]; rfl)) ⟨rfl,qZt⟩)))))))))))))))))))))
    exact  gF8 (d0:=15) rfl rfl (by rw [hb2]; rfl) (gF2 (d0:=15) rfl rfl (by rw [hb2]; rfl) (pv (V2 rfl hb2 rfl) (wlR (fun J=>hk J _ (by rw [hb2]; rfl)) ⟨rfl,qZt⟩)))
  exact re hm (hS.sel (Q9 0 5) rfl)

theorem Q3f {p0:Q0} {X3 Y8:Nat} {X4:List Value→Z4} {a1 c1 a2 n1 c2 a3 c3 a4 n2 c4 a5 n3 c5 p1 p2} (hS:Sep g T0 w0 ([Q3 R]++Z8 p0 X4 a1 c1 a2 n1 c2 a3 c3 a4 n2 c4 a5 n3 c5)) (Z6:Ln X3 Y8 X4) (h1:SlR (Q2 .u32) T0 w0 (sv a1 p0.Code c1) p0.Code) (h2:SlR (Q2 .u32) T0 w0 (sv a3 p0.Inputs c3) p0.Inputs) : ∀ r,U5 p0 p1 p2=some r →
    Calls Tryz.prog 61 #[pt X3 Y8,iv p1,iv p2] w0 (Y4 T0 w0 fun T w v=>v = .tuple #[.int .u32 r.1,.bool r.2]∧Sep g T w (R++Z8 p0 X4 a1 c1 a2 n1 c2 a3 c3 a4 n2 c4 a5 n3 c5)∧True):=by
  intro r hm
  refine enter Tryz.func61 rfl Tryz.ntmps61 rfl fun J => ?_
  unfold U5 at hm
  refine sq2 (pn ?_)
  refine sq2 (pu ?_)
  refine cB cf105 hm (Q4i (hS.bun (Q9 0 5) [] rfl)) ?_
  rintro y1 _ T1 w1 im1 ⟨rfl,hS1,_⟩ hm
  refine pn ?_
  refine sq2 (F0 hm (fun kk1 a w2 => ∃ T2 x1,JR (nf 83) g T1 w1 a w2 T2 (kk1 x1=some r) [(0,pt X3 Y8),(1,iv p1),(2,iv p2),(8,iv y1),(18,.bool x1)] ([Q3 R]++Z8 p0 X4 a1 c1 a2 n1 c2 a3 c3 a4 n2 c4 a5 n3 c5)) (fun kk1 hm => ?_) ?_)
  · refine pu ?_
    refine fkN (d:=18) (c:=((p1 == 13)&&(p2 == 536870924))) 3 [(0,pt X3 Y8),(1,iv p1),(2,iv p2),(8,iv y1)] rfl (fun hk => ?_) fun J => ?_
    · rcases Bool.eq_false_or_eq_true (p1 == 13) with hb1 | hb1
      · exact  gT (d0:=15) rfl rfl hb1 (pv (N2 rfl) (gT (d0:=15) rfl rfl hb1 (pv (J8 rfl rfl rfl) (pv (V1 rfl hb1 rfl) (wlR (fun J=>hk J _ (by rw [hb1]; rfl)) ⟨rfl,rfl,rfl,rfl,rfl,qZt⟩)))))
      exact  gF2 (d0:=15) rfl rfl (by rw [hb1]; rfl) (pv (V2 rfl hb1 rfl) (wlR (fun J=>hk J _ (by rw [hb1]; rfl)) ⟨rfl,rfl,rfl,rfl,rfl,qZt⟩))
    exact je hm (hS1.sel (Q9 0 5) rfl)
  rintro _ w2 ⟨T2,x1,J,hm,rfl,hS2,im2⟩
  refine cd hm ?_ ?_ <;> intro hb2 hm
  · refine sq2 (sq2 (rqS hS2 (pn ?_)))
    intro w3 T3 im3 hS3
    refine cd hm ?_ ?_ <;> intro hb3 hm
    · refine sq2 ?_
      obtain⟨u1,hx2,hm⟩:=Q4 hm
      refine rqS hS3 (pn ?_)
      intro w4 T4 im4 hS4
      refine Z3 [(6,.int .u32 u1),(7,.bool true)] ⟨rfl,rfl,qZt⟩ fun J => ?_
      exact re hm (hS4.sel (Q9 0 5) rfl)
    refine pn ?_
    exact sq2 (re hm (hS3.sel (Q9 0 5) rfl))
  refine pn ?_
  refine sq2 (sq2 (pu ?_))
  refine cB cf106 hm (Q0a (hS2.bun [0] (Q9 1 4) rfl) Z6 (h1.mono ch) (h2.mono ch)) ?_
  rintro y2 _ T5 w5 im5 ⟨rfl,hS5,_⟩ hm
  refine cd hm ?_ ?_ <;> intro hb4 hm
  · exact sq2 (re hm (hS5.sel (Q9 0 5) rfl))
  refine pn ?_
  refine sq2 (pn ?_)
  refine sq2 (sq2 (pn ?_))
  refine lpJ hm (fun bd1 o1 m a w6 => ∃ T6 x2 x3,JR (nf 83) g T5 w5 a w6 T6 (Y9 bd1 m (x2,x3)=some o1) [(0,pt X3 Y8),(1,iv p1),(2,iv p2),(9,iv x2),(10,iv x3)] ([Q3 R]++Z8 p0 X4 a1 c1 a2 n1 c2 a3 c3 a4 n2 c4 a5 n3 c5)) (fun _ _ h=>je h (hS5.sel (Q9 0 5) rfl)) ?_
  rintro bd1 hbd1 o1 hq1 _ _ w6 ⟨T6,x2,x3,J,ho1,rfl,hS6,im6⟩
  obtain⟨m1,z1,rfl,hm,hn1⟩:=lrE ho1 hbd1
  refine sq2 (sq2 (cd hm ?_ ?_)) <;> intro hb5 hm
  · refine pn ?_
    refine sq2 (blk ?_)
    obtain⟨u2,hx4,hm⟩:=Q4 hm
    exact lg hm hn1 (hS6.sel (Q9 0 5) rfl)
  have hm:=Q3s hm hn1 hq1
  refine pn ?_
  refine F0 hm (fun kk2 a w7 => ∃ T7 x4,JR (nf 83) g T6 w6 a w7 T7 (kk2 x4=some r) [(1,iv p1),(9,iv x4)] ([Q3 R]++Z8 p0 X4 a1 c1 a2 n1 c2 a3 c3 a4 n2 c4 a5 n3 c5)) (fun kk2 hm => ?_) ?_
  · refine sq2 (pu ?_)
    refine fkN (d:=70) (c:=((p1 == 11)&&(decide (128≤x2)))) 3 [(1,iv p1),(9,iv x2)] rfl (fun hk => ?_) fun J => ?_
    · rcases Bool.eq_false_or_eq_true (p1 == 11) with hb6 | hb6
      · exact  gT (d0:=67) rfl rfl hb6 (pv (N2 rfl) (gT (d0:=67) rfl rfl hb6 (pv (J8 rfl rfl rfl) (pv (V1 rfl hb6 rfl) (wlR (fun J=>hk J _ (by rw [hb6]; rfl)) ⟨rfl,rfl,rfl,qZt⟩)))))
      exact  gF2 (d0:=67) rfl rfl (by rw [hb6]; rfl) (pv (V2 rfl hb6 rfl) (wlR (fun J=>hk J _ (by rw [hb6]; rfl)) ⟨rfl,rfl,rfl,qZt⟩))
    refine cd hm ?_ ?_ <;> intro hb7 hm
    · exact je hm (hS6.sel (Q9 0 5) rfl)
    exact je hm (hS6.sel (Q9 0 5) rfl)
  rintro _ w7 ⟨T7,x4,J,hm,rfl,hS7,im7⟩
  refine F0 hm (fun kk3 a w8 => ∃ T8 x5,JR (nf 83) g T7 w7 a w8 T8 (kk3 x5=some r) [(9,iv x5)] ([Q3 R]++Z8 p0 X4 a1 c1 a2 n1 c2 a3 c3 a4 n2 c4 a5 n3 c5)) (fun kk3 hm => ?_) ?_
  · refine sq2 (pu ?_)
    refine fkN (d:=78) (c:=((p1 == 12)&&(decide (32768≤x4)))) 3 [(9,iv x4)] rfl (fun hk => ?_) fun J => ?_
    · rcases Bool.eq_false_or_eq_true (p1 == 12) with hb8 | hb8
      · exact  gT (d0:=75) rfl rfl hb8 (pv (N2 rfl) (gT (d0:=75) rfl rfl hb8 (pv (J8 rfl rfl rfl) (pv (V1 rfl hb8 rfl) (wlR (fun J=>hk J _ (by rw [hb8]; rfl)) ⟨rfl,rfl,qZt⟩)))))
      exact  gF2 (d0:=75) rfl rfl (by rw [hb8]; rfl) (pv (V2 rfl hb8 rfl) (wlR (fun J=>hk J _ (by rw [hb8]; rfl)) ⟨rfl,rfl,qZt⟩))
    refine cd hm ?_ ?_ <;> intro hb9 hm
    · exact je hm (hS7.sel (Q9 0 5) rfl)
    exact je hm (hS7.sel (Q9 0 5) rfl)
  rintro _ w8 ⟨T8,x5,J,hm,rfl,hS8,im8⟩
  refine sq2 (pu ?_)
  refine cB Q8h hm (V9 (hS8.bun (Q9 0 5) [] rfl)) ?_
  rintro y3 _ T9 w9 im9 ⟨rfl,hS9,_⟩ hm
  exact re hm (hS9.sel (Q9 0 5) rfl)

theorem Q2p {p0:Q0} {X3 Y8:Nat} {X4:List Value→Z4} {a1 c1 a2 n1 c2 a3 c3 a4 n2 c4 a5 n3 c5 p1 p2 p3} (hS:Sep g T0 w0 ([Q3 R]++Z8 p0 X4 a1 c1 a2 n1 c2 a3 c3 a4 n2 c4 a5 n3 c5)) (Z6:Ln X3 Y8 X4) (h1:SlR (Q2 .u32) T0 w0 (sv a1 p0.Code c1) p0.Code) (h2:SlR (Q2 .u32) T0 w0 (sv a3 p0.Inputs c3) p0.Inputs) : ∀ r,G8 p0 p1 p2 p3=some r →
    Calls Tryz.prog 62 #[pt X3 Y8,iv p1,iv p2,.int .u32 p3] w0 (Y4 T0 w0 fun T w v => ∃ a8 c8 a9 c9 a10 n6 c10,v = .bool r.1∧Sep g T w (R++Z8 r.2 X4 a8 c8 a2 n1 c2 a9 c9 a4 n2 c4 a10 n6 c10)∧SlR (Q2 .u32) T w (sv a8 r.2.Code c8) r.2.Code∧SlR (Q2 .u32) T w (sv a9 r.2.Inputs c9) r.2.Inputs∧True):=by
  intro r hm
  refine enter Tryz.func62 rfl Tryz.ntmps62 rfl fun J => ?_
  unfold G8 at hm
  refine sq2 (pn ?_)
  refine sq2 (pn ?_)
  refine sq2 (sq2 (pu ?_))
  refine fkN (d:=20) (c:=((p1 == 18)&&((IntKind.wrap .i64 (p2 - 536870912)) == 0))) 3 [(0,pt X3 Y8),(1,iv p1),(2,iv p2),(3,.int .u32 p3),(9,iv (IntKind.wrap .i64 (p2 - 536870912)))] rfl (fun hk => ?_) fun J => ?_
  · rcases Bool.eq_false_or_eq_true (p1 == 18) with hb1 | hb1
    · exact  gT (d0:=17) rfl rfl hb1 (pv (N2 rfl) (gT (d0:=17) rfl rfl hb1 (pv (J8 rfl rfl rfl) (pv (V1 rfl hb1 rfl) (wlR (fun J=>hk J _ (by rw [hb1]; rfl)) ⟨rfl,rfl,rfl,rfl,rfl,rfl,qZt⟩)))))
    exact  gF2 (d0:=17) rfl rfl (by rw [hb1]; rfl) (pv (V2 rfl hb1 rfl) (wlR (fun J=>hk J _ (by rw [hb1]; rfl)) ⟨rfl,rfl,rfl,rfl,rfl,rfl,qZt⟩))
  refine cd hm ?_ ?_ <;> intro hb2 hm
  · refine sq2 (sB 1 5 Z6 hS ?_)
    intro w1 im1 hS1
    refine pn ?_
    exact sq2 (re hm (hS1.sel (Q9 0 5) rfl))
  refine pn ?_
  refine sq2 (F0 hm (fun kk1 a w2 => ∃ T1 x1,JR (nf 97) g T0 w0 a w2 T1 (kk1 x1=some r) [(0,pt X3 Y8),(1,iv p1),(2,iv p2),(3,.int .u32 p3),(9,iv (IntKind.wrap .i64 (p2 - 536870912))),(30,.bool x1)] ([Q3 R]++Z8 p0 X4 a1 c1 a2 n1 c2 a3 c3 a4 n2 c4 a5 n3 c5)) (fun kk1 hm => ?_) ?_)
  · refine pu ?_
    refine fkN (d:=30) (c:=((p1 == 18)&&((IntKind.wrap .i64 (p2 - 536870912)) == 4))) 3 [(0,pt X3 Y8),(1,iv p1),(2,iv p2),(3,.int .u32 p3),(9,iv (IntKind.wrap .i64 (p2 - 536870912)))] rfl (fun hk => ?_) fun J => ?_
    · rcases Bool.eq_false_or_eq_true (p1 == 18) with hb3 | hb3
      · exact  gT (d0:=27) rfl rfl hb3 (pv (N2 rfl) (gT (d0:=27) rfl rfl hb3 (pv (J8 rfl rfl rfl) (pv (V1 rfl hb3 rfl) (wlR (fun J=>hk J _ (by rw [hb3]; rfl)) ⟨rfl,rfl,rfl,rfl,rfl,rfl,qZt⟩)))))
      exact  gF2 (d0:=27) rfl rfl (by rw [hb3]; rfl) (pv (V2 rfl hb3 rfl) (wlR (fun J=>hk J _ (by rw [hb3]; rfl)) ⟨rfl,rfl,rfl,rfl,rfl,rfl,qZt⟩))
    exact je hm (hS.sel (Q9 0 5) rfl)
  rintro _ w2 ⟨T1,x1,J,hm,rfl,hS2,im2⟩
  refine cd hm ?_ ?_ <;> intro hb4 hm
  · refine sq2 (rsS [0,0,0,0,1,0,0,0,1,0,0,2,2,0,0,2] [0,1,2,3,4,5,6,7,8,9,10,11,12,13,14,15] hS2 fun w3 im3 hS3 => ?_)
    refine pu ?_
    refine s0 rfl qZt (fun _=>U3 (by kernel_rfl) rfl (u := .agg #[.int .u32 p0.Seq,.int .u32 p3])) rfl ?_
    refine s2W [0] ?_
    refine obS (r:=Z1) (l:=([(⟨p0.Seq,p3⟩:K8)]:List K8)) (css := [[.int .u32 p0.Seq,.int .u32 p3]]) hS3 ⟨(Q8s (x:=(⟨p0.Seq,p3⟩:K8))  : Z1.rp _ _ _ _),qZt⟩ ?_
    intro w4 a6 n4 c6 im4 hS4
    refine pu ?_
    obtain⟨z_1,hro1,hm⟩:=Q4 hm
    refine s2W [0] ?_
    refine oaO 5 hS4 (Q2m hro1) ?_
    intro w5 a7 n5 c7 im5 hS5
    refine s2W [] ?_
    refine osB 2 7 Z6 hS5 ?_
    intro w6 im6 hS6
    refine pn ?_
    exact sq2 (re hm (hS6.sel (Q9 1 5) rfl))
  refine pn ?_
  refine sq2 (sq2 (pu ?_))
  refine fkN (d:=51) (c:=((p1 == 18)&&((IntKind.wrap .i64 (p2 - 536870912)) == 8))) 3 [(0,pt X3 Y8),(1,iv p1),(2,iv p2),(3,.int .u32 p3),(9,iv (IntKind.wrap .i64 (p2 - 536870912)))] rfl (fun hk => ?_) fun J => ?_
  · rcases Bool.eq_false_or_eq_true (p1 == 18) with hb5 | hb5
    · exact  gT (d0:=48) rfl rfl hb5 (pv (N2 rfl) (gT (d0:=48) rfl rfl hb5 (pv (J8 rfl rfl rfl) (pv (V1 rfl hb5 rfl) (wlR (fun J=>hk J _ (by rw [hb5]; rfl)) ⟨rfl,rfl,rfl,rfl,rfl,rfl,qZt⟩)))))
    exact  gF2 (d0:=48) rfl rfl (by rw [hb5]; rfl) (pv (V2 rfl hb5 rfl) (wlR (fun J=>hk J _ (by rw [hb5]; rfl)) ⟨rfl,rfl,rfl,rfl,rfl,rfl,qZt⟩))
  refine cd hm ?_ ?_ <;> intro hb6 hm
  · refine sq2 (sB 1 6 Z6 hS2 ?_)
    intro w7 im7 hS7
    refine pn ?_
    exact sq2 (re hm (hS7.sel (Q9 0 5) rfl))
  refine pn ?_
  refine sq2 (sq2 (pu ?_))
  refine fkN (d:=61) (c:=((p1 == 18)&&((IntKind.wrap .i64 (p2 - 536870912)) == 16))) 3 [(0,pt X3 Y8),(1,iv p1),(2,iv p2),(3,.int .u32 p3)] rfl (fun hk => ?_) fun J => ?_
  · rcases Bool.eq_false_or_eq_true (p1 == 18) with hb7 | hb7
    · exact  gT (d0:=58) rfl rfl hb7 (pv (N2 rfl) (gT (d0:=58) rfl rfl hb7 (pv (J8 rfl rfl rfl) (pv (V1 rfl hb7 rfl) (wlR (fun J=>hk J _ (by rw [hb7]; rfl)) ⟨rfl,rfl,rfl,rfl,rfl,qZt⟩)))))
    exact  gF2 (d0:=58) rfl rfl (by rw [hb7]; rfl) (pv (V2 rfl hb7 rfl) (wlR (fun J=>hk J _ (by rw [hb7]; rfl)) ⟨rfl,rfl,rfl,rfl,rfl,qZt⟩))
  refine cd hm ?_ ?_ <;> intro hb8 hm
  · refine sq2 (sB 1 9 Z6 hS2 ?_)
    intro w8 im8 hS8
    refine pn ?_
    refine sq2 (sB 1 10 Z6 hS8 ?_)
    intro w9 im9 hS9
    refine pn ?_
    exact sq2 (re hm (hS9.sel (Q9 0 5) rfl))
  refine pn ?_
  refine sq2 (pu ?_)
  refine cB cf105 hm (Q4i (hS2.bun (Q9 0 5) [] rfl)) ?_
  rintro y1 _ T2 w10 im10 ⟨rfl,hS10,_⟩ hm
  refine pn ?_
  refine sq2 (sq2 (pu ?_))
  refine cB cf106 hm (Q0a (hS10.bun [0] (Q9 1 4) rfl) Z6 (h1.mono ch) (h2.mono ch)) ?_
  rintro y2 _ T3 w11 im11 ⟨rfl,hS11,_⟩ hm
  refine cd hm ?_ ?_ <;> intro hb9 hm
  · exact sq2 (re hm (hS11.sel (Q9 0 5) rfl))
  refine pn ?_
  refine sq2 (pn ?_)
  refine sq2 (sq2 (pn ?_))
  refine lpJ hm (fun bd1 o1 m a w12 => ∃(T4:_) (x2:List Int) (x3:_) (x4:_),JR (nf 97) g T3 w11 a w12 T4 (Y9 bd1 m (x2,x3,x4)=some o1) [(0,pt X3 Y8),(2,iv p2),(10,iv y1),(11,iv x3),(12,iv x4)] ([Q3 R]++Z8 ({p0 with Data:=x2}) X4 a1 c1 a2 n1 c2 a3 c3 a4 n2 c4 a5 n3 c5)) (fun _ _ h=>je h (hS11.sel (Q9 0 5) rfl)) ?_
  rintro bd1 hbd1 o1 hq1 _ _ w12 ⟨T4,x2,x3,x4,J,ho1,rfl,hS12,im12⟩
  obtain⟨m1,z1,rfl,hm,hn1⟩:=lrE ho1 hbd1
  refine sq2 (sq2 (cd hm ?_ ?_)) <;> intro hb10 hm
  · refine pn ?_
    refine sq2 (blk (sq2 ?_))
    obtain⟨u1,hx3,hm⟩:=Q4 hm
    obtain⟨u2,hx4,hm⟩:=Q4 hm
    obtain rfl:u1=u2:=oI (hx3.symm.trans hx4)
    refine pu ?_
    refine wl rfl (stOc (q:=2) (j:=0) (u' := IntKind.wrap .u8 (Int.tmod x3 256)) hS12 ⟨rfl,rfl⟩ hx4 rfl rfl rfl sizeOf5 rfl rfl rfl (fun c0 hc0=>by rw [B8 (r:=(Q2 .u8)) hc0 rfl]; exact rfl) fun w13 im13 hS13 => ?_)
    refine pn ?_
    exact lg hm hn1 (hS13.sel (Q9 0 5) rfl)
  have hm:=Q3s hm hn1 hq1
  refine pn ?_
  exact sq2 (re hm (hS12.sel (Q9 0 5) rfl))

theorem Z3z {p0 p1} (hS:Sep g T0 w0 [Q3 R])  : ∀ r,Q0s p0 p1=some r →
    Calls Tryz.prog 107 #[.int .u32 p0,.int .u32 p1] w0 (Y4 T0 w0 fun T w v=>v = .int .u32 r∧Sep g T w (R ++ [])∧True):=by
  intro r hm
  refine enter Tryz.func107 rfl Tryz.ntmps107 rfl fun J => ?_
  unfold Q0s at hm
  refine sq2 (pn ?_)
  refine sq2 (pu ?_)
  refine cB Q8h hm (V9 (hS.bun [0] [] rfl)) ?_
  rintro y1 _ T1 w1 im1 ⟨rfl,hS1,_⟩ hm
  exact re hm (hS1.sel [0] rfl)

theorem Q2b {p0 p1} (hS:Sep g T0 w0 [Q3 R])  : ∀ r,I1 p0 p1=some r →
    Calls Tryz.prog 108 #[.int .u32 p0,.int .u32 p1] w0 (Y4 T0 w0 fun T w v=>v = .int .u32 r∧Sep g T w (R ++ [])∧True):=by
  intro r hm
  refine enter Tryz.func108 rfl Tryz.ntmps108 rfl fun J => ?_
  unfold I1 at hm
  refine sq2 (pn ?_)
  refine sq2 (pu ?_)
  refine cB Q8h hm (V9 (hS.bun [0] [] rfl)) ?_
  rintro y1 _ T1 w1 im1 ⟨rfl,hS1,_⟩ hm
  exact re hm (hS1.sel [0] rfl)

theorem A0 {p0} (hS:Sep g T0 w0 [Q3 R])  : ∀ r,B5 p0=some r →
    Calls Tryz.prog 177 #[.int .u32 p0] w0 (Y4 T0 w0 fun T w v=>v=iv r∧Sep g T w (R ++ [])∧True):=by
  intro r hm
  refine enter Tryz.func177 rfl Tryz.ntmps177 rfl fun J => ?_
  unfold B5 at hm
  refine sq2 (pn ?_)
  refine sq2 (pn ?_)
  refine sq2 (sq2 (pn ?_))
  refine lpJ hm (fun bd1 o1 m a w1 => ∃ T1 x1 x2,JR (nf 15) g T0 w0 a w1 T1 (Y9 bd1 m (x1,x2)=some o1) [(0,.int .u32 p0),(3,iv x1),(4,iv x2)] [Q3 R]) (fun _ _ h=>je h (hS.sel [0] rfl)) ?_
  rintro bd1 hbd1 o1 hq1 _ _ w1 ⟨T1,x1,x2,J,ho1,rfl,hS1,im1⟩
  obtain⟨m1,z1,rfl,hm,hn1⟩:=lrE ho1 hbd1
  refine sq2 (sq2 (cd hm ?_ ?_)) <;> intro hb1 hm
  · refine pn ?_
    exact sq2 (blk (lg hm hn1 (hS1.sel [0] rfl)))
  have hm:=Q3s hm hn1 hq1
  refine pn ?_
  exact sq2 (re hm (hS1.sel [0] rfl))

theorem Z1h {p0 p1} (hS:Sep g T0 w0 [Q3 R])  : ∀ r,R8 p0 p1=some r →
    Calls Tryz.prog 109 #[.int .u32 p0,.int .u32 p1] w0 (Y4 T0 w0 fun T w v=>v = .int .u32 r∧Sep g T w (R ++ [])∧True):=by
  intro r hm
  refine enter Tryz.func109 rfl Tryz.ntmps109 rfl fun J => ?_
  unfold R8 at hm
  refine sq2 (pn ?_)
  refine sq2 (rsS [0,0,0,2,0,0,0,2,0,2,0] [0,1,2,6,3,4,5,7,8,9,10] hS fun w1 im1 hS1 => ?_)
  obtain⟨y1,hx1,hm⟩:=Q4 hm
  refine sS [] cf177 (A0 (hS1.bun [0] [] rfl) _ hx1) ?_
  rintro _ T1 w2 im2 ⟨rfl,hS2,_⟩
  refine pu ?_
  obtain⟨_,hz1,hm⟩:=Q4 hm
  have hz1:=D3 hz1
  obtain⟨_,hz2,hm⟩:=Q4 hm
  have hz2:=D3 hz2
  obtain⟨y2,hx2,hm⟩:=Q4 hm
  refine s0 rfl qZt (fun _=>r_iq rfl rfl hz1) rfl (s0 rfl qZt (fun _=>Q3u rfl rfl hz2) rfl (sS [] cf177 (A0 (hS2.bun [0] [] rfl) _ hx2) ?_))
  rintro _ T2 w3 im3 ⟨rfl,hS3,_⟩
  refine pu ?_
  obtain⟨y3,hx3,hm⟩:=Q4 hm
  refine sS [] Q8h (V9 (hS3.bun [0] [] rfl) _ hx3) ?_
  rintro _ T3 w4 im4 ⟨rfl,hS4,_⟩
  exact re hm (hS4.sel [0] rfl)

theorem Z1g {p0 p1} (hS:Sep g T0 w0 [Q3 R])  : ∀ r,Q1e p0 p1=some r →
    Calls Tryz.prog 110 #[.int .u32 p0,.int .u32 p1] w0 (Y4 T0 w0 fun T w v=>v = .int .u32 r∧Sep g T w (R ++ [])∧True):=by
  intro r hm
  refine enter Tryz.func110 rfl Tryz.ntmps110 rfl fun J => ?_
  unfold Q1e at hm
  refine sq2 (pn ?_)
  refine sq2 (sq2 (pu ?_))
  refine cB Q4z hm (V0 (hS.bun [0] [] rfl)) ?_
  rintro y1 _ T1 w1 im1 ⟨rfl,hS1,_⟩ hm
  refine pu ?_
  refine cB Q4z hm (V0 (hS1.bun [0] [] rfl)) ?_
  rintro y2 _ T2 w2 im2 ⟨rfl,hS2,_⟩ hm
  refine cd hm ?_ ?_ <;> intro hb1 hm
  · exact sq2 (re hm (hS2.sel [0] rfl))
  refine pn ?_
  exact sq2 (re hm (hS2.sel [0] rfl))

theorem Q9u {p0 p1} (hS:Sep g T0 w0 [Q3 R])  : ∀ r,Q0d p0 p1=some r →
    Calls Tryz.prog 111 #[.int .u32 p0,.int .u32 p1] w0 (Y4 T0 w0 fun T w v=>v = .int .u32 r∧Sep g T w (R ++ [])∧True):=by
  intro r hm
  refine enter Tryz.func111 rfl Tryz.ntmps111 rfl fun J => ?_
  unfold Q0d at hm
  refine sq2 (pn ?_)
  refine sq2 (sq2 (cd hm ?_ ?_)) <;> intro hb1 hm
  · exact sq2 (re hm (hS.sel [0] rfl))
  refine pn ?_
  exact sq2 (re hm (hS.sel [0] rfl))

theorem Q9t {p0 p1} (hS:Sep g T0 w0 [Q3 R])  : ∀ r,Q0c p0 p1=some r →
    Calls Tryz.prog 112 #[.int .u32 p0,.int .u32 p1] w0 (Y4 T0 w0 fun T w v=>v = .int .u32 r∧Sep g T w (R ++ [])∧True):=by
  intro r hm
  refine enter Tryz.func112 rfl Tryz.ntmps112 rfl fun J => ?_
  unfold Q0c at hm
  refine sq2 (pn ?_)
  refine sq2 (pu ?_)
  refine cB cf177 hm (A0 (hS.bun [0] [] rfl)) ?_
  rintro y1 _ T1 w1 im1 ⟨rfl,hS1,_⟩ hm
  obtain⟨_,hz1,hm⟩:=Q4 hm
  have hz1:=D3 hz1
  exact pv (r_iq rfl rfl hz1) (re hm (hS1.sel [0] rfl))

theorem Q7w {p0 p1} (hS:Sep g T0 w0 [Q3 R])  : ∀ r,C0 p0 p1=some r →
    Calls Tryz.prog 113 #[.int .u32 p0,.int .u32 p1] w0 (Y4 T0 w0 fun T w v=>v = .int .u32 r∧Sep g T w (R ++ [])∧True):=by
  intro r hm
  refine enter Tryz.func113 rfl Tryz.ntmps113 rfl fun J => ?_
  unfold C0 at hm
  refine sq2 (pn ?_)
  refine sq2 (pu ?_)
  refine cB Q4z hm (V0 (hS.bun [0] [] rfl)) ?_
  rintro y1 _ T1 w1 im1 ⟨rfl,hS1,_⟩ hm
  refine pu ?_
  refine cB cf177 hm (A0 (hS1.bun [0] [] rfl)) ?_
  rintro y2 _ T2 w2 im2 ⟨rfl,hS2,_⟩ hm
  refine pn ?_
  refine sq2 ?_
  obtain⟨_,hz1,hm⟩:=Q4 hm
  have hz1:=D3 hz1
  refine pu ?_
  refine pv (r_iq rfl rfl hz1) (pn ?_)
  refine F0 hm (fun kk1 a w3 => ∃ T3 x1,JR (nf 28) g T2 w2 a w3 T3 (kk1 x1=some r) [(7,iv x1)] [Q3 R]) (fun kk1 hm => ?_) ?_
  · refine sq2 (pu ?_)
    rcases bc hm with ⟨hb1,hm⟩ | ⟨hb1,hm⟩
    · refine cd hm ?_ ?_ <;> intro hb2 hm
      · exact je hm (hS2.sel [0] rfl)
      exact je hm (hS2.sel [0] rfl)
    refine pn ?_
    refine cnd (b:=false) rfl (fun h=>nomatch h) (fun _ => ?_)
    exact je hm (hS2.sel [0] rfl)
  rintro _ w3 ⟨T3,x1,J,hm,rfl,hS3,im3⟩
  refine sq2 (pu ?_)
  refine cB Q8h hm (V9 (hS3.bun [0] [] rfl)) ?_
  rintro y3 _ T4 w4 im4 ⟨rfl,hS4,_⟩ hm
  exact re hm (hS4.sel [0] rfl)

theorem Q4j {p0 p1} (hS:Sep g T0 w0 [Q3 R])  : ∀ r,A4 p0 p1=some r →
    Calls Tryz.prog 309 #[.int .u32 p0,.int .u32 p1] w0 (Y4 T0 w0 fun T w v=>v = .tuple #[.int .u32 r.1,.int .u32 r.2]∧Sep g T w (R ++ [])∧True):=by
  intro r hm
  refine enter Tryz.func309 rfl Tryz.ntmps309 rfl fun J => ?_
  unfold A4 at hm
  refine sq2 (pn ?_)
  refine sq2 (pn ?_)
  refine sq2 (pn ?_)
  refine sq2 (pu ?_)
  refine nil (Z5s ?_)
  refine sq2 (pu ?_)
  refine nil (Z3 [(6,iv (Int.tmod (IntKind.wrap .i64 p0) 65536)),(7,iv (IntKind.wrap .i64 (Int.tdiv (IntKind.wrap .i64 p0) 65536))),(9,iv (IntKind.wrap .i64 (Int.tdiv (IntKind.wrap .i64 p1) 65536))),(10,iv (IntKind.wrap .i64 ((Int.tmod (IntKind.wrap .i64 p0) 65536) * (Int.tmod (IntKind.wrap .i64 p1) 65536)))),(11,iv (IntKind.wrap .i64 ((IntKind.wrap .i64 ((IntKind.wrap .i64 (Int.tdiv (IntKind.wrap .i64 p0) 65536)) * (Int.tmod (IntKind.wrap .i64 p1) 65536)))+(IntKind.wrap .i64 (Int.tdiv (IntKind.wrap .i64 ((Int.tmod (IntKind.wrap .i64 p0) 65536) * (Int.tmod (IntKind.wrap .i64 p1) 65536))) 65536)))))] ⟨rfl,rfl,rfl,rfl,rfl,qZt⟩ fun J => ?_)
  refine sq2 (pu ?_)
  refine nil (Z5s ?_)
  refine sq2 (pu ?_)
  refine nil (Z3 [(4,.int .u32 (IntKind.wrap .u32 (IntKind.wrap .i64 ((IntKind.wrap .i64 ((IntKind.wrap .i64 ((IntKind.wrap .i64 (Int.tdiv (IntKind.wrap .i64 p0) 65536)) * (IntKind.wrap .i64 (Int.tdiv (IntKind.wrap .i64 p1) 65536))))+(IntKind.wrap .i64 (Int.tdiv (IntKind.wrap .i64 ((IntKind.wrap .i64 ((IntKind.wrap .i64 (Int.tdiv (IntKind.wrap .i64 p0) 65536)) * (Int.tmod (IntKind.wrap .i64 p1) 65536)))+(IntKind.wrap .i64 (Int.tdiv (IntKind.wrap .i64 ((Int.tmod (IntKind.wrap .i64 p0) 65536) * (Int.tmod (IntKind.wrap .i64 p1) 65536))) 65536)))) 65536))))+(IntKind.wrap .i64 (Int.tdiv (IntKind.wrap .i64 ((IntKind.wrap .i64 ((Int.tmod (IntKind.wrap .i64 p0) 65536) * (IntKind.wrap .i64 (Int.tdiv (IntKind.wrap .i64 p1) 65536))))+(Int.tmod (IntKind.wrap .i64 ((IntKind.wrap .i64 ((IntKind.wrap .i64 (Int.tdiv (IntKind.wrap .i64 p0) 65536)) * (Int.tmod (IntKind.wrap .i64 p1) 65536)))+(IntKind.wrap .i64 (Int.tdiv (IntKind.wrap .i64 ((Int.tmod (IntKind.wrap .i64 p0) 65536) * (Int.tmod (IntKind.wrap .i64 p1) 65536))) 65536)))) 65536))) 65536)))))),(5,.int .u32 (IntKind.wrap .u32 (IntKind.wrap .i64 ((IntKind.wrap .i64 ((Int.tmod (IntKind.wrap .i64 ((IntKind.wrap .i64 ((Int.tmod (IntKind.wrap .i64 p0) 65536) * (IntKind.wrap .i64 (Int.tdiv (IntKind.wrap .i64 p1) 65536))))+(Int.tmod (IntKind.wrap .i64 ((IntKind.wrap .i64 ((IntKind.wrap .i64 (Int.tdiv (IntKind.wrap .i64 p0) 65536)) * (Int.tmod (IntKind.wrap .i64 p1) 65536)))+(IntKind.wrap .i64 (Int.tdiv (IntKind.wrap .i64 ((Int.tmod (IntKind.wrap .i64 p0) 65536) * (Int.tmod (IntKind.wrap .i64 p1) 65536))) 65536)))) 65536))) 65536) * 65536))+(Int.tmod (IntKind.wrap .i64 ((Int.tmod (IntKind.wrap .i64 p0) 65536) * (Int.tmod (IntKind.wrap .i64 p1) 65536))) 65536)))))] ⟨rfl,rfl,qZt⟩ fun J => ?_)
  exact re hm (hS.sel [0] rfl)

theorem Z3x {p0 p1} (hS:Sep g T0 w0 [Q3 R])  : ∀ r,Q0r p0 p1=some r →
    Calls Tryz.prog 178 #[.int .u32 p0,.int .u32 p1] w0 (Y4 T0 w0 fun T w v=>v = .int .u32 r∧Sep g T w (R ++ [])∧True):=by
  intro r hm
  refine enter Tryz.func178 rfl Tryz.ntmps178 rfl fun J => ?_
  unfold Q0r at hm
  refine sq2 (pn ?_)
  refine sq2 (pu ?_)
  refine cB cf309 hm (Q4j (hS.bun [0] [] rfl)) ?_
  rintro y1 _ T1 w1 im1 ⟨rfl,hS1,_⟩ hm
  refine pn ?_
  exact sq2 (re hm (hS1.sel [0] rfl))

theorem Q3t {p0 p1} (hS:Sep g T0 w0 [Q3 R])  : ∀ r,M1 p0 p1=some r →
    Calls Tryz.prog 181 #[.int .u32 p0,.int .u32 p1] w0 (Y4 T0 w0 fun T w v=>v = .int .u32 r∧Sep g T w (R ++ [])∧True):=by
  intro r hm
  refine enter Tryz.func181 rfl Tryz.ntmps181 rfl fun J => ?_
  unfold M1 at hm
  refine sq2 (pn ?_)
  refine sq2 (pu ?_)
  refine cB cf309 hm (Q4j (hS.bun [0] [] rfl)) ?_
  rintro y1 _ T1 w1 im1 ⟨rfl,hS1,_⟩ hm
  refine pn ?_
  exact sq2 (re hm (hS1.sel [0] rfl))

theorem Q2q {p0 p1} (hS:Sep g T0 w0 [Q3 R])  : ∀ r,B9 p0 p1=some r →
    Calls Tryz.prog 180 #[.int .u32 p0,.int .u32 p1] w0 (Y4 T0 w0 fun T w v=>v = .int .u32 r∧Sep g T w (R ++ [])∧True):=by
  intro r hm
  refine enter Tryz.func180 rfl Tryz.ntmps180 rfl fun J => ?_
  unfold B9 at hm
  refine sq2 (pn ?_)
  refine sq2 (pu ?_)
  refine cB cf181 hm (Q3t (hS.bun [0] [] rfl)) ?_
  rintro y1 _ T1 w1 im1 ⟨rfl,hS1,_⟩ hm
  refine pn ?_
  refine sq2 (sq2 (pu ?_))
  refine cB Q4z hm (V0 (hS1.bun [0] [] rfl)) ?_
  rintro y2 _ T2 w2 im2 ⟨rfl,hS2,_⟩ hm
  refine cd hm ?_ ?_ <;> intro hb1 hm
  · refine sq2 (pu ?_)
    refine cB cf108 hm (Q2b (hS2.bun [0] [] rfl)) ?_
    rintro y3 _ T3 w3 im3 ⟨rfl,hS3,_⟩ hm
    exact re hm (hS3.sel [0] rfl)
  refine pn ?_
  exact sq2 (re hm (hS2.sel [0] rfl))

theorem Z1i {p0 p1} (hS:Sep g T0 w0 [Q3 R])  : ∀ r,R9 p0 p1=some r →
    Calls Tryz.prog 179 #[.int .u32 p0,.int .u32 p1] w0 (Y4 T0 w0 fun T w v=>v = .int .u32 r∧Sep g T w (R ++ [])∧True):=by
  intro r hm
  refine enter Tryz.func179 rfl Tryz.ntmps179 rfl fun J => ?_
  unfold R9 at hm
  refine sq2 (pn ?_)
  refine sq2 (pu ?_)
  refine cB cf180 hm (Q2q (hS.bun [0] [] rfl)) ?_
  rintro y1 _ T1 w1 im1 ⟨rfl,hS1,_⟩ hm
  refine pn ?_
  refine sq2 (sq2 (pu ?_))
  refine cB Q4z hm (V0 (hS1.bun [0] [] rfl)) ?_
  rintro y2 _ T2 w2 im2 ⟨rfl,hS2,_⟩ hm
  refine cd hm ?_ ?_ <;> intro hb1 hm
  · refine sq2 (pu ?_)
    refine cB cf108 hm (Q2b (hS2.bun [0] [] rfl)) ?_
    rintro y3 _ T3 w3 im3 ⟨rfl,hS3,_⟩ hm
    exact re hm (hS3.sel [0] rfl)
  refine pn ?_
  exact sq2 (re hm (hS2.sel [0] rfl))

theorem W3 {p0} (hS:Sep g T0 w0 [Q3 R])  : ∀ r,H9 p0=some r →
    Calls Tryz.prog 310 #[iv p0] w0 (Y4 T0 w0 fun T w v=>v=iv r∧Sep g T w (R ++ [])∧True):=by
  intro r hm
  refine enter Tryz.func310 rfl Tryz.ntmps310 rfl fun J => ?_
  unfold H9 at hm
  refine sq2 (pn ?_)
  refine sq2 (sq2 (cd hm ?_ ?_)) <;> intro hb1 hm
  · exact sq2 (re hm (hS.sel [0] rfl))
  refine pn ?_
  exact sq2 (re hm (hS.sel [0] rfl))

theorem Z3y {p0 p1} (hS:Sep g T0 w0 [Q3 R])  : ∀ r,S0 p0 p1=some r →
    Calls Tryz.prog 182 #[.int .u32 p0,.int .u32 p1] w0 (Y4 T0 w0 fun T w v=>v = .int .u32 r∧Sep g T w (R ++ [])∧True):=by
  intro r hm
  refine enter Tryz.func182 rfl Tryz.ntmps182 rfl fun J => ?_
  unfold S0 at hm
  refine sq2 (pn ?_)
  refine sq2 (pu ?_)
  refine cB Q4z hm (V0 (hS.bun [0] [] rfl)) ?_
  rintro y1 _ T1 w1 im1 ⟨rfl,hS1,_⟩ hm
  refine pu ?_
  refine cB Q4z hm (V0 (hS1.bun [0] [] rfl)) ?_
  rintro y2 _ T2 w2 im2 ⟨rfl,hS2,_⟩ hm
  refine pn ?_
  refine sq2 (sq2 (cd hm ?_ ?_)) <;> intro hb1 hm
  · exact sq2 (re hm (hS2.sel [0] rfl))
  refine pn ?_
  refine sq2 (pu ?_)
  refine cB cf310 hm (W3 (hS2.bun [0] [] rfl)) ?_
  rintro y3 _ T3 w3 im3 ⟨rfl,hS3,_⟩ hm
  refine pu ?_
  refine cB cf310 hm (W3 (hS3.bun [0] [] rfl)) ?_
  rintro y4 _ T4 w4 im4 ⟨rfl,hS4,_⟩ hm
  obtain⟨_,hz1,hm⟩:=Q4 hm
  have hz1:=D3 hz1
  refine pv (r_iq rfl rfl hz1) (pn ?_)
  refine F0 hm (fun kk1 a w5 => ∃ T5 x1,JR (nf 37) g T4 w4 a w5 T5 (kk1 x1=some r) [(7,iv x1)] [Q3 R]) (fun kk1 hm => ?_) ?_
  · refine sq2 (pu ?_)
    rcases bc hm with ⟨hb2,hm⟩ | ⟨hb2,hm⟩
    · refine pu ?_
      rcases bc hm with ⟨hb3,hm⟩ | ⟨hb3,hm⟩
      · refine pu ?_
        refine nil (Z3 [(7,iv (IntKind.wrap .i64 (Int.tdiv y3 y4))),(32,.bool true)] ⟨rfl,rfl,qZt⟩ fun J => ?_)
        refine cnd (b:=true) rfl (fun _ => ?_) (fun h=>nomatch h)
        exact je hm (hS4.sel [0] rfl)
      refine pu ?_
      rcases bc hm with ⟨hb4,hm⟩ | ⟨hb4,hm⟩
      · refine pu ?_
        refine nil (Z3 [(7,iv (IntKind.wrap .i64 (Int.tdiv y3 y4))),(32,.bool (decide (y2 < 0)))] ⟨rfl,rfl,qZt⟩ fun J => ?_)
        refine cd hm ?_ ?_ <;> intro hb5 hm
        · exact je hm (hS4.sel [0] rfl)
        exact je hm (hS4.sel [0] rfl)
      refine pu ?_
      refine nil (Z3 [(7,iv (IntKind.wrap .i64 (Int.tdiv y3 y4))),(32,.bool false)] ⟨rfl,rfl,qZt⟩ fun J => ?_)
      refine cnd (b:=false) rfl (fun h=>nomatch h) (fun _ => ?_)
      exact je hm (hS4.sel [0] rfl)
    refine pu ?_
    rcases bc hm with ⟨hb8,hm⟩ | ⟨hb8,hm⟩
    · refine pu ?_
      refine nil (Z3 [(7,iv (IntKind.wrap .i64 (Int.tdiv y3 y4))),(32,.bool (decide (y2 < 0)))] ⟨rfl,rfl,qZt⟩ fun J => ?_)
      refine cd hm ?_ ?_ <;> intro hb9 hm
      · exact je hm (hS4.sel [0] rfl)
      exact je hm (hS4.sel [0] rfl)
    refine pu ?_
    refine nil (Z3 [(7,iv (IntKind.wrap .i64 (Int.tdiv y3 y4))),(32,.bool false)] ⟨rfl,rfl,qZt⟩ fun J => ?_)
    refine cnd (b:=false) rfl (fun h=>nomatch h) (fun _ => ?_)
    exact je hm (hS4.sel [0] rfl)
  rintro _ w5 ⟨T5,x1,J,hm,rfl,hS5,im5⟩
  refine sq2 (pu ?_)
  refine cB Q8h hm (V9 (hS5.bun [0] [] rfl)) ?_
  rintro y5 _ T6 w6 im6 ⟨rfl,hS6,_⟩ hm
  exact re hm (hS6.sel [0] rfl)

theorem Z1j {p0 p1} (hS:Sep g T0 w0 [Q3 R])  : ∀ r,Q1f p0 p1=some r →
    Calls Tryz.prog 183 #[.int .u32 p0,.int .u32 p1] w0 (Y4 T0 w0 fun T w v=>v = .int .u32 r∧Sep g T w (R ++ [])∧True):=by
  intro r hm
  refine enter Tryz.func183 rfl Tryz.ntmps183 rfl fun J => ?_
  unfold Q1f at hm
  refine sq2 (pn ?_)
  refine sq2 (sq2 (cd hm ?_ ?_)) <;> intro hb1 hm
  · exact sq2 (re hm (hS.sel [0] rfl))
  refine pn ?_
  refine sq2 ?_
  obtain⟨_,hz1,hm⟩:=Q4 hm
  have hz1:=D3 hz1
  refine pu ?_
  exact pv (r_iq rfl rfl hz1) (re hm (hS.sel [0] rfl))

theorem Z3w {p0 p1} (hS:Sep g T0 w0 [Q3 R])  : ∀ r,R7 p0 p1=some r →
    Calls Tryz.prog 184 #[.int .u32 p0,.int .u32 p1] w0 (Y4 T0 w0 fun T w v=>v = .int .u32 r∧Sep g T w (R ++ [])∧True):=by
  intro r hm
  refine enter Tryz.func184 rfl Tryz.ntmps184 rfl fun J => ?_
  unfold R7 at hm
  refine sq2 (pn ?_)
  refine sq2 (pu ?_)
  refine cB Q4z hm (V0 (hS.bun [0] [] rfl)) ?_
  rintro y1 _ T1 w1 im1 ⟨rfl,hS1,_⟩ hm
  refine pu ?_
  refine cB Q4z hm (V0 (hS1.bun [0] [] rfl)) ?_
  rintro y2 _ T2 w2 im2 ⟨rfl,hS2,_⟩ hm
  refine pn ?_
  refine sq2 (sq2 (cd hm ?_ ?_)) <;> intro hb1 hm
  · exact sq2 (re hm (hS2.sel [0] rfl))
  refine pn ?_
  refine sq2 (pu ?_)
  refine cB cf310 hm (W3 (hS2.bun [0] [] rfl)) ?_
  rintro y3 _ T3 w3 im3 ⟨rfl,hS3,_⟩ hm
  refine pu ?_
  refine cB cf310 hm (W3 (hS3.bun [0] [] rfl)) ?_
  rintro y4 _ T4 w4 im4 ⟨rfl,hS4,_⟩ hm
  obtain⟨_,hz1,hm⟩:=Q4 hm
  have hz1:=D3 hz1
  refine pv (Q3u rfl rfl hz1) (pn ?_)
  refine F0 hm (fun kk1 a w5 => ∃ T5 x1,JR (nf 26) g T4 w4 a w5 T5 (kk1 x1=some r) [(7,iv x1)] [Q3 R]) (fun kk1 hm => ?_) ?_
  · refine sq2 (cd hm ?_ ?_) <;> intro hb2 hm
    · exact je hm (hS4.sel [0] rfl)
    exact je hm (hS4.sel [0] rfl)
  rintro _ w5 ⟨T5,x1,J,hm,rfl,hS5,im5⟩
  refine sq2 (pu ?_)
  refine cB Q8h hm (V9 (hS5.bun [0] [] rfl)) ?_
  rintro y5 _ T6 w6 im6 ⟨rfl,hS6,_⟩ hm
  exact re hm (hS6.sel [0] rfl)

theorem Z1f {p0 p1} (hS:Sep g T0 w0 [Q3 R])  : ∀ r,Q1d p0 p1=some r →
    Calls Tryz.prog 185 #[.int .u32 p0,.int .u32 p1] w0 (Y4 T0 w0 fun T w v=>v = .int .u32 r∧Sep g T w (R ++ [])∧True):=by
  intro r hm
  refine enter Tryz.func185 rfl Tryz.ntmps185 rfl fun J => ?_
  unfold Q1d at hm
  refine sq2 (pn ?_)
  refine sq2 (sq2 (cd hm ?_ ?_)) <;> intro hb1 hm
  · exact sq2 (re hm (hS.sel [0] rfl))
  refine pn ?_
  refine sq2 ?_
  obtain⟨_,hz1,hm⟩:=Q4 hm
  have hz1:=D3 hz1
  refine pu ?_
  exact pv (Q3u rfl rfl hz1) (re hm (hS.sel [0] rfl))

theorem Z1b {p0 p1 p2} (hS:Sep g T0 w0 [Q3 R])  : ∀ r,Q5z p0 p1 p2=some r →
    Calls Tryz.prog 114 #[iv p0,.int .u32 p1,.int .u32 p2] w0 (Y4 T0 w0 fun T w v=>v = .int .u32 r∧Sep g T w (R ++ [])∧True):=by
  intro r hm
  refine enter Tryz.func114 rfl Tryz.ntmps114 rfl fun J => ?_
  unfold Q5z at hm
  refine sq2 (pn ?_)
  refine sq2 (sq2 (cd hm ?_ ?_)) <;> intro hb1 hm
  · refine sq2 (pu ?_)
    refine cB cf178 hm (Z3x (hS.bun [0] [] rfl)) ?_
    rintro y1 _ T1 w1 im1 ⟨rfl,hS1,_⟩ hm
    exact re hm (hS1.sel [0] rfl)
  refine pn ?_
  refine sq2 (sq2 (cd hm ?_ ?_)) <;> intro hb2 hm
  · refine sq2 (pu ?_)
    refine cB cf179 hm (Z1i (hS.bun [0] [] rfl)) ?_
    rintro y2 _ T2 w2 im2 ⟨rfl,hS2,_⟩ hm
    exact re hm (hS2.sel [0] rfl)
  refine pn ?_
  refine sq2 (sq2 (cd hm ?_ ?_)) <;> intro hb3 hm
  · refine sq2 (pu ?_)
    refine cB cf180 hm (Q2q (hS.bun [0] [] rfl)) ?_
    rintro y3 _ T3 w3 im3 ⟨rfl,hS3,_⟩ hm
    exact re hm (hS3.sel [0] rfl)
  refine pn ?_
  refine sq2 (sq2 (cd hm ?_ ?_)) <;> intro hb4 hm
  · refine sq2 (pu ?_)
    refine cB cf181 hm (Q3t (hS.bun [0] [] rfl)) ?_
    rintro y4 _ T4 w4 im4 ⟨rfl,hS4,_⟩ hm
    exact re hm (hS4.sel [0] rfl)
  refine pn ?_
  refine sq2 (sq2 (cd hm ?_ ?_)) <;> intro hb5 hm
  · refine sq2 (pu ?_)
    refine cB cf182 hm (Z3y (hS.bun [0] [] rfl)) ?_
    rintro y5 _ T5 w5 im5 ⟨rfl,hS5,_⟩ hm
    exact re hm (hS5.sel [0] rfl)
  refine pn ?_
  refine sq2 (sq2 (cd hm ?_ ?_)) <;> intro hb6 hm
  · refine sq2 (pu ?_)
    refine cB cf183 hm (Z1j (hS.bun [0] [] rfl)) ?_
    rintro y6 _ T6 w6 im6 ⟨rfl,hS6,_⟩ hm
    exact re hm (hS6.sel [0] rfl)
  refine pn ?_
  refine sq2 (sq2 (cd hm ?_ ?_)) <;> intro hb7 hm
  · refine sq2 (pu ?_)
    refine cB cf184 hm (Z3w (hS.bun [0] [] rfl)) ?_
    rintro y7 _ T7 w7 im7 ⟨rfl,hS7,_⟩ hm
    exact re hm (hS7.sel [0] rfl)
  refine pn ?_
  refine sq2 (pu ?_)
  refine cB cf185 hm (Z1f (hS.bun [0] [] rfl)) ?_
  rintro y8 _ T8 w8 im8 ⟨rfl,hS8,_⟩ hm
  exact re hm (hS8.sel [0] rfl)

theorem Q2n {p0 p1 p2} (hS:Sep g T0 w0 [Q3 R])  : ∀ r,I6 p0 p1 p2=some r →
    Calls Tryz.prog 63 #[iv p0,.int .u32 p1,.int .u32 p2] w0 (Y4 T0 w0 fun T w v=>v = .int .u32 r∧Sep g T w (R ++ [])∧True):=by
  intro r hm
  refine enter Tryz.func63 rfl Tryz.ntmps63 rfl fun J => ?_
  unfold I6 at hm
  refine sq2 (pn ?_)
  refine sq2 (bS (r:=(Q2 .i64)) (l:=([28,31,32,33,36,37,30,34,35]:List Int)) (css := [[iv 28],[iv 31],[iv 32],[iv 33],[iv 36],[iv 37],[iv 30],[iv 34],[iv 35]]) hS ⟨rfl,rfl,rfl,rfl,rfl,rfl,rfl,rfl,rfl,qZt⟩ ?_)
  intro w1 a1 n1 c1 im1 hS1
  refine pn ?_
  refine sq2 (pn ?_)
  refine F0 hm (fun kk1 a w2 => ∃ T1 x1,JR (nf 76) g T0 w1 a w2 T1 (kk1 x1=some r) [(1,.int .u32 p1),(2,.int .u32 p2),(8,iv x1)] [Q3 R]) (fun kk1 hm => ?_) ?_
  · refine sq2 (pu ?_)
    refine fkN (d:=16) (c:=((decide (19≤p0))&&(decide (p0≤27)))) 3 [(0,iv p0),(1,.int .u32 p1),(2,.int .u32 p2),(7,.slice a1 n1 c1),(8,iv p0)] rfl (fun hk => ?_) fun J => ?_
    · rcases Bool.eq_false_or_eq_true (decide (19≤p0)) with hb1 | hb1
      · exact  gT (d0:=13) rfl rfl hb1 (pv (N2 rfl) (gT (d0:=13) rfl rfl hb1 (pv (J8 rfl rfl rfl) (pv (V1 rfl hb1 rfl) (wlR (fun J=>hk J _ (by rw [hb1]; rfl)) ⟨rfl,rfl,rfl,rfl,rfl,rfl,qZt⟩)))))
      exact  gF2 (d0:=13) rfl rfl (by rw [hb1]; rfl) (pv (V2 rfl hb1 rfl) (wlR (fun J=>hk J _ (by rw [hb1]; rfl)) ⟨rfl,rfl,rfl,rfl,rfl,rfl,qZt⟩))
    refine cd hm ?_ ?_ <;> intro hb2 hm
    · obtain⟨u1,hx1,hm⟩:=Q4 hm
      exact je hm (hS1.sel [1] rfl)
    exact je hm (hS1.sel [1] rfl)
  rintro _ w2 ⟨T1,x1,J,hm,rfl,hS2,im2⟩
  refine sq2 (sq2 (cd hm ?_ ?_)) <;> intro hb3 hm
  · refine sq2 (pu ?_)
    refine cB cf107 hm (Z3z (hS2.bun [0] [] rfl)) ?_
    rintro y1 _ T2 w3 im3 ⟨rfl,hS3,_⟩ hm
    exact re hm (hS3.sel [0] rfl)
  refine pn ?_
  refine sq2 (sq2 (cd hm ?_ ?_)) <;> intro hb4 hm
  · refine sq2 (pu ?_)
    refine cB cf108 hm (Q2b (hS2.bun [0] [] rfl)) ?_
    rintro y2 _ T3 w4 im4 ⟨rfl,hS4,_⟩ hm
    exact re hm (hS4.sel [0] rfl)
  refine pn ?_
  refine sq2 (sq2 (cd hm ?_ ?_)) <;> intro hb5 hm
  · refine sq2 (pu ?_)
    refine cB cf109 hm (Z1h (hS2.bun [0] [] rfl)) ?_
    rintro y3 _ T4 w5 im5 ⟨rfl,hS5,_⟩ hm
    exact re hm (hS5.sel [0] rfl)
  refine pn ?_
  refine sq2 (sq2 (cd hm ?_ ?_)) <;> intro hb6 hm
  · refine sq2 (pu ?_)
    refine cB cf110 hm (Z1g (hS2.bun [0] [] rfl)) ?_
    rintro y4 _ T5 w6 im6 ⟨rfl,hS6,_⟩ hm
    exact re hm (hS6.sel [0] rfl)
  refine pn ?_
  refine sq2 (sq2 (cd hm ?_ ?_)) <;> intro hb7 hm
  · refine sq2 (pu ?_)
    refine cB cf111 hm (Q9u (hS2.bun [0] [] rfl)) ?_
    rintro y5 _ T6 w7 im7 ⟨rfl,hS7,_⟩ hm
    exact re hm (hS7.sel [0] rfl)
  refine pn ?_
  refine sq2 (sq2 (cd hm ?_ ?_)) <;> intro hb8 hm
  · exact sq2 (re hm (hS2.sel [0] rfl))
  refine pn ?_
  refine sq2 (sq2 (cd hm ?_ ?_)) <;> intro hb9 hm
  · refine sq2 (pu ?_)
    refine cB cf112 hm (Q9t (hS2.bun [0] [] rfl)) ?_
    rintro y6 _ T7 w8 im8 ⟨rfl,hS8,_⟩ hm
    exact re hm (hS8.sel [0] rfl)
  refine pn ?_
  refine sq2 (sq2 (cd hm ?_ ?_)) <;> intro hb10 hm
  · refine sq2 (pu ?_)
    refine cB cf113 hm (Q7w (hS2.bun [0] [] rfl)) ?_
    rintro y7 _ T8 w9 im9 ⟨rfl,hS9,_⟩ hm
    exact re hm (hS9.sel [0] rfl)
  refine pn ?_
  refine sq2 (sq2 (cd hm ?_ ?_)) <;> intro hb11 hm
  · exact sq2 (re hm (hS2.sel [0] rfl))
  refine pn ?_
  refine sq2 (sq2 (cd hm ?_ ?_)) <;> intro hb12 hm
  · refine sq2 (pu ?_)
    refine nil (Z3 [(6,.int .u32 (bits .and .u32 p1 p2))] ⟨rfl,qZt⟩ fun J => ?_)
    exact re hm (hS2.sel [0] rfl)
  refine pn ?_
  refine sq2 (pu ?_)
  refine cB cf114 hm (Z1b (hS2.bun [0] [] rfl)) ?_
  rintro y8 _ T9 w10 im10 ⟨rfl,hS10,_⟩ hm
  refine pu ?_
  refine nil (Z3 [(6,.int .u32 y8)] ⟨rfl,qZt⟩ fun J => ?_)
  exact re hm (hS10.sel [0] rfl)

theorem Q0b {p0:Q0} {X3 Y8:Nat} {X4:List Value→Z4} {a1 c1 a2 n1 c2 a3 c3 a4 n2 c4 a5 n3 c5} {p1:V4} (hS:Sep g T0 w0 ([Q3 R]++Z8 p0 X4 a1 c1 a2 n1 c2 a3 c3 a4 n2 c4 a5 n3 c5)) (Z6:Ln X3 Y8 X4) (h1:SlR (Q2 .u32) T0 w0 (sv a1 p0.Code c1) p0.Code) (h2:SlR (Q2 .u32) T0 w0 (sv a3 p0.Inputs c3) p0.Inputs) : ∀ r,D6 p0 p1=some r →
    Calls Tryz.prog 31 #[pt X3 Y8,.agg (P1 p1).toArray] w0 (Y4 T0 w0 fun T w v => ∃ a26 c26 a27 c27 a28 n6 c28,v = .bool r.1∧Sep g T w (R++Z8 r.2 X4 a26 c26 a2 n1 c2 a27 c27 a4 n2 c4 a28 n6 c28)∧SlR (Q2 .u32) T w (sv a26 r.2.Code c26) r.2.Code∧SlR (Q2 .u32) T w (sv a27 r.2.Inputs c27) r.2.Inputs∧True):=by
  intro r hm
  refine enter Tryz.func31 rfl Tryz.ntmps31 rfl fun J => ?_
  unfold D6 at hm
  refine sq2 (bX (P1 p1) hS ?_)
  intro w1 b1 im1 hS1
  refine pn ?_
  refine sq2 ?_
  obtain⟨u1,hx1,hm⟩:=Q4 hm
  obtain⟨u2,hx2,hm⟩:=Q4 hm
  refine rqS hS1 (pn ?_)
  intro w2 T1 im2 hS2
  refine pn ?_
  refine sq2 (pu ?_)
  refine cB cf58 hm (I5 (hS2.bun (Q9 0 6) [] rfl)) ?_
  rintro y1 _ T2 w3 im3 ⟨rfl,hS3,_⟩ hm
  refine pn ?_
  refine sq2 (pu ?_)
  refine cB cf58 hm (I5 (hS3.bun (Q9 0 6) [] rfl)) ?_
  rintro y2 _ T3 w4 im4 ⟨rfl,hS4,_⟩ hm
  refine pu ?_
  refine nil (Z3 [(0,pt X3 Y8),(3,pt b1 0),(5,.int .u32 u1),(6,.int .u32 u2),(7,iv y1),(8,iv y2)] ⟨rfl,rfl,rfl,rfl,rfl,rfl,qZt⟩ fun J => ?_)
  refine F0 hm (fun kk1 a w5 => ∃(T4:_) (x5:Q0) (a6:_) (n4:_) (c6:_) (x4:_) (a7:_) (c7:_) (a8:_) (c8:_),JR (nf 165) g T3 w4 a w5 T4 (kk1 x4 x5=some r) [(0,pt X3 Y8),(8,iv x4)] ([Q3 R]++Z8 x5 X4 a7 c7 a2 n1 c2 a8 c8 a4 n2 c4 a6 n4 c6)∧SlR (Q2 .u32) T4 w5 (sv a7 x5.Code c7) x5.Code∧SlR (Q2 .u32) T4 w5 (sv a8 x5.Inputs c8) x5.Inputs) (fun kk1 hm => ?_) ?_
  · refine sq2 (cd hm ?_ ?_) <;> intro hb1 hm
    · refine rsS [0,0,1,0,1,2,2] [0,1,2,3,4,5,6] hS4 fun w6 im6 hS5 => ?_
      obtain⟨y3,hx5,hm⟩:=Q4 hm
      refine sS [(2,iv p1.Rd)] Q8h (V9 (hS5.bun (Q9 1 5 ++ [0]) [] rfl) _ hx5) ?_
      rintro _ T5 w7 im7 ⟨rfl,hS6,_⟩
      refine pu ?_
      obtain⟨y4,hx6,hm⟩:=Q4 hm
      refine sS [] cf59 (U2 (hS6.bun [0,5] (Q9 1 4) rfl) Z6 (h1.mono ch) (h2.mono ch) _ hx6) ?_
      rintro _ T6 w8 im8 ⟨a9,c9,a10,c10,rfl,hS7,h5,h6,_⟩
      refine pu ?_
      exact je hm (hS7.sel [0,2,3,4,5] rfl)
    refine sq2 (cd hm ?_ ?_) <;> intro hb2 hm
    · refine rsS [0,0,1,0,0,0,1,0,1,0,2,2] [0,1,2,3,4,5,6,7,8,9,10,11] hS4 fun w9 im9 hS8 => ?_
      obtain⟨y5,hx7,hm⟩:=Q4 hm
      refine sS [(2,iv p1.Rd)] Q8h (V9 (hS8.bun (Q9 1 5 ++ [0]) [] rfl) _ hx7) ?_
      rintro _ T7 w10 im10 ⟨rfl,hS9,_⟩
      refine pu ?_
      obtain⟨y6,hx8,hm⟩:=Q4 hm
      refine sS [] cf59 (U2 (hS9.bun [0,5] (Q9 1 4) rfl) Z6 (h1.mono ch) (h2.mono ch) _ hx8) ?_
      rintro _ T8 w11 im11 ⟨a11,c11,a12,c12,rfl,hS10,h7,h8,_⟩
      refine pu ?_
      exact je hm (hS10.sel [0,2,3,4,5] rfl)
    refine sq2 (cd hm ?_ ?_) <;> intro hb3 hm
    · refine sq2 (pu ?_)
      refine cB cf59 hm (U2 (hS4.bun [0,1] (Q9 2 4) rfl) Z6 (h1.mono ch) (h2.mono ch)) ?_
      rintro y7 _ T9 w12 im12 ⟨a13,c13,a14,c14,rfl,hS11,h9,h10,_⟩ hm
      refine pn ?_
      refine rsS [0,0,0,1,0,1,0,2,0] [0,1,2,3,4,5,6,7,8] hS11 fun w13 im13 hS12 => ?_
      obtain⟨y8,hx10,hm⟩:=Q4 hm
      refine sS [] cf58 (I5 (hS12.bun (Q9 1 5 ++ [0]) [] rfl) _ hx10) ?_
      rintro _ T10 w14 im14 ⟨rfl,hS13,_⟩
      refine pu ?_
      exact je hm (hS13.sel (Q9 0 5) rfl)
    refine sq2 (cd hm ?_ ?_) <;> intro hb4 hm
    · refine sq2 (pu ?_)
      refine cB cf59 hm (U2 (hS4.bun [1] (Q9 2 4) rfl) Z6 (h1.mono ch) (h2.mono ch)) ?_
      rintro y9 _ T11 w15 im15 ⟨a15,c15,a16,c16,rfl,hS14,h11,h12,_⟩ hm
      exact je hm (hS14.sel (Q9 0 5) rfl)
    refine sq2 (cd hm ?_ ?_) <;> intro hb5 hm
    · refine sq2 (pu ?_)
      refine cB cf60 hm (Q9p (hS4.bun (Q9 0 6) [] rfl)) ?_
      rintro y10 _ T12 w16 im16 ⟨rfl,hS15,_⟩ hm
      refine cd hm ?_ ?_ <;> intro hb6 hm
      · refine rsS [0,0,0,1,0,1,0,2,0] [0,1,2,3,4,5,6,7,8] hS15 fun w17 im17 hS16 => ?_
        obtain⟨y11,hx13,hm⟩:=Q4 hm
        refine sS [] cf58 (I5 (hS16.bun (Q9 1 5 ++ [0]) [] rfl) _ hx13) ?_
        rintro _ T13 w18 im18 ⟨rfl,hS17,_⟩
        refine pu ?_
        exact je hm (hS17.sel (Q9 0 5) rfl)
      exact je hm (hS15.sel (Q9 1 5) rfl)
    refine sq2 (cd hm ?_ ?_) <;> intro hb7 hm
    · refine sq2 (pu ?_)
      refine cB cf61 hm (Q3f (hS4.bun [0,1] (Q9 2 4) rfl) Z6 (h1.mono ch) (h2.mono ch)) ?_
      rintro y12 _ T14 w19 im19 ⟨rfl,hS18,_⟩ hm
      refine pu ?_
      refine nil (Z3 [(0,pt X3 Y8),(3,pt b1 0),(8,iv y2),(9,.int .u32 y12.1),(10,.bool y12.2)] ⟨rfl,rfl,rfl,rfl,rfl,qZt⟩ fun J => ?_)
      refine sq2 (sq2 (cd hm ?_ ?_)) <;> intro hb8 hm
      · exact sq2 (re hm (hS18.sel (Q9 1 5) rfl))
      refine pn ?_
      refine cB cf59 hm (U2 (hS18.bun [1] (Q9 2 4) rfl) Z6 (h1.mono ch) (h2.mono ch)) ?_
      rintro y13 _ T15 w20 im20 ⟨a17,c17,a18,c18,rfl,hS19,h13,h14,_⟩ hm
      exact je hm (hS19.sel (Q9 0 5) rfl)
    refine sq2 (cd hm ?_ ?_) <;> intro hb9 hm
    · refine sq2 (pu ?_)
      refine cB cf62 hm (Q2p (hS4.bun [1] (Q9 2 4) rfl) Z6 (h1.mono ch) (h2.mono ch)) ?_
      rintro y14 _ T16 w21 im21 ⟨a19,c19,a20,c20,a21,n5,c21,rfl,hS20,h15,h16,_⟩ hm
      refine pu ?_
      refine nil (Z3 [(0,pt X3 Y8),(8,iv y2),(137,.bool (!y14.1))] ⟨rfl,rfl,rfl,qZt⟩ fun J => ?_)
      refine cd hm ?_ ?_ <;> intro hb10 hm
      · exact sq2 (re hm (hS20.sel (Q9 0 5) rfl))
      exact je hm (hS20.sel (Q9 0 5) rfl)
    refine sq2 (cd hm ?_ ?_) <;> intro hb11 hm
    · refine rsS [0,0,1,0,1,0,0,1,2,2,2] [0,1,2,3,4,5,6,7,8,9,10] hS4 fun w22 im22 hS21 => ?_
      obtain⟨y15,hx17,hm⟩:=Q4 hm
      refine sS [(4,iv p1.Op),(2,iv p1.Rd)] Q8h (V9 (hS21.bun (Q9 1 5 ++ [0]) [] rfl) _ hx17) ?_
      rintro _ T17 w23 im23 ⟨rfl,hS22,_⟩
      refine pu ?_
      obtain⟨y16,hx18,hm⟩:=Q4 hm
      refine sS [(2,iv p1.Rd)] cf63 (Q2n (hS22.bun (Q9 0 6) [] rfl) _ hx18) ?_
      rintro _ T18 w24 im24 ⟨rfl,hS23,_⟩
      refine pu ?_
      obtain⟨y17,hx19,hm⟩:=Q4 hm
      refine sS [] cf59 (U2 (hS23.bun [0,5] (Q9 1 4) rfl) Z6 (h1.mono ch) (h2.mono ch) _ hx19) ?_
      rintro _ T19 w25 im25 ⟨a22,c22,a23,c23,rfl,hS24,h17,h18,_⟩
      refine pu ?_
      exact je hm (hS24.sel [0,2,3,4,5] rfl)
    refine rsS [0,0,1,0,1,0,0,2,2] [0,1,2,3,4,5,6,7,8] hS4 fun w26 im26 hS25 => ?_
    obtain⟨y18,hx20,hm⟩:=Q4 hm
    refine sS [(2,iv p1.Rd)] cf63 (Q2n (hS25.bun (Q9 1 5 ++ [0]) [] rfl) _ hx20) ?_
    rintro _ T20 w27 im27 ⟨rfl,hS26,_⟩
    refine pu ?_
    obtain⟨y19,hx21,hm⟩:=Q4 hm
    refine sS [] cf59 (U2 (hS26.bun [0,5] (Q9 1 4) rfl) Z6 (h1.mono ch) (h2.mono ch) _ hx21) ?_
    rintro _ T21 w28 im28 ⟨a24,c24,a25,c25,rfl,hS27,h19,h20,_⟩
    refine pu ?_
    exact je hm (hS27.sel [0,2,3,4,5] rfl)
  rintro _ w5 ⟨T4,x5,a6,n4,c6,x4,a7,c7,a8,c8,⟨J,hm,rfl,hS28,im5⟩,h3,h4⟩
  refine sq2 (sB 1 4 Z6 hS28 ?_)
  intro w29 im29 hS29
  refine pn ?_
  exact sq2 (re hm (hS29.sel (Q9 0 5) rfl))

theorem Q3g {p0:Q0} {X3 Y8:Nat} {X4:List Value→Z4} {a1 c1 a2 n1 c2 a3 c3 a4 n2 c4 a5 n3 c5} (hS:Sep g T0 w0 ([Q3 R]++Z8 p0 X4 a1 c1 a2 n1 c2 a3 c3 a4 n2 c4 a5 n3 c5)) (Z6:Ln X3 Y8 X4) (h1:SlR (Q2 .u32) T0 w0 (sv a1 p0.Code c1) p0.Code) (h2:SlR (Q2 .u32) T0 w0 (sv a3 p0.Inputs c3) p0.Inputs) : ∀ r,U6 p0=some r →
    Calls Tryz.prog 17 #[pt X3 Y8] w0 (Y4 T0 w0 fun T w v => ∃ a9 c9 a10 c10 a11 n5 c11,v = .tuple #[]∧Sep g T w (R++Z8 r X4 a9 c9 a2 n1 c2 a10 c10 a4 n2 c4 a11 n5 c11)∧SlR (Q2 .u32) T w (sv a9 r.Code c9) r.Code∧SlR (Q2 .u32) T w (sv a10 r.Inputs c10) r.Inputs∧True):=by
  intro r hm
  refine enter Tryz.func17 rfl Tryz.ntmps17 rfl fun J => ?_
  unfold U6 at hm
  refine sq2 (sq2 (cd hm ?_ ?_)) <;> intro hb1 hm
  · exact re hm (hS.sel (Q9 0 5) rfl)
  refine pn ?_
  refine sq2 (sq2 (rqS hS (pu ?_)))
  rcases bc hm with ⟨hb2,hm⟩ | ⟨hb2,hm⟩
  · refine pn ?_
    intro w11 T4 im11 hS11
    refine pn ?_
    refine cnd (b:=true) rfl (fun _ => ?_) (fun h=>nomatch h)
    refine sq2 (sB 1 9 Z6 hS11 ?_)
    intro w12 im12 hS12
    refine nil (Z3 [] qZt fun J => ?_)
    exact re hm (hS12.sel (Q9 0 5) rfl)
  refine pn ?_
  intro w1 T1 im1 hS1
  refine cd hm ?_ ?_ <;> intro hb3 hm
  · refine sq2 (sB 1 9 Z6 hS1 ?_)
    intro w2 im2 hS2
    refine nil (Z3 [] qZt fun J => ?_)
    exact re hm (hS2.sel (Q9 0 5) rfl)
  refine pn ?_
  refine sq2 (rtS [0,0,0,1,0,0,0,1,0,0,1,2,0,0,0,2,2,0] [0,1,2,3,4,5,6,7,8,9,10,11,12,13,14,15,16,17] hS1 fun w3 im3 hS3 => ?_)
  obtain⟨u1,hx1,hm⟩:=Q4 hm
  obtain⟨y1,hx2,hm⟩:=Q4 hm
  refine tF [11,15] ?_
  refine⟨?_,?_,qZt⟩
  · refine brW [12,13,14,15,16,17] [0,0,0] ?_
    refine oS cf29 (M9 (hS3.bun (Q9 0 5) [] rfl) _ hx2) ?_
    rintro _ T2 w4 im4 ⟨rfl,hS4,_⟩
    refine t1W [15] [16,17] [] ?_
    refine oaL [iv 0,iv 0,iv 0,iv 0,iv 0] hS4 ?_
    intro w5 b1 im5 hS5
    refine t1W [16] [17] [] ?_
    refine osT 0 hS5 ?_
    intro w6 im6 hS6
    refine pu ?_
    refine te (Z3 [(0,pt X3 Y8),(2,pt b1 0),(3,iv y1.2)] ⟨rfl,rfl,rfl,qZt⟩ fun J => ?_)
    refine sq2 (sq2 (pu ?_))
    rcases bc hm with ⟨hb4,hm⟩ | ⟨hb4,hm⟩
    · refine pn ?_
      refine cnd (b:=true) rfl (fun _ => ?_) (fun h=>nomatch h)
      refine sq2 (sB 2 9 Z6 hS6 ?_)
      intro w10 im10 hS10
      exact re hm (hS10.sel (Q9 1 5) rfl)
    refine pu ?_
    refine cB cf31 hm (Q0b (hS6.bun [1] (Q9 2 4) rfl) Z6 (h1.mono ch) (h2.mono ch)) ?_
    rintro y2 _ T3 w7 im7 ⟨a6,c6,a7,c7,a8,n4,c8,rfl,hS7,h3,h4,_⟩ hm
    refine cd hm ?_ ?_ <;> intro hb5 hm
    · refine sq2 (sB 1 9 Z6 hS7 ?_)
      intro w8 im8 hS8
      exact re hm (hS8.sel (Q9 0 5) rfl)
    refine pn ?_
    refine sB 1 8 Z6 hS7 ?_
    intro w9 im9 hS9
    cases oI hm
    refine pn ?_
    exact end0 rfl ⟨_,rfl,_,ch,⟨_,_,_,_,_,_,_,rfl,(hS9.sel (Q9 0 5) rfl).unb,(h3.mono im9),(h4.mono im9),qZt⟩⟩
  refine brW [11,12,13,14,16,17] [] ?_
  refine oaL [iv 0,iv 0,iv 0,iv 0,iv 0] hS3 ?_
  intro w4 b1 im4 hS4
  refine t1W [11] [12,13,14,16,17] [0,0,0] ?_
  refine oS cf29 (M9 (hS4.bun (Q9 0 6) [] rfl) _ hx2) ?_
  rintro _ T2 w5 im5 ⟨rfl,hS5,_⟩
  refine t1W [16] [17] [] ?_
  refine osT 0 hS5 ?_
  intro w6 im6 hS6
  refine pu ?_
  refine te (Z3 [(0,pt X3 Y8),(2,pt b1 0),(3,iv y1.2)] ⟨rfl,rfl,rfl,qZt⟩ fun J => ?_)
  refine sq2 (sq2 (pu ?_))
  rcases bc hm with ⟨hb4,hm⟩ | ⟨hb4,hm⟩
  · refine pn ?_
    refine cnd (b:=true) rfl (fun _ => ?_) (fun h=>nomatch h)
    refine sq2 (sB 2 9 Z6 hS6 ?_)
    intro w10 im10 hS10
    exact re hm (hS10.sel (Q9 1 5) rfl)
  refine pu ?_
  refine cB cf31 hm (Q0b (hS6.bun [1] (Q9 2 4) rfl) Z6 (h1.mono ch) (h2.mono ch)) ?_
  rintro y2 _ T3 w7 im7 ⟨a6,c6,a7,c7,a8,n4,c8,rfl,hS7,h3,h4,_⟩ hm
  refine cd hm ?_ ?_ <;> intro hb5 hm
  · refine sq2 (sB 1 9 Z6 hS7 ?_)
    intro w8 im8 hS8
    exact re hm (hS8.sel (Q9 0 5) rfl)
  refine pn ?_
  refine sB 1 8 Z6 hS7 ?_
  intro w9 im9 hS9
  cases oI hm
  refine pn ?_
  exact end0 rfl ⟨_,rfl,_,ch,⟨_,_,_,_,_,_,_,rfl,(hS9.sel (Q9 0 5) rfl).unb,(h3.mono im9),(h4.mono im9),qZt⟩⟩

theorem Z1a {p0 p1 p2} (hS:Sep g T0 w0 [Q3 R])  : ∀ r,O8 p0 p1 p2=some r →
    Calls Tryz.prog 18 #[iv p0,iv p1,iv p2] w0 (Y4 T0 w0 fun T w v=>v=iv r∧Sep g T w (R ++ [])∧True):=by
  intro r hm
  refine enter Tryz.func18 rfl Tryz.ntmps18 rfl fun J => ?_
  unfold O8 at hm
  refine sq2 (pn ?_)
  refine sq2 (sq2 (pu ?_))
  refine fkN (d:=13) (c:=((decide (p2 < 0)) || (decide (p0≤p2)))) 4 [(1,iv p1),(2,iv p2)] rfl (fun hk => ?_) fun J => ?_
  · rcases Bool.eq_false_or_eq_true (decide (p2 < 0)) with hb1 | hb1
    · exact  gF3 (d0:=9) rfl rfl (by rw [hb1]; rfl) (pv (V1 rfl hb1 rfl) (wlR (fun J=>hk J _ (by rw [hb1]; rfl)) ⟨rfl,rfl,rfl,qZt⟩))
    exact  gT (d0:=9) rfl rfl hb1 (pv (N2 rfl) (gT (d0:=9) rfl rfl hb1 (pv (N2 rfl) (gT (d0:=9) rfl rfl hb1 (pv (J8 rfl rfl rfl) (pv (V2 rfl hb1 rfl) (wlR (fun J=>hk J _ (by rw [hb1]; rfl)) ⟨rfl,rfl,rfl,qZt⟩)))))))
  refine cd hm ?_ ?_ <;> intro hb2 hm
  · exact sq2 (re hm (hS.sel [0] rfl))
  refine pn ?_
  refine sq2 (sq2 (cd hm ?_ ?_)) <;> intro hb3 hm
  · exact sq2 (re hm (hS.sel [0] rfl))
  refine pn ?_
  refine sq2 (sq2 (cd hm ?_ ?_)) <;> intro hb4 hm
  · exact sq2 (re hm (hS.sel [0] rfl))
  refine pn ?_
  refine sq2 (sq2 (pu ?_))
  refine fkN (d:=23) (c:=((decide (128≤p2))&&(decide (p2≤383)))) 3 [(1,iv p1),(2,iv p2)] rfl (fun hk => ?_) fun J => ?_
  · rcases Bool.eq_false_or_eq_true (decide (128≤p2)) with hb5 | hb5
    · exact  gT (d0:=20) rfl rfl hb5 (pv (N2 rfl) (gT (d0:=20) rfl rfl hb5 (pv (J8 rfl rfl rfl) (pv (V1 rfl hb5 rfl) (wlR (fun J=>hk J _ (by rw [hb5]; rfl)) ⟨rfl,rfl,rfl,qZt⟩)))))
    exact  gF2 (d0:=20) rfl rfl (by rw [hb5]; rfl) (pv (V2 rfl hb5 rfl) (wlR (fun J=>hk J _ (by rw [hb5]; rfl)) ⟨rfl,rfl,rfl,qZt⟩))
  refine cd hm ?_ ?_ <;> intro hb6 hm
  · exact sq2 (re hm (hS.sel [0] rfl))
  refine pn ?_
  refine sq2 (sq2 (pu ?_))
  refine fkN (d:=29) (c:=((decide (384≤p2))&&(decide (p2≤1151)))) 3 [(1,iv p1),(2,iv p2)] rfl (fun hk => ?_) fun J => ?_
  · rcases Bool.eq_false_or_eq_true (decide (384≤p2)) with hb7 | hb7
    · exact  gT (d0:=26) rfl rfl hb7 (pv (N2 rfl) (gT (d0:=26) rfl rfl hb7 (pv (J8 rfl rfl rfl) (pv (V1 rfl hb7 rfl) (wlR (fun J=>hk J _ (by rw [hb7]; rfl)) ⟨rfl,rfl,rfl,qZt⟩)))))
    exact  gF2 (d0:=26) rfl rfl (by rw [hb7]; rfl) (pv (V2 rfl hb7 rfl) (wlR (fun J=>hk J _ (by rw [hb7]; rfl)) ⟨rfl,rfl,rfl,qZt⟩))
  refine cd hm ?_ ?_ <;> intro hb8 hm
  · exact sq2 (re hm (hS.sel [0] rfl))
  refine pn ?_
  refine sq2 (sq2 (cd hm ?_ ?_)) <;> intro hb9 hm
  · exact sq2 (re hm (hS.sel [0] rfl))
  refine pn ?_
  refine sq2 (sq2 (cd hm ?_ ?_)) <;> intro hb10 hm
  · exact sq2 (re hm (hS.sel [0] rfl))
  refine pn ?_
  exact sq2 (re hm (hS.sel [0] rfl))

theorem Q9o {p0:X8} {a1 c1 a2 c2} {p1:List Int} {a3 c3} {p2:List Int} {a4 c4 p3} (hS:Sep g T0 w0 [Q3 R]) (h1:SlR (Q2 .u32) T0 w0 (sv a1 p0.Code c1) p0.Code) (h2:SlR (Q2 .u8) T0 w0 (sv a2 p0.Data c2) p0.Data) (h3:SlR (Q2 .u32) T0 w0 (sv a3 p1 c3) p1) (h4:SlR (Q2 .i64) T0 w0 (sv a4 p2 c4) p2) : ∀ r,W8 p0 p1 p2 p3=some r →
    Calls Tryz.prog 8 #[.agg #[sv a1 p0.Code c1,sv a2 p0.Data c2,iv p0.Limit,iv p0.Notes],sv a3 p1 c3,sv a4 p2 c4,iv p3] w0 (Y4 T0 w0 fun T w v => ∃ a27 c27 a28 c28,v = .agg #[sv a27 r.Part c27,sv a28 r.Words c28,iv r.Most,iv r.Steps,iv r.Fails]∧Sep g T w (R ++ [])∧SlR (Q2 .i64) T w (sv a27 r.Part c27) r.Part∧SlR (Q2 .i64) T w (sv a28 r.Words c28) r.Words∧True):=by
  intro r hm
  refine enter Tryz.func8 rfl Tryz.ntmps8 rfl fun J => ?_
  unfold W8 at hm
  refine sq2 (bX [sv a1 p0.Code c1,sv a2 p0.Data c2,iv p0.Limit,iv p0.Notes] hS ?_)
  intro w1 b1 im1 hS1
  refine aL zv2 hS1 ?_
  intro w2 b2 im2 hS2
  refine pn ?_
  refine sq2 (pu ?_)
  refine cB cf14 hm (Q9q (hS2.bun [0,1,2] [] rfl) (h1.mono ch) (h2.mono ch) (h3.mono ch)) ?_
  rintro y1 _ T1 w3 im3 ⟨b3,a5,c5,a6,n1,c6,a7,c7,a8,n2,c8,a9,n3,c9,rfl,hS3,h5,h6,_⟩ hm
  refine pn ?_
  refine F0 hm (fun kk1 a w4 => ∃(T2:_) (b4:_) (x1:Y5) (a10:_) (n4:_) (c10:_) (a11:_) (n5:_) (c11:_),JR (nf 144) g T1 w3 a w4 T2 (kk1 x1=some r) [(2,sv a4 p2 c4),(3,iv p3),(4,pt b1 0),(8,pt b2 0),(9,pt b3 0),(10,pt b4 0)] ([Q3 R,Y2 b1 [sv a1 p0.Code c1,sv a2 p0.Data c2,iv p0.Limit,iv p0.Notes],Y2 b2 zv2]++(Z8 y1 (Y2 b3) a5 c5 a6 n1 c6 a7 c7 a8 n2 c8 a9 n3 c9 ++ [Z0 (Q2 .i64) 3 (.slice a10 n4 c10) x1.Part,Z0 (Q2 .i64) 3 (.slice a11 n5 c11) x1.Words,Y2 b4 [.slice a10 n4 c10,.slice a11 n5 c11,iv x1.Most,iv x1.Steps,iv x1.Fails]]))) (fun kk1 hm => ?_) ?_
  · refine rtS [2,0,1,0,0,2,0,2,2] [1,2,3,4,0,5,6,7,8] hS3 fun w5 im5 hS4 => ?_
    obtain⟨u1,hx2,hm⟩:=Q4 hm
    obtain⟨u2,hx3,hm⟩:=Q4 hm
    refine tF [0,5,7] ?_
    refine⟨?_,?_,?_,qZt⟩
    · refine brW [5,6,7,8] [] ?_
      refine msS (r:=(Q2 .i64)) hS4 rfl rfl underlying26 el3 zeroValue3 rfl hx2 fun w6 a12 n6 c12 im6 hS5 => ?_
      refine tF [5,7] ?_
      refine⟨?_,?_,qZt⟩
      · refine brW [6,7,8] [0] ?_
        refine msS (r:=(Q2 .i64)) hS5 rfl rfl underlying26 el3 zeroValue3 rfl hx3 fun w7 a13 n7 c13 im7 hS6 => ?_
        refine pu ?_
        refine t0 rfl qZt (fun _=>U3 (by kernel_rfl) rfl (u := .agg #[.slice a12 n6 c12,.slice a13 n7 c13,iv 0,iv 0,iv 0])) rfl (?_)
        refine t1W [7] [8] [] ?_
        refine oaL zv2 hS6 ?_
        intro w8 b5 im8 hS7
        refine t1W [8] [] [] ?_
        refine osT 0 hS7 ?_
        intro w9 im9 hS8
        refine pu ?_
        exact je hm (hS8.sel [5,4,3,6,7,8,9,2,1,0] rfl)
      refine brW [5,6,8] [] ?_
      refine oaL zv2 hS5 ?_
      intro w7 b5 im7 hS6
      refine t1W [5] [6,8] [0] ?_
      refine msS (r:=(Q2 .i64)) hS6 rfl rfl underlying26 el3 zeroValue3 rfl hx3 fun w8 a13 n7 c13 im8 hS7 => ?_
      refine pu ?_
      refine t0 rfl qZt (fun _=>U3 (by kernel_rfl) rfl (u := .agg #[.slice a12 n6 c12,.slice a13 n7 c13,iv 0,iv 0,iv 0])) rfl (?_)
      refine t1W [8] [] [] ?_
      refine osT 1 hS7 ?_
      intro w9 im9 hS8
      refine pu ?_
      exact je hm (hS8.sel [5,4,3,6,7,8,9,2,0,1] rfl)
    · refine brW [0,6,7,8] [0] ?_
      refine msS (r:=(Q2 .i64)) hS4 rfl rfl underlying26 el3 zeroValue3 rfl hx3 fun w6 a12 n6 c12 im6 hS5 => ?_
      refine tF [0,7] ?_
      refine⟨?_,?_,qZt⟩
      · refine brW [6,7,8] [] ?_
        refine msS (r:=(Q2 .i64)) hS5 rfl rfl underlying26 el3 zeroValue3 rfl hx2 fun w7 a13 n7 c13 im7 hS6 => ?_
        refine pu ?_
        refine t0 rfl qZt (fun _=>U3 (by kernel_rfl) rfl (u := .agg #[.slice a13 n7 c13,.slice a12 n6 c12,iv 0,iv 0,iv 0])) rfl (?_)
        refine t1W [7] [8] [] ?_
        refine oaL zv2 hS6 ?_
        intro w8 b5 im8 hS7
        refine t1W [8] [] [] ?_
        refine osT 0 hS7 ?_
        intro w9 im9 hS8
        refine pu ?_
        exact je hm (hS8.sel [5,4,3,6,7,8,9,1,2,0] rfl)
      refine brW [0,6,8] [] ?_
      refine oaL zv2 hS5 ?_
      intro w7 b5 im7 hS6
      refine t1W [0] [6,8] [] ?_
      refine msS (r:=(Q2 .i64)) hS6 rfl rfl underlying26 el3 zeroValue3 rfl hx2 fun w8 a13 n7 c13 im8 hS7 => ?_
      refine pu ?_
      refine t0 rfl qZt (fun _=>U3 (by kernel_rfl) rfl (u := .agg #[.slice a13 n7 c13,.slice a12 n6 c12,iv 0,iv 0,iv 0])) rfl (?_)
      refine t1W [8] [] [] ?_
      refine osT 1 hS7 ?_
      intro w9 im9 hS8
      refine pu ?_
      exact je hm (hS8.sel [5,4,3,6,7,8,9,0,2,1] rfl)
    refine brW [0,5,6,8] [] ?_
    refine oaL zv2 hS4 ?_
    intro w6 b5 im6 hS5
    refine tF [0,5] ?_
    refine⟨?_,?_,qZt⟩
    · refine brW [5,6,8] [] ?_
      refine msS (r:=(Q2 .i64)) hS5 rfl rfl underlying26 el3 zeroValue3 rfl hx2 fun w7 a12 n6 c12 im7 hS6 => ?_
      refine t1W [5] [6,8] [0] ?_
      refine msS (r:=(Q2 .i64)) hS6 rfl rfl underlying26 el3 zeroValue3 rfl hx3 fun w8 a13 n7 c13 im8 hS7 => ?_
      refine pu ?_
      refine t0 rfl qZt (fun _=>U3 (by kernel_rfl) rfl (u := .agg #[.slice a12 n6 c12,.slice a13 n7 c13,iv 0,iv 0,iv 0])) rfl (?_)
      refine t1W [8] [] [] ?_
      refine osT 2 hS7 ?_
      intro w9 im9 hS8
      refine pu ?_
      exact je hm (hS8.sel [5,4,3,6,7,8,9,1,0,2] rfl)
    refine brW [0,6,8] [0] ?_
    refine msS (r:=(Q2 .i64)) hS5 rfl rfl underlying26 el3 zeroValue3 rfl hx3 fun w7 a12 n6 c12 im7 hS6 => ?_
    refine t1W [0] [6,8] [] ?_
    refine msS (r:=(Q2 .i64)) hS6 rfl rfl underlying26 el3 zeroValue3 rfl hx2 fun w8 a13 n7 c13 im8 hS7 => ?_
    refine pu ?_
    refine t0 rfl qZt (fun _=>U3 (by kernel_rfl) rfl (u := .agg #[.slice a13 n7 c13,.slice a12 n6 c12,iv 0,iv 0,iv 0])) rfl (?_)
    refine t1W [8] [] [] ?_
    refine osT 2 hS7 ?_
    intro w9 im9 hS8
    refine pu ?_
    exact je hm (hS8.sel [5,4,3,6,7,8,9,0,1,2] rfl)
  rintro _ w4 ⟨T2,b4,x1,a10,n4,c10,a11,n5,c11,J,hm,rfl,hS9,im4⟩
  refine sq2 (pn ?_)
  refine sq2 (lpJ hm (fun bd1 o1 m a w10 => ∃(T3:_) (x9:Y5) (x8:Q0) (a14:_) (n8:_) (c14:_) (a15:_) (n9:_) (c15:_) (x7:_) (a16:_) (c16:_) (a17:_) (c17:_),JR (nf 144) g T2 w4 a w10 T3 (Y9 bd1 m (x7,x8,x9)=some o1) [(2,sv a4 p2 c4),(3,iv p3),(4,pt b1 0),(8,pt b2 0),(9,pt b3 0),(10,pt b4 0),(11,iv x7)] ([Q3 R,Y2 b1 [sv a1 p0.Code c1,sv a2 p0.Data c2,iv p0.Limit,iv p0.Notes],Y2 b2 zv2]++(Z8 x8 (Y2 b3) a16 c16 a6 n1 c6 a17 c17 a14 n8 c14 a15 n9 c15 ++ [Y2 b4 [.slice a10 n4 c10,.slice a11 n5 c11,iv x9.Most,iv x9.Steps,iv x9.Fails],Z0 (Q2 .i64) 3 (.slice a10 n4 c10) x9.Part,Z0 (Q2 .i64) 3 (.slice a11 n5 c11) x9.Words]))∧SlR (Q2 .u32) T3 w10 (sv a16 x8.Code c16) x8.Code∧SlR (Q2 .u32) T3 w10 (sv a17 x8.Inputs c17) x8.Inputs) (fun _ _ h=>je h (hS9.sel (Q9 0 7 ++ [9,7,8]) rfl)) ?_)
  rintro bd1 hbd1 o1 hq1 _ _ w10 ⟨T3,x9,x8,a14,n8,c14,a15,n9,c15,x7,a16,c16,a17,c17,⟨J,ho1,rfl,hS10,im10⟩,h7,h8⟩
  obtain⟨m1,z1,rfl,hm,hn1⟩:=lrE ho1 hbd1
  refine sq2 (sq2 (pu ?_))
  refine fkN (d:=40) (c:=((x8.State == 0)&&(decide (x8.Steps < p3)))) 7 [(2,sv a4 p2 c4),(3,iv p3),(4,pt b1 0),(8,pt b2 0),(9,pt b3 0),(10,pt b4 0),(11,iv x7)] rfl (fun hk => ?_) fun J => ?_
  · rcases Bool.eq_false_or_eq_true (x8.State == 0) with hb1 | hb1
    · exact  gT (d0:=33) rfl rfl hb1 (pv (r_mp rfl) (gT (d0:=33) rfl rfl hb1 (pv (r_nc rfl) (gT (d0:=33) rfl rfl hb1 (pv (I8 rfl underlying62 rfl sizeOf3 rfl) (gT (d0:=33) rfl rfl hb1 (pv (K3 rfl isAgg3 (hS10.cell0 (i:=3) ⟨rfl,rfl⟩ (j:=8) rfl)) (gT (d0:=33) rfl rfl hb1 (pv (N2 rfl) (gT (d0:=33) rfl rfl hb1 (pv (J8 rfl rfl rfl) (pv (V1 rfl hb1 rfl) (wlR (fun J=>hk J _ (by rw [hb1]; rfl)) ⟨rfl,rfl,rfl,rfl,rfl,rfl,rfl,rfl,qZt⟩)))))))))))))
    exact  gF6 (d0:=33) rfl rfl (by rw [hb1]; rfl) (pv (V2 rfl hb1 rfl) (wlR (fun J=>hk J _ (by rw [hb1]; rfl)) ⟨rfl,rfl,rfl,rfl,rfl,rfl,rfl,rfl,qZt⟩))
  refine cd hm ?_ ?_ <;> intro hb2 hm
  · refine pn ?_
    refine blk (F0 hm (fun kk2 a w11 => ∃ T4 x10,JR (nf 144) g T3 w10 a w11 T4 (kk2 x10=some z1) [(2,sv a4 p2 c4),(3,iv p3),(4,pt b1 0),(8,pt b2 0),(9,pt b3 0),(10,pt b4 0),(11,iv x10)] ([Q3 R,Y2 b1 [sv a1 p0.Code c1,sv a2 p0.Data c2,iv p0.Limit,iv p0.Notes],Y2 b2 zv2]++(Z8 x8 (Y2 b3) a16 c16 a6 n1 c6 a17 c17 a14 n8 c14 a15 n9 c15 ++ [Y2 b4 [.slice a10 n4 c10,.slice a11 n5 c11,iv x9.Most,iv x9.Steps,iv x9.Fails],Z0 (Q2 .i64) 3 (.slice a10 n4 c10) x9.Part,Z0 (Q2 .i64) 3 (.slice a11 n5 c11) x9.Words]))) (fun kk2 hm => ?_) ?_)
    · refine lpJ hm (fun bd2 o2 m a w12 => ∃ T5 x11,JR (nf 144) g T3 w10 a w12 T5 (Y9 bd2 m x11=some o2) [(2,sv a4 p2 c4),(3,iv p3),(4,pt b1 0),(8,pt b2 0),(9,pt b3 0),(10,pt b4 0),(11,iv x11)] ([Q3 R,Y2 b1 [sv a1 p0.Code c1,sv a2 p0.Data c2,iv p0.Limit,iv p0.Notes],Y2 b2 zv2]++(Z8 x8 (Y2 b3) a16 c16 a6 n1 c6 a17 c17 a14 n8 c14 a15 n9 c15 ++ [Y2 b4 [.slice a10 n4 c10,.slice a11 n5 c11,iv x9.Most,iv x9.Steps,iv x9.Fails],Z0 (Q2 .i64) 3 (.slice a10 n4 c10) x9.Part,Z0 (Q2 .i64) 3 (.slice a11 n5 c11) x9.Words]))) (fun _ _ h=>je h (hS10.sel (Q9 0 10) rfl)) ?_
      rintro bd2 hbd2 o2 hq2 _ _ w12 ⟨T5,x11,J,ho2,rfl,hS11,im12⟩
      obtain⟨m2,z2,rfl,hm,hn2⟩:=lrE ho2 hbd2
      refine sq2 (sq2 (rqS hS11 (pu ?_)))
      rcases bc hm with ⟨hb3,hm⟩ | ⟨hb3,hm⟩
      · obtain⟨u3,hx4,hm⟩:=Q4 hm
        refine pn ?_
        intro w13 T6 im13 hS12
        refine cd hm ?_ ?_ <;> intro hb4 hm
        · refine pn ?_
          refine blk ?_
          exact lg hm hn2 (hS12.sel (Q9 0 10) rfl)
        have hm:=Q3s hm hn2 hq2
        exact je hm (hS12.sel (Q9 0 10) rfl)
      refine pn ?_
      intro w14 T7 im14 hS13
      refine pn ?_
      refine cnd (b:=false) rfl (fun h=>nomatch h) (fun _ => ?_)
      have hm:=Q3s hm hn2 hq2
      exact je hm (hS13.sel (Q9 0 10) rfl)
    rintro _ w11 ⟨T4,x10,J,hm,rfl,hS14,im11⟩
    refine F0 hm (fun kk3 a w15 => ∃(T8:_) (x19:Y5) (x18:Q0) (a18:_) (n10:_) (c18:_) (x17:_) (a19:_) (c19:_) (a20:_) (c20:_),JR (nf 144) g T4 w11 a w15 T8 (kk3 x17 x18 x19=some z1) [(2,sv a4 p2 c4),(3,iv p3),(4,pt b1 0),(8,pt b2 0),(9,pt b3 0),(10,pt b4 0),(11,iv x17)] ([Q3 R,Y2 b1 [sv a1 p0.Code c1,sv a2 p0.Data c2,iv p0.Limit,iv p0.Notes],Y2 b2 zv2]++(Z8 x18 (Y2 b3) a19 c19 a6 n1 c6 a20 c20 a18 n10 c18 a15 n9 c15 ++ [Y2 b4 [.slice a10 n4 c10,.slice a11 n5 c11,iv x19.Most,iv x19.Steps,iv x19.Fails],Z0 (Q2 .i64) 3 (.slice a10 n4 c10) x19.Part,Z0 (Q2 .i64) 3 (.slice a11 n5 c11) x19.Words]))∧SlR (Q2 .u32) T8 w15 (sv a19 x18.Code c19) x18.Code∧SlR (Q2 .u32) T8 w15 (sv a20 x18.Inputs c20) x18.Inputs) (fun kk3 hm => ?_) ?_
    · refine sq2 (rqS hS14 (pu ?_))
      rcases bc hm with ⟨hb6,hm⟩ | ⟨hb6,hm⟩
      · obtain⟨u4,hx5,hm⟩:=Q4 hm
        refine pn ?_
        intro w16 T9 im16 hS15
        refine cd hm ?_ ?_ <;> intro hb7 hm
        · refine sq2 (pu ?_)
          refine cB cf15 hm (Q3h (hS15.bun [0,1,2,7,8,9] (Q9 3 4) rfl) (C3 b3) (h7.mono ch) (h8.mono ch)) ?_
          rintro y2 _ T10 w17 im17 ⟨a21,c21,a22,c22,a23,n11,c23,rfl,hS16,h11,h12,_⟩ hm
          refine pn ?_
          refine sq2 (pn ?_)
          refine sT 3 hS16 ?_
          intro w18 im18 hS17
          exact je hm (hS17.sel [0,1,2,6,7,8,9,3,4,5] rfl)
        exact je hm (hS15.sel (Q9 0 10) rfl)
      refine pn ?_
      intro w19 T11 im19 hS18
      refine pn ?_
      refine cnd (b:=false) rfl (fun h=>nomatch h) (fun _ => ?_)
      exact je hm (hS18.sel (Q9 0 10) rfl)
    rintro _ w15 ⟨T8,x19,x18,a18,n10,c18,x17,a19,c19,a20,c20,⟨J,hm,rfl,hS19,im15⟩,h9,h10⟩
    refine sq2 (pu ?_)
    refine cB cf16 hm (Q9n (hS19.bun [0,1,2,7,8,9] (Q9 3 4) rfl) (C3 b3) h9 h10) ?_
    rintro y3 _ T12 w20 im20 ⟨rfl,hS20,_⟩ hm
    refine pn ?_
    refine sq2 (pn ?_)
    refine sq2 (pu ?_)
    refine cB cf17 hm (Q3g (hS20.bun (Q9 0 6) (Q9 6 4) rfl) (C3 b3) (h9.mono im20) (h10.mono im20)) ?_
    rintro y4 _ T13 w21 im21 ⟨a24,c24,a25,c25,a26,n12,c26,rfl,hS21,h13,h14,_⟩ hm
    refine pn ?_
    refine F0 hm (fun kk4 a w22 => ∃ T14 x20,JR (nf 144) g T13 w21 a w22 T14 (kk4 x20=some z1) [(2,sv a4 p2 c4),(3,iv p3),(4,pt b1 0),(8,pt b2 0),(9,pt b3 0),(10,pt b4 0),(11,iv x17),(12,iv y3),(98,.bool x20)] ([Q3 R,Y2 b1 [sv a1 p0.Code c1,sv a2 p0.Data c2,iv p0.Limit,iv p0.Notes],Y2 b2 zv2]++(Z8 y4 (Y2 b3) a24 c24 a6 n1 c6 a25 c25 a18 n10 c18 a26 n12 c26 ++ [Y2 b4 [.slice a10 n4 c10,.slice a11 n5 c11,iv x19.Most,iv x19.Steps,iv x19.Fails],Z0 (Q2 .i64) 3 (.slice a10 n4 c10) x19.Part,Z0 (Q2 .i64) 3 (.slice a11 n5 c11) x19.Words]))) (fun kk4 hm => ?_) ?_
    · refine pu ?_
      refine fkN (d:=98) (c:=((decide (0≤y3))&&(decide (x18.Steps < y4.Steps)))) 7 [(2,sv a4 p2 c4),(3,iv p3),(4,pt b1 0),(8,pt b2 0),(9,pt b3 0),(10,pt b4 0),(11,iv x17),(12,iv y3)] rfl (fun hk => ?_) fun J => ?_
      · rcases Bool.eq_false_or_eq_true (decide (0≤y3)) with hb9 | hb9
        · exact  gT (d0:=91) rfl rfl hb9 (pv (r_mp rfl) (gT (d0:=91) rfl rfl hb9 (pv (r_nc rfl) (gT (d0:=91) rfl rfl hb9 (pv (I8 rfl underlying62 rfl sizeOf3 rfl) (gT (d0:=91) rfl rfl hb9 (pv (K3 rfl isAgg3 (hS21.cell0 (i:=6) ⟨rfl,rfl⟩ (j:=8) rfl)) (gT (d0:=91) rfl rfl hb9 (pv (N2 rfl) (gT (d0:=91) rfl rfl hb9 (pv (J8 rfl rfl rfl) (pv (V1 rfl hb9 rfl) (wlR (fun J=>hk J _ (by rw [hb9]; rfl)) ⟨rfl,rfl,rfl,rfl,rfl,rfl,rfl,rfl,rfl,qZt⟩)))))))))))))
        exact  gF6 (d0:=91) rfl rfl (by rw [hb9]; rfl) (pv (V2 rfl hb9 rfl) (wlR (fun J=>hk J _ (by rw [hb9]; rfl)) ⟨rfl,rfl,rfl,rfl,rfl,rfl,rfl,rfl,rfl,qZt⟩))
      exact je hm (hS21.sel [0,1,2,6,7,8,9,3,4,5] rfl)
    rintro _ w22 ⟨T14,x20,J,hm,rfl,hS22,im22⟩
    refine cd hm ?_ ?_ <;> intro hb10 hm
    · refine sq2 (pu ?_)
      refine cB cf18 hm (Z1a (hS22.bun (Q9 0 10) [] rfl)) ?_
      rintro y5 _ T15 w23 im23 ⟨rfl,hS23,_⟩ hm
      refine pn ?_
      refine sq2 (rsS [0,1,0,0,1,0,0,1,0,0,2] [0,1,2,3,4,5,6,7,8,9,10] hS23 fun w24 im24 hS24 => ?_)
      obtain⟨u5,hx10,hm⟩:=Q4 hm
      obtain⟨u6,hx11,hm⟩:=Q4 hm
      obtain rfl:u5=u6:=oI (hx10.symm.trans hx11)
      obtain⟨u7,hx12,hm⟩:=Q4 hm
      obtain rfl:u5=u7:=oI (hx11.symm.trans hx12)
      refine s2W [0,0,0] ?_
      refine stOc (q:=8) (j:=0) (u' := IntKind.wrap .i64 (u5+1)) hS24 ⟨rfl,rfl⟩ hx12 rfl rfl rfl sizeOf3 rfl rfl rfl (fun c0 hc0=>by rw [B8 (r:=(Q2 .i64)) hc0 rfl]; exact rfl) fun w25 im25 hS25 => ?_
      refine pn ?_
      refine sq2 (rsS [0,1,0,0,0,1,0,0,0,1,0,0,2] [0,1,2,3,4,5,6,7,8,9,10,11,12] hS25 fun w26 im26 hS26 => ?_)
      obtain⟨u8,hx13,hm⟩:=Q4 hm
      obtain⟨u9,hx14,hm⟩:=Q4 hm
      obtain rfl:u8=u9:=oI (hx13.symm.trans hx14)
      obtain⟨u10,hx15,hm⟩:=Q4 hm
      obtain rfl:u8=u10:=oI (hx14.symm.trans hx15)
      refine s2W [0,0,0] ?_
      refine stOc (q:=9) (j:=0) (u' := IntKind.wrap .i64 (u8+1)) hS26 ⟨rfl,rfl⟩ hx15 rfl rfl rfl sizeOf3 rfl rfl rfl (fun c0 hc0=>by rw [B8 (r:=(Q2 .i64)) hc0 rfl]; exact rfl) fun w27 im27 hS27 => ?_
      refine pu ?_
      refine se (Z3 [(2,sv a4 p2 c4),(3,iv p3),(4,pt b1 0),(8,pt b2 0),(9,pt b3 0),(10,pt b4 0),(11,iv x17),(12,iv y3)] ⟨rfl,rfl,rfl,rfl,rfl,rfl,rfl,rfl,qZt⟩ fun J => ?_)
      refine rsS [0,1,0,1,0,0,0,1,0,0,2] [0,1,2,3,4,5,6,7,8,9,10] hS27 fun w28 im28 hS28 => ?_
      obtain⟨u11,hx16,hm⟩:=Q4 hm
      refine pu ?_
      refine s0 rfl qZt (fun _=>r_imx rfl rfl) rfl (pu ?_)
      refine s2W [0,0,0] ?_
      refine osT 7 hS28 ?_
      intro w29 im29 hS29
      refine pu ?_
      exact lg hm hn1 (hS29.sel (Q9 0 10) rfl)
    exact lg hm hn1 (hS22.sel (Q9 0 10) rfl)
  have hm:=Q3s hm hn1 hq1
  refine pn ?_
  refine sq2 (sT 7 hS10 ?_)
  intro w30 im30 hS30
  refine pn ?_
  refine sq2 (sT 2 hS30 ?_)
  intro w31 im31 hS31
  refine pn ?_
  obtain⟨T16,im32,hS32,h15,rfl⟩:=hS31.sl 8
  obtain⟨T17,im33,hS33,h16,rfl⟩:=hS32.sl 9
  exact re hm (hS33.sel [0] rfl)

theorem Z2h {p0:Z7} {a1 c1} {p1:Y5} {a2 c2 a3 c3} (hS:Sep g T0 w0 [Q3 R]) (h1:SlR (Q2 .i64) T0 w0 (sv a1 p0.Words c1) p0.Words) (h2:SlR (Q2 .i64) T0 w0 (sv a2 p1.Part c2) p1.Part) (h3:SlR (Q2 .i64) T0 w0 (sv a3 p1.Words c3) p1.Words) : ∀ r,S4 p0 p1=some r →
    Calls Tryz.prog 7 #[.agg #[iv (List.getD p0.Part 0 0),iv (List.getD p0.Part 1 0),iv (List.getD p0.Part 2 0),iv (List.getD p0.Part 3 0),iv (List.getD p0.Part 4 0),iv (List.getD p0.Part 5 0),iv (List.getD p0.Part 6 0),sv a1 p0.Words c1,iv p0.Most,iv p0.Steps,iv p0.Fails],.agg #[sv a2 p1.Part c2,sv a3 p1.Words c3,iv p1.Most,iv p1.Steps,iv p1.Fails]] w0 (Y4 T0 w0 fun T w v=>v = .bool r∧Sep g T w (R ++ [])∧True):=by
  intro r hm
  refine enter Tryz.func7 rfl Tryz.ntmps7 rfl fun J => ?_
  unfold S4 at hm
  refine sq2 (bX [iv (List.getD p0.Part 0 0),iv (List.getD p0.Part 1 0),iv (List.getD p0.Part 2 0),iv (List.getD p0.Part 3 0),iv (List.getD p0.Part 4 0),iv (List.getD p0.Part 5 0),iv (List.getD p0.Part 6 0),sv a1 p0.Words c1,iv p0.Most,iv p0.Steps,iv p0.Fails] hS ?_)
  intro w1 b1 im1 hS1
  refine bX [sv a2 p1.Part c2,sv a3 p1.Words c3,iv p1.Most,iv p1.Steps,iv p1.Fails] hS1 ?_
  intro w2 b2 im2 hS2
  refine pn ?_
  refine sq2 (sq2 (pu ?_))
  refine fkC (d:=20) (c:=(((List.length p0.Words:Int) != (List.length p1.Words:Int)) || (p0.Most != p1.Most))) 6 [(2,pt b1 0),(3,pt b2 0)] rfl (fun hk => ?_) fun J => ?_
  · rcases Bool.eq_false_or_eq_true ((List.length p0.Words:Int) != (List.length p1.Words:Int)) with hb1 | hb1
    · exact  gF5 (d0:=14) rfl rfl (by rw [hb1]; rfl) (pv (V1 rfl hb1 rfl) (wlR (fun J=>hk J _ (by rw [hb1]; rfl)) ⟨rfl,rfl,rfl,qZt⟩))
    exact  gT (d0:=14) rfl rfl hb1 (pv (I8 rfl underlying32 rfl sizeOf3 rfl) (gT (d0:=14) rfl rfl hb1 (pv (K3 rfl isAgg3 (hS2.cell0 (i:=1) ⟨rfl,rfl⟩ (j:=8) rfl)) (gT (d0:=14) rfl rfl hb1 (pv (I8 rfl underlying39 rfl sizeOf3 rfl) (gT (d0:=14) rfl rfl hb1 (pv (K3 rfl isAgg3 (hS2.cell0 (i:=0) ⟨rfl,rfl⟩ (j:=2) rfl)) (gT (d0:=14) rfl rfl hb1 (pv (J8 rfl rfl rfl) (pv (V2 rfl hb1 rfl) (wlR (fun J=>hk J _ (by rw [hb1]; rfl)) ⟨rfl,rfl,rfl,qZt⟩)))))))))))
  refine pu ?_
  refine fkC (d:=27) (c:=((((List.length p0.Words:Int) != (List.length p1.Words:Int)) || (p0.Most != p1.Most)) || (p0.Steps != p1.Steps))) 6 [(2,pt b1 0),(3,pt b2 0)] rfl (fun hk => ?_) fun J => ?_
  · rcases Bool.eq_false_or_eq_true (((List.length p0.Words:Int) != (List.length p1.Words:Int)) || (p0.Most != p1.Most)) with hb2 | hb2
    · exact  gF5 (d0:=21) rfl rfl (by rw [hb2]; rfl) (pv (V1 rfl hb2 rfl) (wlR (fun J=>hk J _ (by rw [hb2]; rfl)) ⟨rfl,rfl,rfl,qZt⟩))
    exact  gT (d0:=21) rfl rfl hb2 (pv (I8 rfl underlying32 rfl sizeOf3 rfl) (gT (d0:=21) rfl rfl hb2 (pv (K3 rfl isAgg3 (hS2.cell0 (i:=1) ⟨rfl,rfl⟩ (j:=9) rfl)) (gT (d0:=21) rfl rfl hb2 (pv (I8 rfl underlying39 rfl sizeOf3 rfl) (gT (d0:=21) rfl rfl hb2 (pv (K3 rfl isAgg3 (hS2.cell0 (i:=0) ⟨rfl,rfl⟩ (j:=3) rfl)) (gT (d0:=21) rfl rfl hb2 (pv (J8 rfl rfl rfl) (pv (V2 rfl hb2 rfl) (wlR (fun J=>hk J _ (by rw [hb2]; rfl)) ⟨rfl,rfl,rfl,qZt⟩)))))))))))
  refine pu ?_
  refine fkN (d:=34) (c:=(((((List.length p0.Words:Int) != (List.length p1.Words:Int)) || (p0.Most != p1.Most)) || (p0.Steps != p1.Steps)) || (p0.Fails != p1.Fails))) 6 [(2,pt b1 0),(3,pt b2 0)] rfl (fun hk => ?_) fun J => ?_
  · rcases Bool.eq_false_or_eq_true ((((List.length p0.Words:Int) != (List.length p1.Words:Int)) || (p0.Most != p1.Most)) || (p0.Steps != p1.Steps)) with hb3 | hb3
    · exact  gF5 (d0:=28) rfl rfl (by rw [hb3]; rfl) (pv (V1 rfl hb3 rfl) (wlR (fun J=>hk J _ (by rw [hb3]; rfl)) ⟨rfl,rfl,rfl,qZt⟩))
    exact  gT (d0:=28) rfl rfl hb3 (pv (I8 rfl underlying32 rfl sizeOf3 rfl) (gT (d0:=28) rfl rfl hb3 (pv (K3 rfl isAgg3 (hS2.cell0 (i:=1) ⟨rfl,rfl⟩ (j:=10) rfl)) (gT (d0:=28) rfl rfl hb3 (pv (I8 rfl underlying39 rfl sizeOf3 rfl) (gT (d0:=28) rfl rfl hb3 (pv (K3 rfl isAgg3 (hS2.cell0 (i:=0) ⟨rfl,rfl⟩ (j:=4) rfl)) (gT (d0:=28) rfl rfl hb3 (pv (J8 rfl rfl rfl) (pv (V2 rfl hb3 rfl) (wlR (fun J=>hk J _ (by rw [hb3]; rfl)) ⟨rfl,rfl,rfl,qZt⟩)))))))))))
  refine cd hm ?_ ?_ <;> intro hb4 hm
  · exact sq2 (re hm (hS2.sel [2] rfl))
  refine pn ?_
  refine sq2 (sq2 (pn ?_))
  refine lpJ hm (fun bd1 o1 m a w3 => ∃ T1 x1,JR (nf 67) g T0 w2 a w3 T1 (Y9 bd1 m x1=some o1) [(2,pt b1 0),(3,pt b2 0),(5,iv x1)] [Q3 R,Y2 b1 [iv (List.getD p0.Part 0 0),iv (List.getD p0.Part 1 0),iv (List.getD p0.Part 2 0),iv (List.getD p0.Part 3 0),iv (List.getD p0.Part 4 0),iv (List.getD p0.Part 5 0),iv (List.getD p0.Part 6 0),sv a1 p0.Words c1,iv p0.Most,iv p0.Steps,iv p0.Fails],Y2 b2 [sv a2 p1.Part c2,sv a3 p1.Words c3,iv p1.Most,iv p1.Steps,iv p1.Fails]]) (fun _ _ h=>je h (hS2.sel [2,1,0] rfl)) ?_
  rintro bd1 hbd1 o1 hq1 _ _ w3 ⟨T1,x1,J,ho1,rfl,hS3,im3⟩
  obtain⟨m1,z1,rfl,hm,hn1⟩:=lrE ho1 hbd1
  refine sq2 (sq2 (cd hm ?_ ?_)) <;> intro hb5 hm
  · refine pn ?_
    refine sq2 (blk (sq2 ?_))
    obtain⟨u1,hx1,hm⟩:=Q4 hm
    obtain⟨of1,he1⟩ : ∃ z:Nat,z=0+(Int.toNat x1) * 1:=⟨_,rfl⟩
    obtain⟨u2,hx2,hm⟩:=Q4 hm
    refine rqS hS3 (pu ?_)
    refine qv (fun _ hq=>Q1g rfl rfl rfl hx1 underlying30 sizeOf3 he1) (qv (fun _ hq=>K3 rfl isAgg3 (hq.cell ((Sep.segEl (l:=([List.getD p0.Part 0 0,List.getD p0.Part 1 0,List.getD p0.Part 2 0,List.getD p0.Part 3 0,List.getD p0.Part 4 0,List.getD p0.Part 5 0,List.getD p0.Part 6 0]:List Int)) (cs := [sv a1 p0.Words c1,iv p0.Most,iv p0.Steps,iv p0.Fails]) hS3 (q:=1) ⟨rfl,rfl⟩ (C3 b1) Q3q hx1 he1).get (j:=0) rfl))) (pn ?_))
    intro w4 T2 im4 hS4
    refine cd hm ?_ ?_ <;> intro hb6 hm
    · refine sq2 (pn ?_)
      have hm:=retE hm hn1 hq1
      exact re hm (hS4.sel [0] rfl)
    exact lg hm hn1 (hS4.sel [0,1,2] rfl)
  have hm:=Q3s hm hn1 hq1
  refine pn ?_
  refine sq2 (sq2 (pn ?_))
  refine lpJ hm (fun bd1 o1 m a w5 => ∃ T3 x2,JR (nf 67) g T1 w3 a w5 T3 (Y9 bd1 m x2=some o1) [(2,pt b1 0),(3,pt b2 0),(6,iv x2)] [Q3 R,Y2 b1 [iv (List.getD p0.Part 0 0),iv (List.getD p0.Part 1 0),iv (List.getD p0.Part 2 0),iv (List.getD p0.Part 3 0),iv (List.getD p0.Part 4 0),iv (List.getD p0.Part 5 0),iv (List.getD p0.Part 6 0),sv a1 p0.Words c1,iv p0.Most,iv p0.Steps,iv p0.Fails],Y2 b2 [sv a2 p1.Part c2,sv a3 p1.Words c3,iv p1.Most,iv p1.Steps,iv p1.Fails]]) (fun _ _ h=>je h (hS3.sel [0,1,2] rfl)) ?_
  rintro bd1 hbd1 o1 hq1 _ _ w5 ⟨T3,x2,J,ho1,rfl,hS5,im5⟩
  obtain⟨m1,z1,rfl,hm,hn1⟩:=lrE ho1 hbd1
  refine sq2 (sq2 (cd hm ?_ ?_)) <;> intro hb7 hm
  · refine pn ?_
    refine sq2 (blk (sq2 ?_))
    obtain⟨u3,hx3,hm⟩:=Q4 hm
    obtain⟨u4,hx4,hm⟩:=Q4 hm
    refine rqS hS5 (pn ?_)
    intro w6 T4 im6 hS6
    refine cd hm ?_ ?_ <;> intro hb8 hm
    · refine sq2 (pn ?_)
      have hm:=retE hm hn1 hq1
      exact re hm (hS6.sel [0] rfl)
    exact lg hm hn1 (hS6.sel [0,1,2] rfl)
  have hm:=Q3s hm hn1 hq1
  refine pn ?_
  exact sq2 (re hm (hS5.sel [0] rfl))
end Go.Proofs.YtecakklofhfphaaGreatDoor
