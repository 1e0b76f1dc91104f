/- That Go functions compute their models. Printed by gen2.py. -/
import Derived.Test.YtecakklofhfphaaGreatDoorKWb
import Derived.Test.YtecakklofhfphaaGreatDoorKH
set_option linter.unusedVariables false
namespace Go.Proofs.YtecakklofhfphaaGreatDoor
open _root_.Go.Proofs.Tryz
set_option maxRecDepth 100000
set_option maxHeartbeats 8000000
attribute [local irreducible] wpList wpQuiet Code.wp
variable {g:World} {T0:Nat→Prop} {w0:World} {R:List Z4}
attribute [local irreducible] K6 B3 execOp Program.underlying sizeOf isAgg zeroValue

theorem Q4s {p0:X8} {a1 c1 a2 c2} {p1:List Int} {a3 c3} {p2:I2} {a4 c4} (hS:Sep g T0 w0 [Q3 R]) (h1:SlR (Q2 .u32) T0 w0 (sv a1 p0.Code c1) p0.Code) (h2:SlR (Q2 .u8) T0 w0 (sv a2 p0.Data c2) p0.Data) (h3:SlR (Q2 .u32) T0 w0 (sv a3 p1 c3) p1) (h4:SlR (Q2 .i64) T0 w0 (sv a4 p2.L c4) p2.L) (hG1:Gc T0 w0 1 (Lib.pow10Tab.map fun z=>Value.int .u64 z)) : ∀ r,D9 p0 p1 p2=some r →
    Calls Tryz.prog 3 #[.agg #[sv a1 p0.Code c1,sv a2 p0.Data c2,iv p0.Limit,iv p0.Notes],sv a3 p1 c3,.agg #[sv a4 p2.L c4,iv p2.N]] w0 (Y4 T0 w0 fun T w v=>v = .bool r∧Sep g T w (R ++ [])∧True):=by
  intro r hm
  refine enter Tryz.func3 rfl Tryz.ntmps3 rfl fun J => ?_
  unfold D9 at hm
  refine sq2 (bX [sv a1 p0.Code c1,sv a2 p0.Data c2,iv p0.Limit,iv p0.Notes] hS ?_)
  intro w1 b1 im1 hS1
  refine bX [sv a4 p2.L c4,iv p2.N] hS1 ?_
  intro w2 b2 im2 hS2
  refine pn ?_
  refine sq2 (sq2 (pu ?_))
  refine fkC (d:=18) (c:=((decide (200 < (List.length p0.Code:Int))) || (decide (3000 < (List.length p0.Data:Int))))) 5 [(1,sv a3 p1 c3),(3,pt b1 0),(5,pt b2 0)] rfl (fun hk => ?_) fun J => ?_
  · rcases Bool.eq_false_or_eq_true (decide (200 < (List.length p0.Code:Int))) with hb1 | hb1
    · exact  gF4 (d0:=13) rfl rfl (by rw [hb1]; rfl) (pv (V1 rfl hb1 rfl) (wlR (fun J=>hk J _ (by rw [hb1]; rfl)) ⟨rfl,rfl,rfl,rfl,qZt⟩))
    exact  gT (d0:=13) rfl rfl hb1 (pv (I8 rfl underlying25 rfl sizeOf23 rfl) (gT (d0:=13) rfl rfl hb1 (pv (K3 rfl isAgg23 (hS2.cell0 (i:=1) ⟨rfl,rfl⟩ (j:=1) rfl)) (gT (d0:=13) rfl rfl hb1 (pv (Q7x rfl underlying23) (gT (d0:=13) rfl rfl hb1 (pv (J8 rfl rfl rfl) (pv (V2 rfl hb1 rfl) (wlR (fun J=>hk J _ (by rw [hb1]; rfl)) ⟨rfl,rfl,rfl,rfl,qZt⟩)))))))))
  refine pu ?_
  refine fkC (d:=23) (c:=(((decide (200 < (List.length p0.Code:Int))) || (decide (3000 < (List.length p0.Data:Int)))) || (decide (40 < (List.length p1:Int))))) 4 [(1,sv a3 p1 c3),(3,pt b1 0),(5,pt b2 0)] rfl (fun hk => ?_) fun J => ?_
  · rcases Bool.eq_false_or_eq_true ((decide (200 < (List.length p0.Code:Int))) || (decide (3000 < (List.length p0.Data:Int)))) with hb2 | hb2
    · exact  gF3 (d0:=19) rfl rfl (by rw [hb2]; rfl) (pv (V1 rfl hb2 rfl) (wlR (fun J=>hk J _ (by rw [hb2]; rfl)) ⟨rfl,rfl,rfl,rfl,qZt⟩))
    exact  gT (d0:=19) rfl rfl hb2 (pv (r_ms rfl) (gT (d0:=19) rfl rfl hb2 (pv (Q7x rfl underlying22) (gT (d0:=19) rfl rfl hb2 (pv (J8 rfl rfl rfl) (pv (V2 rfl hb2 rfl) (wlR (fun J=>hk J _ (by rw [hb2]; rfl)) ⟨rfl,rfl,rfl,rfl,qZt⟩)))))))
  refine pu ?_
  refine fkC (d:=29) (c:=((((decide (200 < (List.length p0.Code:Int))) || (decide (3000 < (List.length p0.Data:Int)))) || (decide (40 < (List.length p1:Int)))) || (decide (100 < (List.length p2.L:Int))))) 5 [(1,sv a3 p1 c3),(3,pt b1 0),(5,pt b2 0)] rfl (fun hk => ?_) fun J => ?_
  · rcases Bool.eq_false_or_eq_true (((decide (200 < (List.length p0.Code:Int))) || (decide (3000 < (List.length p0.Data:Int)))) || (decide (40 < (List.length p1:Int)))) with hb3 | hb3
    · exact  gF4 (d0:=24) rfl rfl (by rw [hb3]; rfl) (pv (V1 rfl hb3 rfl) (wlR (fun J=>hk J _ (by rw [hb3]; rfl)) ⟨rfl,rfl,rfl,rfl,qZt⟩))
    exact  gT (d0:=24) rfl rfl hb3 (pv (I8 rfl underlying28 rfl sizeOf26 rfl) (gT (d0:=24) rfl rfl hb3 (pv (K3 rfl isAgg26 (hS2.cell0 (i:=0) ⟨rfl,rfl⟩ (j:=0) rfl)) (gT (d0:=24) rfl rfl hb3 (pv (Q7x rfl underlying26) (gT (d0:=24) rfl rfl hb3 (pv (J8 rfl rfl rfl) (pv (V2 rfl hb3 rfl) (wlR (fun J=>hk J _ (by rw [hb3]; rfl)) ⟨rfl,rfl,rfl,rfl,qZt⟩)))))))))
  refine pu ?_
  refine fkC (d:=34) (c:=(((((decide (200 < (List.length p0.Code:Int))) || (decide (3000 < (List.length p0.Data:Int)))) || (decide (40 < (List.length p1:Int)))) || (decide (100 < (List.length p2.L:Int)))) || (decide (600 < p2.N)))) 4 [(1,sv a3 p1 c3),(3,pt b1 0),(5,pt b2 0)] rfl (fun hk => ?_) fun J => ?_
  · rcases Bool.eq_false_or_eq_true ((((decide (200 < (List.length p0.Code:Int))) || (decide (3000 < (List.length p0.Data:Int)))) || (decide (40 < (List.length p1:Int)))) || (decide (100 < (List.length p2.L:Int)))) with hb4 | hb4
    · exact  gF3 (d0:=30) rfl rfl (by rw [hb4]; rfl) (pv (V1 rfl hb4 rfl) (wlR (fun J=>hk J _ (by rw [hb4]; rfl)) ⟨rfl,rfl,rfl,rfl,qZt⟩))
    exact  gT (d0:=30) rfl rfl hb4 (pv (I8 rfl underlying28 rfl sizeOf3 rfl) (gT (d0:=30) rfl rfl hb4 (pv (K3 rfl isAgg3 (hS2.cell0 (i:=0) ⟨rfl,rfl⟩ (j:=1) rfl)) (gT (d0:=30) rfl rfl hb4 (pv (J8 rfl rfl rfl) (pv (V2 rfl hb4 rfl) (wlR (fun J=>hk J _ (by rw [hb4]; rfl)) ⟨rfl,rfl,rfl,rfl,qZt⟩)))))))
  refine pu ?_
  refine fkC (d:=39) (c:=((((((decide (200 < (List.length p0.Code:Int))) || (decide (3000 < (List.length p0.Data:Int)))) || (decide (40 < (List.length p1:Int)))) || (decide (100 < (List.length p2.L:Int)))) || (decide (600 < p2.N))) || (decide (1099511627776 < p0.Limit)))) 4 [(1,sv a3 p1 c3),(3,pt b1 0),(5,pt b2 0)] rfl (fun hk => ?_) fun J => ?_
  · rcases Bool.eq_false_or_eq_true (((((decide (200 < (List.length p0.Code:Int))) || (decide (3000 < (List.length p0.Data:Int)))) || (decide (40 < (List.length p1:Int)))) || (decide (100 < (List.length p2.L:Int)))) || (decide (600 < p2.N))) with hb5 | hb5
    · exact  gF3 (d0:=35) rfl rfl (by rw [hb5]; rfl) (pv (V1 rfl hb5 rfl) (wlR (fun J=>hk J _ (by rw [hb5]; rfl)) ⟨rfl,rfl,rfl,rfl,qZt⟩))
    exact  gT (d0:=35) rfl rfl hb5 (pv (I8 rfl underlying25 rfl sizeOf3 rfl) (gT (d0:=35) rfl rfl hb5 (pv (K3 rfl isAgg3 (hS2.cell0 (i:=1) ⟨rfl,rfl⟩ (j:=2) rfl)) (gT (d0:=35) rfl rfl hb5 (pv (J8 rfl rfl rfl) (pv (V2 rfl hb5 rfl) (wlR (fun J=>hk J _ (by rw [hb5]; rfl)) ⟨rfl,rfl,rfl,rfl,qZt⟩)))))))
  refine pu ?_
  refine fkN (d:=44) (c:=(((((((decide (200 < (List.length p0.Code:Int))) || (decide (3000 < (List.length p0.Data:Int)))) || (decide (40 < (List.length p1:Int)))) || (decide (100 < (List.length p2.L:Int)))) || (decide (600 < p2.N))) || (decide (1099511627776 < p0.Limit))) || (decide (p0.Limit < (-1099511627776))))) 4 [(1,sv a3 p1 c3),(3,pt b1 0),(5,pt b2 0)] rfl (fun hk => ?_) fun J => ?_
  · rcases Bool.eq_false_or_eq_true ((((((decide (200 < (List.length p0.Code:Int))) || (decide (3000 < (List.length p0.Data:Int)))) || (decide (40 < (List.length p1:Int)))) || (decide (100 < (List.length p2.L:Int)))) || (decide (600 < p2.N))) || (decide (1099511627776 < p0.Limit))) with hb6 | hb6
    · exact  gF3 (d0:=40) rfl rfl (by rw [hb6]; rfl) (pv (V1 rfl hb6 rfl) (wlR (fun J=>hk J _ (by rw [hb6]; rfl)) ⟨rfl,rfl,rfl,rfl,qZt⟩))
    exact  gT (d0:=40) rfl rfl hb6 (pv (I8 rfl underlying25 rfl sizeOf3 rfl) (gT (d0:=40) rfl rfl hb6 (pv (K3 rfl isAgg3 (hS2.cell0 (i:=1) ⟨rfl,rfl⟩ (j:=2) rfl)) (gT (d0:=40) rfl rfl hb6 (pv (J8 rfl rfl rfl) (pv (V2 rfl hb6 rfl) (wlR (fun J=>hk J _ (by rw [hb6]; rfl)) ⟨rfl,rfl,rfl,rfl,qZt⟩)))))))
  refine cd hm ?_ ?_ <;> intro hb7 hm
  · refine sq2 ?_
    obtain⟨y1,hx1,hm⟩:=Q4 hm
    refine cS cf4 (Q0j (hS2.bun [2] [] rfl) (hG1.mono ch) hx1) ?_
    rintro _ T1 w3 im3 ⟨rfl,hS3,_⟩
    have hS3:=hS3.unb
    exact re hm (hS3.sel [0] rfl)
  refine pn ?_
  refine sq2 (pu ?_)
  refine cB cf5 hm (Z0q (hS2.bun [0,1,2] [] rfl) (h1.mono ch) (h2.mono ch) (h3.mono ch) (h4.mono ch)) ?_
  rintro y2 _ T2 w4 im4 ⟨a5,c5,rfl,hS4,h5,_⟩ hm
  refine aL zv1 hS4 ?_
  intro w5 b3 im5 hS5
  refine sT 0 hS5 ?_
  intro w6 im6 hS6
  refine pn ?_
  refine sq2 (sq2 (pu ?_))
  refine cB cf6 hm (Z3v (hS6.bun (Q9 0 4) [] rfl)) ?_
  rintro y3 _ T3 w7 im7 ⟨rfl,hS7,_⟩ hm
  refine cd hm ?_ ?_ <;> intro hb8 hm
  · refine sq2 (pu ?_)
    refine nil (Z3 [(6,.bool false)] ⟨rfl,qZt⟩ fun J => ?_)
    exact re hm (hS7.sel [3] rfl)
  refine pn ?_
  refine sq2 (sq2 (cd hm ?_ ?_)) <;> intro hb9 hm
  · refine sq2 ?_
    obtain⟨y4,hx4,hm⟩:=Q4 hm
    refine cS cf4 (Q0j (hS7.bun [0,3] [] rfl) (hG1.mono ch) hx4) ?_
    rintro _ T4 w8 im8 ⟨rfl,hS8,_⟩
    have hS8:=hS8.unb
    refine pu ?_
    refine fkC (d:=73) (c:=(y4&&((List.length y2.1.Words:Int) == 0))) 5 [(7,pt b3 0)] rfl (fun hk => ?_) fun J => ?_
    · rcases Bool.eq_false_or_eq_true y4 with hb10 | hb10
      · exact  gT (d0:=68) rfl rfl hb10 (pv (I8 rfl underlying32 rfl sizeOf26 rfl) (gT (d0:=68) rfl rfl hb10 (pv (K3 rfl isAgg26 (hS8.cell0 (i:=0) ⟨rfl,rfl⟩ (j:=7) rfl)) (gT (d0:=68) rfl rfl hb10 (pv (Q7x rfl underlying26) (gT (d0:=68) rfl rfl hb10 (pv (J8 rfl rfl rfl) (pv (V1 rfl hb10 rfl) (wlR (fun J=>hk J _ (by rw [hb10]; rfl)) ⟨rfl,rfl,qZt⟩)))))))))
      exact  gF4 (d0:=68) rfl rfl (by rw [hb10]; rfl) (pv (V2 rfl hb10 rfl) (wlR (fun J=>hk J _ (by rw [hb10]; rfl)) ⟨rfl,rfl,qZt⟩))
    refine pu ?_
    refine fkC (d:=78) (c:=((y4&&((List.length y2.1.Words:Int) == 0))&&(y2.1.Steps == 0))) 4 [] rfl (fun hk => ?_) fun J => ?_
    · rcases Bool.eq_false_or_eq_true (y4&&((List.length y2.1.Words:Int) == 0)) with hb11 | hb11
      · exact  gT (d0:=74) rfl rfl hb11 (pv (I8 rfl underlying32 rfl sizeOf3 rfl) (gT (d0:=74) rfl rfl hb11 (pv (K3 rfl isAgg3 (hS8.cell0 (i:=0) ⟨rfl,rfl⟩ (j:=9) rfl)) (gT (d0:=74) rfl rfl hb11 (pv (J8 rfl rfl rfl) (pv (V1 rfl hb11 rfl) (wlR (fun J=>hk J _ (by rw [hb11]; rfl)) ⟨rfl,qZt⟩)))))))
      exact  gF3 (d0:=74) rfl rfl (by rw [hb11]; rfl) (pv (V2 rfl hb11 rfl) (wlR (fun J=>hk J _ (by rw [hb11]; rfl)) ⟨rfl,qZt⟩))
    exact re hm (hS8.sel [1] rfl)
  refine pn ?_
  refine sq2 (rsS [2,0,1,1,0,0,1,0,1,2,2,0,0] [0,1,2,3,4,5,6,7,8,9,10,11,12] hS7 fun w9 im9 hS9 => ?_)
  obtain⟨y5,hx5,hm⟩:=Q4 hm
  refine sS [] cf4 (Q0j (hS9.bun (Q9 0 4) [] rfl) (hG1.mono ch) hx5) ?_
  rintro _ T5 w10 im10 ⟨rfl,hS10,_⟩
  have hS10:=hS10.unb
  refine pu ?_
  rcases bc hm with ⟨hb12,hm⟩ | ⟨hb12,hm⟩
  · obtain⟨y6,hx6,hm⟩:=Q4 hm
    refine sS [(2,.agg #[iv (List.getD y2.1.Part 0 0),iv (List.getD y2.1.Part 1 0),iv (List.getD y2.1.Part 2 0),iv (List.getD y2.1.Part 3 0),iv (List.getD y2.1.Part 4 0),iv (List.getD y2.1.Part 5 0),iv (List.getD y2.1.Part 6 0),sv a5 y2.1.Words c5,iv y2.1.Most,iv y2.1.Steps,iv y2.1.Fails])] cf8 (Q9o (hS10.bun [3,1,2,0] [] rfl) (h1.mono ch) (h2.mono ch) (h3.mono ch) (h4.mono ch) _ hx6) ?_
    rintro _ T6 w11 im11 ⟨a6,c6,a7,c7,rfl,hS11,h6,h7,_⟩
    refine pu ?_
    obtain⟨y7,hx7,hm⟩:=Q4 hm
    refine sS [] cf7 (Z2h (hS11.bun [0,3] [] rfl) (h5.mono ch) h6 h7 _ hx7) ?_
    rintro _ T7 w12 im12 ⟨rfl,hS12,_⟩
    refine pu ?_
    refine se (Z3 [(6,.bool y7)] ⟨rfl,qZt⟩ fun J => ?_)
    exact re hm (hS12.sel [0] rfl)
  refine pu ?_
  refine se (Z3 [(6,.bool false)] ⟨rfl,qZt⟩ fun J => ?_)
  exact re hm (hS10.sel [3] rfl)
end Go.Proofs.YtecakklofhfphaaGreatDoor
