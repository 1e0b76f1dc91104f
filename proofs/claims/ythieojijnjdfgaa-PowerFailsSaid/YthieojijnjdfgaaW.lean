/- That Go functions compute their models. Printed by gen2.py. -/
import Derived.Test.YthieojijnjdfgaaRows
import Derived.Test.YthieojijnjdfgaaFoc
import Derived.Test.YthieojijnjdfgaaTree
import Derived.Test.YthieojijnjdfgaaRange
import Derived.Test.YthieojijnjdfgaaM
set_option linter.unusedVariables false
namespace Go.Proofs.Ythieojijnjdfgaa
attribute [local irreducible] wpList wpQuiet Code.wp
def rPowerSupply : Rp PowerSupply := ((rPair (rSl (rInt .i64)) (rPair (rInt .i64) (rInt .i64)))).iso fun x => (x.Ticks, x.Room, x.On)
theorem rPowerSupply_open {T : Nat → Prop} {w : World} {cs : List Value} {x : PowerSupply} (h : rPowerSupply.rp T w cs x) : ∃ (a0 : Option Addr) (c0 : Nat), cs = [.slice a0 (List.length x.Ticks) c0, .int .i64 x.Room, .int .i64 x.On] ∧ SlR (rInt .i64) T w (.slice a0 (List.length x.Ticks) c0) x.Ticks := by
  obtain ⟨q1, y1, rfl, f1, g1⟩ := h
  obtain ⟨v2, rfl, s2⟩ := f1
  obtain ⟨b2, k2, rfl⟩ := s2.shape
  obtain ⟨q3, y3, rfl, f3, g3⟩ := g1
  cases f3
  cases g3
  exact ⟨b2, k2, rfl, s2⟩
theorem rPowerSupply_mk {T : Nat → Prop} {w : World} {x : PowerSupply} {a0 : Option Addr} {c0 : Nat} (e0 : SlR (rInt .i64) T w (.slice a0 (List.length x.Ticks) c0) x.Ticks) : rPowerSupply.rp T w [.slice a0 (List.length x.Ticks) c0, .int .i64 x.Room, .int .i64 x.On] x := ⟨_, _, rfl, ⟨_, rfl, e0⟩, ⟨_, _, rfl, rfl, rfl⟩⟩
def rPowerPlant : Rp PowerPlant := ((rPair rPowerSupply (rPair (rInt .i64) (rPair rBool (rPair (rInt .i64) (rSl (rInt .i64))))))).iso fun x => (x.Supply, x.kept, x.on, x.done, x.fails)
theorem rPowerPlant_open {T : Nat → Prop} {w : World} {cs : List Value} {x : PowerPlant} (h : rPowerPlant.rp T w cs x) : ∃ (a0 : Option Addr) (c0 : Nat) (a6 : Option Addr) (c6 : Nat), cs = [.slice a0 (List.length x.Supply.Ticks) c0, .int .i64 x.Supply.Room, .int .i64 x.Supply.On, .int .i64 x.kept, .bool x.on, .int .i64 x.done, .slice a6 (List.length x.fails) c6] ∧ SlR (rInt .i64) T w (.slice a0 (List.length x.Supply.Ticks) c0) x.Supply.Ticks ∧ SlR (rInt .i64) T w (.slice a6 (List.length x.fails) c6) x.fails := by
  obtain ⟨q1, y1, rfl, f1, g1⟩ := h
  obtain ⟨b2, k2, rfl, s2⟩ := rPowerSupply_open f1
  obtain ⟨q3, y3, rfl, f3, g3⟩ := g1
  cases f3
  obtain ⟨q4, y4, rfl, f4, g4⟩ := g3
  cases f4
  obtain ⟨q5, y5, rfl, f5, g5⟩ := g4
  cases f5
  obtain ⟨v6, rfl, s6⟩ := g5
  obtain ⟨b6, k6, rfl⟩ := s6.shape
  exact ⟨b2, k2, b6, k6, rfl, s2, s6⟩
theorem rPowerPlant_mk {T : Nat → Prop} {w : World} {x : PowerPlant} {a0 : Option Addr} {c0 : Nat} {a6 : Option Addr} {c6 : Nat} (e0 : SlR (rInt .i64) T w (.slice a0 (List.length x.Supply.Ticks) c0) x.Supply.Ticks) (e1 : SlR (rInt .i64) T w (.slice a6 (List.length x.fails) c6) x.fails) : rPowerPlant.rp T w [.slice a0 (List.length x.Supply.Ticks) c0, .int .i64 x.Supply.Room, .int .i64 x.Supply.On, .int .i64 x.kept, .bool x.on, .int .i64 x.done, .slice a6 (List.length x.fails) c6] x := ⟨_, _, rfl, (rPowerSupply_mk e0), ⟨_, _, rfl, rfl, ⟨_, _, rfl, rfl, ⟨_, _, rfl, rfl, ⟨_, rfl, e1⟩⟩⟩⟩⟩
def rref33Run : Rp ref33Run := ((rPair (rSl (rInt .i64)) (rInt .i64))).iso fun x => (x.Fails, x.Done)
theorem rref33Run_open {T : Nat → Prop} {w : World} {cs : List Value} {x : ref33Run} (h : rref33Run.rp T w cs x) : ∃ (a0 : Option Addr) (c0 : Nat), cs = [.slice a0 (List.length x.Fails) c0, .int .i64 x.Done] ∧ SlR (rInt .i64) T w (.slice a0 (List.length x.Fails) c0) x.Fails := by
  obtain ⟨q1, y1, rfl, f1, g1⟩ := h
  obtain ⟨v2, rfl, s2⟩ := f1
  obtain ⟨b2, k2, rfl⟩ := s2.shape
  cases g1
  exact ⟨b2, k2, rfl, s2⟩
theorem rref33Run_mk {T : Nat → Prop} {w : World} {x : ref33Run} {a0 : Option Addr} {c0 : Nat} (e0 : SlR (rInt .i64) T w (.slice a0 (List.length x.Fails) c0) x.Fails) : rref33Run.rp T w [.slice a0 (List.length x.Fails) c0, .int .i64 x.Done] x := ⟨_, _, rfl, ⟨_, rfl, e0⟩, rfl⟩
theorem cf5 : CallOk Try.prog 5 := ⟨⟨_, Try.func5, by kernel_rfl, by kernel_rfl⟩⟩
theorem cf6 : CallOk Try.prog 6 := ⟨⟨_, Try.func6, by kernel_rfl, by kernel_rfl⟩⟩
theorem cf7 : CallOk Try.prog 7 := ⟨⟨_, Try.func7, by kernel_rfl, by kernel_rfl⟩⟩
theorem cf8 : CallOk Try.prog 8 := ⟨⟨_, Try.func8, by kernel_rfl, by kernel_rfl⟩⟩
theorem cf9 : CallOk Try.prog 9 := ⟨⟨_, Try.func9, by kernel_rfl, by kernel_rfl⟩⟩
theorem cf10 : CallOk Try.prog 10 := ⟨⟨_, Try.func10, by kernel_rfl, by kernel_rfl⟩⟩
theorem cf11 : CallOk Try.prog 11 := ⟨⟨_, Try.func11, by kernel_rfl, by kernel_rfl⟩⟩
theorem cf12 : CallOk Try.prog 12 := ⟨⟨_, Try.func12, by kernel_rfl, by kernel_rfl⟩⟩
theorem cf13 : CallOk Try.prog 13 := ⟨⟨_, Try.func13, by kernel_rfl, by kernel_rfl⟩⟩
theorem cf14 : CallOk Try.prog 14 := ⟨⟨_, Try.func14, by kernel_rfl, by kernel_rfl⟩⟩
theorem cf15 : CallOk Try.prog 15 := ⟨⟨_, Try.func15, by kernel_rfl, by kernel_rfl⟩⟩
theorem cf16 : CallOk Try.prog 16 := ⟨⟨_, Try.func16, by kernel_rfl, by kernel_rfl⟩⟩
theorem cf17 : CallOk Try.prog 17 := ⟨⟨_, Try.func17, by kernel_rfl, by kernel_rfl⟩⟩
theorem cf18 : CallOk Try.prog 18 := ⟨⟨_, Try.func18, by kernel_rfl, by kernel_rfl⟩⟩
theorem el3 : ElemOk Try.prog 3 1 := ⟨by kernel_rfl, by decide⟩
theorem mix : Try.prog.follows .mixedOrders = true := by kernel_rfl

set_option maxRecDepth 100000 in
set_option maxHeartbeats 1000000 in
theorem power_Right_1_sim {g : World} {T0 : Nat → Prop} {w0 : World} {R : Assn} {p0 : Int} {r : Bool} (hS : Sep g T0 w0 [R])  (hm : power_Right_1 p0 = some r) :
    Calls Try.prog 14 #[.int .i64 p0] w0 (RetS T0 w0 fun T w v => v = .bool r ∧ Sep g T w [R] ∧ True) := by
  refine enter (args := [.int .i64 p0]) Try.func14 rfl Try.ntmps14 rfl fun J => ?_
  unfold power_Right_1 at hm
  refine sq2 ?_
  refine rg (pv (r_zb rfl) (nil (t_then ?_)))
  refine sq2 ?_
  refine rg (pv (r_mi rfl) (pv (r_ib rfl rfl rfl) (pv (r_mb rfl) (?_))))
  rcases Bool.eq_false_or_eq_true (decide (p0 < 0)) with hb1 | hb1
  · have hm := ctrue hb1 hm
    refine gF (d0 := 5) rfl rfl (by rw [hb1]; rfl) (gF (d0 := 5) rfl rfl (by rw [hb1]; rfl) (pv (r_pkt rfl hb1 rfl) (pv (r_zb rfl) (nil (t_thenR [(2, .bool true)] ⟨rfl, trivial⟩ fun J => ?_)))))
    have hm := Option.some.inj hm
    subst hm
    exact rtn (ret1 rfl rfl ⟨_, rfl, _, Im.refl, ⟨rfl, hS.sel [0] rfl, trivial⟩⟩)
  · have hm := cfalse hb1 hm
    refine gT (d0 := 5) rfl rfl hb1 (pv (r_mi rfl) (gT (d0 := 5) rfl rfl hb1 (pv (r_ib rfl rfl rfl) (pv (r_pkf rfl hb1 rfl) (pv (r_zb rfl) (nil (t_thenR [(2, .bool (decide (1048576 < p0)))] ⟨rfl, trivial⟩ fun J => ?_)))))))
    have hm := Option.some.inj hm
    subst hm
    exact rtn (ret1 rfl rfl ⟨_, rfl, _, Im.refl, ⟨rfl, hS.sel [0] rfl, trivial⟩⟩)

set_option maxRecDepth 100000 in
set_option maxHeartbeats 1000000 in
theorem slices_IndexFunc_sim {g : World} {T0 : Nat → Prop} {w0 : World} {R : Assn} {p0 : List Int} {a1 : Option Addr} {c1 : Nat} {r : Int} (hS : Sep g T0 w0 [R]) (h1 : SlR (rInt .i64) T0 w0 (.slice a1 (List.length p0) c1) p0) (hm : slices_IndexFunc p0 = some r) :
    Calls Try.prog 18 #[.slice a1 (List.length p0) c1, .func (.func 14) #[] #[]] w0 (RetS T0 w0 fun T w v => v = .int .i64 r ∧ Sep g T w [R] ∧ True) := by
  refine enter (args := [.slice a1 (List.length p0) c1, .func (.func 14) #[] #[]]) Try.func18 rfl Try.ntmps18 rfl fun J => ?_
  unfold slices_IndexFunc at hm
  refine sq2 ?_
  refine rg (pv (r_zi rfl) (nil (t_then ?_)))
  refine sq2 ?_
  refine sq2 ?_
  refine rg (pv (r_ms rfl) (pv (r_ln rfl Try.underlying22) (pv (r_mi rfl) (nil (t_then ?_)))))
  obtain ⟨o1, ho1, hq1⟩ := bindS hm
  obtain ⟨bd1, hbd1, ho1⟩ := loop_open ho1
  refine blk (wp_loop_ghost (fun m a w1 => ∃ (J : Nat → Value) (T1 : Nat → Prop) (x1 : Int), a = env (nf 19) J [(0, .slice a1 (List.length p0) c1), (1, .func (.func 14) #[] #[]), (7, .int .i64 (List.length p0 : Int)), (8, .int .i64 x1)] ∧ Im T0 w0 T1 w1 ∧ Sep g T1 w1 [R] ∧ loopM bd1 m x1 = some o1) NN ⟨_, _, 0, env_has ⟨rfl, rfl, rfl, rfl, trivial⟩, Im.refl, hS.sel [0] rfl, ho1⟩ ?_)
  rintro m _ w1 ⟨J, T1, x1, rfl, im1, hS1, ho1⟩
  obtain ⟨m1, z1, rfl, hm, hn1⟩ := loop_round ho1
  rw [hbd1] at hm
  refine sq2 ?_
  refine rg (pv (r_ib rfl rfl rfl) (nil (t_then ?_)))
  refine sq2 ?_
  refine cnd rfl (fun hb1 => ?_) (fun hb1 => ?_)
  · have hm := ctrue hb1 hm
    refine skp (t_then ?_)
    refine sq2 ?_
    refine blk ?_
    refine sq2 ?_
    refine rg (pv (r_mi rfl) (pv (r_zi rfl) (nil (t_then ?_))))
    refine sq2 ?_
    obtain ⟨u1, hx1, hm⟩ := bindS hm
    obtain ⟨b1, of1, cs1, k1, cp1, hv1, hp1, hl1, he1, hr1, hc1, hT1⟩ := (h1.mono im1).ixT hx1 rfl
    cases hr1
    obtain ⟨y1, hx2, hm⟩ := bindS hm
    refine rg (pv (r_mf rfl) (pv (r_ms rfl) (pv (r_mi rfl) (pv (r_ixe hv1 rfl Try.underlying22 Try.sizeOf3 hp1 hl1 he1) (pv (r_ld rfl Try.isAgg3 (hc1.get (j := 0) rfl)) (wl rfl (calS cf14 rfl (power_Right_1_sim (p0 := u1) (hS1.bun [0] [] rfl)  hx2) rfl fun v1 T2 w2 im2 rv1 => ?_)))))))
    obtain ⟨rfl, hS2, _⟩ := rv1
    have hS2 : Sep g T2 w2 [R] := hS2.unb
    refine nil (t_thenR [(0, .slice a1 (List.length p0) c1), (1, .func (.func 14) #[] #[]), (5, .int .i64 x1), (7, .int .i64 (List.length p0 : Int)), (8, .int .i64 x1), (16, .bool y1)] ⟨rfl, rfl, rfl, rfl, rfl, rfl, trivial⟩ fun J => ?_)
    refine cnd rfl (fun hb2 => ?_) (fun hb2 => ?_)
    · have hm := ctrue hb2 hm
      refine sq2 ?_
      refine rg (pv (r_mi rfl) (pv (r_zi rfl) (nil (t_thenR [(4, .int .i64 x1)] ⟨rfl, trivial⟩ fun J => ?_))))
      have hm := Option.some.inj hm
      subst hm
      have hn1 : _ = Lp.ret _ := hn1
      subst hn1
      have hm := thn_ret hq1
      have hm := Option.some.inj hm
      subst hm
      exact rtn (r_blk (r_then (r_then (r_blk (r_then (ret1 rfl rfl ⟨_, rfl, _, (Im.trans im1 im2), ⟨rfl, hS2.sel [0] rfl, trivial⟩⟩))))))
    · have hm := cfalse hb2 hm
      refine skp (t_blk (t_then ?_))
      have hm := Option.some.inj hm
      subst hm
      exact rg (pv (r_ib rfl rfl rfl) (pv (r_mi rfl) (nil (t_then ⟨m1, Nat.lt_succ_self _, _, _, (IntKind.wrap .i64 (x1 + 1)), env_has ⟨rfl, rfl, rfl, rfl, trivial⟩, (Im.trans im1 im2), hS2.sel [0] rfl, hn1⟩))))
  · have hm := cfalse hb1 hm
    have hm := Option.some.inj hm
    subst hm
    have hn1 : _ = Lp.brk _ := hn1
    subst hn1
    have hm := thn_brk hq1
    refine xt (x_then (x_then (x_eq (t_thenR [] trivial fun J => ?_))))
    refine sq2 ?_
    refine rg (pv (r_zi rfl) (nil (t_then ?_)))
    have hm := Option.some.inj hm
    subst hm
    exact rtn (ret1 rfl rfl ⟨_, rfl, _, im1, ⟨rfl, hS1.sel [0] rfl, trivial⟩⟩)

set_option maxRecDepth 100000 in
set_option maxHeartbeats 1000000 in
theorem slices_ContainsFunc_sim {g : World} {T0 : Nat → Prop} {w0 : World} {R : Assn} {p0 : List Int} {a1 : Option Addr} {c1 : Nat} {r : Bool} (hS : Sep g T0 w0 [R]) (h1 : SlR (rInt .i64) T0 w0 (.slice a1 (List.length p0) c1) p0) (hm : slices_ContainsFunc p0 = some r) :
    Calls Try.prog 15 #[.slice a1 (List.length p0) c1, .func (.func 14) #[] #[]] w0 (RetS T0 w0 fun T w v => v = .bool r ∧ Sep g T w [R] ∧ True) := by
  refine enter (args := [.slice a1 (List.length p0) c1, .func (.func 14) #[] #[]]) Try.func15 rfl Try.ntmps15 rfl fun J => ?_
  unfold slices_ContainsFunc at hm
  refine sq2 ?_
  refine rg (pv (r_zb rfl) (nil (t_then ?_)))
  refine sq2 ?_
  obtain ⟨y1, hx1, hm⟩ := bindS hm
  refine rg (pv (r_ms rfl) (pv (r_mf rfl) (wl rfl (calS cf18 rfl (slices_IndexFunc_sim (p0 := p0) (hS.bun [0] [] rfl) h1 hx1) rfl fun v1 T1 w1 im1 rv1 => ?_))))
  obtain ⟨rfl, hS1, _⟩ := rv1
  have hS1 : Sep g T1 w1 [R] := hS1.unb
  refine pv (r_ib rfl rfl rfl) (pv (r_zb rfl) (nil (t_thenR [(4, .bool (decide (0 ≤ y1)))] ⟨rfl, trivial⟩ fun J => ?_)))
  have hm := Option.some.inj hm
  subst hm
  exact rtn (ret1 rfl rfl ⟨_, rfl, _, im1, ⟨rfl, hS1.sel [0] rfl, trivial⟩⟩)

set_option maxRecDepth 100000 in
set_option maxHeartbeats 1000000 in
theorem power_Right_sim {g : World} {T0 : Nat → Prop} {w0 : World} {R : Assn} {p0 : PowerSupply} {a1 : Option Addr} {c1 : Nat} {r : Bool} (hS : Sep g T0 w0 [R]) (h1 : SlR (rInt .i64) T0 w0 (.slice a1 (List.length p0.Ticks) c1) p0.Ticks) (hm : power_Right p0 = some r) :
    Calls Try.prog 9 #[.agg #[.slice a1 (List.length p0.Ticks) c1, .int .i64 p0.Room, .int .i64 p0.On]] w0 (RetS T0 w0 fun T w v => v = .bool r ∧ Sep g T w [R] ∧ True) := by
  refine enter (args := [.agg #[.slice a1 (List.length p0.Ticks) c1, .int .i64 p0.Room, .int .i64 p0.On]]) Try.func9 rfl Try.ntmps9 rfl fun J => ?_
  unfold power_Right at hm
  refine sq2 ?_
  refine rg (wl rfl (bxS (cs := [.slice a1 (List.length p0.Ticks) c1, .int .i64 p0.Room, .int .i64 p0.On]) rfl rfl hS fun w1 b1 im1 hS1 => ?_))
  refine pv (r_zb rfl) (nil (t_then ?_))
  refine sq2 ?_
  refine rg (pv (r_zf rfl) (nil (t_then ?_)))
  refine sq2 ?_
  refine rg (pv (r_fa rfl Try.underlying24 rfl Try.sizeOf22 rfl) (pv (r_ld rfl Try.isAgg22 (hS1.cell0 (i := 0) ⟨rfl, rfl⟩ (j := 0) rfl)) (pv (r_ln rfl Try.underlying22) (pv (r_ib rfl rfl rfl) (pv (r_mb rfl) (?_))))))
  rcases Bool.eq_false_or_eq_true (decide (1 ≤ (List.length p0.Ticks : Int))) with hb1 | hb1
  · have hm := ctrue hb1 hm
    refine gT (d0 := 8) rfl rfl hb1 (pv (r_fa rfl Try.underlying24 rfl Try.sizeOf22 rfl) (gT (d0 := 8) rfl rfl hb1 (pv (r_ld rfl Try.isAgg22 (hS1.cell0 (i := 0) ⟨rfl, rfl⟩ (j := 0) rfl)) (gT (d0 := 8) rfl rfl hb1 (pv (r_ln rfl Try.underlying22) (gT (d0 := 8) rfl rfl hb1 (pv (r_ib rfl rfl rfl) (pv (r_pkt rfl hb1 rfl) (pv (r_mb rfl) (?_))))))))))
    rcases Bool.eq_false_or_eq_true (decide ((List.length p0.Ticks : Int) ≤ 4096)) with hb2 | hb2
    · have hm := ctrue hb2 hm
      obtain ⟨y1, hx1, hm⟩ := bindS hm
      refine gT (d0 := 14) rfl rfl hb2 (pv (r_fa rfl Try.underlying24 rfl Try.sizeOf22 rfl) (gT (d0 := 14) rfl rfl hb2 (pv (r_ld rfl Try.isAgg22 (hS1.cell0 (i := 0) ⟨rfl, rfl⟩ (j := 0) rfl)) (gT (d0 := 14) rfl rfl hb2 (pv (r_mf rfl) (gT (d0 := 14) rfl rfl hb2 (wl rfl (calS cf15 rfl (slices_ContainsFunc_sim (p0 := p0.Ticks) (hS1.bun [0, 1] [] rfl) (h1.mono im1) hx1) rfl fun v1 T1 w2 im2 rv1 => ?_))))))))
      obtain ⟨rfl, hS2, _⟩ := rv1
      have hS2 : Sep g T1 w2 [boxA b1 [.slice a1 (List.length p0.Ticks) c1, .int .i64 p0.Room, .int .i64 p0.On], R] := hS2.unb
      refine gT (d0 := 14) rfl rfl hb2 (pv (r_nt rfl) (pv (r_pkt rfl hb2 rfl) (pv (r_mb rfl) (?_))))
      rcases Bool.eq_false_or_eq_true (!y1) with hb3 | hb3
      · have hm := ctrue hb3 hm
        refine gT (d0 := 21) rfl rfl hb3 (pv (r_fa rfl Try.underlying24 rfl Try.sizeOf3 rfl) (gT (d0 := 21) rfl rfl hb3 (pv (r_ld rfl Try.isAgg3 (hS2.cell0 (i := 0) ⟨rfl, rfl⟩ (j := 2) rfl)) (gT (d0 := 21) rfl rfl hb3 (pv (r_ib rfl rfl rfl) (pv (r_pkt rfl hb3 rfl) (pv (r_mb rfl) (?_))))))))
        rcases Bool.eq_false_or_eq_true (decide (1 ≤ p0.On)) with hb4 | hb4
        · have hm := ctrue hb4 hm
          refine gT (d0 := 26) rfl rfl hb4 (pv (r_fa rfl Try.underlying24 rfl Try.sizeOf3 rfl) (gT (d0 := 26) rfl rfl hb4 (pv (r_ld rfl Try.isAgg3 (hS2.cell0 (i := 0) ⟨rfl, rfl⟩ (j := 2) rfl)) (gT (d0 := 26) rfl rfl hb4 (pv (r_fa rfl Try.underlying24 rfl Try.sizeOf3 rfl) (gT (d0 := 26) rfl rfl hb4 (pv (r_ld rfl Try.isAgg3 (hS2.cell0 (i := 0) ⟨rfl, rfl⟩ (j := 1) rfl)) (gT (d0 := 26) rfl rfl hb4 (pv (r_ib rfl rfl rfl) (pv (r_pkt rfl hb4 rfl) (pv (r_mb rfl) (?_))))))))))))
          rcases Bool.eq_false_or_eq_true (decide (p0.On ≤ p0.Room)) with hb5 | hb5
          · have hm := ctrue hb5 hm
            refine gT (d0 := 33) rfl rfl hb5 (pv (r_fa rfl Try.underlying24 rfl Try.sizeOf3 rfl) (gT (d0 := 33) rfl rfl hb5 (pv (r_ld rfl Try.isAgg3 (hS2.cell0 (i := 0) ⟨rfl, rfl⟩ (j := 1) rfl)) (gT (d0 := 33) rfl rfl hb5 (pv (r_ib rfl rfl rfl) (pv (r_pkt rfl hb5 rfl) (pv (r_zb rfl) (nil (t_thenR [(2, .bool (decide (p0.Room ≤ 1048576)))] ⟨rfl, trivial⟩ fun J => ?_)))))))))
            have hm := Option.some.inj hm
            subst hm
            exact rtn (ret1 rfl rfl ⟨_, rfl, _, (Im.trans im1 im2), ⟨rfl, hS2.sel [1] rfl, trivial⟩⟩)
          · have hm := cfalse hb5 hm
            refine gF (d0 := 33) rfl rfl (by rw [hb5]; rfl) (gF (d0 := 33) rfl rfl (by rw [hb5]; rfl) (gF (d0 := 33) rfl rfl (by rw [hb5]; rfl) (pv (r_pkf rfl hb5 rfl) (pv (r_zb rfl) (nil (t_thenR [(2, .bool false)] ⟨rfl, trivial⟩ fun J => ?_))))))
            have hm := Option.some.inj hm
            subst hm
            exact rtn (ret1 rfl rfl ⟨_, rfl, _, (Im.trans im1 im2), ⟨rfl, hS2.sel [1] rfl, trivial⟩⟩)
        · have hm := cfalse hb4 hm
          refine gF (d0 := 26) rfl rfl (by rw [hb4]; rfl) (gF (d0 := 26) rfl rfl (by rw [hb4]; rfl) (gF (d0 := 26) rfl rfl (by rw [hb4]; rfl) (gF (d0 := 26) rfl rfl (by rw [hb4]; rfl) (gF (d0 := 26) rfl rfl (by rw [hb4]; rfl) (pv (r_pkf rfl hb4 rfl) (pv (r_mb rfl) (gF (d0 := 33) rfl rfl rfl (gF (d0 := 33) rfl rfl rfl (gF (d0 := 33) rfl rfl rfl (pv (r_pkf rfl rfl rfl) (pv (r_zb rfl) (nil (t_thenR [(2, .bool false)] ⟨rfl, trivial⟩ fun J => ?_)))))))))))))
          have hm := Option.some.inj hm
          subst hm
          exact rtn (ret1 rfl rfl ⟨_, rfl, _, (Im.trans im1 im2), ⟨rfl, hS2.sel [1] rfl, trivial⟩⟩)
      · have hm := cfalse hb3 hm
        refine gF (d0 := 21) rfl rfl (by rw [hb3]; rfl) (gF (d0 := 21) rfl rfl (by rw [hb3]; rfl) (gF (d0 := 21) rfl rfl (by rw [hb3]; rfl) (pv (r_pkf rfl hb3 rfl) (pv (r_mb rfl) (gF (d0 := 26) rfl rfl rfl (gF (d0 := 26) rfl rfl rfl (gF (d0 := 26) rfl rfl rfl (gF (d0 := 26) rfl rfl rfl (gF (d0 := 26) rfl rfl rfl (pv (r_pkf rfl rfl rfl) (pv (r_mb rfl) (gF (d0 := 33) rfl rfl rfl (gF (d0 := 33) rfl rfl rfl (gF (d0 := 33) rfl rfl rfl (pv (r_pkf rfl rfl rfl) (pv (r_zb rfl) (nil (t_thenR [(2, .bool false)] ⟨rfl, trivial⟩ fun J => ?_))))))))))))))))))
        have hm := Option.some.inj hm
        subst hm
        exact rtn (ret1 rfl rfl ⟨_, rfl, _, (Im.trans im1 im2), ⟨rfl, hS2.sel [1] rfl, trivial⟩⟩)
    · have hm := cfalse hb2 hm
      refine gF (d0 := 14) rfl rfl (by rw [hb2]; rfl) (gF (d0 := 14) rfl rfl (by rw [hb2]; rfl) (gF (d0 := 14) rfl rfl (by rw [hb2]; rfl) (gF (d0 := 14) rfl rfl (by rw [hb2]; rfl) (gF (d0 := 14) rfl rfl (by rw [hb2]; rfl) (pv (r_pkf rfl hb2 rfl) (pv (r_mb rfl) (gF (d0 := 21) rfl rfl rfl (gF (d0 := 21) rfl rfl rfl (gF (d0 := 21) rfl rfl rfl (pv (r_pkf rfl rfl rfl) (pv (r_mb rfl) (gF (d0 := 26) rfl rfl rfl (gF (d0 := 26) rfl rfl rfl (gF (d0 := 26) rfl rfl rfl (gF (d0 := 26) rfl rfl rfl (gF (d0 := 26) rfl rfl rfl (pv (r_pkf rfl rfl rfl) (pv (r_mb rfl) (gF (d0 := 33) rfl rfl rfl (gF (d0 := 33) rfl rfl rfl (gF (d0 := 33) rfl rfl rfl (pv (r_pkf rfl rfl rfl) (pv (r_zb rfl) (nil (t_thenR [(2, .bool false)] ⟨rfl, trivial⟩ fun J => ?_)))))))))))))))))))))))))
      have hm := Option.some.inj hm
      subst hm
      exact rtn (ret1 rfl rfl ⟨_, rfl, _, im1, ⟨rfl, hS1.sel [1] rfl, trivial⟩⟩)
  · have hm := cfalse hb1 hm
    refine gF (d0 := 8) rfl rfl (by rw [hb1]; rfl) (gF (d0 := 8) rfl rfl (by rw [hb1]; rfl) (gF (d0 := 8) rfl rfl (by rw [hb1]; rfl) (gF (d0 := 8) rfl rfl (by rw [hb1]; rfl) (pv (r_pkf rfl hb1 rfl) (pv (r_mb rfl) (gF (d0 := 14) rfl rfl rfl (gF (d0 := 14) rfl rfl rfl (gF (d0 := 14) rfl rfl rfl (gF (d0 := 14) rfl rfl rfl (gF (d0 := 14) rfl rfl rfl (pv (r_pkf rfl rfl rfl) (pv (r_mb rfl) (gF (d0 := 21) rfl rfl rfl (gF (d0 := 21) rfl rfl rfl (gF (d0 := 21) rfl rfl rfl (pv (r_pkf rfl rfl rfl) (pv (r_mb rfl) (gF (d0 := 26) rfl rfl rfl (gF (d0 := 26) rfl rfl rfl (gF (d0 := 26) rfl rfl rfl (gF (d0 := 26) rfl rfl rfl (gF (d0 := 26) rfl rfl rfl (pv (r_pkf rfl rfl rfl) (pv (r_mb rfl) (gF (d0 := 33) rfl rfl rfl (gF (d0 := 33) rfl rfl rfl (gF (d0 := 33) rfl rfl rfl (pv (r_pkf rfl rfl rfl) (pv (r_zb rfl) (nil (t_thenR [(2, .bool false)] ⟨rfl, trivial⟩ fun J => ?_)))))))))))))))))))))))))))))))
    have hm := Option.some.inj hm
    subst hm
    exact rtn (ret1 rfl rfl ⟨_, rfl, _, im1, ⟨rfl, hS1.sel [1] rfl, trivial⟩⟩)

set_option maxRecDepth 100000 in
set_option maxHeartbeats 1000000 in
theorem power_coming_sim {g : World} {T0 : Nat → Prop} {w0 : World} {R : Assn} {p0 : List Int} {a1 : Option Addr} {c1 : Nat} {p1 : Int} {r : Int × (List Int)} (hS : Sep g T0 w0 [R]) (h1 : SlR (rInt .i64) T0 w0 (.slice a1 (List.length p0) c1) p0) (hm : power_coming p0 p1 = some r) :
    Calls Try.prog 12 #[.slice a1 (List.length p0) c1, .int .i64 p1] w0 (RetS T0 w0 fun T w v => ∃ (b3 : Nat) (b4 : Nat) (a2 : Option Addr) (c2 : Nat), v = .func (.func 17) #[] #[.pointer (some ⟨b3, 0, none⟩), .pointer (some ⟨b4, 0, none⟩)] ∧ Sep g T w [R, boxA b3 [.int .i64 r.1], boxA b4 [.slice a2 (List.length r.2) c2]] ∧ SlR (rInt .i64) T w (.slice a2 (List.length r.2) c2) r.2 ∧ True) := by
  refine enter (args := [.slice a1 (List.length p0) c1, .int .i64 p1]) Try.func12 rfl Try.ntmps12 rfl fun J => ?_
  unfold power_coming at hm
  refine sq2 ?_
  refine rg (wl rfl (bxS (cs := [.slice a1 (List.length p0) c1]) rfl rfl hS fun w1 b1 im1 hS1 => ?_))
  refine wl rfl (bxS (cs := [.int .i64 p1]) rfl rfl hS1 fun w2 b2 im2 hS2 => ?_)
  refine pv (r_zx (v := .nilFunc) rfl) (nil (t_then ?_))
  refine sq2 ?_
  refine rg (pv (r_mkf (u := .func (.func 17) #[] #[.pointer (some ⟨b2, 0, none⟩), .pointer (some ⟨b1, 0, none⟩)]) rfl) (pv (r_zf rfl) (nil (t_thenR [(4, .func (.func 17) #[] #[.pointer (some ⟨b2, 0, none⟩), .pointer (some ⟨b1, 0, none⟩)])] ⟨rfl, trivial⟩ fun J => ?_))))
  have hm := Option.some.inj hm
  subst hm
  exact rtn (ret1 rfl rfl ⟨_, rfl, _, (Im.trans im1 im2), ⟨_, _, _, _, rfl, hS2.sel [2, 0, 1] rfl, (h1.mono (Im.trans im1 im2)), trivial⟩⟩)

set_option maxRecDepth 100000 in
set_option maxHeartbeats 1000000 in
theorem power_coming_1_sim {g : World} {T0 : Nat → Prop} {w0 : World} {R : Assn} {σ ε : Type} {p0 : σ → Int → Option (Lp σ ε)} {p1 : σ} {U_p0 : Lp σ ε → Assn} {l_p0 : Nat} {p2 : Int} {b_p2 o_p2 : Nat} {H_p2 : List Value → Assn} {p3 : List Int} {b_p3 o_p3 : Nat} {H_p3 : List Value → Assn} {a1 : Option Addr} {c1 : Nat} {r : (Lp σ ε)} (hS : Sep g T0 w0 [R, U_p0 (.go p1), H_p2 [.int .i64 p2], H_p3 [.slice a1 (List.length p3) c1]]) (hY_p0 : ∀ (T2 : Nat → Prop) (w2 : World) (s : σ) (q0 : Int) (z : Lp σ ε) (R2 : Assn), Im T0 w0 T2 w2 → Sep g T2 w2 [R2, U_p0 (.go s)] → p0 s q0 = some z → YieldS Try.prog l_p0 #[.int .i64 q0] T2 w2 fun T3 w3 b => b = z.isGo ∧ Sep g T3 w3 [R2, U_p0 z]) (hL_p2 : Ln b_p2 o_p2 H_p2) (hL_p3 : Ln b_p3 o_p3 H_p3) (h1 : SlR (rInt .i64) T0 w0 (.slice a1 (List.length p3) c1) p3) (hm : power_coming_1 p0 p1 p2 p3 = some r) :
    Calls Try.prog 17 #[.func (.yield l_p0) #[] #[], .pointer (some ⟨b_p2, o_p2, none⟩), .pointer (some ⟨b_p3, o_p3, none⟩)] w0 (RetS T0 w0 fun T w v => v = .tuple #[] ∧ Sep g T w [R, U_p0 r, H_p2 [.int .i64 p2], H_p3 [.slice a1 (List.length p3) c1]] ∧ True) := by
  refine enter (args := [.func (.yield l_p0) #[] #[], .pointer (some ⟨b_p2, o_p2, none⟩), .pointer (some ⟨b_p3, o_p3, none⟩)]) Try.func17 rfl Try.ntmps17 rfl fun J => ?_
  unfold power_coming_1 at hm
  refine sq2 ?_
  refine rg (pv (r_ld rfl Try.isAgg3 (hS.cellB (i := 2) ⟨rfl, rfl⟩ hL_p2 (j := 0) rfl)) (pv (r_mi rfl) (nil (t_then ?_))))
  obtain ⟨o1, ho1, hq1⟩ := bindS hm
  obtain ⟨bd1, hbd1, ho1⟩ := loop_open ho1
  refine blk (wp_loop_ghost (fun m a w1 => ∃ (J : Nat → Value) (T1 : Nat → Prop) (x1 : σ) (x2 : Int), a = env (nf 20) J [(0, .func (.yield l_p0) #[] #[]), (2, .pointer (some ⟨b_p3, o_p3, none⟩)), (5, .int .i64 p2), (6, .int .i64 x2)] ∧ Im T0 w0 T1 w1 ∧ Sep g T1 w1 [R, U_p0 (.go x1), H_p2 [.int .i64 p2], H_p3 [.slice a1 (List.length p3) c1]] ∧ loopM bd1 m (x1, x2) = some o1) NN ⟨_, _, p1, 0, env_has ⟨rfl, rfl, rfl, rfl, trivial⟩, Im.refl, hS.sel [0, 1, 2, 3] rfl, ho1⟩ ?_)
  rintro m _ w1 ⟨J, T1, x1, x2, rfl, im1, hS1, ho1⟩
  obtain ⟨m1, z1, rfl, hm, hn1⟩ := loop_round ho1
  rw [hbd1] at hm
  refine sq2 ?_
  refine rg (pv (r_ib rfl rfl rfl) (nil (t_then ?_)))
  refine sq2 ?_
  refine cnd rfl (fun hb1 => ?_) (fun hb1 => ?_)
  · have hm := ctrue hb1 hm
    refine skp (t_then ?_)
    refine sq2 ?_
    refine blk ?_
    refine sq2 ?_
    refine rg (pv (r_mi rfl) (pv (r_zi rfl) (nil (t_then ?_))))
    refine sq2 ?_
    refine rs [0, 1, 0, 1, 0, 0, 0, 1, 2, 0] [0, 1, 2, 3, 4, 5, 6, 7, 8, 9] mix (by kernel_rfl) hS1.lt fun w2 i1 => ?_
    have im2 := i1.imm
    have hS2 := hS1.keep i1 (fun _ h => h)
    obtain ⟨_, hz1, hm⟩ := bindS hm
    have hz1 := nz_some hz1
    obtain ⟨u1, hx1, hm⟩ := bindS hm
    obtain ⟨b1, of1, cs1, k1, cp1, hv1, hp1, hl1, he1, hr1, hc1, hT1⟩ := (h1.mono (Im.trans im1 im2)).ixT hx1 rfl
    cases hr1
    obtain ⟨z1, hx2, hm⟩ := bindS hm
    refine s0 rfl trivial (fun _ => r_mf rfl) rfl (s1 rfl trivial (r_ld rfl Try.isAgg22 (hS2.cellB (i := 3) ⟨rfl, rfl⟩ hL_p3 (j := 0) rfl)) rfl (s0 rfl trivial (fun _ => r_mi rfl) rfl (s1 rfl trivial (r_ld rfl Try.isAgg22 (hS2.cellB (i := 3) ⟨rfl, rfl⟩ hL_p3 (j := 0) rfl)) rfl (s0 rfl trivial (fun _ => r_ln rfl Try.underlying22) rfl (s0 rfl trivial (fun _ => r_irm rfl rfl hz1) rfl (s0 rfl trivial (fun _ => r_ixe hv1 rfl Try.underlying22 Try.sizeOf3 hp1 hl1 he1) rfl (s1 rfl trivial (r_ld rfl Try.isAgg3 (hc1.get (j := 0) rfl)) rfl (s2I [] rfl trivial rfl (by kernel_rfl) (yS rfl rfl (hY_p0 _ _ _ _ _ _ (Im.trans im1 im2) (hS2.bun [0, 2, 3] [1] rfl) hx2) fun b2 T2 w3 im3 rv1 => ?_)))))))))
    obtain ⟨hb2, hS3⟩ := rv1
    have hS3 : Sep g T2 w3 [R, H_p2 [.int .i64 p2], H_p3 [.slice a1 (List.length p3) c1], U_p0 z1] := hS3.unb
    refine ⟨st0, ?_⟩
    rcases go_or z1 with ⟨s1, rfl⟩ | hz2
    · have hb2 : b2 = true := hb2
      subst hb2
      have hm := gone_go hm
      refine s0 rfl trivial (fun _ => r_nt rfl) rfl (se (t_thenR [(0, .func (.yield l_p0) #[] #[]), (2, .pointer (some ⟨b_p3, o_p3, none⟩)), (5, .int .i64 p2), (6, .int .i64 x2), (18, .bool false)] ⟨rfl, rfl, rfl, rfl, rfl, trivial⟩ fun J => ?_))
      refine cnd (b := false) rfl (fun h => nomatch h) (fun _ => ?_)
      refine skp (t_blk (t_then ?_))
      have hm := Option.some.inj hm
      subst hm
      exact rg (pv (r_ib rfl rfl rfl) (pv (r_mi rfl) (nil (t_then ⟨m1, Nat.lt_succ_self _, _, _, s1, (IntKind.wrap .i64 (x2 + 1)), env_has ⟨rfl, rfl, rfl, rfl, trivial⟩, (Im.trans im1 (Im.trans im2 im3)), hS3.sel [0, 3, 1, 2] rfl, hn1⟩))))
    · have hb2 : b2 = false := hb2.trans hz2
      subst hb2
      have hm := gone_no hz2 hm
      refine s0 rfl trivial (fun _ => r_nt rfl) rfl (se (t_thenR [(0, .func (.yield l_p0) #[] #[]), (2, .pointer (some ⟨b_p3, o_p3, none⟩)), (5, .int .i64 p2), (6, .int .i64 x2), (18, .bool true)] ⟨rfl, rfl, rfl, rfl, rfl, trivial⟩ fun J => ?_))
      refine cnd (b := true) rfl (fun _ => ?_) (fun h => nomatch h)
      have hm := Option.some.inj hm
      subst hm
      have hn1 : _ = Lp.ret _ := hn1
      subst hn1
      have hm := thn_ret hq1
      have hm := Option.some.inj hm
      subst hm
      exact rtn (r_blk (r_then (r_then (r_blk (ret0 rfl ⟨_, rfl, _, (Im.trans im1 (Im.trans im2 im3)), ⟨rfl, hS3.sel [0, 3, 1, 2] rfl, trivial⟩⟩)))))
  · have hm := cfalse hb1 hm
    have hm := Option.some.inj hm
    subst hm
    have hn1 : _ = Lp.brk _ := hn1
    subst hn1
    have hm := thn_brk hq1
    have hm := Option.some.inj hm
    subst hm
    exact xt (x_then (x_then (x_eq (end0 rfl ⟨_, rfl, _, im1, ⟨rfl, hS1.sel [0, 1, 2, 3] rfl, trivial⟩⟩))))

set_option maxRecDepth 100000 in
set_option maxHeartbeats 1000000 in
theorem power_plant_tick_sim {g : World} {T0 : Nat → Prop} {w0 : World} {R : Assn} {p0 : PowerPlant} {b_p0 o_p0 : Nat} {H_p0 : List Value → Assn} {a1 : Option Addr} {c1 : Nat} {a2 : Option Addr} {n1 : Nat} {c2 : Nat} {p1 : Int} {r : PowerPlant} (hS : Sep g T0 w0 [R, H_p0 [.slice a1 (List.length p0.Supply.Ticks) c1, .int .i64 p0.Supply.Room, .int .i64 p0.Supply.On, .int .i64 p0.kept, .bool p0.on, .int .i64 p0.done, .slice a2 n1 c2], ownA (rInt .i64) 3 (.slice a2 n1 c2) p0.fails]) (hL_p0 : Ln b_p0 o_p0 H_p0) (h1 : SlR (rInt .i64) T0 w0 (.slice a1 (List.length p0.Supply.Ticks) c1) p0.Supply.Ticks) (hm : power_plant_tick p0 p1 = some r) :
    Calls Try.prog 13 #[.pointer (some ⟨b_p0, o_p0, none⟩), .int .i64 p1] w0 (RetS T0 w0 fun T w v => ∃ (a7 : Option Addr) (c7 : Nat) (a8 : Option Addr) (n5 : Nat) (c8 : Nat), v = .tuple #[] ∧ Sep g T w [R, H_p0 [.slice a7 (List.length r.Supply.Ticks) c7, .int .i64 r.Supply.Room, .int .i64 r.Supply.On, .int .i64 r.kept, .bool r.on, .int .i64 r.done, .slice a8 n5 c8], ownA (rInt .i64) 3 (.slice a8 n5 c8) r.fails] ∧ SlR (rInt .i64) T w (.slice a7 (List.length r.Supply.Ticks) c7) r.Supply.Ticks ∧ True) := by
  refine enter (args := [.pointer (some ⟨b_p0, o_p0, none⟩), .int .i64 p1]) Try.func13 rfl Try.ntmps13 rfl fun J => ?_
  unfold power_plant_tick at hm
  refine sq2 ?_
  refine rs [0, 0, 0, 0, 1, 0, 0, 0, 0, 0, 0, 1, 0, 0, 0, 2] [0, 1, 2, 3, 4, 5, 6, 7, 8, 9, 10, 11, 12, 13, 14, 15] mix (by kernel_rfl) hS.lt fun w1 i1 => ?_
  have im1 := i1.imm
  have hS1 := hS.keep i1 (fun _ h => h)
  refine s0 rfl trivial (fun _ => r_mp rfl) rfl (s0 rfl trivial (fun _ => r_mp rfl) rfl (s0 rfl trivial (fun _ => r_nc rfl) rfl (s0 rfl trivial (fun _ => r_fa rfl Try.underlying37 rfl Try.sizeOf3 rfl) rfl (s1 rfl trivial (r_ld rfl Try.isAgg3 (hS1.cellB (i := 1) ⟨rfl, rfl⟩ hL_p0 (j := 3) rfl)) rfl (s0 rfl trivial (fun _ => r_mi rfl) rfl (s0 rfl trivial (fun _ => r_ib rfl rfl rfl) rfl (s0 rfl trivial (fun _ => r_mp rfl) rfl (s0 rfl trivial (fun _ => r_nc rfl) rfl (s0 rfl trivial (fun _ => r_fa rfl Try.underlying37 rfl Try.sizeOf24 rfl) rfl (s0 rfl trivial (fun _ => r_fa rfl Try.underlying24 rfl Try.sizeOf3 rfl) rfl (s1 rfl trivial (r_ld rfl Try.isAgg3 (hS1.cellB (i := 1) ⟨rfl, rfl⟩ hL_p0 (j := 1) rfl)) rfl (s0 rfl trivial (fun _ => r_imn rfl rfl) rfl (s0 rfl trivial (fun _ => r_nc rfl) rfl (s0 rfl trivial (fun _ => r_fa rfl Try.underlying37 rfl Try.sizeOf3 rfl) rfl (s2 [] rfl trivial rfl (by kernel_rfl) (stB (q := 1) (j := 3) hS1 ⟨rfl, rfl⟩ hL_p0 rfl rfl rfl Try.sizeOf3 rfl rfl rfl fun w2 im2 hS2 => ?_))))))))))))))))
  have hS2 : Sep g T0 w2 [R, H_p0 [.slice a1 (List.length p0.Supply.Ticks) c1, .int .i64 p0.Supply.Room, .int .i64 p0.Supply.On, .int .i64 (min (IntKind.wrap .i64 (p0.kept + p1)) p0.Supply.Room), .bool p0.on, .int .i64 p0.done, .slice a2 n1 c2], ownA (rInt .i64) 3 (.slice a2 n1 c2) p0.fails] := hS2
  refine ⟨st0, ?_⟩
  refine se (t_thenR [(0, .pointer (some ⟨b_p0, o_p0, none⟩))] ⟨rfl, trivial⟩ fun J => ?_)
  obtain ⟨kk1, hkk1, hm⟩ := jn_open hm
  refine cut (fun a w3 => ∃ (J : Nat → Value) (T1 : Nat → Prop) (x2 : PowerPlant) (a3 : Option Addr) (n2 : Nat) (c3 : Nat) (a4 : Option Addr) (c4 : Nat), a = env (nf 84) J [(0, .pointer (some ⟨b_p0, o_p0, none⟩))] ∧ Im T0 w2 T1 w3 ∧ Sep g T1 w3 [R, H_p0 [.slice a4 (List.length x2.Supply.Ticks) c4, .int .i64 x2.Supply.Room, .int .i64 x2.Supply.On, .int .i64 x2.kept, .bool x2.on, .int .i64 x2.done, .slice a3 n2 c3], ownA (rInt .i64) 3 (.slice a3 n2 c3) x2.fails] ∧ SlR (rInt .i64) T1 w3 (.slice a4 (List.length x2.Supply.Ticks) c4) x2.Supply.Ticks ∧ kk1 x2 = some r) ?_ ?_
  · refine sq2 ?_
    refine rq mix (by kernel_rfl) hS2.lt (qv (fun _ hq => r_mp rfl) (qv (fun _ hq => r_nc rfl) (qv (fun _ hq => r_fa rfl Try.underlying37 rfl Try.sizeOf4 rfl) (qv (fun _ hq => r_ld rfl Try.isAgg4 (hq.cell (hS2.cellB (i := 1) ⟨rfl, rfl⟩ hL_p0 (j := 4) rfl))) (qv (fun _ hq => r_nt rfl) (qv (fun _ hq => r_mb rfl) (?_)))))))
    rcases Bool.eq_false_or_eq_true (!p0.on) with hb1 | hb1
    · have hm := ctrue hb1 hm
      refine qgT (d0 := 24) rfl rfl hb1 (qv (fun _ hq => r_mp rfl) (qgT (d0 := 24) rfl rfl hb1 (qv (fun _ hq => r_nc rfl) (qgT (d0 := 24) rfl rfl hb1 (qv (fun _ hq => r_fa rfl Try.underlying37 rfl Try.sizeOf3 rfl) (qgT (d0 := 24) rfl rfl hb1 (qv (fun _ hq => r_ld rfl Try.isAgg3 (hq.cell (hS2.cellB (i := 1) ⟨rfl, rfl⟩ hL_p0 (j := 3) rfl))) (qgT (d0 := 24) rfl rfl hb1 (qv (fun _ hq => r_mp rfl) (qgT (d0 := 24) rfl rfl hb1 (qv (fun _ hq => r_nc rfl) (qgT (d0 := 24) rfl rfl hb1 (qv (fun _ hq => r_fa rfl Try.underlying37 rfl Try.sizeOf24 rfl) (qgT (d0 := 24) rfl rfl hb1 (qv (fun _ hq => r_fa rfl Try.underlying24 rfl Try.sizeOf3 rfl) (qgT (d0 := 24) rfl rfl hb1 (qv (fun _ hq => r_ld rfl Try.isAgg3 (hq.cell (hS2.cellB (i := 1) ⟨rfl, rfl⟩ hL_p0 (j := 2) rfl))) (qgT (d0 := 24) rfl rfl hb1 (qv (fun _ hq => r_ib rfl rfl rfl) (qv (fun _ hq => r_pkt rfl hb1 rfl) (qn fun w4 T2 i2 => ?_)))))))))))))))))))))
      have im4 := i2.imm
      have hS3 := hS2.keep i2 (fun _ h => h)
      refine t_thenR [(0, .pointer (some ⟨b_p0, o_p0, none⟩)), (35, .bool (decide (p0.Supply.On ≤ (min (IntKind.wrap .i64 (p0.kept + p1)) p0.Supply.Room))))] ⟨rfl, rfl, trivial⟩ fun J => ?_
      refine cnd rfl (fun hb2 => ?_) (fun hb2 => ?_)
      · have hm := ctrue hb2 hm
        refine sq2 ?_
        refine rg (pv (r_mp rfl) (pv (r_nc rfl) (pv (r_fa rfl Try.underlying37 rfl Try.sizeOf4 rfl) (wl rfl (stB (q := 1) (j := 4) hS3 ⟨rfl, rfl⟩ hL_p0 rfl rfl rfl Try.sizeOf4 rfl rfl rfl fun w5 im5 hS4 => ?_)))))
        have hS4 : Sep g T2 w5 [R, H_p0 [.slice a1 (List.length p0.Supply.Ticks) c1, .int .i64 p0.Supply.Room, .int .i64 p0.Supply.On, .int .i64 (min (IntKind.wrap .i64 (p0.kept + p1)) p0.Supply.Room), .bool true, .int .i64 p0.done, .slice a2 n1 c2], ownA (rInt .i64) 3 (.slice a2 n1 c2) p0.fails] := hS4
        refine nil (t_then ?_)
        refine sq2 ?_
        refine rg (pv (r_mp rfl) (pv (r_nc rfl) (pv (r_fa rfl Try.underlying37 rfl Try.sizeOf3 rfl) (pv (r_ld rfl Try.isAgg3 (hS4.cellB (i := 1) ⟨rfl, rfl⟩ hL_p0 (j := 5) rfl)) (pv (r_ib rfl rfl rfl) (nil (t_thenR [(0, .pointer (some ⟨b_p0, o_p0, none⟩)), (43, .bool (decide (0 < p0.done)))] ⟨rfl, rfl, trivial⟩ fun J => ?_)))))))
        refine cnd rfl (fun hb3 => ?_) (fun hb3 => ?_)
        · have hm := ctrue hb3 hm
          refine rs [0, 0, 0, 0, 1, 0, 0, 0, 1, 2, 2, 0, 0, 2] [0, 1, 2, 3, 4, 5, 6, 7, 8, 9, 10, 11, 12, 13] mix (by kernel_rfl) hS4.lt fun w6 i3 => ?_
          have im6 := i3.imm
          have hS5 := hS4.keep i3 (fun _ h => h)
          refine s0 rfl trivial (fun _ => r_mp rfl) rfl (s0 rfl trivial (fun _ => r_mp rfl) rfl (s0 rfl trivial (fun _ => r_nc rfl) rfl (s0 rfl trivial (fun _ => r_fa rfl Try.underlying37 rfl Try.sizeOf22 rfl) rfl (s1 rfl trivial (r_ld rfl Try.isAgg22 (hS5.cellB (i := 1) ⟨rfl, rfl⟩ hL_p0 (j := 6) rfl)) rfl (s0 rfl trivial (fun _ => r_mp rfl) rfl (s0 rfl trivial (fun _ => r_nc rfl) rfl (s0 rfl trivial (fun _ => r_fa rfl Try.underlying37 rfl Try.sizeOf3 rfl) rfl (s1 rfl trivial (r_ld rfl Try.isAgg3 (hS5.cellB (i := 1) ⟨rfl, rfl⟩ hL_p0 (j := 5) rfl)) rfl (s2 [(4, .slice a2 n1 c2)] rfl trivial rfl (by kernel_rfl) (bsS (r := (rInt .i64)) (l := ([p0.done] : List Int)) (css := [[.int .i64 p0.done]]) hS5 Try.underlying22 Try.sizeOf3 Try.zeroValue3 rfl rfl (by kernel_rfl) rfl ⟨rfl, trivial⟩ rfl rfl fun w7 a5 n3 c5 im7 hS6 => ?_))))))))))
          refine ⟨st1 rfl (r_ld rfl Try.isAgg22 (hS6.cellB (i := 2) ⟨rfl, rfl⟩ hL_p0 (j := 6) rfl)) (st0), ?_⟩
          obtain ⟨z_1, hro1, hm⟩ := bindS hm
          refine s2 [] rfl trivial rfl (by kernel_rfl) (apO (q := 3) (l := p0.fails) (us := ([p0.done] : List Int)) hS6 ⟨rfl, rfl⟩ rfl rfl (hS6.own (i := 0) ⟨rfl, rfl⟩).v Try.underlying22 el3 (room_some hro1) fun w8 a6 n4 c6 im8 hS7 => ?_)
          have hS7 : Sep g T2 w8 [ownA (rInt .i64) 3 (.slice a5 n3 c5) ([p0.done] : List Int), R, H_p0 [.slice a1 (List.length p0.Supply.Ticks) c1, .int .i64 p0.Supply.Room, .int .i64 p0.Supply.On, .int .i64 (min (IntKind.wrap .i64 (p0.kept + p1)) p0.Supply.Room), .bool true, .int .i64 p0.done, .slice a2 n1 c2], ownA (rInt .i64) 3 (.slice a6 n4 c6) (p0.fails ++ ([p0.done] : List Int))] := hS7
          refine ⟨st0, ?_⟩
          refine s0 rfl trivial (fun _ => r_nc rfl) rfl (s0 rfl trivial (fun _ => r_fa rfl Try.underlying37 rfl Try.sizeOf22 rfl) rfl (s2 [] rfl trivial rfl (by kernel_rfl) (stB (q := 2) (j := 6) hS7 ⟨rfl, rfl⟩ hL_p0 rfl rfl rfl Try.sizeOf22 rfl rfl rfl fun w9 im9 hS8 => ?_)))
          have hS8 : Sep g T2 w9 [ownA (rInt .i64) 3 (.slice a5 n3 c5) ([p0.done] : List Int), R, H_p0 [.slice a1 (List.length p0.Supply.Ticks) c1, .int .i64 p0.Supply.Room, .int .i64 p0.Supply.On, .int .i64 (min (IntKind.wrap .i64 (p0.kept + p1)) p0.Supply.Room), .bool true, .int .i64 p0.done, .slice a6 n4 c6], ownA (rInt .i64) 3 (.slice a6 n4 c6) (p0.fails ++ ([p0.done] : List Int))] := hS8
          refine ⟨st0, ?_⟩
          exact se (t_then ⟨_, _, (⟨p0.Supply, min (IntKind.wrap .i64 (p0.kept + p1)) p0.Supply.Room, true, p0.done, p0.fails ++ ([p0.done] : List Int)⟩ : PowerPlant), _, _, _, _, _, env_has ⟨rfl, trivial⟩, (Im.trans im4 (Im.trans im5 (Im.trans im6 (Im.trans im7 (Im.trans im8 im9))))), hS8.sel [1, 2, 3] rfl, (h1.mono (Im.trans im1 (Im.trans im2 (Im.trans im4 (Im.trans im5 (Im.trans im6 (Im.trans im7 (Im.trans im8 im9)))))))), hm⟩)
        · have hm := cfalse hb3 hm
          exact skp (t_then ⟨_, _, ({ p0 with kept := min (IntKind.wrap .i64 (p0.kept + p1)) p0.Supply.Room, on := true }), _, _, _, _, _, env_has ⟨rfl, trivial⟩, (Im.trans im4 im5), hS4.sel [0, 1, 2] rfl, (h1.mono (Im.trans im1 (Im.trans im2 (Im.trans im4 im5)))), hm⟩)
      · have hm := cfalse hb2 hm
        exact skp (t_then ⟨_, _, ({ p0 with kept := min (IntKind.wrap .i64 (p0.kept + p1)) p0.Supply.Room }), _, _, _, _, _, env_has ⟨rfl, trivial⟩, im4, hS3.sel [0, 1, 2] rfl, (h1.mono (Im.trans im1 (Im.trans im2 im4))), hm⟩)
    · have hm := cfalse hb1 hm
      refine qgF (d0 := 24) rfl rfl (by rw [hb1]; rfl) (qgF (d0 := 24) rfl rfl (by rw [hb1]; rfl) (qgF (d0 := 24) rfl rfl (by rw [hb1]; rfl) (qgF (d0 := 24) rfl rfl (by rw [hb1]; rfl) (qgF (d0 := 24) rfl rfl (by rw [hb1]; rfl) (qgF (d0 := 24) rfl rfl (by rw [hb1]; rfl) (qgF (d0 := 24) rfl rfl (by rw [hb1]; rfl) (qgF (d0 := 24) rfl rfl (by rw [hb1]; rfl) (qgF (d0 := 24) rfl rfl (by rw [hb1]; rfl) (qgF (d0 := 24) rfl rfl (by rw [hb1]; rfl) (qv (fun _ hq => r_pkf rfl hb1 rfl) (qn fun w10 T3 i4 => ?_)))))))))))
      have im10 := i4.imm
      have hS9 := hS2.keep i4 (fun _ h => h)
      refine t_thenR [(0, .pointer (some ⟨b_p0, o_p0, none⟩)), (35, .bool false)] ⟨rfl, rfl, trivial⟩ fun J => ?_
      refine cnd (b := false) rfl (fun h => nomatch h) (fun _ => ?_)
      exact skp (t_then ⟨_, _, ({ p0 with kept := min (IntKind.wrap .i64 (p0.kept + p1)) p0.Supply.Room }), _, _, _, _, _, env_has ⟨rfl, trivial⟩, im10, hS9.sel [0, 1, 2] rfl, (h1.mono (Im.trans im1 (Im.trans im2 im10))), hm⟩)
  · rintro _ w3 ⟨J, T1, x2, a3, n2, c3, a4, c4, rfl, im3, hS10, h2, hm⟩
    rw [hkk1] at hm
    refine sq2 ?_
    refine sq2 ?_
    refine rg (pv (r_mp rfl) (pv (r_nc rfl) (pv (r_fa rfl Try.underlying37 rfl Try.sizeOf4 rfl) (pv (r_ld rfl Try.isAgg4 (hS10.cellB (i := 1) ⟨rfl, rfl⟩ hL_p0 (j := 4) rfl)) (pv (r_nt rfl) (nil (t_then ?_)))))))
    refine cnd rfl (fun hb5 => ?_) (fun hb5 => ?_)
    · have hm := ctrue hb5 hm
      have hm := Option.some.inj hm
      subst hm
      exact rtn (r_then (ret0 rfl ⟨_, rfl, _, (Im.trans im1 (Im.trans im2 im3)), ⟨_, _, _, _, _, rfl, hS10.sel [0, 1, 2] rfl, h2, trivial⟩⟩))
    · have hm := cfalse hb5 hm
      refine skp (t_thenR [(0, .pointer (some ⟨b_p0, o_p0, none⟩))] ⟨rfl, trivial⟩ fun J => ?_)
      refine sq2 ?_
      refine rg (pv (r_mp rfl) (pv (r_nc rfl) (pv (r_fa rfl Try.underlying37 rfl Try.sizeOf3 rfl) (pv (r_ld rfl Try.isAgg3 (hS10.cellB (i := 1) ⟨rfl, rfl⟩ hL_p0 (j := 5) rfl)) (pv (r_ib rfl rfl rfl) (pv (r_nc rfl) (pv (r_fa rfl Try.underlying37 rfl Try.sizeOf3 rfl) (wl rfl (stB (q := 1) (j := 5) hS10 ⟨rfl, rfl⟩ hL_p0 rfl rfl rfl Try.sizeOf3 rfl rfl rfl fun w11 im11 hS11 => ?_)))))))))
      have hS11 : Sep g T1 w11 [R, H_p0 [.slice a4 (List.length x2.Supply.Ticks) c4, .int .i64 x2.Supply.Room, .int .i64 x2.Supply.On, .int .i64 x2.kept, .bool x2.on, .int .i64 (IntKind.wrap .i64 (x2.done + 1)), .slice a3 n2 c3], ownA (rInt .i64) 3 (.slice a3 n2 c3) x2.fails] := hS11
      refine nil (t_thenR [(0, .pointer (some ⟨b_p0, o_p0, none⟩))] ⟨rfl, trivial⟩ fun J => ?_)
      refine sq2 ?_
      refine rg (pv (r_mp rfl) (pv (r_nc rfl) (pv (r_fa rfl Try.underlying37 rfl Try.sizeOf3 rfl) (pv (r_ld rfl Try.isAgg3 (hS11.cellB (i := 1) ⟨rfl, rfl⟩ hL_p0 (j := 3) rfl)) (pv (r_ib rfl rfl rfl) (pv (r_nc rfl) (pv (r_fa rfl Try.underlying37 rfl Try.sizeOf3 rfl) (wl rfl (stB (q := 1) (j := 3) hS11 ⟨rfl, rfl⟩ hL_p0 rfl rfl rfl Try.sizeOf3 rfl rfl rfl fun w12 im12 hS12 => ?_)))))))))
      have hS12 : Sep g T1 w12 [R, H_p0 [.slice a4 (List.length x2.Supply.Ticks) c4, .int .i64 x2.Supply.Room, .int .i64 x2.Supply.On, .int .i64 (IntKind.wrap .i64 (x2.kept - 1)), .bool x2.on, .int .i64 (IntKind.wrap .i64 (x2.done + 1)), .slice a3 n2 c3], ownA (rInt .i64) 3 (.slice a3 n2 c3) x2.fails] := hS12
      refine nil (t_thenR [(0, .pointer (some ⟨b_p0, o_p0, none⟩))] ⟨rfl, trivial⟩ fun J => ?_)
      refine rg (pv (r_mp rfl) (pv (r_mp rfl) (pv (r_nc rfl) (pv (r_fa rfl Try.underlying37 rfl Try.sizeOf3 rfl) (pv (r_ld rfl Try.isAgg3 (hS12.cellB (i := 1) ⟨rfl, rfl⟩ hL_p0 (j := 3) rfl)) (pv (r_ib rfl rfl rfl) (pv (r_nc rfl) (pv (r_fa rfl Try.underlying37 rfl Try.sizeOf4 rfl) (wl rfl (stB (q := 1) (j := 4) hS12 ⟨rfl, rfl⟩ hL_p0 rfl rfl rfl Try.sizeOf4 rfl rfl rfl fun w13 im13 hS13 => ?_))))))))))
      have hS13 : Sep g T1 w13 [R, H_p0 [.slice a4 (List.length x2.Supply.Ticks) c4, .int .i64 x2.Supply.Room, .int .i64 x2.Supply.On, .int .i64 (IntKind.wrap .i64 (x2.kept - 1)), .bool (decide (0 < (IntKind.wrap .i64 (x2.kept - 1)))), .int .i64 (IntKind.wrap .i64 (x2.done + 1)), .slice a3 n2 c3], ownA (rInt .i64) 3 (.slice a3 n2 c3) x2.fails] := hS13
      have hm := Option.some.inj hm
      subst hm
      exact nil (end0 rfl ⟨_, rfl, _, (Im.trans im1 (Im.trans im2 (Im.trans im3 (Im.trans im11 (Im.trans im12 im13))))), ⟨_, _, _, _, _, rfl, hS13.sel [0, 1, 2] rfl, (h2.mono (Im.trans im11 (Im.trans im12 im13))), trivial⟩⟩)

set_option maxRecDepth 100000 in
set_option maxHeartbeats 1000000 in
theorem power_Fails_sim {g : World} {T0 : Nat → Prop} {w0 : World} {R : Assn} {p0 : PowerSupply} {a1 : Option Addr} {c1 : Nat} {p1 : Int} {r : (List Int) × Int × Int} (hS : Sep g T0 w0 [R]) (h1 : SlR (rInt .i64) T0 w0 (.slice a1 (List.length p0.Ticks) c1) p0.Ticks) (hm : power_Fails p0 p1 = some r) :
    Calls Try.prog 6 #[.agg #[.slice a1 (List.length p0.Ticks) c1, .int .i64 p0.Room, .int .i64 p0.On], .int .i64 p1] w0 (RetS T0 w0 fun T w v => ∃ (a7 : Option Addr) (n3 : Nat) (c7 : Nat), v = .tuple #[.slice a7 n3 c7, .int .i64 r.2.1, .int .i64 r.2.2] ∧ Sep g T w [R, ownA (rInt .i64) 3 (.slice a7 n3 c7) r.1] ∧ True) := by
  refine enterM (args := [.agg #[.slice a1 (List.length p0.Ticks) c1, .int .i64 p0.Room, .int .i64 p0.On], .int .i64 p1]) Try.func6 rfl Try.ntmps6 rfl fun J => ?_
  unfold power_Fails at hm
  refine sq2 ?_
  refine rg (wl rfl (bxS (cs := [.slice a1 (List.length p0.Ticks) c1, .int .i64 p0.Room, .int .i64 p0.On]) rfl rfl hS fun w1 b1 im1 hS1 => ?_))
  refine pv (r_zs rfl) (pv (r_zi rfl) (pv (r_zi rfl) (nil (t_then ?_))))
  refine sq2 ?_
  refine sq2 ?_
  obtain ⟨y1, hx1, hm⟩ := bindS hm
  refine rg (pv (r_ldS rfl Try.isAgg24 Try.sizeOf24 rfl (hS1.cells0 (i := 0) ⟨rfl, rfl⟩ (o := 0) rfl) (cs := [.slice a1 (List.length p0.Ticks) c1, .int .i64 p0.Room, .int .i64 p0.On])) (wl rfl (calS cf9 rfl (power_Right_sim (p0 := p0) (hS1.bun [0, 1] [] rfl) (h1.mono im1) hx1) rfl fun v1 T1 w2 im2 rv1 => ?_)))
  obtain ⟨rfl, hS2, _⟩ := rv1
  have hS2 : Sep g T1 w2 [boxA b1 [.slice a1 (List.length p0.Ticks) c1, .int .i64 p0.Room, .int .i64 p0.On], R] := hS2.unb
  refine pv (r_nt rfl) (nil (t_thenR [(1, .int .i64 p1), (2, .pointer (some ⟨b1, 0, none⟩)), (11, .bool (!y1))] ⟨rfl, rfl, rfl, trivial⟩ fun J => ?_))
  refine cnd rfl (fun hb1 => ?_) (fun hb1 => ?_)
  · have hm := ctrue hb1 hm
    refine sq2 ?_
    refine rg (pv (r_zs rfl) (pv (r_zi rfl) (pv (r_zi rfl) (nil (t_then ?_)))))
    have hS3 := hS2.nilO (rInt .i64) 3
    have hm := Option.some.inj hm
    subst hm
    exact rtn (r_then (retNM (vs := [.slice none 0 0, .int .i64 0, .int .i64 1]) rfl ⟨rfl, rfl, rfl, trivial⟩ rfl ⟨_, rfl, _, (Im.trans im1 im2), ⟨_, _, _, rfl, hS3.sel [2, 0] rfl, trivial⟩⟩))
  · have hm := cfalse hb1 hm
    refine skp (t_then ?_)
    refine sq2 ?_
    refine rg (pv (r_ldS rfl Try.isAgg24 Try.sizeOf24 rfl (hS2.cells0 (i := 0) ⟨rfl, rfl⟩ (o := 0) rfl) (cs := [.slice a1 (List.length p0.Ticks) c1, .int .i64 p0.Room, .int .i64 p0.On])) (pv (r_bd (by kernel_rfl) rfl (u := .agg #[.slice a1 (List.length p0.Ticks) c1, .int .i64 p0.Room, .int .i64 p0.On, .int .i64 0, .bool false, .int .i64 0, .slice none 0 0])) (wl rfl (bxS (cs := [.slice a1 (List.length p0.Ticks) c1, .int .i64 p0.Room, .int .i64 p0.On, .int .i64 0, .bool false, .int .i64 0, .slice none 0 0]) rfl rfl hS2 fun w3 b2 im3 hS4 => ?_))))
    refine wl rfl (alS (zs := [.pointer none]) Try.zeroValue35 rfl hS4 fun w4 b3 im4 hS5 => ?_)
    refine wl rfl (st0B (q := 0) hS5 ⟨rfl, rfl⟩ rfl rfl rfl Try.sizeOf35 rfl rfl rfl fun w5 im5 hS6 => ?_)
    have hS6 : Sep g T1 w5 [boxA b3 [.pointer (some ⟨b2, 0, none⟩)], boxA b2 [.slice a1 (List.length p0.Ticks) c1, .int .i64 p0.Room, .int .i64 p0.On, .int .i64 0, .bool false, .int .i64 0, .slice none 0 0], boxA b1 [.slice a1 (List.length p0.Ticks) c1, .int .i64 p0.Room, .int .i64 p0.On], R] := hS6
    refine nil (t_then ?_)
    refine sq2 ?_
    refine sq2 ?_
    obtain ⟨y2, hx2, hm⟩ := bindS hm
    refine rg (pv (r_fa rfl Try.underlying24 rfl Try.sizeOf22 rfl) (pv (r_ld rfl Try.isAgg22 (hS6.cell0 (i := 2) ⟨rfl, rfl⟩ (j := 0) rfl)) (pv (r_mi rfl) (pv (r_imx rfl rfl) (pv (r_imn rfl rfl) (wl rfl (calS cf12 rfl (power_coming_sim (p0 := p0.Ticks) (p1 := min (max p1 0) 4000000) (hS6.bun [0, 1, 3] [] rfl) (h1.mono (Im.trans im1 (Im.trans im2 (Im.trans im3 (Im.trans im4 im5))))) hx2) rfl fun v2 T2 w6 im6 rv2 => ?_)))))))
    obtain ⟨b4, b5, a2, c2, rfl, hS7, h2, _⟩ := rv2
    have hS7 : Sep g T2 w6 [boxA b3 [.pointer (some ⟨b2, 0, none⟩)], boxA b2 [.slice a1 (List.length p0.Ticks) c1, .int .i64 p0.Room, .int .i64 p0.On, .int .i64 0, .bool false, .int .i64 0, .slice none 0 0], R, boxA b4 [.int .i64 y2.1], boxA b5 [.slice a2 (List.length y2.2) c2]] := hS7.unb
    refine nil (t_thenR [(7, .pointer (some ⟨b3, 0, none⟩)), (20, .func (.func 17) #[] #[.pointer (some ⟨b4, 0, none⟩), .pointer (some ⟨b5, 0, none⟩)])] ⟨rfl, rfl, trivial⟩ fun J => ?_)
    refine blk ?_
    have hS8 := hS7.nilO (rInt .i64) 3
    obtain ⟨o1, ho1, hm⟩ := bindS hm
    rcases go_or o1 with ⟨s1, rfl⟩ | hz1
    · have hm := gone_go hm
      have hA1 : Sep g T2 w6 ((fun (x2 : PowerPlant) => exA fun (a3 : Option Addr) => exA fun (n1 : Nat) => exA fun (c3 : Nat) => exA fun (a4 : Option Addr) => exA fun (c4 : Nat) => slA (rInt .i64) (.slice a4 (List.length x2.Supply.Ticks) c4) x2.Supply.Ticks (starL [ownA (rInt .i64) 3 (.slice a3 n1 c3) x2.fails, boxA b3 [.pointer (some ⟨b2, 0, none⟩)], boxA b2 [.slice a4 (List.length x2.Supply.Ticks) c4, .int .i64 x2.Supply.Room, .int .i64 x2.Supply.On, .int .i64 x2.kept, .bool x2.on, .int .i64 x2.done, .slice a3 n1 c3]])) (⟨p0, 0, false, 0, []⟩ : PowerPlant) :: [R, boxA b4 [.int .i64 y2.1], boxA b5 [.slice a2 (List.length y2.2) c2]]) := Sep.exI _ (Sep.exI _ (Sep.exI _ (Sep.exI _ (Sep.exI _ (Sep.slI (h1.mono (Im.trans im1 (Im.trans im2 (Im.trans im3 (Im.trans im4 (Im.trans im5 im6)))))) (hS8.bun [0, 1, 2] [3, 4, 5] rfl))))))
      refine wpR [(7, .pointer (some ⟨b3, 0, none⟩)), (20, .func (.func 17) #[] #[.pointer (some ⟨b4, 0, none⟩), .pointer (some ⟨b5, 0, none⟩)])] ⟨rfl, rfl, trivial⟩ fun J => ?_
      refine rfS (σ := PowerPlant) (ε := Unit) (yb := (fun (x2 : PowerPlant) (x3 : Int) => ((power_plant_tick x2 x3).bind fun y3 => some (Lp.go y3) : Option (Lp (PowerPlant) Unit)))) (encs := fun (x3 : Int) => #[.int .i64 x3]) (jump := fun z => match z with | .go _ => none | _ => some .ret) (Yz := fun z => match z with | .go s => (fun (x2 : PowerPlant) => exA fun (a3 : Option Addr) => exA fun (n1 : Nat) => exA fun (c3 : Nat) => exA fun (a4 : Option Addr) => exA fun (c4 : Nat) => slA (rInt .i64) (.slice a4 (List.length x2.Supply.Ticks) c4) x2.Supply.Ticks (starL [ownA (rInt .i64) 3 (.slice a3 n1 c3) x2.fails, boxA b3 [.pointer (some ⟨b2, 0, none⟩)], boxA b2 [.slice a4 (List.length x2.Supply.Ticks) c4, .int .i64 x2.Supply.Room, .int .i64 x2.Supply.On, .int .i64 x2.kept, .bool x2.on, .int .i64 x2.done, .slice a3 n1 c3]])) s | _ => empA) (A := R) (C := starL [boxA b4 [.int .i64 y2.1], boxA b5 [.slice a2 (List.length y2.2) c2]]) (s0 := (⟨p0, 0, false, 0, []⟩ : PowerPlant)) (o := .go s1) (Lx := fun x3 => [(8, .int .i64 x3), (21, .int .i64 x3), (7, .pointer (some ⟨b3, 0, none⟩)), (20, .func (.func 17) #[] #[.pointer (some ⟨b4, 0, none⟩), .pointer (some ⟨b5, 0, none⟩)])]) rfl cf17 ((hA1.bun [2, 3] [1, 0] rfl).sel [1, 0, 2] rfl) (fun z => by cases z <;> rfl) (fun _ => rfl) ?_ ?_ ?_ ?_
      · intro l x w1 K hK
        rw [prm1]
        refine regIn (fun _ _ h => h) rfl ?_
        exact pv (r_zi rfl) (nil (t_then hK))
      · intro l T3 w7 x2 x3 z R2 im7 hS9 hm
        have hS9 : Sep g T3 w7 ((fun (x2 : PowerPlant) => exA fun (a3 : Option Addr) => exA fun (n1 : Nat) => exA fun (c3 : Nat) => exA fun (a4 : Option Addr) => exA fun (c4 : Nat) => slA (rInt .i64) (.slice a4 (List.length x2.Supply.Ticks) c4) x2.Supply.Ticks (starL [ownA (rInt .i64) 3 (.slice a3 n1 c3) x2.fails, boxA b3 [.pointer (some ⟨b2, 0, none⟩)], boxA b2 [.slice a4 (List.length x2.Supply.Ticks) c4, .int .i64 x2.Supply.Room, .int .i64 x2.Supply.On, .int .i64 x2.kept, .bool x2.on, .int .i64 x2.done, .slice a3 n1 c3]])) x2 :: [R2]) := hS9.sel [1, 0] rfl
        obtain ⟨a3, hS9⟩ := Sep.exE hS9
        obtain ⟨n1, hS9⟩ := Sep.exE hS9
        obtain ⟨c3, hS9⟩ := Sep.exE hS9
        obtain ⟨a4, hS9⟩ := Sep.exE hS9
        obtain ⟨c4, hS9⟩ := Sep.exE hS9
        obtain ⟨h3, hS9⟩ := Sep.slE hS9
        have hS9 : Sep g T3 w7 [ownA (rInt .i64) 3 (.slice a3 n1 c3) x2.fails, boxA b3 [.pointer (some ⟨b2, 0, none⟩)], boxA b2 [.slice a4 (List.length x2.Supply.Ticks) c4, .int .i64 x2.Supply.Room, .int .i64 x2.Supply.On, .int .i64 x2.kept, .bool x2.on, .int .i64 x2.done, .slice a3 n1 c3], R2] := hS9.unb
        refine blkI ?_
        obtain ⟨y3, hx3, hm⟩ := bindS hm
        refine regIn (fun _ _ h => rndOut h) rfl (pv (r_ld rfl Try.isAgg35 (hS9.cell0 (i := 1) ⟨rfl, rfl⟩ (j := 0) rfl)) (pv (r_mi rfl) (wl rfl (calS cf13 rfl (power_plant_tick_sim (p0 := x2) (H_p0 := boxA b2) (p1 := x3) (hS9.bun [1, 3] [2, 0] rfl) (lnBox b2) h3 hx3) rfl fun v3 T4 w8 im8 rv3 => ?_))))
        obtain ⟨a5, c5, a6, n2, c6, rfl, hS10, h4, _⟩ := rv3
        have hS10 : Sep g T4 w8 [boxA b3 [.pointer (some ⟨b2, 0, none⟩)], R2, boxA b2 [.slice a5 (List.length y3.Supply.Ticks) c5, .int .i64 y3.Supply.Room, .int .i64 y3.Supply.On, .int .i64 y3.kept, .bool y3.on, .int .i64 y3.done, .slice a6 n2 c6], ownA (rInt .i64) 3 (.slice a6 n2 c6) y3.fails] := hS10.unb
        have hm := Option.some.inj hm
        subst hm
        exact nil (t_blk (⟨rfl, _, im8, (show Sep g T4 w8 ((fun (x2 : PowerPlant) => exA fun (a3 : Option Addr) => exA fun (n1 : Nat) => exA fun (c3 : Nat) => exA fun (a4 : Option Addr) => exA fun (c4 : Nat) => slA (rInt .i64) (.slice a4 (List.length x2.Supply.Ticks) c4) x2.Supply.Ticks (starL [ownA (rInt .i64) 3 (.slice a3 n1 c3) x2.fails, boxA b3 [.pointer (some ⟨b2, 0, none⟩)], boxA b2 [.slice a4 (List.length x2.Supply.Ticks) c4, .int .i64 x2.Supply.Room, .int .i64 x2.Supply.On, .int .i64 x2.kept, .bool x2.on, .int .i64 x2.done, .slice a3 n1 c3]])) y3 :: [R2]) from Sep.exI _ (Sep.exI _ (Sep.exI _ (Sep.exI _ (Sep.exI _ (Sep.slI h4 (hS10.bun [3, 0, 2] [1] rfl))))))).sel [1, 0] rfl⟩))
      · intro l T1 w1 R2 U im9 hS hY
        have hS : Sep g T1 w1 (R2 :: U (.go (⟨p0, 0, false, 0, []⟩ : PowerPlant)) :: [boxA b4 [.int .i64 y2.1], boxA b5 [.slice a2 (List.length y2.2) c2]]) := ((hS.sel [1, 0, 2] rfl).unb).sel [2, 3, 0, 1] rfl
        refine callsIn_wide.2 ((power_coming_1_sim (U_p0 := U) (l_p0 := l) (p2 := y2.1) (H_p2 := boxA b4) (p3 := y2.2) (H_p3 := boxA b5) hS (fun T2 w2 s x3 z R2 i h e => hY T2 w2 s x3 z R2 i h e) (lnBox b4) (lnBox b5) (h2.mono im9) ho1).mono ?_)
        rintro e w3 ⟨v, rfl, T3, im3, rfl, hS3, _⟩
        exact ⟨_, rfl, T3, im3, ((hS3.bun [2, 3] [0, 1] rfl).sel [1, 0, 2] rfl)⟩
      · intro T5 w9 D im10 hS11
        have hm := hm
        have hS11 : Sep g T5 w9 ((fun (s1 : PowerPlant) => exA fun (a3 : Option Addr) => exA fun (n1 : Nat) => exA fun (c3 : Nat) => exA fun (a4 : Option Addr) => exA fun (c4 : Nat) => slA (rInt .i64) (.slice a4 (List.length s1.Supply.Ticks) c4) s1.Supply.Ticks (starL [ownA (rInt .i64) 3 (.slice a3 n1 c3) s1.fails, boxA b3 [.pointer (some ⟨b2, 0, none⟩)], boxA b2 [.slice a4 (List.length s1.Supply.Ticks) c4, .int .i64 s1.Supply.Room, .int .i64 s1.Supply.On, .int .i64 s1.kept, .bool s1.on, .int .i64 s1.done, .slice a3 n1 c3]])) s1 :: [R, objA D (.deferred (some []))]) := hS11.sel [2, 0, 3] rfl
        obtain ⟨a3, hS11⟩ := Sep.exE hS11
        obtain ⟨n1, hS11⟩ := Sep.exE hS11
        obtain ⟨c3, hS11⟩ := Sep.exE hS11
        obtain ⟨a4, hS11⟩ := Sep.exE hS11
        obtain ⟨c4, hS11⟩ := Sep.exE hS11
        obtain ⟨h3, hS11⟩ := Sep.slE hS11
        have hS11 : Sep g T5 w9 [ownA (rInt .i64) 3 (.slice a3 n1 c3) s1.fails, boxA b3 [.pointer (some ⟨b2, 0, none⟩)], boxA b2 [.slice a4 (List.length s1.Supply.Ticks) c4, .int .i64 s1.Supply.Room, .int .i64 s1.Supply.On, .int .i64 s1.kept, .bool s1.on, .int .i64 s1.done, .slice a3 n1 c3], R, objA D (.deferred (some []))] := hS11.unb
        refine t_blk (t_then ?_)
        refine sq2 ?_
        refine rq mix (by kernel_rfl) hS11.lt (qv (fun _ hq => r_ld rfl Try.isAgg35 (hq.cell (hS11.cell0 (i := 1) ⟨rfl, rfl⟩ (j := 0) rfl))) (qv (fun _ hq => r_nc rfl) (qv (fun _ hq => r_fa rfl Try.underlying37 rfl Try.sizeOf22 rfl) (qv (fun _ hq => r_ld rfl Try.isAgg22 (hq.cell (hS11.cell0 (i := 2) ⟨rfl, rfl⟩ (j := 6) rfl))) (qv (fun _ hq => r_ld rfl Try.isAgg35 (hq.cell (hS11.cell0 (i := 1) ⟨rfl, rfl⟩ (j := 0) rfl))) (qv (fun _ hq => r_nc rfl) (qv (fun _ hq => r_fa rfl Try.underlying37 rfl Try.sizeOf3 rfl) (qv (fun _ hq => r_ld rfl Try.isAgg3 (hq.cell (hS11.cell0 (i := 2) ⟨rfl, rfl⟩ (j := 5) rfl))) (qv (fun _ hq => r_zs rfl) (qv (fun _ hq => r_zi rfl) (qv (fun _ hq => r_zi rfl) (qn fun w10 T6 i1 => ?_))))))))))))
        have im11 := i1.imm
        have hS12 := hS11.keep i1 (fun _ h => h)
        refine t_thenR [(4, .slice a3 n1 c3), (5, .int .i64 s1.done), (6, .int .i64 0)] ⟨rfl, rfl, rfl, trivial⟩ fun J => ?_
        have hm := Option.some.inj hm
        subst hm
        obtain ⟨im12, hS13⟩ := hS12.setObj 4 rfl rfl (.deferred none)
        exact rtn (retNK (vs := [.slice a3 n1 c3, .int .i64 s1.done, .int .i64 0]) (hS12.obj 4 rfl rfl).1 rfl ⟨rfl, rfl, rfl, trivial⟩ rfl ⟨_, rfl, _, (Im.trans im1 (Im.trans im2 (Im.trans im3 (Im.trans im4 (Im.trans im5 (Im.trans im6 (Im.trans im10 (Im.trans im11 im12)))))))), ⟨_, _, _, rfl, hS13.sel [3, 0] rfl, trivial⟩⟩)
    · have hm := gone_no hz1 hm
      cases hm

set_option maxRecDepth 100000 in
set_option maxHeartbeats 1000000 in
theorem law33_awake_sim {g : World} {T0 : Nat → Prop} {w0 : World} {R : Assn}  {r : Bool} (hS : Sep g T0 w0 [R])  (hm : law33_awake = some r) :
    Calls Try.prog 5 #[] w0 (RetS T0 w0 fun T w v => v = .bool r ∧ Sep g T w [R] ∧ True) := by
  refine enter (args := []) Try.func5 rfl Try.ntmps5 rfl fun J => ?_
  unfold law33_awake at hm
  refine sq2 ?_
  refine rg (pv (r_zb rfl) (nil (t_then ?_)))
  refine sq2 ?_
  refine rg (wl rfl (bsS (r := (rInt .i64)) (l := ([1, 0] : List Int)) (css := [[.int .i64 1], [.int .i64 0]]) hS Try.underlying22 Try.sizeOf3 Try.zeroValue3 rfl rfl (by kernel_rfl) rfl ⟨rfl, rfl, trivial⟩ rfl rfl fun w1 a1 n1 c1 im1 hS1 => ?_))
  refine pv (r_bd (by kernel_rfl) rfl (u := .agg #[.slice a1 n1 c1, .int .i64 5, .int .i64 2])) (?_)
  obtain ⟨T1, im2, hS2, h1⟩ := hS1.seal 0 ⟨rfl, rfl⟩
  have hsh := h1.len
  subst hsh
  have hS2 : Sep g T1 w1 [empA, R] := hS2
  obtain ⟨y1, hx1, hm⟩ := bindS hm
  refine wl rfl (calS cf6 rfl (power_Fails_sim (p0 := (⟨([1, 0] : List Int), 5, 2⟩ : PowerSupply)) (p1 := 8) (hS2.bun [1] [] rfl) h1 hx1) rfl fun v1 T2 w2 im3 rv1 => ?_)
  obtain ⟨a2, n2, c2, rfl, hS3, _⟩ := rv1
  have hS3 : Sep g T2 w2 [R, ownA (rInt .i64) 3 (.slice a2 n2 c2) y1.1] := hS3.unb
  refine pv (r_mv rfl) (pv (r_ex (v := .slice a2 n2 c2) rfl rfl) (pv (r_ex (v := .int .i64 y1.2.1) rfl rfl) (pv (r_ex (v := .int .i64 y1.2.2) rfl rfl) (pv (r_zs rfl) (pv (r_zi rfl) (pv (r_zi rfl) (nil (t_thenR [(1, .slice a2 n2 c2), (2, .int .i64 y1.2.1), (3, .int .i64 y1.2.2)] ⟨rfl, rfl, rfl, trivial⟩ fun J => ?_))))))))
  refine sq2 ?_
  refine rg (pv (r_mi rfl) (pv (r_ib rfl rfl rfl) (pv (r_mb rfl) (?_))))
  rcases Bool.eq_false_or_eq_true (y1.2.2 == 0) with hb1 | hb1
  · have hm := ctrue hb1 hm
    refine gT (d0 := 13) rfl rfl hb1 (pv (r_mi rfl) (gT (d0 := 13) rfl rfl hb1 (pv (r_ib rfl rfl rfl) (pv (r_pkt rfl hb1 rfl) (pv (r_mb rfl) (?_))))))
    rcases Bool.eq_false_or_eq_true (y1.2.1 == 4) with hb2 | hb2
    · have hm := ctrue hb2 hm
      refine gT (d0 := 17) rfl rfl hb2 (pv (r_ms rfl) (gT (d0 := 17) rfl rfl hb2 (pv (r_lnV rfl (hS3.own (i := 1) ⟨rfl, rfl⟩).v Try.underlying22) (gT (d0 := 17) rfl rfl hb2 (pv (r_ib rfl rfl rfl) (pv (r_pkt rfl hb2 rfl) (pv (r_mb rfl) (?_))))))))
      rcases Bool.eq_false_or_eq_true ((List.length y1.1 : Int) == 1) with hb3 | hb3
      · have hm := ctrue hb3 hm
        obtain ⟨u1, hx2, hm⟩ := bindS hm
        obtain ⟨b1, of1, cs1, k1, cp1, hv1, hp1, hl1, he1, hr1, hc1⟩ := (hS3.own (i := 1) ⟨rfl, rfl⟩).v.ixq hx2 rfl
        cases hr1
        refine gT (d0 := 22) rfl rfl hb3 (pv (r_ms rfl) (gT (d0 := 22) rfl rfl hb3 (pv (r_ixe hv1 rfl Try.underlying22 Try.sizeOf3 hp1 hl1 he1) (gT (d0 := 22) rfl rfl hb3 (pv (r_ld rfl Try.isAgg3 (hc1.get (j := 0) rfl)) (gT (d0 := 22) rfl rfl hb3 (pv (r_ib rfl rfl rfl) (pv (r_pkt rfl hb3 rfl) (pv (r_zb rfl) (nil (t_thenR [(0, .bool (u1 == 2))] ⟨rfl, trivial⟩ fun J => ?_)))))))))))
        have hm := Option.some.inj hm
        subst hm
        exact rtn (ret1 rfl rfl ⟨_, rfl, _, (Im.trans im1 (Im.trans im2 im3)), ⟨rfl, hS3.sel [0] rfl, trivial⟩⟩)
      · have hm := cfalse hb3 hm
        refine gF (d0 := 22) rfl rfl (by rw [hb3]; rfl) (gF (d0 := 22) rfl rfl (by rw [hb3]; rfl) (gF (d0 := 22) rfl rfl (by rw [hb3]; rfl) (gF (d0 := 22) rfl rfl (by rw [hb3]; rfl) (pv (r_pkf rfl hb3 rfl) (pv (r_zb rfl) (nil (t_thenR [(0, .bool false)] ⟨rfl, trivial⟩ fun J => ?_)))))))
        have hm := Option.some.inj hm
        subst hm
        exact rtn (ret1 rfl rfl ⟨_, rfl, _, (Im.trans im1 (Im.trans im2 im3)), ⟨rfl, hS3.sel [0] rfl, trivial⟩⟩)
    · have hm := cfalse hb2 hm
      refine gF (d0 := 17) rfl rfl (by rw [hb2]; rfl) (gF (d0 := 17) rfl rfl (by rw [hb2]; rfl) (gF (d0 := 17) rfl rfl (by rw [hb2]; rfl) (pv (r_pkf rfl hb2 rfl) (pv (r_mb rfl) (gF (d0 := 22) rfl rfl rfl (gF (d0 := 22) rfl rfl rfl (gF (d0 := 22) rfl rfl rfl (gF (d0 := 22) rfl rfl rfl (pv (r_pkf rfl rfl rfl) (pv (r_zb rfl) (nil (t_thenR [(0, .bool false)] ⟨rfl, trivial⟩ fun J => ?_))))))))))))
      have hm := Option.some.inj hm
      subst hm
      exact rtn (ret1 rfl rfl ⟨_, rfl, _, (Im.trans im1 (Im.trans im2 im3)), ⟨rfl, hS3.sel [0] rfl, trivial⟩⟩)
  · have hm := cfalse hb1 hm
    refine gF (d0 := 13) rfl rfl (by rw [hb1]; rfl) (gF (d0 := 13) rfl rfl (by rw [hb1]; rfl) (pv (r_pkf rfl hb1 rfl) (pv (r_mb rfl) (gF (d0 := 17) rfl rfl rfl (gF (d0 := 17) rfl rfl rfl (gF (d0 := 17) rfl rfl rfl (pv (r_pkf rfl rfl rfl) (pv (r_mb rfl) (gF (d0 := 22) rfl rfl rfl (gF (d0 := 22) rfl rfl rfl (gF (d0 := 22) rfl rfl rfl (gF (d0 := 22) rfl rfl rfl (pv (r_pkf rfl rfl rfl) (pv (r_zb rfl) (nil (t_thenR [(0, .bool false)] ⟨rfl, trivial⟩ fun J => ?_))))))))))))))))
    have hm := Option.some.inj hm
    subst hm
    exact rtn (ret1 rfl rfl ⟨_, rfl, _, (Im.trans im1 (Im.trans im2 im3)), ⟨rfl, hS3.sel [0] rfl, trivial⟩⟩)

set_option maxRecDepth 100000 in
set_option maxHeartbeats 1000000 in
theorem law33_PowerApart_sim {g : World} {T0 : Nat → Prop} {w0 : World} {R : Assn} {p0 : PowerSupply} {a1 : Option Addr} {c1 : Nat} {p1 : Int} {r : Bool} (hS : Sep g T0 w0 [R]) (h1 : SlR (rInt .i64) T0 w0 (.slice a1 (List.length p0.Ticks) c1) p0.Ticks) (hm : law33_PowerApart p0 p1 = some r) :
    Calls Try.prog 3 #[.agg #[.slice a1 (List.length p0.Ticks) c1, .int .i64 p0.Room, .int .i64 p0.On], .int .i64 p1] w0 (RetS T0 w0 fun T w v => v = .bool r ∧ Sep g T w [R] ∧ True) := by
  refine enter (args := [.agg #[.slice a1 (List.length p0.Ticks) c1, .int .i64 p0.Room, .int .i64 p0.On], .int .i64 p1]) Try.func3 rfl Try.ntmps3 rfl fun J => ?_
  unfold law33_PowerApart at hm
  refine sq2 ?_
  refine rg (wl rfl (bxS (cs := [.slice a1 (List.length p0.Ticks) c1, .int .i64 p0.Room, .int .i64 p0.On]) rfl rfl hS fun w1 b1 im1 hS1 => ?_))
  refine pv (r_zb rfl) (nil (t_then ?_))
  refine sq2 ?_
  refine sq2 ?_
  refine rg (pv (r_fa rfl Try.underlying24 rfl Try.sizeOf22 rfl) (pv (r_ld rfl Try.isAgg22 (hS1.cell0 (i := 0) ⟨rfl, rfl⟩ (j := 0) rfl)) (pv (r_ln rfl Try.underlying22) (pv (r_ib rfl rfl rfl) (pv (r_mb rfl) (?_))))))
  rcases Bool.eq_false_or_eq_true (decide (300 < (List.length p0.Ticks : Int))) with hb1 | hb1
  · have hm := ctrue hb1 hm
    refine gF (d0 := 14) rfl rfl (by rw [hb1]; rfl) (gF (d0 := 14) rfl rfl (by rw [hb1]; rfl) (pv (r_pkt rfl hb1 rfl) (nil (t_thenR [(1, .int .i64 p1), (2, .pointer (some ⟨b1, 0, none⟩)), (17, .bool true)] ⟨rfl, rfl, rfl, trivial⟩ fun J => ?_))))
    refine cnd (b := true) rfl (fun _ => ?_) (fun h => nomatch h)
    refine sq2 ?_
    obtain ⟨y5, hx7, hm⟩ := bindS hm
    refine rg (wl rfl (calS cf5 rfl (law33_awake_sim  (hS1.bun [1] [] rfl)  hx7) rfl fun v5 T7 w8 im8 rv5 => ?_))
    obtain ⟨rfl, hS8, _⟩ := rv5
    have hS8 : Sep g T7 w8 [R] := hS8.unb
    refine pv (r_zb rfl) (nil (t_then ?_))
    have hm := Option.some.inj hm
    subst hm
    exact rtn (r_then (ret1 rfl rfl ⟨_, rfl, _, (Im.trans im1 im8), ⟨rfl, hS8.sel [0] rfl, trivial⟩⟩))
  · have hm := cfalse hb1 hm
    refine gT (d0 := 14) rfl rfl hb1 (pv (r_mi rfl) (gT (d0 := 14) rfl rfl hb1 (pv (r_ib rfl rfl rfl) (pv (r_pkf rfl hb1 rfl) (nil (t_thenR [(1, .int .i64 p1), (2, .pointer (some ⟨b1, 0, none⟩)), (17, .bool (decide (20000 < p1)))] ⟨rfl, rfl, rfl, trivial⟩ fun J => ?_))))))
    refine cnd rfl (fun hb2 => ?_) (fun hb2 => ?_)
    · have hm := ctrue hb2 hm
      refine sq2 ?_
      obtain ⟨y1, hx1, hm⟩ := bindS hm
      refine rg (wl rfl (calS cf5 rfl (law33_awake_sim  (hS1.bun [1] [] rfl)  hx1) rfl fun v1 T1 w2 im2 rv1 => ?_))
      obtain ⟨rfl, hS2, _⟩ := rv1
      have hS2 : Sep g T1 w2 [R] := hS2.unb
      refine pv (r_zb rfl) (nil (t_then ?_))
      have hm := Option.some.inj hm
      subst hm
      exact rtn (r_then (ret1 rfl rfl ⟨_, rfl, _, (Im.trans im1 im2), ⟨rfl, hS2.sel [0] rfl, trivial⟩⟩))
    · have hm := cfalse hb2 hm
      refine skp (t_then ?_)
      refine sq2 ?_
      obtain ⟨y2, hx2, hm⟩ := bindS hm
      refine rg (pv (r_ldS rfl Try.isAgg24 Try.sizeOf24 rfl (hS1.cells0 (i := 0) ⟨rfl, rfl⟩ (o := 0) rfl) (cs := [.slice a1 (List.length p0.Ticks) c1, .int .i64 p0.Room, .int .i64 p0.On])) (pv (r_mi rfl) (wl rfl (calS cf6 rfl (power_Fails_sim (p0 := p0) (p1 := p1) (hS1.bun [0, 1] [] rfl) (h1.mono im1) hx2) rfl fun v2 T2 w3 im3 rv2 => ?_))))
      obtain ⟨a2, n1, c2, rfl, hS3, _⟩ := rv2
      have hS3 : Sep g T2 w3 [boxA b1 [.slice a1 (List.length p0.Ticks) c1, .int .i64 p0.Room, .int .i64 p0.On], R, ownA (rInt .i64) 3 (.slice a2 n1 c2) y2.1] := hS3.unb
      refine pv (r_mv rfl) (pv (r_ex (v := .slice a2 n1 c2) rfl rfl) (pv (r_ex (v := .int .i64 y2.2.1) rfl rfl) (pv (r_ex (v := .int .i64 y2.2.2) rfl rfl) (pv (r_zs rfl) (pv (r_zi rfl) (pv (r_zi rfl) (nil (t_thenR [(2, .pointer (some ⟨b1, 0, none⟩)), (5, .slice a2 n1 c2), (6, .int .i64 y2.2.1), (7, .int .i64 y2.2.2)] ⟨rfl, rfl, rfl, rfl, trivial⟩ fun J => ?_))))))))
      refine sq2 ?_
      refine sq2 ?_
      refine rg (pv (r_mi rfl) (pv (r_ib rfl rfl rfl) (nil (t_then ?_))))
      refine cnd rfl (fun hb3 => ?_) (fun hb3 => ?_)
      · have hm := ctrue hb3 hm
        refine sq2 ?_
        obtain ⟨y3, hx3, hm⟩ := bindS hm
        refine rg (wl rfl (calS cf5 rfl (law33_awake_sim  (hS3.bun [1] [] rfl)  hx3) rfl fun v3 T3 w4 im4 rv3 => ?_))
        obtain ⟨rfl, hS4, _⟩ := rv3
        have hS4 : Sep g T3 w4 [R] := hS4.unb
        refine pv (r_mb rfl) (?_)
        rcases Bool.eq_false_or_eq_true y3 with hb4 | hb4
        · have hm := ctrue hb4 hm
          refine gT (d0 := 29) rfl rfl hb4 (pv (r_mi rfl) (gT (d0 := 29) rfl rfl hb4 (pv (r_ib rfl rfl rfl) (pv (r_pkt rfl hb4 rfl) (pv (r_zb rfl) (nil (t_thenR [(4, .bool (y2.2.2 == 1))] ⟨rfl, trivial⟩ fun J => ?_)))))))
          have hm := Option.some.inj hm
          subst hm
          exact rtn (r_then (ret1 rfl rfl ⟨_, rfl, _, (Im.trans im1 (Im.trans im3 im4)), ⟨rfl, hS4.sel [0] rfl, trivial⟩⟩))
        · have hm := cfalse hb4 hm
          refine gF (d0 := 29) rfl rfl (by rw [hb4]; rfl) (gF (d0 := 29) rfl rfl (by rw [hb4]; rfl) (pv (r_pkf rfl hb4 rfl) (pv (r_zb rfl) (nil (t_thenR [(4, .bool false)] ⟨rfl, trivial⟩ fun J => ?_)))))
          have hm := Option.some.inj hm
          subst hm
          exact rtn (r_then (ret1 rfl rfl ⟨_, rfl, _, (Im.trans im1 (Im.trans im3 im4)), ⟨rfl, hS4.sel [0] rfl, trivial⟩⟩))
      · have hm := cfalse hb3 hm
        refine skp (t_then ?_)
        refine sq2 ?_
        refine rg (pv (r_zi rfl) (nil (t_then ?_)))
        refine sq2 ?_
        refine sq2 ?_
        refine rg (pv (r_zi rfl) (nil (t_then ?_)))
        obtain ⟨o1, ho1, hq1⟩ := bindS hm
        obtain ⟨bd1, hbd1, ho1⟩ := loop_open ho1
        refine blk (wp_loop_ghost (fun m a w5 => ∃ (J : Nat → Value) (T4 : Nat → Prop) (x1 : Int) (x2 : Int), a = env (nf 58) J [(2, .pointer (some ⟨b1, 0, none⟩)), (5, .slice a2 n1 c2), (6, .int .i64 y2.2.1), (8, .int .i64 x1), (9, .int .i64 x2)] ∧ Im T2 w3 T4 w5 ∧ Sep g T4 w5 [boxA b1 [.slice a1 (List.length p0.Ticks) c1, .int .i64 p0.Room, .int .i64 p0.On], R, ownA (rInt .i64) 3 (.slice a2 n1 c2) y2.1] ∧ loopM bd1 m (x1, x2) = some o1) NN ⟨_, _, 0, 0, env_has ⟨rfl, rfl, rfl, rfl, rfl, trivial⟩, Im.refl, hS3.sel [0, 1, 2] rfl, ho1⟩ ?_)
        rintro m _ w5 ⟨J, T4, x1, x2, rfl, im5, hS5, ho1⟩
        obtain ⟨m1, z1, rfl, hm, hn1⟩ := loop_round ho1
        rw [hbd1] at hm
        refine sq2 ?_
        refine sq2 ?_
        refine rg (pv (r_mi rfl) (pv (r_ms rfl) (pv (r_lnV rfl (hS5.own (i := 2) ⟨rfl, rfl⟩).v Try.underlying22) (pv (r_ib rfl rfl rfl) (nil (t_then ?_))))))
        refine cnd rfl (fun hb5 => ?_) (fun hb5 => ?_)
        · have hm := ctrue hb5 hm
          refine skp (t_then ?_)
          refine sq2 ?_
          refine blk ?_
          refine sq2 ?_
          refine sq2 ?_
          obtain ⟨u1, hx4, hm⟩ := bindS hm
          obtain ⟨b2, of1, cs1, k1, cp1, hv1, hp1, hl1, he1, hr1, hc1⟩ := (hS5.own (i := 2) ⟨rfl, rfl⟩).v.ixq hx4 rfl
          cases hr1
          refine rq mix (by kernel_rfl) hS5.lt (qv (fun _ hq => r_ms rfl) (qv (fun _ hq => r_mi rfl) (qv (fun _ hq => r_ixe hv1 rfl Try.underlying22 Try.sizeOf3 hp1 hl1 he1) (qv (fun _ hq => r_ld rfl Try.isAgg3 (hq.cell (hc1.get (j := 0) rfl))) (qv (fun _ hq => r_mi rfl) (qv (fun _ hq => r_ib rfl rfl rfl) (qv (fun _ hq => r_fa rfl Try.underlying24 rfl Try.sizeOf3 rfl) (qv (fun _ hq => r_ld rfl Try.isAgg3 (hq.cell (hS5.cell0 (i := 0) ⟨rfl, rfl⟩ (j := 2) rfl))) (qv (fun _ hq => r_ib rfl rfl rfl) (qn fun w6 T5 i1 => ?_))))))))))
          have im6 := i1.imm
          have hS6 := hS5.keep i1 (fun _ h => h)
          refine t_thenR [(2, .pointer (some ⟨b1, 0, none⟩)), (5, .slice a2 n1 c2), (6, .int .i64 y2.2.1), (9, .int .i64 x2), (47, .bool (decide ((IntKind.wrap .i64 (u1 - x1)) < p0.On)))] ⟨rfl, rfl, rfl, rfl, rfl, trivial⟩ fun J => ?_
          refine cnd rfl (fun hb6 => ?_) (fun hb6 => ?_)
          · have hm := ctrue hb6 hm
            refine sq2 ?_
            refine rg (pv (r_zb rfl) (nil (t_thenR [(4, .bool false)] ⟨rfl, trivial⟩ fun J => ?_)))
            have hm := Option.some.inj hm
            subst hm
            have hn1 : _ = Lp.ret _ := hn1
            subst hn1
            have hm := thn_ret hq1
            have hm := Option.some.inj hm
            subst hm
            exact rtn (r_then (r_blk (r_then (r_then (r_blk (r_then (ret1 rfl rfl ⟨_, rfl, _, (Im.trans im1 (Im.trans im3 (Im.trans im5 im6))), ⟨rfl, hS6.sel [1] rfl, trivial⟩⟩)))))))
          · have hm := cfalse hb6 hm
            refine skp (t_then ?_)
            obtain ⟨u2, hx5, hm⟩ := bindS hm
            obtain ⟨b3, of2, cs2, k2, cp2, hv2, hp2, hl2, he2, hr2, hc2⟩ := (hS6.own (i := 2) ⟨rfl, rfl⟩).v.ixq hx5 rfl
            cases hr2
            refine rg (pv (r_ms rfl) (pv (r_mi rfl) (pv (r_ixe hv2 rfl Try.underlying22 Try.sizeOf3 hp2 hl2 he2) (pv (r_ld rfl Try.isAgg3 (hc2.get (j := 0) rfl)) (pv (r_zi rfl) (nil (t_blk (t_thenR [(2, .pointer (some ⟨b1, 0, none⟩)), (5, .slice a2 n1 c2), (6, .int .i64 y2.2.1), (8, .int .i64 u2), (9, .int .i64 x2)] ⟨rfl, rfl, rfl, rfl, rfl, trivial⟩ fun J => ?_))))))))
            have hm := Option.some.inj hm
            subst hm
            exact rg (pv (r_mi rfl) (pv (r_ib rfl rfl rfl) (pv (r_zi rfl) (nil (t_then ⟨m1, Nat.lt_succ_self _, _, _, u2, (IntKind.wrap .i64 (x2 + 1)), env_has ⟨rfl, rfl, rfl, rfl, rfl, trivial⟩, (Im.trans im5 im6), hS6.sel [0, 1, 2] rfl, hn1⟩)))))
        · have hm := cfalse hb5 hm
          have hm := Option.some.inj hm
          subst hm
          have hn1 : _ = Lp.brk _ := hn1
          subst hn1
          have hm := thn_brk hq1
          refine xt (x_then (x_then (x_eq (t_thenR [(6, .int .i64 y2.2.1), (8, .int .i64 x1)] ⟨rfl, rfl, trivial⟩ fun J => ?_))))
          refine sq2 ?_
          obtain ⟨y4, hx6, hm⟩ := bindS hm
          refine rg (wl rfl (calS cf5 rfl (law33_awake_sim  (hS5.bun [1] [] rfl)  hx6) rfl fun v4 T6 w7 im7 rv4 => ?_))
          obtain ⟨rfl, hS7, _⟩ := rv4
          have hS7 : Sep g T6 w7 [R] := hS7.unb
          refine pv (r_mb rfl) (?_)
          rcases Bool.eq_false_or_eq_true y4 with hb7 | hb7
          · have hm := ctrue hb7 hm
            refine gT (d0 := 53) rfl rfl hb7 (pv (r_mi rfl) (gT (d0 := 53) rfl rfl hb7 (pv (r_mi rfl) (gT (d0 := 53) rfl rfl hb7 (pv (r_ib rfl rfl rfl) (pv (r_pkt rfl hb7 rfl) (pv (r_zb rfl) (nil (t_thenR [(4, .bool (decide (x1 ≤ y2.2.1)))] ⟨rfl, trivial⟩ fun J => ?_)))))))))
            have hm := Option.some.inj hm
            subst hm
            exact rtn (ret1 rfl rfl ⟨_, rfl, _, (Im.trans im1 (Im.trans im3 (Im.trans im5 im7))), ⟨rfl, hS7.sel [0] rfl, trivial⟩⟩)
          · have hm := cfalse hb7 hm
            refine gF (d0 := 53) rfl rfl (by rw [hb7]; rfl) (gF (d0 := 53) rfl rfl (by rw [hb7]; rfl) (gF (d0 := 53) rfl rfl (by rw [hb7]; rfl) (pv (r_pkf rfl hb7 rfl) (pv (r_zb rfl) (nil (t_thenR [(4, .bool false)] ⟨rfl, trivial⟩ fun J => ?_))))))
            have hm := Option.some.inj hm
            subst hm
            exact rtn (ret1 rfl rfl ⟨_, rfl, _, (Im.trans im1 (Im.trans im3 (Im.trans im5 im7))), ⟨rfl, hS7.sel [0] rfl, trivial⟩⟩)

set_option maxRecDepth 100000 in
set_option maxHeartbeats 1000000 in
theorem law33_few_sim {g : World} {T0 : Nat → Prop} {w0 : World} {R : Assn} {p0 : PowerSupply} {a1 : Option Addr} {c1 : Nat} {r : Bool} (hS : Sep g T0 w0 [R]) (h1 : SlR (rInt .i64) T0 w0 (.slice a1 (List.length p0.Ticks) c1) p0.Ticks) (hm : law33_few p0 = some r) :
    Calls Try.prog 7 #[.agg #[.slice a1 (List.length p0.Ticks) c1, .int .i64 p0.Room, .int .i64 p0.On]] w0 (RetS T0 w0 fun T w v => v = .bool r ∧ Sep g T w [R] ∧ True) := by
  refine enter (args := [.agg #[.slice a1 (List.length p0.Ticks) c1, .int .i64 p0.Room, .int .i64 p0.On]]) Try.func7 rfl Try.ntmps7 rfl fun J => ?_
  unfold law33_few at hm
  refine sq2 ?_
  refine rg (wl rfl (bxS (cs := [.slice a1 (List.length p0.Ticks) c1, .int .i64 p0.Room, .int .i64 p0.On]) rfl rfl hS fun w1 b1 im1 hS1 => ?_))
  refine pv (r_zb rfl) (nil (t_then ?_))
  refine sq2 ?_
  refine rg (pv (r_fa rfl Try.underlying24 rfl Try.sizeOf22 rfl) (pv (r_ld rfl Try.isAgg22 (hS1.cell0 (i := 0) ⟨rfl, rfl⟩ (j := 0) rfl)) (pv (r_ln rfl Try.underlying22) (pv (r_ib rfl rfl rfl) (pv (r_mb rfl) (?_))))))
  rcases Bool.eq_false_or_eq_true (decide ((List.length p0.Ticks : Int) ≤ 300)) with hb1 | hb1
  · have hm := ctrue hb1 hm
    refine gF (d0 := 7) rfl rfl (by rw [hb1]; rfl) (gF (d0 := 7) rfl rfl (by rw [hb1]; rfl) (gF (d0 := 7) rfl rfl (by rw [hb1]; rfl) (gF (d0 := 7) rfl rfl (by rw [hb1]; rfl) (gF (d0 := 7) rfl rfl (by rw [hb1]; rfl) (gU (d0 := 12) rfl rfl (gU (d0 := 12) rfl rfl (gU (d0 := 12) rfl rfl (gU (d0 := 12) rfl rfl (gF (d0 := 7) rfl rfl (by rw [hb1]; rfl) (pv (r_pkt rfl hb1 rfl) (pv (r_zb rfl) (nil (t_thenR [(2, .bool true)] ⟨rfl, trivial⟩ fun J => ?_)))))))))))))
    have hm := Option.some.inj hm
    subst hm
    exact rtn (ret1 rfl rfl ⟨_, rfl, _, im1, ⟨rfl, hS1.sel [1] rfl, trivial⟩⟩)
  · have hm := cfalse hb1 hm
    refine gT (d0 := 7) rfl rfl hb1 (pv (r_fa rfl Try.underlying24 rfl Try.sizeOf22 rfl) (gT (d0 := 7) rfl rfl hb1 (pv (r_ld rfl Try.isAgg22 (hS1.cell0 (i := 0) ⟨rfl, rfl⟩ (j := 0) rfl)) (gT (d0 := 7) rfl rfl hb1 (pv (r_ln rfl Try.underlying22) (gT (d0 := 7) rfl rfl hb1 (pv (r_ib rfl rfl rfl) (gT (d0 := 7) rfl rfl hb1 (pv (r_mb rfl) (?_))))))))))
    rcases Bool.eq_false_or_eq_true (decide (4096 < (List.length p0.Ticks : Int))) with hb2 | hb2
    · have hm := ctrue hb2 hm
      refine gT (d0 := 12) rfl rfl hb2 (pv (r_fa rfl Try.underlying24 rfl Try.sizeOf22 rfl) (gT (d0 := 12) rfl rfl hb2 (pv (r_ld rfl Try.isAgg22 (hS1.cell0 (i := 0) ⟨rfl, rfl⟩ (j := 0) rfl)) (gT (d0 := 12) rfl rfl hb2 (pv (r_ln rfl Try.underlying22) (gT (d0 := 12) rfl rfl hb2 (pv (r_ib rfl rfl rfl) (gT (d0 := 7) rfl rfl hb1 (pv (r_pkt rfl hb2 rfl) (pv (r_pkf rfl hb1 rfl) (pv (r_zb rfl) (nil (t_thenR [(2, .bool (decide ((List.length p0.Ticks : Int) ≤ 5000)))] ⟨rfl, trivial⟩ fun J => ?_)))))))))))))
      have hm := Option.some.inj hm
      subst hm
      exact rtn (ret1 rfl rfl ⟨_, rfl, _, im1, ⟨rfl, hS1.sel [1] rfl, trivial⟩⟩)
    · have hm := cfalse hb2 hm
      refine gF (d0 := 12) rfl rfl (by rw [hb2]; rfl) (gF (d0 := 12) rfl rfl (by rw [hb2]; rfl) (gF (d0 := 12) rfl rfl (by rw [hb2]; rfl) (gF (d0 := 12) rfl rfl (by rw [hb2]; rfl) (gT (d0 := 7) rfl rfl hb1 (pv (r_pkf rfl hb2 rfl) (pv (r_pkf rfl hb1 rfl) (pv (r_zb rfl) (nil (t_thenR [(2, .bool false)] ⟨rfl, trivial⟩ fun J => ?_)))))))))
      have hm := Option.some.inj hm
      subst hm
      exact rtn (ret1 rfl rfl ⟨_, rfl, _, im1, ⟨rfl, hS1.sel [1] rfl, trivial⟩⟩)

set_option maxRecDepth 100000 in
set_option maxHeartbeats 1000000 in
theorem ref33_Right_sim {g : World} {T0 : Nat → Prop} {w0 : World} {R : Assn} {p0 : List Int} {a1 : Option Addr} {c1 : Nat} {p1 : Int} {p2 : Int} {r : Bool} (hS : Sep g T0 w0 [R]) (h1 : SlR (rInt .i64) T0 w0 (.slice a1 (List.length p0) c1) p0) (hm : ref33_Right p0 p1 p2 = some r) :
    Calls Try.prog 8 #[.slice a1 (List.length p0) c1, .int .i64 p1, .int .i64 p2] w0 (RetS T0 w0 fun T w v => v = .bool r ∧ Sep g T w [R] ∧ True) := by
  refine enter (args := [.slice a1 (List.length p0) c1, .int .i64 p1, .int .i64 p2]) Try.func8 rfl Try.ntmps8 rfl fun J => ?_
  unfold ref33_Right at hm
  refine sq2 ?_
  refine rg (pv (r_zb rfl) (nil (t_then ?_)))
  refine sq2 ?_
  refine sq2 ?_
  refine rg (pv (r_ms rfl) (pv (r_ln rfl Try.underlying22) (pv (r_ib rfl rfl rfl) (pv (r_mb rfl) (?_)))))
  rcases Bool.eq_false_or_eq_true (decide ((List.length p0 : Int) < 1)) with hb1 | hb1
  · have hm := ctrue hb1 hm
    refine gF (d0 := 11) rfl rfl (by rw [hb1]; rfl) (gF (d0 := 11) rfl rfl (by rw [hb1]; rfl) (gF (d0 := 11) rfl rfl (by rw [hb1]; rfl) (pv (r_pkt rfl hb1 rfl) (pv (r_mb rfl) (gF (d0 := 16) rfl rfl rfl (gF (d0 := 16) rfl rfl rfl (pv (r_pkt rfl rfl rfl) (pv (r_mb rfl) (gF (d0 := 20) rfl rfl rfl (gF (d0 := 20) rfl rfl rfl (gF (d0 := 20) rfl rfl rfl (pv (r_pkt rfl rfl rfl) (pv (r_mb rfl) (gF (d0 := 25) rfl rfl rfl (gF (d0 := 25) rfl rfl rfl (pv (r_pkt rfl rfl rfl) (nil (t_thenR [(0, .slice a1 (List.length p0) c1), (28, .bool true)] ⟨rfl, rfl, trivial⟩ fun J => ?_))))))))))))))))))
    refine cnd (b := true) rfl (fun _ => ?_) (fun h => nomatch h)
    refine sq2 ?_
    refine rg (pv (r_zb rfl) (nil (t_then ?_)))
    have hm := Option.some.inj hm
    subst hm
    exact rtn (r_then (ret1 rfl rfl ⟨_, rfl, _, Im.refl, ⟨rfl, hS.sel [0] rfl, trivial⟩⟩))
  · have hm := cfalse hb1 hm
    refine gT (d0 := 11) rfl rfl hb1 (pv (r_ms rfl) (gT (d0 := 11) rfl rfl hb1 (pv (r_ln rfl Try.underlying22) (gT (d0 := 11) rfl rfl hb1 (pv (r_ib rfl rfl rfl) (pv (r_pkf rfl hb1 rfl) (pv (r_mb rfl) (?_))))))))
    rcases Bool.eq_false_or_eq_true (decide (4096 < (List.length p0 : Int))) with hb2 | hb2
    · have hm := ctrue hb2 hm
      refine gF (d0 := 16) rfl rfl (by rw [hb2]; rfl) (gF (d0 := 16) rfl rfl (by rw [hb2]; rfl) (pv (r_pkt rfl hb2 rfl) (pv (r_mb rfl) (gF (d0 := 20) rfl rfl rfl (gF (d0 := 20) rfl rfl rfl (gF (d0 := 20) rfl rfl rfl (pv (r_pkt rfl rfl rfl) (pv (r_mb rfl) (gF (d0 := 25) rfl rfl rfl (gF (d0 := 25) rfl rfl rfl (pv (r_pkt rfl rfl rfl) (nil (t_thenR [(0, .slice a1 (List.length p0) c1), (28, .bool true)] ⟨rfl, rfl, trivial⟩ fun J => ?_)))))))))))))
      refine cnd (b := true) rfl (fun _ => ?_) (fun h => nomatch h)
      refine sq2 ?_
      refine rg (pv (r_zb rfl) (nil (t_then ?_)))
      have hm := Option.some.inj hm
      subst hm
      exact rtn (r_then (ret1 rfl rfl ⟨_, rfl, _, Im.refl, ⟨rfl, hS.sel [0] rfl, trivial⟩⟩))
    · have hm := cfalse hb2 hm
      refine gT (d0 := 16) rfl rfl hb2 (pv (r_mi rfl) (gT (d0 := 16) rfl rfl hb2 (pv (r_ib rfl rfl rfl) (pv (r_pkf rfl hb2 rfl) (pv (r_mb rfl) (?_))))))
      rcases Bool.eq_false_or_eq_true (decide (p2 < 1)) with hb3 | hb3
      · have hm := ctrue hb3 hm
        refine gF (d0 := 20) rfl rfl (by rw [hb3]; rfl) (gF (d0 := 20) rfl rfl (by rw [hb3]; rfl) (gF (d0 := 20) rfl rfl (by rw [hb3]; rfl) (pv (r_pkt rfl hb3 rfl) (pv (r_mb rfl) (gF (d0 := 25) rfl rfl rfl (gF (d0 := 25) rfl rfl rfl (pv (r_pkt rfl rfl rfl) (nil (t_thenR [(0, .slice a1 (List.length p0) c1), (28, .bool true)] ⟨rfl, rfl, trivial⟩ fun J => ?_)))))))))
        refine cnd (b := true) rfl (fun _ => ?_) (fun h => nomatch h)
        refine sq2 ?_
        refine rg (pv (r_zb rfl) (nil (t_then ?_)))
        have hm := Option.some.inj hm
        subst hm
        exact rtn (r_then (ret1 rfl rfl ⟨_, rfl, _, Im.refl, ⟨rfl, hS.sel [0] rfl, trivial⟩⟩))
      · have hm := cfalse hb3 hm
        refine gT (d0 := 20) rfl rfl hb3 (pv (r_mi rfl) (gT (d0 := 20) rfl rfl hb3 (pv (r_mi rfl) (gT (d0 := 20) rfl rfl hb3 (pv (r_ib rfl rfl rfl) (pv (r_pkf rfl hb3 rfl) (pv (r_mb rfl) (?_))))))))
        rcases Bool.eq_false_or_eq_true (decide (p1 < p2)) with hb4 | hb4
        · have hm := ctrue hb4 hm
          refine gF (d0 := 25) rfl rfl (by rw [hb4]; rfl) (gF (d0 := 25) rfl rfl (by rw [hb4]; rfl) (pv (r_pkt rfl hb4 rfl) (nil (t_thenR [(0, .slice a1 (List.length p0) c1), (28, .bool true)] ⟨rfl, rfl, trivial⟩ fun J => ?_))))
          refine cnd (b := true) rfl (fun _ => ?_) (fun h => nomatch h)
          refine sq2 ?_
          refine rg (pv (r_zb rfl) (nil (t_then ?_)))
          have hm := Option.some.inj hm
          subst hm
          exact rtn (r_then (ret1 rfl rfl ⟨_, rfl, _, Im.refl, ⟨rfl, hS.sel [0] rfl, trivial⟩⟩))
        · have hm := cfalse hb4 hm
          refine gT (d0 := 25) rfl rfl hb4 (pv (r_mi rfl) (gT (d0 := 25) rfl rfl hb4 (pv (r_ib rfl rfl rfl) (pv (r_pkf rfl hb4 rfl) (nil (t_thenR [(0, .slice a1 (List.length p0) c1), (28, .bool (decide (1048576 < p1)))] ⟨rfl, rfl, trivial⟩ fun J => ?_))))))
          refine cnd rfl (fun hb5 => ?_) (fun hb5 => ?_)
          · have hm := ctrue hb5 hm
            refine sq2 ?_
            refine rg (pv (r_zb rfl) (nil (t_then ?_)))
            have hm := Option.some.inj hm
            subst hm
            exact rtn (r_then (ret1 rfl rfl ⟨_, rfl, _, Im.refl, ⟨rfl, hS.sel [0] rfl, trivial⟩⟩))
          · have hm := cfalse hb5 hm
            refine skp (t_then ?_)
            refine sq2 ?_
            refine sq2 ?_
            refine rg (pv (r_zi rfl) (nil (t_then ?_)))
            obtain ⟨o1, ho1, hq1⟩ := bindS hm
            obtain ⟨bd1, hbd1, ho1⟩ := loop_open ho1
            refine blk (wp_loop_ghost (fun m a w1 => ∃ (J : Nat → Value) (T1 : Nat → Prop) (x1 : Int), a = env (nf 47) J [(0, .slice a1 (List.length p0) c1), (7, .int .i64 x1)] ∧ Im T0 w0 T1 w1 ∧ Sep g T1 w1 [R] ∧ loopM bd1 m x1 = some o1) NN ⟨_, _, 0, env_has ⟨rfl, rfl, trivial⟩, Im.refl, hS.sel [0] rfl, ho1⟩ ?_)
            rintro m _ w1 ⟨J, T1, x1, rfl, im1, hS1, ho1⟩
            obtain ⟨m1, z1, rfl, hm, hn1⟩ := loop_round ho1
            rw [hbd1] at hm
            refine sq2 ?_
            refine sq2 ?_
            refine rg (pv (r_mi rfl) (pv (r_ms rfl) (pv (r_ln rfl Try.underlying22) (pv (r_ib rfl rfl rfl) (nil (t_then ?_))))))
            refine cnd rfl (fun hb6 => ?_) (fun hb6 => ?_)
            · have hm := ctrue hb6 hm
              refine skp (t_then ?_)
              refine sq2 ?_
              refine blk ?_
              refine sq2 ?_
              obtain ⟨u1, hx1, hm⟩ := bindS hm
              obtain ⟨b1, of1, cs1, k1, cp1, hv1, hp1, hl1, he1, hr1, hc1, hT1⟩ := (h1.mono im1).ixT hx1 rfl
              cases hr1
              refine rg (pv (r_ms rfl) (pv (r_mi rfl) (pv (r_ixe hv1 rfl Try.underlying22 Try.sizeOf3 hp1 hl1 he1) (pv (r_ld rfl Try.isAgg3 (hc1.get (j := 0) rfl)) (pv (r_ib rfl rfl rfl) (pv (r_mb rfl) (?_)))))))
              rcases Bool.eq_false_or_eq_true (decide (u1 < 0)) with hb7 | hb7
              · have hm := ctrue hb7 hm
                refine gF (d0 := 40) rfl rfl (by rw [hb7]; rfl) (gF (d0 := 40) rfl rfl (by rw [hb7]; rfl) (gF (d0 := 40) rfl rfl (by rw [hb7]; rfl) (gF (d0 := 40) rfl rfl (by rw [hb7]; rfl) (gF (d0 := 40) rfl rfl (by rw [hb7]; rfl) (pv (r_pkt rfl hb7 rfl) (nil (t_thenR [(0, .slice a1 (List.length p0) c1), (7, .int .i64 x1), (46, .bool true)] ⟨rfl, rfl, rfl, trivial⟩ fun J => ?_)))))))
                refine cnd (b := true) rfl (fun _ => ?_) (fun h => nomatch h)
                refine sq2 ?_
                refine rg (pv (r_zb rfl) (nil (t_then ?_)))
                have hm := Option.some.inj hm
                subst hm
                have hn1 : _ = Lp.ret _ := hn1
                subst hn1
                have hm := thn_ret hq1
                have hm := Option.some.inj hm
                subst hm
                exact rtn (r_blk (r_then (r_then (r_blk (r_then (ret1 rfl rfl ⟨_, rfl, _, im1, ⟨rfl, hS1.sel [0] rfl, trivial⟩⟩))))))
              · have hm := cfalse hb7 hm
                obtain ⟨u2, hx2, hm⟩ := bindS hm
                obtain ⟨b2, of2, cs2, k2, cp2, hv2, hp2, hl2, he2, hr2, hc2, hT2⟩ := (h1.mono im1).ixT hx2 rfl
                cases hr2
                refine gT (d0 := 40) rfl rfl hb7 (pv (r_ms rfl) (gT (d0 := 40) rfl rfl hb7 (pv (r_mi rfl) (gT (d0 := 40) rfl rfl hb7 (pv (r_ixe hv2 rfl Try.underlying22 Try.sizeOf3 hp2 hl2 he2) (gT (d0 := 40) rfl rfl hb7 (pv (r_ld rfl Try.isAgg3 (hc2.get (j := 0) rfl)) (gT (d0 := 40) rfl rfl hb7 (pv (r_ib rfl rfl rfl) (pv (r_pkf rfl hb7 rfl) (nil (t_thenR [(0, .slice a1 (List.length p0) c1), (7, .int .i64 x1), (46, .bool (decide (1048576 < u2)))] ⟨rfl, rfl, rfl, trivial⟩ fun J => ?_))))))))))))
                refine cnd rfl (fun hb8 => ?_) (fun hb8 => ?_)
                · have hm := ctrue hb8 hm
                  refine sq2 ?_
                  refine rg (pv (r_zb rfl) (nil (t_then ?_)))
                  have hm := Option.some.inj hm
                  subst hm
                  have hn1 : _ = Lp.ret _ := hn1
                  subst hn1
                  have hm := thn_ret hq1
                  have hm := Option.some.inj hm
                  subst hm
                  exact rtn (r_blk (r_then (r_then (r_blk (r_then (ret1 rfl rfl ⟨_, rfl, _, im1, ⟨rfl, hS1.sel [0] rfl, trivial⟩⟩))))))
                · have hm := cfalse hb8 hm
                  refine skp (t_blk (t_then ?_))
                  have hm := Option.some.inj hm
                  subst hm
                  exact rg (pv (r_mi rfl) (pv (r_ib rfl rfl rfl) (pv (r_zi rfl) (nil (t_then ⟨m1, Nat.lt_succ_self _, _, _, (IntKind.wrap .i64 (x1 + 1)), env_has ⟨rfl, rfl, trivial⟩, im1, hS1.sel [0] rfl, hn1⟩)))))
            · have hm := cfalse hb6 hm
              have hm := Option.some.inj hm
              subst hm
              have hn1 : _ = Lp.brk _ := hn1
              subst hn1
              have hm := thn_brk hq1
              refine xt (x_then (x_then (x_eq (t_thenR [] trivial fun J => ?_))))
              refine sq2 ?_
              refine rg (pv (r_zb rfl) (nil (t_then ?_)))
              have hm := Option.some.inj hm
              subst hm
              exact rtn (ret1 rfl rfl ⟨_, rfl, _, im1, ⟨rfl, hS1.sel [0] rfl, trivial⟩⟩)

set_option maxRecDepth 100000 in
set_option maxHeartbeats 1000000 in
theorem power_Steady_1_sim {g : World} {T0 : Nat → Prop} {w0 : World} {R : Assn} {p0 : Int} {r : Bool} (hS : Sep g T0 w0 [R])  (hm : power_Steady_1 p0 = some r) :
    Calls Try.prog 16 #[.int .i64 p0] w0 (RetS T0 w0 fun T w v => v = .bool r ∧ Sep g T w [R] ∧ True) := by
  refine enter (args := [.int .i64 p0]) Try.func16 rfl Try.ntmps16 rfl fun J => ?_
  unfold power_Steady_1 at hm
  refine sq2 ?_
  refine rg (pv (r_zb rfl) (nil (t_then ?_)))
  refine sq2 ?_
  refine rg (pv (r_mi rfl) (pv (r_ib rfl rfl rfl) (pv (r_zb rfl) (nil (t_then ?_)))))
  have hm := Option.some.inj hm
  subst hm
  exact rtn (ret1 rfl rfl ⟨_, rfl, _, Im.refl, ⟨rfl, hS.sel [0] rfl, trivial⟩⟩)

set_option maxRecDepth 100000 in
set_option maxHeartbeats 1000000 in
theorem slices_IndexFunc_2_sim {g : World} {T0 : Nat → Prop} {w0 : World} {R : Assn} {p0 : List Int} {a1 : Option Addr} {c1 : Nat} {r : Int} (hS : Sep g T0 w0 [R]) (h1 : SlR (rInt .i64) T0 w0 (.slice a1 (List.length p0) c1) p0) (hm : slices_IndexFunc_2 p0 = some r) :
    Calls Try.prog 18 #[.slice a1 (List.length p0) c1, .func (.func 16) #[] #[]] w0 (RetS T0 w0 fun T w v => v = .int .i64 r ∧ Sep g T w [R] ∧ True) := by
  refine enter (args := [.slice a1 (List.length p0) c1, .func (.func 16) #[] #[]]) Try.func18 rfl Try.ntmps18 rfl fun J => ?_
  unfold slices_IndexFunc_2 at hm
  refine sq2 ?_
  refine rg (pv (r_zi rfl) (nil (t_then ?_)))
  refine sq2 ?_
  refine sq2 ?_
  refine rg (pv (r_ms rfl) (pv (r_ln rfl Try.underlying22) (pv (r_mi rfl) (nil (t_then ?_)))))
  obtain ⟨o1, ho1, hq1⟩ := bindS hm
  obtain ⟨bd1, hbd1, ho1⟩ := loop_open ho1
  refine blk (wp_loop_ghost (fun m a w1 => ∃ (J : Nat → Value) (T1 : Nat → Prop) (x1 : Int), a = env (nf 19) J [(0, .slice a1 (List.length p0) c1), (1, .func (.func 16) #[] #[]), (7, .int .i64 (List.length p0 : Int)), (8, .int .i64 x1)] ∧ Im T0 w0 T1 w1 ∧ Sep g T1 w1 [R] ∧ loopM bd1 m x1 = some o1) NN ⟨_, _, 0, env_has ⟨rfl, rfl, rfl, rfl, trivial⟩, Im.refl, hS.sel [0] rfl, ho1⟩ ?_)
  rintro m _ w1 ⟨J, T1, x1, rfl, im1, hS1, ho1⟩
  obtain ⟨m1, z1, rfl, hm, hn1⟩ := loop_round ho1
  rw [hbd1] at hm
  refine sq2 ?_
  refine rg (pv (r_ib rfl rfl rfl) (nil (t_then ?_)))
  refine sq2 ?_
  refine cnd rfl (fun hb1 => ?_) (fun hb1 => ?_)
  · have hm := ctrue hb1 hm
    refine skp (t_then ?_)
    refine sq2 ?_
    refine blk ?_
    refine sq2 ?_
    refine rg (pv (r_mi rfl) (pv (r_zi rfl) (nil (t_then ?_))))
    refine sq2 ?_
    obtain ⟨u1, hx1, hm⟩ := bindS hm
    obtain ⟨b1, of1, cs1, k1, cp1, hv1, hp1, hl1, he1, hr1, hc1, hT1⟩ := (h1.mono im1).ixT hx1 rfl
    cases hr1
    obtain ⟨y1, hx2, hm⟩ := bindS hm
    refine rg (pv (r_mf rfl) (pv (r_ms rfl) (pv (r_mi rfl) (pv (r_ixe hv1 rfl Try.underlying22 Try.sizeOf3 hp1 hl1 he1) (pv (r_ld rfl Try.isAgg3 (hc1.get (j := 0) rfl)) (wl rfl (calS cf16 rfl (power_Steady_1_sim (p0 := u1) (hS1.bun [0] [] rfl)  hx2) rfl fun v1 T2 w2 im2 rv1 => ?_)))))))
    obtain ⟨rfl, hS2, _⟩ := rv1
    have hS2 : Sep g T2 w2 [R] := hS2.unb
    refine nil (t_thenR [(0, .slice a1 (List.length p0) c1), (1, .func (.func 16) #[] #[]), (5, .int .i64 x1), (7, .int .i64 (List.length p0 : Int)), (8, .int .i64 x1), (16, .bool y1)] ⟨rfl, rfl, rfl, rfl, rfl, rfl, trivial⟩ fun J => ?_)
    refine cnd rfl (fun hb2 => ?_) (fun hb2 => ?_)
    · have hm := ctrue hb2 hm
      refine sq2 ?_
      refine rg (pv (r_mi rfl) (pv (r_zi rfl) (nil (t_thenR [(4, .int .i64 x1)] ⟨rfl, trivial⟩ fun J => ?_))))
      have hm := Option.some.inj hm
      subst hm
      have hn1 : _ = Lp.ret _ := hn1
      subst hn1
      have hm := thn_ret hq1
      have hm := Option.some.inj hm
      subst hm
      exact rtn (r_blk (r_then (r_then (r_blk (r_then (ret1 rfl rfl ⟨_, rfl, _, (Im.trans im1 im2), ⟨rfl, hS2.sel [0] rfl, trivial⟩⟩))))))
    · have hm := cfalse hb2 hm
      refine skp (t_blk (t_then ?_))
      have hm := Option.some.inj hm
      subst hm
      exact rg (pv (r_ib rfl rfl rfl) (pv (r_mi rfl) (nil (t_then ⟨m1, Nat.lt_succ_self _, _, _, (IntKind.wrap .i64 (x1 + 1)), env_has ⟨rfl, rfl, rfl, rfl, trivial⟩, (Im.trans im1 im2), hS2.sel [0] rfl, hn1⟩))))
  · have hm := cfalse hb1 hm
    have hm := Option.some.inj hm
    subst hm
    have hn1 : _ = Lp.brk _ := hn1
    subst hn1
    have hm := thn_brk hq1
    refine xt (x_then (x_then (x_eq (t_thenR [] trivial fun J => ?_))))
    refine sq2 ?_
    refine rg (pv (r_zi rfl) (nil (t_then ?_)))
    have hm := Option.some.inj hm
    subst hm
    exact rtn (ret1 rfl rfl ⟨_, rfl, _, im1, ⟨rfl, hS1.sel [0] rfl, trivial⟩⟩)

set_option maxRecDepth 100000 in
set_option maxHeartbeats 1000000 in
theorem slices_ContainsFunc_2_sim {g : World} {T0 : Nat → Prop} {w0 : World} {R : Assn} {p0 : List Int} {a1 : Option Addr} {c1 : Nat} {r : Bool} (hS : Sep g T0 w0 [R]) (h1 : SlR (rInt .i64) T0 w0 (.slice a1 (List.length p0) c1) p0) (hm : slices_ContainsFunc_2 p0 = some r) :
    Calls Try.prog 15 #[.slice a1 (List.length p0) c1, .func (.func 16) #[] #[]] w0 (RetS T0 w0 fun T w v => v = .bool r ∧ Sep g T w [R] ∧ True) := by
  refine enter (args := [.slice a1 (List.length p0) c1, .func (.func 16) #[] #[]]) Try.func15 rfl Try.ntmps15 rfl fun J => ?_
  unfold slices_ContainsFunc_2 at hm
  refine sq2 ?_
  refine rg (pv (r_zb rfl) (nil (t_then ?_)))
  refine sq2 ?_
  obtain ⟨y1, hx1, hm⟩ := bindS hm
  refine rg (pv (r_ms rfl) (pv (r_mf rfl) (wl rfl (calS cf18 rfl (slices_IndexFunc_2_sim (p0 := p0) (hS.bun [0] [] rfl) h1 hx1) rfl fun v1 T1 w1 im1 rv1 => ?_))))
  obtain ⟨rfl, hS1, _⟩ := rv1
  have hS1 : Sep g T1 w1 [R] := hS1.unb
  refine pv (r_ib rfl rfl rfl) (pv (r_zb rfl) (nil (t_thenR [(4, .bool (decide (0 ≤ y1)))] ⟨rfl, trivial⟩ fun J => ?_)))
  have hm := Option.some.inj hm
  subst hm
  exact rtn (ret1 rfl rfl ⟨_, rfl, _, im1, ⟨rfl, hS1.sel [0] rfl, trivial⟩⟩)

set_option maxRecDepth 100000 in
set_option maxHeartbeats 1000000 in
theorem power_Steady_sim {g : World} {T0 : Nat → Prop} {w0 : World} {R : Assn} {p0 : PowerSupply} {a1 : Option Addr} {c1 : Nat} {r : Bool} (hS : Sep g T0 w0 [R]) (h1 : SlR (rInt .i64) T0 w0 (.slice a1 (List.length p0.Ticks) c1) p0.Ticks) (hm : power_Steady p0 = some r) :
    Calls Try.prog 10 #[.agg #[.slice a1 (List.length p0.Ticks) c1, .int .i64 p0.Room, .int .i64 p0.On]] w0 (RetS T0 w0 fun T w v => v = .bool r ∧ Sep g T w [R] ∧ True) := by
  refine enter (args := [.agg #[.slice a1 (List.length p0.Ticks) c1, .int .i64 p0.Room, .int .i64 p0.On]]) Try.func10 rfl Try.ntmps10 rfl fun J => ?_
  unfold power_Steady at hm
  refine sq2 ?_
  refine rg (wl rfl (bxS (cs := [.slice a1 (List.length p0.Ticks) c1, .int .i64 p0.Room, .int .i64 p0.On]) rfl rfl hS fun w1 b1 im1 hS1 => ?_))
  refine pv (r_zb rfl) (nil (t_then ?_))
  refine sq2 ?_
  obtain ⟨y1, hx1, hm⟩ := bindS hm
  refine rg (pv (r_fa rfl Try.underlying24 rfl Try.sizeOf22 rfl) (pv (r_ld rfl Try.isAgg22 (hS1.cell0 (i := 0) ⟨rfl, rfl⟩ (j := 0) rfl)) (wl rfl (calS cf15 rfl (slices_ContainsFunc_2_sim (p0 := p0.Ticks) (hS1.bun [1] [] rfl) (h1.mono im1) hx1) rfl fun v1 T1 w2 im2 rv1 => ?_))))
  obtain ⟨rfl, hS2, _⟩ := rv1
  have hS2 : Sep g T1 w2 [R] := hS2.unb
  refine pv (r_zb rfl) (nil (t_thenR [(2, .bool y1)] ⟨rfl, trivial⟩ fun J => ?_))
  have hm := Option.some.inj hm
  subst hm
  exact rtn (ret1 rfl rfl ⟨_, rfl, _, (Im.trans im1 im2), ⟨rfl, hS2.sel [0] rfl, trivial⟩⟩)

set_option maxRecDepth 100000 in
set_option maxHeartbeats 1000000 in
theorem ref33_Go_sim {g : World} {T0 : Nat → Prop} {w0 : World} {R : Assn} {p0 : List Int} {a1 : Option Addr} {c1 : Nat} {p1 : Int} {p2 : Int} {p3 : Int} {r : ref33Run} (hS : Sep g T0 w0 [R]) (h1 : SlR (rInt .i64) T0 w0 (.slice a1 (List.length p0) c1) p0) (hm : ref33_Go p0 p1 p2 p3 = some r) :
    Calls Try.prog 11 #[.slice a1 (List.length p0) c1, .int .i64 p1, .int .i64 p2, .int .i64 p3] w0 (RetS T0 w0 fun T w v => ∃ (a7 : Option Addr) (c7 : Nat), v = .agg #[.slice a7 (List.length r.Fails) c7, .int .i64 r.Done] ∧ Sep g T w [R] ∧ SlR (rInt .i64) T w (.slice a7 (List.length r.Fails) c7) r.Fails ∧ True) := by
  refine enter (args := [.slice a1 (List.length p0) c1, .int .i64 p1, .int .i64 p2, .int .i64 p3]) Try.func11 rfl Try.ntmps11 rfl fun J => ?_
  unfold ref33_Go at hm
  refine sq2 ?_
  refine rg (wl rfl (alS (zs := [.slice none 0 0, .int .i64 0]) Try.zeroValue33 rfl hS fun w1 b1 im1 hS1 => ?_))
  refine nil (t_then ?_)
  refine sq2 ?_
  refine rg (wl rfl (alS (zs := [.slice none 0 0, .int .i64 0]) Try.zeroValue33 rfl hS1 fun w2 b2 im2 hS2 => ?_))
  refine nil (t_then ?_)
  refine sq2 ?_
  refine rg (pv (r_zi rfl) (nil (t_then ?_)))
  refine sq2 ?_
  refine rg (pv (r_zb rfl) (nil (t_then ?_)))
  refine sq2 ?_
  refine sq2 ?_
  refine rg (pv (r_zi rfl) (nil (t_then ?_)))
  obtain ⟨o1, ho1, hq1⟩ := bindS hm
  obtain ⟨bd1, hbd1, ho1⟩ := loop_open ho1
  have hS3 := hS2.nilO (rInt .i64) 3
  refine blk (wp_loop_ghost (fun m a w3 => ∃ (J : Nat → Value) (T1 : Nat → Prop) (x5 : ref33Run) (a2 : Option Addr) (n1 : Nat) (c2 : Nat) (x2 : Int) (x3 : Bool) (x4 : Int), a = env (nf 58) J [(0, .slice a1 (List.length p0) c1), (1, .int .i64 p1), (2, .int .i64 p2), (3, .int .i64 p3), (8, .pointer (some ⟨b1, 0, none⟩)), (9, .pointer (some ⟨b2, 0, none⟩)), (10, .int .i64 x2), (11, .bool x3), (12, .int .i64 x4)] ∧ Im T0 w2 T1 w3 ∧ Sep g T1 w3 [ownA (rInt .i64) 3 (.slice a2 n1 c2) x5.Fails, boxA b2 [.slice a2 n1 c2, .int .i64 x5.Done], boxA b1 [.slice none 0 0, .int .i64 0], R] ∧ loopM bd1 m (x2, x3, x4, x5) = some o1) NN ⟨_, _, (⟨[], 0⟩ : ref33Run), _, _, _, 0, false, 0, env_has ⟨rfl, rfl, rfl, rfl, rfl, rfl, rfl, rfl, rfl, trivial⟩, Im.refl, hS3.sel [0, 1, 2, 3] rfl, ho1⟩ ?_)
  rintro m _ w3 ⟨J, T1, x5, a2, n1, c2, x2, x3, x4, rfl, im3, hS4, ho1⟩
  obtain ⟨m1, z1, rfl, hm, hn1⟩ := loop_round ho1
  rw [hbd1] at hm
  refine sq2 ?_
  refine sq2 ?_
  refine rg (pv (r_mi rfl) (pv (r_mi rfl) (pv (r_ib rfl rfl rfl) (nil (t_then ?_)))))
  refine cnd rfl (fun hb1 => ?_) (fun hb1 => ?_)
  · have hm := ctrue hb1 hm
    refine skp (t_then ?_)
    obtain ⟨kk1, hkk1, hm⟩ := jn_open hm
    refine cut (fun a w4 => ∃ (J : Nat → Value) (T2 : Nat → Prop) (x9 : ref33Run) (a3 : Option Addr) (n2 : Nat) (c3 : Nat) (x7 : Int) (x8 : Bool), a = env (nf 58) J [(0, .slice a1 (List.length p0) c1), (1, .int .i64 p1), (2, .int .i64 p2), (3, .int .i64 p3), (8, .pointer (some ⟨b1, 0, none⟩)), (9, .pointer (some ⟨b2, 0, none⟩)), (10, .int .i64 x7), (11, .bool x8), (12, .int .i64 x4)] ∧ Im T1 w3 T2 w4 ∧ Sep g T2 w4 [ownA (rInt .i64) 3 (.slice a3 n2 c3) x9.Fails, boxA b2 [.slice a3 n2 c3, .int .i64 x9.Done], boxA b1 [.slice none 0 0, .int .i64 0], R] ∧ kk1 x7 x8 x9 = some z1) ?_ ?_
    · refine blk ?_
      refine sq2 ?_
      obtain ⟨_, hz1, hm⟩ := bindS hm
      have hz1 := nz_some hz1
      obtain ⟨u1, hx1, hm⟩ := bindS hm
      obtain ⟨b3, of1, cs1, k1, cp1, hv1, hp1, hl1, he1, hr1, hc1, hT1⟩ := (h1.mono (Im.trans im1 (Im.trans im2 im3))).ixT hx1 rfl
      cases hr1
      refine rg (pv (r_mi rfl) (pv (r_ms rfl) (pv (r_mi rfl) (pv (r_ms rfl) (pv (r_ln rfl Try.underlying22) (pv (r_irm rfl rfl hz1) (pv (r_ixe hv1 rfl Try.underlying22 Try.sizeOf3 hp1 hl1 he1) (pv (r_ld rfl Try.isAgg3 (hc1.get (j := 0) rfl)) (pv (r_ib rfl rfl rfl) (pv (r_zi rfl) (nil (t_thenR [(0, .slice a1 (List.length p0) c1), (1, .int .i64 p1), (2, .int .i64 p2), (3, .int .i64 p3), (8, .pointer (some ⟨b1, 0, none⟩)), (9, .pointer (some ⟨b2, 0, none⟩)), (10, .int .i64 (IntKind.wrap .i64 (x2 + u1))), (11, .bool x3), (12, .int .i64 x4)] ⟨rfl, rfl, rfl, rfl, rfl, rfl, rfl, rfl, rfl, trivial⟩ fun J => ?_))))))))))))
      obtain ⟨kk2, hkk2, hm⟩ := jn_open hm
      refine cut (fun a w5 => ∃ (J : Nat → Value) (T3 : Nat → Prop) (x10 : Int), a = env (nf 58) J [(0, .slice a1 (List.length p0) c1), (1, .int .i64 p1), (2, .int .i64 p2), (3, .int .i64 p3), (8, .pointer (some ⟨b1, 0, none⟩)), (9, .pointer (some ⟨b2, 0, none⟩)), (10, .int .i64 x10), (11, .bool x3), (12, .int .i64 x4)] ∧ Im T1 w3 T3 w5 ∧ Sep g T3 w5 [ownA (rInt .i64) 3 (.slice a2 n1 c2) x5.Fails, boxA b2 [.slice a2 n1 c2, .int .i64 x5.Done], boxA b1 [.slice none 0 0, .int .i64 0], R] ∧ kk2 x10 = some z1) ?_ ?_
      · refine sq2 ?_
        refine rg (pv (r_mi rfl) (pv (r_mi rfl) (pv (r_ib rfl rfl rfl) (nil (t_then ?_)))))
        refine cnd rfl (fun hb2 => ?_) (fun hb2 => ?_)
        · have hm := ctrue hb2 hm
          exact rg (pv (r_mi rfl) (pv (r_zi rfl) (nil (t_then ⟨_, _, p1, env_has ⟨rfl, rfl, rfl, rfl, rfl, rfl, rfl, rfl, rfl, trivial⟩, Im.refl, hS4.sel [0, 1, 2, 3] rfl, hm⟩))))
        · have hm := cfalse hb2 hm
          exact skp (t_then ⟨_, _, (IntKind.wrap .i64 (x2 + u1)), env_has ⟨rfl, rfl, rfl, rfl, rfl, rfl, rfl, rfl, rfl, trivial⟩, Im.refl, hS4.sel [0, 1, 2, 3] rfl, hm⟩)
      · rintro _ w5 ⟨J, T3, x10, rfl, im5, hS5, hm⟩
        rw [hkk2] at hm
        obtain ⟨kk3, hkk3, hm⟩ := jn_open hm
        refine cut (fun a w6 => ∃ (J : Nat → Value) (T4 : Nat → Prop) (x13 : ref33Run) (a4 : Option Addr) (n3 : Nat) (c4 : Nat) (x12 : Bool), a = env (nf 58) J [(0, .slice a1 (List.length p0) c1), (1, .int .i64 p1), (2, .int .i64 p2), (3, .int .i64 p3), (8, .pointer (some ⟨b1, 0, none⟩)), (9, .pointer (some ⟨b2, 0, none⟩)), (10, .int .i64 x10), (11, .bool x12), (12, .int .i64 x4)] ∧ Im T3 w5 T4 w6 ∧ Sep g T4 w6 [ownA (rInt .i64) 3 (.slice a4 n3 c4) x13.Fails, boxA b2 [.slice a4 n3 c4, .int .i64 x13.Done], boxA b1 [.slice none 0 0, .int .i64 0], R] ∧ kk3 x12 x13 = some z1) ?_ ?_
        · refine sq2 ?_
          refine rg (pv (r_mb rfl) (pv (r_nt rfl) (pv (r_mb rfl) (?_))))
          rcases Bool.eq_false_or_eq_true (!x3) with hb3 | hb3
          · have hm := ctrue hb3 hm
            refine gT (d0 := 33) rfl rfl hb3 (pv (r_mi rfl) (gT (d0 := 33) rfl rfl hb3 (pv (r_mi rfl) (gT (d0 := 33) rfl rfl hb3 (pv (r_ib rfl rfl rfl) (pv (r_pkt rfl hb3 rfl) (nil (t_thenR [(0, .slice a1 (List.length p0) c1), (1, .int .i64 p1), (2, .int .i64 p2), (3, .int .i64 p3), (8, .pointer (some ⟨b1, 0, none⟩)), (9, .pointer (some ⟨b2, 0, none⟩)), (10, .int .i64 x10), (11, .bool x3), (12, .int .i64 x4), (37, .bool (decide (p2 ≤ x10)))] ⟨rfl, rfl, rfl, rfl, rfl, rfl, rfl, rfl, rfl, rfl, trivial⟩ fun J => ?_))))))))
            refine cnd rfl (fun hb4 => ?_) (fun hb4 => ?_)
            · have hm := ctrue hb4 hm
              refine sq2 ?_
              refine rg (pv (r_zb rfl) (nil (t_then ?_)))
              refine sq2 ?_
              refine rg (pv (r_fa rfl Try.underlying33 rfl Try.sizeOf3 rfl) (pv (r_ld rfl Try.isAgg3 (hS5.cell0 (i := 1) ⟨rfl, rfl⟩ (j := 1) rfl)) (pv (r_ib rfl rfl rfl) (nil (t_then ?_)))))
              refine cnd rfl (fun hb5 => ?_) (fun hb5 => ?_)
              · have hm := ctrue hb5 hm
                refine rg (pv (r_fa rfl Try.underlying33 rfl Try.sizeOf22 rfl) (pv (r_ld rfl Try.isAgg22 (hS5.cell0 (i := 1) ⟨rfl, rfl⟩ (j := 0) rfl)) (pv (r_fa rfl Try.underlying33 rfl Try.sizeOf3 rfl) (pv (r_ld rfl Try.isAgg3 (hS5.cell0 (i := 1) ⟨rfl, rfl⟩ (j := 1) rfl)) (wl rfl (bsS (r := (rInt .i64)) (l := ([x5.Done] : List Int)) (css := [[.int .i64 x5.Done]]) hS5 Try.underlying22 Try.sizeOf3 Try.zeroValue3 rfl rfl (by kernel_rfl) rfl ⟨rfl, trivial⟩ rfl rfl fun w7 a5 n4 c5 im7 hS6 => ?_))))))
                obtain ⟨z_1, hro1, hm⟩ := bindS hm
                refine wl rfl (apO (q := 1) (l := x5.Fails) (us := ([x5.Done] : List Int)) hS6 ⟨rfl, rfl⟩ rfl rfl (hS6.own (i := 0) ⟨rfl, rfl⟩).v Try.underlying22 el3 (room_some hro1) fun w8 a6 n5 c6 im8 hS7 => ?_)
                have hS7 : Sep g T3 w8 [ownA (rInt .i64) 3 (.slice a5 n4 c5) ([x5.Done] : List Int), ownA (rInt .i64) 3 (.slice a6 n5 c6) (x5.Fails ++ ([x5.Done] : List Int)), boxA b2 [.slice a2 n1 c2, .int .i64 x5.Done], boxA b1 [.slice none 0 0, .int .i64 0], R] := hS7
                refine pv (r_fa rfl Try.underlying33 rfl Try.sizeOf22 rfl) (wl rfl (st0B (q := 2) hS7 ⟨rfl, rfl⟩ rfl rfl rfl Try.sizeOf22 rfl rfl rfl fun w9 im9 hS8 => ?_))
                have hS8 : Sep g T3 w9 [ownA (rInt .i64) 3 (.slice a5 n4 c5) ([x5.Done] : List Int), ownA (rInt .i64) 3 (.slice a6 n5 c6) (x5.Fails ++ ([x5.Done] : List Int)), boxA b2 [.slice a6 n5 c6, .int .i64 x5.Done], boxA b1 [.slice none 0 0, .int .i64 0], R] := hS8
                exact nil (t_then ⟨_, _, (⟨x5.Fails ++ ([x5.Done] : List Int), x5.Done⟩ : ref33Run), _, _, _, true, env_has ⟨rfl, rfl, rfl, rfl, rfl, rfl, rfl, rfl, rfl, trivial⟩, (Im.trans im7 (Im.trans im8 im9)), hS8.sel [1, 2, 3, 4] rfl, hm⟩)
              · have hm := cfalse hb5 hm
                exact skp (t_then ⟨_, _, x5, _, _, _, true, env_has ⟨rfl, rfl, rfl, rfl, rfl, rfl, rfl, rfl, rfl, trivial⟩, Im.refl, hS5.sel [0, 1, 2, 3] rfl, hm⟩)
            · have hm := cfalse hb4 hm
              exact skp (t_then ⟨_, _, x5, _, _, _, x3, env_has ⟨rfl, rfl, rfl, rfl, rfl, rfl, rfl, rfl, rfl, trivial⟩, Im.refl, hS5.sel [0, 1, 2, 3] rfl, hm⟩)
          · have hm := cfalse hb3 hm
            refine gF (d0 := 33) rfl rfl (by rw [hb3]; rfl) (gF (d0 := 33) rfl rfl (by rw [hb3]; rfl) (gF (d0 := 33) rfl rfl (by rw [hb3]; rfl) (pv (r_pkf rfl hb3 rfl) (nil (t_thenR [(0, .slice a1 (List.length p0) c1), (1, .int .i64 p1), (2, .int .i64 p2), (3, .int .i64 p3), (8, .pointer (some ⟨b1, 0, none⟩)), (9, .pointer (some ⟨b2, 0, none⟩)), (10, .int .i64 x10), (11, .bool x3), (12, .int .i64 x4), (37, .bool false)] ⟨rfl, rfl, rfl, rfl, rfl, rfl, rfl, rfl, rfl, rfl, trivial⟩ fun J => ?_)))))
            refine cnd (b := false) rfl (fun h => nomatch h) (fun _ => ?_)
            exact skp (t_then ⟨_, _, x5, _, _, _, x3, env_has ⟨rfl, rfl, rfl, rfl, rfl, rfl, rfl, rfl, rfl, trivial⟩, Im.refl, hS5.sel [0, 1, 2, 3] rfl, hm⟩)
        · rintro _ w6 ⟨J, T4, x13, a4, n3, c4, x12, rfl, im6, hS9, hm⟩
          rw [hkk3] at hm
          obtain ⟨kk4, hkk4, hm⟩ := jn_open hm
          refine cut (fun a w10 => ∃ (J : Nat → Value) (T5 : Nat → Prop) (x15 : ref33Run) (x14 : Int), a = env (nf 58) J [(0, .slice a1 (List.length p0) c1), (1, .int .i64 p1), (2, .int .i64 p2), (3, .int .i64 p3), (8, .pointer (some ⟨b1, 0, none⟩)), (9, .pointer (some ⟨b2, 0, none⟩)), (10, .int .i64 x14), (11, .bool x12), (12, .int .i64 x4)] ∧ Im T4 w6 T5 w10 ∧ Sep g T5 w10 [ownA (rInt .i64) 3 (.slice a4 n3 c4) x13.Fails, boxA b2 [.slice a4 n3 c4, .int .i64 x15.Done], boxA b1 [.slice none 0 0, .int .i64 0], R] ∧ kk4 x14 x15 = some z1) ?_ ?_
          · refine sq2 ?_
            refine rg (pv (r_mb rfl) (nil (t_then ?_)))
            refine cnd rfl (fun hb7 => ?_) (fun hb7 => ?_)
            · have hm := ctrue hb7 hm
              refine sq2 ?_
              refine rg (pv (r_fa rfl Try.underlying33 rfl Try.sizeOf3 rfl) (pv (r_ld rfl Try.isAgg3 (hS9.cell0 (i := 1) ⟨rfl, rfl⟩ (j := 1) rfl)) (pv (r_ib rfl rfl rfl) (pv (r_fa rfl Try.underlying33 rfl Try.sizeOf3 rfl) (wl rfl (st0B (q := 1) hS9 ⟨rfl, rfl⟩ rfl rfl rfl Try.sizeOf3 rfl rfl rfl fun w11 im11 hS10 => ?_))))))
              have hS10 : Sep g T4 w11 [ownA (rInt .i64) 3 (.slice a4 n3 c4) x13.Fails, boxA b2 [.slice a4 n3 c4, .int .i64 (IntKind.wrap .i64 (x13.Done + 1))], boxA b1 [.slice none 0 0, .int .i64 0], R] := hS10
              refine nil (t_thenR [(0, .slice a1 (List.length p0) c1), (1, .int .i64 p1), (2, .int .i64 p2), (3, .int .i64 p3), (8, .pointer (some ⟨b1, 0, none⟩)), (9, .pointer (some ⟨b2, 0, none⟩)), (10, .int .i64 x10), (11, .bool x12), (12, .int .i64 x4)] ⟨rfl, rfl, rfl, rfl, rfl, rfl, rfl, rfl, rfl, trivial⟩ fun J => ?_)
              exact rg (pv (r_mi rfl) (pv (r_ib rfl rfl rfl) (pv (r_zi rfl) (nil (t_then ⟨_, _, (⟨x13.Fails, IntKind.wrap .i64 (x13.Done + 1)⟩ : ref33Run), (IntKind.wrap .i64 (x10 - 1)), env_has ⟨rfl, rfl, rfl, rfl, rfl, rfl, rfl, rfl, rfl, trivial⟩, im11, hS10.sel [0, 1, 2, 3] rfl, hm⟩)))))
            · have hm := cfalse hb7 hm
              exact skp (t_then ⟨_, _, x13, x10, env_has ⟨rfl, rfl, rfl, rfl, rfl, rfl, rfl, rfl, rfl, trivial⟩, Im.refl, hS9.sel [0, 1, 2, 3] rfl, hm⟩)
          · rintro _ w10 ⟨J, T5, x15, x14, rfl, im10, hS11, hm⟩
            rw [hkk4] at hm
            refine sq2 ?_
            refine rg (pv (r_mi rfl) (pv (r_ib rfl rfl rfl) (nil (t_then ?_))))
            refine cnd rfl (fun hb8 => ?_) (fun hb8 => ?_)
            · have hm := ctrue hb8 hm
              exact rg (pv (r_zb rfl) (nil (t_blk (t_then ⟨_, _, (⟨x13.Fails, x15.Done⟩ : ref33Run), _, _, _, x14, false, env_has ⟨rfl, rfl, rfl, rfl, rfl, rfl, rfl, rfl, rfl, trivial⟩, (Im.trans im5 (Im.trans im6 im10)), hS11.sel [0, 1, 2, 3] rfl, hm⟩))))
            · have hm := cfalse hb8 hm
              exact skp (t_blk (t_then ⟨_, _, (⟨x13.Fails, x15.Done⟩ : ref33Run), _, _, _, x14, x12, env_has ⟨rfl, rfl, rfl, rfl, rfl, rfl, rfl, rfl, rfl, trivial⟩, (Im.trans im5 (Im.trans im6 im10)), hS11.sel [0, 1, 2, 3] rfl, hm⟩))
    · rintro _ w4 ⟨J, T2, x9, a3, n2, c3, x7, x8, rfl, im4, hS12, hm⟩
      rw [hkk1] at hm
      have hm := Option.some.inj hm
      subst hm
      exact rg (pv (r_mi rfl) (pv (r_ib rfl rfl rfl) (pv (r_zi rfl) (nil (t_then ⟨m1, Nat.lt_succ_self _, _, _, x9, _, _, _, x7, x8, (IntKind.wrap .i64 (x4 + 1)), env_has ⟨rfl, rfl, rfl, rfl, rfl, rfl, rfl, rfl, rfl, trivial⟩, (Im.trans im3 im4), hS12.sel [0, 1, 2, 3] rfl, hn1⟩)))))
  · have hm := cfalse hb1 hm
    have hm := Option.some.inj hm
    subst hm
    have hn1 : _ = Lp.brk _ := hn1
    subst hn1
    have hm := thn_brk hq1
    refine xt (x_then (x_then (x_eq (t_thenR [(8, .pointer (some ⟨b1, 0, none⟩)), (9, .pointer (some ⟨b2, 0, none⟩))] ⟨rfl, rfl, trivial⟩ fun J => ?_))))
    refine sq2 ?_
    refine rg (pv (r_ldS rfl Try.isAgg33 Try.sizeOf33 rfl (hS4.cells0 (i := 1) ⟨rfl, rfl⟩ (o := 0) rfl) (cs := [.slice a2 n1 c2, .int .i64 x5.Done])) (wl rfl (st0B (q := 2) hS4 ⟨rfl, rfl⟩ rfl rfl rfl Try.sizeOf33 rfl rfl rfl fun w12 im12 hS13 => ?_)))
    have hS13 : Sep g T1 w12 [ownA (rInt .i64) 3 (.slice a2 n1 c2) x5.Fails, boxA b2 [.slice a2 n1 c2, .int .i64 x5.Done], boxA b1 [.slice a2 n1 c2, .int .i64 x5.Done], R] := hS13
    refine nil (t_then ?_)
    obtain ⟨T6, im13, hS14, h2⟩ := hS13.seal 0 ⟨rfl, rfl⟩
    have hsh := h2.len
    subst hsh
    have hS14 : Sep g T6 w12 [empA, boxA b2 [.slice a2 (List.length x5.Fails) c2, .int .i64 x5.Done], boxA b1 [.slice a2 (List.length x5.Fails) c2, .int .i64 x5.Done], R] := hS14
    have hm := Option.some.inj hm
    subst hm
    exact rtn (retN (vs := [.agg #[.slice a2 (List.length x5.Fails) c2, .int .i64 x5.Done]]) rfl ⟨rvS rfl Try.isAgg33 Try.sizeOf33 rfl (hS14.bx (i := 2) ⟨rfl, rfl⟩), trivial⟩ rfl ⟨_, rfl, _, (Im.trans im1 (Im.trans im2 (Im.trans im3 (Im.trans im12 im13)))), ⟨_, _, rfl, hS14.sel [3] rfl, h2, trivial⟩⟩)

set_option maxRecDepth 100000 in
set_option maxHeartbeats 1000000 in
theorem law33_PowerFails_sim {g : World} {T0 : Nat → Prop} {w0 : World} {R : Assn} {p0 : PowerSupply} {a1 : Option Addr} {c1 : Nat} {p1 : Int} {r : Bool} (hS : Sep g T0 w0 [R]) (h1 : SlR (rInt .i64) T0 w0 (.slice a1 (List.length p0.Ticks) c1) p0.Ticks) (hm : law33_PowerFails p0 p1 = some r) :
    Calls Try.prog 4 #[.agg #[.slice a1 (List.length p0.Ticks) c1, .int .i64 p0.Room, .int .i64 p0.On], .int .i64 p1] w0 (RetS T0 w0 fun T w v => v = .bool r ∧ Sep g T w [R] ∧ True) := by
  refine enter (args := [.agg #[.slice a1 (List.length p0.Ticks) c1, .int .i64 p0.Room, .int .i64 p0.On], .int .i64 p1]) Try.func4 rfl Try.ntmps4 rfl fun J => ?_
  unfold law33_PowerFails at hm
  refine sq2 ?_
  refine rg (wl rfl (bxS (cs := [.slice a1 (List.length p0.Ticks) c1, .int .i64 p0.Room, .int .i64 p0.On]) rfl rfl hS fun w1 b1 im1 hS1 => ?_))
  refine pv (r_zb rfl) (nil (t_then ?_))
  refine sq2 ?_
  refine sq2 ?_
  obtain ⟨y1, hx1, hm⟩ := bindS hm
  refine rg (pv (r_ldS rfl Try.isAgg24 Try.sizeOf24 rfl (hS1.cells0 (i := 0) ⟨rfl, rfl⟩ (o := 0) rfl) (cs := [.slice a1 (List.length p0.Ticks) c1, .int .i64 p0.Room, .int .i64 p0.On])) (wl rfl (calS cf7 rfl (law33_few_sim (p0 := p0) (hS1.bun [0, 1] [] rfl) (h1.mono im1) hx1) rfl fun v1 T1 w2 im2 rv1 => ?_)))
  obtain ⟨rfl, hS2, _⟩ := rv1
  have hS2 : Sep g T1 w2 [boxA b1 [.slice a1 (List.length p0.Ticks) c1, .int .i64 p0.Room, .int .i64 p0.On], R] := hS2.unb
  refine pv (r_nt rfl) (pv (r_mb rfl) (?_))
  rcases Bool.eq_false_or_eq_true (!y1) with hb1 | hb1
  · have hm := ctrue hb1 hm
    refine gF (d0 := 16) rfl rfl (by rw [hb1]; rfl) (gF (d0 := 16) rfl rfl (by rw [hb1]; rfl) (pv (r_pkt rfl hb1 rfl) (nil (t_thenR [(1, .int .i64 p1), (2, .pointer (some ⟨b1, 0, none⟩)), (19, .bool true)] ⟨rfl, rfl, rfl, trivial⟩ fun J => ?_))))
    refine cnd (b := true) rfl (fun _ => ?_) (fun h => nomatch h)
    refine sq2 ?_
    obtain ⟨y10, hx13, hm⟩ := bindS hm
    refine rg (wl rfl (calS cf5 rfl (law33_awake_sim  (hS2.bun [1] [] rfl)  hx13) rfl fun v10 T13 w16 im16 rv10 => ?_))
    obtain ⟨rfl, hS16, _⟩ := rv10
    have hS16 : Sep g T13 w16 [R] := hS16.unb
    refine pv (r_zb rfl) (nil (t_then ?_))
    have hm := Option.some.inj hm
    subst hm
    exact rtn (r_then (ret1 rfl rfl ⟨_, rfl, _, (Im.trans im1 (Im.trans im2 im16)), ⟨rfl, hS16.sel [0] rfl, trivial⟩⟩))
  · have hm := cfalse hb1 hm
    refine gT (d0 := 16) rfl rfl hb1 (pv (r_mi rfl) (gT (d0 := 16) rfl rfl hb1 (pv (r_ib rfl rfl rfl) (pv (r_pkf rfl hb1 rfl) (nil (t_thenR [(1, .int .i64 p1), (2, .pointer (some ⟨b1, 0, none⟩)), (19, .bool (decide (20000 < p1)))] ⟨rfl, rfl, rfl, trivial⟩ fun J => ?_))))))
    refine cnd rfl (fun hb2 => ?_) (fun hb2 => ?_)
    · have hm := ctrue hb2 hm
      refine sq2 ?_
      obtain ⟨y2, hx2, hm⟩ := bindS hm
      refine rg (wl rfl (calS cf5 rfl (law33_awake_sim  (hS2.bun [1] [] rfl)  hx2) rfl fun v2 T2 w3 im3 rv2 => ?_))
      obtain ⟨rfl, hS3, _⟩ := rv2
      have hS3 : Sep g T2 w3 [R] := hS3.unb
      refine pv (r_zb rfl) (nil (t_then ?_))
      have hm := Option.some.inj hm
      subst hm
      exact rtn (r_then (ret1 rfl rfl ⟨_, rfl, _, (Im.trans im1 (Im.trans im2 im3)), ⟨rfl, hS3.sel [0] rfl, trivial⟩⟩))
    · have hm := cfalse hb2 hm
      refine skp (t_then ?_)
      refine sq2 ?_
      obtain ⟨y3, hx3, hm⟩ := bindS hm
      refine rg (pv (r_ldS rfl Try.isAgg24 Try.sizeOf24 rfl (hS2.cells0 (i := 0) ⟨rfl, rfl⟩ (o := 0) rfl) (cs := [.slice a1 (List.length p0.Ticks) c1, .int .i64 p0.Room, .int .i64 p0.On])) (pv (r_mi rfl) (wl rfl (calS cf6 rfl (power_Fails_sim (p0 := p0) (p1 := p1) (hS2.bun [0, 1] [] rfl) (h1.mono (Im.trans im1 im2)) hx3) rfl fun v3 T3 w4 im4 rv3 => ?_))))
      obtain ⟨a2, n1, c2, rfl, hS4, _⟩ := rv3
      have hS4 : Sep g T3 w4 [boxA b1 [.slice a1 (List.length p0.Ticks) c1, .int .i64 p0.Room, .int .i64 p0.On], R, ownA (rInt .i64) 3 (.slice a2 n1 c2) y3.1] := hS4.unb
      refine pv (r_mv rfl) (pv (r_ex (v := .slice a2 n1 c2) rfl rfl) (pv (r_ex (v := .int .i64 y3.2.1) rfl rfl) (pv (r_ex (v := .int .i64 y3.2.2) rfl rfl) (pv (r_zs rfl) (pv (r_zi rfl) (pv (r_zi rfl) (nil (t_thenR [(1, .int .i64 p1), (2, .pointer (some ⟨b1, 0, none⟩)), (5, .slice a2 n1 c2), (6, .int .i64 y3.2.1), (7, .int .i64 y3.2.2)] ⟨rfl, rfl, rfl, rfl, rfl, trivial⟩ fun J => ?_))))))))
      refine sq2 ?_
      obtain ⟨y4, hx4, hm⟩ := bindS hm
      refine rg (pv (r_fa rfl Try.underlying24 rfl Try.sizeOf22 rfl) (pv (r_ld rfl Try.isAgg22 (hS4.cell0 (i := 0) ⟨rfl, rfl⟩ (j := 0) rfl)) (pv (r_fa rfl Try.underlying24 rfl Try.sizeOf3 rfl) (pv (r_ld rfl Try.isAgg3 (hS4.cell0 (i := 0) ⟨rfl, rfl⟩ (j := 1) rfl)) (pv (r_fa rfl Try.underlying24 rfl Try.sizeOf3 rfl) (pv (r_ld rfl Try.isAgg3 (hS4.cell0 (i := 0) ⟨rfl, rfl⟩ (j := 2) rfl)) (wl rfl (calS cf8 rfl (ref33_Right_sim (p0 := p0.Ticks) (p1 := p0.Room) (p2 := p0.On) (hS4.bun [0, 1, 2] [] rfl) (h1.mono (Im.trans im1 (Im.trans im2 im4))) hx4) rfl fun v4 T4 w5 im5 rv4 => ?_))))))))
      obtain ⟨rfl, hS5, _⟩ := rv4
      have hS5 : Sep g T4 w5 [boxA b1 [.slice a1 (List.length p0.Ticks) c1, .int .i64 p0.Room, .int .i64 p0.On], R, ownA (rInt .i64) 3 (.slice a2 n1 c2) y3.1] := hS5.unb
      refine pv (r_zb rfl) (nil (t_thenR [(1, .int .i64 p1), (2, .pointer (some ⟨b1, 0, none⟩)), (5, .slice a2 n1 c2), (6, .int .i64 y3.2.1), (7, .int .i64 y3.2.2), (8, .bool y4)] ⟨rfl, rfl, rfl, rfl, rfl, rfl, trivial⟩ fun J => ?_))
      refine sq2 ?_
      refine rg (pv (r_zb rfl) (nil (t_then ?_)))
      refine sq2 ?_
      refine sq2 ?_
      refine rg (pv (r_zi rfl) (nil (t_then ?_)))
      obtain ⟨o1, ho1, hq1⟩ := bindS hm
      obtain ⟨bd1, hbd1, ho1⟩ := loop_open ho1
      refine blk (wp_loop_ghost (fun m a w6 => ∃ (J : Nat → Value) (T5 : Nat → Prop) (x1 : Bool) (x2 : Int), a = env (nf 118) J [(1, .int .i64 p1), (2, .pointer (some ⟨b1, 0, none⟩)), (5, .slice a2 n1 c2), (6, .int .i64 y3.2.1), (7, .int .i64 y3.2.2), (8, .bool y4), (9, .bool x1), (10, .int .i64 x2)] ∧ Im T4 w5 T5 w6 ∧ Sep g T5 w6 [boxA b1 [.slice a1 (List.length p0.Ticks) c1, .int .i64 p0.Room, .int .i64 p0.On], R, ownA (rInt .i64) 3 (.slice a2 n1 c2) y3.1] ∧ loopM bd1 m (x1, x2) = some o1) NN ⟨_, _, false, 0, env_has ⟨rfl, rfl, rfl, rfl, rfl, rfl, rfl, rfl, trivial⟩, Im.refl, hS5.sel [0, 1, 2] rfl, ho1⟩ ?_)
      rintro m _ w6 ⟨J, T5, x1, x2, rfl, im6, hS6, ho1⟩
      obtain ⟨m1, z1, rfl, hm, hn1⟩ := loop_round ho1
      rw [hbd1] at hm
      refine sq2 ?_
      refine sq2 ?_
      refine rg (pv (r_mi rfl) (pv (r_fa rfl Try.underlying24 rfl Try.sizeOf22 rfl) (pv (r_ld rfl Try.isAgg22 (hS6.cell0 (i := 0) ⟨rfl, rfl⟩ (j := 0) rfl)) (pv (r_ln rfl Try.underlying22) (pv (r_ib rfl rfl rfl) (nil (t_then ?_)))))))
      refine cnd rfl (fun hb3 => ?_) (fun hb3 => ?_)
      · have hm := ctrue hb3 hm
        refine skp (t_thenR [(1, .int .i64 p1), (2, .pointer (some ⟨b1, 0, none⟩)), (5, .slice a2 n1 c2), (6, .int .i64 y3.2.1), (7, .int .i64 y3.2.2), (8, .bool y4), (9, .bool x1), (10, .int .i64 x2)] ⟨rfl, rfl, rfl, rfl, rfl, rfl, rfl, rfl, trivial⟩ fun J => ?_)
        refine sq2 ?_
        refine blk ?_
        refine rg (pv (r_mb rfl) (pv (r_mb rfl) (?_)))
        rcases Bool.eq_false_or_eq_true x1 with hb4 | hb4
        · have hm := ctrue hb4 hm
          refine gF (d0 := 43) rfl rfl (by rw [hb4]; rfl) (gF (d0 := 43) rfl rfl (by rw [hb4]; rfl) (gF (d0 := 43) rfl rfl (by rw [hb4]; rfl) (gF (d0 := 43) rfl rfl (by rw [hb4]; rfl) (gF (d0 := 43) rfl rfl (by rw [hb4]; rfl) (gF (d0 := 43) rfl rfl (by rw [hb4]; rfl) (pv (r_pkt rfl hb4 rfl) (pv (r_zb rfl) (nil (t_blk (t_thenR [(1, .int .i64 p1), (2, .pointer (some ⟨b1, 0, none⟩)), (5, .slice a2 n1 c2), (6, .int .i64 y3.2.1), (7, .int .i64 y3.2.2), (8, .bool y4), (9, .bool true), (10, .int .i64 x2)] ⟨rfl, rfl, rfl, rfl, rfl, rfl, rfl, rfl, trivial⟩ fun J => ?_))))))))))
          have hm := Option.some.inj hm
          subst hm
          exact rg (pv (r_mi rfl) (pv (r_ib rfl rfl rfl) (pv (r_zi rfl) (nil (t_then ⟨m1, Nat.lt_succ_self _, _, _, true, (IntKind.wrap .i64 (x2 + 1)), env_has ⟨rfl, rfl, rfl, rfl, rfl, rfl, rfl, rfl, trivial⟩, im6, hS6.sel [0, 1, 2] rfl, hn1⟩)))))
        · have hm := cfalse hb4 hm
          obtain ⟨u1, hx5, hm⟩ := bindS hm
          obtain ⟨b2, of1, cs1, k1, cp1, hv1, hp1, hl1, he1, hr1, hc1, hT1⟩ := (h1.mono (Im.trans im1 (Im.trans im2 (Im.trans im4 (Im.trans im5 im6))))).ixT hx5 rfl
          cases hr1
          refine gT (d0 := 43) rfl rfl hb4 (pv (r_fa rfl Try.underlying24 rfl Try.sizeOf22 rfl) (gT (d0 := 43) rfl rfl hb4 (pv (r_ld rfl Try.isAgg22 (hS6.cell0 (i := 0) ⟨rfl, rfl⟩ (j := 0) rfl)) (gT (d0 := 43) rfl rfl hb4 (pv (r_mi rfl) (gT (d0 := 43) rfl rfl hb4 (pv (r_ixe hv1 rfl Try.underlying22 Try.sizeOf3 hp1 hl1 he1) (gT (d0 := 43) rfl rfl hb4 (pv (r_ld rfl Try.isAgg3 (hc1.get (j := 0) rfl)) (gT (d0 := 43) rfl rfl hb4 (pv (r_ib rfl rfl rfl) (pv (r_pkf rfl hb4 rfl) (pv (r_zb rfl) (nil (t_blk (t_thenR [(1, .int .i64 p1), (2, .pointer (some ⟨b1, 0, none⟩)), (5, .slice a2 n1 c2), (6, .int .i64 y3.2.1), (7, .int .i64 y3.2.2), (8, .bool y4), (9, .bool (decide (0 < u1))), (10, .int .i64 x2)] ⟨rfl, rfl, rfl, rfl, rfl, rfl, rfl, rfl, trivial⟩ fun J => ?_))))))))))))))))
          have hm := Option.some.inj hm
          subst hm
          exact rg (pv (r_mi rfl) (pv (r_ib rfl rfl rfl) (pv (r_zi rfl) (nil (t_then ⟨m1, Nat.lt_succ_self _, _, _, (decide (0 < u1)), (IntKind.wrap .i64 (x2 + 1)), env_has ⟨rfl, rfl, rfl, rfl, rfl, rfl, rfl, rfl, trivial⟩, im6, hS6.sel [0, 1, 2] rfl, hn1⟩)))))
      · have hm := cfalse hb3 hm
        have hm := Option.some.inj hm
        subst hm
        have hn1 : _ = Lp.brk _ := hn1
        subst hn1
        have hm := thn_brk hq1
        refine xt (x_then (x_then (x_eq (t_thenR [(1, .int .i64 p1), (2, .pointer (some ⟨b1, 0, none⟩)), (5, .slice a2 n1 c2), (6, .int .i64 y3.2.1), (7, .int .i64 y3.2.2), (8, .bool y4), (9, .bool x1)] ⟨rfl, rfl, rfl, rfl, rfl, rfl, rfl, trivial⟩ fun J => ?_))))
        refine sq2 ?_
        refine sq2 ?_
        obtain ⟨y5, hx6, hm⟩ := bindS hm
        refine rg (pv (r_ldS rfl Try.isAgg24 Try.sizeOf24 rfl (hS6.cells0 (i := 0) ⟨rfl, rfl⟩ (o := 0) rfl) (cs := [.slice a1 (List.length p0.Ticks) c1, .int .i64 p0.Room, .int .i64 p0.On])) (wl rfl (calS cf9 rfl (power_Right_sim (p0 := p0) (hS6.bun [0, 1, 2] [] rfl) (h1.mono (Im.trans im1 (Im.trans im2 (Im.trans im4 (Im.trans im5 im6))))) hx6) rfl fun v5 T6 w7 im7 rv5 => ?_)))
        obtain ⟨rfl, hS7, _⟩ := rv5
        have hS7 : Sep g T6 w7 [boxA b1 [.slice a1 (List.length p0.Ticks) c1, .int .i64 p0.Room, .int .i64 p0.On], R, ownA (rInt .i64) 3 (.slice a2 n1 c2) y3.1] := hS7.unb
        refine pv (r_mb rfl) (pv (r_bn rfl rfl Try.underlying4) (pv (r_mb rfl) (?_)))
        rcases Bool.eq_false_or_eq_true (!(y5 == y4)) with hb5 | hb5
        · have hm := ctrue hb5 hm
          refine gF (d0 := 55) rfl rfl (by rw [hb5]; rfl) (gF (d0 := 55) rfl rfl (by rw [hb5]; rfl) (gF (d0 := 55) rfl rfl (by rw [hb5]; rfl) (gF (d0 := 55) rfl rfl (by rw [hb5]; rfl) (pv (r_pkt rfl hb5 rfl) (nil (t_thenR [(1, .int .i64 p1), (2, .pointer (some ⟨b1, 0, none⟩)), (5, .slice a2 n1 c2), (6, .int .i64 y3.2.1), (7, .int .i64 y3.2.2), (8, .bool y4), (60, .bool true)] ⟨rfl, rfl, rfl, rfl, rfl, rfl, rfl, trivial⟩ fun J => ?_))))))
          refine cnd (b := true) rfl (fun _ => ?_) (fun h => nomatch h)
          refine sq2 ?_
          refine rg (pv (r_zb rfl) (nil (t_thenR [(4, .bool false)] ⟨rfl, trivial⟩ fun J => ?_)))
          have hm := Option.some.inj hm
          subst hm
          exact rtn (r_then (ret1 rfl rfl ⟨_, rfl, _, (Im.trans im1 (Im.trans im2 (Im.trans im4 (Im.trans im5 (Im.trans im6 im7))))), ⟨rfl, hS7.sel [1] rfl, trivial⟩⟩))
        · have hm := cfalse hb5 hm
          obtain ⟨y6, hx7, hm⟩ := bindS hm
          refine gT (d0 := 55) rfl rfl hb5 (pv (r_ldS rfl Try.isAgg24 Try.sizeOf24 rfl (hS7.cells0 (i := 0) ⟨rfl, rfl⟩ (o := 0) rfl) (cs := [.slice a1 (List.length p0.Ticks) c1, .int .i64 p0.Room, .int .i64 p0.On])) (gT (d0 := 55) rfl rfl hb5 (wl rfl (calS cf10 rfl (power_Steady_sim (p0 := p0) (hS7.bun [0, 1, 2] [] rfl) (h1.mono (Im.trans im1 (Im.trans im2 (Im.trans im4 (Im.trans im5 (Im.trans im6 im7)))))) hx7) rfl fun v6 T7 w8 im8 rv6 => ?_))))
          obtain ⟨rfl, hS8, _⟩ := rv6
          have hS8 : Sep g T7 w8 [boxA b1 [.slice a1 (List.length p0.Ticks) c1, .int .i64 p0.Room, .int .i64 p0.On], R, ownA (rInt .i64) 3 (.slice a2 n1 c2) y3.1] := hS8.unb
          refine gT (d0 := 55) rfl rfl hb5 (pv (r_mb rfl) (gT (d0 := 55) rfl rfl hb5 (pv (r_bn rfl rfl Try.underlying4) (pv (r_pkf rfl hb5 rfl) (nil (t_thenR [(1, .int .i64 p1), (2, .pointer (some ⟨b1, 0, none⟩)), (5, .slice a2 n1 c2), (6, .int .i64 y3.2.1), (7, .int .i64 y3.2.2), (8, .bool y4), (60, .bool (!(y6 == x1)))] ⟨rfl, rfl, rfl, rfl, rfl, rfl, rfl, trivial⟩ fun J => ?_))))))
          refine cnd rfl (fun hb6 => ?_) (fun hb6 => ?_)
          · have hm := ctrue hb6 hm
            refine sq2 ?_
            refine rg (pv (r_zb rfl) (nil (t_thenR [(4, .bool false)] ⟨rfl, trivial⟩ fun J => ?_)))
            have hm := Option.some.inj hm
            subst hm
            exact rtn (r_then (ret1 rfl rfl ⟨_, rfl, _, (Im.trans im1 (Im.trans im2 (Im.trans im4 (Im.trans im5 (Im.trans im6 (Im.trans im7 im8)))))), ⟨rfl, hS8.sel [1] rfl, trivial⟩⟩))
          · have hm := cfalse hb6 hm
            refine skp (t_then ?_)
            refine sq2 ?_
            refine sq2 ?_
            refine rg (pv (r_mb rfl) (pv (r_nt rfl) (nil (t_then ?_))))
            refine cnd rfl (fun hb7 => ?_) (fun hb7 => ?_)
            · have hm := ctrue hb7 hm
              refine sq2 ?_
              obtain ⟨y7, hx8, hm⟩ := bindS hm
              refine rg (wl rfl (calS cf5 rfl (law33_awake_sim  (hS8.bun [1, 2] [] rfl)  hx8) rfl fun v7 T8 w9 im9 rv7 => ?_))
              obtain ⟨rfl, hS9, _⟩ := rv7
              have hS9 : Sep g T8 w9 [R, ownA (rInt .i64) 3 (.slice a2 n1 c2) y3.1] := hS9.unb
              refine pv (r_mb rfl) (?_)
              rcases Bool.eq_false_or_eq_true y7 with hb8 | hb8
              · have hm := ctrue hb8 hm
                refine gT (d0 := 64) rfl rfl hb8 (pv (r_mi rfl) (gT (d0 := 64) rfl rfl hb8 (pv (r_ib rfl rfl rfl) (pv (r_pkt rfl hb8 rfl) (pv (r_mb rfl) (?_))))))
                rcases Bool.eq_false_or_eq_true (y3.2.2 == 1) with hb9 | hb9
                · have hm := ctrue hb9 hm
                  refine gT (d0 := 68) rfl rfl hb9 (pv (r_ms rfl) (gT (d0 := 68) rfl rfl hb9 (pv (r_lnV rfl (hS9.own (i := 1) ⟨rfl, rfl⟩).v Try.underlying22) (gT (d0 := 68) rfl rfl hb9 (pv (r_ib rfl rfl rfl) (pv (r_pkt rfl hb9 rfl) (pv (r_mb rfl) (?_))))))))
                  rcases Bool.eq_false_or_eq_true ((List.length y3.1 : Int) == 0) with hb10 | hb10
                  · have hm := ctrue hb10 hm
                    refine gT (d0 := 73) rfl rfl hb10 (pv (r_mi rfl) (gT (d0 := 73) rfl rfl hb10 (pv (r_ib rfl rfl rfl) (pv (r_pkt rfl hb10 rfl) (pv (r_zb rfl) (nil (t_thenR [(4, .bool (y3.2.1 == 0))] ⟨rfl, trivial⟩ fun J => ?_)))))))
                    have hm := Option.some.inj hm
                    subst hm
                    exact rtn (r_then (ret1 rfl rfl ⟨_, rfl, _, (Im.trans im1 (Im.trans im2 (Im.trans im4 (Im.trans im5 (Im.trans im6 (Im.trans im7 (Im.trans im8 im9))))))), ⟨rfl, hS9.sel [0] rfl, trivial⟩⟩))
                  · have hm := cfalse hb10 hm
                    refine gF (d0 := 73) rfl rfl (by rw [hb10]; rfl) (gF (d0 := 73) rfl rfl (by rw [hb10]; rfl) (pv (r_pkf rfl hb10 rfl) (pv (r_zb rfl) (nil (t_thenR [(4, .bool false)] ⟨rfl, trivial⟩ fun J => ?_)))))
                    have hm := Option.some.inj hm
                    subst hm
                    exact rtn (r_then (ret1 rfl rfl ⟨_, rfl, _, (Im.trans im1 (Im.trans im2 (Im.trans im4 (Im.trans im5 (Im.trans im6 (Im.trans im7 (Im.trans im8 im9))))))), ⟨rfl, hS9.sel [0] rfl, trivial⟩⟩))
                · have hm := cfalse hb9 hm
                  refine gF (d0 := 68) rfl rfl (by rw [hb9]; rfl) (gF (d0 := 68) rfl rfl (by rw [hb9]; rfl) (gF (d0 := 68) rfl rfl (by rw [hb9]; rfl) (pv (r_pkf rfl hb9 rfl) (pv (r_mb rfl) (gF (d0 := 73) rfl rfl rfl (gF (d0 := 73) rfl rfl rfl (pv (r_pkf rfl rfl rfl) (pv (r_zb rfl) (nil (t_thenR [(4, .bool false)] ⟨rfl, trivial⟩ fun J => ?_))))))))))
                  have hm := Option.some.inj hm
                  subst hm
                  exact rtn (r_then (ret1 rfl rfl ⟨_, rfl, _, (Im.trans im1 (Im.trans im2 (Im.trans im4 (Im.trans im5 (Im.trans im6 (Im.trans im7 (Im.trans im8 im9))))))), ⟨rfl, hS9.sel [0] rfl, trivial⟩⟩))
              · have hm := cfalse hb8 hm
                refine gF (d0 := 64) rfl rfl (by rw [hb8]; rfl) (gF (d0 := 64) rfl rfl (by rw [hb8]; rfl) (pv (r_pkf rfl hb8 rfl) (pv (r_mb rfl) (gF (d0 := 68) rfl rfl rfl (gF (d0 := 68) rfl rfl rfl (gF (d0 := 68) rfl rfl rfl (pv (r_pkf rfl rfl rfl) (pv (r_mb rfl) (gF (d0 := 73) rfl rfl rfl (gF (d0 := 73) rfl rfl rfl (pv (r_pkf rfl rfl rfl) (pv (r_zb rfl) (nil (t_thenR [(4, .bool false)] ⟨rfl, trivial⟩ fun J => ?_))))))))))))))
                have hm := Option.some.inj hm
                subst hm
                exact rtn (r_then (ret1 rfl rfl ⟨_, rfl, _, (Im.trans im1 (Im.trans im2 (Im.trans im4 (Im.trans im5 (Im.trans im6 (Im.trans im7 (Im.trans im8 im9))))))), ⟨rfl, hS9.sel [0] rfl, trivial⟩⟩))
            · have hm := cfalse hb7 hm
              refine skp (t_then ?_)
              refine sq2 ?_
              obtain ⟨y8, hx9, hm⟩ := bindS hm
              refine rg (pv (r_fa rfl Try.underlying24 rfl Try.sizeOf22 rfl) (pv (r_ld rfl Try.isAgg22 (hS8.cell0 (i := 0) ⟨rfl, rfl⟩ (j := 0) rfl)) (pv (r_fa rfl Try.underlying24 rfl Try.sizeOf3 rfl) (pv (r_ld rfl Try.isAgg3 (hS8.cell0 (i := 0) ⟨rfl, rfl⟩ (j := 1) rfl)) (pv (r_fa rfl Try.underlying24 rfl Try.sizeOf3 rfl) (pv (r_ld rfl Try.isAgg3 (hS8.cell0 (i := 0) ⟨rfl, rfl⟩ (j := 2) rfl)) (pv (r_mi rfl) (wl rfl (calS cf11 rfl (ref33_Go_sim (p0 := p0.Ticks) (p1 := p0.Room) (p2 := p0.On) (p3 := p1) (hS8.bun [1, 2] [] rfl) (h1.mono (Im.trans im1 (Im.trans im2 (Im.trans im4 (Im.trans im5 (Im.trans im6 (Im.trans im7 im8))))))) hx9) rfl fun v8 T9 w10 im10 rv8 => ?_)))))))))
              obtain ⟨a3, c3, rfl, hS10, h2, _⟩ := rv8
              have hS10 : Sep g T9 w10 [R, ownA (rInt .i64) 3 (.slice a2 n1 c2) y3.1] := hS10.unb
              refine wl rfl (alS (zs := [.slice none 0 0, .int .i64 0]) Try.zeroValue33 rfl hS10 fun w11 b3 im11 hS11 => ?_)
              refine wl rfl (st0B (q := 0) hS11 ⟨rfl, rfl⟩ rfl rfl rfl Try.sizeOf33 rfl rfl rfl fun w12 im12 hS12 => ?_)
              have hS12 : Sep g T9 w12 [boxA b3 [.slice a3 (List.length y8.Fails) c3, .int .i64 y8.Done], R, ownA (rInt .i64) 3 (.slice a2 n1 c2) y3.1] := hS12
              refine nil (t_thenR [(5, .slice a2 n1 c2), (6, .int .i64 y3.2.1), (7, .int .i64 y3.2.2), (11, .pointer (some ⟨b3, 0, none⟩))] ⟨rfl, rfl, rfl, rfl, trivial⟩ fun J => ?_)
              refine sq2 ?_
              refine sq2 ?_
              refine rg (pv (r_mi rfl) (pv (r_ib rfl rfl rfl) (pv (r_mb rfl) (?_))))
              rcases Bool.eq_false_or_eq_true (y3.2.2 != 0) with hb11 | hb11
              · have hm := ctrue hb11 hm
                refine gF (d0 := 87) rfl rfl (by rw [hb11]; rfl) (gF (d0 := 87) rfl rfl (by rw [hb11]; rfl) (gF (d0 := 87) rfl rfl (by rw [hb11]; rfl) (gF (d0 := 87) rfl rfl (by rw [hb11]; rfl) (pv (r_pkt rfl hb11 rfl) (pv (r_mb rfl) (gF (d0 := 93) rfl rfl rfl (gF (d0 := 93) rfl rfl rfl (gF (d0 := 93) rfl rfl rfl (gF (d0 := 93) rfl rfl rfl (gF (d0 := 93) rfl rfl rfl (gF (d0 := 93) rfl rfl rfl (pv (r_pkt rfl rfl rfl) (nil (t_thenR [(5, .slice a2 n1 c2), (11, .pointer (some ⟨b3, 0, none⟩)), (100, .bool true)] ⟨rfl, rfl, rfl, trivial⟩ fun J => ?_))))))))))))))
                refine cnd (b := true) rfl (fun _ => ?_) (fun h => nomatch h)
                refine sq2 ?_
                refine rg (pv (r_zb rfl) (nil (t_then ?_)))
                have hm := Option.some.inj hm
                subst hm
                exact rtn (r_then (ret1 rfl rfl ⟨_, rfl, _, (Im.trans im1 (Im.trans im2 (Im.trans im4 (Im.trans im5 (Im.trans im6 (Im.trans im7 (Im.trans im8 (Im.trans im10 (Im.trans im11 im12))))))))), ⟨rfl, hS12.sel [1] rfl, trivial⟩⟩))
              · have hm := cfalse hb11 hm
                refine gT (d0 := 87) rfl rfl hb11 (pv (r_mi rfl) (gT (d0 := 87) rfl rfl hb11 (pv (r_fa rfl Try.underlying33 rfl Try.sizeOf3 rfl) (gT (d0 := 87) rfl rfl hb11 (pv (r_ld rfl Try.isAgg3 (hS12.cell0 (i := 0) ⟨rfl, rfl⟩ (j := 1) rfl)) (gT (d0 := 87) rfl rfl hb11 (pv (r_ib rfl rfl rfl) (pv (r_pkf rfl hb11 rfl) (pv (r_mb rfl) (?_))))))))))
                rcases Bool.eq_false_or_eq_true (y3.2.1 != y8.Done) with hb12 | hb12
                · have hm := ctrue hb12 hm
                  refine gF (d0 := 93) rfl rfl (by rw [hb12]; rfl) (gF (d0 := 93) rfl rfl (by rw [hb12]; rfl) (gF (d0 := 93) rfl rfl (by rw [hb12]; rfl) (gF (d0 := 93) rfl rfl (by rw [hb12]; rfl) (gF (d0 := 93) rfl rfl (by rw [hb12]; rfl) (gF (d0 := 93) rfl rfl (by rw [hb12]; rfl) (pv (r_pkt rfl hb12 rfl) (nil (t_thenR [(5, .slice a2 n1 c2), (11, .pointer (some ⟨b3, 0, none⟩)), (100, .bool true)] ⟨rfl, rfl, rfl, trivial⟩ fun J => ?_))))))))
                  refine cnd (b := true) rfl (fun _ => ?_) (fun h => nomatch h)
                  refine sq2 ?_
                  refine rg (pv (r_zb rfl) (nil (t_then ?_)))
                  have hm := Option.some.inj hm
                  subst hm
                  exact rtn (r_then (ret1 rfl rfl ⟨_, rfl, _, (Im.trans im1 (Im.trans im2 (Im.trans im4 (Im.trans im5 (Im.trans im6 (Im.trans im7 (Im.trans im8 (Im.trans im10 (Im.trans im11 im12))))))))), ⟨rfl, hS12.sel [1] rfl, trivial⟩⟩))
                · have hm := cfalse hb12 hm
                  refine gT (d0 := 93) rfl rfl hb12 (pv (r_ms rfl) (gT (d0 := 93) rfl rfl hb12 (pv (r_lnV rfl (hS12.own (i := 2) ⟨rfl, rfl⟩).v Try.underlying22) (gT (d0 := 93) rfl rfl hb12 (pv (r_fa rfl Try.underlying33 rfl Try.sizeOf22 rfl) (gT (d0 := 93) rfl rfl hb12 (pv (r_ld rfl Try.isAgg22 (hS12.cell0 (i := 0) ⟨rfl, rfl⟩ (j := 0) rfl)) (gT (d0 := 93) rfl rfl hb12 (pv (r_ln rfl Try.underlying22) (gT (d0 := 93) rfl rfl hb12 (pv (r_ib rfl rfl rfl) (pv (r_pkf rfl hb12 rfl) (nil (t_thenR [(5, .slice a2 n1 c2), (11, .pointer (some ⟨b3, 0, none⟩)), (100, .bool ((List.length y3.1 : Int) != (List.length y8.Fails : Int)))] ⟨rfl, rfl, rfl, trivial⟩ fun J => ?_))))))))))))))
                  refine cnd rfl (fun hb13 => ?_) (fun hb13 => ?_)
                  · have hm := ctrue hb13 hm
                    refine sq2 ?_
                    refine rg (pv (r_zb rfl) (nil (t_then ?_)))
                    have hm := Option.some.inj hm
                    subst hm
                    exact rtn (r_then (ret1 rfl rfl ⟨_, rfl, _, (Im.trans im1 (Im.trans im2 (Im.trans im4 (Im.trans im5 (Im.trans im6 (Im.trans im7 (Im.trans im8 (Im.trans im10 (Im.trans im11 im12))))))))), ⟨rfl, hS12.sel [1] rfl, trivial⟩⟩))
                  · have hm := cfalse hb13 hm
                    refine skp (t_then ?_)
                    refine sq2 ?_
                    refine sq2 ?_
                    refine rg (pv (r_zi rfl) (nil (t_then ?_)))
                    obtain ⟨o1, ho1, hq1⟩ := bindS hm
                    obtain ⟨bd1, hbd1, ho1⟩ := loop_open ho1
                    refine blk (wp_loop_ghost (fun m a w13 => ∃ (J : Nat → Value) (T10 : Nat → Prop) (x3 : Int), a = env (nf 118) J [(5, .slice a2 n1 c2), (11, .pointer (some ⟨b3, 0, none⟩)), (12, .int .i64 x3)] ∧ Im T9 w12 T10 w13 ∧ Sep g T10 w13 [boxA b3 [.slice a3 (List.length y8.Fails) c3, .int .i64 y8.Done], R, ownA (rInt .i64) 3 (.slice a2 n1 c2) y3.1] ∧ loopM bd1 m x3 = some o1) NN ⟨_, _, 0, env_has ⟨rfl, rfl, rfl, trivial⟩, Im.refl, hS12.sel [0, 1, 2] rfl, ho1⟩ ?_)
                    rintro m _ w13 ⟨J, T10, x3, rfl, im13, hS13, ho1⟩
                    obtain ⟨m1, z1, rfl, hm, hn1⟩ := loop_round ho1
                    rw [hbd1] at hm
                    refine sq2 ?_
                    refine sq2 ?_
                    refine rg (pv (r_mi rfl) (pv (r_ms rfl) (pv (r_lnV rfl (hS13.own (i := 2) ⟨rfl, rfl⟩).v Try.underlying22) (pv (r_ib rfl rfl rfl) (nil (t_then ?_))))))
                    refine cnd rfl (fun hb14 => ?_) (fun hb14 => ?_)
                    · have hm := ctrue hb14 hm
                      refine skp (t_then ?_)
                      refine sq2 ?_
                      refine blk ?_
                      refine sq2 ?_
                      obtain ⟨u2, hx10, hm⟩ := bindS hm
                      obtain ⟨b4, of2, cs2, k2, cp2, hv2, hp2, hl2, he2, hr2, hc2⟩ := (hS13.own (i := 2) ⟨rfl, rfl⟩).v.ixq hx10 rfl
                      cases hr2
                      obtain ⟨u3, hx11, hm⟩ := bindS hm
                      obtain ⟨b5, of3, cs3, k3, cp3, hv3, hp3, hl3, he3, hr3, hc3, hT2⟩ := (h2.mono (Im.trans im11 (Im.trans im12 im13))).ixT hx11 rfl
                      cases hr3
                      refine rq mix (by kernel_rfl) hS13.lt (qv (fun _ hq => r_ms rfl) (qv (fun _ hq => r_mi rfl) (qv (fun _ hq => r_ixe hv2 rfl Try.underlying22 Try.sizeOf3 hp2 hl2 he2) (qv (fun _ hq => r_ld rfl Try.isAgg3 (hq.cell (hc2.get (j := 0) rfl))) (qv (fun _ hq => r_fa rfl Try.underlying33 rfl Try.sizeOf22 rfl) (qv (fun _ hq => r_ld rfl Try.isAgg22 (hq.cell (hS13.cell0 (i := 0) ⟨rfl, rfl⟩ (j := 0) rfl))) (qv (fun _ hq => r_mi rfl) (qv (fun _ hq => r_ixe hv3 rfl Try.underlying22 Try.sizeOf3 hp3 hl3 he3) (qv (fun _ hq => r_ld rfl Try.isAgg3 (hq.cell (hc3.get (j := 0) rfl))) (qv (fun _ hq => r_ib rfl rfl rfl) (qn fun w14 T11 i1 => ?_)))))))))))
                      have im14 := i1.imm
                      have hS14 := hS13.keep i1 (fun _ h => h)
                      refine t_thenR [(5, .slice a2 n1 c2), (11, .pointer (some ⟨b3, 0, none⟩)), (12, .int .i64 x3), (116, .bool (u2 != u3))] ⟨rfl, rfl, rfl, rfl, trivial⟩ fun J => ?_
                      refine cnd rfl (fun hb15 => ?_) (fun hb15 => ?_)
                      · have hm := ctrue hb15 hm
                        refine sq2 ?_
                        refine rg (pv (r_zb rfl) (nil (t_then ?_)))
                        have hm := Option.some.inj hm
                        subst hm
                        have hn1 : _ = Lp.ret _ := hn1
                        subst hn1
                        have hm := thn_ret hq1
                        have hm := Option.some.inj hm
                        subst hm
                        exact rtn (r_blk (r_then (r_then (r_blk (r_then (ret1 rfl rfl ⟨_, rfl, _, (Im.trans im1 (Im.trans im2 (Im.trans im4 (Im.trans im5 (Im.trans im6 (Im.trans im7 (Im.trans im8 (Im.trans im10 (Im.trans im11 (Im.trans im12 (Im.trans im13 im14))))))))))), ⟨rfl, hS14.sel [1] rfl, trivial⟩⟩))))))
                      · have hm := cfalse hb15 hm
                        refine skp (t_blk (t_then ?_))
                        have hm := Option.some.inj hm
                        subst hm
                        exact rg (pv (r_mi rfl) (pv (r_ib rfl rfl rfl) (pv (r_zi rfl) (nil (t_then ⟨m1, Nat.lt_succ_self _, _, _, (IntKind.wrap .i64 (x3 + 1)), env_has ⟨rfl, rfl, rfl, trivial⟩, (Im.trans im13 im14), hS14.sel [0, 1, 2] rfl, hn1⟩)))))
                    · have hm := cfalse hb14 hm
                      have hm := Option.some.inj hm
                      subst hm
                      have hn1 : _ = Lp.brk _ := hn1
                      subst hn1
                      have hm := thn_brk hq1
                      refine xt (x_then (x_then (x_eq (t_thenR [] trivial fun J => ?_))))
                      refine sq2 ?_
                      obtain ⟨y9, hx12, hm⟩ := bindS hm
                      refine rg (wl rfl (calS cf5 rfl (law33_awake_sim  (hS13.bun [1] [] rfl)  hx12) rfl fun v9 T12 w15 im15 rv9 => ?_))
                      obtain ⟨rfl, hS15, _⟩ := rv9
                      have hS15 : Sep g T12 w15 [R] := hS15.unb
                      refine pv (r_zb rfl) (nil (t_then ?_))
                      have hm := Option.some.inj hm
                      subst hm
                      exact rtn (ret1 rfl rfl ⟨_, rfl, _, (Im.trans im1 (Im.trans im2 (Im.trans im4 (Im.trans im5 (Im.trans im6 (Im.trans im7 (Im.trans im8 (Im.trans im10 (Im.trans im11 (Im.trans im12 (Im.trans im13 im15))))))))))), ⟨rfl, hS15.sel [0] rfl, trivial⟩⟩)
end Go.Proofs.Ythieojijnjdfgaa
