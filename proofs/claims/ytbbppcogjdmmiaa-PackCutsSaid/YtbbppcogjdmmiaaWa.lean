/- That Go functions compute their models. Printed by gen2.py. -/
import Derived.Test.YtbbppcogjdmmiaaRows
import Derived.Test.YtbbppcogjdmmiaaFoc
import Derived.Test.YtbbppcogjdmmiaaTree
import Derived.Test.YtbbppcogjdmmiaaZero
import Derived.Test.YtbbppcogjdmmiaaPan
import Derived.Test.YtbbppcogjdmmiaaM
set_option linter.unusedVariables false
namespace Go.Proofs.Ytbbppcogjdmmiaa
attribute [local irreducible] wpList wpQuiet Code.wp
def rGImage : Rp GImage := ((rPair (rSl (rInt .u32)) (rPair (rSl (rInt .u8)) (rPair (rInt .i64) (rInt .i64))))).iso fun x => (x.Code, x.Data, x.Limit, x.Notes)
theorem rGImage_open {T : Nat → Prop} {w : World} {cs : List Value} {x : GImage} (h : rGImage.rp T w cs x) : ∃ (a0 : Option Addr) (c0 : Nat) (a1 : Option Addr) (c1 : Nat), cs = [.slice a0 (List.length x.Code) c0, .slice a1 (List.length x.Data) c1, .int .i64 x.Limit, .int .i64 x.Notes] ∧ SlR (rInt .u32) T w (.slice a0 (List.length x.Code) c0) x.Code ∧ SlR (rInt .u8) T w (.slice a1 (List.length x.Data) c1) x.Data := by
  obtain ⟨q1, y1, rfl, f1, g1⟩ := h
  obtain ⟨v2, rfl, s2⟩ := f1
  obtain ⟨b2, k2, rfl⟩ := s2.shape
  obtain ⟨q3, y3, rfl, f3, g3⟩ := g1
  obtain ⟨v4, rfl, s4⟩ := f3
  obtain ⟨b4, k4, rfl⟩ := s4.shape
  obtain ⟨q5, y5, rfl, f5, g5⟩ := g3
  cases f5
  cases g5
  exact ⟨b2, k2, b4, k4, rfl, s2, s4⟩
theorem rGImage_mk {T : Nat → Prop} {w : World} {x : GImage} {a0 : Option Addr} {c0 : Nat} {a1 : Option Addr} {c1 : Nat} (e0 : SlR (rInt .u32) T w (.slice a0 (List.length x.Code) c0) x.Code) (e1 : SlR (rInt .u8) T w (.slice a1 (List.length x.Data) c1) x.Data) : rGImage.rp T w [.slice a0 (List.length x.Code) c0, .slice a1 (List.length x.Data) c1, .int .i64 x.Limit, .int .i64 x.Notes] x := ⟨_, _, rfl, ⟨_, rfl, e0⟩, ⟨_, _, rfl, ⟨_, rfl, e1⟩, ⟨_, _, rfl, rfl, rfl⟩⟩⟩
def rPackReader : Rp PackReader := ((rSl (rInt .u8))).iso fun x => x.b
theorem rPackReader_open {T : Nat → Prop} {w : World} {cs : List Value} {x : PackReader} (h : rPackReader.rp T w cs x) : ∃ (a0 : Option Addr) (c0 : Nat), cs = [.slice a0 (List.length x.b) c0] ∧ SlR (rInt .u8) T w (.slice a0 (List.length x.b) c0) x.b := by
  obtain ⟨v1, rfl, s1⟩ := h
  obtain ⟨b1, k1, rfl⟩ := s1.shape
  exact ⟨b1, k1, rfl, s1⟩
theorem rPackReader_mk {T : Nat → Prop} {w : World} {x : PackReader} {a0 : Option Addr} {c0 : Nat} (e0 : SlR (rInt .u8) T w (.slice a0 (List.length x.b) c0) x.b) : rPackReader.rp T w [.slice a0 (List.length x.b) c0] x := ⟨_, rfl, e0⟩
def rref32Read : Rp ref32Read := ((rPair rGImage rBool)).iso fun x => (x.G, x.Is)
theorem rref32Read_open {T : Nat → Prop} {w : World} {cs : List Value} {x : ref32Read} (h : rref32Read.rp T w cs x) : ∃ (a0 : Option Addr) (c0 : Nat) (a1 : Option Addr) (c1 : Nat), cs = [.slice a0 (List.length x.G.Code) c0, .slice a1 (List.length x.G.Data) c1, .int .i64 x.G.Limit, .int .i64 x.G.Notes, .bool x.Is] ∧ SlR (rInt .u32) T w (.slice a0 (List.length x.G.Code) c0) x.G.Code ∧ SlR (rInt .u8) T w (.slice a1 (List.length x.G.Data) c1) x.G.Data := by
  obtain ⟨q1, y1, rfl, f1, g1⟩ := h
  obtain ⟨b2, k2, b3, k3, rfl, s2, s3⟩ := rGImage_open f1
  cases g1
  exact ⟨b2, k2, b3, k3, rfl, s2, s3⟩
theorem rref32Read_mk {T : Nat → Prop} {w : World} {x : ref32Read} {a0 : Option Addr} {c0 : Nat} {a1 : Option Addr} {c1 : Nat} (e0 : SlR (rInt .u32) T w (.slice a0 (List.length x.G.Code) c0) x.G.Code) (e1 : SlR (rInt .u8) T w (.slice a1 (List.length x.G.Data) c1) x.G.Data) : rref32Read.rp T w [.slice a0 (List.length x.G.Code) c0, .slice a1 (List.length x.G.Data) c1, .int .i64 x.G.Limit, .int .i64 x.G.Notes, .bool x.Is] x := ⟨_, _, rfl, (rGImage_mk e0 e1), rfl⟩
theorem cf6 : CallOk Try.prog 6 := ⟨⟨_, Try.func6, by kernel_rfl, by kernel_rfl⟩⟩
theorem cf7 : CallOk Try.prog 7 := ⟨⟨_, Try.func7, by kernel_rfl, by kernel_rfl⟩⟩
theorem cf8 : CallOk Try.prog 8 := ⟨⟨_, Try.func8, by kernel_rfl, by kernel_rfl⟩⟩
theorem cf9 : CallOk Try.prog 9 := ⟨⟨_, Try.func9, by kernel_rfl, by kernel_rfl⟩⟩
theorem cf10 : CallOk Try.prog 10 := ⟨⟨_, Try.func10, by kernel_rfl, by kernel_rfl⟩⟩
theorem cf11 : CallOk Try.prog 11 := ⟨⟨_, Try.func11, by kernel_rfl, by kernel_rfl⟩⟩
theorem cf12 : CallOk Try.prog 12 := ⟨⟨_, Try.func12, by kernel_rfl, by kernel_rfl⟩⟩
theorem cf13 : CallOk Try.prog 13 := ⟨⟨_, Try.func13, by kernel_rfl, by kernel_rfl⟩⟩
theorem cf14 : CallOk Try.prog 14 := ⟨⟨_, Try.func14, by kernel_rfl, by kernel_rfl⟩⟩
theorem cf15 : CallOk Try.prog 15 := ⟨⟨_, Try.func15, by kernel_rfl, by kernel_rfl⟩⟩
theorem cf16 : CallOk Try.prog 16 := ⟨⟨_, Try.func16, by kernel_rfl, by kernel_rfl⟩⟩
theorem cf17 : CallOk Try.prog 17 := ⟨⟨_, Try.func17, by kernel_rfl, by kernel_rfl⟩⟩
theorem cf18 : CallOk Try.prog 18 := ⟨⟨_, Try.func18, by kernel_rfl, by kernel_rfl⟩⟩
theorem cf19 : CallOk Try.prog 19 := ⟨⟨_, Try.func19, by kernel_rfl, by kernel_rfl⟩⟩
theorem cf20 : CallOk Try.prog 20 := ⟨⟨_, Try.func20, by kernel_rfl, by kernel_rfl⟩⟩
theorem cf21 : CallOk Try.prog 21 := ⟨⟨_, Try.func21, by kernel_rfl, by kernel_rfl⟩⟩
theorem cf22 : CallOk Try.prog 22 := ⟨⟨_, Try.func22, by kernel_rfl, by kernel_rfl⟩⟩
theorem cf23 : CallOk Try.prog 23 := ⟨⟨_, Try.func23, by kernel_rfl, by kernel_rfl⟩⟩
theorem cf24 : CallOk Try.prog 24 := ⟨⟨_, Try.func24, by kernel_rfl, by kernel_rfl⟩⟩
theorem cf25 : CallOk Try.prog 25 := ⟨⟨_, Try.func25, by kernel_rfl, by kernel_rfl⟩⟩
theorem cf26 : CallOk Try.prog 26 := ⟨⟨_, Try.func26, by kernel_rfl, by kernel_rfl⟩⟩
theorem cf27 : CallOk Try.prog 27 := ⟨⟨_, Try.func27, by kernel_rfl, by kernel_rfl⟩⟩
theorem cf28 : CallOk Try.prog 28 := ⟨⟨_, Try.func28, by kernel_rfl, by kernel_rfl⟩⟩
theorem cf29 : CallOk Try.prog 29 := ⟨⟨_, Try.func29, by kernel_rfl, by kernel_rfl⟩⟩
theorem cf30 : CallOk Try.prog 30 := ⟨⟨_, Try.func30, by kernel_rfl, by kernel_rfl⟩⟩
theorem cf31 : CallOk Try.prog 31 := ⟨⟨_, Try.func31, by kernel_rfl, by kernel_rfl⟩⟩
theorem cf32 : CallOk Try.prog 32 := ⟨⟨_, Try.func32, by kernel_rfl, by kernel_rfl⟩⟩
theorem cf33 : CallOk Try.prog 33 := ⟨⟨_, Try.func33, by kernel_rfl, by kernel_rfl⟩⟩
theorem cf34 : CallOk Try.prog 34 := ⟨⟨_, Try.func34, by kernel_rfl, by kernel_rfl⟩⟩
theorem el3 : ElemOk Try.prog 3 1 := ⟨by kernel_rfl, by decide⟩
theorem el5 : ElemOk Try.prog 5 1 := ⟨by kernel_rfl, by decide⟩
theorem el40 : ElemOk Try.prog 40 1 := ⟨by kernel_rfl, by decide⟩
theorem mix : Try.prog.follows .mixedOrders = true := by kernel_rfl

set_option maxRecDepth 100000 in
set_option maxHeartbeats 1000000 in
theorem law32_few_sim {g : World} {T0 : Nat → Prop} {w0 : World} {R : Assn} {p0 : GImage} {a1 : Option Addr} {c1 : Nat} {a2 : Option Addr} {c2 : Nat} {r : Bool} (hS : Sep g T0 w0 [R]) (h1 : SlR (rInt .u32) T0 w0 (.slice a1 (List.length p0.Code) c1) p0.Code) (h2 : SlR (rInt .u8) T0 w0 (.slice a2 (List.length p0.Data) c2) p0.Data) (hm : law32_few p0 = some r) :
    Calls Try.prog 6 #[.agg #[.slice a1 (List.length p0.Code) c1, .slice a2 (List.length p0.Data) c2, .int .i64 p0.Limit, .int .i64 p0.Notes]] w0 (RetS T0 w0 fun T w v => v = .bool r ∧ Sep g T w [R] ∧ True) := by
  refine enter (args := [.agg #[.slice a1 (List.length p0.Code) c1, .slice a2 (List.length p0.Data) c2, .int .i64 p0.Limit, .int .i64 p0.Notes]]) Try.func6 rfl Try.ntmps6 rfl fun J => ?_
  unfold law32_few at hm
  refine sq2 ?_
  refine rg (wl rfl (bxS (cs := [.slice a1 (List.length p0.Code) c1, .slice a2 (List.length p0.Data) c2, .int .i64 p0.Limit, .int .i64 p0.Notes]) rfl rfl hS fun w1 b1 im1 hS1 => ?_))
  refine pv (r_zb rfl) (nil (t_then ?_))
  refine sq2 ?_
  refine rg (pv (r_fa rfl Try.underlying25 rfl Try.sizeOf22 rfl) (pv (r_ld rfl Try.isAgg22 (hS1.cell0 (i := 0) ⟨rfl, rfl⟩ (j := 0) rfl)) (pv (r_ln rfl Try.underlying22) (pv (r_ib rfl rfl rfl) (pv (r_mb rfl) (?_))))))
  rcases Bool.eq_false_or_eq_true (decide ((List.length p0.Code : Int) ≤ 300)) with hb1 | hb1
  · have hm := ctrue hb1 hm
    refine gF (d0 := 7) rfl rfl (by rw [hb1]; rfl) (gF (d0 := 7) rfl rfl (by rw [hb1]; rfl) (gF (d0 := 7) rfl rfl (by rw [hb1]; rfl) (gF (d0 := 7) rfl rfl (by rw [hb1]; rfl) (gF (d0 := 7) rfl rfl (by rw [hb1]; rfl) (gU (d0 := 12) rfl rfl (gU (d0 := 12) rfl rfl (gU (d0 := 12) rfl rfl (gU (d0 := 12) rfl rfl (gF (d0 := 7) rfl rfl (by rw [hb1]; rfl) (pv (r_pkt rfl hb1 rfl) (pv (r_mb rfl) (gT (d0 := 19) rfl rfl rfl (pv (r_fa rfl Try.underlying25 rfl Try.sizeOf23 rfl) (gT (d0 := 19) rfl rfl rfl (pv (r_ld rfl Try.isAgg23 (hS1.cell0 (i := 0) ⟨rfl, rfl⟩ (j := 1) rfl)) (gT (d0 := 19) rfl rfl rfl (pv (r_ln rfl Try.underlying23) (gT (d0 := 19) rfl rfl rfl (pv (r_ib rfl rfl rfl) (gT (d0 := 19) rfl rfl rfl (pv (r_mb rfl) (?_))))))))))))))))))))))
    rcases Bool.eq_false_or_eq_true (decide ((List.length p0.Data : Int) ≤ 3000)) with hb6 | hb6
    · have hm := ctrue hb6 hm
      refine gF (d0 := 24) rfl rfl (by rw [hb6]; rfl) (gF (d0 := 24) rfl rfl (by rw [hb6]; rfl) (gF (d0 := 24) rfl rfl (by rw [hb6]; rfl) (gF (d0 := 24) rfl rfl (by rw [hb6]; rfl) (gF (d0 := 24) rfl rfl (by rw [hb6]; rfl) (gU (d0 := 29) rfl rfl (gU (d0 := 29) rfl rfl (gU (d0 := 29) rfl rfl (gU (d0 := 29) rfl rfl (gF (d0 := 24) rfl rfl (by rw [hb6]; rfl) (gT (d0 := 19) rfl rfl rfl (pv (r_pkt rfl hb6 rfl) (pv (r_pkt rfl rfl rfl) (pv (r_zb rfl) (nil (t_thenR [(2, .bool true)] ⟨rfl, trivial⟩ fun J => ?_)))))))))))))))
      have hm := Option.some.inj hm
      subst hm
      exact rtn (ret1 rfl rfl ⟨_, rfl, _, im1, ⟨rfl, hS1.sel [1] rfl, trivial⟩⟩)
    · have hm := cfalse hb6 hm
      refine gT (d0 := 24) rfl rfl hb6 (pv (r_fa rfl Try.underlying25 rfl Try.sizeOf23 rfl) (gT (d0 := 24) rfl rfl hb6 (pv (r_ld rfl Try.isAgg23 (hS1.cell0 (i := 0) ⟨rfl, rfl⟩ (j := 1) rfl)) (gT (d0 := 24) rfl rfl hb6 (pv (r_ln rfl Try.underlying23) (gT (d0 := 24) rfl rfl hb6 (pv (r_ib rfl rfl rfl) (gT (d0 := 24) rfl rfl hb6 (pv (r_mb rfl) (?_))))))))))
      rcases Bool.eq_false_or_eq_true (decide (65536 < (List.length p0.Data : Int))) with hb7 | hb7
      · have hm := ctrue hb7 hm
        refine gT (d0 := 29) rfl rfl hb7 (pv (r_fa rfl Try.underlying25 rfl Try.sizeOf23 rfl) (gT (d0 := 29) rfl rfl hb7 (pv (r_ld rfl Try.isAgg23 (hS1.cell0 (i := 0) ⟨rfl, rfl⟩ (j := 1) rfl)) (gT (d0 := 29) rfl rfl hb7 (pv (r_ln rfl Try.underlying23) (gT (d0 := 29) rfl rfl hb7 (pv (r_ib rfl rfl rfl) (gT (d0 := 24) rfl rfl hb6 (pv (r_pkt rfl hb7 rfl) (gT (d0 := 19) rfl rfl rfl (pv (r_pkf rfl hb6 rfl) (pv (r_pkt rfl rfl rfl) (pv (r_zb rfl) (nil (t_thenR [(2, .bool (decide ((List.length p0.Data : Int) ≤ 66000)))] ⟨rfl, trivial⟩ fun J => ?_)))))))))))))))
        have hm := Option.some.inj hm
        subst hm
        exact rtn (ret1 rfl rfl ⟨_, rfl, _, im1, ⟨rfl, hS1.sel [1] rfl, trivial⟩⟩)
      · have hm := cfalse hb7 hm
        refine gF (d0 := 29) rfl rfl (by rw [hb7]; rfl) (gF (d0 := 29) rfl rfl (by rw [hb7]; rfl) (gF (d0 := 29) rfl rfl (by rw [hb7]; rfl) (gF (d0 := 29) rfl rfl (by rw [hb7]; rfl) (gT (d0 := 24) rfl rfl hb6 (pv (r_pkf rfl hb7 rfl) (gT (d0 := 19) rfl rfl rfl (pv (r_pkf rfl hb6 rfl) (pv (r_pkt rfl rfl rfl) (pv (r_zb rfl) (nil (t_thenR [(2, .bool false)] ⟨rfl, trivial⟩ fun J => ?_)))))))))))
        have hm := Option.some.inj hm
        subst hm
        exact rtn (ret1 rfl rfl ⟨_, rfl, _, im1, ⟨rfl, hS1.sel [1] rfl, trivial⟩⟩)
  · have hm := cfalse hb1 hm
    refine gT (d0 := 7) rfl rfl hb1 (pv (r_fa rfl Try.underlying25 rfl Try.sizeOf22 rfl) (gT (d0 := 7) rfl rfl hb1 (pv (r_ld rfl Try.isAgg22 (hS1.cell0 (i := 0) ⟨rfl, rfl⟩ (j := 0) rfl)) (gT (d0 := 7) rfl rfl hb1 (pv (r_ln rfl Try.underlying22) (gT (d0 := 7) rfl rfl hb1 (pv (r_ib rfl rfl rfl) (gT (d0 := 7) rfl rfl hb1 (pv (r_mb rfl) (?_))))))))))
    rcases Bool.eq_false_or_eq_true (decide (32768 < (List.length p0.Code : Int))) with hb2 | hb2
    · have hm := ctrue hb2 hm
      refine gT (d0 := 12) rfl rfl hb2 (pv (r_fa rfl Try.underlying25 rfl Try.sizeOf22 rfl) (gT (d0 := 12) rfl rfl hb2 (pv (r_ld rfl Try.isAgg22 (hS1.cell0 (i := 0) ⟨rfl, rfl⟩ (j := 0) rfl)) (gT (d0 := 12) rfl rfl hb2 (pv (r_ln rfl Try.underlying22) (gT (d0 := 12) rfl rfl hb2 (pv (r_ib rfl rfl rfl) (gT (d0 := 7) rfl rfl hb1 (pv (r_pkt rfl hb2 rfl) (pv (r_pkf rfl hb1 rfl) (pv (r_mb rfl) (?_))))))))))))
      rcases Bool.eq_false_or_eq_true (decide ((List.length p0.Code : Int) ≤ 33000)) with hb3 | hb3
      · have hm := ctrue hb3 hm
        refine gT (d0 := 19) rfl rfl hb3 (pv (r_fa rfl Try.underlying25 rfl Try.sizeOf23 rfl) (gT (d0 := 19) rfl rfl hb3 (pv (r_ld rfl Try.isAgg23 (hS1.cell0 (i := 0) ⟨rfl, rfl⟩ (j := 1) rfl)) (gT (d0 := 19) rfl rfl hb3 (pv (r_ln rfl Try.underlying23) (gT (d0 := 19) rfl rfl hb3 (pv (r_ib rfl rfl rfl) (gT (d0 := 19) rfl rfl hb3 (pv (r_mb rfl) (?_))))))))))
        rcases Bool.eq_false_or_eq_true (decide ((List.length p0.Data : Int) ≤ 3000)) with hb4 | hb4
        · have hm := ctrue hb4 hm
          refine gF (d0 := 24) rfl rfl (by rw [hb4]; rfl) (gF (d0 := 24) rfl rfl (by rw [hb4]; rfl) (gF (d0 := 24) rfl rfl (by rw [hb4]; rfl) (gF (d0 := 24) rfl rfl (by rw [hb4]; rfl) (gF (d0 := 24) rfl rfl (by rw [hb4]; rfl) (gU (d0 := 29) rfl rfl (gU (d0 := 29) rfl rfl (gU (d0 := 29) rfl rfl (gU (d0 := 29) rfl rfl (gF (d0 := 24) rfl rfl (by rw [hb4]; rfl) (gT (d0 := 19) rfl rfl hb3 (pv (r_pkt rfl hb4 rfl) (pv (r_pkt rfl hb3 rfl) (pv (r_zb rfl) (nil (t_thenR [(2, .bool true)] ⟨rfl, trivial⟩ fun J => ?_)))))))))))))))
          have hm := Option.some.inj hm
          subst hm
          exact rtn (ret1 rfl rfl ⟨_, rfl, _, im1, ⟨rfl, hS1.sel [1] rfl, trivial⟩⟩)
        · have hm := cfalse hb4 hm
          refine gT (d0 := 24) rfl rfl hb4 (pv (r_fa rfl Try.underlying25 rfl Try.sizeOf23 rfl) (gT (d0 := 24) rfl rfl hb4 (pv (r_ld rfl Try.isAgg23 (hS1.cell0 (i := 0) ⟨rfl, rfl⟩ (j := 1) rfl)) (gT (d0 := 24) rfl rfl hb4 (pv (r_ln rfl Try.underlying23) (gT (d0 := 24) rfl rfl hb4 (pv (r_ib rfl rfl rfl) (gT (d0 := 24) rfl rfl hb4 (pv (r_mb rfl) (?_))))))))))
          rcases Bool.eq_false_or_eq_true (decide (65536 < (List.length p0.Data : Int))) with hb5 | hb5
          · have hm := ctrue hb5 hm
            refine gT (d0 := 29) rfl rfl hb5 (pv (r_fa rfl Try.underlying25 rfl Try.sizeOf23 rfl) (gT (d0 := 29) rfl rfl hb5 (pv (r_ld rfl Try.isAgg23 (hS1.cell0 (i := 0) ⟨rfl, rfl⟩ (j := 1) rfl)) (gT (d0 := 29) rfl rfl hb5 (pv (r_ln rfl Try.underlying23) (gT (d0 := 29) rfl rfl hb5 (pv (r_ib rfl rfl rfl) (gT (d0 := 24) rfl rfl hb4 (pv (r_pkt rfl hb5 rfl) (gT (d0 := 19) rfl rfl hb3 (pv (r_pkf rfl hb4 rfl) (pv (r_pkt rfl hb3 rfl) (pv (r_zb rfl) (nil (t_thenR [(2, .bool (decide ((List.length p0.Data : Int) ≤ 66000)))] ⟨rfl, trivial⟩ fun J => ?_)))))))))))))))
            have hm := Option.some.inj hm
            subst hm
            exact rtn (ret1 rfl rfl ⟨_, rfl, _, im1, ⟨rfl, hS1.sel [1] rfl, trivial⟩⟩)
          · have hm := cfalse hb5 hm
            refine gF (d0 := 29) rfl rfl (by rw [hb5]; rfl) (gF (d0 := 29) rfl rfl (by rw [hb5]; rfl) (gF (d0 := 29) rfl rfl (by rw [hb5]; rfl) (gF (d0 := 29) rfl rfl (by rw [hb5]; rfl) (gT (d0 := 24) rfl rfl hb4 (pv (r_pkf rfl hb5 rfl) (gT (d0 := 19) rfl rfl hb3 (pv (r_pkf rfl hb4 rfl) (pv (r_pkt rfl hb3 rfl) (pv (r_zb rfl) (nil (t_thenR [(2, .bool false)] ⟨rfl, trivial⟩ fun J => ?_)))))))))))
            have hm := Option.some.inj hm
            subst hm
            exact rtn (ret1 rfl rfl ⟨_, rfl, _, im1, ⟨rfl, hS1.sel [1] rfl, trivial⟩⟩)
      · have hm := cfalse hb3 hm
        refine gF (d0 := 19) rfl rfl (by rw [hb3]; rfl) (gF (d0 := 19) rfl rfl (by rw [hb3]; rfl) (gF (d0 := 19) rfl rfl (by rw [hb3]; rfl) (gF (d0 := 19) rfl rfl (by rw [hb3]; rfl) (gF (d0 := 19) rfl rfl (by rw [hb3]; rfl) (gU (d0 := 24) rfl rfl (gU (d0 := 24) rfl rfl (gU (d0 := 24) rfl rfl (gU (d0 := 24) rfl rfl (gU (d0 := 24) rfl rfl (gU (d0 := 29) rfl rfl (gU (d0 := 29) rfl rfl (gU (d0 := 29) rfl rfl (gU (d0 := 29) rfl rfl (gU (d0 := 24) rfl rfl (gF (d0 := 19) rfl rfl (by rw [hb3]; rfl) (pv (r_pkf rfl hb3 rfl) (pv (r_zb rfl) (nil (t_thenR [(2, .bool false)] ⟨rfl, trivial⟩ fun J => ?_)))))))))))))))))))
        have hm := Option.some.inj hm
        subst hm
        exact rtn (ret1 rfl rfl ⟨_, rfl, _, im1, ⟨rfl, hS1.sel [1] rfl, trivial⟩⟩)
    · have hm := cfalse hb2 hm
      refine gF (d0 := 12) rfl rfl (by rw [hb2]; rfl) (gF (d0 := 12) rfl rfl (by rw [hb2]; rfl) (gF (d0 := 12) rfl rfl (by rw [hb2]; rfl) (gF (d0 := 12) rfl rfl (by rw [hb2]; rfl) (gT (d0 := 7) rfl rfl hb1 (pv (r_pkf rfl hb2 rfl) (pv (r_pkf rfl hb1 rfl) (pv (r_mb rfl) (gF (d0 := 19) rfl rfl rfl (gF (d0 := 19) rfl rfl rfl (gF (d0 := 19) rfl rfl rfl (gF (d0 := 19) rfl rfl rfl (gF (d0 := 19) rfl rfl rfl (gU (d0 := 24) rfl rfl (gU (d0 := 24) rfl rfl (gU (d0 := 24) rfl rfl (gU (d0 := 24) rfl rfl (gU (d0 := 24) rfl rfl (gU (d0 := 29) rfl rfl (gU (d0 := 29) rfl rfl (gU (d0 := 29) rfl rfl (gU (d0 := 29) rfl rfl (gU (d0 := 24) rfl rfl (gF (d0 := 19) rfl rfl rfl (pv (r_pkf rfl rfl rfl) (pv (r_zb rfl) (nil (t_thenR [(2, .bool false)] ⟨rfl, trivial⟩ fun J => ?_)))))))))))))))))))))))))))
      have hm := Option.some.inj hm
      subst hm
      exact rtn (ret1 rfl rfl ⟨_, rfl, _, im1, ⟨rfl, hS1.sel [1] rfl, trivial⟩⟩)

set_option maxRecDepth 100000 in
set_option maxHeartbeats 1000000 in
theorem pack_right_sim {g : World} {T0 : Nat → Prop} {w0 : World} {R : Assn} {p0 : GImage} {a1 : Option Addr} {c1 : Nat} {a2 : Option Addr} {c2 : Nat} {r : Bool} (hS : Sep g T0 w0 [R]) (h1 : SlR (rInt .u32) T0 w0 (.slice a1 (List.length p0.Code) c1) p0.Code) (h2 : SlR (rInt .u8) T0 w0 (.slice a2 (List.length p0.Data) c2) p0.Data) (hm : pack_right p0 = some r) :
    Calls Try.prog 14 #[.agg #[.slice a1 (List.length p0.Code) c1, .slice a2 (List.length p0.Data) c2, .int .i64 p0.Limit, .int .i64 p0.Notes]] w0 (RetS T0 w0 fun T w v => v = .bool r ∧ Sep g T w [R] ∧ True) := by
  refine enter (args := [.agg #[.slice a1 (List.length p0.Code) c1, .slice a2 (List.length p0.Data) c2, .int .i64 p0.Limit, .int .i64 p0.Notes]]) Try.func14 rfl Try.ntmps14 rfl fun J => ?_
  unfold pack_right at hm
  refine sq2 ?_
  refine rg (wl rfl (bxS (cs := [.slice a1 (List.length p0.Code) c1, .slice a2 (List.length p0.Data) c2, .int .i64 p0.Limit, .int .i64 p0.Notes]) rfl rfl hS fun w1 b1 im1 hS1 => ?_))
  refine pv (r_zb rfl) (nil (t_then ?_))
  refine sq2 ?_
  refine rg (pv (r_fa rfl Try.underlying25 rfl Try.sizeOf3 rfl) (pv (r_ld rfl Try.isAgg3 (hS1.cell0 (i := 0) ⟨rfl, rfl⟩ (j := 2) rfl)) (pv (r_ib rfl rfl rfl) (pv (r_zi rfl) (nil (t_thenR [(1, .pointer (some ⟨b1, 0, none⟩)), (3, .int .i64 (IntKind.wrap .i64 (p0.Limit - 268435456)))] ⟨rfl, rfl, trivial⟩ fun J => ?_))))))
  refine sq2 ?_
  refine rg (pv (r_fa rfl Try.underlying25 rfl Try.sizeOf22 rfl) (pv (r_ld rfl Try.isAgg22 (hS1.cell0 (i := 0) ⟨rfl, rfl⟩ (j := 0) rfl)) (pv (r_ln rfl Try.underlying22) (pv (r_ib rfl rfl rfl) (pv (r_mb rfl) (?_))))))
  rcases Bool.eq_false_or_eq_true (decide (1 ≤ (List.length p0.Code : Int))) with hb1 | hb1
  · have hm := ctrue hb1 hm
    refine gT (d0 := 11) rfl rfl hb1 (pv (r_fa rfl Try.underlying25 rfl Try.sizeOf22 rfl) (gT (d0 := 11) rfl rfl hb1 (pv (r_ld rfl Try.isAgg22 (hS1.cell0 (i := 0) ⟨rfl, rfl⟩ (j := 0) rfl)) (gT (d0 := 11) rfl rfl hb1 (pv (r_ln rfl Try.underlying22) (gT (d0 := 11) rfl rfl hb1 (pv (r_ib rfl rfl rfl) (pv (r_pkt rfl hb1 rfl) (pv (r_mb rfl) (?_))))))))))
    rcases Bool.eq_false_or_eq_true (decide ((List.length p0.Code : Int) ≤ 32768)) with hb2 | hb2
    · have hm := ctrue hb2 hm
      refine gT (d0 := 17) rfl rfl hb2 (pv (r_fa rfl Try.underlying25 rfl Try.sizeOf23 rfl) (gT (d0 := 17) rfl rfl hb2 (pv (r_ld rfl Try.isAgg23 (hS1.cell0 (i := 0) ⟨rfl, rfl⟩ (j := 1) rfl)) (gT (d0 := 17) rfl rfl hb2 (pv (r_ln rfl Try.underlying23) (gT (d0 := 17) rfl rfl hb2 (pv (r_ib rfl rfl rfl) (pv (r_pkt rfl hb2 rfl) (pv (r_mb rfl) (?_))))))))))
      rcases Bool.eq_false_or_eq_true (decide (4 ≤ (List.length p0.Data : Int))) with hb3 | hb3
      · have hm := ctrue hb3 hm
        refine gT (d0 := 23) rfl rfl hb3 (pv (r_fa rfl Try.underlying25 rfl Try.sizeOf23 rfl) (gT (d0 := 23) rfl rfl hb3 (pv (r_ld rfl Try.isAgg23 (hS1.cell0 (i := 0) ⟨rfl, rfl⟩ (j := 1) rfl)) (gT (d0 := 23) rfl rfl hb3 (pv (r_ln rfl Try.underlying23) (gT (d0 := 23) rfl rfl hb3 (pv (r_ib rfl rfl rfl) (pv (r_pkt rfl hb3 rfl) (pv (r_mb rfl) (?_))))))))))
        rcases Bool.eq_false_or_eq_true (decide ((List.length p0.Data : Int) ≤ 65536)) with hb4 | hb4
        · have hm := ctrue hb4 hm
          refine gT (d0 := 29) rfl rfl hb4 (pv (r_fa rfl Try.underlying25 rfl Try.sizeOf3 rfl) (gT (d0 := 29) rfl rfl hb4 (pv (r_ld rfl Try.isAgg3 (hS1.cell0 (i := 0) ⟨rfl, rfl⟩ (j := 2) rfl)) (gT (d0 := 29) rfl rfl hb4 (pv (r_ib rfl rfl rfl) (pv (r_pkt rfl hb4 rfl) (pv (r_mb rfl) (?_))))))))
          rcases Bool.eq_false_or_eq_true (decide (268435456 ≤ p0.Limit)) with hb5 | hb5
          · have hm := ctrue hb5 hm
            refine gT (d0 := 34) rfl rfl hb5 (pv (r_mi rfl) (gT (d0 := 34) rfl rfl hb5 (pv (r_fa rfl Try.underlying25 rfl Try.sizeOf23 rfl) (gT (d0 := 34) rfl rfl hb5 (pv (r_ld rfl Try.isAgg23 (hS1.cell0 (i := 0) ⟨rfl, rfl⟩ (j := 1) rfl)) (gT (d0 := 34) rfl rfl hb5 (pv (r_ln rfl Try.underlying23) (gT (d0 := 34) rfl rfl hb5 (pv (r_ib rfl rfl rfl) (pv (r_pkt rfl hb5 rfl) (pv (r_mb rfl) (?_))))))))))))
            rcases Bool.eq_false_or_eq_true (decide ((IntKind.wrap .i64 (p0.Limit - 268435456)) ≤ (List.length p0.Data : Int))) with hb6 | hb6
            · have hm := ctrue hb6 hm
              refine gT (d0 := 41) rfl rfl hb6 (pv (r_fa rfl Try.underlying25 rfl Try.sizeOf3 rfl) (gT (d0 := 41) rfl rfl hb6 (pv (r_ld rfl Try.isAgg3 (hS1.cell0 (i := 0) ⟨rfl, rfl⟩ (j := 3) rfl)) (gT (d0 := 41) rfl rfl hb6 (pv (r_ib rfl rfl rfl) (pv (r_pkt rfl hb6 rfl) (pv (r_mb rfl) (?_))))))))
              rcases Bool.eq_false_or_eq_true (decide (0 ≤ p0.Notes)) with hb7 | hb7
              · have hm := ctrue hb7 hm
                refine gT (d0 := 46) rfl rfl hb7 (pv (r_fa rfl Try.underlying25 rfl Try.sizeOf3 rfl) (gT (d0 := 46) rfl rfl hb7 (pv (r_ld rfl Try.isAgg3 (hS1.cell0 (i := 0) ⟨rfl, rfl⟩ (j := 3) rfl)) (gT (d0 := 46) rfl rfl hb7 (pv (r_ib rfl rfl rfl) (pv (r_pkt rfl hb7 rfl) (pv (r_zb rfl) (nil (t_thenR [(2, .bool (decide (p0.Notes ≤ 64)))] ⟨rfl, trivial⟩ fun J => ?_)))))))))
                have hm := Option.some.inj hm
                subst hm
                exact rtn (ret1 rfl rfl ⟨_, rfl, _, im1, ⟨rfl, hS1.sel [1] rfl, trivial⟩⟩)
              · have hm := cfalse hb7 hm
                refine gF (d0 := 46) rfl rfl (by rw [hb7]; rfl) (gF (d0 := 46) rfl rfl (by rw [hb7]; rfl) (gF (d0 := 46) rfl rfl (by rw [hb7]; rfl) (pv (r_pkf rfl hb7 rfl) (pv (r_zb rfl) (nil (t_thenR [(2, .bool false)] ⟨rfl, trivial⟩ fun J => ?_))))))
                have hm := Option.some.inj hm
                subst hm
                exact rtn (ret1 rfl rfl ⟨_, rfl, _, im1, ⟨rfl, hS1.sel [1] rfl, trivial⟩⟩)
            · have hm := cfalse hb6 hm
              refine gF (d0 := 41) rfl rfl (by rw [hb6]; rfl) (gF (d0 := 41) rfl rfl (by rw [hb6]; rfl) (gF (d0 := 41) rfl rfl (by rw [hb6]; rfl) (pv (r_pkf rfl hb6 rfl) (pv (r_mb rfl) (gF (d0 := 46) rfl rfl rfl (gF (d0 := 46) rfl rfl rfl (gF (d0 := 46) rfl rfl rfl (pv (r_pkf rfl rfl rfl) (pv (r_zb rfl) (nil (t_thenR [(2, .bool false)] ⟨rfl, trivial⟩ fun J => ?_)))))))))))
              have hm := Option.some.inj hm
              subst hm
              exact rtn (ret1 rfl rfl ⟨_, rfl, _, im1, ⟨rfl, hS1.sel [1] rfl, trivial⟩⟩)
          · have hm := cfalse hb5 hm
            refine gF (d0 := 34) rfl rfl (by rw [hb5]; rfl) (gF (d0 := 34) rfl rfl (by rw [hb5]; rfl) (gF (d0 := 34) rfl rfl (by rw [hb5]; rfl) (gF (d0 := 34) rfl rfl (by rw [hb5]; rfl) (gF (d0 := 34) rfl rfl (by rw [hb5]; rfl) (pv (r_pkf rfl hb5 rfl) (pv (r_mb rfl) (gF (d0 := 41) rfl rfl rfl (gF (d0 := 41) rfl rfl rfl (gF (d0 := 41) rfl rfl rfl (pv (r_pkf rfl rfl rfl) (pv (r_mb rfl) (gF (d0 := 46) rfl rfl rfl (gF (d0 := 46) rfl rfl rfl (gF (d0 := 46) rfl rfl rfl (pv (r_pkf rfl rfl rfl) (pv (r_zb rfl) (nil (t_thenR [(2, .bool false)] ⟨rfl, trivial⟩ fun J => ?_))))))))))))))))))
            have hm := Option.some.inj hm
            subst hm
            exact rtn (ret1 rfl rfl ⟨_, rfl, _, im1, ⟨rfl, hS1.sel [1] rfl, trivial⟩⟩)
        · have hm := cfalse hb4 hm
          refine gF (d0 := 29) rfl rfl (by rw [hb4]; rfl) (gF (d0 := 29) rfl rfl (by rw [hb4]; rfl) (gF (d0 := 29) rfl rfl (by rw [hb4]; rfl) (pv (r_pkf rfl hb4 rfl) (pv (r_mb rfl) (gF (d0 := 34) rfl rfl rfl (gF (d0 := 34) rfl rfl rfl (gF (d0 := 34) rfl rfl rfl (gF (d0 := 34) rfl rfl rfl (gF (d0 := 34) rfl rfl rfl (pv (r_pkf rfl rfl rfl) (pv (r_mb rfl) (gF (d0 := 41) rfl rfl rfl (gF (d0 := 41) rfl rfl rfl (gF (d0 := 41) rfl rfl rfl (pv (r_pkf rfl rfl rfl) (pv (r_mb rfl) (gF (d0 := 46) rfl rfl rfl (gF (d0 := 46) rfl rfl rfl (gF (d0 := 46) rfl rfl rfl (pv (r_pkf rfl rfl rfl) (pv (r_zb rfl) (nil (t_thenR [(2, .bool false)] ⟨rfl, trivial⟩ fun J => ?_)))))))))))))))))))))))
          have hm := Option.some.inj hm
          subst hm
          exact rtn (ret1 rfl rfl ⟨_, rfl, _, im1, ⟨rfl, hS1.sel [1] rfl, trivial⟩⟩)
      · have hm := cfalse hb3 hm
        refine gF (d0 := 23) rfl rfl (by rw [hb3]; rfl) (gF (d0 := 23) rfl rfl (by rw [hb3]; rfl) (gF (d0 := 23) rfl rfl (by rw [hb3]; rfl) (gF (d0 := 23) rfl rfl (by rw [hb3]; rfl) (pv (r_pkf rfl hb3 rfl) (pv (r_mb rfl) (gF (d0 := 29) rfl rfl rfl (gF (d0 := 29) rfl rfl rfl (gF (d0 := 29) rfl rfl rfl (pv (r_pkf rfl rfl rfl) (pv (r_mb rfl) (gF (d0 := 34) rfl rfl rfl (gF (d0 := 34) rfl rfl rfl (gF (d0 := 34) rfl rfl rfl (gF (d0 := 34) rfl rfl rfl (gF (d0 := 34) rfl rfl rfl (pv (r_pkf rfl rfl rfl) (pv (r_mb rfl) (gF (d0 := 41) rfl rfl rfl (gF (d0 := 41) rfl rfl rfl (gF (d0 := 41) rfl rfl rfl (pv (r_pkf rfl rfl rfl) (pv (r_mb rfl) (gF (d0 := 46) rfl rfl rfl (gF (d0 := 46) rfl rfl rfl (gF (d0 := 46) rfl rfl rfl (pv (r_pkf rfl rfl rfl) (pv (r_zb rfl) (nil (t_thenR [(2, .bool false)] ⟨rfl, trivial⟩ fun J => ?_)))))))))))))))))))))))))))))
        have hm := Option.some.inj hm
        subst hm
        exact rtn (ret1 rfl rfl ⟨_, rfl, _, im1, ⟨rfl, hS1.sel [1] rfl, trivial⟩⟩)
    · have hm := cfalse hb2 hm
      refine gF (d0 := 17) rfl rfl (by rw [hb2]; rfl) (gF (d0 := 17) rfl rfl (by rw [hb2]; rfl) (gF (d0 := 17) rfl rfl (by rw [hb2]; rfl) (gF (d0 := 17) rfl rfl (by rw [hb2]; rfl) (pv (r_pkf rfl hb2 rfl) (pv (r_mb rfl) (gF (d0 := 23) rfl rfl rfl (gF (d0 := 23) rfl rfl rfl (gF (d0 := 23) rfl rfl rfl (gF (d0 := 23) rfl rfl rfl (pv (r_pkf rfl rfl rfl) (pv (r_mb rfl) (gF (d0 := 29) rfl rfl rfl (gF (d0 := 29) rfl rfl rfl (gF (d0 := 29) rfl rfl rfl (pv (r_pkf rfl rfl rfl) (pv (r_mb rfl) (gF (d0 := 34) rfl rfl rfl (gF (d0 := 34) rfl rfl rfl (gF (d0 := 34) rfl rfl rfl (gF (d0 := 34) rfl rfl rfl (gF (d0 := 34) rfl rfl rfl (pv (r_pkf rfl rfl rfl) (pv (r_mb rfl) (gF (d0 := 41) rfl rfl rfl (gF (d0 := 41) rfl rfl rfl (gF (d0 := 41) rfl rfl rfl (pv (r_pkf rfl rfl rfl) (pv (r_mb rfl) (gF (d0 := 46) rfl rfl rfl (gF (d0 := 46) rfl rfl rfl (gF (d0 := 46) rfl rfl rfl (pv (r_pkf rfl rfl rfl) (pv (r_zb rfl) (nil (t_thenR [(2, .bool false)] ⟨rfl, trivial⟩ fun J => ?_)))))))))))))))))))))))))))))))))))
      have hm := Option.some.inj hm
      subst hm
      exact rtn (ret1 rfl rfl ⟨_, rfl, _, im1, ⟨rfl, hS1.sel [1] rfl, trivial⟩⟩)
  · have hm := cfalse hb1 hm
    refine gF (d0 := 11) rfl rfl (by rw [hb1]; rfl) (gF (d0 := 11) rfl rfl (by rw [hb1]; rfl) (gF (d0 := 11) rfl rfl (by rw [hb1]; rfl) (gF (d0 := 11) rfl rfl (by rw [hb1]; rfl) (pv (r_pkf rfl hb1 rfl) (pv (r_mb rfl) (gF (d0 := 17) rfl rfl rfl (gF (d0 := 17) rfl rfl rfl (gF (d0 := 17) rfl rfl rfl (gF (d0 := 17) rfl rfl rfl (pv (r_pkf rfl rfl rfl) (pv (r_mb rfl) (gF (d0 := 23) rfl rfl rfl (gF (d0 := 23) rfl rfl rfl (gF (d0 := 23) rfl rfl rfl (gF (d0 := 23) rfl rfl rfl (pv (r_pkf rfl rfl rfl) (pv (r_mb rfl) (gF (d0 := 29) rfl rfl rfl (gF (d0 := 29) rfl rfl rfl (gF (d0 := 29) rfl rfl rfl (pv (r_pkf rfl rfl rfl) (pv (r_mb rfl) (gF (d0 := 34) rfl rfl rfl (gF (d0 := 34) rfl rfl rfl (gF (d0 := 34) rfl rfl rfl (gF (d0 := 34) rfl rfl rfl (gF (d0 := 34) rfl rfl rfl (pv (r_pkf rfl rfl rfl) (pv (r_mb rfl) (gF (d0 := 41) rfl rfl rfl (gF (d0 := 41) rfl rfl rfl (gF (d0 := 41) rfl rfl rfl (pv (r_pkf rfl rfl rfl) (pv (r_mb rfl) (gF (d0 := 46) rfl rfl rfl (gF (d0 := 46) rfl rfl rfl (gF (d0 := 46) rfl rfl rfl (pv (r_pkf rfl rfl rfl) (pv (r_zb rfl) (nil (t_thenR [(2, .bool false)] ⟨rfl, trivial⟩ fun J => ?_)))))))))))))))))))))))))))))))))))))))))
    have hm := Option.some.inj hm
    subst hm
    exact rtn (ret1 rfl rfl ⟨_, rfl, _, im1, ⟨rfl, hS1.sel [1] rfl, trivial⟩⟩)

set_option maxRecDepth 100000 in
set_option maxHeartbeats 1000000 in
theorem pack_sign_sim {g : World} {T0 : Nat → Prop} {w0 : World} {R : Assn}  {r : (List Int)} (hS : Sep g T0 w0 [R])  (hm : pack_sign = some r) :
    Calls Try.prog 15 #[] w0 (RetS T0 w0 fun T w v => ∃ (a2 : Option Addr) (n2 : Nat) (c2 : Nat), v = .slice a2 n2 c2 ∧ Sep g T w [R, ownA (rInt .u8) 5 (.slice a2 n2 c2) r] ∧ True) := by
  refine enter (args := []) Try.func15 rfl Try.ntmps15 rfl fun J => ?_
  unfold pack_sign at hm
  refine sq2 ?_
  refine rg (pv (r_zs rfl) (nil (t_then ?_)))
  refine sq2 ?_
  refine rg (wl rfl (bsS (r := (rInt .u8)) (l := ([82, 83, 72, 1] : List Int)) (css := [[.int .u8 82], [.int .u8 83], [.int .u8 72], [.int .u8 1]]) hS Try.underlying23 Try.sizeOf5 Try.zeroValue5 rfl rfl (by kernel_rfl) rfl ⟨rfl, rfl, rfl, rfl, trivial⟩ rfl rfl fun w1 a1 n1 c1 im1 hS1 => ?_))
  refine pv (r_zs rfl) (nil (t_then ?_))
  have hm := Option.some.inj hm
  subst hm
  exact rtn (ret1 rfl rfl ⟨_, rfl, _, im1, ⟨_, _, _, rfl, hS1.sel [1, 0] rfl, trivial⟩⟩)

set_option maxRecDepth 100000 in
set_option maxHeartbeats 1000000 in
theorem pack_number_sim {g : World} {T0 : Nat → Prop} {w0 : World} {R : Assn} {p0 : List Int} {a1 : Option Addr} {n1 : Nat} {c1 : Nat} {p1 : Int} {r : (List Int)} (hS : Sep g T0 w0 [R, ownA (rInt .u8) 5 (.slice a1 n1 c1) p0])  (hm : pack_number p0 p1 = some r) :
    Calls Try.prog 16 #[.slice a1 n1 c1, .int .u32 p1] w0 (RetS T0 w0 fun T w v => ∃ (a4 : Option Addr) (n4 : Nat) (c4 : Nat), v = .slice a4 n4 c4 ∧ Sep g T w [R, ownA (rInt .u8) 5 (.slice a4 n4 c4) r] ∧ True) := by
  refine enter (args := [.slice a1 n1 c1, .int .u32 p1]) Try.func16 rfl Try.ntmps16 rfl fun J => ?_
  unfold pack_number at hm
  refine sq2 ?_
  refine rg (pv (r_zs rfl) (nil (t_then ?_)))
  refine sq2 ?_
  refine rg (pv (r_ms rfl) (pv (r_mi rfl) (pv (r_cv rfl Try.underlying40 Try.underlying5) (pv (r_mi rfl) (pv (r_ishr rfl rfl (by decide)) (pv (r_cv rfl Try.underlying40 Try.underlying5) (pv (r_mi rfl) (pv (r_ishr rfl rfl (by decide)) (pv (r_cv rfl Try.underlying40 Try.underlying5) (pv (r_mi rfl) (pv (r_ishr rfl rfl (by decide)) (pv (r_cv rfl Try.underlying40 Try.underlying5) (wl rfl (bsS (r := (rInt .u8)) (l := ([IntKind.wrap .u8 p1, IntKind.wrap .u8 (Int.fdiv p1 (2 ^ (min (Int.toNat 8) (IntKind.bits .u32)))), IntKind.wrap .u8 (Int.fdiv p1 (2 ^ (min (Int.toNat 16) (IntKind.bits .u32)))), IntKind.wrap .u8 (Int.fdiv p1 (2 ^ (min (Int.toNat 24) (IntKind.bits .u32))))] : List Int)) (css := [[.int .u8 (IntKind.wrap .u8 p1)], [.int .u8 (IntKind.wrap .u8 (Int.fdiv p1 (2 ^ (min (Int.toNat 8) (IntKind.bits .u32)))))], [.int .u8 (IntKind.wrap .u8 (Int.fdiv p1 (2 ^ (min (Int.toNat 16) (IntKind.bits .u32)))))], [.int .u8 (IntKind.wrap .u8 (Int.fdiv p1 (2 ^ (min (Int.toNat 24) (IntKind.bits .u32)))))]]) hS Try.underlying23 Try.sizeOf5 Try.zeroValue5 rfl rfl (by kernel_rfl) rfl ⟨rfl, rfl, rfl, rfl, trivial⟩ rfl rfl fun w1 a2 n2 c2 im1 hS1 => ?_))))))))))))))
  obtain ⟨z_1, hro1, hm⟩ := bindS hm
  refine wl rfl (apO (q := 2) (l := p0) (us := ([IntKind.wrap .u8 p1, IntKind.wrap .u8 (Int.fdiv p1 (2 ^ (min (Int.toNat 8) (IntKind.bits .u32)))), IntKind.wrap .u8 (Int.fdiv p1 (2 ^ (min (Int.toNat 16) (IntKind.bits .u32)))), IntKind.wrap .u8 (Int.fdiv p1 (2 ^ (min (Int.toNat 24) (IntKind.bits .u32))))] : List Int)) hS1 ⟨rfl, rfl⟩ rfl rfl (hS1.own (i := 0) ⟨rfl, rfl⟩).v Try.underlying23 el5 (room_some hro1) fun w2 a3 n3 c3 im2 hS2 => ?_)
  have hS2 : Sep g T0 w2 [ownA (rInt .u8) 5 (.slice a2 n2 c2) ([IntKind.wrap .u8 p1, IntKind.wrap .u8 (Int.fdiv p1 (2 ^ (min (Int.toNat 8) (IntKind.bits .u32)))), IntKind.wrap .u8 (Int.fdiv p1 (2 ^ (min (Int.toNat 16) (IntKind.bits .u32)))), IntKind.wrap .u8 (Int.fdiv p1 (2 ^ (min (Int.toNat 24) (IntKind.bits .u32))))] : List Int), R, ownA (rInt .u8) 5 (.slice a3 n3 c3) (p0 ++ ([IntKind.wrap .u8 p1, IntKind.wrap .u8 (Int.fdiv p1 (2 ^ (min (Int.toNat 8) (IntKind.bits .u32)))), IntKind.wrap .u8 (Int.fdiv p1 (2 ^ (min (Int.toNat 16) (IntKind.bits .u32)))), IntKind.wrap .u8 (Int.fdiv p1 (2 ^ (min (Int.toNat 24) (IntKind.bits .u32))))] : List Int))] := hS2
  refine pv (r_zs rfl) (nil (t_thenR [(4, .slice a3 n3 c3)] ⟨rfl, trivial⟩ fun J => ?_))
  have hm := Option.some.inj hm
  subst hm
  exact rtn (ret1 rfl rfl ⟨_, rfl, _, (Im.trans im1 im2), ⟨_, _, _, rfl, hS2.sel [1, 2] rfl, trivial⟩⟩)

set_option maxRecDepth 100000 in
set_option maxHeartbeats 1000000 in
theorem pack_zeros_sim {g : World} {T0 : Nat → Prop} {w0 : World} {R : Assn} {p0 : List Int} {a1 : Option Addr} {c1 : Nat} {r : Int} (hS : Sep g T0 w0 [R]) (h1 : SlR (rInt .u8) T0 w0 (.slice a1 (List.length p0) c1) p0) (hm : pack_zeros p0 = some r) :
    Calls Try.prog 34 #[.slice a1 (List.length p0) c1] w0 (RetS T0 w0 fun T w v => v = .int .i64 r ∧ Sep g T w [R] ∧ True) := by
  refine enter (args := [.slice a1 (List.length p0) c1]) Try.func34 rfl Try.ntmps34 rfl fun J => ?_
  unfold pack_zeros at hm
  refine sq2 ?_
  refine rg (pv (r_zi rfl) (nil (t_then ?_)))
  refine sq2 ?_
  refine rg (pv (r_zi rfl) (nil (t_then ?_)))
  refine sq2 ?_
  obtain ⟨o1, ho1, hq1⟩ := bindS hm
  obtain ⟨bd1, hbd1, ho1⟩ := loop_open ho1
  refine blk (wp_loop_ghost (fun m a w1 => ∃ (J : Nat → Value) (T1 : Nat → Prop) (x1 : Int), a = env (nf 19) J [(0, .slice a1 (List.length p0) c1), (3, .int .i64 x1)] ∧ Im T0 w0 T1 w1 ∧ Sep g T1 w1 [R] ∧ loopM bd1 m x1 = some o1) NN ⟨_, _, 0, env_has ⟨rfl, rfl, trivial⟩, Im.refl, hS.sel [0] rfl, ho1⟩ ?_)
  rintro m _ w1 ⟨J, T1, x1, rfl, im1, hS1, ho1⟩
  obtain ⟨m1, z1, rfl, hm, hn1⟩ := loop_round ho1
  rw [hbd1] at hm
  refine sq2 ?_
  refine sq2 ?_
  refine rg (pv (r_mi rfl) (pv (r_ms rfl) (pv (r_ln rfl Try.underlying23) (pv (r_imn rfl rfl) (pv (r_ib rfl rfl rfl) (pv (r_mb rfl) (?_)))))))
  rcases Bool.eq_false_or_eq_true (decide (x1 < (min (List.length p0 : Int) 128))) with hb1 | hb1
  · have hm := ctrue hb1 hm
    obtain ⟨u1, hx1, hm⟩ := bindS hm
    obtain ⟨b1, of1, cs1, k1, cp1, hv1, hp1, hl1, he1, hr1, hc1, hT1⟩ := (h1.mono im1).ixT hx1 rfl
    cases hr1
    refine gT (d0 := 9) rfl rfl hb1 (pv (r_ms rfl) (gT (d0 := 9) rfl rfl hb1 (pv (r_mi rfl) (gT (d0 := 9) rfl rfl hb1 (pv (r_ixe hv1 rfl Try.underlying23 Try.sizeOf5 hp1 hl1 he1) (gT (d0 := 9) rfl rfl hb1 (pv (r_ld rfl Try.isAgg5 (hc1.get (j := 0) rfl)) (gT (d0 := 9) rfl rfl hb1 (pv (r_ib rfl rfl rfl) (pv (r_pkt rfl hb1 rfl) (nil (t_thenR [(0, .slice a1 (List.length p0) c1), (3, .int .i64 x1), (15, .bool (u1 == 0))] ⟨rfl, rfl, rfl, trivial⟩ fun J => ?_))))))))))))
    refine cnd rfl (fun hb2 => ?_) (fun hb2 => ?_)
    · have hm := ctrue hb2 hm
      refine skp (t_then ?_)
      refine blk ?_
      have hm := Option.some.inj hm
      subst hm
      exact rg (pv (r_mi rfl) (pv (r_ib rfl rfl rfl) (pv (r_zi rfl) (nil (t_blk (t_then ⟨m1, Nat.lt_succ_self _, _, _, (IntKind.wrap .i64 (x1 + 1)), env_has ⟨rfl, rfl, trivial⟩, im1, hS1.sel [0] rfl, hn1⟩))))))
    · have hm := cfalse hb2 hm
      have hm := Option.some.inj hm
      subst hm
      have hn1 : _ = Lp.brk _ := hn1
      subst hn1
      have hm := thn_brk hq1
      refine xt (x_then (x_then (x_eq (t_then ?_))))
      refine sq2 ?_
      refine rg (pv (r_mi rfl) (pv (r_zi rfl) (nil (t_then ?_))))
      have hm := Option.some.inj hm
      subst hm
      exact rtn (ret1 rfl rfl ⟨_, rfl, _, im1, ⟨rfl, hS1.sel [0] rfl, trivial⟩⟩)
  · have hm := cfalse hb1 hm
    refine gF (d0 := 9) rfl rfl (by rw [hb1]; rfl) (gF (d0 := 9) rfl rfl (by rw [hb1]; rfl) (gF (d0 := 9) rfl rfl (by rw [hb1]; rfl) (gF (d0 := 9) rfl rfl (by rw [hb1]; rfl) (gF (d0 := 9) rfl rfl (by rw [hb1]; rfl) (pv (r_pkf rfl hb1 rfl) (nil (t_thenR [(0, .slice a1 (List.length p0) c1), (3, .int .i64 x1), (15, .bool false)] ⟨rfl, rfl, rfl, trivial⟩ fun J => ?_)))))))
    refine cnd (b := false) rfl (fun h => nomatch h) (fun _ => ?_)
    have hm := Option.some.inj hm
    subst hm
    have hn1 : _ = Lp.brk _ := hn1
    subst hn1
    have hm := thn_brk hq1
    refine xt (x_then (x_then (x_eq (t_then ?_))))
    refine sq2 ?_
    refine rg (pv (r_mi rfl) (pv (r_zi rfl) (nil (t_then ?_))))
    have hm := Option.some.inj hm
    subst hm
    exact rtn (ret1 rfl rfl ⟨_, rfl, _, im1, ⟨rfl, hS1.sel [0] rfl, trivial⟩⟩)

set_option maxRecDepth 100000 in
set_option maxHeartbeats 1000000 in
theorem pack_stops_sim {g : World} {T0 : Nat → Prop} {w0 : World} {R : Assn} {p0 : List Int} {a1 : Option Addr} {c1 : Nat} {r : Bool} (hS : Sep g T0 w0 [R]) (h1 : SlR (rInt .u8) T0 w0 (.slice a1 (List.length p0) c1) p0) (hm : pack_stops p0 = some r) :
    Calls Try.prog 33 #[.slice a1 (List.length p0) c1] w0 (RetS T0 w0 fun T w v => v = .bool r ∧ Sep g T w [R] ∧ True) := by
  refine enter (args := [.slice a1 (List.length p0) c1]) Try.func33 rfl Try.ntmps33 rfl fun J => ?_
  unfold pack_stops at hm
  refine sq2 ?_
  refine rg (pv (r_zb rfl) (nil (t_then ?_)))
  refine sq2 ?_
  obtain ⟨y1, hx1, hm⟩ := bindS hm
  refine rg (pv (r_ms rfl) (wl rfl (calS cf34 rfl (pack_zeros_sim (p0 := p0) (hS.bun [0] [] rfl) h1 hx1) rfl fun v1 T1 w1 im1 rv1 => ?_)))
  obtain ⟨rfl, hS1, _⟩ := rv1
  have hS1 : Sep g T1 w1 [R] := hS1.unb
  refine pv (r_zi rfl) (nil (t_then ?_))
  refine sq2 ?_
  refine rg (pv (r_mi rfl) (pv (r_ib rfl rfl rfl) (pv (r_mb rfl) (?_))))
  rcases Bool.eq_false_or_eq_true (decide (3 ≤ y1)) with hb1 | hb1
  · have hm := ctrue hb1 hm
    refine gF (d0 := 8) rfl rfl (by rw [hb1]; rfl) (gF (d0 := 8) rfl rfl (by rw [hb1]; rfl) (gF (d0 := 8) rfl rfl (by rw [hb1]; rfl) (gU (d0 := 11) rfl rfl (gU (d0 := 11) rfl rfl (gU (d0 := 11) rfl rfl (gU (d0 := 11) rfl rfl (gF (d0 := 8) rfl rfl (by rw [hb1]; rfl) (pv (r_pkt rfl hb1 rfl) (pv (r_zb rfl) (nil (t_thenR [(2, .bool true)] ⟨rfl, trivial⟩ fun J => ?_)))))))))))
    have hm := Option.some.inj hm
    subst hm
    exact rtn (ret1 rfl rfl ⟨_, rfl, _, im1, ⟨rfl, hS1.sel [0] rfl, trivial⟩⟩)
  · have hm := cfalse hb1 hm
    refine gT (d0 := 8) rfl rfl hb1 (pv (r_mi rfl) (gT (d0 := 8) rfl rfl hb1 (pv (r_ib rfl rfl rfl) (gT (d0 := 8) rfl rfl hb1 (pv (r_mb rfl) (?_))))))
    rcases Bool.eq_false_or_eq_true (decide (0 < y1)) with hb2 | hb2
    · have hm := ctrue hb2 hm
      refine gT (d0 := 11) rfl rfl hb2 (pv (r_mi rfl) (gT (d0 := 11) rfl rfl hb2 (pv (r_ms rfl) (gT (d0 := 11) rfl rfl hb2 (pv (r_ln rfl Try.underlying23) (gT (d0 := 11) rfl rfl hb2 (pv (r_ib rfl rfl rfl) (gT (d0 := 8) rfl rfl hb1 (pv (r_pkt rfl hb2 rfl) (pv (r_pkf rfl hb1 rfl) (pv (r_zb rfl) (nil (t_thenR [(2, .bool (y1 == (List.length p0 : Int)))] ⟨rfl, trivial⟩ fun J => ?_)))))))))))))
      have hm := Option.some.inj hm
      subst hm
      exact rtn (ret1 rfl rfl ⟨_, rfl, _, im1, ⟨rfl, hS1.sel [0] rfl, trivial⟩⟩)
    · have hm := cfalse hb2 hm
      refine gF (d0 := 11) rfl rfl (by rw [hb2]; rfl) (gF (d0 := 11) rfl rfl (by rw [hb2]; rfl) (gF (d0 := 11) rfl rfl (by rw [hb2]; rfl) (gF (d0 := 11) rfl rfl (by rw [hb2]; rfl) (gT (d0 := 8) rfl rfl hb1 (pv (r_pkf rfl hb2 rfl) (pv (r_pkf rfl hb1 rfl) (pv (r_zb rfl) (nil (t_thenR [(2, .bool false)] ⟨rfl, trivial⟩ fun J => ?_)))))))))
      have hm := Option.some.inj hm
      subst hm
      exact rtn (ret1 rfl rfl ⟨_, rfl, _, im1, ⟨rfl, hS1.sel [0] rfl, trivial⟩⟩)

set_option maxRecDepth 100000 in
set_option maxHeartbeats 1000000 in
theorem pack_run_sim {g : World} {T0 : Nat → Prop} {w0 : World} {R : Assn} {p0 : List Int} {a1 : Option Addr} {c1 : Nat} {r : Int × Bool} (hS : Sep g T0 w0 [R]) (h1 : SlR (rInt .u8) T0 w0 (.slice a1 (List.length p0) c1) p0) (hm : pack_run p0 = some r) :
    Calls Try.prog 25 #[.slice a1 (List.length p0) c1] w0 (RetS T0 w0 fun T w v => v = .tuple #[.int .i64 r.1, .bool r.2] ∧ Sep g T w [R] ∧ True) := by
  refine enter (args := [.slice a1 (List.length p0) c1]) Try.func25 rfl Try.ntmps25 rfl fun J => ?_
  unfold pack_run at hm
  refine sq2 ?_
  refine rg (pv (r_zi rfl) (pv (r_zb rfl) (nil (t_then ?_))))
  refine sq2 ?_
  refine sq2 ?_
  obtain ⟨y1, hx1, hm⟩ := bindS hm
  refine rg (pv (r_ms rfl) (wl rfl (calS cf33 rfl (pack_stops_sim (p0 := p0) (hS.bun [0] [] rfl) h1 hx1) rfl fun v1 T1 w1 im1 rv1 => ?_)))
  obtain ⟨rfl, hS1, _⟩ := rv1
  have hS1 : Sep g T1 w1 [R] := hS1.unb
  refine nil (t_then ?_)
  refine cnd rfl (fun hb1 => ?_) (fun hb1 => ?_)
  · have hm := ctrue hb1 hm
    refine sq2 ?_
    obtain ⟨y2, hx2, hm⟩ := bindS hm
    refine rg (pv (r_ms rfl) (wl rfl (calS cf34 rfl (pack_zeros_sim (p0 := p0) (hS1.bun [0] [] rfl) (h1.mono im1) hx2) rfl fun v2 T2 w2 im2 rv2 => ?_)))
    obtain ⟨rfl, hS2, _⟩ := rv2
    have hS2 : Sep g T2 w2 [R] := hS2.unb
    refine pv (r_zi rfl) (pv (r_zb rfl) (nil (t_thenR [(2, .int .i64 y2), (3, .bool true)] ⟨rfl, rfl, trivial⟩ fun J => ?_)))
    have hm := Option.some.inj hm
    subst hm
    exact rtn (r_then (retN (vs := [.int .i64 y2, .bool true]) rfl ⟨rfl, rfl, trivial⟩ rfl ⟨_, rfl, _, (Im.trans im1 im2), ⟨rfl, hS2.sel [0] rfl, trivial⟩⟩))
  · have hm := cfalse hb1 hm
    refine skp (t_then ?_)
    refine sq2 ?_
    refine rg (pv (r_zi rfl) (nil (t_then ?_)))
    refine sq2 ?_
    obtain ⟨o1, ho1, hq1⟩ := bindS hm
    obtain ⟨bd1, hbd1, ho1⟩ := loop_open ho1
    refine blk (wp_loop_ghost (fun m a w3 => ∃ (J : Nat → Value) (T3 : Nat → Prop) (x1 : Int), a = env (nf 27) J [(0, .slice a1 (List.length p0) c1), (4, .int .i64 x1)] ∧ Im T1 w1 T3 w3 ∧ Sep g T3 w3 [R] ∧ loopM bd1 m x1 = some o1) NN ⟨_, _, 0, env_has ⟨rfl, rfl, trivial⟩, Im.refl, hS1.sel [0] rfl, ho1⟩ ?_)
    rintro m _ w3 ⟨J, T3, x1, rfl, im3, hS3, ho1⟩
    obtain ⟨m1, z1, rfl, hm, hn1⟩ := loop_round ho1
    rw [hbd1] at hm
    refine sq2 ?_
    refine sq2 ?_
    refine rg (pv (r_mi rfl) (pv (r_ms rfl) (pv (r_ln rfl Try.underlying23) (pv (r_ib rfl rfl rfl) (pv (r_mb rfl) (?_))))))
    rcases Bool.eq_false_or_eq_true (decide (x1 < (List.length p0 : Int))) with hb2 | hb2
    · have hm := ctrue hb2 hm
      refine gT (d0 := 13) rfl rfl hb2 (pv (r_mi rfl) (gT (d0 := 13) rfl rfl hb2 (pv (r_ib rfl rfl rfl) (pv (r_pkt rfl hb2 rfl) (pv (r_mb rfl) (?_))))))
      rcases Bool.eq_false_or_eq_true (decide (x1 < 127)) with hb3 | hb3
      · have hm := ctrue hb3 hm
        obtain ⟨u1, hx3, hm⟩ := bindS hm
        obtain ⟨a2, c2, he1, h2⟩ := (h1.mono (Im.trans im1 im3)).part hx3
        obtain ⟨y3, hx4, hm⟩ := bindS hm
        refine gT (d0 := 17) rfl rfl hb3 (pv (r_ms rfl) (gT (d0 := 17) rfl rfl hb3 (pv (r_mi rfl) (gT (d0 := 17) rfl rfl hb3 (pv (r_slR rfl (h1.mono (Im.trans im1 im3)) ⟨_, rfl⟩ rfl hx3 Try.underlying23 Try.sizeOf5 rfl he1) (gT (d0 := 17) rfl rfl hb3 (wl rfl (calS cf33 rfl (pack_stops_sim (p0 := u1) (hS3.bun [0] [] rfl) h2 hx4) rfl fun v3 T4 w4 im4 rv3 => ?_))))))))
        obtain ⟨rfl, hS4, _⟩ := rv3
        have hS4 : Sep g T4 w4 [R] := hS4.unb
        refine gT (d0 := 17) rfl rfl hb3 (pv (r_nt rfl) (pv (r_pkt rfl hb3 rfl) (nil (t_thenR [(0, .slice a1 (List.length p0) c1), (4, .int .i64 x1), (23, .bool (!y3))] ⟨rfl, rfl, rfl, trivial⟩ fun J => ?_))))
        refine cnd rfl (fun hb4 => ?_) (fun hb4 => ?_)
        · have hm := ctrue hb4 hm
          refine skp (t_then ?_)
          refine blk ?_
          have hm := Option.some.inj hm
          subst hm
          exact rg (pv (r_mi rfl) (pv (r_ib rfl rfl rfl) (pv (r_zi rfl) (nil (t_blk (t_then ⟨m1, Nat.lt_succ_self _, _, _, (IntKind.wrap .i64 (x1 + 1)), env_has ⟨rfl, rfl, trivial⟩, (Im.trans im3 im4), hS4.sel [0] rfl, hn1⟩))))))
        · have hm := cfalse hb4 hm
          have hm := Option.some.inj hm
          subst hm
          have hn1 : _ = Lp.brk _ := hn1
          subst hn1
          have hm := thn_brk hq1
          refine xt (x_then (x_then (x_eq (t_then ?_))))
          refine sq2 ?_
          refine rg (pv (r_mi rfl) (pv (r_zi rfl) (pv (r_zb rfl) (nil (t_then ?_)))))
          have hm := Option.some.inj hm
          subst hm
          exact rtn (retN (vs := [.int .i64 x1, .bool false]) rfl ⟨rfl, rfl, trivial⟩ rfl ⟨_, rfl, _, (Im.trans im1 (Im.trans im3 im4)), ⟨rfl, hS4.sel [0] rfl, trivial⟩⟩)
      · have hm := cfalse hb3 hm
        refine gF (d0 := 17) rfl rfl (by rw [hb3]; rfl) (gF (d0 := 17) rfl rfl (by rw [hb3]; rfl) (gF (d0 := 17) rfl rfl (by rw [hb3]; rfl) (gF (d0 := 17) rfl rfl (by rw [hb3]; rfl) (gF (d0 := 17) rfl rfl (by rw [hb3]; rfl) (pv (r_pkf rfl hb3 rfl) (nil (t_thenR [(0, .slice a1 (List.length p0) c1), (4, .int .i64 x1), (23, .bool false)] ⟨rfl, rfl, rfl, trivial⟩ fun J => ?_)))))))
        refine cnd (b := false) rfl (fun h => nomatch h) (fun _ => ?_)
        have hm := Option.some.inj hm
        subst hm
        have hn1 : _ = Lp.brk _ := hn1
        subst hn1
        have hm := thn_brk hq1
        refine xt (x_then (x_then (x_eq (t_then ?_))))
        refine sq2 ?_
        refine rg (pv (r_mi rfl) (pv (r_zi rfl) (pv (r_zb rfl) (nil (t_then ?_)))))
        have hm := Option.some.inj hm
        subst hm
        exact rtn (retN (vs := [.int .i64 x1, .bool false]) rfl ⟨rfl, rfl, trivial⟩ rfl ⟨_, rfl, _, (Im.trans im1 im3), ⟨rfl, hS3.sel [0] rfl, trivial⟩⟩)
    · have hm := cfalse hb2 hm
      refine gF (d0 := 13) rfl rfl (by rw [hb2]; rfl) (gF (d0 := 13) rfl rfl (by rw [hb2]; rfl) (pv (r_pkf rfl hb2 rfl) (pv (r_mb rfl) (gF (d0 := 17) rfl rfl rfl (gF (d0 := 17) rfl rfl rfl (gF (d0 := 17) rfl rfl rfl (gF (d0 := 17) rfl rfl rfl (gF (d0 := 17) rfl rfl rfl (pv (r_pkf rfl rfl rfl) (nil (t_thenR [(0, .slice a1 (List.length p0) c1), (4, .int .i64 x1), (23, .bool false)] ⟨rfl, rfl, rfl, trivial⟩ fun J => ?_)))))))))))
      refine cnd (b := false) rfl (fun h => nomatch h) (fun _ => ?_)
      have hm := Option.some.inj hm
      subst hm
      have hn1 : _ = Lp.brk _ := hn1
      subst hn1
      have hm := thn_brk hq1
      refine xt (x_then (x_then (x_eq (t_then ?_))))
      refine sq2 ?_
      refine rg (pv (r_mi rfl) (pv (r_zi rfl) (pv (r_zb rfl) (nil (t_then ?_)))))
      have hm := Option.some.inj hm
      subst hm
      exact rtn (retN (vs := [.int .i64 x1, .bool false]) rfl ⟨rfl, rfl, trivial⟩ rfl ⟨_, rfl, _, (Im.trans im1 im3), ⟨rfl, hS3.sel [0] rfl, trivial⟩⟩)

set_option maxRecDepth 100000 in
set_option maxHeartbeats 1000000 in
theorem pack_runs_sim {g : World} {T0 : Nat → Prop} {w0 : World} {R : Assn} {p0 : List Int} {a1 : Option Addr} {n1 : Nat} {c1 : Nat} {p1 : List Int} {a2 : Option Addr} {c2 : Nat} {r : (List Int)} (hS : Sep g T0 w0 [R, ownA (rInt .u8) 5 (.slice a1 n1 c1) p0]) (h1 : SlR (rInt .u8) T0 w0 (.slice a2 (List.length p1) c2) p1) (hm : pack_runs p0 p1 = some r) :
    Calls Try.prog 17 #[.slice a1 n1 c1, .slice a2 (List.length p1) c2] w0 (RetS T0 w0 fun T w v => ∃ (a13 : Option Addr) (n9 : Nat) (c13 : Nat), v = .slice a13 n9 c13 ∧ Sep g T w [R, ownA (rInt .u8) 5 (.slice a13 n9 c13) r] ∧ True) := by
  refine enter (args := [.slice a1 n1 c1, .slice a2 (List.length p1) c2]) Try.func17 rfl Try.ntmps17 rfl fun J => ?_
  unfold pack_runs at hm
  refine sq2 ?_
  refine rg (pv (r_zs rfl) (nil (t_then ?_)))
  refine sq2 ?_
  obtain ⟨o1, ho1, hq1⟩ := bindS hm
  obtain ⟨bd1, hbd1, ho1⟩ := loop_open ho1
  refine blk (wp_loop_ghost (fun m a w1 => ∃ (J : Nat → Value) (T1 : Nat → Prop) (x1 : List Int) (a3 : Option Addr) (n2 : Nat) (c3 : Nat) (x2 : List Int) (a4 : Option Addr) (c4 : Nat), a = env (nf 36) J [(0, .slice a3 n2 c3), (1, .slice a4 (List.length x2) c4)] ∧ Im T0 w0 T1 w1 ∧ Sep g T1 w1 [R, ownA (rInt .u8) 5 (.slice a3 n2 c3) x1] ∧ SlR (rInt .u8) T1 w1 (.slice a4 (List.length x2) c4) x2 ∧ loopM bd1 m (x1, x2) = some o1) NN ⟨_, _, p0, _, _, _, p1, _, _, env_has ⟨rfl, rfl, trivial⟩, Im.refl, hS.sel [0, 1] rfl, h1, ho1⟩ ?_)
  rintro m _ w1 ⟨J, T1, x1, a3, n2, c3, x2, a4, c4, rfl, im1, hS1, h2, ho1⟩
  obtain ⟨m1, z1, rfl, hm, hn1⟩ := loop_round ho1
  rw [hbd1] at hm
  refine sq2 ?_
  refine sq2 ?_
  refine rg (pv (r_ms rfl) (pv (r_ln rfl Try.underlying23) (pv (r_ib rfl rfl rfl) (nil (t_then ?_)))))
  refine cnd rfl (fun hb1 => ?_) (fun hb1 => ?_)
  · have hm := ctrue hb1 hm
    refine skp (t_then ?_)
    refine blk ?_
    refine sq2 ?_
    obtain ⟨y1, hx1, hm⟩ := bindS hm
    refine rg (pv (r_ms rfl) (wl rfl (calS cf25 rfl (pack_run_sim (p0 := x2) (hS1.bun [0, 1] [] rfl) h2 hx1) rfl fun v1 T2 w2 im2 rv1 => ?_)))
    obtain ⟨rfl, hS2, _⟩ := rv1
    have hS2 : Sep g T2 w2 [R, ownA (rInt .u8) 5 (.slice a3 n2 c3) x1] := hS2.unb
    refine pv (r_mv rfl) (pv (r_ex (v := .int .i64 y1.1) rfl rfl) (pv (r_ex (v := .bool y1.2) rfl rfl) (pv (r_zi rfl) (pv (r_zb rfl) (nil (t_thenR [(0, .slice a3 n2 c3), (1, .slice a4 (List.length x2) c4), (5, .int .i64 y1.1), (6, .bool y1.2)] ⟨rfl, rfl, rfl, rfl, trivial⟩ fun J => ?_))))))
    obtain ⟨kk1, hkk1, hm⟩ := jn_open hm
    refine cut (fun a w3 => ∃ (J : Nat → Value) (T3 : Nat → Prop) (x3 : List Int) (a5 : Option Addr) (n3 : Nat) (c5 : Nat), a = env (nf 36) J [(0, .slice a5 n3 c5), (1, .slice a4 (List.length x2) c4), (5, .int .i64 y1.1)] ∧ Im T2 w2 T3 w3 ∧ Sep g T3 w3 [R, ownA (rInt .u8) 5 (.slice a5 n3 c5) x3] ∧ kk1 x3 = some z1) ?_ ?_
    · refine sq2 ?_
      refine rg (pv (r_mb rfl) (nil (t_then ?_)))
      refine cnd rfl (fun hb2 => ?_) (fun hb2 => ?_)
      · have hm := ctrue hb2 hm
        refine rg (pv (r_ms rfl) (pv (r_mi rfl) (pv (r_ib rfl rfl rfl) (pv (r_cv rfl Try.underlying3 Try.underlying5) (wl rfl (bsS (r := (rInt .u8)) (l := ([IntKind.wrap .u8 (IntKind.wrap .i64 (127 + y1.1))] : List Int)) (css := [[.int .u8 (IntKind.wrap .u8 (IntKind.wrap .i64 (127 + y1.1)))]]) hS2 Try.underlying23 Try.sizeOf5 Try.zeroValue5 rfl rfl (by kernel_rfl) rfl ⟨rfl, trivial⟩ rfl rfl fun w4 a6 n4 c6 im4 hS3 => ?_))))))
        obtain ⟨z_1, hro1, hm⟩ := bindS hm
        refine wl rfl (apO (q := 2) (l := x1) (us := ([IntKind.wrap .u8 (IntKind.wrap .i64 (127 + y1.1))] : List Int)) hS3 ⟨rfl, rfl⟩ rfl rfl (hS3.own (i := 0) ⟨rfl, rfl⟩).v Try.underlying23 el5 (room_some hro1) fun w5 a7 n5 c7 im5 hS4 => ?_)
        have hS4 : Sep g T2 w5 [ownA (rInt .u8) 5 (.slice a6 n4 c6) ([IntKind.wrap .u8 (IntKind.wrap .i64 (127 + y1.1))] : List Int), R, ownA (rInt .u8) 5 (.slice a7 n5 c7) (x1 ++ ([IntKind.wrap .u8 (IntKind.wrap .i64 (127 + y1.1))] : List Int))] := hS4
        exact pv (r_zs rfl) (nil (t_then ⟨_, _, (x1 ++ ([IntKind.wrap .u8 (IntKind.wrap .i64 (127 + y1.1))] : List Int)), _, _, _, env_has ⟨rfl, rfl, rfl, trivial⟩, (Im.trans im4 im5), hS4.sel [1, 2] rfl, hm⟩))
      · have hm := cfalse hb2 hm
        refine sq2 ?_
        refine rg (pv (r_ms rfl) (pv (r_mi rfl) (pv (r_cv rfl Try.underlying3 Try.underlying5) (wl rfl (bsS (r := (rInt .u8)) (l := ([IntKind.wrap .u8 y1.1] : List Int)) (css := [[.int .u8 (IntKind.wrap .u8 y1.1)]]) hS2 Try.underlying23 Try.sizeOf5 Try.zeroValue5 rfl rfl (by kernel_rfl) rfl ⟨rfl, trivial⟩ rfl rfl fun w6 a8 n6 c8 im6 hS5 => ?_)))))
        obtain ⟨z_2, hro2, hm⟩ := bindS hm
        refine wl rfl (apO (q := 2) (l := x1) (us := ([IntKind.wrap .u8 y1.1] : List Int)) hS5 ⟨rfl, rfl⟩ rfl rfl (hS5.own (i := 0) ⟨rfl, rfl⟩).v Try.underlying23 el5 (room_some hro2) fun w7 a9 n7 c9 im7 hS6 => ?_)
        have hS6 : Sep g T2 w7 [ownA (rInt .u8) 5 (.slice a8 n6 c8) ([IntKind.wrap .u8 y1.1] : List Int), R, ownA (rInt .u8) 5 (.slice a9 n7 c9) (x1 ++ ([IntKind.wrap .u8 y1.1] : List Int))] := hS6
        refine pv (r_zs rfl) (nil (t_thenR [(0, .slice a9 n7 c9), (1, .slice a4 (List.length x2) c4), (5, .int .i64 y1.1)] ⟨rfl, rfl, rfl, trivial⟩ fun J => ?_))
        obtain ⟨u1, hx2, hm⟩ := bindS hm
        obtain ⟨a10, c10, he1, h3⟩ := (h2.mono (Im.trans im2 (Im.trans im6 im7))).part hx2
        obtain ⟨z_3, hro3, hm⟩ := bindS hm
        refine rg (pv (r_ms rfl) (pv (r_ms rfl) (pv (r_mi rfl) (pv (r_slR rfl (h2.mono (Im.trans im2 (Im.trans im6 im7))) rfl ⟨_, rfl⟩ hx2 Try.underlying23 Try.sizeOf5 rfl he1) (wl rfl (apO (q := 2) (l := x1 ++ ([IntKind.wrap .u8 y1.1] : List Int)) (us := u1) hS6 ⟨rfl, rfl⟩ rfl rfl h3.v Try.underlying23 el5 (room_some hro3) fun w8 a11 n8 c11 im8 hS7 => ?_))))))
        have hS7 : Sep g T2 w8 [ownA (rInt .u8) 5 (.slice a8 n6 c8) ([IntKind.wrap .u8 y1.1] : List Int), R, ownA (rInt .u8) 5 (.slice a11 n8 c11) ((x1 ++ ([IntKind.wrap .u8 y1.1] : List Int)) ++ u1)] := hS7
        exact pv (r_zs rfl) (nil (t_then ⟨_, _, ((x1 ++ ([IntKind.wrap .u8 y1.1] : List Int)) ++ u1), _, _, _, env_has ⟨rfl, rfl, rfl, trivial⟩, (Im.trans im6 (Im.trans im7 im8)), hS7.sel [1, 2] rfl, hm⟩))
    · rintro _ w3 ⟨J, T3, x3, a5, n3, c5, rfl, im3, hS8, hm⟩
      rw [hkk1] at hm
      obtain ⟨u2, hx3, hm⟩ := bindS hm
      obtain ⟨a12, c12, he2, h4⟩ := (h2.mono (Im.trans im2 im3)).part hx3
      have hm := Option.some.inj hm
      subst hm
      exact rg (pv (r_ms rfl) (pv (r_mi rfl) (pv (r_slR rfl (h2.mono (Im.trans im2 im3)) ⟨_, rfl⟩ rfl hx3 Try.underlying23 Try.sizeOf5 rfl he2) (pv (r_zs rfl) (nil (t_blk (t_then ⟨m1, Nat.lt_succ_self _, _, _, x3, _, _, _, u2, _, _, env_has ⟨rfl, rfl, trivial⟩, (Im.trans im1 (Im.trans im2 im3)), hS8.sel [0, 1] rfl, h4, hn1⟩)))))))
  · have hm := cfalse hb1 hm
    have hm := Option.some.inj hm
    subst hm
    have hn1 : _ = Lp.brk _ := hn1
    subst hn1
    have hm := thn_brk hq1
    refine xt (x_then (x_then (x_eq (t_then ?_))))
    refine sq2 ?_
    refine rg (pv (r_ms rfl) (pv (r_zs rfl) (nil (t_thenR [(4, .slice a3 n2 c3)] ⟨rfl, trivial⟩ fun J => ?_))))
    have hm := Option.some.inj hm
    subst hm
    exact rtn (ret1 rfl rfl ⟨_, rfl, _, im1, ⟨_, _, _, rfl, hS1.sel [0, 1] rfl, trivial⟩⟩)

set_option maxRecDepth 100000 in
set_option maxHeartbeats 1000000 in
theorem pack_Encode_sim {g : World} {T0 : Nat → Prop} {w0 : World} {R : Assn} {p0 : GImage} {a1 : Option Addr} {c1 : Nat} {a2 : Option Addr} {c2 : Nat} {r : (List Int) × Int} (hS : Sep g T0 w0 [R]) (h1 : SlR (rInt .u32) T0 w0 (.slice a1 (List.length p0.Code) c1) p0.Code) (h2 : SlR (rInt .u8) T0 w0 (.slice a2 (List.length p0.Data) c2) p0.Data) (hm : pack_Encode p0 = some r) :
    Calls Try.prog 8 #[.agg #[.slice a1 (List.length p0.Code) c1, .slice a2 (List.length p0.Data) c2, .int .i64 p0.Limit, .int .i64 p0.Notes]] w0 (RetS T0 w0 fun T w v => ∃ (a10 : Option Addr) (n8 : Nat) (c10 : Nat), v = .tuple #[.slice a10 n8 c10, .int .i64 r.2] ∧ Sep g T w [R, ownA (rInt .u8) 5 (.slice a10 n8 c10) r.1] ∧ True) := by
  refine enter (args := [.agg #[.slice a1 (List.length p0.Code) c1, .slice a2 (List.length p0.Data) c2, .int .i64 p0.Limit, .int .i64 p0.Notes]]) Try.func8 rfl Try.ntmps8 rfl fun J => ?_
  unfold pack_Encode at hm
  refine sq2 ?_
  refine rg (wl rfl (bxS (cs := [.slice a1 (List.length p0.Code) c1, .slice a2 (List.length p0.Data) c2, .int .i64 p0.Limit, .int .i64 p0.Notes]) rfl rfl hS fun w1 b1 im1 hS1 => ?_))
  refine pv (r_zs rfl) (pv (r_zi rfl) (nil (t_then ?_)))
  refine sq2 ?_
  refine sq2 ?_
  obtain ⟨y1, hx1, hm⟩ := bindS hm
  refine rg (pv (r_ldS rfl Try.isAgg25 Try.sizeOf25 rfl (hS1.cells0 (i := 0) ⟨rfl, rfl⟩ (o := 0) rfl) (cs := [.slice a1 (List.length p0.Code) c1, .slice a2 (List.length p0.Data) c2, .int .i64 p0.Limit, .int .i64 p0.Notes])) (wl rfl (calS cf14 rfl (pack_right_sim (p0 := p0) (hS1.bun [0, 1] [] rfl) (h1.mono im1) (h2.mono im1) hx1) rfl fun v1 T1 w2 im2 rv1 => ?_)))
  obtain ⟨rfl, hS2, _⟩ := rv1
  have hS2 : Sep g T1 w2 [boxA b1 [.slice a1 (List.length p0.Code) c1, .slice a2 (List.length p0.Data) c2, .int .i64 p0.Limit, .int .i64 p0.Notes], R] := hS2.unb
  refine pv (r_nt rfl) (nil (t_thenR [(1, .pointer (some ⟨b1, 0, none⟩)), (11, .bool (!y1))] ⟨rfl, rfl, trivial⟩ fun J => ?_))
  refine cnd rfl (fun hb1 => ?_) (fun hb1 => ?_)
  · have hm := ctrue hb1 hm
    refine sq2 ?_
    refine rg (pv (r_zs rfl) (pv (r_zi rfl) (nil (t_then ?_))))
    have hS3 := hS2.nilO (rInt .u8) 5
    have hm := Option.some.inj hm
    subst hm
    exact rtn (r_then (retN (vs := [.slice none 0 0, .int .i64 1]) rfl ⟨rfl, rfl, trivial⟩ rfl ⟨_, rfl, _, (Im.trans im1 im2), ⟨_, _, _, rfl, hS3.sel [2, 0] rfl, trivial⟩⟩))
  · have hm := cfalse hb1 hm
    refine skp (t_then ?_)
    refine sq2 ?_
    obtain ⟨y2, hx2, hm⟩ := bindS hm
    refine rg (wl rfl (calS cf15 rfl (pack_sign_sim  (hS2.bun [0, 1] [] rfl)  hx2) rfl fun v2 T2 w3 im3 rv2 => ?_))
    obtain ⟨a3, n1, c3, rfl, hS4, _⟩ := rv2
    have hS4 : Sep g T2 w3 [boxA b1 [.slice a1 (List.length p0.Code) c1, .slice a2 (List.length p0.Data) c2, .int .i64 p0.Limit, .int .i64 p0.Notes], R, ownA (rInt .u8) 5 (.slice a3 n1 c3) y2] := hS4.unb
    refine pv (r_zs rfl) (nil (t_then ?_))
    refine sq2 ?_
    refine sq2 ?_
    refine rg (pv (r_fa rfl Try.underlying25 rfl Try.sizeOf22 rfl) (pv (r_ld rfl Try.isAgg22 (hS4.cell0 (i := 0) ⟨rfl, rfl⟩ (j := 0) rfl)) (pv (r_ln rfl Try.underlying22) (pv (r_fa rfl Try.underlying25 rfl Try.sizeOf23 rfl) (pv (r_ld rfl Try.isAgg23 (hS4.cell0 (i := 0) ⟨rfl, rfl⟩ (j := 1) rfl)) (pv (r_ln rfl Try.underlying23) (pv (r_fa rfl Try.underlying25 rfl Try.sizeOf3 rfl) (pv (r_ld rfl Try.isAgg3 (hS4.cell0 (i := 0) ⟨rfl, rfl⟩ (j := 2) rfl)) (pv (r_ib rfl rfl rfl) (pv (r_fa rfl Try.underlying25 rfl Try.sizeOf3 rfl) (pv (r_ld rfl Try.isAgg3 (hS4.cell0 (i := 0) ⟨rfl, rfl⟩ (j := 3) rfl)) (wl rfl (bsS (r := (rInt .i64)) (l := ([(List.length p0.Code : Int), (List.length p0.Data : Int), IntKind.wrap .i64 (p0.Limit - 268435456), p0.Notes] : List Int)) (css := [[.int .i64 (List.length p0.Code : Int)], [.int .i64 (List.length p0.Data : Int)], [.int .i64 (IntKind.wrap .i64 (p0.Limit - 268435456))], [.int .i64 p0.Notes]]) hS4 Try.underlying42 Try.sizeOf3 Try.zeroValue3 rfl rfl (by kernel_rfl) rfl ⟨rfl, rfl, rfl, rfl, trivial⟩ rfl rfl fun w4 a4 n2 c4 im4 hS5 => ?_)))))))))))))
    refine pv (r_lnV rfl (hS5.own (i := 0) ⟨rfl, rfl⟩).v Try.underlying42) (pv (r_mi rfl) (nil (t_thenR [(1, .pointer (some ⟨b1, 0, none⟩)), (4, .slice a3 n1 c3), (24, .slice a4 n2 c4), (25, .int .i64 (List.length ([(List.length p0.Code : Int), (List.length p0.Data : Int), IntKind.wrap .i64 (p0.Limit - 268435456), p0.Notes] : List Int) : Int)), (26, .int .i64 0)] ⟨rfl, rfl, rfl, rfl, rfl, trivial⟩ fun J => ?_)))
    obtain ⟨o1, ho1, hq1⟩ := bindS hm
    obtain ⟨bd1, hbd1, ho1⟩ := loop_open ho1
    refine blk (wp_loop_ghost (fun m a w5 => ∃ (J : Nat → Value) (T3 : Nat → Prop) (x1 : List Int) (a5 : Option Addr) (n3 : Nat) (c5 : Nat) (x2 : Int), a = env (nf 50) J [(1, .pointer (some ⟨b1, 0, none⟩)), (4, .slice a5 n3 c5), (24, .slice a4 n2 c4), (25, .int .i64 (List.length ([(List.length p0.Code : Int), (List.length p0.Data : Int), IntKind.wrap .i64 (p0.Limit - 268435456), p0.Notes] : List Int) : Int)), (26, .int .i64 x2)] ∧ Im T2 w4 T3 w5 ∧ Sep g T3 w5 [ownA (rInt .i64) 3 (.slice a4 n2 c4) ([(List.length p0.Code : Int), (List.length p0.Data : Int), IntKind.wrap .i64 (p0.Limit - 268435456), p0.Notes] : List Int), boxA b1 [.slice a1 (List.length p0.Code) c1, .slice a2 (List.length p0.Data) c2, .int .i64 p0.Limit, .int .i64 p0.Notes], R, ownA (rInt .u8) 5 (.slice a5 n3 c5) x1] ∧ loopM bd1 m (x1, x2) = some o1) NN ⟨_, _, y2, _, _, _, 0, env_has ⟨rfl, rfl, rfl, rfl, rfl, trivial⟩, Im.refl, hS5.sel [0, 1, 2, 3] rfl, ho1⟩ ?_)
    rintro m _ w5 ⟨J, T3, x1, a5, n3, c5, x2, rfl, im5, hS6, ho1⟩
    obtain ⟨m1, z1, rfl, hm, hn1⟩ := loop_round ho1
    rw [hbd1] at hm
    refine sq2 ?_
    refine rg (pv (r_ib rfl rfl rfl) (nil (t_then ?_)))
    refine sq2 ?_
    refine cnd rfl (fun hb2 => ?_) (fun hb2 => ?_)
    · have hm := ctrue hb2 hm
      refine skp (t_then ?_)
      refine sq2 ?_
      refine blk ?_
      refine sq2 ?_
      obtain ⟨u1, hx3, hm⟩ := bindS hm
      obtain ⟨b2, of1, cs1, k1, cp1, hv1, hp1, hl1, he1, hr1, hc1⟩ := (hS6.own (i := 0) ⟨rfl, rfl⟩).v.ixq hx3 rfl
      cases hr1
      refine rg (pv (r_ixe hv1 rfl Try.underlying42 Try.sizeOf3 hp1 hl1 he1) (pv (r_ld rfl Try.isAgg3 (hc1.get (j := 0) rfl)) (pv (r_zi rfl) (nil (t_then ?_)))))
      obtain ⟨y3, hx4, hm⟩ := bindS hm
      refine rg (pv (r_ms rfl) (pv (r_mi rfl) (pv (r_cv rfl Try.underlying3 Try.underlying40) (wl rfl (calS cf16 rfl (pack_number_sim (p0 := x1) (p1 := IntKind.wrap .u32 u1) (hS6.bun [0, 1, 2] [3] rfl)  hx4) rfl fun v3 T4 w6 im6 rv3 => ?_)))))
      obtain ⟨a6, n4, c6, rfl, hS7, _⟩ := rv3
      have hS7 : Sep g T4 w6 [ownA (rInt .i64) 3 (.slice a4 n2 c4) ([(List.length p0.Code : Int), (List.length p0.Data : Int), IntKind.wrap .i64 (p0.Limit - 268435456), p0.Notes] : List Int), boxA b1 [.slice a1 (List.length p0.Code) c1, .slice a2 (List.length p0.Data) c2, .int .i64 p0.Limit, .int .i64 p0.Notes], R, ownA (rInt .u8) 5 (.slice a6 n4 c6) y3] := hS7.unb
      refine pv (r_zs rfl) (nil (t_blk (t_thenR [(1, .pointer (some ⟨b1, 0, none⟩)), (4, .slice a6 n4 c6), (24, .slice a4 n2 c4), (25, .int .i64 (List.length ([(List.length p0.Code : Int), (List.length p0.Data : Int), IntKind.wrap .i64 (p0.Limit - 268435456), p0.Notes] : List Int) : Int)), (26, .int .i64 x2)] ⟨rfl, rfl, rfl, rfl, rfl, trivial⟩ fun J => ?_)))
      have hm := Option.some.inj hm
      subst hm
      exact rg (pv (r_ib rfl rfl rfl) (pv (r_mi rfl) (nil (t_then ⟨m1, Nat.lt_succ_self _, _, _, y3, _, _, _, (IntKind.wrap .i64 (x2 + 1)), env_has ⟨rfl, rfl, rfl, rfl, rfl, trivial⟩, (Im.trans im5 im6), hS7.sel [0, 1, 2, 3] rfl, hn1⟩))))
    · have hm := cfalse hb2 hm
      have hm := Option.some.inj hm
      subst hm
      have hn1 : _ = Lp.brk _ := hn1
      subst hn1
      have hm := thn_brk hq1
      refine xt (x_then (x_then (x_eq (t_then ?_))))
      refine sq2 ?_
      refine sq2 ?_
      refine rg (pv (r_fa rfl Try.underlying25 rfl Try.sizeOf22 rfl) (pv (r_ld rfl Try.isAgg22 (hS6.cell0 (i := 1) ⟨rfl, rfl⟩ (j := 0) rfl)) (pv (r_ln rfl Try.underlying22) (pv (r_mi rfl) (nil (t_thenR [(1, .pointer (some ⟨b1, 0, none⟩)), (4, .slice a5 n3 c5), (36, .slice a1 (List.length p0.Code) c1), (37, .int .i64 (List.length p0.Code : Int)), (38, .int .i64 0)] ⟨rfl, rfl, rfl, rfl, rfl, trivial⟩ fun J => ?_))))))
      obtain ⟨o1, ho1, hq1⟩ := bindS hm
      obtain ⟨bd1, hbd1, ho1⟩ := loop_open ho1
      refine blk (wp_loop_ghost (fun m a w7 => ∃ (J : Nat → Value) (T5 : Nat → Prop) (x3 : List Int) (a7 : Option Addr) (n5 : Nat) (c7 : Nat) (x4 : Int), a = env (nf 50) J [(1, .pointer (some ⟨b1, 0, none⟩)), (4, .slice a7 n5 c7), (36, .slice a1 (List.length p0.Code) c1), (37, .int .i64 (List.length p0.Code : Int)), (38, .int .i64 x4)] ∧ Im T3 w5 T5 w7 ∧ Sep g T5 w7 [boxA b1 [.slice a1 (List.length p0.Code) c1, .slice a2 (List.length p0.Data) c2, .int .i64 p0.Limit, .int .i64 p0.Notes], R, ownA (rInt .u8) 5 (.slice a7 n5 c7) x3] ∧ loopM bd1 m (x3, x4) = some o1) NN ⟨_, _, x1, _, _, _, 0, env_has ⟨rfl, rfl, rfl, rfl, rfl, trivial⟩, Im.refl, hS6.sel [1, 2, 3] rfl, ho1⟩ ?_)
      rintro m _ w7 ⟨J, T5, x3, a7, n5, c7, x4, rfl, im7, hS8, ho1⟩
      obtain ⟨m1, z1, rfl, hm, hn1⟩ := loop_round ho1
      rw [hbd1] at hm
      refine sq2 ?_
      refine rg (pv (r_ib rfl rfl rfl) (nil (t_then ?_)))
      refine sq2 ?_
      refine cnd rfl (fun hb3 => ?_) (fun hb3 => ?_)
      · have hm := ctrue hb3 hm
        refine skp (t_then ?_)
        refine sq2 ?_
        refine blk ?_
        refine sq2 ?_
        obtain ⟨u2, hx5, hm⟩ := bindS hm
        obtain ⟨b3, of2, cs2, k2, cp2, hv2, hp2, hl2, he2, hr2, hc2, hT1⟩ := (h1.mono (Im.trans im1 (Im.trans im2 (Im.trans im3 (Im.trans im4 (Im.trans im5 im7)))))).ixT hx5 rfl
        cases hr2
        refine rg (pv (r_ixe hv2 rfl Try.underlying22 Try.sizeOf40 hp2 hl2 he2) (pv (r_ld rfl Try.isAgg40 (hc2.get (j := 0) rfl)) (pv (r_zi rfl) (nil (t_then ?_)))))
        obtain ⟨y4, hx6, hm⟩ := bindS hm
        refine rg (pv (r_ms rfl) (pv (r_mi rfl) (wl rfl (calS cf16 rfl (pack_number_sim (p0 := x3) (p1 := u2) (hS8.bun [0, 1] [2] rfl)  hx6) rfl fun v4 T6 w8 im8 rv4 => ?_))))
        obtain ⟨a8, n6, c8, rfl, hS9, _⟩ := rv4
        have hS9 : Sep g T6 w8 [boxA b1 [.slice a1 (List.length p0.Code) c1, .slice a2 (List.length p0.Data) c2, .int .i64 p0.Limit, .int .i64 p0.Notes], R, ownA (rInt .u8) 5 (.slice a8 n6 c8) y4] := hS9.unb
        refine pv (r_zs rfl) (nil (t_blk (t_thenR [(1, .pointer (some ⟨b1, 0, none⟩)), (4, .slice a8 n6 c8), (36, .slice a1 (List.length p0.Code) c1), (37, .int .i64 (List.length p0.Code : Int)), (38, .int .i64 x4)] ⟨rfl, rfl, rfl, rfl, rfl, trivial⟩ fun J => ?_)))
        have hm := Option.some.inj hm
        subst hm
        exact rg (pv (r_ib rfl rfl rfl) (pv (r_mi rfl) (nil (t_then ⟨m1, Nat.lt_succ_self _, _, _, y4, _, _, _, (IntKind.wrap .i64 (x4 + 1)), env_has ⟨rfl, rfl, rfl, rfl, rfl, trivial⟩, (Im.trans im7 im8), hS9.sel [0, 1, 2] rfl, hn1⟩))))
      · have hm := cfalse hb3 hm
        have hm := Option.some.inj hm
        subst hm
        have hn1 : _ = Lp.brk _ := hn1
        subst hn1
        have hm := thn_brk hq1
        refine xt (x_then (x_then (x_eq (t_then ?_))))
        refine sq2 ?_
        obtain ⟨y5, hx7, hm⟩ := bindS hm
        refine rg (pv (r_ms rfl) (pv (r_fa rfl Try.underlying25 rfl Try.sizeOf23 rfl) (pv (r_ld rfl Try.isAgg23 (hS8.cell0 (i := 0) ⟨rfl, rfl⟩ (j := 1) rfl)) (wl rfl (calS cf17 rfl (pack_runs_sim (p0 := x3) (p1 := p0.Data) (hS8.bun [1] [2] rfl) (h2.mono (Im.trans im1 (Im.trans im2 (Im.trans im3 (Im.trans im4 (Im.trans im5 im7)))))) hx7) rfl fun v5 T7 w9 im9 rv5 => ?_)))))
        obtain ⟨a9, n7, c9, rfl, hS10, _⟩ := rv5
        have hS10 : Sep g T7 w9 [R, ownA (rInt .u8) 5 (.slice a9 n7 c9) y5] := hS10.unb
        refine pv (r_zs rfl) (pv (r_zi rfl) (nil (t_thenR [(2, .slice a9 n7 c9), (3, .int .i64 0)] ⟨rfl, rfl, trivial⟩ fun J => ?_)))
        have hm := Option.some.inj hm
        subst hm
        exact rtn (retN (vs := [.slice a9 n7 c9, .int .i64 0]) rfl ⟨rfl, rfl, trivial⟩ rfl ⟨_, rfl, _, (Im.trans im1 (Im.trans im2 (Im.trans im3 (Im.trans im4 (Im.trans im5 (Im.trans im7 im9)))))), ⟨_, _, _, rfl, hS10.sel [0, 1] rfl, trivial⟩⟩)

set_option maxRecDepth 100000 in
set_option maxHeartbeats 1000000 in
theorem law32_awake_sim {g : World} {T0 : Nat → Prop} {w0 : World} {R : Assn}  {r : Bool} (hS : Sep g T0 w0 [R])  (hm : law32_awake = some r) :
    Calls Try.prog 7 #[] w0 (RetS T0 w0 fun T w v => v = .bool r ∧ Sep g T w [R] ∧ True) := by
  refine enter (args := []) Try.func7 rfl Try.ntmps7 rfl fun J => ?_
  unfold law32_awake at hm
  refine sq2 ?_
  refine rg (pv (r_zb rfl) (nil (t_then ?_)))
  refine sq2 ?_
  refine rg (wl rfl (bsS (r := (rInt .u32)) (l := ([1] : List Int)) (css := [[.int .u32 1]]) hS Try.underlying22 Try.sizeOf40 Try.zeroValue40 rfl rfl (by kernel_rfl) rfl ⟨rfl, trivial⟩ rfl rfl fun w1 a1 n1 c1 im1 hS1 => ?_))
  refine wl rfl (bsS (r := (rInt .u8)) (l := ([5, 0, 0, 0, 0] : List Int)) (css := [[.int .u8 5], [.int .u8 0], [.int .u8 0], [.int .u8 0], [.int .u8 0]]) hS1 Try.underlying23 Try.sizeOf5 Try.zeroValue5 rfl rfl (by kernel_rfl) rfl ⟨rfl, rfl, rfl, rfl, rfl, trivial⟩ rfl rfl fun w2 a2 n2 c2 im2 hS2 => ?_)
  refine pv (r_bd (by kernel_rfl) rfl (u := .agg #[.slice a1 n1 c1, .slice a2 n2 c2, .int .i64 268435456, .int .i64 0])) (?_)
  obtain ⟨T1, im3, hS3, h1⟩ := hS2.seal 1 ⟨rfl, rfl⟩
  have hsh := h1.len
  subst hsh
  have hS3 : Sep g T1 w2 [ownA (rInt .u8) 5 (.slice a2 n2 c2) ([5, 0, 0, 0, 0] : List Int), empA, R] := hS3
  obtain ⟨T2, im4, hS4, h2⟩ := hS3.seal 0 ⟨rfl, rfl⟩
  have hsh := h2.len
  subst hsh
  have hS4 : Sep g T2 w2 [empA, empA, R] := hS4
  obtain ⟨y1, hx1, hm⟩ := bindS hm
  refine wl rfl (calS cf8 rfl (pack_Encode_sim (p0 := (⟨([1] : List Int), ([5, 0, 0, 0, 0] : List Int), 268435456, 0⟩ : GImage)) (hS4.bun [2] [] rfl) (h1.mono im4) h2 hx1) rfl fun v1 T3 w3 im5 rv1 => ?_)
  obtain ⟨a3, n3, c3, rfl, hS5, _⟩ := rv1
  have hS5 : Sep g T3 w3 [R, ownA (rInt .u8) 5 (.slice a3 n3 c3) y1.1] := hS5.unb
  refine pv (r_mv rfl) (pv (r_ex (v := .slice a3 n3 c3) rfl rfl) (pv (r_ex (v := .int .i64 y1.2) rfl rfl) (pv (r_zs rfl) (pv (r_zi rfl) (nil (t_thenR [(1, .slice a3 n3 c3), (2, .int .i64 y1.2)] ⟨rfl, rfl, trivial⟩ fun J => ?_))))))
  refine sq2 ?_
  refine rg (wl rfl (bsS (r := (rInt .u32)) (l := ([1] : List Int)) (css := [[.int .u32 1]]) hS5 Try.underlying22 Try.sizeOf40 Try.zeroValue40 rfl rfl (by kernel_rfl) rfl ⟨rfl, trivial⟩ rfl rfl fun w4 a4 n4 c4 im6 hS6 => ?_))
  refine wl rfl (bsS (r := (rInt .u8)) (l := ([0, 0, 7, 8] : List Int)) (css := [[.int .u8 0], [.int .u8 0], [.int .u8 7], [.int .u8 8]]) hS6 Try.underlying23 Try.sizeOf5 Try.zeroValue5 rfl rfl (by kernel_rfl) rfl ⟨rfl, rfl, rfl, rfl, trivial⟩ rfl rfl fun w5 a5 n5 c5 im7 hS7 => ?_)
  refine pv (r_bd (by kernel_rfl) rfl (u := .agg #[.slice a4 n4 c4, .slice a5 n5 c5, .int .i64 268435456, .int .i64 0])) (?_)
  obtain ⟨T4, im8, hS8, h3⟩ := hS7.seal 1 ⟨rfl, rfl⟩
  have hsh := h3.len
  subst hsh
  have hS8 : Sep g T4 w5 [ownA (rInt .u8) 5 (.slice a5 n5 c5) ([0, 0, 7, 8] : List Int), empA, R, ownA (rInt .u8) 5 (.slice a3 n3 c3) y1.1] := hS8
  obtain ⟨T5, im9, hS9, h4⟩ := hS8.seal 0 ⟨rfl, rfl⟩
  have hsh := h4.len
  subst hsh
  have hS9 : Sep g T5 w5 [empA, empA, R, ownA (rInt .u8) 5 (.slice a3 n3 c3) y1.1] := hS9
  obtain ⟨y2, hx2, hm⟩ := bindS hm
  refine wl rfl (calS cf8 rfl (pack_Encode_sim (p0 := (⟨([1] : List Int), ([0, 0, 7, 8] : List Int), 268435456, 0⟩ : GImage)) (hS9.bun [2, 3] [] rfl) (h3.mono im9) h4 hx2) rfl fun v2 T6 w6 im10 rv2 => ?_)
  obtain ⟨a6, n6, c6, rfl, hS10, _⟩ := rv2
  have hS10 : Sep g T6 w6 [R, ownA (rInt .u8) 5 (.slice a3 n3 c3) y1.1, ownA (rInt .u8) 5 (.slice a6 n6 c6) y2.1] := hS10.unb
  refine pv (r_mv rfl) (pv (r_ex (v := .slice a6 n6 c6) rfl rfl) (pv (r_ex (v := .int .i64 y2.2) rfl rfl) (pv (r_zs rfl) (pv (r_zi rfl) (nil (t_thenR [(1, .slice a3 n3 c3), (2, .int .i64 y1.2), (3, .slice a6 n6 c6), (4, .int .i64 y2.2)] ⟨rfl, rfl, rfl, rfl, trivial⟩ fun J => ?_))))))
  refine sq2 ?_
  refine rg (pv (r_mi rfl) (pv (r_ib rfl rfl rfl) (pv (r_mb rfl) (?_))))
  rcases Bool.eq_false_or_eq_true (y1.2 == 0) with hb1 | hb1
  · have hm := ctrue hb1 hm
    refine gT (d0 := 21) rfl rfl hb1 (pv (r_mi rfl) (gT (d0 := 21) rfl rfl hb1 (pv (r_ib rfl rfl rfl) (pv (r_pkt rfl hb1 rfl) (pv (r_mb rfl) (?_))))))
    rcases Bool.eq_false_or_eq_true (y2.2 == 0) with hb2 | hb2
    · have hm := ctrue hb2 hm
      refine gT (d0 := 25) rfl rfl hb2 (pv (r_ms rfl) (gT (d0 := 25) rfl rfl hb2 (pv (r_cvs rfl ⟨_, (hS10.own (i := 1) ⟨rfl, rfl⟩).v⟩ Try.underlying23 Try.underlying5 Try.underlying9) (gT (d0 := 25) rfl rfl hb2 (pv (r_sqL rfl rfl) (pv (r_pkt rfl hb2 rfl) (pv (r_mb rfl) (?_))))))))
      rcases Bool.eq_false_or_eq_true (decide (bytesStr y1.1 = ([82, 83, 72, 1, 1, 0, 0, 0, 5, 0, 0, 0, 0, 0, 0, 0, 0, 0, 0, 0, 1, 0, 0, 0, 1, 5, 131] : List UInt8))) with hb3 | hb3
      · have hm := ctrue hb3 hm
        refine gT (d0 := 30) rfl rfl hb3 (pv (r_ms rfl) (gT (d0 := 30) rfl rfl hb3 (pv (r_lnV rfl (hS10.own (i := 2) ⟨rfl, rfl⟩).v Try.underlying23) (gT (d0 := 30) rfl rfl hb3 (pv (r_ib rfl rfl rfl) (pv (r_pkt rfl hb3 rfl) (pv (r_mb rfl) (?_))))))))
        rcases Bool.eq_false_or_eq_true ((List.length y2.1 : Int) == 29) with hb4 | hb4
        · have hm := ctrue hb4 hm
          obtain ⟨u1, hx3, hm⟩ := bindS hm
          obtain ⟨b1, of1, cs1, k1, cp1, hv1, hp1, hl1, he1, hr1, hc1⟩ := (hS10.own (i := 2) ⟨rfl, rfl⟩).v.ixq hx3 rfl
          cases hr1
          refine gT (d0 := 35) rfl rfl hb4 (pv (r_ms rfl) (gT (d0 := 35) rfl rfl hb4 (pv (r_ixe hv1 rfl Try.underlying23 Try.sizeOf5 hp1 hl1 he1) (gT (d0 := 35) rfl rfl hb4 (pv (r_ld rfl Try.isAgg5 (hc1.get (j := 0) rfl)) (gT (d0 := 35) rfl rfl hb4 (pv (r_ib rfl rfl rfl) (pv (r_pkt rfl hb4 rfl) (pv (r_zb rfl) (nil (t_thenR [(0, .bool (u1 == 4))] ⟨rfl, trivial⟩ fun J => ?_)))))))))))
          have hm := Option.some.inj hm
          subst hm
          exact rtn (ret1 rfl rfl ⟨_, rfl, _, (Im.trans im1 (Im.trans im2 (Im.trans im3 (Im.trans im4 (Im.trans im5 (Im.trans im6 (Im.trans im7 (Im.trans im8 (Im.trans im9 im10))))))))), ⟨rfl, hS10.sel [0] rfl, trivial⟩⟩)
        · have hm := cfalse hb4 hm
          refine gF (d0 := 35) rfl rfl (by rw [hb4]; rfl) (gF (d0 := 35) rfl rfl (by rw [hb4]; rfl) (gF (d0 := 35) rfl rfl (by rw [hb4]; rfl) (gF (d0 := 35) rfl rfl (by rw [hb4]; rfl) (pv (r_pkf rfl hb4 rfl) (pv (r_zb rfl) (nil (t_thenR [(0, .bool false)] ⟨rfl, trivial⟩ fun J => ?_)))))))
          have hm := Option.some.inj hm
          subst hm
          exact rtn (ret1 rfl rfl ⟨_, rfl, _, (Im.trans im1 (Im.trans im2 (Im.trans im3 (Im.trans im4 (Im.trans im5 (Im.trans im6 (Im.trans im7 (Im.trans im8 (Im.trans im9 im10))))))))), ⟨rfl, hS10.sel [0] rfl, trivial⟩⟩)
      · have hm := cfalse hb3 hm
        refine gF (d0 := 30) rfl rfl (by rw [hb3]; rfl) (gF (d0 := 30) rfl rfl (by rw [hb3]; rfl) (gF (d0 := 30) rfl rfl (by rw [hb3]; rfl) (pv (r_pkf rfl hb3 rfl) (pv (r_mb rfl) (gF (d0 := 35) rfl rfl rfl (gF (d0 := 35) rfl rfl rfl (gF (d0 := 35) rfl rfl rfl (gF (d0 := 35) rfl rfl rfl (pv (r_pkf rfl rfl rfl) (pv (r_zb rfl) (nil (t_thenR [(0, .bool false)] ⟨rfl, trivial⟩ fun J => ?_))))))))))))
        have hm := Option.some.inj hm
        subst hm
        exact rtn (ret1 rfl rfl ⟨_, rfl, _, (Im.trans im1 (Im.trans im2 (Im.trans im3 (Im.trans im4 (Im.trans im5 (Im.trans im6 (Im.trans im7 (Im.trans im8 (Im.trans im9 im10))))))))), ⟨rfl, hS10.sel [0] rfl, trivial⟩⟩)
    · have hm := cfalse hb2 hm
      refine gF (d0 := 25) rfl rfl (by rw [hb2]; rfl) (gF (d0 := 25) rfl rfl (by rw [hb2]; rfl) (gF (d0 := 25) rfl rfl (by rw [hb2]; rfl) (pv (r_pkf rfl hb2 rfl) (pv (r_mb rfl) (gF (d0 := 30) rfl rfl rfl (gF (d0 := 30) rfl rfl rfl (gF (d0 := 30) rfl rfl rfl (pv (r_pkf rfl rfl rfl) (pv (r_mb rfl) (gF (d0 := 35) rfl rfl rfl (gF (d0 := 35) rfl rfl rfl (gF (d0 := 35) rfl rfl rfl (gF (d0 := 35) rfl rfl rfl (pv (r_pkf rfl rfl rfl) (pv (r_zb rfl) (nil (t_thenR [(0, .bool false)] ⟨rfl, trivial⟩ fun J => ?_)))))))))))))))))
      have hm := Option.some.inj hm
      subst hm
      exact rtn (ret1 rfl rfl ⟨_, rfl, _, (Im.trans im1 (Im.trans im2 (Im.trans im3 (Im.trans im4 (Im.trans im5 (Im.trans im6 (Im.trans im7 (Im.trans im8 (Im.trans im9 im10))))))))), ⟨rfl, hS10.sel [0] rfl, trivial⟩⟩)
  · have hm := cfalse hb1 hm
    refine gF (d0 := 21) rfl rfl (by rw [hb1]; rfl) (gF (d0 := 21) rfl rfl (by rw [hb1]; rfl) (pv (r_pkf rfl hb1 rfl) (pv (r_mb rfl) (gF (d0 := 25) rfl rfl rfl (gF (d0 := 25) rfl rfl rfl (gF (d0 := 25) rfl rfl rfl (pv (r_pkf rfl rfl rfl) (pv (r_mb rfl) (gF (d0 := 30) rfl rfl rfl (gF (d0 := 30) rfl rfl rfl (gF (d0 := 30) rfl rfl rfl (pv (r_pkf rfl rfl rfl) (pv (r_mb rfl) (gF (d0 := 35) rfl rfl rfl (gF (d0 := 35) rfl rfl rfl (gF (d0 := 35) rfl rfl rfl (gF (d0 := 35) rfl rfl rfl (pv (r_pkf rfl rfl rfl) (pv (r_zb rfl) (nil (t_thenR [(0, .bool false)] ⟨rfl, trivial⟩ fun J => ?_)))))))))))))))))))))
    have hm := Option.some.inj hm
    subst hm
    exact rtn (ret1 rfl rfl ⟨_, rfl, _, (Im.trans im1 (Im.trans im2 (Im.trans im3 (Im.trans im4 (Im.trans im5 (Im.trans im6 (Im.trans im7 (Im.trans im8 (Im.trans im9 im10))))))))), ⟨rfl, hS10.sel [0] rfl, trivial⟩⟩)

set_option maxRecDepth 100000 in
set_option maxHeartbeats 1000000 in
theorem ref32_Right_sim {g : World} {T0 : Nat → Prop} {w0 : World} {R : Assn} {p0 : GImage} {a1 : Option Addr} {c1 : Nat} {a2 : Option Addr} {c2 : Nat} {r : Bool} (hS : Sep g T0 w0 [R]) (h1 : SlR (rInt .u32) T0 w0 (.slice a1 (List.length p0.Code) c1) p0.Code) (h2 : SlR (rInt .u8) T0 w0 (.slice a2 (List.length p0.Data) c2) p0.Data) (hm : ref32_Right p0 = some r) :
    Calls Try.prog 9 #[.agg #[.slice a1 (List.length p0.Code) c1, .slice a2 (List.length p0.Data) c2, .int .i64 p0.Limit, .int .i64 p0.Notes]] w0 (RetS T0 w0 fun T w v => v = .bool r ∧ Sep g T w [R] ∧ True) := by
  refine enter (args := [.agg #[.slice a1 (List.length p0.Code) c1, .slice a2 (List.length p0.Data) c2, .int .i64 p0.Limit, .int .i64 p0.Notes]]) Try.func9 rfl Try.ntmps9 rfl fun J => ?_
  unfold ref32_Right at hm
  refine sq2 ?_
  refine rg (wl rfl (bxS (cs := [.slice a1 (List.length p0.Code) c1, .slice a2 (List.length p0.Data) c2, .int .i64 p0.Limit, .int .i64 p0.Notes]) rfl rfl hS fun w1 b1 im1 hS1 => ?_))
  refine pv (r_zb rfl) (nil (t_then ?_))
  refine sq2 ?_
  refine rg (pv (r_fa rfl Try.underlying25 rfl Try.sizeOf22 rfl) (pv (r_ld rfl Try.isAgg22 (hS1.cell0 (i := 0) ⟨rfl, rfl⟩ (j := 0) rfl)) (pv (r_ln rfl Try.underlying22) (pv (r_ib rfl rfl rfl) (pv (r_mb rfl) (?_))))))
  rcases Bool.eq_false_or_eq_true (decide (1 ≤ (List.length p0.Code : Int))) with hb1 | hb1
  · have hm := ctrue hb1 hm
    refine gT (d0 := 7) rfl rfl hb1 (pv (r_fa rfl Try.underlying25 rfl Try.sizeOf22 rfl) (gT (d0 := 7) rfl rfl hb1 (pv (r_ld rfl Try.isAgg22 (hS1.cell0 (i := 0) ⟨rfl, rfl⟩ (j := 0) rfl)) (gT (d0 := 7) rfl rfl hb1 (pv (r_ln rfl Try.underlying22) (gT (d0 := 7) rfl rfl hb1 (pv (r_ib rfl rfl rfl) (pv (r_pkt rfl hb1 rfl) (pv (r_mb rfl) (?_))))))))))
    rcases Bool.eq_false_or_eq_true (decide ((List.length p0.Code : Int) ≤ 32768)) with hb2 | hb2
    · have hm := ctrue hb2 hm
      refine gT (d0 := 13) rfl rfl hb2 (pv (r_fa rfl Try.underlying25 rfl Try.sizeOf23 rfl) (gT (d0 := 13) rfl rfl hb2 (pv (r_ld rfl Try.isAgg23 (hS1.cell0 (i := 0) ⟨rfl, rfl⟩ (j := 1) rfl)) (gT (d0 := 13) rfl rfl hb2 (pv (r_ln rfl Try.underlying23) (gT (d0 := 13) rfl rfl hb2 (pv (r_ib rfl rfl rfl) (pv (r_pkt rfl hb2 rfl) (pv (r_mb rfl) (?_))))))))))
      rcases Bool.eq_false_or_eq_true (decide (4 ≤ (List.length p0.Data : Int))) with hb3 | hb3
      · have hm := ctrue hb3 hm
        refine gT (d0 := 19) rfl rfl hb3 (pv (r_fa rfl Try.underlying25 rfl Try.sizeOf23 rfl) (gT (d0 := 19) rfl rfl hb3 (pv (r_ld rfl Try.isAgg23 (hS1.cell0 (i := 0) ⟨rfl, rfl⟩ (j := 1) rfl)) (gT (d0 := 19) rfl rfl hb3 (pv (r_ln rfl Try.underlying23) (gT (d0 := 19) rfl rfl hb3 (pv (r_ib rfl rfl rfl) (pv (r_pkt rfl hb3 rfl) (pv (r_mb rfl) (?_))))))))))
        rcases Bool.eq_false_or_eq_true (decide ((List.length p0.Data : Int) ≤ 65536)) with hb4 | hb4
        · have hm := ctrue hb4 hm
          refine gT (d0 := 25) rfl rfl hb4 (pv (r_fa rfl Try.underlying25 rfl Try.sizeOf3 rfl) (gT (d0 := 25) rfl rfl hb4 (pv (r_ld rfl Try.isAgg3 (hS1.cell0 (i := 0) ⟨rfl, rfl⟩ (j := 2) rfl)) (gT (d0 := 25) rfl rfl hb4 (pv (r_ib rfl rfl rfl) (pv (r_pkt rfl hb4 rfl) (pv (r_mb rfl) (?_))))))))
          rcases Bool.eq_false_or_eq_true (decide (268435456 ≤ p0.Limit)) with hb5 | hb5
          · have hm := ctrue hb5 hm
            refine gT (d0 := 30) rfl rfl hb5 (pv (r_fa rfl Try.underlying25 rfl Try.sizeOf3 rfl) (gT (d0 := 30) rfl rfl hb5 (pv (r_ld rfl Try.isAgg3 (hS1.cell0 (i := 0) ⟨rfl, rfl⟩ (j := 2) rfl)) (gT (d0 := 30) rfl rfl hb5 (pv (r_ib rfl rfl rfl) (gT (d0 := 30) rfl rfl hb5 (pv (r_fa rfl Try.underlying25 rfl Try.sizeOf23 rfl) (gT (d0 := 30) rfl rfl hb5 (pv (r_ld rfl Try.isAgg23 (hS1.cell0 (i := 0) ⟨rfl, rfl⟩ (j := 1) rfl)) (gT (d0 := 30) rfl rfl hb5 (pv (r_ln rfl Try.underlying23) (gT (d0 := 30) rfl rfl hb5 (pv (r_ib rfl rfl rfl) (pv (r_pkt rfl hb5 rfl) (pv (r_mb rfl) (?_))))))))))))))))
            rcases Bool.eq_false_or_eq_true (decide ((IntKind.wrap .i64 (p0.Limit - 268435456)) ≤ (List.length p0.Data : Int))) with hb6 | hb6
            · have hm := ctrue hb6 hm
              refine gT (d0 := 39) rfl rfl hb6 (pv (r_fa rfl Try.underlying25 rfl Try.sizeOf3 rfl) (gT (d0 := 39) rfl rfl hb6 (pv (r_ld rfl Try.isAgg3 (hS1.cell0 (i := 0) ⟨rfl, rfl⟩ (j := 3) rfl)) (gT (d0 := 39) rfl rfl hb6 (pv (r_ib rfl rfl rfl) (pv (r_pkt rfl hb6 rfl) (pv (r_mb rfl) (?_))))))))
              rcases Bool.eq_false_or_eq_true (decide (0 ≤ p0.Notes)) with hb7 | hb7
              · have hm := ctrue hb7 hm
                refine gT (d0 := 44) rfl rfl hb7 (pv (r_fa rfl Try.underlying25 rfl Try.sizeOf3 rfl) (gT (d0 := 44) rfl rfl hb7 (pv (r_ld rfl Try.isAgg3 (hS1.cell0 (i := 0) ⟨rfl, rfl⟩ (j := 3) rfl)) (gT (d0 := 44) rfl rfl hb7 (pv (r_ib rfl rfl rfl) (pv (r_pkt rfl hb7 rfl) (pv (r_zb rfl) (nil (t_thenR [(2, .bool (decide (p0.Notes ≤ 64)))] ⟨rfl, trivial⟩ fun J => ?_)))))))))
                have hm := Option.some.inj hm
                subst hm
                exact rtn (ret1 rfl rfl ⟨_, rfl, _, im1, ⟨rfl, hS1.sel [1] rfl, trivial⟩⟩)
              · have hm := cfalse hb7 hm
                refine gF (d0 := 44) rfl rfl (by rw [hb7]; rfl) (gF (d0 := 44) rfl rfl (by rw [hb7]; rfl) (gF (d0 := 44) rfl rfl (by rw [hb7]; rfl) (pv (r_pkf rfl hb7 rfl) (pv (r_zb rfl) (nil (t_thenR [(2, .bool false)] ⟨rfl, trivial⟩ fun J => ?_))))))
                have hm := Option.some.inj hm
                subst hm
                exact rtn (ret1 rfl rfl ⟨_, rfl, _, im1, ⟨rfl, hS1.sel [1] rfl, trivial⟩⟩)
            · have hm := cfalse hb6 hm
              refine gF (d0 := 39) rfl rfl (by rw [hb6]; rfl) (gF (d0 := 39) rfl rfl (by rw [hb6]; rfl) (gF (d0 := 39) rfl rfl (by rw [hb6]; rfl) (pv (r_pkf rfl hb6 rfl) (pv (r_mb rfl) (gF (d0 := 44) rfl rfl rfl (gF (d0 := 44) rfl rfl rfl (gF (d0 := 44) rfl rfl rfl (pv (r_pkf rfl rfl rfl) (pv (r_zb rfl) (nil (t_thenR [(2, .bool false)] ⟨rfl, trivial⟩ fun J => ?_)))))))))))
              have hm := Option.some.inj hm
              subst hm
              exact rtn (ret1 rfl rfl ⟨_, rfl, _, im1, ⟨rfl, hS1.sel [1] rfl, trivial⟩⟩)
          · have hm := cfalse hb5 hm
            refine gF (d0 := 30) rfl rfl (by rw [hb5]; rfl) (gF (d0 := 30) rfl rfl (by rw [hb5]; rfl) (gF (d0 := 30) rfl rfl (by rw [hb5]; rfl) (gF (d0 := 30) rfl rfl (by rw [hb5]; rfl) (gF (d0 := 30) rfl rfl (by rw [hb5]; rfl) (gF (d0 := 30) rfl rfl (by rw [hb5]; rfl) (gF (d0 := 30) rfl rfl (by rw [hb5]; rfl) (pv (r_pkf rfl hb5 rfl) (pv (r_mb rfl) (gF (d0 := 39) rfl rfl rfl (gF (d0 := 39) rfl rfl rfl (gF (d0 := 39) rfl rfl rfl (pv (r_pkf rfl rfl rfl) (pv (r_mb rfl) (gF (d0 := 44) rfl rfl rfl (gF (d0 := 44) rfl rfl rfl (gF (d0 := 44) rfl rfl rfl (pv (r_pkf rfl rfl rfl) (pv (r_zb rfl) (nil (t_thenR [(2, .bool false)] ⟨rfl, trivial⟩ fun J => ?_))))))))))))))))))))
            have hm := Option.some.inj hm
            subst hm
            exact rtn (ret1 rfl rfl ⟨_, rfl, _, im1, ⟨rfl, hS1.sel [1] rfl, trivial⟩⟩)
        · have hm := cfalse hb4 hm
          refine gF (d0 := 25) rfl rfl (by rw [hb4]; rfl) (gF (d0 := 25) rfl rfl (by rw [hb4]; rfl) (gF (d0 := 25) rfl rfl (by rw [hb4]; rfl) (pv (r_pkf rfl hb4 rfl) (pv (r_mb rfl) (gF (d0 := 30) rfl rfl rfl (gF (d0 := 30) rfl rfl rfl (gF (d0 := 30) rfl rfl rfl (gF (d0 := 30) rfl rfl rfl (gF (d0 := 30) rfl rfl rfl (gF (d0 := 30) rfl rfl rfl (gF (d0 := 30) rfl rfl rfl (pv (r_pkf rfl rfl rfl) (pv (r_mb rfl) (gF (d0 := 39) rfl rfl rfl (gF (d0 := 39) rfl rfl rfl (gF (d0 := 39) rfl rfl rfl (pv (r_pkf rfl rfl rfl) (pv (r_mb rfl) (gF (d0 := 44) rfl rfl rfl (gF (d0 := 44) rfl rfl rfl (gF (d0 := 44) rfl rfl rfl (pv (r_pkf rfl rfl rfl) (pv (r_zb rfl) (nil (t_thenR [(2, .bool false)] ⟨rfl, trivial⟩ fun J => ?_)))))))))))))))))))))))))
          have hm := Option.some.inj hm
          subst hm
          exact rtn (ret1 rfl rfl ⟨_, rfl, _, im1, ⟨rfl, hS1.sel [1] rfl, trivial⟩⟩)
      · have hm := cfalse hb3 hm
        refine gF (d0 := 19) rfl rfl (by rw [hb3]; rfl) (gF (d0 := 19) rfl rfl (by rw [hb3]; rfl) (gF (d0 := 19) rfl rfl (by rw [hb3]; rfl) (gF (d0 := 19) rfl rfl (by rw [hb3]; rfl) (pv (r_pkf rfl hb3 rfl) (pv (r_mb rfl) (gF (d0 := 25) rfl rfl rfl (gF (d0 := 25) rfl rfl rfl (gF (d0 := 25) rfl rfl rfl (pv (r_pkf rfl rfl rfl) (pv (r_mb rfl) (gF (d0 := 30) rfl rfl rfl (gF (d0 := 30) rfl rfl rfl (gF (d0 := 30) rfl rfl rfl (gF (d0 := 30) rfl rfl rfl (gF (d0 := 30) rfl rfl rfl (gF (d0 := 30) rfl rfl rfl (gF (d0 := 30) rfl rfl rfl (pv (r_pkf rfl rfl rfl) (pv (r_mb rfl) (gF (d0 := 39) rfl rfl rfl (gF (d0 := 39) rfl rfl rfl (gF (d0 := 39) rfl rfl rfl (pv (r_pkf rfl rfl rfl) (pv (r_mb rfl) (gF (d0 := 44) rfl rfl rfl (gF (d0 := 44) rfl rfl rfl (gF (d0 := 44) rfl rfl rfl (pv (r_pkf rfl rfl rfl) (pv (r_zb rfl) (nil (t_thenR [(2, .bool false)] ⟨rfl, trivial⟩ fun J => ?_)))))))))))))))))))))))))))))))
        have hm := Option.some.inj hm
        subst hm
        exact rtn (ret1 rfl rfl ⟨_, rfl, _, im1, ⟨rfl, hS1.sel [1] rfl, trivial⟩⟩)
    · have hm := cfalse hb2 hm
      refine gF (d0 := 13) rfl rfl (by rw [hb2]; rfl) (gF (d0 := 13) rfl rfl (by rw [hb2]; rfl) (gF (d0 := 13) rfl rfl (by rw [hb2]; rfl) (gF (d0 := 13) rfl rfl (by rw [hb2]; rfl) (pv (r_pkf rfl hb2 rfl) (pv (r_mb rfl) (gF (d0 := 19) rfl rfl rfl (gF (d0 := 19) rfl rfl rfl (gF (d0 := 19) rfl rfl rfl (gF (d0 := 19) rfl rfl rfl (pv (r_pkf rfl rfl rfl) (pv (r_mb rfl) (gF (d0 := 25) rfl rfl rfl (gF (d0 := 25) rfl rfl rfl (gF (d0 := 25) rfl rfl rfl (pv (r_pkf rfl rfl rfl) (pv (r_mb rfl) (gF (d0 := 30) rfl rfl rfl (gF (d0 := 30) rfl rfl rfl (gF (d0 := 30) rfl rfl rfl (gF (d0 := 30) rfl rfl rfl (gF (d0 := 30) rfl rfl rfl (gF (d0 := 30) rfl rfl rfl (gF (d0 := 30) rfl rfl rfl (pv (r_pkf rfl rfl rfl) (pv (r_mb rfl) (gF (d0 := 39) rfl rfl rfl (gF (d0 := 39) rfl rfl rfl (gF (d0 := 39) rfl rfl rfl (pv (r_pkf rfl rfl rfl) (pv (r_mb rfl) (gF (d0 := 44) rfl rfl rfl (gF (d0 := 44) rfl rfl rfl (gF (d0 := 44) rfl rfl rfl (pv (r_pkf rfl rfl rfl) (pv (r_zb rfl) (nil (t_thenR [(2, .bool false)] ⟨rfl, trivial⟩ fun J => ?_)))))))))))))))))))))))))))))))))))))
      have hm := Option.some.inj hm
      subst hm
      exact rtn (ret1 rfl rfl ⟨_, rfl, _, im1, ⟨rfl, hS1.sel [1] rfl, trivial⟩⟩)
  · have hm := cfalse hb1 hm
    refine gF (d0 := 7) rfl rfl (by rw [hb1]; rfl) (gF (d0 := 7) rfl rfl (by rw [hb1]; rfl) (gF (d0 := 7) rfl rfl (by rw [hb1]; rfl) (gF (d0 := 7) rfl rfl (by rw [hb1]; rfl) (pv (r_pkf rfl hb1 rfl) (pv (r_mb rfl) (gF (d0 := 13) rfl rfl rfl (gF (d0 := 13) rfl rfl rfl (gF (d0 := 13) rfl rfl rfl (gF (d0 := 13) rfl rfl rfl (pv (r_pkf rfl rfl rfl) (pv (r_mb rfl) (gF (d0 := 19) rfl rfl rfl (gF (d0 := 19) rfl rfl rfl (gF (d0 := 19) rfl rfl rfl (gF (d0 := 19) rfl rfl rfl (pv (r_pkf rfl rfl rfl) (pv (r_mb rfl) (gF (d0 := 25) rfl rfl rfl (gF (d0 := 25) rfl rfl rfl (gF (d0 := 25) rfl rfl rfl (pv (r_pkf rfl rfl rfl) (pv (r_mb rfl) (gF (d0 := 30) rfl rfl rfl (gF (d0 := 30) rfl rfl rfl (gF (d0 := 30) rfl rfl rfl (gF (d0 := 30) rfl rfl rfl (gF (d0 := 30) rfl rfl rfl (gF (d0 := 30) rfl rfl rfl (gF (d0 := 30) rfl rfl rfl (pv (r_pkf rfl rfl rfl) (pv (r_mb rfl) (gF (d0 := 39) rfl rfl rfl (gF (d0 := 39) rfl rfl rfl (gF (d0 := 39) rfl rfl rfl (pv (r_pkf rfl rfl rfl) (pv (r_mb rfl) (gF (d0 := 44) rfl rfl rfl (gF (d0 := 44) rfl rfl rfl (gF (d0 := 44) rfl rfl rfl (pv (r_pkf rfl rfl rfl) (pv (r_zb rfl) (nil (t_thenR [(2, .bool false)] ⟨rfl, trivial⟩ fun J => ?_)))))))))))))))))))))))))))))))))))))))))))
    have hm := Option.some.inj hm
    subst hm
    exact rtn (ret1 rfl rfl ⟨_, rfl, _, im1, ⟨rfl, hS1.sel [1] rfl, trivial⟩⟩)

set_option maxRecDepth 100000 in
set_option maxHeartbeats 1000000 in
theorem pack_reader_take_sim {g : World} {T0 : Nat → Prop} {w0 : World} {R : Assn} {p0 : PackReader} {b_p0 o_p0 : Nat} {H_p0 : List Value → Assn} {a1 : Option Addr} {c1 : Nat} {p1 : Int} {r : Except (PackReader) ((List Int) × PackReader)} (hS : Sep g T0 w0 [R, H_p0 [.slice a1 (List.length p0.b) c1]]) (hL_p0 : Ln b_p0 o_p0 H_p0) (h1 : SlR (rInt .u8) T0 w0 (.slice a1 (List.length p0.b) c1) p0.b) (hm : pack_reader_take p0 p1 = some r) :
    Calls Try.prog 27 #[.pointer (some ⟨b_p0, o_p0, none⟩), .int .i64 p1] w0 (exR r (fun r => RetS T0 w0 fun T w v => ∃ (a4 : Option Addr) (c4 : Nat) (a5 : Option Addr) (c5 : Nat), v = .slice a4 (List.length r.1) c4 ∧ Sep g T w [R, H_p0 [.slice a5 (List.length r.2.b) c5]] ∧ SlR (rInt .u8) T w (.slice a4 (List.length r.1) c4) r.1 ∧ SlR (rInt .u8) T w (.slice a5 (List.length r.2.b) c5) r.2.b ∧ True) (fun r => PanS T0 w0 fun T w v => ∃ (t0 : TypeId) (u0 : Value) (a4 : Option Addr) (c4 : Nat), v = .iface t0 u0 ∧ Sep g T w [R, H_p0 [.slice a4 (List.length r.b) c4]] ∧ SlR (rInt .u8) T w (.slice a4 (List.length r.b) c4) r.b ∧ True)) := by
  refine enter (args := [.pointer (some ⟨b_p0, o_p0, none⟩), .int .i64 p1]) Try.func27 rfl Try.ntmps27 rfl fun J => ?_
  unfold pack_reader_take at hm
  refine sq2 ?_
  refine rg (pv (r_zs rfl) (nil (t_then ?_)))
  refine sq2 ?_
  refine sq2 ?_
  refine rg (pv (r_mi rfl) (pv (r_ib rfl rfl rfl) (pv (r_mb rfl) (?_))))
  rcases Bool.eq_false_or_eq_true (decide (p1 < 0)) with hb1 | hb1
  · have hm := ctrue hb1 hm
    refine gF (d0 := 8) rfl rfl (by rw [hb1]; rfl) (gF (d0 := 8) rfl rfl (by rw [hb1]; rfl) (gF (d0 := 8) rfl rfl (by rw [hb1]; rfl) (gF (d0 := 8) rfl rfl (by rw [hb1]; rfl) (gF (d0 := 8) rfl rfl (by rw [hb1]; rfl) (gF (d0 := 8) rfl rfl (by rw [hb1]; rfl) (gF (d0 := 8) rfl rfl (by rw [hb1]; rfl) (pv (r_pkt rfl hb1 rfl) (nil (t_thenR [(0, .pointer (some ⟨b_p0, o_p0, none⟩)), (1, .int .i64 p1), (16, .bool true)] ⟨rfl, rfl, rfl, trivial⟩ fun J => ?_)))))))))
    refine cnd (b := true) rfl (fun _ => ?_) (fun h => nomatch h)
    refine rg (pv (r_bd (by kernel_rfl) rfl (u := .agg #[])) (pv (r_mif rfl Try.underlying62) (wl rfl (panO rfl ?_))))
    have hm := Option.some.inj hm
    subst hm
    exact p_then (panE ⟨_, rfl, _, Im.refl, ⟨_, _, _, _, rfl, hS.sel [0, 1] rfl, h1, trivial⟩⟩)
  · have hm := cfalse hb1 hm
    refine gT (d0 := 8) rfl rfl hb1 (pv (r_mi rfl) (gT (d0 := 8) rfl rfl hb1 (pv (r_mp rfl) (gT (d0 := 8) rfl rfl hb1 (pv (r_nc rfl) (gT (d0 := 8) rfl rfl hb1 (pv (r_fa rfl Try.underlying47 rfl Try.sizeOf23 rfl) (gT (d0 := 8) rfl rfl hb1 (pv (r_ld rfl Try.isAgg23 (hS.cellB (i := 1) ⟨rfl, rfl⟩ hL_p0 (j := 0) rfl)) (gT (d0 := 8) rfl rfl hb1 (pv (r_ln rfl Try.underlying23) (gT (d0 := 8) rfl rfl hb1 (pv (r_ib rfl rfl rfl) (pv (r_pkf rfl hb1 rfl) (nil (t_thenR [(0, .pointer (some ⟨b_p0, o_p0, none⟩)), (1, .int .i64 p1), (16, .bool (decide ((List.length p0.b : Int) < p1)))] ⟨rfl, rfl, rfl, trivial⟩ fun J => ?_))))))))))))))))
    refine cnd rfl (fun hb2 => ?_) (fun hb2 => ?_)
    · have hm := ctrue hb2 hm
      refine rg (pv (r_bd (by kernel_rfl) rfl (u := .agg #[])) (pv (r_mif rfl Try.underlying62) (wl rfl (panO rfl ?_))))
      have hm := Option.some.inj hm
      subst hm
      exact p_then (panE ⟨_, rfl, _, Im.refl, ⟨_, _, _, _, rfl, hS.sel [0, 1] rfl, h1, trivial⟩⟩)
    · have hm := cfalse hb2 hm
      refine skp (t_then ?_)
      refine sq2 ?_
      obtain ⟨u1, hx1, hm⟩ := bindS hm
      obtain ⟨a2, c2, he1, h2⟩ := h1.part hx1
      refine rg (pv (r_mp rfl) (pv (r_nc rfl) (pv (r_fa rfl Try.underlying47 rfl Try.sizeOf23 rfl) (pv (r_ld rfl Try.isAgg23 (hS.cellB (i := 1) ⟨rfl, rfl⟩ hL_p0 (j := 0) rfl)) (pv (r_mi rfl) (pv (r_slR rfl h1 rfl ⟨_, rfl⟩ hx1 Try.underlying23 Try.sizeOf5 rfl he1) (pv (r_zs rfl) (nil (t_thenR [(0, .pointer (some ⟨b_p0, o_p0, none⟩)), (1, .int .i64 p1), (5, .slice a2 (List.length u1) c2)] ⟨rfl, rfl, rfl, trivial⟩ fun J => ?_)))))))))
      refine sq2 ?_
      obtain ⟨u2, hx2, hm⟩ := bindS hm
      obtain ⟨a3, c3, he2, h3⟩ := h1.part hx2
      refine rg (pv (r_mp rfl) (pv (r_mp rfl) (pv (r_nc rfl) (pv (r_fa rfl Try.underlying47 rfl Try.sizeOf23 rfl) (pv (r_ld rfl Try.isAgg23 (hS.cellB (i := 1) ⟨rfl, rfl⟩ hL_p0 (j := 0) rfl)) (pv (r_mi rfl) (pv (r_slR rfl h1 ⟨_, rfl⟩ rfl hx2 Try.underlying23 Try.sizeOf5 rfl he2) (pv (r_nc rfl) (pv (r_fa rfl Try.underlying47 rfl Try.sizeOf23 rfl) (wl rfl (stB (q := 1) (j := 0) hS ⟨rfl, rfl⟩ hL_p0 rfl rfl rfl Try.sizeOf23 rfl rfl rfl fun w1 im1 hS1 => ?_)))))))))))
      have hS1 : Sep g T0 w1 [R, H_p0 [.slice a3 (List.length u2) c3]] := hS1
      refine nil (t_thenR [(5, .slice a2 (List.length u1) c2)] ⟨rfl, trivial⟩ fun J => ?_)
      refine sq2 ?_
      refine rg (pv (r_ms rfl) (pv (r_zs rfl) (nil (t_then ?_))))
      have hm := Option.some.inj hm
      subst hm
      exact rtn (ret1 rfl rfl ⟨_, rfl, _, im1, ⟨_, _, _, _, rfl, hS1.sel [0, 1] rfl, (h2.mono im1), (h3.mono im1), trivial⟩⟩)

set_option maxRecDepth 100000 in
set_option maxHeartbeats 1000000 in
theorem pack_reader_number_sim {g : World} {T0 : Nat → Prop} {w0 : World} {R : Assn} {p0 : PackReader} {b_p0 o_p0 : Nat} {H_p0 : List Value → Assn} {a1 : Option Addr} {c1 : Nat} {r : Except (PackReader) (Int × PackReader)} (hS : Sep g T0 w0 [R, H_p0 [.slice a1 (List.length p0.b) c1]]) (hL_p0 : Ln b_p0 o_p0 H_p0) (h1 : SlR (rInt .u8) T0 w0 (.slice a1 (List.length p0.b) c1) p0.b) (hm : pack_reader_number p0 = some r) :
    Calls Try.prog 29 #[.pointer (some ⟨b_p0, o_p0, none⟩)] w0 (exR r (fun r => RetS T0 w0 fun T w v => ∃ (a5 : Option Addr) (c5 : Nat), v = .int .i64 r.1 ∧ Sep g T w [R, H_p0 [.slice a5 (List.length r.2.b) c5]] ∧ SlR (rInt .u8) T w (.slice a5 (List.length r.2.b) c5) r.2.b ∧ True) (fun r => PanS T0 w0 fun T w v => ∃ (t0 : TypeId) (u0 : Value) (a5 : Option Addr) (c5 : Nat), v = .iface t0 u0 ∧ Sep g T w [R, H_p0 [.slice a5 (List.length r.b) c5]] ∧ SlR (rInt .u8) T w (.slice a5 (List.length r.b) c5) r.b ∧ True)) := by
  refine enter (args := [.pointer (some ⟨b_p0, o_p0, none⟩)]) Try.func29 rfl Try.ntmps29 rfl fun J => ?_
  unfold pack_reader_number at hm
  refine sq2 ?_
  refine rg (pv (r_zi rfl) (nil (t_then ?_)))
  refine sq2 ?_
  refine rg (pv (r_mp rfl) (?_))
  obtain ⟨y1, hx1, hm⟩ := bindS hm
  rcases y1 with e1 | y1
  · have hm := exC_error hm
    refine wl rfl (calP cf27 rfl (pack_reader_take_sim (p0 := p0) (H_p0 := H_p0) (p1 := 4) (hS.bun [0] [1] rfl) hL_p0 h1 hx1) rfl fun v2 T3 w3 im3 rv2 => ?_)
    obtain ⟨t1, u5, a4, c4, rfl, hS3, h4, _⟩ := rv2
    have hS3 : Sep g T3 w3 [R, H_p0 [.slice a4 (List.length e1.b) c4]] := hS3.unb
    have hm := Option.some.inj hm
    subst hm
    exact p_then (panE ⟨_, rfl, _, im3, ⟨_, _, _, _, rfl, hS3.sel [0, 1] rfl, h4, trivial⟩⟩)
  · have hm := exC_ok hm
    refine wl rfl (calS cf27 rfl (pack_reader_take_sim (p0 := p0) (H_p0 := H_p0) (p1 := 4) (hS.bun [0] [1] rfl) hL_p0 h1 hx1) rfl fun v1 T1 w1 im1 rv1 => ?_)
    obtain ⟨a2, c2, a3, c3, rfl, hS1, h2, h3, _⟩ := rv1
    have hS1 : Sep g T1 w1 [R, H_p0 [.slice a3 (List.length y1.2.b) c3]] := hS1.unb
    refine pv (r_zs rfl) (nil (t_then ?_))
    refine sq2 ?_
    obtain ⟨u1, hx2, hm⟩ := bindS hm
    obtain ⟨b1, of1, cs1, k1, cp1, hv1, hp1, hl1, he1, hr1, hc1, hT1⟩ := h2.ixT hx2 rfl
    cases hr1
    obtain ⟨u2, hx3, hm⟩ := bindS hm
    obtain ⟨b2, of2, cs2, k2, cp2, hv2, hp2, hl2, he2, hr2, hc2, hT2⟩ := h2.ixT hx3 rfl
    cases hr2
    obtain ⟨u3, hx4, hm⟩ := bindS hm
    obtain ⟨b3, of3, cs3, k3, cp3, hv3, hp3, hl3, he3, hr3, hc3, hT3⟩ := h2.ixT hx4 rfl
    cases hr3
    obtain ⟨u4, hx5, hm⟩ := bindS hm
    obtain ⟨b4, of4, cs4, k4, cp4, hv4, hp4, hl4, he4, hr4, hc4, hT4⟩ := h2.ixT hx5 rfl
    cases hr4
    refine rq mix (by kernel_rfl) hS1.lt (qv (fun _ hq => r_ms rfl) (qv (fun _ hq => r_ixe hv1 rfl Try.underlying23 Try.sizeOf5 hp1 hl1 he1) (qv (fun _ hq => r_ld rfl Try.isAgg5 (hq.cell (hc1.get (j := 0) rfl))) (qv (fun _ hq => r_cv rfl Try.underlying5 Try.underlying3) (qv (fun _ hq => r_ms rfl) (qv (fun _ hq => r_ixe hv2 rfl Try.underlying23 Try.sizeOf5 hp2 hl2 he2) (qv (fun _ hq => r_ld rfl Try.isAgg5 (hq.cell (hc2.get (j := 0) rfl))) (qv (fun _ hq => r_cv rfl Try.underlying5 Try.underlying3) (qv (fun _ hq => r_ishl rfl rfl (by decide)) (qv (fun _ hq => r_ib rfl rfl rfl) (qv (fun _ hq => r_ms rfl) (qv (fun _ hq => r_ixe hv3 rfl Try.underlying23 Try.sizeOf5 hp3 hl3 he3) (qv (fun _ hq => r_ld rfl Try.isAgg5 (hq.cell (hc3.get (j := 0) rfl))) (qv (fun _ hq => r_cv rfl Try.underlying5 Try.underlying3) (qv (fun _ hq => r_ishl rfl rfl (by decide)) (qv (fun _ hq => r_ib rfl rfl rfl) (qv (fun _ hq => r_ms rfl) (qv (fun _ hq => r_ixe hv4 rfl Try.underlying23 Try.sizeOf5 hp4 hl4 he4) (qv (fun _ hq => r_ld rfl Try.isAgg5 (hq.cell (hc4.get (j := 0) rfl))) (qv (fun _ hq => r_cv rfl Try.underlying5 Try.underlying3) (qv (fun _ hq => r_ishl rfl rfl (by decide)) (qv (fun _ hq => r_ib rfl rfl rfl) (qv (fun _ hq => r_zi rfl) (qn fun w2 T2 i1 => ?_))))))))))))))))))))))))
    have im2 := i1.imm
    have hS2 := hS1.keep i1 (fun _ h => h)
    refine t_thenR [(2, .int .i64 (bits .or .i64 (bits .or .i64 (bits .or .i64 (IntKind.wrap .i64 u1) (IntKind.wrap .i64 ((IntKind.wrap .i64 u2) * 2 ^ (min (Int.toNat 8) (IntKind.bits .i64))))) (IntKind.wrap .i64 ((IntKind.wrap .i64 u3) * 2 ^ (min (Int.toNat 16) (IntKind.bits .i64))))) (IntKind.wrap .i64 ((IntKind.wrap .i64 u4) * 2 ^ (min (Int.toNat 24) (IntKind.bits .i64))))))] ⟨rfl, trivial⟩ fun J => ?_
    have hm := Option.some.inj hm
    subst hm
    exact rtn (ret1 rfl rfl ⟨_, rfl, _, (Im.trans im1 im2), ⟨_, _, rfl, hS2.sel [0, 1] rfl, (h3.mono im2), trivial⟩⟩)

set_option maxRecDepth 100000 in
set_option maxHeartbeats 1000000 in
theorem pack_reader_most_sim {g : World} {T0 : Nat → Prop} {w0 : World} {R : Assn} {p0 : PackReader} {b_p0 o_p0 : Nat} {H_p0 : List Value → Assn} {a1 : Option Addr} {c1 : Nat} {p1 : Int} {r : Except (PackReader) (Int × PackReader)} (hS : Sep g T0 w0 [R, H_p0 [.slice a1 (List.length p0.b) c1]]) (hL_p0 : Ln b_p0 o_p0 H_p0) (h1 : SlR (rInt .u8) T0 w0 (.slice a1 (List.length p0.b) c1) p0.b) (hm : pack_reader_most p0 p1 = some r) :
    Calls Try.prog 28 #[.pointer (some ⟨b_p0, o_p0, none⟩), .int .i64 p1] w0 (exR r (fun r => RetS T0 w0 fun T w v => ∃ (a4 : Option Addr) (c4 : Nat), v = .int .i64 r.1 ∧ Sep g T w [R, H_p0 [.slice a4 (List.length r.2.b) c4]] ∧ SlR (rInt .u8) T w (.slice a4 (List.length r.2.b) c4) r.2.b ∧ True) (fun r => PanS T0 w0 fun T w v => ∃ (t0 : TypeId) (u0 : Value) (a4 : Option Addr) (c4 : Nat), v = .iface t0 u0 ∧ Sep g T w [R, H_p0 [.slice a4 (List.length r.b) c4]] ∧ SlR (rInt .u8) T w (.slice a4 (List.length r.b) c4) r.b ∧ True)) := by
  refine enter (args := [.pointer (some ⟨b_p0, o_p0, none⟩), .int .i64 p1]) Try.func28 rfl Try.ntmps28 rfl fun J => ?_
  unfold pack_reader_most at hm
  refine sq2 ?_
  refine rg (pv (r_zi rfl) (nil (t_then ?_)))
  refine sq2 ?_
  refine rg (pv (r_mp rfl) (?_))
  obtain ⟨y1, hx1, hm⟩ := bindS hm
  rcases y1 with e1 | y1
  · have hm := exC_error hm
    refine wl rfl (calP cf29 rfl (pack_reader_number_sim (p0 := p0) (H_p0 := H_p0) (hS.bun [0] [1] rfl) hL_p0 h1 hx1) rfl fun v2 T2 w2 im2 rv2 => ?_)
    obtain ⟨t1, u1, a3, c3, rfl, hS2, h3, _⟩ := rv2
    have hS2 : Sep g T2 w2 [R, H_p0 [.slice a3 (List.length e1.b) c3]] := hS2.unb
    have hm := Option.some.inj hm
    subst hm
    exact p_then (panE ⟨_, rfl, _, im2, ⟨_, _, _, _, rfl, hS2.sel [0, 1] rfl, h3, trivial⟩⟩)
  · have hm := exC_ok hm
    refine wl rfl (calS cf29 rfl (pack_reader_number_sim (p0 := p0) (H_p0 := H_p0) (hS.bun [0] [1] rfl) hL_p0 h1 hx1) rfl fun v1 T1 w1 im1 rv1 => ?_)
    obtain ⟨a2, c2, rfl, hS1, h2, _⟩ := rv1
    have hS1 : Sep g T1 w1 [R, H_p0 [.slice a2 (List.length y1.2.b) c2]] := hS1.unb
    refine pv (r_zi rfl) (nil (t_then ?_))
    refine sq2 ?_
    refine sq2 ?_
    refine rg (pv (r_mi rfl) (pv (r_mi rfl) (pv (r_ib rfl rfl rfl) (nil (t_thenR [(5, .int .i64 y1.1), (10, .bool (decide (p1 < y1.1)))] ⟨rfl, rfl, trivial⟩ fun J => ?_)))))
    refine cnd rfl (fun hb1 => ?_) (fun hb1 => ?_)
    · have hm := ctrue hb1 hm
      refine rg (pv (r_bd (by kernel_rfl) rfl (u := .agg #[])) (pv (r_mif rfl Try.underlying62) (wl rfl (panO rfl ?_))))
      have hm := Option.some.inj hm
      subst hm
      exact p_then (panE ⟨_, rfl, _, im1, ⟨_, _, _, _, rfl, hS1.sel [0, 1] rfl, h2, trivial⟩⟩)
    · have hm := cfalse hb1 hm
      refine skp (t_then ?_)
      refine sq2 ?_
      refine rg (pv (r_mi rfl) (pv (r_zi rfl) (nil (t_then ?_))))
      have hm := Option.some.inj hm
      subst hm
      exact rtn (ret1 rfl rfl ⟨_, rfl, _, im1, ⟨_, _, rfl, hS1.sel [0, 1] rfl, h2, trivial⟩⟩)

set_option maxRecDepth 100000 in
set_option maxHeartbeats 1000000 in
theorem pack_reader_data_sim {g : World} {T0 : Nat → Prop} {w0 : World} {R : Assn} {p0 : PackReader} {b_p0 o_p0 : Nat} {H_p0 : List Value → Assn} {a1 : Option Addr} {c1 : Nat} {p1 : Int} {r : Except (PackReader) ((List Int) × PackReader)} (hS : Sep g T0 w0 [R, H_p0 [.slice a1 (List.length p0.b) c1]]) (hL_p0 : Ln b_p0 o_p0 H_p0) (h1 : SlR (rInt .u8) T0 w0 (.slice a1 (List.length p0.b) c1) p0.b) (hm : pack_reader_data p0 p1 = some r) :
    Calls Try.prog 30 #[.pointer (some ⟨b_p0, o_p0, none⟩), .int .i64 p1] w0 (exR r (fun r => RetS T0 w0 fun T w v => ∃ (a14 : Option Addr) (n5 : Nat) (c14 : Nat) (a15 : Option Addr) (c15 : Nat), v = .slice a14 n5 c14 ∧ Sep g T w [R, H_p0 [.slice a15 (List.length r.2.b) c15], ownA (rInt .u8) 5 (.slice a14 n5 c14) r.1] ∧ SlR (rInt .u8) T w (.slice a15 (List.length r.2.b) c15) r.2.b ∧ True) (fun r => PanS T0 w0 fun T w v => ∃ (t0 : TypeId) (u0 : Value) (a14 : Option Addr) (c14 : Nat), v = .iface t0 u0 ∧ Sep g T w [R, H_p0 [.slice a14 (List.length r.b) c14]] ∧ SlR (rInt .u8) T w (.slice a14 (List.length r.b) c14) r.b ∧ True)) := by
  refine enter (args := [.pointer (some ⟨b_p0, o_p0, none⟩), .int .i64 p1]) Try.func30 rfl Try.ntmps30 rfl fun J => ?_
  unfold pack_reader_data at hm
  refine sq2 ?_
  refine rg (pv (r_zs rfl) (nil (t_then ?_)))
  refine sq2 ?_
  refine rg (pv (r_zs rfl) (nil (t_then ?_)))
  refine sq2 ?_
  obtain ⟨o1, ho1, hq1⟩ := bindS hm
  obtain ⟨bd1, hbd1, ho1⟩ := loop_open ho1
  have hS1 := hS.nilO (rInt .u8) 5
  refine blk (wp_loop_ghost (fun m a w1 => ∃ (J : Nat → Value) (T1 : Nat → Prop) (x2 : PackReader) (x1 : List Int) (a2 : Option Addr) (n1 : Nat) (c2 : Nat) (a3 : Option Addr) (c3 : Nat), a = env (nf 43) J [(0, .pointer (some ⟨b_p0, o_p0, none⟩)), (1, .int .i64 p1), (5, .slice a2 n1 c2)] ∧ Im T0 w0 T1 w1 ∧ Sep g T1 w1 [ownA (rInt .u8) 5 (.slice a2 n1 c2) x1, R, H_p0 [.slice a3 (List.length x2.b) c3]] ∧ SlR (rInt .u8) T1 w1 (.slice a3 (List.length x2.b) c3) x2.b ∧ loopM bd1 m (x1, x2) = some o1) NN ⟨_, _, p0, [], _, _, _, _, _, env_has ⟨rfl, rfl, rfl, trivial⟩, Im.refl, hS1.sel [0, 1, 2] rfl, h1, ho1⟩ ?_)
  rintro m _ w1 ⟨J, T1, x2, x1, a2, n1, c2, a3, c3, rfl, im1, hS2, h2, ho1⟩
  obtain ⟨m1, z1, rfl, hm, hn1⟩ := loop_round ho1
  rw [hbd1] at hm
  refine sq2 ?_
  refine sq2 ?_
  refine rg (pv (r_ms rfl) (pv (r_lnV rfl (hS2.own (i := 0) ⟨rfl, rfl⟩).v Try.underlying23) (pv (r_mi rfl) (pv (r_ib rfl rfl rfl) (nil (t_then ?_))))))
  refine cnd rfl (fun hb1 => ?_) (fun hb1 => ?_)
  · have hm := ctrue hb1 hm
    refine skp (t_then ?_)
    refine blk ?_
    obtain ⟨kk1, hkk1, hm⟩ := jn_open hm
    refine cut (fun a w2 => ∃ (J : Nat → Value) (T2 : Nat → Prop) (x4 : PackReader) (x3 : List Int) (a4 : Option Addr) (n2 : Nat) (c4 : Nat) (a5 : Option Addr) (c5 : Nat), a = env (nf 43) J [(0, .pointer (some ⟨b_p0, o_p0, none⟩)), (1, .int .i64 p1), (5, .slice a4 n2 c4)] ∧ Im T1 w1 T2 w2 ∧ Sep g T2 w2 [ownA (rInt .u8) 5 (.slice a4 n2 c4) x3, R, H_p0 [.slice a5 (List.length x4.b) c5]] ∧ SlR (rInt .u8) T2 w2 (.slice a5 (List.length x4.b) c5) x4.b ∧ kk1 x3 x4 = some z1) ?_ ?_
    · refine sq2 ?_
      refine rg (pv (r_mp rfl) (?_))
      obtain ⟨y1, hx1, hm⟩ := bindS hm
      rcases y1 with e2 | y1
      · have hm := exC_error hm
        refine wl rfl (calP cf27 rfl (pack_reader_take_sim (p0 := x2) (H_p0 := H_p0) (p1 := 1) (hS2.bun [0, 1] [2] rfl) hL_p0 h2 hx1) rfl fun v4 T6 w8 im8 rv4 => ?_)
        obtain ⟨t2, u3, a13, c13, rfl, hS8, h9, _⟩ := rv4
        have hS8 : Sep g T6 w8 [ownA (rInt .u8) 5 (.slice a2 n1 c2) x1, R, H_p0 [.slice a13 (List.length e2.b) c13]] := hS8.unb
        have hm := Option.some.inj hm
        subst hm
        have hn1 : _ = Lp.ret _ := hn1
        subst hn1
        have hm := thn_ret hq1
        have hm := Option.some.inj hm
        subst hm
        exact p_then (p_then (p_blk (p_then (p_blk (p_then (panE ⟨_, rfl, _, (Im.trans im1 im8), ⟨_, _, _, _, rfl, hS8.sel [1, 2] rfl, h9, trivial⟩⟩))))))
      · have hm := exC_ok hm
        refine wl rfl (calS cf27 rfl (pack_reader_take_sim (p0 := x2) (H_p0 := H_p0) (p1 := 1) (hS2.bun [0, 1] [2] rfl) hL_p0 h2 hx1) rfl fun v1 T3 w3 im3 rv1 => ?_)
        obtain ⟨a6, c6, a7, c7, rfl, hS3, h4, h5, _⟩ := rv1
        have hS3 : Sep g T3 w3 [ownA (rInt .u8) 5 (.slice a2 n1 c2) x1, R, H_p0 [.slice a7 (List.length y1.2.b) c7]] := hS3.unb
        obtain ⟨u1, hx2, hm⟩ := bindS hm
        obtain ⟨b1, of1, cs1, k1, cp1, hv1, hp1, hl1, he1, hr1, hc1, hT1⟩ := h4.ixT hx2 rfl
        cases hr1
        refine pv (r_ixe hv1 rfl Try.underlying23 Try.sizeOf5 hp1 hl1 he1) (pv (r_ld rfl Try.isAgg5 (hc1.get (j := 0) rfl)) (pv (r_cv rfl Try.underlying5 Try.underlying3) (pv (r_zi rfl) (nil (t_thenR [(0, .pointer (some ⟨b_p0, o_p0, none⟩)), (1, .int .i64 p1), (5, .slice a2 n1 c2), (6, .int .i64 (IntKind.wrap .i64 u1))] ⟨rfl, rfl, rfl, rfl, trivial⟩ fun J => ?_)))))
        refine blk ?_
        refine sq2 ?_
        refine rg (pv (r_mi rfl) (pv (r_ib rfl rfl rfl) (pv (r_zb rfl) (nil (t_then ?_)))))
        refine cnd rfl (fun hb2 => ?_) (fun hb2 => ?_)
        · have hm := ctrue hb2 hm
          obtain ⟨z_1, hnn1, hm⟩ := bindS hm
          obtain ⟨z_2, hro1, hm⟩ := bindS hm
          refine rg (pv (r_ms rfl) (pv (r_mi rfl) (pv (r_ib rfl rfl rfl) (wl rfl (apZ (q := 0) (l := x1) (z0 := 0) hS3 ⟨rfl, rfl⟩ rfl rfl (nn_some hnn1) Try.underlying23 Try.underlying3 el5 rfl Try.zeroValue5 rfl rfl (fun _ _ => rfl) (room_some hro1) fun w4 a8 n3 c8 im4 hS4 => ?_)))))
          have hS4 : Sep g T3 w4 [ownA (rInt .u8) 5 (.slice a8 n3 c8) (x1 ++ List.replicate (Int.toNat (IntKind.wrap .i64 ((IntKind.wrap .i64 u1) - 127))) 0), R, H_p0 [.slice a7 (List.length y1.2.b) c7]] := hS4
          exact pv (r_zs rfl) (nil (t_blk (t_then ⟨_, _, y1.2, (x1 ++ List.replicate (Int.toNat (IntKind.wrap .i64 ((IntKind.wrap .i64 u1) - 127))) 0), _, _, _, _, _, env_has ⟨rfl, rfl, rfl, trivial⟩, (Im.trans im3 im4), hS4.sel [0, 1, 2] rfl, (h5.mono im4), hm⟩)))
        · have hm := cfalse hb2 hm
          refine rg (pv (r_ms rfl) (pv (r_mp rfl) (pv (r_mi rfl) (?_))))
          obtain ⟨y2, hx3, hm⟩ := bindS hm
          rcases y2 with e1 | y2
          · have hm := exC_error hm
            refine wl rfl (calP cf27 rfl (pack_reader_take_sim (p0 := y1.2) (H_p0 := H_p0) (p1 := IntKind.wrap .i64 u1) (hS3.bun [0, 1] [2] rfl) hL_p0 h5 hx3) rfl fun v3 T5 w7 im7 rv3 => ?_)
            obtain ⟨t1, u2, a12, c12, rfl, hS7, h8, _⟩ := rv3
            have hS7 : Sep g T5 w7 [ownA (rInt .u8) 5 (.slice a2 n1 c2) x1, R, H_p0 [.slice a12 (List.length e1.b) c12]] := hS7.unb
            have hm := Option.some.inj hm
            subst hm
            have hn1 : _ = Lp.ret _ := hn1
            subst hn1
            have hm := thn_ret hq1
            have hm := Option.some.inj hm
            subst hm
            exact p_blk (p_then (p_blk (p_then (p_blk (p_then (panE ⟨_, rfl, _, (Im.trans im1 (Im.trans im3 im7)), ⟨_, _, _, _, rfl, hS7.sel [1, 2] rfl, h8, trivial⟩⟩))))))
          · have hm := exC_ok hm
            refine wl rfl (calS cf27 rfl (pack_reader_take_sim (p0 := y1.2) (H_p0 := H_p0) (p1 := IntKind.wrap .i64 u1) (hS3.bun [0, 1] [2] rfl) hL_p0 h5 hx3) rfl fun v2 T4 w5 im5 rv2 => ?_)
            obtain ⟨a9, c9, a10, c10, rfl, hS5, h6, h7, _⟩ := rv2
            have hS5 : Sep g T4 w5 [ownA (rInt .u8) 5 (.slice a2 n1 c2) x1, R, H_p0 [.slice a10 (List.length y2.2.b) c10]] := hS5.unb
            obtain ⟨z_3, hro2, hm⟩ := bindS hm
            refine wl rfl (apO (q := 0) (l := x1) (us := y2.1) hS5 ⟨rfl, rfl⟩ rfl rfl h6.v Try.underlying23 el5 (room_some hro2) fun w6 a11 n4 c11 im6 hS6 => ?_)
            have hS6 : Sep g T4 w6 [ownA (rInt .u8) 5 (.slice a11 n4 c11) (x1 ++ y2.1), R, H_p0 [.slice a10 (List.length y2.2.b) c10]] := hS6
            exact pv (r_zs rfl) (nil (t_blk (t_then ⟨_, _, y2.2, (x1 ++ y2.1), _, _, _, _, _, env_has ⟨rfl, rfl, rfl, trivial⟩, (Im.trans im3 (Im.trans im5 im6)), hS6.sel [0, 1, 2] rfl, (h7.mono im6), hm⟩)))
    · rintro _ w2 ⟨J, T2, x4, x3, a4, n2, c4, a5, c5, rfl, im2, hS9, h3, hm⟩
      rw [hkk1] at hm
      refine sq2 ?_
      refine rg (pv (r_mp rfl) (pv (r_nc rfl) (pv (r_fa rfl Try.underlying47 rfl Try.sizeOf23 rfl) (pv (r_ld rfl Try.isAgg23 (hS9.cellB (i := 2) ⟨rfl, rfl⟩ hL_p0 (j := 0) rfl)) (pv (r_ln rfl Try.underlying23) (pv (r_ib rfl rfl rfl) (pv (r_mb rfl) (?_))))))))
      rcases Bool.eq_false_or_eq_true ((List.length x4.b : Int) == 0) with hb3 | hb3
      · have hm := ctrue hb3 hm
        refine gT (d0 := 34) rfl rfl hb3 (pv (r_ms rfl) (gT (d0 := 34) rfl rfl hb3 (pv (r_lnV rfl (hS9.own (i := 0) ⟨rfl, rfl⟩).v Try.underlying23) (gT (d0 := 34) rfl rfl hb3 (pv (r_mi rfl) (gT (d0 := 34) rfl rfl hb3 (pv (r_ib rfl rfl rfl) (pv (r_pkt rfl hb3 rfl) (nil (t_thenR [(0, .pointer (some ⟨b_p0, o_p0, none⟩)), (1, .int .i64 p1), (5, .slice a4 n2 c4), (39, .bool (decide ((List.length x3 : Int) < p1)))] ⟨rfl, rfl, rfl, rfl, trivial⟩ fun J => ?_))))))))))
        refine cnd rfl (fun hb4 => ?_) (fun hb4 => ?_)
        · have hm := ctrue hb4 hm
          refine rg (pv (r_bd (by kernel_rfl) rfl (u := .agg #[])) (pv (r_mif rfl Try.underlying62) (wl rfl (panO rfl ?_))))
          have hm := Option.some.inj hm
          subst hm
          have hn1 : _ = Lp.ret _ := hn1
          subst hn1
          have hm := thn_ret hq1
          have hm := Option.some.inj hm
          subst hm
          exact p_blk (p_then (p_blk (p_then (panE ⟨_, rfl, _, (Im.trans im1 im2), ⟨_, _, _, _, rfl, hS9.sel [1, 2] rfl, h3, trivial⟩⟩))))
        · have hm := cfalse hb4 hm
          have hm := Option.some.inj hm
          subst hm
          exact skp (t_blk (t_then ⟨m1, Nat.lt_succ_self _, _, _, x4, x3, _, _, _, _, _, env_has ⟨rfl, rfl, rfl, trivial⟩, (Im.trans im1 im2), hS9.sel [0, 1, 2] rfl, h3, hn1⟩))
      · have hm := cfalse hb3 hm
        refine gF (d0 := 34) rfl rfl (by rw [hb3]; rfl) (gF (d0 := 34) rfl rfl (by rw [hb3]; rfl) (gF (d0 := 34) rfl rfl (by rw [hb3]; rfl) (gF (d0 := 34) rfl rfl (by rw [hb3]; rfl) (pv (r_pkf rfl hb3 rfl) (nil (t_thenR [(0, .pointer (some ⟨b_p0, o_p0, none⟩)), (1, .int .i64 p1), (5, .slice a4 n2 c4), (39, .bool false)] ⟨rfl, rfl, rfl, rfl, trivial⟩ fun J => ?_))))))
        refine cnd (b := false) rfl (fun h => nomatch h) (fun _ => ?_)
        have hm := Option.some.inj hm
        subst hm
        exact skp (t_blk (t_then ⟨m1, Nat.lt_succ_self _, _, _, x4, x3, _, _, _, _, _, env_has ⟨rfl, rfl, rfl, trivial⟩, (Im.trans im1 im2), hS9.sel [0, 1, 2] rfl, h3, hn1⟩))
  · have hm := cfalse hb1 hm
    have hm := Option.some.inj hm
    subst hm
    have hn1 : _ = Lp.brk _ := hn1
    subst hn1
    have hm := thn_brk hq1
    refine xt (x_then (x_then (x_eq (t_thenR [(5, .slice a2 n1 c2)] ⟨rfl, trivial⟩ fun J => ?_))))
    refine sq2 ?_
    refine rg (pv (r_ms rfl) (pv (r_zs rfl) (nil (t_then ?_))))
    have hm := Option.some.inj hm
    subst hm
    exact rtn (ret1 rfl rfl ⟨_, rfl, _, im1, ⟨_, _, _, _, _, rfl, hS2.sel [1, 2, 0] rfl, h2, trivial⟩⟩)

set_option maxRecDepth 100000 in
set_option maxHeartbeats 1000000 in
theorem pack_reader_read_sim {g : World} {T0 : Nat → Prop} {w0 : World} {R : Assn} {p0 : PackReader} {b_p0 o_p0 : Nat} {H_p0 : List Value → Assn} {a1 : Option Addr} {c1 : Nat} {r : GImage × Bool × PackReader} (hS : Sep g T0 w0 [R, H_p0 [.slice a1 (List.length p0.b) c1]]) (hL_p0 : Ln b_p0 o_p0 H_p0) (h1 : SlR (rInt .u8) T0 w0 (.slice a1 (List.length p0.b) c1) p0.b) (hm : pack_reader_read p0 = some r) :
    Calls Try.prog 18 #[.pointer (some ⟨b_p0, o_p0, none⟩)] w0 (RetS T0 w0 fun T w v => ∃ (a23 : Option Addr) (c23 : Nat) (a24 : Option Addr) (c24 : Nat) (a25 : Option Addr) (c25 : Nat), v = .tuple #[.agg #[.slice a23 (List.length r.1.Code) c23, .slice a24 (List.length r.1.Data) c24, .int .i64 r.1.Limit, .int .i64 r.1.Notes], .bool r.2.1] ∧ Sep g T w [R, H_p0 [.slice a25 (List.length r.2.2.b) c25]] ∧ SlR (rInt .u32) T w (.slice a23 (List.length r.1.Code) c23) r.1.Code ∧ SlR (rInt .u8) T w (.slice a24 (List.length r.1.Data) c24) r.1.Data ∧ SlR (rInt .u8) T w (.slice a25 (List.length r.2.2.b) c25) r.2.2.b ∧ True) := by
  refine enterD (args := [.pointer (some ⟨b_p0, o_p0, none⟩)]) Try.func18 rfl Try.ntmps18 rfl fun J => ?_
  unfold pack_reader_read at hm
  refine sq2 ?_
  refine rg (wl rfl (alS (zs := [.slice none 0 0, .slice none 0 0, .int .i64 0, .int .i64 0]) Try.zeroValue25 rfl hS fun w1 b1 im1 hS1 => ?_))
  refine wl rfl (alS (zs := [.bool false]) Try.zeroValue4 rfl hS1 fun w2 b2 im2 hS2 => ?_)
  refine nil (t_then ?_)
  refine sq2 ?_
  refine rg (pv (r_mkf (u := .func (.func 26) #[] #[.pointer (some ⟨b1, 0, none⟩), .pointer (some ⟨b2, 0, none⟩)]) rfl) (wl rfl (dfO (f := 26) (cap := #[.pointer (some ⟨b1, 0, none⟩), .pointer (some ⟨b2, 0, none⟩)]) rfl ?_)))
  refine nil (t_then ?_)
  refine sq2 ?_
  refine rg (pv (r_mp rfl) (?_))
  obtain ⟨y1, hx1, hm⟩ := bindS hm
  rcases y1 with e7 | y1
  · have hm := exC_error hm
    refine wl rfl (calP cf27 rfl (pack_reader_take_sim (p0 := p0) (H_p0 := H_p0) (p1 := 4) (hS2.bun [0, 1, 2] [3] rfl) hL_p0 (h1.mono (Im.trans im1 im2)) hx1) rfl fun v14 T17 w38 im40 rv14 => ?_)
    obtain ⟨t7, u7, a22, c22, rfl, hS41, h20, _⟩ := rv14
    have hS41 : Sep g T17 w38 [boxA b2 [.bool false], boxA b1 [.slice none 0 0, .slice none 0 0, .int .i64 0, .int .i64 0], R, H_p0 [.slice a22 (List.length e7.b) c22]] := hS41.unb
    refine p_then (panD cf26 (recP (args := [.pointer (some ⟨b1, 0, none⟩), .pointer (some ⟨b2, 0, none⟩)]) Try.func26 rfl Try.ntmps26 rfl rfl (by kernel_rfl) rfl rfl fun J => ?_))
    refine rg (pv (r_bd (by kernel_rfl) rfl (u := .agg #[.slice none 0 0, .slice none 0 0, .int .i64 0, .int .i64 0])) (wl rfl (st0B (q := 1) hS41 ⟨rfl, rfl⟩ rfl rfl rfl Try.sizeOf25 rfl rfl rfl fun w39 im41 hS42 => ?_)))
    have hS42 : Sep g T17 w39 [boxA b2 [.bool false], boxA b1 [.slice none 0 0, .slice none 0 0, .int .i64 0, .int .i64 0], R, H_p0 [.slice a22 (List.length e7.b) c22]] := hS42
    refine wl rfl (st0B (q := 0) hS42 ⟨rfl, rfl⟩ rfl rfl rfl Try.sizeOf4 rfl rfl rfl fun w40 im42 hS43 => ?_)
    have hS43 : Sep g T17 w40 [boxA b2 [.bool false], boxA b1 [.slice none 0 0, .slice none 0 0, .int .i64 0, .int .i64 0], R, H_p0 [.slice a22 (List.length e7.b) c22]] := hS43
    have hm := Option.some.inj hm
    subst hm
    exact nil (endO rfl ⟨_, resN (vs := [.agg #[.slice none 0 0, .slice none 0 0, .int .i64 0, .int .i64 0], .bool false]) rfl ⟨rvS rfl Try.isAgg25 Try.sizeOf25 rfl (hS43.bx (i := 1) ⟨rfl, rfl⟩), rv1 rfl Try.isAgg4 (hS43.bx (i := 0) ⟨rfl, rfl⟩), trivial⟩ rfl, ⟨_, rfl, _, (Im.trans im1 (Im.trans im2 (Im.trans im40 (Im.trans im41 im42)))), ⟨_, _, _, _, _, _, rfl, hS43.sel [2, 3] rfl, SlR_nil, SlR_nil, (h20.mono (Im.trans im41 im42)), trivial⟩⟩⟩)
  · have hm := exC_ok hm
    refine wl rfl (calS cf27 rfl (pack_reader_take_sim (p0 := p0) (H_p0 := H_p0) (p1 := 4) (hS2.bun [0, 1, 2] [3] rfl) hL_p0 (h1.mono (Im.trans im1 im2)) hx1) rfl fun v1 T1 w3 im3 rv1 => ?_)
    obtain ⟨a2, c2, a3, c3, rfl, hS3, h2, h3, _⟩ := rv1
    have hS3 : Sep g T1 w3 [boxA b2 [.bool false], boxA b1 [.slice none 0 0, .slice none 0 0, .int .i64 0, .int .i64 0], R, H_p0 [.slice a3 (List.length y1.2.b) c3]] := hS3.unb
    refine nil (t_then ?_)
    refine sq2 ?_
    refine rg (pv (r_mp rfl) (?_))
    obtain ⟨y2, hx2, hm⟩ := bindS hm
    rcases y2 with e6 | y2
    · have hm := exC_error hm
      refine wl rfl (calP cf28 rfl (pack_reader_most_sim (p0 := y1.2) (H_p0 := H_p0) (p1 := 32768) (hS3.bun [0, 1, 2] [3] rfl) hL_p0 h3 hx2) rfl fun v13 T16 w35 im37 rv13 => ?_)
      obtain ⟨t6, u6, a21, c21, rfl, hS38, h19, _⟩ := rv13
      have hS38 : Sep g T16 w35 [boxA b2 [.bool false], boxA b1 [.slice none 0 0, .slice none 0 0, .int .i64 0, .int .i64 0], R, H_p0 [.slice a21 (List.length e6.b) c21]] := hS38.unb
      refine p_then (panD cf26 (recP (args := [.pointer (some ⟨b1, 0, none⟩), .pointer (some ⟨b2, 0, none⟩)]) Try.func26 rfl Try.ntmps26 rfl rfl (by kernel_rfl) rfl rfl fun J => ?_))
      refine rg (pv (r_bd (by kernel_rfl) rfl (u := .agg #[.slice none 0 0, .slice none 0 0, .int .i64 0, .int .i64 0])) (wl rfl (st0B (q := 1) hS38 ⟨rfl, rfl⟩ rfl rfl rfl Try.sizeOf25 rfl rfl rfl fun w36 im38 hS39 => ?_)))
      have hS39 : Sep g T16 w36 [boxA b2 [.bool false], boxA b1 [.slice none 0 0, .slice none 0 0, .int .i64 0, .int .i64 0], R, H_p0 [.slice a21 (List.length e6.b) c21]] := hS39
      refine wl rfl (st0B (q := 0) hS39 ⟨rfl, rfl⟩ rfl rfl rfl Try.sizeOf4 rfl rfl rfl fun w37 im39 hS40 => ?_)
      have hS40 : Sep g T16 w37 [boxA b2 [.bool false], boxA b1 [.slice none 0 0, .slice none 0 0, .int .i64 0, .int .i64 0], R, H_p0 [.slice a21 (List.length e6.b) c21]] := hS40
      have hm := Option.some.inj hm
      subst hm
      exact nil (endO rfl ⟨_, resN (vs := [.agg #[.slice none 0 0, .slice none 0 0, .int .i64 0, .int .i64 0], .bool false]) rfl ⟨rvS rfl Try.isAgg25 Try.sizeOf25 rfl (hS40.bx (i := 1) ⟨rfl, rfl⟩), rv1 rfl Try.isAgg4 (hS40.bx (i := 0) ⟨rfl, rfl⟩), trivial⟩ rfl, ⟨_, rfl, _, (Im.trans im1 (Im.trans im2 (Im.trans im3 (Im.trans im37 (Im.trans im38 im39))))), ⟨_, _, _, _, _, _, rfl, hS40.sel [2, 3] rfl, SlR_nil, SlR_nil, (h19.mono (Im.trans im38 im39)), trivial⟩⟩⟩)
    · have hm := exC_ok hm
      refine wl rfl (calS cf28 rfl (pack_reader_most_sim (p0 := y1.2) (H_p0 := H_p0) (p1 := 32768) (hS3.bun [0, 1, 2] [3] rfl) hL_p0 h3 hx2) rfl fun v2 T2 w4 im4 rv2 => ?_)
      obtain ⟨a4, c4, rfl, hS4, h4, _⟩ := rv2
      have hS4 : Sep g T2 w4 [boxA b2 [.bool false], boxA b1 [.slice none 0 0, .slice none 0 0, .int .i64 0, .int .i64 0], R, H_p0 [.slice a4 (List.length y2.2.b) c4]] := hS4.unb
      refine pv (r_mp rfl) (?_)
      obtain ⟨y3, hx3, hm⟩ := bindS hm
      rcases y3 with e5 | y3
      · have hm := exC_error hm
        refine wl rfl (calP cf28 rfl (pack_reader_most_sim (p0 := y2.2) (H_p0 := H_p0) (p1 := 65536) (hS4.bun [0, 1, 2] [3] rfl) hL_p0 h4 hx3) rfl fun v12 T15 w32 im34 rv12 => ?_)
        obtain ⟨t5, u5, a20, c20, rfl, hS35, h18, _⟩ := rv12
        have hS35 : Sep g T15 w32 [boxA b2 [.bool false], boxA b1 [.slice none 0 0, .slice none 0 0, .int .i64 0, .int .i64 0], R, H_p0 [.slice a20 (List.length e5.b) c20]] := hS35.unb
        refine p_then (panD cf26 (recP (args := [.pointer (some ⟨b1, 0, none⟩), .pointer (some ⟨b2, 0, none⟩)]) Try.func26 rfl Try.ntmps26 rfl rfl (by kernel_rfl) rfl rfl fun J => ?_))
        refine rg (pv (r_bd (by kernel_rfl) rfl (u := .agg #[.slice none 0 0, .slice none 0 0, .int .i64 0, .int .i64 0])) (wl rfl (st0B (q := 1) hS35 ⟨rfl, rfl⟩ rfl rfl rfl Try.sizeOf25 rfl rfl rfl fun w33 im35 hS36 => ?_)))
        have hS36 : Sep g T15 w33 [boxA b2 [.bool false], boxA b1 [.slice none 0 0, .slice none 0 0, .int .i64 0, .int .i64 0], R, H_p0 [.slice a20 (List.length e5.b) c20]] := hS36
        refine wl rfl (st0B (q := 0) hS36 ⟨rfl, rfl⟩ rfl rfl rfl Try.sizeOf4 rfl rfl rfl fun w34 im36 hS37 => ?_)
        have hS37 : Sep g T15 w34 [boxA b2 [.bool false], boxA b1 [.slice none 0 0, .slice none 0 0, .int .i64 0, .int .i64 0], R, H_p0 [.slice a20 (List.length e5.b) c20]] := hS37
        have hm := Option.some.inj hm
        subst hm
        exact nil (endO rfl ⟨_, resN (vs := [.agg #[.slice none 0 0, .slice none 0 0, .int .i64 0, .int .i64 0], .bool false]) rfl ⟨rvS rfl Try.isAgg25 Try.sizeOf25 rfl (hS37.bx (i := 1) ⟨rfl, rfl⟩), rv1 rfl Try.isAgg4 (hS37.bx (i := 0) ⟨rfl, rfl⟩), trivial⟩ rfl, ⟨_, rfl, _, (Im.trans im1 (Im.trans im2 (Im.trans im3 (Im.trans im4 (Im.trans im34 (Im.trans im35 im36)))))), ⟨_, _, _, _, _, _, rfl, hS37.sel [2, 3] rfl, SlR_nil, SlR_nil, (h18.mono (Im.trans im35 im36)), trivial⟩⟩⟩)
      · have hm := exC_ok hm
        refine wl rfl (calS cf28 rfl (pack_reader_most_sim (p0 := y2.2) (H_p0 := H_p0) (p1 := 65536) (hS4.bun [0, 1, 2] [3] rfl) hL_p0 h4 hx3) rfl fun v3 T3 w5 im5 rv3 => ?_)
        obtain ⟨a5, c5, rfl, hS5, h5, _⟩ := rv3
        have hS5 : Sep g T3 w5 [boxA b2 [.bool false], boxA b1 [.slice none 0 0, .slice none 0 0, .int .i64 0, .int .i64 0], R, H_p0 [.slice a5 (List.length y3.2.b) c5]] := hS5.unb
        refine pv (r_zi rfl) (pv (r_zi rfl) (nil (t_thenR [(0, .pointer (some ⟨b_p0, o_p0, none⟩)), (2, .pointer (some ⟨b1, 0, none⟩)), (3, .pointer (some ⟨b2, 0, none⟩)), (4, .int .i64 y2.1), (5, .int .i64 y3.1)] ⟨rfl, rfl, rfl, rfl, rfl, trivial⟩ fun J => ?_)))
        refine sq2 ?_
        refine rg (pv (r_mp rfl) (?_))
        obtain ⟨y4, hx4, hm⟩ := bindS hm
        rcases y4 with e4 | y4
        · have hm := exC_error hm
          refine wl rfl (calP cf28 rfl (pack_reader_most_sim (p0 := y3.2) (H_p0 := H_p0) (p1 := 65536) (hS5.bun [0, 1, 2] [3] rfl) hL_p0 h5 hx4) rfl fun v11 T14 w29 im31 rv11 => ?_)
          obtain ⟨t4, u4, a19, c19, rfl, hS32, h17, _⟩ := rv11
          have hS32 : Sep g T14 w29 [boxA b2 [.bool false], boxA b1 [.slice none 0 0, .slice none 0 0, .int .i64 0, .int .i64 0], R, H_p0 [.slice a19 (List.length e4.b) c19]] := hS32.unb
          refine p_then (panD cf26 (recP (args := [.pointer (some ⟨b1, 0, none⟩), .pointer (some ⟨b2, 0, none⟩)]) Try.func26 rfl Try.ntmps26 rfl rfl (by kernel_rfl) rfl rfl fun J => ?_))
          refine rg (pv (r_bd (by kernel_rfl) rfl (u := .agg #[.slice none 0 0, .slice none 0 0, .int .i64 0, .int .i64 0])) (wl rfl (st0B (q := 1) hS32 ⟨rfl, rfl⟩ rfl rfl rfl Try.sizeOf25 rfl rfl rfl fun w30 im32 hS33 => ?_)))
          have hS33 : Sep g T14 w30 [boxA b2 [.bool false], boxA b1 [.slice none 0 0, .slice none 0 0, .int .i64 0, .int .i64 0], R, H_p0 [.slice a19 (List.length e4.b) c19]] := hS33
          refine wl rfl (st0B (q := 0) hS33 ⟨rfl, rfl⟩ rfl rfl rfl Try.sizeOf4 rfl rfl rfl fun w31 im33 hS34 => ?_)
          have hS34 : Sep g T14 w31 [boxA b2 [.bool false], boxA b1 [.slice none 0 0, .slice none 0 0, .int .i64 0, .int .i64 0], R, H_p0 [.slice a19 (List.length e4.b) c19]] := hS34
          have hm := Option.some.inj hm
          subst hm
          exact nil (endO rfl ⟨_, resN (vs := [.agg #[.slice none 0 0, .slice none 0 0, .int .i64 0, .int .i64 0], .bool false]) rfl ⟨rvS rfl Try.isAgg25 Try.sizeOf25 rfl (hS34.bx (i := 1) ⟨rfl, rfl⟩), rv1 rfl Try.isAgg4 (hS34.bx (i := 0) ⟨rfl, rfl⟩), trivial⟩ rfl, ⟨_, rfl, _, (Im.trans im1 (Im.trans im2 (Im.trans im3 (Im.trans im4 (Im.trans im5 (Im.trans im31 (Im.trans im32 im33))))))), ⟨_, _, _, _, _, _, rfl, hS34.sel [2, 3] rfl, SlR_nil, SlR_nil, (h17.mono (Im.trans im32 im33)), trivial⟩⟩⟩)
        · have hm := exC_ok hm
          refine wl rfl (calS cf28 rfl (pack_reader_most_sim (p0 := y3.2) (H_p0 := H_p0) (p1 := 65536) (hS5.bun [0, 1, 2] [3] rfl) hL_p0 h5 hx4) rfl fun v4 T4 w6 im6 rv4 => ?_)
          obtain ⟨a6, c6, rfl, hS6, h6, _⟩ := rv4
          have hS6 : Sep g T4 w6 [boxA b2 [.bool false], boxA b1 [.slice none 0 0, .slice none 0 0, .int .i64 0, .int .i64 0], R, H_p0 [.slice a6 (List.length y4.2.b) c6]] := hS6.unb
          refine pv (r_ib rfl rfl rfl) (pv (r_fa rfl Try.underlying25 rfl Try.sizeOf3 rfl) (wl rfl (st0B (q := 1) hS6 ⟨rfl, rfl⟩ rfl rfl rfl Try.sizeOf3 rfl rfl rfl fun w7 im7 hS7 => ?_)))
          have hS7 : Sep g T4 w7 [boxA b2 [.bool false], boxA b1 [.slice none 0 0, .slice none 0 0, .int .i64 (IntKind.wrap .i64 (y4.1 + 268435456)), .int .i64 0], R, H_p0 [.slice a6 (List.length y4.2.b) c6]] := hS7
          refine nil (t_then ?_)
          refine sq2 ?_
          refine rg (pv (r_mp rfl) (?_))
          obtain ⟨y5, hx5, hm⟩ := bindS hm
          rcases y5 with e3 | y5
          · have hm := exC_error hm
            refine wl rfl (calP cf28 rfl (pack_reader_most_sim (p0 := y4.2) (H_p0 := H_p0) (p1 := 64) (hS7.bun [0, 1, 2] [3] rfl) hL_p0 (h6.mono im7) hx5) rfl fun v10 T13 w26 im28 rv10 => ?_)
            obtain ⟨t3, u3, a18, c18, rfl, hS29, h16, _⟩ := rv10
            have hS29 : Sep g T13 w26 [boxA b2 [.bool false], boxA b1 [.slice none 0 0, .slice none 0 0, .int .i64 (IntKind.wrap .i64 (y4.1 + 268435456)), .int .i64 0], R, H_p0 [.slice a18 (List.length e3.b) c18]] := hS29.unb
            refine p_then (panD cf26 (recP (args := [.pointer (some ⟨b1, 0, none⟩), .pointer (some ⟨b2, 0, none⟩)]) Try.func26 rfl Try.ntmps26 rfl rfl (by kernel_rfl) rfl rfl fun J => ?_))
            refine rg (pv (r_bd (by kernel_rfl) rfl (u := .agg #[.slice none 0 0, .slice none 0 0, .int .i64 0, .int .i64 0])) (wl rfl (st0B (q := 1) hS29 ⟨rfl, rfl⟩ rfl rfl rfl Try.sizeOf25 rfl rfl rfl fun w27 im29 hS30 => ?_)))
            have hS30 : Sep g T13 w27 [boxA b2 [.bool false], boxA b1 [.slice none 0 0, .slice none 0 0, .int .i64 0, .int .i64 0], R, H_p0 [.slice a18 (List.length e3.b) c18]] := hS30
            refine wl rfl (st0B (q := 0) hS30 ⟨rfl, rfl⟩ rfl rfl rfl Try.sizeOf4 rfl rfl rfl fun w28 im30 hS31 => ?_)
            have hS31 : Sep g T13 w28 [boxA b2 [.bool false], boxA b1 [.slice none 0 0, .slice none 0 0, .int .i64 0, .int .i64 0], R, H_p0 [.slice a18 (List.length e3.b) c18]] := hS31
            have hm := Option.some.inj hm
            subst hm
            exact nil (endO rfl ⟨_, resN (vs := [.agg #[.slice none 0 0, .slice none 0 0, .int .i64 0, .int .i64 0], .bool false]) rfl ⟨rvS rfl Try.isAgg25 Try.sizeOf25 rfl (hS31.bx (i := 1) ⟨rfl, rfl⟩), rv1 rfl Try.isAgg4 (hS31.bx (i := 0) ⟨rfl, rfl⟩), trivial⟩ rfl, ⟨_, rfl, _, (Im.trans im1 (Im.trans im2 (Im.trans im3 (Im.trans im4 (Im.trans im5 (Im.trans im6 (Im.trans im7 (Im.trans im28 (Im.trans im29 im30))))))))), ⟨_, _, _, _, _, _, rfl, hS31.sel [2, 3] rfl, SlR_nil, SlR_nil, (h16.mono (Im.trans im29 im30)), trivial⟩⟩⟩)
          · have hm := exC_ok hm
            refine wl rfl (calS cf28 rfl (pack_reader_most_sim (p0 := y4.2) (H_p0 := H_p0) (p1 := 64) (hS7.bun [0, 1, 2] [3] rfl) hL_p0 (h6.mono im7) hx5) rfl fun v5 T5 w8 im8 rv5 => ?_)
            obtain ⟨a7, c7, rfl, hS8, h7, _⟩ := rv5
            have hS8 : Sep g T5 w8 [boxA b2 [.bool false], boxA b1 [.slice none 0 0, .slice none 0 0, .int .i64 (IntKind.wrap .i64 (y4.1 + 268435456)), .int .i64 0], R, H_p0 [.slice a7 (List.length y5.2.b) c7]] := hS8.unb
            refine pv (r_fa rfl Try.underlying25 rfl Try.sizeOf3 rfl) (wl rfl (st0B (q := 1) hS8 ⟨rfl, rfl⟩ rfl rfl rfl Try.sizeOf3 rfl rfl rfl fun w9 im9 hS9 => ?_))
            have hS9 : Sep g T5 w9 [boxA b2 [.bool false], boxA b1 [.slice none 0 0, .slice none 0 0, .int .i64 (IntKind.wrap .i64 (y4.1 + 268435456)), .int .i64 y5.1], R, H_p0 [.slice a7 (List.length y5.2.b) c7]] := hS9
            refine nil (t_thenR [(0, .pointer (some ⟨b_p0, o_p0, none⟩)), (2, .pointer (some ⟨b1, 0, none⟩)), (3, .pointer (some ⟨b2, 0, none⟩)), (4, .int .i64 y2.1), (5, .int .i64 y3.1)] ⟨rfl, rfl, rfl, rfl, rfl, trivial⟩ fun J => ?_)
            refine sq2 ?_
            refine sq2 ?_
            refine rg (pv (r_mi rfl) (pv (r_mi rfl) (nil (t_then ?_))))
            obtain ⟨o1, ho1, hq1⟩ := bindS hm
            obtain ⟨bd1, hbd1, ho1⟩ := loop_open ho1
            have hS10 := hS9.nilO (rInt .u32) 40
            refine blk (wp_loop_ghost (fun m a w10 => ∃ (J : Nat → Value) (T6 : Nat → Prop) (x4 : PackReader) (x3 : GImage) (a8 : Option Addr) (n1 : Nat) (c8 : Nat) (x2 : Int) (a9 : Option Addr) (c9 : Nat) (a10 : Option Addr) (c10 : Nat), a = env ⟨37, [⟨.fn (.func 26) #[.pointer (some ⟨b1, 0, none⟩), .pointer (some ⟨b2, 0, none⟩)], #[]⟩]⟩ J [(0, .pointer (some ⟨b_p0, o_p0, none⟩)), (2, .pointer (some ⟨b1, 0, none⟩)), (3, .pointer (some ⟨b2, 0, none⟩)), (5, .int .i64 y3.1), (20, .int .i64 y2.1), (21, .int .i64 x2)] ∧ Im T5 w9 T6 w10 ∧ Sep g T6 w10 [ownA (rInt .u32) 40 (.slice a8 n1 c8) x3.Code, boxA b2 [.bool false], boxA b1 [.slice a8 n1 c8, .slice a9 (List.length x3.Data) c9, .int .i64 x3.Limit, .int .i64 x3.Notes], R, H_p0 [.slice a10 (List.length x4.b) c10]] ∧ SlR (rInt .u8) T6 w10 (.slice a9 (List.length x3.Data) c9) x3.Data ∧ SlR (rInt .u8) T6 w10 (.slice a10 (List.length x4.b) c10) x4.b ∧ loopM bd1 m (x2, x3, x4) = some o1) NN ⟨_, _, y5.2, (⟨[], [], IntKind.wrap .i64 (y4.1 + 268435456), y5.1⟩ : GImage), _, _, _, 0, _, _, _, _, env_has ⟨rfl, rfl, rfl, rfl, rfl, rfl, trivial⟩, Im.refl, hS10.sel [0, 1, 2, 3, 4] rfl, SlR_nil, (h7.mono im9), ho1⟩ ?_)
            rintro m _ w10 ⟨J, T6, x4, x3, a8, n1, c8, x2, a9, c9, a10, c10, rfl, im10, hS11, h8, h9, ho1⟩
            obtain ⟨m1, z1, rfl, hm, hn1⟩ := loop_round ho1
            rw [hbd1] at hm
            refine sq2 ?_
            refine rg (pv (r_ib rfl rfl rfl) (nil (t_then ?_)))
            refine sq2 ?_
            refine cnd rfl (fun hb1 => ?_) (fun hb1 => ?_)
            · have hm := ctrue hb1 hm
              refine skp (t_then ?_)
              refine sq2 ?_
              refine blk ?_
              refine rsP [0, 1, 0, 2, 0, 2, 2, 0, 2] [0, 1, 2, 3, 4, 5, 6, 7, 8] mix (by kernel_rfl) hS11.lt (pq_blk (pq_then (pq_then (pq_blk (pq_then (pq_bodyD (rs := [.cell 2 25, .cell 3 4]) rfl (by kernel_rfl))))))) fun w11 i1 => ?_
              have im11 := i1.imm
              have hS12 := hS11.keep i1 (fun _ h => h)
              refine s0 rfl trivial (fun _ => r_fa rfl Try.underlying25 rfl Try.sizeOf22 rfl) rfl (s1 rfl trivial (r_ld rfl Try.isAgg22 (hS12.cell0 (i := 2) ⟨rfl, rfl⟩ (j := 0) rfl)) rfl (s0 rfl trivial (fun _ => r_mp rfl) rfl (?_)))
              obtain ⟨y6, hx6, hm⟩ := bindS hm
              rcases y6 with e1 | y6
              · have hm := exC_error hm
                refine s2 [(1, .slice a8 n1 c8)] rfl trivial rfl (by kernel_rfl) (calP cf29 rfl (pack_reader_number_sim (p0 := x4) (H_p0 := H_p0) (hS12.bun [0, 1, 2, 3] [4] rfl) hL_p0 (h9.mono im11) hx6) rfl fun v7 T8 w16 im16 rv7 => ?_)
                obtain ⟨t1, u1, a14, c14, rfl, hS17, h11, _⟩ := rv7
                have hS17 : Sep g T8 w16 [ownA (rInt .u32) 40 (.slice a8 n1 c8) x3.Code, boxA b2 [.bool false], boxA b1 [.slice a8 n1 c8, .slice a9 (List.length x3.Data) c9, .int .i64 x3.Limit, .int .i64 x3.Notes], R, H_p0 [.slice a14 (List.length e1.b) c14]] := hS17.unb
                refine p_blk (p_then (p_then (p_blk (p_then (panD cf26 (recP (args := [.pointer (some ⟨b1, 0, none⟩), .pointer (some ⟨b2, 0, none⟩)]) Try.func26 rfl Try.ntmps26 rfl rfl (by kernel_rfl) rfl rfl fun J => ?_))))))
                refine rg (pv (r_bd (by kernel_rfl) rfl (u := .agg #[.slice none 0 0, .slice none 0 0, .int .i64 0, .int .i64 0])) (wl rfl (st0B (q := 2) hS17 ⟨rfl, rfl⟩ rfl rfl rfl Try.sizeOf25 rfl rfl rfl fun w17 im17 hS18 => ?_)))
                have hS18 : Sep g T8 w17 [ownA (rInt .u32) 40 (.slice a8 n1 c8) x3.Code, boxA b2 [.bool false], boxA b1 [.slice none 0 0, .slice none 0 0, .int .i64 0, .int .i64 0], R, H_p0 [.slice a14 (List.length e1.b) c14]] := hS18
                refine wl rfl (st0B (q := 1) hS18 ⟨rfl, rfl⟩ rfl rfl rfl Try.sizeOf4 rfl rfl rfl fun w18 im18 hS19 => ?_)
                have hS19 : Sep g T8 w18 [ownA (rInt .u32) 40 (.slice a8 n1 c8) x3.Code, boxA b2 [.bool false], boxA b1 [.slice none 0 0, .slice none 0 0, .int .i64 0, .int .i64 0], R, H_p0 [.slice a14 (List.length e1.b) c14]] := hS19
                have hm := Option.some.inj hm
                subst hm
                have hn1 : _ = Lp.ret _ := hn1
                subst hn1
                have hm := thn_ret hq1
                have hm := Option.some.inj hm
                subst hm
                exact nil (endO rfl ⟨_, resN (vs := [.agg #[.slice none 0 0, .slice none 0 0, .int .i64 0, .int .i64 0], .bool false]) rfl ⟨rvS rfl Try.isAgg25 Try.sizeOf25 rfl (hS19.bx (i := 2) ⟨rfl, rfl⟩), rv1 rfl Try.isAgg4 (hS19.bx (i := 1) ⟨rfl, rfl⟩), trivial⟩ rfl, ⟨_, rfl, _, (Im.trans im1 (Im.trans im2 (Im.trans im3 (Im.trans im4 (Im.trans im5 (Im.trans im6 (Im.trans im7 (Im.trans im8 (Im.trans im9 (Im.trans im10 (Im.trans im11 (Im.trans im16 (Im.trans im17 im18))))))))))))), ⟨_, _, _, _, _, _, rfl, hS19.sel [3, 4] rfl, SlR_nil, SlR_nil, (h11.mono (Im.trans im17 im18)), trivial⟩⟩⟩)
              · have hm := exC_ok hm
                refine s2 [(1, .slice a8 n1 c8)] rfl trivial rfl (by kernel_rfl) (calS cf29 rfl (pack_reader_number_sim (p0 := x4) (H_p0 := H_p0) (hS12.bun [0, 1, 2, 3] [4] rfl) hL_p0 (h9.mono im11) hx6) rfl fun v6 T7 w12 im12 rv6 => ?_)
                obtain ⟨a11, c11, rfl, hS13, h10, _⟩ := rv6
                have hS13 : Sep g T7 w12 [ownA (rInt .u32) 40 (.slice a8 n1 c8) x3.Code, boxA b2 [.bool false], boxA b1 [.slice a8 n1 c8, .slice a9 (List.length x3.Data) c9, .int .i64 x3.Limit, .int .i64 x3.Notes], R, H_p0 [.slice a11 (List.length y6.2.b) c11]] := hS13.unb
                refine ⟨st1 rfl (r_ld rfl Try.isAgg22 (hS13.cell0 (i := 2) ⟨rfl, rfl⟩ (j := 0) rfl)) (st0), ?_⟩
                refine s0 rfl trivial (fun _ => r_cv rfl Try.underlying3 Try.underlying40) rfl (s2 [(1, .slice a8 n1 c8)] rfl trivial rfl (by kernel_rfl) (bsS (r := (rInt .u32)) (l := ([IntKind.wrap .u32 y6.1] : List Int)) (css := [[.int .u32 (IntKind.wrap .u32 y6.1)]]) hS13 Try.underlying22 Try.sizeOf40 Try.zeroValue40 rfl rfl (by kernel_rfl) rfl ⟨rfl, trivial⟩ rfl rfl fun w13 a12 n2 c12 im13 hS14 => ?_))
                refine ⟨st1 rfl (r_ld rfl Try.isAgg22 (hS14.cell0 (i := 3) ⟨rfl, rfl⟩ (j := 0) rfl)) (st0), ?_⟩
                obtain ⟨z_1, hro1, hm⟩ := bindS hm
                refine s2 [] rfl trivial rfl (by kernel_rfl) (apO (q := 1) (l := x3.Code) (us := ([IntKind.wrap .u32 y6.1] : List Int)) hS14 ⟨rfl, rfl⟩ rfl rfl (hS14.own (i := 0) ⟨rfl, rfl⟩).v Try.underlying22 el40 (room_some hro1) fun w14 a13 n3 c13 im14 hS15 => ?_)
                have hS15 : Sep g T7 w14 [ownA (rInt .u32) 40 (.slice a12 n2 c12) ([IntKind.wrap .u32 y6.1] : List Int), ownA (rInt .u32) 40 (.slice a13 n3 c13) (x3.Code ++ ([IntKind.wrap .u32 y6.1] : List Int)), boxA b2 [.bool false], boxA b1 [.slice a8 n1 c8, .slice a9 (List.length x3.Data) c9, .int .i64 x3.Limit, .int .i64 x3.Notes], R, H_p0 [.slice a11 (List.length y6.2.b) c11]] := hS15
                refine ⟨st0, ?_⟩
                refine s0 rfl trivial (fun _ => r_fa rfl Try.underlying25 rfl Try.sizeOf22 rfl) rfl (s2 [] rfl trivial rfl (by kernel_rfl) (st0B (q := 3) hS15 ⟨rfl, rfl⟩ rfl rfl rfl Try.sizeOf22 rfl rfl rfl fun w15 im15 hS16 => ?_))
                have hS16 : Sep g T7 w15 [ownA (rInt .u32) 40 (.slice a12 n2 c12) ([IntKind.wrap .u32 y6.1] : List Int), ownA (rInt .u32) 40 (.slice a13 n3 c13) (x3.Code ++ ([IntKind.wrap .u32 y6.1] : List Int)), boxA b2 [.bool false], boxA b1 [.slice a13 n3 c13, .slice a9 (List.length x3.Data) c9, .int .i64 x3.Limit, .int .i64 x3.Notes], R, H_p0 [.slice a11 (List.length y6.2.b) c11]] := hS16
                refine ⟨st0, ?_⟩
                refine seP (t_blk (t_thenR [(0, .pointer (some ⟨b_p0, o_p0, none⟩)), (2, .pointer (some ⟨b1, 0, none⟩)), (3, .pointer (some ⟨b2, 0, none⟩)), (5, .int .i64 y3.1), (20, .int .i64 y2.1), (21, .int .i64 x2)] ⟨rfl, rfl, rfl, rfl, rfl, rfl, trivial⟩ fun J => ?_))
                have hm := Option.some.inj hm
                subst hm
                exact rg (pv (r_ib rfl rfl rfl) (pv (r_mi rfl) (nil (t_then ⟨m1, Nat.lt_succ_self _, _, _, y6.2, ({ x3 with Code := x3.Code ++ ([IntKind.wrap .u32 y6.1] : List Int) }), _, _, _, (IntKind.wrap .i64 (x2 + 1)), _, _, _, _, env_has ⟨rfl, rfl, rfl, rfl, rfl, rfl, trivial⟩, (Im.trans im10 (Im.trans im11 (Im.trans im12 (Im.trans im13 (Im.trans im14 im15))))), hS16.sel [1, 2, 3, 4, 5] rfl, (h8.mono (Im.trans im11 (Im.trans im12 (Im.trans im13 (Im.trans im14 im15))))), (h10.mono (Im.trans im13 (Im.trans im14 im15))), hn1⟩))))
            · have hm := cfalse hb1 hm
              have hm := Option.some.inj hm
              subst hm
              have hn1 : _ = Lp.brk _ := hn1
              subst hn1
              have hm := thn_brk hq1
              refine xt (x_then (x_then (x_eq (t_then ?_))))
              refine sq2 ?_
              refine rg (pv (r_mp rfl) (pv (r_mi rfl) (?_)))
              obtain ⟨y7, hx7, hm⟩ := bindS hm
              rcases y7 with e2 | y7
              · have hm := exC_error hm
                refine wl rfl (calP cf30 rfl (pack_reader_data_sim (p0 := x4) (H_p0 := H_p0) (p1 := y3.1) (hS11.bun [0, 1, 2, 3] [4] rfl) hL_p0 h9 hx7) rfl fun v9 T12 w23 im25 rv9 => ?_)
                obtain ⟨t2, u2, a17, c17, rfl, hS26, h15, _⟩ := rv9
                have hS26 : Sep g T12 w23 [ownA (rInt .u32) 40 (.slice a8 n1 c8) x3.Code, boxA b2 [.bool false], boxA b1 [.slice a8 n1 c8, .slice a9 (List.length x3.Data) c9, .int .i64 x3.Limit, .int .i64 x3.Notes], R, H_p0 [.slice a17 (List.length e2.b) c17]] := hS26.unb
                refine p_then (panD cf26 (recP (args := [.pointer (some ⟨b1, 0, none⟩), .pointer (some ⟨b2, 0, none⟩)]) Try.func26 rfl Try.ntmps26 rfl rfl (by kernel_rfl) rfl rfl fun J => ?_))
                refine rg (pv (r_bd (by kernel_rfl) rfl (u := .agg #[.slice none 0 0, .slice none 0 0, .int .i64 0, .int .i64 0])) (wl rfl (st0B (q := 2) hS26 ⟨rfl, rfl⟩ rfl rfl rfl Try.sizeOf25 rfl rfl rfl fun w24 im26 hS27 => ?_)))
                have hS27 : Sep g T12 w24 [ownA (rInt .u32) 40 (.slice a8 n1 c8) x3.Code, boxA b2 [.bool false], boxA b1 [.slice none 0 0, .slice none 0 0, .int .i64 0, .int .i64 0], R, H_p0 [.slice a17 (List.length e2.b) c17]] := hS27
                refine wl rfl (st0B (q := 1) hS27 ⟨rfl, rfl⟩ rfl rfl rfl Try.sizeOf4 rfl rfl rfl fun w25 im27 hS28 => ?_)
                have hS28 : Sep g T12 w25 [ownA (rInt .u32) 40 (.slice a8 n1 c8) x3.Code, boxA b2 [.bool false], boxA b1 [.slice none 0 0, .slice none 0 0, .int .i64 0, .int .i64 0], R, H_p0 [.slice a17 (List.length e2.b) c17]] := hS28
                have hm := Option.some.inj hm
                subst hm
                exact nil (endO rfl ⟨_, resN (vs := [.agg #[.slice none 0 0, .slice none 0 0, .int .i64 0, .int .i64 0], .bool false]) rfl ⟨rvS rfl Try.isAgg25 Try.sizeOf25 rfl (hS28.bx (i := 2) ⟨rfl, rfl⟩), rv1 rfl Try.isAgg4 (hS28.bx (i := 1) ⟨rfl, rfl⟩), trivial⟩ rfl, ⟨_, rfl, _, (Im.trans im1 (Im.trans im2 (Im.trans im3 (Im.trans im4 (Im.trans im5 (Im.trans im6 (Im.trans im7 (Im.trans im8 (Im.trans im9 (Im.trans im10 (Im.trans im25 (Im.trans im26 im27)))))))))))), ⟨_, _, _, _, _, _, rfl, hS28.sel [3, 4] rfl, SlR_nil, SlR_nil, (h15.mono (Im.trans im26 im27)), trivial⟩⟩⟩)
              · have hm := exC_ok hm
                refine wl rfl (calS cf30 rfl (pack_reader_data_sim (p0 := x4) (H_p0 := H_p0) (p1 := y3.1) (hS11.bun [0, 1, 2, 3] [4] rfl) hL_p0 h9 hx7) rfl fun v8 T9 w19 im19 rv8 => ?_)
                obtain ⟨a15, n4, c15, a16, c16, rfl, hS20, h12, _⟩ := rv8
                have hS20 : Sep g T9 w19 [ownA (rInt .u32) 40 (.slice a8 n1 c8) x3.Code, boxA b2 [.bool false], boxA b1 [.slice a8 n1 c8, .slice a9 (List.length x3.Data) c9, .int .i64 x3.Limit, .int .i64 x3.Notes], R, H_p0 [.slice a16 (List.length y7.2.b) c16], ownA (rInt .u8) 5 (.slice a15 n4 c15) y7.1] := hS20.unb
                refine pv (r_fa rfl Try.underlying25 rfl Try.sizeOf23 rfl) (wl rfl (st0B (q := 2) hS20 ⟨rfl, rfl⟩ rfl rfl rfl Try.sizeOf23 rfl rfl rfl fun w20 im20 hS21 => ?_))
                have hS21 : Sep g T9 w20 [ownA (rInt .u32) 40 (.slice a8 n1 c8) x3.Code, boxA b2 [.bool false], boxA b1 [.slice a8 n1 c8, .slice a15 n4 c15, .int .i64 x3.Limit, .int .i64 x3.Notes], R, H_p0 [.slice a16 (List.length y7.2.b) c16], ownA (rInt .u8) 5 (.slice a15 n4 c15) y7.1] := hS21
                refine nil (t_thenR [(2, .pointer (some ⟨b1, 0, none⟩)), (3, .pointer (some ⟨b2, 0, none⟩))] ⟨rfl, rfl, trivial⟩ fun J => ?_)
                refine sq2 ?_
                refine rg (pv (r_ldS rfl Try.isAgg25 Try.sizeOf25 rfl (hS21.cells0 (i := 2) ⟨rfl, rfl⟩ (o := 0) rfl) (cs := [.slice a8 n1 c8, .slice a15 n4 c15, .int .i64 x3.Limit, .int .i64 x3.Notes])) (wl rfl (st0B (q := 2) hS21 ⟨rfl, rfl⟩ rfl rfl rfl Try.sizeOf25 rfl rfl rfl fun w21 im21 hS22 => ?_)))
                have hS22 : Sep g T9 w21 [ownA (rInt .u32) 40 (.slice a8 n1 c8) x3.Code, boxA b2 [.bool false], boxA b1 [.slice a8 n1 c8, .slice a15 n4 c15, .int .i64 x3.Limit, .int .i64 x3.Notes], R, H_p0 [.slice a16 (List.length y7.2.b) c16], ownA (rInt .u8) 5 (.slice a15 n4 c15) y7.1] := hS22
                refine wl rfl (st0B (q := 1) hS22 ⟨rfl, rfl⟩ rfl rfl rfl Try.sizeOf4 rfl rfl rfl fun w22 im22 hS23 => ?_)
                have hS23 : Sep g T9 w22 [ownA (rInt .u32) 40 (.slice a8 n1 c8) x3.Code, boxA b2 [.bool true], boxA b1 [.slice a8 n1 c8, .slice a15 n4 c15, .int .i64 x3.Limit, .int .i64 x3.Notes], R, H_p0 [.slice a16 (List.length y7.2.b) c16], ownA (rInt .u8) 5 (.slice a15 n4 c15) y7.1] := hS23
                refine nil (t_then ?_)
                obtain ⟨T10, im23, hS24, h13⟩ := hS23.seal 0 ⟨rfl, rfl⟩
                have hsh := h13.len
                subst hsh
                have hS24 : Sep g T10 w22 [empA, boxA b2 [.bool true], boxA b1 [.slice a8 (List.length x3.Code) c8, .slice a15 n4 c15, .int .i64 x3.Limit, .int .i64 x3.Notes], R, H_p0 [.slice a16 (List.length y7.2.b) c16], ownA (rInt .u8) 5 (.slice a15 n4 c15) y7.1] := hS24
                obtain ⟨T11, im24, hS25, h14⟩ := hS24.seal 5 ⟨rfl, rfl⟩
                have hsh := h14.len
                subst hsh
                have hS25 : Sep g T11 w22 [empA, boxA b2 [.bool true], boxA b1 [.slice a8 (List.length x3.Code) c8, .slice a15 (List.length y7.1) c15, .int .i64 x3.Limit, .int .i64 x3.Notes], R, H_p0 [.slice a16 (List.length y7.2.b) c16], empA] := hS25
                have hm := Option.some.inj hm
                subst hm
                exact rtn (retD cf26 (recN (args := [.pointer (some ⟨b1, 0, none⟩), .pointer (some ⟨b2, 0, none⟩)]) Try.func26 rfl Try.ntmps26 rfl rfl (by kernel_rfl) rfl rfl fun _ => skp (endO rfl ⟨_, resN (vs := [.agg #[.slice a8 (List.length x3.Code) c8, .slice a15 (List.length y7.1) c15, .int .i64 x3.Limit, .int .i64 x3.Notes], .bool true]) rfl ⟨rvS rfl Try.isAgg25 Try.sizeOf25 rfl (hS25.bx (i := 2) ⟨rfl, rfl⟩), rv1 rfl Try.isAgg4 (hS25.bx (i := 1) ⟨rfl, rfl⟩), trivial⟩ rfl, ⟨_, rfl, _, (Im.trans im1 (Im.trans im2 (Im.trans im3 (Im.trans im4 (Im.trans im5 (Im.trans im6 (Im.trans im7 (Im.trans im8 (Im.trans im9 (Im.trans im10 (Im.trans im19 (Im.trans im20 (Im.trans im21 (Im.trans im22 (Im.trans im23 im24))))))))))))))), ⟨_, _, _, _, _, _, rfl, hS25.sel [3, 4] rfl, (h13.mono im24), h14, (h12.mono (Im.trans im20 (Im.trans im21 (Im.trans im22 (Im.trans im23 im24))))), trivial⟩⟩⟩)))

set_option maxRecDepth 100000 in
set_option maxHeartbeats 1000000 in
theorem bytes_Equal_sim {g : World} {T0 : Nat → Prop} {w0 : World} {R : Assn} {p0 : List Int} {a1 : Option Addr} {c1 : Nat} {p1 : List Int} {a2 : Option Addr} {c2 : Nat} {r : Bool} (hS : Sep g T0 w0 [R]) (h1 : SlR (rInt .u8) T0 w0 (.slice a1 (List.length p0) c1) p0) (h2 : SlR (rInt .u8) T0 w0 (.slice a2 (List.length p1) c2) p1) (hm : bytes_Equal p0 p1 = some r) :
    Calls Try.prog 19 #[.slice a1 (List.length p0) c1, .slice a2 (List.length p1) c2] w0 (RetS T0 w0 fun T w v => v = .bool r ∧ Sep g T w [R] ∧ True) := by
  refine enter (args := [.slice a1 (List.length p0) c1, .slice a2 (List.length p1) c2]) Try.func19 rfl Try.ntmps19 rfl fun J => ?_
  unfold bytes_Equal at hm
  refine sq2 ?_
  refine rg (pv (r_zb rfl) (nil (t_then ?_)))
  refine sq2 ?_
  refine rg (pv (r_ms rfl) (pv (r_cvs rfl ⟨_, h1.v⟩ Try.underlying23 Try.underlying5 Try.underlying9) (pv (r_ms rfl) (pv (r_cvs rfl ⟨_, h2.v⟩ Try.underlying23 Try.underlying5 Try.underlying9) (pv (r_sqL rfl rfl) (pv (r_zb rfl) (nil (t_thenR [(4, .bool (decide (bytesStr p0 = bytesStr p1)))] ⟨rfl, trivial⟩ fun J => ?_))))))))
  have hm := Option.some.inj hm
  subst hm
  exact rtn (ret1 rfl rfl ⟨_, rfl, _, Im.refl, ⟨rfl, hS.sel [0] rfl, trivial⟩⟩)

set_option maxRecDepth 100000 in
set_option maxHeartbeats 1000000 in
theorem bytes_Clone_sim {g : World} {T0 : Nat → Prop} {w0 : World} {R : Assn} {p0 : List Int} {a1 : Option Addr} {c1 : Nat} {r : (List Int)} (hS : Sep g T0 w0 [R]) (h1 : SlR (rInt .u8) T0 w0 (.slice a1 (List.length p0) c1) p0) (hm : bytes_Clone p0 = some r) :
    Calls Try.prog 20 #[.slice a1 (List.length p0) c1] w0 (RetS T0 w0 fun T w v => ∃ (a4 : Option Addr) (n3 : Nat) (c4 : Nat), v = .slice a4 n3 c4 ∧ Sep g T w [R, ownA (rInt .u8) 5 (.slice a4 n3 c4) r] ∧ True) := by
  refine enter (args := [.slice a1 (List.length p0) c1]) Try.func20 rfl Try.ntmps20 rfl fun J => ?_
  unfold bytes_Clone at hm
  refine sq2 ?_
  refine rg (pv (r_zs rfl) (nil (t_then ?_)))
  refine sq2 ?_
  refine sq2 ?_
  refine rg (pv (r_ms rfl) (pv (r_sne rfl rfl rfl Try.underlying23) (nil (t_then ?_))))
  rcases SlR.nilOr h1 with ⟨hb1, hl0⟩ | hb1
  · subst hb1
    subst hl0
    have hm : some [] = some r := hm
    refine cnd (b := true) rfl (fun _ => ?_) (fun h => nomatch h)
    refine sq2 ?_
    refine rg (pv (r_zs rfl) (nil (t_then ?_)))
    have hS1 := hS.nilO (rInt .u8) 5
    have hm := Option.some.inj hm
    subst hm
    exact rtn (r_then (ret1 rfl rfl ⟨_, rfl, _, Im.refl, ⟨_, _, _, rfl, hS1.sel [1, 0] rfl, trivial⟩⟩))
  · refine cnd rfl (fun h => absurd (h.symm.trans hb1) (fun h => nomatch h)) (fun _ => ?_)
    refine skp (t_then ?_)
    refine sq2 ?_
    refine rg (wl rfl (bs0S (rInt .u8) hS Try.underlying23 Try.sizeOf5 fun w1 a2 n1 c2 im1 hS2 => ?_))
    obtain ⟨z_1, hro1, hm⟩ := bindS hm
    refine pv (r_ms rfl) (wl rfl (apO (q := 0) (l := ([] : List Int)) (us := p0) hS2 ⟨rfl, rfl⟩ rfl rfl (h1.mono im1).v Try.underlying23 el5 (room_some hro1) fun w2 a3 n2 c3 im2 hS3 => ?_))
    have hS3 : Sep g T0 w2 [ownA (rInt .u8) 5 (.slice a3 n2 c3) (([] : List Int) ++ p0), R] := hS3
    refine pv (r_zs rfl) (nil (t_thenR [(2, .slice a3 n2 c3)] ⟨rfl, trivial⟩ fun J => ?_))
    have hm := Option.some.inj hm
    subst hm
    exact rtn (ret1 rfl rfl ⟨_, rfl, _, (Im.trans im1 im2), ⟨_, _, _, rfl, hS3.sel [1, 0] rfl, trivial⟩⟩)

set_option maxRecDepth 100000 in
set_option maxHeartbeats 1000000 in
theorem pack_Decode_sim {g : World} {T0 : Nat → Prop} {w0 : World} {R : Assn} {p0 : List Int} {a1 : Option Addr} {c1 : Nat} {r : GImage × Int} (hS : Sep g T0 w0 [R]) (h1 : SlR (rInt .u8) T0 w0 (.slice a1 (List.length p0) c1) p0) (hm : pack_Decode p0 = some r) :
    Calls Try.prog 10 #[.slice a1 (List.length p0) c1] w0 (RetS T0 w0 fun T w v => ∃ (a7 : Option Addr) (c7 : Nat) (a8 : Option Addr) (c8 : Nat), v = .tuple #[.agg #[.slice a7 (List.length r.1.Code) c7, .slice a8 (List.length r.1.Data) c8, .int .i64 r.1.Limit, .int .i64 r.1.Notes], .int .i64 r.2] ∧ Sep g T w [R] ∧ SlR (rInt .u32) T w (.slice a7 (List.length r.1.Code) c7) r.1.Code ∧ SlR (rInt .u8) T w (.slice a8 (List.length r.1.Data) c8) r.1.Data ∧ True) := by
  refine enter (args := [.slice a1 (List.length p0) c1]) Try.func10 rfl Try.ntmps10 rfl fun J => ?_
  unfold pack_Decode at hm
  refine sq2 ?_
  refine rg (wl rfl (alS (zs := [.slice none 0 0, .slice none 0 0, .int .i64 0, .int .i64 0]) Try.zeroValue25 rfl hS fun w1 b1 im1 hS1 => ?_))
  refine pv (r_zi rfl) (nil (t_then ?_))
  refine sq2 ?_
  refine sq2 ?_
  refine rg (pv (r_ms rfl) (pv (r_ln rfl Try.underlying23) (pv (r_ib rfl rfl rfl) (nil (t_then ?_)))))
  refine cnd rfl (fun hb1 => ?_) (fun hb1 => ?_)
  · have hm := ctrue hb1 hm
    refine sq2 ?_
    refine rg (pv (r_bd (by kernel_rfl) rfl (u := .agg #[.slice none 0 0, .slice none 0 0, .int .i64 0, .int .i64 0])) (wl rfl (st0B (q := 0) hS1 ⟨rfl, rfl⟩ rfl rfl rfl Try.sizeOf25 rfl rfl rfl fun w2 im2 hS2 => ?_)))
    have hS2 : Sep g T0 w2 [boxA b1 [.slice none 0 0, .slice none 0 0, .int .i64 0, .int .i64 0], R] := hS2
    refine pv (r_zi rfl) (nil (t_thenR [(2, .pointer (some ⟨b1, 0, none⟩)), (3, .int .i64 2)] ⟨rfl, rfl, trivial⟩ fun J => ?_))
    have hm := Option.some.inj hm
    subst hm
    exact rtn (r_then (retN (vs := [.agg #[.slice none 0 0, .slice none 0 0, .int .i64 0, .int .i64 0], .int .i64 2]) rfl ⟨rvS rfl Try.isAgg25 Try.sizeOf25 rfl (hS2.bx (i := 0) ⟨rfl, rfl⟩), rfl, trivial⟩ rfl ⟨_, rfl, _, (Im.trans im1 im2), ⟨_, _, _, _, rfl, hS2.sel [1] rfl, SlR_nil, SlR_nil, trivial⟩⟩))
  · have hm := cfalse hb1 hm
    refine skp (t_then ?_)
    refine sq2 ?_
    refine rg (pv (r_ms rfl) (pv (r_bd (by kernel_rfl) rfl (u := .agg #[.slice a1 (List.length p0) c1])) (wl rfl (bxS (cs := [.slice a1 (List.length p0) c1]) rfl rfl hS1 fun w3 b2 im3 hS3 => ?_))))
    refine pv (r_zp rfl) (nil (t_thenR [(0, .slice a1 (List.length p0) c1), (2, .pointer (some ⟨b1, 0, none⟩)), (4, .pointer (some ⟨b2, 0, none⟩))] ⟨rfl, rfl, rfl, trivial⟩ fun J => ?_))
    refine sq2 ?_
    obtain ⟨y1, hx1, hm⟩ := bindS hm
    refine rg (pv (r_mp rfl) (wl rfl (calS cf18 rfl (pack_reader_read_sim (p0 := (⟨p0⟩ : PackReader)) (H_p0 := boxA b2) (hS3.bun [1, 2] [0] rfl) (lnBox b2) (h1.mono (Im.trans im1 im3)) hx1) rfl fun v1 T1 w4 im4 rv1 => ?_)))
    obtain ⟨a2, c2, a3, c3, a4, c4, rfl, hS4, h2, h3, h4, _⟩ := rv1
    have hS4 : Sep g T1 w4 [boxA b1 [.slice none 0 0, .slice none 0 0, .int .i64 0, .int .i64 0], R, boxA b2 [.slice a4 (List.length y1.2.2.b) c4]] := hS4.unb
    refine pv (r_mv rfl) (pv (r_ex (v := .agg #[.slice a2 (List.length y1.1.Code) c2, .slice a3 (List.length y1.1.Data) c3, .int .i64 y1.1.Limit, .int .i64 y1.1.Notes]) rfl rfl) (pv (r_ex (v := .bool y1.2.1) rfl rfl) (wl rfl (alS (zs := [.slice none 0 0, .slice none 0 0, .int .i64 0, .int .i64 0]) Try.zeroValue25 rfl hS4 fun w5 b3 im5 hS5 => ?_))))
    refine wl rfl (st0B (q := 0) hS5 ⟨rfl, rfl⟩ rfl rfl rfl Try.sizeOf25 rfl rfl rfl fun w6 im6 hS6 => ?_)
    have hS6 : Sep g T1 w6 [boxA b3 [.slice a2 (List.length y1.1.Code) c2, .slice a3 (List.length y1.1.Data) c3, .int .i64 y1.1.Limit, .int .i64 y1.1.Notes], boxA b1 [.slice none 0 0, .slice none 0 0, .int .i64 0, .int .i64 0], R, boxA b2 [.slice a4 (List.length y1.2.2.b) c4]] := hS6
    refine pv (r_zb rfl) (nil (t_thenR [(0, .slice a1 (List.length p0) c1), (2, .pointer (some ⟨b1, 0, none⟩)), (5, .pointer (some ⟨b3, 0, none⟩)), (6, .bool y1.2.1)] ⟨rfl, rfl, rfl, rfl, trivial⟩ fun J => ?_))
    refine sq2 ?_
    refine sq2 ?_
    refine rg (pv (r_mb rfl) (pv (r_nt rfl) (nil (t_then ?_))))
    refine cnd rfl (fun hb2 => ?_) (fun hb2 => ?_)
    · have hm := ctrue hb2 hm
      refine sq2 ?_
      refine rg (pv (r_bd (by kernel_rfl) rfl (u := .agg #[.slice none 0 0, .slice none 0 0, .int .i64 0, .int .i64 0])) (wl rfl (st0B (q := 1) hS6 ⟨rfl, rfl⟩ rfl rfl rfl Try.sizeOf25 rfl rfl rfl fun w7 im7 hS7 => ?_)))
      have hS7 : Sep g T1 w7 [boxA b3 [.slice a2 (List.length y1.1.Code) c2, .slice a3 (List.length y1.1.Data) c3, .int .i64 y1.1.Limit, .int .i64 y1.1.Notes], boxA b1 [.slice none 0 0, .slice none 0 0, .int .i64 0, .int .i64 0], R, boxA b2 [.slice a4 (List.length y1.2.2.b) c4]] := hS7
      refine pv (r_zi rfl) (nil (t_thenR [(2, .pointer (some ⟨b1, 0, none⟩)), (3, .int .i64 3)] ⟨rfl, rfl, trivial⟩ fun J => ?_))
      have hm := Option.some.inj hm
      subst hm
      exact rtn (r_then (retN (vs := [.agg #[.slice none 0 0, .slice none 0 0, .int .i64 0, .int .i64 0], .int .i64 3]) rfl ⟨rvS rfl Try.isAgg25 Try.sizeOf25 rfl (hS7.bx (i := 1) ⟨rfl, rfl⟩), rfl, trivial⟩ rfl ⟨_, rfl, _, (Im.trans im1 (Im.trans im3 (Im.trans im4 (Im.trans im5 (Im.trans im6 im7))))), ⟨_, _, _, _, rfl, hS7.sel [2] rfl, SlR_nil, SlR_nil, trivial⟩⟩))
    · have hm := cfalse hb2 hm
      refine skp (t_then ?_)
      refine sq2 ?_
      obtain ⟨y2, hx2, hm⟩ := bindS hm
      refine rg (pv (r_ldS rfl Try.isAgg25 Try.sizeOf25 rfl (hS6.cells0 (i := 0) ⟨rfl, rfl⟩ (o := 0) rfl) (cs := [.slice a2 (List.length y1.1.Code) c2, .slice a3 (List.length y1.1.Data) c3, .int .i64 y1.1.Limit, .int .i64 y1.1.Notes])) (wl rfl (calS cf8 rfl (pack_Encode_sim (p0 := y1.1) (hS6.bun [0, 1, 2] [] rfl) (h2.mono (Im.trans im5 im6)) (h3.mono (Im.trans im5 im6)) hx2) rfl fun v2 T2 w8 im8 rv2 => ?_)))
      obtain ⟨a5, n1, c5, rfl, hS8, _⟩ := rv2
      have hS8 : Sep g T2 w8 [boxA b3 [.slice a2 (List.length y1.1.Code) c2, .slice a3 (List.length y1.1.Data) c3, .int .i64 y1.1.Limit, .int .i64 y1.1.Notes], boxA b1 [.slice none 0 0, .slice none 0 0, .int .i64 0, .int .i64 0], R, ownA (rInt .u8) 5 (.slice a5 n1 c5) y2.1] := hS8.unb
      refine pv (r_mv rfl) (pv (r_ex (v := .slice a5 n1 c5) rfl rfl) (pv (r_ex (v := .int .i64 y2.2) rfl rfl) (pv (r_zs rfl) (pv (r_zi rfl) (nil (t_thenR [(0, .slice a1 (List.length p0) c1), (2, .pointer (some ⟨b1, 0, none⟩)), (5, .pointer (some ⟨b3, 0, none⟩)), (7, .slice a5 n1 c5), (8, .int .i64 y2.2)] ⟨rfl, rfl, rfl, rfl, rfl, trivial⟩ fun J => ?_))))))
      refine sq2 ?_
      refine sq2 ?_
      refine rg (pv (r_mi rfl) (pv (r_ib rfl rfl rfl) (pv (r_mb rfl) (?_))))
      rcases Bool.eq_false_or_eq_true (y2.2 != 0) with hb3 | hb3
      · have hm := ctrue hb3 hm
        refine gF (d0 := 31) rfl rfl (by rw [hb3]; rfl) (gF (d0 := 31) rfl rfl (by rw [hb3]; rfl) (gF (d0 := 31) rfl rfl (by rw [hb3]; rfl) (gF (d0 := 31) rfl rfl (by rw [hb3]; rfl) (pv (r_pkt rfl hb3 rfl) (nil (t_thenR [(2, .pointer (some ⟨b1, 0, none⟩)), (5, .pointer (some ⟨b3, 0, none⟩)), (36, .bool true)] ⟨rfl, rfl, rfl, trivial⟩ fun J => ?_))))))
        refine cnd (b := true) rfl (fun _ => ?_) (fun h => nomatch h)
        refine sq2 ?_
        refine rg (pv (r_bd (by kernel_rfl) rfl (u := .agg #[.slice none 0 0, .slice none 0 0, .int .i64 0, .int .i64 0])) (wl rfl (st0B (q := 1) hS8 ⟨rfl, rfl⟩ rfl rfl rfl Try.sizeOf25 rfl rfl rfl fun w14 im16 hS16 => ?_)))
        have hS16 : Sep g T2 w14 [boxA b3 [.slice a2 (List.length y1.1.Code) c2, .slice a3 (List.length y1.1.Data) c3, .int .i64 y1.1.Limit, .int .i64 y1.1.Notes], boxA b1 [.slice none 0 0, .slice none 0 0, .int .i64 0, .int .i64 0], R, ownA (rInt .u8) 5 (.slice a5 n1 c5) y2.1] := hS16
        refine pv (r_zi rfl) (nil (t_then ?_))
        have hm := Option.some.inj hm
        subst hm
        exact rtn (r_then (retN (vs := [.agg #[.slice none 0 0, .slice none 0 0, .int .i64 0, .int .i64 0], .int .i64 3]) rfl ⟨rvS rfl Try.isAgg25 Try.sizeOf25 rfl (hS16.bx (i := 1) ⟨rfl, rfl⟩), rfl, trivial⟩ rfl ⟨_, rfl, _, (Im.trans im1 (Im.trans im3 (Im.trans im4 (Im.trans im5 (Im.trans im6 (Im.trans im8 im16)))))), ⟨_, _, _, _, rfl, hS16.sel [2] rfl, SlR_nil, SlR_nil, trivial⟩⟩))
      · have hm := cfalse hb3 hm
        refine gT (d0 := 31) rfl rfl hb3 (pv (r_ms rfl) (gT (d0 := 31) rfl rfl hb3 (pv (r_ms rfl) (gT (d0 := 31) rfl rfl hb3 (?_)))))
        obtain ⟨T3, im9, hS9, h5⟩ := hS8.seal 3 ⟨rfl, rfl⟩
        have hsh := h5.len
        subst hsh
        have hS9 : Sep g T3 w8 [boxA b3 [.slice a2 (List.length y1.1.Code) c2, .slice a3 (List.length y1.1.Data) c3, .int .i64 y1.1.Limit, .int .i64 y1.1.Notes], boxA b1 [.slice none 0 0, .slice none 0 0, .int .i64 0, .int .i64 0], R, empA] := hS9
        obtain ⟨y3, hx3, hm⟩ := bindS hm
        refine wl rfl (calS cf19 rfl (bytes_Equal_sim (p0 := y2.1) (p1 := p0) (hS9.bun [0, 1, 2] [] rfl) h5 (h1.mono (Im.trans im1 (Im.trans im3 (Im.trans im4 (Im.trans im5 (Im.trans im6 (Im.trans im8 im9))))))) hx3) rfl fun v3 T4 w9 im10 rv3 => ?_)
        obtain ⟨rfl, hS10, _⟩ := rv3
        have hS10 : Sep g T4 w9 [boxA b3 [.slice a2 (List.length y1.1.Code) c2, .slice a3 (List.length y1.1.Data) c3, .int .i64 y1.1.Limit, .int .i64 y1.1.Notes], boxA b1 [.slice none 0 0, .slice none 0 0, .int .i64 0, .int .i64 0], R] := hS10.unb
        refine gT (d0 := 31) rfl rfl hb3 (pv (r_nt rfl) (pv (r_pkf rfl hb3 rfl) (nil (t_thenR [(2, .pointer (some ⟨b1, 0, none⟩)), (5, .pointer (some ⟨b3, 0, none⟩)), (36, .bool (!y3))] ⟨rfl, rfl, rfl, trivial⟩ fun J => ?_))))
        refine cnd rfl (fun hb4 => ?_) (fun hb4 => ?_)
        · have hm := ctrue hb4 hm
          refine sq2 ?_
          refine rg (pv (r_bd (by kernel_rfl) rfl (u := .agg #[.slice none 0 0, .slice none 0 0, .int .i64 0, .int .i64 0])) (wl rfl (st0B (q := 1) hS10 ⟨rfl, rfl⟩ rfl rfl rfl Try.sizeOf25 rfl rfl rfl fun w10 im11 hS11 => ?_)))
          have hS11 : Sep g T4 w10 [boxA b3 [.slice a2 (List.length y1.1.Code) c2, .slice a3 (List.length y1.1.Data) c3, .int .i64 y1.1.Limit, .int .i64 y1.1.Notes], boxA b1 [.slice none 0 0, .slice none 0 0, .int .i64 0, .int .i64 0], R] := hS11
          refine pv (r_zi rfl) (nil (t_then ?_))
          have hm := Option.some.inj hm
          subst hm
          exact rtn (r_then (retN (vs := [.agg #[.slice none 0 0, .slice none 0 0, .int .i64 0, .int .i64 0], .int .i64 3]) rfl ⟨rvS rfl Try.isAgg25 Try.sizeOf25 rfl (hS11.bx (i := 1) ⟨rfl, rfl⟩), rfl, trivial⟩ rfl ⟨_, rfl, _, (Im.trans im1 (Im.trans im3 (Im.trans im4 (Im.trans im5 (Im.trans im6 (Im.trans im8 (Im.trans im9 (Im.trans im10 im11)))))))), ⟨_, _, _, _, rfl, hS11.sel [2] rfl, SlR_nil, SlR_nil, trivial⟩⟩))
        · have hm := cfalse hb4 hm
          refine skp (t_then ?_)
          refine sq2 ?_
          obtain ⟨y4, hx4, hm⟩ := bindS hm
          refine rg (pv (r_fa rfl Try.underlying25 rfl Try.sizeOf23 rfl) (pv (r_ld rfl Try.isAgg23 (hS10.cell0 (i := 0) ⟨rfl, rfl⟩ (j := 1) rfl)) (wl rfl (calS cf20 rfl (bytes_Clone_sim (p0 := y1.1.Data) (hS10.bun [0, 1, 2] [] rfl) (h3.mono (Im.trans im5 (Im.trans im6 (Im.trans im8 (Im.trans im9 im10))))) hx4) rfl fun v4 T5 w11 im12 rv4 => ?_))))
          obtain ⟨a6, n2, c6, rfl, hS12, _⟩ := rv4
          have hS12 : Sep g T5 w11 [boxA b3 [.slice a2 (List.length y1.1.Code) c2, .slice a3 (List.length y1.1.Data) c3, .int .i64 y1.1.Limit, .int .i64 y1.1.Notes], boxA b1 [.slice none 0 0, .slice none 0 0, .int .i64 0, .int .i64 0], R, ownA (rInt .u8) 5 (.slice a6 n2 c6) y4] := hS12.unb
          refine pv (r_fa rfl Try.underlying25 rfl Try.sizeOf23 rfl) (wl rfl (st0B (q := 0) hS12 ⟨rfl, rfl⟩ rfl rfl rfl Try.sizeOf23 rfl rfl rfl fun w12 im13 hS13 => ?_))
          have hS13 : Sep g T5 w12 [boxA b3 [.slice a2 (List.length y1.1.Code) c2, .slice a6 n2 c6, .int .i64 y1.1.Limit, .int .i64 y1.1.Notes], boxA b1 [.slice none 0 0, .slice none 0 0, .int .i64 0, .int .i64 0], R, ownA (rInt .u8) 5 (.slice a6 n2 c6) y4] := hS13
          refine nil (t_thenR [(2, .pointer (some ⟨b1, 0, none⟩)), (5, .pointer (some ⟨b3, 0, none⟩))] ⟨rfl, rfl, trivial⟩ fun J => ?_)
          refine sq2 ?_
          refine rg (pv (r_ldS rfl Try.isAgg25 Try.sizeOf25 rfl (hS13.cells0 (i := 0) ⟨rfl, rfl⟩ (o := 0) rfl) (cs := [.slice a2 (List.length y1.1.Code) c2, .slice a6 n2 c6, .int .i64 y1.1.Limit, .int .i64 y1.1.Notes])) (wl rfl (st0B (q := 1) hS13 ⟨rfl, rfl⟩ rfl rfl rfl Try.sizeOf25 rfl rfl rfl fun w13 im14 hS14 => ?_)))
          have hS14 : Sep g T5 w13 [boxA b3 [.slice a2 (List.length y1.1.Code) c2, .slice a6 n2 c6, .int .i64 y1.1.Limit, .int .i64 y1.1.Notes], boxA b1 [.slice a2 (List.length y1.1.Code) c2, .slice a6 n2 c6, .int .i64 y1.1.Limit, .int .i64 y1.1.Notes], R, ownA (rInt .u8) 5 (.slice a6 n2 c6) y4] := hS14
          refine pv (r_zi rfl) (nil (t_then ?_))
          obtain ⟨T6, im15, hS15, h6⟩ := hS14.seal 3 ⟨rfl, rfl⟩
          have hsh := h6.len
          subst hsh
          have hS15 : Sep g T6 w13 [boxA b3 [.slice a2 (List.length y1.1.Code) c2, .slice a6 (List.length y4) c6, .int .i64 y1.1.Limit, .int .i64 y1.1.Notes], boxA b1 [.slice a2 (List.length y1.1.Code) c2, .slice a6 (List.length y4) c6, .int .i64 y1.1.Limit, .int .i64 y1.1.Notes], R, empA] := hS15
          have hm := Option.some.inj hm
          subst hm
          exact rtn (retN (vs := [.agg #[.slice a2 (List.length y1.1.Code) c2, .slice a6 (List.length y4) c6, .int .i64 y1.1.Limit, .int .i64 y1.1.Notes], .int .i64 0]) rfl ⟨rvS rfl Try.isAgg25 Try.sizeOf25 rfl (hS15.bx (i := 1) ⟨rfl, rfl⟩), rfl, trivial⟩ rfl ⟨_, rfl, _, (Im.trans im1 (Im.trans im3 (Im.trans im4 (Im.trans im5 (Im.trans im6 (Im.trans im8 (Im.trans im9 (Im.trans im10 (Im.trans im12 (Im.trans im13 (Im.trans im14 im15))))))))))), ⟨_, _, _, _, rfl, hS15.sel [2] rfl, (h2.mono (Im.trans im5 (Im.trans im6 (Im.trans im8 (Im.trans im9 (Im.trans im10 (Im.trans im12 (Im.trans im13 (Im.trans im14 im15))))))))), h6, trivial⟩⟩)

set_option maxRecDepth 100000 in
set_option maxHeartbeats 1000000 in
theorem ref32_num_sim {g : World} {T0 : Nat → Prop} {w0 : World} {R : Assn} {p0 : Int} {r : (List Int)} (hS : Sep g T0 w0 [R])  (hm : ref32_num p0 = some r) :
    Calls Try.prog 22 #[.int .i64 p0] w0 (RetS T0 w0 fun T w v => ∃ (a2 : Option Addr) (n2 : Nat) (c2 : Nat), v = .slice a2 n2 c2 ∧ Sep g T w [R, ownA (rInt .u8) 5 (.slice a2 n2 c2) r] ∧ True) := by
  refine enter (args := [.int .i64 p0]) Try.func22 rfl Try.ntmps22 rfl fun J => ?_
  unfold ref32_num at hm
  refine sq2 ?_
  refine rg (pv (r_zs rfl) (nil (t_then ?_)))
  refine sq2 ?_
  refine rg (pv (r_mi rfl) (pv (r_irm rfl rfl (by decide)) (pv (r_cv rfl Try.underlying3 Try.underlying5) (pv (r_mi rfl) (pv (r_iq rfl rfl (by decide)) (pv (r_irm rfl rfl (by decide)) (pv (r_cv rfl Try.underlying3 Try.underlying5) (pv (r_mi rfl) (pv (r_iq rfl rfl (by decide)) (pv (r_irm rfl rfl (by decide)) (pv (r_cv rfl Try.underlying3 Try.underlying5) (pv (r_mi rfl) (pv (r_iq rfl rfl (by decide)) (pv (r_cv rfl Try.underlying3 Try.underlying5) (wl rfl (bsS (r := (rInt .u8)) (l := ([IntKind.wrap .u8 (Int.tmod p0 256), IntKind.wrap .u8 (Int.tmod (IntKind.wrap .i64 (Int.tdiv p0 256)) 256), IntKind.wrap .u8 (Int.tmod (IntKind.wrap .i64 (Int.tdiv p0 65536)) 256), IntKind.wrap .u8 (IntKind.wrap .i64 (Int.tdiv p0 16777216))] : List Int)) (css := [[.int .u8 (IntKind.wrap .u8 (Int.tmod p0 256))], [.int .u8 (IntKind.wrap .u8 (Int.tmod (IntKind.wrap .i64 (Int.tdiv p0 256)) 256))], [.int .u8 (IntKind.wrap .u8 (Int.tmod (IntKind.wrap .i64 (Int.tdiv p0 65536)) 256))], [.int .u8 (IntKind.wrap .u8 (IntKind.wrap .i64 (Int.tdiv p0 16777216)))]]) hS Try.underlying23 Try.sizeOf5 Try.zeroValue5 rfl rfl (by kernel_rfl) rfl ⟨rfl, rfl, rfl, rfl, trivial⟩ rfl rfl fun w1 a1 n1 c1 im1 hS1 => ?_))))))))))))))))
  refine pv (r_zs rfl) (nil (t_thenR [(2, .slice a1 n1 c1)] ⟨rfl, trivial⟩ fun J => ?_))
  have hm := Option.some.inj hm
  subst hm
  exact rtn (ret1 rfl rfl ⟨_, rfl, _, im1, ⟨_, _, _, rfl, hS1.sel [1, 0] rfl, trivial⟩⟩)

set_option maxRecDepth 100000 in
set_option maxHeartbeats 1000000 in
theorem ref32_join_sim {g : World} {T0 : Nat → Prop} {w0 : World} {R : Assn} {p0 : List Int} {a1 : Option Addr} {n1 : Nat} {c1 : Nat} {p1 : List Int} {a2 : Option Addr} {c2 : Nat} {r : (List Int)} (hS : Sep g T0 w0 [R, ownA (rInt .u8) 5 (.slice a1 n1 c1) p0]) (h1 : SlR (rInt .u8) T0 w0 (.slice a2 (List.length p1) c2) p1) (hm : ref32_join p0 p1 = some r) :
    Calls Try.prog 21 #[.slice a1 n1 c1, .slice a2 (List.length p1) c2] w0 (RetS T0 w0 fun T w v => ∃ (a6 : Option Addr) (n5 : Nat) (c6 : Nat), v = .slice a6 n5 c6 ∧ Sep g T w [R, ownA (rInt .u8) 5 (.slice a6 n5 c6) r] ∧ True) := by
  refine enter (args := [.slice a1 n1 c1, .slice a2 (List.length p1) c2]) Try.func21 rfl Try.ntmps21 rfl fun J => ?_
  unfold ref32_join at hm
  refine sq2 ?_
  refine rg (pv (r_zs rfl) (nil (t_then ?_)))
  refine sq2 ?_
  refine sq2 ?_
  refine rg (pv (r_zi rfl) (nil (t_then ?_)))
  obtain ⟨o1, ho1, hq1⟩ := bindS hm
  obtain ⟨bd1, hbd1, ho1⟩ := loop_open ho1
  refine blk (wp_loop_ghost (fun m a w1 => ∃ (J : Nat → Value) (T1 : Nat → Prop) (x1 : List Int) (a3 : Option Addr) (n2 : Nat) (c3 : Nat) (x2 : Int), a = env (nf 20) J [(0, .slice a3 n2 c3), (1, .slice a2 (List.length p1) c2), (5, .int .i64 x2)] ∧ Im T0 w0 T1 w1 ∧ Sep g T1 w1 [R, ownA (rInt .u8) 5 (.slice a3 n2 c3) x1] ∧ loopM bd1 m (x1, x2) = some o1) NN ⟨_, _, p0, _, _, _, 0, env_has ⟨rfl, rfl, rfl, trivial⟩, Im.refl, hS.sel [0, 1] rfl, ho1⟩ ?_)
  rintro m _ w1 ⟨J, T1, x1, a3, n2, c3, x2, rfl, im1, hS1, ho1⟩
  obtain ⟨m1, z1, rfl, hm, hn1⟩ := loop_round ho1
  rw [hbd1] at hm
  refine sq2 ?_
  refine sq2 ?_
  refine rg (pv (r_mi rfl) (pv (r_ms rfl) (pv (r_ln rfl Try.underlying23) (pv (r_ib rfl rfl rfl) (nil (t_then ?_))))))
  refine cnd rfl (fun hb1 => ?_) (fun hb1 => ?_)
  · have hm := ctrue hb1 hm
    refine skp (t_then ?_)
    refine sq2 ?_
    refine blk ?_
    obtain ⟨u1, hx1, hm⟩ := bindS hm
    obtain ⟨b1, of1, cs1, k1, cp1, hv1, hp1, hl1, he1, hr1, hc1, hT1⟩ := (h1.mono im1).ixT hx1 rfl
    cases hr1
    refine rg (pv (r_ms rfl) (pv (r_ms rfl) (pv (r_mi rfl) (pv (r_ixe hv1 rfl Try.underlying23 Try.sizeOf5 hp1 hl1 he1) (pv (r_ld rfl Try.isAgg5 (hc1.get (j := 0) rfl)) (wl rfl (bsS (r := (rInt .u8)) (l := ([u1] : List Int)) (css := [[.int .u8 u1]]) hS1 Try.underlying23 Try.sizeOf5 Try.zeroValue5 rfl rfl (by kernel_rfl) rfl ⟨rfl, trivial⟩ rfl rfl fun w2 a4 n3 c4 im2 hS2 => ?_)))))))
    obtain ⟨z_1, hro1, hm⟩ := bindS hm
    refine wl rfl (apO (q := 2) (l := x1) (us := ([u1] : List Int)) hS2 ⟨rfl, rfl⟩ rfl rfl (hS2.own (i := 0) ⟨rfl, rfl⟩).v Try.underlying23 el5 (room_some hro1) fun w3 a5 n4 c5 im3 hS3 => ?_)
    have hS3 : Sep g T1 w3 [ownA (rInt .u8) 5 (.slice a4 n3 c4) ([u1] : List Int), R, ownA (rInt .u8) 5 (.slice a5 n4 c5) (x1 ++ ([u1] : List Int))] := hS3
    refine pv (r_zs rfl) (nil (t_blk (t_thenR [(0, .slice a5 n4 c5), (1, .slice a2 (List.length p1) c2), (5, .int .i64 x2)] ⟨rfl, rfl, rfl, trivial⟩ fun J => ?_)))
    have hm := Option.some.inj hm
    subst hm
    exact rg (pv (r_mi rfl) (pv (r_ib rfl rfl rfl) (pv (r_zi rfl) (nil (t_then ⟨m1, Nat.lt_succ_self _, _, _, (x1 ++ ([u1] : List Int)), _, _, _, (IntKind.wrap .i64 (x2 + 1)), env_has ⟨rfl, rfl, rfl, trivial⟩, (Im.trans im1 (Im.trans im2 im3)), hS3.sel [1, 2] rfl, hn1⟩)))))
  · have hm := cfalse hb1 hm
    have hm := Option.some.inj hm
    subst hm
    have hn1 : _ = Lp.brk _ := hn1
    subst hn1
    have hm := thn_brk hq1
    refine xt (x_then (x_then (x_eq (t_thenR [(0, .slice a3 n2 c3)] ⟨rfl, trivial⟩ fun J => ?_))))
    refine sq2 ?_
    refine rg (pv (r_ms rfl) (pv (r_zs rfl) (nil (t_then ?_))))
    have hm := Option.some.inj hm
    subst hm
    exact rtn (ret1 rfl rfl ⟨_, rfl, _, im1, ⟨_, _, _, rfl, hS1.sel [0, 1] rfl, trivial⟩⟩)

set_option maxRecDepth 100000 in
set_option maxHeartbeats 1000000 in
theorem ref32_noughts_sim {g : World} {T0 : Nat → Prop} {w0 : World} {R : Assn} {p0 : List Int} {a1 : Option Addr} {c1 : Nat} {p1 : Int} {r : Int} (hS : Sep g T0 w0 [R]) (h1 : SlR (rInt .u8) T0 w0 (.slice a1 (List.length p0) c1) p0) (hm : ref32_noughts p0 p1 = some r) :
    Calls Try.prog 32 #[.slice a1 (List.length p0) c1, .int .i64 p1] w0 (RetS T0 w0 fun T w v => v = .int .i64 r ∧ Sep g T w [R] ∧ True) := by
  refine enter (args := [.slice a1 (List.length p0) c1, .int .i64 p1]) Try.func32 rfl Try.ntmps32 rfl fun J => ?_
  unfold ref32_noughts at hm
  refine sq2 ?_
  refine rg (pv (r_zi rfl) (nil (t_then ?_)))
  refine sq2 ?_
  refine rg (pv (r_zi rfl) (nil (t_then ?_)))
  refine sq2 ?_
  obtain ⟨o1, ho1, hq1⟩ := bindS hm
  obtain ⟨bd1, hbd1, ho1⟩ := loop_open ho1
  refine blk (wp_loop_ghost (fun m a w1 => ∃ (J : Nat → Value) (T1 : Nat → Prop) (x1 : Int), a = env (nf 24) J [(0, .slice a1 (List.length p0) c1), (1, .int .i64 p1), (5, .int .i64 x1)] ∧ Im T0 w0 T1 w1 ∧ Sep g T1 w1 [R] ∧ loopM bd1 m x1 = some o1) NN ⟨_, _, 0, env_has ⟨rfl, rfl, rfl, trivial⟩, Im.refl, hS.sel [0] rfl, ho1⟩ ?_)
  rintro m _ w1 ⟨J, T1, x1, rfl, im1, hS1, ho1⟩
  obtain ⟨m1, z1, rfl, hm, hn1⟩ := loop_round ho1
  rw [hbd1] at hm
  refine sq2 ?_
  refine sq2 ?_
  refine rg (pv (r_mi rfl) (pv (r_mi rfl) (pv (r_ib rfl rfl rfl) (pv (r_ms rfl) (pv (r_ln rfl Try.underlying23) (pv (r_ib rfl rfl rfl) (pv (r_mb rfl) (?_))))))))
  rcases Bool.eq_false_or_eq_true (decide ((IntKind.wrap .i64 (p1 + x1)) < (List.length p0 : Int))) with hb1 | hb1
  · have hm := ctrue hb1 hm
    obtain ⟨u1, hx1, hm⟩ := bindS hm
    obtain ⟨b1, of1, cs1, k1, cp1, hv1, hp1, hl1, he1, hr1, hc1, hT1⟩ := (h1.mono im1).ixT hx1 rfl
    cases hr1
    refine gT (d0 := 12) rfl rfl hb1 (pv (r_ms rfl) (gT (d0 := 12) rfl rfl hb1 (pv (r_mi rfl) (gT (d0 := 12) rfl rfl hb1 (pv (r_mi rfl) (gT (d0 := 12) rfl rfl hb1 (pv (r_ib rfl rfl rfl) (gT (d0 := 12) rfl rfl hb1 (pv (r_ixe hv1 rfl Try.underlying23 Try.sizeOf5 hp1 hl1 he1) (gT (d0 := 12) rfl rfl hb1 (pv (r_ld rfl Try.isAgg5 (hc1.get (j := 0) rfl)) (gT (d0 := 12) rfl rfl hb1 (pv (r_ib rfl rfl rfl) (pv (r_pkt rfl hb1 rfl) (nil (t_thenR [(0, .slice a1 (List.length p0) c1), (1, .int .i64 p1), (5, .int .i64 x1), (20, .bool (u1 == 0))] ⟨rfl, rfl, rfl, rfl, trivial⟩ fun J => ?_))))))))))))))))
    refine cnd rfl (fun hb2 => ?_) (fun hb2 => ?_)
    · have hm := ctrue hb2 hm
      refine skp (t_then ?_)
      refine blk ?_
      have hm := Option.some.inj hm
      subst hm
      exact rg (pv (r_mi rfl) (pv (r_ib rfl rfl rfl) (pv (r_zi rfl) (nil (t_blk (t_then ⟨m1, Nat.lt_succ_self _, _, _, (IntKind.wrap .i64 (x1 + 1)), env_has ⟨rfl, rfl, rfl, trivial⟩, im1, hS1.sel [0] rfl, hn1⟩))))))
    · have hm := cfalse hb2 hm
      have hm := Option.some.inj hm
      subst hm
      have hn1 : _ = Lp.brk _ := hn1
      subst hn1
      have hm := thn_brk hq1
      refine xt (x_then (x_then (x_eq (t_then ?_))))
      refine sq2 ?_
      refine rg (pv (r_mi rfl) (pv (r_zi rfl) (nil (t_thenR [(4, .int .i64 x1)] ⟨rfl, trivial⟩ fun J => ?_))))
      have hm := Option.some.inj hm
      subst hm
      exact rtn (ret1 rfl rfl ⟨_, rfl, _, im1, ⟨rfl, hS1.sel [0] rfl, trivial⟩⟩)
  · have hm := cfalse hb1 hm
    refine gF (d0 := 12) rfl rfl (by rw [hb1]; rfl) (gF (d0 := 12) rfl rfl (by rw [hb1]; rfl) (gF (d0 := 12) rfl rfl (by rw [hb1]; rfl) (gF (d0 := 12) rfl rfl (by rw [hb1]; rfl) (gF (d0 := 12) rfl rfl (by rw [hb1]; rfl) (gF (d0 := 12) rfl rfl (by rw [hb1]; rfl) (gF (d0 := 12) rfl rfl (by rw [hb1]; rfl) (pv (r_pkf rfl hb1 rfl) (nil (t_thenR [(0, .slice a1 (List.length p0) c1), (1, .int .i64 p1), (5, .int .i64 x1), (20, .bool false)] ⟨rfl, rfl, rfl, rfl, trivial⟩ fun J => ?_)))))))))
    refine cnd (b := false) rfl (fun h => nomatch h) (fun _ => ?_)
    have hm := Option.some.inj hm
    subst hm
    have hn1 : _ = Lp.brk _ := hn1
    subst hn1
    have hm := thn_brk hq1
    refine xt (x_then (x_then (x_eq (t_then ?_))))
    refine sq2 ?_
    refine rg (pv (r_mi rfl) (pv (r_zi rfl) (nil (t_thenR [(4, .int .i64 x1)] ⟨rfl, trivial⟩ fun J => ?_))))
    have hm := Option.some.inj hm
    subst hm
    exact rtn (ret1 rfl rfl ⟨_, rfl, _, im1, ⟨rfl, hS1.sel [0] rfl, trivial⟩⟩)

set_option maxRecDepth 100000 in
set_option maxHeartbeats 1000000 in
theorem ref32_begins_sim {g : World} {T0 : Nat → Prop} {w0 : World} {R : Assn} {p0 : List Int} {a1 : Option Addr} {c1 : Nat} {p1 : Int} {r : Bool} (hS : Sep g T0 w0 [R]) (h1 : SlR (rInt .u8) T0 w0 (.slice a1 (List.length p0) c1) p0) (hm : ref32_begins p0 p1 = some r) :
    Calls Try.prog 31 #[.slice a1 (List.length p0) c1, .int .i64 p1] w0 (RetS T0 w0 fun T w v => v = .bool r ∧ Sep g T w [R] ∧ True) := by
  refine enter (args := [.slice a1 (List.length p0) c1, .int .i64 p1]) Try.func31 rfl Try.ntmps31 rfl fun J => ?_
  unfold ref32_begins at hm
  refine sq2 ?_
  refine rg (pv (r_zb rfl) (nil (t_then ?_)))
  refine sq2 ?_
  obtain ⟨y1, hx1, hm⟩ := bindS hm
  refine rg (pv (r_ms rfl) (pv (r_mi rfl) (wl rfl (calS cf32 rfl (ref32_noughts_sim (p0 := p0) (p1 := p1) (hS.bun [0] [] rfl) h1 hx1) rfl fun v1 T1 w1 im1 rv1 => ?_))))
  obtain ⟨rfl, hS1, _⟩ := rv1
  have hS1 : Sep g T1 w1 [R] := hS1.unb
  refine pv (r_zi rfl) (nil (t_then ?_))
  refine sq2 ?_
  refine rg (pv (r_mi rfl) (pv (r_ib rfl rfl rfl) (pv (r_mb rfl) (?_))))
  rcases Bool.eq_false_or_eq_true (decide (3 ≤ y1)) with hb1 | hb1
  · have hm := ctrue hb1 hm
    refine gF (d0 := 11) rfl rfl (by rw [hb1]; rfl) (gF (d0 := 11) rfl rfl (by rw [hb1]; rfl) (gF (d0 := 11) rfl rfl (by rw [hb1]; rfl) (gU (d0 := 14) rfl rfl (gU (d0 := 14) rfl rfl (gU (d0 := 14) rfl rfl (gU (d0 := 14) rfl rfl (gU (d0 := 14) rfl rfl (gU (d0 := 14) rfl rfl (gF (d0 := 11) rfl rfl (by rw [hb1]; rfl) (pv (r_pkt rfl hb1 rfl) (pv (r_zb rfl) (nil (t_thenR [(4, .bool true)] ⟨rfl, trivial⟩ fun J => ?_)))))))))))))
    have hm := Option.some.inj hm
    subst hm
    exact rtn (ret1 rfl rfl ⟨_, rfl, _, im1, ⟨rfl, hS1.sel [0] rfl, trivial⟩⟩)
  · have hm := cfalse hb1 hm
    refine gT (d0 := 11) rfl rfl hb1 (pv (r_mi rfl) (gT (d0 := 11) rfl rfl hb1 (pv (r_ib rfl rfl rfl) (gT (d0 := 11) rfl rfl hb1 (pv (r_mb rfl) (?_))))))
    rcases Bool.eq_false_or_eq_true (decide (1 ≤ y1)) with hb2 | hb2
    · have hm := ctrue hb2 hm
      refine gT (d0 := 14) rfl rfl hb2 (pv (r_mi rfl) (gT (d0 := 14) rfl rfl hb2 (pv (r_mi rfl) (gT (d0 := 14) rfl rfl hb2 (pv (r_ib rfl rfl rfl) (gT (d0 := 14) rfl rfl hb2 (pv (r_ms rfl) (gT (d0 := 14) rfl rfl hb2 (pv (r_ln rfl Try.underlying23) (gT (d0 := 14) rfl rfl hb2 (pv (r_ib rfl rfl rfl) (gT (d0 := 11) rfl rfl hb1 (pv (r_pkt rfl hb2 rfl) (pv (r_pkf rfl hb1 rfl) (pv (r_zb rfl) (nil (t_thenR [(4, .bool ((IntKind.wrap .i64 (p1 + y1)) == (List.length p0 : Int)))] ⟨rfl, trivial⟩ fun J => ?_)))))))))))))))))
      have hm := Option.some.inj hm
      subst hm
      exact rtn (ret1 rfl rfl ⟨_, rfl, _, im1, ⟨rfl, hS1.sel [0] rfl, trivial⟩⟩)
    · have hm := cfalse hb2 hm
      refine gF (d0 := 14) rfl rfl (by rw [hb2]; rfl) (gF (d0 := 14) rfl rfl (by rw [hb2]; rfl) (gF (d0 := 14) rfl rfl (by rw [hb2]; rfl) (gF (d0 := 14) rfl rfl (by rw [hb2]; rfl) (gF (d0 := 14) rfl rfl (by rw [hb2]; rfl) (gF (d0 := 14) rfl rfl (by rw [hb2]; rfl) (gT (d0 := 11) rfl rfl hb1 (pv (r_pkf rfl hb2 rfl) (pv (r_pkf rfl hb1 rfl) (pv (r_zb rfl) (nil (t_thenR [(4, .bool false)] ⟨rfl, trivial⟩ fun J => ?_)))))))))))
      have hm := Option.some.inj hm
      subst hm
      exact rtn (ret1 rfl rfl ⟨_, rfl, _, im1, ⟨rfl, hS1.sel [0] rfl, trivial⟩⟩)

set_option maxRecDepth 100000 in
set_option maxHeartbeats 1000000 in
theorem ref32_Runs_sim {g : World} {T0 : Nat → Prop} {w0 : World} {R : Assn} {p0 : List Int} {a1 : Option Addr} {c1 : Nat} {r : (List Int)} (hS : Sep g T0 w0 [R]) (h1 : SlR (rInt .u8) T0 w0 (.slice a1 (List.length p0) c1) p0) (hm : ref32_Runs p0 = some r) :
    Calls Try.prog 23 #[.slice a1 (List.length p0) c1] w0 (RetS T0 w0 fun T w v => ∃ (a20 : Option Addr) (n19 : Nat) (c20 : Nat), v = .slice a20 n19 c20 ∧ Sep g T w [R, ownA (rInt .u8) 5 (.slice a20 n19 c20) r] ∧ True) := by
  refine enter (args := [.slice a1 (List.length p0) c1]) Try.func23 rfl Try.ntmps23 rfl fun J => ?_
  unfold ref32_Runs at hm
  refine sq2 ?_
  refine rg (pv (r_zs rfl) (nil (t_then ?_)))
  refine sq2 ?_
  refine rg (pv (r_zs rfl) (nil (t_then ?_)))
  refine sq2 ?_
  refine rg (pv (r_zi rfl) (nil (t_then ?_)))
  refine sq2 ?_
  obtain ⟨o1, ho1, hq1⟩ := bindS hm
  obtain ⟨bd1, hbd1, ho1⟩ := loop_open ho1
  have hS1 := hS.nilO (rInt .u8) 5
  refine blk (wp_loop_ghost (fun m a w1 => ∃ (J : Nat → Value) (T1 : Nat → Prop) (x1 : List Int) (a2 : Option Addr) (n1 : Nat) (c2 : Nat) (x2 : Int), a = env (nf 71) J [(0, .slice a1 (List.length p0) c1), (3, .slice a2 n1 c2), (4, .int .i64 x2)] ∧ Im T0 w0 T1 w1 ∧ Sep g T1 w1 [ownA (rInt .u8) 5 (.slice a2 n1 c2) x1, R] ∧ loopM bd1 m (x1, x2) = some o1) NN ⟨_, _, [], _, _, _, 0, env_has ⟨rfl, rfl, rfl, trivial⟩, Im.refl, hS1.sel [0, 1] rfl, ho1⟩ ?_)
  rintro m _ w1 ⟨J, T1, x1, a2, n1, c2, x2, rfl, im1, hS2, ho1⟩
  obtain ⟨m1, z1, rfl, hm, hn1⟩ := loop_round ho1
  rw [hbd1] at hm
  refine sq2 ?_
  refine sq2 ?_
  refine rg (pv (r_mi rfl) (pv (r_ms rfl) (pv (r_ln rfl Try.underlying23) (pv (r_ib rfl rfl rfl) (nil (t_then ?_))))))
  refine cnd rfl (fun hb1 => ?_) (fun hb1 => ?_)
  · have hm := ctrue hb1 hm
    refine skp (t_then ?_)
    refine blk ?_
    refine sq2 ?_
    refine sq2 ?_
    obtain ⟨y1, hx1, hm⟩ := bindS hm
    refine rg (pv (r_ms rfl) (pv (r_mi rfl) (wl rfl (calS cf31 rfl (ref32_begins_sim (p0 := p0) (p1 := x2) (hS2.bun [0, 1] [] rfl) (h1.mono im1) hx1) rfl fun v1 T2 w2 im2 rv1 => ?_))))
    obtain ⟨rfl, hS3, _⟩ := rv1
    have hS3 : Sep g T2 w2 [ownA (rInt .u8) 5 (.slice a2 n1 c2) x1, R] := hS3.unb
    refine nil (t_thenR [(0, .slice a1 (List.length p0) c1), (3, .slice a2 n1 c2), (4, .int .i64 x2), (14, .bool y1)] ⟨rfl, rfl, rfl, rfl, trivial⟩ fun J => ?_)
    refine cnd rfl (fun hb2 => ?_) (fun hb2 => ?_)
    · have hm := ctrue hb2 hm
      refine sq2 ?_
      obtain ⟨y2, hx2, hm⟩ := bindS hm
      refine rg (pv (r_ms rfl) (pv (r_mi rfl) (wl rfl (calS cf32 rfl (ref32_noughts_sim (p0 := p0) (p1 := x2) (hS3.bun [0, 1] [] rfl) (h1.mono (Im.trans im1 im2)) hx2) rfl fun v2 T3 w3 im3 rv2 => ?_))))
      obtain ⟨rfl, hS4, _⟩ := rv2
      have hS4 : Sep g T3 w3 [ownA (rInt .u8) 5 (.slice a2 n1 c2) x1, R] := hS4.unb
      refine pv (r_imn rfl rfl) (pv (r_zi rfl) (nil (t_thenR [(0, .slice a1 (List.length p0) c1), (3, .slice a2 n1 c2), (4, .int .i64 x2), (5, .int .i64 (min y2 128))] ⟨rfl, rfl, rfl, rfl, trivial⟩ fun J => ?_)))
      refine sq2 ?_
      refine rg (pv (r_ms rfl) (pv (r_mi rfl) (pv (r_ib rfl rfl rfl) (pv (r_cv rfl Try.underlying3 Try.underlying5) (wl rfl (bsS (r := (rInt .u8)) (l := ([IntKind.wrap .u8 (IntKind.wrap .i64 (127 + (min y2 128)))] : List Int)) (css := [[.int .u8 (IntKind.wrap .u8 (IntKind.wrap .i64 (127 + (min y2 128))))]]) hS4 Try.underlying23 Try.sizeOf5 Try.zeroValue5 rfl rfl (by kernel_rfl) rfl ⟨rfl, trivial⟩ rfl rfl fun w4 a3 n2 c3 im4 hS5 => ?_))))))
      obtain ⟨z_1, hro1, hm⟩ := bindS hm
      refine wl rfl (apO (q := 1) (l := x1) (us := ([IntKind.wrap .u8 (IntKind.wrap .i64 (127 + (min y2 128)))] : List Int)) hS5 ⟨rfl, rfl⟩ rfl rfl (hS5.own (i := 0) ⟨rfl, rfl⟩).v Try.underlying23 el5 (room_some hro1) fun w5 a4 n3 c4 im5 hS6 => ?_)
      have hS6 : Sep g T3 w5 [ownA (rInt .u8) 5 (.slice a3 n2 c3) ([IntKind.wrap .u8 (IntKind.wrap .i64 (127 + (min y2 128)))] : List Int), ownA (rInt .u8) 5 (.slice a4 n3 c4) (x1 ++ ([IntKind.wrap .u8 (IntKind.wrap .i64 (127 + (min y2 128)))] : List Int)), R] := hS6
      refine pv (r_zs rfl) (nil (t_thenR [(0, .slice a1 (List.length p0) c1), (3, .slice a4 n3 c4), (4, .int .i64 x2), (5, .int .i64 (min y2 128))] ⟨rfl, rfl, rfl, rfl, trivial⟩ fun J => ?_))
      refine sq2 ?_
      refine rg (pv (r_mi rfl) (pv (r_mi rfl) (pv (r_ib rfl rfl rfl) (pv (r_zi rfl) (nil (t_thenR [(0, .slice a1 (List.length p0) c1), (3, .slice a4 n3 c4), (4, .int .i64 (IntKind.wrap .i64 (x2 + (min y2 128))))] ⟨rfl, rfl, rfl, trivial⟩ fun J => ?_))))))
      have hm := Option.some.inj hm
      subst hm
      exact xt (x_then (x_eq (t_then ⟨m1, Nat.lt_succ_self _, _, _, (x1 ++ ([IntKind.wrap .u8 (IntKind.wrap .i64 (127 + (min y2 128)))] : List Int)), _, _, _, (IntKind.wrap .i64 (x2 + (min y2 128))), env_has ⟨rfl, rfl, rfl, trivial⟩, (Im.trans im1 (Im.trans im2 (Im.trans im3 (Im.trans im4 im5)))), hS6.sel [1, 2] rfl, hn1⟩)))
    · have hm := cfalse hb2 hm
      refine skp (t_then ?_)
      refine sq2 ?_
      refine rg (pv (r_zi rfl) (nil (t_then ?_)))
      refine sq2 ?_
      obtain ⟨o2, ho2, hq2⟩ := bindS hm
      obtain ⟨bd2, hbd2, ho2⟩ := loop_open ho2
      refine blk (wp_loop_ghost (fun m a w6 => ∃ (J : Nat → Value) (T4 : Nat → Prop) (x3 : Int), a = env (nf 71) J [(0, .slice a1 (List.length p0) c1), (3, .slice a2 n1 c2), (4, .int .i64 x2), (6, .int .i64 x3)] ∧ Im T2 w2 T4 w6 ∧ Sep g T4 w6 [ownA (rInt .u8) 5 (.slice a2 n1 c2) x1, R] ∧ loopM bd2 m x3 = some o2) NN ⟨_, _, 0, env_has ⟨rfl, rfl, rfl, rfl, trivial⟩, Im.refl, hS3.sel [0, 1] rfl, ho2⟩ ?_)
      rintro m _ w6 ⟨J, T4, x3, rfl, im6, hS7, ho2⟩
      obtain ⟨m2, z2, rfl, hm, hn2⟩ := loop_round ho2
      rw [hbd2] at hm
      refine sq2 ?_
      refine sq2 ?_
      refine rg (pv (r_mi rfl) (pv (r_mi rfl) (pv (r_ib rfl rfl rfl) (pv (r_ms rfl) (pv (r_ln rfl Try.underlying23) (pv (r_ib rfl rfl rfl) (pv (r_mb rfl) (?_))))))))
      rcases Bool.eq_false_or_eq_true (decide ((IntKind.wrap .i64 (x2 + x3)) < (List.length p0 : Int))) with hb3 | hb3
      · have hm := ctrue hb3 hm
        refine gT (d0 := 34) rfl rfl hb3 (pv (r_mi rfl) (gT (d0 := 34) rfl rfl hb3 (pv (r_ib rfl rfl rfl) (pv (r_pkt rfl hb3 rfl) (pv (r_mb rfl) (?_))))))
        rcases Bool.eq_false_or_eq_true (decide (x3 < 127)) with hb4 | hb4
        · have hm := ctrue hb4 hm
          obtain ⟨y3, hx3, hm⟩ := bindS hm
          refine gT (d0 := 38) rfl rfl hb4 (pv (r_ms rfl) (gT (d0 := 38) rfl rfl hb4 (pv (r_mi rfl) (gT (d0 := 38) rfl rfl hb4 (pv (r_mi rfl) (gT (d0 := 38) rfl rfl hb4 (pv (r_ib rfl rfl rfl) (gT (d0 := 38) rfl rfl hb4 (wl rfl (calS cf31 rfl (ref32_begins_sim (p0 := p0) (p1 := IntKind.wrap .i64 (x2 + x3)) (hS7.bun [0, 1] [] rfl) (h1.mono (Im.trans im1 (Im.trans im2 im6))) hx3) rfl fun v3 T5 w7 im7 rv3 => ?_))))))))))
          obtain ⟨rfl, hS8, _⟩ := rv3
          have hS8 : Sep g T5 w7 [ownA (rInt .u8) 5 (.slice a2 n1 c2) x1, R] := hS8.unb
          refine gT (d0 := 38) rfl rfl hb4 (pv (r_nt rfl) (pv (r_pkt rfl hb4 rfl) (nil (t_thenR [(0, .slice a1 (List.length p0) c1), (3, .slice a2 n1 c2), (4, .int .i64 x2), (6, .int .i64 x3), (45, .bool (!y3))] ⟨rfl, rfl, rfl, rfl, rfl, trivial⟩ fun J => ?_))))
          refine cnd rfl (fun hb5 => ?_) (fun hb5 => ?_)
          · have hm := ctrue hb5 hm
            refine skp (t_then ?_)
            refine blk ?_
            have hm := Option.some.inj hm
            subst hm
            exact rg (pv (r_mi rfl) (pv (r_ib rfl rfl rfl) (pv (r_zi rfl) (nil (t_blk (t_then ⟨m2, Nat.lt_succ_self _, _, _, (IntKind.wrap .i64 (x3 + 1)), env_has ⟨rfl, rfl, rfl, rfl, trivial⟩, (Im.trans im6 im7), hS8.sel [0, 1] rfl, hn2⟩))))))
          · have hm := cfalse hb5 hm
            have hm := Option.some.inj hm
            subst hm
            have hn2 : _ = Lp.brk _ := hn2
            subst hn2
            have hm := thn_brk hq2
            refine xt (x_then (x_then (x_eq (t_then ?_))))
            refine sq2 ?_
            refine rg (pv (r_ms rfl) (pv (r_mi rfl) (pv (r_cv rfl Try.underlying3 Try.underlying5) (wl rfl (bsS (r := (rInt .u8)) (l := ([IntKind.wrap .u8 x3] : List Int)) (css := [[.int .u8 (IntKind.wrap .u8 x3)]]) hS8 Try.underlying23 Try.sizeOf5 Try.zeroValue5 rfl rfl (by kernel_rfl) rfl ⟨rfl, trivial⟩ rfl rfl fun w8 a5 n4 c5 im8 hS9 => ?_)))))
            obtain ⟨z_2, hro2, hm⟩ := bindS hm
            refine wl rfl (apO (q := 1) (l := x1) (us := ([IntKind.wrap .u8 x3] : List Int)) hS9 ⟨rfl, rfl⟩ rfl rfl (hS9.own (i := 0) ⟨rfl, rfl⟩).v Try.underlying23 el5 (room_some hro2) fun w9 a6 n5 c6 im9 hS10 => ?_)
            have hS10 : Sep g T5 w9 [ownA (rInt .u8) 5 (.slice a5 n4 c5) ([IntKind.wrap .u8 x3] : List Int), ownA (rInt .u8) 5 (.slice a6 n5 c6) (x1 ++ ([IntKind.wrap .u8 x3] : List Int)), R] := hS10
            refine pv (r_zs rfl) (nil (t_thenR [(0, .slice a1 (List.length p0) c1), (3, .slice a6 n5 c6), (4, .int .i64 x2), (6, .int .i64 x3)] ⟨rfl, rfl, rfl, rfl, trivial⟩ fun J => ?_))
            refine sq2 ?_
            refine sq2 ?_
            refine rg (pv (r_zi rfl) (nil (t_then ?_)))
            obtain ⟨o2, ho2, hq2⟩ := bindS hm
            obtain ⟨bd2, hbd2, ho2⟩ := loop_open ho2
            refine blk (wp_loop_ghost (fun m a w10 => ∃ (J : Nat → Value) (T6 : Nat → Prop) (x4 : List Int) (a7 : Option Addr) (n6 : Nat) (c7 : Nat) (x5 : Int), a = env (nf 71) J [(0, .slice a1 (List.length p0) c1), (3, .slice a7 n6 c7), (4, .int .i64 x2), (6, .int .i64 x3), (7, .int .i64 x5)] ∧ Im T5 w9 T6 w10 ∧ Sep g T6 w10 [ownA (rInt .u8) 5 (.slice a7 n6 c7) x4, R] ∧ loopM bd2 m (x4, x5) = some o2) NN ⟨_, _, (x1 ++ ([IntKind.wrap .u8 x3] : List Int)), _, _, _, 0, env_has ⟨rfl, rfl, rfl, rfl, rfl, trivial⟩, Im.refl, hS10.sel [1, 2] rfl, ho2⟩ ?_)
            rintro m _ w10 ⟨J, T6, x4, a7, n6, c7, x5, rfl, im10, hS11, ho2⟩
            obtain ⟨m2, z2, rfl, hm, hn2⟩ := loop_round ho2
            rw [hbd2] at hm
            refine sq2 ?_
            refine sq2 ?_
            refine rg (pv (r_mi rfl) (pv (r_mi rfl) (pv (r_ib rfl rfl rfl) (nil (t_then ?_)))))
            refine cnd rfl (fun hb6 => ?_) (fun hb6 => ?_)
            · have hm := ctrue hb6 hm
              refine skp (t_then ?_)
              refine sq2 ?_
              refine blk ?_
              obtain ⟨u1, hx4, hm⟩ := bindS hm
              obtain ⟨b1, of1, cs1, k1, cp1, hv1, hp1, hl1, he1, hr1, hc1, hT1⟩ := (h1.mono (Im.trans im1 (Im.trans im2 (Im.trans im6 (Im.trans im7 (Im.trans im8 (Im.trans im9 im10))))))).ixT hx4 rfl
              cases hr1
              refine rg (pv (r_ms rfl) (pv (r_ms rfl) (pv (r_mi rfl) (pv (r_mi rfl) (pv (r_ib rfl rfl rfl) (pv (r_ixe hv1 rfl Try.underlying23 Try.sizeOf5 hp1 hl1 he1) (pv (r_ld rfl Try.isAgg5 (hc1.get (j := 0) rfl)) (wl rfl (bsS (r := (rInt .u8)) (l := ([u1] : List Int)) (css := [[.int .u8 u1]]) hS11 Try.underlying23 Try.sizeOf5 Try.zeroValue5 rfl rfl (by kernel_rfl) rfl ⟨rfl, trivial⟩ rfl rfl fun w11 a8 n7 c8 im11 hS12 => ?_)))))))))
              obtain ⟨z_3, hro3, hm⟩ := bindS hm
              refine wl rfl (apO (q := 1) (l := x4) (us := ([u1] : List Int)) hS12 ⟨rfl, rfl⟩ rfl rfl (hS12.own (i := 0) ⟨rfl, rfl⟩).v Try.underlying23 el5 (room_some hro3) fun w12 a9 n8 c9 im12 hS13 => ?_)
              have hS13 : Sep g T6 w12 [ownA (rInt .u8) 5 (.slice a8 n7 c8) ([u1] : List Int), ownA (rInt .u8) 5 (.slice a9 n8 c9) (x4 ++ ([u1] : List Int)), R] := hS13
              refine pv (r_zs rfl) (nil (t_blk (t_thenR [(0, .slice a1 (List.length p0) c1), (3, .slice a9 n8 c9), (4, .int .i64 x2), (6, .int .i64 x3), (7, .int .i64 x5)] ⟨rfl, rfl, rfl, rfl, rfl, trivial⟩ fun J => ?_)))
              have hm := Option.some.inj hm
              subst hm
              exact rg (pv (r_mi rfl) (pv (r_ib rfl rfl rfl) (pv (r_zi rfl) (nil (t_then ⟨m2, Nat.lt_succ_self _, _, _, (x4 ++ ([u1] : List Int)), _, _, _, (IntKind.wrap .i64 (x5 + 1)), env_has ⟨rfl, rfl, rfl, rfl, rfl, trivial⟩, (Im.trans im10 (Im.trans im11 im12)), hS13.sel [1, 2] rfl, hn2⟩)))))
            · have hm := cfalse hb6 hm
              have hm := Option.some.inj hm
              subst hm
              have hn2 : _ = Lp.brk _ := hn2
              subst hn2
              have hm := thn_brk hq2
              refine xt (x_then (x_then (x_eq (t_then ?_))))
              have hm := Option.some.inj hm
              subst hm
              exact rg (pv (r_mi rfl) (pv (r_mi rfl) (pv (r_ib rfl rfl rfl) (pv (r_zi rfl) (nil (t_blk (t_then ⟨m1, Nat.lt_succ_self _, _, _, x4, _, _, _, (IntKind.wrap .i64 (x2 + x3)), env_has ⟨rfl, rfl, rfl, trivial⟩, (Im.trans im1 (Im.trans im2 (Im.trans im6 (Im.trans im7 (Im.trans im8 (Im.trans im9 im10)))))), hS11.sel [0, 1] rfl, hn1⟩)))))))
        · have hm := cfalse hb4 hm
          refine gF (d0 := 38) rfl rfl (by rw [hb4]; rfl) (gF (d0 := 38) rfl rfl (by rw [hb4]; rfl) (gF (d0 := 38) rfl rfl (by rw [hb4]; rfl) (gF (d0 := 38) rfl rfl (by rw [hb4]; rfl) (gF (d0 := 38) rfl rfl (by rw [hb4]; rfl) (gF (d0 := 38) rfl rfl (by rw [hb4]; rfl) (pv (r_pkf rfl hb4 rfl) (nil (t_thenR [(0, .slice a1 (List.length p0) c1), (3, .slice a2 n1 c2), (4, .int .i64 x2), (6, .int .i64 x3), (45, .bool false)] ⟨rfl, rfl, rfl, rfl, rfl, trivial⟩ fun J => ?_))))))))
          refine cnd (b := false) rfl (fun h => nomatch h) (fun _ => ?_)
          have hm := Option.some.inj hm
          subst hm
          have hn2 : _ = Lp.brk _ := hn2
          subst hn2
          have hm := thn_brk hq2
          refine xt (x_then (x_then (x_eq (t_then ?_))))
          refine sq2 ?_
          refine rg (pv (r_ms rfl) (pv (r_mi rfl) (pv (r_cv rfl Try.underlying3 Try.underlying5) (wl rfl (bsS (r := (rInt .u8)) (l := ([IntKind.wrap .u8 x3] : List Int)) (css := [[.int .u8 (IntKind.wrap .u8 x3)]]) hS7 Try.underlying23 Try.sizeOf5 Try.zeroValue5 rfl rfl (by kernel_rfl) rfl ⟨rfl, trivial⟩ rfl rfl fun w13 a10 n9 c10 im13 hS14 => ?_)))))
          obtain ⟨z_4, hro4, hm⟩ := bindS hm
          refine wl rfl (apO (q := 1) (l := x1) (us := ([IntKind.wrap .u8 x3] : List Int)) hS14 ⟨rfl, rfl⟩ rfl rfl (hS14.own (i := 0) ⟨rfl, rfl⟩).v Try.underlying23 el5 (room_some hro4) fun w14 a11 n10 c11 im14 hS15 => ?_)
          have hS15 : Sep g T4 w14 [ownA (rInt .u8) 5 (.slice a10 n9 c10) ([IntKind.wrap .u8 x3] : List Int), ownA (rInt .u8) 5 (.slice a11 n10 c11) (x1 ++ ([IntKind.wrap .u8 x3] : List Int)), R] := hS15
          refine pv (r_zs rfl) (nil (t_thenR [(0, .slice a1 (List.length p0) c1), (3, .slice a11 n10 c11), (4, .int .i64 x2), (6, .int .i64 x3)] ⟨rfl, rfl, rfl, rfl, trivial⟩ fun J => ?_))
          refine sq2 ?_
          refine sq2 ?_
          refine rg (pv (r_zi rfl) (nil (t_then ?_)))
          obtain ⟨o2, ho2, hq2⟩ := bindS hm
          obtain ⟨bd2, hbd2, ho2⟩ := loop_open ho2
          refine blk (wp_loop_ghost (fun m a w15 => ∃ (J : Nat → Value) (T7 : Nat → Prop) (x6 : List Int) (a12 : Option Addr) (n11 : Nat) (c12 : Nat) (x7 : Int), a = env (nf 71) J [(0, .slice a1 (List.length p0) c1), (3, .slice a12 n11 c12), (4, .int .i64 x2), (6, .int .i64 x3), (7, .int .i64 x7)] ∧ Im T4 w14 T7 w15 ∧ Sep g T7 w15 [ownA (rInt .u8) 5 (.slice a12 n11 c12) x6, R] ∧ loopM bd2 m (x6, x7) = some o2) NN ⟨_, _, (x1 ++ ([IntKind.wrap .u8 x3] : List Int)), _, _, _, 0, env_has ⟨rfl, rfl, rfl, rfl, rfl, trivial⟩, Im.refl, hS15.sel [1, 2] rfl, ho2⟩ ?_)
          rintro m _ w15 ⟨J, T7, x6, a12, n11, c12, x7, rfl, im15, hS16, ho2⟩
          obtain ⟨m2, z2, rfl, hm, hn2⟩ := loop_round ho2
          rw [hbd2] at hm
          refine sq2 ?_
          refine sq2 ?_
          refine rg (pv (r_mi rfl) (pv (r_mi rfl) (pv (r_ib rfl rfl rfl) (nil (t_then ?_)))))
          refine cnd rfl (fun hb8 => ?_) (fun hb8 => ?_)
          · have hm := ctrue hb8 hm
            refine skp (t_then ?_)
            refine sq2 ?_
            refine blk ?_
            obtain ⟨u2, hx5, hm⟩ := bindS hm
            obtain ⟨b2, of2, cs2, k2, cp2, hv2, hp2, hl2, he2, hr2, hc2, hT2⟩ := (h1.mono (Im.trans im1 (Im.trans im2 (Im.trans im6 (Im.trans im13 (Im.trans im14 im15)))))).ixT hx5 rfl
            cases hr2
            refine rg (pv (r_ms rfl) (pv (r_ms rfl) (pv (r_mi rfl) (pv (r_mi rfl) (pv (r_ib rfl rfl rfl) (pv (r_ixe hv2 rfl Try.underlying23 Try.sizeOf5 hp2 hl2 he2) (pv (r_ld rfl Try.isAgg5 (hc2.get (j := 0) rfl)) (wl rfl (bsS (r := (rInt .u8)) (l := ([u2] : List Int)) (css := [[.int .u8 u2]]) hS16 Try.underlying23 Try.sizeOf5 Try.zeroValue5 rfl rfl (by kernel_rfl) rfl ⟨rfl, trivial⟩ rfl rfl fun w16 a13 n12 c13 im16 hS17 => ?_)))))))))
            obtain ⟨z_5, hro5, hm⟩ := bindS hm
            refine wl rfl (apO (q := 1) (l := x6) (us := ([u2] : List Int)) hS17 ⟨rfl, rfl⟩ rfl rfl (hS17.own (i := 0) ⟨rfl, rfl⟩).v Try.underlying23 el5 (room_some hro5) fun w17 a14 n13 c14 im17 hS18 => ?_)
            have hS18 : Sep g T7 w17 [ownA (rInt .u8) 5 (.slice a13 n12 c13) ([u2] : List Int), ownA (rInt .u8) 5 (.slice a14 n13 c14) (x6 ++ ([u2] : List Int)), R] := hS18
            refine pv (r_zs rfl) (nil (t_blk (t_thenR [(0, .slice a1 (List.length p0) c1), (3, .slice a14 n13 c14), (4, .int .i64 x2), (6, .int .i64 x3), (7, .int .i64 x7)] ⟨rfl, rfl, rfl, rfl, rfl, trivial⟩ fun J => ?_)))
            have hm := Option.some.inj hm
            subst hm
            exact rg (pv (r_mi rfl) (pv (r_ib rfl rfl rfl) (pv (r_zi rfl) (nil (t_then ⟨m2, Nat.lt_succ_self _, _, _, (x6 ++ ([u2] : List Int)), _, _, _, (IntKind.wrap .i64 (x7 + 1)), env_has ⟨rfl, rfl, rfl, rfl, rfl, trivial⟩, (Im.trans im15 (Im.trans im16 im17)), hS18.sel [1, 2] rfl, hn2⟩)))))
          · have hm := cfalse hb8 hm
            have hm := Option.some.inj hm
            subst hm
            have hn2 : _ = Lp.brk _ := hn2
            subst hn2
            have hm := thn_brk hq2
            refine xt (x_then (x_then (x_eq (t_then ?_))))
            have hm := Option.some.inj hm
            subst hm
            exact rg (pv (r_mi rfl) (pv (r_mi rfl) (pv (r_ib rfl rfl rfl) (pv (r_zi rfl) (nil (t_blk (t_then ⟨m1, Nat.lt_succ_self _, _, _, x6, _, _, _, (IntKind.wrap .i64 (x2 + x3)), env_has ⟨rfl, rfl, rfl, trivial⟩, (Im.trans im1 (Im.trans im2 (Im.trans im6 (Im.trans im13 (Im.trans im14 im15))))), hS16.sel [0, 1] rfl, hn1⟩)))))))
      · have hm := cfalse hb3 hm
        refine gF (d0 := 34) rfl rfl (by rw [hb3]; rfl) (gF (d0 := 34) rfl rfl (by rw [hb3]; rfl) (pv (r_pkf rfl hb3 rfl) (pv (r_mb rfl) (gF (d0 := 38) rfl rfl rfl (gF (d0 := 38) rfl rfl rfl (gF (d0 := 38) rfl rfl rfl (gF (d0 := 38) rfl rfl rfl (gF (d0 := 38) rfl rfl rfl (gF (d0 := 38) rfl rfl rfl (pv (r_pkf rfl rfl rfl) (nil (t_thenR [(0, .slice a1 (List.length p0) c1), (3, .slice a2 n1 c2), (4, .int .i64 x2), (6, .int .i64 x3), (45, .bool false)] ⟨rfl, rfl, rfl, rfl, rfl, trivial⟩ fun J => ?_))))))))))))
        refine cnd (b := false) rfl (fun h => nomatch h) (fun _ => ?_)
        have hm := Option.some.inj hm
        subst hm
        have hn2 : _ = Lp.brk _ := hn2
        subst hn2
        have hm := thn_brk hq2
        refine xt (x_then (x_then (x_eq (t_then ?_))))
        refine sq2 ?_
        refine rg (pv (r_ms rfl) (pv (r_mi rfl) (pv (r_cv rfl Try.underlying3 Try.underlying5) (wl rfl (bsS (r := (rInt .u8)) (l := ([IntKind.wrap .u8 x3] : List Int)) (css := [[.int .u8 (IntKind.wrap .u8 x3)]]) hS7 Try.underlying23 Try.sizeOf5 Try.zeroValue5 rfl rfl (by kernel_rfl) rfl ⟨rfl, trivial⟩ rfl rfl fun w18 a15 n14 c15 im18 hS19 => ?_)))))
        obtain ⟨z_6, hro6, hm⟩ := bindS hm
        refine wl rfl (apO (q := 1) (l := x1) (us := ([IntKind.wrap .u8 x3] : List Int)) hS19 ⟨rfl, rfl⟩ rfl rfl (hS19.own (i := 0) ⟨rfl, rfl⟩).v Try.underlying23 el5 (room_some hro6) fun w19 a16 n15 c16 im19 hS20 => ?_)
        have hS20 : Sep g T4 w19 [ownA (rInt .u8) 5 (.slice a15 n14 c15) ([IntKind.wrap .u8 x3] : List Int), ownA (rInt .u8) 5 (.slice a16 n15 c16) (x1 ++ ([IntKind.wrap .u8 x3] : List Int)), R] := hS20
        refine pv (r_zs rfl) (nil (t_thenR [(0, .slice a1 (List.length p0) c1), (3, .slice a16 n15 c16), (4, .int .i64 x2), (6, .int .i64 x3)] ⟨rfl, rfl, rfl, rfl, trivial⟩ fun J => ?_))
        refine sq2 ?_
        refine sq2 ?_
        refine rg (pv (r_zi rfl) (nil (t_then ?_)))
        obtain ⟨o2, ho2, hq2⟩ := bindS hm
        obtain ⟨bd2, hbd2, ho2⟩ := loop_open ho2
        refine blk (wp_loop_ghost (fun m a w20 => ∃ (J : Nat → Value) (T8 : Nat → Prop) (x8 : List Int) (a17 : Option Addr) (n16 : Nat) (c17 : Nat) (x9 : Int), a = env (nf 71) J [(0, .slice a1 (List.length p0) c1), (3, .slice a17 n16 c17), (4, .int .i64 x2), (6, .int .i64 x3), (7, .int .i64 x9)] ∧ Im T4 w19 T8 w20 ∧ Sep g T8 w20 [ownA (rInt .u8) 5 (.slice a17 n16 c17) x8, R] ∧ loopM bd2 m (x8, x9) = some o2) NN ⟨_, _, (x1 ++ ([IntKind.wrap .u8 x3] : List Int)), _, _, _, 0, env_has ⟨rfl, rfl, rfl, rfl, rfl, trivial⟩, Im.refl, hS20.sel [1, 2] rfl, ho2⟩ ?_)
        rintro m _ w20 ⟨J, T8, x8, a17, n16, c17, x9, rfl, im20, hS21, ho2⟩
        obtain ⟨m2, z2, rfl, hm, hn2⟩ := loop_round ho2
        rw [hbd2] at hm
        refine sq2 ?_
        refine sq2 ?_
        refine rg (pv (r_mi rfl) (pv (r_mi rfl) (pv (r_ib rfl rfl rfl) (nil (t_then ?_)))))
        refine cnd rfl (fun hb10 => ?_) (fun hb10 => ?_)
        · have hm := ctrue hb10 hm
          refine skp (t_then ?_)
          refine sq2 ?_
          refine blk ?_
          obtain ⟨u3, hx6, hm⟩ := bindS hm
          obtain ⟨b3, of3, cs3, k3, cp3, hv3, hp3, hl3, he3, hr3, hc3, hT3⟩ := (h1.mono (Im.trans im1 (Im.trans im2 (Im.trans im6 (Im.trans im18 (Im.trans im19 im20)))))).ixT hx6 rfl
          cases hr3
          refine rg (pv (r_ms rfl) (pv (r_ms rfl) (pv (r_mi rfl) (pv (r_mi rfl) (pv (r_ib rfl rfl rfl) (pv (r_ixe hv3 rfl Try.underlying23 Try.sizeOf5 hp3 hl3 he3) (pv (r_ld rfl Try.isAgg5 (hc3.get (j := 0) rfl)) (wl rfl (bsS (r := (rInt .u8)) (l := ([u3] : List Int)) (css := [[.int .u8 u3]]) hS21 Try.underlying23 Try.sizeOf5 Try.zeroValue5 rfl rfl (by kernel_rfl) rfl ⟨rfl, trivial⟩ rfl rfl fun w21 a18 n17 c18 im21 hS22 => ?_)))))))))
          obtain ⟨z_7, hro7, hm⟩ := bindS hm
          refine wl rfl (apO (q := 1) (l := x8) (us := ([u3] : List Int)) hS22 ⟨rfl, rfl⟩ rfl rfl (hS22.own (i := 0) ⟨rfl, rfl⟩).v Try.underlying23 el5 (room_some hro7) fun w22 a19 n18 c19 im22 hS23 => ?_)
          have hS23 : Sep g T8 w22 [ownA (rInt .u8) 5 (.slice a18 n17 c18) ([u3] : List Int), ownA (rInt .u8) 5 (.slice a19 n18 c19) (x8 ++ ([u3] : List Int)), R] := hS23
          refine pv (r_zs rfl) (nil (t_blk (t_thenR [(0, .slice a1 (List.length p0) c1), (3, .slice a19 n18 c19), (4, .int .i64 x2), (6, .int .i64 x3), (7, .int .i64 x9)] ⟨rfl, rfl, rfl, rfl, rfl, trivial⟩ fun J => ?_)))
          have hm := Option.some.inj hm
          subst hm
          exact rg (pv (r_mi rfl) (pv (r_ib rfl rfl rfl) (pv (r_zi rfl) (nil (t_then ⟨m2, Nat.lt_succ_self _, _, _, (x8 ++ ([u3] : List Int)), _, _, _, (IntKind.wrap .i64 (x9 + 1)), env_has ⟨rfl, rfl, rfl, rfl, rfl, trivial⟩, (Im.trans im20 (Im.trans im21 im22)), hS23.sel [1, 2] rfl, hn2⟩)))))
        · have hm := cfalse hb10 hm
          have hm := Option.some.inj hm
          subst hm
          have hn2 : _ = Lp.brk _ := hn2
          subst hn2
          have hm := thn_brk hq2
          refine xt (x_then (x_then (x_eq (t_then ?_))))
          have hm := Option.some.inj hm
          subst hm
          exact rg (pv (r_mi rfl) (pv (r_mi rfl) (pv (r_ib rfl rfl rfl) (pv (r_zi rfl) (nil (t_blk (t_then ⟨m1, Nat.lt_succ_self _, _, _, x8, _, _, _, (IntKind.wrap .i64 (x2 + x3)), env_has ⟨rfl, rfl, rfl, trivial⟩, (Im.trans im1 (Im.trans im2 (Im.trans im6 (Im.trans im18 (Im.trans im19 im20))))), hS21.sel [0, 1] rfl, hn1⟩)))))))
  · have hm := cfalse hb1 hm
    have hm := Option.some.inj hm
    subst hm
    have hn1 : _ = Lp.brk _ := hn1
    subst hn1
    have hm := thn_brk hq1
    refine xt (x_then (x_then (x_eq (t_thenR [(3, .slice a2 n1 c2)] ⟨rfl, trivial⟩ fun J => ?_))))
    refine sq2 ?_
    refine rg (pv (r_ms rfl) (pv (r_zs rfl) (nil (t_then ?_))))
    have hm := Option.some.inj hm
    subst hm
    exact rtn (ret1 rfl rfl ⟨_, rfl, _, im1, ⟨_, _, _, rfl, hS2.sel [1, 0] rfl, trivial⟩⟩)

set_option maxRecDepth 100000 in
set_option maxHeartbeats 1000000 in
theorem ref32_Encode_sim {g : World} {T0 : Nat → Prop} {w0 : World} {R : Assn} {p0 : GImage} {a1 : Option Addr} {c1 : Nat} {a2 : Option Addr} {c2 : Nat} {r : (List Int)} (hS : Sep g T0 w0 [R]) (h1 : SlR (rInt .u32) T0 w0 (.slice a1 (List.length p0.Code) c1) p0.Code) (h2 : SlR (rInt .u8) T0 w0 (.slice a2 (List.length p0.Data) c2) p0.Data) (hm : ref32_Encode p0 = some r) :
    Calls Try.prog 11 #[.agg #[.slice a1 (List.length p0.Code) c1, .slice a2 (List.length p0.Data) c2, .int .i64 p0.Limit, .int .i64 p0.Notes]] w0 (RetS T0 w0 fun T w v => ∃ (a17 : Option Addr) (n15 : Nat) (c17 : Nat), v = .slice a17 n15 c17 ∧ Sep g T w [R, ownA (rInt .u8) 5 (.slice a17 n15 c17) r] ∧ True) := by
  refine enter (args := [.agg #[.slice a1 (List.length p0.Code) c1, .slice a2 (List.length p0.Data) c2, .int .i64 p0.Limit, .int .i64 p0.Notes]]) Try.func11 rfl Try.ntmps11 rfl fun J => ?_
  unfold ref32_Encode at hm
  refine sq2 ?_
  refine rg (wl rfl (bxS (cs := [.slice a1 (List.length p0.Code) c1, .slice a2 (List.length p0.Data) c2, .int .i64 p0.Limit, .int .i64 p0.Notes]) rfl rfl hS fun w1 b1 im1 hS1 => ?_))
  refine pv (r_zs rfl) (nil (t_then ?_))
  refine sq2 ?_
  refine rg (wl rfl (bsS (r := (rInt .u8)) (l := ([82, 83, 72, 1] : List Int)) (css := [[.int .u8 82], [.int .u8 83], [.int .u8 72], [.int .u8 1]]) hS1 Try.underlying23 Try.sizeOf5 Try.zeroValue5 rfl rfl (by kernel_rfl) rfl ⟨rfl, rfl, rfl, rfl, trivial⟩ rfl rfl fun w2 a3 n1 c3 im2 hS2 => ?_))
  refine pv (r_zs rfl) (nil (t_then ?_))
  refine sq2 ?_
  obtain ⟨y1, hx1, hm⟩ := bindS hm
  refine rg (pv (r_ms rfl) (pv (r_fa rfl Try.underlying25 rfl Try.sizeOf22 rfl) (pv (r_ld rfl Try.isAgg22 (hS2.cell0 (i := 1) ⟨rfl, rfl⟩ (j := 0) rfl)) (pv (r_ln rfl Try.underlying22) (wl rfl (calS cf22 rfl (ref32_num_sim (p0 := (List.length p0.Code : Int)) (hS2.bun [0, 1, 2] [] rfl)  hx1) rfl fun v1 T1 w3 im3 rv1 => ?_))))))
  obtain ⟨a4, n2, c4, rfl, hS3, _⟩ := rv1
  have hS3 : Sep g T1 w3 [ownA (rInt .u8) 5 (.slice a3 n1 c3) ([82, 83, 72, 1] : List Int), boxA b1 [.slice a1 (List.length p0.Code) c1, .slice a2 (List.length p0.Data) c2, .int .i64 p0.Limit, .int .i64 p0.Notes], R, ownA (rInt .u8) 5 (.slice a4 n2 c4) y1] := hS3.unb
  obtain ⟨T2, im4, hS4, h3⟩ := hS3.seal 3 ⟨rfl, rfl⟩
  have hsh := h3.len
  subst hsh
  have hS4 : Sep g T2 w3 [ownA (rInt .u8) 5 (.slice a3 n1 c3) ([82, 83, 72, 1] : List Int), boxA b1 [.slice a1 (List.length p0.Code) c1, .slice a2 (List.length p0.Data) c2, .int .i64 p0.Limit, .int .i64 p0.Notes], R, empA] := hS4
  obtain ⟨y2, hx2, hm⟩ := bindS hm
  refine wl rfl (calS cf21 rfl (ref32_join_sim (p0 := ([82, 83, 72, 1] : List Int)) (p1 := y1) (hS4.bun [1, 2] [0] rfl) h3 hx2) rfl fun v2 T3 w4 im5 rv2 => ?_)
  obtain ⟨a5, n3, c5, rfl, hS5, _⟩ := rv2
  have hS5 : Sep g T3 w4 [boxA b1 [.slice a1 (List.length p0.Code) c1, .slice a2 (List.length p0.Data) c2, .int .i64 p0.Limit, .int .i64 p0.Notes], R, ownA (rInt .u8) 5 (.slice a5 n3 c5) y2] := hS5.unb
  refine pv (r_zs rfl) (nil (t_thenR [(1, .pointer (some ⟨b1, 0, none⟩)), (3, .slice a5 n3 c5)] ⟨rfl, rfl, trivial⟩ fun J => ?_))
  refine sq2 ?_
  obtain ⟨y3, hx3, hm⟩ := bindS hm
  refine rg (pv (r_ms rfl) (pv (r_fa rfl Try.underlying25 rfl Try.sizeOf23 rfl) (pv (r_ld rfl Try.isAgg23 (hS5.cell0 (i := 0) ⟨rfl, rfl⟩ (j := 1) rfl)) (pv (r_ln rfl Try.underlying23) (wl rfl (calS cf22 rfl (ref32_num_sim (p0 := (List.length p0.Data : Int)) (hS5.bun [0, 1, 2] [] rfl)  hx3) rfl fun v3 T4 w5 im6 rv3 => ?_))))))
  obtain ⟨a6, n4, c6, rfl, hS6, _⟩ := rv3
  have hS6 : Sep g T4 w5 [boxA b1 [.slice a1 (List.length p0.Code) c1, .slice a2 (List.length p0.Data) c2, .int .i64 p0.Limit, .int .i64 p0.Notes], R, ownA (rInt .u8) 5 (.slice a5 n3 c5) y2, ownA (rInt .u8) 5 (.slice a6 n4 c6) y3] := hS6.unb
  obtain ⟨T5, im7, hS7, h4⟩ := hS6.seal 3 ⟨rfl, rfl⟩
  have hsh := h4.len
  subst hsh
  have hS7 : Sep g T5 w5 [boxA b1 [.slice a1 (List.length p0.Code) c1, .slice a2 (List.length p0.Data) c2, .int .i64 p0.Limit, .int .i64 p0.Notes], R, ownA (rInt .u8) 5 (.slice a5 n3 c5) y2, empA] := hS7
  obtain ⟨y4, hx4, hm⟩ := bindS hm
  refine wl rfl (calS cf21 rfl (ref32_join_sim (p0 := y2) (p1 := y3) (hS7.bun [0, 1] [2] rfl) h4 hx4) rfl fun v4 T6 w6 im8 rv4 => ?_)
  obtain ⟨a7, n5, c7, rfl, hS8, _⟩ := rv4
  have hS8 : Sep g T6 w6 [boxA b1 [.slice a1 (List.length p0.Code) c1, .slice a2 (List.length p0.Data) c2, .int .i64 p0.Limit, .int .i64 p0.Notes], R, ownA (rInt .u8) 5 (.slice a7 n5 c7) y4] := hS8.unb
  refine pv (r_zs rfl) (nil (t_thenR [(1, .pointer (some ⟨b1, 0, none⟩)), (3, .slice a7 n5 c7)] ⟨rfl, rfl, trivial⟩ fun J => ?_))
  refine sq2 ?_
  obtain ⟨y5, hx5, hm⟩ := bindS hm
  refine rg (pv (r_ms rfl) (pv (r_fa rfl Try.underlying25 rfl Try.sizeOf3 rfl) (pv (r_ld rfl Try.isAgg3 (hS8.cell0 (i := 0) ⟨rfl, rfl⟩ (j := 2) rfl)) (pv (r_ib rfl rfl rfl) (wl rfl (calS cf22 rfl (ref32_num_sim (p0 := IntKind.wrap .i64 (p0.Limit - 268435456)) (hS8.bun [0, 1, 2] [] rfl)  hx5) rfl fun v5 T7 w7 im9 rv5 => ?_))))))
  obtain ⟨a8, n6, c8, rfl, hS9, _⟩ := rv5
  have hS9 : Sep g T7 w7 [boxA b1 [.slice a1 (List.length p0.Code) c1, .slice a2 (List.length p0.Data) c2, .int .i64 p0.Limit, .int .i64 p0.Notes], R, ownA (rInt .u8) 5 (.slice a7 n5 c7) y4, ownA (rInt .u8) 5 (.slice a8 n6 c8) y5] := hS9.unb
  obtain ⟨T8, im10, hS10, h5⟩ := hS9.seal 3 ⟨rfl, rfl⟩
  have hsh := h5.len
  subst hsh
  have hS10 : Sep g T8 w7 [boxA b1 [.slice a1 (List.length p0.Code) c1, .slice a2 (List.length p0.Data) c2, .int .i64 p0.Limit, .int .i64 p0.Notes], R, ownA (rInt .u8) 5 (.slice a7 n5 c7) y4, empA] := hS10
  obtain ⟨y6, hx6, hm⟩ := bindS hm
  refine wl rfl (calS cf21 rfl (ref32_join_sim (p0 := y4) (p1 := y5) (hS10.bun [0, 1] [2] rfl) h5 hx6) rfl fun v6 T9 w8 im11 rv6 => ?_)
  obtain ⟨a9, n7, c9, rfl, hS11, _⟩ := rv6
  have hS11 : Sep g T9 w8 [boxA b1 [.slice a1 (List.length p0.Code) c1, .slice a2 (List.length p0.Data) c2, .int .i64 p0.Limit, .int .i64 p0.Notes], R, ownA (rInt .u8) 5 (.slice a9 n7 c9) y6] := hS11.unb
  refine pv (r_zs rfl) (nil (t_thenR [(1, .pointer (some ⟨b1, 0, none⟩)), (3, .slice a9 n7 c9)] ⟨rfl, rfl, trivial⟩ fun J => ?_))
  refine sq2 ?_
  obtain ⟨y7, hx7, hm⟩ := bindS hm
  refine rg (pv (r_ms rfl) (pv (r_fa rfl Try.underlying25 rfl Try.sizeOf3 rfl) (pv (r_ld rfl Try.isAgg3 (hS11.cell0 (i := 0) ⟨rfl, rfl⟩ (j := 3) rfl)) (wl rfl (calS cf22 rfl (ref32_num_sim (p0 := p0.Notes) (hS11.bun [0, 1, 2] [] rfl)  hx7) rfl fun v7 T10 w9 im12 rv7 => ?_)))))
  obtain ⟨a10, n8, c10, rfl, hS12, _⟩ := rv7
  have hS12 : Sep g T10 w9 [boxA b1 [.slice a1 (List.length p0.Code) c1, .slice a2 (List.length p0.Data) c2, .int .i64 p0.Limit, .int .i64 p0.Notes], R, ownA (rInt .u8) 5 (.slice a9 n7 c9) y6, ownA (rInt .u8) 5 (.slice a10 n8 c10) y7] := hS12.unb
  obtain ⟨T11, im13, hS13, h6⟩ := hS12.seal 3 ⟨rfl, rfl⟩
  have hsh := h6.len
  subst hsh
  have hS13 : Sep g T11 w9 [boxA b1 [.slice a1 (List.length p0.Code) c1, .slice a2 (List.length p0.Data) c2, .int .i64 p0.Limit, .int .i64 p0.Notes], R, ownA (rInt .u8) 5 (.slice a9 n7 c9) y6, empA] := hS13
  obtain ⟨y8, hx8, hm⟩ := bindS hm
  refine wl rfl (calS cf21 rfl (ref32_join_sim (p0 := y6) (p1 := y7) (hS13.bun [0, 1] [2] rfl) h6 hx8) rfl fun v8 T12 w10 im14 rv8 => ?_)
  obtain ⟨a11, n9, c11, rfl, hS14, _⟩ := rv8
  have hS14 : Sep g T12 w10 [boxA b1 [.slice a1 (List.length p0.Code) c1, .slice a2 (List.length p0.Data) c2, .int .i64 p0.Limit, .int .i64 p0.Notes], R, ownA (rInt .u8) 5 (.slice a11 n9 c11) y8] := hS14.unb
  refine pv (r_zs rfl) (nil (t_thenR [(1, .pointer (some ⟨b1, 0, none⟩)), (3, .slice a11 n9 c11)] ⟨rfl, rfl, trivial⟩ fun J => ?_))
  refine sq2 ?_
  refine sq2 ?_
  refine rg (pv (r_zi rfl) (nil (t_then ?_)))
  obtain ⟨o1, ho1, hq1⟩ := bindS hm
  obtain ⟨bd1, hbd1, ho1⟩ := loop_open ho1
  refine blk (wp_loop_ghost (fun m a w11 => ∃ (J : Nat → Value) (T13 : Nat → Prop) (x1 : List Int) (a12 : Option Addr) (n10 : Nat) (c12 : Nat) (x2 : Int), a = env (nf 50) J [(1, .pointer (some ⟨b1, 0, none⟩)), (3, .slice a12 n10 c12), (4, .int .i64 x2)] ∧ Im T12 w10 T13 w11 ∧ Sep g T13 w11 [boxA b1 [.slice a1 (List.length p0.Code) c1, .slice a2 (List.length p0.Data) c2, .int .i64 p0.Limit, .int .i64 p0.Notes], R, ownA (rInt .u8) 5 (.slice a12 n10 c12) x1] ∧ loopM bd1 m (x1, x2) = some o1) NN ⟨_, _, y8, _, _, _, 0, env_has ⟨rfl, rfl, rfl, trivial⟩, Im.refl, hS14.sel [0, 1, 2] rfl, ho1⟩ ?_)
  rintro m _ w11 ⟨J, T13, x1, a12, n10, c12, x2, rfl, im15, hS15, ho1⟩
  obtain ⟨m1, z1, rfl, hm, hn1⟩ := loop_round ho1
  rw [hbd1] at hm
  refine sq2 ?_
  refine sq2 ?_
  refine rg (pv (r_mi rfl) (pv (r_fa rfl Try.underlying25 rfl Try.sizeOf22 rfl) (pv (r_ld rfl Try.isAgg22 (hS15.cell0 (i := 0) ⟨rfl, rfl⟩ (j := 0) rfl)) (pv (r_ln rfl Try.underlying22) (pv (r_ib rfl rfl rfl) (nil (t_then ?_)))))))
  refine cnd rfl (fun hb1 => ?_) (fun hb1 => ?_)
  · have hm := ctrue hb1 hm
    refine skp (t_thenR [(1, .pointer (some ⟨b1, 0, none⟩)), (3, .slice a12 n10 c12), (4, .int .i64 x2)] ⟨rfl, rfl, rfl, trivial⟩ fun J => ?_)
    refine sq2 ?_
    refine blk ?_
    obtain ⟨u1, hx9, hm⟩ := bindS hm
    obtain ⟨b2, of1, cs1, k1, cp1, hv1, hp1, hl1, he1, hr1, hc1, hT1⟩ := (h1.mono (Im.trans im1 (Im.trans im2 (Im.trans im3 (Im.trans im4 (Im.trans im5 (Im.trans im6 (Im.trans im7 (Im.trans im8 (Im.trans im9 (Im.trans im10 (Im.trans im11 (Im.trans im12 (Im.trans im13 (Im.trans im14 im15))))))))))))))).ixT hx9 rfl
    cases hr1
    obtain ⟨y9, hx10, hm⟩ := bindS hm
    refine rg (pv (r_ms rfl) (pv (r_fa rfl Try.underlying25 rfl Try.sizeOf22 rfl) (pv (r_ld rfl Try.isAgg22 (hS15.cell0 (i := 0) ⟨rfl, rfl⟩ (j := 0) rfl)) (pv (r_mi rfl) (pv (r_ixe hv1 rfl Try.underlying22 Try.sizeOf40 hp1 hl1 he1) (pv (r_ld rfl Try.isAgg40 (hc1.get (j := 0) rfl)) (pv (r_cv rfl Try.underlying40 Try.underlying3) (wl rfl (calS cf22 rfl (ref32_num_sim (p0 := IntKind.wrap .i64 u1) (hS15.bun [0, 1, 2] [] rfl)  hx10) rfl fun v9 T14 w12 im16 rv9 => ?_)))))))))
    obtain ⟨a13, n11, c13, rfl, hS16, _⟩ := rv9
    have hS16 : Sep g T14 w12 [boxA b1 [.slice a1 (List.length p0.Code) c1, .slice a2 (List.length p0.Data) c2, .int .i64 p0.Limit, .int .i64 p0.Notes], R, ownA (rInt .u8) 5 (.slice a12 n10 c12) x1, ownA (rInt .u8) 5 (.slice a13 n11 c13) y9] := hS16.unb
    obtain ⟨T15, im17, hS17, h7⟩ := hS16.seal 3 ⟨rfl, rfl⟩
    have hsh := h7.len
    subst hsh
    have hS17 : Sep g T15 w12 [boxA b1 [.slice a1 (List.length p0.Code) c1, .slice a2 (List.length p0.Data) c2, .int .i64 p0.Limit, .int .i64 p0.Notes], R, ownA (rInt .u8) 5 (.slice a12 n10 c12) x1, empA] := hS17
    obtain ⟨y10, hx11, hm⟩ := bindS hm
    refine wl rfl (calS cf21 rfl (ref32_join_sim (p0 := x1) (p1 := y9) (hS17.bun [0, 1] [2] rfl) h7 hx11) rfl fun v10 T16 w13 im18 rv10 => ?_)
    obtain ⟨a14, n12, c14, rfl, hS18, _⟩ := rv10
    have hS18 : Sep g T16 w13 [boxA b1 [.slice a1 (List.length p0.Code) c1, .slice a2 (List.length p0.Data) c2, .int .i64 p0.Limit, .int .i64 p0.Notes], R, ownA (rInt .u8) 5 (.slice a14 n12 c14) y10] := hS18.unb
    refine pv (r_zs rfl) (nil (t_blk (t_thenR [(1, .pointer (some ⟨b1, 0, none⟩)), (3, .slice a14 n12 c14), (4, .int .i64 x2)] ⟨rfl, rfl, rfl, trivial⟩ fun J => ?_)))
    have hm := Option.some.inj hm
    subst hm
    exact rg (pv (r_mi rfl) (pv (r_ib rfl rfl rfl) (pv (r_zi rfl) (nil (t_then ⟨m1, Nat.lt_succ_self _, _, _, y10, _, _, _, (IntKind.wrap .i64 (x2 + 1)), env_has ⟨rfl, rfl, rfl, trivial⟩, (Im.trans im15 (Im.trans im16 (Im.trans im17 im18))), hS18.sel [0, 1, 2] rfl, hn1⟩)))))
  · have hm := cfalse hb1 hm
    have hm := Option.some.inj hm
    subst hm
    have hn1 : _ = Lp.brk _ := hn1
    subst hn1
    have hm := thn_brk hq1
    refine xt (x_then (x_then (x_eq (t_thenR [(1, .pointer (some ⟨b1, 0, none⟩)), (3, .slice a12 n10 c12)] ⟨rfl, rfl, trivial⟩ fun J => ?_))))
    refine sq2 ?_
    obtain ⟨y11, hx12, hm⟩ := bindS hm
    refine rg (pv (r_ms rfl) (pv (r_fa rfl Try.underlying25 rfl Try.sizeOf23 rfl) (pv (r_ld rfl Try.isAgg23 (hS15.cell0 (i := 0) ⟨rfl, rfl⟩ (j := 1) rfl)) (wl rfl (calS cf23 rfl (ref32_Runs_sim (p0 := p0.Data) (hS15.bun [1, 2] [] rfl) (h2.mono (Im.trans im1 (Im.trans im2 (Im.trans im3 (Im.trans im4 (Im.trans im5 (Im.trans im6 (Im.trans im7 (Im.trans im8 (Im.trans im9 (Im.trans im10 (Im.trans im11 (Im.trans im12 (Im.trans im13 (Im.trans im14 im15))))))))))))))) hx12) rfl fun v11 T17 w14 im19 rv11 => ?_)))))
    obtain ⟨a15, n13, c15, rfl, hS19, _⟩ := rv11
    have hS19 : Sep g T17 w14 [R, ownA (rInt .u8) 5 (.slice a12 n10 c12) x1, ownA (rInt .u8) 5 (.slice a15 n13 c15) y11] := hS19.unb
    obtain ⟨T18, im20, hS20, h8⟩ := hS19.seal 2 ⟨rfl, rfl⟩
    have hsh := h8.len
    subst hsh
    have hS20 : Sep g T18 w14 [R, ownA (rInt .u8) 5 (.slice a12 n10 c12) x1, empA] := hS20
    obtain ⟨y12, hx13, hm⟩ := bindS hm
    refine wl rfl (calS cf21 rfl (ref32_join_sim (p0 := x1) (p1 := y11) (hS20.bun [0] [1] rfl) h8 hx13) rfl fun v12 T19 w15 im21 rv12 => ?_)
    obtain ⟨a16, n14, c16, rfl, hS21, _⟩ := rv12
    have hS21 : Sep g T19 w15 [R, ownA (rInt .u8) 5 (.slice a16 n14 c16) y12] := hS21.unb
    refine pv (r_zs rfl) (nil (t_thenR [(2, .slice a16 n14 c16)] ⟨rfl, trivial⟩ fun J => ?_))
    have hm := Option.some.inj hm
    subst hm
    exact rtn (ret1 rfl rfl ⟨_, rfl, _, (Im.trans im1 (Im.trans im2 (Im.trans im3 (Im.trans im4 (Im.trans im5 (Im.trans im6 (Im.trans im7 (Im.trans im8 (Im.trans im9 (Im.trans im10 (Im.trans im11 (Im.trans im12 (Im.trans im13 (Im.trans im14 (Im.trans im15 (Im.trans im19 (Im.trans im20 im21))))))))))))))))), ⟨_, _, _, rfl, hS21.sel [0, 1] rfl, trivial⟩⟩)

set_option maxRecDepth 100000 in
set_option maxHeartbeats 1000000 in
theorem law32_Same_sim {g : World} {T0 : Nat → Prop} {w0 : World} {R : Assn} {p0 : GImage} {a1 : Option Addr} {c1 : Nat} {a2 : Option Addr} {c2 : Nat} {p1 : GImage} {a3 : Option Addr} {c3 : Nat} {a4 : Option Addr} {c4 : Nat} {r : Bool} (hS : Sep g T0 w0 [R]) (h1 : SlR (rInt .u32) T0 w0 (.slice a1 (List.length p0.Code) c1) p0.Code) (h2 : SlR (rInt .u8) T0 w0 (.slice a2 (List.length p0.Data) c2) p0.Data) (h3 : SlR (rInt .u32) T0 w0 (.slice a3 (List.length p1.Code) c3) p1.Code) (h4 : SlR (rInt .u8) T0 w0 (.slice a4 (List.length p1.Data) c4) p1.Data) (hm : law32_Same p0 p1 = some r) :
    Calls Try.prog 12 #[.agg #[.slice a1 (List.length p0.Code) c1, .slice a2 (List.length p0.Data) c2, .int .i64 p0.Limit, .int .i64 p0.Notes], .agg #[.slice a3 (List.length p1.Code) c3, .slice a4 (List.length p1.Data) c4, .int .i64 p1.Limit, .int .i64 p1.Notes]] w0 (RetS T0 w0 fun T w v => v = .bool r ∧ Sep g T w [R] ∧ True) := by
  refine enter (args := [.agg #[.slice a1 (List.length p0.Code) c1, .slice a2 (List.length p0.Data) c2, .int .i64 p0.Limit, .int .i64 p0.Notes], .agg #[.slice a3 (List.length p1.Code) c3, .slice a4 (List.length p1.Data) c4, .int .i64 p1.Limit, .int .i64 p1.Notes]]) Try.func12 rfl Try.ntmps12 rfl fun J => ?_
  unfold law32_Same at hm
  refine sq2 ?_
  refine rg (wl rfl (bxS (cs := [.slice a1 (List.length p0.Code) c1, .slice a2 (List.length p0.Data) c2, .int .i64 p0.Limit, .int .i64 p0.Notes]) rfl rfl hS fun w1 b1 im1 hS1 => ?_))
  refine wl rfl (bxS (cs := [.slice a3 (List.length p1.Code) c3, .slice a4 (List.length p1.Data) c4, .int .i64 p1.Limit, .int .i64 p1.Notes]) rfl rfl hS1 fun w2 b2 im2 hS2 => ?_)
  refine pv (r_zb rfl) (nil (t_then ?_))
  refine sq2 ?_
  refine sq2 ?_
  refine rg (pv (r_fa rfl Try.underlying25 rfl Try.sizeOf22 rfl) (pv (r_ld rfl Try.isAgg22 (hS2.cell0 (i := 1) ⟨rfl, rfl⟩ (j := 0) rfl)) (pv (r_ln rfl Try.underlying22) (pv (r_fa rfl Try.underlying25 rfl Try.sizeOf22 rfl) (pv (r_ld rfl Try.isAgg22 (hS2.cell0 (i := 0) ⟨rfl, rfl⟩ (j := 0) rfl)) (pv (r_ln rfl Try.underlying22) (pv (r_ib rfl rfl rfl) (pv (r_mb rfl) (?_)))))))))
  rcases Bool.eq_false_or_eq_true ((List.length p0.Code : Int) != (List.length p1.Code : Int)) with hb1 | hb1
  · have hm := ctrue hb1 hm
    refine gF (d0 := 13) rfl rfl (by rw [hb1]; rfl) (gF (d0 := 13) rfl rfl (by rw [hb1]; rfl) (gF (d0 := 13) rfl rfl (by rw [hb1]; rfl) (gF (d0 := 13) rfl rfl (by rw [hb1]; rfl) (gF (d0 := 13) rfl rfl (by rw [hb1]; rfl) (gF (d0 := 13) rfl rfl (by rw [hb1]; rfl) (gF (d0 := 13) rfl rfl (by rw [hb1]; rfl) (pv (r_pkt rfl hb1 rfl) (pv (r_mb rfl) (gF (d0 := 22) rfl rfl rfl (gF (d0 := 22) rfl rfl rfl (gF (d0 := 22) rfl rfl rfl (gF (d0 := 22) rfl rfl rfl (gF (d0 := 22) rfl rfl rfl (pv (r_pkt rfl rfl rfl) (pv (r_mb rfl) (gF (d0 := 29) rfl rfl rfl (gF (d0 := 29) rfl rfl rfl (gF (d0 := 29) rfl rfl rfl (gF (d0 := 29) rfl rfl rfl (gF (d0 := 29) rfl rfl rfl (pv (r_pkt rfl rfl rfl) (nil (t_thenR [(2, .pointer (some ⟨b1, 0, none⟩)), (3, .pointer (some ⟨b2, 0, none⟩)), (35, .bool true)] ⟨rfl, rfl, rfl, trivial⟩ fun J => ?_)))))))))))))))))))))))
    refine cnd (b := true) rfl (fun _ => ?_) (fun h => nomatch h)
    refine sq2 ?_
    refine rg (pv (r_zb rfl) (nil (t_then ?_)))
    have hm := Option.some.inj hm
    subst hm
    exact rtn (r_then (ret1 rfl rfl ⟨_, rfl, _, (Im.trans im1 im2), ⟨rfl, hS2.sel [2] rfl, trivial⟩⟩))
  · have hm := cfalse hb1 hm
    refine gT (d0 := 13) rfl rfl hb1 (pv (r_fa rfl Try.underlying25 rfl Try.sizeOf23 rfl) (gT (d0 := 13) rfl rfl hb1 (pv (r_ld rfl Try.isAgg23 (hS2.cell0 (i := 1) ⟨rfl, rfl⟩ (j := 1) rfl)) (gT (d0 := 13) rfl rfl hb1 (pv (r_cvs rfl ⟨_, (h2.mono (Im.trans im1 im2)).v⟩ Try.underlying23 Try.underlying5 Try.underlying9) (gT (d0 := 13) rfl rfl hb1 (pv (r_fa rfl Try.underlying25 rfl Try.sizeOf23 rfl) (gT (d0 := 13) rfl rfl hb1 (pv (r_ld rfl Try.isAgg23 (hS2.cell0 (i := 0) ⟨rfl, rfl⟩ (j := 1) rfl)) (gT (d0 := 13) rfl rfl hb1 (pv (r_cvs rfl ⟨_, (h4.mono (Im.trans im1 im2)).v⟩ Try.underlying23 Try.underlying5 Try.underlying9) (gT (d0 := 13) rfl rfl hb1 (pv (r_snL rfl rfl) (pv (r_pkf rfl hb1 rfl) (pv (r_mb rfl) (?_))))))))))))))))
    rcases Bool.eq_false_or_eq_true (!(decide (bytesStr p0.Data = bytesStr p1.Data))) with hb2 | hb2
    · have hm := ctrue hb2 hm
      refine gF (d0 := 22) rfl rfl (by rw [hb2]; rfl) (gF (d0 := 22) rfl rfl (by rw [hb2]; rfl) (gF (d0 := 22) rfl rfl (by rw [hb2]; rfl) (gF (d0 := 22) rfl rfl (by rw [hb2]; rfl) (gF (d0 := 22) rfl rfl (by rw [hb2]; rfl) (pv (r_pkt rfl hb2 rfl) (pv (r_mb rfl) (gF (d0 := 29) rfl rfl rfl (gF (d0 := 29) rfl rfl rfl (gF (d0 := 29) rfl rfl rfl (gF (d0 := 29) rfl rfl rfl (gF (d0 := 29) rfl rfl rfl (pv (r_pkt rfl rfl rfl) (nil (t_thenR [(2, .pointer (some ⟨b1, 0, none⟩)), (3, .pointer (some ⟨b2, 0, none⟩)), (35, .bool true)] ⟨rfl, rfl, rfl, trivial⟩ fun J => ?_))))))))))))))
      refine cnd (b := true) rfl (fun _ => ?_) (fun h => nomatch h)
      refine sq2 ?_
      refine rg (pv (r_zb rfl) (nil (t_then ?_)))
      have hm := Option.some.inj hm
      subst hm
      exact rtn (r_then (ret1 rfl rfl ⟨_, rfl, _, (Im.trans im1 im2), ⟨rfl, hS2.sel [2] rfl, trivial⟩⟩))
    · have hm := cfalse hb2 hm
      refine gT (d0 := 22) rfl rfl hb2 (pv (r_fa rfl Try.underlying25 rfl Try.sizeOf3 rfl) (gT (d0 := 22) rfl rfl hb2 (pv (r_ld rfl Try.isAgg3 (hS2.cell0 (i := 1) ⟨rfl, rfl⟩ (j := 2) rfl)) (gT (d0 := 22) rfl rfl hb2 (pv (r_fa rfl Try.underlying25 rfl Try.sizeOf3 rfl) (gT (d0 := 22) rfl rfl hb2 (pv (r_ld rfl Try.isAgg3 (hS2.cell0 (i := 0) ⟨rfl, rfl⟩ (j := 2) rfl)) (gT (d0 := 22) rfl rfl hb2 (pv (r_ib rfl rfl rfl) (pv (r_pkf rfl hb2 rfl) (pv (r_mb rfl) (?_))))))))))))
      rcases Bool.eq_false_or_eq_true (p0.Limit != p1.Limit) with hb3 | hb3
      · have hm := ctrue hb3 hm
        refine gF (d0 := 29) rfl rfl (by rw [hb3]; rfl) (gF (d0 := 29) rfl rfl (by rw [hb3]; rfl) (gF (d0 := 29) rfl rfl (by rw [hb3]; rfl) (gF (d0 := 29) rfl rfl (by rw [hb3]; rfl) (gF (d0 := 29) rfl rfl (by rw [hb3]; rfl) (pv (r_pkt rfl hb3 rfl) (nil (t_thenR [(2, .pointer (some ⟨b1, 0, none⟩)), (3, .pointer (some ⟨b2, 0, none⟩)), (35, .bool true)] ⟨rfl, rfl, rfl, trivial⟩ fun J => ?_)))))))
        refine cnd (b := true) rfl (fun _ => ?_) (fun h => nomatch h)
        refine sq2 ?_
        refine rg (pv (r_zb rfl) (nil (t_then ?_)))
        have hm := Option.some.inj hm
        subst hm
        exact rtn (r_then (ret1 rfl rfl ⟨_, rfl, _, (Im.trans im1 im2), ⟨rfl, hS2.sel [2] rfl, trivial⟩⟩))
      · have hm := cfalse hb3 hm
        refine gT (d0 := 29) rfl rfl hb3 (pv (r_fa rfl Try.underlying25 rfl Try.sizeOf3 rfl) (gT (d0 := 29) rfl rfl hb3 (pv (r_ld rfl Try.isAgg3 (hS2.cell0 (i := 1) ⟨rfl, rfl⟩ (j := 3) rfl)) (gT (d0 := 29) rfl rfl hb3 (pv (r_fa rfl Try.underlying25 rfl Try.sizeOf3 rfl) (gT (d0 := 29) rfl rfl hb3 (pv (r_ld rfl Try.isAgg3 (hS2.cell0 (i := 0) ⟨rfl, rfl⟩ (j := 3) rfl)) (gT (d0 := 29) rfl rfl hb3 (pv (r_ib rfl rfl rfl) (pv (r_pkf rfl hb3 rfl) (nil (t_thenR [(2, .pointer (some ⟨b1, 0, none⟩)), (3, .pointer (some ⟨b2, 0, none⟩)), (35, .bool (p0.Notes != p1.Notes))] ⟨rfl, rfl, rfl, trivial⟩ fun J => ?_))))))))))))
        refine cnd rfl (fun hb4 => ?_) (fun hb4 => ?_)
        · have hm := ctrue hb4 hm
          refine sq2 ?_
          refine rg (pv (r_zb rfl) (nil (t_then ?_)))
          have hm := Option.some.inj hm
          subst hm
          exact rtn (r_then (ret1 rfl rfl ⟨_, rfl, _, (Im.trans im1 im2), ⟨rfl, hS2.sel [2] rfl, trivial⟩⟩))
        · have hm := cfalse hb4 hm
          refine skp (t_then ?_)
          refine sq2 ?_
          refine sq2 ?_
          refine rg (pv (r_zi rfl) (nil (t_then ?_)))
          obtain ⟨o1, ho1, hq1⟩ := bindS hm
          obtain ⟨bd1, hbd1, ho1⟩ := loop_open ho1
          refine blk (wp_loop_ghost (fun m a w3 => ∃ (J : Nat → Value) (T1 : Nat → Prop) (x1 : Int), a = env (nf 54) J [(2, .pointer (some ⟨b1, 0, none⟩)), (3, .pointer (some ⟨b2, 0, none⟩)), (5, .int .i64 x1)] ∧ Im T0 w2 T1 w3 ∧ Sep g T1 w3 [boxA b2 [.slice a3 (List.length p1.Code) c3, .slice a4 (List.length p1.Data) c4, .int .i64 p1.Limit, .int .i64 p1.Notes], boxA b1 [.slice a1 (List.length p0.Code) c1, .slice a2 (List.length p0.Data) c2, .int .i64 p0.Limit, .int .i64 p0.Notes], R] ∧ loopM bd1 m x1 = some o1) NN ⟨_, _, 0, env_has ⟨rfl, rfl, rfl, trivial⟩, Im.refl, hS2.sel [0, 1, 2] rfl, ho1⟩ ?_)
          rintro m _ w3 ⟨J, T1, x1, rfl, im3, hS3, ho1⟩
          obtain ⟨m1, z1, rfl, hm, hn1⟩ := loop_round ho1
          rw [hbd1] at hm
          refine sq2 ?_
          refine sq2 ?_
          refine rg (pv (r_mi rfl) (pv (r_fa rfl Try.underlying25 rfl Try.sizeOf22 rfl) (pv (r_ld rfl Try.isAgg22 (hS3.cell0 (i := 1) ⟨rfl, rfl⟩ (j := 0) rfl)) (pv (r_ln rfl Try.underlying22) (pv (r_ib rfl rfl rfl) (nil (t_then ?_)))))))
          refine cnd rfl (fun hb5 => ?_) (fun hb5 => ?_)
          · have hm := ctrue hb5 hm
            refine skp (t_thenR [(2, .pointer (some ⟨b1, 0, none⟩)), (3, .pointer (some ⟨b2, 0, none⟩)), (5, .int .i64 x1)] ⟨rfl, rfl, rfl, trivial⟩ fun J => ?_)
            refine sq2 ?_
            refine blk ?_
            refine sq2 ?_
            obtain ⟨u1, hx1, hm⟩ := bindS hm
            obtain ⟨b3, of1, cs1, k1, cp1, hv1, hp1, hl1, he1, hr1, hc1, hT1⟩ := (h1.mono (Im.trans im1 (Im.trans im2 im3))).ixT hx1 rfl
            cases hr1
            obtain ⟨u2, hx2, hm⟩ := bindS hm
            obtain ⟨b4, of2, cs2, k2, cp2, hv2, hp2, hl2, he2, hr2, hc2, hT2⟩ := (h3.mono (Im.trans im1 (Im.trans im2 im3))).ixT hx2 rfl
            cases hr2
            refine rq mix (by kernel_rfl) hS3.lt (qv (fun _ hq => r_fa rfl Try.underlying25 rfl Try.sizeOf22 rfl) (qv (fun _ hq => r_ld rfl Try.isAgg22 (hq.cell (hS3.cell0 (i := 1) ⟨rfl, rfl⟩ (j := 0) rfl))) (qv (fun _ hq => r_mi rfl) (qv (fun _ hq => r_ixe hv1 rfl Try.underlying22 Try.sizeOf40 hp1 hl1 he1) (qv (fun _ hq => r_ld rfl Try.isAgg40 (hq.cell (hc1.get (j := 0) rfl))) (qv (fun _ hq => r_fa rfl Try.underlying25 rfl Try.sizeOf22 rfl) (qv (fun _ hq => r_ld rfl Try.isAgg22 (hq.cell (hS3.cell0 (i := 0) ⟨rfl, rfl⟩ (j := 0) rfl))) (qv (fun _ hq => r_mi rfl) (qv (fun _ hq => r_ixe hv2 rfl Try.underlying22 Try.sizeOf40 hp2 hl2 he2) (qv (fun _ hq => r_ld rfl Try.isAgg40 (hq.cell (hc2.get (j := 0) rfl))) (qv (fun _ hq => r_ib rfl rfl rfl) (qn fun w4 T2 i1 => ?_))))))))))))
            have im4 := i1.imm
            have hS4 := hS3.keep i1 (fun _ h => h)
            refine t_thenR [(2, .pointer (some ⟨b1, 0, none⟩)), (3, .pointer (some ⟨b2, 0, none⟩)), (5, .int .i64 x1), (53, .bool (u1 != u2))] ⟨rfl, rfl, rfl, rfl, trivial⟩ fun J => ?_
            refine cnd rfl (fun hb6 => ?_) (fun hb6 => ?_)
            · have hm := ctrue hb6 hm
              refine sq2 ?_
              refine rg (pv (r_zb rfl) (nil (t_then ?_)))
              have hm := Option.some.inj hm
              subst hm
              have hn1 : _ = Lp.ret _ := hn1
              subst hn1
              have hm := thn_ret hq1
              have hm := Option.some.inj hm
              subst hm
              exact rtn (r_blk (r_then (r_then (r_blk (r_then (ret1 rfl rfl ⟨_, rfl, _, (Im.trans im1 (Im.trans im2 (Im.trans im3 im4))), ⟨rfl, hS4.sel [2] rfl, trivial⟩⟩))))))
            · have hm := cfalse hb6 hm
              refine skp (t_blk (t_then ?_))
              have hm := Option.some.inj hm
              subst hm
              exact rg (pv (r_mi rfl) (pv (r_ib rfl rfl rfl) (pv (r_zi rfl) (nil (t_then ⟨m1, Nat.lt_succ_self _, _, _, (IntKind.wrap .i64 (x1 + 1)), env_has ⟨rfl, rfl, rfl, trivial⟩, (Im.trans im3 im4), hS4.sel [0, 1, 2] rfl, hn1⟩)))))
          · have hm := cfalse hb5 hm
            have hm := Option.some.inj hm
            subst hm
            have hn1 : _ = Lp.brk _ := hn1
            subst hn1
            have hm := thn_brk hq1
            refine xt (x_then (x_then (x_eq (t_thenR [] trivial fun J => ?_))))
            refine sq2 ?_
            refine rg (pv (r_zb rfl) (nil (t_then ?_)))
            have hm := Option.some.inj hm
            subst hm
            exact rtn (ret1 rfl rfl ⟨_, rfl, _, (Im.trans im1 (Im.trans im2 im3)), ⟨rfl, hS3.sel [2] rfl, trivial⟩⟩)
end Go.Proofs.Ytbbppcogjdmmiaa
