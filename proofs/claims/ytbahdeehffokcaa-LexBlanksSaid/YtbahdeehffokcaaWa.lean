/- That Go functions compute their models. Printed by gen2.py. -/
import Derived.Test.YtbahdeehffokcaaRows
import Derived.Test.YtbahdeehffokcaaFoc
import Derived.Test.YtbahdeehffokcaaTree
import Derived.Test.YtbahdeehffokcaaArr
import Derived.Test.YtbahdeehffokcaaH
import Derived.Test.YtbahdeehffokcaaM
set_option linter.unusedVariables false
namespace Go.Proofs.Ytbahdeehffokcaa
attribute [local irreducible] wpList wpQuiet Code.wp
def rPos : Rp Pos := ((rPair (rInt .i64) (rInt .i64))).iso fun x => (x.Line, x.Col)
theorem rPos_open {T : Nat → Prop} {w : World} {cs : List Value} {x : Pos} (h : rPos.rp T w cs x) : cs = [.int .i64 x.Line, .int .i64 x.Col] := by
  obtain ⟨q1, y1, rfl, f1, g1⟩ := h
  cases f1
  cases g1
  exact rfl
theorem rPos_mk {T : Nat → Prop} {w : World} {x : Pos}   : rPos.rp T w [.int .i64 x.Line, .int .i64 x.Col] x := ⟨_, _, rfl, rfl, rfl⟩
def rLexScanner : Rp LexScanner := ((rPair rStr rPos)).iso fun x => (x.s, x.pos)
theorem rLexScanner_open {T : Nat → Prop} {w : World} {cs : List Value} {x : LexScanner} (h : rLexScanner.rp T w cs x) : cs = [.string ⟨x.s.toArray⟩, .int .i64 x.pos.Line, .int .i64 x.pos.Col] := by
  obtain ⟨q1, y1, rfl, f1, g1⟩ := h
  cases f1
  cases rPos_open g1
  exact rfl
theorem rLexScanner_mk {T : Nat → Prop} {w : World} {x : LexScanner}   : rLexScanner.rp T w [.string ⟨x.s.toArray⟩, .int .i64 x.pos.Line, .int .i64 x.pos.Col] x := ⟨_, _, rfl, rfl, rPos_mk⟩
def rGToken : Rp GToken := ((rPair (rInt .i64) (rPair rStr (rPair (rInt .u32) rPos)))).iso fun x => (x.Kind, x.Text, x.Num, x.Pos)
theorem rGToken_open {T : Nat → Prop} {w : World} {cs : List Value} {x : GToken} (h : rGToken.rp T w cs x) : cs = [.int .i64 x.Kind, .string ⟨x.Text.toArray⟩, .int .u32 x.Num, .int .i64 x.Pos.Line, .int .i64 x.Pos.Col] := by
  obtain ⟨q1, y1, rfl, f1, g1⟩ := h
  cases f1
  obtain ⟨q2, y2, rfl, f2, g2⟩ := g1
  cases f2
  obtain ⟨q3, y3, rfl, f3, g3⟩ := g2
  cases f3
  cases rPos_open g3
  exact rfl
theorem rGToken_mk {T : Nat → Prop} {w : World} {x : GToken}   : rGToken.rp T w [.int .i64 x.Kind, .string ⟨x.Text.toArray⟩, .int .u32 x.Num, .int .i64 x.Pos.Line, .int .i64 x.Pos.Col] x := ⟨_, _, rfl, rfl, ⟨_, _, rfl, rfl, ⟨_, _, rfl, rfl, rPos_mk⟩⟩⟩
theorem cf7 : CallOk Try.prog 7 := ⟨⟨_, Try.func7, by kernel_rfl, by kernel_rfl⟩⟩
theorem cf8 : CallOk Try.prog 8 := ⟨⟨_, Try.func8, by kernel_rfl, by kernel_rfl⟩⟩
theorem cf9 : CallOk Try.prog 9 := ⟨⟨_, Try.func9, by kernel_rfl, by kernel_rfl⟩⟩
theorem cf10 : CallOk Try.prog 10 := ⟨⟨_, Try.func10, by kernel_rfl, by kernel_rfl⟩⟩
theorem cf11 : CallOk Try.prog 11 := ⟨⟨_, Try.func11, by kernel_rfl, by kernel_rfl⟩⟩
theorem cf12 : CallOk Try.prog 12 := ⟨⟨_, Try.func12, by kernel_rfl, by kernel_rfl⟩⟩
theorem cf13 : CallOk Try.prog 13 := ⟨⟨_, Try.func13, by kernel_rfl, by kernel_rfl⟩⟩
theorem cf14 : CallOk Try.prog 14 := ⟨⟨_, Try.func14, by kernel_rfl, by kernel_rfl⟩⟩
theorem cf15 : CallOk Try.prog 15 := ⟨⟨_, Try.func15, by kernel_rfl, by kernel_rfl⟩⟩
theorem cf16 : CallOk Try.prog 16 := ⟨⟨_, Try.func16, by kernel_rfl, by kernel_rfl⟩⟩
theorem cf17 : CallOk Try.prog 17 := ⟨⟨_, Try.func17, by kernel_rfl, by kernel_rfl⟩⟩
theorem cf18 : CallOk Try.prog 18 := ⟨⟨_, Try.func18, by kernel_rfl, by kernel_rfl⟩⟩
theorem cf19 : CallOk Try.prog 19 := ⟨⟨_, Try.func19, by kernel_rfl, by kernel_rfl⟩⟩
theorem cf20 : CallOk Try.prog 20 := ⟨⟨_, Try.func20, by kernel_rfl, by kernel_rfl⟩⟩
theorem cf21 : CallOk Try.prog 21 := ⟨⟨_, Try.func21, by kernel_rfl, by kernel_rfl⟩⟩
theorem cf22 : CallOk Try.prog 22 := ⟨⟨_, Try.func22, by kernel_rfl, by kernel_rfl⟩⟩
theorem cf23 : CallOk Try.prog 23 := ⟨⟨_, Try.func23, by kernel_rfl, by kernel_rfl⟩⟩
theorem cf24 : CallOk Try.prog 24 := ⟨⟨_, Try.func24, by kernel_rfl, by kernel_rfl⟩⟩
theorem cf25 : CallOk Try.prog 25 := ⟨⟨_, Try.func25, by kernel_rfl, by kernel_rfl⟩⟩
theorem cf26 : CallOk Try.prog 26 := ⟨⟨_, Try.func26, by kernel_rfl, by kernel_rfl⟩⟩
theorem cf27 : CallOk Try.prog 27 := ⟨⟨_, Try.func27, by kernel_rfl, by kernel_rfl⟩⟩
theorem cf28 : CallOk Try.prog 28 := ⟨⟨_, Try.func28, by kernel_rfl, by kernel_rfl⟩⟩
theorem cf29 : CallOk Try.prog 29 := ⟨⟨_, Try.func29, by kernel_rfl, by kernel_rfl⟩⟩
theorem cf30 : CallOk Try.prog 30 := ⟨⟨_, Try.func30, by kernel_rfl, by kernel_rfl⟩⟩
theorem cf31 : CallOk Try.prog 31 := ⟨⟨_, Try.func31, by kernel_rfl, by kernel_rfl⟩⟩
theorem cf35 : CallOk Try.prog 35 := ⟨⟨_, Try.func35, by kernel_rfl, by kernel_rfl⟩⟩
theorem cf37 : CallOk Try.prog 37 := ⟨⟨_, Try.func37, by kernel_rfl, by kernel_rfl⟩⟩
theorem cf38 : CallOk Try.prog 38 := ⟨⟨_, Try.func38, by kernel_rfl, by kernel_rfl⟩⟩
theorem el5 : ElemOk Try.prog 5 1 := ⟨by kernel_rfl, by decide⟩
theorem el9 : ElemOk Try.prog 9 1 := ⟨by kernel_rfl, by decide⟩
theorem el33 : ElemOk Try.prog 33 5 := ⟨by kernel_rfl, by decide⟩
theorem eq_26 (a0 : Int) (a1 : Int) (b0 : Int) (b1 : Int) : ∀ x y w, (do eqGuard .eql 26 x y (.agg #[.int .i64 a0, .int .i64 a1]) (.agg #[.int .i64 b0, .int .i64 b1]); binOp .eql 26 (.agg #[.int .i64 a0, .int .i64 a1]) (.agg #[.int .i64 b0, .int .i64 b1]) : Sem Value).run Try.prog w = .ok (.bool ((a0 == b0) && (a1 == b1))) w := by
  intro x y w
  simp [go_sem]
  repeat' split
  all_goals simp_all
theorem ne_26 (a0 : Int) (a1 : Int) (b0 : Int) (b1 : Int) : ∀ x y w, (do eqGuard .neq 26 x y (.agg #[.int .i64 a0, .int .i64 a1]) (.agg #[.int .i64 b0, .int .i64 b1]); binOp .neq 26 (.agg #[.int .i64 a0, .int .i64 a1]) (.agg #[.int .i64 b0, .int .i64 b1]) : Sem Value).run Try.prog w = .ok (.bool (!((a0 == b0) && (a1 == b1)))) w := by
  intro x y w
  simp [go_sem]
  repeat' split
  all_goals simp_all
theorem mix : Try.prog.follows .mixedOrders = true := by kernel_rfl

set_option maxRecDepth 100000 in
set_option maxHeartbeats 1000000 in
theorem stringslite_HasPrefix_sim {g : World} {T0 : Nat → Prop} {w0 : World} {R : Assn} {p0 : List UInt8} {p1 : List UInt8} {r : Bool} (hS : Sep g T0 w0 [R])  (hm : stringslite_HasPrefix p0 p1 = some r) :
    Calls Try.prog 35 #[.string ⟨p0.toArray⟩, .string ⟨p1.toArray⟩] w0 (RetS T0 w0 fun T w v => v = .bool r ∧ Sep g T w [R] ∧ True) := by
  refine enter (args := [.string ⟨p0.toArray⟩, .string ⟨p1.toArray⟩]) Try.func35 rfl Try.ntmps35 rfl fun J => ?_
  unfold stringslite_HasPrefix at hm
  refine sq2 ?_
  refine rg (pv (r_zb rfl) (nil (t_then ?_)))
  refine sq2 ?_
  refine rg (pv (r_mt rfl) (pv (r_lnt rfl Try.underlying9) (pv (r_mt rfl) (pv (r_lnt rfl Try.underlying9) (pv (r_ib rfl rfl rfl) (pv (r_mb rfl) (?_)))))))
  rcases Bool.eq_false_or_eq_true (decide ((List.length p1 : Int) ≤ (List.length p0 : Int))) with hb1 | hb1
  · have hm := ctrue hb1 hm
    obtain ⟨u1, hx1, hm⟩ := bindS hm
    refine gT (d0 := 10) rfl rfl hb1 (pv (r_mt rfl) (gT (d0 := 10) rfl rfl hb1 (pv (r_mt rfl) (gT (d0 := 10) rfl rfl hb1 (pv (r_lnt rfl Try.underlying9) (gT (d0 := 10) rfl rfl hb1 (pv (r_ss rfl rfl ⟨_, rfl⟩ hx1 Try.underlying9) (gT (d0 := 10) rfl rfl hb1 (pv (r_mt rfl) (gT (d0 := 10) rfl rfl hb1 (pv (r_sqL rfl rfl) (pv (r_pkt rfl hb1 rfl) (pv (r_zb rfl) (nil (t_thenR [(4, .bool (decide (u1 = p1)))] ⟨rfl, trivial⟩ fun J => ?_)))))))))))))))
    have hm := Option.some.inj hm
    subst hm
    exact rtn (ret1 rfl rfl ⟨_, rfl, _, Im.refl, ⟨rfl, hS.sel [0] rfl, trivial⟩⟩)
  · have hm := cfalse hb1 hm
    refine gF (d0 := 10) rfl rfl (by rw [hb1]; rfl) (gF (d0 := 10) rfl rfl (by rw [hb1]; rfl) (gF (d0 := 10) rfl rfl (by rw [hb1]; rfl) (gF (d0 := 10) rfl rfl (by rw [hb1]; rfl) (gF (d0 := 10) rfl rfl (by rw [hb1]; rfl) (gF (d0 := 10) rfl rfl (by rw [hb1]; rfl) (pv (r_pkf rfl hb1 rfl) (pv (r_zb rfl) (nil (t_thenR [(4, .bool false)] ⟨rfl, trivial⟩ fun J => ?_)))))))))
    have hm := Option.some.inj hm
    subst hm
    exact rtn (ret1 rfl rfl ⟨_, rfl, _, Im.refl, ⟨rfl, hS.sel [0] rfl, trivial⟩⟩)

set_option maxRecDepth 100000 in
set_option maxHeartbeats 1000000 in
theorem strings_HasPrefix_sim {g : World} {T0 : Nat → Prop} {w0 : World} {R : Assn} {p0 : List UInt8} {p1 : List UInt8} {r : Bool} (hS : Sep g T0 w0 [R])  (hm : strings_HasPrefix p0 p1 = some r) :
    Calls Try.prog 21 #[.string ⟨p0.toArray⟩, .string ⟨p1.toArray⟩] w0 (RetS T0 w0 fun T w v => v = .bool r ∧ Sep g T w [R] ∧ True) := by
  refine enter (args := [.string ⟨p0.toArray⟩, .string ⟨p1.toArray⟩]) Try.func21 rfl Try.ntmps21 rfl fun J => ?_
  unfold strings_HasPrefix at hm
  refine sq2 ?_
  refine rg (pv (r_zb rfl) (nil (t_then ?_)))
  refine sq2 ?_
  obtain ⟨y1, hx1, hm⟩ := bindS hm
  refine rg (pv (r_mt rfl) (pv (r_mt rfl) (wl rfl (calS cf35 rfl (stringslite_HasPrefix_sim (p0 := p0) (p1 := p1) (hS.bun [0] [] rfl)  hx1) rfl fun v1 T1 w1 im1 rv1 => ?_))))
  obtain ⟨rfl, hS1, _⟩ := rv1
  have hS1 : Sep g T1 w1 [R] := hS1.unb
  refine pv (r_zb rfl) (nil (t_thenR [(4, .bool y1)] ⟨rfl, trivial⟩ fun J => ?_))
  have hm := Option.some.inj hm
  subst hm
  exact rtn (ret1 rfl rfl ⟨_, rfl, _, im1, ⟨rfl, hS1.sel [0] rfl, trivial⟩⟩)

set_option maxRecDepth 100000 in
set_option maxHeartbeats 1000000 in
theorem lex_blank_1_sim {g : World} {T0 : Nat → Prop} {w0 : World} {R : Assn} {p0 : Int} {r : Bool} (hS : Sep g T0 w0 [R])  (hm : lex_blank_1 p0 = some r) :
    Calls Try.prog 24 #[.int .u8 p0] w0 (RetS T0 w0 fun T w v => v = .bool r ∧ Sep g T w [R] ∧ True) := by
  refine enter (args := [.int .u8 p0]) Try.func24 rfl Try.ntmps24 rfl fun J => ?_
  unfold lex_blank_1 at hm
  refine sq2 ?_
  refine rg (pv (r_zb rfl) (nil (t_then ?_)))
  refine sq2 ?_
  refine rg (pv (r_mi rfl) (pv (r_ib rfl rfl rfl) (pv (r_mb rfl) (?_))))
  rcases Bool.eq_false_or_eq_true (p0 == 32) with hb1 | hb1
  · have hm := ctrue hb1 hm
    refine gF (d0 := 5) rfl rfl (by rw [hb1]; rfl) (gF (d0 := 5) rfl rfl (by rw [hb1]; rfl) (pv (r_pkt rfl hb1 rfl) (pv (r_mb rfl) (gF (d0 := 9) rfl rfl rfl (gF (d0 := 9) rfl rfl rfl (pv (r_pkt rfl rfl rfl) (pv (r_mb rfl) (gF (d0 := 13) rfl rfl rfl (gF (d0 := 13) rfl rfl rfl (pv (r_pkt rfl rfl rfl) (pv (r_zb rfl) (nil (t_thenR [(2, .bool true)] ⟨rfl, trivial⟩ fun J => ?_)))))))))))))
    have hm := Option.some.inj hm
    subst hm
    exact rtn (ret1 rfl rfl ⟨_, rfl, _, Im.refl, ⟨rfl, hS.sel [0] rfl, trivial⟩⟩)
  · have hm := cfalse hb1 hm
    refine gT (d0 := 5) rfl rfl hb1 (pv (r_mi rfl) (gT (d0 := 5) rfl rfl hb1 (pv (r_ib rfl rfl rfl) (pv (r_pkf rfl hb1 rfl) (pv (r_mb rfl) (?_))))))
    rcases Bool.eq_false_or_eq_true (p0 == 9) with hb2 | hb2
    · have hm := ctrue hb2 hm
      refine gF (d0 := 9) rfl rfl (by rw [hb2]; rfl) (gF (d0 := 9) rfl rfl (by rw [hb2]; rfl) (pv (r_pkt rfl hb2 rfl) (pv (r_mb rfl) (gF (d0 := 13) rfl rfl rfl (gF (d0 := 13) rfl rfl rfl (pv (r_pkt rfl rfl rfl) (pv (r_zb rfl) (nil (t_thenR [(2, .bool true)] ⟨rfl, trivial⟩ fun J => ?_)))))))))
      have hm := Option.some.inj hm
      subst hm
      exact rtn (ret1 rfl rfl ⟨_, rfl, _, Im.refl, ⟨rfl, hS.sel [0] rfl, trivial⟩⟩)
    · have hm := cfalse hb2 hm
      refine gT (d0 := 9) rfl rfl hb2 (pv (r_mi rfl) (gT (d0 := 9) rfl rfl hb2 (pv (r_ib rfl rfl rfl) (pv (r_pkf rfl hb2 rfl) (pv (r_mb rfl) (?_))))))
      rcases Bool.eq_false_or_eq_true (p0 == 10) with hb3 | hb3
      · have hm := ctrue hb3 hm
        refine gF (d0 := 13) rfl rfl (by rw [hb3]; rfl) (gF (d0 := 13) rfl rfl (by rw [hb3]; rfl) (pv (r_pkt rfl hb3 rfl) (pv (r_zb rfl) (nil (t_thenR [(2, .bool true)] ⟨rfl, trivial⟩ fun J => ?_)))))
        have hm := Option.some.inj hm
        subst hm
        exact rtn (ret1 rfl rfl ⟨_, rfl, _, Im.refl, ⟨rfl, hS.sel [0] rfl, trivial⟩⟩)
      · have hm := cfalse hb3 hm
        refine gT (d0 := 13) rfl rfl hb3 (pv (r_mi rfl) (gT (d0 := 13) rfl rfl hb3 (pv (r_ib rfl rfl rfl) (pv (r_pkf rfl hb3 rfl) (pv (r_zb rfl) (nil (t_thenR [(2, .bool (p0 == 13))] ⟨rfl, trivial⟩ fun J => ?_)))))))
        have hm := Option.some.inj hm
        subst hm
        exact rtn (ret1 rfl rfl ⟨_, rfl, _, Im.refl, ⟨rfl, hS.sel [0] rfl, trivial⟩⟩)

set_option maxRecDepth 100000 in
set_option maxHeartbeats 1000000 in
theorem lex_span_sim {g : World} {T0 : Nat → Prop} {w0 : World} {R : Assn} {p0 : List UInt8} {r : Int} (hS : Sep g T0 w0 [R])  (hm : lex_span p0 = some r) :
    Calls Try.prog 23 #[.string ⟨p0.toArray⟩, .func (.func 24) #[] #[]] w0 (RetS T0 w0 fun T w v => v = .int .i64 r ∧ Sep g T w [R] ∧ True) := by
  refine enter (args := [.string ⟨p0.toArray⟩, .func (.func 24) #[] #[]]) Try.func23 rfl Try.ntmps23 rfl fun J => ?_
  unfold lex_span at hm
  refine sq2 ?_
  refine rg (pv (r_zi rfl) (nil (t_then ?_)))
  refine sq2 ?_
  refine rg (pv (r_zi rfl) (nil (t_then ?_)))
  refine sq2 ?_
  obtain ⟨o1, ho1, hq1⟩ := bindS hm
  obtain ⟨bd1, hbd1, ho1⟩ := loop_open ho1
  refine blk (wp_loop_ghost (fun m a w1 => ∃ (J : Nat → Value) (T1 : Nat → Prop) (x1 : Int), a = env (nf 20) J [(0, .string ⟨p0.toArray⟩), (1, .func (.func 24) #[] #[]), (5, .int .i64 x1)] ∧ Im T0 w0 T1 w1 ∧ Sep g T1 w1 [R] ∧ loopM bd1 m x1 = some o1) NN ⟨_, _, 0, env_has ⟨rfl, rfl, rfl, trivial⟩, Im.refl, hS.sel [0] rfl, ho1⟩ ?_)
  rintro m _ w1 ⟨J, T1, x1, rfl, im1, hS1, ho1⟩
  obtain ⟨m1, z1, rfl, hm, hn1⟩ := loop_round ho1
  rw [hbd1] at hm
  refine sq2 ?_
  refine sq2 ?_
  refine rg (pv (r_mi rfl) (pv (r_mt rfl) (pv (r_lnt rfl Try.underlying9) (pv (r_ib rfl rfl rfl) (pv (r_mb rfl) (?_))))))
  rcases Bool.eq_false_or_eq_true (decide (x1 < (List.length p0 : Int))) with hb1 | hb1
  · have hm := ctrue hb1 hm
    obtain ⟨u1, hx1, hm⟩ := bindS hm
    obtain ⟨y1, hx2, hm⟩ := bindS hm
    refine gT (d0 := 10) rfl rfl hb1 (pv (r_mf rfl) (gT (d0 := 10) rfl rfl hb1 (pv (r_mt rfl) (gT (d0 := 10) rfl rfl hb1 (pv (r_mi rfl) (gT (d0 := 10) rfl rfl hb1 (pv (r_sx rfl rfl hx1 Try.underlying9) (gT (d0 := 10) rfl rfl hb1 (wl rfl (calS cf24 rfl (lex_blank_1_sim (p0 := (UInt8.toNat u1 : Int)) (hS1.bun [0] [] rfl)  hx2) rfl fun v1 T2 w2 im2 rv1 => ?_))))))))))
    obtain ⟨rfl, hS2, _⟩ := rv1
    have hS2 : Sep g T2 w2 [R] := hS2.unb
    refine pv (r_pkt rfl hb1 rfl) (nil (t_thenR [(0, .string ⟨p0.toArray⟩), (1, .func (.func 24) #[] #[]), (5, .int .i64 x1), (16, .bool y1)] ⟨rfl, rfl, rfl, rfl, trivial⟩ fun J => ?_))
    refine cnd rfl (fun hb2 => ?_) (fun hb2 => ?_)
    · have hm := ctrue hb2 hm
      refine skp (t_then ?_)
      refine blk ?_
      have hm := Option.some.inj hm
      subst hm
      exact rg (pv (r_mi rfl) (pv (r_ib rfl rfl rfl) (pv (r_zi rfl) (nil (t_blk (t_then ⟨m1, Nat.lt_succ_self _, _, _, (IntKind.wrap .i64 (x1 + 1)), env_has ⟨rfl, rfl, rfl, trivial⟩, (Im.trans im1 im2), hS2.sel [0] rfl, hn1⟩))))))
    · have hm := cfalse hb2 hm
      have hm := Option.some.inj hm
      subst hm
      have hn1 : _ = Lp.brk _ := hn1
      subst hn1
      have hm := thn_brk hq1
      refine xt (x_then (x_then (x_eq (t_then ?_))))
      refine sq2 ?_
      refine rg (pv (r_mi rfl) (pv (r_zi rfl) (nil (t_thenR [(4, .int .i64 x1)] ⟨rfl, trivial⟩ fun J => ?_))))
      have hm := Option.some.inj hm
      subst hm
      exact rtn (ret1 rfl rfl ⟨_, rfl, _, (Im.trans im1 im2), ⟨rfl, hS2.sel [0] rfl, trivial⟩⟩)
  · have hm := cfalse hb1 hm
    refine gF (d0 := 10) rfl rfl (by rw [hb1]; rfl) (gF (d0 := 10) rfl rfl (by rw [hb1]; rfl) (gF (d0 := 10) rfl rfl (by rw [hb1]; rfl) (gF (d0 := 10) rfl rfl (by rw [hb1]; rfl) (gF (d0 := 10) rfl rfl (by rw [hb1]; rfl) (pv (r_pkf rfl hb1 rfl) (nil (t_thenR [(0, .string ⟨p0.toArray⟩), (1, .func (.func 24) #[] #[]), (5, .int .i64 x1), (16, .bool false)] ⟨rfl, rfl, rfl, rfl, trivial⟩ fun J => ?_)))))))
    refine cnd (b := false) rfl (fun h => nomatch h) (fun _ => ?_)
    have hm := Option.some.inj hm
    subst hm
    have hn1 : _ = Lp.brk _ := hn1
    subst hn1
    have hm := thn_brk hq1
    refine xt (x_then (x_then (x_eq (t_then ?_))))
    refine sq2 ?_
    refine rg (pv (r_mi rfl) (pv (r_zi rfl) (nil (t_thenR [(4, .int .i64 x1)] ⟨rfl, trivial⟩ fun J => ?_))))
    have hm := Option.some.inj hm
    subst hm
    exact rtn (ret1 rfl rfl ⟨_, rfl, _, im1, ⟨rfl, hS1.sel [0] rfl, trivial⟩⟩)

set_option maxRecDepth 100000 in
set_option maxHeartbeats 1000000 in
theorem lex_blank_sim {g : World} {T0 : Nat → Prop} {w0 : World} {R : Assn} {p0 : List UInt8} {r : Int} (hS : Sep g T0 w0 [R]) (hG0 : Gi T0 w0 0) (hm : lex_blank p0 = some r) :
    Calls Try.prog 14 #[.string ⟨p0.toArray⟩] w0 (RetS T0 w0 fun T w v => v = .int .i64 r ∧ Sep g T w [R] ∧ True) := by
  refine enter (args := [.string ⟨p0.toArray⟩]) Try.func14 rfl Try.ntmps14 rfl fun J => ?_
  unfold lex_blank at hm
  refine sq2 ?_
  refine rg (pv (r_zi rfl) (nil (t_then ?_)))
  refine sq2 ?_
  refine sq2 ?_
  obtain ⟨y1, hx1, hm⟩ := bindS hm
  refine rg (pv (r_mt rfl) (wl rfl (calS cf21 rfl (strings_HasPrefix_sim (p0 := p0) (p1 := ([47, 47] : List UInt8)) (hS.bun [0] [] rfl)  hx1) rfl fun v1 T1 w1 im1 rv1 => ?_)))
  obtain ⟨rfl, hS1, _⟩ := rv1
  have hS1 : Sep g T1 w1 [R] := hS1.unb
  refine nil (t_then ?_)
  refine cnd rfl (fun hb1 => ?_) (fun hb1 => ?_)
  · have hm := ctrue hb1 hm
    refine sq2 ?_
    refine sq2 ?_
    obtain ⟨y2, hx2, hm⟩ := bindS hm
    refine rg (pv (r_mt rfl) (wl rfl (calS cf22 rfl (strings_Index_sim (p0 := p0) (p1 := ([10] : List UInt8)) (hS1.bun [0] [] rfl) (hG0.mono im1) hx2) rfl fun v2 T2 w2 im2 rv2 => ?_)))
    obtain ⟨rfl, hS2, _⟩ := rv2
    have hS2 : Sep g T2 w2 [R] := hS2.unb
    refine pv (r_zi rfl) (nil (t_thenR [(0, .string ⟨p0.toArray⟩), (3, .int .i64 y2)] ⟨rfl, rfl, trivial⟩ fun J => ?_))
    refine sq2 ?_
    refine rg (pv (r_mi rfl) (pv (r_ib rfl rfl rfl) (nil (t_then ?_))))
    refine cnd rfl (fun hb2 => ?_) (fun hb2 => ?_)
    · have hm := ctrue hb2 hm
      refine sq2 ?_
      refine rg (pv (r_mi rfl) (pv (r_zi rfl) (nil (t_thenR [(2, .int .i64 y2)] ⟨rfl, trivial⟩ fun J => ?_))))
      have hm := Option.some.inj hm
      subst hm
      exact rtn (r_then (r_then (ret1 rfl rfl ⟨_, rfl, _, (Im.trans im1 im2), ⟨rfl, hS2.sel [0] rfl, trivial⟩⟩)))
    · have hm := cfalse hb2 hm
      refine skp (t_then ?_)
      refine sq2 ?_
      refine rg (pv (r_mt rfl) (pv (r_lnt rfl Try.underlying9) (pv (r_zi rfl) (nil (t_thenR [(2, .int .i64 (List.length p0 : Int))] ⟨rfl, trivial⟩ fun J => ?_)))))
      have hm := Option.some.inj hm
      subst hm
      exact rtn (r_then (ret1 rfl rfl ⟨_, rfl, _, (Im.trans im1 im2), ⟨rfl, hS2.sel [0] rfl, trivial⟩⟩))
  · have hm := cfalse hb1 hm
    refine skp (t_then ?_)
    refine sq2 ?_
    refine sq2 ?_
    obtain ⟨y3, hx3, hm⟩ := bindS hm
    refine rg (pv (r_mt rfl) (wl rfl (calS cf21 rfl (strings_HasPrefix_sim (p0 := p0) (p1 := ([47, 42] : List UInt8)) (hS1.bun [0] [] rfl)  hx3) rfl fun v3 T3 w3 im3 rv3 => ?_)))
    obtain ⟨rfl, hS3, _⟩ := rv3
    have hS3 : Sep g T3 w3 [R] := hS3.unb
    refine nil (t_then ?_)
    refine cnd rfl (fun hb3 => ?_) (fun hb3 => ?_)
    · have hm := ctrue hb3 hm
      refine sq2 ?_
      obtain ⟨u1, hx4, hm⟩ := bindS hm
      obtain ⟨y4, hx5, hm⟩ := bindS hm
      refine rg (pv (r_mt rfl) (pv (r_ss rfl ⟨_, rfl⟩ rfl hx4 Try.underlying9) (wl rfl (calS cf22 rfl (strings_Index_sim (p0 := u1) (p1 := ([42, 47] : List UInt8)) (hS3.bun [0] [] rfl) (hG0.mono (Im.trans im1 im3)) hx5) rfl fun v4 T4 w4 im4 rv4 => ?_))))
      obtain ⟨rfl, hS4, _⟩ := rv4
      have hS4 : Sep g T4 w4 [R] := hS4.unb
      refine pv (r_zi rfl) (nil (t_thenR [(4, .int .i64 y4)] ⟨rfl, trivial⟩ fun J => ?_))
      refine sq2 ?_
      refine sq2 ?_
      refine rg (pv (r_mi rfl) (pv (r_ib rfl rfl rfl) (nil (t_then ?_))))
      refine cnd rfl (fun hb4 => ?_) (fun hb4 => ?_)
      · have hm := ctrue hb4 hm
        refine sq2 ?_
        refine rg (pv (r_zi rfl) (nil (t_then ?_)))
        have hm := Option.some.inj hm
        subst hm
        exact rtn (r_then (r_then (ret1 rfl rfl ⟨_, rfl, _, (Im.trans im1 (Im.trans im3 im4)), ⟨rfl, hS4.sel [0] rfl, trivial⟩⟩)))
      · have hm := cfalse hb4 hm
        refine skp (t_then ?_)
        refine sq2 ?_
        refine rg (pv (r_mi rfl) (pv (r_ib rfl rfl rfl) (pv (r_zi rfl) (nil (t_thenR [(2, .int .i64 (IntKind.wrap .i64 (y4 + 4)))] ⟨rfl, trivial⟩ fun J => ?_)))))
        have hm := Option.some.inj hm
        subst hm
        exact rtn (r_then (ret1 rfl rfl ⟨_, rfl, _, (Im.trans im1 (Im.trans im3 im4)), ⟨rfl, hS4.sel [0] rfl, trivial⟩⟩))
    · have hm := cfalse hb3 hm
      refine skp (t_thenR [(0, .string ⟨p0.toArray⟩)] ⟨rfl, trivial⟩ fun J => ?_)
      refine sq2 ?_
      obtain ⟨y5, hx6, hm⟩ := bindS hm
      refine rg (pv (r_mt rfl) (wl rfl (calS cf23 rfl (lex_span_sim (p0 := p0) (hS3.bun [0] [] rfl)  hx6) rfl fun v5 T5 w5 im5 rv5 => ?_)))
      obtain ⟨rfl, hS5, _⟩ := rv5
      have hS5 : Sep g T5 w5 [R] := hS5.unb
      refine pv (r_zi rfl) (nil (t_then ?_))
      have hm := Option.some.inj hm
      subst hm
      exact rtn (ret1 rfl rfl ⟨_, rfl, _, (Im.trans im1 (Im.trans im3 im5)), ⟨rfl, hS5.sel [0] rfl, trivial⟩⟩)

set_option maxRecDepth 100000 in
set_option maxHeartbeats 1000000 in
theorem lex_scanner_skip_sim {g : World} {T0 : Nat → Prop} {w0 : World} {R : Assn} {p0 : LexScanner} {b_p0 o_p0 : Nat} {H_p0 : List Value → Assn} {p1 : Int} {r : LexScanner} (hS : Sep g T0 w0 [R, H_p0 [.string ⟨p0.s.toArray⟩, .int .i64 p0.pos.Line, .int .i64 p0.pos.Col]]) (hL_p0 : Ln b_p0 o_p0 H_p0) (hm : lex_scanner_skip p0 p1 = some r) :
    Calls Try.prog 15 #[.pointer (some ⟨b_p0, o_p0, none⟩), .int .i64 p1] w0 (RetS T0 w0 fun T w v => v = .tuple #[] ∧ Sep g T w [R, H_p0 [.string ⟨r.s.toArray⟩, .int .i64 r.pos.Line, .int .i64 r.pos.Col]] ∧ True) := by
  refine enter (args := [.pointer (some ⟨b_p0, o_p0, none⟩), .int .i64 p1]) Try.func15 rfl Try.ntmps15 rfl fun J => ?_
  unfold lex_scanner_skip at hm
  refine sq2 ?_
  refine sq2 ?_
  obtain ⟨u1, hx1, hm⟩ := bindS hm
  obtain ⟨z_1, hro1, hm⟩ := bindS hm
  refine rg (pv (r_mp rfl) (pv (r_nc rfl) (pv (r_fa rfl Try.underlying40 rfl Try.sizeOf9 rfl) (pv (r_ld rfl Try.isAgg9 (hS.cellB (i := 1) ⟨rfl, rfl⟩ hL_p0 (j := 0) rfl)) (pv (r_mi rfl) (pv (r_ss rfl rfl ⟨_, rfl⟩ hx1 Try.underlying9) (wl rfl (cvB hS rfl Try.underlying9 Try.underlying22 Try.underlying5 (room_some hro1) fun T1 w1 a1 c1 im1 hS1 h1 => ?_))))))))
  refine pv (r_ln rfl Try.underlying22) (pv (r_mi rfl) (nil (t_thenR [(0, .pointer (some ⟨b_p0, o_p0, none⟩)), (1, .int .i64 p1), (12, .slice a1 (List.length (strBytes u1)) c1), (13, .int .i64 (List.length (strBytes u1) : Int)), (14, .int .i64 0)] ⟨rfl, rfl, rfl, rfl, rfl, trivial⟩ fun J => ?_)))
  obtain ⟨o1, ho1, hq1⟩ := bindS hm
  obtain ⟨bd1, hbd1, ho1⟩ := loop_open ho1
  refine blk (wp_loop_ghost (fun m a w2 => ∃ (J : Nat → Value) (T2 : Nat → Prop) (x2 : LexScanner) (x1 : Int), a = env (nf 49) J [(0, .pointer (some ⟨b_p0, o_p0, none⟩)), (1, .int .i64 p1), (12, .slice a1 (List.length (strBytes u1)) c1), (13, .int .i64 (List.length (strBytes u1) : Int)), (14, .int .i64 x1)] ∧ Im T1 w1 T2 w2 ∧ Sep g T2 w2 [R, H_p0 [.string ⟨x2.s.toArray⟩, .int .i64 x2.pos.Line, .int .i64 x2.pos.Col]] ∧ loopM bd1 m (x1, x2) = some o1) NN ⟨_, _, p0, 0, env_has ⟨rfl, rfl, rfl, rfl, rfl, trivial⟩, Im.refl, hS1.sel [0, 1] rfl, ho1⟩ ?_)
  rintro m _ w2 ⟨J, T2, x2, x1, rfl, im2, hS2, ho1⟩
  obtain ⟨m1, z1, rfl, hm, hn1⟩ := loop_round ho1
  rw [hbd1] at hm
  refine sq2 ?_
  refine rg (pv (r_ib rfl rfl rfl) (nil (t_then ?_)))
  refine sq2 ?_
  refine cnd rfl (fun hb1 => ?_) (fun hb1 => ?_)
  · have hm := ctrue hb1 hm
    refine skp (t_then ?_)
    obtain ⟨kk1, hkk1, hm⟩ := jn_open hm
    refine cut (fun a w3 => ∃ (J : Nat → Value) (T3 : Nat → Prop) (x3 : LexScanner), a = env (nf 49) J [(0, .pointer (some ⟨b_p0, o_p0, none⟩)), (1, .int .i64 p1), (12, .slice a1 (List.length (strBytes u1)) c1), (13, .int .i64 (List.length (strBytes u1) : Int)), (14, .int .i64 x1)] ∧ Im T2 w2 T3 w3 ∧ Sep g T3 w3 [R, H_p0 [.string ⟨x3.s.toArray⟩, .int .i64 x3.pos.Line, .int .i64 x3.pos.Col]] ∧ kk1 x3 = some z1) ?_ ?_
    · refine blk ?_
      refine sq2 ?_
      obtain ⟨u2, hx2, hm⟩ := bindS hm
      obtain ⟨b1, of1, cs1, k1, cp1, hv1, hp1, hl1, he1, hr1, hc1, hT1⟩ := (h1.mono im2).ixT hx2 rfl
      cases hr1
      refine rg (pv (r_ixe hv1 rfl Try.underlying22 Try.sizeOf5 hp1 hl1 he1) (pv (r_ld rfl Try.isAgg5 (hc1.get (j := 0) rfl)) (pv (r_zi rfl) (nil (t_then ?_)))))
      refine sq2 ?_
      refine rg (pv (r_mp rfl) (pv (r_nc rfl) (pv (r_fa rfl Try.underlying40 rfl Try.sizeOf26 rfl) (pv (r_fa rfl Try.underlying26 rfl Try.sizeOf3 rfl) (pv (r_ld rfl Try.isAgg3 (hS2.cellB (i := 1) ⟨rfl, rfl⟩ hL_p0 (j := 2) rfl)) (pv (r_ib rfl rfl rfl) (pv (r_nc rfl) (pv (r_fa rfl Try.underlying40 rfl Try.sizeOf26 rfl) (pv (r_fa rfl Try.underlying26 rfl Try.sizeOf3 rfl) (wl rfl (stB (q := 1) (j := 2) hS2 ⟨rfl, rfl⟩ hL_p0 rfl rfl rfl Try.sizeOf3 rfl rfl rfl fun w4 im4 hS3 => ?_)))))))))))
      have hS3 : Sep g T2 w4 [R, H_p0 [.string ⟨x2.s.toArray⟩, .int .i64 x2.pos.Line, .int .i64 (IntKind.wrap .i64 (x2.pos.Col + 1))]] := hS3
      refine nil (t_thenR [(0, .pointer (some ⟨b_p0, o_p0, none⟩)), (1, .int .i64 p1), (5, .int .u8 u2), (12, .slice a1 (List.length (strBytes u1)) c1), (13, .int .i64 (List.length (strBytes u1) : Int)), (14, .int .i64 x1)] ⟨rfl, rfl, rfl, rfl, rfl, rfl, trivial⟩ fun J => ?_)
      refine sq2 ?_
      refine rg (pv (r_mi rfl) (pv (r_ib rfl rfl rfl) (nil (t_then ?_))))
      refine cnd rfl (fun hb2 => ?_) (fun hb2 => ?_)
      · have hm := ctrue hb2 hm
        refine rg (pv (r_mp rfl) (pv (r_mp rfl) (pv (r_nc rfl) (pv (r_fa rfl Try.underlying40 rfl Try.sizeOf26 rfl) (pv (r_fa rfl Try.underlying26 rfl Try.sizeOf3 rfl) (pv (r_ld rfl Try.isAgg3 (hS3.cellB (i := 1) ⟨rfl, rfl⟩ hL_p0 (j := 1) rfl)) (pv (r_ib rfl rfl rfl) (pv (r_bd (by kernel_rfl) rfl (u := .agg #[.int .i64 (IntKind.wrap .i64 (x2.pos.Line + 1)), .int .i64 1])) (pv (r_nc rfl) (pv (r_fa rfl Try.underlying40 rfl Try.sizeOf26 rfl) (wl rfl (stB (q := 1) (j := 1) hS3 ⟨rfl, rfl⟩ hL_p0 rfl rfl rfl Try.sizeOf26 rfl rfl rfl fun w5 im5 hS4 => ?_))))))))))))
        have hS4 : Sep g T2 w5 [R, H_p0 [.string ⟨x2.s.toArray⟩, .int .i64 (IntKind.wrap .i64 (x2.pos.Line + 1)), .int .i64 1]] := hS4
        exact nil (t_blk (t_then ⟨_, _, (⟨x2.s, (⟨IntKind.wrap .i64 (x2.pos.Line + 1), 1⟩ : Pos)⟩ : LexScanner), env_has ⟨rfl, rfl, rfl, rfl, rfl, trivial⟩, (Im.trans im4 im5), hS4.sel [0, 1] rfl, hm⟩))
      · have hm := cfalse hb2 hm
        exact skp (t_blk (t_then ⟨_, _, (⟨x2.s, (⟨x2.pos.Line, IntKind.wrap .i64 (x2.pos.Col + 1)⟩ : Pos)⟩ : LexScanner), env_has ⟨rfl, rfl, rfl, rfl, rfl, trivial⟩, im4, hS3.sel [0, 1] rfl, hm⟩))
    · rintro _ w3 ⟨J, T3, x3, rfl, im3, hS5, hm⟩
      rw [hkk1] at hm
      have hm := Option.some.inj hm
      subst hm
      exact rg (pv (r_ib rfl rfl rfl) (pv (r_mi rfl) (nil (t_then ⟨m1, Nat.lt_succ_self _, _, _, x3, (IntKind.wrap .i64 (x1 + 1)), env_has ⟨rfl, rfl, rfl, rfl, rfl, trivial⟩, (Im.trans im2 im3), hS5.sel [0, 1] rfl, hn1⟩))))
  · have hm := cfalse hb1 hm
    have hm := Option.some.inj hm
    subst hm
    have hn1 : _ = Lp.brk _ := hn1
    subst hn1
    have hm := thn_brk hq1
    refine xt (x_then (x_then (x_eq (t_then ?_))))
    obtain ⟨u3, hx3, hm⟩ := bindS hm
    refine rg (pv (r_mp rfl) (pv (r_mp rfl) (pv (r_nc rfl) (pv (r_fa rfl Try.underlying40 rfl Try.sizeOf9 rfl) (pv (r_ld rfl Try.isAgg9 (hS2.cellB (i := 1) ⟨rfl, rfl⟩ hL_p0 (j := 0) rfl)) (pv (r_mi rfl) (pv (r_ss rfl ⟨_, rfl⟩ rfl hx3 Try.underlying9) (pv (r_nc rfl) (pv (r_fa rfl Try.underlying40 rfl Try.sizeOf9 rfl) (wl rfl (stB (q := 1) (j := 0) hS2 ⟨rfl, rfl⟩ hL_p0 rfl rfl rfl Try.sizeOf9 rfl rfl rfl fun w6 im6 hS6 => ?_)))))))))))
    have hS6 : Sep g T2 w6 [R, H_p0 [.string ⟨u3.toArray⟩, .int .i64 x2.pos.Line, .int .i64 x2.pos.Col]] := hS6
    have hm := Option.some.inj hm
    subst hm
    exact nil (end0 rfl ⟨_, rfl, _, (Im.trans im1 (Im.trans im2 im6)), ⟨rfl, hS6.sel [0, 1] rfl, trivial⟩⟩)

set_option maxRecDepth 100000 in
set_option maxHeartbeats 1000000 in
theorem lex_letter_sim {g : World} {T0 : Nat → Prop} {w0 : World} {R : Assn} {p0 : Int} {r : Bool} (hS : Sep g T0 w0 [R])  (hm : lex_letter p0 = some r) :
    Calls Try.prog 25 #[.int .u8 p0] w0 (RetS T0 w0 fun T w v => v = .bool r ∧ Sep g T w [R] ∧ True) := by
  refine enter (args := [.int .u8 p0]) Try.func25 rfl Try.ntmps25 rfl fun J => ?_
  unfold lex_letter at hm
  refine sq2 ?_
  refine rg (pv (r_zb rfl) (nil (t_then ?_)))
  refine sq2 ?_
  refine rg (pv (r_mi rfl) (pv (r_ib rfl rfl rfl) (pv (r_mb rfl) (?_))))
  rcases Bool.eq_false_or_eq_true (decide (97 ≤ p0)) with hb1 | hb1
  · have hm := ctrue hb1 hm
    refine gT (d0 := 5) rfl rfl hb1 (pv (r_mi rfl) (gT (d0 := 5) rfl rfl hb1 (pv (r_ib rfl rfl rfl) (pv (r_pkt rfl hb1 rfl) (pv (r_mb rfl) (?_))))))
    rcases Bool.eq_false_or_eq_true (decide (p0 ≤ 122)) with hb2 | hb2
    · have hm := ctrue hb2 hm
      refine gF (d0 := 9) rfl rfl (by rw [hb2]; rfl) (gF (d0 := 9) rfl rfl (by rw [hb2]; rfl) (gF (d0 := 9) rfl rfl (by rw [hb2]; rfl) (gU (d0 := 12) rfl rfl (gU (d0 := 12) rfl rfl (gF (d0 := 9) rfl rfl (by rw [hb2]; rfl) (pv (r_pkt rfl hb2 rfl) (pv (r_mb rfl) (gF (d0 := 17) rfl rfl rfl (gF (d0 := 17) rfl rfl rfl (pv (r_pkt rfl rfl rfl) (pv (r_zb rfl) (nil (t_thenR [(2, .bool true)] ⟨rfl, trivial⟩ fun J => ?_)))))))))))))
      have hm := Option.some.inj hm
      subst hm
      exact rtn (ret1 rfl rfl ⟨_, rfl, _, Im.refl, ⟨rfl, hS.sel [0] rfl, trivial⟩⟩)
    · have hm := cfalse hb2 hm
      refine gT (d0 := 9) rfl rfl hb2 (pv (r_mi rfl) (gT (d0 := 9) rfl rfl hb2 (pv (r_ib rfl rfl rfl) (gT (d0 := 9) rfl rfl hb2 (pv (r_mb rfl) (?_))))))
      rcases Bool.eq_false_or_eq_true (decide (65 ≤ p0)) with hb3 | hb3
      · have hm := ctrue hb3 hm
        refine gT (d0 := 12) rfl rfl hb3 (pv (r_mi rfl) (gT (d0 := 12) rfl rfl hb3 (pv (r_ib rfl rfl rfl) (gT (d0 := 9) rfl rfl hb2 (pv (r_pkt rfl hb3 rfl) (pv (r_pkf rfl hb2 rfl) (pv (r_mb rfl) (?_))))))))
        rcases Bool.eq_false_or_eq_true (decide (p0 ≤ 90)) with hb4 | hb4
        · have hm := ctrue hb4 hm
          refine gF (d0 := 17) rfl rfl (by rw [hb4]; rfl) (gF (d0 := 17) rfl rfl (by rw [hb4]; rfl) (pv (r_pkt rfl hb4 rfl) (pv (r_zb rfl) (nil (t_thenR [(2, .bool true)] ⟨rfl, trivial⟩ fun J => ?_)))))
          have hm := Option.some.inj hm
          subst hm
          exact rtn (ret1 rfl rfl ⟨_, rfl, _, Im.refl, ⟨rfl, hS.sel [0] rfl, trivial⟩⟩)
        · have hm := cfalse hb4 hm
          refine gT (d0 := 17) rfl rfl hb4 (pv (r_mi rfl) (gT (d0 := 17) rfl rfl hb4 (pv (r_ib rfl rfl rfl) (pv (r_pkf rfl hb4 rfl) (pv (r_zb rfl) (nil (t_thenR [(2, .bool (p0 == 95))] ⟨rfl, trivial⟩ fun J => ?_)))))))
          have hm := Option.some.inj hm
          subst hm
          exact rtn (ret1 rfl rfl ⟨_, rfl, _, Im.refl, ⟨rfl, hS.sel [0] rfl, trivial⟩⟩)
      · have hm := cfalse hb3 hm
        refine gF (d0 := 12) rfl rfl (by rw [hb3]; rfl) (gF (d0 := 12) rfl rfl (by rw [hb3]; rfl) (gT (d0 := 9) rfl rfl hb2 (pv (r_pkf rfl hb3 rfl) (pv (r_pkf rfl hb2 rfl) (pv (r_mb rfl) (gT (d0 := 17) rfl rfl rfl (pv (r_mi rfl) (gT (d0 := 17) rfl rfl rfl (pv (r_ib rfl rfl rfl) (pv (r_pkf rfl rfl rfl) (pv (r_zb rfl) (nil (t_thenR [(2, .bool (p0 == 95))] ⟨rfl, trivial⟩ fun J => ?_)))))))))))))
        have hm := Option.some.inj hm
        subst hm
        exact rtn (ret1 rfl rfl ⟨_, rfl, _, Im.refl, ⟨rfl, hS.sel [0] rfl, trivial⟩⟩)
  · have hm := cfalse hb1 hm
    refine gF (d0 := 5) rfl rfl (by rw [hb1]; rfl) (gF (d0 := 5) rfl rfl (by rw [hb1]; rfl) (pv (r_pkf rfl hb1 rfl) (pv (r_mb rfl) (gT (d0 := 9) rfl rfl rfl (pv (r_mi rfl) (gT (d0 := 9) rfl rfl rfl (pv (r_ib rfl rfl rfl) (gT (d0 := 9) rfl rfl rfl (pv (r_mb rfl) (?_))))))))))
    rcases Bool.eq_false_or_eq_true (decide (65 ≤ p0)) with hb5 | hb5
    · have hm := ctrue hb5 hm
      refine gT (d0 := 12) rfl rfl hb5 (pv (r_mi rfl) (gT (d0 := 12) rfl rfl hb5 (pv (r_ib rfl rfl rfl) (gT (d0 := 9) rfl rfl rfl (pv (r_pkt rfl hb5 rfl) (pv (r_pkf rfl rfl rfl) (pv (r_mb rfl) (?_))))))))
      rcases Bool.eq_false_or_eq_true (decide (p0 ≤ 90)) with hb6 | hb6
      · have hm := ctrue hb6 hm
        refine gF (d0 := 17) rfl rfl (by rw [hb6]; rfl) (gF (d0 := 17) rfl rfl (by rw [hb6]; rfl) (pv (r_pkt rfl hb6 rfl) (pv (r_zb rfl) (nil (t_thenR [(2, .bool true)] ⟨rfl, trivial⟩ fun J => ?_)))))
        have hm := Option.some.inj hm
        subst hm
        exact rtn (ret1 rfl rfl ⟨_, rfl, _, Im.refl, ⟨rfl, hS.sel [0] rfl, trivial⟩⟩)
      · have hm := cfalse hb6 hm
        refine gT (d0 := 17) rfl rfl hb6 (pv (r_mi rfl) (gT (d0 := 17) rfl rfl hb6 (pv (r_ib rfl rfl rfl) (pv (r_pkf rfl hb6 rfl) (pv (r_zb rfl) (nil (t_thenR [(2, .bool (p0 == 95))] ⟨rfl, trivial⟩ fun J => ?_)))))))
        have hm := Option.some.inj hm
        subst hm
        exact rtn (ret1 rfl rfl ⟨_, rfl, _, Im.refl, ⟨rfl, hS.sel [0] rfl, trivial⟩⟩)
    · have hm := cfalse hb5 hm
      refine gF (d0 := 12) rfl rfl (by rw [hb5]; rfl) (gF (d0 := 12) rfl rfl (by rw [hb5]; rfl) (gT (d0 := 9) rfl rfl rfl (pv (r_pkf rfl hb5 rfl) (pv (r_pkf rfl rfl rfl) (pv (r_mb rfl) (gT (d0 := 17) rfl rfl rfl (pv (r_mi rfl) (gT (d0 := 17) rfl rfl rfl (pv (r_ib rfl rfl rfl) (pv (r_pkf rfl rfl rfl) (pv (r_zb rfl) (nil (t_thenR [(2, .bool (p0 == 95))] ⟨rfl, trivial⟩ fun J => ?_)))))))))))))
      have hm := Option.some.inj hm
      subst hm
      exact rtn (ret1 rfl rfl ⟨_, rfl, _, Im.refl, ⟨rfl, hS.sel [0] rfl, trivial⟩⟩)

set_option maxRecDepth 100000 in
set_option maxHeartbeats 1000000 in
theorem lex_digit_sim {g : World} {T0 : Nat → Prop} {w0 : World} {R : Assn} {p0 : Int} {r : Bool} (hS : Sep g T0 w0 [R])  (hm : lex_digit p0 = some r) :
    Calls Try.prog 27 #[.int .u8 p0] w0 (RetS T0 w0 fun T w v => v = .bool r ∧ Sep g T w [R] ∧ True) := by
  refine enter (args := [.int .u8 p0]) Try.func27 rfl Try.ntmps27 rfl fun J => ?_
  unfold lex_digit at hm
  refine sq2 ?_
  refine rg (pv (r_zb rfl) (nil (t_then ?_)))
  refine sq2 ?_
  refine rg (pv (r_mi rfl) (pv (r_ib rfl rfl rfl) (pv (r_mb rfl) (?_))))
  rcases Bool.eq_false_or_eq_true (decide (48 ≤ p0)) with hb1 | hb1
  · have hm := ctrue hb1 hm
    refine gT (d0 := 5) rfl rfl hb1 (pv (r_mi rfl) (gT (d0 := 5) rfl rfl hb1 (pv (r_ib rfl rfl rfl) (pv (r_pkt rfl hb1 rfl) (pv (r_zb rfl) (nil (t_thenR [(2, .bool (decide (p0 ≤ 57)))] ⟨rfl, trivial⟩ fun J => ?_)))))))
    have hm := Option.some.inj hm
    subst hm
    exact rtn (ret1 rfl rfl ⟨_, rfl, _, Im.refl, ⟨rfl, hS.sel [0] rfl, trivial⟩⟩)
  · have hm := cfalse hb1 hm
    refine gF (d0 := 5) rfl rfl (by rw [hb1]; rfl) (gF (d0 := 5) rfl rfl (by rw [hb1]; rfl) (pv (r_pkf rfl hb1 rfl) (pv (r_zb rfl) (nil (t_thenR [(2, .bool false)] ⟨rfl, trivial⟩ fun J => ?_)))))
    have hm := Option.some.inj hm
    subst hm
    exact rtn (ret1 rfl rfl ⟨_, rfl, _, Im.refl, ⟨rfl, hS.sel [0] rfl, trivial⟩⟩)

set_option maxRecDepth 100000 in
set_option maxHeartbeats 1000000 in
theorem lex_more_sim {g : World} {T0 : Nat → Prop} {w0 : World} {R : Assn} {p0 : Int} {r : Bool} (hS : Sep g T0 w0 [R])  (hm : lex_more p0 = some r) :
    Calls Try.prog 26 #[.int .u8 p0] w0 (RetS T0 w0 fun T w v => v = .bool r ∧ Sep g T w [R] ∧ True) := by
  refine enter (args := [.int .u8 p0]) Try.func26 rfl Try.ntmps26 rfl fun J => ?_
  unfold lex_more at hm
  refine sq2 ?_
  refine rg (pv (r_zb rfl) (nil (t_then ?_)))
  refine sq2 ?_
  obtain ⟨y1, hx1, hm⟩ := bindS hm
  refine rg (pv (r_mi rfl) (wl rfl (calS cf25 rfl (lex_letter_sim (p0 := p0) (hS.bun [0] [] rfl)  hx1) rfl fun v1 T1 w1 im1 rv1 => ?_)))
  obtain ⟨rfl, hS1, _⟩ := rv1
  have hS1 : Sep g T1 w1 [R] := hS1.unb
  refine pv (r_mb rfl) (?_)
  rcases Bool.eq_false_or_eq_true y1 with hb1 | hb1
  · have hm := ctrue hb1 hm
    refine gF (d0 := 5) rfl rfl (by rw [hb1]; rfl) (gF (d0 := 5) rfl rfl (by rw [hb1]; rfl) (pv (r_pkt rfl hb1 rfl) (pv (r_zb rfl) (nil (t_thenR [(2, .bool true)] ⟨rfl, trivial⟩ fun J => ?_)))))
    have hm := Option.some.inj hm
    subst hm
    exact rtn (ret1 rfl rfl ⟨_, rfl, _, im1, ⟨rfl, hS1.sel [0] rfl, trivial⟩⟩)
  · have hm := cfalse hb1 hm
    obtain ⟨y2, hx2, hm⟩ := bindS hm
    refine gT (d0 := 5) rfl rfl hb1 (pv (r_mi rfl) (gT (d0 := 5) rfl rfl hb1 (wl rfl (calS cf27 rfl (lex_digit_sim (p0 := p0) (hS1.bun [0] [] rfl)  hx2) rfl fun v2 T2 w2 im2 rv2 => ?_))))
    obtain ⟨rfl, hS2, _⟩ := rv2
    have hS2 : Sep g T2 w2 [R] := hS2.unb
    refine pv (r_pkf rfl hb1 rfl) (pv (r_zb rfl) (nil (t_thenR [(2, .bool y2)] ⟨rfl, trivial⟩ fun J => ?_)))
    have hm := Option.some.inj hm
    subst hm
    exact rtn (ret1 rfl rfl ⟨_, rfl, _, (Im.trans im1 im2), ⟨rfl, hS2.sel [0] rfl, trivial⟩⟩)

set_option maxRecDepth 100000 in
set_option maxHeartbeats 1000000 in
theorem lex_span_2_sim {g : World} {T0 : Nat → Prop} {w0 : World} {R : Assn} {p0 : List UInt8} {r : Int} (hS : Sep g T0 w0 [R])  (hm : lex_span_2 p0 = some r) :
    Calls Try.prog 23 #[.string ⟨p0.toArray⟩, .func (.func 26) #[] #[]] w0 (RetS T0 w0 fun T w v => v = .int .i64 r ∧ Sep g T w [R] ∧ True) := by
  refine enter (args := [.string ⟨p0.toArray⟩, .func (.func 26) #[] #[]]) Try.func23 rfl Try.ntmps23 rfl fun J => ?_
  unfold lex_span_2 at hm
  refine sq2 ?_
  refine rg (pv (r_zi rfl) (nil (t_then ?_)))
  refine sq2 ?_
  refine rg (pv (r_zi rfl) (nil (t_then ?_)))
  refine sq2 ?_
  obtain ⟨o1, ho1, hq1⟩ := bindS hm
  obtain ⟨bd1, hbd1, ho1⟩ := loop_open ho1
  refine blk (wp_loop_ghost (fun m a w1 => ∃ (J : Nat → Value) (T1 : Nat → Prop) (x1 : Int), a = env (nf 20) J [(0, .string ⟨p0.toArray⟩), (1, .func (.func 26) #[] #[]), (5, .int .i64 x1)] ∧ Im T0 w0 T1 w1 ∧ Sep g T1 w1 [R] ∧ loopM bd1 m x1 = some o1) NN ⟨_, _, 0, env_has ⟨rfl, rfl, rfl, trivial⟩, Im.refl, hS.sel [0] rfl, ho1⟩ ?_)
  rintro m _ w1 ⟨J, T1, x1, rfl, im1, hS1, ho1⟩
  obtain ⟨m1, z1, rfl, hm, hn1⟩ := loop_round ho1
  rw [hbd1] at hm
  refine sq2 ?_
  refine sq2 ?_
  refine rg (pv (r_mi rfl) (pv (r_mt rfl) (pv (r_lnt rfl Try.underlying9) (pv (r_ib rfl rfl rfl) (pv (r_mb rfl) (?_))))))
  rcases Bool.eq_false_or_eq_true (decide (x1 < (List.length p0 : Int))) with hb1 | hb1
  · have hm := ctrue hb1 hm
    obtain ⟨u1, hx1, hm⟩ := bindS hm
    obtain ⟨y1, hx2, hm⟩ := bindS hm
    refine gT (d0 := 10) rfl rfl hb1 (pv (r_mf rfl) (gT (d0 := 10) rfl rfl hb1 (pv (r_mt rfl) (gT (d0 := 10) rfl rfl hb1 (pv (r_mi rfl) (gT (d0 := 10) rfl rfl hb1 (pv (r_sx rfl rfl hx1 Try.underlying9) (gT (d0 := 10) rfl rfl hb1 (wl rfl (calS cf26 rfl (lex_more_sim (p0 := (UInt8.toNat u1 : Int)) (hS1.bun [0] [] rfl)  hx2) rfl fun v1 T2 w2 im2 rv1 => ?_))))))))))
    obtain ⟨rfl, hS2, _⟩ := rv1
    have hS2 : Sep g T2 w2 [R] := hS2.unb
    refine pv (r_pkt rfl hb1 rfl) (nil (t_thenR [(0, .string ⟨p0.toArray⟩), (1, .func (.func 26) #[] #[]), (5, .int .i64 x1), (16, .bool y1)] ⟨rfl, rfl, rfl, rfl, trivial⟩ fun J => ?_))
    refine cnd rfl (fun hb2 => ?_) (fun hb2 => ?_)
    · have hm := ctrue hb2 hm
      refine skp (t_then ?_)
      refine blk ?_
      have hm := Option.some.inj hm
      subst hm
      exact rg (pv (r_mi rfl) (pv (r_ib rfl rfl rfl) (pv (r_zi rfl) (nil (t_blk (t_then ⟨m1, Nat.lt_succ_self _, _, _, (IntKind.wrap .i64 (x1 + 1)), env_has ⟨rfl, rfl, rfl, trivial⟩, (Im.trans im1 im2), hS2.sel [0] rfl, hn1⟩))))))
    · have hm := cfalse hb2 hm
      have hm := Option.some.inj hm
      subst hm
      have hn1 : _ = Lp.brk _ := hn1
      subst hn1
      have hm := thn_brk hq1
      refine xt (x_then (x_then (x_eq (t_then ?_))))
      refine sq2 ?_
      refine rg (pv (r_mi rfl) (pv (r_zi rfl) (nil (t_thenR [(4, .int .i64 x1)] ⟨rfl, trivial⟩ fun J => ?_))))
      have hm := Option.some.inj hm
      subst hm
      exact rtn (ret1 rfl rfl ⟨_, rfl, _, (Im.trans im1 im2), ⟨rfl, hS2.sel [0] rfl, trivial⟩⟩)
  · have hm := cfalse hb1 hm
    refine gF (d0 := 10) rfl rfl (by rw [hb1]; rfl) (gF (d0 := 10) rfl rfl (by rw [hb1]; rfl) (gF (d0 := 10) rfl rfl (by rw [hb1]; rfl) (gF (d0 := 10) rfl rfl (by rw [hb1]; rfl) (gF (d0 := 10) rfl rfl (by rw [hb1]; rfl) (pv (r_pkf rfl hb1 rfl) (nil (t_thenR [(0, .string ⟨p0.toArray⟩), (1, .func (.func 26) #[] #[]), (5, .int .i64 x1), (16, .bool false)] ⟨rfl, rfl, rfl, rfl, trivial⟩ fun J => ?_)))))))
    refine cnd (b := false) rfl (fun h => nomatch h) (fun _ => ?_)
    have hm := Option.some.inj hm
    subst hm
    have hn1 : _ = Lp.brk _ := hn1
    subst hn1
    have hm := thn_brk hq1
    refine xt (x_then (x_then (x_eq (t_then ?_))))
    refine sq2 ?_
    refine rg (pv (r_mi rfl) (pv (r_zi rfl) (nil (t_thenR [(4, .int .i64 x1)] ⟨rfl, trivial⟩ fun J => ?_))))
    have hm := Option.some.inj hm
    subst hm
    exact rtn (ret1 rfl rfl ⟨_, rfl, _, im1, ⟨rfl, hS1.sel [0] rfl, trivial⟩⟩)

set_option maxRecDepth 100000 in
set_option maxHeartbeats 1000000 in
theorem lex_Word_sim {g : World} {T0 : Nat → Prop} {w0 : World} {R : Assn} {p0 : List UInt8} {r : Bool} (hS : Sep g T0 w0 [R])  (hm : lex_Word p0 = some r) :
    Calls Try.prog 9 #[.string ⟨p0.toArray⟩] w0 (RetS T0 w0 fun T w v => v = .bool r ∧ Sep g T w [R] ∧ True) := by
  refine enter (args := [.string ⟨p0.toArray⟩]) Try.func9 rfl Try.ntmps9 rfl fun J => ?_
  unfold lex_Word at hm
  refine sq2 ?_
  refine rg (pv (r_zb rfl) (nil (t_then ?_)))
  refine sq2 ?_
  refine sq2 ?_
  refine rg (pv (r_mt rfl) (nil (t_then ?_)))
  refine blk ?_
  obtain ⟨kk1, hkk1, hm⟩ := jn_open hm
  refine cut (fun a w1 => ∃ (J : Nat → Value) (T1 : Nat → Prop) (x1 : Bool), a = env (nf 23) J [(4, .bool x1)] ∧ Im T0 w0 T1 w1 ∧ Sep g T1 w1 [R] ∧ kk1 x1 = some r) ?_ ?_
  · refine sq2 ?_
    refine rg (pv (r_sqL rfl rfl) (pv (r_zb rfl) (nil (t_then ?_))))
    refine cnd rfl (fun hb1 => ?_) (fun hb1 => ?_)
    · have hm := ctrue hb1 hm
      exact skp (t_then ⟨_, _, (decide (p0 = ([98, 114, 101, 97, 107] : List UInt8))), env_has ⟨rfl, trivial⟩, Im.refl, hS.sel [0] rfl, hm⟩)
    · have hm := cfalse hb1 hm
      refine sq2 ?_
      refine rg (pv (r_sqL rfl rfl) (pv (r_zb rfl) (nil (t_thenR [(3, .string ⟨p0.toArray⟩), (4, .bool (decide (p0 = ([99, 97, 115, 101] : List UInt8))))] ⟨rfl, rfl, trivial⟩ fun J => ?_))))
      refine cnd rfl (fun hb2 => ?_) (fun hb2 => ?_)
      · have hm := ctrue hb2 hm
        exact skp (t_then ⟨_, _, (decide (p0 = ([99, 97, 115, 101] : List UInt8))), env_has ⟨rfl, trivial⟩, Im.refl, hS.sel [0] rfl, hm⟩)
      · have hm := cfalse hb2 hm
        refine sq2 ?_
        refine rg (pv (r_sqL rfl rfl) (pv (r_zb rfl) (nil (t_then ?_))))
        refine cnd rfl (fun hb3 => ?_) (fun hb3 => ?_)
        · have hm := ctrue hb3 hm
          exact skp (t_then ⟨_, _, (decide (p0 = ([99, 104, 97, 114] : List UInt8))), env_has ⟨rfl, trivial⟩, Im.refl, hS.sel [0] rfl, hm⟩)
        · have hm := cfalse hb3 hm
          refine sq2 ?_
          refine rg (pv (r_sqL rfl rfl) (pv (r_zb rfl) (nil (t_then ?_))))
          refine cnd rfl (fun hb4 => ?_) (fun hb4 => ?_)
          · have hm := ctrue hb4 hm
            exact skp (t_then ⟨_, _, (decide (p0 = ([99, 111, 110, 116, 105, 110, 117, 101] : List UInt8))), env_has ⟨rfl, trivial⟩, Im.refl, hS.sel [0] rfl, hm⟩)
          · have hm := cfalse hb4 hm
            refine sq2 ?_
            refine rg (pv (r_sqL rfl rfl) (pv (r_zb rfl) (nil (t_thenR [(3, .string ⟨p0.toArray⟩), (4, .bool (decide (p0 = ([100, 101, 102, 97, 117, 108, 116] : List UInt8))))] ⟨rfl, rfl, trivial⟩ fun J => ?_))))
            refine cnd rfl (fun hb5 => ?_) (fun hb5 => ?_)
            · have hm := ctrue hb5 hm
              exact skp (t_then ⟨_, _, (decide (p0 = ([100, 101, 102, 97, 117, 108, 116] : List UInt8))), env_has ⟨rfl, trivial⟩, Im.refl, hS.sel [0] rfl, hm⟩)
            · have hm := cfalse hb5 hm
              refine sq2 ?_
              refine rg (pv (r_sqL rfl rfl) (pv (r_zb rfl) (nil (t_then ?_))))
              refine cnd rfl (fun hb6 => ?_) (fun hb6 => ?_)
              · have hm := ctrue hb6 hm
                exact skp (t_then ⟨_, _, (decide (p0 = ([100, 111] : List UInt8))), env_has ⟨rfl, trivial⟩, Im.refl, hS.sel [0] rfl, hm⟩)
              · have hm := cfalse hb6 hm
                refine sq2 ?_
                refine rg (pv (r_sqL rfl rfl) (pv (r_zb rfl) (nil (t_then ?_))))
                refine cnd rfl (fun hb7 => ?_) (fun hb7 => ?_)
                · have hm := ctrue hb7 hm
                  exact skp (t_then ⟨_, _, (decide (p0 = ([101, 108, 115, 101] : List UInt8))), env_has ⟨rfl, trivial⟩, Im.refl, hS.sel [0] rfl, hm⟩)
                · have hm := cfalse hb7 hm
                  refine sq2 ?_
                  refine rg (pv (r_sqL rfl rfl) (pv (r_zb rfl) (nil (t_thenR [(3, .string ⟨p0.toArray⟩), (4, .bool (decide (p0 = ([102, 111, 114] : List UInt8))))] ⟨rfl, rfl, trivial⟩ fun J => ?_))))
                  refine cnd rfl (fun hb8 => ?_) (fun hb8 => ?_)
                  · have hm := ctrue hb8 hm
                    exact skp (t_then ⟨_, _, (decide (p0 = ([102, 111, 114] : List UInt8))), env_has ⟨rfl, trivial⟩, Im.refl, hS.sel [0] rfl, hm⟩)
                  · have hm := cfalse hb8 hm
                    refine sq2 ?_
                    refine rg (pv (r_sqL rfl rfl) (pv (r_zb rfl) (nil (t_then ?_))))
                    refine cnd rfl (fun hb9 => ?_) (fun hb9 => ?_)
                    · have hm := ctrue hb9 hm
                      exact skp (t_then ⟨_, _, (decide (p0 = ([105, 102] : List UInt8))), env_has ⟨rfl, trivial⟩, Im.refl, hS.sel [0] rfl, hm⟩)
                    · have hm := cfalse hb9 hm
                      refine sq2 ?_
                      refine rg (pv (r_sqL rfl rfl) (pv (r_zb rfl) (nil (t_then ?_))))
                      refine cnd rfl (fun hb10 => ?_) (fun hb10 => ?_)
                      · have hm := ctrue hb10 hm
                        exact skp (t_then ⟨_, _, (decide (p0 = ([105, 110] : List UInt8))), env_has ⟨rfl, trivial⟩, Im.refl, hS.sel [0] rfl, hm⟩)
                      · have hm := cfalse hb10 hm
                        refine sq2 ?_
                        refine rg (pv (r_sqL rfl rfl) (pv (r_zb rfl) (nil (t_thenR [(3, .string ⟨p0.toArray⟩), (4, .bool (decide (p0 = ([105, 110, 116] : List UInt8))))] ⟨rfl, rfl, trivial⟩ fun J => ?_))))
                        refine cnd rfl (fun hb11 => ?_) (fun hb11 => ?_)
                        · have hm := ctrue hb11 hm
                          exact skp (t_then ⟨_, _, (decide (p0 = ([105, 110, 116] : List UInt8))), env_has ⟨rfl, trivial⟩, Im.refl, hS.sel [0] rfl, hm⟩)
                        · have hm := cfalse hb11 hm
                          refine sq2 ?_
                          refine rg (pv (r_sqL rfl rfl) (pv (r_zb rfl) (nil (t_then ?_))))
                          refine cnd rfl (fun hb12 => ?_) (fun hb12 => ?_)
                          · have hm := ctrue hb12 hm
                            exact skp (t_then ⟨_, _, (decide (p0 = ([111, 117, 116] : List UInt8))), env_has ⟨rfl, trivial⟩, Im.refl, hS.sel [0] rfl, hm⟩)
                          · have hm := cfalse hb12 hm
                            refine sq2 ?_
                            refine rg (pv (r_sqL rfl rfl) (pv (r_zb rfl) (nil (t_then ?_))))
                            refine cnd rfl (fun hb13 => ?_) (fun hb13 => ?_)
                            · have hm := ctrue hb13 hm
                              exact skp (t_then ⟨_, _, (decide (p0 = ([114, 101, 116, 117, 114, 110] : List UInt8))), env_has ⟨rfl, trivial⟩, Im.refl, hS.sel [0] rfl, hm⟩)
                            · have hm := cfalse hb13 hm
                              refine sq2 ?_
                              refine rg (pv (r_sqL rfl rfl) (pv (r_zb rfl) (nil (t_thenR [(3, .string ⟨p0.toArray⟩), (4, .bool (decide (p0 = ([115, 105, 122, 101, 111, 102] : List UInt8))))] ⟨rfl, rfl, trivial⟩ fun J => ?_))))
                              refine cnd rfl (fun hb14 => ?_) (fun hb14 => ?_)
                              · have hm := ctrue hb14 hm
                                exact skp (t_then ⟨_, _, (decide (p0 = ([115, 105, 122, 101, 111, 102] : List UInt8))), env_has ⟨rfl, trivial⟩, Im.refl, hS.sel [0] rfl, hm⟩)
                              · have hm := cfalse hb14 hm
                                refine sq2 ?_
                                refine rg (pv (r_sqL rfl rfl) (pv (r_zb rfl) (nil (t_then ?_))))
                                refine cnd rfl (fun hb15 => ?_) (fun hb15 => ?_)
                                · have hm := ctrue hb15 hm
                                  exact skp (t_then ⟨_, _, (decide (p0 = ([115, 116, 114, 117, 99, 116] : List UInt8))), env_has ⟨rfl, trivial⟩, Im.refl, hS.sel [0] rfl, hm⟩)
                                · have hm := cfalse hb15 hm
                                  refine sq2 ?_
                                  refine rg (pv (r_sqL rfl rfl) (pv (r_zb rfl) (nil (t_then ?_))))
                                  refine cnd rfl (fun hb16 => ?_) (fun hb16 => ?_)
                                  · have hm := ctrue hb16 hm
                                    exact skp (t_then ⟨_, _, (decide (p0 = ([115, 119, 105, 116, 99, 104] : List UInt8))), env_has ⟨rfl, trivial⟩, Im.refl, hS.sel [0] rfl, hm⟩)
                                  · have hm := cfalse hb16 hm
                                    refine sq2 ?_
                                    refine rg (pv (r_sqL rfl rfl) (pv (r_zb rfl) (nil (t_thenR [(3, .string ⟨p0.toArray⟩), (4, .bool (decide (p0 = ([118, 111, 105, 100] : List UInt8))))] ⟨rfl, rfl, trivial⟩ fun J => ?_))))
                                    refine cnd rfl (fun hb17 => ?_) (fun hb17 => ?_)
                                    · have hm := ctrue hb17 hm
                                      exact skp (t_then ⟨_, _, (decide (p0 = ([118, 111, 105, 100] : List UInt8))), env_has ⟨rfl, trivial⟩, Im.refl, hS.sel [0] rfl, hm⟩)
                                    · have hm := cfalse hb17 hm
                                      exact rg (pv (r_sqL rfl rfl) (pv (r_zb rfl) (nil (t_then ⟨_, _, (decide (p0 = ([119, 104, 105, 108, 101] : List UInt8))), env_has ⟨rfl, trivial⟩, Im.refl, hS.sel [0] rfl, hm⟩))))
  · rintro _ w1 ⟨J, T1, x1, rfl, im1, hS1, hm⟩
    rw [hkk1] at hm
    refine cnd rfl (fun hb18 => ?_) (fun hb18 => ?_)
    · have hm := ctrue hb18 hm
      refine sq2 ?_
      refine rg (pv (r_zb rfl) (nil (t_then ?_)))
      have hm := Option.some.inj hm
      subst hm
      exact rtn (r_blk (r_then (ret1 rfl rfl ⟨_, rfl, _, im1, ⟨rfl, hS1.sel [0] rfl, trivial⟩⟩)))
    · have hm := cfalse hb18 hm
      refine skp (t_blk (t_then ?_))
      refine sq2 ?_
      refine rg (pv (r_zb rfl) (nil (t_then ?_)))
      have hm := Option.some.inj hm
      subst hm
      exact rtn (ret1 rfl rfl ⟨_, rfl, _, im1, ⟨rfl, hS1.sel [0] rfl, trivial⟩⟩)

set_option maxRecDepth 100000 in
set_option maxHeartbeats 1000000 in
theorem lex_worth_sim {g : World} {T0 : Nat → Prop} {w0 : World} {R : Assn} {p0 : Int} {r : Int} (hS : Sep g T0 w0 [R])  (hm : lex_worth p0 = some r) :
    Calls Try.prog 37 #[.int .u8 p0] w0 (RetS T0 w0 fun T w v => v = .int .u64 r ∧ Sep g T w [R] ∧ True) := by
  refine enter (args := [.int .u8 p0]) Try.func37 rfl Try.ntmps37 rfl fun J => ?_
  unfold lex_worth at hm
  refine sq2 ?_
  refine rg (pv (r_zi rfl) (nil (t_then ?_)))
  refine sq2 ?_
  refine blk ?_
  refine sq2 ?_
  obtain ⟨y1, hx1, hm⟩ := bindS hm
  refine rg (pv (r_mi rfl) (wl rfl (calS cf27 rfl (lex_digit_sim (p0 := p0) (hS.bun [0] [] rfl)  hx1) rfl fun v1 T1 w1 im1 rv1 => ?_)))
  obtain ⟨rfl, hS1, _⟩ := rv1
  have hS1 : Sep g T1 w1 [R] := hS1.unb
  refine pv (r_zb rfl) (nil (t_then ?_))
  refine cnd rfl (fun hb1 => ?_) (fun hb1 => ?_)
  · have hm := ctrue hb1 hm
    refine sq2 ?_
    refine rg (pv (r_mi rfl) (pv (r_ib rfl rfl rfl) (pv (r_cv rfl Try.underlying5 Try.underlying60) (pv (r_zi rfl) (nil (t_thenR [(2, .int .u64 (IntKind.wrap .u64 (IntKind.wrap .u8 (p0 - 48))))] ⟨rfl, trivial⟩ fun J => ?_))))))
    have hm := Option.some.inj hm
    subst hm
    exact rtn (r_blk (r_then (ret1 rfl rfl ⟨_, rfl, _, im1, ⟨rfl, hS1.sel [0] rfl, trivial⟩⟩)))
  · have hm := cfalse hb1 hm
    refine sq2 ?_
    refine rg (pv (r_mi rfl) (pv (r_ib rfl rfl rfl) (pv (r_mb rfl) (?_))))
    rcases Bool.eq_false_or_eq_true (decide (97 ≤ p0)) with hb2 | hb2
    · have hm := ctrue hb2 hm
      refine gT (d0 := 12) rfl rfl hb2 (pv (r_mi rfl) (gT (d0 := 12) rfl rfl hb2 (pv (r_ib rfl rfl rfl) (pv (r_pkt rfl hb2 rfl) (pv (r_zb rfl) (nil (t_thenR [(0, .int .u8 p0), (9, .bool (decide (p0 ≤ 102)))] ⟨rfl, rfl, trivial⟩ fun J => ?_)))))))
      refine cnd rfl (fun hb3 => ?_) (fun hb3 => ?_)
      · have hm := ctrue hb3 hm
        refine sq2 ?_
        refine rg (pv (r_mi rfl) (pv (r_ib rfl rfl rfl) (pv (r_cv rfl Try.underlying5 Try.underlying60) (pv (r_ib rfl rfl rfl) (pv (r_zi rfl) (nil (t_thenR [(2, .int .u64 (IntKind.wrap .u64 ((IntKind.wrap .u64 (IntKind.wrap .u8 (p0 - 97))) + 10)))] ⟨rfl, trivial⟩ fun J => ?_)))))))
        have hm := Option.some.inj hm
        subst hm
        exact rtn (r_blk (r_then (ret1 rfl rfl ⟨_, rfl, _, im1, ⟨rfl, hS1.sel [0] rfl, trivial⟩⟩)))
      · have hm := cfalse hb3 hm
        refine sq2 ?_
        refine rg (pv (r_mi rfl) (pv (r_ib rfl rfl rfl) (pv (r_mb rfl) (?_))))
        rcases Bool.eq_false_or_eq_true (decide (65 ≤ p0)) with hb4 | hb4
        · have hm := ctrue hb4 hm
          refine gT (d0 := 23) rfl rfl hb4 (pv (r_mi rfl) (gT (d0 := 23) rfl rfl hb4 (pv (r_ib rfl rfl rfl) (pv (r_pkt rfl hb4 rfl) (pv (r_zb rfl) (nil (t_thenR [(0, .int .u8 p0), (20, .bool (decide (p0 ≤ 70)))] ⟨rfl, rfl, trivial⟩ fun J => ?_)))))))
          refine cnd rfl (fun hb5 => ?_) (fun hb5 => ?_)
          · have hm := ctrue hb5 hm
            refine sq2 ?_
            refine rg (pv (r_mi rfl) (pv (r_ib rfl rfl rfl) (pv (r_cv rfl Try.underlying5 Try.underlying60) (pv (r_ib rfl rfl rfl) (pv (r_zi rfl) (nil (t_thenR [(2, .int .u64 (IntKind.wrap .u64 ((IntKind.wrap .u64 (IntKind.wrap .u8 (p0 - 65))) + 10)))] ⟨rfl, trivial⟩ fun J => ?_)))))))
            have hm := Option.some.inj hm
            subst hm
            exact rtn (r_blk (r_then (ret1 rfl rfl ⟨_, rfl, _, im1, ⟨rfl, hS1.sel [0] rfl, trivial⟩⟩)))
          · have hm := cfalse hb5 hm
            refine skp (t_blk (t_then ?_))
            refine sq2 ?_
            refine rg (pv (r_zi rfl) (nil (t_then ?_)))
            have hm := Option.some.inj hm
            subst hm
            exact rtn (ret1 rfl rfl ⟨_, rfl, _, im1, ⟨rfl, hS1.sel [0] rfl, trivial⟩⟩)
        · have hm := cfalse hb4 hm
          refine gF (d0 := 23) rfl rfl (by rw [hb4]; rfl) (gF (d0 := 23) rfl rfl (by rw [hb4]; rfl) (pv (r_pkf rfl hb4 rfl) (pv (r_zb rfl) (nil (t_thenR [(0, .int .u8 p0), (20, .bool false)] ⟨rfl, rfl, trivial⟩ fun J => ?_)))))
          refine cnd (b := false) rfl (fun h => nomatch h) (fun _ => ?_)
          refine skp (t_blk (t_then ?_))
          refine sq2 ?_
          refine rg (pv (r_zi rfl) (nil (t_then ?_)))
          have hm := Option.some.inj hm
          subst hm
          exact rtn (ret1 rfl rfl ⟨_, rfl, _, im1, ⟨rfl, hS1.sel [0] rfl, trivial⟩⟩)
    · have hm := cfalse hb2 hm
      refine gF (d0 := 12) rfl rfl (by rw [hb2]; rfl) (gF (d0 := 12) rfl rfl (by rw [hb2]; rfl) (pv (r_pkf rfl hb2 rfl) (pv (r_zb rfl) (nil (t_thenR [(0, .int .u8 p0), (9, .bool false)] ⟨rfl, rfl, trivial⟩ fun J => ?_)))))
      refine cnd (b := false) rfl (fun h => nomatch h) (fun _ => ?_)
      refine sq2 ?_
      refine rg (pv (r_mi rfl) (pv (r_ib rfl rfl rfl) (pv (r_mb rfl) (?_))))
      rcases Bool.eq_false_or_eq_true (decide (65 ≤ p0)) with hb8 | hb8
      · have hm := ctrue hb8 hm
        refine gT (d0 := 23) rfl rfl hb8 (pv (r_mi rfl) (gT (d0 := 23) rfl rfl hb8 (pv (r_ib rfl rfl rfl) (pv (r_pkt rfl hb8 rfl) (pv (r_zb rfl) (nil (t_thenR [(0, .int .u8 p0), (20, .bool (decide (p0 ≤ 70)))] ⟨rfl, rfl, trivial⟩ fun J => ?_)))))))
        refine cnd rfl (fun hb9 => ?_) (fun hb9 => ?_)
        · have hm := ctrue hb9 hm
          refine sq2 ?_
          refine rg (pv (r_mi rfl) (pv (r_ib rfl rfl rfl) (pv (r_cv rfl Try.underlying5 Try.underlying60) (pv (r_ib rfl rfl rfl) (pv (r_zi rfl) (nil (t_thenR [(2, .int .u64 (IntKind.wrap .u64 ((IntKind.wrap .u64 (IntKind.wrap .u8 (p0 - 65))) + 10)))] ⟨rfl, trivial⟩ fun J => ?_)))))))
          have hm := Option.some.inj hm
          subst hm
          exact rtn (r_blk (r_then (ret1 rfl rfl ⟨_, rfl, _, im1, ⟨rfl, hS1.sel [0] rfl, trivial⟩⟩)))
        · have hm := cfalse hb9 hm
          refine skp (t_blk (t_then ?_))
          refine sq2 ?_
          refine rg (pv (r_zi rfl) (nil (t_then ?_)))
          have hm := Option.some.inj hm
          subst hm
          exact rtn (ret1 rfl rfl ⟨_, rfl, _, im1, ⟨rfl, hS1.sel [0] rfl, trivial⟩⟩)
      · have hm := cfalse hb8 hm
        refine gF (d0 := 23) rfl rfl (by rw [hb8]; rfl) (gF (d0 := 23) rfl rfl (by rw [hb8]; rfl) (pv (r_pkf rfl hb8 rfl) (pv (r_zb rfl) (nil (t_thenR [(0, .int .u8 p0), (20, .bool false)] ⟨rfl, rfl, trivial⟩ fun J => ?_)))))
        refine cnd (b := false) rfl (fun h => nomatch h) (fun _ => ?_)
        refine skp (t_blk (t_then ?_))
        refine sq2 ?_
        refine rg (pv (r_zi rfl) (nil (t_then ?_)))
        have hm := Option.some.inj hm
        subst hm
        exact rtn (ret1 rfl rfl ⟨_, rfl, _, im1, ⟨rfl, hS1.sel [0] rfl, trivial⟩⟩)

set_option maxRecDepth 100000 in
set_option maxHeartbeats 1000000 in
theorem lex_number_sim {g : World} {T0 : Nat → Prop} {w0 : World} {R : Assn} {p0 : List UInt8} {r : GToken × Int} (hS : Sep g T0 w0 [R])  (hm : lex_number p0 = some r) :
    Calls Try.prog 28 #[.string ⟨p0.toArray⟩] w0 (RetS T0 w0 fun T w v => v = .tuple #[.agg #[.int .i64 r.1.Kind, .string ⟨r.1.Text.toArray⟩, .int .u32 r.1.Num, .int .i64 r.1.Pos.Line, .int .i64 r.1.Pos.Col], .int .i64 r.2] ∧ Sep g T w [R] ∧ True) := by
  refine enter (args := [.string ⟨p0.toArray⟩]) Try.func28 rfl Try.ntmps28 rfl fun J => ?_
  unfold lex_number at hm
  refine sq2 ?_
  refine rg (wl rfl (alS (zs := [.int .i64 0, .string ⟨([] : List UInt8).toArray⟩, .int .u32 0, .int .i64 0, .int .i64 0]) Try.zeroValue33 rfl hS fun w1 b1 im1 hS1 => ?_))
  refine pv (r_zi rfl) (nil (t_then ?_))
  refine sq2 ?_
  obtain ⟨y1, hx1, hm⟩ := bindS hm
  refine rg (pv (r_mt rfl) (pv (r_mt rfl) (wl rfl (calS cf23 rfl (lex_span_2_sim (p0 := p0) (hS1.bun [0, 1] [] rfl)  hx1) rfl fun v1 T1 w2 im2 rv1 => ?_))))
  obtain ⟨rfl, hS2, _⟩ := rv1
  have hS2 : Sep g T1 w2 [boxA b1 [.int .i64 0, .string ⟨([] : List UInt8).toArray⟩, .int .u32 0, .int .i64 0, .int .i64 0], R] := hS2.unb
  obtain ⟨u1, hx2, hm⟩ := bindS hm
  refine pv (r_ss rfl rfl ⟨_, rfl⟩ hx2 Try.underlying9) (pv (r_zt rfl) (nil (t_thenR [(2, .pointer (some ⟨b1, 0, none⟩)), (4, .string ⟨u1.toArray⟩)] ⟨rfl, rfl, trivial⟩ fun J => ?_)))
  refine sq2 ?_
  refine rg (pv (r_mt rfl) (pv (r_zt rfl) (pv (r_zi rfl) (nil (t_then ?_)))))
  obtain ⟨kk1, hkk1, hm⟩ := jn_open hm
  refine cut (fun a w3 => ∃ (J : Nat → Value) (T2 : Nat → Prop) (x1 : List UInt8) (x2 : Int), a = env (nf 54) J [(2, .pointer (some ⟨b1, 0, none⟩)), (4, .string ⟨u1.toArray⟩), (5, .string ⟨x1.toArray⟩), (6, .int .u64 x2)] ∧ Im T1 w2 T2 w3 ∧ Sep g T2 w3 [boxA b1 [.int .i64 0, .string ⟨([] : List UInt8).toArray⟩, .int .u32 0, .int .i64 0, .int .i64 0], R] ∧ kk1 x1 x2 = some r) ?_ ?_
  · refine sq2 ?_
    obtain ⟨y2, hx3, hm⟩ := bindS hm
    refine rg (pv (r_mt rfl) (wl rfl (calS cf21 rfl (strings_HasPrefix_sim (p0 := u1) (p1 := ([48, 120] : List UInt8)) (hS2.bun [0, 1] [] rfl)  hx3) rfl fun v2 T3 w4 im4 rv2 => ?_)))
    obtain ⟨rfl, hS3, _⟩ := rv2
    have hS3 : Sep g T3 w4 [boxA b1 [.int .i64 0, .string ⟨([] : List UInt8).toArray⟩, .int .u32 0, .int .i64 0, .int .i64 0], R] := hS3.unb
    refine pv (r_mb rfl) (?_)
    rcases Bool.eq_false_or_eq_true y2 with hb1 | hb1
    · have hm := ctrue hb1 hm
      refine gF (d0 := 18) rfl rfl (by rw [hb1]; rfl) (gF (d0 := 18) rfl rfl (by rw [hb1]; rfl) (pv (r_pkt rfl hb1 rfl) (nil (t_thenR [(2, .pointer (some ⟨b1, 0, none⟩)), (4, .string ⟨u1.toArray⟩), (5, .string ⟨u1.toArray⟩), (6, .int .u64 10), (21, .bool true)] ⟨rfl, rfl, rfl, rfl, rfl, trivial⟩ fun J => ?_))))
      refine cnd (b := true) rfl (fun _ => ?_) (fun h => nomatch h)
      obtain ⟨u3, hx6, hm⟩ := bindS hm
      exact rg (pv (r_mt rfl) (pv (r_ss rfl ⟨_, rfl⟩ rfl hx6 Try.underlying9) (pv (r_zt rfl) (pv (r_zi rfl) (nil (t_then ⟨_, _, u3, 16, env_has ⟨rfl, rfl, rfl, rfl, trivial⟩, im4, hS3.sel [0, 1] rfl, hm⟩))))))
    · have hm := cfalse hb1 hm
      obtain ⟨y3, hx4, hm⟩ := bindS hm
      refine gT (d0 := 18) rfl rfl hb1 (pv (r_mt rfl) (gT (d0 := 18) rfl rfl hb1 (wl rfl (calS cf21 rfl (strings_HasPrefix_sim (p0 := u1) (p1 := ([48, 88] : List UInt8)) (hS3.bun [0, 1] [] rfl)  hx4) rfl fun v3 T4 w5 im5 rv3 => ?_))))
      obtain ⟨rfl, hS4, _⟩ := rv3
      have hS4 : Sep g T4 w5 [boxA b1 [.int .i64 0, .string ⟨([] : List UInt8).toArray⟩, .int .u32 0, .int .i64 0, .int .i64 0], R] := hS4.unb
      refine pv (r_pkf rfl hb1 rfl) (nil (t_thenR [(2, .pointer (some ⟨b1, 0, none⟩)), (4, .string ⟨u1.toArray⟩), (5, .string ⟨u1.toArray⟩), (6, .int .u64 10), (21, .bool y3)] ⟨rfl, rfl, rfl, rfl, rfl, trivial⟩ fun J => ?_))
      refine cnd rfl (fun hb2 => ?_) (fun hb2 => ?_)
      · have hm := ctrue hb2 hm
        obtain ⟨u2, hx5, hm⟩ := bindS hm
        exact rg (pv (r_mt rfl) (pv (r_ss rfl ⟨_, rfl⟩ rfl hx5 Try.underlying9) (pv (r_zt rfl) (pv (r_zi rfl) (nil (t_then ⟨_, _, u2, 16, env_has ⟨rfl, rfl, rfl, rfl, trivial⟩, (Im.trans im4 im5), hS4.sel [0, 1] rfl, hm⟩))))))
      · have hm := cfalse hb2 hm
        exact skp (t_then ⟨_, _, u1, 10, env_has ⟨rfl, rfl, rfl, rfl, trivial⟩, (Im.trans im4 im5), hS4.sel [0, 1] rfl, hm⟩)
  · rintro _ w3 ⟨J, T2, x1, x2, rfl, im3, hS5, hm⟩
    rw [hkk1] at hm
    refine sq2 ?_
    refine sq2 ?_
    refine rg (pv (r_mt rfl) (pv (r_sqL rfl rfl) (nil (t_then ?_))))
    refine cnd rfl (fun hb4 => ?_) (fun hb4 => ?_)
    · have hm := ctrue hb4 hm
      refine sq2 ?_
      refine rg (pv (r_bd (by kernel_rfl) rfl (u := .agg #[.int .i64 0, .string ⟨([] : List UInt8).toArray⟩, .int .u32 0, .int .i64 0, .int .i64 0])) (wl rfl (st0B (q := 0) hS5 ⟨rfl, rfl⟩ rfl rfl rfl Try.sizeOf33 rfl rfl rfl fun w6 im6 hS6 => ?_)))
      have hS6 : Sep g T2 w6 [boxA b1 [.int .i64 0, .string ⟨([] : List UInt8).toArray⟩, .int .u32 0, .int .i64 0, .int .i64 0], R] := hS6
      refine pv (r_zi rfl) (nil (t_thenR [(2, .pointer (some ⟨b1, 0, none⟩)), (3, .int .i64 3)] ⟨rfl, rfl, trivial⟩ fun J => ?_))
      have hm := Option.some.inj hm
      subst hm
      exact rtn (r_then (retN (vs := [.agg #[.int .i64 0, .string ⟨([] : List UInt8).toArray⟩, .int .u32 0, .int .i64 0, .int .i64 0], .int .i64 3]) rfl ⟨rvS rfl Try.isAgg33 Try.sizeOf33 rfl (hS6.bx (i := 0) ⟨rfl, rfl⟩), rfl, trivial⟩ rfl ⟨_, rfl, _, (Im.trans im1 (Im.trans im2 (Im.trans im3 im6))), ⟨rfl, hS6.sel [1] rfl, trivial⟩⟩))
    · have hm := cfalse hb4 hm
      refine skp (t_then ?_)
      refine sq2 ?_
      refine rg (pv (r_zi rfl) (nil (t_then ?_)))
      refine sq2 ?_
      refine rg (pv (r_zb rfl) (nil (t_then ?_)))
      refine sq2 ?_
      refine sq2 ?_
      obtain ⟨z_1, hro1, hm⟩ := bindS hm
      refine rg (pv (r_mt rfl) (wl rfl (cvB hS5 rfl Try.underlying9 Try.underlying22 Try.underlying5 (room_some hro1) fun T5 w7 a1 c1 im7 hS7 h1 => ?_)))
      refine pv (r_ln rfl Try.underlying22) (pv (r_mi rfl) (nil (t_then ?_)))
      obtain ⟨o1, ho1, hq1⟩ := bindS hm
      obtain ⟨bd1, hbd1, ho1⟩ := loop_open ho1
      refine blk (wp_loop_ghost (fun m a w8 => ∃ (J : Nat → Value) (T6 : Nat → Prop) (x3 : Int) (x4 : Bool) (x5 : Int), a = env (nf 54) J [(2, .pointer (some ⟨b1, 0, none⟩)), (4, .string ⟨u1.toArray⟩), (6, .int .u64 x2), (7, .int .u64 x3), (8, .bool x4), (28, .slice a1 (List.length (strBytes x1)) c1), (29, .int .i64 (List.length (strBytes x1) : Int)), (30, .int .i64 x5)] ∧ Im T5 w7 T6 w8 ∧ Sep g T6 w8 [boxA b1 [.int .i64 0, .string ⟨([] : List UInt8).toArray⟩, .int .u32 0, .int .i64 0, .int .i64 0], R] ∧ loopM bd1 m (x3, x4, x5) = some o1) NN ⟨_, _, 0, false, 0, env_has ⟨rfl, rfl, rfl, rfl, rfl, rfl, rfl, rfl, trivial⟩, Im.refl, hS7.sel [0, 1] rfl, ho1⟩ ?_)
      rintro m _ w8 ⟨J, T6, x3, x4, x5, rfl, im8, hS8, ho1⟩
      obtain ⟨m1, z1, rfl, hm, hn1⟩ := loop_round ho1
      rw [hbd1] at hm
      refine sq2 ?_
      refine rg (pv (r_ib rfl rfl rfl) (nil (t_then ?_)))
      refine sq2 ?_
      refine cnd rfl (fun hb5 => ?_) (fun hb5 => ?_)
      · have hm := ctrue hb5 hm
        refine skp (t_then ?_)
        obtain ⟨kk2, hkk2, hm⟩ := jn_open hm
        refine cut (fun a w9 => ∃ (J : Nat → Value) (T7 : Nat → Prop) (x6 : Int) (x7 : Bool), a = env (nf 54) J [(2, .pointer (some ⟨b1, 0, none⟩)), (4, .string ⟨u1.toArray⟩), (6, .int .u64 x2), (7, .int .u64 x6), (8, .bool x7), (28, .slice a1 (List.length (strBytes x1)) c1), (29, .int .i64 (List.length (strBytes x1) : Int)), (30, .int .i64 x5)] ∧ Im T6 w8 T7 w9 ∧ Sep g T7 w9 [boxA b1 [.int .i64 0, .string ⟨([] : List UInt8).toArray⟩, .int .u32 0, .int .i64 0, .int .i64 0], R] ∧ kk2 x6 x7 = some z1) ?_ ?_
        · refine blk ?_
          refine sq2 ?_
          obtain ⟨u4, hx7, hm⟩ := bindS hm
          obtain ⟨b2, of1, cs1, k1, cp1, hv1, hp1, hl1, he1, hr1, hc1, hT1⟩ := (h1.mono im8).ixT hx7 rfl
          cases hr1
          refine rg (pv (r_ixe hv1 rfl Try.underlying22 Try.sizeOf5 hp1 hl1 he1) (pv (r_ld rfl Try.isAgg5 (hc1.get (j := 0) rfl)) (pv (r_zi rfl) (nil (t_then ?_)))))
          refine sq2 ?_
          refine sq2 ?_
          obtain ⟨y4, hx8, hm⟩ := bindS hm
          refine rg (pv (r_mi rfl) (wl rfl (calS cf37 rfl (lex_worth_sim (p0 := u4) (hS8.bun [0, 1] [] rfl)  hx8) rfl fun v4 T8 w10 im10 rv4 => ?_)))
          obtain ⟨rfl, hS9, _⟩ := rv4
          have hS9 : Sep g T8 w10 [boxA b1 [.int .i64 0, .string ⟨([] : List UInt8).toArray⟩, .int .u32 0, .int .i64 0, .int .i64 0], R] := hS9.unb
          refine pv (r_mi rfl) (pv (r_ib rfl rfl rfl) (nil (t_thenR [(2, .pointer (some ⟨b1, 0, none⟩)), (4, .string ⟨u1.toArray⟩), (6, .int .u64 x2), (7, .int .u64 x3), (8, .bool x4), (10, .int .u8 u4), (28, .slice a1 (List.length (strBytes x1)) c1), (29, .int .i64 (List.length (strBytes x1) : Int)), (30, .int .i64 x5), (37, .bool (decide (x2 ≤ y4)))] ⟨rfl, rfl, rfl, rfl, rfl, rfl, rfl, rfl, rfl, rfl, trivial⟩ fun J => ?_)))
          refine cnd rfl (fun hb6 => ?_) (fun hb6 => ?_)
          · have hm := ctrue hb6 hm
            refine sq2 ?_
            refine rg (pv (r_bd (by kernel_rfl) rfl (u := .agg #[.int .i64 0, .string ⟨([] : List UInt8).toArray⟩, .int .u32 0, .int .i64 0, .int .i64 0])) (wl rfl (st0B (q := 0) hS9 ⟨rfl, rfl⟩ rfl rfl rfl Try.sizeOf33 rfl rfl rfl fun w11 im11 hS10 => ?_)))
            have hS10 : Sep g T8 w11 [boxA b1 [.int .i64 0, .string ⟨([] : List UInt8).toArray⟩, .int .u32 0, .int .i64 0, .int .i64 0], R] := hS10
            refine pv (r_zi rfl) (nil (t_thenR [(2, .pointer (some ⟨b1, 0, none⟩)), (3, .int .i64 3)] ⟨rfl, rfl, trivial⟩ fun J => ?_))
            have hm := Option.some.inj hm
            subst hm
            have hn1 : _ = Lp.ret _ := hn1
            subst hn1
            have hm := thn_ret hq1
            have hm := Option.some.inj hm
            subst hm
            exact rtn (r_then (r_blk (r_then (r_then (r_blk (r_then (retN (vs := [.agg #[.int .i64 0, .string ⟨([] : List UInt8).toArray⟩, .int .u32 0, .int .i64 0, .int .i64 0], .int .i64 3]) rfl ⟨rvS rfl Try.isAgg33 Try.sizeOf33 rfl (hS10.bx (i := 0) ⟨rfl, rfl⟩), rfl, trivial⟩ rfl ⟨_, rfl, _, (Im.trans im1 (Im.trans im2 (Im.trans im3 (Im.trans im7 (Im.trans im8 (Im.trans im10 im11)))))), ⟨rfl, hS10.sel [1] rfl, trivial⟩⟩)))))))
          · have hm := cfalse hb6 hm
            refine skp (t_then ?_)
            refine sq2 ?_
            obtain ⟨y5, hx9, hm⟩ := bindS hm
            refine rg (pv (r_mi rfl) (pv (r_mi rfl) (pv (r_ib rfl rfl rfl) (pv (r_mi rfl) (wl rfl (calS cf37 rfl (lex_worth_sim (p0 := u4) (hS9.bun [0, 1] [] rfl)  hx9) rfl fun v5 T9 w12 im12 rv5 => ?_))))))
            obtain ⟨rfl, hS11, _⟩ := rv5
            have hS11 : Sep g T9 w12 [boxA b1 [.int .i64 0, .string ⟨([] : List UInt8).toArray⟩, .int .u32 0, .int .i64 0, .int .i64 0], R] := hS11.unb
            refine pv (r_ib rfl rfl rfl) (pv (r_zi rfl) (nil (t_thenR [(2, .pointer (some ⟨b1, 0, none⟩)), (4, .string ⟨u1.toArray⟩), (6, .int .u64 x2), (7, .int .u64 (IntKind.wrap .u64 ((IntKind.wrap .u64 (x3 * x2)) + y5))), (8, .bool x4), (28, .slice a1 (List.length (strBytes x1)) c1), (29, .int .i64 (List.length (strBytes x1) : Int)), (30, .int .i64 x5)] ⟨rfl, rfl, rfl, rfl, rfl, rfl, rfl, rfl, trivial⟩ fun J => ?_)))
            refine sq2 ?_
            refine rg (pv (r_mi rfl) (pv (r_ib rfl rfl rfl) (nil (t_then ?_))))
            refine cnd rfl (fun hb7 => ?_) (fun hb7 => ?_)
            · have hm := ctrue hb7 hm
              exact rg (pv (r_zi rfl) (pv (r_zb rfl) (nil (t_blk (t_then ⟨_, _, 4294967295, true, env_has ⟨rfl, rfl, rfl, rfl, rfl, rfl, rfl, rfl, trivial⟩, (Im.trans im10 im12), hS11.sel [0, 1] rfl, hm⟩)))))
            · have hm := cfalse hb7 hm
              exact skp (t_blk (t_then ⟨_, _, (IntKind.wrap .u64 ((IntKind.wrap .u64 (x3 * x2)) + y5)), x4, env_has ⟨rfl, rfl, rfl, rfl, rfl, rfl, rfl, rfl, trivial⟩, (Im.trans im10 im12), hS11.sel [0, 1] rfl, hm⟩))
        · rintro _ w9 ⟨J, T7, x6, x7, rfl, im9, hS12, hm⟩
          rw [hkk2] at hm
          have hm := Option.some.inj hm
          subst hm
          exact rg (pv (r_ib rfl rfl rfl) (pv (r_mi rfl) (nil (t_then ⟨m1, Nat.lt_succ_self _, _, _, x6, x7, (IntKind.wrap .i64 (x5 + 1)), env_has ⟨rfl, rfl, rfl, rfl, rfl, rfl, rfl, rfl, trivial⟩, (Im.trans im8 im9), hS12.sel [0, 1] rfl, hn1⟩))))
      · have hm := cfalse hb5 hm
        have hm := Option.some.inj hm
        subst hm
        have hn1 : _ = Lp.brk _ := hn1
        subst hn1
        have hm := thn_brk hq1
        refine xt (x_then (x_then (x_eq (t_thenR [(2, .pointer (some ⟨b1, 0, none⟩)), (4, .string ⟨u1.toArray⟩), (7, .int .u64 x3), (8, .bool x4)] ⟨rfl, rfl, rfl, rfl, trivial⟩ fun J => ?_))))
        refine sq2 ?_
        refine sq2 ?_
        refine rg (pv (r_mb rfl) (nil (t_then ?_)))
        refine cnd rfl (fun hb8 => ?_) (fun hb8 => ?_)
        · have hm := ctrue hb8 hm
          refine sq2 ?_
          refine rg (pv (r_bd (by kernel_rfl) rfl (u := .agg #[.int .i64 0, .string ⟨([] : List UInt8).toArray⟩, .int .u32 0, .int .i64 0, .int .i64 0])) (wl rfl (st0B (q := 0) hS8 ⟨rfl, rfl⟩ rfl rfl rfl Try.sizeOf33 rfl rfl rfl fun w13 im13 hS13 => ?_)))
          have hS13 : Sep g T6 w13 [boxA b1 [.int .i64 0, .string ⟨([] : List UInt8).toArray⟩, .int .u32 0, .int .i64 0, .int .i64 0], R] := hS13
          refine pv (r_zi rfl) (nil (t_thenR [(2, .pointer (some ⟨b1, 0, none⟩)), (3, .int .i64 7)] ⟨rfl, rfl, trivial⟩ fun J => ?_))
          have hm := Option.some.inj hm
          subst hm
          exact rtn (r_then (retN (vs := [.agg #[.int .i64 0, .string ⟨([] : List UInt8).toArray⟩, .int .u32 0, .int .i64 0, .int .i64 0], .int .i64 7]) rfl ⟨rvS rfl Try.isAgg33 Try.sizeOf33 rfl (hS13.bx (i := 0) ⟨rfl, rfl⟩), rfl, trivial⟩ rfl ⟨_, rfl, _, (Im.trans im1 (Im.trans im2 (Im.trans im3 (Im.trans im7 (Im.trans im8 im13))))), ⟨rfl, hS13.sel [1] rfl, trivial⟩⟩))
        · have hm := cfalse hb8 hm
          refine skp (t_then ?_)
          refine sq2 ?_
          refine rg (pv (r_mt rfl) (pv (r_mi rfl) (pv (r_cv rfl Try.underlying60 Try.underlying31) (pv (r_bd (by kernel_rfl) rfl (u := .agg #[.int .i64 3, .string ⟨u1.toArray⟩, .int .u32 (IntKind.wrap .u32 x3), .int .i64 0, .int .i64 0])) (wl rfl (st0B (q := 0) hS8 ⟨rfl, rfl⟩ rfl rfl rfl Try.sizeOf33 rfl rfl rfl fun w14 im14 hS14 => ?_))))))
          have hS14 : Sep g T6 w14 [boxA b1 [.int .i64 3, .string ⟨u1.toArray⟩, .int .u32 (IntKind.wrap .u32 x3), .int .i64 0, .int .i64 0], R] := hS14
          refine pv (r_zi rfl) (nil (t_thenR [(2, .pointer (some ⟨b1, 0, none⟩)), (3, .int .i64 0)] ⟨rfl, rfl, trivial⟩ fun J => ?_))
          have hm := Option.some.inj hm
          subst hm
          exact rtn (retN (vs := [.agg #[.int .i64 3, .string ⟨u1.toArray⟩, .int .u32 (IntKind.wrap .u32 x3), .int .i64 0, .int .i64 0], .int .i64 0]) rfl ⟨rvS rfl Try.isAgg33 Try.sizeOf33 rfl (hS14.bx (i := 0) ⟨rfl, rfl⟩), rfl, trivial⟩ rfl ⟨_, rfl, _, (Im.trans im1 (Im.trans im2 (Im.trans im3 (Im.trans im7 (Im.trans im8 im14))))), ⟨rfl, hS14.sel [1] rfl, trivial⟩⟩)

set_option maxRecDepth 100000 in
set_option maxHeartbeats 1000000 in
theorem lex_escape_sim {g : World} {T0 : Nat → Prop} {w0 : World} {R : Assn} {p0 : Int} {r : Int × Bool} (hS : Sep g T0 w0 [R])  (hm : lex_escape p0 = some r) :
    Calls Try.prog 38 #[.int .u8 p0] w0 (RetS T0 w0 fun T w v => v = .tuple #[.int .u8 r.1, .bool r.2] ∧ Sep g T w [R] ∧ True) := by
  refine enter (args := [.int .u8 p0]) Try.func38 rfl Try.ntmps38 rfl fun J => ?_
  unfold lex_escape at hm
  refine sq2 ?_
  refine rg (pv (r_zi rfl) (pv (r_zb rfl) (nil (t_then ?_))))
  refine sq2 ?_
  refine sq2 ?_
  refine rg (pv (r_mi rfl) (nil (t_then ?_)))
  refine blk ?_
  refine sq2 ?_
  refine rg (pv (r_ib rfl rfl rfl) (pv (r_zb rfl) (nil (t_then ?_))))
  refine cnd rfl (fun hb1 => ?_) (fun hb1 => ?_)
  · have hm := ctrue hb1 hm
    refine sq2 ?_
    refine rg (pv (r_zi rfl) (pv (r_zb rfl) (nil (t_thenR [(2, .int .u8 10), (3, .bool true)] ⟨rfl, rfl, trivial⟩ fun J => ?_))))
    have hm := Option.some.inj hm
    subst hm
    exact rtn (r_blk (r_then (retN (vs := [.int .u8 10, .bool true]) rfl ⟨rfl, rfl, trivial⟩ rfl ⟨_, rfl, _, Im.refl, ⟨rfl, hS.sel [0] rfl, trivial⟩⟩)))
  · have hm := cfalse hb1 hm
    refine sq2 ?_
    refine rg (pv (r_ib rfl rfl rfl) (pv (r_zb rfl) (nil (t_thenR [(0, .int .u8 p0), (4, .int .u8 p0), (7, .bool (p0 == 116))] ⟨rfl, rfl, rfl, trivial⟩ fun J => ?_))))
    refine cnd rfl (fun hb2 => ?_) (fun hb2 => ?_)
    · have hm := ctrue hb2 hm
      refine sq2 ?_
      refine rg (pv (r_zi rfl) (pv (r_zb rfl) (nil (t_then ?_))))
      have hm := Option.some.inj hm
      subst hm
      exact rtn (r_blk (r_then (retN (vs := [.int .u8 9, .bool true]) rfl ⟨rfl, rfl, trivial⟩ rfl ⟨_, rfl, _, Im.refl, ⟨rfl, hS.sel [0] rfl, trivial⟩⟩)))
    · have hm := cfalse hb2 hm
      refine sq2 ?_
      refine rg (pv (r_ib rfl rfl rfl) (pv (r_zb rfl) (nil (t_then ?_))))
      refine cnd rfl (fun hb3 => ?_) (fun hb3 => ?_)
      · have hm := ctrue hb3 hm
        refine sq2 ?_
        refine rg (pv (r_zi rfl) (pv (r_zb rfl) (nil (t_thenR [(2, .int .u8 13), (3, .bool true)] ⟨rfl, rfl, trivial⟩ fun J => ?_))))
        have hm := Option.some.inj hm
        subst hm
        exact rtn (r_blk (r_then (retN (vs := [.int .u8 13, .bool true]) rfl ⟨rfl, rfl, trivial⟩ rfl ⟨_, rfl, _, Im.refl, ⟨rfl, hS.sel [0] rfl, trivial⟩⟩)))
      · have hm := cfalse hb3 hm
        refine sq2 ?_
        refine rg (pv (r_ib rfl rfl rfl) (pv (r_zb rfl) (nil (t_then ?_))))
        refine cnd rfl (fun hb4 => ?_) (fun hb4 => ?_)
        · have hm := ctrue hb4 hm
          refine sq2 ?_
          refine rg (pv (r_zi rfl) (pv (r_zb rfl) (nil (t_thenR [(2, .int .u8 0), (3, .bool true)] ⟨rfl, rfl, trivial⟩ fun J => ?_))))
          have hm := Option.some.inj hm
          subst hm
          exact rtn (r_blk (r_then (retN (vs := [.int .u8 0, .bool true]) rfl ⟨rfl, rfl, trivial⟩ rfl ⟨_, rfl, _, Im.refl, ⟨rfl, hS.sel [0] rfl, trivial⟩⟩)))
        · have hm := cfalse hb4 hm
          obtain ⟨kk1, hkk1, hm⟩ := jn_open hm
          refine cut (fun a w1 => ∃ (J : Nat → Value) (T1 : Nat → Prop) (x1 : Bool), a = env (nf 17) J [(0, .int .u8 p0), (13, .bool x1)] ∧ Im T0 w0 T1 w1 ∧ Sep g T1 w1 [R] ∧ kk1 x1 = some r) ?_ ?_
          · refine sq2 ?_
            refine rg (pv (r_ib rfl rfl rfl) (pv (r_zb rfl) (nil (t_thenR [(0, .int .u8 p0), (4, .int .u8 p0), (13, .bool (p0 == 92))] ⟨rfl, rfl, rfl, trivial⟩ fun J => ?_))))
            refine cnd rfl (fun hb5 => ?_) (fun hb5 => ?_)
            · have hm := ctrue hb5 hm
              exact skp (t_then ⟨_, _, (p0 == 92), env_has ⟨rfl, rfl, trivial⟩, Im.refl, hS.sel [0] rfl, hm⟩)
            · have hm := cfalse hb5 hm
              exact rg (pv (r_ib rfl rfl rfl) (pv (r_zb rfl) (nil (t_then ⟨_, _, (p0 == 39), env_has ⟨rfl, rfl, trivial⟩, Im.refl, hS.sel [0] rfl, hm⟩))))
          · rintro _ w1 ⟨J, T1, x1, rfl, im1, hS1, hm⟩
            rw [hkk1] at hm
            refine cnd rfl (fun hb6 => ?_) (fun hb6 => ?_)
            · have hm := ctrue hb6 hm
              refine sq2 ?_
              refine rg (pv (r_mi rfl) (pv (r_zi rfl) (pv (r_zb rfl) (nil (t_then ?_)))))
              have hm := Option.some.inj hm
              subst hm
              exact rtn (r_blk (r_then (retN (vs := [.int .u8 p0, .bool true]) rfl ⟨rfl, rfl, trivial⟩ rfl ⟨_, rfl, _, im1, ⟨rfl, hS1.sel [0] rfl, trivial⟩⟩)))
            · have hm := cfalse hb6 hm
              refine skp (t_blk (t_then ?_))
              refine sq2 ?_
              refine rg (pv (r_zi rfl) (pv (r_zb rfl) (nil (t_then ?_))))
              have hm := Option.some.inj hm
              subst hm
              exact rtn (retN (vs := [.int .u8 0, .bool false]) rfl ⟨rfl, rfl, trivial⟩ rfl ⟨_, rfl, _, im1, ⟨rfl, hS1.sel [0] rfl, trivial⟩⟩)

set_option maxRecDepth 100000 in
set_option maxHeartbeats 1000000 in
theorem lex_char_sim {g : World} {T0 : Nat → Prop} {w0 : World} {R : Assn} {p0 : List UInt8} {r : GToken × Int} (hS : Sep g T0 w0 [R])  (hm : lex_char p0 = some r) :
    Calls Try.prog 29 #[.string ⟨p0.toArray⟩] w0 (RetS T0 w0 fun T w v => v = .tuple #[.agg #[.int .i64 r.1.Kind, .string ⟨r.1.Text.toArray⟩, .int .u32 r.1.Num, .int .i64 r.1.Pos.Line, .int .i64 r.1.Pos.Col], .int .i64 r.2] ∧ Sep g T w [R] ∧ True) := by
  refine enter (args := [.string ⟨p0.toArray⟩]) Try.func29 rfl Try.ntmps29 rfl fun J => ?_
  unfold lex_char at hm
  refine sq2 ?_
  refine rg (wl rfl (alS (zs := [.int .i64 0, .string ⟨([] : List UInt8).toArray⟩, .int .u32 0, .int .i64 0, .int .i64 0]) Try.zeroValue33 rfl hS fun w1 b1 im1 hS1 => ?_))
  refine pv (r_zi rfl) (nil (t_then ?_))
  refine sq2 ?_
  refine sq2 ?_
  refine rg (pv (r_mt rfl) (pv (r_lnt rfl Try.underlying9) (pv (r_ib rfl rfl rfl) (pv (r_mb rfl) (?_)))))
  rcases Bool.eq_false_or_eq_true (decide (4 ≤ (List.length p0 : Int))) with hb1 | hb1
  · have hm := ctrue hb1 hm
    obtain ⟨u1, hx1, hm⟩ := bindS hm
    refine gT (d0 := 9) rfl rfl hb1 (pv (r_mt rfl) (gT (d0 := 9) rfl rfl hb1 (pv (r_sx rfl rfl hx1 Try.underlying9) (gT (d0 := 9) rfl rfl hb1 (pv (r_ib rfl rfl rfl) (pv (r_pkt rfl hb1 rfl) (pv (r_mb rfl) (?_))))))))
    rcases Bool.eq_false_or_eq_true ((UInt8.toNat u1 : Int) == 92) with hb2 | hb2
    · have hm := ctrue hb2 hm
      obtain ⟨u2, hx2, hm⟩ := bindS hm
      refine gT (d0 := 14) rfl rfl hb2 (pv (r_mt rfl) (gT (d0 := 14) rfl rfl hb2 (pv (r_sx rfl rfl hx2 Try.underlying9) (gT (d0 := 14) rfl rfl hb2 (pv (r_ib rfl rfl rfl) (pv (r_pkt rfl hb2 rfl) (nil (t_thenR [(0, .string ⟨p0.toArray⟩), (2, .pointer (some ⟨b1, 0, none⟩)), (18, .bool ((UInt8.toNat u2 : Int) == 39))] ⟨rfl, rfl, rfl, trivial⟩ fun J => ?_))))))))
      refine cnd rfl (fun hb3 => ?_) (fun hb3 => ?_)
      · have hm := ctrue hb3 hm
        refine sq2 ?_
        refine sq2 ?_
        obtain ⟨u3, hx3, hm⟩ := bindS hm
        obtain ⟨y1, hx4, hm⟩ := bindS hm
        refine rg (pv (r_mt rfl) (pv (r_sx rfl rfl hx3 Try.underlying9) (wl rfl (calS cf38 rfl (lex_escape_sim (p0 := (UInt8.toNat u3 : Int)) (hS1.bun [0, 1] [] rfl)  hx4) rfl fun v1 T1 w2 im2 rv1 => ?_))))
        obtain ⟨rfl, hS2, _⟩ := rv1
        have hS2 : Sep g T1 w2 [boxA b1 [.int .i64 0, .string ⟨([] : List UInt8).toArray⟩, .int .u32 0, .int .i64 0, .int .i64 0], R] := hS2.unb
        refine pv (r_mv rfl) (pv (r_ex (v := .int .u8 y1.1) rfl rfl) (pv (r_ex (v := .bool y1.2) rfl rfl) (pv (r_zi rfl) (pv (r_zb rfl) (nil (t_thenR [(0, .string ⟨p0.toArray⟩), (2, .pointer (some ⟨b1, 0, none⟩)), (4, .int .u8 y1.1), (5, .bool y1.2)] ⟨rfl, rfl, rfl, rfl, trivial⟩ fun J => ?_))))))
        refine sq2 ?_
        refine rg (pv (r_mb rfl) (nil (t_then ?_)))
        refine cnd rfl (fun hb4 => ?_) (fun hb4 => ?_)
        · have hm := ctrue hb4 hm
          refine sq2 ?_
          obtain ⟨u4, hx5, hm⟩ := bindS hm
          refine rg (pv (r_mt rfl) (pv (r_ss rfl rfl ⟨_, rfl⟩ hx5 Try.underlying9) (pv (r_mi rfl) (pv (r_cv rfl Try.underlying5 Try.underlying31) (pv (r_bd (by kernel_rfl) rfl (u := .agg #[.int .i64 3, .string ⟨u4.toArray⟩, .int .u32 (IntKind.wrap .u32 y1.1), .int .i64 0, .int .i64 0])) (wl rfl (st0B (q := 0) hS2 ⟨rfl, rfl⟩ rfl rfl rfl Try.sizeOf33 rfl rfl rfl fun w3 im3 hS3 => ?_)))))))
          have hS3 : Sep g T1 w3 [boxA b1 [.int .i64 3, .string ⟨u4.toArray⟩, .int .u32 (IntKind.wrap .u32 y1.1), .int .i64 0, .int .i64 0], R] := hS3
          refine pv (r_zi rfl) (nil (t_thenR [(2, .pointer (some ⟨b1, 0, none⟩)), (3, .int .i64 0)] ⟨rfl, rfl, trivial⟩ fun J => ?_))
          have hm := Option.some.inj hm
          subst hm
          exact rtn (r_then (r_then (retN (vs := [.agg #[.int .i64 3, .string ⟨u4.toArray⟩, .int .u32 (IntKind.wrap .u32 y1.1), .int .i64 0, .int .i64 0], .int .i64 0]) rfl ⟨rvS rfl Try.isAgg33 Try.sizeOf33 rfl (hS3.bx (i := 0) ⟨rfl, rfl⟩), rfl, trivial⟩ rfl ⟨_, rfl, _, (Im.trans im1 (Im.trans im2 im3)), ⟨rfl, hS3.sel [1] rfl, trivial⟩⟩)))
        · have hm := cfalse hb4 hm
          refine skp (t_then ?_)
          refine sq2 ?_
          refine rg (pv (r_bd (by kernel_rfl) rfl (u := .agg #[.int .i64 0, .string ⟨([] : List UInt8).toArray⟩, .int .u32 0, .int .i64 0, .int .i64 0])) (wl rfl (st0B (q := 0) hS2 ⟨rfl, rfl⟩ rfl rfl rfl Try.sizeOf33 rfl rfl rfl fun w4 im4 hS4 => ?_)))
          have hS4 : Sep g T1 w4 [boxA b1 [.int .i64 0, .string ⟨([] : List UInt8).toArray⟩, .int .u32 0, .int .i64 0, .int .i64 0], R] := hS4
          refine pv (r_zi rfl) (nil (t_thenR [(2, .pointer (some ⟨b1, 0, none⟩)), (3, .int .i64 3)] ⟨rfl, rfl, trivial⟩ fun J => ?_))
          have hm := Option.some.inj hm
          subst hm
          exact rtn (r_then (retN (vs := [.agg #[.int .i64 0, .string ⟨([] : List UInt8).toArray⟩, .int .u32 0, .int .i64 0, .int .i64 0], .int .i64 3]) rfl ⟨rvS rfl Try.isAgg33 Try.sizeOf33 rfl (hS4.bx (i := 0) ⟨rfl, rfl⟩), rfl, trivial⟩ rfl ⟨_, rfl, _, (Im.trans im1 (Im.trans im2 im4)), ⟨rfl, hS4.sel [1] rfl, trivial⟩⟩))
      · have hm := cfalse hb3 hm
        refine skp (t_then ?_)
        refine sq2 ?_
        refine sq2 ?_
        refine rg (pv (r_mt rfl) (pv (r_lnt rfl Try.underlying9) (pv (r_ib rfl rfl rfl) (pv (r_mb rfl) (?_)))))
        rcases Bool.eq_false_or_eq_true (decide (3 ≤ (List.length p0 : Int))) with hb5 | hb5
        · have hm := ctrue hb5 hm
          obtain ⟨u5, hx6, hm⟩ := bindS hm
          refine gT (d0 := 35) rfl rfl hb5 (pv (r_mt rfl) (gT (d0 := 35) rfl rfl hb5 (pv (r_sx rfl rfl hx6 Try.underlying9) (gT (d0 := 35) rfl rfl hb5 (pv (r_ib rfl rfl rfl) (pv (r_pkt rfl hb5 rfl) (pv (r_mb rfl) (?_))))))))
          rcases Bool.eq_false_or_eq_true ((UInt8.toNat u5 : Int) == 39) with hb6 | hb6
          · have hm := ctrue hb6 hm
            obtain ⟨u6, hx7, hm⟩ := bindS hm
            refine gT (d0 := 40) rfl rfl hb6 (pv (r_mt rfl) (gT (d0 := 40) rfl rfl hb6 (pv (r_sx rfl rfl hx7 Try.underlying9) (gT (d0 := 40) rfl rfl hb6 (pv (r_ib rfl rfl rfl) (pv (r_pkt rfl hb6 rfl) (pv (r_mb rfl) (?_))))))))
            rcases Bool.eq_false_or_eq_true (decide (32 ≤ (UInt8.toNat u6 : Int))) with hb7 | hb7
            · have hm := ctrue hb7 hm
              obtain ⟨u7, hx8, hm⟩ := bindS hm
              refine gT (d0 := 45) rfl rfl hb7 (pv (r_mt rfl) (gT (d0 := 45) rfl rfl hb7 (pv (r_sx rfl rfl hx8 Try.underlying9) (gT (d0 := 45) rfl rfl hb7 (pv (r_ib rfl rfl rfl) (pv (r_pkt rfl hb7 rfl) (pv (r_mb rfl) (?_))))))))
              rcases Bool.eq_false_or_eq_true (decide ((UInt8.toNat u7 : Int) ≤ 126)) with hb8 | hb8
              · have hm := ctrue hb8 hm
                obtain ⟨u8, hx9, hm⟩ := bindS hm
                refine gT (d0 := 50) rfl rfl hb8 (pv (r_mt rfl) (gT (d0 := 50) rfl rfl hb8 (pv (r_sx rfl rfl hx9 Try.underlying9) (gT (d0 := 50) rfl rfl hb8 (pv (r_ib rfl rfl rfl) (pv (r_pkt rfl hb8 rfl) (pv (r_mb rfl) (?_))))))))
                rcases Bool.eq_false_or_eq_true ((UInt8.toNat u8 : Int) != 39) with hb9 | hb9
                · have hm := ctrue hb9 hm
                  obtain ⟨u9, hx10, hm⟩ := bindS hm
                  refine gT (d0 := 55) rfl rfl hb9 (pv (r_mt rfl) (gT (d0 := 55) rfl rfl hb9 (pv (r_sx rfl rfl hx10 Try.underlying9) (gT (d0 := 55) rfl rfl hb9 (pv (r_ib rfl rfl rfl) (pv (r_pkt rfl hb9 rfl) (nil (t_thenR [(0, .string ⟨p0.toArray⟩), (2, .pointer (some ⟨b1, 0, none⟩)), (59, .bool ((UInt8.toNat u9 : Int) != 92))] ⟨rfl, rfl, rfl, trivial⟩ fun J => ?_))))))))
                  refine cnd rfl (fun hb10 => ?_) (fun hb10 => ?_)
                  · have hm := ctrue hb10 hm
                    refine sq2 ?_
                    refine rs [0, 0, 0, 0, 0, 0, 2, 0] [0, 1, 2, 3, 4, 5, 6, 7] mix (by kernel_rfl) hS1.lt fun w5 i1 => ?_
                    have im5 := i1.imm
                    have hS5 := hS1.keep i1 (fun _ h => h)
                    obtain ⟨u10, hx11, hm⟩ := bindS hm
                    obtain ⟨u11, hx12, hm⟩ := bindS hm
                    refine s0 rfl trivial (fun _ => r_mt rfl) rfl (s0 rfl trivial (fun _ => r_ss rfl rfl ⟨_, rfl⟩ hx11 Try.underlying9) rfl (s0 rfl trivial (fun _ => r_mt rfl) rfl (s0 rfl trivial (fun _ => r_sx rfl rfl hx12 Try.underlying9) rfl (s0 rfl trivial (fun _ => r_cv rfl Try.underlying5 Try.underlying31) rfl (s0 rfl trivial (fun _ => r_bd (by kernel_rfl) rfl (u := .agg #[.int .i64 3, .string ⟨u10.toArray⟩, .int .u32 (IntKind.wrap .u32 (UInt8.toNat u11 : Int)), .int .i64 0, .int .i64 0])) rfl (s2 [] rfl trivial rfl (by kernel_rfl) (st0B (q := 0) hS5 ⟨rfl, rfl⟩ rfl rfl rfl Try.sizeOf33 rfl rfl rfl fun w6 im6 hS6 => ?_)))))))
                    have hS6 : Sep g T0 w6 [boxA b1 [.int .i64 3, .string ⟨u10.toArray⟩, .int .u32 (IntKind.wrap .u32 (UInt8.toNat u11 : Int)), .int .i64 0, .int .i64 0], R] := hS6
                    refine ⟨st0, ?_⟩
                    refine s0 rfl trivial (fun _ => r_zi rfl) rfl (se (t_thenR [(2, .pointer (some ⟨b1, 0, none⟩)), (3, .int .i64 0)] ⟨rfl, rfl, trivial⟩ fun J => ?_))
                    have hm := Option.some.inj hm
                    subst hm
                    exact rtn (r_then (retN (vs := [.agg #[.int .i64 3, .string ⟨u10.toArray⟩, .int .u32 (IntKind.wrap .u32 (UInt8.toNat u11 : Int)), .int .i64 0, .int .i64 0], .int .i64 0]) rfl ⟨rvS rfl Try.isAgg33 Try.sizeOf33 rfl (hS6.bx (i := 0) ⟨rfl, rfl⟩), rfl, trivial⟩ rfl ⟨_, rfl, _, (Im.trans im1 (Im.trans im5 im6)), ⟨rfl, hS6.sel [1] rfl, trivial⟩⟩))
                  · have hm := cfalse hb10 hm
                    refine skp (t_then ?_)
                    refine sq2 ?_
                    refine rg (pv (r_bd (by kernel_rfl) rfl (u := .agg #[.int .i64 0, .string ⟨([] : List UInt8).toArray⟩, .int .u32 0, .int .i64 0, .int .i64 0])) (wl rfl (st0B (q := 0) hS1 ⟨rfl, rfl⟩ rfl rfl rfl Try.sizeOf33 rfl rfl rfl fun w7 im7 hS7 => ?_)))
                    have hS7 : Sep g T0 w7 [boxA b1 [.int .i64 0, .string ⟨([] : List UInt8).toArray⟩, .int .u32 0, .int .i64 0, .int .i64 0], R] := hS7
                    refine pv (r_zi rfl) (nil (t_then ?_))
                    have hm := Option.some.inj hm
                    subst hm
                    exact rtn (retN (vs := [.agg #[.int .i64 0, .string ⟨([] : List UInt8).toArray⟩, .int .u32 0, .int .i64 0, .int .i64 0], .int .i64 3]) rfl ⟨rvS rfl Try.isAgg33 Try.sizeOf33 rfl (hS7.bx (i := 0) ⟨rfl, rfl⟩), rfl, trivial⟩ rfl ⟨_, rfl, _, (Im.trans im1 im7), ⟨rfl, hS7.sel [1] rfl, trivial⟩⟩)
                · have hm := cfalse hb9 hm
                  refine gF (d0 := 55) rfl rfl (by rw [hb9]; rfl) (gF (d0 := 55) rfl rfl (by rw [hb9]; rfl) (gF (d0 := 55) rfl rfl (by rw [hb9]; rfl) (pv (r_pkf rfl hb9 rfl) (nil (t_thenR [(0, .string ⟨p0.toArray⟩), (2, .pointer (some ⟨b1, 0, none⟩)), (59, .bool false)] ⟨rfl, rfl, rfl, trivial⟩ fun J => ?_)))))
                  refine cnd (b := false) rfl (fun h => nomatch h) (fun _ => ?_)
                  refine skp (t_then ?_)
                  refine sq2 ?_
                  refine rg (pv (r_bd (by kernel_rfl) rfl (u := .agg #[.int .i64 0, .string ⟨([] : List UInt8).toArray⟩, .int .u32 0, .int .i64 0, .int .i64 0])) (wl rfl (st0B (q := 0) hS1 ⟨rfl, rfl⟩ rfl rfl rfl Try.sizeOf33 rfl rfl rfl fun w8 im8 hS8 => ?_)))
                  have hS8 : Sep g T0 w8 [boxA b1 [.int .i64 0, .string ⟨([] : List UInt8).toArray⟩, .int .u32 0, .int .i64 0, .int .i64 0], R] := hS8
                  refine pv (r_zi rfl) (nil (t_then ?_))
                  have hm := Option.some.inj hm
                  subst hm
                  exact rtn (retN (vs := [.agg #[.int .i64 0, .string ⟨([] : List UInt8).toArray⟩, .int .u32 0, .int .i64 0, .int .i64 0], .int .i64 3]) rfl ⟨rvS rfl Try.isAgg33 Try.sizeOf33 rfl (hS8.bx (i := 0) ⟨rfl, rfl⟩), rfl, trivial⟩ rfl ⟨_, rfl, _, (Im.trans im1 im8), ⟨rfl, hS8.sel [1] rfl, trivial⟩⟩)
              · have hm := cfalse hb8 hm
                refine gF (d0 := 50) rfl rfl (by rw [hb8]; rfl) (gF (d0 := 50) rfl rfl (by rw [hb8]; rfl) (gF (d0 := 50) rfl rfl (by rw [hb8]; rfl) (pv (r_pkf rfl hb8 rfl) (pv (r_mb rfl) (gF (d0 := 55) rfl rfl rfl (gF (d0 := 55) rfl rfl rfl (gF (d0 := 55) rfl rfl rfl (pv (r_pkf rfl rfl rfl) (nil (t_thenR [(0, .string ⟨p0.toArray⟩), (2, .pointer (some ⟨b1, 0, none⟩)), (59, .bool false)] ⟨rfl, rfl, rfl, trivial⟩ fun J => ?_))))))))))
                refine cnd (b := false) rfl (fun h => nomatch h) (fun _ => ?_)
                refine skp (t_then ?_)
                refine sq2 ?_
                refine rg (pv (r_bd (by kernel_rfl) rfl (u := .agg #[.int .i64 0, .string ⟨([] : List UInt8).toArray⟩, .int .u32 0, .int .i64 0, .int .i64 0])) (wl rfl (st0B (q := 0) hS1 ⟨rfl, rfl⟩ rfl rfl rfl Try.sizeOf33 rfl rfl rfl fun w9 im9 hS9 => ?_)))
                have hS9 : Sep g T0 w9 [boxA b1 [.int .i64 0, .string ⟨([] : List UInt8).toArray⟩, .int .u32 0, .int .i64 0, .int .i64 0], R] := hS9
                refine pv (r_zi rfl) (nil (t_then ?_))
                have hm := Option.some.inj hm
                subst hm
                exact rtn (retN (vs := [.agg #[.int .i64 0, .string ⟨([] : List UInt8).toArray⟩, .int .u32 0, .int .i64 0, .int .i64 0], .int .i64 3]) rfl ⟨rvS rfl Try.isAgg33 Try.sizeOf33 rfl (hS9.bx (i := 0) ⟨rfl, rfl⟩), rfl, trivial⟩ rfl ⟨_, rfl, _, (Im.trans im1 im9), ⟨rfl, hS9.sel [1] rfl, trivial⟩⟩)
            · have hm := cfalse hb7 hm
              refine gF (d0 := 45) rfl rfl (by rw [hb7]; rfl) (gF (d0 := 45) rfl rfl (by rw [hb7]; rfl) (gF (d0 := 45) rfl rfl (by rw [hb7]; rfl) (pv (r_pkf rfl hb7 rfl) (pv (r_mb rfl) (gF (d0 := 50) rfl rfl rfl (gF (d0 := 50) rfl rfl rfl (gF (d0 := 50) rfl rfl rfl (pv (r_pkf rfl rfl rfl) (pv (r_mb rfl) (gF (d0 := 55) rfl rfl rfl (gF (d0 := 55) rfl rfl rfl (gF (d0 := 55) rfl rfl rfl (pv (r_pkf rfl rfl rfl) (nil (t_thenR [(0, .string ⟨p0.toArray⟩), (2, .pointer (some ⟨b1, 0, none⟩)), (59, .bool false)] ⟨rfl, rfl, rfl, trivial⟩ fun J => ?_)))))))))))))))
              refine cnd (b := false) rfl (fun h => nomatch h) (fun _ => ?_)
              refine skp (t_then ?_)
              refine sq2 ?_
              refine rg (pv (r_bd (by kernel_rfl) rfl (u := .agg #[.int .i64 0, .string ⟨([] : List UInt8).toArray⟩, .int .u32 0, .int .i64 0, .int .i64 0])) (wl rfl (st0B (q := 0) hS1 ⟨rfl, rfl⟩ rfl rfl rfl Try.sizeOf33 rfl rfl rfl fun w10 im10 hS10 => ?_)))
              have hS10 : Sep g T0 w10 [boxA b1 [.int .i64 0, .string ⟨([] : List UInt8).toArray⟩, .int .u32 0, .int .i64 0, .int .i64 0], R] := hS10
              refine pv (r_zi rfl) (nil (t_then ?_))
              have hm := Option.some.inj hm
              subst hm
              exact rtn (retN (vs := [.agg #[.int .i64 0, .string ⟨([] : List UInt8).toArray⟩, .int .u32 0, .int .i64 0, .int .i64 0], .int .i64 3]) rfl ⟨rvS rfl Try.isAgg33 Try.sizeOf33 rfl (hS10.bx (i := 0) ⟨rfl, rfl⟩), rfl, trivial⟩ rfl ⟨_, rfl, _, (Im.trans im1 im10), ⟨rfl, hS10.sel [1] rfl, trivial⟩⟩)
          · have hm := cfalse hb6 hm
            refine gF (d0 := 40) rfl rfl (by rw [hb6]; rfl) (gF (d0 := 40) rfl rfl (by rw [hb6]; rfl) (gF (d0 := 40) rfl rfl (by rw [hb6]; rfl) (pv (r_pkf rfl hb6 rfl) (pv (r_mb rfl) (gF (d0 := 45) rfl rfl rfl (gF (d0 := 45) rfl rfl rfl (gF (d0 := 45) rfl rfl rfl (pv (r_pkf rfl rfl rfl) (pv (r_mb rfl) (gF (d0 := 50) rfl rfl rfl (gF (d0 := 50) rfl rfl rfl (gF (d0 := 50) rfl rfl rfl (pv (r_pkf rfl rfl rfl) (pv (r_mb rfl) (gF (d0 := 55) rfl rfl rfl (gF (d0 := 55) rfl rfl rfl (gF (d0 := 55) rfl rfl rfl (pv (r_pkf rfl rfl rfl) (nil (t_thenR [(0, .string ⟨p0.toArray⟩), (2, .pointer (some ⟨b1, 0, none⟩)), (59, .bool false)] ⟨rfl, rfl, rfl, trivial⟩ fun J => ?_))))))))))))))))))))
            refine cnd (b := false) rfl (fun h => nomatch h) (fun _ => ?_)
            refine skp (t_then ?_)
            refine sq2 ?_
            refine rg (pv (r_bd (by kernel_rfl) rfl (u := .agg #[.int .i64 0, .string ⟨([] : List UInt8).toArray⟩, .int .u32 0, .int .i64 0, .int .i64 0])) (wl rfl (st0B (q := 0) hS1 ⟨rfl, rfl⟩ rfl rfl rfl Try.sizeOf33 rfl rfl rfl fun w11 im11 hS11 => ?_)))
            have hS11 : Sep g T0 w11 [boxA b1 [.int .i64 0, .string ⟨([] : List UInt8).toArray⟩, .int .u32 0, .int .i64 0, .int .i64 0], R] := hS11
            refine pv (r_zi rfl) (nil (t_then ?_))
            have hm := Option.some.inj hm
            subst hm
            exact rtn (retN (vs := [.agg #[.int .i64 0, .string ⟨([] : List UInt8).toArray⟩, .int .u32 0, .int .i64 0, .int .i64 0], .int .i64 3]) rfl ⟨rvS rfl Try.isAgg33 Try.sizeOf33 rfl (hS11.bx (i := 0) ⟨rfl, rfl⟩), rfl, trivial⟩ rfl ⟨_, rfl, _, (Im.trans im1 im11), ⟨rfl, hS11.sel [1] rfl, trivial⟩⟩)
        · have hm := cfalse hb5 hm
          refine gF (d0 := 35) rfl rfl (by rw [hb5]; rfl) (gF (d0 := 35) rfl rfl (by rw [hb5]; rfl) (gF (d0 := 35) rfl rfl (by rw [hb5]; rfl) (pv (r_pkf rfl hb5 rfl) (pv (r_mb rfl) (gF (d0 := 40) rfl rfl rfl (gF (d0 := 40) rfl rfl rfl (gF (d0 := 40) rfl rfl rfl (pv (r_pkf rfl rfl rfl) (pv (r_mb rfl) (gF (d0 := 45) rfl rfl rfl (gF (d0 := 45) rfl rfl rfl (gF (d0 := 45) rfl rfl rfl (pv (r_pkf rfl rfl rfl) (pv (r_mb rfl) (gF (d0 := 50) rfl rfl rfl (gF (d0 := 50) rfl rfl rfl (gF (d0 := 50) rfl rfl rfl (pv (r_pkf rfl rfl rfl) (pv (r_mb rfl) (gF (d0 := 55) rfl rfl rfl (gF (d0 := 55) rfl rfl rfl (gF (d0 := 55) rfl rfl rfl (pv (r_pkf rfl rfl rfl) (nil (t_thenR [(0, .string ⟨p0.toArray⟩), (2, .pointer (some ⟨b1, 0, none⟩)), (59, .bool false)] ⟨rfl, rfl, rfl, trivial⟩ fun J => ?_)))))))))))))))))))))))))
          refine cnd (b := false) rfl (fun h => nomatch h) (fun _ => ?_)
          refine skp (t_then ?_)
          refine sq2 ?_
          refine rg (pv (r_bd (by kernel_rfl) rfl (u := .agg #[.int .i64 0, .string ⟨([] : List UInt8).toArray⟩, .int .u32 0, .int .i64 0, .int .i64 0])) (wl rfl (st0B (q := 0) hS1 ⟨rfl, rfl⟩ rfl rfl rfl Try.sizeOf33 rfl rfl rfl fun w12 im12 hS12 => ?_)))
          have hS12 : Sep g T0 w12 [boxA b1 [.int .i64 0, .string ⟨([] : List UInt8).toArray⟩, .int .u32 0, .int .i64 0, .int .i64 0], R] := hS12
          refine pv (r_zi rfl) (nil (t_then ?_))
          have hm := Option.some.inj hm
          subst hm
          exact rtn (retN (vs := [.agg #[.int .i64 0, .string ⟨([] : List UInt8).toArray⟩, .int .u32 0, .int .i64 0, .int .i64 0], .int .i64 3]) rfl ⟨rvS rfl Try.isAgg33 Try.sizeOf33 rfl (hS12.bx (i := 0) ⟨rfl, rfl⟩), rfl, trivial⟩ rfl ⟨_, rfl, _, (Im.trans im1 im12), ⟨rfl, hS12.sel [1] rfl, trivial⟩⟩)
    · have hm := cfalse hb2 hm
      refine gF (d0 := 14) rfl rfl (by rw [hb2]; rfl) (gF (d0 := 14) rfl rfl (by rw [hb2]; rfl) (gF (d0 := 14) rfl rfl (by rw [hb2]; rfl) (pv (r_pkf rfl hb2 rfl) (nil (t_thenR [(0, .string ⟨p0.toArray⟩), (2, .pointer (some ⟨b1, 0, none⟩)), (18, .bool false)] ⟨rfl, rfl, rfl, trivial⟩ fun J => ?_)))))
      refine cnd (b := false) rfl (fun h => nomatch h) (fun _ => ?_)
      refine skp (t_then ?_)
      refine sq2 ?_
      refine sq2 ?_
      refine rg (pv (r_mt rfl) (pv (r_lnt rfl Try.underlying9) (pv (r_ib rfl rfl rfl) (pv (r_mb rfl) (?_)))))
      rcases Bool.eq_false_or_eq_true (decide (3 ≤ (List.length p0 : Int))) with hb17 | hb17
      · have hm := ctrue hb17 hm
        obtain ⟨u12, hx13, hm⟩ := bindS hm
        refine gT (d0 := 35) rfl rfl hb17 (pv (r_mt rfl) (gT (d0 := 35) rfl rfl hb17 (pv (r_sx rfl rfl hx13 Try.underlying9) (gT (d0 := 35) rfl rfl hb17 (pv (r_ib rfl rfl rfl) (pv (r_pkt rfl hb17 rfl) (pv (r_mb rfl) (?_))))))))
        rcases Bool.eq_false_or_eq_true ((UInt8.toNat u12 : Int) == 39) with hb18 | hb18
        · have hm := ctrue hb18 hm
          obtain ⟨u13, hx14, hm⟩ := bindS hm
          refine gT (d0 := 40) rfl rfl hb18 (pv (r_mt rfl) (gT (d0 := 40) rfl rfl hb18 (pv (r_sx rfl rfl hx14 Try.underlying9) (gT (d0 := 40) rfl rfl hb18 (pv (r_ib rfl rfl rfl) (pv (r_pkt rfl hb18 rfl) (pv (r_mb rfl) (?_))))))))
          rcases Bool.eq_false_or_eq_true (decide (32 ≤ (UInt8.toNat u13 : Int))) with hb19 | hb19
          · have hm := ctrue hb19 hm
            obtain ⟨u14, hx15, hm⟩ := bindS hm
            refine gT (d0 := 45) rfl rfl hb19 (pv (r_mt rfl) (gT (d0 := 45) rfl rfl hb19 (pv (r_sx rfl rfl hx15 Try.underlying9) (gT (d0 := 45) rfl rfl hb19 (pv (r_ib rfl rfl rfl) (pv (r_pkt rfl hb19 rfl) (pv (r_mb rfl) (?_))))))))
            rcases Bool.eq_false_or_eq_true (decide ((UInt8.toNat u14 : Int) ≤ 126)) with hb20 | hb20
            · have hm := ctrue hb20 hm
              obtain ⟨u15, hx16, hm⟩ := bindS hm
              refine gT (d0 := 50) rfl rfl hb20 (pv (r_mt rfl) (gT (d0 := 50) rfl rfl hb20 (pv (r_sx rfl rfl hx16 Try.underlying9) (gT (d0 := 50) rfl rfl hb20 (pv (r_ib rfl rfl rfl) (pv (r_pkt rfl hb20 rfl) (pv (r_mb rfl) (?_))))))))
              rcases Bool.eq_false_or_eq_true ((UInt8.toNat u15 : Int) != 39) with hb21 | hb21
              · have hm := ctrue hb21 hm
                obtain ⟨u16, hx17, hm⟩ := bindS hm
                refine gT (d0 := 55) rfl rfl hb21 (pv (r_mt rfl) (gT (d0 := 55) rfl rfl hb21 (pv (r_sx rfl rfl hx17 Try.underlying9) (gT (d0 := 55) rfl rfl hb21 (pv (r_ib rfl rfl rfl) (pv (r_pkt rfl hb21 rfl) (nil (t_thenR [(0, .string ⟨p0.toArray⟩), (2, .pointer (some ⟨b1, 0, none⟩)), (59, .bool ((UInt8.toNat u16 : Int) != 92))] ⟨rfl, rfl, rfl, trivial⟩ fun J => ?_))))))))
                refine cnd rfl (fun hb22 => ?_) (fun hb22 => ?_)
                · have hm := ctrue hb22 hm
                  refine sq2 ?_
                  refine rs [0, 0, 0, 0, 0, 0, 2, 0] [0, 1, 2, 3, 4, 5, 6, 7] mix (by kernel_rfl) hS1.lt fun w13 i2 => ?_
                  have im13 := i2.imm
                  have hS13 := hS1.keep i2 (fun _ h => h)
                  obtain ⟨u17, hx18, hm⟩ := bindS hm
                  obtain ⟨u18, hx19, hm⟩ := bindS hm
                  refine s0 rfl trivial (fun _ => r_mt rfl) rfl (s0 rfl trivial (fun _ => r_ss rfl rfl ⟨_, rfl⟩ hx18 Try.underlying9) rfl (s0 rfl trivial (fun _ => r_mt rfl) rfl (s0 rfl trivial (fun _ => r_sx rfl rfl hx19 Try.underlying9) rfl (s0 rfl trivial (fun _ => r_cv rfl Try.underlying5 Try.underlying31) rfl (s0 rfl trivial (fun _ => r_bd (by kernel_rfl) rfl (u := .agg #[.int .i64 3, .string ⟨u17.toArray⟩, .int .u32 (IntKind.wrap .u32 (UInt8.toNat u18 : Int)), .int .i64 0, .int .i64 0])) rfl (s2 [] rfl trivial rfl (by kernel_rfl) (st0B (q := 0) hS13 ⟨rfl, rfl⟩ rfl rfl rfl Try.sizeOf33 rfl rfl rfl fun w14 im14 hS14 => ?_)))))))
                  have hS14 : Sep g T0 w14 [boxA b1 [.int .i64 3, .string ⟨u17.toArray⟩, .int .u32 (IntKind.wrap .u32 (UInt8.toNat u18 : Int)), .int .i64 0, .int .i64 0], R] := hS14
                  refine ⟨st0, ?_⟩
                  refine s0 rfl trivial (fun _ => r_zi rfl) rfl (se (t_thenR [(2, .pointer (some ⟨b1, 0, none⟩)), (3, .int .i64 0)] ⟨rfl, rfl, trivial⟩ fun J => ?_))
                  have hm := Option.some.inj hm
                  subst hm
                  exact rtn (r_then (retN (vs := [.agg #[.int .i64 3, .string ⟨u17.toArray⟩, .int .u32 (IntKind.wrap .u32 (UInt8.toNat u18 : Int)), .int .i64 0, .int .i64 0], .int .i64 0]) rfl ⟨rvS rfl Try.isAgg33 Try.sizeOf33 rfl (hS14.bx (i := 0) ⟨rfl, rfl⟩), rfl, trivial⟩ rfl ⟨_, rfl, _, (Im.trans im1 (Im.trans im13 im14)), ⟨rfl, hS14.sel [1] rfl, trivial⟩⟩))
                · have hm := cfalse hb22 hm
                  refine skp (t_then ?_)
                  refine sq2 ?_
                  refine rg (pv (r_bd (by kernel_rfl) rfl (u := .agg #[.int .i64 0, .string ⟨([] : List UInt8).toArray⟩, .int .u32 0, .int .i64 0, .int .i64 0])) (wl rfl (st0B (q := 0) hS1 ⟨rfl, rfl⟩ rfl rfl rfl Try.sizeOf33 rfl rfl rfl fun w15 im15 hS15 => ?_)))
                  have hS15 : Sep g T0 w15 [boxA b1 [.int .i64 0, .string ⟨([] : List UInt8).toArray⟩, .int .u32 0, .int .i64 0, .int .i64 0], R] := hS15
                  refine pv (r_zi rfl) (nil (t_then ?_))
                  have hm := Option.some.inj hm
                  subst hm
                  exact rtn (retN (vs := [.agg #[.int .i64 0, .string ⟨([] : List UInt8).toArray⟩, .int .u32 0, .int .i64 0, .int .i64 0], .int .i64 3]) rfl ⟨rvS rfl Try.isAgg33 Try.sizeOf33 rfl (hS15.bx (i := 0) ⟨rfl, rfl⟩), rfl, trivial⟩ rfl ⟨_, rfl, _, (Im.trans im1 im15), ⟨rfl, hS15.sel [1] rfl, trivial⟩⟩)
              · have hm := cfalse hb21 hm
                refine gF (d0 := 55) rfl rfl (by rw [hb21]; rfl) (gF (d0 := 55) rfl rfl (by rw [hb21]; rfl) (gF (d0 := 55) rfl rfl (by rw [hb21]; rfl) (pv (r_pkf rfl hb21 rfl) (nil (t_thenR [(0, .string ⟨p0.toArray⟩), (2, .pointer (some ⟨b1, 0, none⟩)), (59, .bool false)] ⟨rfl, rfl, rfl, trivial⟩ fun J => ?_)))))
                refine cnd (b := false) rfl (fun h => nomatch h) (fun _ => ?_)
                refine skp (t_then ?_)
                refine sq2 ?_
                refine rg (pv (r_bd (by kernel_rfl) rfl (u := .agg #[.int .i64 0, .string ⟨([] : List UInt8).toArray⟩, .int .u32 0, .int .i64 0, .int .i64 0])) (wl rfl (st0B (q := 0) hS1 ⟨rfl, rfl⟩ rfl rfl rfl Try.sizeOf33 rfl rfl rfl fun w16 im16 hS16 => ?_)))
                have hS16 : Sep g T0 w16 [boxA b1 [.int .i64 0, .string ⟨([] : List UInt8).toArray⟩, .int .u32 0, .int .i64 0, .int .i64 0], R] := hS16
                refine pv (r_zi rfl) (nil (t_then ?_))
                have hm := Option.some.inj hm
                subst hm
                exact rtn (retN (vs := [.agg #[.int .i64 0, .string ⟨([] : List UInt8).toArray⟩, .int .u32 0, .int .i64 0, .int .i64 0], .int .i64 3]) rfl ⟨rvS rfl Try.isAgg33 Try.sizeOf33 rfl (hS16.bx (i := 0) ⟨rfl, rfl⟩), rfl, trivial⟩ rfl ⟨_, rfl, _, (Im.trans im1 im16), ⟨rfl, hS16.sel [1] rfl, trivial⟩⟩)
            · have hm := cfalse hb20 hm
              refine gF (d0 := 50) rfl rfl (by rw [hb20]; rfl) (gF (d0 := 50) rfl rfl (by rw [hb20]; rfl) (gF (d0 := 50) rfl rfl (by rw [hb20]; rfl) (pv (r_pkf rfl hb20 rfl) (pv (r_mb rfl) (gF (d0 := 55) rfl rfl rfl (gF (d0 := 55) rfl rfl rfl (gF (d0 := 55) rfl rfl rfl (pv (r_pkf rfl rfl rfl) (nil (t_thenR [(0, .string ⟨p0.toArray⟩), (2, .pointer (some ⟨b1, 0, none⟩)), (59, .bool false)] ⟨rfl, rfl, rfl, trivial⟩ fun J => ?_))))))))))
              refine cnd (b := false) rfl (fun h => nomatch h) (fun _ => ?_)
              refine skp (t_then ?_)
              refine sq2 ?_
              refine rg (pv (r_bd (by kernel_rfl) rfl (u := .agg #[.int .i64 0, .string ⟨([] : List UInt8).toArray⟩, .int .u32 0, .int .i64 0, .int .i64 0])) (wl rfl (st0B (q := 0) hS1 ⟨rfl, rfl⟩ rfl rfl rfl Try.sizeOf33 rfl rfl rfl fun w17 im17 hS17 => ?_)))
              have hS17 : Sep g T0 w17 [boxA b1 [.int .i64 0, .string ⟨([] : List UInt8).toArray⟩, .int .u32 0, .int .i64 0, .int .i64 0], R] := hS17
              refine pv (r_zi rfl) (nil (t_then ?_))
              have hm := Option.some.inj hm
              subst hm
              exact rtn (retN (vs := [.agg #[.int .i64 0, .string ⟨([] : List UInt8).toArray⟩, .int .u32 0, .int .i64 0, .int .i64 0], .int .i64 3]) rfl ⟨rvS rfl Try.isAgg33 Try.sizeOf33 rfl (hS17.bx (i := 0) ⟨rfl, rfl⟩), rfl, trivial⟩ rfl ⟨_, rfl, _, (Im.trans im1 im17), ⟨rfl, hS17.sel [1] rfl, trivial⟩⟩)
          · have hm := cfalse hb19 hm
            refine gF (d0 := 45) rfl rfl (by rw [hb19]; rfl) (gF (d0 := 45) rfl rfl (by rw [hb19]; rfl) (gF (d0 := 45) rfl rfl (by rw [hb19]; rfl) (pv (r_pkf rfl hb19 rfl) (pv (r_mb rfl) (gF (d0 := 50) rfl rfl rfl (gF (d0 := 50) rfl rfl rfl (gF (d0 := 50) rfl rfl rfl (pv (r_pkf rfl rfl rfl) (pv (r_mb rfl) (gF (d0 := 55) rfl rfl rfl (gF (d0 := 55) rfl rfl rfl (gF (d0 := 55) rfl rfl rfl (pv (r_pkf rfl rfl rfl) (nil (t_thenR [(0, .string ⟨p0.toArray⟩), (2, .pointer (some ⟨b1, 0, none⟩)), (59, .bool false)] ⟨rfl, rfl, rfl, trivial⟩ fun J => ?_)))))))))))))))
            refine cnd (b := false) rfl (fun h => nomatch h) (fun _ => ?_)
            refine skp (t_then ?_)
            refine sq2 ?_
            refine rg (pv (r_bd (by kernel_rfl) rfl (u := .agg #[.int .i64 0, .string ⟨([] : List UInt8).toArray⟩, .int .u32 0, .int .i64 0, .int .i64 0])) (wl rfl (st0B (q := 0) hS1 ⟨rfl, rfl⟩ rfl rfl rfl Try.sizeOf33 rfl rfl rfl fun w18 im18 hS18 => ?_)))
            have hS18 : Sep g T0 w18 [boxA b1 [.int .i64 0, .string ⟨([] : List UInt8).toArray⟩, .int .u32 0, .int .i64 0, .int .i64 0], R] := hS18
            refine pv (r_zi rfl) (nil (t_then ?_))
            have hm := Option.some.inj hm
            subst hm
            exact rtn (retN (vs := [.agg #[.int .i64 0, .string ⟨([] : List UInt8).toArray⟩, .int .u32 0, .int .i64 0, .int .i64 0], .int .i64 3]) rfl ⟨rvS rfl Try.isAgg33 Try.sizeOf33 rfl (hS18.bx (i := 0) ⟨rfl, rfl⟩), rfl, trivial⟩ rfl ⟨_, rfl, _, (Im.trans im1 im18), ⟨rfl, hS18.sel [1] rfl, trivial⟩⟩)
        · have hm := cfalse hb18 hm
          refine gF (d0 := 40) rfl rfl (by rw [hb18]; rfl) (gF (d0 := 40) rfl rfl (by rw [hb18]; rfl) (gF (d0 := 40) rfl rfl (by rw [hb18]; rfl) (pv (r_pkf rfl hb18 rfl) (pv (r_mb rfl) (gF (d0 := 45) rfl rfl rfl (gF (d0 := 45) rfl rfl rfl (gF (d0 := 45) rfl rfl rfl (pv (r_pkf rfl rfl rfl) (pv (r_mb rfl) (gF (d0 := 50) rfl rfl rfl (gF (d0 := 50) rfl rfl rfl (gF (d0 := 50) rfl rfl rfl (pv (r_pkf rfl rfl rfl) (pv (r_mb rfl) (gF (d0 := 55) rfl rfl rfl (gF (d0 := 55) rfl rfl rfl (gF (d0 := 55) rfl rfl rfl (pv (r_pkf rfl rfl rfl) (nil (t_thenR [(0, .string ⟨p0.toArray⟩), (2, .pointer (some ⟨b1, 0, none⟩)), (59, .bool false)] ⟨rfl, rfl, rfl, trivial⟩ fun J => ?_))))))))))))))))))))
          refine cnd (b := false) rfl (fun h => nomatch h) (fun _ => ?_)
          refine skp (t_then ?_)
          refine sq2 ?_
          refine rg (pv (r_bd (by kernel_rfl) rfl (u := .agg #[.int .i64 0, .string ⟨([] : List UInt8).toArray⟩, .int .u32 0, .int .i64 0, .int .i64 0])) (wl rfl (st0B (q := 0) hS1 ⟨rfl, rfl⟩ rfl rfl rfl Try.sizeOf33 rfl rfl rfl fun w19 im19 hS19 => ?_)))
          have hS19 : Sep g T0 w19 [boxA b1 [.int .i64 0, .string ⟨([] : List UInt8).toArray⟩, .int .u32 0, .int .i64 0, .int .i64 0], R] := hS19
          refine pv (r_zi rfl) (nil (t_then ?_))
          have hm := Option.some.inj hm
          subst hm
          exact rtn (retN (vs := [.agg #[.int .i64 0, .string ⟨([] : List UInt8).toArray⟩, .int .u32 0, .int .i64 0, .int .i64 0], .int .i64 3]) rfl ⟨rvS rfl Try.isAgg33 Try.sizeOf33 rfl (hS19.bx (i := 0) ⟨rfl, rfl⟩), rfl, trivial⟩ rfl ⟨_, rfl, _, (Im.trans im1 im19), ⟨rfl, hS19.sel [1] rfl, trivial⟩⟩)
      · have hm := cfalse hb17 hm
        refine gF (d0 := 35) rfl rfl (by rw [hb17]; rfl) (gF (d0 := 35) rfl rfl (by rw [hb17]; rfl) (gF (d0 := 35) rfl rfl (by rw [hb17]; rfl) (pv (r_pkf rfl hb17 rfl) (pv (r_mb rfl) (gF (d0 := 40) rfl rfl rfl (gF (d0 := 40) rfl rfl rfl (gF (d0 := 40) rfl rfl rfl (pv (r_pkf rfl rfl rfl) (pv (r_mb rfl) (gF (d0 := 45) rfl rfl rfl (gF (d0 := 45) rfl rfl rfl (gF (d0 := 45) rfl rfl rfl (pv (r_pkf rfl rfl rfl) (pv (r_mb rfl) (gF (d0 := 50) rfl rfl rfl (gF (d0 := 50) rfl rfl rfl (gF (d0 := 50) rfl rfl rfl (pv (r_pkf rfl rfl rfl) (pv (r_mb rfl) (gF (d0 := 55) rfl rfl rfl (gF (d0 := 55) rfl rfl rfl (gF (d0 := 55) rfl rfl rfl (pv (r_pkf rfl rfl rfl) (nil (t_thenR [(0, .string ⟨p0.toArray⟩), (2, .pointer (some ⟨b1, 0, none⟩)), (59, .bool false)] ⟨rfl, rfl, rfl, trivial⟩ fun J => ?_)))))))))))))))))))))))))
        refine cnd (b := false) rfl (fun h => nomatch h) (fun _ => ?_)
        refine skp (t_then ?_)
        refine sq2 ?_
        refine rg (pv (r_bd (by kernel_rfl) rfl (u := .agg #[.int .i64 0, .string ⟨([] : List UInt8).toArray⟩, .int .u32 0, .int .i64 0, .int .i64 0])) (wl rfl (st0B (q := 0) hS1 ⟨rfl, rfl⟩ rfl rfl rfl Try.sizeOf33 rfl rfl rfl fun w20 im20 hS20 => ?_)))
        have hS20 : Sep g T0 w20 [boxA b1 [.int .i64 0, .string ⟨([] : List UInt8).toArray⟩, .int .u32 0, .int .i64 0, .int .i64 0], R] := hS20
        refine pv (r_zi rfl) (nil (t_then ?_))
        have hm := Option.some.inj hm
        subst hm
        exact rtn (retN (vs := [.agg #[.int .i64 0, .string ⟨([] : List UInt8).toArray⟩, .int .u32 0, .int .i64 0, .int .i64 0], .int .i64 3]) rfl ⟨rvS rfl Try.isAgg33 Try.sizeOf33 rfl (hS20.bx (i := 0) ⟨rfl, rfl⟩), rfl, trivial⟩ rfl ⟨_, rfl, _, (Im.trans im1 im20), ⟨rfl, hS20.sel [1] rfl, trivial⟩⟩)
  · have hm := cfalse hb1 hm
    refine gF (d0 := 9) rfl rfl (by rw [hb1]; rfl) (gF (d0 := 9) rfl rfl (by rw [hb1]; rfl) (gF (d0 := 9) rfl rfl (by rw [hb1]; rfl) (pv (r_pkf rfl hb1 rfl) (pv (r_mb rfl) (gF (d0 := 14) rfl rfl rfl (gF (d0 := 14) rfl rfl rfl (gF (d0 := 14) rfl rfl rfl (pv (r_pkf rfl rfl rfl) (nil (t_thenR [(0, .string ⟨p0.toArray⟩), (2, .pointer (some ⟨b1, 0, none⟩)), (18, .bool false)] ⟨rfl, rfl, rfl, trivial⟩ fun J => ?_))))))))))
    refine cnd (b := false) rfl (fun h => nomatch h) (fun _ => ?_)
    refine skp (t_then ?_)
    refine sq2 ?_
    refine sq2 ?_
    refine rg (pv (r_mt rfl) (pv (r_lnt rfl Try.underlying9) (pv (r_ib rfl rfl rfl) (pv (r_mb rfl) (?_)))))
    rcases Bool.eq_false_or_eq_true (decide (3 ≤ (List.length p0 : Int))) with hb29 | hb29
    · have hm := ctrue hb29 hm
      obtain ⟨u19, hx20, hm⟩ := bindS hm
      refine gT (d0 := 35) rfl rfl hb29 (pv (r_mt rfl) (gT (d0 := 35) rfl rfl hb29 (pv (r_sx rfl rfl hx20 Try.underlying9) (gT (d0 := 35) rfl rfl hb29 (pv (r_ib rfl rfl rfl) (pv (r_pkt rfl hb29 rfl) (pv (r_mb rfl) (?_))))))))
      rcases Bool.eq_false_or_eq_true ((UInt8.toNat u19 : Int) == 39) with hb30 | hb30
      · have hm := ctrue hb30 hm
        obtain ⟨u20, hx21, hm⟩ := bindS hm
        refine gT (d0 := 40) rfl rfl hb30 (pv (r_mt rfl) (gT (d0 := 40) rfl rfl hb30 (pv (r_sx rfl rfl hx21 Try.underlying9) (gT (d0 := 40) rfl rfl hb30 (pv (r_ib rfl rfl rfl) (pv (r_pkt rfl hb30 rfl) (pv (r_mb rfl) (?_))))))))
        rcases Bool.eq_false_or_eq_true (decide (32 ≤ (UInt8.toNat u20 : Int))) with hb31 | hb31
        · have hm := ctrue hb31 hm
          obtain ⟨u21, hx22, hm⟩ := bindS hm
          refine gT (d0 := 45) rfl rfl hb31 (pv (r_mt rfl) (gT (d0 := 45) rfl rfl hb31 (pv (r_sx rfl rfl hx22 Try.underlying9) (gT (d0 := 45) rfl rfl hb31 (pv (r_ib rfl rfl rfl) (pv (r_pkt rfl hb31 rfl) (pv (r_mb rfl) (?_))))))))
          rcases Bool.eq_false_or_eq_true (decide ((UInt8.toNat u21 : Int) ≤ 126)) with hb32 | hb32
          · have hm := ctrue hb32 hm
            obtain ⟨u22, hx23, hm⟩ := bindS hm
            refine gT (d0 := 50) rfl rfl hb32 (pv (r_mt rfl) (gT (d0 := 50) rfl rfl hb32 (pv (r_sx rfl rfl hx23 Try.underlying9) (gT (d0 := 50) rfl rfl hb32 (pv (r_ib rfl rfl rfl) (pv (r_pkt rfl hb32 rfl) (pv (r_mb rfl) (?_))))))))
            rcases Bool.eq_false_or_eq_true ((UInt8.toNat u22 : Int) != 39) with hb33 | hb33
            · have hm := ctrue hb33 hm
              obtain ⟨u23, hx24, hm⟩ := bindS hm
              refine gT (d0 := 55) rfl rfl hb33 (pv (r_mt rfl) (gT (d0 := 55) rfl rfl hb33 (pv (r_sx rfl rfl hx24 Try.underlying9) (gT (d0 := 55) rfl rfl hb33 (pv (r_ib rfl rfl rfl) (pv (r_pkt rfl hb33 rfl) (nil (t_thenR [(0, .string ⟨p0.toArray⟩), (2, .pointer (some ⟨b1, 0, none⟩)), (59, .bool ((UInt8.toNat u23 : Int) != 92))] ⟨rfl, rfl, rfl, trivial⟩ fun J => ?_))))))))
              refine cnd rfl (fun hb34 => ?_) (fun hb34 => ?_)
              · have hm := ctrue hb34 hm
                refine sq2 ?_
                refine rs [0, 0, 0, 0, 0, 0, 2, 0] [0, 1, 2, 3, 4, 5, 6, 7] mix (by kernel_rfl) hS1.lt fun w21 i3 => ?_
                have im21 := i3.imm
                have hS21 := hS1.keep i3 (fun _ h => h)
                obtain ⟨u24, hx25, hm⟩ := bindS hm
                obtain ⟨u25, hx26, hm⟩ := bindS hm
                refine s0 rfl trivial (fun _ => r_mt rfl) rfl (s0 rfl trivial (fun _ => r_ss rfl rfl ⟨_, rfl⟩ hx25 Try.underlying9) rfl (s0 rfl trivial (fun _ => r_mt rfl) rfl (s0 rfl trivial (fun _ => r_sx rfl rfl hx26 Try.underlying9) rfl (s0 rfl trivial (fun _ => r_cv rfl Try.underlying5 Try.underlying31) rfl (s0 rfl trivial (fun _ => r_bd (by kernel_rfl) rfl (u := .agg #[.int .i64 3, .string ⟨u24.toArray⟩, .int .u32 (IntKind.wrap .u32 (UInt8.toNat u25 : Int)), .int .i64 0, .int .i64 0])) rfl (s2 [] rfl trivial rfl (by kernel_rfl) (st0B (q := 0) hS21 ⟨rfl, rfl⟩ rfl rfl rfl Try.sizeOf33 rfl rfl rfl fun w22 im22 hS22 => ?_)))))))
                have hS22 : Sep g T0 w22 [boxA b1 [.int .i64 3, .string ⟨u24.toArray⟩, .int .u32 (IntKind.wrap .u32 (UInt8.toNat u25 : Int)), .int .i64 0, .int .i64 0], R] := hS22
                refine ⟨st0, ?_⟩
                refine s0 rfl trivial (fun _ => r_zi rfl) rfl (se (t_thenR [(2, .pointer (some ⟨b1, 0, none⟩)), (3, .int .i64 0)] ⟨rfl, rfl, trivial⟩ fun J => ?_))
                have hm := Option.some.inj hm
                subst hm
                exact rtn (r_then (retN (vs := [.agg #[.int .i64 3, .string ⟨u24.toArray⟩, .int .u32 (IntKind.wrap .u32 (UInt8.toNat u25 : Int)), .int .i64 0, .int .i64 0], .int .i64 0]) rfl ⟨rvS rfl Try.isAgg33 Try.sizeOf33 rfl (hS22.bx (i := 0) ⟨rfl, rfl⟩), rfl, trivial⟩ rfl ⟨_, rfl, _, (Im.trans im1 (Im.trans im21 im22)), ⟨rfl, hS22.sel [1] rfl, trivial⟩⟩))
              · have hm := cfalse hb34 hm
                refine skp (t_then ?_)
                refine sq2 ?_
                refine rg (pv (r_bd (by kernel_rfl) rfl (u := .agg #[.int .i64 0, .string ⟨([] : List UInt8).toArray⟩, .int .u32 0, .int .i64 0, .int .i64 0])) (wl rfl (st0B (q := 0) hS1 ⟨rfl, rfl⟩ rfl rfl rfl Try.sizeOf33 rfl rfl rfl fun w23 im23 hS23 => ?_)))
                have hS23 : Sep g T0 w23 [boxA b1 [.int .i64 0, .string ⟨([] : List UInt8).toArray⟩, .int .u32 0, .int .i64 0, .int .i64 0], R] := hS23
                refine pv (r_zi rfl) (nil (t_then ?_))
                have hm := Option.some.inj hm
                subst hm
                exact rtn (retN (vs := [.agg #[.int .i64 0, .string ⟨([] : List UInt8).toArray⟩, .int .u32 0, .int .i64 0, .int .i64 0], .int .i64 3]) rfl ⟨rvS rfl Try.isAgg33 Try.sizeOf33 rfl (hS23.bx (i := 0) ⟨rfl, rfl⟩), rfl, trivial⟩ rfl ⟨_, rfl, _, (Im.trans im1 im23), ⟨rfl, hS23.sel [1] rfl, trivial⟩⟩)
            · have hm := cfalse hb33 hm
              refine gF (d0 := 55) rfl rfl (by rw [hb33]; rfl) (gF (d0 := 55) rfl rfl (by rw [hb33]; rfl) (gF (d0 := 55) rfl rfl (by rw [hb33]; rfl) (pv (r_pkf rfl hb33 rfl) (nil (t_thenR [(0, .string ⟨p0.toArray⟩), (2, .pointer (some ⟨b1, 0, none⟩)), (59, .bool false)] ⟨rfl, rfl, rfl, trivial⟩ fun J => ?_)))))
              refine cnd (b := false) rfl (fun h => nomatch h) (fun _ => ?_)
              refine skp (t_then ?_)
              refine sq2 ?_
              refine rg (pv (r_bd (by kernel_rfl) rfl (u := .agg #[.int .i64 0, .string ⟨([] : List UInt8).toArray⟩, .int .u32 0, .int .i64 0, .int .i64 0])) (wl rfl (st0B (q := 0) hS1 ⟨rfl, rfl⟩ rfl rfl rfl Try.sizeOf33 rfl rfl rfl fun w24 im24 hS24 => ?_)))
              have hS24 : Sep g T0 w24 [boxA b1 [.int .i64 0, .string ⟨([] : List UInt8).toArray⟩, .int .u32 0, .int .i64 0, .int .i64 0], R] := hS24
              refine pv (r_zi rfl) (nil (t_then ?_))
              have hm := Option.some.inj hm
              subst hm
              exact rtn (retN (vs := [.agg #[.int .i64 0, .string ⟨([] : List UInt8).toArray⟩, .int .u32 0, .int .i64 0, .int .i64 0], .int .i64 3]) rfl ⟨rvS rfl Try.isAgg33 Try.sizeOf33 rfl (hS24.bx (i := 0) ⟨rfl, rfl⟩), rfl, trivial⟩ rfl ⟨_, rfl, _, (Im.trans im1 im24), ⟨rfl, hS24.sel [1] rfl, trivial⟩⟩)
          · have hm := cfalse hb32 hm
            refine gF (d0 := 50) rfl rfl (by rw [hb32]; rfl) (gF (d0 := 50) rfl rfl (by rw [hb32]; rfl) (gF (d0 := 50) rfl rfl (by rw [hb32]; rfl) (pv (r_pkf rfl hb32 rfl) (pv (r_mb rfl) (gF (d0 := 55) rfl rfl rfl (gF (d0 := 55) rfl rfl rfl (gF (d0 := 55) rfl rfl rfl (pv (r_pkf rfl rfl rfl) (nil (t_thenR [(0, .string ⟨p0.toArray⟩), (2, .pointer (some ⟨b1, 0, none⟩)), (59, .bool false)] ⟨rfl, rfl, rfl, trivial⟩ fun J => ?_))))))))))
            refine cnd (b := false) rfl (fun h => nomatch h) (fun _ => ?_)
            refine skp (t_then ?_)
            refine sq2 ?_
            refine rg (pv (r_bd (by kernel_rfl) rfl (u := .agg #[.int .i64 0, .string ⟨([] : List UInt8).toArray⟩, .int .u32 0, .int .i64 0, .int .i64 0])) (wl rfl (st0B (q := 0) hS1 ⟨rfl, rfl⟩ rfl rfl rfl Try.sizeOf33 rfl rfl rfl fun w25 im25 hS25 => ?_)))
            have hS25 : Sep g T0 w25 [boxA b1 [.int .i64 0, .string ⟨([] : List UInt8).toArray⟩, .int .u32 0, .int .i64 0, .int .i64 0], R] := hS25
            refine pv (r_zi rfl) (nil (t_then ?_))
            have hm := Option.some.inj hm
            subst hm
            exact rtn (retN (vs := [.agg #[.int .i64 0, .string ⟨([] : List UInt8).toArray⟩, .int .u32 0, .int .i64 0, .int .i64 0], .int .i64 3]) rfl ⟨rvS rfl Try.isAgg33 Try.sizeOf33 rfl (hS25.bx (i := 0) ⟨rfl, rfl⟩), rfl, trivial⟩ rfl ⟨_, rfl, _, (Im.trans im1 im25), ⟨rfl, hS25.sel [1] rfl, trivial⟩⟩)
        · have hm := cfalse hb31 hm
          refine gF (d0 := 45) rfl rfl (by rw [hb31]; rfl) (gF (d0 := 45) rfl rfl (by rw [hb31]; rfl) (gF (d0 := 45) rfl rfl (by rw [hb31]; rfl) (pv (r_pkf rfl hb31 rfl) (pv (r_mb rfl) (gF (d0 := 50) rfl rfl rfl (gF (d0 := 50) rfl rfl rfl (gF (d0 := 50) rfl rfl rfl (pv (r_pkf rfl rfl rfl) (pv (r_mb rfl) (gF (d0 := 55) rfl rfl rfl (gF (d0 := 55) rfl rfl rfl (gF (d0 := 55) rfl rfl rfl (pv (r_pkf rfl rfl rfl) (nil (t_thenR [(0, .string ⟨p0.toArray⟩), (2, .pointer (some ⟨b1, 0, none⟩)), (59, .bool false)] ⟨rfl, rfl, rfl, trivial⟩ fun J => ?_)))))))))))))))
          refine cnd (b := false) rfl (fun h => nomatch h) (fun _ => ?_)
          refine skp (t_then ?_)
          refine sq2 ?_
          refine rg (pv (r_bd (by kernel_rfl) rfl (u := .agg #[.int .i64 0, .string ⟨([] : List UInt8).toArray⟩, .int .u32 0, .int .i64 0, .int .i64 0])) (wl rfl (st0B (q := 0) hS1 ⟨rfl, rfl⟩ rfl rfl rfl Try.sizeOf33 rfl rfl rfl fun w26 im26 hS26 => ?_)))
          have hS26 : Sep g T0 w26 [boxA b1 [.int .i64 0, .string ⟨([] : List UInt8).toArray⟩, .int .u32 0, .int .i64 0, .int .i64 0], R] := hS26
          refine pv (r_zi rfl) (nil (t_then ?_))
          have hm := Option.some.inj hm
          subst hm
          exact rtn (retN (vs := [.agg #[.int .i64 0, .string ⟨([] : List UInt8).toArray⟩, .int .u32 0, .int .i64 0, .int .i64 0], .int .i64 3]) rfl ⟨rvS rfl Try.isAgg33 Try.sizeOf33 rfl (hS26.bx (i := 0) ⟨rfl, rfl⟩), rfl, trivial⟩ rfl ⟨_, rfl, _, (Im.trans im1 im26), ⟨rfl, hS26.sel [1] rfl, trivial⟩⟩)
      · have hm := cfalse hb30 hm
        refine gF (d0 := 40) rfl rfl (by rw [hb30]; rfl) (gF (d0 := 40) rfl rfl (by rw [hb30]; rfl) (gF (d0 := 40) rfl rfl (by rw [hb30]; rfl) (pv (r_pkf rfl hb30 rfl) (pv (r_mb rfl) (gF (d0 := 45) rfl rfl rfl (gF (d0 := 45) rfl rfl rfl (gF (d0 := 45) rfl rfl rfl (pv (r_pkf rfl rfl rfl) (pv (r_mb rfl) (gF (d0 := 50) rfl rfl rfl (gF (d0 := 50) rfl rfl rfl (gF (d0 := 50) rfl rfl rfl (pv (r_pkf rfl rfl rfl) (pv (r_mb rfl) (gF (d0 := 55) rfl rfl rfl (gF (d0 := 55) rfl rfl rfl (gF (d0 := 55) rfl rfl rfl (pv (r_pkf rfl rfl rfl) (nil (t_thenR [(0, .string ⟨p0.toArray⟩), (2, .pointer (some ⟨b1, 0, none⟩)), (59, .bool false)] ⟨rfl, rfl, rfl, trivial⟩ fun J => ?_))))))))))))))))))))
        refine cnd (b := false) rfl (fun h => nomatch h) (fun _ => ?_)
        refine skp (t_then ?_)
        refine sq2 ?_
        refine rg (pv (r_bd (by kernel_rfl) rfl (u := .agg #[.int .i64 0, .string ⟨([] : List UInt8).toArray⟩, .int .u32 0, .int .i64 0, .int .i64 0])) (wl rfl (st0B (q := 0) hS1 ⟨rfl, rfl⟩ rfl rfl rfl Try.sizeOf33 rfl rfl rfl fun w27 im27 hS27 => ?_)))
        have hS27 : Sep g T0 w27 [boxA b1 [.int .i64 0, .string ⟨([] : List UInt8).toArray⟩, .int .u32 0, .int .i64 0, .int .i64 0], R] := hS27
        refine pv (r_zi rfl) (nil (t_then ?_))
        have hm := Option.some.inj hm
        subst hm
        exact rtn (retN (vs := [.agg #[.int .i64 0, .string ⟨([] : List UInt8).toArray⟩, .int .u32 0, .int .i64 0, .int .i64 0], .int .i64 3]) rfl ⟨rvS rfl Try.isAgg33 Try.sizeOf33 rfl (hS27.bx (i := 0) ⟨rfl, rfl⟩), rfl, trivial⟩ rfl ⟨_, rfl, _, (Im.trans im1 im27), ⟨rfl, hS27.sel [1] rfl, trivial⟩⟩)
    · have hm := cfalse hb29 hm
      refine gF (d0 := 35) rfl rfl (by rw [hb29]; rfl) (gF (d0 := 35) rfl rfl (by rw [hb29]; rfl) (gF (d0 := 35) rfl rfl (by rw [hb29]; rfl) (pv (r_pkf rfl hb29 rfl) (pv (r_mb rfl) (gF (d0 := 40) rfl rfl rfl (gF (d0 := 40) rfl rfl rfl (gF (d0 := 40) rfl rfl rfl (pv (r_pkf rfl rfl rfl) (pv (r_mb rfl) (gF (d0 := 45) rfl rfl rfl (gF (d0 := 45) rfl rfl rfl (gF (d0 := 45) rfl rfl rfl (pv (r_pkf rfl rfl rfl) (pv (r_mb rfl) (gF (d0 := 50) rfl rfl rfl (gF (d0 := 50) rfl rfl rfl (gF (d0 := 50) rfl rfl rfl (pv (r_pkf rfl rfl rfl) (pv (r_mb rfl) (gF (d0 := 55) rfl rfl rfl (gF (d0 := 55) rfl rfl rfl (gF (d0 := 55) rfl rfl rfl (pv (r_pkf rfl rfl rfl) (nil (t_thenR [(0, .string ⟨p0.toArray⟩), (2, .pointer (some ⟨b1, 0, none⟩)), (59, .bool false)] ⟨rfl, rfl, rfl, trivial⟩ fun J => ?_)))))))))))))))))))))))))
      refine cnd (b := false) rfl (fun h => nomatch h) (fun _ => ?_)
      refine skp (t_then ?_)
      refine sq2 ?_
      refine rg (pv (r_bd (by kernel_rfl) rfl (u := .agg #[.int .i64 0, .string ⟨([] : List UInt8).toArray⟩, .int .u32 0, .int .i64 0, .int .i64 0])) (wl rfl (st0B (q := 0) hS1 ⟨rfl, rfl⟩ rfl rfl rfl Try.sizeOf33 rfl rfl rfl fun w28 im28 hS28 => ?_)))
      have hS28 : Sep g T0 w28 [boxA b1 [.int .i64 0, .string ⟨([] : List UInt8).toArray⟩, .int .u32 0, .int .i64 0, .int .i64 0], R] := hS28
      refine pv (r_zi rfl) (nil (t_then ?_))
      have hm := Option.some.inj hm
      subst hm
      exact rtn (retN (vs := [.agg #[.int .i64 0, .string ⟨([] : List UInt8).toArray⟩, .int .u32 0, .int .i64 0, .int .i64 0], .int .i64 3]) rfl ⟨rvS rfl Try.isAgg33 Try.sizeOf33 rfl (hS28.bx (i := 0) ⟨rfl, rfl⟩), rfl, trivial⟩ rfl ⟨_, rfl, _, (Im.trans im1 im28), ⟨rfl, hS28.sel [1] rfl, trivial⟩⟩)

set_option maxRecDepth 100000 in
set_option maxHeartbeats 1000000 in
theorem lex_mark_sim {g : World} {T0 : Nat → Prop} {w0 : World} {R : Assn} {p0 : List UInt8} {r : (List UInt8)} (hS : Sep g T0 w0 [R])  (hm : lex_mark p0 = some r) :
    Calls Try.prog 30 #[.string ⟨p0.toArray⟩] w0 (RetS T0 w0 fun T w v => v = .string ⟨r.toArray⟩ ∧ Sep g T w [R] ∧ True) := by
  refine enter (args := [.string ⟨p0.toArray⟩]) Try.func30 rfl Try.ntmps30 rfl fun J => ?_
  unfold lex_mark at hm
  refine sq2 ?_
  refine rg (pv (r_zt rfl) (nil (t_then ?_)))
  refine sq2 ?_
  refine rg (pv (r_bd (by kernel_rfl) rfl (u := .agg #[.string ⟨([60, 60, 61] : List UInt8).toArray⟩, .string ⟨([62, 62, 61] : List UInt8).toArray⟩, .string ⟨([45, 62] : List UInt8).toArray⟩, .string ⟨([43, 43] : List UInt8).toArray⟩, .string ⟨([45, 45] : List UInt8).toArray⟩, .string ⟨([60, 60] : List UInt8).toArray⟩, .string ⟨([62, 62] : List UInt8).toArray⟩, .string ⟨([60, 61] : List UInt8).toArray⟩, .string ⟨([62, 61] : List UInt8).toArray⟩, .string ⟨([61, 61] : List UInt8).toArray⟩, .string ⟨([33, 61] : List UInt8).toArray⟩, .string ⟨([38, 38] : List UInt8).toArray⟩, .string ⟨([124, 124] : List UInt8).toArray⟩, .string ⟨([43, 61] : List UInt8).toArray⟩, .string ⟨([45, 61] : List UInt8).toArray⟩, .string ⟨([42, 61] : List UInt8).toArray⟩, .string ⟨([47, 61] : List UInt8).toArray⟩, .string ⟨([37, 61] : List UInt8).toArray⟩, .string ⟨([38, 61] : List UInt8).toArray⟩, .string ⟨([124, 61] : List UInt8).toArray⟩, .string ⟨([94, 61] : List UInt8).toArray⟩, .string ⟨([43] : List UInt8).toArray⟩, .string ⟨([45] : List UInt8).toArray⟩, .string ⟨([42] : List UInt8).toArray⟩, .string ⟨([47] : List UInt8).toArray⟩, .string ⟨([37] : List UInt8).toArray⟩, .string ⟨([38] : List UInt8).toArray⟩, .string ⟨([124] : List UInt8).toArray⟩, .string ⟨([94] : List UInt8).toArray⟩, .string ⟨([126] : List UInt8).toArray⟩, .string ⟨([33] : List UInt8).toArray⟩, .string ⟨([60] : List UInt8).toArray⟩, .string ⟨([62] : List UInt8).toArray⟩, .string ⟨([61] : List UInt8).toArray⟩, .string ⟨([63] : List UInt8).toArray⟩, .string ⟨([58] : List UInt8).toArray⟩, .string ⟨([59] : List UInt8).toArray⟩, .string ⟨([44] : List UInt8).toArray⟩, .string ⟨([46] : List UInt8).toArray⟩, .string ⟨([40] : List UInt8).toArray⟩, .string ⟨([41] : List UInt8).toArray⟩, .string ⟨([91] : List UInt8).toArray⟩, .string ⟨([93] : List UInt8).toArray⟩, .string ⟨([123] : List UInt8).toArray⟩, .string ⟨([125] : List UInt8).toArray⟩])) (wl rfl (alS (zs := [.string ⟨([] : List UInt8).toArray⟩, .string ⟨([] : List UInt8).toArray⟩, .string ⟨([] : List UInt8).toArray⟩, .string ⟨([] : List UInt8).toArray⟩, .string ⟨([] : List UInt8).toArray⟩, .string ⟨([] : List UInt8).toArray⟩, .string ⟨([] : List UInt8).toArray⟩, .string ⟨([] : List UInt8).toArray⟩, .string ⟨([] : List UInt8).toArray⟩, .string ⟨([] : List UInt8).toArray⟩, .string ⟨([] : List UInt8).toArray⟩, .string ⟨([] : List UInt8).toArray⟩, .string ⟨([] : List UInt8).toArray⟩, .string ⟨([] : List UInt8).toArray⟩, .string ⟨([] : List UInt8).toArray⟩, .string ⟨([] : List UInt8).toArray⟩, .string ⟨([] : List UInt8).toArray⟩, .string ⟨([] : List UInt8).toArray⟩, .string ⟨([] : List UInt8).toArray⟩, .string ⟨([] : List UInt8).toArray⟩, .string ⟨([] : List UInt8).toArray⟩, .string ⟨([] : List UInt8).toArray⟩, .string ⟨([] : List UInt8).toArray⟩, .string ⟨([] : List UInt8).toArray⟩, .string ⟨([] : List UInt8).toArray⟩, .string ⟨([] : List UInt8).toArray⟩, .string ⟨([] : List UInt8).toArray⟩, .string ⟨([] : List UInt8).toArray⟩, .string ⟨([] : List UInt8).toArray⟩, .string ⟨([] : List UInt8).toArray⟩, .string ⟨([] : List UInt8).toArray⟩, .string ⟨([] : List UInt8).toArray⟩, .string ⟨([] : List UInt8).toArray⟩, .string ⟨([] : List UInt8).toArray⟩, .string ⟨([] : List UInt8).toArray⟩, .string ⟨([] : List UInt8).toArray⟩, .string ⟨([] : List UInt8).toArray⟩, .string ⟨([] : List UInt8).toArray⟩, .string ⟨([] : List UInt8).toArray⟩, .string ⟨([] : List UInt8).toArray⟩, .string ⟨([] : List UInt8).toArray⟩, .string ⟨([] : List UInt8).toArray⟩, .string ⟨([] : List UInt8).toArray⟩, .string ⟨([] : List UInt8).toArray⟩, .string ⟨([] : List UInt8).toArray⟩]) Try.zeroValue64 rfl hS fun w1 b1 im1 hS1 => ?_)))
  refine wl rfl (st0B (q := 0) hS1 ⟨rfl, rfl⟩ rfl rfl rfl Try.sizeOf64 rfl rfl rfl fun w2 im2 hS2 => ?_)
  have hS2 : Sep g T0 w2 [boxA b1 [.string ⟨([60, 60, 61] : List UInt8).toArray⟩, .string ⟨([62, 62, 61] : List UInt8).toArray⟩, .string ⟨([45, 62] : List UInt8).toArray⟩, .string ⟨([43, 43] : List UInt8).toArray⟩, .string ⟨([45, 45] : List UInt8).toArray⟩, .string ⟨([60, 60] : List UInt8).toArray⟩, .string ⟨([62, 62] : List UInt8).toArray⟩, .string ⟨([60, 61] : List UInt8).toArray⟩, .string ⟨([62, 61] : List UInt8).toArray⟩, .string ⟨([61, 61] : List UInt8).toArray⟩, .string ⟨([33, 61] : List UInt8).toArray⟩, .string ⟨([38, 38] : List UInt8).toArray⟩, .string ⟨([124, 124] : List UInt8).toArray⟩, .string ⟨([43, 61] : List UInt8).toArray⟩, .string ⟨([45, 61] : List UInt8).toArray⟩, .string ⟨([42, 61] : List UInt8).toArray⟩, .string ⟨([47, 61] : List UInt8).toArray⟩, .string ⟨([37, 61] : List UInt8).toArray⟩, .string ⟨([38, 61] : List UInt8).toArray⟩, .string ⟨([124, 61] : List UInt8).toArray⟩, .string ⟨([94, 61] : List UInt8).toArray⟩, .string ⟨([43] : List UInt8).toArray⟩, .string ⟨([45] : List UInt8).toArray⟩, .string ⟨([42] : List UInt8).toArray⟩, .string ⟨([47] : List UInt8).toArray⟩, .string ⟨([37] : List UInt8).toArray⟩, .string ⟨([38] : List UInt8).toArray⟩, .string ⟨([124] : List UInt8).toArray⟩, .string ⟨([94] : List UInt8).toArray⟩, .string ⟨([126] : List UInt8).toArray⟩, .string ⟨([33] : List UInt8).toArray⟩, .string ⟨([60] : List UInt8).toArray⟩, .string ⟨([62] : List UInt8).toArray⟩, .string ⟨([61] : List UInt8).toArray⟩, .string ⟨([63] : List UInt8).toArray⟩, .string ⟨([58] : List UInt8).toArray⟩, .string ⟨([59] : List UInt8).toArray⟩, .string ⟨([44] : List UInt8).toArray⟩, .string ⟨([46] : List UInt8).toArray⟩, .string ⟨([40] : List UInt8).toArray⟩, .string ⟨([41] : List UInt8).toArray⟩, .string ⟨([91] : List UInt8).toArray⟩, .string ⟨([93] : List UInt8).toArray⟩, .string ⟨([123] : List UInt8).toArray⟩, .string ⟨([125] : List UInt8).toArray⟩], R] := hS2
  refine nil (t_then ?_)
  refine sq2 ?_
  refine sq2 ?_
  refine rg (pv (r_ldS rfl Try.isAgg64 Try.sizeOf64 rfl (hS2.cells0 (i := 0) ⟨rfl, rfl⟩ (o := 0) rfl) (cs := [.string ⟨([60, 60, 61] : List UInt8).toArray⟩, .string ⟨([62, 62, 61] : List UInt8).toArray⟩, .string ⟨([45, 62] : List UInt8).toArray⟩, .string ⟨([43, 43] : List UInt8).toArray⟩, .string ⟨([45, 45] : List UInt8).toArray⟩, .string ⟨([60, 60] : List UInt8).toArray⟩, .string ⟨([62, 62] : List UInt8).toArray⟩, .string ⟨([60, 61] : List UInt8).toArray⟩, .string ⟨([62, 61] : List UInt8).toArray⟩, .string ⟨([61, 61] : List UInt8).toArray⟩, .string ⟨([33, 61] : List UInt8).toArray⟩, .string ⟨([38, 38] : List UInt8).toArray⟩, .string ⟨([124, 124] : List UInt8).toArray⟩, .string ⟨([43, 61] : List UInt8).toArray⟩, .string ⟨([45, 61] : List UInt8).toArray⟩, .string ⟨([42, 61] : List UInt8).toArray⟩, .string ⟨([47, 61] : List UInt8).toArray⟩, .string ⟨([37, 61] : List UInt8).toArray⟩, .string ⟨([38, 61] : List UInt8).toArray⟩, .string ⟨([124, 61] : List UInt8).toArray⟩, .string ⟨([94, 61] : List UInt8).toArray⟩, .string ⟨([43] : List UInt8).toArray⟩, .string ⟨([45] : List UInt8).toArray⟩, .string ⟨([42] : List UInt8).toArray⟩, .string ⟨([47] : List UInt8).toArray⟩, .string ⟨([37] : List UInt8).toArray⟩, .string ⟨([38] : List UInt8).toArray⟩, .string ⟨([124] : List UInt8).toArray⟩, .string ⟨([94] : List UInt8).toArray⟩, .string ⟨([126] : List UInt8).toArray⟩, .string ⟨([33] : List UInt8).toArray⟩, .string ⟨([60] : List UInt8).toArray⟩, .string ⟨([62] : List UInt8).toArray⟩, .string ⟨([61] : List UInt8).toArray⟩, .string ⟨([63] : List UInt8).toArray⟩, .string ⟨([58] : List UInt8).toArray⟩, .string ⟨([59] : List UInt8).toArray⟩, .string ⟨([44] : List UInt8).toArray⟩, .string ⟨([46] : List UInt8).toArray⟩, .string ⟨([40] : List UInt8).toArray⟩, .string ⟨([41] : List UInt8).toArray⟩, .string ⟨([91] : List UInt8).toArray⟩, .string ⟨([93] : List UInt8).toArray⟩, .string ⟨([123] : List UInt8).toArray⟩, .string ⟨([125] : List UInt8).toArray⟩])) (pv (r_mi rfl) (nil (t_then ?_))))
  obtain ⟨o1, ho1, hq1⟩ := bindS hm
  obtain ⟨bd1, hbd1, ho1⟩ := loop_open ho1
  refine blk (wp_loop_ghost (fun m a w3 => ∃ (J : Nat → Value) (T1 : Nat → Prop) (x1 : Int), a = env (nf 16) J [(0, .string ⟨p0.toArray⟩), (7, .agg #[.string ⟨([60, 60, 61] : List UInt8).toArray⟩, .string ⟨([62, 62, 61] : List UInt8).toArray⟩, .string ⟨([45, 62] : List UInt8).toArray⟩, .string ⟨([43, 43] : List UInt8).toArray⟩, .string ⟨([45, 45] : List UInt8).toArray⟩, .string ⟨([60, 60] : List UInt8).toArray⟩, .string ⟨([62, 62] : List UInt8).toArray⟩, .string ⟨([60, 61] : List UInt8).toArray⟩, .string ⟨([62, 61] : List UInt8).toArray⟩, .string ⟨([61, 61] : List UInt8).toArray⟩, .string ⟨([33, 61] : List UInt8).toArray⟩, .string ⟨([38, 38] : List UInt8).toArray⟩, .string ⟨([124, 124] : List UInt8).toArray⟩, .string ⟨([43, 61] : List UInt8).toArray⟩, .string ⟨([45, 61] : List UInt8).toArray⟩, .string ⟨([42, 61] : List UInt8).toArray⟩, .string ⟨([47, 61] : List UInt8).toArray⟩, .string ⟨([37, 61] : List UInt8).toArray⟩, .string ⟨([38, 61] : List UInt8).toArray⟩, .string ⟨([124, 61] : List UInt8).toArray⟩, .string ⟨([94, 61] : List UInt8).toArray⟩, .string ⟨([43] : List UInt8).toArray⟩, .string ⟨([45] : List UInt8).toArray⟩, .string ⟨([42] : List UInt8).toArray⟩, .string ⟨([47] : List UInt8).toArray⟩, .string ⟨([37] : List UInt8).toArray⟩, .string ⟨([38] : List UInt8).toArray⟩, .string ⟨([124] : List UInt8).toArray⟩, .string ⟨([94] : List UInt8).toArray⟩, .string ⟨([126] : List UInt8).toArray⟩, .string ⟨([33] : List UInt8).toArray⟩, .string ⟨([60] : List UInt8).toArray⟩, .string ⟨([62] : List UInt8).toArray⟩, .string ⟨([61] : List UInt8).toArray⟩, .string ⟨([63] : List UInt8).toArray⟩, .string ⟨([58] : List UInt8).toArray⟩, .string ⟨([59] : List UInt8).toArray⟩, .string ⟨([44] : List UInt8).toArray⟩, .string ⟨([46] : List UInt8).toArray⟩, .string ⟨([40] : List UInt8).toArray⟩, .string ⟨([41] : List UInt8).toArray⟩, .string ⟨([91] : List UInt8).toArray⟩, .string ⟨([93] : List UInt8).toArray⟩, .string ⟨([123] : List UInt8).toArray⟩, .string ⟨([125] : List UInt8).toArray⟩]), (8, .int .i64 x1)] ∧ Im T0 w2 T1 w3 ∧ Sep g T1 w3 [R] ∧ loopM bd1 m x1 = some o1) NN ⟨_, _, 0, env_has ⟨rfl, rfl, rfl, trivial⟩, Im.refl, hS2.sel [1] rfl, ho1⟩ ?_)
  rintro m _ w3 ⟨J, T1, x1, rfl, im3, hS3, ho1⟩
  obtain ⟨m1, z1, rfl, hm, hn1⟩ := loop_round ho1
  rw [hbd1] at hm
  refine sq2 ?_
  refine rg (pv (r_ib rfl rfl rfl) (nil (t_then ?_)))
  refine sq2 ?_
  refine cnd rfl (fun hb1 => ?_) (fun hb1 => ?_)
  · have hm := ctrue hb1 hm
    refine skp (t_then ?_)
    refine sq2 ?_
    refine blk ?_
    refine sq2 ?_
    obtain ⟨u1, hx1, hm⟩ := bindS hm
    refine rg (pv (r_axi rfl rfl (idx_map (fun z : List UInt8 => Value.string ⟨z.toArray⟩) hx1) rfl Try.underlying64 Try.sizeOf9 Try.isAgg9) (pv (r_zt rfl) (nil (t_then ?_))))
    refine sq2 ?_
    obtain ⟨y1, hx2, hm⟩ := bindS hm
    refine rg (pv (r_mt rfl) (pv (r_mt rfl) (wl rfl (calS cf21 rfl (strings_HasPrefix_sim (p0 := p0) (p1 := u1) (hS3.bun [0] [] rfl)  hx2) rfl fun v1 T2 w4 im4 rv1 => ?_))))
    obtain ⟨rfl, hS4, _⟩ := rv1
    have hS4 : Sep g T2 w4 [R] := hS4.unb
    refine nil (t_then ?_)
    refine cnd rfl (fun hb2 => ?_) (fun hb2 => ?_)
    · have hm := ctrue hb2 hm
      refine sq2 ?_
      refine rg (pv (r_mt rfl) (pv (r_zt rfl) (nil (t_thenR [(2, .string ⟨u1.toArray⟩)] ⟨rfl, trivial⟩ fun J => ?_))))
      have hm := Option.some.inj hm
      subst hm
      have hn1 : _ = Lp.ret _ := hn1
      subst hn1
      have hm := thn_ret hq1
      have hm := Option.some.inj hm
      subst hm
      exact rtn (r_blk (r_then (r_then (r_blk (r_then (ret1 rfl rfl ⟨_, rfl, _, (Im.trans im1 (Im.trans im2 (Im.trans im3 im4))), ⟨rfl, hS4.sel [0] rfl, trivial⟩⟩))))))
    · have hm := cfalse hb2 hm
      refine skp (t_blk (t_thenR [(0, .string ⟨p0.toArray⟩), (7, .agg #[.string ⟨([60, 60, 61] : List UInt8).toArray⟩, .string ⟨([62, 62, 61] : List UInt8).toArray⟩, .string ⟨([45, 62] : List UInt8).toArray⟩, .string ⟨([43, 43] : List UInt8).toArray⟩, .string ⟨([45, 45] : List UInt8).toArray⟩, .string ⟨([60, 60] : List UInt8).toArray⟩, .string ⟨([62, 62] : List UInt8).toArray⟩, .string ⟨([60, 61] : List UInt8).toArray⟩, .string ⟨([62, 61] : List UInt8).toArray⟩, .string ⟨([61, 61] : List UInt8).toArray⟩, .string ⟨([33, 61] : List UInt8).toArray⟩, .string ⟨([38, 38] : List UInt8).toArray⟩, .string ⟨([124, 124] : List UInt8).toArray⟩, .string ⟨([43, 61] : List UInt8).toArray⟩, .string ⟨([45, 61] : List UInt8).toArray⟩, .string ⟨([42, 61] : List UInt8).toArray⟩, .string ⟨([47, 61] : List UInt8).toArray⟩, .string ⟨([37, 61] : List UInt8).toArray⟩, .string ⟨([38, 61] : List UInt8).toArray⟩, .string ⟨([124, 61] : List UInt8).toArray⟩, .string ⟨([94, 61] : List UInt8).toArray⟩, .string ⟨([43] : List UInt8).toArray⟩, .string ⟨([45] : List UInt8).toArray⟩, .string ⟨([42] : List UInt8).toArray⟩, .string ⟨([47] : List UInt8).toArray⟩, .string ⟨([37] : List UInt8).toArray⟩, .string ⟨([38] : List UInt8).toArray⟩, .string ⟨([124] : List UInt8).toArray⟩, .string ⟨([94] : List UInt8).toArray⟩, .string ⟨([126] : List UInt8).toArray⟩, .string ⟨([33] : List UInt8).toArray⟩, .string ⟨([60] : List UInt8).toArray⟩, .string ⟨([62] : List UInt8).toArray⟩, .string ⟨([61] : List UInt8).toArray⟩, .string ⟨([63] : List UInt8).toArray⟩, .string ⟨([58] : List UInt8).toArray⟩, .string ⟨([59] : List UInt8).toArray⟩, .string ⟨([44] : List UInt8).toArray⟩, .string ⟨([46] : List UInt8).toArray⟩, .string ⟨([40] : List UInt8).toArray⟩, .string ⟨([41] : List UInt8).toArray⟩, .string ⟨([91] : List UInt8).toArray⟩, .string ⟨([93] : List UInt8).toArray⟩, .string ⟨([123] : List UInt8).toArray⟩, .string ⟨([125] : List UInt8).toArray⟩]), (8, .int .i64 x1)] ⟨rfl, rfl, rfl, trivial⟩ fun J => ?_))
      have hm := Option.some.inj hm
      subst hm
      exact rg (pv (r_ib rfl rfl rfl) (pv (r_mi rfl) (nil (t_then ⟨m1, Nat.lt_succ_self _, _, _, (IntKind.wrap .i64 (x1 + 1)), env_has ⟨rfl, rfl, rfl, trivial⟩, (Im.trans im3 im4), hS4.sel [0] rfl, hn1⟩))))
  · have hm := cfalse hb1 hm
    have hm := Option.some.inj hm
    subst hm
    have hn1 : _ = Lp.brk _ := hn1
    subst hn1
    have hm := thn_brk hq1
    refine xt (x_then (x_then (x_eq (t_then ?_))))
    refine sq2 ?_
    refine rg (pv (r_zt rfl) (nil (t_then ?_)))
    have hm := Option.some.inj hm
    subst hm
    exact rtn (ret1 rfl rfl ⟨_, rfl, _, (Im.trans im1 (Im.trans im2 im3)), ⟨rfl, hS3.sel [0] rfl, trivial⟩⟩)

set_option maxRecDepth 100000 in
set_option maxHeartbeats 1000000 in
theorem lex_token_sim {g : World} {T0 : Nat → Prop} {w0 : World} {R : Assn} {p0 : List UInt8} {r : GToken × Int} (hS : Sep g T0 w0 [R])  (hm : lex_token p0 = some r) :
    Calls Try.prog 16 #[.string ⟨p0.toArray⟩] w0 (RetS T0 w0 fun T w v => v = .tuple #[.agg #[.int .i64 r.1.Kind, .string ⟨r.1.Text.toArray⟩, .int .u32 r.1.Num, .int .i64 r.1.Pos.Line, .int .i64 r.1.Pos.Col], .int .i64 r.2] ∧ Sep g T w [R] ∧ True) := by
  refine enter (args := [.string ⟨p0.toArray⟩]) Try.func16 rfl Try.ntmps16 rfl fun J => ?_
  unfold lex_token at hm
  refine sq2 ?_
  refine rg (wl rfl (alS (zs := [.int .i64 0, .string ⟨([] : List UInt8).toArray⟩, .int .u32 0, .int .i64 0, .int .i64 0]) Try.zeroValue33 rfl hS fun w1 b1 im1 hS1 => ?_))
  refine pv (r_zi rfl) (nil (t_then ?_))
  refine sq2 ?_
  refine blk ?_
  refine sq2 ?_
  obtain ⟨u1, hx1, hm⟩ := bindS hm
  obtain ⟨y1, hx2, hm⟩ := bindS hm
  refine rg (pv (r_mt rfl) (pv (r_sx rfl rfl hx1 Try.underlying9) (wl rfl (calS cf25 rfl (lex_letter_sim (p0 := (UInt8.toNat u1 : Int)) (hS1.bun [0, 1] [] rfl)  hx2) rfl fun v1 T1 w2 im2 rv1 => ?_))))
  obtain ⟨rfl, hS2, _⟩ := rv1
  have hS2 : Sep g T1 w2 [boxA b1 [.int .i64 0, .string ⟨([] : List UInt8).toArray⟩, .int .u32 0, .int .i64 0, .int .i64 0], R] := hS2.unb
  refine pv (r_zb rfl) (nil (t_then ?_))
  refine cnd rfl (fun hb1 => ?_) (fun hb1 => ?_)
  · have hm := ctrue hb1 hm
    refine sq2 ?_
    obtain ⟨y2, hx3, hm⟩ := bindS hm
    refine rg (pv (r_mt rfl) (wl rfl (calS cf23 rfl (lex_span_2_sim (p0 := p0) (hS2.bun [0, 1] [] rfl)  hx3) rfl fun v2 T2 w3 im3 rv2 => ?_)))
    obtain ⟨rfl, hS3, _⟩ := rv2
    have hS3 : Sep g T2 w3 [boxA b1 [.int .i64 0, .string ⟨([] : List UInt8).toArray⟩, .int .u32 0, .int .i64 0, .int .i64 0], R] := hS3.unb
    refine pv (r_zi rfl) (nil (t_thenR [(0, .string ⟨p0.toArray⟩), (2, .pointer (some ⟨b1, 0, none⟩)), (4, .int .i64 y2)] ⟨rfl, rfl, rfl, trivial⟩ fun J => ?_))
    refine sq2 ?_
    obtain ⟨u2, hx4, hm⟩ := bindS hm
    refine rg (pv (r_mt rfl) (pv (r_mi rfl) (pv (r_ss rfl rfl ⟨_, rfl⟩ hx4 Try.underlying9) (pv (r_bd (by kernel_rfl) rfl (u := .agg #[.int .i64 1, .string ⟨u2.toArray⟩, .int .u32 0, .int .i64 0, .int .i64 0])) (wl rfl (alS (zs := [.int .i64 0, .string ⟨([] : List UInt8).toArray⟩, .int .u32 0, .int .i64 0, .int .i64 0]) Try.zeroValue33 rfl hS3 fun w4 b2 im4 hS4 => ?_))))))
    refine wl rfl (st0B (q := 0) hS4 ⟨rfl, rfl⟩ rfl rfl rfl Try.sizeOf33 rfl rfl rfl fun w5 im5 hS5 => ?_)
    have hS5 : Sep g T2 w5 [boxA b2 [.int .i64 1, .string ⟨u2.toArray⟩, .int .u32 0, .int .i64 0, .int .i64 0], boxA b1 [.int .i64 0, .string ⟨([] : List UInt8).toArray⟩, .int .u32 0, .int .i64 0, .int .i64 0], R] := hS5
    refine nil (t_thenR [(2, .pointer (some ⟨b1, 0, none⟩)), (4, .int .i64 y2), (5, .pointer (some ⟨b2, 0, none⟩))] ⟨rfl, rfl, rfl, trivial⟩ fun J => ?_)
    refine sq2 ?_
    refine sq2 ?_
    refine rg (pv (r_mi rfl) (pv (r_ib rfl rfl rfl) (nil (t_then ?_))))
    refine cnd rfl (fun hb2 => ?_) (fun hb2 => ?_)
    · have hm := ctrue hb2 hm
      refine sq2 ?_
      refine rg (pv (r_ldS rfl Try.isAgg33 Try.sizeOf33 rfl (hS5.cells0 (i := 0) ⟨rfl, rfl⟩ (o := 0) rfl) (cs := [.int .i64 1, .string ⟨u2.toArray⟩, .int .u32 0, .int .i64 0, .int .i64 0])) (wl rfl (st0B (q := 1) hS5 ⟨rfl, rfl⟩ rfl rfl rfl Try.sizeOf33 rfl rfl rfl fun w6 im6 hS6 => ?_)))
      have hS6 : Sep g T2 w6 [boxA b2 [.int .i64 1, .string ⟨u2.toArray⟩, .int .u32 0, .int .i64 0, .int .i64 0], boxA b1 [.int .i64 1, .string ⟨u2.toArray⟩, .int .u32 0, .int .i64 0, .int .i64 0], R] := hS6
      refine pv (r_zi rfl) (nil (t_thenR [(2, .pointer (some ⟨b1, 0, none⟩)), (3, .int .i64 2)] ⟨rfl, rfl, trivial⟩ fun J => ?_))
      have hm := Option.some.inj hm
      subst hm
      exact rtn (r_then (r_blk (r_then (retN (vs := [.agg #[.int .i64 1, .string ⟨u2.toArray⟩, .int .u32 0, .int .i64 0, .int .i64 0], .int .i64 2]) rfl ⟨rvS rfl Try.isAgg33 Try.sizeOf33 rfl (hS6.bx (i := 1) ⟨rfl, rfl⟩), rfl, trivial⟩ rfl ⟨_, rfl, _, (Im.trans im1 (Im.trans im2 (Im.trans im3 (Im.trans im4 (Im.trans im5 im6))))), ⟨rfl, hS6.sel [2] rfl, trivial⟩⟩))))
    · have hm := cfalse hb2 hm
      refine skp (t_then ?_)
      obtain ⟨kk1, hkk1, hm⟩ := jn_open hm
      refine cut (fun a w7 => ∃ (J : Nat → Value) (T3 : Nat → Prop) (x1 : GToken), a = env (nf 48) J [(2, .pointer (some ⟨b1, 0, none⟩)), (5, .pointer (some ⟨b2, 0, none⟩))] ∧ Im T2 w5 T3 w7 ∧ Sep g T3 w7 [boxA b2 [.int .i64 x1.Kind, .string ⟨x1.Text.toArray⟩, .int .u32 x1.Num, .int .i64 x1.Pos.Line, .int .i64 x1.Pos.Col], boxA b1 [.int .i64 0, .string ⟨([] : List UInt8).toArray⟩, .int .u32 0, .int .i64 0, .int .i64 0], R] ∧ kk1 x1 = some r) ?_ ?_
      · refine sq2 ?_
        obtain ⟨y3, hx5, hm⟩ := bindS hm
        refine rg (pv (r_fa rfl Try.underlying33 rfl Try.sizeOf9 rfl) (pv (r_ld rfl Try.isAgg9 (hS5.cell0 (i := 0) ⟨rfl, rfl⟩ (j := 1) rfl)) (wl rfl (calS cf9 rfl (lex_Word_sim (p0 := u2) (hS5.bun [0, 1, 2] [] rfl)  hx5) rfl fun v3 T4 w8 im8 rv3 => ?_))))
        obtain ⟨rfl, hS7, _⟩ := rv3
        have hS7 : Sep g T4 w8 [boxA b2 [.int .i64 1, .string ⟨u2.toArray⟩, .int .u32 0, .int .i64 0, .int .i64 0], boxA b1 [.int .i64 0, .string ⟨([] : List UInt8).toArray⟩, .int .u32 0, .int .i64 0, .int .i64 0], R] := hS7.unb
        refine nil (t_thenR [(2, .pointer (some ⟨b1, 0, none⟩)), (5, .pointer (some ⟨b2, 0, none⟩)), (22, .bool y3)] ⟨rfl, rfl, rfl, trivial⟩ fun J => ?_)
        refine cnd rfl (fun hb3 => ?_) (fun hb3 => ?_)
        · have hm := ctrue hb3 hm
          refine rg (pv (r_fa rfl Try.underlying33 rfl Try.sizeOf3 rfl) (wl rfl (st0B (q := 0) hS7 ⟨rfl, rfl⟩ rfl rfl rfl Try.sizeOf3 rfl rfl rfl fun w9 im9 hS8 => ?_)))
          have hS8 : Sep g T4 w9 [boxA b2 [.int .i64 2, .string ⟨u2.toArray⟩, .int .u32 0, .int .i64 0, .int .i64 0], boxA b1 [.int .i64 0, .string ⟨([] : List UInt8).toArray⟩, .int .u32 0, .int .i64 0, .int .i64 0], R] := hS8
          exact nil (t_then ⟨_, _, (⟨2, u2, 0, (⟨0, 0⟩ : Pos)⟩ : GToken), env_has ⟨rfl, rfl, trivial⟩, (Im.trans im8 im9), hS8.sel [0, 1, 2] rfl, hm⟩)
        · have hm := cfalse hb3 hm
          exact skp (t_then ⟨_, _, (⟨1, u2, 0, (⟨0, 0⟩ : Pos)⟩ : GToken), env_has ⟨rfl, rfl, trivial⟩, im8, hS7.sel [0, 1, 2] rfl, hm⟩)
      · rintro _ w7 ⟨J, T3, x1, rfl, im7, hS9, hm⟩
        rw [hkk1] at hm
        refine sq2 ?_
        refine rg (pv (r_ldS rfl Try.isAgg33 Try.sizeOf33 rfl (hS9.cells0 (i := 0) ⟨rfl, rfl⟩ (o := 0) rfl) (cs := [.int .i64 x1.Kind, .string ⟨x1.Text.toArray⟩, .int .u32 x1.Num, .int .i64 x1.Pos.Line, .int .i64 x1.Pos.Col])) (wl rfl (st0B (q := 1) hS9 ⟨rfl, rfl⟩ rfl rfl rfl Try.sizeOf33 rfl rfl rfl fun w10 im10 hS10 => ?_)))
        have hS10 : Sep g T3 w10 [boxA b2 [.int .i64 x1.Kind, .string ⟨x1.Text.toArray⟩, .int .u32 x1.Num, .int .i64 x1.Pos.Line, .int .i64 x1.Pos.Col], boxA b1 [.int .i64 x1.Kind, .string ⟨x1.Text.toArray⟩, .int .u32 x1.Num, .int .i64 x1.Pos.Line, .int .i64 x1.Pos.Col], R] := hS10
        refine pv (r_zi rfl) (nil (t_then ?_))
        have hm := Option.some.inj hm
        subst hm
        exact rtn (r_blk (r_then (retN (vs := [.agg #[.int .i64 x1.Kind, .string ⟨x1.Text.toArray⟩, .int .u32 x1.Num, .int .i64 x1.Pos.Line, .int .i64 x1.Pos.Col], .int .i64 0]) rfl ⟨rvS rfl Try.isAgg33 Try.sizeOf33 rfl (hS10.bx (i := 1) ⟨rfl, rfl⟩), rfl, trivial⟩ rfl ⟨_, rfl, _, (Im.trans im1 (Im.trans im2 (Im.trans im3 (Im.trans im4 (Im.trans im5 (Im.trans im7 im10)))))), ⟨rfl, hS10.sel [2] rfl, trivial⟩⟩)))
  · have hm := cfalse hb1 hm
    refine sq2 ?_
    obtain ⟨u3, hx6, hm⟩ := bindS hm
    obtain ⟨y4, hx7, hm⟩ := bindS hm
    refine rg (pv (r_mt rfl) (pv (r_sx rfl rfl hx6 Try.underlying9) (wl rfl (calS cf27 rfl (lex_digit_sim (p0 := (UInt8.toNat u3 : Int)) (hS2.bun [0, 1] [] rfl)  hx7) rfl fun v4 T5 w11 im11 rv4 => ?_))))
    obtain ⟨rfl, hS11, _⟩ := rv4
    have hS11 : Sep g T5 w11 [boxA b1 [.int .i64 0, .string ⟨([] : List UInt8).toArray⟩, .int .u32 0, .int .i64 0, .int .i64 0], R] := hS11.unb
    refine pv (r_zb rfl) (nil (t_thenR [(0, .string ⟨p0.toArray⟩), (2, .pointer (some ⟨b1, 0, none⟩)), (25, .bool y4)] ⟨rfl, rfl, rfl, trivial⟩ fun J => ?_))
    refine cnd rfl (fun hb4 => ?_) (fun hb4 => ?_)
    · have hm := ctrue hb4 hm
      refine sq2 ?_
      obtain ⟨y5, hx8, hm⟩ := bindS hm
      refine rg (pv (r_mt rfl) (wl rfl (calS cf28 rfl (lex_number_sim (p0 := p0) (hS11.bun [0, 1] [] rfl)  hx8) rfl fun v5 T6 w12 im12 rv5 => ?_)))
      obtain ⟨rfl, hS12, _⟩ := rv5
      have hS12 : Sep g T6 w12 [boxA b1 [.int .i64 0, .string ⟨([] : List UInt8).toArray⟩, .int .u32 0, .int .i64 0, .int .i64 0], R] := hS12.unb
      refine pv (r_ex (v := .agg #[.int .i64 y5.1.Kind, .string ⟨y5.1.Text.toArray⟩, .int .u32 y5.1.Num, .int .i64 y5.1.Pos.Line, .int .i64 y5.1.Pos.Col]) rfl rfl) (pv (r_ex (v := .int .i64 y5.2) rfl rfl) (wl rfl (st0B (q := 0) hS12 ⟨rfl, rfl⟩ rfl rfl rfl Try.sizeOf33 rfl rfl rfl fun w13 im13 hS13 => ?_)))
      have hS13 : Sep g T6 w13 [boxA b1 [.int .i64 y5.1.Kind, .string ⟨y5.1.Text.toArray⟩, .int .u32 y5.1.Num, .int .i64 y5.1.Pos.Line, .int .i64 y5.1.Pos.Col], R] := hS13
      refine pv (r_zi rfl) (nil (t_thenR [(2, .pointer (some ⟨b1, 0, none⟩)), (3, .int .i64 y5.2)] ⟨rfl, rfl, trivial⟩ fun J => ?_))
      have hm := Option.some.inj hm
      subst hm
      exact rtn (r_blk (r_then (retN (vs := [.agg #[.int .i64 y5.1.Kind, .string ⟨y5.1.Text.toArray⟩, .int .u32 y5.1.Num, .int .i64 y5.1.Pos.Line, .int .i64 y5.1.Pos.Col], .int .i64 y5.2]) rfl ⟨rvS rfl Try.isAgg33 Try.sizeOf33 rfl (hS13.bx (i := 0) ⟨rfl, rfl⟩), rfl, trivial⟩ rfl ⟨_, rfl, _, (Im.trans im1 (Im.trans im2 (Im.trans im11 (Im.trans im12 im13)))), ⟨rfl, hS13.sel [1] rfl, trivial⟩⟩)))
    · have hm := cfalse hb4 hm
      refine sq2 ?_
      obtain ⟨u4, hx9, hm⟩ := bindS hm
      refine rg (pv (r_mt rfl) (pv (r_sx rfl rfl hx9 Try.underlying9) (pv (r_ib rfl rfl rfl) (pv (r_zb rfl) (nil (t_then ?_))))))
      refine cnd rfl (fun hb5 => ?_) (fun hb5 => ?_)
      · have hm := ctrue hb5 hm
        refine sq2 ?_
        obtain ⟨y6, hx10, hm⟩ := bindS hm
        refine rg (pv (r_mt rfl) (wl rfl (calS cf29 rfl (lex_char_sim (p0 := p0) (hS11.bun [0, 1] [] rfl)  hx10) rfl fun v6 T7 w14 im14 rv6 => ?_)))
        obtain ⟨rfl, hS14, _⟩ := rv6
        have hS14 : Sep g T7 w14 [boxA b1 [.int .i64 0, .string ⟨([] : List UInt8).toArray⟩, .int .u32 0, .int .i64 0, .int .i64 0], R] := hS14.unb
        refine pv (r_ex (v := .agg #[.int .i64 y6.1.Kind, .string ⟨y6.1.Text.toArray⟩, .int .u32 y6.1.Num, .int .i64 y6.1.Pos.Line, .int .i64 y6.1.Pos.Col]) rfl rfl) (pv (r_ex (v := .int .i64 y6.2) rfl rfl) (wl rfl (st0B (q := 0) hS14 ⟨rfl, rfl⟩ rfl rfl rfl Try.sizeOf33 rfl rfl rfl fun w15 im15 hS15 => ?_)))
        have hS15 : Sep g T7 w15 [boxA b1 [.int .i64 y6.1.Kind, .string ⟨y6.1.Text.toArray⟩, .int .u32 y6.1.Num, .int .i64 y6.1.Pos.Line, .int .i64 y6.1.Pos.Col], R] := hS15
        refine pv (r_zi rfl) (nil (t_thenR [(2, .pointer (some ⟨b1, 0, none⟩)), (3, .int .i64 y6.2)] ⟨rfl, rfl, trivial⟩ fun J => ?_))
        have hm := Option.some.inj hm
        subst hm
        exact rtn (r_blk (r_then (retN (vs := [.agg #[.int .i64 y6.1.Kind, .string ⟨y6.1.Text.toArray⟩, .int .u32 y6.1.Num, .int .i64 y6.1.Pos.Line, .int .i64 y6.1.Pos.Col], .int .i64 y6.2]) rfl ⟨rvS rfl Try.isAgg33 Try.sizeOf33 rfl (hS15.bx (i := 0) ⟨rfl, rfl⟩), rfl, trivial⟩ rfl ⟨_, rfl, _, (Im.trans im1 (Im.trans im2 (Im.trans im11 (Im.trans im14 im15)))), ⟨rfl, hS15.sel [1] rfl, trivial⟩⟩)))
      · have hm := cfalse hb5 hm
        refine skp (t_blk (t_thenR [(0, .string ⟨p0.toArray⟩), (2, .pointer (some ⟨b1, 0, none⟩))] ⟨rfl, rfl, trivial⟩ fun J => ?_))
        refine sq2 ?_
        obtain ⟨y7, hx11, hm⟩ := bindS hm
        refine rg (pv (r_mt rfl) (wl rfl (calS cf30 rfl (lex_mark_sim (p0 := p0) (hS11.bun [0, 1] [] rfl)  hx11) rfl fun v7 T8 w16 im16 rv7 => ?_)))
        obtain ⟨rfl, hS16, _⟩ := rv7
        have hS16 : Sep g T8 w16 [boxA b1 [.int .i64 0, .string ⟨([] : List UInt8).toArray⟩, .int .u32 0, .int .i64 0, .int .i64 0], R] := hS16.unb
        refine pv (r_zt rfl) (nil (t_then ?_))
        refine sq2 ?_
        refine sq2 ?_
        refine rg (pv (r_mt rfl) (pv (r_sqL rfl rfl) (nil (t_then ?_))))
        refine cnd rfl (fun hb6 => ?_) (fun hb6 => ?_)
        · have hm := ctrue hb6 hm
          refine sq2 ?_
          refine rg (pv (r_bd (by kernel_rfl) rfl (u := .agg #[.int .i64 0, .string ⟨([] : List UInt8).toArray⟩, .int .u32 0, .int .i64 0, .int .i64 0])) (wl rfl (st0B (q := 0) hS16 ⟨rfl, rfl⟩ rfl rfl rfl Try.sizeOf33 rfl rfl rfl fun w17 im17 hS17 => ?_)))
          have hS17 : Sep g T8 w17 [boxA b1 [.int .i64 0, .string ⟨([] : List UInt8).toArray⟩, .int .u32 0, .int .i64 0, .int .i64 0], R] := hS17
          refine pv (r_zi rfl) (nil (t_thenR [(2, .pointer (some ⟨b1, 0, none⟩)), (3, .int .i64 3)] ⟨rfl, rfl, trivial⟩ fun J => ?_))
          have hm := Option.some.inj hm
          subst hm
          exact rtn (r_then (retN (vs := [.agg #[.int .i64 0, .string ⟨([] : List UInt8).toArray⟩, .int .u32 0, .int .i64 0, .int .i64 0], .int .i64 3]) rfl ⟨rvS rfl Try.isAgg33 Try.sizeOf33 rfl (hS17.bx (i := 0) ⟨rfl, rfl⟩), rfl, trivial⟩ rfl ⟨_, rfl, _, (Im.trans im1 (Im.trans im2 (Im.trans im11 (Im.trans im16 im17)))), ⟨rfl, hS17.sel [1] rfl, trivial⟩⟩))
        · have hm := cfalse hb6 hm
          refine skp (t_thenR [(2, .pointer (some ⟨b1, 0, none⟩)), (6, .string ⟨y7.toArray⟩)] ⟨rfl, rfl, trivial⟩ fun J => ?_)
          refine sq2 ?_
          refine rg (pv (r_mt rfl) (pv (r_bd (by kernel_rfl) rfl (u := .agg #[.int .i64 4, .string ⟨y7.toArray⟩, .int .u32 0, .int .i64 0, .int .i64 0])) (wl rfl (st0B (q := 0) hS16 ⟨rfl, rfl⟩ rfl rfl rfl Try.sizeOf33 rfl rfl rfl fun w18 im18 hS18 => ?_))))
          have hS18 : Sep g T8 w18 [boxA b1 [.int .i64 4, .string ⟨y7.toArray⟩, .int .u32 0, .int .i64 0, .int .i64 0], R] := hS18
          refine pv (r_zi rfl) (nil (t_then ?_))
          have hm := Option.some.inj hm
          subst hm
          exact rtn (retN (vs := [.agg #[.int .i64 4, .string ⟨y7.toArray⟩, .int .u32 0, .int .i64 0, .int .i64 0], .int .i64 0]) rfl ⟨rvS rfl Try.isAgg33 Try.sizeOf33 rfl (hS18.bx (i := 0) ⟨rfl, rfl⟩), rfl, trivial⟩ rfl ⟨_, rfl, _, (Im.trans im1 (Im.trans im2 (Im.trans im11 (Im.trans im16 im18)))), ⟨rfl, hS18.sel [1] rfl, trivial⟩⟩)

set_option maxRecDepth 100000 in
set_option maxHeartbeats 1000000 in
theorem lex_Lex_sim {g : World} {T0 : Nat → Prop} {w0 : World} {R : Assn} {p0 : List UInt8} {r : (List GToken) × Pos × Int} (hS : Sep g T0 w0 [R]) (hG0 : Gi T0 w0 0) (hm : lex_Lex p0 = some r) :
    Calls Try.prog 8 #[.string ⟨p0.toArray⟩] w0 (RetS T0 w0 fun T w v => ∃ (a4 : Option Addr) (n4 : Nat) (c4 : Nat), v = .tuple #[.slice a4 n4 c4, .agg #[.int .i64 r.2.1.Line, .int .i64 r.2.1.Col], .int .i64 r.2.2] ∧ Sep g T w [R, ownA rGToken 33 (.slice a4 n4 c4) r.1] ∧ True) := by
  refine enter (args := [.string ⟨p0.toArray⟩]) Try.func8 rfl Try.ntmps8 rfl fun J => ?_
  unfold lex_Lex at hm
  refine sq2 ?_
  refine rg (pv (r_zs rfl) (wl rfl (alS (zs := [.int .i64 0, .int .i64 0]) Try.zeroValue26 rfl hS fun w1 b1 im1 hS1 => ?_)))
  refine pv (r_zi rfl) (nil (t_then ?_))
  refine sq2 ?_
  refine rg (pv (r_mt rfl) (pv (r_bd (by kernel_rfl) rfl (u := .agg #[.int .i64 1, .int .i64 1])) (pv (r_bd (by kernel_rfl) rfl (u := .agg #[.string ⟨p0.toArray⟩, .int .i64 1, .int .i64 1])) (wl rfl (bxS (cs := [.string ⟨p0.toArray⟩, .int .i64 1, .int .i64 1]) rfl rfl hS1 fun w2 b2 im2 hS2 => ?_)))))
  refine pv (r_zp rfl) (nil (t_thenR [(0, .string ⟨p0.toArray⟩), (3, .pointer (some ⟨b1, 0, none⟩)), (5, .pointer (some ⟨b2, 0, none⟩))] ⟨rfl, rfl, rfl, trivial⟩ fun J => ?_))
  refine sq2 ?_
  refine sq2 ?_
  refine rg (pv (r_mt rfl) (pv (r_lnt rfl Try.underlying9) (pv (r_ib rfl rfl rfl) (nil (t_then ?_)))))
  refine cnd rfl (fun hb1 => ?_) (fun hb1 => ?_)
  · have hm := ctrue hb1 hm
    refine sq2 ?_
    refine rs [0, 0, 0, 1, 0, 2, 0] [0, 1, 2, 3, 4, 5, 6] mix (by kernel_rfl) hS2.lt fun w3 i1 => ?_
    have im3 := i1.imm
    have hS3 := hS2.keep i1 (fun _ h => h)
    refine s0 rfl trivial (fun _ => r_mp rfl) rfl (s0 rfl trivial (fun _ => r_nc rfl) rfl (s0 rfl trivial (fun _ => r_fa rfl Try.underlying40 rfl Try.sizeOf26 rfl) rfl (s1 rfl trivial (r_ldS rfl Try.isAgg26 Try.sizeOf26 rfl (hS3.cells0 (i := 0) ⟨rfl, rfl⟩ (o := 1) rfl) (cs := [.int .i64 1, .int .i64 1])) rfl (s0 rfl trivial (fun _ => r_zs rfl) rfl (s2 [] rfl trivial rfl (by kernel_rfl) (st0B (q := 1) hS3 ⟨rfl, rfl⟩ rfl rfl rfl Try.sizeOf26 rfl rfl rfl fun w4 im4 hS4 => ?_))))))
    have hS4 : Sep g T0 w4 [boxA b2 [.string ⟨p0.toArray⟩, .int .i64 1, .int .i64 1], boxA b1 [.int .i64 1, .int .i64 1], R] := hS4
    refine ⟨st0, ?_⟩
    refine s0 rfl trivial (fun _ => r_zi rfl) rfl (se (t_thenR [(2, .slice none 0 0), (3, .pointer (some ⟨b1, 0, none⟩)), (4, .int .i64 2)] ⟨rfl, rfl, rfl, trivial⟩ fun J => ?_))
    have hS5 := hS4.nilO rGToken 33
    have hm := Option.some.inj hm
    subst hm
    exact rtn (r_then (retN (vs := [.slice none 0 0, .agg #[.int .i64 1, .int .i64 1], .int .i64 2]) rfl ⟨rfl, rvS rfl Try.isAgg26 Try.sizeOf26 rfl (hS5.bx (i := 2) ⟨rfl, rfl⟩), rfl, trivial⟩ rfl ⟨_, rfl, _, (Im.trans im1 (Im.trans im2 (Im.trans im3 im4))), ⟨_, _, _, rfl, hS5.sel [3, 0] rfl, trivial⟩⟩))
  · have hm := cfalse hb1 hm
    refine skp (t_then ?_)
    refine sq2 ?_
    refine rg (pv (r_zs rfl) (nil (t_then ?_)))
    refine sq2 ?_
    obtain ⟨o1, ho1, hq1⟩ := bindS hm
    obtain ⟨bd1, hbd1, ho1⟩ := loop_open ho1
    have hS6 := hS2.nilO rGToken 33
    refine blk (wp_loop_ghost (fun m a w5 => ∃ (J : Nat → Value) (T1 : Nat → Prop) (x2 : LexScanner) (x1 : List GToken) (a1 : Option Addr) (n1 : Nat) (c1 : Nat), a = env (nf 76) J [(3, .pointer (some ⟨b1, 0, none⟩)), (5, .pointer (some ⟨b2, 0, none⟩)), (6, .slice a1 n1 c1)] ∧ Im T0 w2 T1 w5 ∧ Sep g T1 w5 [ownA rGToken 33 (.slice a1 n1 c1) x1, boxA b2 [.string ⟨x2.s.toArray⟩, .int .i64 x2.pos.Line, .int .i64 x2.pos.Col], boxA b1 [.int .i64 0, .int .i64 0], R] ∧ loopM bd1 m (x1, x2) = some o1) NN ⟨_, _, (⟨p0, (⟨1, 1⟩ : Pos)⟩ : LexScanner), [], _, _, _, env_has ⟨rfl, rfl, rfl, trivial⟩, Im.refl, hS6.sel [0, 1, 2, 3] rfl, ho1⟩ ?_)
    rintro m _ w5 ⟨J, T1, x2, x1, a1, n1, c1, rfl, im5, hS7, ho1⟩
    obtain ⟨m1, z1, rfl, hm, hn1⟩ := loop_round ho1
    rw [hbd1] at hm
    refine sq2 ?_
    refine sq2 ?_
    refine rg (pv (r_mp rfl) (pv (r_nc rfl) (pv (r_fa rfl Try.underlying40 rfl Try.sizeOf9 rfl) (pv (r_ld rfl Try.isAgg9 (hS7.cell0 (i := 1) ⟨rfl, rfl⟩ (j := 0) rfl)) (pv (r_snL rfl rfl) (nil (t_then ?_)))))))
    refine cnd rfl (fun hb2 => ?_) (fun hb2 => ?_)
    · have hm := ctrue hb2 hm
      refine skp (t_thenR [(3, .pointer (some ⟨b1, 0, none⟩)), (5, .pointer (some ⟨b2, 0, none⟩)), (6, .slice a1 n1 c1)] ⟨rfl, rfl, rfl, trivial⟩ fun J => ?_)
      refine blk ?_
      refine sq2 ?_
      obtain ⟨y1, hx1, hm⟩ := bindS hm
      refine rg (pv (r_mp rfl) (pv (r_nc rfl) (pv (r_fa rfl Try.underlying40 rfl Try.sizeOf9 rfl) (pv (r_ld rfl Try.isAgg9 (hS7.cell0 (i := 1) ⟨rfl, rfl⟩ (j := 0) rfl)) (wl rfl (calS cf14 rfl (lex_blank_sim (p0 := x2.s) (hS7.bun [0, 1, 2, 3] [] rfl) (hG0.mono (Im.trans im1 (Im.trans im2 im5))) hx1) rfl fun v1 T2 w6 im6 rv1 => ?_))))))
      obtain ⟨rfl, hS8, _⟩ := rv1
      have hS8 : Sep g T2 w6 [ownA rGToken 33 (.slice a1 n1 c1) x1, boxA b2 [.string ⟨x2.s.toArray⟩, .int .i64 x2.pos.Line, .int .i64 x2.pos.Col], boxA b1 [.int .i64 0, .int .i64 0], R] := hS8.unb
      refine pv (r_zi rfl) (nil (t_thenR [(3, .pointer (some ⟨b1, 0, none⟩)), (5, .pointer (some ⟨b2, 0, none⟩)), (6, .slice a1 n1 c1), (7, .int .i64 y1)] ⟨rfl, rfl, rfl, rfl, trivial⟩ fun J => ?_))
      refine sq2 ?_
      refine sq2 ?_
      refine rg (pv (r_mi rfl) (pv (r_ib rfl rfl rfl) (nil (t_then ?_))))
      refine cnd rfl (fun hb3 => ?_) (fun hb3 => ?_)
      · have hm := ctrue hb3 hm
        refine sq2 ?_
        refine rs [0, 0, 0, 1, 0, 2, 0] [0, 1, 2, 3, 4, 5, 6] mix (by kernel_rfl) hS8.lt fun w7 i2 => ?_
        have im7 := i2.imm
        have hS9 := hS8.keep i2 (fun _ h => h)
        refine s0 rfl trivial (fun _ => r_mp rfl) rfl (s0 rfl trivial (fun _ => r_nc rfl) rfl (s0 rfl trivial (fun _ => r_fa rfl Try.underlying40 rfl Try.sizeOf26 rfl) rfl (s1 rfl trivial (r_ldS rfl Try.isAgg26 Try.sizeOf26 rfl (hS9.cells0 (i := 1) ⟨rfl, rfl⟩ (o := 1) rfl) (cs := [.int .i64 x2.pos.Line, .int .i64 x2.pos.Col])) rfl (s0 rfl trivial (fun _ => r_zs rfl) rfl (s2 [] rfl trivial rfl (by kernel_rfl) (st0B (q := 2) hS9 ⟨rfl, rfl⟩ rfl rfl rfl Try.sizeOf26 rfl rfl rfl fun w8 im8 hS10 => ?_))))))
        have hS10 : Sep g T2 w8 [ownA rGToken 33 (.slice a1 n1 c1) x1, boxA b2 [.string ⟨x2.s.toArray⟩, .int .i64 x2.pos.Line, .int .i64 x2.pos.Col], boxA b1 [.int .i64 x2.pos.Line, .int .i64 x2.pos.Col], R] := hS10
        refine ⟨st0, ?_⟩
        refine s0 rfl trivial (fun _ => r_zi rfl) rfl (se (t_thenR [(2, .slice none 0 0), (3, .pointer (some ⟨b1, 0, none⟩)), (4, .int .i64 3)] ⟨rfl, rfl, rfl, trivial⟩ fun J => ?_))
        have hS11 := hS10.nilO rGToken 33
        have hm := Option.some.inj hm
        subst hm
        have hn1 : _ = Lp.ret _ := hn1
        subst hn1
        have hm := thn_ret hq1
        have hm := Option.some.inj hm
        subst hm
        exact rtn (r_then (r_blk (r_then (r_blk (r_then (retN (vs := [.slice none 0 0, .agg #[.int .i64 x2.pos.Line, .int .i64 x2.pos.Col], .int .i64 3]) rfl ⟨rfl, rvS rfl Try.isAgg26 Try.sizeOf26 rfl (hS11.bx (i := 3) ⟨rfl, rfl⟩), rfl, trivial⟩ rfl ⟨_, rfl, _, (Im.trans im1 (Im.trans im2 (Im.trans im5 (Im.trans im6 (Im.trans im7 im8))))), ⟨_, _, _, rfl, hS11.sel [4, 0] rfl, trivial⟩⟩))))))
      · have hm := cfalse hb3 hm
        refine skp (t_then ?_)
        refine sq2 ?_
        refine sq2 ?_
        refine rg (pv (r_mi rfl) (pv (r_ib rfl rfl rfl) (nil (t_then ?_))))
        refine cnd rfl (fun hb4 => ?_) (fun hb4 => ?_)
        · have hm := ctrue hb4 hm
          refine sq2 ?_
          obtain ⟨y2, hx2, hm⟩ := bindS hm
          refine rg (pv (r_mp rfl) (pv (r_mi rfl) (wl rfl (calS cf15 rfl (lex_scanner_skip_sim (p0 := x2) (H_p0 := boxA b2) (p1 := y1) (hS8.bun [0, 2, 3] [1] rfl) (lnBox b2) hx2) rfl fun v2 T3 w9 im9 rv2 => ?_))))
          obtain ⟨rfl, hS12, _⟩ := rv2
          have hS12 : Sep g T3 w9 [ownA rGToken 33 (.slice a1 n1 c1) x1, boxA b1 [.int .i64 0, .int .i64 0], R, boxA b2 [.string ⟨y2.s.toArray⟩, .int .i64 y2.pos.Line, .int .i64 y2.pos.Col]] := hS12.unb
          refine nil (t_thenR [(3, .pointer (some ⟨b1, 0, none⟩)), (5, .pointer (some ⟨b2, 0, none⟩)), (6, .slice a1 n1 c1)] ⟨rfl, rfl, rfl, trivial⟩ fun J => ?_)
          have hm := Option.some.inj hm
          subst hm
          exact xt (x_then (x_eq (t_then ⟨m1, Nat.lt_succ_self _, _, _, y2, x1, _, _, _, env_has ⟨rfl, rfl, rfl, trivial⟩, (Im.trans im5 (Im.trans im6 im9)), hS12.sel [0, 3, 1, 2] rfl, hn1⟩)))
        · have hm := cfalse hb4 hm
          refine skp (t_thenR [(3, .pointer (some ⟨b1, 0, none⟩)), (5, .pointer (some ⟨b2, 0, none⟩)), (6, .slice a1 n1 c1)] ⟨rfl, rfl, rfl, trivial⟩ fun J => ?_)
          refine sq2 ?_
          obtain ⟨y3, hx3, hm⟩ := bindS hm
          refine rg (pv (r_mp rfl) (pv (r_nc rfl) (pv (r_fa rfl Try.underlying40 rfl Try.sizeOf9 rfl) (pv (r_ld rfl Try.isAgg9 (hS8.cell0 (i := 1) ⟨rfl, rfl⟩ (j := 0) rfl)) (wl rfl (calS cf16 rfl (lex_token_sim (p0 := x2.s) (hS8.bun [0, 1, 2, 3] [] rfl)  hx3) rfl fun v3 T4 w10 im10 rv3 => ?_))))))
          obtain ⟨rfl, hS13, _⟩ := rv3
          have hS13 : Sep g T4 w10 [ownA rGToken 33 (.slice a1 n1 c1) x1, boxA b2 [.string ⟨x2.s.toArray⟩, .int .i64 x2.pos.Line, .int .i64 x2.pos.Col], boxA b1 [.int .i64 0, .int .i64 0], R] := hS13.unb
          refine pv (r_mv rfl) (pv (r_ex (v := .agg #[.int .i64 y3.1.Kind, .string ⟨y3.1.Text.toArray⟩, .int .u32 y3.1.Num, .int .i64 y3.1.Pos.Line, .int .i64 y3.1.Pos.Col]) rfl rfl) (pv (r_ex (v := .int .i64 y3.2) rfl rfl) (wl rfl (alS (zs := [.int .i64 0, .string ⟨([] : List UInt8).toArray⟩, .int .u32 0, .int .i64 0, .int .i64 0]) Try.zeroValue33 rfl hS13 fun w11 b3 im11 hS14 => ?_))))
          refine wl rfl (st0B (q := 0) hS14 ⟨rfl, rfl⟩ rfl rfl rfl Try.sizeOf33 rfl rfl rfl fun w12 im12 hS15 => ?_)
          have hS15 : Sep g T4 w12 [boxA b3 [.int .i64 y3.1.Kind, .string ⟨y3.1.Text.toArray⟩, .int .u32 y3.1.Num, .int .i64 y3.1.Pos.Line, .int .i64 y3.1.Pos.Col], ownA rGToken 33 (.slice a1 n1 c1) x1, boxA b2 [.string ⟨x2.s.toArray⟩, .int .i64 x2.pos.Line, .int .i64 x2.pos.Col], boxA b1 [.int .i64 0, .int .i64 0], R] := hS15
          refine pv (r_zi rfl) (nil (t_thenR [(3, .pointer (some ⟨b1, 0, none⟩)), (5, .pointer (some ⟨b2, 0, none⟩)), (6, .slice a1 n1 c1), (8, .pointer (some ⟨b3, 0, none⟩)), (9, .int .i64 y3.2)] ⟨rfl, rfl, rfl, rfl, rfl, trivial⟩ fun J => ?_))
          refine sq2 ?_
          refine sq2 ?_
          refine rg (pv (r_mi rfl) (pv (r_ib rfl rfl rfl) (nil (t_then ?_))))
          refine cnd rfl (fun hb5 => ?_) (fun hb5 => ?_)
          · have hm := ctrue hb5 hm
            refine sq2 ?_
            refine rs [0, 0, 0, 1, 0, 0, 2, 0] [0, 1, 2, 3, 4, 5, 6, 7] mix (by kernel_rfl) hS15.lt fun w13 i3 => ?_
            have im13 := i3.imm
            have hS16 := hS15.keep i3 (fun _ h => h)
            refine s0 rfl trivial (fun _ => r_mp rfl) rfl (s0 rfl trivial (fun _ => r_nc rfl) rfl (s0 rfl trivial (fun _ => r_fa rfl Try.underlying40 rfl Try.sizeOf26 rfl) rfl (s1 rfl trivial (r_ldS rfl Try.isAgg26 Try.sizeOf26 rfl (hS16.cells0 (i := 2) ⟨rfl, rfl⟩ (o := 1) rfl) (cs := [.int .i64 x2.pos.Line, .int .i64 x2.pos.Col])) rfl (s0 rfl trivial (fun _ => r_mi rfl) rfl (s0 rfl trivial (fun _ => r_zs rfl) rfl (s2 [] rfl trivial rfl (by kernel_rfl) (st0B (q := 3) hS16 ⟨rfl, rfl⟩ rfl rfl rfl Try.sizeOf26 rfl rfl rfl fun w14 im14 hS17 => ?_)))))))
            have hS17 : Sep g T4 w14 [boxA b3 [.int .i64 y3.1.Kind, .string ⟨y3.1.Text.toArray⟩, .int .u32 y3.1.Num, .int .i64 y3.1.Pos.Line, .int .i64 y3.1.Pos.Col], ownA rGToken 33 (.slice a1 n1 c1) x1, boxA b2 [.string ⟨x2.s.toArray⟩, .int .i64 x2.pos.Line, .int .i64 x2.pos.Col], boxA b1 [.int .i64 x2.pos.Line, .int .i64 x2.pos.Col], R] := hS17
            refine ⟨st0, ?_⟩
            refine s0 rfl trivial (fun _ => r_zi rfl) rfl (se (t_thenR [(2, .slice none 0 0), (3, .pointer (some ⟨b1, 0, none⟩)), (4, .int .i64 y3.2)] ⟨rfl, rfl, rfl, trivial⟩ fun J => ?_))
            have hS18 := hS17.nilO rGToken 33
            have hm := Option.some.inj hm
            subst hm
            have hn1 : _ = Lp.ret _ := hn1
            subst hn1
            have hm := thn_ret hq1
            have hm := Option.some.inj hm
            subst hm
            exact rtn (r_then (r_blk (r_then (r_blk (r_then (retN (vs := [.slice none 0 0, .agg #[.int .i64 x2.pos.Line, .int .i64 x2.pos.Col], .int .i64 y3.2]) rfl ⟨rfl, rvS rfl Try.isAgg26 Try.sizeOf26 rfl (hS18.bx (i := 4) ⟨rfl, rfl⟩), rfl, trivial⟩ rfl ⟨_, rfl, _, (Im.trans im1 (Im.trans im2 (Im.trans im5 (Im.trans im6 (Im.trans im10 (Im.trans im11 (Im.trans im12 (Im.trans im13 im14)))))))), ⟨_, _, _, rfl, hS18.sel [5, 0] rfl, trivial⟩⟩))))))
          · have hm := cfalse hb5 hm
            refine skp (t_then ?_)
            refine sq2 ?_
            refine rg (pv (r_mp rfl) (pv (r_nc rfl) (pv (r_fa rfl Try.underlying40 rfl Try.sizeOf26 rfl) (pv (r_ldS rfl Try.isAgg26 Try.sizeOf26 rfl (hS15.cells0 (i := 2) ⟨rfl, rfl⟩ (o := 1) rfl) (cs := [.int .i64 x2.pos.Line, .int .i64 x2.pos.Col])) (pv (r_fa rfl Try.underlying33 rfl Try.sizeOf26 rfl) (wl rfl (st0B (q := 0) hS15 ⟨rfl, rfl⟩ rfl rfl rfl Try.sizeOf26 rfl rfl rfl fun w15 im15 hS19 => ?_)))))))
            have hS19 : Sep g T4 w15 [boxA b3 [.int .i64 y3.1.Kind, .string ⟨y3.1.Text.toArray⟩, .int .u32 y3.1.Num, .int .i64 x2.pos.Line, .int .i64 x2.pos.Col], ownA rGToken 33 (.slice a1 n1 c1) x1, boxA b2 [.string ⟨x2.s.toArray⟩, .int .i64 x2.pos.Line, .int .i64 x2.pos.Col], boxA b1 [.int .i64 0, .int .i64 0], R] := hS19
            refine nil (t_thenR [(3, .pointer (some ⟨b1, 0, none⟩)), (5, .pointer (some ⟨b2, 0, none⟩)), (6, .slice a1 n1 c1), (8, .pointer (some ⟨b3, 0, none⟩))] ⟨rfl, rfl, rfl, rfl, trivial⟩ fun J => ?_)
            refine sq2 ?_
            refine rg (pv (r_ms rfl) (pv (r_ldS rfl Try.isAgg33 Try.sizeOf33 rfl (hS19.cells0 (i := 0) ⟨rfl, rfl⟩ (o := 0) rfl) (cs := [.int .i64 y3.1.Kind, .string ⟨y3.1.Text.toArray⟩, .int .u32 y3.1.Num, .int .i64 x2.pos.Line, .int .i64 x2.pos.Col])) (wl rfl (bsS (r := rGToken) (l := ([{ y3.1 with Pos := x2.pos }] : List GToken)) (css := [[.int .i64 y3.1.Kind, .string ⟨y3.1.Text.toArray⟩, .int .u32 y3.1.Num, .int .i64 x2.pos.Line, .int .i64 x2.pos.Col]]) hS19 Try.underlying24 Try.sizeOf33 Try.zeroValue33 rfl rfl (by kernel_rfl) rfl ⟨(rGToken_mk (x := { y3.1 with Pos := x2.pos })  : rGToken.rp _ _ _ _), trivial⟩ rfl rfl fun w16 a2 n2 c2 im16 hS20 => ?_))))
            obtain ⟨z_1, hro1, hm⟩ := bindS hm
            refine wl rfl (apO (q := 2) (l := x1) (us := ([{ y3.1 with Pos := x2.pos }] : List GToken)) hS20 ⟨rfl, rfl⟩ rfl rfl (hS20.own (i := 0) ⟨rfl, rfl⟩).v Try.underlying24 el33 (room_some hro1) fun w17 a3 n3 c3 im17 hS21 => ?_)
            have hS21 : Sep g T4 w17 [ownA rGToken 33 (.slice a2 n2 c2) ([{ y3.1 with Pos := x2.pos }] : List GToken), boxA b3 [.int .i64 y3.1.Kind, .string ⟨y3.1.Text.toArray⟩, .int .u32 y3.1.Num, .int .i64 x2.pos.Line, .int .i64 x2.pos.Col], ownA rGToken 33 (.slice a3 n3 c3) (x1 ++ ([{ y3.1 with Pos := x2.pos }] : List GToken)), boxA b2 [.string ⟨x2.s.toArray⟩, .int .i64 x2.pos.Line, .int .i64 x2.pos.Col], boxA b1 [.int .i64 0, .int .i64 0], R] := hS21
            refine pv (r_zs rfl) (nil (t_thenR [(3, .pointer (some ⟨b1, 0, none⟩)), (5, .pointer (some ⟨b2, 0, none⟩)), (6, .slice a3 n3 c3), (8, .pointer (some ⟨b3, 0, none⟩))] ⟨rfl, rfl, rfl, rfl, trivial⟩ fun J => ?_))
            obtain ⟨y4, hx4, hm⟩ := bindS hm
            refine rg (pv (r_mp rfl) (pv (r_fa rfl Try.underlying33 rfl Try.sizeOf9 rfl) (pv (r_ld rfl Try.isAgg9 (hS21.cell0 (i := 1) ⟨rfl, rfl⟩ (j := 1) rfl)) (pv (r_lnt rfl Try.underlying9) (wl rfl (calS cf15 rfl (lex_scanner_skip_sim (p0 := x2) (H_p0 := boxA b2) (p1 := (List.length y3.1.Text : Int)) (hS21.bun [2, 4, 5] [3] rfl) (lnBox b2) hx4) rfl fun v4 T5 w18 im18 rv4 => ?_))))))
            obtain ⟨rfl, hS22, _⟩ := rv4
            have hS22 : Sep g T5 w18 [ownA rGToken 33 (.slice a3 n3 c3) (x1 ++ ([{ y3.1 with Pos := x2.pos }] : List GToken)), boxA b1 [.int .i64 0, .int .i64 0], R, boxA b2 [.string ⟨y4.s.toArray⟩, .int .i64 y4.pos.Line, .int .i64 y4.pos.Col]] := hS22.unb
            have hm := Option.some.inj hm
            subst hm
            exact nil (t_blk (t_then ⟨m1, Nat.lt_succ_self _, _, _, y4, (x1 ++ ([{ y3.1 with Pos := x2.pos }] : List GToken)), _, _, _, env_has ⟨rfl, rfl, rfl, trivial⟩, (Im.trans im5 (Im.trans im6 (Im.trans im10 (Im.trans im11 (Im.trans im12 (Im.trans im15 (Im.trans im16 (Im.trans im17 im18)))))))), hS22.sel [0, 3, 1, 2] rfl, hn1⟩))
    · have hm := cfalse hb2 hm
      have hm := Option.some.inj hm
      subst hm
      have hn1 : _ = Lp.brk _ := hn1
      subst hn1
      have hm := thn_brk hq1
      refine xt (x_then (x_then (x_eq (t_thenR [(3, .pointer (some ⟨b1, 0, none⟩)), (5, .pointer (some ⟨b2, 0, none⟩)), (6, .slice a1 n1 c1)] ⟨rfl, rfl, rfl, trivial⟩ fun J => ?_))))
      refine sq2 ?_
      refine rs [0, 0, 0, 0, 1, 0, 2, 0] [0, 1, 2, 3, 4, 5, 6, 7] mix (by kernel_rfl) hS7.lt fun w19 i4 => ?_
      have im19 := i4.imm
      have hS23 := hS7.keep i4 (fun _ h => h)
      refine s0 rfl trivial (fun _ => r_ms rfl) rfl (s0 rfl trivial (fun _ => r_mp rfl) rfl (s0 rfl trivial (fun _ => r_nc rfl) rfl (s0 rfl trivial (fun _ => r_fa rfl Try.underlying40 rfl Try.sizeOf26 rfl) rfl (s1 rfl trivial (r_ldS rfl Try.isAgg26 Try.sizeOf26 rfl (hS23.cells0 (i := 1) ⟨rfl, rfl⟩ (o := 1) rfl) (cs := [.int .i64 x2.pos.Line, .int .i64 x2.pos.Col])) rfl (s0 rfl trivial (fun _ => r_zs rfl) rfl (s2 [] rfl trivial rfl (by kernel_rfl) (st0B (q := 2) hS23 ⟨rfl, rfl⟩ rfl rfl rfl Try.sizeOf26 rfl rfl rfl fun w20 im20 hS24 => ?_)))))))
      have hS24 : Sep g T1 w20 [ownA rGToken 33 (.slice a1 n1 c1) x1, boxA b2 [.string ⟨x2.s.toArray⟩, .int .i64 x2.pos.Line, .int .i64 x2.pos.Col], boxA b1 [.int .i64 x2.pos.Line, .int .i64 x2.pos.Col], R] := hS24
      refine ⟨st0, ?_⟩
      refine s0 rfl trivial (fun _ => r_zi rfl) rfl (se (t_thenR [(2, .slice a1 n1 c1), (3, .pointer (some ⟨b1, 0, none⟩)), (4, .int .i64 0)] ⟨rfl, rfl, rfl, trivial⟩ fun J => ?_))
      have hm := Option.some.inj hm
      subst hm
      exact rtn (retN (vs := [.slice a1 n1 c1, .agg #[.int .i64 x2.pos.Line, .int .i64 x2.pos.Col], .int .i64 0]) rfl ⟨rfl, rvS rfl Try.isAgg26 Try.sizeOf26 rfl (hS24.bx (i := 2) ⟨rfl, rfl⟩), rfl, trivial⟩ rfl ⟨_, rfl, _, (Im.trans im1 (Im.trans im2 (Im.trans im5 (Im.trans im19 im20)))), ⟨_, _, _, rfl, hS24.sel [3, 0] rfl, trivial⟩⟩)

set_option maxRecDepth 100000 in
set_option maxHeartbeats 1000000 in
theorem law07_awake_sim {g : World} {T0 : Nat → Prop} {w0 : World} {R : Assn}  {r : Bool} (hS : Sep g T0 w0 [R]) (hG0 : Gi T0 w0 0) (hm : law07_awake = some r) :
    Calls Try.prog 7 #[] w0 (RetS T0 w0 fun T w v => v = .bool r ∧ Sep g T w [R] ∧ True) := by
  refine enter (args := []) Try.func7 rfl Try.ntmps7 rfl fun J => ?_
  unfold law07_awake at hm
  refine sq2 ?_
  refine rg (pv (r_zb rfl) (nil (t_then ?_)))
  refine sq2 ?_
  obtain ⟨y1, hx1, hm⟩ := bindS hm
  refine rg (wl rfl (calS cf8 rfl (lex_Lex_sim (p0 := ([97, 43, 61, 48, 120, 49, 70, 59, 32, 47, 47, 32, 101, 110, 100] : List UInt8)) (hS.bun [0] [] rfl) hG0 hx1) rfl fun v1 T1 w1 im1 rv1 => ?_))
  obtain ⟨a1, n1, c1, rfl, hS1, _⟩ := rv1
  have hS1 : Sep g T1 w1 [R, ownA rGToken 33 (.slice a1 n1 c1) y1.1] := hS1.unb
  refine pv (r_mv rfl) (pv (r_ex (v := .slice a1 n1 c1) rfl rfl) (pv (r_ex (v := .agg #[.int .i64 y1.2.1.Line, .int .i64 y1.2.1.Col]) rfl rfl) (pv (r_ex (v := .int .i64 y1.2.2) rfl rfl) (wl rfl (alS (zs := [.int .i64 0, .int .i64 0]) Try.zeroValue26 rfl hS1 fun w2 b1 im2 hS2 => ?_)))))
  refine pv (r_zs rfl) (wl rfl (st0B (q := 0) hS2 ⟨rfl, rfl⟩ rfl rfl rfl Try.sizeOf26 rfl rfl rfl fun w3 im3 hS3 => ?_))
  have hS3 : Sep g T1 w3 [boxA b1 [.int .i64 y1.2.1.Line, .int .i64 y1.2.1.Col], R, ownA rGToken 33 (.slice a1 n1 c1) y1.1] := hS3
  refine pv (r_zi rfl) (nil (t_thenR [(1, .slice a1 n1 c1), (3, .int .i64 y1.2.2)] ⟨rfl, rfl, trivial⟩ fun J => ?_))
  refine sq2 ?_
  obtain ⟨y2, hx2, hm⟩ := bindS hm
  refine rg (wl rfl (calS cf8 rfl (lex_Lex_sim (p0 := ([39, 97, 39] : List UInt8)) (hS3.bun [1, 2] [] rfl) (hG0.mono (Im.trans im1 (Im.trans im2 im3))) hx2) rfl fun v2 T2 w4 im4 rv2 => ?_))
  obtain ⟨a2, n2, c2, rfl, hS4, _⟩ := rv2
  have hS4 : Sep g T2 w4 [R, ownA rGToken 33 (.slice a1 n1 c1) y1.1, ownA rGToken 33 (.slice a2 n2 c2) y2.1] := hS4.unb
  refine pv (r_mv rfl) (pv (r_ex (v := .slice a2 n2 c2) rfl rfl) (pv (r_ex (v := .agg #[.int .i64 y2.2.1.Line, .int .i64 y2.2.1.Col]) rfl rfl) (pv (r_ex (v := .int .i64 y2.2.2) rfl rfl) (wl rfl (alS (zs := [.int .i64 0, .int .i64 0]) Try.zeroValue26 rfl hS4 fun w5 b2 im5 hS5 => ?_)))))
  refine pv (r_zs rfl) (wl rfl (st0B (q := 0) hS5 ⟨rfl, rfl⟩ rfl rfl rfl Try.sizeOf26 rfl rfl rfl fun w6 im6 hS6 => ?_))
  have hS6 : Sep g T2 w6 [boxA b2 [.int .i64 y2.2.1.Line, .int .i64 y2.2.1.Col], R, ownA rGToken 33 (.slice a1 n1 c1) y1.1, ownA rGToken 33 (.slice a2 n2 c2) y2.1] := hS6
  refine pv (r_zi rfl) (nil (t_thenR [(1, .slice a1 n1 c1), (3, .int .i64 y1.2.2), (4, .slice a2 n2 c2), (6, .int .i64 y2.2.2)] ⟨rfl, rfl, rfl, rfl, trivial⟩ fun J => ?_))
  refine sq2 ?_
  obtain ⟨y3, hx3, hm⟩ := bindS hm
  refine rg (wl rfl (calS cf8 rfl (lex_Lex_sim (p0 := ([48, 56, 97] : List UInt8)) (hS6.bun [1, 2, 3] [] rfl) (hG0.mono (Im.trans im1 (Im.trans im2 (Im.trans im3 (Im.trans im4 (Im.trans im5 im6)))))) hx3) rfl fun v3 T3 w7 im7 rv3 => ?_))
  obtain ⟨a3, n3, c3, rfl, hS7, _⟩ := rv3
  have hS7 : Sep g T3 w7 [R, ownA rGToken 33 (.slice a1 n1 c1) y1.1, ownA rGToken 33 (.slice a2 n2 c2) y2.1, ownA rGToken 33 (.slice a3 n3 c3) y3.1] := hS7.unb
  refine pv (r_mv rfl) (pv (r_ex (v := .slice a3 n3 c3) rfl rfl) (pv (r_ex (v := .agg #[.int .i64 y3.2.1.Line, .int .i64 y3.2.1.Col]) rfl rfl) (pv (r_ex (v := .int .i64 y3.2.2) rfl rfl) (wl rfl (alS (zs := [.int .i64 0, .int .i64 0]) Try.zeroValue26 rfl hS7 fun w8 b3 im8 hS8 => ?_)))))
  refine pv (r_zs rfl) (wl rfl (st0B (q := 0) hS8 ⟨rfl, rfl⟩ rfl rfl rfl Try.sizeOf26 rfl rfl rfl fun w9 im9 hS9 => ?_))
  have hS9 : Sep g T3 w9 [boxA b3 [.int .i64 y3.2.1.Line, .int .i64 y3.2.1.Col], R, ownA rGToken 33 (.slice a1 n1 c1) y1.1, ownA rGToken 33 (.slice a2 n2 c2) y2.1, ownA rGToken 33 (.slice a3 n3 c3) y3.1] := hS9
  refine pv (r_zi rfl) (nil (t_thenR [(1, .slice a1 n1 c1), (3, .int .i64 y1.2.2), (4, .slice a2 n2 c2), (6, .int .i64 y2.2.2), (8, .pointer (some ⟨b3, 0, none⟩)), (9, .int .i64 y3.2.2)] ⟨rfl, rfl, rfl, rfl, rfl, rfl, trivial⟩ fun J => ?_))
  refine sq2 ?_
  refine rg (pv (r_mi rfl) (pv (r_ib rfl rfl rfl) (pv (r_mb rfl) (?_))))
  rcases Bool.eq_false_or_eq_true (y1.2.2 == 0) with hb1 | hb1
  · have hm := ctrue hb1 hm
    refine gT (d0 := 27) rfl rfl hb1 (pv (r_mi rfl) (gT (d0 := 27) rfl rfl hb1 (pv (r_ib rfl rfl rfl) (pv (r_pkt rfl hb1 rfl) (pv (r_mb rfl) (?_))))))
    rcases Bool.eq_false_or_eq_true (y2.2.2 == 0) with hb2 | hb2
    · have hm := ctrue hb2 hm
      refine gT (d0 := 31) rfl rfl hb2 (pv (r_mi rfl) (gT (d0 := 31) rfl rfl hb2 (pv (r_ib rfl rfl rfl) (pv (r_pkt rfl hb2 rfl) (pv (r_mb rfl) (?_))))))
      rcases Bool.eq_false_or_eq_true (y3.2.2 == 3) with hb3 | hb3
      · have hm := ctrue hb3 hm
        refine gT (d0 := 35) rfl rfl hb3 (pv (r_ms rfl) (gT (d0 := 35) rfl rfl hb3 (pv (r_lnV rfl (hS9.own (i := 2) ⟨rfl, rfl⟩).v Try.underlying24) (gT (d0 := 35) rfl rfl hb3 (pv (r_ib rfl rfl rfl) (pv (r_pkt rfl hb3 rfl) (pv (r_mb rfl) (?_))))))))
        rcases Bool.eq_false_or_eq_true ((List.length y1.1 : Int) == 4) with hb4 | hb4
        · have hm := ctrue hb4 hm
          obtain ⟨u1, hx4, hm⟩ := bindS hm
          obtain ⟨b4, of1, cs1, k1, cp1, hv1, hp1, hl1, he1, hr1, hc1⟩ := (hS9.own (i := 2) ⟨rfl, rfl⟩).v.ixq hx4 rfl
          cases rGToken_open hr1
          refine gT (d0 := 40) rfl rfl hb4 (pv (r_ms rfl) (gT (d0 := 40) rfl rfl hb4 (pv (r_ixe hv1 rfl Try.underlying24 Try.sizeOf33 hp1 hl1 he1) (gT (d0 := 40) rfl rfl hb4 (pv (r_fa rfl Try.underlying33 rfl Try.sizeOf9 rfl) (gT (d0 := 40) rfl rfl hb4 (pv (r_ld rfl Try.isAgg9 (hc1.get (j := 1) rfl)) (gT (d0 := 40) rfl rfl hb4 (pv (r_sqL rfl rfl) (pv (r_pkt rfl hb4 rfl) (pv (r_mb rfl) (?_))))))))))))
          rcases Bool.eq_false_or_eq_true (decide (u1.Text = ([43, 61] : List UInt8))) with hb5 | hb5
          · have hm := ctrue hb5 hm
            obtain ⟨u2, hx5, hm⟩ := bindS hm
            obtain ⟨b5, of2, cs2, k2, cp2, hv2, hp2, hl2, he2, hr2, hc2⟩ := (hS9.own (i := 2) ⟨rfl, rfl⟩).v.ixq hx5 rfl
            cases rGToken_open hr2
            refine gT (d0 := 47) rfl rfl hb5 (pv (r_ms rfl) (gT (d0 := 47) rfl rfl hb5 (pv (r_ixe hv2 rfl Try.underlying24 Try.sizeOf33 hp2 hl2 he2) (gT (d0 := 47) rfl rfl hb5 (pv (r_fa rfl Try.underlying33 rfl Try.sizeOf31 rfl) (gT (d0 := 47) rfl rfl hb5 (pv (r_ld rfl Try.isAgg31 (hc2.get (j := 2) rfl)) (gT (d0 := 47) rfl rfl hb5 (pv (r_ib rfl rfl rfl) (pv (r_pkt rfl hb5 rfl) (pv (r_mb rfl) (?_))))))))))))
            rcases Bool.eq_false_or_eq_true (u2.Num == 31) with hb6 | hb6
            · have hm := ctrue hb6 hm
              refine gT (d0 := 54) rfl rfl hb6 (pv (r_ms rfl) (gT (d0 := 54) rfl rfl hb6 (pv (r_lnV rfl (hS9.own (i := 3) ⟨rfl, rfl⟩).v Try.underlying24) (gT (d0 := 54) rfl rfl hb6 (pv (r_ib rfl rfl rfl) (pv (r_pkt rfl hb6 rfl) (pv (r_mb rfl) (?_))))))))
              rcases Bool.eq_false_or_eq_true ((List.length y2.1 : Int) == 1) with hb7 | hb7
              · have hm := ctrue hb7 hm
                obtain ⟨u3, hx6, hm⟩ := bindS hm
                obtain ⟨b6, of3, cs3, k3, cp3, hv3, hp3, hl3, he3, hr3, hc3⟩ := (hS9.own (i := 3) ⟨rfl, rfl⟩).v.ixq hx6 rfl
                cases rGToken_open hr3
                refine gT (d0 := 59) rfl rfl hb7 (pv (r_ms rfl) (gT (d0 := 59) rfl rfl hb7 (pv (r_ixe hv3 rfl Try.underlying24 Try.sizeOf33 hp3 hl3 he3) (gT (d0 := 59) rfl rfl hb7 (pv (r_fa rfl Try.underlying33 rfl Try.sizeOf31 rfl) (gT (d0 := 59) rfl rfl hb7 (pv (r_ld rfl Try.isAgg31 (hc3.get (j := 2) rfl)) (gT (d0 := 59) rfl rfl hb7 (pv (r_ib rfl rfl rfl) (pv (r_pkt rfl hb7 rfl) (pv (r_mb rfl) (?_))))))))))))
                rcases Bool.eq_false_or_eq_true (u3.Num == 97) with hb8 | hb8
                · have hm := ctrue hb8 hm
                  refine gT (d0 := 66) rfl rfl hb8 (pv (r_ldS rfl Try.isAgg26 Try.sizeOf26 rfl (hS9.cells0 (i := 0) ⟨rfl, rfl⟩ (o := 0) rfl) (cs := [.int .i64 y3.2.1.Line, .int .i64 y3.2.1.Col])) (gT (d0 := 66) rfl rfl hb8 (pv (r_bd (by kernel_rfl) rfl (u := .agg #[.int .i64 1, .int .i64 1])) (gT (d0 := 66) rfl rfl hb8 (pv (r_seqe rfl rfl (eq_26 y3.2.1.Line y3.2.1.Col 1 1)) (pv (r_pkt rfl hb8 rfl) (pv (r_zb rfl) (nil (t_thenR [(0, .bool ((y3.2.1.Line == 1) && (y3.2.1.Col == 1)))] ⟨rfl, trivial⟩ fun J => ?_)))))))))
                  have hm := Option.some.inj hm
                  subst hm
                  exact rtn (ret1 rfl rfl ⟨_, rfl, _, (Im.trans im1 (Im.trans im2 (Im.trans im3 (Im.trans im4 (Im.trans im5 (Im.trans im6 (Im.trans im7 (Im.trans im8 im9)))))))), ⟨rfl, hS9.sel [1] rfl, trivial⟩⟩)
                · have hm := cfalse hb8 hm
                  refine gF (d0 := 66) rfl rfl (by rw [hb8]; rfl) (gF (d0 := 66) rfl rfl (by rw [hb8]; rfl) (gF (d0 := 66) rfl rfl (by rw [hb8]; rfl) (pv (r_pkf rfl hb8 rfl) (pv (r_zb rfl) (nil (t_thenR [(0, .bool false)] ⟨rfl, trivial⟩ fun J => ?_))))))
                  have hm := Option.some.inj hm
                  subst hm
                  exact rtn (ret1 rfl rfl ⟨_, rfl, _, (Im.trans im1 (Im.trans im2 (Im.trans im3 (Im.trans im4 (Im.trans im5 (Im.trans im6 (Im.trans im7 (Im.trans im8 im9)))))))), ⟨rfl, hS9.sel [1] rfl, trivial⟩⟩)
              · have hm := cfalse hb7 hm
                refine gF (d0 := 59) rfl rfl (by rw [hb7]; rfl) (gF (d0 := 59) rfl rfl (by rw [hb7]; rfl) (gF (d0 := 59) rfl rfl (by rw [hb7]; rfl) (gF (d0 := 59) rfl rfl (by rw [hb7]; rfl) (gF (d0 := 59) rfl rfl (by rw [hb7]; rfl) (pv (r_pkf rfl hb7 rfl) (pv (r_mb rfl) (gF (d0 := 66) rfl rfl rfl (gF (d0 := 66) rfl rfl rfl (gF (d0 := 66) rfl rfl rfl (pv (r_pkf rfl rfl rfl) (pv (r_zb rfl) (nil (t_thenR [(0, .bool false)] ⟨rfl, trivial⟩ fun J => ?_)))))))))))))
                have hm := Option.some.inj hm
                subst hm
                exact rtn (ret1 rfl rfl ⟨_, rfl, _, (Im.trans im1 (Im.trans im2 (Im.trans im3 (Im.trans im4 (Im.trans im5 (Im.trans im6 (Im.trans im7 (Im.trans im8 im9)))))))), ⟨rfl, hS9.sel [1] rfl, trivial⟩⟩)
            · have hm := cfalse hb6 hm
              refine gF (d0 := 54) rfl rfl (by rw [hb6]; rfl) (gF (d0 := 54) rfl rfl (by rw [hb6]; rfl) (gF (d0 := 54) rfl rfl (by rw [hb6]; rfl) (pv (r_pkf rfl hb6 rfl) (pv (r_mb rfl) (gF (d0 := 59) rfl rfl rfl (gF (d0 := 59) rfl rfl rfl (gF (d0 := 59) rfl rfl rfl (gF (d0 := 59) rfl rfl rfl (gF (d0 := 59) rfl rfl rfl (pv (r_pkf rfl rfl rfl) (pv (r_mb rfl) (gF (d0 := 66) rfl rfl rfl (gF (d0 := 66) rfl rfl rfl (gF (d0 := 66) rfl rfl rfl (pv (r_pkf rfl rfl rfl) (pv (r_zb rfl) (nil (t_thenR [(0, .bool false)] ⟨rfl, trivial⟩ fun J => ?_))))))))))))))))))
              have hm := Option.some.inj hm
              subst hm
              exact rtn (ret1 rfl rfl ⟨_, rfl, _, (Im.trans im1 (Im.trans im2 (Im.trans im3 (Im.trans im4 (Im.trans im5 (Im.trans im6 (Im.trans im7 (Im.trans im8 im9)))))))), ⟨rfl, hS9.sel [1] rfl, trivial⟩⟩)
          · have hm := cfalse hb5 hm
            refine gF (d0 := 47) rfl rfl (by rw [hb5]; rfl) (gF (d0 := 47) rfl rfl (by rw [hb5]; rfl) (gF (d0 := 47) rfl rfl (by rw [hb5]; rfl) (gF (d0 := 47) rfl rfl (by rw [hb5]; rfl) (gF (d0 := 47) rfl rfl (by rw [hb5]; rfl) (pv (r_pkf rfl hb5 rfl) (pv (r_mb rfl) (gF (d0 := 54) rfl rfl rfl (gF (d0 := 54) rfl rfl rfl (gF (d0 := 54) rfl rfl rfl (pv (r_pkf rfl rfl rfl) (pv (r_mb rfl) (gF (d0 := 59) rfl rfl rfl (gF (d0 := 59) rfl rfl rfl (gF (d0 := 59) rfl rfl rfl (gF (d0 := 59) rfl rfl rfl (gF (d0 := 59) rfl rfl rfl (pv (r_pkf rfl rfl rfl) (pv (r_mb rfl) (gF (d0 := 66) rfl rfl rfl (gF (d0 := 66) rfl rfl rfl (gF (d0 := 66) rfl rfl rfl (pv (r_pkf rfl rfl rfl) (pv (r_zb rfl) (nil (t_thenR [(0, .bool false)] ⟨rfl, trivial⟩ fun J => ?_)))))))))))))))))))))))))
            have hm := Option.some.inj hm
            subst hm
            exact rtn (ret1 rfl rfl ⟨_, rfl, _, (Im.trans im1 (Im.trans im2 (Im.trans im3 (Im.trans im4 (Im.trans im5 (Im.trans im6 (Im.trans im7 (Im.trans im8 im9)))))))), ⟨rfl, hS9.sel [1] rfl, trivial⟩⟩)
        · have hm := cfalse hb4 hm
          refine gF (d0 := 40) rfl rfl (by rw [hb4]; rfl) (gF (d0 := 40) rfl rfl (by rw [hb4]; rfl) (gF (d0 := 40) rfl rfl (by rw [hb4]; rfl) (gF (d0 := 40) rfl rfl (by rw [hb4]; rfl) (gF (d0 := 40) rfl rfl (by rw [hb4]; rfl) (pv (r_pkf rfl hb4 rfl) (pv (r_mb rfl) (gF (d0 := 47) rfl rfl rfl (gF (d0 := 47) rfl rfl rfl (gF (d0 := 47) rfl rfl rfl (gF (d0 := 47) rfl rfl rfl (gF (d0 := 47) rfl rfl rfl (pv (r_pkf rfl rfl rfl) (pv (r_mb rfl) (gF (d0 := 54) rfl rfl rfl (gF (d0 := 54) rfl rfl rfl (gF (d0 := 54) rfl rfl rfl (pv (r_pkf rfl rfl rfl) (pv (r_mb rfl) (gF (d0 := 59) rfl rfl rfl (gF (d0 := 59) rfl rfl rfl (gF (d0 := 59) rfl rfl rfl (gF (d0 := 59) rfl rfl rfl (gF (d0 := 59) rfl rfl rfl (pv (r_pkf rfl rfl rfl) (pv (r_mb rfl) (gF (d0 := 66) rfl rfl rfl (gF (d0 := 66) rfl rfl rfl (gF (d0 := 66) rfl rfl rfl (pv (r_pkf rfl rfl rfl) (pv (r_zb rfl) (nil (t_thenR [(0, .bool false)] ⟨rfl, trivial⟩ fun J => ?_))))))))))))))))))))))))))))))))
          have hm := Option.some.inj hm
          subst hm
          exact rtn (ret1 rfl rfl ⟨_, rfl, _, (Im.trans im1 (Im.trans im2 (Im.trans im3 (Im.trans im4 (Im.trans im5 (Im.trans im6 (Im.trans im7 (Im.trans im8 im9)))))))), ⟨rfl, hS9.sel [1] rfl, trivial⟩⟩)
      · have hm := cfalse hb3 hm
        refine gF (d0 := 35) rfl rfl (by rw [hb3]; rfl) (gF (d0 := 35) rfl rfl (by rw [hb3]; rfl) (gF (d0 := 35) rfl rfl (by rw [hb3]; rfl) (pv (r_pkf rfl hb3 rfl) (pv (r_mb rfl) (gF (d0 := 40) rfl rfl rfl (gF (d0 := 40) rfl rfl rfl (gF (d0 := 40) rfl rfl rfl (gF (d0 := 40) rfl rfl rfl (gF (d0 := 40) rfl rfl rfl (pv (r_pkf rfl rfl rfl) (pv (r_mb rfl) (gF (d0 := 47) rfl rfl rfl (gF (d0 := 47) rfl rfl rfl (gF (d0 := 47) rfl rfl rfl (gF (d0 := 47) rfl rfl rfl (gF (d0 := 47) rfl rfl rfl (pv (r_pkf rfl rfl rfl) (pv (r_mb rfl) (gF (d0 := 54) rfl rfl rfl (gF (d0 := 54) rfl rfl rfl (gF (d0 := 54) rfl rfl rfl (pv (r_pkf rfl rfl rfl) (pv (r_mb rfl) (gF (d0 := 59) rfl rfl rfl (gF (d0 := 59) rfl rfl rfl (gF (d0 := 59) rfl rfl rfl (gF (d0 := 59) rfl rfl rfl (gF (d0 := 59) rfl rfl rfl (pv (r_pkf rfl rfl rfl) (pv (r_mb rfl) (gF (d0 := 66) rfl rfl rfl (gF (d0 := 66) rfl rfl rfl (gF (d0 := 66) rfl rfl rfl (pv (r_pkf rfl rfl rfl) (pv (r_zb rfl) (nil (t_thenR [(0, .bool false)] ⟨rfl, trivial⟩ fun J => ?_)))))))))))))))))))))))))))))))))))))
        have hm := Option.some.inj hm
        subst hm
        exact rtn (ret1 rfl rfl ⟨_, rfl, _, (Im.trans im1 (Im.trans im2 (Im.trans im3 (Im.trans im4 (Im.trans im5 (Im.trans im6 (Im.trans im7 (Im.trans im8 im9)))))))), ⟨rfl, hS9.sel [1] rfl, trivial⟩⟩)
    · have hm := cfalse hb2 hm
      refine gF (d0 := 31) rfl rfl (by rw [hb2]; rfl) (gF (d0 := 31) rfl rfl (by rw [hb2]; rfl) (pv (r_pkf rfl hb2 rfl) (pv (r_mb rfl) (gF (d0 := 35) rfl rfl rfl (gF (d0 := 35) rfl rfl rfl (gF (d0 := 35) rfl rfl rfl (pv (r_pkf rfl rfl rfl) (pv (r_mb rfl) (gF (d0 := 40) rfl rfl rfl (gF (d0 := 40) rfl rfl rfl (gF (d0 := 40) rfl rfl rfl (gF (d0 := 40) rfl rfl rfl (gF (d0 := 40) rfl rfl rfl (pv (r_pkf rfl rfl rfl) (pv (r_mb rfl) (gF (d0 := 47) rfl rfl rfl (gF (d0 := 47) rfl rfl rfl (gF (d0 := 47) rfl rfl rfl (gF (d0 := 47) rfl rfl rfl (gF (d0 := 47) rfl rfl rfl (pv (r_pkf rfl rfl rfl) (pv (r_mb rfl) (gF (d0 := 54) rfl rfl rfl (gF (d0 := 54) rfl rfl rfl (gF (d0 := 54) rfl rfl rfl (pv (r_pkf rfl rfl rfl) (pv (r_mb rfl) (gF (d0 := 59) rfl rfl rfl (gF (d0 := 59) rfl rfl rfl (gF (d0 := 59) rfl rfl rfl (gF (d0 := 59) rfl rfl rfl (gF (d0 := 59) rfl rfl rfl (pv (r_pkf rfl rfl rfl) (pv (r_mb rfl) (gF (d0 := 66) rfl rfl rfl (gF (d0 := 66) rfl rfl rfl (gF (d0 := 66) rfl rfl rfl (pv (r_pkf rfl rfl rfl) (pv (r_zb rfl) (nil (t_thenR [(0, .bool false)] ⟨rfl, trivial⟩ fun J => ?_)))))))))))))))))))))))))))))))))))))))))
      have hm := Option.some.inj hm
      subst hm
      exact rtn (ret1 rfl rfl ⟨_, rfl, _, (Im.trans im1 (Im.trans im2 (Im.trans im3 (Im.trans im4 (Im.trans im5 (Im.trans im6 (Im.trans im7 (Im.trans im8 im9)))))))), ⟨rfl, hS9.sel [1] rfl, trivial⟩⟩)
  · have hm := cfalse hb1 hm
    refine gF (d0 := 27) rfl rfl (by rw [hb1]; rfl) (gF (d0 := 27) rfl rfl (by rw [hb1]; rfl) (pv (r_pkf rfl hb1 rfl) (pv (r_mb rfl) (gF (d0 := 31) rfl rfl rfl (gF (d0 := 31) rfl rfl rfl (pv (r_pkf rfl rfl rfl) (pv (r_mb rfl) (gF (d0 := 35) rfl rfl rfl (gF (d0 := 35) rfl rfl rfl (gF (d0 := 35) rfl rfl rfl (pv (r_pkf rfl rfl rfl) (pv (r_mb rfl) (gF (d0 := 40) rfl rfl rfl (gF (d0 := 40) rfl rfl rfl (gF (d0 := 40) rfl rfl rfl (gF (d0 := 40) rfl rfl rfl (gF (d0 := 40) rfl rfl rfl (pv (r_pkf rfl rfl rfl) (pv (r_mb rfl) (gF (d0 := 47) rfl rfl rfl (gF (d0 := 47) rfl rfl rfl (gF (d0 := 47) rfl rfl rfl (gF (d0 := 47) rfl rfl rfl (gF (d0 := 47) rfl rfl rfl (pv (r_pkf rfl rfl rfl) (pv (r_mb rfl) (gF (d0 := 54) rfl rfl rfl (gF (d0 := 54) rfl rfl rfl (gF (d0 := 54) rfl rfl rfl (pv (r_pkf rfl rfl rfl) (pv (r_mb rfl) (gF (d0 := 59) rfl rfl rfl (gF (d0 := 59) rfl rfl rfl (gF (d0 := 59) rfl rfl rfl (gF (d0 := 59) rfl rfl rfl (gF (d0 := 59) rfl rfl rfl (pv (r_pkf rfl rfl rfl) (pv (r_mb rfl) (gF (d0 := 66) rfl rfl rfl (gF (d0 := 66) rfl rfl rfl (gF (d0 := 66) rfl rfl rfl (pv (r_pkf rfl rfl rfl) (pv (r_zb rfl) (nil (t_thenR [(0, .bool false)] ⟨rfl, trivial⟩ fun J => ?_)))))))))))))))))))))))))))))))))))))))))))))
    have hm := Option.some.inj hm
    subst hm
    exact rtn (ret1 rfl rfl ⟨_, rfl, _, (Im.trans im1 (Im.trans im2 (Im.trans im3 (Im.trans im4 (Im.trans im5 (Im.trans im6 (Im.trans im7 (Im.trans im8 im9)))))))), ⟨rfl, hS9.sel [1] rfl, trivial⟩⟩)

set_option maxRecDepth 100000 in
set_option maxHeartbeats 1000000 in
theorem law07_LexBlanks_sim {g : World} {T0 : Nat → Prop} {w0 : World} {R : Assn} {p0 : List UInt8} {p1 : List Int} {a1 : Option Addr} {c1 : Nat} {r : Bool} (hS : Sep g T0 w0 [R]) (h1 : SlR (rInt .u8) T0 w0 (.slice a1 (List.length p1) c1) p1) (hG0 : Gi T0 w0 0) (hm : law07_LexBlanks p0 p1 = some r) :
    Calls Try.prog 3 #[.string ⟨p0.toArray⟩, .slice a1 (List.length p1) c1] w0 (RetS T0 w0 fun T w v => v = .bool r ∧ Sep g T w [R] ∧ True) := by
  refine enter (args := [.string ⟨p0.toArray⟩, .slice a1 (List.length p1) c1]) Try.func3 rfl Try.ntmps3 rfl fun J => ?_
  unfold law07_LexBlanks at hm
  refine sq2 ?_
  refine rg (pv (r_zb rfl) (nil (t_then ?_)))
  refine sq2 ?_
  refine sq2 ?_
  refine rg (pv (r_mt rfl) (pv (r_lnt rfl Try.underlying9) (pv (r_ib rfl rfl rfl) (pv (r_mb rfl) (?_)))))
  rcases Bool.eq_false_or_eq_true (decide (1000 < (List.length p0 : Int))) with hb1 | hb1
  · have hm := ctrue hb1 hm
    refine gF (d0 := 19) rfl rfl (by rw [hb1]; rfl) (gF (d0 := 19) rfl rfl (by rw [hb1]; rfl) (gF (d0 := 19) rfl rfl (by rw [hb1]; rfl) (pv (r_pkt rfl hb1 rfl) (nil (t_thenR [(0, .string ⟨p0.toArray⟩), (1, .slice a1 (List.length p1) c1), (23, .bool true)] ⟨rfl, rfl, rfl, trivial⟩ fun J => ?_)))))
    refine cnd (b := true) rfl (fun _ => ?_) (fun h => nomatch h)
    refine sq2 ?_
    obtain ⟨y6, hx15, hm⟩ := bindS hm
    refine rg (wl rfl (calS cf7 rfl (law07_awake_sim  (hS.bun [0] [] rfl) hG0 hx15) rfl fun v6 T13 w18 im18 rv6 => ?_))
    obtain ⟨rfl, hS18, _⟩ := rv6
    have hS18 : Sep g T13 w18 [R] := hS18.unb
    refine pv (r_zb rfl) (nil (t_then ?_))
    have hm := Option.some.inj hm
    subst hm
    exact rtn (r_then (ret1 rfl rfl ⟨_, rfl, _, im18, ⟨rfl, hS18.sel [0] rfl, trivial⟩⟩))
  · have hm := cfalse hb1 hm
    refine gT (d0 := 19) rfl rfl hb1 (pv (r_ms rfl) (gT (d0 := 19) rfl rfl hb1 (pv (r_ln rfl Try.underlying22) (gT (d0 := 19) rfl rfl hb1 (pv (r_ib rfl rfl rfl) (pv (r_pkf rfl hb1 rfl) (nil (t_thenR [(0, .string ⟨p0.toArray⟩), (1, .slice a1 (List.length p1) c1), (23, .bool (decide (400 < (List.length p1 : Int))))] ⟨rfl, rfl, rfl, trivial⟩ fun J => ?_))))))))
    refine cnd rfl (fun hb2 => ?_) (fun hb2 => ?_)
    · have hm := ctrue hb2 hm
      refine sq2 ?_
      obtain ⟨y1, hx1, hm⟩ := bindS hm
      refine rg (wl rfl (calS cf7 rfl (law07_awake_sim  (hS.bun [0] [] rfl) hG0 hx1) rfl fun v1 T1 w1 im1 rv1 => ?_))
      obtain ⟨rfl, hS1, _⟩ := rv1
      have hS1 : Sep g T1 w1 [R] := hS1.unb
      refine pv (r_zb rfl) (nil (t_then ?_))
      have hm := Option.some.inj hm
      subst hm
      exact rtn (r_then (ret1 rfl rfl ⟨_, rfl, _, im1, ⟨rfl, hS1.sel [0] rfl, trivial⟩⟩))
    · have hm := cfalse hb2 hm
      refine skp (t_then ?_)
      refine sq2 ?_
      obtain ⟨y2, hx2, hm⟩ := bindS hm
      refine rg (pv (r_mt rfl) (wl rfl (calS cf8 rfl (lex_Lex_sim (p0 := p0) (hS.bun [0] [] rfl) hG0 hx2) rfl fun v2 T2 w2 im2 rv2 => ?_)))
      obtain ⟨a2, n1, c2, rfl, hS2, _⟩ := rv2
      have hS2 : Sep g T2 w2 [R, ownA rGToken 33 (.slice a2 n1 c2) y2.1] := hS2.unb
      refine pv (r_mv rfl) (pv (r_ex (v := .slice a2 n1 c2) rfl rfl) (pv (r_ex (v := .agg #[.int .i64 y2.2.1.Line, .int .i64 y2.2.1.Col]) rfl rfl) (pv (r_ex (v := .int .i64 y2.2.2) rfl rfl) (wl rfl (alS (zs := [.int .i64 0, .int .i64 0]) Try.zeroValue26 rfl hS2 fun w3 b1 im3 hS3 => ?_)))))
      refine pv (r_zs rfl) (wl rfl (st0B (q := 0) hS3 ⟨rfl, rfl⟩ rfl rfl rfl Try.sizeOf26 rfl rfl rfl fun w4 im4 hS4 => ?_))
      have hS4 : Sep g T2 w4 [boxA b1 [.int .i64 y2.2.1.Line, .int .i64 y2.2.1.Col], R, ownA rGToken 33 (.slice a2 n1 c2) y2.1] := hS4
      refine pv (r_zi rfl) (nil (t_thenR [(1, .slice a1 (List.length p1) c1), (5, .slice a2 n1 c2), (7, .int .i64 y2.2.2)] ⟨rfl, rfl, rfl, trivial⟩ fun J => ?_))
      refine sq2 ?_
      refine sq2 ?_
      refine rg (pv (r_mi rfl) (pv (r_ib rfl rfl rfl) (nil (t_then ?_))))
      refine cnd rfl (fun hb3 => ?_) (fun hb3 => ?_)
      · have hm := ctrue hb3 hm
        refine sq2 ?_
        obtain ⟨y3, hx3, hm⟩ := bindS hm
        refine rg (wl rfl (calS cf7 rfl (law07_awake_sim  (hS4.bun [1] [] rfl) (hG0.mono (Im.trans im2 (Im.trans im3 im4))) hx3) rfl fun v3 T3 w5 im5 rv3 => ?_))
        obtain ⟨rfl, hS5, _⟩ := rv3
        have hS5 : Sep g T3 w5 [R] := hS5.unb
        refine pv (r_zb rfl) (nil (t_thenR [(4, .bool y3)] ⟨rfl, trivial⟩ fun J => ?_))
        have hm := Option.some.inj hm
        subst hm
        exact rtn (r_then (ret1 rfl rfl ⟨_, rfl, _, (Im.trans im2 (Im.trans im3 (Im.trans im4 im5))), ⟨rfl, hS5.sel [0] rfl, trivial⟩⟩))
      · have hm := cfalse hb3 hm
        refine skp (t_then ?_)
        refine sq2 ?_
        refine rg (wl rfl (bsS (r := rStr) (l := ([([32] : List UInt8), ([10] : List UInt8), ([9, 13] : List UInt8), ([32, 47, 42, 32, 42, 32, 47, 32, 39, 32, 42, 47] : List UInt8), ([32, 47, 47, 32, 47, 42, 10] : List UInt8), ([32, 47, 42, 42, 47, 32] : List UInt8)] : List (List UInt8))) (css := [[.string ⟨([32] : List UInt8).toArray⟩], [.string ⟨([10] : List UInt8).toArray⟩], [.string ⟨([9, 13] : List UInt8).toArray⟩], [.string ⟨([32, 47, 42, 32, 42, 32, 47, 32, 39, 32, 42, 47] : List UInt8).toArray⟩], [.string ⟨([32, 47, 47, 32, 47, 42, 10] : List UInt8).toArray⟩], [.string ⟨([32, 47, 42, 42, 47, 32] : List UInt8).toArray⟩]]) hS4 Try.underlying30 Try.sizeOf9 Try.zeroValue9 rfl rfl (by kernel_rfl) rfl ⟨rfl, rfl, rfl, rfl, rfl, rfl, trivial⟩ rfl rfl fun w6 a3 n2 c3 im6 hS6 => ?_))
        refine pv (r_zs rfl) (nil (t_then ?_))
        refine sq2 ?_
        refine rg (pv (r_zt rfl) (nil (t_then ?_)))
        refine sq2 ?_
        refine sq2 ?_
        refine rg (pv (r_zi rfl) (nil (t_then ?_)))
        obtain ⟨o1, ho1, hq1⟩ := bindS hm
        obtain ⟨bd1, hbd1, ho1⟩ := loop_open ho1
        refine blk (wp_loop_ghost (fun m a w7 => ∃ (J : Nat → Value) (T4 : Nat → Prop) (x1 : List UInt8) (x2 : Int), a = env (nf 125) J [(1, .slice a1 (List.length p1) c1), (5, .slice a2 n1 c2), (8, .slice a3 n2 c3), (9, .string ⟨x1.toArray⟩), (10, .int .i64 x2)] ∧ Im T2 w6 T4 w7 ∧ Sep g T4 w7 [ownA rStr 9 (.slice a3 n2 c3) ([([32] : List UInt8), ([10] : List UInt8), ([9, 13] : List UInt8), ([32, 47, 42, 32, 42, 32, 47, 32, 39, 32, 42, 47] : List UInt8), ([32, 47, 47, 32, 47, 42, 10] : List UInt8), ([32, 47, 42, 42, 47, 32] : List UInt8)] : List (List UInt8)), R, ownA rGToken 33 (.slice a2 n1 c2) y2.1] ∧ loopM bd1 m (x1, x2) = some o1) NN ⟨_, _, ([47, 42, 42, 42, 47] : List UInt8), 0, env_has ⟨rfl, rfl, rfl, rfl, rfl, trivial⟩, Im.refl, hS6.sel [0, 2, 3] rfl, ho1⟩ ?_)
        rintro m _ w7 ⟨J, T4, x1, x2, rfl, im7, hS7, ho1⟩
        obtain ⟨m1, z1, rfl, hm, hn1⟩ := loop_round ho1
        rw [hbd1] at hm
        refine sq2 ?_
        refine sq2 ?_
        refine rg (pv (r_mi rfl) (pv (r_ms rfl) (pv (r_lnV rfl (hS7.own (i := 2) ⟨rfl, rfl⟩).v Try.underlying24) (pv (r_ib rfl rfl rfl) (nil (t_then ?_))))))
        refine cnd rfl (fun hb4 => ?_) (fun hb4 => ?_)
        · have hm := ctrue hb4 hm
          refine skp (t_then ?_)
          refine sq2 ?_
          refine blk ?_
          refine sq2 ?_
          refine rg (pv (r_zi rfl) (nil (t_then ?_)))
          obtain ⟨kk1, hkk1, hm⟩ := jn_open hm
          refine cut (fun a w8 => ∃ (J : Nat → Value) (T5 : Nat → Prop) (x3 : Int), a = env (nf 125) J [(1, .slice a1 (List.length p1) c1), (5, .slice a2 n1 c2), (8, .slice a3 n2 c3), (9, .string ⟨x1.toArray⟩), (10, .int .i64 x2), (11, .int .i64 x3)] ∧ Im T4 w7 T5 w8 ∧ Sep g T5 w8 [ownA rStr 9 (.slice a3 n2 c3) ([([32] : List UInt8), ([10] : List UInt8), ([9, 13] : List UInt8), ([32, 47, 42, 32, 42, 32, 47, 32, 39, 32, 42, 47] : List UInt8), ([32, 47, 47, 32, 47, 42, 10] : List UInt8), ([32, 47, 42, 42, 47, 32] : List UInt8)] : List (List UInt8)), R, ownA rGToken 33 (.slice a2 n1 c2) y2.1] ∧ kk1 x3 = some z1) ?_ ?_
          · refine sq2 ?_
            refine rg (pv (r_mi rfl) (pv (r_ms rfl) (pv (r_ln rfl Try.underlying22) (pv (r_ib rfl rfl rfl) (nil (t_thenR [(1, .slice a1 (List.length p1) c1), (5, .slice a2 n1 c2), (8, .slice a3 n2 c3), (9, .string ⟨x1.toArray⟩), (10, .int .i64 x2), (11, .int .i64 0), (44, .bool (decide (x2 < (List.length p1 : Int))))] ⟨rfl, rfl, rfl, rfl, rfl, rfl, rfl, trivial⟩ fun J => ?_))))))
            refine cnd rfl (fun hb5 => ?_) (fun hb5 => ?_)
            · have hm := ctrue hb5 hm
              obtain ⟨u1, hx4, hm⟩ := bindS hm
              obtain ⟨b2, of1, cs1, k1, cp1, hv1, hp1, hl1, he1, hr1, hc1, hT1⟩ := (h1.mono (Im.trans im2 (Im.trans im3 (Im.trans im4 (Im.trans im6 im7))))).ixT hx4 rfl
              cases hr1
              obtain ⟨_, hz1, hm⟩ := bindS hm
              have hz1 := nz_some hz1
              exact rg (pv (r_ms rfl) (pv (r_mi rfl) (pv (r_ixe hv1 rfl Try.underlying22 Try.sizeOf5 hp1 hl1 he1) (pv (r_ld rfl Try.isAgg5 (hc1.get (j := 0) rfl)) (pv (r_cv rfl Try.underlying5 Try.underlying3) (pv (r_ms rfl) (pv (r_lnV rfl (hS7.own (i := 0) ⟨rfl, rfl⟩).v Try.underlying30) (pv (r_irm rfl rfl hz1) (pv (r_zi rfl) (nil (t_then ⟨_, _, (Int.tmod (IntKind.wrap .i64 u1) (List.length ([([32] : List UInt8), ([10] : List UInt8), ([9, 13] : List UInt8), ([32, 47, 42, 32, 42, 32, 47, 32, 39, 32, 42, 47] : List UInt8), ([32, 47, 47, 32, 47, 42, 10] : List UInt8), ([32, 47, 42, 42, 47, 32] : List UInt8)] : List (List UInt8)) : Int)), env_has ⟨rfl, rfl, rfl, rfl, rfl, rfl, trivial⟩, Im.refl, hS7.sel [0, 1, 2] rfl, hm⟩)))))))))))
            · have hm := cfalse hb5 hm
              exact skp (t_then ⟨_, _, 0, env_has ⟨rfl, rfl, rfl, rfl, rfl, rfl, trivial⟩, Im.refl, hS7.sel [0, 1, 2] rfl, hm⟩)
          · rintro _ w8 ⟨J, T5, x3, rfl, im8, hS8, hm⟩
            rw [hkk1] at hm
            obtain ⟨u2, hx5, hm⟩ := bindS hm
            obtain ⟨b3, of2, cs2, k2, cp2, hv2, hp2, hl2, he2, hr2, hc2⟩ := (hS8.own (i := 2) ⟨rfl, rfl⟩).v.ixq hx5 rfl
            cases rGToken_open hr2
            obtain ⟨z_1, hro1, hm⟩ := bindS hm
            obtain ⟨u3, hx6, hm⟩ := bindS hm
            obtain ⟨b4, of3, cs3, k3, cp3, hv3, hp3, hl3, he3, hr3, hc3⟩ := (hS8.own (i := 0) ⟨rfl, rfl⟩).v.ixq hx6 rfl
            cases hr3
            obtain ⟨z_2, hro2, hm⟩ := bindS hm
            refine rq mix (by kernel_rfl) hS8.lt (qv (fun _ hq => r_mt rfl) (qv (fun _ hq => r_ms rfl) (qv (fun _ hq => r_mi rfl) (qv (fun _ hq => r_ixe hv2 rfl Try.underlying24 Try.sizeOf33 hp2 hl2 he2) (qv (fun _ hq => r_fa rfl Try.underlying33 rfl Try.sizeOf9 rfl) (qv (fun _ hq => r_ld rfl Try.isAgg9 (hq.cell (hc2.get (j := 1) rfl))) (qv (fun _ hq => r_sad rfl rfl (room_some hro1)) (qv (fun _ hq => r_ms rfl) (qv (fun _ hq => r_mi rfl) (qv (fun _ hq => r_ixe hv3 rfl Try.underlying30 Try.sizeOf9 hp3 hl3 he3) (qv (fun _ hq => r_ld rfl Try.isAgg9 (hq.cell (hc3.get (j := 0) rfl))) (qv (fun _ hq => r_sad rfl rfl (room_some hro2)) (qv (fun _ hq => r_zt rfl) (qn fun w9 T6 i1 => ?_))))))))))))))
            have im9 := i1.imm
            have hS9 := hS8.keep i1 (fun _ h => h)
            refine t_blk (t_thenR [(1, .slice a1 (List.length p1) c1), (5, .slice a2 n1 c2), (8, .slice a3 n2 c3), (9, .string ⟨((x1 ++ u2.Text) ++ u3).toArray⟩), (10, .int .i64 x2)] ⟨rfl, rfl, rfl, rfl, rfl, trivial⟩ fun J => ?_)
            have hm := Option.some.inj hm
            subst hm
            exact rg (pv (r_mi rfl) (pv (r_ib rfl rfl rfl) (pv (r_zi rfl) (nil (t_then ⟨m1, Nat.lt_succ_self _, _, _, ((x1 ++ u2.Text) ++ u3), (IntKind.wrap .i64 (x2 + 1)), env_has ⟨rfl, rfl, rfl, rfl, rfl, trivial⟩, (Im.trans im7 (Im.trans im8 im9)), hS9.sel [0, 1, 2] rfl, hn1⟩)))))
        · have hm := cfalse hb4 hm
          have hm := Option.some.inj hm
          subst hm
          have hn1 : _ = Lp.brk _ := hn1
          subst hn1
          have hm := thn_brk hq1
          refine xt (x_then (x_then (x_eq (t_thenR [(5, .slice a2 n1 c2), (9, .string ⟨x1.toArray⟩)] ⟨rfl, rfl, trivial⟩ fun J => ?_))))
          refine sq2 ?_
          obtain ⟨z_3, hro3, hm⟩ := bindS hm
          obtain ⟨y4, hx7, hm⟩ := bindS hm
          refine rg (pv (r_mt rfl) (pv (r_sad rfl rfl (room_some hro3)) (wl rfl (calS cf8 rfl (lex_Lex_sim (p0 := x1 ++ ([47, 47] : List UInt8)) (hS7.bun [1, 2] [] rfl) (hG0.mono (Im.trans im2 (Im.trans im3 (Im.trans im4 (Im.trans im6 im7))))) hx7) rfl fun v4 T7 w10 im10 rv4 => ?_))))
          obtain ⟨a4, n3, c4, rfl, hS10, _⟩ := rv4
          have hS10 : Sep g T7 w10 [R, ownA rGToken 33 (.slice a2 n1 c2) y2.1, ownA rGToken 33 (.slice a4 n3 c4) y4.1] := hS10.unb
          refine pv (r_mv rfl) (pv (r_ex (v := .slice a4 n3 c4) rfl rfl) (pv (r_ex (v := .agg #[.int .i64 y4.2.1.Line, .int .i64 y4.2.1.Col]) rfl rfl) (pv (r_ex (v := .int .i64 y4.2.2) rfl rfl) (wl rfl (alS (zs := [.int .i64 0, .int .i64 0]) Try.zeroValue26 rfl hS10 fun w11 b5 im11 hS11 => ?_)))))
          refine pv (r_zs rfl) (wl rfl (st0B (q := 0) hS11 ⟨rfl, rfl⟩ rfl rfl rfl Try.sizeOf26 rfl rfl rfl fun w12 im12 hS12 => ?_))
          have hS12 : Sep g T7 w12 [boxA b5 [.int .i64 y4.2.1.Line, .int .i64 y4.2.1.Col], R, ownA rGToken 33 (.slice a2 n1 c2) y2.1, ownA rGToken 33 (.slice a4 n3 c4) y4.1] := hS12
          refine pv (r_zi rfl) (nil (t_thenR [(5, .slice a2 n1 c2), (12, .slice a4 n3 c4), (14, .int .i64 y4.2.2)] ⟨rfl, rfl, rfl, trivial⟩ fun J => ?_))
          refine sq2 ?_
          refine sq2 ?_
          refine rg (pv (r_mi rfl) (pv (r_ib rfl rfl rfl) (pv (r_mb rfl) (?_))))
          rcases Bool.eq_false_or_eq_true (y4.2.2 != 0) with hb6 | hb6
          · have hm := ctrue hb6 hm
            refine gF (d0 := 74) rfl rfl (by rw [hb6]; rfl) (gF (d0 := 74) rfl rfl (by rw [hb6]; rfl) (gF (d0 := 74) rfl rfl (by rw [hb6]; rfl) (gF (d0 := 74) rfl rfl (by rw [hb6]; rfl) (gF (d0 := 74) rfl rfl (by rw [hb6]; rfl) (pv (r_pkt rfl hb6 rfl) (nil (t_thenR [(5, .slice a2 n1 c2), (12, .slice a4 n3 c4), (80, .bool true)] ⟨rfl, rfl, rfl, trivial⟩ fun J => ?_)))))))
            refine cnd (b := true) rfl (fun _ => ?_) (fun h => nomatch h)
            refine sq2 ?_
            refine rg (pv (r_zb rfl) (nil (t_then ?_)))
            have hm := Option.some.inj hm
            subst hm
            exact rtn (r_then (ret1 rfl rfl ⟨_, rfl, _, (Im.trans im2 (Im.trans im3 (Im.trans im4 (Im.trans im6 (Im.trans im7 (Im.trans im10 (Im.trans im11 im12))))))), ⟨rfl, hS12.sel [1] rfl, trivial⟩⟩))
          · have hm := cfalse hb6 hm
            refine gT (d0 := 74) rfl rfl hb6 (pv (r_ms rfl) (gT (d0 := 74) rfl rfl hb6 (pv (r_lnV rfl (hS12.own (i := 3) ⟨rfl, rfl⟩).v Try.underlying24) (gT (d0 := 74) rfl rfl hb6 (pv (r_ms rfl) (gT (d0 := 74) rfl rfl hb6 (pv (r_lnV rfl (hS12.own (i := 2) ⟨rfl, rfl⟩).v Try.underlying24) (gT (d0 := 74) rfl rfl hb6 (pv (r_ib rfl rfl rfl) (pv (r_pkf rfl hb6 rfl) (nil (t_thenR [(5, .slice a2 n1 c2), (12, .slice a4 n3 c4), (80, .bool ((List.length y4.1 : Int) != (List.length y2.1 : Int)))] ⟨rfl, rfl, rfl, trivial⟩ fun J => ?_))))))))))))
            refine cnd rfl (fun hb7 => ?_) (fun hb7 => ?_)
            · have hm := ctrue hb7 hm
              refine sq2 ?_
              refine rg (pv (r_zb rfl) (nil (t_then ?_)))
              have hm := Option.some.inj hm
              subst hm
              exact rtn (r_then (ret1 rfl rfl ⟨_, rfl, _, (Im.trans im2 (Im.trans im3 (Im.trans im4 (Im.trans im6 (Im.trans im7 (Im.trans im10 (Im.trans im11 im12))))))), ⟨rfl, hS12.sel [1] rfl, trivial⟩⟩))
            · have hm := cfalse hb7 hm
              refine skp (t_then ?_)
              refine sq2 ?_
              refine sq2 ?_
              refine rg (pv (r_zi rfl) (nil (t_then ?_)))
              obtain ⟨o1, ho1, hq1⟩ := bindS hm
              obtain ⟨bd1, hbd1, ho1⟩ := loop_open ho1
              refine blk (wp_loop_ghost (fun m a w13 => ∃ (J : Nat → Value) (T8 : Nat → Prop) (x4 : Int), a = env (nf 125) J [(5, .slice a2 n1 c2), (12, .slice a4 n3 c4), (15, .int .i64 x4)] ∧ Im T7 w12 T8 w13 ∧ Sep g T8 w13 [R, ownA rGToken 33 (.slice a2 n1 c2) y2.1, ownA rGToken 33 (.slice a4 n3 c4) y4.1] ∧ loopM bd1 m x4 = some o1) NN ⟨_, _, 0, env_has ⟨rfl, rfl, rfl, trivial⟩, Im.refl, hS12.sel [1, 2, 3] rfl, ho1⟩ ?_)
              rintro m _ w13 ⟨J, T8, x4, rfl, im13, hS13, ho1⟩
              obtain ⟨m1, z1, rfl, hm, hn1⟩ := loop_round ho1
              rw [hbd1] at hm
              refine sq2 ?_
              refine sq2 ?_
              refine rg (pv (r_mi rfl) (pv (r_ms rfl) (pv (r_lnV rfl (hS13.own (i := 2) ⟨rfl, rfl⟩).v Try.underlying24) (pv (r_ib rfl rfl rfl) (nil (t_then ?_))))))
              refine cnd rfl (fun hb8 => ?_) (fun hb8 => ?_)
              · have hm := ctrue hb8 hm
                refine skp (t_then ?_)
                refine sq2 ?_
                refine blk ?_
                refine sq2 ?_
                obtain ⟨u4, hx8, hm⟩ := bindS hm
                obtain ⟨b6, of4, cs4, k4, cp4, hv4, hp4, hl4, he4, hr4, hc4⟩ := (hS13.own (i := 2) ⟨rfl, rfl⟩).v.ixq hx8 rfl
                cases rGToken_open hr4
                obtain ⟨u5, hx9, hm⟩ := bindS hm
                obtain ⟨b7, of5, cs5, k5, cp5, hv5, hp5, hl5, he5, hr5, hc5⟩ := (hS13.own (i := 1) ⟨rfl, rfl⟩).v.ixq hx9 rfl
                cases rGToken_open hr5
                refine rq mix (by kernel_rfl) hS13.lt (qv (fun _ hq => r_ms rfl) (qv (fun _ hq => r_mi rfl) (qv (fun _ hq => r_ixe hv4 rfl Try.underlying24 Try.sizeOf33 hp4 hl4 he4) (qv (fun _ hq => r_fa rfl Try.underlying33 rfl Try.sizeOf3 rfl) (qv (fun _ hq => r_ld rfl Try.isAgg3 (hq.cell (hc4.get (j := 0) rfl))) (qv (fun _ hq => r_ms rfl) (qv (fun _ hq => r_mi rfl) (qv (fun _ hq => r_ixe hv5 rfl Try.underlying24 Try.sizeOf33 hp5 hl5 he5) (qv (fun _ hq => r_fa rfl Try.underlying33 rfl Try.sizeOf3 rfl) (qv (fun _ hq => r_ld rfl Try.isAgg3 (hq.cell (hc5.get (j := 0) rfl))) (qv (fun _ hq => r_ib rfl rfl rfl) (qv (fun _ hq => r_mb rfl) (?_)))))))))))))
                rcases Bool.eq_false_or_eq_true (u4.Kind != u5.Kind) with hb9 | hb9
                · have hm := ctrue hb9 hm
                  refine qgF (d0 := 98) rfl rfl (by rw [hb9]; rfl) (qgF (d0 := 98) rfl rfl (by rw [hb9]; rfl) (qgF (d0 := 98) rfl rfl (by rw [hb9]; rfl) (qgF (d0 := 98) rfl rfl (by rw [hb9]; rfl) (qgF (d0 := 98) rfl rfl (by rw [hb9]; rfl) (qgF (d0 := 98) rfl rfl (by rw [hb9]; rfl) (qgF (d0 := 98) rfl rfl (by rw [hb9]; rfl) (qgF (d0 := 98) rfl rfl (by rw [hb9]; rfl) (qgF (d0 := 98) rfl rfl (by rw [hb9]; rfl) (qgF (d0 := 98) rfl rfl (by rw [hb9]; rfl) (qgF (d0 := 98) rfl rfl (by rw [hb9]; rfl) (qv (fun _ hq => r_pkt rfl hb9 rfl) (qv (fun _ hq => r_mb rfl) (qgF (d0 := 111) rfl rfl rfl (qgF (d0 := 111) rfl rfl rfl (qgF (d0 := 111) rfl rfl rfl (qgF (d0 := 111) rfl rfl rfl (qgF (d0 := 111) rfl rfl rfl (qgF (d0 := 111) rfl rfl rfl (qgF (d0 := 111) rfl rfl rfl (qgF (d0 := 111) rfl rfl rfl (qgF (d0 := 111) rfl rfl rfl (qgF (d0 := 111) rfl rfl rfl (qgF (d0 := 111) rfl rfl rfl (qv (fun _ hq => r_pkt rfl rfl rfl) (qn fun w16 T11 i4 => ?_)))))))))))))))))))))))))
                  have im16 := i4.imm
                  have hS16 := hS13.keep i4 (fun _ h => h)
                  refine t_thenR [(5, .slice a2 n1 c2), (12, .slice a4 n3 c4), (15, .int .i64 x4), (123, .bool true)] ⟨rfl, rfl, rfl, rfl, trivial⟩ fun J => ?_
                  refine cnd (b := true) rfl (fun _ => ?_) (fun h => nomatch h)
                  refine sq2 ?_
                  refine rg (pv (r_zb rfl) (nil (t_then ?_)))
                  have hm := Option.some.inj hm
                  subst hm
                  have hn1 : _ = Lp.ret _ := hn1
                  subst hn1
                  have hm := thn_ret hq1
                  have hm := Option.some.inj hm
                  subst hm
                  exact rtn (r_blk (r_then (r_then (r_blk (r_then (ret1 rfl rfl ⟨_, rfl, _, (Im.trans im2 (Im.trans im3 (Im.trans im4 (Im.trans im6 (Im.trans im7 (Im.trans im10 (Im.trans im11 (Im.trans im12 (Im.trans im13 im16))))))))), ⟨rfl, hS16.sel [0] rfl, trivial⟩⟩))))))
                · have hm := cfalse hb9 hm
                  obtain ⟨u6, hx10, hm⟩ := bindS hm
                  obtain ⟨b8, of6, cs6, k6, cp6, hv6, hp6, hl6, he6, hr6, hc6⟩ := (hS13.own (i := 2) ⟨rfl, rfl⟩).v.ixq hx10 rfl
                  cases rGToken_open hr6
                  obtain ⟨u7, hx11, hm⟩ := bindS hm
                  obtain ⟨b9, of7, cs7, k7, cp7, hv7, hp7, hl7, he7, hr7, hc7⟩ := (hS13.own (i := 1) ⟨rfl, rfl⟩).v.ixq hx11 rfl
                  cases rGToken_open hr7
                  refine qgT (d0 := 98) rfl rfl hb9 (qv (fun _ hq => r_ms rfl) (qgT (d0 := 98) rfl rfl hb9 (qv (fun _ hq => r_mi rfl) (qgT (d0 := 98) rfl rfl hb9 (qv (fun _ hq => r_ixe hv6 rfl Try.underlying24 Try.sizeOf33 hp6 hl6 he6) (qgT (d0 := 98) rfl rfl hb9 (qv (fun _ hq => r_fa rfl Try.underlying33 rfl Try.sizeOf9 rfl) (qgT (d0 := 98) rfl rfl hb9 (qv (fun _ hq => r_ld rfl Try.isAgg9 (hq.cell (hc6.get (j := 1) rfl))) (qgT (d0 := 98) rfl rfl hb9 (qv (fun _ hq => r_ms rfl) (qgT (d0 := 98) rfl rfl hb9 (qv (fun _ hq => r_mi rfl) (qgT (d0 := 98) rfl rfl hb9 (qv (fun _ hq => r_ixe hv7 rfl Try.underlying24 Try.sizeOf33 hp7 hl7 he7) (qgT (d0 := 98) rfl rfl hb9 (qv (fun _ hq => r_fa rfl Try.underlying33 rfl Try.sizeOf9 rfl) (qgT (d0 := 98) rfl rfl hb9 (qv (fun _ hq => r_ld rfl Try.isAgg9 (hq.cell (hc7.get (j := 1) rfl))) (qgT (d0 := 98) rfl rfl hb9 (qv (fun _ hq => r_snL rfl rfl) (qv (fun _ hq => r_pkf rfl hb9 rfl) (qv (fun _ hq => r_mb rfl) (?_))))))))))))))))))))))))
                  rcases Bool.eq_false_or_eq_true (!(decide (u6.Text = u7.Text))) with hb10 | hb10
                  · have hm := ctrue hb10 hm
                    refine qgF (d0 := 111) rfl rfl (by rw [hb10]; rfl) (qgF (d0 := 111) rfl rfl (by rw [hb10]; rfl) (qgF (d0 := 111) rfl rfl (by rw [hb10]; rfl) (qgF (d0 := 111) rfl rfl (by rw [hb10]; rfl) (qgF (d0 := 111) rfl rfl (by rw [hb10]; rfl) (qgF (d0 := 111) rfl rfl (by rw [hb10]; rfl) (qgF (d0 := 111) rfl rfl (by rw [hb10]; rfl) (qgF (d0 := 111) rfl rfl (by rw [hb10]; rfl) (qgF (d0 := 111) rfl rfl (by rw [hb10]; rfl) (qgF (d0 := 111) rfl rfl (by rw [hb10]; rfl) (qgF (d0 := 111) rfl rfl (by rw [hb10]; rfl) (qv (fun _ hq => r_pkt rfl hb10 rfl) (qn fun w15 T10 i3 => ?_))))))))))))
                    have im15 := i3.imm
                    have hS15 := hS13.keep i3 (fun _ h => h)
                    refine t_thenR [(5, .slice a2 n1 c2), (12, .slice a4 n3 c4), (15, .int .i64 x4), (123, .bool true)] ⟨rfl, rfl, rfl, rfl, trivial⟩ fun J => ?_
                    refine cnd (b := true) rfl (fun _ => ?_) (fun h => nomatch h)
                    refine sq2 ?_
                    refine rg (pv (r_zb rfl) (nil (t_then ?_)))
                    have hm := Option.some.inj hm
                    subst hm
                    have hn1 : _ = Lp.ret _ := hn1
                    subst hn1
                    have hm := thn_ret hq1
                    have hm := Option.some.inj hm
                    subst hm
                    exact rtn (r_blk (r_then (r_then (r_blk (r_then (ret1 rfl rfl ⟨_, rfl, _, (Im.trans im2 (Im.trans im3 (Im.trans im4 (Im.trans im6 (Im.trans im7 (Im.trans im10 (Im.trans im11 (Im.trans im12 (Im.trans im13 im15))))))))), ⟨rfl, hS15.sel [0] rfl, trivial⟩⟩))))))
                  · have hm := cfalse hb10 hm
                    obtain ⟨u8, hx12, hm⟩ := bindS hm
                    obtain ⟨b10, of8, cs8, k8, cp8, hv8, hp8, hl8, he8, hr8, hc8⟩ := (hS13.own (i := 2) ⟨rfl, rfl⟩).v.ixq hx12 rfl
                    cases rGToken_open hr8
                    obtain ⟨u9, hx13, hm⟩ := bindS hm
                    obtain ⟨b11, of9, cs9, k9, cp9, hv9, hp9, hl9, he9, hr9, hc9⟩ := (hS13.own (i := 1) ⟨rfl, rfl⟩).v.ixq hx13 rfl
                    cases rGToken_open hr9
                    refine qgT (d0 := 111) rfl rfl hb10 (qv (fun _ hq => r_ms rfl) (qgT (d0 := 111) rfl rfl hb10 (qv (fun _ hq => r_mi rfl) (qgT (d0 := 111) rfl rfl hb10 (qv (fun _ hq => r_ixe hv8 rfl Try.underlying24 Try.sizeOf33 hp8 hl8 he8) (qgT (d0 := 111) rfl rfl hb10 (qv (fun _ hq => r_fa rfl Try.underlying33 rfl Try.sizeOf31 rfl) (qgT (d0 := 111) rfl rfl hb10 (qv (fun _ hq => r_ld rfl Try.isAgg31 (hq.cell (hc8.get (j := 2) rfl))) (qgT (d0 := 111) rfl rfl hb10 (qv (fun _ hq => r_ms rfl) (qgT (d0 := 111) rfl rfl hb10 (qv (fun _ hq => r_mi rfl) (qgT (d0 := 111) rfl rfl hb10 (qv (fun _ hq => r_ixe hv9 rfl Try.underlying24 Try.sizeOf33 hp9 hl9 he9) (qgT (d0 := 111) rfl rfl hb10 (qv (fun _ hq => r_fa rfl Try.underlying33 rfl Try.sizeOf31 rfl) (qgT (d0 := 111) rfl rfl hb10 (qv (fun _ hq => r_ld rfl Try.isAgg31 (hq.cell (hc9.get (j := 2) rfl))) (qgT (d0 := 111) rfl rfl hb10 (qv (fun _ hq => r_ib rfl rfl rfl) (qv (fun _ hq => r_pkf rfl hb10 rfl) (qn fun w14 T9 i2 => ?_)))))))))))))))))))))))
                    have im14 := i2.imm
                    have hS14 := hS13.keep i2 (fun _ h => h)
                    refine t_thenR [(5, .slice a2 n1 c2), (12, .slice a4 n3 c4), (15, .int .i64 x4), (123, .bool (u8.Num != u9.Num))] ⟨rfl, rfl, rfl, rfl, trivial⟩ fun J => ?_
                    refine cnd rfl (fun hb11 => ?_) (fun hb11 => ?_)
                    · have hm := ctrue hb11 hm
                      refine sq2 ?_
                      refine rg (pv (r_zb rfl) (nil (t_then ?_)))
                      have hm := Option.some.inj hm
                      subst hm
                      have hn1 : _ = Lp.ret _ := hn1
                      subst hn1
                      have hm := thn_ret hq1
                      have hm := Option.some.inj hm
                      subst hm
                      exact rtn (r_blk (r_then (r_then (r_blk (r_then (ret1 rfl rfl ⟨_, rfl, _, (Im.trans im2 (Im.trans im3 (Im.trans im4 (Im.trans im6 (Im.trans im7 (Im.trans im10 (Im.trans im11 (Im.trans im12 (Im.trans im13 im14))))))))), ⟨rfl, hS14.sel [0] rfl, trivial⟩⟩))))))
                    · have hm := cfalse hb11 hm
                      refine skp (t_blk (t_then ?_))
                      have hm := Option.some.inj hm
                      subst hm
                      exact rg (pv (r_mi rfl) (pv (r_ib rfl rfl rfl) (pv (r_zi rfl) (nil (t_then ⟨m1, Nat.lt_succ_self _, _, _, (IntKind.wrap .i64 (x4 + 1)), env_has ⟨rfl, rfl, rfl, trivial⟩, (Im.trans im13 im14), hS14.sel [0, 1, 2] rfl, hn1⟩)))))
              · have hm := cfalse hb8 hm
                have hm := Option.some.inj hm
                subst hm
                have hn1 : _ = Lp.brk _ := hn1
                subst hn1
                have hm := thn_brk hq1
                refine xt (x_then (x_then (x_eq (t_thenR [] trivial fun J => ?_))))
                refine sq2 ?_
                obtain ⟨y5, hx14, hm⟩ := bindS hm
                refine rg (wl rfl (calS cf7 rfl (law07_awake_sim  (hS13.bun [0] [] rfl) (hG0.mono (Im.trans im2 (Im.trans im3 (Im.trans im4 (Im.trans im6 (Im.trans im7 (Im.trans im10 (Im.trans im11 (Im.trans im12 im13))))))))) hx14) rfl fun v5 T12 w17 im17 rv5 => ?_))
                obtain ⟨rfl, hS17, _⟩ := rv5
                have hS17 : Sep g T12 w17 [R] := hS17.unb
                refine pv (r_zb rfl) (nil (t_then ?_))
                have hm := Option.some.inj hm
                subst hm
                exact rtn (ret1 rfl rfl ⟨_, rfl, _, (Im.trans im2 (Im.trans im3 (Im.trans im4 (Im.trans im6 (Im.trans im7 (Im.trans im10 (Im.trans im11 (Im.trans im12 (Im.trans im13 im17))))))))), ⟨rfl, hS17.sel [0] rfl, trivial⟩⟩)

set_option maxRecDepth 100000 in
set_option maxHeartbeats 1000000 in
theorem law07_LexLong_sim {g : World} {T0 : Nat → Prop} {w0 : World} {R : Assn} {p0 : Int} {r : Bool} (hS : Sep g T0 w0 [R]) (hG0 : Gi T0 w0 0) (hm : law07_LexLong p0 = some r) :
    Calls Try.prog 4 #[.int .i64 p0] w0 (RetS T0 w0 fun T w v => v = .bool r ∧ Sep g T w [R] ∧ True) := by
  refine enter (args := [.int .i64 p0]) Try.func4 rfl Try.ntmps4 rfl fun J => ?_
  unfold law07_LexLong at hm
  refine sq2 ?_
  refine rg (pv (r_zb rfl) (nil (t_then ?_)))
  refine sq2 ?_
  refine rg (pv (r_mi rfl) (pv (r_irm rfl rfl (by decide)) (pv (r_ib rfl rfl rfl) (pv (r_irm rfl rfl (by decide)) (pv (r_ib rfl rfl rfl) (pv (r_zi rfl) (nil (t_thenR [(3, .int .i64 (IntKind.wrap .i64 (1 + (Int.tmod (IntKind.wrap .i64 ((Int.tmod p0 1000) + 1000)) 1000))))] ⟨rfl, trivial⟩ fun J => ?_))))))))
  refine sq2 ?_
  obtain ⟨u1, hx1, hm⟩ := bindS hm
  refine rg (pv (r_mi rfl) (pv (r_ib rfl rfl rfl) (wl rfl (msS (r := (rInt .u8)) hS rfl rfl Try.underlying22 el5 Try.zeroValue5 rfl hx1 fun w1 a1 n1 c1 im1 hS1 => ?_))))
  obtain ⟨y1, hx2, hm⟩ := bindS hm
  refine pv (r_cvs rfl ⟨_, (hS1.own (i := 0) ⟨rfl, rfl⟩).v⟩ Try.underlying22 Try.underlying5 Try.underlying9) (wl rfl (calS cf8 rfl (lex_Lex_sim (p0 := bytesStr u1) (hS1.bun [1] [] rfl) (hG0.mono im1) hx2) rfl fun v1 T1 w2 im2 rv1 => ?_))
  obtain ⟨a2, n2, c2, rfl, hS2, _⟩ := rv1
  have hS2 : Sep g T1 w2 [R, ownA rGToken 33 (.slice a2 n2 c2) y1.1] := hS2.unb
  refine pv (r_mv rfl) (pv (r_ex (v := .slice a2 n2 c2) rfl rfl) (pv (r_ex (v := .agg #[.int .i64 y1.2.1.Line, .int .i64 y1.2.1.Col]) rfl rfl) (pv (r_ex (v := .int .i64 y1.2.2) rfl rfl) (wl rfl (alS (zs := [.int .i64 0, .int .i64 0]) Try.zeroValue26 rfl hS2 fun w3 b1 im3 hS3 => ?_)))))
  refine pv (r_zs rfl) (wl rfl (st0B (q := 0) hS3 ⟨rfl, rfl⟩ rfl rfl rfl Try.sizeOf26 rfl rfl rfl fun w4 im4 hS4 => ?_))
  have hS4 : Sep g T1 w4 [boxA b1 [.int .i64 y1.2.1.Line, .int .i64 y1.2.1.Col], R, ownA rGToken 33 (.slice a2 n2 c2) y1.1] := hS4
  refine pv (r_zi rfl) (nil (t_thenR [(4, .slice a2 n2 c2), (5, .pointer (some ⟨b1, 0, none⟩)), (6, .int .i64 y1.2.2)] ⟨rfl, rfl, rfl, trivial⟩ fun J => ?_))
  refine sq2 ?_
  obtain ⟨y2, hx3, hm⟩ := bindS hm
  refine rg (wl rfl (calS cf7 rfl (law07_awake_sim  (hS4.bun [0, 1, 2] [] rfl) (hG0.mono (Im.trans im1 (Im.trans im2 (Im.trans im3 im4)))) hx3) rfl fun v2 T2 w5 im5 rv2 => ?_))
  obtain ⟨rfl, hS5, _⟩ := rv2
  have hS5 : Sep g T2 w5 [boxA b1 [.int .i64 y1.2.1.Line, .int .i64 y1.2.1.Col], R, ownA rGToken 33 (.slice a2 n2 c2) y1.1] := hS5.unb
  refine pv (r_mb rfl) (?_)
  rcases Bool.eq_false_or_eq_true y2 with hb1 | hb1
  · have hm := ctrue hb1 hm
    refine gT (d0 := 22) rfl rfl hb1 (pv (r_mi rfl) (gT (d0 := 22) rfl rfl hb1 (pv (r_ib rfl rfl rfl) (pv (r_pkt rfl hb1 rfl) (pv (r_mb rfl) (?_))))))
    rcases Bool.eq_false_or_eq_true (y1.2.2 == 2) with hb2 | hb2
    · have hm := ctrue hb2 hm
      refine gT (d0 := 26) rfl rfl hb2 (pv (r_ms rfl) (gT (d0 := 26) rfl rfl hb2 (pv (r_lnV rfl (hS5.own (i := 2) ⟨rfl, rfl⟩).v Try.underlying24) (gT (d0 := 26) rfl rfl hb2 (pv (r_ib rfl rfl rfl) (pv (r_pkt rfl hb2 rfl) (pv (r_mb rfl) (?_))))))))
      rcases Bool.eq_false_or_eq_true ((List.length y1.1 : Int) == 0) with hb3 | hb3
      · have hm := ctrue hb3 hm
        refine gT (d0 := 31) rfl rfl hb3 (pv (r_ldS rfl Try.isAgg26 Try.sizeOf26 rfl (hS5.cells0 (i := 0) ⟨rfl, rfl⟩ (o := 0) rfl) (cs := [.int .i64 y1.2.1.Line, .int .i64 y1.2.1.Col])) (gT (d0 := 31) rfl rfl hb3 (pv (r_bd (by kernel_rfl) rfl (u := .agg #[.int .i64 1, .int .i64 1])) (gT (d0 := 31) rfl rfl hb3 (pv (r_seqe rfl rfl (eq_26 y1.2.1.Line y1.2.1.Col 1 1)) (pv (r_pkt rfl hb3 rfl) (pv (r_zb rfl) (nil (t_thenR [(2, .bool ((y1.2.1.Line == 1) && (y1.2.1.Col == 1)))] ⟨rfl, trivial⟩ fun J => ?_)))))))))
        have hm := Option.some.inj hm
        subst hm
        exact rtn (ret1 rfl rfl ⟨_, rfl, _, (Im.trans im1 (Im.trans im2 (Im.trans im3 (Im.trans im4 im5)))), ⟨rfl, hS5.sel [1] rfl, trivial⟩⟩)
      · have hm := cfalse hb3 hm
        refine gF (d0 := 31) rfl rfl (by rw [hb3]; rfl) (gF (d0 := 31) rfl rfl (by rw [hb3]; rfl) (gF (d0 := 31) rfl rfl (by rw [hb3]; rfl) (pv (r_pkf rfl hb3 rfl) (pv (r_zb rfl) (nil (t_thenR [(2, .bool false)] ⟨rfl, trivial⟩ fun J => ?_))))))
        have hm := Option.some.inj hm
        subst hm
        exact rtn (ret1 rfl rfl ⟨_, rfl, _, (Im.trans im1 (Im.trans im2 (Im.trans im3 (Im.trans im4 im5)))), ⟨rfl, hS5.sel [1] rfl, trivial⟩⟩)
    · have hm := cfalse hb2 hm
      refine gF (d0 := 26) rfl rfl (by rw [hb2]; rfl) (gF (d0 := 26) rfl rfl (by rw [hb2]; rfl) (gF (d0 := 26) rfl rfl (by rw [hb2]; rfl) (pv (r_pkf rfl hb2 rfl) (pv (r_mb rfl) (gF (d0 := 31) rfl rfl rfl (gF (d0 := 31) rfl rfl rfl (gF (d0 := 31) rfl rfl rfl (pv (r_pkf rfl rfl rfl) (pv (r_zb rfl) (nil (t_thenR [(2, .bool false)] ⟨rfl, trivial⟩ fun J => ?_)))))))))))
      have hm := Option.some.inj hm
      subst hm
      exact rtn (ret1 rfl rfl ⟨_, rfl, _, (Im.trans im1 (Im.trans im2 (Im.trans im3 (Im.trans im4 im5)))), ⟨rfl, hS5.sel [1] rfl, trivial⟩⟩)
  · have hm := cfalse hb1 hm
    refine gF (d0 := 22) rfl rfl (by rw [hb1]; rfl) (gF (d0 := 22) rfl rfl (by rw [hb1]; rfl) (pv (r_pkf rfl hb1 rfl) (pv (r_mb rfl) (gF (d0 := 26) rfl rfl rfl (gF (d0 := 26) rfl rfl rfl (gF (d0 := 26) rfl rfl rfl (pv (r_pkf rfl rfl rfl) (pv (r_mb rfl) (gF (d0 := 31) rfl rfl rfl (gF (d0 := 31) rfl rfl rfl (gF (d0 := 31) rfl rfl rfl (pv (r_pkf rfl rfl rfl) (pv (r_zb rfl) (nil (t_thenR [(2, .bool false)] ⟨rfl, trivial⟩ fun J => ?_)))))))))))))))
    have hm := Option.some.inj hm
    subst hm
    exact rtn (ret1 rfl rfl ⟨_, rfl, _, (Im.trans im1 (Im.trans im2 (Im.trans im3 (Im.trans im4 im5)))), ⟨rfl, hS5.sel [1] rfl, trivial⟩⟩)
end Go.Proofs.Ytbahdeehffokcaa
