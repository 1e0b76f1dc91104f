/- That Go functions compute their models. Printed by gen2.py. -/
import Derived.Test.YtbahdeehffokcaaWa
set_option linter.unusedVariables false
namespace Go.Proofs.Ytbahdeehffokcaa
attribute [local irreducible] wpList wpQuiet Code.wp

set_option maxRecDepth 100000 in
set_option maxHeartbeats 1000000 in
theorem ref07_Word_sim {g : World} {T0 : Nat → Prop} {w0 : World} {R : Assn} {p0 : List UInt8} {r : Bool} (hS : Sep g T0 w0 [R])  (hm : ref07_Word p0 = some r) :
    Calls Try.prog 10 #[.string ⟨p0.toArray⟩] w0 (RetS T0 w0 fun T w v => v = .bool r ∧ Sep g T w [R] ∧ True) := by
  refine enter (args := [.string ⟨p0.toArray⟩]) Try.func10 rfl Try.ntmps10 rfl fun J => ?_
  unfold ref07_Word at hm
  refine sq2 ?_
  refine rg (pv (r_zb rfl) (nil (t_then ?_)))
  refine sq2 ?_
  refine rg (wl rfl (bsS (r := rStr) (l := ([([98, 114, 101, 97, 107] : List UInt8), ([99, 97, 115, 101] : List UInt8), ([99, 104, 97, 114] : List UInt8), ([99, 111, 110, 116, 105, 110, 117, 101] : List UInt8), ([100, 101, 102, 97, 117, 108, 116] : List UInt8), ([100, 111] : List UInt8), ([101, 108, 115, 101] : List UInt8), ([102, 111, 114] : List UInt8), ([105, 102] : List UInt8), ([105, 110] : List UInt8), ([105, 110, 116] : List UInt8), ([111, 117, 116] : List UInt8), ([114, 101, 116, 117, 114, 110] : List UInt8), ([115, 105, 122, 101, 111, 102] : List UInt8), ([115, 116, 114, 117, 99, 116] : List UInt8), ([115, 119, 105, 116, 99, 104] : List UInt8), ([118, 111, 105, 100] : List UInt8), ([119, 104, 105, 108, 101] : List UInt8)] : List (List UInt8))) (css := [[.string ⟨([98, 114, 101, 97, 107] : List UInt8).toArray⟩], [.string ⟨([99, 97, 115, 101] : List UInt8).toArray⟩], [.string ⟨([99, 104, 97, 114] : List UInt8).toArray⟩], [.string ⟨([99, 111, 110, 116, 105, 110, 117, 101] : List UInt8).toArray⟩], [.string ⟨([100, 101, 102, 97, 117, 108, 116] : List UInt8).toArray⟩], [.string ⟨([100, 111] : List UInt8).toArray⟩], [.string ⟨([101, 108, 115, 101] : List UInt8).toArray⟩], [.string ⟨([102, 111, 114] : List UInt8).toArray⟩], [.string ⟨([105, 102] : List UInt8).toArray⟩], [.string ⟨([105, 110] : List UInt8).toArray⟩], [.string ⟨([105, 110, 116] : List UInt8).toArray⟩], [.string ⟨([111, 117, 116] : List UInt8).toArray⟩], [.string ⟨([114, 101, 116, 117, 114, 110] : List UInt8).toArray⟩], [.string ⟨([115, 105, 122, 101, 111, 102] : List UInt8).toArray⟩], [.string ⟨([115, 116, 114, 117, 99, 116] : List UInt8).toArray⟩], [.string ⟨([115, 119, 105, 116, 99, 104] : List UInt8).toArray⟩], [.string ⟨([118, 111, 105, 100] : List UInt8).toArray⟩], [.string ⟨([119, 104, 105, 108, 101] : List UInt8).toArray⟩]]) hS Try.underlying30 Try.sizeOf9 Try.zeroValue9 rfl rfl (by kernel_rfl) rfl ⟨rfl, rfl, rfl, rfl, rfl, rfl, rfl, rfl, rfl, rfl, rfl, rfl, rfl, rfl, rfl, rfl, rfl, rfl, trivial⟩ rfl rfl fun w1 a1 n1 c1 im1 hS1 => ?_))
  refine pv (r_zs rfl) (nil (t_then ?_))
  refine sq2 ?_
  refine sq2 ?_
  refine rg (pv (r_zi rfl) (nil (t_then ?_)))
  obtain ⟨o1, ho1, hq1⟩ := bindS hm
  obtain ⟨bd1, hbd1, ho1⟩ := loop_open ho1
  refine blk (wp_loop_ghost (fun m a w2 => ∃ (J : Nat → Value) (T1 : Nat → Prop) (x1 : Int), a = env (nf 18) J [(0, .string ⟨p0.toArray⟩), (3, .slice a1 n1 c1), (4, .int .i64 x1)] ∧ Im T0 w1 T1 w2 ∧ Sep g T1 w2 [ownA rStr 9 (.slice a1 n1 c1) ([([98, 114, 101, 97, 107] : List UInt8), ([99, 97, 115, 101] : List UInt8), ([99, 104, 97, 114] : List UInt8), ([99, 111, 110, 116, 105, 110, 117, 101] : List UInt8), ([100, 101, 102, 97, 117, 108, 116] : List UInt8), ([100, 111] : List UInt8), ([101, 108, 115, 101] : List UInt8), ([102, 111, 114] : List UInt8), ([105, 102] : List UInt8), ([105, 110] : List UInt8), ([105, 110, 116] : List UInt8), ([111, 117, 116] : List UInt8), ([114, 101, 116, 117, 114, 110] : List UInt8), ([115, 105, 122, 101, 111, 102] : List UInt8), ([115, 116, 114, 117, 99, 116] : List UInt8), ([115, 119, 105, 116, 99, 104] : List UInt8), ([118, 111, 105, 100] : List UInt8), ([119, 104, 105, 108, 101] : List UInt8)] : List (List UInt8)), R] ∧ loopM bd1 m x1 = some o1) NN ⟨_, _, 0, env_has ⟨rfl, rfl, rfl, trivial⟩, Im.refl, hS1.sel [0, 1] rfl, ho1⟩ ?_)
  rintro m _ w2 ⟨J, T1, x1, rfl, im2, hS2, ho1⟩
  obtain ⟨m1, z1, rfl, hm, hn1⟩ := loop_round ho1
  rw [hbd1] at hm
  refine sq2 ?_
  refine sq2 ?_
  refine rg (pv (r_mi rfl) (pv (r_ms rfl) (pv (r_lnV rfl (hS2.own (i := 0) ⟨rfl, rfl⟩).v Try.underlying30) (pv (r_ib rfl rfl rfl) (nil (t_then ?_))))))
  refine cnd rfl (fun hb1 => ?_) (fun hb1 => ?_)
  · have hm := ctrue hb1 hm
    refine skp (t_then ?_)
    refine sq2 ?_
    refine blk ?_
    refine sq2 ?_
    obtain ⟨u1, hx1, hm⟩ := bindS hm
    obtain ⟨b1, of1, cs1, k1, cp1, hv1, hp1, hl1, he1, hr1, hc1⟩ := (hS2.own (i := 0) ⟨rfl, rfl⟩).v.ixq hx1 rfl
    cases hr1
    refine rg (pv (r_ms rfl) (pv (r_mi rfl) (pv (r_ixe hv1 rfl Try.underlying30 Try.sizeOf9 hp1 hl1 he1) (pv (r_ld rfl Try.isAgg9 (hc1.get (j := 0) rfl)) (pv (r_mt rfl) (pv (r_sqL rfl rfl) (nil (t_thenR [(0, .string ⟨p0.toArray⟩), (3, .slice a1 n1 c1), (4, .int .i64 x1), (17, .bool (decide (u1 = p0)))] ⟨rfl, rfl, rfl, rfl, trivial⟩ fun J => ?_))))))))
    refine cnd rfl (fun hb2 => ?_) (fun hb2 => ?_)
    · have hm := ctrue hb2 hm
      refine sq2 ?_
      refine rg (pv (r_zb rfl) (nil (t_then ?_)))
      have hm := Option.some.inj hm
      subst hm
      have hn1 : _ = Lp.ret _ := hn1
      subst hn1
      have hm := thn_ret hq1
      have hm := Option.some.inj hm
      subst hm
      exact rtn (r_blk (r_then (r_then (r_blk (r_then (ret1 rfl rfl ⟨_, rfl, _, (Im.trans im1 im2), ⟨rfl, hS2.sel [1] rfl, trivial⟩⟩))))))
    · have hm := cfalse hb2 hm
      refine skp (t_blk (t_then ?_))
      have hm := Option.some.inj hm
      subst hm
      exact rg (pv (r_mi rfl) (pv (r_ib rfl rfl rfl) (pv (r_zi rfl) (nil (t_then ⟨m1, Nat.lt_succ_self _, _, _, (IntKind.wrap .i64 (x1 + 1)), env_has ⟨rfl, rfl, rfl, trivial⟩, im2, hS2.sel [0, 1] rfl, hn1⟩)))))
  · have hm := cfalse hb1 hm
    have hm := Option.some.inj hm
    subst hm
    have hn1 : _ = Lp.brk _ := hn1
    subst hn1
    have hm := thn_brk hq1
    refine xt (x_then (x_then (x_eq (t_thenR [] trivial fun J => ?_))))
    refine sq2 ?_
    refine rg (pv (r_zb rfl) (nil (t_then ?_)))
    have hm := Option.some.inj hm
    subst hm
    exact rtn (ret1 rfl rfl ⟨_, rfl, _, (Im.trans im1 im2), ⟨rfl, hS2.sel [1] rfl, trivial⟩⟩)

set_option maxRecDepth 100000 in
set_option maxHeartbeats 1000000 in
theorem lex_lettered_sim {g : World} {T0 : Nat → Prop} {w0 : World} {R : Assn} {p0 : List UInt8} {r : Bool} (hS : Sep g T0 w0 [R])  (hm : lex_lettered p0 = some r) :
    Calls Try.prog 17 #[.string ⟨p0.toArray⟩] w0 (RetS T0 w0 fun T w v => v = .bool r ∧ Sep g T w [R] ∧ True) := by
  refine enter (args := [.string ⟨p0.toArray⟩]) Try.func17 rfl Try.ntmps17 rfl fun J => ?_
  unfold lex_lettered at hm
  refine sq2 ?_
  refine rg (pv (r_zb rfl) (nil (t_then ?_)))
  refine sq2 ?_
  refine rg (pv (r_mt rfl) (pv (r_snL rfl rfl) (pv (r_mb rfl) (?_))))
  rcases Bool.eq_false_or_eq_true (!(decide (p0 = ([] : List UInt8)))) with hb1 | hb1
  · have hm := ctrue hb1 hm
    obtain ⟨u1, hx1, hm⟩ := bindS hm
    obtain ⟨y1, hx2, hm⟩ := bindS hm
    refine gT (d0 := 5) rfl rfl hb1 (pv (r_mt rfl) (gT (d0 := 5) rfl rfl hb1 (pv (r_sx rfl rfl hx1 Try.underlying9) (gT (d0 := 5) rfl rfl hb1 (wl rfl (calS cf25 rfl (lex_letter_sim (p0 := (UInt8.toNat u1 : Int)) (hS.bun [0] [] rfl)  hx2) rfl fun v1 T1 w1 im1 rv1 => ?_))))))
    obtain ⟨rfl, hS1, _⟩ := rv1
    have hS1 : Sep g T1 w1 [R] := hS1.unb
    refine pv (r_pkt rfl hb1 rfl) (pv (r_mb rfl) (?_))
    rcases Bool.eq_false_or_eq_true y1 with hb2 | hb2
    · have hm := ctrue hb2 hm
      obtain ⟨y2, hx3, hm⟩ := bindS hm
      refine gT (d0 := 10) rfl rfl hb2 (pv (r_mt rfl) (gT (d0 := 10) rfl rfl hb2 (wl rfl (calS cf23 rfl (lex_span_2_sim (p0 := p0) (hS1.bun [0] [] rfl)  hx3) rfl fun v2 T2 w2 im2 rv2 => ?_))))
      obtain ⟨rfl, hS2, _⟩ := rv2
      have hS2 : Sep g T2 w2 [R] := hS2.unb
      refine gT (d0 := 10) rfl rfl hb2 (pv (r_mt rfl) (gT (d0 := 10) rfl rfl hb2 (pv (r_lnt rfl Try.underlying9) (gT (d0 := 10) rfl rfl hb2 (pv (r_ib rfl rfl rfl) (pv (r_pkt rfl hb2 rfl) (pv (r_zb rfl) (nil (t_thenR [(2, .bool (y2 == (List.length p0 : Int)))] ⟨rfl, trivial⟩ fun J => ?_)))))))))
      have hm := Option.some.inj hm
      subst hm
      exact rtn (ret1 rfl rfl ⟨_, rfl, _, (Im.trans im1 im2), ⟨rfl, hS2.sel [0] rfl, trivial⟩⟩)
    · have hm := cfalse hb2 hm
      refine gF (d0 := 10) rfl rfl (by rw [hb2]; rfl) (gF (d0 := 10) rfl rfl (by rw [hb2]; rfl) (gF (d0 := 10) rfl rfl (by rw [hb2]; rfl) (gF (d0 := 10) rfl rfl (by rw [hb2]; rfl) (gF (d0 := 10) rfl rfl (by rw [hb2]; rfl) (pv (r_pkf rfl hb2 rfl) (pv (r_zb rfl) (nil (t_thenR [(2, .bool false)] ⟨rfl, trivial⟩ fun J => ?_))))))))
      have hm := Option.some.inj hm
      subst hm
      exact rtn (ret1 rfl rfl ⟨_, rfl, _, im1, ⟨rfl, hS1.sel [0] rfl, trivial⟩⟩)
  · have hm := cfalse hb1 hm
    refine gF (d0 := 5) rfl rfl (by rw [hb1]; rfl) (gF (d0 := 5) rfl rfl (by rw [hb1]; rfl) (gF (d0 := 5) rfl rfl (by rw [hb1]; rfl) (pv (r_pkf rfl hb1 rfl) (pv (r_mb rfl) (gF (d0 := 10) rfl rfl rfl (gF (d0 := 10) rfl rfl rfl (gF (d0 := 10) rfl rfl rfl (gF (d0 := 10) rfl rfl rfl (gF (d0 := 10) rfl rfl rfl (pv (r_pkf rfl rfl rfl) (pv (r_zb rfl) (nil (t_thenR [(2, .bool false)] ⟨rfl, trivial⟩ fun J => ?_)))))))))))))
    have hm := Option.some.inj hm
    subst hm
    exact rtn (ret1 rfl rfl ⟨_, rfl, _, Im.refl, ⟨rfl, hS.sel [0] rfl, trivial⟩⟩)

set_option maxRecDepth 100000 in
set_option maxHeartbeats 1000000 in
theorem lex_Name_sim {g : World} {T0 : Nat → Prop} {w0 : World} {R : Assn} {p0 : List UInt8} {r : Bool} (hS : Sep g T0 w0 [R])  (hm : lex_Name p0 = some r) :
    Calls Try.prog 11 #[.string ⟨p0.toArray⟩] w0 (RetS T0 w0 fun T w v => v = .bool r ∧ Sep g T w [R] ∧ True) := by
  refine enter (args := [.string ⟨p0.toArray⟩]) Try.func11 rfl Try.ntmps11 rfl fun J => ?_
  unfold lex_Name at hm
  refine sq2 ?_
  refine rg (pv (r_zb rfl) (nil (t_then ?_)))
  refine sq2 ?_
  obtain ⟨y1, hx1, hm⟩ := bindS hm
  refine rg (pv (r_mt rfl) (wl rfl (calS cf17 rfl (lex_lettered_sim (p0 := p0) (hS.bun [0] [] rfl)  hx1) rfl fun v1 T1 w1 im1 rv1 => ?_)))
  obtain ⟨rfl, hS1, _⟩ := rv1
  have hS1 : Sep g T1 w1 [R] := hS1.unb
  refine pv (r_mb rfl) (?_)
  rcases Bool.eq_false_or_eq_true y1 with hb1 | hb1
  · have hm := ctrue hb1 hm
    obtain ⟨y2, hx2, hm⟩ := bindS hm
    refine gT (d0 := 5) rfl rfl hb1 (pv (r_mt rfl) (gT (d0 := 5) rfl rfl hb1 (wl rfl (calS cf9 rfl (lex_Word_sim (p0 := p0) (hS1.bun [0] [] rfl)  hx2) rfl fun v2 T2 w2 im2 rv2 => ?_))))
    obtain ⟨rfl, hS2, _⟩ := rv2
    have hS2 : Sep g T2 w2 [R] := hS2.unb
    refine gT (d0 := 5) rfl rfl hb1 (pv (r_nt rfl) (pv (r_pkt rfl hb1 rfl) (pv (r_mb rfl) (?_))))
    rcases Bool.eq_false_or_eq_true (!y2) with hb2 | hb2
    · have hm := ctrue hb2 hm
      refine gT (d0 := 10) rfl rfl hb2 (pv (r_mt rfl) (gT (d0 := 10) rfl rfl hb2 (pv (r_lnt rfl Try.underlying9) (gT (d0 := 10) rfl rfl hb2 (pv (r_ib rfl rfl rfl) (pv (r_pkt rfl hb2 rfl) (pv (r_zb rfl) (nil (t_thenR [(2, .bool (decide ((List.length p0 : Int) ≤ 31)))] ⟨rfl, trivial⟩ fun J => ?_)))))))))
      have hm := Option.some.inj hm
      subst hm
      exact rtn (ret1 rfl rfl ⟨_, rfl, _, (Im.trans im1 im2), ⟨rfl, hS2.sel [0] rfl, trivial⟩⟩)
    · have hm := cfalse hb2 hm
      refine gF (d0 := 10) rfl rfl (by rw [hb2]; rfl) (gF (d0 := 10) rfl rfl (by rw [hb2]; rfl) (gF (d0 := 10) rfl rfl (by rw [hb2]; rfl) (pv (r_pkf rfl hb2 rfl) (pv (r_zb rfl) (nil (t_thenR [(2, .bool false)] ⟨rfl, trivial⟩ fun J => ?_))))))
      have hm := Option.some.inj hm
      subst hm
      exact rtn (ret1 rfl rfl ⟨_, rfl, _, (Im.trans im1 im2), ⟨rfl, hS2.sel [0] rfl, trivial⟩⟩)
  · have hm := cfalse hb1 hm
    refine gF (d0 := 5) rfl rfl (by rw [hb1]; rfl) (gF (d0 := 5) rfl rfl (by rw [hb1]; rfl) (gF (d0 := 5) rfl rfl (by rw [hb1]; rfl) (pv (r_pkf rfl hb1 rfl) (pv (r_mb rfl) (gF (d0 := 10) rfl rfl rfl (gF (d0 := 10) rfl rfl rfl (gF (d0 := 10) rfl rfl rfl (pv (r_pkf rfl rfl rfl) (pv (r_zb rfl) (nil (t_thenR [(2, .bool false)] ⟨rfl, trivial⟩ fun J => ?_)))))))))))
    have hm := Option.some.inj hm
    subst hm
    exact rtn (ret1 rfl rfl ⟨_, rfl, _, im1, ⟨rfl, hS1.sel [0] rfl, trivial⟩⟩)

set_option maxRecDepth 100000 in
set_option maxHeartbeats 1000000 in
theorem ref07_Letter_sim {g : World} {T0 : Nat → Prop} {w0 : World} {R : Assn} {p0 : Int} {r : Bool} (hS : Sep g T0 w0 [R])  (hm : ref07_Letter p0 = some r) :
    Calls Try.prog 18 #[.int .u8 p0] w0 (RetS T0 w0 fun T w v => v = .bool r ∧ Sep g T w [R] ∧ True) := by
  refine enter (args := [.int .u8 p0]) Try.func18 rfl Try.ntmps18 rfl fun J => ?_
  unfold ref07_Letter at hm
  refine sq2 ?_
  refine rg (pv (r_zb rfl) (nil (t_then ?_)))
  refine sq2 ?_
  refine rg (pv (r_mi rfl) (pv (r_ib rfl rfl rfl) (pv (r_mb rfl) (?_))))
  rcases Bool.eq_false_or_eq_true (decide (97 ≤ p0)) with hb1 | hb1
  · have hm := ctrue hb1 hm
    refine gT (d0 := 5) rfl rfl hb1 (pv (r_mi rfl) (gT (d0 := 5) rfl rfl hb1 (pv (r_ib rfl rfl rfl) (pv (r_pkt rfl hb1 rfl) (pv (r_mb rfl) (?_))))))
    rcases Bool.eq_false_or_eq_true (decide (p0 ≤ 122)) with hb2 | hb2
    · have hm := ctrue hb2 hm
      refine gF (d0 := 9) rfl rfl (by rw [hb2]; rfl) (gF (d0 := 9) rfl rfl (by rw [hb2]; rfl) (gF (d0 := 9) rfl rfl (by rw [hb2]; rfl) (gU (d0 := 12) rfl rfl (gU (d0 := 12) rfl rfl (gF (d0 := 9) rfl rfl (by rw [hb2]; rfl) (pv (r_pkt rfl hb2 rfl) (pv (r_mb rfl) (gF (d0 := 17) rfl rfl rfl (gF (d0 := 17) rfl rfl rfl (pv (r_pkt rfl rfl rfl) (pv (r_zb rfl) (nil (t_thenR [(2, .bool true)] ⟨rfl, trivial⟩ fun J => ?_)))))))))))))
      have hm := Option.some.inj hm
      subst hm
      exact rtn (ret1 rfl rfl ⟨_, rfl, _, Im.refl, ⟨rfl, hS.sel [0] rfl, trivial⟩⟩)
    · have hm := cfalse hb2 hm
      refine gT (d0 := 9) rfl rfl hb2 (pv (r_mi rfl) (gT (d0 := 9) rfl rfl hb2 (pv (r_ib rfl rfl rfl) (gT (d0 := 9) rfl rfl hb2 (pv (r_mb rfl) (?_))))))
      rcases Bool.eq_false_or_eq_true (decide (65 ≤ p0)) with hb3 | hb3
      · have hm := ctrue hb3 hm
        refine gT (d0 := 12) rfl rfl hb3 (pv (r_mi rfl) (gT (d0 := 12) rfl rfl hb3 (pv (r_ib rfl rfl rfl) (gT (d0 := 9) rfl rfl hb2 (pv (r_pkt rfl hb3 rfl) (pv (r_pkf rfl hb2 rfl) (pv (r_mb rfl) (?_))))))))
        rcases Bool.eq_false_or_eq_true (decide (p0 ≤ 90)) with hb4 | hb4
        · have hm := ctrue hb4 hm
          refine gF (d0 := 17) rfl rfl (by rw [hb4]; rfl) (gF (d0 := 17) rfl rfl (by rw [hb4]; rfl) (pv (r_pkt rfl hb4 rfl) (pv (r_zb rfl) (nil (t_thenR [(2, .bool true)] ⟨rfl, trivial⟩ fun J => ?_)))))
          have hm := Option.some.inj hm
          subst hm
          exact rtn (ret1 rfl rfl ⟨_, rfl, _, Im.refl, ⟨rfl, hS.sel [0] rfl, trivial⟩⟩)
        · have hm := cfalse hb4 hm
          refine gT (d0 := 17) rfl rfl hb4 (pv (r_mi rfl) (gT (d0 := 17) rfl rfl hb4 (pv (r_ib rfl rfl rfl) (pv (r_pkf rfl hb4 rfl) (pv (r_zb rfl) (nil (t_thenR [(2, .bool (p0 == 95))] ⟨rfl, trivial⟩ fun J => ?_)))))))
          have hm := Option.some.inj hm
          subst hm
          exact rtn (ret1 rfl rfl ⟨_, rfl, _, Im.refl, ⟨rfl, hS.sel [0] rfl, trivial⟩⟩)
      · have hm := cfalse hb3 hm
        refine gF (d0 := 12) rfl rfl (by rw [hb3]; rfl) (gF (d0 := 12) rfl rfl (by rw [hb3]; rfl) (gT (d0 := 9) rfl rfl hb2 (pv (r_pkf rfl hb3 rfl) (pv (r_pkf rfl hb2 rfl) (pv (r_mb rfl) (gT (d0 := 17) rfl rfl rfl (pv (r_mi rfl) (gT (d0 := 17) rfl rfl rfl (pv (r_ib rfl rfl rfl) (pv (r_pkf rfl rfl rfl) (pv (r_zb rfl) (nil (t_thenR [(2, .bool (p0 == 95))] ⟨rfl, trivial⟩ fun J => ?_)))))))))))))
        have hm := Option.some.inj hm
        subst hm
        exact rtn (ret1 rfl rfl ⟨_, rfl, _, Im.refl, ⟨rfl, hS.sel [0] rfl, trivial⟩⟩)
  · have hm := cfalse hb1 hm
    refine gF (d0 := 5) rfl rfl (by rw [hb1]; rfl) (gF (d0 := 5) rfl rfl (by rw [hb1]; rfl) (pv (r_pkf rfl hb1 rfl) (pv (r_mb rfl) (gT (d0 := 9) rfl rfl rfl (pv (r_mi rfl) (gT (d0 := 9) rfl rfl rfl (pv (r_ib rfl rfl rfl) (gT (d0 := 9) rfl rfl rfl (pv (r_mb rfl) (?_))))))))))
    rcases Bool.eq_false_or_eq_true (decide (65 ≤ p0)) with hb5 | hb5
    · have hm := ctrue hb5 hm
      refine gT (d0 := 12) rfl rfl hb5 (pv (r_mi rfl) (gT (d0 := 12) rfl rfl hb5 (pv (r_ib rfl rfl rfl) (gT (d0 := 9) rfl rfl rfl (pv (r_pkt rfl hb5 rfl) (pv (r_pkf rfl rfl rfl) (pv (r_mb rfl) (?_))))))))
      rcases Bool.eq_false_or_eq_true (decide (p0 ≤ 90)) with hb6 | hb6
      · have hm := ctrue hb6 hm
        refine gF (d0 := 17) rfl rfl (by rw [hb6]; rfl) (gF (d0 := 17) rfl rfl (by rw [hb6]; rfl) (pv (r_pkt rfl hb6 rfl) (pv (r_zb rfl) (nil (t_thenR [(2, .bool true)] ⟨rfl, trivial⟩ fun J => ?_)))))
        have hm := Option.some.inj hm
        subst hm
        exact rtn (ret1 rfl rfl ⟨_, rfl, _, Im.refl, ⟨rfl, hS.sel [0] rfl, trivial⟩⟩)
      · have hm := cfalse hb6 hm
        refine gT (d0 := 17) rfl rfl hb6 (pv (r_mi rfl) (gT (d0 := 17) rfl rfl hb6 (pv (r_ib rfl rfl rfl) (pv (r_pkf rfl hb6 rfl) (pv (r_zb rfl) (nil (t_thenR [(2, .bool (p0 == 95))] ⟨rfl, trivial⟩ fun J => ?_)))))))
        have hm := Option.some.inj hm
        subst hm
        exact rtn (ret1 rfl rfl ⟨_, rfl, _, Im.refl, ⟨rfl, hS.sel [0] rfl, trivial⟩⟩)
    · have hm := cfalse hb5 hm
      refine gF (d0 := 12) rfl rfl (by rw [hb5]; rfl) (gF (d0 := 12) rfl rfl (by rw [hb5]; rfl) (gT (d0 := 9) rfl rfl rfl (pv (r_pkf rfl hb5 rfl) (pv (r_pkf rfl rfl rfl) (pv (r_mb rfl) (gT (d0 := 17) rfl rfl rfl (pv (r_mi rfl) (gT (d0 := 17) rfl rfl rfl (pv (r_ib rfl rfl rfl) (pv (r_pkf rfl rfl rfl) (pv (r_zb rfl) (nil (t_thenR [(2, .bool (p0 == 95))] ⟨rfl, trivial⟩ fun J => ?_)))))))))))))
      have hm := Option.some.inj hm
      subst hm
      exact rtn (ret1 rfl rfl ⟨_, rfl, _, Im.refl, ⟨rfl, hS.sel [0] rfl, trivial⟩⟩)

set_option maxRecDepth 100000 in
set_option maxHeartbeats 1000000 in
theorem ref07_Digit_sim {g : World} {T0 : Nat → Prop} {w0 : World} {R : Assn} {p0 : Int} {r : Bool} (hS : Sep g T0 w0 [R])  (hm : ref07_Digit p0 = some r) :
    Calls Try.prog 31 #[.int .u8 p0] w0 (RetS T0 w0 fun T w v => v = .bool r ∧ Sep g T w [R] ∧ True) := by
  refine enter (args := [.int .u8 p0]) Try.func31 rfl Try.ntmps31 rfl fun J => ?_
  unfold ref07_Digit at hm
  refine sq2 ?_
  refine rg (pv (r_zb rfl) (nil (t_then ?_)))
  refine sq2 ?_
  refine rg (pv (r_mi rfl) (pv (r_ib rfl rfl rfl) (pv (r_mb rfl) (?_))))
  rcases Bool.eq_false_or_eq_true (decide (48 ≤ p0)) with hb1 | hb1
  · have hm := ctrue hb1 hm
    refine gT (d0 := 5) rfl rfl hb1 (pv (r_mi rfl) (gT (d0 := 5) rfl rfl hb1 (pv (r_ib rfl rfl rfl) (pv (r_pkt rfl hb1 rfl) (pv (r_zb rfl) (nil (t_thenR [(2, .bool (decide (p0 ≤ 57)))] ⟨rfl, trivial⟩ fun J => ?_)))))))
    have hm := Option.some.inj hm
    subst hm
    exact rtn (ret1 rfl rfl ⟨_, rfl, _, Im.refl, ⟨rfl, hS.sel [0] rfl, trivial⟩⟩)
  · have hm := cfalse hb1 hm
    refine gF (d0 := 5) rfl rfl (by rw [hb1]; rfl) (gF (d0 := 5) rfl rfl (by rw [hb1]; rfl) (pv (r_pkf rfl hb1 rfl) (pv (r_zb rfl) (nil (t_thenR [(2, .bool false)] ⟨rfl, trivial⟩ fun J => ?_)))))
    have hm := Option.some.inj hm
    subst hm
    exact rtn (ret1 rfl rfl ⟨_, rfl, _, Im.refl, ⟨rfl, hS.sel [0] rfl, trivial⟩⟩)

set_option maxRecDepth 100000 in
set_option maxHeartbeats 1000000 in
theorem ref07_run_sim {g : World} {T0 : Nat → Prop} {w0 : World} {R : Assn} {p0 : List UInt8} {p1 : Int} {r : Int} (hS : Sep g T0 w0 [R])  (hm : ref07_run p0 p1 = some r) :
    Calls Try.prog 19 #[.string ⟨p0.toArray⟩, .int .i64 p1] w0 (RetS T0 w0 fun T w v => v = .int .i64 r ∧ Sep g T w [R] ∧ True) := by
  refine enter (args := [.string ⟨p0.toArray⟩, .int .i64 p1]) Try.func19 rfl Try.ntmps19 rfl fun J => ?_
  unfold ref07_run at hm
  refine sq2 ?_
  refine rg (pv (r_zi rfl) (nil (t_then ?_)))
  refine sq2 ?_
  refine rg (pv (r_zi rfl) (nil (t_then ?_)))
  refine sq2 ?_
  obtain ⟨o1, ho1, hq1⟩ := bindS hm
  obtain ⟨bd1, hbd1, ho1⟩ := loop_open ho1
  refine blk (wp_loop_ghost (fun m a w1 => ∃ (J : Nat → Value) (T1 : Nat → Prop) (x1 : Int), a = env (nf 31) J [(0, .string ⟨p0.toArray⟩), (1, .int .i64 p1), (5, .int .i64 x1)] ∧ Im T0 w0 T1 w1 ∧ Sep g T1 w1 [R] ∧ loopM bd1 m x1 = some o1) NN ⟨_, _, 0, env_has ⟨rfl, rfl, rfl, trivial⟩, Im.refl, hS.sel [0] rfl, ho1⟩ ?_)
  rintro m _ w1 ⟨J, T1, x1, rfl, im1, hS1, ho1⟩
  obtain ⟨m1, z1, rfl, hm, hn1⟩ := loop_round ho1
  rw [hbd1] at hm
  refine sq2 ?_
  refine sq2 ?_
  refine rg (pv (r_mi rfl) (pv (r_mi rfl) (pv (r_ib rfl rfl rfl) (pv (r_mt rfl) (pv (r_lnt rfl Try.underlying9) (pv (r_ib rfl rfl rfl) (pv (r_mb rfl) (?_))))))))
  rcases Bool.eq_false_or_eq_true (decide ((IntKind.wrap .i64 (p1 + x1)) < (List.length p0 : Int))) with hb1 | hb1
  · have hm := ctrue hb1 hm
    obtain ⟨u1, hx1, hm⟩ := bindS hm
    obtain ⟨y1, hx2, hm⟩ := bindS hm
    refine gT (d0 := 12) rfl rfl hb1 (pv (r_mt rfl) (gT (d0 := 12) rfl rfl hb1 (pv (r_mi rfl) (gT (d0 := 12) rfl rfl hb1 (pv (r_mi rfl) (gT (d0 := 12) rfl rfl hb1 (pv (r_ib rfl rfl rfl) (gT (d0 := 12) rfl rfl hb1 (pv (r_sx rfl rfl hx1 Try.underlying9) (gT (d0 := 12) rfl rfl hb1 (wl rfl (calS cf18 rfl (ref07_Letter_sim (p0 := (UInt8.toNat u1 : Int)) (hS1.bun [0] [] rfl)  hx2) rfl fun v1 T2 w2 im2 rv1 => ?_))))))))))))
    obtain ⟨rfl, hS2, _⟩ := rv1
    have hS2 : Sep g T2 w2 [R] := hS2.unb
    refine gT (d0 := 12) rfl rfl hb1 (pv (r_mb rfl) (?_))
    rcases Bool.eq_false_or_eq_true y1 with hb2 | hb2
    · have hm := ctrue hb2 hm
      refine gF (d0 := 19) rfl rfl (by rw [hb2]; rfl) (gF (d0 := 19) rfl rfl (by rw [hb2]; rfl) (gF (d0 := 19) rfl rfl (by rw [hb2]; rfl) (gF (d0 := 19) rfl rfl (by rw [hb2]; rfl) (gF (d0 := 19) rfl rfl (by rw [hb2]; rfl) (gF (d0 := 19) rfl rfl (by rw [hb2]; rfl) (gT (d0 := 12) rfl rfl hb1 (pv (r_pkt rfl hb2 rfl) (pv (r_pkt rfl hb1 rfl) (nil (t_thenR [(0, .string ⟨p0.toArray⟩), (1, .int .i64 p1), (5, .int .i64 x1), (27, .bool true)] ⟨rfl, rfl, rfl, rfl, trivial⟩ fun J => ?_))))))))))
      refine cnd (b := true) rfl (fun _ => ?_) (fun h => nomatch h)
      refine skp (t_then ?_)
      refine blk ?_
      have hm := Option.some.inj hm
      subst hm
      exact rg (pv (r_mi rfl) (pv (r_ib rfl rfl rfl) (pv (r_zi rfl) (nil (t_blk (t_then ⟨m1, Nat.lt_succ_self _, _, _, (IntKind.wrap .i64 (x1 + 1)), env_has ⟨rfl, rfl, rfl, trivial⟩, (Im.trans im1 im2), hS2.sel [0] rfl, hn1⟩))))))
    · have hm := cfalse hb2 hm
      obtain ⟨u2, hx3, hm⟩ := bindS hm
      obtain ⟨y2, hx4, hm⟩ := bindS hm
      refine gT (d0 := 19) rfl rfl hb2 (pv (r_mt rfl) (gT (d0 := 19) rfl rfl hb2 (pv (r_mi rfl) (gT (d0 := 19) rfl rfl hb2 (pv (r_mi rfl) (gT (d0 := 19) rfl rfl hb2 (pv (r_ib rfl rfl rfl) (gT (d0 := 19) rfl rfl hb2 (pv (r_sx rfl rfl hx3 Try.underlying9) (gT (d0 := 19) rfl rfl hb2 (wl rfl (calS cf31 rfl (ref07_Digit_sim (p0 := (UInt8.toNat u2 : Int)) (hS2.bun [0] [] rfl)  hx4) rfl fun v2 T3 w3 im3 rv2 => ?_))))))))))))
      obtain ⟨rfl, hS3, _⟩ := rv2
      have hS3 : Sep g T3 w3 [R] := hS3.unb
      refine gT (d0 := 12) rfl rfl hb1 (pv (r_pkf rfl hb2 rfl) (pv (r_pkt rfl hb1 rfl) (nil (t_thenR [(0, .string ⟨p0.toArray⟩), (1, .int .i64 p1), (5, .int .i64 x1), (27, .bool y2)] ⟨rfl, rfl, rfl, rfl, trivial⟩ fun J => ?_))))
      refine cnd rfl (fun hb3 => ?_) (fun hb3 => ?_)
      · have hm := ctrue hb3 hm
        refine skp (t_then ?_)
        refine blk ?_
        have hm := Option.some.inj hm
        subst hm
        exact rg (pv (r_mi rfl) (pv (r_ib rfl rfl rfl) (pv (r_zi rfl) (nil (t_blk (t_then ⟨m1, Nat.lt_succ_self _, _, _, (IntKind.wrap .i64 (x1 + 1)), env_has ⟨rfl, rfl, rfl, trivial⟩, (Im.trans im1 (Im.trans im2 im3)), hS3.sel [0] rfl, hn1⟩))))))
      · have hm := cfalse hb3 hm
        have hm := Option.some.inj hm
        subst hm
        have hn1 : _ = Lp.brk _ := hn1
        subst hn1
        have hm := thn_brk hq1
        refine xt (x_then (x_then (x_eq (t_then ?_))))
        refine sq2 ?_
        refine rg (pv (r_mi rfl) (pv (r_zi rfl) (nil (t_thenR [(4, .int .i64 x1)] ⟨rfl, trivial⟩ fun J => ?_))))
        have hm := Option.some.inj hm
        subst hm
        exact rtn (ret1 rfl rfl ⟨_, rfl, _, (Im.trans im1 (Im.trans im2 im3)), ⟨rfl, hS3.sel [0] rfl, trivial⟩⟩)
  · have hm := cfalse hb1 hm
    refine gF (d0 := 12) rfl rfl (by rw [hb1]; rfl) (gF (d0 := 12) rfl rfl (by rw [hb1]; rfl) (gF (d0 := 12) rfl rfl (by rw [hb1]; rfl) (gF (d0 := 12) rfl rfl (by rw [hb1]; rfl) (gF (d0 := 12) rfl rfl (by rw [hb1]; rfl) (gF (d0 := 12) rfl rfl (by rw [hb1]; rfl) (gF (d0 := 12) rfl rfl (by rw [hb1]; rfl) (gU (d0 := 19) rfl rfl (gU (d0 := 19) rfl rfl (gU (d0 := 19) rfl rfl (gU (d0 := 19) rfl rfl (gU (d0 := 19) rfl rfl (gU (d0 := 19) rfl rfl (gF (d0 := 12) rfl rfl (by rw [hb1]; rfl) (pv (r_pkf rfl hb1 rfl) (nil (t_thenR [(0, .string ⟨p0.toArray⟩), (1, .int .i64 p1), (5, .int .i64 x1), (27, .bool false)] ⟨rfl, rfl, rfl, rfl, trivial⟩ fun J => ?_))))))))))))))))
    refine cnd (b := false) rfl (fun h => nomatch h) (fun _ => ?_)
    have hm := Option.some.inj hm
    subst hm
    have hn1 : _ = Lp.brk _ := hn1
    subst hn1
    have hm := thn_brk hq1
    refine xt (x_then (x_then (x_eq (t_then ?_))))
    refine sq2 ?_
    refine rg (pv (r_mi rfl) (pv (r_zi rfl) (nil (t_thenR [(4, .int .i64 x1)] ⟨rfl, trivial⟩ fun J => ?_))))
    have hm := Option.some.inj hm
    subst hm
    exact rtn (ret1 rfl rfl ⟨_, rfl, _, im1, ⟨rfl, hS1.sel [0] rfl, trivial⟩⟩)

set_option maxRecDepth 100000 in
set_option maxHeartbeats 1000000 in
theorem ref07_Name_sim {g : World} {T0 : Nat → Prop} {w0 : World} {R : Assn} {p0 : List UInt8} {r : Bool} (hS : Sep g T0 w0 [R])  (hm : ref07_Name p0 = some r) :
    Calls Try.prog 12 #[.string ⟨p0.toArray⟩] w0 (RetS T0 w0 fun T w v => v = .bool r ∧ Sep g T w [R] ∧ True) := by
  refine enter (args := [.string ⟨p0.toArray⟩]) Try.func12 rfl Try.ntmps12 rfl fun J => ?_
  unfold ref07_Name at hm
  refine sq2 ?_
  refine rg (pv (r_zb rfl) (nil (t_then ?_)))
  refine sq2 ?_
  refine rg (pv (r_mt rfl) (pv (r_lnt rfl Try.underlying9) (pv (r_ib rfl rfl rfl) (pv (r_mb rfl) (?_)))))
  rcases Bool.eq_false_or_eq_true (decide (1 ≤ (List.length p0 : Int))) with hb1 | hb1
  · have hm := ctrue hb1 hm
    refine gT (d0 := 6) rfl rfl hb1 (pv (r_mt rfl) (gT (d0 := 6) rfl rfl hb1 (pv (r_lnt rfl Try.underlying9) (gT (d0 := 6) rfl rfl hb1 (pv (r_ib rfl rfl rfl) (pv (r_pkt rfl hb1 rfl) (pv (r_mb rfl) (?_))))))))
    rcases Bool.eq_false_or_eq_true (decide ((List.length p0 : Int) ≤ 31)) with hb2 | hb2
    · have hm := ctrue hb2 hm
      obtain ⟨u1, hx1, hm⟩ := bindS hm
      obtain ⟨y1, hx2, hm⟩ := bindS hm
      refine gT (d0 := 11) rfl rfl hb2 (pv (r_mt rfl) (gT (d0 := 11) rfl rfl hb2 (pv (r_sx rfl rfl hx1 Try.underlying9) (gT (d0 := 11) rfl rfl hb2 (wl rfl (calS cf18 rfl (ref07_Letter_sim (p0 := (UInt8.toNat u1 : Int)) (hS.bun [0] [] rfl)  hx2) rfl fun v1 T1 w1 im1 rv1 => ?_))))))
      obtain ⟨rfl, hS1, _⟩ := rv1
      have hS1 : Sep g T1 w1 [R] := hS1.unb
      refine pv (r_pkt rfl hb2 rfl) (pv (r_mb rfl) (?_))
      rcases Bool.eq_false_or_eq_true y1 with hb3 | hb3
      · have hm := ctrue hb3 hm
        obtain ⟨y2, hx3, hm⟩ := bindS hm
        refine gT (d0 := 16) rfl rfl hb3 (pv (r_mt rfl) (gT (d0 := 16) rfl rfl hb3 (wl rfl (calS cf19 rfl (ref07_run_sim (p0 := p0) (p1 := 0) (hS1.bun [0] [] rfl)  hx3) rfl fun v2 T2 w2 im2 rv2 => ?_))))
        obtain ⟨rfl, hS2, _⟩ := rv2
        have hS2 : Sep g T2 w2 [R] := hS2.unb
        refine gT (d0 := 16) rfl rfl hb3 (pv (r_mt rfl) (gT (d0 := 16) rfl rfl hb3 (pv (r_lnt rfl Try.underlying9) (gT (d0 := 16) rfl rfl hb3 (pv (r_ib rfl rfl rfl) (pv (r_pkt rfl hb3 rfl) (pv (r_mb rfl) (?_))))))))
        rcases Bool.eq_false_or_eq_true (y2 == (List.length p0 : Int)) with hb4 | hb4
        · have hm := ctrue hb4 hm
          obtain ⟨y3, hx4, hm⟩ := bindS hm
          refine gT (d0 := 23) rfl rfl hb4 (pv (r_mt rfl) (gT (d0 := 23) rfl rfl hb4 (wl rfl (calS cf10 rfl (ref07_Word_sim (p0 := p0) (hS2.bun [0] [] rfl)  hx4) rfl fun v3 T3 w3 im3 rv3 => ?_))))
          obtain ⟨rfl, hS3, _⟩ := rv3
          have hS3 : Sep g T3 w3 [R] := hS3.unb
          refine gT (d0 := 23) rfl rfl hb4 (pv (r_nt rfl) (pv (r_pkt rfl hb4 rfl) (pv (r_zb rfl) (nil (t_thenR [(2, .bool (!y3))] ⟨rfl, trivial⟩ fun J => ?_)))))
          have hm := Option.some.inj hm
          subst hm
          exact rtn (ret1 rfl rfl ⟨_, rfl, _, (Im.trans im1 (Im.trans im2 im3)), ⟨rfl, hS3.sel [0] rfl, trivial⟩⟩)
        · have hm := cfalse hb4 hm
          refine gF (d0 := 23) rfl rfl (by rw [hb4]; rfl) (gF (d0 := 23) rfl rfl (by rw [hb4]; rfl) (gF (d0 := 23) rfl rfl (by rw [hb4]; rfl) (pv (r_pkf rfl hb4 rfl) (pv (r_zb rfl) (nil (t_thenR [(2, .bool false)] ⟨rfl, trivial⟩ fun J => ?_))))))
          have hm := Option.some.inj hm
          subst hm
          exact rtn (ret1 rfl rfl ⟨_, rfl, _, (Im.trans im1 im2), ⟨rfl, hS2.sel [0] rfl, trivial⟩⟩)
      · have hm := cfalse hb3 hm
        refine gF (d0 := 16) rfl rfl (by rw [hb3]; rfl) (gF (d0 := 16) rfl rfl (by rw [hb3]; rfl) (gF (d0 := 16) rfl rfl (by rw [hb3]; rfl) (gF (d0 := 16) rfl rfl (by rw [hb3]; rfl) (gF (d0 := 16) rfl rfl (by rw [hb3]; rfl) (pv (r_pkf rfl hb3 rfl) (pv (r_mb rfl) (gF (d0 := 23) rfl rfl rfl (gF (d0 := 23) rfl rfl rfl (gF (d0 := 23) rfl rfl rfl (pv (r_pkf rfl rfl rfl) (pv (r_zb rfl) (nil (t_thenR [(2, .bool false)] ⟨rfl, trivial⟩ fun J => ?_)))))))))))))
        have hm := Option.some.inj hm
        subst hm
        exact rtn (ret1 rfl rfl ⟨_, rfl, _, im1, ⟨rfl, hS1.sel [0] rfl, trivial⟩⟩)
    · have hm := cfalse hb2 hm
      refine gF (d0 := 11) rfl rfl (by rw [hb2]; rfl) (gF (d0 := 11) rfl rfl (by rw [hb2]; rfl) (gF (d0 := 11) rfl rfl (by rw [hb2]; rfl) (pv (r_pkf rfl hb2 rfl) (pv (r_mb rfl) (gF (d0 := 16) rfl rfl rfl (gF (d0 := 16) rfl rfl rfl (gF (d0 := 16) rfl rfl rfl (gF (d0 := 16) rfl rfl rfl (gF (d0 := 16) rfl rfl rfl (pv (r_pkf rfl rfl rfl) (pv (r_mb rfl) (gF (d0 := 23) rfl rfl rfl (gF (d0 := 23) rfl rfl rfl (gF (d0 := 23) rfl rfl rfl (pv (r_pkf rfl rfl rfl) (pv (r_zb rfl) (nil (t_thenR [(2, .bool false)] ⟨rfl, trivial⟩ fun J => ?_))))))))))))))))))
      have hm := Option.some.inj hm
      subst hm
      exact rtn (ret1 rfl rfl ⟨_, rfl, _, Im.refl, ⟨rfl, hS.sel [0] rfl, trivial⟩⟩)
  · have hm := cfalse hb1 hm
    refine gF (d0 := 6) rfl rfl (by rw [hb1]; rfl) (gF (d0 := 6) rfl rfl (by rw [hb1]; rfl) (gF (d0 := 6) rfl rfl (by rw [hb1]; rfl) (pv (r_pkf rfl hb1 rfl) (pv (r_mb rfl) (gF (d0 := 11) rfl rfl rfl (gF (d0 := 11) rfl rfl rfl (gF (d0 := 11) rfl rfl rfl (pv (r_pkf rfl rfl rfl) (pv (r_mb rfl) (gF (d0 := 16) rfl rfl rfl (gF (d0 := 16) rfl rfl rfl (gF (d0 := 16) rfl rfl rfl (gF (d0 := 16) rfl rfl rfl (gF (d0 := 16) rfl rfl rfl (pv (r_pkf rfl rfl rfl) (pv (r_mb rfl) (gF (d0 := 23) rfl rfl rfl (gF (d0 := 23) rfl rfl rfl (gF (d0 := 23) rfl rfl rfl (pv (r_pkf rfl rfl rfl) (pv (r_zb rfl) (nil (t_thenR [(2, .bool false)] ⟨rfl, trivial⟩ fun J => ?_)))))))))))))))))))))))
    have hm := Option.some.inj hm
    subst hm
    exact rtn (ret1 rfl rfl ⟨_, rfl, _, Im.refl, ⟨rfl, hS.sel [0] rfl, trivial⟩⟩)

set_option maxRecDepth 100000 in
set_option maxHeartbeats 1000000 in
theorem law07_LexNames_sim {g : World} {T0 : Nat → Prop} {w0 : World} {R : Assn} {p0 : List UInt8} {r : Bool} (hS : Sep g T0 w0 [R]) (hG0 : Gi T0 w0 0) (hm : law07_LexNames p0 = some r) :
    Calls Try.prog 5 #[.string ⟨p0.toArray⟩] w0 (RetS T0 w0 fun T w v => v = .bool r ∧ Sep g T w [R] ∧ True) := by
  refine enter (args := [.string ⟨p0.toArray⟩]) Try.func5 rfl Try.ntmps5 rfl fun J => ?_
  unfold law07_LexNames at hm
  refine sq2 ?_
  refine rg (pv (r_zb rfl) (nil (t_then ?_)))
  refine sq2 ?_
  refine sq2 ?_
  refine rg (pv (r_mt rfl) (pv (r_lnt rfl Try.underlying9) (pv (r_ib rfl rfl rfl) (nil (t_then ?_)))))
  refine cnd rfl (fun hb1 => ?_) (fun hb1 => ?_)
  · have hm := ctrue hb1 hm
    refine sq2 ?_
    obtain ⟨y1, hx1, hm⟩ := bindS hm
    refine rg (wl rfl (calS cf7 rfl (law07_awake_sim  (hS.bun [0] [] rfl) hG0 hx1) rfl fun v1 T1 w1 im1 rv1 => ?_))
    obtain ⟨rfl, hS1, _⟩ := rv1
    have hS1 : Sep g T1 w1 [R] := hS1.unb
    refine pv (r_zb rfl) (nil (t_thenR [(2, .bool y1)] ⟨rfl, trivial⟩ fun J => ?_))
    have hm := Option.some.inj hm
    subst hm
    exact rtn (r_then (ret1 rfl rfl ⟨_, rfl, _, im1, ⟨rfl, hS1.sel [0] rfl, trivial⟩⟩))
  · have hm := cfalse hb1 hm
    refine skp (t_then ?_)
    refine sq2 ?_
    obtain ⟨y2, hx2, hm⟩ := bindS hm
    refine rg (wl rfl (calS cf7 rfl (law07_awake_sim  (hS.bun [0] [] rfl) hG0 hx2) rfl fun v2 T2 w2 im2 rv2 => ?_))
    obtain ⟨rfl, hS2, _⟩ := rv2
    have hS2 : Sep g T2 w2 [R] := hS2.unb
    refine pv (r_mb rfl) (?_)
    rcases Bool.eq_false_or_eq_true y2 with hb2 | hb2
    · have hm := ctrue hb2 hm
      obtain ⟨y3, hx3, hm⟩ := bindS hm
      refine gT (d0 := 8) rfl rfl hb2 (pv (r_mt rfl) (gT (d0 := 8) rfl rfl hb2 (wl rfl (calS cf9 rfl (lex_Word_sim (p0 := p0) (hS2.bun [0] [] rfl)  hx3) rfl fun v3 T3 w3 im3 rv3 => ?_))))
      obtain ⟨rfl, hS3, _⟩ := rv3
      have hS3 : Sep g T3 w3 [R] := hS3.unb
      obtain ⟨y4, hx4, hm⟩ := bindS hm
      refine gT (d0 := 8) rfl rfl hb2 (pv (r_mt rfl) (gT (d0 := 8) rfl rfl hb2 (wl rfl (calS cf10 rfl (ref07_Word_sim (p0 := p0) (hS3.bun [0] [] rfl)  hx4) rfl fun v4 T4 w4 im4 rv4 => ?_))))
      obtain ⟨rfl, hS4, _⟩ := rv4
      have hS4 : Sep g T4 w4 [R] := hS4.unb
      refine gT (d0 := 8) rfl rfl hb2 (pv (r_bq rfl rfl Try.underlying4) (pv (r_pkt rfl hb2 rfl) (pv (r_mb rfl) (?_))))
      rcases Bool.eq_false_or_eq_true (y3 == y4) with hb3 | hb3
      · have hm := ctrue hb3 hm
        obtain ⟨y5, hx5, hm⟩ := bindS hm
        refine gT (d0 := 15) rfl rfl hb3 (pv (r_mt rfl) (gT (d0 := 15) rfl rfl hb3 (wl rfl (calS cf11 rfl (lex_Name_sim (p0 := p0) (hS4.bun [0] [] rfl)  hx5) rfl fun v5 T5 w5 im5 rv5 => ?_))))
        obtain ⟨rfl, hS5, _⟩ := rv5
        have hS5 : Sep g T5 w5 [R] := hS5.unb
        obtain ⟨y6, hx6, hm⟩ := bindS hm
        refine gT (d0 := 15) rfl rfl hb3 (pv (r_mt rfl) (gT (d0 := 15) rfl rfl hb3 (wl rfl (calS cf12 rfl (ref07_Name_sim (p0 := p0) (hS5.bun [0] [] rfl)  hx6) rfl fun v6 T6 w6 im6 rv6 => ?_))))
        obtain ⟨rfl, hS6, _⟩ := rv6
        have hS6 : Sep g T6 w6 [R] := hS6.unb
        refine gT (d0 := 15) rfl rfl hb3 (pv (r_bq rfl rfl Try.underlying4) (pv (r_pkt rfl hb3 rfl) (pv (r_zb rfl) (nil (t_thenR [(2, .bool (y5 == y6))] ⟨rfl, trivial⟩ fun J => ?_)))))
        have hm := Option.some.inj hm
        subst hm
        exact rtn (ret1 rfl rfl ⟨_, rfl, _, (Im.trans im2 (Im.trans im3 (Im.trans im4 (Im.trans im5 im6)))), ⟨rfl, hS6.sel [0] rfl, trivial⟩⟩)
      · have hm := cfalse hb3 hm
        refine gF (d0 := 15) rfl rfl (by rw [hb3]; rfl) (gF (d0 := 15) rfl rfl (by rw [hb3]; rfl) (gF (d0 := 15) rfl rfl (by rw [hb3]; rfl) (gF (d0 := 15) rfl rfl (by rw [hb3]; rfl) (gF (d0 := 15) rfl rfl (by rw [hb3]; rfl) (pv (r_pkf rfl hb3 rfl) (pv (r_zb rfl) (nil (t_thenR [(2, .bool false)] ⟨rfl, trivial⟩ fun J => ?_))))))))
        have hm := Option.some.inj hm
        subst hm
        exact rtn (ret1 rfl rfl ⟨_, rfl, _, (Im.trans im2 (Im.trans im3 im4)), ⟨rfl, hS4.sel [0] rfl, trivial⟩⟩)
    · have hm := cfalse hb2 hm
      refine gF (d0 := 8) rfl rfl (by rw [hb2]; rfl) (gF (d0 := 8) rfl rfl (by rw [hb2]; rfl) (gF (d0 := 8) rfl rfl (by rw [hb2]; rfl) (gF (d0 := 8) rfl rfl (by rw [hb2]; rfl) (gF (d0 := 8) rfl rfl (by rw [hb2]; rfl) (pv (r_pkf rfl hb2 rfl) (pv (r_mb rfl) (gF (d0 := 15) rfl rfl rfl (gF (d0 := 15) rfl rfl rfl (gF (d0 := 15) rfl rfl rfl (gF (d0 := 15) rfl rfl rfl (gF (d0 := 15) rfl rfl rfl (pv (r_pkf rfl rfl rfl) (pv (r_zb rfl) (nil (t_thenR [(2, .bool false)] ⟨rfl, trivial⟩ fun J => ?_)))))))))))))))
      have hm := Option.some.inj hm
      subst hm
      exact rtn (ret1 rfl rfl ⟨_, rfl, _, im2, ⟨rfl, hS2.sel [0] rfl, trivial⟩⟩)

set_option maxRecDepth 100000 in
set_option maxHeartbeats 1000000 in
theorem lex_Text_sim {g : World} {T0 : Nat → Prop} {w0 : World} {R : Assn} {p0 : List GToken} {a1 : Option Addr} {c1 : Nat} {r : (List UInt8)} (hS : Sep g T0 w0 [R]) (h1 : SlR rGToken T0 w0 (.slice a1 (List.length p0) c1) p0) (hm : lex_Text p0 = some r) :
    Calls Try.prog 13 #[.slice a1 (List.length p0) c1] w0 (RetS T0 w0 fun T w v => v = .string ⟨r.toArray⟩ ∧ Sep g T w [R] ∧ True) := by
  refine enter (args := [.slice a1 (List.length p0) c1]) Try.func13 rfl Try.ntmps13 rfl fun J => ?_
  unfold lex_Text at hm
  refine sq2 ?_
  refine rg (pv (r_zt rfl) (nil (t_then ?_)))
  refine sq2 ?_
  refine rg (pv (r_zs rfl) (nil (t_then ?_)))
  refine sq2 ?_
  refine sq2 ?_
  refine rg (pv (r_ms rfl) (pv (r_ln rfl Try.underlying24) (pv (r_mi rfl) (nil (t_then ?_)))))
  obtain ⟨o1, ho1, hq1⟩ := bindS hm
  obtain ⟨bd1, hbd1, ho1⟩ := loop_open ho1
  have hS1 := hS.nilO rStr 9
  refine blk (wp_loop_ghost (fun m a w1 => ∃ (J : Nat → Value) (T1 : Nat → Prop) (x1 : List (List UInt8)) (a2 : Option Addr) (n1 : Nat) (c2 : Nat) (x2 : Int), a = env (nf 20) J [(3, .slice a2 n1 c2), (6, .slice a1 (List.length p0) c1), (7, .int .i64 (List.length p0 : Int)), (8, .int .i64 x2)] ∧ Im T0 w0 T1 w1 ∧ Sep g T1 w1 [ownA rStr 9 (.slice a2 n1 c2) x1, R] ∧ loopM bd1 m (x1, x2) = some o1) NN ⟨_, _, [], _, _, _, 0, env_has ⟨rfl, rfl, rfl, rfl, trivial⟩, Im.refl, hS1.sel [0, 1] rfl, ho1⟩ ?_)
  rintro m _ w1 ⟨J, T1, x1, a2, n1, c2, x2, rfl, im1, hS2, ho1⟩
  obtain ⟨m1, z1, rfl, hm, hn1⟩ := loop_round ho1
  rw [hbd1] at hm
  refine sq2 ?_
  refine rg (pv (r_ib rfl rfl rfl) (nil (t_then ?_)))
  refine sq2 ?_
  refine cnd rfl (fun hb1 => ?_) (fun hb1 => ?_)
  · have hm := ctrue hb1 hm
    refine skp (t_then ?_)
    refine sq2 ?_
    refine blk ?_
    refine sq2 ?_
    obtain ⟨u1, hx1, hm⟩ := bindS hm
    obtain ⟨b1, of1, cs1, k1, cp1, hv1, hp1, hl1, he1, hr1, hc1, hT1⟩ := (h1.mono im1).ixT hx1 rfl
    cases rGToken_open hr1
    refine rg (pv (r_ixe hv1 rfl Try.underlying24 Try.sizeOf33 hp1 hl1 he1) (pv (r_ldS rfl Try.isAgg33 Try.sizeOf33 rfl hc1 (cs := [.int .i64 u1.Kind, .string ⟨u1.Text.toArray⟩, .int .u32 u1.Num, .int .i64 u1.Pos.Line, .int .i64 u1.Pos.Col])) (wl rfl (alS (zs := [.int .i64 0, .string ⟨([] : List UInt8).toArray⟩, .int .u32 0, .int .i64 0, .int .i64 0]) Try.zeroValue33 rfl hS2 fun w2 b2 im2 hS3 => ?_))))
    refine wl rfl (st0B (q := 0) hS3 ⟨rfl, rfl⟩ rfl rfl rfl Try.sizeOf33 rfl rfl rfl fun w3 im3 hS4 => ?_)
    have hS4 : Sep g T1 w3 [boxA b2 [.int .i64 u1.Kind, .string ⟨u1.Text.toArray⟩, .int .u32 u1.Num, .int .i64 u1.Pos.Line, .int .i64 u1.Pos.Col], ownA rStr 9 (.slice a2 n1 c2) x1, R] := hS4
    refine nil (t_then ?_)
    refine rg (pv (r_ms rfl) (pv (r_fa rfl Try.underlying33 rfl Try.sizeOf9 rfl) (pv (r_ld rfl Try.isAgg9 (hS4.cell0 (i := 0) ⟨rfl, rfl⟩ (j := 1) rfl)) (wl rfl (bsS (r := rStr) (l := ([u1.Text] : List (List UInt8))) (css := [[.string ⟨u1.Text.toArray⟩]]) hS4 Try.underlying30 Try.sizeOf9 Try.zeroValue9 rfl rfl (by kernel_rfl) rfl ⟨rfl, trivial⟩ rfl rfl fun w4 a3 n2 c3 im4 hS5 => ?_)))))
    obtain ⟨z_1, hro1, hm⟩ := bindS hm
    refine wl rfl (apO (q := 2) (l := x1) (us := ([u1.Text] : List (List UInt8))) hS5 ⟨rfl, rfl⟩ rfl rfl (hS5.own (i := 0) ⟨rfl, rfl⟩).v Try.underlying30 el9 (room_some hro1) fun w5 a4 n3 c4 im5 hS6 => ?_)
    have hS6 : Sep g T1 w5 [ownA rStr 9 (.slice a3 n2 c3) ([u1.Text] : List (List UInt8)), boxA b2 [.int .i64 u1.Kind, .string ⟨u1.Text.toArray⟩, .int .u32 u1.Num, .int .i64 u1.Pos.Line, .int .i64 u1.Pos.Col], ownA rStr 9 (.slice a4 n3 c4) (x1 ++ ([u1.Text] : List (List UInt8))), R] := hS6
    refine pv (r_zs rfl) (nil (t_blk (t_thenR [(3, .slice a4 n3 c4), (6, .slice a1 (List.length p0) c1), (7, .int .i64 (List.length p0 : Int)), (8, .int .i64 x2)] ⟨rfl, rfl, rfl, rfl, trivial⟩ fun J => ?_)))
    have hm := Option.some.inj hm
    subst hm
    exact rg (pv (r_ib rfl rfl rfl) (pv (r_mi rfl) (nil (t_then ⟨m1, Nat.lt_succ_self _, _, _, (x1 ++ ([u1.Text] : List (List UInt8))), _, _, _, (IntKind.wrap .i64 (x2 + 1)), env_has ⟨rfl, rfl, rfl, rfl, trivial⟩, (Im.trans im1 (Im.trans im2 (Im.trans im3 (Im.trans im4 im5)))), hS6.sel [2, 3] rfl, hn1⟩))))
  · have hm := cfalse hb1 hm
    have hm := Option.some.inj hm
    subst hm
    have hn1 : _ = Lp.brk _ := hn1
    subst hn1
    have hm := thn_brk hq1
    refine xt (x_then (x_then (x_eq (t_then ?_))))
    refine sq2 ?_
    refine rg (pv (r_ms rfl) (?_))
    obtain ⟨T2, im6, hS7, h2⟩ := hS2.seal 0 ⟨rfl, rfl⟩
    have hsh := h2.len
    subst hsh
    have hS7 : Sep g T2 w1 [empA, R] := hS7
    obtain ⟨y1, hx2, hm⟩ := bindS hm
    refine wl rfl (calS cf20 rfl (strings_Join_sim (p0 := x1) (p1 := ([32] : List UInt8)) (hS7.bun [1] [] rfl) h2 hx2) rfl fun v1 T3 w6 im7 rv1 => ?_)
    obtain ⟨rfl, hS8, _⟩ := rv1
    have hS8 : Sep g T3 w6 [R] := hS8.unb
    refine pv (r_zt rfl) (nil (t_thenR [(2, .string ⟨y1.toArray⟩)] ⟨rfl, trivial⟩ fun J => ?_))
    have hm := Option.some.inj hm
    subst hm
    exact rtn (ret1 rfl rfl ⟨_, rfl, _, (Im.trans im1 (Im.trans im6 im7)), ⟨rfl, hS8.sel [0] rfl, trivial⟩⟩)

set_option maxRecDepth 100000 in
set_option maxHeartbeats 1000000 in
theorem law07_LexBack_sim {g : World} {T0 : Nat → Prop} {w0 : World} {R : Assn} {p0 : List UInt8} {r : Bool} (hS : Sep g T0 w0 [R]) (hG0 : Gi T0 w0 0) (hm : law07_LexBack p0 = some r) :
    Calls Try.prog 6 #[.string ⟨p0.toArray⟩] w0 (RetS T0 w0 fun T w v => v = .bool r ∧ Sep g T w [R] ∧ True) := by
  refine enter (args := [.string ⟨p0.toArray⟩]) Try.func6 rfl Try.ntmps6 rfl fun J => ?_
  unfold law07_LexBack at hm
  refine sq2 ?_
  refine rg (pv (r_zb rfl) (nil (t_then ?_)))
  refine sq2 ?_
  refine sq2 ?_
  refine rg (pv (r_mt rfl) (pv (r_lnt rfl Try.underlying9) (pv (r_ib rfl rfl rfl) (nil (t_then ?_)))))
  refine cnd rfl (fun hb1 => ?_) (fun hb1 => ?_)
  · have hm := ctrue hb1 hm
    refine sq2 ?_
    obtain ⟨y1, hx1, hm⟩ := bindS hm
    refine rg (wl rfl (calS cf7 rfl (law07_awake_sim  (hS.bun [0] [] rfl) hG0 hx1) rfl fun v1 T1 w1 im1 rv1 => ?_))
    obtain ⟨rfl, hS1, _⟩ := rv1
    have hS1 : Sep g T1 w1 [R] := hS1.unb
    refine pv (r_zb rfl) (nil (t_thenR [(2, .bool y1)] ⟨rfl, trivial⟩ fun J => ?_))
    have hm := Option.some.inj hm
    subst hm
    exact rtn (r_then (ret1 rfl rfl ⟨_, rfl, _, im1, ⟨rfl, hS1.sel [0] rfl, trivial⟩⟩))
  · have hm := cfalse hb1 hm
    refine skp (t_then ?_)
    refine sq2 ?_
    obtain ⟨y2, hx2, hm⟩ := bindS hm
    refine rg (pv (r_mt rfl) (wl rfl (calS cf8 rfl (lex_Lex_sim (p0 := p0) (hS.bun [0] [] rfl) hG0 hx2) rfl fun v2 T2 w2 im2 rv2 => ?_)))
    obtain ⟨a1, n1, c1, rfl, hS2, _⟩ := rv2
    have hS2 : Sep g T2 w2 [R, ownA rGToken 33 (.slice a1 n1 c1) y2.1] := hS2.unb
    refine pv (r_mv rfl) (pv (r_ex (v := .slice a1 n1 c1) rfl rfl) (pv (r_ex (v := .agg #[.int .i64 y2.2.1.Line, .int .i64 y2.2.1.Col]) rfl rfl) (pv (r_ex (v := .int .i64 y2.2.2) rfl rfl) (wl rfl (alS (zs := [.int .i64 0, .int .i64 0]) Try.zeroValue26 rfl hS2 fun w3 b1 im3 hS3 => ?_)))))
    refine pv (r_zs rfl) (wl rfl (st0B (q := 0) hS3 ⟨rfl, rfl⟩ rfl rfl rfl Try.sizeOf26 rfl rfl rfl fun w4 im4 hS4 => ?_))
    have hS4 : Sep g T2 w4 [boxA b1 [.int .i64 y2.2.1.Line, .int .i64 y2.2.1.Col], R, ownA rGToken 33 (.slice a1 n1 c1) y2.1] := hS4
    refine pv (r_zi rfl) (nil (t_thenR [(3, .slice a1 n1 c1), (5, .int .i64 y2.2.2)] ⟨rfl, rfl, trivial⟩ fun J => ?_))
    refine sq2 ?_
    refine sq2 ?_
    refine rg (pv (r_mi rfl) (pv (r_ib rfl rfl rfl) (nil (t_then ?_))))
    refine cnd rfl (fun hb2 => ?_) (fun hb2 => ?_)
    · have hm := ctrue hb2 hm
      refine sq2 ?_
      obtain ⟨y3, hx3, hm⟩ := bindS hm
      refine rg (wl rfl (calS cf7 rfl (law07_awake_sim  (hS4.bun [1, 2] [] rfl) (hG0.mono (Im.trans im2 (Im.trans im3 im4))) hx3) rfl fun v3 T3 w5 im5 rv3 => ?_))
      obtain ⟨rfl, hS5, _⟩ := rv3
      have hS5 : Sep g T3 w5 [R, ownA rGToken 33 (.slice a1 n1 c1) y2.1] := hS5.unb
      refine pv (r_mb rfl) (?_)
      rcases Bool.eq_false_or_eq_true y3 with hb3 | hb3
      · have hm := ctrue hb3 hm
        refine gT (d0 := 25) rfl rfl hb3 (pv (r_ms rfl) (gT (d0 := 25) rfl rfl hb3 (pv (r_lnV rfl (hS5.own (i := 1) ⟨rfl, rfl⟩).v Try.underlying24) (gT (d0 := 25) rfl rfl hb3 (pv (r_ib rfl rfl rfl) (pv (r_pkt rfl hb3 rfl) (pv (r_zb rfl) (nil (t_thenR [(2, .bool ((List.length y2.1 : Int) == 0))] ⟨rfl, trivial⟩ fun J => ?_)))))))))
        have hm := Option.some.inj hm
        subst hm
        exact rtn (r_then (ret1 rfl rfl ⟨_, rfl, _, (Im.trans im2 (Im.trans im3 (Im.trans im4 im5))), ⟨rfl, hS5.sel [0] rfl, trivial⟩⟩))
      · have hm := cfalse hb3 hm
        refine gF (d0 := 25) rfl rfl (by rw [hb3]; rfl) (gF (d0 := 25) rfl rfl (by rw [hb3]; rfl) (gF (d0 := 25) rfl rfl (by rw [hb3]; rfl) (pv (r_pkf rfl hb3 rfl) (pv (r_zb rfl) (nil (t_thenR [(2, .bool false)] ⟨rfl, trivial⟩ fun J => ?_))))))
        have hm := Option.some.inj hm
        subst hm
        exact rtn (r_then (ret1 rfl rfl ⟨_, rfl, _, (Im.trans im2 (Im.trans im3 (Im.trans im4 im5))), ⟨rfl, hS5.sel [0] rfl, trivial⟩⟩))
    · have hm := cfalse hb2 hm
      refine skp (t_then ?_)
      refine sq2 ?_
      refine rg (pv (r_ms rfl) (?_))
      obtain ⟨T4, im6, hS6, h1⟩ := hS4.seal 2 ⟨rfl, rfl⟩
      have hsh := h1.len
      subst hsh
      have hS6 : Sep g T4 w4 [boxA b1 [.int .i64 y2.2.1.Line, .int .i64 y2.2.1.Col], R, empA] := hS6
      obtain ⟨y4, hx4, hm⟩ := bindS hm
      refine wl rfl (calS cf13 rfl (lex_Text_sim (p0 := y2.1) (hS6.bun [1] [] rfl) h1 hx4) rfl fun v4 T5 w6 im7 rv4 => ?_)
      obtain ⟨rfl, hS7, _⟩ := rv4
      have hS7 : Sep g T5 w6 [R] := hS7.unb
      refine pv (r_zt rfl) (nil (t_thenR [(3, .slice a1 (List.length y2.1) c1), (6, .string ⟨y4.toArray⟩)] ⟨rfl, rfl, trivial⟩ fun J => ?_))
      refine sq2 ?_
      obtain ⟨y5, hx5, hm⟩ := bindS hm
      refine rg (pv (r_mt rfl) (wl rfl (calS cf8 rfl (lex_Lex_sim (p0 := y4) (hS7.bun [0] [] rfl) (hG0.mono (Im.trans im2 (Im.trans im3 (Im.trans im4 (Im.trans im6 im7))))) hx5) rfl fun v5 T6 w7 im8 rv5 => ?_)))
      obtain ⟨a2, n2, c2, rfl, hS8, _⟩ := rv5
      have hS8 : Sep g T6 w7 [R, ownA rGToken 33 (.slice a2 n2 c2) y5.1] := hS8.unb
      refine pv (r_mv rfl) (pv (r_ex (v := .slice a2 n2 c2) rfl rfl) (pv (r_ex (v := .agg #[.int .i64 y5.2.1.Line, .int .i64 y5.2.1.Col]) rfl rfl) (pv (r_ex (v := .int .i64 y5.2.2) rfl rfl) (wl rfl (alS (zs := [.int .i64 0, .int .i64 0]) Try.zeroValue26 rfl hS8 fun w8 b2 im9 hS9 => ?_)))))
      refine pv (r_zs rfl) (wl rfl (st0B (q := 0) hS9 ⟨rfl, rfl⟩ rfl rfl rfl Try.sizeOf26 rfl rfl rfl fun w9 im10 hS10 => ?_))
      have hS10 : Sep g T6 w9 [boxA b2 [.int .i64 y5.2.1.Line, .int .i64 y5.2.1.Col], R, ownA rGToken 33 (.slice a2 n2 c2) y5.1] := hS10
      refine pv (r_zi rfl) (nil (t_thenR [(3, .slice a1 (List.length y2.1) c1), (6, .string ⟨y4.toArray⟩), (7, .slice a2 n2 c2), (8, .pointer (some ⟨b2, 0, none⟩)), (9, .int .i64 y5.2.2)] ⟨rfl, rfl, rfl, rfl, rfl, trivial⟩ fun J => ?_))
      refine sq2 ?_
      refine sq2 ?_
      refine rg (pv (r_mi rfl) (pv (r_ib rfl rfl rfl) (pv (r_mb rfl) (?_))))
      rcases Bool.eq_false_or_eq_true (y5.2.2 != 0) with hb4 | hb4
      · have hm := ctrue hb4 hm
        refine gF (d0 := 40) rfl rfl (by rw [hb4]; rfl) (gF (d0 := 40) rfl rfl (by rw [hb4]; rfl) (gF (d0 := 40) rfl rfl (by rw [hb4]; rfl) (gF (d0 := 40) rfl rfl (by rw [hb4]; rfl) (gF (d0 := 40) rfl rfl (by rw [hb4]; rfl) (pv (r_pkt rfl hb4 rfl) (pv (r_mb rfl) (gF (d0 := 47) rfl rfl rfl (gF (d0 := 47) rfl rfl rfl (gF (d0 := 47) rfl rfl rfl (gF (d0 := 47) rfl rfl rfl (gF (d0 := 47) rfl rfl rfl (gF (d0 := 47) rfl rfl rfl (pv (r_pkt rfl rfl rfl) (nil (t_thenR [(3, .slice a1 (List.length y2.1) c1), (7, .slice a2 n2 c2), (54, .bool true)] ⟨rfl, rfl, rfl, trivial⟩ fun J => ?_)))))))))))))))
        refine cnd (b := true) rfl (fun _ => ?_) (fun h => nomatch h)
        refine sq2 ?_
        refine rg (pv (r_zb rfl) (nil (t_then ?_)))
        have hm := Option.some.inj hm
        subst hm
        exact rtn (r_then (ret1 rfl rfl ⟨_, rfl, _, (Im.trans im2 (Im.trans im3 (Im.trans im4 (Im.trans im6 (Im.trans im7 (Im.trans im8 (Im.trans im9 im10))))))), ⟨rfl, hS10.sel [1] rfl, trivial⟩⟩))
      · have hm := cfalse hb4 hm
        refine gT (d0 := 40) rfl rfl hb4 (pv (r_ms rfl) (gT (d0 := 40) rfl rfl hb4 (pv (r_lnV rfl (hS10.own (i := 2) ⟨rfl, rfl⟩).v Try.underlying24) (gT (d0 := 40) rfl rfl hb4 (pv (r_ms rfl) (gT (d0 := 40) rfl rfl hb4 (pv (r_ln rfl Try.underlying24) (gT (d0 := 40) rfl rfl hb4 (pv (r_ib rfl rfl rfl) (pv (r_pkf rfl hb4 rfl) (pv (r_mb rfl) (?_))))))))))))
        rcases Bool.eq_false_or_eq_true ((List.length y5.1 : Int) != (List.length y2.1 : Int)) with hb5 | hb5
        · have hm := ctrue hb5 hm
          refine gF (d0 := 47) rfl rfl (by rw [hb5]; rfl) (gF (d0 := 47) rfl rfl (by rw [hb5]; rfl) (gF (d0 := 47) rfl rfl (by rw [hb5]; rfl) (gF (d0 := 47) rfl rfl (by rw [hb5]; rfl) (gF (d0 := 47) rfl rfl (by rw [hb5]; rfl) (gF (d0 := 47) rfl rfl (by rw [hb5]; rfl) (pv (r_pkt rfl hb5 rfl) (nil (t_thenR [(3, .slice a1 (List.length y2.1) c1), (7, .slice a2 n2 c2), (54, .bool true)] ⟨rfl, rfl, rfl, trivial⟩ fun J => ?_))))))))
          refine cnd (b := true) rfl (fun _ => ?_) (fun h => nomatch h)
          refine sq2 ?_
          refine rg (pv (r_zb rfl) (nil (t_then ?_)))
          have hm := Option.some.inj hm
          subst hm
          exact rtn (r_then (ret1 rfl rfl ⟨_, rfl, _, (Im.trans im2 (Im.trans im3 (Im.trans im4 (Im.trans im6 (Im.trans im7 (Im.trans im8 (Im.trans im9 im10))))))), ⟨rfl, hS10.sel [1] rfl, trivial⟩⟩))
        · have hm := cfalse hb5 hm
          refine gT (d0 := 47) rfl rfl hb5 (pv (r_ldS rfl Try.isAgg26 Try.sizeOf26 rfl (hS10.cells0 (i := 0) ⟨rfl, rfl⟩ (o := 0) rfl) (cs := [.int .i64 y5.2.1.Line, .int .i64 y5.2.1.Col])) (gT (d0 := 47) rfl rfl hb5 (pv (r_mt rfl) (gT (d0 := 47) rfl rfl hb5 (pv (r_lnt rfl Try.underlying9) (gT (d0 := 47) rfl rfl hb5 (pv (r_ib rfl rfl rfl) (gT (d0 := 47) rfl rfl hb5 (pv (r_bd (by kernel_rfl) rfl (u := .agg #[.int .i64 1, .int .i64 (IntKind.wrap .i64 ((List.length y4 : Int) + 1))])) (gT (d0 := 47) rfl rfl hb5 (pv (r_seqn rfl rfl (ne_26 y5.2.1.Line y5.2.1.Col 1 (IntKind.wrap .i64 ((List.length y4 : Int) + 1)))) (pv (r_pkf rfl hb5 rfl) (nil (t_thenR [(3, .slice a1 (List.length y2.1) c1), (7, .slice a2 n2 c2), (54, .bool (!((y5.2.1.Line == 1) && (y5.2.1.Col == (IntKind.wrap .i64 ((List.length y4 : Int) + 1))))))] ⟨rfl, rfl, rfl, trivial⟩ fun J => ?_))))))))))))))
          refine cnd rfl (fun hb6 => ?_) (fun hb6 => ?_)
          · have hm := ctrue hb6 hm
            refine sq2 ?_
            refine rg (pv (r_zb rfl) (nil (t_then ?_)))
            have hm := Option.some.inj hm
            subst hm
            exact rtn (r_then (ret1 rfl rfl ⟨_, rfl, _, (Im.trans im2 (Im.trans im3 (Im.trans im4 (Im.trans im6 (Im.trans im7 (Im.trans im8 (Im.trans im9 im10))))))), ⟨rfl, hS10.sel [1] rfl, trivial⟩⟩))
          · have hm := cfalse hb6 hm
            refine skp (t_then ?_)
            refine sq2 ?_
            refine rg (pv (r_zi rfl) (nil (t_then ?_)))
            refine sq2 ?_
            refine sq2 ?_
            refine rg (pv (r_zi rfl) (nil (t_then ?_)))
            obtain ⟨o1, ho1, hq1⟩ := bindS hm
            obtain ⟨bd1, hbd1, ho1⟩ := loop_open ho1
            refine blk (wp_loop_ghost (fun m a w10 => ∃ (J : Nat → Value) (T7 : Nat → Prop) (x1 : Int) (x2 : Int), a = env (nf 119) J [(3, .slice a1 (List.length y2.1) c1), (7, .slice a2 n2 c2), (10, .int .i64 x1), (11, .int .i64 x2)] ∧ Im T6 w9 T7 w10 ∧ Sep g T7 w10 [R, ownA rGToken 33 (.slice a2 n2 c2) y5.1] ∧ loopM bd1 m (x1, x2) = some o1) NN ⟨_, _, 0, 0, env_has ⟨rfl, rfl, rfl, rfl, trivial⟩, Im.refl, hS10.sel [1, 2] rfl, ho1⟩ ?_)
            rintro m _ w10 ⟨J, T7, x1, x2, rfl, im11, hS11, ho1⟩
            obtain ⟨m1, z1, rfl, hm, hn1⟩ := loop_round ho1
            rw [hbd1] at hm
            refine sq2 ?_
            refine sq2 ?_
            refine rg (pv (r_mi rfl) (pv (r_ms rfl) (pv (r_lnV rfl (hS11.own (i := 1) ⟨rfl, rfl⟩).v Try.underlying24) (pv (r_ib rfl rfl rfl) (nil (t_then ?_))))))
            refine cnd rfl (fun hb7 => ?_) (fun hb7 => ?_)
            · have hm := ctrue hb7 hm
              refine skp (t_then ?_)
              refine sq2 ?_
              refine blk ?_
              refine sq2 ?_
              refine sq2 ?_
              obtain ⟨u1, hx6, hm⟩ := bindS hm
              obtain ⟨b3, of1, cs1, k1, cp1, hv1, hp1, hl1, he1, hr1, hc1⟩ := (hS11.own (i := 1) ⟨rfl, rfl⟩).v.ixq hx6 rfl
              cases rGToken_open hr1
              obtain ⟨u2, hx7, hm⟩ := bindS hm
              obtain ⟨b4, of2, cs2, k2, cp2, hv2, hp2, hl2, he2, hr2, hc2, hT1⟩ := (h1.mono (Im.trans im7 (Im.trans im8 (Im.trans im9 (Im.trans im10 im11))))).ixT hx7 rfl
              cases rGToken_open hr2
              refine rq mix (by kernel_rfl) hS11.lt (qv (fun _ hq => r_ms rfl) (qv (fun _ hq => r_mi rfl) (qv (fun _ hq => r_ixe hv1 rfl Try.underlying24 Try.sizeOf33 hp1 hl1 he1) (qv (fun _ hq => r_fa rfl Try.underlying33 rfl Try.sizeOf3 rfl) (qv (fun _ hq => r_ld rfl Try.isAgg3 (hq.cell (hc1.get (j := 0) rfl))) (qv (fun _ hq => r_ms rfl) (qv (fun _ hq => r_mi rfl) (qv (fun _ hq => r_ixe hv2 rfl Try.underlying24 Try.sizeOf33 hp2 hl2 he2) (qv (fun _ hq => r_fa rfl Try.underlying33 rfl Try.sizeOf3 rfl) (qv (fun _ hq => r_ld rfl Try.isAgg3 (hq.cell (hc2.get (j := 0) rfl))) (qv (fun _ hq => r_ib rfl rfl rfl) (qv (fun _ hq => r_mb rfl) (?_)))))))))))))
              rcases Bool.eq_false_or_eq_true (u1.Kind != u2.Kind) with hb8 | hb8
              · have hm := ctrue hb8 hm
                refine qgF (d0 := 72) rfl rfl (by rw [hb8]; rfl) (qgF (d0 := 72) rfl rfl (by rw [hb8]; rfl) (qgF (d0 := 72) rfl rfl (by rw [hb8]; rfl) (qgF (d0 := 72) rfl rfl (by rw [hb8]; rfl) (qgF (d0 := 72) rfl rfl (by rw [hb8]; rfl) (qgF (d0 := 72) rfl rfl (by rw [hb8]; rfl) (qgF (d0 := 72) rfl rfl (by rw [hb8]; rfl) (qgF (d0 := 72) rfl rfl (by rw [hb8]; rfl) (qgF (d0 := 72) rfl rfl (by rw [hb8]; rfl) (qgF (d0 := 72) rfl rfl (by rw [hb8]; rfl) (qgF (d0 := 72) rfl rfl (by rw [hb8]; rfl) (qv (fun _ hq => r_pkt rfl hb8 rfl) (qv (fun _ hq => r_mb rfl) (qgF (d0 := 85) rfl rfl rfl (qgF (d0 := 85) rfl rfl rfl (qgF (d0 := 85) rfl rfl rfl (qgF (d0 := 85) rfl rfl rfl (qgF (d0 := 85) rfl rfl rfl (qgF (d0 := 85) rfl rfl rfl (qgF (d0 := 85) rfl rfl rfl (qgF (d0 := 85) rfl rfl rfl (qgF (d0 := 85) rfl rfl rfl (qgF (d0 := 85) rfl rfl rfl (qgF (d0 := 85) rfl rfl rfl (qv (fun _ hq => r_pkt rfl rfl rfl) (qv (fun _ hq => r_mb rfl) (qgF (d0 := 98) rfl rfl rfl (qgF (d0 := 98) rfl rfl rfl (qgF (d0 := 98) rfl rfl rfl (qgF (d0 := 98) rfl rfl rfl (qgF (d0 := 98) rfl rfl rfl (qgF (d0 := 98) rfl rfl rfl (qgF (d0 := 98) rfl rfl rfl (qgF (d0 := 98) rfl rfl rfl (qgF (d0 := 98) rfl rfl rfl (qv (fun _ hq => r_pkt rfl rfl rfl) (qn fun w14 T11 i4 => ?_))))))))))))))))))))))))))))))))))))
                have im15 := i4.imm
                have hS15 := hS11.keep i4 (fun _ h => h)
                refine t_thenR [(3, .slice a1 (List.length y2.1) c1), (7, .slice a2 n2 c2), (10, .int .i64 x1), (11, .int .i64 x2), (108, .bool true)] ⟨rfl, rfl, rfl, rfl, rfl, trivial⟩ fun J => ?_
                refine cnd (b := true) rfl (fun _ => ?_) (fun h => nomatch h)
                refine sq2 ?_
                refine rg (pv (r_zb rfl) (nil (t_thenR [(2, .bool false)] ⟨rfl, trivial⟩ fun J => ?_)))
                have hm := Option.some.inj hm
                subst hm
                have hn1 : _ = Lp.ret _ := hn1
                subst hn1
                have hm := thn_ret hq1
                have hm := Option.some.inj hm
                subst hm
                exact rtn (r_then (r_blk (r_then (r_then (r_blk (r_then (ret1 rfl rfl ⟨_, rfl, _, (Im.trans im2 (Im.trans im3 (Im.trans im4 (Im.trans im6 (Im.trans im7 (Im.trans im8 (Im.trans im9 (Im.trans im10 (Im.trans im11 im15))))))))), ⟨rfl, hS15.sel [0] rfl, trivial⟩⟩)))))))
              · have hm := cfalse hb8 hm
                obtain ⟨u3, hx8, hm⟩ := bindS hm
                obtain ⟨b5, of3, cs3, k3, cp3, hv3, hp3, hl3, he3, hr3, hc3⟩ := (hS11.own (i := 1) ⟨rfl, rfl⟩).v.ixq hx8 rfl
                cases rGToken_open hr3
                obtain ⟨u4, hx9, hm⟩ := bindS hm
                obtain ⟨b6, of4, cs4, k4, cp4, hv4, hp4, hl4, he4, hr4, hc4, hT2⟩ := (h1.mono (Im.trans im7 (Im.trans im8 (Im.trans im9 (Im.trans im10 im11))))).ixT hx9 rfl
                cases rGToken_open hr4
                refine qgT (d0 := 72) rfl rfl hb8 (qv (fun _ hq => r_ms rfl) (qgT (d0 := 72) rfl rfl hb8 (qv (fun _ hq => r_mi rfl) (qgT (d0 := 72) rfl rfl hb8 (qv (fun _ hq => r_ixe hv3 rfl Try.underlying24 Try.sizeOf33 hp3 hl3 he3) (qgT (d0 := 72) rfl rfl hb8 (qv (fun _ hq => r_fa rfl Try.underlying33 rfl Try.sizeOf9 rfl) (qgT (d0 := 72) rfl rfl hb8 (qv (fun _ hq => r_ld rfl Try.isAgg9 (hq.cell (hc3.get (j := 1) rfl))) (qgT (d0 := 72) rfl rfl hb8 (qv (fun _ hq => r_ms rfl) (qgT (d0 := 72) rfl rfl hb8 (qv (fun _ hq => r_mi rfl) (qgT (d0 := 72) rfl rfl hb8 (qv (fun _ hq => r_ixe hv4 rfl Try.underlying24 Try.sizeOf33 hp4 hl4 he4) (qgT (d0 := 72) rfl rfl hb8 (qv (fun _ hq => r_fa rfl Try.underlying33 rfl Try.sizeOf9 rfl) (qgT (d0 := 72) rfl rfl hb8 (qv (fun _ hq => r_ld rfl Try.isAgg9 (hq.cell (hc4.get (j := 1) rfl))) (qgT (d0 := 72) rfl rfl hb8 (qv (fun _ hq => r_snL rfl rfl) (qv (fun _ hq => r_pkf rfl hb8 rfl) (qv (fun _ hq => r_mb rfl) (?_))))))))))))))))))))))))
                rcases Bool.eq_false_or_eq_true (!(decide (u3.Text = u4.Text))) with hb9 | hb9
                · have hm := ctrue hb9 hm
                  refine qgF (d0 := 85) rfl rfl (by rw [hb9]; rfl) (qgF (d0 := 85) rfl rfl (by rw [hb9]; rfl) (qgF (d0 := 85) rfl rfl (by rw [hb9]; rfl) (qgF (d0 := 85) rfl rfl (by rw [hb9]; rfl) (qgF (d0 := 85) rfl rfl (by rw [hb9]; rfl) (qgF (d0 := 85) rfl rfl (by rw [hb9]; rfl) (qgF (d0 := 85) rfl rfl (by rw [hb9]; rfl) (qgF (d0 := 85) rfl rfl (by rw [hb9]; rfl) (qgF (d0 := 85) rfl rfl (by rw [hb9]; rfl) (qgF (d0 := 85) rfl rfl (by rw [hb9]; rfl) (qgF (d0 := 85) rfl rfl (by rw [hb9]; rfl) (qv (fun _ hq => r_pkt rfl hb9 rfl) (qv (fun _ hq => r_mb rfl) (qgF (d0 := 98) rfl rfl rfl (qgF (d0 := 98) rfl rfl rfl (qgF (d0 := 98) rfl rfl rfl (qgF (d0 := 98) rfl rfl rfl (qgF (d0 := 98) rfl rfl rfl (qgF (d0 := 98) rfl rfl rfl (qgF (d0 := 98) rfl rfl rfl (qgF (d0 := 98) rfl rfl rfl (qgF (d0 := 98) rfl rfl rfl (qv (fun _ hq => r_pkt rfl rfl rfl) (qn fun w13 T10 i3 => ?_)))))))))))))))))))))))
                  have im14 := i3.imm
                  have hS14 := hS11.keep i3 (fun _ h => h)
                  refine t_thenR [(3, .slice a1 (List.length y2.1) c1), (7, .slice a2 n2 c2), (10, .int .i64 x1), (11, .int .i64 x2), (108, .bool true)] ⟨rfl, rfl, rfl, rfl, rfl, trivial⟩ fun J => ?_
                  refine cnd (b := true) rfl (fun _ => ?_) (fun h => nomatch h)
                  refine sq2 ?_
                  refine rg (pv (r_zb rfl) (nil (t_thenR [(2, .bool false)] ⟨rfl, trivial⟩ fun J => ?_)))
                  have hm := Option.some.inj hm
                  subst hm
                  have hn1 : _ = Lp.ret _ := hn1
                  subst hn1
                  have hm := thn_ret hq1
                  have hm := Option.some.inj hm
                  subst hm
                  exact rtn (r_then (r_blk (r_then (r_then (r_blk (r_then (ret1 rfl rfl ⟨_, rfl, _, (Im.trans im2 (Im.trans im3 (Im.trans im4 (Im.trans im6 (Im.trans im7 (Im.trans im8 (Im.trans im9 (Im.trans im10 (Im.trans im11 im14))))))))), ⟨rfl, hS14.sel [0] rfl, trivial⟩⟩)))))))
                · have hm := cfalse hb9 hm
                  obtain ⟨u5, hx10, hm⟩ := bindS hm
                  obtain ⟨b7, of5, cs5, k5, cp5, hv5, hp5, hl5, he5, hr5, hc5⟩ := (hS11.own (i := 1) ⟨rfl, rfl⟩).v.ixq hx10 rfl
                  cases rGToken_open hr5
                  obtain ⟨u6, hx11, hm⟩ := bindS hm
                  obtain ⟨b8, of6, cs6, k6, cp6, hv6, hp6, hl6, he6, hr6, hc6, hT3⟩ := (h1.mono (Im.trans im7 (Im.trans im8 (Im.trans im9 (Im.trans im10 im11))))).ixT hx11 rfl
                  cases rGToken_open hr6
                  refine qgT (d0 := 85) rfl rfl hb9 (qv (fun _ hq => r_ms rfl) (qgT (d0 := 85) rfl rfl hb9 (qv (fun _ hq => r_mi rfl) (qgT (d0 := 85) rfl rfl hb9 (qv (fun _ hq => r_ixe hv5 rfl Try.underlying24 Try.sizeOf33 hp5 hl5 he5) (qgT (d0 := 85) rfl rfl hb9 (qv (fun _ hq => r_fa rfl Try.underlying33 rfl Try.sizeOf31 rfl) (qgT (d0 := 85) rfl rfl hb9 (qv (fun _ hq => r_ld rfl Try.isAgg31 (hq.cell (hc5.get (j := 2) rfl))) (qgT (d0 := 85) rfl rfl hb9 (qv (fun _ hq => r_ms rfl) (qgT (d0 := 85) rfl rfl hb9 (qv (fun _ hq => r_mi rfl) (qgT (d0 := 85) rfl rfl hb9 (qv (fun _ hq => r_ixe hv6 rfl Try.underlying24 Try.sizeOf33 hp6 hl6 he6) (qgT (d0 := 85) rfl rfl hb9 (qv (fun _ hq => r_fa rfl Try.underlying33 rfl Try.sizeOf31 rfl) (qgT (d0 := 85) rfl rfl hb9 (qv (fun _ hq => r_ld rfl Try.isAgg31 (hq.cell (hc6.get (j := 2) rfl))) (qgT (d0 := 85) rfl rfl hb9 (qv (fun _ hq => r_ib rfl rfl rfl) (qv (fun _ hq => r_pkf rfl hb9 rfl) (qv (fun _ hq => r_mb rfl) (?_))))))))))))))))))))))))
                  rcases Bool.eq_false_or_eq_true (u5.Num != u6.Num) with hb10 | hb10
                  · have hm := ctrue hb10 hm
                    refine qgF (d0 := 98) rfl rfl (by rw [hb10]; rfl) (qgF (d0 := 98) rfl rfl (by rw [hb10]; rfl) (qgF (d0 := 98) rfl rfl (by rw [hb10]; rfl) (qgF (d0 := 98) rfl rfl (by rw [hb10]; rfl) (qgF (d0 := 98) rfl rfl (by rw [hb10]; rfl) (qgF (d0 := 98) rfl rfl (by rw [hb10]; rfl) (qgF (d0 := 98) rfl rfl (by rw [hb10]; rfl) (qgF (d0 := 98) rfl rfl (by rw [hb10]; rfl) (qgF (d0 := 98) rfl rfl (by rw [hb10]; rfl) (qv (fun _ hq => r_pkt rfl hb10 rfl) (qn fun w12 T9 i2 => ?_))))))))))
                    have im13 := i2.imm
                    have hS13 := hS11.keep i2 (fun _ h => h)
                    refine t_thenR [(3, .slice a1 (List.length y2.1) c1), (7, .slice a2 n2 c2), (10, .int .i64 x1), (11, .int .i64 x2), (108, .bool true)] ⟨rfl, rfl, rfl, rfl, rfl, trivial⟩ fun J => ?_
                    refine cnd (b := true) rfl (fun _ => ?_) (fun h => nomatch h)
                    refine sq2 ?_
                    refine rg (pv (r_zb rfl) (nil (t_thenR [(2, .bool false)] ⟨rfl, trivial⟩ fun J => ?_)))
                    have hm := Option.some.inj hm
                    subst hm
                    have hn1 : _ = Lp.ret _ := hn1
                    subst hn1
                    have hm := thn_ret hq1
                    have hm := Option.some.inj hm
                    subst hm
                    exact rtn (r_then (r_blk (r_then (r_then (r_blk (r_then (ret1 rfl rfl ⟨_, rfl, _, (Im.trans im2 (Im.trans im3 (Im.trans im4 (Im.trans im6 (Im.trans im7 (Im.trans im8 (Im.trans im9 (Im.trans im10 (Im.trans im11 im13))))))))), ⟨rfl, hS13.sel [0] rfl, trivial⟩⟩)))))))
                  · have hm := cfalse hb10 hm
                    obtain ⟨u7, hx12, hm⟩ := bindS hm
                    obtain ⟨b9, of7, cs7, k7, cp7, hv7, hp7, hl7, he7, hr7, hc7⟩ := (hS11.own (i := 1) ⟨rfl, rfl⟩).v.ixq hx12 rfl
                    cases rGToken_open hr7
                    refine qgT (d0 := 98) rfl rfl hb10 (qv (fun _ hq => r_ms rfl) (qgT (d0 := 98) rfl rfl hb10 (qv (fun _ hq => r_mi rfl) (qgT (d0 := 98) rfl rfl hb10 (qv (fun _ hq => r_ixe hv7 rfl Try.underlying24 Try.sizeOf33 hp7 hl7 he7) (qgT (d0 := 98) rfl rfl hb10 (qv (fun _ hq => r_fa rfl Try.underlying33 rfl Try.sizeOf26 rfl) (qgT (d0 := 98) rfl rfl hb10 (qv (fun _ hq => r_ldS rfl Try.isAgg26 Try.sizeOf26 rfl (hq.cellsAt (hc7.sub 3 rfl)) (cs := [.int .i64 u7.Pos.Line, .int .i64 u7.Pos.Col])) (qgT (d0 := 98) rfl rfl hb10 (qv (fun _ hq => r_mi rfl) (qgT (d0 := 98) rfl rfl hb10 (qv (fun _ hq => r_ib rfl rfl rfl) (qgT (d0 := 98) rfl rfl hb10 (qv (fun _ hq => r_bd (by kernel_rfl) rfl (u := .agg #[.int .i64 1, .int .i64 (IntKind.wrap .i64 (x1 + 1))])) (qgT (d0 := 98) rfl rfl hb10 (qv (fun _ hq => r_seqn rfl rfl (ne_26 u7.Pos.Line u7.Pos.Col 1 (IntKind.wrap .i64 (x1 + 1)))) (qv (fun _ hq => r_pkf rfl hb10 rfl) (qn fun w11 T8 i1 => ?_)))))))))))))))))))
                    have im12 := i1.imm
                    have hS12 := hS11.keep i1 (fun _ h => h)
                    refine t_thenR [(3, .slice a1 (List.length y2.1) c1), (7, .slice a2 n2 c2), (10, .int .i64 x1), (11, .int .i64 x2), (108, .bool (!((u7.Pos.Line == 1) && (u7.Pos.Col == (IntKind.wrap .i64 (x1 + 1))))))] ⟨rfl, rfl, rfl, rfl, rfl, trivial⟩ fun J => ?_
                    refine cnd rfl (fun hb11 => ?_) (fun hb11 => ?_)
                    · have hm := ctrue hb11 hm
                      refine sq2 ?_
                      refine rg (pv (r_zb rfl) (nil (t_thenR [(2, .bool false)] ⟨rfl, trivial⟩ fun J => ?_)))
                      have hm := Option.some.inj hm
                      subst hm
                      have hn1 : _ = Lp.ret _ := hn1
                      subst hn1
                      have hm := thn_ret hq1
                      have hm := Option.some.inj hm
                      subst hm
                      exact rtn (r_then (r_blk (r_then (r_then (r_blk (r_then (ret1 rfl rfl ⟨_, rfl, _, (Im.trans im2 (Im.trans im3 (Im.trans im4 (Im.trans im6 (Im.trans im7 (Im.trans im8 (Im.trans im9 (Im.trans im10 (Im.trans im11 im12))))))))), ⟨rfl, hS12.sel [0] rfl, trivial⟩⟩)))))))
                    · have hm := cfalse hb11 hm
                      refine skp (t_then ?_)
                      obtain ⟨u8, hx13, hm⟩ := bindS hm
                      obtain ⟨b10, of8, cs8, k8, cp8, hv8, hp8, hl8, he8, hr8, hc8, hT4⟩ := (h1.mono (Im.trans im7 (Im.trans im8 (Im.trans im9 (Im.trans im10 (Im.trans im11 im12)))))).ixT hx13 rfl
                      cases rGToken_open hr8
                      refine rg (pv (r_mi rfl) (pv (r_ms rfl) (pv (r_mi rfl) (pv (r_ixe hv8 rfl Try.underlying24 Try.sizeOf33 hp8 hl8 he8) (pv (r_fa rfl Try.underlying33 rfl Try.sizeOf9 rfl) (pv (r_ld rfl Try.isAgg9 (hc8.get (j := 1) rfl)) (pv (r_lnt rfl Try.underlying9) (pv (r_ib rfl rfl rfl) (pv (r_ib rfl rfl rfl) (pv (r_zi rfl) (nil (t_blk (t_thenR [(3, .slice a1 (List.length y2.1) c1), (7, .slice a2 n2 c2), (10, .int .i64 (IntKind.wrap .i64 ((IntKind.wrap .i64 (x1 + (List.length u8.Text : Int))) + 1))), (11, .int .i64 x2)] ⟨rfl, rfl, rfl, rfl, trivial⟩ fun J => ?_)))))))))))))
                      have hm := Option.some.inj hm
                      subst hm
                      exact rg (pv (r_mi rfl) (pv (r_ib rfl rfl rfl) (pv (r_zi rfl) (nil (t_then ⟨m1, Nat.lt_succ_self _, _, _, (IntKind.wrap .i64 ((IntKind.wrap .i64 (x1 + (List.length u8.Text : Int))) + 1)), (IntKind.wrap .i64 (x2 + 1)), env_has ⟨rfl, rfl, rfl, rfl, trivial⟩, (Im.trans im11 im12), hS12.sel [0, 1] rfl, hn1⟩)))))
            · have hm := cfalse hb7 hm
              have hm := Option.some.inj hm
              subst hm
              have hn1 : _ = Lp.brk _ := hn1
              subst hn1
              have hm := thn_brk hq1
              refine xt (x_then (x_then (x_eq (t_thenR [] trivial fun J => ?_))))
              refine sq2 ?_
              obtain ⟨y6, hx14, hm⟩ := bindS hm
              refine rg (wl rfl (calS cf7 rfl (law07_awake_sim  (hS11.bun [0] [] rfl) (hG0.mono (Im.trans im2 (Im.trans im3 (Im.trans im4 (Im.trans im6 (Im.trans im7 (Im.trans im8 (Im.trans im9 (Im.trans im10 im11))))))))) hx14) rfl fun v6 T12 w15 im16 rv6 => ?_))
              obtain ⟨rfl, hS16, _⟩ := rv6
              have hS16 : Sep g T12 w15 [R] := hS16.unb
              refine pv (r_zb rfl) (nil (t_then ?_))
              have hm := Option.some.inj hm
              subst hm
              exact rtn (ret1 rfl rfl ⟨_, rfl, _, (Im.trans im2 (Im.trans im3 (Im.trans im4 (Im.trans im6 (Im.trans im7 (Im.trans im8 (Im.trans im9 (Im.trans im10 (Im.trans im11 im16))))))))), ⟨rfl, hS16.sel [0] rfl, trivial⟩⟩)
end Go.Proofs.Ytbahdeehffokcaa
