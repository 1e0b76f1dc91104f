/- That Go functions compute their models. Printed by gen2.py. -/
import Derived.Test.YtjbmmcbpdodalaaWc
set_option linter.unusedVariables false
namespace Go.Proofs.Ytjbmmcbpdodalaa
attribute [local irreducible] wpList wpQuiet Code.wp

set_option maxRecDepth 100000 in
set_option maxHeartbeats 1000000 in
theorem law08_KindMakes_sim {g : World} {T0 : Nat → Prop} {w0 : World} {R : Assn} {p0 : List law08Act} {a1 : Option Addr} {c1 : Nat} {r : Bool} (hS : Sep g T0 w0 [R]) (h1 : SlR rlaw08Act T0 w0 (.slice a1 (List.length p0) c1) p0) (hm : law08_KindMakes p0 = some r) :
    Calls Try.prog 6 #[.slice a1 (List.length p0) c1] w0 (RetS T0 w0 fun T w v => v = .bool r ∧ Sep g T w [R] ∧ True) := by
  refine enter (args := [.slice a1 (List.length p0) c1]) Try.func6 rfl Try.ntmps6 rfl fun J => ?_
  unfold law08_KindMakes at hm
  refine sq2 ?_
  refine rg (pv (r_zb rfl) (nil (t_then ?_)))
  refine sq2 ?_
  refine sq2 ?_
  obtain ⟨y1, hx1, hm⟩ := bindS hm
  refine rg (pv (r_ms rfl) (wl rfl (calS cf8 rfl (law08_Few_sim (p0 := p0) (hS.bun [0] [] rfl) h1 hx1) rfl fun v1 T1 w1 im1 rv1 => ?_)))
  obtain ⟨rfl, hS1, _⟩ := rv1
  have hS1 : Sep g T1 w1 [R] := hS1.unb
  refine pv (r_nt rfl) (nil (t_then ?_))
  refine cnd rfl (fun hb1 => ?_) (fun hb1 => ?_)
  · have hm := ctrue hb1 hm
    refine sq2 ?_
    obtain ⟨y2, hx2, hm⟩ := bindS hm
    refine rg (wl rfl (calS cf9 rfl (law08_awake_sim  (hS1.bun [0] [] rfl)  hx2) rfl fun v2 T2 w2 im2 rv2 => ?_))
    obtain ⟨rfl, hS2, _⟩ := rv2
    have hS2 : Sep g T2 w2 [R] := hS2.unb
    refine pv (r_zb rfl) (nil (t_thenR [(2, .bool y2)] ⟨rfl, trivial⟩ fun J => ?_))
    have hm := Option.some.inj hm
    subst hm
    exact rtn (r_then (ret1 rfl rfl ⟨_, rfl, _, (Im.trans im1 im2), ⟨rfl, hS2.sel [0] rfl, trivial⟩⟩))
  · have hm := cfalse hb1 hm
    refine skp (t_then ?_)
    refine sq2 ?_
    obtain ⟨y3, hx3, hm⟩ := bindS hm
    refine rg (wl rfl (calS cf10 rfl (kind_New_sim  (hS1.bun [0] [] rfl)  hx3) rfl fun v3 T3 w3 im3 rv3 => ?_))
    obtain ⟨b1, a2, n1, c2, rfl, hS3, _⟩ := rv3
    have hS3 : Sep g T3 w3 [R, boxA b1 [.slice a2 n1 c2], ownA rKindKnown 65 (.slice a2 n1 c2) y3.list] := hS3.unb
    refine pv (r_zp rfl) (nil (t_thenR [(0, .slice a1 (List.length p0) c1), (3, .pointer (some ⟨b1, 0, none⟩))] ⟨rfl, rfl, trivial⟩ fun J => ?_))
    refine sq2 ?_
    obtain ⟨y4, hx4, hm⟩ := bindS hm
    refine rg (wl rfl (calS cf12 rfl (ref08_Begin_sim  (hS3.bun [0, 1, 2] [] rfl)  hx4) rfl fun v4 T4 w4 im4 rv4 => ?_))
    obtain ⟨a3, n2, c3, rfl, hS4, _⟩ := rv4
    have hS4 : Sep g T4 w4 [R, boxA b1 [.slice a2 n1 c2], ownA rKindKnown 65 (.slice a2 n1 c2) y3.list, ownA rref08Type 51 (.slice a3 n2 c3) y4] := hS4.unb
    refine pv (r_zs rfl) (nil (t_then ?_))
    refine sq2 ?_
    refine sq2 ?_
    refine rg (pv (r_zi rfl) (nil (t_then ?_)))
    obtain ⟨o1, ho1, hq1⟩ := bindS hm
    obtain ⟨bd1, hbd1, ho1⟩ := loop_open ho1
    obtain ⟨T5, im5, hS5, h2⟩ := hS4.seal 3 ⟨rfl, rfl⟩
    have hsh := h2.len
    subst hsh
    have hS5 : Sep g T5 w4 [R, boxA b1 [.slice a2 n1 c2], ownA rKindKnown 65 (.slice a2 n1 c2) y3.list, empA] := hS5
    refine blk (wp_loop_ghost (fun m a w5 => ∃ (J : Nat → Value) (T6 : Nat → Prop) (x4 : KindTable) (a4 : Option Addr) (n3 : Nat) (c4 : Nat) (x2 : List ref08Type) (a5 : Option Addr) (c5 : Nat) (x3 : Int), a = env 130 J [(0, .slice a1 (List.length p0) c1), (3, .pointer (some ⟨b1, 0, none⟩)), (4, .slice a5 (List.length x2) c5), (5, .int .i64 x3)] ∧ Im T5 w4 T6 w5 ∧ Sep g T6 w5 [R, boxA b1 [.slice a4 n3 c4], ownA rKindKnown 65 (.slice a4 n3 c4) x4.list] ∧ SlR rref08Type T6 w5 (.slice a5 (List.length x2) c5) x2 ∧ loopM bd1 m (x2, x3, x4) = some o1) NN ⟨_, _, y3, _, _, _, y4, _, _, 0, env_has ⟨rfl, rfl, rfl, rfl, trivial⟩, Im.refl, hS5.sel [0, 1, 2] rfl, h2, ho1⟩ ?_)
    rintro m _ w5 ⟨J, T6, x4, a4, n3, c4, x2, a5, c5, x3, rfl, im6, hS6, h3, ho1⟩
    obtain ⟨m1, z1, rfl, hm, hn1⟩ := loop_round ho1
    rw [hbd1] at hm
    refine sq2 ?_
    refine sq2 ?_
    refine rg (pv (r_mi rfl) (pv (r_ms rfl) (pv (r_ln rfl Try.underlying22) (pv (r_ib rfl rfl rfl) (nil (t_then ?_))))))
    refine cnd rfl (fun hb2 => ?_) (fun hb2 => ?_)
    · have hm := ctrue hb2 hm
      refine skp (t_then ?_)
      refine sq2 ?_
      refine blk ?_
      refine sq2 ?_
      obtain ⟨u1, hx5, hm⟩ := bindS hm
      obtain ⟨b2, of1, cs1, k1, cp1, hv1, hp1, hl1, he1, hr1, hc1, hT1⟩ := (h1.mono (Im.trans im1 (Im.trans im3 (Im.trans im4 (Im.trans im5 im6))))).ixT hx5 rfl
      obtain ⟨a6, c6, rfl, h4⟩ := rlaw08Act_open hr1
      obtain ⟨y5, hx6, hm⟩ := bindS hm
      refine rg (pv (r_ms rfl) (pv (r_mi rfl) (pv (r_ixe hv1 rfl Try.underlying22 Try.sizeOf34 hp1 hl1 he1) (pv (r_ldS rfl Try.isAgg34 Try.sizeOf34 rfl hc1 (cs := [.int .i64 u1.Kind, .int .i64 u1.N, .int .i64 u1.Long, .string ⟨u1.Name.toArray⟩, .slice a6 (List.length u1.Fields) c6])) (pv (r_mp rfl) (pv (r_ms rfl) (wl rfl (calS cf11 rfl (law08_Act_Done_sim (p0 := u1) (p1 := x4) (H_p1 := boxA b1) (p2 := x2) (hS6.bun [0] [1, 2] rfl) h4 (lnBox b1) h3 hx6) rfl fun v5 T7 w6 im7 rv5 => ?_))))))))
      obtain ⟨a7, c7, a8, n4, c8, rfl, hS7, h5, _⟩ := rv5
      have hS7 : Sep g T7 w6 [R, boxA b1 [.slice a8 n4 c8], ownA rKindKnown 65 (.slice a8 n4 c8) y5.2.2.2.list] := hS7.unb
      refine pv (r_mv rfl) (pv (r_ex (v := .int .i64 y5.1) rfl rfl) (pv (r_ex (v := .int .i64 y5.2.1) rfl rfl) (pv (r_ex (v := .agg #[.int .i64 y5.2.2.1.N, .slice a7 (List.length y5.2.2.1.T) c7, .int .i64 y5.2.2.1.E]) rfl rfl) (wl rfl (alS (zs := [.int .i64 0, .slice none 0 0, .int .i64 0]) Try.zeroValue30 rfl hS7 fun w7 b3 im8 hS8 => ?_)))))
      refine pv (r_zi rfl) (pv (r_zi rfl) (wl rfl (st0B (q := 0) hS8 ⟨rfl, rfl⟩ rfl rfl rfl Try.sizeOf30 rfl rfl rfl fun w8 im9 hS9 => ?_)))
      have hS9 : Sep g T7 w8 [boxA b3 [.int .i64 y5.2.2.1.N, .slice a7 (List.length y5.2.2.1.T) c7, .int .i64 y5.2.2.1.E], R, boxA b1 [.slice a8 n4 c8], ownA rKindKnown 65 (.slice a8 n4 c8) y5.2.2.2.list] := hS9
      refine nil (t_thenR [(0, .slice a1 (List.length p0) c1), (3, .pointer (some ⟨b1, 0, none⟩)), (5, .int .i64 x3), (6, .int .i64 y5.1), (7, .int .i64 y5.2.1), (8, .pointer (some ⟨b3, 0, none⟩))] ⟨rfl, rfl, rfl, rfl, rfl, rfl, trivial⟩ fun J => ?_)
      refine sq2 ?_
      refine sq2 ?_
      refine rg (pv (r_mi rfl) (pv (r_fa rfl Try.underlying30 rfl Try.sizeOf3 rfl) (pv (r_ld rfl Try.isAgg3 (hS9.cell0 (i := 0) ⟨rfl, rfl⟩ (j := 0) rfl)) (pv (r_ib rfl rfl rfl) (pv (r_mb rfl) (?_))))))
      rcases Bool.eq_false_or_eq_true (y5.1 != y5.2.2.1.N) with hb3 | hb3
      · have hm := ctrue hb3 hm
        refine gF (d0 := 39) rfl rfl (by rw [hb3]; rfl) (gF (d0 := 39) rfl rfl (by rw [hb3]; rfl) (gF (d0 := 39) rfl rfl (by rw [hb3]; rfl) (gF (d0 := 39) rfl rfl (by rw [hb3]; rfl) (pv (r_pkt rfl hb3 rfl) (nil (t_thenR [(0, .slice a1 (List.length p0) c1), (3, .pointer (some ⟨b1, 0, none⟩)), (5, .int .i64 x3), (8, .pointer (some ⟨b3, 0, none⟩)), (44, .bool true)] ⟨rfl, rfl, rfl, rfl, rfl, trivial⟩ fun J => ?_))))))
        refine cnd (b := true) rfl (fun _ => ?_) (fun h => nomatch h)
        refine sq2 ?_
        refine rg (pv (r_zb rfl) (nil (t_thenR [(2, .bool false)] ⟨rfl, trivial⟩ fun J => ?_)))
        have hm := Option.some.inj hm
        subst hm
        have hn1 : _ = Lp.ret _ := hn1
        subst hn1
        have hm := thn_ret hq1
        have hm := Option.some.inj hm
        subst hm
        exact rtn (r_then (r_blk (r_then (r_then (r_blk (r_then (ret1 rfl rfl ⟨_, rfl, _, (Im.trans im1 (Im.trans im3 (Im.trans im4 (Im.trans im5 (Im.trans im6 (Im.trans im7 (Im.trans im8 im9))))))), ⟨rfl, hS9.sel [1] rfl, trivial⟩⟩)))))))
      · have hm := cfalse hb3 hm
        refine gT (d0 := 39) rfl rfl hb3 (pv (r_mi rfl) (gT (d0 := 39) rfl rfl hb3 (pv (r_fa rfl Try.underlying30 rfl Try.sizeOf3 rfl) (gT (d0 := 39) rfl rfl hb3 (pv (r_ld rfl Try.isAgg3 (hS9.cell0 (i := 0) ⟨rfl, rfl⟩ (j := 2) rfl)) (gT (d0 := 39) rfl rfl hb3 (pv (r_ib rfl rfl rfl) (pv (r_pkf rfl hb3 rfl) (nil (t_thenR [(0, .slice a1 (List.length p0) c1), (3, .pointer (some ⟨b1, 0, none⟩)), (5, .int .i64 x3), (8, .pointer (some ⟨b3, 0, none⟩)), (44, .bool (y5.2.1 != y5.2.2.1.E))] ⟨rfl, rfl, rfl, rfl, rfl, trivial⟩ fun J => ?_))))))))))
        refine cnd rfl (fun hb4 => ?_) (fun hb4 => ?_)
        · have hm := ctrue hb4 hm
          refine sq2 ?_
          refine rg (pv (r_zb rfl) (nil (t_thenR [(2, .bool false)] ⟨rfl, trivial⟩ fun J => ?_)))
          have hm := Option.some.inj hm
          subst hm
          have hn1 : _ = Lp.ret _ := hn1
          subst hn1
          have hm := thn_ret hq1
          have hm := Option.some.inj hm
          subst hm
          exact rtn (r_then (r_blk (r_then (r_then (r_blk (r_then (ret1 rfl rfl ⟨_, rfl, _, (Im.trans im1 (Im.trans im3 (Im.trans im4 (Im.trans im5 (Im.trans im6 (Im.trans im7 (Im.trans im8 im9))))))), ⟨rfl, hS9.sel [1] rfl, trivial⟩⟩)))))))
        · have hm := cfalse hb4 hm
          refine skp (t_then ?_)
          refine rg (pv (r_fa rfl Try.underlying30 rfl Try.sizeOf28 rfl) (pv (r_ld rfl Try.isAgg28 (hS9.cell0 (i := 0) ⟨rfl, rfl⟩ (j := 1) rfl)) (pv (r_zs rfl) (nil (t_blk (t_then ?_))))))
          have hm := Option.some.inj hm
          subst hm
          exact rg (pv (r_mi rfl) (pv (r_ib rfl rfl rfl) (pv (r_zi rfl) (nil (t_then ⟨m1, Nat.lt_succ_self _, _, _, y5.2.2.2, _, _, _, y5.2.2.1.T, _, _, (IntKind.wrap .i64 (x3 + 1)), env_has ⟨rfl, rfl, rfl, rfl, trivial⟩, (Im.trans im6 (Im.trans im7 (Im.trans im8 im9))), hS9.sel [1, 2, 3] rfl, (h5.mono (Im.trans im8 im9)), hn1⟩)))))
    · have hm := cfalse hb2 hm
      have hm := Option.some.inj hm
      subst hm
      have hn1 : _ = Lp.brk _ := hn1
      subst hn1
      have hm := thn_brk hq1
      refine xt (x_then (x_then (x_eq (t_thenR [(3, .pointer (some ⟨b1, 0, none⟩)), (4, .slice a5 (List.length x2) c5)] ⟨rfl, rfl, trivial⟩ fun J => ?_))))
      refine sq2 ?_
      refine sq2 ?_
      refine rg (pv (r_zi rfl) (nil (t_then ?_)))
      obtain ⟨o1, ho1, hq1⟩ := bindS hm
      obtain ⟨bd1, hbd1, ho1⟩ := loop_open ho1
      refine blk (wp_loop_ghost (fun m a w9 => ∃ (J : Nat → Value) (T8 : Nat → Prop) (x5 : Int), a = env 130 J [(3, .pointer (some ⟨b1, 0, none⟩)), (4, .slice a5 (List.length x2) c5), (9, .int .i64 x5)] ∧ Im T6 w5 T8 w9 ∧ Sep g T8 w9 [R, boxA b1 [.slice a4 n3 c4], ownA rKindKnown 65 (.slice a4 n3 c4) x4.list] ∧ loopM bd1 m x5 = some o1) NN ⟨_, _, (-1), env_has ⟨rfl, rfl, rfl, trivial⟩, Im.refl, hS6.sel [0, 1, 2] rfl, ho1⟩ ?_)
      rintro m _ w9 ⟨J, T8, x5, rfl, im10, hS10, ho1⟩
      obtain ⟨m1, z1, rfl, hm, hn1⟩ := loop_round ho1
      rw [hbd1] at hm
      refine sq2 ?_
      refine sq2 ?_
      refine rg (pv (r_mi rfl) (pv (r_ms rfl) (pv (r_ln rfl Try.underlying28) (pv (r_ib rfl rfl rfl) (nil (t_then ?_))))))
      refine cnd rfl (fun hb6 => ?_) (fun hb6 => ?_)
      · have hm := ctrue hb6 hm
        refine skp (t_then ?_)
        refine sq2 ?_
        refine blk ?_
        refine sq2 ?_
        obtain ⟨y6, hx7, hm⟩ := bindS hm
        refine rg (pv (r_mp rfl) (pv (r_mi rfl) (wl rfl (calS cf20 rfl (kind_Table_Type_sim (p0 := x4) (H_p0 := boxA b1) (p1 := x5) (hS10.bun [0] [1, 2] rfl) (lnBox b1) hx7) rfl fun v6 T9 w10 im11 rv6 => ?_))))
        obtain ⟨a9, c9, rfl, hS11, h6, _⟩ := rv6
        have hS11 : Sep g T9 w10 [R, boxA b1 [.slice a4 n3 c4], ownA rKindKnown 65 (.slice a4 n3 c4) x4.list] := hS11.unb
        refine pv (r_mv rfl) (pv (r_ex (v := .agg #[.int .i64 y6.1.Kind, .int .i64 y6.1.Elem, .int .i64 y6.1.Len, .string ⟨y6.1.Name.toArray⟩, .slice a9 (List.length y6.1.Fields) c9]) rfl rfl) (pv (r_ex (v := .int .i64 y6.2) rfl rfl) (wl rfl (alS (zs := [.int .i64 0, .int .i64 0, .int .i64 0, .string ⟨([] : List UInt8).toArray⟩, .slice none 0 0]) Try.zeroValue55 rfl hS11 fun w11 b4 im12 hS12 => ?_))))
        refine wl rfl (st0B (q := 0) hS12 ⟨rfl, rfl⟩ rfl rfl rfl Try.sizeOf55 rfl rfl rfl fun w12 im13 hS13 => ?_)
        have hS13 : Sep g T9 w12 [boxA b4 [.int .i64 y6.1.Kind, .int .i64 y6.1.Elem, .int .i64 y6.1.Len, .string ⟨y6.1.Name.toArray⟩, .slice a9 (List.length y6.1.Fields) c9], R, boxA b1 [.slice a4 n3 c4], ownA rKindKnown 65 (.slice a4 n3 c4) x4.list] := hS13
        refine pv (r_zi rfl) (nil (t_thenR [(3, .pointer (some ⟨b1, 0, none⟩)), (4, .slice a5 (List.length x2) c5), (9, .int .i64 x5), (10, .pointer (some ⟨b4, 0, none⟩)), (11, .int .i64 y6.2)] ⟨rfl, rfl, rfl, rfl, rfl, trivial⟩ fun J => ?_))
        refine sq2 ?_
        refine sq2 ?_
        refine rs [0, 0, 0, 0, 0, 0, 0, 0, 0, 0, 0, 0, 0, 0, 2, 0, 0, 2, 0, 0, 0, 0, 0, 2, 0, 0, 2, 0, 0, 0, 0, 0, 0, 1, 0, 0, 0, 1, 2, 0, 0, 0] [0, 1, 2, 3, 4, 5, 6, 7, 8, 9, 10, 11, 12, 13, 15, 16, 14, 17, 18, 19, 20, 21, 22, 24, 25, 23, 26, 27, 28, 29, 30, 31, 32, 33, 34, 35, 36, 37, 38, 39, 40, 41] mix (by kernel_rfl) hS13.lt fun w13 i1 => ?_
        have im14 := i1.imm
        have hS14 := hS13.keep i1 (fun _ h => h)
        refine s0 rfl trivial (fun _ => r_mi rfl) rfl (s0 rfl trivial (fun _ => r_ib rfl rfl rfl) rfl (s0 rfl trivial (fun _ => r_mi rfl) rfl (s0 rfl trivial (fun _ => r_ib rfl rfl rfl) rfl (s0 rfl trivial (fun _ => r_mb rfl) rfl (?_)))))
        rcases Bool.eq_false_or_eq_true (decide (0 ≤ x5)) with hb7 | hb7
        · have hm := ctrue hb7 hm
          refine s0 rfl ⟨_, rfl, congrArg Value.bool hb7⟩ (fun _ => r_mi rfl) rfl (s0 rfl ⟨_, rfl, congrArg Value.bool hb7⟩ (fun _ => r_ms rfl) rfl (s0 rfl ⟨_, rfl, congrArg Value.bool hb7⟩ (fun _ => r_ln rfl Try.underlying28) rfl (s0 rfl ⟨_, rfl, congrArg Value.bool hb7⟩ (fun _ => r_ib rfl rfl rfl) rfl (s0 rfl trivial (fun _ => r_pkt rfl hb7 rfl) rfl (s0 rfl trivial (fun _ => r_bn rfl rfl Try.underlying4) rfl (s0 rfl trivial (fun _ => r_mb rfl) rfl (?_)))))))
          rcases Bool.eq_false_or_eq_true (!((y6.2 == 0) == (decide (x5 < (List.length x2 : Int))))) with hb8 | hb8
          · have hm := ctrue hb8 hm
            refine sU rfl ⟨_, rfl, .inl (congrArg Value.bool hb8)⟩ (sU rfl ⟨_, rfl, .inl (congrArg Value.bool hb8)⟩ (sU rfl ⟨_, rfl, .inl (congrArg Value.bool hb8)⟩ (sU rfl ⟨_, rfl, .inl (congrArg Value.bool hb8)⟩ (sU rfl ⟨_, rfl, .inl (congrArg Value.bool hb8)⟩ (sU rfl ⟨_, rfl, .inl (congrArg Value.bool hb8)⟩ (sU rfl ⟨_, rfl, .inl (congrArg Value.bool hb8)⟩ (s0 rfl trivial (fun _ => r_pkt rfl hb8 rfl) rfl (s0 rfl trivial (fun _ => r_mb rfl) rfl (sU rfl ⟨_, rfl, .inl (congrArg Value.bool rfl)⟩ (sU rfl ⟨_, rfl, .inl (congrArg Value.bool rfl)⟩ (sU rfl ⟨_, rfl, .inl (congrArg Value.bool rfl)⟩ (sU rfl ⟨_, rfl, .inl (congrArg Value.bool rfl)⟩ (sU rfl ⟨_, rfl, .inl (congrArg Value.bool rfl)⟩ (sU rfl ⟨_, rfl, .inl (congrArg Value.bool rfl)⟩ (sU rfl ⟨_, rfl, .inl (congrArg Value.bool rfl)⟩ (s0 rfl trivial (fun _ => r_pkt rfl rfl rfl) rfl (s0 rfl trivial (fun _ => r_mb rfl) rfl (sU rfl ⟨_, rfl, .inl (congrArg Value.bool rfl)⟩ (sU rfl ⟨_, rfl, .inl (congrArg Value.bool rfl)⟩ (sU rfl ⟨_, rfl, .inl (congrArg Value.bool rfl)⟩ (sU rfl ⟨_, rfl, .inr rfl⟩ (sU rfl ⟨_, rfl, .inr rfl⟩ (sU rfl ⟨_, rfl, .inr rfl⟩ (sU rfl ⟨_, rfl, .inr rfl⟩ (sU rfl ⟨_, rfl, .inr rfl⟩ (sU rfl ⟨_, rfl, .inr rfl⟩ (sU rfl ⟨_, rfl, .inr rfl⟩ (sU rfl ⟨_, rfl, .inl (congrArg Value.bool rfl)⟩ (s0 rfl trivial (fun _ => r_pkt rfl rfl rfl) rfl (se (t_thenR [(3, .pointer (some ⟨b1, 0, none⟩)), (4, .slice a5 (List.length x2) c5), (9, .int .i64 x5), (10, .pointer (some ⟨b4, 0, none⟩)), (11, .int .i64 y6.2), (100, .bool true)] ⟨rfl, rfl, rfl, rfl, rfl, rfl, trivial⟩ fun J => ?_)))))))))))))))))))))))))))))))
            refine cnd (b := true) rfl (fun _ => ?_) (fun h => nomatch h)
            refine sq2 ?_
            refine rg (pv (r_zb rfl) (nil (t_thenR [(2, .bool false)] ⟨rfl, trivial⟩ fun J => ?_)))
            have hm := Option.some.inj hm
            subst hm
            have hn1 : _ = Lp.ret _ := hn1
            subst hn1
            have hm := thn_ret hq1
            have hm := Option.some.inj hm
            subst hm
            exact rtn (r_then (r_blk (r_then (r_then (r_blk (r_then (ret1 rfl rfl ⟨_, rfl, _, (Im.trans im1 (Im.trans im3 (Im.trans im4 (Im.trans im5 (Im.trans im6 (Im.trans im10 (Im.trans im11 (Im.trans im12 (Im.trans im13 im14))))))))), ⟨rfl, hS14.sel [1] rfl, trivial⟩⟩)))))))
          · have hm := cfalse hb8 hm
            obtain ⟨y7, hx8, hm⟩ := bindS hm
            refine s0 rfl ⟨_, rfl, congrArg Value.bool hb8⟩ (fun _ => r_mp rfl) rfl (s0 rfl ⟨_, rfl, congrArg Value.bool hb8⟩ (fun _ => r_mi rfl) rfl (s0 rfl ⟨_, rfl, congrArg Value.bool hb8⟩ (fun _ => r_ms rfl) rfl (s0 rfl ⟨_, rfl, congrArg Value.bool hb8⟩ (fun _ => r_mi rfl) rfl (s2 [] rfl ⟨_, rfl, congrArg Value.bool hb8⟩ rfl (by kernel_rfl) (calS cf21 rfl (kind_Table_Size_sim (p0 := x4) (H_p0 := boxA b1) (p1 := x5) (hS14.bun [0, 1] [2, 3] rfl) (lnBox b1) hx8) rfl fun v7 T10 w14 im15 rv7 => ?_)))))
            obtain ⟨rfl, hS15, _⟩ := rv7
            have hS15 : Sep g T10 w14 [boxA b4 [.int .i64 y6.1.Kind, .int .i64 y6.1.Elem, .int .i64 y6.1.Len, .string ⟨y6.1.Name.toArray⟩, .slice a9 (List.length y6.1.Fields) c9], R, boxA b1 [.slice a4 n3 c4], ownA rKindKnown 65 (.slice a4 n3 c4) x4.list] := hS15.unb
            refine ⟨st0, ?_⟩
            obtain ⟨y8, hx9, hm⟩ := bindS hm
            refine s2 [] rfl ⟨_, rfl, congrArg Value.bool hb8⟩ rfl (by kernel_rfl) (calS cf23 rfl (ref08_Size_sim (p0 := x2) (p1 := x5) (hS15.bun [0, 1, 2, 3] [] rfl) (h3.mono (Im.trans im10 (Im.trans im11 (Im.trans im12 (Im.trans im13 (Im.trans im14 im15)))))) hx9) rfl fun v8 T11 w15 im16 rv8 => ?_)
            obtain ⟨rfl, hS16, _⟩ := rv8
            have hS16 : Sep g T11 w15 [boxA b4 [.int .i64 y6.1.Kind, .int .i64 y6.1.Elem, .int .i64 y6.1.Len, .string ⟨y6.1.Name.toArray⟩, .slice a9 (List.length y6.1.Fields) c9], R, boxA b1 [.slice a4 n3 c4], ownA rKindKnown 65 (.slice a4 n3 c4) x4.list] := hS16.unb
            refine ⟨st0, ?_⟩
            refine s0 rfl ⟨_, rfl, congrArg Value.bool hb8⟩ (fun _ => r_ib rfl rfl rfl) rfl (s0 rfl trivial (fun _ => r_pkf rfl hb8 rfl) rfl (s0 rfl trivial (fun _ => r_mb rfl) rfl (?_)))
            rcases Bool.eq_false_or_eq_true (y7 != y8) with hb9 | hb9
            · have hm := ctrue hb9 hm
              refine sU rfl ⟨_, rfl, .inl (congrArg Value.bool hb9)⟩ (sU rfl ⟨_, rfl, .inl (congrArg Value.bool hb9)⟩ (sU rfl ⟨_, rfl, .inl (congrArg Value.bool hb9)⟩ (sU rfl ⟨_, rfl, .inl (congrArg Value.bool hb9)⟩ (sU rfl ⟨_, rfl, .inl (congrArg Value.bool hb9)⟩ (sU rfl ⟨_, rfl, .inl (congrArg Value.bool hb9)⟩ (sU rfl ⟨_, rfl, .inl (congrArg Value.bool hb9)⟩ (s0 rfl trivial (fun _ => r_pkt rfl hb9 rfl) rfl (s0 rfl trivial (fun _ => r_mb rfl) rfl (sU rfl ⟨_, rfl, .inl (congrArg Value.bool rfl)⟩ (sU rfl ⟨_, rfl, .inl (congrArg Value.bool rfl)⟩ (sU rfl ⟨_, rfl, .inl (congrArg Value.bool rfl)⟩ (sU rfl ⟨_, rfl, .inr rfl⟩ (sU rfl ⟨_, rfl, .inr rfl⟩ (sU rfl ⟨_, rfl, .inr rfl⟩ (sU rfl ⟨_, rfl, .inr rfl⟩ (sU rfl ⟨_, rfl, .inr rfl⟩ (sU rfl ⟨_, rfl, .inr rfl⟩ (sU rfl ⟨_, rfl, .inr rfl⟩ (sU rfl ⟨_, rfl, .inl (congrArg Value.bool rfl)⟩ (s0 rfl trivial (fun _ => r_pkt rfl rfl rfl) rfl (se (t_thenR [(3, .pointer (some ⟨b1, 0, none⟩)), (4, .slice a5 (List.length x2) c5), (9, .int .i64 x5), (10, .pointer (some ⟨b4, 0, none⟩)), (11, .int .i64 y6.2), (100, .bool true)] ⟨rfl, rfl, rfl, rfl, rfl, rfl, trivial⟩ fun J => ?_))))))))))))))))))))))
              refine cnd (b := true) rfl (fun _ => ?_) (fun h => nomatch h)
              refine sq2 ?_
              refine rg (pv (r_zb rfl) (nil (t_thenR [(2, .bool false)] ⟨rfl, trivial⟩ fun J => ?_)))
              have hm := Option.some.inj hm
              subst hm
              have hn1 : _ = Lp.ret _ := hn1
              subst hn1
              have hm := thn_ret hq1
              have hm := Option.some.inj hm
              subst hm
              exact rtn (r_then (r_blk (r_then (r_then (r_blk (r_then (ret1 rfl rfl ⟨_, rfl, _, (Im.trans im1 (Im.trans im3 (Im.trans im4 (Im.trans im5 (Im.trans im6 (Im.trans im10 (Im.trans im11 (Im.trans im12 (Im.trans im13 (Im.trans im14 (Im.trans im15 im16))))))))))), ⟨rfl, hS16.sel [1] rfl, trivial⟩⟩)))))))
            · have hm := cfalse hb9 hm
              obtain ⟨y9, hx10, hm⟩ := bindS hm
              refine s0 rfl ⟨_, rfl, congrArg Value.bool hb9⟩ (fun _ => r_mp rfl) rfl (s0 rfl ⟨_, rfl, congrArg Value.bool hb9⟩ (fun _ => r_mi rfl) rfl (s0 rfl ⟨_, rfl, congrArg Value.bool hb9⟩ (fun _ => r_ms rfl) rfl (s0 rfl ⟨_, rfl, congrArg Value.bool hb9⟩ (fun _ => r_mi rfl) rfl (s2 [] rfl ⟨_, rfl, congrArg Value.bool hb9⟩ rfl (by kernel_rfl) (calS cf22 rfl (kind_Table_Align_sim (p0 := x4) (H_p0 := boxA b1) (p1 := x5) (hS16.bun [0, 1] [2, 3] rfl) (lnBox b1) hx10) rfl fun v9 T12 w16 im17 rv9 => ?_)))))
              obtain ⟨rfl, hS17, _⟩ := rv9
              have hS17 : Sep g T12 w16 [boxA b4 [.int .i64 y6.1.Kind, .int .i64 y6.1.Elem, .int .i64 y6.1.Len, .string ⟨y6.1.Name.toArray⟩, .slice a9 (List.length y6.1.Fields) c9], R, boxA b1 [.slice a4 n3 c4], ownA rKindKnown 65 (.slice a4 n3 c4) x4.list] := hS17.unb
              refine ⟨st0, ?_⟩
              obtain ⟨y10, hx11, hm⟩ := bindS hm
              refine s2 [] rfl ⟨_, rfl, congrArg Value.bool hb9⟩ rfl (by kernel_rfl) (calS cf24 rfl (ref08_Align_sim (p0 := x2) (p1 := x5) (hS17.bun [0, 1, 2, 3] [] rfl) (h3.mono (Im.trans im10 (Im.trans im11 (Im.trans im12 (Im.trans im13 (Im.trans im14 (Im.trans im15 (Im.trans im16 im17)))))))) hx11) rfl fun v10 T13 w17 im18 rv10 => ?_)
              obtain ⟨rfl, hS18, _⟩ := rv10
              have hS18 : Sep g T13 w17 [boxA b4 [.int .i64 y6.1.Kind, .int .i64 y6.1.Elem, .int .i64 y6.1.Len, .string ⟨y6.1.Name.toArray⟩, .slice a9 (List.length y6.1.Fields) c9], R, boxA b1 [.slice a4 n3 c4], ownA rKindKnown 65 (.slice a4 n3 c4) x4.list] := hS18.unb
              refine ⟨st0, ?_⟩
              refine s0 rfl ⟨_, rfl, congrArg Value.bool hb9⟩ (fun _ => r_ib rfl rfl rfl) rfl (s0 rfl trivial (fun _ => r_pkf rfl hb9 rfl) rfl (s0 rfl trivial (fun _ => r_mb rfl) rfl (?_)))
              rcases Bool.eq_false_or_eq_true (y9 != y10) with hb10 | hb10
              · have hm := ctrue hb10 hm
                refine sU rfl ⟨_, rfl, .inl (congrArg Value.bool hb10)⟩ (sU rfl ⟨_, rfl, .inl (congrArg Value.bool hb10)⟩ (sU rfl ⟨_, rfl, .inl (congrArg Value.bool hb10)⟩ (sU rfl ⟨_, rfl, .inr rfl⟩ (sU rfl ⟨_, rfl, .inr rfl⟩ (sU rfl ⟨_, rfl, .inr rfl⟩ (sU rfl ⟨_, rfl, .inr rfl⟩ (sU rfl ⟨_, rfl, .inr rfl⟩ (sU rfl ⟨_, rfl, .inr rfl⟩ (sU rfl ⟨_, rfl, .inr rfl⟩ (sU rfl ⟨_, rfl, .inl (congrArg Value.bool hb10)⟩ (s0 rfl trivial (fun _ => r_pkt rfl hb10 rfl) rfl (se (t_thenR [(3, .pointer (some ⟨b1, 0, none⟩)), (4, .slice a5 (List.length x2) c5), (9, .int .i64 x5), (10, .pointer (some ⟨b4, 0, none⟩)), (11, .int .i64 y6.2), (100, .bool true)] ⟨rfl, rfl, rfl, rfl, rfl, rfl, trivial⟩ fun J => ?_)))))))))))))
                refine cnd (b := true) rfl (fun _ => ?_) (fun h => nomatch h)
                refine sq2 ?_
                refine rg (pv (r_zb rfl) (nil (t_thenR [(2, .bool false)] ⟨rfl, trivial⟩ fun J => ?_)))
                have hm := Option.some.inj hm
                subst hm
                have hn1 : _ = Lp.ret _ := hn1
                subst hn1
                have hm := thn_ret hq1
                have hm := Option.some.inj hm
                subst hm
                exact rtn (r_then (r_blk (r_then (r_then (r_blk (r_then (ret1 rfl rfl ⟨_, rfl, _, (Im.trans im1 (Im.trans im3 (Im.trans im4 (Im.trans im5 (Im.trans im6 (Im.trans im10 (Im.trans im11 (Im.trans im12 (Im.trans im13 (Im.trans im14 (Im.trans im15 (Im.trans im16 (Im.trans im17 im18))))))))))))), ⟨rfl, hS18.sel [1] rfl, trivial⟩⟩)))))))
              · have hm := cfalse hb10 hm
                refine s0 rfl ⟨_, rfl, congrArg Value.bool hb10⟩ (fun _ => r_mi rfl) rfl (s0 rfl ⟨_, rfl, congrArg Value.bool hb10⟩ (fun _ => r_ib rfl rfl rfl) rfl (s0 rfl ⟨_, rfl, congrArg Value.bool hb10⟩ (fun _ => r_mb rfl) rfl (?_)))
                rcases Bool.eq_false_or_eq_true (y6.2 == 0) with hb11 | hb11
                · have hm := ctrue hb11 hm
                  obtain ⟨u2, hx12, hm⟩ := bindS hm
                  obtain ⟨b5, of2, cs2, k2, cp2, hv2, hp2, hl2, he2, hr2, hc2, hT2⟩ := (h3.mono (Im.trans im10 (Im.trans im11 (Im.trans im12 (Im.trans im13 (Im.trans im14 (Im.trans im15 (Im.trans im16 (Im.trans im17 im18))))))))).ixT hx12 rfl
                  obtain ⟨a10, c10, rfl, h7⟩ := rref08Type_open hr2
                  obtain ⟨y11, hx13, hm⟩ := bindS hm
                  refine s1 rfl ⟨_, rfl, congrArg Value.bool hb11⟩ (r_ldS rfl Try.isAgg55 Try.sizeOf55 rfl (hS18.cells0 (i := 0) ⟨rfl, rfl⟩ (o := 0) rfl) (cs := [.int .i64 y6.1.Kind, .int .i64 y6.1.Elem, .int .i64 y6.1.Len, .string ⟨y6.1.Name.toArray⟩, .slice a9 (List.length y6.1.Fields) c9])) rfl (s0 rfl ⟨_, rfl, congrArg Value.bool hb11⟩ (fun _ => r_ms rfl) rfl (s0 rfl ⟨_, rfl, congrArg Value.bool hb11⟩ (fun _ => r_mi rfl) rfl (s0 rfl ⟨_, rfl, congrArg Value.bool hb11⟩ (fun _ => r_ixe hv2 rfl Try.underlying28 Try.sizeOf51 hp2 hl2 he2) rfl (s1 rfl ⟨_, rfl, congrArg Value.bool hb11⟩ (r_ldS rfl Try.isAgg51 Try.sizeOf51 rfl hc2 (cs := [.int .i64 u2.Kind, .int .i64 u2.Elem, .int .i64 u2.Len, .string ⟨u2.Name.toArray⟩, .slice a10 (List.length u2.Fields) c10, .bool u2.Open])) rfl (s2 [] rfl ⟨_, rfl, congrArg Value.bool hb11⟩ rfl (by kernel_rfl) (calS cf25 rfl (law08_same_sim (p0 := y6.1) (p1 := u2) (hS18.bun [0, 1, 2, 3] [] rfl) (h6.mono (Im.trans im12 (Im.trans im13 (Im.trans im14 (Im.trans im15 (Im.trans im16 (Im.trans im17 im18))))))) h7 hx13) rfl fun v11 T14 w18 im19 rv11 => ?_))))))
                  obtain ⟨rfl, hS19, _⟩ := rv11
                  have hS19 : Sep g T14 w18 [boxA b4 [.int .i64 y6.1.Kind, .int .i64 y6.1.Elem, .int .i64 y6.1.Len, .string ⟨y6.1.Name.toArray⟩, .slice a9 (List.length y6.1.Fields) c9], R, boxA b1 [.slice a4 n3 c4], ownA rKindKnown 65 (.slice a4 n3 c4) x4.list] := hS19.unb
                  refine ⟨st0, ?_⟩
                  refine s0 rfl ⟨_, rfl, congrArg Value.bool hb11⟩ (fun _ => r_nt rfl) rfl (s0 rfl ⟨_, rfl, congrArg Value.bool hb10⟩ (fun _ => r_pkt rfl hb11 rfl) rfl (s0 rfl trivial (fun _ => r_pkf rfl hb10 rfl) rfl (se (t_thenR [(3, .pointer (some ⟨b1, 0, none⟩)), (4, .slice a5 (List.length x2) c5), (9, .int .i64 x5), (10, .pointer (some ⟨b4, 0, none⟩)), (11, .int .i64 y6.2), (100, .bool (!y11))] ⟨rfl, rfl, rfl, rfl, rfl, rfl, trivial⟩ fun J => ?_))))
                  refine cnd rfl (fun hb12 => ?_) (fun hb12 => ?_)
                  · have hm := ctrue hb12 hm
                    refine sq2 ?_
                    refine rg (pv (r_zb rfl) (nil (t_thenR [(2, .bool false)] ⟨rfl, trivial⟩ fun J => ?_)))
                    have hm := Option.some.inj hm
                    subst hm
                    have hn1 : _ = Lp.ret _ := hn1
                    subst hn1
                    have hm := thn_ret hq1
                    have hm := Option.some.inj hm
                    subst hm
                    exact rtn (r_then (r_blk (r_then (r_then (r_blk (r_then (ret1 rfl rfl ⟨_, rfl, _, (Im.trans im1 (Im.trans im3 (Im.trans im4 (Im.trans im5 (Im.trans im6 (Im.trans im10 (Im.trans im11 (Im.trans im12 (Im.trans im13 (Im.trans im14 (Im.trans im15 (Im.trans im16 (Im.trans im17 (Im.trans im18 im19)))))))))))))), ⟨rfl, hS19.sel [1] rfl, trivial⟩⟩)))))))
                  · have hm := cfalse hb12 hm
                    refine skp (t_then ?_)
                    refine sq2 ?_
                    obtain ⟨y12, hx14, hm⟩ := bindS hm
                    refine rg (pv (r_mp rfl) (pv (r_mi rfl) (wl rfl (calS cf26 rfl (kind_Table_Scalar_sim (p0 := x4) (H_p0 := boxA b1) (p1 := x5) (hS19.bun [0, 1] [2, 3] rfl) (lnBox b1) hx14) rfl fun v12 T15 w19 im20 rv12 => ?_))))
                    obtain ⟨rfl, hS20, _⟩ := rv12
                    have hS20 : Sep g T15 w19 [boxA b4 [.int .i64 y6.1.Kind, .int .i64 y6.1.Elem, .int .i64 y6.1.Len, .string ⟨y6.1.Name.toArray⟩, .slice a9 (List.length y6.1.Fields) c9], R, boxA b1 [.slice a4 n3 c4], ownA rKindKnown 65 (.slice a4 n3 c4) x4.list] := hS20.unb
                    refine pv (r_mi rfl) (pv (r_ib rfl rfl rfl) (pv (r_mb rfl) (?_)))
                    rcases Bool.eq_false_or_eq_true (y6.2 == 0) with hb13 | hb13
                    · have hm := ctrue hb13 hm
                      refine gT (d0 := 106) rfl rfl hb13 (pv (r_fa rfl Try.underlying55 rfl Try.sizeOf3 rfl) (gT (d0 := 106) rfl rfl hb13 (pv (r_ld rfl Try.isAgg3 (hS20.cell0 (i := 0) ⟨rfl, rfl⟩ (j := 0) rfl)) (gT (d0 := 106) rfl rfl hb13 (pv (r_ib rfl rfl rfl) (gT (d0 := 106) rfl rfl hb13 (pv (r_mb rfl) (?_))))))))
                      rcases Bool.eq_false_or_eq_true (y6.1.Kind == 1) with hb14 | hb14
                      · have hm := ctrue hb14 hm
                        refine gF (d0 := 110) rfl rfl (by rw [hb14]; rfl) (gF (d0 := 110) rfl rfl (by rw [hb14]; rfl) (gF (d0 := 110) rfl rfl (by rw [hb14]; rfl) (gT (d0 := 106) rfl rfl hb13 (pv (r_pkt rfl hb14 rfl) (gT (d0 := 106) rfl rfl hb13 (pv (r_mb rfl) (gF (d0 := 115) rfl rfl rfl (gF (d0 := 115) rfl rfl rfl (gF (d0 := 115) rfl rfl rfl (gT (d0 := 106) rfl rfl hb13 (pv (r_pkt rfl rfl rfl) (pv (r_pkt rfl hb13 rfl) (pv (r_bn rfl rfl Try.underlying4) (nil (t_thenR [(3, .pointer (some ⟨b1, 0, none⟩)), (4, .slice a5 (List.length x2) c5), (9, .int .i64 x5), (121, .bool (!(y12 == true)))] ⟨rfl, rfl, rfl, rfl, trivial⟩ fun J => ?_)))))))))))))))
                        refine cnd rfl (fun hb18 => ?_) (fun hb18 => ?_)
                        · have hm := ctrue hb18 hm
                          refine sq2 ?_
                          refine rg (pv (r_zb rfl) (nil (t_then ?_)))
                          have hm := Option.some.inj hm
                          subst hm
                          have hn1 : _ = Lp.ret _ := hn1
                          subst hn1
                          have hm := thn_ret hq1
                          have hm := Option.some.inj hm
                          subst hm
                          exact rtn (r_blk (r_then (r_then (r_blk (r_then (ret1 rfl rfl ⟨_, rfl, _, (Im.trans im1 (Im.trans im3 (Im.trans im4 (Im.trans im5 (Im.trans im6 (Im.trans im10 (Im.trans im11 (Im.trans im12 (Im.trans im13 (Im.trans im14 (Im.trans im15 (Im.trans im16 (Im.trans im17 (Im.trans im18 (Im.trans im19 im20))))))))))))))), ⟨rfl, hS20.sel [1] rfl, trivial⟩⟩))))))
                        · have hm := cfalse hb18 hm
                          refine skp (t_blk (t_then ?_))
                          have hm := Option.some.inj hm
                          subst hm
                          exact rg (pv (r_mi rfl) (pv (r_ib rfl rfl rfl) (pv (r_zi rfl) (nil (t_then ⟨m1, Nat.lt_succ_self _, _, _, (IntKind.wrap .i64 (x5 + 1)), env_has ⟨rfl, rfl, rfl, trivial⟩, (Im.trans im10 (Im.trans im11 (Im.trans im12 (Im.trans im13 (Im.trans im14 (Im.trans im15 (Im.trans im16 (Im.trans im17 (Im.trans im18 (Im.trans im19 im20)))))))))), hS20.sel [1, 2, 3] rfl, hn1⟩)))))
                      · have hm := cfalse hb14 hm
                        refine gT (d0 := 110) rfl rfl hb14 (pv (r_fa rfl Try.underlying55 rfl Try.sizeOf3 rfl) (gT (d0 := 110) rfl rfl hb14 (pv (r_ld rfl Try.isAgg3 (hS20.cell0 (i := 0) ⟨rfl, rfl⟩ (j := 0) rfl)) (gT (d0 := 110) rfl rfl hb14 (pv (r_ib rfl rfl rfl) (gT (d0 := 106) rfl rfl hb13 (pv (r_pkf rfl hb14 rfl) (gT (d0 := 106) rfl rfl hb13 (pv (r_mb rfl) (?_))))))))))
                        rcases Bool.eq_false_or_eq_true (y6.1.Kind == 2) with hb15 | hb15
                        · have hm := ctrue hb15 hm
                          refine gF (d0 := 115) rfl rfl (by rw [hb15]; rfl) (gF (d0 := 115) rfl rfl (by rw [hb15]; rfl) (gF (d0 := 115) rfl rfl (by rw [hb15]; rfl) (gT (d0 := 106) rfl rfl hb13 (pv (r_pkt rfl hb15 rfl) (pv (r_pkt rfl hb13 rfl) (pv (r_bn rfl rfl Try.underlying4) (nil (t_thenR [(3, .pointer (some ⟨b1, 0, none⟩)), (4, .slice a5 (List.length x2) c5), (9, .int .i64 x5), (121, .bool (!(y12 == true)))] ⟨rfl, rfl, rfl, rfl, trivial⟩ fun J => ?_))))))))
                          refine cnd rfl (fun hb17 => ?_) (fun hb17 => ?_)
                          · have hm := ctrue hb17 hm
                            refine sq2 ?_
                            refine rg (pv (r_zb rfl) (nil (t_then ?_)))
                            have hm := Option.some.inj hm
                            subst hm
                            have hn1 : _ = Lp.ret _ := hn1
                            subst hn1
                            have hm := thn_ret hq1
                            have hm := Option.some.inj hm
                            subst hm
                            exact rtn (r_blk (r_then (r_then (r_blk (r_then (ret1 rfl rfl ⟨_, rfl, _, (Im.trans im1 (Im.trans im3 (Im.trans im4 (Im.trans im5 (Im.trans im6 (Im.trans im10 (Im.trans im11 (Im.trans im12 (Im.trans im13 (Im.trans im14 (Im.trans im15 (Im.trans im16 (Im.trans im17 (Im.trans im18 (Im.trans im19 im20))))))))))))))), ⟨rfl, hS20.sel [1] rfl, trivial⟩⟩))))))
                          · have hm := cfalse hb17 hm
                            refine skp (t_blk (t_then ?_))
                            have hm := Option.some.inj hm
                            subst hm
                            exact rg (pv (r_mi rfl) (pv (r_ib rfl rfl rfl) (pv (r_zi rfl) (nil (t_then ⟨m1, Nat.lt_succ_self _, _, _, (IntKind.wrap .i64 (x5 + 1)), env_has ⟨rfl, rfl, rfl, trivial⟩, (Im.trans im10 (Im.trans im11 (Im.trans im12 (Im.trans im13 (Im.trans im14 (Im.trans im15 (Im.trans im16 (Im.trans im17 (Im.trans im18 (Im.trans im19 im20)))))))))), hS20.sel [1, 2, 3] rfl, hn1⟩)))))
                        · have hm := cfalse hb15 hm
                          refine gT (d0 := 115) rfl rfl hb15 (pv (r_fa rfl Try.underlying55 rfl Try.sizeOf3 rfl) (gT (d0 := 115) rfl rfl hb15 (pv (r_ld rfl Try.isAgg3 (hS20.cell0 (i := 0) ⟨rfl, rfl⟩ (j := 0) rfl)) (gT (d0 := 115) rfl rfl hb15 (pv (r_ib rfl rfl rfl) (gT (d0 := 106) rfl rfl hb13 (pv (r_pkf rfl hb15 rfl) (pv (r_pkt rfl hb13 rfl) (pv (r_bn rfl rfl Try.underlying4) (nil (t_thenR [(3, .pointer (some ⟨b1, 0, none⟩)), (4, .slice a5 (List.length x2) c5), (9, .int .i64 x5), (121, .bool (!(y12 == (y6.1.Kind == 3))))] ⟨rfl, rfl, rfl, rfl, trivial⟩ fun J => ?_)))))))))))
                          refine cnd rfl (fun hb16 => ?_) (fun hb16 => ?_)
                          · have hm := ctrue hb16 hm
                            refine sq2 ?_
                            refine rg (pv (r_zb rfl) (nil (t_then ?_)))
                            have hm := Option.some.inj hm
                            subst hm
                            have hn1 : _ = Lp.ret _ := hn1
                            subst hn1
                            have hm := thn_ret hq1
                            have hm := Option.some.inj hm
                            subst hm
                            exact rtn (r_blk (r_then (r_then (r_blk (r_then (ret1 rfl rfl ⟨_, rfl, _, (Im.trans im1 (Im.trans im3 (Im.trans im4 (Im.trans im5 (Im.trans im6 (Im.trans im10 (Im.trans im11 (Im.trans im12 (Im.trans im13 (Im.trans im14 (Im.trans im15 (Im.trans im16 (Im.trans im17 (Im.trans im18 (Im.trans im19 im20))))))))))))))), ⟨rfl, hS20.sel [1] rfl, trivial⟩⟩))))))
                          · have hm := cfalse hb16 hm
                            refine skp (t_blk (t_then ?_))
                            have hm := Option.some.inj hm
                            subst hm
                            exact rg (pv (r_mi rfl) (pv (r_ib rfl rfl rfl) (pv (r_zi rfl) (nil (t_then ⟨m1, Nat.lt_succ_self _, _, _, (IntKind.wrap .i64 (x5 + 1)), env_has ⟨rfl, rfl, rfl, trivial⟩, (Im.trans im10 (Im.trans im11 (Im.trans im12 (Im.trans im13 (Im.trans im14 (Im.trans im15 (Im.trans im16 (Im.trans im17 (Im.trans im18 (Im.trans im19 im20)))))))))), hS20.sel [1, 2, 3] rfl, hn1⟩)))))
                    · have hm := cfalse hb13 hm
                      refine gF (d0 := 106) rfl rfl (by rw [hb13]; rfl) (gF (d0 := 106) rfl rfl (by rw [hb13]; rfl) (gF (d0 := 106) rfl rfl (by rw [hb13]; rfl) (gF (d0 := 106) rfl rfl (by rw [hb13]; rfl) (gU (d0 := 110) rfl rfl (gU (d0 := 110) rfl rfl (gU (d0 := 110) rfl rfl (gF (d0 := 106) rfl rfl (by rw [hb13]; rfl) (gF (d0 := 106) rfl rfl (by rw [hb13]; rfl) (gU (d0 := 115) rfl rfl (gU (d0 := 115) rfl rfl (gU (d0 := 115) rfl rfl (gF (d0 := 106) rfl rfl (by rw [hb13]; rfl) (pv (r_pkf rfl hb13 rfl) (pv (r_bn rfl rfl Try.underlying4) (nil (t_thenR [(3, .pointer (some ⟨b1, 0, none⟩)), (4, .slice a5 (List.length x2) c5), (9, .int .i64 x5), (121, .bool (!(y12 == false)))] ⟨rfl, rfl, rfl, rfl, trivial⟩ fun J => ?_))))))))))))))))
                      refine cnd rfl (fun hb19 => ?_) (fun hb19 => ?_)
                      · have hm := ctrue hb19 hm
                        refine sq2 ?_
                        refine rg (pv (r_zb rfl) (nil (t_then ?_)))
                        have hm := Option.some.inj hm
                        subst hm
                        have hn1 : _ = Lp.ret _ := hn1
                        subst hn1
                        have hm := thn_ret hq1
                        have hm := Option.some.inj hm
                        subst hm
                        exact rtn (r_blk (r_then (r_then (r_blk (r_then (ret1 rfl rfl ⟨_, rfl, _, (Im.trans im1 (Im.trans im3 (Im.trans im4 (Im.trans im5 (Im.trans im6 (Im.trans im10 (Im.trans im11 (Im.trans im12 (Im.trans im13 (Im.trans im14 (Im.trans im15 (Im.trans im16 (Im.trans im17 (Im.trans im18 (Im.trans im19 im20))))))))))))))), ⟨rfl, hS20.sel [1] rfl, trivial⟩⟩))))))
                      · have hm := cfalse hb19 hm
                        refine skp (t_blk (t_then ?_))
                        have hm := Option.some.inj hm
                        subst hm
                        exact rg (pv (r_mi rfl) (pv (r_ib rfl rfl rfl) (pv (r_zi rfl) (nil (t_then ⟨m1, Nat.lt_succ_self _, _, _, (IntKind.wrap .i64 (x5 + 1)), env_has ⟨rfl, rfl, rfl, trivial⟩, (Im.trans im10 (Im.trans im11 (Im.trans im12 (Im.trans im13 (Im.trans im14 (Im.trans im15 (Im.trans im16 (Im.trans im17 (Im.trans im18 (Im.trans im19 im20)))))))))), hS20.sel [1, 2, 3] rfl, hn1⟩)))))
                · have hm := cfalse hb11 hm
                  refine sU rfl ⟨_, rfl, .inl (congrArg Value.bool hb11)⟩ (sU rfl ⟨_, rfl, .inl (congrArg Value.bool hb11)⟩ (sU rfl ⟨_, rfl, .inl (congrArg Value.bool hb11)⟩ (sU rfl ⟨_, rfl, .inl (congrArg Value.bool hb11)⟩ (sU rfl ⟨_, rfl, .inl (congrArg Value.bool hb11)⟩ (sU rfl ⟨_, rfl, .inl (congrArg Value.bool hb11)⟩ (sU rfl ⟨_, rfl, .inl (congrArg Value.bool hb11)⟩ (s0 rfl ⟨_, rfl, congrArg Value.bool hb10⟩ (fun _ => r_pkf rfl hb11 rfl) rfl (s0 rfl trivial (fun _ => r_pkf rfl hb10 rfl) rfl (se (t_thenR [(3, .pointer (some ⟨b1, 0, none⟩)), (4, .slice a5 (List.length x2) c5), (9, .int .i64 x5), (10, .pointer (some ⟨b4, 0, none⟩)), (11, .int .i64 y6.2), (100, .bool false)] ⟨rfl, rfl, rfl, rfl, rfl, rfl, trivial⟩ fun J => ?_))))))))))
                  refine cnd (b := false) rfl (fun h => nomatch h) (fun _ => ?_)
                  refine skp (t_then ?_)
                  refine sq2 ?_
                  obtain ⟨y13, hx15, hm⟩ := bindS hm
                  refine rg (pv (r_mp rfl) (pv (r_mi rfl) (wl rfl (calS cf26 rfl (kind_Table_Scalar_sim (p0 := x4) (H_p0 := boxA b1) (p1 := x5) (hS18.bun [0, 1] [2, 3] rfl) (lnBox b1) hx15) rfl fun v13 T16 w20 im21 rv13 => ?_))))
                  obtain ⟨rfl, hS21, _⟩ := rv13
                  have hS21 : Sep g T16 w20 [boxA b4 [.int .i64 y6.1.Kind, .int .i64 y6.1.Elem, .int .i64 y6.1.Len, .string ⟨y6.1.Name.toArray⟩, .slice a9 (List.length y6.1.Fields) c9], R, boxA b1 [.slice a4 n3 c4], ownA rKindKnown 65 (.slice a4 n3 c4) x4.list] := hS21.unb
                  refine pv (r_mi rfl) (pv (r_ib rfl rfl rfl) (pv (r_mb rfl) (?_)))
                  rcases Bool.eq_false_or_eq_true (y6.2 == 0) with hb21 | hb21
                  · have hm := ctrue hb21 hm
                    refine gT (d0 := 106) rfl rfl hb21 (pv (r_fa rfl Try.underlying55 rfl Try.sizeOf3 rfl) (gT (d0 := 106) rfl rfl hb21 (pv (r_ld rfl Try.isAgg3 (hS21.cell0 (i := 0) ⟨rfl, rfl⟩ (j := 0) rfl)) (gT (d0 := 106) rfl rfl hb21 (pv (r_ib rfl rfl rfl) (gT (d0 := 106) rfl rfl hb21 (pv (r_mb rfl) (?_))))))))
                    rcases Bool.eq_false_or_eq_true (y6.1.Kind == 1) with hb22 | hb22
                    · have hm := ctrue hb22 hm
                      refine gF (d0 := 110) rfl rfl (by rw [hb22]; rfl) (gF (d0 := 110) rfl rfl (by rw [hb22]; rfl) (gF (d0 := 110) rfl rfl (by rw [hb22]; rfl) (gT (d0 := 106) rfl rfl hb21 (pv (r_pkt rfl hb22 rfl) (gT (d0 := 106) rfl rfl hb21 (pv (r_mb rfl) (gF (d0 := 115) rfl rfl rfl (gF (d0 := 115) rfl rfl rfl (gF (d0 := 115) rfl rfl rfl (gT (d0 := 106) rfl rfl hb21 (pv (r_pkt rfl rfl rfl) (pv (r_pkt rfl hb21 rfl) (pv (r_bn rfl rfl Try.underlying4) (nil (t_thenR [(3, .pointer (some ⟨b1, 0, none⟩)), (4, .slice a5 (List.length x2) c5), (9, .int .i64 x5), (121, .bool (!(y13 == true)))] ⟨rfl, rfl, rfl, rfl, trivial⟩ fun J => ?_)))))))))))))))
                      refine cnd rfl (fun hb26 => ?_) (fun hb26 => ?_)
                      · have hm := ctrue hb26 hm
                        refine sq2 ?_
                        refine rg (pv (r_zb rfl) (nil (t_then ?_)))
                        have hm := Option.some.inj hm
                        subst hm
                        have hn1 : _ = Lp.ret _ := hn1
                        subst hn1
                        have hm := thn_ret hq1
                        have hm := Option.some.inj hm
                        subst hm
                        exact rtn (r_blk (r_then (r_then (r_blk (r_then (ret1 rfl rfl ⟨_, rfl, _, (Im.trans im1 (Im.trans im3 (Im.trans im4 (Im.trans im5 (Im.trans im6 (Im.trans im10 (Im.trans im11 (Im.trans im12 (Im.trans im13 (Im.trans im14 (Im.trans im15 (Im.trans im16 (Im.trans im17 (Im.trans im18 im21)))))))))))))), ⟨rfl, hS21.sel [1] rfl, trivial⟩⟩))))))
                      · have hm := cfalse hb26 hm
                        refine skp (t_blk (t_then ?_))
                        have hm := Option.some.inj hm
                        subst hm
                        exact rg (pv (r_mi rfl) (pv (r_ib rfl rfl rfl) (pv (r_zi rfl) (nil (t_then ⟨m1, Nat.lt_succ_self _, _, _, (IntKind.wrap .i64 (x5 + 1)), env_has ⟨rfl, rfl, rfl, trivial⟩, (Im.trans im10 (Im.trans im11 (Im.trans im12 (Im.trans im13 (Im.trans im14 (Im.trans im15 (Im.trans im16 (Im.trans im17 (Im.trans im18 im21))))))))), hS21.sel [1, 2, 3] rfl, hn1⟩)))))
                    · have hm := cfalse hb22 hm
                      refine gT (d0 := 110) rfl rfl hb22 (pv (r_fa rfl Try.underlying55 rfl Try.sizeOf3 rfl) (gT (d0 := 110) rfl rfl hb22 (pv (r_ld rfl Try.isAgg3 (hS21.cell0 (i := 0) ⟨rfl, rfl⟩ (j := 0) rfl)) (gT (d0 := 110) rfl rfl hb22 (pv (r_ib rfl rfl rfl) (gT (d0 := 106) rfl rfl hb21 (pv (r_pkf rfl hb22 rfl) (gT (d0 := 106) rfl rfl hb21 (pv (r_mb rfl) (?_))))))))))
                      rcases Bool.eq_false_or_eq_true (y6.1.Kind == 2) with hb23 | hb23
                      · have hm := ctrue hb23 hm
                        refine gF (d0 := 115) rfl rfl (by rw [hb23]; rfl) (gF (d0 := 115) rfl rfl (by rw [hb23]; rfl) (gF (d0 := 115) rfl rfl (by rw [hb23]; rfl) (gT (d0 := 106) rfl rfl hb21 (pv (r_pkt rfl hb23 rfl) (pv (r_pkt rfl hb21 rfl) (pv (r_bn rfl rfl Try.underlying4) (nil (t_thenR [(3, .pointer (some ⟨b1, 0, none⟩)), (4, .slice a5 (List.length x2) c5), (9, .int .i64 x5), (121, .bool (!(y13 == true)))] ⟨rfl, rfl, rfl, rfl, trivial⟩ fun J => ?_))))))))
                        refine cnd rfl (fun hb25 => ?_) (fun hb25 => ?_)
                        · have hm := ctrue hb25 hm
                          refine sq2 ?_
                          refine rg (pv (r_zb rfl) (nil (t_then ?_)))
                          have hm := Option.some.inj hm
                          subst hm
                          have hn1 : _ = Lp.ret _ := hn1
                          subst hn1
                          have hm := thn_ret hq1
                          have hm := Option.some.inj hm
                          subst hm
                          exact rtn (r_blk (r_then (r_then (r_blk (r_then (ret1 rfl rfl ⟨_, rfl, _, (Im.trans im1 (Im.trans im3 (Im.trans im4 (Im.trans im5 (Im.trans im6 (Im.trans im10 (Im.trans im11 (Im.trans im12 (Im.trans im13 (Im.trans im14 (Im.trans im15 (Im.trans im16 (Im.trans im17 (Im.trans im18 im21)))))))))))))), ⟨rfl, hS21.sel [1] rfl, trivial⟩⟩))))))
                        · have hm := cfalse hb25 hm
                          refine skp (t_blk (t_then ?_))
                          have hm := Option.some.inj hm
                          subst hm
                          exact rg (pv (r_mi rfl) (pv (r_ib rfl rfl rfl) (pv (r_zi rfl) (nil (t_then ⟨m1, Nat.lt_succ_self _, _, _, (IntKind.wrap .i64 (x5 + 1)), env_has ⟨rfl, rfl, rfl, trivial⟩, (Im.trans im10 (Im.trans im11 (Im.trans im12 (Im.trans im13 (Im.trans im14 (Im.trans im15 (Im.trans im16 (Im.trans im17 (Im.trans im18 im21))))))))), hS21.sel [1, 2, 3] rfl, hn1⟩)))))
                      · have hm := cfalse hb23 hm
                        refine gT (d0 := 115) rfl rfl hb23 (pv (r_fa rfl Try.underlying55 rfl Try.sizeOf3 rfl) (gT (d0 := 115) rfl rfl hb23 (pv (r_ld rfl Try.isAgg3 (hS21.cell0 (i := 0) ⟨rfl, rfl⟩ (j := 0) rfl)) (gT (d0 := 115) rfl rfl hb23 (pv (r_ib rfl rfl rfl) (gT (d0 := 106) rfl rfl hb21 (pv (r_pkf rfl hb23 rfl) (pv (r_pkt rfl hb21 rfl) (pv (r_bn rfl rfl Try.underlying4) (nil (t_thenR [(3, .pointer (some ⟨b1, 0, none⟩)), (4, .slice a5 (List.length x2) c5), (9, .int .i64 x5), (121, .bool (!(y13 == (y6.1.Kind == 3))))] ⟨rfl, rfl, rfl, rfl, trivial⟩ fun J => ?_)))))))))))
                        refine cnd rfl (fun hb24 => ?_) (fun hb24 => ?_)
                        · have hm := ctrue hb24 hm
                          refine sq2 ?_
                          refine rg (pv (r_zb rfl) (nil (t_then ?_)))
                          have hm := Option.some.inj hm
                          subst hm
                          have hn1 : _ = Lp.ret _ := hn1
                          subst hn1
                          have hm := thn_ret hq1
                          have hm := Option.some.inj hm
                          subst hm
                          exact rtn (r_blk (r_then (r_then (r_blk (r_then (ret1 rfl rfl ⟨_, rfl, _, (Im.trans im1 (Im.trans im3 (Im.trans im4 (Im.trans im5 (Im.trans im6 (Im.trans im10 (Im.trans im11 (Im.trans im12 (Im.trans im13 (Im.trans im14 (Im.trans im15 (Im.trans im16 (Im.trans im17 (Im.trans im18 im21)))))))))))))), ⟨rfl, hS21.sel [1] rfl, trivial⟩⟩))))))
                        · have hm := cfalse hb24 hm
                          refine skp (t_blk (t_then ?_))
                          have hm := Option.some.inj hm
                          subst hm
                          exact rg (pv (r_mi rfl) (pv (r_ib rfl rfl rfl) (pv (r_zi rfl) (nil (t_then ⟨m1, Nat.lt_succ_self _, _, _, (IntKind.wrap .i64 (x5 + 1)), env_has ⟨rfl, rfl, rfl, trivial⟩, (Im.trans im10 (Im.trans im11 (Im.trans im12 (Im.trans im13 (Im.trans im14 (Im.trans im15 (Im.trans im16 (Im.trans im17 (Im.trans im18 im21))))))))), hS21.sel [1, 2, 3] rfl, hn1⟩)))))
                  · have hm := cfalse hb21 hm
                    refine gF (d0 := 106) rfl rfl (by rw [hb21]; rfl) (gF (d0 := 106) rfl rfl (by rw [hb21]; rfl) (gF (d0 := 106) rfl rfl (by rw [hb21]; rfl) (gF (d0 := 106) rfl rfl (by rw [hb21]; rfl) (gU (d0 := 110) rfl rfl (gU (d0 := 110) rfl rfl (gU (d0 := 110) rfl rfl (gF (d0 := 106) rfl rfl (by rw [hb21]; rfl) (gF (d0 := 106) rfl rfl (by rw [hb21]; rfl) (gU (d0 := 115) rfl rfl (gU (d0 := 115) rfl rfl (gU (d0 := 115) rfl rfl (gF (d0 := 106) rfl rfl (by rw [hb21]; rfl) (pv (r_pkf rfl hb21 rfl) (pv (r_bn rfl rfl Try.underlying4) (nil (t_thenR [(3, .pointer (some ⟨b1, 0, none⟩)), (4, .slice a5 (List.length x2) c5), (9, .int .i64 x5), (121, .bool (!(y13 == false)))] ⟨rfl, rfl, rfl, rfl, trivial⟩ fun J => ?_))))))))))))))))
                    refine cnd rfl (fun hb27 => ?_) (fun hb27 => ?_)
                    · have hm := ctrue hb27 hm
                      refine sq2 ?_
                      refine rg (pv (r_zb rfl) (nil (t_then ?_)))
                      have hm := Option.some.inj hm
                      subst hm
                      have hn1 : _ = Lp.ret _ := hn1
                      subst hn1
                      have hm := thn_ret hq1
                      have hm := Option.some.inj hm
                      subst hm
                      exact rtn (r_blk (r_then (r_then (r_blk (r_then (ret1 rfl rfl ⟨_, rfl, _, (Im.trans im1 (Im.trans im3 (Im.trans im4 (Im.trans im5 (Im.trans im6 (Im.trans im10 (Im.trans im11 (Im.trans im12 (Im.trans im13 (Im.trans im14 (Im.trans im15 (Im.trans im16 (Im.trans im17 (Im.trans im18 im21)))))))))))))), ⟨rfl, hS21.sel [1] rfl, trivial⟩⟩))))))
                    · have hm := cfalse hb27 hm
                      refine skp (t_blk (t_then ?_))
                      have hm := Option.some.inj hm
                      subst hm
                      exact rg (pv (r_mi rfl) (pv (r_ib rfl rfl rfl) (pv (r_zi rfl) (nil (t_then ⟨m1, Nat.lt_succ_self _, _, _, (IntKind.wrap .i64 (x5 + 1)), env_has ⟨rfl, rfl, rfl, trivial⟩, (Im.trans im10 (Im.trans im11 (Im.trans im12 (Im.trans im13 (Im.trans im14 (Im.trans im15 (Im.trans im16 (Im.trans im17 (Im.trans im18 im21))))))))), hS21.sel [1, 2, 3] rfl, hn1⟩)))))
        · have hm := cfalse hb7 hm
          refine sU rfl ⟨_, rfl, .inl (congrArg Value.bool hb7)⟩ (sU rfl ⟨_, rfl, .inl (congrArg Value.bool hb7)⟩ (sU rfl ⟨_, rfl, .inl (congrArg Value.bool hb7)⟩ (sU rfl ⟨_, rfl, .inl (congrArg Value.bool hb7)⟩ (s0 rfl trivial (fun _ => r_pkf rfl hb7 rfl) rfl (s0 rfl trivial (fun _ => r_bn rfl rfl Try.underlying4) rfl (s0 rfl trivial (fun _ => r_mb rfl) rfl (?_)))))))
          rcases Bool.eq_false_or_eq_true (!((y6.2 == 0) == false)) with hb31 | hb31
          · have hm := ctrue hb31 hm
            refine sU rfl ⟨_, rfl, .inl (congrArg Value.bool hb31)⟩ (sU rfl ⟨_, rfl, .inl (congrArg Value.bool hb31)⟩ (sU rfl ⟨_, rfl, .inl (congrArg Value.bool hb31)⟩ (sU rfl ⟨_, rfl, .inl (congrArg Value.bool hb31)⟩ (sU rfl ⟨_, rfl, .inl (congrArg Value.bool hb31)⟩ (sU rfl ⟨_, rfl, .inl (congrArg Value.bool hb31)⟩ (sU rfl ⟨_, rfl, .inl (congrArg Value.bool hb31)⟩ (s0 rfl trivial (fun _ => r_pkt rfl hb31 rfl) rfl (s0 rfl trivial (fun _ => r_mb rfl) rfl (sU rfl ⟨_, rfl, .inl (congrArg Value.bool rfl)⟩ (sU rfl ⟨_, rfl, .inl (congrArg Value.bool rfl)⟩ (sU rfl ⟨_, rfl, .inl (congrArg Value.bool rfl)⟩ (sU rfl ⟨_, rfl, .inl (congrArg Value.bool rfl)⟩ (sU rfl ⟨_, rfl, .inl (congrArg Value.bool rfl)⟩ (sU rfl ⟨_, rfl, .inl (congrArg Value.bool rfl)⟩ (sU rfl ⟨_, rfl, .inl (congrArg Value.bool rfl)⟩ (s0 rfl trivial (fun _ => r_pkt rfl rfl rfl) rfl (s0 rfl trivial (fun _ => r_mb rfl) rfl (sU rfl ⟨_, rfl, .inl (congrArg Value.bool rfl)⟩ (sU rfl ⟨_, rfl, .inl (congrArg Value.bool rfl)⟩ (sU rfl ⟨_, rfl, .inl (congrArg Value.bool rfl)⟩ (sU rfl ⟨_, rfl, .inr rfl⟩ (sU rfl ⟨_, rfl, .inr rfl⟩ (sU rfl ⟨_, rfl, .inr rfl⟩ (sU rfl ⟨_, rfl, .inr rfl⟩ (sU rfl ⟨_, rfl, .inr rfl⟩ (sU rfl ⟨_, rfl, .inr rfl⟩ (sU rfl ⟨_, rfl, .inr rfl⟩ (sU rfl ⟨_, rfl, .inl (congrArg Value.bool rfl)⟩ (s0 rfl trivial (fun _ => r_pkt rfl rfl rfl) rfl (se (t_thenR [(3, .pointer (some ⟨b1, 0, none⟩)), (4, .slice a5 (List.length x2) c5), (9, .int .i64 x5), (10, .pointer (some ⟨b4, 0, none⟩)), (11, .int .i64 y6.2), (100, .bool true)] ⟨rfl, rfl, rfl, rfl, rfl, rfl, trivial⟩ fun J => ?_)))))))))))))))))))))))))))))))
            refine cnd (b := true) rfl (fun _ => ?_) (fun h => nomatch h)
            refine sq2 ?_
            refine rg (pv (r_zb rfl) (nil (t_thenR [(2, .bool false)] ⟨rfl, trivial⟩ fun J => ?_)))
            have hm := Option.some.inj hm
            subst hm
            have hn1 : _ = Lp.ret _ := hn1
            subst hn1
            have hm := thn_ret hq1
            have hm := Option.some.inj hm
            subst hm
            exact rtn (r_then (r_blk (r_then (r_then (r_blk (r_then (ret1 rfl rfl ⟨_, rfl, _, (Im.trans im1 (Im.trans im3 (Im.trans im4 (Im.trans im5 (Im.trans im6 (Im.trans im10 (Im.trans im11 (Im.trans im12 (Im.trans im13 im14))))))))), ⟨rfl, hS14.sel [1] rfl, trivial⟩⟩)))))))
          · have hm := cfalse hb31 hm
            obtain ⟨y14, hx16, hm⟩ := bindS hm
            refine s0 rfl ⟨_, rfl, congrArg Value.bool hb31⟩ (fun _ => r_mp rfl) rfl (s0 rfl ⟨_, rfl, congrArg Value.bool hb31⟩ (fun _ => r_mi rfl) rfl (s0 rfl ⟨_, rfl, congrArg Value.bool hb31⟩ (fun _ => r_ms rfl) rfl (s0 rfl ⟨_, rfl, congrArg Value.bool hb31⟩ (fun _ => r_mi rfl) rfl (s2 [] rfl ⟨_, rfl, congrArg Value.bool hb31⟩ rfl (by kernel_rfl) (calS cf21 rfl (kind_Table_Size_sim (p0 := x4) (H_p0 := boxA b1) (p1 := x5) (hS14.bun [0, 1] [2, 3] rfl) (lnBox b1) hx16) rfl fun v14 T17 w21 im22 rv14 => ?_)))))
            obtain ⟨rfl, hS22, _⟩ := rv14
            have hS22 : Sep g T17 w21 [boxA b4 [.int .i64 y6.1.Kind, .int .i64 y6.1.Elem, .int .i64 y6.1.Len, .string ⟨y6.1.Name.toArray⟩, .slice a9 (List.length y6.1.Fields) c9], R, boxA b1 [.slice a4 n3 c4], ownA rKindKnown 65 (.slice a4 n3 c4) x4.list] := hS22.unb
            refine ⟨st0, ?_⟩
            obtain ⟨y15, hx17, hm⟩ := bindS hm
            refine s2 [] rfl ⟨_, rfl, congrArg Value.bool hb31⟩ rfl (by kernel_rfl) (calS cf23 rfl (ref08_Size_sim (p0 := x2) (p1 := x5) (hS22.bun [0, 1, 2, 3] [] rfl) (h3.mono (Im.trans im10 (Im.trans im11 (Im.trans im12 (Im.trans im13 (Im.trans im14 im22)))))) hx17) rfl fun v15 T18 w22 im23 rv15 => ?_)
            obtain ⟨rfl, hS23, _⟩ := rv15
            have hS23 : Sep g T18 w22 [boxA b4 [.int .i64 y6.1.Kind, .int .i64 y6.1.Elem, .int .i64 y6.1.Len, .string ⟨y6.1.Name.toArray⟩, .slice a9 (List.length y6.1.Fields) c9], R, boxA b1 [.slice a4 n3 c4], ownA rKindKnown 65 (.slice a4 n3 c4) x4.list] := hS23.unb
            refine ⟨st0, ?_⟩
            refine s0 rfl ⟨_, rfl, congrArg Value.bool hb31⟩ (fun _ => r_ib rfl rfl rfl) rfl (s0 rfl trivial (fun _ => r_pkf rfl hb31 rfl) rfl (s0 rfl trivial (fun _ => r_mb rfl) rfl (?_)))
            rcases Bool.eq_false_or_eq_true (y14 != y15) with hb32 | hb32
            · have hm := ctrue hb32 hm
              refine sU rfl ⟨_, rfl, .inl (congrArg Value.bool hb32)⟩ (sU rfl ⟨_, rfl, .inl (congrArg Value.bool hb32)⟩ (sU rfl ⟨_, rfl, .inl (congrArg Value.bool hb32)⟩ (sU rfl ⟨_, rfl, .inl (congrArg Value.bool hb32)⟩ (sU rfl ⟨_, rfl, .inl (congrArg Value.bool hb32)⟩ (sU rfl ⟨_, rfl, .inl (congrArg Value.bool hb32)⟩ (sU rfl ⟨_, rfl, .inl (congrArg Value.bool hb32)⟩ (s0 rfl trivial (fun _ => r_pkt rfl hb32 rfl) rfl (s0 rfl trivial (fun _ => r_mb rfl) rfl (sU rfl ⟨_, rfl, .inl (congrArg Value.bool rfl)⟩ (sU rfl ⟨_, rfl, .inl (congrArg Value.bool rfl)⟩ (sU rfl ⟨_, rfl, .inl (congrArg Value.bool rfl)⟩ (sU rfl ⟨_, rfl, .inr rfl⟩ (sU rfl ⟨_, rfl, .inr rfl⟩ (sU rfl ⟨_, rfl, .inr rfl⟩ (sU rfl ⟨_, rfl, .inr rfl⟩ (sU rfl ⟨_, rfl, .inr rfl⟩ (sU rfl ⟨_, rfl, .inr rfl⟩ (sU rfl ⟨_, rfl, .inr rfl⟩ (sU rfl ⟨_, rfl, .inl (congrArg Value.bool rfl)⟩ (s0 rfl trivial (fun _ => r_pkt rfl rfl rfl) rfl (se (t_thenR [(3, .pointer (some ⟨b1, 0, none⟩)), (4, .slice a5 (List.length x2) c5), (9, .int .i64 x5), (10, .pointer (some ⟨b4, 0, none⟩)), (11, .int .i64 y6.2), (100, .bool true)] ⟨rfl, rfl, rfl, rfl, rfl, rfl, trivial⟩ fun J => ?_))))))))))))))))))))))
              refine cnd (b := true) rfl (fun _ => ?_) (fun h => nomatch h)
              refine sq2 ?_
              refine rg (pv (r_zb rfl) (nil (t_thenR [(2, .bool false)] ⟨rfl, trivial⟩ fun J => ?_)))
              have hm := Option.some.inj hm
              subst hm
              have hn1 : _ = Lp.ret _ := hn1
              subst hn1
              have hm := thn_ret hq1
              have hm := Option.some.inj hm
              subst hm
              exact rtn (r_then (r_blk (r_then (r_then (r_blk (r_then (ret1 rfl rfl ⟨_, rfl, _, (Im.trans im1 (Im.trans im3 (Im.trans im4 (Im.trans im5 (Im.trans im6 (Im.trans im10 (Im.trans im11 (Im.trans im12 (Im.trans im13 (Im.trans im14 (Im.trans im22 im23))))))))))), ⟨rfl, hS23.sel [1] rfl, trivial⟩⟩)))))))
            · have hm := cfalse hb32 hm
              obtain ⟨y16, hx18, hm⟩ := bindS hm
              refine s0 rfl ⟨_, rfl, congrArg Value.bool hb32⟩ (fun _ => r_mp rfl) rfl (s0 rfl ⟨_, rfl, congrArg Value.bool hb32⟩ (fun _ => r_mi rfl) rfl (s0 rfl ⟨_, rfl, congrArg Value.bool hb32⟩ (fun _ => r_ms rfl) rfl (s0 rfl ⟨_, rfl, congrArg Value.bool hb32⟩ (fun _ => r_mi rfl) rfl (s2 [] rfl ⟨_, rfl, congrArg Value.bool hb32⟩ rfl (by kernel_rfl) (calS cf22 rfl (kind_Table_Align_sim (p0 := x4) (H_p0 := boxA b1) (p1 := x5) (hS23.bun [0, 1] [2, 3] rfl) (lnBox b1) hx18) rfl fun v16 T19 w23 im24 rv16 => ?_)))))
              obtain ⟨rfl, hS24, _⟩ := rv16
              have hS24 : Sep g T19 w23 [boxA b4 [.int .i64 y6.1.Kind, .int .i64 y6.1.Elem, .int .i64 y6.1.Len, .string ⟨y6.1.Name.toArray⟩, .slice a9 (List.length y6.1.Fields) c9], R, boxA b1 [.slice a4 n3 c4], ownA rKindKnown 65 (.slice a4 n3 c4) x4.list] := hS24.unb
              refine ⟨st0, ?_⟩
              obtain ⟨y17, hx19, hm⟩ := bindS hm
              refine s2 [] rfl ⟨_, rfl, congrArg Value.bool hb32⟩ rfl (by kernel_rfl) (calS cf24 rfl (ref08_Align_sim (p0 := x2) (p1 := x5) (hS24.bun [0, 1, 2, 3] [] rfl) (h3.mono (Im.trans im10 (Im.trans im11 (Im.trans im12 (Im.trans im13 (Im.trans im14 (Im.trans im22 (Im.trans im23 im24)))))))) hx19) rfl fun v17 T20 w24 im25 rv17 => ?_)
              obtain ⟨rfl, hS25, _⟩ := rv17
              have hS25 : Sep g T20 w24 [boxA b4 [.int .i64 y6.1.Kind, .int .i64 y6.1.Elem, .int .i64 y6.1.Len, .string ⟨y6.1.Name.toArray⟩, .slice a9 (List.length y6.1.Fields) c9], R, boxA b1 [.slice a4 n3 c4], ownA rKindKnown 65 (.slice a4 n3 c4) x4.list] := hS25.unb
              refine ⟨st0, ?_⟩
              refine s0 rfl ⟨_, rfl, congrArg Value.bool hb32⟩ (fun _ => r_ib rfl rfl rfl) rfl (s0 rfl trivial (fun _ => r_pkf rfl hb32 rfl) rfl (s0 rfl trivial (fun _ => r_mb rfl) rfl (?_)))
              rcases Bool.eq_false_or_eq_true (y16 != y17) with hb33 | hb33
              · have hm := ctrue hb33 hm
                refine sU rfl ⟨_, rfl, .inl (congrArg Value.bool hb33)⟩ (sU rfl ⟨_, rfl, .inl (congrArg Value.bool hb33)⟩ (sU rfl ⟨_, rfl, .inl (congrArg Value.bool hb33)⟩ (sU rfl ⟨_, rfl, .inr rfl⟩ (sU rfl ⟨_, rfl, .inr rfl⟩ (sU rfl ⟨_, rfl, .inr rfl⟩ (sU rfl ⟨_, rfl, .inr rfl⟩ (sU rfl ⟨_, rfl, .inr rfl⟩ (sU rfl ⟨_, rfl, .inr rfl⟩ (sU rfl ⟨_, rfl, .inr rfl⟩ (sU rfl ⟨_, rfl, .inl (congrArg Value.bool hb33)⟩ (s0 rfl trivial (fun _ => r_pkt rfl hb33 rfl) rfl (se (t_thenR [(3, .pointer (some ⟨b1, 0, none⟩)), (4, .slice a5 (List.length x2) c5), (9, .int .i64 x5), (10, .pointer (some ⟨b4, 0, none⟩)), (11, .int .i64 y6.2), (100, .bool true)] ⟨rfl, rfl, rfl, rfl, rfl, rfl, trivial⟩ fun J => ?_)))))))))))))
                refine cnd (b := true) rfl (fun _ => ?_) (fun h => nomatch h)
                refine sq2 ?_
                refine rg (pv (r_zb rfl) (nil (t_thenR [(2, .bool false)] ⟨rfl, trivial⟩ fun J => ?_)))
                have hm := Option.some.inj hm
                subst hm
                have hn1 : _ = Lp.ret _ := hn1
                subst hn1
                have hm := thn_ret hq1
                have hm := Option.some.inj hm
                subst hm
                exact rtn (r_then (r_blk (r_then (r_then (r_blk (r_then (ret1 rfl rfl ⟨_, rfl, _, (Im.trans im1 (Im.trans im3 (Im.trans im4 (Im.trans im5 (Im.trans im6 (Im.trans im10 (Im.trans im11 (Im.trans im12 (Im.trans im13 (Im.trans im14 (Im.trans im22 (Im.trans im23 (Im.trans im24 im25))))))))))))), ⟨rfl, hS25.sel [1] rfl, trivial⟩⟩)))))))
              · have hm := cfalse hb33 hm
                refine s0 rfl ⟨_, rfl, congrArg Value.bool hb33⟩ (fun _ => r_mi rfl) rfl (s0 rfl ⟨_, rfl, congrArg Value.bool hb33⟩ (fun _ => r_ib rfl rfl rfl) rfl (s0 rfl ⟨_, rfl, congrArg Value.bool hb33⟩ (fun _ => r_mb rfl) rfl (?_)))
                rcases Bool.eq_false_or_eq_true (y6.2 == 0) with hb34 | hb34
                · have hm := ctrue hb34 hm
                  obtain ⟨u3, hx20, hm⟩ := bindS hm
                  obtain ⟨b6, of3, cs3, k3, cp3, hv3, hp3, hl3, he3, hr3, hc3, hT3⟩ := (h3.mono (Im.trans im10 (Im.trans im11 (Im.trans im12 (Im.trans im13 (Im.trans im14 (Im.trans im22 (Im.trans im23 (Im.trans im24 im25))))))))).ixT hx20 rfl
                  obtain ⟨a11, c11, rfl, h8⟩ := rref08Type_open hr3
                  obtain ⟨y18, hx21, hm⟩ := bindS hm
                  refine s1 rfl ⟨_, rfl, congrArg Value.bool hb34⟩ (r_ldS rfl Try.isAgg55 Try.sizeOf55 rfl (hS25.cells0 (i := 0) ⟨rfl, rfl⟩ (o := 0) rfl) (cs := [.int .i64 y6.1.Kind, .int .i64 y6.1.Elem, .int .i64 y6.1.Len, .string ⟨y6.1.Name.toArray⟩, .slice a9 (List.length y6.1.Fields) c9])) rfl (s0 rfl ⟨_, rfl, congrArg Value.bool hb34⟩ (fun _ => r_ms rfl) rfl (s0 rfl ⟨_, rfl, congrArg Value.bool hb34⟩ (fun _ => r_mi rfl) rfl (s0 rfl ⟨_, rfl, congrArg Value.bool hb34⟩ (fun _ => r_ixe hv3 rfl Try.underlying28 Try.sizeOf51 hp3 hl3 he3) rfl (s1 rfl ⟨_, rfl, congrArg Value.bool hb34⟩ (r_ldS rfl Try.isAgg51 Try.sizeOf51 rfl hc3 (cs := [.int .i64 u3.Kind, .int .i64 u3.Elem, .int .i64 u3.Len, .string ⟨u3.Name.toArray⟩, .slice a11 (List.length u3.Fields) c11, .bool u3.Open])) rfl (s2 [] rfl ⟨_, rfl, congrArg Value.bool hb34⟩ rfl (by kernel_rfl) (calS cf25 rfl (law08_same_sim (p0 := y6.1) (p1 := u3) (hS25.bun [0, 1, 2, 3] [] rfl) (h6.mono (Im.trans im12 (Im.trans im13 (Im.trans im14 (Im.trans im22 (Im.trans im23 (Im.trans im24 im25))))))) h8 hx21) rfl fun v18 T21 w25 im26 rv18 => ?_))))))
                  obtain ⟨rfl, hS26, _⟩ := rv18
                  have hS26 : Sep g T21 w25 [boxA b4 [.int .i64 y6.1.Kind, .int .i64 y6.1.Elem, .int .i64 y6.1.Len, .string ⟨y6.1.Name.toArray⟩, .slice a9 (List.length y6.1.Fields) c9], R, boxA b1 [.slice a4 n3 c4], ownA rKindKnown 65 (.slice a4 n3 c4) x4.list] := hS26.unb
                  refine ⟨st0, ?_⟩
                  refine s0 rfl ⟨_, rfl, congrArg Value.bool hb34⟩ (fun _ => r_nt rfl) rfl (s0 rfl ⟨_, rfl, congrArg Value.bool hb33⟩ (fun _ => r_pkt rfl hb34 rfl) rfl (s0 rfl trivial (fun _ => r_pkf rfl hb33 rfl) rfl (se (t_thenR [(3, .pointer (some ⟨b1, 0, none⟩)), (4, .slice a5 (List.length x2) c5), (9, .int .i64 x5), (10, .pointer (some ⟨b4, 0, none⟩)), (11, .int .i64 y6.2), (100, .bool (!y18))] ⟨rfl, rfl, rfl, rfl, rfl, rfl, trivial⟩ fun J => ?_))))
                  refine cnd rfl (fun hb35 => ?_) (fun hb35 => ?_)
                  · have hm := ctrue hb35 hm
                    refine sq2 ?_
                    refine rg (pv (r_zb rfl) (nil (t_thenR [(2, .bool false)] ⟨rfl, trivial⟩ fun J => ?_)))
                    have hm := Option.some.inj hm
                    subst hm
                    have hn1 : _ = Lp.ret _ := hn1
                    subst hn1
                    have hm := thn_ret hq1
                    have hm := Option.some.inj hm
                    subst hm
                    exact rtn (r_then (r_blk (r_then (r_then (r_blk (r_then (ret1 rfl rfl ⟨_, rfl, _, (Im.trans im1 (Im.trans im3 (Im.trans im4 (Im.trans im5 (Im.trans im6 (Im.trans im10 (Im.trans im11 (Im.trans im12 (Im.trans im13 (Im.trans im14 (Im.trans im22 (Im.trans im23 (Im.trans im24 (Im.trans im25 im26)))))))))))))), ⟨rfl, hS26.sel [1] rfl, trivial⟩⟩)))))))
                  · have hm := cfalse hb35 hm
                    refine skp (t_then ?_)
                    refine sq2 ?_
                    obtain ⟨y19, hx22, hm⟩ := bindS hm
                    refine rg (pv (r_mp rfl) (pv (r_mi rfl) (wl rfl (calS cf26 rfl (kind_Table_Scalar_sim (p0 := x4) (H_p0 := boxA b1) (p1 := x5) (hS26.bun [0, 1] [2, 3] rfl) (lnBox b1) hx22) rfl fun v19 T22 w26 im27 rv19 => ?_))))
                    obtain ⟨rfl, hS27, _⟩ := rv19
                    have hS27 : Sep g T22 w26 [boxA b4 [.int .i64 y6.1.Kind, .int .i64 y6.1.Elem, .int .i64 y6.1.Len, .string ⟨y6.1.Name.toArray⟩, .slice a9 (List.length y6.1.Fields) c9], R, boxA b1 [.slice a4 n3 c4], ownA rKindKnown 65 (.slice a4 n3 c4) x4.list] := hS27.unb
                    refine pv (r_mi rfl) (pv (r_ib rfl rfl rfl) (pv (r_mb rfl) (?_)))
                    rcases Bool.eq_false_or_eq_true (y6.2 == 0) with hb36 | hb36
                    · have hm := ctrue hb36 hm
                      refine gT (d0 := 106) rfl rfl hb36 (pv (r_fa rfl Try.underlying55 rfl Try.sizeOf3 rfl) (gT (d0 := 106) rfl rfl hb36 (pv (r_ld rfl Try.isAgg3 (hS27.cell0 (i := 0) ⟨rfl, rfl⟩ (j := 0) rfl)) (gT (d0 := 106) rfl rfl hb36 (pv (r_ib rfl rfl rfl) (gT (d0 := 106) rfl rfl hb36 (pv (r_mb rfl) (?_))))))))
                      rcases Bool.eq_false_or_eq_true (y6.1.Kind == 1) with hb37 | hb37
                      · have hm := ctrue hb37 hm
                        refine gF (d0 := 110) rfl rfl (by rw [hb37]; rfl) (gF (d0 := 110) rfl rfl (by rw [hb37]; rfl) (gF (d0 := 110) rfl rfl (by rw [hb37]; rfl) (gT (d0 := 106) rfl rfl hb36 (pv (r_pkt rfl hb37 rfl) (gT (d0 := 106) rfl rfl hb36 (pv (r_mb rfl) (gF (d0 := 115) rfl rfl rfl (gF (d0 := 115) rfl rfl rfl (gF (d0 := 115) rfl rfl rfl (gT (d0 := 106) rfl rfl hb36 (pv (r_pkt rfl rfl rfl) (pv (r_pkt rfl hb36 rfl) (pv (r_bn rfl rfl Try.underlying4) (nil (t_thenR [(3, .pointer (some ⟨b1, 0, none⟩)), (4, .slice a5 (List.length x2) c5), (9, .int .i64 x5), (121, .bool (!(y19 == true)))] ⟨rfl, rfl, rfl, rfl, trivial⟩ fun J => ?_)))))))))))))))
                        refine cnd rfl (fun hb41 => ?_) (fun hb41 => ?_)
                        · have hm := ctrue hb41 hm
                          refine sq2 ?_
                          refine rg (pv (r_zb rfl) (nil (t_then ?_)))
                          have hm := Option.some.inj hm
                          subst hm
                          have hn1 : _ = Lp.ret _ := hn1
                          subst hn1
                          have hm := thn_ret hq1
                          have hm := Option.some.inj hm
                          subst hm
                          exact rtn (r_blk (r_then (r_then (r_blk (r_then (ret1 rfl rfl ⟨_, rfl, _, (Im.trans im1 (Im.trans im3 (Im.trans im4 (Im.trans im5 (Im.trans im6 (Im.trans im10 (Im.trans im11 (Im.trans im12 (Im.trans im13 (Im.trans im14 (Im.trans im22 (Im.trans im23 (Im.trans im24 (Im.trans im25 (Im.trans im26 im27))))))))))))))), ⟨rfl, hS27.sel [1] rfl, trivial⟩⟩))))))
                        · have hm := cfalse hb41 hm
                          refine skp (t_blk (t_then ?_))
                          have hm := Option.some.inj hm
                          subst hm
                          exact rg (pv (r_mi rfl) (pv (r_ib rfl rfl rfl) (pv (r_zi rfl) (nil (t_then ⟨m1, Nat.lt_succ_self _, _, _, (IntKind.wrap .i64 (x5 + 1)), env_has ⟨rfl, rfl, rfl, trivial⟩, (Im.trans im10 (Im.trans im11 (Im.trans im12 (Im.trans im13 (Im.trans im14 (Im.trans im22 (Im.trans im23 (Im.trans im24 (Im.trans im25 (Im.trans im26 im27)))))))))), hS27.sel [1, 2, 3] rfl, hn1⟩)))))
                      · have hm := cfalse hb37 hm
                        refine gT (d0 := 110) rfl rfl hb37 (pv (r_fa rfl Try.underlying55 rfl Try.sizeOf3 rfl) (gT (d0 := 110) rfl rfl hb37 (pv (r_ld rfl Try.isAgg3 (hS27.cell0 (i := 0) ⟨rfl, rfl⟩ (j := 0) rfl)) (gT (d0 := 110) rfl rfl hb37 (pv (r_ib rfl rfl rfl) (gT (d0 := 106) rfl rfl hb36 (pv (r_pkf rfl hb37 rfl) (gT (d0 := 106) rfl rfl hb36 (pv (r_mb rfl) (?_))))))))))
                        rcases Bool.eq_false_or_eq_true (y6.1.Kind == 2) with hb38 | hb38
                        · have hm := ctrue hb38 hm
                          refine gF (d0 := 115) rfl rfl (by rw [hb38]; rfl) (gF (d0 := 115) rfl rfl (by rw [hb38]; rfl) (gF (d0 := 115) rfl rfl (by rw [hb38]; rfl) (gT (d0 := 106) rfl rfl hb36 (pv (r_pkt rfl hb38 rfl) (pv (r_pkt rfl hb36 rfl) (pv (r_bn rfl rfl Try.underlying4) (nil (t_thenR [(3, .pointer (some ⟨b1, 0, none⟩)), (4, .slice a5 (List.length x2) c5), (9, .int .i64 x5), (121, .bool (!(y19 == true)))] ⟨rfl, rfl, rfl, rfl, trivial⟩ fun J => ?_))))))))
                          refine cnd rfl (fun hb40 => ?_) (fun hb40 => ?_)
                          · have hm := ctrue hb40 hm
                            refine sq2 ?_
                            refine rg (pv (r_zb rfl) (nil (t_then ?_)))
                            have hm := Option.some.inj hm
                            subst hm
                            have hn1 : _ = Lp.ret _ := hn1
                            subst hn1
                            have hm := thn_ret hq1
                            have hm := Option.some.inj hm
                            subst hm
                            exact rtn (r_blk (r_then (r_then (r_blk (r_then (ret1 rfl rfl ⟨_, rfl, _, (Im.trans im1 (Im.trans im3 (Im.trans im4 (Im.trans im5 (Im.trans im6 (Im.trans im10 (Im.trans im11 (Im.trans im12 (Im.trans im13 (Im.trans im14 (Im.trans im22 (Im.trans im23 (Im.trans im24 (Im.trans im25 (Im.trans im26 im27))))))))))))))), ⟨rfl, hS27.sel [1] rfl, trivial⟩⟩))))))
                          · have hm := cfalse hb40 hm
                            refine skp (t_blk (t_then ?_))
                            have hm := Option.some.inj hm
                            subst hm
                            exact rg (pv (r_mi rfl) (pv (r_ib rfl rfl rfl) (pv (r_zi rfl) (nil (t_then ⟨m1, Nat.lt_succ_self _, _, _, (IntKind.wrap .i64 (x5 + 1)), env_has ⟨rfl, rfl, rfl, trivial⟩, (Im.trans im10 (Im.trans im11 (Im.trans im12 (Im.trans im13 (Im.trans im14 (Im.trans im22 (Im.trans im23 (Im.trans im24 (Im.trans im25 (Im.trans im26 im27)))))))))), hS27.sel [1, 2, 3] rfl, hn1⟩)))))
                        · have hm := cfalse hb38 hm
                          refine gT (d0 := 115) rfl rfl hb38 (pv (r_fa rfl Try.underlying55 rfl Try.sizeOf3 rfl) (gT (d0 := 115) rfl rfl hb38 (pv (r_ld rfl Try.isAgg3 (hS27.cell0 (i := 0) ⟨rfl, rfl⟩ (j := 0) rfl)) (gT (d0 := 115) rfl rfl hb38 (pv (r_ib rfl rfl rfl) (gT (d0 := 106) rfl rfl hb36 (pv (r_pkf rfl hb38 rfl) (pv (r_pkt rfl hb36 rfl) (pv (r_bn rfl rfl Try.underlying4) (nil (t_thenR [(3, .pointer (some ⟨b1, 0, none⟩)), (4, .slice a5 (List.length x2) c5), (9, .int .i64 x5), (121, .bool (!(y19 == (y6.1.Kind == 3))))] ⟨rfl, rfl, rfl, rfl, trivial⟩ fun J => ?_)))))))))))
                          refine cnd rfl (fun hb39 => ?_) (fun hb39 => ?_)
                          · have hm := ctrue hb39 hm
                            refine sq2 ?_
                            refine rg (pv (r_zb rfl) (nil (t_then ?_)))
                            have hm := Option.some.inj hm
                            subst hm
                            have hn1 : _ = Lp.ret _ := hn1
                            subst hn1
                            have hm := thn_ret hq1
                            have hm := Option.some.inj hm
                            subst hm
                            exact rtn (r_blk (r_then (r_then (r_blk (r_then (ret1 rfl rfl ⟨_, rfl, _, (Im.trans im1 (Im.trans im3 (Im.trans im4 (Im.trans im5 (Im.trans im6 (Im.trans im10 (Im.trans im11 (Im.trans im12 (Im.trans im13 (Im.trans im14 (Im.trans im22 (Im.trans im23 (Im.trans im24 (Im.trans im25 (Im.trans im26 im27))))))))))))))), ⟨rfl, hS27.sel [1] rfl, trivial⟩⟩))))))
                          · have hm := cfalse hb39 hm
                            refine skp (t_blk (t_then ?_))
                            have hm := Option.some.inj hm
                            subst hm
                            exact rg (pv (r_mi rfl) (pv (r_ib rfl rfl rfl) (pv (r_zi rfl) (nil (t_then ⟨m1, Nat.lt_succ_self _, _, _, (IntKind.wrap .i64 (x5 + 1)), env_has ⟨rfl, rfl, rfl, trivial⟩, (Im.trans im10 (Im.trans im11 (Im.trans im12 (Im.trans im13 (Im.trans im14 (Im.trans im22 (Im.trans im23 (Im.trans im24 (Im.trans im25 (Im.trans im26 im27)))))))))), hS27.sel [1, 2, 3] rfl, hn1⟩)))))
                    · have hm := cfalse hb36 hm
                      refine gF (d0 := 106) rfl rfl (by rw [hb36]; rfl) (gF (d0 := 106) rfl rfl (by rw [hb36]; rfl) (gF (d0 := 106) rfl rfl (by rw [hb36]; rfl) (gF (d0 := 106) rfl rfl (by rw [hb36]; rfl) (gU (d0 := 110) rfl rfl (gU (d0 := 110) rfl rfl (gU (d0 := 110) rfl rfl (gF (d0 := 106) rfl rfl (by rw [hb36]; rfl) (gF (d0 := 106) rfl rfl (by rw [hb36]; rfl) (gU (d0 := 115) rfl rfl (gU (d0 := 115) rfl rfl (gU (d0 := 115) rfl rfl (gF (d0 := 106) rfl rfl (by rw [hb36]; rfl) (pv (r_pkf rfl hb36 rfl) (pv (r_bn rfl rfl Try.underlying4) (nil (t_thenR [(3, .pointer (some ⟨b1, 0, none⟩)), (4, .slice a5 (List.length x2) c5), (9, .int .i64 x5), (121, .bool (!(y19 == false)))] ⟨rfl, rfl, rfl, rfl, trivial⟩ fun J => ?_))))))))))))))))
                      refine cnd rfl (fun hb42 => ?_) (fun hb42 => ?_)
                      · have hm := ctrue hb42 hm
                        refine sq2 ?_
                        refine rg (pv (r_zb rfl) (nil (t_then ?_)))
                        have hm := Option.some.inj hm
                        subst hm
                        have hn1 : _ = Lp.ret _ := hn1
                        subst hn1
                        have hm := thn_ret hq1
                        have hm := Option.some.inj hm
                        subst hm
                        exact rtn (r_blk (r_then (r_then (r_blk (r_then (ret1 rfl rfl ⟨_, rfl, _, (Im.trans im1 (Im.trans im3 (Im.trans im4 (Im.trans im5 (Im.trans im6 (Im.trans im10 (Im.trans im11 (Im.trans im12 (Im.trans im13 (Im.trans im14 (Im.trans im22 (Im.trans im23 (Im.trans im24 (Im.trans im25 (Im.trans im26 im27))))))))))))))), ⟨rfl, hS27.sel [1] rfl, trivial⟩⟩))))))
                      · have hm := cfalse hb42 hm
                        refine skp (t_blk (t_then ?_))
                        have hm := Option.some.inj hm
                        subst hm
                        exact rg (pv (r_mi rfl) (pv (r_ib rfl rfl rfl) (pv (r_zi rfl) (nil (t_then ⟨m1, Nat.lt_succ_self _, _, _, (IntKind.wrap .i64 (x5 + 1)), env_has ⟨rfl, rfl, rfl, trivial⟩, (Im.trans im10 (Im.trans im11 (Im.trans im12 (Im.trans im13 (Im.trans im14 (Im.trans im22 (Im.trans im23 (Im.trans im24 (Im.trans im25 (Im.trans im26 im27)))))))))), hS27.sel [1, 2, 3] rfl, hn1⟩)))))
                · have hm := cfalse hb34 hm
                  refine sU rfl ⟨_, rfl, .inl (congrArg Value.bool hb34)⟩ (sU rfl ⟨_, rfl, .inl (congrArg Value.bool hb34)⟩ (sU rfl ⟨_, rfl, .inl (congrArg Value.bool hb34)⟩ (sU rfl ⟨_, rfl, .inl (congrArg Value.bool hb34)⟩ (sU rfl ⟨_, rfl, .inl (congrArg Value.bool hb34)⟩ (sU rfl ⟨_, rfl, .inl (congrArg Value.bool hb34)⟩ (sU rfl ⟨_, rfl, .inl (congrArg Value.bool hb34)⟩ (s0 rfl ⟨_, rfl, congrArg Value.bool hb33⟩ (fun _ => r_pkf rfl hb34 rfl) rfl (s0 rfl trivial (fun _ => r_pkf rfl hb33 rfl) rfl (se (t_thenR [(3, .pointer (some ⟨b1, 0, none⟩)), (4, .slice a5 (List.length x2) c5), (9, .int .i64 x5), (10, .pointer (some ⟨b4, 0, none⟩)), (11, .int .i64 y6.2), (100, .bool false)] ⟨rfl, rfl, rfl, rfl, rfl, rfl, trivial⟩ fun J => ?_))))))))))
                  refine cnd (b := false) rfl (fun h => nomatch h) (fun _ => ?_)
                  refine skp (t_then ?_)
                  refine sq2 ?_
                  obtain ⟨y20, hx23, hm⟩ := bindS hm
                  refine rg (pv (r_mp rfl) (pv (r_mi rfl) (wl rfl (calS cf26 rfl (kind_Table_Scalar_sim (p0 := x4) (H_p0 := boxA b1) (p1 := x5) (hS25.bun [0, 1] [2, 3] rfl) (lnBox b1) hx23) rfl fun v20 T23 w27 im28 rv20 => ?_))))
                  obtain ⟨rfl, hS28, _⟩ := rv20
                  have hS28 : Sep g T23 w27 [boxA b4 [.int .i64 y6.1.Kind, .int .i64 y6.1.Elem, .int .i64 y6.1.Len, .string ⟨y6.1.Name.toArray⟩, .slice a9 (List.length y6.1.Fields) c9], R, boxA b1 [.slice a4 n3 c4], ownA rKindKnown 65 (.slice a4 n3 c4) x4.list] := hS28.unb
                  refine pv (r_mi rfl) (pv (r_ib rfl rfl rfl) (pv (r_mb rfl) (?_)))
                  rcases Bool.eq_false_or_eq_true (y6.2 == 0) with hb44 | hb44
                  · have hm := ctrue hb44 hm
                    refine gT (d0 := 106) rfl rfl hb44 (pv (r_fa rfl Try.underlying55 rfl Try.sizeOf3 rfl) (gT (d0 := 106) rfl rfl hb44 (pv (r_ld rfl Try.isAgg3 (hS28.cell0 (i := 0) ⟨rfl, rfl⟩ (j := 0) rfl)) (gT (d0 := 106) rfl rfl hb44 (pv (r_ib rfl rfl rfl) (gT (d0 := 106) rfl rfl hb44 (pv (r_mb rfl) (?_))))))))
                    rcases Bool.eq_false_or_eq_true (y6.1.Kind == 1) with hb45 | hb45
                    · have hm := ctrue hb45 hm
                      refine gF (d0 := 110) rfl rfl (by rw [hb45]; rfl) (gF (d0 := 110) rfl rfl (by rw [hb45]; rfl) (gF (d0 := 110) rfl rfl (by rw [hb45]; rfl) (gT (d0 := 106) rfl rfl hb44 (pv (r_pkt rfl hb45 rfl) (gT (d0 := 106) rfl rfl hb44 (pv (r_mb rfl) (gF (d0 := 115) rfl rfl rfl (gF (d0 := 115) rfl rfl rfl (gF (d0 := 115) rfl rfl rfl (gT (d0 := 106) rfl rfl hb44 (pv (r_pkt rfl rfl rfl) (pv (r_pkt rfl hb44 rfl) (pv (r_bn rfl rfl Try.underlying4) (nil (t_thenR [(3, .pointer (some ⟨b1, 0, none⟩)), (4, .slice a5 (List.length x2) c5), (9, .int .i64 x5), (121, .bool (!(y20 == true)))] ⟨rfl, rfl, rfl, rfl, trivial⟩ fun J => ?_)))))))))))))))
                      refine cnd rfl (fun hb49 => ?_) (fun hb49 => ?_)
                      · have hm := ctrue hb49 hm
                        refine sq2 ?_
                        refine rg (pv (r_zb rfl) (nil (t_then ?_)))
                        have hm := Option.some.inj hm
                        subst hm
                        have hn1 : _ = Lp.ret _ := hn1
                        subst hn1
                        have hm := thn_ret hq1
                        have hm := Option.some.inj hm
                        subst hm
                        exact rtn (r_blk (r_then (r_then (r_blk (r_then (ret1 rfl rfl ⟨_, rfl, _, (Im.trans im1 (Im.trans im3 (Im.trans im4 (Im.trans im5 (Im.trans im6 (Im.trans im10 (Im.trans im11 (Im.trans im12 (Im.trans im13 (Im.trans im14 (Im.trans im22 (Im.trans im23 (Im.trans im24 (Im.trans im25 im28)))))))))))))), ⟨rfl, hS28.sel [1] rfl, trivial⟩⟩))))))
                      · have hm := cfalse hb49 hm
                        refine skp (t_blk (t_then ?_))
                        have hm := Option.some.inj hm
                        subst hm
                        exact rg (pv (r_mi rfl) (pv (r_ib rfl rfl rfl) (pv (r_zi rfl) (nil (t_then ⟨m1, Nat.lt_succ_self _, _, _, (IntKind.wrap .i64 (x5 + 1)), env_has ⟨rfl, rfl, rfl, trivial⟩, (Im.trans im10 (Im.trans im11 (Im.trans im12 (Im.trans im13 (Im.trans im14 (Im.trans im22 (Im.trans im23 (Im.trans im24 (Im.trans im25 im28))))))))), hS28.sel [1, 2, 3] rfl, hn1⟩)))))
                    · have hm := cfalse hb45 hm
                      refine gT (d0 := 110) rfl rfl hb45 (pv (r_fa rfl Try.underlying55 rfl Try.sizeOf3 rfl) (gT (d0 := 110) rfl rfl hb45 (pv (r_ld rfl Try.isAgg3 (hS28.cell0 (i := 0) ⟨rfl, rfl⟩ (j := 0) rfl)) (gT (d0 := 110) rfl rfl hb45 (pv (r_ib rfl rfl rfl) (gT (d0 := 106) rfl rfl hb44 (pv (r_pkf rfl hb45 rfl) (gT (d0 := 106) rfl rfl hb44 (pv (r_mb rfl) (?_))))))))))
                      rcases Bool.eq_false_or_eq_true (y6.1.Kind == 2) with hb46 | hb46
                      · have hm := ctrue hb46 hm
                        refine gF (d0 := 115) rfl rfl (by rw [hb46]; rfl) (gF (d0 := 115) rfl rfl (by rw [hb46]; rfl) (gF (d0 := 115) rfl rfl (by rw [hb46]; rfl) (gT (d0 := 106) rfl rfl hb44 (pv (r_pkt rfl hb46 rfl) (pv (r_pkt rfl hb44 rfl) (pv (r_bn rfl rfl Try.underlying4) (nil (t_thenR [(3, .pointer (some ⟨b1, 0, none⟩)), (4, .slice a5 (List.length x2) c5), (9, .int .i64 x5), (121, .bool (!(y20 == true)))] ⟨rfl, rfl, rfl, rfl, trivial⟩ fun J => ?_))))))))
                        refine cnd rfl (fun hb48 => ?_) (fun hb48 => ?_)
                        · have hm := ctrue hb48 hm
                          refine sq2 ?_
                          refine rg (pv (r_zb rfl) (nil (t_then ?_)))
                          have hm := Option.some.inj hm
                          subst hm
                          have hn1 : _ = Lp.ret _ := hn1
                          subst hn1
                          have hm := thn_ret hq1
                          have hm := Option.some.inj hm
                          subst hm
                          exact rtn (r_blk (r_then (r_then (r_blk (r_then (ret1 rfl rfl ⟨_, rfl, _, (Im.trans im1 (Im.trans im3 (Im.trans im4 (Im.trans im5 (Im.trans im6 (Im.trans im10 (Im.trans im11 (Im.trans im12 (Im.trans im13 (Im.trans im14 (Im.trans im22 (Im.trans im23 (Im.trans im24 (Im.trans im25 im28)))))))))))))), ⟨rfl, hS28.sel [1] rfl, trivial⟩⟩))))))
                        · have hm := cfalse hb48 hm
                          refine skp (t_blk (t_then ?_))
                          have hm := Option.some.inj hm
                          subst hm
                          exact rg (pv (r_mi rfl) (pv (r_ib rfl rfl rfl) (pv (r_zi rfl) (nil (t_then ⟨m1, Nat.lt_succ_self _, _, _, (IntKind.wrap .i64 (x5 + 1)), env_has ⟨rfl, rfl, rfl, trivial⟩, (Im.trans im10 (Im.trans im11 (Im.trans im12 (Im.trans im13 (Im.trans im14 (Im.trans im22 (Im.trans im23 (Im.trans im24 (Im.trans im25 im28))))))))), hS28.sel [1, 2, 3] rfl, hn1⟩)))))
                      · have hm := cfalse hb46 hm
                        refine gT (d0 := 115) rfl rfl hb46 (pv (r_fa rfl Try.underlying55 rfl Try.sizeOf3 rfl) (gT (d0 := 115) rfl rfl hb46 (pv (r_ld rfl Try.isAgg3 (hS28.cell0 (i := 0) ⟨rfl, rfl⟩ (j := 0) rfl)) (gT (d0 := 115) rfl rfl hb46 (pv (r_ib rfl rfl rfl) (gT (d0 := 106) rfl rfl hb44 (pv (r_pkf rfl hb46 rfl) (pv (r_pkt rfl hb44 rfl) (pv (r_bn rfl rfl Try.underlying4) (nil (t_thenR [(3, .pointer (some ⟨b1, 0, none⟩)), (4, .slice a5 (List.length x2) c5), (9, .int .i64 x5), (121, .bool (!(y20 == (y6.1.Kind == 3))))] ⟨rfl, rfl, rfl, rfl, trivial⟩ fun J => ?_)))))))))))
                        refine cnd rfl (fun hb47 => ?_) (fun hb47 => ?_)
                        · have hm := ctrue hb47 hm
                          refine sq2 ?_
                          refine rg (pv (r_zb rfl) (nil (t_then ?_)))
                          have hm := Option.some.inj hm
                          subst hm
                          have hn1 : _ = Lp.ret _ := hn1
                          subst hn1
                          have hm := thn_ret hq1
                          have hm := Option.some.inj hm
                          subst hm
                          exact rtn (r_blk (r_then (r_then (r_blk (r_then (ret1 rfl rfl ⟨_, rfl, _, (Im.trans im1 (Im.trans im3 (Im.trans im4 (Im.trans im5 (Im.trans im6 (Im.trans im10 (Im.trans im11 (Im.trans im12 (Im.trans im13 (Im.trans im14 (Im.trans im22 (Im.trans im23 (Im.trans im24 (Im.trans im25 im28)))))))))))))), ⟨rfl, hS28.sel [1] rfl, trivial⟩⟩))))))
                        · have hm := cfalse hb47 hm
                          refine skp (t_blk (t_then ?_))
                          have hm := Option.some.inj hm
                          subst hm
                          exact rg (pv (r_mi rfl) (pv (r_ib rfl rfl rfl) (pv (r_zi rfl) (nil (t_then ⟨m1, Nat.lt_succ_self _, _, _, (IntKind.wrap .i64 (x5 + 1)), env_has ⟨rfl, rfl, rfl, trivial⟩, (Im.trans im10 (Im.trans im11 (Im.trans im12 (Im.trans im13 (Im.trans im14 (Im.trans im22 (Im.trans im23 (Im.trans im24 (Im.trans im25 im28))))))))), hS28.sel [1, 2, 3] rfl, hn1⟩)))))
                  · have hm := cfalse hb44 hm
                    refine gF (d0 := 106) rfl rfl (by rw [hb44]; rfl) (gF (d0 := 106) rfl rfl (by rw [hb44]; rfl) (gF (d0 := 106) rfl rfl (by rw [hb44]; rfl) (gF (d0 := 106) rfl rfl (by rw [hb44]; rfl) (gU (d0 := 110) rfl rfl (gU (d0 := 110) rfl rfl (gU (d0 := 110) rfl rfl (gF (d0 := 106) rfl rfl (by rw [hb44]; rfl) (gF (d0 := 106) rfl rfl (by rw [hb44]; rfl) (gU (d0 := 115) rfl rfl (gU (d0 := 115) rfl rfl (gU (d0 := 115) rfl rfl (gF (d0 := 106) rfl rfl (by rw [hb44]; rfl) (pv (r_pkf rfl hb44 rfl) (pv (r_bn rfl rfl Try.underlying4) (nil (t_thenR [(3, .pointer (some ⟨b1, 0, none⟩)), (4, .slice a5 (List.length x2) c5), (9, .int .i64 x5), (121, .bool (!(y20 == false)))] ⟨rfl, rfl, rfl, rfl, trivial⟩ fun J => ?_))))))))))))))))
                    refine cnd rfl (fun hb50 => ?_) (fun hb50 => ?_)
                    · have hm := ctrue hb50 hm
                      refine sq2 ?_
                      refine rg (pv (r_zb rfl) (nil (t_then ?_)))
                      have hm := Option.some.inj hm
                      subst hm
                      have hn1 : _ = Lp.ret _ := hn1
                      subst hn1
                      have hm := thn_ret hq1
                      have hm := Option.some.inj hm
                      subst hm
                      exact rtn (r_blk (r_then (r_then (r_blk (r_then (ret1 rfl rfl ⟨_, rfl, _, (Im.trans im1 (Im.trans im3 (Im.trans im4 (Im.trans im5 (Im.trans im6 (Im.trans im10 (Im.trans im11 (Im.trans im12 (Im.trans im13 (Im.trans im14 (Im.trans im22 (Im.trans im23 (Im.trans im24 (Im.trans im25 im28)))))))))))))), ⟨rfl, hS28.sel [1] rfl, trivial⟩⟩))))))
                    · have hm := cfalse hb50 hm
                      refine skp (t_blk (t_then ?_))
                      have hm := Option.some.inj hm
                      subst hm
                      exact rg (pv (r_mi rfl) (pv (r_ib rfl rfl rfl) (pv (r_zi rfl) (nil (t_then ⟨m1, Nat.lt_succ_self _, _, _, (IntKind.wrap .i64 (x5 + 1)), env_has ⟨rfl, rfl, rfl, trivial⟩, (Im.trans im10 (Im.trans im11 (Im.trans im12 (Im.trans im13 (Im.trans im14 (Im.trans im22 (Im.trans im23 (Im.trans im24 (Im.trans im25 im28))))))))), hS28.sel [1, 2, 3] rfl, hn1⟩)))))
      · have hm := cfalse hb6 hm
        have hm := Option.some.inj hm
        subst hm
        have hn1 : _ = Lp.brk _ := hn1
        subst hn1
        have hm := thn_brk hq1
        refine xt (x_then (x_then (x_eq (t_thenR [(3, .pointer (some ⟨b1, 0, none⟩)), (4, .slice a5 (List.length x2) c5)] ⟨rfl, rfl, trivial⟩ fun J => ?_))))
        refine sq2 ?_
        obtain ⟨y21, hx24, hm⟩ := bindS hm
        refine rg (wl rfl (calS cf9 rfl (law08_awake_sim  (hS10.bun [0, 1, 2] [] rfl)  hx24) rfl fun v21 T24 w28 im29 rv21 => ?_))
        obtain ⟨rfl, hS29, _⟩ := rv21
        have hS29 : Sep g T24 w28 [R, boxA b1 [.slice a4 n3 c4], ownA rKindKnown 65 (.slice a4 n3 c4) x4.list] := hS29.unb
        refine pv (r_mb rfl) (?_)
        rcases Bool.eq_false_or_eq_true y21 with hb54 | hb54
        · have hm := ctrue hb54 hm
          obtain ⟨y22, hx25, hm⟩ := bindS hm
          refine gT (d0 := 123) rfl rfl hb54 (pv (r_mp rfl) (gT (d0 := 123) rfl rfl hb54 (wl rfl (calS cf15 rfl (kind_Table_Count_sim (p0 := x4) (H_p0 := boxA b1) (hS29.bun [0] [1, 2] rfl) (lnBox b1) hx25) rfl fun v22 T25 w29 im30 rv22 => ?_))))
          obtain ⟨rfl, hS30, _⟩ := rv22
          have hS30 : Sep g T25 w29 [R, boxA b1 [.slice a4 n3 c4], ownA rKindKnown 65 (.slice a4 n3 c4) x4.list] := hS30.unb
          refine gT (d0 := 123) rfl rfl hb54 (pv (r_ms rfl) (gT (d0 := 123) rfl rfl hb54 (pv (r_ln rfl Try.underlying28) (gT (d0 := 123) rfl rfl hb54 (pv (r_ib rfl rfl rfl) (pv (r_pkt rfl hb54 rfl) (pv (r_zb rfl) (nil (t_thenR [(2, .bool (y22 == (List.length x2 : Int)))] ⟨rfl, trivial⟩ fun J => ?_)))))))))
          have hm := Option.some.inj hm
          subst hm
          exact rtn (ret1 rfl rfl ⟨_, rfl, _, (Im.trans im1 (Im.trans im3 (Im.trans im4 (Im.trans im5 (Im.trans im6 (Im.trans im10 (Im.trans im29 im30))))))), ⟨rfl, hS30.sel [0] rfl, trivial⟩⟩)
        · have hm := cfalse hb54 hm
          refine gF (d0 := 123) rfl rfl (by rw [hb54]; rfl) (gF (d0 := 123) rfl rfl (by rw [hb54]; rfl) (gF (d0 := 123) rfl rfl (by rw [hb54]; rfl) (gF (d0 := 123) rfl rfl (by rw [hb54]; rfl) (gF (d0 := 123) rfl rfl (by rw [hb54]; rfl) (pv (r_pkf rfl hb54 rfl) (pv (r_zb rfl) (nil (t_thenR [(2, .bool false)] ⟨rfl, trivial⟩ fun J => ?_))))))))
          have hm := Option.some.inj hm
          subst hm
          exact rtn (ret1 rfl rfl ⟨_, rfl, _, (Im.trans im1 (Im.trans im3 (Im.trans im4 (Im.trans im5 (Im.trans im6 (Im.trans im10 im29)))))), ⟨rfl, hS29.sel [0] rfl, trivial⟩⟩)

set_option maxRecDepth 100000 in
set_option maxHeartbeats 1000000 in
theorem kind_Table_Ptr_2_sim {g : World} {T0 : Nat → Prop} {w0 : World} {R : Assn} {p0 : Int} {r : Int × Int} (hS : Sep g T0 w0 [R])  (hm : kind_Table_Ptr_2 p0 = some r) :
    Calls Try.prog 13 #[.pointer none, .int .i64 p0] w0 (RetS T0 w0 fun T w v => v = .tuple #[.int .i64 r.1, .int .i64 r.2] ∧ Sep g T w [R] ∧ True) := by
  refine enter (args := [.pointer none, .int .i64 p0]) Try.func13 rfl Try.ntmps13 rfl fun J => ?_
  unfold kind_Table_Ptr_2 at hm
  refine sq2 ?_
  refine rg (pv (r_zi rfl) (pv (r_zi rfl) (nil (t_then ?_))))
  refine sq2 ?_
  refine blk ?_
  refine sq2 ?_
  refine rg (pv (r_mp rfl) (pv (r_pne rfl rfl rfl Try.underlying25) (pv (r_zb rfl) (nil (t_then ?_)))))
  refine cnd (b := true) rfl (fun _ => ?_) (fun h => nomatch h)
  refine sq2 ?_
  refine rg (pv (r_zi rfl) (pv (r_zi rfl) (nil (t_thenR [(4, .int .i64 0), (5, .int .i64 1)] ⟨rfl, rfl, trivial⟩ fun J => ?_))))
  have hm := Option.some.inj hm
  subst hm
  exact rtn (r_blk (r_then (retN (vs := [.int .i64 0, .int .i64 1]) rfl ⟨rfl, rfl, trivial⟩ rfl ⟨_, rfl, _, Im.refl, ⟨rfl, hS.sel [0] rfl, trivial⟩⟩)))

set_option maxRecDepth 100000 in
set_option maxHeartbeats 1000000 in
theorem kind_Table_Array_2_sim {g : World} {T0 : Nat → Prop} {w0 : World} {R : Assn} {p0 : Int} {p1 : Int} {r : Int × Int} (hS : Sep g T0 w0 [R])  (hm : kind_Table_Array_2 p0 p1 = some r) :
    Calls Try.prog 14 #[.pointer none, .int .i64 p0, .int .i64 p1] w0 (RetS T0 w0 fun T w v => v = .tuple #[.int .i64 r.1, .int .i64 r.2] ∧ Sep g T w [R] ∧ True) := by
  refine enter (args := [.pointer none, .int .i64 p0, .int .i64 p1]) Try.func14 rfl Try.ntmps14 rfl fun J => ?_
  unfold kind_Table_Array_2 at hm
  refine sq2 ?_
  refine rg (pv (r_zi rfl) (pv (r_zi rfl) (nil (t_then ?_))))
  refine sq2 ?_
  refine blk ?_
  refine sq2 ?_
  refine rg (pv (r_mp rfl) (pv (r_pne rfl rfl rfl Try.underlying25) (pv (r_zb rfl) (nil (t_then ?_)))))
  refine cnd (b := true) rfl (fun _ => ?_) (fun h => nomatch h)
  refine sq2 ?_
  refine rg (pv (r_zi rfl) (pv (r_zi rfl) (nil (t_thenR [(6, .int .i64 0), (7, .int .i64 1)] ⟨rfl, rfl, trivial⟩ fun J => ?_))))
  have hm := Option.some.inj hm
  subst hm
  exact rtn (r_blk (r_then (retN (vs := [.int .i64 0, .int .i64 1]) rfl ⟨rfl, rfl, trivial⟩ rfl ⟨_, rfl, _, Im.refl, ⟨rfl, hS.sel [0] rfl, trivial⟩⟩)))

set_option maxRecDepth 100000 in
set_option maxHeartbeats 1000000 in
theorem kind_Table_Open_2_sim {g : World} {T0 : Nat → Prop} {w0 : World} {R : Assn} {p0 : List UInt8} {r : Int × Int} (hS : Sep g T0 w0 [R])  (hm : kind_Table_Open_2 p0 = some r) :
    Calls Try.prog 27 #[.pointer none, .string ⟨p0.toArray⟩] w0 (RetS T0 w0 fun T w v => v = .tuple #[.int .i64 r.1, .int .i64 r.2] ∧ Sep g T w [R] ∧ True) := by
  refine enter (args := [.pointer none, .string ⟨p0.toArray⟩]) Try.func27 rfl Try.ntmps27 rfl fun J => ?_
  unfold kind_Table_Open_2 at hm
  refine sq2 ?_
  refine rg (pv (r_zi rfl) (pv (r_zi rfl) (nil (t_then ?_))))
  refine sq2 ?_
  refine blk ?_
  refine sq2 ?_
  refine rg (pv (r_mp rfl) (pv (r_pne rfl rfl rfl Try.underlying25) (pv (r_mb rfl) (gF (d0 := 9) rfl rfl rfl (gF (d0 := 9) rfl rfl rfl (pv (r_pkt rfl rfl rfl) (pv (r_zb rfl) (nil (t_thenR [(0, .pointer none), (1, .string ⟨p0.toArray⟩), (6, .bool true)] ⟨rfl, rfl, rfl, trivial⟩ fun J => ?_)))))))))
  refine cnd (b := true) rfl (fun _ => ?_) (fun h => nomatch h)
  refine sq2 ?_
  refine rg (pv (r_zi rfl) (pv (r_zi rfl) (nil (t_then ?_))))
  have hm := Option.some.inj hm
  subst hm
  exact rtn (r_blk (r_then (retN (vs := [.int .i64 0, .int .i64 1]) rfl ⟨rfl, rfl, trivial⟩ rfl ⟨_, rfl, _, Im.refl, ⟨rfl, hS.sel [0] rfl, trivial⟩⟩)))

set_option maxRecDepth 100000 in
set_option maxHeartbeats 1000000 in
theorem kind_Table_Struct_2_sim {g : World} {T0 : Nat → Prop} {w0 : World} {R : Assn} {p0 : List UInt8} {p1 : List GField} {a1 : Option Addr} {c1 : Nat} {r : Int × Int} (hS : Sep g T0 w0 [R]) (h1 : SlR rGField T0 w0 (.slice a1 (List.length p1) c1) p1) (hm : kind_Table_Struct_2 p0 p1 = some r) :
    Calls Try.prog 28 #[.pointer none, .string ⟨p0.toArray⟩, .slice a1 (List.length p1) c1] w0 (RetS T0 w0 fun T w v => v = .tuple #[.int .i64 r.1, .int .i64 r.2] ∧ Sep g T w [R] ∧ True) := by
  refine enter (args := [.pointer none, .string ⟨p0.toArray⟩, .slice a1 (List.length p1) c1]) Try.func28 rfl Try.ntmps28 rfl fun J => ?_
  unfold kind_Table_Struct_2 at hm
  refine sq2 ?_
  refine rg (wl rfl (bxS (cs := [.pointer none]) rfl rfl hS fun w1 b1 im1 hS1 => ?_))
  refine pv (r_zi rfl) (pv (r_zi rfl) (nil (t_then ?_)))
  refine sq2 ?_
  refine sq2 ?_
  refine rg (pv (r_ld rfl Try.isAgg25 (hS1.cell0 (i := 0) ⟨rfl, rfl⟩ (j := 0) rfl)) (pv (r_pne rfl rfl rfl Try.underlying25) (nil (t_then ?_))))
  refine cnd (b := true) rfl (fun _ => ?_) (fun h => nomatch h)
  refine sq2 ?_
  refine rg (pv (r_zi rfl) (pv (r_zi rfl) (nil (t_thenR [(6, .int .i64 0), (7, .int .i64 1)] ⟨rfl, rfl, trivial⟩ fun J => ?_))))
  have hm := Option.some.inj hm
  subst hm
  exact rtn (r_then (retN (vs := [.int .i64 0, .int .i64 1]) rfl ⟨rfl, rfl, trivial⟩ rfl ⟨_, rfl, _, im1, ⟨rfl, hS1.sel [1] rfl, trivial⟩⟩))

set_option maxRecDepth 100000 in
set_option maxHeartbeats 1000000 in
theorem law08_Act_Done_2_sim {g : World} {T0 : Nat → Prop} {w0 : World} {R : Assn} {p0 : law08Act} {a1 : Option Addr} {c1 : Nat} {p1 : List ref08Type} {a2 : Option Addr} {c2 : Nat} {r : Int × Int × ref08Made} (hS : Sep g T0 w0 [R]) (h1 : SlR rGField T0 w0 (.slice a1 (List.length p0.Fields) c1) p0.Fields) (h2 : SlR rref08Type T0 w0 (.slice a2 (List.length p1) c2) p1) (hm : law08_Act_Done_2 p0 p1 = some r) :
    Calls Try.prog 11 #[.agg #[.int .i64 p0.Kind, .int .i64 p0.N, .int .i64 p0.Long, .string ⟨p0.Name.toArray⟩, .slice a1 (List.length p0.Fields) c1], .pointer none, .slice a2 (List.length p1) c2] w0 (RetS T0 w0 fun T w v => ∃ (a10 : Option Addr) (c10 : Nat), v = .tuple #[.int .i64 r.1, .int .i64 r.2.1, .agg #[.int .i64 r.2.2.N, .slice a10 (List.length r.2.2.T) c10, .int .i64 r.2.2.E]] ∧ Sep g T w [R] ∧ SlR rref08Type T w (.slice a10 (List.length r.2.2.T) c10) r.2.2.T ∧ True) := by
  refine enter (args := [.agg #[.int .i64 p0.Kind, .int .i64 p0.N, .int .i64 p0.Long, .string ⟨p0.Name.toArray⟩, .slice a1 (List.length p0.Fields) c1], .pointer none, .slice a2 (List.length p1) c2]) Try.func11 rfl Try.ntmps11 rfl fun J => ?_
  unfold law08_Act_Done_2 at hm
  refine sq2 ?_
  refine rg (wl rfl (bxS (cs := [.int .i64 p0.Kind, .int .i64 p0.N, .int .i64 p0.Long, .string ⟨p0.Name.toArray⟩, .slice a1 (List.length p0.Fields) c1]) rfl rfl hS fun w1 b1 im1 hS1 => ?_))
  refine pv (r_zi rfl) (pv (r_zi rfl) (wl rfl (alS (zs := [.int .i64 0, .slice none 0 0, .int .i64 0]) Try.zeroValue30 rfl hS1 fun w2 b2 im2 hS2 => ?_)))
  refine nil (t_then ?_)
  refine sq2 ?_
  refine sq2 ?_
  refine rg (pv (r_fa rfl Try.underlying34 rfl Try.sizeOf3 rfl) (pv (r_ld rfl Try.isAgg3 (hS2.cell0 (i := 1) ⟨rfl, rfl⟩ (j := 0) rfl)) (nil (t_then ?_))))
  refine blk ?_
  refine sq2 ?_
  refine rg (pv (r_ib rfl rfl rfl) (pv (r_zb rfl) (nil (t_thenR [(1, .pointer none), (2, .slice a2 (List.length p1) c2), (3, .pointer (some ⟨b1, 0, none⟩)), (8, .pointer (some ⟨b2, 0, none⟩)), (20, .int .i64 p0.Kind), (21, .bool (p0.Kind == 0))] ⟨rfl, rfl, rfl, rfl, rfl, rfl, trivial⟩ fun J => ?_))))
  refine cnd rfl (fun hb1 => ?_) (fun hb1 => ?_)
  · have hm := ctrue hb1 hm
    refine sq2 ?_
    obtain ⟨y1, hx1, hm⟩ := bindS hm
    refine rg (pv (r_mp rfl) (pv (r_fa rfl Try.underlying34 rfl Try.sizeOf3 rfl) (pv (r_ld rfl Try.isAgg3 (hS2.cell0 (i := 1) ⟨rfl, rfl⟩ (j := 1) rfl)) (wl rfl (calS cf13 rfl (kind_Table_Ptr_2_sim (p0 := p0.N) (hS2.bun [0, 1, 2] [] rfl)  hx1) rfl fun v1 T1 w3 im3 rv1 => ?_)))))
    obtain ⟨rfl, hS3, _⟩ := rv1
    have hS3 : Sep g T1 w3 [boxA b2 [.int .i64 0, .slice none 0 0, .int .i64 0], boxA b1 [.int .i64 p0.Kind, .int .i64 p0.N, .int .i64 p0.Long, .string ⟨p0.Name.toArray⟩, .slice a1 (List.length p0.Fields) c1], R] := hS3.unb
    refine pv (r_mv rfl) (pv (r_ex (v := .int .i64 y1.1) rfl rfl) (pv (r_ex (v := .int .i64 y1.2) rfl rfl) (pv (r_zi rfl) (pv (r_zi rfl) (nil (t_thenR [(2, .slice a2 (List.length p1) c2), (3, .pointer (some ⟨b1, 0, none⟩)), (8, .pointer (some ⟨b2, 0, none⟩)), (9, .int .i64 y1.1), (10, .int .i64 y1.2)] ⟨rfl, rfl, rfl, rfl, rfl, trivial⟩ fun J => ?_))))))
    refine sq2 ?_
    obtain ⟨y2, hx2, hm⟩ := bindS hm
    refine rg (pv (r_mi rfl) (pv (r_mi rfl) (pv (r_ms rfl) (pv (r_fa rfl Try.underlying34 rfl Try.sizeOf3 rfl) (pv (r_ld rfl Try.isAgg3 (hS3.cell0 (i := 1) ⟨rfl, rfl⟩ (j := 1) rfl)) (wl rfl (calS cf29 rfl (ref08_Ptr_sim (p0 := p1) (p1 := p0.N) (hS3.bun [0, 2] [] rfl) (h2.mono (Im.trans im1 (Im.trans im2 im3))) hx2) rfl fun v2 T2 w4 im4 rv2 => ?_)))))))
    obtain ⟨a3, c3, rfl, hS4, h3, _⟩ := rv2
    have hS4 : Sep g T2 w4 [boxA b2 [.int .i64 0, .slice none 0 0, .int .i64 0], R] := hS4.unb
    refine pv (r_zi rfl) (pv (r_zi rfl) (wl rfl (st0B (q := 0) hS4 ⟨rfl, rfl⟩ rfl rfl rfl Try.sizeOf30 rfl rfl rfl fun w5 im5 hS5 => ?_)))
    have hS5 : Sep g T2 w5 [boxA b2 [.int .i64 y2.N, .slice a3 (List.length y2.T) c3, .int .i64 y2.E], R] := hS5
    refine nil (t_thenR [(6, .int .i64 y1.1), (7, .int .i64 y1.2), (8, .pointer (some ⟨b2, 0, none⟩))] ⟨rfl, rfl, rfl, trivial⟩ fun J => ?_)
    have hm := Option.some.inj hm
    subst hm
    exact rtn (r_blk (r_then (retN (vs := [.int .i64 y1.1, .int .i64 y1.2, .agg #[.int .i64 y2.N, .slice a3 (List.length y2.T) c3, .int .i64 y2.E]]) rfl ⟨rfl, rfl, rvS rfl Try.isAgg30 Try.sizeOf30 rfl (hS5.bx (i := 0) ⟨rfl, rfl⟩), trivial⟩ rfl ⟨_, rfl, _, (Im.trans im1 (Im.trans im2 (Im.trans im3 (Im.trans im4 im5)))), ⟨_, _, rfl, hS5.sel [1] rfl, (h3.mono im5), trivial⟩⟩)))
  · have hm := cfalse hb1 hm
    refine sq2 ?_
    refine rg (pv (r_ib rfl rfl rfl) (pv (r_zb rfl) (nil (t_then ?_))))
    refine cnd rfl (fun hb2 => ?_) (fun hb2 => ?_)
    · have hm := ctrue hb2 hm
      refine sq2 ?_
      obtain ⟨y3, hx3, hm⟩ := bindS hm
      refine rg (pv (r_mp rfl) (pv (r_fa rfl Try.underlying34 rfl Try.sizeOf3 rfl) (pv (r_ld rfl Try.isAgg3 (hS2.cell0 (i := 1) ⟨rfl, rfl⟩ (j := 1) rfl)) (pv (r_fa rfl Try.underlying34 rfl Try.sizeOf3 rfl) (pv (r_ld rfl Try.isAgg3 (hS2.cell0 (i := 1) ⟨rfl, rfl⟩ (j := 2) rfl)) (wl rfl (calS cf14 rfl (kind_Table_Array_2_sim (p0 := p0.N) (p1 := p0.Long) (hS2.bun [0, 1, 2] [] rfl)  hx3) rfl fun v3 T3 w6 im6 rv3 => ?_)))))))
      obtain ⟨rfl, hS6, _⟩ := rv3
      have hS6 : Sep g T3 w6 [boxA b2 [.int .i64 0, .slice none 0 0, .int .i64 0], boxA b1 [.int .i64 p0.Kind, .int .i64 p0.N, .int .i64 p0.Long, .string ⟨p0.Name.toArray⟩, .slice a1 (List.length p0.Fields) c1], R] := hS6.unb
      refine pv (r_mv rfl) (pv (r_ex (v := .int .i64 y3.1) rfl rfl) (pv (r_ex (v := .int .i64 y3.2) rfl rfl) (pv (r_zi rfl) (pv (r_zi rfl) (nil (t_thenR [(2, .slice a2 (List.length p1) c2), (3, .pointer (some ⟨b1, 0, none⟩)), (8, .pointer (some ⟨b2, 0, none⟩)), (11, .int .i64 y3.1), (12, .int .i64 y3.2)] ⟨rfl, rfl, rfl, rfl, rfl, trivial⟩ fun J => ?_))))))
      refine sq2 ?_
      obtain ⟨y4, hx4, hm⟩ := bindS hm
      refine rg (pv (r_mi rfl) (pv (r_mi rfl) (pv (r_ms rfl) (pv (r_fa rfl Try.underlying34 rfl Try.sizeOf3 rfl) (pv (r_ld rfl Try.isAgg3 (hS6.cell0 (i := 1) ⟨rfl, rfl⟩ (j := 1) rfl)) (pv (r_fa rfl Try.underlying34 rfl Try.sizeOf3 rfl) (pv (r_ld rfl Try.isAgg3 (hS6.cell0 (i := 1) ⟨rfl, rfl⟩ (j := 2) rfl)) (wl rfl (calS cf30 rfl (ref08_Array_sim (p0 := p1) (p1 := p0.N) (p2 := p0.Long) (hS6.bun [0, 2] [] rfl) (h2.mono (Im.trans im1 (Im.trans im2 im6))) hx4) rfl fun v4 T4 w7 im7 rv4 => ?_)))))))))
      obtain ⟨a4, c4, rfl, hS7, h4, _⟩ := rv4
      have hS7 : Sep g T4 w7 [boxA b2 [.int .i64 0, .slice none 0 0, .int .i64 0], R] := hS7.unb
      refine pv (r_zi rfl) (pv (r_zi rfl) (wl rfl (st0B (q := 0) hS7 ⟨rfl, rfl⟩ rfl rfl rfl Try.sizeOf30 rfl rfl rfl fun w8 im8 hS8 => ?_)))
      have hS8 : Sep g T4 w8 [boxA b2 [.int .i64 y4.N, .slice a4 (List.length y4.T) c4, .int .i64 y4.E], R] := hS8
      refine nil (t_thenR [(6, .int .i64 y3.1), (7, .int .i64 y3.2), (8, .pointer (some ⟨b2, 0, none⟩))] ⟨rfl, rfl, rfl, trivial⟩ fun J => ?_)
      have hm := Option.some.inj hm
      subst hm
      exact rtn (r_blk (r_then (retN (vs := [.int .i64 y3.1, .int .i64 y3.2, .agg #[.int .i64 y4.N, .slice a4 (List.length y4.T) c4, .int .i64 y4.E]]) rfl ⟨rfl, rfl, rvS rfl Try.isAgg30 Try.sizeOf30 rfl (hS8.bx (i := 0) ⟨rfl, rfl⟩), trivial⟩ rfl ⟨_, rfl, _, (Im.trans im1 (Im.trans im2 (Im.trans im6 (Im.trans im7 im8)))), ⟨_, _, rfl, hS8.sel [1] rfl, (h4.mono im8), trivial⟩⟩)))
    · have hm := cfalse hb2 hm
      refine sq2 ?_
      refine rg (pv (r_ib rfl rfl rfl) (pv (r_zb rfl) (nil (t_thenR [(1, .pointer none), (2, .slice a2 (List.length p1) c2), (3, .pointer (some ⟨b1, 0, none⟩)), (8, .pointer (some ⟨b2, 0, none⟩)), (55, .bool (p0.Kind == 2))] ⟨rfl, rfl, rfl, rfl, rfl, trivial⟩ fun J => ?_))))
      refine cnd rfl (fun hb3 => ?_) (fun hb3 => ?_)
      · have hm := ctrue hb3 hm
        refine sq2 ?_
        obtain ⟨y5, hx5, hm⟩ := bindS hm
        refine rg (pv (r_mp rfl) (pv (r_fa rfl Try.underlying34 rfl Try.sizeOf9 rfl) (pv (r_ld rfl Try.isAgg9 (hS2.cell0 (i := 1) ⟨rfl, rfl⟩ (j := 3) rfl)) (wl rfl (calS cf27 rfl (kind_Table_Open_2_sim (p0 := p0.Name) (hS2.bun [0, 1, 2] [] rfl)  hx5) rfl fun v5 T5 w9 im9 rv5 => ?_)))))
        obtain ⟨rfl, hS9, _⟩ := rv5
        have hS9 : Sep g T5 w9 [boxA b2 [.int .i64 0, .slice none 0 0, .int .i64 0], boxA b1 [.int .i64 p0.Kind, .int .i64 p0.N, .int .i64 p0.Long, .string ⟨p0.Name.toArray⟩, .slice a1 (List.length p0.Fields) c1], R] := hS9.unb
        refine pv (r_mv rfl) (pv (r_ex (v := .int .i64 y5.1) rfl rfl) (pv (r_ex (v := .int .i64 y5.2) rfl rfl) (pv (r_zi rfl) (pv (r_zi rfl) (nil (t_thenR [(2, .slice a2 (List.length p1) c2), (3, .pointer (some ⟨b1, 0, none⟩)), (8, .pointer (some ⟨b2, 0, none⟩)), (13, .int .i64 y5.1), (14, .int .i64 y5.2)] ⟨rfl, rfl, rfl, rfl, rfl, trivial⟩ fun J => ?_))))))
        refine sq2 ?_
        obtain ⟨y6, hx6, hm⟩ := bindS hm
        refine rg (pv (r_mi rfl) (pv (r_mi rfl) (pv (r_ms rfl) (pv (r_fa rfl Try.underlying34 rfl Try.sizeOf9 rfl) (pv (r_ld rfl Try.isAgg9 (hS9.cell0 (i := 1) ⟨rfl, rfl⟩ (j := 3) rfl)) (wl rfl (calS cf31 rfl (ref08_Open_sim (p0 := p1) (p1 := p0.Name) (hS9.bun [0, 2] [] rfl) (h2.mono (Im.trans im1 (Im.trans im2 im9))) hx6) rfl fun v6 T6 w10 im10 rv6 => ?_)))))))
        obtain ⟨a5, c5, rfl, hS10, h5, _⟩ := rv6
        have hS10 : Sep g T6 w10 [boxA b2 [.int .i64 0, .slice none 0 0, .int .i64 0], R] := hS10.unb
        refine pv (r_zi rfl) (pv (r_zi rfl) (wl rfl (st0B (q := 0) hS10 ⟨rfl, rfl⟩ rfl rfl rfl Try.sizeOf30 rfl rfl rfl fun w11 im11 hS11 => ?_)))
        have hS11 : Sep g T6 w11 [boxA b2 [.int .i64 y6.N, .slice a5 (List.length y6.T) c5, .int .i64 y6.E], R] := hS11
        refine nil (t_thenR [(6, .int .i64 y5.1), (7, .int .i64 y5.2), (8, .pointer (some ⟨b2, 0, none⟩))] ⟨rfl, rfl, rfl, trivial⟩ fun J => ?_)
        have hm := Option.some.inj hm
        subst hm
        exact rtn (r_blk (r_then (retN (vs := [.int .i64 y5.1, .int .i64 y5.2, .agg #[.int .i64 y6.N, .slice a5 (List.length y6.T) c5, .int .i64 y6.E]]) rfl ⟨rfl, rfl, rvS rfl Try.isAgg30 Try.sizeOf30 rfl (hS11.bx (i := 0) ⟨rfl, rfl⟩), trivial⟩ rfl ⟨_, rfl, _, (Im.trans im1 (Im.trans im2 (Im.trans im9 (Im.trans im10 im11)))), ⟨_, _, rfl, hS11.sel [1] rfl, (h5.mono im11), trivial⟩⟩)))
      · have hm := cfalse hb3 hm
        refine skp (t_blk (t_then ?_))
        refine sq2 ?_
        refine rg (pv (r_zs rfl) (nil (t_then ?_)))
        refine sq2 ?_
        refine sq2 ?_
        refine rg (pv (r_zi rfl) (nil (t_then ?_)))
        obtain ⟨o1, ho1, hq1⟩ := bindS hm
        obtain ⟨bd1, hbd1, ho1⟩ := loop_open ho1
        have hS12 := hS2.nilO rGField 52
        refine blk (wp_loop_ghost (fun m a w12 => ∃ (J : Nat → Value) (T7 : Nat → Prop) (x1 : List GField) (a6 : Option Addr) (n1 : Nat) (c6 : Nat) (x2 : Int), a = env 101 J [(1, .pointer none), (2, .slice a2 (List.length p1) c2), (3, .pointer (some ⟨b1, 0, none⟩)), (8, .pointer (some ⟨b2, 0, none⟩)), (15, .slice a6 n1 c6), (16, .int .i64 x2)] ∧ Im T0 w2 T7 w12 ∧ Sep g T7 w12 [ownA rGField 52 (.slice a6 n1 c6) x1, boxA b2 [.int .i64 0, .slice none 0 0, .int .i64 0], boxA b1 [.int .i64 p0.Kind, .int .i64 p0.N, .int .i64 p0.Long, .string ⟨p0.Name.toArray⟩, .slice a1 (List.length p0.Fields) c1], R] ∧ loopM bd1 m (x1, x2) = some o1) NN ⟨_, _, [], _, _, _, 0, env_has ⟨rfl, rfl, rfl, rfl, rfl, rfl, trivial⟩, Im.refl, hS12.sel [0, 1, 2, 3] rfl, ho1⟩ ?_)
        rintro m _ w12 ⟨J, T7, x1, a6, n1, c6, x2, rfl, im12, hS13, ho1⟩
        obtain ⟨m1, z1, rfl, hm, hn1⟩ := loop_round ho1
        rw [hbd1] at hm
        refine sq2 ?_
        refine sq2 ?_
        refine rg (pv (r_mi rfl) (pv (r_fa rfl Try.underlying34 rfl Try.sizeOf32 rfl) (pv (r_ld rfl Try.isAgg32 (hS13.cell0 (i := 2) ⟨rfl, rfl⟩ (j := 4) rfl)) (pv (r_ln rfl Try.underlying32) (pv (r_ib rfl rfl rfl) (nil (t_then ?_)))))))
        refine cnd rfl (fun hb4 => ?_) (fun hb4 => ?_)
        · have hm := ctrue hb4 hm
          refine skp (t_thenR [(1, .pointer none), (2, .slice a2 (List.length p1) c2), (3, .pointer (some ⟨b1, 0, none⟩)), (8, .pointer (some ⟨b2, 0, none⟩)), (15, .slice a6 n1 c6), (16, .int .i64 x2)] ⟨rfl, rfl, rfl, rfl, rfl, rfl, trivial⟩ fun J => ?_)
          refine sq2 ?_
          refine blk ?_
          obtain ⟨u1, hx7, hm⟩ := bindS hm
          obtain ⟨b3, of1, cs1, k1, cp1, hv1, hp1, hl1, he1, hr1, hc1, hT1⟩ := (h1.mono (Im.trans im1 (Im.trans im2 im12))).ixT hx7 rfl
          cases rGField_open hr1
          refine rg (pv (r_ms rfl) (pv (r_fa rfl Try.underlying34 rfl Try.sizeOf32 rfl) (pv (r_ld rfl Try.isAgg32 (hS13.cell0 (i := 2) ⟨rfl, rfl⟩ (j := 4) rfl)) (pv (r_mi rfl) (pv (r_ixe hv1 rfl Try.underlying32 Try.sizeOf45 hp1 hl1 he1) (pv (r_ldS rfl Try.isAgg45 Try.sizeOf45 rfl hc1 (cs := [.string ⟨u1.Name.toArray⟩, .int .i64 u1.Type_, .int .i64 u1.At])) (wl rfl (bsS (r := rGField) (l := ([u1] : List GField)) (css := [[.string ⟨u1.Name.toArray⟩, .int .i64 u1.Type_, .int .i64 u1.At]]) hS13 Try.underlying49 Try.sizeOf52 Try.zeroValue52 rfl rfl (by kernel_rfl) rfl ⟨(rGField_mk (x := u1)  : rGField.rp _ _ _ _), trivial⟩ rfl rfl fun w13 a7 n2 c7 im13 hS14 => ?_))))))))
          obtain ⟨z_1, hro1, hm⟩ := bindS hm
          refine wl rfl (apO (q := 1) (l := x1) (us := ([u1] : List GField)) hS14 ⟨rfl, rfl⟩ rfl rfl (hS14.own (i := 0) ⟨rfl, rfl⟩).v Try.underlying49 el52 (room_some hro1) fun w14 a8 n3 c8 im14 hS15 => ?_)
          have hS15 : Sep g T7 w14 [ownA rGField 52 (.slice a7 n2 c7) ([u1] : List GField), ownA rGField 52 (.slice a8 n3 c8) (x1 ++ ([u1] : List GField)), boxA b2 [.int .i64 0, .slice none 0 0, .int .i64 0], boxA b1 [.int .i64 p0.Kind, .int .i64 p0.N, .int .i64 p0.Long, .string ⟨p0.Name.toArray⟩, .slice a1 (List.length p0.Fields) c1], R] := hS15
          refine pv (r_zs rfl) (nil (t_blk (t_thenR [(1, .pointer none), (2, .slice a2 (List.length p1) c2), (3, .pointer (some ⟨b1, 0, none⟩)), (8, .pointer (some ⟨b2, 0, none⟩)), (15, .slice a8 n3 c8), (16, .int .i64 x2)] ⟨rfl, rfl, rfl, rfl, rfl, rfl, trivial⟩ fun J => ?_)))
          have hm := Option.some.inj hm
          subst hm
          exact rg (pv (r_mi rfl) (pv (r_ib rfl rfl rfl) (pv (r_zi rfl) (nil (t_then ⟨m1, Nat.lt_succ_self _, _, _, (x1 ++ ([u1] : List GField)), _, _, _, (IntKind.wrap .i64 (x2 + 1)), env_has ⟨rfl, rfl, rfl, rfl, rfl, rfl, trivial⟩, (Im.trans im12 (Im.trans im13 im14)), hS15.sel [1, 2, 3, 4] rfl, hn1⟩)))))
        · have hm := cfalse hb4 hm
          have hm := Option.some.inj hm
          subst hm
          have hn1 : _ = Lp.brk _ := hn1
          subst hn1
          have hm := thn_brk hq1
          refine xt (x_then (x_then (x_eq (t_thenR [(1, .pointer none), (2, .slice a2 (List.length p1) c2), (3, .pointer (some ⟨b1, 0, none⟩)), (8, .pointer (some ⟨b2, 0, none⟩)), (15, .slice a6 n1 c6)] ⟨rfl, rfl, rfl, rfl, rfl, trivial⟩ fun J => ?_))))
          refine sq2 ?_
          obtain ⟨y7, hx8, hm⟩ := bindS hm
          refine rg (pv (r_mp rfl) (pv (r_fa rfl Try.underlying34 rfl Try.sizeOf9 rfl) (pv (r_ld rfl Try.isAgg9 (hS13.cell0 (i := 2) ⟨rfl, rfl⟩ (j := 3) rfl)) (pv (r_fa rfl Try.underlying34 rfl Try.sizeOf32 rfl) (pv (r_ld rfl Try.isAgg32 (hS13.cell0 (i := 2) ⟨rfl, rfl⟩ (j := 4) rfl)) (wl rfl (calS cf28 rfl (kind_Table_Struct_2_sim (p0 := p0.Name) (p1 := p0.Fields) (hS13.bun [0, 1, 2, 3] [] rfl) (h1.mono (Im.trans im1 (Im.trans im2 im12))) hx8) rfl fun v7 T8 w15 im15 rv7 => ?_)))))))
          obtain ⟨rfl, hS16, _⟩ := rv7
          have hS16 : Sep g T8 w15 [ownA rGField 52 (.slice a6 n1 c6) x1, boxA b2 [.int .i64 0, .slice none 0 0, .int .i64 0], boxA b1 [.int .i64 p0.Kind, .int .i64 p0.N, .int .i64 p0.Long, .string ⟨p0.Name.toArray⟩, .slice a1 (List.length p0.Fields) c1], R] := hS16.unb
          refine pv (r_mv rfl) (pv (r_ex (v := .int .i64 y7.1) rfl rfl) (pv (r_ex (v := .int .i64 y7.2) rfl rfl) (pv (r_zi rfl) (pv (r_zi rfl) (nil (t_thenR [(2, .slice a2 (List.length p1) c2), (3, .pointer (some ⟨b1, 0, none⟩)), (8, .pointer (some ⟨b2, 0, none⟩)), (15, .slice a6 n1 c6), (17, .int .i64 y7.1), (18, .int .i64 y7.2)] ⟨rfl, rfl, rfl, rfl, rfl, rfl, trivial⟩ fun J => ?_))))))
          refine sq2 ?_
          refine rg (pv (r_mi rfl) (pv (r_mi rfl) (pv (r_ms rfl) (pv (r_fa rfl Try.underlying34 rfl Try.sizeOf9 rfl) (pv (r_ld rfl Try.isAgg9 (hS16.cell0 (i := 2) ⟨rfl, rfl⟩ (j := 3) rfl)) (pv (r_ms rfl) (?_)))))))
          obtain ⟨T9, im16, hS17, h6⟩ := hS16.seal 0 ⟨rfl, rfl⟩
          have hsh := h6.len
          subst hsh
          have hS17 : Sep g T9 w15 [empA, boxA b2 [.int .i64 0, .slice none 0 0, .int .i64 0], boxA b1 [.int .i64 p0.Kind, .int .i64 p0.N, .int .i64 p0.Long, .string ⟨p0.Name.toArray⟩, .slice a1 (List.length p0.Fields) c1], R] := hS17
          obtain ⟨y8, hx9, hm⟩ := bindS hm
          refine wl rfl (calS cf32 rfl (ref08_Struct_sim (p0 := p1) (p1 := p0.Name) (p2 := x1) (hS17.bun [1, 3] [] rfl) (h2.mono (Im.trans im1 (Im.trans im2 (Im.trans im12 (Im.trans im15 im16))))) h6 hx9) rfl fun v8 T10 w16 im17 rv8 => ?_)
          obtain ⟨a9, c9, rfl, hS18, h7, _⟩ := rv8
          have hS18 : Sep g T10 w16 [boxA b2 [.int .i64 0, .slice none 0 0, .int .i64 0], R] := hS18.unb
          refine pv (r_zi rfl) (pv (r_zi rfl) (wl rfl (st0B (q := 0) hS18 ⟨rfl, rfl⟩ rfl rfl rfl Try.sizeOf30 rfl rfl rfl fun w17 im18 hS19 => ?_)))
          have hS19 : Sep g T10 w17 [boxA b2 [.int .i64 y8.N, .slice a9 (List.length y8.T) c9, .int .i64 y8.E], R] := hS19
          refine nil (t_thenR [(6, .int .i64 y7.1), (7, .int .i64 y7.2), (8, .pointer (some ⟨b2, 0, none⟩))] ⟨rfl, rfl, rfl, trivial⟩ fun J => ?_)
          have hm := Option.some.inj hm
          subst hm
          exact rtn (retN (vs := [.int .i64 y7.1, .int .i64 y7.2, .agg #[.int .i64 y8.N, .slice a9 (List.length y8.T) c9, .int .i64 y8.E]]) rfl ⟨rfl, rfl, rvS rfl Try.isAgg30 Try.sizeOf30 rfl (hS19.bx (i := 0) ⟨rfl, rfl⟩), trivial⟩ rfl ⟨_, rfl, _, (Im.trans im1 (Im.trans im2 (Im.trans im12 (Im.trans im15 (Im.trans im16 (Im.trans im17 im18)))))), ⟨_, _, rfl, hS19.sel [1] rfl, (h7.mono im18), trivial⟩⟩)

set_option maxRecDepth 100000 in
set_option maxHeartbeats 1000000 in
theorem kind_Table_Type_2_sim {g : World} {T0 : Nat → Prop} {w0 : World} {R : Assn} {p0 : Int} {r : GType × Int} (hS : Sep g T0 w0 [R])  (hm : kind_Table_Type_2 p0 = some r) :
    Calls Try.prog 20 #[.pointer none, .int .i64 p0] w0 (RetS T0 w0 fun T w v => ∃ (a1 : Option Addr) (c1 : Nat), v = .tuple #[.agg #[.int .i64 r.1.Kind, .int .i64 r.1.Elem, .int .i64 r.1.Len, .string ⟨r.1.Name.toArray⟩, .slice a1 (List.length r.1.Fields) c1], .int .i64 r.2] ∧ Sep g T w [R] ∧ SlR rGField T w (.slice a1 (List.length r.1.Fields) c1) r.1.Fields ∧ True) := by
  refine enter (args := [.pointer none, .int .i64 p0]) Try.func20 rfl Try.ntmps20 rfl fun J => ?_
  unfold kind_Table_Type_2 at hm
  refine sq2 ?_
  refine rg (wl rfl (alS (zs := [.int .i64 0, .int .i64 0, .int .i64 0, .string ⟨([] : List UInt8).toArray⟩, .slice none 0 0]) Try.zeroValue55 rfl hS fun w1 b1 im1 hS1 => ?_))
  refine pv (r_zi rfl) (nil (t_then ?_))
  refine sq2 ?_
  refine blk ?_
  refine sq2 ?_
  refine rg (pv (r_mp rfl) (pv (r_pne rfl rfl rfl Try.underlying25) (pv (r_zb rfl) (nil (t_then ?_)))))
  refine cnd (b := true) rfl (fun _ => ?_) (fun h => nomatch h)
  refine sq2 ?_
  refine rg (pv (r_bd (by kernel_rfl) rfl (u := .agg #[.int .i64 0, .int .i64 0, .int .i64 0, .string ⟨([] : List UInt8).toArray⟩, .slice none 0 0])) (wl rfl (st0B (q := 0) hS1 ⟨rfl, rfl⟩ rfl rfl rfl Try.sizeOf55 rfl rfl rfl fun w2 im2 hS2 => ?_)))
  have hS2 : Sep g T0 w2 [boxA b1 [.int .i64 0, .int .i64 0, .int .i64 0, .string ⟨([] : List UInt8).toArray⟩, .slice none 0 0], R] := hS2
  refine pv (r_zi rfl) (nil (t_thenR [(4, .pointer (some ⟨b1, 0, none⟩)), (5, .int .i64 1)] ⟨rfl, rfl, trivial⟩ fun J => ?_))
  have hm := Option.some.inj hm
  subst hm
  exact rtn (r_blk (r_then (retN (vs := [.agg #[.int .i64 0, .int .i64 0, .int .i64 0, .string ⟨([] : List UInt8).toArray⟩, .slice none 0 0], .int .i64 1]) rfl ⟨rvS rfl Try.isAgg55 Try.sizeOf55 rfl (hS2.bx (i := 0) ⟨rfl, rfl⟩), rfl, trivial⟩ rfl ⟨_, rfl, _, (Im.trans im1 im2), ⟨_, _, rfl, hS2.sel [1] rfl, SlR_nil, trivial⟩⟩)))

set_option maxRecDepth 100000 in
set_option maxHeartbeats 1000000 in
theorem kind_Table_Find_2_sim {g : World} {T0 : Nat → Prop} {w0 : World} {R : Assn} {p0 : List UInt8} {r : Int × Int} (hS : Sep g T0 w0 [R])  (hm : kind_Table_Find_2 p0 = some r) :
    Calls Try.prog 16 #[.pointer none, .string ⟨p0.toArray⟩] w0 (RetS T0 w0 fun T w v => v = .tuple #[.int .i64 r.1, .int .i64 r.2] ∧ Sep g T w [R] ∧ True) := by
  refine enter (args := [.pointer none, .string ⟨p0.toArray⟩]) Try.func16 rfl Try.ntmps16 rfl fun J => ?_
  unfold kind_Table_Find_2 at hm
  refine sq2 ?_
  refine rg (pv (r_zi rfl) (pv (r_zi rfl) (nil (t_then ?_))))
  refine sq2 ?_
  refine sq2 ?_
  refine rg (pv (r_mp rfl) (pv (r_pne rfl rfl rfl Try.underlying25) (nil (t_then ?_))))
  refine cnd (b := true) rfl (fun _ => ?_) (fun h => nomatch h)
  refine sq2 ?_
  refine rg (pv (r_zi rfl) (pv (r_zi rfl) (nil (t_thenR [(4, .int .i64 0), (5, .int .i64 1)] ⟨rfl, rfl, trivial⟩ fun J => ?_))))
  have hm := Option.some.inj hm
  subst hm
  exact rtn (r_then (retN (vs := [.int .i64 0, .int .i64 1]) rfl ⟨rfl, rfl, trivial⟩ rfl ⟨_, rfl, _, Im.refl, ⟨rfl, hS.sel [0] rfl, trivial⟩⟩))

set_option maxRecDepth 100000 in
set_option maxHeartbeats 1000000 in
theorem kind_Table_Field_2_sim {g : World} {T0 : Nat → Prop} {w0 : World} {R : Assn} {p0 : Int} {p1 : List UInt8} {r : GField × Int} (hS : Sep g T0 w0 [R])  (hm : kind_Table_Field_2 p0 p1 = some r) :
    Calls Try.prog 18 #[.pointer none, .int .i64 p0, .string ⟨p1.toArray⟩] w0 (RetS T0 w0 fun T w v => v = .tuple #[.agg #[.string ⟨r.1.Name.toArray⟩, .int .i64 r.1.Type_, .int .i64 r.1.At], .int .i64 r.2] ∧ Sep g T w [R] ∧ True) := by
  refine enter (args := [.pointer none, .int .i64 p0, .string ⟨p1.toArray⟩]) Try.func18 rfl Try.ntmps18 rfl fun J => ?_
  unfold kind_Table_Field_2 at hm
  refine sq2 ?_
  refine rg (wl rfl (alS (zs := [.string ⟨([] : List UInt8).toArray⟩, .int .i64 0, .int .i64 0]) Try.zeroValue45 rfl hS fun w1 b1 im1 hS1 => ?_))
  refine pv (r_zi rfl) (nil (t_then ?_))
  refine sq2 ?_
  refine blk ?_
  refine sq2 ?_
  refine rg (pv (r_mp rfl) (pv (r_pne rfl rfl rfl Try.underlying25) (pv (r_zb rfl) (nil (t_then ?_)))))
  refine cnd (b := true) rfl (fun _ => ?_) (fun h => nomatch h)
  refine sq2 ?_
  refine rg (pv (r_bd (by kernel_rfl) rfl (u := .agg #[.string ⟨([] : List UInt8).toArray⟩, .int .i64 0, .int .i64 0])) (wl rfl (st0B (q := 0) hS1 ⟨rfl, rfl⟩ rfl rfl rfl Try.sizeOf45 rfl rfl rfl fun w2 im2 hS2 => ?_)))
  have hS2 : Sep g T0 w2 [boxA b1 [.string ⟨([] : List UInt8).toArray⟩, .int .i64 0, .int .i64 0], R] := hS2
  refine pv (r_zi rfl) (nil (t_thenR [(6, .pointer (some ⟨b1, 0, none⟩)), (7, .int .i64 1)] ⟨rfl, rfl, trivial⟩ fun J => ?_))
  have hm := Option.some.inj hm
  subst hm
  exact rtn (r_blk (r_then (retN (vs := [.agg #[.string ⟨([] : List UInt8).toArray⟩, .int .i64 0, .int .i64 0], .int .i64 1]) rfl ⟨rvS rfl Try.isAgg45 Try.sizeOf45 rfl (hS2.bx (i := 0) ⟨rfl, rfl⟩), rfl, trivial⟩ rfl ⟨_, rfl, _, (Im.trans im1 im2), ⟨rfl, hS2.sel [1] rfl, trivial⟩⟩)))

set_option maxRecDepth 100000 in
set_option maxHeartbeats 1000000 in
theorem kind_Table_Count_2_sim {g : World} {T0 : Nat → Prop} {w0 : World} {R : Assn}  {r : Int} (hS : Sep g T0 w0 [R])  (hm : kind_Table_Count_2 = some r) :
    Calls Try.prog 15 #[.pointer none] w0 (RetS T0 w0 fun T w v => v = .int .i64 r ∧ Sep g T w [R] ∧ True) := by
  refine enter (args := [.pointer none]) Try.func15 rfl Try.ntmps15 rfl fun J => ?_
  unfold kind_Table_Count_2 at hm
  refine sq2 ?_
  refine rg (pv (r_zi rfl) (nil (t_then ?_)))
  refine sq2 ?_
  refine sq2 ?_
  refine rg (pv (r_mp rfl) (pv (r_pne rfl rfl rfl Try.underlying25) (nil (t_then ?_))))
  refine cnd (b := true) rfl (fun _ => ?_) (fun h => nomatch h)
  refine sq2 ?_
  refine rg (pv (r_zi rfl) (nil (t_then ?_)))
  have hm := Option.some.inj hm
  subst hm
  exact rtn (r_then (ret1 rfl rfl ⟨_, rfl, _, Im.refl, ⟨rfl, hS.sel [0] rfl, trivial⟩⟩))

set_option maxRecDepth 100000 in
set_option maxHeartbeats 1000000 in
theorem kind_Table_has_2_sim {g : World} {T0 : Nat → Prop} {w0 : World} {R : Assn} {p0 : Int} {r : Bool} (hS : Sep g T0 w0 [R])  (hm : kind_Table_has_2 p0 = some r) :
    Calls Try.prog 33 #[.pointer none, .int .i64 p0] w0 (RetS T0 w0 fun T w v => v = .bool r ∧ Sep g T w [R] ∧ True) := by
  refine enter (args := [.pointer none, .int .i64 p0]) Try.func33 rfl Try.ntmps33 rfl fun J => ?_
  unfold kind_Table_has_2 at hm
  refine sq2 ?_
  refine rg (pv (r_zb rfl) (nil (t_then ?_)))
  refine sq2 ?_
  refine rg (pv (r_mp rfl) (pv (r_pnn rfl rfl rfl Try.underlying25) (pv (r_mb rfl) (gF (d0 := 7) rfl rfl rfl (gF (d0 := 7) rfl rfl rfl (pv (r_pkf rfl rfl rfl) (pv (r_mb rfl) (gF (d0 := 11) rfl rfl rfl (gF (d0 := 11) rfl rfl rfl (gF (d0 := 11) rfl rfl rfl (gF (d0 := 11) rfl rfl rfl (gF (d0 := 11) rfl rfl rfl (gF (d0 := 11) rfl rfl rfl (gF (d0 := 11) rfl rfl rfl (pv (r_pkf rfl rfl rfl) (pv (r_zb rfl) (nil (t_thenR [(4, .bool false)] ⟨rfl, trivial⟩ fun J => ?_))))))))))))))))))
  have hm := Option.some.inj hm
  subst hm
  exact rtn (ret1 rfl rfl ⟨_, rfl, _, Im.refl, ⟨rfl, hS.sel [0] rfl, trivial⟩⟩)

set_option maxRecDepth 100000 in
set_option maxHeartbeats 1000000 in
theorem kind_Table_Size_2_sim {g : World} {T0 : Nat → Prop} {w0 : World} {R : Assn} {p0 : Int} {r : Int} (hS : Sep g T0 w0 [R])  (hm : kind_Table_Size_2 p0 = some r) :
    Calls Try.prog 21 #[.pointer none, .int .i64 p0] w0 (RetS T0 w0 fun T w v => v = .int .i64 r ∧ Sep g T w [R] ∧ True) := by
  refine enter (args := [.pointer none, .int .i64 p0]) Try.func21 rfl Try.ntmps21 rfl fun J => ?_
  unfold kind_Table_Size_2 at hm
  refine sq2 ?_
  refine rg (pv (r_zi rfl) (nil (t_then ?_)))
  refine sq2 ?_
  refine sq2 ?_
  obtain ⟨y1, hx1, hm⟩ := bindS hm
  refine rg (pv (r_mp rfl) (pv (r_mi rfl) (wl rfl (calS cf33 rfl (kind_Table_has_2_sim (p0 := p0) (hS.bun [0] [] rfl)  hx1) rfl fun v1 T1 w1 im1 rv1 => ?_))))
  obtain ⟨rfl, hS1, _⟩ := rv1
  have hS1 : Sep g T1 w1 [R] := hS1.unb
  refine pv (r_nt rfl) (nil (t_then ?_))
  refine cnd rfl (fun hb1 => ?_) (fun hb1 => ?_)
  · have hm := ctrue hb1 hm
    refine sq2 ?_
    refine rg (pv (r_zi rfl) (nil (t_thenR [(4, .int .i64 0)] ⟨rfl, trivial⟩ fun J => ?_)))
    have hm := Option.some.inj hm
    subst hm
    exact rtn (r_then (ret1 rfl rfl ⟨_, rfl, _, im1, ⟨rfl, hS1.sel [0] rfl, trivial⟩⟩))
  · have hm := cfalse hb1 hm
    refine skp (t_thenR [(0, .pointer none), (1, .int .i64 p0)] ⟨rfl, rfl, trivial⟩ fun J => ?_)
    refine sq2 ?_
    cases hm

set_option maxRecDepth 100000 in
set_option maxHeartbeats 1000000 in
theorem kind_Table_Align_2_sim {g : World} {T0 : Nat → Prop} {w0 : World} {R : Assn} {p0 : Int} {r : Int} (hS : Sep g T0 w0 [R])  (hm : kind_Table_Align_2 p0 = some r) :
    Calls Try.prog 22 #[.pointer none, .int .i64 p0] w0 (RetS T0 w0 fun T w v => v = .int .i64 r ∧ Sep g T w [R] ∧ True) := by
  refine enter (args := [.pointer none, .int .i64 p0]) Try.func22 rfl Try.ntmps22 rfl fun J => ?_
  unfold kind_Table_Align_2 at hm
  refine sq2 ?_
  refine rg (pv (r_zi rfl) (nil (t_then ?_)))
  refine sq2 ?_
  refine sq2 ?_
  obtain ⟨y1, hx1, hm⟩ := bindS hm
  refine rg (pv (r_mp rfl) (pv (r_mi rfl) (wl rfl (calS cf33 rfl (kind_Table_has_2_sim (p0 := p0) (hS.bun [0] [] rfl)  hx1) rfl fun v1 T1 w1 im1 rv1 => ?_))))
  obtain ⟨rfl, hS1, _⟩ := rv1
  have hS1 : Sep g T1 w1 [R] := hS1.unb
  refine pv (r_nt rfl) (nil (t_then ?_))
  refine cnd rfl (fun hb1 => ?_) (fun hb1 => ?_)
  · have hm := ctrue hb1 hm
    refine sq2 ?_
    refine rg (pv (r_zi rfl) (nil (t_thenR [(4, .int .i64 0)] ⟨rfl, trivial⟩ fun J => ?_)))
    have hm := Option.some.inj hm
    subst hm
    exact rtn (r_then (ret1 rfl rfl ⟨_, rfl, _, im1, ⟨rfl, hS1.sel [0] rfl, trivial⟩⟩))
  · have hm := cfalse hb1 hm
    refine skp (t_thenR [(0, .pointer none), (1, .int .i64 p0)] ⟨rfl, rfl, trivial⟩ fun J => ?_)
    refine sq2 ?_
    cases hm

set_option maxRecDepth 100000 in
set_option maxHeartbeats 1000000 in
theorem kind_Table_Scalar_2_sim {g : World} {T0 : Nat → Prop} {w0 : World} {R : Assn} {p0 : Int} {r : Bool} (hS : Sep g T0 w0 [R])  (hm : kind_Table_Scalar_2 p0 = some r) :
    Calls Try.prog 26 #[.pointer none, .int .i64 p0] w0 (RetS T0 w0 fun T w v => v = .bool r ∧ Sep g T w [R] ∧ True) := by
  refine enter (args := [.pointer none, .int .i64 p0]) Try.func26 rfl Try.ntmps26 rfl fun J => ?_
  unfold kind_Table_Scalar_2 at hm
  refine sq2 ?_
  refine rg (pv (r_zb rfl) (nil (t_then ?_)))
  refine sq2 ?_
  refine sq2 ?_
  obtain ⟨y1, hx1, hm⟩ := bindS hm
  refine rg (pv (r_mp rfl) (pv (r_mi rfl) (wl rfl (calS cf33 rfl (kind_Table_has_2_sim (p0 := p0) (hS.bun [0] [] rfl)  hx1) rfl fun v1 T1 w1 im1 rv1 => ?_))))
  obtain ⟨rfl, hS1, _⟩ := rv1
  have hS1 : Sep g T1 w1 [R] := hS1.unb
  refine pv (r_nt rfl) (nil (t_then ?_))
  refine cnd rfl (fun hb1 => ?_) (fun hb1 => ?_)
  · have hm := ctrue hb1 hm
    refine sq2 ?_
    refine rg (pv (r_zb rfl) (nil (t_thenR [(4, .bool false)] ⟨rfl, trivial⟩ fun J => ?_)))
    have hm := Option.some.inj hm
    subst hm
    exact rtn (r_then (ret1 rfl rfl ⟨_, rfl, _, im1, ⟨rfl, hS1.sel [0] rfl, trivial⟩⟩))
  · have hm := cfalse hb1 hm
    refine skp (t_thenR [(0, .pointer none), (1, .int .i64 p0)] ⟨rfl, rfl, trivial⟩ fun J => ?_)
    refine sq2 ?_
    cases hm

set_option maxRecDepth 100000 in
set_option maxHeartbeats 1000000 in
theorem law08_KindNone_sim {g : World} {T0 : Nat → Prop} {w0 : World} {R : Assn} {p0 : law08Act} {a1 : Option Addr} {c1 : Nat} {p1 : Int} {r : Bool} (hS : Sep g T0 w0 [R]) (h1 : SlR rGField T0 w0 (.slice a1 (List.length p0.Fields) c1) p0.Fields) (hm : law08_KindNone p0 p1 = some r) :
    Calls Try.prog 7 #[.agg #[.int .i64 p0.Kind, .int .i64 p0.N, .int .i64 p0.Long, .string ⟨p0.Name.toArray⟩, .slice a1 (List.length p0.Fields) c1], .int .i64 p1] w0 (RetS T0 w0 fun T w v => v = .bool r ∧ Sep g T w [R] ∧ True) := by
  refine enter (args := [.agg #[.int .i64 p0.Kind, .int .i64 p0.N, .int .i64 p0.Long, .string ⟨p0.Name.toArray⟩, .slice a1 (List.length p0.Fields) c1], .int .i64 p1]) Try.func7 rfl Try.ntmps7 rfl fun J => ?_
  unfold law08_KindNone at hm
  refine sq2 ?_
  refine rg (wl rfl (bxS (cs := [.int .i64 p0.Kind, .int .i64 p0.N, .int .i64 p0.Long, .string ⟨p0.Name.toArray⟩, .slice a1 (List.length p0.Fields) c1]) rfl rfl hS fun w1 b1 im1 hS1 => ?_))
  refine pv (r_zb rfl) (nil (t_then ?_))
  refine sq2 ?_
  refine sq2 ?_
  refine rg (pv (r_ldS rfl Try.isAgg34 Try.sizeOf34 rfl (hS1.cells0 (i := 0) ⟨rfl, rfl⟩ (o := 0) rfl) (cs := [.int .i64 p0.Kind, .int .i64 p0.N, .int .i64 p0.Long, .string ⟨p0.Name.toArray⟩, .slice a1 (List.length p0.Fields) c1])) (wl rfl (bsS (r := rlaw08Act) (l := ([p0] : List law08Act)) (css := [[.int .i64 p0.Kind, .int .i64 p0.N, .int .i64 p0.Long, .string ⟨p0.Name.toArray⟩, .slice a1 (List.length p0.Fields) c1]]) hS1 Try.underlying22 Try.sizeOf34 Try.zeroValue34 rfl rfl (by kernel_rfl) rfl ⟨(rlaw08Act_mk (x := p0) (h1.mono im1) : rlaw08Act.rp _ _ _ _), trivial⟩ rfl rfl fun w2 a2 n1 c2 im2 hS2 => ?_)))
  obtain ⟨T1, im3, hS3, h2⟩ := hS2.seal 0 ⟨rfl, rfl⟩
  have hsh := h2.len
  subst hsh
  have hS3 : Sep g T1 w2 [empA, boxA b1 [.int .i64 p0.Kind, .int .i64 p0.N, .int .i64 p0.Long, .string ⟨p0.Name.toArray⟩, .slice a1 (List.length p0.Fields) c1], R] := hS3
  obtain ⟨y1, hx1, hm⟩ := bindS hm
  refine wl rfl (calS cf8 rfl (law08_Few_sim (p0 := ([p0] : List law08Act)) (hS3.bun [1, 2] [] rfl) h2 hx1) rfl fun v1 T2 w3 im4 rv1 => ?_)
  obtain ⟨rfl, hS4, _⟩ := rv1
  have hS4 : Sep g T2 w3 [boxA b1 [.int .i64 p0.Kind, .int .i64 p0.N, .int .i64 p0.Long, .string ⟨p0.Name.toArray⟩, .slice a1 (List.length p0.Fields) c1], R] := hS4.unb
  refine pv (r_nt rfl) (nil (t_thenR [(1, .int .i64 p1), (2, .pointer (some ⟨b1, 0, none⟩)), (18, .bool (!y1))] ⟨rfl, rfl, rfl, trivial⟩ fun J => ?_))
  refine cnd rfl (fun hb1 => ?_) (fun hb1 => ?_)
  · have hm := ctrue hb1 hm
    refine sq2 ?_
    obtain ⟨y2, hx2, hm⟩ := bindS hm
    refine rg (wl rfl (calS cf9 rfl (law08_awake_sim  (hS4.bun [1] [] rfl)  hx2) rfl fun v2 T3 w4 im5 rv2 => ?_))
    obtain ⟨rfl, hS5, _⟩ := rv2
    have hS5 : Sep g T3 w4 [R] := hS5.unb
    refine pv (r_zb rfl) (nil (t_then ?_))
    have hm := Option.some.inj hm
    subst hm
    exact rtn (r_then (ret1 rfl rfl ⟨_, rfl, _, (Im.trans im1 (Im.trans im2 (Im.trans im3 (Im.trans im4 im5)))), ⟨rfl, hS5.sel [0] rfl, trivial⟩⟩))
  · have hm := cfalse hb1 hm
    refine skp (t_then ?_)
    refine sq2 ?_
    refine rg (pv (r_zp rfl) (nil (t_then ?_)))
    refine sq2 ?_
    refine rt [1, 0, 2, 2, 0, 0, 0, 0, 2, 0, 0, 2] [0, 1, 2, 3, 4, 5, 6, 7, 8, 9, 10, 11] mix (by kernel_rfl) hS4.lt fun w5 i1 => ?_
    have im6 := i1.imm
    have hS6 := hS4.keep i1 (fun _ h => h)
    obtain ⟨y3, hx3, hm⟩ := bindS hm
    obtain ⟨y4, hx4, hm⟩ := bindS hm
    refine t1 rfl trivial (r_ldS rfl Try.isAgg34 Try.sizeOf34 rfl (hS6.cells0 (i := 0) ⟨rfl, rfl⟩ (o := 0) rfl) (cs := [.int .i64 p0.Kind, .int .i64 p0.N, .int .i64 p0.Long, .string ⟨p0.Name.toArray⟩, .slice a1 (List.length p0.Fields) c1])) rfl (t0 rfl trivial (fun _ => r_mp rfl) rfl (tw [2, 8] rfl (wt_of rfl rfl trivial) rfl (by kernel_rfl) (by kernel_rfl) ⟨br [3, 4, 5, 6, 7, 8, 9, 10, 11] [(0, .agg #[.int .i64 p0.Kind, .int .i64 p0.N, .int .i64 p0.Long, .string ⟨p0.Name.toArray⟩, .slice a1 (List.length p0.Fields) c1])] rfl (by kernel_rfl) (by kernel_rfl) trivial (by kernel_rfl) (calS cf12 rfl (ref08_Begin_sim  (hS6.bun [0, 1] [] rfl)  hx3) rfl fun v3 T4 w6 im7 rv3 => ?_), br [2, 3, 4, 5, 6, 7, 9, 10, 11] [(0, .agg #[.int .i64 p0.Kind, .int .i64 p0.N, .int .i64 p0.Long, .string ⟨p0.Name.toArray⟩, .slice a1 (List.length p0.Fields) c1])] rfl (by kernel_rfl) (by kernel_rfl) trivial (by kernel_rfl) (alS (zs := [.int .i64 0, .slice none 0 0, .int .i64 0]) Try.zeroValue30 rfl hS6 fun w6 b2 im7 hS7 => ?_), trivial⟩))
    · obtain ⟨a3, n2, c3, rfl, hS7, _⟩ := rv3
      have hS7 : Sep g T4 w6 [boxA b1 [.int .i64 p0.Kind, .int .i64 p0.N, .int .i64 p0.Long, .string ⟨p0.Name.toArray⟩, .slice a1 (List.length p0.Fields) c1], R, ownA rref08Type 51 (.slice a3 n2 c3) y3] := hS7.unb
      refine ⟨st1 rfl (r_ldS rfl Try.isAgg34 Try.sizeOf34 rfl (hS7.cells0 (i := 0) ⟨rfl, rfl⟩ (o := 0) rfl) (cs := [.int .i64 p0.Kind, .int .i64 p0.N, .int .i64 p0.Long, .string ⟨p0.Name.toArray⟩, .slice a1 (List.length p0.Fields) c1])) (st0), ?_⟩
      obtain ⟨T5, im8, hS8, h3⟩ := hS7.seal 2 ⟨rfl, rfl⟩
      have hsh := h3.len
      subst hsh
      have hS8 : Sep g T5 w6 [boxA b1 [.int .i64 p0.Kind, .int .i64 p0.N, .int .i64 p0.Long, .string ⟨p0.Name.toArray⟩, .slice a1 (List.length p0.Fields) c1], R, empA] := hS8
      refine tw [3, 8] rfl (wt_of rfl rfl trivial) rfl (by kernel_rfl) (by kernel_rfl) ⟨br [4, 5, 6, 7, 8, 9, 10, 11] [] rfl (by kernel_rfl) (by kernel_rfl) trivial (by kernel_rfl) (calS cf11 rfl (law08_Act_Done_2_sim (p0 := p0) (p1 := y3) (hS8.bun [0, 1] [] rfl) (h1.mono (Im.trans im1 (Im.trans im2 (Im.trans im3 (Im.trans im4 (Im.trans im6 (Im.trans im7 im8))))))) h3 hx4) rfl fun v4 T6 w7 im9 rv4 => ?_), br [3, 4, 5, 6, 7, 9, 10, 11] [(0, .agg #[.int .i64 p0.Kind, .int .i64 p0.N, .int .i64 p0.Long, .string ⟨p0.Name.toArray⟩, .slice a1 (List.length p0.Fields) c1])] rfl (by kernel_rfl) (by kernel_rfl) trivial (by kernel_rfl) (alS (zs := [.int .i64 0, .slice none 0 0, .int .i64 0]) Try.zeroValue30 rfl hS8 fun w22 b5 im24 hS24 => ?_), trivial⟩
      · obtain ⟨a4, c4, rfl, hS9, h4, _⟩ := rv4
        have hS9 : Sep g T6 w7 [boxA b1 [.int .i64 p0.Kind, .int .i64 p0.N, .int .i64 p0.Long, .string ⟨p0.Name.toArray⟩, .slice a1 (List.length p0.Fields) c1], R] := hS9.unb
        refine ⟨st0, ?_⟩
        refine t0 rfl trivial (fun _ => r_mv rfl) rfl (t0 rfl trivial (fun _ => r_ex (v := .int .i64 y4.1) rfl rfl) rfl (t0 rfl trivial (fun _ => r_ex (v := .int .i64 y4.2.1) rfl rfl) rfl (t0 rfl trivial (fun _ => r_ex (v := .agg #[.int .i64 y4.2.2.N, .slice a4 (List.length y4.2.2.T) c4, .int .i64 y4.2.2.E]) rfl rfl) rfl (tw [8] rfl (wt_of rfl rfl trivial) rfl (by kernel_rfl) (by kernel_rfl) ⟨br [9, 10, 11] [] rfl (by kernel_rfl) (by kernel_rfl) trivial (by kernel_rfl) (alS (zs := [.int .i64 0, .slice none 0 0, .int .i64 0]) Try.zeroValue30 rfl hS9 fun w8 b2 im10 hS10 => ?_), trivial⟩))))
        refine ⟨st0, ?_⟩
        refine t0 rfl trivial (fun _ => r_zi rfl) rfl (t0 rfl trivial (fun _ => r_zi rfl) rfl (tw [11] rfl (wt_of rfl rfl trivial) rfl (by kernel_rfl) (by kernel_rfl) ⟨br [] [] rfl (by kernel_rfl) (by kernel_rfl) trivial (by kernel_rfl) (st0B (q := 0) hS10 ⟨rfl, rfl⟩ rfl rfl rfl Try.sizeOf30 rfl rfl rfl fun w9 im11 hS11 => ?_), trivial⟩))
        have hS11 : Sep g T6 w9 [boxA b2 [.int .i64 y4.2.2.N, .slice a4 (List.length y4.2.2.T) c4, .int .i64 y4.2.2.E], boxA b1 [.int .i64 p0.Kind, .int .i64 p0.N, .int .i64 p0.Long, .string ⟨p0.Name.toArray⟩, .slice a1 (List.length p0.Fields) c1], R] := hS11
        refine ⟨st0, ?_⟩
        refine te (t_thenR [(1, .int .i64 p1), (2, .pointer (some ⟨b1, 0, none⟩)), (5, .pointer none), (6, .int .i64 y4.1), (7, .int .i64 y4.2.1)] ⟨rfl, rfl, rfl, rfl, rfl, trivial⟩ fun J => ?_)
        refine sq2 ?_
        obtain ⟨y5, hx5, hm⟩ := bindS hm
        refine rg (pv (r_mp rfl) (pv (r_mi rfl) (wl rfl (calS cf20 rfl (kind_Table_Type_2_sim (p0 := p1) (hS11.bun [1, 2] [] rfl)  hx5) rfl fun v5 T7 w10 im12 rv5 => ?_))))
        obtain ⟨a5, c5, rfl, hS12, h5, _⟩ := rv5
        have hS12 : Sep g T7 w10 [boxA b1 [.int .i64 p0.Kind, .int .i64 p0.N, .int .i64 p0.Long, .string ⟨p0.Name.toArray⟩, .slice a1 (List.length p0.Fields) c1], R] := hS12.unb
        refine pv (r_mv rfl) (pv (r_ex (v := .agg #[.int .i64 y5.1.Kind, .int .i64 y5.1.Elem, .int .i64 y5.1.Len, .string ⟨y5.1.Name.toArray⟩, .slice a5 (List.length y5.1.Fields) c5]) rfl rfl) (pv (r_ex (v := .int .i64 y5.2) rfl rfl) (wl rfl (alS (zs := [.int .i64 0, .int .i64 0, .int .i64 0, .string ⟨([] : List UInt8).toArray⟩, .slice none 0 0]) Try.zeroValue55 rfl hS12 fun w11 b3 im13 hS13 => ?_))))
        refine wl rfl (st0B (q := 0) hS13 ⟨rfl, rfl⟩ rfl rfl rfl Try.sizeOf55 rfl rfl rfl fun w12 im14 hS14 => ?_)
        have hS14 : Sep g T7 w12 [boxA b3 [.int .i64 y5.1.Kind, .int .i64 y5.1.Elem, .int .i64 y5.1.Len, .string ⟨y5.1.Name.toArray⟩, .slice a5 (List.length y5.1.Fields) c5], boxA b1 [.int .i64 p0.Kind, .int .i64 p0.N, .int .i64 p0.Long, .string ⟨p0.Name.toArray⟩, .slice a1 (List.length p0.Fields) c1], R] := hS14
        refine pv (r_zi rfl) (nil (t_thenR [(1, .int .i64 p1), (2, .pointer (some ⟨b1, 0, none⟩)), (5, .pointer none), (6, .int .i64 y4.1), (7, .int .i64 y4.2.1), (9, .pointer (some ⟨b3, 0, none⟩)), (10, .int .i64 y5.2)] ⟨rfl, rfl, rfl, rfl, rfl, rfl, rfl, trivial⟩ fun J => ?_))
        refine sq2 ?_
        obtain ⟨y6, hx6, hm⟩ := bindS hm
        refine rg (pv (r_mp rfl) (pv (r_fa rfl Try.underlying34 rfl Try.sizeOf9 rfl) (pv (r_ld rfl Try.isAgg9 (hS14.cell0 (i := 1) ⟨rfl, rfl⟩ (j := 3) rfl)) (wl rfl (calS cf16 rfl (kind_Table_Find_2_sim (p0 := p0.Name) (hS14.bun [0, 1, 2] [] rfl)  hx6) rfl fun v6 T8 w13 im15 rv6 => ?_)))))
        obtain ⟨rfl, hS15, _⟩ := rv6
        have hS15 : Sep g T8 w13 [boxA b3 [.int .i64 y5.1.Kind, .int .i64 y5.1.Elem, .int .i64 y5.1.Len, .string ⟨y5.1.Name.toArray⟩, .slice a5 (List.length y5.1.Fields) c5], boxA b1 [.int .i64 p0.Kind, .int .i64 p0.N, .int .i64 p0.Long, .string ⟨p0.Name.toArray⟩, .slice a1 (List.length p0.Fields) c1], R] := hS15.unb
        refine pv (r_mv rfl) (pv (r_ex (v := .int .i64 y6.1) rfl rfl) (pv (r_ex (v := .int .i64 y6.2) rfl rfl) (pv (r_zi rfl) (pv (r_zi rfl) (nil (t_thenR [(1, .int .i64 p1), (2, .pointer (some ⟨b1, 0, none⟩)), (5, .pointer none), (6, .int .i64 y4.1), (7, .int .i64 y4.2.1), (9, .pointer (some ⟨b3, 0, none⟩)), (10, .int .i64 y5.2), (11, .int .i64 y6.1), (12, .int .i64 y6.2)] ⟨rfl, rfl, rfl, rfl, rfl, rfl, rfl, rfl, rfl, trivial⟩ fun J => ?_))))))
        refine sq2 ?_
        obtain ⟨y7, hx7, hm⟩ := bindS hm
        refine rg (pv (r_mp rfl) (pv (r_mi rfl) (pv (r_fa rfl Try.underlying34 rfl Try.sizeOf9 rfl) (pv (r_ld rfl Try.isAgg9 (hS15.cell0 (i := 1) ⟨rfl, rfl⟩ (j := 3) rfl)) (wl rfl (calS cf18 rfl (kind_Table_Field_2_sim (p0 := p1) (p1 := p0.Name) (hS15.bun [0, 2] [] rfl)  hx7) rfl fun v7 T9 w14 im16 rv7 => ?_))))))
        obtain ⟨rfl, hS16, _⟩ := rv7
        have hS16 : Sep g T9 w14 [boxA b3 [.int .i64 y5.1.Kind, .int .i64 y5.1.Elem, .int .i64 y5.1.Len, .string ⟨y5.1.Name.toArray⟩, .slice a5 (List.length y5.1.Fields) c5], R] := hS16.unb
        refine pv (r_mv rfl) (pv (r_ex (v := .agg #[.string ⟨y7.1.Name.toArray⟩, .int .i64 y7.1.Type_, .int .i64 y7.1.At]) rfl rfl) (pv (r_ex (v := .int .i64 y7.2) rfl rfl) (wl rfl (alS (zs := [.string ⟨([] : List UInt8).toArray⟩, .int .i64 0, .int .i64 0]) Try.zeroValue45 rfl hS16 fun w15 b4 im17 hS17 => ?_))))
        refine wl rfl (st0B (q := 0) hS17 ⟨rfl, rfl⟩ rfl rfl rfl Try.sizeOf45 rfl rfl rfl fun w16 im18 hS18 => ?_)
        have hS18 : Sep g T9 w16 [boxA b4 [.string ⟨y7.1.Name.toArray⟩, .int .i64 y7.1.Type_, .int .i64 y7.1.At], boxA b3 [.int .i64 y5.1.Kind, .int .i64 y5.1.Elem, .int .i64 y5.1.Len, .string ⟨y5.1.Name.toArray⟩, .slice a5 (List.length y5.1.Fields) c5], R] := hS18
        refine pv (r_zi rfl) (nil (t_thenR [(1, .int .i64 p1), (5, .pointer none), (6, .int .i64 y4.1), (7, .int .i64 y4.2.1), (9, .pointer (some ⟨b3, 0, none⟩)), (10, .int .i64 y5.2), (11, .int .i64 y6.1), (12, .int .i64 y6.2), (13, .pointer (some ⟨b4, 0, none⟩)), (14, .int .i64 y7.2)] ⟨rfl, rfl, rfl, rfl, rfl, rfl, rfl, rfl, rfl, rfl, trivial⟩ fun J => ?_))
        refine sq2 ?_
        obtain ⟨y8, hx8, hm⟩ := bindS hm
        refine rg (wl rfl (calS cf9 rfl (law08_awake_sim  (hS18.bun [0, 1, 2] [] rfl)  hx8) rfl fun v8 T10 w17 im19 rv8 => ?_))
        obtain ⟨rfl, hS19, _⟩ := rv8
        have hS19 : Sep g T10 w17 [boxA b4 [.string ⟨y7.1.Name.toArray⟩, .int .i64 y7.1.Type_, .int .i64 y7.1.At], boxA b3 [.int .i64 y5.1.Kind, .int .i64 y5.1.Elem, .int .i64 y5.1.Len, .string ⟨y5.1.Name.toArray⟩, .slice a5 (List.length y5.1.Fields) c5], R] := hS19.unb
        refine pv (r_mb rfl) (?_)
        rcases Bool.eq_false_or_eq_true y8 with hb2 | hb2
        · have hm := ctrue hb2 hm
          refine gT (d0 := 50) rfl rfl hb2 (pv (r_mi rfl) (gT (d0 := 50) rfl rfl hb2 (pv (r_ib rfl rfl rfl) (pv (r_pkt rfl hb2 rfl) (pv (r_mb rfl) (?_))))))
          rcases Bool.eq_false_or_eq_true (y4.1 == 0) with hb3 | hb3
          · have hm := ctrue hb3 hm
            refine gT (d0 := 54) rfl rfl hb3 (pv (r_mi rfl) (gT (d0 := 54) rfl rfl hb3 (pv (r_ib rfl rfl rfl) (pv (r_pkt rfl hb3 rfl) (pv (r_mb rfl) (?_))))))
            rcases Bool.eq_false_or_eq_true (y4.2.1 == 1) with hb4 | hb4
            · have hm := ctrue hb4 hm
              refine gT (d0 := 58) rfl rfl hb4 (pv (r_fa rfl Try.underlying55 rfl Try.sizeOf3 rfl) (gT (d0 := 58) rfl rfl hb4 (pv (r_ld rfl Try.isAgg3 (hS19.cell0 (i := 1) ⟨rfl, rfl⟩ (j := 0) rfl)) (gT (d0 := 58) rfl rfl hb4 (pv (r_ib rfl rfl rfl) (pv (r_pkt rfl hb4 rfl) (pv (r_mb rfl) (?_))))))))
              rcases Bool.eq_false_or_eq_true (y5.1.Kind == 0) with hb5 | hb5
              · have hm := ctrue hb5 hm
                refine gT (d0 := 63) rfl rfl hb5 (pv (r_mi rfl) (gT (d0 := 63) rfl rfl hb5 (pv (r_ib rfl rfl rfl) (pv (r_pkt rfl hb5 rfl) (pv (r_mb rfl) (?_))))))
                rcases Bool.eq_false_or_eq_true (y5.2 == 1) with hb6 | hb6
                · have hm := ctrue hb6 hm
                  refine gT (d0 := 67) rfl rfl hb6 (pv (r_mi rfl) (gT (d0 := 67) rfl rfl hb6 (pv (r_ib rfl rfl rfl) (pv (r_pkt rfl hb6 rfl) (pv (r_mb rfl) (?_))))))
                  rcases Bool.eq_false_or_eq_true (y6.1 == 0) with hb7 | hb7
                  · have hm := ctrue hb7 hm
                    refine gT (d0 := 71) rfl rfl hb7 (pv (r_mi rfl) (gT (d0 := 71) rfl rfl hb7 (pv (r_ib rfl rfl rfl) (pv (r_pkt rfl hb7 rfl) (pv (r_mb rfl) (?_))))))
                    rcases Bool.eq_false_or_eq_true (y6.2 == 1) with hb8 | hb8
                    · have hm := ctrue hb8 hm
                      refine gT (d0 := 75) rfl rfl hb8 (pv (r_ldS rfl Try.isAgg45 Try.sizeOf45 rfl (hS19.cells0 (i := 0) ⟨rfl, rfl⟩ (o := 0) rfl) (cs := [.string ⟨y7.1.Name.toArray⟩, .int .i64 y7.1.Type_, .int .i64 y7.1.At])) (gT (d0 := 75) rfl rfl hb8 (pv (r_bd (by kernel_rfl) rfl (u := .agg #[.string ⟨([] : List UInt8).toArray⟩, .int .i64 0, .int .i64 0])) (gT (d0 := 75) rfl rfl hb8 (pv (r_seqe rfl rfl (eq_45 y7.1.Name y7.1.Type_ y7.1.At ([] : List UInt8) 0 0)) (pv (r_pkt rfl hb8 rfl) (pv (r_mb rfl) (?_))))))))
                      rcases Bool.eq_false_or_eq_true ((decide (y7.1.Name = ([] : List UInt8))) && (y7.1.Type_ == 0) && (y7.1.At == 0)) with hb9 | hb9
                      · have hm := ctrue hb9 hm
                        refine gT (d0 := 80) rfl rfl hb9 (pv (r_mi rfl) (gT (d0 := 80) rfl rfl hb9 (pv (r_ib rfl rfl rfl) (pv (r_pkt rfl hb9 rfl) (pv (r_mb rfl) (?_))))))
                        rcases Bool.eq_false_or_eq_true (y7.2 == 1) with hb10 | hb10
                        · have hm := ctrue hb10 hm
                          obtain ⟨y9, hx9, hm⟩ := bindS hm
                          refine gT (d0 := 84) rfl rfl hb10 (pv (r_mp rfl) (gT (d0 := 84) rfl rfl hb10 (wl rfl (calS cf15 rfl (kind_Table_Count_2_sim  (hS19.bun [2] [] rfl)  hx9) rfl fun v9 T11 w18 im20 rv9 => ?_))))
                          obtain ⟨rfl, hS20, _⟩ := rv9
                          have hS20 : Sep g T11 w18 [R] := hS20.unb
                          obtain ⟨y10, hx10, hm⟩ := bindS hm
                          refine gT (d0 := 84) rfl rfl hb10 (pv (r_mp rfl) (gT (d0 := 84) rfl rfl hb10 (pv (r_mi rfl) (gT (d0 := 84) rfl rfl hb10 (wl rfl (calS cf21 rfl (kind_Table_Size_2_sim (p0 := p1) (hS20.bun [0] [] rfl)  hx10) rfl fun v10 T12 w19 im21 rv10 => ?_))))))
                          obtain ⟨rfl, hS21, _⟩ := rv10
                          have hS21 : Sep g T12 w19 [R] := hS21.unb
                          obtain ⟨y11, hx11, hm⟩ := bindS hm
                          refine gT (d0 := 84) rfl rfl hb10 (pv (r_ib rfl rfl rfl) (gT (d0 := 84) rfl rfl hb10 (pv (r_mp rfl) (gT (d0 := 84) rfl rfl hb10 (pv (r_mi rfl) (gT (d0 := 84) rfl rfl hb10 (wl rfl (calS cf22 rfl (kind_Table_Align_2_sim (p0 := p1) (hS21.bun [0] [] rfl)  hx11) rfl fun v11 T13 w20 im22 rv11 => ?_))))))))
                          obtain ⟨rfl, hS22, _⟩ := rv11
                          have hS22 : Sep g T13 w20 [R] := hS22.unb
                          refine gT (d0 := 84) rfl rfl hb10 (pv (r_ib rfl rfl rfl) (gT (d0 := 84) rfl rfl hb10 (pv (r_ib rfl rfl rfl) (pv (r_pkt rfl hb10 rfl) (pv (r_mb rfl) (?_))))))
                          rcases Bool.eq_false_or_eq_true ((IntKind.wrap .i64 ((IntKind.wrap .i64 (y9 + y10)) + y11)) == 0) with hb11 | hb11
                          · have hm := ctrue hb11 hm
                            obtain ⟨y12, hx12, hm⟩ := bindS hm
                            refine gT (d0 := 97) rfl rfl hb11 (pv (r_mp rfl) (gT (d0 := 97) rfl rfl hb11 (pv (r_mi rfl) (gT (d0 := 97) rfl rfl hb11 (wl rfl (calS cf26 rfl (kind_Table_Scalar_2_sim (p0 := p1) (hS22.bun [0] [] rfl)  hx12) rfl fun v12 T14 w21 im23 rv12 => ?_))))))
                            obtain ⟨rfl, hS23, _⟩ := rv12
                            have hS23 : Sep g T14 w21 [R] := hS23.unb
                            refine gT (d0 := 97) rfl rfl hb11 (pv (r_nt rfl) (pv (r_pkt rfl hb11 rfl) (pv (r_zb rfl) (nil (t_thenR [(4, .bool (!y12))] ⟨rfl, trivial⟩ fun J => ?_)))))
                            have hm := Option.some.inj hm
                            subst hm
                            exact rtn (ret1 rfl rfl ⟨_, rfl, _, (Im.trans im1 (Im.trans im2 (Im.trans im3 (Im.trans im4 (Im.trans im6 (Im.trans im7 (Im.trans im8 (Im.trans im9 (Im.trans im10 (Im.trans im11 (Im.trans im12 (Im.trans im13 (Im.trans im14 (Im.trans im15 (Im.trans im16 (Im.trans im17 (Im.trans im18 (Im.trans im19 (Im.trans im20 (Im.trans im21 (Im.trans im22 im23))))))))))))))))))))), ⟨rfl, hS23.sel [0] rfl, trivial⟩⟩)
                          · have hm := cfalse hb11 hm
                            refine gF (d0 := 97) rfl rfl (by rw [hb11]; rfl) (gF (d0 := 97) rfl rfl (by rw [hb11]; rfl) (gF (d0 := 97) rfl rfl (by rw [hb11]; rfl) (gF (d0 := 97) rfl rfl (by rw [hb11]; rfl) (pv (r_pkf rfl hb11 rfl) (pv (r_zb rfl) (nil (t_thenR [(4, .bool false)] ⟨rfl, trivial⟩ fun J => ?_)))))))
                            have hm := Option.some.inj hm
                            subst hm
                            exact rtn (ret1 rfl rfl ⟨_, rfl, _, (Im.trans im1 (Im.trans im2 (Im.trans im3 (Im.trans im4 (Im.trans im6 (Im.trans im7 (Im.trans im8 (Im.trans im9 (Im.trans im10 (Im.trans im11 (Im.trans im12 (Im.trans im13 (Im.trans im14 (Im.trans im15 (Im.trans im16 (Im.trans im17 (Im.trans im18 (Im.trans im19 (Im.trans im20 (Im.trans im21 im22)))))))))))))))))))), ⟨rfl, hS22.sel [0] rfl, trivial⟩⟩)
                        · have hm := cfalse hb10 hm
                          refine gF (d0 := 84) rfl rfl (by rw [hb10]; rfl) (gF (d0 := 84) rfl rfl (by rw [hb10]; rfl) (gF (d0 := 84) rfl rfl (by rw [hb10]; rfl) (gF (d0 := 84) rfl rfl (by rw [hb10]; rfl) (gF (d0 := 84) rfl rfl (by rw [hb10]; rfl) (gF (d0 := 84) rfl rfl (by rw [hb10]; rfl) (gF (d0 := 84) rfl rfl (by rw [hb10]; rfl) (gF (d0 := 84) rfl rfl (by rw [hb10]; rfl) (gF (d0 := 84) rfl rfl (by rw [hb10]; rfl) (gF (d0 := 84) rfl rfl (by rw [hb10]; rfl) (gF (d0 := 84) rfl rfl (by rw [hb10]; rfl) (pv (r_pkf rfl hb10 rfl) (pv (r_mb rfl) (gF (d0 := 97) rfl rfl rfl (gF (d0 := 97) rfl rfl rfl (gF (d0 := 97) rfl rfl rfl (gF (d0 := 97) rfl rfl rfl (pv (r_pkf rfl rfl rfl) (pv (r_zb rfl) (nil (t_thenR [(4, .bool false)] ⟨rfl, trivial⟩ fun J => ?_))))))))))))))))))))
                          have hm := Option.some.inj hm
                          subst hm
                          exact rtn (ret1 rfl rfl ⟨_, rfl, _, (Im.trans im1 (Im.trans im2 (Im.trans im3 (Im.trans im4 (Im.trans im6 (Im.trans im7 (Im.trans im8 (Im.trans im9 (Im.trans im10 (Im.trans im11 (Im.trans im12 (Im.trans im13 (Im.trans im14 (Im.trans im15 (Im.trans im16 (Im.trans im17 (Im.trans im18 im19))))))))))))))))), ⟨rfl, hS19.sel [2] rfl, trivial⟩⟩)
                      · have hm := cfalse hb9 hm
                        refine gF (d0 := 80) rfl rfl (by rw [hb9]; rfl) (gF (d0 := 80) rfl rfl (by rw [hb9]; rfl) (pv (r_pkf rfl hb9 rfl) (pv (r_mb rfl) (gF (d0 := 84) rfl rfl rfl (gF (d0 := 84) rfl rfl rfl (gF (d0 := 84) rfl rfl rfl (gF (d0 := 84) rfl rfl rfl (gF (d0 := 84) rfl rfl rfl (gF (d0 := 84) rfl rfl rfl (gF (d0 := 84) rfl rfl rfl (gF (d0 := 84) rfl rfl rfl (gF (d0 := 84) rfl rfl rfl (gF (d0 := 84) rfl rfl rfl (gF (d0 := 84) rfl rfl rfl (pv (r_pkf rfl rfl rfl) (pv (r_mb rfl) (gF (d0 := 97) rfl rfl rfl (gF (d0 := 97) rfl rfl rfl (gF (d0 := 97) rfl rfl rfl (gF (d0 := 97) rfl rfl rfl (pv (r_pkf rfl rfl rfl) (pv (r_zb rfl) (nil (t_thenR [(4, .bool false)] ⟨rfl, trivial⟩ fun J => ?_))))))))))))))))))))))))
                        have hm := Option.some.inj hm
                        subst hm
                        exact rtn (ret1 rfl rfl ⟨_, rfl, _, (Im.trans im1 (Im.trans im2 (Im.trans im3 (Im.trans im4 (Im.trans im6 (Im.trans im7 (Im.trans im8 (Im.trans im9 (Im.trans im10 (Im.trans im11 (Im.trans im12 (Im.trans im13 (Im.trans im14 (Im.trans im15 (Im.trans im16 (Im.trans im17 (Im.trans im18 im19))))))))))))))))), ⟨rfl, hS19.sel [2] rfl, trivial⟩⟩)
                    · have hm := cfalse hb8 hm
                      refine gF (d0 := 75) rfl rfl (by rw [hb8]; rfl) (gF (d0 := 75) rfl rfl (by rw [hb8]; rfl) (gF (d0 := 75) rfl rfl (by rw [hb8]; rfl) (pv (r_pkf rfl hb8 rfl) (pv (r_mb rfl) (gF (d0 := 80) rfl rfl rfl (gF (d0 := 80) rfl rfl rfl (pv (r_pkf rfl rfl rfl) (pv (r_mb rfl) (gF (d0 := 84) rfl rfl rfl (gF (d0 := 84) rfl rfl rfl (gF (d0 := 84) rfl rfl rfl (gF (d0 := 84) rfl rfl rfl (gF (d0 := 84) rfl rfl rfl (gF (d0 := 84) rfl rfl rfl (gF (d0 := 84) rfl rfl rfl (gF (d0 := 84) rfl rfl rfl (gF (d0 := 84) rfl rfl rfl (gF (d0 := 84) rfl rfl rfl (gF (d0 := 84) rfl rfl rfl (pv (r_pkf rfl rfl rfl) (pv (r_mb rfl) (gF (d0 := 97) rfl rfl rfl (gF (d0 := 97) rfl rfl rfl (gF (d0 := 97) rfl rfl rfl (gF (d0 := 97) rfl rfl rfl (pv (r_pkf rfl rfl rfl) (pv (r_zb rfl) (nil (t_thenR [(4, .bool false)] ⟨rfl, trivial⟩ fun J => ?_)))))))))))))))))))))))))))))
                      have hm := Option.some.inj hm
                      subst hm
                      exact rtn (ret1 rfl rfl ⟨_, rfl, _, (Im.trans im1 (Im.trans im2 (Im.trans im3 (Im.trans im4 (Im.trans im6 (Im.trans im7 (Im.trans im8 (Im.trans im9 (Im.trans im10 (Im.trans im11 (Im.trans im12 (Im.trans im13 (Im.trans im14 (Im.trans im15 (Im.trans im16 (Im.trans im17 (Im.trans im18 im19))))))))))))))))), ⟨rfl, hS19.sel [2] rfl, trivial⟩⟩)
                  · have hm := cfalse hb7 hm
                    refine gF (d0 := 71) rfl rfl (by rw [hb7]; rfl) (gF (d0 := 71) rfl rfl (by rw [hb7]; rfl) (pv (r_pkf rfl hb7 rfl) (pv (r_mb rfl) (gF (d0 := 75) rfl rfl rfl (gF (d0 := 75) rfl rfl rfl (gF (d0 := 75) rfl rfl rfl (pv (r_pkf rfl rfl rfl) (pv (r_mb rfl) (gF (d0 := 80) rfl rfl rfl (gF (d0 := 80) rfl rfl rfl (pv (r_pkf rfl rfl rfl) (pv (r_mb rfl) (gF (d0 := 84) rfl rfl rfl (gF (d0 := 84) rfl rfl rfl (gF (d0 := 84) rfl rfl rfl (gF (d0 := 84) rfl rfl rfl (gF (d0 := 84) rfl rfl rfl (gF (d0 := 84) rfl rfl rfl (gF (d0 := 84) rfl rfl rfl (gF (d0 := 84) rfl rfl rfl (gF (d0 := 84) rfl rfl rfl (gF (d0 := 84) rfl rfl rfl (gF (d0 := 84) rfl rfl rfl (pv (r_pkf rfl rfl rfl) (pv (r_mb rfl) (gF (d0 := 97) rfl rfl rfl (gF (d0 := 97) rfl rfl rfl (gF (d0 := 97) rfl rfl rfl (gF (d0 := 97) rfl rfl rfl (pv (r_pkf rfl rfl rfl) (pv (r_zb rfl) (nil (t_thenR [(4, .bool false)] ⟨rfl, trivial⟩ fun J => ?_)))))))))))))))))))))))))))))))))
                    have hm := Option.some.inj hm
                    subst hm
                    exact rtn (ret1 rfl rfl ⟨_, rfl, _, (Im.trans im1 (Im.trans im2 (Im.trans im3 (Im.trans im4 (Im.trans im6 (Im.trans im7 (Im.trans im8 (Im.trans im9 (Im.trans im10 (Im.trans im11 (Im.trans im12 (Im.trans im13 (Im.trans im14 (Im.trans im15 (Im.trans im16 (Im.trans im17 (Im.trans im18 im19))))))))))))))))), ⟨rfl, hS19.sel [2] rfl, trivial⟩⟩)
                · have hm := cfalse hb6 hm
                  refine gF (d0 := 67) rfl rfl (by rw [hb6]; rfl) (gF (d0 := 67) rfl rfl (by rw [hb6]; rfl) (pv (r_pkf rfl hb6 rfl) (pv (r_mb rfl) (gF (d0 := 71) rfl rfl rfl (gF (d0 := 71) rfl rfl rfl (pv (r_pkf rfl rfl rfl) (pv (r_mb rfl) (gF (d0 := 75) rfl rfl rfl (gF (d0 := 75) rfl rfl rfl (gF (d0 := 75) rfl rfl rfl (pv (r_pkf rfl rfl rfl) (pv (r_mb rfl) (gF (d0 := 80) rfl rfl rfl (gF (d0 := 80) rfl rfl rfl (pv (r_pkf rfl rfl rfl) (pv (r_mb rfl) (gF (d0 := 84) rfl rfl rfl (gF (d0 := 84) rfl rfl rfl (gF (d0 := 84) rfl rfl rfl (gF (d0 := 84) rfl rfl rfl (gF (d0 := 84) rfl rfl rfl (gF (d0 := 84) rfl rfl rfl (gF (d0 := 84) rfl rfl rfl (gF (d0 := 84) rfl rfl rfl (gF (d0 := 84) rfl rfl rfl (gF (d0 := 84) rfl rfl rfl (gF (d0 := 84) rfl rfl rfl (pv (r_pkf rfl rfl rfl) (pv (r_mb rfl) (gF (d0 := 97) rfl rfl rfl (gF (d0 := 97) rfl rfl rfl (gF (d0 := 97) rfl rfl rfl (gF (d0 := 97) rfl rfl rfl (pv (r_pkf rfl rfl rfl) (pv (r_zb rfl) (nil (t_thenR [(4, .bool false)] ⟨rfl, trivial⟩ fun J => ?_)))))))))))))))))))))))))))))))))))))
                  have hm := Option.some.inj hm
                  subst hm
                  exact rtn (ret1 rfl rfl ⟨_, rfl, _, (Im.trans im1 (Im.trans im2 (Im.trans im3 (Im.trans im4 (Im.trans im6 (Im.trans im7 (Im.trans im8 (Im.trans im9 (Im.trans im10 (Im.trans im11 (Im.trans im12 (Im.trans im13 (Im.trans im14 (Im.trans im15 (Im.trans im16 (Im.trans im17 (Im.trans im18 im19))))))))))))))))), ⟨rfl, hS19.sel [2] rfl, trivial⟩⟩)
              · have hm := cfalse hb5 hm
                refine gF (d0 := 63) rfl rfl (by rw [hb5]; rfl) (gF (d0 := 63) rfl rfl (by rw [hb5]; rfl) (pv (r_pkf rfl hb5 rfl) (pv (r_mb rfl) (gF (d0 := 67) rfl rfl rfl (gF (d0 := 67) rfl rfl rfl (pv (r_pkf rfl rfl rfl) (pv (r_mb rfl) (gF (d0 := 71) rfl rfl rfl (gF (d0 := 71) rfl rfl rfl (pv (r_pkf rfl rfl rfl) (pv (r_mb rfl) (gF (d0 := 75) rfl rfl rfl (gF (d0 := 75) rfl rfl rfl (gF (d0 := 75) rfl rfl rfl (pv (r_pkf rfl rfl rfl) (pv (r_mb rfl) (gF (d0 := 80) rfl rfl rfl (gF (d0 := 80) rfl rfl rfl (pv (r_pkf rfl rfl rfl) (pv (r_mb rfl) (gF (d0 := 84) rfl rfl rfl (gF (d0 := 84) rfl rfl rfl (gF (d0 := 84) rfl rfl rfl (gF (d0 := 84) rfl rfl rfl (gF (d0 := 84) rfl rfl rfl (gF (d0 := 84) rfl rfl rfl (gF (d0 := 84) rfl rfl rfl (gF (d0 := 84) rfl rfl rfl (gF (d0 := 84) rfl rfl rfl (gF (d0 := 84) rfl rfl rfl (gF (d0 := 84) rfl rfl rfl (pv (r_pkf rfl rfl rfl) (pv (r_mb rfl) (gF (d0 := 97) rfl rfl rfl (gF (d0 := 97) rfl rfl rfl (gF (d0 := 97) rfl rfl rfl (gF (d0 := 97) rfl rfl rfl (pv (r_pkf rfl rfl rfl) (pv (r_zb rfl) (nil (t_thenR [(4, .bool false)] ⟨rfl, trivial⟩ fun J => ?_)))))))))))))))))))))))))))))))))))))))))
                have hm := Option.some.inj hm
                subst hm
                exact rtn (ret1 rfl rfl ⟨_, rfl, _, (Im.trans im1 (Im.trans im2 (Im.trans im3 (Im.trans im4 (Im.trans im6 (Im.trans im7 (Im.trans im8 (Im.trans im9 (Im.trans im10 (Im.trans im11 (Im.trans im12 (Im.trans im13 (Im.trans im14 (Im.trans im15 (Im.trans im16 (Im.trans im17 (Im.trans im18 im19))))))))))))))))), ⟨rfl, hS19.sel [2] rfl, trivial⟩⟩)
            · have hm := cfalse hb4 hm
              refine gF (d0 := 58) rfl rfl (by rw [hb4]; rfl) (gF (d0 := 58) rfl rfl (by rw [hb4]; rfl) (gF (d0 := 58) rfl rfl (by rw [hb4]; rfl) (pv (r_pkf rfl hb4 rfl) (pv (r_mb rfl) (gF (d0 := 63) rfl rfl rfl (gF (d0 := 63) rfl rfl rfl (pv (r_pkf rfl rfl rfl) (pv (r_mb rfl) (gF (d0 := 67) rfl rfl rfl (gF (d0 := 67) rfl rfl rfl (pv (r_pkf rfl rfl rfl) (pv (r_mb rfl) (gF (d0 := 71) rfl rfl rfl (gF (d0 := 71) rfl rfl rfl (pv (r_pkf rfl rfl rfl) (pv (r_mb rfl) (gF (d0 := 75) rfl rfl rfl (gF (d0 := 75) rfl rfl rfl (gF (d0 := 75) rfl rfl rfl (pv (r_pkf rfl rfl rfl) (pv (r_mb rfl) (gF (d0 := 80) rfl rfl rfl (gF (d0 := 80) rfl rfl rfl (pv (r_pkf rfl rfl rfl) (pv (r_mb rfl) (gF (d0 := 84) rfl rfl rfl (gF (d0 := 84) rfl rfl rfl (gF (d0 := 84) rfl rfl rfl (gF (d0 := 84) rfl rfl rfl (gF (d0 := 84) rfl rfl rfl (gF (d0 := 84) rfl rfl rfl (gF (d0 := 84) rfl rfl rfl (gF (d0 := 84) rfl rfl rfl (gF (d0 := 84) rfl rfl rfl (gF (d0 := 84) rfl rfl rfl (gF (d0 := 84) rfl rfl rfl (pv (r_pkf rfl rfl rfl) (pv (r_mb rfl) (gF (d0 := 97) rfl rfl rfl (gF (d0 := 97) rfl rfl rfl (gF (d0 := 97) rfl rfl rfl (gF (d0 := 97) rfl rfl rfl (pv (r_pkf rfl rfl rfl) (pv (r_zb rfl) (nil (t_thenR [(4, .bool false)] ⟨rfl, trivial⟩ fun J => ?_))))))))))))))))))))))))))))))))))))))))))))))
              have hm := Option.some.inj hm
              subst hm
              exact rtn (ret1 rfl rfl ⟨_, rfl, _, (Im.trans im1 (Im.trans im2 (Im.trans im3 (Im.trans im4 (Im.trans im6 (Im.trans im7 (Im.trans im8 (Im.trans im9 (Im.trans im10 (Im.trans im11 (Im.trans im12 (Im.trans im13 (Im.trans im14 (Im.trans im15 (Im.trans im16 (Im.trans im17 (Im.trans im18 im19))))))))))))))))), ⟨rfl, hS19.sel [2] rfl, trivial⟩⟩)
          · have hm := cfalse hb3 hm
            refine gF (d0 := 54) rfl rfl (by rw [hb3]; rfl) (gF (d0 := 54) rfl rfl (by rw [hb3]; rfl) (pv (r_pkf rfl hb3 rfl) (pv (r_mb rfl) (gF (d0 := 58) rfl rfl rfl (gF (d0 := 58) rfl rfl rfl (gF (d0 := 58) rfl rfl rfl (pv (r_pkf rfl rfl rfl) (pv (r_mb rfl) (gF (d0 := 63) rfl rfl rfl (gF (d0 := 63) rfl rfl rfl (pv (r_pkf rfl rfl rfl) (pv (r_mb rfl) (gF (d0 := 67) rfl rfl rfl (gF (d0 := 67) rfl rfl rfl (pv (r_pkf rfl rfl rfl) (pv (r_mb rfl) (gF (d0 := 71) rfl rfl rfl (gF (d0 := 71) rfl rfl rfl (pv (r_pkf rfl rfl rfl) (pv (r_mb rfl) (gF (d0 := 75) rfl rfl rfl (gF (d0 := 75) rfl rfl rfl (gF (d0 := 75) rfl rfl rfl (pv (r_pkf rfl rfl rfl) (pv (r_mb rfl) (gF (d0 := 80) rfl rfl rfl (gF (d0 := 80) rfl rfl rfl (pv (r_pkf rfl rfl rfl) (pv (r_mb rfl) (gF (d0 := 84) rfl rfl rfl (gF (d0 := 84) rfl rfl rfl (gF (d0 := 84) rfl rfl rfl (gF (d0 := 84) rfl rfl rfl (gF (d0 := 84) rfl rfl rfl (gF (d0 := 84) rfl rfl rfl (gF (d0 := 84) rfl rfl rfl (gF (d0 := 84) rfl rfl rfl (gF (d0 := 84) rfl rfl rfl (gF (d0 := 84) rfl rfl rfl (gF (d0 := 84) rfl rfl rfl (pv (r_pkf rfl rfl rfl) (pv (r_mb rfl) (gF (d0 := 97) rfl rfl rfl (gF (d0 := 97) rfl rfl rfl (gF (d0 := 97) rfl rfl rfl (gF (d0 := 97) rfl rfl rfl (pv (r_pkf rfl rfl rfl) (pv (r_zb rfl) (nil (t_thenR [(4, .bool false)] ⟨rfl, trivial⟩ fun J => ?_))))))))))))))))))))))))))))))))))))))))))))))))))
            have hm := Option.some.inj hm
            subst hm
            exact rtn (ret1 rfl rfl ⟨_, rfl, _, (Im.trans im1 (Im.trans im2 (Im.trans im3 (Im.trans im4 (Im.trans im6 (Im.trans im7 (Im.trans im8 (Im.trans im9 (Im.trans im10 (Im.trans im11 (Im.trans im12 (Im.trans im13 (Im.trans im14 (Im.trans im15 (Im.trans im16 (Im.trans im17 (Im.trans im18 im19))))))))))))))))), ⟨rfl, hS19.sel [2] rfl, trivial⟩⟩)
        · have hm := cfalse hb2 hm
          refine gF (d0 := 50) rfl rfl (by rw [hb2]; rfl) (gF (d0 := 50) rfl rfl (by rw [hb2]; rfl) (pv (r_pkf rfl hb2 rfl) (pv (r_mb rfl) (gF (d0 := 54) rfl rfl rfl (gF (d0 := 54) rfl rfl rfl (pv (r_pkf rfl rfl rfl) (pv (r_mb rfl) (gF (d0 := 58) rfl rfl rfl (gF (d0 := 58) rfl rfl rfl (gF (d0 := 58) rfl rfl rfl (pv (r_pkf rfl rfl rfl) (pv (r_mb rfl) (gF (d0 := 63) rfl rfl rfl (gF (d0 := 63) rfl rfl rfl (pv (r_pkf rfl rfl rfl) (pv (r_mb rfl) (gF (d0 := 67) rfl rfl rfl (gF (d0 := 67) rfl rfl rfl (pv (r_pkf rfl rfl rfl) (pv (r_mb rfl) (gF (d0 := 71) rfl rfl rfl (gF (d0 := 71) rfl rfl rfl (pv (r_pkf rfl rfl rfl) (pv (r_mb rfl) (gF (d0 := 75) rfl rfl rfl (gF (d0 := 75) rfl rfl rfl (gF (d0 := 75) rfl rfl rfl (pv (r_pkf rfl rfl rfl) (pv (r_mb rfl) (gF (d0 := 80) rfl rfl rfl (gF (d0 := 80) rfl rfl rfl (pv (r_pkf rfl rfl rfl) (pv (r_mb rfl) (gF (d0 := 84) rfl rfl rfl (gF (d0 := 84) rfl rfl rfl (gF (d0 := 84) rfl rfl rfl (gF (d0 := 84) rfl rfl rfl (gF (d0 := 84) rfl rfl rfl (gF (d0 := 84) rfl rfl rfl (gF (d0 := 84) rfl rfl rfl (gF (d0 := 84) rfl rfl rfl (gF (d0 := 84) rfl rfl rfl (gF (d0 := 84) rfl rfl rfl (gF (d0 := 84) rfl rfl rfl (pv (r_pkf rfl rfl rfl) (pv (r_mb rfl) (gF (d0 := 97) rfl rfl rfl (gF (d0 := 97) rfl rfl rfl (gF (d0 := 97) rfl rfl rfl (gF (d0 := 97) rfl rfl rfl (pv (r_pkf rfl rfl rfl) (pv (r_zb rfl) (nil (t_thenR [(4, .bool false)] ⟨rfl, trivial⟩ fun J => ?_))))))))))))))))))))))))))))))))))))))))))))))))))))))
          have hm := Option.some.inj hm
          subst hm
          exact rtn (ret1 rfl rfl ⟨_, rfl, _, (Im.trans im1 (Im.trans im2 (Im.trans im3 (Im.trans im4 (Im.trans im6 (Im.trans im7 (Im.trans im8 (Im.trans im9 (Im.trans im10 (Im.trans im11 (Im.trans im12 (Im.trans im13 (Im.trans im14 (Im.trans im15 (Im.trans im16 (Im.trans im17 (Im.trans im18 im19))))))))))))))))), ⟨rfl, hS19.sel [2] rfl, trivial⟩⟩)
      · refine ⟨st1 rfl (r_ldS rfl Try.isAgg34 Try.sizeOf34 rfl (hS24.cells0 (i := 1) ⟨rfl, rfl⟩ (o := 0) rfl) (cs := [.int .i64 p0.Kind, .int .i64 p0.N, .int .i64 p0.Long, .string ⟨p0.Name.toArray⟩, .slice a1 (List.length p0.Fields) c1])) (st0), ?_⟩
        refine tw [3] rfl (wt_of rfl rfl trivial) rfl (by kernel_rfl) (by kernel_rfl) ⟨br [4, 5, 6, 7, 9, 10, 11] [] rfl (by kernel_rfl) (by kernel_rfl) trivial (by kernel_rfl) (calS cf11 rfl (law08_Act_Done_2_sim (p0 := p0) (p1 := y3) (hS24.bun [0, 1, 2] [] rfl) (h1.mono (Im.trans im1 (Im.trans im2 (Im.trans im3 (Im.trans im4 (Im.trans im6 (Im.trans im7 (Im.trans im8 im24)))))))) (h3.mono im24) hx4) rfl fun v13 T15 w23 im25 rv13 => ?_), trivial⟩
        obtain ⟨a6, c6, rfl, hS25, h6, _⟩ := rv13
        have hS25 : Sep g T15 w23 [boxA b5 [.int .i64 0, .slice none 0 0, .int .i64 0], boxA b1 [.int .i64 p0.Kind, .int .i64 p0.N, .int .i64 p0.Long, .string ⟨p0.Name.toArray⟩, .slice a1 (List.length p0.Fields) c1], R] := hS25.unb
        refine ⟨st0, ?_⟩
        refine t0 rfl trivial (fun _ => r_mv rfl) rfl (t0 rfl trivial (fun _ => r_ex (v := .int .i64 y4.1) rfl rfl) rfl (t0 rfl trivial (fun _ => r_ex (v := .int .i64 y4.2.1) rfl rfl) rfl (t0 rfl trivial (fun _ => r_ex (v := .agg #[.int .i64 y4.2.2.N, .slice a6 (List.length y4.2.2.T) c6, .int .i64 y4.2.2.E]) rfl rfl) rfl (t0 rfl trivial (fun _ => r_zi rfl) rfl (t0 rfl trivial (fun _ => r_zi rfl) rfl (tw [11] rfl (wt_of rfl rfl trivial) rfl (by kernel_rfl) (by kernel_rfl) ⟨br [] [] rfl (by kernel_rfl) (by kernel_rfl) trivial (by kernel_rfl) (st0B (q := 0) hS25 ⟨rfl, rfl⟩ rfl rfl rfl Try.sizeOf30 rfl rfl rfl fun w24 im26 hS26 => ?_), trivial⟩))))))
        have hS26 : Sep g T15 w24 [boxA b5 [.int .i64 y4.2.2.N, .slice a6 (List.length y4.2.2.T) c6, .int .i64 y4.2.2.E], boxA b1 [.int .i64 p0.Kind, .int .i64 p0.N, .int .i64 p0.Long, .string ⟨p0.Name.toArray⟩, .slice a1 (List.length p0.Fields) c1], R] := hS26
        refine ⟨st0, ?_⟩
        refine te (t_thenR [(1, .int .i64 p1), (2, .pointer (some ⟨b1, 0, none⟩)), (5, .pointer none), (6, .int .i64 y4.1), (7, .int .i64 y4.2.1)] ⟨rfl, rfl, rfl, rfl, rfl, trivial⟩ fun J => ?_)
        refine sq2 ?_
        obtain ⟨y5, hx5, hm⟩ := bindS hm
        refine rg (pv (r_mp rfl) (pv (r_mi rfl) (wl rfl (calS cf20 rfl (kind_Table_Type_2_sim (p0 := p1) (hS26.bun [1, 2] [] rfl)  hx5) rfl fun v5 T7 w10 im12 rv5 => ?_))))
        obtain ⟨a5, c5, rfl, hS12, h5, _⟩ := rv5
        have hS12 : Sep g T7 w10 [boxA b1 [.int .i64 p0.Kind, .int .i64 p0.N, .int .i64 p0.Long, .string ⟨p0.Name.toArray⟩, .slice a1 (List.length p0.Fields) c1], R] := hS12.unb
        refine pv (r_mv rfl) (pv (r_ex (v := .agg #[.int .i64 y5.1.Kind, .int .i64 y5.1.Elem, .int .i64 y5.1.Len, .string ⟨y5.1.Name.toArray⟩, .slice a5 (List.length y5.1.Fields) c5]) rfl rfl) (pv (r_ex (v := .int .i64 y5.2) rfl rfl) (wl rfl (alS (zs := [.int .i64 0, .int .i64 0, .int .i64 0, .string ⟨([] : List UInt8).toArray⟩, .slice none 0 0]) Try.zeroValue55 rfl hS12 fun w11 b3 im13 hS13 => ?_))))
        refine wl rfl (st0B (q := 0) hS13 ⟨rfl, rfl⟩ rfl rfl rfl Try.sizeOf55 rfl rfl rfl fun w12 im14 hS14 => ?_)
        have hS14 : Sep g T7 w12 [boxA b3 [.int .i64 y5.1.Kind, .int .i64 y5.1.Elem, .int .i64 y5.1.Len, .string ⟨y5.1.Name.toArray⟩, .slice a5 (List.length y5.1.Fields) c5], boxA b1 [.int .i64 p0.Kind, .int .i64 p0.N, .int .i64 p0.Long, .string ⟨p0.Name.toArray⟩, .slice a1 (List.length p0.Fields) c1], R] := hS14
        refine pv (r_zi rfl) (nil (t_thenR [(1, .int .i64 p1), (2, .pointer (some ⟨b1, 0, none⟩)), (5, .pointer none), (6, .int .i64 y4.1), (7, .int .i64 y4.2.1), (9, .pointer (some ⟨b3, 0, none⟩)), (10, .int .i64 y5.2)] ⟨rfl, rfl, rfl, rfl, rfl, rfl, rfl, trivial⟩ fun J => ?_))
        refine sq2 ?_
        obtain ⟨y6, hx6, hm⟩ := bindS hm
        refine rg (pv (r_mp rfl) (pv (r_fa rfl Try.underlying34 rfl Try.sizeOf9 rfl) (pv (r_ld rfl Try.isAgg9 (hS14.cell0 (i := 1) ⟨rfl, rfl⟩ (j := 3) rfl)) (wl rfl (calS cf16 rfl (kind_Table_Find_2_sim (p0 := p0.Name) (hS14.bun [0, 1, 2] [] rfl)  hx6) rfl fun v6 T8 w13 im15 rv6 => ?_)))))
        obtain ⟨rfl, hS15, _⟩ := rv6
        have hS15 : Sep g T8 w13 [boxA b3 [.int .i64 y5.1.Kind, .int .i64 y5.1.Elem, .int .i64 y5.1.Len, .string ⟨y5.1.Name.toArray⟩, .slice a5 (List.length y5.1.Fields) c5], boxA b1 [.int .i64 p0.Kind, .int .i64 p0.N, .int .i64 p0.Long, .string ⟨p0.Name.toArray⟩, .slice a1 (List.length p0.Fields) c1], R] := hS15.unb
        refine pv (r_mv rfl) (pv (r_ex (v := .int .i64 y6.1) rfl rfl) (pv (r_ex (v := .int .i64 y6.2) rfl rfl) (pv (r_zi rfl) (pv (r_zi rfl) (nil (t_thenR [(1, .int .i64 p1), (2, .pointer (some ⟨b1, 0, none⟩)), (5, .pointer none), (6, .int .i64 y4.1), (7, .int .i64 y4.2.1), (9, .pointer (some ⟨b3, 0, none⟩)), (10, .int .i64 y5.2), (11, .int .i64 y6.1), (12, .int .i64 y6.2)] ⟨rfl, rfl, rfl, rfl, rfl, rfl, rfl, rfl, rfl, trivial⟩ fun J => ?_))))))
        refine sq2 ?_
        obtain ⟨y7, hx7, hm⟩ := bindS hm
        refine rg (pv (r_mp rfl) (pv (r_mi rfl) (pv (r_fa rfl Try.underlying34 rfl Try.sizeOf9 rfl) (pv (r_ld rfl Try.isAgg9 (hS15.cell0 (i := 1) ⟨rfl, rfl⟩ (j := 3) rfl)) (wl rfl (calS cf18 rfl (kind_Table_Field_2_sim (p0 := p1) (p1 := p0.Name) (hS15.bun [0, 2] [] rfl)  hx7) rfl fun v7 T9 w14 im16 rv7 => ?_))))))
        obtain ⟨rfl, hS16, _⟩ := rv7
        have hS16 : Sep g T9 w14 [boxA b3 [.int .i64 y5.1.Kind, .int .i64 y5.1.Elem, .int .i64 y5.1.Len, .string ⟨y5.1.Name.toArray⟩, .slice a5 (List.length y5.1.Fields) c5], R] := hS16.unb
        refine pv (r_mv rfl) (pv (r_ex (v := .agg #[.string ⟨y7.1.Name.toArray⟩, .int .i64 y7.1.Type_, .int .i64 y7.1.At]) rfl rfl) (pv (r_ex (v := .int .i64 y7.2) rfl rfl) (wl rfl (alS (zs := [.string ⟨([] : List UInt8).toArray⟩, .int .i64 0, .int .i64 0]) Try.zeroValue45 rfl hS16 fun w15 b4 im17 hS17 => ?_))))
        refine wl rfl (st0B (q := 0) hS17 ⟨rfl, rfl⟩ rfl rfl rfl Try.sizeOf45 rfl rfl rfl fun w16 im18 hS18 => ?_)
        have hS18 : Sep g T9 w16 [boxA b4 [.string ⟨y7.1.Name.toArray⟩, .int .i64 y7.1.Type_, .int .i64 y7.1.At], boxA b3 [.int .i64 y5.1.Kind, .int .i64 y5.1.Elem, .int .i64 y5.1.Len, .string ⟨y5.1.Name.toArray⟩, .slice a5 (List.length y5.1.Fields) c5], R] := hS18
        refine pv (r_zi rfl) (nil (t_thenR [(1, .int .i64 p1), (5, .pointer none), (6, .int .i64 y4.1), (7, .int .i64 y4.2.1), (9, .pointer (some ⟨b3, 0, none⟩)), (10, .int .i64 y5.2), (11, .int .i64 y6.1), (12, .int .i64 y6.2), (13, .pointer (some ⟨b4, 0, none⟩)), (14, .int .i64 y7.2)] ⟨rfl, rfl, rfl, rfl, rfl, rfl, rfl, rfl, rfl, rfl, trivial⟩ fun J => ?_))
        refine sq2 ?_
        obtain ⟨y8, hx8, hm⟩ := bindS hm
        refine rg (wl rfl (calS cf9 rfl (law08_awake_sim  (hS18.bun [0, 1, 2] [] rfl)  hx8) rfl fun v8 T10 w17 im19 rv8 => ?_))
        obtain ⟨rfl, hS19, _⟩ := rv8
        have hS19 : Sep g T10 w17 [boxA b4 [.string ⟨y7.1.Name.toArray⟩, .int .i64 y7.1.Type_, .int .i64 y7.1.At], boxA b3 [.int .i64 y5.1.Kind, .int .i64 y5.1.Elem, .int .i64 y5.1.Len, .string ⟨y5.1.Name.toArray⟩, .slice a5 (List.length y5.1.Fields) c5], R] := hS19.unb
        refine pv (r_mb rfl) (?_)
        rcases Bool.eq_false_or_eq_true y8 with hb2 | hb2
        · have hm := ctrue hb2 hm
          refine gT (d0 := 50) rfl rfl hb2 (pv (r_mi rfl) (gT (d0 := 50) rfl rfl hb2 (pv (r_ib rfl rfl rfl) (pv (r_pkt rfl hb2 rfl) (pv (r_mb rfl) (?_))))))
          rcases Bool.eq_false_or_eq_true (y4.1 == 0) with hb3 | hb3
          · have hm := ctrue hb3 hm
            refine gT (d0 := 54) rfl rfl hb3 (pv (r_mi rfl) (gT (d0 := 54) rfl rfl hb3 (pv (r_ib rfl rfl rfl) (pv (r_pkt rfl hb3 rfl) (pv (r_mb rfl) (?_))))))
            rcases Bool.eq_false_or_eq_true (y4.2.1 == 1) with hb4 | hb4
            · have hm := ctrue hb4 hm
              refine gT (d0 := 58) rfl rfl hb4 (pv (r_fa rfl Try.underlying55 rfl Try.sizeOf3 rfl) (gT (d0 := 58) rfl rfl hb4 (pv (r_ld rfl Try.isAgg3 (hS19.cell0 (i := 1) ⟨rfl, rfl⟩ (j := 0) rfl)) (gT (d0 := 58) rfl rfl hb4 (pv (r_ib rfl rfl rfl) (pv (r_pkt rfl hb4 rfl) (pv (r_mb rfl) (?_))))))))
              rcases Bool.eq_false_or_eq_true (y5.1.Kind == 0) with hb5 | hb5
              · have hm := ctrue hb5 hm
                refine gT (d0 := 63) rfl rfl hb5 (pv (r_mi rfl) (gT (d0 := 63) rfl rfl hb5 (pv (r_ib rfl rfl rfl) (pv (r_pkt rfl hb5 rfl) (pv (r_mb rfl) (?_))))))
                rcases Bool.eq_false_or_eq_true (y5.2 == 1) with hb6 | hb6
                · have hm := ctrue hb6 hm
                  refine gT (d0 := 67) rfl rfl hb6 (pv (r_mi rfl) (gT (d0 := 67) rfl rfl hb6 (pv (r_ib rfl rfl rfl) (pv (r_pkt rfl hb6 rfl) (pv (r_mb rfl) (?_))))))
                  rcases Bool.eq_false_or_eq_true (y6.1 == 0) with hb7 | hb7
                  · have hm := ctrue hb7 hm
                    refine gT (d0 := 71) rfl rfl hb7 (pv (r_mi rfl) (gT (d0 := 71) rfl rfl hb7 (pv (r_ib rfl rfl rfl) (pv (r_pkt rfl hb7 rfl) (pv (r_mb rfl) (?_))))))
                    rcases Bool.eq_false_or_eq_true (y6.2 == 1) with hb8 | hb8
                    · have hm := ctrue hb8 hm
                      refine gT (d0 := 75) rfl rfl hb8 (pv (r_ldS rfl Try.isAgg45 Try.sizeOf45 rfl (hS19.cells0 (i := 0) ⟨rfl, rfl⟩ (o := 0) rfl) (cs := [.string ⟨y7.1.Name.toArray⟩, .int .i64 y7.1.Type_, .int .i64 y7.1.At])) (gT (d0 := 75) rfl rfl hb8 (pv (r_bd (by kernel_rfl) rfl (u := .agg #[.string ⟨([] : List UInt8).toArray⟩, .int .i64 0, .int .i64 0])) (gT (d0 := 75) rfl rfl hb8 (pv (r_seqe rfl rfl (eq_45 y7.1.Name y7.1.Type_ y7.1.At ([] : List UInt8) 0 0)) (pv (r_pkt rfl hb8 rfl) (pv (r_mb rfl) (?_))))))))
                      rcases Bool.eq_false_or_eq_true ((decide (y7.1.Name = ([] : List UInt8))) && (y7.1.Type_ == 0) && (y7.1.At == 0)) with hb9 | hb9
                      · have hm := ctrue hb9 hm
                        refine gT (d0 := 80) rfl rfl hb9 (pv (r_mi rfl) (gT (d0 := 80) rfl rfl hb9 (pv (r_ib rfl rfl rfl) (pv (r_pkt rfl hb9 rfl) (pv (r_mb rfl) (?_))))))
                        rcases Bool.eq_false_or_eq_true (y7.2 == 1) with hb10 | hb10
                        · have hm := ctrue hb10 hm
                          obtain ⟨y9, hx9, hm⟩ := bindS hm
                          refine gT (d0 := 84) rfl rfl hb10 (pv (r_mp rfl) (gT (d0 := 84) rfl rfl hb10 (wl rfl (calS cf15 rfl (kind_Table_Count_2_sim  (hS19.bun [2] [] rfl)  hx9) rfl fun v9 T11 w18 im20 rv9 => ?_))))
                          obtain ⟨rfl, hS20, _⟩ := rv9
                          have hS20 : Sep g T11 w18 [R] := hS20.unb
                          obtain ⟨y10, hx10, hm⟩ := bindS hm
                          refine gT (d0 := 84) rfl rfl hb10 (pv (r_mp rfl) (gT (d0 := 84) rfl rfl hb10 (pv (r_mi rfl) (gT (d0 := 84) rfl rfl hb10 (wl rfl (calS cf21 rfl (kind_Table_Size_2_sim (p0 := p1) (hS20.bun [0] [] rfl)  hx10) rfl fun v10 T12 w19 im21 rv10 => ?_))))))
                          obtain ⟨rfl, hS21, _⟩ := rv10
                          have hS21 : Sep g T12 w19 [R] := hS21.unb
                          obtain ⟨y11, hx11, hm⟩ := bindS hm
                          refine gT (d0 := 84) rfl rfl hb10 (pv (r_ib rfl rfl rfl) (gT (d0 := 84) rfl rfl hb10 (pv (r_mp rfl) (gT (d0 := 84) rfl rfl hb10 (pv (r_mi rfl) (gT (d0 := 84) rfl rfl hb10 (wl rfl (calS cf22 rfl (kind_Table_Align_2_sim (p0 := p1) (hS21.bun [0] [] rfl)  hx11) rfl fun v11 T13 w20 im22 rv11 => ?_))))))))
                          obtain ⟨rfl, hS22, _⟩ := rv11
                          have hS22 : Sep g T13 w20 [R] := hS22.unb
                          refine gT (d0 := 84) rfl rfl hb10 (pv (r_ib rfl rfl rfl) (gT (d0 := 84) rfl rfl hb10 (pv (r_ib rfl rfl rfl) (pv (r_pkt rfl hb10 rfl) (pv (r_mb rfl) (?_))))))
                          rcases Bool.eq_false_or_eq_true ((IntKind.wrap .i64 ((IntKind.wrap .i64 (y9 + y10)) + y11)) == 0) with hb11 | hb11
                          · have hm := ctrue hb11 hm
                            obtain ⟨y12, hx12, hm⟩ := bindS hm
                            refine gT (d0 := 97) rfl rfl hb11 (pv (r_mp rfl) (gT (d0 := 97) rfl rfl hb11 (pv (r_mi rfl) (gT (d0 := 97) rfl rfl hb11 (wl rfl (calS cf26 rfl (kind_Table_Scalar_2_sim (p0 := p1) (hS22.bun [0] [] rfl)  hx12) rfl fun v12 T14 w21 im23 rv12 => ?_))))))
                            obtain ⟨rfl, hS23, _⟩ := rv12
                            have hS23 : Sep g T14 w21 [R] := hS23.unb
                            refine gT (d0 := 97) rfl rfl hb11 (pv (r_nt rfl) (pv (r_pkt rfl hb11 rfl) (pv (r_zb rfl) (nil (t_thenR [(4, .bool (!y12))] ⟨rfl, trivial⟩ fun J => ?_)))))
                            have hm := Option.some.inj hm
                            subst hm
                            exact rtn (ret1 rfl rfl ⟨_, rfl, _, (Im.trans im1 (Im.trans im2 (Im.trans im3 (Im.trans im4 (Im.trans im6 (Im.trans im7 (Im.trans im8 (Im.trans im24 (Im.trans im25 (Im.trans im26 (Im.trans im12 (Im.trans im13 (Im.trans im14 (Im.trans im15 (Im.trans im16 (Im.trans im17 (Im.trans im18 (Im.trans im19 (Im.trans im20 (Im.trans im21 (Im.trans im22 im23))))))))))))))))))))), ⟨rfl, hS23.sel [0] rfl, trivial⟩⟩)
                          · have hm := cfalse hb11 hm
                            refine gF (d0 := 97) rfl rfl (by rw [hb11]; rfl) (gF (d0 := 97) rfl rfl (by rw [hb11]; rfl) (gF (d0 := 97) rfl rfl (by rw [hb11]; rfl) (gF (d0 := 97) rfl rfl (by rw [hb11]; rfl) (pv (r_pkf rfl hb11 rfl) (pv (r_zb rfl) (nil (t_thenR [(4, .bool false)] ⟨rfl, trivial⟩ fun J => ?_)))))))
                            have hm := Option.some.inj hm
                            subst hm
                            exact rtn (ret1 rfl rfl ⟨_, rfl, _, (Im.trans im1 (Im.trans im2 (Im.trans im3 (Im.trans im4 (Im.trans im6 (Im.trans im7 (Im.trans im8 (Im.trans im24 (Im.trans im25 (Im.trans im26 (Im.trans im12 (Im.trans im13 (Im.trans im14 (Im.trans im15 (Im.trans im16 (Im.trans im17 (Im.trans im18 (Im.trans im19 (Im.trans im20 (Im.trans im21 im22)))))))))))))))))))), ⟨rfl, hS22.sel [0] rfl, trivial⟩⟩)
                        · have hm := cfalse hb10 hm
                          refine gF (d0 := 84) rfl rfl (by rw [hb10]; rfl) (gF (d0 := 84) rfl rfl (by rw [hb10]; rfl) (gF (d0 := 84) rfl rfl (by rw [hb10]; rfl) (gF (d0 := 84) rfl rfl (by rw [hb10]; rfl) (gF (d0 := 84) rfl rfl (by rw [hb10]; rfl) (gF (d0 := 84) rfl rfl (by rw [hb10]; rfl) (gF (d0 := 84) rfl rfl (by rw [hb10]; rfl) (gF (d0 := 84) rfl rfl (by rw [hb10]; rfl) (gF (d0 := 84) rfl rfl (by rw [hb10]; rfl) (gF (d0 := 84) rfl rfl (by rw [hb10]; rfl) (gF (d0 := 84) rfl rfl (by rw [hb10]; rfl) (pv (r_pkf rfl hb10 rfl) (pv (r_mb rfl) (gF (d0 := 97) rfl rfl rfl (gF (d0 := 97) rfl rfl rfl (gF (d0 := 97) rfl rfl rfl (gF (d0 := 97) rfl rfl rfl (pv (r_pkf rfl rfl rfl) (pv (r_zb rfl) (nil (t_thenR [(4, .bool false)] ⟨rfl, trivial⟩ fun J => ?_))))))))))))))))))))
                          have hm := Option.some.inj hm
                          subst hm
                          exact rtn (ret1 rfl rfl ⟨_, rfl, _, (Im.trans im1 (Im.trans im2 (Im.trans im3 (Im.trans im4 (Im.trans im6 (Im.trans im7 (Im.trans im8 (Im.trans im24 (Im.trans im25 (Im.trans im26 (Im.trans im12 (Im.trans im13 (Im.trans im14 (Im.trans im15 (Im.trans im16 (Im.trans im17 (Im.trans im18 im19))))))))))))))))), ⟨rfl, hS19.sel [2] rfl, trivial⟩⟩)
                      · have hm := cfalse hb9 hm
                        refine gF (d0 := 80) rfl rfl (by rw [hb9]; rfl) (gF (d0 := 80) rfl rfl (by rw [hb9]; rfl) (pv (r_pkf rfl hb9 rfl) (pv (r_mb rfl) (gF (d0 := 84) rfl rfl rfl (gF (d0 := 84) rfl rfl rfl (gF (d0 := 84) rfl rfl rfl (gF (d0 := 84) rfl rfl rfl (gF (d0 := 84) rfl rfl rfl (gF (d0 := 84) rfl rfl rfl (gF (d0 := 84) rfl rfl rfl (gF (d0 := 84) rfl rfl rfl (gF (d0 := 84) rfl rfl rfl (gF (d0 := 84) rfl rfl rfl (gF (d0 := 84) rfl rfl rfl (pv (r_pkf rfl rfl rfl) (pv (r_mb rfl) (gF (d0 := 97) rfl rfl rfl (gF (d0 := 97) rfl rfl rfl (gF (d0 := 97) rfl rfl rfl (gF (d0 := 97) rfl rfl rfl (pv (r_pkf rfl rfl rfl) (pv (r_zb rfl) (nil (t_thenR [(4, .bool false)] ⟨rfl, trivial⟩ fun J => ?_))))))))))))))))))))))))
                        have hm := Option.some.inj hm
                        subst hm
                        exact rtn (ret1 rfl rfl ⟨_, rfl, _, (Im.trans im1 (Im.trans im2 (Im.trans im3 (Im.trans im4 (Im.trans im6 (Im.trans im7 (Im.trans im8 (Im.trans im24 (Im.trans im25 (Im.trans im26 (Im.trans im12 (Im.trans im13 (Im.trans im14 (Im.trans im15 (Im.trans im16 (Im.trans im17 (Im.trans im18 im19))))))))))))))))), ⟨rfl, hS19.sel [2] rfl, trivial⟩⟩)
                    · have hm := cfalse hb8 hm
                      refine gF (d0 := 75) rfl rfl (by rw [hb8]; rfl) (gF (d0 := 75) rfl rfl (by rw [hb8]; rfl) (gF (d0 := 75) rfl rfl (by rw [hb8]; rfl) (pv (r_pkf rfl hb8 rfl) (pv (r_mb rfl) (gF (d0 := 80) rfl rfl rfl (gF (d0 := 80) rfl rfl rfl (pv (r_pkf rfl rfl rfl) (pv (r_mb rfl) (gF (d0 := 84) rfl rfl rfl (gF (d0 := 84) rfl rfl rfl (gF (d0 := 84) rfl rfl rfl (gF (d0 := 84) rfl rfl rfl (gF (d0 := 84) rfl rfl rfl (gF (d0 := 84) rfl rfl rfl (gF (d0 := 84) rfl rfl rfl (gF (d0 := 84) rfl rfl rfl (gF (d0 := 84) rfl rfl rfl (gF (d0 := 84) rfl rfl rfl (gF (d0 := 84) rfl rfl rfl (pv (r_pkf rfl rfl rfl) (pv (r_mb rfl) (gF (d0 := 97) rfl rfl rfl (gF (d0 := 97) rfl rfl rfl (gF (d0 := 97) rfl rfl rfl (gF (d0 := 97) rfl rfl rfl (pv (r_pkf rfl rfl rfl) (pv (r_zb rfl) (nil (t_thenR [(4, .bool false)] ⟨rfl, trivial⟩ fun J => ?_)))))))))))))))))))))))))))))
                      have hm := Option.some.inj hm
                      subst hm
                      exact rtn (ret1 rfl rfl ⟨_, rfl, _, (Im.trans im1 (Im.trans im2 (Im.trans im3 (Im.trans im4 (Im.trans im6 (Im.trans im7 (Im.trans im8 (Im.trans im24 (Im.trans im25 (Im.trans im26 (Im.trans im12 (Im.trans im13 (Im.trans im14 (Im.trans im15 (Im.trans im16 (Im.trans im17 (Im.trans im18 im19))))))))))))))))), ⟨rfl, hS19.sel [2] rfl, trivial⟩⟩)
                  · have hm := cfalse hb7 hm
                    refine gF (d0 := 71) rfl rfl (by rw [hb7]; rfl) (gF (d0 := 71) rfl rfl (by rw [hb7]; rfl) (pv (r_pkf rfl hb7 rfl) (pv (r_mb rfl) (gF (d0 := 75) rfl rfl rfl (gF (d0 := 75) rfl rfl rfl (gF (d0 := 75) rfl rfl rfl (pv (r_pkf rfl rfl rfl) (pv (r_mb rfl) (gF (d0 := 80) rfl rfl rfl (gF (d0 := 80) rfl rfl rfl (pv (r_pkf rfl rfl rfl) (pv (r_mb rfl) (gF (d0 := 84) rfl rfl rfl (gF (d0 := 84) rfl rfl rfl (gF (d0 := 84) rfl rfl rfl (gF (d0 := 84) rfl rfl rfl (gF (d0 := 84) rfl rfl rfl (gF (d0 := 84) rfl rfl rfl (gF (d0 := 84) rfl rfl rfl (gF (d0 := 84) rfl rfl rfl (gF (d0 := 84) rfl rfl rfl (gF (d0 := 84) rfl rfl rfl (gF (d0 := 84) rfl rfl rfl (pv (r_pkf rfl rfl rfl) (pv (r_mb rfl) (gF (d0 := 97) rfl rfl rfl (gF (d0 := 97) rfl rfl rfl (gF (d0 := 97) rfl rfl rfl (gF (d0 := 97) rfl rfl rfl (pv (r_pkf rfl rfl rfl) (pv (r_zb rfl) (nil (t_thenR [(4, .bool false)] ⟨rfl, trivial⟩ fun J => ?_)))))))))))))))))))))))))))))))))
                    have hm := Option.some.inj hm
                    subst hm
                    exact rtn (ret1 rfl rfl ⟨_, rfl, _, (Im.trans im1 (Im.trans im2 (Im.trans im3 (Im.trans im4 (Im.trans im6 (Im.trans im7 (Im.trans im8 (Im.trans im24 (Im.trans im25 (Im.trans im26 (Im.trans im12 (Im.trans im13 (Im.trans im14 (Im.trans im15 (Im.trans im16 (Im.trans im17 (Im.trans im18 im19))))))))))))))))), ⟨rfl, hS19.sel [2] rfl, trivial⟩⟩)
                · have hm := cfalse hb6 hm
                  refine gF (d0 := 67) rfl rfl (by rw [hb6]; rfl) (gF (d0 := 67) rfl rfl (by rw [hb6]; rfl) (pv (r_pkf rfl hb6 rfl) (pv (r_mb rfl) (gF (d0 := 71) rfl rfl rfl (gF (d0 := 71) rfl rfl rfl (pv (r_pkf rfl rfl rfl) (pv (r_mb rfl) (gF (d0 := 75) rfl rfl rfl (gF (d0 := 75) rfl rfl rfl (gF (d0 := 75) rfl rfl rfl (pv (r_pkf rfl rfl rfl) (pv (r_mb rfl) (gF (d0 := 80) rfl rfl rfl (gF (d0 := 80) rfl rfl rfl (pv (r_pkf rfl rfl rfl) (pv (r_mb rfl) (gF (d0 := 84) rfl rfl rfl (gF (d0 := 84) rfl rfl rfl (gF (d0 := 84) rfl rfl rfl (gF (d0 := 84) rfl rfl rfl (gF (d0 := 84) rfl rfl rfl (gF (d0 := 84) rfl rfl rfl (gF (d0 := 84) rfl rfl rfl (gF (d0 := 84) rfl rfl rfl (gF (d0 := 84) rfl rfl rfl (gF (d0 := 84) rfl rfl rfl (gF (d0 := 84) rfl rfl rfl (pv (r_pkf rfl rfl rfl) (pv (r_mb rfl) (gF (d0 := 97) rfl rfl rfl (gF (d0 := 97) rfl rfl rfl (gF (d0 := 97) rfl rfl rfl (gF (d0 := 97) rfl rfl rfl (pv (r_pkf rfl rfl rfl) (pv (r_zb rfl) (nil (t_thenR [(4, .bool false)] ⟨rfl, trivial⟩ fun J => ?_)))))))))))))))))))))))))))))))))))))
                  have hm := Option.some.inj hm
                  subst hm
                  exact rtn (ret1 rfl rfl ⟨_, rfl, _, (Im.trans im1 (Im.trans im2 (Im.trans im3 (Im.trans im4 (Im.trans im6 (Im.trans im7 (Im.trans im8 (Im.trans im24 (Im.trans im25 (Im.trans im26 (Im.trans im12 (Im.trans im13 (Im.trans im14 (Im.trans im15 (Im.trans im16 (Im.trans im17 (Im.trans im18 im19))))))))))))))))), ⟨rfl, hS19.sel [2] rfl, trivial⟩⟩)
              · have hm := cfalse hb5 hm
                refine gF (d0 := 63) rfl rfl (by rw [hb5]; rfl) (gF (d0 := 63) rfl rfl (by rw [hb5]; rfl) (pv (r_pkf rfl hb5 rfl) (pv (r_mb rfl) (gF (d0 := 67) rfl rfl rfl (gF (d0 := 67) rfl rfl rfl (pv (r_pkf rfl rfl rfl) (pv (r_mb rfl) (gF (d0 := 71) rfl rfl rfl (gF (d0 := 71) rfl rfl rfl (pv (r_pkf rfl rfl rfl) (pv (r_mb rfl) (gF (d0 := 75) rfl rfl rfl (gF (d0 := 75) rfl rfl rfl (gF (d0 := 75) rfl rfl rfl (pv (r_pkf rfl rfl rfl) (pv (r_mb rfl) (gF (d0 := 80) rfl rfl rfl (gF (d0 := 80) rfl rfl rfl (pv (r_pkf rfl rfl rfl) (pv (r_mb rfl) (gF (d0 := 84) rfl rfl rfl (gF (d0 := 84) rfl rfl rfl (gF (d0 := 84) rfl rfl rfl (gF (d0 := 84) rfl rfl rfl (gF (d0 := 84) rfl rfl rfl (gF (d0 := 84) rfl rfl rfl (gF (d0 := 84) rfl rfl rfl (gF (d0 := 84) rfl rfl rfl (gF (d0 := 84) rfl rfl rfl (gF (d0 := 84) rfl rfl rfl (gF (d0 := 84) rfl rfl rfl (pv (r_pkf rfl rfl rfl) (pv (r_mb rfl) (gF (d0 := 97) rfl rfl rfl (gF (d0 := 97) rfl rfl rfl (gF (d0 := 97) rfl rfl rfl (gF (d0 := 97) rfl rfl rfl (pv (r_pkf rfl rfl rfl) (pv (r_zb rfl) (nil (t_thenR [(4, .bool false)] ⟨rfl, trivial⟩ fun J => ?_)))))))))))))))))))))))))))))))))))))))))
                have hm := Option.some.inj hm
                subst hm
                exact rtn (ret1 rfl rfl ⟨_, rfl, _, (Im.trans im1 (Im.trans im2 (Im.trans im3 (Im.trans im4 (Im.trans im6 (Im.trans im7 (Im.trans im8 (Im.trans im24 (Im.trans im25 (Im.trans im26 (Im.trans im12 (Im.trans im13 (Im.trans im14 (Im.trans im15 (Im.trans im16 (Im.trans im17 (Im.trans im18 im19))))))))))))))))), ⟨rfl, hS19.sel [2] rfl, trivial⟩⟩)
            · have hm := cfalse hb4 hm
              refine gF (d0 := 58) rfl rfl (by rw [hb4]; rfl) (gF (d0 := 58) rfl rfl (by rw [hb4]; rfl) (gF (d0 := 58) rfl rfl (by rw [hb4]; rfl) (pv (r_pkf rfl hb4 rfl) (pv (r_mb rfl) (gF (d0 := 63) rfl rfl rfl (gF (d0 := 63) rfl rfl rfl (pv (r_pkf rfl rfl rfl) (pv (r_mb rfl) (gF (d0 := 67) rfl rfl rfl (gF (d0 := 67) rfl rfl rfl (pv (r_pkf rfl rfl rfl) (pv (r_mb rfl) (gF (d0 := 71) rfl rfl rfl (gF (d0 := 71) rfl rfl rfl (pv (r_pkf rfl rfl rfl) (pv (r_mb rfl) (gF (d0 := 75) rfl rfl rfl (gF (d0 := 75) rfl rfl rfl (gF (d0 := 75) rfl rfl rfl (pv (r_pkf rfl rfl rfl) (pv (r_mb rfl) (gF (d0 := 80) rfl rfl rfl (gF (d0 := 80) rfl rfl rfl (pv (r_pkf rfl rfl rfl) (pv (r_mb rfl) (gF (d0 := 84) rfl rfl rfl (gF (d0 := 84) rfl rfl rfl (gF (d0 := 84) rfl rfl rfl (gF (d0 := 84) rfl rfl rfl (gF (d0 := 84) rfl rfl rfl (gF (d0 := 84) rfl rfl rfl (gF (d0 := 84) rfl rfl rfl (gF (d0 := 84) rfl rfl rfl (gF (d0 := 84) rfl rfl rfl (gF (d0 := 84) rfl rfl rfl (gF (d0 := 84) rfl rfl rfl (pv (r_pkf rfl rfl rfl) (pv (r_mb rfl) (gF (d0 := 97) rfl rfl rfl (gF (d0 := 97) rfl rfl rfl (gF (d0 := 97) rfl rfl rfl (gF (d0 := 97) rfl rfl rfl (pv (r_pkf rfl rfl rfl) (pv (r_zb rfl) (nil (t_thenR [(4, .bool false)] ⟨rfl, trivial⟩ fun J => ?_))))))))))))))))))))))))))))))))))))))))))))))
              have hm := Option.some.inj hm
              subst hm
              exact rtn (ret1 rfl rfl ⟨_, rfl, _, (Im.trans im1 (Im.trans im2 (Im.trans im3 (Im.trans im4 (Im.trans im6 (Im.trans im7 (Im.trans im8 (Im.trans im24 (Im.trans im25 (Im.trans im26 (Im.trans im12 (Im.trans im13 (Im.trans im14 (Im.trans im15 (Im.trans im16 (Im.trans im17 (Im.trans im18 im19))))))))))))))))), ⟨rfl, hS19.sel [2] rfl, trivial⟩⟩)
          · have hm := cfalse hb3 hm
            refine gF (d0 := 54) rfl rfl (by rw [hb3]; rfl) (gF (d0 := 54) rfl rfl (by rw [hb3]; rfl) (pv (r_pkf rfl hb3 rfl) (pv (r_mb rfl) (gF (d0 := 58) rfl rfl rfl (gF (d0 := 58) rfl rfl rfl (gF (d0 := 58) rfl rfl rfl (pv (r_pkf rfl rfl rfl) (pv (r_mb rfl) (gF (d0 := 63) rfl rfl rfl (gF (d0 := 63) rfl rfl rfl (pv (r_pkf rfl rfl rfl) (pv (r_mb rfl) (gF (d0 := 67) rfl rfl rfl (gF (d0 := 67) rfl rfl rfl (pv (r_pkf rfl rfl rfl) (pv (r_mb rfl) (gF (d0 := 71) rfl rfl rfl (gF (d0 := 71) rfl rfl rfl (pv (r_pkf rfl rfl rfl) (pv (r_mb rfl) (gF (d0 := 75) rfl rfl rfl (gF (d0 := 75) rfl rfl rfl (gF (d0 := 75) rfl rfl rfl (pv (r_pkf rfl rfl rfl) (pv (r_mb rfl) (gF (d0 := 80) rfl rfl rfl (gF (d0 := 80) rfl rfl rfl (pv (r_pkf rfl rfl rfl) (pv (r_mb rfl) (gF (d0 := 84) rfl rfl rfl (gF (d0 := 84) rfl rfl rfl (gF (d0 := 84) rfl rfl rfl (gF (d0 := 84) rfl rfl rfl (gF (d0 := 84) rfl rfl rfl (gF (d0 := 84) rfl rfl rfl (gF (d0 := 84) rfl rfl rfl (gF (d0 := 84) rfl rfl rfl (gF (d0 := 84) rfl rfl rfl (gF (d0 := 84) rfl rfl rfl (gF (d0 := 84) rfl rfl rfl (pv (r_pkf rfl rfl rfl) (pv (r_mb rfl) (gF (d0 := 97) rfl rfl rfl (gF (d0 := 97) rfl rfl rfl (gF (d0 := 97) rfl rfl rfl (gF (d0 := 97) rfl rfl rfl (pv (r_pkf rfl rfl rfl) (pv (r_zb rfl) (nil (t_thenR [(4, .bool false)] ⟨rfl, trivial⟩ fun J => ?_))))))))))))))))))))))))))))))))))))))))))))))))))
            have hm := Option.some.inj hm
            subst hm
            exact rtn (ret1 rfl rfl ⟨_, rfl, _, (Im.trans im1 (Im.trans im2 (Im.trans im3 (Im.trans im4 (Im.trans im6 (Im.trans im7 (Im.trans im8 (Im.trans im24 (Im.trans im25 (Im.trans im26 (Im.trans im12 (Im.trans im13 (Im.trans im14 (Im.trans im15 (Im.trans im16 (Im.trans im17 (Im.trans im18 im19))))))))))))))))), ⟨rfl, hS19.sel [2] rfl, trivial⟩⟩)
        · have hm := cfalse hb2 hm
          refine gF (d0 := 50) rfl rfl (by rw [hb2]; rfl) (gF (d0 := 50) rfl rfl (by rw [hb2]; rfl) (pv (r_pkf rfl hb2 rfl) (pv (r_mb rfl) (gF (d0 := 54) rfl rfl rfl (gF (d0 := 54) rfl rfl rfl (pv (r_pkf rfl rfl rfl) (pv (r_mb rfl) (gF (d0 := 58) rfl rfl rfl (gF (d0 := 58) rfl rfl rfl (gF (d0 := 58) rfl rfl rfl (pv (r_pkf rfl rfl rfl) (pv (r_mb rfl) (gF (d0 := 63) rfl rfl rfl (gF (d0 := 63) rfl rfl rfl (pv (r_pkf rfl rfl rfl) (pv (r_mb rfl) (gF (d0 := 67) rfl rfl rfl (gF (d0 := 67) rfl rfl rfl (pv (r_pkf rfl rfl rfl) (pv (r_mb rfl) (gF (d0 := 71) rfl rfl rfl (gF (d0 := 71) rfl rfl rfl (pv (r_pkf rfl rfl rfl) (pv (r_mb rfl) (gF (d0 := 75) rfl rfl rfl (gF (d0 := 75) rfl rfl rfl (gF (d0 := 75) rfl rfl rfl (pv (r_pkf rfl rfl rfl) (pv (r_mb rfl) (gF (d0 := 80) rfl rfl rfl (gF (d0 := 80) rfl rfl rfl (pv (r_pkf rfl rfl rfl) (pv (r_mb rfl) (gF (d0 := 84) rfl rfl rfl (gF (d0 := 84) rfl rfl rfl (gF (d0 := 84) rfl rfl rfl (gF (d0 := 84) rfl rfl rfl (gF (d0 := 84) rfl rfl rfl (gF (d0 := 84) rfl rfl rfl (gF (d0 := 84) rfl rfl rfl (gF (d0 := 84) rfl rfl rfl (gF (d0 := 84) rfl rfl rfl (gF (d0 := 84) rfl rfl rfl (gF (d0 := 84) rfl rfl rfl (pv (r_pkf rfl rfl rfl) (pv (r_mb rfl) (gF (d0 := 97) rfl rfl rfl (gF (d0 := 97) rfl rfl rfl (gF (d0 := 97) rfl rfl rfl (gF (d0 := 97) rfl rfl rfl (pv (r_pkf rfl rfl rfl) (pv (r_zb rfl) (nil (t_thenR [(4, .bool false)] ⟨rfl, trivial⟩ fun J => ?_))))))))))))))))))))))))))))))))))))))))))))))))))))))
          have hm := Option.some.inj hm
          subst hm
          exact rtn (ret1 rfl rfl ⟨_, rfl, _, (Im.trans im1 (Im.trans im2 (Im.trans im3 (Im.trans im4 (Im.trans im6 (Im.trans im7 (Im.trans im8 (Im.trans im24 (Im.trans im25 (Im.trans im26 (Im.trans im12 (Im.trans im13 (Im.trans im14 (Im.trans im15 (Im.trans im16 (Im.trans im17 (Im.trans im18 im19))))))))))))))))), ⟨rfl, hS19.sel [2] rfl, trivial⟩⟩)
    · refine ⟨st1 rfl (r_ldS rfl Try.isAgg34 Try.sizeOf34 rfl (hS7.cells0 (i := 1) ⟨rfl, rfl⟩ (o := 0) rfl) (cs := [.int .i64 p0.Kind, .int .i64 p0.N, .int .i64 p0.Long, .string ⟨p0.Name.toArray⟩, .slice a1 (List.length p0.Fields) c1])) (st0), ?_⟩
      refine tw [2] rfl (wt_of rfl rfl trivial) rfl (by kernel_rfl) (by kernel_rfl) ⟨br [3, 4, 5, 6, 7, 9, 10, 11] [(0, .agg #[.int .i64 p0.Kind, .int .i64 p0.N, .int .i64 p0.Long, .string ⟨p0.Name.toArray⟩, .slice a1 (List.length p0.Fields) c1])] rfl (by kernel_rfl) (by kernel_rfl) trivial (by kernel_rfl) (calS cf12 rfl (ref08_Begin_sim  (hS7.bun [0, 1, 2] [] rfl)  hx3) rfl fun v3 T4 w7 im8 rv3 => ?_), trivial⟩
      obtain ⟨a3, n2, c3, rfl, hS8, _⟩ := rv3
      have hS8 : Sep g T4 w7 [boxA b2 [.int .i64 0, .slice none 0 0, .int .i64 0], boxA b1 [.int .i64 p0.Kind, .int .i64 p0.N, .int .i64 p0.Long, .string ⟨p0.Name.toArray⟩, .slice a1 (List.length p0.Fields) c1], R, ownA rref08Type 51 (.slice a3 n2 c3) y3] := hS8.unb
      refine ⟨st1 rfl (r_ldS rfl Try.isAgg34 Try.sizeOf34 rfl (hS8.cells0 (i := 1) ⟨rfl, rfl⟩ (o := 0) rfl) (cs := [.int .i64 p0.Kind, .int .i64 p0.N, .int .i64 p0.Long, .string ⟨p0.Name.toArray⟩, .slice a1 (List.length p0.Fields) c1])) (st0), ?_⟩
      obtain ⟨T5, im9, hS9, h3⟩ := hS8.seal 3 ⟨rfl, rfl⟩
      have hsh := h3.len
      subst hsh
      have hS9 : Sep g T5 w7 [boxA b2 [.int .i64 0, .slice none 0 0, .int .i64 0], boxA b1 [.int .i64 p0.Kind, .int .i64 p0.N, .int .i64 p0.Long, .string ⟨p0.Name.toArray⟩, .slice a1 (List.length p0.Fields) c1], R, empA] := hS9
      refine tw [3] rfl (wt_of rfl rfl trivial) rfl (by kernel_rfl) (by kernel_rfl) ⟨br [4, 5, 6, 7, 9, 10, 11] [] rfl (by kernel_rfl) (by kernel_rfl) trivial (by kernel_rfl) (calS cf11 rfl (law08_Act_Done_2_sim (p0 := p0) (p1 := y3) (hS9.bun [0, 1, 2] [] rfl) (h1.mono (Im.trans im1 (Im.trans im2 (Im.trans im3 (Im.trans im4 (Im.trans im6 (Im.trans im7 (Im.trans im8 im9)))))))) h3 hx4) rfl fun v4 T6 w8 im10 rv4 => ?_), trivial⟩
      obtain ⟨a4, c4, rfl, hS10, h4, _⟩ := rv4
      have hS10 : Sep g T6 w8 [boxA b2 [.int .i64 0, .slice none 0 0, .int .i64 0], boxA b1 [.int .i64 p0.Kind, .int .i64 p0.N, .int .i64 p0.Long, .string ⟨p0.Name.toArray⟩, .slice a1 (List.length p0.Fields) c1], R] := hS10.unb
      refine ⟨st0, ?_⟩
      refine t0 rfl trivial (fun _ => r_mv rfl) rfl (t0 rfl trivial (fun _ => r_ex (v := .int .i64 y4.1) rfl rfl) rfl (t0 rfl trivial (fun _ => r_ex (v := .int .i64 y4.2.1) rfl rfl) rfl (t0 rfl trivial (fun _ => r_ex (v := .agg #[.int .i64 y4.2.2.N, .slice a4 (List.length y4.2.2.T) c4, .int .i64 y4.2.2.E]) rfl rfl) rfl (t0 rfl trivial (fun _ => r_zi rfl) rfl (t0 rfl trivial (fun _ => r_zi rfl) rfl (tw [11] rfl (wt_of rfl rfl trivial) rfl (by kernel_rfl) (by kernel_rfl) ⟨br [] [] rfl (by kernel_rfl) (by kernel_rfl) trivial (by kernel_rfl) (st0B (q := 0) hS10 ⟨rfl, rfl⟩ rfl rfl rfl Try.sizeOf30 rfl rfl rfl fun w9 im11 hS11 => ?_), trivial⟩))))))
      have hS11 : Sep g T6 w9 [boxA b2 [.int .i64 y4.2.2.N, .slice a4 (List.length y4.2.2.T) c4, .int .i64 y4.2.2.E], boxA b1 [.int .i64 p0.Kind, .int .i64 p0.N, .int .i64 p0.Long, .string ⟨p0.Name.toArray⟩, .slice a1 (List.length p0.Fields) c1], R] := hS11
      refine ⟨st0, ?_⟩
      refine te (t_thenR [(1, .int .i64 p1), (2, .pointer (some ⟨b1, 0, none⟩)), (5, .pointer none), (6, .int .i64 y4.1), (7, .int .i64 y4.2.1)] ⟨rfl, rfl, rfl, rfl, rfl, trivial⟩ fun J => ?_)
      refine sq2 ?_
      obtain ⟨y5, hx5, hm⟩ := bindS hm
      refine rg (pv (r_mp rfl) (pv (r_mi rfl) (wl rfl (calS cf20 rfl (kind_Table_Type_2_sim (p0 := p1) (hS11.bun [1, 2] [] rfl)  hx5) rfl fun v5 T7 w10 im12 rv5 => ?_))))
      obtain ⟨a5, c5, rfl, hS12, h5, _⟩ := rv5
      have hS12 : Sep g T7 w10 [boxA b1 [.int .i64 p0.Kind, .int .i64 p0.N, .int .i64 p0.Long, .string ⟨p0.Name.toArray⟩, .slice a1 (List.length p0.Fields) c1], R] := hS12.unb
      refine pv (r_mv rfl) (pv (r_ex (v := .agg #[.int .i64 y5.1.Kind, .int .i64 y5.1.Elem, .int .i64 y5.1.Len, .string ⟨y5.1.Name.toArray⟩, .slice a5 (List.length y5.1.Fields) c5]) rfl rfl) (pv (r_ex (v := .int .i64 y5.2) rfl rfl) (wl rfl (alS (zs := [.int .i64 0, .int .i64 0, .int .i64 0, .string ⟨([] : List UInt8).toArray⟩, .slice none 0 0]) Try.zeroValue55 rfl hS12 fun w11 b3 im13 hS13 => ?_))))
      refine wl rfl (st0B (q := 0) hS13 ⟨rfl, rfl⟩ rfl rfl rfl Try.sizeOf55 rfl rfl rfl fun w12 im14 hS14 => ?_)
      have hS14 : Sep g T7 w12 [boxA b3 [.int .i64 y5.1.Kind, .int .i64 y5.1.Elem, .int .i64 y5.1.Len, .string ⟨y5.1.Name.toArray⟩, .slice a5 (List.length y5.1.Fields) c5], boxA b1 [.int .i64 p0.Kind, .int .i64 p0.N, .int .i64 p0.Long, .string ⟨p0.Name.toArray⟩, .slice a1 (List.length p0.Fields) c1], R] := hS14
      refine pv (r_zi rfl) (nil (t_thenR [(1, .int .i64 p1), (2, .pointer (some ⟨b1, 0, none⟩)), (5, .pointer none), (6, .int .i64 y4.1), (7, .int .i64 y4.2.1), (9, .pointer (some ⟨b3, 0, none⟩)), (10, .int .i64 y5.2)] ⟨rfl, rfl, rfl, rfl, rfl, rfl, rfl, trivial⟩ fun J => ?_))
      refine sq2 ?_
      obtain ⟨y6, hx6, hm⟩ := bindS hm
      refine rg (pv (r_mp rfl) (pv (r_fa rfl Try.underlying34 rfl Try.sizeOf9 rfl) (pv (r_ld rfl Try.isAgg9 (hS14.cell0 (i := 1) ⟨rfl, rfl⟩ (j := 3) rfl)) (wl rfl (calS cf16 rfl (kind_Table_Find_2_sim (p0 := p0.Name) (hS14.bun [0, 1, 2] [] rfl)  hx6) rfl fun v6 T8 w13 im15 rv6 => ?_)))))
      obtain ⟨rfl, hS15, _⟩ := rv6
      have hS15 : Sep g T8 w13 [boxA b3 [.int .i64 y5.1.Kind, .int .i64 y5.1.Elem, .int .i64 y5.1.Len, .string ⟨y5.1.Name.toArray⟩, .slice a5 (List.length y5.1.Fields) c5], boxA b1 [.int .i64 p0.Kind, .int .i64 p0.N, .int .i64 p0.Long, .string ⟨p0.Name.toArray⟩, .slice a1 (List.length p0.Fields) c1], R] := hS15.unb
      refine pv (r_mv rfl) (pv (r_ex (v := .int .i64 y6.1) rfl rfl) (pv (r_ex (v := .int .i64 y6.2) rfl rfl) (pv (r_zi rfl) (pv (r_zi rfl) (nil (t_thenR [(1, .int .i64 p1), (2, .pointer (some ⟨b1, 0, none⟩)), (5, .pointer none), (6, .int .i64 y4.1), (7, .int .i64 y4.2.1), (9, .pointer (some ⟨b3, 0, none⟩)), (10, .int .i64 y5.2), (11, .int .i64 y6.1), (12, .int .i64 y6.2)] ⟨rfl, rfl, rfl, rfl, rfl, rfl, rfl, rfl, rfl, trivial⟩ fun J => ?_))))))
      refine sq2 ?_
      obtain ⟨y7, hx7, hm⟩ := bindS hm
      refine rg (pv (r_mp rfl) (pv (r_mi rfl) (pv (r_fa rfl Try.underlying34 rfl Try.sizeOf9 rfl) (pv (r_ld rfl Try.isAgg9 (hS15.cell0 (i := 1) ⟨rfl, rfl⟩ (j := 3) rfl)) (wl rfl (calS cf18 rfl (kind_Table_Field_2_sim (p0 := p1) (p1 := p0.Name) (hS15.bun [0, 2] [] rfl)  hx7) rfl fun v7 T9 w14 im16 rv7 => ?_))))))
      obtain ⟨rfl, hS16, _⟩ := rv7
      have hS16 : Sep g T9 w14 [boxA b3 [.int .i64 y5.1.Kind, .int .i64 y5.1.Elem, .int .i64 y5.1.Len, .string ⟨y5.1.Name.toArray⟩, .slice a5 (List.length y5.1.Fields) c5], R] := hS16.unb
      refine pv (r_mv rfl) (pv (r_ex (v := .agg #[.string ⟨y7.1.Name.toArray⟩, .int .i64 y7.1.Type_, .int .i64 y7.1.At]) rfl rfl) (pv (r_ex (v := .int .i64 y7.2) rfl rfl) (wl rfl (alS (zs := [.string ⟨([] : List UInt8).toArray⟩, .int .i64 0, .int .i64 0]) Try.zeroValue45 rfl hS16 fun w15 b4 im17 hS17 => ?_))))
      refine wl rfl (st0B (q := 0) hS17 ⟨rfl, rfl⟩ rfl rfl rfl Try.sizeOf45 rfl rfl rfl fun w16 im18 hS18 => ?_)
      have hS18 : Sep g T9 w16 [boxA b4 [.string ⟨y7.1.Name.toArray⟩, .int .i64 y7.1.Type_, .int .i64 y7.1.At], boxA b3 [.int .i64 y5.1.Kind, .int .i64 y5.1.Elem, .int .i64 y5.1.Len, .string ⟨y5.1.Name.toArray⟩, .slice a5 (List.length y5.1.Fields) c5], R] := hS18
      refine pv (r_zi rfl) (nil (t_thenR [(1, .int .i64 p1), (5, .pointer none), (6, .int .i64 y4.1), (7, .int .i64 y4.2.1), (9, .pointer (some ⟨b3, 0, none⟩)), (10, .int .i64 y5.2), (11, .int .i64 y6.1), (12, .int .i64 y6.2), (13, .pointer (some ⟨b4, 0, none⟩)), (14, .int .i64 y7.2)] ⟨rfl, rfl, rfl, rfl, rfl, rfl, rfl, rfl, rfl, rfl, trivial⟩ fun J => ?_))
      refine sq2 ?_
      obtain ⟨y8, hx8, hm⟩ := bindS hm
      refine rg (wl rfl (calS cf9 rfl (law08_awake_sim  (hS18.bun [0, 1, 2] [] rfl)  hx8) rfl fun v8 T10 w17 im19 rv8 => ?_))
      obtain ⟨rfl, hS19, _⟩ := rv8
      have hS19 : Sep g T10 w17 [boxA b4 [.string ⟨y7.1.Name.toArray⟩, .int .i64 y7.1.Type_, .int .i64 y7.1.At], boxA b3 [.int .i64 y5.1.Kind, .int .i64 y5.1.Elem, .int .i64 y5.1.Len, .string ⟨y5.1.Name.toArray⟩, .slice a5 (List.length y5.1.Fields) c5], R] := hS19.unb
      refine pv (r_mb rfl) (?_)
      rcases Bool.eq_false_or_eq_true y8 with hb2 | hb2
      · have hm := ctrue hb2 hm
        refine gT (d0 := 50) rfl rfl hb2 (pv (r_mi rfl) (gT (d0 := 50) rfl rfl hb2 (pv (r_ib rfl rfl rfl) (pv (r_pkt rfl hb2 rfl) (pv (r_mb rfl) (?_))))))
        rcases Bool.eq_false_or_eq_true (y4.1 == 0) with hb3 | hb3
        · have hm := ctrue hb3 hm
          refine gT (d0 := 54) rfl rfl hb3 (pv (r_mi rfl) (gT (d0 := 54) rfl rfl hb3 (pv (r_ib rfl rfl rfl) (pv (r_pkt rfl hb3 rfl) (pv (r_mb rfl) (?_))))))
          rcases Bool.eq_false_or_eq_true (y4.2.1 == 1) with hb4 | hb4
          · have hm := ctrue hb4 hm
            refine gT (d0 := 58) rfl rfl hb4 (pv (r_fa rfl Try.underlying55 rfl Try.sizeOf3 rfl) (gT (d0 := 58) rfl rfl hb4 (pv (r_ld rfl Try.isAgg3 (hS19.cell0 (i := 1) ⟨rfl, rfl⟩ (j := 0) rfl)) (gT (d0 := 58) rfl rfl hb4 (pv (r_ib rfl rfl rfl) (pv (r_pkt rfl hb4 rfl) (pv (r_mb rfl) (?_))))))))
            rcases Bool.eq_false_or_eq_true (y5.1.Kind == 0) with hb5 | hb5
            · have hm := ctrue hb5 hm
              refine gT (d0 := 63) rfl rfl hb5 (pv (r_mi rfl) (gT (d0 := 63) rfl rfl hb5 (pv (r_ib rfl rfl rfl) (pv (r_pkt rfl hb5 rfl) (pv (r_mb rfl) (?_))))))
              rcases Bool.eq_false_or_eq_true (y5.2 == 1) with hb6 | hb6
              · have hm := ctrue hb6 hm
                refine gT (d0 := 67) rfl rfl hb6 (pv (r_mi rfl) (gT (d0 := 67) rfl rfl hb6 (pv (r_ib rfl rfl rfl) (pv (r_pkt rfl hb6 rfl) (pv (r_mb rfl) (?_))))))
                rcases Bool.eq_false_or_eq_true (y6.1 == 0) with hb7 | hb7
                · have hm := ctrue hb7 hm
                  refine gT (d0 := 71) rfl rfl hb7 (pv (r_mi rfl) (gT (d0 := 71) rfl rfl hb7 (pv (r_ib rfl rfl rfl) (pv (r_pkt rfl hb7 rfl) (pv (r_mb rfl) (?_))))))
                  rcases Bool.eq_false_or_eq_true (y6.2 == 1) with hb8 | hb8
                  · have hm := ctrue hb8 hm
                    refine gT (d0 := 75) rfl rfl hb8 (pv (r_ldS rfl Try.isAgg45 Try.sizeOf45 rfl (hS19.cells0 (i := 0) ⟨rfl, rfl⟩ (o := 0) rfl) (cs := [.string ⟨y7.1.Name.toArray⟩, .int .i64 y7.1.Type_, .int .i64 y7.1.At])) (gT (d0 := 75) rfl rfl hb8 (pv (r_bd (by kernel_rfl) rfl (u := .agg #[.string ⟨([] : List UInt8).toArray⟩, .int .i64 0, .int .i64 0])) (gT (d0 := 75) rfl rfl hb8 (pv (r_seqe rfl rfl (eq_45 y7.1.Name y7.1.Type_ y7.1.At ([] : List UInt8) 0 0)) (pv (r_pkt rfl hb8 rfl) (pv (r_mb rfl) (?_))))))))
                    rcases Bool.eq_false_or_eq_true ((decide (y7.1.Name = ([] : List UInt8))) && (y7.1.Type_ == 0) && (y7.1.At == 0)) with hb9 | hb9
                    · have hm := ctrue hb9 hm
                      refine gT (d0 := 80) rfl rfl hb9 (pv (r_mi rfl) (gT (d0 := 80) rfl rfl hb9 (pv (r_ib rfl rfl rfl) (pv (r_pkt rfl hb9 rfl) (pv (r_mb rfl) (?_))))))
                      rcases Bool.eq_false_or_eq_true (y7.2 == 1) with hb10 | hb10
                      · have hm := ctrue hb10 hm
                        obtain ⟨y9, hx9, hm⟩ := bindS hm
                        refine gT (d0 := 84) rfl rfl hb10 (pv (r_mp rfl) (gT (d0 := 84) rfl rfl hb10 (wl rfl (calS cf15 rfl (kind_Table_Count_2_sim  (hS19.bun [2] [] rfl)  hx9) rfl fun v9 T11 w18 im20 rv9 => ?_))))
                        obtain ⟨rfl, hS20, _⟩ := rv9
                        have hS20 : Sep g T11 w18 [R] := hS20.unb
                        obtain ⟨y10, hx10, hm⟩ := bindS hm
                        refine gT (d0 := 84) rfl rfl hb10 (pv (r_mp rfl) (gT (d0 := 84) rfl rfl hb10 (pv (r_mi rfl) (gT (d0 := 84) rfl rfl hb10 (wl rfl (calS cf21 rfl (kind_Table_Size_2_sim (p0 := p1) (hS20.bun [0] [] rfl)  hx10) rfl fun v10 T12 w19 im21 rv10 => ?_))))))
                        obtain ⟨rfl, hS21, _⟩ := rv10
                        have hS21 : Sep g T12 w19 [R] := hS21.unb
                        obtain ⟨y11, hx11, hm⟩ := bindS hm
                        refine gT (d0 := 84) rfl rfl hb10 (pv (r_ib rfl rfl rfl) (gT (d0 := 84) rfl rfl hb10 (pv (r_mp rfl) (gT (d0 := 84) rfl rfl hb10 (pv (r_mi rfl) (gT (d0 := 84) rfl rfl hb10 (wl rfl (calS cf22 rfl (kind_Table_Align_2_sim (p0 := p1) (hS21.bun [0] [] rfl)  hx11) rfl fun v11 T13 w20 im22 rv11 => ?_))))))))
                        obtain ⟨rfl, hS22, _⟩ := rv11
                        have hS22 : Sep g T13 w20 [R] := hS22.unb
                        refine gT (d0 := 84) rfl rfl hb10 (pv (r_ib rfl rfl rfl) (gT (d0 := 84) rfl rfl hb10 (pv (r_ib rfl rfl rfl) (pv (r_pkt rfl hb10 rfl) (pv (r_mb rfl) (?_))))))
                        rcases Bool.eq_false_or_eq_true ((IntKind.wrap .i64 ((IntKind.wrap .i64 (y9 + y10)) + y11)) == 0) with hb11 | hb11
                        · have hm := ctrue hb11 hm
                          obtain ⟨y12, hx12, hm⟩ := bindS hm
                          refine gT (d0 := 97) rfl rfl hb11 (pv (r_mp rfl) (gT (d0 := 97) rfl rfl hb11 (pv (r_mi rfl) (gT (d0 := 97) rfl rfl hb11 (wl rfl (calS cf26 rfl (kind_Table_Scalar_2_sim (p0 := p1) (hS22.bun [0] [] rfl)  hx12) rfl fun v12 T14 w21 im23 rv12 => ?_))))))
                          obtain ⟨rfl, hS23, _⟩ := rv12
                          have hS23 : Sep g T14 w21 [R] := hS23.unb
                          refine gT (d0 := 97) rfl rfl hb11 (pv (r_nt rfl) (pv (r_pkt rfl hb11 rfl) (pv (r_zb rfl) (nil (t_thenR [(4, .bool (!y12))] ⟨rfl, trivial⟩ fun J => ?_)))))
                          have hm := Option.some.inj hm
                          subst hm
                          exact rtn (ret1 rfl rfl ⟨_, rfl, _, (Im.trans im1 (Im.trans im2 (Im.trans im3 (Im.trans im4 (Im.trans im6 (Im.trans im7 (Im.trans im8 (Im.trans im9 (Im.trans im10 (Im.trans im11 (Im.trans im12 (Im.trans im13 (Im.trans im14 (Im.trans im15 (Im.trans im16 (Im.trans im17 (Im.trans im18 (Im.trans im19 (Im.trans im20 (Im.trans im21 (Im.trans im22 im23))))))))))))))))))))), ⟨rfl, hS23.sel [0] rfl, trivial⟩⟩)
                        · have hm := cfalse hb11 hm
                          refine gF (d0 := 97) rfl rfl (by rw [hb11]; rfl) (gF (d0 := 97) rfl rfl (by rw [hb11]; rfl) (gF (d0 := 97) rfl rfl (by rw [hb11]; rfl) (gF (d0 := 97) rfl rfl (by rw [hb11]; rfl) (pv (r_pkf rfl hb11 rfl) (pv (r_zb rfl) (nil (t_thenR [(4, .bool false)] ⟨rfl, trivial⟩ fun J => ?_)))))))
                          have hm := Option.some.inj hm
                          subst hm
                          exact rtn (ret1 rfl rfl ⟨_, rfl, _, (Im.trans im1 (Im.trans im2 (Im.trans im3 (Im.trans im4 (Im.trans im6 (Im.trans im7 (Im.trans im8 (Im.trans im9 (Im.trans im10 (Im.trans im11 (Im.trans im12 (Im.trans im13 (Im.trans im14 (Im.trans im15 (Im.trans im16 (Im.trans im17 (Im.trans im18 (Im.trans im19 (Im.trans im20 (Im.trans im21 im22)))))))))))))))))))), ⟨rfl, hS22.sel [0] rfl, trivial⟩⟩)
                      · have hm := cfalse hb10 hm
                        refine gF (d0 := 84) rfl rfl (by rw [hb10]; rfl) (gF (d0 := 84) rfl rfl (by rw [hb10]; rfl) (gF (d0 := 84) rfl rfl (by rw [hb10]; rfl) (gF (d0 := 84) rfl rfl (by rw [hb10]; rfl) (gF (d0 := 84) rfl rfl (by rw [hb10]; rfl) (gF (d0 := 84) rfl rfl (by rw [hb10]; rfl) (gF (d0 := 84) rfl rfl (by rw [hb10]; rfl) (gF (d0 := 84) rfl rfl (by rw [hb10]; rfl) (gF (d0 := 84) rfl rfl (by rw [hb10]; rfl) (gF (d0 := 84) rfl rfl (by rw [hb10]; rfl) (gF (d0 := 84) rfl rfl (by rw [hb10]; rfl) (pv (r_pkf rfl hb10 rfl) (pv (r_mb rfl) (gF (d0 := 97) rfl rfl rfl (gF (d0 := 97) rfl rfl rfl (gF (d0 := 97) rfl rfl rfl (gF (d0 := 97) rfl rfl rfl (pv (r_pkf rfl rfl rfl) (pv (r_zb rfl) (nil (t_thenR [(4, .bool false)] ⟨rfl, trivial⟩ fun J => ?_))))))))))))))))))))
                        have hm := Option.some.inj hm
                        subst hm
                        exact rtn (ret1 rfl rfl ⟨_, rfl, _, (Im.trans im1 (Im.trans im2 (Im.trans im3 (Im.trans im4 (Im.trans im6 (Im.trans im7 (Im.trans im8 (Im.trans im9 (Im.trans im10 (Im.trans im11 (Im.trans im12 (Im.trans im13 (Im.trans im14 (Im.trans im15 (Im.trans im16 (Im.trans im17 (Im.trans im18 im19))))))))))))))))), ⟨rfl, hS19.sel [2] rfl, trivial⟩⟩)
                    · have hm := cfalse hb9 hm
                      refine gF (d0 := 80) rfl rfl (by rw [hb9]; rfl) (gF (d0 := 80) rfl rfl (by rw [hb9]; rfl) (pv (r_pkf rfl hb9 rfl) (pv (r_mb rfl) (gF (d0 := 84) rfl rfl rfl (gF (d0 := 84) rfl rfl rfl (gF (d0 := 84) rfl rfl rfl (gF (d0 := 84) rfl rfl rfl (gF (d0 := 84) rfl rfl rfl (gF (d0 := 84) rfl rfl rfl (gF (d0 := 84) rfl rfl rfl (gF (d0 := 84) rfl rfl rfl (gF (d0 := 84) rfl rfl rfl (gF (d0 := 84) rfl rfl rfl (gF (d0 := 84) rfl rfl rfl (pv (r_pkf rfl rfl rfl) (pv (r_mb rfl) (gF (d0 := 97) rfl rfl rfl (gF (d0 := 97) rfl rfl rfl (gF (d0 := 97) rfl rfl rfl (gF (d0 := 97) rfl rfl rfl (pv (r_pkf rfl rfl rfl) (pv (r_zb rfl) (nil (t_thenR [(4, .bool false)] ⟨rfl, trivial⟩ fun J => ?_))))))))))))))))))))))))
                      have hm := Option.some.inj hm
                      subst hm
                      exact rtn (ret1 rfl rfl ⟨_, rfl, _, (Im.trans im1 (Im.trans im2 (Im.trans im3 (Im.trans im4 (Im.trans im6 (Im.trans im7 (Im.trans im8 (Im.trans im9 (Im.trans im10 (Im.trans im11 (Im.trans im12 (Im.trans im13 (Im.trans im14 (Im.trans im15 (Im.trans im16 (Im.trans im17 (Im.trans im18 im19))))))))))))))))), ⟨rfl, hS19.sel [2] rfl, trivial⟩⟩)
                  · have hm := cfalse hb8 hm
                    refine gF (d0 := 75) rfl rfl (by rw [hb8]; rfl) (gF (d0 := 75) rfl rfl (by rw [hb8]; rfl) (gF (d0 := 75) rfl rfl (by rw [hb8]; rfl) (pv (r_pkf rfl hb8 rfl) (pv (r_mb rfl) (gF (d0 := 80) rfl rfl rfl (gF (d0 := 80) rfl rfl rfl (pv (r_pkf rfl rfl rfl) (pv (r_mb rfl) (gF (d0 := 84) rfl rfl rfl (gF (d0 := 84) rfl rfl rfl (gF (d0 := 84) rfl rfl rfl (gF (d0 := 84) rfl rfl rfl (gF (d0 := 84) rfl rfl rfl (gF (d0 := 84) rfl rfl rfl (gF (d0 := 84) rfl rfl rfl (gF (d0 := 84) rfl rfl rfl (gF (d0 := 84) rfl rfl rfl (gF (d0 := 84) rfl rfl rfl (gF (d0 := 84) rfl rfl rfl (pv (r_pkf rfl rfl rfl) (pv (r_mb rfl) (gF (d0 := 97) rfl rfl rfl (gF (d0 := 97) rfl rfl rfl (gF (d0 := 97) rfl rfl rfl (gF (d0 := 97) rfl rfl rfl (pv (r_pkf rfl rfl rfl) (pv (r_zb rfl) (nil (t_thenR [(4, .bool false)] ⟨rfl, trivial⟩ fun J => ?_)))))))))))))))))))))))))))))
                    have hm := Option.some.inj hm
                    subst hm
                    exact rtn (ret1 rfl rfl ⟨_, rfl, _, (Im.trans im1 (Im.trans im2 (Im.trans im3 (Im.trans im4 (Im.trans im6 (Im.trans im7 (Im.trans im8 (Im.trans im9 (Im.trans im10 (Im.trans im11 (Im.trans im12 (Im.trans im13 (Im.trans im14 (Im.trans im15 (Im.trans im16 (Im.trans im17 (Im.trans im18 im19))))))))))))))))), ⟨rfl, hS19.sel [2] rfl, trivial⟩⟩)
                · have hm := cfalse hb7 hm
                  refine gF (d0 := 71) rfl rfl (by rw [hb7]; rfl) (gF (d0 := 71) rfl rfl (by rw [hb7]; rfl) (pv (r_pkf rfl hb7 rfl) (pv (r_mb rfl) (gF (d0 := 75) rfl rfl rfl (gF (d0 := 75) rfl rfl rfl (gF (d0 := 75) rfl rfl rfl (pv (r_pkf rfl rfl rfl) (pv (r_mb rfl) (gF (d0 := 80) rfl rfl rfl (gF (d0 := 80) rfl rfl rfl (pv (r_pkf rfl rfl rfl) (pv (r_mb rfl) (gF (d0 := 84) rfl rfl rfl (gF (d0 := 84) rfl rfl rfl (gF (d0 := 84) rfl rfl rfl (gF (d0 := 84) rfl rfl rfl (gF (d0 := 84) rfl rfl rfl (gF (d0 := 84) rfl rfl rfl (gF (d0 := 84) rfl rfl rfl (gF (d0 := 84) rfl rfl rfl (gF (d0 := 84) rfl rfl rfl (gF (d0 := 84) rfl rfl rfl (gF (d0 := 84) rfl rfl rfl (pv (r_pkf rfl rfl rfl) (pv (r_mb rfl) (gF (d0 := 97) rfl rfl rfl (gF (d0 := 97) rfl rfl rfl (gF (d0 := 97) rfl rfl rfl (gF (d0 := 97) rfl rfl rfl (pv (r_pkf rfl rfl rfl) (pv (r_zb rfl) (nil (t_thenR [(4, .bool false)] ⟨rfl, trivial⟩ fun J => ?_)))))))))))))))))))))))))))))))))
                  have hm := Option.some.inj hm
                  subst hm
                  exact rtn (ret1 rfl rfl ⟨_, rfl, _, (Im.trans im1 (Im.trans im2 (Im.trans im3 (Im.trans im4 (Im.trans im6 (Im.trans im7 (Im.trans im8 (Im.trans im9 (Im.trans im10 (Im.trans im11 (Im.trans im12 (Im.trans im13 (Im.trans im14 (Im.trans im15 (Im.trans im16 (Im.trans im17 (Im.trans im18 im19))))))))))))))))), ⟨rfl, hS19.sel [2] rfl, trivial⟩⟩)
              · have hm := cfalse hb6 hm
                refine gF (d0 := 67) rfl rfl (by rw [hb6]; rfl) (gF (d0 := 67) rfl rfl (by rw [hb6]; rfl) (pv (r_pkf rfl hb6 rfl) (pv (r_mb rfl) (gF (d0 := 71) rfl rfl rfl (gF (d0 := 71) rfl rfl rfl (pv (r_pkf rfl rfl rfl) (pv (r_mb rfl) (gF (d0 := 75) rfl rfl rfl (gF (d0 := 75) rfl rfl rfl (gF (d0 := 75) rfl rfl rfl (pv (r_pkf rfl rfl rfl) (pv (r_mb rfl) (gF (d0 := 80) rfl rfl rfl (gF (d0 := 80) rfl rfl rfl (pv (r_pkf rfl rfl rfl) (pv (r_mb rfl) (gF (d0 := 84) rfl rfl rfl (gF (d0 := 84) rfl rfl rfl (gF (d0 := 84) rfl rfl rfl (gF (d0 := 84) rfl rfl rfl (gF (d0 := 84) rfl rfl rfl (gF (d0 := 84) rfl rfl rfl (gF (d0 := 84) rfl rfl rfl (gF (d0 := 84) rfl rfl rfl (gF (d0 := 84) rfl rfl rfl (gF (d0 := 84) rfl rfl rfl (gF (d0 := 84) rfl rfl rfl (pv (r_pkf rfl rfl rfl) (pv (r_mb rfl) (gF (d0 := 97) rfl rfl rfl (gF (d0 := 97) rfl rfl rfl (gF (d0 := 97) rfl rfl rfl (gF (d0 := 97) rfl rfl rfl (pv (r_pkf rfl rfl rfl) (pv (r_zb rfl) (nil (t_thenR [(4, .bool false)] ⟨rfl, trivial⟩ fun J => ?_)))))))))))))))))))))))))))))))))))))
                have hm := Option.some.inj hm
                subst hm
                exact rtn (ret1 rfl rfl ⟨_, rfl, _, (Im.trans im1 (Im.trans im2 (Im.trans im3 (Im.trans im4 (Im.trans im6 (Im.trans im7 (Im.trans im8 (Im.trans im9 (Im.trans im10 (Im.trans im11 (Im.trans im12 (Im.trans im13 (Im.trans im14 (Im.trans im15 (Im.trans im16 (Im.trans im17 (Im.trans im18 im19))))))))))))))))), ⟨rfl, hS19.sel [2] rfl, trivial⟩⟩)
            · have hm := cfalse hb5 hm
              refine gF (d0 := 63) rfl rfl (by rw [hb5]; rfl) (gF (d0 := 63) rfl rfl (by rw [hb5]; rfl) (pv (r_pkf rfl hb5 rfl) (pv (r_mb rfl) (gF (d0 := 67) rfl rfl rfl (gF (d0 := 67) rfl rfl rfl (pv (r_pkf rfl rfl rfl) (pv (r_mb rfl) (gF (d0 := 71) rfl rfl rfl (gF (d0 := 71) rfl rfl rfl (pv (r_pkf rfl rfl rfl) (pv (r_mb rfl) (gF (d0 := 75) rfl rfl rfl (gF (d0 := 75) rfl rfl rfl (gF (d0 := 75) rfl rfl rfl (pv (r_pkf rfl rfl rfl) (pv (r_mb rfl) (gF (d0 := 80) rfl rfl rfl (gF (d0 := 80) rfl rfl rfl (pv (r_pkf rfl rfl rfl) (pv (r_mb rfl) (gF (d0 := 84) rfl rfl rfl (gF (d0 := 84) rfl rfl rfl (gF (d0 := 84) rfl rfl rfl (gF (d0 := 84) rfl rfl rfl (gF (d0 := 84) rfl rfl rfl (gF (d0 := 84) rfl rfl rfl (gF (d0 := 84) rfl rfl rfl (gF (d0 := 84) rfl rfl rfl (gF (d0 := 84) rfl rfl rfl (gF (d0 := 84) rfl rfl rfl (gF (d0 := 84) rfl rfl rfl (pv (r_pkf rfl rfl rfl) (pv (r_mb rfl) (gF (d0 := 97) rfl rfl rfl (gF (d0 := 97) rfl rfl rfl (gF (d0 := 97) rfl rfl rfl (gF (d0 := 97) rfl rfl rfl (pv (r_pkf rfl rfl rfl) (pv (r_zb rfl) (nil (t_thenR [(4, .bool false)] ⟨rfl, trivial⟩ fun J => ?_)))))))))))))))))))))))))))))))))))))))))
              have hm := Option.some.inj hm
              subst hm
              exact rtn (ret1 rfl rfl ⟨_, rfl, _, (Im.trans im1 (Im.trans im2 (Im.trans im3 (Im.trans im4 (Im.trans im6 (Im.trans im7 (Im.trans im8 (Im.trans im9 (Im.trans im10 (Im.trans im11 (Im.trans im12 (Im.trans im13 (Im.trans im14 (Im.trans im15 (Im.trans im16 (Im.trans im17 (Im.trans im18 im19))))))))))))))))), ⟨rfl, hS19.sel [2] rfl, trivial⟩⟩)
          · have hm := cfalse hb4 hm
            refine gF (d0 := 58) rfl rfl (by rw [hb4]; rfl) (gF (d0 := 58) rfl rfl (by rw [hb4]; rfl) (gF (d0 := 58) rfl rfl (by rw [hb4]; rfl) (pv (r_pkf rfl hb4 rfl) (pv (r_mb rfl) (gF (d0 := 63) rfl rfl rfl (gF (d0 := 63) rfl rfl rfl (pv (r_pkf rfl rfl rfl) (pv (r_mb rfl) (gF (d0 := 67) rfl rfl rfl (gF (d0 := 67) rfl rfl rfl (pv (r_pkf rfl rfl rfl) (pv (r_mb rfl) (gF (d0 := 71) rfl rfl rfl (gF (d0 := 71) rfl rfl rfl (pv (r_pkf rfl rfl rfl) (pv (r_mb rfl) (gF (d0 := 75) rfl rfl rfl (gF (d0 := 75) rfl rfl rfl (gF (d0 := 75) rfl rfl rfl (pv (r_pkf rfl rfl rfl) (pv (r_mb rfl) (gF (d0 := 80) rfl rfl rfl (gF (d0 := 80) rfl rfl rfl (pv (r_pkf rfl rfl rfl) (pv (r_mb rfl) (gF (d0 := 84) rfl rfl rfl (gF (d0 := 84) rfl rfl rfl (gF (d0 := 84) rfl rfl rfl (gF (d0 := 84) rfl rfl rfl (gF (d0 := 84) rfl rfl rfl (gF (d0 := 84) rfl rfl rfl (gF (d0 := 84) rfl rfl rfl (gF (d0 := 84) rfl rfl rfl (gF (d0 := 84) rfl rfl rfl (gF (d0 := 84) rfl rfl rfl (gF (d0 := 84) rfl rfl rfl (pv (r_pkf rfl rfl rfl) (pv (r_mb rfl) (gF (d0 := 97) rfl rfl rfl (gF (d0 := 97) rfl rfl rfl (gF (d0 := 97) rfl rfl rfl (gF (d0 := 97) rfl rfl rfl (pv (r_pkf rfl rfl rfl) (pv (r_zb rfl) (nil (t_thenR [(4, .bool false)] ⟨rfl, trivial⟩ fun J => ?_))))))))))))))))))))))))))))))))))))))))))))))
            have hm := Option.some.inj hm
            subst hm
            exact rtn (ret1 rfl rfl ⟨_, rfl, _, (Im.trans im1 (Im.trans im2 (Im.trans im3 (Im.trans im4 (Im.trans im6 (Im.trans im7 (Im.trans im8 (Im.trans im9 (Im.trans im10 (Im.trans im11 (Im.trans im12 (Im.trans im13 (Im.trans im14 (Im.trans im15 (Im.trans im16 (Im.trans im17 (Im.trans im18 im19))))))))))))))))), ⟨rfl, hS19.sel [2] rfl, trivial⟩⟩)
        · have hm := cfalse hb3 hm
          refine gF (d0 := 54) rfl rfl (by rw [hb3]; rfl) (gF (d0 := 54) rfl rfl (by rw [hb3]; rfl) (pv (r_pkf rfl hb3 rfl) (pv (r_mb rfl) (gF (d0 := 58) rfl rfl rfl (gF (d0 := 58) rfl rfl rfl (gF (d0 := 58) rfl rfl rfl (pv (r_pkf rfl rfl rfl) (pv (r_mb rfl) (gF (d0 := 63) rfl rfl rfl (gF (d0 := 63) rfl rfl rfl (pv (r_pkf rfl rfl rfl) (pv (r_mb rfl) (gF (d0 := 67) rfl rfl rfl (gF (d0 := 67) rfl rfl rfl (pv (r_pkf rfl rfl rfl) (pv (r_mb rfl) (gF (d0 := 71) rfl rfl rfl (gF (d0 := 71) rfl rfl rfl (pv (r_pkf rfl rfl rfl) (pv (r_mb rfl) (gF (d0 := 75) rfl rfl rfl (gF (d0 := 75) rfl rfl rfl (gF (d0 := 75) rfl rfl rfl (pv (r_pkf rfl rfl rfl) (pv (r_mb rfl) (gF (d0 := 80) rfl rfl rfl (gF (d0 := 80) rfl rfl rfl (pv (r_pkf rfl rfl rfl) (pv (r_mb rfl) (gF (d0 := 84) rfl rfl rfl (gF (d0 := 84) rfl rfl rfl (gF (d0 := 84) rfl rfl rfl (gF (d0 := 84) rfl rfl rfl (gF (d0 := 84) rfl rfl rfl (gF (d0 := 84) rfl rfl rfl (gF (d0 := 84) rfl rfl rfl (gF (d0 := 84) rfl rfl rfl (gF (d0 := 84) rfl rfl rfl (gF (d0 := 84) rfl rfl rfl (gF (d0 := 84) rfl rfl rfl (pv (r_pkf rfl rfl rfl) (pv (r_mb rfl) (gF (d0 := 97) rfl rfl rfl (gF (d0 := 97) rfl rfl rfl (gF (d0 := 97) rfl rfl rfl (gF (d0 := 97) rfl rfl rfl (pv (r_pkf rfl rfl rfl) (pv (r_zb rfl) (nil (t_thenR [(4, .bool false)] ⟨rfl, trivial⟩ fun J => ?_))))))))))))))))))))))))))))))))))))))))))))))))))
          have hm := Option.some.inj hm
          subst hm
          exact rtn (ret1 rfl rfl ⟨_, rfl, _, (Im.trans im1 (Im.trans im2 (Im.trans im3 (Im.trans im4 (Im.trans im6 (Im.trans im7 (Im.trans im8 (Im.trans im9 (Im.trans im10 (Im.trans im11 (Im.trans im12 (Im.trans im13 (Im.trans im14 (Im.trans im15 (Im.trans im16 (Im.trans im17 (Im.trans im18 im19))))))))))))))))), ⟨rfl, hS19.sel [2] rfl, trivial⟩⟩)
      · have hm := cfalse hb2 hm
        refine gF (d0 := 50) rfl rfl (by rw [hb2]; rfl) (gF (d0 := 50) rfl rfl (by rw [hb2]; rfl) (pv (r_pkf rfl hb2 rfl) (pv (r_mb rfl) (gF (d0 := 54) rfl rfl rfl (gF (d0 := 54) rfl rfl rfl (pv (r_pkf rfl rfl rfl) (pv (r_mb rfl) (gF (d0 := 58) rfl rfl rfl (gF (d0 := 58) rfl rfl rfl (gF (d0 := 58) rfl rfl rfl (pv (r_pkf rfl rfl rfl) (pv (r_mb rfl) (gF (d0 := 63) rfl rfl rfl (gF (d0 := 63) rfl rfl rfl (pv (r_pkf rfl rfl rfl) (pv (r_mb rfl) (gF (d0 := 67) rfl rfl rfl (gF (d0 := 67) rfl rfl rfl (pv (r_pkf rfl rfl rfl) (pv (r_mb rfl) (gF (d0 := 71) rfl rfl rfl (gF (d0 := 71) rfl rfl rfl (pv (r_pkf rfl rfl rfl) (pv (r_mb rfl) (gF (d0 := 75) rfl rfl rfl (gF (d0 := 75) rfl rfl rfl (gF (d0 := 75) rfl rfl rfl (pv (r_pkf rfl rfl rfl) (pv (r_mb rfl) (gF (d0 := 80) rfl rfl rfl (gF (d0 := 80) rfl rfl rfl (pv (r_pkf rfl rfl rfl) (pv (r_mb rfl) (gF (d0 := 84) rfl rfl rfl (gF (d0 := 84) rfl rfl rfl (gF (d0 := 84) rfl rfl rfl (gF (d0 := 84) rfl rfl rfl (gF (d0 := 84) rfl rfl rfl (gF (d0 := 84) rfl rfl rfl (gF (d0 := 84) rfl rfl rfl (gF (d0 := 84) rfl rfl rfl (gF (d0 := 84) rfl rfl rfl (gF (d0 := 84) rfl rfl rfl (gF (d0 := 84) rfl rfl rfl (pv (r_pkf rfl rfl rfl) (pv (r_mb rfl) (gF (d0 := 97) rfl rfl rfl (gF (d0 := 97) rfl rfl rfl (gF (d0 := 97) rfl rfl rfl (gF (d0 := 97) rfl rfl rfl (pv (r_pkf rfl rfl rfl) (pv (r_zb rfl) (nil (t_thenR [(4, .bool false)] ⟨rfl, trivial⟩ fun J => ?_))))))))))))))))))))))))))))))))))))))))))))))))))))))
        have hm := Option.some.inj hm
        subst hm
        exact rtn (ret1 rfl rfl ⟨_, rfl, _, (Im.trans im1 (Im.trans im2 (Im.trans im3 (Im.trans im4 (Im.trans im6 (Im.trans im7 (Im.trans im8 (Im.trans im9 (Im.trans im10 (Im.trans im11 (Im.trans im12 (Im.trans im13 (Im.trans im14 (Im.trans im15 (Im.trans im16 (Im.trans im17 (Im.trans im18 im19))))))))))))))))), ⟨rfl, hS19.sel [2] rfl, trivial⟩⟩)
end Go.Proofs.Ytjbmmcbpdodalaa
