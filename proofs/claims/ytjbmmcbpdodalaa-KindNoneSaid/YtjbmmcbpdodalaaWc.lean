/- That Go functions compute their models. Printed by gen2.py. -/
import Derived.Test.YtjbmmcbpdodalaaWb
set_option linter.unusedVariables false
namespace Go.Proofs.Ytjbmmcbpdodalaa
attribute [local irreducible] wpList wpQuiet Code.wp

set_option maxRecDepth 100000 in
set_option maxHeartbeats 1000000 in
theorem law08_KindFinds_sim {g : World} {T0 : Nat → Prop} {w0 : World} {R : Assn} {p0 : List law08Act} {a1 : Option Addr} {c1 : Nat} {p1 : Int} {p2 : List UInt8} {r : Bool} (hS : Sep g T0 w0 [R]) (h1 : SlR rlaw08Act T0 w0 (.slice a1 (List.length p0) c1) p0) (hm : law08_KindFinds p0 p1 p2 = some r) :
    Calls Try.prog 4 #[.slice a1 (List.length p0) c1, .int .i64 p1, .string ⟨p2.toArray⟩] w0 (RetS T0 w0 fun T w v => v = .bool r ∧ Sep g T w [R] ∧ True) := by
  refine enter (args := [.slice a1 (List.length p0) c1, .int .i64 p1, .string ⟨p2.toArray⟩]) Try.func4 rfl Try.ntmps4 rfl fun J => ?_
  unfold law08_KindFinds at hm
  refine sq2 ?_
  refine rg (pv (r_zb rfl) (nil (t_then ?_)))
  refine sq2 ?_
  refine sq2 ?_
  obtain ⟨y1, hx1, hm⟩ := bindS hm
  refine rg (pv (r_ms rfl) (wl rfl (calS cf8 rfl (law08_Few_sim (p0 := p0) (hS.bun [0] [] rfl) h1 hx1) rfl fun v1 T1 w1 im1 rv1 => ?_)))
  obtain ⟨rfl, hS1, _⟩ := rv1
  have hS1 : Sep g T1 w1 [R] := hS1.unb
  refine pv (r_nt rfl) (pv (r_mb rfl) (?_))
  rcases Bool.eq_false_or_eq_true (!y1) with hb1 | hb1
  · have hm := ctrue hb1 hm
    refine gF (d0 := 24) rfl rfl (by rw [hb1]; rfl) (gF (d0 := 24) rfl rfl (by rw [hb1]; rfl) (gF (d0 := 24) rfl rfl (by rw [hb1]; rfl) (pv (r_pkt rfl hb1 rfl) (nil (t_thenR [(0, .slice a1 (List.length p0) c1), (1, .int .i64 p1), (2, .string ⟨p2.toArray⟩), (28, .bool true)] ⟨rfl, rfl, rfl, rfl, trivial⟩ fun J => ?_)))))
    refine cnd (b := true) rfl (fun _ => ?_) (fun h => nomatch h)
    refine sq2 ?_
    obtain ⟨y24, hx53, hm⟩ := bindS hm
    refine rg (wl rfl (calS cf9 rfl (law08_awake_sim  (hS1.bun [0] [] rfl)  hx53) rfl fun v24 T42 w59 im60 rv24 => ?_))
    obtain ⟨rfl, hS60, _⟩ := rv24
    have hS60 : Sep g T42 w59 [R] := hS60.unb
    refine pv (r_zb rfl) (nil (t_thenR [(6, .bool y24)] ⟨rfl, trivial⟩ fun J => ?_))
    have hm := Option.some.inj hm
    subst hm
    exact rtn (r_then (ret1 rfl rfl ⟨_, rfl, _, (Im.trans im1 im60), ⟨rfl, hS60.sel [0] rfl, trivial⟩⟩))
  · have hm := cfalse hb1 hm
    refine gT (d0 := 24) rfl rfl hb1 (pv (r_mt rfl) (gT (d0 := 24) rfl rfl hb1 (pv (r_lnt rfl Try.underlying9) (gT (d0 := 24) rfl rfl hb1 (pv (r_ib rfl rfl rfl) (pv (r_pkf rfl hb1 rfl) (nil (t_thenR [(0, .slice a1 (List.length p0) c1), (1, .int .i64 p1), (2, .string ⟨p2.toArray⟩), (28, .bool (decide (100 < (List.length p2 : Int))))] ⟨rfl, rfl, rfl, rfl, trivial⟩ fun J => ?_))))))))
    refine cnd rfl (fun hb2 => ?_) (fun hb2 => ?_)
    · have hm := ctrue hb2 hm
      refine sq2 ?_
      obtain ⟨y2, hx2, hm⟩ := bindS hm
      refine rg (wl rfl (calS cf9 rfl (law08_awake_sim  (hS1.bun [0] [] rfl)  hx2) rfl fun v2 T2 w2 im2 rv2 => ?_))
      obtain ⟨rfl, hS2, _⟩ := rv2
      have hS2 : Sep g T2 w2 [R] := hS2.unb
      refine pv (r_zb rfl) (nil (t_thenR [(6, .bool y2)] ⟨rfl, trivial⟩ fun J => ?_))
      have hm := Option.some.inj hm
      subst hm
      exact rtn (r_then (ret1 rfl rfl ⟨_, rfl, _, (Im.trans im1 im2), ⟨rfl, hS2.sel [0] rfl, trivial⟩⟩))
    · have hm := cfalse hb2 hm
      refine skp (t_then ?_)
      refine sq2 ?_
      obtain ⟨y3, hx3, hm⟩ := bindS hm
      refine rg (wl rfl (calS cf10 rfl (kind_New_sim  (hS1.bun [0] [] rfl)  hx3) rfl fun v3 T3 w3 im3 rv3 => ?_))
      obtain ⟨b1, a2, n1, c2, rfl, hS3, _⟩ := rv3
      have hS3 : Sep g T3 w3 [R, boxA b1 [.slice a2 n1 c2], ownA rKindKnown 65 (.slice a2 n1 c2) y3.list] := hS3.unb
      refine pv (r_zp rfl) (nil (t_then ?_))
      refine sq2 ?_
      obtain ⟨y4, hx4, hm⟩ := bindS hm
      refine rg (wl rfl (calS cf12 rfl (ref08_Begin_sim  (hS3.bun [0, 1, 2] [] rfl)  hx4) rfl fun v4 T4 w4 im4 rv4 => ?_))
      obtain ⟨a3, n2, c3, rfl, hS4, _⟩ := rv4
      have hS4 : Sep g T4 w4 [R, boxA b1 [.slice a2 n1 c2], ownA rKindKnown 65 (.slice a2 n1 c2) y3.list, ownA rref08Type 51 (.slice a3 n2 c3) y4] := hS4.unb
      refine pv (r_zs rfl) (nil (t_then ?_))
      refine sq2 ?_
      refine sq2 ?_
      refine rg (pv (r_zi rfl) (nil (t_then ?_)))
      obtain ⟨o1, ho1, hq1⟩ := bindS hm
      obtain ⟨bd1, hbd1, ho1⟩ := loop_open ho1
      obtain ⟨T5, im5, hS5, h2⟩ := hS4.seal 3 ⟨rfl, rfl⟩
      have hsh := h2.len
      subst hsh
      have hS5 : Sep g T5 w4 [R, boxA b1 [.slice a2 n1 c2], ownA rKindKnown 65 (.slice a2 n1 c2) y3.list, empA] := hS5
      refine blk (wp_loop_ghost (fun m a w5 => ∃ (J : Nat → Value) (T6 : Nat → Prop) (x4 : KindTable) (a4 : Option Addr) (n3 : Nat) (c4 : Nat) (x2 : List ref08Type) (a5 : Option Addr) (c5 : Nat) (x3 : Int), a = env 155 J [(0, .slice a1 (List.length p0) c1), (1, .int .i64 p1), (2, .string ⟨p2.toArray⟩), (7, .pointer (some ⟨b1, 0, none⟩)), (8, .slice a5 (List.length x2) c5), (9, .int .i64 x3)] ∧ Im T5 w4 T6 w5 ∧ Sep g T6 w5 [R, boxA b1 [.slice a4 n3 c4], ownA rKindKnown 65 (.slice a4 n3 c4) x4.list] ∧ SlR rref08Type T6 w5 (.slice a5 (List.length x2) c5) x2 ∧ loopM bd1 m (x2, x3, x4) = some o1) NN ⟨_, _, y3, _, _, _, y4, _, _, 0, env_has ⟨rfl, rfl, rfl, rfl, rfl, rfl, trivial⟩, Im.refl, hS5.sel [0, 1, 2] rfl, h2, ho1⟩ ?_)
      rintro m _ w5 ⟨J, T6, x4, a4, n3, c4, x2, a5, c5, x3, rfl, im6, hS6, h3, ho1⟩
      obtain ⟨m1, z1, rfl, hm, hn1⟩ := loop_round ho1
      rw [hbd1] at hm
      refine sq2 ?_
      refine sq2 ?_
      refine rg (pv (r_mi rfl) (pv (r_ms rfl) (pv (r_ln rfl Try.underlying22) (pv (r_ib rfl rfl rfl) (nil (t_then ?_))))))
      refine cnd rfl (fun hb3 => ?_) (fun hb3 => ?_)
      · have hm := ctrue hb3 hm
        refine skp (t_then ?_)
        refine sq2 ?_
        refine blk ?_
        refine sq2 ?_
        obtain ⟨u1, hx5, hm⟩ := bindS hm
        obtain ⟨b2, of1, cs1, k1, cp1, hv1, hp1, hl1, he1, hr1, hc1, hT1⟩ := (h1.mono (Im.trans im1 (Im.trans im3 (Im.trans im4 (Im.trans im5 im6))))).ixT hx5 rfl
        obtain ⟨a6, c6, rfl, h4⟩ := rlaw08Act_open hr1
        obtain ⟨y5, hx6, hm⟩ := bindS hm
        refine rg (pv (r_ms rfl) (pv (r_mi rfl) (pv (r_ixe hv1 rfl Try.underlying22 Try.sizeOf34 hp1 hl1 he1) (pv (r_ldS rfl Try.isAgg34 Try.sizeOf34 rfl hc1 (cs := [.int .i64 u1.Kind, .int .i64 u1.N, .int .i64 u1.Long, .string ⟨u1.Name.toArray⟩, .slice a6 (List.length u1.Fields) c6])) (pv (r_mp rfl) (pv (r_ms rfl) (wl rfl (calS cf11 rfl (law08_Act_Done_sim (p0 := u1) (p1 := x4) (H_p1 := boxA b1) (p2 := x2) (hS6.bun [0] [1, 2] rfl) h4 (lnBox b1) h3 hx6) rfl fun v5 T7 w6 im7 rv5 => ?_))))))))
        obtain ⟨a7, c7, a8, n4, c8, rfl, hS7, h5, _⟩ := rv5
        have hS7 : Sep g T7 w6 [R, boxA b1 [.slice a8 n4 c8], ownA rKindKnown 65 (.slice a8 n4 c8) y5.2.2.2.list] := hS7.unb
        refine pv (r_mv rfl) (pv (r_ex (v := .int .i64 y5.1) rfl rfl) (pv (r_ex (v := .int .i64 y5.2.1) rfl rfl) (pv (r_ex (v := .agg #[.int .i64 y5.2.2.1.N, .slice a7 (List.length y5.2.2.1.T) c7, .int .i64 y5.2.2.1.E]) rfl rfl) (wl rfl (alS (zs := [.int .i64 0, .slice none 0 0, .int .i64 0]) Try.zeroValue30 rfl hS7 fun w7 b3 im8 hS8 => ?_)))))
        refine pv (r_zi rfl) (pv (r_zi rfl) (wl rfl (st0B (q := 0) hS8 ⟨rfl, rfl⟩ rfl rfl rfl Try.sizeOf30 rfl rfl rfl fun w8 im9 hS9 => ?_)))
        have hS9 : Sep g T7 w8 [boxA b3 [.int .i64 y5.2.2.1.N, .slice a7 (List.length y5.2.2.1.T) c7, .int .i64 y5.2.2.1.E], R, boxA b1 [.slice a8 n4 c8], ownA rKindKnown 65 (.slice a8 n4 c8) y5.2.2.2.list] := hS9
        refine nil (t_thenR [(0, .slice a1 (List.length p0) c1), (1, .int .i64 p1), (2, .string ⟨p2.toArray⟩), (7, .pointer (some ⟨b1, 0, none⟩)), (9, .int .i64 x3), (12, .pointer (some ⟨b3, 0, none⟩))] ⟨rfl, rfl, rfl, rfl, rfl, rfl, trivial⟩ fun J => ?_)
        refine rg (pv (r_fa rfl Try.underlying30 rfl Try.sizeOf28 rfl) (pv (r_ld rfl Try.isAgg28 (hS9.cell0 (i := 0) ⟨rfl, rfl⟩ (j := 1) rfl)) (pv (r_zs rfl) (nil (t_blk (t_then ?_))))))
        have hm := Option.some.inj hm
        subst hm
        exact rg (pv (r_mi rfl) (pv (r_ib rfl rfl rfl) (pv (r_zi rfl) (nil (t_then ⟨m1, Nat.lt_succ_self _, _, _, y5.2.2.2, _, _, _, y5.2.2.1.T, _, _, (IntKind.wrap .i64 (x3 + 1)), env_has ⟨rfl, rfl, rfl, rfl, rfl, rfl, trivial⟩, (Im.trans im6 (Im.trans im7 (Im.trans im8 im9))), hS9.sel [1, 2, 3] rfl, (h5.mono (Im.trans im8 im9)), hn1⟩)))))
      · have hm := cfalse hb3 hm
        have hm := Option.some.inj hm
        subst hm
        have hn1 : _ = Lp.brk _ := hn1
        subst hn1
        have hm := thn_brk hq1
        refine xt (x_then (x_then (x_eq (t_thenR [(1, .int .i64 p1), (2, .string ⟨p2.toArray⟩), (7, .pointer (some ⟨b1, 0, none⟩)), (8, .slice a5 (List.length x2) c5)] ⟨rfl, rfl, rfl, rfl, trivial⟩ fun J => ?_))))
        refine sq2 ?_
        obtain ⟨y6, hx7, hm⟩ := bindS hm
        refine rg (pv (r_mp rfl) (pv (r_mt rfl) (wl rfl (calS cf16 rfl (kind_Table_Find_sim (p0 := x4) (H_p0 := boxA b1) (p1 := p2) (hS6.bun [0] [1, 2] rfl) (lnBox b1) hx7) rfl fun v6 T8 w9 im10 rv6 => ?_))))
        obtain ⟨rfl, hS10, _⟩ := rv6
        have hS10 : Sep g T8 w9 [R, boxA b1 [.slice a4 n3 c4], ownA rKindKnown 65 (.slice a4 n3 c4) x4.list] := hS10.unb
        refine pv (r_mv rfl) (pv (r_ex (v := .int .i64 y6.1) rfl rfl) (pv (r_ex (v := .int .i64 y6.2) rfl rfl) (pv (r_zi rfl) (pv (r_zi rfl) (nil (t_thenR [(1, .int .i64 p1), (2, .string ⟨p2.toArray⟩), (7, .pointer (some ⟨b1, 0, none⟩)), (8, .slice a5 (List.length x2) c5), (13, .int .i64 y6.1), (14, .int .i64 y6.2)] ⟨rfl, rfl, rfl, rfl, rfl, rfl, trivial⟩ fun J => ?_))))))
        refine sq2 ?_
        obtain ⟨y7, hx8, hm⟩ := bindS hm
        refine rg (pv (r_ms rfl) (pv (r_mt rfl) (wl rfl (calS cf17 rfl (ref08_Find_sim (p0 := x2) (p1 := p2) (hS10.bun [0, 1, 2] [] rfl) (h3.mono im10) hx8) rfl fun v7 T9 w10 im11 rv7 => ?_))))
        obtain ⟨rfl, hS11, _⟩ := rv7
        have hS11 : Sep g T9 w10 [R, boxA b1 [.slice a4 n3 c4], ownA rKindKnown 65 (.slice a4 n3 c4) x4.list] := hS11.unb
        refine pv (r_zi rfl) (nil (t_then ?_))
        refine sq2 ?_
        refine sq2 ?_
        refine rg (pv (r_mi rfl) (pv (r_ib rfl rfl rfl) (pv (r_mi rfl) (pv (r_ib rfl rfl rfl) (pv (r_bn rfl rfl Try.underlying4) (pv (r_mb rfl) (?_)))))))
        rcases Bool.eq_false_or_eq_true (!((y6.2 == 0) == (decide (0 ≤ y7)))) with hb4 | hb4
        · have hm := ctrue hb4 hm
          refine gF (d0 := 65) rfl rfl (by rw [hb4]; rfl) (gF (d0 := 65) rfl rfl (by rw [hb4]; rfl) (gF (d0 := 65) rfl rfl (by rw [hb4]; rfl) (gU (d0 := 68) rfl rfl (gU (d0 := 68) rfl rfl (gU (d0 := 68) rfl rfl (gU (d0 := 71) rfl rfl (gU (d0 := 71) rfl rfl (gU (d0 := 68) rfl rfl (gF (d0 := 65) rfl rfl (by rw [hb4]; rfl) (pv (r_pkt rfl hb4 rfl) (pv (r_mb rfl) (gF (d0 := 77) rfl rfl rfl (gF (d0 := 77) rfl rfl rfl (gF (d0 := 77) rfl rfl rfl (gU (d0 := 80) rfl rfl (gU (d0 := 80) rfl rfl (gU (d0 := 80) rfl rfl (gF (d0 := 77) rfl rfl rfl (pv (r_pkt rfl rfl rfl) (nil (t_thenR [(1, .int .i64 p1), (2, .string ⟨p2.toArray⟩), (7, .pointer (some ⟨b1, 0, none⟩)), (8, .slice a5 (List.length x2) c5), (85, .bool true)] ⟨rfl, rfl, rfl, rfl, rfl, trivial⟩ fun J => ?_)))))))))))))))))))))
          refine cnd (b := true) rfl (fun _ => ?_) (fun h => nomatch h)
          refine sq2 ?_
          refine rg (pv (r_zb rfl) (nil (t_thenR [(6, .bool false)] ⟨rfl, trivial⟩ fun J => ?_)))
          have hm := Option.some.inj hm
          subst hm
          exact rtn (r_then (ret1 rfl rfl ⟨_, rfl, _, (Im.trans im1 (Im.trans im3 (Im.trans im4 (Im.trans im5 (Im.trans im6 (Im.trans im10 im11)))))), ⟨rfl, hS11.sel [0] rfl, trivial⟩⟩))
        · have hm := cfalse hb4 hm
          refine gT (d0 := 65) rfl rfl hb4 (pv (r_mi rfl) (gT (d0 := 65) rfl rfl hb4 (pv (r_ib rfl rfl rfl) (gT (d0 := 65) rfl rfl hb4 (pv (r_mb rfl) (?_))))))
          rcases Bool.eq_false_or_eq_true (y6.2 != 0) with hb5 | hb5
          · have hm := ctrue hb5 hm
            refine gT (d0 := 68) rfl rfl hb5 (pv (r_mi rfl) (gT (d0 := 68) rfl rfl hb5 (pv (r_ib rfl rfl rfl) (gT (d0 := 68) rfl rfl hb5 (pv (r_mb rfl) (?_))))))
            rcases Bool.eq_false_or_eq_true (y6.2 != 4) with hb6 | hb6
            · have hm := ctrue hb6 hm
              refine gF (d0 := 71) rfl rfl (by rw [hb6]; rfl) (gF (d0 := 71) rfl rfl (by rw [hb6]; rfl) (gT (d0 := 68) rfl rfl hb5 (pv (r_pkt rfl hb6 rfl) (gT (d0 := 65) rfl rfl hb4 (pv (r_pkt rfl hb5 rfl) (pv (r_pkf rfl hb4 rfl) (pv (r_mb rfl) (gF (d0 := 77) rfl rfl rfl (gF (d0 := 77) rfl rfl rfl (gF (d0 := 77) rfl rfl rfl (gU (d0 := 80) rfl rfl (gU (d0 := 80) rfl rfl (gU (d0 := 80) rfl rfl (gF (d0 := 77) rfl rfl rfl (pv (r_pkt rfl rfl rfl) (nil (t_thenR [(1, .int .i64 p1), (2, .string ⟨p2.toArray⟩), (7, .pointer (some ⟨b1, 0, none⟩)), (8, .slice a5 (List.length x2) c5), (85, .bool true)] ⟨rfl, rfl, rfl, rfl, rfl, trivial⟩ fun J => ?_)))))))))))))))))
              refine cnd (b := true) rfl (fun _ => ?_) (fun h => nomatch h)
              refine sq2 ?_
              refine rg (pv (r_zb rfl) (nil (t_thenR [(6, .bool false)] ⟨rfl, trivial⟩ fun J => ?_)))
              have hm := Option.some.inj hm
              subst hm
              exact rtn (r_then (ret1 rfl rfl ⟨_, rfl, _, (Im.trans im1 (Im.trans im3 (Im.trans im4 (Im.trans im5 (Im.trans im6 (Im.trans im10 im11)))))), ⟨rfl, hS11.sel [0] rfl, trivial⟩⟩))
            · have hm := cfalse hb6 hm
              refine gT (d0 := 71) rfl rfl hb6 (pv (r_mi rfl) (gT (d0 := 71) rfl rfl hb6 (pv (r_ib rfl rfl rfl) (gT (d0 := 68) rfl rfl hb5 (pv (r_pkf rfl hb6 rfl) (gT (d0 := 65) rfl rfl hb4 (pv (r_pkt rfl hb5 rfl) (pv (r_pkf rfl hb4 rfl) (pv (r_mb rfl) (?_))))))))))
              rcases Bool.eq_false_or_eq_true (y6.1 != 0) with hb7 | hb7
              · have hm := ctrue hb7 hm
                refine gF (d0 := 77) rfl rfl (by rw [hb7]; rfl) (gF (d0 := 77) rfl rfl (by rw [hb7]; rfl) (gF (d0 := 77) rfl rfl (by rw [hb7]; rfl) (gU (d0 := 80) rfl rfl (gU (d0 := 80) rfl rfl (gU (d0 := 80) rfl rfl (gF (d0 := 77) rfl rfl (by rw [hb7]; rfl) (pv (r_pkt rfl hb7 rfl) (nil (t_thenR [(1, .int .i64 p1), (2, .string ⟨p2.toArray⟩), (7, .pointer (some ⟨b1, 0, none⟩)), (8, .slice a5 (List.length x2) c5), (85, .bool true)] ⟨rfl, rfl, rfl, rfl, rfl, trivial⟩ fun J => ?_)))))))))
                refine cnd (b := true) rfl (fun _ => ?_) (fun h => nomatch h)
                refine sq2 ?_
                refine rg (pv (r_zb rfl) (nil (t_thenR [(6, .bool false)] ⟨rfl, trivial⟩ fun J => ?_)))
                have hm := Option.some.inj hm
                subst hm
                exact rtn (r_then (ret1 rfl rfl ⟨_, rfl, _, (Im.trans im1 (Im.trans im3 (Im.trans im4 (Im.trans im5 (Im.trans im6 (Im.trans im10 im11)))))), ⟨rfl, hS11.sel [0] rfl, trivial⟩⟩))
              · have hm := cfalse hb7 hm
                refine gT (d0 := 77) rfl rfl hb7 (pv (r_mi rfl) (gT (d0 := 77) rfl rfl hb7 (pv (r_ib rfl rfl rfl) (gT (d0 := 77) rfl rfl hb7 (pv (r_mb rfl) (?_))))))
                rcases Bool.eq_false_or_eq_true (y6.2 == 0) with hb8 | hb8
                · have hm := ctrue hb8 hm
                  refine gT (d0 := 80) rfl rfl hb8 (pv (r_mi rfl) (gT (d0 := 80) rfl rfl hb8 (pv (r_mi rfl) (gT (d0 := 80) rfl rfl hb8 (pv (r_ib rfl rfl rfl) (gT (d0 := 77) rfl rfl hb7 (pv (r_pkt rfl hb8 rfl) (pv (r_pkf rfl hb7 rfl) (nil (t_thenR [(1, .int .i64 p1), (2, .string ⟨p2.toArray⟩), (7, .pointer (some ⟨b1, 0, none⟩)), (8, .slice a5 (List.length x2) c5), (85, .bool (y6.1 != y7))] ⟨rfl, rfl, rfl, rfl, rfl, trivial⟩ fun J => ?_))))))))))
                  refine cnd rfl (fun hb9 => ?_) (fun hb9 => ?_)
                  · have hm := ctrue hb9 hm
                    refine sq2 ?_
                    refine rg (pv (r_zb rfl) (nil (t_thenR [(6, .bool false)] ⟨rfl, trivial⟩ fun J => ?_)))
                    have hm := Option.some.inj hm
                    subst hm
                    exact rtn (r_then (ret1 rfl rfl ⟨_, rfl, _, (Im.trans im1 (Im.trans im3 (Im.trans im4 (Im.trans im5 (Im.trans im6 (Im.trans im10 im11)))))), ⟨rfl, hS11.sel [0] rfl, trivial⟩⟩))
                  · have hm := cfalse hb9 hm
                    refine skp (t_then ?_)
                    refine sq2 ?_
                    obtain ⟨y8, hx9, hm⟩ := bindS hm
                    refine rg (pv (r_mp rfl) (pv (r_mi rfl) (pv (r_mt rfl) (wl rfl (calS cf18 rfl (kind_Table_Field_sim (p0 := x4) (H_p0 := boxA b1) (p1 := p1) (p2 := p2) (hS11.bun [0] [1, 2] rfl) (lnBox b1) hx9) rfl fun v8 T10 w11 im12 rv8 => ?_)))))
                    obtain ⟨rfl, hS12, _⟩ := rv8
                    have hS12 : Sep g T10 w11 [R, boxA b1 [.slice a4 n3 c4], ownA rKindKnown 65 (.slice a4 n3 c4) x4.list] := hS12.unb
                    refine pv (r_mv rfl) (pv (r_ex (v := .agg #[.string ⟨y8.1.Name.toArray⟩, .int .i64 y8.1.Type_, .int .i64 y8.1.At]) rfl rfl) (pv (r_ex (v := .int .i64 y8.2) rfl rfl) (wl rfl (alS (zs := [.string ⟨([] : List UInt8).toArray⟩, .int .i64 0, .int .i64 0]) Try.zeroValue45 rfl hS12 fun w12 b4 im13 hS13 => ?_))))
                    refine wl rfl (st0B (q := 0) hS13 ⟨rfl, rfl⟩ rfl rfl rfl Try.sizeOf45 rfl rfl rfl fun w13 im14 hS14 => ?_)
                    have hS14 : Sep g T10 w13 [boxA b4 [.string ⟨y8.1.Name.toArray⟩, .int .i64 y8.1.Type_, .int .i64 y8.1.At], R, boxA b1 [.slice a4 n3 c4], ownA rKindKnown 65 (.slice a4 n3 c4) x4.list] := hS14
                    refine pv (r_zi rfl) (nil (t_thenR [(1, .int .i64 p1), (2, .string ⟨p2.toArray⟩), (8, .slice a5 (List.length x2) c5), (16, .pointer (some ⟨b4, 0, none⟩)), (17, .int .i64 y8.2)] ⟨rfl, rfl, rfl, rfl, rfl, trivial⟩ fun J => ?_))
                    refine sq2 ?_
                    refine rg (pv (r_zi rfl) (nil (t_then ?_)))
                    refine sq2 ?_
                    refine rg (wl rfl (alS (zs := [.string ⟨([] : List UInt8).toArray⟩, .int .i64 0, .int .i64 0]) Try.zeroValue45 rfl hS14 fun w14 b5 im15 hS15 => ?_))
                    refine nil (t_then ?_)
                    obtain ⟨kk1, hkk1, hm⟩ := jn_open hm
                    refine cut (fun a w15 => ∃ (J : Nat → Value) (T11 : Nat → Prop) (x5 : Int), a = env 155 J [(1, .int .i64 p1), (2, .string ⟨p2.toArray⟩), (8, .slice a5 (List.length x2) c5), (16, .pointer (some ⟨b4, 0, none⟩)), (17, .int .i64 y8.2), (18, .int .i64 x5), (19, .pointer (some ⟨b5, 0, none⟩))] ∧ Im T10 w14 T11 w15 ∧ Sep g T11 w15 [boxA b5 [.string ⟨([] : List UInt8).toArray⟩, .int .i64 0, .int .i64 0], boxA b4 [.string ⟨y8.1.Name.toArray⟩, .int .i64 y8.1.Type_, .int .i64 y8.1.At], R] ∧ kk1 x5 = some r) ?_ ?_
                    · refine sq2 ?_
                      obtain ⟨y9, hx10, hm⟩ := bindS hm
                      refine rg (pv (r_ms rfl) (pv (r_mi rfl) (wl rfl (calS cf19 rfl (ref08_Is_sim (p0 := x2) (p1 := p1) (hS15.bun [0, 1, 2] [] rfl) (h3.mono (Im.trans im10 (Im.trans im11 (Im.trans im12 (Im.trans im13 (Im.trans im14 im15)))))) hx10) rfl fun v9 T12 w16 im17 rv9 => ?_))))
                      obtain ⟨rfl, hS16, _⟩ := rv9
                      have hS16 : Sep g T12 w16 [boxA b5 [.string ⟨([] : List UInt8).toArray⟩, .int .i64 0, .int .i64 0], boxA b4 [.string ⟨y8.1.Name.toArray⟩, .int .i64 y8.1.Type_, .int .i64 y8.1.At], R] := hS16.unb
                      refine pv (r_mb rfl) (?_)
                      rcases Bool.eq_false_or_eq_true y9 with hb10 | hb10
                      · have hm := ctrue hb10 hm
                        obtain ⟨u2, hx11, hm⟩ := bindS hm
                        obtain ⟨b6, of2, cs2, k2, cp2, hv2, hp2, hl2, he2, hr2, hc2, hT2⟩ := (h3.mono (Im.trans im10 (Im.trans im11 (Im.trans im12 (Im.trans im13 (Im.trans im14 (Im.trans im15 im17))))))).ixT hx11 rfl
                        obtain ⟨a9, c9, rfl, h6⟩ := rref08Type_open hr2
                        refine gT (d0 := 96) rfl rfl hb10 (pv (r_ms rfl) (gT (d0 := 96) rfl rfl hb10 (pv (r_mi rfl) (gT (d0 := 96) rfl rfl hb10 (pv (r_ixe hv2 rfl Try.underlying28 Try.sizeOf51 hp2 hl2 he2) (gT (d0 := 96) rfl rfl hb10 (pv (r_fa rfl Try.underlying51 rfl Try.sizeOf3 rfl) (gT (d0 := 96) rfl rfl hb10 (pv (r_ld rfl Try.isAgg3 (hc2.get (j := 0) rfl)) (gT (d0 := 96) rfl rfl hb10 (pv (r_ib rfl rfl rfl) (pv (r_pkt rfl hb10 rfl) (nil (t_thenR [(1, .int .i64 p1), (2, .string ⟨p2.toArray⟩), (8, .slice a5 (List.length x2) c5), (16, .pointer (some ⟨b4, 0, none⟩)), (17, .int .i64 y8.2), (18, .int .i64 4), (19, .pointer (some ⟨b5, 0, none⟩)), (103, .bool (u2.Kind != 5))] ⟨rfl, rfl, rfl, rfl, rfl, rfl, rfl, rfl, trivial⟩ fun J => ?_))))))))))))))
                        refine cnd rfl (fun hb11 => ?_) (fun hb11 => ?_)
                        · have hm := ctrue hb11 hm
                          exact rg (pv (r_zi rfl) (nil (t_then ⟨_, _, 5, env_has ⟨rfl, rfl, rfl, rfl, rfl, rfl, rfl, trivial⟩, im17, hS16.sel [0, 1, 2] rfl, hm⟩)))
                        · have hm := cfalse hb11 hm
                          exact skp (t_then ⟨_, _, 4, env_has ⟨rfl, rfl, rfl, rfl, rfl, rfl, rfl, trivial⟩, im17, hS16.sel [0, 1, 2] rfl, hm⟩)
                      · have hm := cfalse hb10 hm
                        refine gF (d0 := 96) rfl rfl (by rw [hb10]; rfl) (gF (d0 := 96) rfl rfl (by rw [hb10]; rfl) (gF (d0 := 96) rfl rfl (by rw [hb10]; rfl) (gF (d0 := 96) rfl rfl (by rw [hb10]; rfl) (gF (d0 := 96) rfl rfl (by rw [hb10]; rfl) (gF (d0 := 96) rfl rfl (by rw [hb10]; rfl) (pv (r_pkf rfl hb10 rfl) (nil (t_thenR [(1, .int .i64 p1), (2, .string ⟨p2.toArray⟩), (8, .slice a5 (List.length x2) c5), (16, .pointer (some ⟨b4, 0, none⟩)), (17, .int .i64 y8.2), (18, .int .i64 4), (19, .pointer (some ⟨b5, 0, none⟩)), (103, .bool false)] ⟨rfl, rfl, rfl, rfl, rfl, rfl, rfl, rfl, trivial⟩ fun J => ?_))))))))
                        refine cnd (b := false) rfl (fun h => nomatch h) (fun _ => ?_)
                        exact skp (t_then ⟨_, _, 4, env_has ⟨rfl, rfl, rfl, rfl, rfl, rfl, rfl, trivial⟩, im17, hS16.sel [0, 1, 2] rfl, hm⟩)
                    · rintro _ w15 ⟨J, T11, x5, rfl, im16, hS17, hm⟩
                      rw [hkk1] at hm
                      obtain ⟨kk2, hkk2, hm⟩ := jn_open hm
                      refine cut (fun a w17 => ∃ (J : Nat → Value) (T13 : Nat → Prop) (x7 : GField) (x6 : Int), a = env 155 J [(16, .pointer (some ⟨b4, 0, none⟩)), (17, .int .i64 y8.2), (18, .int .i64 x6), (19, .pointer (some ⟨b5, 0, none⟩))] ∧ Im T11 w15 T13 w17 ∧ Sep g T13 w17 [boxA b5 [.string ⟨x7.Name.toArray⟩, .int .i64 x7.Type_, .int .i64 x7.At], boxA b4 [.string ⟨y8.1.Name.toArray⟩, .int .i64 y8.1.Type_, .int .i64 y8.1.At], R] ∧ kk2 x6 x7 = some r) ?_ ?_
                      · refine sq2 ?_
                        obtain ⟨y10, hx12, hm⟩ := bindS hm
                        refine rg (pv (r_ms rfl) (pv (r_mi rfl) (wl rfl (calS cf19 rfl (ref08_Is_sim (p0 := x2) (p1 := p1) (hS17.bun [0, 1, 2] [] rfl) (h3.mono (Im.trans im10 (Im.trans im11 (Im.trans im12 (Im.trans im13 (Im.trans im14 (Im.trans im15 im16))))))) hx12) rfl fun v10 T14 w18 im19 rv10 => ?_))))
                        obtain ⟨rfl, hS18, _⟩ := rv10
                        have hS18 : Sep g T14 w18 [boxA b5 [.string ⟨([] : List UInt8).toArray⟩, .int .i64 0, .int .i64 0], boxA b4 [.string ⟨y8.1.Name.toArray⟩, .int .i64 y8.1.Type_, .int .i64 y8.1.At], R] := hS18.unb
                        refine pv (r_mb rfl) (?_)
                        rcases Bool.eq_false_or_eq_true y10 with hb13 | hb13
                        · have hm := ctrue hb13 hm
                          obtain ⟨u3, hx13, hm⟩ := bindS hm
                          obtain ⟨b7, of3, cs3, k3, cp3, hv3, hp3, hl3, he3, hr3, hc3, hT3⟩ := (h3.mono (Im.trans im10 (Im.trans im11 (Im.trans im12 (Im.trans im13 (Im.trans im14 (Im.trans im15 (Im.trans im16 im19)))))))).ixT hx13 rfl
                          obtain ⟨a10, c10, rfl, h7⟩ := rref08Type_open hr3
                          refine gT (d0 := 107) rfl rfl hb13 (pv (r_ms rfl) (gT (d0 := 107) rfl rfl hb13 (pv (r_mi rfl) (gT (d0 := 107) rfl rfl hb13 (pv (r_ixe hv3 rfl Try.underlying28 Try.sizeOf51 hp3 hl3 he3) (gT (d0 := 107) rfl rfl hb13 (pv (r_fa rfl Try.underlying51 rfl Try.sizeOf3 rfl) (gT (d0 := 107) rfl rfl hb13 (pv (r_ld rfl Try.isAgg3 (hc3.get (j := 0) rfl)) (gT (d0 := 107) rfl rfl hb13 (pv (r_ib rfl rfl rfl) (pv (r_pkt rfl hb13 rfl) (nil (t_thenR [(1, .int .i64 p1), (2, .string ⟨p2.toArray⟩), (8, .slice a5 (List.length x2) c5), (16, .pointer (some ⟨b4, 0, none⟩)), (17, .int .i64 y8.2), (18, .int .i64 x5), (19, .pointer (some ⟨b5, 0, none⟩)), (114, .bool (u3.Kind == 5))] ⟨rfl, rfl, rfl, rfl, rfl, rfl, rfl, rfl, trivial⟩ fun J => ?_))))))))))))))
                          refine cnd rfl (fun hb14 => ?_) (fun hb14 => ?_)
                          · have hm := ctrue hb14 hm
                            refine sq2 ?_
                            refine rg (pv (r_zi rfl) (nil (t_then ?_)))
                            obtain ⟨o1, ho1, hq1⟩ := bindS hm
                            obtain ⟨bd1, hbd1, ho1⟩ := loop_open ho1
                            refine blk (wp_loop_ghost (fun m a w19 => ∃ (J : Nat → Value) (T15 : Nat → Prop) (x10 : GField) (x8 : Int) (x9 : Int), a = env 155 J [(1, .int .i64 p1), (2, .string ⟨p2.toArray⟩), (8, .slice a5 (List.length x2) c5), (16, .pointer (some ⟨b4, 0, none⟩)), (17, .int .i64 y8.2), (18, .int .i64 x8), (19, .pointer (some ⟨b5, 0, none⟩)), (20, .int .i64 x9)] ∧ Im T14 w18 T15 w19 ∧ Sep g T15 w19 [boxA b5 [.string ⟨x10.Name.toArray⟩, .int .i64 x10.Type_, .int .i64 x10.At], boxA b4 [.string ⟨y8.1.Name.toArray⟩, .int .i64 y8.1.Type_, .int .i64 y8.1.At], R] ∧ loopM bd1 m (x8, x9, x10) = some o1) NN ⟨_, _, (⟨([] : List UInt8), 0, 0⟩ : GField), x5, 0, env_has ⟨rfl, rfl, rfl, rfl, rfl, rfl, rfl, rfl, trivial⟩, Im.refl, hS18.sel [0, 1, 2] rfl, ho1⟩ ?_)
                            rintro m _ w19 ⟨J, T15, x10, x8, x9, rfl, im20, hS19, ho1⟩
                            obtain ⟨m1, z1, rfl, hm, hn1⟩ := loop_round ho1
                            rw [hbd1] at hm
                            refine sq2 ?_
                            refine sq2 ?_
                            obtain ⟨u4, hx14, hm⟩ := bindS hm
                            obtain ⟨b8, of4, cs4, k4, cp4, hv4, hp4, hl4, he4, hr4, hc4, hT4⟩ := (h3.mono (Im.trans im10 (Im.trans im11 (Im.trans im12 (Im.trans im13 (Im.trans im14 (Im.trans im15 (Im.trans im16 (Im.trans im19 im20))))))))).ixT hx14 rfl
                            obtain ⟨a11, c11, rfl, h8⟩ := rref08Type_open hr4
                            refine rg (pv (r_mi rfl) (pv (r_ms rfl) (pv (r_mi rfl) (pv (r_ixe hv4 rfl Try.underlying28 Try.sizeOf51 hp4 hl4 he4) (pv (r_fa rfl Try.underlying51 rfl Try.sizeOf49 rfl) (pv (r_ld rfl Try.isAgg49 (hc4.get (j := 4) rfl)) (pv (r_ln rfl Try.underlying49) (pv (r_ib rfl rfl rfl) (nil (t_thenR [(1, .int .i64 p1), (2, .string ⟨p2.toArray⟩), (8, .slice a5 (List.length x2) c5), (16, .pointer (some ⟨b4, 0, none⟩)), (17, .int .i64 y8.2), (18, .int .i64 x8), (19, .pointer (some ⟨b5, 0, none⟩)), (20, .int .i64 x9), (122, .bool (decide (x9 < (List.length u4.Fields : Int))))] ⟨rfl, rfl, rfl, rfl, rfl, rfl, rfl, rfl, rfl, trivial⟩ fun J => ?_))))))))))
                            refine cnd rfl (fun hb15 => ?_) (fun hb15 => ?_)
                            · have hm := ctrue hb15 hm
                              refine skp (t_then ?_)
                              obtain ⟨kk3, hkk3, hm⟩ := jn_open hm
                              refine cut (fun a w20 => ∃ (J : Nat → Value) (T16 : Nat → Prop) (x12 : GField) (x11 : Int), a = env 155 J [(1, .int .i64 p1), (2, .string ⟨p2.toArray⟩), (8, .slice a5 (List.length x2) c5), (16, .pointer (some ⟨b4, 0, none⟩)), (17, .int .i64 y8.2), (18, .int .i64 x11), (19, .pointer (some ⟨b5, 0, none⟩)), (20, .int .i64 x9)] ∧ Im T15 w19 T16 w20 ∧ Sep g T16 w20 [boxA b5 [.string ⟨x12.Name.toArray⟩, .int .i64 x12.Type_, .int .i64 x12.At], boxA b4 [.string ⟨y8.1.Name.toArray⟩, .int .i64 y8.1.Type_, .int .i64 y8.1.At], R] ∧ kk3 x11 x12 = some z1) ?_ ?_
                              · refine blk ?_
                                refine sq2 ?_
                                obtain ⟨u5, hx15, hm⟩ := bindS hm
                                obtain ⟨b9, of5, cs5, k5, cp5, hv5, hp5, hl5, he5, hr5, hc5, hT5⟩ := (h3.mono (Im.trans im10 (Im.trans im11 (Im.trans im12 (Im.trans im13 (Im.trans im14 (Im.trans im15 (Im.trans im16 (Im.trans im19 im20))))))))).ixT hx15 rfl
                                obtain ⟨a12, c12, rfl, h9⟩ := rref08Type_open hr5
                                obtain ⟨u6, hx16, hm⟩ := bindS hm
                                obtain ⟨b10, of6, cs6, k6, cp6, hv6, hp6, hl6, he6, hr6, hc6, hT6⟩ := h9.ixT hx16 rfl
                                cases rGField_open hr6
                                refine rg (pv (r_ms rfl) (pv (r_mi rfl) (pv (r_ixe hv5 rfl Try.underlying28 Try.sizeOf51 hp5 hl5 he5) (pv (r_fa rfl Try.underlying51 rfl Try.sizeOf49 rfl) (pv (r_ld rfl Try.isAgg49 (hc5.get (j := 4) rfl)) (pv (r_mi rfl) (pv (r_ixe hv6 rfl Try.underlying49 Try.sizeOf52 hp6 hl6 he6) (pv (r_fa rfl Try.underlying52 rfl Try.sizeOf9 rfl) (pv (r_ld rfl Try.isAgg9 (hc6.get (j := 0) rfl)) (pv (r_mt rfl) (pv (r_sqL rfl rfl) (nil (t_thenR [(1, .int .i64 p1), (2, .string ⟨p2.toArray⟩), (8, .slice a5 (List.length x2) c5), (16, .pointer (some ⟨b4, 0, none⟩)), (17, .int .i64 y8.2), (18, .int .i64 x8), (19, .pointer (some ⟨b5, 0, none⟩)), (20, .int .i64 x9), (135, .bool (decide (u6.Name = p2)))] ⟨rfl, rfl, rfl, rfl, rfl, rfl, rfl, rfl, rfl, trivial⟩ fun J => ?_)))))))))))))
                                refine cnd rfl (fun hb16 => ?_) (fun hb16 => ?_)
                                · have hm := ctrue hb16 hm
                                  refine sq2 ?_
                                  refine rg (pv (r_zi rfl) (nil (t_then ?_)))
                                  obtain ⟨u7, hx17, hm⟩ := bindS hm
                                  obtain ⟨b11, of7, cs7, k7, cp7, hv7, hp7, hl7, he7, hr7, hc7, hT7⟩ := (h3.mono (Im.trans im10 (Im.trans im11 (Im.trans im12 (Im.trans im13 (Im.trans im14 (Im.trans im15 (Im.trans im16 (Im.trans im19 im20))))))))).ixT hx17 rfl
                                  obtain ⟨a13, c13, rfl, h10⟩ := rref08Type_open hr7
                                  obtain ⟨u8, hx18, hm⟩ := bindS hm
                                  obtain ⟨b12, of8, cs8, k8, cp8, hv8, hp8, hl8, he8, hr8, hc8, hT8⟩ := h10.ixT hx18 rfl
                                  cases rGField_open hr8
                                  refine rg (pv (r_ms rfl) (pv (r_mi rfl) (pv (r_ixe hv7 rfl Try.underlying28 Try.sizeOf51 hp7 hl7 he7) (pv (r_fa rfl Try.underlying51 rfl Try.sizeOf49 rfl) (pv (r_ld rfl Try.isAgg49 (hc7.get (j := 4) rfl)) (pv (r_mi rfl) (pv (r_ixe hv8 rfl Try.underlying49 Try.sizeOf52 hp8 hl8 he8) (pv (r_ldS rfl Try.isAgg52 Try.sizeOf52 rfl hc8 (cs := [.string ⟨u8.Name.toArray⟩, .int .i64 u8.Type_, .int .i64 u8.At])) (wl rfl (st0B (q := 0) hS19 ⟨rfl, rfl⟩ rfl rfl rfl Try.sizeOf45 rfl rfl rfl fun w21 im22 hS20 => ?_))))))))))
                                  have hS20 : Sep g T15 w21 [boxA b5 [.string ⟨u8.Name.toArray⟩, .int .i64 u8.Type_, .int .i64 u8.At], boxA b4 [.string ⟨y8.1.Name.toArray⟩, .int .i64 y8.1.Type_, .int .i64 y8.1.At], R] := hS20
                                  exact nil (t_blk (t_then ⟨_, _, u8, 0, env_has ⟨rfl, rfl, rfl, rfl, rfl, rfl, rfl, rfl, trivial⟩, im22, hS20.sel [0, 1, 2] rfl, hm⟩))
                                · have hm := cfalse hb16 hm
                                  exact skp (t_blk (t_then ⟨_, _, x10, x8, env_has ⟨rfl, rfl, rfl, rfl, rfl, rfl, rfl, rfl, trivial⟩, Im.refl, hS19.sel [0, 1, 2] rfl, hm⟩))
                              · rintro _ w20 ⟨J, T16, x12, x11, rfl, im21, hS21, hm⟩
                                rw [hkk3] at hm
                                have hm := Option.some.inj hm
                                subst hm
                                exact rg (pv (r_mi rfl) (pv (r_ib rfl rfl rfl) (pv (r_zi rfl) (nil (t_then ⟨m1, Nat.lt_succ_self _, _, _, x12, x11, (IntKind.wrap .i64 (x9 + 1)), env_has ⟨rfl, rfl, rfl, rfl, rfl, rfl, rfl, rfl, trivial⟩, (Im.trans im20 im21), hS21.sel [0, 1, 2] rfl, hn1⟩)))))
                            · have hm := cfalse hb15 hm
                              have hm := Option.some.inj hm
                              subst hm
                              have hn1 : _ = Lp.brk _ := hn1
                              subst hn1
                              have hm := thn_brk hq1
                              exact xt (x_then (x_then (x_eq (t_then ⟨_, _, x10, x8, env_has ⟨rfl, rfl, rfl, rfl, trivial⟩, (Im.trans im19 im20), hS19.sel [0, 1, 2] rfl, hm⟩))))
                          · have hm := cfalse hb14 hm
                            exact skp (t_then ⟨_, _, (⟨([] : List UInt8), 0, 0⟩ : GField), x5, env_has ⟨rfl, rfl, rfl, rfl, trivial⟩, im19, hS18.sel [0, 1, 2] rfl, hm⟩)
                        · have hm := cfalse hb13 hm
                          refine gF (d0 := 107) rfl rfl (by rw [hb13]; rfl) (gF (d0 := 107) rfl rfl (by rw [hb13]; rfl) (gF (d0 := 107) rfl rfl (by rw [hb13]; rfl) (gF (d0 := 107) rfl rfl (by rw [hb13]; rfl) (gF (d0 := 107) rfl rfl (by rw [hb13]; rfl) (gF (d0 := 107) rfl rfl (by rw [hb13]; rfl) (pv (r_pkf rfl hb13 rfl) (nil (t_thenR [(1, .int .i64 p1), (2, .string ⟨p2.toArray⟩), (8, .slice a5 (List.length x2) c5), (16, .pointer (some ⟨b4, 0, none⟩)), (17, .int .i64 y8.2), (18, .int .i64 x5), (19, .pointer (some ⟨b5, 0, none⟩)), (114, .bool false)] ⟨rfl, rfl, rfl, rfl, rfl, rfl, rfl, rfl, trivial⟩ fun J => ?_))))))))
                          refine cnd (b := false) rfl (fun h => nomatch h) (fun _ => ?_)
                          exact skp (t_then ⟨_, _, (⟨([] : List UInt8), 0, 0⟩ : GField), x5, env_has ⟨rfl, rfl, rfl, rfl, trivial⟩, im19, hS18.sel [0, 1, 2] rfl, hm⟩)
                      · rintro _ w17 ⟨J, T13, x7, x6, rfl, im18, hS22, hm⟩
                        rw [hkk2] at hm
                        refine sq2 ?_
                        obtain ⟨y11, hx19, hm⟩ := bindS hm
                        refine rg (wl rfl (calS cf9 rfl (law08_awake_sim  (hS22.bun [0, 1, 2] [] rfl)  hx19) rfl fun v11 T17 w22 im23 rv11 => ?_))
                        obtain ⟨rfl, hS23, _⟩ := rv11
                        have hS23 : Sep g T17 w22 [boxA b5 [.string ⟨x7.Name.toArray⟩, .int .i64 x7.Type_, .int .i64 x7.At], boxA b4 [.string ⟨y8.1.Name.toArray⟩, .int .i64 y8.1.Type_, .int .i64 y8.1.At], R] := hS23.unb
                        refine pv (r_mb rfl) (?_)
                        rcases Bool.eq_false_or_eq_true y11 with hb18 | hb18
                        · have hm := ctrue hb18 hm
                          refine gT (d0 := 145) rfl rfl hb18 (pv (r_mi rfl) (gT (d0 := 145) rfl rfl hb18 (pv (r_mi rfl) (gT (d0 := 145) rfl rfl hb18 (pv (r_ib rfl rfl rfl) (pv (r_pkt rfl hb18 rfl) (pv (r_mb rfl) (?_))))))))
                          rcases Bool.eq_false_or_eq_true (y8.2 == x6) with hb19 | hb19
                          · have hm := ctrue hb19 hm
                            refine gT (d0 := 150) rfl rfl hb19 (pv (r_ldS rfl Try.isAgg45 Try.sizeOf45 rfl (hS23.cells0 (i := 1) ⟨rfl, rfl⟩ (o := 0) rfl) (cs := [.string ⟨y8.1.Name.toArray⟩, .int .i64 y8.1.Type_, .int .i64 y8.1.At])) (gT (d0 := 150) rfl rfl hb19 (pv (r_ldS rfl Try.isAgg45 Try.sizeOf45 rfl (hS23.cells0 (i := 0) ⟨rfl, rfl⟩ (o := 0) rfl) (cs := [.string ⟨x7.Name.toArray⟩, .int .i64 x7.Type_, .int .i64 x7.At])) (gT (d0 := 150) rfl rfl hb19 (pv (r_seqe rfl rfl (eq_45 y8.1.Name y8.1.Type_ y8.1.At x7.Name x7.Type_ x7.At)) (pv (r_pkt rfl hb19 rfl) (pv (r_zb rfl) (nil (t_thenR [(6, .bool ((decide (y8.1.Name = x7.Name)) && (y8.1.Type_ == x7.Type_) && (y8.1.At == x7.At)))] ⟨rfl, trivial⟩ fun J => ?_)))))))))
                            have hm := Option.some.inj hm
                            subst hm
                            exact rtn (ret1 rfl rfl ⟨_, rfl, _, (Im.trans im1 (Im.trans im3 (Im.trans im4 (Im.trans im5 (Im.trans im6 (Im.trans im10 (Im.trans im11 (Im.trans im12 (Im.trans im13 (Im.trans im14 (Im.trans im15 (Im.trans im16 (Im.trans im18 im23))))))))))))), ⟨rfl, hS23.sel [2] rfl, trivial⟩⟩)
                          · have hm := cfalse hb19 hm
                            refine gF (d0 := 150) rfl rfl (by rw [hb19]; rfl) (gF (d0 := 150) rfl rfl (by rw [hb19]; rfl) (gF (d0 := 150) rfl rfl (by rw [hb19]; rfl) (pv (r_pkf rfl hb19 rfl) (pv (r_zb rfl) (nil (t_thenR [(6, .bool false)] ⟨rfl, trivial⟩ fun J => ?_))))))
                            have hm := Option.some.inj hm
                            subst hm
                            exact rtn (ret1 rfl rfl ⟨_, rfl, _, (Im.trans im1 (Im.trans im3 (Im.trans im4 (Im.trans im5 (Im.trans im6 (Im.trans im10 (Im.trans im11 (Im.trans im12 (Im.trans im13 (Im.trans im14 (Im.trans im15 (Im.trans im16 (Im.trans im18 im23))))))))))))), ⟨rfl, hS23.sel [2] rfl, trivial⟩⟩)
                        · have hm := cfalse hb18 hm
                          refine gF (d0 := 145) rfl rfl (by rw [hb18]; rfl) (gF (d0 := 145) rfl rfl (by rw [hb18]; rfl) (gF (d0 := 145) rfl rfl (by rw [hb18]; rfl) (pv (r_pkf rfl hb18 rfl) (pv (r_mb rfl) (gF (d0 := 150) rfl rfl rfl (gF (d0 := 150) rfl rfl rfl (gF (d0 := 150) rfl rfl rfl (pv (r_pkf rfl rfl rfl) (pv (r_zb rfl) (nil (t_thenR [(6, .bool false)] ⟨rfl, trivial⟩ fun J => ?_)))))))))))
                          have hm := Option.some.inj hm
                          subst hm
                          exact rtn (ret1 rfl rfl ⟨_, rfl, _, (Im.trans im1 (Im.trans im3 (Im.trans im4 (Im.trans im5 (Im.trans im6 (Im.trans im10 (Im.trans im11 (Im.trans im12 (Im.trans im13 (Im.trans im14 (Im.trans im15 (Im.trans im16 (Im.trans im18 im23))))))))))))), ⟨rfl, hS23.sel [2] rfl, trivial⟩⟩)
                · have hm := cfalse hb8 hm
                  refine gF (d0 := 80) rfl rfl (by rw [hb8]; rfl) (gF (d0 := 80) rfl rfl (by rw [hb8]; rfl) (gF (d0 := 80) rfl rfl (by rw [hb8]; rfl) (gT (d0 := 77) rfl rfl hb7 (pv (r_pkf rfl hb8 rfl) (pv (r_pkf rfl hb7 rfl) (nil (t_thenR [(1, .int .i64 p1), (2, .string ⟨p2.toArray⟩), (7, .pointer (some ⟨b1, 0, none⟩)), (8, .slice a5 (List.length x2) c5), (85, .bool false)] ⟨rfl, rfl, rfl, rfl, rfl, trivial⟩ fun J => ?_)))))))
                  refine cnd (b := false) rfl (fun h => nomatch h) (fun _ => ?_)
                  refine skp (t_then ?_)
                  refine sq2 ?_
                  obtain ⟨y12, hx20, hm⟩ := bindS hm
                  refine rg (pv (r_mp rfl) (pv (r_mi rfl) (pv (r_mt rfl) (wl rfl (calS cf18 rfl (kind_Table_Field_sim (p0 := x4) (H_p0 := boxA b1) (p1 := p1) (p2 := p2) (hS11.bun [0] [1, 2] rfl) (lnBox b1) hx20) rfl fun v12 T18 w23 im24 rv12 => ?_)))))
                  obtain ⟨rfl, hS24, _⟩ := rv12
                  have hS24 : Sep g T18 w23 [R, boxA b1 [.slice a4 n3 c4], ownA rKindKnown 65 (.slice a4 n3 c4) x4.list] := hS24.unb
                  refine pv (r_mv rfl) (pv (r_ex (v := .agg #[.string ⟨y12.1.Name.toArray⟩, .int .i64 y12.1.Type_, .int .i64 y12.1.At]) rfl rfl) (pv (r_ex (v := .int .i64 y12.2) rfl rfl) (wl rfl (alS (zs := [.string ⟨([] : List UInt8).toArray⟩, .int .i64 0, .int .i64 0]) Try.zeroValue45 rfl hS24 fun w24 b13 im25 hS25 => ?_))))
                  refine wl rfl (st0B (q := 0) hS25 ⟨rfl, rfl⟩ rfl rfl rfl Try.sizeOf45 rfl rfl rfl fun w25 im26 hS26 => ?_)
                  have hS26 : Sep g T18 w25 [boxA b13 [.string ⟨y12.1.Name.toArray⟩, .int .i64 y12.1.Type_, .int .i64 y12.1.At], R, boxA b1 [.slice a4 n3 c4], ownA rKindKnown 65 (.slice a4 n3 c4) x4.list] := hS26
                  refine pv (r_zi rfl) (nil (t_thenR [(1, .int .i64 p1), (2, .string ⟨p2.toArray⟩), (8, .slice a5 (List.length x2) c5), (16, .pointer (some ⟨b13, 0, none⟩)), (17, .int .i64 y12.2)] ⟨rfl, rfl, rfl, rfl, rfl, trivial⟩ fun J => ?_))
                  refine sq2 ?_
                  refine rg (pv (r_zi rfl) (nil (t_then ?_)))
                  refine sq2 ?_
                  refine rg (wl rfl (alS (zs := [.string ⟨([] : List UInt8).toArray⟩, .int .i64 0, .int .i64 0]) Try.zeroValue45 rfl hS26 fun w26 b14 im27 hS27 => ?_))
                  refine nil (t_then ?_)
                  obtain ⟨kk4, hkk4, hm⟩ := jn_open hm
                  refine cut (fun a w27 => ∃ (J : Nat → Value) (T19 : Nat → Prop) (x13 : Int), a = env 155 J [(1, .int .i64 p1), (2, .string ⟨p2.toArray⟩), (8, .slice a5 (List.length x2) c5), (16, .pointer (some ⟨b13, 0, none⟩)), (17, .int .i64 y12.2), (18, .int .i64 x13), (19, .pointer (some ⟨b14, 0, none⟩))] ∧ Im T18 w26 T19 w27 ∧ Sep g T19 w27 [boxA b14 [.string ⟨([] : List UInt8).toArray⟩, .int .i64 0, .int .i64 0], boxA b13 [.string ⟨y12.1.Name.toArray⟩, .int .i64 y12.1.Type_, .int .i64 y12.1.At], R] ∧ kk4 x13 = some r) ?_ ?_
                  · refine sq2 ?_
                    obtain ⟨y13, hx21, hm⟩ := bindS hm
                    refine rg (pv (r_ms rfl) (pv (r_mi rfl) (wl rfl (calS cf19 rfl (ref08_Is_sim (p0 := x2) (p1 := p1) (hS27.bun [0, 1, 2] [] rfl) (h3.mono (Im.trans im10 (Im.trans im11 (Im.trans im24 (Im.trans im25 (Im.trans im26 im27)))))) hx21) rfl fun v13 T20 w28 im29 rv13 => ?_))))
                    obtain ⟨rfl, hS28, _⟩ := rv13
                    have hS28 : Sep g T20 w28 [boxA b14 [.string ⟨([] : List UInt8).toArray⟩, .int .i64 0, .int .i64 0], boxA b13 [.string ⟨y12.1.Name.toArray⟩, .int .i64 y12.1.Type_, .int .i64 y12.1.At], R] := hS28.unb
                    refine pv (r_mb rfl) (?_)
                    rcases Bool.eq_false_or_eq_true y13 with hb21 | hb21
                    · have hm := ctrue hb21 hm
                      obtain ⟨u9, hx22, hm⟩ := bindS hm
                      obtain ⟨b15, of9, cs9, k9, cp9, hv9, hp9, hl9, he9, hr9, hc9, hT9⟩ := (h3.mono (Im.trans im10 (Im.trans im11 (Im.trans im24 (Im.trans im25 (Im.trans im26 (Im.trans im27 im29))))))).ixT hx22 rfl
                      obtain ⟨a14, c14, rfl, h11⟩ := rref08Type_open hr9
                      refine gT (d0 := 96) rfl rfl hb21 (pv (r_ms rfl) (gT (d0 := 96) rfl rfl hb21 (pv (r_mi rfl) (gT (d0 := 96) rfl rfl hb21 (pv (r_ixe hv9 rfl Try.underlying28 Try.sizeOf51 hp9 hl9 he9) (gT (d0 := 96) rfl rfl hb21 (pv (r_fa rfl Try.underlying51 rfl Try.sizeOf3 rfl) (gT (d0 := 96) rfl rfl hb21 (pv (r_ld rfl Try.isAgg3 (hc9.get (j := 0) rfl)) (gT (d0 := 96) rfl rfl hb21 (pv (r_ib rfl rfl rfl) (pv (r_pkt rfl hb21 rfl) (nil (t_thenR [(1, .int .i64 p1), (2, .string ⟨p2.toArray⟩), (8, .slice a5 (List.length x2) c5), (16, .pointer (some ⟨b13, 0, none⟩)), (17, .int .i64 y12.2), (18, .int .i64 4), (19, .pointer (some ⟨b14, 0, none⟩)), (103, .bool (u9.Kind != 5))] ⟨rfl, rfl, rfl, rfl, rfl, rfl, rfl, rfl, trivial⟩ fun J => ?_))))))))))))))
                      refine cnd rfl (fun hb22 => ?_) (fun hb22 => ?_)
                      · have hm := ctrue hb22 hm
                        exact rg (pv (r_zi rfl) (nil (t_then ⟨_, _, 5, env_has ⟨rfl, rfl, rfl, rfl, rfl, rfl, rfl, trivial⟩, im29, hS28.sel [0, 1, 2] rfl, hm⟩)))
                      · have hm := cfalse hb22 hm
                        exact skp (t_then ⟨_, _, 4, env_has ⟨rfl, rfl, rfl, rfl, rfl, rfl, rfl, trivial⟩, im29, hS28.sel [0, 1, 2] rfl, hm⟩)
                    · have hm := cfalse hb21 hm
                      refine gF (d0 := 96) rfl rfl (by rw [hb21]; rfl) (gF (d0 := 96) rfl rfl (by rw [hb21]; rfl) (gF (d0 := 96) rfl rfl (by rw [hb21]; rfl) (gF (d0 := 96) rfl rfl (by rw [hb21]; rfl) (gF (d0 := 96) rfl rfl (by rw [hb21]; rfl) (gF (d0 := 96) rfl rfl (by rw [hb21]; rfl) (pv (r_pkf rfl hb21 rfl) (nil (t_thenR [(1, .int .i64 p1), (2, .string ⟨p2.toArray⟩), (8, .slice a5 (List.length x2) c5), (16, .pointer (some ⟨b13, 0, none⟩)), (17, .int .i64 y12.2), (18, .int .i64 4), (19, .pointer (some ⟨b14, 0, none⟩)), (103, .bool false)] ⟨rfl, rfl, rfl, rfl, rfl, rfl, rfl, rfl, trivial⟩ fun J => ?_))))))))
                      refine cnd (b := false) rfl (fun h => nomatch h) (fun _ => ?_)
                      exact skp (t_then ⟨_, _, 4, env_has ⟨rfl, rfl, rfl, rfl, rfl, rfl, rfl, trivial⟩, im29, hS28.sel [0, 1, 2] rfl, hm⟩)
                  · rintro _ w27 ⟨J, T19, x13, rfl, im28, hS29, hm⟩
                    rw [hkk4] at hm
                    obtain ⟨kk5, hkk5, hm⟩ := jn_open hm
                    refine cut (fun a w29 => ∃ (J : Nat → Value) (T21 : Nat → Prop) (x15 : GField) (x14 : Int), a = env 155 J [(16, .pointer (some ⟨b13, 0, none⟩)), (17, .int .i64 y12.2), (18, .int .i64 x14), (19, .pointer (some ⟨b14, 0, none⟩))] ∧ Im T19 w27 T21 w29 ∧ Sep g T21 w29 [boxA b14 [.string ⟨x15.Name.toArray⟩, .int .i64 x15.Type_, .int .i64 x15.At], boxA b13 [.string ⟨y12.1.Name.toArray⟩, .int .i64 y12.1.Type_, .int .i64 y12.1.At], R] ∧ kk5 x14 x15 = some r) ?_ ?_
                    · refine sq2 ?_
                      obtain ⟨y14, hx23, hm⟩ := bindS hm
                      refine rg (pv (r_ms rfl) (pv (r_mi rfl) (wl rfl (calS cf19 rfl (ref08_Is_sim (p0 := x2) (p1 := p1) (hS29.bun [0, 1, 2] [] rfl) (h3.mono (Im.trans im10 (Im.trans im11 (Im.trans im24 (Im.trans im25 (Im.trans im26 (Im.trans im27 im28))))))) hx23) rfl fun v14 T22 w30 im31 rv14 => ?_))))
                      obtain ⟨rfl, hS30, _⟩ := rv14
                      have hS30 : Sep g T22 w30 [boxA b14 [.string ⟨([] : List UInt8).toArray⟩, .int .i64 0, .int .i64 0], boxA b13 [.string ⟨y12.1.Name.toArray⟩, .int .i64 y12.1.Type_, .int .i64 y12.1.At], R] := hS30.unb
                      refine pv (r_mb rfl) (?_)
                      rcases Bool.eq_false_or_eq_true y14 with hb24 | hb24
                      · have hm := ctrue hb24 hm
                        obtain ⟨u10, hx24, hm⟩ := bindS hm
                        obtain ⟨b16, of10, cs10, k10, cp10, hv10, hp10, hl10, he10, hr10, hc10, hT10⟩ := (h3.mono (Im.trans im10 (Im.trans im11 (Im.trans im24 (Im.trans im25 (Im.trans im26 (Im.trans im27 (Im.trans im28 im31)))))))).ixT hx24 rfl
                        obtain ⟨a15, c15, rfl, h12⟩ := rref08Type_open hr10
                        refine gT (d0 := 107) rfl rfl hb24 (pv (r_ms rfl) (gT (d0 := 107) rfl rfl hb24 (pv (r_mi rfl) (gT (d0 := 107) rfl rfl hb24 (pv (r_ixe hv10 rfl Try.underlying28 Try.sizeOf51 hp10 hl10 he10) (gT (d0 := 107) rfl rfl hb24 (pv (r_fa rfl Try.underlying51 rfl Try.sizeOf3 rfl) (gT (d0 := 107) rfl rfl hb24 (pv (r_ld rfl Try.isAgg3 (hc10.get (j := 0) rfl)) (gT (d0 := 107) rfl rfl hb24 (pv (r_ib rfl rfl rfl) (pv (r_pkt rfl hb24 rfl) (nil (t_thenR [(1, .int .i64 p1), (2, .string ⟨p2.toArray⟩), (8, .slice a5 (List.length x2) c5), (16, .pointer (some ⟨b13, 0, none⟩)), (17, .int .i64 y12.2), (18, .int .i64 x13), (19, .pointer (some ⟨b14, 0, none⟩)), (114, .bool (u10.Kind == 5))] ⟨rfl, rfl, rfl, rfl, rfl, rfl, rfl, rfl, trivial⟩ fun J => ?_))))))))))))))
                        refine cnd rfl (fun hb25 => ?_) (fun hb25 => ?_)
                        · have hm := ctrue hb25 hm
                          refine sq2 ?_
                          refine rg (pv (r_zi rfl) (nil (t_then ?_)))
                          obtain ⟨o1, ho1, hq1⟩ := bindS hm
                          obtain ⟨bd1, hbd1, ho1⟩ := loop_open ho1
                          refine blk (wp_loop_ghost (fun m a w31 => ∃ (J : Nat → Value) (T23 : Nat → Prop) (x18 : GField) (x16 : Int) (x17 : Int), a = env 155 J [(1, .int .i64 p1), (2, .string ⟨p2.toArray⟩), (8, .slice a5 (List.length x2) c5), (16, .pointer (some ⟨b13, 0, none⟩)), (17, .int .i64 y12.2), (18, .int .i64 x16), (19, .pointer (some ⟨b14, 0, none⟩)), (20, .int .i64 x17)] ∧ Im T22 w30 T23 w31 ∧ Sep g T23 w31 [boxA b14 [.string ⟨x18.Name.toArray⟩, .int .i64 x18.Type_, .int .i64 x18.At], boxA b13 [.string ⟨y12.1.Name.toArray⟩, .int .i64 y12.1.Type_, .int .i64 y12.1.At], R] ∧ loopM bd1 m (x16, x17, x18) = some o1) NN ⟨_, _, (⟨([] : List UInt8), 0, 0⟩ : GField), x13, 0, env_has ⟨rfl, rfl, rfl, rfl, rfl, rfl, rfl, rfl, trivial⟩, Im.refl, hS30.sel [0, 1, 2] rfl, ho1⟩ ?_)
                          rintro m _ w31 ⟨J, T23, x18, x16, x17, rfl, im32, hS31, ho1⟩
                          obtain ⟨m1, z1, rfl, hm, hn1⟩ := loop_round ho1
                          rw [hbd1] at hm
                          refine sq2 ?_
                          refine sq2 ?_
                          obtain ⟨u11, hx25, hm⟩ := bindS hm
                          obtain ⟨b17, of11, cs11, k11, cp11, hv11, hp11, hl11, he11, hr11, hc11, hT11⟩ := (h3.mono (Im.trans im10 (Im.trans im11 (Im.trans im24 (Im.trans im25 (Im.trans im26 (Im.trans im27 (Im.trans im28 (Im.trans im31 im32))))))))).ixT hx25 rfl
                          obtain ⟨a16, c16, rfl, h13⟩ := rref08Type_open hr11
                          refine rg (pv (r_mi rfl) (pv (r_ms rfl) (pv (r_mi rfl) (pv (r_ixe hv11 rfl Try.underlying28 Try.sizeOf51 hp11 hl11 he11) (pv (r_fa rfl Try.underlying51 rfl Try.sizeOf49 rfl) (pv (r_ld rfl Try.isAgg49 (hc11.get (j := 4) rfl)) (pv (r_ln rfl Try.underlying49) (pv (r_ib rfl rfl rfl) (nil (t_thenR [(1, .int .i64 p1), (2, .string ⟨p2.toArray⟩), (8, .slice a5 (List.length x2) c5), (16, .pointer (some ⟨b13, 0, none⟩)), (17, .int .i64 y12.2), (18, .int .i64 x16), (19, .pointer (some ⟨b14, 0, none⟩)), (20, .int .i64 x17), (122, .bool (decide (x17 < (List.length u11.Fields : Int))))] ⟨rfl, rfl, rfl, rfl, rfl, rfl, rfl, rfl, rfl, trivial⟩ fun J => ?_))))))))))
                          refine cnd rfl (fun hb26 => ?_) (fun hb26 => ?_)
                          · have hm := ctrue hb26 hm
                            refine skp (t_then ?_)
                            obtain ⟨kk6, hkk6, hm⟩ := jn_open hm
                            refine cut (fun a w32 => ∃ (J : Nat → Value) (T24 : Nat → Prop) (x20 : GField) (x19 : Int), a = env 155 J [(1, .int .i64 p1), (2, .string ⟨p2.toArray⟩), (8, .slice a5 (List.length x2) c5), (16, .pointer (some ⟨b13, 0, none⟩)), (17, .int .i64 y12.2), (18, .int .i64 x19), (19, .pointer (some ⟨b14, 0, none⟩)), (20, .int .i64 x17)] ∧ Im T23 w31 T24 w32 ∧ Sep g T24 w32 [boxA b14 [.string ⟨x20.Name.toArray⟩, .int .i64 x20.Type_, .int .i64 x20.At], boxA b13 [.string ⟨y12.1.Name.toArray⟩, .int .i64 y12.1.Type_, .int .i64 y12.1.At], R] ∧ kk6 x19 x20 = some z1) ?_ ?_
                            · refine blk ?_
                              refine sq2 ?_
                              obtain ⟨u12, hx26, hm⟩ := bindS hm
                              obtain ⟨b18, of12, cs12, k12, cp12, hv12, hp12, hl12, he12, hr12, hc12, hT12⟩ := (h3.mono (Im.trans im10 (Im.trans im11 (Im.trans im24 (Im.trans im25 (Im.trans im26 (Im.trans im27 (Im.trans im28 (Im.trans im31 im32))))))))).ixT hx26 rfl
                              obtain ⟨a17, c17, rfl, h14⟩ := rref08Type_open hr12
                              obtain ⟨u13, hx27, hm⟩ := bindS hm
                              obtain ⟨b19, of13, cs13, k13, cp13, hv13, hp13, hl13, he13, hr13, hc13, hT13⟩ := h14.ixT hx27 rfl
                              cases rGField_open hr13
                              refine rg (pv (r_ms rfl) (pv (r_mi rfl) (pv (r_ixe hv12 rfl Try.underlying28 Try.sizeOf51 hp12 hl12 he12) (pv (r_fa rfl Try.underlying51 rfl Try.sizeOf49 rfl) (pv (r_ld rfl Try.isAgg49 (hc12.get (j := 4) rfl)) (pv (r_mi rfl) (pv (r_ixe hv13 rfl Try.underlying49 Try.sizeOf52 hp13 hl13 he13) (pv (r_fa rfl Try.underlying52 rfl Try.sizeOf9 rfl) (pv (r_ld rfl Try.isAgg9 (hc13.get (j := 0) rfl)) (pv (r_mt rfl) (pv (r_sqL rfl rfl) (nil (t_thenR [(1, .int .i64 p1), (2, .string ⟨p2.toArray⟩), (8, .slice a5 (List.length x2) c5), (16, .pointer (some ⟨b13, 0, none⟩)), (17, .int .i64 y12.2), (18, .int .i64 x16), (19, .pointer (some ⟨b14, 0, none⟩)), (20, .int .i64 x17), (135, .bool (decide (u13.Name = p2)))] ⟨rfl, rfl, rfl, rfl, rfl, rfl, rfl, rfl, rfl, trivial⟩ fun J => ?_)))))))))))))
                              refine cnd rfl (fun hb27 => ?_) (fun hb27 => ?_)
                              · have hm := ctrue hb27 hm
                                refine sq2 ?_
                                refine rg (pv (r_zi rfl) (nil (t_then ?_)))
                                obtain ⟨u14, hx28, hm⟩ := bindS hm
                                obtain ⟨b20, of14, cs14, k14, cp14, hv14, hp14, hl14, he14, hr14, hc14, hT14⟩ := (h3.mono (Im.trans im10 (Im.trans im11 (Im.trans im24 (Im.trans im25 (Im.trans im26 (Im.trans im27 (Im.trans im28 (Im.trans im31 im32))))))))).ixT hx28 rfl
                                obtain ⟨a18, c18, rfl, h15⟩ := rref08Type_open hr14
                                obtain ⟨u15, hx29, hm⟩ := bindS hm
                                obtain ⟨b21, of15, cs15, k15, cp15, hv15, hp15, hl15, he15, hr15, hc15, hT15⟩ := h15.ixT hx29 rfl
                                cases rGField_open hr15
                                refine rg (pv (r_ms rfl) (pv (r_mi rfl) (pv (r_ixe hv14 rfl Try.underlying28 Try.sizeOf51 hp14 hl14 he14) (pv (r_fa rfl Try.underlying51 rfl Try.sizeOf49 rfl) (pv (r_ld rfl Try.isAgg49 (hc14.get (j := 4) rfl)) (pv (r_mi rfl) (pv (r_ixe hv15 rfl Try.underlying49 Try.sizeOf52 hp15 hl15 he15) (pv (r_ldS rfl Try.isAgg52 Try.sizeOf52 rfl hc15 (cs := [.string ⟨u15.Name.toArray⟩, .int .i64 u15.Type_, .int .i64 u15.At])) (wl rfl (st0B (q := 0) hS31 ⟨rfl, rfl⟩ rfl rfl rfl Try.sizeOf45 rfl rfl rfl fun w33 im34 hS32 => ?_))))))))))
                                have hS32 : Sep g T23 w33 [boxA b14 [.string ⟨u15.Name.toArray⟩, .int .i64 u15.Type_, .int .i64 u15.At], boxA b13 [.string ⟨y12.1.Name.toArray⟩, .int .i64 y12.1.Type_, .int .i64 y12.1.At], R] := hS32
                                exact nil (t_blk (t_then ⟨_, _, u15, 0, env_has ⟨rfl, rfl, rfl, rfl, rfl, rfl, rfl, rfl, trivial⟩, im34, hS32.sel [0, 1, 2] rfl, hm⟩))
                              · have hm := cfalse hb27 hm
                                exact skp (t_blk (t_then ⟨_, _, x18, x16, env_has ⟨rfl, rfl, rfl, rfl, rfl, rfl, rfl, rfl, trivial⟩, Im.refl, hS31.sel [0, 1, 2] rfl, hm⟩))
                            · rintro _ w32 ⟨J, T24, x20, x19, rfl, im33, hS33, hm⟩
                              rw [hkk6] at hm
                              have hm := Option.some.inj hm
                              subst hm
                              exact rg (pv (r_mi rfl) (pv (r_ib rfl rfl rfl) (pv (r_zi rfl) (nil (t_then ⟨m1, Nat.lt_succ_self _, _, _, x20, x19, (IntKind.wrap .i64 (x17 + 1)), env_has ⟨rfl, rfl, rfl, rfl, rfl, rfl, rfl, rfl, trivial⟩, (Im.trans im32 im33), hS33.sel [0, 1, 2] rfl, hn1⟩)))))
                          · have hm := cfalse hb26 hm
                            have hm := Option.some.inj hm
                            subst hm
                            have hn1 : _ = Lp.brk _ := hn1
                            subst hn1
                            have hm := thn_brk hq1
                            exact xt (x_then (x_then (x_eq (t_then ⟨_, _, x18, x16, env_has ⟨rfl, rfl, rfl, rfl, trivial⟩, (Im.trans im31 im32), hS31.sel [0, 1, 2] rfl, hm⟩))))
                        · have hm := cfalse hb25 hm
                          exact skp (t_then ⟨_, _, (⟨([] : List UInt8), 0, 0⟩ : GField), x13, env_has ⟨rfl, rfl, rfl, rfl, trivial⟩, im31, hS30.sel [0, 1, 2] rfl, hm⟩)
                      · have hm := cfalse hb24 hm
                        refine gF (d0 := 107) rfl rfl (by rw [hb24]; rfl) (gF (d0 := 107) rfl rfl (by rw [hb24]; rfl) (gF (d0 := 107) rfl rfl (by rw [hb24]; rfl) (gF (d0 := 107) rfl rfl (by rw [hb24]; rfl) (gF (d0 := 107) rfl rfl (by rw [hb24]; rfl) (gF (d0 := 107) rfl rfl (by rw [hb24]; rfl) (pv (r_pkf rfl hb24 rfl) (nil (t_thenR [(1, .int .i64 p1), (2, .string ⟨p2.toArray⟩), (8, .slice a5 (List.length x2) c5), (16, .pointer (some ⟨b13, 0, none⟩)), (17, .int .i64 y12.2), (18, .int .i64 x13), (19, .pointer (some ⟨b14, 0, none⟩)), (114, .bool false)] ⟨rfl, rfl, rfl, rfl, rfl, rfl, rfl, rfl, trivial⟩ fun J => ?_))))))))
                        refine cnd (b := false) rfl (fun h => nomatch h) (fun _ => ?_)
                        exact skp (t_then ⟨_, _, (⟨([] : List UInt8), 0, 0⟩ : GField), x13, env_has ⟨rfl, rfl, rfl, rfl, trivial⟩, im31, hS30.sel [0, 1, 2] rfl, hm⟩)
                    · rintro _ w29 ⟨J, T21, x15, x14, rfl, im30, hS34, hm⟩
                      rw [hkk5] at hm
                      refine sq2 ?_
                      obtain ⟨y15, hx30, hm⟩ := bindS hm
                      refine rg (wl rfl (calS cf9 rfl (law08_awake_sim  (hS34.bun [0, 1, 2] [] rfl)  hx30) rfl fun v15 T25 w34 im35 rv15 => ?_))
                      obtain ⟨rfl, hS35, _⟩ := rv15
                      have hS35 : Sep g T25 w34 [boxA b14 [.string ⟨x15.Name.toArray⟩, .int .i64 x15.Type_, .int .i64 x15.At], boxA b13 [.string ⟨y12.1.Name.toArray⟩, .int .i64 y12.1.Type_, .int .i64 y12.1.At], R] := hS35.unb
                      refine pv (r_mb rfl) (?_)
                      rcases Bool.eq_false_or_eq_true y15 with hb29 | hb29
                      · have hm := ctrue hb29 hm
                        refine gT (d0 := 145) rfl rfl hb29 (pv (r_mi rfl) (gT (d0 := 145) rfl rfl hb29 (pv (r_mi rfl) (gT (d0 := 145) rfl rfl hb29 (pv (r_ib rfl rfl rfl) (pv (r_pkt rfl hb29 rfl) (pv (r_mb rfl) (?_))))))))
                        rcases Bool.eq_false_or_eq_true (y12.2 == x14) with hb30 | hb30
                        · have hm := ctrue hb30 hm
                          refine gT (d0 := 150) rfl rfl hb30 (pv (r_ldS rfl Try.isAgg45 Try.sizeOf45 rfl (hS35.cells0 (i := 1) ⟨rfl, rfl⟩ (o := 0) rfl) (cs := [.string ⟨y12.1.Name.toArray⟩, .int .i64 y12.1.Type_, .int .i64 y12.1.At])) (gT (d0 := 150) rfl rfl hb30 (pv (r_ldS rfl Try.isAgg45 Try.sizeOf45 rfl (hS35.cells0 (i := 0) ⟨rfl, rfl⟩ (o := 0) rfl) (cs := [.string ⟨x15.Name.toArray⟩, .int .i64 x15.Type_, .int .i64 x15.At])) (gT (d0 := 150) rfl rfl hb30 (pv (r_seqe rfl rfl (eq_45 y12.1.Name y12.1.Type_ y12.1.At x15.Name x15.Type_ x15.At)) (pv (r_pkt rfl hb30 rfl) (pv (r_zb rfl) (nil (t_thenR [(6, .bool ((decide (y12.1.Name = x15.Name)) && (y12.1.Type_ == x15.Type_) && (y12.1.At == x15.At)))] ⟨rfl, trivial⟩ fun J => ?_)))))))))
                          have hm := Option.some.inj hm
                          subst hm
                          exact rtn (ret1 rfl rfl ⟨_, rfl, _, (Im.trans im1 (Im.trans im3 (Im.trans im4 (Im.trans im5 (Im.trans im6 (Im.trans im10 (Im.trans im11 (Im.trans im24 (Im.trans im25 (Im.trans im26 (Im.trans im27 (Im.trans im28 (Im.trans im30 im35))))))))))))), ⟨rfl, hS35.sel [2] rfl, trivial⟩⟩)
                        · have hm := cfalse hb30 hm
                          refine gF (d0 := 150) rfl rfl (by rw [hb30]; rfl) (gF (d0 := 150) rfl rfl (by rw [hb30]; rfl) (gF (d0 := 150) rfl rfl (by rw [hb30]; rfl) (pv (r_pkf rfl hb30 rfl) (pv (r_zb rfl) (nil (t_thenR [(6, .bool false)] ⟨rfl, trivial⟩ fun J => ?_))))))
                          have hm := Option.some.inj hm
                          subst hm
                          exact rtn (ret1 rfl rfl ⟨_, rfl, _, (Im.trans im1 (Im.trans im3 (Im.trans im4 (Im.trans im5 (Im.trans im6 (Im.trans im10 (Im.trans im11 (Im.trans im24 (Im.trans im25 (Im.trans im26 (Im.trans im27 (Im.trans im28 (Im.trans im30 im35))))))))))))), ⟨rfl, hS35.sel [2] rfl, trivial⟩⟩)
                      · have hm := cfalse hb29 hm
                        refine gF (d0 := 145) rfl rfl (by rw [hb29]; rfl) (gF (d0 := 145) rfl rfl (by rw [hb29]; rfl) (gF (d0 := 145) rfl rfl (by rw [hb29]; rfl) (pv (r_pkf rfl hb29 rfl) (pv (r_mb rfl) (gF (d0 := 150) rfl rfl rfl (gF (d0 := 150) rfl rfl rfl (gF (d0 := 150) rfl rfl rfl (pv (r_pkf rfl rfl rfl) (pv (r_zb rfl) (nil (t_thenR [(6, .bool false)] ⟨rfl, trivial⟩ fun J => ?_)))))))))))
                        have hm := Option.some.inj hm
                        subst hm
                        exact rtn (ret1 rfl rfl ⟨_, rfl, _, (Im.trans im1 (Im.trans im3 (Im.trans im4 (Im.trans im5 (Im.trans im6 (Im.trans im10 (Im.trans im11 (Im.trans im24 (Im.trans im25 (Im.trans im26 (Im.trans im27 (Im.trans im28 (Im.trans im30 im35))))))))))))), ⟨rfl, hS35.sel [2] rfl, trivial⟩⟩)
          · have hm := cfalse hb5 hm
            refine gF (d0 := 68) rfl rfl (by rw [hb5]; rfl) (gF (d0 := 68) rfl rfl (by rw [hb5]; rfl) (gF (d0 := 68) rfl rfl (by rw [hb5]; rfl) (gU (d0 := 71) rfl rfl (gU (d0 := 71) rfl rfl (gF (d0 := 68) rfl rfl (by rw [hb5]; rfl) (gT (d0 := 65) rfl rfl hb4 (pv (r_pkf rfl hb5 rfl) (pv (r_pkf rfl hb4 rfl) (pv (r_mb rfl) (gT (d0 := 77) rfl rfl rfl (pv (r_mi rfl) (gT (d0 := 77) rfl rfl rfl (pv (r_ib rfl rfl rfl) (gT (d0 := 77) rfl rfl rfl (pv (r_mb rfl) (?_))))))))))))))))
            rcases Bool.eq_false_or_eq_true (y6.2 == 0) with hb33 | hb33
            · have hm := ctrue hb33 hm
              refine gT (d0 := 80) rfl rfl hb33 (pv (r_mi rfl) (gT (d0 := 80) rfl rfl hb33 (pv (r_mi rfl) (gT (d0 := 80) rfl rfl hb33 (pv (r_ib rfl rfl rfl) (gT (d0 := 77) rfl rfl rfl (pv (r_pkt rfl hb33 rfl) (pv (r_pkf rfl rfl rfl) (nil (t_thenR [(1, .int .i64 p1), (2, .string ⟨p2.toArray⟩), (7, .pointer (some ⟨b1, 0, none⟩)), (8, .slice a5 (List.length x2) c5), (85, .bool (y6.1 != y7))] ⟨rfl, rfl, rfl, rfl, rfl, trivial⟩ fun J => ?_))))))))))
              refine cnd rfl (fun hb34 => ?_) (fun hb34 => ?_)
              · have hm := ctrue hb34 hm
                refine sq2 ?_
                refine rg (pv (r_zb rfl) (nil (t_thenR [(6, .bool false)] ⟨rfl, trivial⟩ fun J => ?_)))
                have hm := Option.some.inj hm
                subst hm
                exact rtn (r_then (ret1 rfl rfl ⟨_, rfl, _, (Im.trans im1 (Im.trans im3 (Im.trans im4 (Im.trans im5 (Im.trans im6 (Im.trans im10 im11)))))), ⟨rfl, hS11.sel [0] rfl, trivial⟩⟩))
              · have hm := cfalse hb34 hm
                refine skp (t_then ?_)
                refine sq2 ?_
                obtain ⟨y16, hx31, hm⟩ := bindS hm
                refine rg (pv (r_mp rfl) (pv (r_mi rfl) (pv (r_mt rfl) (wl rfl (calS cf18 rfl (kind_Table_Field_sim (p0 := x4) (H_p0 := boxA b1) (p1 := p1) (p2 := p2) (hS11.bun [0] [1, 2] rfl) (lnBox b1) hx31) rfl fun v16 T26 w35 im36 rv16 => ?_)))))
                obtain ⟨rfl, hS36, _⟩ := rv16
                have hS36 : Sep g T26 w35 [R, boxA b1 [.slice a4 n3 c4], ownA rKindKnown 65 (.slice a4 n3 c4) x4.list] := hS36.unb
                refine pv (r_mv rfl) (pv (r_ex (v := .agg #[.string ⟨y16.1.Name.toArray⟩, .int .i64 y16.1.Type_, .int .i64 y16.1.At]) rfl rfl) (pv (r_ex (v := .int .i64 y16.2) rfl rfl) (wl rfl (alS (zs := [.string ⟨([] : List UInt8).toArray⟩, .int .i64 0, .int .i64 0]) Try.zeroValue45 rfl hS36 fun w36 b22 im37 hS37 => ?_))))
                refine wl rfl (st0B (q := 0) hS37 ⟨rfl, rfl⟩ rfl rfl rfl Try.sizeOf45 rfl rfl rfl fun w37 im38 hS38 => ?_)
                have hS38 : Sep g T26 w37 [boxA b22 [.string ⟨y16.1.Name.toArray⟩, .int .i64 y16.1.Type_, .int .i64 y16.1.At], R, boxA b1 [.slice a4 n3 c4], ownA rKindKnown 65 (.slice a4 n3 c4) x4.list] := hS38
                refine pv (r_zi rfl) (nil (t_thenR [(1, .int .i64 p1), (2, .string ⟨p2.toArray⟩), (8, .slice a5 (List.length x2) c5), (16, .pointer (some ⟨b22, 0, none⟩)), (17, .int .i64 y16.2)] ⟨rfl, rfl, rfl, rfl, rfl, trivial⟩ fun J => ?_))
                refine sq2 ?_
                refine rg (pv (r_zi rfl) (nil (t_then ?_)))
                refine sq2 ?_
                refine rg (wl rfl (alS (zs := [.string ⟨([] : List UInt8).toArray⟩, .int .i64 0, .int .i64 0]) Try.zeroValue45 rfl hS38 fun w38 b23 im39 hS39 => ?_))
                refine nil (t_then ?_)
                obtain ⟨kk7, hkk7, hm⟩ := jn_open hm
                refine cut (fun a w39 => ∃ (J : Nat → Value) (T27 : Nat → Prop) (x21 : Int), a = env 155 J [(1, .int .i64 p1), (2, .string ⟨p2.toArray⟩), (8, .slice a5 (List.length x2) c5), (16, .pointer (some ⟨b22, 0, none⟩)), (17, .int .i64 y16.2), (18, .int .i64 x21), (19, .pointer (some ⟨b23, 0, none⟩))] ∧ Im T26 w38 T27 w39 ∧ Sep g T27 w39 [boxA b23 [.string ⟨([] : List UInt8).toArray⟩, .int .i64 0, .int .i64 0], boxA b22 [.string ⟨y16.1.Name.toArray⟩, .int .i64 y16.1.Type_, .int .i64 y16.1.At], R] ∧ kk7 x21 = some r) ?_ ?_
                · refine sq2 ?_
                  obtain ⟨y17, hx32, hm⟩ := bindS hm
                  refine rg (pv (r_ms rfl) (pv (r_mi rfl) (wl rfl (calS cf19 rfl (ref08_Is_sim (p0 := x2) (p1 := p1) (hS39.bun [0, 1, 2] [] rfl) (h3.mono (Im.trans im10 (Im.trans im11 (Im.trans im36 (Im.trans im37 (Im.trans im38 im39)))))) hx32) rfl fun v17 T28 w40 im41 rv17 => ?_))))
                  obtain ⟨rfl, hS40, _⟩ := rv17
                  have hS40 : Sep g T28 w40 [boxA b23 [.string ⟨([] : List UInt8).toArray⟩, .int .i64 0, .int .i64 0], boxA b22 [.string ⟨y16.1.Name.toArray⟩, .int .i64 y16.1.Type_, .int .i64 y16.1.At], R] := hS40.unb
                  refine pv (r_mb rfl) (?_)
                  rcases Bool.eq_false_or_eq_true y17 with hb35 | hb35
                  · have hm := ctrue hb35 hm
                    obtain ⟨u16, hx33, hm⟩ := bindS hm
                    obtain ⟨b24, of16, cs16, k16, cp16, hv16, hp16, hl16, he16, hr16, hc16, hT16⟩ := (h3.mono (Im.trans im10 (Im.trans im11 (Im.trans im36 (Im.trans im37 (Im.trans im38 (Im.trans im39 im41))))))).ixT hx33 rfl
                    obtain ⟨a19, c19, rfl, h16⟩ := rref08Type_open hr16
                    refine gT (d0 := 96) rfl rfl hb35 (pv (r_ms rfl) (gT (d0 := 96) rfl rfl hb35 (pv (r_mi rfl) (gT (d0 := 96) rfl rfl hb35 (pv (r_ixe hv16 rfl Try.underlying28 Try.sizeOf51 hp16 hl16 he16) (gT (d0 := 96) rfl rfl hb35 (pv (r_fa rfl Try.underlying51 rfl Try.sizeOf3 rfl) (gT (d0 := 96) rfl rfl hb35 (pv (r_ld rfl Try.isAgg3 (hc16.get (j := 0) rfl)) (gT (d0 := 96) rfl rfl hb35 (pv (r_ib rfl rfl rfl) (pv (r_pkt rfl hb35 rfl) (nil (t_thenR [(1, .int .i64 p1), (2, .string ⟨p2.toArray⟩), (8, .slice a5 (List.length x2) c5), (16, .pointer (some ⟨b22, 0, none⟩)), (17, .int .i64 y16.2), (18, .int .i64 4), (19, .pointer (some ⟨b23, 0, none⟩)), (103, .bool (u16.Kind != 5))] ⟨rfl, rfl, rfl, rfl, rfl, rfl, rfl, rfl, trivial⟩ fun J => ?_))))))))))))))
                    refine cnd rfl (fun hb36 => ?_) (fun hb36 => ?_)
                    · have hm := ctrue hb36 hm
                      exact rg (pv (r_zi rfl) (nil (t_then ⟨_, _, 5, env_has ⟨rfl, rfl, rfl, rfl, rfl, rfl, rfl, trivial⟩, im41, hS40.sel [0, 1, 2] rfl, hm⟩)))
                    · have hm := cfalse hb36 hm
                      exact skp (t_then ⟨_, _, 4, env_has ⟨rfl, rfl, rfl, rfl, rfl, rfl, rfl, trivial⟩, im41, hS40.sel [0, 1, 2] rfl, hm⟩)
                  · have hm := cfalse hb35 hm
                    refine gF (d0 := 96) rfl rfl (by rw [hb35]; rfl) (gF (d0 := 96) rfl rfl (by rw [hb35]; rfl) (gF (d0 := 96) rfl rfl (by rw [hb35]; rfl) (gF (d0 := 96) rfl rfl (by rw [hb35]; rfl) (gF (d0 := 96) rfl rfl (by rw [hb35]; rfl) (gF (d0 := 96) rfl rfl (by rw [hb35]; rfl) (pv (r_pkf rfl hb35 rfl) (nil (t_thenR [(1, .int .i64 p1), (2, .string ⟨p2.toArray⟩), (8, .slice a5 (List.length x2) c5), (16, .pointer (some ⟨b22, 0, none⟩)), (17, .int .i64 y16.2), (18, .int .i64 4), (19, .pointer (some ⟨b23, 0, none⟩)), (103, .bool false)] ⟨rfl, rfl, rfl, rfl, rfl, rfl, rfl, rfl, trivial⟩ fun J => ?_))))))))
                    refine cnd (b := false) rfl (fun h => nomatch h) (fun _ => ?_)
                    exact skp (t_then ⟨_, _, 4, env_has ⟨rfl, rfl, rfl, rfl, rfl, rfl, rfl, trivial⟩, im41, hS40.sel [0, 1, 2] rfl, hm⟩)
                · rintro _ w39 ⟨J, T27, x21, rfl, im40, hS41, hm⟩
                  rw [hkk7] at hm
                  obtain ⟨kk8, hkk8, hm⟩ := jn_open hm
                  refine cut (fun a w41 => ∃ (J : Nat → Value) (T29 : Nat → Prop) (x23 : GField) (x22 : Int), a = env 155 J [(16, .pointer (some ⟨b22, 0, none⟩)), (17, .int .i64 y16.2), (18, .int .i64 x22), (19, .pointer (some ⟨b23, 0, none⟩))] ∧ Im T27 w39 T29 w41 ∧ Sep g T29 w41 [boxA b23 [.string ⟨x23.Name.toArray⟩, .int .i64 x23.Type_, .int .i64 x23.At], boxA b22 [.string ⟨y16.1.Name.toArray⟩, .int .i64 y16.1.Type_, .int .i64 y16.1.At], R] ∧ kk8 x22 x23 = some r) ?_ ?_
                  · refine sq2 ?_
                    obtain ⟨y18, hx34, hm⟩ := bindS hm
                    refine rg (pv (r_ms rfl) (pv (r_mi rfl) (wl rfl (calS cf19 rfl (ref08_Is_sim (p0 := x2) (p1 := p1) (hS41.bun [0, 1, 2] [] rfl) (h3.mono (Im.trans im10 (Im.trans im11 (Im.trans im36 (Im.trans im37 (Im.trans im38 (Im.trans im39 im40))))))) hx34) rfl fun v18 T30 w42 im43 rv18 => ?_))))
                    obtain ⟨rfl, hS42, _⟩ := rv18
                    have hS42 : Sep g T30 w42 [boxA b23 [.string ⟨([] : List UInt8).toArray⟩, .int .i64 0, .int .i64 0], boxA b22 [.string ⟨y16.1.Name.toArray⟩, .int .i64 y16.1.Type_, .int .i64 y16.1.At], R] := hS42.unb
                    refine pv (r_mb rfl) (?_)
                    rcases Bool.eq_false_or_eq_true y18 with hb38 | hb38
                    · have hm := ctrue hb38 hm
                      obtain ⟨u17, hx35, hm⟩ := bindS hm
                      obtain ⟨b25, of17, cs17, k17, cp17, hv17, hp17, hl17, he17, hr17, hc17, hT17⟩ := (h3.mono (Im.trans im10 (Im.trans im11 (Im.trans im36 (Im.trans im37 (Im.trans im38 (Im.trans im39 (Im.trans im40 im43)))))))).ixT hx35 rfl
                      obtain ⟨a20, c20, rfl, h17⟩ := rref08Type_open hr17
                      refine gT (d0 := 107) rfl rfl hb38 (pv (r_ms rfl) (gT (d0 := 107) rfl rfl hb38 (pv (r_mi rfl) (gT (d0 := 107) rfl rfl hb38 (pv (r_ixe hv17 rfl Try.underlying28 Try.sizeOf51 hp17 hl17 he17) (gT (d0 := 107) rfl rfl hb38 (pv (r_fa rfl Try.underlying51 rfl Try.sizeOf3 rfl) (gT (d0 := 107) rfl rfl hb38 (pv (r_ld rfl Try.isAgg3 (hc17.get (j := 0) rfl)) (gT (d0 := 107) rfl rfl hb38 (pv (r_ib rfl rfl rfl) (pv (r_pkt rfl hb38 rfl) (nil (t_thenR [(1, .int .i64 p1), (2, .string ⟨p2.toArray⟩), (8, .slice a5 (List.length x2) c5), (16, .pointer (some ⟨b22, 0, none⟩)), (17, .int .i64 y16.2), (18, .int .i64 x21), (19, .pointer (some ⟨b23, 0, none⟩)), (114, .bool (u17.Kind == 5))] ⟨rfl, rfl, rfl, rfl, rfl, rfl, rfl, rfl, trivial⟩ fun J => ?_))))))))))))))
                      refine cnd rfl (fun hb39 => ?_) (fun hb39 => ?_)
                      · have hm := ctrue hb39 hm
                        refine sq2 ?_
                        refine rg (pv (r_zi rfl) (nil (t_then ?_)))
                        obtain ⟨o1, ho1, hq1⟩ := bindS hm
                        obtain ⟨bd1, hbd1, ho1⟩ := loop_open ho1
                        refine blk (wp_loop_ghost (fun m a w43 => ∃ (J : Nat → Value) (T31 : Nat → Prop) (x26 : GField) (x24 : Int) (x25 : Int), a = env 155 J [(1, .int .i64 p1), (2, .string ⟨p2.toArray⟩), (8, .slice a5 (List.length x2) c5), (16, .pointer (some ⟨b22, 0, none⟩)), (17, .int .i64 y16.2), (18, .int .i64 x24), (19, .pointer (some ⟨b23, 0, none⟩)), (20, .int .i64 x25)] ∧ Im T30 w42 T31 w43 ∧ Sep g T31 w43 [boxA b23 [.string ⟨x26.Name.toArray⟩, .int .i64 x26.Type_, .int .i64 x26.At], boxA b22 [.string ⟨y16.1.Name.toArray⟩, .int .i64 y16.1.Type_, .int .i64 y16.1.At], R] ∧ loopM bd1 m (x24, x25, x26) = some o1) NN ⟨_, _, (⟨([] : List UInt8), 0, 0⟩ : GField), x21, 0, env_has ⟨rfl, rfl, rfl, rfl, rfl, rfl, rfl, rfl, trivial⟩, Im.refl, hS42.sel [0, 1, 2] rfl, ho1⟩ ?_)
                        rintro m _ w43 ⟨J, T31, x26, x24, x25, rfl, im44, hS43, ho1⟩
                        obtain ⟨m1, z1, rfl, hm, hn1⟩ := loop_round ho1
                        rw [hbd1] at hm
                        refine sq2 ?_
                        refine sq2 ?_
                        obtain ⟨u18, hx36, hm⟩ := bindS hm
                        obtain ⟨b26, of18, cs18, k18, cp18, hv18, hp18, hl18, he18, hr18, hc18, hT18⟩ := (h3.mono (Im.trans im10 (Im.trans im11 (Im.trans im36 (Im.trans im37 (Im.trans im38 (Im.trans im39 (Im.trans im40 (Im.trans im43 im44))))))))).ixT hx36 rfl
                        obtain ⟨a21, c21, rfl, h18⟩ := rref08Type_open hr18
                        refine rg (pv (r_mi rfl) (pv (r_ms rfl) (pv (r_mi rfl) (pv (r_ixe hv18 rfl Try.underlying28 Try.sizeOf51 hp18 hl18 he18) (pv (r_fa rfl Try.underlying51 rfl Try.sizeOf49 rfl) (pv (r_ld rfl Try.isAgg49 (hc18.get (j := 4) rfl)) (pv (r_ln rfl Try.underlying49) (pv (r_ib rfl rfl rfl) (nil (t_thenR [(1, .int .i64 p1), (2, .string ⟨p2.toArray⟩), (8, .slice a5 (List.length x2) c5), (16, .pointer (some ⟨b22, 0, none⟩)), (17, .int .i64 y16.2), (18, .int .i64 x24), (19, .pointer (some ⟨b23, 0, none⟩)), (20, .int .i64 x25), (122, .bool (decide (x25 < (List.length u18.Fields : Int))))] ⟨rfl, rfl, rfl, rfl, rfl, rfl, rfl, rfl, rfl, trivial⟩ fun J => ?_))))))))))
                        refine cnd rfl (fun hb40 => ?_) (fun hb40 => ?_)
                        · have hm := ctrue hb40 hm
                          refine skp (t_then ?_)
                          obtain ⟨kk9, hkk9, hm⟩ := jn_open hm
                          refine cut (fun a w44 => ∃ (J : Nat → Value) (T32 : Nat → Prop) (x28 : GField) (x27 : Int), a = env 155 J [(1, .int .i64 p1), (2, .string ⟨p2.toArray⟩), (8, .slice a5 (List.length x2) c5), (16, .pointer (some ⟨b22, 0, none⟩)), (17, .int .i64 y16.2), (18, .int .i64 x27), (19, .pointer (some ⟨b23, 0, none⟩)), (20, .int .i64 x25)] ∧ Im T31 w43 T32 w44 ∧ Sep g T32 w44 [boxA b23 [.string ⟨x28.Name.toArray⟩, .int .i64 x28.Type_, .int .i64 x28.At], boxA b22 [.string ⟨y16.1.Name.toArray⟩, .int .i64 y16.1.Type_, .int .i64 y16.1.At], R] ∧ kk9 x27 x28 = some z1) ?_ ?_
                          · refine blk ?_
                            refine sq2 ?_
                            obtain ⟨u19, hx37, hm⟩ := bindS hm
                            obtain ⟨b27, of19, cs19, k19, cp19, hv19, hp19, hl19, he19, hr19, hc19, hT19⟩ := (h3.mono (Im.trans im10 (Im.trans im11 (Im.trans im36 (Im.trans im37 (Im.trans im38 (Im.trans im39 (Im.trans im40 (Im.trans im43 im44))))))))).ixT hx37 rfl
                            obtain ⟨a22, c22, rfl, h19⟩ := rref08Type_open hr19
                            obtain ⟨u20, hx38, hm⟩ := bindS hm
                            obtain ⟨b28, of20, cs20, k20, cp20, hv20, hp20, hl20, he20, hr20, hc20, hT20⟩ := h19.ixT hx38 rfl
                            cases rGField_open hr20
                            refine rg (pv (r_ms rfl) (pv (r_mi rfl) (pv (r_ixe hv19 rfl Try.underlying28 Try.sizeOf51 hp19 hl19 he19) (pv (r_fa rfl Try.underlying51 rfl Try.sizeOf49 rfl) (pv (r_ld rfl Try.isAgg49 (hc19.get (j := 4) rfl)) (pv (r_mi rfl) (pv (r_ixe hv20 rfl Try.underlying49 Try.sizeOf52 hp20 hl20 he20) (pv (r_fa rfl Try.underlying52 rfl Try.sizeOf9 rfl) (pv (r_ld rfl Try.isAgg9 (hc20.get (j := 0) rfl)) (pv (r_mt rfl) (pv (r_sqL rfl rfl) (nil (t_thenR [(1, .int .i64 p1), (2, .string ⟨p2.toArray⟩), (8, .slice a5 (List.length x2) c5), (16, .pointer (some ⟨b22, 0, none⟩)), (17, .int .i64 y16.2), (18, .int .i64 x24), (19, .pointer (some ⟨b23, 0, none⟩)), (20, .int .i64 x25), (135, .bool (decide (u20.Name = p2)))] ⟨rfl, rfl, rfl, rfl, rfl, rfl, rfl, rfl, rfl, trivial⟩ fun J => ?_)))))))))))))
                            refine cnd rfl (fun hb41 => ?_) (fun hb41 => ?_)
                            · have hm := ctrue hb41 hm
                              refine sq2 ?_
                              refine rg (pv (r_zi rfl) (nil (t_then ?_)))
                              obtain ⟨u21, hx39, hm⟩ := bindS hm
                              obtain ⟨b29, of21, cs21, k21, cp21, hv21, hp21, hl21, he21, hr21, hc21, hT21⟩ := (h3.mono (Im.trans im10 (Im.trans im11 (Im.trans im36 (Im.trans im37 (Im.trans im38 (Im.trans im39 (Im.trans im40 (Im.trans im43 im44))))))))).ixT hx39 rfl
                              obtain ⟨a23, c23, rfl, h20⟩ := rref08Type_open hr21
                              obtain ⟨u22, hx40, hm⟩ := bindS hm
                              obtain ⟨b30, of22, cs22, k22, cp22, hv22, hp22, hl22, he22, hr22, hc22, hT22⟩ := h20.ixT hx40 rfl
                              cases rGField_open hr22
                              refine rg (pv (r_ms rfl) (pv (r_mi rfl) (pv (r_ixe hv21 rfl Try.underlying28 Try.sizeOf51 hp21 hl21 he21) (pv (r_fa rfl Try.underlying51 rfl Try.sizeOf49 rfl) (pv (r_ld rfl Try.isAgg49 (hc21.get (j := 4) rfl)) (pv (r_mi rfl) (pv (r_ixe hv22 rfl Try.underlying49 Try.sizeOf52 hp22 hl22 he22) (pv (r_ldS rfl Try.isAgg52 Try.sizeOf52 rfl hc22 (cs := [.string ⟨u22.Name.toArray⟩, .int .i64 u22.Type_, .int .i64 u22.At])) (wl rfl (st0B (q := 0) hS43 ⟨rfl, rfl⟩ rfl rfl rfl Try.sizeOf45 rfl rfl rfl fun w45 im46 hS44 => ?_))))))))))
                              have hS44 : Sep g T31 w45 [boxA b23 [.string ⟨u22.Name.toArray⟩, .int .i64 u22.Type_, .int .i64 u22.At], boxA b22 [.string ⟨y16.1.Name.toArray⟩, .int .i64 y16.1.Type_, .int .i64 y16.1.At], R] := hS44
                              exact nil (t_blk (t_then ⟨_, _, u22, 0, env_has ⟨rfl, rfl, rfl, rfl, rfl, rfl, rfl, rfl, trivial⟩, im46, hS44.sel [0, 1, 2] rfl, hm⟩))
                            · have hm := cfalse hb41 hm
                              exact skp (t_blk (t_then ⟨_, _, x26, x24, env_has ⟨rfl, rfl, rfl, rfl, rfl, rfl, rfl, rfl, trivial⟩, Im.refl, hS43.sel [0, 1, 2] rfl, hm⟩))
                          · rintro _ w44 ⟨J, T32, x28, x27, rfl, im45, hS45, hm⟩
                            rw [hkk9] at hm
                            have hm := Option.some.inj hm
                            subst hm
                            exact rg (pv (r_mi rfl) (pv (r_ib rfl rfl rfl) (pv (r_zi rfl) (nil (t_then ⟨m1, Nat.lt_succ_self _, _, _, x28, x27, (IntKind.wrap .i64 (x25 + 1)), env_has ⟨rfl, rfl, rfl, rfl, rfl, rfl, rfl, rfl, trivial⟩, (Im.trans im44 im45), hS45.sel [0, 1, 2] rfl, hn1⟩)))))
                        · have hm := cfalse hb40 hm
                          have hm := Option.some.inj hm
                          subst hm
                          have hn1 : _ = Lp.brk _ := hn1
                          subst hn1
                          have hm := thn_brk hq1
                          exact xt (x_then (x_then (x_eq (t_then ⟨_, _, x26, x24, env_has ⟨rfl, rfl, rfl, rfl, trivial⟩, (Im.trans im43 im44), hS43.sel [0, 1, 2] rfl, hm⟩))))
                      · have hm := cfalse hb39 hm
                        exact skp (t_then ⟨_, _, (⟨([] : List UInt8), 0, 0⟩ : GField), x21, env_has ⟨rfl, rfl, rfl, rfl, trivial⟩, im43, hS42.sel [0, 1, 2] rfl, hm⟩)
                    · have hm := cfalse hb38 hm
                      refine gF (d0 := 107) rfl rfl (by rw [hb38]; rfl) (gF (d0 := 107) rfl rfl (by rw [hb38]; rfl) (gF (d0 := 107) rfl rfl (by rw [hb38]; rfl) (gF (d0 := 107) rfl rfl (by rw [hb38]; rfl) (gF (d0 := 107) rfl rfl (by rw [hb38]; rfl) (gF (d0 := 107) rfl rfl (by rw [hb38]; rfl) (pv (r_pkf rfl hb38 rfl) (nil (t_thenR [(1, .int .i64 p1), (2, .string ⟨p2.toArray⟩), (8, .slice a5 (List.length x2) c5), (16, .pointer (some ⟨b22, 0, none⟩)), (17, .int .i64 y16.2), (18, .int .i64 x21), (19, .pointer (some ⟨b23, 0, none⟩)), (114, .bool false)] ⟨rfl, rfl, rfl, rfl, rfl, rfl, rfl, rfl, trivial⟩ fun J => ?_))))))))
                      refine cnd (b := false) rfl (fun h => nomatch h) (fun _ => ?_)
                      exact skp (t_then ⟨_, _, (⟨([] : List UInt8), 0, 0⟩ : GField), x21, env_has ⟨rfl, rfl, rfl, rfl, trivial⟩, im43, hS42.sel [0, 1, 2] rfl, hm⟩)
                  · rintro _ w41 ⟨J, T29, x23, x22, rfl, im42, hS46, hm⟩
                    rw [hkk8] at hm
                    refine sq2 ?_
                    obtain ⟨y19, hx41, hm⟩ := bindS hm
                    refine rg (wl rfl (calS cf9 rfl (law08_awake_sim  (hS46.bun [0, 1, 2] [] rfl)  hx41) rfl fun v19 T33 w46 im47 rv19 => ?_))
                    obtain ⟨rfl, hS47, _⟩ := rv19
                    have hS47 : Sep g T33 w46 [boxA b23 [.string ⟨x23.Name.toArray⟩, .int .i64 x23.Type_, .int .i64 x23.At], boxA b22 [.string ⟨y16.1.Name.toArray⟩, .int .i64 y16.1.Type_, .int .i64 y16.1.At], R] := hS47.unb
                    refine pv (r_mb rfl) (?_)
                    rcases Bool.eq_false_or_eq_true y19 with hb43 | hb43
                    · have hm := ctrue hb43 hm
                      refine gT (d0 := 145) rfl rfl hb43 (pv (r_mi rfl) (gT (d0 := 145) rfl rfl hb43 (pv (r_mi rfl) (gT (d0 := 145) rfl rfl hb43 (pv (r_ib rfl rfl rfl) (pv (r_pkt rfl hb43 rfl) (pv (r_mb rfl) (?_))))))))
                      rcases Bool.eq_false_or_eq_true (y16.2 == x22) with hb44 | hb44
                      · have hm := ctrue hb44 hm
                        refine gT (d0 := 150) rfl rfl hb44 (pv (r_ldS rfl Try.isAgg45 Try.sizeOf45 rfl (hS47.cells0 (i := 1) ⟨rfl, rfl⟩ (o := 0) rfl) (cs := [.string ⟨y16.1.Name.toArray⟩, .int .i64 y16.1.Type_, .int .i64 y16.1.At])) (gT (d0 := 150) rfl rfl hb44 (pv (r_ldS rfl Try.isAgg45 Try.sizeOf45 rfl (hS47.cells0 (i := 0) ⟨rfl, rfl⟩ (o := 0) rfl) (cs := [.string ⟨x23.Name.toArray⟩, .int .i64 x23.Type_, .int .i64 x23.At])) (gT (d0 := 150) rfl rfl hb44 (pv (r_seqe rfl rfl (eq_45 y16.1.Name y16.1.Type_ y16.1.At x23.Name x23.Type_ x23.At)) (pv (r_pkt rfl hb44 rfl) (pv (r_zb rfl) (nil (t_thenR [(6, .bool ((decide (y16.1.Name = x23.Name)) && (y16.1.Type_ == x23.Type_) && (y16.1.At == x23.At)))] ⟨rfl, trivial⟩ fun J => ?_)))))))))
                        have hm := Option.some.inj hm
                        subst hm
                        exact rtn (ret1 rfl rfl ⟨_, rfl, _, (Im.trans im1 (Im.trans im3 (Im.trans im4 (Im.trans im5 (Im.trans im6 (Im.trans im10 (Im.trans im11 (Im.trans im36 (Im.trans im37 (Im.trans im38 (Im.trans im39 (Im.trans im40 (Im.trans im42 im47))))))))))))), ⟨rfl, hS47.sel [2] rfl, trivial⟩⟩)
                      · have hm := cfalse hb44 hm
                        refine gF (d0 := 150) rfl rfl (by rw [hb44]; rfl) (gF (d0 := 150) rfl rfl (by rw [hb44]; rfl) (gF (d0 := 150) rfl rfl (by rw [hb44]; rfl) (pv (r_pkf rfl hb44 rfl) (pv (r_zb rfl) (nil (t_thenR [(6, .bool false)] ⟨rfl, trivial⟩ fun J => ?_))))))
                        have hm := Option.some.inj hm
                        subst hm
                        exact rtn (ret1 rfl rfl ⟨_, rfl, _, (Im.trans im1 (Im.trans im3 (Im.trans im4 (Im.trans im5 (Im.trans im6 (Im.trans im10 (Im.trans im11 (Im.trans im36 (Im.trans im37 (Im.trans im38 (Im.trans im39 (Im.trans im40 (Im.trans im42 im47))))))))))))), ⟨rfl, hS47.sel [2] rfl, trivial⟩⟩)
                    · have hm := cfalse hb43 hm
                      refine gF (d0 := 145) rfl rfl (by rw [hb43]; rfl) (gF (d0 := 145) rfl rfl (by rw [hb43]; rfl) (gF (d0 := 145) rfl rfl (by rw [hb43]; rfl) (pv (r_pkf rfl hb43 rfl) (pv (r_mb rfl) (gF (d0 := 150) rfl rfl rfl (gF (d0 := 150) rfl rfl rfl (gF (d0 := 150) rfl rfl rfl (pv (r_pkf rfl rfl rfl) (pv (r_zb rfl) (nil (t_thenR [(6, .bool false)] ⟨rfl, trivial⟩ fun J => ?_)))))))))))
                      have hm := Option.some.inj hm
                      subst hm
                      exact rtn (ret1 rfl rfl ⟨_, rfl, _, (Im.trans im1 (Im.trans im3 (Im.trans im4 (Im.trans im5 (Im.trans im6 (Im.trans im10 (Im.trans im11 (Im.trans im36 (Im.trans im37 (Im.trans im38 (Im.trans im39 (Im.trans im40 (Im.trans im42 im47))))))))))))), ⟨rfl, hS47.sel [2] rfl, trivial⟩⟩)
            · have hm := cfalse hb33 hm
              refine gF (d0 := 80) rfl rfl (by rw [hb33]; rfl) (gF (d0 := 80) rfl rfl (by rw [hb33]; rfl) (gF (d0 := 80) rfl rfl (by rw [hb33]; rfl) (gT (d0 := 77) rfl rfl rfl (pv (r_pkf rfl hb33 rfl) (pv (r_pkf rfl rfl rfl) (nil (t_thenR [(1, .int .i64 p1), (2, .string ⟨p2.toArray⟩), (7, .pointer (some ⟨b1, 0, none⟩)), (8, .slice a5 (List.length x2) c5), (85, .bool false)] ⟨rfl, rfl, rfl, rfl, rfl, trivial⟩ fun J => ?_)))))))
              refine cnd (b := false) rfl (fun h => nomatch h) (fun _ => ?_)
              refine skp (t_then ?_)
              refine sq2 ?_
              obtain ⟨y20, hx42, hm⟩ := bindS hm
              refine rg (pv (r_mp rfl) (pv (r_mi rfl) (pv (r_mt rfl) (wl rfl (calS cf18 rfl (kind_Table_Field_sim (p0 := x4) (H_p0 := boxA b1) (p1 := p1) (p2 := p2) (hS11.bun [0] [1, 2] rfl) (lnBox b1) hx42) rfl fun v20 T34 w47 im48 rv20 => ?_)))))
              obtain ⟨rfl, hS48, _⟩ := rv20
              have hS48 : Sep g T34 w47 [R, boxA b1 [.slice a4 n3 c4], ownA rKindKnown 65 (.slice a4 n3 c4) x4.list] := hS48.unb
              refine pv (r_mv rfl) (pv (r_ex (v := .agg #[.string ⟨y20.1.Name.toArray⟩, .int .i64 y20.1.Type_, .int .i64 y20.1.At]) rfl rfl) (pv (r_ex (v := .int .i64 y20.2) rfl rfl) (wl rfl (alS (zs := [.string ⟨([] : List UInt8).toArray⟩, .int .i64 0, .int .i64 0]) Try.zeroValue45 rfl hS48 fun w48 b31 im49 hS49 => ?_))))
              refine wl rfl (st0B (q := 0) hS49 ⟨rfl, rfl⟩ rfl rfl rfl Try.sizeOf45 rfl rfl rfl fun w49 im50 hS50 => ?_)
              have hS50 : Sep g T34 w49 [boxA b31 [.string ⟨y20.1.Name.toArray⟩, .int .i64 y20.1.Type_, .int .i64 y20.1.At], R, boxA b1 [.slice a4 n3 c4], ownA rKindKnown 65 (.slice a4 n3 c4) x4.list] := hS50
              refine pv (r_zi rfl) (nil (t_thenR [(1, .int .i64 p1), (2, .string ⟨p2.toArray⟩), (8, .slice a5 (List.length x2) c5), (16, .pointer (some ⟨b31, 0, none⟩)), (17, .int .i64 y20.2)] ⟨rfl, rfl, rfl, rfl, rfl, trivial⟩ fun J => ?_))
              refine sq2 ?_
              refine rg (pv (r_zi rfl) (nil (t_then ?_)))
              refine sq2 ?_
              refine rg (wl rfl (alS (zs := [.string ⟨([] : List UInt8).toArray⟩, .int .i64 0, .int .i64 0]) Try.zeroValue45 rfl hS50 fun w50 b32 im51 hS51 => ?_))
              refine nil (t_then ?_)
              obtain ⟨kk10, hkk10, hm⟩ := jn_open hm
              refine cut (fun a w51 => ∃ (J : Nat → Value) (T35 : Nat → Prop) (x29 : Int), a = env 155 J [(1, .int .i64 p1), (2, .string ⟨p2.toArray⟩), (8, .slice a5 (List.length x2) c5), (16, .pointer (some ⟨b31, 0, none⟩)), (17, .int .i64 y20.2), (18, .int .i64 x29), (19, .pointer (some ⟨b32, 0, none⟩))] ∧ Im T34 w50 T35 w51 ∧ Sep g T35 w51 [boxA b32 [.string ⟨([] : List UInt8).toArray⟩, .int .i64 0, .int .i64 0], boxA b31 [.string ⟨y20.1.Name.toArray⟩, .int .i64 y20.1.Type_, .int .i64 y20.1.At], R] ∧ kk10 x29 = some r) ?_ ?_
              · refine sq2 ?_
                obtain ⟨y21, hx43, hm⟩ := bindS hm
                refine rg (pv (r_ms rfl) (pv (r_mi rfl) (wl rfl (calS cf19 rfl (ref08_Is_sim (p0 := x2) (p1 := p1) (hS51.bun [0, 1, 2] [] rfl) (h3.mono (Im.trans im10 (Im.trans im11 (Im.trans im48 (Im.trans im49 (Im.trans im50 im51)))))) hx43) rfl fun v21 T36 w52 im53 rv21 => ?_))))
                obtain ⟨rfl, hS52, _⟩ := rv21
                have hS52 : Sep g T36 w52 [boxA b32 [.string ⟨([] : List UInt8).toArray⟩, .int .i64 0, .int .i64 0], boxA b31 [.string ⟨y20.1.Name.toArray⟩, .int .i64 y20.1.Type_, .int .i64 y20.1.At], R] := hS52.unb
                refine pv (r_mb rfl) (?_)
                rcases Bool.eq_false_or_eq_true y21 with hb46 | hb46
                · have hm := ctrue hb46 hm
                  obtain ⟨u23, hx44, hm⟩ := bindS hm
                  obtain ⟨b33, of23, cs23, k23, cp23, hv23, hp23, hl23, he23, hr23, hc23, hT23⟩ := (h3.mono (Im.trans im10 (Im.trans im11 (Im.trans im48 (Im.trans im49 (Im.trans im50 (Im.trans im51 im53))))))).ixT hx44 rfl
                  obtain ⟨a24, c24, rfl, h21⟩ := rref08Type_open hr23
                  refine gT (d0 := 96) rfl rfl hb46 (pv (r_ms rfl) (gT (d0 := 96) rfl rfl hb46 (pv (r_mi rfl) (gT (d0 := 96) rfl rfl hb46 (pv (r_ixe hv23 rfl Try.underlying28 Try.sizeOf51 hp23 hl23 he23) (gT (d0 := 96) rfl rfl hb46 (pv (r_fa rfl Try.underlying51 rfl Try.sizeOf3 rfl) (gT (d0 := 96) rfl rfl hb46 (pv (r_ld rfl Try.isAgg3 (hc23.get (j := 0) rfl)) (gT (d0 := 96) rfl rfl hb46 (pv (r_ib rfl rfl rfl) (pv (r_pkt rfl hb46 rfl) (nil (t_thenR [(1, .int .i64 p1), (2, .string ⟨p2.toArray⟩), (8, .slice a5 (List.length x2) c5), (16, .pointer (some ⟨b31, 0, none⟩)), (17, .int .i64 y20.2), (18, .int .i64 4), (19, .pointer (some ⟨b32, 0, none⟩)), (103, .bool (u23.Kind != 5))] ⟨rfl, rfl, rfl, rfl, rfl, rfl, rfl, rfl, trivial⟩ fun J => ?_))))))))))))))
                  refine cnd rfl (fun hb47 => ?_) (fun hb47 => ?_)
                  · have hm := ctrue hb47 hm
                    exact rg (pv (r_zi rfl) (nil (t_then ⟨_, _, 5, env_has ⟨rfl, rfl, rfl, rfl, rfl, rfl, rfl, trivial⟩, im53, hS52.sel [0, 1, 2] rfl, hm⟩)))
                  · have hm := cfalse hb47 hm
                    exact skp (t_then ⟨_, _, 4, env_has ⟨rfl, rfl, rfl, rfl, rfl, rfl, rfl, trivial⟩, im53, hS52.sel [0, 1, 2] rfl, hm⟩)
                · have hm := cfalse hb46 hm
                  refine gF (d0 := 96) rfl rfl (by rw [hb46]; rfl) (gF (d0 := 96) rfl rfl (by rw [hb46]; rfl) (gF (d0 := 96) rfl rfl (by rw [hb46]; rfl) (gF (d0 := 96) rfl rfl (by rw [hb46]; rfl) (gF (d0 := 96) rfl rfl (by rw [hb46]; rfl) (gF (d0 := 96) rfl rfl (by rw [hb46]; rfl) (pv (r_pkf rfl hb46 rfl) (nil (t_thenR [(1, .int .i64 p1), (2, .string ⟨p2.toArray⟩), (8, .slice a5 (List.length x2) c5), (16, .pointer (some ⟨b31, 0, none⟩)), (17, .int .i64 y20.2), (18, .int .i64 4), (19, .pointer (some ⟨b32, 0, none⟩)), (103, .bool false)] ⟨rfl, rfl, rfl, rfl, rfl, rfl, rfl, rfl, trivial⟩ fun J => ?_))))))))
                  refine cnd (b := false) rfl (fun h => nomatch h) (fun _ => ?_)
                  exact skp (t_then ⟨_, _, 4, env_has ⟨rfl, rfl, rfl, rfl, rfl, rfl, rfl, trivial⟩, im53, hS52.sel [0, 1, 2] rfl, hm⟩)
              · rintro _ w51 ⟨J, T35, x29, rfl, im52, hS53, hm⟩
                rw [hkk10] at hm
                obtain ⟨kk11, hkk11, hm⟩ := jn_open hm
                refine cut (fun a w53 => ∃ (J : Nat → Value) (T37 : Nat → Prop) (x31 : GField) (x30 : Int), a = env 155 J [(16, .pointer (some ⟨b31, 0, none⟩)), (17, .int .i64 y20.2), (18, .int .i64 x30), (19, .pointer (some ⟨b32, 0, none⟩))] ∧ Im T35 w51 T37 w53 ∧ Sep g T37 w53 [boxA b32 [.string ⟨x31.Name.toArray⟩, .int .i64 x31.Type_, .int .i64 x31.At], boxA b31 [.string ⟨y20.1.Name.toArray⟩, .int .i64 y20.1.Type_, .int .i64 y20.1.At], R] ∧ kk11 x30 x31 = some r) ?_ ?_
                · refine sq2 ?_
                  obtain ⟨y22, hx45, hm⟩ := bindS hm
                  refine rg (pv (r_ms rfl) (pv (r_mi rfl) (wl rfl (calS cf19 rfl (ref08_Is_sim (p0 := x2) (p1 := p1) (hS53.bun [0, 1, 2] [] rfl) (h3.mono (Im.trans im10 (Im.trans im11 (Im.trans im48 (Im.trans im49 (Im.trans im50 (Im.trans im51 im52))))))) hx45) rfl fun v22 T38 w54 im55 rv22 => ?_))))
                  obtain ⟨rfl, hS54, _⟩ := rv22
                  have hS54 : Sep g T38 w54 [boxA b32 [.string ⟨([] : List UInt8).toArray⟩, .int .i64 0, .int .i64 0], boxA b31 [.string ⟨y20.1.Name.toArray⟩, .int .i64 y20.1.Type_, .int .i64 y20.1.At], R] := hS54.unb
                  refine pv (r_mb rfl) (?_)
                  rcases Bool.eq_false_or_eq_true y22 with hb49 | hb49
                  · have hm := ctrue hb49 hm
                    obtain ⟨u24, hx46, hm⟩ := bindS hm
                    obtain ⟨b34, of24, cs24, k24, cp24, hv24, hp24, hl24, he24, hr24, hc24, hT24⟩ := (h3.mono (Im.trans im10 (Im.trans im11 (Im.trans im48 (Im.trans im49 (Im.trans im50 (Im.trans im51 (Im.trans im52 im55)))))))).ixT hx46 rfl
                    obtain ⟨a25, c25, rfl, h22⟩ := rref08Type_open hr24
                    refine gT (d0 := 107) rfl rfl hb49 (pv (r_ms rfl) (gT (d0 := 107) rfl rfl hb49 (pv (r_mi rfl) (gT (d0 := 107) rfl rfl hb49 (pv (r_ixe hv24 rfl Try.underlying28 Try.sizeOf51 hp24 hl24 he24) (gT (d0 := 107) rfl rfl hb49 (pv (r_fa rfl Try.underlying51 rfl Try.sizeOf3 rfl) (gT (d0 := 107) rfl rfl hb49 (pv (r_ld rfl Try.isAgg3 (hc24.get (j := 0) rfl)) (gT (d0 := 107) rfl rfl hb49 (pv (r_ib rfl rfl rfl) (pv (r_pkt rfl hb49 rfl) (nil (t_thenR [(1, .int .i64 p1), (2, .string ⟨p2.toArray⟩), (8, .slice a5 (List.length x2) c5), (16, .pointer (some ⟨b31, 0, none⟩)), (17, .int .i64 y20.2), (18, .int .i64 x29), (19, .pointer (some ⟨b32, 0, none⟩)), (114, .bool (u24.Kind == 5))] ⟨rfl, rfl, rfl, rfl, rfl, rfl, rfl, rfl, trivial⟩ fun J => ?_))))))))))))))
                    refine cnd rfl (fun hb50 => ?_) (fun hb50 => ?_)
                    · have hm := ctrue hb50 hm
                      refine sq2 ?_
                      refine rg (pv (r_zi rfl) (nil (t_then ?_)))
                      obtain ⟨o1, ho1, hq1⟩ := bindS hm
                      obtain ⟨bd1, hbd1, ho1⟩ := loop_open ho1
                      refine blk (wp_loop_ghost (fun m a w55 => ∃ (J : Nat → Value) (T39 : Nat → Prop) (x34 : GField) (x32 : Int) (x33 : Int), a = env 155 J [(1, .int .i64 p1), (2, .string ⟨p2.toArray⟩), (8, .slice a5 (List.length x2) c5), (16, .pointer (some ⟨b31, 0, none⟩)), (17, .int .i64 y20.2), (18, .int .i64 x32), (19, .pointer (some ⟨b32, 0, none⟩)), (20, .int .i64 x33)] ∧ Im T38 w54 T39 w55 ∧ Sep g T39 w55 [boxA b32 [.string ⟨x34.Name.toArray⟩, .int .i64 x34.Type_, .int .i64 x34.At], boxA b31 [.string ⟨y20.1.Name.toArray⟩, .int .i64 y20.1.Type_, .int .i64 y20.1.At], R] ∧ loopM bd1 m (x32, x33, x34) = some o1) NN ⟨_, _, (⟨([] : List UInt8), 0, 0⟩ : GField), x29, 0, env_has ⟨rfl, rfl, rfl, rfl, rfl, rfl, rfl, rfl, trivial⟩, Im.refl, hS54.sel [0, 1, 2] rfl, ho1⟩ ?_)
                      rintro m _ w55 ⟨J, T39, x34, x32, x33, rfl, im56, hS55, ho1⟩
                      obtain ⟨m1, z1, rfl, hm, hn1⟩ := loop_round ho1
                      rw [hbd1] at hm
                      refine sq2 ?_
                      refine sq2 ?_
                      obtain ⟨u25, hx47, hm⟩ := bindS hm
                      obtain ⟨b35, of25, cs25, k25, cp25, hv25, hp25, hl25, he25, hr25, hc25, hT25⟩ := (h3.mono (Im.trans im10 (Im.trans im11 (Im.trans im48 (Im.trans im49 (Im.trans im50 (Im.trans im51 (Im.trans im52 (Im.trans im55 im56))))))))).ixT hx47 rfl
                      obtain ⟨a26, c26, rfl, h23⟩ := rref08Type_open hr25
                      refine rg (pv (r_mi rfl) (pv (r_ms rfl) (pv (r_mi rfl) (pv (r_ixe hv25 rfl Try.underlying28 Try.sizeOf51 hp25 hl25 he25) (pv (r_fa rfl Try.underlying51 rfl Try.sizeOf49 rfl) (pv (r_ld rfl Try.isAgg49 (hc25.get (j := 4) rfl)) (pv (r_ln rfl Try.underlying49) (pv (r_ib rfl rfl rfl) (nil (t_thenR [(1, .int .i64 p1), (2, .string ⟨p2.toArray⟩), (8, .slice a5 (List.length x2) c5), (16, .pointer (some ⟨b31, 0, none⟩)), (17, .int .i64 y20.2), (18, .int .i64 x32), (19, .pointer (some ⟨b32, 0, none⟩)), (20, .int .i64 x33), (122, .bool (decide (x33 < (List.length u25.Fields : Int))))] ⟨rfl, rfl, rfl, rfl, rfl, rfl, rfl, rfl, rfl, trivial⟩ fun J => ?_))))))))))
                      refine cnd rfl (fun hb51 => ?_) (fun hb51 => ?_)
                      · have hm := ctrue hb51 hm
                        refine skp (t_then ?_)
                        obtain ⟨kk12, hkk12, hm⟩ := jn_open hm
                        refine cut (fun a w56 => ∃ (J : Nat → Value) (T40 : Nat → Prop) (x36 : GField) (x35 : Int), a = env 155 J [(1, .int .i64 p1), (2, .string ⟨p2.toArray⟩), (8, .slice a5 (List.length x2) c5), (16, .pointer (some ⟨b31, 0, none⟩)), (17, .int .i64 y20.2), (18, .int .i64 x35), (19, .pointer (some ⟨b32, 0, none⟩)), (20, .int .i64 x33)] ∧ Im T39 w55 T40 w56 ∧ Sep g T40 w56 [boxA b32 [.string ⟨x36.Name.toArray⟩, .int .i64 x36.Type_, .int .i64 x36.At], boxA b31 [.string ⟨y20.1.Name.toArray⟩, .int .i64 y20.1.Type_, .int .i64 y20.1.At], R] ∧ kk12 x35 x36 = some z1) ?_ ?_
                        · refine blk ?_
                          refine sq2 ?_
                          obtain ⟨u26, hx48, hm⟩ := bindS hm
                          obtain ⟨b36, of26, cs26, k26, cp26, hv26, hp26, hl26, he26, hr26, hc26, hT26⟩ := (h3.mono (Im.trans im10 (Im.trans im11 (Im.trans im48 (Im.trans im49 (Im.trans im50 (Im.trans im51 (Im.trans im52 (Im.trans im55 im56))))))))).ixT hx48 rfl
                          obtain ⟨a27, c27, rfl, h24⟩ := rref08Type_open hr26
                          obtain ⟨u27, hx49, hm⟩ := bindS hm
                          obtain ⟨b37, of27, cs27, k27, cp27, hv27, hp27, hl27, he27, hr27, hc27, hT27⟩ := h24.ixT hx49 rfl
                          cases rGField_open hr27
                          refine rg (pv (r_ms rfl) (pv (r_mi rfl) (pv (r_ixe hv26 rfl Try.underlying28 Try.sizeOf51 hp26 hl26 he26) (pv (r_fa rfl Try.underlying51 rfl Try.sizeOf49 rfl) (pv (r_ld rfl Try.isAgg49 (hc26.get (j := 4) rfl)) (pv (r_mi rfl) (pv (r_ixe hv27 rfl Try.underlying49 Try.sizeOf52 hp27 hl27 he27) (pv (r_fa rfl Try.underlying52 rfl Try.sizeOf9 rfl) (pv (r_ld rfl Try.isAgg9 (hc27.get (j := 0) rfl)) (pv (r_mt rfl) (pv (r_sqL rfl rfl) (nil (t_thenR [(1, .int .i64 p1), (2, .string ⟨p2.toArray⟩), (8, .slice a5 (List.length x2) c5), (16, .pointer (some ⟨b31, 0, none⟩)), (17, .int .i64 y20.2), (18, .int .i64 x32), (19, .pointer (some ⟨b32, 0, none⟩)), (20, .int .i64 x33), (135, .bool (decide (u27.Name = p2)))] ⟨rfl, rfl, rfl, rfl, rfl, rfl, rfl, rfl, rfl, trivial⟩ fun J => ?_)))))))))))))
                          refine cnd rfl (fun hb52 => ?_) (fun hb52 => ?_)
                          · have hm := ctrue hb52 hm
                            refine sq2 ?_
                            refine rg (pv (r_zi rfl) (nil (t_then ?_)))
                            obtain ⟨u28, hx50, hm⟩ := bindS hm
                            obtain ⟨b38, of28, cs28, k28, cp28, hv28, hp28, hl28, he28, hr28, hc28, hT28⟩ := (h3.mono (Im.trans im10 (Im.trans im11 (Im.trans im48 (Im.trans im49 (Im.trans im50 (Im.trans im51 (Im.trans im52 (Im.trans im55 im56))))))))).ixT hx50 rfl
                            obtain ⟨a28, c28, rfl, h25⟩ := rref08Type_open hr28
                            obtain ⟨u29, hx51, hm⟩ := bindS hm
                            obtain ⟨b39, of29, cs29, k29, cp29, hv29, hp29, hl29, he29, hr29, hc29, hT29⟩ := h25.ixT hx51 rfl
                            cases rGField_open hr29
                            refine rg (pv (r_ms rfl) (pv (r_mi rfl) (pv (r_ixe hv28 rfl Try.underlying28 Try.sizeOf51 hp28 hl28 he28) (pv (r_fa rfl Try.underlying51 rfl Try.sizeOf49 rfl) (pv (r_ld rfl Try.isAgg49 (hc28.get (j := 4) rfl)) (pv (r_mi rfl) (pv (r_ixe hv29 rfl Try.underlying49 Try.sizeOf52 hp29 hl29 he29) (pv (r_ldS rfl Try.isAgg52 Try.sizeOf52 rfl hc29 (cs := [.string ⟨u29.Name.toArray⟩, .int .i64 u29.Type_, .int .i64 u29.At])) (wl rfl (st0B (q := 0) hS55 ⟨rfl, rfl⟩ rfl rfl rfl Try.sizeOf45 rfl rfl rfl fun w57 im58 hS56 => ?_))))))))))
                            have hS56 : Sep g T39 w57 [boxA b32 [.string ⟨u29.Name.toArray⟩, .int .i64 u29.Type_, .int .i64 u29.At], boxA b31 [.string ⟨y20.1.Name.toArray⟩, .int .i64 y20.1.Type_, .int .i64 y20.1.At], R] := hS56
                            exact nil (t_blk (t_then ⟨_, _, u29, 0, env_has ⟨rfl, rfl, rfl, rfl, rfl, rfl, rfl, rfl, trivial⟩, im58, hS56.sel [0, 1, 2] rfl, hm⟩))
                          · have hm := cfalse hb52 hm
                            exact skp (t_blk (t_then ⟨_, _, x34, x32, env_has ⟨rfl, rfl, rfl, rfl, rfl, rfl, rfl, rfl, trivial⟩, Im.refl, hS55.sel [0, 1, 2] rfl, hm⟩))
                        · rintro _ w56 ⟨J, T40, x36, x35, rfl, im57, hS57, hm⟩
                          rw [hkk12] at hm
                          have hm := Option.some.inj hm
                          subst hm
                          exact rg (pv (r_mi rfl) (pv (r_ib rfl rfl rfl) (pv (r_zi rfl) (nil (t_then ⟨m1, Nat.lt_succ_self _, _, _, x36, x35, (IntKind.wrap .i64 (x33 + 1)), env_has ⟨rfl, rfl, rfl, rfl, rfl, rfl, rfl, rfl, trivial⟩, (Im.trans im56 im57), hS57.sel [0, 1, 2] rfl, hn1⟩)))))
                      · have hm := cfalse hb51 hm
                        have hm := Option.some.inj hm
                        subst hm
                        have hn1 : _ = Lp.brk _ := hn1
                        subst hn1
                        have hm := thn_brk hq1
                        exact xt (x_then (x_then (x_eq (t_then ⟨_, _, x34, x32, env_has ⟨rfl, rfl, rfl, rfl, trivial⟩, (Im.trans im55 im56), hS55.sel [0, 1, 2] rfl, hm⟩))))
                    · have hm := cfalse hb50 hm
                      exact skp (t_then ⟨_, _, (⟨([] : List UInt8), 0, 0⟩ : GField), x29, env_has ⟨rfl, rfl, rfl, rfl, trivial⟩, im55, hS54.sel [0, 1, 2] rfl, hm⟩)
                  · have hm := cfalse hb49 hm
                    refine gF (d0 := 107) rfl rfl (by rw [hb49]; rfl) (gF (d0 := 107) rfl rfl (by rw [hb49]; rfl) (gF (d0 := 107) rfl rfl (by rw [hb49]; rfl) (gF (d0 := 107) rfl rfl (by rw [hb49]; rfl) (gF (d0 := 107) rfl rfl (by rw [hb49]; rfl) (gF (d0 := 107) rfl rfl (by rw [hb49]; rfl) (pv (r_pkf rfl hb49 rfl) (nil (t_thenR [(1, .int .i64 p1), (2, .string ⟨p2.toArray⟩), (8, .slice a5 (List.length x2) c5), (16, .pointer (some ⟨b31, 0, none⟩)), (17, .int .i64 y20.2), (18, .int .i64 x29), (19, .pointer (some ⟨b32, 0, none⟩)), (114, .bool false)] ⟨rfl, rfl, rfl, rfl, rfl, rfl, rfl, rfl, trivial⟩ fun J => ?_))))))))
                    refine cnd (b := false) rfl (fun h => nomatch h) (fun _ => ?_)
                    exact skp (t_then ⟨_, _, (⟨([] : List UInt8), 0, 0⟩ : GField), x29, env_has ⟨rfl, rfl, rfl, rfl, trivial⟩, im55, hS54.sel [0, 1, 2] rfl, hm⟩)
                · rintro _ w53 ⟨J, T37, x31, x30, rfl, im54, hS58, hm⟩
                  rw [hkk11] at hm
                  refine sq2 ?_
                  obtain ⟨y23, hx52, hm⟩ := bindS hm
                  refine rg (wl rfl (calS cf9 rfl (law08_awake_sim  (hS58.bun [0, 1, 2] [] rfl)  hx52) rfl fun v23 T41 w58 im59 rv23 => ?_))
                  obtain ⟨rfl, hS59, _⟩ := rv23
                  have hS59 : Sep g T41 w58 [boxA b32 [.string ⟨x31.Name.toArray⟩, .int .i64 x31.Type_, .int .i64 x31.At], boxA b31 [.string ⟨y20.1.Name.toArray⟩, .int .i64 y20.1.Type_, .int .i64 y20.1.At], R] := hS59.unb
                  refine pv (r_mb rfl) (?_)
                  rcases Bool.eq_false_or_eq_true y23 with hb54 | hb54
                  · have hm := ctrue hb54 hm
                    refine gT (d0 := 145) rfl rfl hb54 (pv (r_mi rfl) (gT (d0 := 145) rfl rfl hb54 (pv (r_mi rfl) (gT (d0 := 145) rfl rfl hb54 (pv (r_ib rfl rfl rfl) (pv (r_pkt rfl hb54 rfl) (pv (r_mb rfl) (?_))))))))
                    rcases Bool.eq_false_or_eq_true (y20.2 == x30) with hb55 | hb55
                    · have hm := ctrue hb55 hm
                      refine gT (d0 := 150) rfl rfl hb55 (pv (r_ldS rfl Try.isAgg45 Try.sizeOf45 rfl (hS59.cells0 (i := 1) ⟨rfl, rfl⟩ (o := 0) rfl) (cs := [.string ⟨y20.1.Name.toArray⟩, .int .i64 y20.1.Type_, .int .i64 y20.1.At])) (gT (d0 := 150) rfl rfl hb55 (pv (r_ldS rfl Try.isAgg45 Try.sizeOf45 rfl (hS59.cells0 (i := 0) ⟨rfl, rfl⟩ (o := 0) rfl) (cs := [.string ⟨x31.Name.toArray⟩, .int .i64 x31.Type_, .int .i64 x31.At])) (gT (d0 := 150) rfl rfl hb55 (pv (r_seqe rfl rfl (eq_45 y20.1.Name y20.1.Type_ y20.1.At x31.Name x31.Type_ x31.At)) (pv (r_pkt rfl hb55 rfl) (pv (r_zb rfl) (nil (t_thenR [(6, .bool ((decide (y20.1.Name = x31.Name)) && (y20.1.Type_ == x31.Type_) && (y20.1.At == x31.At)))] ⟨rfl, trivial⟩ fun J => ?_)))))))))
                      have hm := Option.some.inj hm
                      subst hm
                      exact rtn (ret1 rfl rfl ⟨_, rfl, _, (Im.trans im1 (Im.trans im3 (Im.trans im4 (Im.trans im5 (Im.trans im6 (Im.trans im10 (Im.trans im11 (Im.trans im48 (Im.trans im49 (Im.trans im50 (Im.trans im51 (Im.trans im52 (Im.trans im54 im59))))))))))))), ⟨rfl, hS59.sel [2] rfl, trivial⟩⟩)
                    · have hm := cfalse hb55 hm
                      refine gF (d0 := 150) rfl rfl (by rw [hb55]; rfl) (gF (d0 := 150) rfl rfl (by rw [hb55]; rfl) (gF (d0 := 150) rfl rfl (by rw [hb55]; rfl) (pv (r_pkf rfl hb55 rfl) (pv (r_zb rfl) (nil (t_thenR [(6, .bool false)] ⟨rfl, trivial⟩ fun J => ?_))))))
                      have hm := Option.some.inj hm
                      subst hm
                      exact rtn (ret1 rfl rfl ⟨_, rfl, _, (Im.trans im1 (Im.trans im3 (Im.trans im4 (Im.trans im5 (Im.trans im6 (Im.trans im10 (Im.trans im11 (Im.trans im48 (Im.trans im49 (Im.trans im50 (Im.trans im51 (Im.trans im52 (Im.trans im54 im59))))))))))))), ⟨rfl, hS59.sel [2] rfl, trivial⟩⟩)
                  · have hm := cfalse hb54 hm
                    refine gF (d0 := 145) rfl rfl (by rw [hb54]; rfl) (gF (d0 := 145) rfl rfl (by rw [hb54]; rfl) (gF (d0 := 145) rfl rfl (by rw [hb54]; rfl) (pv (r_pkf rfl hb54 rfl) (pv (r_mb rfl) (gF (d0 := 150) rfl rfl rfl (gF (d0 := 150) rfl rfl rfl (gF (d0 := 150) rfl rfl rfl (pv (r_pkf rfl rfl rfl) (pv (r_zb rfl) (nil (t_thenR [(6, .bool false)] ⟨rfl, trivial⟩ fun J => ?_)))))))))))
                    have hm := Option.some.inj hm
                    subst hm
                    exact rtn (ret1 rfl rfl ⟨_, rfl, _, (Im.trans im1 (Im.trans im3 (Im.trans im4 (Im.trans im5 (Im.trans im6 (Im.trans im10 (Im.trans im11 (Im.trans im48 (Im.trans im49 (Im.trans im50 (Im.trans im51 (Im.trans im52 (Im.trans im54 im59))))))))))))), ⟨rfl, hS59.sel [2] rfl, trivial⟩⟩)

set_option maxRecDepth 100000 in
set_option maxHeartbeats 1000000 in
theorem kind_Table_Type_sim {g : World} {T0 : Nat → Prop} {w0 : World} {R : Assn} {p0 : KindTable} {b_p0 o_p0 : Nat} {H_p0 : List Value → Assn} {a1 : Option Addr} {n1 : Nat} {c1 : Nat} {p1 : Int} {r : GType × Int} (hS : Sep g T0 w0 [R, H_p0 [.slice a1 n1 c1], ownA rKindKnown 65 (.slice a1 n1 c1) p0.list]) (hL_p0 : Ln b_p0 o_p0 H_p0) (hm : kind_Table_Type p0 p1 = some r) :
    Calls Try.prog 20 #[.pointer (some ⟨b_p0, o_p0, none⟩), .int .i64 p1] w0 (RetS T0 w0 fun T w v => ∃ (a4 : Option Addr) (c4 : Nat), v = .tuple #[.agg #[.int .i64 r.1.Kind, .int .i64 r.1.Elem, .int .i64 r.1.Len, .string ⟨r.1.Name.toArray⟩, .slice a4 (List.length r.1.Fields) c4], .int .i64 r.2] ∧ Sep g T w [R, H_p0 [.slice a1 n1 c1], ownA rKindKnown 65 (.slice a1 n1 c1) p0.list] ∧ SlR rGField T w (.slice a4 (List.length r.1.Fields) c4) r.1.Fields ∧ True) := by
  refine enter (args := [.pointer (some ⟨b_p0, o_p0, none⟩), .int .i64 p1]) Try.func20 rfl Try.ntmps20 rfl fun J => ?_
  unfold kind_Table_Type at hm
  refine sq2 ?_
  refine rg (wl rfl (alS (zs := [.int .i64 0, .int .i64 0, .int .i64 0, .string ⟨([] : List UInt8).toArray⟩, .slice none 0 0]) Try.zeroValue55 rfl hS fun w1 b1 im1 hS1 => ?_))
  refine pv (r_zi rfl) (nil (t_then ?_))
  refine sq2 ?_
  refine blk ?_
  refine sq2 ?_
  refine rg (pv (r_mp rfl) (pv (r_pne rfl rfl rfl Try.underlying25) (pv (r_zb rfl) (nil (t_then ?_)))))
  refine cnd (b := false) rfl (fun h => nomatch h) (fun _ => ?_)
  refine sq2 ?_
  obtain ⟨y1, hx1, hm⟩ := bindS hm
  refine rg (pv (r_mp rfl) (pv (r_mi rfl) (wl rfl (calS cf33 rfl (kind_Table_has_sim (p0 := p0) (H_p0 := H_p0) (p1 := p1) (hS1.bun [0, 1] [2, 3] rfl) hL_p0 hx1) rfl fun v1 T1 w2 im2 rv1 => ?_))))
  obtain ⟨rfl, hS2, _⟩ := rv1
  have hS2 : Sep g T1 w2 [boxA b1 [.int .i64 0, .int .i64 0, .int .i64 0, .string ⟨([] : List UInt8).toArray⟩, .slice none 0 0], R, H_p0 [.slice a1 n1 c1], ownA rKindKnown 65 (.slice a1 n1 c1) p0.list] := hS2.unb
  refine pv (r_nt rfl) (pv (r_zb rfl) (nil (t_thenR [(0, .pointer (some ⟨b_p0, o_p0, none⟩)), (1, .int .i64 p1), (4, .pointer (some ⟨b1, 0, none⟩)), (11, .bool (!y1))] ⟨rfl, rfl, rfl, rfl, trivial⟩ fun J => ?_)))
  refine cnd rfl (fun hb2 => ?_) (fun hb2 => ?_)
  · have hm := ctrue hb2 hm
    refine sq2 ?_
    refine rg (pv (r_bd (by kernel_rfl) rfl (u := .agg #[.int .i64 0, .int .i64 0, .int .i64 0, .string ⟨([] : List UInt8).toArray⟩, .slice none 0 0])) (wl rfl (st0B (q := 0) hS2 ⟨rfl, rfl⟩ rfl rfl rfl Try.sizeOf55 rfl rfl rfl fun w3 im3 hS3 => ?_)))
    have hS3 : Sep g T1 w3 [boxA b1 [.int .i64 0, .int .i64 0, .int .i64 0, .string ⟨([] : List UInt8).toArray⟩, .slice none 0 0], R, H_p0 [.slice a1 n1 c1], ownA rKindKnown 65 (.slice a1 n1 c1) p0.list] := hS3
    refine pv (r_zi rfl) (nil (t_then ?_))
    have hm := Option.some.inj hm
    subst hm
    exact rtn (r_blk (r_then (retN (vs := [.agg #[.int .i64 0, .int .i64 0, .int .i64 0, .string ⟨([] : List UInt8).toArray⟩, .slice none 0 0], .int .i64 4]) rfl ⟨rvS rfl Try.isAgg55 Try.sizeOf55 rfl (hS3.bx (i := 0) ⟨rfl, rfl⟩), rfl, trivial⟩ rfl ⟨_, rfl, _, (Im.trans im1 (Im.trans im2 im3)), ⟨_, _, rfl, hS3.sel [1, 2, 3] rfl, SlR_nil, trivial⟩⟩)))
  · have hm := cfalse hb2 hm
    refine skp (t_blk (t_then ?_))
    refine sq2 ?_
    obtain ⟨u1, hx2, hm⟩ := bindS hm
    obtain ⟨b2, of1, cs1, k1, cp1, hv1, hp1, hl1, he1, hr1, hc1⟩ := (hS2.own (i := 3) ⟨rfl, rfl⟩).v.ixq hx2 rfl
    obtain ⟨a2, c2, rfl, h1⟩ := rKindKnown_open hr1
    refine rg (pv (r_mp rfl) (pv (r_nc rfl) (pv (r_fa rfl Try.underlying68 rfl Try.sizeOf66 rfl) (pv (r_ld rfl Try.isAgg66 (hS2.cellB (i := 2) ⟨rfl, rfl⟩ hL_p0 (j := 0) rfl)) (pv (r_mi rfl) (pv (r_ixe hv1 rfl Try.underlying66 Try.sizeOf65 hp1 hl1 he1) (pv (r_fa rfl Try.underlying65 rfl Try.sizeOf55 rfl) (pv (r_ldS rfl Try.isAgg55 Try.sizeOf55 rfl (hc1.sub 0 rfl) (cs := [.int .i64 u1.Type_.Kind, .int .i64 u1.Type_.Elem, .int .i64 u1.Type_.Len, .string ⟨u1.Type_.Name.toArray⟩, .slice a2 (List.length u1.Type_.Fields) c2])) (wl rfl (alS (zs := [.int .i64 0, .int .i64 0, .int .i64 0, .string ⟨([] : List UInt8).toArray⟩, .slice none 0 0]) Try.zeroValue55 rfl hS2 fun w4 b3 im4 hS4 => ?_))))))))))
    refine wl rfl (st0B (q := 0) hS4 ⟨rfl, rfl⟩ rfl rfl rfl Try.sizeOf55 rfl rfl rfl fun w5 im5 hS5 => ?_)
    have hS5 : Sep g T1 w5 [boxA b3 [.int .i64 u1.Type_.Kind, .int .i64 u1.Type_.Elem, .int .i64 u1.Type_.Len, .string ⟨u1.Type_.Name.toArray⟩, .slice a2 (List.length u1.Type_.Fields) c2], boxA b1 [.int .i64 0, .int .i64 0, .int .i64 0, .string ⟨([] : List UInt8).toArray⟩, .slice none 0 0], R, H_p0 [.slice a1 n1 c1], ownA rKindKnown 65 (.slice a1 n1 c1) p0.list] := hS5
    refine nil (t_thenR [(4, .pointer (some ⟨b1, 0, none⟩)), (6, .pointer (some ⟨b3, 0, none⟩))] ⟨rfl, rfl, trivial⟩ fun J => ?_)
    refine sq2 ?_
    obtain ⟨y2, hx3, hm⟩ := bindS hm
    refine rg (pv (r_fa rfl Try.underlying55 rfl Try.sizeOf32 rfl) (pv (r_ld rfl Try.isAgg32 (hS5.cell0 (i := 0) ⟨rfl, rfl⟩ (j := 4) rfl)) (wl rfl (calS cf36 rfl (slices_Clone_sim (p0 := u1.Type_.Fields) (hS5.bun [0, 1, 2, 3, 4] [] rfl) (h1.mono (Im.trans im4 im5)) hx3) rfl fun v2 T2 w6 im6 rv2 => ?_))))
    obtain ⟨a3, n2, c3, rfl, hS6, _⟩ := rv2
    have hS6 : Sep g T2 w6 [boxA b3 [.int .i64 u1.Type_.Kind, .int .i64 u1.Type_.Elem, .int .i64 u1.Type_.Len, .string ⟨u1.Type_.Name.toArray⟩, .slice a2 (List.length u1.Type_.Fields) c2], boxA b1 [.int .i64 0, .int .i64 0, .int .i64 0, .string ⟨([] : List UInt8).toArray⟩, .slice none 0 0], R, H_p0 [.slice a1 n1 c1], ownA rKindKnown 65 (.slice a1 n1 c1) p0.list, ownA rGField 45 (.slice a3 n2 c3) y2] := hS6.unb
    refine pv (r_fa rfl Try.underlying55 rfl Try.sizeOf32 rfl) (wl rfl (st0B (q := 0) hS6 ⟨rfl, rfl⟩ rfl rfl rfl Try.sizeOf32 rfl rfl rfl fun w7 im7 hS7 => ?_))
    have hS7 : Sep g T2 w7 [boxA b3 [.int .i64 u1.Type_.Kind, .int .i64 u1.Type_.Elem, .int .i64 u1.Type_.Len, .string ⟨u1.Type_.Name.toArray⟩, .slice a3 n2 c3], boxA b1 [.int .i64 0, .int .i64 0, .int .i64 0, .string ⟨([] : List UInt8).toArray⟩, .slice none 0 0], R, H_p0 [.slice a1 n1 c1], ownA rKindKnown 65 (.slice a1 n1 c1) p0.list, ownA rGField 45 (.slice a3 n2 c3) y2] := hS7
    refine nil (t_then ?_)
    refine sq2 ?_
    refine rg (pv (r_ldS rfl Try.isAgg55 Try.sizeOf55 rfl (hS7.cells0 (i := 0) ⟨rfl, rfl⟩ (o := 0) rfl) (cs := [.int .i64 u1.Type_.Kind, .int .i64 u1.Type_.Elem, .int .i64 u1.Type_.Len, .string ⟨u1.Type_.Name.toArray⟩, .slice a3 n2 c3])) (wl rfl (st0B (q := 1) hS7 ⟨rfl, rfl⟩ rfl rfl rfl Try.sizeOf55 rfl rfl rfl fun w8 im8 hS8 => ?_)))
    have hS8 : Sep g T2 w8 [boxA b3 [.int .i64 u1.Type_.Kind, .int .i64 u1.Type_.Elem, .int .i64 u1.Type_.Len, .string ⟨u1.Type_.Name.toArray⟩, .slice a3 n2 c3], boxA b1 [.int .i64 u1.Type_.Kind, .int .i64 u1.Type_.Elem, .int .i64 u1.Type_.Len, .string ⟨u1.Type_.Name.toArray⟩, .slice a3 n2 c3], R, H_p0 [.slice a1 n1 c1], ownA rKindKnown 65 (.slice a1 n1 c1) p0.list, ownA rGField 45 (.slice a3 n2 c3) y2] := hS8
    refine pv (r_zi rfl) (nil (t_thenR [(4, .pointer (some ⟨b1, 0, none⟩)), (5, .int .i64 0)] ⟨rfl, rfl, trivial⟩ fun J => ?_))
    obtain ⟨T3, im9, hS9, h2⟩ := hS8.seal 5 ⟨rfl, rfl⟩
    have hsh := h2.len
    subst hsh
    have hS9 : Sep g T3 w8 [boxA b3 [.int .i64 u1.Type_.Kind, .int .i64 u1.Type_.Elem, .int .i64 u1.Type_.Len, .string ⟨u1.Type_.Name.toArray⟩, .slice a3 (List.length y2) c3], boxA b1 [.int .i64 u1.Type_.Kind, .int .i64 u1.Type_.Elem, .int .i64 u1.Type_.Len, .string ⟨u1.Type_.Name.toArray⟩, .slice a3 (List.length y2) c3], R, H_p0 [.slice a1 n1 c1], ownA rKindKnown 65 (.slice a1 n1 c1) p0.list, empA] := hS9
    have hm := Option.some.inj hm
    subst hm
    exact rtn (retN (vs := [.agg #[.int .i64 u1.Type_.Kind, .int .i64 u1.Type_.Elem, .int .i64 u1.Type_.Len, .string ⟨u1.Type_.Name.toArray⟩, .slice a3 (List.length y2) c3], .int .i64 0]) rfl ⟨rvS rfl Try.isAgg55 Try.sizeOf55 rfl (hS9.bx (i := 1) ⟨rfl, rfl⟩), rfl, trivial⟩ rfl ⟨_, rfl, _, (Im.trans im1 (Im.trans im2 (Im.trans im4 (Im.trans im5 (Im.trans im6 (Im.trans im7 (Im.trans im8 im9))))))), ⟨_, _, rfl, hS9.sel [2, 3, 4] rfl, h2, trivial⟩⟩)

set_option maxRecDepth 100000 in
set_option maxHeartbeats 1000000 in
theorem law08_KindLies_sim {g : World} {T0 : Nat → Prop} {w0 : World} {R : Assn} {p0 : List law08Act} {a1 : Option Addr} {c1 : Nat} {r : Bool} (hS : Sep g T0 w0 [R]) (h1 : SlR rlaw08Act T0 w0 (.slice a1 (List.length p0) c1) p0) (hm : law08_KindLies p0 = some r) :
    Calls Try.prog 5 #[.slice a1 (List.length p0) c1] w0 (RetS T0 w0 fun T w v => v = .bool r ∧ Sep g T w [R] ∧ True) := by
  refine enter (args := [.slice a1 (List.length p0) c1]) Try.func5 rfl Try.ntmps5 rfl fun J => ?_
  unfold law08_KindLies at hm
  refine sq2 ?_
  refine rg (pv (r_zb rfl) (nil (t_then ?_)))
  refine sq2 ?_
  refine sq2 ?_
  obtain ⟨y1, hx1, hm⟩ := bindS hm
  refine rg (pv (r_ms rfl) (wl rfl (calS cf8 rfl (law08_Few_sim (p0 := p0) (hS.bun [0] [] rfl) h1 hx1) rfl fun v1 T1 w1 im1 rv1 => ?_)))
  obtain ⟨rfl, hS1, _⟩ := rv1
  have hS1 : Sep g T1 w1 [R] := hS1.unb
  refine pv (r_nt rfl) (nil (t_then ?_))
  refine cnd rfl (fun hb1 => ?_) (fun hb1 => ?_)
  · have hm := ctrue hb1 hm
    refine sq2 ?_
    obtain ⟨y2, hx2, hm⟩ := bindS hm
    refine rg (wl rfl (calS cf9 rfl (law08_awake_sim  (hS1.bun [0] [] rfl)  hx2) rfl fun v2 T2 w2 im2 rv2 => ?_))
    obtain ⟨rfl, hS2, _⟩ := rv2
    have hS2 : Sep g T2 w2 [R] := hS2.unb
    refine pv (r_zb rfl) (nil (t_thenR [(2, .bool y2)] ⟨rfl, trivial⟩ fun J => ?_))
    have hm := Option.some.inj hm
    subst hm
    exact rtn (r_then (ret1 rfl rfl ⟨_, rfl, _, (Im.trans im1 im2), ⟨rfl, hS2.sel [0] rfl, trivial⟩⟩))
  · have hm := cfalse hb1 hm
    refine skp (t_then ?_)
    refine sq2 ?_
    obtain ⟨y3, hx3, hm⟩ := bindS hm
    refine rg (wl rfl (calS cf10 rfl (kind_New_sim  (hS1.bun [0] [] rfl)  hx3) rfl fun v3 T3 w3 im3 rv3 => ?_))
    obtain ⟨b1, a2, n1, c2, rfl, hS3, _⟩ := rv3
    have hS3 : Sep g T3 w3 [R, boxA b1 [.slice a2 n1 c2], ownA rKindKnown 65 (.slice a2 n1 c2) y3.list] := hS3.unb
    refine pv (r_zp rfl) (nil (t_thenR [(0, .slice a1 (List.length p0) c1), (3, .pointer (some ⟨b1, 0, none⟩))] ⟨rfl, rfl, trivial⟩ fun J => ?_))
    refine sq2 ?_
    refine sq2 ?_
    refine rg (pv (r_zi rfl) (nil (t_then ?_)))
    obtain ⟨o1, ho1, hq1⟩ := bindS hm
    obtain ⟨bd1, hbd1, ho1⟩ := loop_open ho1
    refine blk (wp_loop_ghost (fun m a w4 => ∃ (J : Nat → Value) (T4 : Nat → Prop) (x3 : KindTable) (a3 : Option Addr) (n2 : Nat) (c3 : Nat) (x2 : Int), a = env 130 J [(0, .slice a1 (List.length p0) c1), (3, .pointer (some ⟨b1, 0, none⟩)), (4, .int .i64 x2)] ∧ Im T3 w3 T4 w4 ∧ Sep g T4 w4 [R, boxA b1 [.slice a3 n2 c3], ownA rKindKnown 65 (.slice a3 n2 c3) x3.list] ∧ loopM bd1 m (x2, x3) = some o1) NN ⟨_, _, y3, _, _, _, 0, env_has ⟨rfl, rfl, rfl, trivial⟩, Im.refl, hS3.sel [0, 1, 2] rfl, ho1⟩ ?_)
    rintro m _ w4 ⟨J, T4, x3, a3, n2, c3, x2, rfl, im4, hS4, ho1⟩
    obtain ⟨m1, z1, rfl, hm, hn1⟩ := loop_round ho1
    rw [hbd1] at hm
    refine sq2 ?_
    refine sq2 ?_
    refine rg (pv (r_mi rfl) (pv (r_ms rfl) (pv (r_ln rfl Try.underlying22) (pv (r_ib rfl rfl rfl) (nil (t_then ?_))))))
    refine cnd rfl (fun hb2 => ?_) (fun hb2 => ?_)
    · have hm := ctrue hb2 hm
      refine skp (t_then ?_)
      refine sq2 ?_
      refine blk ?_
      refine rs [0, 0, 0, 1, 0, 2, 2] [0, 1, 2, 3, 4, 5, 6] mix (by kernel_rfl) hS4.lt fun w5 i1 => ?_
      have im5 := i1.imm
      have hS5 := hS4.keep i1 (fun _ h => h)
      obtain ⟨u1, hx4, hm⟩ := bindS hm
      obtain ⟨b2, of1, cs1, k1, cp1, hv1, hp1, hl1, he1, hr1, hc1, hT1⟩ := (h1.mono (Im.trans im1 (Im.trans im3 (Im.trans im4 im5)))).ixT hx4 rfl
      obtain ⟨a4, c4, rfl, h2⟩ := rlaw08Act_open hr1
      obtain ⟨y4, hx5, hm⟩ := bindS hm
      refine s0 rfl trivial (fun _ => r_ms rfl) rfl (s0 rfl trivial (fun _ => r_mi rfl) rfl (s0 rfl trivial (fun _ => r_ixe hv1 rfl Try.underlying22 Try.sizeOf34 hp1 hl1 he1) rfl (s1 rfl trivial (r_ldS rfl Try.isAgg34 Try.sizeOf34 rfl hc1 (cs := [.int .i64 u1.Kind, .int .i64 u1.N, .int .i64 u1.Long, .string ⟨u1.Name.toArray⟩, .slice a4 (List.length u1.Fields) c4])) rfl (s0 rfl trivial (fun _ => r_mp rfl) rfl (s2 [(3, .agg #[.int .i64 u1.Kind, .int .i64 u1.N, .int .i64 u1.Long, .string ⟨u1.Name.toArray⟩, .slice a4 (List.length u1.Fields) c4])] rfl trivial rfl (by kernel_rfl) (calS cf12 rfl (ref08_Begin_sim  (hS5.bun [0, 1, 2] [] rfl)  hx5) rfl fun v4 T5 w6 im6 rv4 => ?_))))))
      obtain ⟨a5, n3, c5, rfl, hS6, _⟩ := rv4
      have hS6 : Sep g T5 w6 [R, boxA b1 [.slice a3 n2 c3], ownA rKindKnown 65 (.slice a3 n2 c3) x3.list, ownA rref08Type 51 (.slice a5 n3 c5) y4] := hS6.unb
      refine ⟨st1 rfl (r_ldS rfl Try.isAgg34 Try.sizeOf34 rfl (hc1.same (im6 b2 hT1).2) (cs := [.int .i64 u1.Kind, .int .i64 u1.N, .int .i64 u1.Long, .string ⟨u1.Name.toArray⟩, .slice a4 (List.length u1.Fields) c4])) (st0), ?_⟩
      obtain ⟨T6, im7, hS7, h3⟩ := hS6.seal 3 ⟨rfl, rfl⟩
      have hsh := h3.len
      subst hsh
      have hS7 : Sep g T6 w6 [R, boxA b1 [.slice a3 n2 c3], ownA rKindKnown 65 (.slice a3 n2 c3) x3.list, empA] := hS7
      obtain ⟨y5, hx6, hm⟩ := bindS hm
      refine s2 [] rfl trivial rfl (by kernel_rfl) (calS cf11 rfl (law08_Act_Done_sim (p0 := u1) (p1 := x3) (H_p1 := boxA b1) (p2 := y4) (hS7.bun [0] [1, 2] rfl) (h2.mono (Im.trans im6 im7)) (lnBox b1) h3 hx6) rfl fun v5 T7 w7 im8 rv5 => ?_)
      obtain ⟨a6, c6, a7, n4, c7, rfl, hS8, h4, _⟩ := rv5
      have hS8 : Sep g T7 w7 [R, boxA b1 [.slice a7 n4 c7], ownA rKindKnown 65 (.slice a7 n4 c7) y5.2.2.2.list] := hS8.unb
      refine ⟨st0, ?_⟩
      refine se (t_blk (t_thenR [(0, .slice a1 (List.length p0) c1), (3, .pointer (some ⟨b1, 0, none⟩)), (4, .int .i64 x2)] ⟨rfl, rfl, rfl, trivial⟩ fun J => ?_))
      have hm := Option.some.inj hm
      subst hm
      exact rg (pv (r_mi rfl) (pv (r_ib rfl rfl rfl) (pv (r_zi rfl) (nil (t_then ⟨m1, Nat.lt_succ_self _, _, _, y5.2.2.2, _, _, _, (IntKind.wrap .i64 (x2 + 1)), env_has ⟨rfl, rfl, rfl, trivial⟩, (Im.trans im4 (Im.trans im5 (Im.trans im6 (Im.trans im7 im8)))), hS8.sel [0, 1, 2] rfl, hn1⟩)))))
    · have hm := cfalse hb2 hm
      have hm := Option.some.inj hm
      subst hm
      have hn1 : _ = Lp.brk _ := hn1
      subst hn1
      have hm := thn_brk hq1
      refine xt (x_then (x_then (x_eq (t_thenR [(3, .pointer (some ⟨b1, 0, none⟩))] ⟨rfl, trivial⟩ fun J => ?_))))
      refine sq2 ?_
      refine sq2 ?_
      refine rg (pv (r_zi rfl) (nil (t_then ?_)))
      obtain ⟨o1, ho1, hq1⟩ := bindS hm
      obtain ⟨bd1, hbd1, ho1⟩ := loop_open ho1
      refine blk (wp_loop_ghost (fun m a w8 => ∃ (J : Nat → Value) (T8 : Nat → Prop) (x4 : Int), a = env 130 J [(3, .pointer (some ⟨b1, 0, none⟩)), (5, .int .i64 x4)] ∧ Im T4 w4 T8 w8 ∧ Sep g T8 w8 [R, boxA b1 [.slice a3 n2 c3], ownA rKindKnown 65 (.slice a3 n2 c3) x3.list] ∧ loopM bd1 m x4 = some o1) NN ⟨_, _, 0, env_has ⟨rfl, rfl, trivial⟩, Im.refl, hS4.sel [0, 1, 2] rfl, ho1⟩ ?_)
      rintro m _ w8 ⟨J, T8, x4, rfl, im9, hS9, ho1⟩
      obtain ⟨m1, z1, rfl, hm, hn1⟩ := loop_round ho1
      rw [hbd1] at hm
      refine sq2 ?_
      refine sq2 ?_
      obtain ⟨y6, hx7, hm⟩ := bindS hm
      refine rg (pv (r_mi rfl) (pv (r_mp rfl) (wl rfl (calS cf15 rfl (kind_Table_Count_sim (p0 := x3) (H_p0 := boxA b1) (hS9.bun [0] [1, 2] rfl) (lnBox b1) hx7) rfl fun v6 T9 w9 im10 rv6 => ?_))))
      obtain ⟨rfl, hS10, _⟩ := rv6
      have hS10 : Sep g T9 w9 [R, boxA b1 [.slice a3 n2 c3], ownA rKindKnown 65 (.slice a3 n2 c3) x3.list] := hS10.unb
      refine pv (r_ib rfl rfl rfl) (pv (r_mb rfl) (?_))
      rcases Bool.eq_false_or_eq_true (decide (x4 < y6)) with hb3 | hb3
      · have hm := ctrue hb3 hm
        refine gT (d0 := 36) rfl rfl hb3 (pv (r_mi rfl) (gT (d0 := 36) rfl rfl hb3 (pv (r_ib rfl rfl rfl) (pv (r_pkt rfl hb3 rfl) (nil (t_thenR [(3, .pointer (some ⟨b1, 0, none⟩)), (5, .int .i64 x4), (39, .bool (decide (x4 < 500)))] ⟨rfl, rfl, rfl, trivial⟩ fun J => ?_))))))
        refine cnd rfl (fun hb4 => ?_) (fun hb4 => ?_)
        · have hm := ctrue hb4 hm
          refine skp (t_then ?_)
          refine sq2 ?_
          refine blk ?_
          refine sq2 ?_
          obtain ⟨y7, hx8, hm⟩ := bindS hm
          refine rg (pv (r_mp rfl) (pv (r_mi rfl) (wl rfl (calS cf20 rfl (kind_Table_Type_sim (p0 := x3) (H_p0 := boxA b1) (p1 := x4) (hS10.bun [0] [1, 2] rfl) (lnBox b1) hx8) rfl fun v7 T10 w10 im11 rv7 => ?_))))
          obtain ⟨a8, c8, rfl, hS11, h5, _⟩ := rv7
          have hS11 : Sep g T10 w10 [R, boxA b1 [.slice a3 n2 c3], ownA rKindKnown 65 (.slice a3 n2 c3) x3.list] := hS11.unb
          refine pv (r_mv rfl) (pv (r_ex (v := .agg #[.int .i64 y7.1.Kind, .int .i64 y7.1.Elem, .int .i64 y7.1.Len, .string ⟨y7.1.Name.toArray⟩, .slice a8 (List.length y7.1.Fields) c8]) rfl rfl) (pv (r_ex (v := .int .i64 y7.2) rfl rfl) (wl rfl (alS (zs := [.int .i64 0, .int .i64 0, .int .i64 0, .string ⟨([] : List UInt8).toArray⟩, .slice none 0 0]) Try.zeroValue55 rfl hS11 fun w11 b3 im12 hS12 => ?_))))
          refine wl rfl (st0B (q := 0) hS12 ⟨rfl, rfl⟩ rfl rfl rfl Try.sizeOf55 rfl rfl rfl fun w12 im13 hS13 => ?_)
          have hS13 : Sep g T10 w12 [boxA b3 [.int .i64 y7.1.Kind, .int .i64 y7.1.Elem, .int .i64 y7.1.Len, .string ⟨y7.1.Name.toArray⟩, .slice a8 (List.length y7.1.Fields) c8], R, boxA b1 [.slice a3 n2 c3], ownA rKindKnown 65 (.slice a3 n2 c3) x3.list] := hS13
          refine pv (r_zi rfl) (nil (t_thenR [(3, .pointer (some ⟨b1, 0, none⟩)), (5, .int .i64 x4), (6, .pointer (some ⟨b3, 0, none⟩)), (7, .int .i64 y7.2)] ⟨rfl, rfl, rfl, rfl, trivial⟩ fun J => ?_))
          refine sq2 ?_
          obtain ⟨y8, hx9, hm⟩ := bindS hm
          refine rg (pv (r_mp rfl) (pv (r_mi rfl) (wl rfl (calS cf21 rfl (kind_Table_Size_sim (p0 := x3) (H_p0 := boxA b1) (p1 := x4) (hS13.bun [0, 1] [2, 3] rfl) (lnBox b1) hx9) rfl fun v8 T11 w13 im14 rv8 => ?_))))
          obtain ⟨rfl, hS14, _⟩ := rv8
          have hS14 : Sep g T11 w13 [boxA b3 [.int .i64 y7.1.Kind, .int .i64 y7.1.Elem, .int .i64 y7.1.Len, .string ⟨y7.1.Name.toArray⟩, .slice a8 (List.length y7.1.Fields) c8], R, boxA b1 [.slice a3 n2 c3], ownA rKindKnown 65 (.slice a3 n2 c3) x3.list] := hS14.unb
          obtain ⟨y9, hx10, hm⟩ := bindS hm
          refine pv (r_mp rfl) (pv (r_mi rfl) (wl rfl (calS cf22 rfl (kind_Table_Align_sim (p0 := x3) (H_p0 := boxA b1) (p1 := x4) (hS14.bun [0, 1] [2, 3] rfl) (lnBox b1) hx10) rfl fun v9 T12 w14 im15 rv9 => ?_)))
          obtain ⟨rfl, hS15, _⟩ := rv9
          have hS15 : Sep g T12 w14 [boxA b3 [.int .i64 y7.1.Kind, .int .i64 y7.1.Elem, .int .i64 y7.1.Len, .string ⟨y7.1.Name.toArray⟩, .slice a8 (List.length y7.1.Fields) c8], R, boxA b1 [.slice a3 n2 c3], ownA rKindKnown 65 (.slice a3 n2 c3) x3.list] := hS15.unb
          refine pv (r_zi rfl) (pv (r_zi rfl) (nil (t_thenR [(3, .pointer (some ⟨b1, 0, none⟩)), (5, .int .i64 x4), (6, .pointer (some ⟨b3, 0, none⟩)), (7, .int .i64 y7.2), (8, .int .i64 y8), (9, .int .i64 y9)] ⟨rfl, rfl, rfl, rfl, rfl, rfl, trivial⟩ fun J => ?_)))
          refine sq2 ?_
          refine sq2 ?_
          refine rg (pv (r_mi rfl) (pv (r_ib rfl rfl rfl) (pv (r_mb rfl) (?_))))
          rcases Bool.eq_false_or_eq_true (y7.2 != 0) with hb5 | hb5
          · have hm := ctrue hb5 hm
            refine gF (d0 := 56) rfl rfl (by rw [hb5]; rfl) (gF (d0 := 56) rfl rfl (by rw [hb5]; rfl) (pv (r_pkt rfl hb5 rfl) (pv (r_mb rfl) (gF (d0 := 60) rfl rfl rfl (gF (d0 := 60) rfl rfl rfl (pv (r_pkt rfl rfl rfl) (pv (r_mb rfl) (gF (d0 := 64) rfl rfl rfl (gF (d0 := 64) rfl rfl rfl (pv (r_pkt rfl rfl rfl) (pv (r_mb rfl) (gF (d0 := 68) rfl rfl rfl (gF (d0 := 68) rfl rfl rfl (gF (d0 := 68) rfl rfl rfl (gU (d0 := 71) rfl rfl (gU (d0 := 71) rfl rfl (gU (d0 := 71) rfl rfl (gU (d0 := 74) rfl rfl (gU (d0 := 74) rfl rfl (gU (d0 := 74) rfl rfl (gU (d0 := 74) rfl rfl (gU (d0 := 71) rfl rfl (gF (d0 := 68) rfl rfl rfl (pv (r_pkt rfl rfl rfl) (nil (t_thenR [(3, .pointer (some ⟨b1, 0, none⟩)), (5, .int .i64 x4), (6, .pointer (some ⟨b3, 0, none⟩)), (8, .int .i64 y8), (9, .int .i64 y9), (81, .bool true)] ⟨rfl, rfl, rfl, rfl, rfl, rfl, trivial⟩ fun J => ?_))))))))))))))))))))))))))
            refine cnd (b := true) rfl (fun _ => ?_) (fun h => nomatch h)
            refine sq2 ?_
            refine rg (pv (r_zb rfl) (nil (t_thenR [(2, .bool false)] ⟨rfl, trivial⟩ fun J => ?_)))
            have hm := Option.some.inj hm
            subst hm
            have hn1 : _ = Lp.ret _ := hn1
            subst hn1
            have hm := thn_ret hq1
            have hm := Option.some.inj hm
            subst hm
            exact rtn (r_then (r_blk (r_then (r_then (r_blk (r_then (ret1 rfl rfl ⟨_, rfl, _, (Im.trans im1 (Im.trans im3 (Im.trans im4 (Im.trans im9 (Im.trans im10 (Im.trans im11 (Im.trans im12 (Im.trans im13 (Im.trans im14 im15))))))))), ⟨rfl, hS15.sel [1] rfl, trivial⟩⟩)))))))
          · have hm := cfalse hb5 hm
            refine gT (d0 := 56) rfl rfl hb5 (pv (r_mi rfl) (gT (d0 := 56) rfl rfl hb5 (pv (r_ib rfl rfl rfl) (pv (r_pkf rfl hb5 rfl) (pv (r_mb rfl) (?_))))))
            rcases Bool.eq_false_or_eq_true (decide (y8 < 0)) with hb6 | hb6
            · have hm := ctrue hb6 hm
              refine gF (d0 := 60) rfl rfl (by rw [hb6]; rfl) (gF (d0 := 60) rfl rfl (by rw [hb6]; rfl) (pv (r_pkt rfl hb6 rfl) (pv (r_mb rfl) (gF (d0 := 64) rfl rfl rfl (gF (d0 := 64) rfl rfl rfl (pv (r_pkt rfl rfl rfl) (pv (r_mb rfl) (gF (d0 := 68) rfl rfl rfl (gF (d0 := 68) rfl rfl rfl (gF (d0 := 68) rfl rfl rfl (gU (d0 := 71) rfl rfl (gU (d0 := 71) rfl rfl (gU (d0 := 71) rfl rfl (gU (d0 := 74) rfl rfl (gU (d0 := 74) rfl rfl (gU (d0 := 74) rfl rfl (gU (d0 := 74) rfl rfl (gU (d0 := 71) rfl rfl (gF (d0 := 68) rfl rfl rfl (pv (r_pkt rfl rfl rfl) (nil (t_thenR [(3, .pointer (some ⟨b1, 0, none⟩)), (5, .int .i64 x4), (6, .pointer (some ⟨b3, 0, none⟩)), (8, .int .i64 y8), (9, .int .i64 y9), (81, .bool true)] ⟨rfl, rfl, rfl, rfl, rfl, rfl, trivial⟩ fun J => ?_))))))))))))))))))))))
              refine cnd (b := true) rfl (fun _ => ?_) (fun h => nomatch h)
              refine sq2 ?_
              refine rg (pv (r_zb rfl) (nil (t_thenR [(2, .bool false)] ⟨rfl, trivial⟩ fun J => ?_)))
              have hm := Option.some.inj hm
              subst hm
              have hn1 : _ = Lp.ret _ := hn1
              subst hn1
              have hm := thn_ret hq1
              have hm := Option.some.inj hm
              subst hm
              exact rtn (r_then (r_blk (r_then (r_then (r_blk (r_then (ret1 rfl rfl ⟨_, rfl, _, (Im.trans im1 (Im.trans im3 (Im.trans im4 (Im.trans im9 (Im.trans im10 (Im.trans im11 (Im.trans im12 (Im.trans im13 (Im.trans im14 im15))))))))), ⟨rfl, hS15.sel [1] rfl, trivial⟩⟩)))))))
            · have hm := cfalse hb6 hm
              refine gT (d0 := 60) rfl rfl hb6 (pv (r_mi rfl) (gT (d0 := 60) rfl rfl hb6 (pv (r_ib rfl rfl rfl) (pv (r_pkf rfl hb6 rfl) (pv (r_mb rfl) (?_))))))
              rcases Bool.eq_false_or_eq_true (decide (32768 < y8)) with hb7 | hb7
              · have hm := ctrue hb7 hm
                refine gF (d0 := 64) rfl rfl (by rw [hb7]; rfl) (gF (d0 := 64) rfl rfl (by rw [hb7]; rfl) (pv (r_pkt rfl hb7 rfl) (pv (r_mb rfl) (gF (d0 := 68) rfl rfl rfl (gF (d0 := 68) rfl rfl rfl (gF (d0 := 68) rfl rfl rfl (gU (d0 := 71) rfl rfl (gU (d0 := 71) rfl rfl (gU (d0 := 71) rfl rfl (gU (d0 := 74) rfl rfl (gU (d0 := 74) rfl rfl (gU (d0 := 74) rfl rfl (gU (d0 := 74) rfl rfl (gU (d0 := 71) rfl rfl (gF (d0 := 68) rfl rfl rfl (pv (r_pkt rfl rfl rfl) (nil (t_thenR [(3, .pointer (some ⟨b1, 0, none⟩)), (5, .int .i64 x4), (6, .pointer (some ⟨b3, 0, none⟩)), (8, .int .i64 y8), (9, .int .i64 y9), (81, .bool true)] ⟨rfl, rfl, rfl, rfl, rfl, rfl, trivial⟩ fun J => ?_))))))))))))))))))
                refine cnd (b := true) rfl (fun _ => ?_) (fun h => nomatch h)
                refine sq2 ?_
                refine rg (pv (r_zb rfl) (nil (t_thenR [(2, .bool false)] ⟨rfl, trivial⟩ fun J => ?_)))
                have hm := Option.some.inj hm
                subst hm
                have hn1 : _ = Lp.ret _ := hn1
                subst hn1
                have hm := thn_ret hq1
                have hm := Option.some.inj hm
                subst hm
                exact rtn (r_then (r_blk (r_then (r_then (r_blk (r_then (ret1 rfl rfl ⟨_, rfl, _, (Im.trans im1 (Im.trans im3 (Im.trans im4 (Im.trans im9 (Im.trans im10 (Im.trans im11 (Im.trans im12 (Im.trans im13 (Im.trans im14 im15))))))))), ⟨rfl, hS15.sel [1] rfl, trivial⟩⟩)))))))
              · have hm := cfalse hb7 hm
                refine gT (d0 := 64) rfl rfl hb7 (pv (r_mi rfl) (gT (d0 := 64) rfl rfl hb7 (pv (r_ib rfl rfl rfl) (pv (r_pkf rfl hb7 rfl) (pv (r_mb rfl) (?_))))))
                rcases Bool.eq_false_or_eq_true (decide (y9 < 0)) with hb8 | hb8
                · have hm := ctrue hb8 hm
                  refine gF (d0 := 68) rfl rfl (by rw [hb8]; rfl) (gF (d0 := 68) rfl rfl (by rw [hb8]; rfl) (gF (d0 := 68) rfl rfl (by rw [hb8]; rfl) (gU (d0 := 71) rfl rfl (gU (d0 := 71) rfl rfl (gU (d0 := 71) rfl rfl (gU (d0 := 74) rfl rfl (gU (d0 := 74) rfl rfl (gU (d0 := 74) rfl rfl (gU (d0 := 74) rfl rfl (gU (d0 := 71) rfl rfl (gF (d0 := 68) rfl rfl (by rw [hb8]; rfl) (pv (r_pkt rfl hb8 rfl) (nil (t_thenR [(3, .pointer (some ⟨b1, 0, none⟩)), (5, .int .i64 x4), (6, .pointer (some ⟨b3, 0, none⟩)), (8, .int .i64 y8), (9, .int .i64 y9), (81, .bool true)] ⟨rfl, rfl, rfl, rfl, rfl, rfl, trivial⟩ fun J => ?_))))))))))))))
                  refine cnd (b := true) rfl (fun _ => ?_) (fun h => nomatch h)
                  refine sq2 ?_
                  refine rg (pv (r_zb rfl) (nil (t_thenR [(2, .bool false)] ⟨rfl, trivial⟩ fun J => ?_)))
                  have hm := Option.some.inj hm
                  subst hm
                  have hn1 : _ = Lp.ret _ := hn1
                  subst hn1
                  have hm := thn_ret hq1
                  have hm := Option.some.inj hm
                  subst hm
                  exact rtn (r_then (r_blk (r_then (r_then (r_blk (r_then (ret1 rfl rfl ⟨_, rfl, _, (Im.trans im1 (Im.trans im3 (Im.trans im4 (Im.trans im9 (Im.trans im10 (Im.trans im11 (Im.trans im12 (Im.trans im13 (Im.trans im14 im15))))))))), ⟨rfl, hS15.sel [1] rfl, trivial⟩⟩)))))))
                · have hm := cfalse hb8 hm
                  refine gT (d0 := 68) rfl rfl hb8 (pv (r_mi rfl) (gT (d0 := 68) rfl rfl hb8 (pv (r_ib rfl rfl rfl) (gT (d0 := 68) rfl rfl hb8 (pv (r_mb rfl) (?_))))))
                  rcases Bool.eq_false_or_eq_true (decide (0 < y8)) with hb9 | hb9
                  · have hm := ctrue hb9 hm
                    refine gT (d0 := 71) rfl rfl hb9 (pv (r_mi rfl) (gT (d0 := 71) rfl rfl hb9 (pv (r_ib rfl rfl rfl) (gT (d0 := 71) rfl rfl hb9 (pv (r_mb rfl) (?_))))))
                    rcases Bool.eq_false_or_eq_true (decide (y9 < 1)) with hb10 | hb10
                    · have hm := ctrue hb10 hm
                      refine gF (d0 := 74) rfl rfl (by rw [hb10]; rfl) (gF (d0 := 74) rfl rfl (by rw [hb10]; rfl) (gF (d0 := 74) rfl rfl (by rw [hb10]; rfl) (gF (d0 := 74) rfl rfl (by rw [hb10]; rfl) (gT (d0 := 71) rfl rfl hb9 (pv (r_pkt rfl hb10 rfl) (gT (d0 := 68) rfl rfl hb8 (pv (r_pkt rfl hb9 rfl) (pv (r_pkf rfl hb8 rfl) (nil (t_thenR [(3, .pointer (some ⟨b1, 0, none⟩)), (5, .int .i64 x4), (6, .pointer (some ⟨b3, 0, none⟩)), (8, .int .i64 y8), (9, .int .i64 y9), (81, .bool true)] ⟨rfl, rfl, rfl, rfl, rfl, rfl, trivial⟩ fun J => ?_))))))))))
                      refine cnd (b := true) rfl (fun _ => ?_) (fun h => nomatch h)
                      refine sq2 ?_
                      refine rg (pv (r_zb rfl) (nil (t_thenR [(2, .bool false)] ⟨rfl, trivial⟩ fun J => ?_)))
                      have hm := Option.some.inj hm
                      subst hm
                      have hn1 : _ = Lp.ret _ := hn1
                      subst hn1
                      have hm := thn_ret hq1
                      have hm := Option.some.inj hm
                      subst hm
                      exact rtn (r_then (r_blk (r_then (r_then (r_blk (r_then (ret1 rfl rfl ⟨_, rfl, _, (Im.trans im1 (Im.trans im3 (Im.trans im4 (Im.trans im9 (Im.trans im10 (Im.trans im11 (Im.trans im12 (Im.trans im13 (Im.trans im14 im15))))))))), ⟨rfl, hS15.sel [1] rfl, trivial⟩⟩)))))))
                    · have hm := cfalse hb10 hm
                      obtain ⟨_, hz1, hm⟩ := bindS hm
                      have hz1 := nz_some hz1
                      refine gT (d0 := 74) rfl rfl hb10 (pv (r_mi rfl) (gT (d0 := 74) rfl rfl hb10 (pv (r_mi rfl) (gT (d0 := 74) rfl rfl hb10 (pv (r_irm rfl rfl hz1) (gT (d0 := 74) rfl rfl hb10 (pv (r_ib rfl rfl rfl) (gT (d0 := 71) rfl rfl hb9 (pv (r_pkf rfl hb10 rfl) (gT (d0 := 68) rfl rfl hb8 (pv (r_pkt rfl hb9 rfl) (pv (r_pkf rfl hb8 rfl) (nil (t_thenR [(3, .pointer (some ⟨b1, 0, none⟩)), (5, .int .i64 x4), (6, .pointer (some ⟨b3, 0, none⟩)), (8, .int .i64 y8), (9, .int .i64 y9), (81, .bool ((Int.tmod y8 y9) != 0))] ⟨rfl, rfl, rfl, rfl, rfl, rfl, trivial⟩ fun J => ?_))))))))))))))
                      refine cnd rfl (fun hb11 => ?_) (fun hb11 => ?_)
                      · have hm := ctrue hb11 hm
                        refine sq2 ?_
                        refine rg (pv (r_zb rfl) (nil (t_thenR [(2, .bool false)] ⟨rfl, trivial⟩ fun J => ?_)))
                        have hm := Option.some.inj hm
                        subst hm
                        have hn1 : _ = Lp.ret _ := hn1
                        subst hn1
                        have hm := thn_ret hq1
                        have hm := Option.some.inj hm
                        subst hm
                        exact rtn (r_then (r_blk (r_then (r_then (r_blk (r_then (ret1 rfl rfl ⟨_, rfl, _, (Im.trans im1 (Im.trans im3 (Im.trans im4 (Im.trans im9 (Im.trans im10 (Im.trans im11 (Im.trans im12 (Im.trans im13 (Im.trans im14 im15))))))))), ⟨rfl, hS15.sel [1] rfl, trivial⟩⟩)))))))
                      · have hm := cfalse hb11 hm
                        refine skp (t_then ?_)
                        refine sq2 ?_
                        refine rg (pv (r_zi rfl) (nil (t_then ?_)))
                        refine sq2 ?_
                        refine sq2 ?_
                        refine rg (pv (r_zi rfl) (nil (t_then ?_)))
                        obtain ⟨o2, ho2, hq2⟩ := bindS hm
                        obtain ⟨bd2, hbd2, ho2⟩ := loop_open ho2
                        refine blk (wp_loop_ghost (fun m a w15 => ∃ (J : Nat → Value) (T13 : Nat → Prop) (x5 : Int) (x6 : Int), a = env 130 J [(3, .pointer (some ⟨b1, 0, none⟩)), (5, .int .i64 x4), (6, .pointer (some ⟨b3, 0, none⟩)), (8, .int .i64 y8), (9, .int .i64 y9), (10, .int .i64 x5), (11, .int .i64 x6)] ∧ Im T12 w14 T13 w15 ∧ Sep g T13 w15 [boxA b3 [.int .i64 y7.1.Kind, .int .i64 y7.1.Elem, .int .i64 y7.1.Len, .string ⟨y7.1.Name.toArray⟩, .slice a8 (List.length y7.1.Fields) c8], R, boxA b1 [.slice a3 n2 c3], ownA rKindKnown 65 (.slice a3 n2 c3) x3.list] ∧ loopM bd2 m (x5, x6) = some o2) NN ⟨_, _, 0, 0, env_has ⟨rfl, rfl, rfl, rfl, rfl, rfl, rfl, trivial⟩, Im.refl, hS15.sel [0, 1, 2, 3] rfl, ho2⟩ ?_)
                        rintro m _ w15 ⟨J, T13, x5, x6, rfl, im16, hS16, ho2⟩
                        obtain ⟨m2, z2, rfl, hm, hn2⟩ := loop_round ho2
                        rw [hbd2] at hm
                        refine sq2 ?_
                        refine sq2 ?_
                        refine rg (pv (r_mi rfl) (pv (r_fa rfl Try.underlying55 rfl Try.sizeOf32 rfl) (pv (r_ld rfl Try.isAgg32 (hS16.cell0 (i := 0) ⟨rfl, rfl⟩ (j := 4) rfl)) (pv (r_ln rfl Try.underlying32) (pv (r_ib rfl rfl rfl) (nil (t_then ?_)))))))
                        refine cnd rfl (fun hb12 => ?_) (fun hb12 => ?_)
                        · have hm := ctrue hb12 hm
                          refine skp (t_thenR [(3, .pointer (some ⟨b1, 0, none⟩)), (5, .int .i64 x4), (6, .pointer (some ⟨b3, 0, none⟩)), (8, .int .i64 y8), (9, .int .i64 y9), (10, .int .i64 x5), (11, .int .i64 x6)] ⟨rfl, rfl, rfl, rfl, rfl, rfl, rfl, trivial⟩ fun J => ?_)
                          refine sq2 ?_
                          refine blk ?_
                          refine sq2 ?_
                          obtain ⟨u2, hx11, hm⟩ := bindS hm
                          obtain ⟨b4, of2, cs2, k2, cp2, hv2, hp2, hl2, he2, hr2, hc2, hT2⟩ := (h5.mono (Im.trans im12 (Im.trans im13 (Im.trans im14 (Im.trans im15 im16))))).ixT hx11 rfl
                          cases rGField_open hr2
                          refine rg (pv (r_fa rfl Try.underlying55 rfl Try.sizeOf32 rfl) (pv (r_ld rfl Try.isAgg32 (hS16.cell0 (i := 0) ⟨rfl, rfl⟩ (j := 4) rfl)) (pv (r_mi rfl) (pv (r_ixe hv2 rfl Try.underlying32 Try.sizeOf45 hp2 hl2 he2) (pv (r_ldS rfl Try.isAgg45 Try.sizeOf45 rfl hc2 (cs := [.string ⟨u2.Name.toArray⟩, .int .i64 u2.Type_, .int .i64 u2.At])) (wl rfl (alS (zs := [.string ⟨([] : List UInt8).toArray⟩, .int .i64 0, .int .i64 0]) Try.zeroValue45 rfl hS16 fun w16 b5 im17 hS17 => ?_)))))))
                          refine wl rfl (st0B (q := 0) hS17 ⟨rfl, rfl⟩ rfl rfl rfl Try.sizeOf45 rfl rfl rfl fun w17 im18 hS18 => ?_)
                          have hS18 : Sep g T13 w17 [boxA b5 [.string ⟨u2.Name.toArray⟩, .int .i64 u2.Type_, .int .i64 u2.At], boxA b3 [.int .i64 y7.1.Kind, .int .i64 y7.1.Elem, .int .i64 y7.1.Len, .string ⟨y7.1.Name.toArray⟩, .slice a8 (List.length y7.1.Fields) c8], R, boxA b1 [.slice a3 n2 c3], ownA rKindKnown 65 (.slice a3 n2 c3) x3.list] := hS18
                          refine nil (t_thenR [(3, .pointer (some ⟨b1, 0, none⟩)), (5, .int .i64 x4), (6, .pointer (some ⟨b3, 0, none⟩)), (8, .int .i64 y8), (9, .int .i64 y9), (10, .int .i64 x5), (11, .int .i64 x6), (12, .pointer (some ⟨b5, 0, none⟩))] ⟨rfl, rfl, rfl, rfl, rfl, rfl, rfl, rfl, trivial⟩ fun J => ?_)
                          refine sq2 ?_
                          obtain ⟨y10, hx12, hm⟩ := bindS hm
                          refine rg (pv (r_mp rfl) (pv (r_fa rfl Try.underlying45 rfl Try.sizeOf3 rfl) (pv (r_ld rfl Try.isAgg3 (hS18.cell0 (i := 0) ⟨rfl, rfl⟩ (j := 1) rfl)) (wl rfl (calS cf22 rfl (kind_Table_Align_sim (p0 := x3) (H_p0 := boxA b1) (p1 := u2.Type_) (hS18.bun [0, 1, 2] [3, 4] rfl) (lnBox b1) hx12) rfl fun v10 T14 w18 im19 rv10 => ?_)))))
                          obtain ⟨rfl, hS19, _⟩ := rv10
                          have hS19 : Sep g T14 w18 [boxA b5 [.string ⟨u2.Name.toArray⟩, .int .i64 u2.Type_, .int .i64 u2.At], boxA b3 [.int .i64 y7.1.Kind, .int .i64 y7.1.Elem, .int .i64 y7.1.Len, .string ⟨y7.1.Name.toArray⟩, .slice a8 (List.length y7.1.Fields) c8], R, boxA b1 [.slice a3 n2 c3], ownA rKindKnown 65 (.slice a3 n2 c3) x3.list] := hS19.unb
                          refine pv (r_zi rfl) (nil (t_then ?_))
                          refine sq2 ?_
                          refine sq2 ?_
                          refine rg (pv (r_fa rfl Try.underlying45 rfl Try.sizeOf3 rfl) (pv (r_ld rfl Try.isAgg3 (hS19.cell0 (i := 0) ⟨rfl, rfl⟩ (j := 2) rfl)) (pv (r_mi rfl) (pv (r_ib rfl rfl rfl) (pv (r_mb rfl) (?_))))))
                          rcases Bool.eq_false_or_eq_true (decide (u2.At < x5)) with hb13 | hb13
                          · have hm := ctrue hb13 hm
                            refine gF (d0 := 102) rfl rfl (by rw [hb13]; rfl) (gF (d0 := 102) rfl rfl (by rw [hb13]; rfl) (pv (r_pkt rfl hb13 rfl) (pv (r_mb rfl) (gF (d0 := 106) rfl rfl rfl (gF (d0 := 106) rfl rfl rfl (gF (d0 := 106) rfl rfl rfl (gF (d0 := 106) rfl rfl rfl (gF (d0 := 106) rfl rfl rfl (pv (r_pkt rfl rfl rfl) (pv (r_mb rfl) (gF (d0 := 113) rfl rfl rfl (gF (d0 := 113) rfl rfl rfl (gF (d0 := 113) rfl rfl rfl (gF (d0 := 113) rfl rfl rfl (pv (r_pkt rfl rfl rfl) (nil (t_thenR [(3, .pointer (some ⟨b1, 0, none⟩)), (5, .int .i64 x4), (6, .pointer (some ⟨b3, 0, none⟩)), (8, .int .i64 y8), (9, .int .i64 y9), (11, .int .i64 x6), (12, .pointer (some ⟨b5, 0, none⟩)), (118, .bool true)] ⟨rfl, rfl, rfl, rfl, rfl, rfl, rfl, rfl, trivial⟩ fun J => ?_)))))))))))))))))
                            refine cnd (b := true) rfl (fun _ => ?_) (fun h => nomatch h)
                            refine sq2 ?_
                            refine rg (pv (r_zb rfl) (nil (t_thenR [(2, .bool false)] ⟨rfl, trivial⟩ fun J => ?_)))
                            have hm := Option.some.inj hm
                            subst hm
                            have hn2 : _ = Lp.ret _ := hn2
                            subst hn2
                            have hm := thn_ret hq2
                            have hm := Option.some.inj hm
                            subst hm
                            have hn1 : _ = Lp.ret _ := hn1
                            subst hn1
                            have hm := thn_ret hq1
                            have hm := Option.some.inj hm
                            subst hm
                            exact rtn (r_then (r_blk (r_then (r_then (r_blk (r_then (r_blk (r_then (r_then (r_blk (r_then (ret1 rfl rfl ⟨_, rfl, _, (Im.trans im1 (Im.trans im3 (Im.trans im4 (Im.trans im9 (Im.trans im10 (Im.trans im11 (Im.trans im12 (Im.trans im13 (Im.trans im14 (Im.trans im15 (Im.trans im16 (Im.trans im17 (Im.trans im18 im19))))))))))))), ⟨rfl, hS19.sel [2] rfl, trivial⟩⟩))))))))))))
                          · have hm := cfalse hb13 hm
                            refine gT (d0 := 102) rfl rfl hb13 (pv (r_mi rfl) (gT (d0 := 102) rfl rfl hb13 (pv (r_ib rfl rfl rfl) (pv (r_pkf rfl hb13 rfl) (pv (r_mb rfl) (?_))))))
                            rcases Bool.eq_false_or_eq_true (decide (y10 < 1)) with hb14 | hb14
                            · have hm := ctrue hb14 hm
                              refine gF (d0 := 106) rfl rfl (by rw [hb14]; rfl) (gF (d0 := 106) rfl rfl (by rw [hb14]; rfl) (gF (d0 := 106) rfl rfl (by rw [hb14]; rfl) (gF (d0 := 106) rfl rfl (by rw [hb14]; rfl) (gF (d0 := 106) rfl rfl (by rw [hb14]; rfl) (pv (r_pkt rfl hb14 rfl) (pv (r_mb rfl) (gF (d0 := 113) rfl rfl rfl (gF (d0 := 113) rfl rfl rfl (gF (d0 := 113) rfl rfl rfl (gF (d0 := 113) rfl rfl rfl (pv (r_pkt rfl rfl rfl) (nil (t_thenR [(3, .pointer (some ⟨b1, 0, none⟩)), (5, .int .i64 x4), (6, .pointer (some ⟨b3, 0, none⟩)), (8, .int .i64 y8), (9, .int .i64 y9), (11, .int .i64 x6), (12, .pointer (some ⟨b5, 0, none⟩)), (118, .bool true)] ⟨rfl, rfl, rfl, rfl, rfl, rfl, rfl, rfl, trivial⟩ fun J => ?_)))))))))))))
                              refine cnd (b := true) rfl (fun _ => ?_) (fun h => nomatch h)
                              refine sq2 ?_
                              refine rg (pv (r_zb rfl) (nil (t_thenR [(2, .bool false)] ⟨rfl, trivial⟩ fun J => ?_)))
                              have hm := Option.some.inj hm
                              subst hm
                              have hn2 : _ = Lp.ret _ := hn2
                              subst hn2
                              have hm := thn_ret hq2
                              have hm := Option.some.inj hm
                              subst hm
                              have hn1 : _ = Lp.ret _ := hn1
                              subst hn1
                              have hm := thn_ret hq1
                              have hm := Option.some.inj hm
                              subst hm
                              exact rtn (r_then (r_blk (r_then (r_then (r_blk (r_then (r_blk (r_then (r_then (r_blk (r_then (ret1 rfl rfl ⟨_, rfl, _, (Im.trans im1 (Im.trans im3 (Im.trans im4 (Im.trans im9 (Im.trans im10 (Im.trans im11 (Im.trans im12 (Im.trans im13 (Im.trans im14 (Im.trans im15 (Im.trans im16 (Im.trans im17 (Im.trans im18 im19))))))))))))), ⟨rfl, hS19.sel [2] rfl, trivial⟩⟩))))))))))))
                            · have hm := cfalse hb14 hm
                              obtain ⟨_, hz2, hm⟩ := bindS hm
                              have hz2 := nz_some hz2
                              refine gT (d0 := 106) rfl rfl hb14 (pv (r_fa rfl Try.underlying45 rfl Try.sizeOf3 rfl) (gT (d0 := 106) rfl rfl hb14 (pv (r_ld rfl Try.isAgg3 (hS19.cell0 (i := 0) ⟨rfl, rfl⟩ (j := 2) rfl)) (gT (d0 := 106) rfl rfl hb14 (pv (r_mi rfl) (gT (d0 := 106) rfl rfl hb14 (pv (r_irm rfl rfl hz2) (gT (d0 := 106) rfl rfl hb14 (pv (r_ib rfl rfl rfl) (pv (r_pkf rfl hb14 rfl) (pv (r_mb rfl) (?_))))))))))))
                              rcases Bool.eq_false_or_eq_true ((Int.tmod u2.At y10) != 0) with hb15 | hb15
                              · have hm := ctrue hb15 hm
                                refine gF (d0 := 113) rfl rfl (by rw [hb15]; rfl) (gF (d0 := 113) rfl rfl (by rw [hb15]; rfl) (gF (d0 := 113) rfl rfl (by rw [hb15]; rfl) (gF (d0 := 113) rfl rfl (by rw [hb15]; rfl) (pv (r_pkt rfl hb15 rfl) (nil (t_thenR [(3, .pointer (some ⟨b1, 0, none⟩)), (5, .int .i64 x4), (6, .pointer (some ⟨b3, 0, none⟩)), (8, .int .i64 y8), (9, .int .i64 y9), (11, .int .i64 x6), (12, .pointer (some ⟨b5, 0, none⟩)), (118, .bool true)] ⟨rfl, rfl, rfl, rfl, rfl, rfl, rfl, rfl, trivial⟩ fun J => ?_))))))
                                refine cnd (b := true) rfl (fun _ => ?_) (fun h => nomatch h)
                                refine sq2 ?_
                                refine rg (pv (r_zb rfl) (nil (t_thenR [(2, .bool false)] ⟨rfl, trivial⟩ fun J => ?_)))
                                have hm := Option.some.inj hm
                                subst hm
                                have hn2 : _ = Lp.ret _ := hn2
                                subst hn2
                                have hm := thn_ret hq2
                                have hm := Option.some.inj hm
                                subst hm
                                have hn1 : _ = Lp.ret _ := hn1
                                subst hn1
                                have hm := thn_ret hq1
                                have hm := Option.some.inj hm
                                subst hm
                                exact rtn (r_then (r_blk (r_then (r_then (r_blk (r_then (r_blk (r_then (r_then (r_blk (r_then (ret1 rfl rfl ⟨_, rfl, _, (Im.trans im1 (Im.trans im3 (Im.trans im4 (Im.trans im9 (Im.trans im10 (Im.trans im11 (Im.trans im12 (Im.trans im13 (Im.trans im14 (Im.trans im15 (Im.trans im16 (Im.trans im17 (Im.trans im18 im19))))))))))))), ⟨rfl, hS19.sel [2] rfl, trivial⟩⟩))))))))))))
                              · have hm := cfalse hb15 hm
                                obtain ⟨_, hz3, hm⟩ := bindS hm
                                have hz3 := nz_some hz3
                                refine gT (d0 := 113) rfl rfl hb15 (pv (r_mi rfl) (gT (d0 := 113) rfl rfl hb15 (pv (r_mi rfl) (gT (d0 := 113) rfl rfl hb15 (pv (r_irm rfl rfl hz3) (gT (d0 := 113) rfl rfl hb15 (pv (r_ib rfl rfl rfl) (pv (r_pkf rfl hb15 rfl) (nil (t_thenR [(3, .pointer (some ⟨b1, 0, none⟩)), (5, .int .i64 x4), (6, .pointer (some ⟨b3, 0, none⟩)), (8, .int .i64 y8), (9, .int .i64 y9), (11, .int .i64 x6), (12, .pointer (some ⟨b5, 0, none⟩)), (118, .bool ((Int.tmod y9 y10) != 0))] ⟨rfl, rfl, rfl, rfl, rfl, rfl, rfl, rfl, trivial⟩ fun J => ?_))))))))))
                                refine cnd rfl (fun hb16 => ?_) (fun hb16 => ?_)
                                · have hm := ctrue hb16 hm
                                  refine sq2 ?_
                                  refine rg (pv (r_zb rfl) (nil (t_thenR [(2, .bool false)] ⟨rfl, trivial⟩ fun J => ?_)))
                                  have hm := Option.some.inj hm
                                  subst hm
                                  have hn2 : _ = Lp.ret _ := hn2
                                  subst hn2
                                  have hm := thn_ret hq2
                                  have hm := Option.some.inj hm
                                  subst hm
                                  have hn1 : _ = Lp.ret _ := hn1
                                  subst hn1
                                  have hm := thn_ret hq1
                                  have hm := Option.some.inj hm
                                  subst hm
                                  exact rtn (r_then (r_blk (r_then (r_then (r_blk (r_then (r_blk (r_then (r_then (r_blk (r_then (ret1 rfl rfl ⟨_, rfl, _, (Im.trans im1 (Im.trans im3 (Im.trans im4 (Im.trans im9 (Im.trans im10 (Im.trans im11 (Im.trans im12 (Im.trans im13 (Im.trans im14 (Im.trans im15 (Im.trans im16 (Im.trans im17 (Im.trans im18 im19))))))))))))), ⟨rfl, hS19.sel [2] rfl, trivial⟩⟩))))))))))))
                                · have hm := cfalse hb16 hm
                                  refine skp (t_then ?_)
                                  refine rs [0, 1, 0, 0, 1, 2, 0, 0] [0, 1, 2, 3, 4, 5, 6, 7] mix (by kernel_rfl) hS19.lt fun w19 i2 => ?_
                                  have im20 := i2.imm
                                  have hS20 := hS19.keep i2 (fun _ h => h)
                                  obtain ⟨y11, hx13, hm⟩ := bindS hm
                                  refine s0 rfl trivial (fun _ => r_fa rfl Try.underlying45 rfl Try.sizeOf3 rfl) rfl (s1 rfl trivial (r_ld rfl Try.isAgg3 (hS20.cell0 (i := 0) ⟨rfl, rfl⟩ (j := 2) rfl)) rfl (s0 rfl trivial (fun _ => r_mp rfl) rfl (s0 rfl trivial (fun _ => r_fa rfl Try.underlying45 rfl Try.sizeOf3 rfl) rfl (s1 rfl trivial (r_ld rfl Try.isAgg3 (hS20.cell0 (i := 0) ⟨rfl, rfl⟩ (j := 1) rfl)) rfl (s2 [(1, .int .i64 u2.At)] rfl trivial rfl (by kernel_rfl) (calS cf21 rfl (kind_Table_Size_sim (p0 := x3) (H_p0 := boxA b1) (p1 := u2.Type_) (hS20.bun [1, 2, 0] [3, 4] rfl) (lnBox b1) hx13) rfl fun v11 T15 w20 im21 rv11 => ?_))))))
                                  obtain ⟨rfl, hS21, _⟩ := rv11
                                  have hS21 : Sep g T15 w20 [boxA b3 [.int .i64 y7.1.Kind, .int .i64 y7.1.Elem, .int .i64 y7.1.Len, .string ⟨y7.1.Name.toArray⟩, .slice a8 (List.length y7.1.Fields) c8], R, boxA b5 [.string ⟨u2.Name.toArray⟩, .int .i64 u2.Type_, .int .i64 u2.At], boxA b1 [.slice a3 n2 c3], ownA rKindKnown 65 (.slice a3 n2 c3) x3.list] := hS21.unb
                                  refine ⟨st1 rfl (r_ld rfl Try.isAgg3 (hS21.cell0 (i := 2) ⟨rfl, rfl⟩ (j := 2) rfl)) (st0), ?_⟩
                                  refine s0 rfl trivial (fun _ => r_ib rfl rfl rfl) rfl (s0 rfl trivial (fun _ => r_zi rfl) rfl (se (t_blk (t_thenR [(3, .pointer (some ⟨b1, 0, none⟩)), (5, .int .i64 x4), (6, .pointer (some ⟨b3, 0, none⟩)), (8, .int .i64 y8), (9, .int .i64 y9), (10, .int .i64 (IntKind.wrap .i64 (u2.At + y11))), (11, .int .i64 x6)] ⟨rfl, rfl, rfl, rfl, rfl, rfl, rfl, trivial⟩ fun J => ?_))))
                                  have hm := Option.some.inj hm
                                  subst hm
                                  exact rg (pv (r_mi rfl) (pv (r_ib rfl rfl rfl) (pv (r_zi rfl) (nil (t_then ⟨m2, Nat.lt_succ_self _, _, _, (IntKind.wrap .i64 (u2.At + y11)), (IntKind.wrap .i64 (x6 + 1)), env_has ⟨rfl, rfl, rfl, rfl, rfl, rfl, rfl, trivial⟩, (Im.trans im16 (Im.trans im17 (Im.trans im18 (Im.trans im19 (Im.trans im20 im21))))), hS21.sel [0, 1, 3, 4] rfl, hn2⟩)))))
                        · have hm := cfalse hb12 hm
                          have hm := Option.some.inj hm
                          subst hm
                          have hn2 : _ = Lp.brk _ := hn2
                          subst hn2
                          have hm := thn_brk hq2
                          refine xt (x_then (x_then (x_eq (t_thenR [(3, .pointer (some ⟨b1, 0, none⟩)), (5, .int .i64 x4), (8, .int .i64 y8), (10, .int .i64 x5)] ⟨rfl, rfl, rfl, rfl, trivial⟩ fun J => ?_))))
                          refine sq2 ?_
                          refine rg (pv (r_mi rfl) (pv (r_mi rfl) (pv (r_ib rfl rfl rfl) (nil (t_then ?_)))))
                          refine cnd rfl (fun hb20 => ?_) (fun hb20 => ?_)
                          · have hm := ctrue hb20 hm
                            refine sq2 ?_
                            refine rg (pv (r_zb rfl) (nil (t_thenR [(2, .bool false)] ⟨rfl, trivial⟩ fun J => ?_)))
                            have hm := Option.some.inj hm
                            subst hm
                            have hn1 : _ = Lp.ret _ := hn1
                            subst hn1
                            have hm := thn_ret hq1
                            have hm := Option.some.inj hm
                            subst hm
                            exact rtn (r_blk (r_then (r_then (r_blk (r_then (ret1 rfl rfl ⟨_, rfl, _, (Im.trans im1 (Im.trans im3 (Im.trans im4 (Im.trans im9 (Im.trans im10 (Im.trans im11 (Im.trans im12 (Im.trans im13 (Im.trans im14 (Im.trans im15 im16)))))))))), ⟨rfl, hS16.sel [1] rfl, trivial⟩⟩))))))
                          · have hm := cfalse hb20 hm
                            refine skp (t_blk (t_thenR [(3, .pointer (some ⟨b1, 0, none⟩)), (5, .int .i64 x4)] ⟨rfl, rfl, trivial⟩ fun J => ?_))
                            have hm := Option.some.inj hm
                            subst hm
                            exact rg (pv (r_mi rfl) (pv (r_ib rfl rfl rfl) (pv (r_zi rfl) (nil (t_then ⟨m1, Nat.lt_succ_self _, _, _, (IntKind.wrap .i64 (x4 + 1)), env_has ⟨rfl, rfl, trivial⟩, (Im.trans im9 (Im.trans im10 (Im.trans im11 (Im.trans im12 (Im.trans im13 (Im.trans im14 (Im.trans im15 im16))))))), hS16.sel [1, 2, 3] rfl, hn1⟩)))))
                  · have hm := cfalse hb9 hm
                    refine gF (d0 := 71) rfl rfl (by rw [hb9]; rfl) (gF (d0 := 71) rfl rfl (by rw [hb9]; rfl) (gF (d0 := 71) rfl rfl (by rw [hb9]; rfl) (gU (d0 := 74) rfl rfl (gU (d0 := 74) rfl rfl (gU (d0 := 74) rfl rfl (gU (d0 := 74) rfl rfl (gF (d0 := 71) rfl rfl (by rw [hb9]; rfl) (gT (d0 := 68) rfl rfl hb8 (pv (r_pkf rfl hb9 rfl) (pv (r_pkf rfl hb8 rfl) (nil (t_thenR [(3, .pointer (some ⟨b1, 0, none⟩)), (5, .int .i64 x4), (6, .pointer (some ⟨b3, 0, none⟩)), (8, .int .i64 y8), (9, .int .i64 y9), (81, .bool false)] ⟨rfl, rfl, rfl, rfl, rfl, rfl, trivial⟩ fun J => ?_))))))))))))
                    refine cnd (b := false) rfl (fun h => nomatch h) (fun _ => ?_)
                    refine skp (t_then ?_)
                    refine sq2 ?_
                    refine rg (pv (r_zi rfl) (nil (t_then ?_)))
                    refine sq2 ?_
                    refine sq2 ?_
                    refine rg (pv (r_zi rfl) (nil (t_then ?_)))
                    obtain ⟨o2, ho2, hq2⟩ := bindS hm
                    obtain ⟨bd2, hbd2, ho2⟩ := loop_open ho2
                    refine blk (wp_loop_ghost (fun m a w21 => ∃ (J : Nat → Value) (T16 : Nat → Prop) (x7 : Int) (x8 : Int), a = env 130 J [(3, .pointer (some ⟨b1, 0, none⟩)), (5, .int .i64 x4), (6, .pointer (some ⟨b3, 0, none⟩)), (8, .int .i64 y8), (9, .int .i64 y9), (10, .int .i64 x7), (11, .int .i64 x8)] ∧ Im T12 w14 T16 w21 ∧ Sep g T16 w21 [boxA b3 [.int .i64 y7.1.Kind, .int .i64 y7.1.Elem, .int .i64 y7.1.Len, .string ⟨y7.1.Name.toArray⟩, .slice a8 (List.length y7.1.Fields) c8], R, boxA b1 [.slice a3 n2 c3], ownA rKindKnown 65 (.slice a3 n2 c3) x3.list] ∧ loopM bd2 m (x7, x8) = some o2) NN ⟨_, _, 0, 0, env_has ⟨rfl, rfl, rfl, rfl, rfl, rfl, rfl, trivial⟩, Im.refl, hS15.sel [0, 1, 2, 3] rfl, ho2⟩ ?_)
                    rintro m _ w21 ⟨J, T16, x7, x8, rfl, im22, hS22, ho2⟩
                    obtain ⟨m2, z2, rfl, hm, hn2⟩ := loop_round ho2
                    rw [hbd2] at hm
                    refine sq2 ?_
                    refine sq2 ?_
                    refine rg (pv (r_mi rfl) (pv (r_fa rfl Try.underlying55 rfl Try.sizeOf32 rfl) (pv (r_ld rfl Try.isAgg32 (hS22.cell0 (i := 0) ⟨rfl, rfl⟩ (j := 4) rfl)) (pv (r_ln rfl Try.underlying32) (pv (r_ib rfl rfl rfl) (nil (t_then ?_)))))))
                    refine cnd rfl (fun hb23 => ?_) (fun hb23 => ?_)
                    · have hm := ctrue hb23 hm
                      refine skp (t_thenR [(3, .pointer (some ⟨b1, 0, none⟩)), (5, .int .i64 x4), (6, .pointer (some ⟨b3, 0, none⟩)), (8, .int .i64 y8), (9, .int .i64 y9), (10, .int .i64 x7), (11, .int .i64 x8)] ⟨rfl, rfl, rfl, rfl, rfl, rfl, rfl, trivial⟩ fun J => ?_)
                      refine sq2 ?_
                      refine blk ?_
                      refine sq2 ?_
                      obtain ⟨u3, hx14, hm⟩ := bindS hm
                      obtain ⟨b6, of3, cs3, k3, cp3, hv3, hp3, hl3, he3, hr3, hc3, hT3⟩ := (h5.mono (Im.trans im12 (Im.trans im13 (Im.trans im14 (Im.trans im15 im22))))).ixT hx14 rfl
                      cases rGField_open hr3
                      refine rg (pv (r_fa rfl Try.underlying55 rfl Try.sizeOf32 rfl) (pv (r_ld rfl Try.isAgg32 (hS22.cell0 (i := 0) ⟨rfl, rfl⟩ (j := 4) rfl)) (pv (r_mi rfl) (pv (r_ixe hv3 rfl Try.underlying32 Try.sizeOf45 hp3 hl3 he3) (pv (r_ldS rfl Try.isAgg45 Try.sizeOf45 rfl hc3 (cs := [.string ⟨u3.Name.toArray⟩, .int .i64 u3.Type_, .int .i64 u3.At])) (wl rfl (alS (zs := [.string ⟨([] : List UInt8).toArray⟩, .int .i64 0, .int .i64 0]) Try.zeroValue45 rfl hS22 fun w22 b7 im23 hS23 => ?_)))))))
                      refine wl rfl (st0B (q := 0) hS23 ⟨rfl, rfl⟩ rfl rfl rfl Try.sizeOf45 rfl rfl rfl fun w23 im24 hS24 => ?_)
                      have hS24 : Sep g T16 w23 [boxA b7 [.string ⟨u3.Name.toArray⟩, .int .i64 u3.Type_, .int .i64 u3.At], boxA b3 [.int .i64 y7.1.Kind, .int .i64 y7.1.Elem, .int .i64 y7.1.Len, .string ⟨y7.1.Name.toArray⟩, .slice a8 (List.length y7.1.Fields) c8], R, boxA b1 [.slice a3 n2 c3], ownA rKindKnown 65 (.slice a3 n2 c3) x3.list] := hS24
                      refine nil (t_thenR [(3, .pointer (some ⟨b1, 0, none⟩)), (5, .int .i64 x4), (6, .pointer (some ⟨b3, 0, none⟩)), (8, .int .i64 y8), (9, .int .i64 y9), (10, .int .i64 x7), (11, .int .i64 x8), (12, .pointer (some ⟨b7, 0, none⟩))] ⟨rfl, rfl, rfl, rfl, rfl, rfl, rfl, rfl, trivial⟩ fun J => ?_)
                      refine sq2 ?_
                      obtain ⟨y12, hx15, hm⟩ := bindS hm
                      refine rg (pv (r_mp rfl) (pv (r_fa rfl Try.underlying45 rfl Try.sizeOf3 rfl) (pv (r_ld rfl Try.isAgg3 (hS24.cell0 (i := 0) ⟨rfl, rfl⟩ (j := 1) rfl)) (wl rfl (calS cf22 rfl (kind_Table_Align_sim (p0 := x3) (H_p0 := boxA b1) (p1 := u3.Type_) (hS24.bun [0, 1, 2] [3, 4] rfl) (lnBox b1) hx15) rfl fun v12 T17 w24 im25 rv12 => ?_)))))
                      obtain ⟨rfl, hS25, _⟩ := rv12
                      have hS25 : Sep g T17 w24 [boxA b7 [.string ⟨u3.Name.toArray⟩, .int .i64 u3.Type_, .int .i64 u3.At], boxA b3 [.int .i64 y7.1.Kind, .int .i64 y7.1.Elem, .int .i64 y7.1.Len, .string ⟨y7.1.Name.toArray⟩, .slice a8 (List.length y7.1.Fields) c8], R, boxA b1 [.slice a3 n2 c3], ownA rKindKnown 65 (.slice a3 n2 c3) x3.list] := hS25.unb
                      refine pv (r_zi rfl) (nil (t_then ?_))
                      refine sq2 ?_
                      refine sq2 ?_
                      refine rg (pv (r_fa rfl Try.underlying45 rfl Try.sizeOf3 rfl) (pv (r_ld rfl Try.isAgg3 (hS25.cell0 (i := 0) ⟨rfl, rfl⟩ (j := 2) rfl)) (pv (r_mi rfl) (pv (r_ib rfl rfl rfl) (pv (r_mb rfl) (?_))))))
                      rcases Bool.eq_false_or_eq_true (decide (u3.At < x7)) with hb24 | hb24
                      · have hm := ctrue hb24 hm
                        refine gF (d0 := 102) rfl rfl (by rw [hb24]; rfl) (gF (d0 := 102) rfl rfl (by rw [hb24]; rfl) (pv (r_pkt rfl hb24 rfl) (pv (r_mb rfl) (gF (d0 := 106) rfl rfl rfl (gF (d0 := 106) rfl rfl rfl (gF (d0 := 106) rfl rfl rfl (gF (d0 := 106) rfl rfl rfl (gF (d0 := 106) rfl rfl rfl (pv (r_pkt rfl rfl rfl) (pv (r_mb rfl) (gF (d0 := 113) rfl rfl rfl (gF (d0 := 113) rfl rfl rfl (gF (d0 := 113) rfl rfl rfl (gF (d0 := 113) rfl rfl rfl (pv (r_pkt rfl rfl rfl) (nil (t_thenR [(3, .pointer (some ⟨b1, 0, none⟩)), (5, .int .i64 x4), (6, .pointer (some ⟨b3, 0, none⟩)), (8, .int .i64 y8), (9, .int .i64 y9), (11, .int .i64 x8), (12, .pointer (some ⟨b7, 0, none⟩)), (118, .bool true)] ⟨rfl, rfl, rfl, rfl, rfl, rfl, rfl, rfl, trivial⟩ fun J => ?_)))))))))))))))))
                        refine cnd (b := true) rfl (fun _ => ?_) (fun h => nomatch h)
                        refine sq2 ?_
                        refine rg (pv (r_zb rfl) (nil (t_thenR [(2, .bool false)] ⟨rfl, trivial⟩ fun J => ?_)))
                        have hm := Option.some.inj hm
                        subst hm
                        have hn2 : _ = Lp.ret _ := hn2
                        subst hn2
                        have hm := thn_ret hq2
                        have hm := Option.some.inj hm
                        subst hm
                        have hn1 : _ = Lp.ret _ := hn1
                        subst hn1
                        have hm := thn_ret hq1
                        have hm := Option.some.inj hm
                        subst hm
                        exact rtn (r_then (r_blk (r_then (r_then (r_blk (r_then (r_blk (r_then (r_then (r_blk (r_then (ret1 rfl rfl ⟨_, rfl, _, (Im.trans im1 (Im.trans im3 (Im.trans im4 (Im.trans im9 (Im.trans im10 (Im.trans im11 (Im.trans im12 (Im.trans im13 (Im.trans im14 (Im.trans im15 (Im.trans im22 (Im.trans im23 (Im.trans im24 im25))))))))))))), ⟨rfl, hS25.sel [2] rfl, trivial⟩⟩))))))))))))
                      · have hm := cfalse hb24 hm
                        refine gT (d0 := 102) rfl rfl hb24 (pv (r_mi rfl) (gT (d0 := 102) rfl rfl hb24 (pv (r_ib rfl rfl rfl) (pv (r_pkf rfl hb24 rfl) (pv (r_mb rfl) (?_))))))
                        rcases Bool.eq_false_or_eq_true (decide (y12 < 1)) with hb25 | hb25
                        · have hm := ctrue hb25 hm
                          refine gF (d0 := 106) rfl rfl (by rw [hb25]; rfl) (gF (d0 := 106) rfl rfl (by rw [hb25]; rfl) (gF (d0 := 106) rfl rfl (by rw [hb25]; rfl) (gF (d0 := 106) rfl rfl (by rw [hb25]; rfl) (gF (d0 := 106) rfl rfl (by rw [hb25]; rfl) (pv (r_pkt rfl hb25 rfl) (pv (r_mb rfl) (gF (d0 := 113) rfl rfl rfl (gF (d0 := 113) rfl rfl rfl (gF (d0 := 113) rfl rfl rfl (gF (d0 := 113) rfl rfl rfl (pv (r_pkt rfl rfl rfl) (nil (t_thenR [(3, .pointer (some ⟨b1, 0, none⟩)), (5, .int .i64 x4), (6, .pointer (some ⟨b3, 0, none⟩)), (8, .int .i64 y8), (9, .int .i64 y9), (11, .int .i64 x8), (12, .pointer (some ⟨b7, 0, none⟩)), (118, .bool true)] ⟨rfl, rfl, rfl, rfl, rfl, rfl, rfl, rfl, trivial⟩ fun J => ?_)))))))))))))
                          refine cnd (b := true) rfl (fun _ => ?_) (fun h => nomatch h)
                          refine sq2 ?_
                          refine rg (pv (r_zb rfl) (nil (t_thenR [(2, .bool false)] ⟨rfl, trivial⟩ fun J => ?_)))
                          have hm := Option.some.inj hm
                          subst hm
                          have hn2 : _ = Lp.ret _ := hn2
                          subst hn2
                          have hm := thn_ret hq2
                          have hm := Option.some.inj hm
                          subst hm
                          have hn1 : _ = Lp.ret _ := hn1
                          subst hn1
                          have hm := thn_ret hq1
                          have hm := Option.some.inj hm
                          subst hm
                          exact rtn (r_then (r_blk (r_then (r_then (r_blk (r_then (r_blk (r_then (r_then (r_blk (r_then (ret1 rfl rfl ⟨_, rfl, _, (Im.trans im1 (Im.trans im3 (Im.trans im4 (Im.trans im9 (Im.trans im10 (Im.trans im11 (Im.trans im12 (Im.trans im13 (Im.trans im14 (Im.trans im15 (Im.trans im22 (Im.trans im23 (Im.trans im24 im25))))))))))))), ⟨rfl, hS25.sel [2] rfl, trivial⟩⟩))))))))))))
                        · have hm := cfalse hb25 hm
                          obtain ⟨_, hz4, hm⟩ := bindS hm
                          have hz4 := nz_some hz4
                          refine gT (d0 := 106) rfl rfl hb25 (pv (r_fa rfl Try.underlying45 rfl Try.sizeOf3 rfl) (gT (d0 := 106) rfl rfl hb25 (pv (r_ld rfl Try.isAgg3 (hS25.cell0 (i := 0) ⟨rfl, rfl⟩ (j := 2) rfl)) (gT (d0 := 106) rfl rfl hb25 (pv (r_mi rfl) (gT (d0 := 106) rfl rfl hb25 (pv (r_irm rfl rfl hz4) (gT (d0 := 106) rfl rfl hb25 (pv (r_ib rfl rfl rfl) (pv (r_pkf rfl hb25 rfl) (pv (r_mb rfl) (?_))))))))))))
                          rcases Bool.eq_false_or_eq_true ((Int.tmod u3.At y12) != 0) with hb26 | hb26
                          · have hm := ctrue hb26 hm
                            refine gF (d0 := 113) rfl rfl (by rw [hb26]; rfl) (gF (d0 := 113) rfl rfl (by rw [hb26]; rfl) (gF (d0 := 113) rfl rfl (by rw [hb26]; rfl) (gF (d0 := 113) rfl rfl (by rw [hb26]; rfl) (pv (r_pkt rfl hb26 rfl) (nil (t_thenR [(3, .pointer (some ⟨b1, 0, none⟩)), (5, .int .i64 x4), (6, .pointer (some ⟨b3, 0, none⟩)), (8, .int .i64 y8), (9, .int .i64 y9), (11, .int .i64 x8), (12, .pointer (some ⟨b7, 0, none⟩)), (118, .bool true)] ⟨rfl, rfl, rfl, rfl, rfl, rfl, rfl, rfl, trivial⟩ fun J => ?_))))))
                            refine cnd (b := true) rfl (fun _ => ?_) (fun h => nomatch h)
                            refine sq2 ?_
                            refine rg (pv (r_zb rfl) (nil (t_thenR [(2, .bool false)] ⟨rfl, trivial⟩ fun J => ?_)))
                            have hm := Option.some.inj hm
                            subst hm
                            have hn2 : _ = Lp.ret _ := hn2
                            subst hn2
                            have hm := thn_ret hq2
                            have hm := Option.some.inj hm
                            subst hm
                            have hn1 : _ = Lp.ret _ := hn1
                            subst hn1
                            have hm := thn_ret hq1
                            have hm := Option.some.inj hm
                            subst hm
                            exact rtn (r_then (r_blk (r_then (r_then (r_blk (r_then (r_blk (r_then (r_then (r_blk (r_then (ret1 rfl rfl ⟨_, rfl, _, (Im.trans im1 (Im.trans im3 (Im.trans im4 (Im.trans im9 (Im.trans im10 (Im.trans im11 (Im.trans im12 (Im.trans im13 (Im.trans im14 (Im.trans im15 (Im.trans im22 (Im.trans im23 (Im.trans im24 im25))))))))))))), ⟨rfl, hS25.sel [2] rfl, trivial⟩⟩))))))))))))
                          · have hm := cfalse hb26 hm
                            obtain ⟨_, hz5, hm⟩ := bindS hm
                            have hz5 := nz_some hz5
                            refine gT (d0 := 113) rfl rfl hb26 (pv (r_mi rfl) (gT (d0 := 113) rfl rfl hb26 (pv (r_mi rfl) (gT (d0 := 113) rfl rfl hb26 (pv (r_irm rfl rfl hz5) (gT (d0 := 113) rfl rfl hb26 (pv (r_ib rfl rfl rfl) (pv (r_pkf rfl hb26 rfl) (nil (t_thenR [(3, .pointer (some ⟨b1, 0, none⟩)), (5, .int .i64 x4), (6, .pointer (some ⟨b3, 0, none⟩)), (8, .int .i64 y8), (9, .int .i64 y9), (11, .int .i64 x8), (12, .pointer (some ⟨b7, 0, none⟩)), (118, .bool ((Int.tmod y9 y12) != 0))] ⟨rfl, rfl, rfl, rfl, rfl, rfl, rfl, rfl, trivial⟩ fun J => ?_))))))))))
                            refine cnd rfl (fun hb27 => ?_) (fun hb27 => ?_)
                            · have hm := ctrue hb27 hm
                              refine sq2 ?_
                              refine rg (pv (r_zb rfl) (nil (t_thenR [(2, .bool false)] ⟨rfl, trivial⟩ fun J => ?_)))
                              have hm := Option.some.inj hm
                              subst hm
                              have hn2 : _ = Lp.ret _ := hn2
                              subst hn2
                              have hm := thn_ret hq2
                              have hm := Option.some.inj hm
                              subst hm
                              have hn1 : _ = Lp.ret _ := hn1
                              subst hn1
                              have hm := thn_ret hq1
                              have hm := Option.some.inj hm
                              subst hm
                              exact rtn (r_then (r_blk (r_then (r_then (r_blk (r_then (r_blk (r_then (r_then (r_blk (r_then (ret1 rfl rfl ⟨_, rfl, _, (Im.trans im1 (Im.trans im3 (Im.trans im4 (Im.trans im9 (Im.trans im10 (Im.trans im11 (Im.trans im12 (Im.trans im13 (Im.trans im14 (Im.trans im15 (Im.trans im22 (Im.trans im23 (Im.trans im24 im25))))))))))))), ⟨rfl, hS25.sel [2] rfl, trivial⟩⟩))))))))))))
                            · have hm := cfalse hb27 hm
                              refine skp (t_then ?_)
                              refine rs [0, 1, 0, 0, 1, 2, 0, 0] [0, 1, 2, 3, 4, 5, 6, 7] mix (by kernel_rfl) hS25.lt fun w25 i3 => ?_
                              have im26 := i3.imm
                              have hS26 := hS25.keep i3 (fun _ h => h)
                              obtain ⟨y13, hx16, hm⟩ := bindS hm
                              refine s0 rfl trivial (fun _ => r_fa rfl Try.underlying45 rfl Try.sizeOf3 rfl) rfl (s1 rfl trivial (r_ld rfl Try.isAgg3 (hS26.cell0 (i := 0) ⟨rfl, rfl⟩ (j := 2) rfl)) rfl (s0 rfl trivial (fun _ => r_mp rfl) rfl (s0 rfl trivial (fun _ => r_fa rfl Try.underlying45 rfl Try.sizeOf3 rfl) rfl (s1 rfl trivial (r_ld rfl Try.isAgg3 (hS26.cell0 (i := 0) ⟨rfl, rfl⟩ (j := 1) rfl)) rfl (s2 [(1, .int .i64 u3.At)] rfl trivial rfl (by kernel_rfl) (calS cf21 rfl (kind_Table_Size_sim (p0 := x3) (H_p0 := boxA b1) (p1 := u3.Type_) (hS26.bun [1, 2, 0] [3, 4] rfl) (lnBox b1) hx16) rfl fun v13 T18 w26 im27 rv13 => ?_))))))
                              obtain ⟨rfl, hS27, _⟩ := rv13
                              have hS27 : Sep g T18 w26 [boxA b3 [.int .i64 y7.1.Kind, .int .i64 y7.1.Elem, .int .i64 y7.1.Len, .string ⟨y7.1.Name.toArray⟩, .slice a8 (List.length y7.1.Fields) c8], R, boxA b7 [.string ⟨u3.Name.toArray⟩, .int .i64 u3.Type_, .int .i64 u3.At], boxA b1 [.slice a3 n2 c3], ownA rKindKnown 65 (.slice a3 n2 c3) x3.list] := hS27.unb
                              refine ⟨st1 rfl (r_ld rfl Try.isAgg3 (hS27.cell0 (i := 2) ⟨rfl, rfl⟩ (j := 2) rfl)) (st0), ?_⟩
                              refine s0 rfl trivial (fun _ => r_ib rfl rfl rfl) rfl (s0 rfl trivial (fun _ => r_zi rfl) rfl (se (t_blk (t_thenR [(3, .pointer (some ⟨b1, 0, none⟩)), (5, .int .i64 x4), (6, .pointer (some ⟨b3, 0, none⟩)), (8, .int .i64 y8), (9, .int .i64 y9), (10, .int .i64 (IntKind.wrap .i64 (u3.At + y13))), (11, .int .i64 x8)] ⟨rfl, rfl, rfl, rfl, rfl, rfl, rfl, trivial⟩ fun J => ?_))))
                              have hm := Option.some.inj hm
                              subst hm
                              exact rg (pv (r_mi rfl) (pv (r_ib rfl rfl rfl) (pv (r_zi rfl) (nil (t_then ⟨m2, Nat.lt_succ_self _, _, _, (IntKind.wrap .i64 (u3.At + y13)), (IntKind.wrap .i64 (x8 + 1)), env_has ⟨rfl, rfl, rfl, rfl, rfl, rfl, rfl, trivial⟩, (Im.trans im22 (Im.trans im23 (Im.trans im24 (Im.trans im25 (Im.trans im26 im27))))), hS27.sel [0, 1, 3, 4] rfl, hn2⟩)))))
                    · have hm := cfalse hb23 hm
                      have hm := Option.some.inj hm
                      subst hm
                      have hn2 : _ = Lp.brk _ := hn2
                      subst hn2
                      have hm := thn_brk hq2
                      refine xt (x_then (x_then (x_eq (t_thenR [(3, .pointer (some ⟨b1, 0, none⟩)), (5, .int .i64 x4), (8, .int .i64 y8), (10, .int .i64 x7)] ⟨rfl, rfl, rfl, rfl, trivial⟩ fun J => ?_))))
                      refine sq2 ?_
                      refine rg (pv (r_mi rfl) (pv (r_mi rfl) (pv (r_ib rfl rfl rfl) (nil (t_then ?_)))))
                      refine cnd rfl (fun hb31 => ?_) (fun hb31 => ?_)
                      · have hm := ctrue hb31 hm
                        refine sq2 ?_
                        refine rg (pv (r_zb rfl) (nil (t_thenR [(2, .bool false)] ⟨rfl, trivial⟩ fun J => ?_)))
                        have hm := Option.some.inj hm
                        subst hm
                        have hn1 : _ = Lp.ret _ := hn1
                        subst hn1
                        have hm := thn_ret hq1
                        have hm := Option.some.inj hm
                        subst hm
                        exact rtn (r_blk (r_then (r_then (r_blk (r_then (ret1 rfl rfl ⟨_, rfl, _, (Im.trans im1 (Im.trans im3 (Im.trans im4 (Im.trans im9 (Im.trans im10 (Im.trans im11 (Im.trans im12 (Im.trans im13 (Im.trans im14 (Im.trans im15 im22)))))))))), ⟨rfl, hS22.sel [1] rfl, trivial⟩⟩))))))
                      · have hm := cfalse hb31 hm
                        refine skp (t_blk (t_thenR [(3, .pointer (some ⟨b1, 0, none⟩)), (5, .int .i64 x4)] ⟨rfl, rfl, trivial⟩ fun J => ?_))
                        have hm := Option.some.inj hm
                        subst hm
                        exact rg (pv (r_mi rfl) (pv (r_ib rfl rfl rfl) (pv (r_zi rfl) (nil (t_then ⟨m1, Nat.lt_succ_self _, _, _, (IntKind.wrap .i64 (x4 + 1)), env_has ⟨rfl, rfl, trivial⟩, (Im.trans im9 (Im.trans im10 (Im.trans im11 (Im.trans im12 (Im.trans im13 (Im.trans im14 (Im.trans im15 im22))))))), hS22.sel [1, 2, 3] rfl, hn1⟩)))))
        · have hm := cfalse hb4 hm
          have hm := Option.some.inj hm
          subst hm
          have hn1 : _ = Lp.brk _ := hn1
          subst hn1
          have hm := thn_brk hq1
          refine xt (x_then (x_then (x_eq (t_then ?_))))
          refine sq2 ?_
          obtain ⟨y14, hx17, hm⟩ := bindS hm
          refine rg (wl rfl (calS cf9 rfl (law08_awake_sim  (hS10.bun [0] [] rfl)  hx17) rfl fun v14 T19 w27 im28 rv14 => ?_))
          obtain ⟨rfl, hS28, _⟩ := rv14
          have hS28 : Sep g T19 w27 [R] := hS28.unb
          refine pv (r_zb rfl) (nil (t_then ?_))
          have hm := Option.some.inj hm
          subst hm
          exact rtn (ret1 rfl rfl ⟨_, rfl, _, (Im.trans im1 (Im.trans im3 (Im.trans im4 (Im.trans im9 (Im.trans im10 im28))))), ⟨rfl, hS28.sel [0] rfl, trivial⟩⟩)
      · have hm := cfalse hb3 hm
        refine gF (d0 := 36) rfl rfl (by rw [hb3]; rfl) (gF (d0 := 36) rfl rfl (by rw [hb3]; rfl) (pv (r_pkf rfl hb3 rfl) (nil (t_thenR [(3, .pointer (some ⟨b1, 0, none⟩)), (5, .int .i64 x4), (39, .bool false)] ⟨rfl, rfl, rfl, trivial⟩ fun J => ?_))))
        refine cnd (b := false) rfl (fun h => nomatch h) (fun _ => ?_)
        have hm := Option.some.inj hm
        subst hm
        have hn1 : _ = Lp.brk _ := hn1
        subst hn1
        have hm := thn_brk hq1
        refine xt (x_then (x_then (x_eq (t_then ?_))))
        refine sq2 ?_
        obtain ⟨y15, hx18, hm⟩ := bindS hm
        refine rg (wl rfl (calS cf9 rfl (law08_awake_sim  (hS10.bun [0] [] rfl)  hx18) rfl fun v15 T20 w28 im29 rv15 => ?_))
        obtain ⟨rfl, hS29, _⟩ := rv15
        have hS29 : Sep g T20 w28 [R] := hS29.unb
        refine pv (r_zb rfl) (nil (t_then ?_))
        have hm := Option.some.inj hm
        subst hm
        exact rtn (ret1 rfl rfl ⟨_, rfl, _, (Im.trans im1 (Im.trans im3 (Im.trans im4 (Im.trans im9 (Im.trans im10 im29))))), ⟨rfl, hS29.sel [0] rfl, trivial⟩⟩)

set_option maxRecDepth 100000 in
set_option maxHeartbeats 1000000 in
theorem law08_same_sim {g : World} {T0 : Nat → Prop} {w0 : World} {R : Assn} {p0 : GType} {a1 : Option Addr} {c1 : Nat} {p1 : ref08Type} {a2 : Option Addr} {c2 : Nat} {r : Bool} (hS : Sep g T0 w0 [R]) (h1 : SlR rGField T0 w0 (.slice a1 (List.length p0.Fields) c1) p0.Fields) (h2 : SlR rGField T0 w0 (.slice a2 (List.length p1.Fields) c2) p1.Fields) (hm : law08_same p0 p1 = some r) :
    Calls Try.prog 25 #[.agg #[.int .i64 p0.Kind, .int .i64 p0.Elem, .int .i64 p0.Len, .string ⟨p0.Name.toArray⟩, .slice a1 (List.length p0.Fields) c1], .agg #[.int .i64 p1.Kind, .int .i64 p1.Elem, .int .i64 p1.Len, .string ⟨p1.Name.toArray⟩, .slice a2 (List.length p1.Fields) c2, .bool p1.Open]] w0 (RetS T0 w0 fun T w v => v = .bool r ∧ Sep g T w [R] ∧ True) := by
  refine enter (args := [.agg #[.int .i64 p0.Kind, .int .i64 p0.Elem, .int .i64 p0.Len, .string ⟨p0.Name.toArray⟩, .slice a1 (List.length p0.Fields) c1], .agg #[.int .i64 p1.Kind, .int .i64 p1.Elem, .int .i64 p1.Len, .string ⟨p1.Name.toArray⟩, .slice a2 (List.length p1.Fields) c2, .bool p1.Open]]) Try.func25 rfl Try.ntmps25 rfl fun J => ?_
  unfold law08_same at hm
  refine sq2 ?_
  refine rg (wl rfl (bxS (cs := [.int .i64 p0.Kind, .int .i64 p0.Elem, .int .i64 p0.Len, .string ⟨p0.Name.toArray⟩, .slice a1 (List.length p0.Fields) c1]) rfl rfl hS fun w1 b1 im1 hS1 => ?_))
  refine wl rfl (bxS (cs := [.int .i64 p1.Kind, .int .i64 p1.Elem, .int .i64 p1.Len, .string ⟨p1.Name.toArray⟩, .slice a2 (List.length p1.Fields) c2, .bool p1.Open]) rfl rfl hS1 fun w2 b2 im2 hS2 => ?_)
  refine pv (r_zb rfl) (nil (t_then ?_))
  refine sq2 ?_
  refine sq2 ?_
  refine rg (pv (r_fa rfl Try.underlying55 rfl Try.sizeOf3 rfl) (pv (r_ld rfl Try.isAgg3 (hS2.cell0 (i := 1) ⟨rfl, rfl⟩ (j := 0) rfl)) (pv (r_fa rfl Try.underlying51 rfl Try.sizeOf3 rfl) (pv (r_ld rfl Try.isAgg3 (hS2.cell0 (i := 0) ⟨rfl, rfl⟩ (j := 0) rfl)) (pv (r_ib rfl rfl rfl) (pv (r_mb rfl) (?_)))))))
  rcases Bool.eq_false_or_eq_true (p0.Kind != p1.Kind) with hb1 | hb1
  · have hm := ctrue hb1 hm
    refine gF (d0 := 11) rfl rfl (by rw [hb1]; rfl) (gF (d0 := 11) rfl rfl (by rw [hb1]; rfl) (gF (d0 := 11) rfl rfl (by rw [hb1]; rfl) (gF (d0 := 11) rfl rfl (by rw [hb1]; rfl) (gF (d0 := 11) rfl rfl (by rw [hb1]; rfl) (pv (r_pkt rfl hb1 rfl) (pv (r_mb rfl) (gF (d0 := 18) rfl rfl rfl (gF (d0 := 18) rfl rfl rfl (gF (d0 := 18) rfl rfl rfl (gF (d0 := 18) rfl rfl rfl (gF (d0 := 18) rfl rfl rfl (pv (r_pkt rfl rfl rfl) (pv (r_mb rfl) (gF (d0 := 25) rfl rfl rfl (gF (d0 := 25) rfl rfl rfl (gF (d0 := 25) rfl rfl rfl (gF (d0 := 25) rfl rfl rfl (gF (d0 := 25) rfl rfl rfl (pv (r_pkt rfl rfl rfl) (pv (r_mb rfl) (gF (d0 := 32) rfl rfl rfl (gF (d0 := 32) rfl rfl rfl (gF (d0 := 32) rfl rfl rfl (gF (d0 := 32) rfl rfl rfl (gF (d0 := 32) rfl rfl rfl (gF (d0 := 32) rfl rfl rfl (gF (d0 := 32) rfl rfl rfl (pv (r_pkt rfl rfl rfl) (nil (t_thenR [(2, .pointer (some ⟨b1, 0, none⟩)), (3, .pointer (some ⟨b2, 0, none⟩)), (40, .bool true)] ⟨rfl, rfl, rfl, trivial⟩ fun J => ?_))))))))))))))))))))))))))))))
    refine cnd (b := true) rfl (fun _ => ?_) (fun h => nomatch h)
    refine sq2 ?_
    refine rg (pv (r_zb rfl) (nil (t_then ?_)))
    have hm := Option.some.inj hm
    subst hm
    exact rtn (r_then (ret1 rfl rfl ⟨_, rfl, _, (Im.trans im1 im2), ⟨rfl, hS2.sel [2] rfl, trivial⟩⟩))
  · have hm := cfalse hb1 hm
    refine gT (d0 := 11) rfl rfl hb1 (pv (r_fa rfl Try.underlying55 rfl Try.sizeOf3 rfl) (gT (d0 := 11) rfl rfl hb1 (pv (r_ld rfl Try.isAgg3 (hS2.cell0 (i := 1) ⟨rfl, rfl⟩ (j := 1) rfl)) (gT (d0 := 11) rfl rfl hb1 (pv (r_fa rfl Try.underlying51 rfl Try.sizeOf3 rfl) (gT (d0 := 11) rfl rfl hb1 (pv (r_ld rfl Try.isAgg3 (hS2.cell0 (i := 0) ⟨rfl, rfl⟩ (j := 1) rfl)) (gT (d0 := 11) rfl rfl hb1 (pv (r_ib rfl rfl rfl) (pv (r_pkf rfl hb1 rfl) (pv (r_mb rfl) (?_))))))))))))
    rcases Bool.eq_false_or_eq_true (p0.Elem != p1.Elem) with hb2 | hb2
    · have hm := ctrue hb2 hm
      refine gF (d0 := 18) rfl rfl (by rw [hb2]; rfl) (gF (d0 := 18) rfl rfl (by rw [hb2]; rfl) (gF (d0 := 18) rfl rfl (by rw [hb2]; rfl) (gF (d0 := 18) rfl rfl (by rw [hb2]; rfl) (gF (d0 := 18) rfl rfl (by rw [hb2]; rfl) (pv (r_pkt rfl hb2 rfl) (pv (r_mb rfl) (gF (d0 := 25) rfl rfl rfl (gF (d0 := 25) rfl rfl rfl (gF (d0 := 25) rfl rfl rfl (gF (d0 := 25) rfl rfl rfl (gF (d0 := 25) rfl rfl rfl (pv (r_pkt rfl rfl rfl) (pv (r_mb rfl) (gF (d0 := 32) rfl rfl rfl (gF (d0 := 32) rfl rfl rfl (gF (d0 := 32) rfl rfl rfl (gF (d0 := 32) rfl rfl rfl (gF (d0 := 32) rfl rfl rfl (gF (d0 := 32) rfl rfl rfl (gF (d0 := 32) rfl rfl rfl (pv (r_pkt rfl rfl rfl) (nil (t_thenR [(2, .pointer (some ⟨b1, 0, none⟩)), (3, .pointer (some ⟨b2, 0, none⟩)), (40, .bool true)] ⟨rfl, rfl, rfl, trivial⟩ fun J => ?_)))))))))))))))))))))))
      refine cnd (b := true) rfl (fun _ => ?_) (fun h => nomatch h)
      refine sq2 ?_
      refine rg (pv (r_zb rfl) (nil (t_then ?_)))
      have hm := Option.some.inj hm
      subst hm
      exact rtn (r_then (ret1 rfl rfl ⟨_, rfl, _, (Im.trans im1 im2), ⟨rfl, hS2.sel [2] rfl, trivial⟩⟩))
    · have hm := cfalse hb2 hm
      refine gT (d0 := 18) rfl rfl hb2 (pv (r_fa rfl Try.underlying55 rfl Try.sizeOf3 rfl) (gT (d0 := 18) rfl rfl hb2 (pv (r_ld rfl Try.isAgg3 (hS2.cell0 (i := 1) ⟨rfl, rfl⟩ (j := 2) rfl)) (gT (d0 := 18) rfl rfl hb2 (pv (r_fa rfl Try.underlying51 rfl Try.sizeOf3 rfl) (gT (d0 := 18) rfl rfl hb2 (pv (r_ld rfl Try.isAgg3 (hS2.cell0 (i := 0) ⟨rfl, rfl⟩ (j := 2) rfl)) (gT (d0 := 18) rfl rfl hb2 (pv (r_ib rfl rfl rfl) (pv (r_pkf rfl hb2 rfl) (pv (r_mb rfl) (?_))))))))))))
      rcases Bool.eq_false_or_eq_true (p0.Len != p1.Len) with hb3 | hb3
      · have hm := ctrue hb3 hm
        refine gF (d0 := 25) rfl rfl (by rw [hb3]; rfl) (gF (d0 := 25) rfl rfl (by rw [hb3]; rfl) (gF (d0 := 25) rfl rfl (by rw [hb3]; rfl) (gF (d0 := 25) rfl rfl (by rw [hb3]; rfl) (gF (d0 := 25) rfl rfl (by rw [hb3]; rfl) (pv (r_pkt rfl hb3 rfl) (pv (r_mb rfl) (gF (d0 := 32) rfl rfl rfl (gF (d0 := 32) rfl rfl rfl (gF (d0 := 32) rfl rfl rfl (gF (d0 := 32) rfl rfl rfl (gF (d0 := 32) rfl rfl rfl (gF (d0 := 32) rfl rfl rfl (gF (d0 := 32) rfl rfl rfl (pv (r_pkt rfl rfl rfl) (nil (t_thenR [(2, .pointer (some ⟨b1, 0, none⟩)), (3, .pointer (some ⟨b2, 0, none⟩)), (40, .bool true)] ⟨rfl, rfl, rfl, trivial⟩ fun J => ?_))))))))))))))))
        refine cnd (b := true) rfl (fun _ => ?_) (fun h => nomatch h)
        refine sq2 ?_
        refine rg (pv (r_zb rfl) (nil (t_then ?_)))
        have hm := Option.some.inj hm
        subst hm
        exact rtn (r_then (ret1 rfl rfl ⟨_, rfl, _, (Im.trans im1 im2), ⟨rfl, hS2.sel [2] rfl, trivial⟩⟩))
      · have hm := cfalse hb3 hm
        refine gT (d0 := 25) rfl rfl hb3 (pv (r_fa rfl Try.underlying55 rfl Try.sizeOf9 rfl) (gT (d0 := 25) rfl rfl hb3 (pv (r_ld rfl Try.isAgg9 (hS2.cell0 (i := 1) ⟨rfl, rfl⟩ (j := 3) rfl)) (gT (d0 := 25) rfl rfl hb3 (pv (r_fa rfl Try.underlying51 rfl Try.sizeOf9 rfl) (gT (d0 := 25) rfl rfl hb3 (pv (r_ld rfl Try.isAgg9 (hS2.cell0 (i := 0) ⟨rfl, rfl⟩ (j := 3) rfl)) (gT (d0 := 25) rfl rfl hb3 (pv (r_snL rfl rfl) (pv (r_pkf rfl hb3 rfl) (pv (r_mb rfl) (?_))))))))))))
        rcases Bool.eq_false_or_eq_true (!(decide (p0.Name = p1.Name))) with hb4 | hb4
        · have hm := ctrue hb4 hm
          refine gF (d0 := 32) rfl rfl (by rw [hb4]; rfl) (gF (d0 := 32) rfl rfl (by rw [hb4]; rfl) (gF (d0 := 32) rfl rfl (by rw [hb4]; rfl) (gF (d0 := 32) rfl rfl (by rw [hb4]; rfl) (gF (d0 := 32) rfl rfl (by rw [hb4]; rfl) (gF (d0 := 32) rfl rfl (by rw [hb4]; rfl) (gF (d0 := 32) rfl rfl (by rw [hb4]; rfl) (pv (r_pkt rfl hb4 rfl) (nil (t_thenR [(2, .pointer (some ⟨b1, 0, none⟩)), (3, .pointer (some ⟨b2, 0, none⟩)), (40, .bool true)] ⟨rfl, rfl, rfl, trivial⟩ fun J => ?_)))))))))
          refine cnd (b := true) rfl (fun _ => ?_) (fun h => nomatch h)
          refine sq2 ?_
          refine rg (pv (r_zb rfl) (nil (t_then ?_)))
          have hm := Option.some.inj hm
          subst hm
          exact rtn (r_then (ret1 rfl rfl ⟨_, rfl, _, (Im.trans im1 im2), ⟨rfl, hS2.sel [2] rfl, trivial⟩⟩))
        · have hm := cfalse hb4 hm
          refine gT (d0 := 32) rfl rfl hb4 (pv (r_fa rfl Try.underlying55 rfl Try.sizeOf32 rfl) (gT (d0 := 32) rfl rfl hb4 (pv (r_ld rfl Try.isAgg32 (hS2.cell0 (i := 1) ⟨rfl, rfl⟩ (j := 4) rfl)) (gT (d0 := 32) rfl rfl hb4 (pv (r_ln rfl Try.underlying32) (gT (d0 := 32) rfl rfl hb4 (pv (r_fa rfl Try.underlying51 rfl Try.sizeOf49 rfl) (gT (d0 := 32) rfl rfl hb4 (pv (r_ld rfl Try.isAgg49 (hS2.cell0 (i := 0) ⟨rfl, rfl⟩ (j := 4) rfl)) (gT (d0 := 32) rfl rfl hb4 (pv (r_ln rfl Try.underlying49) (gT (d0 := 32) rfl rfl hb4 (pv (r_ib rfl rfl rfl) (pv (r_pkf rfl hb4 rfl) (nil (t_thenR [(2, .pointer (some ⟨b1, 0, none⟩)), (3, .pointer (some ⟨b2, 0, none⟩)), (40, .bool ((List.length p0.Fields : Int) != (List.length p1.Fields : Int)))] ⟨rfl, rfl, rfl, trivial⟩ fun J => ?_))))))))))))))))
          refine cnd rfl (fun hb5 => ?_) (fun hb5 => ?_)
          · have hm := ctrue hb5 hm
            refine sq2 ?_
            refine rg (pv (r_zb rfl) (nil (t_then ?_)))
            have hm := Option.some.inj hm
            subst hm
            exact rtn (r_then (ret1 rfl rfl ⟨_, rfl, _, (Im.trans im1 im2), ⟨rfl, hS2.sel [2] rfl, trivial⟩⟩))
          · have hm := cfalse hb5 hm
            refine skp (t_then ?_)
            refine sq2 ?_
            refine sq2 ?_
            refine rg (pv (r_zi rfl) (nil (t_then ?_)))
            obtain ⟨o1, ho1, hq1⟩ := bindS hm
            obtain ⟨bd1, hbd1, ho1⟩ := loop_open ho1
            refine blk (wp_loop_ghost (fun m a w3 => ∃ (J : Nat → Value) (T1 : Nat → Prop) (x1 : Int), a = env 59 J [(2, .pointer (some ⟨b1, 0, none⟩)), (3, .pointer (some ⟨b2, 0, none⟩)), (5, .int .i64 x1)] ∧ Im T0 w2 T1 w3 ∧ Sep g T1 w3 [boxA b2 [.int .i64 p1.Kind, .int .i64 p1.Elem, .int .i64 p1.Len, .string ⟨p1.Name.toArray⟩, .slice a2 (List.length p1.Fields) c2, .bool p1.Open], boxA b1 [.int .i64 p0.Kind, .int .i64 p0.Elem, .int .i64 p0.Len, .string ⟨p0.Name.toArray⟩, .slice a1 (List.length p0.Fields) c1], R] ∧ loopM bd1 m x1 = some o1) NN ⟨_, _, 0, env_has ⟨rfl, rfl, rfl, trivial⟩, Im.refl, hS2.sel [0, 1, 2] rfl, ho1⟩ ?_)
            rintro m _ w3 ⟨J, T1, x1, rfl, im3, hS3, ho1⟩
            obtain ⟨m1, z1, rfl, hm, hn1⟩ := loop_round ho1
            rw [hbd1] at hm
            refine sq2 ?_
            refine sq2 ?_
            refine rg (pv (r_mi rfl) (pv (r_fa rfl Try.underlying55 rfl Try.sizeOf32 rfl) (pv (r_ld rfl Try.isAgg32 (hS3.cell0 (i := 1) ⟨rfl, rfl⟩ (j := 4) rfl)) (pv (r_ln rfl Try.underlying32) (pv (r_ib rfl rfl rfl) (nil (t_then ?_)))))))
            refine cnd rfl (fun hb6 => ?_) (fun hb6 => ?_)
            · have hm := ctrue hb6 hm
              refine skp (t_thenR [(2, .pointer (some ⟨b1, 0, none⟩)), (3, .pointer (some ⟨b2, 0, none⟩)), (5, .int .i64 x1)] ⟨rfl, rfl, rfl, trivial⟩ fun J => ?_)
              refine sq2 ?_
              refine blk ?_
              refine sq2 ?_
              obtain ⟨u1, hx1, hm⟩ := bindS hm
              obtain ⟨b3, of1, cs1, k1, cp1, hv1, hp1, hl1, he1, hr1, hc1, hT1⟩ := (h1.mono (Im.trans im1 (Im.trans im2 im3))).ixT hx1 rfl
              cases rGField_open hr1
              obtain ⟨u2, hx2, hm⟩ := bindS hm
              obtain ⟨b4, of2, cs2, k2, cp2, hv2, hp2, hl2, he2, hr2, hc2, hT2⟩ := (h2.mono (Im.trans im1 (Im.trans im2 im3))).ixT hx2 rfl
              cases rGField_open hr2
              refine rq mix (by kernel_rfl) hS3.lt (qv (fun _ hq => r_fa rfl Try.underlying55 rfl Try.sizeOf32 rfl) (qv (fun _ hq => r_ld rfl Try.isAgg32 (hq.cell (hS3.cell0 (i := 1) ⟨rfl, rfl⟩ (j := 4) rfl))) (qv (fun _ hq => r_mi rfl) (qv (fun _ hq => r_ixe hv1 rfl Try.underlying32 Try.sizeOf45 hp1 hl1 he1) (qv (fun _ hq => r_ldS rfl Try.isAgg45 Try.sizeOf45 rfl (hq.cellsAt hc1) (cs := [.string ⟨u1.Name.toArray⟩, .int .i64 u1.Type_, .int .i64 u1.At])) (qv (fun _ hq => r_fa rfl Try.underlying51 rfl Try.sizeOf49 rfl) (qv (fun _ hq => r_ld rfl Try.isAgg49 (hq.cell (hS3.cell0 (i := 0) ⟨rfl, rfl⟩ (j := 4) rfl))) (qv (fun _ hq => r_mi rfl) (qv (fun _ hq => r_ixe hv2 rfl Try.underlying49 Try.sizeOf52 hp2 hl2 he2) (qv (fun _ hq => r_ldS rfl Try.isAgg52 Try.sizeOf52 rfl (hq.cellsAt hc2) (cs := [.string ⟨u2.Name.toArray⟩, .int .i64 u2.Type_, .int .i64 u2.At])) (qv (fun _ hq => r_seqn rfl rfl (ne_52 u1.Name u1.Type_ u1.At u2.Name u2.Type_ u2.At)) (qn fun w4 T2 i1 => ?_))))))))))))
              have im4 := i1.imm
              have hS4 := hS3.keep i1 (fun _ h => h)
              refine t_thenR [(2, .pointer (some ⟨b1, 0, none⟩)), (3, .pointer (some ⟨b2, 0, none⟩)), (5, .int .i64 x1), (58, .bool (!((decide (u1.Name = u2.Name)) && (u1.Type_ == u2.Type_) && (u1.At == u2.At))))] ⟨rfl, rfl, rfl, rfl, trivial⟩ fun J => ?_
              refine cnd rfl (fun hb7 => ?_) (fun hb7 => ?_)
              · have hm := ctrue hb7 hm
                refine sq2 ?_
                refine rg (pv (r_zb rfl) (nil (t_then ?_)))
                have hm := Option.some.inj hm
                subst hm
                have hn1 : _ = Lp.ret _ := hn1
                subst hn1
                have hm := thn_ret hq1
                have hm := Option.some.inj hm
                subst hm
                exact rtn (r_blk (r_then (r_then (r_blk (r_then (ret1 rfl rfl ⟨_, rfl, _, (Im.trans im1 (Im.trans im2 (Im.trans im3 im4))), ⟨rfl, hS4.sel [2] rfl, trivial⟩⟩))))))
              · have hm := cfalse hb7 hm
                refine skp (t_blk (t_then ?_))
                have hm := Option.some.inj hm
                subst hm
                exact rg (pv (r_mi rfl) (pv (r_ib rfl rfl rfl) (pv (r_zi rfl) (nil (t_then ⟨m1, Nat.lt_succ_self _, _, _, (IntKind.wrap .i64 (x1 + 1)), env_has ⟨rfl, rfl, rfl, trivial⟩, (Im.trans im3 im4), hS4.sel [0, 1, 2] rfl, hn1⟩)))))
            · have hm := cfalse hb6 hm
              have hm := Option.some.inj hm
              subst hm
              have hn1 : _ = Lp.brk _ := hn1
              subst hn1
              have hm := thn_brk hq1
              refine xt (x_then (x_then (x_eq (t_thenR [] trivial fun J => ?_))))
              refine sq2 ?_
              refine rg (pv (r_zb rfl) (nil (t_then ?_)))
              have hm := Option.some.inj hm
              subst hm
              exact rtn (ret1 rfl rfl ⟨_, rfl, _, (Im.trans im1 (Im.trans im2 im3)), ⟨rfl, hS3.sel [2] rfl, trivial⟩⟩)

set_option maxRecDepth 100000 in
set_option maxHeartbeats 1000000 in
theorem kind_Table_Scalar_sim {g : World} {T0 : Nat → Prop} {w0 : World} {R : Assn} {p0 : KindTable} {b_p0 o_p0 : Nat} {H_p0 : List Value → Assn} {a1 : Option Addr} {n1 : Nat} {c1 : Nat} {p1 : Int} {r : Bool} (hS : Sep g T0 w0 [R, H_p0 [.slice a1 n1 c1], ownA rKindKnown 65 (.slice a1 n1 c1) p0.list]) (hL_p0 : Ln b_p0 o_p0 H_p0) (hm : kind_Table_Scalar p0 p1 = some r) :
    Calls Try.prog 26 #[.pointer (some ⟨b_p0, o_p0, none⟩), .int .i64 p1] w0 (RetS T0 w0 fun T w v => v = .bool r ∧ Sep g T w [R, H_p0 [.slice a1 n1 c1], ownA rKindKnown 65 (.slice a1 n1 c1) p0.list] ∧ True) := by
  refine enter (args := [.pointer (some ⟨b_p0, o_p0, none⟩), .int .i64 p1]) Try.func26 rfl Try.ntmps26 rfl fun J => ?_
  unfold kind_Table_Scalar at hm
  refine sq2 ?_
  refine rg (pv (r_zb rfl) (nil (t_then ?_)))
  refine sq2 ?_
  refine sq2 ?_
  obtain ⟨y1, hx1, hm⟩ := bindS hm
  refine rg (pv (r_mp rfl) (pv (r_mi rfl) (wl rfl (calS cf33 rfl (kind_Table_has_sim (p0 := p0) (H_p0 := H_p0) (p1 := p1) (hS.bun [0] [1, 2] rfl) hL_p0 hx1) rfl fun v1 T1 w1 im1 rv1 => ?_))))
  obtain ⟨rfl, hS1, _⟩ := rv1
  have hS1 : Sep g T1 w1 [R, H_p0 [.slice a1 n1 c1], ownA rKindKnown 65 (.slice a1 n1 c1) p0.list] := hS1.unb
  refine pv (r_nt rfl) (nil (t_then ?_))
  refine cnd rfl (fun hb1 => ?_) (fun hb1 => ?_)
  · have hm := ctrue hb1 hm
    refine sq2 ?_
    refine rg (pv (r_zb rfl) (nil (t_thenR [(4, .bool false)] ⟨rfl, trivial⟩ fun J => ?_)))
    have hm := Option.some.inj hm
    subst hm
    exact rtn (r_then (ret1 rfl rfl ⟨_, rfl, _, im1, ⟨rfl, hS1.sel [0, 1, 2] rfl, trivial⟩⟩))
  · have hm := cfalse hb1 hm
    refine skp (t_thenR [(0, .pointer (some ⟨b_p0, o_p0, none⟩)), (1, .int .i64 p1)] ⟨rfl, rfl, trivial⟩ fun J => ?_)
    refine sq2 ?_
    obtain ⟨u1, hx2, hm⟩ := bindS hm
    obtain ⟨b1, of1, cs1, k1, cp1, hv1, hp1, hl1, he1, hr1, hc1⟩ := (hS1.own (i := 2) ⟨rfl, rfl⟩).v.ixq hx2 rfl
    obtain ⟨a2, c2, rfl, h1⟩ := rKindKnown_open hr1
    refine rg (pv (r_mp rfl) (pv (r_nc rfl) (pv (r_fa rfl Try.underlying68 rfl Try.sizeOf66 rfl) (pv (r_ld rfl Try.isAgg66 (hS1.cellB (i := 1) ⟨rfl, rfl⟩ hL_p0 (j := 0) rfl)) (pv (r_mi rfl) (pv (r_ixe hv1 rfl Try.underlying66 Try.sizeOf65 hp1 hl1 he1) (pv (r_fa rfl Try.underlying65 rfl Try.sizeOf55 rfl) (pv (r_fa rfl Try.underlying55 rfl Try.sizeOf3 rfl) (pv (r_ld rfl Try.isAgg3 (hc1.get (j := 0) rfl)) (pv (r_zi rfl) (nil (t_thenR [(5, .int .i64 u1.Type_.Kind)] ⟨rfl, trivial⟩ fun J => ?_))))))))))))
    refine sq2 ?_
    refine rg (pv (r_mi rfl) (pv (r_ib rfl rfl rfl) (pv (r_mb rfl) (?_))))
    rcases Bool.eq_false_or_eq_true (u1.Type_.Kind == 1) with hb2 | hb2
    · have hm := ctrue hb2 hm
      refine gF (d0 := 21) rfl rfl (by rw [hb2]; rfl) (gF (d0 := 21) rfl rfl (by rw [hb2]; rfl) (pv (r_pkt rfl hb2 rfl) (pv (r_mb rfl) (gF (d0 := 25) rfl rfl rfl (gF (d0 := 25) rfl rfl rfl (pv (r_pkt rfl rfl rfl) (pv (r_zb rfl) (nil (t_thenR [(4, .bool true)] ⟨rfl, trivial⟩ fun J => ?_)))))))))
      have hm := Option.some.inj hm
      subst hm
      exact rtn (ret1 rfl rfl ⟨_, rfl, _, im1, ⟨rfl, hS1.sel [0, 1, 2] rfl, trivial⟩⟩)
    · have hm := cfalse hb2 hm
      refine gT (d0 := 21) rfl rfl hb2 (pv (r_mi rfl) (gT (d0 := 21) rfl rfl hb2 (pv (r_ib rfl rfl rfl) (pv (r_pkf rfl hb2 rfl) (pv (r_mb rfl) (?_))))))
      rcases Bool.eq_false_or_eq_true (u1.Type_.Kind == 2) with hb3 | hb3
      · have hm := ctrue hb3 hm
        refine gF (d0 := 25) rfl rfl (by rw [hb3]; rfl) (gF (d0 := 25) rfl rfl (by rw [hb3]; rfl) (pv (r_pkt rfl hb3 rfl) (pv (r_zb rfl) (nil (t_thenR [(4, .bool true)] ⟨rfl, trivial⟩ fun J => ?_)))))
        have hm := Option.some.inj hm
        subst hm
        exact rtn (ret1 rfl rfl ⟨_, rfl, _, im1, ⟨rfl, hS1.sel [0, 1, 2] rfl, trivial⟩⟩)
      · have hm := cfalse hb3 hm
        refine gT (d0 := 25) rfl rfl hb3 (pv (r_mi rfl) (gT (d0 := 25) rfl rfl hb3 (pv (r_ib rfl rfl rfl) (pv (r_pkf rfl hb3 rfl) (pv (r_zb rfl) (nil (t_thenR [(4, .bool (u1.Type_.Kind == 3))] ⟨rfl, trivial⟩ fun J => ?_)))))))
        have hm := Option.some.inj hm
        subst hm
        exact rtn (ret1 rfl rfl ⟨_, rfl, _, im1, ⟨rfl, hS1.sel [0, 1, 2] rfl, trivial⟩⟩)
end Go.Proofs.Ytjbmmcbpdodalaa
