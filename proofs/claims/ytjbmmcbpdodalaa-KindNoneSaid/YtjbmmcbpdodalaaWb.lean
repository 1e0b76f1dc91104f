/- That Go functions compute their models. Printed by gen2.py. -/
import Derived.Test.YtjbmmcbpdodalaaWa
set_option linter.unusedVariables false
namespace Go.Proofs.Ytjbmmcbpdodalaa
attribute [local irreducible] wpList wpQuiet Code.wp

structure Sp1 (G : Rec1) : Prop where
  ref08_Align : ∀ {g : World} {T0 : Nat → Prop} {w0 : World} {R : Assn} {p0 : List ref08Type} {a1 : Option Addr} {c1 : Nat} {p1 : Int} {r : Int} (hS : Sep g T0 w0 [R]) (h1 : SlR rref08Type T0 w0 (.slice a1 (List.length p0) c1) p0) (hm : G.ref08_Align p0 p1 = some r),
    Calls Try.prog 24 #[.slice a1 (List.length p0) c1, .int .i64 p1] w0 (RetS T0 w0 fun T w v => v = .int .i64 r ∧ Sep g T w [R] ∧ True)
set_option maxRecDepth 100000 in
set_option maxHeartbeats 1000000 in
theorem ref08_Align_st {G : Rec1} (hG : Sp1 G) {g : World} {T0 : Nat → Prop} {w0 : World} {R : Assn} {p0 : List ref08Type} {a1 : Option Addr} {c1 : Nat} {p1 : Int} {r : Int} (hS : Sep g T0 w0 [R]) (h1 : SlR rref08Type T0 w0 (.slice a1 (List.length p0) c1) p0) (hm : ref08_Align_b G p0 p1 = some r) :
    Calls Try.prog 24 #[.slice a1 (List.length p0) c1, .int .i64 p1] w0 (RetS T0 w0 fun T w v => v = .int .i64 r ∧ Sep g T w [R] ∧ True) := by
  refine enter (args := [.slice a1 (List.length p0) c1, .int .i64 p1]) Try.func24 rfl Try.ntmps24 rfl fun J => ?_
  unfold ref08_Align_b at hm
  refine sq2 ?_
  refine rg (pv (r_zi rfl) (nil (t_then ?_)))
  refine sq2 ?_
  refine sq2 ?_
  obtain ⟨y1, hx1, hm⟩ := bindS hm
  refine rg (pv (r_ms rfl) (pv (r_mi rfl) (wl rfl (calS cf19 rfl (ref08_Is_sim (p0 := p0) (p1 := p1) (hS.bun [0] [] rfl) h1 hx1) rfl fun v1 T1 w1 im1 rv1 => ?_))))
  obtain ⟨rfl, hS1, _⟩ := rv1
  have hS1 : Sep g T1 w1 [R] := hS1.unb
  refine pv (r_nt rfl) (pv (r_mb rfl) (?_))
  rcases Bool.eq_false_or_eq_true (!y1) with hb1 | hb1
  · have hm := ctrue hb1 hm
    refine gF (d0 := 11) rfl rfl (by rw [hb1]; rfl) (gF (d0 := 11) rfl rfl (by rw [hb1]; rfl) (gF (d0 := 11) rfl rfl (by rw [hb1]; rfl) (gF (d0 := 11) rfl rfl (by rw [hb1]; rfl) (gF (d0 := 11) rfl rfl (by rw [hb1]; rfl) (gF (d0 := 11) rfl rfl (by rw [hb1]; rfl) (pv (r_pkt rfl hb1 rfl) (pv (r_mb rfl) (gF (d0 := 19) rfl rfl rfl (gF (d0 := 19) rfl rfl rfl (gF (d0 := 19) rfl rfl rfl (gF (d0 := 19) rfl rfl rfl (gF (d0 := 19) rfl rfl rfl (pv (r_pkt rfl rfl rfl) (nil (t_thenR [(0, .slice a1 (List.length p0) c1), (1, .int .i64 p1), (25, .bool true)] ⟨rfl, rfl, rfl, trivial⟩ fun J => ?_)))))))))))))))
    refine cnd (b := true) rfl (fun _ => ?_) (fun h => nomatch h)
    refine sq2 ?_
    refine rg (pv (r_zi rfl) (nil (t_then ?_)))
    have hm := Option.some.inj hm
    subst hm
    exact rtn (r_then (ret1 rfl rfl ⟨_, rfl, _, im1, ⟨rfl, hS1.sel [0] rfl, trivial⟩⟩))
  · have hm := cfalse hb1 hm
    obtain ⟨u1, hx2, hm⟩ := bindS hm
    obtain ⟨b1, of1, cs1, k1, cp1, hv1, hp1, hl1, he1, hr1, hc1, hT1⟩ := (h1.mono im1).ixT hx2 rfl
    obtain ⟨a2, c2, rfl, h2⟩ := rref08Type_open hr1
    refine gT (d0 := 11) rfl rfl hb1 (pv (r_ms rfl) (gT (d0 := 11) rfl rfl hb1 (pv (r_mi rfl) (gT (d0 := 11) rfl rfl hb1 (pv (r_ixe hv1 rfl Try.underlying28 Try.sizeOf51 hp1 hl1 he1) (gT (d0 := 11) rfl rfl hb1 (pv (r_fa rfl Try.underlying51 rfl Try.sizeOf3 rfl) (gT (d0 := 11) rfl rfl hb1 (pv (r_ld rfl Try.isAgg3 (hc1.get (j := 0) rfl)) (gT (d0 := 11) rfl rfl hb1 (pv (r_ib rfl rfl rfl) (pv (r_pkf rfl hb1 rfl) (pv (r_mb rfl) (?_))))))))))))))
    rcases Bool.eq_false_or_eq_true (u1.Kind == 0) with hb2 | hb2
    · have hm := ctrue hb2 hm
      refine gF (d0 := 19) rfl rfl (by rw [hb2]; rfl) (gF (d0 := 19) rfl rfl (by rw [hb2]; rfl) (gF (d0 := 19) rfl rfl (by rw [hb2]; rfl) (gF (d0 := 19) rfl rfl (by rw [hb2]; rfl) (gF (d0 := 19) rfl rfl (by rw [hb2]; rfl) (pv (r_pkt rfl hb2 rfl) (nil (t_thenR [(0, .slice a1 (List.length p0) c1), (1, .int .i64 p1), (25, .bool true)] ⟨rfl, rfl, rfl, trivial⟩ fun J => ?_)))))))
      refine cnd (b := true) rfl (fun _ => ?_) (fun h => nomatch h)
      refine sq2 ?_
      refine rg (pv (r_zi rfl) (nil (t_then ?_)))
      have hm := Option.some.inj hm
      subst hm
      exact rtn (r_then (ret1 rfl rfl ⟨_, rfl, _, im1, ⟨rfl, hS1.sel [0] rfl, trivial⟩⟩))
    · have hm := cfalse hb2 hm
      obtain ⟨u2, hx3, hm⟩ := bindS hm
      obtain ⟨b2, of2, cs2, k2, cp2, hv2, hp2, hl2, he2, hr2, hc2, hT2⟩ := (h1.mono im1).ixT hx3 rfl
      obtain ⟨a3, c3, rfl, h3⟩ := rref08Type_open hr2
      refine gT (d0 := 19) rfl rfl hb2 (pv (r_ms rfl) (gT (d0 := 19) rfl rfl hb2 (pv (r_mi rfl) (gT (d0 := 19) rfl rfl hb2 (pv (r_ixe hv2 rfl Try.underlying28 Try.sizeOf51 hp2 hl2 he2) (gT (d0 := 19) rfl rfl hb2 (pv (r_fa rfl Try.underlying51 rfl Try.sizeOf4 rfl) (gT (d0 := 19) rfl rfl hb2 (pv (r_ld rfl Try.isAgg4 (hc2.get (j := 5) rfl)) (pv (r_pkf rfl hb2 rfl) (nil (t_thenR [(0, .slice a1 (List.length p0) c1), (1, .int .i64 p1), (25, .bool u2.Open)] ⟨rfl, rfl, rfl, trivial⟩ fun J => ?_))))))))))))
      refine cnd rfl (fun hb3 => ?_) (fun hb3 => ?_)
      · have hm := ctrue hb3 hm
        refine sq2 ?_
        refine rg (pv (r_zi rfl) (nil (t_then ?_)))
        have hm := Option.some.inj hm
        subst hm
        exact rtn (r_then (ret1 rfl rfl ⟨_, rfl, _, im1, ⟨rfl, hS1.sel [0] rfl, trivial⟩⟩))
      · have hm := cfalse hb3 hm
        refine skp (t_then ?_)
        refine sq2 ?_
        refine sq2 ?_
        obtain ⟨u3, hx4, hm⟩ := bindS hm
        obtain ⟨b3, of3, cs3, k3, cp3, hv3, hp3, hl3, he3, hr3, hc3, hT3⟩ := (h1.mono im1).ixT hx4 rfl
        obtain ⟨a4, c4, rfl, h4⟩ := rref08Type_open hr3
        refine rg (pv (r_ms rfl) (pv (r_mi rfl) (pv (r_ixe hv3 rfl Try.underlying28 Try.sizeOf51 hp3 hl3 he3) (pv (r_fa rfl Try.underlying51 rfl Try.sizeOf3 rfl) (pv (r_ld rfl Try.isAgg3 (hc3.get (j := 0) rfl)) (pv (r_ib rfl rfl rfl) (nil (t_thenR [(0, .slice a1 (List.length p0) c1), (1, .int .i64 p1), (31, .bool (u3.Kind == 2))] ⟨rfl, rfl, rfl, trivial⟩ fun J => ?_))))))))
        refine cnd rfl (fun hb4 => ?_) (fun hb4 => ?_)
        · have hm := ctrue hb4 hm
          refine sq2 ?_
          refine rg (pv (r_zi rfl) (nil (t_then ?_)))
          have hm := Option.some.inj hm
          subst hm
          exact rtn (r_then (ret1 rfl rfl ⟨_, rfl, _, im1, ⟨rfl, hS1.sel [0] rfl, trivial⟩⟩))
        · have hm := cfalse hb4 hm
          refine skp (t_then ?_)
          refine sq2 ?_
          refine sq2 ?_
          obtain ⟨u4, hx5, hm⟩ := bindS hm
          obtain ⟨b4, of4, cs4, k4, cp4, hv4, hp4, hl4, he4, hr4, hc4, hT4⟩ := (h1.mono im1).ixT hx5 rfl
          obtain ⟨a5, c5, rfl, h5⟩ := rref08Type_open hr4
          refine rg (pv (r_ms rfl) (pv (r_mi rfl) (pv (r_ixe hv4 rfl Try.underlying28 Try.sizeOf51 hp4 hl4 he4) (pv (r_fa rfl Try.underlying51 rfl Try.sizeOf3 rfl) (pv (r_ld rfl Try.isAgg3 (hc4.get (j := 0) rfl)) (pv (r_ib rfl rfl rfl) (nil (t_thenR [(0, .slice a1 (List.length p0) c1), (1, .int .i64 p1), (37, .bool (u4.Kind == 4))] ⟨rfl, rfl, rfl, trivial⟩ fun J => ?_))))))))
          refine cnd rfl (fun hb5 => ?_) (fun hb5 => ?_)
          · have hm := ctrue hb5 hm
            refine sq2 ?_
            obtain ⟨u5, hx6, hm⟩ := bindS hm
            obtain ⟨b5, of5, cs5, k5, cp5, hv5, hp5, hl5, he5, hr5, hc5, hT5⟩ := (h1.mono im1).ixT hx6 rfl
            obtain ⟨a6, c6, rfl, h6⟩ := rref08Type_open hr5
            obtain ⟨y2, hx7, hm⟩ := bindS hm
            refine rg (pv (r_ms rfl) (pv (r_ms rfl) (pv (r_mi rfl) (pv (r_ixe hv5 rfl Try.underlying28 Try.sizeOf51 hp5 hl5 he5) (pv (r_fa rfl Try.underlying51 rfl Try.sizeOf3 rfl) (pv (r_ld rfl Try.isAgg3 (hc5.get (j := 1) rfl)) (wl rfl (calS cf24 rfl (hG.ref08_Align (p0 := p0) (p1 := u5.Elem) (hS1.bun [0] [] rfl) (h1.mono im1) hx7) rfl fun v2 T2 w2 im2 rv2 => ?_))))))))
            obtain ⟨rfl, hS2, _⟩ := rv2
            have hS2 : Sep g T2 w2 [R] := hS2.unb
            refine pv (r_zi rfl) (nil (t_thenR [(4, .int .i64 y2)] ⟨rfl, trivial⟩ fun J => ?_))
            have hm := Option.some.inj hm
            subst hm
            exact rtn (r_then (ret1 rfl rfl ⟨_, rfl, _, (Im.trans im1 im2), ⟨rfl, hS2.sel [0] rfl, trivial⟩⟩))
          · have hm := cfalse hb5 hm
            refine skp (t_then ?_)
            refine sq2 ?_
            refine sq2 ?_
            obtain ⟨u6, hx8, hm⟩ := bindS hm
            obtain ⟨b6, of6, cs6, k6, cp6, hv6, hp6, hl6, he6, hr6, hc6, hT6⟩ := (h1.mono im1).ixT hx8 rfl
            obtain ⟨a7, c7, rfl, h7⟩ := rref08Type_open hr6
            refine rg (pv (r_ms rfl) (pv (r_mi rfl) (pv (r_ixe hv6 rfl Try.underlying28 Try.sizeOf51 hp6 hl6 he6) (pv (r_fa rfl Try.underlying51 rfl Try.sizeOf3 rfl) (pv (r_ld rfl Try.isAgg3 (hc6.get (j := 0) rfl)) (pv (r_ib rfl rfl rfl) (nil (t_thenR [(0, .slice a1 (List.length p0) c1), (1, .int .i64 p1), (50, .bool (u6.Kind == 5))] ⟨rfl, rfl, rfl, trivial⟩ fun J => ?_))))))))
            refine cnd rfl (fun hb6 => ?_) (fun hb6 => ?_)
            · have hm := ctrue hb6 hm
              refine sq2 ?_
              refine rg (pv (r_zi rfl) (nil (t_then ?_)))
              refine sq2 ?_
              refine sq2 ?_
              refine rg (pv (r_zi rfl) (nil (t_then ?_)))
              obtain ⟨o1, ho1, hq1⟩ := bindS hm
              obtain ⟨bd1, hbd1, ho1⟩ := loop_open ho1
              refine blk (wp_loop_ghost (fun m a w3 => ∃ (J : Nat → Value) (T3 : Nat → Prop) (x1 : Int) (x2 : Int), a = env 75 J [(0, .slice a1 (List.length p0) c1), (1, .int .i64 p1), (5, .int .i64 x1), (6, .int .i64 x2)] ∧ Im T1 w1 T3 w3 ∧ Sep g T3 w3 [R] ∧ loopM bd1 m (x1, x2) = some o1) NN ⟨_, _, 1, 0, env_has ⟨rfl, rfl, rfl, rfl, trivial⟩, Im.refl, hS1.sel [0] rfl, ho1⟩ ?_)
              rintro m _ w3 ⟨J, T3, x1, x2, rfl, im3, hS3, ho1⟩
              obtain ⟨m1, z1, rfl, hm, hn1⟩ := loop_round ho1
              rw [hbd1] at hm
              refine sq2 ?_
              refine sq2 ?_
              obtain ⟨u7, hx9, hm⟩ := bindS hm
              obtain ⟨b7, of7, cs7, k7, cp7, hv7, hp7, hl7, he7, hr7, hc7, hT7⟩ := (h1.mono (Im.trans im1 im3)).ixT hx9 rfl
              obtain ⟨a8, c8, rfl, h8⟩ := rref08Type_open hr7
              refine rg (pv (r_mi rfl) (pv (r_ms rfl) (pv (r_mi rfl) (pv (r_ixe hv7 rfl Try.underlying28 Try.sizeOf51 hp7 hl7 he7) (pv (r_fa rfl Try.underlying51 rfl Try.sizeOf49 rfl) (pv (r_ld rfl Try.isAgg49 (hc7.get (j := 4) rfl)) (pv (r_ln rfl Try.underlying49) (pv (r_ib rfl rfl rfl) (nil (t_thenR [(0, .slice a1 (List.length p0) c1), (1, .int .i64 p1), (5, .int .i64 x1), (6, .int .i64 x2), (58, .bool (decide (x2 < (List.length u7.Fields : Int))))] ⟨rfl, rfl, rfl, rfl, rfl, trivial⟩ fun J => ?_))))))))))
              refine cnd rfl (fun hb7 => ?_) (fun hb7 => ?_)
              · have hm := ctrue hb7 hm
                refine skp (t_then ?_)
                refine sq2 ?_
                refine blk ?_
                obtain ⟨u8, hx10, hm⟩ := bindS hm
                obtain ⟨b8, of8, cs8, k8, cp8, hv8, hp8, hl8, he8, hr8, hc8, hT8⟩ := (h1.mono (Im.trans im1 im3)).ixT hx10 rfl
                obtain ⟨a9, c9, rfl, h9⟩ := rref08Type_open hr8
                obtain ⟨u9, hx11, hm⟩ := bindS hm
                obtain ⟨b9, of9, cs9, k9, cp9, hv9, hp9, hl9, he9, hr9, hc9, hT9⟩ := h9.ixT hx11 rfl
                cases rGField_open hr9
                obtain ⟨y3, hx12, hm⟩ := bindS hm
                refine rg (pv (r_mi rfl) (pv (r_ms rfl) (pv (r_ms rfl) (pv (r_mi rfl) (pv (r_ixe hv8 rfl Try.underlying28 Try.sizeOf51 hp8 hl8 he8) (pv (r_fa rfl Try.underlying51 rfl Try.sizeOf49 rfl) (pv (r_ld rfl Try.isAgg49 (hc8.get (j := 4) rfl)) (pv (r_mi rfl) (pv (r_ixe hv9 rfl Try.underlying49 Try.sizeOf52 hp9 hl9 he9) (pv (r_fa rfl Try.underlying52 rfl Try.sizeOf3 rfl) (pv (r_ld rfl Try.isAgg3 (hc9.get (j := 1) rfl)) (wl rfl (calS cf24 rfl (hG.ref08_Align (p0 := p0) (p1 := u9.Type_) (hS3.bun [0] [] rfl) (h1.mono (Im.trans im1 im3)) hx12) rfl fun v3 T4 w4 im4 rv3 => ?_)))))))))))))
                obtain ⟨rfl, hS4, _⟩ := rv3
                have hS4 : Sep g T4 w4 [R] := hS4.unb
                refine pv (r_imx rfl rfl) (pv (r_zi rfl) (nil (t_blk (t_thenR [(0, .slice a1 (List.length p0) c1), (1, .int .i64 p1), (5, .int .i64 (max x1 y3)), (6, .int .i64 x2)] ⟨rfl, rfl, rfl, rfl, trivial⟩ fun J => ?_))))
                have hm := Option.some.inj hm
                subst hm
                exact rg (pv (r_mi rfl) (pv (r_ib rfl rfl rfl) (pv (r_zi rfl) (nil (t_then ⟨m1, Nat.lt_succ_self _, _, _, (max x1 y3), (IntKind.wrap .i64 (x2 + 1)), env_has ⟨rfl, rfl, rfl, rfl, trivial⟩, (Im.trans im3 im4), hS4.sel [0] rfl, hn1⟩)))))
              · have hm := cfalse hb7 hm
                have hm := Option.some.inj hm
                subst hm
                have hn1 : _ = Lp.brk _ := hn1
                subst hn1
                have hm := thn_brk hq1
                refine xt (x_then (x_then (x_eq (t_then ?_))))
                refine sq2 ?_
                refine rg (pv (r_mi rfl) (pv (r_zi rfl) (nil (t_thenR [(4, .int .i64 x1)] ⟨rfl, trivial⟩ fun J => ?_))))
                have hm := Option.some.inj hm
                subst hm
                exact rtn (r_then (ret1 rfl rfl ⟨_, rfl, _, (Im.trans im1 im3), ⟨rfl, hS3.sel [0] rfl, trivial⟩⟩))
            · have hm := cfalse hb6 hm
              refine skp (t_then ?_)
              refine sq2 ?_
              refine rg (pv (r_zi rfl) (nil (t_then ?_)))
              have hm := Option.some.inj hm
              subst hm
              exact rtn (ret1 rfl rfl ⟨_, rfl, _, im1, ⟨rfl, hS1.sel [0] rfl, trivial⟩⟩)
theorem sp1 : ∀ n, Sp1 (rec1 n)
  | 0 => ⟨by intros; rename_i h; cases (show (none : Option _) = some _ from h)⟩
  | n + 1 => ⟨ref08_Align_st (sp1 n)⟩
theorem ref08_Align_sim {g : World} {T0 : Nat → Prop} {w0 : World} {R : Assn} {p0 : List ref08Type} {a1 : Option Addr} {c1 : Nat} {p1 : Int} {r : Int} (hS : Sep g T0 w0 [R]) (h1 : SlR rref08Type T0 w0 (.slice a1 (List.length p0) c1) p0) (hm : ref08_Align p0 p1 = some r) :
    Calls Try.prog 24 #[.slice a1 (List.length p0) c1, .int .i64 p1] w0 (RetS T0 w0 fun T w v => v = .int .i64 r ∧ Sep g T w [R] ∧ True) := (sp1 NN).ref08_Align hS h1 hm

set_option maxRecDepth 100000 in
set_option maxHeartbeats 1000000 in
theorem ref08_next_sim {g : World} {T0 : Nat → Prop} {w0 : World} {R : Assn} {p0 : Int} {p1 : Int} {r : Int} (hS : Sep g T0 w0 [R])  (hm : ref08_next p0 p1 = some r) :
    Calls Try.prog 37 #[.int .i64 p0, .int .i64 p1] w0 (RetS T0 w0 fun T w v => v = .int .i64 r ∧ Sep g T w [R] ∧ True) := by
  refine enter (args := [.int .i64 p0, .int .i64 p1]) Try.func37 rfl Try.ntmps37 rfl fun J => ?_
  unfold ref08_next at hm
  refine sq2 ?_
  refine rg (pv (r_zi rfl) (nil (t_then ?_)))
  refine sq2 ?_
  obtain ⟨o1, ho1, hq1⟩ := bindS hm
  obtain ⟨bd1, hbd1, ho1⟩ := loop_open ho1
  refine blk (wp_loop_ghost (fun m a w1 => ∃ (J : Nat → Value) (T1 : Nat → Prop) (x1 : Int), a = env 12 J [(0, .int .i64 x1), (1, .int .i64 p1)] ∧ Im T0 w0 T1 w1 ∧ Sep g T1 w1 [R] ∧ loopM bd1 m x1 = some o1) NN ⟨_, _, p0, env_has ⟨rfl, rfl, trivial⟩, Im.refl, hS.sel [0] rfl, ho1⟩ ?_)
  rintro m _ w1 ⟨J, T1, x1, rfl, im1, hS1, ho1⟩
  obtain ⟨m1, z1, rfl, hm, hn1⟩ := loop_round ho1
  rw [hbd1] at hm
  refine sq2 ?_
  refine sq2 ?_
  obtain ⟨_, hz1, hm⟩ := bindS hm
  have hz1 := nz_some hz1
  refine rg (pv (r_mi rfl) (pv (r_mi rfl) (pv (r_irm rfl rfl hz1) (pv (r_ib rfl rfl rfl) (nil (t_then ?_))))))
  refine cnd rfl (fun hb1 => ?_) (fun hb1 => ?_)
  · have hm := ctrue hb1 hm
    refine skp (t_then ?_)
    refine blk ?_
    have hm := Option.some.inj hm
    subst hm
    exact rg (pv (r_mi rfl) (pv (r_ib rfl rfl rfl) (pv (r_zi rfl) (nil (t_blk (t_then ⟨m1, Nat.lt_succ_self _, _, _, (IntKind.wrap .i64 (x1 + 1)), env_has ⟨rfl, rfl, trivial⟩, im1, hS1.sel [0] rfl, hn1⟩))))))
  · have hm := cfalse hb1 hm
    have hm := Option.some.inj hm
    subst hm
    have hn1 : _ = Lp.brk _ := hn1
    subst hn1
    have hm := thn_brk hq1
    refine xt (x_then (x_then (x_eq (t_thenR [(0, .int .i64 x1)] ⟨rfl, trivial⟩ fun J => ?_))))
    refine sq2 ?_
    refine rg (pv (r_mi rfl) (pv (r_zi rfl) (nil (t_then ?_))))
    have hm := Option.some.inj hm
    subst hm
    exact rtn (ret1 rfl rfl ⟨_, rfl, _, im1, ⟨rfl, hS1.sel [0] rfl, trivial⟩⟩)

structure Sp2 (G : Rec2) : Prop where
  ref08_Size : ∀ {g : World} {T0 : Nat → Prop} {w0 : World} {R : Assn} {p0 : List ref08Type} {a1 : Option Addr} {c1 : Nat} {p1 : Int} {r : Int} (hS : Sep g T0 w0 [R]) (h1 : SlR rref08Type T0 w0 (.slice a1 (List.length p0) c1) p0) (hm : G.ref08_Size p0 p1 = some r),
    Calls Try.prog 23 #[.slice a1 (List.length p0) c1, .int .i64 p1] w0 (RetS T0 w0 fun T w v => v = .int .i64 r ∧ Sep g T w [R] ∧ True)
set_option maxRecDepth 100000 in
set_option maxHeartbeats 1000000 in
theorem ref08_Size_st {G : Rec2} (hG : Sp2 G) {g : World} {T0 : Nat → Prop} {w0 : World} {R : Assn} {p0 : List ref08Type} {a1 : Option Addr} {c1 : Nat} {p1 : Int} {r : Int} (hS : Sep g T0 w0 [R]) (h1 : SlR rref08Type T0 w0 (.slice a1 (List.length p0) c1) p0) (hm : ref08_Size_b G p0 p1 = some r) :
    Calls Try.prog 23 #[.slice a1 (List.length p0) c1, .int .i64 p1] w0 (RetS T0 w0 fun T w v => v = .int .i64 r ∧ Sep g T w [R] ∧ True) := by
  refine enter (args := [.slice a1 (List.length p0) c1, .int .i64 p1]) Try.func23 rfl Try.ntmps23 rfl fun J => ?_
  unfold ref08_Size_b at hm
  refine sq2 ?_
  refine rg (pv (r_zi rfl) (nil (t_then ?_)))
  refine sq2 ?_
  refine sq2 ?_
  obtain ⟨y1, hx1, hm⟩ := bindS hm
  refine rg (pv (r_ms rfl) (pv (r_mi rfl) (wl rfl (calS cf19 rfl (ref08_Is_sim (p0 := p0) (p1 := p1) (hS.bun [0] [] rfl) h1 hx1) rfl fun v1 T1 w1 im1 rv1 => ?_))))
  obtain ⟨rfl, hS1, _⟩ := rv1
  have hS1 : Sep g T1 w1 [R] := hS1.unb
  refine pv (r_nt rfl) (pv (r_mb rfl) (?_))
  rcases Bool.eq_false_or_eq_true (!y1) with hb1 | hb1
  · have hm := ctrue hb1 hm
    refine gF (d0 := 12) rfl rfl (by rw [hb1]; rfl) (gF (d0 := 12) rfl rfl (by rw [hb1]; rfl) (gF (d0 := 12) rfl rfl (by rw [hb1]; rfl) (gF (d0 := 12) rfl rfl (by rw [hb1]; rfl) (gF (d0 := 12) rfl rfl (by rw [hb1]; rfl) (gF (d0 := 12) rfl rfl (by rw [hb1]; rfl) (pv (r_pkt rfl hb1 rfl) (pv (r_mb rfl) (gF (d0 := 20) rfl rfl rfl (gF (d0 := 20) rfl rfl rfl (gF (d0 := 20) rfl rfl rfl (gF (d0 := 20) rfl rfl rfl (gF (d0 := 20) rfl rfl rfl (pv (r_pkt rfl rfl rfl) (nil (t_thenR [(0, .slice a1 (List.length p0) c1), (1, .int .i64 p1), (26, .bool true)] ⟨rfl, rfl, rfl, trivial⟩ fun J => ?_)))))))))))))))
    refine cnd (b := true) rfl (fun _ => ?_) (fun h => nomatch h)
    refine sq2 ?_
    refine rg (pv (r_zi rfl) (nil (t_then ?_)))
    have hm := Option.some.inj hm
    subst hm
    exact rtn (r_then (ret1 rfl rfl ⟨_, rfl, _, im1, ⟨rfl, hS1.sel [0] rfl, trivial⟩⟩))
  · have hm := cfalse hb1 hm
    obtain ⟨u1, hx2, hm⟩ := bindS hm
    obtain ⟨b1, of1, cs1, k1, cp1, hv1, hp1, hl1, he1, hr1, hc1, hT1⟩ := (h1.mono im1).ixT hx2 rfl
    obtain ⟨a2, c2, rfl, h2⟩ := rref08Type_open hr1
    refine gT (d0 := 12) rfl rfl hb1 (pv (r_ms rfl) (gT (d0 := 12) rfl rfl hb1 (pv (r_mi rfl) (gT (d0 := 12) rfl rfl hb1 (pv (r_ixe hv1 rfl Try.underlying28 Try.sizeOf51 hp1 hl1 he1) (gT (d0 := 12) rfl rfl hb1 (pv (r_fa rfl Try.underlying51 rfl Try.sizeOf3 rfl) (gT (d0 := 12) rfl rfl hb1 (pv (r_ld rfl Try.isAgg3 (hc1.get (j := 0) rfl)) (gT (d0 := 12) rfl rfl hb1 (pv (r_ib rfl rfl rfl) (pv (r_pkf rfl hb1 rfl) (pv (r_mb rfl) (?_))))))))))))))
    rcases Bool.eq_false_or_eq_true (u1.Kind == 0) with hb2 | hb2
    · have hm := ctrue hb2 hm
      refine gF (d0 := 20) rfl rfl (by rw [hb2]; rfl) (gF (d0 := 20) rfl rfl (by rw [hb2]; rfl) (gF (d0 := 20) rfl rfl (by rw [hb2]; rfl) (gF (d0 := 20) rfl rfl (by rw [hb2]; rfl) (gF (d0 := 20) rfl rfl (by rw [hb2]; rfl) (pv (r_pkt rfl hb2 rfl) (nil (t_thenR [(0, .slice a1 (List.length p0) c1), (1, .int .i64 p1), (26, .bool true)] ⟨rfl, rfl, rfl, trivial⟩ fun J => ?_)))))))
      refine cnd (b := true) rfl (fun _ => ?_) (fun h => nomatch h)
      refine sq2 ?_
      refine rg (pv (r_zi rfl) (nil (t_then ?_)))
      have hm := Option.some.inj hm
      subst hm
      exact rtn (r_then (ret1 rfl rfl ⟨_, rfl, _, im1, ⟨rfl, hS1.sel [0] rfl, trivial⟩⟩))
    · have hm := cfalse hb2 hm
      obtain ⟨u2, hx3, hm⟩ := bindS hm
      obtain ⟨b2, of2, cs2, k2, cp2, hv2, hp2, hl2, he2, hr2, hc2, hT2⟩ := (h1.mono im1).ixT hx3 rfl
      obtain ⟨a3, c3, rfl, h3⟩ := rref08Type_open hr2
      refine gT (d0 := 20) rfl rfl hb2 (pv (r_ms rfl) (gT (d0 := 20) rfl rfl hb2 (pv (r_mi rfl) (gT (d0 := 20) rfl rfl hb2 (pv (r_ixe hv2 rfl Try.underlying28 Try.sizeOf51 hp2 hl2 he2) (gT (d0 := 20) rfl rfl hb2 (pv (r_fa rfl Try.underlying51 rfl Try.sizeOf4 rfl) (gT (d0 := 20) rfl rfl hb2 (pv (r_ld rfl Try.isAgg4 (hc2.get (j := 5) rfl)) (pv (r_pkf rfl hb2 rfl) (nil (t_thenR [(0, .slice a1 (List.length p0) c1), (1, .int .i64 p1), (26, .bool u2.Open)] ⟨rfl, rfl, rfl, trivial⟩ fun J => ?_))))))))))))
      refine cnd rfl (fun hb3 => ?_) (fun hb3 => ?_)
      · have hm := ctrue hb3 hm
        refine sq2 ?_
        refine rg (pv (r_zi rfl) (nil (t_then ?_)))
        have hm := Option.some.inj hm
        subst hm
        exact rtn (r_then (ret1 rfl rfl ⟨_, rfl, _, im1, ⟨rfl, hS1.sel [0] rfl, trivial⟩⟩))
      · have hm := cfalse hb3 hm
        refine skp (t_then ?_)
        refine sq2 ?_
        refine sq2 ?_
        obtain ⟨u3, hx4, hm⟩ := bindS hm
        obtain ⟨b3, of3, cs3, k3, cp3, hv3, hp3, hl3, he3, hr3, hc3, hT3⟩ := (h1.mono im1).ixT hx4 rfl
        obtain ⟨a4, c4, rfl, h4⟩ := rref08Type_open hr3
        refine rg (pv (r_ms rfl) (pv (r_mi rfl) (pv (r_ixe hv3 rfl Try.underlying28 Try.sizeOf51 hp3 hl3 he3) (pv (r_fa rfl Try.underlying51 rfl Try.sizeOf3 rfl) (pv (r_ld rfl Try.isAgg3 (hc3.get (j := 0) rfl)) (pv (r_ib rfl rfl rfl) (nil (t_thenR [(0, .slice a1 (List.length p0) c1), (1, .int .i64 p1), (32, .bool (u3.Kind == 2))] ⟨rfl, rfl, rfl, trivial⟩ fun J => ?_))))))))
        refine cnd rfl (fun hb4 => ?_) (fun hb4 => ?_)
        · have hm := ctrue hb4 hm
          refine sq2 ?_
          refine rg (pv (r_zi rfl) (nil (t_then ?_)))
          have hm := Option.some.inj hm
          subst hm
          exact rtn (r_then (ret1 rfl rfl ⟨_, rfl, _, im1, ⟨rfl, hS1.sel [0] rfl, trivial⟩⟩))
        · have hm := cfalse hb4 hm
          refine skp (t_then ?_)
          refine sq2 ?_
          refine sq2 ?_
          obtain ⟨u4, hx5, hm⟩ := bindS hm
          obtain ⟨b4, of4, cs4, k4, cp4, hv4, hp4, hl4, he4, hr4, hc4, hT4⟩ := (h1.mono im1).ixT hx5 rfl
          obtain ⟨a5, c5, rfl, h5⟩ := rref08Type_open hr4
          refine rg (pv (r_ms rfl) (pv (r_mi rfl) (pv (r_ixe hv4 rfl Try.underlying28 Try.sizeOf51 hp4 hl4 he4) (pv (r_fa rfl Try.underlying51 rfl Try.sizeOf3 rfl) (pv (r_ld rfl Try.isAgg3 (hc4.get (j := 0) rfl)) (pv (r_ib rfl rfl rfl) (nil (t_thenR [(0, .slice a1 (List.length p0) c1), (1, .int .i64 p1), (38, .bool (u4.Kind == 4))] ⟨rfl, rfl, rfl, trivial⟩ fun J => ?_))))))))
          refine cnd rfl (fun hb5 => ?_) (fun hb5 => ?_)
          · have hm := ctrue hb5 hm
            refine sq2 ?_
            refine rs [0, 0, 0, 0, 1, 0, 0, 0, 0, 0, 1, 2, 0, 0] [0, 1, 2, 3, 4, 5, 6, 7, 8, 9, 10, 11, 12, 13] mix (by kernel_rfl) hS1.lt fun w2 i1 => ?_
            have im2 := i1.imm
            have hS2 := hS1.keep i1 (fun _ h => h)
            obtain ⟨u5, hx6, hm⟩ := bindS hm
            obtain ⟨b5, of5, cs5, k5, cp5, hv5, hp5, hl5, he5, hr5, hc5, hT5⟩ := (h1.mono (Im.trans im1 im2)).ixT hx6 rfl
            obtain ⟨a6, c6, rfl, h6⟩ := rref08Type_open hr5
            obtain ⟨u6, hx7, hm⟩ := bindS hm
            obtain ⟨b6, of6, cs6, k6, cp6, hv6, hp6, hl6, he6, hr6, hc6, hT6⟩ := (h1.mono (Im.trans im1 im2)).ixT hx7 rfl
            obtain ⟨a7, c7, rfl, h7⟩ := rref08Type_open hr6
            obtain ⟨y2, hx8, hm⟩ := bindS hm
            refine s0 rfl trivial (fun _ => r_ms rfl) rfl (s0 rfl trivial (fun _ => r_mi rfl) rfl (s0 rfl trivial (fun _ => r_ixe hv5 rfl Try.underlying28 Try.sizeOf51 hp5 hl5 he5) rfl (s0 rfl trivial (fun _ => r_fa rfl Try.underlying51 rfl Try.sizeOf3 rfl) rfl (s1 rfl trivial (r_ld rfl Try.isAgg3 (hc5.get (j := 2) rfl)) rfl (s0 rfl trivial (fun _ => r_ms rfl) rfl (s0 rfl trivial (fun _ => r_ms rfl) rfl (s0 rfl trivial (fun _ => r_mi rfl) rfl (s0 rfl trivial (fun _ => r_ixe hv6 rfl Try.underlying28 Try.sizeOf51 hp6 hl6 he6) rfl (s0 rfl trivial (fun _ => r_fa rfl Try.underlying51 rfl Try.sizeOf3 rfl) rfl (s1 rfl trivial (r_ld rfl Try.isAgg3 (hc6.get (j := 1) rfl)) rfl (s2 [(4, .int .i64 u5.Len)] rfl trivial rfl (by kernel_rfl) (calS cf23 rfl (hG.ref08_Size (p0 := p0) (p1 := u6.Elem) (hS2.bun [0] [] rfl) (h1.mono (Im.trans im1 im2)) hx8) rfl fun v2 T2 w3 im3 rv2 => ?_))))))))))))
            obtain ⟨rfl, hS3, _⟩ := rv2
            have hS3 : Sep g T2 w3 [R] := hS3.unb
            refine ⟨st1 rfl (r_ld rfl Try.isAgg3 ((hc5.same (im3 b5 hT5).2).get (j := 2) rfl)) (st0), ?_⟩
            refine s0 rfl trivial (fun _ => r_ib rfl rfl rfl) rfl (s0 rfl trivial (fun _ => r_zi rfl) rfl (se (t_thenR [(4, .int .i64 (IntKind.wrap .i64 (u5.Len * y2)))] ⟨rfl, trivial⟩ fun J => ?_)))
            have hm := Option.some.inj hm
            subst hm
            exact rtn (r_then (ret1 rfl rfl ⟨_, rfl, _, (Im.trans im1 (Im.trans im2 im3)), ⟨rfl, hS3.sel [0] rfl, trivial⟩⟩))
          · have hm := cfalse hb5 hm
            refine skp (t_then ?_)
            refine sq2 ?_
            refine sq2 ?_
            obtain ⟨u7, hx9, hm⟩ := bindS hm
            obtain ⟨b7, of7, cs7, k7, cp7, hv7, hp7, hl7, he7, hr7, hc7, hT7⟩ := (h1.mono im1).ixT hx9 rfl
            obtain ⟨a8, c8, rfl, h8⟩ := rref08Type_open hr7
            refine rg (pv (r_ms rfl) (pv (r_mi rfl) (pv (r_ixe hv7 rfl Try.underlying28 Try.sizeOf51 hp7 hl7 he7) (pv (r_fa rfl Try.underlying51 rfl Try.sizeOf3 rfl) (pv (r_ld rfl Try.isAgg3 (hc7.get (j := 0) rfl)) (pv (r_ib rfl rfl rfl) (nil (t_thenR [(0, .slice a1 (List.length p0) c1), (1, .int .i64 p1), (57, .bool (u7.Kind == 5))] ⟨rfl, rfl, rfl, trivial⟩ fun J => ?_))))))))
            refine cnd rfl (fun hb6 => ?_) (fun hb6 => ?_)
            · have hm := ctrue hb6 hm
              refine sq2 ?_
              refine rg (pv (r_zi rfl) (nil (t_then ?_)))
              refine sq2 ?_
              refine sq2 ?_
              refine rg (pv (r_zi rfl) (nil (t_then ?_)))
              obtain ⟨o1, ho1, hq1⟩ := bindS hm
              obtain ⟨bd1, hbd1, ho1⟩ := loop_open ho1
              refine blk (wp_loop_ghost (fun m a w4 => ∃ (J : Nat → Value) (T3 : Nat → Prop) (x1 : Int) (x2 : Int), a = env 92 J [(0, .slice a1 (List.length p0) c1), (1, .int .i64 p1), (5, .int .i64 x1), (6, .int .i64 x2)] ∧ Im T1 w1 T3 w4 ∧ Sep g T3 w4 [R] ∧ loopM bd1 m (x1, x2) = some o1) NN ⟨_, _, 0, 0, env_has ⟨rfl, rfl, rfl, rfl, trivial⟩, Im.refl, hS1.sel [0] rfl, ho1⟩ ?_)
              rintro m _ w4 ⟨J, T3, x1, x2, rfl, im4, hS4, ho1⟩
              obtain ⟨m1, z1, rfl, hm, hn1⟩ := loop_round ho1
              rw [hbd1] at hm
              refine sq2 ?_
              refine sq2 ?_
              obtain ⟨u8, hx10, hm⟩ := bindS hm
              obtain ⟨b8, of8, cs8, k8, cp8, hv8, hp8, hl8, he8, hr8, hc8, hT8⟩ := (h1.mono (Im.trans im1 im4)).ixT hx10 rfl
              obtain ⟨a9, c9, rfl, h9⟩ := rref08Type_open hr8
              refine rg (pv (r_mi rfl) (pv (r_ms rfl) (pv (r_mi rfl) (pv (r_ixe hv8 rfl Try.underlying28 Try.sizeOf51 hp8 hl8 he8) (pv (r_fa rfl Try.underlying51 rfl Try.sizeOf49 rfl) (pv (r_ld rfl Try.isAgg49 (hc8.get (j := 4) rfl)) (pv (r_ln rfl Try.underlying49) (pv (r_ib rfl rfl rfl) (nil (t_thenR [(0, .slice a1 (List.length p0) c1), (1, .int .i64 p1), (5, .int .i64 x1), (6, .int .i64 x2), (65, .bool (decide (x2 < (List.length u8.Fields : Int))))] ⟨rfl, rfl, rfl, rfl, rfl, trivial⟩ fun J => ?_))))))))))
              refine cnd rfl (fun hb7 => ?_) (fun hb7 => ?_)
              · have hm := ctrue hb7 hm
                refine skp (t_then ?_)
                refine sq2 ?_
                refine blk ?_
                refine sq2 ?_
                obtain ⟨u9, hx11, hm⟩ := bindS hm
                obtain ⟨b9, of9, cs9, k9, cp9, hv9, hp9, hl9, he9, hr9, hc9, hT9⟩ := (h1.mono (Im.trans im1 im4)).ixT hx11 rfl
                obtain ⟨a10, c10, rfl, h10⟩ := rref08Type_open hr9
                obtain ⟨u10, hx12, hm⟩ := bindS hm
                obtain ⟨b10, of10, cs10, k10, cp10, hv10, hp10, hl10, he10, hr10, hc10, hT10⟩ := h10.ixT hx12 rfl
                cases rGField_open hr10
                refine rg (pv (r_ms rfl) (pv (r_mi rfl) (pv (r_ixe hv9 rfl Try.underlying28 Try.sizeOf51 hp9 hl9 he9) (pv (r_fa rfl Try.underlying51 rfl Try.sizeOf49 rfl) (pv (r_ld rfl Try.isAgg49 (hc9.get (j := 4) rfl)) (pv (r_mi rfl) (pv (r_ixe hv10 rfl Try.underlying49 Try.sizeOf52 hp10 hl10 he10) (pv (r_ldS rfl Try.isAgg52 Try.sizeOf52 rfl hc10 (cs := [.string ⟨u10.Name.toArray⟩, .int .i64 u10.Type_, .int .i64 u10.At])) (wl rfl (alS (zs := [.string ⟨([] : List UInt8).toArray⟩, .int .i64 0, .int .i64 0]) Try.zeroValue52 rfl hS4 fun w5 b11 im5 hS5 => ?_))))))))))
                refine wl rfl (st0B (q := 0) hS5 ⟨rfl, rfl⟩ rfl rfl rfl Try.sizeOf52 rfl rfl rfl fun w6 im6 hS6 => ?_)
                have hS6 : Sep g T3 w6 [boxA b11 [.string ⟨u10.Name.toArray⟩, .int .i64 u10.Type_, .int .i64 u10.At], R] := hS6
                refine nil (t_thenR [(0, .slice a1 (List.length p0) c1), (1, .int .i64 p1), (5, .int .i64 x1), (6, .int .i64 x2), (7, .pointer (some ⟨b11, 0, none⟩))] ⟨rfl, rfl, rfl, rfl, rfl, trivial⟩ fun J => ?_)
                refine rs [0, 0, 0, 1, 2, 2, 0, 0, 1, 2, 0, 0] [0, 1, 2, 3, 6, 7, 8, 4, 5, 9, 10, 11] mix (by kernel_rfl) hS6.lt fun w7 i2 => ?_
                have im7 := i2.imm
                have hS7 := hS6.keep i2 (fun _ h => h)
                obtain ⟨y3, hx13, hm⟩ := bindS hm
                refine s0 rfl trivial (fun _ => r_mi rfl) rfl (s0 rfl trivial (fun _ => r_ms rfl) rfl (s0 rfl trivial (fun _ => r_fa rfl Try.underlying52 rfl Try.sizeOf3 rfl) rfl (s1 rfl trivial (r_ld rfl Try.isAgg3 (hS7.cell0 (i := 0) ⟨rfl, rfl⟩ (j := 1) rfl)) rfl (s0 rfl trivial (fun _ => r_ms rfl) rfl (s0 rfl trivial (fun _ => r_fa rfl Try.underlying52 rfl Try.sizeOf3 rfl) rfl (s1 rfl trivial (r_ld rfl Try.isAgg3 (hS7.cell0 (i := 0) ⟨rfl, rfl⟩ (j := 1) rfl)) rfl (s2 [(8, .int .i64 u10.Type_)] rfl trivial rfl (by kernel_rfl) (calS cf24 rfl (ref08_Align_sim (p0 := p0) (p1 := u10.Type_) (hS7.bun [1, 0] [] rfl) (h1.mono (Im.trans im1 (Im.trans im4 (Im.trans im5 (Im.trans im6 im7))))) hx13) rfl fun v3 T4 w8 im8 rv3 => ?_))))))))
                obtain ⟨rfl, hS8, _⟩ := rv3
                have hS8 : Sep g T4 w8 [R, boxA b11 [.string ⟨u10.Name.toArray⟩, .int .i64 u10.Type_, .int .i64 u10.At]] := hS8.unb
                refine ⟨st1 rfl (r_ld rfl Try.isAgg3 (hS8.cell0 (i := 1) ⟨rfl, rfl⟩ (j := 1) rfl)) (st0), ?_⟩
                obtain ⟨y4, hx14, hm⟩ := bindS hm
                refine s2 [(8, .int .i64 u10.Type_)] rfl trivial rfl (by kernel_rfl) (calS cf37 rfl (ref08_next_sim (p0 := x1) (p1 := y3) (hS8.bun [0, 1] [] rfl)  hx14) rfl fun v4 T5 w9 im9 rv4 => ?_)
                obtain ⟨rfl, hS9, _⟩ := rv4
                have hS9 : Sep g T5 w9 [R, boxA b11 [.string ⟨u10.Name.toArray⟩, .int .i64 u10.Type_, .int .i64 u10.At]] := hS9.unb
                refine ⟨st1 rfl (r_ld rfl Try.isAgg3 (hS9.cell0 (i := 1) ⟨rfl, rfl⟩ (j := 1) rfl)) (st0), ?_⟩
                obtain ⟨y5, hx15, hm⟩ := bindS hm
                refine s2 [] rfl trivial rfl (by kernel_rfl) (calS cf23 rfl (hG.ref08_Size (p0 := p0) (p1 := u10.Type_) (hS9.bun [0, 1] [] rfl) (h1.mono (Im.trans im1 (Im.trans im4 (Im.trans im5 (Im.trans im6 (Im.trans im7 (Im.trans im8 im9))))))) hx15) rfl fun v5 T6 w10 im10 rv5 => ?_)
                obtain ⟨rfl, hS10, _⟩ := rv5
                have hS10 : Sep g T6 w10 [R, boxA b11 [.string ⟨u10.Name.toArray⟩, .int .i64 u10.Type_, .int .i64 u10.At]] := hS10.unb
                refine ⟨st0, ?_⟩
                refine s0 rfl trivial (fun _ => r_ib rfl rfl rfl) rfl (s0 rfl trivial (fun _ => r_zi rfl) rfl (se (t_blk (t_thenR [(0, .slice a1 (List.length p0) c1), (1, .int .i64 p1), (5, .int .i64 (IntKind.wrap .i64 (y4 + y5))), (6, .int .i64 x2)] ⟨rfl, rfl, rfl, rfl, trivial⟩ fun J => ?_))))
                have hm := Option.some.inj hm
                subst hm
                exact rg (pv (r_mi rfl) (pv (r_ib rfl rfl rfl) (pv (r_zi rfl) (nil (t_then ⟨m1, Nat.lt_succ_self _, _, _, (IntKind.wrap .i64 (y4 + y5)), (IntKind.wrap .i64 (x2 + 1)), env_has ⟨rfl, rfl, rfl, rfl, trivial⟩, (Im.trans im4 (Im.trans im5 (Im.trans im6 (Im.trans im7 (Im.trans im8 (Im.trans im9 im10)))))), hS10.sel [0] rfl, hn1⟩)))))
              · have hm := cfalse hb7 hm
                have hm := Option.some.inj hm
                subst hm
                have hn1 : _ = Lp.brk _ := hn1
                subst hn1
                have hm := thn_brk hq1
                refine xt (x_then (x_then (x_eq (t_then ?_))))
                refine sq2 ?_
                obtain ⟨y6, hx16, hm⟩ := bindS hm
                refine rg (pv (r_mi rfl) (pv (r_ms rfl) (pv (r_mi rfl) (wl rfl (calS cf24 rfl (ref08_Align_sim (p0 := p0) (p1 := p1) (hS4.bun [0] [] rfl) (h1.mono (Im.trans im1 im4)) hx16) rfl fun v6 T7 w11 im11 rv6 => ?_)))))
                obtain ⟨rfl, hS11, _⟩ := rv6
                have hS11 : Sep g T7 w11 [R] := hS11.unb
                obtain ⟨y7, hx17, hm⟩ := bindS hm
                refine wl rfl (calS cf37 rfl (ref08_next_sim (p0 := x1) (p1 := y6) (hS11.bun [0] [] rfl)  hx17) rfl fun v7 T8 w12 im12 rv7 => ?_)
                obtain ⟨rfl, hS12, _⟩ := rv7
                have hS12 : Sep g T8 w12 [R] := hS12.unb
                refine pv (r_zi rfl) (nil (t_thenR [(4, .int .i64 y7)] ⟨rfl, trivial⟩ fun J => ?_))
                have hm := Option.some.inj hm
                subst hm
                exact rtn (r_then (ret1 rfl rfl ⟨_, rfl, _, (Im.trans im1 (Im.trans im4 (Im.trans im11 im12))), ⟨rfl, hS12.sel [0] rfl, trivial⟩⟩))
            · have hm := cfalse hb6 hm
              refine skp (t_then ?_)
              refine sq2 ?_
              refine rg (pv (r_zi rfl) (nil (t_then ?_)))
              have hm := Option.some.inj hm
              subst hm
              exact rtn (ret1 rfl rfl ⟨_, rfl, _, im1, ⟨rfl, hS1.sel [0] rfl, trivial⟩⟩)
theorem sp2 : ∀ n, Sp2 (rec2 n)
  | 0 => ⟨by intros; rename_i h; cases (show (none : Option _) = some _ from h)⟩
  | n + 1 => ⟨ref08_Size_st (sp2 n)⟩
theorem ref08_Size_sim {g : World} {T0 : Nat → Prop} {w0 : World} {R : Assn} {p0 : List ref08Type} {a1 : Option Addr} {c1 : Nat} {p1 : Int} {r : Int} (hS : Sep g T0 w0 [R]) (h1 : SlR rref08Type T0 w0 (.slice a1 (List.length p0) c1) p0) (hm : ref08_Size p0 p1 = some r) :
    Calls Try.prog 23 #[.slice a1 (List.length p0) c1, .int .i64 p1] w0 (RetS T0 w0 fun T w v => v = .int .i64 r ∧ Sep g T w [R] ∧ True) := (sp2 NN).ref08_Size hS h1 hm

set_option maxRecDepth 100000 in
set_option maxHeartbeats 1000000 in
theorem ref08_Array_sim {g : World} {T0 : Nat → Prop} {w0 : World} {R : Assn} {p0 : List ref08Type} {a1 : Option Addr} {c1 : Nat} {p1 : Int} {p2 : Int} {r : ref08Made} (hS : Sep g T0 w0 [R]) (h1 : SlR rref08Type T0 w0 (.slice a1 (List.length p0) c1) p0) (hm : ref08_Array p0 p1 p2 = some r) :
    Calls Try.prog 30 #[.slice a1 (List.length p0) c1, .int .i64 p1, .int .i64 p2] w0 (RetS T0 w0 fun T w v => ∃ (a3 : Option Addr) (c3 : Nat), v = .agg #[.int .i64 r.N, .slice a3 (List.length r.T) c3, .int .i64 r.E] ∧ Sep g T w [R] ∧ SlR rref08Type T w (.slice a3 (List.length r.T) c3) r.T ∧ True) := by
  refine enter (args := [.slice a1 (List.length p0) c1, .int .i64 p1, .int .i64 p2]) Try.func30 rfl Try.ntmps30 rfl fun J => ?_
  unfold ref08_Array at hm
  refine sq2 ?_
  refine rg (wl rfl (alS (zs := [.int .i64 0, .slice none 0 0, .int .i64 0]) Try.zeroValue30 rfl hS fun w1 b1 im1 hS1 => ?_))
  refine nil (t_then ?_)
  refine sq2 ?_
  refine sq2 ?_
  obtain ⟨y1, hx1, hm⟩ := bindS hm
  refine rg (pv (r_ms rfl) (pv (r_mi rfl) (wl rfl (calS cf19 rfl (ref08_Is_sim (p0 := p0) (p1 := p1) (hS1.bun [0, 1] [] rfl) (h1.mono im1) hx1) rfl fun v1 T1 w2 im2 rv1 => ?_))))
  obtain ⟨rfl, hS2, _⟩ := rv1
  have hS2 : Sep g T1 w2 [boxA b1 [.int .i64 0, .slice none 0 0, .int .i64 0], R] := hS2.unb
  refine pv (r_nt rfl) (nil (t_then ?_))
  refine cnd rfl (fun hb1 => ?_) (fun hb1 => ?_)
  · have hm := ctrue hb1 hm
    refine sq2 ?_
    refine rg (pv (r_ms rfl) (pv (r_bd (by kernel_rfl) rfl (u := .agg #[.int .i64 0, .slice a1 (List.length p0) c1, .int .i64 4])) (wl rfl (st0B (q := 0) hS2 ⟨rfl, rfl⟩ rfl rfl rfl Try.sizeOf30 rfl rfl rfl fun w3 im3 hS3 => ?_))))
    have hS3 : Sep g T1 w3 [boxA b1 [.int .i64 0, .slice a1 (List.length p0) c1, .int .i64 4], R] := hS3
    refine nil (t_thenR [(6, .pointer (some ⟨b1, 0, none⟩))] ⟨rfl, trivial⟩ fun J => ?_)
    have hm := Option.some.inj hm
    subst hm
    exact rtn (r_then (retN (vs := [.agg #[.int .i64 0, .slice a1 (List.length p0) c1, .int .i64 4]]) rfl ⟨rvS rfl Try.isAgg30 Try.sizeOf30 rfl (hS3.bx (i := 0) ⟨rfl, rfl⟩), trivial⟩ rfl ⟨_, rfl, _, (Im.trans im1 (Im.trans im2 im3)), ⟨_, _, rfl, hS3.sel [1] rfl, (h1.mono (Im.trans im1 (Im.trans im2 im3))), trivial⟩⟩))
  · have hm := cfalse hb1 hm
    refine skp (t_then ?_)
    refine sq2 ?_
    obtain ⟨y2, hx2, hm⟩ := bindS hm
    refine rg (pv (r_ms rfl) (pv (r_mi rfl) (wl rfl (calS cf23 rfl (ref08_Size_sim (p0 := p0) (p1 := p1) (hS2.bun [0, 1] [] rfl) (h1.mono (Im.trans im1 im2)) hx2) rfl fun v2 T2 w4 im4 rv2 => ?_))))
    obtain ⟨rfl, hS4, _⟩ := rv2
    have hS4 : Sep g T2 w4 [boxA b1 [.int .i64 0, .slice none 0 0, .int .i64 0], R] := hS4.unb
    refine pv (r_zi rfl) (nil (t_thenR [(0, .slice a1 (List.length p0) c1), (1, .int .i64 p1), (2, .int .i64 p2), (6, .pointer (some ⟨b1, 0, none⟩)), (7, .int .i64 y2)] ⟨rfl, rfl, rfl, rfl, rfl, trivial⟩ fun J => ?_))
    refine sq2 ?_
    refine sq2 ?_
    refine rg (pv (r_mi rfl) (pv (r_ib rfl rfl rfl) (nil (t_then ?_))))
    refine cnd rfl (fun hb2 => ?_) (fun hb2 => ?_)
    · have hm := ctrue hb2 hm
      refine sq2 ?_
      refine rg (pv (r_ms rfl) (pv (r_bd (by kernel_rfl) rfl (u := .agg #[.int .i64 0, .slice a1 (List.length p0) c1, .int .i64 5])) (wl rfl (st0B (q := 0) hS4 ⟨rfl, rfl⟩ rfl rfl rfl Try.sizeOf30 rfl rfl rfl fun w5 im5 hS5 => ?_))))
      have hS5 : Sep g T2 w5 [boxA b1 [.int .i64 0, .slice a1 (List.length p0) c1, .int .i64 5], R] := hS5
      refine nil (t_thenR [(6, .pointer (some ⟨b1, 0, none⟩))] ⟨rfl, trivial⟩ fun J => ?_)
      have hm := Option.some.inj hm
      subst hm
      exact rtn (r_then (retN (vs := [.agg #[.int .i64 0, .slice a1 (List.length p0) c1, .int .i64 5]]) rfl ⟨rvS rfl Try.isAgg30 Try.sizeOf30 rfl (hS5.bx (i := 0) ⟨rfl, rfl⟩), trivial⟩ rfl ⟨_, rfl, _, (Im.trans im1 (Im.trans im2 (Im.trans im4 im5))), ⟨_, _, rfl, hS5.sel [1] rfl, (h1.mono (Im.trans im1 (Im.trans im2 (Im.trans im4 im5)))), trivial⟩⟩))
    · have hm := cfalse hb2 hm
      refine skp (t_then ?_)
      refine sq2 ?_
      refine sq2 ?_
      refine rg (pv (r_mi rfl) (pv (r_ib rfl rfl rfl) (nil (t_then ?_))))
      refine cnd rfl (fun hb3 => ?_) (fun hb3 => ?_)
      · have hm := ctrue hb3 hm
        refine sq2 ?_
        refine rg (pv (r_ms rfl) (pv (r_bd (by kernel_rfl) rfl (u := .agg #[.int .i64 0, .slice a1 (List.length p0) c1, .int .i64 1])) (wl rfl (st0B (q := 0) hS4 ⟨rfl, rfl⟩ rfl rfl rfl Try.sizeOf30 rfl rfl rfl fun w6 im6 hS6 => ?_))))
        have hS6 : Sep g T2 w6 [boxA b1 [.int .i64 0, .slice a1 (List.length p0) c1, .int .i64 1], R] := hS6
        refine nil (t_thenR [(6, .pointer (some ⟨b1, 0, none⟩))] ⟨rfl, trivial⟩ fun J => ?_)
        have hm := Option.some.inj hm
        subst hm
        exact rtn (r_then (retN (vs := [.agg #[.int .i64 0, .slice a1 (List.length p0) c1, .int .i64 1]]) rfl ⟨rvS rfl Try.isAgg30 Try.sizeOf30 rfl (hS6.bx (i := 0) ⟨rfl, rfl⟩), trivial⟩ rfl ⟨_, rfl, _, (Im.trans im1 (Im.trans im2 (Im.trans im4 im6))), ⟨_, _, rfl, hS6.sel [1] rfl, (h1.mono (Im.trans im1 (Im.trans im2 (Im.trans im4 im6)))), trivial⟩⟩))
      · have hm := cfalse hb3 hm
        refine skp (t_then ?_)
        refine sq2 ?_
        refine sq2 ?_
        refine rg (pv (r_mi rfl) (pv (r_ib rfl rfl rfl) (pv (r_mb rfl) (?_))))
        rcases Bool.eq_false_or_eq_true (decide (32768 < p2)) with hb4 | hb4
        · have hm := ctrue hb4 hm
          refine gF (d0 := 27) rfl rfl (by rw [hb4]; rfl) (gF (d0 := 27) rfl rfl (by rw [hb4]; rfl) (gF (d0 := 27) rfl rfl (by rw [hb4]; rfl) (gF (d0 := 27) rfl rfl (by rw [hb4]; rfl) (pv (r_pkt rfl hb4 rfl) (nil (t_thenR [(0, .slice a1 (List.length p0) c1), (1, .int .i64 p1), (2, .int .i64 p2), (6, .pointer (some ⟨b1, 0, none⟩)), (32, .bool true)] ⟨rfl, rfl, rfl, rfl, rfl, trivial⟩ fun J => ?_))))))
          refine cnd (b := true) rfl (fun _ => ?_) (fun h => nomatch h)
          refine sq2 ?_
          refine rg (pv (r_ms rfl) (pv (r_bd (by kernel_rfl) rfl (u := .agg #[.int .i64 0, .slice a1 (List.length p0) c1, .int .i64 2])) (wl rfl (st0B (q := 0) hS4 ⟨rfl, rfl⟩ rfl rfl rfl Try.sizeOf30 rfl rfl rfl fun w10 im10 hS10 => ?_))))
          have hS10 : Sep g T2 w10 [boxA b1 [.int .i64 0, .slice a1 (List.length p0) c1, .int .i64 2], R] := hS10
          refine nil (t_thenR [(6, .pointer (some ⟨b1, 0, none⟩))] ⟨rfl, trivial⟩ fun J => ?_)
          have hm := Option.some.inj hm
          subst hm
          exact rtn (r_then (retN (vs := [.agg #[.int .i64 0, .slice a1 (List.length p0) c1, .int .i64 2]]) rfl ⟨rvS rfl Try.isAgg30 Try.sizeOf30 rfl (hS10.bx (i := 0) ⟨rfl, rfl⟩), trivial⟩ rfl ⟨_, rfl, _, (Im.trans im1 (Im.trans im2 (Im.trans im4 im10))), ⟨_, _, rfl, hS10.sel [1] rfl, (h1.mono (Im.trans im1 (Im.trans im2 (Im.trans im4 im10)))), trivial⟩⟩))
        · have hm := cfalse hb4 hm
          refine gT (d0 := 27) rfl rfl hb4 (pv (r_mi rfl) (gT (d0 := 27) rfl rfl hb4 (pv (r_mi rfl) (gT (d0 := 27) rfl rfl hb4 (pv (r_ib rfl rfl rfl) (gT (d0 := 27) rfl rfl hb4 (pv (r_ib rfl rfl rfl) (pv (r_pkf rfl hb4 rfl) (nil (t_thenR [(0, .slice a1 (List.length p0) c1), (1, .int .i64 p1), (2, .int .i64 p2), (6, .pointer (some ⟨b1, 0, none⟩)), (32, .bool (decide (32768 < (IntKind.wrap .i64 (p2 * y2)))))] ⟨rfl, rfl, rfl, rfl, rfl, trivial⟩ fun J => ?_))))))))))
          refine cnd rfl (fun hb5 => ?_) (fun hb5 => ?_)
          · have hm := ctrue hb5 hm
            refine sq2 ?_
            refine rg (pv (r_ms rfl) (pv (r_bd (by kernel_rfl) rfl (u := .agg #[.int .i64 0, .slice a1 (List.length p0) c1, .int .i64 2])) (wl rfl (st0B (q := 0) hS4 ⟨rfl, rfl⟩ rfl rfl rfl Try.sizeOf30 rfl rfl rfl fun w7 im7 hS7 => ?_))))
            have hS7 : Sep g T2 w7 [boxA b1 [.int .i64 0, .slice a1 (List.length p0) c1, .int .i64 2], R] := hS7
            refine nil (t_thenR [(6, .pointer (some ⟨b1, 0, none⟩))] ⟨rfl, trivial⟩ fun J => ?_)
            have hm := Option.some.inj hm
            subst hm
            exact rtn (r_then (retN (vs := [.agg #[.int .i64 0, .slice a1 (List.length p0) c1, .int .i64 2]]) rfl ⟨rvS rfl Try.isAgg30 Try.sizeOf30 rfl (hS7.bx (i := 0) ⟨rfl, rfl⟩), trivial⟩ rfl ⟨_, rfl, _, (Im.trans im1 (Im.trans im2 (Im.trans im4 im7))), ⟨_, _, rfl, hS7.sel [1] rfl, (h1.mono (Im.trans im1 (Im.trans im2 (Im.trans im4 im7)))), trivial⟩⟩))
          · have hm := cfalse hb5 hm
            refine skp (t_then ?_)
            refine sq2 ?_
            obtain ⟨y3, hx3, hm⟩ := bindS hm
            refine rg (pv (r_ms rfl) (pv (r_mi rfl) (pv (r_mi rfl) (pv (r_bd (by kernel_rfl) rfl (u := .agg #[.int .i64 4, .int .i64 p1, .int .i64 p2, .string ⟨([] : List UInt8).toArray⟩, .slice none 0 0, .bool false])) (wl rfl (calS cf41 rfl (ref08_put_sim (p0 := p0) (p1 := (⟨4, p1, p2, ([] : List UInt8), [], false⟩ : ref08Type)) (hS4.bun [0, 1] [] rfl) (h1.mono (Im.trans im1 (Im.trans im2 im4))) SlR_nil hx3) rfl fun v3 T3 w8 im8 rv3 => ?_))))))
            obtain ⟨a2, c2, rfl, hS8, h2, _⟩ := rv3
            have hS8 : Sep g T3 w8 [boxA b1 [.int .i64 0, .slice none 0 0, .int .i64 0], R] := hS8.unb
            refine wl rfl (st0B (q := 0) hS8 ⟨rfl, rfl⟩ rfl rfl rfl Try.sizeOf30 rfl rfl rfl fun w9 im9 hS9 => ?_)
            have hS9 : Sep g T3 w9 [boxA b1 [.int .i64 y3.N, .slice a2 (List.length y3.T) c2, .int .i64 y3.E], R] := hS9
            refine nil (t_thenR [(6, .pointer (some ⟨b1, 0, none⟩))] ⟨rfl, trivial⟩ fun J => ?_)
            have hm := Option.some.inj hm
            subst hm
            exact rtn (retN (vs := [.agg #[.int .i64 y3.N, .slice a2 (List.length y3.T) c2, .int .i64 y3.E]]) rfl ⟨rvS rfl Try.isAgg30 Try.sizeOf30 rfl (hS9.bx (i := 0) ⟨rfl, rfl⟩), trivial⟩ rfl ⟨_, rfl, _, (Im.trans im1 (Im.trans im2 (Im.trans im4 (Im.trans im8 im9)))), ⟨_, _, rfl, hS9.sel [1] rfl, (h2.mono im9), trivial⟩⟩)

set_option maxRecDepth 100000 in
set_option maxHeartbeats 1000000 in
theorem ref08_Find_sim {g : World} {T0 : Nat → Prop} {w0 : World} {R : Assn} {p0 : List ref08Type} {a1 : Option Addr} {c1 : Nat} {p1 : List UInt8} {r : Int} (hS : Sep g T0 w0 [R]) (h1 : SlR rref08Type T0 w0 (.slice a1 (List.length p0) c1) p0) (hm : ref08_Find p0 p1 = some r) :
    Calls Try.prog 17 #[.slice a1 (List.length p0) c1, .string ⟨p1.toArray⟩] w0 (RetS T0 w0 fun T w v => v = .int .i64 r ∧ Sep g T w [R] ∧ True) := by
  refine enter (args := [.slice a1 (List.length p0) c1, .string ⟨p1.toArray⟩]) Try.func17 rfl Try.ntmps17 rfl fun J => ?_
  unfold ref08_Find at hm
  refine sq2 ?_
  refine rg (pv (r_zi rfl) (nil (t_then ?_)))
  refine sq2 ?_
  refine sq2 ?_
  refine rg (pv (r_zi rfl) (nil (t_then ?_)))
  obtain ⟨o1, ho1, hq1⟩ := bindS hm
  obtain ⟨bd1, hbd1, ho1⟩ := loop_open ho1
  refine blk (wp_loop_ghost (fun m a w1 => ∃ (J : Nat → Value) (T1 : Nat → Prop) (x1 : Int), a = env 28 J [(0, .slice a1 (List.length p0) c1), (1, .string ⟨p1.toArray⟩), (5, .int .i64 x1)] ∧ Im T0 w0 T1 w1 ∧ Sep g T1 w1 [R] ∧ loopM bd1 m x1 = some o1) NN ⟨_, _, 0, env_has ⟨rfl, rfl, rfl, trivial⟩, Im.refl, hS.sel [0] rfl, ho1⟩ ?_)
  rintro m _ w1 ⟨J, T1, x1, rfl, im1, hS1, ho1⟩
  obtain ⟨m1, z1, rfl, hm, hn1⟩ := loop_round ho1
  rw [hbd1] at hm
  refine sq2 ?_
  refine sq2 ?_
  refine rg (pv (r_mi rfl) (pv (r_ms rfl) (pv (r_ln rfl Try.underlying28) (pv (r_ib rfl rfl rfl) (nil (t_then ?_))))))
  refine cnd rfl (fun hb1 => ?_) (fun hb1 => ?_)
  · have hm := ctrue hb1 hm
    refine skp (t_then ?_)
    refine sq2 ?_
    refine blk ?_
    refine sq2 ?_
    obtain ⟨u1, hx1, hm⟩ := bindS hm
    obtain ⟨b1, of1, cs1, k1, cp1, hv1, hp1, hl1, he1, hr1, hc1, hT1⟩ := (h1.mono im1).ixT hx1 rfl
    obtain ⟨a2, c2, rfl, h2⟩ := rref08Type_open hr1
    refine rg (pv (r_ms rfl) (pv (r_mi rfl) (pv (r_ixe hv1 rfl Try.underlying28 Try.sizeOf51 hp1 hl1 he1) (pv (r_fa rfl Try.underlying51 rfl Try.sizeOf3 rfl) (pv (r_ld rfl Try.isAgg3 (hc1.get (j := 0) rfl)) (pv (r_ib rfl rfl rfl) (pv (r_mb rfl) (?_))))))))
    rcases Bool.eq_false_or_eq_true (u1.Kind == 5) with hb2 | hb2
    · have hm := ctrue hb2 hm
      obtain ⟨u2, hx2, hm⟩ := bindS hm
      obtain ⟨b2, of2, cs2, k2, cp2, hv2, hp2, hl2, he2, hr2, hc2, hT2⟩ := (h1.mono im1).ixT hx2 rfl
      obtain ⟨a3, c3, rfl, h3⟩ := rref08Type_open hr2
      refine gT (d0 := 18) rfl rfl hb2 (pv (r_ms rfl) (gT (d0 := 18) rfl rfl hb2 (pv (r_mi rfl) (gT (d0 := 18) rfl rfl hb2 (pv (r_ixe hv2 rfl Try.underlying28 Try.sizeOf51 hp2 hl2 he2) (gT (d0 := 18) rfl rfl hb2 (pv (r_fa rfl Try.underlying51 rfl Try.sizeOf9 rfl) (gT (d0 := 18) rfl rfl hb2 (pv (r_ld rfl Try.isAgg9 (hc2.get (j := 3) rfl)) (gT (d0 := 18) rfl rfl hb2 (pv (r_mt rfl) (gT (d0 := 18) rfl rfl hb2 (pv (r_sqL rfl rfl) (pv (r_pkt rfl hb2 rfl) (nil (t_thenR [(0, .slice a1 (List.length p0) c1), (1, .string ⟨p1.toArray⟩), (5, .int .i64 x1), (26, .bool (decide (u2.Name = p1)))] ⟨rfl, rfl, rfl, rfl, trivial⟩ fun J => ?_))))))))))))))))
      refine cnd rfl (fun hb3 => ?_) (fun hb3 => ?_)
      · have hm := ctrue hb3 hm
        refine sq2 ?_
        refine rg (pv (r_mi rfl) (pv (r_zi rfl) (nil (t_thenR [(4, .int .i64 x1)] ⟨rfl, trivial⟩ fun J => ?_))))
        have hm := Option.some.inj hm
        subst hm
        have hn1 : _ = Lp.ret _ := hn1
        subst hn1
        have hm := thn_ret hq1
        have hm := Option.some.inj hm
        subst hm
        exact rtn (r_blk (r_then (r_then (r_blk (r_then (ret1 rfl rfl ⟨_, rfl, _, im1, ⟨rfl, hS1.sel [0] rfl, trivial⟩⟩))))))
      · have hm := cfalse hb3 hm
        refine skp (t_blk (t_then ?_))
        have hm := Option.some.inj hm
        subst hm
        exact rg (pv (r_mi rfl) (pv (r_ib rfl rfl rfl) (pv (r_zi rfl) (nil (t_then ⟨m1, Nat.lt_succ_self _, _, _, (IntKind.wrap .i64 (x1 + 1)), env_has ⟨rfl, rfl, rfl, trivial⟩, im1, hS1.sel [0] rfl, hn1⟩)))))
    · have hm := cfalse hb2 hm
      refine gF (d0 := 18) rfl rfl (by rw [hb2]; rfl) (gF (d0 := 18) rfl rfl (by rw [hb2]; rfl) (gF (d0 := 18) rfl rfl (by rw [hb2]; rfl) (gF (d0 := 18) rfl rfl (by rw [hb2]; rfl) (gF (d0 := 18) rfl rfl (by rw [hb2]; rfl) (gF (d0 := 18) rfl rfl (by rw [hb2]; rfl) (gF (d0 := 18) rfl rfl (by rw [hb2]; rfl) (pv (r_pkf rfl hb2 rfl) (nil (t_thenR [(0, .slice a1 (List.length p0) c1), (1, .string ⟨p1.toArray⟩), (5, .int .i64 x1), (26, .bool false)] ⟨rfl, rfl, rfl, rfl, trivial⟩ fun J => ?_)))))))))
      refine cnd (b := false) rfl (fun h => nomatch h) (fun _ => ?_)
      refine skp (t_blk (t_then ?_))
      have hm := Option.some.inj hm
      subst hm
      exact rg (pv (r_mi rfl) (pv (r_ib rfl rfl rfl) (pv (r_zi rfl) (nil (t_then ⟨m1, Nat.lt_succ_self _, _, _, (IntKind.wrap .i64 (x1 + 1)), env_has ⟨rfl, rfl, rfl, trivial⟩, im1, hS1.sel [0] rfl, hn1⟩)))))
  · have hm := cfalse hb1 hm
    have hm := Option.some.inj hm
    subst hm
    have hn1 : _ = Lp.brk _ := hn1
    subst hn1
    have hm := thn_brk hq1
    refine xt (x_then (x_then (x_eq (t_thenR [] trivial fun J => ?_))))
    refine sq2 ?_
    refine rg (pv (r_zi rfl) (nil (t_then ?_)))
    have hm := Option.some.inj hm
    subst hm
    exact rtn (ret1 rfl rfl ⟨_, rfl, _, im1, ⟨rfl, hS1.sel [0] rfl, trivial⟩⟩)

set_option maxRecDepth 100000 in
set_option maxHeartbeats 1000000 in
theorem ref08_Open_sim {g : World} {T0 : Nat → Prop} {w0 : World} {R : Assn} {p0 : List ref08Type} {a1 : Option Addr} {c1 : Nat} {p1 : List UInt8} {r : ref08Made} (hS : Sep g T0 w0 [R]) (h1 : SlR rref08Type T0 w0 (.slice a1 (List.length p0) c1) p0) (hm : ref08_Open p0 p1 = some r) :
    Calls Try.prog 31 #[.slice a1 (List.length p0) c1, .string ⟨p1.toArray⟩] w0 (RetS T0 w0 fun T w v => ∃ (a3 : Option Addr) (c3 : Nat), v = .agg #[.int .i64 r.N, .slice a3 (List.length r.T) c3, .int .i64 r.E] ∧ Sep g T w [R] ∧ SlR rref08Type T w (.slice a3 (List.length r.T) c3) r.T ∧ True) := by
  refine enter (args := [.slice a1 (List.length p0) c1, .string ⟨p1.toArray⟩]) Try.func31 rfl Try.ntmps31 rfl fun J => ?_
  unfold ref08_Open at hm
  refine sq2 ?_
  refine rg (wl rfl (alS (zs := [.int .i64 0, .slice none 0 0, .int .i64 0]) Try.zeroValue30 rfl hS fun w1 b1 im1 hS1 => ?_))
  refine nil (t_then ?_)
  refine sq2 ?_
  refine sq2 ?_
  refine rg (pv (r_mt rfl) (pv (r_sqL rfl rfl) (nil (t_then ?_))))
  refine cnd rfl (fun hb1 => ?_) (fun hb1 => ?_)
  · have hm := ctrue hb1 hm
    refine sq2 ?_
    refine rg (pv (r_ms rfl) (pv (r_bd (by kernel_rfl) rfl (u := .agg #[.int .i64 0, .slice a1 (List.length p0) c1, .int .i64 1])) (wl rfl (st0B (q := 0) hS1 ⟨rfl, rfl⟩ rfl rfl rfl Try.sizeOf30 rfl rfl rfl fun w2 im2 hS2 => ?_))))
    have hS2 : Sep g T0 w2 [boxA b1 [.int .i64 0, .slice a1 (List.length p0) c1, .int .i64 1], R] := hS2
    refine nil (t_thenR [(4, .pointer (some ⟨b1, 0, none⟩))] ⟨rfl, trivial⟩ fun J => ?_)
    have hm := Option.some.inj hm
    subst hm
    exact rtn (r_then (retN (vs := [.agg #[.int .i64 0, .slice a1 (List.length p0) c1, .int .i64 1]]) rfl ⟨rvS rfl Try.isAgg30 Try.sizeOf30 rfl (hS2.bx (i := 0) ⟨rfl, rfl⟩), trivial⟩ rfl ⟨_, rfl, _, (Im.trans im1 im2), ⟨_, _, rfl, hS2.sel [1] rfl, (h1.mono (Im.trans im1 im2)), trivial⟩⟩))
  · have hm := cfalse hb1 hm
    refine skp (t_then ?_)
    refine sq2 ?_
    refine sq2 ?_
    obtain ⟨y1, hx1, hm⟩ := bindS hm
    refine rg (pv (r_ms rfl) (pv (r_mt rfl) (wl rfl (calS cf17 rfl (ref08_Find_sim (p0 := p0) (p1 := p1) (hS1.bun [0, 1] [] rfl) (h1.mono im1) hx1) rfl fun v1 T1 w3 im3 rv1 => ?_))))
    obtain ⟨rfl, hS3, _⟩ := rv1
    have hS3 : Sep g T1 w3 [boxA b1 [.int .i64 0, .slice none 0 0, .int .i64 0], R] := hS3.unb
    refine pv (r_ib rfl rfl rfl) (nil (t_thenR [(0, .slice a1 (List.length p0) c1), (1, .string ⟨p1.toArray⟩), (4, .pointer (some ⟨b1, 0, none⟩)), (12, .bool (decide (0 ≤ y1)))] ⟨rfl, rfl, rfl, rfl, trivial⟩ fun J => ?_))
    refine cnd rfl (fun hb2 => ?_) (fun hb2 => ?_)
    · have hm := ctrue hb2 hm
      refine sq2 ?_
      refine rg (pv (r_ms rfl) (pv (r_bd (by kernel_rfl) rfl (u := .agg #[.int .i64 0, .slice a1 (List.length p0) c1, .int .i64 6])) (wl rfl (st0B (q := 0) hS3 ⟨rfl, rfl⟩ rfl rfl rfl Try.sizeOf30 rfl rfl rfl fun w4 im4 hS4 => ?_))))
      have hS4 : Sep g T1 w4 [boxA b1 [.int .i64 0, .slice a1 (List.length p0) c1, .int .i64 6], R] := hS4
      refine nil (t_thenR [(4, .pointer (some ⟨b1, 0, none⟩))] ⟨rfl, trivial⟩ fun J => ?_)
      have hm := Option.some.inj hm
      subst hm
      exact rtn (r_then (retN (vs := [.agg #[.int .i64 0, .slice a1 (List.length p0) c1, .int .i64 6]]) rfl ⟨rvS rfl Try.isAgg30 Try.sizeOf30 rfl (hS4.bx (i := 0) ⟨rfl, rfl⟩), trivial⟩ rfl ⟨_, rfl, _, (Im.trans im1 (Im.trans im3 im4)), ⟨_, _, rfl, hS4.sel [1] rfl, (h1.mono (Im.trans im1 (Im.trans im3 im4))), trivial⟩⟩))
    · have hm := cfalse hb2 hm
      refine skp (t_then ?_)
      refine sq2 ?_
      obtain ⟨y2, hx2, hm⟩ := bindS hm
      refine rg (pv (r_ms rfl) (pv (r_mt rfl) (pv (r_bd (by kernel_rfl) rfl (u := .agg #[.int .i64 5, .int .i64 0, .int .i64 0, .string ⟨p1.toArray⟩, .slice none 0 0, .bool true])) (wl rfl (calS cf41 rfl (ref08_put_sim (p0 := p0) (p1 := (⟨5, 0, 0, p1, [], true⟩ : ref08Type)) (hS3.bun [0, 1] [] rfl) (h1.mono (Im.trans im1 im3)) SlR_nil hx2) rfl fun v2 T2 w5 im5 rv2 => ?_)))))
      obtain ⟨a2, c2, rfl, hS5, h2, _⟩ := rv2
      have hS5 : Sep g T2 w5 [boxA b1 [.int .i64 0, .slice none 0 0, .int .i64 0], R] := hS5.unb
      refine wl rfl (st0B (q := 0) hS5 ⟨rfl, rfl⟩ rfl rfl rfl Try.sizeOf30 rfl rfl rfl fun w6 im6 hS6 => ?_)
      have hS6 : Sep g T2 w6 [boxA b1 [.int .i64 y2.N, .slice a2 (List.length y2.T) c2, .int .i64 y2.E], R] := hS6
      refine nil (t_thenR [(4, .pointer (some ⟨b1, 0, none⟩))] ⟨rfl, trivial⟩ fun J => ?_)
      have hm := Option.some.inj hm
      subst hm
      exact rtn (retN (vs := [.agg #[.int .i64 y2.N, .slice a2 (List.length y2.T) c2, .int .i64 y2.E]]) rfl ⟨rvS rfl Try.isAgg30 Try.sizeOf30 rfl (hS6.bx (i := 0) ⟨rfl, rfl⟩), trivial⟩ rfl ⟨_, rfl, _, (Im.trans im1 (Im.trans im3 (Im.trans im5 im6))), ⟨_, _, rfl, hS6.sel [1] rfl, (h2.mono im6), trivial⟩⟩)

set_option maxRecDepth 100000 in
set_option maxHeartbeats 1000000 in
theorem ref08_may_sim {g : World} {T0 : Nat → Prop} {w0 : World} {R : Assn} {p0 : List ref08Type} {a1 : Option Addr} {c1 : Nat} {p1 : List GField} {a2 : Option Addr} {c2 : Nat} {r : Int} (hS : Sep g T0 w0 [R]) (h1 : SlR rref08Type T0 w0 (.slice a1 (List.length p0) c1) p0) (h2 : SlR rGField T0 w0 (.slice a2 (List.length p1) c2) p1) (hm : ref08_may p0 p1 = some r) :
    Calls Try.prog 42 #[.slice a1 (List.length p0) c1, .slice a2 (List.length p1) c2] w0 (RetS T0 w0 fun T w v => v = .int .i64 r ∧ Sep g T w [R] ∧ True) := by
  refine enter (args := [.slice a1 (List.length p0) c1, .slice a2 (List.length p1) c2]) Try.func42 rfl Try.ntmps42 rfl fun J => ?_
  unfold ref08_may at hm
  refine sq2 ?_
  refine rg (pv (r_zi rfl) (nil (t_then ?_)))
  refine sq2 ?_
  refine sq2 ?_
  refine rg (pv (r_ms rfl) (pv (r_ln rfl Try.underlying49) (pv (r_ib rfl rfl rfl) (nil (t_then ?_)))))
  refine cnd rfl (fun hb1 => ?_) (fun hb1 => ?_)
  · have hm := ctrue hb1 hm
    refine sq2 ?_
    refine rg (pv (r_zi rfl) (nil (t_thenR [(4, .int .i64 1)] ⟨rfl, trivial⟩ fun J => ?_)))
    have hm := Option.some.inj hm
    subst hm
    exact rtn (r_then (ret1 rfl rfl ⟨_, rfl, _, Im.refl, ⟨rfl, hS.sel [0] rfl, trivial⟩⟩))
  · have hm := cfalse hb1 hm
    refine skp (t_then ?_)
    refine sq2 ?_
    refine sq2 ?_
    refine rg (pv (r_zi rfl) (nil (t_then ?_)))
    obtain ⟨o1, ho1, hq1⟩ := bindS hm
    obtain ⟨bd1, hbd1, ho1⟩ := loop_open ho1
    refine blk (wp_loop_ghost (fun m a w1 => ∃ (J : Nat → Value) (T1 : Nat → Prop) (x1 : Int), a = env 75 J [(0, .slice a1 (List.length p0) c1), (1, .slice a2 (List.length p1) c2), (5, .int .i64 x1)] ∧ Im T0 w0 T1 w1 ∧ Sep g T1 w1 [R] ∧ loopM bd1 m x1 = some o1) NN ⟨_, _, 0, env_has ⟨rfl, rfl, rfl, trivial⟩, Im.refl, hS.sel [0] rfl, ho1⟩ ?_)
    rintro m _ w1 ⟨J, T1, x1, rfl, im1, hS1, ho1⟩
    obtain ⟨m1, z1, rfl, hm, hn1⟩ := loop_round ho1
    rw [hbd1] at hm
    refine sq2 ?_
    refine sq2 ?_
    refine rg (pv (r_mi rfl) (pv (r_ms rfl) (pv (r_ln rfl Try.underlying49) (pv (r_ib rfl rfl rfl) (nil (t_then ?_))))))
    refine cnd rfl (fun hb2 => ?_) (fun hb2 => ?_)
    · have hm := ctrue hb2 hm
      refine skp (t_then ?_)
      refine sq2 ?_
      refine blk ?_
      refine sq2 ?_
      obtain ⟨u1, hx1, hm⟩ := bindS hm
      obtain ⟨b1, of1, cs1, k1, cp1, hv1, hp1, hl1, he1, hr1, hc1, hT1⟩ := (h2.mono im1).ixT hx1 rfl
      cases rGField_open hr1
      refine rg (pv (r_ms rfl) (pv (r_mi rfl) (pv (r_ixe hv1 rfl Try.underlying49 Try.sizeOf52 hp1 hl1 he1) (pv (r_fa rfl Try.underlying52 rfl Try.sizeOf9 rfl) (pv (r_ld rfl Try.isAgg9 (hc1.get (j := 0) rfl)) (pv (r_sqL rfl rfl) (nil (t_thenR [(0, .slice a1 (List.length p0) c1), (1, .slice a2 (List.length p1) c2), (5, .int .i64 x1), (24, .bool (decide (u1.Name = ([] : List UInt8))))] ⟨rfl, rfl, rfl, rfl, trivial⟩ fun J => ?_))))))))
      refine cnd rfl (fun hb3 => ?_) (fun hb3 => ?_)
      · have hm := ctrue hb3 hm
        refine sq2 ?_
        refine rg (pv (r_zi rfl) (nil (t_then ?_)))
        have hm := Option.some.inj hm
        subst hm
        have hn1 : _ = Lp.ret _ := hn1
        subst hn1
        have hm := thn_ret hq1
        have hm := Option.some.inj hm
        subst hm
        exact rtn (r_blk (r_then (r_then (r_blk (r_then (ret1 rfl rfl ⟨_, rfl, _, im1, ⟨rfl, hS1.sel [0] rfl, trivial⟩⟩))))))
      · have hm := cfalse hb3 hm
        refine skp (t_blk (t_then ?_))
        have hm := Option.some.inj hm
        subst hm
        exact rg (pv (r_mi rfl) (pv (r_ib rfl rfl rfl) (pv (r_zi rfl) (nil (t_then ⟨m1, Nat.lt_succ_self _, _, _, (IntKind.wrap .i64 (x1 + 1)), env_has ⟨rfl, rfl, rfl, trivial⟩, im1, hS1.sel [0] rfl, hn1⟩)))))
    · have hm := cfalse hb2 hm
      have hm := Option.some.inj hm
      subst hm
      have hn1 : _ = Lp.brk _ := hn1
      subst hn1
      have hm := thn_brk hq1
      refine xt (x_then (x_then (x_eq (t_thenR [(0, .slice a1 (List.length p0) c1), (1, .slice a2 (List.length p1) c2)] ⟨rfl, rfl, trivial⟩ fun J => ?_))))
      refine sq2 ?_
      refine sq2 ?_
      refine rg (pv (r_zi rfl) (nil (t_then ?_)))
      obtain ⟨o1, ho1, hq1⟩ := bindS hm
      obtain ⟨bd1, hbd1, ho1⟩ := loop_open ho1
      refine blk (wp_loop_ghost (fun m a w2 => ∃ (J : Nat → Value) (T2 : Nat → Prop) (x2 : Int), a = env 75 J [(0, .slice a1 (List.length p0) c1), (1, .slice a2 (List.length p1) c2), (6, .int .i64 x2)] ∧ Im T1 w1 T2 w2 ∧ Sep g T2 w2 [R] ∧ loopM bd1 m x2 = some o1) NN ⟨_, _, 0, env_has ⟨rfl, rfl, rfl, trivial⟩, Im.refl, hS1.sel [0] rfl, ho1⟩ ?_)
      rintro m _ w2 ⟨J, T2, x2, rfl, im2, hS2, ho1⟩
      obtain ⟨m1, z1, rfl, hm, hn1⟩ := loop_round ho1
      rw [hbd1] at hm
      refine sq2 ?_
      refine sq2 ?_
      refine rg (pv (r_mi rfl) (pv (r_ms rfl) (pv (r_ln rfl Try.underlying49) (pv (r_ib rfl rfl rfl) (nil (t_then ?_))))))
      refine cnd rfl (fun hb4 => ?_) (fun hb4 => ?_)
      · have hm := ctrue hb4 hm
        refine skp (t_then ?_)
        refine sq2 ?_
        refine blk ?_
        refine sq2 ?_
        obtain ⟨u2, hx2, hm⟩ := bindS hm
        obtain ⟨b2, of2, cs2, k2, cp2, hv2, hp2, hl2, he2, hr2, hc2, hT2⟩ := (h2.mono (Im.trans im1 im2)).ixT hx2 rfl
        cases rGField_open hr2
        obtain ⟨y1, hx3, hm⟩ := bindS hm
        refine rg (pv (r_ms rfl) (pv (r_ms rfl) (pv (r_mi rfl) (pv (r_ixe hv2 rfl Try.underlying49 Try.sizeOf52 hp2 hl2 he2) (pv (r_fa rfl Try.underlying52 rfl Try.sizeOf3 rfl) (pv (r_ld rfl Try.isAgg3 (hc2.get (j := 1) rfl)) (wl rfl (calS cf19 rfl (ref08_Is_sim (p0 := p0) (p1 := u2.Type_) (hS2.bun [0] [] rfl) (h1.mono (Im.trans im1 im2)) hx3) rfl fun v1 T3 w3 im3 rv1 => ?_))))))))
        obtain ⟨rfl, hS3, _⟩ := rv1
        have hS3 : Sep g T3 w3 [R] := hS3.unb
        refine pv (r_nt rfl) (nil (t_thenR [(0, .slice a1 (List.length p0) c1), (1, .slice a2 (List.length p1) c2), (6, .int .i64 x2), (38, .bool (!y1))] ⟨rfl, rfl, rfl, rfl, trivial⟩ fun J => ?_))
        refine cnd rfl (fun hb5 => ?_) (fun hb5 => ?_)
        · have hm := ctrue hb5 hm
          refine sq2 ?_
          refine rg (pv (r_zi rfl) (nil (t_then ?_)))
          have hm := Option.some.inj hm
          subst hm
          have hn1 : _ = Lp.ret _ := hn1
          subst hn1
          have hm := thn_ret hq1
          have hm := Option.some.inj hm
          subst hm
          exact rtn (r_blk (r_then (r_then (r_blk (r_then (ret1 rfl rfl ⟨_, rfl, _, (Im.trans im1 (Im.trans im2 im3)), ⟨rfl, hS3.sel [0] rfl, trivial⟩⟩))))))
        · have hm := cfalse hb5 hm
          refine skp (t_blk (t_then ?_))
          have hm := Option.some.inj hm
          subst hm
          exact rg (pv (r_mi rfl) (pv (r_ib rfl rfl rfl) (pv (r_zi rfl) (nil (t_then ⟨m1, Nat.lt_succ_self _, _, _, (IntKind.wrap .i64 (x2 + 1)), env_has ⟨rfl, rfl, rfl, trivial⟩, (Im.trans im2 im3), hS3.sel [0] rfl, hn1⟩)))))
      · have hm := cfalse hb4 hm
        have hm := Option.some.inj hm
        subst hm
        have hn1 : _ = Lp.brk _ := hn1
        subst hn1
        have hm := thn_brk hq1
        refine xt (x_then (x_then (x_eq (t_thenR [(0, .slice a1 (List.length p0) c1), (1, .slice a2 (List.length p1) c2)] ⟨rfl, rfl, trivial⟩ fun J => ?_))))
        refine sq2 ?_
        refine sq2 ?_
        refine rg (pv (r_zi rfl) (nil (t_then ?_)))
        obtain ⟨o1, ho1, hq1⟩ := bindS hm
        obtain ⟨bd1, hbd1, ho1⟩ := loop_open ho1
        refine blk (wp_loop_ghost (fun m a w4 => ∃ (J : Nat → Value) (T4 : Nat → Prop) (x3 : Int), a = env 75 J [(0, .slice a1 (List.length p0) c1), (1, .slice a2 (List.length p1) c2), (7, .int .i64 x3)] ∧ Im T2 w2 T4 w4 ∧ Sep g T4 w4 [R] ∧ loopM bd1 m x3 = some o1) NN ⟨_, _, 0, env_has ⟨rfl, rfl, rfl, trivial⟩, Im.refl, hS2.sel [0] rfl, ho1⟩ ?_)
        rintro m _ w4 ⟨J, T4, x3, rfl, im4, hS4, ho1⟩
        obtain ⟨m1, z1, rfl, hm, hn1⟩ := loop_round ho1
        rw [hbd1] at hm
        refine sq2 ?_
        refine sq2 ?_
        refine rg (pv (r_mi rfl) (pv (r_ms rfl) (pv (r_ln rfl Try.underlying49) (pv (r_ib rfl rfl rfl) (nil (t_then ?_))))))
        refine cnd rfl (fun hb6 => ?_) (fun hb6 => ?_)
        · have hm := ctrue hb6 hm
          refine skp (t_then ?_)
          refine sq2 ?_
          refine blk ?_
          refine sq2 ?_
          obtain ⟨u3, hx4, hm⟩ := bindS hm
          obtain ⟨b3, of3, cs3, k3, cp3, hv3, hp3, hl3, he3, hr3, hc3, hT3⟩ := (h2.mono (Im.trans im1 (Im.trans im2 im4))).ixT hx4 rfl
          cases rGField_open hr3
          obtain ⟨y2, hx5, hm⟩ := bindS hm
          refine rg (pv (r_ms rfl) (pv (r_ms rfl) (pv (r_mi rfl) (pv (r_ixe hv3 rfl Try.underlying49 Try.sizeOf52 hp3 hl3 he3) (pv (r_fa rfl Try.underlying52 rfl Try.sizeOf3 rfl) (pv (r_ld rfl Try.isAgg3 (hc3.get (j := 1) rfl)) (wl rfl (calS cf23 rfl (ref08_Size_sim (p0 := p0) (p1 := u3.Type_) (hS4.bun [0] [] rfl) (h1.mono (Im.trans im1 (Im.trans im2 im4))) hx5) rfl fun v2 T5 w5 im5 rv2 => ?_))))))))
          obtain ⟨rfl, hS5, _⟩ := rv2
          have hS5 : Sep g T5 w5 [R] := hS5.unb
          refine pv (r_ib rfl rfl rfl) (nil (t_thenR [(0, .slice a1 (List.length p0) c1), (1, .slice a2 (List.length p1) c2), (7, .int .i64 x3), (52, .bool (y2 == 0))] ⟨rfl, rfl, rfl, rfl, trivial⟩ fun J => ?_))
          refine cnd rfl (fun hb7 => ?_) (fun hb7 => ?_)
          · have hm := ctrue hb7 hm
            refine sq2 ?_
            refine rg (pv (r_zi rfl) (nil (t_then ?_)))
            have hm := Option.some.inj hm
            subst hm
            have hn1 : _ = Lp.ret _ := hn1
            subst hn1
            have hm := thn_ret hq1
            have hm := Option.some.inj hm
            subst hm
            exact rtn (r_blk (r_then (r_then (r_blk (r_then (ret1 rfl rfl ⟨_, rfl, _, (Im.trans im1 (Im.trans im2 (Im.trans im4 im5))), ⟨rfl, hS5.sel [0] rfl, trivial⟩⟩))))))
          · have hm := cfalse hb7 hm
            refine skp (t_blk (t_then ?_))
            have hm := Option.some.inj hm
            subst hm
            exact rg (pv (r_mi rfl) (pv (r_ib rfl rfl rfl) (pv (r_zi rfl) (nil (t_then ⟨m1, Nat.lt_succ_self _, _, _, (IntKind.wrap .i64 (x3 + 1)), env_has ⟨rfl, rfl, rfl, trivial⟩, (Im.trans im4 im5), hS5.sel [0] rfl, hn1⟩)))))
        · have hm := cfalse hb6 hm
          have hm := Option.some.inj hm
          subst hm
          have hn1 : _ = Lp.brk _ := hn1
          subst hn1
          have hm := thn_brk hq1
          refine xt (x_then (x_then (x_eq (t_thenR [(1, .slice a2 (List.length p1) c2)] ⟨rfl, trivial⟩ fun J => ?_))))
          refine sq2 ?_
          refine sq2 ?_
          refine rg (pv (r_zi rfl) (nil (t_then ?_)))
          obtain ⟨o1, ho1, hq1⟩ := bindS hm
          obtain ⟨bd1, hbd1, ho1⟩ := loop_open ho1
          refine blk (wp_loop_ghost (fun m a w6 => ∃ (J : Nat → Value) (T6 : Nat → Prop) (x4 : Int), a = env 75 J [(1, .slice a2 (List.length p1) c2), (8, .int .i64 x4)] ∧ Im T4 w4 T6 w6 ∧ Sep g T6 w6 [R] ∧ loopM bd1 m x4 = some o1) NN ⟨_, _, 0, env_has ⟨rfl, rfl, trivial⟩, Im.refl, hS4.sel [0] rfl, ho1⟩ ?_)
          rintro m _ w6 ⟨J, T6, x4, rfl, im6, hS6, ho1⟩
          obtain ⟨m1, z1, rfl, hm, hn1⟩ := loop_round ho1
          rw [hbd1] at hm
          refine sq2 ?_
          refine sq2 ?_
          refine rg (pv (r_mi rfl) (pv (r_ms rfl) (pv (r_ln rfl Try.underlying49) (pv (r_ib rfl rfl rfl) (nil (t_then ?_))))))
          refine cnd rfl (fun hb8 => ?_) (fun hb8 => ?_)
          · have hm := ctrue hb8 hm
            refine skp (t_then ?_)
            refine sq2 ?_
            refine blk ?_
            refine sq2 ?_
            refine rg (pv (r_zi rfl) (nil (t_then ?_)))
            obtain ⟨o2, ho2, hq2⟩ := bindS hm
            obtain ⟨bd2, hbd2, ho2⟩ := loop_open ho2
            refine blk (wp_loop_ghost (fun m a w7 => ∃ (J : Nat → Value) (T7 : Nat → Prop) (x5 : Int), a = env 75 J [(1, .slice a2 (List.length p1) c2), (8, .int .i64 x4), (9, .int .i64 x5)] ∧ Im T6 w6 T7 w7 ∧ Sep g T7 w7 [R] ∧ loopM bd2 m x5 = some o2) NN ⟨_, _, 0, env_has ⟨rfl, rfl, rfl, trivial⟩, Im.refl, hS6.sel [0] rfl, ho2⟩ ?_)
            rintro m _ w7 ⟨J, T7, x5, rfl, im7, hS7, ho2⟩
            obtain ⟨m2, z2, rfl, hm, hn2⟩ := loop_round ho2
            rw [hbd2] at hm
            refine sq2 ?_
            refine sq2 ?_
            refine rg (pv (r_mi rfl) (pv (r_mi rfl) (pv (r_ib rfl rfl rfl) (nil (t_then ?_)))))
            refine cnd rfl (fun hb9 => ?_) (fun hb9 => ?_)
            · have hm := ctrue hb9 hm
              refine skp (t_then ?_)
              refine sq2 ?_
              refine blk ?_
              refine sq2 ?_
              obtain ⟨u4, hx6, hm⟩ := bindS hm
              obtain ⟨b4, of4, cs4, k4, cp4, hv4, hp4, hl4, he4, hr4, hc4, hT4⟩ := (h2.mono (Im.trans im1 (Im.trans im2 (Im.trans im4 (Im.trans im6 im7))))).ixT hx6 rfl
              cases rGField_open hr4
              obtain ⟨u5, hx7, hm⟩ := bindS hm
              obtain ⟨b5, of5, cs5, k5, cp5, hv5, hp5, hl5, he5, hr5, hc5, hT5⟩ := (h2.mono (Im.trans im1 (Im.trans im2 (Im.trans im4 (Im.trans im6 im7))))).ixT hx7 rfl
              cases rGField_open hr5
              refine rq mix (by kernel_rfl) hS7.lt (qv (fun _ hq => r_ms rfl) (qv (fun _ hq => r_mi rfl) (qv (fun _ hq => r_ixe hv4 rfl Try.underlying49 Try.sizeOf52 hp4 hl4 he4) (qv (fun _ hq => r_fa rfl Try.underlying52 rfl Try.sizeOf9 rfl) (qv (fun _ hq => r_ld rfl Try.isAgg9 (hq.cell (hc4.get (j := 0) rfl))) (qv (fun _ hq => r_ms rfl) (qv (fun _ hq => r_mi rfl) (qv (fun _ hq => r_ixe hv5 rfl Try.underlying49 Try.sizeOf52 hp5 hl5 he5) (qv (fun _ hq => r_fa rfl Try.underlying52 rfl Try.sizeOf9 rfl) (qv (fun _ hq => r_ld rfl Try.isAgg9 (hq.cell (hc5.get (j := 0) rfl))) (qv (fun _ hq => r_sqL rfl rfl) (qn fun w8 T8 i1 => ?_))))))))))))
              have im8 := i1.imm
              have hS8 := hS7.keep i1 (fun _ h => h)
              refine t_thenR [(1, .slice a2 (List.length p1) c2), (8, .int .i64 x4), (9, .int .i64 x5), (74, .bool (decide (u4.Name = u5.Name)))] ⟨rfl, rfl, rfl, rfl, trivial⟩ fun J => ?_
              refine cnd rfl (fun hb10 => ?_) (fun hb10 => ?_)
              · have hm := ctrue hb10 hm
                refine sq2 ?_
                refine rg (pv (r_zi rfl) (nil (t_then ?_)))
                have hm := Option.some.inj hm
                subst hm
                have hn2 : _ = Lp.ret _ := hn2
                subst hn2
                have hm := thn_ret hq2
                have hm := Option.some.inj hm
                subst hm
                have hn1 : _ = Lp.ret _ := hn1
                subst hn1
                have hm := thn_ret hq1
                have hm := Option.some.inj hm
                subst hm
                exact rtn (r_blk (r_then (r_then (r_blk (r_blk (r_then (r_then (r_blk (r_then (ret1 rfl rfl ⟨_, rfl, _, (Im.trans im1 (Im.trans im2 (Im.trans im4 (Im.trans im6 (Im.trans im7 im8))))), ⟨rfl, hS8.sel [0] rfl, trivial⟩⟩))))))))))
              · have hm := cfalse hb10 hm
                refine skp (t_blk (t_then ?_))
                have hm := Option.some.inj hm
                subst hm
                exact rg (pv (r_mi rfl) (pv (r_ib rfl rfl rfl) (pv (r_zi rfl) (nil (t_then ⟨m2, Nat.lt_succ_self _, _, _, (IntKind.wrap .i64 (x5 + 1)), env_has ⟨rfl, rfl, rfl, trivial⟩, (Im.trans im7 im8), hS8.sel [0] rfl, hn2⟩)))))
            · have hm := cfalse hb9 hm
              have hm := Option.some.inj hm
              subst hm
              have hn2 : _ = Lp.brk _ := hn2
              subst hn2
              have hm := thn_brk hq2
              refine xt (x_then (x_then (x_eq (t_blk (t_then ?_)))))
              have hm := Option.some.inj hm
              subst hm
              exact rg (pv (r_mi rfl) (pv (r_ib rfl rfl rfl) (pv (r_zi rfl) (nil (t_then ⟨m1, Nat.lt_succ_self _, _, _, (IntKind.wrap .i64 (x4 + 1)), env_has ⟨rfl, rfl, trivial⟩, (Im.trans im6 im7), hS7.sel [0] rfl, hn1⟩)))))
          · have hm := cfalse hb8 hm
            have hm := Option.some.inj hm
            subst hm
            have hn1 : _ = Lp.brk _ := hn1
            subst hn1
            have hm := thn_brk hq1
            refine xt (x_then (x_then (x_eq (t_thenR [] trivial fun J => ?_))))
            refine sq2 ?_
            refine rg (pv (r_zi rfl) (nil (t_then ?_)))
            have hm := Option.some.inj hm
            subst hm
            exact rtn (ret1 rfl rfl ⟨_, rfl, _, (Im.trans im1 (Im.trans im2 (Im.trans im4 im6))), ⟨rfl, hS6.sel [0] rfl, trivial⟩⟩)

set_option maxRecDepth 100000 in
set_option maxHeartbeats 1000000 in
theorem ref08_Struct_sim {g : World} {T0 : Nat → Prop} {w0 : World} {R : Assn} {p0 : List ref08Type} {a1 : Option Addr} {c1 : Nat} {p1 : List UInt8} {p2 : List GField} {a2 : Option Addr} {c2 : Nat} {r : ref08Made} (hS : Sep g T0 w0 [R]) (h1 : SlR rref08Type T0 w0 (.slice a1 (List.length p0) c1) p0) (h2 : SlR rGField T0 w0 (.slice a2 (List.length p2) c2) p2) (hm : ref08_Struct p0 p1 p2 = some r) :
    Calls Try.prog 32 #[.slice a1 (List.length p0) c1, .string ⟨p1.toArray⟩, .slice a2 (List.length p2) c2] w0 (RetS T0 w0 fun T w v => ∃ (a12 : Option Addr) (c12 : Nat), v = .agg #[.int .i64 r.N, .slice a12 (List.length r.T) c12, .int .i64 r.E] ∧ Sep g T w [R] ∧ SlR rref08Type T w (.slice a12 (List.length r.T) c12) r.T ∧ True) := by
  refine enter (args := [.slice a1 (List.length p0) c1, .string ⟨p1.toArray⟩, .slice a2 (List.length p2) c2]) Try.func32 rfl Try.ntmps32 rfl fun J => ?_
  unfold ref08_Struct at hm
  refine sq2 ?_
  refine rg (wl rfl (alS (zs := [.int .i64 0, .slice none 0 0, .int .i64 0]) Try.zeroValue30 rfl hS fun w1 b1 im1 hS1 => ?_))
  refine nil (t_then ?_)
  refine sq2 ?_
  obtain ⟨y1, hx1, hm⟩ := bindS hm
  refine rg (pv (r_ms rfl) (pv (r_mt rfl) (wl rfl (calS cf17 rfl (ref08_Find_sim (p0 := p0) (p1 := p1) (hS1.bun [0, 1] [] rfl) (h1.mono im1) hx1) rfl fun v1 T1 w2 im2 rv1 => ?_))))
  obtain ⟨rfl, hS2, _⟩ := rv1
  have hS2 : Sep g T1 w2 [boxA b1 [.int .i64 0, .slice none 0 0, .int .i64 0], R] := hS2.unb
  refine pv (r_zi rfl) (nil (t_then ?_))
  refine sq2 ?_
  refine sq2 ?_
  refine rg (pv (r_mi rfl) (pv (r_ib rfl rfl rfl) (pv (r_mb rfl) (?_))))
  rcases Bool.eq_false_or_eq_true (decide (y1 < 0)) with hb1 | hb1
  · have hm := ctrue hb1 hm
    refine gF (d0 := 20) rfl rfl (by rw [hb1]; rfl) (gF (d0 := 20) rfl rfl (by rw [hb1]; rfl) (gF (d0 := 20) rfl rfl (by rw [hb1]; rfl) (gF (d0 := 20) rfl rfl (by rw [hb1]; rfl) (gF (d0 := 20) rfl rfl (by rw [hb1]; rfl) (gF (d0 := 20) rfl rfl (by rw [hb1]; rfl) (pv (r_pkt rfl hb1 rfl) (nil (t_thenR [(0, .slice a1 (List.length p0) c1), (1, .string ⟨p1.toArray⟩), (2, .slice a2 (List.length p2) c2), (6, .pointer (some ⟨b1, 0, none⟩)), (7, .int .i64 y1), (27, .bool true)] ⟨rfl, rfl, rfl, rfl, rfl, rfl, trivial⟩ fun J => ?_))))))))
    refine cnd (b := true) rfl (fun _ => ?_) (fun h => nomatch h)
    refine sq2 ?_
    refine rg (pv (r_ms rfl) (pv (r_bd (by kernel_rfl) rfl (u := .agg #[.int .i64 0, .slice a1 (List.length p0) c1, .int .i64 4])) (wl rfl (st0B (q := 0) hS2 ⟨rfl, rfl⟩ rfl rfl rfl Try.sizeOf30 rfl rfl rfl fun w24 im26 hS28 => ?_))))
    have hS28 : Sep g T1 w24 [boxA b1 [.int .i64 0, .slice a1 (List.length p0) c1, .int .i64 4], R] := hS28
    refine nil (t_thenR [(6, .pointer (some ⟨b1, 0, none⟩))] ⟨rfl, trivial⟩ fun J => ?_)
    have hm := Option.some.inj hm
    subst hm
    exact rtn (r_then (retN (vs := [.agg #[.int .i64 0, .slice a1 (List.length p0) c1, .int .i64 4]]) rfl ⟨rvS rfl Try.isAgg30 Try.sizeOf30 rfl (hS28.bx (i := 0) ⟨rfl, rfl⟩), trivial⟩ rfl ⟨_, rfl, _, (Im.trans im1 (Im.trans im2 im26)), ⟨_, _, rfl, hS28.sel [1] rfl, (h1.mono (Im.trans im1 (Im.trans im2 im26))), trivial⟩⟩))
  · have hm := cfalse hb1 hm
    obtain ⟨u1, hx2, hm⟩ := bindS hm
    obtain ⟨b2, of1, cs1, k1, cp1, hv1, hp1, hl1, he1, hr1, hc1, hT1⟩ := (h1.mono (Im.trans im1 im2)).ixT hx2 rfl
    obtain ⟨a3, c3, rfl, h3⟩ := rref08Type_open hr1
    refine gT (d0 := 20) rfl rfl hb1 (pv (r_ms rfl) (gT (d0 := 20) rfl rfl hb1 (pv (r_mi rfl) (gT (d0 := 20) rfl rfl hb1 (pv (r_ixe hv1 rfl Try.underlying28 Try.sizeOf51 hp1 hl1 he1) (gT (d0 := 20) rfl rfl hb1 (pv (r_fa rfl Try.underlying51 rfl Try.sizeOf4 rfl) (gT (d0 := 20) rfl rfl hb1 (pv (r_ld rfl Try.isAgg4 (hc1.get (j := 5) rfl)) (gT (d0 := 20) rfl rfl hb1 (pv (r_nt rfl) (pv (r_pkf rfl hb1 rfl) (nil (t_thenR [(0, .slice a1 (List.length p0) c1), (1, .string ⟨p1.toArray⟩), (2, .slice a2 (List.length p2) c2), (6, .pointer (some ⟨b1, 0, none⟩)), (7, .int .i64 y1), (27, .bool (!u1.Open))] ⟨rfl, rfl, rfl, rfl, rfl, rfl, trivial⟩ fun J => ?_))))))))))))))
    refine cnd rfl (fun hb2 => ?_) (fun hb2 => ?_)
    · have hm := ctrue hb2 hm
      refine sq2 ?_
      refine rg (pv (r_ms rfl) (pv (r_bd (by kernel_rfl) rfl (u := .agg #[.int .i64 0, .slice a1 (List.length p0) c1, .int .i64 4])) (wl rfl (st0B (q := 0) hS2 ⟨rfl, rfl⟩ rfl rfl rfl Try.sizeOf30 rfl rfl rfl fun w3 im3 hS3 => ?_))))
      have hS3 : Sep g T1 w3 [boxA b1 [.int .i64 0, .slice a1 (List.length p0) c1, .int .i64 4], R] := hS3
      refine nil (t_thenR [(6, .pointer (some ⟨b1, 0, none⟩))] ⟨rfl, trivial⟩ fun J => ?_)
      have hm := Option.some.inj hm
      subst hm
      exact rtn (r_then (retN (vs := [.agg #[.int .i64 0, .slice a1 (List.length p0) c1, .int .i64 4]]) rfl ⟨rvS rfl Try.isAgg30 Try.sizeOf30 rfl (hS3.bx (i := 0) ⟨rfl, rfl⟩), trivial⟩ rfl ⟨_, rfl, _, (Im.trans im1 (Im.trans im2 im3)), ⟨_, _, rfl, hS3.sel [1] rfl, (h1.mono (Im.trans im1 (Im.trans im2 im3))), trivial⟩⟩))
    · have hm := cfalse hb2 hm
      refine skp (t_then ?_)
      refine sq2 ?_
      refine sq2 ?_
      obtain ⟨y2, hx3, hm⟩ := bindS hm
      refine rg (pv (r_ms rfl) (pv (r_ms rfl) (wl rfl (calS cf42 rfl (ref08_may_sim (p0 := p0) (p1 := p2) (hS2.bun [0, 1] [] rfl) (h1.mono (Im.trans im1 im2)) (h2.mono (Im.trans im1 im2)) hx3) rfl fun v2 T2 w4 im4 rv2 => ?_))))
      obtain ⟨rfl, hS4, _⟩ := rv2
      have hS4 : Sep g T2 w4 [boxA b1 [.int .i64 0, .slice none 0 0, .int .i64 0], R] := hS4.unb
      refine pv (r_ib rfl rfl rfl) (nil (t_then ?_))
      refine cnd rfl (fun hb3 => ?_) (fun hb3 => ?_)
      · have hm := ctrue hb3 hm
        refine sq2 ?_
        obtain ⟨y3, hx4, hm⟩ := bindS hm
        refine rg (pv (r_ms rfl) (pv (r_ms rfl) (pv (r_ms rfl) (wl rfl (calS cf42 rfl (ref08_may_sim (p0 := p0) (p1 := p2) (hS4.bun [0, 1] [] rfl) (h1.mono (Im.trans im1 (Im.trans im2 im4))) (h2.mono (Im.trans im1 (Im.trans im2 im4))) hx4) rfl fun v3 T3 w5 im5 rv3 => ?_)))))
        obtain ⟨rfl, hS5, _⟩ := rv3
        have hS5 : Sep g T3 w5 [boxA b1 [.int .i64 0, .slice none 0 0, .int .i64 0], R] := hS5.unb
        refine pv (r_bd (by kernel_rfl) rfl (u := .agg #[.int .i64 0, .slice a1 (List.length p0) c1, .int .i64 y3])) (wl rfl (st0B (q := 0) hS5 ⟨rfl, rfl⟩ rfl rfl rfl Try.sizeOf30 rfl rfl rfl fun w6 im6 hS6 => ?_))
        have hS6 : Sep g T3 w6 [boxA b1 [.int .i64 0, .slice a1 (List.length p0) c1, .int .i64 y3], R] := hS6
        refine nil (t_thenR [(6, .pointer (some ⟨b1, 0, none⟩))] ⟨rfl, trivial⟩ fun J => ?_)
        have hm := Option.some.inj hm
        subst hm
        exact rtn (r_then (retN (vs := [.agg #[.int .i64 0, .slice a1 (List.length p0) c1, .int .i64 y3]]) rfl ⟨rvS rfl Try.isAgg30 Try.sizeOf30 rfl (hS6.bx (i := 0) ⟨rfl, rfl⟩), trivial⟩ rfl ⟨_, rfl, _, (Im.trans im1 (Im.trans im2 (Im.trans im4 (Im.trans im5 im6)))), ⟨_, _, rfl, hS6.sel [1] rfl, (h1.mono (Im.trans im1 (Im.trans im2 (Im.trans im4 (Im.trans im5 im6))))), trivial⟩⟩))
      · have hm := cfalse hb3 hm
        refine skp (t_thenR [(0, .slice a1 (List.length p0) c1), (1, .string ⟨p1.toArray⟩), (2, .slice a2 (List.length p2) c2), (6, .pointer (some ⟨b1, 0, none⟩)), (7, .int .i64 y1)] ⟨rfl, rfl, rfl, rfl, rfl, trivial⟩ fun J => ?_)
        refine sq2 ?_
        refine rg (pv (r_zs rfl) (nil (t_then ?_)))
        refine sq2 ?_
        refine rg (pv (r_zi rfl) (nil (t_then ?_)))
        refine sq2 ?_
        refine sq2 ?_
        refine rg (pv (r_zi rfl) (nil (t_then ?_)))
        obtain ⟨o1, ho1, hq1⟩ := bindS hm
        obtain ⟨bd1, hbd1, ho1⟩ := loop_open ho1
        have hS7 := hS4.nilO rGField 52
        refine blk (wp_loop_ghost (fun m a w7 => ∃ (J : Nat → Value) (T4 : Nat → Prop) (x1 : List GField) (a4 : Option Addr) (n1 : Nat) (c4 : Nat) (x2 : Int) (x3 : Int), a = env 107 J [(0, .slice a1 (List.length p0) c1), (1, .string ⟨p1.toArray⟩), (2, .slice a2 (List.length p2) c2), (6, .pointer (some ⟨b1, 0, none⟩)), (7, .int .i64 y1), (8, .slice a4 n1 c4), (9, .int .i64 x2), (10, .int .i64 x3)] ∧ Im T2 w4 T4 w7 ∧ Sep g T4 w7 [ownA rGField 52 (.slice a4 n1 c4) x1, boxA b1 [.int .i64 0, .slice none 0 0, .int .i64 0], R] ∧ loopM bd1 m (x1, x2, x3) = some o1) NN ⟨_, _, [], _, _, _, 0, 0, env_has ⟨rfl, rfl, rfl, rfl, rfl, rfl, rfl, rfl, trivial⟩, Im.refl, hS7.sel [0, 1, 2] rfl, ho1⟩ ?_)
        rintro m _ w7 ⟨J, T4, x1, a4, n1, c4, x2, x3, rfl, im7, hS8, ho1⟩
        obtain ⟨m1, z1, rfl, hm, hn1⟩ := loop_round ho1
        rw [hbd1] at hm
        refine sq2 ?_
        refine sq2 ?_
        refine rg (pv (r_mi rfl) (pv (r_ms rfl) (pv (r_ln rfl Try.underlying49) (pv (r_ib rfl rfl rfl) (nil (t_then ?_))))))
        refine cnd rfl (fun hb4 => ?_) (fun hb4 => ?_)
        · have hm := ctrue hb4 hm
          refine skp (t_then ?_)
          refine sq2 ?_
          refine blk ?_
          refine sq2 ?_
          obtain ⟨u2, hx5, hm⟩ := bindS hm
          obtain ⟨b3, of2, cs2, k2, cp2, hv2, hp2, hl2, he2, hr2, hc2, hT2⟩ := (h2.mono (Im.trans im1 (Im.trans im2 (Im.trans im4 im7)))).ixT hx5 rfl
          cases rGField_open hr2
          obtain ⟨y4, hx6, hm⟩ := bindS hm
          refine rg (pv (r_mi rfl) (pv (r_ms rfl) (pv (r_ms rfl) (pv (r_mi rfl) (pv (r_ixe hv2 rfl Try.underlying49 Try.sizeOf52 hp2 hl2 he2) (pv (r_fa rfl Try.underlying52 rfl Try.sizeOf3 rfl) (pv (r_ld rfl Try.isAgg3 (hc2.get (j := 1) rfl)) (wl rfl (calS cf24 rfl (ref08_Align_sim (p0 := p0) (p1 := u2.Type_) (hS8.bun [0, 1, 2] [] rfl) (h1.mono (Im.trans im1 (Im.trans im2 (Im.trans im4 im7)))) hx6) rfl fun v4 T5 w8 im8 rv4 => ?_)))))))))
          obtain ⟨rfl, hS9, _⟩ := rv4
          have hS9 : Sep g T5 w8 [ownA rGField 52 (.slice a4 n1 c4) x1, boxA b1 [.int .i64 0, .slice none 0 0, .int .i64 0], R] := hS9.unb
          obtain ⟨y5, hx7, hm⟩ := bindS hm
          refine wl rfl (calS cf37 rfl (ref08_next_sim (p0 := x2) (p1 := y4) (hS9.bun [0, 1, 2] [] rfl)  hx7) rfl fun v5 T6 w9 im9 rv5 => ?_)
          obtain ⟨rfl, hS10, _⟩ := rv5
          have hS10 : Sep g T6 w9 [ownA rGField 52 (.slice a4 n1 c4) x1, boxA b1 [.int .i64 0, .slice none 0 0, .int .i64 0], R] := hS10.unb
          refine pv (r_zi rfl) (nil (t_thenR [(0, .slice a1 (List.length p0) c1), (1, .string ⟨p1.toArray⟩), (2, .slice a2 (List.length p2) c2), (6, .pointer (some ⟨b1, 0, none⟩)), (7, .int .i64 y1), (8, .slice a4 n1 c4), (10, .int .i64 x3), (11, .int .i64 y5)] ⟨rfl, rfl, rfl, rfl, rfl, rfl, rfl, rfl, trivial⟩ fun J => ?_))
          refine sq2 ?_
          refine rs [0, 0, 0, 0, 0, 1, 0, 0, 0, 0, 1, 0, 0, 2, 2, 0] [0, 1, 2, 3, 4, 5, 6, 7, 8, 9, 10, 11, 12, 13, 14, 15] mix (by kernel_rfl) hS10.lt fun w10 i1 => ?_
          have im10 := i1.imm
          have hS11 := hS10.keep i1 (fun _ h => h)
          obtain ⟨u3, hx8, hm⟩ := bindS hm
          obtain ⟨b4, of3, cs3, k3, cp3, hv3, hp3, hl3, he3, hr3, hc3, hT3⟩ := (h2.mono (Im.trans im1 (Im.trans im2 (Im.trans im4 (Im.trans im7 (Im.trans im8 (Im.trans im9 im10))))))).ixT hx8 rfl
          cases rGField_open hr3
          obtain ⟨u4, hx9, hm⟩ := bindS hm
          obtain ⟨b5, of4, cs4, k4, cp4, hv4, hp4, hl4, he4, hr4, hc4, hT4⟩ := (h2.mono (Im.trans im1 (Im.trans im2 (Im.trans im4 (Im.trans im7 (Im.trans im8 (Im.trans im9 im10))))))).ixT hx9 rfl
          cases rGField_open hr4
          refine s0 rfl trivial (fun _ => r_ms rfl) rfl (s0 rfl trivial (fun _ => r_ms rfl) rfl (s0 rfl trivial (fun _ => r_mi rfl) rfl (s0 rfl trivial (fun _ => r_ixe hv3 rfl Try.underlying49 Try.sizeOf52 hp3 hl3 he3) rfl (s0 rfl trivial (fun _ => r_fa rfl Try.underlying52 rfl Try.sizeOf9 rfl) rfl (s1 rfl trivial (r_ld rfl Try.isAgg9 (hc3.get (j := 0) rfl)) rfl (s0 rfl trivial (fun _ => r_ms rfl) rfl (s0 rfl trivial (fun _ => r_mi rfl) rfl (s0 rfl trivial (fun _ => r_ixe hv4 rfl Try.underlying49 Try.sizeOf52 hp4 hl4 he4) rfl (s0 rfl trivial (fun _ => r_fa rfl Try.underlying52 rfl Try.sizeOf3 rfl) rfl (s1 rfl trivial (r_ld rfl Try.isAgg3 (hc4.get (j := 1) rfl)) rfl (s0 rfl trivial (fun _ => r_mi rfl) rfl (s0 rfl trivial (fun _ => r_bd (by kernel_rfl) rfl (u := .agg #[.string ⟨u3.Name.toArray⟩, .int .i64 u4.Type_, .int .i64 y5])) rfl (s2 [] rfl trivial rfl (by kernel_rfl) (bsS (r := rGField) (l := ([(⟨u3.Name, u4.Type_, y5⟩ : GField)] : List GField)) (css := [[.string ⟨u3.Name.toArray⟩, .int .i64 u4.Type_, .int .i64 y5]]) hS11 Try.underlying49 Try.sizeOf52 Try.zeroValue52 rfl rfl (by kernel_rfl) rfl ⟨(rGField_mk (x := (⟨u3.Name, u4.Type_, y5⟩ : GField))  : rGField.rp _ _ _ _), trivial⟩ rfl rfl fun w11 a5 n2 c5 im11 hS12 => ?_))))))))))))))
          refine ⟨st0, ?_⟩
          obtain ⟨z_1, hro1, hm⟩ := bindS hm
          refine s2 [] rfl trivial rfl (by kernel_rfl) (apO (q := 1) (l := x1) (us := ([(⟨u3.Name, u4.Type_, y5⟩ : GField)] : List GField)) hS12 ⟨rfl, rfl⟩ rfl rfl (hS12.own (i := 0) ⟨rfl, rfl⟩).v Try.underlying49 el52 (room_some hro1) fun w12 a6 n3 c6 im12 hS13 => ?_)
          have hS13 : Sep g T6 w12 [ownA rGField 52 (.slice a5 n2 c5) ([(⟨u3.Name, u4.Type_, y5⟩ : GField)] : List GField), ownA rGField 52 (.slice a6 n3 c6) (x1 ++ ([(⟨u3.Name, u4.Type_, y5⟩ : GField)] : List GField)), boxA b1 [.int .i64 0, .slice none 0 0, .int .i64 0], R] := hS13
          refine ⟨st0, ?_⟩
          refine s0 rfl trivial (fun _ => r_zs rfl) rfl (se (t_thenR [(0, .slice a1 (List.length p0) c1), (1, .string ⟨p1.toArray⟩), (2, .slice a2 (List.length p2) c2), (6, .pointer (some ⟨b1, 0, none⟩)), (7, .int .i64 y1), (8, .slice a6 n3 c6), (10, .int .i64 x3), (11, .int .i64 y5)] ⟨rfl, rfl, rfl, rfl, rfl, rfl, rfl, rfl, trivial⟩ fun J => ?_))
          obtain ⟨u5, hx10, hm⟩ := bindS hm
          obtain ⟨b6, of5, cs5, k5, cp5, hv5, hp5, hl5, he5, hr5, hc5, hT5⟩ := (h2.mono (Im.trans im1 (Im.trans im2 (Im.trans im4 (Im.trans im7 (Im.trans im8 (Im.trans im9 (Im.trans im10 (Im.trans im11 im12))))))))).ixT hx10 rfl
          cases rGField_open hr5
          obtain ⟨y6, hx11, hm⟩ := bindS hm
          refine rg (pv (r_mi rfl) (pv (r_ms rfl) (pv (r_ms rfl) (pv (r_mi rfl) (pv (r_ixe hv5 rfl Try.underlying49 Try.sizeOf52 hp5 hl5 he5) (pv (r_fa rfl Try.underlying52 rfl Try.sizeOf3 rfl) (pv (r_ld rfl Try.isAgg3 (hc5.get (j := 1) rfl)) (wl rfl (calS cf23 rfl (ref08_Size_sim (p0 := p0) (p1 := u5.Type_) (hS13.bun [1, 2, 3] [] rfl) (h1.mono (Im.trans im1 (Im.trans im2 (Im.trans im4 (Im.trans im7 (Im.trans im8 (Im.trans im9 (Im.trans im10 (Im.trans im11 im12))))))))) hx11) rfl fun v6 T7 w13 im13 rv6 => ?_)))))))))
          obtain ⟨rfl, hS14, _⟩ := rv6
          have hS14 : Sep g T7 w13 [ownA rGField 52 (.slice a6 n3 c6) (x1 ++ ([(⟨u3.Name, u4.Type_, y5⟩ : GField)] : List GField)), boxA b1 [.int .i64 0, .slice none 0 0, .int .i64 0], R] := hS14.unb
          refine pv (r_ib rfl rfl rfl) (pv (r_zi rfl) (nil (t_blk (t_thenR [(0, .slice a1 (List.length p0) c1), (1, .string ⟨p1.toArray⟩), (2, .slice a2 (List.length p2) c2), (6, .pointer (some ⟨b1, 0, none⟩)), (7, .int .i64 y1), (8, .slice a6 n3 c6), (9, .int .i64 (IntKind.wrap .i64 (y5 + y6))), (10, .int .i64 x3)] ⟨rfl, rfl, rfl, rfl, rfl, rfl, rfl, rfl, trivial⟩ fun J => ?_))))
          have hm := Option.some.inj hm
          subst hm
          exact rg (pv (r_mi rfl) (pv (r_ib rfl rfl rfl) (pv (r_zi rfl) (nil (t_then ⟨m1, Nat.lt_succ_self _, _, _, (x1 ++ ([(⟨u3.Name, u4.Type_, y5⟩ : GField)] : List GField)), _, _, _, (IntKind.wrap .i64 (y5 + y6)), (IntKind.wrap .i64 (x3 + 1)), env_has ⟨rfl, rfl, rfl, rfl, rfl, rfl, rfl, rfl, trivial⟩, (Im.trans im7 (Im.trans im8 (Im.trans im9 (Im.trans im10 (Im.trans im11 (Im.trans im12 im13)))))), hS14.sel [0, 1, 2] rfl, hn1⟩)))))
        · have hm := cfalse hb4 hm
          have hm := Option.some.inj hm
          subst hm
          have hn1 : _ = Lp.brk _ := hn1
          subst hn1
          have hm := thn_brk hq1
          refine xt (x_then (x_then (x_eq (t_thenR [(0, .slice a1 (List.length p0) c1), (1, .string ⟨p1.toArray⟩), (6, .pointer (some ⟨b1, 0, none⟩)), (7, .int .i64 y1), (8, .slice a4 n1 c4)] ⟨rfl, rfl, rfl, rfl, rfl, trivial⟩ fun J => ?_))))
          refine sq2 ?_
          refine rg (pv (r_zs rfl) (nil (t_then ?_)))
          refine sq2 ?_
          refine sq2 ?_
          refine rg (pv (r_zi rfl) (nil (t_then ?_)))
          obtain ⟨o1, ho1, hq1⟩ := bindS hm
          obtain ⟨bd1, hbd1, ho1⟩ := loop_open ho1
          obtain ⟨T8, im14, hS15, h4⟩ := hS8.seal 0 ⟨rfl, rfl⟩
          have hsh := h4.len
          subst hsh
          have hS15 : Sep g T8 w7 [empA, boxA b1 [.int .i64 0, .slice none 0 0, .int .i64 0], R] := hS15
          have hS16 := hS15.nilO rref08Type 51
          refine blk (wp_loop_ghost (fun m a w14 => ∃ (J : Nat → Value) (T9 : Nat → Prop) (x4 : List ref08Type) (a7 : Option Addr) (n4 : Nat) (c7 : Nat) (x5 : Int), a = env 107 J [(0, .slice a1 (List.length p0) c1), (1, .string ⟨p1.toArray⟩), (6, .pointer (some ⟨b1, 0, none⟩)), (7, .int .i64 y1), (8, .slice a4 (List.length x1) c4), (12, .slice a7 n4 c7), (13, .int .i64 x5)] ∧ Im T8 w7 T9 w14 ∧ Sep g T9 w14 [ownA rref08Type 51 (.slice a7 n4 c7) x4, boxA b1 [.int .i64 0, .slice none 0 0, .int .i64 0], R] ∧ loopM bd1 m (x4, x5) = some o1) NN ⟨_, _, [], _, _, _, 0, env_has ⟨rfl, rfl, rfl, rfl, rfl, rfl, rfl, trivial⟩, Im.refl, hS16.sel [0, 2, 3] rfl, ho1⟩ ?_)
          rintro m _ w14 ⟨J, T9, x4, a7, n4, c7, x5, rfl, im15, hS17, ho1⟩
          obtain ⟨m1, z1, rfl, hm, hn1⟩ := loop_round ho1
          rw [hbd1] at hm
          refine sq2 ?_
          refine sq2 ?_
          refine rg (pv (r_mi rfl) (pv (r_ms rfl) (pv (r_ln rfl Try.underlying28) (pv (r_ib rfl rfl rfl) (nil (t_then ?_))))))
          refine cnd rfl (fun hb5 => ?_) (fun hb5 => ?_)
          · have hm := ctrue hb5 hm
            refine skp (t_then ?_)
            refine sq2 ?_
            refine blk ?_
            refine sq2 ?_
            obtain ⟨u6, hx12, hm⟩ := bindS hm
            obtain ⟨b7, of6, cs6, k6, cp6, hv6, hp6, hl6, he6, hr6, hc6, hT6⟩ := (h1.mono (Im.trans im1 (Im.trans im2 (Im.trans im4 (Im.trans im7 (Im.trans im14 im15)))))).ixT hx12 rfl
            obtain ⟨a8, c8, rfl, h5⟩ := rref08Type_open hr6
            refine rg (pv (r_ms rfl) (pv (r_mi rfl) (pv (r_ixe hv6 rfl Try.underlying28 Try.sizeOf51 hp6 hl6 he6) (pv (r_ldS rfl Try.isAgg51 Try.sizeOf51 rfl hc6 (cs := [.int .i64 u6.Kind, .int .i64 u6.Elem, .int .i64 u6.Len, .string ⟨u6.Name.toArray⟩, .slice a8 (List.length u6.Fields) c8, .bool u6.Open])) (wl rfl (alS (zs := [.int .i64 0, .int .i64 0, .int .i64 0, .string ⟨([] : List UInt8).toArray⟩, .slice none 0 0, .bool false]) Try.zeroValue51 rfl hS17 fun w15 b8 im16 hS18 => ?_))))))
            refine wl rfl (st0B (q := 0) hS18 ⟨rfl, rfl⟩ rfl rfl rfl Try.sizeOf51 rfl rfl rfl fun w16 im17 hS19 => ?_)
            have hS19 : Sep g T9 w16 [boxA b8 [.int .i64 u6.Kind, .int .i64 u6.Elem, .int .i64 u6.Len, .string ⟨u6.Name.toArray⟩, .slice a8 (List.length u6.Fields) c8, .bool u6.Open], ownA rref08Type 51 (.slice a7 n4 c7) x4, boxA b1 [.int .i64 0, .slice none 0 0, .int .i64 0], R] := hS19
            refine nil (t_thenR [(0, .slice a1 (List.length p0) c1), (1, .string ⟨p1.toArray⟩), (6, .pointer (some ⟨b1, 0, none⟩)), (7, .int .i64 y1), (8, .slice a4 (List.length x1) c4), (12, .slice a7 n4 c7), (13, .int .i64 x5), (14, .pointer (some ⟨b8, 0, none⟩))] ⟨rfl, rfl, rfl, rfl, rfl, rfl, rfl, rfl, trivial⟩ fun J => ?_)
            obtain ⟨kk1, hkk1, hm⟩ := jn_open hm
            refine cut (fun a w17 => ∃ (J : Nat → Value) (T10 : Nat → Prop) (x6 : ref08Type) (a9 : Option Addr) (c9 : Nat), a = env 107 J [(0, .slice a1 (List.length p0) c1), (1, .string ⟨p1.toArray⟩), (6, .pointer (some ⟨b1, 0, none⟩)), (7, .int .i64 y1), (8, .slice a4 (List.length x1) c4), (12, .slice a7 n4 c7), (13, .int .i64 x5), (14, .pointer (some ⟨b8, 0, none⟩))] ∧ Im T9 w16 T10 w17 ∧ Sep g T10 w17 [boxA b8 [.int .i64 x6.Kind, .int .i64 x6.Elem, .int .i64 x6.Len, .string ⟨x6.Name.toArray⟩, .slice a9 (List.length x6.Fields) c9, .bool x6.Open], ownA rref08Type 51 (.slice a7 n4 c7) x4, boxA b1 [.int .i64 0, .slice none 0 0, .int .i64 0], R] ∧ SlR rGField T10 w17 (.slice a9 (List.length x6.Fields) c9) x6.Fields ∧ kk1 x6 = some z1) ?_ ?_
            · refine sq2 ?_
              refine rg (pv (r_mi rfl) (pv (r_mi rfl) (pv (r_ib rfl rfl rfl) (nil (t_then ?_)))))
              refine cnd rfl (fun hb6 => ?_) (fun hb6 => ?_)
              · have hm := ctrue hb6 hm
                refine rg (pv (r_mt rfl) (pv (r_ms rfl) (pv (r_bd (by kernel_rfl) rfl (u := .agg #[.int .i64 5, .int .i64 0, .int .i64 0, .string ⟨p1.toArray⟩, .slice a4 (List.length x1) c4, .bool false])) (wl rfl (st0B (q := 0) hS19 ⟨rfl, rfl⟩ rfl rfl rfl Try.sizeOf51 rfl rfl rfl fun w18 im19 hS20 => ?_)))))
                have hS20 : Sep g T9 w18 [boxA b8 [.int .i64 5, .int .i64 0, .int .i64 0, .string ⟨p1.toArray⟩, .slice a4 (List.length x1) c4, .bool false], ownA rref08Type 51 (.slice a7 n4 c7) x4, boxA b1 [.int .i64 0, .slice none 0 0, .int .i64 0], R] := hS20
                exact nil (t_then ⟨_, _, (⟨5, 0, 0, p1, x1, false⟩ : ref08Type), _, _, env_has ⟨rfl, rfl, rfl, rfl, rfl, rfl, rfl, rfl, trivial⟩, im19, hS20.sel [0, 1, 2, 3] rfl, (h4.mono (Im.trans im15 (Im.trans im16 (Im.trans im17 im19)))), hm⟩)
              · have hm := cfalse hb6 hm
                exact skp (t_then ⟨_, _, u6, _, _, env_has ⟨rfl, rfl, rfl, rfl, rfl, rfl, rfl, rfl, trivial⟩, Im.refl, hS19.sel [0, 1, 2, 3] rfl, (h5.mono (Im.trans im16 im17)), hm⟩)
            · rintro _ w17 ⟨J, T10, x6, a9, c9, rfl, im18, hS21, h6, hm⟩
              rw [hkk1] at hm
              refine rg (pv (r_ms rfl) (pv (r_ldS rfl Try.isAgg51 Try.sizeOf51 rfl (hS21.cells0 (i := 0) ⟨rfl, rfl⟩ (o := 0) rfl) (cs := [.int .i64 x6.Kind, .int .i64 x6.Elem, .int .i64 x6.Len, .string ⟨x6.Name.toArray⟩, .slice a9 (List.length x6.Fields) c9, .bool x6.Open])) (wl rfl (bsS (r := rref08Type) (l := ([x6] : List ref08Type)) (css := [[.int .i64 x6.Kind, .int .i64 x6.Elem, .int .i64 x6.Len, .string ⟨x6.Name.toArray⟩, .slice a9 (List.length x6.Fields) c9, .bool x6.Open]]) hS21 Try.underlying28 Try.sizeOf51 Try.zeroValue51 rfl rfl (by kernel_rfl) rfl ⟨(rref08Type_mk (x := x6) h6 : rref08Type.rp _ _ _ _), trivial⟩ rfl rfl fun w19 a10 n5 c10 im20 hS22 => ?_))))
              obtain ⟨z_2, hro2, hm⟩ := bindS hm
              refine wl rfl (apO (q := 2) (l := x4) (us := ([x6] : List ref08Type)) hS22 ⟨rfl, rfl⟩ rfl rfl (hS22.own (i := 0) ⟨rfl, rfl⟩).v Try.underlying28 el51 (room_some hro2) fun w20 a11 n6 c11 im21 hS23 => ?_)
              have hS23 : Sep g T10 w20 [ownA rref08Type 51 (.slice a10 n5 c10) ([x6] : List ref08Type), boxA b8 [.int .i64 x6.Kind, .int .i64 x6.Elem, .int .i64 x6.Len, .string ⟨x6.Name.toArray⟩, .slice a9 (List.length x6.Fields) c9, .bool x6.Open], ownA rref08Type 51 (.slice a11 n6 c11) (x4 ++ ([x6] : List ref08Type)), boxA b1 [.int .i64 0, .slice none 0 0, .int .i64 0], R] := hS23
              refine pv (r_zs rfl) (nil (t_blk (t_thenR [(0, .slice a1 (List.length p0) c1), (1, .string ⟨p1.toArray⟩), (6, .pointer (some ⟨b1, 0, none⟩)), (7, .int .i64 y1), (8, .slice a4 (List.length x1) c4), (12, .slice a11 n6 c11), (13, .int .i64 x5)] ⟨rfl, rfl, rfl, rfl, rfl, rfl, rfl, trivial⟩ fun J => ?_)))
              have hm := Option.some.inj hm
              subst hm
              exact rg (pv (r_mi rfl) (pv (r_ib rfl rfl rfl) (pv (r_zi rfl) (nil (t_then ⟨m1, Nat.lt_succ_self _, _, _, (x4 ++ ([x6] : List ref08Type)), _, _, _, (IntKind.wrap .i64 (x5 + 1)), env_has ⟨rfl, rfl, rfl, rfl, rfl, rfl, rfl, trivial⟩, (Im.trans im15 (Im.trans im16 (Im.trans im17 (Im.trans im18 (Im.trans im20 im21))))), hS23.sel [2, 3, 4] rfl, hn1⟩)))))
          · have hm := cfalse hb5 hm
            have hm := Option.some.inj hm
            subst hm
            have hn1 : _ = Lp.brk _ := hn1
            subst hn1
            have hm := thn_brk hq1
            refine xt (x_then (x_then (x_eq (t_thenR [(0, .slice a1 (List.length p0) c1), (6, .pointer (some ⟨b1, 0, none⟩)), (7, .int .i64 y1), (12, .slice a7 n4 c7)] ⟨rfl, rfl, rfl, rfl, trivial⟩ fun J => ?_))))
            refine sq2 ?_
            refine sq2 ?_
            refine rg (pv (r_ms rfl) (pv (r_mi rfl) (?_)))
            obtain ⟨T11, im22, hS24, h7⟩ := hS17.seal 0 ⟨rfl, rfl⟩
            have hsh := h7.len
            subst hsh
            have hS24 : Sep g T11 w14 [empA, boxA b1 [.int .i64 0, .slice none 0 0, .int .i64 0], R] := hS24
            obtain ⟨y7, hx13, hm⟩ := bindS hm
            refine wl rfl (calS cf23 rfl (ref08_Size_sim (p0 := x4) (p1 := y1) (hS24.bun [1, 2] [] rfl) h7 hx13) rfl fun v7 T12 w21 im23 rv7 => ?_)
            obtain ⟨rfl, hS25, _⟩ := rv7
            have hS25 : Sep g T12 w21 [boxA b1 [.int .i64 0, .slice none 0 0, .int .i64 0], R] := hS25.unb
            refine pv (r_ib rfl rfl rfl) (nil (t_then ?_))
            refine cnd rfl (fun hb7 => ?_) (fun hb7 => ?_)
            · have hm := ctrue hb7 hm
              refine sq2 ?_
              refine rg (pv (r_ms rfl) (pv (r_bd (by kernel_rfl) rfl (u := .agg #[.int .i64 0, .slice a1 (List.length p0) c1, .int .i64 2])) (wl rfl (st0B (q := 0) hS25 ⟨rfl, rfl⟩ rfl rfl rfl Try.sizeOf30 rfl rfl rfl fun w22 im24 hS26 => ?_))))
              have hS26 : Sep g T12 w22 [boxA b1 [.int .i64 0, .slice a1 (List.length p0) c1, .int .i64 2], R] := hS26
              refine nil (t_thenR [(6, .pointer (some ⟨b1, 0, none⟩))] ⟨rfl, trivial⟩ fun J => ?_)
              have hm := Option.some.inj hm
              subst hm
              exact rtn (r_then (retN (vs := [.agg #[.int .i64 0, .slice a1 (List.length p0) c1, .int .i64 2]]) rfl ⟨rvS rfl Try.isAgg30 Try.sizeOf30 rfl (hS26.bx (i := 0) ⟨rfl, rfl⟩), trivial⟩ rfl ⟨_, rfl, _, (Im.trans im1 (Im.trans im2 (Im.trans im4 (Im.trans im7 (Im.trans im14 (Im.trans im15 (Im.trans im22 (Im.trans im23 im24)))))))), ⟨_, _, rfl, hS26.sel [1] rfl, (h1.mono (Im.trans im1 (Im.trans im2 (Im.trans im4 (Im.trans im7 (Im.trans im14 (Im.trans im15 (Im.trans im22 (Im.trans im23 im24))))))))), trivial⟩⟩))
            · have hm := cfalse hb7 hm
              refine skp (t_thenR [(6, .pointer (some ⟨b1, 0, none⟩)), (7, .int .i64 y1), (12, .slice a7 (List.length x4) c7)] ⟨rfl, rfl, rfl, trivial⟩ fun J => ?_)
              refine sq2 ?_
              refine rg (pv (r_mi rfl) (pv (r_ms rfl) (pv (r_bd (by kernel_rfl) rfl (u := .agg #[.int .i64 y1, .slice a7 (List.length x4) c7, .int .i64 0])) (wl rfl (st0B (q := 0) hS25 ⟨rfl, rfl⟩ rfl rfl rfl Try.sizeOf30 rfl rfl rfl fun w23 im25 hS27 => ?_)))))
              have hS27 : Sep g T12 w23 [boxA b1 [.int .i64 y1, .slice a7 (List.length x4) c7, .int .i64 0], R] := hS27
              refine nil (t_thenR [(6, .pointer (some ⟨b1, 0, none⟩))] ⟨rfl, trivial⟩ fun J => ?_)
              have hm := Option.some.inj hm
              subst hm
              exact rtn (retN (vs := [.agg #[.int .i64 y1, .slice a7 (List.length x4) c7, .int .i64 0]]) rfl ⟨rvS rfl Try.isAgg30 Try.sizeOf30 rfl (hS27.bx (i := 0) ⟨rfl, rfl⟩), trivial⟩ rfl ⟨_, rfl, _, (Im.trans im1 (Im.trans im2 (Im.trans im4 (Im.trans im7 (Im.trans im14 (Im.trans im15 (Im.trans im22 (Im.trans im23 im25)))))))), ⟨_, _, rfl, hS27.sel [1] rfl, (h7.mono (Im.trans im23 im25)), trivial⟩⟩)

set_option maxRecDepth 100000 in
set_option maxHeartbeats 1000000 in
theorem law08_Act_Done_sim {g : World} {T0 : Nat → Prop} {w0 : World} {R : Assn} {p0 : law08Act} {a1 : Option Addr} {c1 : Nat} {p1 : KindTable} {b_p1 o_p1 : Nat} {H_p1 : List Value → Assn} {a2 : Option Addr} {n1 : Nat} {c2 : Nat} {p2 : List ref08Type} {a3 : Option Addr} {c3 : Nat} {r : Int × Int × ref08Made × KindTable} (hS : Sep g T0 w0 [R, H_p1 [.slice a2 n1 c2], ownA rKindKnown 65 (.slice a2 n1 c2) p1.list]) (h1 : SlR rGField T0 w0 (.slice a1 (List.length p0.Fields) c1) p0.Fields) (hL_p1 : Ln b_p1 o_p1 H_p1) (h2 : SlR rref08Type T0 w0 (.slice a3 (List.length p2) c3) p2) (hm : law08_Act_Done p0 p1 p2 = some r) :
    Calls Try.prog 11 #[.agg #[.int .i64 p0.Kind, .int .i64 p0.N, .int .i64 p0.Long, .string ⟨p0.Name.toArray⟩, .slice a1 (List.length p0.Fields) c1], .pointer (some ⟨b_p1, o_p1, none⟩), .slice a3 (List.length p2) c3] w0 (RetS T0 w0 fun T w v => ∃ (a15 : Option Addr) (c15 : Nat) (a16 : Option Addr) (n9 : Nat) (c16 : Nat), v = .tuple #[.int .i64 r.1, .int .i64 r.2.1, .agg #[.int .i64 r.2.2.1.N, .slice a15 (List.length r.2.2.1.T) c15, .int .i64 r.2.2.1.E]] ∧ Sep g T w [R, H_p1 [.slice a16 n9 c16], ownA rKindKnown 65 (.slice a16 n9 c16) r.2.2.2.list] ∧ SlR rref08Type T w (.slice a15 (List.length r.2.2.1.T) c15) r.2.2.1.T ∧ True) := by
  refine enter (args := [.agg #[.int .i64 p0.Kind, .int .i64 p0.N, .int .i64 p0.Long, .string ⟨p0.Name.toArray⟩, .slice a1 (List.length p0.Fields) c1], .pointer (some ⟨b_p1, o_p1, none⟩), .slice a3 (List.length p2) c3]) Try.func11 rfl Try.ntmps11 rfl fun J => ?_
  unfold law08_Act_Done at hm
  refine sq2 ?_
  refine rg (wl rfl (bxS (cs := [.int .i64 p0.Kind, .int .i64 p0.N, .int .i64 p0.Long, .string ⟨p0.Name.toArray⟩, .slice a1 (List.length p0.Fields) c1]) rfl rfl hS fun w1 b1 im1 hS1 => ?_))
  refine pv (r_zi rfl) (pv (r_zi rfl) (wl rfl (alS (zs := [.int .i64 0, .slice none 0 0, .int .i64 0]) Try.zeroValue30 rfl hS1 fun w2 b2 im2 hS2 => ?_)))
  refine nil (t_then ?_)
  refine sq2 ?_
  refine sq2 ?_
  refine rg (pv (r_fa rfl Try.underlying34 rfl Try.sizeOf3 rfl) (pv (r_ld rfl Try.isAgg3 (hS2.cell0 (i := 1) ⟨rfl, rfl⟩ (j := 0) rfl)) (nil (t_then ?_))))
  refine blk ?_
  refine sq2 ?_
  refine rg (pv (r_ib rfl rfl rfl) (pv (r_zb rfl) (nil (t_thenR [(1, .pointer (some ⟨b_p1, o_p1, none⟩)), (2, .slice a3 (List.length p2) c3), (3, .pointer (some ⟨b1, 0, none⟩)), (8, .pointer (some ⟨b2, 0, none⟩)), (20, .int .i64 p0.Kind), (21, .bool (p0.Kind == 0))] ⟨rfl, rfl, rfl, rfl, rfl, rfl, trivial⟩ fun J => ?_))))
  refine cnd rfl (fun hb1 => ?_) (fun hb1 => ?_)
  · have hm := ctrue hb1 hm
    refine sq2 ?_
    obtain ⟨y1, hx1, hm⟩ := bindS hm
    refine rg (pv (r_mp rfl) (pv (r_fa rfl Try.underlying34 rfl Try.sizeOf3 rfl) (pv (r_ld rfl Try.isAgg3 (hS2.cell0 (i := 1) ⟨rfl, rfl⟩ (j := 1) rfl)) (wl rfl (calS cf13 rfl (kind_Table_Ptr_sim (p0 := p1) (H_p0 := H_p1) (p1 := p0.N) (hS2.bun [0, 1, 2] [3, 4] rfl) hL_p1 hx1) rfl fun v1 T1 w3 im3 rv1 => ?_)))))
    obtain ⟨a4, n2, c4, rfl, hS3, _⟩ := rv1
    have hS3 : Sep g T1 w3 [boxA b2 [.int .i64 0, .slice none 0 0, .int .i64 0], boxA b1 [.int .i64 p0.Kind, .int .i64 p0.N, .int .i64 p0.Long, .string ⟨p0.Name.toArray⟩, .slice a1 (List.length p0.Fields) c1], R, H_p1 [.slice a4 n2 c4], ownA rKindKnown 65 (.slice a4 n2 c4) y1.2.2.list] := hS3.unb
    refine pv (r_mv rfl) (pv (r_ex (v := .int .i64 y1.1) rfl rfl) (pv (r_ex (v := .int .i64 y1.2.1) rfl rfl) (pv (r_zi rfl) (pv (r_zi rfl) (nil (t_thenR [(2, .slice a3 (List.length p2) c3), (3, .pointer (some ⟨b1, 0, none⟩)), (8, .pointer (some ⟨b2, 0, none⟩)), (9, .int .i64 y1.1), (10, .int .i64 y1.2.1)] ⟨rfl, rfl, rfl, rfl, rfl, trivial⟩ fun J => ?_))))))
    refine sq2 ?_
    obtain ⟨y2, hx2, hm⟩ := bindS hm
    refine rg (pv (r_mi rfl) (pv (r_mi rfl) (pv (r_ms rfl) (pv (r_fa rfl Try.underlying34 rfl Try.sizeOf3 rfl) (pv (r_ld rfl Try.isAgg3 (hS3.cell0 (i := 1) ⟨rfl, rfl⟩ (j := 1) rfl)) (wl rfl (calS cf29 rfl (ref08_Ptr_sim (p0 := p2) (p1 := p0.N) (hS3.bun [0, 2, 3, 4] [] rfl) (h2.mono (Im.trans im1 (Im.trans im2 im3))) hx2) rfl fun v2 T2 w4 im4 rv2 => ?_)))))))
    obtain ⟨a5, c5, rfl, hS4, h3, _⟩ := rv2
    have hS4 : Sep g T2 w4 [boxA b2 [.int .i64 0, .slice none 0 0, .int .i64 0], R, H_p1 [.slice a4 n2 c4], ownA rKindKnown 65 (.slice a4 n2 c4) y1.2.2.list] := hS4.unb
    refine pv (r_zi rfl) (pv (r_zi rfl) (wl rfl (st0B (q := 0) hS4 ⟨rfl, rfl⟩ rfl rfl rfl Try.sizeOf30 rfl rfl rfl fun w5 im5 hS5 => ?_)))
    have hS5 : Sep g T2 w5 [boxA b2 [.int .i64 y2.N, .slice a5 (List.length y2.T) c5, .int .i64 y2.E], R, H_p1 [.slice a4 n2 c4], ownA rKindKnown 65 (.slice a4 n2 c4) y1.2.2.list] := hS5
    refine nil (t_thenR [(6, .int .i64 y1.1), (7, .int .i64 y1.2.1), (8, .pointer (some ⟨b2, 0, none⟩))] ⟨rfl, rfl, rfl, trivial⟩ fun J => ?_)
    have hm := Option.some.inj hm
    subst hm
    exact rtn (r_blk (r_then (retN (vs := [.int .i64 y1.1, .int .i64 y1.2.1, .agg #[.int .i64 y2.N, .slice a5 (List.length y2.T) c5, .int .i64 y2.E]]) rfl ⟨rfl, rfl, rvS rfl Try.isAgg30 Try.sizeOf30 rfl (hS5.bx (i := 0) ⟨rfl, rfl⟩), trivial⟩ rfl ⟨_, rfl, _, (Im.trans im1 (Im.trans im2 (Im.trans im3 (Im.trans im4 im5)))), ⟨_, _, _, _, _, rfl, hS5.sel [1, 2, 3] rfl, (h3.mono im5), trivial⟩⟩)))
  · have hm := cfalse hb1 hm
    refine sq2 ?_
    refine rg (pv (r_ib rfl rfl rfl) (pv (r_zb rfl) (nil (t_then ?_))))
    refine cnd rfl (fun hb2 => ?_) (fun hb2 => ?_)
    · have hm := ctrue hb2 hm
      refine sq2 ?_
      obtain ⟨y3, hx3, hm⟩ := bindS hm
      refine rg (pv (r_mp rfl) (pv (r_fa rfl Try.underlying34 rfl Try.sizeOf3 rfl) (pv (r_ld rfl Try.isAgg3 (hS2.cell0 (i := 1) ⟨rfl, rfl⟩ (j := 1) rfl)) (pv (r_fa rfl Try.underlying34 rfl Try.sizeOf3 rfl) (pv (r_ld rfl Try.isAgg3 (hS2.cell0 (i := 1) ⟨rfl, rfl⟩ (j := 2) rfl)) (wl rfl (calS cf14 rfl (kind_Table_Array_sim (p0 := p1) (H_p0 := H_p1) (p1 := p0.N) (p2 := p0.Long) (hS2.bun [0, 1, 2] [3, 4] rfl) hL_p1 hx3) rfl fun v3 T3 w6 im6 rv3 => ?_)))))))
      obtain ⟨a6, n3, c6, rfl, hS6, _⟩ := rv3
      have hS6 : Sep g T3 w6 [boxA b2 [.int .i64 0, .slice none 0 0, .int .i64 0], boxA b1 [.int .i64 p0.Kind, .int .i64 p0.N, .int .i64 p0.Long, .string ⟨p0.Name.toArray⟩, .slice a1 (List.length p0.Fields) c1], R, H_p1 [.slice a6 n3 c6], ownA rKindKnown 65 (.slice a6 n3 c6) y3.2.2.list] := hS6.unb
      refine pv (r_mv rfl) (pv (r_ex (v := .int .i64 y3.1) rfl rfl) (pv (r_ex (v := .int .i64 y3.2.1) rfl rfl) (pv (r_zi rfl) (pv (r_zi rfl) (nil (t_thenR [(2, .slice a3 (List.length p2) c3), (3, .pointer (some ⟨b1, 0, none⟩)), (8, .pointer (some ⟨b2, 0, none⟩)), (11, .int .i64 y3.1), (12, .int .i64 y3.2.1)] ⟨rfl, rfl, rfl, rfl, rfl, trivial⟩ fun J => ?_))))))
      refine sq2 ?_
      obtain ⟨y4, hx4, hm⟩ := bindS hm
      refine rg (pv (r_mi rfl) (pv (r_mi rfl) (pv (r_ms rfl) (pv (r_fa rfl Try.underlying34 rfl Try.sizeOf3 rfl) (pv (r_ld rfl Try.isAgg3 (hS6.cell0 (i := 1) ⟨rfl, rfl⟩ (j := 1) rfl)) (pv (r_fa rfl Try.underlying34 rfl Try.sizeOf3 rfl) (pv (r_ld rfl Try.isAgg3 (hS6.cell0 (i := 1) ⟨rfl, rfl⟩ (j := 2) rfl)) (wl rfl (calS cf30 rfl (ref08_Array_sim (p0 := p2) (p1 := p0.N) (p2 := p0.Long) (hS6.bun [0, 2, 3, 4] [] rfl) (h2.mono (Im.trans im1 (Im.trans im2 im6))) hx4) rfl fun v4 T4 w7 im7 rv4 => ?_)))))))))
      obtain ⟨a7, c7, rfl, hS7, h4, _⟩ := rv4
      have hS7 : Sep g T4 w7 [boxA b2 [.int .i64 0, .slice none 0 0, .int .i64 0], R, H_p1 [.slice a6 n3 c6], ownA rKindKnown 65 (.slice a6 n3 c6) y3.2.2.list] := hS7.unb
      refine pv (r_zi rfl) (pv (r_zi rfl) (wl rfl (st0B (q := 0) hS7 ⟨rfl, rfl⟩ rfl rfl rfl Try.sizeOf30 rfl rfl rfl fun w8 im8 hS8 => ?_)))
      have hS8 : Sep g T4 w8 [boxA b2 [.int .i64 y4.N, .slice a7 (List.length y4.T) c7, .int .i64 y4.E], R, H_p1 [.slice a6 n3 c6], ownA rKindKnown 65 (.slice a6 n3 c6) y3.2.2.list] := hS8
      refine nil (t_thenR [(6, .int .i64 y3.1), (7, .int .i64 y3.2.1), (8, .pointer (some ⟨b2, 0, none⟩))] ⟨rfl, rfl, rfl, trivial⟩ fun J => ?_)
      have hm := Option.some.inj hm
      subst hm
      exact rtn (r_blk (r_then (retN (vs := [.int .i64 y3.1, .int .i64 y3.2.1, .agg #[.int .i64 y4.N, .slice a7 (List.length y4.T) c7, .int .i64 y4.E]]) rfl ⟨rfl, rfl, rvS rfl Try.isAgg30 Try.sizeOf30 rfl (hS8.bx (i := 0) ⟨rfl, rfl⟩), trivial⟩ rfl ⟨_, rfl, _, (Im.trans im1 (Im.trans im2 (Im.trans im6 (Im.trans im7 im8)))), ⟨_, _, _, _, _, rfl, hS8.sel [1, 2, 3] rfl, (h4.mono im8), trivial⟩⟩)))
    · have hm := cfalse hb2 hm
      refine sq2 ?_
      refine rg (pv (r_ib rfl rfl rfl) (pv (r_zb rfl) (nil (t_thenR [(1, .pointer (some ⟨b_p1, o_p1, none⟩)), (2, .slice a3 (List.length p2) c3), (3, .pointer (some ⟨b1, 0, none⟩)), (8, .pointer (some ⟨b2, 0, none⟩)), (55, .bool (p0.Kind == 2))] ⟨rfl, rfl, rfl, rfl, rfl, trivial⟩ fun J => ?_))))
      refine cnd rfl (fun hb3 => ?_) (fun hb3 => ?_)
      · have hm := ctrue hb3 hm
        refine sq2 ?_
        obtain ⟨y5, hx5, hm⟩ := bindS hm
        refine rg (pv (r_mp rfl) (pv (r_fa rfl Try.underlying34 rfl Try.sizeOf9 rfl) (pv (r_ld rfl Try.isAgg9 (hS2.cell0 (i := 1) ⟨rfl, rfl⟩ (j := 3) rfl)) (wl rfl (calS cf27 rfl (kind_Table_Open_sim (p0 := p1) (H_p0 := H_p1) (p1 := p0.Name) (hS2.bun [0, 1, 2] [3, 4] rfl) hL_p1 hx5) rfl fun v5 T5 w9 im9 rv5 => ?_)))))
        obtain ⟨a8, n4, c8, rfl, hS9, _⟩ := rv5
        have hS9 : Sep g T5 w9 [boxA b2 [.int .i64 0, .slice none 0 0, .int .i64 0], boxA b1 [.int .i64 p0.Kind, .int .i64 p0.N, .int .i64 p0.Long, .string ⟨p0.Name.toArray⟩, .slice a1 (List.length p0.Fields) c1], R, H_p1 [.slice a8 n4 c8], ownA rKindKnown 65 (.slice a8 n4 c8) y5.2.2.list] := hS9.unb
        refine pv (r_mv rfl) (pv (r_ex (v := .int .i64 y5.1) rfl rfl) (pv (r_ex (v := .int .i64 y5.2.1) rfl rfl) (pv (r_zi rfl) (pv (r_zi rfl) (nil (t_thenR [(2, .slice a3 (List.length p2) c3), (3, .pointer (some ⟨b1, 0, none⟩)), (8, .pointer (some ⟨b2, 0, none⟩)), (13, .int .i64 y5.1), (14, .int .i64 y5.2.1)] ⟨rfl, rfl, rfl, rfl, rfl, trivial⟩ fun J => ?_))))))
        refine sq2 ?_
        obtain ⟨y6, hx6, hm⟩ := bindS hm
        refine rg (pv (r_mi rfl) (pv (r_mi rfl) (pv (r_ms rfl) (pv (r_fa rfl Try.underlying34 rfl Try.sizeOf9 rfl) (pv (r_ld rfl Try.isAgg9 (hS9.cell0 (i := 1) ⟨rfl, rfl⟩ (j := 3) rfl)) (wl rfl (calS cf31 rfl (ref08_Open_sim (p0 := p2) (p1 := p0.Name) (hS9.bun [0, 2, 3, 4] [] rfl) (h2.mono (Im.trans im1 (Im.trans im2 im9))) hx6) rfl fun v6 T6 w10 im10 rv6 => ?_)))))))
        obtain ⟨a9, c9, rfl, hS10, h5, _⟩ := rv6
        have hS10 : Sep g T6 w10 [boxA b2 [.int .i64 0, .slice none 0 0, .int .i64 0], R, H_p1 [.slice a8 n4 c8], ownA rKindKnown 65 (.slice a8 n4 c8) y5.2.2.list] := hS10.unb
        refine pv (r_zi rfl) (pv (r_zi rfl) (wl rfl (st0B (q := 0) hS10 ⟨rfl, rfl⟩ rfl rfl rfl Try.sizeOf30 rfl rfl rfl fun w11 im11 hS11 => ?_)))
        have hS11 : Sep g T6 w11 [boxA b2 [.int .i64 y6.N, .slice a9 (List.length y6.T) c9, .int .i64 y6.E], R, H_p1 [.slice a8 n4 c8], ownA rKindKnown 65 (.slice a8 n4 c8) y5.2.2.list] := hS11
        refine nil (t_thenR [(6, .int .i64 y5.1), (7, .int .i64 y5.2.1), (8, .pointer (some ⟨b2, 0, none⟩))] ⟨rfl, rfl, rfl, trivial⟩ fun J => ?_)
        have hm := Option.some.inj hm
        subst hm
        exact rtn (r_blk (r_then (retN (vs := [.int .i64 y5.1, .int .i64 y5.2.1, .agg #[.int .i64 y6.N, .slice a9 (List.length y6.T) c9, .int .i64 y6.E]]) rfl ⟨rfl, rfl, rvS rfl Try.isAgg30 Try.sizeOf30 rfl (hS11.bx (i := 0) ⟨rfl, rfl⟩), trivial⟩ rfl ⟨_, rfl, _, (Im.trans im1 (Im.trans im2 (Im.trans im9 (Im.trans im10 im11)))), ⟨_, _, _, _, _, rfl, hS11.sel [1, 2, 3] rfl, (h5.mono im11), trivial⟩⟩)))
      · have hm := cfalse hb3 hm
        refine skp (t_blk (t_then ?_))
        refine sq2 ?_
        refine rg (pv (r_zs rfl) (nil (t_then ?_)))
        refine sq2 ?_
        refine sq2 ?_
        refine rg (pv (r_zi rfl) (nil (t_then ?_)))
        obtain ⟨o1, ho1, hq1⟩ := bindS hm
        obtain ⟨bd1, hbd1, ho1⟩ := loop_open ho1
        have hS12 := hS2.nilO rGField 52
        refine blk (wp_loop_ghost (fun m a w12 => ∃ (J : Nat → Value) (T7 : Nat → Prop) (x1 : List GField) (a10 : Option Addr) (n5 : Nat) (c10 : Nat) (x2 : Int), a = env 101 J [(1, .pointer (some ⟨b_p1, o_p1, none⟩)), (2, .slice a3 (List.length p2) c3), (3, .pointer (some ⟨b1, 0, none⟩)), (8, .pointer (some ⟨b2, 0, none⟩)), (15, .slice a10 n5 c10), (16, .int .i64 x2)] ∧ Im T0 w2 T7 w12 ∧ Sep g T7 w12 [ownA rGField 52 (.slice a10 n5 c10) x1, boxA b2 [.int .i64 0, .slice none 0 0, .int .i64 0], boxA b1 [.int .i64 p0.Kind, .int .i64 p0.N, .int .i64 p0.Long, .string ⟨p0.Name.toArray⟩, .slice a1 (List.length p0.Fields) c1], R, H_p1 [.slice a2 n1 c2], ownA rKindKnown 65 (.slice a2 n1 c2) p1.list] ∧ loopM bd1 m (x1, x2) = some o1) NN ⟨_, _, [], _, _, _, 0, env_has ⟨rfl, rfl, rfl, rfl, rfl, rfl, trivial⟩, Im.refl, hS12.sel [0, 1, 2, 3, 4, 5] rfl, ho1⟩ ?_)
        rintro m _ w12 ⟨J, T7, x1, a10, n5, c10, x2, rfl, im12, hS13, ho1⟩
        obtain ⟨m1, z1, rfl, hm, hn1⟩ := loop_round ho1
        rw [hbd1] at hm
        refine sq2 ?_
        refine sq2 ?_
        refine rg (pv (r_mi rfl) (pv (r_fa rfl Try.underlying34 rfl Try.sizeOf32 rfl) (pv (r_ld rfl Try.isAgg32 (hS13.cell0 (i := 2) ⟨rfl, rfl⟩ (j := 4) rfl)) (pv (r_ln rfl Try.underlying32) (pv (r_ib rfl rfl rfl) (nil (t_then ?_)))))))
        refine cnd rfl (fun hb4 => ?_) (fun hb4 => ?_)
        · have hm := ctrue hb4 hm
          refine skp (t_thenR [(1, .pointer (some ⟨b_p1, o_p1, none⟩)), (2, .slice a3 (List.length p2) c3), (3, .pointer (some ⟨b1, 0, none⟩)), (8, .pointer (some ⟨b2, 0, none⟩)), (15, .slice a10 n5 c10), (16, .int .i64 x2)] ⟨rfl, rfl, rfl, rfl, rfl, rfl, trivial⟩ fun J => ?_)
          refine sq2 ?_
          refine blk ?_
          obtain ⟨u1, hx7, hm⟩ := bindS hm
          obtain ⟨b3, of1, cs1, k1, cp1, hv1, hp1, hl1, he1, hr1, hc1, hT1⟩ := (h1.mono (Im.trans im1 (Im.trans im2 im12))).ixT hx7 rfl
          cases rGField_open hr1
          refine rg (pv (r_ms rfl) (pv (r_fa rfl Try.underlying34 rfl Try.sizeOf32 rfl) (pv (r_ld rfl Try.isAgg32 (hS13.cell0 (i := 2) ⟨rfl, rfl⟩ (j := 4) rfl)) (pv (r_mi rfl) (pv (r_ixe hv1 rfl Try.underlying32 Try.sizeOf45 hp1 hl1 he1) (pv (r_ldS rfl Try.isAgg45 Try.sizeOf45 rfl hc1 (cs := [.string ⟨u1.Name.toArray⟩, .int .i64 u1.Type_, .int .i64 u1.At])) (wl rfl (bsS (r := rGField) (l := ([u1] : List GField)) (css := [[.string ⟨u1.Name.toArray⟩, .int .i64 u1.Type_, .int .i64 u1.At]]) hS13 Try.underlying49 Try.sizeOf52 Try.zeroValue52 rfl rfl (by kernel_rfl) rfl ⟨(rGField_mk (x := u1)  : rGField.rp _ _ _ _), trivial⟩ rfl rfl fun w13 a11 n6 c11 im13 hS14 => ?_))))))))
          obtain ⟨z_1, hro1, hm⟩ := bindS hm
          refine wl rfl (apO (q := 1) (l := x1) (us := ([u1] : List GField)) hS14 ⟨rfl, rfl⟩ rfl rfl (hS14.own (i := 0) ⟨rfl, rfl⟩).v Try.underlying49 el52 (room_some hro1) fun w14 a12 n7 c12 im14 hS15 => ?_)
          have hS15 : Sep g T7 w14 [ownA rGField 52 (.slice a11 n6 c11) ([u1] : List GField), ownA rGField 52 (.slice a12 n7 c12) (x1 ++ ([u1] : List GField)), boxA b2 [.int .i64 0, .slice none 0 0, .int .i64 0], boxA b1 [.int .i64 p0.Kind, .int .i64 p0.N, .int .i64 p0.Long, .string ⟨p0.Name.toArray⟩, .slice a1 (List.length p0.Fields) c1], R, H_p1 [.slice a2 n1 c2], ownA rKindKnown 65 (.slice a2 n1 c2) p1.list] := hS15
          refine pv (r_zs rfl) (nil (t_blk (t_thenR [(1, .pointer (some ⟨b_p1, o_p1, none⟩)), (2, .slice a3 (List.length p2) c3), (3, .pointer (some ⟨b1, 0, none⟩)), (8, .pointer (some ⟨b2, 0, none⟩)), (15, .slice a12 n7 c12), (16, .int .i64 x2)] ⟨rfl, rfl, rfl, rfl, rfl, rfl, trivial⟩ fun J => ?_)))
          have hm := Option.some.inj hm
          subst hm
          exact rg (pv (r_mi rfl) (pv (r_ib rfl rfl rfl) (pv (r_zi rfl) (nil (t_then ⟨m1, Nat.lt_succ_self _, _, _, (x1 ++ ([u1] : List GField)), _, _, _, (IntKind.wrap .i64 (x2 + 1)), env_has ⟨rfl, rfl, rfl, rfl, rfl, rfl, trivial⟩, (Im.trans im12 (Im.trans im13 im14)), hS15.sel [1, 2, 3, 4, 5, 6] rfl, hn1⟩)))))
        · have hm := cfalse hb4 hm
          have hm := Option.some.inj hm
          subst hm
          have hn1 : _ = Lp.brk _ := hn1
          subst hn1
          have hm := thn_brk hq1
          refine xt (x_then (x_then (x_eq (t_thenR [(1, .pointer (some ⟨b_p1, o_p1, none⟩)), (2, .slice a3 (List.length p2) c3), (3, .pointer (some ⟨b1, 0, none⟩)), (8, .pointer (some ⟨b2, 0, none⟩)), (15, .slice a10 n5 c10)] ⟨rfl, rfl, rfl, rfl, rfl, trivial⟩ fun J => ?_))))
          refine sq2 ?_
          obtain ⟨y7, hx8, hm⟩ := bindS hm
          refine rg (pv (r_mp rfl) (pv (r_fa rfl Try.underlying34 rfl Try.sizeOf9 rfl) (pv (r_ld rfl Try.isAgg9 (hS13.cell0 (i := 2) ⟨rfl, rfl⟩ (j := 3) rfl)) (pv (r_fa rfl Try.underlying34 rfl Try.sizeOf32 rfl) (pv (r_ld rfl Try.isAgg32 (hS13.cell0 (i := 2) ⟨rfl, rfl⟩ (j := 4) rfl)) (wl rfl (calS cf28 rfl (kind_Table_Struct_sim (p0 := p1) (H_p0 := H_p1) (p1 := p0.Name) (p2 := p0.Fields) (hS13.bun [0, 1, 2, 3] [4, 5] rfl) hL_p1 (h1.mono (Im.trans im1 (Im.trans im2 im12))) hx8) rfl fun v7 T8 w15 im15 rv7 => ?_)))))))
          obtain ⟨a13, n8, c13, rfl, hS16, _⟩ := rv7
          have hS16 : Sep g T8 w15 [ownA rGField 52 (.slice a10 n5 c10) x1, boxA b2 [.int .i64 0, .slice none 0 0, .int .i64 0], boxA b1 [.int .i64 p0.Kind, .int .i64 p0.N, .int .i64 p0.Long, .string ⟨p0.Name.toArray⟩, .slice a1 (List.length p0.Fields) c1], R, H_p1 [.slice a13 n8 c13], ownA rKindKnown 65 (.slice a13 n8 c13) y7.2.2.list] := hS16.unb
          refine pv (r_mv rfl) (pv (r_ex (v := .int .i64 y7.1) rfl rfl) (pv (r_ex (v := .int .i64 y7.2.1) rfl rfl) (pv (r_zi rfl) (pv (r_zi rfl) (nil (t_thenR [(2, .slice a3 (List.length p2) c3), (3, .pointer (some ⟨b1, 0, none⟩)), (8, .pointer (some ⟨b2, 0, none⟩)), (15, .slice a10 n5 c10), (17, .int .i64 y7.1), (18, .int .i64 y7.2.1)] ⟨rfl, rfl, rfl, rfl, rfl, rfl, trivial⟩ fun J => ?_))))))
          refine sq2 ?_
          refine rg (pv (r_mi rfl) (pv (r_mi rfl) (pv (r_ms rfl) (pv (r_fa rfl Try.underlying34 rfl Try.sizeOf9 rfl) (pv (r_ld rfl Try.isAgg9 (hS16.cell0 (i := 2) ⟨rfl, rfl⟩ (j := 3) rfl)) (pv (r_ms rfl) (?_)))))))
          obtain ⟨T9, im16, hS17, h6⟩ := hS16.seal 0 ⟨rfl, rfl⟩
          have hsh := h6.len
          subst hsh
          have hS17 : Sep g T9 w15 [empA, boxA b2 [.int .i64 0, .slice none 0 0, .int .i64 0], boxA b1 [.int .i64 p0.Kind, .int .i64 p0.N, .int .i64 p0.Long, .string ⟨p0.Name.toArray⟩, .slice a1 (List.length p0.Fields) c1], R, H_p1 [.slice a13 n8 c13], ownA rKindKnown 65 (.slice a13 n8 c13) y7.2.2.list] := hS17
          obtain ⟨y8, hx9, hm⟩ := bindS hm
          refine wl rfl (calS cf32 rfl (ref08_Struct_sim (p0 := p2) (p1 := p0.Name) (p2 := x1) (hS17.bun [1, 3, 4, 5] [] rfl) (h2.mono (Im.trans im1 (Im.trans im2 (Im.trans im12 (Im.trans im15 im16))))) h6 hx9) rfl fun v8 T10 w16 im17 rv8 => ?_)
          obtain ⟨a14, c14, rfl, hS18, h7, _⟩ := rv8
          have hS18 : Sep g T10 w16 [boxA b2 [.int .i64 0, .slice none 0 0, .int .i64 0], R, H_p1 [.slice a13 n8 c13], ownA rKindKnown 65 (.slice a13 n8 c13) y7.2.2.list] := hS18.unb
          refine pv (r_zi rfl) (pv (r_zi rfl) (wl rfl (st0B (q := 0) hS18 ⟨rfl, rfl⟩ rfl rfl rfl Try.sizeOf30 rfl rfl rfl fun w17 im18 hS19 => ?_)))
          have hS19 : Sep g T10 w17 [boxA b2 [.int .i64 y8.N, .slice a14 (List.length y8.T) c14, .int .i64 y8.E], R, H_p1 [.slice a13 n8 c13], ownA rKindKnown 65 (.slice a13 n8 c13) y7.2.2.list] := hS19
          refine nil (t_thenR [(6, .int .i64 y7.1), (7, .int .i64 y7.2.1), (8, .pointer (some ⟨b2, 0, none⟩))] ⟨rfl, rfl, rfl, trivial⟩ fun J => ?_)
          have hm := Option.some.inj hm
          subst hm
          exact rtn (retN (vs := [.int .i64 y7.1, .int .i64 y7.2.1, .agg #[.int .i64 y8.N, .slice a14 (List.length y8.T) c14, .int .i64 y8.E]]) rfl ⟨rfl, rfl, rvS rfl Try.isAgg30 Try.sizeOf30 rfl (hS19.bx (i := 0) ⟨rfl, rfl⟩), trivial⟩ rfl ⟨_, rfl, _, (Im.trans im1 (Im.trans im2 (Im.trans im12 (Im.trans im15 (Im.trans im16 (Im.trans im17 im18)))))), ⟨_, _, _, _, _, rfl, hS19.sel [1, 2, 3] rfl, (h7.mono im18), trivial⟩⟩)

set_option maxRecDepth 100000 in
set_option maxHeartbeats 1000000 in
theorem kind_Table_Count_sim {g : World} {T0 : Nat → Prop} {w0 : World} {R : Assn} {p0 : KindTable} {b_p0 o_p0 : Nat} {H_p0 : List Value → Assn} {a1 : Option Addr} {n1 : Nat} {c1 : Nat} {r : Int} (hS : Sep g T0 w0 [R, H_p0 [.slice a1 n1 c1], ownA rKindKnown 65 (.slice a1 n1 c1) p0.list]) (hL_p0 : Ln b_p0 o_p0 H_p0) (hm : kind_Table_Count p0 = some r) :
    Calls Try.prog 15 #[.pointer (some ⟨b_p0, o_p0, none⟩)] w0 (RetS T0 w0 fun T w v => v = .int .i64 r ∧ Sep g T w [R, H_p0 [.slice a1 n1 c1], ownA rKindKnown 65 (.slice a1 n1 c1) p0.list] ∧ True) := by
  refine enter (args := [.pointer (some ⟨b_p0, o_p0, none⟩)]) Try.func15 rfl Try.ntmps15 rfl fun J => ?_
  unfold kind_Table_Count at hm
  refine sq2 ?_
  refine rg (pv (r_zi rfl) (nil (t_then ?_)))
  refine sq2 ?_
  refine sq2 ?_
  refine rg (pv (r_mp rfl) (pv (r_pne rfl rfl rfl Try.underlying25) (nil (t_then ?_))))
  refine cnd (b := false) rfl (fun h => nomatch h) (fun _ => ?_)
  refine skp (t_then ?_)
  refine sq2 ?_
  refine rg (pv (r_mp rfl) (pv (r_nc rfl) (pv (r_fa rfl Try.underlying68 rfl Try.sizeOf66 rfl) (pv (r_ld rfl Try.isAgg66 (hS.cellB (i := 1) ⟨rfl, rfl⟩ hL_p0 (j := 0) rfl)) (pv (r_lnV rfl (hS.own (i := 2) ⟨rfl, rfl⟩).v Try.underlying66) (pv (r_zi rfl) (nil (t_thenR [(2, .int .i64 (List.length p0.list : Int))] ⟨rfl, trivial⟩ fun J => ?_))))))))
  have hm := Option.some.inj hm
  subst hm
  exact rtn (ret1 rfl rfl ⟨_, rfl, _, Im.refl, ⟨rfl, hS.sel [0, 1, 2] rfl, trivial⟩⟩)

set_option maxRecDepth 100000 in
set_option maxHeartbeats 1000000 in
theorem law08_KindOnce_sim {g : World} {T0 : Nat → Prop} {w0 : World} {R : Assn} {p0 : List law08Act} {a1 : Option Addr} {c1 : Nat} {p1 : Int} {p2 : Int} {r : Bool} (hS : Sep g T0 w0 [R]) (h1 : SlR rlaw08Act T0 w0 (.slice a1 (List.length p0) c1) p0) (hm : law08_KindOnce p0 p1 p2 = some r) :
    Calls Try.prog 3 #[.slice a1 (List.length p0) c1, .int .i64 p1, .int .i64 p2] w0 (RetS T0 w0 fun T w v => v = .bool r ∧ Sep g T w [R] ∧ True) := by
  refine enter (args := [.slice a1 (List.length p0) c1, .int .i64 p1, .int .i64 p2]) Try.func3 rfl Try.ntmps3 rfl fun J => ?_
  unfold law08_KindOnce at hm
  refine sq2 ?_
  refine rg (pv (r_zb rfl) (nil (t_then ?_)))
  refine sq2 ?_
  refine sq2 ?_
  obtain ⟨y1, hx1, hm⟩ := bindS hm
  refine rg (pv (r_ms rfl) (wl rfl (calS cf8 rfl (law08_Few_sim (p0 := p0) (hS.bun [0] [] rfl) h1 hx1) rfl fun v1 T1 w1 im1 rv1 => ?_)))
  obtain ⟨rfl, hS1, _⟩ := rv1
  have hS1 : Sep g T1 w1 [R] := hS1.unb
  refine pv (r_nt rfl) (nil (t_then ?_))
  refine cnd rfl (fun hb1 => ?_) (fun hb1 => ?_)
  · have hm := ctrue hb1 hm
    refine sq2 ?_
    obtain ⟨y2, hx2, hm⟩ := bindS hm
    refine rg (wl rfl (calS cf9 rfl (law08_awake_sim  (hS1.bun [0] [] rfl)  hx2) rfl fun v2 T2 w2 im2 rv2 => ?_))
    obtain ⟨rfl, hS2, _⟩ := rv2
    have hS2 : Sep g T2 w2 [R] := hS2.unb
    refine pv (r_zb rfl) (nil (t_thenR [(6, .bool y2)] ⟨rfl, trivial⟩ fun J => ?_))
    have hm := Option.some.inj hm
    subst hm
    exact rtn (r_then (ret1 rfl rfl ⟨_, rfl, _, (Im.trans im1 im2), ⟨rfl, hS2.sel [0] rfl, trivial⟩⟩))
  · have hm := cfalse hb1 hm
    refine skp (t_then ?_)
    refine sq2 ?_
    obtain ⟨y3, hx3, hm⟩ := bindS hm
    refine rg (wl rfl (calS cf10 rfl (kind_New_sim  (hS1.bun [0] [] rfl)  hx3) rfl fun v3 T3 w3 im3 rv3 => ?_))
    obtain ⟨b1, a2, n1, c2, rfl, hS3, _⟩ := rv3
    have hS3 : Sep g T3 w3 [R, boxA b1 [.slice a2 n1 c2], ownA rKindKnown 65 (.slice a2 n1 c2) y3.list] := hS3.unb
    refine pv (r_zp rfl) (nil (t_thenR [(0, .slice a1 (List.length p0) c1), (1, .int .i64 p1), (2, .int .i64 p2), (7, .pointer (some ⟨b1, 0, none⟩))] ⟨rfl, rfl, rfl, rfl, trivial⟩ fun J => ?_))
    refine sq2 ?_
    refine sq2 ?_
    refine rg (pv (r_zi rfl) (nil (t_then ?_)))
    obtain ⟨o1, ho1, hq1⟩ := bindS hm
    obtain ⟨bd1, hbd1, ho1⟩ := loop_open ho1
    refine blk (wp_loop_ghost (fun m a w4 => ∃ (J : Nat → Value) (T4 : Nat → Prop) (x3 : KindTable) (a3 : Option Addr) (n2 : Nat) (c3 : Nat) (x2 : Int), a = env 91 J [(0, .slice a1 (List.length p0) c1), (1, .int .i64 p1), (2, .int .i64 p2), (7, .pointer (some ⟨b1, 0, none⟩)), (8, .int .i64 x2)] ∧ Im T3 w3 T4 w4 ∧ Sep g T4 w4 [R, boxA b1 [.slice a3 n2 c3], ownA rKindKnown 65 (.slice a3 n2 c3) x3.list] ∧ loopM bd1 m (x2, x3) = some o1) NN ⟨_, _, y3, _, _, _, 0, env_has ⟨rfl, rfl, rfl, rfl, rfl, trivial⟩, Im.refl, hS3.sel [0, 1, 2] rfl, ho1⟩ ?_)
    rintro m _ w4 ⟨J, T4, x3, a3, n2, c3, x2, rfl, im4, hS4, ho1⟩
    obtain ⟨m1, z1, rfl, hm, hn1⟩ := loop_round ho1
    rw [hbd1] at hm
    refine sq2 ?_
    refine sq2 ?_
    refine rg (pv (r_mi rfl) (pv (r_ms rfl) (pv (r_ln rfl Try.underlying22) (pv (r_ib rfl rfl rfl) (nil (t_then ?_))))))
    refine cnd rfl (fun hb2 => ?_) (fun hb2 => ?_)
    · have hm := ctrue hb2 hm
      refine skp (t_then ?_)
      refine sq2 ?_
      refine blk ?_
      refine rs [0, 0, 0, 1, 0, 2, 2] [0, 1, 2, 3, 4, 5, 6] mix (by kernel_rfl) hS4.lt fun w5 i1 => ?_
      have im5 := i1.imm
      have hS5 := hS4.keep i1 (fun _ h => h)
      obtain ⟨u1, hx4, hm⟩ := bindS hm
      obtain ⟨b2, of1, cs1, k1, cp1, hv1, hp1, hl1, he1, hr1, hc1, hT1⟩ := (h1.mono (Im.trans im1 (Im.trans im3 (Im.trans im4 im5)))).ixT hx4 rfl
      obtain ⟨a4, c4, rfl, h2⟩ := rlaw08Act_open hr1
      obtain ⟨y4, hx5, hm⟩ := bindS hm
      refine s0 rfl trivial (fun _ => r_ms rfl) rfl (s0 rfl trivial (fun _ => r_mi rfl) rfl (s0 rfl trivial (fun _ => r_ixe hv1 rfl Try.underlying22 Try.sizeOf34 hp1 hl1 he1) rfl (s1 rfl trivial (r_ldS rfl Try.isAgg34 Try.sizeOf34 rfl hc1 (cs := [.int .i64 u1.Kind, .int .i64 u1.N, .int .i64 u1.Long, .string ⟨u1.Name.toArray⟩, .slice a4 (List.length u1.Fields) c4])) rfl (s0 rfl trivial (fun _ => r_mp rfl) rfl (s2 [(3, .agg #[.int .i64 u1.Kind, .int .i64 u1.N, .int .i64 u1.Long, .string ⟨u1.Name.toArray⟩, .slice a4 (List.length u1.Fields) c4])] rfl trivial rfl (by kernel_rfl) (calS cf12 rfl (ref08_Begin_sim  (hS5.bun [0, 1, 2] [] rfl)  hx5) rfl fun v4 T5 w6 im6 rv4 => ?_))))))
      obtain ⟨a5, n3, c5, rfl, hS6, _⟩ := rv4
      have hS6 : Sep g T5 w6 [R, boxA b1 [.slice a3 n2 c3], ownA rKindKnown 65 (.slice a3 n2 c3) x3.list, ownA rref08Type 51 (.slice a5 n3 c5) y4] := hS6.unb
      refine ⟨st1 rfl (r_ldS rfl Try.isAgg34 Try.sizeOf34 rfl (hc1.same (im6 b2 hT1).2) (cs := [.int .i64 u1.Kind, .int .i64 u1.N, .int .i64 u1.Long, .string ⟨u1.Name.toArray⟩, .slice a4 (List.length u1.Fields) c4])) (st0), ?_⟩
      obtain ⟨T6, im7, hS7, h3⟩ := hS6.seal 3 ⟨rfl, rfl⟩
      have hsh := h3.len
      subst hsh
      have hS7 : Sep g T6 w6 [R, boxA b1 [.slice a3 n2 c3], ownA rKindKnown 65 (.slice a3 n2 c3) x3.list, empA] := hS7
      obtain ⟨y5, hx6, hm⟩ := bindS hm
      refine s2 [] rfl trivial rfl (by kernel_rfl) (calS cf11 rfl (law08_Act_Done_sim (p0 := u1) (p1 := x3) (H_p1 := boxA b1) (p2 := y4) (hS7.bun [0] [1, 2] rfl) (h2.mono (Im.trans im6 im7)) (lnBox b1) h3 hx6) rfl fun v5 T7 w7 im8 rv5 => ?_)
      obtain ⟨a6, c6, a7, n4, c7, rfl, hS8, h4, _⟩ := rv5
      have hS8 : Sep g T7 w7 [R, boxA b1 [.slice a7 n4 c7], ownA rKindKnown 65 (.slice a7 n4 c7) y5.2.2.2.list] := hS8.unb
      refine ⟨st0, ?_⟩
      refine se (t_blk (t_thenR [(0, .slice a1 (List.length p0) c1), (1, .int .i64 p1), (2, .int .i64 p2), (7, .pointer (some ⟨b1, 0, none⟩)), (8, .int .i64 x2)] ⟨rfl, rfl, rfl, rfl, rfl, trivial⟩ fun J => ?_))
      have hm := Option.some.inj hm
      subst hm
      exact rg (pv (r_mi rfl) (pv (r_ib rfl rfl rfl) (pv (r_zi rfl) (nil (t_then ⟨m1, Nat.lt_succ_self _, _, _, y5.2.2.2, _, _, _, (IntKind.wrap .i64 (x2 + 1)), env_has ⟨rfl, rfl, rfl, rfl, rfl, trivial⟩, (Im.trans im4 (Im.trans im5 (Im.trans im6 (Im.trans im7 im8)))), hS8.sel [0, 1, 2] rfl, hn1⟩)))))
    · have hm := cfalse hb2 hm
      have hm := Option.some.inj hm
      subst hm
      have hn1 : _ = Lp.brk _ := hn1
      subst hn1
      have hm := thn_brk hq1
      refine xt (x_then (x_then (x_eq (t_thenR [(1, .int .i64 p1), (2, .int .i64 p2), (7, .pointer (some ⟨b1, 0, none⟩))] ⟨rfl, rfl, rfl, trivial⟩ fun J => ?_))))
      refine sq2 ?_
      obtain ⟨y6, hx7, hm⟩ := bindS hm
      refine rg (pv (r_mp rfl) (pv (r_mi rfl) (wl rfl (calS cf13 rfl (kind_Table_Ptr_sim (p0 := x3) (H_p0 := boxA b1) (p1 := p1) (hS4.bun [0] [1, 2] rfl) (lnBox b1) hx7) rfl fun v6 T8 w8 im9 rv6 => ?_))))
      obtain ⟨a8, n5, c8, rfl, hS9, _⟩ := rv6
      have hS9 : Sep g T8 w8 [R, boxA b1 [.slice a8 n5 c8], ownA rKindKnown 65 (.slice a8 n5 c8) y6.2.2.list] := hS9.unb
      refine pv (r_mv rfl) (pv (r_ex (v := .int .i64 y6.1) rfl rfl) (pv (r_ex (v := .int .i64 y6.2.1) rfl rfl) (pv (r_zi rfl) (pv (r_zi rfl) (nil (t_thenR [(1, .int .i64 p1), (2, .int .i64 p2), (7, .pointer (some ⟨b1, 0, none⟩)), (9, .int .i64 y6.1), (10, .int .i64 y6.2.1)] ⟨rfl, rfl, rfl, rfl, rfl, trivial⟩ fun J => ?_))))))
      refine sq2 ?_
      obtain ⟨y7, hx8, hm⟩ := bindS hm
      refine rg (pv (r_mp rfl) (pv (r_mi rfl) (pv (r_mi rfl) (wl rfl (calS cf14 rfl (kind_Table_Array_sim (p0 := y6.2.2) (H_p0 := boxA b1) (p1 := p1) (p2 := p2) (hS9.bun [0] [1, 2] rfl) (lnBox b1) hx8) rfl fun v7 T9 w9 im10 rv7 => ?_)))))
      obtain ⟨a9, n6, c9, rfl, hS10, _⟩ := rv7
      have hS10 : Sep g T9 w9 [R, boxA b1 [.slice a9 n6 c9], ownA rKindKnown 65 (.slice a9 n6 c9) y7.2.2.list] := hS10.unb
      refine pv (r_mv rfl) (pv (r_ex (v := .int .i64 y7.1) rfl rfl) (pv (r_ex (v := .int .i64 y7.2.1) rfl rfl) (pv (r_zi rfl) (pv (r_zi rfl) (nil (t_thenR [(1, .int .i64 p1), (2, .int .i64 p2), (7, .pointer (some ⟨b1, 0, none⟩)), (9, .int .i64 y6.1), (10, .int .i64 y6.2.1), (11, .int .i64 y7.1), (12, .int .i64 y7.2.1)] ⟨rfl, rfl, rfl, rfl, rfl, rfl, rfl, trivial⟩ fun J => ?_))))))
      refine sq2 ?_
      obtain ⟨y8, hx9, hm⟩ := bindS hm
      refine rg (pv (r_mp rfl) (wl rfl (calS cf15 rfl (kind_Table_Count_sim (p0 := y7.2.2) (H_p0 := boxA b1) (hS10.bun [0] [1, 2] rfl) (lnBox b1) hx9) rfl fun v8 T10 w10 im11 rv8 => ?_)))
      obtain ⟨rfl, hS11, _⟩ := rv8
      have hS11 : Sep g T10 w10 [R, boxA b1 [.slice a9 n6 c9], ownA rKindKnown 65 (.slice a9 n6 c9) y7.2.2.list] := hS11.unb
      refine pv (r_zi rfl) (nil (t_then ?_))
      refine sq2 ?_
      obtain ⟨y9, hx10, hm⟩ := bindS hm
      refine rg (pv (r_mp rfl) (pv (r_mi rfl) (wl rfl (calS cf13 rfl (kind_Table_Ptr_sim (p0 := y7.2.2) (H_p0 := boxA b1) (p1 := p1) (hS11.bun [0] [1, 2] rfl) (lnBox b1) hx10) rfl fun v9 T11 w11 im12 rv9 => ?_))))
      obtain ⟨a10, n7, c10, rfl, hS12, _⟩ := rv9
      have hS12 : Sep g T11 w11 [R, boxA b1 [.slice a10 n7 c10], ownA rKindKnown 65 (.slice a10 n7 c10) y9.2.2.list] := hS12.unb
      refine pv (r_mv rfl) (pv (r_ex (v := .int .i64 y9.1) rfl rfl) (pv (r_ex (v := .int .i64 y9.2.1) rfl rfl) (pv (r_zi rfl) (pv (r_zi rfl) (nil (t_thenR [(1, .int .i64 p1), (2, .int .i64 p2), (7, .pointer (some ⟨b1, 0, none⟩)), (9, .int .i64 y6.1), (10, .int .i64 y6.2.1), (11, .int .i64 y7.1), (12, .int .i64 y7.2.1), (13, .int .i64 y8), (14, .int .i64 y9.1), (15, .int .i64 y9.2.1)] ⟨rfl, rfl, rfl, rfl, rfl, rfl, rfl, rfl, rfl, rfl, trivial⟩ fun J => ?_))))))
      refine sq2 ?_
      obtain ⟨y10, hx11, hm⟩ := bindS hm
      refine rg (pv (r_mp rfl) (pv (r_mi rfl) (pv (r_mi rfl) (wl rfl (calS cf14 rfl (kind_Table_Array_sim (p0 := y9.2.2) (H_p0 := boxA b1) (p1 := p1) (p2 := p2) (hS12.bun [0] [1, 2] rfl) (lnBox b1) hx11) rfl fun v10 T12 w12 im13 rv10 => ?_)))))
      obtain ⟨a11, n8, c11, rfl, hS13, _⟩ := rv10
      have hS13 : Sep g T12 w12 [R, boxA b1 [.slice a11 n8 c11], ownA rKindKnown 65 (.slice a11 n8 c11) y10.2.2.list] := hS13.unb
      refine pv (r_mv rfl) (pv (r_ex (v := .int .i64 y10.1) rfl rfl) (pv (r_ex (v := .int .i64 y10.2.1) rfl rfl) (pv (r_zi rfl) (pv (r_zi rfl) (nil (t_thenR [(7, .pointer (some ⟨b1, 0, none⟩)), (9, .int .i64 y6.1), (10, .int .i64 y6.2.1), (11, .int .i64 y7.1), (12, .int .i64 y7.2.1), (13, .int .i64 y8), (14, .int .i64 y9.1), (15, .int .i64 y9.2.1), (16, .int .i64 y10.1), (17, .int .i64 y10.2.1)] ⟨rfl, rfl, rfl, rfl, rfl, rfl, rfl, rfl, rfl, rfl, trivial⟩ fun J => ?_))))))
      refine sq2 ?_
      obtain ⟨y11, hx12, hm⟩ := bindS hm
      refine rg (wl rfl (calS cf9 rfl (law08_awake_sim  (hS13.bun [0, 1, 2] [] rfl)  hx12) rfl fun v11 T13 w13 im14 rv11 => ?_))
      obtain ⟨rfl, hS14, _⟩ := rv11
      have hS14 : Sep g T13 w13 [R, boxA b1 [.slice a11 n8 c11], ownA rKindKnown 65 (.slice a11 n8 c11) y10.2.2.list] := hS14.unb
      refine pv (r_mb rfl) (?_)
      rcases Bool.eq_false_or_eq_true y11 with hb3 | hb3
      · have hm := ctrue hb3 hm
        refine gT (d0 := 65) rfl rfl hb3 (pv (r_mi rfl) (gT (d0 := 65) rfl rfl hb3 (pv (r_mi rfl) (gT (d0 := 65) rfl rfl hb3 (pv (r_ib rfl rfl rfl) (pv (r_pkt rfl hb3 rfl) (pv (r_mb rfl) (?_))))))))
        rcases Bool.eq_false_or_eq_true (y6.1 == y9.1) with hb4 | hb4
        · have hm := ctrue hb4 hm
          refine gT (d0 := 70) rfl rfl hb4 (pv (r_mi rfl) (gT (d0 := 70) rfl rfl hb4 (pv (r_mi rfl) (gT (d0 := 70) rfl rfl hb4 (pv (r_ib rfl rfl rfl) (pv (r_pkt rfl hb4 rfl) (pv (r_mb rfl) (?_))))))))
          rcases Bool.eq_false_or_eq_true (y6.2.1 == y9.2.1) with hb5 | hb5
          · have hm := ctrue hb5 hm
            refine gT (d0 := 75) rfl rfl hb5 (pv (r_mi rfl) (gT (d0 := 75) rfl rfl hb5 (pv (r_mi rfl) (gT (d0 := 75) rfl rfl hb5 (pv (r_ib rfl rfl rfl) (pv (r_pkt rfl hb5 rfl) (pv (r_mb rfl) (?_))))))))
            rcases Bool.eq_false_or_eq_true (y7.1 == y10.1) with hb6 | hb6
            · have hm := ctrue hb6 hm
              refine gT (d0 := 80) rfl rfl hb6 (pv (r_mi rfl) (gT (d0 := 80) rfl rfl hb6 (pv (r_mi rfl) (gT (d0 := 80) rfl rfl hb6 (pv (r_ib rfl rfl rfl) (pv (r_pkt rfl hb6 rfl) (pv (r_mb rfl) (?_))))))))
              rcases Bool.eq_false_or_eq_true (y7.2.1 == y10.2.1) with hb7 | hb7
              · have hm := ctrue hb7 hm
                obtain ⟨y12, hx13, hm⟩ := bindS hm
                refine gT (d0 := 85) rfl rfl hb7 (pv (r_mp rfl) (gT (d0 := 85) rfl rfl hb7 (wl rfl (calS cf15 rfl (kind_Table_Count_sim (p0 := y10.2.2) (H_p0 := boxA b1) (hS14.bun [0] [1, 2] rfl) (lnBox b1) hx13) rfl fun v12 T14 w14 im15 rv12 => ?_))))
                obtain ⟨rfl, hS15, _⟩ := rv12
                have hS15 : Sep g T14 w14 [R, boxA b1 [.slice a11 n8 c11], ownA rKindKnown 65 (.slice a11 n8 c11) y10.2.2.list] := hS15.unb
                refine gT (d0 := 85) rfl rfl hb7 (pv (r_mi rfl) (gT (d0 := 85) rfl rfl hb7 (pv (r_ib rfl rfl rfl) (pv (r_pkt rfl hb7 rfl) (pv (r_zb rfl) (nil (t_thenR [(6, .bool (y12 == y8))] ⟨rfl, trivial⟩ fun J => ?_)))))))
                have hm := Option.some.inj hm
                subst hm
                exact rtn (ret1 rfl rfl ⟨_, rfl, _, (Im.trans im1 (Im.trans im3 (Im.trans im4 (Im.trans im9 (Im.trans im10 (Im.trans im11 (Im.trans im12 (Im.trans im13 (Im.trans im14 im15))))))))), ⟨rfl, hS15.sel [0] rfl, trivial⟩⟩)
              · have hm := cfalse hb7 hm
                refine gF (d0 := 85) rfl rfl (by rw [hb7]; rfl) (gF (d0 := 85) rfl rfl (by rw [hb7]; rfl) (gF (d0 := 85) rfl rfl (by rw [hb7]; rfl) (gF (d0 := 85) rfl rfl (by rw [hb7]; rfl) (pv (r_pkf rfl hb7 rfl) (pv (r_zb rfl) (nil (t_thenR [(6, .bool false)] ⟨rfl, trivial⟩ fun J => ?_)))))))
                have hm := Option.some.inj hm
                subst hm
                exact rtn (ret1 rfl rfl ⟨_, rfl, _, (Im.trans im1 (Im.trans im3 (Im.trans im4 (Im.trans im9 (Im.trans im10 (Im.trans im11 (Im.trans im12 (Im.trans im13 im14)))))))), ⟨rfl, hS14.sel [0] rfl, trivial⟩⟩)
            · have hm := cfalse hb6 hm
              refine gF (d0 := 80) rfl rfl (by rw [hb6]; rfl) (gF (d0 := 80) rfl rfl (by rw [hb6]; rfl) (gF (d0 := 80) rfl rfl (by rw [hb6]; rfl) (pv (r_pkf rfl hb6 rfl) (pv (r_mb rfl) (gF (d0 := 85) rfl rfl rfl (gF (d0 := 85) rfl rfl rfl (gF (d0 := 85) rfl rfl rfl (gF (d0 := 85) rfl rfl rfl (pv (r_pkf rfl rfl rfl) (pv (r_zb rfl) (nil (t_thenR [(6, .bool false)] ⟨rfl, trivial⟩ fun J => ?_))))))))))))
              have hm := Option.some.inj hm
              subst hm
              exact rtn (ret1 rfl rfl ⟨_, rfl, _, (Im.trans im1 (Im.trans im3 (Im.trans im4 (Im.trans im9 (Im.trans im10 (Im.trans im11 (Im.trans im12 (Im.trans im13 im14)))))))), ⟨rfl, hS14.sel [0] rfl, trivial⟩⟩)
          · have hm := cfalse hb5 hm
            refine gF (d0 := 75) rfl rfl (by rw [hb5]; rfl) (gF (d0 := 75) rfl rfl (by rw [hb5]; rfl) (gF (d0 := 75) rfl rfl (by rw [hb5]; rfl) (pv (r_pkf rfl hb5 rfl) (pv (r_mb rfl) (gF (d0 := 80) rfl rfl rfl (gF (d0 := 80) rfl rfl rfl (gF (d0 := 80) rfl rfl rfl (pv (r_pkf rfl rfl rfl) (pv (r_mb rfl) (gF (d0 := 85) rfl rfl rfl (gF (d0 := 85) rfl rfl rfl (gF (d0 := 85) rfl rfl rfl (gF (d0 := 85) rfl rfl rfl (pv (r_pkf rfl rfl rfl) (pv (r_zb rfl) (nil (t_thenR [(6, .bool false)] ⟨rfl, trivial⟩ fun J => ?_)))))))))))))))))
            have hm := Option.some.inj hm
            subst hm
            exact rtn (ret1 rfl rfl ⟨_, rfl, _, (Im.trans im1 (Im.trans im3 (Im.trans im4 (Im.trans im9 (Im.trans im10 (Im.trans im11 (Im.trans im12 (Im.trans im13 im14)))))))), ⟨rfl, hS14.sel [0] rfl, trivial⟩⟩)
        · have hm := cfalse hb4 hm
          refine gF (d0 := 70) rfl rfl (by rw [hb4]; rfl) (gF (d0 := 70) rfl rfl (by rw [hb4]; rfl) (gF (d0 := 70) rfl rfl (by rw [hb4]; rfl) (pv (r_pkf rfl hb4 rfl) (pv (r_mb rfl) (gF (d0 := 75) rfl rfl rfl (gF (d0 := 75) rfl rfl rfl (gF (d0 := 75) rfl rfl rfl (pv (r_pkf rfl rfl rfl) (pv (r_mb rfl) (gF (d0 := 80) rfl rfl rfl (gF (d0 := 80) rfl rfl rfl (gF (d0 := 80) rfl rfl rfl (pv (r_pkf rfl rfl rfl) (pv (r_mb rfl) (gF (d0 := 85) rfl rfl rfl (gF (d0 := 85) rfl rfl rfl (gF (d0 := 85) rfl rfl rfl (gF (d0 := 85) rfl rfl rfl (pv (r_pkf rfl rfl rfl) (pv (r_zb rfl) (nil (t_thenR [(6, .bool false)] ⟨rfl, trivial⟩ fun J => ?_))))))))))))))))))))))
          have hm := Option.some.inj hm
          subst hm
          exact rtn (ret1 rfl rfl ⟨_, rfl, _, (Im.trans im1 (Im.trans im3 (Im.trans im4 (Im.trans im9 (Im.trans im10 (Im.trans im11 (Im.trans im12 (Im.trans im13 im14)))))))), ⟨rfl, hS14.sel [0] rfl, trivial⟩⟩)
      · have hm := cfalse hb3 hm
        refine gF (d0 := 65) rfl rfl (by rw [hb3]; rfl) (gF (d0 := 65) rfl rfl (by rw [hb3]; rfl) (gF (d0 := 65) rfl rfl (by rw [hb3]; rfl) (pv (r_pkf rfl hb3 rfl) (pv (r_mb rfl) (gF (d0 := 70) rfl rfl rfl (gF (d0 := 70) rfl rfl rfl (gF (d0 := 70) rfl rfl rfl (pv (r_pkf rfl rfl rfl) (pv (r_mb rfl) (gF (d0 := 75) rfl rfl rfl (gF (d0 := 75) rfl rfl rfl (gF (d0 := 75) rfl rfl rfl (pv (r_pkf rfl rfl rfl) (pv (r_mb rfl) (gF (d0 := 80) rfl rfl rfl (gF (d0 := 80) rfl rfl rfl (gF (d0 := 80) rfl rfl rfl (pv (r_pkf rfl rfl rfl) (pv (r_mb rfl) (gF (d0 := 85) rfl rfl rfl (gF (d0 := 85) rfl rfl rfl (gF (d0 := 85) rfl rfl rfl (gF (d0 := 85) rfl rfl rfl (pv (r_pkf rfl rfl rfl) (pv (r_zb rfl) (nil (t_thenR [(6, .bool false)] ⟨rfl, trivial⟩ fun J => ?_)))))))))))))))))))))))))))
        have hm := Option.some.inj hm
        subst hm
        exact rtn (ret1 rfl rfl ⟨_, rfl, _, (Im.trans im1 (Im.trans im3 (Im.trans im4 (Im.trans im9 (Im.trans im10 (Im.trans im11 (Im.trans im12 (Im.trans im13 im14)))))))), ⟨rfl, hS14.sel [0] rfl, trivial⟩⟩)

set_option maxRecDepth 100000 in
set_option maxHeartbeats 1000000 in
theorem kind_Table_Find_sim {g : World} {T0 : Nat → Prop} {w0 : World} {R : Assn} {p0 : KindTable} {b_p0 o_p0 : Nat} {H_p0 : List Value → Assn} {a1 : Option Addr} {n1 : Nat} {c1 : Nat} {p1 : List UInt8} {r : Int × Int} (hS : Sep g T0 w0 [R, H_p0 [.slice a1 n1 c1], ownA rKindKnown 65 (.slice a1 n1 c1) p0.list]) (hL_p0 : Ln b_p0 o_p0 H_p0) (hm : kind_Table_Find p0 p1 = some r) :
    Calls Try.prog 16 #[.pointer (some ⟨b_p0, o_p0, none⟩), .string ⟨p1.toArray⟩] w0 (RetS T0 w0 fun T w v => v = .tuple #[.int .i64 r.1, .int .i64 r.2] ∧ Sep g T w [R, H_p0 [.slice a1 n1 c1], ownA rKindKnown 65 (.slice a1 n1 c1) p0.list] ∧ True) := by
  refine enter (args := [.pointer (some ⟨b_p0, o_p0, none⟩), .string ⟨p1.toArray⟩]) Try.func16 rfl Try.ntmps16 rfl fun J => ?_
  unfold kind_Table_Find at hm
  refine sq2 ?_
  refine rg (pv (r_zi rfl) (pv (r_zi rfl) (nil (t_then ?_))))
  refine sq2 ?_
  refine sq2 ?_
  refine rg (pv (r_mp rfl) (pv (r_pne rfl rfl rfl Try.underlying25) (nil (t_then ?_))))
  refine cnd (b := false) rfl (fun h => nomatch h) (fun _ => ?_)
  refine skp (t_then ?_)
  refine sq2 ?_
  obtain ⟨y1, hx1, hm⟩ := bindS hm
  refine rg (pv (r_mp rfl) (pv (r_mt rfl) (wl rfl (calS cf35 rfl (kind_Table_named_sim (p0 := p0) (H_p0 := H_p0) (p1 := p1) (hS.bun [0] [1, 2] rfl) hL_p0 hx1) rfl fun v1 T1 w1 im1 rv1 => ?_))))
  obtain ⟨rfl, hS1, _⟩ := rv1
  have hS1 : Sep g T1 w1 [R, H_p0 [.slice a1 n1 c1], ownA rKindKnown 65 (.slice a1 n1 c1) p0.list] := hS1.unb
  refine pv (r_zi rfl) (nil (t_thenR [(6, .int .i64 y1)] ⟨rfl, trivial⟩ fun J => ?_))
  refine sq2 ?_
  refine sq2 ?_
  refine rg (pv (r_mi rfl) (pv (r_ib rfl rfl rfl) (nil (t_then ?_))))
  refine cnd rfl (fun hb2 => ?_) (fun hb2 => ?_)
  · have hm := ctrue hb2 hm
    refine sq2 ?_
    refine rg (pv (r_zi rfl) (pv (r_zi rfl) (nil (t_then ?_))))
    have hm := Option.some.inj hm
    subst hm
    exact rtn (r_then (retN (vs := [.int .i64 0, .int .i64 4]) rfl ⟨rfl, rfl, trivial⟩ rfl ⟨_, rfl, _, im1, ⟨rfl, hS1.sel [0, 1, 2] rfl, trivial⟩⟩))
  · have hm := cfalse hb2 hm
    refine skp (t_then ?_)
    refine sq2 ?_
    refine rg (pv (r_mi rfl) (pv (r_zi rfl) (pv (r_zi rfl) (nil (t_then ?_)))))
    have hm := Option.some.inj hm
    subst hm
    exact rtn (retN (vs := [.int .i64 y1, .int .i64 0]) rfl ⟨rfl, rfl, trivial⟩ rfl ⟨_, rfl, _, im1, ⟨rfl, hS1.sel [0, 1, 2] rfl, trivial⟩⟩)
end Go.Proofs.Ytjbmmcbpdodalaa
