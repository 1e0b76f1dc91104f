/- That Go functions compute their models. Printed by gen2.py. -/
import Derived.Test.YteoihjfnojgnnaaWd
set_option linter.unusedVariables false
namespace Go.Proofs.Yteoihjfnojgnnaa
attribute [local irreducible] wpList wpQuiet Code.wp

set_option maxRecDepth 100000 in
set_option maxHeartbeats 1000000 in
theorem law24_AllocRanges_sim {g : World} {T0 : Nat → Prop} {w0 : World} {R : Assn} {p0 : GModule} {a1 : Option Addr} {c1 : Nat} {a2 : Option Addr} {c2 : Nat} {a3 : Option Addr} {c3 : Nat} {p1 : Int} {r : Bool} (hS : Sep g T0 w0 [R]) (h1 : SlR rGSlot T0 w0 (.slice a1 (List.length p0.Globals) c1) p0.Globals) (h2 : SlR (rSl (rInt .u8)) T0 w0 (.slice a2 (List.length p0.Data) c2) p0.Data) (h3 : SlR rProc T0 w0 (.slice a3 (List.length p0.Procs) c3) p0.Procs) (hm : law24_AllocRanges p0 p1 = some r) :
    Calls Try.prog 5 #[.agg #[.slice a1 (List.length p0.Globals) c1, .slice a2 (List.length p0.Data) c2, .slice a3 (List.length p0.Procs) c3, .int .i64 p0.Main], .int .i64 p1] w0 (RetS T0 w0 fun T w v => v = .bool r ∧ Sep g T w [R] ∧ True) := by
  refine enter (args := [.agg #[.slice a1 (List.length p0.Globals) c1, .slice a2 (List.length p0.Data) c2, .slice a3 (List.length p0.Procs) c3, .int .i64 p0.Main], .int .i64 p1]) Try.func5 rfl Try.ntmps5 rfl fun J => ?_
  unfold law24_AllocRanges at hm
  refine sq2 ?_
  refine rg (wl rfl (bxS (cs := [.slice a1 (List.length p0.Globals) c1, .slice a2 (List.length p0.Data) c2, .slice a3 (List.length p0.Procs) c3, .int .i64 p0.Main]) rfl rfl hS fun w1 b1 im1 hS1 => ?_))
  refine pv (r_zb rfl) (nil (t_then ?_))
  refine sq2 ?_
  refine sq2 ?_
  obtain ⟨y1, hx1, hm⟩ := bindS hm
  refine rg (pv (r_ldS rfl Try.isAgg26 Try.sizeOf26 rfl (hS1.cells0 (i := 0) ⟨rfl, rfl⟩ (o := 0) rfl) (cs := [.slice a1 (List.length p0.Globals) c1, .slice a2 (List.length p0.Data) c2, .slice a3 (List.length p0.Procs) c3, .int .i64 p0.Main])) (pv (r_mi rfl) (wl rfl (calS cf6 rfl (law24_few_sim (p0 := p0) (p1 := p1) (hS1.bun [0, 1] [] rfl) (h1.mono im1) (h2.mono im1) (h3.mono im1) hx1) rfl fun v1 T1 w2 im2 rv1 => ?_))))
  obtain ⟨rfl, hS2, _⟩ := rv1
  have hS2 : Sep g T1 w2 [boxA b1 [.slice a1 (List.length p0.Globals) c1, .slice a2 (List.length p0.Data) c2, .slice a3 (List.length p0.Procs) c3, .int .i64 p0.Main], R] := hS2.unb
  refine pv (r_nt rfl) (nil (t_thenR [(1, .int .i64 p1), (2, .pointer (some ⟨b1, 0, none⟩)), (14, .bool (!y1))] ⟨rfl, rfl, rfl, trivial⟩ fun J => ?_))
  refine cnd rfl (fun hb1 => ?_) (fun hb1 => ?_)
  · have hm := ctrue hb1 hm
    refine sq2 ?_
    obtain ⟨y2, hx2, hm⟩ := bindS hm
    refine rg (wl rfl (calS cf7 rfl (law24_awake_sim  (hS2.bun [1] [] rfl)  hx2) rfl fun v2 T2 w3 im3 rv2 => ?_))
    obtain ⟨rfl, hS3, _⟩ := rv2
    have hS3 : Sep g T2 w3 [R] := hS3.unb
    refine pv (r_zb rfl) (nil (t_then ?_))
    have hm := Option.some.inj hm
    subst hm
    exact rtn (r_then (ret1 rfl rfl ⟨_, rfl, _, (Im.trans im1 (Im.trans im2 im3)), ⟨rfl, hS3.sel [0] rfl, trivial⟩⟩))
  · have hm := cfalse hb1 hm
    refine skp (t_then ?_)
    refine sq2 ?_
    obtain ⟨u1, hx3, hm⟩ := bindS hm
    obtain ⟨b2, of1, cs1, k1, cp1, hv1, hp1, hl1, he1, hr1, hc1, hT1⟩ := (h3.mono (Im.trans im1 im2)).ixT hx3 rfl
    obtain ⟨a4, c4, a5, c5, rfl, h4, h5⟩ := rProc_open hr1
    refine rg (pv (r_fa rfl Try.underlying26 rfl Try.sizeOf24 rfl) (pv (r_ld rfl Try.isAgg24 (hS2.cell0 (i := 0) ⟨rfl, rfl⟩ (j := 2) rfl)) (pv (r_mi rfl) (pv (r_ixe hv1 rfl Try.underlying24 Try.sizeOf31 hp1 hl1 he1) (pv (r_ldS rfl Try.isAgg31 Try.sizeOf31 rfl hc1 (cs := [.string ⟨u1.Name.toArray⟩, .bool u1.Void, .int .i64 u1.Params, .int .i64 u1.Regs, .slice a4 (List.length u1.Objects) c4, .slice a5 (List.length u1.Blocks) c5])) (wl rfl (alS (zs := [.string ⟨([] : List UInt8).toArray⟩, .bool false, .int .i64 0, .int .i64 0, .slice none 0 0, .slice none 0 0]) Try.zeroValue31 rfl hS2 fun w4 b3 im4 hS4 => ?_)))))))
    refine wl rfl (st0B (q := 0) hS4 ⟨rfl, rfl⟩ rfl rfl rfl Try.sizeOf31 rfl rfl rfl fun w5 im5 hS5 => ?_)
    have hS5 : Sep g T1 w5 [boxA b3 [.string ⟨u1.Name.toArray⟩, .bool u1.Void, .int .i64 u1.Params, .int .i64 u1.Regs, .slice a4 (List.length u1.Objects) c4, .slice a5 (List.length u1.Blocks) c5], boxA b1 [.slice a1 (List.length p0.Globals) c1, .slice a2 (List.length p0.Data) c2, .slice a3 (List.length p0.Procs) c3, .int .i64 p0.Main], R] := hS5
    refine nil (t_thenR [(5, .pointer (some ⟨b3, 0, none⟩))] ⟨rfl, trivial⟩ fun J => ?_)
    refine sq2 ?_
    refine sq2 ?_
    refine rg (pv (r_zi rfl) (nil (t_then ?_)))
    obtain ⟨o1, ho1, hq1⟩ := bindS hm
    obtain ⟨bd1, hbd1, ho1⟩ := loop_open ho1
    refine blk (wp_loop_ghost (fun m a w6 => ∃ (J : Nat → Value) (T3 : Nat → Prop) (x1 : Int), a = env (nf 62) J [(5, .pointer (some ⟨b3, 0, none⟩)), (6, .int .i64 x1)] ∧ Im T1 w5 T3 w6 ∧ Sep g T3 w6 [boxA b3 [.string ⟨u1.Name.toArray⟩, .bool u1.Void, .int .i64 u1.Params, .int .i64 u1.Regs, .slice a4 (List.length u1.Objects) c4, .slice a5 (List.length u1.Blocks) c5], R] ∧ loopM bd1 m x1 = some o1) NN ⟨_, _, (-1), env_has ⟨rfl, rfl, trivial⟩, Im.refl, hS5.sel [0, 2] rfl, ho1⟩ ?_)
    rintro m _ w6 ⟨J, T3, x1, rfl, im6, hS6, ho1⟩
    obtain ⟨m1, z1, rfl, hm, hn1⟩ := loop_round ho1
    rw [hbd1] at hm
    refine sq2 ?_
    refine sq2 ?_
    refine rg (pv (r_mi rfl) (pv (r_fa rfl Try.underlying31 rfl Try.sizeOf3 rfl) (pv (r_ld rfl Try.isAgg3 (hS6.cell0 (i := 0) ⟨rfl, rfl⟩ (j := 3) rfl)) (pv (r_ib rfl rfl rfl) (nil (t_then ?_))))))
    refine cnd rfl (fun hb2 => ?_) (fun hb2 => ?_)
    · have hm := ctrue hb2 hm
      refine skp (t_then ?_)
      refine sq2 ?_
      refine blk ?_
      refine sq2 ?_
      obtain ⟨y3, hx4, hm⟩ := bindS hm
      refine rg (pv (r_ldS rfl Try.isAgg31 Try.sizeOf31 rfl (hS6.cells0 (i := 0) ⟨rfl, rfl⟩ (o := 0) rfl) (cs := [.string ⟨u1.Name.toArray⟩, .bool u1.Void, .int .i64 u1.Params, .int .i64 u1.Regs, .slice a4 (List.length u1.Objects) c4, .slice a5 (List.length u1.Blocks) c5])) (pv (r_mi rfl) (wl rfl (calS cf13 rfl (alloc_Range_sim (p0 := u1) (p1 := x1) (hS6.bun [0, 1] [] rfl) (h4.mono (Im.trans im4 (Im.trans im5 im6))) (h5.mono (Im.trans im4 (Im.trans im5 im6))) hx4) rfl fun v3 T4 w7 im7 rv3 => ?_))))
      obtain ⟨rfl, hS7, _⟩ := rv3
      have hS7 : Sep g T4 w7 [boxA b3 [.string ⟨u1.Name.toArray⟩, .bool u1.Void, .int .i64 u1.Params, .int .i64 u1.Regs, .slice a4 (List.length u1.Objects) c4, .slice a5 (List.length u1.Blocks) c5], R] := hS7.unb
      refine pv (r_mv rfl) (pv (r_ex (v := .int .i64 y3.1) rfl rfl) (pv (r_ex (v := .int .i64 y3.2.1) rfl rfl) (pv (r_ex (v := .bool y3.2.2) rfl rfl) (pv (r_zi rfl) (pv (r_zi rfl) (pv (r_zb rfl) (nil (t_thenR [(5, .pointer (some ⟨b3, 0, none⟩)), (6, .int .i64 x1), (7, .int .i64 y3.1), (8, .int .i64 y3.2.1), (9, .bool y3.2.2)] ⟨rfl, rfl, rfl, rfl, rfl, trivial⟩ fun J => ?_))))))))
      refine sq2 ?_
      refine rg (wl rfl (alS (zs := [.int .i64 0, .int .i64 0, .int .i64 0, .bool false]) Try.zeroValue54 rfl hS7 fun w8 b4 im8 hS8 => ?_))
      refine nil (t_then ?_)
      obtain ⟨kk1, hkk1, hm⟩ := jn_open hm
      refine cut (fun a w9 => ∃ (J : Nat → Value) (T5 : Nat → Prop) (x2 : ref24Reach), a = env (nf 62) J [(5, .pointer (some ⟨b3, 0, none⟩)), (6, .int .i64 x1), (7, .int .i64 y3.1), (8, .int .i64 y3.2.1), (9, .bool y3.2.2), (10, .pointer (some ⟨b4, 0, none⟩))] ∧ Im T4 w8 T5 w9 ∧ Sep g T5 w9 [boxA b4 [.int .i64 x2.R, .int .i64 x2.From, .int .i64 x2.To, .bool x2.Is], boxA b3 [.string ⟨u1.Name.toArray⟩, .bool u1.Void, .int .i64 u1.Params, .int .i64 u1.Regs, .slice a4 (List.length u1.Objects) c4, .slice a5 (List.length u1.Blocks) c5], R] ∧ kk1 x2 = some z1) ?_ ?_
      · refine sq2 ?_
        refine rg (pv (r_mi rfl) (pv (r_ib rfl rfl rfl) (pv (r_mb rfl) (?_))))
        rcases Bool.eq_false_or_eq_true (decide (0 ≤ x1)) with hb3 | hb3
        · have hm := ctrue hb3 hm
          refine gT (d0 := 36) rfl rfl hb3 (pv (r_mi rfl) (gT (d0 := 36) rfl rfl hb3 (pv (r_fa rfl Try.underlying31 rfl Try.sizeOf3 rfl) (gT (d0 := 36) rfl rfl hb3 (pv (r_ld rfl Try.isAgg3 (hS8.cell0 (i := 1) ⟨rfl, rfl⟩ (j := 3) rfl)) (gT (d0 := 36) rfl rfl hb3 (pv (r_ib rfl rfl rfl) (pv (r_pkt rfl hb3 rfl) (nil (t_thenR [(5, .pointer (some ⟨b3, 0, none⟩)), (6, .int .i64 x1), (7, .int .i64 y3.1), (8, .int .i64 y3.2.1), (9, .bool y3.2.2), (10, .pointer (some ⟨b4, 0, none⟩)), (41, .bool (decide (x1 < u1.Regs)))] ⟨rfl, rfl, rfl, rfl, rfl, rfl, rfl, trivial⟩ fun J => ?_))))))))))
          refine cnd rfl (fun hb4 => ?_) (fun hb4 => ?_)
          · have hm := ctrue hb4 hm
            obtain ⟨y4, hx5, hm⟩ := bindS hm
            refine rg (pv (r_ldS rfl Try.isAgg31 Try.sizeOf31 rfl (hS8.cells0 (i := 1) ⟨rfl, rfl⟩ (o := 0) rfl) (cs := [.string ⟨u1.Name.toArray⟩, .bool u1.Void, .int .i64 u1.Params, .int .i64 u1.Regs, .slice a4 (List.length u1.Objects) c4, .slice a5 (List.length u1.Blocks) c5])) (pv (r_mi rfl) (wl rfl (calS cf14 rfl (ref24_Range_sim (p0 := u1) (p1 := x1) (hS8.bun [0, 1, 2] [] rfl) (h4.mono (Im.trans im4 (Im.trans im5 (Im.trans im6 (Im.trans im7 im8))))) (h5.mono (Im.trans im4 (Im.trans im5 (Im.trans im6 (Im.trans im7 im8))))) hx5) rfl fun v4 T6 w10 im10 rv4 => ?_))))
            obtain ⟨rfl, hS9, _⟩ := rv4
            have hS9 : Sep g T6 w10 [boxA b4 [.int .i64 0, .int .i64 0, .int .i64 0, .bool false], boxA b3 [.string ⟨u1.Name.toArray⟩, .bool u1.Void, .int .i64 u1.Params, .int .i64 u1.Regs, .slice a4 (List.length u1.Objects) c4, .slice a5 (List.length u1.Blocks) c5], R] := hS9.unb
            refine wl rfl (st0B (q := 0) hS9 ⟨rfl, rfl⟩ rfl rfl rfl Try.sizeOf54 rfl rfl rfl fun w11 im11 hS10 => ?_)
            have hS10 : Sep g T6 w11 [boxA b4 [.int .i64 y4.R, .int .i64 y4.From, .int .i64 y4.To, .bool y4.Is], boxA b3 [.string ⟨u1.Name.toArray⟩, .bool u1.Void, .int .i64 u1.Params, .int .i64 u1.Regs, .slice a4 (List.length u1.Objects) c4, .slice a5 (List.length u1.Blocks) c5], R] := hS10
            exact nil (t_then ⟨_, _, y4, env_has ⟨rfl, rfl, rfl, rfl, rfl, rfl, trivial⟩, (Im.trans im10 im11), hS10.sel [0, 1, 2] rfl, hm⟩)
          · have hm := cfalse hb4 hm
            exact skp (t_then ⟨_, _, (⟨0, 0, 0, false⟩ : ref24Reach), env_has ⟨rfl, rfl, rfl, rfl, rfl, rfl, trivial⟩, Im.refl, hS8.sel [0, 1, 2] rfl, hm⟩)
        · have hm := cfalse hb3 hm
          refine gF (d0 := 36) rfl rfl (by rw [hb3]; rfl) (gF (d0 := 36) rfl rfl (by rw [hb3]; rfl) (gF (d0 := 36) rfl rfl (by rw [hb3]; rfl) (gF (d0 := 36) rfl rfl (by rw [hb3]; rfl) (pv (r_pkf rfl hb3 rfl) (nil (t_thenR [(5, .pointer (some ⟨b3, 0, none⟩)), (6, .int .i64 x1), (7, .int .i64 y3.1), (8, .int .i64 y3.2.1), (9, .bool y3.2.2), (10, .pointer (some ⟨b4, 0, none⟩)), (41, .bool false)] ⟨rfl, rfl, rfl, rfl, rfl, rfl, rfl, trivial⟩ fun J => ?_))))))
          refine cnd (b := false) rfl (fun h => nomatch h) (fun _ => ?_)
          exact skp (t_then ⟨_, _, (⟨0, 0, 0, false⟩ : ref24Reach), env_has ⟨rfl, rfl, rfl, rfl, rfl, rfl, trivial⟩, Im.refl, hS8.sel [0, 1, 2] rfl, hm⟩)
      · rintro _ w9 ⟨J, T5, x2, rfl, im9, hS11, hm⟩
        rw [hkk1] at hm
        refine sq2 ?_
        refine rg (pv (r_mi rfl) (pv (r_fa rfl Try.underlying54 rfl Try.sizeOf3 rfl) (pv (r_ld rfl Try.isAgg3 (hS11.cell0 (i := 0) ⟨rfl, rfl⟩ (j := 1) rfl)) (pv (r_ib rfl rfl rfl) (pv (r_mb rfl) (?_))))))
        rcases Bool.eq_false_or_eq_true (y3.1 != x2.From) with hb6 | hb6
        · have hm := ctrue hb6 hm
          refine gF (d0 := 49) rfl rfl (by rw [hb6]; rfl) (gF (d0 := 49) rfl rfl (by rw [hb6]; rfl) (gF (d0 := 49) rfl rfl (by rw [hb6]; rfl) (gF (d0 := 49) rfl rfl (by rw [hb6]; rfl) (pv (r_pkt rfl hb6 rfl) (pv (r_mb rfl) (gF (d0 := 55) rfl rfl rfl (gF (d0 := 55) rfl rfl rfl (gF (d0 := 55) rfl rfl rfl (gF (d0 := 55) rfl rfl rfl (pv (r_pkt rfl rfl rfl) (nil (t_thenR [(5, .pointer (some ⟨b3, 0, none⟩)), (6, .int .i64 x1), (60, .bool true)] ⟨rfl, rfl, rfl, trivial⟩ fun J => ?_))))))))))))
          refine cnd (b := true) rfl (fun _ => ?_) (fun h => nomatch h)
          refine sq2 ?_
          refine rg (pv (r_zb rfl) (nil (t_then ?_)))
          have hm := Option.some.inj hm
          subst hm
          have hn1 : _ = Lp.ret _ := hn1
          subst hn1
          have hm := thn_ret hq1
          have hm := Option.some.inj hm
          subst hm
          exact rtn (r_blk (r_then (r_then (r_blk (r_then (ret1 rfl rfl ⟨_, rfl, _, (Im.trans im1 (Im.trans im2 (Im.trans im4 (Im.trans im5 (Im.trans im6 (Im.trans im7 (Im.trans im8 im9))))))), ⟨rfl, hS11.sel [2] rfl, trivial⟩⟩))))))
        · have hm := cfalse hb6 hm
          refine gT (d0 := 49) rfl rfl hb6 (pv (r_mi rfl) (gT (d0 := 49) rfl rfl hb6 (pv (r_fa rfl Try.underlying54 rfl Try.sizeOf3 rfl) (gT (d0 := 49) rfl rfl hb6 (pv (r_ld rfl Try.isAgg3 (hS11.cell0 (i := 0) ⟨rfl, rfl⟩ (j := 2) rfl)) (gT (d0 := 49) rfl rfl hb6 (pv (r_ib rfl rfl rfl) (pv (r_pkf rfl hb6 rfl) (pv (r_mb rfl) (?_))))))))))
          rcases Bool.eq_false_or_eq_true (y3.2.1 != x2.To) with hb7 | hb7
          · have hm := ctrue hb7 hm
            refine gF (d0 := 55) rfl rfl (by rw [hb7]; rfl) (gF (d0 := 55) rfl rfl (by rw [hb7]; rfl) (gF (d0 := 55) rfl rfl (by rw [hb7]; rfl) (gF (d0 := 55) rfl rfl (by rw [hb7]; rfl) (pv (r_pkt rfl hb7 rfl) (nil (t_thenR [(5, .pointer (some ⟨b3, 0, none⟩)), (6, .int .i64 x1), (60, .bool true)] ⟨rfl, rfl, rfl, trivial⟩ fun J => ?_))))))
            refine cnd (b := true) rfl (fun _ => ?_) (fun h => nomatch h)
            refine sq2 ?_
            refine rg (pv (r_zb rfl) (nil (t_then ?_)))
            have hm := Option.some.inj hm
            subst hm
            have hn1 : _ = Lp.ret _ := hn1
            subst hn1
            have hm := thn_ret hq1
            have hm := Option.some.inj hm
            subst hm
            exact rtn (r_blk (r_then (r_then (r_blk (r_then (ret1 rfl rfl ⟨_, rfl, _, (Im.trans im1 (Im.trans im2 (Im.trans im4 (Im.trans im5 (Im.trans im6 (Im.trans im7 (Im.trans im8 im9))))))), ⟨rfl, hS11.sel [2] rfl, trivial⟩⟩))))))
          · have hm := cfalse hb7 hm
            refine gT (d0 := 55) rfl rfl hb7 (pv (r_mb rfl) (gT (d0 := 55) rfl rfl hb7 (pv (r_fa rfl Try.underlying54 rfl Try.sizeOf4 rfl) (gT (d0 := 55) rfl rfl hb7 (pv (r_ld rfl Try.isAgg4 (hS11.cell0 (i := 0) ⟨rfl, rfl⟩ (j := 3) rfl)) (gT (d0 := 55) rfl rfl hb7 (pv (r_bn rfl rfl Try.underlying4) (pv (r_pkf rfl hb7 rfl) (nil (t_thenR [(5, .pointer (some ⟨b3, 0, none⟩)), (6, .int .i64 x1), (60, .bool (!(y3.2.2 == x2.Is)))] ⟨rfl, rfl, rfl, trivial⟩ fun J => ?_))))))))))
            refine cnd rfl (fun hb8 => ?_) (fun hb8 => ?_)
            · have hm := ctrue hb8 hm
              refine sq2 ?_
              refine rg (pv (r_zb rfl) (nil (t_then ?_)))
              have hm := Option.some.inj hm
              subst hm
              have hn1 : _ = Lp.ret _ := hn1
              subst hn1
              have hm := thn_ret hq1
              have hm := Option.some.inj hm
              subst hm
              exact rtn (r_blk (r_then (r_then (r_blk (r_then (ret1 rfl rfl ⟨_, rfl, _, (Im.trans im1 (Im.trans im2 (Im.trans im4 (Im.trans im5 (Im.trans im6 (Im.trans im7 (Im.trans im8 im9))))))), ⟨rfl, hS11.sel [2] rfl, trivial⟩⟩))))))
            · have hm := cfalse hb8 hm
              refine skp (t_blk (t_then ?_))
              have hm := Option.some.inj hm
              subst hm
              exact rg (pv (r_mi rfl) (pv (r_ib rfl rfl rfl) (pv (r_zi rfl) (nil (t_then ⟨m1, Nat.lt_succ_self _, _, _, (IntKind.wrap .i64 (x1 + 1)), env_has ⟨rfl, rfl, trivial⟩, (Im.trans im6 (Im.trans im7 (Im.trans im8 im9))), hS11.sel [1, 2] rfl, hn1⟩)))))
    · have hm := cfalse hb2 hm
      have hm := Option.some.inj hm
      subst hm
      have hn1 : _ = Lp.brk _ := hn1
      subst hn1
      have hm := thn_brk hq1
      refine xt (x_then (x_then (x_eq (t_thenR [] trivial fun J => ?_))))
      refine sq2 ?_
      obtain ⟨y5, hx6, hm⟩ := bindS hm
      refine rg (wl rfl (calS cf7 rfl (law24_awake_sim  (hS6.bun [1] [] rfl)  hx6) rfl fun v5 T7 w12 im12 rv5 => ?_))
      obtain ⟨rfl, hS12, _⟩ := rv5
      have hS12 : Sep g T7 w12 [R] := hS12.unb
      refine pv (r_zb rfl) (nil (t_then ?_))
      have hm := Option.some.inj hm
      subst hm
      exact rtn (ret1 rfl rfl ⟨_, rfl, _, (Im.trans im1 (Im.trans im2 (Im.trans im4 (Im.trans im5 (Im.trans im6 im12))))), ⟨rfl, hS12.sel [0] rfl, trivial⟩⟩)
end Go.Proofs.Yteoihjfnojgnnaa
