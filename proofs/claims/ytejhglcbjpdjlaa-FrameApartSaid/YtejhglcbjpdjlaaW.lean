/- That Go functions compute their models. Printed by gen2.py. -/
import Derived.Test.YtejhglcbjpdjlaaWa
set_option linter.unusedVariables false
namespace Go.Proofs.Ytejhglcbjpdjlaa
attribute [local irreducible] wpList wpQuiet Code.wp

set_option maxRecDepth 100000 in
set_option maxHeartbeats 1000000 in
theorem law25_FrameApart_sim {g : World} {T0 : Nat → Prop} {w0 : World} {R : Assn} {p0 : Proc} {a1 : Option Addr} {c1 : Nat} {a2 : Option Addr} {c2 : Nat} {p1 : List Seat} {a3 : Option Addr} {c3 : Nat} {p2 : Int} {r : Bool} (hS : Sep g T0 w0 [R]) (h1 : SlR rGSlot T0 w0 (.slice a1 (List.length p0.Objects) c1) p0.Objects) (h2 : SlR rGBlock T0 w0 (.slice a2 (List.length p0.Blocks) c2) p0.Blocks) (h3 : SlR rSeat T0 w0 (.slice a3 (List.length p1) c3) p1) (hm : law25_FrameApart p0 p1 p2 = some r) :
    Calls Try.prog 4 #[.agg #[.string ⟨p0.Name.toArray⟩, .bool p0.Void, .int .i64 p0.Params, .int .i64 p0.Regs, .slice a1 (List.length p0.Objects) c1, .slice a2 (List.length p0.Blocks) c2], .slice a3 (List.length p1) c3, .int .i64 p2] w0 (RetS T0 w0 fun T w v => v = .bool r ∧ Sep g T w [R] ∧ True) := by
  refine enter (args := [.agg #[.string ⟨p0.Name.toArray⟩, .bool p0.Void, .int .i64 p0.Params, .int .i64 p0.Regs, .slice a1 (List.length p0.Objects) c1, .slice a2 (List.length p0.Blocks) c2], .slice a3 (List.length p1) c3, .int .i64 p2]) Try.func4 rfl Try.ntmps4 rfl fun J => ?_
  unfold law25_FrameApart at hm
  refine sq2 ?_
  refine rg (wl rfl (bxS (cs := [.string ⟨p0.Name.toArray⟩, .bool p0.Void, .int .i64 p0.Params, .int .i64 p0.Regs, .slice a1 (List.length p0.Objects) c1, .slice a2 (List.length p0.Blocks) c2]) rfl rfl hS fun w1 b1 im1 hS1 => ?_))
  refine pv (r_zb rfl) (nil (t_then ?_))
  refine sq2 ?_
  refine sq2 ?_
  obtain ⟨y1, hx1, hm⟩ := bindS hm
  refine rg (pv (r_ldS rfl Try.isAgg25 Try.sizeOf25 rfl (hS1.cells0 (i := 0) ⟨rfl, rfl⟩ (o := 0) rfl) (cs := [.string ⟨p0.Name.toArray⟩, .bool p0.Void, .int .i64 p0.Params, .int .i64 p0.Regs, .slice a1 (List.length p0.Objects) c1, .slice a2 (List.length p0.Blocks) c2])) (pv (r_ms rfl) (wl rfl (calS cf5 rfl (law25_few_sim (p0 := p0) (p1 := p1) (hS1.bun [0, 1] [] rfl) (h1.mono im1) (h2.mono im1) (h3.mono im1) hx1) rfl fun v1 T1 w2 im2 rv1 => ?_))))
  obtain ⟨rfl, hS2, _⟩ := rv1
  have hS2 : Sep g T1 w2 [boxA b1 [.string ⟨p0.Name.toArray⟩, .bool p0.Void, .int .i64 p0.Params, .int .i64 p0.Regs, .slice a1 (List.length p0.Objects) c1, .slice a2 (List.length p0.Blocks) c2], R] := hS2.unb
  refine pv (r_nt rfl) (pv (r_mb rfl) (?_))
  rcases Bool.eq_false_or_eq_true (!y1) with hb1 | hb1
  · have hm := ctrue hb1 hm
    refine gF (d0 := 21) rfl rfl (by rw [hb1]; rfl) (gF (d0 := 21) rfl rfl (by rw [hb1]; rfl) (pv (r_pkt rfl hb1 rfl) (pv (r_mb rfl) (gF (d0 := 25) rfl rfl rfl (gF (d0 := 25) rfl rfl rfl (pv (r_pkt rfl rfl rfl) (nil (t_thenR [(1, .slice a3 (List.length p1) c3), (2, .int .i64 p2), (3, .pointer (some ⟨b1, 0, none⟩)), (28, .bool true)] ⟨rfl, rfl, rfl, rfl, trivial⟩ fun J => ?_))))))))
    refine cnd (b := true) rfl (fun _ => ?_) (fun h => nomatch h)
    refine sq2 ?_
    obtain ⟨y9, hx23, hm⟩ := bindS hm
    refine rg (wl rfl (calS cf6 rfl (law25_awake_sim  (hS2.bun [1] [] rfl)  hx23) rfl fun v9 T18 w37 im37 rv9 => ?_))
    obtain ⟨rfl, hS37, _⟩ := rv9
    have hS37 : Sep g T18 w37 [R] := hS37.unb
    refine pv (r_zb rfl) (nil (t_thenR [(6, .bool y9)] ⟨rfl, trivial⟩ fun J => ?_))
    have hm := Option.some.inj hm
    subst hm
    exact rtn (r_then (ret1 rfl rfl ⟨_, rfl, _, (Im.trans im1 (Im.trans im2 im37)), ⟨rfl, hS37.sel [0] rfl, trivial⟩⟩))
  · have hm := cfalse hb1 hm
    refine gT (d0 := 21) rfl rfl hb1 (pv (r_mi rfl) (gT (d0 := 21) rfl rfl hb1 (pv (r_ib rfl rfl rfl) (pv (r_pkf rfl hb1 rfl) (pv (r_mb rfl) (?_))))))
    rcases Bool.eq_false_or_eq_true (decide (p2 < 0)) with hb2 | hb2
    · have hm := ctrue hb2 hm
      refine gF (d0 := 25) rfl rfl (by rw [hb2]; rfl) (gF (d0 := 25) rfl rfl (by rw [hb2]; rfl) (pv (r_pkt rfl hb2 rfl) (nil (t_thenR [(1, .slice a3 (List.length p1) c3), (2, .int .i64 p2), (3, .pointer (some ⟨b1, 0, none⟩)), (28, .bool true)] ⟨rfl, rfl, rfl, rfl, trivial⟩ fun J => ?_))))
      refine cnd (b := true) rfl (fun _ => ?_) (fun h => nomatch h)
      refine sq2 ?_
      obtain ⟨y8, hx22, hm⟩ := bindS hm
      refine rg (wl rfl (calS cf6 rfl (law25_awake_sim  (hS2.bun [1] [] rfl)  hx22) rfl fun v8 T17 w36 im36 rv8 => ?_))
      obtain ⟨rfl, hS36, _⟩ := rv8
      have hS36 : Sep g T17 w36 [R] := hS36.unb
      refine pv (r_zb rfl) (nil (t_thenR [(6, .bool y8)] ⟨rfl, trivial⟩ fun J => ?_))
      have hm := Option.some.inj hm
      subst hm
      exact rtn (r_then (ret1 rfl rfl ⟨_, rfl, _, (Im.trans im1 (Im.trans im2 im36)), ⟨rfl, hS36.sel [0] rfl, trivial⟩⟩))
    · have hm := cfalse hb2 hm
      refine gT (d0 := 25) rfl rfl hb2 (pv (r_mi rfl) (gT (d0 := 25) rfl rfl hb2 (pv (r_ib rfl rfl rfl) (pv (r_pkf rfl hb2 rfl) (nil (t_thenR [(1, .slice a3 (List.length p1) c3), (2, .int .i64 p2), (3, .pointer (some ⟨b1, 0, none⟩)), (28, .bool (decide (600 < p2)))] ⟨rfl, rfl, rfl, rfl, trivial⟩ fun J => ?_))))))
      refine cnd rfl (fun hb3 => ?_) (fun hb3 => ?_)
      · have hm := ctrue hb3 hm
        refine sq2 ?_
        obtain ⟨y2, hx2, hm⟩ := bindS hm
        refine rg (wl rfl (calS cf6 rfl (law25_awake_sim  (hS2.bun [1] [] rfl)  hx2) rfl fun v2 T2 w3 im3 rv2 => ?_))
        obtain ⟨rfl, hS3, _⟩ := rv2
        have hS3 : Sep g T2 w3 [R] := hS3.unb
        refine pv (r_zb rfl) (nil (t_thenR [(6, .bool y2)] ⟨rfl, trivial⟩ fun J => ?_))
        have hm := Option.some.inj hm
        subst hm
        exact rtn (r_then (ret1 rfl rfl ⟨_, rfl, _, (Im.trans im1 (Im.trans im2 im3)), ⟨rfl, hS3.sel [0] rfl, trivial⟩⟩))
      · have hm := cfalse hb3 hm
        refine skp (t_then ?_)
        refine sq2 ?_
        obtain ⟨y3, hx3, hm⟩ := bindS hm
        refine rg (pv (r_ldS rfl Try.isAgg25 Try.sizeOf25 rfl (hS2.cells0 (i := 0) ⟨rfl, rfl⟩ (o := 0) rfl) (cs := [.string ⟨p0.Name.toArray⟩, .bool p0.Void, .int .i64 p0.Params, .int .i64 p0.Regs, .slice a1 (List.length p0.Objects) c1, .slice a2 (List.length p0.Blocks) c2])) (pv (r_ms rfl) (pv (r_mi rfl) (wl rfl (calS cf7 rfl (frame_Lay_sim (p0 := p0) (p1 := p1) (p2 := p2) (hS2.bun [0, 1] [] rfl) (h1.mono (Im.trans im1 im2)) (h2.mono (Im.trans im1 im2)) (h3.mono (Im.trans im1 im2)) hx3) rfl fun v3 T3 w4 im4 rv3 => ?_)))))
        obtain ⟨a4, c4, a5, c5, rfl, hS4, h4, h5, _⟩ := rv3
        have hS4 : Sep g T3 w4 [boxA b1 [.string ⟨p0.Name.toArray⟩, .bool p0.Void, .int .i64 p0.Params, .int .i64 p0.Regs, .slice a1 (List.length p0.Objects) c1, .slice a2 (List.length p0.Blocks) c2], R] := hS4.unb
        refine pv (r_mv rfl) (pv (r_ex (v := .agg #[.int .i64 y3.1.Size, .slice a4 (List.length y3.1.Saved) c4, .int .i64 y3.1.Slots, .slice a5 (List.length y3.1.Objects) c5]) rfl rfl) (pv (r_ex (v := .int .i64 y3.2) rfl rfl) (wl rfl (alS (zs := [.int .i64 0, .slice none 0 0, .int .i64 0, .slice none 0 0]) Try.zeroValue31 rfl hS4 fun w5 b2 im5 hS5 => ?_))))
        refine wl rfl (st0B (q := 0) hS5 ⟨rfl, rfl⟩ rfl rfl rfl Try.sizeOf31 rfl rfl rfl fun w6 im6 hS6 => ?_)
        have hS6 : Sep g T3 w6 [boxA b2 [.int .i64 y3.1.Size, .slice a4 (List.length y3.1.Saved) c4, .int .i64 y3.1.Slots, .slice a5 (List.length y3.1.Objects) c5], boxA b1 [.string ⟨p0.Name.toArray⟩, .bool p0.Void, .int .i64 p0.Params, .int .i64 p0.Regs, .slice a1 (List.length p0.Objects) c1, .slice a2 (List.length p0.Blocks) c2], R] := hS6
        refine pv (r_zi rfl) (nil (t_thenR [(2, .int .i64 p2), (3, .pointer (some ⟨b1, 0, none⟩)), (7, .pointer (some ⟨b2, 0, none⟩)), (8, .int .i64 y3.2)] ⟨rfl, rfl, rfl, rfl, trivial⟩ fun J => ?_))
        refine sq2 ?_
        refine sq2 ?_
        refine rg (pv (r_mi rfl) (pv (r_ib rfl rfl rfl) (nil (t_then ?_))))
        refine cnd rfl (fun hb4 => ?_) (fun hb4 => ?_)
        · have hm := ctrue hb4 hm
          refine sq2 ?_
          obtain ⟨y4, hx4, hm⟩ := bindS hm
          refine rg (wl rfl (calS cf6 rfl (law25_awake_sim  (hS6.bun [2] [] rfl)  hx4) rfl fun v4 T4 w7 im7 rv4 => ?_))
          obtain ⟨rfl, hS7, _⟩ := rv4
          have hS7 : Sep g T4 w7 [R] := hS7.unb
          refine pv (r_zb rfl) (nil (t_thenR [(6, .bool y4)] ⟨rfl, trivial⟩ fun J => ?_))
          have hm := Option.some.inj hm
          subst hm
          exact rtn (r_then (ret1 rfl rfl ⟨_, rfl, _, (Im.trans im1 (Im.trans im2 (Im.trans im4 (Im.trans im5 (Im.trans im6 im7))))), ⟨rfl, hS7.sel [0] rfl, trivial⟩⟩))
        · have hm := cfalse hb4 hm
          refine skp (t_then ?_)
          refine sq2 ?_
          refine sq2 ?_
          refine rg (pv (r_fa rfl Try.underlying31 rfl Try.sizeOf3 rfl) (pv (r_ld rfl Try.isAgg3 (hS6.cell0 (i := 0) ⟨rfl, rfl⟩ (j := 0) rfl)) (pv (r_ib rfl rfl rfl) (pv (r_mb rfl) (?_)))))
          rcases Bool.eq_false_or_eq_true (decide (y3.1.Size < 0)) with hb5 | hb5
          · have hm := ctrue hb5 hm
            refine gF (d0 := 43) rfl rfl (by rw [hb5]; rfl) (gF (d0 := 43) rfl rfl (by rw [hb5]; rfl) (gF (d0 := 43) rfl rfl (by rw [hb5]; rfl) (pv (r_pkt rfl hb5 rfl) (pv (r_mb rfl) (gF (d0 := 48) rfl rfl rfl (gF (d0 := 48) rfl rfl rfl (gF (d0 := 48) rfl rfl rfl (gF (d0 := 48) rfl rfl rfl (gF (d0 := 48) rfl rfl rfl (gF (d0 := 48) rfl rfl rfl (gF (d0 := 48) rfl rfl rfl (pv (r_pkt rfl rfl rfl) (nil (t_thenR [(2, .int .i64 p2), (3, .pointer (some ⟨b1, 0, none⟩)), (7, .pointer (some ⟨b2, 0, none⟩)), (56, .bool true)] ⟨rfl, rfl, rfl, rfl, trivial⟩ fun J => ?_))))))))))))))
            refine cnd (b := true) rfl (fun _ => ?_) (fun h => nomatch h)
            refine sq2 ?_
            refine rg (pv (r_zb rfl) (nil (t_then ?_)))
            have hm := Option.some.inj hm
            subst hm
            exact rtn (r_then (ret1 rfl rfl ⟨_, rfl, _, (Im.trans im1 (Im.trans im2 (Im.trans im4 (Im.trans im5 im6)))), ⟨rfl, hS6.sel [2] rfl, trivial⟩⟩))
          · have hm := cfalse hb5 hm
            refine gT (d0 := 43) rfl rfl hb5 (pv (r_fa rfl Try.underlying31 rfl Try.sizeOf3 rfl) (gT (d0 := 43) rfl rfl hb5 (pv (r_ld rfl Try.isAgg3 (hS6.cell0 (i := 0) ⟨rfl, rfl⟩ (j := 0) rfl)) (gT (d0 := 43) rfl rfl hb5 (pv (r_ib rfl rfl rfl) (pv (r_pkf rfl hb5 rfl) (pv (r_mb rfl) (?_))))))))
            rcases Bool.eq_false_or_eq_true (decide (2000 < y3.1.Size)) with hb6 | hb6
            · have hm := ctrue hb6 hm
              refine gF (d0 := 48) rfl rfl (by rw [hb6]; rfl) (gF (d0 := 48) rfl rfl (by rw [hb6]; rfl) (gF (d0 := 48) rfl rfl (by rw [hb6]; rfl) (gF (d0 := 48) rfl rfl (by rw [hb6]; rfl) (gF (d0 := 48) rfl rfl (by rw [hb6]; rfl) (gF (d0 := 48) rfl rfl (by rw [hb6]; rfl) (gF (d0 := 48) rfl rfl (by rw [hb6]; rfl) (pv (r_pkt rfl hb6 rfl) (nil (t_thenR [(2, .int .i64 p2), (3, .pointer (some ⟨b1, 0, none⟩)), (7, .pointer (some ⟨b2, 0, none⟩)), (56, .bool true)] ⟨rfl, rfl, rfl, rfl, trivial⟩ fun J => ?_)))))))))
              refine cnd (b := true) rfl (fun _ => ?_) (fun h => nomatch h)
              refine sq2 ?_
              refine rg (pv (r_zb rfl) (nil (t_then ?_)))
              have hm := Option.some.inj hm
              subst hm
              exact rtn (r_then (ret1 rfl rfl ⟨_, rfl, _, (Im.trans im1 (Im.trans im2 (Im.trans im4 (Im.trans im5 im6)))), ⟨rfl, hS6.sel [2] rfl, trivial⟩⟩))
            · have hm := cfalse hb6 hm
              refine gT (d0 := 48) rfl rfl hb6 (pv (r_fa rfl Try.underlying31 rfl Try.sizeOf29 rfl) (gT (d0 := 48) rfl rfl hb6 (pv (r_ld rfl Try.isAgg29 (hS6.cell0 (i := 0) ⟨rfl, rfl⟩ (j := 3) rfl)) (gT (d0 := 48) rfl rfl hb6 (pv (r_ln rfl Try.underlying29) (gT (d0 := 48) rfl rfl hb6 (pv (r_fa rfl Try.underlying25 rfl Try.sizeOf22 rfl) (gT (d0 := 48) rfl rfl hb6 (pv (r_ld rfl Try.isAgg22 (hS6.cell0 (i := 1) ⟨rfl, rfl⟩ (j := 4) rfl)) (gT (d0 := 48) rfl rfl hb6 (pv (r_ln rfl Try.underlying22) (gT (d0 := 48) rfl rfl hb6 (pv (r_ib rfl rfl rfl) (pv (r_pkf rfl hb6 rfl) (nil (t_thenR [(2, .int .i64 p2), (3, .pointer (some ⟨b1, 0, none⟩)), (7, .pointer (some ⟨b2, 0, none⟩)), (56, .bool ((List.length y3.1.Objects : Int) != (List.length p0.Objects : Int)))] ⟨rfl, rfl, rfl, rfl, trivial⟩ fun J => ?_))))))))))))))))
              refine cnd rfl (fun hb7 => ?_) (fun hb7 => ?_)
              · have hm := ctrue hb7 hm
                refine sq2 ?_
                refine rg (pv (r_zb rfl) (nil (t_then ?_)))
                have hm := Option.some.inj hm
                subst hm
                exact rtn (r_then (ret1 rfl rfl ⟨_, rfl, _, (Im.trans im1 (Im.trans im2 (Im.trans im4 (Im.trans im5 im6)))), ⟨rfl, hS6.sel [2] rfl, trivial⟩⟩))
              · have hm := cfalse hb7 hm
                refine skp (t_then ?_)
                refine sq2 ?_
                obtain ⟨u1, hx5, hm⟩ := bindS hm
                refine rg (pv (r_fa rfl Try.underlying31 rfl Try.sizeOf3 rfl) (pv (r_ld rfl Try.isAgg3 (hS6.cell0 (i := 0) ⟨rfl, rfl⟩ (j := 0) rfl)) (wl rfl (msS (r := rBool) hS6 rfl rfl Try.underlying39 el4 Try.zeroValue4 rfl hx5 fun w8 a6 n1 c6 im8 hS8 => ?_))))
                refine pv (r_zs rfl) (nil (t_then ?_))
                refine sq2 ?_
                refine rg (wl rfl (bsS (r := (rInt .i64)) (l := ([0] : List Int)) (css := [[.int .i64 0]]) hS8 Try.underlying29 Try.sizeOf3 Try.zeroValue3 rfl rfl (by kernel_rfl) rfl ⟨rfl, trivial⟩ rfl rfl fun w9 a7 n2 c7 im9 hS9 => ?_))
                refine pv (r_zs rfl) (nil (t_thenR [(2, .int .i64 p2), (3, .pointer (some ⟨b1, 0, none⟩)), (7, .pointer (some ⟨b2, 0, none⟩)), (9, .slice a6 n1 c6), (10, .slice a7 n2 c7)] ⟨rfl, rfl, rfl, rfl, rfl, trivial⟩ fun J => ?_))
                refine sq2 ?_
                refine rg (wl rfl (bsS (r := (rInt .i64)) (l := ([4] : List Int)) (css := [[.int .i64 4]]) hS9 Try.underlying29 Try.sizeOf3 Try.zeroValue3 rfl rfl (by kernel_rfl) rfl ⟨rfl, trivial⟩ rfl rfl fun w10 a8 n3 c8 im10 hS10 => ?_))
                refine pv (r_zs rfl) (nil (t_then ?_))
                refine sq2 ?_
                refine sq2 ?_
                refine rg (pv (r_zi rfl) (nil (t_then ?_)))
                obtain ⟨o1, ho1, hq1⟩ := bindS hm
                obtain ⟨bd1, hbd1, ho1⟩ := loop_open ho1
                refine blk (wp_loop_ghost (fun m a w11 => ∃ (J : Nat → Value) (T5 : Nat → Prop) (x1 : List Int) (a9 : Option Addr) (n4 : Nat) (c9 : Nat) (x2 : List Int) (a10 : Option Addr) (n5 : Nat) (c10 : Nat) (x3 : Int), a = env (nf 190) J [(2, .int .i64 p2), (3, .pointer (some ⟨b1, 0, none⟩)), (7, .pointer (some ⟨b2, 0, none⟩)), (9, .slice a6 n1 c6), (10, .slice a10 n5 c10), (11, .slice a9 n4 c9), (12, .int .i64 x3)] ∧ Im T3 w10 T5 w11 ∧ Sep g T5 w11 [ownA (rInt .i64) 3 (.slice a9 n4 c9) x1, ownA (rInt .i64) 3 (.slice a10 n5 c10) x2, ownA rBool 4 (.slice a6 n1 c6) u1, boxA b2 [.int .i64 y3.1.Size, .slice a4 (List.length y3.1.Saved) c4, .int .i64 y3.1.Slots, .slice a5 (List.length y3.1.Objects) c5], boxA b1 [.string ⟨p0.Name.toArray⟩, .bool p0.Void, .int .i64 p0.Params, .int .i64 p0.Regs, .slice a1 (List.length p0.Objects) c1, .slice a2 (List.length p0.Blocks) c2], R] ∧ loopM bd1 m (x1, x2, x3) = some o1) NN ⟨_, _, ([4] : List Int), _, _, _, ([0] : List Int), _, _, _, 0, env_has ⟨rfl, rfl, rfl, rfl, rfl, rfl, rfl, trivial⟩, Im.refl, hS10.sel [0, 1, 2, 3, 4, 5] rfl, ho1⟩ ?_)
                rintro m _ w11 ⟨J, T5, x1, a9, n4, c9, x2, a10, n5, c10, x3, rfl, im11, hS11, ho1⟩
                obtain ⟨m1, z1, rfl, hm, hn1⟩ := loop_round ho1
                rw [hbd1] at hm
                refine sq2 ?_
                refine sq2 ?_
                refine rg (pv (r_mi rfl) (pv (r_fa rfl Try.underlying31 rfl Try.sizeOf29 rfl) (pv (r_ld rfl Try.isAgg29 (hS11.cell0 (i := 3) ⟨rfl, rfl⟩ (j := 1) rfl)) (pv (r_ln rfl Try.underlying29) (pv (r_ib rfl rfl rfl) (nil (t_then ?_)))))))
                refine cnd rfl (fun hb8 => ?_) (fun hb8 => ?_)
                · have hm := ctrue hb8 hm
                  refine skp (t_thenR [(2, .int .i64 p2), (3, .pointer (some ⟨b1, 0, none⟩)), (7, .pointer (some ⟨b2, 0, none⟩)), (9, .slice a6 n1 c6), (10, .slice a10 n5 c10), (11, .slice a9 n4 c9), (12, .int .i64 x3)] ⟨rfl, rfl, rfl, rfl, rfl, rfl, rfl, trivial⟩ fun J => ?_)
                  refine sq2 ?_
                  refine blk ?_
                  refine sq2 ?_
                  obtain ⟨y5, hx6, hm⟩ := bindS hm
                  refine rg (pv (r_ms rfl) (pv (r_ldS rfl Try.isAgg31 Try.sizeOf31 rfl (hS11.cells0 (i := 3) ⟨rfl, rfl⟩ (o := 0) rfl) (cs := [.int .i64 y3.1.Size, .slice a4 (List.length y3.1.Saved) c4, .int .i64 y3.1.Slots, .slice a5 (List.length y3.1.Objects) c5])) (pv (r_mi rfl) (wl rfl (calS cf10 rfl (frame_Kept_sim (p0 := y3.1) (p1 := x3) (hS11.bun [0, 1, 2, 3, 4, 5] [] rfl) (h4.mono (Im.trans im5 (Im.trans im6 (Im.trans im8 (Im.trans im9 (Im.trans im10 im11)))))) (h5.mono (Im.trans im5 (Im.trans im6 (Im.trans im8 (Im.trans im9 (Im.trans im10 im11)))))) hx6) rfl fun v5 T6 w12 im12 rv5 => ?_)))))
                  obtain ⟨rfl, hS12, _⟩ := rv5
                  have hS12 : Sep g T6 w12 [ownA (rInt .i64) 3 (.slice a9 n4 c9) x1, ownA (rInt .i64) 3 (.slice a10 n5 c10) x2, ownA rBool 4 (.slice a6 n1 c6) u1, boxA b2 [.int .i64 y3.1.Size, .slice a4 (List.length y3.1.Saved) c4, .int .i64 y3.1.Slots, .slice a5 (List.length y3.1.Objects) c5], boxA b1 [.string ⟨p0.Name.toArray⟩, .bool p0.Void, .int .i64 p0.Params, .int .i64 p0.Regs, .slice a1 (List.length p0.Objects) c1, .slice a2 (List.length p0.Blocks) c2], R] := hS12.unb
                  refine wl rfl (bsS (r := (rInt .i64)) (l := ([y5] : List Int)) (css := [[.int .i64 y5]]) hS12 Try.underlying29 Try.sizeOf3 Try.zeroValue3 rfl rfl (by kernel_rfl) rfl ⟨rfl, trivial⟩ rfl rfl fun w13 a11 n6 c11 im13 hS13 => ?_)
                  obtain ⟨z_1, hro1, hm⟩ := bindS hm
                  refine wl rfl (apO (q := 2) (l := x2) (us := ([y5] : List Int)) hS13 ⟨rfl, rfl⟩ rfl rfl (hS13.own (i := 0) ⟨rfl, rfl⟩).v Try.underlying29 el3 (room_some hro1) fun w14 a12 n7 c12 im14 hS14 => ?_)
                  have hS14 : Sep g T6 w14 [ownA (rInt .i64) 3 (.slice a11 n6 c11) ([y5] : List Int), ownA (rInt .i64) 3 (.slice a9 n4 c9) x1, ownA (rInt .i64) 3 (.slice a12 n7 c12) (x2 ++ ([y5] : List Int)), ownA rBool 4 (.slice a6 n1 c6) u1, boxA b2 [.int .i64 y3.1.Size, .slice a4 (List.length y3.1.Saved) c4, .int .i64 y3.1.Slots, .slice a5 (List.length y3.1.Objects) c5], boxA b1 [.string ⟨p0.Name.toArray⟩, .bool p0.Void, .int .i64 p0.Params, .int .i64 p0.Regs, .slice a1 (List.length p0.Objects) c1, .slice a2 (List.length p0.Blocks) c2], R] := hS14
                  refine pv (r_zs rfl) (nil (t_thenR [(2, .int .i64 p2), (3, .pointer (some ⟨b1, 0, none⟩)), (7, .pointer (some ⟨b2, 0, none⟩)), (9, .slice a6 n1 c6), (10, .slice a12 n7 c12), (11, .slice a9 n4 c9), (12, .int .i64 x3)] ⟨rfl, rfl, rfl, rfl, rfl, rfl, rfl, trivial⟩ fun J => ?_))
                  refine rg (pv (r_ms rfl) (wl rfl (bsS (r := (rInt .i64)) (l := ([4] : List Int)) (css := [[.int .i64 4]]) hS14 Try.underlying29 Try.sizeOf3 Try.zeroValue3 rfl rfl (by kernel_rfl) rfl ⟨rfl, trivial⟩ rfl rfl fun w15 a13 n8 c13 im15 hS15 => ?_)))
                  obtain ⟨z_2, hro2, hm⟩ := bindS hm
                  refine wl rfl (apO (q := 2) (l := x1) (us := ([4] : List Int)) hS15 ⟨rfl, rfl⟩ rfl rfl (hS15.own (i := 0) ⟨rfl, rfl⟩).v Try.underlying29 el3 (room_some hro2) fun w16 a14 n9 c14 im16 hS16 => ?_)
                  have hS16 : Sep g T6 w16 [ownA (rInt .i64) 3 (.slice a13 n8 c13) ([4] : List Int), ownA (rInt .i64) 3 (.slice a11 n6 c11) ([y5] : List Int), ownA (rInt .i64) 3 (.slice a14 n9 c14) (x1 ++ ([4] : List Int)), ownA (rInt .i64) 3 (.slice a12 n7 c12) (x2 ++ ([y5] : List Int)), ownA rBool 4 (.slice a6 n1 c6) u1, boxA b2 [.int .i64 y3.1.Size, .slice a4 (List.length y3.1.Saved) c4, .int .i64 y3.1.Slots, .slice a5 (List.length y3.1.Objects) c5], boxA b1 [.string ⟨p0.Name.toArray⟩, .bool p0.Void, .int .i64 p0.Params, .int .i64 p0.Regs, .slice a1 (List.length p0.Objects) c1, .slice a2 (List.length p0.Blocks) c2], R] := hS16
                  refine pv (r_zs rfl) (nil (t_blk (t_then ?_)))
                  have hm := Option.some.inj hm
                  subst hm
                  exact rg (pv (r_mi rfl) (pv (r_ib rfl rfl rfl) (pv (r_zi rfl) (nil (t_then ⟨m1, Nat.lt_succ_self _, _, _, (x1 ++ ([4] : List Int)), _, _, _, (x2 ++ ([y5] : List Int)), _, _, _, (IntKind.wrap .i64 (x3 + 1)), env_has ⟨rfl, rfl, rfl, rfl, rfl, rfl, rfl, trivial⟩, (Im.trans im11 (Im.trans im12 (Im.trans im13 (Im.trans im14 (Im.trans im15 im16))))), hS16.sel [2, 3, 4, 5, 6, 7] rfl, hn1⟩)))))
                · have hm := cfalse hb8 hm
                  have hm := Option.some.inj hm
                  subst hm
                  have hn1 : _ = Lp.brk _ := hn1
                  subst hn1
                  have hm := thn_brk hq1
                  refine xt (x_then (x_then (x_eq (t_thenR [(2, .int .i64 p2), (3, .pointer (some ⟨b1, 0, none⟩)), (7, .pointer (some ⟨b2, 0, none⟩)), (9, .slice a6 n1 c6), (10, .slice a10 n5 c10), (11, .slice a9 n4 c9)] ⟨rfl, rfl, rfl, rfl, rfl, rfl, trivial⟩ fun J => ?_))))
                  refine sq2 ?_
                  refine sq2 ?_
                  refine rg (pv (r_zi rfl) (nil (t_then ?_)))
                  obtain ⟨o1, ho1, hq1⟩ := bindS hm
                  obtain ⟨bd1, hbd1, ho1⟩ := loop_open ho1
                  refine blk (wp_loop_ghost (fun m a w17 => ∃ (J : Nat → Value) (T7 : Nat → Prop) (x4 : List Int) (a15 : Option Addr) (n10 : Nat) (c15 : Nat) (x5 : List Int) (a16 : Option Addr) (n11 : Nat) (c16 : Nat) (x6 : Int), a = env (nf 190) J [(2, .int .i64 p2), (3, .pointer (some ⟨b1, 0, none⟩)), (7, .pointer (some ⟨b2, 0, none⟩)), (9, .slice a6 n1 c6), (10, .slice a16 n11 c16), (11, .slice a15 n10 c15), (13, .int .i64 x6)] ∧ Im T5 w11 T7 w17 ∧ Sep g T7 w17 [ownA (rInt .i64) 3 (.slice a15 n10 c15) x4, ownA (rInt .i64) 3 (.slice a16 n11 c16) x5, ownA rBool 4 (.slice a6 n1 c6) u1, boxA b2 [.int .i64 y3.1.Size, .slice a4 (List.length y3.1.Saved) c4, .int .i64 y3.1.Slots, .slice a5 (List.length y3.1.Objects) c5], boxA b1 [.string ⟨p0.Name.toArray⟩, .bool p0.Void, .int .i64 p0.Params, .int .i64 p0.Regs, .slice a1 (List.length p0.Objects) c1, .slice a2 (List.length p0.Blocks) c2], R] ∧ loopM bd1 m (x4, x5, x6) = some o1) NN ⟨_, _, x1, _, _, _, x2, _, _, _, 0, env_has ⟨rfl, rfl, rfl, rfl, rfl, rfl, rfl, trivial⟩, Im.refl, hS11.sel [0, 1, 2, 3, 4, 5] rfl, ho1⟩ ?_)
                  rintro m _ w17 ⟨J, T7, x4, a15, n10, c15, x5, a16, n11, c16, x6, rfl, im17, hS17, ho1⟩
                  obtain ⟨m1, z1, rfl, hm, hn1⟩ := loop_round ho1
                  rw [hbd1] at hm
                  refine sq2 ?_
                  refine sq2 ?_
                  refine rg (pv (r_mi rfl) (pv (r_mi rfl) (pv (r_ib rfl rfl rfl) (nil (t_then ?_)))))
                  refine cnd rfl (fun hb9 => ?_) (fun hb9 => ?_)
                  · have hm := ctrue hb9 hm
                    refine skp (t_then ?_)
                    refine sq2 ?_
                    refine blk ?_
                    refine sq2 ?_
                    obtain ⟨y6, hx7, hm⟩ := bindS hm
                    refine rg (pv (r_ms rfl) (pv (r_ldS rfl Try.isAgg31 Try.sizeOf31 rfl (hS17.cells0 (i := 3) ⟨rfl, rfl⟩ (o := 0) rfl) (cs := [.int .i64 y3.1.Size, .slice a4 (List.length y3.1.Saved) c4, .int .i64 y3.1.Slots, .slice a5 (List.length y3.1.Objects) c5])) (pv (r_mi rfl) (wl rfl (calS cf11 rfl (frame_Slot_sim (p0 := y3.1) (p1 := x6) (hS17.bun [0, 1, 2, 3, 4, 5] [] rfl) (h4.mono (Im.trans im5 (Im.trans im6 (Im.trans im8 (Im.trans im9 (Im.trans im10 (Im.trans im11 im17))))))) (h5.mono (Im.trans im5 (Im.trans im6 (Im.trans im8 (Im.trans im9 (Im.trans im10 (Im.trans im11 im17))))))) hx7) rfl fun v6 T8 w18 im18 rv6 => ?_)))))
                    obtain ⟨rfl, hS18, _⟩ := rv6
                    have hS18 : Sep g T8 w18 [ownA (rInt .i64) 3 (.slice a15 n10 c15) x4, ownA (rInt .i64) 3 (.slice a16 n11 c16) x5, ownA rBool 4 (.slice a6 n1 c6) u1, boxA b2 [.int .i64 y3.1.Size, .slice a4 (List.length y3.1.Saved) c4, .int .i64 y3.1.Slots, .slice a5 (List.length y3.1.Objects) c5], boxA b1 [.string ⟨p0.Name.toArray⟩, .bool p0.Void, .int .i64 p0.Params, .int .i64 p0.Regs, .slice a1 (List.length p0.Objects) c1, .slice a2 (List.length p0.Blocks) c2], R] := hS18.unb
                    refine wl rfl (bsS (r := (rInt .i64)) (l := ([y6] : List Int)) (css := [[.int .i64 y6]]) hS18 Try.underlying29 Try.sizeOf3 Try.zeroValue3 rfl rfl (by kernel_rfl) rfl ⟨rfl, trivial⟩ rfl rfl fun w19 a17 n12 c17 im19 hS19 => ?_)
                    obtain ⟨z_3, hro3, hm⟩ := bindS hm
                    refine wl rfl (apO (q := 2) (l := x5) (us := ([y6] : List Int)) hS19 ⟨rfl, rfl⟩ rfl rfl (hS19.own (i := 0) ⟨rfl, rfl⟩).v Try.underlying29 el3 (room_some hro3) fun w20 a18 n13 c18 im20 hS20 => ?_)
                    have hS20 : Sep g T8 w20 [ownA (rInt .i64) 3 (.slice a17 n12 c17) ([y6] : List Int), ownA (rInt .i64) 3 (.slice a15 n10 c15) x4, ownA (rInt .i64) 3 (.slice a18 n13 c18) (x5 ++ ([y6] : List Int)), ownA rBool 4 (.slice a6 n1 c6) u1, boxA b2 [.int .i64 y3.1.Size, .slice a4 (List.length y3.1.Saved) c4, .int .i64 y3.1.Slots, .slice a5 (List.length y3.1.Objects) c5], boxA b1 [.string ⟨p0.Name.toArray⟩, .bool p0.Void, .int .i64 p0.Params, .int .i64 p0.Regs, .slice a1 (List.length p0.Objects) c1, .slice a2 (List.length p0.Blocks) c2], R] := hS20
                    refine pv (r_zs rfl) (nil (t_thenR [(2, .int .i64 p2), (3, .pointer (some ⟨b1, 0, none⟩)), (7, .pointer (some ⟨b2, 0, none⟩)), (9, .slice a6 n1 c6), (10, .slice a18 n13 c18), (11, .slice a15 n10 c15), (13, .int .i64 x6)] ⟨rfl, rfl, rfl, rfl, rfl, rfl, rfl, trivial⟩ fun J => ?_))
                    refine rg (pv (r_ms rfl) (wl rfl (bsS (r := (rInt .i64)) (l := ([4] : List Int)) (css := [[.int .i64 4]]) hS20 Try.underlying29 Try.sizeOf3 Try.zeroValue3 rfl rfl (by kernel_rfl) rfl ⟨rfl, trivial⟩ rfl rfl fun w21 a19 n14 c19 im21 hS21 => ?_)))
                    obtain ⟨z_4, hro4, hm⟩ := bindS hm
                    refine wl rfl (apO (q := 2) (l := x4) (us := ([4] : List Int)) hS21 ⟨rfl, rfl⟩ rfl rfl (hS21.own (i := 0) ⟨rfl, rfl⟩).v Try.underlying29 el3 (room_some hro4) fun w22 a20 n15 c20 im22 hS22 => ?_)
                    have hS22 : Sep g T8 w22 [ownA (rInt .i64) 3 (.slice a19 n14 c19) ([4] : List Int), ownA (rInt .i64) 3 (.slice a17 n12 c17) ([y6] : List Int), ownA (rInt .i64) 3 (.slice a20 n15 c20) (x4 ++ ([4] : List Int)), ownA (rInt .i64) 3 (.slice a18 n13 c18) (x5 ++ ([y6] : List Int)), ownA rBool 4 (.slice a6 n1 c6) u1, boxA b2 [.int .i64 y3.1.Size, .slice a4 (List.length y3.1.Saved) c4, .int .i64 y3.1.Slots, .slice a5 (List.length y3.1.Objects) c5], boxA b1 [.string ⟨p0.Name.toArray⟩, .bool p0.Void, .int .i64 p0.Params, .int .i64 p0.Regs, .slice a1 (List.length p0.Objects) c1, .slice a2 (List.length p0.Blocks) c2], R] := hS22
                    refine pv (r_zs rfl) (nil (t_blk (t_then ?_)))
                    have hm := Option.some.inj hm
                    subst hm
                    exact rg (pv (r_mi rfl) (pv (r_ib rfl rfl rfl) (pv (r_zi rfl) (nil (t_then ⟨m1, Nat.lt_succ_self _, _, _, (x4 ++ ([4] : List Int)), _, _, _, (x5 ++ ([y6] : List Int)), _, _, _, (IntKind.wrap .i64 (x6 + 1)), env_has ⟨rfl, rfl, rfl, rfl, rfl, rfl, rfl, trivial⟩, (Im.trans im17 (Im.trans im18 (Im.trans im19 (Im.trans im20 (Im.trans im21 im22))))), hS22.sel [2, 3, 4, 5, 6, 7] rfl, hn1⟩)))))
                  · have hm := cfalse hb9 hm
                    have hm := Option.some.inj hm
                    subst hm
                    have hn1 : _ = Lp.brk _ := hn1
                    subst hn1
                    have hm := thn_brk hq1
                    refine xt (x_then (x_then (x_eq (t_thenR [(3, .pointer (some ⟨b1, 0, none⟩)), (7, .pointer (some ⟨b2, 0, none⟩)), (9, .slice a6 n1 c6), (10, .slice a16 n11 c16), (11, .slice a15 n10 c15)] ⟨rfl, rfl, rfl, rfl, rfl, trivial⟩ fun J => ?_))))
                    refine sq2 ?_
                    refine sq2 ?_
                    refine rg (pv (r_zi rfl) (nil (t_then ?_)))
                    obtain ⟨o1, ho1, hq1⟩ := bindS hm
                    obtain ⟨bd1, hbd1, ho1⟩ := loop_open ho1
                    refine blk (wp_loop_ghost (fun m a w23 => ∃ (J : Nat → Value) (T9 : Nat → Prop) (x7 : List Int) (a21 : Option Addr) (n16 : Nat) (c21 : Nat) (x8 : List Int) (a22 : Option Addr) (n17 : Nat) (c22 : Nat) (x9 : Int), a = env (nf 190) J [(3, .pointer (some ⟨b1, 0, none⟩)), (7, .pointer (some ⟨b2, 0, none⟩)), (9, .slice a6 n1 c6), (10, .slice a22 n17 c22), (11, .slice a21 n16 c21), (14, .int .i64 x9)] ∧ Im T7 w17 T9 w23 ∧ Sep g T9 w23 [ownA (rInt .i64) 3 (.slice a21 n16 c21) x7, ownA (rInt .i64) 3 (.slice a22 n17 c22) x8, ownA rBool 4 (.slice a6 n1 c6) u1, boxA b2 [.int .i64 y3.1.Size, .slice a4 (List.length y3.1.Saved) c4, .int .i64 y3.1.Slots, .slice a5 (List.length y3.1.Objects) c5], boxA b1 [.string ⟨p0.Name.toArray⟩, .bool p0.Void, .int .i64 p0.Params, .int .i64 p0.Regs, .slice a1 (List.length p0.Objects) c1, .slice a2 (List.length p0.Blocks) c2], R] ∧ loopM bd1 m (x7, x8, x9) = some o1) NN ⟨_, _, x4, _, _, _, x5, _, _, _, 0, env_has ⟨rfl, rfl, rfl, rfl, rfl, rfl, trivial⟩, Im.refl, hS17.sel [0, 1, 2, 3, 4, 5] rfl, ho1⟩ ?_)
                    rintro m _ w23 ⟨J, T9, x7, a21, n16, c21, x8, a22, n17, c22, x9, rfl, im23, hS23, ho1⟩
                    obtain ⟨m1, z1, rfl, hm, hn1⟩ := loop_round ho1
                    rw [hbd1] at hm
                    refine sq2 ?_
                    refine sq2 ?_
                    refine rg (pv (r_mi rfl) (pv (r_fa rfl Try.underlying31 rfl Try.sizeOf29 rfl) (pv (r_ld rfl Try.isAgg29 (hS23.cell0 (i := 3) ⟨rfl, rfl⟩ (j := 3) rfl)) (pv (r_ln rfl Try.underlying29) (pv (r_ib rfl rfl rfl) (nil (t_then ?_)))))))
                    refine cnd rfl (fun hb10 => ?_) (fun hb10 => ?_)
                    · have hm := ctrue hb10 hm
                      refine skp (t_thenR [(3, .pointer (some ⟨b1, 0, none⟩)), (7, .pointer (some ⟨b2, 0, none⟩)), (9, .slice a6 n1 c6), (10, .slice a22 n17 c22), (11, .slice a21 n16 c21), (14, .int .i64 x9)] ⟨rfl, rfl, rfl, rfl, rfl, rfl, trivial⟩ fun J => ?_)
                      refine sq2 ?_
                      refine blk ?_
                      refine sq2 ?_
                      obtain ⟨u2, hx8, hm⟩ := bindS hm
                      obtain ⟨b3, of1, cs1, k1, cp1, hv1, hp1, hl1, he1, hr1, hc1, hT1⟩ := (h5.mono (Im.trans im5 (Im.trans im6 (Im.trans im8 (Im.trans im9 (Im.trans im10 (Im.trans im11 (Im.trans im17 im23)))))))).ixT hx8 rfl
                      cases hr1
                      refine rg (pv (r_ms rfl) (pv (r_fa rfl Try.underlying31 rfl Try.sizeOf29 rfl) (pv (r_ld rfl Try.isAgg29 (hS23.cell0 (i := 3) ⟨rfl, rfl⟩ (j := 3) rfl)) (pv (r_mi rfl) (pv (r_ixe hv1 rfl Try.underlying29 Try.sizeOf3 hp1 hl1 he1) (pv (r_ld rfl Try.isAgg3 (hc1.get (j := 0) rfl)) (wl rfl (bsS (r := (rInt .i64)) (l := ([u2] : List Int)) (css := [[.int .i64 u2]]) hS23 Try.underlying29 Try.sizeOf3 Try.zeroValue3 rfl rfl (by kernel_rfl) rfl ⟨rfl, trivial⟩ rfl rfl fun w24 a23 n18 c23 im24 hS24 => ?_))))))))
                      obtain ⟨z_5, hro5, hm⟩ := bindS hm
                      refine wl rfl (apO (q := 2) (l := x8) (us := ([u2] : List Int)) hS24 ⟨rfl, rfl⟩ rfl rfl (hS24.own (i := 0) ⟨rfl, rfl⟩).v Try.underlying29 el3 (room_some hro5) fun w25 a24 n19 c24 im25 hS25 => ?_)
                      have hS25 : Sep g T9 w25 [ownA (rInt .i64) 3 (.slice a23 n18 c23) ([u2] : List Int), ownA (rInt .i64) 3 (.slice a21 n16 c21) x7, ownA (rInt .i64) 3 (.slice a24 n19 c24) (x8 ++ ([u2] : List Int)), ownA rBool 4 (.slice a6 n1 c6) u1, boxA b2 [.int .i64 y3.1.Size, .slice a4 (List.length y3.1.Saved) c4, .int .i64 y3.1.Slots, .slice a5 (List.length y3.1.Objects) c5], boxA b1 [.string ⟨p0.Name.toArray⟩, .bool p0.Void, .int .i64 p0.Params, .int .i64 p0.Regs, .slice a1 (List.length p0.Objects) c1, .slice a2 (List.length p0.Blocks) c2], R] := hS25
                      refine pv (r_zs rfl) (nil (t_thenR [(3, .pointer (some ⟨b1, 0, none⟩)), (7, .pointer (some ⟨b2, 0, none⟩)), (9, .slice a6 n1 c6), (10, .slice a24 n19 c24), (11, .slice a21 n16 c21), (14, .int .i64 x9)] ⟨rfl, rfl, rfl, rfl, rfl, rfl, trivial⟩ fun J => ?_))
                      obtain ⟨u3, hx9, hm⟩ := bindS hm
                      obtain ⟨b4, of2, cs2, k2, cp2, hv2, hp2, hl2, he2, hr2, hc2, hT2⟩ := (h1.mono (Im.trans im1 (Im.trans im2 (Im.trans im4 (Im.trans im5 (Im.trans im6 (Im.trans im8 (Im.trans im9 (Im.trans im10 (Im.trans im11 (Im.trans im17 (Im.trans im23 (Im.trans im24 im25))))))))))))).ixT hx9 rfl
                      cases rGSlot_open hr2
                      refine rg (pv (r_ms rfl) (pv (r_fa rfl Try.underlying25 rfl Try.sizeOf22 rfl) (pv (r_ld rfl Try.isAgg22 (hS25.cell0 (i := 5) ⟨rfl, rfl⟩ (j := 4) rfl)) (pv (r_mi rfl) (pv (r_ixe hv2 rfl Try.underlying22 Try.sizeOf42 hp2 hl2 he2) (pv (r_fa rfl Try.underlying42 rfl Try.sizeOf3 rfl) (pv (r_ld rfl Try.isAgg3 (hc2.get (j := 1) rfl)) (wl rfl (bsS (r := (rInt .i64)) (l := ([u3.Size] : List Int)) (css := [[.int .i64 u3.Size]]) hS25 Try.underlying29 Try.sizeOf3 Try.zeroValue3 rfl rfl (by kernel_rfl) rfl ⟨rfl, trivial⟩ rfl rfl fun w26 a25 n20 c25 im26 hS26 => ?_)))))))))
                      obtain ⟨z_6, hro6, hm⟩ := bindS hm
                      refine wl rfl (apO (q := 2) (l := x7) (us := ([u3.Size] : List Int)) hS26 ⟨rfl, rfl⟩ rfl rfl (hS26.own (i := 0) ⟨rfl, rfl⟩).v Try.underlying29 el3 (room_some hro6) fun w27 a26 n21 c26 im27 hS27 => ?_)
                      have hS27 : Sep g T9 w27 [ownA (rInt .i64) 3 (.slice a25 n20 c25) ([u3.Size] : List Int), ownA (rInt .i64) 3 (.slice a23 n18 c23) ([u2] : List Int), ownA (rInt .i64) 3 (.slice a26 n21 c26) (x7 ++ ([u3.Size] : List Int)), ownA (rInt .i64) 3 (.slice a24 n19 c24) (x8 ++ ([u2] : List Int)), ownA rBool 4 (.slice a6 n1 c6) u1, boxA b2 [.int .i64 y3.1.Size, .slice a4 (List.length y3.1.Saved) c4, .int .i64 y3.1.Slots, .slice a5 (List.length y3.1.Objects) c5], boxA b1 [.string ⟨p0.Name.toArray⟩, .bool p0.Void, .int .i64 p0.Params, .int .i64 p0.Regs, .slice a1 (List.length p0.Objects) c1, .slice a2 (List.length p0.Blocks) c2], R] := hS27
                      refine pv (r_zs rfl) (nil (t_blk (t_thenR [(3, .pointer (some ⟨b1, 0, none⟩)), (7, .pointer (some ⟨b2, 0, none⟩)), (9, .slice a6 n1 c6), (10, .slice a24 n19 c24), (11, .slice a26 n21 c26), (14, .int .i64 x9)] ⟨rfl, rfl, rfl, rfl, rfl, rfl, trivial⟩ fun J => ?_)))
                      have hm := Option.some.inj hm
                      subst hm
                      exact rg (pv (r_mi rfl) (pv (r_ib rfl rfl rfl) (pv (r_zi rfl) (nil (t_then ⟨m1, Nat.lt_succ_self _, _, _, (x7 ++ ([u3.Size] : List Int)), _, _, _, (x8 ++ ([u2] : List Int)), _, _, _, (IntKind.wrap .i64 (x9 + 1)), env_has ⟨rfl, rfl, rfl, rfl, rfl, rfl, trivial⟩, (Im.trans im23 (Im.trans im24 (Im.trans im25 (Im.trans im26 im27)))), hS27.sel [2, 3, 4, 5, 6, 7] rfl, hn1⟩)))))
                    · have hm := cfalse hb10 hm
                      have hm := Option.some.inj hm
                      subst hm
                      have hn1 : _ = Lp.brk _ := hn1
                      subst hn1
                      have hm := thn_brk hq1
                      refine xt (x_then (x_then (x_eq (t_thenR [(7, .pointer (some ⟨b2, 0, none⟩)), (9, .slice a6 n1 c6), (10, .slice a22 n17 c22), (11, .slice a21 n16 c21)] ⟨rfl, rfl, rfl, rfl, trivial⟩ fun J => ?_))))
                      refine sq2 ?_
                      refine sq2 ?_
                      refine rg (pv (r_zi rfl) (nil (t_then ?_)))
                      obtain ⟨o1, ho1, hq1⟩ := bindS hm
                      obtain ⟨bd1, hbd1, ho1⟩ := loop_open ho1
                      refine blk (wp_loop_ghost (fun m a w28 => ∃ (J : Nat → Value) (T10 : Nat → Prop) (x10 : List Bool) (a27 : Option Addr) (n22 : Nat) (c27 : Nat) (x11 : Int), a = env (nf 190) J [(7, .pointer (some ⟨b2, 0, none⟩)), (9, .slice a27 n22 c27), (10, .slice a22 n17 c22), (11, .slice a21 n16 c21), (15, .int .i64 x11)] ∧ Im T9 w23 T10 w28 ∧ Sep g T10 w28 [ownA (rInt .i64) 3 (.slice a21 n16 c21) x7, ownA (rInt .i64) 3 (.slice a22 n17 c22) x8, ownA rBool 4 (.slice a27 n22 c27) x10, boxA b2 [.int .i64 y3.1.Size, .slice a4 (List.length y3.1.Saved) c4, .int .i64 y3.1.Slots, .slice a5 (List.length y3.1.Objects) c5], R] ∧ loopM bd1 m (x10, x11) = some o1) NN ⟨_, _, u1, _, _, _, 0, env_has ⟨rfl, rfl, rfl, rfl, rfl, trivial⟩, Im.refl, hS23.sel [0, 1, 2, 3, 5] rfl, ho1⟩ ?_)
                      rintro m _ w28 ⟨J, T10, x10, a27, n22, c27, x11, rfl, im28, hS28, ho1⟩
                      obtain ⟨m1, z1, rfl, hm, hn1⟩ := loop_round ho1
                      rw [hbd1] at hm
                      refine sq2 ?_
                      refine sq2 ?_
                      refine rg (pv (r_mi rfl) (pv (r_ms rfl) (pv (r_lnV rfl (hS28.own (i := 1) ⟨rfl, rfl⟩).v Try.underlying29) (pv (r_ib rfl rfl rfl) (nil (t_then ?_))))))
                      refine cnd rfl (fun hb11 => ?_) (fun hb11 => ?_)
                      · have hm := ctrue hb11 hm
                        refine skp (t_then ?_)
                        refine sq2 ?_
                        refine blk ?_
                        refine sq2 ?_
                        refine sq2 ?_
                        obtain ⟨u4, hx10, hm⟩ := bindS hm
                        obtain ⟨b5, of3, cs3, k3, cp3, hv3, hp3, hl3, he3, hr3, hc3⟩ := (hS28.own (i := 1) ⟨rfl, rfl⟩).v.ixq hx10 rfl
                        cases hr3
                        refine rq mix (by kernel_rfl) hS28.lt (qv (fun _ hq => r_ms rfl) (qv (fun _ hq => r_mi rfl) (qv (fun _ hq => r_ixe hv3 rfl Try.underlying29 Try.sizeOf3 hp3 hl3 he3) (qv (fun _ hq => r_ld rfl Try.isAgg3 (hq.cell (hc3.get (j := 0) rfl))) (qv (fun _ hq => r_ib rfl rfl rfl) (qv (fun _ hq => r_mb rfl) (?_)))))))
                        rcases Bool.eq_false_or_eq_true (decide (u4 < 0)) with hb12 | hb12
                        · have hm := ctrue hb12 hm
                          refine qgF (d0 := 127) rfl rfl (by rw [hb12]; rfl) (qgF (d0 := 127) rfl rfl (by rw [hb12]; rfl) (qgF (d0 := 127) rfl rfl (by rw [hb12]; rfl) (qgF (d0 := 127) rfl rfl (by rw [hb12]; rfl) (qgF (d0 := 127) rfl rfl (by rw [hb12]; rfl) (qgF (d0 := 127) rfl rfl (by rw [hb12]; rfl) (qv (fun _ hq => r_pkt rfl hb12 rfl) (qv (fun _ hq => r_mb rfl) (qgF (d0 := 135) rfl rfl rfl (qgF (d0 := 135) rfl rfl rfl (qgF (d0 := 135) rfl rfl rfl (qgF (d0 := 135) rfl rfl rfl (qgF (d0 := 135) rfl rfl rfl (qgF (d0 := 135) rfl rfl rfl (qgF (d0 := 135) rfl rfl rfl (qv (fun _ hq => r_pkt rfl rfl rfl) (qv (fun _ hq => r_mb rfl) (qgF (d0 := 144) rfl rfl rfl (qgF (d0 := 144) rfl rfl rfl (qgF (d0 := 144) rfl rfl rfl (qgF (d0 := 144) rfl rfl rfl (qgF (d0 := 144) rfl rfl rfl (qgF (d0 := 144) rfl rfl rfl (qgF (d0 := 144) rfl rfl rfl (qgF (d0 := 144) rfl rfl rfl (qgF (d0 := 144) rfl rfl rfl (qgF (d0 := 144) rfl rfl rfl (qgF (d0 := 144) rfl rfl rfl (qgF (d0 := 144) rfl rfl rfl (qv (fun _ hq => r_pkt rfl rfl rfl) (qn fun w34 T15 i4 => ?_))))))))))))))))))))))))))))))
                          have im34 := i4.imm
                          have hS34 := hS28.keep i4 (fun _ h => h)
                          refine t_thenR [(7, .pointer (some ⟨b2, 0, none⟩)), (9, .slice a27 n22 c27), (10, .slice a22 n17 c22), (11, .slice a21 n16 c21), (15, .int .i64 x11), (157, .bool true)] ⟨rfl, rfl, rfl, rfl, rfl, rfl, trivial⟩ fun J => ?_
                          refine cnd (b := true) rfl (fun _ => ?_) (fun h => nomatch h)
                          refine sq2 ?_
                          refine rg (pv (r_zb rfl) (nil (t_thenR [(6, .bool false)] ⟨rfl, trivial⟩ fun J => ?_)))
                          have hm := Option.some.inj hm
                          subst hm
                          have hn1 : _ = Lp.ret _ := hn1
                          subst hn1
                          have hm := thn_ret hq1
                          have hm := Option.some.inj hm
                          subst hm
                          exact rtn (r_then (r_blk (r_then (r_then (r_blk (r_then (ret1 rfl rfl ⟨_, rfl, _, (Im.trans im1 (Im.trans im2 (Im.trans im4 (Im.trans im5 (Im.trans im6 (Im.trans im8 (Im.trans im9 (Im.trans im10 (Im.trans im11 (Im.trans im17 (Im.trans im23 (Im.trans im28 im34)))))))))))), ⟨rfl, hS34.sel [4] rfl, trivial⟩⟩)))))))
                        · have hm := cfalse hb12 hm
                          obtain ⟨u5, hx11, hm⟩ := bindS hm
                          obtain ⟨b6, of4, cs4, k4, cp4, hv4, hp4, hl4, he4, hr4, hc4⟩ := (hS28.own (i := 1) ⟨rfl, rfl⟩).v.ixq hx11 rfl
                          cases hr4
                          refine qgT (d0 := 127) rfl rfl hb12 (qv (fun _ hq => r_ms rfl) (qgT (d0 := 127) rfl rfl hb12 (qv (fun _ hq => r_mi rfl) (qgT (d0 := 127) rfl rfl hb12 (qv (fun _ hq => r_ixe hv4 rfl Try.underlying29 Try.sizeOf3 hp4 hl4 he4) (qgT (d0 := 127) rfl rfl hb12 (qv (fun _ hq => r_ld rfl Try.isAgg3 (hq.cell (hc4.get (j := 0) rfl))) (qgT (d0 := 127) rfl rfl hb12 (qv (fun _ hq => r_irm rfl rfl (by decide)) (qgT (d0 := 127) rfl rfl hb12 (qv (fun _ hq => r_ib rfl rfl rfl) (qv (fun _ hq => r_pkf rfl hb12 rfl) (qv (fun _ hq => r_mb rfl) (?_))))))))))))))
                          rcases Bool.eq_false_or_eq_true ((Int.tmod u5 4) != 0) with hb13 | hb13
                          · have hm := ctrue hb13 hm
                            refine qgF (d0 := 135) rfl rfl (by rw [hb13]; rfl) (qgF (d0 := 135) rfl rfl (by rw [hb13]; rfl) (qgF (d0 := 135) rfl rfl (by rw [hb13]; rfl) (qgF (d0 := 135) rfl rfl (by rw [hb13]; rfl) (qgF (d0 := 135) rfl rfl (by rw [hb13]; rfl) (qgF (d0 := 135) rfl rfl (by rw [hb13]; rfl) (qgF (d0 := 135) rfl rfl (by rw [hb13]; rfl) (qv (fun _ hq => r_pkt rfl hb13 rfl) (qv (fun _ hq => r_mb rfl) (qgF (d0 := 144) rfl rfl rfl (qgF (d0 := 144) rfl rfl rfl (qgF (d0 := 144) rfl rfl rfl (qgF (d0 := 144) rfl rfl rfl (qgF (d0 := 144) rfl rfl rfl (qgF (d0 := 144) rfl rfl rfl (qgF (d0 := 144) rfl rfl rfl (qgF (d0 := 144) rfl rfl rfl (qgF (d0 := 144) rfl rfl rfl (qgF (d0 := 144) rfl rfl rfl (qgF (d0 := 144) rfl rfl rfl (qgF (d0 := 144) rfl rfl rfl (qv (fun _ hq => r_pkt rfl rfl rfl) (qn fun w33 T14 i3 => ?_))))))))))))))))))))))
                            have im33 := i3.imm
                            have hS33 := hS28.keep i3 (fun _ h => h)
                            refine t_thenR [(7, .pointer (some ⟨b2, 0, none⟩)), (9, .slice a27 n22 c27), (10, .slice a22 n17 c22), (11, .slice a21 n16 c21), (15, .int .i64 x11), (157, .bool true)] ⟨rfl, rfl, rfl, rfl, rfl, rfl, trivial⟩ fun J => ?_
                            refine cnd (b := true) rfl (fun _ => ?_) (fun h => nomatch h)
                            refine sq2 ?_
                            refine rg (pv (r_zb rfl) (nil (t_thenR [(6, .bool false)] ⟨rfl, trivial⟩ fun J => ?_)))
                            have hm := Option.some.inj hm
                            subst hm
                            have hn1 : _ = Lp.ret _ := hn1
                            subst hn1
                            have hm := thn_ret hq1
                            have hm := Option.some.inj hm
                            subst hm
                            exact rtn (r_then (r_blk (r_then (r_then (r_blk (r_then (ret1 rfl rfl ⟨_, rfl, _, (Im.trans im1 (Im.trans im2 (Im.trans im4 (Im.trans im5 (Im.trans im6 (Im.trans im8 (Im.trans im9 (Im.trans im10 (Im.trans im11 (Im.trans im17 (Im.trans im23 (Im.trans im28 im33)))))))))))), ⟨rfl, hS33.sel [4] rfl, trivial⟩⟩)))))))
                          · have hm := cfalse hb13 hm
                            obtain ⟨u6, hx12, hm⟩ := bindS hm
                            obtain ⟨b7, of5, cs5, k5, cp5, hv5, hp5, hl5, he5, hr5, hc5⟩ := (hS28.own (i := 1) ⟨rfl, rfl⟩).v.ixq hx12 rfl
                            cases hr5
                            refine qgT (d0 := 135) rfl rfl hb13 (qv (fun _ hq => r_ms rfl) (qgT (d0 := 135) rfl rfl hb13 (qv (fun _ hq => r_mi rfl) (qgT (d0 := 135) rfl rfl hb13 (qv (fun _ hq => r_ixe hv5 rfl Try.underlying29 Try.sizeOf3 hp5 hl5 he5) (qgT (d0 := 135) rfl rfl hb13 (qv (fun _ hq => r_ld rfl Try.isAgg3 (hq.cell (hc5.get (j := 0) rfl))) (qgT (d0 := 135) rfl rfl hb13 (qv (fun _ hq => r_fa rfl Try.underlying31 rfl Try.sizeOf3 rfl) (qgT (d0 := 135) rfl rfl hb13 (qv (fun _ hq => r_ld rfl Try.isAgg3 (hq.cell (hS28.cell0 (i := 3) ⟨rfl, rfl⟩ (j := 0) rfl))) (qgT (d0 := 135) rfl rfl hb13 (qv (fun _ hq => r_ib rfl rfl rfl) (qv (fun _ hq => r_pkf rfl hb13 rfl) (qv (fun _ hq => r_mb rfl) (?_))))))))))))))))
                            rcases Bool.eq_false_or_eq_true (decide (y3.1.Size < u6)) with hb14 | hb14
                            · have hm := ctrue hb14 hm
                              refine qgF (d0 := 144) rfl rfl (by rw [hb14]; rfl) (qgF (d0 := 144) rfl rfl (by rw [hb14]; rfl) (qgF (d0 := 144) rfl rfl (by rw [hb14]; rfl) (qgF (d0 := 144) rfl rfl (by rw [hb14]; rfl) (qgF (d0 := 144) rfl rfl (by rw [hb14]; rfl) (qgF (d0 := 144) rfl rfl (by rw [hb14]; rfl) (qgF (d0 := 144) rfl rfl (by rw [hb14]; rfl) (qgF (d0 := 144) rfl rfl (by rw [hb14]; rfl) (qgF (d0 := 144) rfl rfl (by rw [hb14]; rfl) (qgF (d0 := 144) rfl rfl (by rw [hb14]; rfl) (qgF (d0 := 144) rfl rfl (by rw [hb14]; rfl) (qgF (d0 := 144) rfl rfl (by rw [hb14]; rfl) (qv (fun _ hq => r_pkt rfl hb14 rfl) (qn fun w32 T13 i2 => ?_)))))))))))))
                              have im32 := i2.imm
                              have hS32 := hS28.keep i2 (fun _ h => h)
                              refine t_thenR [(7, .pointer (some ⟨b2, 0, none⟩)), (9, .slice a27 n22 c27), (10, .slice a22 n17 c22), (11, .slice a21 n16 c21), (15, .int .i64 x11), (157, .bool true)] ⟨rfl, rfl, rfl, rfl, rfl, rfl, trivial⟩ fun J => ?_
                              refine cnd (b := true) rfl (fun _ => ?_) (fun h => nomatch h)
                              refine sq2 ?_
                              refine rg (pv (r_zb rfl) (nil (t_thenR [(6, .bool false)] ⟨rfl, trivial⟩ fun J => ?_)))
                              have hm := Option.some.inj hm
                              subst hm
                              have hn1 : _ = Lp.ret _ := hn1
                              subst hn1
                              have hm := thn_ret hq1
                              have hm := Option.some.inj hm
                              subst hm
                              exact rtn (r_then (r_blk (r_then (r_then (r_blk (r_then (ret1 rfl rfl ⟨_, rfl, _, (Im.trans im1 (Im.trans im2 (Im.trans im4 (Im.trans im5 (Im.trans im6 (Im.trans im8 (Im.trans im9 (Im.trans im10 (Im.trans im11 (Im.trans im17 (Im.trans im23 (Im.trans im28 im32)))))))))))), ⟨rfl, hS32.sel [4] rfl, trivial⟩⟩)))))))
                            · have hm := cfalse hb14 hm
                              obtain ⟨u7, hx13, hm⟩ := bindS hm
                              obtain ⟨b8, of6, cs6, k6, cp6, hv6, hp6, hl6, he6, hr6, hc6⟩ := (hS28.own (i := 0) ⟨rfl, rfl⟩).v.ixq hx13 rfl
                              cases hr6
                              obtain ⟨u8, hx14, hm⟩ := bindS hm
                              obtain ⟨b9, of7, cs7, k7, cp7, hv7, hp7, hl7, he7, hr7, hc7⟩ := (hS28.own (i := 1) ⟨rfl, rfl⟩).v.ixq hx14 rfl
                              cases hr7
                              refine qgT (d0 := 144) rfl rfl hb14 (qv (fun _ hq => r_ms rfl) (qgT (d0 := 144) rfl rfl hb14 (qv (fun _ hq => r_mi rfl) (qgT (d0 := 144) rfl rfl hb14 (qv (fun _ hq => r_ixe hv6 rfl Try.underlying29 Try.sizeOf3 hp6 hl6 he6) (qgT (d0 := 144) rfl rfl hb14 (qv (fun _ hq => r_ld rfl Try.isAgg3 (hq.cell (hc6.get (j := 0) rfl))) (qgT (d0 := 144) rfl rfl hb14 (qv (fun _ hq => r_fa rfl Try.underlying31 rfl Try.sizeOf3 rfl) (qgT (d0 := 144) rfl rfl hb14 (qv (fun _ hq => r_ld rfl Try.isAgg3 (hq.cell (hS28.cell0 (i := 3) ⟨rfl, rfl⟩ (j := 0) rfl))) (qgT (d0 := 144) rfl rfl hb14 (qv (fun _ hq => r_ms rfl) (qgT (d0 := 144) rfl rfl hb14 (qv (fun _ hq => r_mi rfl) (qgT (d0 := 144) rfl rfl hb14 (qv (fun _ hq => r_ixe hv7 rfl Try.underlying29 Try.sizeOf3 hp7 hl7 he7) (qgT (d0 := 144) rfl rfl hb14 (qv (fun _ hq => r_ld rfl Try.isAgg3 (hq.cell (hc7.get (j := 0) rfl))) (qgT (d0 := 144) rfl rfl hb14 (qv (fun _ hq => r_ib rfl rfl rfl) (qgT (d0 := 144) rfl rfl hb14 (qv (fun _ hq => r_ib rfl rfl rfl) (qv (fun _ hq => r_pkf rfl hb14 rfl) (qn fun w29 T11 i1 => ?_)))))))))))))))))))))))))
                              have im29 := i1.imm
                              have hS29 := hS28.keep i1 (fun _ h => h)
                              refine t_thenR [(7, .pointer (some ⟨b2, 0, none⟩)), (9, .slice a27 n22 c27), (10, .slice a22 n17 c22), (11, .slice a21 n16 c21), (15, .int .i64 x11), (157, .bool (decide ((IntKind.wrap .i64 (y3.1.Size - u8)) < u7)))] ⟨rfl, rfl, rfl, rfl, rfl, rfl, trivial⟩ fun J => ?_
                              refine cnd rfl (fun hb15 => ?_) (fun hb15 => ?_)
                              · have hm := ctrue hb15 hm
                                refine sq2 ?_
                                refine rg (pv (r_zb rfl) (nil (t_thenR [(6, .bool false)] ⟨rfl, trivial⟩ fun J => ?_)))
                                have hm := Option.some.inj hm
                                subst hm
                                have hn1 : _ = Lp.ret _ := hn1
                                subst hn1
                                have hm := thn_ret hq1
                                have hm := Option.some.inj hm
                                subst hm
                                exact rtn (r_then (r_blk (r_then (r_then (r_blk (r_then (ret1 rfl rfl ⟨_, rfl, _, (Im.trans im1 (Im.trans im2 (Im.trans im4 (Im.trans im5 (Im.trans im6 (Im.trans im8 (Im.trans im9 (Im.trans im10 (Im.trans im11 (Im.trans im17 (Im.trans im23 (Im.trans im28 im29)))))))))))), ⟨rfl, hS29.sel [4] rfl, trivial⟩⟩)))))))
                              · have hm := cfalse hb15 hm
                                refine skp (t_then ?_)
                                refine sq2 ?_
                                refine rg (pv (r_zi rfl) (nil (t_then ?_)))
                                obtain ⟨o2, ho2, hq2⟩ := bindS hm
                                obtain ⟨bd2, hbd2, ho2⟩ := loop_open ho2
                                refine blk (wp_loop_ghost (fun m a w30 => ∃ (J : Nat → Value) (T12 : Nat → Prop) (x12 : List Bool) (a28 : Option Addr) (n23 : Nat) (c28 : Nat) (x13 : Int), a = env (nf 190) J [(7, .pointer (some ⟨b2, 0, none⟩)), (9, .slice a28 n23 c28), (10, .slice a22 n17 c22), (11, .slice a21 n16 c21), (15, .int .i64 x11), (16, .int .i64 x13)] ∧ Im T11 w29 T12 w30 ∧ Sep g T12 w30 [ownA (rInt .i64) 3 (.slice a21 n16 c21) x7, ownA (rInt .i64) 3 (.slice a22 n17 c22) x8, ownA rBool 4 (.slice a28 n23 c28) x12, boxA b2 [.int .i64 y3.1.Size, .slice a4 (List.length y3.1.Saved) c4, .int .i64 y3.1.Slots, .slice a5 (List.length y3.1.Objects) c5], R] ∧ loopM bd2 m (x12, x13) = some o2) NN ⟨_, _, x10, _, _, _, 0, env_has ⟨rfl, rfl, rfl, rfl, rfl, rfl, trivial⟩, Im.refl, hS29.sel [0, 1, 2, 3, 4] rfl, ho2⟩ ?_)
                                rintro m _ w30 ⟨J, T12, x12, a28, n23, c28, x13, rfl, im30, hS30, ho2⟩
                                obtain ⟨m2, z2, rfl, hm, hn2⟩ := loop_round ho2
                                rw [hbd2] at hm
                                refine sq2 ?_
                                refine sq2 ?_
                                obtain ⟨u9, hx15, hm⟩ := bindS hm
                                obtain ⟨b10, of8, cs8, k8, cp8, hv8, hp8, hl8, he8, hr8, hc8⟩ := (hS30.own (i := 0) ⟨rfl, rfl⟩).v.ixq hx15 rfl
                                cases hr8
                                refine rg (pv (r_mi rfl) (pv (r_ms rfl) (pv (r_mi rfl) (pv (r_ixe hv8 rfl Try.underlying29 Try.sizeOf3 hp8 hl8 he8) (pv (r_ld rfl Try.isAgg3 (hc8.get (j := 0) rfl)) (pv (r_ib rfl rfl rfl) (nil (t_thenR [(7, .pointer (some ⟨b2, 0, none⟩)), (9, .slice a28 n23 c28), (10, .slice a22 n17 c22), (11, .slice a21 n16 c21), (15, .int .i64 x11), (16, .int .i64 x13), (163, .bool (decide (x13 < u9)))] ⟨rfl, rfl, rfl, rfl, rfl, rfl, rfl, trivial⟩ fun J => ?_))))))))
                                refine cnd rfl (fun hb16 => ?_) (fun hb16 => ?_)
                                · have hm := ctrue hb16 hm
                                  refine skp (t_then ?_)
                                  refine sq2 ?_
                                  refine blk ?_
                                  refine sq2 ?_
                                  refine sq2 ?_
                                  obtain ⟨u10, hx16, hm⟩ := bindS hm
                                  obtain ⟨b11, of9, cs9, k9, cp9, hv9, hp9, hl9, he9, hr9, hc9⟩ := (hS30.own (i := 1) ⟨rfl, rfl⟩).v.ixq hx16 rfl
                                  cases hr9
                                  obtain ⟨u11, hx17, hm⟩ := bindS hm
                                  obtain ⟨b12, of10, cs10, k10, cp10, hv10, hp10, hl10, he10, hr10, hc10⟩ := (hS30.own (i := 2) ⟨rfl, rfl⟩).v.ixq hx17 rfl
                                  cases hr10
                                  refine rg (pv (r_ms rfl) (pv (r_ms rfl) (pv (r_mi rfl) (pv (r_ixe hv9 rfl Try.underlying29 Try.sizeOf3 hp9 hl9 he9) (pv (r_ld rfl Try.isAgg3 (hc9.get (j := 0) rfl)) (pv (r_mi rfl) (pv (r_ib rfl rfl rfl) (pv (r_ixe hv10 rfl Try.underlying39 Try.sizeOf4 hp10 hl10 he10) (pv (r_ld rfl Try.isAgg4 (hc10.get (j := 0) rfl)) (nil (t_thenR [(7, .pointer (some ⟨b2, 0, none⟩)), (9, .slice a28 n23 c28), (10, .slice a22 n17 c22), (11, .slice a21 n16 c21), (15, .int .i64 x11), (16, .int .i64 x13), (174, .bool u11)] ⟨rfl, rfl, rfl, rfl, rfl, rfl, rfl, trivial⟩ fun J => ?_)))))))))))
                                  refine cnd rfl (fun hb17 => ?_) (fun hb17 => ?_)
                                  · have hm := ctrue hb17 hm
                                    refine sq2 ?_
                                    refine rg (pv (r_zb rfl) (nil (t_thenR [(6, .bool false)] ⟨rfl, trivial⟩ fun J => ?_)))
                                    have hm := Option.some.inj hm
                                    subst hm
                                    have hn2 : _ = Lp.ret _ := hn2
                                    subst hn2
                                    have hm := thn_ret hq2
                                    have hm := Option.some.inj hm
                                    subst hm
                                    have hn1 : _ = Lp.ret _ := hn1
                                    subst hn1
                                    have hm := thn_ret hq1
                                    have hm := Option.some.inj hm
                                    subst hm
                                    exact rtn (r_then (r_blk (r_then (r_then (r_blk (r_blk (r_then (r_then (r_blk (r_then (ret1 rfl rfl ⟨_, rfl, _, (Im.trans im1 (Im.trans im2 (Im.trans im4 (Im.trans im5 (Im.trans im6 (Im.trans im8 (Im.trans im9 (Im.trans im10 (Im.trans im11 (Im.trans im17 (Im.trans im23 (Im.trans im28 (Im.trans im29 im30))))))))))))), ⟨rfl, hS30.sel [4] rfl, trivial⟩⟩)))))))))))
                                  · have hm := cfalse hb17 hm
                                    refine skp (t_then ?_)
                                    obtain ⟨u12, hx18, hm⟩ := bindS hm
                                    obtain ⟨b13, of11, cs11, k11, cp11, hv11, hp11, hl11, he11, hr11, hc11⟩ := (hS30.own (i := 1) ⟨rfl, rfl⟩).v.ixq hx18 rfl
                                    cases hr11
                                    obtain ⟨u13, hx19, hm⟩ := bindS hm
                                    obtain ⟨b14, of12, cs12, k12, cp12, hv12, hp12, hl12, he12, hr12, hc12⟩ := (hS30.own (i := 2) ⟨rfl, rfl⟩).v.ixq hx19 rfl
                                    cases hr12
                                    obtain ⟨u14, hx20, hm⟩ := bindS hm
                                    refine rg (pv (r_ms rfl) (pv (r_ms rfl) (pv (r_mi rfl) (pv (r_ixe hv11 rfl Try.underlying29 Try.sizeOf3 hp11 hl11 he11) (pv (r_ld rfl Try.isAgg3 (hc11.get (j := 0) rfl)) (pv (r_mi rfl) (pv (r_ib rfl rfl rfl) (pv (r_ixe hv12 rfl Try.underlying39 Try.sizeOf4 hp12 hl12 he12) (wl rfl (stO (q := 2) (i := Int.toNat (IntKind.wrap .i64 (u12 + x13))) (j := 0) (u := u14) (u' := true) hS30 ⟨rfl, rfl⟩ hv12 (idx_some hx20).2.2 he12 rfl rfl rfl Try.sizeOf4 rfl rfl rfl (fun c0 hc0 => by rw [storeL_all (r := rBool) hc0 rfl]; exact rfl) fun w31 im31 hS31 => ?_))))))))))
                                    have hS31 : Sep g T12 w31 [ownA (rInt .i64) 3 (.slice a21 n16 c21) x7, ownA (rInt .i64) 3 (.slice a22 n17 c22) x8, ownA rBool 4 (.slice a28 n23 c28) (List.set x12 (Int.toNat (IntKind.wrap .i64 (u12 + x13))) true), boxA b2 [.int .i64 y3.1.Size, .slice a4 (List.length y3.1.Saved) c4, .int .i64 y3.1.Slots, .slice a5 (List.length y3.1.Objects) c5], R] := hS31
                                    refine nil (t_blk (t_thenR [(7, .pointer (some ⟨b2, 0, none⟩)), (9, .slice a28 n23 c28), (10, .slice a22 n17 c22), (11, .slice a21 n16 c21), (15, .int .i64 x11), (16, .int .i64 x13)] ⟨rfl, rfl, rfl, rfl, rfl, rfl, trivial⟩ fun J => ?_))
                                    have hm := Option.some.inj hm
                                    subst hm
                                    exact rg (pv (r_mi rfl) (pv (r_ib rfl rfl rfl) (pv (r_zi rfl) (nil (t_then ⟨m2, Nat.lt_succ_self _, _, _, (List.set x12 (Int.toNat (IntKind.wrap .i64 (u12 + x13))) true), _, _, _, (IntKind.wrap .i64 (x13 + 1)), env_has ⟨rfl, rfl, rfl, rfl, rfl, rfl, trivial⟩, (Im.trans im30 im31), hS31.sel [0, 1, 2, 3, 4] rfl, hn2⟩)))))
                                · have hm := cfalse hb16 hm
                                  have hm := Option.some.inj hm
                                  subst hm
                                  have hn2 : _ = Lp.brk _ := hn2
                                  subst hn2
                                  have hm := thn_brk hq2
                                  refine xt (x_then (x_then (x_eq (t_blk (t_then ?_)))))
                                  have hm := Option.some.inj hm
                                  subst hm
                                  exact rg (pv (r_mi rfl) (pv (r_ib rfl rfl rfl) (pv (r_zi rfl) (nil (t_then ⟨m1, Nat.lt_succ_self _, _, _, x12, _, _, _, (IntKind.wrap .i64 (x11 + 1)), env_has ⟨rfl, rfl, rfl, rfl, rfl, trivial⟩, (Im.trans im28 (Im.trans im29 im30)), hS30.sel [0, 1, 2, 3, 4] rfl, hn1⟩)))))
                      · have hm := cfalse hb11 hm
                        have hm := Option.some.inj hm
                        subst hm
                        have hn1 : _ = Lp.brk _ := hn1
                        subst hn1
                        have hm := thn_brk hq1
                        refine xt (x_then (x_then (x_eq (t_thenR [(7, .pointer (some ⟨b2, 0, none⟩))] ⟨rfl, trivial⟩ fun J => ?_))))
                        refine sq2 ?_
                        obtain ⟨y7, hx21, hm⟩ := bindS hm
                        refine rg (wl rfl (calS cf6 rfl (law25_awake_sim  (hS28.bun [3, 4] [] rfl)  hx21) rfl fun v7 T16 w35 im35 rv7 => ?_))
                        obtain ⟨rfl, hS35, _⟩ := rv7
                        have hS35 : Sep g T16 w35 [boxA b2 [.int .i64 y3.1.Size, .slice a4 (List.length y3.1.Saved) c4, .int .i64 y3.1.Slots, .slice a5 (List.length y3.1.Objects) c5], R] := hS35.unb
                        refine pv (r_mb rfl) (?_)
                        rcases Bool.eq_false_or_eq_true y7 with hb21 | hb21
                        · have hm := ctrue hb21 hm
                          refine gT (d0 := 184) rfl rfl hb21 (pv (r_fa rfl Try.underlying31 rfl Try.sizeOf3 rfl) (gT (d0 := 184) rfl rfl hb21 (pv (r_ld rfl Try.isAgg3 (hS35.cell0 (i := 0) ⟨rfl, rfl⟩ (j := 0) rfl)) (gT (d0 := 184) rfl rfl hb21 (pv (r_irm rfl rfl (by decide)) (gT (d0 := 184) rfl rfl hb21 (pv (r_ib rfl rfl rfl) (pv (r_pkt rfl hb21 rfl) (pv (r_zb rfl) (nil (t_thenR [(6, .bool ((Int.tmod y3.1.Size 4) == 0))] ⟨rfl, trivial⟩ fun J => ?_)))))))))))
                          have hm := Option.some.inj hm
                          subst hm
                          exact rtn (ret1 rfl rfl ⟨_, rfl, _, (Im.trans im1 (Im.trans im2 (Im.trans im4 (Im.trans im5 (Im.trans im6 (Im.trans im8 (Im.trans im9 (Im.trans im10 (Im.trans im11 (Im.trans im17 (Im.trans im23 (Im.trans im28 im35)))))))))))), ⟨rfl, hS35.sel [1] rfl, trivial⟩⟩)
                        · have hm := cfalse hb21 hm
                          refine gF (d0 := 184) rfl rfl (by rw [hb21]; rfl) (gF (d0 := 184) rfl rfl (by rw [hb21]; rfl) (gF (d0 := 184) rfl rfl (by rw [hb21]; rfl) (gF (d0 := 184) rfl rfl (by rw [hb21]; rfl) (pv (r_pkf rfl hb21 rfl) (pv (r_zb rfl) (nil (t_thenR [(6, .bool false)] ⟨rfl, trivial⟩ fun J => ?_)))))))
                          have hm := Option.some.inj hm
                          subst hm
                          exact rtn (ret1 rfl rfl ⟨_, rfl, _, (Im.trans im1 (Im.trans im2 (Im.trans im4 (Im.trans im5 (Im.trans im6 (Im.trans im8 (Im.trans im9 (Im.trans im10 (Im.trans im11 (Im.trans im17 (Im.trans im23 (Im.trans im28 im35)))))))))))), ⟨rfl, hS35.sel [1] rfl, trivial⟩⟩)
end Go.Proofs.Ytejhglcbjpdjlaa
