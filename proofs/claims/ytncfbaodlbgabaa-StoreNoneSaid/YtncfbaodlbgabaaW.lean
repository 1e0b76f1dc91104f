/- That Go functions compute their models. Printed by gen2.py. -/
import Derived.Test.YtncfbaodlbgabaaWb
set_option linter.unusedVariables false
namespace Go.Proofs.Ytncfbaodlbgabaa
attribute [local irreducible] wpList wpQuiet Code.wp

set_option maxRecDepth 100000 in
set_option maxHeartbeats 1000000 in
theorem law11_Few_sim {g : World} {T0 : Nat → Prop} {w0 : World} {R : Assn} {p0 : List law11Act} {a1 : Option Addr} {c1 : Nat} {r : Bool} (hS : Sep g T0 w0 [R]) (h1 : SlR rlaw11Act T0 w0 (.slice a1 (List.length p0) c1) p0) (hm : law11_Few p0 = some r) :
    Calls Try.prog 16 #[.slice a1 (List.length p0) c1] w0 (RetS T0 w0 fun T w v => v = .bool r ∧ Sep g T w [R] ∧ True) := by
  refine enter (args := [.slice a1 (List.length p0) c1]) Try.func16 rfl Try.ntmps16 rfl fun J => ?_
  unfold law11_Few at hm
  refine sq2 ?_
  refine rg (pv (r_zb rfl) (nil (t_then ?_)))
  refine sq2 ?_
  refine sq2 ?_
  refine rg (pv (r_ms rfl) (pv (r_ln rfl Try.underlying48) (pv (r_ib rfl rfl rfl) (nil (t_then ?_)))))
  refine cnd rfl (fun hb1 => ?_) (fun hb1 => ?_)
  · have hm := ctrue hb1 hm
    refine sq2 ?_
    refine rg (pv (r_zb rfl) (nil (t_thenR [(2, .bool false)] ⟨rfl, trivial⟩ fun J => ?_)))
    have hm := Option.some.inj hm
    subst hm
    exact rtn (r_then (ret1 rfl rfl ⟨_, rfl, _, Im.refl, ⟨rfl, hS.sel [0] rfl, trivial⟩⟩))
  · have hm := cfalse hb1 hm
    refine skp (t_then ?_)
    refine sq2 ?_
    refine sq2 ?_
    refine rg (pv (r_zi rfl) (nil (t_then ?_)))
    obtain ⟨o1, ho1, hq1⟩ := bindS hm
    obtain ⟨bd1, hbd1, ho1⟩ := loop_open ho1
    refine blk (wp_loop_ghost (fun m a w1 => ∃ (J : Nat → Value) (T1 : Nat → Prop) (x1 : Int), a = env (nf 48) J [(0, .slice a1 (List.length p0) c1), (3, .int .i64 x1)] ∧ Im T0 w0 T1 w1 ∧ Sep g T1 w1 [R] ∧ loopM bd1 m x1 = some o1) NN ⟨_, _, 0, env_has ⟨rfl, rfl, trivial⟩, Im.refl, hS.sel [0] rfl, ho1⟩ ?_)
    rintro m _ w1 ⟨J, T1, x1, rfl, im1, hS1, ho1⟩
    obtain ⟨m1, z1, rfl, hm, hn1⟩ := loop_round ho1
    rw [hbd1] at hm
    refine sq2 ?_
    refine sq2 ?_
    refine rg (pv (r_mi rfl) (pv (r_ms rfl) (pv (r_ln rfl Try.underlying48) (pv (r_ib rfl rfl rfl) (nil (t_then ?_))))))
    refine cnd rfl (fun hb2 => ?_) (fun hb2 => ?_)
    · have hm := ctrue hb2 hm
      refine skp (t_then ?_)
      refine sq2 ?_
      refine blk ?_
      refine sq2 ?_
      obtain ⟨u1, hx1, hm⟩ := bindS hm
      obtain ⟨b1, of1, cs1, k1, cp1, hv1, hp1, hl1, he1, hr1, hc1, hT1⟩ := (h1.mono im1).ixT hx1 rfl
      obtain ⟨a2, c2, rfl, h2⟩ := rlaw11Act_open hr1
      refine rg (pv (r_ms rfl) (pv (r_mi rfl) (pv (r_ixe hv1 rfl Try.underlying48 Try.sizeOf46 hp1 hl1 he1) (pv (r_ldS rfl Try.isAgg46 Try.sizeOf46 rfl hc1 (cs := [.int .i64 u1.Kind, .int .i64 u1.Obj, .int .i64 u1.N, .int .i64 u1.Size, .bool u1.Is, .slice a2 (List.length u1.Data) c2, .int .i64 u1.P.Obj, .int .i64 u1.P.Lo, .int .i64 u1.P.Hi, .int .i64 u1.P.Off, .int .u32 u1.V.Num, .int .i64 u1.V.Ptr.Obj, .int .i64 u1.V.Ptr.Lo, .int .i64 u1.V.Ptr.Hi, .int .i64 u1.V.Ptr.Off, .bool u1.V.Is])) (wl rfl (alS (zs := [.int .i64 0, .int .i64 0, .int .i64 0, .int .i64 0, .bool false, .slice none 0 0, .int .i64 0, .int .i64 0, .int .i64 0, .int .i64 0, .int .u32 0, .int .i64 0, .int .i64 0, .int .i64 0, .int .i64 0, .bool false]) Try.zeroValue46 rfl hS1 fun w2 b2 im2 hS2 => ?_))))))
      refine wl rfl (st0B (q := 0) hS2 ⟨rfl, rfl⟩ rfl rfl rfl Try.sizeOf46 rfl rfl rfl fun w3 im3 hS3 => ?_)
      have hS3 : Sep g T1 w3 [boxA b2 [.int .i64 u1.Kind, .int .i64 u1.Obj, .int .i64 u1.N, .int .i64 u1.Size, .bool u1.Is, .slice a2 (List.length u1.Data) c2, .int .i64 u1.P.Obj, .int .i64 u1.P.Lo, .int .i64 u1.P.Hi, .int .i64 u1.P.Off, .int .u32 u1.V.Num, .int .i64 u1.V.Ptr.Obj, .int .i64 u1.V.Ptr.Lo, .int .i64 u1.V.Ptr.Hi, .int .i64 u1.V.Ptr.Off, .bool u1.V.Is], R] := hS3
      refine nil (t_thenR [(0, .slice a1 (List.length p0) c1), (3, .int .i64 x1), (4, .pointer (some ⟨b2, 0, none⟩))] ⟨rfl, rfl, rfl, trivial⟩ fun J => ?_)
      refine sq2 ?_
      refine rg (pv (r_fa rfl Try.underlying46 rfl Try.sizeOf3 rfl) (pv (r_ld rfl Try.isAgg3 (hS3.cell0 (i := 0) ⟨rfl, rfl⟩ (j := 2) rfl)) (pv (r_ib rfl rfl rfl) (pv (r_mb rfl) (?_)))))
      rcases Bool.eq_false_or_eq_true (decide (300 < u1.N)) with hb3 | hb3
      · have hm := ctrue hb3 hm
        refine gT (d0 := 21) rfl rfl hb3 (pv (r_fa rfl Try.underlying46 rfl Try.sizeOf3 rfl) (gT (d0 := 21) rfl rfl hb3 (pv (r_ld rfl Try.isAgg3 (hS3.cell0 (i := 0) ⟨rfl, rfl⟩ (j := 2) rfl)) (gT (d0 := 21) rfl rfl hb3 (pv (r_ib rfl rfl rfl) (pv (r_pkt rfl hb3 rfl) (pv (r_mb rfl) (?_))))))))
        rcases Bool.eq_false_or_eq_true (decide (u1.N ≤ 32768)) with hb4 | hb4
        · have hm := ctrue hb4 hm
          refine gT (d0 := 26) rfl rfl hb4 (pv (r_fa rfl Try.underlying46 rfl Try.sizeOf3 rfl) (gT (d0 := 26) rfl rfl hb4 (pv (r_ld rfl Try.isAgg3 (hS3.cell0 (i := 0) ⟨rfl, rfl⟩ (j := 0) rfl)) (gT (d0 := 26) rfl rfl hb4 (pv (r_irm rfl rfl (by decide)) (gT (d0 := 26) rfl rfl hb4 (pv (r_ib rfl rfl rfl) (pv (r_pkt rfl hb4 rfl) (pv (r_mb rfl) (?_))))))))))
          rcases Bool.eq_false_or_eq_true ((Int.tmod u1.Kind 100) == 0) with hb5 | hb5
          · have hm := ctrue hb5 hm
            refine gF (d0 := 32) rfl rfl (by rw [hb5]; rfl) (gF (d0 := 32) rfl rfl (by rw [hb5]; rfl) (gF (d0 := 32) rfl rfl (by rw [hb5]; rfl) (gF (d0 := 32) rfl rfl (by rw [hb5]; rfl) (pv (r_pkt rfl hb5 rfl) (pv (r_mb rfl) (gF (d0 := 38) rfl rfl rfl (gF (d0 := 38) rfl rfl rfl (gF (d0 := 38) rfl rfl rfl (gF (d0 := 38) rfl rfl rfl (gF (d0 := 38) rfl rfl rfl (gF (d0 := 38) rfl rfl rfl (gF (d0 := 38) rfl rfl rfl (gF (d0 := 38) rfl rfl rfl (pv (r_pkt rfl rfl rfl) (nil (t_thenR [(0, .slice a1 (List.length p0) c1), (3, .int .i64 x1), (47, .bool true)] ⟨rfl, rfl, rfl, trivial⟩ fun J => ?_))))))))))))))))
            refine cnd (b := true) rfl (fun _ => ?_) (fun h => nomatch h)
            refine sq2 ?_
            refine rg (pv (r_zb rfl) (nil (t_then ?_)))
            have hm := Option.some.inj hm
            subst hm
            have hn1 : _ = Lp.ret _ := hn1
            subst hn1
            have hm := thn_ret hq1
            have hm := Option.some.inj hm
            subst hm
            exact rtn (r_blk (r_then (r_then (r_blk (r_then (ret1 rfl rfl ⟨_, rfl, _, (Im.trans im1 (Im.trans im2 im3)), ⟨rfl, hS3.sel [1] rfl, trivial⟩⟩))))))
          · have hm := cfalse hb5 hm
            refine gT (d0 := 32) rfl rfl hb5 (pv (r_fa rfl Try.underlying46 rfl Try.sizeOf41 rfl) (gT (d0 := 32) rfl rfl hb5 (pv (r_ld rfl Try.isAgg41 (hS3.cell0 (i := 0) ⟨rfl, rfl⟩ (j := 5) rfl)) (gT (d0 := 32) rfl rfl hb5 (pv (r_ln rfl Try.underlying41) (gT (d0 := 32) rfl rfl hb5 (pv (r_ib rfl rfl rfl) (pv (r_pkf rfl hb5 rfl) (pv (r_mb rfl) (?_))))))))))
            rcases Bool.eq_false_or_eq_true (decide (300 < (List.length u1.Data : Int))) with hb6 | hb6
            · have hm := ctrue hb6 hm
              refine gF (d0 := 38) rfl rfl (by rw [hb6]; rfl) (gF (d0 := 38) rfl rfl (by rw [hb6]; rfl) (gF (d0 := 38) rfl rfl (by rw [hb6]; rfl) (gF (d0 := 38) rfl rfl (by rw [hb6]; rfl) (gF (d0 := 38) rfl rfl (by rw [hb6]; rfl) (gF (d0 := 38) rfl rfl (by rw [hb6]; rfl) (gF (d0 := 38) rfl rfl (by rw [hb6]; rfl) (gF (d0 := 38) rfl rfl (by rw [hb6]; rfl) (pv (r_pkt rfl hb6 rfl) (nil (t_thenR [(0, .slice a1 (List.length p0) c1), (3, .int .i64 x1), (47, .bool true)] ⟨rfl, rfl, rfl, trivial⟩ fun J => ?_))))))))))
              refine cnd (b := true) rfl (fun _ => ?_) (fun h => nomatch h)
              refine sq2 ?_
              refine rg (pv (r_zb rfl) (nil (t_then ?_)))
              have hm := Option.some.inj hm
              subst hm
              have hn1 : _ = Lp.ret _ := hn1
              subst hn1
              have hm := thn_ret hq1
              have hm := Option.some.inj hm
              subst hm
              exact rtn (r_blk (r_then (r_then (r_blk (r_then (ret1 rfl rfl ⟨_, rfl, _, (Im.trans im1 (Im.trans im2 im3)), ⟨rfl, hS3.sel [1] rfl, trivial⟩⟩))))))
            · have hm := cfalse hb6 hm
              obtain ⟨y1, hx2, hm⟩ := bindS hm
              refine gT (d0 := 38) rfl rfl hb6 (pv (r_fa rfl Try.underlying46 rfl Try.sizeOf24 rfl) (gT (d0 := 38) rfl rfl hb6 (pv (r_ldS rfl Try.isAgg24 Try.sizeOf24 rfl (hS3.cells0 (i := 0) ⟨rfl, rfl⟩ (o := 6) rfl) (cs := [.int .i64 u1.P.Obj, .int .i64 u1.P.Lo, .int .i64 u1.P.Hi, .int .i64 u1.P.Off])) (gT (d0 := 38) rfl rfl hb6 (pv (r_fa rfl Try.underlying46 rfl Try.sizeOf3 rfl) (gT (d0 := 38) rfl rfl hb6 (pv (r_ld rfl Try.isAgg3 (hS3.cell0 (i := 0) ⟨rfl, rfl⟩ (j := 2) rfl)) (gT (d0 := 38) rfl rfl hb6 (pv (r_fa rfl Try.underlying46 rfl Try.sizeOf3 rfl) (gT (d0 := 38) rfl rfl hb6 (pv (r_ld rfl Try.isAgg3 (hS3.cell0 (i := 0) ⟨rfl, rfl⟩ (j := 3) rfl)) (gT (d0 := 38) rfl rfl hb6 (wl rfl (calS cf23 rfl (ref11_Sane_sim (p0 := u1.P) (p1 := u1.N) (p2 := u1.Size) (hS3.bun [1] [] rfl)  hx2) rfl fun v1 T2 w4 im4 rv1 => ?_))))))))))))))
              obtain ⟨rfl, hS4, _⟩ := rv1
              have hS4 : Sep g T2 w4 [R] := hS4.unb
              refine gT (d0 := 38) rfl rfl hb6 (pv (r_nt rfl) (pv (r_pkf rfl hb6 rfl) (nil (t_thenR [(0, .slice a1 (List.length p0) c1), (3, .int .i64 x1), (47, .bool (!y1))] ⟨rfl, rfl, rfl, trivial⟩ fun J => ?_))))
              refine cnd rfl (fun hb7 => ?_) (fun hb7 => ?_)
              · have hm := ctrue hb7 hm
                refine sq2 ?_
                refine rg (pv (r_zb rfl) (nil (t_then ?_)))
                have hm := Option.some.inj hm
                subst hm
                have hn1 : _ = Lp.ret _ := hn1
                subst hn1
                have hm := thn_ret hq1
                have hm := Option.some.inj hm
                subst hm
                exact rtn (r_blk (r_then (r_then (r_blk (r_then (ret1 rfl rfl ⟨_, rfl, _, (Im.trans im1 (Im.trans im2 (Im.trans im3 im4))), ⟨rfl, hS4.sel [0] rfl, trivial⟩⟩))))))
              · have hm := cfalse hb7 hm
                refine skp (t_blk (t_then ?_))
                have hm := Option.some.inj hm
                subst hm
                exact rg (pv (r_mi rfl) (pv (r_ib rfl rfl rfl) (pv (r_zi rfl) (nil (t_then ⟨m1, Nat.lt_succ_self _, _, _, (IntKind.wrap .i64 (x1 + 1)), env_has ⟨rfl, rfl, trivial⟩, (Im.trans im1 (Im.trans im2 (Im.trans im3 im4))), hS4.sel [0] rfl, hn1⟩)))))
        · have hm := cfalse hb4 hm
          refine gF (d0 := 26) rfl rfl (by rw [hb4]; rfl) (gF (d0 := 26) rfl rfl (by rw [hb4]; rfl) (gF (d0 := 26) rfl rfl (by rw [hb4]; rfl) (gF (d0 := 26) rfl rfl (by rw [hb4]; rfl) (pv (r_pkf rfl hb4 rfl) (pv (r_mb rfl) (gT (d0 := 32) rfl rfl rfl (pv (r_fa rfl Try.underlying46 rfl Try.sizeOf41 rfl) (gT (d0 := 32) rfl rfl rfl (pv (r_ld rfl Try.isAgg41 (hS3.cell0 (i := 0) ⟨rfl, rfl⟩ (j := 5) rfl)) (gT (d0 := 32) rfl rfl rfl (pv (r_ln rfl Try.underlying41) (gT (d0 := 32) rfl rfl rfl (pv (r_ib rfl rfl rfl) (pv (r_pkf rfl rfl rfl) (pv (r_mb rfl) (?_))))))))))))))))
          rcases Bool.eq_false_or_eq_true (decide (300 < (List.length u1.Data : Int))) with hb10 | hb10
          · have hm := ctrue hb10 hm
            refine gF (d0 := 38) rfl rfl (by rw [hb10]; rfl) (gF (d0 := 38) rfl rfl (by rw [hb10]; rfl) (gF (d0 := 38) rfl rfl (by rw [hb10]; rfl) (gF (d0 := 38) rfl rfl (by rw [hb10]; rfl) (gF (d0 := 38) rfl rfl (by rw [hb10]; rfl) (gF (d0 := 38) rfl rfl (by rw [hb10]; rfl) (gF (d0 := 38) rfl rfl (by rw [hb10]; rfl) (gF (d0 := 38) rfl rfl (by rw [hb10]; rfl) (pv (r_pkt rfl hb10 rfl) (nil (t_thenR [(0, .slice a1 (List.length p0) c1), (3, .int .i64 x1), (47, .bool true)] ⟨rfl, rfl, rfl, trivial⟩ fun J => ?_))))))))))
            refine cnd (b := true) rfl (fun _ => ?_) (fun h => nomatch h)
            refine sq2 ?_
            refine rg (pv (r_zb rfl) (nil (t_then ?_)))
            have hm := Option.some.inj hm
            subst hm
            have hn1 : _ = Lp.ret _ := hn1
            subst hn1
            have hm := thn_ret hq1
            have hm := Option.some.inj hm
            subst hm
            exact rtn (r_blk (r_then (r_then (r_blk (r_then (ret1 rfl rfl ⟨_, rfl, _, (Im.trans im1 (Im.trans im2 im3)), ⟨rfl, hS3.sel [1] rfl, trivial⟩⟩))))))
          · have hm := cfalse hb10 hm
            obtain ⟨y2, hx3, hm⟩ := bindS hm
            refine gT (d0 := 38) rfl rfl hb10 (pv (r_fa rfl Try.underlying46 rfl Try.sizeOf24 rfl) (gT (d0 := 38) rfl rfl hb10 (pv (r_ldS rfl Try.isAgg24 Try.sizeOf24 rfl (hS3.cells0 (i := 0) ⟨rfl, rfl⟩ (o := 6) rfl) (cs := [.int .i64 u1.P.Obj, .int .i64 u1.P.Lo, .int .i64 u1.P.Hi, .int .i64 u1.P.Off])) (gT (d0 := 38) rfl rfl hb10 (pv (r_fa rfl Try.underlying46 rfl Try.sizeOf3 rfl) (gT (d0 := 38) rfl rfl hb10 (pv (r_ld rfl Try.isAgg3 (hS3.cell0 (i := 0) ⟨rfl, rfl⟩ (j := 2) rfl)) (gT (d0 := 38) rfl rfl hb10 (pv (r_fa rfl Try.underlying46 rfl Try.sizeOf3 rfl) (gT (d0 := 38) rfl rfl hb10 (pv (r_ld rfl Try.isAgg3 (hS3.cell0 (i := 0) ⟨rfl, rfl⟩ (j := 3) rfl)) (gT (d0 := 38) rfl rfl hb10 (wl rfl (calS cf23 rfl (ref11_Sane_sim (p0 := u1.P) (p1 := u1.N) (p2 := u1.Size) (hS3.bun [1] [] rfl)  hx3) rfl fun v2 T3 w5 im5 rv2 => ?_))))))))))))))
            obtain ⟨rfl, hS5, _⟩ := rv2
            have hS5 : Sep g T3 w5 [R] := hS5.unb
            refine gT (d0 := 38) rfl rfl hb10 (pv (r_nt rfl) (pv (r_pkf rfl hb10 rfl) (nil (t_thenR [(0, .slice a1 (List.length p0) c1), (3, .int .i64 x1), (47, .bool (!y2))] ⟨rfl, rfl, rfl, trivial⟩ fun J => ?_))))
            refine cnd rfl (fun hb11 => ?_) (fun hb11 => ?_)
            · have hm := ctrue hb11 hm
              refine sq2 ?_
              refine rg (pv (r_zb rfl) (nil (t_then ?_)))
              have hm := Option.some.inj hm
              subst hm
              have hn1 : _ = Lp.ret _ := hn1
              subst hn1
              have hm := thn_ret hq1
              have hm := Option.some.inj hm
              subst hm
              exact rtn (r_blk (r_then (r_then (r_blk (r_then (ret1 rfl rfl ⟨_, rfl, _, (Im.trans im1 (Im.trans im2 (Im.trans im3 im5))), ⟨rfl, hS5.sel [0] rfl, trivial⟩⟩))))))
            · have hm := cfalse hb11 hm
              refine skp (t_blk (t_then ?_))
              have hm := Option.some.inj hm
              subst hm
              exact rg (pv (r_mi rfl) (pv (r_ib rfl rfl rfl) (pv (r_zi rfl) (nil (t_then ⟨m1, Nat.lt_succ_self _, _, _, (IntKind.wrap .i64 (x1 + 1)), env_has ⟨rfl, rfl, trivial⟩, (Im.trans im1 (Im.trans im2 (Im.trans im3 im5))), hS5.sel [0] rfl, hn1⟩)))))
      · have hm := cfalse hb3 hm
        refine gF (d0 := 21) rfl rfl (by rw [hb3]; rfl) (gF (d0 := 21) rfl rfl (by rw [hb3]; rfl) (gF (d0 := 21) rfl rfl (by rw [hb3]; rfl) (pv (r_pkf rfl hb3 rfl) (pv (r_mb rfl) (gF (d0 := 26) rfl rfl rfl (gF (d0 := 26) rfl rfl rfl (gF (d0 := 26) rfl rfl rfl (gF (d0 := 26) rfl rfl rfl (pv (r_pkf rfl rfl rfl) (pv (r_mb rfl) (gT (d0 := 32) rfl rfl rfl (pv (r_fa rfl Try.underlying46 rfl Try.sizeOf41 rfl) (gT (d0 := 32) rfl rfl rfl (pv (r_ld rfl Try.isAgg41 (hS3.cell0 (i := 0) ⟨rfl, rfl⟩ (j := 5) rfl)) (gT (d0 := 32) rfl rfl rfl (pv (r_ln rfl Try.underlying41) (gT (d0 := 32) rfl rfl rfl (pv (r_ib rfl rfl rfl) (pv (r_pkf rfl rfl rfl) (pv (r_mb rfl) (?_)))))))))))))))))))))
        rcases Bool.eq_false_or_eq_true (decide (300 < (List.length u1.Data : Int))) with hb13 | hb13
        · have hm := ctrue hb13 hm
          refine gF (d0 := 38) rfl rfl (by rw [hb13]; rfl) (gF (d0 := 38) rfl rfl (by rw [hb13]; rfl) (gF (d0 := 38) rfl rfl (by rw [hb13]; rfl) (gF (d0 := 38) rfl rfl (by rw [hb13]; rfl) (gF (d0 := 38) rfl rfl (by rw [hb13]; rfl) (gF (d0 := 38) rfl rfl (by rw [hb13]; rfl) (gF (d0 := 38) rfl rfl (by rw [hb13]; rfl) (gF (d0 := 38) rfl rfl (by rw [hb13]; rfl) (pv (r_pkt rfl hb13 rfl) (nil (t_thenR [(0, .slice a1 (List.length p0) c1), (3, .int .i64 x1), (47, .bool true)] ⟨rfl, rfl, rfl, trivial⟩ fun J => ?_))))))))))
          refine cnd (b := true) rfl (fun _ => ?_) (fun h => nomatch h)
          refine sq2 ?_
          refine rg (pv (r_zb rfl) (nil (t_then ?_)))
          have hm := Option.some.inj hm
          subst hm
          have hn1 : _ = Lp.ret _ := hn1
          subst hn1
          have hm := thn_ret hq1
          have hm := Option.some.inj hm
          subst hm
          exact rtn (r_blk (r_then (r_then (r_blk (r_then (ret1 rfl rfl ⟨_, rfl, _, (Im.trans im1 (Im.trans im2 im3)), ⟨rfl, hS3.sel [1] rfl, trivial⟩⟩))))))
        · have hm := cfalse hb13 hm
          obtain ⟨y3, hx4, hm⟩ := bindS hm
          refine gT (d0 := 38) rfl rfl hb13 (pv (r_fa rfl Try.underlying46 rfl Try.sizeOf24 rfl) (gT (d0 := 38) rfl rfl hb13 (pv (r_ldS rfl Try.isAgg24 Try.sizeOf24 rfl (hS3.cells0 (i := 0) ⟨rfl, rfl⟩ (o := 6) rfl) (cs := [.int .i64 u1.P.Obj, .int .i64 u1.P.Lo, .int .i64 u1.P.Hi, .int .i64 u1.P.Off])) (gT (d0 := 38) rfl rfl hb13 (pv (r_fa rfl Try.underlying46 rfl Try.sizeOf3 rfl) (gT (d0 := 38) rfl rfl hb13 (pv (r_ld rfl Try.isAgg3 (hS3.cell0 (i := 0) ⟨rfl, rfl⟩ (j := 2) rfl)) (gT (d0 := 38) rfl rfl hb13 (pv (r_fa rfl Try.underlying46 rfl Try.sizeOf3 rfl) (gT (d0 := 38) rfl rfl hb13 (pv (r_ld rfl Try.isAgg3 (hS3.cell0 (i := 0) ⟨rfl, rfl⟩ (j := 3) rfl)) (gT (d0 := 38) rfl rfl hb13 (wl rfl (calS cf23 rfl (ref11_Sane_sim (p0 := u1.P) (p1 := u1.N) (p2 := u1.Size) (hS3.bun [1] [] rfl)  hx4) rfl fun v3 T4 w6 im6 rv3 => ?_))))))))))))))
          obtain ⟨rfl, hS6, _⟩ := rv3
          have hS6 : Sep g T4 w6 [R] := hS6.unb
          refine gT (d0 := 38) rfl rfl hb13 (pv (r_nt rfl) (pv (r_pkf rfl hb13 rfl) (nil (t_thenR [(0, .slice a1 (List.length p0) c1), (3, .int .i64 x1), (47, .bool (!y3))] ⟨rfl, rfl, rfl, trivial⟩ fun J => ?_))))
          refine cnd rfl (fun hb14 => ?_) (fun hb14 => ?_)
          · have hm := ctrue hb14 hm
            refine sq2 ?_
            refine rg (pv (r_zb rfl) (nil (t_then ?_)))
            have hm := Option.some.inj hm
            subst hm
            have hn1 : _ = Lp.ret _ := hn1
            subst hn1
            have hm := thn_ret hq1
            have hm := Option.some.inj hm
            subst hm
            exact rtn (r_blk (r_then (r_then (r_blk (r_then (ret1 rfl rfl ⟨_, rfl, _, (Im.trans im1 (Im.trans im2 (Im.trans im3 im6))), ⟨rfl, hS6.sel [0] rfl, trivial⟩⟩))))))
          · have hm := cfalse hb14 hm
            refine skp (t_blk (t_then ?_))
            have hm := Option.some.inj hm
            subst hm
            exact rg (pv (r_mi rfl) (pv (r_ib rfl rfl rfl) (pv (r_zi rfl) (nil (t_then ⟨m1, Nat.lt_succ_self _, _, _, (IntKind.wrap .i64 (x1 + 1)), env_has ⟨rfl, rfl, trivial⟩, (Im.trans im1 (Im.trans im2 (Im.trans im3 im6))), hS6.sel [0] rfl, hn1⟩)))))
    · have hm := cfalse hb2 hm
      have hm := Option.some.inj hm
      subst hm
      have hn1 : _ = Lp.brk _ := hn1
      subst hn1
      have hm := thn_brk hq1
      refine xt (x_then (x_then (x_eq (t_thenR [] trivial fun J => ?_))))
      refine sq2 ?_
      refine rg (pv (r_zb rfl) (nil (t_then ?_)))
      have hm := Option.some.inj hm
      subst hm
      exact rtn (ret1 rfl rfl ⟨_, rfl, _, im1, ⟨rfl, hS1.sel [0] rfl, trivial⟩⟩)

set_option maxRecDepth 100000 in
set_option maxHeartbeats 1000000 in
theorem store_Store_Make_2_sim {g : World} {T0 : Nat → Prop} {w0 : World} {R : Assn} {p0 : Int} {r : StorePtr × Int} (hS : Sep g T0 w0 [R])  (hm : store_Store_Make_2 p0 = some r) :
    Calls Try.prog 8 #[.pointer none, .int .i64 p0] w0 (RetS T0 w0 fun T w v => v = .tuple #[.agg #[.int .i64 r.1.Obj, .int .i64 r.1.Lo, .int .i64 r.1.Hi, .int .i64 r.1.Off], .int .i64 r.2] ∧ Sep g T w [R] ∧ True) := by
  refine enter (args := [.pointer none, .int .i64 p0]) Try.func8 rfl Try.ntmps8 rfl fun J => ?_
  unfold store_Store_Make_2 at hm
  refine sq2 ?_
  refine rg (wl rfl (alS (zs := [.int .i64 0, .int .i64 0, .int .i64 0, .int .i64 0]) Try.zeroValue24 rfl hS fun w1 b1 im1 hS1 => ?_))
  refine pv (r_zi rfl) (nil (t_then ?_))
  refine sq2 ?_
  refine blk ?_
  refine sq2 ?_
  refine rg (pv (r_mp rfl) (pv (r_pne rfl rfl rfl Try.underlying30) (pv (r_mb rfl) (gF (d0 := 9) rfl rfl rfl (gF (d0 := 9) rfl rfl rfl (pv (r_pkt rfl rfl rfl) (pv (r_mb rfl) (gF (d0 := 13) rfl rfl rfl (gF (d0 := 13) rfl rfl rfl (pv (r_pkt rfl rfl rfl) (pv (r_zb rfl) (nil (t_thenR [(0, .pointer none), (1, .int .i64 p0), (4, .pointer (some ⟨b1, 0, none⟩)), (6, .bool true)] ⟨rfl, rfl, rfl, rfl, trivial⟩ fun J => ?_)))))))))))))
  refine cnd (b := true) rfl (fun _ => ?_) (fun h => nomatch h)
  refine sq2 ?_
  refine rg (pv (r_bd (by kernel_rfl) rfl (u := .agg #[.int .i64 0, .int .i64 0, .int .i64 0, .int .i64 0])) (wl rfl (st0B (q := 0) hS1 ⟨rfl, rfl⟩ rfl rfl rfl Try.sizeOf24 rfl rfl rfl fun w2 im2 hS2 => ?_)))
  have hS2 : Sep g T0 w2 [boxA b1 [.int .i64 0, .int .i64 0, .int .i64 0, .int .i64 0], R] := hS2
  refine pv (r_zi rfl) (nil (t_then ?_))
  have hm := Option.some.inj hm
  subst hm
  exact rtn (r_blk (r_then (retN (vs := [.agg #[.int .i64 0, .int .i64 0, .int .i64 0, .int .i64 0], .int .i64 1]) rfl ⟨rvS rfl Try.isAgg24 Try.sizeOf24 rfl (hS2.bx (i := 0) ⟨rfl, rfl⟩), rfl, trivial⟩ rfl ⟨_, rfl, _, (Im.trans im1 im2), ⟨rfl, hS2.sel [1] rfl, trivial⟩⟩)))

set_option maxRecDepth 100000 in
set_option maxHeartbeats 1000000 in
theorem store_Store_place_2_sim {g : World} {T0 : Nat → Prop} {w0 : World} {R : Assn} {p0 : StorePtr} {p1 : Int} {p2 : Bool} {r : Int} (hS : Sep g T0 w0 [R])  (hm : store_Store_place_2 p0 p1 p2 = some r) :
    Calls Try.prog 19 #[.pointer none, .agg #[.int .i64 p0.Obj, .int .i64 p0.Lo, .int .i64 p0.Hi, .int .i64 p0.Off], .int .i64 p1, .bool p2] w0 (RetS T0 w0 fun T w v => v = .tuple #[.pointer none, .int .i64 r] ∧ Sep g T w [R] ∧ True) := by
  refine enter (args := [.pointer none, .agg #[.int .i64 p0.Obj, .int .i64 p0.Lo, .int .i64 p0.Hi, .int .i64 p0.Off], .int .i64 p1, .bool p2]) Try.func19 rfl Try.ntmps19 rfl fun J => ?_
  unfold store_Store_place_2 at hm
  refine sq2 ?_
  refine rg (wl rfl (bxS (cs := [.int .i64 p0.Obj, .int .i64 p0.Lo, .int .i64 p0.Hi, .int .i64 p0.Off]) rfl rfl hS fun w1 b1 im1 hS1 => ?_))
  refine pv (r_zp rfl) (pv (r_zi rfl) (nil (t_then ?_)))
  refine sq2 ?_
  refine sq2 ?_
  refine rg (pv (r_mp rfl) (pv (r_pne rfl rfl rfl Try.underlying30) (pv (r_mb rfl) (gF (d0 := 14) rfl rfl rfl (gF (d0 := 14) rfl rfl rfl (gF (d0 := 14) rfl rfl rfl (gU (d0 := 17) rfl rfl (gU (d0 := 17) rfl rfl (gF (d0 := 14) rfl rfl rfl (pv (r_pkt rfl rfl rfl) (pv (r_mb rfl) (gF (d0 := 22) rfl rfl rfl (gF (d0 := 22) rfl rfl rfl (gU (d0 := 24) rfl rfl (gU (d0 := 24) rfl rfl (gF (d0 := 22) rfl rfl rfl (pv (r_pkt rfl rfl rfl) (nil (t_thenR [(0, .pointer none), (2, .int .i64 p1), (5, .pointer (some ⟨b1, 0, none⟩)), (28, .bool true)] ⟨rfl, rfl, rfl, rfl, trivial⟩ fun J => ?_)))))))))))))))))))
  refine cnd (b := true) rfl (fun _ => ?_) (fun h => nomatch h)
  refine sq2 ?_
  refine rg (pv (r_zp rfl) (pv (r_zi rfl) (nil (t_then ?_))))
  have hm := Option.some.inj hm
  subst hm
  exact rtn (r_then (retN (vs := [.pointer none, .int .i64 1]) rfl ⟨rfl, rfl, trivial⟩ rfl ⟨_, rfl, _, im1, ⟨rfl, hS1.sel [1] rfl, trivial⟩⟩))

set_option maxRecDepth 100000 in
set_option maxHeartbeats 1000000 in
theorem store_Store_Load_2_sim {g : World} {T0 : Nat → Prop} {w0 : World} {R : Assn} {p0 : StorePtr} {p1 : Int} {p2 : Bool} {r : StoreValue × Int} (hS : Sep g T0 w0 [R])  (hm : store_Store_Load_2 p0 p1 p2 = some r) :
    Calls Try.prog 11 #[.pointer none, .agg #[.int .i64 p0.Obj, .int .i64 p0.Lo, .int .i64 p0.Hi, .int .i64 p0.Off], .int .i64 p1, .bool p2] w0 (RetS T0 w0 fun T w v => v = .tuple #[.agg #[.int .u32 r.1.Num, .int .i64 r.1.Ptr.Obj, .int .i64 r.1.Ptr.Lo, .int .i64 r.1.Ptr.Hi, .int .i64 r.1.Ptr.Off, .bool r.1.Is], .int .i64 r.2] ∧ Sep g T w [R] ∧ True) := by
  refine enter (args := [.pointer none, .agg #[.int .i64 p0.Obj, .int .i64 p0.Lo, .int .i64 p0.Hi, .int .i64 p0.Off], .int .i64 p1, .bool p2]) Try.func11 rfl Try.ntmps11 rfl fun J => ?_
  unfold store_Store_Load_2 at hm
  refine sq2 ?_
  refine rg (wl rfl (bxS (cs := [.int .i64 p0.Obj, .int .i64 p0.Lo, .int .i64 p0.Hi, .int .i64 p0.Off]) rfl rfl hS fun w1 b1 im1 hS1 => ?_))
  refine wl rfl (alS (zs := [.int .u32 0, .int .i64 0, .int .i64 0, .int .i64 0, .int .i64 0, .bool false]) Try.zeroValue26 rfl hS1 fun w2 b2 im2 hS2 => ?_)
  refine pv (r_zi rfl) (nil (t_then ?_))
  refine sq2 ?_
  obtain ⟨y1, hx1, hm⟩ := bindS hm
  refine rg (pv (r_mp rfl) (pv (r_ldS rfl Try.isAgg24 Try.sizeOf24 rfl (hS2.cells0 (i := 1) ⟨rfl, rfl⟩ (o := 0) rfl) (cs := [.int .i64 p0.Obj, .int .i64 p0.Lo, .int .i64 p0.Hi, .int .i64 p0.Off])) (pv (r_mi rfl) (pv (r_mb rfl) (wl rfl (calS cf19 rfl (store_Store_place_2_sim (p0 := p0) (p1 := p1) (p2 := p2) (hS2.bun [0, 1, 2] [] rfl)  hx1) rfl fun v1 T1 w3 im3 rv1 => ?_))))))
  obtain ⟨rfl, hS3, _⟩ := rv1
  have hS3 : Sep g T1 w3 [boxA b2 [.int .u32 0, .int .i64 0, .int .i64 0, .int .i64 0, .int .i64 0, .bool false], boxA b1 [.int .i64 p0.Obj, .int .i64 p0.Lo, .int .i64 p0.Hi, .int .i64 p0.Off], R] := hS3.unb
  refine pv (r_mv rfl) (pv (r_ex (v := .pointer none) rfl rfl) (pv (r_ex (v := .int .i64 y1) rfl rfl) (pv (r_zp rfl) (pv (r_zi rfl) (nil (t_thenR [(2, .int .i64 p1), (3, .bool p2), (5, .pointer (some ⟨b1, 0, none⟩)), (8, .pointer (some ⟨b2, 0, none⟩)), (10, .pointer none), (11, .int .i64 y1)] ⟨rfl, rfl, rfl, rfl, rfl, rfl, trivial⟩ fun J => ?_))))))
  refine sq2 ?_
  refine sq2 ?_
  refine rg (pv (r_mi rfl) (pv (r_ib rfl rfl rfl) (nil (t_then ?_))))
  refine cnd rfl (fun hb1 => ?_) (fun hb1 => ?_)
  · have hm := ctrue hb1 hm
    refine sq2 ?_
    refine rg (pv (r_bd (by kernel_rfl) rfl (u := .agg #[.int .u32 0, .int .i64 0, .int .i64 0, .int .i64 0, .int .i64 0, .bool false])) (pv (r_mi rfl) (wl rfl (st0B (q := 0) hS3 ⟨rfl, rfl⟩ rfl rfl rfl Try.sizeOf26 rfl rfl rfl fun w4 im4 hS4 => ?_))))
    have hS4 : Sep g T1 w4 [boxA b2 [.int .u32 0, .int .i64 0, .int .i64 0, .int .i64 0, .int .i64 0, .bool false], boxA b1 [.int .i64 p0.Obj, .int .i64 p0.Lo, .int .i64 p0.Hi, .int .i64 p0.Off], R] := hS4
    refine pv (r_zi rfl) (nil (t_thenR [(8, .pointer (some ⟨b2, 0, none⟩)), (9, .int .i64 y1)] ⟨rfl, rfl, trivial⟩ fun J => ?_))
    have hm := Option.some.inj hm
    subst hm
    exact rtn (r_then (retN (vs := [.agg #[.int .u32 0, .int .i64 0, .int .i64 0, .int .i64 0, .int .i64 0, .bool false], .int .i64 y1]) rfl ⟨rvS rfl Try.isAgg26 Try.sizeOf26 rfl (hS4.bx (i := 0) ⟨rfl, rfl⟩), rfl, trivial⟩ rfl ⟨_, rfl, _, (Im.trans im1 (Im.trans im2 (Im.trans im3 im4))), ⟨rfl, hS4.sel [2] rfl, trivial⟩⟩))
  · have hm := cfalse hb1 hm
    refine skp (t_then ?_)
    refine sq2 ?_
    refine rg (pv (r_zi rfl) (nil (t_then ?_)))
    refine sq2 ?_
    refine sq2 ?_
    refine rg (pv (r_mi rfl) (pv (r_mi rfl) (nil (t_then ?_))))
    obtain ⟨o1, ho1, hq1⟩ := bindS hm
    obtain ⟨bd1, hbd1, ho1⟩ := loop_open ho1
    refine blk (wp_loop_ghost (fun m a w5 => ∃ (J : Nat → Value) (T2 : Nat → Prop) (x1 : Int) (x2 : Int), a = env (nf 72) J [(3, .bool p2), (5, .pointer (some ⟨b1, 0, none⟩)), (8, .pointer (some ⟨b2, 0, none⟩)), (10, .pointer none), (12, .int .u32 x1), (26, .int .i64 p1), (27, .int .i64 x2)] ∧ Im T1 w3 T2 w5 ∧ Sep g T2 w5 [boxA b2 [.int .u32 0, .int .i64 0, .int .i64 0, .int .i64 0, .int .i64 0, .bool false], boxA b1 [.int .i64 p0.Obj, .int .i64 p0.Lo, .int .i64 p0.Hi, .int .i64 p0.Off], R] ∧ loopM bd1 m (x1, x2) = some o1) NN ⟨_, _, 0, 0, env_has ⟨rfl, rfl, rfl, rfl, rfl, rfl, rfl, trivial⟩, Im.refl, hS3.sel [0, 1, 2] rfl, ho1⟩ ?_)
    rintro m _ w5 ⟨J, T2, x1, x2, rfl, im5, hS5, ho1⟩
    obtain ⟨m1, z1, rfl, hm, hn1⟩ := loop_round ho1
    rw [hbd1] at hm
    refine sq2 ?_
    refine rg (pv (r_ib rfl rfl rfl) (nil (t_then ?_)))
    refine sq2 ?_
    refine cnd rfl (fun hb2 => ?_) (fun hb2 => ?_)
    · have hm := ctrue hb2 hm
      refine skp (t_then ?_)
      refine sq2 ?_
      refine blk ?_
      refine sq2 ?_
      refine rg (pv (r_mi rfl) (pv (r_zi rfl) (nil (t_then ?_))))
      refine sq2 ?_
      refine sq2 ?_
      cases hm
    · have hm := cfalse hb2 hm
      have hm := Option.some.inj hm
      subst hm
      have hn1 : _ = Lp.brk _ := hn1
      subst hn1
      have hm := thn_brk hq1
      refine xt (x_then (x_then (x_eq (t_then ?_))))
      refine sq2 ?_
      refine sq2 ?_
      refine rg (pv (r_mb rfl) (nil (t_then ?_)))
      refine cnd rfl (fun hb3 => ?_) (fun hb3 => ?_)
      · have hm := ctrue hb3 hm
        refine sq2 ?_
        refine rs [0, 0, 0, 1, 0, 1, 1, 0, 2, 0] [0, 1, 2, 3, 4, 5, 6, 7, 8, 9] mix (by kernel_rfl) hS5.lt fun w6 i1 => ?_
        have im6 := i1.imm
        have hS6 := hS5.keep i1 (fun _ h => h)
        cases hm
      · have hm := cfalse hb3 hm
        refine skp (t_thenR [(8, .pointer (some ⟨b2, 0, none⟩)), (12, .int .u32 x1)] ⟨rfl, rfl, trivial⟩ fun J => ?_)
        refine sq2 ?_
        refine rg (pv (r_mi rfl) (pv (r_bd (by kernel_rfl) rfl (u := .agg #[.int .u32 x1, .int .i64 0, .int .i64 0, .int .i64 0, .int .i64 0, .bool false])) (wl rfl (st0B (q := 0) hS5 ⟨rfl, rfl⟩ rfl rfl rfl Try.sizeOf26 rfl rfl rfl fun w7 im7 hS7 => ?_))))
        have hS7 : Sep g T2 w7 [boxA b2 [.int .u32 x1, .int .i64 0, .int .i64 0, .int .i64 0, .int .i64 0, .bool false], boxA b1 [.int .i64 p0.Obj, .int .i64 p0.Lo, .int .i64 p0.Hi, .int .i64 p0.Off], R] := hS7
        refine pv (r_zi rfl) (nil (t_then ?_))
        have hm := Option.some.inj hm
        subst hm
        exact rtn (retN (vs := [.agg #[.int .u32 x1, .int .i64 0, .int .i64 0, .int .i64 0, .int .i64 0, .bool false], .int .i64 0]) rfl ⟨rvS rfl Try.isAgg26 Try.sizeOf26 rfl (hS7.bx (i := 0) ⟨rfl, rfl⟩), rfl, trivial⟩ rfl ⟨_, rfl, _, (Im.trans im1 (Im.trans im2 (Im.trans im3 (Im.trans im5 im7)))), ⟨rfl, hS7.sel [2] rfl, trivial⟩⟩)

set_option maxRecDepth 100000 in
set_option maxHeartbeats 1000000 in
theorem store_Store_fit_2_sim {g : World} {T0 : Nat → Prop} {w0 : World} {R : Assn} {p0 : StorePtr} {r : Int} (hS : Sep g T0 w0 [R])  (hm : store_Store_fit_2 p0 = some r) :
    Calls Try.prog 18 #[.pointer none, .agg #[.int .i64 p0.Obj, .int .i64 p0.Lo, .int .i64 p0.Hi, .int .i64 p0.Off]] w0 (RetS T0 w0 fun T w v => v = .tuple #[.pointer none, .int .i64 r] ∧ Sep g T w [R] ∧ True) := by
  refine enter (args := [.pointer none, .agg #[.int .i64 p0.Obj, .int .i64 p0.Lo, .int .i64 p0.Hi, .int .i64 p0.Off]]) Try.func18 rfl Try.ntmps18 rfl fun J => ?_
  unfold store_Store_fit_2 at hm
  refine sq2 ?_
  refine rg (wl rfl (bxS (cs := [.int .i64 p0.Obj, .int .i64 p0.Lo, .int .i64 p0.Hi, .int .i64 p0.Off]) rfl rfl hS fun w1 b1 im1 hS1 => ?_))
  refine pv (r_zp rfl) (pv (r_zi rfl) (nil (t_then ?_)))
  refine sq2 ?_
  refine blk ?_
  refine sq2 ?_
  refine rg (pv (r_mp rfl) (pv (r_pne rfl rfl rfl Try.underlying30) (pv (r_zb rfl) (nil (t_thenR [(0, .pointer none), (3, .pointer (some ⟨b1, 0, none⟩)), (6, .bool true)] ⟨rfl, rfl, rfl, trivial⟩ fun J => ?_)))))
  refine cnd (b := true) rfl (fun _ => ?_) (fun h => nomatch h)
  refine sq2 ?_
  refine rg (pv (r_zp rfl) (pv (r_zi rfl) (nil (t_then ?_))))
  have hm := Option.some.inj hm
  subst hm
  exact rtn (r_blk (r_then (retN (vs := [.pointer none, .int .i64 1]) rfl ⟨rfl, rfl, trivial⟩ rfl ⟨_, rfl, _, im1, ⟨rfl, hS1.sel [1] rfl, trivial⟩⟩)))

set_option maxRecDepth 100000 in
set_option maxHeartbeats 1000000 in
theorem store_Store_Move_2_sim {g : World} {T0 : Nat → Prop} {w0 : World} {R : Assn} {p0 : StorePtr} {p1 : Int} {r : StorePtr × Int} (hS : Sep g T0 w0 [R])  (hm : store_Store_Move_2 p0 p1 = some r) :
    Calls Try.prog 9 #[.pointer none, .agg #[.int .i64 p0.Obj, .int .i64 p0.Lo, .int .i64 p0.Hi, .int .i64 p0.Off], .int .i64 p1] w0 (RetS T0 w0 fun T w v => v = .tuple #[.agg #[.int .i64 r.1.Obj, .int .i64 r.1.Lo, .int .i64 r.1.Hi, .int .i64 r.1.Off], .int .i64 r.2] ∧ Sep g T w [R] ∧ True) := by
  refine enter (args := [.pointer none, .agg #[.int .i64 p0.Obj, .int .i64 p0.Lo, .int .i64 p0.Hi, .int .i64 p0.Off], .int .i64 p1]) Try.func9 rfl Try.ntmps9 rfl fun J => ?_
  unfold store_Store_Move_2 at hm
  refine sq2 ?_
  refine rg (wl rfl (bxS (cs := [.int .i64 p0.Obj, .int .i64 p0.Lo, .int .i64 p0.Hi, .int .i64 p0.Off]) rfl rfl hS fun w1 b1 im1 hS1 => ?_))
  refine wl rfl (alS (zs := [.int .i64 0, .int .i64 0, .int .i64 0, .int .i64 0]) Try.zeroValue24 rfl hS1 fun w2 b2 im2 hS2 => ?_)
  refine pv (r_zi rfl) (nil (t_then ?_))
  refine sq2 ?_
  refine sq2 ?_
  obtain ⟨y1, hx1, hm⟩ := bindS hm
  refine rg (pv (r_mp rfl) (pv (r_ldS rfl Try.isAgg24 Try.sizeOf24 rfl (hS2.cells0 (i := 1) ⟨rfl, rfl⟩ (o := 0) rfl) (cs := [.int .i64 p0.Obj, .int .i64 p0.Lo, .int .i64 p0.Hi, .int .i64 p0.Off])) (wl rfl (calS cf18 rfl (store_Store_fit_2_sim (p0 := p0) (hS2.bun [0, 1, 2] [] rfl)  hx1) rfl fun v1 T1 w3 im3 rv1 => ?_))))
  obtain ⟨rfl, hS3, _⟩ := rv1
  have hS3 : Sep g T1 w3 [boxA b2 [.int .i64 0, .int .i64 0, .int .i64 0, .int .i64 0], boxA b1 [.int .i64 p0.Obj, .int .i64 p0.Lo, .int .i64 p0.Hi, .int .i64 p0.Off], R] := hS3.unb
  refine pv (r_mv rfl) (pv (r_ex (v := .pointer none) rfl rfl) (pv (r_ex (v := .int .i64 y1) rfl rfl) (pv (r_zp rfl) (pv (r_zi rfl) (nil (t_thenR [(2, .int .i64 p1), (4, .pointer (some ⟨b1, 0, none⟩)), (6, .pointer (some ⟨b2, 0, none⟩)), (9, .int .i64 y1)] ⟨rfl, rfl, rfl, rfl, trivial⟩ fun J => ?_))))))
  refine sq2 ?_
  refine rg (pv (r_mi rfl) (pv (r_ib rfl rfl rfl) (nil (t_then ?_))))
  refine cnd rfl (fun hb1 => ?_) (fun hb1 => ?_)
  · have hm := ctrue hb1 hm
    refine sq2 ?_
    refine rg (pv (r_bd (by kernel_rfl) rfl (u := .agg #[.int .i64 0, .int .i64 0, .int .i64 0, .int .i64 0])) (pv (r_mi rfl) (wl rfl (st0B (q := 0) hS3 ⟨rfl, rfl⟩ rfl rfl rfl Try.sizeOf24 rfl rfl rfl fun w4 im4 hS4 => ?_))))
    have hS4 : Sep g T1 w4 [boxA b2 [.int .i64 0, .int .i64 0, .int .i64 0, .int .i64 0], boxA b1 [.int .i64 p0.Obj, .int .i64 p0.Lo, .int .i64 p0.Hi, .int .i64 p0.Off], R] := hS4
    refine pv (r_zi rfl) (nil (t_thenR [(6, .pointer (some ⟨b2, 0, none⟩)), (7, .int .i64 y1)] ⟨rfl, rfl, trivial⟩ fun J => ?_))
    have hm := Option.some.inj hm
    subst hm
    exact rtn (r_then (retN (vs := [.agg #[.int .i64 0, .int .i64 0, .int .i64 0, .int .i64 0], .int .i64 y1]) rfl ⟨rvS rfl Try.isAgg24 Try.sizeOf24 rfl (hS4.bx (i := 0) ⟨rfl, rfl⟩), rfl, trivial⟩ rfl ⟨_, rfl, _, (Im.trans im1 (Im.trans im2 (Im.trans im3 im4))), ⟨rfl, hS4.sel [2] rfl, trivial⟩⟩))
  · have hm := cfalse hb1 hm
    refine skp (t_then ?_)
    refine sq2 ?_
    refine sq2 ?_
    refine rg (pv (r_mi rfl) (pv (r_fa rfl Try.underlying24 rfl Try.sizeOf3 rfl) (pv (r_ld rfl Try.isAgg3 (hS3.cell0 (i := 1) ⟨rfl, rfl⟩ (j := 1) rfl)) (pv (r_fa rfl Try.underlying24 rfl Try.sizeOf3 rfl) (pv (r_ld rfl Try.isAgg3 (hS3.cell0 (i := 1) ⟨rfl, rfl⟩ (j := 3) rfl)) (pv (r_ib rfl rfl rfl) (pv (r_ib rfl rfl rfl) (pv (r_mb rfl) (?_)))))))))
    rcases Bool.eq_false_or_eq_true (decide (p1 < (IntKind.wrap .i64 (p0.Lo - p0.Off)))) with hb2 | hb2
    · have hm := ctrue hb2 hm
      refine gF (d0 := 27) rfl rfl (by rw [hb2]; rfl) (gF (d0 := 27) rfl rfl (by rw [hb2]; rfl) (gF (d0 := 27) rfl rfl (by rw [hb2]; rfl) (gF (d0 := 27) rfl rfl (by rw [hb2]; rfl) (gF (d0 := 27) rfl rfl (by rw [hb2]; rfl) (gF (d0 := 27) rfl rfl (by rw [hb2]; rfl) (gF (d0 := 27) rfl rfl (by rw [hb2]; rfl) (pv (r_pkt rfl hb2 rfl) (nil (t_thenR [(2, .int .i64 p1), (4, .pointer (some ⟨b1, 0, none⟩)), (6, .pointer (some ⟨b2, 0, none⟩)), (35, .bool true)] ⟨rfl, rfl, rfl, rfl, trivial⟩ fun J => ?_)))))))))
      refine cnd (b := true) rfl (fun _ => ?_) (fun h => nomatch h)
      refine sq2 ?_
      refine rg (pv (r_bd (by kernel_rfl) rfl (u := .agg #[.int .i64 0, .int .i64 0, .int .i64 0, .int .i64 0])) (wl rfl (st0B (q := 0) hS3 ⟨rfl, rfl⟩ rfl rfl rfl Try.sizeOf24 rfl rfl rfl fun w8 im8 hS8 => ?_)))
      have hS8 : Sep g T1 w8 [boxA b2 [.int .i64 0, .int .i64 0, .int .i64 0, .int .i64 0], boxA b1 [.int .i64 p0.Obj, .int .i64 p0.Lo, .int .i64 p0.Hi, .int .i64 p0.Off], R] := hS8
      refine pv (r_zi rfl) (nil (t_then ?_))
      have hm := Option.some.inj hm
      subst hm
      exact rtn (r_then (retN (vs := [.agg #[.int .i64 0, .int .i64 0, .int .i64 0, .int .i64 0], .int .i64 12]) rfl ⟨rvS rfl Try.isAgg24 Try.sizeOf24 rfl (hS8.bx (i := 0) ⟨rfl, rfl⟩), rfl, trivial⟩ rfl ⟨_, rfl, _, (Im.trans im1 (Im.trans im2 (Im.trans im3 im8))), ⟨rfl, hS8.sel [2] rfl, trivial⟩⟩))
    · have hm := cfalse hb2 hm
      refine gT (d0 := 27) rfl rfl hb2 (pv (r_mi rfl) (gT (d0 := 27) rfl rfl hb2 (pv (r_fa rfl Try.underlying24 rfl Try.sizeOf3 rfl) (gT (d0 := 27) rfl rfl hb2 (pv (r_ld rfl Try.isAgg3 (hS3.cell0 (i := 1) ⟨rfl, rfl⟩ (j := 2) rfl)) (gT (d0 := 27) rfl rfl hb2 (pv (r_fa rfl Try.underlying24 rfl Try.sizeOf3 rfl) (gT (d0 := 27) rfl rfl hb2 (pv (r_ld rfl Try.isAgg3 (hS3.cell0 (i := 1) ⟨rfl, rfl⟩ (j := 3) rfl)) (gT (d0 := 27) rfl rfl hb2 (pv (r_ib rfl rfl rfl) (gT (d0 := 27) rfl rfl hb2 (pv (r_ib rfl rfl rfl) (pv (r_pkf rfl hb2 rfl) (nil (t_thenR [(2, .int .i64 p1), (4, .pointer (some ⟨b1, 0, none⟩)), (6, .pointer (some ⟨b2, 0, none⟩)), (35, .bool (decide ((IntKind.wrap .i64 (p0.Hi - p0.Off)) < p1)))] ⟨rfl, rfl, rfl, rfl, trivial⟩ fun J => ?_))))))))))))))))
      refine cnd rfl (fun hb3 => ?_) (fun hb3 => ?_)
      · have hm := ctrue hb3 hm
        refine sq2 ?_
        refine rg (pv (r_bd (by kernel_rfl) rfl (u := .agg #[.int .i64 0, .int .i64 0, .int .i64 0, .int .i64 0])) (wl rfl (st0B (q := 0) hS3 ⟨rfl, rfl⟩ rfl rfl rfl Try.sizeOf24 rfl rfl rfl fun w5 im5 hS5 => ?_)))
        have hS5 : Sep g T1 w5 [boxA b2 [.int .i64 0, .int .i64 0, .int .i64 0, .int .i64 0], boxA b1 [.int .i64 p0.Obj, .int .i64 p0.Lo, .int .i64 p0.Hi, .int .i64 p0.Off], R] := hS5
        refine pv (r_zi rfl) (nil (t_then ?_))
        have hm := Option.some.inj hm
        subst hm
        exact rtn (r_then (retN (vs := [.agg #[.int .i64 0, .int .i64 0, .int .i64 0, .int .i64 0], .int .i64 12]) rfl ⟨rvS rfl Try.isAgg24 Try.sizeOf24 rfl (hS5.bx (i := 0) ⟨rfl, rfl⟩), rfl, trivial⟩ rfl ⟨_, rfl, _, (Im.trans im1 (Im.trans im2 (Im.trans im3 im5))), ⟨rfl, hS5.sel [2] rfl, trivial⟩⟩))
      · have hm := cfalse hb3 hm
        refine skp (t_then ?_)
        refine sq2 ?_
        refine rg (pv (r_fa rfl Try.underlying24 rfl Try.sizeOf3 rfl) (pv (r_ld rfl Try.isAgg3 (hS3.cell0 (i := 1) ⟨rfl, rfl⟩ (j := 3) rfl)) (pv (r_mi rfl) (pv (r_ib rfl rfl rfl) (pv (r_fa rfl Try.underlying24 rfl Try.sizeOf3 rfl) (wl rfl (st0B (q := 1) hS3 ⟨rfl, rfl⟩ rfl rfl rfl Try.sizeOf3 rfl rfl rfl fun w6 im6 hS6 => ?_)))))))
        have hS6 : Sep g T1 w6 [boxA b2 [.int .i64 0, .int .i64 0, .int .i64 0, .int .i64 0], boxA b1 [.int .i64 p0.Obj, .int .i64 p0.Lo, .int .i64 p0.Hi, .int .i64 (IntKind.wrap .i64 (p0.Off + p1))], R] := hS6
        refine nil (t_thenR [(4, .pointer (some ⟨b1, 0, none⟩)), (6, .pointer (some ⟨b2, 0, none⟩))] ⟨rfl, rfl, trivial⟩ fun J => ?_)
        refine sq2 ?_
        refine rg (pv (r_ldS rfl Try.isAgg24 Try.sizeOf24 rfl (hS6.cells0 (i := 1) ⟨rfl, rfl⟩ (o := 0) rfl) (cs := [.int .i64 p0.Obj, .int .i64 p0.Lo, .int .i64 p0.Hi, .int .i64 (IntKind.wrap .i64 (p0.Off + p1))])) (wl rfl (st0B (q := 0) hS6 ⟨rfl, rfl⟩ rfl rfl rfl Try.sizeOf24 rfl rfl rfl fun w7 im7 hS7 => ?_)))
        have hS7 : Sep g T1 w7 [boxA b2 [.int .i64 p0.Obj, .int .i64 p0.Lo, .int .i64 p0.Hi, .int .i64 (IntKind.wrap .i64 (p0.Off + p1))], boxA b1 [.int .i64 p0.Obj, .int .i64 p0.Lo, .int .i64 p0.Hi, .int .i64 (IntKind.wrap .i64 (p0.Off + p1))], R] := hS7
        refine pv (r_zi rfl) (nil (t_then ?_))
        have hm := Option.some.inj hm
        subst hm
        exact rtn (retN (vs := [.agg #[.int .i64 p0.Obj, .int .i64 p0.Lo, .int .i64 p0.Hi, .int .i64 (IntKind.wrap .i64 (p0.Off + p1))], .int .i64 0]) rfl ⟨rvS rfl Try.isAgg24 Try.sizeOf24 rfl (hS7.bx (i := 0) ⟨rfl, rfl⟩), rfl, trivial⟩ rfl ⟨_, rfl, _, (Im.trans im1 (Im.trans im2 (Im.trans im3 (Im.trans im6 im7)))), ⟨rfl, hS7.sel [2] rfl, trivial⟩⟩)

set_option maxRecDepth 100000 in
set_option maxHeartbeats 1000000 in
theorem store_Store_Part_2_sim {g : World} {T0 : Nat → Prop} {w0 : World} {R : Assn} {p0 : StorePtr} {p1 : Int} {p2 : Int} {r : StorePtr × Int} (hS : Sep g T0 w0 [R])  (hm : store_Store_Part_2 p0 p1 p2 = some r) :
    Calls Try.prog 13 #[.pointer none, .agg #[.int .i64 p0.Obj, .int .i64 p0.Lo, .int .i64 p0.Hi, .int .i64 p0.Off], .int .i64 p1, .int .i64 p2] w0 (RetS T0 w0 fun T w v => v = .tuple #[.agg #[.int .i64 r.1.Obj, .int .i64 r.1.Lo, .int .i64 r.1.Hi, .int .i64 r.1.Off], .int .i64 r.2] ∧ Sep g T w [R] ∧ True) := by
  refine enter (args := [.pointer none, .agg #[.int .i64 p0.Obj, .int .i64 p0.Lo, .int .i64 p0.Hi, .int .i64 p0.Off], .int .i64 p1, .int .i64 p2]) Try.func13 rfl Try.ntmps13 rfl fun J => ?_
  unfold store_Store_Part_2 at hm
  refine sq2 ?_
  refine rg (wl rfl (bxS (cs := [.int .i64 p0.Obj, .int .i64 p0.Lo, .int .i64 p0.Hi, .int .i64 p0.Off]) rfl rfl hS fun w1 b1 im1 hS1 => ?_))
  refine wl rfl (alS (zs := [.int .i64 0, .int .i64 0, .int .i64 0, .int .i64 0]) Try.zeroValue24 rfl hS1 fun w2 b2 im2 hS2 => ?_)
  refine pv (r_zi rfl) (nil (t_then ?_))
  refine sq2 ?_
  refine sq2 ?_
  obtain ⟨y1, hx1, hm⟩ := bindS hm
  refine rg (pv (r_mp rfl) (pv (r_ldS rfl Try.isAgg24 Try.sizeOf24 rfl (hS2.cells0 (i := 1) ⟨rfl, rfl⟩ (o := 0) rfl) (cs := [.int .i64 p0.Obj, .int .i64 p0.Lo, .int .i64 p0.Hi, .int .i64 p0.Off])) (wl rfl (calS cf18 rfl (store_Store_fit_2_sim (p0 := p0) (hS2.bun [0, 1, 2] [] rfl)  hx1) rfl fun v1 T1 w3 im3 rv1 => ?_))))
  obtain ⟨rfl, hS3, _⟩ := rv1
  have hS3 : Sep g T1 w3 [boxA b2 [.int .i64 0, .int .i64 0, .int .i64 0, .int .i64 0], boxA b1 [.int .i64 p0.Obj, .int .i64 p0.Lo, .int .i64 p0.Hi, .int .i64 p0.Off], R] := hS3.unb
  refine pv (r_mv rfl) (pv (r_ex (v := .pointer none) rfl rfl) (pv (r_ex (v := .int .i64 y1) rfl rfl) (pv (r_zp rfl) (pv (r_zi rfl) (nil (t_thenR [(2, .int .i64 p1), (3, .int .i64 p2), (5, .pointer (some ⟨b1, 0, none⟩)), (8, .pointer (some ⟨b2, 0, none⟩)), (11, .int .i64 y1)] ⟨rfl, rfl, rfl, rfl, rfl, trivial⟩ fun J => ?_))))))
  refine sq2 ?_
  refine rg (pv (r_mi rfl) (pv (r_ib rfl rfl rfl) (nil (t_then ?_))))
  refine cnd rfl (fun hb1 => ?_) (fun hb1 => ?_)
  · have hm := ctrue hb1 hm
    refine sq2 ?_
    refine rg (pv (r_bd (by kernel_rfl) rfl (u := .agg #[.int .i64 0, .int .i64 0, .int .i64 0, .int .i64 0])) (pv (r_mi rfl) (wl rfl (st0B (q := 0) hS3 ⟨rfl, rfl⟩ rfl rfl rfl Try.sizeOf24 rfl rfl rfl fun w4 im4 hS4 => ?_))))
    have hS4 : Sep g T1 w4 [boxA b2 [.int .i64 0, .int .i64 0, .int .i64 0, .int .i64 0], boxA b1 [.int .i64 p0.Obj, .int .i64 p0.Lo, .int .i64 p0.Hi, .int .i64 p0.Off], R] := hS4
    refine pv (r_zi rfl) (nil (t_thenR [(8, .pointer (some ⟨b2, 0, none⟩)), (9, .int .i64 y1)] ⟨rfl, rfl, trivial⟩ fun J => ?_))
    have hm := Option.some.inj hm
    subst hm
    exact rtn (r_then (retN (vs := [.agg #[.int .i64 0, .int .i64 0, .int .i64 0, .int .i64 0], .int .i64 y1]) rfl ⟨rvS rfl Try.isAgg24 Try.sizeOf24 rfl (hS4.bx (i := 0) ⟨rfl, rfl⟩), rfl, trivial⟩ rfl ⟨_, rfl, _, (Im.trans im1 (Im.trans im2 (Im.trans im3 im4))), ⟨rfl, hS4.sel [2] rfl, trivial⟩⟩))
  · have hm := cfalse hb1 hm
    refine skp (t_then ?_)
    refine sq2 ?_
    refine sq2 ?_
    obtain ⟨y2, hx2, hm⟩ := bindS hm
    refine rg (pv (r_ldS rfl Try.isAgg24 Try.sizeOf24 rfl (hS3.cells0 (i := 1) ⟨rfl, rfl⟩ (o := 0) rfl) (cs := [.int .i64 p0.Obj, .int .i64 p0.Lo, .int .i64 p0.Hi, .int .i64 p0.Off])) (pv (r_mi rfl) (pv (r_mi rfl) (wl rfl (calS cf22 rfl (store_within_sim (p0 := p0) (p1 := p1) (p2 := p2) (hS3.bun [0, 1, 2] [] rfl)  hx2) rfl fun v2 T2 w5 im5 rv2 => ?_)))))
    obtain ⟨rfl, hS5, _⟩ := rv2
    have hS5 : Sep g T2 w5 [boxA b2 [.int .i64 0, .int .i64 0, .int .i64 0, .int .i64 0], boxA b1 [.int .i64 p0.Obj, .int .i64 p0.Lo, .int .i64 p0.Hi, .int .i64 p0.Off], R] := hS5.unb
    refine pv (r_nt rfl) (nil (t_thenR [(2, .int .i64 p1), (3, .int .i64 p2), (5, .pointer (some ⟨b1, 0, none⟩)), (8, .pointer (some ⟨b2, 0, none⟩)), (27, .bool (!y2))] ⟨rfl, rfl, rfl, rfl, rfl, trivial⟩ fun J => ?_))
    refine cnd rfl (fun hb2 => ?_) (fun hb2 => ?_)
    · have hm := ctrue hb2 hm
      refine sq2 ?_
      refine rg (pv (r_bd (by kernel_rfl) rfl (u := .agg #[.int .i64 0, .int .i64 0, .int .i64 0, .int .i64 0])) (wl rfl (st0B (q := 0) hS5 ⟨rfl, rfl⟩ rfl rfl rfl Try.sizeOf24 rfl rfl rfl fun w6 im6 hS6 => ?_)))
      have hS6 : Sep g T2 w6 [boxA b2 [.int .i64 0, .int .i64 0, .int .i64 0, .int .i64 0], boxA b1 [.int .i64 p0.Obj, .int .i64 p0.Lo, .int .i64 p0.Hi, .int .i64 p0.Off], R] := hS6
      refine pv (r_zi rfl) (nil (t_thenR [(8, .pointer (some ⟨b2, 0, none⟩)), (9, .int .i64 12)] ⟨rfl, rfl, trivial⟩ fun J => ?_))
      have hm := Option.some.inj hm
      subst hm
      exact rtn (r_then (retN (vs := [.agg #[.int .i64 0, .int .i64 0, .int .i64 0, .int .i64 0], .int .i64 12]) rfl ⟨rvS rfl Try.isAgg24 Try.sizeOf24 rfl (hS6.bx (i := 0) ⟨rfl, rfl⟩), rfl, trivial⟩ rfl ⟨_, rfl, _, (Im.trans im1 (Im.trans im2 (Im.trans im3 (Im.trans im5 im6)))), ⟨rfl, hS6.sel [2] rfl, trivial⟩⟩))
    · have hm := cfalse hb2 hm
      refine skp (t_then ?_)
      refine sq2 ?_
      refine rg (pv (r_fa rfl Try.underlying24 rfl Try.sizeOf3 rfl) (pv (r_ld rfl Try.isAgg3 (hS5.cell0 (i := 1) ⟨rfl, rfl⟩ (j := 3) rfl)) (pv (r_mi rfl) (pv (r_ib rfl rfl rfl) (pv (r_zi rfl) (nil (t_thenR [(3, .int .i64 p2), (5, .pointer (some ⟨b1, 0, none⟩)), (8, .pointer (some ⟨b2, 0, none⟩)), (12, .int .i64 (IntKind.wrap .i64 (p0.Off + p1)))] ⟨rfl, rfl, rfl, rfl, trivial⟩ fun J => ?_)))))))
      refine sq2 ?_
      refine rg (pv (r_fa rfl Try.underlying24 rfl Try.sizeOf3 rfl) (pv (r_ld rfl Try.isAgg3 (hS5.cell0 (i := 1) ⟨rfl, rfl⟩ (j := 0) rfl)) (pv (r_mi rfl) (pv (r_mi rfl) (pv (r_mi rfl) (pv (r_ib rfl rfl rfl) (pv (r_mi rfl) (pv (r_bd (by kernel_rfl) rfl (u := .agg #[.int .i64 p0.Obj, .int .i64 (IntKind.wrap .i64 (p0.Off + p1)), .int .i64 (IntKind.wrap .i64 ((IntKind.wrap .i64 (p0.Off + p1)) + p2)), .int .i64 (IntKind.wrap .i64 (p0.Off + p1))])) (wl rfl (st0B (q := 0) hS5 ⟨rfl, rfl⟩ rfl rfl rfl Try.sizeOf24 rfl rfl rfl fun w7 im7 hS7 => ?_))))))))))
      have hS7 : Sep g T2 w7 [boxA b2 [.int .i64 p0.Obj, .int .i64 (IntKind.wrap .i64 (p0.Off + p1)), .int .i64 (IntKind.wrap .i64 ((IntKind.wrap .i64 (p0.Off + p1)) + p2)), .int .i64 (IntKind.wrap .i64 (p0.Off + p1))], boxA b1 [.int .i64 p0.Obj, .int .i64 p0.Lo, .int .i64 p0.Hi, .int .i64 p0.Off], R] := hS7
      refine pv (r_zi rfl) (nil (t_thenR [(8, .pointer (some ⟨b2, 0, none⟩)), (9, .int .i64 0)] ⟨rfl, rfl, trivial⟩ fun J => ?_))
      have hm := Option.some.inj hm
      subst hm
      exact rtn (retN (vs := [.agg #[.int .i64 p0.Obj, .int .i64 (IntKind.wrap .i64 (p0.Off + p1)), .int .i64 (IntKind.wrap .i64 ((IntKind.wrap .i64 (p0.Off + p1)) + p2)), .int .i64 (IntKind.wrap .i64 (p0.Off + p1))], .int .i64 0]) rfl ⟨rvS rfl Try.isAgg24 Try.sizeOf24 rfl (hS7.bx (i := 0) ⟨rfl, rfl⟩), rfl, trivial⟩ rfl ⟨_, rfl, _, (Im.trans im1 (Im.trans im2 (Im.trans im3 (Im.trans im5 im7)))), ⟨rfl, hS7.sel [2] rfl, trivial⟩⟩)

set_option maxRecDepth 100000 in
set_option maxHeartbeats 1000000 in
theorem store_Store_object_2_sim {g : World} {T0 : Nat → Prop} {w0 : World} {R : Assn} {p0 : Int} {r : Int} (hS : Sep g T0 w0 [R])  (hm : store_Store_object_2 p0 = some r) :
    Calls Try.prog 21 #[.pointer none, .int .i64 p0] w0 (RetS T0 w0 fun T w v => v = .tuple #[.pointer none, .int .i64 r] ∧ Sep g T w [R] ∧ True) := by
  refine enter (args := [.pointer none, .int .i64 p0]) Try.func21 rfl Try.ntmps21 rfl fun J => ?_
  unfold store_Store_object_2 at hm
  refine sq2 ?_
  refine rg (pv (r_zp rfl) (pv (r_zi rfl) (nil (t_then ?_))))
  refine sq2 ?_
  refine blk ?_
  refine sq2 ?_
  refine rg (pv (r_mp rfl) (pv (r_pne rfl rfl rfl Try.underlying30) (pv (r_zb rfl) (nil (t_then ?_)))))
  refine cnd (b := true) rfl (fun _ => ?_) (fun h => nomatch h)
  refine sq2 ?_
  refine rg (pv (r_zp rfl) (pv (r_zi rfl) (nil (t_thenR [(4, .pointer none), (5, .int .i64 1)] ⟨rfl, rfl, trivial⟩ fun J => ?_))))
  have hm := Option.some.inj hm
  subst hm
  exact rtn (r_blk (r_then (retN (vs := [.pointer none, .int .i64 1]) rfl ⟨rfl, rfl, trivial⟩ rfl ⟨_, rfl, _, Im.refl, ⟨rfl, hS.sel [0] rfl, trivial⟩⟩)))

set_option maxRecDepth 100000 in
set_option maxHeartbeats 1000000 in
theorem store_Store_Fill_2_sim {g : World} {T0 : Nat → Prop} {w0 : World} {R : Assn} {p0 : Int} {p1 : List Int} {a1 : Option Addr} {c1 : Nat} {r : Int} (hS : Sep g T0 w0 [R]) (h1 : SlR (rInt .u8) T0 w0 (.slice a1 (List.length p1) c1) p1) (hm : store_Store_Fill_2 p0 p1 = some r) :
    Calls Try.prog 12 #[.pointer none, .int .i64 p0, .slice a1 (List.length p1) c1] w0 (RetS T0 w0 fun T w v => v = .int .i64 r ∧ Sep g T w [R] ∧ True) := by
  refine enter (args := [.pointer none, .int .i64 p0, .slice a1 (List.length p1) c1]) Try.func12 rfl Try.ntmps12 rfl fun J => ?_
  unfold store_Store_Fill_2 at hm
  refine sq2 ?_
  refine rg (pv (r_zi rfl) (nil (t_then ?_)))
  refine sq2 ?_
  obtain ⟨y1, hx1, hm⟩ := bindS hm
  refine rg (pv (r_mp rfl) (pv (r_mi rfl) (wl rfl (calS cf21 rfl (store_Store_object_2_sim (p0 := p0) (hS.bun [0] [] rfl)  hx1) rfl fun v1 T1 w1 im1 rv1 => ?_))))
  obtain ⟨rfl, hS1, _⟩ := rv1
  have hS1 : Sep g T1 w1 [R] := hS1.unb
  refine pv (r_mv rfl) (pv (r_ex (v := .pointer none) rfl rfl) (pv (r_ex (v := .int .i64 y1) rfl rfl) (pv (r_zp rfl) (pv (r_zi rfl) (nil (t_thenR [(2, .slice a1 (List.length p1) c1), (7, .pointer none), (8, .int .i64 y1)] ⟨rfl, rfl, rfl, trivial⟩ fun J => ?_))))))
  refine sq2 ?_
  refine blk ?_
  refine sq2 ?_
  refine rg (pv (r_mi rfl) (pv (r_ib rfl rfl rfl) (pv (r_zb rfl) (nil (t_then ?_)))))
  refine cnd rfl (fun hb1 => ?_) (fun hb1 => ?_)
  · have hm := ctrue hb1 hm
    refine sq2 ?_
    refine rg (pv (r_mi rfl) (pv (r_zi rfl) (nil (t_thenR [(6, .int .i64 y1)] ⟨rfl, trivial⟩ fun J => ?_))))
    have hm := Option.some.inj hm
    subst hm
    exact rtn (r_blk (r_then (ret1 rfl rfl ⟨_, rfl, _, im1, ⟨rfl, hS1.sel [0] rfl, trivial⟩⟩)))
  · have hm := cfalse hb1 hm
    refine sq2 ?_
    cases hm

set_option maxRecDepth 100000 in
set_option maxHeartbeats 1000000 in
theorem store_Store_Unset_2_sim {g : World} {T0 : Nat → Prop} {w0 : World} {R : Assn} {p0 : Int} {r : Int} (hS : Sep g T0 w0 [R])  (hm : store_Store_Unset_2 p0 = some r) :
    Calls Try.prog 14 #[.pointer none, .int .i64 p0] w0 (RetS T0 w0 fun T w v => v = .int .i64 r ∧ Sep g T w [R] ∧ True) := by
  refine enter (args := [.pointer none, .int .i64 p0]) Try.func14 rfl Try.ntmps14 rfl fun J => ?_
  unfold store_Store_Unset_2 at hm
  refine sq2 ?_
  refine rg (pv (r_zi rfl) (nil (t_then ?_)))
  refine sq2 ?_
  obtain ⟨y1, hx1, hm⟩ := bindS hm
  refine rg (pv (r_mp rfl) (pv (r_mi rfl) (wl rfl (calS cf21 rfl (store_Store_object_2_sim (p0 := p0) (hS.bun [0] [] rfl)  hx1) rfl fun v1 T1 w1 im1 rv1 => ?_))))
  obtain ⟨rfl, hS1, _⟩ := rv1
  have hS1 : Sep g T1 w1 [R] := hS1.unb
  refine pv (r_mv rfl) (pv (r_ex (v := .pointer none) rfl rfl) (pv (r_ex (v := .int .i64 y1) rfl rfl) (pv (r_zp rfl) (pv (r_zi rfl) (nil (t_thenR [(5, .pointer none), (6, .int .i64 y1)] ⟨rfl, rfl, trivial⟩ fun J => ?_))))))
  refine sq2 ?_
  refine sq2 ?_
  refine rg (pv (r_mi rfl) (pv (r_ib rfl rfl rfl) (nil (t_then ?_))))
  refine cnd rfl (fun hb1 => ?_) (fun hb1 => ?_)
  · have hm := ctrue hb1 hm
    refine sq2 ?_
    refine rg (pv (r_mi rfl) (pv (r_zi rfl) (nil (t_thenR [(4, .int .i64 y1)] ⟨rfl, trivial⟩ fun J => ?_))))
    have hm := Option.some.inj hm
    subst hm
    exact rtn (r_then (ret1 rfl rfl ⟨_, rfl, _, im1, ⟨rfl, hS1.sel [0] rfl, trivial⟩⟩))
  · have hm := cfalse hb1 hm
    refine skp (t_then ?_)
    refine sq2 ?_
    refine rt [0, 0, 0, 0, 0, 1, 0, 2, 0, 0, 0, 0, 1, 0, 2, 0, 0, 0, 2] [0, 1, 2, 3, 4, 5, 6, 8, 9, 10, 11, 12, 13, 7, 14, 15, 16, 17, 18] mix (by kernel_rfl) hS1.lt fun w2 i1 => ?_
    have im2 := i1.imm
    have hS2 := hS1.keep i1 (fun _ h => h)
    cases hm

set_option maxRecDepth 100000 in
set_option maxHeartbeats 1000000 in
theorem store_Store_Drop_2_sim {g : World} {T0 : Nat → Prop} {w0 : World} {R : Assn} {p0 : Int} {r : Int} (hS : Sep g T0 w0 [R])  (hm : store_Store_Drop_2 p0 = some r) :
    Calls Try.prog 15 #[.pointer none, .int .i64 p0] w0 (RetS T0 w0 fun T w v => v = .int .i64 r ∧ Sep g T w [R] ∧ True) := by
  refine enter (args := [.pointer none, .int .i64 p0]) Try.func15 rfl Try.ntmps15 rfl fun J => ?_
  unfold store_Store_Drop_2 at hm
  refine sq2 ?_
  refine rg (pv (r_zi rfl) (nil (t_then ?_)))
  refine sq2 ?_
  obtain ⟨y1, hx1, hm⟩ := bindS hm
  refine rg (pv (r_mp rfl) (pv (r_mi rfl) (wl rfl (calS cf21 rfl (store_Store_object_2_sim (p0 := p0) (hS.bun [0] [] rfl)  hx1) rfl fun v1 T1 w1 im1 rv1 => ?_))))
  obtain ⟨rfl, hS1, _⟩ := rv1
  have hS1 : Sep g T1 w1 [R] := hS1.unb
  refine pv (r_mv rfl) (pv (r_ex (v := .pointer none) rfl rfl) (pv (r_ex (v := .int .i64 y1) rfl rfl) (pv (r_zp rfl) (pv (r_zi rfl) (nil (t_thenR [(5, .pointer none), (6, .int .i64 y1)] ⟨rfl, rfl, trivial⟩ fun J => ?_))))))
  refine sq2 ?_
  refine sq2 ?_
  refine rg (pv (r_mi rfl) (pv (r_ib rfl rfl rfl) (nil (t_then ?_))))
  refine cnd rfl (fun hb1 => ?_) (fun hb1 => ?_)
  · have hm := ctrue hb1 hm
    refine sq2 ?_
    refine rg (pv (r_mi rfl) (pv (r_zi rfl) (nil (t_thenR [(4, .int .i64 y1)] ⟨rfl, trivial⟩ fun J => ?_))))
    have hm := Option.some.inj hm
    subst hm
    exact rtn (r_then (ret1 rfl rfl ⟨_, rfl, _, im1, ⟨rfl, hS1.sel [0] rfl, trivial⟩⟩))
  · have hm := cfalse hb1 hm
    refine skp (t_then ?_)
    refine sq2 ?_
    cases hm

set_option maxRecDepth 100000 in
set_option maxHeartbeats 1000000 in
theorem store_object_forget_2_sim {g : World} {T0 : Nat → Prop} {w0 : World} {R : Assn} {p0 : Int} {p1 : Int} {r : Unit} (hS : Sep g T0 w0 [R])  (hm : store_object_forget_2 p0 p1 = some r) :
    Calls Try.prog 20 #[.pointer none, .int .i64 p0, .int .i64 p1] w0 (RetS T0 w0 fun T w v => v = .tuple #[] ∧ Sep g T w [R] ∧ True) := by
  refine enter (args := [.pointer none, .int .i64 p0, .int .i64 p1]) Try.func20 rfl Try.ntmps20 rfl fun J => ?_
  unfold store_object_forget_2 at hm
  refine sq2 ?_
  refine rg (pv (r_mi rfl) (pv (r_ib rfl rfl rfl) (pv (r_ib rfl rfl rfl) (pv (r_zi rfl) (nil (t_then ?_))))))
  obtain ⟨o1, ho1, hq1⟩ := bindS hm
  obtain ⟨bd1, hbd1, ho1⟩ := loop_open ho1
  refine blk (wp_loop_ghost (fun m a w1 => ∃ (J : Nat → Value) (T1 : Nat → Prop) (x1 : Int), a = env (nf 30) J [(0, .pointer none), (1, .int .i64 p0), (2, .int .i64 p1), (6, .int .i64 x1)] ∧ Im T0 w0 T1 w1 ∧ Sep g T1 w1 [R] ∧ loopM bd1 m x1 = some o1) NN ⟨_, _, (IntKind.wrap .i64 ((IntKind.wrap .i64 (p0 - 4)) + 1)), env_has ⟨rfl, rfl, rfl, rfl, trivial⟩, Im.refl, hS.sel [0] rfl, ho1⟩ ?_)
  rintro m _ w1 ⟨J, T1, x1, rfl, im1, hS1, ho1⟩
  obtain ⟨m1, z1, rfl, hm, hn1⟩ := loop_round ho1
  rw [hbd1] at hm
  refine sq2 ?_
  refine sq2 ?_
  refine rg (pv (r_mi rfl) (pv (r_mi rfl) (pv (r_mi rfl) (pv (r_ib rfl rfl rfl) (pv (r_ib rfl rfl rfl) (pv (r_mb rfl) (?_)))))))
  rcases Bool.eq_false_or_eq_true (decide (x1 < (IntKind.wrap .i64 (p0 + p1)))) with hb1 | hb1
  · have hm := ctrue hb1 hm
    cases hm
  · have hm := cfalse hb1 hm
    refine gF (d0 := 15) rfl rfl (by rw [hb1]; rfl) (gF (d0 := 15) rfl rfl (by rw [hb1]; rfl) (gF (d0 := 15) rfl rfl (by rw [hb1]; rfl) (gF (d0 := 15) rfl rfl (by rw [hb1]; rfl) (gF (d0 := 15) rfl rfl (by rw [hb1]; rfl) (gF (d0 := 15) rfl rfl (by rw [hb1]; rfl) (pv (r_pkf rfl hb1 rfl) (nil (t_thenR [(0, .pointer none), (1, .int .i64 p0), (2, .int .i64 p1), (6, .int .i64 x1), (22, .bool false)] ⟨rfl, rfl, rfl, rfl, rfl, trivial⟩ fun J => ?_))))))))
    refine cnd (b := false) rfl (fun h => nomatch h) (fun _ => ?_)
    have hm := Option.some.inj hm
    subst hm
    have hn1 : _ = Lp.brk _ := hn1
    subst hn1
    have hm := thn_brk hq1
    have hm := Option.some.inj hm
    subst hm
    exact xt (x_then (x_then (x_eq (end0 rfl ⟨_, rfl, _, im1, ⟨rfl, hS1.sel [0] rfl, trivial⟩⟩))))

set_option maxRecDepth 100000 in
set_option maxHeartbeats 1000000 in
theorem store_Store_Put_2_sim {g : World} {T0 : Nat → Prop} {w0 : World} {R : Assn} {p0 : StorePtr} {p1 : Int} {p2 : StoreValue} {r : Int} (hS : Sep g T0 w0 [R])  (hm : store_Store_Put_2 p0 p1 p2 = some r) :
    Calls Try.prog 10 #[.pointer none, .agg #[.int .i64 p0.Obj, .int .i64 p0.Lo, .int .i64 p0.Hi, .int .i64 p0.Off], .int .i64 p1, .agg #[.int .u32 p2.Num, .int .i64 p2.Ptr.Obj, .int .i64 p2.Ptr.Lo, .int .i64 p2.Ptr.Hi, .int .i64 p2.Ptr.Off, .bool p2.Is]] w0 (RetS T0 w0 fun T w v => v = .int .i64 r ∧ Sep g T w [R] ∧ True) := by
  refine enter (args := [.pointer none, .agg #[.int .i64 p0.Obj, .int .i64 p0.Lo, .int .i64 p0.Hi, .int .i64 p0.Off], .int .i64 p1, .agg #[.int .u32 p2.Num, .int .i64 p2.Ptr.Obj, .int .i64 p2.Ptr.Lo, .int .i64 p2.Ptr.Hi, .int .i64 p2.Ptr.Off, .bool p2.Is]]) Try.func10 rfl Try.ntmps10 rfl fun J => ?_
  unfold store_Store_Put_2 at hm
  refine sq2 ?_
  refine rg (wl rfl (bxS (cs := [.int .i64 p0.Obj, .int .i64 p0.Lo, .int .i64 p0.Hi, .int .i64 p0.Off]) rfl rfl hS fun w1 b1 im1 hS1 => ?_))
  refine wl rfl (bxS (cs := [.int .u32 p2.Num, .int .i64 p2.Ptr.Obj, .int .i64 p2.Ptr.Lo, .int .i64 p2.Ptr.Hi, .int .i64 p2.Ptr.Off, .bool p2.Is]) rfl rfl hS1 fun w2 b2 im2 hS2 => ?_)
  refine pv (r_zi rfl) (nil (t_then ?_))
  refine sq2 ?_
  obtain ⟨y1, hx1, hm⟩ := bindS hm
  refine rg (pv (r_mp rfl) (pv (r_ldS rfl Try.isAgg24 Try.sizeOf24 rfl (hS2.cells0 (i := 1) ⟨rfl, rfl⟩ (o := 0) rfl) (cs := [.int .i64 p0.Obj, .int .i64 p0.Lo, .int .i64 p0.Hi, .int .i64 p0.Off])) (pv (r_mi rfl) (pv (r_fa rfl Try.underlying26 rfl Try.sizeOf4 rfl) (pv (r_ld rfl Try.isAgg4 (hS2.cell0 (i := 0) ⟨rfl, rfl⟩ (j := 5) rfl)) (wl rfl (calS cf19 rfl (store_Store_place_2_sim (p0 := p0) (p1 := p1) (p2 := p2.Is) (hS2.bun [0, 1, 2] [] rfl)  hx1) rfl fun v1 T1 w3 im3 rv1 => ?_)))))))
  obtain ⟨rfl, hS3, _⟩ := rv1
  have hS3 : Sep g T1 w3 [boxA b2 [.int .u32 p2.Num, .int .i64 p2.Ptr.Obj, .int .i64 p2.Ptr.Lo, .int .i64 p2.Ptr.Hi, .int .i64 p2.Ptr.Off, .bool p2.Is], boxA b1 [.int .i64 p0.Obj, .int .i64 p0.Lo, .int .i64 p0.Hi, .int .i64 p0.Off], R] := hS3.unb
  refine pv (r_mv rfl) (pv (r_ex (v := .pointer none) rfl rfl) (pv (r_ex (v := .int .i64 y1) rfl rfl) (pv (r_zp rfl) (pv (r_zi rfl) (nil (t_thenR [(2, .int .i64 p1), (5, .pointer (some ⟨b1, 0, none⟩)), (7, .pointer (some ⟨b2, 0, none⟩)), (9, .pointer none), (10, .int .i64 y1)] ⟨rfl, rfl, rfl, rfl, rfl, trivial⟩ fun J => ?_))))))
  refine sq2 ?_
  refine sq2 ?_
  refine rg (pv (r_mi rfl) (pv (r_ib rfl rfl rfl) (nil (t_then ?_))))
  refine cnd rfl (fun hb1 => ?_) (fun hb1 => ?_)
  · have hm := ctrue hb1 hm
    refine sq2 ?_
    refine rg (pv (r_mi rfl) (pv (r_zi rfl) (nil (t_thenR [(8, .int .i64 y1)] ⟨rfl, trivial⟩ fun J => ?_))))
    have hm := Option.some.inj hm
    subst hm
    exact rtn (r_then (ret1 rfl rfl ⟨_, rfl, _, (Im.trans im1 (Im.trans im2 im3)), ⟨rfl, hS3.sel [2] rfl, trivial⟩⟩))
  · have hm := cfalse hb1 hm
    refine skp (t_then ?_)
    refine sq2 ?_
    refine rg (pv (r_fa rfl Try.underlying26 rfl Try.sizeOf22 rfl) (pv (r_ld rfl Try.isAgg22 (hS3.cell0 (i := 0) ⟨rfl, rfl⟩ (j := 0) rfl)) (pv (r_zi rfl) (nil (t_thenR [(2, .int .i64 p1), (5, .pointer (some ⟨b1, 0, none⟩)), (7, .pointer (some ⟨b2, 0, none⟩)), (9, .pointer none), (11, .int .u32 p2.Num)] ⟨rfl, rfl, rfl, rfl, rfl, trivial⟩ fun J => ?_)))))
    refine sq2 ?_
    obtain ⟨y2, hx2, hm⟩ := bindS hm
    refine rg (pv (r_mp rfl) (pv (r_fa rfl Try.underlying24 rfl Try.sizeOf3 rfl) (pv (r_ld rfl Try.isAgg3 (hS3.cell0 (i := 1) ⟨rfl, rfl⟩ (j := 3) rfl)) (pv (r_mi rfl) (wl rfl (calS cf20 rfl (store_object_forget_2_sim (p0 := p0.Off) (p1 := p1) (hS3.bun [0, 1, 2] [] rfl)  hx2) rfl fun v2 T2 w4 im4 rv2 => ?_))))))
    obtain ⟨rfl, hS4, _⟩ := rv2
    have hS4 : Sep g T2 w4 [boxA b2 [.int .u32 p2.Num, .int .i64 p2.Ptr.Obj, .int .i64 p2.Ptr.Lo, .int .i64 p2.Ptr.Hi, .int .i64 p2.Ptr.Off, .bool p2.Is], boxA b1 [.int .i64 p0.Obj, .int .i64 p0.Lo, .int .i64 p0.Hi, .int .i64 p0.Off], R] := hS4.unb
    refine nil (t_thenR [(2, .int .i64 p1), (5, .pointer (some ⟨b1, 0, none⟩)), (7, .pointer (some ⟨b2, 0, none⟩)), (9, .pointer none), (11, .int .u32 p2.Num)] ⟨rfl, rfl, rfl, rfl, rfl, trivial⟩ fun J => ?_)
    obtain ⟨kk1, hkk1, hm⟩ := jn_open hm
    refine cut (fun a w5 => ∃ (J : Nat → Value) (T3 : Nat → Prop) (x1 : Int), a = env (nf 81) J [(2, .int .i64 p1), (5, .pointer (some ⟨b1, 0, none⟩)), (9, .pointer none), (11, .int .u32 x1)] ∧ Im T2 w4 T3 w5 ∧ Sep g T3 w5 [boxA b1 [.int .i64 p0.Obj, .int .i64 p0.Lo, .int .i64 p0.Hi, .int .i64 p0.Off], R] ∧ kk1 x1 = some r) ?_ ?_
    · refine sq2 ?_
      refine rg (pv (r_fa rfl Try.underlying26 rfl Try.sizeOf4 rfl) (pv (r_ld rfl Try.isAgg4 (hS4.cell0 (i := 0) ⟨rfl, rfl⟩ (j := 5) rfl)) (nil (t_then ?_))))
      refine cnd rfl (fun hb2 => ?_) (fun hb2 => ?_)
      · have hm := ctrue hb2 hm
        refine sq2 ?_
        refine rg (pv (r_zi rfl) (nil (t_then ?_)))
        obtain ⟨kk2, hkk2, hm⟩ := jn_open hm
        refine cut (fun a w6 => ∃ (J : Nat → Value) (T4 : Nat → Prop) , a = env (nf 81) J [(2, .int .i64 p1), (5, .pointer (some ⟨b1, 0, none⟩)), (7, .pointer (some ⟨b2, 0, none⟩)), (9, .pointer none), (11, .int .u32 0)] ∧ Im T2 w4 T4 w6 ∧ Sep g T4 w6 [boxA b2 [.int .u32 p2.Num, .int .i64 p2.Ptr.Obj, .int .i64 p2.Ptr.Lo, .int .i64 p2.Ptr.Hi, .int .i64 p2.Ptr.Off, .bool p2.Is], boxA b1 [.int .i64 p0.Obj, .int .i64 p0.Lo, .int .i64 p0.Hi, .int .i64 p0.Off], R] ∧ kk2 () = some r) ?_ ?_
        · refine sq2 ?_
          cases hm
        · rintro _ w6 ⟨J, T4, rfl, im6, hS5, hm⟩
          rw [hkk2] at hm
          refine rs [0, 0, 0, 1, 0, 1, 0, 1, 2] [0, 1, 2, 3, 4, 5, 6, 7, 8] mix (by kernel_rfl) hS5.lt fun w7 i1 => ?_
          have im7 := i1.imm
          have hS6 := hS5.keep i1 (fun _ h => h)
          cases hm
      · have hm := cfalse hb2 hm
        exact skp (t_then ⟨_, _, p2.Num, env_has ⟨rfl, rfl, rfl, rfl, trivial⟩, Im.refl, hS4.sel [1, 2] rfl, hm⟩)
    · rintro _ w5 ⟨J, T3, x1, rfl, im5, hS7, hm⟩
      rw [hkk1] at hm
      refine sq2 ?_
      refine sq2 ?_
      refine rg (pv (r_mi rfl) (pv (r_mi rfl) (nil (t_then ?_))))
      obtain ⟨o1, ho1, hq1⟩ := bindS hm
      obtain ⟨bd1, hbd1, ho1⟩ := loop_open ho1
      refine blk (wp_loop_ghost (fun m a w8 => ∃ (J : Nat → Value) (T5 : Nat → Prop) (x2 : Int), a = env (nf 81) J [(5, .pointer (some ⟨b1, 0, none⟩)), (9, .pointer none), (11, .int .u32 x1), (51, .int .i64 p1), (52, .int .i64 x2)] ∧ Im T3 w5 T5 w8 ∧ Sep g T5 w8 [boxA b1 [.int .i64 p0.Obj, .int .i64 p0.Lo, .int .i64 p0.Hi, .int .i64 p0.Off], R] ∧ loopM bd1 m x2 = some o1) NN ⟨_, _, 0, env_has ⟨rfl, rfl, rfl, rfl, rfl, trivial⟩, Im.refl, hS7.sel [0, 1] rfl, ho1⟩ ?_)
      rintro m _ w8 ⟨J, T5, x2, rfl, im8, hS8, ho1⟩
      obtain ⟨m1, z1, rfl, hm, hn1⟩ := loop_round ho1
      rw [hbd1] at hm
      refine sq2 ?_
      refine rg (pv (r_ib rfl rfl rfl) (nil (t_then ?_)))
      refine sq2 ?_
      refine cnd rfl (fun hb3 => ?_) (fun hb3 => ?_)
      · have hm := ctrue hb3 hm
        refine skp (t_then ?_)
        refine sq2 ?_
        refine blk ?_
        refine sq2 ?_
        refine rg (pv (r_mi rfl) (pv (r_zi rfl) (nil (t_then ?_))))
        refine rs [0, 0, 0, 0, 1, 0, 1, 0, 0, 0, 0, 0, 0, 1, 0, 1, 0, 0, 0, 0, 0, 0, 0, 0, 2, 0, 2] [0, 1, 2, 3, 4, 5, 6, 7, 8, 9, 10, 11, 12, 13, 14, 15, 16, 17, 18, 19, 20, 21, 22, 23, 24, 25, 26] mix (by kernel_rfl) hS8.lt fun w9 i2 => ?_
        have im9 := i2.imm
        have hS9 := hS8.keep i2 (fun _ h => h)
        cases hm
      · have hm := cfalse hb3 hm
        have hm := Option.some.inj hm
        subst hm
        have hn1 : _ = Lp.brk _ := hn1
        subst hn1
        have hm := thn_brk hq1
        refine xt (x_then (x_then (x_eq (t_thenR [] trivial fun J => ?_))))
        refine sq2 ?_
        refine rg (pv (r_zi rfl) (nil (t_then ?_)))
        have hm := Option.some.inj hm
        subst hm
        exact rtn (ret1 rfl rfl ⟨_, rfl, _, (Im.trans im1 (Im.trans im2 (Im.trans im3 (Im.trans im4 (Im.trans im5 im8))))), ⟨rfl, hS8.sel [1] rfl, trivial⟩⟩)

set_option maxRecDepth 100000 in
set_option maxHeartbeats 1000000 in
theorem store_Store_Count_sim {g : World} {T0 : Nat → Prop} {w0 : World} {R : Assn}  {r : Int} (hS : Sep g T0 w0 [R])  (hm : store_Store_Count = some r) :
    Calls Try.prog 17 #[.pointer none] w0 (RetS T0 w0 fun T w v => v = .int .i64 r ∧ Sep g T w [R] ∧ True) := by
  refine enter (args := [.pointer none]) Try.func17 rfl Try.ntmps17 rfl fun J => ?_
  unfold store_Store_Count at hm
  refine sq2 ?_
  refine rg (pv (r_zi rfl) (nil (t_then ?_)))
  refine sq2 ?_
  refine sq2 ?_
  refine rg (pv (r_mp rfl) (pv (r_pne rfl rfl rfl Try.underlying30) (nil (t_then ?_))))
  refine cnd (b := true) rfl (fun _ => ?_) (fun h => nomatch h)
  refine sq2 ?_
  refine rg (pv (r_zi rfl) (nil (t_then ?_)))
  have hm := Option.some.inj hm
  subst hm
  exact rtn (r_then (ret1 rfl rfl ⟨_, rfl, _, Im.refl, ⟨rfl, hS.sel [0] rfl, trivial⟩⟩))

set_option maxRecDepth 100000 in
set_option maxHeartbeats 1000000 in
theorem law11_StoreNone_sim {g : World} {T0 : Nat → Prop} {w0 : World} {R : Assn} {p0 : law11Act} {a1 : Option Addr} {c1 : Nat} {r : Bool} (hS : Sep g T0 w0 [R]) (h1 : SlR (rInt .u8) T0 w0 (.slice a1 (List.length p0.Data) c1) p0.Data) (hm : law11_StoreNone p0 = some r) :
    Calls Try.prog 5 #[.agg #[.int .i64 p0.Kind, .int .i64 p0.Obj, .int .i64 p0.N, .int .i64 p0.Size, .bool p0.Is, .slice a1 (List.length p0.Data) c1, .int .i64 p0.P.Obj, .int .i64 p0.P.Lo, .int .i64 p0.P.Hi, .int .i64 p0.P.Off, .int .u32 p0.V.Num, .int .i64 p0.V.Ptr.Obj, .int .i64 p0.V.Ptr.Lo, .int .i64 p0.V.Ptr.Hi, .int .i64 p0.V.Ptr.Off, .bool p0.V.Is]] w0 (RetS T0 w0 fun T w v => v = .bool r ∧ Sep g T w [R] ∧ True) := by
  refine enter (args := [.agg #[.int .i64 p0.Kind, .int .i64 p0.Obj, .int .i64 p0.N, .int .i64 p0.Size, .bool p0.Is, .slice a1 (List.length p0.Data) c1, .int .i64 p0.P.Obj, .int .i64 p0.P.Lo, .int .i64 p0.P.Hi, .int .i64 p0.P.Off, .int .u32 p0.V.Num, .int .i64 p0.V.Ptr.Obj, .int .i64 p0.V.Ptr.Lo, .int .i64 p0.V.Ptr.Hi, .int .i64 p0.V.Ptr.Off, .bool p0.V.Is]]) Try.func5 rfl Try.ntmps5 rfl fun J => ?_
  unfold law11_StoreNone at hm
  refine sq2 ?_
  refine rg (wl rfl (bxS (cs := [.int .i64 p0.Kind, .int .i64 p0.Obj, .int .i64 p0.N, .int .i64 p0.Size, .bool p0.Is, .slice a1 (List.length p0.Data) c1, .int .i64 p0.P.Obj, .int .i64 p0.P.Lo, .int .i64 p0.P.Hi, .int .i64 p0.P.Off, .int .u32 p0.V.Num, .int .i64 p0.V.Ptr.Obj, .int .i64 p0.V.Ptr.Lo, .int .i64 p0.V.Ptr.Hi, .int .i64 p0.V.Ptr.Off, .bool p0.V.Is]) rfl rfl hS fun w1 b1 im1 hS1 => ?_))
  refine pv (r_zb rfl) (nil (t_then ?_))
  refine sq2 ?_
  refine sq2 ?_
  refine rg (pv (r_ldS rfl Try.isAgg46 Try.sizeOf46 rfl (hS1.cells0 (i := 0) ⟨rfl, rfl⟩ (o := 0) rfl) (cs := [.int .i64 p0.Kind, .int .i64 p0.Obj, .int .i64 p0.N, .int .i64 p0.Size, .bool p0.Is, .slice a1 (List.length p0.Data) c1, .int .i64 p0.P.Obj, .int .i64 p0.P.Lo, .int .i64 p0.P.Hi, .int .i64 p0.P.Off, .int .u32 p0.V.Num, .int .i64 p0.V.Ptr.Obj, .int .i64 p0.V.Ptr.Lo, .int .i64 p0.V.Ptr.Hi, .int .i64 p0.V.Ptr.Off, .bool p0.V.Is])) (wl rfl (bsS (r := rlaw11Act) (l := ([p0] : List law11Act)) (css := [[.int .i64 p0.Kind, .int .i64 p0.Obj, .int .i64 p0.N, .int .i64 p0.Size, .bool p0.Is, .slice a1 (List.length p0.Data) c1, .int .i64 p0.P.Obj, .int .i64 p0.P.Lo, .int .i64 p0.P.Hi, .int .i64 p0.P.Off, .int .u32 p0.V.Num, .int .i64 p0.V.Ptr.Obj, .int .i64 p0.V.Ptr.Lo, .int .i64 p0.V.Ptr.Hi, .int .i64 p0.V.Ptr.Off, .bool p0.V.Is]]) hS1 Try.underlying48 Try.sizeOf46 Try.zeroValue46 rfl rfl (by kernel_rfl) rfl ⟨(rlaw11Act_mk (x := p0) (h1.mono im1) : rlaw11Act.rp _ _ _ _), trivial⟩ rfl rfl fun w2 a2 n1 c2 im2 hS2 => ?_)))
  obtain ⟨T1, im3, hS3, h2⟩ := hS2.seal 0 ⟨rfl, rfl⟩
  have hsh := h2.len
  subst hsh
  have hS3 : Sep g T1 w2 [empA, boxA b1 [.int .i64 p0.Kind, .int .i64 p0.Obj, .int .i64 p0.N, .int .i64 p0.Size, .bool p0.Is, .slice a1 (List.length p0.Data) c1, .int .i64 p0.P.Obj, .int .i64 p0.P.Lo, .int .i64 p0.P.Hi, .int .i64 p0.P.Off, .int .u32 p0.V.Num, .int .i64 p0.V.Ptr.Obj, .int .i64 p0.V.Ptr.Lo, .int .i64 p0.V.Ptr.Hi, .int .i64 p0.V.Ptr.Off, .bool p0.V.Is], R] := hS3
  obtain ⟨y1, hx1, hm⟩ := bindS hm
  refine wl rfl (calS cf16 rfl (law11_Few_sim (p0 := ([p0] : List law11Act)) (hS3.bun [1, 2] [] rfl) h2 hx1) rfl fun v1 T2 w3 im4 rv1 => ?_)
  obtain ⟨rfl, hS4, _⟩ := rv1
  have hS4 : Sep g T2 w3 [boxA b1 [.int .i64 p0.Kind, .int .i64 p0.Obj, .int .i64 p0.N, .int .i64 p0.Size, .bool p0.Is, .slice a1 (List.length p0.Data) c1, .int .i64 p0.P.Obj, .int .i64 p0.P.Lo, .int .i64 p0.P.Hi, .int .i64 p0.P.Off, .int .u32 p0.V.Num, .int .i64 p0.V.Ptr.Obj, .int .i64 p0.V.Ptr.Lo, .int .i64 p0.V.Ptr.Hi, .int .i64 p0.V.Ptr.Off, .bool p0.V.Is], R] := hS4.unb
  refine pv (r_nt rfl) (nil (t_thenR [(1, .pointer (some ⟨b1, 0, none⟩)), (15, .bool (!y1))] ⟨rfl, rfl, trivial⟩ fun J => ?_))
  refine cnd rfl (fun hb1 => ?_) (fun hb1 => ?_)
  · have hm := ctrue hb1 hm
    refine sq2 ?_
    obtain ⟨y2, hx2, hm⟩ := bindS hm
    refine rg (wl rfl (calS cf6 rfl (law11_awake_sim  (hS4.bun [1] [] rfl)  hx2) rfl fun v2 T3 w4 im5 rv2 => ?_))
    obtain ⟨rfl, hS5, _⟩ := rv2
    have hS5 : Sep g T3 w4 [R] := hS5.unb
    refine pv (r_zb rfl) (nil (t_then ?_))
    have hm := Option.some.inj hm
    subst hm
    exact rtn (r_then (ret1 rfl rfl ⟨_, rfl, _, (Im.trans im1 (Im.trans im2 (Im.trans im3 (Im.trans im4 im5)))), ⟨rfl, hS5.sel [0] rfl, trivial⟩⟩))
  · have hm := cfalse hb1 hm
    refine skp (t_then ?_)
    refine sq2 ?_
    refine rg (pv (r_zp rfl) (nil (t_then ?_)))
    refine sq2 ?_
    obtain ⟨y3, hx3, hm⟩ := bindS hm
    refine rg (pv (r_mp rfl) (pv (r_fa rfl Try.underlying46 rfl Try.sizeOf3 rfl) (pv (r_ld rfl Try.isAgg3 (hS4.cell0 (i := 0) ⟨rfl, rfl⟩ (j := 2) rfl)) (wl rfl (calS cf8 rfl (store_Store_Make_2_sim (p0 := p0.N) (hS4.bun [0, 1] [] rfl)  hx3) rfl fun v3 T4 w5 im6 rv3 => ?_)))))
    obtain ⟨rfl, hS6, _⟩ := rv3
    have hS6 : Sep g T4 w5 [boxA b1 [.int .i64 p0.Kind, .int .i64 p0.Obj, .int .i64 p0.N, .int .i64 p0.Size, .bool p0.Is, .slice a1 (List.length p0.Data) c1, .int .i64 p0.P.Obj, .int .i64 p0.P.Lo, .int .i64 p0.P.Hi, .int .i64 p0.P.Off, .int .u32 p0.V.Num, .int .i64 p0.V.Ptr.Obj, .int .i64 p0.V.Ptr.Lo, .int .i64 p0.V.Ptr.Hi, .int .i64 p0.V.Ptr.Off, .bool p0.V.Is], R] := hS6.unb
    refine pv (r_mv rfl) (pv (r_ex (v := .agg #[.int .i64 y3.1.Obj, .int .i64 y3.1.Lo, .int .i64 y3.1.Hi, .int .i64 y3.1.Off]) rfl rfl) (pv (r_ex (v := .int .i64 y3.2) rfl rfl) (wl rfl (alS (zs := [.int .i64 0, .int .i64 0, .int .i64 0, .int .i64 0]) Try.zeroValue24 rfl hS6 fun w6 b2 im7 hS7 => ?_))))
    refine wl rfl (st0B (q := 0) hS7 ⟨rfl, rfl⟩ rfl rfl rfl Try.sizeOf24 rfl rfl rfl fun w7 im8 hS8 => ?_)
    have hS8 : Sep g T4 w7 [boxA b2 [.int .i64 y3.1.Obj, .int .i64 y3.1.Lo, .int .i64 y3.1.Hi, .int .i64 y3.1.Off], boxA b1 [.int .i64 p0.Kind, .int .i64 p0.Obj, .int .i64 p0.N, .int .i64 p0.Size, .bool p0.Is, .slice a1 (List.length p0.Data) c1, .int .i64 p0.P.Obj, .int .i64 p0.P.Lo, .int .i64 p0.P.Hi, .int .i64 p0.P.Off, .int .u32 p0.V.Num, .int .i64 p0.V.Ptr.Obj, .int .i64 p0.V.Ptr.Lo, .int .i64 p0.V.Ptr.Hi, .int .i64 p0.V.Ptr.Off, .bool p0.V.Is], R] := hS8
    refine pv (r_zi rfl) (nil (t_thenR [(1, .pointer (some ⟨b1, 0, none⟩)), (3, .pointer none), (4, .pointer (some ⟨b2, 0, none⟩)), (5, .int .i64 y3.2)] ⟨rfl, rfl, rfl, rfl, trivial⟩ fun J => ?_))
    refine sq2 ?_
    obtain ⟨y4, hx4, hm⟩ := bindS hm
    refine rg (pv (r_mp rfl) (pv (r_fa rfl Try.underlying46 rfl Try.sizeOf24 rfl) (pv (r_ldS rfl Try.isAgg24 Try.sizeOf24 rfl (hS8.cells0 (i := 1) ⟨rfl, rfl⟩ (o := 6) rfl) (cs := [.int .i64 p0.P.Obj, .int .i64 p0.P.Lo, .int .i64 p0.P.Hi, .int .i64 p0.P.Off])) (pv (r_fa rfl Try.underlying46 rfl Try.sizeOf3 rfl) (pv (r_ld rfl Try.isAgg3 (hS8.cell0 (i := 1) ⟨rfl, rfl⟩ (j := 3) rfl)) (pv (r_fa rfl Try.underlying46 rfl Try.sizeOf4 rfl) (pv (r_ld rfl Try.isAgg4 (hS8.cell0 (i := 1) ⟨rfl, rfl⟩ (j := 4) rfl)) (wl rfl (calS cf11 rfl (store_Store_Load_2_sim (p0 := p0.P) (p1 := p0.Size) (p2 := p0.Is) (hS8.bun [0, 1, 2] [] rfl)  hx4) rfl fun v4 T5 w8 im9 rv4 => ?_)))))))))
    obtain ⟨rfl, hS9, _⟩ := rv4
    have hS9 : Sep g T5 w8 [boxA b2 [.int .i64 y3.1.Obj, .int .i64 y3.1.Lo, .int .i64 y3.1.Hi, .int .i64 y3.1.Off], boxA b1 [.int .i64 p0.Kind, .int .i64 p0.Obj, .int .i64 p0.N, .int .i64 p0.Size, .bool p0.Is, .slice a1 (List.length p0.Data) c1, .int .i64 p0.P.Obj, .int .i64 p0.P.Lo, .int .i64 p0.P.Hi, .int .i64 p0.P.Off, .int .u32 p0.V.Num, .int .i64 p0.V.Ptr.Obj, .int .i64 p0.V.Ptr.Lo, .int .i64 p0.V.Ptr.Hi, .int .i64 p0.V.Ptr.Off, .bool p0.V.Is], R] := hS9.unb
    refine pv (r_mv rfl) (pv (r_ex (v := .agg #[.int .u32 y4.1.Num, .int .i64 y4.1.Ptr.Obj, .int .i64 y4.1.Ptr.Lo, .int .i64 y4.1.Ptr.Hi, .int .i64 y4.1.Ptr.Off, .bool y4.1.Is]) rfl rfl) (pv (r_ex (v := .int .i64 y4.2) rfl rfl) (wl rfl (alS (zs := [.int .u32 0, .int .i64 0, .int .i64 0, .int .i64 0, .int .i64 0, .bool false]) Try.zeroValue26 rfl hS9 fun w9 b3 im10 hS10 => ?_))))
    refine wl rfl (st0B (q := 0) hS10 ⟨rfl, rfl⟩ rfl rfl rfl Try.sizeOf26 rfl rfl rfl fun w10 im11 hS11 => ?_)
    have hS11 : Sep g T5 w10 [boxA b3 [.int .u32 y4.1.Num, .int .i64 y4.1.Ptr.Obj, .int .i64 y4.1.Ptr.Lo, .int .i64 y4.1.Ptr.Hi, .int .i64 y4.1.Ptr.Off, .bool y4.1.Is], boxA b2 [.int .i64 y3.1.Obj, .int .i64 y3.1.Lo, .int .i64 y3.1.Hi, .int .i64 y3.1.Off], boxA b1 [.int .i64 p0.Kind, .int .i64 p0.Obj, .int .i64 p0.N, .int .i64 p0.Size, .bool p0.Is, .slice a1 (List.length p0.Data) c1, .int .i64 p0.P.Obj, .int .i64 p0.P.Lo, .int .i64 p0.P.Hi, .int .i64 p0.P.Off, .int .u32 p0.V.Num, .int .i64 p0.V.Ptr.Obj, .int .i64 p0.V.Ptr.Lo, .int .i64 p0.V.Ptr.Hi, .int .i64 p0.V.Ptr.Off, .bool p0.V.Is], R] := hS11
    refine pv (r_zi rfl) (nil (t_thenR [(1, .pointer (some ⟨b1, 0, none⟩)), (3, .pointer none), (4, .pointer (some ⟨b2, 0, none⟩)), (5, .int .i64 y3.2), (6, .pointer (some ⟨b3, 0, none⟩)), (7, .int .i64 y4.2)] ⟨rfl, rfl, rfl, rfl, rfl, rfl, trivial⟩ fun J => ?_))
    refine sq2 ?_
    obtain ⟨y5, hx5, hm⟩ := bindS hm
    refine rg (pv (r_mp rfl) (pv (r_fa rfl Try.underlying46 rfl Try.sizeOf24 rfl) (pv (r_ldS rfl Try.isAgg24 Try.sizeOf24 rfl (hS11.cells0 (i := 2) ⟨rfl, rfl⟩ (o := 6) rfl) (cs := [.int .i64 p0.P.Obj, .int .i64 p0.P.Lo, .int .i64 p0.P.Hi, .int .i64 p0.P.Off])) (pv (r_fa rfl Try.underlying46 rfl Try.sizeOf3 rfl) (pv (r_ld rfl Try.isAgg3 (hS11.cell0 (i := 2) ⟨rfl, rfl⟩ (j := 2) rfl)) (wl rfl (calS cf9 rfl (store_Store_Move_2_sim (p0 := p0.P) (p1 := p0.N) (hS11.bun [0, 1, 2, 3] [] rfl)  hx5) rfl fun v5 T6 w11 im12 rv5 => ?_)))))))
    obtain ⟨rfl, hS12, _⟩ := rv5
    have hS12 : Sep g T6 w11 [boxA b3 [.int .u32 y4.1.Num, .int .i64 y4.1.Ptr.Obj, .int .i64 y4.1.Ptr.Lo, .int .i64 y4.1.Ptr.Hi, .int .i64 y4.1.Ptr.Off, .bool y4.1.Is], boxA b2 [.int .i64 y3.1.Obj, .int .i64 y3.1.Lo, .int .i64 y3.1.Hi, .int .i64 y3.1.Off], boxA b1 [.int .i64 p0.Kind, .int .i64 p0.Obj, .int .i64 p0.N, .int .i64 p0.Size, .bool p0.Is, .slice a1 (List.length p0.Data) c1, .int .i64 p0.P.Obj, .int .i64 p0.P.Lo, .int .i64 p0.P.Hi, .int .i64 p0.P.Off, .int .u32 p0.V.Num, .int .i64 p0.V.Ptr.Obj, .int .i64 p0.V.Ptr.Lo, .int .i64 p0.V.Ptr.Hi, .int .i64 p0.V.Ptr.Off, .bool p0.V.Is], R] := hS12.unb
    refine pv (r_mv rfl) (pv (r_ex (v := .agg #[.int .i64 y5.1.Obj, .int .i64 y5.1.Lo, .int .i64 y5.1.Hi, .int .i64 y5.1.Off]) rfl rfl) (pv (r_ex (v := .int .i64 y5.2) rfl rfl) (wl rfl (alS (zs := [.int .i64 0, .int .i64 0, .int .i64 0, .int .i64 0]) Try.zeroValue24 rfl hS12 fun w12 b4 im13 hS13 => ?_))))
    refine wl rfl (st0B (q := 0) hS13 ⟨rfl, rfl⟩ rfl rfl rfl Try.sizeOf24 rfl rfl rfl fun w13 im14 hS14 => ?_)
    have hS14 : Sep g T6 w13 [boxA b4 [.int .i64 y5.1.Obj, .int .i64 y5.1.Lo, .int .i64 y5.1.Hi, .int .i64 y5.1.Off], boxA b3 [.int .u32 y4.1.Num, .int .i64 y4.1.Ptr.Obj, .int .i64 y4.1.Ptr.Lo, .int .i64 y4.1.Ptr.Hi, .int .i64 y4.1.Ptr.Off, .bool y4.1.Is], boxA b2 [.int .i64 y3.1.Obj, .int .i64 y3.1.Lo, .int .i64 y3.1.Hi, .int .i64 y3.1.Off], boxA b1 [.int .i64 p0.Kind, .int .i64 p0.Obj, .int .i64 p0.N, .int .i64 p0.Size, .bool p0.Is, .slice a1 (List.length p0.Data) c1, .int .i64 p0.P.Obj, .int .i64 p0.P.Lo, .int .i64 p0.P.Hi, .int .i64 p0.P.Off, .int .u32 p0.V.Num, .int .i64 p0.V.Ptr.Obj, .int .i64 p0.V.Ptr.Lo, .int .i64 p0.V.Ptr.Hi, .int .i64 p0.V.Ptr.Off, .bool p0.V.Is], R] := hS14
    refine pv (r_zi rfl) (nil (t_thenR [(1, .pointer (some ⟨b1, 0, none⟩)), (3, .pointer none), (4, .pointer (some ⟨b2, 0, none⟩)), (5, .int .i64 y3.2), (6, .pointer (some ⟨b3, 0, none⟩)), (7, .int .i64 y4.2), (8, .pointer (some ⟨b4, 0, none⟩)), (9, .int .i64 y5.2)] ⟨rfl, rfl, rfl, rfl, rfl, rfl, rfl, rfl, trivial⟩ fun J => ?_))
    refine sq2 ?_
    obtain ⟨y6, hx6, hm⟩ := bindS hm
    refine rg (pv (r_mp rfl) (pv (r_fa rfl Try.underlying46 rfl Try.sizeOf24 rfl) (pv (r_ldS rfl Try.isAgg24 Try.sizeOf24 rfl (hS14.cells0 (i := 3) ⟨rfl, rfl⟩ (o := 6) rfl) (cs := [.int .i64 p0.P.Obj, .int .i64 p0.P.Lo, .int .i64 p0.P.Hi, .int .i64 p0.P.Off])) (pv (r_fa rfl Try.underlying46 rfl Try.sizeOf3 rfl) (pv (r_ld rfl Try.isAgg3 (hS14.cell0 (i := 3) ⟨rfl, rfl⟩ (j := 2) rfl)) (pv (r_fa rfl Try.underlying46 rfl Try.sizeOf3 rfl) (pv (r_ld rfl Try.isAgg3 (hS14.cell0 (i := 3) ⟨rfl, rfl⟩ (j := 3) rfl)) (wl rfl (calS cf13 rfl (store_Store_Part_2_sim (p0 := p0.P) (p1 := p0.N) (p2 := p0.Size) (hS14.bun [0, 1, 2, 3, 4] [] rfl)  hx6) rfl fun v6 T7 w14 im15 rv6 => ?_)))))))))
    obtain ⟨rfl, hS15, _⟩ := rv6
    have hS15 : Sep g T7 w14 [boxA b4 [.int .i64 y5.1.Obj, .int .i64 y5.1.Lo, .int .i64 y5.1.Hi, .int .i64 y5.1.Off], boxA b3 [.int .u32 y4.1.Num, .int .i64 y4.1.Ptr.Obj, .int .i64 y4.1.Ptr.Lo, .int .i64 y4.1.Ptr.Hi, .int .i64 y4.1.Ptr.Off, .bool y4.1.Is], boxA b2 [.int .i64 y3.1.Obj, .int .i64 y3.1.Lo, .int .i64 y3.1.Hi, .int .i64 y3.1.Off], boxA b1 [.int .i64 p0.Kind, .int .i64 p0.Obj, .int .i64 p0.N, .int .i64 p0.Size, .bool p0.Is, .slice a1 (List.length p0.Data) c1, .int .i64 p0.P.Obj, .int .i64 p0.P.Lo, .int .i64 p0.P.Hi, .int .i64 p0.P.Off, .int .u32 p0.V.Num, .int .i64 p0.V.Ptr.Obj, .int .i64 p0.V.Ptr.Lo, .int .i64 p0.V.Ptr.Hi, .int .i64 p0.V.Ptr.Off, .bool p0.V.Is], R] := hS15.unb
    refine pv (r_mv rfl) (pv (r_ex (v := .agg #[.int .i64 y6.1.Obj, .int .i64 y6.1.Lo, .int .i64 y6.1.Hi, .int .i64 y6.1.Off]) rfl rfl) (pv (r_ex (v := .int .i64 y6.2) rfl rfl) (wl rfl (alS (zs := [.int .i64 0, .int .i64 0, .int .i64 0, .int .i64 0]) Try.zeroValue24 rfl hS15 fun w15 b5 im16 hS16 => ?_))))
    refine wl rfl (st0B (q := 0) hS16 ⟨rfl, rfl⟩ rfl rfl rfl Try.sizeOf24 rfl rfl rfl fun w16 im17 hS17 => ?_)
    have hS17 : Sep g T7 w16 [boxA b5 [.int .i64 y6.1.Obj, .int .i64 y6.1.Lo, .int .i64 y6.1.Hi, .int .i64 y6.1.Off], boxA b4 [.int .i64 y5.1.Obj, .int .i64 y5.1.Lo, .int .i64 y5.1.Hi, .int .i64 y5.1.Off], boxA b3 [.int .u32 y4.1.Num, .int .i64 y4.1.Ptr.Obj, .int .i64 y4.1.Ptr.Lo, .int .i64 y4.1.Ptr.Hi, .int .i64 y4.1.Ptr.Off, .bool y4.1.Is], boxA b2 [.int .i64 y3.1.Obj, .int .i64 y3.1.Lo, .int .i64 y3.1.Hi, .int .i64 y3.1.Off], boxA b1 [.int .i64 p0.Kind, .int .i64 p0.Obj, .int .i64 p0.N, .int .i64 p0.Size, .bool p0.Is, .slice a1 (List.length p0.Data) c1, .int .i64 p0.P.Obj, .int .i64 p0.P.Lo, .int .i64 p0.P.Hi, .int .i64 p0.P.Off, .int .u32 p0.V.Num, .int .i64 p0.V.Ptr.Obj, .int .i64 p0.V.Ptr.Lo, .int .i64 p0.V.Ptr.Hi, .int .i64 p0.V.Ptr.Off, .bool p0.V.Is], R] := hS17
    refine pv (r_zi rfl) (nil (t_thenR [(1, .pointer (some ⟨b1, 0, none⟩)), (3, .pointer none), (4, .pointer (some ⟨b2, 0, none⟩)), (5, .int .i64 y3.2), (6, .pointer (some ⟨b3, 0, none⟩)), (7, .int .i64 y4.2), (8, .pointer (some ⟨b4, 0, none⟩)), (9, .int .i64 y5.2), (10, .pointer (some ⟨b5, 0, none⟩)), (11, .int .i64 y6.2)] ⟨rfl, rfl, rfl, rfl, rfl, rfl, rfl, rfl, rfl, rfl, trivial⟩ fun J => ?_))
    refine sq2 ?_
    obtain ⟨y7, hx7, hm⟩ := bindS hm
    refine rg (wl rfl (calS cf6 rfl (law11_awake_sim  (hS17.bun [0, 1, 2, 3, 4, 5] [] rfl)  hx7) rfl fun v7 T8 w17 im18 rv7 => ?_))
    obtain ⟨rfl, hS18, _⟩ := rv7
    have hS18 : Sep g T8 w17 [boxA b5 [.int .i64 y6.1.Obj, .int .i64 y6.1.Lo, .int .i64 y6.1.Hi, .int .i64 y6.1.Off], boxA b4 [.int .i64 y5.1.Obj, .int .i64 y5.1.Lo, .int .i64 y5.1.Hi, .int .i64 y5.1.Off], boxA b3 [.int .u32 y4.1.Num, .int .i64 y4.1.Ptr.Obj, .int .i64 y4.1.Ptr.Lo, .int .i64 y4.1.Ptr.Hi, .int .i64 y4.1.Ptr.Off, .bool y4.1.Is], boxA b2 [.int .i64 y3.1.Obj, .int .i64 y3.1.Lo, .int .i64 y3.1.Hi, .int .i64 y3.1.Off], boxA b1 [.int .i64 p0.Kind, .int .i64 p0.Obj, .int .i64 p0.N, .int .i64 p0.Size, .bool p0.Is, .slice a1 (List.length p0.Data) c1, .int .i64 p0.P.Obj, .int .i64 p0.P.Lo, .int .i64 p0.P.Hi, .int .i64 p0.P.Off, .int .u32 p0.V.Num, .int .i64 p0.V.Ptr.Obj, .int .i64 p0.V.Ptr.Lo, .int .i64 p0.V.Ptr.Hi, .int .i64 p0.V.Ptr.Off, .bool p0.V.Is], R] := hS18.unb
    refine pv (r_mb rfl) (?_)
    rcases Bool.eq_false_or_eq_true y7 with hb2 | hb2
    · have hm := ctrue hb2 hm
      refine gT (d0 := 56) rfl rfl hb2 (pv (r_ldS rfl Try.isAgg24 Try.sizeOf24 rfl (hS18.cells0 (i := 3) ⟨rfl, rfl⟩ (o := 0) rfl) (cs := [.int .i64 y3.1.Obj, .int .i64 y3.1.Lo, .int .i64 y3.1.Hi, .int .i64 y3.1.Off])) (gT (d0 := 56) rfl rfl hb2 (pv (r_bd (by kernel_rfl) rfl (u := .agg #[.int .i64 0, .int .i64 0, .int .i64 0, .int .i64 0])) (gT (d0 := 56) rfl rfl hb2 (pv (r_seqe rfl rfl (eq_24 y3.1.Obj y3.1.Lo y3.1.Hi y3.1.Off 0 0 0 0)) (pv (r_pkt rfl hb2 rfl) (pv (r_mb rfl) (?_))))))))
      rcases Bool.eq_false_or_eq_true ((y3.1.Obj == 0) && (y3.1.Lo == 0) && (y3.1.Hi == 0) && (y3.1.Off == 0)) with hb3 | hb3
      · have hm := ctrue hb3 hm
        refine gT (d0 := 61) rfl rfl hb3 (pv (r_mi rfl) (gT (d0 := 61) rfl rfl hb3 (pv (r_ib rfl rfl rfl) (pv (r_pkt rfl hb3 rfl) (pv (r_mb rfl) (?_))))))
        rcases Bool.eq_false_or_eq_true (y3.2 == 1) with hb4 | hb4
        · have hm := ctrue hb4 hm
          refine gT (d0 := 65) rfl rfl hb4 (pv (r_ldS rfl Try.isAgg26 Try.sizeOf26 rfl (hS18.cells0 (i := 2) ⟨rfl, rfl⟩ (o := 0) rfl) (cs := [.int .u32 y4.1.Num, .int .i64 y4.1.Ptr.Obj, .int .i64 y4.1.Ptr.Lo, .int .i64 y4.1.Ptr.Hi, .int .i64 y4.1.Ptr.Off, .bool y4.1.Is])) (gT (d0 := 65) rfl rfl hb4 (pv (r_bd (by kernel_rfl) rfl (u := .agg #[.int .u32 0, .int .i64 0, .int .i64 0, .int .i64 0, .int .i64 0, .bool false])) (gT (d0 := 65) rfl rfl hb4 (pv (r_seqe rfl rfl (eq_26 y4.1.Num y4.1.Ptr.Obj y4.1.Ptr.Lo y4.1.Ptr.Hi y4.1.Ptr.Off y4.1.Is 0 0 0 0 0 false)) (pv (r_pkt rfl hb4 rfl) (pv (r_mb rfl) (?_))))))))
          rcases Bool.eq_false_or_eq_true ((y4.1.Num == 0) && (y4.1.Ptr.Obj == 0) && (y4.1.Ptr.Lo == 0) && (y4.1.Ptr.Hi == 0) && (y4.1.Ptr.Off == 0) && (y4.1.Is == false)) with hb5 | hb5
          · have hm := ctrue hb5 hm
            refine gT (d0 := 70) rfl rfl hb5 (pv (r_mi rfl) (gT (d0 := 70) rfl rfl hb5 (pv (r_ib rfl rfl rfl) (pv (r_pkt rfl hb5 rfl) (pv (r_mb rfl) (?_))))))
            rcases Bool.eq_false_or_eq_true (y4.2 == 1) with hb6 | hb6
            · have hm := ctrue hb6 hm
              refine gT (d0 := 74) rfl rfl hb6 (pv (r_ldS rfl Try.isAgg24 Try.sizeOf24 rfl (hS18.cells0 (i := 1) ⟨rfl, rfl⟩ (o := 0) rfl) (cs := [.int .i64 y5.1.Obj, .int .i64 y5.1.Lo, .int .i64 y5.1.Hi, .int .i64 y5.1.Off])) (gT (d0 := 74) rfl rfl hb6 (pv (r_bd (by kernel_rfl) rfl (u := .agg #[.int .i64 0, .int .i64 0, .int .i64 0, .int .i64 0])) (gT (d0 := 74) rfl rfl hb6 (pv (r_seqe rfl rfl (eq_24 y5.1.Obj y5.1.Lo y5.1.Hi y5.1.Off 0 0 0 0)) (pv (r_pkt rfl hb6 rfl) (pv (r_mb rfl) (?_))))))))
              rcases Bool.eq_false_or_eq_true ((y5.1.Obj == 0) && (y5.1.Lo == 0) && (y5.1.Hi == 0) && (y5.1.Off == 0)) with hb7 | hb7
              · have hm := ctrue hb7 hm
                refine gT (d0 := 79) rfl rfl hb7 (pv (r_mi rfl) (gT (d0 := 79) rfl rfl hb7 (pv (r_ib rfl rfl rfl) (pv (r_pkt rfl hb7 rfl) (pv (r_mb rfl) (?_))))))
                rcases Bool.eq_false_or_eq_true (y5.2 == 1) with hb8 | hb8
                · have hm := ctrue hb8 hm
                  refine gT (d0 := 83) rfl rfl hb8 (pv (r_ldS rfl Try.isAgg24 Try.sizeOf24 rfl (hS18.cells0 (i := 0) ⟨rfl, rfl⟩ (o := 0) rfl) (cs := [.int .i64 y6.1.Obj, .int .i64 y6.1.Lo, .int .i64 y6.1.Hi, .int .i64 y6.1.Off])) (gT (d0 := 83) rfl rfl hb8 (pv (r_bd (by kernel_rfl) rfl (u := .agg #[.int .i64 0, .int .i64 0, .int .i64 0, .int .i64 0])) (gT (d0 := 83) rfl rfl hb8 (pv (r_seqe rfl rfl (eq_24 y6.1.Obj y6.1.Lo y6.1.Hi y6.1.Off 0 0 0 0)) (pv (r_pkt rfl hb8 rfl) (pv (r_mb rfl) (?_))))))))
                  rcases Bool.eq_false_or_eq_true ((y6.1.Obj == 0) && (y6.1.Lo == 0) && (y6.1.Hi == 0) && (y6.1.Off == 0)) with hb9 | hb9
                  · have hm := ctrue hb9 hm
                    refine gT (d0 := 88) rfl rfl hb9 (pv (r_mi rfl) (gT (d0 := 88) rfl rfl hb9 (pv (r_ib rfl rfl rfl) (pv (r_pkt rfl hb9 rfl) (pv (r_mb rfl) (?_))))))
                    rcases Bool.eq_false_or_eq_true (y6.2 == 1) with hb10 | hb10
                    · have hm := ctrue hb10 hm
                      obtain ⟨y8, hx8, hm⟩ := bindS hm
                      refine gT (d0 := 92) rfl rfl hb10 (pv (r_mp rfl) (gT (d0 := 92) rfl rfl hb10 (pv (r_fa rfl Try.underlying46 rfl Try.sizeOf3 rfl) (gT (d0 := 92) rfl rfl hb10 (pv (r_ld rfl Try.isAgg3 (hS18.cell0 (i := 4) ⟨rfl, rfl⟩ (j := 1) rfl)) (gT (d0 := 92) rfl rfl hb10 (pv (r_fa rfl Try.underlying46 rfl Try.sizeOf41 rfl) (gT (d0 := 92) rfl rfl hb10 (pv (r_ld rfl Try.isAgg41 (hS18.cell0 (i := 4) ⟨rfl, rfl⟩ (j := 5) rfl)) (gT (d0 := 92) rfl rfl hb10 (wl rfl (calS cf12 rfl (store_Store_Fill_2_sim (p0 := p0.Obj) (p1 := p0.Data) (hS18.bun [4, 5] [] rfl) (h1.mono (Im.trans im1 (Im.trans im2 (Im.trans im3 (Im.trans im4 (Im.trans im6 (Im.trans im7 (Im.trans im8 (Im.trans im9 (Im.trans im10 (Im.trans im11 (Im.trans im12 (Im.trans im13 (Im.trans im14 (Im.trans im15 (Im.trans im16 (Im.trans im17 im18))))))))))))))))) hx8) rfl fun v8 T9 w18 im19 rv8 => ?_))))))))))))
                      obtain ⟨rfl, hS19, _⟩ := rv8
                      have hS19 : Sep g T9 w18 [boxA b1 [.int .i64 p0.Kind, .int .i64 p0.Obj, .int .i64 p0.N, .int .i64 p0.Size, .bool p0.Is, .slice a1 (List.length p0.Data) c1, .int .i64 p0.P.Obj, .int .i64 p0.P.Lo, .int .i64 p0.P.Hi, .int .i64 p0.P.Off, .int .u32 p0.V.Num, .int .i64 p0.V.Ptr.Obj, .int .i64 p0.V.Ptr.Lo, .int .i64 p0.V.Ptr.Hi, .int .i64 p0.V.Ptr.Off, .bool p0.V.Is], R] := hS19.unb
                      refine gT (d0 := 92) rfl rfl hb10 (pv (r_ib rfl rfl rfl) (pv (r_pkt rfl hb10 rfl) (pv (r_mb rfl) (?_))))
                      rcases Bool.eq_false_or_eq_true (y8 == 1) with hb11 | hb11
                      · have hm := ctrue hb11 hm
                        obtain ⟨y9, hx9, hm⟩ := bindS hm
                        refine gT (d0 := 101) rfl rfl hb11 (pv (r_mp rfl) (gT (d0 := 101) rfl rfl hb11 (pv (r_fa rfl Try.underlying46 rfl Try.sizeOf3 rfl) (gT (d0 := 101) rfl rfl hb11 (pv (r_ld rfl Try.isAgg3 (hS19.cell0 (i := 0) ⟨rfl, rfl⟩ (j := 1) rfl)) (gT (d0 := 101) rfl rfl hb11 (wl rfl (calS cf14 rfl (store_Store_Unset_2_sim (p0 := p0.Obj) (hS19.bun [0, 1] [] rfl)  hx9) rfl fun v9 T10 w19 im20 rv9 => ?_))))))))
                        obtain ⟨rfl, hS20, _⟩ := rv9
                        have hS20 : Sep g T10 w19 [boxA b1 [.int .i64 p0.Kind, .int .i64 p0.Obj, .int .i64 p0.N, .int .i64 p0.Size, .bool p0.Is, .slice a1 (List.length p0.Data) c1, .int .i64 p0.P.Obj, .int .i64 p0.P.Lo, .int .i64 p0.P.Hi, .int .i64 p0.P.Off, .int .u32 p0.V.Num, .int .i64 p0.V.Ptr.Obj, .int .i64 p0.V.Ptr.Lo, .int .i64 p0.V.Ptr.Hi, .int .i64 p0.V.Ptr.Off, .bool p0.V.Is], R] := hS20.unb
                        refine gT (d0 := 101) rfl rfl hb11 (pv (r_ib rfl rfl rfl) (pv (r_pkt rfl hb11 rfl) (pv (r_mb rfl) (?_))))
                        rcases Bool.eq_false_or_eq_true (y9 == 1) with hb12 | hb12
                        · have hm := ctrue hb12 hm
                          obtain ⟨y10, hx10, hm⟩ := bindS hm
                          refine gT (d0 := 108) rfl rfl hb12 (pv (r_mp rfl) (gT (d0 := 108) rfl rfl hb12 (pv (r_fa rfl Try.underlying46 rfl Try.sizeOf3 rfl) (gT (d0 := 108) rfl rfl hb12 (pv (r_ld rfl Try.isAgg3 (hS20.cell0 (i := 0) ⟨rfl, rfl⟩ (j := 1) rfl)) (gT (d0 := 108) rfl rfl hb12 (wl rfl (calS cf15 rfl (store_Store_Drop_2_sim (p0 := p0.Obj) (hS20.bun [0, 1] [] rfl)  hx10) rfl fun v10 T11 w20 im21 rv10 => ?_))))))))
                          obtain ⟨rfl, hS21, _⟩ := rv10
                          have hS21 : Sep g T11 w20 [boxA b1 [.int .i64 p0.Kind, .int .i64 p0.Obj, .int .i64 p0.N, .int .i64 p0.Size, .bool p0.Is, .slice a1 (List.length p0.Data) c1, .int .i64 p0.P.Obj, .int .i64 p0.P.Lo, .int .i64 p0.P.Hi, .int .i64 p0.P.Off, .int .u32 p0.V.Num, .int .i64 p0.V.Ptr.Obj, .int .i64 p0.V.Ptr.Lo, .int .i64 p0.V.Ptr.Hi, .int .i64 p0.V.Ptr.Off, .bool p0.V.Is], R] := hS21.unb
                          refine gT (d0 := 108) rfl rfl hb12 (pv (r_ib rfl rfl rfl) (pv (r_pkt rfl hb12 rfl) (pv (r_mb rfl) (?_))))
                          rcases Bool.eq_false_or_eq_true (y10 == 1) with hb13 | hb13
                          · have hm := ctrue hb13 hm
                            obtain ⟨y11, hx11, hm⟩ := bindS hm
                            refine gT (d0 := 115) rfl rfl hb13 (pv (r_mp rfl) (gT (d0 := 115) rfl rfl hb13 (pv (r_fa rfl Try.underlying46 rfl Try.sizeOf24 rfl) (gT (d0 := 115) rfl rfl hb13 (pv (r_ldS rfl Try.isAgg24 Try.sizeOf24 rfl (hS21.cells0 (i := 0) ⟨rfl, rfl⟩ (o := 6) rfl) (cs := [.int .i64 p0.P.Obj, .int .i64 p0.P.Lo, .int .i64 p0.P.Hi, .int .i64 p0.P.Off])) (gT (d0 := 115) rfl rfl hb13 (pv (r_fa rfl Try.underlying46 rfl Try.sizeOf3 rfl) (gT (d0 := 115) rfl rfl hb13 (pv (r_ld rfl Try.isAgg3 (hS21.cell0 (i := 0) ⟨rfl, rfl⟩ (j := 3) rfl)) (gT (d0 := 115) rfl rfl hb13 (pv (r_fa rfl Try.underlying46 rfl Try.sizeOf26 rfl) (gT (d0 := 115) rfl rfl hb13 (pv (r_ldS rfl Try.isAgg26 Try.sizeOf26 rfl (hS21.cells0 (i := 0) ⟨rfl, rfl⟩ (o := 10) rfl) (cs := [.int .u32 p0.V.Num, .int .i64 p0.V.Ptr.Obj, .int .i64 p0.V.Ptr.Lo, .int .i64 p0.V.Ptr.Hi, .int .i64 p0.V.Ptr.Off, .bool p0.V.Is])) (gT (d0 := 115) rfl rfl hb13 (wl rfl (calS cf10 rfl (store_Store_Put_2_sim (p0 := p0.P) (p1 := p0.Size) (p2 := p0.V) (hS21.bun [1] [] rfl)  hx11) rfl fun v11 T12 w21 im22 rv11 => ?_))))))))))))))))
                            obtain ⟨rfl, hS22, _⟩ := rv11
                            have hS22 : Sep g T12 w21 [R] := hS22.unb
                            refine gT (d0 := 115) rfl rfl hb13 (pv (r_ib rfl rfl rfl) (pv (r_pkt rfl hb13 rfl) (pv (r_mb rfl) (?_))))
                            rcases Bool.eq_false_or_eq_true (y11 == 1) with hb14 | hb14
                            · have hm := ctrue hb14 hm
                              obtain ⟨y12, hx12, hm⟩ := bindS hm
                              refine gT (d0 := 126) rfl rfl hb14 (pv (r_mp rfl) (gT (d0 := 126) rfl rfl hb14 (wl rfl (calS cf17 rfl (store_Store_Count_sim  (hS22.bun [0] [] rfl)  hx12) rfl fun v12 T13 w22 im23 rv12 => ?_))))
                              obtain ⟨rfl, hS23, _⟩ := rv12
                              have hS23 : Sep g T13 w22 [R] := hS23.unb
                              refine gT (d0 := 126) rfl rfl hb14 (pv (r_ib rfl rfl rfl) (pv (r_pkt rfl hb14 rfl) (pv (r_zb rfl) (nil (t_thenR [(2, .bool (y12 == 0))] ⟨rfl, trivial⟩ fun J => ?_)))))
                              have hm := Option.some.inj hm
                              subst hm
                              exact rtn (ret1 rfl rfl ⟨_, rfl, _, (Im.trans im1 (Im.trans im2 (Im.trans im3 (Im.trans im4 (Im.trans im6 (Im.trans im7 (Im.trans im8 (Im.trans im9 (Im.trans im10 (Im.trans im11 (Im.trans im12 (Im.trans im13 (Im.trans im14 (Im.trans im15 (Im.trans im16 (Im.trans im17 (Im.trans im18 (Im.trans im19 (Im.trans im20 (Im.trans im21 (Im.trans im22 im23))))))))))))))))))))), ⟨rfl, hS23.sel [0] rfl, trivial⟩⟩)
                            · have hm := cfalse hb14 hm
                              refine gF (d0 := 126) rfl rfl (by rw [hb14]; rfl) (gF (d0 := 126) rfl rfl (by rw [hb14]; rfl) (gF (d0 := 126) rfl rfl (by rw [hb14]; rfl) (pv (r_pkf rfl hb14 rfl) (pv (r_zb rfl) (nil (t_thenR [(2, .bool false)] ⟨rfl, trivial⟩ fun J => ?_))))))
                              have hm := Option.some.inj hm
                              subst hm
                              exact rtn (ret1 rfl rfl ⟨_, rfl, _, (Im.trans im1 (Im.trans im2 (Im.trans im3 (Im.trans im4 (Im.trans im6 (Im.trans im7 (Im.trans im8 (Im.trans im9 (Im.trans im10 (Im.trans im11 (Im.trans im12 (Im.trans im13 (Im.trans im14 (Im.trans im15 (Im.trans im16 (Im.trans im17 (Im.trans im18 (Im.trans im19 (Im.trans im20 (Im.trans im21 im22)))))))))))))))))))), ⟨rfl, hS22.sel [0] rfl, trivial⟩⟩)
                          · have hm := cfalse hb13 hm
                            refine gF (d0 := 115) rfl rfl (by rw [hb13]; rfl) (gF (d0 := 115) rfl rfl (by rw [hb13]; rfl) (gF (d0 := 115) rfl rfl (by rw [hb13]; rfl) (gF (d0 := 115) rfl rfl (by rw [hb13]; rfl) (gF (d0 := 115) rfl rfl (by rw [hb13]; rfl) (gF (d0 := 115) rfl rfl (by rw [hb13]; rfl) (gF (d0 := 115) rfl rfl (by rw [hb13]; rfl) (gF (d0 := 115) rfl rfl (by rw [hb13]; rfl) (gF (d0 := 115) rfl rfl (by rw [hb13]; rfl) (pv (r_pkf rfl hb13 rfl) (pv (r_mb rfl) (gF (d0 := 126) rfl rfl rfl (gF (d0 := 126) rfl rfl rfl (gF (d0 := 126) rfl rfl rfl (pv (r_pkf rfl rfl rfl) (pv (r_zb rfl) (nil (t_thenR [(2, .bool false)] ⟨rfl, trivial⟩ fun J => ?_)))))))))))))))))
                            have hm := Option.some.inj hm
                            subst hm
                            exact rtn (ret1 rfl rfl ⟨_, rfl, _, (Im.trans im1 (Im.trans im2 (Im.trans im3 (Im.trans im4 (Im.trans im6 (Im.trans im7 (Im.trans im8 (Im.trans im9 (Im.trans im10 (Im.trans im11 (Im.trans im12 (Im.trans im13 (Im.trans im14 (Im.trans im15 (Im.trans im16 (Im.trans im17 (Im.trans im18 (Im.trans im19 (Im.trans im20 im21))))))))))))))))))), ⟨rfl, hS21.sel [1] rfl, trivial⟩⟩)
                        · have hm := cfalse hb12 hm
                          refine gF (d0 := 108) rfl rfl (by rw [hb12]; rfl) (gF (d0 := 108) rfl rfl (by rw [hb12]; rfl) (gF (d0 := 108) rfl rfl (by rw [hb12]; rfl) (gF (d0 := 108) rfl rfl (by rw [hb12]; rfl) (gF (d0 := 108) rfl rfl (by rw [hb12]; rfl) (pv (r_pkf rfl hb12 rfl) (pv (r_mb rfl) (gF (d0 := 115) rfl rfl rfl (gF (d0 := 115) rfl rfl rfl (gF (d0 := 115) rfl rfl rfl (gF (d0 := 115) rfl rfl rfl (gF (d0 := 115) rfl rfl rfl (gF (d0 := 115) rfl rfl rfl (gF (d0 := 115) rfl rfl rfl (gF (d0 := 115) rfl rfl rfl (gF (d0 := 115) rfl rfl rfl (pv (r_pkf rfl rfl rfl) (pv (r_mb rfl) (gF (d0 := 126) rfl rfl rfl (gF (d0 := 126) rfl rfl rfl (gF (d0 := 126) rfl rfl rfl (pv (r_pkf rfl rfl rfl) (pv (r_zb rfl) (nil (t_thenR [(2, .bool false)] ⟨rfl, trivial⟩ fun J => ?_))))))))))))))))))))))))
                          have hm := Option.some.inj hm
                          subst hm
                          exact rtn (ret1 rfl rfl ⟨_, rfl, _, (Im.trans im1 (Im.trans im2 (Im.trans im3 (Im.trans im4 (Im.trans im6 (Im.trans im7 (Im.trans im8 (Im.trans im9 (Im.trans im10 (Im.trans im11 (Im.trans im12 (Im.trans im13 (Im.trans im14 (Im.trans im15 (Im.trans im16 (Im.trans im17 (Im.trans im18 (Im.trans im19 im20)))))))))))))))))), ⟨rfl, hS20.sel [1] rfl, trivial⟩⟩)
                      · have hm := cfalse hb11 hm
                        refine gF (d0 := 101) rfl rfl (by rw [hb11]; rfl) (gF (d0 := 101) rfl rfl (by rw [hb11]; rfl) (gF (d0 := 101) rfl rfl (by rw [hb11]; rfl) (gF (d0 := 101) rfl rfl (by rw [hb11]; rfl) (gF (d0 := 101) rfl rfl (by rw [hb11]; rfl) (pv (r_pkf rfl hb11 rfl) (pv (r_mb rfl) (gF (d0 := 108) rfl rfl rfl (gF (d0 := 108) rfl rfl rfl (gF (d0 := 108) rfl rfl rfl (gF (d0 := 108) rfl rfl rfl (gF (d0 := 108) rfl rfl rfl (pv (r_pkf rfl rfl rfl) (pv (r_mb rfl) (gF (d0 := 115) rfl rfl rfl (gF (d0 := 115) rfl rfl rfl (gF (d0 := 115) rfl rfl rfl (gF (d0 := 115) rfl rfl rfl (gF (d0 := 115) rfl rfl rfl (gF (d0 := 115) rfl rfl rfl (gF (d0 := 115) rfl rfl rfl (gF (d0 := 115) rfl rfl rfl (gF (d0 := 115) rfl rfl rfl (pv (r_pkf rfl rfl rfl) (pv (r_mb rfl) (gF (d0 := 126) rfl rfl rfl (gF (d0 := 126) rfl rfl rfl (gF (d0 := 126) rfl rfl rfl (pv (r_pkf rfl rfl rfl) (pv (r_zb rfl) (nil (t_thenR [(2, .bool false)] ⟨rfl, trivial⟩ fun J => ?_)))))))))))))))))))))))))))))))
                        have hm := Option.some.inj hm
                        subst hm
                        exact rtn (ret1 rfl rfl ⟨_, rfl, _, (Im.trans im1 (Im.trans im2 (Im.trans im3 (Im.trans im4 (Im.trans im6 (Im.trans im7 (Im.trans im8 (Im.trans im9 (Im.trans im10 (Im.trans im11 (Im.trans im12 (Im.trans im13 (Im.trans im14 (Im.trans im15 (Im.trans im16 (Im.trans im17 (Im.trans im18 im19))))))))))))))))), ⟨rfl, hS19.sel [1] rfl, trivial⟩⟩)
                    · have hm := cfalse hb10 hm
                      refine gF (d0 := 92) rfl rfl (by rw [hb10]; rfl) (gF (d0 := 92) rfl rfl (by rw [hb10]; rfl) (gF (d0 := 92) rfl rfl (by rw [hb10]; rfl) (gF (d0 := 92) rfl rfl (by rw [hb10]; rfl) (gF (d0 := 92) rfl rfl (by rw [hb10]; rfl) (gF (d0 := 92) rfl rfl (by rw [hb10]; rfl) (gF (d0 := 92) rfl rfl (by rw [hb10]; rfl) (pv (r_pkf rfl hb10 rfl) (pv (r_mb rfl) (gF (d0 := 101) rfl rfl rfl (gF (d0 := 101) rfl rfl rfl (gF (d0 := 101) rfl rfl rfl (gF (d0 := 101) rfl rfl rfl (gF (d0 := 101) rfl rfl rfl (pv (r_pkf rfl rfl rfl) (pv (r_mb rfl) (gF (d0 := 108) rfl rfl rfl (gF (d0 := 108) rfl rfl rfl (gF (d0 := 108) rfl rfl rfl (gF (d0 := 108) rfl rfl rfl (gF (d0 := 108) rfl rfl rfl (pv (r_pkf rfl rfl rfl) (pv (r_mb rfl) (gF (d0 := 115) rfl rfl rfl (gF (d0 := 115) rfl rfl rfl (gF (d0 := 115) rfl rfl rfl (gF (d0 := 115) rfl rfl rfl (gF (d0 := 115) rfl rfl rfl (gF (d0 := 115) rfl rfl rfl (gF (d0 := 115) rfl rfl rfl (gF (d0 := 115) rfl rfl rfl (gF (d0 := 115) rfl rfl rfl (pv (r_pkf rfl rfl rfl) (pv (r_mb rfl) (gF (d0 := 126) rfl rfl rfl (gF (d0 := 126) rfl rfl rfl (gF (d0 := 126) rfl rfl rfl (pv (r_pkf rfl rfl rfl) (pv (r_zb rfl) (nil (t_thenR [(2, .bool false)] ⟨rfl, trivial⟩ fun J => ?_))))))))))))))))))))))))))))))))))))))))
                      have hm := Option.some.inj hm
                      subst hm
                      exact rtn (ret1 rfl rfl ⟨_, rfl, _, (Im.trans im1 (Im.trans im2 (Im.trans im3 (Im.trans im4 (Im.trans im6 (Im.trans im7 (Im.trans im8 (Im.trans im9 (Im.trans im10 (Im.trans im11 (Im.trans im12 (Im.trans im13 (Im.trans im14 (Im.trans im15 (Im.trans im16 (Im.trans im17 im18)))))))))))))))), ⟨rfl, hS18.sel [5] rfl, trivial⟩⟩)
                  · have hm := cfalse hb9 hm
                    refine gF (d0 := 88) rfl rfl (by rw [hb9]; rfl) (gF (d0 := 88) rfl rfl (by rw [hb9]; rfl) (pv (r_pkf rfl hb9 rfl) (pv (r_mb rfl) (gF (d0 := 92) rfl rfl rfl (gF (d0 := 92) rfl rfl rfl (gF (d0 := 92) rfl rfl rfl (gF (d0 := 92) rfl rfl rfl (gF (d0 := 92) rfl rfl rfl (gF (d0 := 92) rfl rfl rfl (gF (d0 := 92) rfl rfl rfl (pv (r_pkf rfl rfl rfl) (pv (r_mb rfl) (gF (d0 := 101) rfl rfl rfl (gF (d0 := 101) rfl rfl rfl (gF (d0 := 101) rfl rfl rfl (gF (d0 := 101) rfl rfl rfl (gF (d0 := 101) rfl rfl rfl (pv (r_pkf rfl rfl rfl) (pv (r_mb rfl) (gF (d0 := 108) rfl rfl rfl (gF (d0 := 108) rfl rfl rfl (gF (d0 := 108) rfl rfl rfl (gF (d0 := 108) rfl rfl rfl (gF (d0 := 108) rfl rfl rfl (pv (r_pkf rfl rfl rfl) (pv (r_mb rfl) (gF (d0 := 115) rfl rfl rfl (gF (d0 := 115) rfl rfl rfl (gF (d0 := 115) rfl rfl rfl (gF (d0 := 115) rfl rfl rfl (gF (d0 := 115) rfl rfl rfl (gF (d0 := 115) rfl rfl rfl (gF (d0 := 115) rfl rfl rfl (gF (d0 := 115) rfl rfl rfl (gF (d0 := 115) rfl rfl rfl (pv (r_pkf rfl rfl rfl) (pv (r_mb rfl) (gF (d0 := 126) rfl rfl rfl (gF (d0 := 126) rfl rfl rfl (gF (d0 := 126) rfl rfl rfl (pv (r_pkf rfl rfl rfl) (pv (r_zb rfl) (nil (t_thenR [(2, .bool false)] ⟨rfl, trivial⟩ fun J => ?_))))))))))))))))))))))))))))))))))))))))))))
                    have hm := Option.some.inj hm
                    subst hm
                    exact rtn (ret1 rfl rfl ⟨_, rfl, _, (Im.trans im1 (Im.trans im2 (Im.trans im3 (Im.trans im4 (Im.trans im6 (Im.trans im7 (Im.trans im8 (Im.trans im9 (Im.trans im10 (Im.trans im11 (Im.trans im12 (Im.trans im13 (Im.trans im14 (Im.trans im15 (Im.trans im16 (Im.trans im17 im18)))))))))))))))), ⟨rfl, hS18.sel [5] rfl, trivial⟩⟩)
                · have hm := cfalse hb8 hm
                  refine gF (d0 := 83) rfl rfl (by rw [hb8]; rfl) (gF (d0 := 83) rfl rfl (by rw [hb8]; rfl) (gF (d0 := 83) rfl rfl (by rw [hb8]; rfl) (pv (r_pkf rfl hb8 rfl) (pv (r_mb rfl) (gF (d0 := 88) rfl rfl rfl (gF (d0 := 88) rfl rfl rfl (pv (r_pkf rfl rfl rfl) (pv (r_mb rfl) (gF (d0 := 92) rfl rfl rfl (gF (d0 := 92) rfl rfl rfl (gF (d0 := 92) rfl rfl rfl (gF (d0 := 92) rfl rfl rfl (gF (d0 := 92) rfl rfl rfl (gF (d0 := 92) rfl rfl rfl (gF (d0 := 92) rfl rfl rfl (pv (r_pkf rfl rfl rfl) (pv (r_mb rfl) (gF (d0 := 101) rfl rfl rfl (gF (d0 := 101) rfl rfl rfl (gF (d0 := 101) rfl rfl rfl (gF (d0 := 101) rfl rfl rfl (gF (d0 := 101) rfl rfl rfl (pv (r_pkf rfl rfl rfl) (pv (r_mb rfl) (gF (d0 := 108) rfl rfl rfl (gF (d0 := 108) rfl rfl rfl (gF (d0 := 108) rfl rfl rfl (gF (d0 := 108) rfl rfl rfl (gF (d0 := 108) rfl rfl rfl (pv (r_pkf rfl rfl rfl) (pv (r_mb rfl) (gF (d0 := 115) rfl rfl rfl (gF (d0 := 115) rfl rfl rfl (gF (d0 := 115) rfl rfl rfl (gF (d0 := 115) rfl rfl rfl (gF (d0 := 115) rfl rfl rfl (gF (d0 := 115) rfl rfl rfl (gF (d0 := 115) rfl rfl rfl (gF (d0 := 115) rfl rfl rfl (gF (d0 := 115) rfl rfl rfl (pv (r_pkf rfl rfl rfl) (pv (r_mb rfl) (gF (d0 := 126) rfl rfl rfl (gF (d0 := 126) rfl rfl rfl (gF (d0 := 126) rfl rfl rfl (pv (r_pkf rfl rfl rfl) (pv (r_zb rfl) (nil (t_thenR [(2, .bool false)] ⟨rfl, trivial⟩ fun J => ?_)))))))))))))))))))))))))))))))))))))))))))))))))
                  have hm := Option.some.inj hm
                  subst hm
                  exact rtn (ret1 rfl rfl ⟨_, rfl, _, (Im.trans im1 (Im.trans im2 (Im.trans im3 (Im.trans im4 (Im.trans im6 (Im.trans im7 (Im.trans im8 (Im.trans im9 (Im.trans im10 (Im.trans im11 (Im.trans im12 (Im.trans im13 (Im.trans im14 (Im.trans im15 (Im.trans im16 (Im.trans im17 im18)))))))))))))))), ⟨rfl, hS18.sel [5] rfl, trivial⟩⟩)
              · have hm := cfalse hb7 hm
                refine gF (d0 := 79) rfl rfl (by rw [hb7]; rfl) (gF (d0 := 79) rfl rfl (by rw [hb7]; rfl) (pv (r_pkf rfl hb7 rfl) (pv (r_mb rfl) (gF (d0 := 83) rfl rfl rfl (gF (d0 := 83) rfl rfl rfl (gF (d0 := 83) rfl rfl rfl (pv (r_pkf rfl rfl rfl) (pv (r_mb rfl) (gF (d0 := 88) rfl rfl rfl (gF (d0 := 88) rfl rfl rfl (pv (r_pkf rfl rfl rfl) (pv (r_mb rfl) (gF (d0 := 92) rfl rfl rfl (gF (d0 := 92) rfl rfl rfl (gF (d0 := 92) rfl rfl rfl (gF (d0 := 92) rfl rfl rfl (gF (d0 := 92) rfl rfl rfl (gF (d0 := 92) rfl rfl rfl (gF (d0 := 92) rfl rfl rfl (pv (r_pkf rfl rfl rfl) (pv (r_mb rfl) (gF (d0 := 101) rfl rfl rfl (gF (d0 := 101) rfl rfl rfl (gF (d0 := 101) rfl rfl rfl (gF (d0 := 101) rfl rfl rfl (gF (d0 := 101) rfl rfl rfl (pv (r_pkf rfl rfl rfl) (pv (r_mb rfl) (gF (d0 := 108) rfl rfl rfl (gF (d0 := 108) rfl rfl rfl (gF (d0 := 108) rfl rfl rfl (gF (d0 := 108) rfl rfl rfl (gF (d0 := 108) rfl rfl rfl (pv (r_pkf rfl rfl rfl) (pv (r_mb rfl) (gF (d0 := 115) rfl rfl rfl (gF (d0 := 115) rfl rfl rfl (gF (d0 := 115) rfl rfl rfl (gF (d0 := 115) rfl rfl rfl (gF (d0 := 115) rfl rfl rfl (gF (d0 := 115) rfl rfl rfl (gF (d0 := 115) rfl rfl rfl (gF (d0 := 115) rfl rfl rfl (gF (d0 := 115) rfl rfl rfl (pv (r_pkf rfl rfl rfl) (pv (r_mb rfl) (gF (d0 := 126) rfl rfl rfl (gF (d0 := 126) rfl rfl rfl (gF (d0 := 126) rfl rfl rfl (pv (r_pkf rfl rfl rfl) (pv (r_zb rfl) (nil (t_thenR [(2, .bool false)] ⟨rfl, trivial⟩ fun J => ?_)))))))))))))))))))))))))))))))))))))))))))))))))))))
                have hm := Option.some.inj hm
                subst hm
                exact rtn (ret1 rfl rfl ⟨_, rfl, _, (Im.trans im1 (Im.trans im2 (Im.trans im3 (Im.trans im4 (Im.trans im6 (Im.trans im7 (Im.trans im8 (Im.trans im9 (Im.trans im10 (Im.trans im11 (Im.trans im12 (Im.trans im13 (Im.trans im14 (Im.trans im15 (Im.trans im16 (Im.trans im17 im18)))))))))))))))), ⟨rfl, hS18.sel [5] rfl, trivial⟩⟩)
            · have hm := cfalse hb6 hm
              refine gF (d0 := 74) rfl rfl (by rw [hb6]; rfl) (gF (d0 := 74) rfl rfl (by rw [hb6]; rfl) (gF (d0 := 74) rfl rfl (by rw [hb6]; rfl) (pv (r_pkf rfl hb6 rfl) (pv (r_mb rfl) (gF (d0 := 79) rfl rfl rfl (gF (d0 := 79) rfl rfl rfl (pv (r_pkf rfl rfl rfl) (pv (r_mb rfl) (gF (d0 := 83) rfl rfl rfl (gF (d0 := 83) rfl rfl rfl (gF (d0 := 83) rfl rfl rfl (pv (r_pkf rfl rfl rfl) (pv (r_mb rfl) (gF (d0 := 88) rfl rfl rfl (gF (d0 := 88) rfl rfl rfl (pv (r_pkf rfl rfl rfl) (pv (r_mb rfl) (gF (d0 := 92) rfl rfl rfl (gF (d0 := 92) rfl rfl rfl (gF (d0 := 92) rfl rfl rfl (gF (d0 := 92) rfl rfl rfl (gF (d0 := 92) rfl rfl rfl (gF (d0 := 92) rfl rfl rfl (gF (d0 := 92) rfl rfl rfl (pv (r_pkf rfl rfl rfl) (pv (r_mb rfl) (gF (d0 := 101) rfl rfl rfl (gF (d0 := 101) rfl rfl rfl (gF (d0 := 101) rfl rfl rfl (gF (d0 := 101) rfl rfl rfl (gF (d0 := 101) rfl rfl rfl (pv (r_pkf rfl rfl rfl) (pv (r_mb rfl) (gF (d0 := 108) rfl rfl rfl (gF (d0 := 108) rfl rfl rfl (gF (d0 := 108) rfl rfl rfl (gF (d0 := 108) rfl rfl rfl (gF (d0 := 108) rfl rfl rfl (pv (r_pkf rfl rfl rfl) (pv (r_mb rfl) (gF (d0 := 115) rfl rfl rfl (gF (d0 := 115) rfl rfl rfl (gF (d0 := 115) rfl rfl rfl (gF (d0 := 115) rfl rfl rfl (gF (d0 := 115) rfl rfl rfl (gF (d0 := 115) rfl rfl rfl (gF (d0 := 115) rfl rfl rfl (gF (d0 := 115) rfl rfl rfl (gF (d0 := 115) rfl rfl rfl (pv (r_pkf rfl rfl rfl) (pv (r_mb rfl) (gF (d0 := 126) rfl rfl rfl (gF (d0 := 126) rfl rfl rfl (gF (d0 := 126) rfl rfl rfl (pv (r_pkf rfl rfl rfl) (pv (r_zb rfl) (nil (t_thenR [(2, .bool false)] ⟨rfl, trivial⟩ fun J => ?_))))))))))))))))))))))))))))))))))))))))))))))))))))))))))
              have hm := Option.some.inj hm
              subst hm
              exact rtn (ret1 rfl rfl ⟨_, rfl, _, (Im.trans im1 (Im.trans im2 (Im.trans im3 (Im.trans im4 (Im.trans im6 (Im.trans im7 (Im.trans im8 (Im.trans im9 (Im.trans im10 (Im.trans im11 (Im.trans im12 (Im.trans im13 (Im.trans im14 (Im.trans im15 (Im.trans im16 (Im.trans im17 im18)))))))))))))))), ⟨rfl, hS18.sel [5] rfl, trivial⟩⟩)
          · have hm := cfalse hb5 hm
            refine gF (d0 := 70) rfl rfl (by rw [hb5]; rfl) (gF (d0 := 70) rfl rfl (by rw [hb5]; rfl) (pv (r_pkf rfl hb5 rfl) (pv (r_mb rfl) (gF (d0 := 74) rfl rfl rfl (gF (d0 := 74) rfl rfl rfl (gF (d0 := 74) rfl rfl rfl (pv (r_pkf rfl rfl rfl) (pv (r_mb rfl) (gF (d0 := 79) rfl rfl rfl (gF (d0 := 79) rfl rfl rfl (pv (r_pkf rfl rfl rfl) (pv (r_mb rfl) (gF (d0 := 83) rfl rfl rfl (gF (d0 := 83) rfl rfl rfl (gF (d0 := 83) rfl rfl rfl (pv (r_pkf rfl rfl rfl) (pv (r_mb rfl) (gF (d0 := 88) rfl rfl rfl (gF (d0 := 88) rfl rfl rfl (pv (r_pkf rfl rfl rfl) (pv (r_mb rfl) (gF (d0 := 92) rfl rfl rfl (gF (d0 := 92) rfl rfl rfl (gF (d0 := 92) rfl rfl rfl (gF (d0 := 92) rfl rfl rfl (gF (d0 := 92) rfl rfl rfl (gF (d0 := 92) rfl rfl rfl (gF (d0 := 92) rfl rfl rfl (pv (r_pkf rfl rfl rfl) (pv (r_mb rfl) (gF (d0 := 101) rfl rfl rfl (gF (d0 := 101) rfl rfl rfl (gF (d0 := 101) rfl rfl rfl (gF (d0 := 101) rfl rfl rfl (gF (d0 := 101) rfl rfl rfl (pv (r_pkf rfl rfl rfl) (pv (r_mb rfl) (gF (d0 := 108) rfl rfl rfl (gF (d0 := 108) rfl rfl rfl (gF (d0 := 108) rfl rfl rfl (gF (d0 := 108) rfl rfl rfl (gF (d0 := 108) rfl rfl rfl (pv (r_pkf rfl rfl rfl) (pv (r_mb rfl) (gF (d0 := 115) rfl rfl rfl (gF (d0 := 115) rfl rfl rfl (gF (d0 := 115) rfl rfl rfl (gF (d0 := 115) rfl rfl rfl (gF (d0 := 115) rfl rfl rfl (gF (d0 := 115) rfl rfl rfl (gF (d0 := 115) rfl rfl rfl (gF (d0 := 115) rfl rfl rfl (gF (d0 := 115) rfl rfl rfl (pv (r_pkf rfl rfl rfl) (pv (r_mb rfl) (gF (d0 := 126) rfl rfl rfl (gF (d0 := 126) rfl rfl rfl (gF (d0 := 126) rfl rfl rfl (pv (r_pkf rfl rfl rfl) (pv (r_zb rfl) (nil (t_thenR [(2, .bool false)] ⟨rfl, trivial⟩ fun J => ?_))))))))))))))))))))))))))))))))))))))))))))))))))))))))))))))
            have hm := Option.some.inj hm
            subst hm
            exact rtn (ret1 rfl rfl ⟨_, rfl, _, (Im.trans im1 (Im.trans im2 (Im.trans im3 (Im.trans im4 (Im.trans im6 (Im.trans im7 (Im.trans im8 (Im.trans im9 (Im.trans im10 (Im.trans im11 (Im.trans im12 (Im.trans im13 (Im.trans im14 (Im.trans im15 (Im.trans im16 (Im.trans im17 im18)))))))))))))))), ⟨rfl, hS18.sel [5] rfl, trivial⟩⟩)
        · have hm := cfalse hb4 hm
          refine gF (d0 := 65) rfl rfl (by rw [hb4]; rfl) (gF (d0 := 65) rfl rfl (by rw [hb4]; rfl) (gF (d0 := 65) rfl rfl (by rw [hb4]; rfl) (pv (r_pkf rfl hb4 rfl) (pv (r_mb rfl) (gF (d0 := 70) rfl rfl rfl (gF (d0 := 70) rfl rfl rfl (pv (r_pkf rfl rfl rfl) (pv (r_mb rfl) (gF (d0 := 74) rfl rfl rfl (gF (d0 := 74) rfl rfl rfl (gF (d0 := 74) rfl rfl rfl (pv (r_pkf rfl rfl rfl) (pv (r_mb rfl) (gF (d0 := 79) rfl rfl rfl (gF (d0 := 79) rfl rfl rfl (pv (r_pkf rfl rfl rfl) (pv (r_mb rfl) (gF (d0 := 83) rfl rfl rfl (gF (d0 := 83) rfl rfl rfl (gF (d0 := 83) rfl rfl rfl (pv (r_pkf rfl rfl rfl) (pv (r_mb rfl) (gF (d0 := 88) rfl rfl rfl (gF (d0 := 88) rfl rfl rfl (pv (r_pkf rfl rfl rfl) (pv (r_mb rfl) (gF (d0 := 92) rfl rfl rfl (gF (d0 := 92) rfl rfl rfl (gF (d0 := 92) rfl rfl rfl (gF (d0 := 92) rfl rfl rfl (gF (d0 := 92) rfl rfl rfl (gF (d0 := 92) rfl rfl rfl (gF (d0 := 92) rfl rfl rfl (pv (r_pkf rfl rfl rfl) (pv (r_mb rfl) (gF (d0 := 101) rfl rfl rfl (gF (d0 := 101) rfl rfl rfl (gF (d0 := 101) rfl rfl rfl (gF (d0 := 101) rfl rfl rfl (gF (d0 := 101) rfl rfl rfl (pv (r_pkf rfl rfl rfl) (pv (r_mb rfl) (gF (d0 := 108) rfl rfl rfl (gF (d0 := 108) rfl rfl rfl (gF (d0 := 108) rfl rfl rfl (gF (d0 := 108) rfl rfl rfl (gF (d0 := 108) rfl rfl rfl (pv (r_pkf rfl rfl rfl) (pv (r_mb rfl) (gF (d0 := 115) rfl rfl rfl (gF (d0 := 115) rfl rfl rfl (gF (d0 := 115) rfl rfl rfl (gF (d0 := 115) rfl rfl rfl (gF (d0 := 115) rfl rfl rfl (gF (d0 := 115) rfl rfl rfl (gF (d0 := 115) rfl rfl rfl (gF (d0 := 115) rfl rfl rfl (gF (d0 := 115) rfl rfl rfl (pv (r_pkf rfl rfl rfl) (pv (r_mb rfl) (gF (d0 := 126) rfl rfl rfl (gF (d0 := 126) rfl rfl rfl (gF (d0 := 126) rfl rfl rfl (pv (r_pkf rfl rfl rfl) (pv (r_zb rfl) (nil (t_thenR [(2, .bool false)] ⟨rfl, trivial⟩ fun J => ?_)))))))))))))))))))))))))))))))))))))))))))))))))))))))))))))))))))
          have hm := Option.some.inj hm
          subst hm
          exact rtn (ret1 rfl rfl ⟨_, rfl, _, (Im.trans im1 (Im.trans im2 (Im.trans im3 (Im.trans im4 (Im.trans im6 (Im.trans im7 (Im.trans im8 (Im.trans im9 (Im.trans im10 (Im.trans im11 (Im.trans im12 (Im.trans im13 (Im.trans im14 (Im.trans im15 (Im.trans im16 (Im.trans im17 im18)))))))))))))))), ⟨rfl, hS18.sel [5] rfl, trivial⟩⟩)
      · have hm := cfalse hb3 hm
        refine gF (d0 := 61) rfl rfl (by rw [hb3]; rfl) (gF (d0 := 61) rfl rfl (by rw [hb3]; rfl) (pv (r_pkf rfl hb3 rfl) (pv (r_mb rfl) (gF (d0 := 65) rfl rfl rfl (gF (d0 := 65) rfl rfl rfl (gF (d0 := 65) rfl rfl rfl (pv (r_pkf rfl rfl rfl) (pv (r_mb rfl) (gF (d0 := 70) rfl rfl rfl (gF (d0 := 70) rfl rfl rfl (pv (r_pkf rfl rfl rfl) (pv (r_mb rfl) (gF (d0 := 74) rfl rfl rfl (gF (d0 := 74) rfl rfl rfl (gF (d0 := 74) rfl rfl rfl (pv (r_pkf rfl rfl rfl) (pv (r_mb rfl) (gF (d0 := 79) rfl rfl rfl (gF (d0 := 79) rfl rfl rfl (pv (r_pkf rfl rfl rfl) (pv (r_mb rfl) (gF (d0 := 83) rfl rfl rfl (gF (d0 := 83) rfl rfl rfl (gF (d0 := 83) rfl rfl rfl (pv (r_pkf rfl rfl rfl) (pv (r_mb rfl) (gF (d0 := 88) rfl rfl rfl (gF (d0 := 88) rfl rfl rfl (pv (r_pkf rfl rfl rfl) (pv (r_mb rfl) (gF (d0 := 92) rfl rfl rfl (gF (d0 := 92) rfl rfl rfl (gF (d0 := 92) rfl rfl rfl (gF (d0 := 92) rfl rfl rfl (gF (d0 := 92) rfl rfl rfl (gF (d0 := 92) rfl rfl rfl (gF (d0 := 92) rfl rfl rfl (pv (r_pkf rfl rfl rfl) (pv (r_mb rfl) (gF (d0 := 101) rfl rfl rfl (gF (d0 := 101) rfl rfl rfl (gF (d0 := 101) rfl rfl rfl (gF (d0 := 101) rfl rfl rfl (gF (d0 := 101) rfl rfl rfl (pv (r_pkf rfl rfl rfl) (pv (r_mb rfl) (gF (d0 := 108) rfl rfl rfl (gF (d0 := 108) rfl rfl rfl (gF (d0 := 108) rfl rfl rfl (gF (d0 := 108) rfl rfl rfl (gF (d0 := 108) rfl rfl rfl (pv (r_pkf rfl rfl rfl) (pv (r_mb rfl) (gF (d0 := 115) rfl rfl rfl (gF (d0 := 115) rfl rfl rfl (gF (d0 := 115) rfl rfl rfl (gF (d0 := 115) rfl rfl rfl (gF (d0 := 115) rfl rfl rfl (gF (d0 := 115) rfl rfl rfl (gF (d0 := 115) rfl rfl rfl (gF (d0 := 115) rfl rfl rfl (gF (d0 := 115) rfl rfl rfl (pv (r_pkf rfl rfl rfl) (pv (r_mb rfl) (gF (d0 := 126) rfl rfl rfl (gF (d0 := 126) rfl rfl rfl (gF (d0 := 126) rfl rfl rfl (pv (r_pkf rfl rfl rfl) (pv (r_zb rfl) (nil (t_thenR [(2, .bool false)] ⟨rfl, trivial⟩ fun J => ?_)))))))))))))))))))))))))))))))))))))))))))))))))))))))))))))))))))))))
        have hm := Option.some.inj hm
        subst hm
        exact rtn (ret1 rfl rfl ⟨_, rfl, _, (Im.trans im1 (Im.trans im2 (Im.trans im3 (Im.trans im4 (Im.trans im6 (Im.trans im7 (Im.trans im8 (Im.trans im9 (Im.trans im10 (Im.trans im11 (Im.trans im12 (Im.trans im13 (Im.trans im14 (Im.trans im15 (Im.trans im16 (Im.trans im17 im18)))))))))))))))), ⟨rfl, hS18.sel [5] rfl, trivial⟩⟩)
    · have hm := cfalse hb2 hm
      refine gF (d0 := 56) rfl rfl (by rw [hb2]; rfl) (gF (d0 := 56) rfl rfl (by rw [hb2]; rfl) (gF (d0 := 56) rfl rfl (by rw [hb2]; rfl) (pv (r_pkf rfl hb2 rfl) (pv (r_mb rfl) (gF (d0 := 61) rfl rfl rfl (gF (d0 := 61) rfl rfl rfl (pv (r_pkf rfl rfl rfl) (pv (r_mb rfl) (gF (d0 := 65) rfl rfl rfl (gF (d0 := 65) rfl rfl rfl (gF (d0 := 65) rfl rfl rfl (pv (r_pkf rfl rfl rfl) (pv (r_mb rfl) (gF (d0 := 70) rfl rfl rfl (gF (d0 := 70) rfl rfl rfl (pv (r_pkf rfl rfl rfl) (pv (r_mb rfl) (gF (d0 := 74) rfl rfl rfl (gF (d0 := 74) rfl rfl rfl (gF (d0 := 74) rfl rfl rfl (pv (r_pkf rfl rfl rfl) (pv (r_mb rfl) (gF (d0 := 79) rfl rfl rfl (gF (d0 := 79) rfl rfl rfl (pv (r_pkf rfl rfl rfl) (pv (r_mb rfl) (gF (d0 := 83) rfl rfl rfl (gF (d0 := 83) rfl rfl rfl (gF (d0 := 83) rfl rfl rfl (pv (r_pkf rfl rfl rfl) (pv (r_mb rfl) (gF (d0 := 88) rfl rfl rfl (gF (d0 := 88) rfl rfl rfl (pv (r_pkf rfl rfl rfl) (pv (r_mb rfl) (gF (d0 := 92) rfl rfl rfl (gF (d0 := 92) rfl rfl rfl (gF (d0 := 92) rfl rfl rfl (gF (d0 := 92) rfl rfl rfl (gF (d0 := 92) rfl rfl rfl (gF (d0 := 92) rfl rfl rfl (gF (d0 := 92) rfl rfl rfl (pv (r_pkf rfl rfl rfl) (pv (r_mb rfl) (gF (d0 := 101) rfl rfl rfl (gF (d0 := 101) rfl rfl rfl (gF (d0 := 101) rfl rfl rfl (gF (d0 := 101) rfl rfl rfl (gF (d0 := 101) rfl rfl rfl (pv (r_pkf rfl rfl rfl) (pv (r_mb rfl) (gF (d0 := 108) rfl rfl rfl (gF (d0 := 108) rfl rfl rfl (gF (d0 := 108) rfl rfl rfl (gF (d0 := 108) rfl rfl rfl (gF (d0 := 108) rfl rfl rfl (pv (r_pkf rfl rfl rfl) (pv (r_mb rfl) (gF (d0 := 115) rfl rfl rfl (gF (d0 := 115) rfl rfl rfl (gF (d0 := 115) rfl rfl rfl (gF (d0 := 115) rfl rfl rfl (gF (d0 := 115) rfl rfl rfl (gF (d0 := 115) rfl rfl rfl (gF (d0 := 115) rfl rfl rfl (gF (d0 := 115) rfl rfl rfl (gF (d0 := 115) rfl rfl rfl (pv (r_pkf rfl rfl rfl) (pv (r_mb rfl) (gF (d0 := 126) rfl rfl rfl (gF (d0 := 126) rfl rfl rfl (gF (d0 := 126) rfl rfl rfl (pv (r_pkf rfl rfl rfl) (pv (r_zb rfl) (nil (t_thenR [(2, .bool false)] ⟨rfl, trivial⟩ fun J => ?_))))))))))))))))))))))))))))))))))))))))))))))))))))))))))))))))))))))))))))
      have hm := Option.some.inj hm
      subst hm
      exact rtn (ret1 rfl rfl ⟨_, rfl, _, (Im.trans im1 (Im.trans im2 (Im.trans im3 (Im.trans im4 (Im.trans im6 (Im.trans im7 (Im.trans im8 (Im.trans im9 (Im.trans im10 (Im.trans im11 (Im.trans im12 (Im.trans im13 (Im.trans im14 (Im.trans im15 (Im.trans im16 (Im.trans im17 im18)))))))))))))))), ⟨rfl, hS18.sel [5] rfl, trivial⟩⟩)
end Go.Proofs.Ytncfbaodlbgabaa
