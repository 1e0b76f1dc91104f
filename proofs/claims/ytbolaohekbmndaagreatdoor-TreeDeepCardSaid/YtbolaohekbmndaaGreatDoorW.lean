/- That Go functions compute their models. Printed by gen2.py. -/
import Derived.Test.YtbolaohekbmndaaGreatDoorWc
set_option linter.unusedVariables false
namespace Go.Proofs.YtbolaohekbmndaaGreatDoor
open _root_.Go.Proofs.Tryz
set_option maxRecDepth 100000
set_option maxHeartbeats 8000000
attribute [local irreducible] wpList wpQuiet Code.wp
variable {g : World} {T0 : Nat → Prop} {w0 : World} {R : Assn}

theorem tree_writer_variable_sim {p0 : TreeWriter} {b_p0 o_p0 : Nat} {H_p0 : List Value → Assn} {a1 : OA} {n1 : Nat} {c1 : Nat} {p1 : GVar} {a2 : OA} {c2 : Nat} {a3 : OA} {c3 : Nat} {r : TreeWriter} (hS : Sep g T0 w0 [R, H_p0 [.slice a1 n1 c1], ownA rStr 9 (.slice a1 n1 c1) p0.l]) (hL_p0 : Ln b_p0 o_p0 H_p0) (h1 : SlR (rInt .u32) T0 w0 (sv a2 p1.Dims c2) p1.Dims) (h2 : SlR rGExpr T0 w0 (sv a3 p1.Init c3) p1.Init) (hG1 : Gc T0 w0 1 (Lib.pow10Tab.map fun z => Value.int .u64 z)) (hm : tree_writer_variable p0 p1 = some r) :
    Calls Tryz.prog 23 #[pt b_p0 o_p0, .agg (cGVar p1 a2 c2 a3 c3).toArray] w0 (RetS T0 w0 fun T w v => ∃ (a21 : OA) (n19 : Nat) (c21 : Nat), v = .tuple #[] ∧ Sep g T w [R, H_p0 [.slice a21 n19 c21], ownA rStr 9 (.slice a21 n19 c21) r.l] ∧ True) := by
  refine enter (args := [pt b_p0 o_p0, .agg (cGVar p1 a2 c2 a3 c3).toArray]) Tryz.func23 rfl Tryz.ntmps23 rfl fun J => ?_
  unfold tree_writer_variable at hm
  refine sq2 (rg (wl rfl (bxS (cs := (cGVar p1 a2 c2 a3 c3)) rfl rfl hS fun w1 b1 im1 hS1 => ?_)))
  refine nil (t_then ?_)
  refine sq2 ?_
  obtain ⟨y1, hx1, hm⟩ := bindS hm
  refine rg (pv (r_mp rfl) (pv (r_fa rfl underlying58 rfl sizeOf54 rfl) (pv (r_ldS rfl isAgg54 sizeOf54 rfl (hS1.cells0 (i := 0) ⟨rfl, rfl⟩ (o := 2) rfl) (cs := (cTypeName p1.Type_))) (wl rfl (calS cf24 rfl (tree_writer_typeName_sim (p0 := p0) (H_p0 := H_p0) (p1 := p1.Type_) (hS1.bun [0, 1] [2, 3] rfl) hL_p0 hx1) rfl fun v1 T1 w2 im2 rv1 => ?_)))))
  obtain ⟨a4, n2, c4, rfl, hS2, _⟩ := rv1
  have hS2 := hS2.unb
  refine nil (t_then ?_)
  refine sq2 (rg (pv (r_mp rfl) (pv (r_fa rfl underlying58 rfl sizeOf9 rfl) (pv (r_ld rfl isAgg9 (hS2.cell0 (i := 0) ⟨rfl, rfl⟩ (j := 5) rfl)) (wl rfl (bsS (r := rStr) (l := ([p1.Name] : List (List UInt8))) (css := [[.string ⟨p1.Name.toArray⟩]]) hS2 underlying74 sizeOf9 zeroValue9 rfl rfl (by kernel_rfl) rfl ⟨rfl, trivial⟩ rfl rfl fun w3 a5 n3 c5 im3 hS3 => ?_))))))
  obtain ⟨T2, im4, hS4, h3⟩ := hS3.seal 0 ⟨rfl, rfl⟩
  have hsh := h3.len
  subst hsh
  obtain ⟨y2, hx2, hm⟩ := bindS hm
  refine wl rfl (calS cf22 rfl (tree_writer_put_sim (p0 := y1) (H_p0 := H_p0) (p1 := ([p1.Name] : List (List UInt8))) (hS4.bun [1, 2] [3, 4] rfl) hL_p0 h3 hx2) rfl fun v2 T3 w4 im5 rv2 => ?_)
  obtain ⟨a6, n4, c6, rfl, hS5, _⟩ := rv2
  have hS5 := hS5.unb
  refine nil (t_then ?_)
  refine sq2 (sq2 (rg (pv (r_fa rfl underlying58 rfl sizeOf55 rfl) (pv (r_ld rfl isAgg55 (hS5.cell0 (i := 0) ⟨rfl, rfl⟩ (j := 6) rfl)) (pv (r_ln rfl underlying55) (pv (r_mi rfl) (nil (t_then ?_))))))))
  obtain ⟨o1, ho1, hq1⟩ := bindS hm
  obtain ⟨bd1, hbd1, ho1⟩ := loop_open ho1
  refine blk (wp_loop_ghost (fun m a w5 => ∃ (J : JV) (T4 : TP) (x3 : TreeWriter) (a7 : OA) (n5 : Nat) (c7 : Nat) (x2 : Int), a = env (nf 53) J [(0, pt b_p0 o_p0), (3, pt b1 0), (16, sv a2 p1.Dims c2), (17, iv (List.length p1.Dims : Int)), (18, iv x2)] ∧ Im T3 w4 T4 w5 ∧ Sep g T4 w5 [boxA b1 (cGVar p1 a2 c2 a3 c3), R, H_p0 [.slice a7 n5 c7], ownA rStr 9 (.slice a7 n5 c7) x3.l] ∧ loopM bd1 m (x2, x3) = some o1) NN ⟨_, _, y2, _, _, _, 0, env_has ⟨rfl, rfl, rfl, rfl, rfl, trivial⟩, Im.refl, hS5.sel [0, 1, 2, 3] rfl, ho1⟩ ?_)
  rintro m _ w5 ⟨J, T4, x3, a7, n5, c7, x2, rfl, im6, hS6, ho1⟩
  obtain ⟨m1, z1, rfl, hm, hn1⟩ := loop_round ho1
  rw [hbd1] at hm
  refine sq2 (rg (pv (r_ib rfl rfl rfl) (nil (t_then ?_))))
  refine sq2 (cnd rfl (fun hb1 => ?_) (fun hb1 => ?_))
  · have hm := ctrue hb1 hm
    refine skp (t_then ?_)
    refine sq2 (blk (sq2 ?_))
    obtain ⟨u1, hx3, hm⟩ := bindS hm
    obtain ⟨b2, of1, cs1, k1, cp1, hv1, hp1, hl1, he1, hr1, hc1, hT1⟩ := (h1.mono (iT im1 (iT im2 (iT im3 (iT im4 (iT im5 im6)))))).ixT hx3 rfl
    cases hr1
    refine rg (pv (r_ixe hv1 rfl underlying55 sizeOf87 hp1 hl1 he1) (pv (r_ld rfl isAgg87 (hc1.get (j := 0) rfl)) (pv (r_zi rfl) (nil (t_then ?_)))))
    refine sq2 (rg (pv (r_mp rfl) (wl rfl (bsS (r := rStr) (l := ([([91] : List UInt8)] : List (List UInt8))) (css := [[.string ⟨([91] : List UInt8).toArray⟩]]) hS6 underlying74 sizeOf9 zeroValue9 rfl rfl (by kernel_rfl) rfl ⟨rfl, trivial⟩ rfl rfl fun w6 a8 n6 c8 im7 hS7 => ?_))))
    obtain ⟨T5, im8, hS8, h4⟩ := hS7.seal 0 ⟨rfl, rfl⟩
    have hsh := h4.len
    subst hsh
    obtain ⟨y3, hx4, hm⟩ := bindS hm
    refine wl rfl (calS cf22 rfl (tree_writer_put_sim (p0 := x3) (H_p0 := H_p0) (p1 := ([([91] : List UInt8)] : List (List UInt8))) (hS8.bun [1, 2] [3, 4] rfl) hL_p0 h4 hx4) rfl fun v3 T6 w7 im9 rv3 => ?_)
    obtain ⟨a9, n7, c9, rfl, hS9, _⟩ := rv3
    have hS9 := hS9.unb
    refine nil (t_then ?_)
    refine sq2 ?_
    obtain ⟨y4, hx5, hm⟩ := bindS hm
    refine rg (pv (r_mp rfl) (pv (r_mi rfl) (wl rfl (calS cf42 rfl (tree_writer_number_sim (p0 := y3) (H_p0 := H_p0) (p1 := u1) (hS9.bun [0, 1] [2, 3] rfl) hL_p0 (hG1.mono (iT im1 (iT im2 (iT im3 (iT im4 (iT im5 (iT im6 (iT im7 (iT im8 im9))))))))) hx5) rfl fun v4 T7 w8 im10 rv4 => ?_))))
    obtain ⟨a10, n8, c10, rfl, hS10, _⟩ := rv4
    have hS10 := hS10.unb
    refine nil (t_then ?_)
    refine rg (pv (r_mp rfl) (wl rfl (bsS (r := rStr) (l := ([([93] : List UInt8)] : List (List UInt8))) (css := [[.string ⟨([93] : List UInt8).toArray⟩]]) hS10 underlying74 sizeOf9 zeroValue9 rfl rfl (by kernel_rfl) rfl ⟨rfl, trivial⟩ rfl rfl fun w9 a11 n9 c11 im11 hS11 => ?_)))
    obtain ⟨T8, im12, hS12, h5⟩ := hS11.seal 0 ⟨rfl, rfl⟩
    have hsh := h5.len
    subst hsh
    obtain ⟨y5, hx6, hm⟩ := bindS hm
    refine wl rfl (calS cf22 rfl (tree_writer_put_sim (p0 := y4) (H_p0 := H_p0) (p1 := ([([93] : List UInt8)] : List (List UInt8))) (hS12.bun [1, 2] [3, 4] rfl) hL_p0 h5 hx6) rfl fun v5 T9 w10 im13 rv5 => ?_)
    obtain ⟨a12, n10, c12, rfl, hS13, _⟩ := rv5
    have hS13 := hS13.unb
    refine nil (t_blk (t_then ?_))
    have hm := oI hm; subst hm
    exact rg (pv (r_ib rfl rfl rfl) (pv (r_mi rfl) (nil (t_then ⟨m1, Nat.lt_succ_self _, _, _, y5, _, _, _, (IntKind.wrap .i64 (x2 + 1)), env_has ⟨rfl, rfl, rfl, rfl, rfl, trivial⟩, (iT im6 (iT im7 (iT im8 (iT im9 (iT im10 (iT im11 (iT im12 im13))))))), hS13.sel [0, 1, 2, 3] rfl, hn1⟩))))
  have hm := cfalse hb1 hm
  have hm := oI hm; subst hm
  have hn1 : _ = Lp.brk _ := hn1
  subst hn1
  have hm := thn_brk hq1
  refine xt (x_then (x_then (x_eq (t_then ?_))))
  refine sq2 (sq2 (rg (pv (r_fa rfl underlying58 rfl sizeOf56 rfl) (pv (r_ld rfl isAgg56 (hS6.cell0 (i := 0) ⟨rfl, rfl⟩ (j := 7) rfl)) (pv (r_ln rfl underlying56) (pv (r_ib rfl rfl rfl) (nil (t_then ?_))))))))
  refine cnd rfl (fun hb2 => ?_) (fun hb2 => ?_)
  · have hm := ctrue hb2 hm
    have hm := oI hm; subst hm
    exact rtn (r_then (ret0 rfl ⟨_, rfl, _, (iT im1 (iT im2 (iT im3 (iT im4 (iT im5 im6))))), ⟨_, _, _, rfl, hS6.sel [1, 2, 3] rfl, trivial⟩⟩))
  have hm := cfalse hb2 hm
  refine skp (t_then ?_)
  refine sq2 (rg (pv (r_mp rfl) (wl rfl (bsS (r := rStr) (l := ([([61] : List UInt8)] : List (List UInt8))) (css := [[.string ⟨([61] : List UInt8).toArray⟩]]) hS6 underlying74 sizeOf9 zeroValue9 rfl rfl (by kernel_rfl) rfl ⟨rfl, trivial⟩ rfl rfl fun w11 a13 n11 c13 im14 hS14 => ?_))))
  obtain ⟨T10, im15, hS15, h6⟩ := hS14.seal 0 ⟨rfl, rfl⟩
  have hsh := h6.len
  subst hsh
  obtain ⟨y6, hx7, hm⟩ := bindS hm
  refine wl rfl (calS cf22 rfl (tree_writer_put_sim (p0 := x3) (H_p0 := H_p0) (p1 := ([([61] : List UInt8)] : List (List UInt8))) (hS15.bun [1, 2] [3, 4] rfl) hL_p0 h6 hx7) rfl fun v6 T11 w12 im16 rv6 => ?_)
  obtain ⟨a14, n12, c14, rfl, hS16, _⟩ := rv6
  have hS16 := hS16.unb
  refine nil (t_then ?_)
  obtain ⟨kk1, hkk1, hm⟩ := jn_open hm
  refine cut (fun a w13 => ∃ (J : JV) (T12 : TP) (x5 : TreeWriter) (a15 : OA) (n13 : Nat) (c15 : Nat), a = env (nf 53) J [(0, pt b_p0 o_p0), (3, pt b1 0)] ∧ Im T11 w12 T12 w13 ∧ Sep g T12 w13 [boxA b1 (cGVar p1 a2 c2 a3 c3), R, H_p0 [.slice a15 n13 c15], ownA rStr 9 (.slice a15 n13 c15) x5.l] ∧ kk1 x5 = some r) ?_ ?_
  · refine sq2 (rg (pv (r_fa rfl underlying58 rfl sizeOf4 rfl) (pv (r_ld rfl isAgg4 (hS16.cell0 (i := 0) ⟨rfl, rfl⟩ (j := 8) rfl)) (nil (t_then ?_)))))
    refine cnd rfl (fun hb3 => ?_) (fun hb3 => ?_)
    · have hm := ctrue hb3 hm
      refine rg (pv (r_mp rfl) (wl rfl (bsS (r := rStr) (l := ([([123] : List UInt8)] : List (List UInt8))) (css := [[.string ⟨([123] : List UInt8).toArray⟩]]) hS16 underlying74 sizeOf9 zeroValue9 rfl rfl (by kernel_rfl) rfl ⟨rfl, trivial⟩ rfl rfl fun w14 a16 n14 c16 im18 hS17 => ?_)))
      obtain ⟨T13, im19, hS18, h7⟩ := hS17.seal 0 ⟨rfl, rfl⟩
      have hsh := h7.len
      subst hsh
      obtain ⟨y7, hx8, hm⟩ := bindS hm
      refine wl rfl (calS cf22 rfl (tree_writer_put_sim (p0 := y6) (H_p0 := H_p0) (p1 := ([([123] : List UInt8)] : List (List UInt8))) (hS18.bun [1, 2] [3, 4] rfl) hL_p0 h7 hx8) rfl fun v7 T14 w15 im20 rv7 => ?_)
      obtain ⟨a17, n15, c17, rfl, hS19, _⟩ := rv7
      have hS19 := hS19.unb
      exact nil (t_then ⟨_, _, y7, _, _, _, env_has ⟨rfl, rfl, trivial⟩, (iT im18 (iT im19 im20)), hS19.sel [0, 1, 2, 3] rfl, hm⟩)
    have hm := cfalse hb3 hm
    exact skp (t_then ⟨_, _, y6, _, _, _, env_has ⟨rfl, rfl, trivial⟩, Im.refl, hS16.sel [0, 1, 2, 3] rfl, hm⟩)
  rintro _ w13 ⟨J, T12, x5, a15, n13, c15, rfl, im17, hS20, hm⟩
  rw [hkk1] at hm
  refine sq2 ?_
  obtain ⟨y8, hx9, hm⟩ := bindS hm
  refine rg (pv (r_mp rfl) (pv (r_fa rfl underlying58 rfl sizeOf56 rfl) (pv (r_ld rfl isAgg56 (hS20.cell0 (i := 0) ⟨rfl, rfl⟩ (j := 7) rfl)) (wl rfl (calS cf43 rfl (tree_writer_list_sim (p0 := x5) (H_p0 := H_p0) (p1 := p1.Init) (hS20.bun [0, 1] [2, 3] rfl) hL_p0 (h2.mono (iT im1 (iT im2 (iT im3 (iT im4 (iT im5 (iT im6 (iT im14 (iT im15 (iT im16 im17)))))))))) (hG1.mono (iT im1 (iT im2 (iT im3 (iT im4 (iT im5 (iT im6 (iT im14 (iT im15 (iT im16 im17)))))))))) hx9) rfl fun v8 T15 w16 im21 rv8 => ?_)))))
  obtain ⟨a18, n16, c18, rfl, hS21, _⟩ := rv8
  have hS21 := hS21.unb
  refine nil (t_then ?_)
  refine sq2 (rg (pv (r_fa rfl underlying58 rfl sizeOf4 rfl) (pv (r_ld rfl isAgg4 (hS21.cell0 (i := 0) ⟨rfl, rfl⟩ (j := 8) rfl)) (nil (t_then ?_)))))
  refine cnd rfl (fun hb4 => ?_) (fun hb4 => ?_)
  · have hm := ctrue hb4 hm
    refine rg (pv (r_mp rfl) (wl rfl (bsS (r := rStr) (l := ([([125] : List UInt8)] : List (List UInt8))) (css := [[.string ⟨([125] : List UInt8).toArray⟩]]) hS21 underlying74 sizeOf9 zeroValue9 rfl rfl (by kernel_rfl) rfl ⟨rfl, trivial⟩ rfl rfl fun w17 a19 n17 c19 im22 hS22 => ?_)))
    obtain ⟨T16, im23, hS23, h8⟩ := hS22.seal 0 ⟨rfl, rfl⟩
    have hsh := h8.len
    subst hsh
    obtain ⟨y9, hx10, hm⟩ := bindS hm
    refine wl rfl (calS cf22 rfl (tree_writer_put_sim (p0 := y8) (H_p0 := H_p0) (p1 := ([([125] : List UInt8)] : List (List UInt8))) (hS23.bun [2] [3, 4] rfl) hL_p0 h8 hx10) rfl fun v9 T17 w18 im24 rv9 => ?_)
    obtain ⟨a20, n18, c20, rfl, hS24, _⟩ := rv9
    have hS24 := hS24.unb
    have hm := oI hm; subst hm
    exact nil (end0 rfl ⟨_, rfl, _, (iT im1 (iT im2 (iT im3 (iT im4 (iT im5 (iT im6 (iT im14 (iT im15 (iT im16 (iT im17 (iT im21 (iT im22 (iT im23 im24))))))))))))), ⟨_, _, _, rfl, hS24.sel [0, 1, 2] rfl, trivial⟩⟩)
  have hm := cfalse hb4 hm
  have hm := oI hm; subst hm
  exact skp (end0 rfl ⟨_, rfl, _, (iT im1 (iT im2 (iT im3 (iT im4 (iT im5 (iT im6 (iT im14 (iT im15 (iT im16 (iT im17 im21)))))))))), ⟨_, _, _, rfl, hS21.sel [1, 2, 3] rfl, trivial⟩⟩)

theorem tree_writer_asked_sim {p0 : TreeWriter} {b_p0 o_p0 : Nat} {H_p0 : List Value → Assn} {a1 : OA} {n1 : Nat} {c1 : Nat} {p1 : List UInt8} {p2 : List GExpr} {a2 : OA} {c2 : Nat} {r : TreeWriter} (hS : Sep g T0 w0 [R, H_p0 [.slice a1 n1 c1], ownA rStr 9 (.slice a1 n1 c1) p0.l]) (hL_p0 : Ln b_p0 o_p0 H_p0) (h1 : SlR rGExpr T0 w0 (sv a2 p2 c2) p2) (hG1 : Gc T0 w0 1 (Lib.pow10Tab.map fun z => Value.int .u64 z)) (hm : tree_writer_asked p0 p1 p2 = some r) :
    Calls Tryz.prog 73 #[pt b_p0 o_p0, .string ⟨p1.toArray⟩, sv a2 p2 c2] w0 (RetS T0 w0 fun T w v => ∃ (a8 : OA) (n7 : Nat) (c8 : Nat), v = .tuple #[] ∧ Sep g T w [R, H_p0 [.slice a8 n7 c8], ownA rStr 9 (.slice a8 n7 c8) r.l] ∧ True) := by
  refine enter (args := [pt b_p0 o_p0, .string ⟨p1.toArray⟩, sv a2 p2 c2]) Tryz.func73 rfl Tryz.ntmps73 rfl fun J => ?_
  unfold tree_writer_asked at hm
  refine sq2 (rg (pv (r_mp rfl) (pv (r_mt rfl) (wl rfl (bsS (r := rStr) (l := ([p1, ([40] : List UInt8)] : List (List UInt8))) (css := [[.string ⟨p1.toArray⟩], [.string ⟨([40] : List UInt8).toArray⟩]]) hS underlying74 sizeOf9 zeroValue9 rfl rfl (by kernel_rfl) rfl ⟨rfl, rfl, trivial⟩ rfl rfl fun w1 a3 n2 c3 im1 hS1 => ?_)))))
  obtain ⟨T1, im2, hS2, h2⟩ := hS1.seal 0 ⟨rfl, rfl⟩
  have hsh := h2.len
  subst hsh
  obtain ⟨y1, hx1, hm⟩ := bindS hm
  refine wl rfl (calS cf22 rfl (tree_writer_put_sim (p0 := p0) (H_p0 := H_p0) (p1 := ([p1, ([40] : List UInt8)] : List (List UInt8))) (hS2.bun [1] [2, 3] rfl) hL_p0 h2 hx1) rfl fun v1 T2 w2 im3 rv1 => ?_)
  obtain ⟨a4, n3, c4, rfl, hS3, _⟩ := rv1
  have hS3 := hS3.unb
  refine nil (t_then ?_)
  refine sq2 ?_
  obtain ⟨y2, hx2, hm⟩ := bindS hm
  refine rg (pv (r_mp rfl) (pv (r_ms rfl) (wl rfl (calS cf43 rfl (tree_writer_list_sim (p0 := y1) (H_p0 := H_p0) (p1 := p2) (hS3.bun [0] [1, 2] rfl) hL_p0 (h1.mono (iT im1 (iT im2 im3))) (hG1.mono (iT im1 (iT im2 im3))) hx2) rfl fun v2 T3 w3 im4 rv2 => ?_))))
  obtain ⟨a5, n4, c5, rfl, hS4, _⟩ := rv2
  have hS4 := hS4.unb
  refine nil (t_then ?_)
  refine rg (pv (r_mp rfl) (wl rfl (bsS (r := rStr) (l := ([([41] : List UInt8)] : List (List UInt8))) (css := [[.string ⟨([41] : List UInt8).toArray⟩]]) hS4 underlying74 sizeOf9 zeroValue9 rfl rfl (by kernel_rfl) rfl ⟨rfl, trivial⟩ rfl rfl fun w4 a6 n5 c6 im5 hS5 => ?_)))
  obtain ⟨T4, im6, hS6, h3⟩ := hS5.seal 0 ⟨rfl, rfl⟩
  have hsh := h3.len
  subst hsh
  obtain ⟨y3, hx3, hm⟩ := bindS hm
  refine wl rfl (calS cf22 rfl (tree_writer_put_sim (p0 := y2) (H_p0 := H_p0) (p1 := ([([41] : List UInt8)] : List (List UInt8))) (hS6.bun [1] [2, 3] rfl) hL_p0 h3 hx3) rfl fun v3 T5 w5 im7 rv3 => ?_)
  obtain ⟨a7, n6, c7, rfl, hS7, _⟩ := rv3
  have hS7 := hS7.unb
  have hm := oI hm; subst hm
  exact nil (end0 rfl ⟨_, rfl, _, (iT im1 (iT im2 (iT im3 (iT im4 (iT im5 (iT im6 im7)))))), ⟨_, _, _, rfl, hS7.sel [0, 1, 2] rfl, trivial⟩⟩)

theorem tree_writer_short_sim {p0 : TreeWriter} {b_p0 o_p0 : Nat} {H_p0 : List Value → Assn} {a1 : OA} {n1 : Nat} {c1 : Nat} {p1 : Stmt} {a2 : OA} {c2 : Nat} {a3 : OA} {c3 : Nat} {a4 : OA} {c4 : Nat} {a5 : OA} {c5 : Nat} {a6 : OA} {c6 : Nat} {a7 : OA} {c7 : Nat} {a8 : OA} {c8 : Nat} {r : TreeWriter} (hS : Sep g T0 w0 [R, H_p0 [.slice a1 n1 c1], ownA rStr 9 (.slice a1 n1 c1) p0.l]) (hL_p0 : Ln b_p0 o_p0 H_p0) (h1 : SlR rGExpr T0 w0 (sv a2 p1.A c2) p1.A) (h2 : SlR rGExpr T0 w0 (sv a3 p1.B c3) p1.B) (h3 : SlR rGExpr T0 w0 (sv a4 p1.C c4) p1.C) (h4 : SlR rGVar T0 w0 (sv a5 p1.Var c5) p1.Var) (h5 : SlR rStmt T0 w0 (sv a6 p1.Body c6) p1.Body) (h6 : SlR rStmt T0 w0 (sv a7 p1.Else c7) p1.Else) (h7 : SlR rGCase T0 w0 (sv a8 p1.Cases c8) p1.Cases) (hG1 : Gc T0 w0 1 (Lib.pow10Tab.map fun z => Value.int .u64 z)) (hm : tree_writer_short p0 p1 = some r) :
    Calls Tryz.prog 75 #[pt b_p0 o_p0, .agg (cStmt p1 a2 c2 a3 c3 a4 c4 a5 c5 a6 c6 a7 c7 a8 c8).toArray] w0 (RetS T0 w0 fun T w v => ∃ (a19 : OA) (n12 : Nat) (c19 : Nat), v = .tuple #[] ∧ Sep g T w [R, H_p0 [.slice a19 n12 c19], ownA rStr 9 (.slice a19 n12 c19) r.l] ∧ True) := by
  refine enter (args := [pt b_p0 o_p0, .agg (cStmt p1 a2 c2 a3 c3 a4 c4 a5 c5 a6 c6 a7 c7 a8 c8).toArray]) Tryz.func75 rfl Tryz.ntmps75 rfl fun J => ?_
  unfold tree_writer_short at hm
  refine sq2 (rg (wl rfl (bxS (cs := (cStmt p1 a2 c2 a3 c3 a4 c4 a5 c5 a6 c6 a7 c7 a8 c8)) rfl rfl hS fun w1 b1 im1 hS1 => ?_)))
  refine nil (t_then ?_)
  obtain ⟨kk1, hkk1, hm⟩ := jn_open hm
  refine cut (fun a w2 => ∃ (J : JV) (T1 : TP) (x2 : TreeWriter) (a9 : OA) (n2 : Nat) (c9 : Nat), a = env (nf 28) J [(0, pt b_p0 o_p0), (3, pt b1 0)] ∧ Im T0 w1 T1 w2 ∧ Sep g T1 w2 [boxA b1 (cStmt p1 a2 c2 a3 c3 a4 c4 a5 c5 a6 c6 a7 c7 a8 c8), R, H_p0 [.slice a9 n2 c9], ownA rStr 9 (.slice a9 n2 c9) x2.l] ∧ kk1 x2 = some r) ?_ ?_
  · refine sq2 (rg (pv (r_fa rfl underlying68 rfl sizeOf3 rfl) (pv (r_ld rfl isAgg3 (hS1.cell0 (i := 0) ⟨rfl, rfl⟩ (j := 0) rfl)) (nil (t_then ?_)))))
    refine blk (sq2 (rg (pv (r_ib rfl rfl rfl) (pv (r_zb rfl) (nil (t_then ?_))))))
    refine cnd rfl (fun hb1 => ?_) (fun hb1 => ?_)
    · have hm := ctrue hb1 hm
      refine rg (pv (r_mp rfl) (wl rfl (bsS (r := rStr) (l := ([([114, 101, 116, 117, 114, 110] : List UInt8)] : List (List UInt8))) (css := [[.string ⟨([114, 101, 116, 117, 114, 110] : List UInt8).toArray⟩]]) hS1 underlying74 sizeOf9 zeroValue9 rfl rfl (by kernel_rfl) rfl ⟨rfl, trivial⟩ rfl rfl fun w3 a10 n3 c10 im3 hS2 => ?_)))
      obtain ⟨T2, im4, hS3, h8⟩ := hS2.seal 0 ⟨rfl, rfl⟩
      have hsh := h8.len
      subst hsh
      obtain ⟨y1, hx1, hm⟩ := bindS hm
      refine wl rfl (calS cf22 rfl (tree_writer_put_sim (p0 := p0) (H_p0 := H_p0) (p1 := ([([114, 101, 116, 117, 114, 110] : List UInt8)] : List (List UInt8))) (hS3.bun [1, 2] [3, 4] rfl) hL_p0 h8 hx1) rfl fun v1 T3 w4 im5 rv1 => ?_)
      obtain ⟨a11, n4, c11, rfl, hS4, _⟩ := rv1
      have hS4 := hS4.unb
      exact nil (t_blk (t_then ⟨_, _, y1, _, _, _, env_has ⟨rfl, rfl, trivial⟩, (iT im3 (iT im4 im5)), hS4.sel [0, 1, 2, 3] rfl, hm⟩))
    have hm := cfalse hb1 hm
    refine sq2 (rg (pv (r_ib rfl rfl rfl) (pv (r_zb rfl) (nil (t_then ?_)))))
    refine cnd rfl (fun hb2 => ?_) (fun hb2 => ?_)
    · have hm := ctrue hb2 hm
      refine rg (pv (r_mp rfl) (wl rfl (bsS (r := rStr) (l := ([([98, 114, 101, 97, 107] : List UInt8)] : List (List UInt8))) (css := [[.string ⟨([98, 114, 101, 97, 107] : List UInt8).toArray⟩]]) hS1 underlying74 sizeOf9 zeroValue9 rfl rfl (by kernel_rfl) rfl ⟨rfl, trivial⟩ rfl rfl fun w5 a12 n5 c12 im6 hS5 => ?_)))
      obtain ⟨T4, im7, hS6, h9⟩ := hS5.seal 0 ⟨rfl, rfl⟩
      have hsh := h9.len
      subst hsh
      obtain ⟨y2, hx2, hm⟩ := bindS hm
      refine wl rfl (calS cf22 rfl (tree_writer_put_sim (p0 := p0) (H_p0 := H_p0) (p1 := ([([98, 114, 101, 97, 107] : List UInt8)] : List (List UInt8))) (hS6.bun [1, 2] [3, 4] rfl) hL_p0 h9 hx2) rfl fun v2 T5 w6 im8 rv2 => ?_)
      obtain ⟨a13, n6, c13, rfl, hS7, _⟩ := rv2
      have hS7 := hS7.unb
      exact nil (t_blk (t_then ⟨_, _, y2, _, _, _, env_has ⟨rfl, rfl, trivial⟩, (iT im6 (iT im7 im8)), hS7.sel [0, 1, 2, 3] rfl, hm⟩))
    have hm := cfalse hb2 hm
    refine sq2 (rg (pv (r_ib rfl rfl rfl) (pv (r_zb rfl) (nil (t_then ?_)))))
    refine cnd rfl (fun hb3 => ?_) (fun hb3 => ?_)
    · have hm := ctrue hb3 hm
      refine rg (pv (r_mp rfl) (wl rfl (bsS (r := rStr) (l := ([([99, 111, 110, 116, 105, 110, 117, 101] : List UInt8)] : List (List UInt8))) (css := [[.string ⟨([99, 111, 110, 116, 105, 110, 117, 101] : List UInt8).toArray⟩]]) hS1 underlying74 sizeOf9 zeroValue9 rfl rfl (by kernel_rfl) rfl ⟨rfl, trivial⟩ rfl rfl fun w7 a14 n7 c14 im9 hS8 => ?_)))
      obtain ⟨T6, im10, hS9, h10⟩ := hS8.seal 0 ⟨rfl, rfl⟩
      have hsh := h10.len
      subst hsh
      obtain ⟨y3, hx3, hm⟩ := bindS hm
      refine wl rfl (calS cf22 rfl (tree_writer_put_sim (p0 := p0) (H_p0 := H_p0) (p1 := ([([99, 111, 110, 116, 105, 110, 117, 101] : List UInt8)] : List (List UInt8))) (hS9.bun [1, 2] [3, 4] rfl) hL_p0 h10 hx3) rfl fun v3 T7 w8 im11 rv3 => ?_)
      obtain ⟨a15, n8, c15, rfl, hS10, _⟩ := rv3
      have hS10 := hS10.unb
      exact nil (t_blk (t_then ⟨_, _, y3, _, _, _, env_has ⟨rfl, rfl, trivial⟩, (iT im9 (iT im10 im11)), hS10.sel [0, 1, 2, 3] rfl, hm⟩))
    have hm := cfalse hb3 hm
    exact skp (t_blk (t_then ⟨_, _, p0, _, _, _, env_has ⟨rfl, rfl, trivial⟩, Im.refl, hS1.sel [0, 1, 2, 3] rfl, hm⟩))
  rintro _ w2 ⟨J, T1, x2, a9, n2, c9, rfl, im2, hS11, hm⟩
  rw [hkk1] at hm
  refine sq2 ?_
  obtain ⟨y4, hx4, hm⟩ := bindS hm
  refine rg (pv (r_mp rfl) (pv (r_fa rfl underlying68 rfl sizeOf56 rfl) (pv (r_ld rfl isAgg56 (hS11.cell0 (i := 0) ⟨rfl, rfl⟩ (j := 3) rfl)) (wl rfl (calS cf43 rfl (tree_writer_list_sim (p0 := x2) (H_p0 := H_p0) (p1 := p1.A) (hS11.bun [1] [2, 3] rfl) hL_p0 (h1.mono (iT im1 im2)) (hG1.mono (iT im1 im2)) hx4) rfl fun v4 T8 w9 im12 rv4 => ?_)))))
  obtain ⟨a16, n9, c16, rfl, hS12, _⟩ := rv4
  have hS12 := hS12.unb
  refine nil (t_then ?_)
  refine rg (pv (r_mp rfl) (wl rfl (bsS (r := rStr) (l := ([([59] : List UInt8)] : List (List UInt8))) (css := [[.string ⟨([59] : List UInt8).toArray⟩]]) hS12 underlying74 sizeOf9 zeroValue9 rfl rfl (by kernel_rfl) rfl ⟨rfl, trivial⟩ rfl rfl fun w10 a17 n10 c17 im13 hS13 => ?_)))
  obtain ⟨T9, im14, hS14, h11⟩ := hS13.seal 0 ⟨rfl, rfl⟩
  have hsh := h11.len
  subst hsh
  obtain ⟨y5, hx5, hm⟩ := bindS hm
  refine wl rfl (calS cf22 rfl (tree_writer_put_sim (p0 := y4) (H_p0 := H_p0) (p1 := ([([59] : List UInt8)] : List (List UInt8))) (hS14.bun [1] [2, 3] rfl) hL_p0 h11 hx5) rfl fun v5 T10 w11 im15 rv5 => ?_)
  obtain ⟨a18, n11, c18, rfl, hS15, _⟩ := rv5
  have hS15 := hS15.unb
  have hm := oI hm; subst hm
  exact nil (end0 rfl ⟨_, rfl, _, (iT im1 (iT im2 (iT im12 (iT im13 (iT im14 im15))))), ⟨_, _, _, rfl, hS15.sel [0, 1, 2] rfl, trivial⟩⟩)

structure Sp4 (G : Rec4) : Prop where
  tree_writer_cases : ∀ {g : World} {T0 : TP} {w0 : World} {R : Assn} {p0 : TreeWriter} {b_p0 o_p0 : Nat} {H_p0 : List Value → Assn} {a1 : OA} {n1 : Nat} {c1 : Nat} {p1 : List GCase} {a2 : OA} {c2 : Nat} {r : TreeWriter} (hS : Sep g T0 w0 [R, H_p0 [.slice a1 n1 c1], ownA rStr 9 (.slice a1 n1 c1) p0.l]) (hL_p0 : Ln b_p0 o_p0 H_p0) (h1 : SlR rGCase T0 w0 (sv a2 p1 c2) p1) (hG1 : Gc T0 w0 1 (Lib.pow10Tab.map fun z => Value.int .u64 z)) (hm : G.tree_writer_cases p0 p1 = some r),
    Calls Tryz.prog 74 #[pt b_p0 o_p0, sv a2 p1 c2] w0 (RetS T0 w0 fun T w v => ∃ (a26 : OA) (n17 : Nat) (c26 : Nat), v = .tuple #[] ∧ Sep g T w [R, H_p0 [.slice a26 n17 c26], ownA rStr 9 (.slice a26 n17 c26) r.l] ∧ True)
  tree_writer_stmt : ∀ {g : World} {T0 : TP} {w0 : World} {R : Assn} {p0 : TreeWriter} {b_p0 o_p0 : Nat} {H_p0 : List Value → Assn} {a1 : OA} {n1 : Nat} {c1 : Nat} {p1 : Stmt} {a2 : OA} {c2 : Nat} {a3 : OA} {c3 : Nat} {a4 : OA} {c4 : Nat} {a5 : OA} {c5 : Nat} {a6 : OA} {c6 : Nat} {a7 : OA} {c7 : Nat} {a8 : OA} {c8 : Nat} {r : TreeWriter} (hS : Sep g T0 w0 [R, H_p0 [.slice a1 n1 c1], ownA rStr 9 (.slice a1 n1 c1) p0.l]) (hL_p0 : Ln b_p0 o_p0 H_p0) (h1 : SlR rGExpr T0 w0 (sv a2 p1.A c2) p1.A) (h2 : SlR rGExpr T0 w0 (sv a3 p1.B c3) p1.B) (h3 : SlR rGExpr T0 w0 (sv a4 p1.C c4) p1.C) (h4 : SlR rGVar T0 w0 (sv a5 p1.Var c5) p1.Var) (h5 : SlR rStmt T0 w0 (sv a6 p1.Body c6) p1.Body) (h6 : SlR rStmt T0 w0 (sv a7 p1.Else c7) p1.Else) (h7 : SlR rGCase T0 w0 (sv a8 p1.Cases c8) p1.Cases) (hG1 : Gc T0 w0 1 (Lib.pow10Tab.map fun z => Value.int .u64 z)) (hm : G.tree_writer_stmt p0 p1 = some r),
    Calls Tryz.prog 44 #[pt b_p0 o_p0, .agg (cStmt p1 a2 c2 a3 c3 a4 c4 a5 c5 a6 c6 a7 c7 a8 c8).toArray] w0 (RetS T0 w0 fun T w v => ∃ (a44 : OA) (n35 : Nat) (c44 : Nat), v = .tuple #[] ∧ Sep g T w [R, H_p0 [.slice a44 n35 c44], ownA rStr 9 (.slice a44 n35 c44) r.l] ∧ True)
  tree_writer_block : ∀ {g : World} {T0 : TP} {w0 : World} {R : Assn} {p0 : TreeWriter} {b_p0 o_p0 : Nat} {H_p0 : List Value → Assn} {a1 : OA} {n1 : Nat} {c1 : Nat} {p1 : List Stmt} {a2 : OA} {c2 : Nat} {r : TreeWriter} (hS : Sep g T0 w0 [R, H_p0 [.slice a1 n1 c1], ownA rStr 9 (.slice a1 n1 c1) p0.l]) (hL_p0 : Ln b_p0 o_p0 H_p0) (h1 : SlR rStmt T0 w0 (sv a2 p1 c2) p1) (hG1 : Gc T0 w0 1 (Lib.pow10Tab.map fun z => Value.int .u64 z)) (hm : G.tree_writer_block p0 p1 = some r),
    Calls Tryz.prog 25 #[pt b_p0 o_p0, sv a2 p1 c2] w0 (RetS T0 w0 fun T w v => ∃ (a16 : OA) (n8 : Nat) (c16 : Nat), v = .tuple #[] ∧ Sep g T w [R, H_p0 [.slice a16 n8 c16], ownA rStr 9 (.slice a16 n8 c16) r.l] ∧ True)
theorem tree_writer_cases_st {G : Rec4} (hG : Sp4 G) {g : World} {T0 : TP} {w0 : World} {R : Assn} {p0 : TreeWriter} {b_p0 o_p0 : Nat} {H_p0 : List Value → Assn} {a1 : OA} {n1 : Nat} {c1 : Nat} {p1 : List GCase} {a2 : OA} {c2 : Nat} {r : TreeWriter} (hS : Sep g T0 w0 [R, H_p0 [.slice a1 n1 c1], ownA rStr 9 (.slice a1 n1 c1) p0.l]) (hL_p0 : Ln b_p0 o_p0 H_p0) (h1 : SlR rGCase T0 w0 (sv a2 p1 c2) p1) (hG1 : Gc T0 w0 1 (Lib.pow10Tab.map fun z => Value.int .u64 z)) (hm : tree_writer_cases_b G p0 p1 = some r) :
    Calls Tryz.prog 74 #[pt b_p0 o_p0, sv a2 p1 c2] w0 (RetS T0 w0 fun T w v => ∃ (a26 : OA) (n17 : Nat) (c26 : Nat), v = .tuple #[] ∧ Sep g T w [R, H_p0 [.slice a26 n17 c26], ownA rStr 9 (.slice a26 n17 c26) r.l] ∧ True) := by
  refine enter (args := [pt b_p0 o_p0, sv a2 p1 c2]) Tryz.func74 rfl Tryz.ntmps74 rfl fun J => ?_
  unfold tree_writer_cases_b at hm
  refine sq2 (rg (pv (r_mp rfl) (wl rfl (bsS (r := rStr) (l := ([([123] : List UInt8)] : List (List UInt8))) (css := [[.string ⟨([123] : List UInt8).toArray⟩]]) hS underlying74 sizeOf9 zeroValue9 rfl rfl (by kernel_rfl) rfl ⟨rfl, trivial⟩ rfl rfl fun w1 a3 n2 c3 im1 hS1 => ?_))))
  obtain ⟨T1, im2, hS2, h2⟩ := hS1.seal 0 ⟨rfl, rfl⟩
  have hsh := h2.len
  subst hsh
  obtain ⟨y1, hx1, hm⟩ := bindS hm
  refine wl rfl (calS cf22 rfl (tree_writer_put_sim (p0 := p0) (H_p0 := H_p0) (p1 := ([([123] : List UInt8)] : List (List UInt8))) (hS2.bun [1] [2, 3] rfl) hL_p0 h2 hx1) rfl fun v1 T2 w2 im3 rv1 => ?_)
  obtain ⟨a4, n3, c4, rfl, hS3, _⟩ := rv1
  have hS3 := hS3.unb
  refine nil (t_then ?_)
  refine sq2 (sq2 (rg (pv (r_ms rfl) (pv (r_ln rfl underlying66) (pv (r_mi rfl) (nil (t_then ?_)))))))
  obtain ⟨o1, ho1, hq1⟩ := bindS hm
  obtain ⟨bd1, hbd1, ho1⟩ := loop_open ho1
  refine blk (wp_loop_ghost (fun m a w3 => ∃ (J : JV) (T3 : TP) (x3 : TreeWriter) (a5 : OA) (n4 : Nat) (c5 : Nat) (x2 : Int), a = env (nf 47) J [(0, pt b_p0 o_p0), (11, sv a2 p1 c2), (12, iv (List.length p1 : Int)), (13, iv x2)] ∧ Im T2 w2 T3 w3 ∧ Sep g T3 w3 [R, H_p0 [.slice a5 n4 c5], ownA rStr 9 (.slice a5 n4 c5) x3.l] ∧ loopM bd1 m (x2, x3) = some o1) NN ⟨_, _, y1, _, _, _, 0, env_has ⟨rfl, rfl, rfl, rfl, trivial⟩, Im.refl, hS3.sel [0, 1, 2] rfl, ho1⟩ ?_)
  rintro m _ w3 ⟨J, T3, x3, a5, n4, c5, x2, rfl, im4, hS4, ho1⟩
  obtain ⟨m1, z1, rfl, hm, hn1⟩ := loop_round ho1
  rw [hbd1] at hm
  refine sq2 (rg (pv (r_ib rfl rfl rfl) (nil (t_then ?_))))
  refine sq2 (cnd rfl (fun hb1 => ?_) (fun hb1 => ?_))
  · have hm := ctrue hb1 hm
    refine skp (t_then ?_)
    refine sq2 (blk (sq2 ?_))
    obtain ⟨u1, hx2, hm⟩ := bindS hm
    obtain ⟨b1, of1, cs1, k1, cp1, hv1, hp1, hl1, he1, hr1, hc1, hT1⟩ := (h1.mono (iT im1 (iT im2 (iT im3 im4)))).ixT hx2 rfl
    obtain ⟨a6, c6, rfl, h3⟩ := rGCase_open hr1
    refine rg (pv (r_ixe hv1 rfl underlying66 sizeOf105 hp1 hl1 he1) (pv (r_ldS rfl isAgg105 sizeOf105 rfl hc1 (cs := (cGCase u1 a6 c6))) (wl rfl (alS (zs := [iv 0, iv 0, .bool false, .int .u32 0, .slice none 0 0]) zeroValue105 rfl hS4 fun w4 b2 im5 hS5 => ?_))))
    refine wl rfl (st0B (q := 0) hS5 ⟨rfl, rfl⟩ rfl rfl rfl sizeOf105 rfl rfl rfl fun w5 im6 hS6 => ?_)
    refine nil (t_then ?_)
    obtain ⟨kk1, hkk1, hm⟩ := jn_open hm
    refine cut (fun a w6 => ∃ (J : JV) (T4 : TP) (x5 : TreeWriter) (a7 : OA) (n5 : Nat) (c7 : Nat), a = env (nf 47) J [(0, pt b_p0 o_p0), (5, pt b2 0), (11, sv a2 p1 c2), (12, iv (List.length p1 : Int)), (13, iv x2)] ∧ Im T3 w5 T4 w6 ∧ Sep g T4 w6 [boxA b2 (cGCase u1 a6 c6), R, H_p0 [.slice a7 n5 c7], ownA rStr 9 (.slice a7 n5 c7) x5.l] ∧ kk1 x5 = some z1) ?_ ?_
    · refine sq2 (rg (pv (r_fa rfl underlying105 rfl sizeOf4 rfl) (pv (r_ld rfl isAgg4 (hS6.cell0 (i := 0) ⟨rfl, rfl⟩ (j := 2) rfl)) (nil (t_then ?_)))))
      refine cnd rfl (fun hb2 => ?_) (fun hb2 => ?_)
      · have hm := ctrue hb2 hm
        refine rg (pv (r_mp rfl) (wl rfl (bsS (r := rStr) (l := ([([100, 101, 102, 97, 117, 108, 116] : List UInt8)] : List (List UInt8))) (css := [[.string ⟨([100, 101, 102, 97, 117, 108, 116] : List UInt8).toArray⟩]]) hS6 underlying74 sizeOf9 zeroValue9 rfl rfl (by kernel_rfl) rfl ⟨rfl, trivial⟩ rfl rfl fun w7 a8 n6 c8 im8 hS7 => ?_)))
        obtain ⟨T5, im9, hS8, h4⟩ := hS7.seal 0 ⟨rfl, rfl⟩
        have hsh := h4.len
        subst hsh
        obtain ⟨y2, hx3, hm⟩ := bindS hm
        refine wl rfl (calS cf22 rfl (tree_writer_put_sim (p0 := x3) (H_p0 := H_p0) (p1 := ([([100, 101, 102, 97, 117, 108, 116] : List UInt8)] : List (List UInt8))) (hS8.bun [1, 2] [3, 4] rfl) hL_p0 h4 hx3) rfl fun v2 T6 w8 im10 rv2 => ?_)
        obtain ⟨a9, n7, c9, rfl, hS9, _⟩ := rv2
        have hS9 := hS9.unb
        exact nil (t_then ⟨_, _, y2, _, _, _, env_has ⟨rfl, rfl, rfl, rfl, rfl, trivial⟩, (iT im8 (iT im9 im10)), hS9.sel [0, 1, 2, 3] rfl, hm⟩)
      have hm := cfalse hb2 hm
      refine sq2 (rg (pv (r_mp rfl) (wl rfl (bsS (r := rStr) (l := ([([99, 97, 115, 101] : List UInt8)] : List (List UInt8))) (css := [[.string ⟨([99, 97, 115, 101] : List UInt8).toArray⟩]]) hS6 underlying74 sizeOf9 zeroValue9 rfl rfl (by kernel_rfl) rfl ⟨rfl, trivial⟩ rfl rfl fun w9 a10 n8 c10 im11 hS10 => ?_))))
      obtain ⟨T7, im12, hS11, h5⟩ := hS10.seal 0 ⟨rfl, rfl⟩
      have hsh := h5.len
      subst hsh
      obtain ⟨y3, hx4, hm⟩ := bindS hm
      refine wl rfl (calS cf22 rfl (tree_writer_put_sim (p0 := x3) (H_p0 := H_p0) (p1 := ([([99, 97, 115, 101] : List UInt8)] : List (List UInt8))) (hS11.bun [1, 2] [3, 4] rfl) hL_p0 h5 hx4) rfl fun v3 T8 w10 im13 rv3 => ?_)
      obtain ⟨a11, n9, c11, rfl, hS12, _⟩ := rv3
      have hS12 := hS12.unb
      refine nil (t_then ?_)
      obtain ⟨y4, hx5, hm⟩ := bindS hm
      refine rg (pv (r_mp rfl) (pv (r_fa rfl underlying105 rfl sizeOf87 rfl) (pv (r_ld rfl isAgg87 (hS12.cell0 (i := 0) ⟨rfl, rfl⟩ (j := 3) rfl)) (wl rfl (calS cf42 rfl (tree_writer_number_sim (p0 := y3) (H_p0 := H_p0) (p1 := u1.Num) (hS12.bun [0, 1] [2, 3] rfl) hL_p0 (hG1.mono (iT im1 (iT im2 (iT im3 (iT im4 (iT im5 (iT im6 (iT im11 (iT im12 im13))))))))) hx5) rfl fun v4 T9 w11 im14 rv4 => ?_)))))
      obtain ⟨a12, n10, c12, rfl, hS13, _⟩ := rv4
      have hS13 := hS13.unb
      exact nil (t_then ⟨_, _, y4, _, _, _, env_has ⟨rfl, rfl, rfl, rfl, rfl, trivial⟩, (iT im11 (iT im12 (iT im13 im14))), hS13.sel [0, 1, 2, 3] rfl, hm⟩)
    rintro _ w6 ⟨J, T4, x5, a7, n5, c7, rfl, im7, hS14, hm⟩
    rw [hkk1] at hm
    refine sq2 (rg (pv (r_mp rfl) (wl rfl (bsS (r := rStr) (l := ([([58] : List UInt8)] : List (List UInt8))) (css := [[.string ⟨([58] : List UInt8).toArray⟩]]) hS14 underlying74 sizeOf9 zeroValue9 rfl rfl (by kernel_rfl) rfl ⟨rfl, trivial⟩ rfl rfl fun w12 a13 n11 c13 im15 hS15 => ?_))))
    obtain ⟨T10, im16, hS16, h6⟩ := hS15.seal 0 ⟨rfl, rfl⟩
    have hsh := h6.len
    subst hsh
    obtain ⟨y5, hx6, hm⟩ := bindS hm
    refine wl rfl (calS cf22 rfl (tree_writer_put_sim (p0 := x5) (H_p0 := H_p0) (p1 := ([([58] : List UInt8)] : List (List UInt8))) (hS16.bun [1, 2] [3, 4] rfl) hL_p0 h6 hx6) rfl fun v5 T11 w13 im17 rv5 => ?_)
    obtain ⟨a14, n12, c14, rfl, hS17, _⟩ := rv5
    have hS17 := hS17.unb
    refine nil (t_then ?_)
    refine sq2 (rg (pv (r_fa rfl underlying105 rfl sizeOf62 rfl) (pv (r_ld rfl isAgg62 (hS17.cell0 (i := 0) ⟨rfl, rfl⟩ (j := 4) rfl)) (pv (r_ln rfl underlying62) (pv (r_mi rfl) (nil (t_then ?_)))))))
    obtain ⟨o2, ho2, hq2⟩ := bindS hm
    obtain ⟨bd2, hbd2, ho2⟩ := loop_open ho2
    refine blk (wp_loop_ghost (fun m a w14 => ∃ (J : JV) (T12 : TP) (x8 : TreeWriter) (a15 : OA) (n13 : Nat) (c15 : Nat) (x7 : Int), a = env (nf 47) J [(0, pt b_p0 o_p0), (11, sv a2 p1 c2), (12, iv (List.length p1 : Int)), (13, iv x2), (33, sv a6 u1.Body c6), (34, iv (List.length u1.Body : Int)), (35, iv x7)] ∧ Im T11 w13 T12 w14 ∧ Sep g T12 w14 [R, H_p0 [.slice a15 n13 c15], ownA rStr 9 (.slice a15 n13 c15) x8.l] ∧ loopM bd2 m (x7, x8) = some o2) NN ⟨_, _, y5, _, _, _, 0, env_has ⟨rfl, rfl, rfl, rfl, rfl, rfl, rfl, trivial⟩, Im.refl, hS17.sel [1, 2, 3] rfl, ho2⟩ ?_)
    rintro m _ w14 ⟨J, T12, x8, a15, n13, c15, x7, rfl, im18, hS18, ho2⟩
    obtain ⟨m2, z2, rfl, hm, hn2⟩ := loop_round ho2
    rw [hbd2] at hm
    refine sq2 (rg (pv (r_ib rfl rfl rfl) (nil (t_then ?_))))
    refine sq2 (cnd rfl (fun hb3 => ?_) (fun hb3 => ?_))
    · have hm := ctrue hb3 hm
      refine skp (t_then ?_)
      refine sq2 (blk (sq2 ?_))
      obtain ⟨u2, hx7, hm⟩ := bindS hm
      obtain ⟨b3, of2, cs2, k2, cp2, hv2, hp2, hl2, he2, hr2, hc2, hT2⟩ := (h3.mono (iT im5 (iT im6 (iT im7 (iT im15 (iT im16 (iT im17 im18))))))).ixT hx7 rfl
      obtain ⟨a16, c16, a17, c17, a18, c18, a19, c19, a20, c20, a21, c21, a22, c22, rfl, h7, h8, h9, h10, h11, h12, h13⟩ := rStmt_open hr2
      refine rg (pv (r_ixe hv2 rfl underlying62 sizeOf68 hp2 hl2 he2) (pv (r_ldS rfl isAgg68 sizeOf68 rfl hc2 (cs := (cStmt u2 a16 c16 a17 c17 a18 c18 a19 c19 a20 c20 a21 c21 a22 c22))) (wl rfl (alS (zs := [iv 0, iv 0, iv 0, .slice none 0 0, .slice none 0 0, .slice none 0 0, .slice none 0 0, .slice none 0 0, .slice none 0 0, .slice none 0 0]) zeroValue68 rfl hS18 fun w15 b4 im19 hS19 => ?_))))
      refine wl rfl (st0B (q := 0) hS19 ⟨rfl, rfl⟩ rfl rfl rfl sizeOf68 rfl rfl rfl fun w16 im20 hS20 => ?_)
      refine nil (t_then ?_)
      obtain ⟨y6, hx8, hm⟩ := bindS hm
      refine rg (pv (r_mp rfl) (pv (r_ldS rfl isAgg68 sizeOf68 rfl (hS20.cells0 (i := 0) ⟨rfl, rfl⟩ (o := 0) rfl) (cs := (cStmt u2 a16 c16 a17 c17 a18 c18 a19 c19 a20 c20 a21 c21 a22 c22))) (wl rfl (calS cf44 rfl (hG.tree_writer_stmt (p0 := x8) (H_p0 := H_p0) (p1 := u2) (hS20.bun [1] [2, 3] rfl) hL_p0 (h7.mono (iT im19 im20)) (h8.mono (iT im19 im20)) (h9.mono (iT im19 im20)) (h10.mono (iT im19 im20)) (h11.mono (iT im19 im20)) (h12.mono (iT im19 im20)) (h13.mono (iT im19 im20)) (hG1.mono (iT im1 (iT im2 (iT im3 (iT im4 (iT im5 (iT im6 (iT im7 (iT im15 (iT im16 (iT im17 (iT im18 (iT im19 im20))))))))))))) hx8) rfl fun v6 T13 w17 im21 rv6 => ?_))))
      obtain ⟨a23, n14, c23, rfl, hS21, _⟩ := rv6
      have hS21 := hS21.unb
      refine nil (t_blk (t_then ?_))
      have hm := oI hm; subst hm
      exact rg (pv (r_ib rfl rfl rfl) (pv (r_mi rfl) (nil (t_then ⟨m2, Nat.lt_succ_self _, _, _, y6, _, _, _, (IntKind.wrap .i64 (x7 + 1)), env_has ⟨rfl, rfl, rfl, rfl, rfl, rfl, rfl, trivial⟩, (iT im18 (iT im19 (iT im20 im21))), hS21.sel [0, 1, 2] rfl, hn2⟩))))
    have hm := cfalse hb3 hm
    have hm := oI hm; subst hm
    have hn2 : _ = Lp.brk _ := hn2
    subst hn2
    have hm := thn_brk hq2
    refine xt (x_then (x_then (x_eq (t_blk (t_then ?_)))))
    have hm := oI hm; subst hm
    exact rg (pv (r_ib rfl rfl rfl) (pv (r_mi rfl) (nil (t_then ⟨m1, Nat.lt_succ_self _, _, _, x8, _, _, _, (IntKind.wrap .i64 (x2 + 1)), env_has ⟨rfl, rfl, rfl, rfl, trivial⟩, (iT im4 (iT im5 (iT im6 (iT im7 (iT im15 (iT im16 (iT im17 im18))))))), hS18.sel [0, 1, 2] rfl, hn1⟩))))
  have hm := cfalse hb1 hm
  have hm := oI hm; subst hm
  have hn1 : _ = Lp.brk _ := hn1
  subst hn1
  have hm := thn_brk hq1
  refine xt (x_then (x_then (x_eq (t_then ?_))))
  refine rg (pv (r_mp rfl) (wl rfl (bsS (r := rStr) (l := ([([125] : List UInt8)] : List (List UInt8))) (css := [[.string ⟨([125] : List UInt8).toArray⟩]]) hS4 underlying74 sizeOf9 zeroValue9 rfl rfl (by kernel_rfl) rfl ⟨rfl, trivial⟩ rfl rfl fun w18 a24 n15 c24 im22 hS22 => ?_)))
  obtain ⟨T14, im23, hS23, h14⟩ := hS22.seal 0 ⟨rfl, rfl⟩
  have hsh := h14.len
  subst hsh
  obtain ⟨y7, hx9, hm⟩ := bindS hm
  refine wl rfl (calS cf22 rfl (tree_writer_put_sim (p0 := x3) (H_p0 := H_p0) (p1 := ([([125] : List UInt8)] : List (List UInt8))) (hS23.bun [1] [2, 3] rfl) hL_p0 h14 hx9) rfl fun v7 T15 w19 im24 rv7 => ?_)
  obtain ⟨a25, n16, c25, rfl, hS24, _⟩ := rv7
  have hS24 := hS24.unb
  have hm := oI hm; subst hm
  exact nil (end0 rfl ⟨_, rfl, _, (iT im1 (iT im2 (iT im3 (iT im4 (iT im22 (iT im23 im24)))))), ⟨_, _, _, rfl, hS24.sel [0, 1, 2] rfl, trivial⟩⟩)
theorem tree_writer_stmt_st {G : Rec4} (hG : Sp4 G) {g : World} {T0 : TP} {w0 : World} {R : Assn} {p0 : TreeWriter} {b_p0 o_p0 : Nat} {H_p0 : List Value → Assn} {a1 : OA} {n1 : Nat} {c1 : Nat} {p1 : Stmt} {a2 : OA} {c2 : Nat} {a3 : OA} {c3 : Nat} {a4 : OA} {c4 : Nat} {a5 : OA} {c5 : Nat} {a6 : OA} {c6 : Nat} {a7 : OA} {c7 : Nat} {a8 : OA} {c8 : Nat} {r : TreeWriter} (hS : Sep g T0 w0 [R, H_p0 [.slice a1 n1 c1], ownA rStr 9 (.slice a1 n1 c1) p0.l]) (hL_p0 : Ln b_p0 o_p0 H_p0) (h1 : SlR rGExpr T0 w0 (sv a2 p1.A c2) p1.A) (h2 : SlR rGExpr T0 w0 (sv a3 p1.B c3) p1.B) (h3 : SlR rGExpr T0 w0 (sv a4 p1.C c4) p1.C) (h4 : SlR rGVar T0 w0 (sv a5 p1.Var c5) p1.Var) (h5 : SlR rStmt T0 w0 (sv a6 p1.Body c6) p1.Body) (h6 : SlR rStmt T0 w0 (sv a7 p1.Else c7) p1.Else) (h7 : SlR rGCase T0 w0 (sv a8 p1.Cases c8) p1.Cases) (hG1 : Gc T0 w0 1 (Lib.pow10Tab.map fun z => Value.int .u64 z)) (hm : tree_writer_stmt_b G p0 p1 = some r) :
    Calls Tryz.prog 44 #[pt b_p0 o_p0, .agg (cStmt p1 a2 c2 a3 c3 a4 c4 a5 c5 a6 c6 a7 c7 a8 c8).toArray] w0 (RetS T0 w0 fun T w v => ∃ (a44 : OA) (n35 : Nat) (c44 : Nat), v = .tuple #[] ∧ Sep g T w [R, H_p0 [.slice a44 n35 c44], ownA rStr 9 (.slice a44 n35 c44) r.l] ∧ True) := by
  refine enter (args := [pt b_p0 o_p0, .agg (cStmt p1 a2 c2 a3 c3 a4 c4 a5 c5 a6 c6 a7 c7 a8 c8).toArray]) Tryz.func44 rfl Tryz.ntmps44 rfl fun J => ?_
  unfold tree_writer_stmt_b at hm
  refine sq2 (rg (wl rfl (bxS (cs := (cStmt p1 a2 c2 a3 c3 a4 c4 a5 c5 a6 c6 a7 c7 a8 c8)) rfl rfl hS fun w1 b1 im1 hS1 => ?_)))
  refine nil (t_then ?_)
  refine sq2 (rg (pv (r_fa rfl underlying68 rfl sizeOf3 rfl) (pv (r_ld rfl isAgg3 (hS1.cell0 (i := 0) ⟨rfl, rfl⟩ (j := 0) rfl)) (nil (t_then ?_)))))
  refine blk (sq2 (rg (pv (r_ib rfl rfl rfl) (pv (r_zb rfl) (nil (t_then ?_))))))
  refine cnd rfl (fun hb1 => ?_) (fun hb1 => ?_)
  · have hm := ctrue hb1 hm
    refine sq2 (sq2 (rg (pv (r_fa rfl underlying68 rfl sizeOf24 rfl) (pv (r_ld rfl isAgg24 (hS1.cell0 (i := 0) ⟨rfl, rfl⟩ (j := 6) rfl)) (pv (r_ln rfl underlying24) (pv (r_mi rfl) (nil (t_then ?_))))))))
    obtain ⟨o1, ho1, hq1⟩ := bindS hm
    obtain ⟨bd1, hbd1, ho1⟩ := loop_open ho1
    refine blk (wp_loop_ghost (fun m a w2 => ∃ (J : JV) (T1 : TP) (x3 : TreeWriter) (a9 : OA) (n2 : Nat) (c9 : Nat) (x2 : Int), a = env (nf 120) J [(0, pt b_p0 o_p0), (14, sv a5 p1.Var c5), (15, iv (List.length p1.Var : Int)), (16, iv x2)] ∧ Im T0 w1 T1 w2 ∧ Sep g T1 w2 [R, H_p0 [.slice a9 n2 c9], ownA rStr 9 (.slice a9 n2 c9) x3.l] ∧ loopM bd1 m (x2, x3) = some o1) NN ⟨_, _, p0, _, _, _, 0, env_has ⟨rfl, rfl, rfl, rfl, trivial⟩, Im.refl, hS1.sel [1, 2, 3] rfl, ho1⟩ ?_)
    rintro m _ w2 ⟨J, T1, x3, a9, n2, c9, x2, rfl, im2, hS2, ho1⟩
    obtain ⟨m1, z1, rfl, hm, hn1⟩ := loop_round ho1
    rw [hbd1] at hm
    refine sq2 (rg (pv (r_ib rfl rfl rfl) (nil (t_then ?_))))
    refine sq2 (cnd rfl (fun hb2 => ?_) (fun hb2 => ?_))
    · have hm := ctrue hb2 hm
      refine skp (t_then ?_)
      refine sq2 (blk (sq2 ?_))
      obtain ⟨u1, hx1, hm⟩ := bindS hm
      obtain ⟨b2, of1, cs1, k1, cp1, hv1, hp1, hl1, he1, hr1, hc1, hT1⟩ := (h4.mono (iT im1 im2)).ixT hx1 rfl
      obtain ⟨a10, c10, a11, c11, rfl, h8, h9⟩ := rGVar_open hr1
      refine rg (pv (r_ixe hv1 rfl underlying24 sizeOf58 hp1 hl1 he1) (pv (r_ldS rfl isAgg58 sizeOf58 rfl hc1 (cs := (cGVar u1 a10 c10 a11 c11))) (wl rfl (alS (zs := [iv 0, iv 0, .string ⟨([] : List UInt8).toArray⟩, .string ⟨([] : List UInt8).toArray⟩, iv 0, .string ⟨([] : List UInt8).toArray⟩, .slice none 0 0, .slice none 0 0, .bool false]) zeroValue58 rfl hS2 fun w3 b3 im3 hS3 => ?_))))
      refine wl rfl (st0B (q := 0) hS3 ⟨rfl, rfl⟩ rfl rfl rfl sizeOf58 rfl rfl rfl fun w4 im4 hS4 => ?_)
      refine nil (t_then ?_)
      obtain ⟨y1, hx2, hm⟩ := bindS hm
      refine rg (pv (r_mp rfl) (pv (r_ldS rfl isAgg58 sizeOf58 rfl (hS4.cells0 (i := 0) ⟨rfl, rfl⟩ (o := 0) rfl) (cs := (cGVar u1 a10 c10 a11 c11))) (wl rfl (calS cf23 rfl (tree_writer_variable_sim (p0 := x3) (H_p0 := H_p0) (p1 := u1) (hS4.bun [1] [2, 3] rfl) hL_p0 (h8.mono (iT im3 im4)) (h9.mono (iT im3 im4)) (hG1.mono (iT im1 (iT im2 (iT im3 im4)))) hx2) rfl fun v1 T2 w5 im5 rv1 => ?_))))
      obtain ⟨a12, n3, c12, rfl, hS5, _⟩ := rv1
      have hS5 := hS5.unb
      refine nil (t_blk (t_then ?_))
      have hm := oI hm; subst hm
      exact rg (pv (r_ib rfl rfl rfl) (pv (r_mi rfl) (nil (t_then ⟨m1, Nat.lt_succ_self _, _, _, y1, _, _, _, (IntKind.wrap .i64 (x2 + 1)), env_has ⟨rfl, rfl, rfl, rfl, trivial⟩, (iT im2 (iT im3 (iT im4 im5))), hS5.sel [0, 1, 2] rfl, hn1⟩))))
    have hm := cfalse hb2 hm
    have hm := oI hm; subst hm
    have hn1 : _ = Lp.brk _ := hn1
    subst hn1
    have hm := thn_brk hq1
    refine xt (x_then (x_then (x_eq (t_then ?_))))
    refine rg (pv (r_mp rfl) (wl rfl (bsS (r := rStr) (l := ([([59] : List UInt8)] : List (List UInt8))) (css := [[.string ⟨([59] : List UInt8).toArray⟩]]) hS2 underlying74 sizeOf9 zeroValue9 rfl rfl (by kernel_rfl) rfl ⟨rfl, trivial⟩ rfl rfl fun w6 a13 n4 c13 im6 hS6 => ?_)))
    obtain ⟨T3, im7, hS7, h10⟩ := hS6.seal 0 ⟨rfl, rfl⟩
    have hsh := h10.len
    subst hsh
    obtain ⟨y2, hx3, hm⟩ := bindS hm
    refine wl rfl (calS cf22 rfl (tree_writer_put_sim (p0 := x3) (H_p0 := H_p0) (p1 := ([([59] : List UInt8)] : List (List UInt8))) (hS7.bun [1] [2, 3] rfl) hL_p0 h10 hx3) rfl fun v2 T4 w7 im8 rv2 => ?_)
    obtain ⟨a14, n5, c14, rfl, hS8, _⟩ := rv2
    have hS8 := hS8.unb
    have hm := oI hm; subst hm
    exact nil (t_blk (end0 rfl ⟨_, rfl, _, (iT im1 (iT im2 (iT im6 (iT im7 im8)))), ⟨_, _, _, rfl, hS8.sel [0, 1, 2] rfl, trivial⟩⟩))
  have hm := cfalse hb1 hm
  refine sq2 (rg (pv (r_ib rfl rfl rfl) (pv (r_zb rfl) (nil (t_then ?_)))))
  refine cnd rfl (fun hb3 => ?_) (fun hb3 => ?_)
  · have hm := ctrue hb3 hm
    refine sq2 ?_
    obtain ⟨y3, hx4, hm⟩ := bindS hm
    refine rg (pv (r_mp rfl) (pv (r_fa rfl underlying68 rfl sizeOf56 rfl) (pv (r_ld rfl isAgg56 (hS1.cell0 (i := 0) ⟨rfl, rfl⟩ (j := 3) rfl)) (wl rfl (calS cf73 rfl (tree_writer_asked_sim (p0 := p0) (H_p0 := H_p0) (p1 := ([105, 102] : List UInt8)) (p2 := p1.A) (hS1.bun [0, 1] [2, 3] rfl) hL_p0 (h1.mono im1) (hG1.mono im1) hx4) rfl fun v3 T5 w8 im9 rv3 => ?_)))))
    obtain ⟨a15, n6, c15, rfl, hS9, _⟩ := rv3
    have hS9 := hS9.unb
    refine nil (t_then ?_)
    refine sq2 ?_
    obtain ⟨y4, hx5, hm⟩ := bindS hm
    refine rg (pv (r_mp rfl) (pv (r_fa rfl underlying68 rfl sizeOf62 rfl) (pv (r_ld rfl isAgg62 (hS9.cell0 (i := 0) ⟨rfl, rfl⟩ (j := 7) rfl)) (wl rfl (calS cf25 rfl (hG.tree_writer_block (p0 := y3) (H_p0 := H_p0) (p1 := p1.Body) (hS9.bun [0, 1] [2, 3] rfl) hL_p0 (h5.mono (iT im1 im9)) (hG1.mono (iT im1 im9)) hx5) rfl fun v4 T6 w9 im10 rv4 => ?_)))))
    obtain ⟨a16, n7, c16, rfl, hS10, _⟩ := rv4
    have hS10 := hS10.unb
    refine nil (t_then ?_)
    refine sq2 (rg (pv (r_fa rfl underlying68 rfl sizeOf62 rfl) (pv (r_ld rfl isAgg62 (hS10.cell0 (i := 0) ⟨rfl, rfl⟩ (j := 8) rfl)) (pv (r_ln rfl underlying62) (pv (r_ib rfl rfl rfl) (nil (t_then ?_)))))))
    refine cnd rfl (fun hb4 => ?_) (fun hb4 => ?_)
    · have hm := ctrue hb4 hm
      refine sq2 (rg (pv (r_mp rfl) (wl rfl (bsS (r := rStr) (l := ([([101, 108, 115, 101] : List UInt8)] : List (List UInt8))) (css := [[.string ⟨([101, 108, 115, 101] : List UInt8).toArray⟩]]) hS10 underlying74 sizeOf9 zeroValue9 rfl rfl (by kernel_rfl) rfl ⟨rfl, trivial⟩ rfl rfl fun w10 a17 n8 c17 im11 hS11 => ?_))))
      obtain ⟨T7, im12, hS12, h11⟩ := hS11.seal 0 ⟨rfl, rfl⟩
      have hsh := h11.len
      subst hsh
      obtain ⟨y5, hx6, hm⟩ := bindS hm
      refine wl rfl (calS cf22 rfl (tree_writer_put_sim (p0 := y4) (H_p0 := H_p0) (p1 := ([([101, 108, 115, 101] : List UInt8)] : List (List UInt8))) (hS12.bun [1, 2] [3, 4] rfl) hL_p0 h11 hx6) rfl fun v5 T8 w11 im13 rv5 => ?_)
      obtain ⟨a18, n9, c18, rfl, hS13, _⟩ := rv5
      have hS13 := hS13.unb
      refine nil (t_then ?_)
      obtain ⟨y6, hx7, hm⟩ := bindS hm
      refine rg (pv (r_mp rfl) (pv (r_fa rfl underlying68 rfl sizeOf62 rfl) (pv (r_ld rfl isAgg62 (hS13.cell0 (i := 0) ⟨rfl, rfl⟩ (j := 8) rfl)) (wl rfl (calS cf25 rfl (hG.tree_writer_block (p0 := y5) (H_p0 := H_p0) (p1 := p1.Else) (hS13.bun [1] [2, 3] rfl) hL_p0 (h6.mono (iT im1 (iT im9 (iT im10 (iT im11 (iT im12 im13)))))) (hG1.mono (iT im1 (iT im9 (iT im10 (iT im11 (iT im12 im13)))))) hx7) rfl fun v6 T9 w12 im14 rv6 => ?_)))))
      obtain ⟨a19, n10, c19, rfl, hS14, _⟩ := rv6
      have hS14 := hS14.unb
      have hm := oI hm; subst hm
      exact nil (t_blk (end0 rfl ⟨_, rfl, _, (iT im1 (iT im9 (iT im10 (iT im11 (iT im12 (iT im13 im14)))))), ⟨_, _, _, rfl, hS14.sel [0, 1, 2] rfl, trivial⟩⟩))
    have hm := cfalse hb4 hm
    have hm := oI hm; subst hm
    exact skp (t_blk (end0 rfl ⟨_, rfl, _, (iT im1 (iT im9 im10)), ⟨_, _, _, rfl, hS10.sel [1, 2, 3] rfl, trivial⟩⟩))
  have hm := cfalse hb3 hm
  refine sq2 (rg (pv (r_ib rfl rfl rfl) (pv (r_zb rfl) (nil (t_then ?_)))))
  refine cnd rfl (fun hb5 => ?_) (fun hb5 => ?_)
  · have hm := ctrue hb5 hm
    refine sq2 ?_
    obtain ⟨y7, hx8, hm⟩ := bindS hm
    refine rg (pv (r_mp rfl) (pv (r_fa rfl underlying68 rfl sizeOf56 rfl) (pv (r_ld rfl isAgg56 (hS1.cell0 (i := 0) ⟨rfl, rfl⟩ (j := 3) rfl)) (wl rfl (calS cf73 rfl (tree_writer_asked_sim (p0 := p0) (H_p0 := H_p0) (p1 := ([119, 104, 105, 108, 101] : List UInt8)) (p2 := p1.A) (hS1.bun [0, 1] [2, 3] rfl) hL_p0 (h1.mono im1) (hG1.mono im1) hx8) rfl fun v7 T10 w13 im15 rv7 => ?_)))))
    obtain ⟨a20, n11, c20, rfl, hS15, _⟩ := rv7
    have hS15 := hS15.unb
    refine nil (t_then ?_)
    obtain ⟨y8, hx9, hm⟩ := bindS hm
    refine rg (pv (r_mp rfl) (pv (r_fa rfl underlying68 rfl sizeOf62 rfl) (pv (r_ld rfl isAgg62 (hS15.cell0 (i := 0) ⟨rfl, rfl⟩ (j := 7) rfl)) (wl rfl (calS cf25 rfl (hG.tree_writer_block (p0 := y7) (H_p0 := H_p0) (p1 := p1.Body) (hS15.bun [1] [2, 3] rfl) hL_p0 (h5.mono (iT im1 im15)) (hG1.mono (iT im1 im15)) hx9) rfl fun v8 T11 w14 im16 rv8 => ?_)))))
    obtain ⟨a21, n12, c21, rfl, hS16, _⟩ := rv8
    have hS16 := hS16.unb
    have hm := oI hm; subst hm
    exact nil (t_blk (end0 rfl ⟨_, rfl, _, (iT im1 (iT im15 im16)), ⟨_, _, _, rfl, hS16.sel [0, 1, 2] rfl, trivial⟩⟩))
  have hm := cfalse hb5 hm
  refine sq2 (rg (pv (r_ib rfl rfl rfl) (pv (r_zb rfl) (nil (t_then ?_)))))
  refine cnd rfl (fun hb6 => ?_) (fun hb6 => ?_)
  · have hm := ctrue hb6 hm
    refine sq2 (rg (pv (r_mp rfl) (wl rfl (bsS (r := rStr) (l := ([([100, 111] : List UInt8)] : List (List UInt8))) (css := [[.string ⟨([100, 111] : List UInt8).toArray⟩]]) hS1 underlying74 sizeOf9 zeroValue9 rfl rfl (by kernel_rfl) rfl ⟨rfl, trivial⟩ rfl rfl fun w15 a22 n13 c22 im17 hS17 => ?_))))
    obtain ⟨T12, im18, hS18, h12⟩ := hS17.seal 0 ⟨rfl, rfl⟩
    have hsh := h12.len
    subst hsh
    obtain ⟨y9, hx10, hm⟩ := bindS hm
    refine wl rfl (calS cf22 rfl (tree_writer_put_sim (p0 := p0) (H_p0 := H_p0) (p1 := ([([100, 111] : List UInt8)] : List (List UInt8))) (hS18.bun [1, 2] [3, 4] rfl) hL_p0 h12 hx10) rfl fun v9 T13 w16 im19 rv9 => ?_)
    obtain ⟨a23, n14, c23, rfl, hS19, _⟩ := rv9
    have hS19 := hS19.unb
    refine nil (t_then ?_)
    refine sq2 ?_
    obtain ⟨y10, hx11, hm⟩ := bindS hm
    refine rg (pv (r_mp rfl) (pv (r_fa rfl underlying68 rfl sizeOf62 rfl) (pv (r_ld rfl isAgg62 (hS19.cell0 (i := 0) ⟨rfl, rfl⟩ (j := 7) rfl)) (wl rfl (calS cf25 rfl (hG.tree_writer_block (p0 := y9) (H_p0 := H_p0) (p1 := p1.Body) (hS19.bun [0, 1] [2, 3] rfl) hL_p0 (h5.mono (iT im1 (iT im17 (iT im18 im19)))) (hG1.mono (iT im1 (iT im17 (iT im18 im19)))) hx11) rfl fun v10 T14 w17 im20 rv10 => ?_)))))
    obtain ⟨a24, n15, c24, rfl, hS20, _⟩ := rv10
    have hS20 := hS20.unb
    refine nil (t_then ?_)
    refine sq2 ?_
    obtain ⟨y11, hx12, hm⟩ := bindS hm
    refine rg (pv (r_mp rfl) (pv (r_fa rfl underlying68 rfl sizeOf56 rfl) (pv (r_ld rfl isAgg56 (hS20.cell0 (i := 0) ⟨rfl, rfl⟩ (j := 3) rfl)) (wl rfl (calS cf73 rfl (tree_writer_asked_sim (p0 := y10) (H_p0 := H_p0) (p1 := ([119, 104, 105, 108, 101] : List UInt8)) (p2 := p1.A) (hS20.bun [1] [2, 3] rfl) hL_p0 (h1.mono (iT im1 (iT im17 (iT im18 (iT im19 im20))))) (hG1.mono (iT im1 (iT im17 (iT im18 (iT im19 im20))))) hx12) rfl fun v11 T15 w18 im21 rv11 => ?_)))))
    obtain ⟨a25, n16, c25, rfl, hS21, _⟩ := rv11
    have hS21 := hS21.unb
    refine nil (t_then ?_)
    refine rg (pv (r_mp rfl) (wl rfl (bsS (r := rStr) (l := ([([59] : List UInt8)] : List (List UInt8))) (css := [[.string ⟨([59] : List UInt8).toArray⟩]]) hS21 underlying74 sizeOf9 zeroValue9 rfl rfl (by kernel_rfl) rfl ⟨rfl, trivial⟩ rfl rfl fun w19 a26 n17 c26 im22 hS22 => ?_)))
    obtain ⟨T16, im23, hS23, h13⟩ := hS22.seal 0 ⟨rfl, rfl⟩
    have hsh := h13.len
    subst hsh
    obtain ⟨y12, hx13, hm⟩ := bindS hm
    refine wl rfl (calS cf22 rfl (tree_writer_put_sim (p0 := y11) (H_p0 := H_p0) (p1 := ([([59] : List UInt8)] : List (List UInt8))) (hS23.bun [1] [2, 3] rfl) hL_p0 h13 hx13) rfl fun v12 T17 w20 im24 rv12 => ?_)
    obtain ⟨a27, n18, c27, rfl, hS24, _⟩ := rv12
    have hS24 := hS24.unb
    have hm := oI hm; subst hm
    exact nil (t_blk (end0 rfl ⟨_, rfl, _, (iT im1 (iT im17 (iT im18 (iT im19 (iT im20 (iT im21 (iT im22 (iT im23 im24)))))))), ⟨_, _, _, rfl, hS24.sel [0, 1, 2] rfl, trivial⟩⟩))
  have hm := cfalse hb6 hm
  refine sq2 (rg (pv (r_ib rfl rfl rfl) (pv (r_zb rfl) (nil (t_then ?_)))))
  refine cnd rfl (fun hb7 => ?_) (fun hb7 => ?_)
  · have hm := ctrue hb7 hm
    refine sq2 (rg (pv (r_mp rfl) (wl rfl (bsS (r := rStr) (l := ([([102, 111, 114] : List UInt8), ([40] : List UInt8)] : List (List UInt8))) (css := [[.string ⟨([102, 111, 114] : List UInt8).toArray⟩], [.string ⟨([40] : List UInt8).toArray⟩]]) hS1 underlying74 sizeOf9 zeroValue9 rfl rfl (by kernel_rfl) rfl ⟨rfl, rfl, trivial⟩ rfl rfl fun w21 a28 n19 c28 im25 hS25 => ?_))))
    obtain ⟨T18, im26, hS26, h14⟩ := hS25.seal 0 ⟨rfl, rfl⟩
    have hsh := h14.len
    subst hsh
    obtain ⟨y13, hx14, hm⟩ := bindS hm
    refine wl rfl (calS cf22 rfl (tree_writer_put_sim (p0 := p0) (H_p0 := H_p0) (p1 := ([([102, 111, 114] : List UInt8), ([40] : List UInt8)] : List (List UInt8))) (hS26.bun [1, 2] [3, 4] rfl) hL_p0 h14 hx14) rfl fun v13 T19 w22 im27 rv13 => ?_)
    obtain ⟨a29, n20, c29, rfl, hS27, _⟩ := rv13
    have hS27 := hS27.unb
    refine nil (t_then ?_)
    refine sq2 ?_
    obtain ⟨y14, hx15, hm⟩ := bindS hm
    refine rg (pv (r_mp rfl) (pv (r_fa rfl underlying68 rfl sizeOf56 rfl) (pv (r_ld rfl isAgg56 (hS27.cell0 (i := 0) ⟨rfl, rfl⟩ (j := 3) rfl)) (wl rfl (calS cf43 rfl (tree_writer_list_sim (p0 := y13) (H_p0 := H_p0) (p1 := p1.A) (hS27.bun [0, 1] [2, 3] rfl) hL_p0 (h1.mono (iT im1 (iT im25 (iT im26 im27)))) (hG1.mono (iT im1 (iT im25 (iT im26 im27)))) hx15) rfl fun v14 T20 w23 im28 rv14 => ?_)))))
    obtain ⟨a30, n21, c30, rfl, hS28, _⟩ := rv14
    have hS28 := hS28.unb
    refine nil (t_then ?_)
    refine sq2 (rg (pv (r_mp rfl) (wl rfl (bsS (r := rStr) (l := ([([59] : List UInt8)] : List (List UInt8))) (css := [[.string ⟨([59] : List UInt8).toArray⟩]]) hS28 underlying74 sizeOf9 zeroValue9 rfl rfl (by kernel_rfl) rfl ⟨rfl, trivial⟩ rfl rfl fun w24 a31 n22 c31 im29 hS29 => ?_))))
    obtain ⟨T21, im30, hS30, h15⟩ := hS29.seal 0 ⟨rfl, rfl⟩
    have hsh := h15.len
    subst hsh
    obtain ⟨y15, hx16, hm⟩ := bindS hm
    refine wl rfl (calS cf22 rfl (tree_writer_put_sim (p0 := y14) (H_p0 := H_p0) (p1 := ([([59] : List UInt8)] : List (List UInt8))) (hS30.bun [1, 2] [3, 4] rfl) hL_p0 h15 hx16) rfl fun v15 T22 w25 im31 rv15 => ?_)
    obtain ⟨a32, n23, c32, rfl, hS31, _⟩ := rv15
    have hS31 := hS31.unb
    refine nil (t_then ?_)
    refine sq2 ?_
    obtain ⟨y16, hx17, hm⟩ := bindS hm
    refine rg (pv (r_mp rfl) (pv (r_fa rfl underlying68 rfl sizeOf56 rfl) (pv (r_ld rfl isAgg56 (hS31.cell0 (i := 0) ⟨rfl, rfl⟩ (j := 4) rfl)) (wl rfl (calS cf43 rfl (tree_writer_list_sim (p0 := y15) (H_p0 := H_p0) (p1 := p1.B) (hS31.bun [0, 1] [2, 3] rfl) hL_p0 (h2.mono (iT im1 (iT im25 (iT im26 (iT im27 (iT im28 (iT im29 (iT im30 im31)))))))) (hG1.mono (iT im1 (iT im25 (iT im26 (iT im27 (iT im28 (iT im29 (iT im30 im31)))))))) hx17) rfl fun v16 T23 w26 im32 rv16 => ?_)))))
    obtain ⟨a33, n24, c33, rfl, hS32, _⟩ := rv16
    have hS32 := hS32.unb
    refine nil (t_thenR [(0, pt b_p0 o_p0), (3, pt b1 0)] ⟨rfl, rfl, trivial⟩ fun J => ?_)
    refine sq2 (rg (pv (r_mp rfl) (wl rfl (bsS (r := rStr) (l := ([([59] : List UInt8)] : List (List UInt8))) (css := [[.string ⟨([59] : List UInt8).toArray⟩]]) hS32 underlying74 sizeOf9 zeroValue9 rfl rfl (by kernel_rfl) rfl ⟨rfl, trivial⟩ rfl rfl fun w27 a34 n25 c34 im33 hS33 => ?_))))
    obtain ⟨T24, im34, hS34, h16⟩ := hS33.seal 0 ⟨rfl, rfl⟩
    have hsh := h16.len
    subst hsh
    obtain ⟨y17, hx18, hm⟩ := bindS hm
    refine wl rfl (calS cf22 rfl (tree_writer_put_sim (p0 := y16) (H_p0 := H_p0) (p1 := ([([59] : List UInt8)] : List (List UInt8))) (hS34.bun [1, 2] [3, 4] rfl) hL_p0 h16 hx18) rfl fun v17 T25 w28 im35 rv17 => ?_)
    obtain ⟨a35, n26, c35, rfl, hS35, _⟩ := rv17
    have hS35 := hS35.unb
    refine nil (t_then ?_)
    refine sq2 ?_
    obtain ⟨y18, hx19, hm⟩ := bindS hm
    refine rg (pv (r_mp rfl) (pv (r_fa rfl underlying68 rfl sizeOf56 rfl) (pv (r_ld rfl isAgg56 (hS35.cell0 (i := 0) ⟨rfl, rfl⟩ (j := 5) rfl)) (wl rfl (calS cf43 rfl (tree_writer_list_sim (p0 := y17) (H_p0 := H_p0) (p1 := p1.C) (hS35.bun [0, 1] [2, 3] rfl) hL_p0 (h3.mono (iT im1 (iT im25 (iT im26 (iT im27 (iT im28 (iT im29 (iT im30 (iT im31 (iT im32 (iT im33 (iT im34 im35)))))))))))) (hG1.mono (iT im1 (iT im25 (iT im26 (iT im27 (iT im28 (iT im29 (iT im30 (iT im31 (iT im32 (iT im33 (iT im34 im35)))))))))))) hx19) rfl fun v18 T26 w29 im36 rv18 => ?_)))))
    obtain ⟨a36, n27, c36, rfl, hS36, _⟩ := rv18
    have hS36 := hS36.unb
    refine nil (t_then ?_)
    refine sq2 (rg (pv (r_mp rfl) (wl rfl (bsS (r := rStr) (l := ([([41] : List UInt8)] : List (List UInt8))) (css := [[.string ⟨([41] : List UInt8).toArray⟩]]) hS36 underlying74 sizeOf9 zeroValue9 rfl rfl (by kernel_rfl) rfl ⟨rfl, trivial⟩ rfl rfl fun w30 a37 n28 c37 im37 hS37 => ?_))))
    obtain ⟨T27, im38, hS38, h17⟩ := hS37.seal 0 ⟨rfl, rfl⟩
    have hsh := h17.len
    subst hsh
    obtain ⟨y19, hx20, hm⟩ := bindS hm
    refine wl rfl (calS cf22 rfl (tree_writer_put_sim (p0 := y18) (H_p0 := H_p0) (p1 := ([([41] : List UInt8)] : List (List UInt8))) (hS38.bun [1, 2] [3, 4] rfl) hL_p0 h17 hx20) rfl fun v19 T28 w31 im39 rv19 => ?_)
    obtain ⟨a38, n29, c38, rfl, hS39, _⟩ := rv19
    have hS39 := hS39.unb
    refine nil (t_then ?_)
    obtain ⟨y20, hx21, hm⟩ := bindS hm
    refine rg (pv (r_mp rfl) (pv (r_fa rfl underlying68 rfl sizeOf62 rfl) (pv (r_ld rfl isAgg62 (hS39.cell0 (i := 0) ⟨rfl, rfl⟩ (j := 7) rfl)) (wl rfl (calS cf25 rfl (hG.tree_writer_block (p0 := y19) (H_p0 := H_p0) (p1 := p1.Body) (hS39.bun [1] [2, 3] rfl) hL_p0 (h5.mono (iT im1 (iT im25 (iT im26 (iT im27 (iT im28 (iT im29 (iT im30 (iT im31 (iT im32 (iT im33 (iT im34 (iT im35 (iT im36 (iT im37 (iT im38 im39)))))))))))))))) (hG1.mono (iT im1 (iT im25 (iT im26 (iT im27 (iT im28 (iT im29 (iT im30 (iT im31 (iT im32 (iT im33 (iT im34 (iT im35 (iT im36 (iT im37 (iT im38 im39)))))))))))))))) hx21) rfl fun v20 T29 w32 im40 rv20 => ?_)))))
    obtain ⟨a39, n30, c39, rfl, hS40, _⟩ := rv20
    have hS40 := hS40.unb
    have hm := oI hm; subst hm
    exact nil (t_blk (end0 rfl ⟨_, rfl, _, (iT im1 (iT im25 (iT im26 (iT im27 (iT im28 (iT im29 (iT im30 (iT im31 (iT im32 (iT im33 (iT im34 (iT im35 (iT im36 (iT im37 (iT im38 (iT im39 im40)))))))))))))))), ⟨_, _, _, rfl, hS40.sel [0, 1, 2] rfl, trivial⟩⟩))
  have hm := cfalse hb7 hm
  refine sq2 (rg (pv (r_ib rfl rfl rfl) (pv (r_zb rfl) (nil (t_then ?_)))))
  refine cnd rfl (fun hb8 => ?_) (fun hb8 => ?_)
  · have hm := ctrue hb8 hm
    refine sq2 ?_
    obtain ⟨y21, hx22, hm⟩ := bindS hm
    refine rg (pv (r_mp rfl) (pv (r_fa rfl underlying68 rfl sizeOf56 rfl) (pv (r_ld rfl isAgg56 (hS1.cell0 (i := 0) ⟨rfl, rfl⟩ (j := 3) rfl)) (wl rfl (calS cf73 rfl (tree_writer_asked_sim (p0 := p0) (H_p0 := H_p0) (p1 := ([115, 119, 105, 116, 99, 104] : List UInt8)) (p2 := p1.A) (hS1.bun [0, 1] [2, 3] rfl) hL_p0 (h1.mono im1) (hG1.mono im1) hx22) rfl fun v21 T30 w33 im41 rv21 => ?_)))))
    obtain ⟨a40, n31, c40, rfl, hS41, _⟩ := rv21
    have hS41 := hS41.unb
    refine nil (t_then ?_)
    obtain ⟨y22, hx23, hm⟩ := bindS hm
    refine rg (pv (r_mp rfl) (pv (r_fa rfl underlying68 rfl sizeOf66 rfl) (pv (r_ld rfl isAgg66 (hS41.cell0 (i := 0) ⟨rfl, rfl⟩ (j := 9) rfl)) (wl rfl (calS cf74 rfl (hG.tree_writer_cases (p0 := y21) (H_p0 := H_p0) (p1 := p1.Cases) (hS41.bun [1] [2, 3] rfl) hL_p0 (h7.mono (iT im1 im41)) (hG1.mono (iT im1 im41)) hx23) rfl fun v22 T31 w34 im42 rv22 => ?_)))))
    obtain ⟨a41, n32, c41, rfl, hS42, _⟩ := rv22
    have hS42 := hS42.unb
    have hm := oI hm; subst hm
    exact nil (t_blk (end0 rfl ⟨_, rfl, _, (iT im1 (iT im41 im42)), ⟨_, _, _, rfl, hS42.sel [0, 1, 2] rfl, trivial⟩⟩))
  have hm := cfalse hb8 hm
  refine sq2 (rg (pv (r_ib rfl rfl rfl) (pv (r_zb rfl) (nil (t_then ?_)))))
  refine cnd rfl (fun hb9 => ?_) (fun hb9 => ?_)
  · have hm := ctrue hb9 hm
    obtain ⟨y23, hx24, hm⟩ := bindS hm
    refine rg (pv (r_mp rfl) (pv (r_fa rfl underlying68 rfl sizeOf62 rfl) (pv (r_ld rfl isAgg62 (hS1.cell0 (i := 0) ⟨rfl, rfl⟩ (j := 7) rfl)) (wl rfl (calS cf25 rfl (hG.tree_writer_block (p0 := p0) (H_p0 := H_p0) (p1 := p1.Body) (hS1.bun [1] [2, 3] rfl) hL_p0 (h5.mono im1) (hG1.mono im1) hx24) rfl fun v23 T32 w35 im43 rv23 => ?_)))))
    obtain ⟨a42, n33, c42, rfl, hS43, _⟩ := rv23
    have hS43 := hS43.unb
    have hm := oI hm; subst hm
    exact nil (t_blk (end0 rfl ⟨_, rfl, _, (iT im1 im43), ⟨_, _, _, rfl, hS43.sel [0, 1, 2] rfl, trivial⟩⟩))
  have hm := cfalse hb9 hm
  obtain ⟨y24, hx25, hm⟩ := bindS hm
  refine rg (pv (r_mp rfl) (pv (r_ldS rfl isAgg68 sizeOf68 rfl (hS1.cells0 (i := 0) ⟨rfl, rfl⟩ (o := 0) rfl) (cs := (cStmt p1 a2 c2 a3 c3 a4 c4 a5 c5 a6 c6 a7 c7 a8 c8))) (wl rfl (calS cf75 rfl (tree_writer_short_sim (p0 := p0) (H_p0 := H_p0) (p1 := p1) (hS1.bun [1] [2, 3] rfl) hL_p0 (h1.mono im1) (h2.mono im1) (h3.mono im1) (h4.mono im1) (h5.mono im1) (h6.mono im1) (h7.mono im1) (hG1.mono im1) hx25) rfl fun v24 T33 w36 im44 rv24 => ?_))))
  obtain ⟨a43, n34, c43, rfl, hS44, _⟩ := rv24
  have hS44 := hS44.unb
  have hm := oI hm; subst hm
  exact nil (t_blk (end0 rfl ⟨_, rfl, _, (iT im1 im44), ⟨_, _, _, rfl, hS44.sel [0, 1, 2] rfl, trivial⟩⟩))
theorem tree_writer_block_st {G : Rec4} (hG : Sp4 G) {g : World} {T0 : TP} {w0 : World} {R : Assn} {p0 : TreeWriter} {b_p0 o_p0 : Nat} {H_p0 : List Value → Assn} {a1 : OA} {n1 : Nat} {c1 : Nat} {p1 : List Stmt} {a2 : OA} {c2 : Nat} {r : TreeWriter} (hS : Sep g T0 w0 [R, H_p0 [.slice a1 n1 c1], ownA rStr 9 (.slice a1 n1 c1) p0.l]) (hL_p0 : Ln b_p0 o_p0 H_p0) (h1 : SlR rStmt T0 w0 (sv a2 p1 c2) p1) (hG1 : Gc T0 w0 1 (Lib.pow10Tab.map fun z => Value.int .u64 z)) (hm : tree_writer_block_b G p0 p1 = some r) :
    Calls Tryz.prog 25 #[pt b_p0 o_p0, sv a2 p1 c2] w0 (RetS T0 w0 fun T w v => ∃ (a16 : OA) (n8 : Nat) (c16 : Nat), v = .tuple #[] ∧ Sep g T w [R, H_p0 [.slice a16 n8 c16], ownA rStr 9 (.slice a16 n8 c16) r.l] ∧ True) := by
  refine enter (args := [pt b_p0 o_p0, sv a2 p1 c2]) Tryz.func25 rfl Tryz.ntmps25 rfl fun J => ?_
  unfold tree_writer_block_b at hm
  refine sq2 (rg (pv (r_mp rfl) (wl rfl (bsS (r := rStr) (l := ([([123] : List UInt8)] : List (List UInt8))) (css := [[.string ⟨([123] : List UInt8).toArray⟩]]) hS underlying74 sizeOf9 zeroValue9 rfl rfl (by kernel_rfl) rfl ⟨rfl, trivial⟩ rfl rfl fun w1 a3 n2 c3 im1 hS1 => ?_))))
  obtain ⟨T1, im2, hS2, h2⟩ := hS1.seal 0 ⟨rfl, rfl⟩
  have hsh := h2.len
  subst hsh
  obtain ⟨y1, hx1, hm⟩ := bindS hm
  refine wl rfl (calS cf22 rfl (tree_writer_put_sim (p0 := p0) (H_p0 := H_p0) (p1 := ([([123] : List UInt8)] : List (List UInt8))) (hS2.bun [1] [2, 3] rfl) hL_p0 h2 hx1) rfl fun v1 T2 w2 im3 rv1 => ?_)
  obtain ⟨a4, n3, c4, rfl, hS3, _⟩ := rv1
  have hS3 := hS3.unb
  refine nil (t_then ?_)
  refine sq2 (sq2 (rg (pv (r_ms rfl) (pv (r_ln rfl underlying62) (pv (r_mi rfl) (nil (t_then ?_)))))))
  obtain ⟨o1, ho1, hq1⟩ := bindS hm
  obtain ⟨bd1, hbd1, ho1⟩ := loop_open ho1
  refine blk (wp_loop_ghost (fun m a w3 => ∃ (J : JV) (T3 : TP) (x3 : TreeWriter) (a5 : OA) (n4 : Nat) (c5 : Nat) (x2 : Int), a = env (nf 22) J [(0, pt b_p0 o_p0), (9, sv a2 p1 c2), (10, iv (List.length p1 : Int)), (11, iv x2)] ∧ Im T2 w2 T3 w3 ∧ Sep g T3 w3 [R, H_p0 [.slice a5 n4 c5], ownA rStr 9 (.slice a5 n4 c5) x3.l] ∧ loopM bd1 m (x2, x3) = some o1) NN ⟨_, _, y1, _, _, _, 0, env_has ⟨rfl, rfl, rfl, rfl, trivial⟩, Im.refl, hS3.sel [0, 1, 2] rfl, ho1⟩ ?_)
  rintro m _ w3 ⟨J, T3, x3, a5, n4, c5, x2, rfl, im4, hS4, ho1⟩
  obtain ⟨m1, z1, rfl, hm, hn1⟩ := loop_round ho1
  rw [hbd1] at hm
  refine sq2 (rg (pv (r_ib rfl rfl rfl) (nil (t_then ?_))))
  refine sq2 (cnd rfl (fun hb1 => ?_) (fun hb1 => ?_))
  · have hm := ctrue hb1 hm
    refine skp (t_then ?_)
    refine sq2 (blk (sq2 ?_))
    obtain ⟨u1, hx2, hm⟩ := bindS hm
    obtain ⟨b1, of1, cs1, k1, cp1, hv1, hp1, hl1, he1, hr1, hc1, hT1⟩ := (h1.mono (iT im1 (iT im2 (iT im3 im4)))).ixT hx2 rfl
    obtain ⟨a6, c6, a7, c7, a8, c8, a9, c9, a10, c10, a11, c11, a12, c12, rfl, h3, h4, h5, h6, h7, h8, h9⟩ := rStmt_open hr1
    refine rg (pv (r_ixe hv1 rfl underlying62 sizeOf68 hp1 hl1 he1) (pv (r_ldS rfl isAgg68 sizeOf68 rfl hc1 (cs := (cStmt u1 a6 c6 a7 c7 a8 c8 a9 c9 a10 c10 a11 c11 a12 c12))) (wl rfl (alS (zs := [iv 0, iv 0, iv 0, .slice none 0 0, .slice none 0 0, .slice none 0 0, .slice none 0 0, .slice none 0 0, .slice none 0 0, .slice none 0 0]) zeroValue68 rfl hS4 fun w4 b2 im5 hS5 => ?_))))
    refine wl rfl (st0B (q := 0) hS5 ⟨rfl, rfl⟩ rfl rfl rfl sizeOf68 rfl rfl rfl fun w5 im6 hS6 => ?_)
    refine nil (t_then ?_)
    obtain ⟨y2, hx3, hm⟩ := bindS hm
    refine rg (pv (r_mp rfl) (pv (r_ldS rfl isAgg68 sizeOf68 rfl (hS6.cells0 (i := 0) ⟨rfl, rfl⟩ (o := 0) rfl) (cs := (cStmt u1 a6 c6 a7 c7 a8 c8 a9 c9 a10 c10 a11 c11 a12 c12))) (wl rfl (calS cf44 rfl (hG.tree_writer_stmt (p0 := x3) (H_p0 := H_p0) (p1 := u1) (hS6.bun [1] [2, 3] rfl) hL_p0 (h3.mono (iT im5 im6)) (h4.mono (iT im5 im6)) (h5.mono (iT im5 im6)) (h6.mono (iT im5 im6)) (h7.mono (iT im5 im6)) (h8.mono (iT im5 im6)) (h9.mono (iT im5 im6)) (hG1.mono (iT im1 (iT im2 (iT im3 (iT im4 (iT im5 im6)))))) hx3) rfl fun v2 T4 w6 im7 rv2 => ?_))))
    obtain ⟨a13, n5, c13, rfl, hS7, _⟩ := rv2
    have hS7 := hS7.unb
    refine nil (t_blk (t_then ?_))
    have hm := oI hm; subst hm
    exact rg (pv (r_ib rfl rfl rfl) (pv (r_mi rfl) (nil (t_then ⟨m1, Nat.lt_succ_self _, _, _, y2, _, _, _, (IntKind.wrap .i64 (x2 + 1)), env_has ⟨rfl, rfl, rfl, rfl, trivial⟩, (iT im4 (iT im5 (iT im6 im7))), hS7.sel [0, 1, 2] rfl, hn1⟩))))
  have hm := cfalse hb1 hm
  have hm := oI hm; subst hm
  have hn1 : _ = Lp.brk _ := hn1
  subst hn1
  have hm := thn_brk hq1
  refine xt (x_then (x_then (x_eq (t_then ?_))))
  refine rg (pv (r_mp rfl) (wl rfl (bsS (r := rStr) (l := ([([125] : List UInt8)] : List (List UInt8))) (css := [[.string ⟨([125] : List UInt8).toArray⟩]]) hS4 underlying74 sizeOf9 zeroValue9 rfl rfl (by kernel_rfl) rfl ⟨rfl, trivial⟩ rfl rfl fun w7 a14 n6 c14 im8 hS8 => ?_)))
  obtain ⟨T5, im9, hS9, h10⟩ := hS8.seal 0 ⟨rfl, rfl⟩
  have hsh := h10.len
  subst hsh
  obtain ⟨y3, hx4, hm⟩ := bindS hm
  refine wl rfl (calS cf22 rfl (tree_writer_put_sim (p0 := x3) (H_p0 := H_p0) (p1 := ([([125] : List UInt8)] : List (List UInt8))) (hS9.bun [1] [2, 3] rfl) hL_p0 h10 hx4) rfl fun v3 T6 w8 im10 rv3 => ?_)
  obtain ⟨a15, n7, c15, rfl, hS10, _⟩ := rv3
  have hS10 := hS10.unb
  have hm := oI hm; subst hm
  exact nil (end0 rfl ⟨_, rfl, _, (iT im1 (iT im2 (iT im3 (iT im4 (iT im8 (iT im9 im10)))))), ⟨_, _, _, rfl, hS10.sel [0, 1, 2] rfl, trivial⟩⟩)
theorem sp4 : ∀ n, Sp4 (rec4 n)
  | 0 => ⟨(by intros; rename_i h; cases (show (none : Option _) = some _ from h)), (by intros; rename_i h; cases (show (none : Option _) = some _ from h)), (by intros; rename_i h; cases (show (none : Option _) = some _ from h))⟩
  | n + 1 => ⟨tree_writer_cases_st (sp4 n), tree_writer_stmt_st (sp4 n), tree_writer_block_st (sp4 n)⟩
theorem tree_writer_cases_sim {p0 : TreeWriter} {b_p0 o_p0 : Nat} {H_p0 : List Value → Assn} {a1 : OA} {n1 : Nat} {c1 : Nat} {p1 : List GCase} {a2 : OA} {c2 : Nat} {r : TreeWriter} (hS : Sep g T0 w0 [R, H_p0 [.slice a1 n1 c1], ownA rStr 9 (.slice a1 n1 c1) p0.l]) (hL_p0 : Ln b_p0 o_p0 H_p0) (h1 : SlR rGCase T0 w0 (sv a2 p1 c2) p1) (hG1 : Gc T0 w0 1 (Lib.pow10Tab.map fun z => Value.int .u64 z)) (hm : tree_writer_cases p0 p1 = some r) :
    Calls Tryz.prog 74 #[pt b_p0 o_p0, sv a2 p1 c2] w0 (RetS T0 w0 fun T w v => ∃ (a26 : OA) (n17 : Nat) (c26 : Nat), v = .tuple #[] ∧ Sep g T w [R, H_p0 [.slice a26 n17 c26], ownA rStr 9 (.slice a26 n17 c26) r.l] ∧ True) := (sp4 NN).tree_writer_cases hS hL_p0 h1 hG1 hm
theorem tree_writer_stmt_sim {p0 : TreeWriter} {b_p0 o_p0 : Nat} {H_p0 : List Value → Assn} {a1 : OA} {n1 : Nat} {c1 : Nat} {p1 : Stmt} {a2 : OA} {c2 : Nat} {a3 : OA} {c3 : Nat} {a4 : OA} {c4 : Nat} {a5 : OA} {c5 : Nat} {a6 : OA} {c6 : Nat} {a7 : OA} {c7 : Nat} {a8 : OA} {c8 : Nat} {r : TreeWriter} (hS : Sep g T0 w0 [R, H_p0 [.slice a1 n1 c1], ownA rStr 9 (.slice a1 n1 c1) p0.l]) (hL_p0 : Ln b_p0 o_p0 H_p0) (h1 : SlR rGExpr T0 w0 (sv a2 p1.A c2) p1.A) (h2 : SlR rGExpr T0 w0 (sv a3 p1.B c3) p1.B) (h3 : SlR rGExpr T0 w0 (sv a4 p1.C c4) p1.C) (h4 : SlR rGVar T0 w0 (sv a5 p1.Var c5) p1.Var) (h5 : SlR rStmt T0 w0 (sv a6 p1.Body c6) p1.Body) (h6 : SlR rStmt T0 w0 (sv a7 p1.Else c7) p1.Else) (h7 : SlR rGCase T0 w0 (sv a8 p1.Cases c8) p1.Cases) (hG1 : Gc T0 w0 1 (Lib.pow10Tab.map fun z => Value.int .u64 z)) (hm : tree_writer_stmt p0 p1 = some r) :
    Calls Tryz.prog 44 #[pt b_p0 o_p0, .agg (cStmt p1 a2 c2 a3 c3 a4 c4 a5 c5 a6 c6 a7 c7 a8 c8).toArray] w0 (RetS T0 w0 fun T w v => ∃ (a44 : OA) (n35 : Nat) (c44 : Nat), v = .tuple #[] ∧ Sep g T w [R, H_p0 [.slice a44 n35 c44], ownA rStr 9 (.slice a44 n35 c44) r.l] ∧ True) := (sp4 NN).tree_writer_stmt hS hL_p0 h1 h2 h3 h4 h5 h6 h7 hG1 hm
theorem tree_writer_block_sim {p0 : TreeWriter} {b_p0 o_p0 : Nat} {H_p0 : List Value → Assn} {a1 : OA} {n1 : Nat} {c1 : Nat} {p1 : List Stmt} {a2 : OA} {c2 : Nat} {r : TreeWriter} (hS : Sep g T0 w0 [R, H_p0 [.slice a1 n1 c1], ownA rStr 9 (.slice a1 n1 c1) p0.l]) (hL_p0 : Ln b_p0 o_p0 H_p0) (h1 : SlR rStmt T0 w0 (sv a2 p1 c2) p1) (hG1 : Gc T0 w0 1 (Lib.pow10Tab.map fun z => Value.int .u64 z)) (hm : tree_writer_block p0 p1 = some r) :
    Calls Tryz.prog 25 #[pt b_p0 o_p0, sv a2 p1 c2] w0 (RetS T0 w0 fun T w v => ∃ (a16 : OA) (n8 : Nat) (c16 : Nat), v = .tuple #[] ∧ Sep g T w [R, H_p0 [.slice a16 n8 c16], ownA rStr 9 (.slice a16 n8 c16) r.l] ∧ True) := (sp4 NN).tree_writer_block hS hL_p0 h1 hG1 hm

theorem tree_Print_sim {p0 : GProgram} {a1 : OA} {c1 : Nat} {a2 : OA} {c2 : Nat} {a3 : OA} {c3 : Nat} {r : (List UInt8)} (hS : Sep g T0 w0 [R]) (h1 : SlR rGStruct T0 w0 (sv a1 p0.Structs c1) p0.Structs) (h2 : SlR rGVar T0 w0 (sv a2 p0.Globals c2) p0.Globals) (h3 : SlR rGFunc T0 w0 (sv a3 p0.Funcs c3) p0.Funcs) (hG1 : Gc T0 w0 1 (Lib.pow10Tab.map fun z => Value.int .u64 z)) (hm : tree_Print p0 = some r) :
    Calls Tryz.prog 9 #[.agg #[sv a1 p0.Structs c1, sv a2 p0.Globals c2, sv a3 p0.Funcs c3]] w0 (RetS T0 w0 fun T w v => v = .string ⟨r.toArray⟩ ∧ Sep g T w [R] ∧ True) := by
  refine enter (args := [.agg #[sv a1 p0.Structs c1, sv a2 p0.Globals c2, sv a3 p0.Funcs c3]]) Tryz.func9 rfl Tryz.ntmps9 rfl fun J => ?_
  unfold tree_Print at hm
  refine sq2 (rg (wl rfl (bxS (cs := [sv a1 p0.Structs c1, sv a2 p0.Globals c2, sv a3 p0.Funcs c3]) rfl rfl hS fun w1 b1 im1 hS1 => ?_)))
  refine pv (r_zt rfl) (nil (t_then ?_))
  refine sq2 (rg (pv (r_bd (by kernel_rfl) rfl (u := .agg #[.slice none 0 0])) (wl rfl (bxS (cs := [.slice none 0 0]) rfl rfl hS1 fun w2 b2 im2 hS2 => ?_))))
  refine pv (r_zp rfl) (nil (t_then ?_))
  refine sq2 (sq2 (rg (pv (r_fa rfl underlying27 rfl sizeOf23 rfl) (pv (r_ld rfl isAgg23 (hS2.cell0 (i := 1) ⟨rfl, rfl⟩ (j := 0) rfl)) (pv (r_ln rfl underlying23) (pv (r_mi rfl) (nil (t_then ?_))))))))
  obtain ⟨o1, ho1, hq1⟩ := bindS hm
  obtain ⟨bd1, hbd1, ho1⟩ := loop_open ho1
  have hS3 := hS2.nilO rStr 9
  refine blk (wp_loop_ghost (fun m a w3 => ∃ (J : JV) (T1 : TP) (x3 : TreeWriter) (a4 : OA) (n1 : Nat) (c4 : Nat) (x2 : Int), a = env (nf 106) J [(1, pt b1 0), (3, pt b2 0), (17, sv a1 p0.Structs c1), (18, iv (List.length p0.Structs : Int)), (19, iv x2)] ∧ Im T0 w2 T1 w3 ∧ Sep g T1 w3 [ownA rStr 9 (.slice a4 n1 c4) x3.l, boxA b2 [.slice a4 n1 c4], boxA b1 [sv a1 p0.Structs c1, sv a2 p0.Globals c2, sv a3 p0.Funcs c3], R] ∧ loopM bd1 m (x2, x3) = some o1) NN ⟨_, _, (⟨[]⟩ : TreeWriter), _, _, _, 0, env_has ⟨rfl, rfl, rfl, rfl, rfl, trivial⟩, Im.refl, hS3.sel [0, 1, 2, 3] rfl, ho1⟩ ?_)
  rintro m _ w3 ⟨J, T1, x3, a4, n1, c4, x2, rfl, im3, hS4, ho1⟩
  obtain ⟨m1, z1, rfl, hm, hn1⟩ := loop_round ho1
  rw [hbd1] at hm
  refine sq2 (rg (pv (r_ib rfl rfl rfl) (nil (t_then ?_))))
  refine sq2 (cnd rfl (fun hb1 => ?_) (fun hb1 => ?_))
  · have hm := ctrue hb1 hm
    refine skp (t_then ?_)
    refine sq2 (blk (sq2 ?_))
    obtain ⟨u1, hx1, hm⟩ := bindS hm
    obtain ⟨b3, of1, cs1, k1, cp1, hv1, hp1, hl1, he1, hr1, hc1, hT1⟩ := (h1.mono (iT im1 (iT im2 im3))).ixT hx1 rfl
    obtain ⟨a5, c5, rfl, h4⟩ := rGStruct_open hr1
    refine rg (pv (r_ixe hv1 rfl underlying23 sizeOf51 hp1 hl1 he1) (pv (r_ldS rfl isAgg51 sizeOf51 rfl hc1 (cs := (cGStruct u1 a5 c5))) (wl rfl (alS (zs := [iv 0, iv 0, .string ⟨([] : List UInt8).toArray⟩, .slice none 0 0]) zeroValue51 rfl hS4 fun w4 b4 im4 hS5 => ?_))))
    refine wl rfl (st0B (q := 0) hS5 ⟨rfl, rfl⟩ rfl rfl rfl sizeOf51 rfl rfl rfl fun w5 im5 hS6 => ?_)
    refine nil (t_then ?_)
    refine sq2 (rg (pv (r_mp rfl) (pv (r_fa rfl underlying51 rfl sizeOf9 rfl) (pv (r_ld rfl isAgg9 (hS6.cell0 (i := 0) ⟨rfl, rfl⟩ (j := 2) rfl)) (wl rfl (bsS (r := rStr) (l := ([([115, 116, 114, 117, 99, 116] : List UInt8), u1.Name, ([123] : List UInt8)] : List (List UInt8))) (css := [[.string ⟨([115, 116, 114, 117, 99, 116] : List UInt8).toArray⟩], [.string ⟨u1.Name.toArray⟩], [.string ⟨([123] : List UInt8).toArray⟩]]) hS6 underlying74 sizeOf9 zeroValue9 rfl rfl (by kernel_rfl) rfl ⟨rfl, rfl, rfl, trivial⟩ rfl rfl fun w6 a6 n2 c6 im6 hS7 => ?_))))))
    obtain ⟨T2, im7, hS8, h5⟩ := hS7.seal 0 ⟨rfl, rfl⟩
    have hsh := h5.len
    subst hsh
    obtain ⟨y1, hx2, hm⟩ := bindS hm
    refine wl rfl (calS cf22 rfl (tree_writer_put_sim (p0 := x3) (H_p0 := boxA b2) (p1 := ([([115, 116, 114, 117, 99, 116] : List UInt8), u1.Name, ([123] : List UInt8)] : List (List UInt8))) (hS8.bun [1, 4, 5] [3, 2] rfl) (lnBox b2) h5 hx2) rfl fun v1 T3 w7 im8 rv1 => ?_)
    obtain ⟨a7, n3, c7, rfl, hS9, _⟩ := rv1
    have hS9 := hS9.unb
    refine nil (t_then ?_)
    refine sq2 (sq2 (rg (pv (r_fa rfl underlying51 rfl sizeOf24 rfl) (pv (r_ld rfl isAgg24 (hS9.cell0 (i := 0) ⟨rfl, rfl⟩ (j := 3) rfl)) (pv (r_ln rfl underlying24) (pv (r_mi rfl) (nil (t_then ?_))))))))
    obtain ⟨o2, ho2, hq2⟩ := bindS hm
    obtain ⟨bd2, hbd2, ho2⟩ := loop_open ho2
    refine blk (wp_loop_ghost (fun m a w8 => ∃ (J : JV) (T4 : TP) (x6 : TreeWriter) (a8 : OA) (n4 : Nat) (c8 : Nat) (x5 : Int), a = env (nf 106) J [(1, pt b1 0), (3, pt b2 0), (17, sv a1 p0.Structs c1), (18, iv (List.length p0.Structs : Int)), (19, iv x2), (29, sv a5 u1.Fields c5), (30, iv (List.length u1.Fields : Int)), (31, iv x5)] ∧ Im T3 w7 T4 w8 ∧ Sep g T4 w8 [boxA b1 [sv a1 p0.Structs c1, sv a2 p0.Globals c2, sv a3 p0.Funcs c3], R, boxA b2 [.slice a8 n4 c8], ownA rStr 9 (.slice a8 n4 c8) x6.l] ∧ loopM bd2 m (x5, x6) = some o2) NN ⟨_, _, y1, _, _, _, 0, env_has ⟨rfl, rfl, rfl, rfl, rfl, rfl, rfl, rfl, trivial⟩, Im.refl, hS9.sel [1, 2, 3, 4] rfl, ho2⟩ ?_)
    rintro m _ w8 ⟨J, T4, x6, a8, n4, c8, x5, rfl, im9, hS10, ho2⟩
    obtain ⟨m2, z2, rfl, hm, hn2⟩ := loop_round ho2
    rw [hbd2] at hm
    refine sq2 (rg (pv (r_ib rfl rfl rfl) (nil (t_then ?_))))
    refine sq2 (cnd rfl (fun hb2 => ?_) (fun hb2 => ?_))
    · have hm := ctrue hb2 hm
      refine skp (t_then ?_)
      refine sq2 (blk (sq2 ?_))
      obtain ⟨u2, hx3, hm⟩ := bindS hm
      obtain ⟨b5, of2, cs2, k2, cp2, hv2, hp2, hl2, he2, hr2, hc2, hT2⟩ := (h4.mono (iT im4 (iT im5 (iT im6 (iT im7 (iT im8 im9)))))).ixT hx3 rfl
      obtain ⟨a9, c9, a10, c10, rfl, h6, h7⟩ := rGVar_open hr2
      refine rg (pv (r_ixe hv2 rfl underlying24 sizeOf58 hp2 hl2 he2) (pv (r_ldS rfl isAgg58 sizeOf58 rfl hc2 (cs := (cGVar u2 a9 c9 a10 c10))) (wl rfl (alS (zs := [iv 0, iv 0, .string ⟨([] : List UInt8).toArray⟩, .string ⟨([] : List UInt8).toArray⟩, iv 0, .string ⟨([] : List UInt8).toArray⟩, .slice none 0 0, .slice none 0 0, .bool false]) zeroValue58 rfl hS10 fun w9 b6 im10 hS11 => ?_))))
      refine wl rfl (st0B (q := 0) hS11 ⟨rfl, rfl⟩ rfl rfl rfl sizeOf58 rfl rfl rfl fun w10 im11 hS12 => ?_)
      refine nil (t_then ?_)
      refine sq2 ?_
      obtain ⟨y2, hx4, hm⟩ := bindS hm
      refine rg (pv (r_mp rfl) (pv (r_ldS rfl isAgg58 sizeOf58 rfl (hS12.cells0 (i := 0) ⟨rfl, rfl⟩ (o := 0) rfl) (cs := (cGVar u2 a9 c9 a10 c10))) (wl rfl (calS cf23 rfl (tree_writer_variable_sim (p0 := x6) (H_p0 := boxA b2) (p1 := u2) (hS12.bun [1, 2] [3, 4] rfl) (lnBox b2) (h6.mono (iT im10 im11)) (h7.mono (iT im10 im11)) (hG1.mono (iT im1 (iT im2 (iT im3 (iT im4 (iT im5 (iT im6 (iT im7 (iT im8 (iT im9 (iT im10 im11))))))))))) hx4) rfl fun v2 T5 w11 im12 rv2 => ?_))))
      obtain ⟨a11, n5, c11, rfl, hS13, _⟩ := rv2
      have hS13 := hS13.unb
      refine nil (t_then ?_)
      refine rg (pv (r_mp rfl) (wl rfl (bsS (r := rStr) (l := ([([59] : List UInt8)] : List (List UInt8))) (css := [[.string ⟨([59] : List UInt8).toArray⟩]]) hS13 underlying74 sizeOf9 zeroValue9 rfl rfl (by kernel_rfl) rfl ⟨rfl, trivial⟩ rfl rfl fun w12 a12 n6 c12 im13 hS14 => ?_)))
      obtain ⟨T6, im14, hS15, h8⟩ := hS14.seal 0 ⟨rfl, rfl⟩
      have hsh := h8.len
      subst hsh
      obtain ⟨y3, hx5, hm⟩ := bindS hm
      refine wl rfl (calS cf22 rfl (tree_writer_put_sim (p0 := y2) (H_p0 := boxA b2) (p1 := ([([59] : List UInt8)] : List (List UInt8))) (hS15.bun [1, 2] [3, 4] rfl) (lnBox b2) h8 hx5) rfl fun v3 T7 w13 im15 rv3 => ?_)
      obtain ⟨a13, n7, c13, rfl, hS16, _⟩ := rv3
      have hS16 := hS16.unb
      refine nil (t_blk (t_then ?_))
      have hm := oI hm; subst hm
      exact rg (pv (r_ib rfl rfl rfl) (pv (r_mi rfl) (nil (t_then ⟨m2, Nat.lt_succ_self _, _, _, y3, _, _, _, (IntKind.wrap .i64 (x5 + 1)), env_has ⟨rfl, rfl, rfl, rfl, rfl, rfl, rfl, rfl, trivial⟩, (iT im9 (iT im10 (iT im11 (iT im12 (iT im13 (iT im14 im15)))))), hS16.sel [0, 1, 2, 3] rfl, hn2⟩))))
    have hm := cfalse hb2 hm
    have hm := oI hm; subst hm
    have hn2 : _ = Lp.brk _ := hn2
    subst hn2
    have hm := thn_brk hq2
    refine xt (x_then (x_then (x_eq (t_then ?_))))
    refine rg (pv (r_mp rfl) (wl rfl (bsS (r := rStr) (l := ([([125] : List UInt8), ([59] : List UInt8)] : List (List UInt8))) (css := [[.string ⟨([125] : List UInt8).toArray⟩], [.string ⟨([59] : List UInt8).toArray⟩]]) hS10 underlying74 sizeOf9 zeroValue9 rfl rfl (by kernel_rfl) rfl ⟨rfl, rfl, trivial⟩ rfl rfl fun w14 a14 n8 c14 im16 hS17 => ?_)))
    obtain ⟨T8, im17, hS18, h9⟩ := hS17.seal 0 ⟨rfl, rfl⟩
    have hsh := h9.len
    subst hsh
    obtain ⟨y4, hx6, hm⟩ := bindS hm
    refine wl rfl (calS cf22 rfl (tree_writer_put_sim (p0 := x6) (H_p0 := boxA b2) (p1 := ([([125] : List UInt8), ([59] : List UInt8)] : List (List UInt8))) (hS18.bun [1, 2] [3, 4] rfl) (lnBox b2) h9 hx6) rfl fun v4 T9 w15 im18 rv4 => ?_)
    obtain ⟨a15, n9, c15, rfl, hS19, _⟩ := rv4
    have hS19 := hS19.unb
    refine nil (t_blk (t_then ?_))
    have hm := oI hm; subst hm
    exact rg (pv (r_ib rfl rfl rfl) (pv (r_mi rfl) (nil (t_then ⟨m1, Nat.lt_succ_self _, _, _, y4, _, _, _, (IntKind.wrap .i64 (x2 + 1)), env_has ⟨rfl, rfl, rfl, rfl, rfl, trivial⟩, (iT im3 (iT im4 (iT im5 (iT im6 (iT im7 (iT im8 (iT im9 (iT im16 (iT im17 im18))))))))), hS19.sel [3, 2, 0, 1] rfl, hn1⟩))))
  have hm := cfalse hb1 hm
  have hm := oI hm; subst hm
  have hn1 : _ = Lp.brk _ := hn1
  subst hn1
  have hm := thn_brk hq1
  refine xt (x_then (x_then (x_eq (t_then ?_))))
  refine sq2 (sq2 (rg (pv (r_fa rfl underlying27 rfl sizeOf24 rfl) (pv (r_ld rfl isAgg24 (hS4.cell0 (i := 2) ⟨rfl, rfl⟩ (j := 1) rfl)) (pv (r_ln rfl underlying24) (pv (r_mi rfl) (nil (t_then ?_))))))))
  obtain ⟨o1, ho1, hq1⟩ := bindS hm
  obtain ⟨bd1, hbd1, ho1⟩ := loop_open ho1
  refine blk (wp_loop_ghost (fun m a w16 => ∃ (J : JV) (T10 : TP) (x9 : TreeWriter) (a16 : OA) (n10 : Nat) (c16 : Nat) (x8 : Int), a = env (nf 106) J [(1, pt b1 0), (3, pt b2 0), (47, sv a2 p0.Globals c2), (48, iv (List.length p0.Globals : Int)), (49, iv x8)] ∧ Im T1 w3 T10 w16 ∧ Sep g T10 w16 [ownA rStr 9 (.slice a16 n10 c16) x9.l, boxA b2 [.slice a16 n10 c16], boxA b1 [sv a1 p0.Structs c1, sv a2 p0.Globals c2, sv a3 p0.Funcs c3], R] ∧ loopM bd1 m (x8, x9) = some o1) NN ⟨_, _, x3, _, _, _, 0, env_has ⟨rfl, rfl, rfl, rfl, rfl, trivial⟩, Im.refl, hS4.sel [0, 1, 2, 3] rfl, ho1⟩ ?_)
  rintro m _ w16 ⟨J, T10, x9, a16, n10, c16, x8, rfl, im19, hS20, ho1⟩
  obtain ⟨m1, z1, rfl, hm, hn1⟩ := loop_round ho1
  rw [hbd1] at hm
  refine sq2 (rg (pv (r_ib rfl rfl rfl) (nil (t_then ?_))))
  refine sq2 (cnd rfl (fun hb3 => ?_) (fun hb3 => ?_))
  · have hm := ctrue hb3 hm
    refine skp (t_then ?_)
    refine sq2 (blk (sq2 ?_))
    obtain ⟨u3, hx7, hm⟩ := bindS hm
    obtain ⟨b7, of3, cs3, k3, cp3, hv3, hp3, hl3, he3, hr3, hc3, hT3⟩ := (h2.mono (iT im1 (iT im2 (iT im3 im19)))).ixT hx7 rfl
    obtain ⟨a17, c17, a18, c18, rfl, h10, h11⟩ := rGVar_open hr3
    refine rg (pv (r_ixe hv3 rfl underlying24 sizeOf58 hp3 hl3 he3) (pv (r_ldS rfl isAgg58 sizeOf58 rfl hc3 (cs := (cGVar u3 a17 c17 a18 c18))) (wl rfl (alS (zs := [iv 0, iv 0, .string ⟨([] : List UInt8).toArray⟩, .string ⟨([] : List UInt8).toArray⟩, iv 0, .string ⟨([] : List UInt8).toArray⟩, .slice none 0 0, .slice none 0 0, .bool false]) zeroValue58 rfl hS20 fun w17 b8 im20 hS21 => ?_))))
    refine wl rfl (st0B (q := 0) hS21 ⟨rfl, rfl⟩ rfl rfl rfl sizeOf58 rfl rfl rfl fun w18 im21 hS22 => ?_)
    refine nil (t_then ?_)
    refine sq2 ?_
    obtain ⟨y5, hx8, hm⟩ := bindS hm
    refine rg (pv (r_mp rfl) (pv (r_ldS rfl isAgg58 sizeOf58 rfl (hS22.cells0 (i := 0) ⟨rfl, rfl⟩ (o := 0) rfl) (cs := (cGVar u3 a17 c17 a18 c18))) (wl rfl (calS cf23 rfl (tree_writer_variable_sim (p0 := x9) (H_p0 := boxA b2) (p1 := u3) (hS22.bun [3, 4] [2, 1] rfl) (lnBox b2) (h10.mono (iT im20 im21)) (h11.mono (iT im20 im21)) (hG1.mono (iT im1 (iT im2 (iT im3 (iT im19 (iT im20 im21)))))) hx8) rfl fun v5 T11 w19 im22 rv5 => ?_))))
    obtain ⟨a19, n11, c19, rfl, hS23, _⟩ := rv5
    have hS23 := hS23.unb
    refine nil (t_then ?_)
    refine rg (pv (r_mp rfl) (wl rfl (bsS (r := rStr) (l := ([([59] : List UInt8)] : List (List UInt8))) (css := [[.string ⟨([59] : List UInt8).toArray⟩]]) hS23 underlying74 sizeOf9 zeroValue9 rfl rfl (by kernel_rfl) rfl ⟨rfl, trivial⟩ rfl rfl fun w20 a20 n12 c20 im23 hS24 => ?_)))
    obtain ⟨T12, im24, hS25, h12⟩ := hS24.seal 0 ⟨rfl, rfl⟩
    have hsh := h12.len
    subst hsh
    obtain ⟨y6, hx9, hm⟩ := bindS hm
    refine wl rfl (calS cf22 rfl (tree_writer_put_sim (p0 := y5) (H_p0 := boxA b2) (p1 := ([([59] : List UInt8)] : List (List UInt8))) (hS25.bun [1, 2] [3, 4] rfl) (lnBox b2) h12 hx9) rfl fun v6 T13 w21 im25 rv6 => ?_)
    obtain ⟨a21, n13, c21, rfl, hS26, _⟩ := rv6
    have hS26 := hS26.unb
    refine nil (t_blk (t_then ?_))
    have hm := oI hm; subst hm
    exact rg (pv (r_ib rfl rfl rfl) (pv (r_mi rfl) (nil (t_then ⟨m1, Nat.lt_succ_self _, _, _, y6, _, _, _, (IntKind.wrap .i64 (x8 + 1)), env_has ⟨rfl, rfl, rfl, rfl, rfl, trivial⟩, (iT im19 (iT im20 (iT im21 (iT im22 (iT im23 (iT im24 im25)))))), hS26.sel [3, 2, 0, 1] rfl, hn1⟩))))
  have hm := cfalse hb3 hm
  have hm := oI hm; subst hm
  have hn1 : _ = Lp.brk _ := hn1
  subst hn1
  have hm := thn_brk hq1
  refine xt (x_then (x_then (x_eq (t_then ?_))))
  refine sq2 (sq2 (rg (pv (r_fa rfl underlying27 rfl sizeOf25 rfl) (pv (r_ld rfl isAgg25 (hS20.cell0 (i := 2) ⟨rfl, rfl⟩ (j := 2) rfl)) (pv (r_ln rfl underlying25) (pv (r_mi rfl) (nil (t_then ?_))))))))
  obtain ⟨o1, ho1, hq1⟩ := bindS hm
  obtain ⟨bd1, hbd1, ho1⟩ := loop_open ho1
  refine blk (wp_loop_ghost (fun m a w22 => ∃ (J : JV) (T14 : TP) (x12 : TreeWriter) (a22 : OA) (n14 : Nat) (c22 : Nat) (x11 : Int), a = env (nf 106) J [(3, pt b2 0), (61, sv a3 p0.Funcs c3), (62, iv (List.length p0.Funcs : Int)), (63, iv x11)] ∧ Im T10 w16 T14 w22 ∧ Sep g T14 w22 [ownA rStr 9 (.slice a22 n14 c22) x12.l, boxA b2 [.slice a22 n14 c22], R] ∧ loopM bd1 m (x11, x12) = some o1) NN ⟨_, _, x9, _, _, _, 0, env_has ⟨rfl, rfl, rfl, rfl, trivial⟩, Im.refl, hS20.sel [0, 1, 3] rfl, ho1⟩ ?_)
  rintro m _ w22 ⟨J, T14, x12, a22, n14, c22, x11, rfl, im26, hS27, ho1⟩
  obtain ⟨m1, z1, rfl, hm, hn1⟩ := loop_round ho1
  rw [hbd1] at hm
  refine sq2 (rg (pv (r_ib rfl rfl rfl) (nil (t_then ?_))))
  refine sq2 (cnd rfl (fun hb4 => ?_) (fun hb4 => ?_))
  · have hm := ctrue hb4 hm
    refine skp (t_then ?_)
    refine sq2 (blk (sq2 ?_))
    obtain ⟨u4, hx10, hm⟩ := bindS hm
    obtain ⟨b9, of4, cs4, k4, cp4, hv4, hp4, hl4, he4, hr4, hc4, hT4⟩ := (h3.mono (iT im1 (iT im2 (iT im3 (iT im19 im26))))).ixT hx10 rfl
    obtain ⟨a23, c23, a24, c24, rfl, h13, h14⟩ := rGFunc_open hr4
    refine rg (pv (r_ixe hv4 rfl underlying25 sizeOf64 hp4 hl4 he4) (pv (r_ldS rfl isAgg64 sizeOf64 rfl hc4 (cs := (cGFunc u4 a23 c23 a24 c24))) (wl rfl (alS (zs := [iv 0, iv 0, .string ⟨([] : List UInt8).toArray⟩, .string ⟨([] : List UInt8).toArray⟩, iv 0, .string ⟨([] : List UInt8).toArray⟩, .slice none 0 0, .slice none 0 0]) zeroValue64 rfl hS27 fun w23 b10 im27 hS28 => ?_))))
    refine wl rfl (st0B (q := 0) hS28 ⟨rfl, rfl⟩ rfl rfl rfl sizeOf64 rfl rfl rfl fun w24 im28 hS29 => ?_)
    refine nil (t_then ?_)
    refine sq2 ?_
    obtain ⟨y7, hx11, hm⟩ := bindS hm
    refine rg (pv (r_mp rfl) (pv (r_fa rfl underlying64 rfl sizeOf54 rfl) (pv (r_ldS rfl isAgg54 sizeOf54 rfl (hS29.cells0 (i := 0) ⟨rfl, rfl⟩ (o := 2) rfl) (cs := (cTypeName u4.Ret))) (wl rfl (calS cf24 rfl (tree_writer_typeName_sim (p0 := x12) (H_p0 := boxA b2) (p1 := u4.Ret) (hS29.bun [0, 3] [2, 1] rfl) (lnBox b2) hx11) rfl fun v7 T15 w25 im29 rv7 => ?_)))))
    obtain ⟨a25, n15, c25, rfl, hS30, _⟩ := rv7
    have hS30 := hS30.unb
    refine nil (t_then ?_)
    refine sq2 (rg (pv (r_mp rfl) (pv (r_fa rfl underlying64 rfl sizeOf9 rfl) (pv (r_ld rfl isAgg9 (hS30.cell0 (i := 0) ⟨rfl, rfl⟩ (j := 5) rfl)) (wl rfl (bsS (r := rStr) (l := ([u4.Name, ([40] : List UInt8)] : List (List UInt8))) (css := [[.string ⟨u4.Name.toArray⟩], [.string ⟨([40] : List UInt8).toArray⟩]]) hS30 underlying74 sizeOf9 zeroValue9 rfl rfl (by kernel_rfl) rfl ⟨rfl, rfl, trivial⟩ rfl rfl fun w26 a26 n16 c26 im30 hS31 => ?_))))))
    obtain ⟨T16, im31, hS32, h15⟩ := hS31.seal 0 ⟨rfl, rfl⟩
    have hsh := h15.len
    subst hsh
    obtain ⟨y8, hx12, hm⟩ := bindS hm
    refine wl rfl (calS cf22 rfl (tree_writer_put_sim (p0 := y7) (H_p0 := boxA b2) (p1 := ([u4.Name, ([40] : List UInt8)] : List (List UInt8))) (hS32.bun [1, 2] [3, 4] rfl) (lnBox b2) h15 hx12) rfl fun v8 T17 w27 im32 rv8 => ?_)
    obtain ⟨a27, n17, c27, rfl, hS33, _⟩ := rv8
    have hS33 := hS33.unb
    refine nil (t_then ?_)
    refine sq2 (sq2 (rg (pv (r_fa rfl underlying64 rfl sizeOf24 rfl) (pv (r_ld rfl isAgg24 (hS33.cell0 (i := 0) ⟨rfl, rfl⟩ (j := 6) rfl)) (pv (r_ln rfl underlying24) (pv (r_mi rfl) (nil (t_then ?_))))))))
    obtain ⟨o2, ho2, hq2⟩ := bindS hm
    obtain ⟨bd2, hbd2, ho2⟩ := loop_open ho2
    refine blk (wp_loop_ghost (fun m a w28 => ∃ (J : JV) (T18 : TP) (x15 : TreeWriter) (a28 : OA) (n18 : Nat) (c28 : Nat) (x14 : Int), a = env (nf 106) J [(3, pt b2 0), (11, pt b10 0), (61, sv a3 p0.Funcs c3), (62, iv (List.length p0.Funcs : Int)), (63, iv x11), (77, sv a23 u4.Params c23), (78, iv (List.length u4.Params : Int)), (79, iv x14)] ∧ Im T17 w27 T18 w28 ∧ Sep g T18 w28 [boxA b10 (cGFunc u4 a23 c23 a24 c24), R, boxA b2 [.slice a28 n18 c28], ownA rStr 9 (.slice a28 n18 c28) x15.l] ∧ loopM bd2 m (x14, x15) = some o2) NN ⟨_, _, y8, _, _, _, 0, env_has ⟨rfl, rfl, rfl, rfl, rfl, rfl, rfl, rfl, trivial⟩, Im.refl, hS33.sel [0, 1, 2, 3] rfl, ho2⟩ ?_)
    rintro m _ w28 ⟨J, T18, x15, a28, n18, c28, x14, rfl, im33, hS34, ho2⟩
    obtain ⟨m2, z2, rfl, hm, hn2⟩ := loop_round ho2
    rw [hbd2] at hm
    refine sq2 (rg (pv (r_ib rfl rfl rfl) (nil (t_then ?_))))
    refine sq2 (cnd rfl (fun hb5 => ?_) (fun hb5 => ?_))
    · have hm := ctrue hb5 hm
      refine skp (t_then ?_)
      refine sq2 (blk (sq2 ?_))
      obtain ⟨u5, hx13, hm⟩ := bindS hm
      obtain ⟨b11, of5, cs5, k5, cp5, hv5, hp5, hl5, he5, hr5, hc5, hT5⟩ := (h13.mono (iT im27 (iT im28 (iT im29 (iT im30 (iT im31 (iT im32 im33))))))).ixT hx13 rfl
      obtain ⟨a29, c29, a30, c30, rfl, h16, h17⟩ := rGVar_open hr5
      refine rg (pv (r_mi rfl) (pv (r_ixe hv5 rfl underlying24 sizeOf58 hp5 hl5 he5) (pv (r_ldS rfl isAgg58 sizeOf58 rfl hc5 (cs := (cGVar u5 a29 c29 a30 c30))) (wl rfl (alS (zs := [iv 0, iv 0, .string ⟨([] : List UInt8).toArray⟩, .string ⟨([] : List UInt8).toArray⟩, iv 0, .string ⟨([] : List UInt8).toArray⟩, .slice none 0 0, .slice none 0 0, .bool false]) zeroValue58 rfl hS34 fun w29 b12 im34 hS35 => ?_)))))
      refine pv (r_zi rfl) (wl rfl (st0B (q := 0) hS35 ⟨rfl, rfl⟩ rfl rfl rfl sizeOf58 rfl rfl rfl fun w30 im35 hS36 => ?_))
      refine nil (t_then ?_)
      obtain ⟨kk1, hkk1, hm⟩ := jn_open hm
      refine cut (fun a w31 => ∃ (J : JV) (T19 : TP) (x17 : TreeWriter) (a31 : OA) (n19 : Nat) (c31 : Nat), a = env (nf 106) J [(3, pt b2 0), (11, pt b10 0), (13, pt b12 0), (61, sv a3 p0.Funcs c3), (62, iv (List.length p0.Funcs : Int)), (63, iv x11), (77, sv a23 u4.Params c23), (78, iv (List.length u4.Params : Int)), (79, iv x14)] ∧ Im T18 w30 T19 w31 ∧ Sep g T19 w31 [boxA b12 (cGVar u5 a29 c29 a30 c30), boxA b10 (cGFunc u4 a23 c23 a24 c24), R, boxA b2 [.slice a31 n19 c31], ownA rStr 9 (.slice a31 n19 c31) x17.l] ∧ kk1 x17 = some z2) ?_ ?_
      · refine sq2 (rg (pv (r_mi rfl) (pv (r_ib rfl rfl rfl) (nil (t_then ?_)))))
        refine cnd rfl (fun hb6 => ?_) (fun hb6 => ?_)
        · have hm := ctrue hb6 hm
          refine rg (pv (r_mp rfl) (wl rfl (bsS (r := rStr) (l := ([([44] : List UInt8)] : List (List UInt8))) (css := [[.string ⟨([44] : List UInt8).toArray⟩]]) hS36 underlying74 sizeOf9 zeroValue9 rfl rfl (by kernel_rfl) rfl ⟨rfl, trivial⟩ rfl rfl fun w32 a32 n20 c32 im37 hS37 => ?_)))
          obtain ⟨T20, im38, hS38, h18⟩ := hS37.seal 0 ⟨rfl, rfl⟩
          have hsh := h18.len
          subst hsh
          obtain ⟨y9, hx14, hm⟩ := bindS hm
          refine wl rfl (calS cf22 rfl (tree_writer_put_sim (p0 := x15) (H_p0 := boxA b2) (p1 := ([([44] : List UInt8)] : List (List UInt8))) (hS38.bun [1, 2, 3] [4, 5] rfl) (lnBox b2) h18 hx14) rfl fun v9 T21 w33 im39 rv9 => ?_)
          obtain ⟨a33, n21, c33, rfl, hS39, _⟩ := rv9
          have hS39 := hS39.unb
          exact nil (t_then ⟨_, _, y9, _, _, _, env_has ⟨rfl, rfl, rfl, rfl, rfl, rfl, rfl, rfl, rfl, trivial⟩, (iT im37 (iT im38 im39)), hS39.sel [0, 1, 2, 3, 4] rfl, hm⟩)
        have hm := cfalse hb6 hm
        exact skp (t_then ⟨_, _, x15, _, _, _, env_has ⟨rfl, rfl, rfl, rfl, rfl, rfl, rfl, rfl, rfl, trivial⟩, Im.refl, hS36.sel [0, 1, 2, 3, 4] rfl, hm⟩)
      rintro _ w31 ⟨J, T19, x17, a31, n19, c31, rfl, im36, hS40, hm⟩
      rw [hkk1] at hm
      obtain ⟨y10, hx15, hm⟩ := bindS hm
      refine rg (pv (r_mp rfl) (pv (r_ldS rfl isAgg58 sizeOf58 rfl (hS40.cells0 (i := 0) ⟨rfl, rfl⟩ (o := 0) rfl) (cs := (cGVar u5 a29 c29 a30 c30))) (wl rfl (calS cf23 rfl (tree_writer_variable_sim (p0 := x17) (H_p0 := boxA b2) (p1 := u5) (hS40.bun [1, 2] [3, 4] rfl) (lnBox b2) (h16.mono (iT im34 (iT im35 im36))) (h17.mono (iT im34 (iT im35 im36))) (hG1.mono (iT im1 (iT im2 (iT im3 (iT im19 (iT im26 (iT im27 (iT im28 (iT im29 (iT im30 (iT im31 (iT im32 (iT im33 (iT im34 (iT im35 im36))))))))))))))) hx15) rfl fun v10 T22 w34 im40 rv10 => ?_))))
      obtain ⟨a34, n22, c34, rfl, hS41, _⟩ := rv10
      have hS41 := hS41.unb
      refine nil (t_blk (t_then ?_))
      have hm := oI hm; subst hm
      exact rg (pv (r_ib rfl rfl rfl) (pv (r_mi rfl) (nil (t_then ⟨m2, Nat.lt_succ_self _, _, _, y10, _, _, _, (IntKind.wrap .i64 (x14 + 1)), env_has ⟨rfl, rfl, rfl, rfl, rfl, rfl, rfl, rfl, trivial⟩, (iT im33 (iT im34 (iT im35 (iT im36 im40)))), hS41.sel [0, 1, 2, 3] rfl, hn2⟩))))
    have hm := cfalse hb5 hm
    have hm := oI hm; subst hm
    have hn2 : _ = Lp.brk _ := hn2
    subst hn2
    have hm := thn_brk hq2
    refine xt (x_then (x_then (x_eq (t_then ?_))))
    refine sq2 (rg (pv (r_mp rfl) (wl rfl (bsS (r := rStr) (l := ([([41] : List UInt8)] : List (List UInt8))) (css := [[.string ⟨([41] : List UInt8).toArray⟩]]) hS34 underlying74 sizeOf9 zeroValue9 rfl rfl (by kernel_rfl) rfl ⟨rfl, trivial⟩ rfl rfl fun w35 a35 n23 c35 im41 hS42 => ?_))))
    obtain ⟨T23, im42, hS43, h19⟩ := hS42.seal 0 ⟨rfl, rfl⟩
    have hsh := h19.len
    subst hsh
    obtain ⟨y11, hx16, hm⟩ := bindS hm
    refine wl rfl (calS cf22 rfl (tree_writer_put_sim (p0 := x15) (H_p0 := boxA b2) (p1 := ([([41] : List UInt8)] : List (List UInt8))) (hS43.bun [1, 2] [3, 4] rfl) (lnBox b2) h19 hx16) rfl fun v11 T24 w36 im43 rv11 => ?_)
    obtain ⟨a36, n24, c36, rfl, hS44, _⟩ := rv11
    have hS44 := hS44.unb
    refine nil (t_then ?_)
    obtain ⟨y12, hx17, hm⟩ := bindS hm
    refine rg (pv (r_mp rfl) (pv (r_fa rfl underlying64 rfl sizeOf62 rfl) (pv (r_ld rfl isAgg62 (hS44.cell0 (i := 0) ⟨rfl, rfl⟩ (j := 7) rfl)) (wl rfl (calS cf25 rfl (tree_writer_block_sim (p0 := y11) (H_p0 := boxA b2) (p1 := u4.Body) (hS44.bun [1] [2, 3] rfl) (lnBox b2) (h14.mono (iT im27 (iT im28 (iT im29 (iT im30 (iT im31 (iT im32 (iT im33 (iT im41 (iT im42 im43)))))))))) (hG1.mono (iT im1 (iT im2 (iT im3 (iT im19 (iT im26 (iT im27 (iT im28 (iT im29 (iT im30 (iT im31 (iT im32 (iT im33 (iT im41 (iT im42 im43))))))))))))))) hx17) rfl fun v12 T25 w37 im44 rv12 => ?_)))))
    obtain ⟨a37, n25, c37, rfl, hS45, _⟩ := rv12
    have hS45 := hS45.unb
    refine nil (t_blk (t_then ?_))
    have hm := oI hm; subst hm
    exact rg (pv (r_ib rfl rfl rfl) (pv (r_mi rfl) (nil (t_then ⟨m1, Nat.lt_succ_self _, _, _, y12, _, _, _, (IntKind.wrap .i64 (x11 + 1)), env_has ⟨rfl, rfl, rfl, rfl, trivial⟩, (iT im26 (iT im27 (iT im28 (iT im29 (iT im30 (iT im31 (iT im32 (iT im33 (iT im41 (iT im42 (iT im43 im44))))))))))), hS45.sel [2, 1, 0] rfl, hn1⟩))))
  have hm := cfalse hb4 hm
  have hm := oI hm; subst hm
  have hn1 : _ = Lp.brk _ := hn1
  subst hn1
  have hm := thn_brk hq1
  refine xt (x_then (x_then (x_eq (t_then ?_))))
  refine sq2 (rg (pv (r_mp rfl) (pv (r_nc rfl) (pv (r_fa rfl underlying76 rfl sizeOf74 rfl) (pv (r_ld rfl isAgg74 (hS27.cell0 (i := 1) ⟨rfl, rfl⟩ (j := 0) rfl)) (?_))))))
  obtain ⟨T26, im45, hS46, h20⟩ := hS27.seal 0 ⟨rfl, rfl⟩
  have hsh := h20.len
  subst hsh
  obtain ⟨y13, hx18, hm⟩ := bindS hm
  refine wl rfl (calS cf26 rfl (strings_Join_sim (p0 := x12.l) (p1 := ([32] : List UInt8)) (hS46.bun [2] [] rfl) h20 hx18) rfl fun v13 T27 w38 im46 rv13 => ?_)
  obtain ⟨rfl, hS47, _⟩ := rv13
  have hS47 := hS47.unb
  refine pv (r_zt rfl) (nil (t_then ?_))
  have hm := oI hm; subst hm
  exact rtn (ret1 rfl rfl ⟨_, rfl, _, (iT im1 (iT im2 (iT im3 (iT im19 (iT im26 (iT im45 im46)))))), ⟨rfl, hS47.sel [0] rfl, trivial⟩⟩)

theorem law09_awake_sim  {r : Bool} (hS : Sep g T0 w0 [R]) (hG0 : Gi T0 w0 0) (hG1 : Gc T0 w0 1 (Lib.pow10Tab.map fun z => Value.int .u64 z)) (hm : law09_awake = some r) :
    Calls Tryz.prog 5 #[] w0 (RetS T0 w0 fun T w v => v = .bool r ∧ Sep g T w [R] ∧ True) := by
  refine enter (args := []) Tryz.func5 rfl Tryz.ntmps5 rfl fun J => ?_
  unfold law09_awake at hm
  refine sq2 (rg (pv (r_zb rfl) (nil (t_then ?_))))
  refine sq2 ?_
  obtain ⟨y1, hx1, hm⟩ := bindS hm
  refine rg (wl rfl (calS cf6 rfl (tree_Read_sim (p0 := ([105, 110, 116, 32, 109, 97, 105, 110, 40, 41, 32, 123, 32, 114, 101, 116, 117, 114, 110, 32, 49, 32, 43, 32, 50, 32, 42, 32, 51, 59, 32, 125] : List UInt8)) (hS.bun [0] [] rfl) hG0 hx1) rfl fun v1 T1 w1 im1 rv1 => ?_))
  obtain ⟨a1, c1, a2, c2, a3, c3, rfl, hS1, h1, h2, h3, _⟩ := rv1
  have hS1 := hS1.unb
  refine pv (r_mv rfl) (pv (r_ex (v := .agg #[sv a1 y1.1.Structs c1, sv a2 y1.1.Globals c2, sv a3 y1.1.Funcs c3]) rfl rfl) (pv (r_ex (v := .agg #[iv y1.2.1.Line, iv y1.2.1.Col]) rfl rfl) (pv (r_ex (v := iv y1.2.2) rfl rfl) (wl rfl (alS (zs := [.slice none 0 0, .slice none 0 0, .slice none 0 0]) zeroValue27 rfl hS1 fun w2 b1 im2 hS2 => ?_)))))
  refine wl rfl (alS (zs := [iv 0, iv 0]) zeroValue29 rfl hS2 fun w3 b2 im3 hS3 => ?_)
  refine wl rfl (st0B (q := 1) hS3 ⟨rfl, rfl⟩ rfl rfl rfl sizeOf27 rfl rfl rfl fun w4 im4 hS4 => ?_)
  refine wl rfl (st0B (q := 0) hS4 ⟨rfl, rfl⟩ rfl rfl rfl sizeOf29 rfl rfl rfl fun w5 im5 hS5 => ?_)
  refine pv (r_zi rfl) (nil (t_then ?_))
  refine sq2 (rg (pv (r_mi rfl) (pv (r_ib rfl rfl rfl) (pv (r_mb rfl) (?_)))))
  rcases Bool.eq_false_or_eq_true (y1.2.2 == 0) with hb1 | hb1
  · have hm := ctrue hb1 hm
    refine gT (d0 := 11) rfl rfl hb1 (pv (r_fa rfl underlying27 rfl sizeOf25 rfl) (gT (d0 := 11) rfl rfl hb1 (pv (r_ld rfl isAgg25 (hS5.cell0 (i := 1) ⟨rfl, rfl⟩ (j := 2) rfl)) (gT (d0 := 11) rfl rfl hb1 (pv (r_ln rfl underlying25) (gT (d0 := 11) rfl rfl hb1 (pv (r_ib rfl rfl rfl) (pv (r_pkt rfl hb1 rfl) (pv (r_mb rfl) (?_))))))))))
    rcases Bool.eq_false_or_eq_true ((List.length y1.1.Funcs : Int) == 1) with hb2 | hb2
    · have hm := ctrue hb2 hm
      obtain ⟨y2, hx2, hm⟩ := bindS hm
      refine gT (d0 := 17) rfl rfl hb2 (pv (r_ldS rfl isAgg27 sizeOf27 rfl (hS5.cells0 (i := 1) ⟨rfl, rfl⟩ (o := 0) rfl) (cs := [sv a1 y1.1.Structs c1, sv a2 y1.1.Globals c2, sv a3 y1.1.Funcs c3])) (gT (d0 := 17) rfl rfl hb2 (wl rfl (calS cf9 rfl (tree_Print_sim (p0 := y1.1) (hS5.bun [2] [] rfl) (h1.mono (iT im2 (iT im3 (iT im4 im5)))) (h2.mono (iT im2 (iT im3 (iT im4 im5)))) (h3.mono (iT im2 (iT im3 (iT im4 im5)))) (hG1.mono (iT im1 (iT im2 (iT im3 (iT im4 im5))))) hx2) rfl fun v2 T2 w6 im6 rv2 => ?_))))
      obtain ⟨rfl, hS6, _⟩ := rv2
      have hS6 := hS6.unb
      refine gT (d0 := 17) rfl rfl hb2 (pv (r_sqL rfl rfl) (pv (r_pkt rfl hb2 rfl) (pv (r_zb rfl) (nil (t_then ?_)))))
      have hm := oI hm; subst hm
      exact rtn (ret1 rfl rfl ⟨_, rfl, _, (iT im1 (iT im2 (iT im3 (iT im4 (iT im5 im6))))), ⟨rfl, hS6.sel [0] rfl, trivial⟩⟩)
    have hm := cfalse hb2 hm
    refine gF (d0 := 17) rfl rfl (by rw [hb2]; rfl) (gF (d0 := 17) rfl rfl (by rw [hb2]; rfl) (gF (d0 := 17) rfl rfl (by rw [hb2]; rfl) (pv (r_pkf rfl hb2 rfl) (pv (r_zb rfl) (nil (t_then ?_))))))
    have hm := oI hm; subst hm
    exact rtn (ret1 rfl rfl ⟨_, rfl, _, (iT im1 (iT im2 (iT im3 (iT im4 im5)))), ⟨rfl, hS5.sel [2] rfl, trivial⟩⟩)
  have hm := cfalse hb1 hm
  refine gF (d0 := 11) rfl rfl (by rw [hb1]; rfl) (gF (d0 := 11) rfl rfl (by rw [hb1]; rfl) (gF (d0 := 11) rfl rfl (by rw [hb1]; rfl) (gF (d0 := 11) rfl rfl (by rw [hb1]; rfl) (pv (r_pkf rfl hb1 rfl) (pv (r_mb rfl) (gF (d0 := 17) rfl rfl rfl (gF (d0 := 17) rfl rfl rfl (gF (d0 := 17) rfl rfl rfl (pv (r_pkf rfl rfl rfl) (pv (r_zb rfl) (nil (t_then ?_))))))))))))
  have hm := oI hm; subst hm
  exact rtn (ret1 rfl rfl ⟨_, rfl, _, (iT im1 (iT im2 (iT im3 (iT im4 im5)))), ⟨rfl, hS5.sel [2] rfl, trivial⟩⟩)

theorem law09_TreeDeep_sim {p0 : Int} {r : Bool} (hS : Sep g T0 w0 [R]) (hG0 : Gi T0 w0 0) (hG1 : Gc T0 w0 1 (Lib.pow10Tab.map fun z => Value.int .u64 z)) (hm : law09_TreeDeep p0 = some r) :
    Calls Tryz.prog 3 #[iv p0] w0 (RetS T0 w0 fun T w v => v = .bool r ∧ Sep g T w [R] ∧ True) := by
  refine enter (args := [iv p0]) Tryz.func3 rfl Tryz.ntmps3 rfl fun J => ?_
  unfold law09_TreeDeep at hm
  refine sq2 (rg (pv (r_zb rfl) (nil (t_then ?_))))
  refine sq2 (sq2 (rg (pv (r_mi rfl) (pv (r_ib rfl rfl rfl) (pv (r_mb rfl) (?_))))))
  rcases Bool.eq_false_or_eq_true (decide (p0 < 0)) with hb1 | hb1
  · have hm := ctrue hb1 hm
    refine gF (d0 := 11) rfl rfl (by rw [hb1]; rfl) (gF (d0 := 11) rfl rfl (by rw [hb1]; rfl) (pv (r_pkt rfl hb1 rfl) (nil (t_then ?_))))
    refine cnd (b := true) rfl (fun _ => ?_) (fun h => nomatch h)
    refine sq2 ?_
    obtain ⟨y5, hx5, hm⟩ := bindS hm
    refine rg (wl rfl (calS cf5 rfl (law09_awake_sim  (hS.bun [0] [] rfl) hG0 hG1 hx5) rfl fun v5 T7 w11 im11 rv5 => ?_))
    obtain ⟨rfl, hS11, _⟩ := rv5
    have hS11 := hS11.unb
    refine pv (r_zb rfl) (nil (t_then ?_))
    have hm := oI hm; subst hm
    exact rtn (r_then (ret1 rfl rfl ⟨_, rfl, _, im11, ⟨rfl, hS11.sel [0] rfl, trivial⟩⟩))
  have hm := cfalse hb1 hm
  refine gT (d0 := 11) rfl rfl hb1 (pv (r_mi rfl) (gT (d0 := 11) rfl rfl hb1 (pv (r_ib rfl rfl rfl) (pv (r_pkf rfl hb1 rfl) (nil (t_then ?_))))))
  refine cnd rfl (fun hb2 => ?_) (fun hb2 => ?_)
  · have hm := ctrue hb2 hm
    refine sq2 ?_
    obtain ⟨y1, hx1, hm⟩ := bindS hm
    refine rg (wl rfl (calS cf5 rfl (law09_awake_sim  (hS.bun [0] [] rfl) hG0 hG1 hx1) rfl fun v1 T1 w1 im1 rv1 => ?_))
    obtain ⟨rfl, hS1, _⟩ := rv1
    have hS1 := hS1.unb
    refine pv (r_zb rfl) (nil (t_then ?_))
    have hm := oI hm; subst hm
    exact rtn (r_then (ret1 rfl rfl ⟨_, rfl, _, im1, ⟨rfl, hS1.sel [0] rfl, trivial⟩⟩))
  have hm := cfalse hb2 hm
  refine skp (t_then ?_)
  refine sq2 (rg (pv (r_zt rfl) (nil (t_then ?_))))
  refine sq2 (sq2 (rg (pv (r_zi rfl) (nil (t_then ?_)))))
  obtain ⟨o1, ho1, hq1⟩ := bindS hm
  obtain ⟨bd1, hbd1, ho1⟩ := loop_open ho1
  refine blk (wp_loop_ghost (fun m a w2 => ∃ (J : JV) (T2 : TP) (x1 : List UInt8) (x2 : Int), a = env (nf 56) J [(0, iv p0), (3, .string ⟨x1.toArray⟩), (4, iv x2)] ∧ Im T0 w0 T2 w2 ∧ Sep g T2 w2 [R] ∧ loopM bd1 m (x1, x2) = some o1) NN ⟨_, _, ([105, 110, 116, 32, 97, 61] : List UInt8), 0, env_has ⟨rfl, rfl, rfl, trivial⟩, Im.refl, hS.sel [0] rfl, ho1⟩ ?_)
  rintro m _ w2 ⟨J, T2, x1, x2, rfl, im2, hS2, ho1⟩
  obtain ⟨m1, z1, rfl, hm, hn1⟩ := loop_round ho1
  rw [hbd1] at hm
  refine sq2 (sq2 (rg (pv (r_mi rfl) (pv (r_mi rfl) (pv (r_ib rfl rfl rfl) (nil (t_then ?_)))))))
  refine cnd rfl (fun hb3 => ?_) (fun hb3 => ?_)
  · have hm := ctrue hb3 hm
    refine skp (t_then ?_)
    refine sq2 (blk ?_)
    obtain ⟨z_1, hro1, hm⟩ := bindS hm
    refine rg (pv (r_mt rfl) (pv (r_sad rfl rfl (room_some hro1)) (pv (r_zt rfl) (nil (t_blk (t_then ?_))))))
    have hm := oI hm; subst hm
    exact rg (pv (r_mi rfl) (pv (r_ib rfl rfl rfl) (pv (r_zi rfl) (nil (t_then ⟨m1, Nat.lt_succ_self _, _, _, (x1 ++ ([40] : List UInt8)), (IntKind.wrap .i64 (x2 + 1)), env_has ⟨rfl, rfl, rfl, trivial⟩, im2, hS2.sel [0] rfl, hn1⟩)))))
  have hm := cfalse hb3 hm
  have hm := oI hm; subst hm
  have hn1 : _ = Lp.brk _ := hn1
  subst hn1
  have hm := thn_brk hq1
  refine xt (x_then (x_then (x_eq (t_then ?_))))
  refine sq2 ?_
  obtain ⟨z_2, hro2, hm⟩ := bindS hm
  refine rg (pv (r_mt rfl) (pv (r_sad rfl rfl (room_some hro2)) (pv (r_zt rfl) (nil (t_then ?_)))))
  refine sq2 (sq2 (rg (pv (r_zi rfl) (nil (t_then ?_)))))
  obtain ⟨o1, ho1, hq1⟩ := bindS hm
  obtain ⟨bd1, hbd1, ho1⟩ := loop_open ho1
  refine blk (wp_loop_ghost (fun m a w3 => ∃ (J : JV) (T3 : TP) (x3 : List UInt8) (x4 : Int), a = env (nf 56) J [(0, iv p0), (3, .string ⟨x3.toArray⟩), (5, iv x4)] ∧ Im T2 w2 T3 w3 ∧ Sep g T3 w3 [R] ∧ loopM bd1 m (x3, x4) = some o1) NN ⟨_, _, (x1 ++ ([49] : List UInt8)), 0, env_has ⟨rfl, rfl, rfl, trivial⟩, Im.refl, hS2.sel [0] rfl, ho1⟩ ?_)
  rintro m _ w3 ⟨J, T3, x3, x4, rfl, im3, hS3, ho1⟩
  obtain ⟨m1, z1, rfl, hm, hn1⟩ := loop_round ho1
  rw [hbd1] at hm
  refine sq2 (sq2 (rg (pv (r_mi rfl) (pv (r_mi rfl) (pv (r_ib rfl rfl rfl) (nil (t_then ?_)))))))
  refine cnd rfl (fun hb4 => ?_) (fun hb4 => ?_)
  · have hm := ctrue hb4 hm
    refine skp (t_then ?_)
    refine sq2 (blk ?_)
    obtain ⟨z_3, hro3, hm⟩ := bindS hm
    refine rg (pv (r_mt rfl) (pv (r_sad rfl rfl (room_some hro3)) (pv (r_zt rfl) (nil (t_blk (t_then ?_))))))
    have hm := oI hm; subst hm
    exact rg (pv (r_mi rfl) (pv (r_ib rfl rfl rfl) (pv (r_zi rfl) (nil (t_then ⟨m1, Nat.lt_succ_self _, _, _, (x3 ++ ([41] : List UInt8)), (IntKind.wrap .i64 (x4 + 1)), env_has ⟨rfl, rfl, rfl, trivial⟩, im3, hS3.sel [0] rfl, hn1⟩)))))
  have hm := cfalse hb4 hm
  have hm := oI hm; subst hm
  have hn1 : _ = Lp.brk _ := hn1
  subst hn1
  have hm := thn_brk hq1
  refine xt (x_then (x_then (x_eq (t_then ?_))))
  refine sq2 ?_
  obtain ⟨z_4, hro4, hm⟩ := bindS hm
  obtain ⟨y2, hx2, hm⟩ := bindS hm
  refine rg (pv (r_mt rfl) (pv (r_sad rfl rfl (room_some hro4)) (wl rfl (calS cf6 rfl (tree_Read_sim (p0 := x3 ++ ([59] : List UInt8)) (hS3.bun [0] [] rfl) (hG0.mono (iT im2 im3)) hx2) rfl fun v2 T4 w4 im4 rv2 => ?_))))
  obtain ⟨a1, c1, a2, c2, a3, c3, rfl, hS4, h1, h2, h3, _⟩ := rv2
  have hS4 := hS4.unb
  refine pv (r_mv rfl) (pv (r_ex (v := .agg #[sv a1 y2.1.Structs c1, sv a2 y2.1.Globals c2, sv a3 y2.1.Funcs c3]) rfl rfl) (pv (r_ex (v := .agg #[iv y2.2.1.Line, iv y2.2.1.Col]) rfl rfl) (pv (r_ex (v := iv y2.2.2) rfl rfl) (wl rfl (alS (zs := [.slice none 0 0, .slice none 0 0, .slice none 0 0]) zeroValue27 rfl hS4 fun w5 b1 im5 hS5 => ?_)))))
  refine wl rfl (alS (zs := [iv 0, iv 0]) zeroValue29 rfl hS5 fun w6 b2 im6 hS6 => ?_)
  refine wl rfl (st0B (q := 1) hS6 ⟨rfl, rfl⟩ rfl rfl rfl sizeOf27 rfl rfl rfl fun w7 im7 hS7 => ?_)
  refine wl rfl (st0B (q := 0) hS7 ⟨rfl, rfl⟩ rfl rfl rfl sizeOf29 rfl rfl rfl fun w8 im8 hS8 => ?_)
  refine pv (r_zi rfl) (nil (t_then ?_))
  refine sq2 (sq2 (rg (pv (r_mi rfl) (pv (r_ib rfl rfl rfl) (nil (t_then ?_))))))
  refine cnd rfl (fun hb5 => ?_) (fun hb5 => ?_)
  · have hm := ctrue hb5 hm
    refine sq2 ?_
    obtain ⟨y3, hx3, hm⟩ := bindS hm
    refine rg (wl rfl (calS cf5 rfl (law09_awake_sim  (hS8.bun [2] [] rfl) (hG0.mono (iT im2 (iT im3 (iT im4 (iT im5 (iT im6 (iT im7 im8))))))) (hG1.mono (iT im2 (iT im3 (iT im4 (iT im5 (iT im6 (iT im7 im8))))))) hx3) rfl fun v3 T5 w9 im9 rv3 => ?_))
    obtain ⟨rfl, hS9, _⟩ := rv3
    have hS9 := hS9.unb
    refine pv (r_mb rfl) (?_)
    rcases Bool.eq_false_or_eq_true y3 with hb6 | hb6
    · have hm := ctrue hb6 hm
      refine gT (d0 := 42) rfl rfl hb6 (pv (r_mi rfl) (gT (d0 := 42) rfl rfl hb6 (pv (r_ib rfl rfl rfl) (pv (r_pkt rfl hb6 rfl) (pv (r_zb rfl) (nil (t_then ?_)))))))
      have hm := oI hm; subst hm
      exact rtn (r_then (ret1 rfl rfl ⟨_, rfl, _, (iT im2 (iT im3 (iT im4 (iT im5 (iT im6 (iT im7 (iT im8 im9))))))), ⟨rfl, hS9.sel [0] rfl, trivial⟩⟩))
    have hm := cfalse hb6 hm
    refine gF (d0 := 42) rfl rfl (by rw [hb6]; rfl) (gF (d0 := 42) rfl rfl (by rw [hb6]; rfl) (pv (r_pkf rfl hb6 rfl) (pv (r_zb rfl) (nil (t_then ?_)))))
    have hm := oI hm; subst hm
    exact rtn (r_then (ret1 rfl rfl ⟨_, rfl, _, (iT im2 (iT im3 (iT im4 (iT im5 (iT im6 (iT im7 (iT im8 im9))))))), ⟨rfl, hS9.sel [0] rfl, trivial⟩⟩))
  have hm := cfalse hb5 hm
  refine skp (t_then ?_)
  refine sq2 ?_
  obtain ⟨y4, hx4, hm⟩ := bindS hm
  refine rg (wl rfl (calS cf5 rfl (law09_awake_sim  (hS8.bun [0, 2] [] rfl) (hG0.mono (iT im2 (iT im3 (iT im4 (iT im5 (iT im6 (iT im7 im8))))))) (hG1.mono (iT im2 (iT im3 (iT im4 (iT im5 (iT im6 (iT im7 im8))))))) hx4) rfl fun v4 T6 w10 im10 rv4 => ?_))
  obtain ⟨rfl, hS10, _⟩ := rv4
  have hS10 := hS10.unb
  refine pv (r_mb rfl) (?_)
  rcases Bool.eq_false_or_eq_true y4 with hb7 | hb7
  · have hm := ctrue hb7 hm
    refine gT (d0 := 47) rfl rfl hb7 (pv (r_mi rfl) (gT (d0 := 47) rfl rfl hb7 (pv (r_ib rfl rfl rfl) (pv (r_pkt rfl hb7 rfl) (pv (r_mb rfl) (?_))))))
    rcases Bool.eq_false_or_eq_true (y2.2.2 == 2) with hb8 | hb8
    · have hm := ctrue hb8 hm
      refine gT (d0 := 51) rfl rfl hb8 (pv (r_ldS rfl isAgg29 sizeOf29 rfl (hS10.cells0 (i := 0) ⟨rfl, rfl⟩ (o := 0) rfl) (cs := [iv y2.2.1.Line, iv y2.2.1.Col])) (gT (d0 := 51) rfl rfl hb8 (pv (r_bd (by kernel_rfl) rfl (u := .agg #[iv 1, iv 107])) (gT (d0 := 51) rfl rfl hb8 (pv (r_seqe rfl rfl (eq_29 y2.2.1.Line y2.2.1.Col 1 107)) (pv (r_pkt rfl hb8 rfl) (pv (r_zb rfl) (nil (t_thenR [(2, .bool ((y2.2.1.Line == 1) && (y2.2.1.Col == 107)))] ⟨rfl, trivial⟩ fun J => ?_)))))))))
      have hm := oI hm; subst hm
      exact rtn (ret1 rfl rfl ⟨_, rfl, _, (iT im2 (iT im3 (iT im4 (iT im5 (iT im6 (iT im7 (iT im8 im10))))))), ⟨rfl, hS10.sel [1] rfl, trivial⟩⟩)
    have hm := cfalse hb8 hm
    refine gF (d0 := 51) rfl rfl (by rw [hb8]; rfl) (gF (d0 := 51) rfl rfl (by rw [hb8]; rfl) (gF (d0 := 51) rfl rfl (by rw [hb8]; rfl) (pv (r_pkf rfl hb8 rfl) (pv (r_zb rfl) (nil (t_thenR [(2, .bool false)] ⟨rfl, trivial⟩ fun J => ?_))))))
    have hm := oI hm; subst hm
    exact rtn (ret1 rfl rfl ⟨_, rfl, _, (iT im2 (iT im3 (iT im4 (iT im5 (iT im6 (iT im7 (iT im8 im10))))))), ⟨rfl, hS10.sel [1] rfl, trivial⟩⟩)
  have hm := cfalse hb7 hm
  refine gF (d0 := 47) rfl rfl (by rw [hb7]; rfl) (gF (d0 := 47) rfl rfl (by rw [hb7]; rfl) (pv (r_pkf rfl hb7 rfl) (pv (r_mb rfl) (gF (d0 := 51) rfl rfl rfl (gF (d0 := 51) rfl rfl rfl (gF (d0 := 51) rfl rfl rfl (pv (r_pkf rfl rfl rfl) (pv (r_zb rfl) (nil (t_thenR [(2, .bool false)] ⟨rfl, trivial⟩ fun J => ?_))))))))))
  have hm := oI hm; subst hm
  exact rtn (ret1 rfl rfl ⟨_, rfl, _, (iT im2 (iT im3 (iT im4 (iT im5 (iT im6 (iT im7 (iT im8 im10))))))), ⟨rfl, hS10.sel [1] rfl, trivial⟩⟩)
end Go.Proofs.YtbolaohekbmndaaGreatDoor
