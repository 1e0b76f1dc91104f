/- That Go functions compute their models. Printed by gen2.py. -/
import Derived.Test.YtokpeeflnijogaaGreatDoorWa
set_option linter.unusedVariables false
namespace Go.Proofs.YtokpeeflnijogaaGreatDoor
open _root_.Go.Proofs.Tryz
set_option maxRecDepth 100000
set_option maxHeartbeats 1000000
attribute [local irreducible] wpList wpQuiet Code.wp
variable {g : World} {T0 : Nat → Prop} {w0 : World} {R : Assn}

theorem compile_Module_sim {p0 : List UInt8} {p1 : GOptions} {r : GModule × Pos × Int} (hS : Sep g T0 w0 [R]) (hG0 : Gi T0 w0 0) (hm : compile_Module p0 p1 = some r) :
    Calls Tryz.prog 9 #[.string ⟨p0.toArray⟩, .agg (cGOptions p1).toArray] w0 (RetS T0 w0 fun T w v => ∃ (a4 : OA) (c4 : Nat) (a5 : OA) (c5 : Nat) (a6 : OA) (c6 : Nat), v = .tuple #[.agg #[sv a4 r.1.Globals c4, sv a5 r.1.Data c5, sv a6 r.1.Procs c6, iv r.1.Main], .agg #[iv r.2.1.Line, iv r.2.1.Col], iv r.2.2] ∧ Sep g T w [R] ∧ SlR (rVoid 4) T w (sv a4 r.1.Globals c4) r.1.Globals ∧ SlR (rSl (rInt .u8)) T w (sv a5 r.1.Data c5) r.1.Data ∧ SlR (rVoid 6) T w (sv a6 r.1.Procs c6) r.1.Procs ∧ True) := by
  refine enter (args := [.string ⟨p0.toArray⟩, .agg (cGOptions p1).toArray]) Tryz.func9 rfl Tryz.ntmps9 rfl fun J => ?_
  unfold compile_Module at hm
  refine sq2 (rg (wl rfl (bxS (cs := (cGOptions p1)) rfl rfl hS fun w1 b1 im1 hS1 => ?_)))
  refine wl rfl (alS (zs := [.slice none 0 0, .slice none 0 0, .slice none 0 0, iv 0]) zeroValue47 rfl hS1 fun w2 b2 im2 hS2 => ?_)
  refine wl rfl (alS (zs := [iv 0, iv 0]) zeroValue28 rfl hS2 fun w3 b3 im3 hS3 => ?_)
  refine pv (r_zi rfl) (nil (t_then ?_))
  refine sq2 ?_
  obtain ⟨y1, hx1, hm⟩ := bindS hm
  refine rg (pv (r_mt rfl) (wl rfl (calS cf17 rfl (tree_Read_sim (p0 := p0) (hS3.bun [0, 1, 3] [] rfl) (hG0.mono (iT im1 (iT im2 im3))) hx1) rfl fun v1 T1 w4 im4 rv1 => ?_)))
  obtain ⟨a1, c1, a2, c2, a3, c3, rfl, hS4, h1, h2, h3, _⟩ := rv1
  have hS4 := hS4.unb
  refine pv (r_mv rfl) (pv (r_ex (v := .agg #[sv a1 y1.1.Structs c1, sv a2 y1.1.Globals c2, sv a3 y1.1.Funcs c3]) rfl rfl) (pv (r_ex (v := .agg #[iv y1.2.1.Line, iv y1.2.1.Col]) rfl rfl) (pv (r_ex (v := iv y1.2.2) rfl rfl) (wl rfl (alS (zs := [.slice none 0 0, .slice none 0 0, .slice none 0 0]) zeroValue81 rfl hS4 fun w5 b4 im5 hS5 => ?_)))))
  refine wl rfl (alS (zs := [iv 0, iv 0]) zeroValue28 rfl hS5 fun w6 b5 im6 hS6 => ?_)
  refine wl rfl (st0B (q := 1) hS6 ⟨rfl, rfl⟩ rfl rfl rfl sizeOf81 rfl rfl rfl fun w7 im7 hS7 => ?_)
  refine wl rfl (st0B (q := 0) hS7 ⟨rfl, rfl⟩ rfl rfl rfl sizeOf28 rfl rfl rfl fun w8 im8 hS8 => ?_)
  refine pv (r_zi rfl) (nil (t_then ?_))
  refine sq2 (sq2 (rg (pv (r_mi rfl) (pv (r_ib rfl rfl rfl) (nil (t_then ?_))))))
  refine cnd rfl (fun hb1 => ?_) (fun hb1 => ?_)
  · have hm := ctrue hb1 hm
    refine sq2 (rs [0, 1, 0, 2, 2, 0] [0, 1, 2, 3, 4, 5] mix (by kernel_rfl) hS8.lt fun w9 i1 => ?_)
    have im9 := i1.imm
    have hS9 := hS8.keep i1 (fun _ h => h)
    refine s0 rfl trivial (fun _ => r_bd (by kernel_rfl) rfl (u := .agg #[.slice none 0 0, .slice none 0 0, .slice none 0 0, iv 0])) rfl (s1 rfl trivial (r_ldS rfl isAgg28 sizeOf28 rfl (hS9.cells0 (i := 0) ⟨rfl, rfl⟩ (o := 0) rfl) (cs := [iv y1.2.1.Line, iv y1.2.1.Col])) rfl (s0 rfl trivial (fun _ => r_mi rfl) rfl (s2 [(1, .agg #[iv y1.2.1.Line, iv y1.2.1.Col])] rfl trivial rfl (by kernel_rfl) (st0B (q := 3) hS9 ⟨rfl, rfl⟩ rfl rfl rfl sizeOf47 rfl rfl rfl fun w10 im10 hS10 => ?_))))
    refine ⟨st1 rfl (r_ldS rfl isAgg28 sizeOf28 rfl (hS10.cells0 (i := 0) ⟨rfl, rfl⟩ (o := 0) rfl) (cs := [iv y1.2.1.Line, iv y1.2.1.Col])) (st0), ?_⟩
    refine s2 [] rfl trivial rfl (by kernel_rfl) (st0B (q := 2) hS10 ⟨rfl, rfl⟩ rfl rfl rfl sizeOf28 rfl rfl rfl fun w11 im11 hS11 => ?_)
    refine ⟨st0, ?_⟩
    refine s0 rfl trivial (fun _ => r_zi rfl) rfl (se (t_then ?_))
    have hm := oI hm; subst hm
    exact rtn (r_then (retN (vs := [.agg #[.slice none 0 0, .slice none 0 0, .slice none 0 0, iv 0], .agg #[iv y1.2.1.Line, iv y1.2.1.Col], iv y1.2.2]) rfl ⟨rvS rfl isAgg47 sizeOf47 rfl (hS11.bx (i := 3) ⟨rfl, rfl⟩), rvS rfl isAgg28 sizeOf28 rfl (hS11.bx (i := 2) ⟨rfl, rfl⟩), rfl, trivial⟩ rfl ⟨_, rfl, _, (iT im1 (iT im2 (iT im3 (iT im4 (iT im5 (iT im6 (iT im7 (iT im8 (iT im9 (iT im10 im11)))))))))), ⟨_, _, _, _, _, _, rfl, hS11.sel [4] rfl, SlR_nil, SlR_nil, SlR_nil, trivial⟩⟩))
  have hm := cfalse hb1 hm
  cases hm

theorem compile_Compile_sim {p0 : List UInt8} {p1 : GOptions} {r : GImage × Pos × Int} (hS : Sep g T0 w0 [R]) (hG0 : Gi T0 w0 0) (hm : compile_Compile p0 p1 = some r) :
    Calls Tryz.prog 8 #[.string ⟨p0.toArray⟩, .agg (cGOptions p1).toArray] w0 (RetS T0 w0 fun T w v => ∃ (a4 : OA) (c4 : Nat) (a5 : OA) (c5 : Nat), v = .tuple #[.agg #[sv a4 r.1.Code c4, sv a5 r.1.Data c5, iv r.1.Limit, iv r.1.Notes], .agg #[iv r.2.1.Line, iv r.2.1.Col], iv r.2.2] ∧ Sep g T w [R] ∧ SlR (rInt .u32) T w (sv a4 r.1.Code c4) r.1.Code ∧ SlR (rInt .u8) T w (sv a5 r.1.Data c5) r.1.Data ∧ True) := by
  refine enter (args := [.string ⟨p0.toArray⟩, .agg (cGOptions p1).toArray]) Tryz.func8 rfl Tryz.ntmps8 rfl fun J => ?_
  unfold compile_Compile at hm
  refine sq2 (rg (wl rfl (bxS (cs := (cGOptions p1)) rfl rfl hS fun w1 b1 im1 hS1 => ?_)))
  refine wl rfl (alS (zs := [.slice none 0 0, .slice none 0 0, iv 0, iv 0]) zeroValue39 rfl hS1 fun w2 b2 im2 hS2 => ?_)
  refine wl rfl (alS (zs := [iv 0, iv 0]) zeroValue28 rfl hS2 fun w3 b3 im3 hS3 => ?_)
  refine pv (r_zi rfl) (nil (t_then ?_))
  refine sq2 (sq2 ?_)
  obtain ⟨y1, hx1, hm⟩ := bindS hm
  refine rg (pv (r_ldS rfl isAgg23 sizeOf23 rfl (hS3.cells0 (i := 2) ⟨rfl, rfl⟩ (o := 0) rfl) (cs := (cGOptions p1))) (wl rfl (calS cf4 rfl (image_Right_sim (p0 := p1) (hS3.bun [0, 1, 2, 3] [] rfl)  hx1) rfl fun v1 T1 w4 im4 rv1 => ?_)))
  obtain ⟨rfl, hS4, _⟩ := rv1
  have hS4 := hS4.unb
  refine pv (r_nt rfl) (nil (t_then ?_))
  refine cnd rfl (fun hb1 => ?_) (fun hb1 => ?_)
  · have hm := ctrue hb1 hm
    refine sq2 (rg (pv (r_bd (by kernel_rfl) rfl (u := .agg #[.slice none 0 0, .slice none 0 0, iv 0, iv 0])) (pv (r_bd (by kernel_rfl) rfl (u := .agg #[iv 0, iv 0])) (wl rfl (st0B (q := 1) hS4 ⟨rfl, rfl⟩ rfl rfl rfl sizeOf39 rfl rfl rfl fun w5 im5 hS5 => ?_)))))
    refine wl rfl (st0B (q := 0) hS5 ⟨rfl, rfl⟩ rfl rfl rfl sizeOf28 rfl rfl rfl fun w6 im6 hS6 => ?_)
    refine pv (r_zi rfl) (nil (t_then ?_))
    have hm := oI hm; subst hm
    exact rtn (r_then (retN (vs := [.agg #[.slice none 0 0, .slice none 0 0, iv 0, iv 0], .agg #[iv 0, iv 0], iv 1]) rfl ⟨rvS rfl isAgg39 sizeOf39 rfl (hS6.bx (i := 1) ⟨rfl, rfl⟩), rvS rfl isAgg28 sizeOf28 rfl (hS6.bx (i := 0) ⟨rfl, rfl⟩), rfl, trivial⟩ rfl ⟨_, rfl, _, (iT im1 (iT im2 (iT im3 (iT im4 (iT im5 im6))))), ⟨_, _, _, _, rfl, hS6.sel [3] rfl, SlR_nil, SlR_nil, trivial⟩⟩))
  have hm := cfalse hb1 hm
  refine skp (t_then ?_)
  refine sq2 ?_
  obtain ⟨y2, hx2, hm⟩ := bindS hm
  refine rg (pv (r_mt rfl) (pv (r_ldS rfl isAgg23 sizeOf23 rfl (hS4.cells0 (i := 2) ⟨rfl, rfl⟩ (o := 0) rfl) (cs := (cGOptions p1))) (wl rfl (calS cf9 rfl (compile_Module_sim (p0 := p0) (p1 := p1) (hS4.bun [0, 1, 3] [] rfl) (hG0.mono (iT im1 (iT im2 (iT im3 im4)))) hx2) rfl fun v2 T2 w7 im7 rv2 => ?_))))
  obtain ⟨a1, c1, a2, c2, a3, c3, rfl, hS7, h1, h2, h3, _⟩ := rv2
  have hS7 := hS7.unb
  refine pv (r_mv rfl) (pv (r_ex (v := .agg #[sv a1 y2.1.Globals c1, sv a2 y2.1.Data c2, sv a3 y2.1.Procs c3, iv y2.1.Main]) rfl rfl) (pv (r_ex (v := .agg #[iv y2.2.1.Line, iv y2.2.1.Col]) rfl rfl) (pv (r_ex (v := iv y2.2.2) rfl rfl) (wl rfl (alS (zs := [.slice none 0 0, .slice none 0 0, .slice none 0 0, iv 0]) zeroValue47 rfl hS7 fun w8 b4 im8 hS8 => ?_)))))
  refine wl rfl (alS (zs := [iv 0, iv 0]) zeroValue28 rfl hS8 fun w9 b5 im9 hS9 => ?_)
  refine wl rfl (st0B (q := 1) hS9 ⟨rfl, rfl⟩ rfl rfl rfl sizeOf47 rfl rfl rfl fun w10 im10 hS10 => ?_)
  refine wl rfl (st0B (q := 0) hS10 ⟨rfl, rfl⟩ rfl rfl rfl sizeOf28 rfl rfl rfl fun w11 im11 hS11 => ?_)
  refine pv (r_zi rfl) (nil (t_then ?_))
  refine sq2 (sq2 (rg (pv (r_mi rfl) (pv (r_ib rfl rfl rfl) (nil (t_then ?_))))))
  refine cnd rfl (fun hb2 => ?_) (fun hb2 => ?_)
  · have hm := ctrue hb2 hm
    refine sq2 (rs [0, 1, 0, 2, 2, 0] [0, 1, 2, 3, 4, 5] mix (by kernel_rfl) hS11.lt fun w12 i1 => ?_)
    have im12 := i1.imm
    have hS12 := hS11.keep i1 (fun _ h => h)
    refine s0 rfl trivial (fun _ => r_bd (by kernel_rfl) rfl (u := .agg #[.slice none 0 0, .slice none 0 0, iv 0, iv 0])) rfl (s1 rfl trivial (r_ldS rfl isAgg28 sizeOf28 rfl (hS12.cells0 (i := 0) ⟨rfl, rfl⟩ (o := 0) rfl) (cs := [iv y2.2.1.Line, iv y2.2.1.Col])) rfl (s0 rfl trivial (fun _ => r_mi rfl) rfl (s2 [(1, .agg #[iv y2.2.1.Line, iv y2.2.1.Col])] rfl trivial rfl (by kernel_rfl) (st0B (q := 3) hS12 ⟨rfl, rfl⟩ rfl rfl rfl sizeOf39 rfl rfl rfl fun w13 im13 hS13 => ?_))))
    refine ⟨st1 rfl (r_ldS rfl isAgg28 sizeOf28 rfl (hS13.cells0 (i := 0) ⟨rfl, rfl⟩ (o := 0) rfl) (cs := [iv y2.2.1.Line, iv y2.2.1.Col])) (st0), ?_⟩
    refine s2 [] rfl trivial rfl (by kernel_rfl) (st0B (q := 2) hS13 ⟨rfl, rfl⟩ rfl rfl rfl sizeOf28 rfl rfl rfl fun w14 im14 hS14 => ?_)
    refine ⟨st0, ?_⟩
    refine s0 rfl trivial (fun _ => r_zi rfl) rfl (se (t_then ?_))
    have hm := oI hm; subst hm
    exact rtn (r_then (retN (vs := [.agg #[.slice none 0 0, .slice none 0 0, iv 0, iv 0], .agg #[iv y2.2.1.Line, iv y2.2.1.Col], iv y2.2.2]) rfl ⟨rvS rfl isAgg39 sizeOf39 rfl (hS14.bx (i := 3) ⟨rfl, rfl⟩), rvS rfl isAgg28 sizeOf28 rfl (hS14.bx (i := 2) ⟨rfl, rfl⟩), rfl, trivial⟩ rfl ⟨_, rfl, _, (iT im1 (iT im2 (iT im3 (iT im4 (iT im7 (iT im8 (iT im9 (iT im10 (iT im11 (iT im12 (iT im13 im14))))))))))), ⟨_, _, _, _, rfl, hS14.sel [4] rfl, SlR_nil, SlR_nil, trivial⟩⟩))
  have hm := cfalse hb2 hm
  cases hm

theorem law29_CompileNone_sim {p0 : List UInt8} {p1 : Int} {p2 : GOptions} {r : Bool} (hS : Sep g T0 w0 [R]) (hG0 : Gi T0 w0 0) (hG1 : Gc T0 w0 1 (Lib.pow10Tab.map fun z => Value.int .u64 z)) (hm : law29_CompileNone p0 p1 p2 = some r) :
    Calls Tryz.prog 3 #[.string ⟨p0.toArray⟩, iv p1, .agg (cGOptions p2).toArray] w0 (RetS T0 w0 fun T w v => v = .bool r ∧ Sep g T w [R] ∧ True) := by
  refine enter (args := [.string ⟨p0.toArray⟩, iv p1, .agg (cGOptions p2).toArray]) Tryz.func3 rfl Tryz.ntmps3 rfl fun J => ?_
  unfold law29_CompileNone at hm
  refine sq2 (rg (wl rfl (bxS (cs := (cGOptions p2)) rfl rfl hS fun w1 b1 im1 hS1 => ?_)))
  refine pv (r_zb rfl) (nil (t_then ?_))
  refine sq2 (sq2 (rg (pv (r_mt rfl) (pv (r_lnt rfl underlying9) (pv (r_ib rfl rfl rfl) (pv (r_mb rfl) (?_)))))))
  rcases Bool.eq_false_or_eq_true (decide (3999 < (List.length p0 : Int))) with hb1 | hb1
  · have hm := ctrue hb1 hm
    refine gF (d0 := 17) rfl rfl (by rw [hb1]; rfl) (gF (d0 := 17) rfl rfl (by rw [hb1]; rfl) (pv (r_pkt rfl hb1 rfl) (pv (r_mb rfl) (gF (d0 := 21) rfl rfl rfl (gF (d0 := 21) rfl rfl rfl (gF (d0 := 21) rfl rfl rfl (gF (d0 := 21) rfl rfl rfl (pv (r_pkt rfl rfl rfl) (pv (r_mb rfl) (gF (d0 := 27) rfl rfl rfl (gF (d0 := 27) rfl rfl rfl (gF (d0 := 27) rfl rfl rfl (pv (r_pkt rfl rfl rfl) (nil (t_then ?_)))))))))))))))
    refine cnd (b := true) rfl (fun _ => ?_) (fun h => nomatch h)
    refine sq2 ?_
    obtain ⟨y14, hx21, hm⟩ := bindS hm
    refine rg (wl rfl (calS cf5 rfl (law29_awake_sim  (hS1.bun [1] [] rfl) (hG1.mono im1) hx21) rfl fun v14 T14 w27 im27 rv14 => ?_))
    obtain ⟨rfl, hS27, _⟩ := rv14
    have hS27 := hS27.unb
    refine pv (r_zb rfl) (nil (t_then ?_))
    have hm := oI hm; subst hm
    exact rtn (r_then (ret1 rfl rfl ⟨_, rfl, _, (iT im1 im27), ⟨rfl, hS27.sel [0] rfl, trivial⟩⟩))
  have hm := cfalse hb1 hm
  refine gT (d0 := 17) rfl rfl hb1 (pv (r_mi rfl) (gT (d0 := 17) rfl rfl hb1 (pv (r_ib rfl rfl rfl) (pv (r_pkf rfl hb1 rfl) (pv (r_mb rfl) (?_))))))
  rcases Bool.eq_false_or_eq_true (decide (p1 < 0)) with hb2 | hb2
  · have hm := ctrue hb2 hm
    refine gF (d0 := 21) rfl rfl (by rw [hb2]; rfl) (gF (d0 := 21) rfl rfl (by rw [hb2]; rfl) (gF (d0 := 21) rfl rfl (by rw [hb2]; rfl) (gF (d0 := 21) rfl rfl (by rw [hb2]; rfl) (pv (r_pkt rfl hb2 rfl) (pv (r_mb rfl) (gF (d0 := 27) rfl rfl rfl (gF (d0 := 27) rfl rfl rfl (gF (d0 := 27) rfl rfl rfl (pv (r_pkt rfl rfl rfl) (nil (t_then ?_)))))))))))
    refine cnd (b := true) rfl (fun _ => ?_) (fun h => nomatch h)
    refine sq2 ?_
    obtain ⟨y13, hx20, hm⟩ := bindS hm
    refine rg (wl rfl (calS cf5 rfl (law29_awake_sim  (hS1.bun [1] [] rfl) (hG1.mono im1) hx20) rfl fun v13 T13 w26 im26 rv13 => ?_))
    obtain ⟨rfl, hS26, _⟩ := rv13
    have hS26 := hS26.unb
    refine pv (r_zb rfl) (nil (t_then ?_))
    have hm := oI hm; subst hm
    exact rtn (r_then (ret1 rfl rfl ⟨_, rfl, _, (iT im1 im26), ⟨rfl, hS26.sel [0] rfl, trivial⟩⟩))
  have hm := cfalse hb2 hm
  refine gT (d0 := 21) rfl rfl hb2 (pv (r_mi rfl) (gT (d0 := 21) rfl rfl hb2 (pv (r_mt rfl) (gT (d0 := 21) rfl rfl hb2 (pv (r_lnt rfl underlying9) (gT (d0 := 21) rfl rfl hb2 (pv (r_ib rfl rfl rfl) (pv (r_pkf rfl hb2 rfl) (pv (r_mb rfl) (?_))))))))))
  rcases Bool.eq_false_or_eq_true (decide ((List.length p0 : Int) < p1)) with hb3 | hb3
  · have hm := ctrue hb3 hm
    refine gF (d0 := 27) rfl rfl (by rw [hb3]; rfl) (gF (d0 := 27) rfl rfl (by rw [hb3]; rfl) (gF (d0 := 27) rfl rfl (by rw [hb3]; rfl) (pv (r_pkt rfl hb3 rfl) (nil (t_then ?_)))))
    refine cnd (b := true) rfl (fun _ => ?_) (fun h => nomatch h)
    refine sq2 ?_
    obtain ⟨y12, hx19, hm⟩ := bindS hm
    refine rg (wl rfl (calS cf5 rfl (law29_awake_sim  (hS1.bun [1] [] rfl) (hG1.mono im1) hx19) rfl fun v12 T12 w25 im25 rv12 => ?_))
    obtain ⟨rfl, hS25, _⟩ := rv12
    have hS25 := hS25.unb
    refine pv (r_zb rfl) (nil (t_then ?_))
    have hm := oI hm; subst hm
    exact rtn (r_then (ret1 rfl rfl ⟨_, rfl, _, (iT im1 im25), ⟨rfl, hS25.sel [0] rfl, trivial⟩⟩))
  have hm := cfalse hb3 hm
  obtain ⟨y1, hx1, hm⟩ := bindS hm
  refine gT (d0 := 27) rfl rfl hb3 (pv (r_ldS rfl isAgg23 sizeOf23 rfl (hS1.cells0 (i := 0) ⟨rfl, rfl⟩ (o := 0) rfl) (cs := (cGOptions p2))) (gT (d0 := 27) rfl rfl hb3 (wl rfl (calS cf4 rfl (image_Right_sim (p0 := p2) (hS1.bun [0, 1] [] rfl)  hx1) rfl fun v1 T1 w2 im2 rv1 => ?_))))
  obtain ⟨rfl, hS2, _⟩ := rv1
  have hS2 := hS2.unb
  refine gT (d0 := 27) rfl rfl hb3 (pv (r_nt rfl) (pv (r_pkf rfl hb3 rfl) (nil (t_then ?_))))
  refine cnd rfl (fun hb4 => ?_) (fun hb4 => ?_)
  · have hm := ctrue hb4 hm
    refine sq2 ?_
    obtain ⟨y2, hx2, hm⟩ := bindS hm
    refine rg (wl rfl (calS cf5 rfl (law29_awake_sim  (hS2.bun [1] [] rfl) (hG1.mono (iT im1 im2)) hx2) rfl fun v2 T2 w3 im3 rv2 => ?_))
    obtain ⟨rfl, hS3, _⟩ := rv2
    have hS3 := hS3.unb
    refine pv (r_zb rfl) (nil (t_then ?_))
    have hm := oI hm; subst hm
    exact rtn (r_then (ret1 rfl rfl ⟨_, rfl, _, (iT im1 (iT im2 im3)), ⟨rfl, hS3.sel [0] rfl, trivial⟩⟩))
  have hm := cfalse hb4 hm
  refine skp (t_then ?_)
  refine sq2 (sq2 ?_)
  obtain ⟨u1, hx3, hm⟩ := bindS hm
  obtain ⟨y3, hx4, hm⟩ := bindS hm
  refine rg (pv (r_mt rfl) (pv (r_mi rfl) (pv (r_ss rfl rfl ⟨_, rfl⟩ hx3 underlying9) (wl rfl (calS cf6 rfl (lex_Lex_sim (p0 := u1) (hS2.bun [0, 1] [] rfl) (hG0.mono (iT im1 im2)) hx4) rfl fun v3 T3 w4 im4 rv3 => ?_)))))
  obtain ⟨a1, n1, c1, rfl, hS4, _⟩ := rv3
  have hS4 := hS4.unb
  refine pv (r_mv rfl) (pv (r_ex (v := .slice a1 n1 c1) rfl rfl) (pv (r_ex (v := .agg #[iv y3.2.1.Line, iv y3.2.1.Col]) rfl rfl) (pv (r_ex (v := iv y3.2.2) rfl rfl) (wl rfl (alS (zs := [iv 0, iv 0]) zeroValue28 rfl hS4 fun w5 b2 im5 hS5 => ?_)))))
  refine pv (r_zs rfl) (wl rfl (st0B (q := 0) hS5 ⟨rfl, rfl⟩ rfl rfl rfl sizeOf28 rfl rfl rfl fun w6 im6 hS6 => ?_))
  refine pv (r_zi rfl) (nil (t_thenR [(0, .string ⟨p0.toArray⟩), (1, iv p1), (5, pt b1 0), (8, pt b2 0), (9, iv y3.2.2)] ⟨rfl, rfl, rfl, rfl, rfl, trivial⟩ fun J => ?_))
  refine sq2 (rg (pv (r_mi rfl) (pv (r_ib rfl rfl rfl) (pv (r_mb rfl) (?_)))))
  rcases Bool.eq_false_or_eq_true (y3.2.2 != 0) with hb5 | hb5
  · have hm := ctrue hb5 hm
    refine gF (d0 := 43) rfl rfl (by rw [hb5]; rfl) (gF (d0 := 43) rfl rfl (by rw [hb5]; rfl) (gF (d0 := 43) rfl rfl (by rw [hb5]; rfl) (pv (r_pkt rfl hb5 rfl) (nil (t_then ?_)))))
    refine cnd (b := true) rfl (fun _ => ?_) (fun h => nomatch h)
    refine sq2 ?_
    obtain ⟨y11, hx18, hm⟩ := bindS hm
    refine rg (wl rfl (calS cf5 rfl (law29_awake_sim  (hS6.bun [2] [] rfl) (hG1.mono (iT im1 (iT im2 (iT im4 (iT im5 im6))))) hx18) rfl fun v11 T11 w24 im24 rv11 => ?_))
    obtain ⟨rfl, hS24, _⟩ := rv11
    have hS24 := hS24.unb
    refine pv (r_zb rfl) (nil (t_then ?_))
    have hm := oI hm; subst hm
    exact rtn (r_then (ret1 rfl rfl ⟨_, rfl, _, (iT im1 (iT im2 (iT im4 (iT im5 (iT im6 im24))))), ⟨rfl, hS24.sel [0] rfl, trivial⟩⟩))
  have hm := cfalse hb5 hm
  refine gT (d0 := 43) rfl rfl hb5 (pv (r_fa rfl underlying28 rfl sizeOf3 rfl) (gT (d0 := 43) rfl rfl hb5 (pv (r_ld rfl isAgg3 (hS6.cell0 (i := 0) ⟨rfl, rfl⟩ (j := 0) rfl)) (gT (d0 := 43) rfl rfl hb5 (pv (r_ib rfl rfl rfl) (pv (r_pkf rfl hb5 rfl) (nil (t_then ?_))))))))
  refine cnd rfl (fun hb6 => ?_) (fun hb6 => ?_)
  · have hm := ctrue hb6 hm
    refine sq2 ?_
    obtain ⟨y4, hx5, hm⟩ := bindS hm
    refine rg (wl rfl (calS cf5 rfl (law29_awake_sim  (hS6.bun [2] [] rfl) (hG1.mono (iT im1 (iT im2 (iT im4 (iT im5 im6))))) hx5) rfl fun v4 T4 w7 im7 rv4 => ?_))
    obtain ⟨rfl, hS7, _⟩ := rv4
    have hS7 := hS7.unb
    refine pv (r_zb rfl) (nil (t_then ?_))
    have hm := oI hm; subst hm
    exact rtn (r_then (ret1 rfl rfl ⟨_, rfl, _, (iT im1 (iT im2 (iT im4 (iT im5 (iT im6 im7))))), ⟨rfl, hS7.sel [0] rfl, trivial⟩⟩))
  have hm := cfalse hb6 hm
  refine skp (t_then ?_)
  refine sq2 (sq2 ?_)
  obtain ⟨u2, hx6, hm⟩ := bindS hm
  refine rg (pv (r_mt rfl) (pv (r_mi rfl) (pv (r_ss rfl rfl ⟨_, rfl⟩ hx6 underlying9) (pv (r_lnt rfl underlying9) (pv (r_zi rfl) (nil (t_then ?_)))))))
  refine sq2 (rg (pv (r_mi rfl) (pv (r_ib rfl rfl rfl) (pv (r_mb rfl) (?_)))))
  rcases Bool.eq_false_or_eq_true (decide (0 < (List.length u2 : Int))) with hb7 | hb7
  · have hm := ctrue hb7 hm
    obtain ⟨u3, hx7, hm⟩ := bindS hm
    obtain ⟨z_1, hro1, hm⟩ := bindS hm
    obtain ⟨y5, hx8, hm⟩ := bindS hm
    refine gT (d0 := 55) rfl rfl hb7 (pv (r_mt rfl) (gT (d0 := 55) rfl rfl hb7 (pv (r_mi rfl) (gT (d0 := 55) rfl rfl hb7 (pv (r_ss rfl rfl ⟨_, rfl⟩ hx7 underlying9) (gT (d0 := 55) rfl rfl hb7 (pv (r_sad rfl rfl (room_some hro1)) (gT (d0 := 55) rfl rfl hb7 (wl rfl (calS cf7 rfl (ref07_Lex_sim (p0 := u3 ++ ([64] : List UInt8)) (hS6.bun [1, 2] [] rfl)  hx8) rfl fun v5 T5 w8 im8 rv5 => ?_))))))))))
    obtain ⟨a2, c2, rfl, hS8, h1, _⟩ := rv5
    have hS8 := hS8.unb
    refine gT (d0 := 55) rfl rfl hb7 (pv (r_fd1 rfl underlying34 rfl isAgg3 rfl) (gT (d0 := 55) rfl rfl hb7 (pv (r_ib rfl rfl rfl) (pv (r_pkt rfl hb7 rfl) (nil (t_then ?_))))))
    refine cnd rfl (fun hb8 => ?_) (fun hb8 => ?_)
    · have hm := ctrue hb8 hm
      refine sq2 ?_
      obtain ⟨y6, hx9, hm⟩ := bindS hm
      refine rg (wl rfl (calS cf5 rfl (law29_awake_sim  (hS8.bun [1] [] rfl) (hG1.mono (iT im1 (iT im2 (iT im4 (iT im5 (iT im6 im8)))))) hx9) rfl fun v6 T6 w9 im9 rv6 => ?_))
      obtain ⟨rfl, hS9, _⟩ := rv6
      have hS9 := hS9.unb
      refine pv (r_zb rfl) (nil (t_thenR [(6, .bool y6)] ⟨rfl, trivial⟩ fun J => ?_))
      have hm := oI hm; subst hm
      exact rtn (r_then (ret1 rfl rfl ⟨_, rfl, _, (iT im1 (iT im2 (iT im4 (iT im5 (iT im6 (iT im8 im9)))))), ⟨rfl, hS9.sel [0] rfl, trivial⟩⟩))
    have hm := cfalse hb8 hm
    refine skp (t_thenR [(0, .string ⟨p0.toArray⟩), (1, iv p1), (5, pt b1 0)] ⟨rfl, rfl, rfl, trivial⟩ fun J => ?_)
    refine sq2 (rt [0, 0, 0, 0, 0, 0, 0, 0, 1, 2, 0, 0, 0, 0, 2, 2, 2, 2, 0] [0, 1, 2, 3, 4, 5, 6, 7, 8, 9, 10, 11, 12, 13, 14, 15, 16, 17, 18] mix (by kernel_rfl) hS8.lt fun w10 i1 => ?_)
    have im10 := i1.imm
    have hS10 := hS8.keep i1 (fun _ h => h)
    obtain ⟨u4, hx10, hm⟩ := bindS hm
    obtain ⟨z_2, hro2, hm⟩ := bindS hm
    obtain ⟨u5, hx11, hm⟩ := bindS hm
    obtain ⟨z_3, hro3, hm⟩ := bindS hm
    obtain ⟨y7, hx12, hm⟩ := bindS hm
    refine t0 rfl trivial (fun _ => r_mt rfl) rfl (t0 rfl trivial (fun _ => r_mi rfl) rfl (t0 rfl trivial (fun _ => r_ss rfl rfl ⟨_, rfl⟩ hx10 underlying9) rfl (t0 rfl trivial (fun _ => r_sad rfl rfl (room_some hro2)) rfl (t0 rfl trivial (fun _ => r_mt rfl) rfl (t0 rfl trivial (fun _ => r_mi rfl) rfl (t0 rfl trivial (fun _ => r_ss rfl ⟨_, rfl⟩ rfl hx11 underlying9) rfl (t0 rfl trivial (fun _ => r_sad rfl rfl (room_some hro3)) rfl (t1 rfl trivial (r_ldS rfl isAgg23 sizeOf23 rfl (hS10.cells0 (i := 0) ⟨rfl, rfl⟩ (o := 0) rfl) (cs := (cGOptions p2))) rfl (tw [9, 14, 15] rfl (wt_of rfl rfl trivial) rfl (by kernel_rfl) (by kernel_rfl) ⟨br [10, 11, 12, 13, 14, 15, 16, 17, 18] [] rfl (by kernel_rfl) (by kernel_rfl) trivial (by kernel_rfl) (calS cf8 rfl (compile_Compile_sim (p0 := (u4 ++ ([64] : List UInt8)) ++ u5) (p1 := p2) (hS10.bun [1, 0] [] rfl) (hG0.mono (iT im1 (iT im2 (iT im4 (iT im5 (iT im6 (iT im8 im10))))))) hx12) rfl fun v7 T7 w11 im11 rv7 => ?_), br [9, 10, 11, 12, 13, 15, 16, 17, 18] [(8, .agg (cGOptions p2).toArray)] rfl (by kernel_rfl) (by kernel_rfl) trivial (by kernel_rfl) (alS (zs := [.slice none 0 0, .slice none 0 0, iv 0, iv 0]) zeroValue39 rfl hS10 fun w11 b3 im11 hS11 => ?_), br [9, 10, 11, 12, 13, 14, 16, 17, 18] [(8, .agg (cGOptions p2).toArray)] rfl (by kernel_rfl) (by kernel_rfl) trivial (by kernel_rfl) (alS (zs := [iv 0, iv 0]) zeroValue28 rfl hS10 fun w11 b3 im11 hS11 => ?_), trivial⟩)))))))))
    · obtain ⟨a3, c3, a4, c4, rfl, hS11, h2, h3, _⟩ := rv7
      have hS11 := hS11.unb
      refine ⟨st0, ?_⟩
      refine t0 rfl trivial (fun _ => r_mv rfl) rfl (t0 rfl trivial (fun _ => r_ex (v := .agg #[sv a3 y7.1.Code c3, sv a4 y7.1.Data c4, iv y7.1.Limit, iv y7.1.Notes]) rfl rfl) rfl (t0 rfl trivial (fun _ => r_ex (v := .agg #[iv y7.2.1.Line, iv y7.2.1.Col]) rfl rfl) rfl (t0 rfl trivial (fun _ => r_ex (v := iv y7.2.2) rfl rfl) rfl (tw [14, 15] rfl (wt_of rfl rfl trivial) rfl (by kernel_rfl) (by kernel_rfl) ⟨br [15, 16, 17, 18] [] rfl (by kernel_rfl) (by kernel_rfl) trivial (by kernel_rfl) (alS (zs := [.slice none 0 0, .slice none 0 0, iv 0, iv 0]) zeroValue39 rfl hS11 fun w12 b3 im12 hS12 => ?_), br [14, 16, 17, 18] [] rfl (by kernel_rfl) (by kernel_rfl) trivial (by kernel_rfl) (alS (zs := [iv 0, iv 0]) zeroValue28 rfl hS11 fun w12 b3 im12 hS12 => ?_), trivial⟩))))
      · refine ⟨st0, ?_⟩
        refine tw [15] rfl (wt_of rfl rfl trivial) rfl (by kernel_rfl) (by kernel_rfl) ⟨br [16, 17, 18] [] rfl (by kernel_rfl) (by kernel_rfl) trivial (by kernel_rfl) (alS (zs := [iv 0, iv 0]) zeroValue28 rfl hS12 fun w13 b4 im13 hS13 => ?_), trivial⟩
        refine ⟨st0, ?_⟩
        refine tw [16] rfl (wt_of rfl rfl trivial) rfl (by kernel_rfl) (by kernel_rfl) ⟨br [17, 18] [] rfl (by kernel_rfl) (by kernel_rfl) trivial (by kernel_rfl) (st0B (q := 1) hS13 ⟨rfl, rfl⟩ rfl rfl rfl sizeOf39 rfl rfl rfl fun w14 im14 hS14 => ?_), trivial⟩
        refine ⟨st0, ?_⟩
        refine tw [17] rfl (wt_of rfl rfl trivial) rfl (by kernel_rfl) (by kernel_rfl) ⟨br [18] [] rfl (by kernel_rfl) (by kernel_rfl) trivial (by kernel_rfl) (st0B (q := 0) hS14 ⟨rfl, rfl⟩ rfl rfl rfl sizeOf28 rfl rfl rfl fun w15 im15 hS15 => ?_), trivial⟩
        refine ⟨st0, ?_⟩
        refine t0 rfl trivial (fun _ => r_zi rfl) rfl (te (t_then ?_))
        refine sq2 ?_
        obtain ⟨y8, hx13, hm⟩ := bindS hm
        refine rg (wl rfl (calS cf5 rfl (law29_awake_sim  (hS15.bun [1, 2] [] rfl) (hG1.mono (iT im1 (iT im2 (iT im4 (iT im5 (iT im6 (iT im8 (iT im10 (iT im11 (iT im12 (iT im13 (iT im14 im15)))))))))))) hx13) rfl fun v8 T8 w16 im16 rv8 => ?_))
        obtain ⟨rfl, hS16, _⟩ := rv8
        have hS16 := hS16.unb
        refine pv (r_mb rfl) (?_)
        rcases Bool.eq_false_or_eq_true y8 with hb9 | hb9
        · have hm := ctrue hb9 hm
          refine gT (d0 := 80) rfl rfl hb9 (pv (r_mi rfl) (gT (d0 := 80) rfl rfl hb9 (pv (r_ib rfl rfl rfl) (pv (r_pkt rfl hb9 rfl) (pv (r_mb rfl) (?_))))))
          rcases Bool.eq_false_or_eq_true (y7.2.2 != 0) with hb10 | hb10
          · have hm := ctrue hb10 hm
            refine gT (d0 := 84) rfl rfl hb10 (pv (r_fa rfl underlying39 rfl sizeOf36 rfl) (gT (d0 := 84) rfl rfl hb10 (pv (r_ld rfl isAgg36 (hS16.cell0 (i := 0) ⟨rfl, rfl⟩ (j := 0) rfl)) (gT (d0 := 84) rfl rfl hb10 (pv (r_ln rfl underlying36) (gT (d0 := 84) rfl rfl hb10 (pv (r_ib rfl rfl rfl) (pv (r_pkt rfl hb10 rfl) (pv (r_zb rfl) (nil (t_thenR [(6, .bool ((List.length y7.1.Code : Int) == 0))] ⟨rfl, trivial⟩ fun J => ?_)))))))))))
            have hm := oI hm; subst hm
            exact rtn (ret1 rfl rfl ⟨_, rfl, _, (iT im1 (iT im2 (iT im4 (iT im5 (iT im6 (iT im8 (iT im10 (iT im11 (iT im12 (iT im13 (iT im14 (iT im15 im16)))))))))))), ⟨rfl, hS16.sel [1] rfl, trivial⟩⟩)
          have hm := cfalse hb10 hm
          refine gF (d0 := 84) rfl rfl (by rw [hb10]; rfl) (gF (d0 := 84) rfl rfl (by rw [hb10]; rfl) (gF (d0 := 84) rfl rfl (by rw [hb10]; rfl) (gF (d0 := 84) rfl rfl (by rw [hb10]; rfl) (pv (r_pkf rfl hb10 rfl) (pv (r_zb rfl) (nil (t_thenR [(6, .bool false)] ⟨rfl, trivial⟩ fun J => ?_)))))))
          have hm := oI hm; subst hm
          exact rtn (ret1 rfl rfl ⟨_, rfl, _, (iT im1 (iT im2 (iT im4 (iT im5 (iT im6 (iT im8 (iT im10 (iT im11 (iT im12 (iT im13 (iT im14 (iT im15 im16)))))))))))), ⟨rfl, hS16.sel [1] rfl, trivial⟩⟩)
        have hm := cfalse hb9 hm
        refine gF (d0 := 80) rfl rfl (by rw [hb9]; rfl) (gF (d0 := 80) rfl rfl (by rw [hb9]; rfl) (pv (r_pkf rfl hb9 rfl) (pv (r_mb rfl) (gF (d0 := 84) rfl rfl rfl (gF (d0 := 84) rfl rfl rfl (gF (d0 := 84) rfl rfl rfl (gF (d0 := 84) rfl rfl rfl (pv (r_pkf rfl rfl rfl) (pv (r_zb rfl) (nil (t_thenR [(6, .bool false)] ⟨rfl, trivial⟩ fun J => ?_)))))))))))
        have hm := oI hm; subst hm
        exact rtn (ret1 rfl rfl ⟨_, rfl, _, (iT im1 (iT im2 (iT im4 (iT im5 (iT im6 (iT im8 (iT im10 (iT im11 (iT im12 (iT im13 (iT im14 (iT im15 im16)))))))))))), ⟨rfl, hS16.sel [1] rfl, trivial⟩⟩)
      refine ⟨st0, ?_⟩
      refine tw [14] rfl (wt_of rfl rfl trivial) rfl (by kernel_rfl) (by kernel_rfl) ⟨br [16, 17, 18] [] rfl (by kernel_rfl) (by kernel_rfl) trivial (by kernel_rfl) (alS (zs := [.slice none 0 0, .slice none 0 0, iv 0, iv 0]) zeroValue39 rfl hS12 fun w13 b4 im13 hS13 => ?_), trivial⟩
      refine ⟨st0, ?_⟩
      refine tw [16] rfl (wt_of rfl rfl trivial) rfl (by kernel_rfl) (by kernel_rfl) ⟨br [17, 18] [] rfl (by kernel_rfl) (by kernel_rfl) trivial (by kernel_rfl) (st0B (q := 0) hS13 ⟨rfl, rfl⟩ rfl rfl rfl sizeOf39 rfl rfl rfl fun w14 im14 hS14 => ?_), trivial⟩
      refine ⟨st0, ?_⟩
      refine tw [17] rfl (wt_of rfl rfl trivial) rfl (by kernel_rfl) (by kernel_rfl) ⟨br [18] [] rfl (by kernel_rfl) (by kernel_rfl) trivial (by kernel_rfl) (st0B (q := 1) hS14 ⟨rfl, rfl⟩ rfl rfl rfl sizeOf28 rfl rfl rfl fun w15 im15 hS15 => ?_), trivial⟩
      refine ⟨st0, ?_⟩
      refine t0 rfl trivial (fun _ => r_zi rfl) rfl (te (t_then ?_))
      refine sq2 ?_
      obtain ⟨y8, hx13, hm⟩ := bindS hm
      refine rg (wl rfl (calS cf5 rfl (law29_awake_sim  (hS15.bun [0, 2] [] rfl) (hG1.mono (iT im1 (iT im2 (iT im4 (iT im5 (iT im6 (iT im8 (iT im10 (iT im11 (iT im12 (iT im13 (iT im14 im15)))))))))))) hx13) rfl fun v8 T8 w16 im16 rv8 => ?_))
      obtain ⟨rfl, hS16, _⟩ := rv8
      have hS16 := hS16.unb
      refine pv (r_mb rfl) (?_)
      rcases Bool.eq_false_or_eq_true y8 with hb9 | hb9
      · have hm := ctrue hb9 hm
        refine gT (d0 := 80) rfl rfl hb9 (pv (r_mi rfl) (gT (d0 := 80) rfl rfl hb9 (pv (r_ib rfl rfl rfl) (pv (r_pkt rfl hb9 rfl) (pv (r_mb rfl) (?_))))))
        rcases Bool.eq_false_or_eq_true (y7.2.2 != 0) with hb10 | hb10
        · have hm := ctrue hb10 hm
          refine gT (d0 := 84) rfl rfl hb10 (pv (r_fa rfl underlying39 rfl sizeOf36 rfl) (gT (d0 := 84) rfl rfl hb10 (pv (r_ld rfl isAgg36 (hS16.cell0 (i := 0) ⟨rfl, rfl⟩ (j := 0) rfl)) (gT (d0 := 84) rfl rfl hb10 (pv (r_ln rfl underlying36) (gT (d0 := 84) rfl rfl hb10 (pv (r_ib rfl rfl rfl) (pv (r_pkt rfl hb10 rfl) (pv (r_zb rfl) (nil (t_thenR [(6, .bool ((List.length y7.1.Code : Int) == 0))] ⟨rfl, trivial⟩ fun J => ?_)))))))))))
          have hm := oI hm; subst hm
          exact rtn (ret1 rfl rfl ⟨_, rfl, _, (iT im1 (iT im2 (iT im4 (iT im5 (iT im6 (iT im8 (iT im10 (iT im11 (iT im12 (iT im13 (iT im14 (iT im15 im16)))))))))))), ⟨rfl, hS16.sel [1] rfl, trivial⟩⟩)
        have hm := cfalse hb10 hm
        refine gF (d0 := 84) rfl rfl (by rw [hb10]; rfl) (gF (d0 := 84) rfl rfl (by rw [hb10]; rfl) (gF (d0 := 84) rfl rfl (by rw [hb10]; rfl) (gF (d0 := 84) rfl rfl (by rw [hb10]; rfl) (pv (r_pkf rfl hb10 rfl) (pv (r_zb rfl) (nil (t_thenR [(6, .bool false)] ⟨rfl, trivial⟩ fun J => ?_)))))))
        have hm := oI hm; subst hm
        exact rtn (ret1 rfl rfl ⟨_, rfl, _, (iT im1 (iT im2 (iT im4 (iT im5 (iT im6 (iT im8 (iT im10 (iT im11 (iT im12 (iT im13 (iT im14 (iT im15 im16)))))))))))), ⟨rfl, hS16.sel [1] rfl, trivial⟩⟩)
      have hm := cfalse hb9 hm
      refine gF (d0 := 80) rfl rfl (by rw [hb9]; rfl) (gF (d0 := 80) rfl rfl (by rw [hb9]; rfl) (pv (r_pkf rfl hb9 rfl) (pv (r_mb rfl) (gF (d0 := 84) rfl rfl rfl (gF (d0 := 84) rfl rfl rfl (gF (d0 := 84) rfl rfl rfl (gF (d0 := 84) rfl rfl rfl (pv (r_pkf rfl rfl rfl) (pv (r_zb rfl) (nil (t_thenR [(6, .bool false)] ⟨rfl, trivial⟩ fun J => ?_)))))))))))
      have hm := oI hm; subst hm
      exact rtn (ret1 rfl rfl ⟨_, rfl, _, (iT im1 (iT im2 (iT im4 (iT im5 (iT im6 (iT im8 (iT im10 (iT im11 (iT im12 (iT im13 (iT im14 (iT im15 im16)))))))))))), ⟨rfl, hS16.sel [1] rfl, trivial⟩⟩)
    · refine ⟨st1 rfl (r_ldS rfl isAgg23 sizeOf23 rfl (hS11.cells0 (i := 1) ⟨rfl, rfl⟩ (o := 0) rfl) (cs := (cGOptions p2))) (st0), ?_⟩
      refine tw [9, 15] rfl (wt_of rfl rfl trivial) rfl (by kernel_rfl) (by kernel_rfl) ⟨br [10, 11, 12, 13, 15, 16, 17, 18] [] rfl (by kernel_rfl) (by kernel_rfl) trivial (by kernel_rfl) (calS cf8 rfl (compile_Compile_sim (p0 := (u4 ++ ([64] : List UInt8)) ++ u5) (p1 := p2) (hS11.bun [0, 2, 1] [] rfl) (hG0.mono (iT im1 (iT im2 (iT im4 (iT im5 (iT im6 (iT im8 (iT im10 im11)))))))) hx12) rfl fun v7 T7 w12 im12 rv7 => ?_), br [9, 10, 11, 12, 13, 16, 17, 18] [(8, .agg (cGOptions p2).toArray)] rfl (by kernel_rfl) (by kernel_rfl) trivial (by kernel_rfl) (alS (zs := [iv 0, iv 0]) zeroValue28 rfl hS11 fun w12 b4 im12 hS12 => ?_), trivial⟩
      · obtain ⟨a3, c3, a4, c4, rfl, hS12, h2, h3, _⟩ := rv7
        have hS12 := hS12.unb
        refine ⟨st0, ?_⟩
        refine t0 rfl trivial (fun _ => r_mv rfl) rfl (t0 rfl trivial (fun _ => r_ex (v := .agg #[sv a3 y7.1.Code c3, sv a4 y7.1.Data c4, iv y7.1.Limit, iv y7.1.Notes]) rfl rfl) rfl (t0 rfl trivial (fun _ => r_ex (v := .agg #[iv y7.2.1.Line, iv y7.2.1.Col]) rfl rfl) rfl (t0 rfl trivial (fun _ => r_ex (v := iv y7.2.2) rfl rfl) rfl (tw [15] rfl (wt_of rfl rfl trivial) rfl (by kernel_rfl) (by kernel_rfl) ⟨br [16, 17, 18] [] rfl (by kernel_rfl) (by kernel_rfl) trivial (by kernel_rfl) (alS (zs := [iv 0, iv 0]) zeroValue28 rfl hS12 fun w13 b4 im13 hS13 => ?_), trivial⟩))))
        refine ⟨st0, ?_⟩
        refine tw [16] rfl (wt_of rfl rfl trivial) rfl (by kernel_rfl) (by kernel_rfl) ⟨br [17, 18] [] rfl (by kernel_rfl) (by kernel_rfl) trivial (by kernel_rfl) (st0B (q := 1) hS13 ⟨rfl, rfl⟩ rfl rfl rfl sizeOf39 rfl rfl rfl fun w14 im14 hS14 => ?_), trivial⟩
        refine ⟨st0, ?_⟩
        refine tw [17] rfl (wt_of rfl rfl trivial) rfl (by kernel_rfl) (by kernel_rfl) ⟨br [18] [] rfl (by kernel_rfl) (by kernel_rfl) trivial (by kernel_rfl) (st0B (q := 0) hS14 ⟨rfl, rfl⟩ rfl rfl rfl sizeOf28 rfl rfl rfl fun w15 im15 hS15 => ?_), trivial⟩
        refine ⟨st0, ?_⟩
        refine t0 rfl trivial (fun _ => r_zi rfl) rfl (te (t_then ?_))
        refine sq2 ?_
        obtain ⟨y8, hx13, hm⟩ := bindS hm
        refine rg (wl rfl (calS cf5 rfl (law29_awake_sim  (hS15.bun [1, 2] [] rfl) (hG1.mono (iT im1 (iT im2 (iT im4 (iT im5 (iT im6 (iT im8 (iT im10 (iT im11 (iT im12 (iT im13 (iT im14 im15)))))))))))) hx13) rfl fun v8 T8 w16 im16 rv8 => ?_))
        obtain ⟨rfl, hS16, _⟩ := rv8
        have hS16 := hS16.unb
        refine pv (r_mb rfl) (?_)
        rcases Bool.eq_false_or_eq_true y8 with hb9 | hb9
        · have hm := ctrue hb9 hm
          refine gT (d0 := 80) rfl rfl hb9 (pv (r_mi rfl) (gT (d0 := 80) rfl rfl hb9 (pv (r_ib rfl rfl rfl) (pv (r_pkt rfl hb9 rfl) (pv (r_mb rfl) (?_))))))
          rcases Bool.eq_false_or_eq_true (y7.2.2 != 0) with hb10 | hb10
          · have hm := ctrue hb10 hm
            refine gT (d0 := 84) rfl rfl hb10 (pv (r_fa rfl underlying39 rfl sizeOf36 rfl) (gT (d0 := 84) rfl rfl hb10 (pv (r_ld rfl isAgg36 (hS16.cell0 (i := 0) ⟨rfl, rfl⟩ (j := 0) rfl)) (gT (d0 := 84) rfl rfl hb10 (pv (r_ln rfl underlying36) (gT (d0 := 84) rfl rfl hb10 (pv (r_ib rfl rfl rfl) (pv (r_pkt rfl hb10 rfl) (pv (r_zb rfl) (nil (t_thenR [(6, .bool ((List.length y7.1.Code : Int) == 0))] ⟨rfl, trivial⟩ fun J => ?_)))))))))))
            have hm := oI hm; subst hm
            exact rtn (ret1 rfl rfl ⟨_, rfl, _, (iT im1 (iT im2 (iT im4 (iT im5 (iT im6 (iT im8 (iT im10 (iT im11 (iT im12 (iT im13 (iT im14 (iT im15 im16)))))))))))), ⟨rfl, hS16.sel [1] rfl, trivial⟩⟩)
          have hm := cfalse hb10 hm
          refine gF (d0 := 84) rfl rfl (by rw [hb10]; rfl) (gF (d0 := 84) rfl rfl (by rw [hb10]; rfl) (gF (d0 := 84) rfl rfl (by rw [hb10]; rfl) (gF (d0 := 84) rfl rfl (by rw [hb10]; rfl) (pv (r_pkf rfl hb10 rfl) (pv (r_zb rfl) (nil (t_thenR [(6, .bool false)] ⟨rfl, trivial⟩ fun J => ?_)))))))
          have hm := oI hm; subst hm
          exact rtn (ret1 rfl rfl ⟨_, rfl, _, (iT im1 (iT im2 (iT im4 (iT im5 (iT im6 (iT im8 (iT im10 (iT im11 (iT im12 (iT im13 (iT im14 (iT im15 im16)))))))))))), ⟨rfl, hS16.sel [1] rfl, trivial⟩⟩)
        have hm := cfalse hb9 hm
        refine gF (d0 := 80) rfl rfl (by rw [hb9]; rfl) (gF (d0 := 80) rfl rfl (by rw [hb9]; rfl) (pv (r_pkf rfl hb9 rfl) (pv (r_mb rfl) (gF (d0 := 84) rfl rfl rfl (gF (d0 := 84) rfl rfl rfl (gF (d0 := 84) rfl rfl rfl (gF (d0 := 84) rfl rfl rfl (pv (r_pkf rfl rfl rfl) (pv (r_zb rfl) (nil (t_thenR [(6, .bool false)] ⟨rfl, trivial⟩ fun J => ?_)))))))))))
        have hm := oI hm; subst hm
        exact rtn (ret1 rfl rfl ⟨_, rfl, _, (iT im1 (iT im2 (iT im4 (iT im5 (iT im6 (iT im8 (iT im10 (iT im11 (iT im12 (iT im13 (iT im14 (iT im15 im16)))))))))))), ⟨rfl, hS16.sel [1] rfl, trivial⟩⟩)
      refine ⟨st1 rfl (r_ldS rfl isAgg23 sizeOf23 rfl (hS12.cells0 (i := 2) ⟨rfl, rfl⟩ (o := 0) rfl) (cs := (cGOptions p2))) (st0), ?_⟩
      refine tw [9] rfl (wt_of rfl rfl trivial) rfl (by kernel_rfl) (by kernel_rfl) ⟨br [10, 11, 12, 13, 16, 17, 18] [] rfl (by kernel_rfl) (by kernel_rfl) trivial (by kernel_rfl) (calS cf8 rfl (compile_Compile_sim (p0 := (u4 ++ ([64] : List UInt8)) ++ u5) (p1 := p2) (hS12.bun [0, 1, 3, 2] [] rfl) (hG0.mono (iT im1 (iT im2 (iT im4 (iT im5 (iT im6 (iT im8 (iT im10 (iT im11 im12))))))))) hx12) rfl fun v7 T7 w13 im13 rv7 => ?_), trivial⟩
      obtain ⟨a3, c3, a4, c4, rfl, hS13, h2, h3, _⟩ := rv7
      have hS13 := hS13.unb
      refine ⟨st0, ?_⟩
      refine t0 rfl trivial (fun _ => r_mv rfl) rfl (t0 rfl trivial (fun _ => r_ex (v := .agg #[sv a3 y7.1.Code c3, sv a4 y7.1.Data c4, iv y7.1.Limit, iv y7.1.Notes]) rfl rfl) rfl (t0 rfl trivial (fun _ => r_ex (v := .agg #[iv y7.2.1.Line, iv y7.2.1.Col]) rfl rfl) rfl (t0 rfl trivial (fun _ => r_ex (v := iv y7.2.2) rfl rfl) rfl (tw [16] rfl (wt_of rfl rfl trivial) rfl (by kernel_rfl) (by kernel_rfl) ⟨br [17, 18] [] rfl (by kernel_rfl) (by kernel_rfl) trivial (by kernel_rfl) (st0B (q := 1) hS13 ⟨rfl, rfl⟩ rfl rfl rfl sizeOf39 rfl rfl rfl fun w14 im14 hS14 => ?_), trivial⟩))))
      refine ⟨st0, ?_⟩
      refine tw [17] rfl (wt_of rfl rfl trivial) rfl (by kernel_rfl) (by kernel_rfl) ⟨br [18] [] rfl (by kernel_rfl) (by kernel_rfl) trivial (by kernel_rfl) (st0B (q := 0) hS14 ⟨rfl, rfl⟩ rfl rfl rfl sizeOf28 rfl rfl rfl fun w15 im15 hS15 => ?_), trivial⟩
      refine ⟨st0, ?_⟩
      refine t0 rfl trivial (fun _ => r_zi rfl) rfl (te (t_then ?_))
      refine sq2 ?_
      obtain ⟨y8, hx13, hm⟩ := bindS hm
      refine rg (wl rfl (calS cf5 rfl (law29_awake_sim  (hS15.bun [1, 2] [] rfl) (hG1.mono (iT im1 (iT im2 (iT im4 (iT im5 (iT im6 (iT im8 (iT im10 (iT im11 (iT im12 (iT im13 (iT im14 im15)))))))))))) hx13) rfl fun v8 T8 w16 im16 rv8 => ?_))
      obtain ⟨rfl, hS16, _⟩ := rv8
      have hS16 := hS16.unb
      refine pv (r_mb rfl) (?_)
      rcases Bool.eq_false_or_eq_true y8 with hb9 | hb9
      · have hm := ctrue hb9 hm
        refine gT (d0 := 80) rfl rfl hb9 (pv (r_mi rfl) (gT (d0 := 80) rfl rfl hb9 (pv (r_ib rfl rfl rfl) (pv (r_pkt rfl hb9 rfl) (pv (r_mb rfl) (?_))))))
        rcases Bool.eq_false_or_eq_true (y7.2.2 != 0) with hb10 | hb10
        · have hm := ctrue hb10 hm
          refine gT (d0 := 84) rfl rfl hb10 (pv (r_fa rfl underlying39 rfl sizeOf36 rfl) (gT (d0 := 84) rfl rfl hb10 (pv (r_ld rfl isAgg36 (hS16.cell0 (i := 0) ⟨rfl, rfl⟩ (j := 0) rfl)) (gT (d0 := 84) rfl rfl hb10 (pv (r_ln rfl underlying36) (gT (d0 := 84) rfl rfl hb10 (pv (r_ib rfl rfl rfl) (pv (r_pkt rfl hb10 rfl) (pv (r_zb rfl) (nil (t_thenR [(6, .bool ((List.length y7.1.Code : Int) == 0))] ⟨rfl, trivial⟩ fun J => ?_)))))))))))
          have hm := oI hm; subst hm
          exact rtn (ret1 rfl rfl ⟨_, rfl, _, (iT im1 (iT im2 (iT im4 (iT im5 (iT im6 (iT im8 (iT im10 (iT im11 (iT im12 (iT im13 (iT im14 (iT im15 im16)))))))))))), ⟨rfl, hS16.sel [1] rfl, trivial⟩⟩)
        have hm := cfalse hb10 hm
        refine gF (d0 := 84) rfl rfl (by rw [hb10]; rfl) (gF (d0 := 84) rfl rfl (by rw [hb10]; rfl) (gF (d0 := 84) rfl rfl (by rw [hb10]; rfl) (gF (d0 := 84) rfl rfl (by rw [hb10]; rfl) (pv (r_pkf rfl hb10 rfl) (pv (r_zb rfl) (nil (t_thenR [(6, .bool false)] ⟨rfl, trivial⟩ fun J => ?_)))))))
        have hm := oI hm; subst hm
        exact rtn (ret1 rfl rfl ⟨_, rfl, _, (iT im1 (iT im2 (iT im4 (iT im5 (iT im6 (iT im8 (iT im10 (iT im11 (iT im12 (iT im13 (iT im14 (iT im15 im16)))))))))))), ⟨rfl, hS16.sel [1] rfl, trivial⟩⟩)
      have hm := cfalse hb9 hm
      refine gF (d0 := 80) rfl rfl (by rw [hb9]; rfl) (gF (d0 := 80) rfl rfl (by rw [hb9]; rfl) (pv (r_pkf rfl hb9 rfl) (pv (r_mb rfl) (gF (d0 := 84) rfl rfl rfl (gF (d0 := 84) rfl rfl rfl (gF (d0 := 84) rfl rfl rfl (gF (d0 := 84) rfl rfl rfl (pv (r_pkf rfl rfl rfl) (pv (r_zb rfl) (nil (t_thenR [(6, .bool false)] ⟨rfl, trivial⟩ fun J => ?_)))))))))))
      have hm := oI hm; subst hm
      exact rtn (ret1 rfl rfl ⟨_, rfl, _, (iT im1 (iT im2 (iT im4 (iT im5 (iT im6 (iT im8 (iT im10 (iT im11 (iT im12 (iT im13 (iT im14 (iT im15 im16)))))))))))), ⟨rfl, hS16.sel [1] rfl, trivial⟩⟩)
    refine ⟨st1 rfl (r_ldS rfl isAgg23 sizeOf23 rfl (hS11.cells0 (i := 1) ⟨rfl, rfl⟩ (o := 0) rfl) (cs := (cGOptions p2))) (st0), ?_⟩
    refine tw [9, 14] rfl (wt_of rfl rfl trivial) rfl (by kernel_rfl) (by kernel_rfl) ⟨br [10, 11, 12, 13, 14, 16, 17, 18] [] rfl (by kernel_rfl) (by kernel_rfl) trivial (by kernel_rfl) (calS cf8 rfl (compile_Compile_sim (p0 := (u4 ++ ([64] : List UInt8)) ++ u5) (p1 := p2) (hS11.bun [0, 2, 1] [] rfl) (hG0.mono (iT im1 (iT im2 (iT im4 (iT im5 (iT im6 (iT im8 (iT im10 im11)))))))) hx12) rfl fun v7 T7 w12 im12 rv7 => ?_), br [9, 10, 11, 12, 13, 16, 17, 18] [(8, .agg (cGOptions p2).toArray)] rfl (by kernel_rfl) (by kernel_rfl) trivial (by kernel_rfl) (alS (zs := [.slice none 0 0, .slice none 0 0, iv 0, iv 0]) zeroValue39 rfl hS11 fun w12 b4 im12 hS12 => ?_), trivial⟩
    · obtain ⟨a3, c3, a4, c4, rfl, hS12, h2, h3, _⟩ := rv7
      have hS12 := hS12.unb
      refine ⟨st0, ?_⟩
      refine t0 rfl trivial (fun _ => r_mv rfl) rfl (t0 rfl trivial (fun _ => r_ex (v := .agg #[sv a3 y7.1.Code c3, sv a4 y7.1.Data c4, iv y7.1.Limit, iv y7.1.Notes]) rfl rfl) rfl (t0 rfl trivial (fun _ => r_ex (v := .agg #[iv y7.2.1.Line, iv y7.2.1.Col]) rfl rfl) rfl (t0 rfl trivial (fun _ => r_ex (v := iv y7.2.2) rfl rfl) rfl (tw [14] rfl (wt_of rfl rfl trivial) rfl (by kernel_rfl) (by kernel_rfl) ⟨br [16, 17, 18] [] rfl (by kernel_rfl) (by kernel_rfl) trivial (by kernel_rfl) (alS (zs := [.slice none 0 0, .slice none 0 0, iv 0, iv 0]) zeroValue39 rfl hS12 fun w13 b4 im13 hS13 => ?_), trivial⟩))))
      refine ⟨st0, ?_⟩
      refine tw [16] rfl (wt_of rfl rfl trivial) rfl (by kernel_rfl) (by kernel_rfl) ⟨br [17, 18] [] rfl (by kernel_rfl) (by kernel_rfl) trivial (by kernel_rfl) (st0B (q := 0) hS13 ⟨rfl, rfl⟩ rfl rfl rfl sizeOf39 rfl rfl rfl fun w14 im14 hS14 => ?_), trivial⟩
      refine ⟨st0, ?_⟩
      refine tw [17] rfl (wt_of rfl rfl trivial) rfl (by kernel_rfl) (by kernel_rfl) ⟨br [18] [] rfl (by kernel_rfl) (by kernel_rfl) trivial (by kernel_rfl) (st0B (q := 1) hS14 ⟨rfl, rfl⟩ rfl rfl rfl sizeOf28 rfl rfl rfl fun w15 im15 hS15 => ?_), trivial⟩
      refine ⟨st0, ?_⟩
      refine t0 rfl trivial (fun _ => r_zi rfl) rfl (te (t_then ?_))
      refine sq2 ?_
      obtain ⟨y8, hx13, hm⟩ := bindS hm
      refine rg (wl rfl (calS cf5 rfl (law29_awake_sim  (hS15.bun [0, 2] [] rfl) (hG1.mono (iT im1 (iT im2 (iT im4 (iT im5 (iT im6 (iT im8 (iT im10 (iT im11 (iT im12 (iT im13 (iT im14 im15)))))))))))) hx13) rfl fun v8 T8 w16 im16 rv8 => ?_))
      obtain ⟨rfl, hS16, _⟩ := rv8
      have hS16 := hS16.unb
      refine pv (r_mb rfl) (?_)
      rcases Bool.eq_false_or_eq_true y8 with hb9 | hb9
      · have hm := ctrue hb9 hm
        refine gT (d0 := 80) rfl rfl hb9 (pv (r_mi rfl) (gT (d0 := 80) rfl rfl hb9 (pv (r_ib rfl rfl rfl) (pv (r_pkt rfl hb9 rfl) (pv (r_mb rfl) (?_))))))
        rcases Bool.eq_false_or_eq_true (y7.2.2 != 0) with hb10 | hb10
        · have hm := ctrue hb10 hm
          refine gT (d0 := 84) rfl rfl hb10 (pv (r_fa rfl underlying39 rfl sizeOf36 rfl) (gT (d0 := 84) rfl rfl hb10 (pv (r_ld rfl isAgg36 (hS16.cell0 (i := 0) ⟨rfl, rfl⟩ (j := 0) rfl)) (gT (d0 := 84) rfl rfl hb10 (pv (r_ln rfl underlying36) (gT (d0 := 84) rfl rfl hb10 (pv (r_ib rfl rfl rfl) (pv (r_pkt rfl hb10 rfl) (pv (r_zb rfl) (nil (t_thenR [(6, .bool ((List.length y7.1.Code : Int) == 0))] ⟨rfl, trivial⟩ fun J => ?_)))))))))))
          have hm := oI hm; subst hm
          exact rtn (ret1 rfl rfl ⟨_, rfl, _, (iT im1 (iT im2 (iT im4 (iT im5 (iT im6 (iT im8 (iT im10 (iT im11 (iT im12 (iT im13 (iT im14 (iT im15 im16)))))))))))), ⟨rfl, hS16.sel [1] rfl, trivial⟩⟩)
        have hm := cfalse hb10 hm
        refine gF (d0 := 84) rfl rfl (by rw [hb10]; rfl) (gF (d0 := 84) rfl rfl (by rw [hb10]; rfl) (gF (d0 := 84) rfl rfl (by rw [hb10]; rfl) (gF (d0 := 84) rfl rfl (by rw [hb10]; rfl) (pv (r_pkf rfl hb10 rfl) (pv (r_zb rfl) (nil (t_thenR [(6, .bool false)] ⟨rfl, trivial⟩ fun J => ?_)))))))
        have hm := oI hm; subst hm
        exact rtn (ret1 rfl rfl ⟨_, rfl, _, (iT im1 (iT im2 (iT im4 (iT im5 (iT im6 (iT im8 (iT im10 (iT im11 (iT im12 (iT im13 (iT im14 (iT im15 im16)))))))))))), ⟨rfl, hS16.sel [1] rfl, trivial⟩⟩)
      have hm := cfalse hb9 hm
      refine gF (d0 := 80) rfl rfl (by rw [hb9]; rfl) (gF (d0 := 80) rfl rfl (by rw [hb9]; rfl) (pv (r_pkf rfl hb9 rfl) (pv (r_mb rfl) (gF (d0 := 84) rfl rfl rfl (gF (d0 := 84) rfl rfl rfl (gF (d0 := 84) rfl rfl rfl (gF (d0 := 84) rfl rfl rfl (pv (r_pkf rfl rfl rfl) (pv (r_zb rfl) (nil (t_thenR [(6, .bool false)] ⟨rfl, trivial⟩ fun J => ?_)))))))))))
      have hm := oI hm; subst hm
      exact rtn (ret1 rfl rfl ⟨_, rfl, _, (iT im1 (iT im2 (iT im4 (iT im5 (iT im6 (iT im8 (iT im10 (iT im11 (iT im12 (iT im13 (iT im14 (iT im15 im16)))))))))))), ⟨rfl, hS16.sel [1] rfl, trivial⟩⟩)
    refine ⟨st1 rfl (r_ldS rfl isAgg23 sizeOf23 rfl (hS12.cells0 (i := 2) ⟨rfl, rfl⟩ (o := 0) rfl) (cs := (cGOptions p2))) (st0), ?_⟩
    refine tw [9] rfl (wt_of rfl rfl trivial) rfl (by kernel_rfl) (by kernel_rfl) ⟨br [10, 11, 12, 13, 16, 17, 18] [] rfl (by kernel_rfl) (by kernel_rfl) trivial (by kernel_rfl) (calS cf8 rfl (compile_Compile_sim (p0 := (u4 ++ ([64] : List UInt8)) ++ u5) (p1 := p2) (hS12.bun [0, 1, 3, 2] [] rfl) (hG0.mono (iT im1 (iT im2 (iT im4 (iT im5 (iT im6 (iT im8 (iT im10 (iT im11 im12))))))))) hx12) rfl fun v7 T7 w13 im13 rv7 => ?_), trivial⟩
    obtain ⟨a3, c3, a4, c4, rfl, hS13, h2, h3, _⟩ := rv7
    have hS13 := hS13.unb
    refine ⟨st0, ?_⟩
    refine t0 rfl trivial (fun _ => r_mv rfl) rfl (t0 rfl trivial (fun _ => r_ex (v := .agg #[sv a3 y7.1.Code c3, sv a4 y7.1.Data c4, iv y7.1.Limit, iv y7.1.Notes]) rfl rfl) rfl (t0 rfl trivial (fun _ => r_ex (v := .agg #[iv y7.2.1.Line, iv y7.2.1.Col]) rfl rfl) rfl (t0 rfl trivial (fun _ => r_ex (v := iv y7.2.2) rfl rfl) rfl (tw [16] rfl (wt_of rfl rfl trivial) rfl (by kernel_rfl) (by kernel_rfl) ⟨br [17, 18] [] rfl (by kernel_rfl) (by kernel_rfl) trivial (by kernel_rfl) (st0B (q := 0) hS13 ⟨rfl, rfl⟩ rfl rfl rfl sizeOf39 rfl rfl rfl fun w14 im14 hS14 => ?_), trivial⟩))))
    refine ⟨st0, ?_⟩
    refine tw [17] rfl (wt_of rfl rfl trivial) rfl (by kernel_rfl) (by kernel_rfl) ⟨br [18] [] rfl (by kernel_rfl) (by kernel_rfl) trivial (by kernel_rfl) (st0B (q := 1) hS14 ⟨rfl, rfl⟩ rfl rfl rfl sizeOf28 rfl rfl rfl fun w15 im15 hS15 => ?_), trivial⟩
    refine ⟨st0, ?_⟩
    refine t0 rfl trivial (fun _ => r_zi rfl) rfl (te (t_then ?_))
    refine sq2 ?_
    obtain ⟨y8, hx13, hm⟩ := bindS hm
    refine rg (wl rfl (calS cf5 rfl (law29_awake_sim  (hS15.bun [0, 2] [] rfl) (hG1.mono (iT im1 (iT im2 (iT im4 (iT im5 (iT im6 (iT im8 (iT im10 (iT im11 (iT im12 (iT im13 (iT im14 im15)))))))))))) hx13) rfl fun v8 T8 w16 im16 rv8 => ?_))
    obtain ⟨rfl, hS16, _⟩ := rv8
    have hS16 := hS16.unb
    refine pv (r_mb rfl) (?_)
    rcases Bool.eq_false_or_eq_true y8 with hb9 | hb9
    · have hm := ctrue hb9 hm
      refine gT (d0 := 80) rfl rfl hb9 (pv (r_mi rfl) (gT (d0 := 80) rfl rfl hb9 (pv (r_ib rfl rfl rfl) (pv (r_pkt rfl hb9 rfl) (pv (r_mb rfl) (?_))))))
      rcases Bool.eq_false_or_eq_true (y7.2.2 != 0) with hb10 | hb10
      · have hm := ctrue hb10 hm
        refine gT (d0 := 84) rfl rfl hb10 (pv (r_fa rfl underlying39 rfl sizeOf36 rfl) (gT (d0 := 84) rfl rfl hb10 (pv (r_ld rfl isAgg36 (hS16.cell0 (i := 0) ⟨rfl, rfl⟩ (j := 0) rfl)) (gT (d0 := 84) rfl rfl hb10 (pv (r_ln rfl underlying36) (gT (d0 := 84) rfl rfl hb10 (pv (r_ib rfl rfl rfl) (pv (r_pkt rfl hb10 rfl) (pv (r_zb rfl) (nil (t_thenR [(6, .bool ((List.length y7.1.Code : Int) == 0))] ⟨rfl, trivial⟩ fun J => ?_)))))))))))
        have hm := oI hm; subst hm
        exact rtn (ret1 rfl rfl ⟨_, rfl, _, (iT im1 (iT im2 (iT im4 (iT im5 (iT im6 (iT im8 (iT im10 (iT im11 (iT im12 (iT im13 (iT im14 (iT im15 im16)))))))))))), ⟨rfl, hS16.sel [1] rfl, trivial⟩⟩)
      have hm := cfalse hb10 hm
      refine gF (d0 := 84) rfl rfl (by rw [hb10]; rfl) (gF (d0 := 84) rfl rfl (by rw [hb10]; rfl) (gF (d0 := 84) rfl rfl (by rw [hb10]; rfl) (gF (d0 := 84) rfl rfl (by rw [hb10]; rfl) (pv (r_pkf rfl hb10 rfl) (pv (r_zb rfl) (nil (t_thenR [(6, .bool false)] ⟨rfl, trivial⟩ fun J => ?_)))))))
      have hm := oI hm; subst hm
      exact rtn (ret1 rfl rfl ⟨_, rfl, _, (iT im1 (iT im2 (iT im4 (iT im5 (iT im6 (iT im8 (iT im10 (iT im11 (iT im12 (iT im13 (iT im14 (iT im15 im16)))))))))))), ⟨rfl, hS16.sel [1] rfl, trivial⟩⟩)
    have hm := cfalse hb9 hm
    refine gF (d0 := 80) rfl rfl (by rw [hb9]; rfl) (gF (d0 := 80) rfl rfl (by rw [hb9]; rfl) (pv (r_pkf rfl hb9 rfl) (pv (r_mb rfl) (gF (d0 := 84) rfl rfl rfl (gF (d0 := 84) rfl rfl rfl (gF (d0 := 84) rfl rfl rfl (gF (d0 := 84) rfl rfl rfl (pv (r_pkf rfl rfl rfl) (pv (r_zb rfl) (nil (t_thenR [(6, .bool false)] ⟨rfl, trivial⟩ fun J => ?_)))))))))))
    have hm := oI hm; subst hm
    exact rtn (ret1 rfl rfl ⟨_, rfl, _, (iT im1 (iT im2 (iT im4 (iT im5 (iT im6 (iT im8 (iT im10 (iT im11 (iT im12 (iT im13 (iT im14 (iT im15 im16)))))))))))), ⟨rfl, hS16.sel [1] rfl, trivial⟩⟩)
  have hm := cfalse hb7 hm
  refine gF (d0 := 55) rfl rfl (by rw [hb7]; rfl) (gF (d0 := 55) rfl rfl (by rw [hb7]; rfl) (gF (d0 := 55) rfl rfl (by rw [hb7]; rfl) (gF (d0 := 55) rfl rfl (by rw [hb7]; rfl) (gF (d0 := 55) rfl rfl (by rw [hb7]; rfl) (gF (d0 := 55) rfl rfl (by rw [hb7]; rfl) (gF (d0 := 55) rfl rfl (by rw [hb7]; rfl) (pv (r_pkf rfl hb7 rfl) (nil (t_then ?_)))))))))
  refine cnd (b := false) rfl (fun h => nomatch h) (fun _ => ?_)
  refine skp (t_thenR [(0, .string ⟨p0.toArray⟩), (1, iv p1), (5, pt b1 0)] ⟨rfl, rfl, rfl, trivial⟩ fun J => ?_)
  refine sq2 (rt [0, 0, 0, 0, 0, 0, 0, 0, 1, 2, 0, 0, 0, 0, 2, 2, 2, 2, 0] [0, 1, 2, 3, 4, 5, 6, 7, 8, 9, 10, 11, 12, 13, 14, 15, 16, 17, 18] mix (by kernel_rfl) hS6.lt fun w17 i2 => ?_)
  have im17 := i2.imm
  have hS17 := hS6.keep i2 (fun _ h => h)
  obtain ⟨u6, hx14, hm⟩ := bindS hm
  obtain ⟨z_4, hro4, hm⟩ := bindS hm
  obtain ⟨u7, hx15, hm⟩ := bindS hm
  obtain ⟨z_5, hro5, hm⟩ := bindS hm
  obtain ⟨y9, hx16, hm⟩ := bindS hm
  refine t0 rfl trivial (fun _ => r_mt rfl) rfl (t0 rfl trivial (fun _ => r_mi rfl) rfl (t0 rfl trivial (fun _ => r_ss rfl rfl ⟨_, rfl⟩ hx14 underlying9) rfl (t0 rfl trivial (fun _ => r_sad rfl rfl (room_some hro4)) rfl (t0 rfl trivial (fun _ => r_mt rfl) rfl (t0 rfl trivial (fun _ => r_mi rfl) rfl (t0 rfl trivial (fun _ => r_ss rfl ⟨_, rfl⟩ rfl hx15 underlying9) rfl (t0 rfl trivial (fun _ => r_sad rfl rfl (room_some hro5)) rfl (t1 rfl trivial (r_ldS rfl isAgg23 sizeOf23 rfl (hS17.cells0 (i := 1) ⟨rfl, rfl⟩ (o := 0) rfl) (cs := (cGOptions p2))) rfl (tw [9, 14, 15] rfl (wt_of rfl rfl trivial) rfl (by kernel_rfl) (by kernel_rfl) ⟨br [10, 11, 12, 13, 14, 15, 16, 17, 18] [] rfl (by kernel_rfl) (by kernel_rfl) trivial (by kernel_rfl) (calS cf8 rfl (compile_Compile_sim (p0 := (u6 ++ ([64] : List UInt8)) ++ u7) (p1 := p2) (hS17.bun [2, 1] [] rfl) (hG0.mono (iT im1 (iT im2 (iT im4 (iT im5 (iT im6 im17)))))) hx16) rfl fun v9 T9 w18 im18 rv9 => ?_), br [9, 10, 11, 12, 13, 15, 16, 17, 18] [(8, .agg (cGOptions p2).toArray)] rfl (by kernel_rfl) (by kernel_rfl) trivial (by kernel_rfl) (alS (zs := [.slice none 0 0, .slice none 0 0, iv 0, iv 0]) zeroValue39 rfl hS17 fun w18 b5 im18 hS18 => ?_), br [9, 10, 11, 12, 13, 14, 16, 17, 18] [(8, .agg (cGOptions p2).toArray)] rfl (by kernel_rfl) (by kernel_rfl) trivial (by kernel_rfl) (alS (zs := [iv 0, iv 0]) zeroValue28 rfl hS17 fun w18 b5 im18 hS18 => ?_), trivial⟩)))))))))
  · obtain ⟨a5, c5, a6, c6, rfl, hS18, h4, h5, _⟩ := rv9
    have hS18 := hS18.unb
    refine ⟨st0, ?_⟩
    refine t0 rfl trivial (fun _ => r_mv rfl) rfl (t0 rfl trivial (fun _ => r_ex (v := .agg #[sv a5 y9.1.Code c5, sv a6 y9.1.Data c6, iv y9.1.Limit, iv y9.1.Notes]) rfl rfl) rfl (t0 rfl trivial (fun _ => r_ex (v := .agg #[iv y9.2.1.Line, iv y9.2.1.Col]) rfl rfl) rfl (t0 rfl trivial (fun _ => r_ex (v := iv y9.2.2) rfl rfl) rfl (tw [14, 15] rfl (wt_of rfl rfl trivial) rfl (by kernel_rfl) (by kernel_rfl) ⟨br [15, 16, 17, 18] [] rfl (by kernel_rfl) (by kernel_rfl) trivial (by kernel_rfl) (alS (zs := [.slice none 0 0, .slice none 0 0, iv 0, iv 0]) zeroValue39 rfl hS18 fun w19 b5 im19 hS19 => ?_), br [14, 16, 17, 18] [] rfl (by kernel_rfl) (by kernel_rfl) trivial (by kernel_rfl) (alS (zs := [iv 0, iv 0]) zeroValue28 rfl hS18 fun w19 b5 im19 hS19 => ?_), trivial⟩))))
    · refine ⟨st0, ?_⟩
      refine tw [15] rfl (wt_of rfl rfl trivial) rfl (by kernel_rfl) (by kernel_rfl) ⟨br [16, 17, 18] [] rfl (by kernel_rfl) (by kernel_rfl) trivial (by kernel_rfl) (alS (zs := [iv 0, iv 0]) zeroValue28 rfl hS19 fun w20 b6 im20 hS20 => ?_), trivial⟩
      refine ⟨st0, ?_⟩
      refine tw [16] rfl (wt_of rfl rfl trivial) rfl (by kernel_rfl) (by kernel_rfl) ⟨br [17, 18] [] rfl (by kernel_rfl) (by kernel_rfl) trivial (by kernel_rfl) (st0B (q := 1) hS20 ⟨rfl, rfl⟩ rfl rfl rfl sizeOf39 rfl rfl rfl fun w21 im21 hS21 => ?_), trivial⟩
      refine ⟨st0, ?_⟩
      refine tw [17] rfl (wt_of rfl rfl trivial) rfl (by kernel_rfl) (by kernel_rfl) ⟨br [18] [] rfl (by kernel_rfl) (by kernel_rfl) trivial (by kernel_rfl) (st0B (q := 0) hS21 ⟨rfl, rfl⟩ rfl rfl rfl sizeOf28 rfl rfl rfl fun w22 im22 hS22 => ?_), trivial⟩
      refine ⟨st0, ?_⟩
      refine t0 rfl trivial (fun _ => r_zi rfl) rfl (te (t_then ?_))
      refine sq2 ?_
      obtain ⟨y10, hx17, hm⟩ := bindS hm
      refine rg (wl rfl (calS cf5 rfl (law29_awake_sim  (hS22.bun [1, 2] [] rfl) (hG1.mono (iT im1 (iT im2 (iT im4 (iT im5 (iT im6 (iT im17 (iT im18 (iT im19 (iT im20 (iT im21 im22))))))))))) hx17) rfl fun v10 T10 w23 im23 rv10 => ?_))
      obtain ⟨rfl, hS23, _⟩ := rv10
      have hS23 := hS23.unb
      refine pv (r_mb rfl) (?_)
      rcases Bool.eq_false_or_eq_true y10 with hb12 | hb12
      · have hm := ctrue hb12 hm
        refine gT (d0 := 80) rfl rfl hb12 (pv (r_mi rfl) (gT (d0 := 80) rfl rfl hb12 (pv (r_ib rfl rfl rfl) (pv (r_pkt rfl hb12 rfl) (pv (r_mb rfl) (?_))))))
        rcases Bool.eq_false_or_eq_true (y9.2.2 != 0) with hb13 | hb13
        · have hm := ctrue hb13 hm
          refine gT (d0 := 84) rfl rfl hb13 (pv (r_fa rfl underlying39 rfl sizeOf36 rfl) (gT (d0 := 84) rfl rfl hb13 (pv (r_ld rfl isAgg36 (hS23.cell0 (i := 0) ⟨rfl, rfl⟩ (j := 0) rfl)) (gT (d0 := 84) rfl rfl hb13 (pv (r_ln rfl underlying36) (gT (d0 := 84) rfl rfl hb13 (pv (r_ib rfl rfl rfl) (pv (r_pkt rfl hb13 rfl) (pv (r_zb rfl) (nil (t_thenR [(6, .bool ((List.length y9.1.Code : Int) == 0))] ⟨rfl, trivial⟩ fun J => ?_)))))))))))
          have hm := oI hm; subst hm
          exact rtn (ret1 rfl rfl ⟨_, rfl, _, (iT im1 (iT im2 (iT im4 (iT im5 (iT im6 (iT im17 (iT im18 (iT im19 (iT im20 (iT im21 (iT im22 im23))))))))))), ⟨rfl, hS23.sel [1] rfl, trivial⟩⟩)
        have hm := cfalse hb13 hm
        refine gF (d0 := 84) rfl rfl (by rw [hb13]; rfl) (gF (d0 := 84) rfl rfl (by rw [hb13]; rfl) (gF (d0 := 84) rfl rfl (by rw [hb13]; rfl) (gF (d0 := 84) rfl rfl (by rw [hb13]; rfl) (pv (r_pkf rfl hb13 rfl) (pv (r_zb rfl) (nil (t_thenR [(6, .bool false)] ⟨rfl, trivial⟩ fun J => ?_)))))))
        have hm := oI hm; subst hm
        exact rtn (ret1 rfl rfl ⟨_, rfl, _, (iT im1 (iT im2 (iT im4 (iT im5 (iT im6 (iT im17 (iT im18 (iT im19 (iT im20 (iT im21 (iT im22 im23))))))))))), ⟨rfl, hS23.sel [1] rfl, trivial⟩⟩)
      have hm := cfalse hb12 hm
      refine gF (d0 := 80) rfl rfl (by rw [hb12]; rfl) (gF (d0 := 80) rfl rfl (by rw [hb12]; rfl) (pv (r_pkf rfl hb12 rfl) (pv (r_mb rfl) (gF (d0 := 84) rfl rfl rfl (gF (d0 := 84) rfl rfl rfl (gF (d0 := 84) rfl rfl rfl (gF (d0 := 84) rfl rfl rfl (pv (r_pkf rfl rfl rfl) (pv (r_zb rfl) (nil (t_thenR [(6, .bool false)] ⟨rfl, trivial⟩ fun J => ?_)))))))))))
      have hm := oI hm; subst hm
      exact rtn (ret1 rfl rfl ⟨_, rfl, _, (iT im1 (iT im2 (iT im4 (iT im5 (iT im6 (iT im17 (iT im18 (iT im19 (iT im20 (iT im21 (iT im22 im23))))))))))), ⟨rfl, hS23.sel [1] rfl, trivial⟩⟩)
    refine ⟨st0, ?_⟩
    refine tw [14] rfl (wt_of rfl rfl trivial) rfl (by kernel_rfl) (by kernel_rfl) ⟨br [16, 17, 18] [] rfl (by kernel_rfl) (by kernel_rfl) trivial (by kernel_rfl) (alS (zs := [.slice none 0 0, .slice none 0 0, iv 0, iv 0]) zeroValue39 rfl hS19 fun w20 b6 im20 hS20 => ?_), trivial⟩
    refine ⟨st0, ?_⟩
    refine tw [16] rfl (wt_of rfl rfl trivial) rfl (by kernel_rfl) (by kernel_rfl) ⟨br [17, 18] [] rfl (by kernel_rfl) (by kernel_rfl) trivial (by kernel_rfl) (st0B (q := 0) hS20 ⟨rfl, rfl⟩ rfl rfl rfl sizeOf39 rfl rfl rfl fun w21 im21 hS21 => ?_), trivial⟩
    refine ⟨st0, ?_⟩
    refine tw [17] rfl (wt_of rfl rfl trivial) rfl (by kernel_rfl) (by kernel_rfl) ⟨br [18] [] rfl (by kernel_rfl) (by kernel_rfl) trivial (by kernel_rfl) (st0B (q := 1) hS21 ⟨rfl, rfl⟩ rfl rfl rfl sizeOf28 rfl rfl rfl fun w22 im22 hS22 => ?_), trivial⟩
    refine ⟨st0, ?_⟩
    refine t0 rfl trivial (fun _ => r_zi rfl) rfl (te (t_then ?_))
    refine sq2 ?_
    obtain ⟨y10, hx17, hm⟩ := bindS hm
    refine rg (wl rfl (calS cf5 rfl (law29_awake_sim  (hS22.bun [0, 2] [] rfl) (hG1.mono (iT im1 (iT im2 (iT im4 (iT im5 (iT im6 (iT im17 (iT im18 (iT im19 (iT im20 (iT im21 im22))))))))))) hx17) rfl fun v10 T10 w23 im23 rv10 => ?_))
    obtain ⟨rfl, hS23, _⟩ := rv10
    have hS23 := hS23.unb
    refine pv (r_mb rfl) (?_)
    rcases Bool.eq_false_or_eq_true y10 with hb12 | hb12
    · have hm := ctrue hb12 hm
      refine gT (d0 := 80) rfl rfl hb12 (pv (r_mi rfl) (gT (d0 := 80) rfl rfl hb12 (pv (r_ib rfl rfl rfl) (pv (r_pkt rfl hb12 rfl) (pv (r_mb rfl) (?_))))))
      rcases Bool.eq_false_or_eq_true (y9.2.2 != 0) with hb13 | hb13
      · have hm := ctrue hb13 hm
        refine gT (d0 := 84) rfl rfl hb13 (pv (r_fa rfl underlying39 rfl sizeOf36 rfl) (gT (d0 := 84) rfl rfl hb13 (pv (r_ld rfl isAgg36 (hS23.cell0 (i := 0) ⟨rfl, rfl⟩ (j := 0) rfl)) (gT (d0 := 84) rfl rfl hb13 (pv (r_ln rfl underlying36) (gT (d0 := 84) rfl rfl hb13 (pv (r_ib rfl rfl rfl) (pv (r_pkt rfl hb13 rfl) (pv (r_zb rfl) (nil (t_thenR [(6, .bool ((List.length y9.1.Code : Int) == 0))] ⟨rfl, trivial⟩ fun J => ?_)))))))))))
        have hm := oI hm; subst hm
        exact rtn (ret1 rfl rfl ⟨_, rfl, _, (iT im1 (iT im2 (iT im4 (iT im5 (iT im6 (iT im17 (iT im18 (iT im19 (iT im20 (iT im21 (iT im22 im23))))))))))), ⟨rfl, hS23.sel [1] rfl, trivial⟩⟩)
      have hm := cfalse hb13 hm
      refine gF (d0 := 84) rfl rfl (by rw [hb13]; rfl) (gF (d0 := 84) rfl rfl (by rw [hb13]; rfl) (gF (d0 := 84) rfl rfl (by rw [hb13]; rfl) (gF (d0 := 84) rfl rfl (by rw [hb13]; rfl) (pv (r_pkf rfl hb13 rfl) (pv (r_zb rfl) (nil (t_thenR [(6, .bool false)] ⟨rfl, trivial⟩ fun J => ?_)))))))
      have hm := oI hm; subst hm
      exact rtn (ret1 rfl rfl ⟨_, rfl, _, (iT im1 (iT im2 (iT im4 (iT im5 (iT im6 (iT im17 (iT im18 (iT im19 (iT im20 (iT im21 (iT im22 im23))))))))))), ⟨rfl, hS23.sel [1] rfl, trivial⟩⟩)
    have hm := cfalse hb12 hm
    refine gF (d0 := 80) rfl rfl (by rw [hb12]; rfl) (gF (d0 := 80) rfl rfl (by rw [hb12]; rfl) (pv (r_pkf rfl hb12 rfl) (pv (r_mb rfl) (gF (d0 := 84) rfl rfl rfl (gF (d0 := 84) rfl rfl rfl (gF (d0 := 84) rfl rfl rfl (gF (d0 := 84) rfl rfl rfl (pv (r_pkf rfl rfl rfl) (pv (r_zb rfl) (nil (t_thenR [(6, .bool false)] ⟨rfl, trivial⟩ fun J => ?_)))))))))))
    have hm := oI hm; subst hm
    exact rtn (ret1 rfl rfl ⟨_, rfl, _, (iT im1 (iT im2 (iT im4 (iT im5 (iT im6 (iT im17 (iT im18 (iT im19 (iT im20 (iT im21 (iT im22 im23))))))))))), ⟨rfl, hS23.sel [1] rfl, trivial⟩⟩)
  · refine ⟨st1 rfl (r_ldS rfl isAgg23 sizeOf23 rfl (hS18.cells0 (i := 2) ⟨rfl, rfl⟩ (o := 0) rfl) (cs := (cGOptions p2))) (st0), ?_⟩
    refine tw [9, 15] rfl (wt_of rfl rfl trivial) rfl (by kernel_rfl) (by kernel_rfl) ⟨br [10, 11, 12, 13, 15, 16, 17, 18] [] rfl (by kernel_rfl) (by kernel_rfl) trivial (by kernel_rfl) (calS cf8 rfl (compile_Compile_sim (p0 := (u6 ++ ([64] : List UInt8)) ++ u7) (p1 := p2) (hS18.bun [0, 3, 2] [] rfl) (hG0.mono (iT im1 (iT im2 (iT im4 (iT im5 (iT im6 (iT im17 im18))))))) hx16) rfl fun v9 T9 w19 im19 rv9 => ?_), br [9, 10, 11, 12, 13, 16, 17, 18] [(8, .agg (cGOptions p2).toArray)] rfl (by kernel_rfl) (by kernel_rfl) trivial (by kernel_rfl) (alS (zs := [iv 0, iv 0]) zeroValue28 rfl hS18 fun w19 b6 im19 hS19 => ?_), trivial⟩
    · obtain ⟨a5, c5, a6, c6, rfl, hS19, h4, h5, _⟩ := rv9
      have hS19 := hS19.unb
      refine ⟨st0, ?_⟩
      refine t0 rfl trivial (fun _ => r_mv rfl) rfl (t0 rfl trivial (fun _ => r_ex (v := .agg #[sv a5 y9.1.Code c5, sv a6 y9.1.Data c6, iv y9.1.Limit, iv y9.1.Notes]) rfl rfl) rfl (t0 rfl trivial (fun _ => r_ex (v := .agg #[iv y9.2.1.Line, iv y9.2.1.Col]) rfl rfl) rfl (t0 rfl trivial (fun _ => r_ex (v := iv y9.2.2) rfl rfl) rfl (tw [15] rfl (wt_of rfl rfl trivial) rfl (by kernel_rfl) (by kernel_rfl) ⟨br [16, 17, 18] [] rfl (by kernel_rfl) (by kernel_rfl) trivial (by kernel_rfl) (alS (zs := [iv 0, iv 0]) zeroValue28 rfl hS19 fun w20 b6 im20 hS20 => ?_), trivial⟩))))
      refine ⟨st0, ?_⟩
      refine tw [16] rfl (wt_of rfl rfl trivial) rfl (by kernel_rfl) (by kernel_rfl) ⟨br [17, 18] [] rfl (by kernel_rfl) (by kernel_rfl) trivial (by kernel_rfl) (st0B (q := 1) hS20 ⟨rfl, rfl⟩ rfl rfl rfl sizeOf39 rfl rfl rfl fun w21 im21 hS21 => ?_), trivial⟩
      refine ⟨st0, ?_⟩
      refine tw [17] rfl (wt_of rfl rfl trivial) rfl (by kernel_rfl) (by kernel_rfl) ⟨br [18] [] rfl (by kernel_rfl) (by kernel_rfl) trivial (by kernel_rfl) (st0B (q := 0) hS21 ⟨rfl, rfl⟩ rfl rfl rfl sizeOf28 rfl rfl rfl fun w22 im22 hS22 => ?_), trivial⟩
      refine ⟨st0, ?_⟩
      refine t0 rfl trivial (fun _ => r_zi rfl) rfl (te (t_then ?_))
      refine sq2 ?_
      obtain ⟨y10, hx17, hm⟩ := bindS hm
      refine rg (wl rfl (calS cf5 rfl (law29_awake_sim  (hS22.bun [1, 2] [] rfl) (hG1.mono (iT im1 (iT im2 (iT im4 (iT im5 (iT im6 (iT im17 (iT im18 (iT im19 (iT im20 (iT im21 im22))))))))))) hx17) rfl fun v10 T10 w23 im23 rv10 => ?_))
      obtain ⟨rfl, hS23, _⟩ := rv10
      have hS23 := hS23.unb
      refine pv (r_mb rfl) (?_)
      rcases Bool.eq_false_or_eq_true y10 with hb12 | hb12
      · have hm := ctrue hb12 hm
        refine gT (d0 := 80) rfl rfl hb12 (pv (r_mi rfl) (gT (d0 := 80) rfl rfl hb12 (pv (r_ib rfl rfl rfl) (pv (r_pkt rfl hb12 rfl) (pv (r_mb rfl) (?_))))))
        rcases Bool.eq_false_or_eq_true (y9.2.2 != 0) with hb13 | hb13
        · have hm := ctrue hb13 hm
          refine gT (d0 := 84) rfl rfl hb13 (pv (r_fa rfl underlying39 rfl sizeOf36 rfl) (gT (d0 := 84) rfl rfl hb13 (pv (r_ld rfl isAgg36 (hS23.cell0 (i := 0) ⟨rfl, rfl⟩ (j := 0) rfl)) (gT (d0 := 84) rfl rfl hb13 (pv (r_ln rfl underlying36) (gT (d0 := 84) rfl rfl hb13 (pv (r_ib rfl rfl rfl) (pv (r_pkt rfl hb13 rfl) (pv (r_zb rfl) (nil (t_thenR [(6, .bool ((List.length y9.1.Code : Int) == 0))] ⟨rfl, trivial⟩ fun J => ?_)))))))))))
          have hm := oI hm; subst hm
          exact rtn (ret1 rfl rfl ⟨_, rfl, _, (iT im1 (iT im2 (iT im4 (iT im5 (iT im6 (iT im17 (iT im18 (iT im19 (iT im20 (iT im21 (iT im22 im23))))))))))), ⟨rfl, hS23.sel [1] rfl, trivial⟩⟩)
        have hm := cfalse hb13 hm
        refine gF (d0 := 84) rfl rfl (by rw [hb13]; rfl) (gF (d0 := 84) rfl rfl (by rw [hb13]; rfl) (gF (d0 := 84) rfl rfl (by rw [hb13]; rfl) (gF (d0 := 84) rfl rfl (by rw [hb13]; rfl) (pv (r_pkf rfl hb13 rfl) (pv (r_zb rfl) (nil (t_thenR [(6, .bool false)] ⟨rfl, trivial⟩ fun J => ?_)))))))
        have hm := oI hm; subst hm
        exact rtn (ret1 rfl rfl ⟨_, rfl, _, (iT im1 (iT im2 (iT im4 (iT im5 (iT im6 (iT im17 (iT im18 (iT im19 (iT im20 (iT im21 (iT im22 im23))))))))))), ⟨rfl, hS23.sel [1] rfl, trivial⟩⟩)
      have hm := cfalse hb12 hm
      refine gF (d0 := 80) rfl rfl (by rw [hb12]; rfl) (gF (d0 := 80) rfl rfl (by rw [hb12]; rfl) (pv (r_pkf rfl hb12 rfl) (pv (r_mb rfl) (gF (d0 := 84) rfl rfl rfl (gF (d0 := 84) rfl rfl rfl (gF (d0 := 84) rfl rfl rfl (gF (d0 := 84) rfl rfl rfl (pv (r_pkf rfl rfl rfl) (pv (r_zb rfl) (nil (t_thenR [(6, .bool false)] ⟨rfl, trivial⟩ fun J => ?_)))))))))))
      have hm := oI hm; subst hm
      exact rtn (ret1 rfl rfl ⟨_, rfl, _, (iT im1 (iT im2 (iT im4 (iT im5 (iT im6 (iT im17 (iT im18 (iT im19 (iT im20 (iT im21 (iT im22 im23))))))))))), ⟨rfl, hS23.sel [1] rfl, trivial⟩⟩)
    refine ⟨st1 rfl (r_ldS rfl isAgg23 sizeOf23 rfl (hS19.cells0 (i := 3) ⟨rfl, rfl⟩ (o := 0) rfl) (cs := (cGOptions p2))) (st0), ?_⟩
    refine tw [9] rfl (wt_of rfl rfl trivial) rfl (by kernel_rfl) (by kernel_rfl) ⟨br [10, 11, 12, 13, 16, 17, 18] [] rfl (by kernel_rfl) (by kernel_rfl) trivial (by kernel_rfl) (calS cf8 rfl (compile_Compile_sim (p0 := (u6 ++ ([64] : List UInt8)) ++ u7) (p1 := p2) (hS19.bun [0, 1, 4, 3] [] rfl) (hG0.mono (iT im1 (iT im2 (iT im4 (iT im5 (iT im6 (iT im17 (iT im18 im19)))))))) hx16) rfl fun v9 T9 w20 im20 rv9 => ?_), trivial⟩
    obtain ⟨a5, c5, a6, c6, rfl, hS20, h4, h5, _⟩ := rv9
    have hS20 := hS20.unb
    refine ⟨st0, ?_⟩
    refine t0 rfl trivial (fun _ => r_mv rfl) rfl (t0 rfl trivial (fun _ => r_ex (v := .agg #[sv a5 y9.1.Code c5, sv a6 y9.1.Data c6, iv y9.1.Limit, iv y9.1.Notes]) rfl rfl) rfl (t0 rfl trivial (fun _ => r_ex (v := .agg #[iv y9.2.1.Line, iv y9.2.1.Col]) rfl rfl) rfl (t0 rfl trivial (fun _ => r_ex (v := iv y9.2.2) rfl rfl) rfl (tw [16] rfl (wt_of rfl rfl trivial) rfl (by kernel_rfl) (by kernel_rfl) ⟨br [17, 18] [] rfl (by kernel_rfl) (by kernel_rfl) trivial (by kernel_rfl) (st0B (q := 1) hS20 ⟨rfl, rfl⟩ rfl rfl rfl sizeOf39 rfl rfl rfl fun w21 im21 hS21 => ?_), trivial⟩))))
    refine ⟨st0, ?_⟩
    refine tw [17] rfl (wt_of rfl rfl trivial) rfl (by kernel_rfl) (by kernel_rfl) ⟨br [18] [] rfl (by kernel_rfl) (by kernel_rfl) trivial (by kernel_rfl) (st0B (q := 0) hS21 ⟨rfl, rfl⟩ rfl rfl rfl sizeOf28 rfl rfl rfl fun w22 im22 hS22 => ?_), trivial⟩
    refine ⟨st0, ?_⟩
    refine t0 rfl trivial (fun _ => r_zi rfl) rfl (te (t_then ?_))
    refine sq2 ?_
    obtain ⟨y10, hx17, hm⟩ := bindS hm
    refine rg (wl rfl (calS cf5 rfl (law29_awake_sim  (hS22.bun [1, 2] [] rfl) (hG1.mono (iT im1 (iT im2 (iT im4 (iT im5 (iT im6 (iT im17 (iT im18 (iT im19 (iT im20 (iT im21 im22))))))))))) hx17) rfl fun v10 T10 w23 im23 rv10 => ?_))
    obtain ⟨rfl, hS23, _⟩ := rv10
    have hS23 := hS23.unb
    refine pv (r_mb rfl) (?_)
    rcases Bool.eq_false_or_eq_true y10 with hb12 | hb12
    · have hm := ctrue hb12 hm
      refine gT (d0 := 80) rfl rfl hb12 (pv (r_mi rfl) (gT (d0 := 80) rfl rfl hb12 (pv (r_ib rfl rfl rfl) (pv (r_pkt rfl hb12 rfl) (pv (r_mb rfl) (?_))))))
      rcases Bool.eq_false_or_eq_true (y9.2.2 != 0) with hb13 | hb13
      · have hm := ctrue hb13 hm
        refine gT (d0 := 84) rfl rfl hb13 (pv (r_fa rfl underlying39 rfl sizeOf36 rfl) (gT (d0 := 84) rfl rfl hb13 (pv (r_ld rfl isAgg36 (hS23.cell0 (i := 0) ⟨rfl, rfl⟩ (j := 0) rfl)) (gT (d0 := 84) rfl rfl hb13 (pv (r_ln rfl underlying36) (gT (d0 := 84) rfl rfl hb13 (pv (r_ib rfl rfl rfl) (pv (r_pkt rfl hb13 rfl) (pv (r_zb rfl) (nil (t_thenR [(6, .bool ((List.length y9.1.Code : Int) == 0))] ⟨rfl, trivial⟩ fun J => ?_)))))))))))
        have hm := oI hm; subst hm
        exact rtn (ret1 rfl rfl ⟨_, rfl, _, (iT im1 (iT im2 (iT im4 (iT im5 (iT im6 (iT im17 (iT im18 (iT im19 (iT im20 (iT im21 (iT im22 im23))))))))))), ⟨rfl, hS23.sel [1] rfl, trivial⟩⟩)
      have hm := cfalse hb13 hm
      refine gF (d0 := 84) rfl rfl (by rw [hb13]; rfl) (gF (d0 := 84) rfl rfl (by rw [hb13]; rfl) (gF (d0 := 84) rfl rfl (by rw [hb13]; rfl) (gF (d0 := 84) rfl rfl (by rw [hb13]; rfl) (pv (r_pkf rfl hb13 rfl) (pv (r_zb rfl) (nil (t_thenR [(6, .bool false)] ⟨rfl, trivial⟩ fun J => ?_)))))))
      have hm := oI hm; subst hm
      exact rtn (ret1 rfl rfl ⟨_, rfl, _, (iT im1 (iT im2 (iT im4 (iT im5 (iT im6 (iT im17 (iT im18 (iT im19 (iT im20 (iT im21 (iT im22 im23))))))))))), ⟨rfl, hS23.sel [1] rfl, trivial⟩⟩)
    have hm := cfalse hb12 hm
    refine gF (d0 := 80) rfl rfl (by rw [hb12]; rfl) (gF (d0 := 80) rfl rfl (by rw [hb12]; rfl) (pv (r_pkf rfl hb12 rfl) (pv (r_mb rfl) (gF (d0 := 84) rfl rfl rfl (gF (d0 := 84) rfl rfl rfl (gF (d0 := 84) rfl rfl rfl (gF (d0 := 84) rfl rfl rfl (pv (r_pkf rfl rfl rfl) (pv (r_zb rfl) (nil (t_thenR [(6, .bool false)] ⟨rfl, trivial⟩ fun J => ?_)))))))))))
    have hm := oI hm; subst hm
    exact rtn (ret1 rfl rfl ⟨_, rfl, _, (iT im1 (iT im2 (iT im4 (iT im5 (iT im6 (iT im17 (iT im18 (iT im19 (iT im20 (iT im21 (iT im22 im23))))))))))), ⟨rfl, hS23.sel [1] rfl, trivial⟩⟩)
  refine ⟨st1 rfl (r_ldS rfl isAgg23 sizeOf23 rfl (hS18.cells0 (i := 2) ⟨rfl, rfl⟩ (o := 0) rfl) (cs := (cGOptions p2))) (st0), ?_⟩
  refine tw [9, 14] rfl (wt_of rfl rfl trivial) rfl (by kernel_rfl) (by kernel_rfl) ⟨br [10, 11, 12, 13, 14, 16, 17, 18] [] rfl (by kernel_rfl) (by kernel_rfl) trivial (by kernel_rfl) (calS cf8 rfl (compile_Compile_sim (p0 := (u6 ++ ([64] : List UInt8)) ++ u7) (p1 := p2) (hS18.bun [0, 3, 2] [] rfl) (hG0.mono (iT im1 (iT im2 (iT im4 (iT im5 (iT im6 (iT im17 im18))))))) hx16) rfl fun v9 T9 w19 im19 rv9 => ?_), br [9, 10, 11, 12, 13, 16, 17, 18] [(8, .agg (cGOptions p2).toArray)] rfl (by kernel_rfl) (by kernel_rfl) trivial (by kernel_rfl) (alS (zs := [.slice none 0 0, .slice none 0 0, iv 0, iv 0]) zeroValue39 rfl hS18 fun w19 b6 im19 hS19 => ?_), trivial⟩
  · obtain ⟨a5, c5, a6, c6, rfl, hS19, h4, h5, _⟩ := rv9
    have hS19 := hS19.unb
    refine ⟨st0, ?_⟩
    refine t0 rfl trivial (fun _ => r_mv rfl) rfl (t0 rfl trivial (fun _ => r_ex (v := .agg #[sv a5 y9.1.Code c5, sv a6 y9.1.Data c6, iv y9.1.Limit, iv y9.1.Notes]) rfl rfl) rfl (t0 rfl trivial (fun _ => r_ex (v := .agg #[iv y9.2.1.Line, iv y9.2.1.Col]) rfl rfl) rfl (t0 rfl trivial (fun _ => r_ex (v := iv y9.2.2) rfl rfl) rfl (tw [14] rfl (wt_of rfl rfl trivial) rfl (by kernel_rfl) (by kernel_rfl) ⟨br [16, 17, 18] [] rfl (by kernel_rfl) (by kernel_rfl) trivial (by kernel_rfl) (alS (zs := [.slice none 0 0, .slice none 0 0, iv 0, iv 0]) zeroValue39 rfl hS19 fun w20 b6 im20 hS20 => ?_), trivial⟩))))
    refine ⟨st0, ?_⟩
    refine tw [16] rfl (wt_of rfl rfl trivial) rfl (by kernel_rfl) (by kernel_rfl) ⟨br [17, 18] [] rfl (by kernel_rfl) (by kernel_rfl) trivial (by kernel_rfl) (st0B (q := 0) hS20 ⟨rfl, rfl⟩ rfl rfl rfl sizeOf39 rfl rfl rfl fun w21 im21 hS21 => ?_), trivial⟩
    refine ⟨st0, ?_⟩
    refine tw [17] rfl (wt_of rfl rfl trivial) rfl (by kernel_rfl) (by kernel_rfl) ⟨br [18] [] rfl (by kernel_rfl) (by kernel_rfl) trivial (by kernel_rfl) (st0B (q := 1) hS21 ⟨rfl, rfl⟩ rfl rfl rfl sizeOf28 rfl rfl rfl fun w22 im22 hS22 => ?_), trivial⟩
    refine ⟨st0, ?_⟩
    refine t0 rfl trivial (fun _ => r_zi rfl) rfl (te (t_then ?_))
    refine sq2 ?_
    obtain ⟨y10, hx17, hm⟩ := bindS hm
    refine rg (wl rfl (calS cf5 rfl (law29_awake_sim  (hS22.bun [0, 2] [] rfl) (hG1.mono (iT im1 (iT im2 (iT im4 (iT im5 (iT im6 (iT im17 (iT im18 (iT im19 (iT im20 (iT im21 im22))))))))))) hx17) rfl fun v10 T10 w23 im23 rv10 => ?_))
    obtain ⟨rfl, hS23, _⟩ := rv10
    have hS23 := hS23.unb
    refine pv (r_mb rfl) (?_)
    rcases Bool.eq_false_or_eq_true y10 with hb12 | hb12
    · have hm := ctrue hb12 hm
      refine gT (d0 := 80) rfl rfl hb12 (pv (r_mi rfl) (gT (d0 := 80) rfl rfl hb12 (pv (r_ib rfl rfl rfl) (pv (r_pkt rfl hb12 rfl) (pv (r_mb rfl) (?_))))))
      rcases Bool.eq_false_or_eq_true (y9.2.2 != 0) with hb13 | hb13
      · have hm := ctrue hb13 hm
        refine gT (d0 := 84) rfl rfl hb13 (pv (r_fa rfl underlying39 rfl sizeOf36 rfl) (gT (d0 := 84) rfl rfl hb13 (pv (r_ld rfl isAgg36 (hS23.cell0 (i := 0) ⟨rfl, rfl⟩ (j := 0) rfl)) (gT (d0 := 84) rfl rfl hb13 (pv (r_ln rfl underlying36) (gT (d0 := 84) rfl rfl hb13 (pv (r_ib rfl rfl rfl) (pv (r_pkt rfl hb13 rfl) (pv (r_zb rfl) (nil (t_thenR [(6, .bool ((List.length y9.1.Code : Int) == 0))] ⟨rfl, trivial⟩ fun J => ?_)))))))))))
        have hm := oI hm; subst hm
        exact rtn (ret1 rfl rfl ⟨_, rfl, _, (iT im1 (iT im2 (iT im4 (iT im5 (iT im6 (iT im17 (iT im18 (iT im19 (iT im20 (iT im21 (iT im22 im23))))))))))), ⟨rfl, hS23.sel [1] rfl, trivial⟩⟩)
      have hm := cfalse hb13 hm
      refine gF (d0 := 84) rfl rfl (by rw [hb13]; rfl) (gF (d0 := 84) rfl rfl (by rw [hb13]; rfl) (gF (d0 := 84) rfl rfl (by rw [hb13]; rfl) (gF (d0 := 84) rfl rfl (by rw [hb13]; rfl) (pv (r_pkf rfl hb13 rfl) (pv (r_zb rfl) (nil (t_thenR [(6, .bool false)] ⟨rfl, trivial⟩ fun J => ?_)))))))
      have hm := oI hm; subst hm
      exact rtn (ret1 rfl rfl ⟨_, rfl, _, (iT im1 (iT im2 (iT im4 (iT im5 (iT im6 (iT im17 (iT im18 (iT im19 (iT im20 (iT im21 (iT im22 im23))))))))))), ⟨rfl, hS23.sel [1] rfl, trivial⟩⟩)
    have hm := cfalse hb12 hm
    refine gF (d0 := 80) rfl rfl (by rw [hb12]; rfl) (gF (d0 := 80) rfl rfl (by rw [hb12]; rfl) (pv (r_pkf rfl hb12 rfl) (pv (r_mb rfl) (gF (d0 := 84) rfl rfl rfl (gF (d0 := 84) rfl rfl rfl (gF (d0 := 84) rfl rfl rfl (gF (d0 := 84) rfl rfl rfl (pv (r_pkf rfl rfl rfl) (pv (r_zb rfl) (nil (t_thenR [(6, .bool false)] ⟨rfl, trivial⟩ fun J => ?_)))))))))))
    have hm := oI hm; subst hm
    exact rtn (ret1 rfl rfl ⟨_, rfl, _, (iT im1 (iT im2 (iT im4 (iT im5 (iT im6 (iT im17 (iT im18 (iT im19 (iT im20 (iT im21 (iT im22 im23))))))))))), ⟨rfl, hS23.sel [1] rfl, trivial⟩⟩)
  refine ⟨st1 rfl (r_ldS rfl isAgg23 sizeOf23 rfl (hS19.cells0 (i := 3) ⟨rfl, rfl⟩ (o := 0) rfl) (cs := (cGOptions p2))) (st0), ?_⟩
  refine tw [9] rfl (wt_of rfl rfl trivial) rfl (by kernel_rfl) (by kernel_rfl) ⟨br [10, 11, 12, 13, 16, 17, 18] [] rfl (by kernel_rfl) (by kernel_rfl) trivial (by kernel_rfl) (calS cf8 rfl (compile_Compile_sim (p0 := (u6 ++ ([64] : List UInt8)) ++ u7) (p1 := p2) (hS19.bun [0, 1, 4, 3] [] rfl) (hG0.mono (iT im1 (iT im2 (iT im4 (iT im5 (iT im6 (iT im17 (iT im18 im19)))))))) hx16) rfl fun v9 T9 w20 im20 rv9 => ?_), trivial⟩
  obtain ⟨a5, c5, a6, c6, rfl, hS20, h4, h5, _⟩ := rv9
  have hS20 := hS20.unb
  refine ⟨st0, ?_⟩
  refine t0 rfl trivial (fun _ => r_mv rfl) rfl (t0 rfl trivial (fun _ => r_ex (v := .agg #[sv a5 y9.1.Code c5, sv a6 y9.1.Data c6, iv y9.1.Limit, iv y9.1.Notes]) rfl rfl) rfl (t0 rfl trivial (fun _ => r_ex (v := .agg #[iv y9.2.1.Line, iv y9.2.1.Col]) rfl rfl) rfl (t0 rfl trivial (fun _ => r_ex (v := iv y9.2.2) rfl rfl) rfl (tw [16] rfl (wt_of rfl rfl trivial) rfl (by kernel_rfl) (by kernel_rfl) ⟨br [17, 18] [] rfl (by kernel_rfl) (by kernel_rfl) trivial (by kernel_rfl) (st0B (q := 0) hS20 ⟨rfl, rfl⟩ rfl rfl rfl sizeOf39 rfl rfl rfl fun w21 im21 hS21 => ?_), trivial⟩))))
  refine ⟨st0, ?_⟩
  refine tw [17] rfl (wt_of rfl rfl trivial) rfl (by kernel_rfl) (by kernel_rfl) ⟨br [18] [] rfl (by kernel_rfl) (by kernel_rfl) trivial (by kernel_rfl) (st0B (q := 1) hS21 ⟨rfl, rfl⟩ rfl rfl rfl sizeOf28 rfl rfl rfl fun w22 im22 hS22 => ?_), trivial⟩
  refine ⟨st0, ?_⟩
  refine t0 rfl trivial (fun _ => r_zi rfl) rfl (te (t_then ?_))
  refine sq2 ?_
  obtain ⟨y10, hx17, hm⟩ := bindS hm
  refine rg (wl rfl (calS cf5 rfl (law29_awake_sim  (hS22.bun [0, 2] [] rfl) (hG1.mono (iT im1 (iT im2 (iT im4 (iT im5 (iT im6 (iT im17 (iT im18 (iT im19 (iT im20 (iT im21 im22))))))))))) hx17) rfl fun v10 T10 w23 im23 rv10 => ?_))
  obtain ⟨rfl, hS23, _⟩ := rv10
  have hS23 := hS23.unb
  refine pv (r_mb rfl) (?_)
  rcases Bool.eq_false_or_eq_true y10 with hb12 | hb12
  · have hm := ctrue hb12 hm
    refine gT (d0 := 80) rfl rfl hb12 (pv (r_mi rfl) (gT (d0 := 80) rfl rfl hb12 (pv (r_ib rfl rfl rfl) (pv (r_pkt rfl hb12 rfl) (pv (r_mb rfl) (?_))))))
    rcases Bool.eq_false_or_eq_true (y9.2.2 != 0) with hb13 | hb13
    · have hm := ctrue hb13 hm
      refine gT (d0 := 84) rfl rfl hb13 (pv (r_fa rfl underlying39 rfl sizeOf36 rfl) (gT (d0 := 84) rfl rfl hb13 (pv (r_ld rfl isAgg36 (hS23.cell0 (i := 0) ⟨rfl, rfl⟩ (j := 0) rfl)) (gT (d0 := 84) rfl rfl hb13 (pv (r_ln rfl underlying36) (gT (d0 := 84) rfl rfl hb13 (pv (r_ib rfl rfl rfl) (pv (r_pkt rfl hb13 rfl) (pv (r_zb rfl) (nil (t_thenR [(6, .bool ((List.length y9.1.Code : Int) == 0))] ⟨rfl, trivial⟩ fun J => ?_)))))))))))
      have hm := oI hm; subst hm
      exact rtn (ret1 rfl rfl ⟨_, rfl, _, (iT im1 (iT im2 (iT im4 (iT im5 (iT im6 (iT im17 (iT im18 (iT im19 (iT im20 (iT im21 (iT im22 im23))))))))))), ⟨rfl, hS23.sel [1] rfl, trivial⟩⟩)
    have hm := cfalse hb13 hm
    refine gF (d0 := 84) rfl rfl (by rw [hb13]; rfl) (gF (d0 := 84) rfl rfl (by rw [hb13]; rfl) (gF (d0 := 84) rfl rfl (by rw [hb13]; rfl) (gF (d0 := 84) rfl rfl (by rw [hb13]; rfl) (pv (r_pkf rfl hb13 rfl) (pv (r_zb rfl) (nil (t_thenR [(6, .bool false)] ⟨rfl, trivial⟩ fun J => ?_)))))))
    have hm := oI hm; subst hm
    exact rtn (ret1 rfl rfl ⟨_, rfl, _, (iT im1 (iT im2 (iT im4 (iT im5 (iT im6 (iT im17 (iT im18 (iT im19 (iT im20 (iT im21 (iT im22 im23))))))))))), ⟨rfl, hS23.sel [1] rfl, trivial⟩⟩)
  have hm := cfalse hb12 hm
  refine gF (d0 := 80) rfl rfl (by rw [hb12]; rfl) (gF (d0 := 80) rfl rfl (by rw [hb12]; rfl) (pv (r_pkf rfl hb12 rfl) (pv (r_mb rfl) (gF (d0 := 84) rfl rfl rfl (gF (d0 := 84) rfl rfl rfl (gF (d0 := 84) rfl rfl rfl (gF (d0 := 84) rfl rfl rfl (pv (r_pkf rfl rfl rfl) (pv (r_zb rfl) (nil (t_thenR [(6, .bool false)] ⟨rfl, trivial⟩ fun J => ?_)))))))))))
  have hm := oI hm; subst hm
  exact rtn (ret1 rfl rfl ⟨_, rfl, _, (iT im1 (iT im2 (iT im4 (iT im5 (iT im6 (iT im17 (iT im18 (iT im19 (iT im20 (iT im21 (iT im22 im23))))))))))), ⟨rfl, hS23.sel [1] rfl, trivial⟩⟩)
end Go.Proofs.YtokpeeflnijogaaGreatDoor
