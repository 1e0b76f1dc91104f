/- That Go functions compute their models. Printed by gen2.py. -/
import Derived.Test.YtncfbaodlbgabaaWa
set_option linter.unusedVariables false
namespace Go.Proofs.Ytncfbaodlbgabaa
attribute [local irreducible] wpList wpQuiet Code.wp

set_option maxRecDepth 100000 in
set_option maxHeartbeats 1000000 in
theorem law11_StoreBack_sim {g : World} {T0 : Nat → Prop} {w0 : World} {R : Assn} {p0 : law11Put} {r : Bool} (hS : Sep g T0 w0 [R])  (hm : law11_StoreBack p0 = some r) :
    Calls Try.prog 3 #[.agg #[.int .i64 p0.Size, .int .i64 p0.At, .int .u32 p0.V.Num, .int .i64 p0.V.Ptr.Obj, .int .i64 p0.V.Ptr.Lo, .int .i64 p0.V.Ptr.Hi, .int .i64 p0.V.Ptr.Off, .bool p0.V.Is, .int .u32 p0.W.Num, .int .i64 p0.W.Ptr.Obj, .int .i64 p0.W.Ptr.Lo, .int .i64 p0.W.Ptr.Hi, .int .i64 p0.W.Ptr.Off, .bool p0.W.Is]] w0 (RetS T0 w0 fun T w v => v = .bool r ∧ Sep g T w [R] ∧ True) := by
  refine enter (args := [.agg #[.int .i64 p0.Size, .int .i64 p0.At, .int .u32 p0.V.Num, .int .i64 p0.V.Ptr.Obj, .int .i64 p0.V.Ptr.Lo, .int .i64 p0.V.Ptr.Hi, .int .i64 p0.V.Ptr.Off, .bool p0.V.Is, .int .u32 p0.W.Num, .int .i64 p0.W.Ptr.Obj, .int .i64 p0.W.Ptr.Lo, .int .i64 p0.W.Ptr.Hi, .int .i64 p0.W.Ptr.Off, .bool p0.W.Is]]) Try.func3 rfl Try.ntmps3 rfl fun J => ?_
  unfold law11_StoreBack at hm
  refine sq2 ?_
  refine rg (wl rfl (bxS (cs := [.int .i64 p0.Size, .int .i64 p0.At, .int .u32 p0.V.Num, .int .i64 p0.V.Ptr.Obj, .int .i64 p0.V.Ptr.Lo, .int .i64 p0.V.Ptr.Hi, .int .i64 p0.V.Ptr.Off, .bool p0.V.Is, .int .u32 p0.W.Num, .int .i64 p0.W.Ptr.Obj, .int .i64 p0.W.Ptr.Lo, .int .i64 p0.W.Ptr.Hi, .int .i64 p0.W.Ptr.Off, .bool p0.W.Is]) rfl rfl hS fun w1 b1 im1 hS1 => ?_))
  refine pv (r_zb rfl) (nil (t_then ?_))
  refine sq2 ?_
  refine rt [0, 1, 0, 1, 0, 1, 0, 1, 2, 2, 0, 0, 2, 2] [0, 1, 2, 3, 4, 5, 6, 7, 8, 9, 10, 11, 12, 13] mix (by kernel_rfl) hS1.lt fun w2 i1 => ?_
  have im2 := i1.imm
  have hS2 := hS1.keep i1 (fun _ h => h)
  refine t0 rfl trivial (fun _ => r_fa rfl Try.underlying28 rfl Try.sizeOf3 rfl) rfl (t1 rfl trivial (r_ld rfl Try.isAgg3 (hS2.cell0 (i := 0) ⟨rfl, rfl⟩ (j := 0) rfl)) rfl (t0 rfl trivial (fun _ => r_fa rfl Try.underlying28 rfl Try.sizeOf3 rfl) rfl (t1 rfl trivial (r_ld rfl Try.isAgg3 (hS2.cell0 (i := 0) ⟨rfl, rfl⟩ (j := 1) rfl)) rfl (t0 rfl trivial (fun _ => r_fa rfl Try.underlying28 rfl Try.sizeOf26 rfl) rfl (t1 rfl trivial (r_ldS rfl Try.isAgg26 Try.sizeOf26 rfl (hS2.cells0 (i := 0) ⟨rfl, rfl⟩ (o := 2) rfl) (cs := [.int .u32 p0.V.Num, .int .i64 p0.V.Ptr.Obj, .int .i64 p0.V.Ptr.Lo, .int .i64 p0.V.Ptr.Hi, .int .i64 p0.V.Ptr.Off, .bool p0.V.Is])) rfl (t0 rfl trivial (fun _ => r_fa rfl Try.underlying28 rfl Try.sizeOf26 rfl) rfl (t1 rfl trivial (r_ldS rfl Try.isAgg26 Try.sizeOf26 rfl (hS2.cells0 (i := 0) ⟨rfl, rfl⟩ (o := 8) rfl) (cs := [.int .u32 p0.W.Num, .int .i64 p0.W.Ptr.Obj, .int .i64 p0.W.Ptr.Lo, .int .i64 p0.W.Ptr.Hi, .int .i64 p0.W.Ptr.Off, .bool p0.W.Is])) rfl (tw [8, 9] rfl (wt_of rfl rfl trivial) rfl (by kernel_rfl) (by kernel_rfl) ⟨br [9, 10, 11, 12, 13] [(7, .agg #[.int .u32 p0.W.Num, .int .i64 p0.W.Ptr.Obj, .int .i64 p0.W.Ptr.Lo, .int .i64 p0.W.Ptr.Hi, .int .i64 p0.W.Ptr.Off, .bool p0.W.Is]), (5, .agg #[.int .u32 p0.V.Num, .int .i64 p0.V.Ptr.Obj, .int .i64 p0.V.Ptr.Lo, .int .i64 p0.V.Ptr.Hi, .int .i64 p0.V.Ptr.Off, .bool p0.V.Is]), (3, .int .i64 p0.At), (1, .int .i64 p0.Size)] rfl (by kernel_rfl) (by kernel_rfl) trivial (by kernel_rfl) (alS (zs := [.int .u32 0, .int .i64 0, .int .i64 0, .int .i64 0, .int .i64 0, .bool false]) Try.zeroValue26 rfl hS2 fun w3 b2 im3 hS3 => ?_), br [8, 10, 11, 12, 13] [(7, .agg #[.int .u32 p0.W.Num, .int .i64 p0.W.Ptr.Obj, .int .i64 p0.W.Ptr.Lo, .int .i64 p0.W.Ptr.Hi, .int .i64 p0.W.Ptr.Off, .bool p0.W.Is]), (5, .agg #[.int .u32 p0.V.Num, .int .i64 p0.V.Ptr.Obj, .int .i64 p0.V.Ptr.Lo, .int .i64 p0.V.Ptr.Hi, .int .i64 p0.V.Ptr.Off, .bool p0.V.Is]), (3, .int .i64 p0.At), (1, .int .i64 p0.Size)] rfl (by kernel_rfl) (by kernel_rfl) trivial (by kernel_rfl) (alS (zs := [.int .u32 0, .int .i64 0, .int .i64 0, .int .i64 0, .int .i64 0, .bool false]) Try.zeroValue26 rfl hS2 fun w3 b2 im3 hS3 => ?_), trivial⟩))))))))
  · refine ⟨st1 rfl (r_ldS rfl Try.isAgg26 Try.sizeOf26 rfl (hS3.cells0 (i := 1) ⟨rfl, rfl⟩ (o := 8) rfl) (cs := [.int .u32 p0.W.Num, .int .i64 p0.W.Ptr.Obj, .int .i64 p0.W.Ptr.Lo, .int .i64 p0.W.Ptr.Hi, .int .i64 p0.W.Ptr.Off, .bool p0.W.Is])) (st1 rfl (r_ldS rfl Try.isAgg26 Try.sizeOf26 rfl (hS3.cells0 (i := 1) ⟨rfl, rfl⟩ (o := 2) rfl) (cs := [.int .u32 p0.V.Num, .int .i64 p0.V.Ptr.Obj, .int .i64 p0.V.Ptr.Lo, .int .i64 p0.V.Ptr.Hi, .int .i64 p0.V.Ptr.Off, .bool p0.V.Is])) (st1 rfl (r_ld rfl Try.isAgg3 (hS3.cell0 (i := 1) ⟨rfl, rfl⟩ (j := 1) rfl)) (st1 rfl (r_ld rfl Try.isAgg3 (hS3.cell0 (i := 1) ⟨rfl, rfl⟩ (j := 0) rfl)) (st0)))), ?_⟩
    refine tw [9] rfl (wt_of rfl rfl trivial) rfl (by kernel_rfl) (by kernel_rfl) ⟨br [10, 11, 12, 13] [(7, .agg #[.int .u32 p0.W.Num, .int .i64 p0.W.Ptr.Obj, .int .i64 p0.W.Ptr.Lo, .int .i64 p0.W.Ptr.Hi, .int .i64 p0.W.Ptr.Off, .bool p0.W.Is]), (5, .agg #[.int .u32 p0.V.Num, .int .i64 p0.V.Ptr.Obj, .int .i64 p0.V.Ptr.Lo, .int .i64 p0.V.Ptr.Hi, .int .i64 p0.V.Ptr.Off, .bool p0.V.Is]), (3, .int .i64 p0.At), (1, .int .i64 p0.Size)] rfl (by kernel_rfl) (by kernel_rfl) trivial (by kernel_rfl) (alS (zs := [.int .u32 0, .int .i64 0, .int .i64 0, .int .i64 0, .int .i64 0, .bool false]) Try.zeroValue26 rfl hS3 fun w4 b3 im4 hS4 => ?_), trivial⟩
    refine ⟨st1 rfl (r_ldS rfl Try.isAgg26 Try.sizeOf26 rfl (hS4.cells0 (i := 2) ⟨rfl, rfl⟩ (o := 8) rfl) (cs := [.int .u32 p0.W.Num, .int .i64 p0.W.Ptr.Obj, .int .i64 p0.W.Ptr.Lo, .int .i64 p0.W.Ptr.Hi, .int .i64 p0.W.Ptr.Off, .bool p0.W.Is])) (st1 rfl (r_ldS rfl Try.isAgg26 Try.sizeOf26 rfl (hS4.cells0 (i := 2) ⟨rfl, rfl⟩ (o := 2) rfl) (cs := [.int .u32 p0.V.Num, .int .i64 p0.V.Ptr.Obj, .int .i64 p0.V.Ptr.Lo, .int .i64 p0.V.Ptr.Hi, .int .i64 p0.V.Ptr.Off, .bool p0.V.Is])) (st1 rfl (r_ld rfl Try.isAgg3 (hS4.cell0 (i := 2) ⟨rfl, rfl⟩ (j := 1) rfl)) (st1 rfl (r_ld rfl Try.isAgg3 (hS4.cell0 (i := 2) ⟨rfl, rfl⟩ (j := 0) rfl)) (st0)))), ?_⟩
    refine t0 rfl trivial (fun _ => r_zi rfl) rfl (t0 rfl trivial (fun _ => r_zi rfl) rfl (tw [12] rfl (wt_of rfl rfl trivial) rfl (by kernel_rfl) (by kernel_rfl) ⟨br [13] [(7, .agg #[.int .u32 p0.W.Num, .int .i64 p0.W.Ptr.Obj, .int .i64 p0.W.Ptr.Lo, .int .i64 p0.W.Ptr.Hi, .int .i64 p0.W.Ptr.Off, .bool p0.W.Is])] rfl (by kernel_rfl) (by kernel_rfl) trivial (by kernel_rfl) (st0B (q := 1) hS4 ⟨rfl, rfl⟩ rfl rfl rfl Try.sizeOf26 rfl rfl rfl fun w5 im5 hS5 => ?_), trivial⟩))
    have hS5 : Sep g T0 w5 [boxA b3 [.int .u32 0, .int .i64 0, .int .i64 0, .int .i64 0, .int .i64 0, .bool false], boxA b2 [.int .u32 p0.V.Num, .int .i64 p0.V.Ptr.Obj, .int .i64 p0.V.Ptr.Lo, .int .i64 p0.V.Ptr.Hi, .int .i64 p0.V.Ptr.Off, .bool p0.V.Is], boxA b1 [.int .i64 p0.Size, .int .i64 p0.At, .int .u32 p0.V.Num, .int .i64 p0.V.Ptr.Obj, .int .i64 p0.V.Ptr.Lo, .int .i64 p0.V.Ptr.Hi, .int .i64 p0.V.Ptr.Off, .bool p0.V.Is, .int .u32 p0.W.Num, .int .i64 p0.W.Ptr.Obj, .int .i64 p0.W.Ptr.Lo, .int .i64 p0.W.Ptr.Hi, .int .i64 p0.W.Ptr.Off, .bool p0.W.Is], R] := hS5
    refine ⟨st1 rfl (r_ldS rfl Try.isAgg26 Try.sizeOf26 rfl (hS5.cells0 (i := 2) ⟨rfl, rfl⟩ (o := 8) rfl) (cs := [.int .u32 p0.W.Num, .int .i64 p0.W.Ptr.Obj, .int .i64 p0.W.Ptr.Lo, .int .i64 p0.W.Ptr.Hi, .int .i64 p0.W.Ptr.Off, .bool p0.W.Is])) (st0), ?_⟩
    refine tw [13] rfl (wt_of rfl rfl trivial) rfl (by kernel_rfl) (by kernel_rfl) ⟨br [] [] rfl (by kernel_rfl) (by kernel_rfl) trivial (by kernel_rfl) (st0B (q := 0) hS5 ⟨rfl, rfl⟩ rfl rfl rfl Try.sizeOf26 rfl rfl rfl fun w6 im6 hS6 => ?_), trivial⟩
    have hS6 : Sep g T0 w6 [boxA b3 [.int .u32 p0.W.Num, .int .i64 p0.W.Ptr.Obj, .int .i64 p0.W.Ptr.Lo, .int .i64 p0.W.Ptr.Hi, .int .i64 p0.W.Ptr.Off, .bool p0.W.Is], boxA b2 [.int .u32 p0.V.Num, .int .i64 p0.V.Ptr.Obj, .int .i64 p0.V.Ptr.Lo, .int .i64 p0.V.Ptr.Hi, .int .i64 p0.V.Ptr.Off, .bool p0.V.Is], boxA b1 [.int .i64 p0.Size, .int .i64 p0.At, .int .u32 p0.V.Num, .int .i64 p0.V.Ptr.Obj, .int .i64 p0.V.Ptr.Lo, .int .i64 p0.V.Ptr.Hi, .int .i64 p0.V.Ptr.Off, .bool p0.V.Is, .int .u32 p0.W.Num, .int .i64 p0.W.Ptr.Obj, .int .i64 p0.W.Ptr.Lo, .int .i64 p0.W.Ptr.Hi, .int .i64 p0.W.Ptr.Off, .bool p0.W.Is], R] := hS6
    refine ⟨st0, ?_⟩
    refine te (t_thenR [(3, .int .i64 p0.Size), (4, .int .i64 p0.At), (5, .pointer (some ⟨b2, 0, none⟩)), (6, .pointer (some ⟨b3, 0, none⟩))] ⟨rfl, rfl, rfl, rfl, trivial⟩ fun J => ?_)
    refine sq2 ?_
    refine sq2 ?_
    refine rg (pv (r_mi rfl) (pv (r_ib rfl rfl rfl) (pv (r_mb rfl) (?_))))
    rcases Bool.eq_false_or_eq_true (decide (p0.Size < 8)) with hb1 | hb1
    · have hm := ctrue hb1 hm
      refine gF (d0 := 30) rfl rfl (by rw [hb1]; rfl) (gF (d0 := 30) rfl rfl (by rw [hb1]; rfl) (pv (r_pkt rfl hb1 rfl) (pv (r_mb rfl) (gF (d0 := 34) rfl rfl rfl (gF (d0 := 34) rfl rfl rfl (pv (r_pkt rfl rfl rfl) (pv (r_mb rfl) (gF (d0 := 38) rfl rfl rfl (gF (d0 := 38) rfl rfl rfl (gF (d0 := 38) rfl rfl rfl (gF (d0 := 38) rfl rfl rfl (pv (r_pkt rfl rfl rfl) (nil (t_thenR [(3, .int .i64 p0.Size), (4, .int .i64 p0.At), (5, .pointer (some ⟨b2, 0, none⟩)), (6, .pointer (some ⟨b3, 0, none⟩)), (43, .bool true)] ⟨rfl, rfl, rfl, rfl, rfl, trivial⟩ fun J => ?_))))))))))))))
      refine cnd (b := true) rfl (fun _ => ?_) (fun h => nomatch h)
      refine sq2 ?_
      obtain ⟨y13, hx13, hm⟩ := bindS hm
      refine rg (wl rfl (calS cf6 rfl (law11_awake_sim  (hS6.bun [3] [] rfl)  hx13) rfl fun v13 T15 w35 im35 rv13 => ?_))
      obtain ⟨rfl, hS35, _⟩ := rv13
      have hS35 : Sep g T15 w35 [R] := hS35.unb
      refine pv (r_zb rfl) (nil (t_thenR [(2, .bool y13)] ⟨rfl, trivial⟩ fun J => ?_))
      have hm := Option.some.inj hm
      subst hm
      exact rtn (r_then (ret1 rfl rfl ⟨_, rfl, _, (Im.trans im1 (Im.trans im2 (Im.trans im3 (Im.trans im4 (Im.trans im5 (Im.trans im6 im35)))))), ⟨rfl, hS35.sel [0] rfl, trivial⟩⟩))
    · have hm := cfalse hb1 hm
      refine gT (d0 := 30) rfl rfl hb1 (pv (r_mi rfl) (gT (d0 := 30) rfl rfl hb1 (pv (r_ib rfl rfl rfl) (pv (r_pkf rfl hb1 rfl) (pv (r_mb rfl) (?_))))))
      rcases Bool.eq_false_or_eq_true (decide (300 < p0.Size)) with hb2 | hb2
      · have hm := ctrue hb2 hm
        refine gF (d0 := 34) rfl rfl (by rw [hb2]; rfl) (gF (d0 := 34) rfl rfl (by rw [hb2]; rfl) (pv (r_pkt rfl hb2 rfl) (pv (r_mb rfl) (gF (d0 := 38) rfl rfl rfl (gF (d0 := 38) rfl rfl rfl (gF (d0 := 38) rfl rfl rfl (gF (d0 := 38) rfl rfl rfl (pv (r_pkt rfl rfl rfl) (nil (t_thenR [(3, .int .i64 p0.Size), (4, .int .i64 p0.At), (5, .pointer (some ⟨b2, 0, none⟩)), (6, .pointer (some ⟨b3, 0, none⟩)), (43, .bool true)] ⟨rfl, rfl, rfl, rfl, rfl, trivial⟩ fun J => ?_))))))))))
        refine cnd (b := true) rfl (fun _ => ?_) (fun h => nomatch h)
        refine sq2 ?_
        obtain ⟨y12, hx12, hm⟩ := bindS hm
        refine rg (wl rfl (calS cf6 rfl (law11_awake_sim  (hS6.bun [3] [] rfl)  hx12) rfl fun v12 T14 w34 im34 rv12 => ?_))
        obtain ⟨rfl, hS34, _⟩ := rv12
        have hS34 : Sep g T14 w34 [R] := hS34.unb
        refine pv (r_zb rfl) (nil (t_thenR [(2, .bool y12)] ⟨rfl, trivial⟩ fun J => ?_))
        have hm := Option.some.inj hm
        subst hm
        exact rtn (r_then (ret1 rfl rfl ⟨_, rfl, _, (Im.trans im1 (Im.trans im2 (Im.trans im3 (Im.trans im4 (Im.trans im5 (Im.trans im6 im34)))))), ⟨rfl, hS34.sel [0] rfl, trivial⟩⟩))
      · have hm := cfalse hb2 hm
        refine gT (d0 := 34) rfl rfl hb2 (pv (r_mi rfl) (gT (d0 := 34) rfl rfl hb2 (pv (r_ib rfl rfl rfl) (pv (r_pkf rfl hb2 rfl) (pv (r_mb rfl) (?_))))))
        rcases Bool.eq_false_or_eq_true (decide (p0.At < 0)) with hb3 | hb3
        · have hm := ctrue hb3 hm
          refine gF (d0 := 38) rfl rfl (by rw [hb3]; rfl) (gF (d0 := 38) rfl rfl (by rw [hb3]; rfl) (gF (d0 := 38) rfl rfl (by rw [hb3]; rfl) (gF (d0 := 38) rfl rfl (by rw [hb3]; rfl) (pv (r_pkt rfl hb3 rfl) (nil (t_thenR [(3, .int .i64 p0.Size), (4, .int .i64 p0.At), (5, .pointer (some ⟨b2, 0, none⟩)), (6, .pointer (some ⟨b3, 0, none⟩)), (43, .bool true)] ⟨rfl, rfl, rfl, rfl, rfl, trivial⟩ fun J => ?_))))))
          refine cnd (b := true) rfl (fun _ => ?_) (fun h => nomatch h)
          refine sq2 ?_
          obtain ⟨y11, hx11, hm⟩ := bindS hm
          refine rg (wl rfl (calS cf6 rfl (law11_awake_sim  (hS6.bun [3] [] rfl)  hx11) rfl fun v11 T13 w33 im33 rv11 => ?_))
          obtain ⟨rfl, hS33, _⟩ := rv11
          have hS33 : Sep g T13 w33 [R] := hS33.unb
          refine pv (r_zb rfl) (nil (t_thenR [(2, .bool y11)] ⟨rfl, trivial⟩ fun J => ?_))
          have hm := Option.some.inj hm
          subst hm
          exact rtn (r_then (ret1 rfl rfl ⟨_, rfl, _, (Im.trans im1 (Im.trans im2 (Im.trans im3 (Im.trans im4 (Im.trans im5 (Im.trans im6 im33)))))), ⟨rfl, hS33.sel [0] rfl, trivial⟩⟩))
        · have hm := cfalse hb3 hm
          refine gT (d0 := 38) rfl rfl hb3 (pv (r_mi rfl) (gT (d0 := 38) rfl rfl hb3 (pv (r_mi rfl) (gT (d0 := 38) rfl rfl hb3 (pv (r_ib rfl rfl rfl) (gT (d0 := 38) rfl rfl hb3 (pv (r_ib rfl rfl rfl) (pv (r_pkf rfl hb3 rfl) (nil (t_thenR [(3, .int .i64 p0.Size), (4, .int .i64 p0.At), (5, .pointer (some ⟨b2, 0, none⟩)), (6, .pointer (some ⟨b3, 0, none⟩)), (43, .bool (decide ((IntKind.wrap .i64 (p0.Size - 8)) < p0.At)))] ⟨rfl, rfl, rfl, rfl, rfl, trivial⟩ fun J => ?_))))))))))
          refine cnd rfl (fun hb4 => ?_) (fun hb4 => ?_)
          · have hm := ctrue hb4 hm
            refine sq2 ?_
            obtain ⟨y1, hx1, hm⟩ := bindS hm
            refine rg (wl rfl (calS cf6 rfl (law11_awake_sim  (hS6.bun [3] [] rfl)  hx1) rfl fun v1 T1 w7 im7 rv1 => ?_))
            obtain ⟨rfl, hS7, _⟩ := rv1
            have hS7 : Sep g T1 w7 [R] := hS7.unb
            refine pv (r_zb rfl) (nil (t_thenR [(2, .bool y1)] ⟨rfl, trivial⟩ fun J => ?_))
            have hm := Option.some.inj hm
            subst hm
            exact rtn (r_then (ret1 rfl rfl ⟨_, rfl, _, (Im.trans im1 (Im.trans im2 (Im.trans im3 (Im.trans im4 (Im.trans im5 (Im.trans im6 im7)))))), ⟨rfl, hS7.sel [0] rfl, trivial⟩⟩))
          · have hm := cfalse hb4 hm
            refine skp (t_then ?_)
            refine sq2 ?_
            obtain ⟨y2, hx2, hm⟩ := bindS hm
            refine rg (wl rfl (calS cf7 rfl (store_New_sim  (hS6.bun [0, 1, 3] [] rfl)  hx2) rfl fun v2 T2 w8 im8 rv2 => ?_))
            obtain ⟨b4, a1, n1, c1, rfl, hS8, _⟩ := rv2
            have hS8 : Sep g T2 w8 [boxA b3 [.int .u32 p0.W.Num, .int .i64 p0.W.Ptr.Obj, .int .i64 p0.W.Ptr.Lo, .int .i64 p0.W.Ptr.Hi, .int .i64 p0.W.Ptr.Off, .bool p0.W.Is], boxA b2 [.int .u32 p0.V.Num, .int .i64 p0.V.Ptr.Obj, .int .i64 p0.V.Ptr.Lo, .int .i64 p0.V.Ptr.Hi, .int .i64 p0.V.Ptr.Off, .bool p0.V.Is], R, boxA b4 [.slice a1 n1 c1], nestA nEStoreObject 59 (.slice a1 n1 c1) y2.list] := hS8.unb
            refine pv (r_zp rfl) (nil (t_then ?_))
            refine sq2 ?_
            obtain ⟨y3, hx3, hm⟩ := bindS hm
            refine rg (pv (r_mp rfl) (pv (r_mi rfl) (wl rfl (calS cf8 rfl (store_Store_Make_sim (p0 := y2) (H_p0 := boxA b4) (p1 := p0.Size) (hS8.bun [0, 1, 2] [3, 4] rfl) (lnBox b4) hx3) rfl fun v3 T3 w9 im9 rv3 => ?_))))
            obtain ⟨a2, n2, c2, rfl, hS9, _⟩ := rv3
            have hS9 : Sep g T3 w9 [boxA b3 [.int .u32 p0.W.Num, .int .i64 p0.W.Ptr.Obj, .int .i64 p0.W.Ptr.Lo, .int .i64 p0.W.Ptr.Hi, .int .i64 p0.W.Ptr.Off, .bool p0.W.Is], boxA b2 [.int .u32 p0.V.Num, .int .i64 p0.V.Ptr.Obj, .int .i64 p0.V.Ptr.Lo, .int .i64 p0.V.Ptr.Hi, .int .i64 p0.V.Ptr.Off, .bool p0.V.Is], R, boxA b4 [.slice a2 n2 c2], nestA nEStoreObject 59 (.slice a2 n2 c2) y3.2.2.list] := hS9.unb
            refine pv (r_mv rfl) (pv (r_ex (v := .agg #[.int .i64 y3.1.Obj, .int .i64 y3.1.Lo, .int .i64 y3.1.Hi, .int .i64 y3.1.Off]) rfl rfl) (pv (r_ex (v := .int .i64 y3.2.1) rfl rfl) (wl rfl (alS (zs := [.int .i64 0, .int .i64 0, .int .i64 0, .int .i64 0]) Try.zeroValue24 rfl hS9 fun w10 b5 im10 hS10 => ?_))))
            refine wl rfl (st0B (q := 0) hS10 ⟨rfl, rfl⟩ rfl rfl rfl Try.sizeOf24 rfl rfl rfl fun w11 im11 hS11 => ?_)
            have hS11 : Sep g T3 w11 [boxA b5 [.int .i64 y3.1.Obj, .int .i64 y3.1.Lo, .int .i64 y3.1.Hi, .int .i64 y3.1.Off], boxA b3 [.int .u32 p0.W.Num, .int .i64 p0.W.Ptr.Obj, .int .i64 p0.W.Ptr.Lo, .int .i64 p0.W.Ptr.Hi, .int .i64 p0.W.Ptr.Off, .bool p0.W.Is], boxA b2 [.int .u32 p0.V.Num, .int .i64 p0.V.Ptr.Obj, .int .i64 p0.V.Ptr.Lo, .int .i64 p0.V.Ptr.Hi, .int .i64 p0.V.Ptr.Off, .bool p0.V.Is], R, boxA b4 [.slice a2 n2 c2], nestA nEStoreObject 59 (.slice a2 n2 c2) y3.2.2.list] := hS11
            refine pv (r_zi rfl) (nil (t_thenR [(4, .int .i64 p0.At), (5, .pointer (some ⟨b2, 0, none⟩)), (6, .pointer (some ⟨b3, 0, none⟩)), (7, .pointer (some ⟨b4, 0, none⟩)), (8, .pointer (some ⟨b5, 0, none⟩)), (9, .int .i64 y3.2.1)] ⟨rfl, rfl, rfl, rfl, rfl, rfl, trivial⟩ fun J => ?_))
            refine sq2 ?_
            obtain ⟨y4, hx4, hm⟩ := bindS hm
            refine rg (pv (r_mp rfl) (pv (r_ldS rfl Try.isAgg24 Try.sizeOf24 rfl (hS11.cells0 (i := 0) ⟨rfl, rfl⟩ (o := 0) rfl) (cs := [.int .i64 y3.1.Obj, .int .i64 y3.1.Lo, .int .i64 y3.1.Hi, .int .i64 y3.1.Off])) (pv (r_mi rfl) (wl rfl (calS cf9 rfl (store_Store_Move_sim (p0 := y3.2.2) (H_p0 := boxA b4) (p1 := y3.1) (p2 := p0.At) (hS11.bun [0, 1, 2, 3] [4, 5] rfl) (lnBox b4) hx4) rfl fun v4 T4 w12 im12 rv4 => ?_)))))
            obtain ⟨rfl, hS12, _⟩ := rv4
            have hS12 : Sep g T4 w12 [boxA b5 [.int .i64 y3.1.Obj, .int .i64 y3.1.Lo, .int .i64 y3.1.Hi, .int .i64 y3.1.Off], boxA b3 [.int .u32 p0.W.Num, .int .i64 p0.W.Ptr.Obj, .int .i64 p0.W.Ptr.Lo, .int .i64 p0.W.Ptr.Hi, .int .i64 p0.W.Ptr.Off, .bool p0.W.Is], boxA b2 [.int .u32 p0.V.Num, .int .i64 p0.V.Ptr.Obj, .int .i64 p0.V.Ptr.Lo, .int .i64 p0.V.Ptr.Hi, .int .i64 p0.V.Ptr.Off, .bool p0.V.Is], R, boxA b4 [.slice a2 n2 c2], nestA nEStoreObject 59 (.slice a2 n2 c2) y3.2.2.list] := hS12.unb
            refine pv (r_mv rfl) (pv (r_ex (v := .agg #[.int .i64 y4.1.Obj, .int .i64 y4.1.Lo, .int .i64 y4.1.Hi, .int .i64 y4.1.Off]) rfl rfl) (pv (r_ex (v := .int .i64 y4.2) rfl rfl) (wl rfl (alS (zs := [.int .i64 0, .int .i64 0, .int .i64 0, .int .i64 0]) Try.zeroValue24 rfl hS12 fun w13 b6 im13 hS13 => ?_))))
            refine wl rfl (st0B (q := 0) hS13 ⟨rfl, rfl⟩ rfl rfl rfl Try.sizeOf24 rfl rfl rfl fun w14 im14 hS14 => ?_)
            have hS14 : Sep g T4 w14 [boxA b6 [.int .i64 y4.1.Obj, .int .i64 y4.1.Lo, .int .i64 y4.1.Hi, .int .i64 y4.1.Off], boxA b5 [.int .i64 y3.1.Obj, .int .i64 y3.1.Lo, .int .i64 y3.1.Hi, .int .i64 y3.1.Off], boxA b3 [.int .u32 p0.W.Num, .int .i64 p0.W.Ptr.Obj, .int .i64 p0.W.Ptr.Lo, .int .i64 p0.W.Ptr.Hi, .int .i64 p0.W.Ptr.Off, .bool p0.W.Is], boxA b2 [.int .u32 p0.V.Num, .int .i64 p0.V.Ptr.Obj, .int .i64 p0.V.Ptr.Lo, .int .i64 p0.V.Ptr.Hi, .int .i64 p0.V.Ptr.Off, .bool p0.V.Is], R, boxA b4 [.slice a2 n2 c2], nestA nEStoreObject 59 (.slice a2 n2 c2) y3.2.2.list] := hS14
            refine pv (r_zi rfl) (nil (t_thenR [(4, .int .i64 p0.At), (5, .pointer (some ⟨b2, 0, none⟩)), (6, .pointer (some ⟨b3, 0, none⟩)), (7, .pointer (some ⟨b4, 0, none⟩)), (8, .pointer (some ⟨b5, 0, none⟩)), (9, .int .i64 y3.2.1), (10, .pointer (some ⟨b6, 0, none⟩)), (11, .int .i64 y4.2)] ⟨rfl, rfl, rfl, rfl, rfl, rfl, rfl, rfl, trivial⟩ fun J => ?_))
            refine sq2 ?_
            obtain ⟨y5, hx5, hm⟩ := bindS hm
            refine rg (pv (r_mp rfl) (pv (r_ldS rfl Try.isAgg24 Try.sizeOf24 rfl (hS14.cells0 (i := 1) ⟨rfl, rfl⟩ (o := 0) rfl) (cs := [.int .i64 y3.1.Obj, .int .i64 y3.1.Lo, .int .i64 y3.1.Hi, .int .i64 y3.1.Off])) (pv (r_mi rfl) (pv (r_ib rfl rfl rfl) (wl rfl (calS cf9 rfl (store_Store_Move_sim (p0 := y3.2.2) (H_p0 := boxA b4) (p1 := y3.1) (p2 := IntKind.wrap .i64 (p0.At + 4)) (hS14.bun [0, 2, 3, 4] [5, 6] rfl) (lnBox b4) hx5) rfl fun v5 T5 w15 im15 rv5 => ?_))))))
            obtain ⟨rfl, hS15, _⟩ := rv5
            have hS15 : Sep g T5 w15 [boxA b6 [.int .i64 y4.1.Obj, .int .i64 y4.1.Lo, .int .i64 y4.1.Hi, .int .i64 y4.1.Off], boxA b3 [.int .u32 p0.W.Num, .int .i64 p0.W.Ptr.Obj, .int .i64 p0.W.Ptr.Lo, .int .i64 p0.W.Ptr.Hi, .int .i64 p0.W.Ptr.Off, .bool p0.W.Is], boxA b2 [.int .u32 p0.V.Num, .int .i64 p0.V.Ptr.Obj, .int .i64 p0.V.Ptr.Lo, .int .i64 p0.V.Ptr.Hi, .int .i64 p0.V.Ptr.Off, .bool p0.V.Is], R, boxA b4 [.slice a2 n2 c2], nestA nEStoreObject 59 (.slice a2 n2 c2) y3.2.2.list] := hS15.unb
            refine pv (r_mv rfl) (pv (r_ex (v := .agg #[.int .i64 y5.1.Obj, .int .i64 y5.1.Lo, .int .i64 y5.1.Hi, .int .i64 y5.1.Off]) rfl rfl) (pv (r_ex (v := .int .i64 y5.2) rfl rfl) (wl rfl (alS (zs := [.int .i64 0, .int .i64 0, .int .i64 0, .int .i64 0]) Try.zeroValue24 rfl hS15 fun w16 b7 im16 hS16 => ?_))))
            refine wl rfl (st0B (q := 0) hS16 ⟨rfl, rfl⟩ rfl rfl rfl Try.sizeOf24 rfl rfl rfl fun w17 im17 hS17 => ?_)
            have hS17 : Sep g T5 w17 [boxA b7 [.int .i64 y5.1.Obj, .int .i64 y5.1.Lo, .int .i64 y5.1.Hi, .int .i64 y5.1.Off], boxA b6 [.int .i64 y4.1.Obj, .int .i64 y4.1.Lo, .int .i64 y4.1.Hi, .int .i64 y4.1.Off], boxA b3 [.int .u32 p0.W.Num, .int .i64 p0.W.Ptr.Obj, .int .i64 p0.W.Ptr.Lo, .int .i64 p0.W.Ptr.Hi, .int .i64 p0.W.Ptr.Off, .bool p0.W.Is], boxA b2 [.int .u32 p0.V.Num, .int .i64 p0.V.Ptr.Obj, .int .i64 p0.V.Ptr.Lo, .int .i64 p0.V.Ptr.Hi, .int .i64 p0.V.Ptr.Off, .bool p0.V.Is], R, boxA b4 [.slice a2 n2 c2], nestA nEStoreObject 59 (.slice a2 n2 c2) y3.2.2.list] := hS17
            refine pv (r_zi rfl) (nil (t_thenR [(5, .pointer (some ⟨b2, 0, none⟩)), (6, .pointer (some ⟨b3, 0, none⟩)), (7, .pointer (some ⟨b4, 0, none⟩)), (9, .int .i64 y3.2.1), (10, .pointer (some ⟨b6, 0, none⟩)), (11, .int .i64 y4.2), (12, .pointer (some ⟨b7, 0, none⟩)), (13, .int .i64 y5.2)] ⟨rfl, rfl, rfl, rfl, rfl, rfl, rfl, rfl, trivial⟩ fun J => ?_))
            refine sq2 ?_
            obtain ⟨y6, hx6, hm⟩ := bindS hm
            refine rg (pv (r_mp rfl) (pv (r_ldS rfl Try.isAgg24 Try.sizeOf24 rfl (hS17.cells0 (i := 1) ⟨rfl, rfl⟩ (o := 0) rfl) (cs := [.int .i64 y4.1.Obj, .int .i64 y4.1.Lo, .int .i64 y4.1.Hi, .int .i64 y4.1.Off])) (pv (r_ldS rfl Try.isAgg26 Try.sizeOf26 rfl (hS17.cells0 (i := 3) ⟨rfl, rfl⟩ (o := 0) rfl) (cs := [.int .u32 p0.V.Num, .int .i64 p0.V.Ptr.Obj, .int .i64 p0.V.Ptr.Lo, .int .i64 p0.V.Ptr.Hi, .int .i64 p0.V.Ptr.Off, .bool p0.V.Is])) (wl rfl (calS cf10 rfl (store_Store_Put_sim (p0 := y3.2.2) (H_p0 := boxA b4) (p1 := y4.1) (p2 := 4) (p3 := p0.V) (hS17.bun [0, 1, 2, 3, 4] [5, 6] rfl) (lnBox b4) hx6) rfl fun v6 T6 w18 im18 rv6 => ?_)))))
            obtain ⟨a3, n3, c3, rfl, hS18, _⟩ := rv6
            have hS18 : Sep g T6 w18 [boxA b7 [.int .i64 y5.1.Obj, .int .i64 y5.1.Lo, .int .i64 y5.1.Hi, .int .i64 y5.1.Off], boxA b6 [.int .i64 y4.1.Obj, .int .i64 y4.1.Lo, .int .i64 y4.1.Hi, .int .i64 y4.1.Off], boxA b3 [.int .u32 p0.W.Num, .int .i64 p0.W.Ptr.Obj, .int .i64 p0.W.Ptr.Lo, .int .i64 p0.W.Ptr.Hi, .int .i64 p0.W.Ptr.Off, .bool p0.W.Is], boxA b2 [.int .u32 p0.V.Num, .int .i64 p0.V.Ptr.Obj, .int .i64 p0.V.Ptr.Lo, .int .i64 p0.V.Ptr.Hi, .int .i64 p0.V.Ptr.Off, .bool p0.V.Is], R, boxA b4 [.slice a3 n3 c3], nestA nEStoreObject 59 (.slice a3 n3 c3) y6.2.list] := hS18.unb
            refine pv (r_zi rfl) (nil (t_then ?_))
            refine sq2 ?_
            obtain ⟨y7, hx7, hm⟩ := bindS hm
            refine rg (pv (r_mp rfl) (pv (r_ldS rfl Try.isAgg24 Try.sizeOf24 rfl (hS18.cells0 (i := 0) ⟨rfl, rfl⟩ (o := 0) rfl) (cs := [.int .i64 y5.1.Obj, .int .i64 y5.1.Lo, .int .i64 y5.1.Hi, .int .i64 y5.1.Off])) (pv (r_ldS rfl Try.isAgg26 Try.sizeOf26 rfl (hS18.cells0 (i := 2) ⟨rfl, rfl⟩ (o := 0) rfl) (cs := [.int .u32 p0.W.Num, .int .i64 p0.W.Ptr.Obj, .int .i64 p0.W.Ptr.Lo, .int .i64 p0.W.Ptr.Hi, .int .i64 p0.W.Ptr.Off, .bool p0.W.Is])) (wl rfl (calS cf10 rfl (store_Store_Put_sim (p0 := y6.2) (H_p0 := boxA b4) (p1 := y5.1) (p2 := 4) (p3 := p0.W) (hS18.bun [0, 1, 2, 3, 4] [5, 6] rfl) (lnBox b4) hx7) rfl fun v7 T7 w19 im19 rv7 => ?_)))))
            obtain ⟨a4, n4, c4, rfl, hS19, _⟩ := rv7
            have hS19 : Sep g T7 w19 [boxA b7 [.int .i64 y5.1.Obj, .int .i64 y5.1.Lo, .int .i64 y5.1.Hi, .int .i64 y5.1.Off], boxA b6 [.int .i64 y4.1.Obj, .int .i64 y4.1.Lo, .int .i64 y4.1.Hi, .int .i64 y4.1.Off], boxA b3 [.int .u32 p0.W.Num, .int .i64 p0.W.Ptr.Obj, .int .i64 p0.W.Ptr.Lo, .int .i64 p0.W.Ptr.Hi, .int .i64 p0.W.Ptr.Off, .bool p0.W.Is], boxA b2 [.int .u32 p0.V.Num, .int .i64 p0.V.Ptr.Obj, .int .i64 p0.V.Ptr.Lo, .int .i64 p0.V.Ptr.Hi, .int .i64 p0.V.Ptr.Off, .bool p0.V.Is], R, boxA b4 [.slice a4 n4 c4], nestA nEStoreObject 59 (.slice a4 n4 c4) y7.2.list] := hS19.unb
            refine pv (r_zi rfl) (nil (t_thenR [(5, .pointer (some ⟨b2, 0, none⟩)), (6, .pointer (some ⟨b3, 0, none⟩)), (7, .pointer (some ⟨b4, 0, none⟩)), (9, .int .i64 y3.2.1), (10, .pointer (some ⟨b6, 0, none⟩)), (11, .int .i64 y4.2), (12, .pointer (some ⟨b7, 0, none⟩)), (13, .int .i64 y5.2), (14, .int .i64 y6.1), (15, .int .i64 y7.1)] ⟨rfl, rfl, rfl, rfl, rfl, rfl, rfl, rfl, rfl, rfl, trivial⟩ fun J => ?_))
            refine sq2 ?_
            obtain ⟨y8, hx8, hm⟩ := bindS hm
            refine rg (pv (r_mp rfl) (pv (r_ldS rfl Try.isAgg24 Try.sizeOf24 rfl (hS19.cells0 (i := 1) ⟨rfl, rfl⟩ (o := 0) rfl) (cs := [.int .i64 y4.1.Obj, .int .i64 y4.1.Lo, .int .i64 y4.1.Hi, .int .i64 y4.1.Off])) (pv (r_fa rfl Try.underlying26 rfl Try.sizeOf4 rfl) (pv (r_ld rfl Try.isAgg4 (hS19.cell0 (i := 3) ⟨rfl, rfl⟩ (j := 5) rfl)) (wl rfl (calS cf11 rfl (store_Store_Load_sim (p0 := y7.2) (H_p0 := boxA b4) (p1 := y4.1) (p2 := 4) (p3 := p0.V.Is) (hS19.bun [0, 2, 3, 4] [5, 6] rfl) (lnBox b4) hx8) rfl fun v8 T8 w20 im20 rv8 => ?_))))))
            obtain ⟨rfl, hS20, _⟩ := rv8
            have hS20 : Sep g T8 w20 [boxA b7 [.int .i64 y5.1.Obj, .int .i64 y5.1.Lo, .int .i64 y5.1.Hi, .int .i64 y5.1.Off], boxA b3 [.int .u32 p0.W.Num, .int .i64 p0.W.Ptr.Obj, .int .i64 p0.W.Ptr.Lo, .int .i64 p0.W.Ptr.Hi, .int .i64 p0.W.Ptr.Off, .bool p0.W.Is], boxA b2 [.int .u32 p0.V.Num, .int .i64 p0.V.Ptr.Obj, .int .i64 p0.V.Ptr.Lo, .int .i64 p0.V.Ptr.Hi, .int .i64 p0.V.Ptr.Off, .bool p0.V.Is], R, boxA b4 [.slice a4 n4 c4], nestA nEStoreObject 59 (.slice a4 n4 c4) y7.2.list] := hS20.unb
            refine pv (r_mv rfl) (pv (r_ex (v := .agg #[.int .u32 y8.1.Num, .int .i64 y8.1.Ptr.Obj, .int .i64 y8.1.Ptr.Lo, .int .i64 y8.1.Ptr.Hi, .int .i64 y8.1.Ptr.Off, .bool y8.1.Is]) rfl rfl) (pv (r_ex (v := .int .i64 y8.2) rfl rfl) (wl rfl (alS (zs := [.int .u32 0, .int .i64 0, .int .i64 0, .int .i64 0, .int .i64 0, .bool false]) Try.zeroValue26 rfl hS20 fun w21 b8 im21 hS21 => ?_))))
            refine wl rfl (st0B (q := 0) hS21 ⟨rfl, rfl⟩ rfl rfl rfl Try.sizeOf26 rfl rfl rfl fun w22 im22 hS22 => ?_)
            have hS22 : Sep g T8 w22 [boxA b8 [.int .u32 y8.1.Num, .int .i64 y8.1.Ptr.Obj, .int .i64 y8.1.Ptr.Lo, .int .i64 y8.1.Ptr.Hi, .int .i64 y8.1.Ptr.Off, .bool y8.1.Is], boxA b7 [.int .i64 y5.1.Obj, .int .i64 y5.1.Lo, .int .i64 y5.1.Hi, .int .i64 y5.1.Off], boxA b3 [.int .u32 p0.W.Num, .int .i64 p0.W.Ptr.Obj, .int .i64 p0.W.Ptr.Lo, .int .i64 p0.W.Ptr.Hi, .int .i64 p0.W.Ptr.Off, .bool p0.W.Is], boxA b2 [.int .u32 p0.V.Num, .int .i64 p0.V.Ptr.Obj, .int .i64 p0.V.Ptr.Lo, .int .i64 p0.V.Ptr.Hi, .int .i64 p0.V.Ptr.Off, .bool p0.V.Is], R, boxA b4 [.slice a4 n4 c4], nestA nEStoreObject 59 (.slice a4 n4 c4) y7.2.list] := hS22
            refine pv (r_zi rfl) (nil (t_thenR [(5, .pointer (some ⟨b2, 0, none⟩)), (6, .pointer (some ⟨b3, 0, none⟩)), (7, .pointer (some ⟨b4, 0, none⟩)), (9, .int .i64 y3.2.1), (11, .int .i64 y4.2), (12, .pointer (some ⟨b7, 0, none⟩)), (13, .int .i64 y5.2), (14, .int .i64 y6.1), (15, .int .i64 y7.1), (16, .pointer (some ⟨b8, 0, none⟩)), (17, .int .i64 y8.2)] ⟨rfl, rfl, rfl, rfl, rfl, rfl, rfl, rfl, rfl, rfl, rfl, trivial⟩ fun J => ?_))
            refine sq2 ?_
            obtain ⟨y9, hx9, hm⟩ := bindS hm
            refine rg (pv (r_mp rfl) (pv (r_ldS rfl Try.isAgg24 Try.sizeOf24 rfl (hS22.cells0 (i := 1) ⟨rfl, rfl⟩ (o := 0) rfl) (cs := [.int .i64 y5.1.Obj, .int .i64 y5.1.Lo, .int .i64 y5.1.Hi, .int .i64 y5.1.Off])) (pv (r_fa rfl Try.underlying26 rfl Try.sizeOf4 rfl) (pv (r_ld rfl Try.isAgg4 (hS22.cell0 (i := 2) ⟨rfl, rfl⟩ (j := 5) rfl)) (wl rfl (calS cf11 rfl (store_Store_Load_sim (p0 := y7.2) (H_p0 := boxA b4) (p1 := y5.1) (p2 := 4) (p3 := p0.W.Is) (hS22.bun [0, 2, 3, 4] [5, 6] rfl) (lnBox b4) hx9) rfl fun v9 T9 w23 im23 rv9 => ?_))))))
            obtain ⟨rfl, hS23, _⟩ := rv9
            have hS23 : Sep g T9 w23 [boxA b8 [.int .u32 y8.1.Num, .int .i64 y8.1.Ptr.Obj, .int .i64 y8.1.Ptr.Lo, .int .i64 y8.1.Ptr.Hi, .int .i64 y8.1.Ptr.Off, .bool y8.1.Is], boxA b3 [.int .u32 p0.W.Num, .int .i64 p0.W.Ptr.Obj, .int .i64 p0.W.Ptr.Lo, .int .i64 p0.W.Ptr.Hi, .int .i64 p0.W.Ptr.Off, .bool p0.W.Is], boxA b2 [.int .u32 p0.V.Num, .int .i64 p0.V.Ptr.Obj, .int .i64 p0.V.Ptr.Lo, .int .i64 p0.V.Ptr.Hi, .int .i64 p0.V.Ptr.Off, .bool p0.V.Is], R, boxA b4 [.slice a4 n4 c4], nestA nEStoreObject 59 (.slice a4 n4 c4) y7.2.list] := hS23.unb
            refine pv (r_mv rfl) (pv (r_ex (v := .agg #[.int .u32 y9.1.Num, .int .i64 y9.1.Ptr.Obj, .int .i64 y9.1.Ptr.Lo, .int .i64 y9.1.Ptr.Hi, .int .i64 y9.1.Ptr.Off, .bool y9.1.Is]) rfl rfl) (pv (r_ex (v := .int .i64 y9.2) rfl rfl) (wl rfl (alS (zs := [.int .u32 0, .int .i64 0, .int .i64 0, .int .i64 0, .int .i64 0, .bool false]) Try.zeroValue26 rfl hS23 fun w24 b9 im24 hS24 => ?_))))
            refine wl rfl (st0B (q := 0) hS24 ⟨rfl, rfl⟩ rfl rfl rfl Try.sizeOf26 rfl rfl rfl fun w25 im25 hS25 => ?_)
            have hS25 : Sep g T9 w25 [boxA b9 [.int .u32 y9.1.Num, .int .i64 y9.1.Ptr.Obj, .int .i64 y9.1.Ptr.Lo, .int .i64 y9.1.Ptr.Hi, .int .i64 y9.1.Ptr.Off, .bool y9.1.Is], boxA b8 [.int .u32 y8.1.Num, .int .i64 y8.1.Ptr.Obj, .int .i64 y8.1.Ptr.Lo, .int .i64 y8.1.Ptr.Hi, .int .i64 y8.1.Ptr.Off, .bool y8.1.Is], boxA b3 [.int .u32 p0.W.Num, .int .i64 p0.W.Ptr.Obj, .int .i64 p0.W.Ptr.Lo, .int .i64 p0.W.Ptr.Hi, .int .i64 p0.W.Ptr.Off, .bool p0.W.Is], boxA b2 [.int .u32 p0.V.Num, .int .i64 p0.V.Ptr.Obj, .int .i64 p0.V.Ptr.Lo, .int .i64 p0.V.Ptr.Hi, .int .i64 p0.V.Ptr.Off, .bool p0.V.Is], R, boxA b4 [.slice a4 n4 c4], nestA nEStoreObject 59 (.slice a4 n4 c4) y7.2.list] := hS25
            refine pv (r_zi rfl) (nil (t_thenR [(5, .pointer (some ⟨b2, 0, none⟩)), (6, .pointer (some ⟨b3, 0, none⟩)), (9, .int .i64 y3.2.1), (11, .int .i64 y4.2), (13, .int .i64 y5.2), (14, .int .i64 y6.1), (15, .int .i64 y7.1), (16, .pointer (some ⟨b8, 0, none⟩)), (17, .int .i64 y8.2), (18, .pointer (some ⟨b9, 0, none⟩)), (19, .int .i64 y9.2)] ⟨rfl, rfl, rfl, rfl, rfl, rfl, rfl, rfl, rfl, rfl, rfl, trivial⟩ fun J => ?_))
            refine sq2 ?_
            refine sq2 ?_
            refine rg (pv (r_mi rfl) (pv (r_ib rfl rfl rfl) (pv (r_mb rfl) (?_))))
            rcases Bool.eq_false_or_eq_true (y3.2.1 != 0) with hb5 | hb5
            · have hm := ctrue hb5 hm
              refine gF (d0 := 93) rfl rfl (by rw [hb5]; rfl) (gF (d0 := 93) rfl rfl (by rw [hb5]; rfl) (pv (r_pkt rfl hb5 rfl) (pv (r_mb rfl) (gF (d0 := 97) rfl rfl rfl (gF (d0 := 97) rfl rfl rfl (pv (r_pkt rfl rfl rfl) (pv (r_mb rfl) (gF (d0 := 101) rfl rfl rfl (gF (d0 := 101) rfl rfl rfl (pv (r_pkt rfl rfl rfl) (pv (r_mb rfl) (gF (d0 := 105) rfl rfl rfl (gF (d0 := 105) rfl rfl rfl (pv (r_pkt rfl rfl rfl) (pv (r_mb rfl) (gF (d0 := 109) rfl rfl rfl (gF (d0 := 109) rfl rfl rfl (pv (r_pkt rfl rfl rfl) (pv (r_mb rfl) (gF (d0 := 113) rfl rfl rfl (gF (d0 := 113) rfl rfl rfl (pv (r_pkt rfl rfl rfl) (nil (t_thenR [(5, .pointer (some ⟨b2, 0, none⟩)), (6, .pointer (some ⟨b3, 0, none⟩)), (16, .pointer (some ⟨b8, 0, none⟩)), (18, .pointer (some ⟨b9, 0, none⟩)), (116, .bool true)] ⟨rfl, rfl, rfl, rfl, rfl, trivial⟩ fun J => ?_))))))))))))))))))))))))
              refine cnd (b := true) rfl (fun _ => ?_) (fun h => nomatch h)
              refine sq2 ?_
              refine rg (pv (r_zb rfl) (nil (t_thenR [(2, .bool false)] ⟨rfl, trivial⟩ fun J => ?_)))
              have hm := Option.some.inj hm
              subst hm
              exact rtn (r_then (ret1 rfl rfl ⟨_, rfl, _, (Im.trans im1 (Im.trans im2 (Im.trans im3 (Im.trans im4 (Im.trans im5 (Im.trans im6 (Im.trans im8 (Im.trans im9 (Im.trans im10 (Im.trans im11 (Im.trans im12 (Im.trans im13 (Im.trans im14 (Im.trans im15 (Im.trans im16 (Im.trans im17 (Im.trans im18 (Im.trans im19 (Im.trans im20 (Im.trans im21 (Im.trans im22 (Im.trans im23 (Im.trans im24 im25))))))))))))))))))))))), ⟨rfl, hS25.sel [4] rfl, trivial⟩⟩))
            · have hm := cfalse hb5 hm
              refine gT (d0 := 93) rfl rfl hb5 (pv (r_mi rfl) (gT (d0 := 93) rfl rfl hb5 (pv (r_ib rfl rfl rfl) (pv (r_pkf rfl hb5 rfl) (pv (r_mb rfl) (?_))))))
              rcases Bool.eq_false_or_eq_true (y4.2 != 0) with hb6 | hb6
              · have hm := ctrue hb6 hm
                refine gF (d0 := 97) rfl rfl (by rw [hb6]; rfl) (gF (d0 := 97) rfl rfl (by rw [hb6]; rfl) (pv (r_pkt rfl hb6 rfl) (pv (r_mb rfl) (gF (d0 := 101) rfl rfl rfl (gF (d0 := 101) rfl rfl rfl (pv (r_pkt rfl rfl rfl) (pv (r_mb rfl) (gF (d0 := 105) rfl rfl rfl (gF (d0 := 105) rfl rfl rfl (pv (r_pkt rfl rfl rfl) (pv (r_mb rfl) (gF (d0 := 109) rfl rfl rfl (gF (d0 := 109) rfl rfl rfl (pv (r_pkt rfl rfl rfl) (pv (r_mb rfl) (gF (d0 := 113) rfl rfl rfl (gF (d0 := 113) rfl rfl rfl (pv (r_pkt rfl rfl rfl) (nil (t_thenR [(5, .pointer (some ⟨b2, 0, none⟩)), (6, .pointer (some ⟨b3, 0, none⟩)), (16, .pointer (some ⟨b8, 0, none⟩)), (18, .pointer (some ⟨b9, 0, none⟩)), (116, .bool true)] ⟨rfl, rfl, rfl, rfl, rfl, trivial⟩ fun J => ?_))))))))))))))))))))
                refine cnd (b := true) rfl (fun _ => ?_) (fun h => nomatch h)
                refine sq2 ?_
                refine rg (pv (r_zb rfl) (nil (t_thenR [(2, .bool false)] ⟨rfl, trivial⟩ fun J => ?_)))
                have hm := Option.some.inj hm
                subst hm
                exact rtn (r_then (ret1 rfl rfl ⟨_, rfl, _, (Im.trans im1 (Im.trans im2 (Im.trans im3 (Im.trans im4 (Im.trans im5 (Im.trans im6 (Im.trans im8 (Im.trans im9 (Im.trans im10 (Im.trans im11 (Im.trans im12 (Im.trans im13 (Im.trans im14 (Im.trans im15 (Im.trans im16 (Im.trans im17 (Im.trans im18 (Im.trans im19 (Im.trans im20 (Im.trans im21 (Im.trans im22 (Im.trans im23 (Im.trans im24 im25))))))))))))))))))))))), ⟨rfl, hS25.sel [4] rfl, trivial⟩⟩))
              · have hm := cfalse hb6 hm
                refine gT (d0 := 97) rfl rfl hb6 (pv (r_mi rfl) (gT (d0 := 97) rfl rfl hb6 (pv (r_ib rfl rfl rfl) (pv (r_pkf rfl hb6 rfl) (pv (r_mb rfl) (?_))))))
                rcases Bool.eq_false_or_eq_true (y5.2 != 0) with hb7 | hb7
                · have hm := ctrue hb7 hm
                  refine gF (d0 := 101) rfl rfl (by rw [hb7]; rfl) (gF (d0 := 101) rfl rfl (by rw [hb7]; rfl) (pv (r_pkt rfl hb7 rfl) (pv (r_mb rfl) (gF (d0 := 105) rfl rfl rfl (gF (d0 := 105) rfl rfl rfl (pv (r_pkt rfl rfl rfl) (pv (r_mb rfl) (gF (d0 := 109) rfl rfl rfl (gF (d0 := 109) rfl rfl rfl (pv (r_pkt rfl rfl rfl) (pv (r_mb rfl) (gF (d0 := 113) rfl rfl rfl (gF (d0 := 113) rfl rfl rfl (pv (r_pkt rfl rfl rfl) (nil (t_thenR [(5, .pointer (some ⟨b2, 0, none⟩)), (6, .pointer (some ⟨b3, 0, none⟩)), (16, .pointer (some ⟨b8, 0, none⟩)), (18, .pointer (some ⟨b9, 0, none⟩)), (116, .bool true)] ⟨rfl, rfl, rfl, rfl, rfl, trivial⟩ fun J => ?_))))))))))))))))
                  refine cnd (b := true) rfl (fun _ => ?_) (fun h => nomatch h)
                  refine sq2 ?_
                  refine rg (pv (r_zb rfl) (nil (t_thenR [(2, .bool false)] ⟨rfl, trivial⟩ fun J => ?_)))
                  have hm := Option.some.inj hm
                  subst hm
                  exact rtn (r_then (ret1 rfl rfl ⟨_, rfl, _, (Im.trans im1 (Im.trans im2 (Im.trans im3 (Im.trans im4 (Im.trans im5 (Im.trans im6 (Im.trans im8 (Im.trans im9 (Im.trans im10 (Im.trans im11 (Im.trans im12 (Im.trans im13 (Im.trans im14 (Im.trans im15 (Im.trans im16 (Im.trans im17 (Im.trans im18 (Im.trans im19 (Im.trans im20 (Im.trans im21 (Im.trans im22 (Im.trans im23 (Im.trans im24 im25))))))))))))))))))))))), ⟨rfl, hS25.sel [4] rfl, trivial⟩⟩))
                · have hm := cfalse hb7 hm
                  refine gT (d0 := 101) rfl rfl hb7 (pv (r_mi rfl) (gT (d0 := 101) rfl rfl hb7 (pv (r_ib rfl rfl rfl) (pv (r_pkf rfl hb7 rfl) (pv (r_mb rfl) (?_))))))
                  rcases Bool.eq_false_or_eq_true (y6.1 != 0) with hb8 | hb8
                  · have hm := ctrue hb8 hm
                    refine gF (d0 := 105) rfl rfl (by rw [hb8]; rfl) (gF (d0 := 105) rfl rfl (by rw [hb8]; rfl) (pv (r_pkt rfl hb8 rfl) (pv (r_mb rfl) (gF (d0 := 109) rfl rfl rfl (gF (d0 := 109) rfl rfl rfl (pv (r_pkt rfl rfl rfl) (pv (r_mb rfl) (gF (d0 := 113) rfl rfl rfl (gF (d0 := 113) rfl rfl rfl (pv (r_pkt rfl rfl rfl) (nil (t_thenR [(5, .pointer (some ⟨b2, 0, none⟩)), (6, .pointer (some ⟨b3, 0, none⟩)), (16, .pointer (some ⟨b8, 0, none⟩)), (18, .pointer (some ⟨b9, 0, none⟩)), (116, .bool true)] ⟨rfl, rfl, rfl, rfl, rfl, trivial⟩ fun J => ?_))))))))))))
                    refine cnd (b := true) rfl (fun _ => ?_) (fun h => nomatch h)
                    refine sq2 ?_
                    refine rg (pv (r_zb rfl) (nil (t_thenR [(2, .bool false)] ⟨rfl, trivial⟩ fun J => ?_)))
                    have hm := Option.some.inj hm
                    subst hm
                    exact rtn (r_then (ret1 rfl rfl ⟨_, rfl, _, (Im.trans im1 (Im.trans im2 (Im.trans im3 (Im.trans im4 (Im.trans im5 (Im.trans im6 (Im.trans im8 (Im.trans im9 (Im.trans im10 (Im.trans im11 (Im.trans im12 (Im.trans im13 (Im.trans im14 (Im.trans im15 (Im.trans im16 (Im.trans im17 (Im.trans im18 (Im.trans im19 (Im.trans im20 (Im.trans im21 (Im.trans im22 (Im.trans im23 (Im.trans im24 im25))))))))))))))))))))))), ⟨rfl, hS25.sel [4] rfl, trivial⟩⟩))
                  · have hm := cfalse hb8 hm
                    refine gT (d0 := 105) rfl rfl hb8 (pv (r_mi rfl) (gT (d0 := 105) rfl rfl hb8 (pv (r_ib rfl rfl rfl) (pv (r_pkf rfl hb8 rfl) (pv (r_mb rfl) (?_))))))
                    rcases Bool.eq_false_or_eq_true (y7.1 != 0) with hb9 | hb9
                    · have hm := ctrue hb9 hm
                      refine gF (d0 := 109) rfl rfl (by rw [hb9]; rfl) (gF (d0 := 109) rfl rfl (by rw [hb9]; rfl) (pv (r_pkt rfl hb9 rfl) (pv (r_mb rfl) (gF (d0 := 113) rfl rfl rfl (gF (d0 := 113) rfl rfl rfl (pv (r_pkt rfl rfl rfl) (nil (t_thenR [(5, .pointer (some ⟨b2, 0, none⟩)), (6, .pointer (some ⟨b3, 0, none⟩)), (16, .pointer (some ⟨b8, 0, none⟩)), (18, .pointer (some ⟨b9, 0, none⟩)), (116, .bool true)] ⟨rfl, rfl, rfl, rfl, rfl, trivial⟩ fun J => ?_))))))))
                      refine cnd (b := true) rfl (fun _ => ?_) (fun h => nomatch h)
                      refine sq2 ?_
                      refine rg (pv (r_zb rfl) (nil (t_thenR [(2, .bool false)] ⟨rfl, trivial⟩ fun J => ?_)))
                      have hm := Option.some.inj hm
                      subst hm
                      exact rtn (r_then (ret1 rfl rfl ⟨_, rfl, _, (Im.trans im1 (Im.trans im2 (Im.trans im3 (Im.trans im4 (Im.trans im5 (Im.trans im6 (Im.trans im8 (Im.trans im9 (Im.trans im10 (Im.trans im11 (Im.trans im12 (Im.trans im13 (Im.trans im14 (Im.trans im15 (Im.trans im16 (Im.trans im17 (Im.trans im18 (Im.trans im19 (Im.trans im20 (Im.trans im21 (Im.trans im22 (Im.trans im23 (Im.trans im24 im25))))))))))))))))))))))), ⟨rfl, hS25.sel [4] rfl, trivial⟩⟩))
                    · have hm := cfalse hb9 hm
                      refine gT (d0 := 109) rfl rfl hb9 (pv (r_mi rfl) (gT (d0 := 109) rfl rfl hb9 (pv (r_ib rfl rfl rfl) (pv (r_pkf rfl hb9 rfl) (pv (r_mb rfl) (?_))))))
                      rcases Bool.eq_false_or_eq_true (y8.2 != 0) with hb10 | hb10
                      · have hm := ctrue hb10 hm
                        refine gF (d0 := 113) rfl rfl (by rw [hb10]; rfl) (gF (d0 := 113) rfl rfl (by rw [hb10]; rfl) (pv (r_pkt rfl hb10 rfl) (nil (t_thenR [(5, .pointer (some ⟨b2, 0, none⟩)), (6, .pointer (some ⟨b3, 0, none⟩)), (16, .pointer (some ⟨b8, 0, none⟩)), (18, .pointer (some ⟨b9, 0, none⟩)), (116, .bool true)] ⟨rfl, rfl, rfl, rfl, rfl, trivial⟩ fun J => ?_))))
                        refine cnd (b := true) rfl (fun _ => ?_) (fun h => nomatch h)
                        refine sq2 ?_
                        refine rg (pv (r_zb rfl) (nil (t_thenR [(2, .bool false)] ⟨rfl, trivial⟩ fun J => ?_)))
                        have hm := Option.some.inj hm
                        subst hm
                        exact rtn (r_then (ret1 rfl rfl ⟨_, rfl, _, (Im.trans im1 (Im.trans im2 (Im.trans im3 (Im.trans im4 (Im.trans im5 (Im.trans im6 (Im.trans im8 (Im.trans im9 (Im.trans im10 (Im.trans im11 (Im.trans im12 (Im.trans im13 (Im.trans im14 (Im.trans im15 (Im.trans im16 (Im.trans im17 (Im.trans im18 (Im.trans im19 (Im.trans im20 (Im.trans im21 (Im.trans im22 (Im.trans im23 (Im.trans im24 im25))))))))))))))))))))))), ⟨rfl, hS25.sel [4] rfl, trivial⟩⟩))
                      · have hm := cfalse hb10 hm
                        refine gT (d0 := 113) rfl rfl hb10 (pv (r_mi rfl) (gT (d0 := 113) rfl rfl hb10 (pv (r_ib rfl rfl rfl) (pv (r_pkf rfl hb10 rfl) (nil (t_thenR [(5, .pointer (some ⟨b2, 0, none⟩)), (6, .pointer (some ⟨b3, 0, none⟩)), (16, .pointer (some ⟨b8, 0, none⟩)), (18, .pointer (some ⟨b9, 0, none⟩)), (116, .bool (y9.2 != 0))] ⟨rfl, rfl, rfl, rfl, rfl, trivial⟩ fun J => ?_))))))
                        refine cnd rfl (fun hb11 => ?_) (fun hb11 => ?_)
                        · have hm := ctrue hb11 hm
                          refine sq2 ?_
                          refine rg (pv (r_zb rfl) (nil (t_thenR [(2, .bool false)] ⟨rfl, trivial⟩ fun J => ?_)))
                          have hm := Option.some.inj hm
                          subst hm
                          exact rtn (r_then (ret1 rfl rfl ⟨_, rfl, _, (Im.trans im1 (Im.trans im2 (Im.trans im3 (Im.trans im4 (Im.trans im5 (Im.trans im6 (Im.trans im8 (Im.trans im9 (Im.trans im10 (Im.trans im11 (Im.trans im12 (Im.trans im13 (Im.trans im14 (Im.trans im15 (Im.trans im16 (Im.trans im17 (Im.trans im18 (Im.trans im19 (Im.trans im20 (Im.trans im21 (Im.trans im22 (Im.trans im23 (Im.trans im24 im25))))))))))))))))))))))), ⟨rfl, hS25.sel [4] rfl, trivial⟩⟩))
                        · have hm := cfalse hb11 hm
                          refine skp (t_then ?_)
                          obtain ⟨kk1, hkk1, hm⟩ := jn_open hm
                          refine cut (fun a w26 => ∃ (J : Nat → Value) (T10 : Nat → Prop) (x1 : StoreValue), a = env (nf 138) J [(5, .pointer (some ⟨b2, 0, none⟩)), (6, .pointer (some ⟨b3, 0, none⟩)), (16, .pointer (some ⟨b8, 0, none⟩)), (18, .pointer (some ⟨b9, 0, none⟩))] ∧ Im T9 w25 T10 w26 ∧ Sep g T10 w26 [boxA b9 [.int .u32 y9.1.Num, .int .i64 y9.1.Ptr.Obj, .int .i64 y9.1.Ptr.Lo, .int .i64 y9.1.Ptr.Hi, .int .i64 y9.1.Ptr.Off, .bool y9.1.Is], boxA b8 [.int .u32 y8.1.Num, .int .i64 y8.1.Ptr.Obj, .int .i64 y8.1.Ptr.Lo, .int .i64 y8.1.Ptr.Hi, .int .i64 y8.1.Ptr.Off, .bool y8.1.Is], boxA b3 [.int .u32 p0.W.Num, .int .i64 p0.W.Ptr.Obj, .int .i64 p0.W.Ptr.Lo, .int .i64 p0.W.Ptr.Hi, .int .i64 p0.W.Ptr.Off, .bool p0.W.Is], boxA b2 [.int .u32 x1.Num, .int .i64 x1.Ptr.Obj, .int .i64 x1.Ptr.Lo, .int .i64 x1.Ptr.Hi, .int .i64 x1.Ptr.Off, .bool x1.Is], R] ∧ kk1 x1 = some r) ?_ ?_
                          · refine sq2 ?_
                            refine rg (pv (r_fa rfl Try.underlying26 rfl Try.sizeOf4 rfl) (pv (r_ld rfl Try.isAgg4 (hS25.cell0 (i := 3) ⟨rfl, rfl⟩ (j := 5) rfl)) (nil (t_then ?_))))
                            refine cnd rfl (fun hb12 => ?_) (fun hb12 => ?_)
                            · have hm := ctrue hb12 hm
                              refine rg (pv (r_fa rfl Try.underlying26 rfl Try.sizeOf22 rfl) (wl rfl (st0B (q := 3) hS25 ⟨rfl, rfl⟩ rfl rfl rfl Try.sizeOf22 rfl rfl rfl fun w27 im27 hS26 => ?_)))
                              have hS26 : Sep g T9 w27 [boxA b9 [.int .u32 y9.1.Num, .int .i64 y9.1.Ptr.Obj, .int .i64 y9.1.Ptr.Lo, .int .i64 y9.1.Ptr.Hi, .int .i64 y9.1.Ptr.Off, .bool y9.1.Is], boxA b8 [.int .u32 y8.1.Num, .int .i64 y8.1.Ptr.Obj, .int .i64 y8.1.Ptr.Lo, .int .i64 y8.1.Ptr.Hi, .int .i64 y8.1.Ptr.Off, .bool y8.1.Is], boxA b3 [.int .u32 p0.W.Num, .int .i64 p0.W.Ptr.Obj, .int .i64 p0.W.Ptr.Lo, .int .i64 p0.W.Ptr.Hi, .int .i64 p0.W.Ptr.Off, .bool p0.W.Is], boxA b2 [.int .u32 0, .int .i64 p0.V.Ptr.Obj, .int .i64 p0.V.Ptr.Lo, .int .i64 p0.V.Ptr.Hi, .int .i64 p0.V.Ptr.Off, .bool p0.V.Is], R, boxA b4 [.slice a4 n4 c4], nestA nEStoreObject 59 (.slice a4 n4 c4) y7.2.list] := hS26
                              exact nil (t_then ⟨_, _, ({ p0.V with Num := 0 }), env_has ⟨rfl, rfl, rfl, rfl, trivial⟩, im27, hS26.sel [0, 1, 2, 3, 4] rfl, hm⟩)
                            · have hm := cfalse hb12 hm
                              refine rg (pv (r_bd (by kernel_rfl) rfl (u := .agg #[.int .i64 0, .int .i64 0, .int .i64 0, .int .i64 0])) (pv (r_fa rfl Try.underlying26 rfl Try.sizeOf24 rfl) (wl rfl (st0B (q := 3) hS25 ⟨rfl, rfl⟩ rfl rfl rfl Try.sizeOf24 rfl rfl rfl fun w28 im28 hS27 => ?_))))
                              have hS27 : Sep g T9 w28 [boxA b9 [.int .u32 y9.1.Num, .int .i64 y9.1.Ptr.Obj, .int .i64 y9.1.Ptr.Lo, .int .i64 y9.1.Ptr.Hi, .int .i64 y9.1.Ptr.Off, .bool y9.1.Is], boxA b8 [.int .u32 y8.1.Num, .int .i64 y8.1.Ptr.Obj, .int .i64 y8.1.Ptr.Lo, .int .i64 y8.1.Ptr.Hi, .int .i64 y8.1.Ptr.Off, .bool y8.1.Is], boxA b3 [.int .u32 p0.W.Num, .int .i64 p0.W.Ptr.Obj, .int .i64 p0.W.Ptr.Lo, .int .i64 p0.W.Ptr.Hi, .int .i64 p0.W.Ptr.Off, .bool p0.W.Is], boxA b2 [.int .u32 p0.V.Num, .int .i64 0, .int .i64 0, .int .i64 0, .int .i64 0, .bool p0.V.Is], R, boxA b4 [.slice a4 n4 c4], nestA nEStoreObject 59 (.slice a4 n4 c4) y7.2.list] := hS27
                              exact nil (t_then ⟨_, _, ({ p0.V with Ptr := (⟨0, 0, 0, 0⟩ : StorePtr) }), env_has ⟨rfl, rfl, rfl, rfl, trivial⟩, im28, hS27.sel [0, 1, 2, 3, 4] rfl, hm⟩)
                          · rintro _ w26 ⟨J, T10, x1, rfl, im26, hS28, hm⟩
                            rw [hkk1] at hm
                            obtain ⟨kk2, hkk2, hm⟩ := jn_open hm
                            refine cut (fun a w29 => ∃ (J : Nat → Value) (T11 : Nat → Prop) (x2 : StoreValue), a = env (nf 138) J [(5, .pointer (some ⟨b2, 0, none⟩)), (6, .pointer (some ⟨b3, 0, none⟩)), (16, .pointer (some ⟨b8, 0, none⟩)), (18, .pointer (some ⟨b9, 0, none⟩))] ∧ Im T10 w26 T11 w29 ∧ Sep g T11 w29 [boxA b9 [.int .u32 y9.1.Num, .int .i64 y9.1.Ptr.Obj, .int .i64 y9.1.Ptr.Lo, .int .i64 y9.1.Ptr.Hi, .int .i64 y9.1.Ptr.Off, .bool y9.1.Is], boxA b8 [.int .u32 y8.1.Num, .int .i64 y8.1.Ptr.Obj, .int .i64 y8.1.Ptr.Lo, .int .i64 y8.1.Ptr.Hi, .int .i64 y8.1.Ptr.Off, .bool y8.1.Is], boxA b3 [.int .u32 x2.Num, .int .i64 x2.Ptr.Obj, .int .i64 x2.Ptr.Lo, .int .i64 x2.Ptr.Hi, .int .i64 x2.Ptr.Off, .bool x2.Is], boxA b2 [.int .u32 x1.Num, .int .i64 x1.Ptr.Obj, .int .i64 x1.Ptr.Lo, .int .i64 x1.Ptr.Hi, .int .i64 x1.Ptr.Off, .bool x1.Is], R] ∧ kk2 x2 = some r) ?_ ?_
                            · refine sq2 ?_
                              refine rg (pv (r_fa rfl Try.underlying26 rfl Try.sizeOf4 rfl) (pv (r_ld rfl Try.isAgg4 (hS28.cell0 (i := 2) ⟨rfl, rfl⟩ (j := 5) rfl)) (nil (t_then ?_))))
                              refine cnd rfl (fun hb13 => ?_) (fun hb13 => ?_)
                              · have hm := ctrue hb13 hm
                                refine rg (pv (r_fa rfl Try.underlying26 rfl Try.sizeOf22 rfl) (wl rfl (st0B (q := 2) hS28 ⟨rfl, rfl⟩ rfl rfl rfl Try.sizeOf22 rfl rfl rfl fun w30 im30 hS29 => ?_)))
                                have hS29 : Sep g T10 w30 [boxA b9 [.int .u32 y9.1.Num, .int .i64 y9.1.Ptr.Obj, .int .i64 y9.1.Ptr.Lo, .int .i64 y9.1.Ptr.Hi, .int .i64 y9.1.Ptr.Off, .bool y9.1.Is], boxA b8 [.int .u32 y8.1.Num, .int .i64 y8.1.Ptr.Obj, .int .i64 y8.1.Ptr.Lo, .int .i64 y8.1.Ptr.Hi, .int .i64 y8.1.Ptr.Off, .bool y8.1.Is], boxA b3 [.int .u32 0, .int .i64 p0.W.Ptr.Obj, .int .i64 p0.W.Ptr.Lo, .int .i64 p0.W.Ptr.Hi, .int .i64 p0.W.Ptr.Off, .bool p0.W.Is], boxA b2 [.int .u32 x1.Num, .int .i64 x1.Ptr.Obj, .int .i64 x1.Ptr.Lo, .int .i64 x1.Ptr.Hi, .int .i64 x1.Ptr.Off, .bool x1.Is], R] := hS29
                                exact nil (t_then ⟨_, _, ({ p0.W with Num := 0 }), env_has ⟨rfl, rfl, rfl, rfl, trivial⟩, im30, hS29.sel [0, 1, 2, 3, 4] rfl, hm⟩)
                              · have hm := cfalse hb13 hm
                                refine rg (pv (r_bd (by kernel_rfl) rfl (u := .agg #[.int .i64 0, .int .i64 0, .int .i64 0, .int .i64 0])) (pv (r_fa rfl Try.underlying26 rfl Try.sizeOf24 rfl) (wl rfl (st0B (q := 2) hS28 ⟨rfl, rfl⟩ rfl rfl rfl Try.sizeOf24 rfl rfl rfl fun w31 im31 hS30 => ?_))))
                                have hS30 : Sep g T10 w31 [boxA b9 [.int .u32 y9.1.Num, .int .i64 y9.1.Ptr.Obj, .int .i64 y9.1.Ptr.Lo, .int .i64 y9.1.Ptr.Hi, .int .i64 y9.1.Ptr.Off, .bool y9.1.Is], boxA b8 [.int .u32 y8.1.Num, .int .i64 y8.1.Ptr.Obj, .int .i64 y8.1.Ptr.Lo, .int .i64 y8.1.Ptr.Hi, .int .i64 y8.1.Ptr.Off, .bool y8.1.Is], boxA b3 [.int .u32 p0.W.Num, .int .i64 0, .int .i64 0, .int .i64 0, .int .i64 0, .bool p0.W.Is], boxA b2 [.int .u32 x1.Num, .int .i64 x1.Ptr.Obj, .int .i64 x1.Ptr.Lo, .int .i64 x1.Ptr.Hi, .int .i64 x1.Ptr.Off, .bool x1.Is], R] := hS30
                                exact nil (t_then ⟨_, _, ({ p0.W with Ptr := (⟨0, 0, 0, 0⟩ : StorePtr) }), env_has ⟨rfl, rfl, rfl, rfl, trivial⟩, im31, hS30.sel [0, 1, 2, 3, 4] rfl, hm⟩)
                            · rintro _ w29 ⟨J, T11, x2, rfl, im29, hS31, hm⟩
                              rw [hkk2] at hm
                              refine sq2 ?_
                              obtain ⟨y10, hx10, hm⟩ := bindS hm
                              refine rg (wl rfl (calS cf6 rfl (law11_awake_sim  (hS31.bun [0, 1, 2, 3, 4] [] rfl)  hx10) rfl fun v10 T12 w32 im32 rv10 => ?_))
                              obtain ⟨rfl, hS32, _⟩ := rv10
                              have hS32 : Sep g T12 w32 [boxA b9 [.int .u32 y9.1.Num, .int .i64 y9.1.Ptr.Obj, .int .i64 y9.1.Ptr.Lo, .int .i64 y9.1.Ptr.Hi, .int .i64 y9.1.Ptr.Off, .bool y9.1.Is], boxA b8 [.int .u32 y8.1.Num, .int .i64 y8.1.Ptr.Obj, .int .i64 y8.1.Ptr.Lo, .int .i64 y8.1.Ptr.Hi, .int .i64 y8.1.Ptr.Off, .bool y8.1.Is], boxA b3 [.int .u32 x2.Num, .int .i64 x2.Ptr.Obj, .int .i64 x2.Ptr.Lo, .int .i64 x2.Ptr.Hi, .int .i64 x2.Ptr.Off, .bool x2.Is], boxA b2 [.int .u32 x1.Num, .int .i64 x1.Ptr.Obj, .int .i64 x1.Ptr.Lo, .int .i64 x1.Ptr.Hi, .int .i64 x1.Ptr.Off, .bool x1.Is], R] := hS32.unb
                              refine pv (r_mb rfl) (?_)
                              rcases Bool.eq_false_or_eq_true y10 with hb14 | hb14
                              · have hm := ctrue hb14 hm
                                refine gT (d0 := 128) rfl rfl hb14 (pv (r_ldS rfl Try.isAgg26 Try.sizeOf26 rfl (hS32.cells0 (i := 1) ⟨rfl, rfl⟩ (o := 0) rfl) (cs := [.int .u32 y8.1.Num, .int .i64 y8.1.Ptr.Obj, .int .i64 y8.1.Ptr.Lo, .int .i64 y8.1.Ptr.Hi, .int .i64 y8.1.Ptr.Off, .bool y8.1.Is])) (gT (d0 := 128) rfl rfl hb14 (pv (r_ldS rfl Try.isAgg26 Try.sizeOf26 rfl (hS32.cells0 (i := 3) ⟨rfl, rfl⟩ (o := 0) rfl) (cs := [.int .u32 x1.Num, .int .i64 x1.Ptr.Obj, .int .i64 x1.Ptr.Lo, .int .i64 x1.Ptr.Hi, .int .i64 x1.Ptr.Off, .bool x1.Is])) (gT (d0 := 128) rfl rfl hb14 (pv (r_seqe rfl rfl (eq_26 y8.1.Num y8.1.Ptr.Obj y8.1.Ptr.Lo y8.1.Ptr.Hi y8.1.Ptr.Off y8.1.Is x1.Num x1.Ptr.Obj x1.Ptr.Lo x1.Ptr.Hi x1.Ptr.Off x1.Is)) (pv (r_pkt rfl hb14 rfl) (pv (r_mb rfl) (?_))))))))
                                rcases Bool.eq_false_or_eq_true ((y8.1.Num == x1.Num) && (y8.1.Ptr.Obj == x1.Ptr.Obj) && (y8.1.Ptr.Lo == x1.Ptr.Lo) && (y8.1.Ptr.Hi == x1.Ptr.Hi) && (y8.1.Ptr.Off == x1.Ptr.Off) && (y8.1.Is == x1.Is)) with hb15 | hb15
                                · have hm := ctrue hb15 hm
                                  refine gT (d0 := 133) rfl rfl hb15 (pv (r_ldS rfl Try.isAgg26 Try.sizeOf26 rfl (hS32.cells0 (i := 0) ⟨rfl, rfl⟩ (o := 0) rfl) (cs := [.int .u32 y9.1.Num, .int .i64 y9.1.Ptr.Obj, .int .i64 y9.1.Ptr.Lo, .int .i64 y9.1.Ptr.Hi, .int .i64 y9.1.Ptr.Off, .bool y9.1.Is])) (gT (d0 := 133) rfl rfl hb15 (pv (r_ldS rfl Try.isAgg26 Try.sizeOf26 rfl (hS32.cells0 (i := 2) ⟨rfl, rfl⟩ (o := 0) rfl) (cs := [.int .u32 x2.Num, .int .i64 x2.Ptr.Obj, .int .i64 x2.Ptr.Lo, .int .i64 x2.Ptr.Hi, .int .i64 x2.Ptr.Off, .bool x2.Is])) (gT (d0 := 133) rfl rfl hb15 (pv (r_seqe rfl rfl (eq_26 y9.1.Num y9.1.Ptr.Obj y9.1.Ptr.Lo y9.1.Ptr.Hi y9.1.Ptr.Off y9.1.Is x2.Num x2.Ptr.Obj x2.Ptr.Lo x2.Ptr.Hi x2.Ptr.Off x2.Is)) (pv (r_pkt rfl hb15 rfl) (pv (r_zb rfl) (nil (t_thenR [(2, .bool ((y9.1.Num == x2.Num) && (y9.1.Ptr.Obj == x2.Ptr.Obj) && (y9.1.Ptr.Lo == x2.Ptr.Lo) && (y9.1.Ptr.Hi == x2.Ptr.Hi) && (y9.1.Ptr.Off == x2.Ptr.Off) && (y9.1.Is == x2.Is)))] ⟨rfl, trivial⟩ fun J => ?_)))))))))
                                  have hm := Option.some.inj hm
                                  subst hm
                                  exact rtn (ret1 rfl rfl ⟨_, rfl, _, (Im.trans im1 (Im.trans im2 (Im.trans im3 (Im.trans im4 (Im.trans im5 (Im.trans im6 (Im.trans im8 (Im.trans im9 (Im.trans im10 (Im.trans im11 (Im.trans im12 (Im.trans im13 (Im.trans im14 (Im.trans im15 (Im.trans im16 (Im.trans im17 (Im.trans im18 (Im.trans im19 (Im.trans im20 (Im.trans im21 (Im.trans im22 (Im.trans im23 (Im.trans im24 (Im.trans im25 (Im.trans im26 (Im.trans im29 im32)))))))))))))))))))))))))), ⟨rfl, hS32.sel [4] rfl, trivial⟩⟩)
                                · have hm := cfalse hb15 hm
                                  refine gF (d0 := 133) rfl rfl (by rw [hb15]; rfl) (gF (d0 := 133) rfl rfl (by rw [hb15]; rfl) (gF (d0 := 133) rfl rfl (by rw [hb15]; rfl) (pv (r_pkf rfl hb15 rfl) (pv (r_zb rfl) (nil (t_thenR [(2, .bool false)] ⟨rfl, trivial⟩ fun J => ?_))))))
                                  have hm := Option.some.inj hm
                                  subst hm
                                  exact rtn (ret1 rfl rfl ⟨_, rfl, _, (Im.trans im1 (Im.trans im2 (Im.trans im3 (Im.trans im4 (Im.trans im5 (Im.trans im6 (Im.trans im8 (Im.trans im9 (Im.trans im10 (Im.trans im11 (Im.trans im12 (Im.trans im13 (Im.trans im14 (Im.trans im15 (Im.trans im16 (Im.trans im17 (Im.trans im18 (Im.trans im19 (Im.trans im20 (Im.trans im21 (Im.trans im22 (Im.trans im23 (Im.trans im24 (Im.trans im25 (Im.trans im26 (Im.trans im29 im32)))))))))))))))))))))))))), ⟨rfl, hS32.sel [4] rfl, trivial⟩⟩)
                              · have hm := cfalse hb14 hm
                                refine gF (d0 := 128) rfl rfl (by rw [hb14]; rfl) (gF (d0 := 128) rfl rfl (by rw [hb14]; rfl) (gF (d0 := 128) rfl rfl (by rw [hb14]; rfl) (pv (r_pkf rfl hb14 rfl) (pv (r_mb rfl) (gF (d0 := 133) rfl rfl rfl (gF (d0 := 133) rfl rfl rfl (gF (d0 := 133) rfl rfl rfl (pv (r_pkf rfl rfl rfl) (pv (r_zb rfl) (nil (t_thenR [(2, .bool false)] ⟨rfl, trivial⟩ fun J => ?_)))))))))))
                                have hm := Option.some.inj hm
                                subst hm
                                exact rtn (ret1 rfl rfl ⟨_, rfl, _, (Im.trans im1 (Im.trans im2 (Im.trans im3 (Im.trans im4 (Im.trans im5 (Im.trans im6 (Im.trans im8 (Im.trans im9 (Im.trans im10 (Im.trans im11 (Im.trans im12 (Im.trans im13 (Im.trans im14 (Im.trans im15 (Im.trans im16 (Im.trans im17 (Im.trans im18 (Im.trans im19 (Im.trans im20 (Im.trans im21 (Im.trans im22 (Im.trans im23 (Im.trans im24 (Im.trans im25 (Im.trans im26 (Im.trans im29 im32)))))))))))))))))))))))))), ⟨rfl, hS32.sel [4] rfl, trivial⟩⟩)
  · refine ⟨st1 rfl (r_ldS rfl Try.isAgg26 Try.sizeOf26 rfl (hS3.cells0 (i := 1) ⟨rfl, rfl⟩ (o := 8) rfl) (cs := [.int .u32 p0.W.Num, .int .i64 p0.W.Ptr.Obj, .int .i64 p0.W.Ptr.Lo, .int .i64 p0.W.Ptr.Hi, .int .i64 p0.W.Ptr.Off, .bool p0.W.Is])) (st1 rfl (r_ldS rfl Try.isAgg26 Try.sizeOf26 rfl (hS3.cells0 (i := 1) ⟨rfl, rfl⟩ (o := 2) rfl) (cs := [.int .u32 p0.V.Num, .int .i64 p0.V.Ptr.Obj, .int .i64 p0.V.Ptr.Lo, .int .i64 p0.V.Ptr.Hi, .int .i64 p0.V.Ptr.Off, .bool p0.V.Is])) (st1 rfl (r_ld rfl Try.isAgg3 (hS3.cell0 (i := 1) ⟨rfl, rfl⟩ (j := 1) rfl)) (st1 rfl (r_ld rfl Try.isAgg3 (hS3.cell0 (i := 1) ⟨rfl, rfl⟩ (j := 0) rfl)) (st0)))), ?_⟩
    refine tw [8] rfl (wt_of rfl rfl trivial) rfl (by kernel_rfl) (by kernel_rfl) ⟨br [10, 11, 12, 13] [(7, .agg #[.int .u32 p0.W.Num, .int .i64 p0.W.Ptr.Obj, .int .i64 p0.W.Ptr.Lo, .int .i64 p0.W.Ptr.Hi, .int .i64 p0.W.Ptr.Off, .bool p0.W.Is]), (5, .agg #[.int .u32 p0.V.Num, .int .i64 p0.V.Ptr.Obj, .int .i64 p0.V.Ptr.Lo, .int .i64 p0.V.Ptr.Hi, .int .i64 p0.V.Ptr.Off, .bool p0.V.Is]), (3, .int .i64 p0.At), (1, .int .i64 p0.Size)] rfl (by kernel_rfl) (by kernel_rfl) trivial (by kernel_rfl) (alS (zs := [.int .u32 0, .int .i64 0, .int .i64 0, .int .i64 0, .int .i64 0, .bool false]) Try.zeroValue26 rfl hS3 fun w4 b3 im4 hS4 => ?_), trivial⟩
    refine ⟨st1 rfl (r_ldS rfl Try.isAgg26 Try.sizeOf26 rfl (hS4.cells0 (i := 2) ⟨rfl, rfl⟩ (o := 8) rfl) (cs := [.int .u32 p0.W.Num, .int .i64 p0.W.Ptr.Obj, .int .i64 p0.W.Ptr.Lo, .int .i64 p0.W.Ptr.Hi, .int .i64 p0.W.Ptr.Off, .bool p0.W.Is])) (st1 rfl (r_ldS rfl Try.isAgg26 Try.sizeOf26 rfl (hS4.cells0 (i := 2) ⟨rfl, rfl⟩ (o := 2) rfl) (cs := [.int .u32 p0.V.Num, .int .i64 p0.V.Ptr.Obj, .int .i64 p0.V.Ptr.Lo, .int .i64 p0.V.Ptr.Hi, .int .i64 p0.V.Ptr.Off, .bool p0.V.Is])) (st1 rfl (r_ld rfl Try.isAgg3 (hS4.cell0 (i := 2) ⟨rfl, rfl⟩ (j := 1) rfl)) (st1 rfl (r_ld rfl Try.isAgg3 (hS4.cell0 (i := 2) ⟨rfl, rfl⟩ (j := 0) rfl)) (st0)))), ?_⟩
    refine t0 rfl trivial (fun _ => r_zi rfl) rfl (t0 rfl trivial (fun _ => r_zi rfl) rfl (tw [12] rfl (wt_of rfl rfl trivial) rfl (by kernel_rfl) (by kernel_rfl) ⟨br [13] [(7, .agg #[.int .u32 p0.W.Num, .int .i64 p0.W.Ptr.Obj, .int .i64 p0.W.Ptr.Lo, .int .i64 p0.W.Ptr.Hi, .int .i64 p0.W.Ptr.Off, .bool p0.W.Is])] rfl (by kernel_rfl) (by kernel_rfl) trivial (by kernel_rfl) (st0B (q := 0) hS4 ⟨rfl, rfl⟩ rfl rfl rfl Try.sizeOf26 rfl rfl rfl fun w5 im5 hS5 => ?_), trivial⟩))
    have hS5 : Sep g T0 w5 [boxA b3 [.int .u32 p0.V.Num, .int .i64 p0.V.Ptr.Obj, .int .i64 p0.V.Ptr.Lo, .int .i64 p0.V.Ptr.Hi, .int .i64 p0.V.Ptr.Off, .bool p0.V.Is], boxA b2 [.int .u32 0, .int .i64 0, .int .i64 0, .int .i64 0, .int .i64 0, .bool false], boxA b1 [.int .i64 p0.Size, .int .i64 p0.At, .int .u32 p0.V.Num, .int .i64 p0.V.Ptr.Obj, .int .i64 p0.V.Ptr.Lo, .int .i64 p0.V.Ptr.Hi, .int .i64 p0.V.Ptr.Off, .bool p0.V.Is, .int .u32 p0.W.Num, .int .i64 p0.W.Ptr.Obj, .int .i64 p0.W.Ptr.Lo, .int .i64 p0.W.Ptr.Hi, .int .i64 p0.W.Ptr.Off, .bool p0.W.Is], R] := hS5
    refine ⟨st1 rfl (r_ldS rfl Try.isAgg26 Try.sizeOf26 rfl (hS5.cells0 (i := 2) ⟨rfl, rfl⟩ (o := 8) rfl) (cs := [.int .u32 p0.W.Num, .int .i64 p0.W.Ptr.Obj, .int .i64 p0.W.Ptr.Lo, .int .i64 p0.W.Ptr.Hi, .int .i64 p0.W.Ptr.Off, .bool p0.W.Is])) (st0), ?_⟩
    refine tw [13] rfl (wt_of rfl rfl trivial) rfl (by kernel_rfl) (by kernel_rfl) ⟨br [] [] rfl (by kernel_rfl) (by kernel_rfl) trivial (by kernel_rfl) (st0B (q := 1) hS5 ⟨rfl, rfl⟩ rfl rfl rfl Try.sizeOf26 rfl rfl rfl fun w6 im6 hS6 => ?_), trivial⟩
    have hS6 : Sep g T0 w6 [boxA b3 [.int .u32 p0.V.Num, .int .i64 p0.V.Ptr.Obj, .int .i64 p0.V.Ptr.Lo, .int .i64 p0.V.Ptr.Hi, .int .i64 p0.V.Ptr.Off, .bool p0.V.Is], boxA b2 [.int .u32 p0.W.Num, .int .i64 p0.W.Ptr.Obj, .int .i64 p0.W.Ptr.Lo, .int .i64 p0.W.Ptr.Hi, .int .i64 p0.W.Ptr.Off, .bool p0.W.Is], boxA b1 [.int .i64 p0.Size, .int .i64 p0.At, .int .u32 p0.V.Num, .int .i64 p0.V.Ptr.Obj, .int .i64 p0.V.Ptr.Lo, .int .i64 p0.V.Ptr.Hi, .int .i64 p0.V.Ptr.Off, .bool p0.V.Is, .int .u32 p0.W.Num, .int .i64 p0.W.Ptr.Obj, .int .i64 p0.W.Ptr.Lo, .int .i64 p0.W.Ptr.Hi, .int .i64 p0.W.Ptr.Off, .bool p0.W.Is], R] := hS6
    refine ⟨st0, ?_⟩
    refine te (t_thenR [(3, .int .i64 p0.Size), (4, .int .i64 p0.At), (5, .pointer (some ⟨b3, 0, none⟩)), (6, .pointer (some ⟨b2, 0, none⟩))] ⟨rfl, rfl, rfl, rfl, trivial⟩ fun J => ?_)
    refine sq2 ?_
    refine sq2 ?_
    refine rg (pv (r_mi rfl) (pv (r_ib rfl rfl rfl) (pv (r_mb rfl) (?_))))
    rcases Bool.eq_false_or_eq_true (decide (p0.Size < 8)) with hb1 | hb1
    · have hm := ctrue hb1 hm
      refine gF (d0 := 30) rfl rfl (by rw [hb1]; rfl) (gF (d0 := 30) rfl rfl (by rw [hb1]; rfl) (pv (r_pkt rfl hb1 rfl) (pv (r_mb rfl) (gF (d0 := 34) rfl rfl rfl (gF (d0 := 34) rfl rfl rfl (pv (r_pkt rfl rfl rfl) (pv (r_mb rfl) (gF (d0 := 38) rfl rfl rfl (gF (d0 := 38) rfl rfl rfl (gF (d0 := 38) rfl rfl rfl (gF (d0 := 38) rfl rfl rfl (pv (r_pkt rfl rfl rfl) (nil (t_thenR [(3, .int .i64 p0.Size), (4, .int .i64 p0.At), (5, .pointer (some ⟨b3, 0, none⟩)), (6, .pointer (some ⟨b2, 0, none⟩)), (43, .bool true)] ⟨rfl, rfl, rfl, rfl, rfl, trivial⟩ fun J => ?_))))))))))))))
      refine cnd (b := true) rfl (fun _ => ?_) (fun h => nomatch h)
      refine sq2 ?_
      obtain ⟨y13, hx13, hm⟩ := bindS hm
      refine rg (wl rfl (calS cf6 rfl (law11_awake_sim  (hS6.bun [3] [] rfl)  hx13) rfl fun v13 T15 w35 im35 rv13 => ?_))
      obtain ⟨rfl, hS35, _⟩ := rv13
      have hS35 : Sep g T15 w35 [R] := hS35.unb
      refine pv (r_zb rfl) (nil (t_thenR [(2, .bool y13)] ⟨rfl, trivial⟩ fun J => ?_))
      have hm := Option.some.inj hm
      subst hm
      exact rtn (r_then (ret1 rfl rfl ⟨_, rfl, _, (Im.trans im1 (Im.trans im2 (Im.trans im3 (Im.trans im4 (Im.trans im5 (Im.trans im6 im35)))))), ⟨rfl, hS35.sel [0] rfl, trivial⟩⟩))
    · have hm := cfalse hb1 hm
      refine gT (d0 := 30) rfl rfl hb1 (pv (r_mi rfl) (gT (d0 := 30) rfl rfl hb1 (pv (r_ib rfl rfl rfl) (pv (r_pkf rfl hb1 rfl) (pv (r_mb rfl) (?_))))))
      rcases Bool.eq_false_or_eq_true (decide (300 < p0.Size)) with hb2 | hb2
      · have hm := ctrue hb2 hm
        refine gF (d0 := 34) rfl rfl (by rw [hb2]; rfl) (gF (d0 := 34) rfl rfl (by rw [hb2]; rfl) (pv (r_pkt rfl hb2 rfl) (pv (r_mb rfl) (gF (d0 := 38) rfl rfl rfl (gF (d0 := 38) rfl rfl rfl (gF (d0 := 38) rfl rfl rfl (gF (d0 := 38) rfl rfl rfl (pv (r_pkt rfl rfl rfl) (nil (t_thenR [(3, .int .i64 p0.Size), (4, .int .i64 p0.At), (5, .pointer (some ⟨b3, 0, none⟩)), (6, .pointer (some ⟨b2, 0, none⟩)), (43, .bool true)] ⟨rfl, rfl, rfl, rfl, rfl, trivial⟩ fun J => ?_))))))))))
        refine cnd (b := true) rfl (fun _ => ?_) (fun h => nomatch h)
        refine sq2 ?_
        obtain ⟨y12, hx12, hm⟩ := bindS hm
        refine rg (wl rfl (calS cf6 rfl (law11_awake_sim  (hS6.bun [3] [] rfl)  hx12) rfl fun v12 T14 w34 im34 rv12 => ?_))
        obtain ⟨rfl, hS34, _⟩ := rv12
        have hS34 : Sep g T14 w34 [R] := hS34.unb
        refine pv (r_zb rfl) (nil (t_thenR [(2, .bool y12)] ⟨rfl, trivial⟩ fun J => ?_))
        have hm := Option.some.inj hm
        subst hm
        exact rtn (r_then (ret1 rfl rfl ⟨_, rfl, _, (Im.trans im1 (Im.trans im2 (Im.trans im3 (Im.trans im4 (Im.trans im5 (Im.trans im6 im34)))))), ⟨rfl, hS34.sel [0] rfl, trivial⟩⟩))
      · have hm := cfalse hb2 hm
        refine gT (d0 := 34) rfl rfl hb2 (pv (r_mi rfl) (gT (d0 := 34) rfl rfl hb2 (pv (r_ib rfl rfl rfl) (pv (r_pkf rfl hb2 rfl) (pv (r_mb rfl) (?_))))))
        rcases Bool.eq_false_or_eq_true (decide (p0.At < 0)) with hb3 | hb3
        · have hm := ctrue hb3 hm
          refine gF (d0 := 38) rfl rfl (by rw [hb3]; rfl) (gF (d0 := 38) rfl rfl (by rw [hb3]; rfl) (gF (d0 := 38) rfl rfl (by rw [hb3]; rfl) (gF (d0 := 38) rfl rfl (by rw [hb3]; rfl) (pv (r_pkt rfl hb3 rfl) (nil (t_thenR [(3, .int .i64 p0.Size), (4, .int .i64 p0.At), (5, .pointer (some ⟨b3, 0, none⟩)), (6, .pointer (some ⟨b2, 0, none⟩)), (43, .bool true)] ⟨rfl, rfl, rfl, rfl, rfl, trivial⟩ fun J => ?_))))))
          refine cnd (b := true) rfl (fun _ => ?_) (fun h => nomatch h)
          refine sq2 ?_
          obtain ⟨y11, hx11, hm⟩ := bindS hm
          refine rg (wl rfl (calS cf6 rfl (law11_awake_sim  (hS6.bun [3] [] rfl)  hx11) rfl fun v11 T13 w33 im33 rv11 => ?_))
          obtain ⟨rfl, hS33, _⟩ := rv11
          have hS33 : Sep g T13 w33 [R] := hS33.unb
          refine pv (r_zb rfl) (nil (t_thenR [(2, .bool y11)] ⟨rfl, trivial⟩ fun J => ?_))
          have hm := Option.some.inj hm
          subst hm
          exact rtn (r_then (ret1 rfl rfl ⟨_, rfl, _, (Im.trans im1 (Im.trans im2 (Im.trans im3 (Im.trans im4 (Im.trans im5 (Im.trans im6 im33)))))), ⟨rfl, hS33.sel [0] rfl, trivial⟩⟩))
        · have hm := cfalse hb3 hm
          refine gT (d0 := 38) rfl rfl hb3 (pv (r_mi rfl) (gT (d0 := 38) rfl rfl hb3 (pv (r_mi rfl) (gT (d0 := 38) rfl rfl hb3 (pv (r_ib rfl rfl rfl) (gT (d0 := 38) rfl rfl hb3 (pv (r_ib rfl rfl rfl) (pv (r_pkf rfl hb3 rfl) (nil (t_thenR [(3, .int .i64 p0.Size), (4, .int .i64 p0.At), (5, .pointer (some ⟨b3, 0, none⟩)), (6, .pointer (some ⟨b2, 0, none⟩)), (43, .bool (decide ((IntKind.wrap .i64 (p0.Size - 8)) < p0.At)))] ⟨rfl, rfl, rfl, rfl, rfl, trivial⟩ fun J => ?_))))))))))
          refine cnd rfl (fun hb4 => ?_) (fun hb4 => ?_)
          · have hm := ctrue hb4 hm
            refine sq2 ?_
            obtain ⟨y1, hx1, hm⟩ := bindS hm
            refine rg (wl rfl (calS cf6 rfl (law11_awake_sim  (hS6.bun [3] [] rfl)  hx1) rfl fun v1 T1 w7 im7 rv1 => ?_))
            obtain ⟨rfl, hS7, _⟩ := rv1
            have hS7 : Sep g T1 w7 [R] := hS7.unb
            refine pv (r_zb rfl) (nil (t_thenR [(2, .bool y1)] ⟨rfl, trivial⟩ fun J => ?_))
            have hm := Option.some.inj hm
            subst hm
            exact rtn (r_then (ret1 rfl rfl ⟨_, rfl, _, (Im.trans im1 (Im.trans im2 (Im.trans im3 (Im.trans im4 (Im.trans im5 (Im.trans im6 im7)))))), ⟨rfl, hS7.sel [0] rfl, trivial⟩⟩))
          · have hm := cfalse hb4 hm
            refine skp (t_then ?_)
            refine sq2 ?_
            obtain ⟨y2, hx2, hm⟩ := bindS hm
            refine rg (wl rfl (calS cf7 rfl (store_New_sim  (hS6.bun [0, 1, 3] [] rfl)  hx2) rfl fun v2 T2 w8 im8 rv2 => ?_))
            obtain ⟨b4, a1, n1, c1, rfl, hS8, _⟩ := rv2
            have hS8 : Sep g T2 w8 [boxA b3 [.int .u32 p0.V.Num, .int .i64 p0.V.Ptr.Obj, .int .i64 p0.V.Ptr.Lo, .int .i64 p0.V.Ptr.Hi, .int .i64 p0.V.Ptr.Off, .bool p0.V.Is], boxA b2 [.int .u32 p0.W.Num, .int .i64 p0.W.Ptr.Obj, .int .i64 p0.W.Ptr.Lo, .int .i64 p0.W.Ptr.Hi, .int .i64 p0.W.Ptr.Off, .bool p0.W.Is], R, boxA b4 [.slice a1 n1 c1], nestA nEStoreObject 59 (.slice a1 n1 c1) y2.list] := hS8.unb
            refine pv (r_zp rfl) (nil (t_then ?_))
            refine sq2 ?_
            obtain ⟨y3, hx3, hm⟩ := bindS hm
            refine rg (pv (r_mp rfl) (pv (r_mi rfl) (wl rfl (calS cf8 rfl (store_Store_Make_sim (p0 := y2) (H_p0 := boxA b4) (p1 := p0.Size) (hS8.bun [0, 1, 2] [3, 4] rfl) (lnBox b4) hx3) rfl fun v3 T3 w9 im9 rv3 => ?_))))
            obtain ⟨a2, n2, c2, rfl, hS9, _⟩ := rv3
            have hS9 : Sep g T3 w9 [boxA b3 [.int .u32 p0.V.Num, .int .i64 p0.V.Ptr.Obj, .int .i64 p0.V.Ptr.Lo, .int .i64 p0.V.Ptr.Hi, .int .i64 p0.V.Ptr.Off, .bool p0.V.Is], boxA b2 [.int .u32 p0.W.Num, .int .i64 p0.W.Ptr.Obj, .int .i64 p0.W.Ptr.Lo, .int .i64 p0.W.Ptr.Hi, .int .i64 p0.W.Ptr.Off, .bool p0.W.Is], R, boxA b4 [.slice a2 n2 c2], nestA nEStoreObject 59 (.slice a2 n2 c2) y3.2.2.list] := hS9.unb
            refine pv (r_mv rfl) (pv (r_ex (v := .agg #[.int .i64 y3.1.Obj, .int .i64 y3.1.Lo, .int .i64 y3.1.Hi, .int .i64 y3.1.Off]) rfl rfl) (pv (r_ex (v := .int .i64 y3.2.1) rfl rfl) (wl rfl (alS (zs := [.int .i64 0, .int .i64 0, .int .i64 0, .int .i64 0]) Try.zeroValue24 rfl hS9 fun w10 b5 im10 hS10 => ?_))))
            refine wl rfl (st0B (q := 0) hS10 ⟨rfl, rfl⟩ rfl rfl rfl Try.sizeOf24 rfl rfl rfl fun w11 im11 hS11 => ?_)
            have hS11 : Sep g T3 w11 [boxA b5 [.int .i64 y3.1.Obj, .int .i64 y3.1.Lo, .int .i64 y3.1.Hi, .int .i64 y3.1.Off], boxA b3 [.int .u32 p0.V.Num, .int .i64 p0.V.Ptr.Obj, .int .i64 p0.V.Ptr.Lo, .int .i64 p0.V.Ptr.Hi, .int .i64 p0.V.Ptr.Off, .bool p0.V.Is], boxA b2 [.int .u32 p0.W.Num, .int .i64 p0.W.Ptr.Obj, .int .i64 p0.W.Ptr.Lo, .int .i64 p0.W.Ptr.Hi, .int .i64 p0.W.Ptr.Off, .bool p0.W.Is], R, boxA b4 [.slice a2 n2 c2], nestA nEStoreObject 59 (.slice a2 n2 c2) y3.2.2.list] := hS11
            refine pv (r_zi rfl) (nil (t_thenR [(4, .int .i64 p0.At), (5, .pointer (some ⟨b3, 0, none⟩)), (6, .pointer (some ⟨b2, 0, none⟩)), (7, .pointer (some ⟨b4, 0, none⟩)), (8, .pointer (some ⟨b5, 0, none⟩)), (9, .int .i64 y3.2.1)] ⟨rfl, rfl, rfl, rfl, rfl, rfl, trivial⟩ fun J => ?_))
            refine sq2 ?_
            obtain ⟨y4, hx4, hm⟩ := bindS hm
            refine rg (pv (r_mp rfl) (pv (r_ldS rfl Try.isAgg24 Try.sizeOf24 rfl (hS11.cells0 (i := 0) ⟨rfl, rfl⟩ (o := 0) rfl) (cs := [.int .i64 y3.1.Obj, .int .i64 y3.1.Lo, .int .i64 y3.1.Hi, .int .i64 y3.1.Off])) (pv (r_mi rfl) (wl rfl (calS cf9 rfl (store_Store_Move_sim (p0 := y3.2.2) (H_p0 := boxA b4) (p1 := y3.1) (p2 := p0.At) (hS11.bun [0, 1, 2, 3] [4, 5] rfl) (lnBox b4) hx4) rfl fun v4 T4 w12 im12 rv4 => ?_)))))
            obtain ⟨rfl, hS12, _⟩ := rv4
            have hS12 : Sep g T4 w12 [boxA b5 [.int .i64 y3.1.Obj, .int .i64 y3.1.Lo, .int .i64 y3.1.Hi, .int .i64 y3.1.Off], boxA b3 [.int .u32 p0.V.Num, .int .i64 p0.V.Ptr.Obj, .int .i64 p0.V.Ptr.Lo, .int .i64 p0.V.Ptr.Hi, .int .i64 p0.V.Ptr.Off, .bool p0.V.Is], boxA b2 [.int .u32 p0.W.Num, .int .i64 p0.W.Ptr.Obj, .int .i64 p0.W.Ptr.Lo, .int .i64 p0.W.Ptr.Hi, .int .i64 p0.W.Ptr.Off, .bool p0.W.Is], R, boxA b4 [.slice a2 n2 c2], nestA nEStoreObject 59 (.slice a2 n2 c2) y3.2.2.list] := hS12.unb
            refine pv (r_mv rfl) (pv (r_ex (v := .agg #[.int .i64 y4.1.Obj, .int .i64 y4.1.Lo, .int .i64 y4.1.Hi, .int .i64 y4.1.Off]) rfl rfl) (pv (r_ex (v := .int .i64 y4.2) rfl rfl) (wl rfl (alS (zs := [.int .i64 0, .int .i64 0, .int .i64 0, .int .i64 0]) Try.zeroValue24 rfl hS12 fun w13 b6 im13 hS13 => ?_))))
            refine wl rfl (st0B (q := 0) hS13 ⟨rfl, rfl⟩ rfl rfl rfl Try.sizeOf24 rfl rfl rfl fun w14 im14 hS14 => ?_)
            have hS14 : Sep g T4 w14 [boxA b6 [.int .i64 y4.1.Obj, .int .i64 y4.1.Lo, .int .i64 y4.1.Hi, .int .i64 y4.1.Off], boxA b5 [.int .i64 y3.1.Obj, .int .i64 y3.1.Lo, .int .i64 y3.1.Hi, .int .i64 y3.1.Off], boxA b3 [.int .u32 p0.V.Num, .int .i64 p0.V.Ptr.Obj, .int .i64 p0.V.Ptr.Lo, .int .i64 p0.V.Ptr.Hi, .int .i64 p0.V.Ptr.Off, .bool p0.V.Is], boxA b2 [.int .u32 p0.W.Num, .int .i64 p0.W.Ptr.Obj, .int .i64 p0.W.Ptr.Lo, .int .i64 p0.W.Ptr.Hi, .int .i64 p0.W.Ptr.Off, .bool p0.W.Is], R, boxA b4 [.slice a2 n2 c2], nestA nEStoreObject 59 (.slice a2 n2 c2) y3.2.2.list] := hS14
            refine pv (r_zi rfl) (nil (t_thenR [(4, .int .i64 p0.At), (5, .pointer (some ⟨b3, 0, none⟩)), (6, .pointer (some ⟨b2, 0, none⟩)), (7, .pointer (some ⟨b4, 0, none⟩)), (8, .pointer (some ⟨b5, 0, none⟩)), (9, .int .i64 y3.2.1), (10, .pointer (some ⟨b6, 0, none⟩)), (11, .int .i64 y4.2)] ⟨rfl, rfl, rfl, rfl, rfl, rfl, rfl, rfl, trivial⟩ fun J => ?_))
            refine sq2 ?_
            obtain ⟨y5, hx5, hm⟩ := bindS hm
            refine rg (pv (r_mp rfl) (pv (r_ldS rfl Try.isAgg24 Try.sizeOf24 rfl (hS14.cells0 (i := 1) ⟨rfl, rfl⟩ (o := 0) rfl) (cs := [.int .i64 y3.1.Obj, .int .i64 y3.1.Lo, .int .i64 y3.1.Hi, .int .i64 y3.1.Off])) (pv (r_mi rfl) (pv (r_ib rfl rfl rfl) (wl rfl (calS cf9 rfl (store_Store_Move_sim (p0 := y3.2.2) (H_p0 := boxA b4) (p1 := y3.1) (p2 := IntKind.wrap .i64 (p0.At + 4)) (hS14.bun [0, 2, 3, 4] [5, 6] rfl) (lnBox b4) hx5) rfl fun v5 T5 w15 im15 rv5 => ?_))))))
            obtain ⟨rfl, hS15, _⟩ := rv5
            have hS15 : Sep g T5 w15 [boxA b6 [.int .i64 y4.1.Obj, .int .i64 y4.1.Lo, .int .i64 y4.1.Hi, .int .i64 y4.1.Off], boxA b3 [.int .u32 p0.V.Num, .int .i64 p0.V.Ptr.Obj, .int .i64 p0.V.Ptr.Lo, .int .i64 p0.V.Ptr.Hi, .int .i64 p0.V.Ptr.Off, .bool p0.V.Is], boxA b2 [.int .u32 p0.W.Num, .int .i64 p0.W.Ptr.Obj, .int .i64 p0.W.Ptr.Lo, .int .i64 p0.W.Ptr.Hi, .int .i64 p0.W.Ptr.Off, .bool p0.W.Is], R, boxA b4 [.slice a2 n2 c2], nestA nEStoreObject 59 (.slice a2 n2 c2) y3.2.2.list] := hS15.unb
            refine pv (r_mv rfl) (pv (r_ex (v := .agg #[.int .i64 y5.1.Obj, .int .i64 y5.1.Lo, .int .i64 y5.1.Hi, .int .i64 y5.1.Off]) rfl rfl) (pv (r_ex (v := .int .i64 y5.2) rfl rfl) (wl rfl (alS (zs := [.int .i64 0, .int .i64 0, .int .i64 0, .int .i64 0]) Try.zeroValue24 rfl hS15 fun w16 b7 im16 hS16 => ?_))))
            refine wl rfl (st0B (q := 0) hS16 ⟨rfl, rfl⟩ rfl rfl rfl Try.sizeOf24 rfl rfl rfl fun w17 im17 hS17 => ?_)
            have hS17 : Sep g T5 w17 [boxA b7 [.int .i64 y5.1.Obj, .int .i64 y5.1.Lo, .int .i64 y5.1.Hi, .int .i64 y5.1.Off], boxA b6 [.int .i64 y4.1.Obj, .int .i64 y4.1.Lo, .int .i64 y4.1.Hi, .int .i64 y4.1.Off], boxA b3 [.int .u32 p0.V.Num, .int .i64 p0.V.Ptr.Obj, .int .i64 p0.V.Ptr.Lo, .int .i64 p0.V.Ptr.Hi, .int .i64 p0.V.Ptr.Off, .bool p0.V.Is], boxA b2 [.int .u32 p0.W.Num, .int .i64 p0.W.Ptr.Obj, .int .i64 p0.W.Ptr.Lo, .int .i64 p0.W.Ptr.Hi, .int .i64 p0.W.Ptr.Off, .bool p0.W.Is], R, boxA b4 [.slice a2 n2 c2], nestA nEStoreObject 59 (.slice a2 n2 c2) y3.2.2.list] := hS17
            refine pv (r_zi rfl) (nil (t_thenR [(5, .pointer (some ⟨b3, 0, none⟩)), (6, .pointer (some ⟨b2, 0, none⟩)), (7, .pointer (some ⟨b4, 0, none⟩)), (9, .int .i64 y3.2.1), (10, .pointer (some ⟨b6, 0, none⟩)), (11, .int .i64 y4.2), (12, .pointer (some ⟨b7, 0, none⟩)), (13, .int .i64 y5.2)] ⟨rfl, rfl, rfl, rfl, rfl, rfl, rfl, rfl, trivial⟩ fun J => ?_))
            refine sq2 ?_
            obtain ⟨y6, hx6, hm⟩ := bindS hm
            refine rg (pv (r_mp rfl) (pv (r_ldS rfl Try.isAgg24 Try.sizeOf24 rfl (hS17.cells0 (i := 1) ⟨rfl, rfl⟩ (o := 0) rfl) (cs := [.int .i64 y4.1.Obj, .int .i64 y4.1.Lo, .int .i64 y4.1.Hi, .int .i64 y4.1.Off])) (pv (r_ldS rfl Try.isAgg26 Try.sizeOf26 rfl (hS17.cells0 (i := 2) ⟨rfl, rfl⟩ (o := 0) rfl) (cs := [.int .u32 p0.V.Num, .int .i64 p0.V.Ptr.Obj, .int .i64 p0.V.Ptr.Lo, .int .i64 p0.V.Ptr.Hi, .int .i64 p0.V.Ptr.Off, .bool p0.V.Is])) (wl rfl (calS cf10 rfl (store_Store_Put_sim (p0 := y3.2.2) (H_p0 := boxA b4) (p1 := y4.1) (p2 := 4) (p3 := p0.V) (hS17.bun [0, 1, 2, 3, 4] [5, 6] rfl) (lnBox b4) hx6) rfl fun v6 T6 w18 im18 rv6 => ?_)))))
            obtain ⟨a3, n3, c3, rfl, hS18, _⟩ := rv6
            have hS18 : Sep g T6 w18 [boxA b7 [.int .i64 y5.1.Obj, .int .i64 y5.1.Lo, .int .i64 y5.1.Hi, .int .i64 y5.1.Off], boxA b6 [.int .i64 y4.1.Obj, .int .i64 y4.1.Lo, .int .i64 y4.1.Hi, .int .i64 y4.1.Off], boxA b3 [.int .u32 p0.V.Num, .int .i64 p0.V.Ptr.Obj, .int .i64 p0.V.Ptr.Lo, .int .i64 p0.V.Ptr.Hi, .int .i64 p0.V.Ptr.Off, .bool p0.V.Is], boxA b2 [.int .u32 p0.W.Num, .int .i64 p0.W.Ptr.Obj, .int .i64 p0.W.Ptr.Lo, .int .i64 p0.W.Ptr.Hi, .int .i64 p0.W.Ptr.Off, .bool p0.W.Is], R, boxA b4 [.slice a3 n3 c3], nestA nEStoreObject 59 (.slice a3 n3 c3) y6.2.list] := hS18.unb
            refine pv (r_zi rfl) (nil (t_then ?_))
            refine sq2 ?_
            obtain ⟨y7, hx7, hm⟩ := bindS hm
            refine rg (pv (r_mp rfl) (pv (r_ldS rfl Try.isAgg24 Try.sizeOf24 rfl (hS18.cells0 (i := 0) ⟨rfl, rfl⟩ (o := 0) rfl) (cs := [.int .i64 y5.1.Obj, .int .i64 y5.1.Lo, .int .i64 y5.1.Hi, .int .i64 y5.1.Off])) (pv (r_ldS rfl Try.isAgg26 Try.sizeOf26 rfl (hS18.cells0 (i := 3) ⟨rfl, rfl⟩ (o := 0) rfl) (cs := [.int .u32 p0.W.Num, .int .i64 p0.W.Ptr.Obj, .int .i64 p0.W.Ptr.Lo, .int .i64 p0.W.Ptr.Hi, .int .i64 p0.W.Ptr.Off, .bool p0.W.Is])) (wl rfl (calS cf10 rfl (store_Store_Put_sim (p0 := y6.2) (H_p0 := boxA b4) (p1 := y5.1) (p2 := 4) (p3 := p0.W) (hS18.bun [0, 1, 2, 3, 4] [5, 6] rfl) (lnBox b4) hx7) rfl fun v7 T7 w19 im19 rv7 => ?_)))))
            obtain ⟨a4, n4, c4, rfl, hS19, _⟩ := rv7
            have hS19 : Sep g T7 w19 [boxA b7 [.int .i64 y5.1.Obj, .int .i64 y5.1.Lo, .int .i64 y5.1.Hi, .int .i64 y5.1.Off], boxA b6 [.int .i64 y4.1.Obj, .int .i64 y4.1.Lo, .int .i64 y4.1.Hi, .int .i64 y4.1.Off], boxA b3 [.int .u32 p0.V.Num, .int .i64 p0.V.Ptr.Obj, .int .i64 p0.V.Ptr.Lo, .int .i64 p0.V.Ptr.Hi, .int .i64 p0.V.Ptr.Off, .bool p0.V.Is], boxA b2 [.int .u32 p0.W.Num, .int .i64 p0.W.Ptr.Obj, .int .i64 p0.W.Ptr.Lo, .int .i64 p0.W.Ptr.Hi, .int .i64 p0.W.Ptr.Off, .bool p0.W.Is], R, boxA b4 [.slice a4 n4 c4], nestA nEStoreObject 59 (.slice a4 n4 c4) y7.2.list] := hS19.unb
            refine pv (r_zi rfl) (nil (t_thenR [(5, .pointer (some ⟨b3, 0, none⟩)), (6, .pointer (some ⟨b2, 0, none⟩)), (7, .pointer (some ⟨b4, 0, none⟩)), (9, .int .i64 y3.2.1), (10, .pointer (some ⟨b6, 0, none⟩)), (11, .int .i64 y4.2), (12, .pointer (some ⟨b7, 0, none⟩)), (13, .int .i64 y5.2), (14, .int .i64 y6.1), (15, .int .i64 y7.1)] ⟨rfl, rfl, rfl, rfl, rfl, rfl, rfl, rfl, rfl, rfl, trivial⟩ fun J => ?_))
            refine sq2 ?_
            obtain ⟨y8, hx8, hm⟩ := bindS hm
            refine rg (pv (r_mp rfl) (pv (r_ldS rfl Try.isAgg24 Try.sizeOf24 rfl (hS19.cells0 (i := 1) ⟨rfl, rfl⟩ (o := 0) rfl) (cs := [.int .i64 y4.1.Obj, .int .i64 y4.1.Lo, .int .i64 y4.1.Hi, .int .i64 y4.1.Off])) (pv (r_fa rfl Try.underlying26 rfl Try.sizeOf4 rfl) (pv (r_ld rfl Try.isAgg4 (hS19.cell0 (i := 2) ⟨rfl, rfl⟩ (j := 5) rfl)) (wl rfl (calS cf11 rfl (store_Store_Load_sim (p0 := y7.2) (H_p0 := boxA b4) (p1 := y4.1) (p2 := 4) (p3 := p0.V.Is) (hS19.bun [0, 2, 3, 4] [5, 6] rfl) (lnBox b4) hx8) rfl fun v8 T8 w20 im20 rv8 => ?_))))))
            obtain ⟨rfl, hS20, _⟩ := rv8
            have hS20 : Sep g T8 w20 [boxA b7 [.int .i64 y5.1.Obj, .int .i64 y5.1.Lo, .int .i64 y5.1.Hi, .int .i64 y5.1.Off], boxA b3 [.int .u32 p0.V.Num, .int .i64 p0.V.Ptr.Obj, .int .i64 p0.V.Ptr.Lo, .int .i64 p0.V.Ptr.Hi, .int .i64 p0.V.Ptr.Off, .bool p0.V.Is], boxA b2 [.int .u32 p0.W.Num, .int .i64 p0.W.Ptr.Obj, .int .i64 p0.W.Ptr.Lo, .int .i64 p0.W.Ptr.Hi, .int .i64 p0.W.Ptr.Off, .bool p0.W.Is], R, boxA b4 [.slice a4 n4 c4], nestA nEStoreObject 59 (.slice a4 n4 c4) y7.2.list] := hS20.unb
            refine pv (r_mv rfl) (pv (r_ex (v := .agg #[.int .u32 y8.1.Num, .int .i64 y8.1.Ptr.Obj, .int .i64 y8.1.Ptr.Lo, .int .i64 y8.1.Ptr.Hi, .int .i64 y8.1.Ptr.Off, .bool y8.1.Is]) rfl rfl) (pv (r_ex (v := .int .i64 y8.2) rfl rfl) (wl rfl (alS (zs := [.int .u32 0, .int .i64 0, .int .i64 0, .int .i64 0, .int .i64 0, .bool false]) Try.zeroValue26 rfl hS20 fun w21 b8 im21 hS21 => ?_))))
            refine wl rfl (st0B (q := 0) hS21 ⟨rfl, rfl⟩ rfl rfl rfl Try.sizeOf26 rfl rfl rfl fun w22 im22 hS22 => ?_)
            have hS22 : Sep g T8 w22 [boxA b8 [.int .u32 y8.1.Num, .int .i64 y8.1.Ptr.Obj, .int .i64 y8.1.Ptr.Lo, .int .i64 y8.1.Ptr.Hi, .int .i64 y8.1.Ptr.Off, .bool y8.1.Is], boxA b7 [.int .i64 y5.1.Obj, .int .i64 y5.1.Lo, .int .i64 y5.1.Hi, .int .i64 y5.1.Off], boxA b3 [.int .u32 p0.V.Num, .int .i64 p0.V.Ptr.Obj, .int .i64 p0.V.Ptr.Lo, .int .i64 p0.V.Ptr.Hi, .int .i64 p0.V.Ptr.Off, .bool p0.V.Is], boxA b2 [.int .u32 p0.W.Num, .int .i64 p0.W.Ptr.Obj, .int .i64 p0.W.Ptr.Lo, .int .i64 p0.W.Ptr.Hi, .int .i64 p0.W.Ptr.Off, .bool p0.W.Is], R, boxA b4 [.slice a4 n4 c4], nestA nEStoreObject 59 (.slice a4 n4 c4) y7.2.list] := hS22
            refine pv (r_zi rfl) (nil (t_thenR [(5, .pointer (some ⟨b3, 0, none⟩)), (6, .pointer (some ⟨b2, 0, none⟩)), (7, .pointer (some ⟨b4, 0, none⟩)), (9, .int .i64 y3.2.1), (11, .int .i64 y4.2), (12, .pointer (some ⟨b7, 0, none⟩)), (13, .int .i64 y5.2), (14, .int .i64 y6.1), (15, .int .i64 y7.1), (16, .pointer (some ⟨b8, 0, none⟩)), (17, .int .i64 y8.2)] ⟨rfl, rfl, rfl, rfl, rfl, rfl, rfl, rfl, rfl, rfl, rfl, trivial⟩ fun J => ?_))
            refine sq2 ?_
            obtain ⟨y9, hx9, hm⟩ := bindS hm
            refine rg (pv (r_mp rfl) (pv (r_ldS rfl Try.isAgg24 Try.sizeOf24 rfl (hS22.cells0 (i := 1) ⟨rfl, rfl⟩ (o := 0) rfl) (cs := [.int .i64 y5.1.Obj, .int .i64 y5.1.Lo, .int .i64 y5.1.Hi, .int .i64 y5.1.Off])) (pv (r_fa rfl Try.underlying26 rfl Try.sizeOf4 rfl) (pv (r_ld rfl Try.isAgg4 (hS22.cell0 (i := 3) ⟨rfl, rfl⟩ (j := 5) rfl)) (wl rfl (calS cf11 rfl (store_Store_Load_sim (p0 := y7.2) (H_p0 := boxA b4) (p1 := y5.1) (p2 := 4) (p3 := p0.W.Is) (hS22.bun [0, 2, 3, 4] [5, 6] rfl) (lnBox b4) hx9) rfl fun v9 T9 w23 im23 rv9 => ?_))))))
            obtain ⟨rfl, hS23, _⟩ := rv9
            have hS23 : Sep g T9 w23 [boxA b8 [.int .u32 y8.1.Num, .int .i64 y8.1.Ptr.Obj, .int .i64 y8.1.Ptr.Lo, .int .i64 y8.1.Ptr.Hi, .int .i64 y8.1.Ptr.Off, .bool y8.1.Is], boxA b3 [.int .u32 p0.V.Num, .int .i64 p0.V.Ptr.Obj, .int .i64 p0.V.Ptr.Lo, .int .i64 p0.V.Ptr.Hi, .int .i64 p0.V.Ptr.Off, .bool p0.V.Is], boxA b2 [.int .u32 p0.W.Num, .int .i64 p0.W.Ptr.Obj, .int .i64 p0.W.Ptr.Lo, .int .i64 p0.W.Ptr.Hi, .int .i64 p0.W.Ptr.Off, .bool p0.W.Is], R, boxA b4 [.slice a4 n4 c4], nestA nEStoreObject 59 (.slice a4 n4 c4) y7.2.list] := hS23.unb
            refine pv (r_mv rfl) (pv (r_ex (v := .agg #[.int .u32 y9.1.Num, .int .i64 y9.1.Ptr.Obj, .int .i64 y9.1.Ptr.Lo, .int .i64 y9.1.Ptr.Hi, .int .i64 y9.1.Ptr.Off, .bool y9.1.Is]) rfl rfl) (pv (r_ex (v := .int .i64 y9.2) rfl rfl) (wl rfl (alS (zs := [.int .u32 0, .int .i64 0, .int .i64 0, .int .i64 0, .int .i64 0, .bool false]) Try.zeroValue26 rfl hS23 fun w24 b9 im24 hS24 => ?_))))
            refine wl rfl (st0B (q := 0) hS24 ⟨rfl, rfl⟩ rfl rfl rfl Try.sizeOf26 rfl rfl rfl fun w25 im25 hS25 => ?_)
            have hS25 : Sep g T9 w25 [boxA b9 [.int .u32 y9.1.Num, .int .i64 y9.1.Ptr.Obj, .int .i64 y9.1.Ptr.Lo, .int .i64 y9.1.Ptr.Hi, .int .i64 y9.1.Ptr.Off, .bool y9.1.Is], boxA b8 [.int .u32 y8.1.Num, .int .i64 y8.1.Ptr.Obj, .int .i64 y8.1.Ptr.Lo, .int .i64 y8.1.Ptr.Hi, .int .i64 y8.1.Ptr.Off, .bool y8.1.Is], boxA b3 [.int .u32 p0.V.Num, .int .i64 p0.V.Ptr.Obj, .int .i64 p0.V.Ptr.Lo, .int .i64 p0.V.Ptr.Hi, .int .i64 p0.V.Ptr.Off, .bool p0.V.Is], boxA b2 [.int .u32 p0.W.Num, .int .i64 p0.W.Ptr.Obj, .int .i64 p0.W.Ptr.Lo, .int .i64 p0.W.Ptr.Hi, .int .i64 p0.W.Ptr.Off, .bool p0.W.Is], R, boxA b4 [.slice a4 n4 c4], nestA nEStoreObject 59 (.slice a4 n4 c4) y7.2.list] := hS25
            refine pv (r_zi rfl) (nil (t_thenR [(5, .pointer (some ⟨b3, 0, none⟩)), (6, .pointer (some ⟨b2, 0, none⟩)), (9, .int .i64 y3.2.1), (11, .int .i64 y4.2), (13, .int .i64 y5.2), (14, .int .i64 y6.1), (15, .int .i64 y7.1), (16, .pointer (some ⟨b8, 0, none⟩)), (17, .int .i64 y8.2), (18, .pointer (some ⟨b9, 0, none⟩)), (19, .int .i64 y9.2)] ⟨rfl, rfl, rfl, rfl, rfl, rfl, rfl, rfl, rfl, rfl, rfl, trivial⟩ fun J => ?_))
            refine sq2 ?_
            refine sq2 ?_
            refine rg (pv (r_mi rfl) (pv (r_ib rfl rfl rfl) (pv (r_mb rfl) (?_))))
            rcases Bool.eq_false_or_eq_true (y3.2.1 != 0) with hb5 | hb5
            · have hm := ctrue hb5 hm
              refine gF (d0 := 93) rfl rfl (by rw [hb5]; rfl) (gF (d0 := 93) rfl rfl (by rw [hb5]; rfl) (pv (r_pkt rfl hb5 rfl) (pv (r_mb rfl) (gF (d0 := 97) rfl rfl rfl (gF (d0 := 97) rfl rfl rfl (pv (r_pkt rfl rfl rfl) (pv (r_mb rfl) (gF (d0 := 101) rfl rfl rfl (gF (d0 := 101) rfl rfl rfl (pv (r_pkt rfl rfl rfl) (pv (r_mb rfl) (gF (d0 := 105) rfl rfl rfl (gF (d0 := 105) rfl rfl rfl (pv (r_pkt rfl rfl rfl) (pv (r_mb rfl) (gF (d0 := 109) rfl rfl rfl (gF (d0 := 109) rfl rfl rfl (pv (r_pkt rfl rfl rfl) (pv (r_mb rfl) (gF (d0 := 113) rfl rfl rfl (gF (d0 := 113) rfl rfl rfl (pv (r_pkt rfl rfl rfl) (nil (t_thenR [(5, .pointer (some ⟨b3, 0, none⟩)), (6, .pointer (some ⟨b2, 0, none⟩)), (16, .pointer (some ⟨b8, 0, none⟩)), (18, .pointer (some ⟨b9, 0, none⟩)), (116, .bool true)] ⟨rfl, rfl, rfl, rfl, rfl, trivial⟩ fun J => ?_))))))))))))))))))))))))
              refine cnd (b := true) rfl (fun _ => ?_) (fun h => nomatch h)
              refine sq2 ?_
              refine rg (pv (r_zb rfl) (nil (t_thenR [(2, .bool false)] ⟨rfl, trivial⟩ fun J => ?_)))
              have hm := Option.some.inj hm
              subst hm
              exact rtn (r_then (ret1 rfl rfl ⟨_, rfl, _, (Im.trans im1 (Im.trans im2 (Im.trans im3 (Im.trans im4 (Im.trans im5 (Im.trans im6 (Im.trans im8 (Im.trans im9 (Im.trans im10 (Im.trans im11 (Im.trans im12 (Im.trans im13 (Im.trans im14 (Im.trans im15 (Im.trans im16 (Im.trans im17 (Im.trans im18 (Im.trans im19 (Im.trans im20 (Im.trans im21 (Im.trans im22 (Im.trans im23 (Im.trans im24 im25))))))))))))))))))))))), ⟨rfl, hS25.sel [4] rfl, trivial⟩⟩))
            · have hm := cfalse hb5 hm
              refine gT (d0 := 93) rfl rfl hb5 (pv (r_mi rfl) (gT (d0 := 93) rfl rfl hb5 (pv (r_ib rfl rfl rfl) (pv (r_pkf rfl hb5 rfl) (pv (r_mb rfl) (?_))))))
              rcases Bool.eq_false_or_eq_true (y4.2 != 0) with hb6 | hb6
              · have hm := ctrue hb6 hm
                refine gF (d0 := 97) rfl rfl (by rw [hb6]; rfl) (gF (d0 := 97) rfl rfl (by rw [hb6]; rfl) (pv (r_pkt rfl hb6 rfl) (pv (r_mb rfl) (gF (d0 := 101) rfl rfl rfl (gF (d0 := 101) rfl rfl rfl (pv (r_pkt rfl rfl rfl) (pv (r_mb rfl) (gF (d0 := 105) rfl rfl rfl (gF (d0 := 105) rfl rfl rfl (pv (r_pkt rfl rfl rfl) (pv (r_mb rfl) (gF (d0 := 109) rfl rfl rfl (gF (d0 := 109) rfl rfl rfl (pv (r_pkt rfl rfl rfl) (pv (r_mb rfl) (gF (d0 := 113) rfl rfl rfl (gF (d0 := 113) rfl rfl rfl (pv (r_pkt rfl rfl rfl) (nil (t_thenR [(5, .pointer (some ⟨b3, 0, none⟩)), (6, .pointer (some ⟨b2, 0, none⟩)), (16, .pointer (some ⟨b8, 0, none⟩)), (18, .pointer (some ⟨b9, 0, none⟩)), (116, .bool true)] ⟨rfl, rfl, rfl, rfl, rfl, trivial⟩ fun J => ?_))))))))))))))))))))
                refine cnd (b := true) rfl (fun _ => ?_) (fun h => nomatch h)
                refine sq2 ?_
                refine rg (pv (r_zb rfl) (nil (t_thenR [(2, .bool false)] ⟨rfl, trivial⟩ fun J => ?_)))
                have hm := Option.some.inj hm
                subst hm
                exact rtn (r_then (ret1 rfl rfl ⟨_, rfl, _, (Im.trans im1 (Im.trans im2 (Im.trans im3 (Im.trans im4 (Im.trans im5 (Im.trans im6 (Im.trans im8 (Im.trans im9 (Im.trans im10 (Im.trans im11 (Im.trans im12 (Im.trans im13 (Im.trans im14 (Im.trans im15 (Im.trans im16 (Im.trans im17 (Im.trans im18 (Im.trans im19 (Im.trans im20 (Im.trans im21 (Im.trans im22 (Im.trans im23 (Im.trans im24 im25))))))))))))))))))))))), ⟨rfl, hS25.sel [4] rfl, trivial⟩⟩))
              · have hm := cfalse hb6 hm
                refine gT (d0 := 97) rfl rfl hb6 (pv (r_mi rfl) (gT (d0 := 97) rfl rfl hb6 (pv (r_ib rfl rfl rfl) (pv (r_pkf rfl hb6 rfl) (pv (r_mb rfl) (?_))))))
                rcases Bool.eq_false_or_eq_true (y5.2 != 0) with hb7 | hb7
                · have hm := ctrue hb7 hm
                  refine gF (d0 := 101) rfl rfl (by rw [hb7]; rfl) (gF (d0 := 101) rfl rfl (by rw [hb7]; rfl) (pv (r_pkt rfl hb7 rfl) (pv (r_mb rfl) (gF (d0 := 105) rfl rfl rfl (gF (d0 := 105) rfl rfl rfl (pv (r_pkt rfl rfl rfl) (pv (r_mb rfl) (gF (d0 := 109) rfl rfl rfl (gF (d0 := 109) rfl rfl rfl (pv (r_pkt rfl rfl rfl) (pv (r_mb rfl) (gF (d0 := 113) rfl rfl rfl (gF (d0 := 113) rfl rfl rfl (pv (r_pkt rfl rfl rfl) (nil (t_thenR [(5, .pointer (some ⟨b3, 0, none⟩)), (6, .pointer (some ⟨b2, 0, none⟩)), (16, .pointer (some ⟨b8, 0, none⟩)), (18, .pointer (some ⟨b9, 0, none⟩)), (116, .bool true)] ⟨rfl, rfl, rfl, rfl, rfl, trivial⟩ fun J => ?_))))))))))))))))
                  refine cnd (b := true) rfl (fun _ => ?_) (fun h => nomatch h)
                  refine sq2 ?_
                  refine rg (pv (r_zb rfl) (nil (t_thenR [(2, .bool false)] ⟨rfl, trivial⟩ fun J => ?_)))
                  have hm := Option.some.inj hm
                  subst hm
                  exact rtn (r_then (ret1 rfl rfl ⟨_, rfl, _, (Im.trans im1 (Im.trans im2 (Im.trans im3 (Im.trans im4 (Im.trans im5 (Im.trans im6 (Im.trans im8 (Im.trans im9 (Im.trans im10 (Im.trans im11 (Im.trans im12 (Im.trans im13 (Im.trans im14 (Im.trans im15 (Im.trans im16 (Im.trans im17 (Im.trans im18 (Im.trans im19 (Im.trans im20 (Im.trans im21 (Im.trans im22 (Im.trans im23 (Im.trans im24 im25))))))))))))))))))))))), ⟨rfl, hS25.sel [4] rfl, trivial⟩⟩))
                · have hm := cfalse hb7 hm
                  refine gT (d0 := 101) rfl rfl hb7 (pv (r_mi rfl) (gT (d0 := 101) rfl rfl hb7 (pv (r_ib rfl rfl rfl) (pv (r_pkf rfl hb7 rfl) (pv (r_mb rfl) (?_))))))
                  rcases Bool.eq_false_or_eq_true (y6.1 != 0) with hb8 | hb8
                  · have hm := ctrue hb8 hm
                    refine gF (d0 := 105) rfl rfl (by rw [hb8]; rfl) (gF (d0 := 105) rfl rfl (by rw [hb8]; rfl) (pv (r_pkt rfl hb8 rfl) (pv (r_mb rfl) (gF (d0 := 109) rfl rfl rfl (gF (d0 := 109) rfl rfl rfl (pv (r_pkt rfl rfl rfl) (pv (r_mb rfl) (gF (d0 := 113) rfl rfl rfl (gF (d0 := 113) rfl rfl rfl (pv (r_pkt rfl rfl rfl) (nil (t_thenR [(5, .pointer (some ⟨b3, 0, none⟩)), (6, .pointer (some ⟨b2, 0, none⟩)), (16, .pointer (some ⟨b8, 0, none⟩)), (18, .pointer (some ⟨b9, 0, none⟩)), (116, .bool true)] ⟨rfl, rfl, rfl, rfl, rfl, trivial⟩ fun J => ?_))))))))))))
                    refine cnd (b := true) rfl (fun _ => ?_) (fun h => nomatch h)
                    refine sq2 ?_
                    refine rg (pv (r_zb rfl) (nil (t_thenR [(2, .bool false)] ⟨rfl, trivial⟩ fun J => ?_)))
                    have hm := Option.some.inj hm
                    subst hm
                    exact rtn (r_then (ret1 rfl rfl ⟨_, rfl, _, (Im.trans im1 (Im.trans im2 (Im.trans im3 (Im.trans im4 (Im.trans im5 (Im.trans im6 (Im.trans im8 (Im.trans im9 (Im.trans im10 (Im.trans im11 (Im.trans im12 (Im.trans im13 (Im.trans im14 (Im.trans im15 (Im.trans im16 (Im.trans im17 (Im.trans im18 (Im.trans im19 (Im.trans im20 (Im.trans im21 (Im.trans im22 (Im.trans im23 (Im.trans im24 im25))))))))))))))))))))))), ⟨rfl, hS25.sel [4] rfl, trivial⟩⟩))
                  · have hm := cfalse hb8 hm
                    refine gT (d0 := 105) rfl rfl hb8 (pv (r_mi rfl) (gT (d0 := 105) rfl rfl hb8 (pv (r_ib rfl rfl rfl) (pv (r_pkf rfl hb8 rfl) (pv (r_mb rfl) (?_))))))
                    rcases Bool.eq_false_or_eq_true (y7.1 != 0) with hb9 | hb9
                    · have hm := ctrue hb9 hm
                      refine gF (d0 := 109) rfl rfl (by rw [hb9]; rfl) (gF (d0 := 109) rfl rfl (by rw [hb9]; rfl) (pv (r_pkt rfl hb9 rfl) (pv (r_mb rfl) (gF (d0 := 113) rfl rfl rfl (gF (d0 := 113) rfl rfl rfl (pv (r_pkt rfl rfl rfl) (nil (t_thenR [(5, .pointer (some ⟨b3, 0, none⟩)), (6, .pointer (some ⟨b2, 0, none⟩)), (16, .pointer (some ⟨b8, 0, none⟩)), (18, .pointer (some ⟨b9, 0, none⟩)), (116, .bool true)] ⟨rfl, rfl, rfl, rfl, rfl, trivial⟩ fun J => ?_))))))))
                      refine cnd (b := true) rfl (fun _ => ?_) (fun h => nomatch h)
                      refine sq2 ?_
                      refine rg (pv (r_zb rfl) (nil (t_thenR [(2, .bool false)] ⟨rfl, trivial⟩ fun J => ?_)))
                      have hm := Option.some.inj hm
                      subst hm
                      exact rtn (r_then (ret1 rfl rfl ⟨_, rfl, _, (Im.trans im1 (Im.trans im2 (Im.trans im3 (Im.trans im4 (Im.trans im5 (Im.trans im6 (Im.trans im8 (Im.trans im9 (Im.trans im10 (Im.trans im11 (Im.trans im12 (Im.trans im13 (Im.trans im14 (Im.trans im15 (Im.trans im16 (Im.trans im17 (Im.trans im18 (Im.trans im19 (Im.trans im20 (Im.trans im21 (Im.trans im22 (Im.trans im23 (Im.trans im24 im25))))))))))))))))))))))), ⟨rfl, hS25.sel [4] rfl, trivial⟩⟩))
                    · have hm := cfalse hb9 hm
                      refine gT (d0 := 109) rfl rfl hb9 (pv (r_mi rfl) (gT (d0 := 109) rfl rfl hb9 (pv (r_ib rfl rfl rfl) (pv (r_pkf rfl hb9 rfl) (pv (r_mb rfl) (?_))))))
                      rcases Bool.eq_false_or_eq_true (y8.2 != 0) with hb10 | hb10
                      · have hm := ctrue hb10 hm
                        refine gF (d0 := 113) rfl rfl (by rw [hb10]; rfl) (gF (d0 := 113) rfl rfl (by rw [hb10]; rfl) (pv (r_pkt rfl hb10 rfl) (nil (t_thenR [(5, .pointer (some ⟨b3, 0, none⟩)), (6, .pointer (some ⟨b2, 0, none⟩)), (16, .pointer (some ⟨b8, 0, none⟩)), (18, .pointer (some ⟨b9, 0, none⟩)), (116, .bool true)] ⟨rfl, rfl, rfl, rfl, rfl, trivial⟩ fun J => ?_))))
                        refine cnd (b := true) rfl (fun _ => ?_) (fun h => nomatch h)
                        refine sq2 ?_
                        refine rg (pv (r_zb rfl) (nil (t_thenR [(2, .bool false)] ⟨rfl, trivial⟩ fun J => ?_)))
                        have hm := Option.some.inj hm
                        subst hm
                        exact rtn (r_then (ret1 rfl rfl ⟨_, rfl, _, (Im.trans im1 (Im.trans im2 (Im.trans im3 (Im.trans im4 (Im.trans im5 (Im.trans im6 (Im.trans im8 (Im.trans im9 (Im.trans im10 (Im.trans im11 (Im.trans im12 (Im.trans im13 (Im.trans im14 (Im.trans im15 (Im.trans im16 (Im.trans im17 (Im.trans im18 (Im.trans im19 (Im.trans im20 (Im.trans im21 (Im.trans im22 (Im.trans im23 (Im.trans im24 im25))))))))))))))))))))))), ⟨rfl, hS25.sel [4] rfl, trivial⟩⟩))
                      · have hm := cfalse hb10 hm
                        refine gT (d0 := 113) rfl rfl hb10 (pv (r_mi rfl) (gT (d0 := 113) rfl rfl hb10 (pv (r_ib rfl rfl rfl) (pv (r_pkf rfl hb10 rfl) (nil (t_thenR [(5, .pointer (some ⟨b3, 0, none⟩)), (6, .pointer (some ⟨b2, 0, none⟩)), (16, .pointer (some ⟨b8, 0, none⟩)), (18, .pointer (some ⟨b9, 0, none⟩)), (116, .bool (y9.2 != 0))] ⟨rfl, rfl, rfl, rfl, rfl, trivial⟩ fun J => ?_))))))
                        refine cnd rfl (fun hb11 => ?_) (fun hb11 => ?_)
                        · have hm := ctrue hb11 hm
                          refine sq2 ?_
                          refine rg (pv (r_zb rfl) (nil (t_thenR [(2, .bool false)] ⟨rfl, trivial⟩ fun J => ?_)))
                          have hm := Option.some.inj hm
                          subst hm
                          exact rtn (r_then (ret1 rfl rfl ⟨_, rfl, _, (Im.trans im1 (Im.trans im2 (Im.trans im3 (Im.trans im4 (Im.trans im5 (Im.trans im6 (Im.trans im8 (Im.trans im9 (Im.trans im10 (Im.trans im11 (Im.trans im12 (Im.trans im13 (Im.trans im14 (Im.trans im15 (Im.trans im16 (Im.trans im17 (Im.trans im18 (Im.trans im19 (Im.trans im20 (Im.trans im21 (Im.trans im22 (Im.trans im23 (Im.trans im24 im25))))))))))))))))))))))), ⟨rfl, hS25.sel [4] rfl, trivial⟩⟩))
                        · have hm := cfalse hb11 hm
                          refine skp (t_then ?_)
                          obtain ⟨kk1, hkk1, hm⟩ := jn_open hm
                          refine cut (fun a w26 => ∃ (J : Nat → Value) (T10 : Nat → Prop) (x1 : StoreValue), a = env (nf 138) J [(5, .pointer (some ⟨b3, 0, none⟩)), (6, .pointer (some ⟨b2, 0, none⟩)), (16, .pointer (some ⟨b8, 0, none⟩)), (18, .pointer (some ⟨b9, 0, none⟩))] ∧ Im T9 w25 T10 w26 ∧ Sep g T10 w26 [boxA b9 [.int .u32 y9.1.Num, .int .i64 y9.1.Ptr.Obj, .int .i64 y9.1.Ptr.Lo, .int .i64 y9.1.Ptr.Hi, .int .i64 y9.1.Ptr.Off, .bool y9.1.Is], boxA b8 [.int .u32 y8.1.Num, .int .i64 y8.1.Ptr.Obj, .int .i64 y8.1.Ptr.Lo, .int .i64 y8.1.Ptr.Hi, .int .i64 y8.1.Ptr.Off, .bool y8.1.Is], boxA b3 [.int .u32 x1.Num, .int .i64 x1.Ptr.Obj, .int .i64 x1.Ptr.Lo, .int .i64 x1.Ptr.Hi, .int .i64 x1.Ptr.Off, .bool x1.Is], boxA b2 [.int .u32 p0.W.Num, .int .i64 p0.W.Ptr.Obj, .int .i64 p0.W.Ptr.Lo, .int .i64 p0.W.Ptr.Hi, .int .i64 p0.W.Ptr.Off, .bool p0.W.Is], R] ∧ kk1 x1 = some r) ?_ ?_
                          · refine sq2 ?_
                            refine rg (pv (r_fa rfl Try.underlying26 rfl Try.sizeOf4 rfl) (pv (r_ld rfl Try.isAgg4 (hS25.cell0 (i := 2) ⟨rfl, rfl⟩ (j := 5) rfl)) (nil (t_then ?_))))
                            refine cnd rfl (fun hb12 => ?_) (fun hb12 => ?_)
                            · have hm := ctrue hb12 hm
                              refine rg (pv (r_fa rfl Try.underlying26 rfl Try.sizeOf22 rfl) (wl rfl (st0B (q := 2) hS25 ⟨rfl, rfl⟩ rfl rfl rfl Try.sizeOf22 rfl rfl rfl fun w27 im27 hS26 => ?_)))
                              have hS26 : Sep g T9 w27 [boxA b9 [.int .u32 y9.1.Num, .int .i64 y9.1.Ptr.Obj, .int .i64 y9.1.Ptr.Lo, .int .i64 y9.1.Ptr.Hi, .int .i64 y9.1.Ptr.Off, .bool y9.1.Is], boxA b8 [.int .u32 y8.1.Num, .int .i64 y8.1.Ptr.Obj, .int .i64 y8.1.Ptr.Lo, .int .i64 y8.1.Ptr.Hi, .int .i64 y8.1.Ptr.Off, .bool y8.1.Is], boxA b3 [.int .u32 0, .int .i64 p0.V.Ptr.Obj, .int .i64 p0.V.Ptr.Lo, .int .i64 p0.V.Ptr.Hi, .int .i64 p0.V.Ptr.Off, .bool p0.V.Is], boxA b2 [.int .u32 p0.W.Num, .int .i64 p0.W.Ptr.Obj, .int .i64 p0.W.Ptr.Lo, .int .i64 p0.W.Ptr.Hi, .int .i64 p0.W.Ptr.Off, .bool p0.W.Is], R, boxA b4 [.slice a4 n4 c4], nestA nEStoreObject 59 (.slice a4 n4 c4) y7.2.list] := hS26
                              exact nil (t_then ⟨_, _, ({ p0.V with Num := 0 }), env_has ⟨rfl, rfl, rfl, rfl, trivial⟩, im27, hS26.sel [0, 1, 2, 3, 4] rfl, hm⟩)
                            · have hm := cfalse hb12 hm
                              refine rg (pv (r_bd (by kernel_rfl) rfl (u := .agg #[.int .i64 0, .int .i64 0, .int .i64 0, .int .i64 0])) (pv (r_fa rfl Try.underlying26 rfl Try.sizeOf24 rfl) (wl rfl (st0B (q := 2) hS25 ⟨rfl, rfl⟩ rfl rfl rfl Try.sizeOf24 rfl rfl rfl fun w28 im28 hS27 => ?_))))
                              have hS27 : Sep g T9 w28 [boxA b9 [.int .u32 y9.1.Num, .int .i64 y9.1.Ptr.Obj, .int .i64 y9.1.Ptr.Lo, .int .i64 y9.1.Ptr.Hi, .int .i64 y9.1.Ptr.Off, .bool y9.1.Is], boxA b8 [.int .u32 y8.1.Num, .int .i64 y8.1.Ptr.Obj, .int .i64 y8.1.Ptr.Lo, .int .i64 y8.1.Ptr.Hi, .int .i64 y8.1.Ptr.Off, .bool y8.1.Is], boxA b3 [.int .u32 p0.V.Num, .int .i64 0, .int .i64 0, .int .i64 0, .int .i64 0, .bool p0.V.Is], boxA b2 [.int .u32 p0.W.Num, .int .i64 p0.W.Ptr.Obj, .int .i64 p0.W.Ptr.Lo, .int .i64 p0.W.Ptr.Hi, .int .i64 p0.W.Ptr.Off, .bool p0.W.Is], R, boxA b4 [.slice a4 n4 c4], nestA nEStoreObject 59 (.slice a4 n4 c4) y7.2.list] := hS27
                              exact nil (t_then ⟨_, _, ({ p0.V with Ptr := (⟨0, 0, 0, 0⟩ : StorePtr) }), env_has ⟨rfl, rfl, rfl, rfl, trivial⟩, im28, hS27.sel [0, 1, 2, 3, 4] rfl, hm⟩)
                          · rintro _ w26 ⟨J, T10, x1, rfl, im26, hS28, hm⟩
                            rw [hkk1] at hm
                            obtain ⟨kk2, hkk2, hm⟩ := jn_open hm
                            refine cut (fun a w29 => ∃ (J : Nat → Value) (T11 : Nat → Prop) (x2 : StoreValue), a = env (nf 138) J [(5, .pointer (some ⟨b3, 0, none⟩)), (6, .pointer (some ⟨b2, 0, none⟩)), (16, .pointer (some ⟨b8, 0, none⟩)), (18, .pointer (some ⟨b9, 0, none⟩))] ∧ Im T10 w26 T11 w29 ∧ Sep g T11 w29 [boxA b9 [.int .u32 y9.1.Num, .int .i64 y9.1.Ptr.Obj, .int .i64 y9.1.Ptr.Lo, .int .i64 y9.1.Ptr.Hi, .int .i64 y9.1.Ptr.Off, .bool y9.1.Is], boxA b8 [.int .u32 y8.1.Num, .int .i64 y8.1.Ptr.Obj, .int .i64 y8.1.Ptr.Lo, .int .i64 y8.1.Ptr.Hi, .int .i64 y8.1.Ptr.Off, .bool y8.1.Is], boxA b3 [.int .u32 x1.Num, .int .i64 x1.Ptr.Obj, .int .i64 x1.Ptr.Lo, .int .i64 x1.Ptr.Hi, .int .i64 x1.Ptr.Off, .bool x1.Is], boxA b2 [.int .u32 x2.Num, .int .i64 x2.Ptr.Obj, .int .i64 x2.Ptr.Lo, .int .i64 x2.Ptr.Hi, .int .i64 x2.Ptr.Off, .bool x2.Is], R] ∧ kk2 x2 = some r) ?_ ?_
                            · refine sq2 ?_
                              refine rg (pv (r_fa rfl Try.underlying26 rfl Try.sizeOf4 rfl) (pv (r_ld rfl Try.isAgg4 (hS28.cell0 (i := 3) ⟨rfl, rfl⟩ (j := 5) rfl)) (nil (t_then ?_))))
                              refine cnd rfl (fun hb13 => ?_) (fun hb13 => ?_)
                              · have hm := ctrue hb13 hm
                                refine rg (pv (r_fa rfl Try.underlying26 rfl Try.sizeOf22 rfl) (wl rfl (st0B (q := 3) hS28 ⟨rfl, rfl⟩ rfl rfl rfl Try.sizeOf22 rfl rfl rfl fun w30 im30 hS29 => ?_)))
                                have hS29 : Sep g T10 w30 [boxA b9 [.int .u32 y9.1.Num, .int .i64 y9.1.Ptr.Obj, .int .i64 y9.1.Ptr.Lo, .int .i64 y9.1.Ptr.Hi, .int .i64 y9.1.Ptr.Off, .bool y9.1.Is], boxA b8 [.int .u32 y8.1.Num, .int .i64 y8.1.Ptr.Obj, .int .i64 y8.1.Ptr.Lo, .int .i64 y8.1.Ptr.Hi, .int .i64 y8.1.Ptr.Off, .bool y8.1.Is], boxA b3 [.int .u32 x1.Num, .int .i64 x1.Ptr.Obj, .int .i64 x1.Ptr.Lo, .int .i64 x1.Ptr.Hi, .int .i64 x1.Ptr.Off, .bool x1.Is], boxA b2 [.int .u32 0, .int .i64 p0.W.Ptr.Obj, .int .i64 p0.W.Ptr.Lo, .int .i64 p0.W.Ptr.Hi, .int .i64 p0.W.Ptr.Off, .bool p0.W.Is], R] := hS29
                                exact nil (t_then ⟨_, _, ({ p0.W with Num := 0 }), env_has ⟨rfl, rfl, rfl, rfl, trivial⟩, im30, hS29.sel [0, 1, 2, 3, 4] rfl, hm⟩)
                              · have hm := cfalse hb13 hm
                                refine rg (pv (r_bd (by kernel_rfl) rfl (u := .agg #[.int .i64 0, .int .i64 0, .int .i64 0, .int .i64 0])) (pv (r_fa rfl Try.underlying26 rfl Try.sizeOf24 rfl) (wl rfl (st0B (q := 3) hS28 ⟨rfl, rfl⟩ rfl rfl rfl Try.sizeOf24 rfl rfl rfl fun w31 im31 hS30 => ?_))))
                                have hS30 : Sep g T10 w31 [boxA b9 [.int .u32 y9.1.Num, .int .i64 y9.1.Ptr.Obj, .int .i64 y9.1.Ptr.Lo, .int .i64 y9.1.Ptr.Hi, .int .i64 y9.1.Ptr.Off, .bool y9.1.Is], boxA b8 [.int .u32 y8.1.Num, .int .i64 y8.1.Ptr.Obj, .int .i64 y8.1.Ptr.Lo, .int .i64 y8.1.Ptr.Hi, .int .i64 y8.1.Ptr.Off, .bool y8.1.Is], boxA b3 [.int .u32 x1.Num, .int .i64 x1.Ptr.Obj, .int .i64 x1.Ptr.Lo, .int .i64 x1.Ptr.Hi, .int .i64 x1.Ptr.Off, .bool x1.Is], boxA b2 [.int .u32 p0.W.Num, .int .i64 0, .int .i64 0, .int .i64 0, .int .i64 0, .bool p0.W.Is], R] := hS30
                                exact nil (t_then ⟨_, _, ({ p0.W with Ptr := (⟨0, 0, 0, 0⟩ : StorePtr) }), env_has ⟨rfl, rfl, rfl, rfl, trivial⟩, im31, hS30.sel [0, 1, 2, 3, 4] rfl, hm⟩)
                            · rintro _ w29 ⟨J, T11, x2, rfl, im29, hS31, hm⟩
                              rw [hkk2] at hm
                              refine sq2 ?_
                              obtain ⟨y10, hx10, hm⟩ := bindS hm
                              refine rg (wl rfl (calS cf6 rfl (law11_awake_sim  (hS31.bun [0, 1, 2, 3, 4] [] rfl)  hx10) rfl fun v10 T12 w32 im32 rv10 => ?_))
                              obtain ⟨rfl, hS32, _⟩ := rv10
                              have hS32 : Sep g T12 w32 [boxA b9 [.int .u32 y9.1.Num, .int .i64 y9.1.Ptr.Obj, .int .i64 y9.1.Ptr.Lo, .int .i64 y9.1.Ptr.Hi, .int .i64 y9.1.Ptr.Off, .bool y9.1.Is], boxA b8 [.int .u32 y8.1.Num, .int .i64 y8.1.Ptr.Obj, .int .i64 y8.1.Ptr.Lo, .int .i64 y8.1.Ptr.Hi, .int .i64 y8.1.Ptr.Off, .bool y8.1.Is], boxA b3 [.int .u32 x1.Num, .int .i64 x1.Ptr.Obj, .int .i64 x1.Ptr.Lo, .int .i64 x1.Ptr.Hi, .int .i64 x1.Ptr.Off, .bool x1.Is], boxA b2 [.int .u32 x2.Num, .int .i64 x2.Ptr.Obj, .int .i64 x2.Ptr.Lo, .int .i64 x2.Ptr.Hi, .int .i64 x2.Ptr.Off, .bool x2.Is], R] := hS32.unb
                              refine pv (r_mb rfl) (?_)
                              rcases Bool.eq_false_or_eq_true y10 with hb14 | hb14
                              · have hm := ctrue hb14 hm
                                refine gT (d0 := 128) rfl rfl hb14 (pv (r_ldS rfl Try.isAgg26 Try.sizeOf26 rfl (hS32.cells0 (i := 1) ⟨rfl, rfl⟩ (o := 0) rfl) (cs := [.int .u32 y8.1.Num, .int .i64 y8.1.Ptr.Obj, .int .i64 y8.1.Ptr.Lo, .int .i64 y8.1.Ptr.Hi, .int .i64 y8.1.Ptr.Off, .bool y8.1.Is])) (gT (d0 := 128) rfl rfl hb14 (pv (r_ldS rfl Try.isAgg26 Try.sizeOf26 rfl (hS32.cells0 (i := 2) ⟨rfl, rfl⟩ (o := 0) rfl) (cs := [.int .u32 x1.Num, .int .i64 x1.Ptr.Obj, .int .i64 x1.Ptr.Lo, .int .i64 x1.Ptr.Hi, .int .i64 x1.Ptr.Off, .bool x1.Is])) (gT (d0 := 128) rfl rfl hb14 (pv (r_seqe rfl rfl (eq_26 y8.1.Num y8.1.Ptr.Obj y8.1.Ptr.Lo y8.1.Ptr.Hi y8.1.Ptr.Off y8.1.Is x1.Num x1.Ptr.Obj x1.Ptr.Lo x1.Ptr.Hi x1.Ptr.Off x1.Is)) (pv (r_pkt rfl hb14 rfl) (pv (r_mb rfl) (?_))))))))
                                rcases Bool.eq_false_or_eq_true ((y8.1.Num == x1.Num) && (y8.1.Ptr.Obj == x1.Ptr.Obj) && (y8.1.Ptr.Lo == x1.Ptr.Lo) && (y8.1.Ptr.Hi == x1.Ptr.Hi) && (y8.1.Ptr.Off == x1.Ptr.Off) && (y8.1.Is == x1.Is)) with hb15 | hb15
                                · have hm := ctrue hb15 hm
                                  refine gT (d0 := 133) rfl rfl hb15 (pv (r_ldS rfl Try.isAgg26 Try.sizeOf26 rfl (hS32.cells0 (i := 0) ⟨rfl, rfl⟩ (o := 0) rfl) (cs := [.int .u32 y9.1.Num, .int .i64 y9.1.Ptr.Obj, .int .i64 y9.1.Ptr.Lo, .int .i64 y9.1.Ptr.Hi, .int .i64 y9.1.Ptr.Off, .bool y9.1.Is])) (gT (d0 := 133) rfl rfl hb15 (pv (r_ldS rfl Try.isAgg26 Try.sizeOf26 rfl (hS32.cells0 (i := 3) ⟨rfl, rfl⟩ (o := 0) rfl) (cs := [.int .u32 x2.Num, .int .i64 x2.Ptr.Obj, .int .i64 x2.Ptr.Lo, .int .i64 x2.Ptr.Hi, .int .i64 x2.Ptr.Off, .bool x2.Is])) (gT (d0 := 133) rfl rfl hb15 (pv (r_seqe rfl rfl (eq_26 y9.1.Num y9.1.Ptr.Obj y9.1.Ptr.Lo y9.1.Ptr.Hi y9.1.Ptr.Off y9.1.Is x2.Num x2.Ptr.Obj x2.Ptr.Lo x2.Ptr.Hi x2.Ptr.Off x2.Is)) (pv (r_pkt rfl hb15 rfl) (pv (r_zb rfl) (nil (t_thenR [(2, .bool ((y9.1.Num == x2.Num) && (y9.1.Ptr.Obj == x2.Ptr.Obj) && (y9.1.Ptr.Lo == x2.Ptr.Lo) && (y9.1.Ptr.Hi == x2.Ptr.Hi) && (y9.1.Ptr.Off == x2.Ptr.Off) && (y9.1.Is == x2.Is)))] ⟨rfl, trivial⟩ fun J => ?_)))))))))
                                  have hm := Option.some.inj hm
                                  subst hm
                                  exact rtn (ret1 rfl rfl ⟨_, rfl, _, (Im.trans im1 (Im.trans im2 (Im.trans im3 (Im.trans im4 (Im.trans im5 (Im.trans im6 (Im.trans im8 (Im.trans im9 (Im.trans im10 (Im.trans im11 (Im.trans im12 (Im.trans im13 (Im.trans im14 (Im.trans im15 (Im.trans im16 (Im.trans im17 (Im.trans im18 (Im.trans im19 (Im.trans im20 (Im.trans im21 (Im.trans im22 (Im.trans im23 (Im.trans im24 (Im.trans im25 (Im.trans im26 (Im.trans im29 im32)))))))))))))))))))))))))), ⟨rfl, hS32.sel [4] rfl, trivial⟩⟩)
                                · have hm := cfalse hb15 hm
                                  refine gF (d0 := 133) rfl rfl (by rw [hb15]; rfl) (gF (d0 := 133) rfl rfl (by rw [hb15]; rfl) (gF (d0 := 133) rfl rfl (by rw [hb15]; rfl) (pv (r_pkf rfl hb15 rfl) (pv (r_zb rfl) (nil (t_thenR [(2, .bool false)] ⟨rfl, trivial⟩ fun J => ?_))))))
                                  have hm := Option.some.inj hm
                                  subst hm
                                  exact rtn (ret1 rfl rfl ⟨_, rfl, _, (Im.trans im1 (Im.trans im2 (Im.trans im3 (Im.trans im4 (Im.trans im5 (Im.trans im6 (Im.trans im8 (Im.trans im9 (Im.trans im10 (Im.trans im11 (Im.trans im12 (Im.trans im13 (Im.trans im14 (Im.trans im15 (Im.trans im16 (Im.trans im17 (Im.trans im18 (Im.trans im19 (Im.trans im20 (Im.trans im21 (Im.trans im22 (Im.trans im23 (Im.trans im24 (Im.trans im25 (Im.trans im26 (Im.trans im29 im32)))))))))))))))))))))))))), ⟨rfl, hS32.sel [4] rfl, trivial⟩⟩)
                              · have hm := cfalse hb14 hm
                                refine gF (d0 := 128) rfl rfl (by rw [hb14]; rfl) (gF (d0 := 128) rfl rfl (by rw [hb14]; rfl) (gF (d0 := 128) rfl rfl (by rw [hb14]; rfl) (pv (r_pkf rfl hb14 rfl) (pv (r_mb rfl) (gF (d0 := 133) rfl rfl rfl (gF (d0 := 133) rfl rfl rfl (gF (d0 := 133) rfl rfl rfl (pv (r_pkf rfl rfl rfl) (pv (r_zb rfl) (nil (t_thenR [(2, .bool false)] ⟨rfl, trivial⟩ fun J => ?_)))))))))))
                                have hm := Option.some.inj hm
                                subst hm
                                exact rtn (ret1 rfl rfl ⟨_, rfl, _, (Im.trans im1 (Im.trans im2 (Im.trans im3 (Im.trans im4 (Im.trans im5 (Im.trans im6 (Im.trans im8 (Im.trans im9 (Im.trans im10 (Im.trans im11 (Im.trans im12 (Im.trans im13 (Im.trans im14 (Im.trans im15 (Im.trans im16 (Im.trans im17 (Im.trans im18 (Im.trans im19 (Im.trans im20 (Im.trans im21 (Im.trans im22 (Im.trans im23 (Im.trans im24 (Im.trans im25 (Im.trans im26 (Im.trans im29 im32)))))))))))))))))))))))))), ⟨rfl, hS32.sel [4] rfl, trivial⟩⟩)

set_option maxRecDepth 100000 in
set_option maxHeartbeats 1000000 in
theorem store_Store_object_sim {g : World} {T0 : Nat → Prop} {w0 : World} {R : Assn} {p0 : StoreStore} {b_p0 o_p0 : Nat} {H_p0 : List Value → Assn} {a1 : Option Addr} {n1 : Nat} {c1 : Nat} {p1 : Int} {r : Int × Int} (hS : Sep g T0 w0 [R, H_p0 [.slice a1 n1 c1], nestA nEStoreObject 59 (.slice a1 n1 c1) p0.list]) (hL_p0 : Ln b_p0 o_p0 H_p0) (hm : store_Store_object p0 p1 = some r) :
    Calls Try.prog 21 #[.pointer (some ⟨b_p0, o_p0, none⟩), .int .i64 p1] w0 (RetS T0 w0 fun T w v => ∃ (pv1 : Value), v = .tuple #[pv1, .int .i64 r.2] ∧ Sep g T w [R, H_p0 [.slice a1 n1 c1], nestA nEStoreObject 59 (.slice a1 n1 c1) p0.list] ∧ IpR pv1 (.slice a1 n1 c1) 4 r.1 ∧ True) := by
  refine enter (args := [.pointer (some ⟨b_p0, o_p0, none⟩), .int .i64 p1]) Try.func21 rfl Try.ntmps21 rfl fun J => ?_
  unfold store_Store_object at hm
  refine sq2 ?_
  refine rg (pv (r_zp rfl) (pv (r_zi rfl) (nil (t_then ?_))))
  refine sq2 ?_
  refine blk ?_
  refine sq2 ?_
  refine rg (pv (r_mp rfl) (pv (r_pne rfl rfl rfl Try.underlying30) (pv (r_zb rfl) (nil (t_then ?_)))))
  refine cnd (b := false) rfl (fun h => nomatch h) (fun _ => ?_)
  refine sq2 ?_
  refine rg (pv (r_mi rfl) (pv (r_ib rfl rfl rfl) (pv (r_mb rfl) (?_))))
  rcases Bool.eq_false_or_eq_true (decide (p1 < 1)) with hb2 | hb2
  · have hm := ctrue hb2 hm
    refine gF (d0 := 12) rfl rfl (by rw [hb2]; rfl) (gF (d0 := 12) rfl rfl (by rw [hb2]; rfl) (gF (d0 := 12) rfl rfl (by rw [hb2]; rfl) (gF (d0 := 12) rfl rfl (by rw [hb2]; rfl) (gF (d0 := 12) rfl rfl (by rw [hb2]; rfl) (gF (d0 := 12) rfl rfl (by rw [hb2]; rfl) (gF (d0 := 12) rfl rfl (by rw [hb2]; rfl) (pv (r_pkt rfl hb2 rfl) (pv (r_mb rfl) (gF (d0 := 21) rfl rfl rfl (gF (d0 := 21) rfl rfl rfl (gF (d0 := 21) rfl rfl rfl (gF (d0 := 21) rfl rfl rfl (gF (d0 := 21) rfl rfl rfl (gF (d0 := 21) rfl rfl rfl (gF (d0 := 21) rfl rfl rfl (gF (d0 := 21) rfl rfl rfl (gF (d0 := 21) rfl rfl rfl (pv (r_pkt rfl rfl rfl) (pv (r_zb rfl) (nil (t_thenR [(0, .pointer (some ⟨b_p0, o_p0, none⟩)), (1, .int .i64 p1), (9, .bool true)] ⟨rfl, rfl, rfl, trivial⟩ fun J => ?_)))))))))))))))))))))
    refine cnd (b := true) rfl (fun _ => ?_) (fun h => nomatch h)
    refine sq2 ?_
    refine rg (pv (r_zp rfl) (pv (r_zi rfl) (nil (t_then ?_))))
    have hm := Option.some.inj hm
    subst hm
    exact rtn (r_blk (r_then (retN (vs := [.pointer none, .int .i64 4]) rfl ⟨rfl, rfl, trivial⟩ rfl ⟨_, rfl, _, Im.refl, ⟨_, rfl, hS.sel [0, 1, 2] rfl, ip_nil, trivial⟩⟩)))
  · have hm := cfalse hb2 hm
    refine gT (d0 := 12) rfl rfl hb2 (pv (r_mi rfl) (gT (d0 := 12) rfl rfl hb2 (pv (r_mp rfl) (gT (d0 := 12) rfl rfl hb2 (pv (r_nc rfl) (gT (d0 := 12) rfl rfl hb2 (pv (r_fa rfl Try.underlying53 rfl Try.sizeOf51 rfl) (gT (d0 := 12) rfl rfl hb2 (pv (r_ld rfl Try.isAgg51 (hS.cellB (i := 1) ⟨rfl, rfl⟩ hL_p0 (j := 0) rfl)) (gT (d0 := 12) rfl rfl hb2 (pv (r_lnN (q := 2) hS ⟨rfl, rfl⟩ rfl Try.underlying51) (gT (d0 := 12) rfl rfl hb2 (pv (r_ib rfl rfl rfl) (pv (r_pkf rfl hb2 rfl) (pv (r_mb rfl) (?_))))))))))))))))
    rcases Bool.eq_false_or_eq_true (decide ((List.length p0.list : Int) < p1)) with hb3 | hb3
    · have hm := ctrue hb3 hm
      refine gF (d0 := 21) rfl rfl (by rw [hb3]; rfl) (gF (d0 := 21) rfl rfl (by rw [hb3]; rfl) (gF (d0 := 21) rfl rfl (by rw [hb3]; rfl) (gF (d0 := 21) rfl rfl (by rw [hb3]; rfl) (gF (d0 := 21) rfl rfl (by rw [hb3]; rfl) (gF (d0 := 21) rfl rfl (by rw [hb3]; rfl) (gF (d0 := 21) rfl rfl (by rw [hb3]; rfl) (gF (d0 := 21) rfl rfl (by rw [hb3]; rfl) (gF (d0 := 21) rfl rfl (by rw [hb3]; rfl) (pv (r_pkt rfl hb3 rfl) (pv (r_zb rfl) (nil (t_thenR [(0, .pointer (some ⟨b_p0, o_p0, none⟩)), (1, .int .i64 p1), (9, .bool true)] ⟨rfl, rfl, rfl, trivial⟩ fun J => ?_))))))))))))
      refine cnd (b := true) rfl (fun _ => ?_) (fun h => nomatch h)
      refine sq2 ?_
      refine rg (pv (r_zp rfl) (pv (r_zi rfl) (nil (t_then ?_))))
      have hm := Option.some.inj hm
      subst hm
      exact rtn (r_blk (r_then (retN (vs := [.pointer none, .int .i64 4]) rfl ⟨rfl, rfl, trivial⟩ rfl ⟨_, rfl, _, Im.refl, ⟨_, rfl, hS.sel [0, 1, 2] rfl, ip_nil, trivial⟩⟩)))
    · have hm := cfalse hb3 hm
      refine gT (d0 := 21) rfl rfl hb3 (pv (r_mp rfl) (gT (d0 := 21) rfl rfl hb3 (pv (r_nc rfl) (gT (d0 := 21) rfl rfl hb3 (pv (r_fa rfl Try.underlying53 rfl Try.sizeOf51 rfl) (gT (d0 := 21) rfl rfl hb3 (pv (r_ld rfl Try.isAgg51 (hS.cellB (i := 1) ⟨rfl, rfl⟩ hL_p0 (j := 0) rfl)) (gT (d0 := 21) rfl rfl hb3 (pv (r_mi rfl) (gT (d0 := 21) rfl rfl hb3 (pv (r_ib rfl rfl rfl) (gT (d0 := 21) rfl rfl hb3 (?_)))))))))))))
      obtain ⟨u1, hx1, hm⟩ := bindS hm
      obtain ⟨b1, of1, k1, cp1, hv1, hp1, hl1, he1⟩ := hS.nhd (q := 2) ⟨rfl, rfl⟩ hx1 rfl
      obtain ⟨css1, cs1, hS1⟩ := hS.nfocus (q := 2) ⟨rfl, rfl⟩ hx1
      obtain ⟨⟨a2, n2, c2, a3, n3, c3, r1⟩, hS2⟩ := hS1.exE
      obtain ⟨hcs1, hS3⟩ := hS2.pE
      subst hcs1
      have hS4 : Sep g T0 w0 [ownA (rInt .u8) 5 (.slice a2 n2 c2) u1.bytes.data, ownA rBool 4 (.slice a3 n3 c3) u1.bytes.set_, mapA (Value.int .i64) encStorePtr (.map r1) u1.ptrs, elsA nEStoreObject p0.list css1 (some (Int.toNat (IntKind.wrap .i64 (p1 - 1)))), R, H_p0 [.slice a1 n1 c1], (holeA (rRaw 4) 59 (.slice a1 n1 c1) css1 (Int.toNat (IntKind.wrap .i64 (p1 - 1)))) [.slice a2 n2 c2, .slice a3 n3 c3, .map r1, .bool u1.gone]] := hS3.unb
      refine pv (r_ixe hv1 rfl Try.underlying51 Try.sizeOf59 hp1 hl1 he1) (gT (d0 := 21) rfl rfl hb3 (pv (r_fa rfl Try.underlying59 rfl Try.sizeOf4 rfl) (gT (d0 := 21) rfl rfl hb3 (pv (r_ld rfl Try.isAgg4 (hS4.cellB (i := 6) ⟨rfl, rfl⟩ (lnHole (i := IntKind.wrap .i64 (p1 - 1)) hv1 he1) (j := 3) rfl)) (pv (r_pkf rfl hb3 rfl) (pv (r_zb rfl) (nil (t_thenR [(0, .pointer (some ⟨b_p0, o_p0, none⟩)), (1, .int .i64 p1), (9, .bool u1.gone)] ⟨rfl, rfl, rfl, trivial⟩ fun J => ?_))))))))
      refine cnd rfl (fun hb4 => ?_) (fun hb4 => ?_)
      · have hm := ctrue hb4 hm
        refine sq2 ?_
        refine rg (pv (r_zp rfl) (pv (r_zi rfl) (nil (t_then ?_))))
        have hS5 := hS4.bun [0, 1, 2] [3, 4, 5, 6] rfl
        have hS6 : Sep g T0 w0 [nEStoreObject.A u1 [.slice a2 n2 c2, .slice a3 n3 c3, .map r1, .bool u1.gone], elsA nEStoreObject p0.list css1 (some (Int.toNat (IntKind.wrap .i64 (p1 - 1)))), R, H_p0 [.slice a1 n1 c1], (holeA (rRaw 4) 59 (.slice a1 n1 c1) css1 (Int.toNat (IntKind.wrap .i64 (p1 - 1)))) [.slice a2 n2 c2, .slice a3 n3 c3, .map r1, .bool u1.gone]] := Sep.exI (a2, n2, c2, a3, n3, c3, r1) (Sep.pI rfl hS5)
        have hS7 : Sep g T0 w0 [R, H_p0 [.slice a1 n1 c1], nestA nEStoreObject 59 (.slice a1 n1 c1) p0.list] := hS6.nunfocus0 (q := 2) ⟨rfl, rfl⟩ hx1
        have hm := Option.some.inj hm
        subst hm
        exact rtn (r_blk (r_then (retN (vs := [.pointer none, .int .i64 4]) rfl ⟨rfl, rfl, trivial⟩ rfl ⟨_, rfl, _, Im.refl, ⟨_, rfl, hS7.sel [0, 1, 2] rfl, ip_nil, trivial⟩⟩)))
      · have hm := cfalse hb4 hm
        refine skp (t_blk (t_then ?_))
        refine sq2 ?_
        refine rg (pv (r_mp rfl) (pv (r_nc rfl) (pv (r_fa rfl Try.underlying53 rfl Try.sizeOf51 rfl) (pv (r_ld rfl Try.isAgg51 (hS4.cellB (i := 5) ⟨rfl, rfl⟩ hL_p0 (j := 0) rfl)) (pv (r_mi rfl) (pv (r_ib rfl rfl rfl) (?_)))))))
        obtain ⟨u2, hx2, hm⟩ := bindS hm
        have hS8 := hS4.bun [0, 1, 2] [3, 4, 5, 6] rfl
        have hS9 : Sep g T0 w0 [nEStoreObject.A u1 [.slice a2 n2 c2, .slice a3 n3 c3, .map r1, .bool u1.gone], elsA nEStoreObject p0.list css1 (some (Int.toNat (IntKind.wrap .i64 (p1 - 1)))), R, H_p0 [.slice a1 n1 c1], (holeA (rRaw 4) 59 (.slice a1 n1 c1) css1 (Int.toNat (IntKind.wrap .i64 (p1 - 1)))) [.slice a2 n2 c2, .slice a3 n3 c3, .map r1, .bool u1.gone]] := Sep.exI (a2, n2, c2, a3, n3, c3, r1) (Sep.pI rfl hS8)
        have hS10 : Sep g T0 w0 [R, H_p0 [.slice a1 n1 c1], nestA nEStoreObject 59 (.slice a1 n1 c1) p0.list] := hS9.nunfocus0 (q := 2) ⟨rfl, rfl⟩ hx1
        obtain ⟨b2, of2, k2, cp2, hv2, hp2, hl2, he2⟩ := hS10.nhd (q := 2) ⟨rfl, rfl⟩ hx2 rfl
        obtain ⟨css2, cs2, hS11⟩ := hS10.nfocus (q := 2) ⟨rfl, rfl⟩ hx2
        obtain ⟨⟨a4, n4, c4, a5, n5, c5, r2⟩, hS12⟩ := hS11.exE
        obtain ⟨hcs2, hS13⟩ := hS12.pE
        subst hcs2
        have hS14 : Sep g T0 w0 [ownA (rInt .u8) 5 (.slice a4 n4 c4) u2.bytes.data, ownA rBool 4 (.slice a5 n5 c5) u2.bytes.set_, mapA (Value.int .i64) encStorePtr (.map r2) u2.ptrs, elsA nEStoreObject p0.list css2 (some (Int.toNat (IntKind.wrap .i64 (p1 - 1)))), R, H_p0 [.slice a1 n1 c1], (holeA (rRaw 4) 59 (.slice a1 n1 c1) css2 (Int.toNat (IntKind.wrap .i64 (p1 - 1)))) [.slice a4 n4 c4, .slice a5 n5 c5, .map r2, .bool u2.gone]] := hS13.unb
        refine pv (r_ixe hv2 rfl Try.underlying51 Try.sizeOf59 hp2 hl2 he2) (pv (r_zp rfl) (pv (r_zi rfl) (nil (t_thenR [(4, .pointer (some ⟨b2, of2, none⟩)), (5, .int .i64 0)] ⟨rfl, rfl, trivial⟩ fun J => ?_))))
        have hS15 := hS14.bun [0, 1, 2] [3, 4, 5, 6] rfl
        have hS16 : Sep g T0 w0 [nEStoreObject.A u2 [.slice a4 n4 c4, .slice a5 n5 c5, .map r2, .bool u2.gone], elsA nEStoreObject p0.list css2 (some (Int.toNat (IntKind.wrap .i64 (p1 - 1)))), R, H_p0 [.slice a1 n1 c1], (holeA (rRaw 4) 59 (.slice a1 n1 c1) css2 (Int.toNat (IntKind.wrap .i64 (p1 - 1)))) [.slice a4 n4 c4, .slice a5 n5 c5, .map r2, .bool u2.gone]] := Sep.exI (a4, n4, c4, a5, n5, c5, r2) (Sep.pI rfl hS15)
        have hS17 : Sep g T0 w0 [R, H_p0 [.slice a1 n1 c1], nestA nEStoreObject 59 (.slice a1 n1 c1) p0.list] := hS16.nunfocus0 (q := 2) ⟨rfl, rfl⟩ hx2
        have hm := Option.some.inj hm
        subst hm
        exact rtn (retN (vs := [.pointer (some ⟨b2, of2, none⟩), .int .i64 0]) rfl ⟨rfl, rfl, trivial⟩ rfl ⟨_, rfl, _, Im.refl, ⟨_, rfl, hS17.sel [0, 1, 2] rfl, (ip_at hv2 hp2 he2), trivial⟩⟩)

set_option maxRecDepth 100000 in
set_option maxHeartbeats 1000000 in
theorem store_Store_Fill_sim {g : World} {T0 : Nat → Prop} {w0 : World} {R : Assn} {p0 : StoreStore} {b_p0 o_p0 : Nat} {H_p0 : List Value → Assn} {a1 : Option Addr} {n1 : Nat} {c1 : Nat} {p1 : Int} {p2 : List Int} {a2 : Option Addr} {c2 : Nat} {r : Int × StoreStore} (hS : Sep g T0 w0 [R, H_p0 [.slice a1 n1 c1], nestA nEStoreObject 59 (.slice a1 n1 c1) p0.list]) (hL_p0 : Ln b_p0 o_p0 H_p0) (h1 : SlR (rInt .u8) T0 w0 (.slice a2 (List.length p2) c2) p2) (hm : store_Store_Fill p0 p1 p2 = some r) :
    Calls Try.prog 12 #[.pointer (some ⟨b_p0, o_p0, none⟩), .int .i64 p1, .slice a2 (List.length p2) c2] w0 (RetS T0 w0 fun T w v => ∃ (a9 : Option Addr) (n8 : Nat) (c9 : Nat), v = .int .i64 r.1 ∧ Sep g T w [R, H_p0 [.slice a9 n8 c9], nestA nEStoreObject 59 (.slice a9 n8 c9) r.2.list] ∧ True) := by
  refine enter (args := [.pointer (some ⟨b_p0, o_p0, none⟩), .int .i64 p1, .slice a2 (List.length p2) c2]) Try.func12 rfl Try.ntmps12 rfl fun J => ?_
  unfold store_Store_Fill at hm
  refine sq2 ?_
  refine rg (pv (r_zi rfl) (nil (t_then ?_)))
  refine sq2 ?_
  obtain ⟨y1, hx1, hm⟩ := bindS hm
  refine rg (pv (r_mp rfl) (pv (r_mi rfl) (wl rfl (calS cf21 rfl (store_Store_object_sim (p0 := p0) (H_p0 := H_p0) (p1 := p1) (hS.bun [0] [1, 2] rfl) hL_p0 hx1) rfl fun v1 T1 w1 im1 rv1 => ?_))))
  obtain ⟨pv1, rfl, hS1, h2, _⟩ := rv1
  have hS1 : Sep g T1 w1 [R, H_p0 [.slice a1 n1 c1], nestA nEStoreObject 59 (.slice a1 n1 c1) p0.list] := hS1.unb
  refine pv (r_mv rfl) (pv (r_ex (v := pv1) rfl rfl) (pv (r_ex (v := .int .i64 y1.2) rfl rfl) (pv (r_zx (v := pv1) rfl) (pv (r_zi rfl) (nil (t_thenR [(2, .slice a2 (List.length p2) c2), (7, pv1), (8, .int .i64 y1.2)] ⟨rfl, rfl, rfl, trivial⟩ fun J => ?_))))))
  refine sq2 ?_
  refine blk ?_
  refine sq2 ?_
  refine rg (pv (r_mi rfl) (pv (r_ib rfl rfl rfl) (pv (r_zb rfl) (nil (t_then ?_)))))
  refine cnd rfl (fun hb1 => ?_) (fun hb1 => ?_)
  · have hm := ctrue hb1 hm
    refine sq2 ?_
    refine rg (pv (r_mi rfl) (pv (r_zi rfl) (nil (t_thenR [(6, .int .i64 y1.2)] ⟨rfl, trivial⟩ fun J => ?_))))
    have hm := Option.some.inj hm
    subst hm
    exact rtn (r_blk (r_then (ret1 rfl rfl ⟨_, rfl, _, im1, ⟨_, _, _, rfl, hS1.sel [0, 1, 2] rfl, trivial⟩⟩)))
  · have hm := cfalse hb1 hm
    refine sq2 ?_
    refine rg (pv (r_ms rfl) (pv (r_ln rfl Try.underlying41) (pv (r_mx (v := pv1) rfl) (?_))))
    obtain ⟨u1, hx2, hm⟩ := bindS hm
    obtain ⟨b1, of1, k1, cp1, hv1, hp1, hl1, he1⟩ := hS1.nhd (q := 2) ⟨rfl, rfl⟩ hx2 rfl
    obtain ⟨css1, cs1, hS2⟩ := hS1.nfocus (q := 2) ⟨rfl, rfl⟩ hx2
    obtain ⟨⟨a3, n2, c3, a4, n3, c4, r1⟩, hS3⟩ := hS2.exE
    obtain ⟨hcs1, hS4⟩ := hS3.pE
    subst hcs1
    have hS5 : Sep g T1 w1 [ownA (rInt .u8) 5 (.slice a3 n2 c3) u1.bytes.data, ownA rBool 4 (.slice a4 n3 c4) u1.bytes.set_, mapA (Value.int .i64) encStorePtr (.map r1) u1.ptrs, elsA nEStoreObject p0.list css1 (some (Int.toNat y1.1)), R, H_p0 [.slice a1 n1 c1], (holeA (rRaw 4) 59 (.slice a1 n1 c1) css1 (Int.toNat y1.1)) [.slice a3 n2 c3, .slice a4 n3 c4, .map r1, .bool u1.gone]] := hS4.unb
    have hp2 := IpR.at2 h2 hp1 hv1 he1
    subst hp2
    refine pv (r_nc rfl) (pv (r_fa rfl Try.underlying59 rfl Try.sizeOf56 rfl) (pv (r_fa rfl Try.underlying56 rfl Try.sizeOf41 rfl) (pv (r_ld rfl Try.isAgg41 (hS5.cellB (i := 6) ⟨rfl, rfl⟩ (lnHole (i := y1.1) hv1 he1) (j := 0) rfl)) (pv (r_lnV rfl (hS5.own (i := 0) ⟨rfl, rfl⟩).v Try.underlying41) (pv (r_ib rfl rfl rfl) (pv (r_zb rfl) (nil (t_thenR [(2, .slice a2 (List.length p2) c2), (7, .pointer (some ⟨b1, of1, none⟩)), (21, .bool (decide ((List.length u1.bytes.data : Int) < (List.length p2 : Int))))] ⟨rfl, rfl, rfl, trivial⟩ fun J => ?_))))))))
    refine cnd rfl (fun hb2 => ?_) (fun hb2 => ?_)
    · have hm := ctrue hb2 hm
      refine sq2 ?_
      refine rg (pv (r_zi rfl) (nil (t_then ?_)))
      have hS6 := hS5.bun [0, 1, 2] [3, 4, 5, 6] rfl
      have hS7 : Sep g T1 w1 [nEStoreObject.A u1 [.slice a3 n2 c3, .slice a4 n3 c4, .map r1, .bool u1.gone], elsA nEStoreObject p0.list css1 (some (Int.toNat y1.1)), R, H_p0 [.slice a1 n1 c1], (holeA (rRaw 4) 59 (.slice a1 n1 c1) css1 (Int.toNat y1.1)) [.slice a3 n2 c3, .slice a4 n3 c4, .map r1, .bool u1.gone]] := Sep.exI (a3, n2, c3, a4, n3, c4, r1) (Sep.pI rfl hS6)
      have hS8 : Sep g T1 w1 [R, H_p0 [.slice a1 n1 c1], nestA nEStoreObject 59 (.slice a1 n1 c1) p0.list] := hS7.nunfocus0 (q := 2) ⟨rfl, rfl⟩ hx2
      have hm := Option.some.inj hm
      subst hm
      exact rtn (r_blk (r_then (ret1 rfl rfl ⟨_, rfl, _, im1, ⟨_, _, _, rfl, hS8.sel [0, 1, 2] rfl, trivial⟩⟩)))
    · have hm := cfalse hb2 hm
      refine skp (t_blk (t_then ?_))
      refine sq2 ?_
      refine sq2 ?_
      refine rg (pv (r_ms rfl) (pv (r_ln rfl Try.underlying41) (pv (r_mi rfl) (nil (t_then ?_)))))
      obtain ⟨o1, ho1, hq1⟩ := bindS hm
      obtain ⟨bd1, hbd1, ho1⟩ := loop_open ho1
      refine blk (wp_loop_ghost (fun m a w2 => ∃ (J : Nat → Value) (T2 : Nat → Prop) (x5 : StoreObject) (a5 : Option Addr) (n4 : Nat) (c5 : Nat) (a6 : Option Addr) (n5 : Nat) (c6 : Nat) (r2 : Option Nat) (x4 : Int), a = env (nf 57) J [(7, .pointer (some ⟨b1, of1, none⟩)), (31, .slice a2 (List.length p2) c2), (32, .int .i64 (List.length p2 : Int)), (33, .int .i64 x4)] ∧ Im T1 w1 T2 w2 ∧ Sep g T2 w2 [ownA (rInt .u8) 5 (.slice a5 n4 c5) x5.bytes.data, ownA rBool 4 (.slice a6 n5 c6) x5.bytes.set_, mapA (Value.int .i64) encStorePtr (.map r2) x5.ptrs, elsA nEStoreObject p0.list css1 (some (Int.toNat y1.1)), R, H_p0 [.slice a1 n1 c1], (holeA (rRaw 4) 59 (.slice a1 n1 c1) css1 (Int.toNat y1.1)) [.slice a5 n4 c5, .slice a6 n5 c6, .map r2, .bool x5.gone]] ∧ loopM bd1 m (x4, x5) = some o1) NN ⟨_, _, u1, _, _, _, _, _, _, _, 0, env_has ⟨rfl, rfl, rfl, rfl, trivial⟩, Im.refl, hS5.sel [0, 1, 2, 3, 4, 5, 6] rfl, ho1⟩ ?_)
      rintro m _ w2 ⟨J, T2, x5, a5, n4, c5, a6, n5, c6, r2, x4, rfl, im2, hS9, ho1⟩
      obtain ⟨m1, z1, rfl, hm, hn1⟩ := loop_round ho1
      rw [hbd1] at hm
      refine sq2 ?_
      refine rg (pv (r_ib rfl rfl rfl) (nil (t_then ?_)))
      refine sq2 ?_
      refine cnd rfl (fun hb3 => ?_) (fun hb3 => ?_)
      · have hm := ctrue hb3 hm
        refine skp (t_then ?_)
        refine sq2 ?_
        refine blk ?_
        refine sq2 ?_
        obtain ⟨u2, hx3, hm⟩ := bindS hm
        obtain ⟨b2, of2, cs2, k2, cp2, hv2, hp3, hl2, he2, hr1, hc1, hT1⟩ := (h1.mono (Im.trans im1 im2)).ixT hx3 rfl
        cases hr1
        refine rg (pv (r_mi rfl) (pv (r_ixe hv2 rfl Try.underlying41 Try.sizeOf5 hp3 hl2 he2) (pv (r_ld rfl Try.isAgg5 (hc1.get (j := 0) rfl)) (pv (r_zi rfl) (pv (r_zi rfl) (nil (t_then ?_)))))))
        refine sq2 ?_
        obtain ⟨y2, hx4, hm⟩ := bindS hm
        refine rg (pv (r_mp rfl) (pv (r_mi rfl) (wl rfl (calS cf20 rfl (store_object_forget_sim (p0 := x5) (H_p0 := holeA (rRaw 4) 59 (.slice a1 n1 c1) css1 (Int.toNat y1.1)) (p1 := x4) (p2 := 1) (hS9.bun [3, 4, 5] [6, 0, 1, 2] rfl) (lnHole (i := y1.1) hv1 he1) hx4) rfl fun v2 T3 w3 im3 rv2 => ?_))))
        obtain ⟨a7, n6, c7, a8, n7, c8, r3, rfl, hS10, _⟩ := rv2
        have hS10 : Sep g T3 w3 [elsA nEStoreObject p0.list css1 (some (Int.toNat y1.1)), R, H_p0 [.slice a1 n1 c1], (holeA (rRaw 4) 59 (.slice a1 n1 c1) css1 (Int.toNat y1.1)) [.slice a7 n6 c7, .slice a8 n7 c8, .map r3, .bool y2.gone], ownA (rInt .u8) 5 (.slice a7 n6 c7) y2.bytes.data, ownA rBool 4 (.slice a8 n7 c8) y2.bytes.set_, mapA (Value.int .i64) encStorePtr (.map r3) y2.ptrs] := hS10.unb
        refine nil (t_thenR [(7, .pointer (some ⟨b1, of1, none⟩)), (9, .int .i64 x4), (10, .int .u8 u2), (31, .slice a2 (List.length p2) c2), (32, .int .i64 (List.length p2 : Int)), (33, .int .i64 x4)] ⟨rfl, rfl, rfl, rfl, rfl, rfl, trivial⟩ fun J => ?_)
        refine rs [0, 0, 0, 0, 1, 0, 0, 0, 0, 0, 1, 0, 0, 0, 2, 0, 2] [0, 1, 2, 3, 4, 5, 6, 7, 8, 9, 10, 11, 12, 13, 14, 15, 16] mix (by kernel_rfl) hS10.lt fun w4 i1 => ?_
        have im4 := i1.imm
        have hS11 := hS10.keep i1 (fun _ h => h)
        obtain ⟨u3, hx5, hm⟩ := bindS hm
        obtain ⟨b3, of3, cs3, k3, cp3, hv3, hp4, hl3, he3, hr2, hc2⟩ := (hS11.own (i := 4) ⟨rfl, rfl⟩).v.ixq hx5 rfl
        cases hr2
        obtain ⟨u4, hx6, hm⟩ := bindS hm
        refine s0 rfl trivial (fun _ => r_mp rfl) rfl (s0 rfl trivial (fun _ => r_nc rfl) rfl (s0 rfl trivial (fun _ => r_fa rfl Try.underlying59 rfl Try.sizeOf56 rfl) rfl (s0 rfl trivial (fun _ => r_fa rfl Try.underlying56 rfl Try.sizeOf41 rfl) rfl (s1 rfl trivial (r_ld rfl Try.isAgg41 (hS11.cellB (i := 3) ⟨rfl, rfl⟩ (lnHole (i := y1.1) hv1 he1) (j := 0) rfl)) rfl (s0 rfl trivial (fun _ => r_mi rfl) rfl (s0 rfl trivial (fun _ => r_mp rfl) rfl (s0 rfl trivial (fun _ => r_nc rfl) rfl (s0 rfl trivial (fun _ => r_fa rfl Try.underlying59 rfl Try.sizeOf56 rfl) rfl (s0 rfl trivial (fun _ => r_fa rfl Try.underlying56 rfl Try.sizeOf54 rfl) rfl (s1 rfl trivial (r_ld rfl Try.isAgg54 (hS11.cellB (i := 3) ⟨rfl, rfl⟩ (lnHole (i := y1.1) hv1 he1) (j := 1) rfl)) rfl (s0 rfl trivial (fun _ => r_mi rfl) rfl (s0 rfl trivial (fun _ => r_mi rfl) rfl (s0 rfl trivial (fun _ => r_ixe hv3 rfl Try.underlying41 Try.sizeOf5 hp4 hl3 he3) rfl (s2 [] rfl trivial rfl (by kernel_rfl) (stO (q := 4) (i := Int.toNat x4) (j := 0) (u := u4) (u' := u2) hS11 ⟨rfl, rfl⟩ hv3 (idx_some hx6).2.2 he3 rfl rfl rfl Try.sizeOf5 rfl rfl rfl (fun c0 hc0 => by rw [storeL_all (r := (rInt .u8)) hc0 rfl]; exact rfl) fun w5 im5 hS12 => ?_)))))))))))))))
        have hS12 : Sep g T3 w5 [elsA nEStoreObject p0.list css1 (some (Int.toNat y1.1)), R, H_p0 [.slice a1 n1 c1], (holeA (rRaw 4) 59 (.slice a1 n1 c1) css1 (Int.toNat y1.1)) [.slice a7 n6 c7, .slice a8 n7 c8, .map r3, .bool y2.gone], ownA (rInt .u8) 5 (.slice a7 n6 c7) (List.set y2.bytes.data (Int.toNat x4) u2), ownA rBool 4 (.slice a8 n7 c8) y2.bytes.set_, mapA (Value.int .i64) encStorePtr (.map r3) y2.ptrs] := hS12
        refine ⟨st0, ?_⟩
        obtain ⟨u5, hx7, hm⟩ := bindS hm
        obtain ⟨b4, of4, cs4, k4, cp4, hv4, hp5, hl4, he4, hr3, hc3⟩ := (hS12.own (i := 5) ⟨rfl, rfl⟩).v.ixq hx7 rfl
        cases hr3
        obtain ⟨u6, hx8, hm⟩ := bindS hm
        refine s0 rfl trivial (fun _ => r_ixe hv4 rfl Try.underlying54 Try.sizeOf4 hp5 hl4 he4) rfl (s2 [] rfl trivial rfl (by kernel_rfl) (stO (q := 5) (i := Int.toNat x4) (j := 0) (u := u6) (u' := true) hS12 ⟨rfl, rfl⟩ hv4 (idx_some hx8).2.2 he4 rfl rfl rfl Try.sizeOf4 rfl rfl rfl (fun c0 hc0 => by rw [storeL_all (r := rBool) hc0 rfl]; exact rfl) fun w6 im6 hS13 => ?_))
        have hS13 : Sep g T3 w6 [elsA nEStoreObject p0.list css1 (some (Int.toNat y1.1)), R, H_p0 [.slice a1 n1 c1], (holeA (rRaw 4) 59 (.slice a1 n1 c1) css1 (Int.toNat y1.1)) [.slice a7 n6 c7, .slice a8 n7 c8, .map r3, .bool y2.gone], ownA (rInt .u8) 5 (.slice a7 n6 c7) (List.set y2.bytes.data (Int.toNat x4) u2), ownA rBool 4 (.slice a8 n7 c8) (List.set y2.bytes.set_ (Int.toNat x4) true), mapA (Value.int .i64) encStorePtr (.map r3) y2.ptrs] := hS13
        refine ⟨st0, ?_⟩
        refine se (t_blk (t_thenR [(7, .pointer (some ⟨b1, of1, none⟩)), (31, .slice a2 (List.length p2) c2), (32, .int .i64 (List.length p2 : Int)), (33, .int .i64 x4)] ⟨rfl, rfl, rfl, rfl, trivial⟩ fun J => ?_))
        have hm := Option.some.inj hm
        subst hm
        exact rg (pv (r_ib rfl rfl rfl) (pv (r_mi rfl) (nil (t_then ⟨m1, Nat.lt_succ_self _, _, _, ({ y2 with bytes := (⟨List.set y2.bytes.data (Int.toNat x4) u2, List.set y2.bytes.set_ (Int.toNat x4) true⟩ : StoreBytes) }), _, _, _, _, _, _, _, (IntKind.wrap .i64 (x4 + 1)), env_has ⟨rfl, rfl, rfl, rfl, trivial⟩, (Im.trans im2 (Im.trans im3 (Im.trans im4 (Im.trans im5 im6)))), hS13.sel [4, 5, 6, 0, 1, 2, 3] rfl, hn1⟩))))
      · have hm := cfalse hb3 hm
        have hm := Option.some.inj hm
        subst hm
        have hn1 : _ = Lp.brk _ := hn1
        subst hn1
        have hm := thn_brk hq1
        refine xt (x_then (x_then (x_eq (t_thenR [] trivial fun J => ?_))))
        refine sq2 ?_
        refine rg (pv (r_zi rfl) (nil (t_then ?_)))
        have hS14 := hS9.bun [0, 1, 2] [3, 4, 5, 6] rfl
        have hS15 : Sep g T2 w2 [nEStoreObject.A x5 [.slice a5 n4 c5, .slice a6 n5 c6, .map r2, .bool x5.gone], elsA nEStoreObject p0.list css1 (some (Int.toNat y1.1)), R, H_p0 [.slice a1 n1 c1], (holeA (rRaw 4) 59 (.slice a1 n1 c1) css1 (Int.toNat y1.1)) [.slice a5 n4 c5, .slice a6 n5 c6, .map r2, .bool x5.gone]] := Sep.exI (a5, n4, c5, a6, n5, c6, r2) (Sep.pI rfl hS14)
        have hS16 : Sep g T2 w2 [R, H_p0 [.slice a1 n1 c1], nestA nEStoreObject 59 (.slice a1 n1 c1) (List.set p0.list (Int.toNat y1.1) x5)] := hS15.nunfocus (q := 2) ⟨rfl, rfl⟩ (idx_ltn hx2)
        have hm := Option.some.inj hm
        subst hm
        exact rtn (ret1 rfl rfl ⟨_, rfl, _, (Im.trans im1 im2), ⟨_, _, _, rfl, hS16.sel [0, 1, 2] rfl, trivial⟩⟩)

set_option maxRecDepth 100000 in
set_option maxHeartbeats 1000000 in
theorem store_Store_Part_sim {g : World} {T0 : Nat → Prop} {w0 : World} {R : Assn} {p0 : StoreStore} {b_p0 o_p0 : Nat} {H_p0 : List Value → Assn} {a1 : Option Addr} {n1 : Nat} {c1 : Nat} {p1 : StorePtr} {p2 : Int} {p3 : Int} {r : StorePtr × Int} (hS : Sep g T0 w0 [R, H_p0 [.slice a1 n1 c1], nestA nEStoreObject 59 (.slice a1 n1 c1) p0.list]) (hL_p0 : Ln b_p0 o_p0 H_p0) (hm : store_Store_Part p0 p1 p2 p3 = some r) :
    Calls Try.prog 13 #[.pointer (some ⟨b_p0, o_p0, none⟩), .agg #[.int .i64 p1.Obj, .int .i64 p1.Lo, .int .i64 p1.Hi, .int .i64 p1.Off], .int .i64 p2, .int .i64 p3] w0 (RetS T0 w0 fun T w v => v = .tuple #[.agg #[.int .i64 r.1.Obj, .int .i64 r.1.Lo, .int .i64 r.1.Hi, .int .i64 r.1.Off], .int .i64 r.2] ∧ Sep g T w [R, H_p0 [.slice a1 n1 c1], nestA nEStoreObject 59 (.slice a1 n1 c1) p0.list] ∧ True) := by
  refine enter (args := [.pointer (some ⟨b_p0, o_p0, none⟩), .agg #[.int .i64 p1.Obj, .int .i64 p1.Lo, .int .i64 p1.Hi, .int .i64 p1.Off], .int .i64 p2, .int .i64 p3]) Try.func13 rfl Try.ntmps13 rfl fun J => ?_
  unfold store_Store_Part at hm
  refine sq2 ?_
  refine rg (wl rfl (bxS (cs := [.int .i64 p1.Obj, .int .i64 p1.Lo, .int .i64 p1.Hi, .int .i64 p1.Off]) rfl rfl hS fun w1 b1 im1 hS1 => ?_))
  refine wl rfl (alS (zs := [.int .i64 0, .int .i64 0, .int .i64 0, .int .i64 0]) Try.zeroValue24 rfl hS1 fun w2 b2 im2 hS2 => ?_)
  refine pv (r_zi rfl) (nil (t_then ?_))
  refine sq2 ?_
  refine sq2 ?_
  obtain ⟨y1, hx1, hm⟩ := bindS hm
  refine rg (pv (r_mp rfl) (pv (r_ldS rfl Try.isAgg24 Try.sizeOf24 rfl (hS2.cells0 (i := 1) ⟨rfl, rfl⟩ (o := 0) rfl) (cs := [.int .i64 p1.Obj, .int .i64 p1.Lo, .int .i64 p1.Hi, .int .i64 p1.Off])) (wl rfl (calS cf18 rfl (store_Store_fit_sim (p0 := p0) (H_p0 := H_p0) (p1 := p1) (hS2.bun [0, 1, 2] [3, 4] rfl) hL_p0 hx1) rfl fun v1 T1 w3 im3 rv1 => ?_))))
  obtain ⟨pv1, rfl, hS3, h1, _⟩ := rv1
  have hS3 : Sep g T1 w3 [boxA b2 [.int .i64 0, .int .i64 0, .int .i64 0, .int .i64 0], boxA b1 [.int .i64 p1.Obj, .int .i64 p1.Lo, .int .i64 p1.Hi, .int .i64 p1.Off], R, H_p0 [.slice a1 n1 c1], nestA nEStoreObject 59 (.slice a1 n1 c1) p0.list] := hS3.unb
  refine pv (r_mv rfl) (pv (r_ex (v := pv1) rfl rfl) (pv (r_ex (v := .int .i64 y1.2) rfl rfl) (pv (r_zx (v := pv1) rfl) (pv (r_zi rfl) (nil (t_thenR [(2, .int .i64 p2), (3, .int .i64 p3), (5, .pointer (some ⟨b1, 0, none⟩)), (8, .pointer (some ⟨b2, 0, none⟩)), (11, .int .i64 y1.2)] ⟨rfl, rfl, rfl, rfl, rfl, trivial⟩ fun J => ?_))))))
  refine sq2 ?_
  refine rg (pv (r_mi rfl) (pv (r_ib rfl rfl rfl) (nil (t_then ?_))))
  refine cnd rfl (fun hb1 => ?_) (fun hb1 => ?_)
  · have hm := ctrue hb1 hm
    refine sq2 ?_
    refine rg (pv (r_bd (by kernel_rfl) rfl (u := .agg #[.int .i64 0, .int .i64 0, .int .i64 0, .int .i64 0])) (pv (r_mi rfl) (wl rfl (st0B (q := 0) hS3 ⟨rfl, rfl⟩ rfl rfl rfl Try.sizeOf24 rfl rfl rfl fun w4 im4 hS4 => ?_))))
    have hS4 : Sep g T1 w4 [boxA b2 [.int .i64 0, .int .i64 0, .int .i64 0, .int .i64 0], boxA b1 [.int .i64 p1.Obj, .int .i64 p1.Lo, .int .i64 p1.Hi, .int .i64 p1.Off], R, H_p0 [.slice a1 n1 c1], nestA nEStoreObject 59 (.slice a1 n1 c1) p0.list] := hS4
    refine pv (r_zi rfl) (nil (t_thenR [(8, .pointer (some ⟨b2, 0, none⟩)), (9, .int .i64 y1.2)] ⟨rfl, rfl, trivial⟩ fun J => ?_))
    have hm := Option.some.inj hm
    subst hm
    exact rtn (r_then (retN (vs := [.agg #[.int .i64 0, .int .i64 0, .int .i64 0, .int .i64 0], .int .i64 y1.2]) rfl ⟨rvS rfl Try.isAgg24 Try.sizeOf24 rfl (hS4.bx (i := 0) ⟨rfl, rfl⟩), rfl, trivial⟩ rfl ⟨_, rfl, _, (Im.trans im1 (Im.trans im2 (Im.trans im3 im4))), ⟨rfl, hS4.sel [2, 3, 4] rfl, trivial⟩⟩))
  · have hm := cfalse hb1 hm
    refine skp (t_then ?_)
    refine sq2 ?_
    refine sq2 ?_
    obtain ⟨y2, hx2, hm⟩ := bindS hm
    refine rg (pv (r_ldS rfl Try.isAgg24 Try.sizeOf24 rfl (hS3.cells0 (i := 1) ⟨rfl, rfl⟩ (o := 0) rfl) (cs := [.int .i64 p1.Obj, .int .i64 p1.Lo, .int .i64 p1.Hi, .int .i64 p1.Off])) (pv (r_mi rfl) (pv (r_mi rfl) (wl rfl (calS cf22 rfl (store_within_sim (p0 := p1) (p1 := p2) (p2 := p3) (hS3.bun [0, 1, 2, 3, 4] [] rfl)  hx2) rfl fun v2 T2 w5 im5 rv2 => ?_)))))
    obtain ⟨rfl, hS5, _⟩ := rv2
    have hS5 : Sep g T2 w5 [boxA b2 [.int .i64 0, .int .i64 0, .int .i64 0, .int .i64 0], boxA b1 [.int .i64 p1.Obj, .int .i64 p1.Lo, .int .i64 p1.Hi, .int .i64 p1.Off], R, H_p0 [.slice a1 n1 c1], nestA nEStoreObject 59 (.slice a1 n1 c1) p0.list] := hS5.unb
    refine pv (r_nt rfl) (nil (t_thenR [(2, .int .i64 p2), (3, .int .i64 p3), (5, .pointer (some ⟨b1, 0, none⟩)), (8, .pointer (some ⟨b2, 0, none⟩)), (27, .bool (!y2))] ⟨rfl, rfl, rfl, rfl, rfl, trivial⟩ fun J => ?_))
    refine cnd rfl (fun hb2 => ?_) (fun hb2 => ?_)
    · have hm := ctrue hb2 hm
      refine sq2 ?_
      refine rg (pv (r_bd (by kernel_rfl) rfl (u := .agg #[.int .i64 0, .int .i64 0, .int .i64 0, .int .i64 0])) (wl rfl (st0B (q := 0) hS5 ⟨rfl, rfl⟩ rfl rfl rfl Try.sizeOf24 rfl rfl rfl fun w6 im6 hS6 => ?_)))
      have hS6 : Sep g T2 w6 [boxA b2 [.int .i64 0, .int .i64 0, .int .i64 0, .int .i64 0], boxA b1 [.int .i64 p1.Obj, .int .i64 p1.Lo, .int .i64 p1.Hi, .int .i64 p1.Off], R, H_p0 [.slice a1 n1 c1], nestA nEStoreObject 59 (.slice a1 n1 c1) p0.list] := hS6
      refine pv (r_zi rfl) (nil (t_thenR [(8, .pointer (some ⟨b2, 0, none⟩)), (9, .int .i64 12)] ⟨rfl, rfl, trivial⟩ fun J => ?_))
      have hm := Option.some.inj hm
      subst hm
      exact rtn (r_then (retN (vs := [.agg #[.int .i64 0, .int .i64 0, .int .i64 0, .int .i64 0], .int .i64 12]) rfl ⟨rvS rfl Try.isAgg24 Try.sizeOf24 rfl (hS6.bx (i := 0) ⟨rfl, rfl⟩), rfl, trivial⟩ rfl ⟨_, rfl, _, (Im.trans im1 (Im.trans im2 (Im.trans im3 (Im.trans im5 im6)))), ⟨rfl, hS6.sel [2, 3, 4] rfl, trivial⟩⟩))
    · have hm := cfalse hb2 hm
      refine skp (t_then ?_)
      refine sq2 ?_
      refine rg (pv (r_fa rfl Try.underlying24 rfl Try.sizeOf3 rfl) (pv (r_ld rfl Try.isAgg3 (hS5.cell0 (i := 1) ⟨rfl, rfl⟩ (j := 3) rfl)) (pv (r_mi rfl) (pv (r_ib rfl rfl rfl) (pv (r_zi rfl) (nil (t_thenR [(3, .int .i64 p3), (5, .pointer (some ⟨b1, 0, none⟩)), (8, .pointer (some ⟨b2, 0, none⟩)), (12, .int .i64 (IntKind.wrap .i64 (p1.Off + p2)))] ⟨rfl, rfl, rfl, rfl, trivial⟩ fun J => ?_)))))))
      refine sq2 ?_
      refine rg (pv (r_fa rfl Try.underlying24 rfl Try.sizeOf3 rfl) (pv (r_ld rfl Try.isAgg3 (hS5.cell0 (i := 1) ⟨rfl, rfl⟩ (j := 0) rfl)) (pv (r_mi rfl) (pv (r_mi rfl) (pv (r_mi rfl) (pv (r_ib rfl rfl rfl) (pv (r_mi rfl) (pv (r_bd (by kernel_rfl) rfl (u := .agg #[.int .i64 p1.Obj, .int .i64 (IntKind.wrap .i64 (p1.Off + p2)), .int .i64 (IntKind.wrap .i64 ((IntKind.wrap .i64 (p1.Off + p2)) + p3)), .int .i64 (IntKind.wrap .i64 (p1.Off + p2))])) (wl rfl (st0B (q := 0) hS5 ⟨rfl, rfl⟩ rfl rfl rfl Try.sizeOf24 rfl rfl rfl fun w7 im7 hS7 => ?_))))))))))
      have hS7 : Sep g T2 w7 [boxA b2 [.int .i64 p1.Obj, .int .i64 (IntKind.wrap .i64 (p1.Off + p2)), .int .i64 (IntKind.wrap .i64 ((IntKind.wrap .i64 (p1.Off + p2)) + p3)), .int .i64 (IntKind.wrap .i64 (p1.Off + p2))], boxA b1 [.int .i64 p1.Obj, .int .i64 p1.Lo, .int .i64 p1.Hi, .int .i64 p1.Off], R, H_p0 [.slice a1 n1 c1], nestA nEStoreObject 59 (.slice a1 n1 c1) p0.list] := hS7
      refine pv (r_zi rfl) (nil (t_thenR [(8, .pointer (some ⟨b2, 0, none⟩)), (9, .int .i64 0)] ⟨rfl, rfl, trivial⟩ fun J => ?_))
      have hm := Option.some.inj hm
      subst hm
      exact rtn (retN (vs := [.agg #[.int .i64 p1.Obj, .int .i64 (IntKind.wrap .i64 (p1.Off + p2)), .int .i64 (IntKind.wrap .i64 ((IntKind.wrap .i64 (p1.Off + p2)) + p3)), .int .i64 (IntKind.wrap .i64 (p1.Off + p2))], .int .i64 0]) rfl ⟨rvS rfl Try.isAgg24 Try.sizeOf24 rfl (hS7.bx (i := 0) ⟨rfl, rfl⟩), rfl, trivial⟩ rfl ⟨_, rfl, _, (Im.trans im1 (Im.trans im2 (Im.trans im3 (Im.trans im5 im7)))), ⟨rfl, hS7.sel [2, 3, 4] rfl, trivial⟩⟩)

set_option maxRecDepth 100000 in
set_option maxHeartbeats 1000000 in
theorem store_Store_Unset_sim {g : World} {T0 : Nat → Prop} {w0 : World} {R : Assn} {p0 : StoreStore} {b_p0 o_p0 : Nat} {H_p0 : List Value → Assn} {a1 : Option Addr} {n1 : Nat} {c1 : Nat} {p1 : Int} {r : Int × StoreStore} (hS : Sep g T0 w0 [R, H_p0 [.slice a1 n1 c1], nestA nEStoreObject 59 (.slice a1 n1 c1) p0.list]) (hL_p0 : Ln b_p0 o_p0 H_p0) (hm : store_Store_Unset p0 p1 = some r) :
    Calls Try.prog 14 #[.pointer (some ⟨b_p0, o_p0, none⟩), .int .i64 p1] w0 (RetS T0 w0 fun T w v => ∃ (a6 : Option Addr) (n6 : Nat) (c6 : Nat), v = .int .i64 r.1 ∧ Sep g T w [R, H_p0 [.slice a6 n6 c6], nestA nEStoreObject 59 (.slice a6 n6 c6) r.2.list] ∧ True) := by
  refine enter (args := [.pointer (some ⟨b_p0, o_p0, none⟩), .int .i64 p1]) Try.func14 rfl Try.ntmps14 rfl fun J => ?_
  unfold store_Store_Unset at hm
  refine sq2 ?_
  refine rg (pv (r_zi rfl) (nil (t_then ?_)))
  refine sq2 ?_
  obtain ⟨y1, hx1, hm⟩ := bindS hm
  refine rg (pv (r_mp rfl) (pv (r_mi rfl) (wl rfl (calS cf21 rfl (store_Store_object_sim (p0 := p0) (H_p0 := H_p0) (p1 := p1) (hS.bun [0] [1, 2] rfl) hL_p0 hx1) rfl fun v1 T1 w1 im1 rv1 => ?_))))
  obtain ⟨pv1, rfl, hS1, h1, _⟩ := rv1
  have hS1 : Sep g T1 w1 [R, H_p0 [.slice a1 n1 c1], nestA nEStoreObject 59 (.slice a1 n1 c1) p0.list] := hS1.unb
  refine pv (r_mv rfl) (pv (r_ex (v := pv1) rfl rfl) (pv (r_ex (v := .int .i64 y1.2) rfl rfl) (pv (r_zx (v := pv1) rfl) (pv (r_zi rfl) (nil (t_thenR [(5, pv1), (6, .int .i64 y1.2)] ⟨rfl, rfl, trivial⟩ fun J => ?_))))))
  refine sq2 ?_
  refine sq2 ?_
  refine rg (pv (r_mi rfl) (pv (r_ib rfl rfl rfl) (nil (t_then ?_))))
  refine cnd rfl (fun hb1 => ?_) (fun hb1 => ?_)
  · have hm := ctrue hb1 hm
    refine sq2 ?_
    refine rg (pv (r_mi rfl) (pv (r_zi rfl) (nil (t_thenR [(4, .int .i64 y1.2)] ⟨rfl, trivial⟩ fun J => ?_))))
    have hm := Option.some.inj hm
    subst hm
    exact rtn (r_then (ret1 rfl rfl ⟨_, rfl, _, im1, ⟨_, _, _, rfl, hS1.sel [0, 1, 2] rfl, trivial⟩⟩))
  · have hm := cfalse hb1 hm
    refine skp (t_then ?_)
    refine sq2 ?_
    refine rt [0, 0, 0, 0, 0, 1, 0, 2, 0, 0, 0, 0, 1, 0, 2, 0, 0, 0, 2] [0, 1, 2, 3, 4, 5, 6, 8, 9, 10, 11, 12, 13, 7, 14, 15, 16, 17, 18] mix (by kernel_rfl) hS1.lt fun w2 i1 => ?_
    have im2 := i1.imm
    have hS2 := hS1.keep i1 (fun _ h => h)
    refine t0 rfl trivial (fun _ => r_mx (v := pv1) rfl) rfl (t0 rfl trivial (fun _ => r_mx (v := pv1) rfl) rfl (?_))
    obtain ⟨u1, hx2, hm⟩ := bindS hm
    obtain ⟨b1, of1, k1, cp1, hv1, hp1, hl1, he1⟩ := hS2.nhd (q := 2) ⟨rfl, rfl⟩ hx2 rfl
    obtain ⟨css1, cs1, hS3⟩ := hS2.nfocus (q := 2) ⟨rfl, rfl⟩ hx2
    obtain ⟨⟨a2, n2, c2, a3, n3, c3, r1⟩, hS4⟩ := hS3.exE
    obtain ⟨hcs1, hS5⟩ := hS4.pE
    subst hcs1
    have hS6 : Sep g T1 w2 [ownA (rInt .u8) 5 (.slice a2 n2 c2) u1.bytes.data, ownA rBool 4 (.slice a3 n3 c3) u1.bytes.set_, mapA (Value.int .i64) encStorePtr (.map r1) u1.ptrs, elsA nEStoreObject p0.list css1 (some (Int.toNat y1.1)), R, H_p0 [.slice a1 n1 c1], (holeA (rRaw 4) 59 (.slice a1 n1 c1) css1 (Int.toNat y1.1)) [.slice a2 n2 c2, .slice a3 n3 c3, .map r1, .bool u1.gone]] := hS5.unb
    have hp2 := IpR.at2 h1 hp1 hv1 he1
    subst hp2
    obtain ⟨u2, hx3, hm⟩ := bindS hm
    obtain ⟨u3, hx4, hm⟩ := bindS hm
    refine t0 rfl trivial (fun _ => r_nc rfl) rfl (t0 rfl trivial (fun _ => r_fa rfl Try.underlying59 rfl Try.sizeOf56 rfl) rfl (t0 rfl trivial (fun _ => r_fa rfl Try.underlying56 rfl Try.sizeOf41 rfl) rfl (t1 rfl trivial (r_ld rfl Try.isAgg41 (hS6.cellB (i := 6) ⟨rfl, rfl⟩ (lnHole (i := y1.1) hv1 he1) (j := 0) rfl)) rfl (t0 rfl trivial (fun _ => r_lnV rfl (hS6.own (i := 0) ⟨rfl, rfl⟩).v Try.underlying41) rfl (t0 rfl trivial (fun _ => r_mp rfl) rfl (t0 rfl trivial (fun _ => r_nc rfl) rfl (t0 rfl trivial (fun _ => r_fa rfl Try.underlying59 rfl Try.sizeOf56 rfl) rfl (t0 rfl trivial (fun _ => r_fa rfl Try.underlying56 rfl Try.sizeOf41 rfl) rfl (t1 rfl trivial (r_ld rfl Try.isAgg41 (hS6.cellB (i := 6) ⟨rfl, rfl⟩ (lnHole (i := y1.1) hv1 he1) (j := 0) rfl)) rfl (t0 rfl trivial (fun _ => r_lnV rfl (hS6.own (i := 0) ⟨rfl, rfl⟩).v Try.underlying41) rfl (tw [7, 14] rfl (wt_of rfl rfl trivial) rfl (by kernel_rfl) (by kernel_rfl) ⟨br [14, 15, 16, 17, 18] [(12, .slice a2 n2 c2)] rfl (by kernel_rfl) (by kernel_rfl) trivial (by kernel_rfl) (msS (r := (rInt .u8)) hS6 rfl rfl Try.underlying41 el5 Try.zeroValue5 rfl hx3 fun w3 a4 n4 c4 im3 hS7 => ?_), br [7, 15, 16, 17, 18] [(5, .slice a2 n2 c2)] rfl (by kernel_rfl) (by kernel_rfl) trivial (by kernel_rfl) (msS (r := rBool) hS6 rfl rfl Try.underlying54 el4 Try.zeroValue4 rfl hx4 fun w3 a4 n4 c4 im3 hS7 => ?_), trivial⟩)))))))))))
    · refine ⟨st1 rfl (r_ld rfl Try.isAgg41 (hS7.cellB (i := 7) ⟨rfl, rfl⟩ (lnHole (i := y1.1) hv1 he1) (j := 0) rfl)) (st0), ?_⟩
      refine tw [14] rfl (wt_of rfl rfl trivial) rfl (by kernel_rfl) (by kernel_rfl) ⟨br [15, 16, 17, 18] [] rfl (by kernel_rfl) (by kernel_rfl) trivial (by kernel_rfl) (msS (r := rBool) hS7 rfl rfl Try.underlying54 el4 Try.zeroValue4 rfl hx4 fun w4 a5 n5 c5 im4 hS8 => ?_), trivial⟩
      refine ⟨st0, ?_⟩
      refine t0 rfl trivial (fun _ => r_bd (by kernel_rfl) rfl (u := .agg #[.slice a4 n4 c4, .slice a5 n5 c5])) rfl (t0 rfl trivial (fun _ => r_nc rfl) rfl (t0 rfl trivial (fun _ => r_fa rfl Try.underlying59 rfl Try.sizeOf56 rfl) rfl (tw [18] rfl (wt_of rfl rfl trivial) rfl (by kernel_rfl) (by kernel_rfl) ⟨br [] [] rfl (by kernel_rfl) (by kernel_rfl) trivial (by kernel_rfl) (stB (q := 8) (j := 0) hS8 ⟨rfl, rfl⟩ (lnHole (i := y1.1) hv1 he1) rfl rfl rfl Try.sizeOf56 rfl rfl rfl fun w5 im5 hS9 => ?_), trivial⟩)))
      have hS9 : Sep g T1 w5 [ownA rBool 4 (.slice a5 n5 c5) u3, ownA (rInt .u8) 5 (.slice a4 n4 c4) u2, ownA (rInt .u8) 5 (.slice a2 n2 c2) u1.bytes.data, ownA rBool 4 (.slice a3 n3 c3) u1.bytes.set_, mapA (Value.int .i64) encStorePtr (.map r1) u1.ptrs, elsA nEStoreObject p0.list css1 (some (Int.toNat y1.1)), R, H_p0 [.slice a1 n1 c1], (holeA (rRaw 4) 59 (.slice a1 n1 c1) css1 (Int.toNat y1.1)) [.slice a4 n4 c4, .slice a5 n5 c5, .map r1, .bool u1.gone]] := hS9
      refine ⟨st0, ?_⟩
      refine te (t_thenR [(5, .pointer (some ⟨b1, of1, none⟩))] ⟨rfl, trivial⟩ fun J => ?_)
      refine sq2 ?_
      refine rg (pv (r_mp rfl) (pv (r_nc rfl) (pv (r_fa rfl Try.underlying59 rfl Try.sizeOf57 rfl) (wl rfl (stB (q := 8) (j := 2) hS9 ⟨rfl, rfl⟩ (lnHole (i := y1.1) hv1 he1) rfl rfl rfl Try.sizeOf57 rfl rfl rfl fun w6 im6 hS10 => ?_)))))
      have hS10 : Sep g T1 w6 [ownA rBool 4 (.slice a5 n5 c5) u3, ownA (rInt .u8) 5 (.slice a4 n4 c4) u2, ownA (rInt .u8) 5 (.slice a2 n2 c2) u1.bytes.data, ownA rBool 4 (.slice a3 n3 c3) u1.bytes.set_, mapA (Value.int .i64) encStorePtr (.map r1) u1.ptrs, elsA nEStoreObject p0.list css1 (some (Int.toNat y1.1)), R, H_p0 [.slice a1 n1 c1], (holeA (rRaw 4) 59 (.slice a1 n1 c1) css1 (Int.toNat y1.1)) [.slice a4 n4 c4, .slice a5 n5 c5, .map none, .bool u1.gone]] := hS10
      refine nil (t_then ?_)
      refine sq2 ?_
      refine rg (pv (r_zi rfl) (nil (t_then ?_)))
      have hS11 := hS10.nilM (Value.int .i64) encStorePtr
      have hS12 := hS11.bun [2, 1, 0] [6, 3, 4, 5, 7, 8, 9] rfl
      have hS13 : Sep g T1 w6 [nEStoreObject.A (⟨(⟨u2, u3⟩ : StoreBytes), none, u1.gone⟩ : StoreObject) [.slice a4 n4 c4, .slice a5 n5 c5, .map none, .bool u1.gone], elsA nEStoreObject p0.list css1 (some (Int.toNat y1.1)), ownA (rInt .u8) 5 (.slice a2 n2 c2) u1.bytes.data, ownA rBool 4 (.slice a3 n3 c3) u1.bytes.set_, mapA (Value.int .i64) encStorePtr (.map r1) u1.ptrs, R, H_p0 [.slice a1 n1 c1], (holeA (rRaw 4) 59 (.slice a1 n1 c1) css1 (Int.toNat y1.1)) [.slice a4 n4 c4, .slice a5 n5 c5, .map none, .bool u1.gone]] := Sep.exI (a4, n4, c4, a5, n5, c5, none) (Sep.pI rfl hS12)
      have hS14 : Sep g T1 w6 [ownA (rInt .u8) 5 (.slice a2 n2 c2) u1.bytes.data, ownA rBool 4 (.slice a3 n3 c3) u1.bytes.set_, mapA (Value.int .i64) encStorePtr (.map r1) u1.ptrs, R, H_p0 [.slice a1 n1 c1], nestA nEStoreObject 59 (.slice a1 n1 c1) (List.set p0.list (Int.toNat y1.1) (⟨(⟨u2, u3⟩ : StoreBytes), none, u1.gone⟩ : StoreObject))] := hS13.nunfocus (q := 5) ⟨rfl, rfl⟩ (idx_ltn hx2)
      have hm := Option.some.inj hm
      subst hm
      exact rtn (ret1 rfl rfl ⟨_, rfl, _, (Im.trans im1 (Im.trans im2 (Im.trans im3 (Im.trans im4 (Im.trans im5 im6))))), ⟨_, _, _, rfl, hS14.sel [3, 4, 5] rfl, trivial⟩⟩)
    · refine ⟨st1 rfl (r_ld rfl Try.isAgg41 (hS7.cellB (i := 7) ⟨rfl, rfl⟩ (lnHole (i := y1.1) hv1 he1) (j := 0) rfl)) (st0), ?_⟩
      refine tw [7] rfl (wt_of rfl rfl trivial) rfl (by kernel_rfl) (by kernel_rfl) ⟨br [15, 16, 17, 18] [] rfl (by kernel_rfl) (by kernel_rfl) trivial (by kernel_rfl) (msS (r := (rInt .u8)) hS7 rfl rfl Try.underlying41 el5 Try.zeroValue5 rfl hx3 fun w4 a5 n5 c5 im4 hS8 => ?_), trivial⟩
      refine ⟨st0, ?_⟩
      refine t0 rfl trivial (fun _ => r_bd (by kernel_rfl) rfl (u := .agg #[.slice a5 n5 c5, .slice a4 n4 c4])) rfl (t0 rfl trivial (fun _ => r_nc rfl) rfl (t0 rfl trivial (fun _ => r_fa rfl Try.underlying59 rfl Try.sizeOf56 rfl) rfl (tw [18] rfl (wt_of rfl rfl trivial) rfl (by kernel_rfl) (by kernel_rfl) ⟨br [] [] rfl (by kernel_rfl) (by kernel_rfl) trivial (by kernel_rfl) (stB (q := 8) (j := 0) hS8 ⟨rfl, rfl⟩ (lnHole (i := y1.1) hv1 he1) rfl rfl rfl Try.sizeOf56 rfl rfl rfl fun w5 im5 hS9 => ?_), trivial⟩)))
      have hS9 : Sep g T1 w5 [ownA (rInt .u8) 5 (.slice a5 n5 c5) u2, ownA rBool 4 (.slice a4 n4 c4) u3, ownA (rInt .u8) 5 (.slice a2 n2 c2) u1.bytes.data, ownA rBool 4 (.slice a3 n3 c3) u1.bytes.set_, mapA (Value.int .i64) encStorePtr (.map r1) u1.ptrs, elsA nEStoreObject p0.list css1 (some (Int.toNat y1.1)), R, H_p0 [.slice a1 n1 c1], (holeA (rRaw 4) 59 (.slice a1 n1 c1) css1 (Int.toNat y1.1)) [.slice a5 n5 c5, .slice a4 n4 c4, .map r1, .bool u1.gone]] := hS9
      refine ⟨st0, ?_⟩
      refine te (t_thenR [(5, .pointer (some ⟨b1, of1, none⟩))] ⟨rfl, trivial⟩ fun J => ?_)
      refine sq2 ?_
      refine rg (pv (r_mp rfl) (pv (r_nc rfl) (pv (r_fa rfl Try.underlying59 rfl Try.sizeOf57 rfl) (wl rfl (stB (q := 8) (j := 2) hS9 ⟨rfl, rfl⟩ (lnHole (i := y1.1) hv1 he1) rfl rfl rfl Try.sizeOf57 rfl rfl rfl fun w6 im6 hS10 => ?_)))))
      have hS10 : Sep g T1 w6 [ownA (rInt .u8) 5 (.slice a5 n5 c5) u2, ownA rBool 4 (.slice a4 n4 c4) u3, ownA (rInt .u8) 5 (.slice a2 n2 c2) u1.bytes.data, ownA rBool 4 (.slice a3 n3 c3) u1.bytes.set_, mapA (Value.int .i64) encStorePtr (.map r1) u1.ptrs, elsA nEStoreObject p0.list css1 (some (Int.toNat y1.1)), R, H_p0 [.slice a1 n1 c1], (holeA (rRaw 4) 59 (.slice a1 n1 c1) css1 (Int.toNat y1.1)) [.slice a5 n5 c5, .slice a4 n4 c4, .map none, .bool u1.gone]] := hS10
      refine nil (t_then ?_)
      refine sq2 ?_
      refine rg (pv (r_zi rfl) (nil (t_then ?_)))
      have hS11 := hS10.nilM (Value.int .i64) encStorePtr
      have hS12 := hS11.bun [1, 2, 0] [6, 3, 4, 5, 7, 8, 9] rfl
      have hS13 : Sep g T1 w6 [nEStoreObject.A (⟨(⟨u2, u3⟩ : StoreBytes), none, u1.gone⟩ : StoreObject) [.slice a5 n5 c5, .slice a4 n4 c4, .map none, .bool u1.gone], elsA nEStoreObject p0.list css1 (some (Int.toNat y1.1)), ownA (rInt .u8) 5 (.slice a2 n2 c2) u1.bytes.data, ownA rBool 4 (.slice a3 n3 c3) u1.bytes.set_, mapA (Value.int .i64) encStorePtr (.map r1) u1.ptrs, R, H_p0 [.slice a1 n1 c1], (holeA (rRaw 4) 59 (.slice a1 n1 c1) css1 (Int.toNat y1.1)) [.slice a5 n5 c5, .slice a4 n4 c4, .map none, .bool u1.gone]] := Sep.exI (a5, n5, c5, a4, n4, c4, none) (Sep.pI rfl hS12)
      have hS14 : Sep g T1 w6 [ownA (rInt .u8) 5 (.slice a2 n2 c2) u1.bytes.data, ownA rBool 4 (.slice a3 n3 c3) u1.bytes.set_, mapA (Value.int .i64) encStorePtr (.map r1) u1.ptrs, R, H_p0 [.slice a1 n1 c1], nestA nEStoreObject 59 (.slice a1 n1 c1) (List.set p0.list (Int.toNat y1.1) (⟨(⟨u2, u3⟩ : StoreBytes), none, u1.gone⟩ : StoreObject))] := hS13.nunfocus (q := 5) ⟨rfl, rfl⟩ (idx_ltn hx2)
      have hm := Option.some.inj hm
      subst hm
      exact rtn (ret1 rfl rfl ⟨_, rfl, _, (Im.trans im1 (Im.trans im2 (Im.trans im3 (Im.trans im4 (Im.trans im5 im6))))), ⟨_, _, _, rfl, hS14.sel [3, 4, 5] rfl, trivial⟩⟩)

set_option maxRecDepth 100000 in
set_option maxHeartbeats 1000000 in
theorem store_Store_Drop_sim {g : World} {T0 : Nat → Prop} {w0 : World} {R : Assn} {p0 : StoreStore} {b_p0 o_p0 : Nat} {H_p0 : List Value → Assn} {a1 : Option Addr} {n1 : Nat} {c1 : Nat} {p1 : Int} {r : Int × StoreStore} (hS : Sep g T0 w0 [R, H_p0 [.slice a1 n1 c1], nestA nEStoreObject 59 (.slice a1 n1 c1) p0.list]) (hL_p0 : Ln b_p0 o_p0 H_p0) (hm : store_Store_Drop p0 p1 = some r) :
    Calls Try.prog 15 #[.pointer (some ⟨b_p0, o_p0, none⟩), .int .i64 p1] w0 (RetS T0 w0 fun T w v => ∃ (a4 : Option Addr) (n4 : Nat) (c4 : Nat), v = .int .i64 r.1 ∧ Sep g T w [R, H_p0 [.slice a4 n4 c4], nestA nEStoreObject 59 (.slice a4 n4 c4) r.2.list] ∧ True) := by
  refine enter (args := [.pointer (some ⟨b_p0, o_p0, none⟩), .int .i64 p1]) Try.func15 rfl Try.ntmps15 rfl fun J => ?_
  unfold store_Store_Drop at hm
  refine sq2 ?_
  refine rg (pv (r_zi rfl) (nil (t_then ?_)))
  refine sq2 ?_
  obtain ⟨y1, hx1, hm⟩ := bindS hm
  refine rg (pv (r_mp rfl) (pv (r_mi rfl) (wl rfl (calS cf21 rfl (store_Store_object_sim (p0 := p0) (H_p0 := H_p0) (p1 := p1) (hS.bun [0] [1, 2] rfl) hL_p0 hx1) rfl fun v1 T1 w1 im1 rv1 => ?_))))
  obtain ⟨pv1, rfl, hS1, h1, _⟩ := rv1
  have hS1 : Sep g T1 w1 [R, H_p0 [.slice a1 n1 c1], nestA nEStoreObject 59 (.slice a1 n1 c1) p0.list] := hS1.unb
  refine pv (r_mv rfl) (pv (r_ex (v := pv1) rfl rfl) (pv (r_ex (v := .int .i64 y1.2) rfl rfl) (pv (r_zx (v := pv1) rfl) (pv (r_zi rfl) (nil (t_thenR [(5, pv1), (6, .int .i64 y1.2)] ⟨rfl, rfl, trivial⟩ fun J => ?_))))))
  refine sq2 ?_
  refine sq2 ?_
  refine rg (pv (r_mi rfl) (pv (r_ib rfl rfl rfl) (nil (t_then ?_))))
  refine cnd rfl (fun hb1 => ?_) (fun hb1 => ?_)
  · have hm := ctrue hb1 hm
    refine sq2 ?_
    refine rg (pv (r_mi rfl) (pv (r_zi rfl) (nil (t_thenR [(4, .int .i64 y1.2)] ⟨rfl, trivial⟩ fun J => ?_))))
    have hm := Option.some.inj hm
    subst hm
    exact rtn (r_then (ret1 rfl rfl ⟨_, rfl, _, im1, ⟨_, _, _, rfl, hS1.sel [0, 1, 2] rfl, trivial⟩⟩))
  · have hm := cfalse hb1 hm
    refine skp (t_then ?_)
    refine sq2 ?_
    refine rg (pv (r_mx (v := pv1) rfl) (pv (r_bd (by kernel_rfl) rfl (u := .agg #[.slice none 0 0, .slice none 0 0, .map none, .bool true])) (?_)))
    obtain ⟨u1, hx2, hm⟩ := bindS hm
    obtain ⟨b1, of1, k1, cp1, hv1, hp1, hl1, he1⟩ := hS1.nhd (q := 2) ⟨rfl, rfl⟩ hx2 rfl
    obtain ⟨css1, cs1, hS2⟩ := hS1.nfocus (q := 2) ⟨rfl, rfl⟩ hx2
    obtain ⟨⟨a2, n2, c2, a3, n3, c3, r1⟩, hS3⟩ := hS2.exE
    obtain ⟨hcs1, hS4⟩ := hS3.pE
    subst hcs1
    have hS5 : Sep g T1 w1 [ownA (rInt .u8) 5 (.slice a2 n2 c2) u1.bytes.data, ownA rBool 4 (.slice a3 n3 c3) u1.bytes.set_, mapA (Value.int .i64) encStorePtr (.map r1) u1.ptrs, elsA nEStoreObject p0.list css1 (some (Int.toNat y1.1)), R, H_p0 [.slice a1 n1 c1], (holeA (rRaw 4) 59 (.slice a1 n1 c1) css1 (Int.toNat y1.1)) [.slice a2 n2 c2, .slice a3 n3 c3, .map r1, .bool u1.gone]] := hS4.unb
    have hp2 := IpR.at2 h1 hp1 hv1 he1
    subst hp2
    refine pv (r_nc rfl) (wl rfl (stB (q := 6) (j := 0) hS5 ⟨rfl, rfl⟩ (lnHole (i := y1.1) hv1 he1) rfl rfl rfl Try.sizeOf59 rfl rfl rfl fun w2 im2 hS6 => ?_))
    have hS6 : Sep g T1 w2 [ownA (rInt .u8) 5 (.slice a2 n2 c2) u1.bytes.data, ownA rBool 4 (.slice a3 n3 c3) u1.bytes.set_, mapA (Value.int .i64) encStorePtr (.map r1) u1.ptrs, elsA nEStoreObject p0.list css1 (some (Int.toNat y1.1)), R, H_p0 [.slice a1 n1 c1], (holeA (rRaw 4) 59 (.slice a1 n1 c1) css1 (Int.toNat y1.1)) [.slice none 0 0, .slice none 0 0, .map none, .bool true]] := hS6
    refine nil (t_thenR [] trivial fun J => ?_)
    refine sq2 ?_
    refine rg (pv (r_zi rfl) (nil (t_then ?_)))
    have hS7 := hS6.nilO (rInt .u8) 5
    have hS8 := hS7.nilO rBool 4
    have hS9 := hS8.nilM (Value.int .i64) encStorePtr
    have hS10 := hS9.bun [2, 1, 0] [6, 3, 4, 5, 7, 8, 9] rfl
    have hS11 : Sep g T1 w2 [nEStoreObject.A (⟨(⟨[], []⟩ : StoreBytes), none, true⟩ : StoreObject) [.slice none 0 0, .slice none 0 0, .map none, .bool true], elsA nEStoreObject p0.list css1 (some (Int.toNat y1.1)), ownA (rInt .u8) 5 (.slice a2 n2 c2) u1.bytes.data, ownA rBool 4 (.slice a3 n3 c3) u1.bytes.set_, mapA (Value.int .i64) encStorePtr (.map r1) u1.ptrs, R, H_p0 [.slice a1 n1 c1], (holeA (rRaw 4) 59 (.slice a1 n1 c1) css1 (Int.toNat y1.1)) [.slice none 0 0, .slice none 0 0, .map none, .bool true]] := Sep.exI (none, 0, 0, none, 0, 0, none) (Sep.pI rfl hS10)
    have hS12 : Sep g T1 w2 [ownA (rInt .u8) 5 (.slice a2 n2 c2) u1.bytes.data, ownA rBool 4 (.slice a3 n3 c3) u1.bytes.set_, mapA (Value.int .i64) encStorePtr (.map r1) u1.ptrs, R, H_p0 [.slice a1 n1 c1], nestA nEStoreObject 59 (.slice a1 n1 c1) (List.set p0.list (Int.toNat y1.1) (⟨(⟨[], []⟩ : StoreBytes), none, true⟩ : StoreObject))] := hS11.nunfocus (q := 5) ⟨rfl, rfl⟩ (idx_ltn hx2)
    have hm := Option.some.inj hm
    subst hm
    exact rtn (ret1 rfl rfl ⟨_, rfl, _, (Im.trans im1 im2), ⟨_, _, _, rfl, hS12.sel [3, 4, 5] rfl, trivial⟩⟩)

set_option maxRecDepth 100000 in
set_option maxHeartbeats 1000000 in
theorem law11_StoreGone_sim {g : World} {T0 : Nat → Prop} {w0 : World} {R : Assn} {p0 : Int} {p1 : Int} {p2 : Int} {r : Bool} (hS : Sep g T0 w0 [R])  (hm : law11_StoreGone p0 p1 p2 = some r) :
    Calls Try.prog 4 #[.int .i64 p0, .int .i64 p1, .int .i64 p2] w0 (RetS T0 w0 fun T w v => v = .bool r ∧ Sep g T w [R] ∧ True) := by
  refine enter (args := [.int .i64 p0, .int .i64 p1, .int .i64 p2]) Try.func4 rfl Try.ntmps4 rfl fun J => ?_
  unfold law11_StoreGone at hm
  refine sq2 ?_
  refine rg (pv (r_zb rfl) (nil (t_then ?_)))
  refine sq2 ?_
  refine sq2 ?_
  refine rg (pv (r_mi rfl) (pv (r_ib rfl rfl rfl) (pv (r_mb rfl) (?_))))
  rcases Bool.eq_false_or_eq_true (decide (p0 < 1)) with hb1 | hb1
  · have hm := ctrue hb1 hm
    refine gF (d0 := 27) rfl rfl (by rw [hb1]; rfl) (gF (d0 := 27) rfl rfl (by rw [hb1]; rfl) (pv (r_pkt rfl hb1 rfl) (pv (r_mb rfl) (gF (d0 := 31) rfl rfl rfl (gF (d0 := 31) rfl rfl rfl (pv (r_pkt rfl rfl rfl) (pv (r_mb rfl) (gF (d0 := 35) rfl rfl rfl (gF (d0 := 35) rfl rfl rfl (pv (r_pkt rfl rfl rfl) (pv (r_mb rfl) (gF (d0 := 39) rfl rfl rfl (gF (d0 := 39) rfl rfl rfl (gF (d0 := 39) rfl rfl rfl (pv (r_pkt rfl rfl rfl) (pv (r_mb rfl) (gF (d0 := 44) rfl rfl rfl (gF (d0 := 44) rfl rfl rfl (gF (d0 := 44) rfl rfl rfl (gF (d0 := 44) rfl rfl rfl (gF (d0 := 44) rfl rfl rfl (pv (r_pkt rfl rfl rfl) (nil (t_thenR [(0, .int .i64 p0), (1, .int .i64 p1), (2, .int .i64 p2), (50, .bool true)] ⟨rfl, rfl, rfl, rfl, trivial⟩ fun J => ?_))))))))))))))))))))))))
    refine cnd (b := true) rfl (fun _ => ?_) (fun h => nomatch h)
    refine sq2 ?_
    obtain ⟨y20, hx21, hm⟩ := bindS hm
    refine rg (wl rfl (calS cf6 rfl (law11_awake_sim  (hS.bun [0] [] rfl)  hx21) rfl fun v20 T21 w34 im35 rv20 => ?_))
    obtain ⟨rfl, hS35, _⟩ := rv20
    have hS35 : Sep g T21 w34 [R] := hS35.unb
    refine pv (r_zb rfl) (nil (t_thenR [(6, .bool y20)] ⟨rfl, trivial⟩ fun J => ?_))
    have hm := Option.some.inj hm
    subst hm
    exact rtn (r_then (ret1 rfl rfl ⟨_, rfl, _, im35, ⟨rfl, hS35.sel [0] rfl, trivial⟩⟩))
  · have hm := cfalse hb1 hm
    refine gT (d0 := 27) rfl rfl hb1 (pv (r_mi rfl) (gT (d0 := 27) rfl rfl hb1 (pv (r_ib rfl rfl rfl) (pv (r_pkf rfl hb1 rfl) (pv (r_mb rfl) (?_))))))
    rcases Bool.eq_false_or_eq_true (decide (300 < p0)) with hb2 | hb2
    · have hm := ctrue hb2 hm
      refine gF (d0 := 31) rfl rfl (by rw [hb2]; rfl) (gF (d0 := 31) rfl rfl (by rw [hb2]; rfl) (pv (r_pkt rfl hb2 rfl) (pv (r_mb rfl) (gF (d0 := 35) rfl rfl rfl (gF (d0 := 35) rfl rfl rfl (pv (r_pkt rfl rfl rfl) (pv (r_mb rfl) (gF (d0 := 39) rfl rfl rfl (gF (d0 := 39) rfl rfl rfl (gF (d0 := 39) rfl rfl rfl (pv (r_pkt rfl rfl rfl) (pv (r_mb rfl) (gF (d0 := 44) rfl rfl rfl (gF (d0 := 44) rfl rfl rfl (gF (d0 := 44) rfl rfl rfl (gF (d0 := 44) rfl rfl rfl (gF (d0 := 44) rfl rfl rfl (pv (r_pkt rfl rfl rfl) (nil (t_thenR [(0, .int .i64 p0), (1, .int .i64 p1), (2, .int .i64 p2), (50, .bool true)] ⟨rfl, rfl, rfl, rfl, trivial⟩ fun J => ?_))))))))))))))))))))
      refine cnd (b := true) rfl (fun _ => ?_) (fun h => nomatch h)
      refine sq2 ?_
      obtain ⟨y19, hx20, hm⟩ := bindS hm
      refine rg (wl rfl (calS cf6 rfl (law11_awake_sim  (hS.bun [0] [] rfl)  hx20) rfl fun v19 T20 w33 im34 rv19 => ?_))
      obtain ⟨rfl, hS34, _⟩ := rv19
      have hS34 : Sep g T20 w33 [R] := hS34.unb
      refine pv (r_zb rfl) (nil (t_thenR [(6, .bool y19)] ⟨rfl, trivial⟩ fun J => ?_))
      have hm := Option.some.inj hm
      subst hm
      exact rtn (r_then (ret1 rfl rfl ⟨_, rfl, _, im34, ⟨rfl, hS34.sel [0] rfl, trivial⟩⟩))
    · have hm := cfalse hb2 hm
      refine gT (d0 := 31) rfl rfl hb2 (pv (r_mi rfl) (gT (d0 := 31) rfl rfl hb2 (pv (r_ib rfl rfl rfl) (pv (r_pkf rfl hb2 rfl) (pv (r_mb rfl) (?_))))))
      rcases Bool.eq_false_or_eq_true (decide (p1 < 0)) with hb3 | hb3
      · have hm := ctrue hb3 hm
        refine gF (d0 := 35) rfl rfl (by rw [hb3]; rfl) (gF (d0 := 35) rfl rfl (by rw [hb3]; rfl) (pv (r_pkt rfl hb3 rfl) (pv (r_mb rfl) (gF (d0 := 39) rfl rfl rfl (gF (d0 := 39) rfl rfl rfl (gF (d0 := 39) rfl rfl rfl (pv (r_pkt rfl rfl rfl) (pv (r_mb rfl) (gF (d0 := 44) rfl rfl rfl (gF (d0 := 44) rfl rfl rfl (gF (d0 := 44) rfl rfl rfl (gF (d0 := 44) rfl rfl rfl (gF (d0 := 44) rfl rfl rfl (pv (r_pkt rfl rfl rfl) (nil (t_thenR [(0, .int .i64 p0), (1, .int .i64 p1), (2, .int .i64 p2), (50, .bool true)] ⟨rfl, rfl, rfl, rfl, trivial⟩ fun J => ?_))))))))))))))))
        refine cnd (b := true) rfl (fun _ => ?_) (fun h => nomatch h)
        refine sq2 ?_
        obtain ⟨y18, hx19, hm⟩ := bindS hm
        refine rg (wl rfl (calS cf6 rfl (law11_awake_sim  (hS.bun [0] [] rfl)  hx19) rfl fun v18 T19 w32 im33 rv18 => ?_))
        obtain ⟨rfl, hS33, _⟩ := rv18
        have hS33 : Sep g T19 w32 [R] := hS33.unb
        refine pv (r_zb rfl) (nil (t_thenR [(6, .bool y18)] ⟨rfl, trivial⟩ fun J => ?_))
        have hm := Option.some.inj hm
        subst hm
        exact rtn (r_then (ret1 rfl rfl ⟨_, rfl, _, im33, ⟨rfl, hS33.sel [0] rfl, trivial⟩⟩))
      · have hm := cfalse hb3 hm
        refine gT (d0 := 35) rfl rfl hb3 (pv (r_mi rfl) (gT (d0 := 35) rfl rfl hb3 (pv (r_ib rfl rfl rfl) (pv (r_pkf rfl hb3 rfl) (pv (r_mb rfl) (?_))))))
        rcases Bool.eq_false_or_eq_true (decide (p2 < 1)) with hb4 | hb4
        · have hm := ctrue hb4 hm
          refine gF (d0 := 39) rfl rfl (by rw [hb4]; rfl) (gF (d0 := 39) rfl rfl (by rw [hb4]; rfl) (gF (d0 := 39) rfl rfl (by rw [hb4]; rfl) (pv (r_pkt rfl hb4 rfl) (pv (r_mb rfl) (gF (d0 := 44) rfl rfl rfl (gF (d0 := 44) rfl rfl rfl (gF (d0 := 44) rfl rfl rfl (gF (d0 := 44) rfl rfl rfl (gF (d0 := 44) rfl rfl rfl (pv (r_pkt rfl rfl rfl) (nil (t_thenR [(0, .int .i64 p0), (1, .int .i64 p1), (2, .int .i64 p2), (50, .bool true)] ⟨rfl, rfl, rfl, rfl, trivial⟩ fun J => ?_))))))))))))
          refine cnd (b := true) rfl (fun _ => ?_) (fun h => nomatch h)
          refine sq2 ?_
          obtain ⟨y17, hx18, hm⟩ := bindS hm
          refine rg (wl rfl (calS cf6 rfl (law11_awake_sim  (hS.bun [0] [] rfl)  hx18) rfl fun v17 T18 w31 im32 rv17 => ?_))
          obtain ⟨rfl, hS32, _⟩ := rv17
          have hS32 : Sep g T18 w31 [R] := hS32.unb
          refine pv (r_zb rfl) (nil (t_thenR [(6, .bool y17)] ⟨rfl, trivial⟩ fun J => ?_))
          have hm := Option.some.inj hm
          subst hm
          exact rtn (r_then (ret1 rfl rfl ⟨_, rfl, _, im32, ⟨rfl, hS32.sel [0] rfl, trivial⟩⟩))
        · have hm := cfalse hb4 hm
          refine gT (d0 := 39) rfl rfl hb4 (pv (r_mi rfl) (gT (d0 := 39) rfl rfl hb4 (pv (r_mi rfl) (gT (d0 := 39) rfl rfl hb4 (pv (r_ib rfl rfl rfl) (pv (r_pkf rfl hb4 rfl) (pv (r_mb rfl) (?_))))))))
          rcases Bool.eq_false_or_eq_true (decide (p0 < p1)) with hb5 | hb5
          · have hm := ctrue hb5 hm
            refine gF (d0 := 44) rfl rfl (by rw [hb5]; rfl) (gF (d0 := 44) rfl rfl (by rw [hb5]; rfl) (gF (d0 := 44) rfl rfl (by rw [hb5]; rfl) (gF (d0 := 44) rfl rfl (by rw [hb5]; rfl) (gF (d0 := 44) rfl rfl (by rw [hb5]; rfl) (pv (r_pkt rfl hb5 rfl) (nil (t_thenR [(0, .int .i64 p0), (1, .int .i64 p1), (2, .int .i64 p2), (50, .bool true)] ⟨rfl, rfl, rfl, rfl, trivial⟩ fun J => ?_)))))))
            refine cnd (b := true) rfl (fun _ => ?_) (fun h => nomatch h)
            refine sq2 ?_
            obtain ⟨y16, hx17, hm⟩ := bindS hm
            refine rg (wl rfl (calS cf6 rfl (law11_awake_sim  (hS.bun [0] [] rfl)  hx17) rfl fun v16 T17 w30 im31 rv16 => ?_))
            obtain ⟨rfl, hS31, _⟩ := rv16
            have hS31 : Sep g T17 w30 [R] := hS31.unb
            refine pv (r_zb rfl) (nil (t_thenR [(6, .bool y16)] ⟨rfl, trivial⟩ fun J => ?_))
            have hm := Option.some.inj hm
            subst hm
            exact rtn (r_then (ret1 rfl rfl ⟨_, rfl, _, im31, ⟨rfl, hS31.sel [0] rfl, trivial⟩⟩))
          · have hm := cfalse hb5 hm
            refine gT (d0 := 44) rfl rfl hb5 (pv (r_mi rfl) (gT (d0 := 44) rfl rfl hb5 (pv (r_mi rfl) (gT (d0 := 44) rfl rfl hb5 (pv (r_mi rfl) (gT (d0 := 44) rfl rfl hb5 (pv (r_ib rfl rfl rfl) (gT (d0 := 44) rfl rfl hb5 (pv (r_ib rfl rfl rfl) (pv (r_pkf rfl hb5 rfl) (nil (t_thenR [(0, .int .i64 p0), (1, .int .i64 p1), (2, .int .i64 p2), (50, .bool (decide ((IntKind.wrap .i64 (p0 - p1)) < p2)))] ⟨rfl, rfl, rfl, rfl, trivial⟩ fun J => ?_))))))))))))
            refine cnd rfl (fun hb6 => ?_) (fun hb6 => ?_)
            · have hm := ctrue hb6 hm
              refine sq2 ?_
              obtain ⟨y1, hx1, hm⟩ := bindS hm
              refine rg (wl rfl (calS cf6 rfl (law11_awake_sim  (hS.bun [0] [] rfl)  hx1) rfl fun v1 T1 w1 im1 rv1 => ?_))
              obtain ⟨rfl, hS1, _⟩ := rv1
              have hS1 : Sep g T1 w1 [R] := hS1.unb
              refine pv (r_zb rfl) (nil (t_thenR [(6, .bool y1)] ⟨rfl, trivial⟩ fun J => ?_))
              have hm := Option.some.inj hm
              subst hm
              exact rtn (r_then (ret1 rfl rfl ⟨_, rfl, _, im1, ⟨rfl, hS1.sel [0] rfl, trivial⟩⟩))
            · have hm := cfalse hb6 hm
              refine skp (t_then ?_)
              refine sq2 ?_
              obtain ⟨y2, hx2, hm⟩ := bindS hm
              refine rg (wl rfl (calS cf7 rfl (store_New_sim  (hS.bun [0] [] rfl)  hx2) rfl fun v2 T2 w2 im2 rv2 => ?_))
              obtain ⟨b1, a1, n1, c1, rfl, hS2, _⟩ := rv2
              have hS2 : Sep g T2 w2 [R, boxA b1 [.slice a1 n1 c1], nestA nEStoreObject 59 (.slice a1 n1 c1) y2.list] := hS2.unb
              refine pv (r_zp rfl) (nil (t_then ?_))
              refine sq2 ?_
              obtain ⟨y3, hx3, hm⟩ := bindS hm
              refine rg (pv (r_mp rfl) (pv (r_mi rfl) (wl rfl (calS cf8 rfl (store_Store_Make_sim (p0 := y2) (H_p0 := boxA b1) (p1 := p0) (hS2.bun [0] [1, 2] rfl) (lnBox b1) hx3) rfl fun v3 T3 w3 im3 rv3 => ?_))))
              obtain ⟨a2, n2, c2, rfl, hS3, _⟩ := rv3
              have hS3 : Sep g T3 w3 [R, boxA b1 [.slice a2 n2 c2], nestA nEStoreObject 59 (.slice a2 n2 c2) y3.2.2.list] := hS3.unb
              refine pv (r_mv rfl) (pv (r_ex (v := .agg #[.int .i64 y3.1.Obj, .int .i64 y3.1.Lo, .int .i64 y3.1.Hi, .int .i64 y3.1.Off]) rfl rfl) (pv (r_ex (v := .int .i64 y3.2.1) rfl rfl) (wl rfl (alS (zs := [.int .i64 0, .int .i64 0, .int .i64 0, .int .i64 0]) Try.zeroValue24 rfl hS3 fun w4 b2 im4 hS4 => ?_))))
              refine wl rfl (st0B (q := 0) hS4 ⟨rfl, rfl⟩ rfl rfl rfl Try.sizeOf24 rfl rfl rfl fun w5 im5 hS5 => ?_)
              have hS5 : Sep g T3 w5 [boxA b2 [.int .i64 y3.1.Obj, .int .i64 y3.1.Lo, .int .i64 y3.1.Hi, .int .i64 y3.1.Off], R, boxA b1 [.slice a2 n2 c2], nestA nEStoreObject 59 (.slice a2 n2 c2) y3.2.2.list] := hS5
              refine pv (r_zi rfl) (nil (t_thenR [(0, .int .i64 p0), (1, .int .i64 p1), (2, .int .i64 p2), (7, .pointer (some ⟨b1, 0, none⟩)), (8, .pointer (some ⟨b2, 0, none⟩)), (9, .int .i64 y3.2.1)] ⟨rfl, rfl, rfl, rfl, rfl, rfl, trivial⟩ fun J => ?_))
              refine sq2 ?_
              refine rs [0, 0, 1, 0, 2, 2, 0] [0, 1, 2, 3, 4, 5, 6] mix (by kernel_rfl) hS5.lt fun w6 i1 => ?_
              have im6 := i1.imm
              have hS6 := hS5.keep i1 (fun _ h => h)
              obtain ⟨u1, hx4, hm⟩ := bindS hm
              refine s0 rfl trivial (fun _ => r_mp rfl) rfl (s0 rfl trivial (fun _ => r_fa rfl Try.underlying24 rfl Try.sizeOf3 rfl) rfl (s1 rfl trivial (r_ld rfl Try.isAgg3 (hS6.cell0 (i := 0) ⟨rfl, rfl⟩ (j := 0) rfl)) rfl (s0 rfl trivial (fun _ => r_mi rfl) rfl (s2 [(2, .int .i64 y3.1.Obj)] rfl trivial rfl (by kernel_rfl) (msS (r := (rInt .u8)) hS6 rfl rfl Try.underlying41 el5 Try.zeroValue5 rfl hx4 fun w7 a3 n3 c3 im7 hS7 => ?_)))))
              refine ⟨st1 rfl (r_ld rfl Try.isAgg3 (hS7.cell0 (i := 1) ⟨rfl, rfl⟩ (j := 0) rfl)) (st0), ?_⟩
              obtain ⟨T4, im8, hS8, h1⟩ := hS7.seal 0 ⟨rfl, rfl⟩
              have hsh := h1.len
              subst hsh
              have hS8 : Sep g T4 w7 [empA, boxA b2 [.int .i64 y3.1.Obj, .int .i64 y3.1.Lo, .int .i64 y3.1.Hi, .int .i64 y3.1.Off], R, boxA b1 [.slice a2 n2 c2], nestA nEStoreObject 59 (.slice a2 n2 c2) y3.2.2.list] := hS8
              obtain ⟨y4, hx5, hm⟩ := bindS hm
              refine s2 [] rfl trivial rfl (by kernel_rfl) (calS cf12 rfl (store_Store_Fill_sim (p0 := y3.2.2) (H_p0 := boxA b1) (p1 := y3.1.Obj) (p2 := u1) (hS8.bun [1, 2] [3, 4] rfl) (lnBox b1) h1 hx5) rfl fun v4 T5 w8 im9 rv4 => ?_)
              obtain ⟨a4, n4, c4, rfl, hS9, _⟩ := rv4
              have hS9 : Sep g T5 w8 [boxA b2 [.int .i64 y3.1.Obj, .int .i64 y3.1.Lo, .int .i64 y3.1.Hi, .int .i64 y3.1.Off], R, boxA b1 [.slice a4 n4 c4], nestA nEStoreObject 59 (.slice a4 n4 c4) y4.2.list] := hS9.unb
              refine ⟨st0, ?_⟩
              refine s0 rfl trivial (fun _ => r_zi rfl) rfl (se (t_thenR [(1, .int .i64 p1), (2, .int .i64 p2), (7, .pointer (some ⟨b1, 0, none⟩)), (8, .pointer (some ⟨b2, 0, none⟩)), (9, .int .i64 y3.2.1), (10, .int .i64 y4.1)] ⟨rfl, rfl, rfl, rfl, rfl, rfl, trivial⟩ fun J => ?_))
              refine sq2 ?_
              obtain ⟨y5, hx6, hm⟩ := bindS hm
              refine rg (pv (r_mp rfl) (pv (r_ldS rfl Try.isAgg24 Try.sizeOf24 rfl (hS9.cells0 (i := 0) ⟨rfl, rfl⟩ (o := 0) rfl) (cs := [.int .i64 y3.1.Obj, .int .i64 y3.1.Lo, .int .i64 y3.1.Hi, .int .i64 y3.1.Off])) (pv (r_mi rfl) (pv (r_mi rfl) (wl rfl (calS cf13 rfl (store_Store_Part_sim (p0 := y4.2) (H_p0 := boxA b1) (p1 := y3.1) (p2 := p1) (p3 := p2) (hS9.bun [0, 1] [2, 3] rfl) (lnBox b1) hx6) rfl fun v5 T6 w9 im10 rv5 => ?_))))))
              obtain ⟨rfl, hS10, _⟩ := rv5
              have hS10 : Sep g T6 w9 [boxA b2 [.int .i64 y3.1.Obj, .int .i64 y3.1.Lo, .int .i64 y3.1.Hi, .int .i64 y3.1.Off], R, boxA b1 [.slice a4 n4 c4], nestA nEStoreObject 59 (.slice a4 n4 c4) y4.2.list] := hS10.unb
              refine pv (r_mv rfl) (pv (r_ex (v := .agg #[.int .i64 y5.1.Obj, .int .i64 y5.1.Lo, .int .i64 y5.1.Hi, .int .i64 y5.1.Off]) rfl rfl) (pv (r_ex (v := .int .i64 y5.2) rfl rfl) (wl rfl (alS (zs := [.int .i64 0, .int .i64 0, .int .i64 0, .int .i64 0]) Try.zeroValue24 rfl hS10 fun w10 b3 im11 hS11 => ?_))))
              refine wl rfl (st0B (q := 0) hS11 ⟨rfl, rfl⟩ rfl rfl rfl Try.sizeOf24 rfl rfl rfl fun w11 im12 hS12 => ?_)
              have hS12 : Sep g T6 w11 [boxA b3 [.int .i64 y5.1.Obj, .int .i64 y5.1.Lo, .int .i64 y5.1.Hi, .int .i64 y5.1.Off], boxA b2 [.int .i64 y3.1.Obj, .int .i64 y3.1.Lo, .int .i64 y3.1.Hi, .int .i64 y3.1.Off], R, boxA b1 [.slice a4 n4 c4], nestA nEStoreObject 59 (.slice a4 n4 c4) y4.2.list] := hS12
              refine pv (r_zi rfl) (nil (t_thenR [(7, .pointer (some ⟨b1, 0, none⟩)), (8, .pointer (some ⟨b2, 0, none⟩)), (9, .int .i64 y3.2.1), (10, .int .i64 y4.1), (11, .pointer (some ⟨b3, 0, none⟩)), (12, .int .i64 y5.2)] ⟨rfl, rfl, rfl, rfl, rfl, rfl, trivial⟩ fun J => ?_))
              refine sq2 ?_
              obtain ⟨y6, hx7, hm⟩ := bindS hm
              refine rg (pv (r_mp rfl) (pv (r_ldS rfl Try.isAgg24 Try.sizeOf24 rfl (hS12.cells0 (i := 0) ⟨rfl, rfl⟩ (o := 0) rfl) (cs := [.int .i64 y5.1.Obj, .int .i64 y5.1.Lo, .int .i64 y5.1.Hi, .int .i64 y5.1.Off])) (wl rfl (calS cf11 rfl (store_Store_Load_sim (p0 := y4.2) (H_p0 := boxA b1) (p1 := y5.1) (p2 := 1) (p3 := false) (hS12.bun [0, 1, 2] [3, 4] rfl) (lnBox b1) hx7) rfl fun v6 T7 w12 im13 rv6 => ?_))))
              obtain ⟨rfl, hS13, _⟩ := rv6
              have hS13 : Sep g T7 w12 [boxA b3 [.int .i64 y5.1.Obj, .int .i64 y5.1.Lo, .int .i64 y5.1.Hi, .int .i64 y5.1.Off], boxA b2 [.int .i64 y3.1.Obj, .int .i64 y3.1.Lo, .int .i64 y3.1.Hi, .int .i64 y3.1.Off], R, boxA b1 [.slice a4 n4 c4], nestA nEStoreObject 59 (.slice a4 n4 c4) y4.2.list] := hS13.unb
              refine pv (r_mv rfl) (pv (r_ex (v := .agg #[.int .u32 y6.1.Num, .int .i64 y6.1.Ptr.Obj, .int .i64 y6.1.Ptr.Lo, .int .i64 y6.1.Ptr.Hi, .int .i64 y6.1.Ptr.Off, .bool y6.1.Is]) rfl rfl) (pv (r_ex (v := .int .i64 y6.2) rfl rfl) (wl rfl (alS (zs := [.int .u32 0, .int .i64 0, .int .i64 0, .int .i64 0, .int .i64 0, .bool false]) Try.zeroValue26 rfl hS13 fun w13 b4 im14 hS14 => ?_))))
              refine wl rfl (st0B (q := 0) hS14 ⟨rfl, rfl⟩ rfl rfl rfl Try.sizeOf26 rfl rfl rfl fun w14 im15 hS15 => ?_)
              have hS15 : Sep g T7 w14 [boxA b4 [.int .u32 y6.1.Num, .int .i64 y6.1.Ptr.Obj, .int .i64 y6.1.Ptr.Lo, .int .i64 y6.1.Ptr.Hi, .int .i64 y6.1.Ptr.Off, .bool y6.1.Is], boxA b3 [.int .i64 y5.1.Obj, .int .i64 y5.1.Lo, .int .i64 y5.1.Hi, .int .i64 y5.1.Off], boxA b2 [.int .i64 y3.1.Obj, .int .i64 y3.1.Lo, .int .i64 y3.1.Hi, .int .i64 y3.1.Off], R, boxA b1 [.slice a4 n4 c4], nestA nEStoreObject 59 (.slice a4 n4 c4) y4.2.list] := hS15
              refine pv (r_zi rfl) (nil (t_thenR [(7, .pointer (some ⟨b1, 0, none⟩)), (8, .pointer (some ⟨b2, 0, none⟩)), (9, .int .i64 y3.2.1), (10, .int .i64 y4.1), (11, .pointer (some ⟨b3, 0, none⟩)), (12, .int .i64 y5.2), (14, .int .i64 y6.2)] ⟨rfl, rfl, rfl, rfl, rfl, rfl, rfl, trivial⟩ fun J => ?_))
              refine sq2 ?_
              obtain ⟨y7, hx8, hm⟩ := bindS hm
              refine rg (pv (r_mp rfl) (pv (r_fa rfl Try.underlying24 rfl Try.sizeOf3 rfl) (pv (r_ld rfl Try.isAgg3 (hS15.cell0 (i := 2) ⟨rfl, rfl⟩ (j := 0) rfl)) (wl rfl (calS cf14 rfl (store_Store_Unset_sim (p0 := y4.2) (H_p0 := boxA b1) (p1 := y3.1.Obj) (hS15.bun [1, 2, 3] [4, 5] rfl) (lnBox b1) hx8) rfl fun v7 T8 w15 im16 rv7 => ?_)))))
              obtain ⟨a5, n5, c5, rfl, hS16, _⟩ := rv7
              have hS16 : Sep g T8 w15 [boxA b3 [.int .i64 y5.1.Obj, .int .i64 y5.1.Lo, .int .i64 y5.1.Hi, .int .i64 y5.1.Off], boxA b2 [.int .i64 y3.1.Obj, .int .i64 y3.1.Lo, .int .i64 y3.1.Hi, .int .i64 y3.1.Off], R, boxA b1 [.slice a5 n5 c5], nestA nEStoreObject 59 (.slice a5 n5 c5) y7.2.list] := hS16.unb
              refine pv (r_zi rfl) (nil (t_then ?_))
              refine sq2 ?_
              obtain ⟨y8, hx9, hm⟩ := bindS hm
              refine rg (pv (r_mp rfl) (pv (r_ldS rfl Try.isAgg24 Try.sizeOf24 rfl (hS16.cells0 (i := 0) ⟨rfl, rfl⟩ (o := 0) rfl) (cs := [.int .i64 y5.1.Obj, .int .i64 y5.1.Lo, .int .i64 y5.1.Hi, .int .i64 y5.1.Off])) (wl rfl (calS cf11 rfl (store_Store_Load_sim (p0 := y7.2) (H_p0 := boxA b1) (p1 := y5.1) (p2 := 1) (p3 := false) (hS16.bun [0, 1, 2] [3, 4] rfl) (lnBox b1) hx9) rfl fun v8 T9 w16 im17 rv8 => ?_))))
              obtain ⟨rfl, hS17, _⟩ := rv8
              have hS17 : Sep g T9 w16 [boxA b3 [.int .i64 y5.1.Obj, .int .i64 y5.1.Lo, .int .i64 y5.1.Hi, .int .i64 y5.1.Off], boxA b2 [.int .i64 y3.1.Obj, .int .i64 y3.1.Lo, .int .i64 y3.1.Hi, .int .i64 y3.1.Off], R, boxA b1 [.slice a5 n5 c5], nestA nEStoreObject 59 (.slice a5 n5 c5) y7.2.list] := hS17.unb
              refine pv (r_mv rfl) (pv (r_ex (v := .agg #[.int .u32 y8.1.Num, .int .i64 y8.1.Ptr.Obj, .int .i64 y8.1.Ptr.Lo, .int .i64 y8.1.Ptr.Hi, .int .i64 y8.1.Ptr.Off, .bool y8.1.Is]) rfl rfl) (pv (r_ex (v := .int .i64 y8.2) rfl rfl) (wl rfl (alS (zs := [.int .u32 0, .int .i64 0, .int .i64 0, .int .i64 0, .int .i64 0, .bool false]) Try.zeroValue26 rfl hS17 fun w17 b5 im18 hS18 => ?_))))
              refine wl rfl (st0B (q := 0) hS18 ⟨rfl, rfl⟩ rfl rfl rfl Try.sizeOf26 rfl rfl rfl fun w18 im19 hS19 => ?_)
              have hS19 : Sep g T9 w18 [boxA b5 [.int .u32 y8.1.Num, .int .i64 y8.1.Ptr.Obj, .int .i64 y8.1.Ptr.Lo, .int .i64 y8.1.Ptr.Hi, .int .i64 y8.1.Ptr.Off, .bool y8.1.Is], boxA b3 [.int .i64 y5.1.Obj, .int .i64 y5.1.Lo, .int .i64 y5.1.Hi, .int .i64 y5.1.Off], boxA b2 [.int .i64 y3.1.Obj, .int .i64 y3.1.Lo, .int .i64 y3.1.Hi, .int .i64 y3.1.Off], R, boxA b1 [.slice a5 n5 c5], nestA nEStoreObject 59 (.slice a5 n5 c5) y7.2.list] := hS19
              refine pv (r_zi rfl) (nil (t_thenR [(7, .pointer (some ⟨b1, 0, none⟩)), (8, .pointer (some ⟨b2, 0, none⟩)), (9, .int .i64 y3.2.1), (10, .int .i64 y4.1), (11, .pointer (some ⟨b3, 0, none⟩)), (12, .int .i64 y5.2), (14, .int .i64 y6.2), (15, .int .i64 y7.1), (17, .int .i64 y8.2)] ⟨rfl, rfl, rfl, rfl, rfl, rfl, rfl, rfl, rfl, trivial⟩ fun J => ?_))
              refine sq2 ?_
              obtain ⟨y9, hx10, hm⟩ := bindS hm
              refine rg (pv (r_mp rfl) (pv (r_ldS rfl Try.isAgg24 Try.sizeOf24 rfl (hS19.cells0 (i := 1) ⟨rfl, rfl⟩ (o := 0) rfl) (cs := [.int .i64 y5.1.Obj, .int .i64 y5.1.Lo, .int .i64 y5.1.Hi, .int .i64 y5.1.Off])) (pv (r_bd (by kernel_rfl) rfl (u := .agg #[.int .u32 9, .int .i64 0, .int .i64 0, .int .i64 0, .int .i64 0, .bool false])) (wl rfl (calS cf10 rfl (store_Store_Put_sim (p0 := y7.2) (H_p0 := boxA b1) (p1 := y5.1) (p2 := 1) (p3 := (⟨9, (⟨0, 0, 0, 0⟩ : StorePtr), false⟩ : StoreValue)) (hS19.bun [1, 2, 3] [4, 5] rfl) (lnBox b1) hx10) rfl fun v9 T10 w19 im20 rv9 => ?_)))))
              obtain ⟨a6, n6, c6, rfl, hS20, _⟩ := rv9
              have hS20 : Sep g T10 w19 [boxA b3 [.int .i64 y5.1.Obj, .int .i64 y5.1.Lo, .int .i64 y5.1.Hi, .int .i64 y5.1.Off], boxA b2 [.int .i64 y3.1.Obj, .int .i64 y3.1.Lo, .int .i64 y3.1.Hi, .int .i64 y3.1.Off], R, boxA b1 [.slice a6 n6 c6], nestA nEStoreObject 59 (.slice a6 n6 c6) y9.2.list] := hS20.unb
              refine pv (r_zi rfl) (nil (t_then ?_))
              refine sq2 ?_
              obtain ⟨y10, hx11, hm⟩ := bindS hm
              refine rg (pv (r_mp rfl) (pv (r_fa rfl Try.underlying24 rfl Try.sizeOf3 rfl) (pv (r_ld rfl Try.isAgg3 (hS20.cell0 (i := 1) ⟨rfl, rfl⟩ (j := 0) rfl)) (wl rfl (calS cf15 rfl (store_Store_Drop_sim (p0 := y9.2) (H_p0 := boxA b1) (p1 := y3.1.Obj) (hS20.bun [0, 1, 2] [3, 4] rfl) (lnBox b1) hx11) rfl fun v10 T11 w20 im21 rv10 => ?_)))))
              obtain ⟨a7, n7, c7, rfl, hS21, _⟩ := rv10
              have hS21 : Sep g T11 w20 [boxA b3 [.int .i64 y5.1.Obj, .int .i64 y5.1.Lo, .int .i64 y5.1.Hi, .int .i64 y5.1.Off], boxA b2 [.int .i64 y3.1.Obj, .int .i64 y3.1.Lo, .int .i64 y3.1.Hi, .int .i64 y3.1.Off], R, boxA b1 [.slice a7 n7 c7], nestA nEStoreObject 59 (.slice a7 n7 c7) y10.2.list] := hS21.unb
              refine pv (r_zi rfl) (nil (t_thenR [(7, .pointer (some ⟨b1, 0, none⟩)), (8, .pointer (some ⟨b2, 0, none⟩)), (9, .int .i64 y3.2.1), (10, .int .i64 y4.1), (11, .pointer (some ⟨b3, 0, none⟩)), (12, .int .i64 y5.2), (14, .int .i64 y6.2), (15, .int .i64 y7.1), (17, .int .i64 y8.2), (18, .int .i64 y9.1), (19, .int .i64 y10.1)] ⟨rfl, rfl, rfl, rfl, rfl, rfl, rfl, rfl, rfl, rfl, rfl, trivial⟩ fun J => ?_))
              refine sq2 ?_
              obtain ⟨y11, hx12, hm⟩ := bindS hm
              refine rg (pv (r_mp rfl) (pv (r_ldS rfl Try.isAgg24 Try.sizeOf24 rfl (hS21.cells0 (i := 0) ⟨rfl, rfl⟩ (o := 0) rfl) (cs := [.int .i64 y5.1.Obj, .int .i64 y5.1.Lo, .int .i64 y5.1.Hi, .int .i64 y5.1.Off])) (wl rfl (calS cf11 rfl (store_Store_Load_sim (p0 := y10.2) (H_p0 := boxA b1) (p1 := y5.1) (p2 := 1) (p3 := false) (hS21.bun [0, 1, 2] [3, 4] rfl) (lnBox b1) hx12) rfl fun v11 T12 w21 im22 rv11 => ?_))))
              obtain ⟨rfl, hS22, _⟩ := rv11
              have hS22 : Sep g T12 w21 [boxA b3 [.int .i64 y5.1.Obj, .int .i64 y5.1.Lo, .int .i64 y5.1.Hi, .int .i64 y5.1.Off], boxA b2 [.int .i64 y3.1.Obj, .int .i64 y3.1.Lo, .int .i64 y3.1.Hi, .int .i64 y3.1.Off], R, boxA b1 [.slice a7 n7 c7], nestA nEStoreObject 59 (.slice a7 n7 c7) y10.2.list] := hS22.unb
              refine pv (r_mv rfl) (pv (r_ex (v := .agg #[.int .u32 y11.1.Num, .int .i64 y11.1.Ptr.Obj, .int .i64 y11.1.Ptr.Lo, .int .i64 y11.1.Ptr.Hi, .int .i64 y11.1.Ptr.Off, .bool y11.1.Is]) rfl rfl) (pv (r_ex (v := .int .i64 y11.2) rfl rfl) (wl rfl (alS (zs := [.int .u32 0, .int .i64 0, .int .i64 0, .int .i64 0, .int .i64 0, .bool false]) Try.zeroValue26 rfl hS22 fun w22 b6 im23 hS23 => ?_))))
              refine wl rfl (st0B (q := 0) hS23 ⟨rfl, rfl⟩ rfl rfl rfl Try.sizeOf26 rfl rfl rfl fun w23 im24 hS24 => ?_)
              have hS24 : Sep g T12 w23 [boxA b6 [.int .u32 y11.1.Num, .int .i64 y11.1.Ptr.Obj, .int .i64 y11.1.Ptr.Lo, .int .i64 y11.1.Ptr.Hi, .int .i64 y11.1.Ptr.Off, .bool y11.1.Is], boxA b3 [.int .i64 y5.1.Obj, .int .i64 y5.1.Lo, .int .i64 y5.1.Hi, .int .i64 y5.1.Off], boxA b2 [.int .i64 y3.1.Obj, .int .i64 y3.1.Lo, .int .i64 y3.1.Hi, .int .i64 y3.1.Off], R, boxA b1 [.slice a7 n7 c7], nestA nEStoreObject 59 (.slice a7 n7 c7) y10.2.list] := hS24
              refine pv (r_zi rfl) (nil (t_thenR [(7, .pointer (some ⟨b1, 0, none⟩)), (8, .pointer (some ⟨b2, 0, none⟩)), (9, .int .i64 y3.2.1), (10, .int .i64 y4.1), (11, .pointer (some ⟨b3, 0, none⟩)), (12, .int .i64 y5.2), (14, .int .i64 y6.2), (15, .int .i64 y7.1), (17, .int .i64 y8.2), (18, .int .i64 y9.1), (19, .int .i64 y10.1), (21, .int .i64 y11.2)] ⟨rfl, rfl, rfl, rfl, rfl, rfl, rfl, rfl, rfl, rfl, rfl, rfl, trivial⟩ fun J => ?_))
              refine sq2 ?_
              obtain ⟨y12, hx13, hm⟩ := bindS hm
              refine rg (pv (r_mp rfl) (pv (r_ldS rfl Try.isAgg24 Try.sizeOf24 rfl (hS24.cells0 (i := 1) ⟨rfl, rfl⟩ (o := 0) rfl) (cs := [.int .i64 y5.1.Obj, .int .i64 y5.1.Lo, .int .i64 y5.1.Hi, .int .i64 y5.1.Off])) (pv (r_bd (by kernel_rfl) rfl (u := .agg #[.int .u32 0, .int .i64 0, .int .i64 0, .int .i64 0, .int .i64 0, .bool false])) (wl rfl (calS cf10 rfl (store_Store_Put_sim (p0 := y10.2) (H_p0 := boxA b1) (p1 := y5.1) (p2 := 1) (p3 := (⟨0, (⟨0, 0, 0, 0⟩ : StorePtr), false⟩ : StoreValue)) (hS24.bun [1, 2, 3] [4, 5] rfl) (lnBox b1) hx13) rfl fun v12 T13 w24 im25 rv12 => ?_)))))
              obtain ⟨a8, n8, c8, rfl, hS25, _⟩ := rv12
              have hS25 : Sep g T13 w24 [boxA b3 [.int .i64 y5.1.Obj, .int .i64 y5.1.Lo, .int .i64 y5.1.Hi, .int .i64 y5.1.Off], boxA b2 [.int .i64 y3.1.Obj, .int .i64 y3.1.Lo, .int .i64 y3.1.Hi, .int .i64 y3.1.Off], R, boxA b1 [.slice a8 n8 c8], nestA nEStoreObject 59 (.slice a8 n8 c8) y12.2.list] := hS25.unb
              refine pv (r_zi rfl) (nil (t_then ?_))
              refine sq2 ?_
              obtain ⟨y13, hx14, hm⟩ := bindS hm
              refine rg (pv (r_mp rfl) (pv (r_ldS rfl Try.isAgg24 Try.sizeOf24 rfl (hS25.cells0 (i := 0) ⟨rfl, rfl⟩ (o := 0) rfl) (cs := [.int .i64 y5.1.Obj, .int .i64 y5.1.Lo, .int .i64 y5.1.Hi, .int .i64 y5.1.Off])) (wl rfl (calS cf9 rfl (store_Store_Move_sim (p0 := y12.2) (H_p0 := boxA b1) (p1 := y5.1) (p2 := 0) (hS25.bun [1, 2] [3, 4] rfl) (lnBox b1) hx14) rfl fun v13 T14 w25 im26 rv13 => ?_))))
              obtain ⟨rfl, hS26, _⟩ := rv13
              have hS26 : Sep g T14 w25 [boxA b2 [.int .i64 y3.1.Obj, .int .i64 y3.1.Lo, .int .i64 y3.1.Hi, .int .i64 y3.1.Off], R, boxA b1 [.slice a8 n8 c8], nestA nEStoreObject 59 (.slice a8 n8 c8) y12.2.list] := hS26.unb
              refine pv (r_mv rfl) (pv (r_ex (v := .agg #[.int .i64 y13.1.Obj, .int .i64 y13.1.Lo, .int .i64 y13.1.Hi, .int .i64 y13.1.Off]) rfl rfl) (pv (r_ex (v := .int .i64 y13.2) rfl rfl) (wl rfl (alS (zs := [.int .i64 0, .int .i64 0, .int .i64 0, .int .i64 0]) Try.zeroValue24 rfl hS26 fun w26 b7 im27 hS27 => ?_))))
              refine wl rfl (st0B (q := 0) hS27 ⟨rfl, rfl⟩ rfl rfl rfl Try.sizeOf24 rfl rfl rfl fun w27 im28 hS28 => ?_)
              have hS28 : Sep g T14 w27 [boxA b7 [.int .i64 y13.1.Obj, .int .i64 y13.1.Lo, .int .i64 y13.1.Hi, .int .i64 y13.1.Off], boxA b2 [.int .i64 y3.1.Obj, .int .i64 y3.1.Lo, .int .i64 y3.1.Hi, .int .i64 y3.1.Off], R, boxA b1 [.slice a8 n8 c8], nestA nEStoreObject 59 (.slice a8 n8 c8) y12.2.list] := hS28
              refine pv (r_zi rfl) (nil (t_thenR [(7, .pointer (some ⟨b1, 0, none⟩)), (8, .pointer (some ⟨b2, 0, none⟩)), (9, .int .i64 y3.2.1), (10, .int .i64 y4.1), (12, .int .i64 y5.2), (14, .int .i64 y6.2), (15, .int .i64 y7.1), (17, .int .i64 y8.2), (18, .int .i64 y9.1), (19, .int .i64 y10.1), (21, .int .i64 y11.2), (22, .int .i64 y12.1), (24, .int .i64 y13.2)] ⟨rfl, rfl, rfl, rfl, rfl, rfl, rfl, rfl, rfl, rfl, rfl, rfl, rfl, trivial⟩ fun J => ?_))
              refine sq2 ?_
              obtain ⟨y14, hx15, hm⟩ := bindS hm
              refine rg (wl rfl (calS cf6 rfl (law11_awake_sim  (hS28.bun [1, 2, 3, 4] [] rfl)  hx15) rfl fun v14 T15 w28 im29 rv14 => ?_))
              obtain ⟨rfl, hS29, _⟩ := rv14
              have hS29 : Sep g T15 w28 [boxA b2 [.int .i64 y3.1.Obj, .int .i64 y3.1.Lo, .int .i64 y3.1.Hi, .int .i64 y3.1.Off], R, boxA b1 [.slice a8 n8 c8], nestA nEStoreObject 59 (.slice a8 n8 c8) y12.2.list] := hS29.unb
              refine pv (r_mb rfl) (?_)
              rcases Bool.eq_false_or_eq_true y14 with hb7 | hb7
              · have hm := ctrue hb7 hm
                refine gT (d0 := 114) rfl rfl hb7 (pv (r_mi rfl) (gT (d0 := 114) rfl rfl hb7 (pv (r_ib rfl rfl rfl) (pv (r_pkt rfl hb7 rfl) (pv (r_mb rfl) (?_))))))
                rcases Bool.eq_false_or_eq_true (y3.2.1 == 0) with hb8 | hb8
                · have hm := ctrue hb8 hm
                  refine gT (d0 := 118) rfl rfl hb8 (pv (r_mi rfl) (gT (d0 := 118) rfl rfl hb8 (pv (r_ib rfl rfl rfl) (pv (r_pkt rfl hb8 rfl) (pv (r_mb rfl) (?_))))))
                  rcases Bool.eq_false_or_eq_true (y4.1 == 0) with hb9 | hb9
                  · have hm := ctrue hb9 hm
                    refine gT (d0 := 122) rfl rfl hb9 (pv (r_mi rfl) (gT (d0 := 122) rfl rfl hb9 (pv (r_ib rfl rfl rfl) (pv (r_pkt rfl hb9 rfl) (pv (r_mb rfl) (?_))))))
                    rcases Bool.eq_false_or_eq_true (y5.2 == 0) with hb10 | hb10
                    · have hm := ctrue hb10 hm
                      refine gT (d0 := 126) rfl rfl hb10 (pv (r_mi rfl) (gT (d0 := 126) rfl rfl hb10 (pv (r_ib rfl rfl rfl) (pv (r_pkt rfl hb10 rfl) (pv (r_mb rfl) (?_))))))
                      rcases Bool.eq_false_or_eq_true (y6.2 == 0) with hb11 | hb11
                      · have hm := ctrue hb11 hm
                        refine gT (d0 := 130) rfl rfl hb11 (pv (r_mi rfl) (gT (d0 := 130) rfl rfl hb11 (pv (r_ib rfl rfl rfl) (pv (r_pkt rfl hb11 rfl) (pv (r_mb rfl) (?_))))))
                        rcases Bool.eq_false_or_eq_true (y7.1 == 0) with hb12 | hb12
                        · have hm := ctrue hb12 hm
                          refine gT (d0 := 134) rfl rfl hb12 (pv (r_mi rfl) (gT (d0 := 134) rfl rfl hb12 (pv (r_ib rfl rfl rfl) (pv (r_pkt rfl hb12 rfl) (pv (r_mb rfl) (?_))))))
                          rcases Bool.eq_false_or_eq_true (y8.2 == 13) with hb13 | hb13
                          · have hm := ctrue hb13 hm
                            refine gT (d0 := 138) rfl rfl hb13 (pv (r_mi rfl) (gT (d0 := 138) rfl rfl hb13 (pv (r_ib rfl rfl rfl) (pv (r_pkt rfl hb13 rfl) (pv (r_mb rfl) (?_))))))
                            rcases Bool.eq_false_or_eq_true (y9.1 == 0) with hb14 | hb14
                            · have hm := ctrue hb14 hm
                              refine gT (d0 := 142) rfl rfl hb14 (pv (r_mi rfl) (gT (d0 := 142) rfl rfl hb14 (pv (r_ib rfl rfl rfl) (pv (r_pkt rfl hb14 rfl) (pv (r_mb rfl) (?_))))))
                              rcases Bool.eq_false_or_eq_true (y10.1 == 0) with hb15 | hb15
                              · have hm := ctrue hb15 hm
                                refine gT (d0 := 146) rfl rfl hb15 (pv (r_mi rfl) (gT (d0 := 146) rfl rfl hb15 (pv (r_ib rfl rfl rfl) (pv (r_pkt rfl hb15 rfl) (pv (r_mb rfl) (?_))))))
                                rcases Bool.eq_false_or_eq_true (y11.2 == 15) with hb16 | hb16
                                · have hm := ctrue hb16 hm
                                  refine gT (d0 := 150) rfl rfl hb16 (pv (r_mi rfl) (gT (d0 := 150) rfl rfl hb16 (pv (r_ib rfl rfl rfl) (pv (r_pkt rfl hb16 rfl) (pv (r_mb rfl) (?_))))))
                                  rcases Bool.eq_false_or_eq_true (y12.1 == 15) with hb17 | hb17
                                  · have hm := ctrue hb17 hm
                                    refine gT (d0 := 154) rfl rfl hb17 (pv (r_mi rfl) (gT (d0 := 154) rfl rfl hb17 (pv (r_ib rfl rfl rfl) (pv (r_pkt rfl hb17 rfl) (pv (r_mb rfl) (?_))))))
                                    rcases Bool.eq_false_or_eq_true (y13.2 == 15) with hb18 | hb18
                                    · have hm := ctrue hb18 hm
                                      obtain ⟨y15, hx16, hm⟩ := bindS hm
                                      refine gT (d0 := 158) rfl rfl hb18 (pv (r_mp rfl) (gT (d0 := 158) rfl rfl hb18 (pv (r_fa rfl Try.underlying24 rfl Try.sizeOf3 rfl) (gT (d0 := 158) rfl rfl hb18 (pv (r_ld rfl Try.isAgg3 (hS29.cell0 (i := 0) ⟨rfl, rfl⟩ (j := 0) rfl)) (gT (d0 := 158) rfl rfl hb18 (wl rfl (calS cf15 rfl (store_Store_Drop_sim (p0 := y12.2) (H_p0 := boxA b1) (p1 := y3.1.Obj) (hS29.bun [1] [2, 3] rfl) (lnBox b1) hx16) rfl fun v15 T16 w29 im30 rv15 => ?_))))))))
                                      obtain ⟨a9, n9, c9, rfl, hS30, _⟩ := rv15
                                      have hS30 : Sep g T16 w29 [R, boxA b1 [.slice a9 n9 c9], nestA nEStoreObject 59 (.slice a9 n9 c9) y15.2.list] := hS30.unb
                                      refine gT (d0 := 158) rfl rfl hb18 (pv (r_ib rfl rfl rfl) (pv (r_pkt rfl hb18 rfl) (pv (r_zb rfl) (nil (t_thenR [(6, .bool (y15.1 == 4))] ⟨rfl, trivial⟩ fun J => ?_)))))
                                      have hm := Option.some.inj hm
                                      subst hm
                                      exact rtn (ret1 rfl rfl ⟨_, rfl, _, (Im.trans im2 (Im.trans im3 (Im.trans im4 (Im.trans im5 (Im.trans im6 (Im.trans im7 (Im.trans im8 (Im.trans im9 (Im.trans im10 (Im.trans im11 (Im.trans im12 (Im.trans im13 (Im.trans im14 (Im.trans im15 (Im.trans im16 (Im.trans im17 (Im.trans im18 (Im.trans im19 (Im.trans im20 (Im.trans im21 (Im.trans im22 (Im.trans im23 (Im.trans im24 (Im.trans im25 (Im.trans im26 (Im.trans im27 (Im.trans im28 (Im.trans im29 im30)))))))))))))))))))))))))))), ⟨rfl, hS30.sel [0] rfl, trivial⟩⟩)
                                    · have hm := cfalse hb18 hm
                                      refine gF (d0 := 158) rfl rfl (by rw [hb18]; rfl) (gF (d0 := 158) rfl rfl (by rw [hb18]; rfl) (gF (d0 := 158) rfl rfl (by rw [hb18]; rfl) (gF (d0 := 158) rfl rfl (by rw [hb18]; rfl) (gF (d0 := 158) rfl rfl (by rw [hb18]; rfl) (pv (r_pkf rfl hb18 rfl) (pv (r_zb rfl) (nil (t_thenR [(6, .bool false)] ⟨rfl, trivial⟩ fun J => ?_))))))))
                                      have hm := Option.some.inj hm
                                      subst hm
                                      exact rtn (ret1 rfl rfl ⟨_, rfl, _, (Im.trans im2 (Im.trans im3 (Im.trans im4 (Im.trans im5 (Im.trans im6 (Im.trans im7 (Im.trans im8 (Im.trans im9 (Im.trans im10 (Im.trans im11 (Im.trans im12 (Im.trans im13 (Im.trans im14 (Im.trans im15 (Im.trans im16 (Im.trans im17 (Im.trans im18 (Im.trans im19 (Im.trans im20 (Im.trans im21 (Im.trans im22 (Im.trans im23 (Im.trans im24 (Im.trans im25 (Im.trans im26 (Im.trans im27 (Im.trans im28 im29))))))))))))))))))))))))))), ⟨rfl, hS29.sel [1] rfl, trivial⟩⟩)
                                  · have hm := cfalse hb17 hm
                                    refine gF (d0 := 154) rfl rfl (by rw [hb17]; rfl) (gF (d0 := 154) rfl rfl (by rw [hb17]; rfl) (pv (r_pkf rfl hb17 rfl) (pv (r_mb rfl) (gF (d0 := 158) rfl rfl rfl (gF (d0 := 158) rfl rfl rfl (gF (d0 := 158) rfl rfl rfl (gF (d0 := 158) rfl rfl rfl (gF (d0 := 158) rfl rfl rfl (pv (r_pkf rfl rfl rfl) (pv (r_zb rfl) (nil (t_thenR [(6, .bool false)] ⟨rfl, trivial⟩ fun J => ?_))))))))))))
                                    have hm := Option.some.inj hm
                                    subst hm
                                    exact rtn (ret1 rfl rfl ⟨_, rfl, _, (Im.trans im2 (Im.trans im3 (Im.trans im4 (Im.trans im5 (Im.trans im6 (Im.trans im7 (Im.trans im8 (Im.trans im9 (Im.trans im10 (Im.trans im11 (Im.trans im12 (Im.trans im13 (Im.trans im14 (Im.trans im15 (Im.trans im16 (Im.trans im17 (Im.trans im18 (Im.trans im19 (Im.trans im20 (Im.trans im21 (Im.trans im22 (Im.trans im23 (Im.trans im24 (Im.trans im25 (Im.trans im26 (Im.trans im27 (Im.trans im28 im29))))))))))))))))))))))))))), ⟨rfl, hS29.sel [1] rfl, trivial⟩⟩)
                                · have hm := cfalse hb16 hm
                                  refine gF (d0 := 150) rfl rfl (by rw [hb16]; rfl) (gF (d0 := 150) rfl rfl (by rw [hb16]; rfl) (pv (r_pkf rfl hb16 rfl) (pv (r_mb rfl) (gF (d0 := 154) rfl rfl rfl (gF (d0 := 154) rfl rfl rfl (pv (r_pkf rfl rfl rfl) (pv (r_mb rfl) (gF (d0 := 158) rfl rfl rfl (gF (d0 := 158) rfl rfl rfl (gF (d0 := 158) rfl rfl rfl (gF (d0 := 158) rfl rfl rfl (gF (d0 := 158) rfl rfl rfl (pv (r_pkf rfl rfl rfl) (pv (r_zb rfl) (nil (t_thenR [(6, .bool false)] ⟨rfl, trivial⟩ fun J => ?_))))))))))))))))
                                  have hm := Option.some.inj hm
                                  subst hm
                                  exact rtn (ret1 rfl rfl ⟨_, rfl, _, (Im.trans im2 (Im.trans im3 (Im.trans im4 (Im.trans im5 (Im.trans im6 (Im.trans im7 (Im.trans im8 (Im.trans im9 (Im.trans im10 (Im.trans im11 (Im.trans im12 (Im.trans im13 (Im.trans im14 (Im.trans im15 (Im.trans im16 (Im.trans im17 (Im.trans im18 (Im.trans im19 (Im.trans im20 (Im.trans im21 (Im.trans im22 (Im.trans im23 (Im.trans im24 (Im.trans im25 (Im.trans im26 (Im.trans im27 (Im.trans im28 im29))))))))))))))))))))))))))), ⟨rfl, hS29.sel [1] rfl, trivial⟩⟩)
                              · have hm := cfalse hb15 hm
                                refine gF (d0 := 146) rfl rfl (by rw [hb15]; rfl) (gF (d0 := 146) rfl rfl (by rw [hb15]; rfl) (pv (r_pkf rfl hb15 rfl) (pv (r_mb rfl) (gF (d0 := 150) rfl rfl rfl (gF (d0 := 150) rfl rfl rfl (pv (r_pkf rfl rfl rfl) (pv (r_mb rfl) (gF (d0 := 154) rfl rfl rfl (gF (d0 := 154) rfl rfl rfl (pv (r_pkf rfl rfl rfl) (pv (r_mb rfl) (gF (d0 := 158) rfl rfl rfl (gF (d0 := 158) rfl rfl rfl (gF (d0 := 158) rfl rfl rfl (gF (d0 := 158) rfl rfl rfl (gF (d0 := 158) rfl rfl rfl (pv (r_pkf rfl rfl rfl) (pv (r_zb rfl) (nil (t_thenR [(6, .bool false)] ⟨rfl, trivial⟩ fun J => ?_))))))))))))))))))))
                                have hm := Option.some.inj hm
                                subst hm
                                exact rtn (ret1 rfl rfl ⟨_, rfl, _, (Im.trans im2 (Im.trans im3 (Im.trans im4 (Im.trans im5 (Im.trans im6 (Im.trans im7 (Im.trans im8 (Im.trans im9 (Im.trans im10 (Im.trans im11 (Im.trans im12 (Im.trans im13 (Im.trans im14 (Im.trans im15 (Im.trans im16 (Im.trans im17 (Im.trans im18 (Im.trans im19 (Im.trans im20 (Im.trans im21 (Im.trans im22 (Im.trans im23 (Im.trans im24 (Im.trans im25 (Im.trans im26 (Im.trans im27 (Im.trans im28 im29))))))))))))))))))))))))))), ⟨rfl, hS29.sel [1] rfl, trivial⟩⟩)
                            · have hm := cfalse hb14 hm
                              refine gF (d0 := 142) rfl rfl (by rw [hb14]; rfl) (gF (d0 := 142) rfl rfl (by rw [hb14]; rfl) (pv (r_pkf rfl hb14 rfl) (pv (r_mb rfl) (gF (d0 := 146) rfl rfl rfl (gF (d0 := 146) rfl rfl rfl (pv (r_pkf rfl rfl rfl) (pv (r_mb rfl) (gF (d0 := 150) rfl rfl rfl (gF (d0 := 150) rfl rfl rfl (pv (r_pkf rfl rfl rfl) (pv (r_mb rfl) (gF (d0 := 154) rfl rfl rfl (gF (d0 := 154) rfl rfl rfl (pv (r_pkf rfl rfl rfl) (pv (r_mb rfl) (gF (d0 := 158) rfl rfl rfl (gF (d0 := 158) rfl rfl rfl (gF (d0 := 158) rfl rfl rfl (gF (d0 := 158) rfl rfl rfl (gF (d0 := 158) rfl rfl rfl (pv (r_pkf rfl rfl rfl) (pv (r_zb rfl) (nil (t_thenR [(6, .bool false)] ⟨rfl, trivial⟩ fun J => ?_))))))))))))))))))))))))
                              have hm := Option.some.inj hm
                              subst hm
                              exact rtn (ret1 rfl rfl ⟨_, rfl, _, (Im.trans im2 (Im.trans im3 (Im.trans im4 (Im.trans im5 (Im.trans im6 (Im.trans im7 (Im.trans im8 (Im.trans im9 (Im.trans im10 (Im.trans im11 (Im.trans im12 (Im.trans im13 (Im.trans im14 (Im.trans im15 (Im.trans im16 (Im.trans im17 (Im.trans im18 (Im.trans im19 (Im.trans im20 (Im.trans im21 (Im.trans im22 (Im.trans im23 (Im.trans im24 (Im.trans im25 (Im.trans im26 (Im.trans im27 (Im.trans im28 im29))))))))))))))))))))))))))), ⟨rfl, hS29.sel [1] rfl, trivial⟩⟩)
                          · have hm := cfalse hb13 hm
                            refine gF (d0 := 138) rfl rfl (by rw [hb13]; rfl) (gF (d0 := 138) rfl rfl (by rw [hb13]; rfl) (pv (r_pkf rfl hb13 rfl) (pv (r_mb rfl) (gF (d0 := 142) rfl rfl rfl (gF (d0 := 142) rfl rfl rfl (pv (r_pkf rfl rfl rfl) (pv (r_mb rfl) (gF (d0 := 146) rfl rfl rfl (gF (d0 := 146) rfl rfl rfl (pv (r_pkf rfl rfl rfl) (pv (r_mb rfl) (gF (d0 := 150) rfl rfl rfl (gF (d0 := 150) rfl rfl rfl (pv (r_pkf rfl rfl rfl) (pv (r_mb rfl) (gF (d0 := 154) rfl rfl rfl (gF (d0 := 154) rfl rfl rfl (pv (r_pkf rfl rfl rfl) (pv (r_mb rfl) (gF (d0 := 158) rfl rfl rfl (gF (d0 := 158) rfl rfl rfl (gF (d0 := 158) rfl rfl rfl (gF (d0 := 158) rfl rfl rfl (gF (d0 := 158) rfl rfl rfl (pv (r_pkf rfl rfl rfl) (pv (r_zb rfl) (nil (t_thenR [(6, .bool false)] ⟨rfl, trivial⟩ fun J => ?_))))))))))))))))))))))))))))
                            have hm := Option.some.inj hm
                            subst hm
                            exact rtn (ret1 rfl rfl ⟨_, rfl, _, (Im.trans im2 (Im.trans im3 (Im.trans im4 (Im.trans im5 (Im.trans im6 (Im.trans im7 (Im.trans im8 (Im.trans im9 (Im.trans im10 (Im.trans im11 (Im.trans im12 (Im.trans im13 (Im.trans im14 (Im.trans im15 (Im.trans im16 (Im.trans im17 (Im.trans im18 (Im.trans im19 (Im.trans im20 (Im.trans im21 (Im.trans im22 (Im.trans im23 (Im.trans im24 (Im.trans im25 (Im.trans im26 (Im.trans im27 (Im.trans im28 im29))))))))))))))))))))))))))), ⟨rfl, hS29.sel [1] rfl, trivial⟩⟩)
                        · have hm := cfalse hb12 hm
                          refine gF (d0 := 134) rfl rfl (by rw [hb12]; rfl) (gF (d0 := 134) rfl rfl (by rw [hb12]; rfl) (pv (r_pkf rfl hb12 rfl) (pv (r_mb rfl) (gF (d0 := 138) rfl rfl rfl (gF (d0 := 138) rfl rfl rfl (pv (r_pkf rfl rfl rfl) (pv (r_mb rfl) (gF (d0 := 142) rfl rfl rfl (gF (d0 := 142) rfl rfl rfl (pv (r_pkf rfl rfl rfl) (pv (r_mb rfl) (gF (d0 := 146) rfl rfl rfl (gF (d0 := 146) rfl rfl rfl (pv (r_pkf rfl rfl rfl) (pv (r_mb rfl) (gF (d0 := 150) rfl rfl rfl (gF (d0 := 150) rfl rfl rfl (pv (r_pkf rfl rfl rfl) (pv (r_mb rfl) (gF (d0 := 154) rfl rfl rfl (gF (d0 := 154) rfl rfl rfl (pv (r_pkf rfl rfl rfl) (pv (r_mb rfl) (gF (d0 := 158) rfl rfl rfl (gF (d0 := 158) rfl rfl rfl (gF (d0 := 158) rfl rfl rfl (gF (d0 := 158) rfl rfl rfl (gF (d0 := 158) rfl rfl rfl (pv (r_pkf rfl rfl rfl) (pv (r_zb rfl) (nil (t_thenR [(6, .bool false)] ⟨rfl, trivial⟩ fun J => ?_))))))))))))))))))))))))))))))))
                          have hm := Option.some.inj hm
                          subst hm
                          exact rtn (ret1 rfl rfl ⟨_, rfl, _, (Im.trans im2 (Im.trans im3 (Im.trans im4 (Im.trans im5 (Im.trans im6 (Im.trans im7 (Im.trans im8 (Im.trans im9 (Im.trans im10 (Im.trans im11 (Im.trans im12 (Im.trans im13 (Im.trans im14 (Im.trans im15 (Im.trans im16 (Im.trans im17 (Im.trans im18 (Im.trans im19 (Im.trans im20 (Im.trans im21 (Im.trans im22 (Im.trans im23 (Im.trans im24 (Im.trans im25 (Im.trans im26 (Im.trans im27 (Im.trans im28 im29))))))))))))))))))))))))))), ⟨rfl, hS29.sel [1] rfl, trivial⟩⟩)
                      · have hm := cfalse hb11 hm
                        refine gF (d0 := 130) rfl rfl (by rw [hb11]; rfl) (gF (d0 := 130) rfl rfl (by rw [hb11]; rfl) (pv (r_pkf rfl hb11 rfl) (pv (r_mb rfl) (gF (d0 := 134) rfl rfl rfl (gF (d0 := 134) rfl rfl rfl (pv (r_pkf rfl rfl rfl) (pv (r_mb rfl) (gF (d0 := 138) rfl rfl rfl (gF (d0 := 138) rfl rfl rfl (pv (r_pkf rfl rfl rfl) (pv (r_mb rfl) (gF (d0 := 142) rfl rfl rfl (gF (d0 := 142) rfl rfl rfl (pv (r_pkf rfl rfl rfl) (pv (r_mb rfl) (gF (d0 := 146) rfl rfl rfl (gF (d0 := 146) rfl rfl rfl (pv (r_pkf rfl rfl rfl) (pv (r_mb rfl) (gF (d0 := 150) rfl rfl rfl (gF (d0 := 150) rfl rfl rfl (pv (r_pkf rfl rfl rfl) (pv (r_mb rfl) (gF (d0 := 154) rfl rfl rfl (gF (d0 := 154) rfl rfl rfl (pv (r_pkf rfl rfl rfl) (pv (r_mb rfl) (gF (d0 := 158) rfl rfl rfl (gF (d0 := 158) rfl rfl rfl (gF (d0 := 158) rfl rfl rfl (gF (d0 := 158) rfl rfl rfl (gF (d0 := 158) rfl rfl rfl (pv (r_pkf rfl rfl rfl) (pv (r_zb rfl) (nil (t_thenR [(6, .bool false)] ⟨rfl, trivial⟩ fun J => ?_))))))))))))))))))))))))))))))))))))
                        have hm := Option.some.inj hm
                        subst hm
                        exact rtn (ret1 rfl rfl ⟨_, rfl, _, (Im.trans im2 (Im.trans im3 (Im.trans im4 (Im.trans im5 (Im.trans im6 (Im.trans im7 (Im.trans im8 (Im.trans im9 (Im.trans im10 (Im.trans im11 (Im.trans im12 (Im.trans im13 (Im.trans im14 (Im.trans im15 (Im.trans im16 (Im.trans im17 (Im.trans im18 (Im.trans im19 (Im.trans im20 (Im.trans im21 (Im.trans im22 (Im.trans im23 (Im.trans im24 (Im.trans im25 (Im.trans im26 (Im.trans im27 (Im.trans im28 im29))))))))))))))))))))))))))), ⟨rfl, hS29.sel [1] rfl, trivial⟩⟩)
                    · have hm := cfalse hb10 hm
                      refine gF (d0 := 126) rfl rfl (by rw [hb10]; rfl) (gF (d0 := 126) rfl rfl (by rw [hb10]; rfl) (pv (r_pkf rfl hb10 rfl) (pv (r_mb rfl) (gF (d0 := 130) rfl rfl rfl (gF (d0 := 130) rfl rfl rfl (pv (r_pkf rfl rfl rfl) (pv (r_mb rfl) (gF (d0 := 134) rfl rfl rfl (gF (d0 := 134) rfl rfl rfl (pv (r_pkf rfl rfl rfl) (pv (r_mb rfl) (gF (d0 := 138) rfl rfl rfl (gF (d0 := 138) rfl rfl rfl (pv (r_pkf rfl rfl rfl) (pv (r_mb rfl) (gF (d0 := 142) rfl rfl rfl (gF (d0 := 142) rfl rfl rfl (pv (r_pkf rfl rfl rfl) (pv (r_mb rfl) (gF (d0 := 146) rfl rfl rfl (gF (d0 := 146) rfl rfl rfl (pv (r_pkf rfl rfl rfl) (pv (r_mb rfl) (gF (d0 := 150) rfl rfl rfl (gF (d0 := 150) rfl rfl rfl (pv (r_pkf rfl rfl rfl) (pv (r_mb rfl) (gF (d0 := 154) rfl rfl rfl (gF (d0 := 154) rfl rfl rfl (pv (r_pkf rfl rfl rfl) (pv (r_mb rfl) (gF (d0 := 158) rfl rfl rfl (gF (d0 := 158) rfl rfl rfl (gF (d0 := 158) rfl rfl rfl (gF (d0 := 158) rfl rfl rfl (gF (d0 := 158) rfl rfl rfl (pv (r_pkf rfl rfl rfl) (pv (r_zb rfl) (nil (t_thenR [(6, .bool false)] ⟨rfl, trivial⟩ fun J => ?_))))))))))))))))))))))))))))))))))))))))
                      have hm := Option.some.inj hm
                      subst hm
                      exact rtn (ret1 rfl rfl ⟨_, rfl, _, (Im.trans im2 (Im.trans im3 (Im.trans im4 (Im.trans im5 (Im.trans im6 (Im.trans im7 (Im.trans im8 (Im.trans im9 (Im.trans im10 (Im.trans im11 (Im.trans im12 (Im.trans im13 (Im.trans im14 (Im.trans im15 (Im.trans im16 (Im.trans im17 (Im.trans im18 (Im.trans im19 (Im.trans im20 (Im.trans im21 (Im.trans im22 (Im.trans im23 (Im.trans im24 (Im.trans im25 (Im.trans im26 (Im.trans im27 (Im.trans im28 im29))))))))))))))))))))))))))), ⟨rfl, hS29.sel [1] rfl, trivial⟩⟩)
                  · have hm := cfalse hb9 hm
                    refine gF (d0 := 122) rfl rfl (by rw [hb9]; rfl) (gF (d0 := 122) rfl rfl (by rw [hb9]; rfl) (pv (r_pkf rfl hb9 rfl) (pv (r_mb rfl) (gF (d0 := 126) rfl rfl rfl (gF (d0 := 126) rfl rfl rfl (pv (r_pkf rfl rfl rfl) (pv (r_mb rfl) (gF (d0 := 130) rfl rfl rfl (gF (d0 := 130) rfl rfl rfl (pv (r_pkf rfl rfl rfl) (pv (r_mb rfl) (gF (d0 := 134) rfl rfl rfl (gF (d0 := 134) rfl rfl rfl (pv (r_pkf rfl rfl rfl) (pv (r_mb rfl) (gF (d0 := 138) rfl rfl rfl (gF (d0 := 138) rfl rfl rfl (pv (r_pkf rfl rfl rfl) (pv (r_mb rfl) (gF (d0 := 142) rfl rfl rfl (gF (d0 := 142) rfl rfl rfl (pv (r_pkf rfl rfl rfl) (pv (r_mb rfl) (gF (d0 := 146) rfl rfl rfl (gF (d0 := 146) rfl rfl rfl (pv (r_pkf rfl rfl rfl) (pv (r_mb rfl) (gF (d0 := 150) rfl rfl rfl (gF (d0 := 150) rfl rfl rfl (pv (r_pkf rfl rfl rfl) (pv (r_mb rfl) (gF (d0 := 154) rfl rfl rfl (gF (d0 := 154) rfl rfl rfl (pv (r_pkf rfl rfl rfl) (pv (r_mb rfl) (gF (d0 := 158) rfl rfl rfl (gF (d0 := 158) rfl rfl rfl (gF (d0 := 158) rfl rfl rfl (gF (d0 := 158) rfl rfl rfl (gF (d0 := 158) rfl rfl rfl (pv (r_pkf rfl rfl rfl) (pv (r_zb rfl) (nil (t_thenR [(6, .bool false)] ⟨rfl, trivial⟩ fun J => ?_))))))))))))))))))))))))))))))))))))))))))))
                    have hm := Option.some.inj hm
                    subst hm
                    exact rtn (ret1 rfl rfl ⟨_, rfl, _, (Im.trans im2 (Im.trans im3 (Im.trans im4 (Im.trans im5 (Im.trans im6 (Im.trans im7 (Im.trans im8 (Im.trans im9 (Im.trans im10 (Im.trans im11 (Im.trans im12 (Im.trans im13 (Im.trans im14 (Im.trans im15 (Im.trans im16 (Im.trans im17 (Im.trans im18 (Im.trans im19 (Im.trans im20 (Im.trans im21 (Im.trans im22 (Im.trans im23 (Im.trans im24 (Im.trans im25 (Im.trans im26 (Im.trans im27 (Im.trans im28 im29))))))))))))))))))))))))))), ⟨rfl, hS29.sel [1] rfl, trivial⟩⟩)
                · have hm := cfalse hb8 hm
                  refine gF (d0 := 118) rfl rfl (by rw [hb8]; rfl) (gF (d0 := 118) rfl rfl (by rw [hb8]; rfl) (pv (r_pkf rfl hb8 rfl) (pv (r_mb rfl) (gF (d0 := 122) rfl rfl rfl (gF (d0 := 122) rfl rfl rfl (pv (r_pkf rfl rfl rfl) (pv (r_mb rfl) (gF (d0 := 126) rfl rfl rfl (gF (d0 := 126) rfl rfl rfl (pv (r_pkf rfl rfl rfl) (pv (r_mb rfl) (gF (d0 := 130) rfl rfl rfl (gF (d0 := 130) rfl rfl rfl (pv (r_pkf rfl rfl rfl) (pv (r_mb rfl) (gF (d0 := 134) rfl rfl rfl (gF (d0 := 134) rfl rfl rfl (pv (r_pkf rfl rfl rfl) (pv (r_mb rfl) (gF (d0 := 138) rfl rfl rfl (gF (d0 := 138) rfl rfl rfl (pv (r_pkf rfl rfl rfl) (pv (r_mb rfl) (gF (d0 := 142) rfl rfl rfl (gF (d0 := 142) rfl rfl rfl (pv (r_pkf rfl rfl rfl) (pv (r_mb rfl) (gF (d0 := 146) rfl rfl rfl (gF (d0 := 146) rfl rfl rfl (pv (r_pkf rfl rfl rfl) (pv (r_mb rfl) (gF (d0 := 150) rfl rfl rfl (gF (d0 := 150) rfl rfl rfl (pv (r_pkf rfl rfl rfl) (pv (r_mb rfl) (gF (d0 := 154) rfl rfl rfl (gF (d0 := 154) rfl rfl rfl (pv (r_pkf rfl rfl rfl) (pv (r_mb rfl) (gF (d0 := 158) rfl rfl rfl (gF (d0 := 158) rfl rfl rfl (gF (d0 := 158) rfl rfl rfl (gF (d0 := 158) rfl rfl rfl (gF (d0 := 158) rfl rfl rfl (pv (r_pkf rfl rfl rfl) (pv (r_zb rfl) (nil (t_thenR [(6, .bool false)] ⟨rfl, trivial⟩ fun J => ?_))))))))))))))))))))))))))))))))))))))))))))))))
                  have hm := Option.some.inj hm
                  subst hm
                  exact rtn (ret1 rfl rfl ⟨_, rfl, _, (Im.trans im2 (Im.trans im3 (Im.trans im4 (Im.trans im5 (Im.trans im6 (Im.trans im7 (Im.trans im8 (Im.trans im9 (Im.trans im10 (Im.trans im11 (Im.trans im12 (Im.trans im13 (Im.trans im14 (Im.trans im15 (Im.trans im16 (Im.trans im17 (Im.trans im18 (Im.trans im19 (Im.trans im20 (Im.trans im21 (Im.trans im22 (Im.trans im23 (Im.trans im24 (Im.trans im25 (Im.trans im26 (Im.trans im27 (Im.trans im28 im29))))))))))))))))))))))))))), ⟨rfl, hS29.sel [1] rfl, trivial⟩⟩)
              · have hm := cfalse hb7 hm
                refine gF (d0 := 114) rfl rfl (by rw [hb7]; rfl) (gF (d0 := 114) rfl rfl (by rw [hb7]; rfl) (pv (r_pkf rfl hb7 rfl) (pv (r_mb rfl) (gF (d0 := 118) rfl rfl rfl (gF (d0 := 118) rfl rfl rfl (pv (r_pkf rfl rfl rfl) (pv (r_mb rfl) (gF (d0 := 122) rfl rfl rfl (gF (d0 := 122) rfl rfl rfl (pv (r_pkf rfl rfl rfl) (pv (r_mb rfl) (gF (d0 := 126) rfl rfl rfl (gF (d0 := 126) rfl rfl rfl (pv (r_pkf rfl rfl rfl) (pv (r_mb rfl) (gF (d0 := 130) rfl rfl rfl (gF (d0 := 130) rfl rfl rfl (pv (r_pkf rfl rfl rfl) (pv (r_mb rfl) (gF (d0 := 134) rfl rfl rfl (gF (d0 := 134) rfl rfl rfl (pv (r_pkf rfl rfl rfl) (pv (r_mb rfl) (gF (d0 := 138) rfl rfl rfl (gF (d0 := 138) rfl rfl rfl (pv (r_pkf rfl rfl rfl) (pv (r_mb rfl) (gF (d0 := 142) rfl rfl rfl (gF (d0 := 142) rfl rfl rfl (pv (r_pkf rfl rfl rfl) (pv (r_mb rfl) (gF (d0 := 146) rfl rfl rfl (gF (d0 := 146) rfl rfl rfl (pv (r_pkf rfl rfl rfl) (pv (r_mb rfl) (gF (d0 := 150) rfl rfl rfl (gF (d0 := 150) rfl rfl rfl (pv (r_pkf rfl rfl rfl) (pv (r_mb rfl) (gF (d0 := 154) rfl rfl rfl (gF (d0 := 154) rfl rfl rfl (pv (r_pkf rfl rfl rfl) (pv (r_mb rfl) (gF (d0 := 158) rfl rfl rfl (gF (d0 := 158) rfl rfl rfl (gF (d0 := 158) rfl rfl rfl (gF (d0 := 158) rfl rfl rfl (gF (d0 := 158) rfl rfl rfl (pv (r_pkf rfl rfl rfl) (pv (r_zb rfl) (nil (t_thenR [(6, .bool false)] ⟨rfl, trivial⟩ fun J => ?_))))))))))))))))))))))))))))))))))))))))))))))))))))
                have hm := Option.some.inj hm
                subst hm
                exact rtn (ret1 rfl rfl ⟨_, rfl, _, (Im.trans im2 (Im.trans im3 (Im.trans im4 (Im.trans im5 (Im.trans im6 (Im.trans im7 (Im.trans im8 (Im.trans im9 (Im.trans im10 (Im.trans im11 (Im.trans im12 (Im.trans im13 (Im.trans im14 (Im.trans im15 (Im.trans im16 (Im.trans im17 (Im.trans im18 (Im.trans im19 (Im.trans im20 (Im.trans im21 (Im.trans im22 (Im.trans im23 (Im.trans im24 (Im.trans im25 (Im.trans im26 (Im.trans im27 (Im.trans im28 im29))))))))))))))))))))))))))), ⟨rfl, hS29.sel [1] rfl, trivial⟩⟩)

set_option maxRecDepth 100000 in
set_option maxHeartbeats 1000000 in
theorem ref11_sane_sim {g : World} {T0 : Nat → Prop} {w0 : World} {R : Assn} {p0 : StorePtr} {r : Bool} (hS : Sep g T0 w0 [R])  (hm : ref11_sane p0 = some r) :
    Calls Try.prog 24 #[.agg #[.int .i64 p0.Obj, .int .i64 p0.Lo, .int .i64 p0.Hi, .int .i64 p0.Off]] w0 (RetS T0 w0 fun T w v => v = .bool r ∧ Sep g T w [R] ∧ True) := by
  refine enter (args := [.agg #[.int .i64 p0.Obj, .int .i64 p0.Lo, .int .i64 p0.Hi, .int .i64 p0.Off]]) Try.func24 rfl Try.ntmps24 rfl fun J => ?_
  unfold ref11_sane at hm
  refine sq2 ?_
  refine rg (wl rfl (bxS (cs := [.int .i64 p0.Obj, .int .i64 p0.Lo, .int .i64 p0.Hi, .int .i64 p0.Off]) rfl rfl hS fun w1 b1 im1 hS1 => ?_))
  refine pv (r_zb rfl) (nil (t_then ?_))
  refine sq2 ?_
  refine rg (pv (r_fa rfl Try.underlying68 rfl Try.sizeOf3 rfl) (pv (r_ld rfl Try.isAgg3 (hS1.cell0 (i := 0) ⟨rfl, rfl⟩ (j := 1) rfl)) (pv (r_ib rfl rfl rfl) (pv (r_mb rfl) (?_)))))
  rcases Bool.eq_false_or_eq_true (decide ((-100000) ≤ p0.Lo)) with hb1 | hb1
  · have hm := ctrue hb1 hm
    refine gT (d0 := 6) rfl rfl hb1 (pv (r_fa rfl Try.underlying68 rfl Try.sizeOf3 rfl) (gT (d0 := 6) rfl rfl hb1 (pv (r_ld rfl Try.isAgg3 (hS1.cell0 (i := 0) ⟨rfl, rfl⟩ (j := 1) rfl)) (gT (d0 := 6) rfl rfl hb1 (pv (r_ib rfl rfl rfl) (pv (r_pkt rfl hb1 rfl) (pv (r_mb rfl) (?_))))))))
    rcases Bool.eq_false_or_eq_true (decide (p0.Lo ≤ 100000)) with hb2 | hb2
    · have hm := ctrue hb2 hm
      refine gT (d0 := 11) rfl rfl hb2 (pv (r_fa rfl Try.underlying68 rfl Try.sizeOf3 rfl) (gT (d0 := 11) rfl rfl hb2 (pv (r_ld rfl Try.isAgg3 (hS1.cell0 (i := 0) ⟨rfl, rfl⟩ (j := 2) rfl)) (gT (d0 := 11) rfl rfl hb2 (pv (r_ib rfl rfl rfl) (pv (r_pkt rfl hb2 rfl) (pv (r_mb rfl) (?_))))))))
      rcases Bool.eq_false_or_eq_true (decide ((-100000) ≤ p0.Hi)) with hb3 | hb3
      · have hm := ctrue hb3 hm
        refine gT (d0 := 16) rfl rfl hb3 (pv (r_fa rfl Try.underlying68 rfl Try.sizeOf3 rfl) (gT (d0 := 16) rfl rfl hb3 (pv (r_ld rfl Try.isAgg3 (hS1.cell0 (i := 0) ⟨rfl, rfl⟩ (j := 2) rfl)) (gT (d0 := 16) rfl rfl hb3 (pv (r_ib rfl rfl rfl) (pv (r_pkt rfl hb3 rfl) (pv (r_mb rfl) (?_))))))))
        rcases Bool.eq_false_or_eq_true (decide (p0.Hi ≤ 100000)) with hb4 | hb4
        · have hm := ctrue hb4 hm
          refine gT (d0 := 21) rfl rfl hb4 (pv (r_fa rfl Try.underlying68 rfl Try.sizeOf3 rfl) (gT (d0 := 21) rfl rfl hb4 (pv (r_ld rfl Try.isAgg3 (hS1.cell0 (i := 0) ⟨rfl, rfl⟩ (j := 3) rfl)) (gT (d0 := 21) rfl rfl hb4 (pv (r_ib rfl rfl rfl) (pv (r_pkt rfl hb4 rfl) (pv (r_mb rfl) (?_))))))))
          rcases Bool.eq_false_or_eq_true (decide ((-100000) ≤ p0.Off)) with hb5 | hb5
          · have hm := ctrue hb5 hm
            refine gT (d0 := 26) rfl rfl hb5 (pv (r_fa rfl Try.underlying68 rfl Try.sizeOf3 rfl) (gT (d0 := 26) rfl rfl hb5 (pv (r_ld rfl Try.isAgg3 (hS1.cell0 (i := 0) ⟨rfl, rfl⟩ (j := 3) rfl)) (gT (d0 := 26) rfl rfl hb5 (pv (r_ib rfl rfl rfl) (pv (r_pkt rfl hb5 rfl) (pv (r_zb rfl) (nil (t_thenR [(2, .bool (decide (p0.Off ≤ 100000)))] ⟨rfl, trivial⟩ fun J => ?_)))))))))
            have hm := Option.some.inj hm
            subst hm
            exact rtn (ret1 rfl rfl ⟨_, rfl, _, im1, ⟨rfl, hS1.sel [1] rfl, trivial⟩⟩)
          · have hm := cfalse hb5 hm
            refine gF (d0 := 26) rfl rfl (by rw [hb5]; rfl) (gF (d0 := 26) rfl rfl (by rw [hb5]; rfl) (gF (d0 := 26) rfl rfl (by rw [hb5]; rfl) (pv (r_pkf rfl hb5 rfl) (pv (r_zb rfl) (nil (t_thenR [(2, .bool false)] ⟨rfl, trivial⟩ fun J => ?_))))))
            have hm := Option.some.inj hm
            subst hm
            exact rtn (ret1 rfl rfl ⟨_, rfl, _, im1, ⟨rfl, hS1.sel [1] rfl, trivial⟩⟩)
        · have hm := cfalse hb4 hm
          refine gF (d0 := 21) rfl rfl (by rw [hb4]; rfl) (gF (d0 := 21) rfl rfl (by rw [hb4]; rfl) (gF (d0 := 21) rfl rfl (by rw [hb4]; rfl) (pv (r_pkf rfl hb4 rfl) (pv (r_mb rfl) (gF (d0 := 26) rfl rfl rfl (gF (d0 := 26) rfl rfl rfl (gF (d0 := 26) rfl rfl rfl (pv (r_pkf rfl rfl rfl) (pv (r_zb rfl) (nil (t_thenR [(2, .bool false)] ⟨rfl, trivial⟩ fun J => ?_)))))))))))
          have hm := Option.some.inj hm
          subst hm
          exact rtn (ret1 rfl rfl ⟨_, rfl, _, im1, ⟨rfl, hS1.sel [1] rfl, trivial⟩⟩)
      · have hm := cfalse hb3 hm
        refine gF (d0 := 16) rfl rfl (by rw [hb3]; rfl) (gF (d0 := 16) rfl rfl (by rw [hb3]; rfl) (gF (d0 := 16) rfl rfl (by rw [hb3]; rfl) (pv (r_pkf rfl hb3 rfl) (pv (r_mb rfl) (gF (d0 := 21) rfl rfl rfl (gF (d0 := 21) rfl rfl rfl (gF (d0 := 21) rfl rfl rfl (pv (r_pkf rfl rfl rfl) (pv (r_mb rfl) (gF (d0 := 26) rfl rfl rfl (gF (d0 := 26) rfl rfl rfl (gF (d0 := 26) rfl rfl rfl (pv (r_pkf rfl rfl rfl) (pv (r_zb rfl) (nil (t_thenR [(2, .bool false)] ⟨rfl, trivial⟩ fun J => ?_))))))))))))))))
        have hm := Option.some.inj hm
        subst hm
        exact rtn (ret1 rfl rfl ⟨_, rfl, _, im1, ⟨rfl, hS1.sel [1] rfl, trivial⟩⟩)
    · have hm := cfalse hb2 hm
      refine gF (d0 := 11) rfl rfl (by rw [hb2]; rfl) (gF (d0 := 11) rfl rfl (by rw [hb2]; rfl) (gF (d0 := 11) rfl rfl (by rw [hb2]; rfl) (pv (r_pkf rfl hb2 rfl) (pv (r_mb rfl) (gF (d0 := 16) rfl rfl rfl (gF (d0 := 16) rfl rfl rfl (gF (d0 := 16) rfl rfl rfl (pv (r_pkf rfl rfl rfl) (pv (r_mb rfl) (gF (d0 := 21) rfl rfl rfl (gF (d0 := 21) rfl rfl rfl (gF (d0 := 21) rfl rfl rfl (pv (r_pkf rfl rfl rfl) (pv (r_mb rfl) (gF (d0 := 26) rfl rfl rfl (gF (d0 := 26) rfl rfl rfl (gF (d0 := 26) rfl rfl rfl (pv (r_pkf rfl rfl rfl) (pv (r_zb rfl) (nil (t_thenR [(2, .bool false)] ⟨rfl, trivial⟩ fun J => ?_)))))))))))))))))))))
      have hm := Option.some.inj hm
      subst hm
      exact rtn (ret1 rfl rfl ⟨_, rfl, _, im1, ⟨rfl, hS1.sel [1] rfl, trivial⟩⟩)
  · have hm := cfalse hb1 hm
    refine gF (d0 := 6) rfl rfl (by rw [hb1]; rfl) (gF (d0 := 6) rfl rfl (by rw [hb1]; rfl) (gF (d0 := 6) rfl rfl (by rw [hb1]; rfl) (pv (r_pkf rfl hb1 rfl) (pv (r_mb rfl) (gF (d0 := 11) rfl rfl rfl (gF (d0 := 11) rfl rfl rfl (gF (d0 := 11) rfl rfl rfl (pv (r_pkf rfl rfl rfl) (pv (r_mb rfl) (gF (d0 := 16) rfl rfl rfl (gF (d0 := 16) rfl rfl rfl (gF (d0 := 16) rfl rfl rfl (pv (r_pkf rfl rfl rfl) (pv (r_mb rfl) (gF (d0 := 21) rfl rfl rfl (gF (d0 := 21) rfl rfl rfl (gF (d0 := 21) rfl rfl rfl (pv (r_pkf rfl rfl rfl) (pv (r_mb rfl) (gF (d0 := 26) rfl rfl rfl (gF (d0 := 26) rfl rfl rfl (gF (d0 := 26) rfl rfl rfl (pv (r_pkf rfl rfl rfl) (pv (r_zb rfl) (nil (t_thenR [(2, .bool false)] ⟨rfl, trivial⟩ fun J => ?_))))))))))))))))))))))))))
    have hm := Option.some.inj hm
    subst hm
    exact rtn (ret1 rfl rfl ⟨_, rfl, _, im1, ⟨rfl, hS1.sel [1] rfl, trivial⟩⟩)

set_option maxRecDepth 100000 in
set_option maxHeartbeats 1000000 in
theorem ref11_Sane_sim {g : World} {T0 : Nat → Prop} {w0 : World} {R : Assn} {p0 : StorePtr} {p1 : Int} {p2 : Int} {r : Bool} (hS : Sep g T0 w0 [R])  (hm : ref11_Sane p0 p1 p2 = some r) :
    Calls Try.prog 23 #[.agg #[.int .i64 p0.Obj, .int .i64 p0.Lo, .int .i64 p0.Hi, .int .i64 p0.Off], .int .i64 p1, .int .i64 p2] w0 (RetS T0 w0 fun T w v => v = .bool r ∧ Sep g T w [R] ∧ True) := by
  refine enter (args := [.agg #[.int .i64 p0.Obj, .int .i64 p0.Lo, .int .i64 p0.Hi, .int .i64 p0.Off], .int .i64 p1, .int .i64 p2]) Try.func23 rfl Try.ntmps23 rfl fun J => ?_
  unfold ref11_Sane at hm
  refine sq2 ?_
  refine rg (wl rfl (bxS (cs := [.int .i64 p0.Obj, .int .i64 p0.Lo, .int .i64 p0.Hi, .int .i64 p0.Off]) rfl rfl hS fun w1 b1 im1 hS1 => ?_))
  refine pv (r_zb rfl) (nil (t_then ?_))
  refine sq2 ?_
  obtain ⟨y1, hx1, hm⟩ := bindS hm
  refine rg (pv (r_ldS rfl Try.isAgg68 Try.sizeOf68 rfl (hS1.cells0 (i := 0) ⟨rfl, rfl⟩ (o := 0) rfl) (cs := [.int .i64 p0.Obj, .int .i64 p0.Lo, .int .i64 p0.Hi, .int .i64 p0.Off])) (wl rfl (calS cf24 rfl (ref11_sane_sim (p0 := p0) (hS1.bun [1] [] rfl)  hx1) rfl fun v1 T1 w2 im2 rv1 => ?_)))
  obtain ⟨rfl, hS2, _⟩ := rv1
  have hS2 : Sep g T1 w2 [R] := hS2.unb
  refine pv (r_mb rfl) (?_)
  rcases Bool.eq_false_or_eq_true y1 with hb1 | hb1
  · have hm := ctrue hb1 hm
    refine gT (d0 := 9) rfl rfl hb1 (pv (r_mi rfl) (gT (d0 := 9) rfl rfl hb1 (pv (r_ib rfl rfl rfl) (pv (r_pkt rfl hb1 rfl) (pv (r_mb rfl) (?_))))))
    rcases Bool.eq_false_or_eq_true (decide ((-100000) ≤ p1)) with hb2 | hb2
    · have hm := ctrue hb2 hm
      refine gT (d0 := 13) rfl rfl hb2 (pv (r_mi rfl) (gT (d0 := 13) rfl rfl hb2 (pv (r_ib rfl rfl rfl) (pv (r_pkt rfl hb2 rfl) (pv (r_mb rfl) (?_))))))
      rcases Bool.eq_false_or_eq_true (decide (p1 ≤ 100000)) with hb3 | hb3
      · have hm := ctrue hb3 hm
        refine gT (d0 := 17) rfl rfl hb3 (pv (r_mi rfl) (gT (d0 := 17) rfl rfl hb3 (pv (r_ib rfl rfl rfl) (pv (r_pkt rfl hb3 rfl) (pv (r_mb rfl) (?_))))))
        rcases Bool.eq_false_or_eq_true (decide ((-100000) ≤ p2)) with hb4 | hb4
        · have hm := ctrue hb4 hm
          refine gT (d0 := 21) rfl rfl hb4 (pv (r_mi rfl) (gT (d0 := 21) rfl rfl hb4 (pv (r_ib rfl rfl rfl) (pv (r_pkt rfl hb4 rfl) (pv (r_zb rfl) (nil (t_thenR [(6, .bool (decide (p2 ≤ 100000)))] ⟨rfl, trivial⟩ fun J => ?_)))))))
          have hm := Option.some.inj hm
          subst hm
          exact rtn (ret1 rfl rfl ⟨_, rfl, _, (Im.trans im1 im2), ⟨rfl, hS2.sel [0] rfl, trivial⟩⟩)
        · have hm := cfalse hb4 hm
          refine gF (d0 := 21) rfl rfl (by rw [hb4]; rfl) (gF (d0 := 21) rfl rfl (by rw [hb4]; rfl) (pv (r_pkf rfl hb4 rfl) (pv (r_zb rfl) (nil (t_thenR [(6, .bool false)] ⟨rfl, trivial⟩ fun J => ?_)))))
          have hm := Option.some.inj hm
          subst hm
          exact rtn (ret1 rfl rfl ⟨_, rfl, _, (Im.trans im1 im2), ⟨rfl, hS2.sel [0] rfl, trivial⟩⟩)
      · have hm := cfalse hb3 hm
        refine gF (d0 := 17) rfl rfl (by rw [hb3]; rfl) (gF (d0 := 17) rfl rfl (by rw [hb3]; rfl) (pv (r_pkf rfl hb3 rfl) (pv (r_mb rfl) (gF (d0 := 21) rfl rfl rfl (gF (d0 := 21) rfl rfl rfl (pv (r_pkf rfl rfl rfl) (pv (r_zb rfl) (nil (t_thenR [(6, .bool false)] ⟨rfl, trivial⟩ fun J => ?_)))))))))
        have hm := Option.some.inj hm
        subst hm
        exact rtn (ret1 rfl rfl ⟨_, rfl, _, (Im.trans im1 im2), ⟨rfl, hS2.sel [0] rfl, trivial⟩⟩)
    · have hm := cfalse hb2 hm
      refine gF (d0 := 13) rfl rfl (by rw [hb2]; rfl) (gF (d0 := 13) rfl rfl (by rw [hb2]; rfl) (pv (r_pkf rfl hb2 rfl) (pv (r_mb rfl) (gF (d0 := 17) rfl rfl rfl (gF (d0 := 17) rfl rfl rfl (pv (r_pkf rfl rfl rfl) (pv (r_mb rfl) (gF (d0 := 21) rfl rfl rfl (gF (d0 := 21) rfl rfl rfl (pv (r_pkf rfl rfl rfl) (pv (r_zb rfl) (nil (t_thenR [(6, .bool false)] ⟨rfl, trivial⟩ fun J => ?_)))))))))))))
      have hm := Option.some.inj hm
      subst hm
      exact rtn (ret1 rfl rfl ⟨_, rfl, _, (Im.trans im1 im2), ⟨rfl, hS2.sel [0] rfl, trivial⟩⟩)
  · have hm := cfalse hb1 hm
    refine gF (d0 := 9) rfl rfl (by rw [hb1]; rfl) (gF (d0 := 9) rfl rfl (by rw [hb1]; rfl) (pv (r_pkf rfl hb1 rfl) (pv (r_mb rfl) (gF (d0 := 13) rfl rfl rfl (gF (d0 := 13) rfl rfl rfl (pv (r_pkf rfl rfl rfl) (pv (r_mb rfl) (gF (d0 := 17) rfl rfl rfl (gF (d0 := 17) rfl rfl rfl (pv (r_pkf rfl rfl rfl) (pv (r_mb rfl) (gF (d0 := 21) rfl rfl rfl (gF (d0 := 21) rfl rfl rfl (pv (r_pkf rfl rfl rfl) (pv (r_zb rfl) (nil (t_thenR [(6, .bool false)] ⟨rfl, trivial⟩ fun J => ?_)))))))))))))))))
    have hm := Option.some.inj hm
    subst hm
    exact rtn (ret1 rfl rfl ⟨_, rfl, _, (Im.trans im1 im2), ⟨rfl, hS2.sel [0] rfl, trivial⟩⟩)
end Go.Proofs.Ytncfbaodlbgabaa
