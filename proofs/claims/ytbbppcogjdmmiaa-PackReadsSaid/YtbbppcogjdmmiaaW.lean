/- That Go functions compute their models. Printed by gen2.py. -/
import Derived.Test.YtbbppcogjdmmiaaWa
set_option linter.unusedVariables false
namespace Go.Proofs.Ytbbppcogjdmmiaa
attribute [local irreducible] wpList wpQuiet Code.wp

set_option maxRecDepth 100000 in
set_option maxHeartbeats 1000000 in
theorem law32_PackWrites_sim {g : World} {T0 : Nat → Prop} {w0 : World} {R : Assn} {p0 : GImage} {a1 : Option Addr} {c1 : Nat} {a2 : Option Addr} {c2 : Nat} {r : Bool} (hS : Sep g T0 w0 [R]) (h1 : SlR (rInt .u32) T0 w0 (.slice a1 (List.length p0.Code) c1) p0.Code) (h2 : SlR (rInt .u8) T0 w0 (.slice a2 (List.length p0.Data) c2) p0.Data) (hm : law32_PackWrites p0 = some r) :
    Calls Try.prog 3 #[.agg #[.slice a1 (List.length p0.Code) c1, .slice a2 (List.length p0.Data) c2, .int .i64 p0.Limit, .int .i64 p0.Notes]] w0 (RetS T0 w0 fun T w v => v = .bool r ∧ Sep g T w [R] ∧ True) := by
  refine enter (args := [.agg #[.slice a1 (List.length p0.Code) c1, .slice a2 (List.length p0.Data) c2, .int .i64 p0.Limit, .int .i64 p0.Notes]]) Try.func3 rfl Try.ntmps3 rfl fun J => ?_
  unfold law32_PackWrites at hm
  refine sq2 ?_
  refine rg (wl rfl (bxS (cs := [.slice a1 (List.length p0.Code) c1, .slice a2 (List.length p0.Data) c2, .int .i64 p0.Limit, .int .i64 p0.Notes]) rfl rfl hS fun w1 b1 im1 hS1 => ?_))
  refine pv (r_zb rfl) (nil (t_then ?_))
  refine sq2 ?_
  refine sq2 ?_
  obtain ⟨y1, hx1, hm⟩ := bindS hm
  refine rg (pv (r_ldS rfl Try.isAgg25 Try.sizeOf25 rfl (hS1.cells0 (i := 0) ⟨rfl, rfl⟩ (o := 0) rfl) (cs := [.slice a1 (List.length p0.Code) c1, .slice a2 (List.length p0.Data) c2, .int .i64 p0.Limit, .int .i64 p0.Notes])) (wl rfl (calS cf6 rfl (law32_few_sim (p0 := p0) (hS1.bun [0, 1] [] rfl) (h1.mono im1) (h2.mono im1) hx1) rfl fun v1 T1 w2 im2 rv1 => ?_)))
  obtain ⟨rfl, hS2, _⟩ := rv1
  have hS2 : Sep g T1 w2 [boxA b1 [.slice a1 (List.length p0.Code) c1, .slice a2 (List.length p0.Data) c2, .int .i64 p0.Limit, .int .i64 p0.Notes], R] := hS2.unb
  refine pv (r_nt rfl) (nil (t_then ?_))
  refine cnd rfl (fun hb1 => ?_) (fun hb1 => ?_)
  · have hm := ctrue hb1 hm
    refine sq2 ?_
    obtain ⟨y2, hx2, hm⟩ := bindS hm
    refine rg (wl rfl (calS cf7 rfl (law32_awake_sim  (hS2.bun [1] [] rfl)  hx2) rfl fun v2 T2 w3 im3 rv2 => ?_))
    obtain ⟨rfl, hS3, _⟩ := rv2
    have hS3 : Sep g T2 w3 [R] := hS3.unb
    refine pv (r_zb rfl) (nil (t_thenR [(2, .bool y2)] ⟨rfl, trivial⟩ fun J => ?_))
    have hm := Option.some.inj hm
    subst hm
    exact rtn (r_then (ret1 rfl rfl ⟨_, rfl, _, (Im.trans im1 (Im.trans im2 im3)), ⟨rfl, hS3.sel [0] rfl, trivial⟩⟩))
  · have hm := cfalse hb1 hm
    refine skp (t_thenR [(1, .pointer (some ⟨b1, 0, none⟩))] ⟨rfl, trivial⟩ fun J => ?_)
    refine sq2 ?_
    obtain ⟨y3, hx3, hm⟩ := bindS hm
    refine rg (pv (r_ldS rfl Try.isAgg25 Try.sizeOf25 rfl (hS2.cells0 (i := 0) ⟨rfl, rfl⟩ (o := 0) rfl) (cs := [.slice a1 (List.length p0.Code) c1, .slice a2 (List.length p0.Data) c2, .int .i64 p0.Limit, .int .i64 p0.Notes])) (wl rfl (calS cf8 rfl (pack_Encode_sim (p0 := p0) (hS2.bun [0, 1] [] rfl) (h1.mono (Im.trans im1 im2)) (h2.mono (Im.trans im1 im2)) hx3) rfl fun v3 T3 w4 im4 rv3 => ?_)))
    obtain ⟨a3, n1, c3, rfl, hS4, _⟩ := rv3
    have hS4 : Sep g T3 w4 [boxA b1 [.slice a1 (List.length p0.Code) c1, .slice a2 (List.length p0.Data) c2, .int .i64 p0.Limit, .int .i64 p0.Notes], R, ownA (rInt .u8) 5 (.slice a3 n1 c3) y3.1] := hS4.unb
    refine pv (r_mv rfl) (pv (r_ex (v := .slice a3 n1 c3) rfl rfl) (pv (r_ex (v := .int .i64 y3.2) rfl rfl) (pv (r_zs rfl) (pv (r_zi rfl) (nil (t_thenR [(1, .pointer (some ⟨b1, 0, none⟩)), (3, .slice a3 n1 c3), (4, .int .i64 y3.2)] ⟨rfl, rfl, rfl, trivial⟩ fun J => ?_))))))
    refine sq2 ?_
    refine sq2 ?_
    obtain ⟨y4, hx4, hm⟩ := bindS hm
    refine rg (pv (r_ldS rfl Try.isAgg25 Try.sizeOf25 rfl (hS4.cells0 (i := 0) ⟨rfl, rfl⟩ (o := 0) rfl) (cs := [.slice a1 (List.length p0.Code) c1, .slice a2 (List.length p0.Data) c2, .int .i64 p0.Limit, .int .i64 p0.Notes])) (wl rfl (calS cf9 rfl (ref32_Right_sim (p0 := p0) (hS4.bun [0, 1, 2] [] rfl) (h1.mono (Im.trans im1 (Im.trans im2 im4))) (h2.mono (Im.trans im1 (Im.trans im2 im4))) hx4) rfl fun v4 T4 w5 im5 rv4 => ?_)))
    obtain ⟨rfl, hS5, _⟩ := rv4
    have hS5 : Sep g T4 w5 [boxA b1 [.slice a1 (List.length p0.Code) c1, .slice a2 (List.length p0.Data) c2, .int .i64 p0.Limit, .int .i64 p0.Notes], R, ownA (rInt .u8) 5 (.slice a3 n1 c3) y3.1] := hS5.unb
    refine pv (r_nt rfl) (nil (t_then ?_))
    refine cnd rfl (fun hb2 => ?_) (fun hb2 => ?_)
    · have hm := ctrue hb2 hm
      refine sq2 ?_
      obtain ⟨y5, hx5, hm⟩ := bindS hm
      refine rg (wl rfl (calS cf7 rfl (law32_awake_sim  (hS5.bun [1, 2] [] rfl)  hx5) rfl fun v5 T5 w6 im6 rv5 => ?_))
      obtain ⟨rfl, hS6, _⟩ := rv5
      have hS6 : Sep g T5 w6 [R, ownA (rInt .u8) 5 (.slice a3 n1 c3) y3.1] := hS6.unb
      refine pv (r_mb rfl) (?_)
      rcases Bool.eq_false_or_eq_true y5 with hb3 | hb3
      · have hm := ctrue hb3 hm
        refine gT (d0 := 20) rfl rfl hb3 (pv (r_mi rfl) (gT (d0 := 20) rfl rfl hb3 (pv (r_ib rfl rfl rfl) (pv (r_pkt rfl hb3 rfl) (pv (r_mb rfl) (?_))))))
        rcases Bool.eq_false_or_eq_true (y3.2 == 1) with hb4 | hb4
        · have hm := ctrue hb4 hm
          refine gT (d0 := 24) rfl rfl hb4 (pv (r_ms rfl) (gT (d0 := 24) rfl rfl hb4 (pv (r_lnV rfl (hS6.own (i := 1) ⟨rfl, rfl⟩).v Try.underlying23) (gT (d0 := 24) rfl rfl hb4 (pv (r_ib rfl rfl rfl) (pv (r_pkt rfl hb4 rfl) (pv (r_zb rfl) (nil (t_thenR [(2, .bool ((List.length y3.1 : Int) == 0))] ⟨rfl, trivial⟩ fun J => ?_)))))))))
          have hm := Option.some.inj hm
          subst hm
          exact rtn (r_then (ret1 rfl rfl ⟨_, rfl, _, (Im.trans im1 (Im.trans im2 (Im.trans im4 (Im.trans im5 im6)))), ⟨rfl, hS6.sel [0] rfl, trivial⟩⟩))
        · have hm := cfalse hb4 hm
          refine gF (d0 := 24) rfl rfl (by rw [hb4]; rfl) (gF (d0 := 24) rfl rfl (by rw [hb4]; rfl) (gF (d0 := 24) rfl rfl (by rw [hb4]; rfl) (pv (r_pkf rfl hb4 rfl) (pv (r_zb rfl) (nil (t_thenR [(2, .bool false)] ⟨rfl, trivial⟩ fun J => ?_))))))
          have hm := Option.some.inj hm
          subst hm
          exact rtn (r_then (ret1 rfl rfl ⟨_, rfl, _, (Im.trans im1 (Im.trans im2 (Im.trans im4 (Im.trans im5 im6)))), ⟨rfl, hS6.sel [0] rfl, trivial⟩⟩))
      · have hm := cfalse hb3 hm
        refine gF (d0 := 20) rfl rfl (by rw [hb3]; rfl) (gF (d0 := 20) rfl rfl (by rw [hb3]; rfl) (pv (r_pkf rfl hb3 rfl) (pv (r_mb rfl) (gF (d0 := 24) rfl rfl rfl (gF (d0 := 24) rfl rfl rfl (gF (d0 := 24) rfl rfl rfl (pv (r_pkf rfl rfl rfl) (pv (r_zb rfl) (nil (t_thenR [(2, .bool false)] ⟨rfl, trivial⟩ fun J => ?_))))))))))
        have hm := Option.some.inj hm
        subst hm
        exact rtn (r_then (ret1 rfl rfl ⟨_, rfl, _, (Im.trans im1 (Im.trans im2 (Im.trans im4 (Im.trans im5 im6)))), ⟨rfl, hS6.sel [0] rfl, trivial⟩⟩))
    · have hm := cfalse hb2 hm
      refine skp (t_then ?_)
      refine sq2 ?_
      refine rg (pv (r_ms rfl) (?_))
      obtain ⟨T6, im7, hS7, h3⟩ := hS5.seal 2 ⟨rfl, rfl⟩
      have hsh := h3.len
      subst hsh
      have hS7 : Sep g T6 w5 [boxA b1 [.slice a1 (List.length p0.Code) c1, .slice a2 (List.length p0.Data) c2, .int .i64 p0.Limit, .int .i64 p0.Notes], R, empA] := hS7
      obtain ⟨y6, hx6, hm⟩ := bindS hm
      refine wl rfl (calS cf10 rfl (pack_Decode_sim (p0 := y3.1) (hS7.bun [0, 1] [] rfl) h3 hx6) rfl fun v6 T7 w7 im8 rv6 => ?_)
      obtain ⟨a4, c4, a5, c5, rfl, hS8, h4, h5, _⟩ := rv6
      have hS8 : Sep g T7 w7 [boxA b1 [.slice a1 (List.length p0.Code) c1, .slice a2 (List.length p0.Data) c2, .int .i64 p0.Limit, .int .i64 p0.Notes], R] := hS8.unb
      refine pv (r_mv rfl) (pv (r_ex (v := .agg #[.slice a4 (List.length y6.1.Code) c4, .slice a5 (List.length y6.1.Data) c5, .int .i64 y6.1.Limit, .int .i64 y6.1.Notes]) rfl rfl) (pv (r_ex (v := .int .i64 y6.2) rfl rfl) (wl rfl (alS (zs := [.slice none 0 0, .slice none 0 0, .int .i64 0, .int .i64 0]) Try.zeroValue25 rfl hS8 fun w8 b2 im9 hS9 => ?_))))
      refine wl rfl (st0B (q := 0) hS9 ⟨rfl, rfl⟩ rfl rfl rfl Try.sizeOf25 rfl rfl rfl fun w9 im10 hS10 => ?_)
      have hS10 : Sep g T7 w9 [boxA b2 [.slice a4 (List.length y6.1.Code) c4, .slice a5 (List.length y6.1.Data) c5, .int .i64 y6.1.Limit, .int .i64 y6.1.Notes], boxA b1 [.slice a1 (List.length p0.Code) c1, .slice a2 (List.length p0.Data) c2, .int .i64 p0.Limit, .int .i64 p0.Notes], R] := hS10
      refine pv (r_zi rfl) (nil (t_thenR [(1, .pointer (some ⟨b1, 0, none⟩)), (3, .slice a3 (List.length y3.1) c3), (4, .int .i64 y3.2), (5, .pointer (some ⟨b2, 0, none⟩)), (6, .int .i64 y6.2)] ⟨rfl, rfl, rfl, rfl, rfl, trivial⟩ fun J => ?_))
      refine sq2 ?_
      refine rs [2, 0, 0, 0, 0, 0, 0, 1, 1, 2, 1, 0, 0, 0, 0, 0, 0, 0, 1, 1, 2, 0, 0] [0, 1, 2, 3, 4, 5, 6, 7, 8, 9, 10, 11, 12, 13, 14, 15, 16, 17, 18, 19, 20, 21, 22] mix (by kernel_rfl) hS10.lt fun w10 i1 => ?_
      have im11 := i1.imm
      have hS11 := hS10.keep i1 (fun _ h => h)
      obtain ⟨y7, hx7, hm⟩ := bindS hm
      refine s2 [] rfl trivial rfl (by kernel_rfl) (calS cf7 rfl (law32_awake_sim  (hS11.bun [0, 1, 2] [] rfl)  hx7) rfl fun v7 T8 w11 im12 rv7 => ?_)
      obtain ⟨rfl, hS12, _⟩ := rv7
      have hS12 : Sep g T8 w11 [boxA b2 [.slice a4 (List.length y6.1.Code) c4, .slice a5 (List.length y6.1.Data) c5, .int .i64 y6.1.Limit, .int .i64 y6.1.Notes], boxA b1 [.slice a1 (List.length p0.Code) c1, .slice a2 (List.length p0.Data) c2, .int .i64 p0.Limit, .int .i64 p0.Notes], R] := hS12.unb
      refine ⟨st0, ?_⟩
      refine s0 rfl trivial (fun _ => r_mb rfl) rfl (?_)
      rcases Bool.eq_false_or_eq_true y7 with hb5 | hb5
      · have hm := ctrue hb5 hm
        refine s0 rfl ⟨_, rfl, congrArg Value.bool hb5⟩ (fun _ => r_mi rfl) rfl (s0 rfl ⟨_, rfl, congrArg Value.bool hb5⟩ (fun _ => r_ib rfl rfl rfl) rfl (s0 rfl trivial (fun _ => r_pkt rfl hb5 rfl) rfl (s0 rfl trivial (fun _ => r_mb rfl) rfl (?_))))
        rcases Bool.eq_false_or_eq_true (y3.2 == 0) with hb6 | hb6
        · have hm := ctrue hb6 hm
          obtain ⟨y8, hx8, hm⟩ := bindS hm
          refine s0 rfl ⟨_, rfl, congrArg Value.bool hb6⟩ (fun _ => r_ms rfl) rfl (s1 rfl ⟨_, rfl, congrArg Value.bool hb6⟩ (r_cvs rfl ⟨_, (h3.mono (Im.trans im8 (Im.trans im9 (Im.trans im10 (Im.trans im11 im12))))).v⟩ Try.underlying23 Try.underlying5 Try.underlying9) rfl (s1 rfl ⟨_, rfl, congrArg Value.bool hb6⟩ (r_ldS rfl Try.isAgg25 Try.sizeOf25 rfl (hS12.cells0 (i := 1) ⟨rfl, rfl⟩ (o := 0) rfl) (cs := [.slice a1 (List.length p0.Code) c1, .slice a2 (List.length p0.Data) c2, .int .i64 p0.Limit, .int .i64 p0.Notes])) rfl (s2 [(7, .string ⟨(bytesStr y3.1).toArray⟩)] rfl ⟨_, rfl, congrArg Value.bool hb6⟩ rfl (by kernel_rfl) (calS cf11 rfl (ref32_Encode_sim (p0 := p0) (hS12.bun [0, 1, 2] [] rfl) (h1.mono (Im.trans im1 (Im.trans im2 (Im.trans im4 (Im.trans im5 (Im.trans im7 (Im.trans im8 (Im.trans im9 (Im.trans im10 (Im.trans im11 im12)))))))))) (h2.mono (Im.trans im1 (Im.trans im2 (Im.trans im4 (Im.trans im5 (Im.trans im7 (Im.trans im8 (Im.trans im9 (Im.trans im10 (Im.trans im11 im12)))))))))) hx8) rfl fun v8 T9 w12 im13 rv8 => ?_))))
          obtain ⟨a6, n2, c6, rfl, hS13, _⟩ := rv8
          have hS13 : Sep g T9 w12 [boxA b2 [.slice a4 (List.length y6.1.Code) c4, .slice a5 (List.length y6.1.Data) c5, .int .i64 y6.1.Limit, .int .i64 y6.1.Notes], boxA b1 [.slice a1 (List.length p0.Code) c1, .slice a2 (List.length p0.Data) c2, .int .i64 p0.Limit, .int .i64 p0.Notes], R, ownA (rInt .u8) 5 (.slice a6 n2 c6) y8] := hS13.unb
          refine ⟨st1 rfl (r_cvs rfl ⟨_, (h3.mono (Im.trans im8 (Im.trans im9 (Im.trans im10 (Im.trans im11 (Im.trans im12 im13)))))).v⟩ Try.underlying23 Try.underlying5 Try.underlying9) (st0), ?_⟩
          refine s1 rfl ⟨_, rfl, congrArg Value.bool hb6⟩ (r_cvs rfl ⟨_, (hS13.own (i := 3) ⟨rfl, rfl⟩).v⟩ Try.underlying23 Try.underlying5 Try.underlying9) rfl (s0 rfl ⟨_, rfl, congrArg Value.bool hb6⟩ (fun _ => r_sqL rfl rfl) rfl (s0 rfl trivial (fun _ => r_pkt rfl hb6 rfl) rfl (s0 rfl trivial (fun _ => r_mb rfl) rfl (?_))))
          rcases Bool.eq_false_or_eq_true (decide (bytesStr y3.1 = bytesStr y8)) with hb7 | hb7
          · have hm := ctrue hb7 hm
            refine s0 rfl ⟨_, rfl, congrArg Value.bool hb7⟩ (fun _ => r_mi rfl) rfl (s0 rfl ⟨_, rfl, congrArg Value.bool hb7⟩ (fun _ => r_ib rfl rfl rfl) rfl (s0 rfl trivial (fun _ => r_pkt rfl hb7 rfl) rfl (s0 rfl trivial (fun _ => r_mb rfl) rfl (?_))))
            rcases Bool.eq_false_or_eq_true (y6.2 == 0) with hb8 | hb8
            · have hm := ctrue hb8 hm
              obtain ⟨y9, hx9, hm⟩ := bindS hm
              refine s1 rfl ⟨_, rfl, congrArg Value.bool hb8⟩ (r_ldS rfl Try.isAgg25 Try.sizeOf25 rfl (hS13.cells0 (i := 0) ⟨rfl, rfl⟩ (o := 0) rfl) (cs := [.slice a4 (List.length y6.1.Code) c4, .slice a5 (List.length y6.1.Data) c5, .int .i64 y6.1.Limit, .int .i64 y6.1.Notes])) rfl (s1 rfl ⟨_, rfl, congrArg Value.bool hb8⟩ (r_ldS rfl Try.isAgg25 Try.sizeOf25 rfl (hS13.cells0 (i := 1) ⟨rfl, rfl⟩ (o := 0) rfl) (cs := [.slice a1 (List.length p0.Code) c1, .slice a2 (List.length p0.Data) c2, .int .i64 p0.Limit, .int .i64 p0.Notes])) rfl (s2 [] rfl ⟨_, rfl, congrArg Value.bool hb8⟩ rfl (by kernel_rfl) (calS cf12 rfl (law32_Same_sim (p0 := y6.1) (p1 := p0) (hS13.bun [2, 0, 1] [] rfl) (h4.mono (Im.trans im9 (Im.trans im10 (Im.trans im11 (Im.trans im12 im13))))) (h5.mono (Im.trans im9 (Im.trans im10 (Im.trans im11 (Im.trans im12 im13))))) (h1.mono (Im.trans im1 (Im.trans im2 (Im.trans im4 (Im.trans im5 (Im.trans im7 (Im.trans im8 (Im.trans im9 (Im.trans im10 (Im.trans im11 (Im.trans im12 im13))))))))))) (h2.mono (Im.trans im1 (Im.trans im2 (Im.trans im4 (Im.trans im5 (Im.trans im7 (Im.trans im8 (Im.trans im9 (Im.trans im10 (Im.trans im11 (Im.trans im12 im13))))))))))) hx9) rfl fun v9 T10 w13 im14 rv9 => ?_)))
              obtain ⟨rfl, hS14, _⟩ := rv9
              have hS14 : Sep g T10 w13 [R, boxA b2 [.slice a4 (List.length y6.1.Code) c4, .slice a5 (List.length y6.1.Data) c5, .int .i64 y6.1.Limit, .int .i64 y6.1.Notes], boxA b1 [.slice a1 (List.length p0.Code) c1, .slice a2 (List.length p0.Data) c2, .int .i64 p0.Limit, .int .i64 p0.Notes]] := hS14.unb
              refine ⟨st0, ?_⟩
              refine s0 rfl trivial (fun _ => r_pkt rfl hb8 rfl) rfl (s0 rfl trivial (fun _ => r_zb rfl) rfl (se (t_thenR [(2, .bool y9)] ⟨rfl, trivial⟩ fun J => ?_)))
              have hm := Option.some.inj hm
              subst hm
              exact rtn (ret1 rfl rfl ⟨_, rfl, _, (Im.trans im1 (Im.trans im2 (Im.trans im4 (Im.trans im5 (Im.trans im7 (Im.trans im8 (Im.trans im9 (Im.trans im10 (Im.trans im11 (Im.trans im12 (Im.trans im13 im14))))))))))), ⟨rfl, hS14.sel [0] rfl, trivial⟩⟩)
            · have hm := cfalse hb8 hm
              refine sU rfl ⟨_, rfl, .inl (congrArg Value.bool hb8)⟩ (sU rfl ⟨_, rfl, .inl (congrArg Value.bool hb8)⟩ (sU rfl ⟨_, rfl, .inl (congrArg Value.bool hb8)⟩ (s0 rfl trivial (fun _ => r_pkf rfl hb8 rfl) rfl (s0 rfl trivial (fun _ => r_zb rfl) rfl (se (t_thenR [(2, .bool false)] ⟨rfl, trivial⟩ fun J => ?_))))))
              have hm := Option.some.inj hm
              subst hm
              exact rtn (ret1 rfl rfl ⟨_, rfl, _, (Im.trans im1 (Im.trans im2 (Im.trans im4 (Im.trans im5 (Im.trans im7 (Im.trans im8 (Im.trans im9 (Im.trans im10 (Im.trans im11 (Im.trans im12 im13)))))))))), ⟨rfl, hS13.sel [2] rfl, trivial⟩⟩)
          · have hm := cfalse hb7 hm
            refine sU rfl ⟨_, rfl, .inl (congrArg Value.bool hb7)⟩ (sU rfl ⟨_, rfl, .inl (congrArg Value.bool hb7)⟩ (s0 rfl trivial (fun _ => r_pkf rfl hb7 rfl) rfl (s0 rfl trivial (fun _ => r_mb rfl) rfl (sU rfl ⟨_, rfl, .inl (congrArg Value.bool rfl)⟩ (sU rfl ⟨_, rfl, .inl (congrArg Value.bool rfl)⟩ (sU rfl ⟨_, rfl, .inl (congrArg Value.bool rfl)⟩ (s0 rfl trivial (fun _ => r_pkf rfl rfl rfl) rfl (s0 rfl trivial (fun _ => r_zb rfl) rfl (se (t_thenR [(2, .bool false)] ⟨rfl, trivial⟩ fun J => ?_))))))))))
            have hm := Option.some.inj hm
            subst hm
            exact rtn (ret1 rfl rfl ⟨_, rfl, _, (Im.trans im1 (Im.trans im2 (Im.trans im4 (Im.trans im5 (Im.trans im7 (Im.trans im8 (Im.trans im9 (Im.trans im10 (Im.trans im11 (Im.trans im12 im13)))))))))), ⟨rfl, hS13.sel [2] rfl, trivial⟩⟩)
        · have hm := cfalse hb6 hm
          refine sU rfl ⟨_, rfl, .inl (congrArg Value.bool hb6)⟩ (sU rfl ⟨_, rfl, .inl (congrArg Value.bool hb6)⟩ (sU rfl ⟨_, rfl, .inl (congrArg Value.bool hb6)⟩ (sU rfl ⟨_, rfl, .inl (congrArg Value.bool hb6)⟩ (sU rfl ⟨_, rfl, .inl (congrArg Value.bool hb6)⟩ (sU rfl ⟨_, rfl, .inl (congrArg Value.bool hb6)⟩ (s0 rfl trivial (fun _ => r_pkf rfl hb6 rfl) rfl (s0 rfl trivial (fun _ => r_mb rfl) rfl (sU rfl ⟨_, rfl, .inl (congrArg Value.bool rfl)⟩ (sU rfl ⟨_, rfl, .inl (congrArg Value.bool rfl)⟩ (s0 rfl trivial (fun _ => r_pkf rfl rfl rfl) rfl (s0 rfl trivial (fun _ => r_mb rfl) rfl (sU rfl ⟨_, rfl, .inl (congrArg Value.bool rfl)⟩ (sU rfl ⟨_, rfl, .inl (congrArg Value.bool rfl)⟩ (sU rfl ⟨_, rfl, .inl (congrArg Value.bool rfl)⟩ (s0 rfl trivial (fun _ => r_pkf rfl rfl rfl) rfl (s0 rfl trivial (fun _ => r_zb rfl) rfl (se (t_thenR [(2, .bool false)] ⟨rfl, trivial⟩ fun J => ?_))))))))))))))))))
          have hm := Option.some.inj hm
          subst hm
          exact rtn (ret1 rfl rfl ⟨_, rfl, _, (Im.trans im1 (Im.trans im2 (Im.trans im4 (Im.trans im5 (Im.trans im7 (Im.trans im8 (Im.trans im9 (Im.trans im10 (Im.trans im11 im12))))))))), ⟨rfl, hS12.sel [2] rfl, trivial⟩⟩)
      · have hm := cfalse hb5 hm
        refine sU rfl ⟨_, rfl, .inl (congrArg Value.bool hb5)⟩ (sU rfl ⟨_, rfl, .inl (congrArg Value.bool hb5)⟩ (s0 rfl trivial (fun _ => r_pkf rfl hb5 rfl) rfl (s0 rfl trivial (fun _ => r_mb rfl) rfl (sU rfl ⟨_, rfl, .inl (congrArg Value.bool rfl)⟩ (sU rfl ⟨_, rfl, .inl (congrArg Value.bool rfl)⟩ (sU rfl ⟨_, rfl, .inl (congrArg Value.bool rfl)⟩ (sU rfl ⟨_, rfl, .inl (congrArg Value.bool rfl)⟩ (sU rfl ⟨_, rfl, .inl (congrArg Value.bool rfl)⟩ (sU rfl ⟨_, rfl, .inl (congrArg Value.bool rfl)⟩ (s0 rfl trivial (fun _ => r_pkf rfl rfl rfl) rfl (s0 rfl trivial (fun _ => r_mb rfl) rfl (sU rfl ⟨_, rfl, .inl (congrArg Value.bool rfl)⟩ (sU rfl ⟨_, rfl, .inl (congrArg Value.bool rfl)⟩ (s0 rfl trivial (fun _ => r_pkf rfl rfl rfl) rfl (s0 rfl trivial (fun _ => r_mb rfl) rfl (sU rfl ⟨_, rfl, .inl (congrArg Value.bool rfl)⟩ (sU rfl ⟨_, rfl, .inl (congrArg Value.bool rfl)⟩ (sU rfl ⟨_, rfl, .inl (congrArg Value.bool rfl)⟩ (s0 rfl trivial (fun _ => r_pkf rfl rfl rfl) rfl (s0 rfl trivial (fun _ => r_zb rfl) rfl (se (t_thenR [(2, .bool false)] ⟨rfl, trivial⟩ fun J => ?_))))))))))))))))))))))
        have hm := Option.some.inj hm
        subst hm
        exact rtn (ret1 rfl rfl ⟨_, rfl, _, (Im.trans im1 (Im.trans im2 (Im.trans im4 (Im.trans im5 (Im.trans im7 (Im.trans im8 (Im.trans im9 (Im.trans im10 (Im.trans im11 im12))))))))), ⟨rfl, hS12.sel [2] rfl, trivial⟩⟩)

set_option maxRecDepth 100000 in
set_option maxHeartbeats 1000000 in
theorem ref32_at_sim {g : World} {T0 : Nat → Prop} {w0 : World} {R : Assn} {p0 : List Int} {a1 : Option Addr} {c1 : Nat} {p1 : Int} {r : Int} (hS : Sep g T0 w0 [R]) (h1 : SlR (rInt .u8) T0 w0 (.slice a1 (List.length p0) c1) p0) (hm : ref32_at p0 p1 = some r) :
    Calls Try.prog 24 #[.slice a1 (List.length p0) c1, .int .i64 p1] w0 (RetS T0 w0 fun T w v => v = .int .i64 r ∧ Sep g T w [R] ∧ True) := by
  refine enter (args := [.slice a1 (List.length p0) c1, .int .i64 p1]) Try.func24 rfl Try.ntmps24 rfl fun J => ?_
  unfold ref32_at at hm
  refine sq2 ?_
  refine rg (pv (r_zi rfl) (nil (t_then ?_)))
  refine sq2 ?_
  obtain ⟨u1, hx1, hm⟩ := bindS hm
  obtain ⟨b1, of1, cs1, k1, cp1, hv1, hp1, hl1, he1, hr1, hc1, hT1⟩ := h1.ixT hx1 rfl
  cases hr1
  obtain ⟨u2, hx2, hm⟩ := bindS hm
  obtain ⟨b2, of2, cs2, k2, cp2, hv2, hp2, hl2, he2, hr2, hc2, hT2⟩ := h1.ixT hx2 rfl
  cases hr2
  obtain ⟨u3, hx3, hm⟩ := bindS hm
  obtain ⟨b3, of3, cs3, k3, cp3, hv3, hp3, hl3, he3, hr3, hc3, hT3⟩ := h1.ixT hx3 rfl
  cases hr3
  obtain ⟨u4, hx4, hm⟩ := bindS hm
  obtain ⟨b4, of4, cs4, k4, cp4, hv4, hp4, hl4, he4, hr4, hc4, hT4⟩ := h1.ixT hx4 rfl
  cases hr4
  refine rq mix (by kernel_rfl) hS.lt (qv (fun _ hq => r_ms rfl) (qv (fun _ hq => r_mi rfl) (qv (fun _ hq => r_ixe hv1 rfl Try.underlying23 Try.sizeOf5 hp1 hl1 he1) (qv (fun _ hq => r_ld rfl Try.isAgg5 (hq.cell (hc1.get (j := 0) rfl))) (qv (fun _ hq => r_cv rfl Try.underlying5 Try.underlying3) (qv (fun _ hq => r_ms rfl) (qv (fun _ hq => r_mi rfl) (qv (fun _ hq => r_ib rfl rfl rfl) (qv (fun _ hq => r_ixe hv2 rfl Try.underlying23 Try.sizeOf5 hp2 hl2 he2) (qv (fun _ hq => r_ld rfl Try.isAgg5 (hq.cell (hc2.get (j := 0) rfl))) (qv (fun _ hq => r_cv rfl Try.underlying5 Try.underlying3) (qv (fun _ hq => r_ib rfl rfl rfl) (qv (fun _ hq => r_ib rfl rfl rfl) (qv (fun _ hq => r_ms rfl) (qv (fun _ hq => r_mi rfl) (qv (fun _ hq => r_ib rfl rfl rfl) (qv (fun _ hq => r_ixe hv3 rfl Try.underlying23 Try.sizeOf5 hp3 hl3 he3) (qv (fun _ hq => r_ld rfl Try.isAgg5 (hq.cell (hc3.get (j := 0) rfl))) (qv (fun _ hq => r_cv rfl Try.underlying5 Try.underlying3) (qv (fun _ hq => r_ib rfl rfl rfl) (qv (fun _ hq => r_ib rfl rfl rfl) (qv (fun _ hq => r_ms rfl) (qv (fun _ hq => r_mi rfl) (qv (fun _ hq => r_ib rfl rfl rfl) (qv (fun _ hq => r_ixe hv4 rfl Try.underlying23 Try.sizeOf5 hp4 hl4 he4) (qv (fun _ hq => r_ld rfl Try.isAgg5 (hq.cell (hc4.get (j := 0) rfl))) (qv (fun _ hq => r_cv rfl Try.underlying5 Try.underlying3) (qv (fun _ hq => r_ib rfl rfl rfl) (qv (fun _ hq => r_ib rfl rfl rfl) (qv (fun _ hq => r_zi rfl) (qn fun w1 T1 i1 => ?_)))))))))))))))))))))))))))))))
  have im1 := i1.imm
  have hS1 := hS.keep i1 (fun _ h => h)
  refine t_thenR [(4, .int .i64 (IntKind.wrap .i64 ((IntKind.wrap .i64 ((IntKind.wrap .i64 ((IntKind.wrap .i64 u1) + (IntKind.wrap .i64 (256 * (IntKind.wrap .i64 u2))))) + (IntKind.wrap .i64 (65536 * (IntKind.wrap .i64 u3))))) + (IntKind.wrap .i64 (16777216 * (IntKind.wrap .i64 u4))))))] ⟨rfl, trivial⟩ fun J => ?_
  have hm := Option.some.inj hm
  subst hm
  exact rtn (ret1 rfl rfl ⟨_, rfl, _, im1, ⟨rfl, hS1.sel [0] rfl, trivial⟩⟩)

set_option maxRecDepth 100000 in
set_option maxHeartbeats 1000000 in
theorem ref32_Decode_sim {g : World} {T0 : Nat → Prop} {w0 : World} {R : Assn} {p0 : List Int} {a1 : Option Addr} {c1 : Nat} {r : ref32Read} (hS : Sep g T0 w0 [R]) (h1 : SlR (rInt .u8) T0 w0 (.slice a1 (List.length p0) c1) p0) (hm : ref32_Decode p0 = some r) :
    Calls Try.prog 13 #[.slice a1 (List.length p0) c1] w0 (RetS T0 w0 fun T w v => ∃ (a18 : Option Addr) (c18 : Nat) (a19 : Option Addr) (c19 : Nat), v = .agg #[.slice a18 (List.length r.G.Code) c18, .slice a19 (List.length r.G.Data) c19, .int .i64 r.G.Limit, .int .i64 r.G.Notes, .bool r.Is] ∧ Sep g T w [R] ∧ SlR (rInt .u32) T w (.slice a18 (List.length r.G.Code) c18) r.G.Code ∧ SlR (rInt .u8) T w (.slice a19 (List.length r.G.Data) c19) r.G.Data ∧ True) := by
  refine enter (args := [.slice a1 (List.length p0) c1]) Try.func13 rfl Try.ntmps13 rfl fun J => ?_
  unfold ref32_Decode at hm
  refine sq2 ?_
  refine rg (wl rfl (alS (zs := [.slice none 0 0, .slice none 0 0, .int .i64 0, .int .i64 0, .bool false]) Try.zeroValue36 rfl hS fun w1 b1 im1 hS1 => ?_))
  refine nil (t_then ?_)
  refine sq2 ?_
  refine sq2 ?_
  refine rg (pv (r_ms rfl) (pv (r_ln rfl Try.underlying23) (pv (r_ib rfl rfl rfl) (nil (t_then ?_)))))
  refine cnd rfl (fun hb1 => ?_) (fun hb1 => ?_)
  · have hm := ctrue hb1 hm
    refine sq2 ?_
    refine rg (pv (r_bd (by kernel_rfl) rfl (u := .agg #[.slice none 0 0, .slice none 0 0, .int .i64 0, .int .i64 0, .bool false])) (wl rfl (st0B (q := 0) hS1 ⟨rfl, rfl⟩ rfl rfl rfl Try.sizeOf36 rfl rfl rfl fun w2 im2 hS2 => ?_)))
    have hS2 : Sep g T0 w2 [boxA b1 [.slice none 0 0, .slice none 0 0, .int .i64 0, .int .i64 0, .bool false], R] := hS2
    refine nil (t_thenR [(2, .pointer (some ⟨b1, 0, none⟩))] ⟨rfl, trivial⟩ fun J => ?_)
    have hm := Option.some.inj hm
    subst hm
    exact rtn (r_then (retN (vs := [.agg #[.slice none 0 0, .slice none 0 0, .int .i64 0, .int .i64 0, .bool false]]) rfl ⟨rvS rfl Try.isAgg36 Try.sizeOf36 rfl (hS2.bx (i := 0) ⟨rfl, rfl⟩), trivial⟩ rfl ⟨_, rfl, _, (Im.trans im1 im2), ⟨_, _, _, _, rfl, hS2.sel [1] rfl, SlR_nil, SlR_nil, trivial⟩⟩))
  · have hm := cfalse hb1 hm
    refine skp (t_then ?_)
    refine sq2 ?_
    obtain ⟨y1, hx1, hm⟩ := bindS hm
    refine rg (pv (r_ms rfl) (wl rfl (calS cf24 rfl (ref32_at_sim (p0 := p0) (p1 := 4) (hS1.bun [0, 1] [] rfl) (h1.mono im1) hx1) rfl fun v1 T1 w3 im3 rv1 => ?_)))
    obtain ⟨rfl, hS3, _⟩ := rv1
    have hS3 : Sep g T1 w3 [boxA b1 [.slice none 0 0, .slice none 0 0, .int .i64 0, .int .i64 0, .bool false], R] := hS3.unb
    obtain ⟨y2, hx2, hm⟩ := bindS hm
    refine pv (r_ms rfl) (wl rfl (calS cf24 rfl (ref32_at_sim (p0 := p0) (p1 := 8) (hS3.bun [0, 1] [] rfl) (h1.mono (Im.trans im1 im3)) hx2) rfl fun v2 T2 w4 im4 rv2 => ?_))
    obtain ⟨rfl, hS4, _⟩ := rv2
    have hS4 : Sep g T2 w4 [boxA b1 [.slice none 0 0, .slice none 0 0, .int .i64 0, .int .i64 0, .bool false], R] := hS4.unb
    refine pv (r_zi rfl) (pv (r_zi rfl) (nil (t_thenR [(0, .slice a1 (List.length p0) c1), (2, .pointer (some ⟨b1, 0, none⟩)), (3, .int .i64 y1), (4, .int .i64 y2)] ⟨rfl, rfl, rfl, rfl, trivial⟩ fun J => ?_)))
    refine sq2 ?_
    refine sq2 ?_
    refine rg (pv (r_mi rfl) (pv (r_ib rfl rfl rfl) (pv (r_mb rfl) (?_))))
    rcases Bool.eq_false_or_eq_true (decide (32768 < y1)) with hb2 | hb2
    · have hm := ctrue hb2 hm
      refine gF (d0 := 23) rfl rfl (by rw [hb2]; rfl) (gF (d0 := 23) rfl rfl (by rw [hb2]; rfl) (pv (r_pkt rfl hb2 rfl) (pv (r_mb rfl) (gF (d0 := 27) rfl rfl rfl (gF (d0 := 27) rfl rfl rfl (gF (d0 := 27) rfl rfl rfl (gF (d0 := 27) rfl rfl rfl (gF (d0 := 27) rfl rfl rfl (gF (d0 := 27) rfl rfl rfl (pv (r_pkt rfl rfl rfl) (pv (r_mb rfl) (gF (d0 := 35) rfl rfl rfl (gF (d0 := 35) rfl rfl rfl (gF (d0 := 35) rfl rfl rfl (pv (r_pkt rfl rfl rfl) (pv (r_mb rfl) (gF (d0 := 40) rfl rfl rfl (gF (d0 := 40) rfl rfl rfl (gF (d0 := 40) rfl rfl rfl (pv (r_pkt rfl rfl rfl) (nil (t_thenR [(0, .slice a1 (List.length p0) c1), (2, .pointer (some ⟨b1, 0, none⟩)), (3, .int .i64 y1), (4, .int .i64 y2), (44, .bool true)] ⟨rfl, rfl, rfl, rfl, rfl, trivial⟩ fun J => ?_))))))))))))))))))))))
      refine cnd (b := true) rfl (fun _ => ?_) (fun h => nomatch h)
      refine sq2 ?_
      refine rg (pv (r_bd (by kernel_rfl) rfl (u := .agg #[.slice none 0 0, .slice none 0 0, .int .i64 0, .int .i64 0, .bool false])) (wl rfl (st0B (q := 0) hS4 ⟨rfl, rfl⟩ rfl rfl rfl Try.sizeOf36 rfl rfl rfl fun w47 im51 hS53 => ?_)))
      have hS53 : Sep g T2 w47 [boxA b1 [.slice none 0 0, .slice none 0 0, .int .i64 0, .int .i64 0, .bool false], R] := hS53
      refine nil (t_thenR [(2, .pointer (some ⟨b1, 0, none⟩))] ⟨rfl, trivial⟩ fun J => ?_)
      have hm := Option.some.inj hm
      subst hm
      exact rtn (r_then (retN (vs := [.agg #[.slice none 0 0, .slice none 0 0, .int .i64 0, .int .i64 0, .bool false]]) rfl ⟨rvS rfl Try.isAgg36 Try.sizeOf36 rfl (hS53.bx (i := 0) ⟨rfl, rfl⟩), trivial⟩ rfl ⟨_, rfl, _, (Im.trans im1 (Im.trans im3 (Im.trans im4 im51))), ⟨_, _, _, _, rfl, hS53.sel [1] rfl, SlR_nil, SlR_nil, trivial⟩⟩))
    · have hm := cfalse hb2 hm
      refine gT (d0 := 23) rfl rfl hb2 (pv (r_mi rfl) (gT (d0 := 23) rfl rfl hb2 (pv (r_ib rfl rfl rfl) (pv (r_pkf rfl hb2 rfl) (pv (r_mb rfl) (?_))))))
      rcases Bool.eq_false_or_eq_true (decide (65536 < y2)) with hb3 | hb3
      · have hm := ctrue hb3 hm
        refine gF (d0 := 27) rfl rfl (by rw [hb3]; rfl) (gF (d0 := 27) rfl rfl (by rw [hb3]; rfl) (gF (d0 := 27) rfl rfl (by rw [hb3]; rfl) (gF (d0 := 27) rfl rfl (by rw [hb3]; rfl) (gF (d0 := 27) rfl rfl (by rw [hb3]; rfl) (gF (d0 := 27) rfl rfl (by rw [hb3]; rfl) (pv (r_pkt rfl hb3 rfl) (pv (r_mb rfl) (gF (d0 := 35) rfl rfl rfl (gF (d0 := 35) rfl rfl rfl (gF (d0 := 35) rfl rfl rfl (pv (r_pkt rfl rfl rfl) (pv (r_mb rfl) (gF (d0 := 40) rfl rfl rfl (gF (d0 := 40) rfl rfl rfl (gF (d0 := 40) rfl rfl rfl (pv (r_pkt rfl rfl rfl) (nil (t_thenR [(0, .slice a1 (List.length p0) c1), (2, .pointer (some ⟨b1, 0, none⟩)), (3, .int .i64 y1), (4, .int .i64 y2), (44, .bool true)] ⟨rfl, rfl, rfl, rfl, rfl, trivial⟩ fun J => ?_))))))))))))))))))
        refine cnd (b := true) rfl (fun _ => ?_) (fun h => nomatch h)
        refine sq2 ?_
        refine rg (pv (r_bd (by kernel_rfl) rfl (u := .agg #[.slice none 0 0, .slice none 0 0, .int .i64 0, .int .i64 0, .bool false])) (wl rfl (st0B (q := 0) hS4 ⟨rfl, rfl⟩ rfl rfl rfl Try.sizeOf36 rfl rfl rfl fun w46 im50 hS52 => ?_)))
        have hS52 : Sep g T2 w46 [boxA b1 [.slice none 0 0, .slice none 0 0, .int .i64 0, .int .i64 0, .bool false], R] := hS52
        refine nil (t_thenR [(2, .pointer (some ⟨b1, 0, none⟩))] ⟨rfl, trivial⟩ fun J => ?_)
        have hm := Option.some.inj hm
        subst hm
        exact rtn (r_then (retN (vs := [.agg #[.slice none 0 0, .slice none 0 0, .int .i64 0, .int .i64 0, .bool false]]) rfl ⟨rvS rfl Try.isAgg36 Try.sizeOf36 rfl (hS52.bx (i := 0) ⟨rfl, rfl⟩), trivial⟩ rfl ⟨_, rfl, _, (Im.trans im1 (Im.trans im3 (Im.trans im4 im50))), ⟨_, _, _, _, rfl, hS52.sel [1] rfl, SlR_nil, SlR_nil, trivial⟩⟩))
      · have hm := cfalse hb3 hm
        refine gT (d0 := 27) rfl rfl hb3 (pv (r_ms rfl) (gT (d0 := 27) rfl rfl hb3 (pv (r_ln rfl Try.underlying23) (gT (d0 := 27) rfl rfl hb3 (pv (r_mi rfl) (gT (d0 := 27) rfl rfl hb3 (pv (r_ib rfl rfl rfl) (gT (d0 := 27) rfl rfl hb3 (pv (r_ib rfl rfl rfl) (gT (d0 := 27) rfl rfl hb3 (pv (r_ib rfl rfl rfl) (pv (r_pkf rfl hb3 rfl) (pv (r_mb rfl) (?_))))))))))))))
        rcases Bool.eq_false_or_eq_true (decide ((List.length p0 : Int) < (IntKind.wrap .i64 (20 + (IntKind.wrap .i64 (4 * y1)))))) with hb4 | hb4
        · have hm := ctrue hb4 hm
          refine gF (d0 := 35) rfl rfl (by rw [hb4]; rfl) (gF (d0 := 35) rfl rfl (by rw [hb4]; rfl) (gF (d0 := 35) rfl rfl (by rw [hb4]; rfl) (pv (r_pkt rfl hb4 rfl) (pv (r_mb rfl) (gF (d0 := 40) rfl rfl rfl (gF (d0 := 40) rfl rfl rfl (gF (d0 := 40) rfl rfl rfl (pv (r_pkt rfl rfl rfl) (nil (t_thenR [(0, .slice a1 (List.length p0) c1), (2, .pointer (some ⟨b1, 0, none⟩)), (3, .int .i64 y1), (4, .int .i64 y2), (44, .bool true)] ⟨rfl, rfl, rfl, rfl, rfl, trivial⟩ fun J => ?_))))))))))
          refine cnd (b := true) rfl (fun _ => ?_) (fun h => nomatch h)
          refine sq2 ?_
          refine rg (pv (r_bd (by kernel_rfl) rfl (u := .agg #[.slice none 0 0, .slice none 0 0, .int .i64 0, .int .i64 0, .bool false])) (wl rfl (st0B (q := 0) hS4 ⟨rfl, rfl⟩ rfl rfl rfl Try.sizeOf36 rfl rfl rfl fun w45 im49 hS51 => ?_)))
          have hS51 : Sep g T2 w45 [boxA b1 [.slice none 0 0, .slice none 0 0, .int .i64 0, .int .i64 0, .bool false], R] := hS51
          refine nil (t_thenR [(2, .pointer (some ⟨b1, 0, none⟩))] ⟨rfl, trivial⟩ fun J => ?_)
          have hm := Option.some.inj hm
          subst hm
          exact rtn (r_then (retN (vs := [.agg #[.slice none 0 0, .slice none 0 0, .int .i64 0, .int .i64 0, .bool false]]) rfl ⟨rvS rfl Try.isAgg36 Try.sizeOf36 rfl (hS51.bx (i := 0) ⟨rfl, rfl⟩), trivial⟩ rfl ⟨_, rfl, _, (Im.trans im1 (Im.trans im3 (Im.trans im4 im49))), ⟨_, _, _, _, rfl, hS51.sel [1] rfl, SlR_nil, SlR_nil, trivial⟩⟩))
        · have hm := cfalse hb4 hm
          obtain ⟨y3, hx3, hm⟩ := bindS hm
          refine gT (d0 := 35) rfl rfl hb4 (pv (r_ms rfl) (gT (d0 := 35) rfl rfl hb4 (wl rfl (calS cf24 rfl (ref32_at_sim (p0 := p0) (p1 := 12) (hS4.bun [0, 1] [] rfl) (h1.mono (Im.trans im1 (Im.trans im3 im4))) hx3) rfl fun v3 T3 w5 im5 rv3 => ?_))))
          obtain ⟨rfl, hS5, _⟩ := rv3
          have hS5 : Sep g T3 w5 [boxA b1 [.slice none 0 0, .slice none 0 0, .int .i64 0, .int .i64 0, .bool false], R] := hS5.unb
          refine gT (d0 := 35) rfl rfl hb4 (pv (r_ib rfl rfl rfl) (pv (r_pkf rfl hb4 rfl) (pv (r_mb rfl) (?_))))
          rcases Bool.eq_false_or_eq_true (decide (65536 < y3)) with hb5 | hb5
          · have hm := ctrue hb5 hm
            refine gF (d0 := 40) rfl rfl (by rw [hb5]; rfl) (gF (d0 := 40) rfl rfl (by rw [hb5]; rfl) (gF (d0 := 40) rfl rfl (by rw [hb5]; rfl) (pv (r_pkt rfl hb5 rfl) (nil (t_thenR [(0, .slice a1 (List.length p0) c1), (2, .pointer (some ⟨b1, 0, none⟩)), (3, .int .i64 y1), (4, .int .i64 y2), (44, .bool true)] ⟨rfl, rfl, rfl, rfl, rfl, trivial⟩ fun J => ?_)))))
            refine cnd (b := true) rfl (fun _ => ?_) (fun h => nomatch h)
            refine sq2 ?_
            refine rg (pv (r_bd (by kernel_rfl) rfl (u := .agg #[.slice none 0 0, .slice none 0 0, .int .i64 0, .int .i64 0, .bool false])) (wl rfl (st0B (q := 0) hS5 ⟨rfl, rfl⟩ rfl rfl rfl Try.sizeOf36 rfl rfl rfl fun w44 im48 hS50 => ?_)))
            have hS50 : Sep g T3 w44 [boxA b1 [.slice none 0 0, .slice none 0 0, .int .i64 0, .int .i64 0, .bool false], R] := hS50
            refine nil (t_thenR [(2, .pointer (some ⟨b1, 0, none⟩))] ⟨rfl, trivial⟩ fun J => ?_)
            have hm := Option.some.inj hm
            subst hm
            exact rtn (r_then (retN (vs := [.agg #[.slice none 0 0, .slice none 0 0, .int .i64 0, .int .i64 0, .bool false]]) rfl ⟨rvS rfl Try.isAgg36 Try.sizeOf36 rfl (hS50.bx (i := 0) ⟨rfl, rfl⟩), trivial⟩ rfl ⟨_, rfl, _, (Im.trans im1 (Im.trans im3 (Im.trans im4 (Im.trans im5 im48)))), ⟨_, _, _, _, rfl, hS50.sel [1] rfl, SlR_nil, SlR_nil, trivial⟩⟩))
          · have hm := cfalse hb5 hm
            obtain ⟨y4, hx4, hm⟩ := bindS hm
            refine gT (d0 := 40) rfl rfl hb5 (pv (r_ms rfl) (gT (d0 := 40) rfl rfl hb5 (wl rfl (calS cf24 rfl (ref32_at_sim (p0 := p0) (p1 := 16) (hS5.bun [0, 1] [] rfl) (h1.mono (Im.trans im1 (Im.trans im3 (Im.trans im4 im5)))) hx4) rfl fun v4 T4 w6 im6 rv4 => ?_))))
            obtain ⟨rfl, hS6, _⟩ := rv4
            have hS6 : Sep g T4 w6 [boxA b1 [.slice none 0 0, .slice none 0 0, .int .i64 0, .int .i64 0, .bool false], R] := hS6.unb
            refine gT (d0 := 40) rfl rfl hb5 (pv (r_ib rfl rfl rfl) (pv (r_pkf rfl hb5 rfl) (nil (t_thenR [(0, .slice a1 (List.length p0) c1), (2, .pointer (some ⟨b1, 0, none⟩)), (3, .int .i64 y1), (4, .int .i64 y2), (44, .bool (decide (64 < y4)))] ⟨rfl, rfl, rfl, rfl, rfl, trivial⟩ fun J => ?_))))
            refine cnd rfl (fun hb6 => ?_) (fun hb6 => ?_)
            · have hm := ctrue hb6 hm
              refine sq2 ?_
              refine rg (pv (r_bd (by kernel_rfl) rfl (u := .agg #[.slice none 0 0, .slice none 0 0, .int .i64 0, .int .i64 0, .bool false])) (wl rfl (st0B (q := 0) hS6 ⟨rfl, rfl⟩ rfl rfl rfl Try.sizeOf36 rfl rfl rfl fun w7 im7 hS7 => ?_)))
              have hS7 : Sep g T4 w7 [boxA b1 [.slice none 0 0, .slice none 0 0, .int .i64 0, .int .i64 0, .bool false], R] := hS7
              refine nil (t_thenR [(2, .pointer (some ⟨b1, 0, none⟩))] ⟨rfl, trivial⟩ fun J => ?_)
              have hm := Option.some.inj hm
              subst hm
              exact rtn (r_then (retN (vs := [.agg #[.slice none 0 0, .slice none 0 0, .int .i64 0, .int .i64 0, .bool false]]) rfl ⟨rvS rfl Try.isAgg36 Try.sizeOf36 rfl (hS7.bx (i := 0) ⟨rfl, rfl⟩), trivial⟩ rfl ⟨_, rfl, _, (Im.trans im1 (Im.trans im3 (Im.trans im4 (Im.trans im5 (Im.trans im6 im7))))), ⟨_, _, _, _, rfl, hS7.sel [1] rfl, SlR_nil, SlR_nil, trivial⟩⟩))
            · have hm := cfalse hb6 hm
              refine skp (t_then ?_)
              refine sq2 ?_
              obtain ⟨y5, hx5, hm⟩ := bindS hm
              refine rg (pv (r_ms rfl) (wl rfl (calS cf24 rfl (ref32_at_sim (p0 := p0) (p1 := 12) (hS6.bun [0, 1] [] rfl) (h1.mono (Im.trans im1 (Im.trans im3 (Im.trans im4 (Im.trans im5 im6))))) hx5) rfl fun v5 T5 w8 im8 rv5 => ?_)))
              obtain ⟨rfl, hS8, _⟩ := rv5
              have hS8 : Sep g T5 w8 [boxA b1 [.slice none 0 0, .slice none 0 0, .int .i64 0, .int .i64 0, .bool false], R] := hS8.unb
              obtain ⟨y6, hx6, hm⟩ := bindS hm
              refine pv (r_ib rfl rfl rfl) (pv (r_ms rfl) (wl rfl (calS cf24 rfl (ref32_at_sim (p0 := p0) (p1 := 16) (hS8.bun [0, 1] [] rfl) (h1.mono (Im.trans im1 (Im.trans im3 (Im.trans im4 (Im.trans im5 (Im.trans im6 im8)))))) hx6) rfl fun v6 T6 w9 im9 rv6 => ?_)))
              obtain ⟨rfl, hS9, _⟩ := rv6
              have hS9 : Sep g T6 w9 [boxA b1 [.slice none 0 0, .slice none 0 0, .int .i64 0, .int .i64 0, .bool false], R] := hS9.unb
              refine pv (r_bd (by kernel_rfl) rfl (u := .agg #[.slice none 0 0, .slice none 0 0, .int .i64 (IntKind.wrap .i64 (268435456 + y5)), .int .i64 y6])) (wl rfl (alS (zs := [.slice none 0 0, .slice none 0 0, .int .i64 0, .int .i64 0]) Try.zeroValue25 rfl hS9 fun w10 b2 im10 hS10 => ?_))
              refine wl rfl (st0B (q := 0) hS10 ⟨rfl, rfl⟩ rfl rfl rfl Try.sizeOf25 rfl rfl rfl fun w11 im11 hS11 => ?_)
              have hS11 : Sep g T6 w11 [boxA b2 [.slice none 0 0, .slice none 0 0, .int .i64 (IntKind.wrap .i64 (268435456 + y5)), .int .i64 y6], boxA b1 [.slice none 0 0, .slice none 0 0, .int .i64 0, .int .i64 0, .bool false], R] := hS11
              refine nil (t_thenR [(0, .slice a1 (List.length p0) c1), (2, .pointer (some ⟨b1, 0, none⟩)), (3, .int .i64 y1), (4, .int .i64 y2), (5, .pointer (some ⟨b2, 0, none⟩))] ⟨rfl, rfl, rfl, rfl, rfl, trivial⟩ fun J => ?_)
              refine sq2 ?_
              refine sq2 ?_
              refine rg (pv (r_zi rfl) (nil (t_then ?_)))
              obtain ⟨o1, ho1, hq1⟩ := bindS hm
              obtain ⟨bd1, hbd1, ho1⟩ := loop_open ho1
              have hS12 := hS11.nilO (rInt .u32) 40
              have hS13 := hS12.nilO (rInt .u8) 5
              refine blk (wp_loop_ghost (fun m a w12 => ∃ (J : Nat → Value) (T7 : Nat → Prop) (x4 : GImage) (a2 : Option Addr) (n1 : Nat) (c2 : Nat) (a3 : Option Addr) (n2 : Nat) (c3 : Nat) (x3 : Int), a = env (nf 156) J [(0, .slice a1 (List.length p0) c1), (2, .pointer (some ⟨b1, 0, none⟩)), (3, .int .i64 y1), (4, .int .i64 y2), (5, .pointer (some ⟨b2, 0, none⟩)), (6, .int .i64 x3)] ∧ Im T6 w11 T7 w12 ∧ Sep g T7 w12 [ownA (rInt .u8) 5 (.slice a2 n1 c2) x4.Data, ownA (rInt .u32) 40 (.slice a3 n2 c3) x4.Code, boxA b2 [.slice a3 n2 c3, .slice a2 n1 c2, .int .i64 x4.Limit, .int .i64 x4.Notes], boxA b1 [.slice none 0 0, .slice none 0 0, .int .i64 0, .int .i64 0, .bool false], R] ∧ loopM bd1 m (x3, x4) = some o1) NN ⟨_, _, (⟨[], [], IntKind.wrap .i64 (268435456 + y5), y6⟩ : GImage), _, _, _, _, _, _, 0, env_has ⟨rfl, rfl, rfl, rfl, rfl, rfl, trivial⟩, Im.refl, hS13.sel [0, 1, 2, 3, 4] rfl, ho1⟩ ?_)
              rintro m _ w12 ⟨J, T7, x4, a2, n1, c2, a3, n2, c3, x3, rfl, im12, hS14, ho1⟩
              obtain ⟨m1, z1, rfl, hm, hn1⟩ := loop_round ho1
              rw [hbd1] at hm
              refine sq2 ?_
              refine sq2 ?_
              refine rg (pv (r_mi rfl) (pv (r_mi rfl) (pv (r_ib rfl rfl rfl) (nil (t_then ?_)))))
              refine cnd rfl (fun hb7 => ?_) (fun hb7 => ?_)
              · have hm := ctrue hb7 hm
                refine skp (t_then ?_)
                refine sq2 ?_
                refine blk ?_
                refine rs [0, 1, 0, 0, 0, 0, 2, 0, 2, 2, 0, 2] [0, 1, 2, 3, 4, 5, 6, 7, 8, 9, 10, 11] mix (by kernel_rfl) hS14.lt fun w13 i1 => ?_
                have im13 := i1.imm
                have hS15 := hS14.keep i1 (fun _ h => h)
                obtain ⟨y7, hx7, hm⟩ := bindS hm
                refine s0 rfl trivial (fun _ => r_fa rfl Try.underlying25 rfl Try.sizeOf22 rfl) rfl (s1 rfl trivial (r_ld rfl Try.isAgg22 (hS15.cell0 (i := 2) ⟨rfl, rfl⟩ (j := 0) rfl)) rfl (s0 rfl trivial (fun _ => r_ms rfl) rfl (s0 rfl trivial (fun _ => r_mi rfl) rfl (s0 rfl trivial (fun _ => r_ib rfl rfl rfl) rfl (s0 rfl trivial (fun _ => r_ib rfl rfl rfl) rfl (s2 [(1, .slice a3 n2 c3)] rfl trivial rfl (by kernel_rfl) (calS cf24 rfl (ref32_at_sim (p0 := p0) (p1 := IntKind.wrap .i64 (20 + (IntKind.wrap .i64 (4 * x3)))) (hS15.bun [0, 1, 2, 3, 4] [] rfl) (h1.mono (Im.trans im1 (Im.trans im3 (Im.trans im4 (Im.trans im5 (Im.trans im6 (Im.trans im8 (Im.trans im9 (Im.trans im10 (Im.trans im11 (Im.trans im12 im13))))))))))) hx7) rfl fun v7 T8 w14 im14 rv7 => ?_)))))))
                obtain ⟨rfl, hS16, _⟩ := rv7
                have hS16 : Sep g T8 w14 [ownA (rInt .u8) 5 (.slice a2 n1 c2) x4.Data, ownA (rInt .u32) 40 (.slice a3 n2 c3) x4.Code, boxA b2 [.slice a3 n2 c3, .slice a2 n1 c2, .int .i64 x4.Limit, .int .i64 x4.Notes], boxA b1 [.slice none 0 0, .slice none 0 0, .int .i64 0, .int .i64 0, .bool false], R] := hS16.unb
                refine ⟨st1 rfl (r_ld rfl Try.isAgg22 (hS16.cell0 (i := 2) ⟨rfl, rfl⟩ (j := 0) rfl)) (st0), ?_⟩
                refine s0 rfl trivial (fun _ => r_cv rfl Try.underlying3 Try.underlying40) rfl (s2 [(1, .slice a3 n2 c3)] rfl trivial rfl (by kernel_rfl) (bsS (r := (rInt .u32)) (l := ([IntKind.wrap .u32 y7] : List Int)) (css := [[.int .u32 (IntKind.wrap .u32 y7)]]) hS16 Try.underlying22 Try.sizeOf40 Try.zeroValue40 rfl rfl (by kernel_rfl) rfl ⟨rfl, trivial⟩ rfl rfl fun w15 a4 n3 c4 im15 hS17 => ?_))
                refine ⟨st1 rfl (r_ld rfl Try.isAgg22 (hS17.cell0 (i := 3) ⟨rfl, rfl⟩ (j := 0) rfl)) (st0), ?_⟩
                obtain ⟨z_1, hro1, hm⟩ := bindS hm
                refine s2 [] rfl trivial rfl (by kernel_rfl) (apO (q := 2) (l := x4.Code) (us := ([IntKind.wrap .u32 y7] : List Int)) hS17 ⟨rfl, rfl⟩ rfl rfl (hS17.own (i := 0) ⟨rfl, rfl⟩).v Try.underlying22 el40 (room_some hro1) fun w16 a5 n4 c5 im16 hS18 => ?_)
                have hS18 : Sep g T8 w16 [ownA (rInt .u32) 40 (.slice a4 n3 c4) ([IntKind.wrap .u32 y7] : List Int), ownA (rInt .u8) 5 (.slice a2 n1 c2) x4.Data, ownA (rInt .u32) 40 (.slice a5 n4 c5) (x4.Code ++ ([IntKind.wrap .u32 y7] : List Int)), boxA b2 [.slice a3 n2 c3, .slice a2 n1 c2, .int .i64 x4.Limit, .int .i64 x4.Notes], boxA b1 [.slice none 0 0, .slice none 0 0, .int .i64 0, .int .i64 0, .bool false], R] := hS18
                refine ⟨st0, ?_⟩
                refine s0 rfl trivial (fun _ => r_fa rfl Try.underlying25 rfl Try.sizeOf22 rfl) rfl (s2 [] rfl trivial rfl (by kernel_rfl) (st0B (q := 3) hS18 ⟨rfl, rfl⟩ rfl rfl rfl Try.sizeOf22 rfl rfl rfl fun w17 im17 hS19 => ?_))
                have hS19 : Sep g T8 w17 [ownA (rInt .u32) 40 (.slice a4 n3 c4) ([IntKind.wrap .u32 y7] : List Int), ownA (rInt .u8) 5 (.slice a2 n1 c2) x4.Data, ownA (rInt .u32) 40 (.slice a5 n4 c5) (x4.Code ++ ([IntKind.wrap .u32 y7] : List Int)), boxA b2 [.slice a5 n4 c5, .slice a2 n1 c2, .int .i64 x4.Limit, .int .i64 x4.Notes], boxA b1 [.slice none 0 0, .slice none 0 0, .int .i64 0, .int .i64 0, .bool false], R] := hS19
                refine ⟨st0, ?_⟩
                refine se (t_blk (t_thenR [(0, .slice a1 (List.length p0) c1), (2, .pointer (some ⟨b1, 0, none⟩)), (3, .int .i64 y1), (4, .int .i64 y2), (5, .pointer (some ⟨b2, 0, none⟩)), (6, .int .i64 x3)] ⟨rfl, rfl, rfl, rfl, rfl, rfl, trivial⟩ fun J => ?_))
                have hm := Option.some.inj hm
                subst hm
                exact rg (pv (r_mi rfl) (pv (r_ib rfl rfl rfl) (pv (r_zi rfl) (nil (t_then ⟨m1, Nat.lt_succ_self _, _, _, ({ x4 with Code := x4.Code ++ ([IntKind.wrap .u32 y7] : List Int) }), _, _, _, _, _, _, (IntKind.wrap .i64 (x3 + 1)), env_has ⟨rfl, rfl, rfl, rfl, rfl, rfl, trivial⟩, (Im.trans im12 (Im.trans im13 (Im.trans im14 (Im.trans im15 (Im.trans im16 im17))))), hS19.sel [1, 2, 3, 4, 5] rfl, hn1⟩)))))
              · have hm := cfalse hb7 hm
                have hm := Option.some.inj hm
                subst hm
                have hn1 : _ = Lp.brk _ := hn1
                subst hn1
                have hm := thn_brk hq1
                refine xt (x_then (x_then (x_eq (t_then ?_))))
                refine sq2 ?_
                refine rg (pv (r_mi rfl) (pv (r_ib rfl rfl rfl) (pv (r_ib rfl rfl rfl) (pv (r_zi rfl) (nil (t_thenR [(0, .slice a1 (List.length p0) c1), (2, .pointer (some ⟨b1, 0, none⟩)), (4, .int .i64 y2), (5, .pointer (some ⟨b2, 0, none⟩)), (7, .int .i64 (IntKind.wrap .i64 (20 + (IntKind.wrap .i64 (4 * y1)))))] ⟨rfl, rfl, rfl, rfl, rfl, trivial⟩ fun J => ?_))))))
                refine sq2 ?_
                obtain ⟨o1, ho1, hq1⟩ := bindS hm
                obtain ⟨bd1, hbd1, ho1⟩ := loop_open ho1
                refine blk (wp_loop_ghost (fun m a w18 => ∃ (J : Nat → Value) (T9 : Nat → Prop) (x8 : GImage) (a6 : Option Addr) (n5 : Nat) (c6 : Nat) (a7 : Option Addr) (n6 : Nat) (c7 : Nat) (x7 : Int), a = env (nf 156) J [(0, .slice a1 (List.length p0) c1), (2, .pointer (some ⟨b1, 0, none⟩)), (4, .int .i64 y2), (5, .pointer (some ⟨b2, 0, none⟩)), (7, .int .i64 x7)] ∧ Im T7 w12 T9 w18 ∧ Sep g T9 w18 [ownA (rInt .u8) 5 (.slice a6 n5 c6) x8.Data, ownA (rInt .u32) 40 (.slice a7 n6 c7) x8.Code, boxA b2 [.slice a7 n6 c7, .slice a6 n5 c6, .int .i64 x8.Limit, .int .i64 x8.Notes], boxA b1 [.slice none 0 0, .slice none 0 0, .int .i64 0, .int .i64 0, .bool false], R] ∧ loopM bd1 m (x7, x8) = some o1) NN ⟨_, _, x4, _, _, _, _, _, _, (IntKind.wrap .i64 (20 + (IntKind.wrap .i64 (4 * y1)))), env_has ⟨rfl, rfl, rfl, rfl, rfl, trivial⟩, Im.refl, hS14.sel [0, 1, 2, 3, 4] rfl, ho1⟩ ?_)
                rintro m _ w18 ⟨J, T9, x8, a6, n5, c6, a7, n6, c7, x7, rfl, im18, hS20, ho1⟩
                obtain ⟨m1, z1, rfl, hm, hn1⟩ := loop_round ho1
                rw [hbd1] at hm
                refine sq2 ?_
                refine sq2 ?_
                refine rg (pv (r_mi rfl) (pv (r_ms rfl) (pv (r_ln rfl Try.underlying23) (pv (r_ib rfl rfl rfl) (pv (r_mb rfl) (?_))))))
                rcases Bool.eq_false_or_eq_true (decide (x7 < (List.length p0 : Int))) with hb8 | hb8
                · have hm := ctrue hb8 hm
                  refine gT (d0 := 75) rfl rfl hb8 (pv (r_fa rfl Try.underlying25 rfl Try.sizeOf23 rfl) (gT (d0 := 75) rfl rfl hb8 (pv (r_ld rfl Try.isAgg23 (hS20.cell0 (i := 2) ⟨rfl, rfl⟩ (j := 1) rfl)) (gT (d0 := 75) rfl rfl hb8 (pv (r_lnV rfl (hS20.own (i := 0) ⟨rfl, rfl⟩).v Try.underlying23) (gT (d0 := 75) rfl rfl hb8 (pv (r_mi rfl) (gT (d0 := 75) rfl rfl hb8 (pv (r_ib rfl rfl rfl) (pv (r_pkt rfl hb8 rfl) (nil (t_thenR [(0, .slice a1 (List.length p0) c1), (2, .pointer (some ⟨b1, 0, none⟩)), (4, .int .i64 y2), (5, .pointer (some ⟨b2, 0, none⟩)), (7, .int .i64 x7), (81, .bool (decide ((List.length x8.Data : Int) < y2)))] ⟨rfl, rfl, rfl, rfl, rfl, rfl, trivial⟩ fun J => ?_))))))))))))
                  refine cnd rfl (fun hb9 => ?_) (fun hb9 => ?_)
                  · have hm := ctrue hb9 hm
                    refine skp (t_then ?_)
                    refine blk ?_
                    refine sq2 ?_
                    obtain ⟨u1, hx8, hm⟩ := bindS hm
                    obtain ⟨b3, of1, cs1, k1, cp1, hv1, hp1, hl1, he1, hr1, hc1, hT1⟩ := (h1.mono (Im.trans im1 (Im.trans im3 (Im.trans im4 (Im.trans im5 (Im.trans im6 (Im.trans im8 (Im.trans im9 (Im.trans im10 (Im.trans im11 (Im.trans im12 im18))))))))))).ixT hx8 rfl
                    cases hr1
                    refine rg (pv (r_ms rfl) (pv (r_mi rfl) (pv (r_ixe hv1 rfl Try.underlying23 Try.sizeOf5 hp1 hl1 he1) (pv (r_ld rfl Try.isAgg5 (hc1.get (j := 0) rfl)) (pv (r_cv rfl Try.underlying5 Try.underlying3) (pv (r_zi rfl) (nil (t_thenR [(0, .slice a1 (List.length p0) c1), (2, .pointer (some ⟨b1, 0, none⟩)), (4, .int .i64 y2), (5, .pointer (some ⟨b2, 0, none⟩)), (7, .int .i64 x7), (8, .int .i64 (IntKind.wrap .i64 u1))] ⟨rfl, rfl, rfl, rfl, rfl, rfl, trivial⟩ fun J => ?_))))))))
                    refine sq2 ?_
                    refine rg (pv (r_mi rfl) (pv (r_ib rfl rfl rfl) (pv (r_zi rfl) (nil (t_then ?_)))))
                    refine sq2 ?_
                    refine sq2 ?_
                    refine rg (pv (r_zi rfl) (nil (t_then ?_)))
                    obtain ⟨o2, ho2, hq2⟩ := bindS hm
                    obtain ⟨bd2, hbd2, ho2⟩ := loop_open ho2
                    refine blk (wp_loop_ghost (fun m a w19 => ∃ (J : Nat → Value) (T10 : Nat → Prop) (x12 : GImage) (a8 : Option Addr) (n7 : Nat) (c8 : Nat) (a9 : Option Addr) (n8 : Nat) (c9 : Nat) (x11 : Int), a = env (nf 156) J [(0, .slice a1 (List.length p0) c1), (2, .pointer (some ⟨b1, 0, none⟩)), (4, .int .i64 y2), (5, .pointer (some ⟨b2, 0, none⟩)), (7, .int .i64 (IntKind.wrap .i64 (x7 + 1))), (8, .int .i64 (IntKind.wrap .i64 u1)), (9, .int .i64 x11)] ∧ Im T9 w18 T10 w19 ∧ Sep g T10 w19 [ownA (rInt .u8) 5 (.slice a8 n7 c8) x12.Data, ownA (rInt .u32) 40 (.slice a9 n8 c9) x12.Code, boxA b2 [.slice a9 n8 c9, .slice a8 n7 c8, .int .i64 x12.Limit, .int .i64 x12.Notes], boxA b1 [.slice none 0 0, .slice none 0 0, .int .i64 0, .int .i64 0, .bool false], R] ∧ loopM bd2 m (x11, x12) = some o2) NN ⟨_, _, x8, _, _, _, _, _, _, 0, env_has ⟨rfl, rfl, rfl, rfl, rfl, rfl, rfl, trivial⟩, Im.refl, hS20.sel [0, 1, 2, 3, 4] rfl, ho2⟩ ?_)
                    rintro m _ w19 ⟨J, T10, x12, a8, n7, c8, a9, n8, c9, x11, rfl, im19, hS21, ho2⟩
                    obtain ⟨m2, z2, rfl, hm, hn2⟩ := loop_round ho2
                    rw [hbd2] at hm
                    refine sq2 ?_
                    refine sq2 ?_
                    refine rg (pv (r_mi rfl) (pv (r_mi rfl) (pv (r_ib rfl rfl rfl) (pv (r_ib rfl rfl rfl) (nil (t_then ?_))))))
                    refine cnd rfl (fun hb10 => ?_) (fun hb10 => ?_)
                    · have hm := ctrue hb10 hm
                      refine skp (t_then ?_)
                      refine sq2 ?_
                      refine blk ?_
                      refine rg (pv (r_fa rfl Try.underlying25 rfl Try.sizeOf23 rfl) (pv (r_ld rfl Try.isAgg23 (hS21.cell0 (i := 2) ⟨rfl, rfl⟩ (j := 1) rfl)) (wl rfl (bsS (r := (rInt .u8)) (l := ([0] : List Int)) (css := [[.int .u8 0]]) hS21 Try.underlying23 Try.sizeOf5 Try.zeroValue5 rfl rfl (by kernel_rfl) rfl ⟨rfl, trivial⟩ rfl rfl fun w20 a10 n9 c10 im20 hS22 => ?_))))
                      obtain ⟨z_2, hro2, hm⟩ := bindS hm
                      refine wl rfl (apO (q := 1) (l := x12.Data) (us := ([0] : List Int)) hS22 ⟨rfl, rfl⟩ rfl rfl (hS22.own (i := 0) ⟨rfl, rfl⟩).v Try.underlying23 el5 (room_some hro2) fun w21 a11 n10 c11 im21 hS23 => ?_)
                      have hS23 : Sep g T10 w21 [ownA (rInt .u8) 5 (.slice a10 n9 c10) ([0] : List Int), ownA (rInt .u8) 5 (.slice a11 n10 c11) (x12.Data ++ ([0] : List Int)), ownA (rInt .u32) 40 (.slice a9 n8 c9) x12.Code, boxA b2 [.slice a9 n8 c9, .slice a8 n7 c8, .int .i64 x12.Limit, .int .i64 x12.Notes], boxA b1 [.slice none 0 0, .slice none 0 0, .int .i64 0, .int .i64 0, .bool false], R] := hS23
                      refine pv (r_fa rfl Try.underlying25 rfl Try.sizeOf23 rfl) (wl rfl (st0B (q := 3) hS23 ⟨rfl, rfl⟩ rfl rfl rfl Try.sizeOf23 rfl rfl rfl fun w22 im22 hS24 => ?_))
                      have hS24 : Sep g T10 w22 [ownA (rInt .u8) 5 (.slice a10 n9 c10) ([0] : List Int), ownA (rInt .u8) 5 (.slice a11 n10 c11) (x12.Data ++ ([0] : List Int)), ownA (rInt .u32) 40 (.slice a9 n8 c9) x12.Code, boxA b2 [.slice a9 n8 c9, .slice a11 n10 c11, .int .i64 x12.Limit, .int .i64 x12.Notes], boxA b1 [.slice none 0 0, .slice none 0 0, .int .i64 0, .int .i64 0, .bool false], R] := hS24
                      refine nil (t_blk (t_thenR [(0, .slice a1 (List.length p0) c1), (2, .pointer (some ⟨b1, 0, none⟩)), (4, .int .i64 y2), (5, .pointer (some ⟨b2, 0, none⟩)), (7, .int .i64 (IntKind.wrap .i64 (x7 + 1))), (8, .int .i64 (IntKind.wrap .i64 u1)), (9, .int .i64 x11)] ⟨rfl, rfl, rfl, rfl, rfl, rfl, rfl, trivial⟩ fun J => ?_))
                      have hm := Option.some.inj hm
                      subst hm
                      exact rg (pv (r_mi rfl) (pv (r_ib rfl rfl rfl) (pv (r_zi rfl) (nil (t_then ⟨m2, Nat.lt_succ_self _, _, _, ({ x12 with Data := x12.Data ++ ([0] : List Int) }), _, _, _, _, _, _, (IntKind.wrap .i64 (x11 + 1)), env_has ⟨rfl, rfl, rfl, rfl, rfl, rfl, rfl, trivial⟩, (Im.trans im19 (Im.trans im20 (Im.trans im21 im22))), hS24.sel [1, 2, 3, 4, 5] rfl, hn2⟩)))))
                    · have hm := cfalse hb10 hm
                      have hm := Option.some.inj hm
                      subst hm
                      have hn2 : _ = Lp.brk _ := hn2
                      subst hn2
                      have hm := thn_brk hq2
                      refine xt (x_then (x_then (x_eq (t_thenR [(0, .slice a1 (List.length p0) c1), (2, .pointer (some ⟨b1, 0, none⟩)), (4, .int .i64 y2), (5, .pointer (some ⟨b2, 0, none⟩)), (7, .int .i64 (IntKind.wrap .i64 (x7 + 1))), (8, .int .i64 (IntKind.wrap .i64 u1))] ⟨rfl, rfl, rfl, rfl, rfl, rfl, trivial⟩ fun J => ?_))))
                      refine sq2 ?_
                      refine rg (pv (r_zi rfl) (nil (t_then ?_)))
                      obtain ⟨o2, ho2, hq2⟩ := bindS hm
                      obtain ⟨bd2, hbd2, ho2⟩ := loop_open ho2
                      refine blk (wp_loop_ghost (fun m a w23 => ∃ (J : Nat → Value) (T11 : Nat → Prop) (x17 : GImage) (a12 : Option Addr) (n11 : Nat) (c12 : Nat) (a13 : Option Addr) (n12 : Nat) (c13 : Nat) (x15 : Int) (x16 : Int), a = env (nf 156) J [(0, .slice a1 (List.length p0) c1), (2, .pointer (some ⟨b1, 0, none⟩)), (4, .int .i64 y2), (5, .pointer (some ⟨b2, 0, none⟩)), (7, .int .i64 x15), (8, .int .i64 (IntKind.wrap .i64 u1)), (10, .int .i64 x16)] ∧ Im T10 w19 T11 w23 ∧ Sep g T11 w23 [ownA (rInt .u8) 5 (.slice a12 n11 c12) x17.Data, ownA (rInt .u32) 40 (.slice a13 n12 c13) x17.Code, boxA b2 [.slice a13 n12 c13, .slice a12 n11 c12, .int .i64 x17.Limit, .int .i64 x17.Notes], boxA b1 [.slice none 0 0, .slice none 0 0, .int .i64 0, .int .i64 0, .bool false], R] ∧ loopM bd2 m (x15, x16, x17) = some o2) NN ⟨_, _, x12, _, _, _, _, _, _, (IntKind.wrap .i64 (x7 + 1)), 0, env_has ⟨rfl, rfl, rfl, rfl, rfl, rfl, rfl, trivial⟩, Im.refl, hS21.sel [0, 1, 2, 3, 4] rfl, ho2⟩ ?_)
                      rintro m _ w23 ⟨J, T11, x17, a12, n11, c12, a13, n12, c13, x15, x16, rfl, im23, hS25, ho2⟩
                      obtain ⟨m2, z2, rfl, hm, hn2⟩ := loop_round ho2
                      rw [hbd2] at hm
                      refine sq2 ?_
                      refine sq2 ?_
                      refine rg (pv (r_mi rfl) (pv (r_ib rfl rfl rfl) (pv (r_mb rfl) (?_))))
                      rcases Bool.eq_false_or_eq_true (decide ((IntKind.wrap .i64 u1) ≤ 127)) with hb11 | hb11
                      · have hm := ctrue hb11 hm
                        refine gT (d0 := 102) rfl rfl hb11 (pv (r_mi rfl) (gT (d0 := 102) rfl rfl hb11 (pv (r_mi rfl) (gT (d0 := 102) rfl rfl hb11 (pv (r_ib rfl rfl rfl) (pv (r_pkt rfl hb11 rfl) (pv (r_mb rfl) (?_))))))))
                        rcases Bool.eq_false_or_eq_true (decide (x16 < (IntKind.wrap .i64 u1))) with hb12 | hb12
                        · have hm := ctrue hb12 hm
                          refine gT (d0 := 107) rfl rfl hb12 (pv (r_mi rfl) (gT (d0 := 107) rfl rfl hb12 (pv (r_ms rfl) (gT (d0 := 107) rfl rfl hb12 (pv (r_ln rfl Try.underlying23) (gT (d0 := 107) rfl rfl hb12 (pv (r_ib rfl rfl rfl) (pv (r_pkt rfl hb12 rfl) (nil (t_thenR [(0, .slice a1 (List.length p0) c1), (2, .pointer (some ⟨b1, 0, none⟩)), (4, .int .i64 y2), (5, .pointer (some ⟨b2, 0, none⟩)), (7, .int .i64 x15), (8, .int .i64 (IntKind.wrap .i64 u1)), (10, .int .i64 x16), (112, .bool (decide (x15 < (List.length p0 : Int))))] ⟨rfl, rfl, rfl, rfl, rfl, rfl, rfl, rfl, trivial⟩ fun J => ?_))))))))))
                          refine cnd rfl (fun hb13 => ?_) (fun hb13 => ?_)
                          · have hm := ctrue hb13 hm
                            refine skp (t_then ?_)
                            refine sq2 ?_
                            refine blk ?_
                            refine sq2 ?_
                            refine rs [0, 1, 0, 0, 0, 1, 2, 2, 0, 2] [0, 1, 2, 3, 4, 5, 6, 7, 8, 9] mix (by kernel_rfl) hS25.lt fun w24 i2 => ?_
                            have im24 := i2.imm
                            have hS26 := hS25.keep i2 (fun _ h => h)
                            obtain ⟨u2, hx9, hm⟩ := bindS hm
                            obtain ⟨b4, of2, cs2, k2, cp2, hv2, hp2, hl2, he2, hr2, hc2, hT2⟩ := (h1.mono (Im.trans im1 (Im.trans im3 (Im.trans im4 (Im.trans im5 (Im.trans im6 (Im.trans im8 (Im.trans im9 (Im.trans im10 (Im.trans im11 (Im.trans im12 (Im.trans im18 (Im.trans im19 (Im.trans im23 im24)))))))))))))).ixT hx9 rfl
                            cases hr2
                            refine s0 rfl trivial (fun _ => r_fa rfl Try.underlying25 rfl Try.sizeOf23 rfl) rfl (s1 rfl trivial (r_ld rfl Try.isAgg23 (hS26.cell0 (i := 2) ⟨rfl, rfl⟩ (j := 1) rfl)) rfl (s0 rfl trivial (fun _ => r_ms rfl) rfl (s0 rfl trivial (fun _ => r_mi rfl) rfl (s0 rfl trivial (fun _ => r_ixe hv2 rfl Try.underlying23 Try.sizeOf5 hp2 hl2 he2) rfl (s1 rfl trivial (r_ld rfl Try.isAgg5 (hc2.get (j := 0) rfl)) rfl (s2 [(1, .slice a12 n11 c12)] rfl trivial rfl (by kernel_rfl) (bsS (r := (rInt .u8)) (l := ([u2] : List Int)) (css := [[.int .u8 u2]]) hS26 Try.underlying23 Try.sizeOf5 Try.zeroValue5 rfl rfl (by kernel_rfl) rfl ⟨rfl, trivial⟩ rfl rfl fun w25 a14 n13 c14 im25 hS27 => ?_)))))))
                            refine ⟨st1 rfl (r_ld rfl Try.isAgg23 (hS27.cell0 (i := 3) ⟨rfl, rfl⟩ (j := 1) rfl)) (st0), ?_⟩
                            obtain ⟨z_3, hro3, hm⟩ := bindS hm
                            refine s2 [] rfl trivial rfl (by kernel_rfl) (apO (q := 1) (l := x17.Data) (us := ([u2] : List Int)) hS27 ⟨rfl, rfl⟩ rfl rfl (hS27.own (i := 0) ⟨rfl, rfl⟩).v Try.underlying23 el5 (room_some hro3) fun w26 a15 n14 c15 im26 hS28 => ?_)
                            have hS28 : Sep g T11 w26 [ownA (rInt .u8) 5 (.slice a14 n13 c14) ([u2] : List Int), ownA (rInt .u8) 5 (.slice a15 n14 c15) (x17.Data ++ ([u2] : List Int)), ownA (rInt .u32) 40 (.slice a13 n12 c13) x17.Code, boxA b2 [.slice a13 n12 c13, .slice a12 n11 c12, .int .i64 x17.Limit, .int .i64 x17.Notes], boxA b1 [.slice none 0 0, .slice none 0 0, .int .i64 0, .int .i64 0, .bool false], R] := hS28
                            refine ⟨st0, ?_⟩
                            refine s0 rfl trivial (fun _ => r_fa rfl Try.underlying25 rfl Try.sizeOf23 rfl) rfl (s2 [] rfl trivial rfl (by kernel_rfl) (st0B (q := 3) hS28 ⟨rfl, rfl⟩ rfl rfl rfl Try.sizeOf23 rfl rfl rfl fun w27 im27 hS29 => ?_))
                            have hS29 : Sep g T11 w27 [ownA (rInt .u8) 5 (.slice a14 n13 c14) ([u2] : List Int), ownA (rInt .u8) 5 (.slice a15 n14 c15) (x17.Data ++ ([u2] : List Int)), ownA (rInt .u32) 40 (.slice a13 n12 c13) x17.Code, boxA b2 [.slice a13 n12 c13, .slice a15 n14 c15, .int .i64 x17.Limit, .int .i64 x17.Notes], boxA b1 [.slice none 0 0, .slice none 0 0, .int .i64 0, .int .i64 0, .bool false], R] := hS29
                            refine ⟨st0, ?_⟩
                            refine se (t_thenR [(0, .slice a1 (List.length p0) c1), (2, .pointer (some ⟨b1, 0, none⟩)), (4, .int .i64 y2), (5, .pointer (some ⟨b2, 0, none⟩)), (7, .int .i64 x15), (8, .int .i64 (IntKind.wrap .i64 u1)), (10, .int .i64 x16)] ⟨rfl, rfl, rfl, rfl, rfl, rfl, rfl, trivial⟩ fun J => ?_)
                            refine rg (pv (r_mi rfl) (pv (r_ib rfl rfl rfl) (pv (r_zi rfl) (nil (t_blk (t_then ?_))))))
                            have hm := Option.some.inj hm
                            subst hm
                            exact rg (pv (r_mi rfl) (pv (r_ib rfl rfl rfl) (pv (r_zi rfl) (nil (t_then ⟨m2, Nat.lt_succ_self _, _, _, ({ x17 with Data := x17.Data ++ ([u2] : List Int) }), _, _, _, _, _, _, (IntKind.wrap .i64 (x15 + 1)), (IntKind.wrap .i64 (x16 + 1)), env_has ⟨rfl, rfl, rfl, rfl, rfl, rfl, rfl, trivial⟩, (Im.trans im23 (Im.trans im24 (Im.trans im25 (Im.trans im26 im27)))), hS29.sel [1, 2, 3, 4, 5] rfl, hn2⟩)))))
                          · have hm := cfalse hb13 hm
                            have hm := Option.some.inj hm
                            subst hm
                            have hn2 : _ = Lp.brk _ := hn2
                            subst hn2
                            have hm := thn_brk hq2
                            have hm := Option.some.inj hm
                            subst hm
                            exact xt (x_then (x_then (x_eq (t_blk (t_then ⟨m1, Nat.lt_succ_self _, _, _, x17, _, _, _, _, _, _, x15, env_has ⟨rfl, rfl, rfl, rfl, rfl, trivial⟩, (Im.trans im18 (Im.trans im19 im23)), hS25.sel [0, 1, 2, 3, 4] rfl, hn1⟩)))))
                        · have hm := cfalse hb12 hm
                          refine gF (d0 := 107) rfl rfl (by rw [hb12]; rfl) (gF (d0 := 107) rfl rfl (by rw [hb12]; rfl) (gF (d0 := 107) rfl rfl (by rw [hb12]; rfl) (gF (d0 := 107) rfl rfl (by rw [hb12]; rfl) (pv (r_pkf rfl hb12 rfl) (nil (t_thenR [(0, .slice a1 (List.length p0) c1), (2, .pointer (some ⟨b1, 0, none⟩)), (4, .int .i64 y2), (5, .pointer (some ⟨b2, 0, none⟩)), (7, .int .i64 x15), (8, .int .i64 (IntKind.wrap .i64 u1)), (10, .int .i64 x16), (112, .bool false)] ⟨rfl, rfl, rfl, rfl, rfl, rfl, rfl, rfl, trivial⟩ fun J => ?_))))))
                          refine cnd (b := false) rfl (fun h => nomatch h) (fun _ => ?_)
                          have hm := Option.some.inj hm
                          subst hm
                          have hn2 : _ = Lp.brk _ := hn2
                          subst hn2
                          have hm := thn_brk hq2
                          have hm := Option.some.inj hm
                          subst hm
                          exact xt (x_then (x_then (x_eq (t_blk (t_then ⟨m1, Nat.lt_succ_self _, _, _, x17, _, _, _, _, _, _, x15, env_has ⟨rfl, rfl, rfl, rfl, rfl, trivial⟩, (Im.trans im18 (Im.trans im19 im23)), hS25.sel [0, 1, 2, 3, 4] rfl, hn1⟩)))))
                      · have hm := cfalse hb11 hm
                        refine gF (d0 := 102) rfl rfl (by rw [hb11]; rfl) (gF (d0 := 102) rfl rfl (by rw [hb11]; rfl) (gF (d0 := 102) rfl rfl (by rw [hb11]; rfl) (pv (r_pkf rfl hb11 rfl) (pv (r_mb rfl) (gF (d0 := 107) rfl rfl rfl (gF (d0 := 107) rfl rfl rfl (gF (d0 := 107) rfl rfl rfl (gF (d0 := 107) rfl rfl rfl (pv (r_pkf rfl rfl rfl) (nil (t_thenR [(0, .slice a1 (List.length p0) c1), (2, .pointer (some ⟨b1, 0, none⟩)), (4, .int .i64 y2), (5, .pointer (some ⟨b2, 0, none⟩)), (7, .int .i64 x15), (8, .int .i64 (IntKind.wrap .i64 u1)), (10, .int .i64 x16), (112, .bool false)] ⟨rfl, rfl, rfl, rfl, rfl, rfl, rfl, rfl, trivial⟩ fun J => ?_)))))))))))
                        refine cnd (b := false) rfl (fun h => nomatch h) (fun _ => ?_)
                        have hm := Option.some.inj hm
                        subst hm
                        have hn2 : _ = Lp.brk _ := hn2
                        subst hn2
                        have hm := thn_brk hq2
                        have hm := Option.some.inj hm
                        subst hm
                        exact xt (x_then (x_then (x_eq (t_blk (t_then ⟨m1, Nat.lt_succ_self _, _, _, x17, _, _, _, _, _, _, x15, env_has ⟨rfl, rfl, rfl, rfl, rfl, trivial⟩, (Im.trans im18 (Im.trans im19 im23)), hS25.sel [0, 1, 2, 3, 4] rfl, hn1⟩)))))
                  · have hm := cfalse hb9 hm
                    have hm := Option.some.inj hm
                    subst hm
                    have hn1 : _ = Lp.brk _ := hn1
                    subst hn1
                    have hm := thn_brk hq1
                    refine xt (x_then (x_then (x_eq (t_then ?_))))
                    refine sq2 ?_
                    refine sq2 ?_
                    refine rg (pv (r_ldS rfl Try.isAgg25 Try.sizeOf25 rfl (hS20.cells0 (i := 2) ⟨rfl, rfl⟩ (o := 0) rfl) (cs := [.slice a7 n6 c7, .slice a6 n5 c6, .int .i64 x8.Limit, .int .i64 x8.Notes])) (?_))
                    obtain ⟨T12, im28, hS30, h2⟩ := hS20.seal 1 ⟨rfl, rfl⟩
                    have hsh := h2.len
                    subst hsh
                    have hS30 : Sep g T12 w18 [ownA (rInt .u8) 5 (.slice a6 n5 c6) x8.Data, empA, boxA b2 [.slice a7 (List.length x8.Code) c7, .slice a6 n5 c6, .int .i64 x8.Limit, .int .i64 x8.Notes], boxA b1 [.slice none 0 0, .slice none 0 0, .int .i64 0, .int .i64 0, .bool false], R] := hS30
                    obtain ⟨T13, im29, hS31, h3⟩ := hS30.seal 0 ⟨rfl, rfl⟩
                    have hsh := h3.len
                    subst hsh
                    have hS31 : Sep g T13 w18 [empA, empA, boxA b2 [.slice a7 (List.length x8.Code) c7, .slice a6 (List.length x8.Data) c6, .int .i64 x8.Limit, .int .i64 x8.Notes], boxA b1 [.slice none 0 0, .slice none 0 0, .int .i64 0, .int .i64 0, .bool false], R] := hS31
                    obtain ⟨y8, hx10, hm⟩ := bindS hm
                    refine wl rfl (calS cf9 rfl (ref32_Right_sim (p0 := x8) (hS31.bun [2, 3, 4] [] rfl) (h2.mono im29) h3 hx10) rfl fun v8 T14 w28 im30 rv8 => ?_)
                    obtain ⟨rfl, hS32, _⟩ := rv8
                    have hS32 : Sep g T14 w28 [boxA b2 [.slice a7 (List.length x8.Code) c7, .slice a6 (List.length x8.Data) c6, .int .i64 x8.Limit, .int .i64 x8.Notes], boxA b1 [.slice none 0 0, .slice none 0 0, .int .i64 0, .int .i64 0, .bool false], R] := hS32.unb
                    refine pv (r_nt rfl) (nil (t_thenR [(0, .slice a1 (List.length p0) c1), (2, .pointer (some ⟨b1, 0, none⟩)), (5, .pointer (some ⟨b2, 0, none⟩)), (128, .bool (!y8))] ⟨rfl, rfl, rfl, rfl, trivial⟩ fun J => ?_))
                    refine cnd rfl (fun hb16 => ?_) (fun hb16 => ?_)
                    · have hm := ctrue hb16 hm
                      refine sq2 ?_
                      refine rg (pv (r_bd (by kernel_rfl) rfl (u := .agg #[.slice none 0 0, .slice none 0 0, .int .i64 0, .int .i64 0, .bool false])) (wl rfl (st0B (q := 1) hS32 ⟨rfl, rfl⟩ rfl rfl rfl Try.sizeOf36 rfl rfl rfl fun w29 im31 hS33 => ?_)))
                      have hS33 : Sep g T14 w29 [boxA b2 [.slice a7 (List.length x8.Code) c7, .slice a6 (List.length x8.Data) c6, .int .i64 x8.Limit, .int .i64 x8.Notes], boxA b1 [.slice none 0 0, .slice none 0 0, .int .i64 0, .int .i64 0, .bool false], R] := hS33
                      refine nil (t_then ?_)
                      have hm := Option.some.inj hm
                      subst hm
                      exact rtn (r_then (retN (vs := [.agg #[.slice none 0 0, .slice none 0 0, .int .i64 0, .int .i64 0, .bool false]]) rfl ⟨rvS rfl Try.isAgg36 Try.sizeOf36 rfl (hS33.bx (i := 1) ⟨rfl, rfl⟩), trivial⟩ rfl ⟨_, rfl, _, (Im.trans im1 (Im.trans im3 (Im.trans im4 (Im.trans im5 (Im.trans im6 (Im.trans im8 (Im.trans im9 (Im.trans im10 (Im.trans im11 (Im.trans im12 (Im.trans im18 (Im.trans im28 (Im.trans im29 (Im.trans im30 im31)))))))))))))), ⟨_, _, _, _, rfl, hS33.sel [2] rfl, SlR_nil, SlR_nil, trivial⟩⟩))
                    · have hm := cfalse hb16 hm
                      refine skp (t_then ?_)
                      refine sq2 ?_
                      obtain ⟨y9, hx11, hm⟩ := bindS hm
                      refine rg (pv (r_ldS rfl Try.isAgg25 Try.sizeOf25 rfl (hS32.cells0 (i := 0) ⟨rfl, rfl⟩ (o := 0) rfl) (cs := [.slice a7 (List.length x8.Code) c7, .slice a6 (List.length x8.Data) c6, .int .i64 x8.Limit, .int .i64 x8.Notes])) (wl rfl (calS cf11 rfl (ref32_Encode_sim (p0 := x8) (hS32.bun [0, 1, 2] [] rfl) (h2.mono (Im.trans im29 im30)) (h3.mono im30) hx11) rfl fun v9 T15 w30 im32 rv9 => ?_)))
                      obtain ⟨a16, n15, c16, rfl, hS34, _⟩ := rv9
                      have hS34 : Sep g T15 w30 [boxA b2 [.slice a7 (List.length x8.Code) c7, .slice a6 (List.length x8.Data) c6, .int .i64 x8.Limit, .int .i64 x8.Notes], boxA b1 [.slice none 0 0, .slice none 0 0, .int .i64 0, .int .i64 0, .bool false], R, ownA (rInt .u8) 5 (.slice a16 n15 c16) y9] := hS34.unb
                      refine pv (r_zs rfl) (nil (t_then ?_))
                      refine sq2 ?_
                      refine sq2 ?_
                      refine rg (pv (r_ms rfl) (pv (r_lnV rfl (hS34.own (i := 3) ⟨rfl, rfl⟩).v Try.underlying23) (pv (r_ms rfl) (pv (r_ln rfl Try.underlying23) (pv (r_ib rfl rfl rfl) (nil (t_thenR [(0, .slice a1 (List.length p0) c1), (2, .pointer (some ⟨b1, 0, none⟩)), (5, .pointer (some ⟨b2, 0, none⟩)), (11, .slice a16 n15 c16), (136, .bool ((List.length y9 : Int) != (List.length p0 : Int)))] ⟨rfl, rfl, rfl, rfl, rfl, trivial⟩ fun J => ?_)))))))
                      refine cnd rfl (fun hb17 => ?_) (fun hb17 => ?_)
                      · have hm := ctrue hb17 hm
                        refine sq2 ?_
                        refine rg (pv (r_bd (by kernel_rfl) rfl (u := .agg #[.slice none 0 0, .slice none 0 0, .int .i64 0, .int .i64 0, .bool false])) (wl rfl (st0B (q := 1) hS34 ⟨rfl, rfl⟩ rfl rfl rfl Try.sizeOf36 rfl rfl rfl fun w31 im33 hS35 => ?_)))
                        have hS35 : Sep g T15 w31 [boxA b2 [.slice a7 (List.length x8.Code) c7, .slice a6 (List.length x8.Data) c6, .int .i64 x8.Limit, .int .i64 x8.Notes], boxA b1 [.slice none 0 0, .slice none 0 0, .int .i64 0, .int .i64 0, .bool false], R, ownA (rInt .u8) 5 (.slice a16 n15 c16) y9] := hS35
                        refine nil (t_thenR [(2, .pointer (some ⟨b1, 0, none⟩))] ⟨rfl, trivial⟩ fun J => ?_)
                        have hm := Option.some.inj hm
                        subst hm
                        exact rtn (r_then (retN (vs := [.agg #[.slice none 0 0, .slice none 0 0, .int .i64 0, .int .i64 0, .bool false]]) rfl ⟨rvS rfl Try.isAgg36 Try.sizeOf36 rfl (hS35.bx (i := 1) ⟨rfl, rfl⟩), trivial⟩ rfl ⟨_, rfl, _, (Im.trans im1 (Im.trans im3 (Im.trans im4 (Im.trans im5 (Im.trans im6 (Im.trans im8 (Im.trans im9 (Im.trans im10 (Im.trans im11 (Im.trans im12 (Im.trans im18 (Im.trans im28 (Im.trans im29 (Im.trans im30 (Im.trans im32 im33))))))))))))))), ⟨_, _, _, _, rfl, hS35.sel [2] rfl, SlR_nil, SlR_nil, trivial⟩⟩))
                      · have hm := cfalse hb17 hm
                        refine skp (t_then ?_)
                        refine sq2 ?_
                        refine sq2 ?_
                        refine rg (pv (r_zi rfl) (nil (t_then ?_)))
                        obtain ⟨o1, ho1, hq1⟩ := bindS hm
                        obtain ⟨bd1, hbd1, ho1⟩ := loop_open ho1
                        refine blk (wp_loop_ghost (fun m a w32 => ∃ (J : Nat → Value) (T16 : Nat → Prop) (x18 : Int), a = env (nf 156) J [(0, .slice a1 (List.length p0) c1), (2, .pointer (some ⟨b1, 0, none⟩)), (5, .pointer (some ⟨b2, 0, none⟩)), (11, .slice a16 n15 c16), (12, .int .i64 x18)] ∧ Im T15 w30 T16 w32 ∧ Sep g T16 w32 [boxA b2 [.slice a7 (List.length x8.Code) c7, .slice a6 (List.length x8.Data) c6, .int .i64 x8.Limit, .int .i64 x8.Notes], boxA b1 [.slice none 0 0, .slice none 0 0, .int .i64 0, .int .i64 0, .bool false], R, ownA (rInt .u8) 5 (.slice a16 n15 c16) y9] ∧ loopM bd1 m x18 = some o1) NN ⟨_, _, 0, env_has ⟨rfl, rfl, rfl, rfl, rfl, trivial⟩, Im.refl, hS34.sel [0, 1, 2, 3] rfl, ho1⟩ ?_)
                        rintro m _ w32 ⟨J, T16, x18, rfl, im34, hS36, ho1⟩
                        obtain ⟨m1, z1, rfl, hm, hn1⟩ := loop_round ho1
                        rw [hbd1] at hm
                        refine sq2 ?_
                        refine sq2 ?_
                        refine rg (pv (r_mi rfl) (pv (r_ms rfl) (pv (r_ln rfl Try.underlying23) (pv (r_ib rfl rfl rfl) (nil (t_then ?_))))))
                        refine cnd rfl (fun hb18 => ?_) (fun hb18 => ?_)
                        · have hm := ctrue hb18 hm
                          refine skp (t_then ?_)
                          refine sq2 ?_
                          refine blk ?_
                          refine sq2 ?_
                          obtain ⟨u3, hx12, hm⟩ := bindS hm
                          obtain ⟨b5, of3, cs3, k3, cp3, hv3, hp3, hl3, he3, hr3, hc3⟩ := (hS36.own (i := 3) ⟨rfl, rfl⟩).v.ixq hx12 rfl
                          cases hr3
                          obtain ⟨u4, hx13, hm⟩ := bindS hm
                          obtain ⟨b6, of4, cs4, k4, cp4, hv4, hp4, hl4, he4, hr4, hc4, hT3⟩ := (h1.mono (Im.trans im1 (Im.trans im3 (Im.trans im4 (Im.trans im5 (Im.trans im6 (Im.trans im8 (Im.trans im9 (Im.trans im10 (Im.trans im11 (Im.trans im12 (Im.trans im18 (Im.trans im28 (Im.trans im29 (Im.trans im30 (Im.trans im32 im34)))))))))))))))).ixT hx13 rfl
                          cases hr4
                          refine rq mix (by kernel_rfl) hS36.lt (qv (fun _ hq => r_ms rfl) (qv (fun _ hq => r_mi rfl) (qv (fun _ hq => r_ixe hv3 rfl Try.underlying23 Try.sizeOf5 hp3 hl3 he3) (qv (fun _ hq => r_ld rfl Try.isAgg5 (hq.cell (hc3.get (j := 0) rfl))) (qv (fun _ hq => r_ms rfl) (qv (fun _ hq => r_mi rfl) (qv (fun _ hq => r_ixe hv4 rfl Try.underlying23 Try.sizeOf5 hp4 hl4 he4) (qv (fun _ hq => r_ld rfl Try.isAgg5 (hq.cell (hc4.get (j := 0) rfl))) (qv (fun _ hq => r_ib rfl rfl rfl) (qn fun w33 T17 i3 => ?_))))))))))
                          have im35 := i3.imm
                          have hS37 := hS36.keep i3 (fun _ h => h)
                          refine t_thenR [(0, .slice a1 (List.length p0) c1), (2, .pointer (some ⟨b1, 0, none⟩)), (5, .pointer (some ⟨b2, 0, none⟩)), (11, .slice a16 n15 c16), (12, .int .i64 x18), (152, .bool (u3 != u4))] ⟨rfl, rfl, rfl, rfl, rfl, rfl, trivial⟩ fun J => ?_
                          refine cnd rfl (fun hb19 => ?_) (fun hb19 => ?_)
                          · have hm := ctrue hb19 hm
                            refine sq2 ?_
                            refine rg (pv (r_bd (by kernel_rfl) rfl (u := .agg #[.slice none 0 0, .slice none 0 0, .int .i64 0, .int .i64 0, .bool false])) (wl rfl (st0B (q := 1) hS37 ⟨rfl, rfl⟩ rfl rfl rfl Try.sizeOf36 rfl rfl rfl fun w34 im36 hS38 => ?_)))
                            have hS38 : Sep g T17 w34 [boxA b2 [.slice a7 (List.length x8.Code) c7, .slice a6 (List.length x8.Data) c6, .int .i64 x8.Limit, .int .i64 x8.Notes], boxA b1 [.slice none 0 0, .slice none 0 0, .int .i64 0, .int .i64 0, .bool false], R, ownA (rInt .u8) 5 (.slice a16 n15 c16) y9] := hS38
                            refine nil (t_thenR [(2, .pointer (some ⟨b1, 0, none⟩))] ⟨rfl, trivial⟩ fun J => ?_)
                            have hm := Option.some.inj hm
                            subst hm
                            have hn1 : _ = Lp.ret _ := hn1
                            subst hn1
                            have hm := thn_ret hq1
                            have hm := Option.some.inj hm
                            subst hm
                            exact rtn (r_blk (r_then (r_then (r_blk (r_then (retN (vs := [.agg #[.slice none 0 0, .slice none 0 0, .int .i64 0, .int .i64 0, .bool false]]) rfl ⟨rvS rfl Try.isAgg36 Try.sizeOf36 rfl (hS38.bx (i := 1) ⟨rfl, rfl⟩), trivial⟩ rfl ⟨_, rfl, _, (Im.trans im1 (Im.trans im3 (Im.trans im4 (Im.trans im5 (Im.trans im6 (Im.trans im8 (Im.trans im9 (Im.trans im10 (Im.trans im11 (Im.trans im12 (Im.trans im18 (Im.trans im28 (Im.trans im29 (Im.trans im30 (Im.trans im32 (Im.trans im34 (Im.trans im35 im36))))))))))))))))), ⟨_, _, _, _, rfl, hS38.sel [2] rfl, SlR_nil, SlR_nil, trivial⟩⟩))))))
                          · have hm := cfalse hb19 hm
                            refine skp (t_blk (t_then ?_))
                            have hm := Option.some.inj hm
                            subst hm
                            exact rg (pv (r_mi rfl) (pv (r_ib rfl rfl rfl) (pv (r_zi rfl) (nil (t_then ⟨m1, Nat.lt_succ_self _, _, _, (IntKind.wrap .i64 (x18 + 1)), env_has ⟨rfl, rfl, rfl, rfl, rfl, trivial⟩, (Im.trans im34 im35), hS37.sel [0, 1, 2, 3] rfl, hn1⟩)))))
                        · have hm := cfalse hb18 hm
                          have hm := Option.some.inj hm
                          subst hm
                          have hn1 : _ = Lp.brk _ := hn1
                          subst hn1
                          have hm := thn_brk hq1
                          refine xt (x_then (x_then (x_eq (t_thenR [(2, .pointer (some ⟨b1, 0, none⟩)), (5, .pointer (some ⟨b2, 0, none⟩))] ⟨rfl, rfl, trivial⟩ fun J => ?_))))
                          refine sq2 ?_
                          refine rg (pv (r_ldS rfl Try.isAgg25 Try.sizeOf25 rfl (hS36.cells0 (i := 0) ⟨rfl, rfl⟩ (o := 0) rfl) (cs := [.slice a7 (List.length x8.Code) c7, .slice a6 (List.length x8.Data) c6, .int .i64 x8.Limit, .int .i64 x8.Notes])) (pv (r_bd (by kernel_rfl) rfl (u := .agg #[.slice a7 (List.length x8.Code) c7, .slice a6 (List.length x8.Data) c6, .int .i64 x8.Limit, .int .i64 x8.Notes, .bool true])) (wl rfl (st0B (q := 1) hS36 ⟨rfl, rfl⟩ rfl rfl rfl Try.sizeOf36 rfl rfl rfl fun w35 im37 hS39 => ?_))))
                          have hS39 : Sep g T16 w35 [boxA b2 [.slice a7 (List.length x8.Code) c7, .slice a6 (List.length x8.Data) c6, .int .i64 x8.Limit, .int .i64 x8.Notes], boxA b1 [.slice a7 (List.length x8.Code) c7, .slice a6 (List.length x8.Data) c6, .int .i64 x8.Limit, .int .i64 x8.Notes, .bool true], R, ownA (rInt .u8) 5 (.slice a16 n15 c16) y9] := hS39
                          refine nil (t_then ?_)
                          have hm := Option.some.inj hm
                          subst hm
                          exact rtn (retN (vs := [.agg #[.slice a7 (List.length x8.Code) c7, .slice a6 (List.length x8.Data) c6, .int .i64 x8.Limit, .int .i64 x8.Notes, .bool true]]) rfl ⟨rvS rfl Try.isAgg36 Try.sizeOf36 rfl (hS39.bx (i := 1) ⟨rfl, rfl⟩), trivial⟩ rfl ⟨_, rfl, _, (Im.trans im1 (Im.trans im3 (Im.trans im4 (Im.trans im5 (Im.trans im6 (Im.trans im8 (Im.trans im9 (Im.trans im10 (Im.trans im11 (Im.trans im12 (Im.trans im18 (Im.trans im28 (Im.trans im29 (Im.trans im30 (Im.trans im32 (Im.trans im34 im37)))))))))))))))), ⟨_, _, _, _, rfl, hS39.sel [2] rfl, (h2.mono (Im.trans im29 (Im.trans im30 (Im.trans im32 (Im.trans im34 im37))))), (h3.mono (Im.trans im30 (Im.trans im32 (Im.trans im34 im37)))), trivial⟩⟩)
                · have hm := cfalse hb8 hm
                  refine gF (d0 := 75) rfl rfl (by rw [hb8]; rfl) (gF (d0 := 75) rfl rfl (by rw [hb8]; rfl) (gF (d0 := 75) rfl rfl (by rw [hb8]; rfl) (gF (d0 := 75) rfl rfl (by rw [hb8]; rfl) (gF (d0 := 75) rfl rfl (by rw [hb8]; rfl) (pv (r_pkf rfl hb8 rfl) (nil (t_thenR [(0, .slice a1 (List.length p0) c1), (2, .pointer (some ⟨b1, 0, none⟩)), (4, .int .i64 y2), (5, .pointer (some ⟨b2, 0, none⟩)), (7, .int .i64 x7), (81, .bool false)] ⟨rfl, rfl, rfl, rfl, rfl, rfl, trivial⟩ fun J => ?_)))))))
                  refine cnd (b := false) rfl (fun h => nomatch h) (fun _ => ?_)
                  have hm := Option.some.inj hm
                  subst hm
                  have hn1 : _ = Lp.brk _ := hn1
                  subst hn1
                  have hm := thn_brk hq1
                  refine xt (x_then (x_then (x_eq (t_then ?_))))
                  refine sq2 ?_
                  refine sq2 ?_
                  refine rg (pv (r_ldS rfl Try.isAgg25 Try.sizeOf25 rfl (hS20.cells0 (i := 2) ⟨rfl, rfl⟩ (o := 0) rfl) (cs := [.slice a7 n6 c7, .slice a6 n5 c6, .int .i64 x8.Limit, .int .i64 x8.Notes])) (?_))
                  obtain ⟨T18, im38, hS40, h4⟩ := hS20.seal 1 ⟨rfl, rfl⟩
                  have hsh := h4.len
                  subst hsh
                  have hS40 : Sep g T18 w18 [ownA (rInt .u8) 5 (.slice a6 n5 c6) x8.Data, empA, boxA b2 [.slice a7 (List.length x8.Code) c7, .slice a6 n5 c6, .int .i64 x8.Limit, .int .i64 x8.Notes], boxA b1 [.slice none 0 0, .slice none 0 0, .int .i64 0, .int .i64 0, .bool false], R] := hS40
                  obtain ⟨T19, im39, hS41, h5⟩ := hS40.seal 0 ⟨rfl, rfl⟩
                  have hsh := h5.len
                  subst hsh
                  have hS41 : Sep g T19 w18 [empA, empA, boxA b2 [.slice a7 (List.length x8.Code) c7, .slice a6 (List.length x8.Data) c6, .int .i64 x8.Limit, .int .i64 x8.Notes], boxA b1 [.slice none 0 0, .slice none 0 0, .int .i64 0, .int .i64 0, .bool false], R] := hS41
                  obtain ⟨y10, hx14, hm⟩ := bindS hm
                  refine wl rfl (calS cf9 rfl (ref32_Right_sim (p0 := x8) (hS41.bun [2, 3, 4] [] rfl) (h4.mono im39) h5 hx14) rfl fun v10 T20 w36 im40 rv10 => ?_)
                  obtain ⟨rfl, hS42, _⟩ := rv10
                  have hS42 : Sep g T20 w36 [boxA b2 [.slice a7 (List.length x8.Code) c7, .slice a6 (List.length x8.Data) c6, .int .i64 x8.Limit, .int .i64 x8.Notes], boxA b1 [.slice none 0 0, .slice none 0 0, .int .i64 0, .int .i64 0, .bool false], R] := hS42.unb
                  refine pv (r_nt rfl) (nil (t_thenR [(0, .slice a1 (List.length p0) c1), (2, .pointer (some ⟨b1, 0, none⟩)), (5, .pointer (some ⟨b2, 0, none⟩)), (128, .bool (!y10))] ⟨rfl, rfl, rfl, rfl, trivial⟩ fun J => ?_))
                  refine cnd rfl (fun hb21 => ?_) (fun hb21 => ?_)
                  · have hm := ctrue hb21 hm
                    refine sq2 ?_
                    refine rg (pv (r_bd (by kernel_rfl) rfl (u := .agg #[.slice none 0 0, .slice none 0 0, .int .i64 0, .int .i64 0, .bool false])) (wl rfl (st0B (q := 1) hS42 ⟨rfl, rfl⟩ rfl rfl rfl Try.sizeOf36 rfl rfl rfl fun w37 im41 hS43 => ?_)))
                    have hS43 : Sep g T20 w37 [boxA b2 [.slice a7 (List.length x8.Code) c7, .slice a6 (List.length x8.Data) c6, .int .i64 x8.Limit, .int .i64 x8.Notes], boxA b1 [.slice none 0 0, .slice none 0 0, .int .i64 0, .int .i64 0, .bool false], R] := hS43
                    refine nil (t_then ?_)
                    have hm := Option.some.inj hm
                    subst hm
                    exact rtn (r_then (retN (vs := [.agg #[.slice none 0 0, .slice none 0 0, .int .i64 0, .int .i64 0, .bool false]]) rfl ⟨rvS rfl Try.isAgg36 Try.sizeOf36 rfl (hS43.bx (i := 1) ⟨rfl, rfl⟩), trivial⟩ rfl ⟨_, rfl, _, (Im.trans im1 (Im.trans im3 (Im.trans im4 (Im.trans im5 (Im.trans im6 (Im.trans im8 (Im.trans im9 (Im.trans im10 (Im.trans im11 (Im.trans im12 (Im.trans im18 (Im.trans im38 (Im.trans im39 (Im.trans im40 im41)))))))))))))), ⟨_, _, _, _, rfl, hS43.sel [2] rfl, SlR_nil, SlR_nil, trivial⟩⟩))
                  · have hm := cfalse hb21 hm
                    refine skp (t_then ?_)
                    refine sq2 ?_
                    obtain ⟨y11, hx15, hm⟩ := bindS hm
                    refine rg (pv (r_ldS rfl Try.isAgg25 Try.sizeOf25 rfl (hS42.cells0 (i := 0) ⟨rfl, rfl⟩ (o := 0) rfl) (cs := [.slice a7 (List.length x8.Code) c7, .slice a6 (List.length x8.Data) c6, .int .i64 x8.Limit, .int .i64 x8.Notes])) (wl rfl (calS cf11 rfl (ref32_Encode_sim (p0 := x8) (hS42.bun [0, 1, 2] [] rfl) (h4.mono (Im.trans im39 im40)) (h5.mono im40) hx15) rfl fun v11 T21 w38 im42 rv11 => ?_)))
                    obtain ⟨a17, n16, c17, rfl, hS44, _⟩ := rv11
                    have hS44 : Sep g T21 w38 [boxA b2 [.slice a7 (List.length x8.Code) c7, .slice a6 (List.length x8.Data) c6, .int .i64 x8.Limit, .int .i64 x8.Notes], boxA b1 [.slice none 0 0, .slice none 0 0, .int .i64 0, .int .i64 0, .bool false], R, ownA (rInt .u8) 5 (.slice a17 n16 c17) y11] := hS44.unb
                    refine pv (r_zs rfl) (nil (t_then ?_))
                    refine sq2 ?_
                    refine sq2 ?_
                    refine rg (pv (r_ms rfl) (pv (r_lnV rfl (hS44.own (i := 3) ⟨rfl, rfl⟩).v Try.underlying23) (pv (r_ms rfl) (pv (r_ln rfl Try.underlying23) (pv (r_ib rfl rfl rfl) (nil (t_thenR [(0, .slice a1 (List.length p0) c1), (2, .pointer (some ⟨b1, 0, none⟩)), (5, .pointer (some ⟨b2, 0, none⟩)), (11, .slice a17 n16 c17), (136, .bool ((List.length y11 : Int) != (List.length p0 : Int)))] ⟨rfl, rfl, rfl, rfl, rfl, trivial⟩ fun J => ?_)))))))
                    refine cnd rfl (fun hb22 => ?_) (fun hb22 => ?_)
                    · have hm := ctrue hb22 hm
                      refine sq2 ?_
                      refine rg (pv (r_bd (by kernel_rfl) rfl (u := .agg #[.slice none 0 0, .slice none 0 0, .int .i64 0, .int .i64 0, .bool false])) (wl rfl (st0B (q := 1) hS44 ⟨rfl, rfl⟩ rfl rfl rfl Try.sizeOf36 rfl rfl rfl fun w39 im43 hS45 => ?_)))
                      have hS45 : Sep g T21 w39 [boxA b2 [.slice a7 (List.length x8.Code) c7, .slice a6 (List.length x8.Data) c6, .int .i64 x8.Limit, .int .i64 x8.Notes], boxA b1 [.slice none 0 0, .slice none 0 0, .int .i64 0, .int .i64 0, .bool false], R, ownA (rInt .u8) 5 (.slice a17 n16 c17) y11] := hS45
                      refine nil (t_thenR [(2, .pointer (some ⟨b1, 0, none⟩))] ⟨rfl, trivial⟩ fun J => ?_)
                      have hm := Option.some.inj hm
                      subst hm
                      exact rtn (r_then (retN (vs := [.agg #[.slice none 0 0, .slice none 0 0, .int .i64 0, .int .i64 0, .bool false]]) rfl ⟨rvS rfl Try.isAgg36 Try.sizeOf36 rfl (hS45.bx (i := 1) ⟨rfl, rfl⟩), trivial⟩ rfl ⟨_, rfl, _, (Im.trans im1 (Im.trans im3 (Im.trans im4 (Im.trans im5 (Im.trans im6 (Im.trans im8 (Im.trans im9 (Im.trans im10 (Im.trans im11 (Im.trans im12 (Im.trans im18 (Im.trans im38 (Im.trans im39 (Im.trans im40 (Im.trans im42 im43))))))))))))))), ⟨_, _, _, _, rfl, hS45.sel [2] rfl, SlR_nil, SlR_nil, trivial⟩⟩))
                    · have hm := cfalse hb22 hm
                      refine skp (t_then ?_)
                      refine sq2 ?_
                      refine sq2 ?_
                      refine rg (pv (r_zi rfl) (nil (t_then ?_)))
                      obtain ⟨o1, ho1, hq1⟩ := bindS hm
                      obtain ⟨bd1, hbd1, ho1⟩ := loop_open ho1
                      refine blk (wp_loop_ghost (fun m a w40 => ∃ (J : Nat → Value) (T22 : Nat → Prop) (x19 : Int), a = env (nf 156) J [(0, .slice a1 (List.length p0) c1), (2, .pointer (some ⟨b1, 0, none⟩)), (5, .pointer (some ⟨b2, 0, none⟩)), (11, .slice a17 n16 c17), (12, .int .i64 x19)] ∧ Im T21 w38 T22 w40 ∧ Sep g T22 w40 [boxA b2 [.slice a7 (List.length x8.Code) c7, .slice a6 (List.length x8.Data) c6, .int .i64 x8.Limit, .int .i64 x8.Notes], boxA b1 [.slice none 0 0, .slice none 0 0, .int .i64 0, .int .i64 0, .bool false], R, ownA (rInt .u8) 5 (.slice a17 n16 c17) y11] ∧ loopM bd1 m x19 = some o1) NN ⟨_, _, 0, env_has ⟨rfl, rfl, rfl, rfl, rfl, trivial⟩, Im.refl, hS44.sel [0, 1, 2, 3] rfl, ho1⟩ ?_)
                      rintro m _ w40 ⟨J, T22, x19, rfl, im44, hS46, ho1⟩
                      obtain ⟨m1, z1, rfl, hm, hn1⟩ := loop_round ho1
                      rw [hbd1] at hm
                      refine sq2 ?_
                      refine sq2 ?_
                      refine rg (pv (r_mi rfl) (pv (r_ms rfl) (pv (r_ln rfl Try.underlying23) (pv (r_ib rfl rfl rfl) (nil (t_then ?_))))))
                      refine cnd rfl (fun hb23 => ?_) (fun hb23 => ?_)
                      · have hm := ctrue hb23 hm
                        refine skp (t_then ?_)
                        refine sq2 ?_
                        refine blk ?_
                        refine sq2 ?_
                        obtain ⟨u5, hx16, hm⟩ := bindS hm
                        obtain ⟨b7, of5, cs5, k5, cp5, hv5, hp5, hl5, he5, hr5, hc5⟩ := (hS46.own (i := 3) ⟨rfl, rfl⟩).v.ixq hx16 rfl
                        cases hr5
                        obtain ⟨u6, hx17, hm⟩ := bindS hm
                        obtain ⟨b8, of6, cs6, k6, cp6, hv6, hp6, hl6, he6, hr6, hc6, hT4⟩ := (h1.mono (Im.trans im1 (Im.trans im3 (Im.trans im4 (Im.trans im5 (Im.trans im6 (Im.trans im8 (Im.trans im9 (Im.trans im10 (Im.trans im11 (Im.trans im12 (Im.trans im18 (Im.trans im38 (Im.trans im39 (Im.trans im40 (Im.trans im42 im44)))))))))))))))).ixT hx17 rfl
                        cases hr6
                        refine rq mix (by kernel_rfl) hS46.lt (qv (fun _ hq => r_ms rfl) (qv (fun _ hq => r_mi rfl) (qv (fun _ hq => r_ixe hv5 rfl Try.underlying23 Try.sizeOf5 hp5 hl5 he5) (qv (fun _ hq => r_ld rfl Try.isAgg5 (hq.cell (hc5.get (j := 0) rfl))) (qv (fun _ hq => r_ms rfl) (qv (fun _ hq => r_mi rfl) (qv (fun _ hq => r_ixe hv6 rfl Try.underlying23 Try.sizeOf5 hp6 hl6 he6) (qv (fun _ hq => r_ld rfl Try.isAgg5 (hq.cell (hc6.get (j := 0) rfl))) (qv (fun _ hq => r_ib rfl rfl rfl) (qn fun w41 T23 i4 => ?_))))))))))
                        have im45 := i4.imm
                        have hS47 := hS46.keep i4 (fun _ h => h)
                        refine t_thenR [(0, .slice a1 (List.length p0) c1), (2, .pointer (some ⟨b1, 0, none⟩)), (5, .pointer (some ⟨b2, 0, none⟩)), (11, .slice a17 n16 c17), (12, .int .i64 x19), (152, .bool (u5 != u6))] ⟨rfl, rfl, rfl, rfl, rfl, rfl, trivial⟩ fun J => ?_
                        refine cnd rfl (fun hb24 => ?_) (fun hb24 => ?_)
                        · have hm := ctrue hb24 hm
                          refine sq2 ?_
                          refine rg (pv (r_bd (by kernel_rfl) rfl (u := .agg #[.slice none 0 0, .slice none 0 0, .int .i64 0, .int .i64 0, .bool false])) (wl rfl (st0B (q := 1) hS47 ⟨rfl, rfl⟩ rfl rfl rfl Try.sizeOf36 rfl rfl rfl fun w42 im46 hS48 => ?_)))
                          have hS48 : Sep g T23 w42 [boxA b2 [.slice a7 (List.length x8.Code) c7, .slice a6 (List.length x8.Data) c6, .int .i64 x8.Limit, .int .i64 x8.Notes], boxA b1 [.slice none 0 0, .slice none 0 0, .int .i64 0, .int .i64 0, .bool false], R, ownA (rInt .u8) 5 (.slice a17 n16 c17) y11] := hS48
                          refine nil (t_thenR [(2, .pointer (some ⟨b1, 0, none⟩))] ⟨rfl, trivial⟩ fun J => ?_)
                          have hm := Option.some.inj hm
                          subst hm
                          have hn1 : _ = Lp.ret _ := hn1
                          subst hn1
                          have hm := thn_ret hq1
                          have hm := Option.some.inj hm
                          subst hm
                          exact rtn (r_blk (r_then (r_then (r_blk (r_then (retN (vs := [.agg #[.slice none 0 0, .slice none 0 0, .int .i64 0, .int .i64 0, .bool false]]) rfl ⟨rvS rfl Try.isAgg36 Try.sizeOf36 rfl (hS48.bx (i := 1) ⟨rfl, rfl⟩), trivial⟩ rfl ⟨_, rfl, _, (Im.trans im1 (Im.trans im3 (Im.trans im4 (Im.trans im5 (Im.trans im6 (Im.trans im8 (Im.trans im9 (Im.trans im10 (Im.trans im11 (Im.trans im12 (Im.trans im18 (Im.trans im38 (Im.trans im39 (Im.trans im40 (Im.trans im42 (Im.trans im44 (Im.trans im45 im46))))))))))))))))), ⟨_, _, _, _, rfl, hS48.sel [2] rfl, SlR_nil, SlR_nil, trivial⟩⟩))))))
                        · have hm := cfalse hb24 hm
                          refine skp (t_blk (t_then ?_))
                          have hm := Option.some.inj hm
                          subst hm
                          exact rg (pv (r_mi rfl) (pv (r_ib rfl rfl rfl) (pv (r_zi rfl) (nil (t_then ⟨m1, Nat.lt_succ_self _, _, _, (IntKind.wrap .i64 (x19 + 1)), env_has ⟨rfl, rfl, rfl, rfl, rfl, trivial⟩, (Im.trans im44 im45), hS47.sel [0, 1, 2, 3] rfl, hn1⟩)))))
                      · have hm := cfalse hb23 hm
                        have hm := Option.some.inj hm
                        subst hm
                        have hn1 : _ = Lp.brk _ := hn1
                        subst hn1
                        have hm := thn_brk hq1
                        refine xt (x_then (x_then (x_eq (t_thenR [(2, .pointer (some ⟨b1, 0, none⟩)), (5, .pointer (some ⟨b2, 0, none⟩))] ⟨rfl, rfl, trivial⟩ fun J => ?_))))
                        refine sq2 ?_
                        refine rg (pv (r_ldS rfl Try.isAgg25 Try.sizeOf25 rfl (hS46.cells0 (i := 0) ⟨rfl, rfl⟩ (o := 0) rfl) (cs := [.slice a7 (List.length x8.Code) c7, .slice a6 (List.length x8.Data) c6, .int .i64 x8.Limit, .int .i64 x8.Notes])) (pv (r_bd (by kernel_rfl) rfl (u := .agg #[.slice a7 (List.length x8.Code) c7, .slice a6 (List.length x8.Data) c6, .int .i64 x8.Limit, .int .i64 x8.Notes, .bool true])) (wl rfl (st0B (q := 1) hS46 ⟨rfl, rfl⟩ rfl rfl rfl Try.sizeOf36 rfl rfl rfl fun w43 im47 hS49 => ?_))))
                        have hS49 : Sep g T22 w43 [boxA b2 [.slice a7 (List.length x8.Code) c7, .slice a6 (List.length x8.Data) c6, .int .i64 x8.Limit, .int .i64 x8.Notes], boxA b1 [.slice a7 (List.length x8.Code) c7, .slice a6 (List.length x8.Data) c6, .int .i64 x8.Limit, .int .i64 x8.Notes, .bool true], R, ownA (rInt .u8) 5 (.slice a17 n16 c17) y11] := hS49
                        refine nil (t_then ?_)
                        have hm := Option.some.inj hm
                        subst hm
                        exact rtn (retN (vs := [.agg #[.slice a7 (List.length x8.Code) c7, .slice a6 (List.length x8.Data) c6, .int .i64 x8.Limit, .int .i64 x8.Notes, .bool true]]) rfl ⟨rvS rfl Try.isAgg36 Try.sizeOf36 rfl (hS49.bx (i := 1) ⟨rfl, rfl⟩), trivial⟩ rfl ⟨_, rfl, _, (Im.trans im1 (Im.trans im3 (Im.trans im4 (Im.trans im5 (Im.trans im6 (Im.trans im8 (Im.trans im9 (Im.trans im10 (Im.trans im11 (Im.trans im12 (Im.trans im18 (Im.trans im38 (Im.trans im39 (Im.trans im40 (Im.trans im42 (Im.trans im44 im47)))))))))))))))), ⟨_, _, _, _, rfl, hS49.sel [2] rfl, (h4.mono (Im.trans im39 (Im.trans im40 (Im.trans im42 (Im.trans im44 im47))))), (h5.mono (Im.trans im40 (Im.trans im42 (Im.trans im44 im47)))), trivial⟩⟩)

set_option maxRecDepth 100000 in
set_option maxHeartbeats 1000000 in
theorem law32_PackReads_sim {g : World} {T0 : Nat → Prop} {w0 : World} {R : Assn} {p0 : List Int} {a1 : Option Addr} {c1 : Nat} {r : Bool} (hS : Sep g T0 w0 [R]) (h1 : SlR (rInt .u8) T0 w0 (.slice a1 (List.length p0) c1) p0) (hm : law32_PackReads p0 = some r) :
    Calls Try.prog 4 #[.slice a1 (List.length p0) c1] w0 (RetS T0 w0 fun T w v => v = .bool r ∧ Sep g T w [R] ∧ True) := by
  refine enter (args := [.slice a1 (List.length p0) c1]) Try.func4 rfl Try.ntmps4 rfl fun J => ?_
  unfold law32_PackReads at hm
  refine sq2 ?_
  refine rg (pv (r_zb rfl) (nil (t_then ?_)))
  refine sq2 ?_
  refine sq2 ?_
  refine rg (pv (r_ms rfl) (pv (r_ln rfl Try.underlying23) (pv (r_ib rfl rfl rfl) (nil (t_then ?_)))))
  refine cnd rfl (fun hb1 => ?_) (fun hb1 => ?_)
  · have hm := ctrue hb1 hm
    refine sq2 ?_
    obtain ⟨y1, hx1, hm⟩ := bindS hm
    refine rg (wl rfl (calS cf7 rfl (law32_awake_sim  (hS.bun [0] [] rfl)  hx1) rfl fun v1 T1 w1 im1 rv1 => ?_))
    obtain ⟨rfl, hS1, _⟩ := rv1
    have hS1 : Sep g T1 w1 [R] := hS1.unb
    refine pv (r_zb rfl) (nil (t_thenR [(2, .bool y1)] ⟨rfl, trivial⟩ fun J => ?_))
    have hm := Option.some.inj hm
    subst hm
    exact rtn (r_then (ret1 rfl rfl ⟨_, rfl, _, im1, ⟨rfl, hS1.sel [0] rfl, trivial⟩⟩))
  · have hm := cfalse hb1 hm
    refine skp (t_then ?_)
    refine sq2 ?_
    obtain ⟨y2, hx2, hm⟩ := bindS hm
    refine rg (pv (r_ms rfl) (wl rfl (calS cf10 rfl (pack_Decode_sim (p0 := p0) (hS.bun [0] [] rfl) h1 hx2) rfl fun v2 T2 w2 im2 rv2 => ?_)))
    obtain ⟨a2, c2, a3, c3, rfl, hS2, h2, h3, _⟩ := rv2
    have hS2 : Sep g T2 w2 [R] := hS2.unb
    refine pv (r_mv rfl) (pv (r_ex (v := .agg #[.slice a2 (List.length y2.1.Code) c2, .slice a3 (List.length y2.1.Data) c3, .int .i64 y2.1.Limit, .int .i64 y2.1.Notes]) rfl rfl) (pv (r_ex (v := .int .i64 y2.2) rfl rfl) (wl rfl (alS (zs := [.slice none 0 0, .slice none 0 0, .int .i64 0, .int .i64 0]) Try.zeroValue25 rfl hS2 fun w3 b1 im3 hS3 => ?_))))
    refine wl rfl (st0B (q := 0) hS3 ⟨rfl, rfl⟩ rfl rfl rfl Try.sizeOf25 rfl rfl rfl fun w4 im4 hS4 => ?_)
    have hS4 : Sep g T2 w4 [boxA b1 [.slice a2 (List.length y2.1.Code) c2, .slice a3 (List.length y2.1.Data) c3, .int .i64 y2.1.Limit, .int .i64 y2.1.Notes], R] := hS4
    refine pv (r_zi rfl) (nil (t_thenR [(0, .slice a1 (List.length p0) c1), (3, .pointer (some ⟨b1, 0, none⟩)), (4, .int .i64 y2.2)] ⟨rfl, rfl, rfl, trivial⟩ fun J => ?_))
    refine sq2 ?_
    obtain ⟨y3, hx3, hm⟩ := bindS hm
    refine rg (pv (r_ms rfl) (wl rfl (calS cf13 rfl (ref32_Decode_sim (p0 := p0) (hS4.bun [0, 1] [] rfl) (h1.mono (Im.trans im2 (Im.trans im3 im4))) hx3) rfl fun v3 T3 w5 im5 rv3 => ?_)))
    obtain ⟨a4, c4, a5, c5, rfl, hS5, h4, h5, _⟩ := rv3
    have hS5 : Sep g T3 w5 [boxA b1 [.slice a2 (List.length y2.1.Code) c2, .slice a3 (List.length y2.1.Data) c3, .int .i64 y2.1.Limit, .int .i64 y2.1.Notes], R] := hS5.unb
    refine wl rfl (alS (zs := [.slice none 0 0, .slice none 0 0, .int .i64 0, .int .i64 0, .bool false]) Try.zeroValue36 rfl hS5 fun w6 b2 im6 hS6 => ?_)
    refine wl rfl (st0B (q := 0) hS6 ⟨rfl, rfl⟩ rfl rfl rfl Try.sizeOf36 rfl rfl rfl fun w7 im7 hS7 => ?_)
    have hS7 : Sep g T3 w7 [boxA b2 [.slice a4 (List.length y3.G.Code) c4, .slice a5 (List.length y3.G.Data) c5, .int .i64 y3.G.Limit, .int .i64 y3.G.Notes, .bool y3.Is], boxA b1 [.slice a2 (List.length y2.1.Code) c2, .slice a3 (List.length y2.1.Data) c3, .int .i64 y2.1.Limit, .int .i64 y2.1.Notes], R] := hS7
    refine nil (t_then ?_)
    refine sq2 ?_
    refine sq2 ?_
    refine rg (pv (r_fa rfl Try.underlying36 rfl Try.sizeOf4 rfl) (pv (r_ld rfl Try.isAgg4 (hS7.cell0 (i := 0) ⟨rfl, rfl⟩ (j := 4) rfl)) (pv (r_nt rfl) (nil (t_then ?_)))))
    refine cnd rfl (fun hb2 => ?_) (fun hb2 => ?_)
    · have hm := ctrue hb2 hm
      refine sq2 ?_
      obtain ⟨y4, hx4, hm⟩ := bindS hm
      refine rg (wl rfl (calS cf7 rfl (law32_awake_sim  (hS7.bun [1, 2] [] rfl)  hx4) rfl fun v4 T4 w8 im8 rv4 => ?_))
      obtain ⟨rfl, hS8, _⟩ := rv4
      have hS8 : Sep g T4 w8 [boxA b1 [.slice a2 (List.length y2.1.Code) c2, .slice a3 (List.length y2.1.Data) c3, .int .i64 y2.1.Limit, .int .i64 y2.1.Notes], R] := hS8.unb
      refine pv (r_mb rfl) (?_)
      rcases Bool.eq_false_or_eq_true y4 with hb3 | hb3
      · have hm := ctrue hb3 hm
        refine gT (d0 := 23) rfl rfl hb3 (pv (r_mi rfl) (gT (d0 := 23) rfl rfl hb3 (pv (r_ib rfl rfl rfl) (pv (r_pkt rfl hb3 rfl) (pv (r_mb rfl) (?_))))))
        rcases Bool.eq_false_or_eq_true (y2.2 == 3) with hb4 | hb4
        · have hm := ctrue hb4 hm
          obtain ⟨y5, hx5, hm⟩ := bindS hm
          refine gT (d0 := 27) rfl rfl hb4 (pv (r_ldS rfl Try.isAgg25 Try.sizeOf25 rfl (hS8.cells0 (i := 0) ⟨rfl, rfl⟩ (o := 0) rfl) (cs := [.slice a2 (List.length y2.1.Code) c2, .slice a3 (List.length y2.1.Data) c3, .int .i64 y2.1.Limit, .int .i64 y2.1.Notes])) (gT (d0 := 27) rfl rfl hb4 (pv (r_bd (by kernel_rfl) rfl (u := .agg #[.slice none 0 0, .slice none 0 0, .int .i64 0, .int .i64 0])) (gT (d0 := 27) rfl rfl hb4 (wl rfl (calS cf12 rfl (law32_Same_sim (p0 := y2.1) (p1 := (⟨[], [], 0, 0⟩ : GImage)) (hS8.bun [1] [] rfl) (h2.mono (Im.trans im3 (Im.trans im4 (Im.trans im5 (Im.trans im6 (Im.trans im7 im8)))))) (h3.mono (Im.trans im3 (Im.trans im4 (Im.trans im5 (Im.trans im6 (Im.trans im7 im8)))))) SlR_nil SlR_nil hx5) rfl fun v5 T5 w9 im9 rv5 => ?_))))))
          obtain ⟨rfl, hS9, _⟩ := rv5
          have hS9 : Sep g T5 w9 [R] := hS9.unb
          refine pv (r_pkt rfl hb4 rfl) (pv (r_zb rfl) (nil (t_thenR [(2, .bool y5)] ⟨rfl, trivial⟩ fun J => ?_)))
          have hm := Option.some.inj hm
          subst hm
          exact rtn (r_then (ret1 rfl rfl ⟨_, rfl, _, (Im.trans im2 (Im.trans im3 (Im.trans im4 (Im.trans im5 (Im.trans im6 (Im.trans im7 (Im.trans im8 im9))))))), ⟨rfl, hS9.sel [0] rfl, trivial⟩⟩))
        · have hm := cfalse hb4 hm
          refine gF (d0 := 27) rfl rfl (by rw [hb4]; rfl) (gF (d0 := 27) rfl rfl (by rw [hb4]; rfl) (gF (d0 := 27) rfl rfl (by rw [hb4]; rfl) (pv (r_pkf rfl hb4 rfl) (pv (r_zb rfl) (nil (t_thenR [(2, .bool false)] ⟨rfl, trivial⟩ fun J => ?_))))))
          have hm := Option.some.inj hm
          subst hm
          exact rtn (r_then (ret1 rfl rfl ⟨_, rfl, _, (Im.trans im2 (Im.trans im3 (Im.trans im4 (Im.trans im5 (Im.trans im6 (Im.trans im7 im8)))))), ⟨rfl, hS8.sel [1] rfl, trivial⟩⟩))
      · have hm := cfalse hb3 hm
        refine gF (d0 := 23) rfl rfl (by rw [hb3]; rfl) (gF (d0 := 23) rfl rfl (by rw [hb3]; rfl) (pv (r_pkf rfl hb3 rfl) (pv (r_mb rfl) (gF (d0 := 27) rfl rfl rfl (gF (d0 := 27) rfl rfl rfl (gF (d0 := 27) rfl rfl rfl (pv (r_pkf rfl rfl rfl) (pv (r_zb rfl) (nil (t_thenR [(2, .bool false)] ⟨rfl, trivial⟩ fun J => ?_))))))))))
        have hm := Option.some.inj hm
        subst hm
        exact rtn (r_then (ret1 rfl rfl ⟨_, rfl, _, (Im.trans im2 (Im.trans im3 (Im.trans im4 (Im.trans im5 (Im.trans im6 (Im.trans im7 im8)))))), ⟨rfl, hS8.sel [1] rfl, trivial⟩⟩))
    · have hm := cfalse hb2 hm
      refine skp (t_thenR [(0, .slice a1 (List.length p0) c1), (3, .pointer (some ⟨b1, 0, none⟩)), (4, .int .i64 y2.2), (5, .pointer (some ⟨b2, 0, none⟩))] ⟨rfl, rfl, rfl, rfl, trivial⟩ fun J => ?_)
      refine sq2 ?_
      obtain ⟨y6, hx6, hm⟩ := bindS hm
      refine rg (pv (r_ldS rfl Try.isAgg25 Try.sizeOf25 rfl (hS7.cells0 (i := 1) ⟨rfl, rfl⟩ (o := 0) rfl) (cs := [.slice a2 (List.length y2.1.Code) c2, .slice a3 (List.length y2.1.Data) c3, .int .i64 y2.1.Limit, .int .i64 y2.1.Notes])) (wl rfl (calS cf8 rfl (pack_Encode_sim (p0 := y2.1) (hS7.bun [0, 1, 2] [] rfl) (h2.mono (Im.trans im3 (Im.trans im4 (Im.trans im5 (Im.trans im6 im7))))) (h3.mono (Im.trans im3 (Im.trans im4 (Im.trans im5 (Im.trans im6 im7))))) hx6) rfl fun v6 T6 w10 im10 rv6 => ?_)))
      obtain ⟨a6, n1, c6, rfl, hS10, _⟩ := rv6
      have hS10 : Sep g T6 w10 [boxA b2 [.slice a4 (List.length y3.G.Code) c4, .slice a5 (List.length y3.G.Data) c5, .int .i64 y3.G.Limit, .int .i64 y3.G.Notes, .bool y3.Is], boxA b1 [.slice a2 (List.length y2.1.Code) c2, .slice a3 (List.length y2.1.Data) c3, .int .i64 y2.1.Limit, .int .i64 y2.1.Notes], R, ownA (rInt .u8) 5 (.slice a6 n1 c6) y6.1] := hS10.unb
      refine pv (r_mv rfl) (pv (r_ex (v := .slice a6 n1 c6) rfl rfl) (pv (r_ex (v := .int .i64 y6.2) rfl rfl) (pv (r_zs rfl) (pv (r_zi rfl) (nil (t_thenR [(0, .slice a1 (List.length p0) c1), (3, .pointer (some ⟨b1, 0, none⟩)), (4, .int .i64 y2.2), (5, .pointer (some ⟨b2, 0, none⟩)), (6, .slice a6 n1 c6), (7, .int .i64 y6.2)] ⟨rfl, rfl, rfl, rfl, rfl, rfl, trivial⟩ fun J => ?_))))))
      refine sq2 ?_
      obtain ⟨y7, hx7, hm⟩ := bindS hm
      refine rg (wl rfl (calS cf7 rfl (law32_awake_sim  (hS10.bun [0, 1, 2, 3] [] rfl)  hx7) rfl fun v7 T7 w11 im11 rv7 => ?_))
      obtain ⟨rfl, hS11, _⟩ := rv7
      have hS11 : Sep g T7 w11 [boxA b2 [.slice a4 (List.length y3.G.Code) c4, .slice a5 (List.length y3.G.Data) c5, .int .i64 y3.G.Limit, .int .i64 y3.G.Notes, .bool y3.Is], boxA b1 [.slice a2 (List.length y2.1.Code) c2, .slice a3 (List.length y2.1.Data) c3, .int .i64 y2.1.Limit, .int .i64 y2.1.Notes], R, ownA (rInt .u8) 5 (.slice a6 n1 c6) y6.1] := hS11.unb
      refine pv (r_mb rfl) (?_)
      rcases Bool.eq_false_or_eq_true y7 with hb5 | hb5
      · have hm := ctrue hb5 hm
        refine gT (d0 := 38) rfl rfl hb5 (pv (r_mi rfl) (gT (d0 := 38) rfl rfl hb5 (pv (r_ib rfl rfl rfl) (pv (r_pkt rfl hb5 rfl) (pv (r_mb rfl) (?_))))))
        rcases Bool.eq_false_or_eq_true (y2.2 == 0) with hb6 | hb6
        · have hm := ctrue hb6 hm
          obtain ⟨y8, hx8, hm⟩ := bindS hm
          refine gT (d0 := 42) rfl rfl hb6 (pv (r_ldS rfl Try.isAgg25 Try.sizeOf25 rfl (hS11.cells0 (i := 1) ⟨rfl, rfl⟩ (o := 0) rfl) (cs := [.slice a2 (List.length y2.1.Code) c2, .slice a3 (List.length y2.1.Data) c3, .int .i64 y2.1.Limit, .int .i64 y2.1.Notes])) (gT (d0 := 42) rfl rfl hb6 (pv (r_fa rfl Try.underlying36 rfl Try.sizeOf25 rfl) (gT (d0 := 42) rfl rfl hb6 (pv (r_ldS rfl Try.isAgg25 Try.sizeOf25 rfl (hS11.cells0 (i := 0) ⟨rfl, rfl⟩ (o := 0) rfl) (cs := [.slice a4 (List.length y3.G.Code) c4, .slice a5 (List.length y3.G.Data) c5, .int .i64 y3.G.Limit, .int .i64 y3.G.Notes])) (gT (d0 := 42) rfl rfl hb6 (wl rfl (calS cf12 rfl (law32_Same_sim (p0 := y2.1) (p1 := y3.G) (hS11.bun [2, 3] [] rfl) (h2.mono (Im.trans im3 (Im.trans im4 (Im.trans im5 (Im.trans im6 (Im.trans im7 (Im.trans im10 im11))))))) (h3.mono (Im.trans im3 (Im.trans im4 (Im.trans im5 (Im.trans im6 (Im.trans im7 (Im.trans im10 im11))))))) (h4.mono (Im.trans im6 (Im.trans im7 (Im.trans im10 im11)))) (h5.mono (Im.trans im6 (Im.trans im7 (Im.trans im10 im11)))) hx8) rfl fun v8 T8 w12 im12 rv8 => ?_))))))))
          obtain ⟨rfl, hS12, _⟩ := rv8
          have hS12 : Sep g T8 w12 [R, ownA (rInt .u8) 5 (.slice a6 n1 c6) y6.1] := hS12.unb
          refine pv (r_pkt rfl hb6 rfl) (pv (r_mb rfl) (?_))
          rcases Bool.eq_false_or_eq_true y8 with hb7 | hb7
          · have hm := ctrue hb7 hm
            refine gT (d0 := 48) rfl rfl hb7 (pv (r_mi rfl) (gT (d0 := 48) rfl rfl hb7 (pv (r_ib rfl rfl rfl) (pv (r_pkt rfl hb7 rfl) (pv (r_mb rfl) (?_))))))
            rcases Bool.eq_false_or_eq_true (y6.2 == 0) with hb8 | hb8
            · have hm := ctrue hb8 hm
              refine gT (d0 := 52) rfl rfl hb8 (pv (r_ms rfl) (gT (d0 := 52) rfl rfl hb8 (pv (r_cvs rfl ⟨_, (hS12.own (i := 1) ⟨rfl, rfl⟩).v⟩ Try.underlying23 Try.underlying5 Try.underlying9) (gT (d0 := 52) rfl rfl hb8 (pv (r_ms rfl) (gT (d0 := 52) rfl rfl hb8 (pv (r_cvs rfl ⟨_, (h1.mono (Im.trans im2 (Im.trans im3 (Im.trans im4 (Im.trans im5 (Im.trans im6 (Im.trans im7 (Im.trans im10 (Im.trans im11 im12))))))))).v⟩ Try.underlying23 Try.underlying5 Try.underlying9) (gT (d0 := 52) rfl rfl hb8 (pv (r_sqL rfl rfl) (pv (r_pkt rfl hb8 rfl) (pv (r_zb rfl) (nil (t_thenR [(2, .bool (decide (bytesStr y6.1 = bytesStr p0)))] ⟨rfl, trivial⟩ fun J => ?_)))))))))))))
              have hm := Option.some.inj hm
              subst hm
              exact rtn (ret1 rfl rfl ⟨_, rfl, _, (Im.trans im2 (Im.trans im3 (Im.trans im4 (Im.trans im5 (Im.trans im6 (Im.trans im7 (Im.trans im10 (Im.trans im11 im12)))))))), ⟨rfl, hS12.sel [0] rfl, trivial⟩⟩)
            · have hm := cfalse hb8 hm
              refine gF (d0 := 52) rfl rfl (by rw [hb8]; rfl) (gF (d0 := 52) rfl rfl (by rw [hb8]; rfl) (gF (d0 := 52) rfl rfl (by rw [hb8]; rfl) (gF (d0 := 52) rfl rfl (by rw [hb8]; rfl) (gF (d0 := 52) rfl rfl (by rw [hb8]; rfl) (pv (r_pkf rfl hb8 rfl) (pv (r_zb rfl) (nil (t_thenR [(2, .bool false)] ⟨rfl, trivial⟩ fun J => ?_))))))))
              have hm := Option.some.inj hm
              subst hm
              exact rtn (ret1 rfl rfl ⟨_, rfl, _, (Im.trans im2 (Im.trans im3 (Im.trans im4 (Im.trans im5 (Im.trans im6 (Im.trans im7 (Im.trans im10 (Im.trans im11 im12)))))))), ⟨rfl, hS12.sel [0] rfl, trivial⟩⟩)
          · have hm := cfalse hb7 hm
            refine gF (d0 := 48) rfl rfl (by rw [hb7]; rfl) (gF (d0 := 48) rfl rfl (by rw [hb7]; rfl) (pv (r_pkf rfl hb7 rfl) (pv (r_mb rfl) (gF (d0 := 52) rfl rfl rfl (gF (d0 := 52) rfl rfl rfl (gF (d0 := 52) rfl rfl rfl (gF (d0 := 52) rfl rfl rfl (gF (d0 := 52) rfl rfl rfl (pv (r_pkf rfl rfl rfl) (pv (r_zb rfl) (nil (t_thenR [(2, .bool false)] ⟨rfl, trivial⟩ fun J => ?_))))))))))))
            have hm := Option.some.inj hm
            subst hm
            exact rtn (ret1 rfl rfl ⟨_, rfl, _, (Im.trans im2 (Im.trans im3 (Im.trans im4 (Im.trans im5 (Im.trans im6 (Im.trans im7 (Im.trans im10 (Im.trans im11 im12)))))))), ⟨rfl, hS12.sel [0] rfl, trivial⟩⟩)
        · have hm := cfalse hb6 hm
          refine gF (d0 := 42) rfl rfl (by rw [hb6]; rfl) (gF (d0 := 42) rfl rfl (by rw [hb6]; rfl) (gF (d0 := 42) rfl rfl (by rw [hb6]; rfl) (gF (d0 := 42) rfl rfl (by rw [hb6]; rfl) (pv (r_pkf rfl hb6 rfl) (pv (r_mb rfl) (gF (d0 := 48) rfl rfl rfl (gF (d0 := 48) rfl rfl rfl (pv (r_pkf rfl rfl rfl) (pv (r_mb rfl) (gF (d0 := 52) rfl rfl rfl (gF (d0 := 52) rfl rfl rfl (gF (d0 := 52) rfl rfl rfl (gF (d0 := 52) rfl rfl rfl (gF (d0 := 52) rfl rfl rfl (pv (r_pkf rfl rfl rfl) (pv (r_zb rfl) (nil (t_thenR [(2, .bool false)] ⟨rfl, trivial⟩ fun J => ?_))))))))))))))))))
          have hm := Option.some.inj hm
          subst hm
          exact rtn (ret1 rfl rfl ⟨_, rfl, _, (Im.trans im2 (Im.trans im3 (Im.trans im4 (Im.trans im5 (Im.trans im6 (Im.trans im7 (Im.trans im10 im11))))))), ⟨rfl, hS11.sel [2] rfl, trivial⟩⟩)
      · have hm := cfalse hb5 hm
        refine gF (d0 := 38) rfl rfl (by rw [hb5]; rfl) (gF (d0 := 38) rfl rfl (by rw [hb5]; rfl) (pv (r_pkf rfl hb5 rfl) (pv (r_mb rfl) (gF (d0 := 42) rfl rfl rfl (gF (d0 := 42) rfl rfl rfl (gF (d0 := 42) rfl rfl rfl (gF (d0 := 42) rfl rfl rfl (pv (r_pkf rfl rfl rfl) (pv (r_mb rfl) (gF (d0 := 48) rfl rfl rfl (gF (d0 := 48) rfl rfl rfl (pv (r_pkf rfl rfl rfl) (pv (r_mb rfl) (gF (d0 := 52) rfl rfl rfl (gF (d0 := 52) rfl rfl rfl (gF (d0 := 52) rfl rfl rfl (gF (d0 := 52) rfl rfl rfl (gF (d0 := 52) rfl rfl rfl (pv (r_pkf rfl rfl rfl) (pv (r_zb rfl) (nil (t_thenR [(2, .bool false)] ⟨rfl, trivial⟩ fun J => ?_))))))))))))))))))))))
        have hm := Option.some.inj hm
        subst hm
        exact rtn (ret1 rfl rfl ⟨_, rfl, _, (Im.trans im2 (Im.trans im3 (Im.trans im4 (Im.trans im5 (Im.trans im6 (Im.trans im7 (Im.trans im10 im11))))))), ⟨rfl, hS11.sel [2] rfl, trivial⟩⟩)

set_option maxRecDepth 100000 in
set_option maxHeartbeats 1000000 in
theorem law32_PackCuts_sim {g : World} {T0 : Nat → Prop} {w0 : World} {R : Assn} {p0 : GImage} {a1 : Option Addr} {c1 : Nat} {a2 : Option Addr} {c2 : Nat} {p1 : Int} {p2 : Int} {r : Bool} (hS : Sep g T0 w0 [R]) (h1 : SlR (rInt .u32) T0 w0 (.slice a1 (List.length p0.Code) c1) p0.Code) (h2 : SlR (rInt .u8) T0 w0 (.slice a2 (List.length p0.Data) c2) p0.Data) (hm : law32_PackCuts p0 p1 p2 = some r) :
    Calls Try.prog 5 #[.agg #[.slice a1 (List.length p0.Code) c1, .slice a2 (List.length p0.Data) c2, .int .i64 p0.Limit, .int .i64 p0.Notes], .int .i64 p1, .int .u8 p2] w0 (RetS T0 w0 fun T w v => v = .bool r ∧ Sep g T w [R] ∧ True) := by
  refine enter (args := [.agg #[.slice a1 (List.length p0.Code) c1, .slice a2 (List.length p0.Data) c2, .int .i64 p0.Limit, .int .i64 p0.Notes], .int .i64 p1, .int .u8 p2]) Try.func5 rfl Try.ntmps5 rfl fun J => ?_
  unfold law32_PackCuts at hm
  refine sq2 ?_
  refine rg (wl rfl (bxS (cs := [.slice a1 (List.length p0.Code) c1, .slice a2 (List.length p0.Data) c2, .int .i64 p0.Limit, .int .i64 p0.Notes]) rfl rfl hS fun w1 b1 im1 hS1 => ?_))
  refine pv (r_zb rfl) (nil (t_then ?_))
  refine sq2 ?_
  refine sq2 ?_
  obtain ⟨y1, hx1, hm⟩ := bindS hm
  refine rg (pv (r_ldS rfl Try.isAgg25 Try.sizeOf25 rfl (hS1.cells0 (i := 0) ⟨rfl, rfl⟩ (o := 0) rfl) (cs := [.slice a1 (List.length p0.Code) c1, .slice a2 (List.length p0.Data) c2, .int .i64 p0.Limit, .int .i64 p0.Notes])) (wl rfl (calS cf6 rfl (law32_few_sim (p0 := p0) (hS1.bun [0, 1] [] rfl) (h1.mono im1) (h2.mono im1) hx1) rfl fun v1 T1 w2 im2 rv1 => ?_)))
  obtain ⟨rfl, hS2, _⟩ := rv1
  have hS2 : Sep g T1 w2 [boxA b1 [.slice a1 (List.length p0.Code) c1, .slice a2 (List.length p0.Data) c2, .int .i64 p0.Limit, .int .i64 p0.Notes], R] := hS2.unb
  refine pv (r_nt rfl) (pv (r_mb rfl) (?_))
  rcases Bool.eq_false_or_eq_true (!y1) with hb1 | hb1
  · have hm := ctrue hb1 hm
    refine gF (d0 := 18) rfl rfl (by rw [hb1]; rfl) (gF (d0 := 18) rfl rfl (by rw [hb1]; rfl) (gF (d0 := 18) rfl rfl (by rw [hb1]; rfl) (pv (r_pkt rfl hb1 rfl) (nil (t_thenR [(1, .int .i64 p1), (2, .int .u8 p2), (3, .pointer (some ⟨b1, 0, none⟩)), (22, .bool true)] ⟨rfl, rfl, rfl, rfl, trivial⟩ fun J => ?_)))))
    refine cnd (b := true) rfl (fun _ => ?_) (fun h => nomatch h)
    refine sq2 ?_
    obtain ⟨y8, hx9, hm⟩ := bindS hm
    refine rg (wl rfl (calS cf7 rfl (law32_awake_sim  (hS2.bun [1] [] rfl)  hx9) rfl fun v8 T10 w17 im19 rv8 => ?_))
    obtain ⟨rfl, hS19, _⟩ := rv8
    have hS19 : Sep g T10 w17 [R] := hS19.unb
    refine pv (r_zb rfl) (nil (t_thenR [(6, .bool y8)] ⟨rfl, trivial⟩ fun J => ?_))
    have hm := Option.some.inj hm
    subst hm
    exact rtn (r_then (ret1 rfl rfl ⟨_, rfl, _, (Im.trans im1 (Im.trans im2 im19)), ⟨rfl, hS19.sel [0] rfl, trivial⟩⟩))
  · have hm := cfalse hb1 hm
    obtain ⟨y2, hx2, hm⟩ := bindS hm
    refine gT (d0 := 18) rfl rfl hb1 (pv (r_ldS rfl Try.isAgg25 Try.sizeOf25 rfl (hS2.cells0 (i := 0) ⟨rfl, rfl⟩ (o := 0) rfl) (cs := [.slice a1 (List.length p0.Code) c1, .slice a2 (List.length p0.Data) c2, .int .i64 p0.Limit, .int .i64 p0.Notes])) (gT (d0 := 18) rfl rfl hb1 (wl rfl (calS cf9 rfl (ref32_Right_sim (p0 := p0) (hS2.bun [0, 1] [] rfl) (h1.mono (Im.trans im1 im2)) (h2.mono (Im.trans im1 im2)) hx2) rfl fun v2 T2 w3 im3 rv2 => ?_))))
    obtain ⟨rfl, hS3, _⟩ := rv2
    have hS3 : Sep g T2 w3 [boxA b1 [.slice a1 (List.length p0.Code) c1, .slice a2 (List.length p0.Data) c2, .int .i64 p0.Limit, .int .i64 p0.Notes], R] := hS3.unb
    refine gT (d0 := 18) rfl rfl hb1 (pv (r_nt rfl) (pv (r_pkf rfl hb1 rfl) (nil (t_thenR [(1, .int .i64 p1), (2, .int .u8 p2), (3, .pointer (some ⟨b1, 0, none⟩)), (22, .bool (!y2))] ⟨rfl, rfl, rfl, rfl, trivial⟩ fun J => ?_))))
    refine cnd rfl (fun hb2 => ?_) (fun hb2 => ?_)
    · have hm := ctrue hb2 hm
      refine sq2 ?_
      obtain ⟨y3, hx3, hm⟩ := bindS hm
      refine rg (wl rfl (calS cf7 rfl (law32_awake_sim  (hS3.bun [1] [] rfl)  hx3) rfl fun v3 T3 w4 im4 rv3 => ?_))
      obtain ⟨rfl, hS4, _⟩ := rv3
      have hS4 : Sep g T3 w4 [R] := hS4.unb
      refine pv (r_zb rfl) (nil (t_thenR [(6, .bool y3)] ⟨rfl, trivial⟩ fun J => ?_))
      have hm := Option.some.inj hm
      subst hm
      exact rtn (r_then (ret1 rfl rfl ⟨_, rfl, _, (Im.trans im1 (Im.trans im2 (Im.trans im3 im4))), ⟨rfl, hS4.sel [0] rfl, trivial⟩⟩))
    · have hm := cfalse hb2 hm
      refine skp (t_then ?_)
      refine sq2 ?_
      obtain ⟨y4, hx4, hm⟩ := bindS hm
      refine rg (pv (r_ldS rfl Try.isAgg25 Try.sizeOf25 rfl (hS3.cells0 (i := 0) ⟨rfl, rfl⟩ (o := 0) rfl) (cs := [.slice a1 (List.length p0.Code) c1, .slice a2 (List.length p0.Data) c2, .int .i64 p0.Limit, .int .i64 p0.Notes])) (wl rfl (calS cf8 rfl (pack_Encode_sim (p0 := p0) (hS3.bun [1] [] rfl) (h1.mono (Im.trans im1 (Im.trans im2 im3))) (h2.mono (Im.trans im1 (Im.trans im2 im3))) hx4) rfl fun v4 T4 w5 im5 rv4 => ?_)))
      obtain ⟨a3, n1, c3, rfl, hS5, _⟩ := rv4
      have hS5 : Sep g T4 w5 [R, ownA (rInt .u8) 5 (.slice a3 n1 c3) y4.1] := hS5.unb
      refine pv (r_mv rfl) (pv (r_ex (v := .slice a3 n1 c3) rfl rfl) (pv (r_ex (v := .int .i64 y4.2) rfl rfl) (pv (r_zs rfl) (pv (r_zi rfl) (nil (t_thenR [(1, .int .i64 p1), (2, .int .u8 p2), (7, .slice a3 n1 c3), (8, .int .i64 y4.2)] ⟨rfl, rfl, rfl, rfl, trivial⟩ fun J => ?_))))))
      refine sq2 ?_
      refine sq2 ?_
      refine rg (pv (r_mi rfl) (pv (r_ib rfl rfl rfl) (pv (r_mb rfl) (?_))))
      rcases Bool.eq_false_or_eq_true (y4.2 != 0) with hb3 | hb3
      · have hm := ctrue hb3 hm
        refine gF (d0 := 31) rfl rfl (by rw [hb3]; rfl) (gF (d0 := 31) rfl rfl (by rw [hb3]; rfl) (gF (d0 := 31) rfl rfl (by rw [hb3]; rfl) (pv (r_pkt rfl hb3 rfl) (nil (t_thenR [(1, .int .i64 p1), (2, .int .u8 p2), (7, .slice a3 n1 c3), (35, .bool true)] ⟨rfl, rfl, rfl, rfl, trivial⟩ fun J => ?_)))))
        refine cnd (b := true) rfl (fun _ => ?_) (fun h => nomatch h)
        refine sq2 ?_
        refine rg (pv (r_zb rfl) (nil (t_then ?_)))
        have hm := Option.some.inj hm
        subst hm
        exact rtn (r_then (ret1 rfl rfl ⟨_, rfl, _, (Im.trans im1 (Im.trans im2 (Im.trans im3 im5))), ⟨rfl, hS5.sel [0] rfl, trivial⟩⟩))
      · have hm := cfalse hb3 hm
        refine gT (d0 := 31) rfl rfl hb3 (pv (r_ms rfl) (gT (d0 := 31) rfl rfl hb3 (pv (r_lnV rfl (hS5.own (i := 1) ⟨rfl, rfl⟩).v Try.underlying23) (gT (d0 := 31) rfl rfl hb3 (pv (r_ib rfl rfl rfl) (pv (r_pkf rfl hb3 rfl) (nil (t_thenR [(1, .int .i64 p1), (2, .int .u8 p2), (7, .slice a3 n1 c3), (35, .bool ((List.length y4.1 : Int) == 0))] ⟨rfl, rfl, rfl, rfl, trivial⟩ fun J => ?_))))))))
        refine cnd rfl (fun hb4 => ?_) (fun hb4 => ?_)
        · have hm := ctrue hb4 hm
          refine sq2 ?_
          refine rg (pv (r_zb rfl) (nil (t_then ?_)))
          have hm := Option.some.inj hm
          subst hm
          exact rtn (r_then (ret1 rfl rfl ⟨_, rfl, _, (Im.trans im1 (Im.trans im2 (Im.trans im3 im5))), ⟨rfl, hS5.sel [0] rfl, trivial⟩⟩))
        · have hm := cfalse hb4 hm
          refine skp (t_then ?_)
          refine sq2 ?_
          obtain ⟨_, hz1, hm⟩ := bindS hm
          have hz1 := nz_some hz1
          obtain ⟨_, hz2, hm⟩ := bindS hm
          have hz2 := nz_some hz2
          refine rg (pv (r_mi rfl) (pv (r_ms rfl) (pv (r_lnV rfl (hS5.own (i := 1) ⟨rfl, rfl⟩).v Try.underlying23) (pv (r_irm rfl rfl hz1) (pv (r_ms rfl) (pv (r_lnV rfl (hS5.own (i := 1) ⟨rfl, rfl⟩).v Try.underlying23) (pv (r_ib rfl rfl rfl) (pv (r_ms rfl) (pv (r_lnV rfl (hS5.own (i := 1) ⟨rfl, rfl⟩).v Try.underlying23) (pv (r_irm rfl rfl hz2) (pv (r_zi rfl) (nil (t_thenR [(2, .int .u8 p2), (7, .slice a3 n1 c3), (9, .int .i64 (Int.tmod (IntKind.wrap .i64 ((Int.tmod p1 (List.length y4.1 : Int)) + (List.length y4.1 : Int))) (List.length y4.1 : Int)))] ⟨rfl, rfl, rfl, trivial⟩ fun J => ?_)))))))))))))
          refine sq2 ?_
          refine rg (pv (r_ms rfl) (pv (r_mi rfl) (?_)))
          obtain ⟨T5, im6, hS6, h3⟩ := hS5.seal 1 ⟨rfl, rfl⟩
          have hsh := h3.len
          subst hsh
          have hS6 : Sep g T5 w5 [R, empA] := hS6
          obtain ⟨u1, hx5, hm⟩ := bindS hm
          obtain ⟨a4, c4, he1, h4⟩ := h3.part hx5
          obtain ⟨y5, hx6, hm⟩ := bindS hm
          refine pv (r_slR rfl h3 rfl ⟨_, rfl⟩ hx5 Try.underlying23 Try.sizeOf5 rfl he1) (wl rfl (calS cf10 rfl (pack_Decode_sim (p0 := u1) (hS6.bun [0] [] rfl) h4 hx6) rfl fun v5 T6 w6 im7 rv5 => ?_))
          obtain ⟨a5, c5, a6, c6, rfl, hS7, h5, h6, _⟩ := rv5
          have hS7 : Sep g T6 w6 [R] := hS7.unb
          refine pv (r_mv rfl) (pv (r_ex (v := .agg #[.slice a5 (List.length y5.1.Code) c5, .slice a6 (List.length y5.1.Data) c6, .int .i64 y5.1.Limit, .int .i64 y5.1.Notes]) rfl rfl) (pv (r_ex (v := .int .i64 y5.2) rfl rfl) (wl rfl (alS (zs := [.slice none 0 0, .slice none 0 0, .int .i64 0, .int .i64 0]) Try.zeroValue25 rfl hS7 fun w7 b2 im8 hS8 => ?_))))
          refine wl rfl (st0B (q := 0) hS8 ⟨rfl, rfl⟩ rfl rfl rfl Try.sizeOf25 rfl rfl rfl fun w8 im9 hS9 => ?_)
          have hS9 : Sep g T6 w8 [boxA b2 [.slice a5 (List.length y5.1.Code) c5, .slice a6 (List.length y5.1.Data) c6, .int .i64 y5.1.Limit, .int .i64 y5.1.Notes], R] := hS9
          refine pv (r_zi rfl) (nil (t_thenR [(2, .int .u8 p2), (7, .slice a3 (List.length y4.1) c3), (11, .int .i64 y5.2)] ⟨rfl, rfl, rfl, trivial⟩ fun J => ?_))
          refine sq2 ?_
          refine rg (wl rfl (bs0S (rInt .u8) hS9 Try.underlying23 Try.sizeOf5 fun w9 a7 n2 c7 im10 hS10 => ?_))
          obtain ⟨z_1, hro1, hm⟩ := bindS hm
          refine pv (r_ms rfl) (wl rfl (apO (q := 0) (l := ([] : List Int)) (us := y4.1) hS10 ⟨rfl, rfl⟩ rfl rfl (h3.mono (Im.trans im7 (Im.trans im8 (Im.trans im9 im10)))).v Try.underlying23 el5 (room_some hro1) fun w10 a8 n3 c8 im11 hS11 => ?_))
          have hS11 : Sep g T6 w10 [ownA (rInt .u8) 5 (.slice a8 n3 c8) (([] : List Int) ++ y4.1), boxA b2 [.slice a5 (List.length y5.1.Code) c5, .slice a6 (List.length y5.1.Data) c6, .int .i64 y5.1.Limit, .int .i64 y5.1.Notes], R] := hS11
          refine pv (r_zs rfl) (nil (t_then ?_))
          refine sq2 ?_
          refine rg (pv (r_ms rfl) (pv (r_mi rfl) (wl rfl (bsS (r := (rInt .u8)) (l := ([p2] : List Int)) (css := [[.int .u8 p2]]) hS11 Try.underlying23 Try.sizeOf5 Try.zeroValue5 rfl rfl (by kernel_rfl) rfl ⟨rfl, trivial⟩ rfl rfl fun w11 a9 n4 c9 im12 hS12 => ?_))))
          obtain ⟨z_2, hro2, hm⟩ := bindS hm
          refine wl rfl (apO (q := 1) (l := ([] : List Int) ++ y4.1) (us := ([p2] : List Int)) hS12 ⟨rfl, rfl⟩ rfl rfl (hS12.own (i := 0) ⟨rfl, rfl⟩).v Try.underlying23 el5 (room_some hro2) fun w12 a10 n5 c10 im13 hS13 => ?_)
          have hS13 : Sep g T6 w12 [ownA (rInt .u8) 5 (.slice a9 n4 c9) ([p2] : List Int), ownA (rInt .u8) 5 (.slice a10 n5 c10) ((([] : List Int) ++ y4.1) ++ ([p2] : List Int)), boxA b2 [.slice a5 (List.length y5.1.Code) c5, .slice a6 (List.length y5.1.Data) c6, .int .i64 y5.1.Limit, .int .i64 y5.1.Notes], R] := hS13
          obtain ⟨T7, im14, hS14, h7⟩ := hS13.seal 1 ⟨rfl, rfl⟩
          have hsh := h7.len
          subst hsh
          have hS14 : Sep g T7 w12 [ownA (rInt .u8) 5 (.slice a9 n4 c9) ([p2] : List Int), empA, boxA b2 [.slice a5 (List.length y5.1.Code) c5, .slice a6 (List.length y5.1.Data) c6, .int .i64 y5.1.Limit, .int .i64 y5.1.Notes], R] := hS14
          obtain ⟨y6, hx7, hm⟩ := bindS hm
          refine wl rfl (calS cf10 rfl (pack_Decode_sim (p0 := (([] : List Int) ++ y4.1) ++ ([p2] : List Int)) (hS14.bun [3] [] rfl) h7 hx7) rfl fun v6 T8 w13 im15 rv6 => ?_)
          obtain ⟨a11, c11, a12, c12, rfl, hS15, h8, h9, _⟩ := rv6
          have hS15 : Sep g T8 w13 [R] := hS15.unb
          refine pv (r_mv rfl) (pv (r_ex (v := .agg #[.slice a11 (List.length y6.1.Code) c11, .slice a12 (List.length y6.1.Data) c12, .int .i64 y6.1.Limit, .int .i64 y6.1.Notes]) rfl rfl) (pv (r_ex (v := .int .i64 y6.2) rfl rfl) (wl rfl (alS (zs := [.slice none 0 0, .slice none 0 0, .int .i64 0, .int .i64 0]) Try.zeroValue25 rfl hS15 fun w14 b3 im16 hS16 => ?_))))
          refine wl rfl (st0B (q := 0) hS16 ⟨rfl, rfl⟩ rfl rfl rfl Try.sizeOf25 rfl rfl rfl fun w15 im17 hS17 => ?_)
          have hS17 : Sep g T8 w15 [boxA b3 [.slice a11 (List.length y6.1.Code) c11, .slice a12 (List.length y6.1.Data) c12, .int .i64 y6.1.Limit, .int .i64 y6.1.Notes], R] := hS17
          refine pv (r_zi rfl) (nil (t_thenR [(11, .int .i64 y5.2), (14, .int .i64 y6.2)] ⟨rfl, rfl, trivial⟩ fun J => ?_))
          refine sq2 ?_
          obtain ⟨y7, hx8, hm⟩ := bindS hm
          refine rg (wl rfl (calS cf7 rfl (law32_awake_sim  (hS17.bun [1] [] rfl)  hx8) rfl fun v7 T9 w16 im18 rv7 => ?_))
          obtain ⟨rfl, hS18, _⟩ := rv7
          have hS18 : Sep g T9 w16 [R] := hS18.unb
          refine pv (r_mb rfl) (?_)
          rcases Bool.eq_false_or_eq_true y7 with hb5 | hb5
          · have hm := ctrue hb5 hm
            refine gT (d0 := 65) rfl rfl hb5 (pv (r_mi rfl) (gT (d0 := 65) rfl rfl hb5 (pv (r_ib rfl rfl rfl) (pv (r_pkt rfl hb5 rfl) (pv (r_mb rfl) (?_))))))
            rcases Bool.eq_false_or_eq_true (y5.2 == 3) with hb6 | hb6
            · have hm := ctrue hb6 hm
              refine gT (d0 := 69) rfl rfl hb6 (pv (r_mi rfl) (gT (d0 := 69) rfl rfl hb6 (pv (r_ib rfl rfl rfl) (pv (r_pkt rfl hb6 rfl) (pv (r_zb rfl) (nil (t_thenR [(6, .bool (y6.2 == 3))] ⟨rfl, trivial⟩ fun J => ?_)))))))
              have hm := Option.some.inj hm
              subst hm
              exact rtn (ret1 rfl rfl ⟨_, rfl, _, (Im.trans im1 (Im.trans im2 (Im.trans im3 (Im.trans im5 (Im.trans im6 (Im.trans im7 (Im.trans im8 (Im.trans im9 (Im.trans im10 (Im.trans im11 (Im.trans im12 (Im.trans im13 (Im.trans im14 (Im.trans im15 (Im.trans im16 (Im.trans im17 im18)))))))))))))))), ⟨rfl, hS18.sel [0] rfl, trivial⟩⟩)
            · have hm := cfalse hb6 hm
              refine gF (d0 := 69) rfl rfl (by rw [hb6]; rfl) (gF (d0 := 69) rfl rfl (by rw [hb6]; rfl) (pv (r_pkf rfl hb6 rfl) (pv (r_zb rfl) (nil (t_thenR [(6, .bool false)] ⟨rfl, trivial⟩ fun J => ?_)))))
              have hm := Option.some.inj hm
              subst hm
              exact rtn (ret1 rfl rfl ⟨_, rfl, _, (Im.trans im1 (Im.trans im2 (Im.trans im3 (Im.trans im5 (Im.trans im6 (Im.trans im7 (Im.trans im8 (Im.trans im9 (Im.trans im10 (Im.trans im11 (Im.trans im12 (Im.trans im13 (Im.trans im14 (Im.trans im15 (Im.trans im16 (Im.trans im17 im18)))))))))))))))), ⟨rfl, hS18.sel [0] rfl, trivial⟩⟩)
          · have hm := cfalse hb5 hm
            refine gF (d0 := 65) rfl rfl (by rw [hb5]; rfl) (gF (d0 := 65) rfl rfl (by rw [hb5]; rfl) (pv (r_pkf rfl hb5 rfl) (pv (r_mb rfl) (gF (d0 := 69) rfl rfl rfl (gF (d0 := 69) rfl rfl rfl (pv (r_pkf rfl rfl rfl) (pv (r_zb rfl) (nil (t_thenR [(6, .bool false)] ⟨rfl, trivial⟩ fun J => ?_)))))))))
            have hm := Option.some.inj hm
            subst hm
            exact rtn (ret1 rfl rfl ⟨_, rfl, _, (Im.trans im1 (Im.trans im2 (Im.trans im3 (Im.trans im5 (Im.trans im6 (Im.trans im7 (Im.trans im8 (Im.trans im9 (Im.trans im10 (Im.trans im11 (Im.trans im12 (Im.trans im13 (Im.trans im14 (Im.trans im15 (Im.trans im16 (Im.trans im17 im18)))))))))))))))), ⟨rfl, hS18.sel [0] rfl, trivial⟩⟩)
end Go.Proofs.Ytbbppcogjdmmiaa
