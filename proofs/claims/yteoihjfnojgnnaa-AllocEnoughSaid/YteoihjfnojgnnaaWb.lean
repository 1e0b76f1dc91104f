/- That Go functions compute their models. Printed by gen2.py. -/
import Derived.Test.YteoihjfnojgnnaaWa
set_option linter.unusedVariables false
namespace Go.Proofs.Yteoihjfnojgnnaa
attribute [local irreducible] wpList wpQuiet Code.wp

set_option maxRecDepth 100000 in
set_option maxHeartbeats 1000000 in
theorem ir_looker_proc_sim {g : World} {T0 : Nat → Prop} {w0 : World} {R : Assn} {p0 : IrLooker} {a1 : Option Addr} {c1 : Nat} {a2 : Option Addr} {c2 : Nat} {a3 : Option Addr} {c3 : Nat} {a4 : Option Addr} {c4 : Nat} {a5 : Option Addr} {c5 : Nat} {r : Bool} (hS : Sep g T0 w0 [R]) (h1 : SlR rGSlot T0 w0 (.slice a1 (List.length p0.m.Globals) c1) p0.m.Globals) (h2 : SlR (rSl (rInt .u8)) T0 w0 (.slice a2 (List.length p0.m.Data) c2) p0.m.Data) (h3 : SlR rProc T0 w0 (.slice a3 (List.length p0.m.Procs) c3) p0.m.Procs) (h4 : SlR rGSlot T0 w0 (.slice a4 (List.length p0.p.Objects) c4) p0.p.Objects) (h5 : SlR rGBlock T0 w0 (.slice a5 (List.length p0.p.Blocks) c5) p0.p.Blocks) (hm : ir_looker_proc p0 = some r) :
    Calls Try.prog 66 #[.agg #[.slice a1 (List.length p0.m.Globals) c1, .slice a2 (List.length p0.m.Data) c2, .slice a3 (List.length p0.m.Procs) c3, .int .i64 p0.m.Main, .string ⟨p0.p.Name.toArray⟩, .bool p0.p.Void, .int .i64 p0.p.Params, .int .i64 p0.p.Regs, .slice a4 (List.length p0.p.Objects) c4, .slice a5 (List.length p0.p.Blocks) c5]] w0 (RetS T0 w0 fun T w v => v = .bool r ∧ Sep g T w [R] ∧ True) := by
  refine enter (args := [.agg #[.slice a1 (List.length p0.m.Globals) c1, .slice a2 (List.length p0.m.Data) c2, .slice a3 (List.length p0.m.Procs) c3, .int .i64 p0.m.Main, .string ⟨p0.p.Name.toArray⟩, .bool p0.p.Void, .int .i64 p0.p.Params, .int .i64 p0.p.Regs, .slice a4 (List.length p0.p.Objects) c4, .slice a5 (List.length p0.p.Blocks) c5]]) Try.func66 rfl Try.ntmps66 rfl fun J => ?_
  unfold ir_looker_proc at hm
  refine sq2 ?_
  refine rg (wl rfl (bxS (cs := [.slice a1 (List.length p0.m.Globals) c1, .slice a2 (List.length p0.m.Data) c2, .slice a3 (List.length p0.m.Procs) c3, .int .i64 p0.m.Main, .string ⟨p0.p.Name.toArray⟩, .bool p0.p.Void, .int .i64 p0.p.Params, .int .i64 p0.p.Regs, .slice a4 (List.length p0.p.Objects) c4, .slice a5 (List.length p0.p.Blocks) c5]) rfl rfl hS fun w1 b1 im1 hS1 => ?_))
  refine pv (r_zb rfl) (nil (t_then ?_))
  refine sq2 ?_
  refine rg (pv (r_fa rfl Try.underlying123 rfl Try.sizeOf31 rfl) (pv (r_ldS rfl Try.isAgg31 Try.sizeOf31 rfl (hS1.cells0 (i := 0) ⟨rfl, rfl⟩ (o := 4) rfl) (cs := [.string ⟨p0.p.Name.toArray⟩, .bool p0.p.Void, .int .i64 p0.p.Params, .int .i64 p0.p.Regs, .slice a4 (List.length p0.p.Objects) c4, .slice a5 (List.length p0.p.Blocks) c5])) (wl rfl (alS (zs := [.string ⟨([] : List UInt8).toArray⟩, .bool false, .int .i64 0, .int .i64 0, .slice none 0 0, .slice none 0 0]) Try.zeroValue31 rfl hS1 fun w2 b2 im2 hS2 => ?_))))
  refine wl rfl (st0B (q := 0) hS2 ⟨rfl, rfl⟩ rfl rfl rfl Try.sizeOf31 rfl rfl rfl fun w3 im3 hS3 => ?_)
  have hS3 : Sep g T0 w3 [boxA b2 [.string ⟨p0.p.Name.toArray⟩, .bool p0.p.Void, .int .i64 p0.p.Params, .int .i64 p0.p.Regs, .slice a4 (List.length p0.p.Objects) c4, .slice a5 (List.length p0.p.Blocks) c5], boxA b1 [.slice a1 (List.length p0.m.Globals) c1, .slice a2 (List.length p0.m.Data) c2, .slice a3 (List.length p0.m.Procs) c3, .int .i64 p0.m.Main, .string ⟨p0.p.Name.toArray⟩, .bool p0.p.Void, .int .i64 p0.p.Params, .int .i64 p0.p.Regs, .slice a4 (List.length p0.p.Objects) c4, .slice a5 (List.length p0.p.Blocks) c5], R] := hS3
  refine nil (t_then ?_)
  refine sq2 ?_
  refine sq2 ?_
  refine rs [0, 1, 0, 0, 0, 1, 0, 0, 0, 0, 1, 0, 1, 0, 0, 0, 0, 1, 0, 0, 0, 0, 1, 0, 0, 0, 0, 0, 1, 0, 0, 0, 0, 0, 1, 0, 0, 0, 0, 0, 1, 2, 0, 0, 0, 1, 2, 0, 1, 0, 0, 0, 0] [0, 1, 2, 3, 4, 5, 6, 7, 8, 9, 10, 11, 12, 13, 14, 15, 16, 17, 18, 19, 20, 21, 22, 23, 24, 25, 26, 27, 28, 29, 30, 31, 32, 33, 34, 35, 36, 37, 38, 39, 40, 41, 42, 43, 44, 45, 47, 48, 49, 46, 50, 51, 52] mix (by kernel_rfl) hS3.lt fun w4 i1 => ?_
  have im4 := i1.imm
  have hS4 := hS3.keep i1 (fun _ h => h)
  refine s0 rfl trivial (fun _ => r_fa rfl Try.underlying31 rfl Try.sizeOf3 rfl) rfl (s1 rfl trivial (r_ld rfl Try.isAgg3 (hS4.cell0 (i := 0) ⟨rfl, rfl⟩ (j := 2) rfl)) rfl (s0 rfl trivial (fun _ => r_ib rfl rfl rfl) rfl (s0 rfl trivial (fun _ => r_mb rfl) rfl (?_))))
  rcases Bool.eq_false_or_eq_true (decide (p0.p.Params < 0)) with hb1 | hb1
  · have hm := ctrue hb1 hm
    refine sU rfl ⟨_, rfl, .inl (congrArg Value.bool hb1)⟩ (sU rfl ⟨_, rfl, .inl (congrArg Value.bool hb1)⟩ (sU rfl ⟨_, rfl, .inl (congrArg Value.bool hb1)⟩ (s0 rfl trivial (fun _ => r_pkt rfl hb1 rfl) rfl (s0 rfl trivial (fun _ => r_mb rfl) rfl (sU rfl ⟨_, rfl, .inl (congrArg Value.bool rfl)⟩ (sU rfl ⟨_, rfl, .inl (congrArg Value.bool rfl)⟩ (sU rfl ⟨_, rfl, .inl (congrArg Value.bool rfl)⟩ (sU rfl ⟨_, rfl, .inl (congrArg Value.bool rfl)⟩ (sU rfl ⟨_, rfl, .inl (congrArg Value.bool rfl)⟩ (s0 rfl trivial (fun _ => r_pkt rfl rfl rfl) rfl (s0 rfl trivial (fun _ => r_mb rfl) rfl (sU rfl ⟨_, rfl, .inl (congrArg Value.bool rfl)⟩ (sU rfl ⟨_, rfl, .inl (congrArg Value.bool rfl)⟩ (sU rfl ⟨_, rfl, .inl (congrArg Value.bool rfl)⟩ (s0 rfl trivial (fun _ => r_pkt rfl rfl rfl) rfl (s0 rfl trivial (fun _ => r_mb rfl) rfl (sU rfl ⟨_, rfl, .inl (congrArg Value.bool rfl)⟩ (sU rfl ⟨_, rfl, .inl (congrArg Value.bool rfl)⟩ (sU rfl ⟨_, rfl, .inl (congrArg Value.bool rfl)⟩ (sU rfl ⟨_, rfl, .inl (congrArg Value.bool rfl)⟩ (s0 rfl trivial (fun _ => r_pkt rfl rfl rfl) rfl (s0 rfl trivial (fun _ => r_mb rfl) rfl (sU rfl ⟨_, rfl, .inl (congrArg Value.bool rfl)⟩ (sU rfl ⟨_, rfl, .inl (congrArg Value.bool rfl)⟩ (sU rfl ⟨_, rfl, .inl (congrArg Value.bool rfl)⟩ (sU rfl ⟨_, rfl, .inl (congrArg Value.bool rfl)⟩ (s0 rfl trivial (fun _ => r_pkt rfl rfl rfl) rfl (s0 rfl trivial (fun _ => r_mb rfl) rfl (sU rfl ⟨_, rfl, .inl (congrArg Value.bool rfl)⟩ (sU rfl ⟨_, rfl, .inl (congrArg Value.bool rfl)⟩ (sU rfl ⟨_, rfl, .inl (congrArg Value.bool rfl)⟩ (sU rfl ⟨_, rfl, .inl (congrArg Value.bool rfl)⟩ (s0 rfl trivial (fun _ => r_pkt rfl rfl rfl) rfl (s0 rfl trivial (fun _ => r_mb rfl) rfl (sU rfl ⟨_, rfl, .inl (congrArg Value.bool rfl)⟩ (sU rfl ⟨_, rfl, .inl (congrArg Value.bool rfl)⟩ (sU rfl ⟨_, rfl, .inl (congrArg Value.bool rfl)⟩ (sU rfl ⟨_, rfl, .inl (congrArg Value.bool rfl)⟩ (s0 rfl trivial (fun _ => r_pkt rfl rfl rfl) rfl (s0 rfl trivial (fun _ => r_mb rfl) rfl (sU rfl ⟨_, rfl, .inl (congrArg Value.bool rfl)⟩ (sU rfl ⟨_, rfl, .inl (congrArg Value.bool rfl)⟩ (sU rfl ⟨_, rfl, .inl (congrArg Value.bool rfl)⟩ (sU rfl ⟨_, rfl, .inl (congrArg Value.bool rfl)⟩ (sU rfl ⟨_, rfl, .inl (congrArg Value.bool rfl)⟩ (sU rfl ⟨_, rfl, .inl (congrArg Value.bool rfl)⟩ (sU rfl ⟨_, rfl, .inl (congrArg Value.bool rfl)⟩ (s0 rfl trivial (fun _ => r_pkt rfl rfl rfl) rfl (se (t_thenR [(1, .pointer (some ⟨b1, 0, none⟩)), (3, .pointer (some ⟨b2, 0, none⟩)), (62, .bool true)] ⟨rfl, rfl, rfl, trivial⟩ fun J => ?_))))))))))))))))))))))))))))))))))))))))))))))))))
    refine cnd (b := true) rfl (fun _ => ?_) (fun h => nomatch h)
    refine sq2 ?_
    refine rg (pv (r_zb rfl) (nil (t_then ?_)))
    have hm := Option.some.inj hm
    subst hm
    exact rtn (r_then (ret1 rfl rfl ⟨_, rfl, _, (Im.trans im1 (Im.trans im2 (Im.trans im3 im4))), ⟨rfl, hS4.sel [2] rfl, trivial⟩⟩))
  · have hm := cfalse hb1 hm
    refine s0 rfl ⟨_, rfl, congrArg Value.bool hb1⟩ (fun _ => r_fa rfl Try.underlying31 rfl Try.sizeOf3 rfl) rfl (s1 rfl ⟨_, rfl, congrArg Value.bool hb1⟩ (r_ld rfl Try.isAgg3 (hS4.cell0 (i := 0) ⟨rfl, rfl⟩ (j := 2) rfl)) rfl (s0 rfl ⟨_, rfl, congrArg Value.bool hb1⟩ (fun _ => r_ib rfl rfl rfl) rfl (s0 rfl trivial (fun _ => r_pkf rfl hb1 rfl) rfl (s0 rfl trivial (fun _ => r_mb rfl) rfl (?_)))))
    rcases Bool.eq_false_or_eq_true (decide (6 < p0.p.Params)) with hb2 | hb2
    · have hm := ctrue hb2 hm
      refine sU rfl ⟨_, rfl, .inl (congrArg Value.bool hb2)⟩ (sU rfl ⟨_, rfl, .inl (congrArg Value.bool hb2)⟩ (sU rfl ⟨_, rfl, .inl (congrArg Value.bool hb2)⟩ (sU rfl ⟨_, rfl, .inl (congrArg Value.bool hb2)⟩ (sU rfl ⟨_, rfl, .inl (congrArg Value.bool hb2)⟩ (s0 rfl trivial (fun _ => r_pkt rfl hb2 rfl) rfl (s0 rfl trivial (fun _ => r_mb rfl) rfl (sU rfl ⟨_, rfl, .inl (congrArg Value.bool rfl)⟩ (sU rfl ⟨_, rfl, .inl (congrArg Value.bool rfl)⟩ (sU rfl ⟨_, rfl, .inl (congrArg Value.bool rfl)⟩ (s0 rfl trivial (fun _ => r_pkt rfl rfl rfl) rfl (s0 rfl trivial (fun _ => r_mb rfl) rfl (sU rfl ⟨_, rfl, .inl (congrArg Value.bool rfl)⟩ (sU rfl ⟨_, rfl, .inl (congrArg Value.bool rfl)⟩ (sU rfl ⟨_, rfl, .inl (congrArg Value.bool rfl)⟩ (sU rfl ⟨_, rfl, .inl (congrArg Value.bool rfl)⟩ (s0 rfl trivial (fun _ => r_pkt rfl rfl rfl) rfl (s0 rfl trivial (fun _ => r_mb rfl) rfl (sU rfl ⟨_, rfl, .inl (congrArg Value.bool rfl)⟩ (sU rfl ⟨_, rfl, .inl (congrArg Value.bool rfl)⟩ (sU rfl ⟨_, rfl, .inl (congrArg Value.bool rfl)⟩ (sU rfl ⟨_, rfl, .inl (congrArg Value.bool rfl)⟩ (s0 rfl trivial (fun _ => r_pkt rfl rfl rfl) rfl (s0 rfl trivial (fun _ => r_mb rfl) rfl (sU rfl ⟨_, rfl, .inl (congrArg Value.bool rfl)⟩ (sU rfl ⟨_, rfl, .inl (congrArg Value.bool rfl)⟩ (sU rfl ⟨_, rfl, .inl (congrArg Value.bool rfl)⟩ (sU rfl ⟨_, rfl, .inl (congrArg Value.bool rfl)⟩ (s0 rfl trivial (fun _ => r_pkt rfl rfl rfl) rfl (s0 rfl trivial (fun _ => r_mb rfl) rfl (sU rfl ⟨_, rfl, .inl (congrArg Value.bool rfl)⟩ (sU rfl ⟨_, rfl, .inl (congrArg Value.bool rfl)⟩ (sU rfl ⟨_, rfl, .inl (congrArg Value.bool rfl)⟩ (sU rfl ⟨_, rfl, .inl (congrArg Value.bool rfl)⟩ (s0 rfl trivial (fun _ => r_pkt rfl rfl rfl) rfl (s0 rfl trivial (fun _ => r_mb rfl) rfl (sU rfl ⟨_, rfl, .inl (congrArg Value.bool rfl)⟩ (sU rfl ⟨_, rfl, .inl (congrArg Value.bool rfl)⟩ (sU rfl ⟨_, rfl, .inl (congrArg Value.bool rfl)⟩ (sU rfl ⟨_, rfl, .inl (congrArg Value.bool rfl)⟩ (sU rfl ⟨_, rfl, .inl (congrArg Value.bool rfl)⟩ (sU rfl ⟨_, rfl, .inl (congrArg Value.bool rfl)⟩ (sU rfl ⟨_, rfl, .inl (congrArg Value.bool rfl)⟩ (s0 rfl trivial (fun _ => r_pkt rfl rfl rfl) rfl (se (t_thenR [(1, .pointer (some ⟨b1, 0, none⟩)), (3, .pointer (some ⟨b2, 0, none⟩)), (62, .bool true)] ⟨rfl, rfl, rfl, trivial⟩ fun J => ?_)))))))))))))))))))))))))))))))))))))))))))))
      refine cnd (b := true) rfl (fun _ => ?_) (fun h => nomatch h)
      refine sq2 ?_
      refine rg (pv (r_zb rfl) (nil (t_then ?_)))
      have hm := Option.some.inj hm
      subst hm
      exact rtn (r_then (ret1 rfl rfl ⟨_, rfl, _, (Im.trans im1 (Im.trans im2 (Im.trans im3 im4))), ⟨rfl, hS4.sel [2] rfl, trivial⟩⟩))
    · have hm := cfalse hb2 hm
      refine s0 rfl ⟨_, rfl, congrArg Value.bool hb2⟩ (fun _ => r_fa rfl Try.underlying31 rfl Try.sizeOf3 rfl) rfl (s1 rfl ⟨_, rfl, congrArg Value.bool hb2⟩ (r_ld rfl Try.isAgg3 (hS4.cell0 (i := 0) ⟨rfl, rfl⟩ (j := 3) rfl)) rfl (s0 rfl ⟨_, rfl, congrArg Value.bool hb2⟩ (fun _ => r_fa rfl Try.underlying31 rfl Try.sizeOf3 rfl) rfl (s1 rfl ⟨_, rfl, congrArg Value.bool hb2⟩ (r_ld rfl Try.isAgg3 (hS4.cell0 (i := 0) ⟨rfl, rfl⟩ (j := 2) rfl)) rfl (s0 rfl ⟨_, rfl, congrArg Value.bool hb2⟩ (fun _ => r_ib rfl rfl rfl) rfl (s0 rfl trivial (fun _ => r_pkf rfl hb2 rfl) rfl (s0 rfl trivial (fun _ => r_mb rfl) rfl (?_)))))))
      rcases Bool.eq_false_or_eq_true (decide (p0.p.Regs < p0.p.Params)) with hb3 | hb3
      · have hm := ctrue hb3 hm
        refine sU rfl ⟨_, rfl, .inl (congrArg Value.bool hb3)⟩ (sU rfl ⟨_, rfl, .inl (congrArg Value.bool hb3)⟩ (sU rfl ⟨_, rfl, .inl (congrArg Value.bool hb3)⟩ (s0 rfl trivial (fun _ => r_pkt rfl hb3 rfl) rfl (s0 rfl trivial (fun _ => r_mb rfl) rfl (sU rfl ⟨_, rfl, .inl (congrArg Value.bool rfl)⟩ (sU rfl ⟨_, rfl, .inl (congrArg Value.bool rfl)⟩ (sU rfl ⟨_, rfl, .inl (congrArg Value.bool rfl)⟩ (sU rfl ⟨_, rfl, .inl (congrArg Value.bool rfl)⟩ (s0 rfl trivial (fun _ => r_pkt rfl rfl rfl) rfl (s0 rfl trivial (fun _ => r_mb rfl) rfl (sU rfl ⟨_, rfl, .inl (congrArg Value.bool rfl)⟩ (sU rfl ⟨_, rfl, .inl (congrArg Value.bool rfl)⟩ (sU rfl ⟨_, rfl, .inl (congrArg Value.bool rfl)⟩ (sU rfl ⟨_, rfl, .inl (congrArg Value.bool rfl)⟩ (s0 rfl trivial (fun _ => r_pkt rfl rfl rfl) rfl (s0 rfl trivial (fun _ => r_mb rfl) rfl (sU rfl ⟨_, rfl, .inl (congrArg Value.bool rfl)⟩ (sU rfl ⟨_, rfl, .inl (congrArg Value.bool rfl)⟩ (sU rfl ⟨_, rfl, .inl (congrArg Value.bool rfl)⟩ (sU rfl ⟨_, rfl, .inl (congrArg Value.bool rfl)⟩ (s0 rfl trivial (fun _ => r_pkt rfl rfl rfl) rfl (s0 rfl trivial (fun _ => r_mb rfl) rfl (sU rfl ⟨_, rfl, .inl (congrArg Value.bool rfl)⟩ (sU rfl ⟨_, rfl, .inl (congrArg Value.bool rfl)⟩ (sU rfl ⟨_, rfl, .inl (congrArg Value.bool rfl)⟩ (sU rfl ⟨_, rfl, .inl (congrArg Value.bool rfl)⟩ (s0 rfl trivial (fun _ => r_pkt rfl rfl rfl) rfl (s0 rfl trivial (fun _ => r_mb rfl) rfl (sU rfl ⟨_, rfl, .inl (congrArg Value.bool rfl)⟩ (sU rfl ⟨_, rfl, .inl (congrArg Value.bool rfl)⟩ (sU rfl ⟨_, rfl, .inl (congrArg Value.bool rfl)⟩ (sU rfl ⟨_, rfl, .inl (congrArg Value.bool rfl)⟩ (sU rfl ⟨_, rfl, .inl (congrArg Value.bool rfl)⟩ (sU rfl ⟨_, rfl, .inl (congrArg Value.bool rfl)⟩ (sU rfl ⟨_, rfl, .inl (congrArg Value.bool rfl)⟩ (s0 rfl trivial (fun _ => r_pkt rfl rfl rfl) rfl (se (t_thenR [(1, .pointer (some ⟨b1, 0, none⟩)), (3, .pointer (some ⟨b2, 0, none⟩)), (62, .bool true)] ⟨rfl, rfl, rfl, trivial⟩ fun J => ?_))))))))))))))))))))))))))))))))))))))
        refine cnd (b := true) rfl (fun _ => ?_) (fun h => nomatch h)
        refine sq2 ?_
        refine rg (pv (r_zb rfl) (nil (t_then ?_)))
        have hm := Option.some.inj hm
        subst hm
        exact rtn (r_then (ret1 rfl rfl ⟨_, rfl, _, (Im.trans im1 (Im.trans im2 (Im.trans im3 im4))), ⟨rfl, hS4.sel [2] rfl, trivial⟩⟩))
      · have hm := cfalse hb3 hm
        refine s0 rfl ⟨_, rfl, congrArg Value.bool hb3⟩ (fun _ => r_fa rfl Try.underlying31 rfl Try.sizeOf3 rfl) rfl (s1 rfl ⟨_, rfl, congrArg Value.bool hb3⟩ (r_ld rfl Try.isAgg3 (hS4.cell0 (i := 0) ⟨rfl, rfl⟩ (j := 3) rfl)) rfl (s0 rfl ⟨_, rfl, congrArg Value.bool hb3⟩ (fun _ => r_ib rfl rfl rfl) rfl (s0 rfl trivial (fun _ => r_pkf rfl hb3 rfl) rfl (s0 rfl trivial (fun _ => r_mb rfl) rfl (?_)))))
        rcases Bool.eq_false_or_eq_true (decide (8000 < p0.p.Regs)) with hb4 | hb4
        · have hm := ctrue hb4 hm
          refine sU rfl ⟨_, rfl, .inl (congrArg Value.bool hb4)⟩ (sU rfl ⟨_, rfl, .inl (congrArg Value.bool hb4)⟩ (sU rfl ⟨_, rfl, .inl (congrArg Value.bool hb4)⟩ (sU rfl ⟨_, rfl, .inl (congrArg Value.bool hb4)⟩ (s0 rfl trivial (fun _ => r_pkt rfl hb4 rfl) rfl (s0 rfl trivial (fun _ => r_mb rfl) rfl (sU rfl ⟨_, rfl, .inl (congrArg Value.bool rfl)⟩ (sU rfl ⟨_, rfl, .inl (congrArg Value.bool rfl)⟩ (sU rfl ⟨_, rfl, .inl (congrArg Value.bool rfl)⟩ (sU rfl ⟨_, rfl, .inl (congrArg Value.bool rfl)⟩ (s0 rfl trivial (fun _ => r_pkt rfl rfl rfl) rfl (s0 rfl trivial (fun _ => r_mb rfl) rfl (sU rfl ⟨_, rfl, .inl (congrArg Value.bool rfl)⟩ (sU rfl ⟨_, rfl, .inl (congrArg Value.bool rfl)⟩ (sU rfl ⟨_, rfl, .inl (congrArg Value.bool rfl)⟩ (sU rfl ⟨_, rfl, .inl (congrArg Value.bool rfl)⟩ (s0 rfl trivial (fun _ => r_pkt rfl rfl rfl) rfl (s0 rfl trivial (fun _ => r_mb rfl) rfl (sU rfl ⟨_, rfl, .inl (congrArg Value.bool rfl)⟩ (sU rfl ⟨_, rfl, .inl (congrArg Value.bool rfl)⟩ (sU rfl ⟨_, rfl, .inl (congrArg Value.bool rfl)⟩ (sU rfl ⟨_, rfl, .inl (congrArg Value.bool rfl)⟩ (s0 rfl trivial (fun _ => r_pkt rfl rfl rfl) rfl (s0 rfl trivial (fun _ => r_mb rfl) rfl (sU rfl ⟨_, rfl, .inl (congrArg Value.bool rfl)⟩ (sU rfl ⟨_, rfl, .inl (congrArg Value.bool rfl)⟩ (sU rfl ⟨_, rfl, .inl (congrArg Value.bool rfl)⟩ (sU rfl ⟨_, rfl, .inl (congrArg Value.bool rfl)⟩ (sU rfl ⟨_, rfl, .inl (congrArg Value.bool rfl)⟩ (sU rfl ⟨_, rfl, .inl (congrArg Value.bool rfl)⟩ (sU rfl ⟨_, rfl, .inl (congrArg Value.bool rfl)⟩ (s0 rfl trivial (fun _ => r_pkt rfl rfl rfl) rfl (se (t_thenR [(1, .pointer (some ⟨b1, 0, none⟩)), (3, .pointer (some ⟨b2, 0, none⟩)), (62, .bool true)] ⟨rfl, rfl, rfl, trivial⟩ fun J => ?_)))))))))))))))))))))))))))))))))
          refine cnd (b := true) rfl (fun _ => ?_) (fun h => nomatch h)
          refine sq2 ?_
          refine rg (pv (r_zb rfl) (nil (t_then ?_)))
          have hm := Option.some.inj hm
          subst hm
          exact rtn (r_then (ret1 rfl rfl ⟨_, rfl, _, (Im.trans im1 (Im.trans im2 (Im.trans im3 im4))), ⟨rfl, hS4.sel [2] rfl, trivial⟩⟩))
        · have hm := cfalse hb4 hm
          refine s0 rfl ⟨_, rfl, congrArg Value.bool hb4⟩ (fun _ => r_fa rfl Try.underlying31 rfl Try.sizeOf22 rfl) rfl (s1 rfl ⟨_, rfl, congrArg Value.bool hb4⟩ (r_ld rfl Try.isAgg22 (hS4.cell0 (i := 0) ⟨rfl, rfl⟩ (j := 4) rfl)) rfl (s0 rfl ⟨_, rfl, congrArg Value.bool hb4⟩ (fun _ => r_ln rfl Try.underlying22) rfl (s0 rfl ⟨_, rfl, congrArg Value.bool hb4⟩ (fun _ => r_ib rfl rfl rfl) rfl (s0 rfl trivial (fun _ => r_pkf rfl hb4 rfl) rfl (s0 rfl trivial (fun _ => r_mb rfl) rfl (?_))))))
          rcases Bool.eq_false_or_eq_true (decide (400 < (List.length p0.p.Objects : Int))) with hb5 | hb5
          · have hm := ctrue hb5 hm
            refine sU rfl ⟨_, rfl, .inl (congrArg Value.bool hb5)⟩ (sU rfl ⟨_, rfl, .inl (congrArg Value.bool hb5)⟩ (sU rfl ⟨_, rfl, .inl (congrArg Value.bool hb5)⟩ (sU rfl ⟨_, rfl, .inl (congrArg Value.bool hb5)⟩ (s0 rfl trivial (fun _ => r_pkt rfl hb5 rfl) rfl (s0 rfl trivial (fun _ => r_mb rfl) rfl (sU rfl ⟨_, rfl, .inl (congrArg Value.bool rfl)⟩ (sU rfl ⟨_, rfl, .inl (congrArg Value.bool rfl)⟩ (sU rfl ⟨_, rfl, .inl (congrArg Value.bool rfl)⟩ (sU rfl ⟨_, rfl, .inl (congrArg Value.bool rfl)⟩ (s0 rfl trivial (fun _ => r_pkt rfl rfl rfl) rfl (s0 rfl trivial (fun _ => r_mb rfl) rfl (sU rfl ⟨_, rfl, .inl (congrArg Value.bool rfl)⟩ (sU rfl ⟨_, rfl, .inl (congrArg Value.bool rfl)⟩ (sU rfl ⟨_, rfl, .inl (congrArg Value.bool rfl)⟩ (sU rfl ⟨_, rfl, .inl (congrArg Value.bool rfl)⟩ (s0 rfl trivial (fun _ => r_pkt rfl rfl rfl) rfl (s0 rfl trivial (fun _ => r_mb rfl) rfl (sU rfl ⟨_, rfl, .inl (congrArg Value.bool rfl)⟩ (sU rfl ⟨_, rfl, .inl (congrArg Value.bool rfl)⟩ (sU rfl ⟨_, rfl, .inl (congrArg Value.bool rfl)⟩ (sU rfl ⟨_, rfl, .inl (congrArg Value.bool rfl)⟩ (sU rfl ⟨_, rfl, .inl (congrArg Value.bool rfl)⟩ (sU rfl ⟨_, rfl, .inl (congrArg Value.bool rfl)⟩ (sU rfl ⟨_, rfl, .inl (congrArg Value.bool rfl)⟩ (s0 rfl trivial (fun _ => r_pkt rfl rfl rfl) rfl (se (t_thenR [(1, .pointer (some ⟨b1, 0, none⟩)), (3, .pointer (some ⟨b2, 0, none⟩)), (62, .bool true)] ⟨rfl, rfl, rfl, trivial⟩ fun J => ?_)))))))))))))))))))))))))))
            refine cnd (b := true) rfl (fun _ => ?_) (fun h => nomatch h)
            refine sq2 ?_
            refine rg (pv (r_zb rfl) (nil (t_then ?_)))
            have hm := Option.some.inj hm
            subst hm
            exact rtn (r_then (ret1 rfl rfl ⟨_, rfl, _, (Im.trans im1 (Im.trans im2 (Im.trans im3 im4))), ⟨rfl, hS4.sel [2] rfl, trivial⟩⟩))
          · have hm := cfalse hb5 hm
            refine s0 rfl ⟨_, rfl, congrArg Value.bool hb5⟩ (fun _ => r_fa rfl Try.underlying31 rfl Try.sizeOf29 rfl) rfl (s1 rfl ⟨_, rfl, congrArg Value.bool hb5⟩ (r_ld rfl Try.isAgg29 (hS4.cell0 (i := 0) ⟨rfl, rfl⟩ (j := 5) rfl)) rfl (s0 rfl ⟨_, rfl, congrArg Value.bool hb5⟩ (fun _ => r_ln rfl Try.underlying29) rfl (s0 rfl ⟨_, rfl, congrArg Value.bool hb5⟩ (fun _ => r_ib rfl rfl rfl) rfl (s0 rfl trivial (fun _ => r_pkf rfl hb5 rfl) rfl (s0 rfl trivial (fun _ => r_mb rfl) rfl (?_))))))
            rcases Bool.eq_false_or_eq_true (decide ((List.length p0.p.Blocks : Int) < 1)) with hb6 | hb6
            · have hm := ctrue hb6 hm
              refine sU rfl ⟨_, rfl, .inl (congrArg Value.bool hb6)⟩ (sU rfl ⟨_, rfl, .inl (congrArg Value.bool hb6)⟩ (sU rfl ⟨_, rfl, .inl (congrArg Value.bool hb6)⟩ (sU rfl ⟨_, rfl, .inl (congrArg Value.bool hb6)⟩ (s0 rfl trivial (fun _ => r_pkt rfl hb6 rfl) rfl (s0 rfl trivial (fun _ => r_mb rfl) rfl (sU rfl ⟨_, rfl, .inl (congrArg Value.bool rfl)⟩ (sU rfl ⟨_, rfl, .inl (congrArg Value.bool rfl)⟩ (sU rfl ⟨_, rfl, .inl (congrArg Value.bool rfl)⟩ (sU rfl ⟨_, rfl, .inl (congrArg Value.bool rfl)⟩ (s0 rfl trivial (fun _ => r_pkt rfl rfl rfl) rfl (s0 rfl trivial (fun _ => r_mb rfl) rfl (sU rfl ⟨_, rfl, .inl (congrArg Value.bool rfl)⟩ (sU rfl ⟨_, rfl, .inl (congrArg Value.bool rfl)⟩ (sU rfl ⟨_, rfl, .inl (congrArg Value.bool rfl)⟩ (sU rfl ⟨_, rfl, .inl (congrArg Value.bool rfl)⟩ (sU rfl ⟨_, rfl, .inl (congrArg Value.bool rfl)⟩ (sU rfl ⟨_, rfl, .inl (congrArg Value.bool rfl)⟩ (sU rfl ⟨_, rfl, .inl (congrArg Value.bool rfl)⟩ (s0 rfl trivial (fun _ => r_pkt rfl rfl rfl) rfl (se (t_thenR [(1, .pointer (some ⟨b1, 0, none⟩)), (3, .pointer (some ⟨b2, 0, none⟩)), (62, .bool true)] ⟨rfl, rfl, rfl, trivial⟩ fun J => ?_)))))))))))))))))))))
              refine cnd (b := true) rfl (fun _ => ?_) (fun h => nomatch h)
              refine sq2 ?_
              refine rg (pv (r_zb rfl) (nil (t_then ?_)))
              have hm := Option.some.inj hm
              subst hm
              exact rtn (r_then (ret1 rfl rfl ⟨_, rfl, _, (Im.trans im1 (Im.trans im2 (Im.trans im3 im4))), ⟨rfl, hS4.sel [2] rfl, trivial⟩⟩))
            · have hm := cfalse hb6 hm
              refine s0 rfl ⟨_, rfl, congrArg Value.bool hb6⟩ (fun _ => r_fa rfl Try.underlying31 rfl Try.sizeOf29 rfl) rfl (s1 rfl ⟨_, rfl, congrArg Value.bool hb6⟩ (r_ld rfl Try.isAgg29 (hS4.cell0 (i := 0) ⟨rfl, rfl⟩ (j := 5) rfl)) rfl (s0 rfl ⟨_, rfl, congrArg Value.bool hb6⟩ (fun _ => r_ln rfl Try.underlying29) rfl (s0 rfl ⟨_, rfl, congrArg Value.bool hb6⟩ (fun _ => r_ib rfl rfl rfl) rfl (s0 rfl trivial (fun _ => r_pkf rfl hb6 rfl) rfl (s0 rfl trivial (fun _ => r_mb rfl) rfl (?_))))))
              rcases Bool.eq_false_or_eq_true (decide (4000 < (List.length p0.p.Blocks : Int))) with hb7 | hb7
              · have hm := ctrue hb7 hm
                refine sU rfl ⟨_, rfl, .inl (congrArg Value.bool hb7)⟩ (sU rfl ⟨_, rfl, .inl (congrArg Value.bool hb7)⟩ (sU rfl ⟨_, rfl, .inl (congrArg Value.bool hb7)⟩ (sU rfl ⟨_, rfl, .inl (congrArg Value.bool hb7)⟩ (s0 rfl trivial (fun _ => r_pkt rfl hb7 rfl) rfl (s0 rfl trivial (fun _ => r_mb rfl) rfl (sU rfl ⟨_, rfl, .inl (congrArg Value.bool rfl)⟩ (sU rfl ⟨_, rfl, .inl (congrArg Value.bool rfl)⟩ (sU rfl ⟨_, rfl, .inl (congrArg Value.bool rfl)⟩ (sU rfl ⟨_, rfl, .inl (congrArg Value.bool rfl)⟩ (sU rfl ⟨_, rfl, .inl (congrArg Value.bool rfl)⟩ (sU rfl ⟨_, rfl, .inl (congrArg Value.bool rfl)⟩ (sU rfl ⟨_, rfl, .inl (congrArg Value.bool rfl)⟩ (s0 rfl trivial (fun _ => r_pkt rfl rfl rfl) rfl (se (t_thenR [(1, .pointer (some ⟨b1, 0, none⟩)), (3, .pointer (some ⟨b2, 0, none⟩)), (62, .bool true)] ⟨rfl, rfl, rfl, trivial⟩ fun J => ?_)))))))))))))))
                refine cnd (b := true) rfl (fun _ => ?_) (fun h => nomatch h)
                refine sq2 ?_
                refine rg (pv (r_zb rfl) (nil (t_then ?_)))
                have hm := Option.some.inj hm
                subst hm
                exact rtn (r_then (ret1 rfl rfl ⟨_, rfl, _, (Im.trans im1 (Im.trans im2 (Im.trans im3 im4))), ⟨rfl, hS4.sel [2] rfl, trivial⟩⟩))
              · have hm := cfalse hb7 hm
                obtain ⟨y1, hx1, hm⟩ := bindS hm
                refine s0 rfl ⟨_, rfl, congrArg Value.bool hb7⟩ (fun _ => r_fa rfl Try.underlying31 rfl Try.sizeOf22 rfl) rfl (s1 rfl ⟨_, rfl, congrArg Value.bool hb7⟩ (r_ld rfl Try.isAgg22 (hS4.cell0 (i := 0) ⟨rfl, rfl⟩ (j := 4) rfl)) rfl (s2 [] rfl ⟨_, rfl, congrArg Value.bool hb7⟩ rfl (by kernel_rfl) (calS cf45 rfl (ir_slots_sim (p0 := p0.p.Objects) (hS4.bun [0, 1, 2] [] rfl) (h4.mono (Im.trans im1 (Im.trans im2 (Im.trans im3 im4)))) hx1) rfl fun v1 T1 w5 im5 rv1 => ?_)))
                obtain ⟨rfl, hS5, _⟩ := rv1
                have hS5 : Sep g T1 w5 [boxA b2 [.string ⟨p0.p.Name.toArray⟩, .bool p0.p.Void, .int .i64 p0.p.Params, .int .i64 p0.p.Regs, .slice a4 (List.length p0.p.Objects) c4, .slice a5 (List.length p0.p.Blocks) c5], boxA b1 [.slice a1 (List.length p0.m.Globals) c1, .slice a2 (List.length p0.m.Data) c2, .slice a3 (List.length p0.m.Procs) c3, .int .i64 p0.m.Main, .string ⟨p0.p.Name.toArray⟩, .bool p0.p.Void, .int .i64 p0.p.Params, .int .i64 p0.p.Regs, .slice a4 (List.length p0.p.Objects) c4, .slice a5 (List.length p0.p.Blocks) c5], R] := hS5.unb
                refine ⟨st0, ?_⟩
                refine s0 rfl ⟨_, rfl, congrArg Value.bool hb7⟩ (fun _ => r_nt rfl) rfl (s0 rfl trivial (fun _ => r_pkf rfl hb7 rfl) rfl (s0 rfl trivial (fun _ => r_mb rfl) rfl (?_)))
                rcases Bool.eq_false_or_eq_true (!y1) with hb8 | hb8
                · have hm := ctrue hb8 hm
                  refine sU rfl ⟨_, rfl, .inl (congrArg Value.bool hb8)⟩ (sU rfl ⟨_, rfl, .inl (congrArg Value.bool hb8)⟩ (sU rfl ⟨_, rfl, .inl (congrArg Value.bool hb8)⟩ (sU rfl ⟨_, rfl, .inl (congrArg Value.bool hb8)⟩ (sU rfl ⟨_, rfl, .inl (congrArg Value.bool hb8)⟩ (sU rfl ⟨_, rfl, .inl (congrArg Value.bool hb8)⟩ (sU rfl ⟨_, rfl, .inl (congrArg Value.bool hb8)⟩ (s0 rfl trivial (fun _ => r_pkt rfl hb8 rfl) rfl (se (t_thenR [(1, .pointer (some ⟨b1, 0, none⟩)), (3, .pointer (some ⟨b2, 0, none⟩)), (62, .bool true)] ⟨rfl, rfl, rfl, trivial⟩ fun J => ?_)))))))))
                  refine cnd (b := true) rfl (fun _ => ?_) (fun h => nomatch h)
                  refine sq2 ?_
                  refine rg (pv (r_zb rfl) (nil (t_then ?_)))
                  have hm := Option.some.inj hm
                  subst hm
                  exact rtn (r_then (ret1 rfl rfl ⟨_, rfl, _, (Im.trans im1 (Im.trans im2 (Im.trans im3 (Im.trans im4 im5)))), ⟨rfl, hS5.sel [2] rfl, trivial⟩⟩))
                · have hm := cfalse hb8 hm
                  obtain ⟨y2, hx2, hm⟩ := bindS hm
                  refine s1 rfl ⟨_, rfl, congrArg Value.bool hb8⟩ (r_ldS rfl Try.isAgg31 Try.sizeOf31 rfl (hS5.cells0 (i := 0) ⟨rfl, rfl⟩ (o := 0) rfl) (cs := [.string ⟨p0.p.Name.toArray⟩, .bool p0.p.Void, .int .i64 p0.p.Params, .int .i64 p0.p.Regs, .slice a4 (List.length p0.p.Objects) c4, .slice a5 (List.length p0.p.Blocks) c5])) rfl (s0 rfl ⟨_, rfl, congrArg Value.bool hb8⟩ (fun _ => r_fa rfl Try.underlying31 rfl Try.sizeOf29 rfl) rfl (s1 rfl ⟨_, rfl, congrArg Value.bool hb8⟩ (r_ld rfl Try.isAgg29 (hS5.cell0 (i := 0) ⟨rfl, rfl⟩ (j := 5) rfl)) rfl (s0 rfl ⟨_, rfl, congrArg Value.bool hb8⟩ (fun _ => r_ln rfl Try.underlying29) rfl (s2 [(48, .slice a5 (List.length p0.p.Blocks) c5)] rfl ⟨_, rfl, congrArg Value.bool hb8⟩ rfl (by kernel_rfl) (calS cf76 rfl (ir_Size_sim (p0 := p0.p) (hS5.bun [0, 1, 2] [] rfl) (h4.mono (Im.trans im1 (Im.trans im2 (Im.trans im3 (Im.trans im4 im5))))) (h5.mono (Im.trans im1 (Im.trans im2 (Im.trans im3 (Im.trans im4 im5))))) hx2) rfl fun v2 T2 w6 im6 rv2 => ?_)))))
                  obtain ⟨rfl, hS6, _⟩ := rv2
                  have hS6 : Sep g T2 w6 [boxA b2 [.string ⟨p0.p.Name.toArray⟩, .bool p0.p.Void, .int .i64 p0.p.Params, .int .i64 p0.p.Regs, .slice a4 (List.length p0.p.Objects) c4, .slice a5 (List.length p0.p.Blocks) c5], boxA b1 [.slice a1 (List.length p0.m.Globals) c1, .slice a2 (List.length p0.m.Data) c2, .slice a3 (List.length p0.m.Procs) c3, .int .i64 p0.m.Main, .string ⟨p0.p.Name.toArray⟩, .bool p0.p.Void, .int .i64 p0.p.Params, .int .i64 p0.p.Regs, .slice a4 (List.length p0.p.Objects) c4, .slice a5 (List.length p0.p.Blocks) c5], R] := hS6.unb
                  refine ⟨st1 rfl (r_ld rfl Try.isAgg29 (hS6.cell0 (i := 0) ⟨rfl, rfl⟩ (j := 5) rfl)) (st0), ?_⟩
                  refine s0 rfl ⟨_, rfl, congrArg Value.bool hb8⟩ (fun _ => r_ib rfl rfl rfl) rfl (s0 rfl ⟨_, rfl, congrArg Value.bool hb8⟩ (fun _ => r_ib rfl rfl rfl) rfl (s0 rfl trivial (fun _ => r_pkf rfl hb8 rfl) rfl (se (t_thenR [(1, .pointer (some ⟨b1, 0, none⟩)), (3, .pointer (some ⟨b2, 0, none⟩)), (62, .bool (decide (20000 < (IntKind.wrap .i64 (y2 - (List.length p0.p.Blocks : Int))))))] ⟨rfl, rfl, rfl, trivial⟩ fun J => ?_))))
                  refine cnd rfl (fun hb9 => ?_) (fun hb9 => ?_)
                  · have hm := ctrue hb9 hm
                    refine sq2 ?_
                    refine rg (pv (r_zb rfl) (nil (t_then ?_)))
                    have hm := Option.some.inj hm
                    subst hm
                    exact rtn (r_then (ret1 rfl rfl ⟨_, rfl, _, (Im.trans im1 (Im.trans im2 (Im.trans im3 (Im.trans im4 (Im.trans im5 im6))))), ⟨rfl, hS6.sel [2] rfl, trivial⟩⟩))
                  · have hm := cfalse hb9 hm
                    refine skp (t_then ?_)
                    refine sq2 ?_
                    refine sq2 ?_
                    refine rg (pv (r_fa rfl Try.underlying31 rfl Try.sizeOf29 rfl) (pv (r_ld rfl Try.isAgg29 (hS6.cell0 (i := 0) ⟨rfl, rfl⟩ (j := 5) rfl)) (pv (r_ln rfl Try.underlying29) (pv (r_mi rfl) (nil (t_then ?_))))))
                    obtain ⟨o1, ho1, hq1⟩ := bindS hm
                    obtain ⟨bd1, hbd1, ho1⟩ := loop_open ho1
                    refine blk (wp_loop_ghost (fun m a w7 => ∃ (J : Nat → Value) (T3 : Nat → Prop) (x1 : Int), a = env (nf 87) J [(1, .pointer (some ⟨b1, 0, none⟩)), (64, .slice a5 (List.length p0.p.Blocks) c5), (65, .int .i64 (List.length p0.p.Blocks : Int)), (66, .int .i64 x1)] ∧ Im T2 w6 T3 w7 ∧ Sep g T3 w7 [boxA b1 [.slice a1 (List.length p0.m.Globals) c1, .slice a2 (List.length p0.m.Data) c2, .slice a3 (List.length p0.m.Procs) c3, .int .i64 p0.m.Main, .string ⟨p0.p.Name.toArray⟩, .bool p0.p.Void, .int .i64 p0.p.Params, .int .i64 p0.p.Regs, .slice a4 (List.length p0.p.Objects) c4, .slice a5 (List.length p0.p.Blocks) c5], R] ∧ loopM bd1 m x1 = some o1) NN ⟨_, _, 0, env_has ⟨rfl, rfl, rfl, rfl, trivial⟩, Im.refl, hS6.sel [1, 2] rfl, ho1⟩ ?_)
                    rintro m _ w7 ⟨J, T3, x1, rfl, im7, hS7, ho1⟩
                    obtain ⟨m1, z1, rfl, hm, hn1⟩ := loop_round ho1
                    rw [hbd1] at hm
                    refine sq2 ?_
                    refine rg (pv (r_ib rfl rfl rfl) (nil (t_then ?_)))
                    refine sq2 ?_
                    refine cnd rfl (fun hb10 => ?_) (fun hb10 => ?_)
                    · have hm := ctrue hb10 hm
                      refine skp (t_then ?_)
                      refine sq2 ?_
                      refine blk ?_
                      refine sq2 ?_
                      obtain ⟨u1, hx3, hm⟩ := bindS hm
                      obtain ⟨b3, of1, cs1, k1, cp1, hv1, hp1, hl1, he1, hr1, hc1, hT1⟩ := (h5.mono (Im.trans im1 (Im.trans im2 (Im.trans im3 (Im.trans im4 (Im.trans im5 (Im.trans im6 im7))))))).ixT hx3 rfl
                      obtain ⟨a6, c6, rfl, h6⟩ := rGBlock_open hr1
                      refine rg (pv (r_ixe hv1 rfl Try.underlying29 Try.sizeOf42 hp1 hl1 he1) (pv (r_ldS rfl Try.isAgg42 Try.sizeOf42 rfl hc1 (cs := [.slice a6 (List.length u1.Ins) c6, .int .i64 u1.End, .int .i64 u1.A, .int .i64 u1.To, .int .i64 u1.Else])) (wl rfl (alS (zs := [.slice none 0 0, .int .i64 0, .int .i64 0, .int .i64 0, .int .i64 0]) Try.zeroValue42 rfl hS7 fun w8 b4 im8 hS8 => ?_))))
                      refine wl rfl (st0B (q := 0) hS8 ⟨rfl, rfl⟩ rfl rfl rfl Try.sizeOf42 rfl rfl rfl fun w9 im9 hS9 => ?_)
                      have hS9 : Sep g T3 w9 [boxA b4 [.slice a6 (List.length u1.Ins) c6, .int .i64 u1.End, .int .i64 u1.A, .int .i64 u1.To, .int .i64 u1.Else], boxA b1 [.slice a1 (List.length p0.m.Globals) c1, .slice a2 (List.length p0.m.Data) c2, .slice a3 (List.length p0.m.Procs) c3, .int .i64 p0.m.Main, .string ⟨p0.p.Name.toArray⟩, .bool p0.p.Void, .int .i64 p0.p.Params, .int .i64 p0.p.Regs, .slice a4 (List.length p0.p.Objects) c4, .slice a5 (List.length p0.p.Blocks) c5], R] := hS9
                      refine nil (t_then ?_)
                      refine sq2 ?_
                      refine sq2 ?_
                      refine rg (pv (r_fa rfl Try.underlying42 rfl Try.sizeOf40 rfl) (pv (r_ld rfl Try.isAgg40 (hS9.cell0 (i := 0) ⟨rfl, rfl⟩ (j := 0) rfl)) (pv (r_ln rfl Try.underlying40) (pv (r_mi rfl) (nil (t_then ?_))))))
                      obtain ⟨o2, ho2, hq2⟩ := bindS hm
                      obtain ⟨bd2, hbd2, ho2⟩ := loop_open ho2
                      refine blk (wp_loop_ghost (fun m a w10 => ∃ (J : Nat → Value) (T4 : Nat → Prop) (x2 : Int), a = env (nf 87) J [(1, .pointer (some ⟨b1, 0, none⟩)), (5, .pointer (some ⟨b4, 0, none⟩)), (64, .slice a5 (List.length p0.p.Blocks) c5), (65, .int .i64 (List.length p0.p.Blocks : Int)), (66, .int .i64 x1), (71, .slice a6 (List.length u1.Ins) c6), (72, .int .i64 (List.length u1.Ins : Int)), (73, .int .i64 x2)] ∧ Im T3 w9 T4 w10 ∧ Sep g T4 w10 [boxA b4 [.slice a6 (List.length u1.Ins) c6, .int .i64 u1.End, .int .i64 u1.A, .int .i64 u1.To, .int .i64 u1.Else], boxA b1 [.slice a1 (List.length p0.m.Globals) c1, .slice a2 (List.length p0.m.Data) c2, .slice a3 (List.length p0.m.Procs) c3, .int .i64 p0.m.Main, .string ⟨p0.p.Name.toArray⟩, .bool p0.p.Void, .int .i64 p0.p.Params, .int .i64 p0.p.Regs, .slice a4 (List.length p0.p.Objects) c4, .slice a5 (List.length p0.p.Blocks) c5], R] ∧ loopM bd2 m x2 = some o2) NN ⟨_, _, 0, env_has ⟨rfl, rfl, rfl, rfl, rfl, rfl, rfl, rfl, trivial⟩, Im.refl, hS9.sel [0, 1, 2] rfl, ho2⟩ ?_)
                      rintro m _ w10 ⟨J, T4, x2, rfl, im10, hS10, ho2⟩
                      obtain ⟨m2, z2, rfl, hm, hn2⟩ := loop_round ho2
                      rw [hbd2] at hm
                      refine sq2 ?_
                      refine rg (pv (r_ib rfl rfl rfl) (nil (t_then ?_)))
                      refine sq2 ?_
                      refine cnd rfl (fun hb11 => ?_) (fun hb11 => ?_)
                      · have hm := ctrue hb11 hm
                        refine skp (t_then ?_)
                        refine sq2 ?_
                        refine blk ?_
                        refine sq2 ?_
                        obtain ⟨u2, hx4, hm⟩ := bindS hm
                        obtain ⟨b5, of2, cs2, k2, cp2, hv2, hp2, hl2, he2, hr2, hc2, hT2⟩ := (h6.mono (Im.trans im8 (Im.trans im9 im10))).ixT hx4 rfl
                        obtain ⟨a7, c7, rfl, h7⟩ := rIns_open hr2
                        refine rg (pv (r_ixe hv2 rfl Try.underlying40 Try.sizeOf46 hp2 hl2 he2) (pv (r_ldS rfl Try.isAgg46 Try.sizeOf46 rfl hc2 (cs := [.int .i64 u2.Op, .int .i64 u2.D, .int .i64 u2.A, .int .i64 u2.B, .int .i64 u2.Fn, .int .i64 u2.Obj, .int .i64 u2.Off, .int .i64 u2.Size, .int .u32 u2.Num, .slice a7 (List.length u2.Args) c7, .bool u2.Log])) (wl rfl (alS (zs := [.int .i64 0, .int .i64 0, .int .i64 0, .int .i64 0, .int .i64 0, .int .i64 0, .int .i64 0, .int .i64 0, .int .u32 0, .slice none 0 0, .bool false]) Try.zeroValue46 rfl hS10 fun w11 b6 im11 hS11 => ?_))))
                        refine wl rfl (st0B (q := 0) hS11 ⟨rfl, rfl⟩ rfl rfl rfl Try.sizeOf46 rfl rfl rfl fun w12 im12 hS12 => ?_)
                        have hS12 : Sep g T4 w12 [boxA b6 [.int .i64 u2.Op, .int .i64 u2.D, .int .i64 u2.A, .int .i64 u2.B, .int .i64 u2.Fn, .int .i64 u2.Obj, .int .i64 u2.Off, .int .i64 u2.Size, .int .u32 u2.Num, .slice a7 (List.length u2.Args) c7, .bool u2.Log], boxA b4 [.slice a6 (List.length u1.Ins) c6, .int .i64 u1.End, .int .i64 u1.A, .int .i64 u1.To, .int .i64 u1.Else], boxA b1 [.slice a1 (List.length p0.m.Globals) c1, .slice a2 (List.length p0.m.Data) c2, .slice a3 (List.length p0.m.Procs) c3, .int .i64 p0.m.Main, .string ⟨p0.p.Name.toArray⟩, .bool p0.p.Void, .int .i64 p0.p.Params, .int .i64 p0.p.Regs, .slice a4 (List.length p0.p.Objects) c4, .slice a5 (List.length p0.p.Blocks) c5], R] := hS12
                        refine nil (t_then ?_)
                        refine sq2 ?_
                        obtain ⟨y3, hx5, hm⟩ := bindS hm
                        refine rg (pv (r_ldS rfl Try.isAgg123 Try.sizeOf123 rfl (hS12.cells0 (i := 2) ⟨rfl, rfl⟩ (o := 0) rfl) (cs := [.slice a1 (List.length p0.m.Globals) c1, .slice a2 (List.length p0.m.Data) c2, .slice a3 (List.length p0.m.Procs) c3, .int .i64 p0.m.Main, .string ⟨p0.p.Name.toArray⟩, .bool p0.p.Void, .int .i64 p0.p.Params, .int .i64 p0.p.Regs, .slice a4 (List.length p0.p.Objects) c4, .slice a5 (List.length p0.p.Blocks) c5])) (pv (r_ldS rfl Try.isAgg46 Try.sizeOf46 rfl (hS12.cells0 (i := 0) ⟨rfl, rfl⟩ (o := 0) rfl) (cs := [.int .i64 u2.Op, .int .i64 u2.D, .int .i64 u2.A, .int .i64 u2.B, .int .i64 u2.Fn, .int .i64 u2.Obj, .int .i64 u2.Off, .int .i64 u2.Size, .int .u32 u2.Num, .slice a7 (List.length u2.Args) c7, .bool u2.Log])) (wl rfl (calS cf77 rfl (ir_looker_ins_sim (p0 := p0) (p1 := u2) (hS12.bun [1, 2, 3] [] rfl) (h1.mono (Im.trans im1 (Im.trans im2 (Im.trans im3 (Im.trans im4 (Im.trans im5 (Im.trans im6 (Im.trans im7 (Im.trans im8 (Im.trans im9 (Im.trans im10 (Im.trans im11 im12)))))))))))) (h2.mono (Im.trans im1 (Im.trans im2 (Im.trans im3 (Im.trans im4 (Im.trans im5 (Im.trans im6 (Im.trans im7 (Im.trans im8 (Im.trans im9 (Im.trans im10 (Im.trans im11 im12)))))))))))) (h3.mono (Im.trans im1 (Im.trans im2 (Im.trans im3 (Im.trans im4 (Im.trans im5 (Im.trans im6 (Im.trans im7 (Im.trans im8 (Im.trans im9 (Im.trans im10 (Im.trans im11 im12)))))))))))) (h4.mono (Im.trans im1 (Im.trans im2 (Im.trans im3 (Im.trans im4 (Im.trans im5 (Im.trans im6 (Im.trans im7 (Im.trans im8 (Im.trans im9 (Im.trans im10 (Im.trans im11 im12)))))))))))) (h5.mono (Im.trans im1 (Im.trans im2 (Im.trans im3 (Im.trans im4 (Im.trans im5 (Im.trans im6 (Im.trans im7 (Im.trans im8 (Im.trans im9 (Im.trans im10 (Im.trans im11 im12)))))))))))) (h7.mono (Im.trans im11 im12)) hx5) rfl fun v3 T5 w13 im13 rv3 => ?_))))
                        obtain ⟨rfl, hS13, _⟩ := rv3
                        have hS13 : Sep g T5 w13 [boxA b4 [.slice a6 (List.length u1.Ins) c6, .int .i64 u1.End, .int .i64 u1.A, .int .i64 u1.To, .int .i64 u1.Else], boxA b1 [.slice a1 (List.length p0.m.Globals) c1, .slice a2 (List.length p0.m.Data) c2, .slice a3 (List.length p0.m.Procs) c3, .int .i64 p0.m.Main, .string ⟨p0.p.Name.toArray⟩, .bool p0.p.Void, .int .i64 p0.p.Params, .int .i64 p0.p.Regs, .slice a4 (List.length p0.p.Objects) c4, .slice a5 (List.length p0.p.Blocks) c5], R] := hS13.unb
                        refine pv (r_nt rfl) (nil (t_thenR [(1, .pointer (some ⟨b1, 0, none⟩)), (5, .pointer (some ⟨b4, 0, none⟩)), (64, .slice a5 (List.length p0.p.Blocks) c5), (65, .int .i64 (List.length p0.p.Blocks : Int)), (66, .int .i64 x1), (71, .slice a6 (List.length u1.Ins) c6), (72, .int .i64 (List.length u1.Ins : Int)), (73, .int .i64 x2), (80, .bool (!y3))] ⟨rfl, rfl, rfl, rfl, rfl, rfl, rfl, rfl, rfl, trivial⟩ fun J => ?_))
                        refine cnd rfl (fun hb12 => ?_) (fun hb12 => ?_)
                        · have hm := ctrue hb12 hm
                          refine sq2 ?_
                          refine rg (pv (r_zb rfl) (nil (t_thenR [(2, .bool false)] ⟨rfl, trivial⟩ fun J => ?_)))
                          have hm := Option.some.inj hm
                          subst hm
                          have hn2 : _ = Lp.ret _ := hn2
                          subst hn2
                          have hm := thn_ret hq2
                          have hm := Option.some.inj hm
                          subst hm
                          have hn1 : _ = Lp.ret _ := hn1
                          subst hn1
                          have hm := thn_ret hq1
                          have hm := Option.some.inj hm
                          subst hm
                          exact rtn (r_blk (r_then (r_then (r_blk (r_then (r_blk (r_then (r_then (r_blk (r_then (ret1 rfl rfl ⟨_, rfl, _, (Im.trans im1 (Im.trans im2 (Im.trans im3 (Im.trans im4 (Im.trans im5 (Im.trans im6 (Im.trans im7 (Im.trans im8 (Im.trans im9 (Im.trans im10 (Im.trans im11 (Im.trans im12 im13)))))))))))), ⟨rfl, hS13.sel [2] rfl, trivial⟩⟩)))))))))))
                        · have hm := cfalse hb12 hm
                          refine skp (t_blk (t_then ?_))
                          have hm := Option.some.inj hm
                          subst hm
                          exact rg (pv (r_ib rfl rfl rfl) (pv (r_mi rfl) (nil (t_then ⟨m2, Nat.lt_succ_self _, _, _, (IntKind.wrap .i64 (x2 + 1)), env_has ⟨rfl, rfl, rfl, rfl, rfl, rfl, rfl, rfl, trivial⟩, (Im.trans im10 (Im.trans im11 (Im.trans im12 im13))), hS13.sel [0, 1, 2] rfl, hn2⟩))))
                      · have hm := cfalse hb11 hm
                        have hm := Option.some.inj hm
                        subst hm
                        have hn2 : _ = Lp.brk _ := hn2
                        subst hn2
                        have hm := thn_brk hq2
                        refine xt (x_then (x_then (x_eq (t_then ?_))))
                        refine sq2 ?_
                        obtain ⟨y4, hx6, hm⟩ := bindS hm
                        refine rg (pv (r_ldS rfl Try.isAgg123 Try.sizeOf123 rfl (hS10.cells0 (i := 1) ⟨rfl, rfl⟩ (o := 0) rfl) (cs := [.slice a1 (List.length p0.m.Globals) c1, .slice a2 (List.length p0.m.Data) c2, .slice a3 (List.length p0.m.Procs) c3, .int .i64 p0.m.Main, .string ⟨p0.p.Name.toArray⟩, .bool p0.p.Void, .int .i64 p0.p.Params, .int .i64 p0.p.Regs, .slice a4 (List.length p0.p.Objects) c4, .slice a5 (List.length p0.p.Blocks) c5])) (pv (r_ldS rfl Try.isAgg42 Try.sizeOf42 rfl (hS10.cells0 (i := 0) ⟨rfl, rfl⟩ (o := 0) rfl) (cs := [.slice a6 (List.length u1.Ins) c6, .int .i64 u1.End, .int .i64 u1.A, .int .i64 u1.To, .int .i64 u1.Else])) (wl rfl (calS cf78 rfl (ir_looker_end_sim (p0 := p0) (p1 := u1) (hS10.bun [1, 2] [] rfl) (h1.mono (Im.trans im1 (Im.trans im2 (Im.trans im3 (Im.trans im4 (Im.trans im5 (Im.trans im6 (Im.trans im7 (Im.trans im8 (Im.trans im9 im10)))))))))) (h2.mono (Im.trans im1 (Im.trans im2 (Im.trans im3 (Im.trans im4 (Im.trans im5 (Im.trans im6 (Im.trans im7 (Im.trans im8 (Im.trans im9 im10)))))))))) (h3.mono (Im.trans im1 (Im.trans im2 (Im.trans im3 (Im.trans im4 (Im.trans im5 (Im.trans im6 (Im.trans im7 (Im.trans im8 (Im.trans im9 im10)))))))))) (h4.mono (Im.trans im1 (Im.trans im2 (Im.trans im3 (Im.trans im4 (Im.trans im5 (Im.trans im6 (Im.trans im7 (Im.trans im8 (Im.trans im9 im10)))))))))) (h5.mono (Im.trans im1 (Im.trans im2 (Im.trans im3 (Im.trans im4 (Im.trans im5 (Im.trans im6 (Im.trans im7 (Im.trans im8 (Im.trans im9 im10)))))))))) (h6.mono (Im.trans im8 (Im.trans im9 im10))) hx6) rfl fun v4 T6 w14 im14 rv4 => ?_))))
                        obtain ⟨rfl, hS14, _⟩ := rv4
                        have hS14 : Sep g T6 w14 [boxA b1 [.slice a1 (List.length p0.m.Globals) c1, .slice a2 (List.length p0.m.Data) c2, .slice a3 (List.length p0.m.Procs) c3, .int .i64 p0.m.Main, .string ⟨p0.p.Name.toArray⟩, .bool p0.p.Void, .int .i64 p0.p.Params, .int .i64 p0.p.Regs, .slice a4 (List.length p0.p.Objects) c4, .slice a5 (List.length p0.p.Blocks) c5], R] := hS14.unb
                        refine pv (r_nt rfl) (nil (t_thenR [(1, .pointer (some ⟨b1, 0, none⟩)), (64, .slice a5 (List.length p0.p.Blocks) c5), (65, .int .i64 (List.length p0.p.Blocks : Int)), (66, .int .i64 x1), (85, .bool (!y4))] ⟨rfl, rfl, rfl, rfl, rfl, trivial⟩ fun J => ?_))
                        refine cnd rfl (fun hb13 => ?_) (fun hb13 => ?_)
                        · have hm := ctrue hb13 hm
                          refine sq2 ?_
                          refine rg (pv (r_zb rfl) (nil (t_thenR [(2, .bool false)] ⟨rfl, trivial⟩ fun J => ?_)))
                          have hm := Option.some.inj hm
                          subst hm
                          have hn1 : _ = Lp.ret _ := hn1
                          subst hn1
                          have hm := thn_ret hq1
                          have hm := Option.some.inj hm
                          subst hm
                          exact rtn (r_blk (r_then (r_then (r_blk (r_then (ret1 rfl rfl ⟨_, rfl, _, (Im.trans im1 (Im.trans im2 (Im.trans im3 (Im.trans im4 (Im.trans im5 (Im.trans im6 (Im.trans im7 (Im.trans im8 (Im.trans im9 (Im.trans im10 im14)))))))))), ⟨rfl, hS14.sel [1] rfl, trivial⟩⟩))))))
                        · have hm := cfalse hb13 hm
                          refine skp (t_blk (t_then ?_))
                          have hm := Option.some.inj hm
                          subst hm
                          exact rg (pv (r_ib rfl rfl rfl) (pv (r_mi rfl) (nil (t_then ⟨m1, Nat.lt_succ_self _, _, _, (IntKind.wrap .i64 (x1 + 1)), env_has ⟨rfl, rfl, rfl, rfl, trivial⟩, (Im.trans im7 (Im.trans im8 (Im.trans im9 (Im.trans im10 im14)))), hS14.sel [0, 1] rfl, hn1⟩))))
                    · have hm := cfalse hb10 hm
                      have hm := Option.some.inj hm
                      subst hm
                      have hn1 : _ = Lp.brk _ := hn1
                      subst hn1
                      have hm := thn_brk hq1
                      refine xt (x_then (x_then (x_eq (t_thenR [] trivial fun J => ?_))))
                      refine sq2 ?_
                      refine rg (pv (r_zb rfl) (nil (t_then ?_)))
                      have hm := Option.some.inj hm
                      subst hm
                      exact rtn (ret1 rfl rfl ⟨_, rfl, _, (Im.trans im1 (Im.trans im2 (Im.trans im3 (Im.trans im4 (Im.trans im5 (Im.trans im6 im7)))))), ⟨rfl, hS7.sel [1] rfl, trivial⟩⟩)

set_option maxRecDepth 100000 in
set_option maxHeartbeats 1000000 in
theorem ir_Proc_sim {g : World} {T0 : Nat → Prop} {w0 : World} {R : Assn} {p0 : GModule} {a1 : Option Addr} {c1 : Nat} {a2 : Option Addr} {c2 : Nat} {a3 : Option Addr} {c3 : Nat} {p1 : Int} {r : Int} (hS : Sep g T0 w0 [R]) (h1 : SlR rGSlot T0 w0 (.slice a1 (List.length p0.Globals) c1) p0.Globals) (h2 : SlR (rSl (rInt .u8)) T0 w0 (.slice a2 (List.length p0.Data) c2) p0.Data) (h3 : SlR rProc T0 w0 (.slice a3 (List.length p0.Procs) c3) p0.Procs) (hm : ir_Proc p0 p1 = some r) :
    Calls Try.prog 46 #[.agg #[.slice a1 (List.length p0.Globals) c1, .slice a2 (List.length p0.Data) c2, .slice a3 (List.length p0.Procs) c3, .int .i64 p0.Main], .int .i64 p1] w0 (RetS T0 w0 fun T w v => v = .int .i64 r ∧ Sep g T w [R] ∧ True) := by
  refine enter (args := [.agg #[.slice a1 (List.length p0.Globals) c1, .slice a2 (List.length p0.Data) c2, .slice a3 (List.length p0.Procs) c3, .int .i64 p0.Main], .int .i64 p1]) Try.func46 rfl Try.ntmps46 rfl fun J => ?_
  unfold ir_Proc at hm
  refine sq2 ?_
  refine rg (wl rfl (bxS (cs := [.slice a1 (List.length p0.Globals) c1, .slice a2 (List.length p0.Data) c2, .slice a3 (List.length p0.Procs) c3, .int .i64 p0.Main]) rfl rfl hS fun w1 b1 im1 hS1 => ?_))
  refine pv (r_zi rfl) (nil (t_then ?_))
  refine sq2 ?_
  refine blk ?_
  refine sq2 ?_
  refine rg (pv (r_mi rfl) (pv (r_ib rfl rfl rfl) (pv (r_mb rfl) (?_))))
  rcases Bool.eq_false_or_eq_true (decide (p1 < 0)) with hb1 | hb1
  · have hm := ctrue hb1 hm
    refine gF (d0 := 8) rfl rfl (by rw [hb1]; rfl) (gF (d0 := 8) rfl rfl (by rw [hb1]; rfl) (gF (d0 := 8) rfl rfl (by rw [hb1]; rfl) (gF (d0 := 8) rfl rfl (by rw [hb1]; rfl) (gF (d0 := 8) rfl rfl (by rw [hb1]; rfl) (pv (r_pkt rfl hb1 rfl) (pv (r_zb rfl) (nil (t_thenR [(1, .int .i64 p1), (2, .pointer (some ⟨b1, 0, none⟩)), (5, .bool true)] ⟨rfl, rfl, rfl, trivial⟩ fun J => ?_))))))))
    refine cnd (b := true) rfl (fun _ => ?_) (fun h => nomatch h)
    refine sq2 ?_
    refine rg (pv (r_zi rfl) (nil (t_then ?_)))
    have hm := Option.some.inj hm
    subst hm
    exact rtn (r_blk (r_then (ret1 rfl rfl ⟨_, rfl, _, im1, ⟨rfl, hS1.sel [1] rfl, trivial⟩⟩)))
  · have hm := cfalse hb1 hm
    refine gT (d0 := 8) rfl rfl hb1 (pv (r_mi rfl) (gT (d0 := 8) rfl rfl hb1 (pv (r_fa rfl Try.underlying26 rfl Try.sizeOf24 rfl) (gT (d0 := 8) rfl rfl hb1 (pv (r_ld rfl Try.isAgg24 (hS1.cell0 (i := 0) ⟨rfl, rfl⟩ (j := 2) rfl)) (gT (d0 := 8) rfl rfl hb1 (pv (r_ln rfl Try.underlying24) (gT (d0 := 8) rfl rfl hb1 (pv (r_ib rfl rfl rfl) (pv (r_pkf rfl hb1 rfl) (pv (r_zb rfl) (nil (t_thenR [(1, .int .i64 p1), (2, .pointer (some ⟨b1, 0, none⟩)), (5, .bool (decide ((List.length p0.Procs : Int) ≤ p1)))] ⟨rfl, rfl, rfl, trivial⟩ fun J => ?_)))))))))))))
    refine cnd rfl (fun hb2 => ?_) (fun hb2 => ?_)
    · have hm := ctrue hb2 hm
      refine sq2 ?_
      refine rg (pv (r_zi rfl) (nil (t_then ?_)))
      have hm := Option.some.inj hm
      subst hm
      exact rtn (r_blk (r_then (ret1 rfl rfl ⟨_, rfl, _, im1, ⟨rfl, hS1.sel [1] rfl, trivial⟩⟩)))
    · have hm := cfalse hb2 hm
      refine sq2 ?_
      refine rs [1, 0, 1, 0, 0, 1, 0, 2, 0, 0] [0, 1, 2, 3, 4, 5, 6, 7, 8, 9] mix (by kernel_rfl) hS1.lt fun w2 i1 => ?_
      have im2 := i1.imm
      have hS2 := hS1.keep i1 (fun _ h => h)
      obtain ⟨u1, hx1, hm⟩ := bindS hm
      obtain ⟨b2, of1, cs1, k1, cp1, hv1, hp1, hl1, he1, hr1, hc1, hT1⟩ := (h3.mono (Im.trans im1 im2)).ixT hx1 rfl
      obtain ⟨a4, c4, a5, c5, rfl, h4, h5⟩ := rProc_open hr1
      obtain ⟨y1, hx2, hm⟩ := bindS hm
      refine s1 rfl trivial (r_ldS rfl Try.isAgg26 Try.sizeOf26 rfl (hS2.cells0 (i := 0) ⟨rfl, rfl⟩ (o := 0) rfl) (cs := [.slice a1 (List.length p0.Globals) c1, .slice a2 (List.length p0.Data) c2, .slice a3 (List.length p0.Procs) c3, .int .i64 p0.Main])) rfl (s0 rfl trivial (fun _ => r_fa rfl Try.underlying26 rfl Try.sizeOf24 rfl) rfl (s1 rfl trivial (r_ld rfl Try.isAgg24 (hS2.cell0 (i := 0) ⟨rfl, rfl⟩ (j := 2) rfl)) rfl (s0 rfl trivial (fun _ => r_mi rfl) rfl (s0 rfl trivial (fun _ => r_ixe hv1 rfl Try.underlying24 Try.sizeOf31 hp1 hl1 he1) rfl (s1 rfl trivial (r_ldS rfl Try.isAgg31 Try.sizeOf31 rfl hc1 (cs := [.string ⟨u1.Name.toArray⟩, .bool u1.Void, .int .i64 u1.Params, .int .i64 u1.Regs, .slice a4 (List.length u1.Objects) c4, .slice a5 (List.length u1.Blocks) c5])) rfl (s0 rfl trivial (fun _ => r_bd (by kernel_rfl) rfl (u := .agg #[.slice a1 (List.length p0.Globals) c1, .slice a2 (List.length p0.Data) c2, .slice a3 (List.length p0.Procs) c3, .int .i64 p0.Main, .string ⟨u1.Name.toArray⟩, .bool u1.Void, .int .i64 u1.Params, .int .i64 u1.Regs, .slice a4 (List.length u1.Objects) c4, .slice a5 (List.length u1.Blocks) c5])) rfl (s2 [] rfl trivial rfl (by kernel_rfl) (calS cf66 rfl (ir_looker_proc_sim (p0 := (⟨p0, u1⟩ : IrLooker)) (hS2.bun [1, 0] [] rfl) (h1.mono (Im.trans im1 im2)) (h2.mono (Im.trans im1 im2)) (h3.mono (Im.trans im1 im2)) h4 h5 hx2) rfl fun v1 T1 w3 im3 rv1 => ?_))))))))
      obtain ⟨rfl, hS3, _⟩ := rv1
      have hS3 : Sep g T1 w3 [R, boxA b1 [.slice a1 (List.length p0.Globals) c1, .slice a2 (List.length p0.Data) c2, .slice a3 (List.length p0.Procs) c3, .int .i64 p0.Main]] := hS3.unb
      refine ⟨st0, ?_⟩
      refine s0 rfl trivial (fun _ => r_nt rfl) rfl (s0 rfl trivial (fun _ => r_zb rfl) rfl (se (t_thenR [(15, .bool (!y1))] ⟨rfl, trivial⟩ fun J => ?_)))
      refine cnd rfl (fun hb3 => ?_) (fun hb3 => ?_)
      · have hm := ctrue hb3 hm
        refine sq2 ?_
        refine rg (pv (r_zi rfl) (nil (t_then ?_)))
        have hm := Option.some.inj hm
        subst hm
        exact rtn (r_blk (r_then (ret1 rfl rfl ⟨_, rfl, _, (Im.trans im1 (Im.trans im2 im3)), ⟨rfl, hS3.sel [0] rfl, trivial⟩⟩)))
      · have hm := cfalse hb3 hm
        refine skp (t_blk (t_then ?_))
        refine sq2 ?_
        refine rg (pv (r_zi rfl) (nil (t_then ?_)))
        have hm := Option.some.inj hm
        subst hm
        exact rtn (ret1 rfl rfl ⟨_, rfl, _, (Im.trans im1 (Im.trans im2 im3)), ⟨rfl, hS3.sel [0] rfl, trivial⟩⟩)

set_option maxRecDepth 100000 in
set_option maxHeartbeats 1000000 in
theorem ir_Check_sim {g : World} {T0 : Nat → Prop} {w0 : World} {R : Assn} {p0 : GModule} {a1 : Option Addr} {c1 : Nat} {a2 : Option Addr} {c2 : Nat} {a3 : Option Addr} {c3 : Nat} {r : Int} (hS : Sep g T0 w0 [R]) (h1 : SlR rGSlot T0 w0 (.slice a1 (List.length p0.Globals) c1) p0.Globals) (h2 : SlR (rSl (rInt .u8)) T0 w0 (.slice a2 (List.length p0.Data) c2) p0.Data) (h3 : SlR rProc T0 w0 (.slice a3 (List.length p0.Procs) c3) p0.Procs) (hm : ir_Check p0 = some r) :
    Calls Try.prog 29 #[.agg #[.slice a1 (List.length p0.Globals) c1, .slice a2 (List.length p0.Data) c2, .slice a3 (List.length p0.Procs) c3, .int .i64 p0.Main]] w0 (RetS T0 w0 fun T w v => v = .int .i64 r ∧ Sep g T w [R] ∧ True) := by
  refine enter (args := [.agg #[.slice a1 (List.length p0.Globals) c1, .slice a2 (List.length p0.Data) c2, .slice a3 (List.length p0.Procs) c3, .int .i64 p0.Main]]) Try.func29 rfl Try.ntmps29 rfl fun J => ?_
  unfold ir_Check at hm
  refine sq2 ?_
  refine rg (wl rfl (bxS (cs := [.slice a1 (List.length p0.Globals) c1, .slice a2 (List.length p0.Data) c2, .slice a3 (List.length p0.Procs) c3, .int .i64 p0.Main]) rfl rfl hS fun w1 b1 im1 hS1 => ?_))
  refine pv (r_zi rfl) (nil (t_then ?_))
  refine sq2 ?_
  refine sq2 ?_
  refine rg (pv (r_fa rfl Try.underlying26 rfl Try.sizeOf23 rfl) (pv (r_ld rfl Try.isAgg23 (hS1.cell0 (i := 0) ⟨rfl, rfl⟩ (j := 1) rfl)) (pv (r_ln rfl Try.underlying23) (pv (r_fa rfl Try.underlying26 rfl Try.sizeOf22 rfl) (pv (r_ld rfl Try.isAgg22 (hS1.cell0 (i := 0) ⟨rfl, rfl⟩ (j := 0) rfl)) (pv (r_ln rfl Try.underlying22) (pv (r_ib rfl rfl rfl) (pv (r_mb rfl) (?_)))))))))
  rcases Bool.eq_false_or_eq_true ((List.length p0.Data : Int) != (List.length p0.Globals : Int)) with hb1 | hb1
  · have hm := ctrue hb1 hm
    refine gF (d0 := 14) rfl rfl (by rw [hb1]; rfl) (gF (d0 := 14) rfl rfl (by rw [hb1]; rfl) (gF (d0 := 14) rfl rfl (by rw [hb1]; rfl) (gF (d0 := 14) rfl rfl (by rw [hb1]; rfl) (pv (r_pkt rfl hb1 rfl) (pv (r_mb rfl) (gF (d0 := 20) rfl rfl rfl (gF (d0 := 20) rfl rfl rfl (gF (d0 := 20) rfl rfl rfl (gF (d0 := 20) rfl rfl rfl (pv (r_pkt rfl rfl rfl) (pv (r_mb rfl) (gF (d0 := 26) rfl rfl rfl (gF (d0 := 26) rfl rfl rfl (gF (d0 := 26) rfl rfl rfl (gF (d0 := 26) rfl rfl rfl (pv (r_pkt rfl rfl rfl) (pv (r_mb rfl) (gF (d0 := 32) rfl rfl rfl (gF (d0 := 32) rfl rfl rfl (gF (d0 := 32) rfl rfl rfl (gF (d0 := 32) rfl rfl rfl (pv (r_pkt rfl rfl rfl) (pv (r_mb rfl) (gF (d0 := 38) rfl rfl rfl (gF (d0 := 38) rfl rfl rfl (gF (d0 := 38) rfl rfl rfl (pv (r_pkt rfl rfl rfl) (pv (r_mb rfl) (gF (d0 := 43) rfl rfl rfl (gF (d0 := 43) rfl rfl rfl (gF (d0 := 43) rfl rfl rfl (gF (d0 := 43) rfl rfl rfl (gF (d0 := 43) rfl rfl rfl (gF (d0 := 43) rfl rfl rfl (pv (r_pkt rfl rfl rfl) (nil (t_thenR [(1, .pointer (some ⟨b1, 0, none⟩)), (50, .bool true)] ⟨rfl, rfl, trivial⟩ fun J => ?_)))))))))))))))))))))))))))))))))))))
    refine cnd (b := true) rfl (fun _ => ?_) (fun h => nomatch h)
    refine sq2 ?_
    refine rg (pv (r_zi rfl) (nil (t_then ?_)))
    have hm := Option.some.inj hm
    subst hm
    exact rtn (r_then (ret1 rfl rfl ⟨_, rfl, _, im1, ⟨rfl, hS1.sel [1] rfl, trivial⟩⟩))
  · have hm := cfalse hb1 hm
    refine gT (d0 := 14) rfl rfl hb1 (pv (r_fa rfl Try.underlying26 rfl Try.sizeOf22 rfl) (gT (d0 := 14) rfl rfl hb1 (pv (r_ld rfl Try.isAgg22 (hS1.cell0 (i := 0) ⟨rfl, rfl⟩ (j := 0) rfl)) (gT (d0 := 14) rfl rfl hb1 (pv (r_ln rfl Try.underlying22) (gT (d0 := 14) rfl rfl hb1 (pv (r_ib rfl rfl rfl) (pv (r_pkf rfl hb1 rfl) (pv (r_mb rfl) (?_))))))))))
    rcases Bool.eq_false_or_eq_true (decide (200 < (List.length p0.Globals : Int))) with hb2 | hb2
    · have hm := ctrue hb2 hm
      refine gF (d0 := 20) rfl rfl (by rw [hb2]; rfl) (gF (d0 := 20) rfl rfl (by rw [hb2]; rfl) (gF (d0 := 20) rfl rfl (by rw [hb2]; rfl) (gF (d0 := 20) rfl rfl (by rw [hb2]; rfl) (pv (r_pkt rfl hb2 rfl) (pv (r_mb rfl) (gF (d0 := 26) rfl rfl rfl (gF (d0 := 26) rfl rfl rfl (gF (d0 := 26) rfl rfl rfl (gF (d0 := 26) rfl rfl rfl (pv (r_pkt rfl rfl rfl) (pv (r_mb rfl) (gF (d0 := 32) rfl rfl rfl (gF (d0 := 32) rfl rfl rfl (gF (d0 := 32) rfl rfl rfl (gF (d0 := 32) rfl rfl rfl (pv (r_pkt rfl rfl rfl) (pv (r_mb rfl) (gF (d0 := 38) rfl rfl rfl (gF (d0 := 38) rfl rfl rfl (gF (d0 := 38) rfl rfl rfl (pv (r_pkt rfl rfl rfl) (pv (r_mb rfl) (gF (d0 := 43) rfl rfl rfl (gF (d0 := 43) rfl rfl rfl (gF (d0 := 43) rfl rfl rfl (gF (d0 := 43) rfl rfl rfl (gF (d0 := 43) rfl rfl rfl (gF (d0 := 43) rfl rfl rfl (pv (r_pkt rfl rfl rfl) (nil (t_thenR [(1, .pointer (some ⟨b1, 0, none⟩)), (50, .bool true)] ⟨rfl, rfl, trivial⟩ fun J => ?_)))))))))))))))))))))))))))))))
      refine cnd (b := true) rfl (fun _ => ?_) (fun h => nomatch h)
      refine sq2 ?_
      refine rg (pv (r_zi rfl) (nil (t_then ?_)))
      have hm := Option.some.inj hm
      subst hm
      exact rtn (r_then (ret1 rfl rfl ⟨_, rfl, _, im1, ⟨rfl, hS1.sel [1] rfl, trivial⟩⟩))
    · have hm := cfalse hb2 hm
      obtain ⟨y1, hx1, hm⟩ := bindS hm
      refine gT (d0 := 20) rfl rfl hb2 (pv (r_fa rfl Try.underlying26 rfl Try.sizeOf22 rfl) (gT (d0 := 20) rfl rfl hb2 (pv (r_ld rfl Try.isAgg22 (hS1.cell0 (i := 0) ⟨rfl, rfl⟩ (j := 0) rfl)) (gT (d0 := 20) rfl rfl hb2 (wl rfl (calS cf45 rfl (ir_slots_sim (p0 := p0.Globals) (hS1.bun [0, 1] [] rfl) (h1.mono im1) hx1) rfl fun v1 T1 w2 im2 rv1 => ?_))))))
      obtain ⟨rfl, hS2, _⟩ := rv1
      have hS2 : Sep g T1 w2 [boxA b1 [.slice a1 (List.length p0.Globals) c1, .slice a2 (List.length p0.Data) c2, .slice a3 (List.length p0.Procs) c3, .int .i64 p0.Main], R] := hS2.unb
      refine gT (d0 := 20) rfl rfl hb2 (pv (r_nt rfl) (pv (r_pkf rfl hb2 rfl) (pv (r_mb rfl) (?_))))
      rcases Bool.eq_false_or_eq_true (!y1) with hb3 | hb3
      · have hm := ctrue hb3 hm
        refine gF (d0 := 26) rfl rfl (by rw [hb3]; rfl) (gF (d0 := 26) rfl rfl (by rw [hb3]; rfl) (gF (d0 := 26) rfl rfl (by rw [hb3]; rfl) (gF (d0 := 26) rfl rfl (by rw [hb3]; rfl) (pv (r_pkt rfl hb3 rfl) (pv (r_mb rfl) (gF (d0 := 32) rfl rfl rfl (gF (d0 := 32) rfl rfl rfl (gF (d0 := 32) rfl rfl rfl (gF (d0 := 32) rfl rfl rfl (pv (r_pkt rfl rfl rfl) (pv (r_mb rfl) (gF (d0 := 38) rfl rfl rfl (gF (d0 := 38) rfl rfl rfl (gF (d0 := 38) rfl rfl rfl (pv (r_pkt rfl rfl rfl) (pv (r_mb rfl) (gF (d0 := 43) rfl rfl rfl (gF (d0 := 43) rfl rfl rfl (gF (d0 := 43) rfl rfl rfl (gF (d0 := 43) rfl rfl rfl (gF (d0 := 43) rfl rfl rfl (gF (d0 := 43) rfl rfl rfl (pv (r_pkt rfl rfl rfl) (nil (t_thenR [(1, .pointer (some ⟨b1, 0, none⟩)), (50, .bool true)] ⟨rfl, rfl, trivial⟩ fun J => ?_)))))))))))))))))))))))))
        refine cnd (b := true) rfl (fun _ => ?_) (fun h => nomatch h)
        refine sq2 ?_
        refine rg (pv (r_zi rfl) (nil (t_then ?_)))
        have hm := Option.some.inj hm
        subst hm
        exact rtn (r_then (ret1 rfl rfl ⟨_, rfl, _, (Im.trans im1 im2), ⟨rfl, hS2.sel [1] rfl, trivial⟩⟩))
      · have hm := cfalse hb3 hm
        refine gT (d0 := 26) rfl rfl hb3 (pv (r_fa rfl Try.underlying26 rfl Try.sizeOf24 rfl) (gT (d0 := 26) rfl rfl hb3 (pv (r_ld rfl Try.isAgg24 (hS2.cell0 (i := 0) ⟨rfl, rfl⟩ (j := 2) rfl)) (gT (d0 := 26) rfl rfl hb3 (pv (r_ln rfl Try.underlying24) (gT (d0 := 26) rfl rfl hb3 (pv (r_ib rfl rfl rfl) (pv (r_pkf rfl hb3 rfl) (pv (r_mb rfl) (?_))))))))))
        rcases Bool.eq_false_or_eq_true (decide ((List.length p0.Procs : Int) < 1)) with hb4 | hb4
        · have hm := ctrue hb4 hm
          refine gF (d0 := 32) rfl rfl (by rw [hb4]; rfl) (gF (d0 := 32) rfl rfl (by rw [hb4]; rfl) (gF (d0 := 32) rfl rfl (by rw [hb4]; rfl) (gF (d0 := 32) rfl rfl (by rw [hb4]; rfl) (pv (r_pkt rfl hb4 rfl) (pv (r_mb rfl) (gF (d0 := 38) rfl rfl rfl (gF (d0 := 38) rfl rfl rfl (gF (d0 := 38) rfl rfl rfl (pv (r_pkt rfl rfl rfl) (pv (r_mb rfl) (gF (d0 := 43) rfl rfl rfl (gF (d0 := 43) rfl rfl rfl (gF (d0 := 43) rfl rfl rfl (gF (d0 := 43) rfl rfl rfl (gF (d0 := 43) rfl rfl rfl (gF (d0 := 43) rfl rfl rfl (pv (r_pkt rfl rfl rfl) (nil (t_thenR [(1, .pointer (some ⟨b1, 0, none⟩)), (50, .bool true)] ⟨rfl, rfl, trivial⟩ fun J => ?_)))))))))))))))))))
          refine cnd (b := true) rfl (fun _ => ?_) (fun h => nomatch h)
          refine sq2 ?_
          refine rg (pv (r_zi rfl) (nil (t_then ?_)))
          have hm := Option.some.inj hm
          subst hm
          exact rtn (r_then (ret1 rfl rfl ⟨_, rfl, _, (Im.trans im1 im2), ⟨rfl, hS2.sel [1] rfl, trivial⟩⟩))
        · have hm := cfalse hb4 hm
          refine gT (d0 := 32) rfl rfl hb4 (pv (r_fa rfl Try.underlying26 rfl Try.sizeOf24 rfl) (gT (d0 := 32) rfl rfl hb4 (pv (r_ld rfl Try.isAgg24 (hS2.cell0 (i := 0) ⟨rfl, rfl⟩ (j := 2) rfl)) (gT (d0 := 32) rfl rfl hb4 (pv (r_ln rfl Try.underlying24) (gT (d0 := 32) rfl rfl hb4 (pv (r_ib rfl rfl rfl) (pv (r_pkf rfl hb4 rfl) (pv (r_mb rfl) (?_))))))))))
          rcases Bool.eq_false_or_eq_true (decide (200 < (List.length p0.Procs : Int))) with hb5 | hb5
          · have hm := ctrue hb5 hm
            refine gF (d0 := 38) rfl rfl (by rw [hb5]; rfl) (gF (d0 := 38) rfl rfl (by rw [hb5]; rfl) (gF (d0 := 38) rfl rfl (by rw [hb5]; rfl) (pv (r_pkt rfl hb5 rfl) (pv (r_mb rfl) (gF (d0 := 43) rfl rfl rfl (gF (d0 := 43) rfl rfl rfl (gF (d0 := 43) rfl rfl rfl (gF (d0 := 43) rfl rfl rfl (gF (d0 := 43) rfl rfl rfl (gF (d0 := 43) rfl rfl rfl (pv (r_pkt rfl rfl rfl) (nil (t_thenR [(1, .pointer (some ⟨b1, 0, none⟩)), (50, .bool true)] ⟨rfl, rfl, trivial⟩ fun J => ?_)))))))))))))
            refine cnd (b := true) rfl (fun _ => ?_) (fun h => nomatch h)
            refine sq2 ?_
            refine rg (pv (r_zi rfl) (nil (t_then ?_)))
            have hm := Option.some.inj hm
            subst hm
            exact rtn (r_then (ret1 rfl rfl ⟨_, rfl, _, (Im.trans im1 im2), ⟨rfl, hS2.sel [1] rfl, trivial⟩⟩))
          · have hm := cfalse hb5 hm
            refine gT (d0 := 38) rfl rfl hb5 (pv (r_fa rfl Try.underlying26 rfl Try.sizeOf3 rfl) (gT (d0 := 38) rfl rfl hb5 (pv (r_ld rfl Try.isAgg3 (hS2.cell0 (i := 0) ⟨rfl, rfl⟩ (j := 3) rfl)) (gT (d0 := 38) rfl rfl hb5 (pv (r_ib rfl rfl rfl) (pv (r_pkf rfl hb5 rfl) (pv (r_mb rfl) (?_))))))))
            rcases Bool.eq_false_or_eq_true (decide (p0.Main < 0)) with hb6 | hb6
            · have hm := ctrue hb6 hm
              refine gF (d0 := 43) rfl rfl (by rw [hb6]; rfl) (gF (d0 := 43) rfl rfl (by rw [hb6]; rfl) (gF (d0 := 43) rfl rfl (by rw [hb6]; rfl) (gF (d0 := 43) rfl rfl (by rw [hb6]; rfl) (gF (d0 := 43) rfl rfl (by rw [hb6]; rfl) (gF (d0 := 43) rfl rfl (by rw [hb6]; rfl) (pv (r_pkt rfl hb6 rfl) (nil (t_thenR [(1, .pointer (some ⟨b1, 0, none⟩)), (50, .bool true)] ⟨rfl, rfl, trivial⟩ fun J => ?_))))))))
              refine cnd (b := true) rfl (fun _ => ?_) (fun h => nomatch h)
              refine sq2 ?_
              refine rg (pv (r_zi rfl) (nil (t_then ?_)))
              have hm := Option.some.inj hm
              subst hm
              exact rtn (r_then (ret1 rfl rfl ⟨_, rfl, _, (Im.trans im1 im2), ⟨rfl, hS2.sel [1] rfl, trivial⟩⟩))
            · have hm := cfalse hb6 hm
              refine gT (d0 := 43) rfl rfl hb6 (pv (r_fa rfl Try.underlying26 rfl Try.sizeOf3 rfl) (gT (d0 := 43) rfl rfl hb6 (pv (r_ld rfl Try.isAgg3 (hS2.cell0 (i := 0) ⟨rfl, rfl⟩ (j := 3) rfl)) (gT (d0 := 43) rfl rfl hb6 (pv (r_fa rfl Try.underlying26 rfl Try.sizeOf24 rfl) (gT (d0 := 43) rfl rfl hb6 (pv (r_ld rfl Try.isAgg24 (hS2.cell0 (i := 0) ⟨rfl, rfl⟩ (j := 2) rfl)) (gT (d0 := 43) rfl rfl hb6 (pv (r_ln rfl Try.underlying24) (gT (d0 := 43) rfl rfl hb6 (pv (r_ib rfl rfl rfl) (pv (r_pkf rfl hb6 rfl) (nil (t_thenR [(1, .pointer (some ⟨b1, 0, none⟩)), (50, .bool (decide ((List.length p0.Procs : Int) ≤ p0.Main)))] ⟨rfl, rfl, trivial⟩ fun J => ?_))))))))))))))
              refine cnd rfl (fun hb7 => ?_) (fun hb7 => ?_)
              · have hm := ctrue hb7 hm
                refine sq2 ?_
                refine rg (pv (r_zi rfl) (nil (t_then ?_)))
                have hm := Option.some.inj hm
                subst hm
                exact rtn (r_then (ret1 rfl rfl ⟨_, rfl, _, (Im.trans im1 im2), ⟨rfl, hS2.sel [1] rfl, trivial⟩⟩))
              · have hm := cfalse hb7 hm
                refine skp (t_then ?_)
                refine sq2 ?_
                refine sq2 ?_
                refine rg (pv (r_fa rfl Try.underlying26 rfl Try.sizeOf23 rfl) (pv (r_ld rfl Try.isAgg23 (hS2.cell0 (i := 0) ⟨rfl, rfl⟩ (j := 1) rfl)) (pv (r_ln rfl Try.underlying23) (pv (r_mi rfl) (nil (t_then ?_))))))
                obtain ⟨o1, ho1, hq1⟩ := bindS hm
                obtain ⟨bd1, hbd1, ho1⟩ := loop_open ho1
                refine blk (wp_loop_ghost (fun m a w3 => ∃ (J : Nat → Value) (T2 : Nat → Prop) (x1 : Int), a = env (nf 93) J [(1, .pointer (some ⟨b1, 0, none⟩)), (52, .slice a2 (List.length p0.Data) c2), (53, .int .i64 (List.length p0.Data : Int)), (54, .int .i64 x1)] ∧ Im T1 w2 T2 w3 ∧ Sep g T2 w3 [boxA b1 [.slice a1 (List.length p0.Globals) c1, .slice a2 (List.length p0.Data) c2, .slice a3 (List.length p0.Procs) c3, .int .i64 p0.Main], R] ∧ loopM bd1 m x1 = some o1) NN ⟨_, _, 0, env_has ⟨rfl, rfl, rfl, rfl, trivial⟩, Im.refl, hS2.sel [0, 1] rfl, ho1⟩ ?_)
                rintro m _ w3 ⟨J, T2, x1, rfl, im3, hS3, ho1⟩
                obtain ⟨m1, z1, rfl, hm, hn1⟩ := loop_round ho1
                rw [hbd1] at hm
                refine sq2 ?_
                refine rg (pv (r_ib rfl rfl rfl) (nil (t_then ?_)))
                refine sq2 ?_
                refine cnd rfl (fun hb8 => ?_) (fun hb8 => ?_)
                · have hm := ctrue hb8 hm
                  refine skp (t_then ?_)
                  refine sq2 ?_
                  refine blk ?_
                  refine sq2 ?_
                  obtain ⟨u1, hx2, hm⟩ := bindS hm
                  obtain ⟨b2, of1, cs1, k1, cp1, hv1, hp1, hl1, he1, hr1, hc1, hT1⟩ := (h2.mono (Im.trans im1 (Im.trans im2 im3))).ixT hx2 rfl
                  obtain ⟨a4, c4, rfl, h4⟩ := rSl_open hr1
                  refine rg (pv (r_mi rfl) (pv (r_ixe hv1 rfl Try.underlying23 Try.sizeOf96 hp1 hl1 he1) (pv (r_ld rfl Try.isAgg96 (hc1.get (j := 0) rfl)) (pv (r_zi rfl) (pv (r_zs rfl) (nil (t_then ?_)))))))
                  refine sq2 ?_
                  obtain ⟨u2, hx3, hm⟩ := bindS hm
                  obtain ⟨b3, of2, cs2, k2, cp2, hv2, hp2, hl2, he2, hr2, hc2, hT2⟩ := (h1.mono (Im.trans im1 (Im.trans im2 im3))).ixT hx3 rfl
                  cases rGSlot_open hr2
                  refine rg (pv (r_ms rfl) (pv (r_ln rfl Try.underlying96) (pv (r_fa rfl Try.underlying26 rfl Try.sizeOf22 rfl) (pv (r_ld rfl Try.isAgg22 (hS3.cell0 (i := 0) ⟨rfl, rfl⟩ (j := 0) rfl)) (pv (r_mi rfl) (pv (r_ixe hv2 rfl Try.underlying22 Try.sizeOf98 hp2 hl2 he2) (pv (r_fa rfl Try.underlying98 rfl Try.sizeOf3 rfl) (pv (r_ld rfl Try.isAgg3 (hc2.get (j := 1) rfl)) (pv (r_ib rfl rfl rfl) (nil (t_thenR [(1, .pointer (some ⟨b1, 0, none⟩)), (52, .slice a2 (List.length p0.Data) c2), (53, .int .i64 (List.length p0.Data : Int)), (54, .int .i64 x1), (67, .bool ((List.length u1 : Int) != u2.Size))] ⟨rfl, rfl, rfl, rfl, rfl, trivial⟩ fun J => ?_)))))))))))
                  refine cnd rfl (fun hb9 => ?_) (fun hb9 => ?_)
                  · have hm := ctrue hb9 hm
                    refine sq2 ?_
                    refine rg (pv (r_zi rfl) (nil (t_thenR [(2, .int .i64 3)] ⟨rfl, trivial⟩ fun J => ?_)))
                    have hm := Option.some.inj hm
                    subst hm
                    have hn1 : _ = Lp.ret _ := hn1
                    subst hn1
                    have hm := thn_ret hq1
                    have hm := Option.some.inj hm
                    subst hm
                    exact rtn (r_blk (r_then (r_then (r_blk (r_then (ret1 rfl rfl ⟨_, rfl, _, (Im.trans im1 (Im.trans im2 im3)), ⟨rfl, hS3.sel [1] rfl, trivial⟩⟩))))))
                  · have hm := cfalse hb9 hm
                    refine skp (t_blk (t_then ?_))
                    have hm := Option.some.inj hm
                    subst hm
                    exact rg (pv (r_ib rfl rfl rfl) (pv (r_mi rfl) (nil (t_then ⟨m1, Nat.lt_succ_self _, _, _, (IntKind.wrap .i64 (x1 + 1)), env_has ⟨rfl, rfl, rfl, rfl, trivial⟩, im3, hS3.sel [0, 1] rfl, hn1⟩))))
                · have hm := cfalse hb8 hm
                  have hm := Option.some.inj hm
                  subst hm
                  have hn1 : _ = Lp.brk _ := hn1
                  subst hn1
                  have hm := thn_brk hq1
                  refine xt (x_then (x_then (x_eq (t_then ?_))))
                  refine sq2 ?_
                  refine sq2 ?_
                  obtain ⟨u3, hx4, hm⟩ := bindS hm
                  obtain ⟨b4, of3, cs3, k3, cp3, hv3, hp3, hl3, he3, hr3, hc3, hT3⟩ := (h3.mono (Im.trans im1 (Im.trans im2 im3))).ixT hx4 rfl
                  obtain ⟨a5, c5, a6, c6, rfl, h5, h6⟩ := rProc_open hr3
                  refine rg (pv (r_fa rfl Try.underlying26 rfl Try.sizeOf24 rfl) (pv (r_ld rfl Try.isAgg24 (hS3.cell0 (i := 0) ⟨rfl, rfl⟩ (j := 2) rfl)) (pv (r_fa rfl Try.underlying26 rfl Try.sizeOf3 rfl) (pv (r_ld rfl Try.isAgg3 (hS3.cell0 (i := 0) ⟨rfl, rfl⟩ (j := 3) rfl)) (pv (r_ixe hv3 rfl Try.underlying24 Try.sizeOf31 hp3 hl3 he3) (pv (r_ldS rfl Try.isAgg31 Try.sizeOf31 rfl hc3 (cs := [.string ⟨u3.Name.toArray⟩, .bool u3.Void, .int .i64 u3.Params, .int .i64 u3.Regs, .slice a5 (List.length u3.Objects) c5, .slice a6 (List.length u3.Blocks) c6])) (wl rfl (alS (zs := [.string ⟨([] : List UInt8).toArray⟩, .bool false, .int .i64 0, .int .i64 0, .slice none 0 0, .slice none 0 0]) Try.zeroValue31 rfl hS3 fun w4 b5 im4 hS4 => ?_))))))))
                  refine wl rfl (st0B (q := 0) hS4 ⟨rfl, rfl⟩ rfl rfl rfl Try.sizeOf31 rfl rfl rfl fun w5 im5 hS5 => ?_)
                  have hS5 : Sep g T2 w5 [boxA b5 [.string ⟨u3.Name.toArray⟩, .bool u3.Void, .int .i64 u3.Params, .int .i64 u3.Regs, .slice a5 (List.length u3.Objects) c5, .slice a6 (List.length u3.Blocks) c6], boxA b1 [.slice a1 (List.length p0.Globals) c1, .slice a2 (List.length p0.Data) c2, .slice a3 (List.length p0.Procs) c3, .int .i64 p0.Main], R] := hS5
                  refine nil (t_thenR [(1, .pointer (some ⟨b1, 0, none⟩)), (5, .pointer (some ⟨b5, 0, none⟩))] ⟨rfl, rfl, trivial⟩ fun J => ?_)
                  refine sq2 ?_
                  refine rg (pv (r_fa rfl Try.underlying31 rfl Try.sizeOf3 rfl) (pv (r_ld rfl Try.isAgg3 (hS5.cell0 (i := 0) ⟨rfl, rfl⟩ (j := 2) rfl)) (pv (r_ib rfl rfl rfl) (pv (r_mb rfl) (?_)))))
                  rcases Bool.eq_false_or_eq_true (u3.Params != 0) with hb10 | hb10
                  · have hm := ctrue hb10 hm
                    refine gF (d0 := 78) rfl rfl (by rw [hb10]; rfl) (gF (d0 := 78) rfl rfl (by rw [hb10]; rfl) (pv (r_pkt rfl hb10 rfl) (nil (t_thenR [(1, .pointer (some ⟨b1, 0, none⟩)), (81, .bool true)] ⟨rfl, rfl, trivial⟩ fun J => ?_))))
                    refine cnd (b := true) rfl (fun _ => ?_) (fun h => nomatch h)
                    refine sq2 ?_
                    refine rg (pv (r_zi rfl) (nil (t_then ?_)))
                    have hm := Option.some.inj hm
                    subst hm
                    exact rtn (r_then (ret1 rfl rfl ⟨_, rfl, _, (Im.trans im1 (Im.trans im2 (Im.trans im3 (Im.trans im4 im5)))), ⟨rfl, hS5.sel [2] rfl, trivial⟩⟩))
                  · have hm := cfalse hb10 hm
                    refine gT (d0 := 78) rfl rfl hb10 (pv (r_fa rfl Try.underlying31 rfl Try.sizeOf4 rfl) (gT (d0 := 78) rfl rfl hb10 (pv (r_ld rfl Try.isAgg4 (hS5.cell0 (i := 0) ⟨rfl, rfl⟩ (j := 1) rfl)) (pv (r_pkf rfl hb10 rfl) (nil (t_thenR [(1, .pointer (some ⟨b1, 0, none⟩)), (81, .bool u3.Void)] ⟨rfl, rfl, trivial⟩ fun J => ?_))))))
                    refine cnd rfl (fun hb11 => ?_) (fun hb11 => ?_)
                    · have hm := ctrue hb11 hm
                      refine sq2 ?_
                      refine rg (pv (r_zi rfl) (nil (t_then ?_)))
                      have hm := Option.some.inj hm
                      subst hm
                      exact rtn (r_then (ret1 rfl rfl ⟨_, rfl, _, (Im.trans im1 (Im.trans im2 (Im.trans im3 (Im.trans im4 im5)))), ⟨rfl, hS5.sel [2] rfl, trivial⟩⟩))
                    · have hm := cfalse hb11 hm
                      refine skp (t_then ?_)
                      refine sq2 ?_
                      refine sq2 ?_
                      refine rg (pv (r_fa rfl Try.underlying26 rfl Try.sizeOf24 rfl) (pv (r_ld rfl Try.isAgg24 (hS5.cell0 (i := 1) ⟨rfl, rfl⟩ (j := 2) rfl)) (pv (r_ln rfl Try.underlying24) (pv (r_mi rfl) (nil (t_then ?_))))))
                      obtain ⟨o1, ho1, hq1⟩ := bindS hm
                      obtain ⟨bd1, hbd1, ho1⟩ := loop_open ho1
                      refine blk (wp_loop_ghost (fun m a w6 => ∃ (J : Nat → Value) (T3 : Nat → Prop) (x2 : Int), a = env (nf 93) J [(1, .pointer (some ⟨b1, 0, none⟩)), (84, .int .i64 (List.length p0.Procs : Int)), (85, .int .i64 x2)] ∧ Im T2 w5 T3 w6 ∧ Sep g T3 w6 [boxA b1 [.slice a1 (List.length p0.Globals) c1, .slice a2 (List.length p0.Data) c2, .slice a3 (List.length p0.Procs) c3, .int .i64 p0.Main], R] ∧ loopM bd1 m x2 = some o1) NN ⟨_, _, 0, env_has ⟨rfl, rfl, rfl, trivial⟩, Im.refl, hS5.sel [1, 2] rfl, ho1⟩ ?_)
                      rintro m _ w6 ⟨J, T3, x2, rfl, im6, hS6, ho1⟩
                      obtain ⟨m1, z1, rfl, hm, hn1⟩ := loop_round ho1
                      rw [hbd1] at hm
                      refine sq2 ?_
                      refine rg (pv (r_ib rfl rfl rfl) (nil (t_then ?_)))
                      refine sq2 ?_
                      refine cnd rfl (fun hb12 => ?_) (fun hb12 => ?_)
                      · have hm := ctrue hb12 hm
                        refine skp (t_then ?_)
                        refine sq2 ?_
                        refine blk ?_
                        refine sq2 ?_
                        refine rg (pv (r_mi rfl) (pv (r_zi rfl) (nil (t_then ?_))))
                        refine sq2 ?_
                        obtain ⟨y2, hx5, hm⟩ := bindS hm
                        refine rg (pv (r_ldS rfl Try.isAgg26 Try.sizeOf26 rfl (hS6.cells0 (i := 0) ⟨rfl, rfl⟩ (o := 0) rfl) (cs := [.slice a1 (List.length p0.Globals) c1, .slice a2 (List.length p0.Data) c2, .slice a3 (List.length p0.Procs) c3, .int .i64 p0.Main])) (pv (r_mi rfl) (wl rfl (calS cf46 rfl (ir_Proc_sim (p0 := p0) (p1 := x2) (hS6.bun [0, 1] [] rfl) (h1.mono (Im.trans im1 (Im.trans im2 (Im.trans im3 (Im.trans im4 (Im.trans im5 im6)))))) (h2.mono (Im.trans im1 (Im.trans im2 (Im.trans im3 (Im.trans im4 (Im.trans im5 im6)))))) (h3.mono (Im.trans im1 (Im.trans im2 (Im.trans im3 (Im.trans im4 (Im.trans im5 im6)))))) hx5) rfl fun v2 T4 w7 im7 rv2 => ?_))))
                        obtain ⟨rfl, hS7, _⟩ := rv2
                        have hS7 : Sep g T4 w7 [boxA b1 [.slice a1 (List.length p0.Globals) c1, .slice a2 (List.length p0.Data) c2, .slice a3 (List.length p0.Procs) c3, .int .i64 p0.Main], R] := hS7.unb
                        refine pv (r_ib rfl rfl rfl) (nil (t_thenR [(1, .pointer (some ⟨b1, 0, none⟩)), (84, .int .i64 (List.length p0.Procs : Int)), (85, .int .i64 x2), (91, .bool (y2 != 0))] ⟨rfl, rfl, rfl, rfl, trivial⟩ fun J => ?_))
                        refine cnd rfl (fun hb13 => ?_) (fun hb13 => ?_)
                        · have hm := ctrue hb13 hm
                          refine sq2 ?_
                          refine rg (pv (r_zi rfl) (nil (t_then ?_)))
                          have hm := Option.some.inj hm
                          subst hm
                          have hn1 : _ = Lp.ret _ := hn1
                          subst hn1
                          have hm := thn_ret hq1
                          have hm := Option.some.inj hm
                          subst hm
                          exact rtn (r_blk (r_then (r_then (r_blk (r_then (ret1 rfl rfl ⟨_, rfl, _, (Im.trans im1 (Im.trans im2 (Im.trans im3 (Im.trans im4 (Im.trans im5 (Im.trans im6 im7)))))), ⟨rfl, hS7.sel [1] rfl, trivial⟩⟩))))))
                        · have hm := cfalse hb13 hm
                          refine skp (t_blk (t_then ?_))
                          have hm := Option.some.inj hm
                          subst hm
                          exact rg (pv (r_ib rfl rfl rfl) (pv (r_mi rfl) (nil (t_then ⟨m1, Nat.lt_succ_self _, _, _, (IntKind.wrap .i64 (x2 + 1)), env_has ⟨rfl, rfl, rfl, trivial⟩, (Im.trans im6 im7), hS7.sel [0, 1] rfl, hn1⟩))))
                      · have hm := cfalse hb12 hm
                        have hm := Option.some.inj hm
                        subst hm
                        have hn1 : _ = Lp.brk _ := hn1
                        subst hn1
                        have hm := thn_brk hq1
                        refine xt (x_then (x_then (x_eq (t_then ?_))))
                        refine sq2 ?_
                        refine rg (pv (r_zi rfl) (nil (t_then ?_)))
                        have hm := Option.some.inj hm
                        subst hm
                        exact rtn (ret1 rfl rfl ⟨_, rfl, _, (Im.trans im1 (Im.trans im2 (Im.trans im3 (Im.trans im4 (Im.trans im5 im6))))), ⟨rfl, hS6.sel [1] rfl, trivial⟩⟩)

set_option maxRecDepth 100000 in
set_option maxHeartbeats 1000000 in
theorem law17_Right_sim {g : World} {T0 : Nat → Prop} {w0 : World} {R : Assn} {p0 : GModule} {a1 : Option Addr} {c1 : Nat} {a2 : Option Addr} {c2 : Nat} {a3 : Option Addr} {c3 : Nat} {p1 : Int} {r : Bool} (hS : Sep g T0 w0 [R]) (h1 : SlR rGSlot T0 w0 (.slice a1 (List.length p0.Globals) c1) p0.Globals) (h2 : SlR (rSl (rInt .u8)) T0 w0 (.slice a2 (List.length p0.Data) c2) p0.Data) (h3 : SlR rProc T0 w0 (.slice a3 (List.length p0.Procs) c3) p0.Procs) (hm : law17_Right p0 p1 = some r) :
    Calls Try.prog 15 #[.agg #[.slice a1 (List.length p0.Globals) c1, .slice a2 (List.length p0.Data) c2, .slice a3 (List.length p0.Procs) c3, .int .i64 p0.Main], .int .i64 p1] w0 (RetS T0 w0 fun T w v => v = .bool r ∧ Sep g T w [R] ∧ True) := by
  refine enter (args := [.agg #[.slice a1 (List.length p0.Globals) c1, .slice a2 (List.length p0.Data) c2, .slice a3 (List.length p0.Procs) c3, .int .i64 p0.Main], .int .i64 p1]) Try.func15 rfl Try.ntmps15 rfl fun J => ?_
  unfold law17_Right at hm
  refine sq2 ?_
  refine rg (wl rfl (bxS (cs := [.slice a1 (List.length p0.Globals) c1, .slice a2 (List.length p0.Data) c2, .slice a3 (List.length p0.Procs) c3, .int .i64 p0.Main]) rfl rfl hS fun w1 b1 im1 hS1 => ?_))
  refine pv (r_zb rfl) (nil (t_then ?_))
  refine sq2 ?_
  obtain ⟨y1, hx1, hm⟩ := bindS hm
  refine rg (pv (r_ldS rfl Try.isAgg26 Try.sizeOf26 rfl (hS1.cells0 (i := 0) ⟨rfl, rfl⟩ (o := 0) rfl) (cs := [.slice a1 (List.length p0.Globals) c1, .slice a2 (List.length p0.Data) c2, .slice a3 (List.length p0.Procs) c3, .int .i64 p0.Main])) (wl rfl (calS cf28 rfl (law13_Few_sim (p0 := p0) (hS1.bun [0, 1] [] rfl) (h1.mono im1) (h2.mono im1) (h3.mono im1) hx1) rfl fun v1 T1 w2 im2 rv1 => ?_)))
  obtain ⟨rfl, hS2, _⟩ := rv1
  have hS2 : Sep g T1 w2 [boxA b1 [.slice a1 (List.length p0.Globals) c1, .slice a2 (List.length p0.Data) c2, .slice a3 (List.length p0.Procs) c3, .int .i64 p0.Main], R] := hS2.unb
  refine pv (r_mb rfl) (?_)
  rcases Bool.eq_false_or_eq_true y1 with hb1 | hb1
  · have hm := ctrue hb1 hm
    refine gT (d0 := 7) rfl rfl hb1 (pv (r_mi rfl) (gT (d0 := 7) rfl rfl hb1 (pv (r_ib rfl rfl rfl) (pv (r_pkt rfl hb1 rfl) (pv (r_mb rfl) (?_))))))
    rcases Bool.eq_false_or_eq_true (decide (0 ≤ p1)) with hb2 | hb2
    · have hm := ctrue hb2 hm
      refine gT (d0 := 11) rfl rfl hb2 (pv (r_mi rfl) (gT (d0 := 11) rfl rfl hb2 (pv (r_fa rfl Try.underlying26 rfl Try.sizeOf24 rfl) (gT (d0 := 11) rfl rfl hb2 (pv (r_ld rfl Try.isAgg24 (hS2.cell0 (i := 0) ⟨rfl, rfl⟩ (j := 2) rfl)) (gT (d0 := 11) rfl rfl hb2 (pv (r_ln rfl Try.underlying24) (gT (d0 := 11) rfl rfl hb2 (pv (r_ib rfl rfl rfl) (pv (r_pkt rfl hb2 rfl) (pv (r_mb rfl) (?_))))))))))))
      rcases Bool.eq_false_or_eq_true (decide (p1 < (List.length p0.Procs : Int))) with hb3 | hb3
      · have hm := ctrue hb3 hm
        obtain ⟨u1, hx2, hm⟩ := bindS hm
        obtain ⟨b2, of1, cs1, k1, cp1, hv1, hp1, hl1, he1, hr1, hc1, hT1⟩ := (h3.mono (Im.trans im1 im2)).ixT hx2 rfl
        obtain ⟨a4, c4, a5, c5, rfl, h4, h5⟩ := rProc_open hr1
        refine gT (d0 := 18) rfl rfl hb3 (pv (r_fa rfl Try.underlying26 rfl Try.sizeOf24 rfl) (gT (d0 := 18) rfl rfl hb3 (pv (r_ld rfl Try.isAgg24 (hS2.cell0 (i := 0) ⟨rfl, rfl⟩ (j := 2) rfl)) (gT (d0 := 18) rfl rfl hb3 (pv (r_mi rfl) (gT (d0 := 18) rfl rfl hb3 (pv (r_ixe hv1 rfl Try.underlying24 Try.sizeOf31 hp1 hl1 he1) (gT (d0 := 18) rfl rfl hb3 (pv (r_fa rfl Try.underlying31 rfl Try.sizeOf3 rfl) (gT (d0 := 18) rfl rfl hb3 (pv (r_ld rfl Try.isAgg3 (hc1.get (j := 3) rfl)) (gT (d0 := 18) rfl rfl hb3 (pv (r_ib rfl rfl rfl) (pv (r_pkt rfl hb3 rfl) (pv (r_mb rfl) (?_))))))))))))))))
        rcases Bool.eq_false_or_eq_true (decide (u1.Regs ≤ 40)) with hb4 | hb4
        · have hm := ctrue hb4 hm
          obtain ⟨y2, hx3, hm⟩ := bindS hm
          refine gT (d0 := 27) rfl rfl hb4 (pv (r_ldS rfl Try.isAgg26 Try.sizeOf26 rfl (hS2.cells0 (i := 0) ⟨rfl, rfl⟩ (o := 0) rfl) (cs := [.slice a1 (List.length p0.Globals) c1, .slice a2 (List.length p0.Data) c2, .slice a3 (List.length p0.Procs) c3, .int .i64 p0.Main])) (gT (d0 := 27) rfl rfl hb4 (wl rfl (calS cf29 rfl (ir_Check_sim (p0 := p0) (hS2.bun [1] [] rfl) (h1.mono (Im.trans im1 im2)) (h2.mono (Im.trans im1 im2)) (h3.mono (Im.trans im1 im2)) hx3) rfl fun v2 T2 w3 im3 rv2 => ?_))))
          obtain ⟨rfl, hS3, _⟩ := rv2
          have hS3 : Sep g T2 w3 [R] := hS3.unb
          refine gT (d0 := 27) rfl rfl hb4 (pv (r_ib rfl rfl rfl) (pv (r_pkt rfl hb4 rfl) (pv (r_zb rfl) (nil (t_thenR [(4, .bool (y2 == 0))] ⟨rfl, trivial⟩ fun J => ?_)))))
          have hm := Option.some.inj hm
          subst hm
          exact rtn (ret1 rfl rfl ⟨_, rfl, _, (Im.trans im1 (Im.trans im2 im3)), ⟨rfl, hS3.sel [0] rfl, trivial⟩⟩)
        · have hm := cfalse hb4 hm
          refine gF (d0 := 27) rfl rfl (by rw [hb4]; rfl) (gF (d0 := 27) rfl rfl (by rw [hb4]; rfl) (gF (d0 := 27) rfl rfl (by rw [hb4]; rfl) (pv (r_pkf rfl hb4 rfl) (pv (r_zb rfl) (nil (t_thenR [(4, .bool false)] ⟨rfl, trivial⟩ fun J => ?_))))))
          have hm := Option.some.inj hm
          subst hm
          exact rtn (ret1 rfl rfl ⟨_, rfl, _, (Im.trans im1 im2), ⟨rfl, hS2.sel [1] rfl, trivial⟩⟩)
      · have hm := cfalse hb3 hm
        refine gF (d0 := 18) rfl rfl (by rw [hb3]; rfl) (gF (d0 := 18) rfl rfl (by rw [hb3]; rfl) (gF (d0 := 18) rfl rfl (by rw [hb3]; rfl) (gF (d0 := 18) rfl rfl (by rw [hb3]; rfl) (gF (d0 := 18) rfl rfl (by rw [hb3]; rfl) (gF (d0 := 18) rfl rfl (by rw [hb3]; rfl) (gF (d0 := 18) rfl rfl (by rw [hb3]; rfl) (pv (r_pkf rfl hb3 rfl) (pv (r_mb rfl) (gF (d0 := 27) rfl rfl rfl (gF (d0 := 27) rfl rfl rfl (gF (d0 := 27) rfl rfl rfl (pv (r_pkf rfl rfl rfl) (pv (r_zb rfl) (nil (t_thenR [(4, .bool false)] ⟨rfl, trivial⟩ fun J => ?_)))))))))))))))
        have hm := Option.some.inj hm
        subst hm
        exact rtn (ret1 rfl rfl ⟨_, rfl, _, (Im.trans im1 im2), ⟨rfl, hS2.sel [1] rfl, trivial⟩⟩)
    · have hm := cfalse hb2 hm
      refine gF (d0 := 11) rfl rfl (by rw [hb2]; rfl) (gF (d0 := 11) rfl rfl (by rw [hb2]; rfl) (gF (d0 := 11) rfl rfl (by rw [hb2]; rfl) (gF (d0 := 11) rfl rfl (by rw [hb2]; rfl) (gF (d0 := 11) rfl rfl (by rw [hb2]; rfl) (pv (r_pkf rfl hb2 rfl) (pv (r_mb rfl) (gF (d0 := 18) rfl rfl rfl (gF (d0 := 18) rfl rfl rfl (gF (d0 := 18) rfl rfl rfl (gF (d0 := 18) rfl rfl rfl (gF (d0 := 18) rfl rfl rfl (gF (d0 := 18) rfl rfl rfl (gF (d0 := 18) rfl rfl rfl (pv (r_pkf rfl rfl rfl) (pv (r_mb rfl) (gF (d0 := 27) rfl rfl rfl (gF (d0 := 27) rfl rfl rfl (gF (d0 := 27) rfl rfl rfl (pv (r_pkf rfl rfl rfl) (pv (r_zb rfl) (nil (t_thenR [(4, .bool false)] ⟨rfl, trivial⟩ fun J => ?_))))))))))))))))))))))
      have hm := Option.some.inj hm
      subst hm
      exact rtn (ret1 rfl rfl ⟨_, rfl, _, (Im.trans im1 im2), ⟨rfl, hS2.sel [1] rfl, trivial⟩⟩)
  · have hm := cfalse hb1 hm
    refine gF (d0 := 7) rfl rfl (by rw [hb1]; rfl) (gF (d0 := 7) rfl rfl (by rw [hb1]; rfl) (pv (r_pkf rfl hb1 rfl) (pv (r_mb rfl) (gF (d0 := 11) rfl rfl rfl (gF (d0 := 11) rfl rfl rfl (gF (d0 := 11) rfl rfl rfl (gF (d0 := 11) rfl rfl rfl (gF (d0 := 11) rfl rfl rfl (pv (r_pkf rfl rfl rfl) (pv (r_mb rfl) (gF (d0 := 18) rfl rfl rfl (gF (d0 := 18) rfl rfl rfl (gF (d0 := 18) rfl rfl rfl (gF (d0 := 18) rfl rfl rfl (gF (d0 := 18) rfl rfl rfl (gF (d0 := 18) rfl rfl rfl (gF (d0 := 18) rfl rfl rfl (pv (r_pkf rfl rfl rfl) (pv (r_mb rfl) (gF (d0 := 27) rfl rfl rfl (gF (d0 := 27) rfl rfl rfl (gF (d0 := 27) rfl rfl rfl (pv (r_pkf rfl rfl rfl) (pv (r_zb rfl) (nil (t_thenR [(4, .bool false)] ⟨rfl, trivial⟩ fun J => ?_))))))))))))))))))))))))))
    have hm := Option.some.inj hm
    subst hm
    exact rtn (ret1 rfl rfl ⟨_, rfl, _, (Im.trans im1 im2), ⟨rfl, hS2.sel [1] rfl, trivial⟩⟩)

set_option maxRecDepth 100000 in
set_option maxHeartbeats 1000000 in
theorem law24_few_sim {g : World} {T0 : Nat → Prop} {w0 : World} {R : Assn} {p0 : GModule} {a1 : Option Addr} {c1 : Nat} {a2 : Option Addr} {c2 : Nat} {a3 : Option Addr} {c3 : Nat} {p1 : Int} {r : Bool} (hS : Sep g T0 w0 [R]) (h1 : SlR rGSlot T0 w0 (.slice a1 (List.length p0.Globals) c1) p0.Globals) (h2 : SlR (rSl (rInt .u8)) T0 w0 (.slice a2 (List.length p0.Data) c2) p0.Data) (h3 : SlR rProc T0 w0 (.slice a3 (List.length p0.Procs) c3) p0.Procs) (hm : law24_few p0 p1 = some r) :
    Calls Try.prog 6 #[.agg #[.slice a1 (List.length p0.Globals) c1, .slice a2 (List.length p0.Data) c2, .slice a3 (List.length p0.Procs) c3, .int .i64 p0.Main], .int .i64 p1] w0 (RetS T0 w0 fun T w v => v = .bool r ∧ Sep g T w [R] ∧ True) := by
  refine enter (args := [.agg #[.slice a1 (List.length p0.Globals) c1, .slice a2 (List.length p0.Data) c2, .slice a3 (List.length p0.Procs) c3, .int .i64 p0.Main], .int .i64 p1]) Try.func6 rfl Try.ntmps6 rfl fun J => ?_
  unfold law24_few at hm
  refine sq2 ?_
  refine rg (wl rfl (bxS (cs := [.slice a1 (List.length p0.Globals) c1, .slice a2 (List.length p0.Data) c2, .slice a3 (List.length p0.Procs) c3, .int .i64 p0.Main]) rfl rfl hS fun w1 b1 im1 hS1 => ?_))
  refine pv (r_zb rfl) (nil (t_then ?_))
  refine sq2 ?_
  obtain ⟨y1, hx1, hm⟩ := bindS hm
  refine rg (pv (r_ldS rfl Try.isAgg26 Try.sizeOf26 rfl (hS1.cells0 (i := 0) ⟨rfl, rfl⟩ (o := 0) rfl) (cs := [.slice a1 (List.length p0.Globals) c1, .slice a2 (List.length p0.Data) c2, .slice a3 (List.length p0.Procs) c3, .int .i64 p0.Main])) (pv (r_mi rfl) (wl rfl (calS cf15 rfl (law17_Right_sim (p0 := p0) (p1 := p1) (hS1.bun [0, 1] [] rfl) (h1.mono im1) (h2.mono im1) (h3.mono im1) hx1) rfl fun v1 T1 w2 im2 rv1 => ?_))))
  obtain ⟨rfl, hS2, _⟩ := rv1
  have hS2 : Sep g T1 w2 [boxA b1 [.slice a1 (List.length p0.Globals) c1, .slice a2 (List.length p0.Data) c2, .slice a3 (List.length p0.Procs) c3, .int .i64 p0.Main], R] := hS2.unb
  refine pv (r_mb rfl) (?_)
  rcases Bool.eq_false_or_eq_true y1 with hb1 | hb1
  · have hm := ctrue hb1 hm
    obtain ⟨u1, hx2, hm⟩ := bindS hm
    obtain ⟨b2, of1, cs1, k1, cp1, hv1, hp1, hl1, he1, hr1, hc1, hT1⟩ := (h3.mono (Im.trans im1 im2)).ixT hx2 rfl
    obtain ⟨a4, c4, a5, c5, rfl, h4, h5⟩ := rProc_open hr1
    refine gT (d0 := 8) rfl rfl hb1 (pv (r_fa rfl Try.underlying26 rfl Try.sizeOf24 rfl) (gT (d0 := 8) rfl rfl hb1 (pv (r_ld rfl Try.isAgg24 (hS2.cell0 (i := 0) ⟨rfl, rfl⟩ (j := 2) rfl)) (gT (d0 := 8) rfl rfl hb1 (pv (r_mi rfl) (gT (d0 := 8) rfl rfl hb1 (pv (r_ixe hv1 rfl Try.underlying24 Try.sizeOf31 hp1 hl1 he1) (gT (d0 := 8) rfl rfl hb1 (pv (r_fa rfl Try.underlying31 rfl Try.sizeOf29 rfl) (gT (d0 := 8) rfl rfl hb1 (pv (r_ld rfl Try.isAgg29 (hc1.get (j := 5) rfl)) (gT (d0 := 8) rfl rfl hb1 (pv (r_ln rfl Try.underlying29) (gT (d0 := 8) rfl rfl hb1 (pv (r_ib rfl rfl rfl) (pv (r_pkt rfl hb1 rfl) (pv (r_zb rfl) (nil (t_thenR [(4, .bool (decide ((List.length u1.Blocks : Int) ≤ 12)))] ⟨rfl, trivial⟩ fun J => ?_)))))))))))))))))))
    have hm := Option.some.inj hm
    subst hm
    exact rtn (ret1 rfl rfl ⟨_, rfl, _, (Im.trans im1 im2), ⟨rfl, hS2.sel [1] rfl, trivial⟩⟩)
  · have hm := cfalse hb1 hm
    refine gF (d0 := 8) rfl rfl (by rw [hb1]; rfl) (gF (d0 := 8) rfl rfl (by rw [hb1]; rfl) (gF (d0 := 8) rfl rfl (by rw [hb1]; rfl) (gF (d0 := 8) rfl rfl (by rw [hb1]; rfl) (gF (d0 := 8) rfl rfl (by rw [hb1]; rfl) (gF (d0 := 8) rfl rfl (by rw [hb1]; rfl) (gF (d0 := 8) rfl rfl (by rw [hb1]; rfl) (gF (d0 := 8) rfl rfl (by rw [hb1]; rfl) (pv (r_pkf rfl hb1 rfl) (pv (r_zb rfl) (nil (t_thenR [(4, .bool false)] ⟨rfl, trivial⟩ fun J => ?_)))))))))))
    have hm := Option.some.inj hm
    subst hm
    exact rtn (ret1 rfl rfl ⟨_, rfl, _, (Im.trans im1 im2), ⟨rfl, hS2.sel [1] rfl, trivial⟩⟩)

set_option maxRecDepth 100000 in
set_option maxHeartbeats 1000000 in
theorem alloc_reach_at_sim {g : World} {T0 : Nat → Prop} {w0 : World} {R : Assn} {p0 : AllocReach} {b_p0 o_p0 : Nat} {H_p0 : List Value → Assn} {p1 : Int} {r : AllocReach} (hS : Sep g T0 w0 [R, H_p0 [.int .i64 p0.r, .int .i64 p0.from_, .int .i64 p0.to, .bool p0.is]]) (hL_p0 : Ln b_p0 o_p0 H_p0) (hm : alloc_reach_at p0 p1 = some r) :
    Calls Try.prog 30 #[.pointer (some ⟨b_p0, o_p0, none⟩), .int .i64 p1] w0 (RetS T0 w0 fun T w v => v = .tuple #[] ∧ Sep g T w [R, H_p0 [.int .i64 r.r, .int .i64 r.from_, .int .i64 r.to, .bool r.is]] ∧ True) := by
  refine enter (args := [.pointer (some ⟨b_p0, o_p0, none⟩), .int .i64 p1]) Try.func30 rfl Try.ntmps30 rfl fun J => ?_
  unfold alloc_reach_at at hm
  refine sq2 ?_
  refine sq2 ?_
  refine rg (pv (r_mp rfl) (pv (r_nc rfl) (pv (r_fa rfl Try.underlying60 rfl Try.sizeOf4 rfl) (pv (r_ld rfl Try.isAgg4 (hS.cellB (i := 1) ⟨rfl, rfl⟩ hL_p0 (j := 3) rfl)) (pv (r_nt rfl) (nil (t_then ?_)))))))
  refine cnd rfl (fun hb1 => ?_) (fun hb1 => ?_)
  · have hm := ctrue hb1 hm
    refine sq2 ?_
    refine rg (pv (r_mp rfl) (pv (r_mp rfl) (pv (r_mp rfl) (pv (r_mi rfl) (pv (r_mi rfl) (pv (r_nc rfl) (pv (r_fa rfl Try.underlying60 rfl Try.sizeOf3 rfl) (wl rfl (stB (q := 1) (j := 1) hS ⟨rfl, rfl⟩ hL_p0 rfl rfl rfl Try.sizeOf3 rfl rfl rfl fun w1 im1 hS1 => ?_)))))))))
    have hS1 : Sep g T0 w1 [R, H_p0 [.int .i64 p0.r, .int .i64 p1, .int .i64 p0.to, .bool p0.is]] := hS1
    refine pv (r_nc rfl) (pv (r_fa rfl Try.underlying60 rfl Try.sizeOf3 rfl) (wl rfl (stB (q := 1) (j := 2) hS1 ⟨rfl, rfl⟩ hL_p0 rfl rfl rfl Try.sizeOf3 rfl rfl rfl fun w2 im2 hS2 => ?_)))
    have hS2 : Sep g T0 w2 [R, H_p0 [.int .i64 p0.r, .int .i64 p1, .int .i64 p1, .bool p0.is]] := hS2
    refine pv (r_nc rfl) (pv (r_fa rfl Try.underlying60 rfl Try.sizeOf4 rfl) (wl rfl (stB (q := 1) (j := 3) hS2 ⟨rfl, rfl⟩ hL_p0 rfl rfl rfl Try.sizeOf4 rfl rfl rfl fun w3 im3 hS3 => ?_)))
    have hS3 : Sep g T0 w3 [R, H_p0 [.int .i64 p0.r, .int .i64 p1, .int .i64 p1, .bool true]] := hS3
    refine nil (t_thenR [] trivial fun J => ?_)
    have hm := Option.some.inj hm
    subst hm
    exact rtn (r_then (ret0 rfl ⟨_, rfl, _, (Im.trans im1 (Im.trans im2 im3)), ⟨rfl, hS3.sel [0, 1] rfl, trivial⟩⟩))
  · have hm := cfalse hb1 hm
    refine skp (t_thenR [(0, .pointer (some ⟨b_p0, o_p0, none⟩)), (1, .int .i64 p1)] ⟨rfl, rfl, trivial⟩ fun J => ?_)
    refine rs [0, 0, 0, 0, 0, 1, 0, 0, 0, 0, 0, 1, 0, 0, 0, 0, 2, 0, 0, 2] [0, 1, 2, 3, 4, 5, 6, 7, 8, 9, 10, 11, 12, 13, 14, 15, 16, 17, 18, 19] mix (by kernel_rfl) hS.lt fun w4 i1 => ?_
    have im4 := i1.imm
    have hS4 := hS.keep i1 (fun _ h => h)
    refine s0 rfl trivial (fun _ => r_mp rfl) rfl (s0 rfl trivial (fun _ => r_mp rfl) rfl (s0 rfl trivial (fun _ => r_mp rfl) rfl (s0 rfl trivial (fun _ => r_nc rfl) rfl (s0 rfl trivial (fun _ => r_fa rfl Try.underlying60 rfl Try.sizeOf3 rfl) rfl (s1 rfl trivial (r_ld rfl Try.isAgg3 (hS4.cellB (i := 1) ⟨rfl, rfl⟩ hL_p0 (j := 1) rfl)) rfl (s0 rfl trivial (fun _ => r_mi rfl) rfl (s0 rfl trivial (fun _ => r_imn rfl rfl) rfl (s0 rfl trivial (fun _ => r_mp rfl) rfl (s0 rfl trivial (fun _ => r_nc rfl) rfl (s0 rfl trivial (fun _ => r_fa rfl Try.underlying60 rfl Try.sizeOf3 rfl) rfl (s1 rfl trivial (r_ld rfl Try.isAgg3 (hS4.cellB (i := 1) ⟨rfl, rfl⟩ hL_p0 (j := 2) rfl)) rfl (s0 rfl trivial (fun _ => r_mi rfl) rfl (s0 rfl trivial (fun _ => r_imx rfl rfl) rfl (s0 rfl trivial (fun _ => r_nc rfl) rfl (s0 rfl trivial (fun _ => r_fa rfl Try.underlying60 rfl Try.sizeOf3 rfl) rfl (s2 [] rfl trivial rfl (by kernel_rfl) (stB (q := 1) (j := 1) hS4 ⟨rfl, rfl⟩ hL_p0 rfl rfl rfl Try.sizeOf3 rfl rfl rfl fun w5 im5 hS5 => ?_)))))))))))))))))
    have hS5 : Sep g T0 w5 [R, H_p0 [.int .i64 p0.r, .int .i64 (min p0.from_ p1), .int .i64 p0.to, .bool p0.is]] := hS5
    refine ⟨st0, ?_⟩
    refine s0 rfl trivial (fun _ => r_nc rfl) rfl (s0 rfl trivial (fun _ => r_fa rfl Try.underlying60 rfl Try.sizeOf3 rfl) rfl (s2 [] rfl trivial rfl (by kernel_rfl) (stB (q := 1) (j := 2) hS5 ⟨rfl, rfl⟩ hL_p0 rfl rfl rfl Try.sizeOf3 rfl rfl rfl fun w6 im6 hS6 => ?_)))
    have hS6 : Sep g T0 w6 [R, H_p0 [.int .i64 p0.r, .int .i64 (min p0.from_ p1), .int .i64 (max p0.to p1), .bool p0.is]] := hS6
    refine ⟨st0, ?_⟩
    have hm := Option.some.inj hm
    subst hm
    exact se (end0 rfl ⟨_, rfl, _, (Im.trans im4 (Im.trans im5 im6)), ⟨rfl, hS6.sel [0, 1] rfl, trivial⟩⟩)

set_option maxRecDepth 100000 in
set_option maxHeartbeats 1000000 in
theorem flow_mark_sim {g : World} {T0 : Nat → Prop} {w0 : World} {R : Assn} {p0 : List Bool} {a1 : Option Addr} {n1 : Nat} {c1 : Nat} {p1 : Int} {p2 : Bool} {r : (List Bool)} (hS : Sep g T0 w0 [R, ownA rBool 4 (.slice a1 n1 c1) p0])  (hm : flow_mark p0 p1 p2 = some r) :
    Calls Try.prog 67 #[.slice a1 n1 c1, .int .i64 p1, .bool p2] w0 (RetS T0 w0 fun T w v => v = .tuple #[] ∧ Sep g T w [R, ownA rBool 4 (.slice a1 n1 c1) r] ∧ True) := by
  refine enter (args := [.slice a1 n1 c1, .int .i64 p1, .bool p2]) Try.func67 rfl Try.ntmps67 rfl fun J => ?_
  unfold flow_mark at hm
  refine sq2 ?_
  refine rg (pv (r_mi rfl) (pv (r_ib rfl rfl rfl) (pv (r_mb rfl) (?_))))
  rcases Bool.eq_false_or_eq_true (decide (0 ≤ p1)) with hb1 | hb1
  · have hm := ctrue hb1 hm
    refine gT (d0 := 8) rfl rfl hb1 (pv (r_mi rfl) (gT (d0 := 8) rfl rfl hb1 (pv (r_ms rfl) (gT (d0 := 8) rfl rfl hb1 (pv (r_lnV rfl (hS.own (i := 1) ⟨rfl, rfl⟩).v Try.underlying50) (gT (d0 := 8) rfl rfl hb1 (pv (r_ib rfl rfl rfl) (pv (r_pkt rfl hb1 rfl) (nil (t_thenR [(0, .slice a1 n1 c1), (1, .int .i64 p1), (2, .bool p2), (13, .bool (decide (p1 < (List.length p0 : Int))))] ⟨rfl, rfl, rfl, rfl, trivial⟩ fun J => ?_))))))))))
    refine cnd rfl (fun hb2 => ?_) (fun hb2 => ?_)
    · have hm := ctrue hb2 hm
      obtain ⟨u1, hx1, hm⟩ := bindS hm
      obtain ⟨b1, of1, cs1, k1, cp1, hv1, hp1, hl1, he1, hr1, hc1⟩ := (hS.own (i := 1) ⟨rfl, rfl⟩).v.ixq hx1 rfl
      cases hr1
      obtain ⟨u2, hx2, hm⟩ := bindS hm
      refine rg (pv (r_ms rfl) (pv (r_mi rfl) (pv (r_mb rfl) (pv (r_ixe hv1 rfl Try.underlying50 Try.sizeOf4 hp1 hl1 he1) (wl rfl (stO (q := 1) (i := Int.toNat p1) (j := 0) (u := u2) (u' := p2) hS ⟨rfl, rfl⟩ hv1 (idx_some hx2).2.2 he1 rfl rfl rfl Try.sizeOf4 rfl rfl rfl (fun c0 hc0 => by rw [storeL_all (r := rBool) hc0 rfl]; exact rfl) fun w1 im1 hS1 => ?_))))))
      have hS1 : Sep g T0 w1 [R, ownA rBool 4 (.slice a1 n1 c1) (List.set p0 (Int.toNat p1) p2)] := hS1
      have hm := Option.some.inj hm
      subst hm
      exact nil (end0 rfl ⟨_, rfl, _, im1, ⟨rfl, hS1.sel [0, 1] rfl, trivial⟩⟩)
    · have hm := cfalse hb2 hm
      have hm := Option.some.inj hm
      subst hm
      exact skp (end0 rfl ⟨_, rfl, _, Im.refl, ⟨rfl, hS.sel [0, 1] rfl, trivial⟩⟩)
  · have hm := cfalse hb1 hm
    refine gF (d0 := 8) rfl rfl (by rw [hb1]; rfl) (gF (d0 := 8) rfl rfl (by rw [hb1]; rfl) (gF (d0 := 8) rfl rfl (by rw [hb1]; rfl) (gF (d0 := 8) rfl rfl (by rw [hb1]; rfl) (pv (r_pkf rfl hb1 rfl) (nil (t_thenR [(0, .slice a1 n1 c1), (1, .int .i64 p1), (2, .bool p2), (13, .bool false)] ⟨rfl, rfl, rfl, rfl, trivial⟩ fun J => ?_))))))
    refine cnd (b := false) rfl (fun h => nomatch h) (fun _ => ?_)
    have hm := Option.some.inj hm
    subst hm
    exact skp (end0 rfl ⟨_, rfl, _, Im.refl, ⟨rfl, hS.sel [0, 1] rfl, trivial⟩⟩)

set_option maxRecDepth 100000 in
set_option maxHeartbeats 1000000 in
theorem flow_ended_sim {g : World} {T0 : Nat → Prop} {w0 : World} {R : Assn} {p0 : List Bool} {a1 : Option Addr} {n1 : Nat} {c1 : Nat} {p1 : GBlock} {a2 : Option Addr} {c2 : Nat} {r : (List Bool)} (hS : Sep g T0 w0 [R, ownA rBool 4 (.slice a1 n1 c1) p0]) (h1 : SlR rIns T0 w0 (.slice a2 (List.length p1.Ins) c2) p1.Ins) (hm : flow_ended p0 p1 = some r) :
    Calls Try.prog 47 #[.slice a1 n1 c1, .agg #[.slice a2 (List.length p1.Ins) c2, .int .i64 p1.End, .int .i64 p1.A, .int .i64 p1.To, .int .i64 p1.Else]] w0 (RetS T0 w0 fun T w v => v = .tuple #[] ∧ Sep g T w [R, ownA rBool 4 (.slice a1 n1 c1) r] ∧ True) := by
  refine enter (args := [.slice a1 n1 c1, .agg #[.slice a2 (List.length p1.Ins) c2, .int .i64 p1.End, .int .i64 p1.A, .int .i64 p1.To, .int .i64 p1.Else]]) Try.func47 rfl Try.ntmps47 rfl fun J => ?_
  unfold flow_ended at hm
  refine sq2 ?_
  refine rg (wl rfl (bxS (cs := [.slice a2 (List.length p1.Ins) c2, .int .i64 p1.End, .int .i64 p1.A, .int .i64 p1.To, .int .i64 p1.Else]) rfl rfl hS fun w1 b1 im1 hS1 => ?_))
  refine nil (t_then ?_)
  refine sq2 ?_
  refine rg (pv (r_fa rfl Try.underlying42 rfl Try.sizeOf3 rfl) (pv (r_ld rfl Try.isAgg3 (hS1.cell0 (i := 0) ⟨rfl, rfl⟩ (j := 1) rfl)) (pv (r_ib rfl rfl rfl) (pv (r_mb rfl) (?_)))))
  rcases Bool.eq_false_or_eq_true (p1.End == 2) with hb1 | hb1
  · have hm := ctrue hb1 hm
    refine gF (d0 := 7) rfl rfl (by rw [hb1]; rfl) (gF (d0 := 7) rfl rfl (by rw [hb1]; rfl) (gF (d0 := 7) rfl rfl (by rw [hb1]; rfl) (pv (r_pkt rfl hb1 rfl) (nil (t_thenR [(0, .slice a1 n1 c1), (3, .pointer (some ⟨b1, 0, none⟩)), (11, .bool true)] ⟨rfl, rfl, rfl, trivial⟩ fun J => ?_)))))
    refine cnd (b := true) rfl (fun _ => ?_) (fun h => nomatch h)
    obtain ⟨y2, hx2, hm⟩ := bindS hm
    refine rg (pv (r_ms rfl) (pv (r_fa rfl Try.underlying42 rfl Try.sizeOf3 rfl) (pv (r_ld rfl Try.isAgg3 (hS1.cell0 (i := 0) ⟨rfl, rfl⟩ (j := 2) rfl)) (wl rfl (calS cf67 rfl (flow_mark_sim (p0 := p0) (p1 := p1.A) (p2 := true) (hS1.bun [1] [2] rfl)  hx2) rfl fun v2 T2 w3 im3 rv2 => ?_)))))
    obtain ⟨rfl, hS3, _⟩ := rv2
    have hS3 : Sep g T2 w3 [R, ownA rBool 4 (.slice a1 n1 c1) y2] := hS3.unb
    have hm := Option.some.inj hm
    subst hm
    exact nil (end0 rfl ⟨_, rfl, _, (Im.trans im1 im3), ⟨rfl, hS3.sel [0, 1] rfl, trivial⟩⟩)
  · have hm := cfalse hb1 hm
    refine gT (d0 := 7) rfl rfl hb1 (pv (r_fa rfl Try.underlying42 rfl Try.sizeOf3 rfl) (gT (d0 := 7) rfl rfl hb1 (pv (r_ld rfl Try.isAgg3 (hS1.cell0 (i := 0) ⟨rfl, rfl⟩ (j := 1) rfl)) (gT (d0 := 7) rfl rfl hb1 (pv (r_ib rfl rfl rfl) (pv (r_pkf rfl hb1 rfl) (nil (t_thenR [(0, .slice a1 n1 c1), (3, .pointer (some ⟨b1, 0, none⟩)), (11, .bool (p1.End == 3))] ⟨rfl, rfl, rfl, trivial⟩ fun J => ?_))))))))
    refine cnd rfl (fun hb2 => ?_) (fun hb2 => ?_)
    · have hm := ctrue hb2 hm
      obtain ⟨y1, hx1, hm⟩ := bindS hm
      refine rg (pv (r_ms rfl) (pv (r_fa rfl Try.underlying42 rfl Try.sizeOf3 rfl) (pv (r_ld rfl Try.isAgg3 (hS1.cell0 (i := 0) ⟨rfl, rfl⟩ (j := 2) rfl)) (wl rfl (calS cf67 rfl (flow_mark_sim (p0 := p0) (p1 := p1.A) (p2 := true) (hS1.bun [1] [2] rfl)  hx1) rfl fun v1 T1 w2 im2 rv1 => ?_)))))
      obtain ⟨rfl, hS2, _⟩ := rv1
      have hS2 : Sep g T1 w2 [R, ownA rBool 4 (.slice a1 n1 c1) y1] := hS2.unb
      have hm := Option.some.inj hm
      subst hm
      exact nil (end0 rfl ⟨_, rfl, _, (Im.trans im1 im2), ⟨rfl, hS2.sel [0, 1] rfl, trivial⟩⟩)
    · have hm := cfalse hb2 hm
      have hm := Option.some.inj hm
      subst hm
      exact skp (end0 rfl ⟨_, rfl, _, im1, ⟨rfl, hS1.sel [1, 2] rfl, trivial⟩⟩)

set_option maxRecDepth 100000 in
set_option maxHeartbeats 1000000 in
theorem ir_Outs_sim {g : World} {T0 : Nat → Prop} {w0 : World} {R : Assn} {p0 : GBlock} {a1 : Option Addr} {c1 : Nat} {r : (List Int)} (hS : Sep g T0 w0 [R]) (h1 : SlR rIns T0 w0 (.slice a1 (List.length p0.Ins) c1) p0.Ins) (hm : ir_Outs p0 = some r) :
    Calls Try.prog 69 #[.agg #[.slice a1 (List.length p0.Ins) c1, .int .i64 p0.End, .int .i64 p0.A, .int .i64 p0.To, .int .i64 p0.Else]] w0 (RetS T0 w0 fun T w v => ∃ (a6 : Option Addr) (n5 : Nat) (c6 : Nat), v = .slice a6 n5 c6 ∧ Sep g T w [R, ownA (rInt .i64) 3 (.slice a6 n5 c6) r] ∧ True) := by
  refine enter (args := [.agg #[.slice a1 (List.length p0.Ins) c1, .int .i64 p0.End, .int .i64 p0.A, .int .i64 p0.To, .int .i64 p0.Else]]) Try.func69 rfl Try.ntmps69 rfl fun J => ?_
  unfold ir_Outs at hm
  refine sq2 ?_
  refine rg (wl rfl (bxS (cs := [.slice a1 (List.length p0.Ins) c1, .int .i64 p0.End, .int .i64 p0.A, .int .i64 p0.To, .int .i64 p0.Else]) rfl rfl hS fun w1 b1 im1 hS1 => ?_))
  refine pv (r_zs rfl) (nil (t_then ?_))
  refine sq2 ?_
  refine blk ?_
  refine sq2 ?_
  refine rg (pv (r_fa rfl Try.underlying42 rfl Try.sizeOf3 rfl) (pv (r_ld rfl Try.isAgg3 (hS1.cell0 (i := 0) ⟨rfl, rfl⟩ (j := 1) rfl)) (pv (r_ib rfl rfl rfl) (pv (r_mb rfl) (?_)))))
  rcases Bool.eq_false_or_eq_true (p0.End == 1) with hb1 | hb1
  · have hm := ctrue hb1 hm
    refine gF (d0 := 7) rfl rfl (by rw [hb1]; rfl) (gF (d0 := 7) rfl rfl (by rw [hb1]; rfl) (gF (d0 := 7) rfl rfl (by rw [hb1]; rfl) (gF (d0 := 7) rfl rfl (by rw [hb1]; rfl) (gU (d0 := 11) rfl rfl (gU (d0 := 11) rfl rfl (gU (d0 := 11) rfl rfl (gU (d0 := 11) rfl rfl (gU (d0 := 11) rfl rfl (gF (d0 := 7) rfl rfl (by rw [hb1]; rfl) (pv (r_pkt rfl hb1 rfl) (pv (r_zb rfl) (nil (t_thenR [(1, .pointer (some ⟨b1, 0, none⟩)), (3, .bool true)] ⟨rfl, rfl, trivial⟩ fun J => ?_)))))))))))))
    refine cnd (b := true) rfl (fun _ => ?_) (fun h => nomatch h)
    refine sq2 ?_
    refine rg (pv (r_fa rfl Try.underlying42 rfl Try.sizeOf3 rfl) (pv (r_ld rfl Try.isAgg3 (hS1.cell0 (i := 0) ⟨rfl, rfl⟩ (j := 3) rfl)) (wl rfl (bsS (r := (rInt .i64)) (l := ([p0.To] : List Int)) (css := [[.int .i64 p0.To]]) hS1 Try.underlying44 Try.sizeOf3 Try.zeroValue3 rfl rfl (by kernel_rfl) rfl ⟨rfl, trivial⟩ rfl rfl fun w5 a5 n4 c5 im5 hS7 => ?_))))
    refine pv (r_zs rfl) (nil (t_thenR [(2, .slice a5 n4 c5)] ⟨rfl, trivial⟩ fun J => ?_))
    have hm := Option.some.inj hm
    subst hm
    exact rtn (r_blk (r_then (ret1 rfl rfl ⟨_, rfl, _, (Im.trans im1 im5), ⟨_, _, _, rfl, hS7.sel [2, 0] rfl, trivial⟩⟩)))
  · have hm := cfalse hb1 hm
    refine gT (d0 := 7) rfl rfl hb1 (pv (r_fa rfl Try.underlying42 rfl Try.sizeOf3 rfl) (gT (d0 := 7) rfl rfl hb1 (pv (r_ld rfl Try.isAgg3 (hS1.cell0 (i := 0) ⟨rfl, rfl⟩ (j := 1) rfl)) (gT (d0 := 7) rfl rfl hb1 (pv (r_ib rfl rfl rfl) (gT (d0 := 7) rfl rfl hb1 (pv (r_mb rfl) (?_))))))))
    rcases Bool.eq_false_or_eq_true (p0.End == 2) with hb2 | hb2
    · have hm := ctrue hb2 hm
      refine gT (d0 := 11) rfl rfl hb2 (pv (r_fa rfl Try.underlying42 rfl Try.sizeOf3 rfl) (gT (d0 := 11) rfl rfl hb2 (pv (r_ld rfl Try.isAgg3 (hS1.cell0 (i := 0) ⟨rfl, rfl⟩ (j := 3) rfl)) (gT (d0 := 11) rfl rfl hb2 (pv (r_fa rfl Try.underlying42 rfl Try.sizeOf3 rfl) (gT (d0 := 11) rfl rfl hb2 (pv (r_ld rfl Try.isAgg3 (hS1.cell0 (i := 0) ⟨rfl, rfl⟩ (j := 4) rfl)) (gT (d0 := 11) rfl rfl hb2 (pv (r_ib rfl rfl rfl) (gT (d0 := 7) rfl rfl hb1 (pv (r_pkt rfl hb2 rfl) (pv (r_pkf rfl hb1 rfl) (pv (r_zb rfl) (nil (t_thenR [(1, .pointer (some ⟨b1, 0, none⟩)), (3, .bool (p0.To == p0.Else))] ⟨rfl, rfl, trivial⟩ fun J => ?_)))))))))))))))
      refine cnd rfl (fun hb3 => ?_) (fun hb3 => ?_)
      · have hm := ctrue hb3 hm
        refine sq2 ?_
        refine rg (pv (r_fa rfl Try.underlying42 rfl Try.sizeOf3 rfl) (pv (r_ld rfl Try.isAgg3 (hS1.cell0 (i := 0) ⟨rfl, rfl⟩ (j := 3) rfl)) (wl rfl (bsS (r := (rInt .i64)) (l := ([p0.To] : List Int)) (css := [[.int .i64 p0.To]]) hS1 Try.underlying44 Try.sizeOf3 Try.zeroValue3 rfl rfl (by kernel_rfl) rfl ⟨rfl, trivial⟩ rfl rfl fun w2 a2 n1 c2 im2 hS2 => ?_))))
        refine pv (r_zs rfl) (nil (t_thenR [(2, .slice a2 n1 c2)] ⟨rfl, trivial⟩ fun J => ?_))
        have hm := Option.some.inj hm
        subst hm
        exact rtn (r_blk (r_then (ret1 rfl rfl ⟨_, rfl, _, (Im.trans im1 im2), ⟨_, _, _, rfl, hS2.sel [2, 0] rfl, trivial⟩⟩)))
      · have hm := cfalse hb3 hm
        refine sq2 ?_
        refine rg (pv (r_fa rfl Try.underlying42 rfl Try.sizeOf3 rfl) (pv (r_ld rfl Try.isAgg3 (hS1.cell0 (i := 0) ⟨rfl, rfl⟩ (j := 1) rfl)) (pv (r_ib rfl rfl rfl) (pv (r_zb rfl) (nil (t_then ?_))))))
        refine cnd rfl (fun hb4 => ?_) (fun hb4 => ?_)
        · have hm := ctrue hb4 hm
          refine sq2 ?_
          refine rg (pv (r_fa rfl Try.underlying42 rfl Try.sizeOf3 rfl) (pv (r_ld rfl Try.isAgg3 (hS1.cell0 (i := 0) ⟨rfl, rfl⟩ (j := 3) rfl)) (pv (r_fa rfl Try.underlying42 rfl Try.sizeOf3 rfl) (pv (r_ld rfl Try.isAgg3 (hS1.cell0 (i := 0) ⟨rfl, rfl⟩ (j := 4) rfl)) (wl rfl (bsS (r := (rInt .i64)) (l := ([p0.To, p0.Else] : List Int)) (css := [[.int .i64 p0.To], [.int .i64 p0.Else]]) hS1 Try.underlying44 Try.sizeOf3 Try.zeroValue3 rfl rfl (by kernel_rfl) rfl ⟨rfl, rfl, trivial⟩ rfl rfl fun w3 a3 n2 c3 im3 hS3 => ?_))))))
          refine pv (r_zs rfl) (nil (t_thenR [(2, .slice a3 n2 c3)] ⟨rfl, trivial⟩ fun J => ?_))
          have hm := Option.some.inj hm
          subst hm
          exact rtn (r_blk (r_then (ret1 rfl rfl ⟨_, rfl, _, (Im.trans im1 im3), ⟨_, _, _, rfl, hS3.sel [2, 0] rfl, trivial⟩⟩)))
        · have hm := cfalse hb4 hm
          refine skp (t_blk (t_thenR [] trivial fun J => ?_))
          refine sq2 ?_
          refine rg (pv (r_zs rfl) (nil (t_then ?_)))
          have hS4 := hS1.nilO (rInt .i64) 3
          have hm := Option.some.inj hm
          subst hm
          exact rtn (ret1 rfl rfl ⟨_, rfl, _, im1, ⟨_, _, _, rfl, hS4.sel [2, 0] rfl, trivial⟩⟩)
    · have hm := cfalse hb2 hm
      refine gF (d0 := 11) rfl rfl (by rw [hb2]; rfl) (gF (d0 := 11) rfl rfl (by rw [hb2]; rfl) (gF (d0 := 11) rfl rfl (by rw [hb2]; rfl) (gF (d0 := 11) rfl rfl (by rw [hb2]; rfl) (gF (d0 := 11) rfl rfl (by rw [hb2]; rfl) (gT (d0 := 7) rfl rfl hb1 (pv (r_pkf rfl hb2 rfl) (pv (r_pkf rfl hb1 rfl) (pv (r_zb rfl) (nil (t_thenR [(1, .pointer (some ⟨b1, 0, none⟩)), (3, .bool false)] ⟨rfl, rfl, trivial⟩ fun J => ?_))))))))))
      refine cnd (b := false) rfl (fun h => nomatch h) (fun _ => ?_)
      refine sq2 ?_
      refine rg (pv (r_fa rfl Try.underlying42 rfl Try.sizeOf3 rfl) (pv (r_ld rfl Try.isAgg3 (hS1.cell0 (i := 0) ⟨rfl, rfl⟩ (j := 1) rfl)) (pv (r_ib rfl rfl rfl) (pv (r_zb rfl) (nil (t_then ?_))))))
      refine cnd rfl (fun hb6 => ?_) (fun hb6 => ?_)
      · have hm := ctrue hb6 hm
        refine sq2 ?_
        refine rg (pv (r_fa rfl Try.underlying42 rfl Try.sizeOf3 rfl) (pv (r_ld rfl Try.isAgg3 (hS1.cell0 (i := 0) ⟨rfl, rfl⟩ (j := 3) rfl)) (pv (r_fa rfl Try.underlying42 rfl Try.sizeOf3 rfl) (pv (r_ld rfl Try.isAgg3 (hS1.cell0 (i := 0) ⟨rfl, rfl⟩ (j := 4) rfl)) (wl rfl (bsS (r := (rInt .i64)) (l := ([p0.To, p0.Else] : List Int)) (css := [[.int .i64 p0.To], [.int .i64 p0.Else]]) hS1 Try.underlying44 Try.sizeOf3 Try.zeroValue3 rfl rfl (by kernel_rfl) rfl ⟨rfl, rfl, trivial⟩ rfl rfl fun w4 a4 n3 c4 im4 hS5 => ?_))))))
        refine pv (r_zs rfl) (nil (t_thenR [(2, .slice a4 n3 c4)] ⟨rfl, trivial⟩ fun J => ?_))
        have hm := Option.some.inj hm
        subst hm
        exact rtn (r_blk (r_then (ret1 rfl rfl ⟨_, rfl, _, (Im.trans im1 im4), ⟨_, _, _, rfl, hS5.sel [2, 0] rfl, trivial⟩⟩)))
      · have hm := cfalse hb6 hm
        refine skp (t_blk (t_thenR [] trivial fun J => ?_))
        refine sq2 ?_
        refine rg (pv (r_zs rfl) (nil (t_then ?_)))
        have hS6 := hS1.nilO (rInt .i64) 3
        have hm := Option.some.inj hm
        subst hm
        exact rtn (ret1 rfl rfl ⟨_, rfl, _, im1, ⟨_, _, _, rfl, hS6.sel [2, 0] rfl, trivial⟩⟩)

set_option maxRecDepth 100000 in
set_option maxHeartbeats 1000000 in
theorem flow_outs_1_sim {g : World} {T0 : Nat → Prop} {w0 : World} {R : Assn} {p0 : Int} {p1 : Proc} {b_p1 o_p1 : Nat} {H_p1 : List Value → Assn} {a1 : Option Addr} {c1 : Nat} {a2 : Option Addr} {c2 : Nat} {r : Bool} (hS : Sep g T0 w0 [R, H_p1 [.string ⟨p1.Name.toArray⟩, .bool p1.Void, .int .i64 p1.Params, .int .i64 p1.Regs, .slice a1 (List.length p1.Objects) c1, .slice a2 (List.length p1.Blocks) c2]]) (hL_p1 : Ln b_p1 o_p1 H_p1) (h1 : SlR rGSlot T0 w0 (.slice a1 (List.length p1.Objects) c1) p1.Objects) (h2 : SlR rGBlock T0 w0 (.slice a2 (List.length p1.Blocks) c2) p1.Blocks) (hm : flow_outs_1 p0 p1 = some r) :
    Calls Try.prog 70 #[.int .i64 p0, .pointer (some ⟨b_p1, o_p1, none⟩)] w0 (RetS T0 w0 fun T w v => v = .bool r ∧ Sep g T w [R, H_p1 [.string ⟨p1.Name.toArray⟩, .bool p1.Void, .int .i64 p1.Params, .int .i64 p1.Regs, .slice a1 (List.length p1.Objects) c1, .slice a2 (List.length p1.Blocks) c2]] ∧ True) := by
  refine enter (args := [.int .i64 p0, .pointer (some ⟨b_p1, o_p1, none⟩)]) Try.func70 rfl Try.ntmps70 rfl fun J => ?_
  unfold flow_outs_1 at hm
  refine sq2 ?_
  refine rg (pv (r_zb rfl) (nil (t_then ?_)))
  refine sq2 ?_
  refine rg (pv (r_mi rfl) (pv (r_ib rfl rfl rfl) (pv (r_mb rfl) (?_))))
  rcases Bool.eq_false_or_eq_true (decide (p0 < 0)) with hb1 | hb1
  · have hm := ctrue hb1 hm
    refine gF (d0 := 6) rfl rfl (by rw [hb1]; rfl) (gF (d0 := 6) rfl rfl (by rw [hb1]; rfl) (gF (d0 := 6) rfl rfl (by rw [hb1]; rfl) (gF (d0 := 6) rfl rfl (by rw [hb1]; rfl) (gF (d0 := 6) rfl rfl (by rw [hb1]; rfl) (pv (r_pkt rfl hb1 rfl) (pv (r_zb rfl) (nil (t_thenR [(3, .bool true)] ⟨rfl, trivial⟩ fun J => ?_))))))))
    have hm := Option.some.inj hm
    subst hm
    exact rtn (ret1 rfl rfl ⟨_, rfl, _, Im.refl, ⟨rfl, hS.sel [0, 1] rfl, trivial⟩⟩)
  · have hm := cfalse hb1 hm
    refine gT (d0 := 6) rfl rfl hb1 (pv (r_mi rfl) (gT (d0 := 6) rfl rfl hb1 (pv (r_fa rfl Try.underlying31 rfl Try.sizeOf29 rfl) (gT (d0 := 6) rfl rfl hb1 (pv (r_ld rfl Try.isAgg29 (hS.cellB (i := 1) ⟨rfl, rfl⟩ hL_p1 (j := 5) rfl)) (gT (d0 := 6) rfl rfl hb1 (pv (r_ln rfl Try.underlying29) (gT (d0 := 6) rfl rfl hb1 (pv (r_ib rfl rfl rfl) (pv (r_pkf rfl hb1 rfl) (pv (r_zb rfl) (nil (t_thenR [(3, .bool (decide ((List.length p1.Blocks : Int) ≤ p0)))] ⟨rfl, trivial⟩ fun J => ?_)))))))))))))
    have hm := Option.some.inj hm
    subst hm
    exact rtn (ret1 rfl rfl ⟨_, rfl, _, Im.refl, ⟨rfl, hS.sel [0, 1] rfl, trivial⟩⟩)

set_option maxRecDepth 100000 in
set_option maxHeartbeats 1000000 in
theorem slices_IndexFunc_sim {g : World} {T0 : Nat → Prop} {w0 : World} {R : Assn} {p0 : List Int} {v_p0 : Value} {H_p0 : Assn} {p1 : Proc} {b_p1 o_p1 : Nat} {H_p1 : List Value → Assn} {a1 : Option Addr} {c1 : Nat} {a2 : Option Addr} {c2 : Nat} {r : Int} (hS : Sep g T0 w0 [R, H_p0, H_p1 [.string ⟨p1.Name.toArray⟩, .bool p1.Void, .int .i64 p1.Params, .int .i64 p1.Regs, .slice a1 (List.length p1.Objects) c1, .slice a2 (List.length p1.Blocks) c2]]) (hV_p0 : Vw H_p0 (rInt .i64) v_p0 p0) (hL_p1 : Ln b_p1 o_p1 H_p1) (h1 : SlR rGSlot T0 w0 (.slice a1 (List.length p1.Objects) c1) p1.Objects) (h2 : SlR rGBlock T0 w0 (.slice a2 (List.length p1.Blocks) c2) p1.Blocks) (hm : slices_IndexFunc p0 p1 = some r) :
    Calls Try.prog 79 #[v_p0, .func (.func 70) #[] #[.pointer (some ⟨b_p1, o_p1, none⟩)]] w0 (RetS T0 w0 fun T w v => v = .int .i64 r ∧ Sep g T w [R, H_p0, H_p1 [.string ⟨p1.Name.toArray⟩, .bool p1.Void, .int .i64 p1.Params, .int .i64 p1.Regs, .slice a1 (List.length p1.Objects) c1, .slice a2 (List.length p1.Blocks) c2]] ∧ True) := by
  refine enter (args := [v_p0, .func (.func 70) #[] #[.pointer (some ⟨b_p1, o_p1, none⟩)]]) Try.func79 rfl Try.ntmps79 rfl fun J => ?_
  unfold slices_IndexFunc at hm
  refine sq2 ?_
  refine rg (pv (r_zi rfl) (nil (t_then ?_)))
  refine sq2 ?_
  refine sq2 ?_
  refine rg (pv (r_mx (v := v_p0) rfl) (pv (r_lnV rfl (hS.view (i := 1) ⟨rfl, rfl⟩ hV_p0) Try.underlying44) (pv (r_mi rfl) (nil (t_then ?_)))))
  obtain ⟨o1, ho1, hq1⟩ := bindS hm
  obtain ⟨bd1, hbd1, ho1⟩ := loop_open ho1
  refine blk (wp_loop_ghost (fun m a w1 => ∃ (J : Nat → Value) (T1 : Nat → Prop) (x1 : Int), a = env (nf 19) J [(0, v_p0), (1, .func (.func 70) #[] #[.pointer (some ⟨b_p1, o_p1, none⟩)]), (7, .int .i64 (List.length p0 : Int)), (8, .int .i64 x1)] ∧ Im T0 w0 T1 w1 ∧ Sep g T1 w1 [R, H_p0, H_p1 [.string ⟨p1.Name.toArray⟩, .bool p1.Void, .int .i64 p1.Params, .int .i64 p1.Regs, .slice a1 (List.length p1.Objects) c1, .slice a2 (List.length p1.Blocks) c2]] ∧ loopM bd1 m x1 = some o1) NN ⟨_, _, 0, env_has ⟨rfl, rfl, rfl, rfl, trivial⟩, Im.refl, hS.sel [0, 1, 2] rfl, ho1⟩ ?_)
  rintro m _ w1 ⟨J, T1, x1, rfl, im1, hS1, ho1⟩
  obtain ⟨m1, z1, rfl, hm, hn1⟩ := loop_round ho1
  rw [hbd1] at hm
  refine sq2 ?_
  refine rg (pv (r_ib rfl rfl rfl) (nil (t_then ?_)))
  refine sq2 ?_
  refine cnd rfl (fun hb1 => ?_) (fun hb1 => ?_)
  · have hm := ctrue hb1 hm
    refine skp (t_then ?_)
    refine sq2 ?_
    refine blk ?_
    refine sq2 ?_
    refine rg (pv (r_mi rfl) (pv (r_zi rfl) (nil (t_then ?_))))
    refine sq2 ?_
    obtain ⟨u1, hx1, hm⟩ := bindS hm
    obtain ⟨b1, of1, cs1, k1, cp1, hv1, hp1, hl1, he1, hr1, hc1⟩ := (hS1.view (i := 1) ⟨rfl, rfl⟩ hV_p0).ixq hx1 rfl
    cases hr1
    obtain ⟨y1, hx2, hm⟩ := bindS hm
    refine rg (pv (r_mf rfl) (pv (r_mx (v := v_p0) rfl) (pv (r_mi rfl) (pv (r_ixe hv1 rfl Try.underlying44 Try.sizeOf3 hp1 hl1 he1) (pv (r_ld rfl Try.isAgg3 (hc1.get (j := 0) rfl)) (wl rfl (calS cf70 rfl (flow_outs_1_sim (p0 := u1) (p1 := p1) (H_p1 := H_p1) (hS1.bun [0, 1] [2] rfl) hL_p1 (h1.mono im1) (h2.mono im1) hx2) rfl fun v1 T2 w2 im2 rv1 => ?_)))))))
    obtain ⟨rfl, hS2, _⟩ := rv1
    have hS2 : Sep g T2 w2 [R, H_p0, H_p1 [.string ⟨p1.Name.toArray⟩, .bool p1.Void, .int .i64 p1.Params, .int .i64 p1.Regs, .slice a1 (List.length p1.Objects) c1, .slice a2 (List.length p1.Blocks) c2]] := hS2.unb
    refine nil (t_thenR [(0, v_p0), (1, .func (.func 70) #[] #[.pointer (some ⟨b_p1, o_p1, none⟩)]), (5, .int .i64 x1), (7, .int .i64 (List.length p0 : Int)), (8, .int .i64 x1), (16, .bool y1)] ⟨rfl, rfl, rfl, rfl, rfl, rfl, trivial⟩ fun J => ?_)
    refine cnd rfl (fun hb2 => ?_) (fun hb2 => ?_)
    · have hm := ctrue hb2 hm
      refine sq2 ?_
      refine rg (pv (r_mi rfl) (pv (r_zi rfl) (nil (t_thenR [(4, .int .i64 x1)] ⟨rfl, trivial⟩ fun J => ?_))))
      have hm := Option.some.inj hm
      subst hm
      have hn1 : _ = Lp.ret _ := hn1
      subst hn1
      have hm := thn_ret hq1
      have hm := Option.some.inj hm
      subst hm
      exact rtn (r_blk (r_then (r_then (r_blk (r_then (ret1 rfl rfl ⟨_, rfl, _, (Im.trans im1 im2), ⟨rfl, hS2.sel [0, 1, 2] rfl, trivial⟩⟩))))))
    · have hm := cfalse hb2 hm
      refine skp (t_blk (t_then ?_))
      have hm := Option.some.inj hm
      subst hm
      exact rg (pv (r_ib rfl rfl rfl) (pv (r_mi rfl) (nil (t_then ⟨m1, Nat.lt_succ_self _, _, _, (IntKind.wrap .i64 (x1 + 1)), env_has ⟨rfl, rfl, rfl, rfl, trivial⟩, (Im.trans im1 im2), hS2.sel [0, 1, 2] rfl, hn1⟩))))
  · have hm := cfalse hb1 hm
    have hm := Option.some.inj hm
    subst hm
    have hn1 : _ = Lp.brk _ := hn1
    subst hn1
    have hm := thn_brk hq1
    refine xt (x_then (x_then (x_eq (t_thenR [] trivial fun J => ?_))))
    refine sq2 ?_
    refine rg (pv (r_zi rfl) (nil (t_then ?_)))
    have hm := Option.some.inj hm
    subst hm
    exact rtn (ret1 rfl rfl ⟨_, rfl, _, im1, ⟨rfl, hS1.sel [0, 1, 2] rfl, trivial⟩⟩)

set_option maxRecDepth 100000 in
set_option maxHeartbeats 1000000 in
theorem slices_DeleteFunc_sim {g : World} {T0 : Nat → Prop} {w0 : World} {R : Assn} {p0 : List Int} {a1 : Option Addr} {n1 : Nat} {c1 : Nat} {p1 : Proc} {b_p1 o_p1 : Nat} {H_p1 : List Value → Assn} {a2 : Option Addr} {c2 : Nat} {a3 : Option Addr} {c3 : Nat} {r : (List Int)} (hS : Sep g T0 w0 [R, ownA (rInt .i64) 3 (.slice a1 n1 c1) p0, H_p1 [.string ⟨p1.Name.toArray⟩, .bool p1.Void, .int .i64 p1.Params, .int .i64 p1.Regs, .slice a2 (List.length p1.Objects) c2, .slice a3 (List.length p1.Blocks) c3]]) (hL_p1 : Ln b_p1 o_p1 H_p1) (h1 : SlR rGSlot T0 w0 (.slice a2 (List.length p1.Objects) c2) p1.Objects) (h2 : SlR rGBlock T0 w0 (.slice a3 (List.length p1.Blocks) c3) p1.Blocks) (hm : slices_DeleteFunc p0 p1 = some r) :
    Calls Try.prog 68 #[.slice a1 n1 c1, .func (.func 70) #[] #[.pointer (some ⟨b_p1, o_p1, none⟩)]] w0 (RetS T0 w0 fun T w v => ∃ (a7 : Option Addr) (n5 : Nat) (c7 : Nat), v = .slice a7 n5 c7 ∧ Sep g T w [R, H_p1 [.string ⟨p1.Name.toArray⟩, .bool p1.Void, .int .i64 p1.Params, .int .i64 p1.Regs, .slice a2 (List.length p1.Objects) c2, .slice a3 (List.length p1.Blocks) c3], ownA (rInt .i64) 3 (.slice a7 n5 c7) r] ∧ True) := by
  refine enter (args := [.slice a1 n1 c1, .func (.func 70) #[] #[.pointer (some ⟨b_p1, o_p1, none⟩)]]) Try.func68 rfl Try.ntmps68 rfl fun J => ?_
  unfold slices_DeleteFunc at hm
  refine sq2 ?_
  refine rg (pv (r_zs rfl) (nil (t_then ?_)))
  refine sq2 ?_
  obtain ⟨y1, hx1, hm⟩ := bindS hm
  refine rg (pv (r_ms rfl) (pv (r_mf rfl) (wl rfl (calS cf79 rfl (slices_IndexFunc_sim (p0 := p0) (H_p0 := ownA (rInt .i64) 3 (.slice a1 n1 c1) p0) (p1 := p1) (H_p1 := H_p1) (hS.bun [0] [1, 2] rfl) vwOwn hL_p1 h1 h2 hx1) rfl fun v1 T1 w1 im1 rv1 => ?_))))
  obtain ⟨rfl, hS1, _⟩ := rv1
  have hS1 : Sep g T1 w1 [R, ownA (rInt .i64) 3 (.slice a1 n1 c1) p0, H_p1 [.string ⟨p1.Name.toArray⟩, .bool p1.Void, .int .i64 p1.Params, .int .i64 p1.Regs, .slice a2 (List.length p1.Objects) c2, .slice a3 (List.length p1.Blocks) c3]] := hS1.unb
  refine pv (r_zi rfl) (nil (t_then ?_))
  refine sq2 ?_
  refine sq2 ?_
  refine rg (pv (r_mi rfl) (pv (r_ib rfl rfl rfl) (nil (t_thenR [(0, .slice a1 n1 c1), (1, .func (.func 70) #[] #[.pointer (some ⟨b_p1, o_p1, none⟩)]), (5, .int .i64 y1), (12, .bool (y1 == (-1)))] ⟨rfl, rfl, rfl, rfl, trivial⟩ fun J => ?_))))
  refine cnd rfl (fun hb1 => ?_) (fun hb1 => ?_)
  · have hm := ctrue hb1 hm
    refine sq2 ?_
    refine rg (pv (r_ms rfl) (pv (r_zs rfl) (nil (t_thenR [(4, .slice a1 n1 c1)] ⟨rfl, trivial⟩ fun J => ?_))))
    have hm := Option.some.inj hm
    subst hm
    exact rtn (r_then (ret1 rfl rfl ⟨_, rfl, _, im1, ⟨_, _, _, rfl, hS1.sel [0, 2, 1] rfl, trivial⟩⟩))
  · have hm := cfalse hb1 hm
    refine skp (t_then ?_)
    refine sq2 ?_
    refine sq2 ?_
    refine rg (pv (r_mi rfl) (pv (r_ib rfl rfl rfl) (pv (r_zi rfl) (nil (t_then ?_)))))
    obtain ⟨o1, ho1, hq1⟩ := bindS hm
    obtain ⟨bd1, hbd1, ho1⟩ := loop_open ho1
    refine blk (wp_loop_ghost (fun m a w2 => ∃ (J : Nat → Value) (T2 : Nat → Prop) (x1 : List Int) (a4 : Option Addr) (n2 : Nat) (c4 : Nat) (x2 : Int) (x3 : Int), a = env (nf 42) J [(0, .slice a4 n2 c4), (1, .func (.func 70) #[] #[.pointer (some ⟨b_p1, o_p1, none⟩)]), (5, .int .i64 x2), (6, .int .i64 x3)] ∧ Im T1 w1 T2 w2 ∧ Sep g T2 w2 [R, ownA (rInt .i64) 3 (.slice a4 n2 c4) x1, H_p1 [.string ⟨p1.Name.toArray⟩, .bool p1.Void, .int .i64 p1.Params, .int .i64 p1.Regs, .slice a2 (List.length p1.Objects) c2, .slice a3 (List.length p1.Blocks) c3]] ∧ loopM bd1 m (x1, x2, x3) = some o1) NN ⟨_, _, p0, _, _, _, y1, (IntKind.wrap .i64 (y1 + 1)), env_has ⟨rfl, rfl, rfl, rfl, trivial⟩, Im.refl, hS1.sel [0, 1, 2] rfl, ho1⟩ ?_)
    rintro m _ w2 ⟨J, T2, x1, a4, n2, c4, x2, x3, rfl, im2, hS2, ho1⟩
    obtain ⟨m1, z1, rfl, hm, hn1⟩ := loop_round ho1
    rw [hbd1] at hm
    refine sq2 ?_
    refine sq2 ?_
    refine rg (pv (r_mi rfl) (pv (r_ms rfl) (pv (r_lnV rfl (hS2.own (i := 1) ⟨rfl, rfl⟩).v Try.underlying44) (pv (r_ib rfl rfl rfl) (nil (t_then ?_))))))
    refine cnd rfl (fun hb2 => ?_) (fun hb2 => ?_)
    · have hm := ctrue hb2 hm
      refine skp (t_then ?_)
      obtain ⟨kk1, hkk1, hm⟩ := jn_open hm
      refine cut (fun a w3 => ∃ (J : Nat → Value) (T3 : Nat → Prop) (x4 : List Int) (a5 : Option Addr) (n3 : Nat) (c5 : Nat) (x5 : Int), a = env (nf 42) J [(0, .slice a5 n3 c5), (1, .func (.func 70) #[] #[.pointer (some ⟨b_p1, o_p1, none⟩)]), (5, .int .i64 x5), (6, .int .i64 x3)] ∧ Im T2 w2 T3 w3 ∧ Sep g T3 w3 [R, ownA (rInt .i64) 3 (.slice a5 n3 c5) x4, H_p1 [.string ⟨p1.Name.toArray⟩, .bool p1.Void, .int .i64 p1.Params, .int .i64 p1.Regs, .slice a2 (List.length p1.Objects) c2, .slice a3 (List.length p1.Blocks) c3]] ∧ kk1 x4 x5 = some z1) ?_ ?_
      · refine blk ?_
        refine sq2 ?_
        obtain ⟨u1, hx2, hm⟩ := bindS hm
        obtain ⟨b1, of1, cs1, k1, cp1, hv1, hp1, hl1, he1, hr1, hc1⟩ := (hS2.own (i := 1) ⟨rfl, rfl⟩).v.ixq hx2 rfl
        cases hr1
        refine rg (pv (r_ms rfl) (pv (r_mi rfl) (pv (r_ixe hv1 rfl Try.underlying44 Try.sizeOf3 hp1 hl1 he1) (pv (r_ld rfl Try.isAgg3 (hc1.get (j := 0) rfl)) (pv (r_zi rfl) (nil (t_thenR [(0, .slice a4 n2 c4), (1, .func (.func 70) #[] #[.pointer (some ⟨b_p1, o_p1, none⟩)]), (5, .int .i64 x2), (6, .int .i64 x3), (7, .int .i64 u1)] ⟨rfl, rfl, rfl, rfl, rfl, trivial⟩ fun J => ?_)))))))
        refine sq2 ?_
        obtain ⟨y2, hx3, hm⟩ := bindS hm
        refine rg (pv (r_mf rfl) (pv (r_mi rfl) (wl rfl (calS cf70 rfl (flow_outs_1_sim (p0 := u1) (p1 := p1) (H_p1 := H_p1) (hS2.bun [0, 1] [2] rfl) hL_p1 (h1.mono (Im.trans im1 im2)) (h2.mono (Im.trans im1 im2)) hx3) rfl fun v2 T4 w4 im4 rv2 => ?_))))
        obtain ⟨rfl, hS3, _⟩ := rv2
        have hS3 : Sep g T4 w4 [R, ownA (rInt .i64) 3 (.slice a4 n2 c4) x1, H_p1 [.string ⟨p1.Name.toArray⟩, .bool p1.Void, .int .i64 p1.Params, .int .i64 p1.Regs, .slice a2 (List.length p1.Objects) c2, .slice a3 (List.length p1.Blocks) c3]] := hS3.unb
        refine pv (r_nt rfl) (nil (t_then ?_))
        refine cnd rfl (fun hb3 => ?_) (fun hb3 => ?_)
        · have hm := ctrue hb3 hm
          refine sq2 ?_
          obtain ⟨u2, hx4, hm⟩ := bindS hm
          obtain ⟨b2, of2, cs2, k2, cp2, hv2, hp2, hl2, he2, hr2, hc2⟩ := (hS3.own (i := 1) ⟨rfl, rfl⟩).v.ixq hx4 rfl
          cases hr2
          obtain ⟨u3, hx5, hm⟩ := bindS hm
          refine rg (pv (r_ms rfl) (pv (r_mi rfl) (pv (r_mi rfl) (pv (r_ixe hv2 rfl Try.underlying44 Try.sizeOf3 hp2 hl2 he2) (wl rfl (stO (q := 1) (i := Int.toNat x2) (j := 0) (u := u3) (u' := u1) hS3 ⟨rfl, rfl⟩ hv2 (idx_some hx5).2.2 he2 rfl rfl rfl Try.sizeOf3 rfl rfl rfl (fun c0 hc0 => by rw [storeL_all (r := (rInt .i64)) hc0 rfl]; exact rfl) fun w5 im5 hS4 => ?_))))))
          have hS4 : Sep g T4 w5 [R, ownA (rInt .i64) 3 (.slice a4 n2 c4) (List.set x1 (Int.toNat x2) u1), H_p1 [.string ⟨p1.Name.toArray⟩, .bool p1.Void, .int .i64 p1.Params, .int .i64 p1.Regs, .slice a2 (List.length p1.Objects) c2, .slice a3 (List.length p1.Blocks) c3]] := hS4
          refine nil (t_thenR [(0, .slice a4 n2 c4), (1, .func (.func 70) #[] #[.pointer (some ⟨b_p1, o_p1, none⟩)]), (5, .int .i64 x2), (6, .int .i64 x3)] ⟨rfl, rfl, rfl, rfl, trivial⟩ fun J => ?_)
          exact rg (pv (r_mi rfl) (pv (r_ib rfl rfl rfl) (pv (r_zi rfl) (nil (t_blk (t_then ⟨_, _, (List.set x1 (Int.toNat x2) u1), _, _, _, (IntKind.wrap .i64 (x2 + 1)), env_has ⟨rfl, rfl, rfl, rfl, trivial⟩, (Im.trans im4 im5), hS4.sel [0, 1, 2] rfl, hm⟩))))))
        · have hm := cfalse hb3 hm
          exact skp (t_blk (t_then ⟨_, _, x1, _, _, _, x2, env_has ⟨rfl, rfl, rfl, rfl, trivial⟩, im4, hS3.sel [0, 1, 2] rfl, hm⟩))
      · rintro _ w3 ⟨J, T3, x4, a5, n3, c5, x5, rfl, im3, hS5, hm⟩
        rw [hkk1] at hm
        have hm := Option.some.inj hm
        subst hm
        exact rg (pv (r_mi rfl) (pv (r_ib rfl rfl rfl) (pv (r_zi rfl) (nil (t_then ⟨m1, Nat.lt_succ_self _, _, _, x4, _, _, _, x5, (IntKind.wrap .i64 (x3 + 1)), env_has ⟨rfl, rfl, rfl, rfl, trivial⟩, (Im.trans im2 im3), hS5.sel [0, 1, 2] rfl, hn1⟩)))))
    · have hm := cfalse hb2 hm
      have hm := Option.some.inj hm
      subst hm
      have hn1 : _ = Lp.brk _ := hn1
      subst hn1
      have hm := thn_brk hq1
      refine xt (x_then (x_then (x_eq (t_thenR [(0, .slice a4 n2 c4), (5, .int .i64 x2)] ⟨rfl, rfl, trivial⟩ fun J => ?_))))
      refine sq2 ?_
      refine rg (pv (r_ms rfl) (pv (r_mi rfl) (?_)))
      obtain ⟨u4, hx6, hm⟩ := bindS hm
      refine pv (r_slV (v := Value.slice (if c4 = Int.toNat x2 then a4 else Option.map (fun z => z.add ((Int.toNat x2) * 1)) a4) (List.length x1 - Int.toNat x2) (c4 - Int.toNat x2)) rfl (hS2.own (i := 1) ⟨rfl, rfl⟩).v ⟨_, rfl⟩ rfl hx6 Try.underlying44 Try.sizeOf3 rfl rfl) (wl rfl (clO (q := 1) (i := Int.toNat x2) (l := x1) (z0 := 0) hS2 ⟨rfl, rfl⟩ rfl Try.zeroValue3 (fun _ _ => rfl) Try.underlying44 (sub_lo hx6) fun w6 im6 hS6 => ?_))
      have hS6 : Sep g T2 w6 [R, ownA (rInt .i64) 3 (.slice a4 n2 c4) (List.take (Int.toNat x2) x1 ++ List.replicate (List.length x1 - Int.toNat x2) 0), H_p1 [.string ⟨p1.Name.toArray⟩, .bool p1.Void, .int .i64 p1.Params, .int .i64 p1.Regs, .slice a2 (List.length p1.Objects) c2, .slice a3 (List.length p1.Blocks) c3]] := hS6
      refine nil (t_then ?_)
      refine sq2 ?_
      refine rg (pv (r_ms rfl) (pv (r_mi rfl) (?_)))
      obtain ⟨u5, hx7, hm⟩ := bindS hm
      obtain ⟨a6, n4, c6, he3, hS7⟩ := hS6.cutA (q := 1) ⟨rfl, rfl⟩ hx7
      have hS7 : Sep g T2 w6 [R, ownA (rInt .i64) 3 (.slice a6 n4 c6) u5, H_p1 [.string ⟨p1.Name.toArray⟩, .bool p1.Void, .int .i64 p1.Params, .int .i64 p1.Regs, .slice a2 (List.length p1.Objects) c2, .slice a3 (List.length p1.Blocks) c3]] := hS7
      refine pv (r_slV rfl (hS6.own (i := 1) ⟨rfl, rfl⟩).v rfl ⟨_, rfl⟩ hx7 Try.underlying44 Try.sizeOf3 rfl he3) (pv (r_zs rfl) (nil (t_thenR [(4, .slice a6 n4 c6)] ⟨rfl, trivial⟩ fun J => ?_)))
      have hm := Option.some.inj hm
      subst hm
      exact rtn (ret1 rfl rfl ⟨_, rfl, _, (Im.trans im1 (Im.trans im2 im6)), ⟨_, _, _, rfl, hS7.sel [0, 2, 1] rfl, trivial⟩⟩)

set_option maxRecDepth 100000 in
set_option maxHeartbeats 1000000 in
theorem flow_outs_sim {g : World} {T0 : Nat → Prop} {w0 : World} {R : Assn} {p0 : Proc} {a1 : Option Addr} {c1 : Nat} {a2 : Option Addr} {c2 : Nat} {p1 : Int} {r : (List Int)} (hS : Sep g T0 w0 [R]) (h1 : SlR rGSlot T0 w0 (.slice a1 (List.length p0.Objects) c1) p0.Objects) (h2 : SlR rGBlock T0 w0 (.slice a2 (List.length p0.Blocks) c2) p0.Blocks) (hm : flow_outs p0 p1 = some r) :
    Calls Try.prog 48 #[.agg #[.string ⟨p0.Name.toArray⟩, .bool p0.Void, .int .i64 p0.Params, .int .i64 p0.Regs, .slice a1 (List.length p0.Objects) c1, .slice a2 (List.length p0.Blocks) c2], .int .i64 p1] w0 (RetS T0 w0 fun T w v => ∃ (a6 : Option Addr) (n3 : Nat) (c6 : Nat), v = .slice a6 n3 c6 ∧ Sep g T w [R, ownA (rInt .i64) 3 (.slice a6 n3 c6) r] ∧ True) := by
  refine enter (args := [.agg #[.string ⟨p0.Name.toArray⟩, .bool p0.Void, .int .i64 p0.Params, .int .i64 p0.Regs, .slice a1 (List.length p0.Objects) c1, .slice a2 (List.length p0.Blocks) c2], .int .i64 p1]) Try.func48 rfl Try.ntmps48 rfl fun J => ?_
  unfold flow_outs at hm
  refine sq2 ?_
  refine rg (wl rfl (bxS (cs := [.string ⟨p0.Name.toArray⟩, .bool p0.Void, .int .i64 p0.Params, .int .i64 p0.Regs, .slice a1 (List.length p0.Objects) c1, .slice a2 (List.length p0.Blocks) c2]) rfl rfl hS fun w1 b1 im1 hS1 => ?_))
  refine pv (r_zs rfl) (nil (t_then ?_))
  refine sq2 ?_
  obtain ⟨u1, hx1, hm⟩ := bindS hm
  obtain ⟨b2, of1, cs1, k1, cp1, hv1, hp1, hl1, he1, hr1, hc1, hT1⟩ := (h2.mono im1).ixT hx1 rfl
  obtain ⟨a3, c3, rfl, h3⟩ := rGBlock_open hr1
  obtain ⟨y1, hx2, hm⟩ := bindS hm
  refine rg (pv (r_fa rfl Try.underlying31 rfl Try.sizeOf29 rfl) (pv (r_ld rfl Try.isAgg29 (hS1.cell0 (i := 0) ⟨rfl, rfl⟩ (j := 5) rfl)) (pv (r_mi rfl) (pv (r_ixe hv1 rfl Try.underlying29 Try.sizeOf42 hp1 hl1 he1) (pv (r_ldS rfl Try.isAgg42 Try.sizeOf42 rfl hc1 (cs := [.slice a3 (List.length u1.Ins) c3, .int .i64 u1.End, .int .i64 u1.A, .int .i64 u1.To, .int .i64 u1.Else])) (wl rfl (calS cf69 rfl (ir_Outs_sim (p0 := u1) (hS1.bun [0, 1] [] rfl) h3 hx2) rfl fun v1 T1 w2 im2 rv1 => ?_)))))))
  obtain ⟨a4, n1, c4, rfl, hS2, _⟩ := rv1
  have hS2 : Sep g T1 w2 [boxA b1 [.string ⟨p0.Name.toArray⟩, .bool p0.Void, .int .i64 p0.Params, .int .i64 p0.Regs, .slice a1 (List.length p0.Objects) c1, .slice a2 (List.length p0.Blocks) c2], R, ownA (rInt .i64) 3 (.slice a4 n1 c4) y1] := hS2.unb
  obtain ⟨y2, hx3, hm⟩ := bindS hm
  refine pv (r_mkf (u := .func (.func 70) #[] #[.pointer (some ⟨b1, 0, none⟩)]) rfl) (wl rfl (calS cf68 rfl (slices_DeleteFunc_sim (p0 := y1) (p1 := p0) (H_p1 := boxA b1) (hS2.bun [1] [2, 0] rfl) (lnBox b1) (h1.mono (Im.trans im1 im2)) (h2.mono (Im.trans im1 im2)) hx3) rfl fun v2 T2 w3 im3 rv2 => ?_))
  obtain ⟨a5, n2, c5, rfl, hS3, _⟩ := rv2
  have hS3 : Sep g T2 w3 [R, boxA b1 [.string ⟨p0.Name.toArray⟩, .bool p0.Void, .int .i64 p0.Params, .int .i64 p0.Regs, .slice a1 (List.length p0.Objects) c1, .slice a2 (List.length p0.Blocks) c2], ownA (rInt .i64) 3 (.slice a5 n2 c5) y2] := hS3.unb
  refine pv (r_zs rfl) (nil (t_thenR [(4, .slice a5 n2 c5)] ⟨rfl, trivial⟩ fun J => ?_))
  have hm := Option.some.inj hm
  subst hm
  exact rtn (ret1 rfl rfl ⟨_, rfl, _, (Im.trans im1 (Im.trans im2 im3)), ⟨_, _, _, rfl, hS3.sel [0, 2] rfl, trivial⟩⟩)

set_option maxRecDepth 100000 in
set_option maxHeartbeats 1000000 in
theorem flow_join_sim {g : World} {T0 : Nat → Prop} {w0 : World} {R : Assn} {p0 : List Bool} {a1 : Option Addr} {n1 : Nat} {c1 : Nat} {p1 : List Bool} {v_p1 : Value} {H_p1 : Assn} {r : Bool × (List Bool)} (hS : Sep g T0 w0 [R, ownA rBool 4 (.slice a1 n1 c1) p0, H_p1]) (hV_p1 : Vw H_p1 rBool v_p1 p1) (hm : flow_join p0 p1 = some r) :
    Calls Try.prog 49 #[.slice a1 n1 c1, v_p1] w0 (RetS T0 w0 fun T w v => v = .bool r.1 ∧ Sep g T w [R, ownA rBool 4 (.slice a1 n1 c1) r.2, H_p1] ∧ True) := by
  refine enter (args := [.slice a1 n1 c1, v_p1]) Try.func49 rfl Try.ntmps49 rfl fun J => ?_
  unfold flow_join at hm
  refine sq2 ?_
  refine rg (pv (r_zb rfl) (nil (t_then ?_)))
  refine sq2 ?_
  refine rg (pv (r_zb rfl) (nil (t_then ?_)))
  refine sq2 ?_
  refine sq2 ?_
  refine rg (pv (r_mx (v := v_p1) rfl) (pv (r_lnV rfl (hS.view (i := 2) ⟨rfl, rfl⟩ hV_p1) Try.underlying50) (pv (r_mi rfl) (nil (t_then ?_)))))
  obtain ⟨o1, ho1, hq1⟩ := bindS hm
  obtain ⟨bd1, hbd1, ho1⟩ := loop_open ho1
  refine blk (wp_loop_ghost (fun m a w1 => ∃ (J : Nat → Value) (T1 : Nat → Prop) (x1 : List Bool) (x2 : Bool) (x3 : Int), a = env (nf 28) J [(0, .slice a1 n1 c1), (5, .bool x2), (8, v_p1), (9, .int .i64 (List.length p1 : Int)), (10, .int .i64 x3)] ∧ Im T0 w0 T1 w1 ∧ Sep g T1 w1 [R, ownA rBool 4 (.slice a1 n1 c1) x1, H_p1] ∧ loopM bd1 m (x1, x2, x3) = some o1) NN ⟨_, _, p0, false, 0, env_has ⟨rfl, rfl, rfl, rfl, rfl, trivial⟩, Im.refl, hS.sel [0, 1, 2] rfl, ho1⟩ ?_)
  rintro m _ w1 ⟨J, T1, x1, x2, x3, rfl, im1, hS1, ho1⟩
  obtain ⟨m1, z1, rfl, hm, hn1⟩ := loop_round ho1
  rw [hbd1] at hm
  refine sq2 ?_
  refine rg (pv (r_ib rfl rfl rfl) (nil (t_then ?_)))
  refine sq2 ?_
  refine cnd rfl (fun hb1 => ?_) (fun hb1 => ?_)
  · have hm := ctrue hb1 hm
    refine skp (t_then ?_)
    obtain ⟨kk1, hkk1, hm⟩ := jn_open hm
    refine cut (fun a w2 => ∃ (J : Nat → Value) (T2 : Nat → Prop) (x4 : List Bool) (x5 : Bool), a = env (nf 28) J [(0, .slice a1 n1 c1), (5, .bool x5), (8, v_p1), (9, .int .i64 (List.length p1 : Int)), (10, .int .i64 x3)] ∧ Im T1 w1 T2 w2 ∧ Sep g T2 w2 [R, ownA rBool 4 (.slice a1 n1 c1) x4, H_p1] ∧ kk1 x4 x5 = some z1) ?_ ?_
    · refine blk ?_
      refine sq2 ?_
      obtain ⟨u1, hx1, hm⟩ := bindS hm
      obtain ⟨b1, of1, cs1, k1, cp1, hv1, hp1, hl1, he1, hr1, hc1⟩ := (hS1.view (i := 2) ⟨rfl, rfl⟩ hV_p1).ixq hx1 rfl
      cases hr1
      refine rg (pv (r_mi rfl) (pv (r_ixe hv1 rfl Try.underlying50 Try.sizeOf4 hp1 hl1 he1) (pv (r_ld rfl Try.isAgg4 (hc1.get (j := 0) rfl)) (pv (r_zi rfl) (pv (r_zb rfl) (nil (t_then ?_)))))))
      refine sq2 ?_
      refine rg (pv (r_mb rfl) (pv (r_mb rfl) (?_)))
      rcases Bool.eq_false_or_eq_true u1 with hb2 | hb2
      · have hm := ctrue hb2 hm
        obtain ⟨u2, hx2, hm⟩ := bindS hm
        obtain ⟨b2, of2, cs2, k2, cp2, hv2, hp2, hl2, he2, hr2, hc2⟩ := (hS1.own (i := 1) ⟨rfl, rfl⟩).v.ixq hx2 rfl
        cases hr2
        refine gT (d0 := 16) rfl rfl hb2 (pv (r_ms rfl) (gT (d0 := 16) rfl rfl hb2 (pv (r_mi rfl) (gT (d0 := 16) rfl rfl hb2 (pv (r_ixe hv2 rfl Try.underlying50 Try.sizeOf4 hp2 hl2 he2) (gT (d0 := 16) rfl rfl hb2 (pv (r_ld rfl Try.isAgg4 (hc2.get (j := 0) rfl)) (gT (d0 := 16) rfl rfl hb2 (pv (r_nt rfl) (pv (r_pkt rfl hb2 rfl) (nil (t_thenR [(0, .slice a1 n1 c1), (5, .bool x2), (6, .int .i64 x3), (8, v_p1), (9, .int .i64 (List.length p1 : Int)), (10, .int .i64 x3), (22, .bool (!u2))] ⟨rfl, rfl, rfl, rfl, rfl, rfl, rfl, trivial⟩ fun J => ?_))))))))))))
        refine cnd rfl (fun hb3 => ?_) (fun hb3 => ?_)
        · have hm := ctrue hb3 hm
          obtain ⟨u3, hx3, hm⟩ := bindS hm
          obtain ⟨b3, of3, cs3, k3, cp3, hv3, hp3, hl3, he3, hr3, hc3⟩ := (hS1.own (i := 1) ⟨rfl, rfl⟩).v.ixq hx3 rfl
          cases hr3
          obtain ⟨u4, hx4, hm⟩ := bindS hm
          refine rg (pv (r_ms rfl) (pv (r_mi rfl) (pv (r_ixe hv3 rfl Try.underlying50 Try.sizeOf4 hp3 hl3 he3) (wl rfl (stO (q := 1) (i := Int.toNat x3) (j := 0) (u := u4) (u' := true) hS1 ⟨rfl, rfl⟩ hv3 (idx_some hx4).2.2 he3 rfl rfl rfl Try.sizeOf4 rfl rfl rfl (fun c0 hc0 => by rw [storeL_all (r := rBool) hc0 rfl]; exact rfl) fun w3 im3 hS2 => ?_)))))
          have hS2 : Sep g T1 w3 [R, ownA rBool 4 (.slice a1 n1 c1) (List.set x1 (Int.toNat x3) true), H_p1] := hS2
          exact pv (r_zb rfl) (nil (t_blk (t_then ⟨_, _, (List.set x1 (Int.toNat x3) true), true, env_has ⟨rfl, rfl, rfl, rfl, rfl, trivial⟩, im3, hS2.sel [0, 1, 2] rfl, hm⟩)))
        · have hm := cfalse hb3 hm
          exact skp (t_blk (t_then ⟨_, _, x1, x2, env_has ⟨rfl, rfl, rfl, rfl, rfl, trivial⟩, Im.refl, hS1.sel [0, 1, 2] rfl, hm⟩))
      · have hm := cfalse hb2 hm
        refine gF (d0 := 16) rfl rfl (by rw [hb2]; rfl) (gF (d0 := 16) rfl rfl (by rw [hb2]; rfl) (gF (d0 := 16) rfl rfl (by rw [hb2]; rfl) (gF (d0 := 16) rfl rfl (by rw [hb2]; rfl) (gF (d0 := 16) rfl rfl (by rw [hb2]; rfl) (pv (r_pkf rfl hb2 rfl) (nil (t_thenR [(0, .slice a1 n1 c1), (5, .bool x2), (6, .int .i64 x3), (8, v_p1), (9, .int .i64 (List.length p1 : Int)), (10, .int .i64 x3), (22, .bool false)] ⟨rfl, rfl, rfl, rfl, rfl, rfl, rfl, trivial⟩ fun J => ?_)))))))
        refine cnd (b := false) rfl (fun h => nomatch h) (fun _ => ?_)
        exact skp (t_blk (t_then ⟨_, _, x1, x2, env_has ⟨rfl, rfl, rfl, rfl, rfl, trivial⟩, Im.refl, hS1.sel [0, 1, 2] rfl, hm⟩))
    · rintro _ w2 ⟨J, T2, x4, x5, rfl, im2, hS3, hm⟩
      rw [hkk1] at hm
      have hm := Option.some.inj hm
      subst hm
      exact rg (pv (r_ib rfl rfl rfl) (pv (r_mi rfl) (nil (t_then ⟨m1, Nat.lt_succ_self _, _, _, x4, x5, (IntKind.wrap .i64 (x3 + 1)), env_has ⟨rfl, rfl, rfl, rfl, rfl, trivial⟩, (Im.trans im1 im2), hS3.sel [0, 1, 2] rfl, hn1⟩))))
  · have hm := cfalse hb1 hm
    have hm := Option.some.inj hm
    subst hm
    have hn1 : _ = Lp.brk _ := hn1
    subst hn1
    have hm := thn_brk hq1
    refine xt (x_then (x_then (x_eq (t_thenR [(5, .bool x2)] ⟨rfl, trivial⟩ fun J => ?_))))
    refine sq2 ?_
    refine rg (pv (r_mb rfl) (pv (r_zb rfl) (nil (t_then ?_))))
    have hm := Option.some.inj hm
    subst hm
    exact rtn (ret1 rfl rfl ⟨_, rfl, _, im1, ⟨rfl, hS1.sel [0, 1, 2] rfl, trivial⟩⟩)

set_option maxRecDepth 100000 in
set_option maxHeartbeats 1000000 in
theorem slices_Clone_sim {g : World} {T0 : Nat → Prop} {w0 : World} {R : Assn} {p0 : List Bool} {v_p0 : Value} {H_p0 : Assn} {r : (List Bool)} (hS : Sep g T0 w0 [R, H_p0]) (hV_p0 : Vw H_p0 rBool v_p0 p0) (hm : slices_Clone p0 = some r) :
    Calls Try.prog 50 #[v_p0] w0 (RetS T0 w0 fun T w v => ∃ (a4 : Option Addr) (n3 : Nat) (c4 : Nat), v = .slice a4 n3 c4 ∧ Sep g T w [R, H_p0, ownA rBool 4 (.slice a4 n3 c4) r] ∧ True) := by
  refine enter (args := [v_p0]) Try.func50 rfl Try.ntmps50 rfl fun J => ?_
  unfold slices_Clone at hm
  refine sq2 ?_
  refine rg (pv (r_zs rfl) (nil (t_then ?_)))
  refine sq2 ?_
  refine sq2 ?_
  refine rg (pv (r_mx (v := v_p0) rfl) (?_))
  obtain ⟨a1, c1, he1⟩ := (hS.view (i := 1) ⟨rfl, rfl⟩ hV_p0).shape
  subst he1
  refine pv (r_sne rfl rfl rfl Try.underlying50) (nil (t_then ?_))
  rcases SlV.nilOr (hS.view (i := 1) ⟨rfl, rfl⟩ hV_p0) with ⟨hb1, hl0⟩ | hb1
  · subst hb1
    subst hl0
    have hm : some [] = some r := hm
    refine cnd (b := true) rfl (fun _ => ?_) (fun h => nomatch h)
    refine sq2 ?_
    refine rg (pv (r_zs rfl) (nil (t_then ?_)))
    have hS1 := hS.nilO rBool 4
    have hm := Option.some.inj hm
    subst hm
    exact rtn (r_then (ret1 rfl rfl ⟨_, rfl, _, Im.refl, ⟨_, _, _, rfl, hS1.sel [1, 2, 0] rfl, trivial⟩⟩))
  · refine cnd rfl (fun h => absurd (h.symm.trans hb1) (fun h => nomatch h)) (fun _ => ?_)
    refine skp (t_then ?_)
    refine sq2 ?_
    refine rg (wl rfl (bs0S rBool hS Try.underlying50 Try.sizeOf4 fun w1 a2 n1 c2 im1 hS2 => ?_))
    obtain ⟨z_1, hro1, hm⟩ := bindS hm
    refine pv (r_mx (v := .slice a1 (List.length p0) c1) rfl) (wl rfl (apO (q := 0) (l := ([] : List Bool)) (us := p0) hS2 ⟨rfl, rfl⟩ rfl rfl (hS2.view (i := 2) ⟨rfl, rfl⟩ hV_p0) Try.underlying50 el4 (room_some hro1) fun w2 a3 n2 c3 im2 hS3 => ?_))
    have hS3 : Sep g T0 w2 [ownA rBool 4 (.slice a3 n2 c3) (([] : List Bool) ++ p0), R, H_p0] := hS3
    refine pv (r_zs rfl) (nil (t_thenR [(2, .slice a3 n2 c3)] ⟨rfl, trivial⟩ fun J => ?_))
    have hm := Option.some.inj hm
    subst hm
    exact rtn (ret1 rfl rfl ⟨_, rfl, _, (Im.trans im1 im2), ⟨_, _, _, rfl, hS3.sel [1, 2, 0] rfl, trivial⟩⟩)

set_option maxRecDepth 100000 in
set_option maxHeartbeats 1000000 in
theorem ir_Uses_sim {g : World} {T0 : Nat → Prop} {w0 : World} {R : Assn} {p0 : Ins} {a1 : Option Addr} {c1 : Nat} {r : (List Int)} (hS : Sep g T0 w0 [R]) (h1 : SlR (rInt .i64) T0 w0 (.slice a1 (List.length p0.Args) c1) p0.Args) (hm : ir_Uses p0 = some r) :
    Calls Try.prog 32 #[.agg #[.int .i64 p0.Op, .int .i64 p0.D, .int .i64 p0.A, .int .i64 p0.B, .int .i64 p0.Fn, .int .i64 p0.Obj, .int .i64 p0.Off, .int .i64 p0.Size, .int .u32 p0.Num, .slice a1 (List.length p0.Args) c1, .bool p0.Log]] w0 (RetS T0 w0 fun T w v => ∃ (a13 : Option Addr) (n12 : Nat) (c13 : Nat), v = .slice a13 n12 c13 ∧ Sep g T w [R, ownA (rInt .i64) 3 (.slice a13 n12 c13) r] ∧ True) := by
  refine enter (args := [.agg #[.int .i64 p0.Op, .int .i64 p0.D, .int .i64 p0.A, .int .i64 p0.B, .int .i64 p0.Fn, .int .i64 p0.Obj, .int .i64 p0.Off, .int .i64 p0.Size, .int .u32 p0.Num, .slice a1 (List.length p0.Args) c1, .bool p0.Log]]) Try.func32 rfl Try.ntmps32 rfl fun J => ?_
  unfold ir_Uses at hm
  refine sq2 ?_
  refine rg (wl rfl (bxS (cs := [.int .i64 p0.Op, .int .i64 p0.D, .int .i64 p0.A, .int .i64 p0.B, .int .i64 p0.Fn, .int .i64 p0.Obj, .int .i64 p0.Off, .int .i64 p0.Size, .int .u32 p0.Num, .slice a1 (List.length p0.Args) c1, .bool p0.Log]) rfl rfl hS fun w1 b1 im1 hS1 => ?_))
  refine pv (r_zs rfl) (nil (t_then ?_))
  refine sq2 ?_
  refine rg (pv (r_zs rfl) (nil (t_then ?_)))
  refine sq2 ?_
  obtain ⟨y1, hx1, hm⟩ := bindS hm
  refine rg (pv (r_fa rfl Try.underlying46 rfl Try.sizeOf3 rfl) (pv (r_ld rfl Try.isAgg3 (hS1.cell0 (i := 0) ⟨rfl, rfl⟩ (j := 0) rfl)) (wl rfl (calS cf52 rfl (ir_reads_sim (p0 := p0.Op) (hS1.bun [0, 1] [] rfl)  hx1) rfl fun v1 T1 w2 im2 rv1 => ?_))))
  obtain ⟨rfl, hS2, _⟩ := rv1
  have hS2 : Sep g T1 w2 [boxA b1 [.int .i64 p0.Op, .int .i64 p0.D, .int .i64 p0.A, .int .i64 p0.B, .int .i64 p0.Fn, .int .i64 p0.Obj, .int .i64 p0.Off, .int .i64 p0.Size, .int .u32 p0.Num, .slice a1 (List.length p0.Args) c1, .bool p0.Log], R] := hS2.unb
  refine pv (r_mv rfl) (pv (r_ex (v := .bool y1.1) rfl rfl) (pv (r_ex (v := .bool y1.2) rfl rfl) (pv (r_zb rfl) (pv (r_zb rfl) (nil (t_thenR [(1, .pointer (some ⟨b1, 0, none⟩)), (3, .slice none 0 0), (4, .bool y1.1), (5, .bool y1.2)] ⟨rfl, rfl, rfl, rfl, trivial⟩ fun J => ?_))))))
  obtain ⟨kk1, hkk1, hm⟩ := jn_open hm
  have hS3 := hS2.nilO (rInt .i64) 3
  refine cut (fun a w3 => ∃ (J : Nat → Value) (T2 : Nat → Prop) (x1 : List Int) (a2 : Option Addr) (n1 : Nat) (c2 : Nat), a = env (nf 54) J [(1, .pointer (some ⟨b1, 0, none⟩)), (3, .slice a2 n1 c2), (5, .bool y1.2)] ∧ Im T1 w2 T2 w3 ∧ Sep g T2 w3 [ownA (rInt .i64) 3 (.slice a2 n1 c2) x1, boxA b1 [.int .i64 p0.Op, .int .i64 p0.D, .int .i64 p0.A, .int .i64 p0.B, .int .i64 p0.Fn, .int .i64 p0.Obj, .int .i64 p0.Off, .int .i64 p0.Size, .int .u32 p0.Num, .slice a1 (List.length p0.Args) c1, .bool p0.Log], R] ∧ kk1 x1 = some r) ?_ ?_
  · refine sq2 ?_
    refine rg (pv (r_mb rfl) (pv (r_mb rfl) (?_)))
    rcases Bool.eq_false_or_eq_true y1.1 with hb1 | hb1
    · have hm := ctrue hb1 hm
      refine gT (d0 := 15) rfl rfl hb1 (pv (r_fa rfl Try.underlying46 rfl Try.sizeOf3 rfl) (gT (d0 := 15) rfl rfl hb1 (pv (r_ld rfl Try.isAgg3 (hS3.cell0 (i := 1) ⟨rfl, rfl⟩ (j := 2) rfl)) (gT (d0 := 15) rfl rfl hb1 (pv (r_ib rfl rfl rfl) (pv (r_pkt rfl hb1 rfl) (nil (t_thenR [(1, .pointer (some ⟨b1, 0, none⟩)), (3, .slice none 0 0), (5, .bool y1.2), (19, .bool (p0.A != (-1)))] ⟨rfl, rfl, rfl, rfl, trivial⟩ fun J => ?_))))))))
      refine cnd rfl (fun hb2 => ?_) (fun hb2 => ?_)
      · have hm := ctrue hb2 hm
        refine rg (pv (r_ms rfl) (pv (r_fa rfl Try.underlying46 rfl Try.sizeOf3 rfl) (pv (r_ld rfl Try.isAgg3 (hS3.cell0 (i := 1) ⟨rfl, rfl⟩ (j := 2) rfl)) (wl rfl (bsS (r := (rInt .i64)) (l := ([p0.A] : List Int)) (css := [[.int .i64 p0.A]]) hS3 Try.underlying44 Try.sizeOf3 Try.zeroValue3 rfl rfl (by kernel_rfl) rfl ⟨rfl, trivial⟩ rfl rfl fun w4 a3 n2 c3 im4 hS4 => ?_)))))
        obtain ⟨z_1, hro1, hm⟩ := bindS hm
        refine wl rfl (apO (q := 1) (l := ([] : List Int)) (us := ([p0.A] : List Int)) hS4 ⟨rfl, rfl⟩ rfl rfl (hS4.own (i := 0) ⟨rfl, rfl⟩).v Try.underlying44 el3 (room_some hro1) fun w5 a4 n3 c4 im5 hS5 => ?_)
        have hS5 : Sep g T1 w5 [ownA (rInt .i64) 3 (.slice a3 n2 c3) ([p0.A] : List Int), ownA (rInt .i64) 3 (.slice a4 n3 c4) (([] : List Int) ++ ([p0.A] : List Int)), boxA b1 [.int .i64 p0.Op, .int .i64 p0.D, .int .i64 p0.A, .int .i64 p0.B, .int .i64 p0.Fn, .int .i64 p0.Obj, .int .i64 p0.Off, .int .i64 p0.Size, .int .u32 p0.Num, .slice a1 (List.length p0.Args) c1, .bool p0.Log], R] := hS5
        exact pv (r_zs rfl) (nil (t_then ⟨_, _, (([] : List Int) ++ ([p0.A] : List Int)), _, _, _, env_has ⟨rfl, rfl, rfl, trivial⟩, (Im.trans im4 im5), hS5.sel [1, 2, 3] rfl, hm⟩))
      · have hm := cfalse hb2 hm
        exact skp (t_then ⟨_, _, [], _, _, _, env_has ⟨rfl, rfl, rfl, trivial⟩, Im.refl, hS3.sel [0, 1, 2] rfl, hm⟩)
    · have hm := cfalse hb1 hm
      refine gF (d0 := 15) rfl rfl (by rw [hb1]; rfl) (gF (d0 := 15) rfl rfl (by rw [hb1]; rfl) (gF (d0 := 15) rfl rfl (by rw [hb1]; rfl) (pv (r_pkf rfl hb1 rfl) (nil (t_thenR [(1, .pointer (some ⟨b1, 0, none⟩)), (3, .slice none 0 0), (5, .bool y1.2), (19, .bool false)] ⟨rfl, rfl, rfl, rfl, trivial⟩ fun J => ?_)))))
      refine cnd (b := false) rfl (fun h => nomatch h) (fun _ => ?_)
      exact skp (t_then ⟨_, _, [], _, _, _, env_has ⟨rfl, rfl, rfl, trivial⟩, Im.refl, hS3.sel [0, 1, 2] rfl, hm⟩)
  · rintro _ w3 ⟨J, T2, x1, a2, n1, c2, rfl, im3, hS6, hm⟩
    rw [hkk1] at hm
    obtain ⟨kk2, hkk2, hm⟩ := jn_open hm
    refine cut (fun a w6 => ∃ (J : Nat → Value) (T3 : Nat → Prop) (x2 : List Int) (a5 : Option Addr) (n4 : Nat) (c5 : Nat), a = env (nf 54) J [(1, .pointer (some ⟨b1, 0, none⟩)), (3, .slice a5 n4 c5)] ∧ Im T2 w3 T3 w6 ∧ Sep g T3 w6 [ownA (rInt .i64) 3 (.slice a5 n4 c5) x2, boxA b1 [.int .i64 p0.Op, .int .i64 p0.D, .int .i64 p0.A, .int .i64 p0.B, .int .i64 p0.Fn, .int .i64 p0.Obj, .int .i64 p0.Off, .int .i64 p0.Size, .int .u32 p0.Num, .slice a1 (List.length p0.Args) c1, .bool p0.Log], R] ∧ kk2 x2 = some r) ?_ ?_
    · refine sq2 ?_
      refine rg (pv (r_mb rfl) (pv (r_mb rfl) (?_)))
      rcases Bool.eq_false_or_eq_true y1.2 with hb4 | hb4
      · have hm := ctrue hb4 hm
        refine gT (d0 := 26) rfl rfl hb4 (pv (r_fa rfl Try.underlying46 rfl Try.sizeOf3 rfl) (gT (d0 := 26) rfl rfl hb4 (pv (r_ld rfl Try.isAgg3 (hS6.cell0 (i := 1) ⟨rfl, rfl⟩ (j := 3) rfl)) (gT (d0 := 26) rfl rfl hb4 (pv (r_ib rfl rfl rfl) (pv (r_pkt rfl hb4 rfl) (nil (t_thenR [(1, .pointer (some ⟨b1, 0, none⟩)), (3, .slice a2 n1 c2), (30, .bool (p0.B != (-1)))] ⟨rfl, rfl, rfl, trivial⟩ fun J => ?_))))))))
        refine cnd rfl (fun hb5 => ?_) (fun hb5 => ?_)
        · have hm := ctrue hb5 hm
          refine rg (pv (r_ms rfl) (pv (r_fa rfl Try.underlying46 rfl Try.sizeOf3 rfl) (pv (r_ld rfl Try.isAgg3 (hS6.cell0 (i := 1) ⟨rfl, rfl⟩ (j := 3) rfl)) (wl rfl (bsS (r := (rInt .i64)) (l := ([p0.B] : List Int)) (css := [[.int .i64 p0.B]]) hS6 Try.underlying44 Try.sizeOf3 Try.zeroValue3 rfl rfl (by kernel_rfl) rfl ⟨rfl, trivial⟩ rfl rfl fun w7 a6 n5 c6 im7 hS7 => ?_)))))
          obtain ⟨z_2, hro2, hm⟩ := bindS hm
          refine wl rfl (apO (q := 1) (l := x1) (us := ([p0.B] : List Int)) hS7 ⟨rfl, rfl⟩ rfl rfl (hS7.own (i := 0) ⟨rfl, rfl⟩).v Try.underlying44 el3 (room_some hro2) fun w8 a7 n6 c7 im8 hS8 => ?_)
          have hS8 : Sep g T2 w8 [ownA (rInt .i64) 3 (.slice a6 n5 c6) ([p0.B] : List Int), ownA (rInt .i64) 3 (.slice a7 n6 c7) (x1 ++ ([p0.B] : List Int)), boxA b1 [.int .i64 p0.Op, .int .i64 p0.D, .int .i64 p0.A, .int .i64 p0.B, .int .i64 p0.Fn, .int .i64 p0.Obj, .int .i64 p0.Off, .int .i64 p0.Size, .int .u32 p0.Num, .slice a1 (List.length p0.Args) c1, .bool p0.Log], R] := hS8
          exact pv (r_zs rfl) (nil (t_then ⟨_, _, (x1 ++ ([p0.B] : List Int)), _, _, _, env_has ⟨rfl, rfl, trivial⟩, (Im.trans im7 im8), hS8.sel [1, 2, 3] rfl, hm⟩))
        · have hm := cfalse hb5 hm
          exact skp (t_then ⟨_, _, x1, _, _, _, env_has ⟨rfl, rfl, trivial⟩, Im.refl, hS6.sel [0, 1, 2] rfl, hm⟩)
      · have hm := cfalse hb4 hm
        refine gF (d0 := 26) rfl rfl (by rw [hb4]; rfl) (gF (d0 := 26) rfl rfl (by rw [hb4]; rfl) (gF (d0 := 26) rfl rfl (by rw [hb4]; rfl) (pv (r_pkf rfl hb4 rfl) (nil (t_thenR [(1, .pointer (some ⟨b1, 0, none⟩)), (3, .slice a2 n1 c2), (30, .bool false)] ⟨rfl, rfl, rfl, trivial⟩ fun J => ?_)))))
        refine cnd (b := false) rfl (fun h => nomatch h) (fun _ => ?_)
        exact skp (t_then ⟨_, _, x1, _, _, _, env_has ⟨rfl, rfl, trivial⟩, Im.refl, hS6.sel [0, 1, 2] rfl, hm⟩)
    · rintro _ w6 ⟨J, T3, x2, a5, n4, c5, rfl, im6, hS9, hm⟩
      rw [hkk2] at hm
      obtain ⟨kk3, hkk3, hm⟩ := jn_open hm
      refine cut (fun a w9 => ∃ (J : Nat → Value) (T4 : Nat → Prop) (x3 : List Int) (a8 : Option Addr) (n7 : Nat) (c8 : Nat), a = env (nf 54) J [(3, .slice a8 n7 c8)] ∧ Im T3 w6 T4 w9 ∧ Sep g T4 w9 [ownA (rInt .i64) 3 (.slice a8 n7 c8) x3, R] ∧ kk3 x3 = some r) ?_ ?_
      · refine sq2 ?_
        refine rg (pv (r_fa rfl Try.underlying46 rfl Try.sizeOf3 rfl) (pv (r_ld rfl Try.isAgg3 (hS9.cell0 (i := 1) ⟨rfl, rfl⟩ (j := 0) rfl)) (pv (r_ib rfl rfl rfl) (nil (t_then ?_)))))
        refine cnd rfl (fun hb7 => ?_) (fun hb7 => ?_)
        · have hm := ctrue hb7 hm
          refine sq2 ?_
          refine rg (pv (r_fa rfl Try.underlying46 rfl Try.sizeOf44 rfl) (pv (r_ld rfl Try.isAgg44 (hS9.cell0 (i := 1) ⟨rfl, rfl⟩ (j := 9) rfl)) (pv (r_ln rfl Try.underlying44) (pv (r_mi rfl) (nil (t_thenR [(3, .slice a5 n4 c5), (40, .slice a1 (List.length p0.Args) c1), (41, .int .i64 (List.length p0.Args : Int)), (42, .int .i64 0)] ⟨rfl, rfl, rfl, rfl, trivial⟩ fun J => ?_))))))
          obtain ⟨o1, ho1, hq1⟩ := bindS hm
          obtain ⟨bd1, hbd1, ho1⟩ := loop_open ho1
          refine blk (wp_loop_ghost (fun m a w10 => ∃ (J : Nat → Value) (T5 : Nat → Prop) (x4 : List Int) (a9 : Option Addr) (n8 : Nat) (c9 : Nat) (x5 : Int), a = env (nf 54) J [(3, .slice a9 n8 c9), (40, .slice a1 (List.length p0.Args) c1), (41, .int .i64 (List.length p0.Args : Int)), (42, .int .i64 x5)] ∧ Im T3 w6 T5 w10 ∧ Sep g T5 w10 [ownA (rInt .i64) 3 (.slice a9 n8 c9) x4, R] ∧ loopM bd1 m (x4, x5) = some o1) NN ⟨_, _, x2, _, _, _, 0, env_has ⟨rfl, rfl, rfl, rfl, trivial⟩, Im.refl, hS9.sel [0, 2] rfl, ho1⟩ ?_)
          rintro m _ w10 ⟨J, T5, x4, a9, n8, c9, x5, rfl, im10, hS10, ho1⟩
          obtain ⟨m1, z1, rfl, hm, hn1⟩ := loop_round ho1
          rw [hbd1] at hm
          refine sq2 ?_
          refine rg (pv (r_ib rfl rfl rfl) (nil (t_then ?_)))
          refine sq2 ?_
          refine cnd rfl (fun hb8 => ?_) (fun hb8 => ?_)
          · have hm := ctrue hb8 hm
            refine skp (t_then ?_)
            obtain ⟨kk4, hkk4, hm⟩ := jn_open hm
            refine cut (fun a w11 => ∃ (J : Nat → Value) (T6 : Nat → Prop) (x6 : List Int) (a10 : Option Addr) (n9 : Nat) (c10 : Nat), a = env (nf 54) J [(3, .slice a10 n9 c10), (40, .slice a1 (List.length p0.Args) c1), (41, .int .i64 (List.length p0.Args : Int)), (42, .int .i64 x5)] ∧ Im T5 w10 T6 w11 ∧ Sep g T6 w11 [ownA (rInt .i64) 3 (.slice a10 n9 c10) x6, R] ∧ kk4 x6 = some z1) ?_ ?_
            · refine blk ?_
              refine sq2 ?_
              obtain ⟨u1, hx2, hm⟩ := bindS hm
              obtain ⟨b2, of1, cs1, k1, cp1, hv1, hp1, hl1, he1, hr1, hc1, hT1⟩ := (h1.mono (Im.trans im1 (Im.trans im2 (Im.trans im3 (Im.trans im6 im10))))).ixT hx2 rfl
              cases hr1
              refine rg (pv (r_ixe hv1 rfl Try.underlying44 Try.sizeOf3 hp1 hl1 he1) (pv (r_ld rfl Try.isAgg3 (hc1.get (j := 0) rfl)) (pv (r_zi rfl) (nil (t_then ?_)))))
              refine sq2 ?_
              refine rg (pv (r_mi rfl) (pv (r_ib rfl rfl rfl) (nil (t_then ?_))))
              refine cnd rfl (fun hb9 => ?_) (fun hb9 => ?_)
              · have hm := ctrue hb9 hm
                refine rg (pv (r_ms rfl) (pv (r_mi rfl) (wl rfl (bsS (r := (rInt .i64)) (l := ([u1] : List Int)) (css := [[.int .i64 u1]]) hS10 Try.underlying44 Try.sizeOf3 Try.zeroValue3 rfl rfl (by kernel_rfl) rfl ⟨rfl, trivial⟩ rfl rfl fun w12 a11 n10 c11 im12 hS11 => ?_))))
                obtain ⟨z_3, hro3, hm⟩ := bindS hm
                refine wl rfl (apO (q := 1) (l := x4) (us := ([u1] : List Int)) hS11 ⟨rfl, rfl⟩ rfl rfl (hS11.own (i := 0) ⟨rfl, rfl⟩).v Try.underlying44 el3 (room_some hro3) fun w13 a12 n11 c12 im13 hS12 => ?_)
                have hS12 : Sep g T5 w13 [ownA (rInt .i64) 3 (.slice a11 n10 c11) ([u1] : List Int), ownA (rInt .i64) 3 (.slice a12 n11 c12) (x4 ++ ([u1] : List Int)), R] := hS12
                exact pv (r_zs rfl) (nil (t_blk (t_then ⟨_, _, (x4 ++ ([u1] : List Int)), _, _, _, env_has ⟨rfl, rfl, rfl, rfl, trivial⟩, (Im.trans im12 im13), hS12.sel [1, 2] rfl, hm⟩)))
              · have hm := cfalse hb9 hm
                exact skp (t_blk (t_then ⟨_, _, x4, _, _, _, env_has ⟨rfl, rfl, rfl, rfl, trivial⟩, Im.refl, hS10.sel [0, 1] rfl, hm⟩))
            · rintro _ w11 ⟨J, T6, x6, a10, n9, c10, rfl, im11, hS13, hm⟩
              rw [hkk4] at hm
              have hm := Option.some.inj hm
              subst hm
              exact rg (pv (r_ib rfl rfl rfl) (pv (r_mi rfl) (nil (t_then ⟨m1, Nat.lt_succ_self _, _, _, x6, _, _, _, (IntKind.wrap .i64 (x5 + 1)), env_has ⟨rfl, rfl, rfl, rfl, trivial⟩, (Im.trans im10 im11), hS13.sel [0, 1] rfl, hn1⟩))))
          · have hm := cfalse hb8 hm
            have hm := Option.some.inj hm
            subst hm
            have hn1 : _ = Lp.brk _ := hn1
            subst hn1
            have hm := thn_brk hq1
            exact xt (x_then (x_then (x_eq (t_then ⟨_, _, x4, _, _, _, env_has ⟨rfl, trivial⟩, im10, hS10.sel [0, 1] rfl, hm⟩))))
        · have hm := cfalse hb7 hm
          exact skp (t_then ⟨_, _, x2, _, _, _, env_has ⟨rfl, trivial⟩, Im.refl, hS9.sel [0, 2] rfl, hm⟩)
      · rintro _ w9 ⟨J, T4, x3, a8, n7, c8, rfl, im9, hS14, hm⟩
        rw [hkk3] at hm
        refine sq2 ?_
        refine rg (pv (r_ms rfl) (pv (r_zs rfl) (nil (t_then ?_))))
        have hm := Option.some.inj hm
        subst hm
        exact rtn (ret1 rfl rfl ⟨_, rfl, _, (Im.trans im1 (Im.trans im2 (Im.trans im3 (Im.trans im6 im9)))), ⟨_, _, _, rfl, hS14.sel [1, 0] rfl, trivial⟩⟩)

set_option maxRecDepth 100000 in
set_option maxHeartbeats 1000000 in
theorem flow_before_sim {g : World} {T0 : Nat → Prop} {w0 : World} {R : Assn} {p0 : List Bool} {a1 : Option Addr} {n1 : Nat} {c1 : Nat} {p1 : Ins} {a2 : Option Addr} {c2 : Nat} {r : (List Bool)} (hS : Sep g T0 w0 [R, ownA rBool 4 (.slice a1 n1 c1) p0]) (h1 : SlR (rInt .i64) T0 w0 (.slice a2 (List.length p1.Args) c2) p1.Args) (hm : flow_before p0 p1 = some r) :
    Calls Try.prog 51 #[.slice a1 n1 c1, .agg #[.int .i64 p1.Op, .int .i64 p1.D, .int .i64 p1.A, .int .i64 p1.B, .int .i64 p1.Fn, .int .i64 p1.Obj, .int .i64 p1.Off, .int .i64 p1.Size, .int .u32 p1.Num, .slice a2 (List.length p1.Args) c2, .bool p1.Log]] w0 (RetS T0 w0 fun T w v => v = .tuple #[] ∧ Sep g T w [R, ownA rBool 4 (.slice a1 n1 c1) r] ∧ True) := by
  refine enter (args := [.slice a1 n1 c1, .agg #[.int .i64 p1.Op, .int .i64 p1.D, .int .i64 p1.A, .int .i64 p1.B, .int .i64 p1.Fn, .int .i64 p1.Obj, .int .i64 p1.Off, .int .i64 p1.Size, .int .u32 p1.Num, .slice a2 (List.length p1.Args) c2, .bool p1.Log]]) Try.func51 rfl Try.ntmps51 rfl fun J => ?_
  unfold flow_before at hm
  refine sq2 ?_
  refine rg (wl rfl (bxS (cs := [.int .i64 p1.Op, .int .i64 p1.D, .int .i64 p1.A, .int .i64 p1.B, .int .i64 p1.Fn, .int .i64 p1.Obj, .int .i64 p1.Off, .int .i64 p1.Size, .int .u32 p1.Num, .slice a2 (List.length p1.Args) c2, .bool p1.Log]) rfl rfl hS fun w1 b1 im1 hS1 => ?_))
  refine nil (t_then ?_)
  refine sq2 ?_
  obtain ⟨y1, hx1, hm⟩ := bindS hm
  refine rg (pv (r_ms rfl) (pv (r_ldS rfl Try.isAgg46 Try.sizeOf46 rfl (hS1.cells0 (i := 0) ⟨rfl, rfl⟩ (o := 0) rfl) (cs := [.int .i64 p1.Op, .int .i64 p1.D, .int .i64 p1.A, .int .i64 p1.B, .int .i64 p1.Fn, .int .i64 p1.Obj, .int .i64 p1.Off, .int .i64 p1.Size, .int .u32 p1.Num, .slice a2 (List.length p1.Args) c2, .bool p1.Log])) (wl rfl (calS cf33 rfl (ir_Def_sim (p0 := p1) (hS1.bun [0, 1, 2] [] rfl) (h1.mono im1) hx1) rfl fun v1 T1 w2 im2 rv1 => ?_))))
  obtain ⟨rfl, hS2, _⟩ := rv1
  have hS2 : Sep g T1 w2 [boxA b1 [.int .i64 p1.Op, .int .i64 p1.D, .int .i64 p1.A, .int .i64 p1.B, .int .i64 p1.Fn, .int .i64 p1.Obj, .int .i64 p1.Off, .int .i64 p1.Size, .int .u32 p1.Num, .slice a2 (List.length p1.Args) c2, .bool p1.Log], R, ownA rBool 4 (.slice a1 n1 c1) p0] := hS2.unb
  obtain ⟨y2, hx2, hm⟩ := bindS hm
  refine wl rfl (calS cf67 rfl (flow_mark_sim (p0 := p0) (p1 := y1) (p2 := false) (hS2.bun [0, 1] [2] rfl)  hx2) rfl fun v2 T2 w3 im3 rv2 => ?_)
  obtain ⟨rfl, hS3, _⟩ := rv2
  have hS3 : Sep g T2 w3 [boxA b1 [.int .i64 p1.Op, .int .i64 p1.D, .int .i64 p1.A, .int .i64 p1.B, .int .i64 p1.Fn, .int .i64 p1.Obj, .int .i64 p1.Off, .int .i64 p1.Size, .int .u32 p1.Num, .slice a2 (List.length p1.Args) c2, .bool p1.Log], R, ownA rBool 4 (.slice a1 n1 c1) y2] := hS3.unb
  refine nil (t_thenR [(0, .slice a1 n1 c1), (3, .pointer (some ⟨b1, 0, none⟩))] ⟨rfl, rfl, trivial⟩ fun J => ?_)
  refine sq2 ?_
  obtain ⟨y3, hx3, hm⟩ := bindS hm
  refine rg (pv (r_ldS rfl Try.isAgg46 Try.sizeOf46 rfl (hS3.cells0 (i := 0) ⟨rfl, rfl⟩ (o := 0) rfl) (cs := [.int .i64 p1.Op, .int .i64 p1.D, .int .i64 p1.A, .int .i64 p1.B, .int .i64 p1.Fn, .int .i64 p1.Obj, .int .i64 p1.Off, .int .i64 p1.Size, .int .u32 p1.Num, .slice a2 (List.length p1.Args) c2, .bool p1.Log])) (wl rfl (calS cf32 rfl (ir_Uses_sim (p0 := p1) (hS3.bun [1, 2] [] rfl) (h1.mono (Im.trans im1 (Im.trans im2 im3))) hx3) rfl fun v3 T3 w4 im4 rv3 => ?_)))
  obtain ⟨a3, n2, c3, rfl, hS4, _⟩ := rv3
  have hS4 : Sep g T3 w4 [R, ownA rBool 4 (.slice a1 n1 c1) y2, ownA (rInt .i64) 3 (.slice a3 n2 c3) y3] := hS4.unb
  refine pv (r_lnV rfl (hS4.own (i := 2) ⟨rfl, rfl⟩).v Try.underlying44) (pv (r_mi rfl) (nil (t_then ?_)))
  obtain ⟨o1, ho1, hq1⟩ := bindS hm
  obtain ⟨bd1, hbd1, ho1⟩ := loop_open ho1
  refine blk (wp_loop_ghost (fun m a w5 => ∃ (J : Nat → Value) (T4 : Nat → Prop) (x1 : List Bool) (x2 : Int), a = env (nf 21) J [(0, .slice a1 n1 c1), (11, .slice a3 n2 c3), (12, .int .i64 (List.length y3 : Int)), (13, .int .i64 x2)] ∧ Im T3 w4 T4 w5 ∧ Sep g T4 w5 [R, ownA rBool 4 (.slice a1 n1 c1) x1, ownA (rInt .i64) 3 (.slice a3 n2 c3) y3] ∧ loopM bd1 m (x1, x2) = some o1) NN ⟨_, _, y2, 0, env_has ⟨rfl, rfl, rfl, rfl, trivial⟩, Im.refl, hS4.sel [0, 1, 2] rfl, ho1⟩ ?_)
  rintro m _ w5 ⟨J, T4, x1, x2, rfl, im5, hS5, ho1⟩
  obtain ⟨m1, z1, rfl, hm, hn1⟩ := loop_round ho1
  rw [hbd1] at hm
  refine sq2 ?_
  refine rg (pv (r_ib rfl rfl rfl) (nil (t_then ?_)))
  refine sq2 ?_
  refine cnd rfl (fun hb1 => ?_) (fun hb1 => ?_)
  · have hm := ctrue hb1 hm
    refine skp (t_then ?_)
    refine sq2 ?_
    refine blk ?_
    refine sq2 ?_
    obtain ⟨u1, hx4, hm⟩ := bindS hm
    obtain ⟨b2, of1, cs1, k1, cp1, hv1, hp1, hl1, he1, hr1, hc1⟩ := (hS5.own (i := 2) ⟨rfl, rfl⟩).v.ixq hx4 rfl
    cases hr1
    refine rg (pv (r_ixe hv1 rfl Try.underlying44 Try.sizeOf3 hp1 hl1 he1) (pv (r_ld rfl Try.isAgg3 (hc1.get (j := 0) rfl)) (pv (r_zi rfl) (nil (t_then ?_)))))
    obtain ⟨y4, hx5, hm⟩ := bindS hm
    refine rg (pv (r_ms rfl) (pv (r_mi rfl) (wl rfl (calS cf67 rfl (flow_mark_sim (p0 := x1) (p1 := u1) (p2 := true) (hS5.bun [0, 2] [1] rfl)  hx5) rfl fun v4 T5 w6 im6 rv4 => ?_))))
    obtain ⟨rfl, hS6, _⟩ := rv4
    have hS6 : Sep g T5 w6 [R, ownA (rInt .i64) 3 (.slice a3 n2 c3) y3, ownA rBool 4 (.slice a1 n1 c1) y4] := hS6.unb
    refine nil (t_blk (t_thenR [(0, .slice a1 n1 c1), (11, .slice a3 n2 c3), (12, .int .i64 (List.length y3 : Int)), (13, .int .i64 x2)] ⟨rfl, rfl, rfl, rfl, trivial⟩ fun J => ?_))
    have hm := Option.some.inj hm
    subst hm
    exact rg (pv (r_ib rfl rfl rfl) (pv (r_mi rfl) (nil (t_then ⟨m1, Nat.lt_succ_self _, _, _, y4, (IntKind.wrap .i64 (x2 + 1)), env_has ⟨rfl, rfl, rfl, rfl, trivial⟩, (Im.trans im5 im6), hS6.sel [0, 2, 1] rfl, hn1⟩))))
  · have hm := cfalse hb1 hm
    have hm := Option.some.inj hm
    subst hm
    have hn1 : _ = Lp.brk _ := hn1
    subst hn1
    have hm := thn_brk hq1
    have hm := Option.some.inj hm
    subst hm
    exact xt (x_then (x_then (x_eq (end0 rfl ⟨_, rfl, _, (Im.trans im1 (Im.trans im2 (Im.trans im3 (Im.trans im4 im5)))), ⟨rfl, hS5.sel [0, 1] rfl, trivial⟩⟩))))
end Go.Proofs.Yteoihjfnojgnnaa
