/- AllocAssigns: the row. The law returns true at every input that can be read; its arguments read afterwards as before. No condition. -/
import Derived.Test.YteoihjfnojgnnaaGreatRows
import Derived.Test.YteoihjfnojgnnaaGreatRow
import Derived.Test.YteoihjfnojgnnaaGreatW
import Derived.Test.YteoihjfnojgnnaaGreatJ24
import Derived.ShutString
import Derived.ChangeOld
import Derived.Below
import Derived.OpenShut
set_option linter.unusedVariables false
namespace Go.Proofs.YteoihjfnojgnnaaGreat
open Go.ChangeShapes Go.WideShapes Go.ChangeAt Go.RowKit
open Go.ChangeMaps (open_string shut_string)
namespace rowAllocAssigns
theorem own : ownKnob Tryz.prog.godebug = none := by kernel_rfl
theorem laidOut : laidOutB Tryz.prog = true := by kernel_rfl
theorem rd9 : RdOk Tryz.prog 9 rStr (fun (s : List UInt8) => s.length ≤ maxLen) := rdStr Tryz.underlying9
theorem rd3 : RdOk Tryz.prog 3 (rInt .i64) (wfI .i64) := rdInt Tryz.underlying3
theorem rd101 : RdOk Tryz.prog 101 rGSlot (fun (y : GSlot) => (fun (s : List UInt8) => s.length ≤ maxLen) y.Name ∧ ((wfI .i64) y.Size ∧ ((wfI .i64) y.Align ∧ ((wfI .i64) y.Cell)))) := rdStruct (tot := 4) (fun p => ⟨p.1, p.2.1, p.2.2.1, p.2.2.2⟩) (fun _ => rfl) Tryz.underlying101 (by kernel_rfl) (rdTail2 (s := 1) rd9 rfl (by kernel_rfl) (rdTail2 (s := 1) rd3 rfl (by kernel_rfl) (rdTail2 (s := 1) rd3 rfl (by kernel_rfl) (rdTail1 rd3 rfl (by kernel_rfl)))))
theorem rd22 : RdOk Tryz.prog 22 (rSl rGSlot) (fun (l : List GSlot) => (∀ x ∈ l, (fun (y : GSlot) => (fun (s : List UInt8) => s.length ≤ maxLen) y.Name ∧ ((wfI .i64) y.Size ∧ ((wfI .i64) y.Align ∧ ((wfI .i64) y.Cell)))) x) ∧ l.length ≤ maxLen) := rdSl rd101 Tryz.underlying22 (by kernel_rfl) (by decide)
theorem rd5 : RdOk Tryz.prog 5 (rInt .u8) (wfI .u8) := rdInt Tryz.underlying5
theorem rd99 : RdOk Tryz.prog 99 (rSl (rInt .u8)) (fun (l : List Int) => (∀ x ∈ l, (wfI .u8) x) ∧ l.length ≤ maxLen) := rdSl rd5 Tryz.underlying99 (by kernel_rfl) (by decide)
theorem rd23 : RdOk Tryz.prog 23 (rSl (rSl (rInt .u8))) (fun (l : List (List Int)) => (∀ x ∈ l, (fun (l : List Int) => (∀ x ∈ l, (wfI .u8) x) ∧ l.length ≤ maxLen) x) ∧ l.length ≤ maxLen) := rdSl rd99 Tryz.underlying23 (by kernel_rfl) (by decide)
theorem rd4 : RdOk Tryz.prog 4 rBool (fun _ => True) := rdBool Tryz.underlying4
theorem rd47 : RdOk Tryz.prog 47 (rInt .u32) (wfI .u32) := rdInt Tryz.underlying47
theorem rd41 : RdOk Tryz.prog 41 (rSl (rInt .i64)) (fun (l : List Int) => (∀ x ∈ l, (wfI .i64) x) ∧ l.length ≤ maxLen) := rdSl rd3 Tryz.underlying41 (by kernel_rfl) (by decide)
theorem rd49 : RdOk Tryz.prog 49 rIns (fun (y : Ins) => (wfI .i64) y.Op ∧ ((wfI .i64) y.D ∧ ((wfI .i64) y.A ∧ ((wfI .i64) y.B ∧ ((wfI .i64) y.Fn ∧ ((wfI .i64) y.Obj ∧ ((wfI .i64) y.Off ∧ ((wfI .i64) y.Size ∧ ((wfI .u32) y.Num ∧ ((fun (l : List Int) => (∀ x ∈ l, (wfI .i64) x) ∧ l.length ≤ maxLen) y.Args ∧ ((fun _ => True) y.Log))))))))))) := rdStruct (tot := 11) (fun p => ⟨p.1, p.2.1, p.2.2.1, p.2.2.2.1, p.2.2.2.2.1, p.2.2.2.2.2.1, p.2.2.2.2.2.2.1, p.2.2.2.2.2.2.2.1, p.2.2.2.2.2.2.2.2.1, p.2.2.2.2.2.2.2.2.2.1, p.2.2.2.2.2.2.2.2.2.2⟩) (fun _ => rfl) Tryz.underlying49 (by kernel_rfl) (rdTail2 (s := 1) rd3 rfl (by kernel_rfl) (rdTail2 (s := 1) rd3 rfl (by kernel_rfl) (rdTail2 (s := 1) rd3 rfl (by kernel_rfl) (rdTail2 (s := 1) rd3 rfl (by kernel_rfl) (rdTail2 (s := 1) rd3 rfl (by kernel_rfl) (rdTail2 (s := 1) rd3 rfl (by kernel_rfl) (rdTail2 (s := 1) rd3 rfl (by kernel_rfl) (rdTail2 (s := 1) rd3 rfl (by kernel_rfl) (rdTail2 (s := 1) rd47 rfl (by kernel_rfl) (rdTail2 (s := 1) rd41 rfl (by kernel_rfl) (rdTail1 rd4 rfl (by kernel_rfl))))))))))))
theorem rd50 : RdOk Tryz.prog 50 (rSl rIns) (fun (l : List Ins) => (∀ x ∈ l, (fun (y : Ins) => (wfI .i64) y.Op ∧ ((wfI .i64) y.D ∧ ((wfI .i64) y.A ∧ ((wfI .i64) y.B ∧ ((wfI .i64) y.Fn ∧ ((wfI .i64) y.Obj ∧ ((wfI .i64) y.Off ∧ ((wfI .i64) y.Size ∧ ((wfI .u32) y.Num ∧ ((fun (l : List Int) => (∀ x ∈ l, (wfI .i64) x) ∧ l.length ≤ maxLen) y.Args ∧ ((fun _ => True) y.Log))))))))))) x) ∧ l.length ≤ maxLen) := rdSl rd49 Tryz.underlying50 (by kernel_rfl) (by decide)
theorem rd52 : RdOk Tryz.prog 52 rGBlock (fun (y : GBlock) => (fun (l : List Ins) => (∀ x ∈ l, (fun (y : Ins) => (wfI .i64) y.Op ∧ ((wfI .i64) y.D ∧ ((wfI .i64) y.A ∧ ((wfI .i64) y.B ∧ ((wfI .i64) y.Fn ∧ ((wfI .i64) y.Obj ∧ ((wfI .i64) y.Off ∧ ((wfI .i64) y.Size ∧ ((wfI .u32) y.Num ∧ ((fun (l : List Int) => (∀ x ∈ l, (wfI .i64) x) ∧ l.length ≤ maxLen) y.Args ∧ ((fun _ => True) y.Log))))))))))) x) ∧ l.length ≤ maxLen) y.Ins ∧ ((wfI .i64) y.End ∧ ((wfI .i64) y.A ∧ ((wfI .i64) y.To ∧ ((wfI .i64) y.Else))))) := rdStruct (tot := 5) (fun p => ⟨p.1, p.2.1, p.2.2.1, p.2.2.2.1, p.2.2.2.2⟩) (fun _ => rfl) Tryz.underlying52 (by kernel_rfl) (rdTail2 (s := 1) rd50 rfl (by kernel_rfl) (rdTail2 (s := 1) rd3 rfl (by kernel_rfl) (rdTail2 (s := 1) rd3 rfl (by kernel_rfl) (rdTail2 (s := 1) rd3 rfl (by kernel_rfl) (rdTail1 rd3 rfl (by kernel_rfl))))))
theorem rd29 : RdOk Tryz.prog 29 (rSl rGBlock) (fun (l : List GBlock) => (∀ x ∈ l, (fun (y : GBlock) => (fun (l : List Ins) => (∀ x ∈ l, (fun (y : Ins) => (wfI .i64) y.Op ∧ ((wfI .i64) y.D ∧ ((wfI .i64) y.A ∧ ((wfI .i64) y.B ∧ ((wfI .i64) y.Fn ∧ ((wfI .i64) y.Obj ∧ ((wfI .i64) y.Off ∧ ((wfI .i64) y.Size ∧ ((wfI .u32) y.Num ∧ ((fun (l : List Int) => (∀ x ∈ l, (wfI .i64) x) ∧ l.length ≤ maxLen) y.Args ∧ ((fun _ => True) y.Log))))))))))) x) ∧ l.length ≤ maxLen) y.Ins ∧ ((wfI .i64) y.End ∧ ((wfI .i64) y.A ∧ ((wfI .i64) y.To ∧ ((wfI .i64) y.Else))))) x) ∧ l.length ≤ maxLen) := rdSl rd52 Tryz.underlying29 (by kernel_rfl) (by decide)
theorem rd31 : RdOk Tryz.prog 31 rProc (fun (y : Proc) => (fun (s : List UInt8) => s.length ≤ maxLen) y.Name ∧ ((fun _ => True) y.Void ∧ ((wfI .i64) y.Params ∧ ((wfI .i64) y.Regs ∧ ((fun (l : List GSlot) => (∀ x ∈ l, (fun (y : GSlot) => (fun (s : List UInt8) => s.length ≤ maxLen) y.Name ∧ ((wfI .i64) y.Size ∧ ((wfI .i64) y.Align ∧ ((wfI .i64) y.Cell)))) x) ∧ l.length ≤ maxLen) y.Objects ∧ ((fun (l : List GBlock) => (∀ x ∈ l, (fun (y : GBlock) => (fun (l : List Ins) => (∀ x ∈ l, (fun (y : Ins) => (wfI .i64) y.Op ∧ ((wfI .i64) y.D ∧ ((wfI .i64) y.A ∧ ((wfI .i64) y.B ∧ ((wfI .i64) y.Fn ∧ ((wfI .i64) y.Obj ∧ ((wfI .i64) y.Off ∧ ((wfI .i64) y.Size ∧ ((wfI .u32) y.Num ∧ ((fun (l : List Int) => (∀ x ∈ l, (wfI .i64) x) ∧ l.length ≤ maxLen) y.Args ∧ ((fun _ => True) y.Log))))))))))) x) ∧ l.length ≤ maxLen) y.Ins ∧ ((wfI .i64) y.End ∧ ((wfI .i64) y.A ∧ ((wfI .i64) y.To ∧ ((wfI .i64) y.Else))))) x) ∧ l.length ≤ maxLen) y.Blocks)))))) := rdStruct (tot := 6) (fun p => ⟨p.1, p.2.1, p.2.2.1, p.2.2.2.1, p.2.2.2.2.1, p.2.2.2.2.2⟩) (fun _ => rfl) Tryz.underlying31 (by kernel_rfl) (rdTail2 (s := 1) rd9 rfl (by kernel_rfl) (rdTail2 (s := 1) rd4 rfl (by kernel_rfl) (rdTail2 (s := 1) rd3 rfl (by kernel_rfl) (rdTail2 (s := 1) rd3 rfl (by kernel_rfl) (rdTail2 (s := 1) rd22 rfl (by kernel_rfl) (rdTail1 rd29 rfl (by kernel_rfl)))))))
theorem rd24 : RdOk Tryz.prog 24 (rSl rProc) (fun (l : List Proc) => (∀ x ∈ l, (fun (y : Proc) => (fun (s : List UInt8) => s.length ≤ maxLen) y.Name ∧ ((fun _ => True) y.Void ∧ ((wfI .i64) y.Params ∧ ((wfI .i64) y.Regs ∧ ((fun (l : List GSlot) => (∀ x ∈ l, (fun (y : GSlot) => (fun (s : List UInt8) => s.length ≤ maxLen) y.Name ∧ ((wfI .i64) y.Size ∧ ((wfI .i64) y.Align ∧ ((wfI .i64) y.Cell)))) x) ∧ l.length ≤ maxLen) y.Objects ∧ ((fun (l : List GBlock) => (∀ x ∈ l, (fun (y : GBlock) => (fun (l : List Ins) => (∀ x ∈ l, (fun (y : Ins) => (wfI .i64) y.Op ∧ ((wfI .i64) y.D ∧ ((wfI .i64) y.A ∧ ((wfI .i64) y.B ∧ ((wfI .i64) y.Fn ∧ ((wfI .i64) y.Obj ∧ ((wfI .i64) y.Off ∧ ((wfI .i64) y.Size ∧ ((wfI .u32) y.Num ∧ ((fun (l : List Int) => (∀ x ∈ l, (wfI .i64) x) ∧ l.length ≤ maxLen) y.Args ∧ ((fun _ => True) y.Log))))))))))) x) ∧ l.length ≤ maxLen) y.Ins ∧ ((wfI .i64) y.End ∧ ((wfI .i64) y.A ∧ ((wfI .i64) y.To ∧ ((wfI .i64) y.Else))))) x) ∧ l.length ≤ maxLen) y.Blocks)))))) x) ∧ l.length ≤ maxLen) := rdSl rd31 Tryz.underlying24 (by kernel_rfl) (by decide)
theorem rd26 : RdOk Tryz.prog 26 rGModule (fun (y : GModule) => (fun (l : List GSlot) => (∀ x ∈ l, (fun (y : GSlot) => (fun (s : List UInt8) => s.length ≤ maxLen) y.Name ∧ ((wfI .i64) y.Size ∧ ((wfI .i64) y.Align ∧ ((wfI .i64) y.Cell)))) x) ∧ l.length ≤ maxLen) y.Globals ∧ ((fun (l : List (List Int)) => (∀ x ∈ l, (fun (l : List Int) => (∀ x ∈ l, (wfI .u8) x) ∧ l.length ≤ maxLen) x) ∧ l.length ≤ maxLen) y.Data ∧ ((fun (l : List Proc) => (∀ x ∈ l, (fun (y : Proc) => (fun (s : List UInt8) => s.length ≤ maxLen) y.Name ∧ ((fun _ => True) y.Void ∧ ((wfI .i64) y.Params ∧ ((wfI .i64) y.Regs ∧ ((fun (l : List GSlot) => (∀ x ∈ l, (fun (y : GSlot) => (fun (s : List UInt8) => s.length ≤ maxLen) y.Name ∧ ((wfI .i64) y.Size ∧ ((wfI .i64) y.Align ∧ ((wfI .i64) y.Cell)))) x) ∧ l.length ≤ maxLen) y.Objects ∧ ((fun (l : List GBlock) => (∀ x ∈ l, (fun (y : GBlock) => (fun (l : List Ins) => (∀ x ∈ l, (fun (y : Ins) => (wfI .i64) y.Op ∧ ((wfI .i64) y.D ∧ ((wfI .i64) y.A ∧ ((wfI .i64) y.B ∧ ((wfI .i64) y.Fn ∧ ((wfI .i64) y.Obj ∧ ((wfI .i64) y.Off ∧ ((wfI .i64) y.Size ∧ ((wfI .u32) y.Num ∧ ((fun (l : List Int) => (∀ x ∈ l, (wfI .i64) x) ∧ l.length ≤ maxLen) y.Args ∧ ((fun _ => True) y.Log))))))))))) x) ∧ l.length ≤ maxLen) y.Ins ∧ ((wfI .i64) y.End ∧ ((wfI .i64) y.A ∧ ((wfI .i64) y.To ∧ ((wfI .i64) y.Else))))) x) ∧ l.length ≤ maxLen) y.Blocks)))))) x) ∧ l.length ≤ maxLen) y.Procs ∧ ((wfI .i64) y.Main)))) := rdStruct (tot := 4) (fun p => ⟨p.1, p.2.1, p.2.2.1, p.2.2.2⟩) (fun _ => rfl) Tryz.underlying26 (by kernel_rfl) (rdTail2 (s := 1) rd22 rfl (by kernel_rfl) (rdTail2 (s := 1) rd23 rfl (by kernel_rfl) (rdTail2 (s := 1) rd24 rfl (by kernel_rfl) (rdTail1 rd3 rfl (by kernel_rfl)))))
set_option maxRecDepth 100000 in
theorem lifted (os : Os) (started : os.Started) (H : Type) (enc : TypeId × Value → H) :
    ReturnsInHanded {} Tryz.checked os 3 .any (Rows.allocAssignsSpec.pre6 enc Tryz.prog Tryz.f3 Rows.allocAssignsRow.domain false) (Rows.allocAssignsSpec.post enc Tryz.prog Tryz.f3 false true false false) := by
  refine returnsInHanded_of_change (C := Tryz.checked) own started (by kernel_rfl) Tryz.func3
    (ChangeSpec.witness6 (enc := enc) (C := Tryz.checked) false ⟨#[], #[.agg #[.slice none 0 0, .slice none 0 0, .slice none 0 0, .int .i64 0], .int .i64 0, .int .i64 0], []⟩ 8 (by kernel_rfl) (by kernel_rfl) (by kernel_rfl) (by kernel_rfl)) ?_
  intro W base args ds gs before hval0 hW hcnd _
  have hval : ∀ (j : Nat) t v, Tryz.f3.params[j]? = some t → args[j]? = some v → Value.okWide Tryz.prog W .any base t v := hval0
  have hW' := hW
  obtain ⟨p, q, hA0, hV, rfl, hfz, hnd⟩ := hW
  have hA : DataW.TrodAll enc Tryz.prog W 0 (fun _ => true) true Tryz.f3.params.toList args.toList ds p := hA0
  rw [Tryz.params3] at hA hval
  obtain ⟨v0, vs0, d0, ds0, p0, q0, hargs, rfl, rfl, h0, r0⟩ := trodAll_cons hA
  obtain ⟨v1, vs1, d1, ds1, p1, q1, rfl, rfl, rfl, h1, r1⟩ := trodAll_cons r0
  obtain ⟨v2, vs2, d2, ds2, p2, q2, rfl, rfl, rfl, h2, r2⟩ := trodAll_cons r1
  obtain ⟨rfl, rfl, rfl⟩ := trodAll_nil r2
  obtain rfl : args = #[v0, v1, v2] := by cases args; simp_all
  obtain ⟨rfl, rfl⟩ := trodVars_none hV
  have k0 := h0
  have lt0 : ∀ x ∈ p0, x.block < W.heap.size := by obtain ⟨m, hm⟩ := k0; exact DataW.trod_lt m _ _ _ hm
  obtain ⟨cs0, rfl, _⟩ := okWide_struct Tryz.underlying26 (hval 0 26 v0 rfl rfl)
  obtain ⟨x0, rx0, wf0⟩ := open_arg k0 rd26
  obtain ⟨a0_0, c0_0, a0_1, c0_1, a0_2, c0_2, e0, s0_0, s0_1, s0_2⟩ := rGModule_open rx0
  obtain rfl : cs0 = List.toArray _ := by apply Array.ext'; exact e0
  have k1 := h1
  have lt1 : ∀ x ∈ p1, x.block < W.heap.size := by obtain ⟨m, hm⟩ := k1; exact DataW.trod_lt m _ _ _ hm
  obtain ⟨m1, rfl⟩ := okWide_int Tryz.underlying3 (hval 1 3 v1 rfl rfl)
  obtain ⟨x1, rx1, wf1⟩ := open_arg k1 rd3
  cases rx1
  have k2 := h2
  have lt2 : ∀ x ∈ p2, x.block < W.heap.size := by obtain ⟨m, hm⟩ := k2; exact DataW.trod_lt m _ _ _ hm
  obtain ⟨m2, rfl⟩ := okWide_int Tryz.underlying3 (hval 2 3 v2 rfl rfl)
  obtain ⟨x2, rx2, wf2⟩ := open_arg k2 rd3
  cases rx2
  have hlaw := AllocAssigns_row x0 m1 m2 wf0 wf1 wf2
  refine (ret_true (law24_AllocAssigns_sim (start W) s0_0 s0_1 s0_2 hlaw) rfl).mono fun e W' ⟨he, bel⟩ => ?_
  subst he
  exact ⟨_, rfl, _, _, _, [], _, [], hW', trodAll_mk1 (shut_bool Tryz.underlying4 _), (trodAll_cons_mk (Below.trod laidOut (by kernel_rfl) (of_decide_eq_true (by kernel_rfl)) k0 bel lt0) (trodAll_cons_mk (Below.trod laidOut (by kernel_rfl) (of_decide_eq_true (by kernel_rfl)) k1 bel lt1) (trodAll_cons_mk (Below.trod laidOut (by kernel_rfl) (of_decide_eq_true (by kernel_rfl)) k2 bel lt2) trodAll_mk0))), rfl, bel.frame _, fun h => by cases h⟩
end rowAllocAssigns
theorem allocAssigns_holds : Rows.AllocAssignsSaid :=
  OpenClaim.holds_of_wide 3 Tryz.f3 rfl rfl rfl rfl rfl rfl rfl ⟨rfl, rfl, rfl, rfl, rfl⟩ rfl rfl rfl rfl rfl (by kernel_rfl) Tryz.func3 (by kernel_rfl)
    (of_decide_eq_true (by kernel_rfl)) (by unfold Func.isWrapper; first | (rw [if_pos (by decide +kernel)]; kernel_rfl) | (rw [if_neg (by decide +kernel)]; exact ⟨rfl, rfl⟩))
    (fun os started H enc _ => rowAllocAssigns.lifted os started H enc)
#print axioms allocAssigns_holds
end Go.Proofs.YteoihjfnojgnnaaGreat
