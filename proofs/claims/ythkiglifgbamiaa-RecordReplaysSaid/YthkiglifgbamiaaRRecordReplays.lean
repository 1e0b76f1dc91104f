/- RecordReplays: the row. The law returns true at every input that can be read; its arguments read afterwards as before. No condition. -/
import Derived.Test.YthkiglifgbamiaaRows
import Derived.Test.YthkiglifgbamiaaRow
import Derived.Test.YthkiglifgbamiaaW
import Derived.Test.YthkiglifgbamiaaJ04
import Derived.ShutString
import Derived.ChangeOld
import Derived.Below
import Derived.OpenShut
set_option linter.unusedVariables false
namespace Go.Proofs.Ythkiglifgbamiaa
open Go.ChangeShapes Go.WideShapes Go.ChangeAt Go.RowKit
open Go.ChangeMaps (open_string shut_string)
namespace rowRecordReplays
theorem own : ownKnob Try.prog.godebug = none := by kernel_rfl
theorem laidOut : laidOutB Try.prog = true := by kernel_rfl
theorem rd33 : RdOk Try.prog 33 (rInt .u32) (wfI .u32) := rdInt Try.underlying33
theorem rd38 : RdOk Try.prog 38 rRecord (fun (y : Record) => (wfI .u32) y.Seq ∧ ((wfI .u32) y.Val)) := rdStruct (tot := 2) (fun p => ⟨p.1, p.2⟩) (fun _ => rfl) Try.underlying38 (by kernel_rfl) (rdTail2 (s := 1) rd33 rfl (by kernel_rfl) (rdTail1 rd33 rfl (by kernel_rfl)))
theorem rd22 : RdOk Try.prog 22 (rSl rRecord) (fun (l : List Record) => (∀ x ∈ l, (fun (y : Record) => (wfI .u32) y.Seq ∧ ((wfI .u32) y.Val)) x) ∧ l.length ≤ maxLen) := rdSl rd38 Try.underlying22 (by kernel_rfl) (by decide)
theorem rd3 : RdOk Try.prog 3 (rInt .i64) (wfI .i64) := rdInt Try.underlying3
theorem rd40 : RdOk Try.prog 40 rReplay (fun (y : Replay) => (fun (l : List Record) => (∀ x ∈ l, (fun (y : Record) => (wfI .u32) y.Seq ∧ ((wfI .u32) y.Val)) x) ∧ l.length ≤ maxLen) y.L ∧ ((wfI .i64) y.From ∧ ((wfI .i64) y.To ∧ ((wfI .u32) y.Val)))) := rdStruct (tot := 4) (fun p => ⟨p.1, p.2.1, p.2.2.1, p.2.2.2⟩) (fun _ => rfl) Try.underlying40 (by kernel_rfl) (rdTail2 (s := 1) rd22 rfl (by kernel_rfl) (rdTail2 (s := 1) rd3 rfl (by kernel_rfl) (rdTail2 (s := 1) rd3 rfl (by kernel_rfl) (rdTail1 rd33 rfl (by kernel_rfl)))))
set_option maxRecDepth 100000 in
theorem lifted (os : Os) (started : os.Started) (H : Type) (enc : TypeId × Value → H) :
    ReturnsInHanded {} Try.checked os 6 .any (Rows.recordReplaysSpec.pre6 enc Try.prog Try.f6 Rows.recordReplaysRow.domain false) (Rows.recordReplaysSpec.post enc Try.prog Try.f6 false true false false) := by
  refine returnsInHanded_of_change (C := Try.checked) own started (by kernel_rfl) Try.func6
    (ChangeSpec.witness6 (enc := enc) (C := Try.checked) false ⟨#[], #[.agg #[.slice none 0 0, .int .i64 0, .int .i64 0, .int .u32 0]], []⟩ 8 (by kernel_rfl) (by kernel_rfl) (by kernel_rfl) (by kernel_rfl)) ?_
  intro W base args ds gs before hval0 hW hcnd _
  have hval : ∀ (j : Nat) t v, Try.f6.params[j]? = some t → args[j]? = some v → Value.okWide Try.prog W .any base t v := hval0
  have hW' := hW
  obtain ⟨p, q, hA0, hV, rfl, hfz, hnd⟩ := hW
  have hA : DataW.TrodAll enc Try.prog W 0 (fun _ => true) true Try.f6.params.toList args.toList ds p := hA0
  rw [Try.params6] at hA hval
  obtain ⟨v0, vs0, d0, ds0, p0, q0, hargs, rfl, rfl, h0, r0⟩ := trodAll_cons hA
  obtain ⟨rfl, rfl, rfl⟩ := trodAll_nil r0
  obtain rfl : args = #[v0] := by cases args; simp_all
  obtain ⟨rfl, rfl⟩ := trodVars_none hV
  have k0 := h0
  have lt0 : ∀ x ∈ p0, x.block < W.heap.size := by obtain ⟨m, hm⟩ := k0; exact DataW.trod_lt m _ _ _ hm
  obtain ⟨cs0, rfl, _⟩ := okWide_struct Try.underlying40 (hval 0 40 v0 rfl rfl)
  obtain ⟨x0, rx0, wf0⟩ := open_arg k0 rd40
  obtain ⟨a0_0, c0_0, e0, s0_0⟩ := rReplay_open rx0
  obtain rfl : cs0 = List.toArray _ := by apply Array.ext'; exact e0
  have hlaw := RecordReplays_row x0 wf0
  refine (ret_true (law04_RecordReplays_sim (bdAll W) s0_0 hlaw) rfl).mono fun e W' ⟨he, bel⟩ => ?_
  subst he
  exact ⟨_, rfl, _, _, _, [], _, [], hW', trodAll_mk1 (shut_bool Try.underlying4 _), (trodAll_cons_mk (Below.trod laidOut (by kernel_rfl) (of_decide_eq_true (by kernel_rfl)) k0 bel lt0) trodAll_mk0), rfl, bel.frame _, fun h => by cases h⟩
end rowRecordReplays
theorem recordReplays_holds : Rows.RecordReplaysSaid :=
  OpenClaim.holds_of_wide 6 Try.f6 rfl rfl rfl rfl rfl rfl rfl ⟨rfl, rfl, rfl, rfl, rfl⟩ rfl rfl rfl rfl rfl (by kernel_rfl) Try.func6 (by kernel_rfl)
    (of_decide_eq_true (by kernel_rfl)) (by unfold Func.isWrapper; first | (rw [if_pos (by decide +kernel)]; kernel_rfl) | (rw [if_neg (by decide +kernel)]; exact ⟨rfl, rfl⟩))
    (fun os started H enc _ => rowRecordReplays.lifted os started H enc)
#print axioms recordReplays_holds
end Go.Proofs.Ythkiglifgbamiaa
