/- RecordFirsts: the row. The law returns true at every input that can be read; its arguments read afterwards as before. No condition. -/
import Derived.Test.YthkiglifgbamiaaRows
import Derived.Test.YthkiglifgbamiaaRow
import Derived.Test.YthkiglifgbamiaaW
import Derived.Test.YthkiglifgbamiaaJ04
import Derived.ShutString
import Derived.ChangeOld
import Derived.Below
import Derived.OpenShut
set_option linter.unusedVariables false
namespace Go.Proofs.Ythkiglifgbamiaa
open Go.ChangeShapes Go.WideShapes Go.ChangeAt Go.RowKit
open Go.ChangeMaps (open_string shut_string)
namespace rowRecordFirsts
theorem own : ownKnob Try.prog.godebug = none := by kernel_rfl
theorem laidOut : laidOutB Try.prog = true := by kernel_rfl
theorem rd33 : RdOk Try.prog 33 (rInt .u32) (wfI .u32) := rdInt Try.underlying33
theorem rd38 : RdOk Try.prog 38 rRecord (fun (y : Record) => (wfI .u32) y.Seq ∧ ((wfI .u32) y.Val)) := rdStruct (tot := 2) (fun p => ⟨p.1, p.2⟩) (fun _ => rfl) Try.underlying38 (by kernel_rfl) (rdTail2 (s := 1) rd33 rfl (by kernel_rfl) (rdTail1 rd33 rfl (by kernel_rfl)))
theorem rd22 : RdOk Try.prog 22 (rSl rRecord) (fun (l : List Record) => (∀ x ∈ l, (fun (y : Record) => (wfI .u32) y.Seq ∧ ((wfI .u32) y.Val)) x) ∧ l.length ≤ maxLen) := rdSl rd38 Try.underlying22 (by kernel_rfl) (by decide)
set_option maxRecDepth 100000 in
theorem lifted (os : Os) (started : os.Started) (H : Type) (enc : TypeId × Value → H) :
    ReturnsInHanded {} Try.checked os 3 .any (Rows.recordFirstsSpec.pre6 enc Try.prog Try.f3 Rows.recordFirstsRow.domain false) (Rows.recordFirstsSpec.post enc Try.prog Try.f3 false true false false) := by
  refine returnsInHanded_of_change (C := Try.checked) own started (by kernel_rfl) Try.func3
    (ChangeSpec.witness6 (enc := enc) (C := Try.checked) false ⟨#[], #[.slice none 0 0], []⟩ 8 (by kernel_rfl) (by kernel_rfl) (by kernel_rfl) (by kernel_rfl)) ?_
  intro W base args ds gs before hval0 hW hcnd _
  have hval : ∀ (j : Nat) t v, Try.f3.params[j]? = some t → args[j]? = some v → Value.okWide Try.prog W .any base t v := hval0
  have hW' := hW
  obtain ⟨p, q, hA0, hV, rfl, hfz, hnd⟩ := hW
  have hA : DataW.TrodAll enc Try.prog W 0 (fun _ => true) true Try.f3.params.toList args.toList ds p := hA0
  rw [Try.params3] at hA hval
  obtain ⟨v0, vs0, d0, ds0, p0, q0, hargs, rfl, rfl, h0, r0⟩ := trodAll_cons hA
  obtain ⟨rfl, rfl, rfl⟩ := trodAll_nil r0
  obtain rfl : args = #[v0] := by cases args; simp_all
  obtain ⟨rfl, rfl⟩ := trodVars_none hV
  have k0 := h0
  have lt0 : ∀ x ∈ p0, x.block < W.heap.size := by obtain ⟨m, hm⟩ := k0; exact DataW.trod_lt m _ _ _ hm
  obtain ⟨sa0, sl0, sc0, rfl⟩ := okWide_slice Try.underlying22 (hval 0 22 v0 rfl rfl)
  obtain ⟨x0, rx0, wf0⟩ := open_arg k0 rd22
  obtain ⟨_, e0, s0⟩ := rx0
  cases e0
  obtain ⟨b0, c0, e0⟩ := s0.shape
  cases e0
  have hlaw := RecordFirsts_row x0 wf0
  refine (ret_true (law04_RecordFirsts_sim (bdAll W) s0 hlaw) rfl).mono fun e W' ⟨he, bel⟩ => ?_
  subst he
  exact ⟨_, rfl, _, _, _, [], _, [], hW', trodAll_mk1 (shut_bool Try.underlying4 _), (trodAll_cons_mk (Below.trod laidOut (by kernel_rfl) (of_decide_eq_true (by kernel_rfl)) k0 bel lt0) trodAll_mk0), rfl, bel.frame _, fun h => by cases h⟩
end rowRecordFirsts
theorem recordFirsts_holds : Rows.RecordFirstsSaid :=
  OpenClaim.holds_of_wide 3 Try.f3 rfl rfl rfl rfl rfl rfl rfl ⟨rfl, rfl, rfl, rfl, rfl⟩ rfl rfl rfl rfl rfl (by kernel_rfl) Try.func3 (by kernel_rfl)
    (of_decide_eq_true (by kernel_rfl)) (by unfold Func.isWrapper; first | (rw [if_pos (by decide +kernel)]; kernel_rfl) | (rw [if_neg (by decide +kernel)]; exact ⟨rfl, rfl⟩))
    (fun os started H enc _ => rowRecordFirsts.lifted os started H enc)
#print axioms recordFirsts_holds
end Go.Proofs.Ythkiglifgbamiaa
