/- CheckFolds: the row. The law returns true at every input that can be read; its arguments read afterwards as before. No condition. -/
import Derived.Test.YtpfgdpffgdengaaGreatRows
import Derived.Test.YtpfgdpffgdengaaGreatRow
import Derived.Test.YtpfgdpffgdengaaGreatW
import Derived.Test.YtpfgdpffgdengaaGreatJ10
import Derived.ShutString
import Derived.ChangeOld
import Derived.Below
import Derived.OpenShut
set_option linter.unusedVariables false
namespace Go.Proofs.YtpfgdpffgdengaaGreat
open Go.ChangeShapes Go.WideShapes Go.ChangeAt Go.RowKit
open Go.ChangeMaps (open_string shut_string)
namespace rowCheckFolds
theorem own : ownKnob Tryz.prog.godebug = none := by kernel_rfl
theorem laidOut : laidOutB Tryz.prog = true := by kernel_rfl
theorem rd3 : RdOk Tryz.prog 3 (rInt .i64) (wfI .i64) := rdInt Tryz.underlying3
theorem rd22 : RdOk Tryz.prog 22 (rInt .u32) (wfI .u32) := rdInt Tryz.underlying22
theorem rd4 : RdOk Tryz.prog 4 rBool (fun _ => True) := rdBool Tryz.underlying4
theorem rd32 : RdOk Tryz.prog 32 rGTerm WfT := rdFix (F := FGTerm) gGTerm fun m hm => (rdStructA (tot := 9) (fun p => ⟨p.1, p.2.1, p.2.2.1, p.2.2.2.1, p.2.2.2.2.1, p.2.2.2.2.2.1, p.2.2.2.2.2.2.1, p.2.2.2.2.2.2.2.1, p.2.2.2.2.2.2.2.2⟩) (fun _ => rfl) Tryz.underlying32 (by kernel_rfl) (rdTail2A (s := 1) (RdOk.at rd3 _) rfl (by kernel_rfl) (rdTail2A (s := 1) (RdOk.at rd3 _) rfl (by kernel_rfl) (rdTail2A (s := 1) (RdOk.at rd22 _) rfl (by kernel_rfl) (rdTail2A (s := 1) (RdOk.at rd3 _) rfl (by kernel_rfl) (rdTail2A (s := 1) (RdOk.at rd4 _) rfl (by kernel_rfl) (rdTail2A (s := 1) (RdOk.at rd3 _) rfl (by kernel_rfl) (rdTail2A (s := 1) (RdOk.at rd4 _) rfl (by kernel_rfl) (rdTail2A (s := 1) (RdOk.at rd4 _) rfl (by kernel_rfl) (rdTail1A (rdSlA hm Tryz.underlying30 (by kernel_rfl) (by decide)) rfl (by kernel_rfl))))))))))).imp fun y h => WfT_row h
set_option maxRecDepth 100000 in
theorem lifted (os : Os) (started : os.Started) (H : Type) (enc : TypeId × Value → H) :
    ReturnsInHanded {} Tryz.checked os 4 .any (Rows.checkFoldsSpec.pre6 enc Tryz.prog Tryz.f4 Rows.checkFoldsRow.domain false) (Rows.checkFoldsSpec.post enc Tryz.prog Tryz.f4 false true false false) := by
  refine returnsInHanded_of_change (C := Tryz.checked) own started (by kernel_rfl) Tryz.func4
    (ChangeSpec.witness6 (enc := enc) (C := Tryz.checked) false ⟨#[], #[.agg #[.int .i64 0, .int .i64 0, .int .u32 0, .int .i64 0, .bool false, .int .i64 0, .bool false, .bool false, .slice none 0 0]], []⟩ 8 (by kernel_rfl) (by kernel_rfl) (by kernel_rfl) (by kernel_rfl)) ?_
  intro W base args ds gs before hval0 hW hcnd _
  have hval : ∀ (j : Nat) t v, Tryz.f4.params[j]? = some t → args[j]? = some v → Value.okWide Tryz.prog W .any base t v := hval0
  have hW' := hW
  obtain ⟨p, q, hA0, hV, rfl, hfz, hnd⟩ := hW
  have hA : DataW.TrodAll enc Tryz.prog W 0 (fun _ => true) true Tryz.f4.params.toList args.toList ds p := hA0
  rw [Tryz.params4] at hA hval
  obtain ⟨v0, vs0, d0, ds0, p0, q0, hargs, rfl, rfl, h0, r0⟩ := trodAll_cons hA
  obtain ⟨rfl, rfl, rfl⟩ := trodAll_nil r0
  obtain rfl : args = #[v0] := by cases args; simp_all
  obtain ⟨rfl, rfl⟩ := trodVars_none hV
  have k0 := h0
  have lt0 : ∀ x ∈ p0, x.block < W.heap.size := by obtain ⟨m, hm⟩ := k0; exact DataW.trod_lt m _ _ _ hm
  obtain ⟨cs0, rfl, _⟩ := okWide_struct Tryz.underlying32 (hval 0 32 v0 rfl rfl)
  obtain ⟨x0, rx0, wf0⟩ := open_arg k0 rd32
  obtain ⟨a0_0, c0_0, e0, s0_0⟩ := rGTerm_open rx0
  obtain rfl : cs0 = List.toArray _ := by apply Array.ext'; exact e0
  have hlaw := CheckFolds_row x0 wf0
  refine (ret_true (law10_CheckFolds_sim (start W) s0_0 hlaw) rfl).mono fun e W' ⟨he, bel⟩ => ?_
  subst he
  exact ⟨_, rfl, _, _, _, [], _, [], hW', trodAll_mk1 (shut_bool Tryz.underlying4 _), (trodAll_cons_mk (Below.trod laidOut (by kernel_rfl) (of_decide_eq_true (by kernel_rfl)) k0 bel lt0) trodAll_mk0), rfl, bel.frame _, fun h => by cases h⟩
end rowCheckFolds
theorem checkFolds_holds : Rows.CheckFoldsSaid :=
  OpenClaim.holds_of_wide 4 Tryz.f4 rfl rfl rfl rfl rfl rfl rfl ⟨rfl, rfl, rfl, rfl, rfl⟩ rfl rfl rfl rfl rfl (by kernel_rfl) Tryz.func4 (by kernel_rfl)
    (of_decide_eq_true (by kernel_rfl)) (by unfold Func.isWrapper; first | (rw [if_pos (by decide +kernel)]; kernel_rfl) | (rw [if_neg (by decide +kernel)]; exact ⟨rfl, rfl⟩))
    (fun os started H enc _ => rowCheckFolds.lifted os started H enc)
#print axioms checkFolds_holds
end Go.Proofs.YtpfgdpffgdengaaGreat
