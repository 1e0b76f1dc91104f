/- PackCuts: the row. The law returns true at every input that can be read; its arguments read afterwards as before. No condition. -/
import Derived.Test.YtbbppcogjdmmiaaRows
import Derived.Test.YtbbppcogjdmmiaaRow
import Derived.Test.YtbbppcogjdmmiaaW
import Derived.Test.YtbbppcogjdmmiaaJ32
import Derived.ShutString
import Derived.ChangeOld
import Derived.Below
import Derived.OpenShut
set_option linter.unusedVariables false
namespace Go.Proofs.Ytbbppcogjdmmiaa
open Go.ChangeShapes Go.WideShapes Go.ChangeAt Go.RowKit
open Go.ChangeMaps (open_string shut_string)
namespace rowPackCuts
theorem own : ownKnob Try.prog.godebug = none := by kernel_rfl
theorem laidOut : laidOutB Try.prog = true := by kernel_rfl
theorem rd40 : RdOk Try.prog 40 (rInt .u32) (wfI .u32) := rdInt Try.underlying40
theorem rd22 : RdOk Try.prog 22 (rSl (rInt .u32)) (fun (l : List Int) => (∀ x ∈ l, (wfI .u32) x) ∧ l.length ≤ maxLen) := rdSl rd40 Try.underlying22 (by kernel_rfl) (by decide)
theorem rd5 : RdOk Try.prog 5 (rInt .u8) (wfI .u8) := rdInt Try.underlying5
theorem rd23 : RdOk Try.prog 23 (rSl (rInt .u8)) (fun (l : List Int) => (∀ x ∈ l, (wfI .u8) x) ∧ l.length ≤ maxLen) := rdSl rd5 Try.underlying23 (by kernel_rfl) (by decide)
theorem rd3 : RdOk Try.prog 3 (rInt .i64) (wfI .i64) := rdInt Try.underlying3
theorem rd25 : RdOk Try.prog 25 rGImage (fun (y : GImage) => (fun (l : List Int) => (∀ x ∈ l, (wfI .u32) x) ∧ l.length ≤ maxLen) y.Code ∧ ((fun (l : List Int) => (∀ x ∈ l, (wfI .u8) x) ∧ l.length ≤ maxLen) y.Data ∧ ((wfI .i64) y.Limit ∧ ((wfI .i64) y.Notes)))) := rdStruct (tot := 4) (fun p => ⟨p.1, p.2.1, p.2.2.1, p.2.2.2⟩) (fun _ => rfl) Try.underlying25 (by kernel_rfl) (rdTail2 (s := 1) rd22 rfl (by kernel_rfl) (rdTail2 (s := 1) rd23 rfl (by kernel_rfl) (rdTail2 (s := 1) rd3 rfl (by kernel_rfl) (rdTail1 rd3 rfl (by kernel_rfl)))))
set_option maxRecDepth 100000 in
theorem lifted (os : Os) (started : os.Started) (H : Type) (enc : TypeId × Value → H) :
    ReturnsInHanded {} Try.checked os 5 .any (Rows.packCutsSpec.pre6 enc Try.prog Try.f5 Rows.packCutsRow.domain false) (Rows.packCutsSpec.post enc Try.prog Try.f5 false true false false) := by
  refine returnsInHanded_of_change (C := Try.checked) own started (by kernel_rfl) Try.func5
    (ChangeSpec.witness6 (enc := enc) (C := Try.checked) false ⟨#[], #[.agg #[.slice none 0 0, .slice none 0 0, .int .i64 0, .int .i64 0], .int .i64 0, .int .u8 0], []⟩ 8 (by kernel_rfl) (by kernel_rfl) (by kernel_rfl) (by kernel_rfl)) ?_
  intro W base args ds gs before hval0 hW hcnd _
  have hval : ∀ (j : Nat) t v, Try.f5.params[j]? = some t → args[j]? = some v → Value.okWide Try.prog W .any base t v := hval0
  have hW' := hW
  obtain ⟨p, q, hA0, hV, rfl, hfz, hnd⟩ := hW
  have hA : DataW.TrodAll enc Try.prog W 0 (fun _ => true) true Try.f5.params.toList args.toList ds p := hA0
  rw [Try.params5] at hA hval
  obtain ⟨v0, vs0, d0, ds0, p0, q0, hargs, rfl, rfl, h0, r0⟩ := trodAll_cons hA
  obtain ⟨v1, vs1, d1, ds1, p1, q1, rfl, rfl, rfl, h1, r1⟩ := trodAll_cons r0
  obtain ⟨v2, vs2, d2, ds2, p2, q2, rfl, rfl, rfl, h2, r2⟩ := trodAll_cons r1
  obtain ⟨rfl, rfl, rfl⟩ := trodAll_nil r2
  obtain rfl : args = #[v0, v1, v2] := by cases args; simp_all
  obtain ⟨rfl, rfl⟩ := trodVars_none hV
  have k0 := h0
  have lt0 : ∀ x ∈ p0, x.block < W.heap.size := by obtain ⟨m, hm⟩ := k0; exact DataW.trod_lt m _ _ _ hm
  obtain ⟨cs0, rfl, _⟩ := okWide_struct Try.underlying25 (hval 0 25 v0 rfl rfl)
  obtain ⟨x0, rx0, wf0⟩ := open_arg k0 rd25
  obtain ⟨a0_0, c0_0, a0_1, c0_1, e0, s0_0, s0_1⟩ := rGImage_open rx0
  obtain rfl : cs0 = List.toArray _ := by apply Array.ext'; exact e0
  have k1 := h1
  have lt1 : ∀ x ∈ p1, x.block < W.heap.size := by obtain ⟨m, hm⟩ := k1; exact DataW.trod_lt m _ _ _ hm
  obtain ⟨m1, rfl⟩ := okWide_int Try.underlying3 (hval 1 3 v1 rfl rfl)
  obtain ⟨x1, rx1, wf1⟩ := open_arg k1 rd3
  cases rx1
  have k2 := h2
  have lt2 : ∀ x ∈ p2, x.block < W.heap.size := by obtain ⟨m, hm⟩ := k2; exact DataW.trod_lt m _ _ _ hm
  obtain ⟨m2, rfl⟩ := okWide_int Try.underlying5 (hval 2 5 v2 rfl rfl)
  obtain ⟨x2, rx2, wf2⟩ := open_arg k2 rd5
  cases rx2
  have hlaw := PackCuts_row x0 m1 m2 wf0 wf1 wf2
  refine (ret_true (law32_PackCuts_sim (start W) s0_0 s0_1 hlaw) rfl).mono fun e W' ⟨he, bel⟩ => ?_
  subst he
  exact ⟨_, rfl, _, _, _, [], _, [], hW', trodAll_mk1 (shut_bool Try.underlying4 _), (trodAll_cons_mk (Below.trod laidOut (by kernel_rfl) (of_decide_eq_true (by kernel_rfl)) k0 bel lt0) (trodAll_cons_mk (Below.trod laidOut (by kernel_rfl) (of_decide_eq_true (by kernel_rfl)) k1 bel lt1) (trodAll_cons_mk (Below.trod laidOut (by kernel_rfl) (of_decide_eq_true (by kernel_rfl)) k2 bel lt2) trodAll_mk0))), rfl, bel.frame _, fun h => by cases h⟩
end rowPackCuts
theorem packCuts_holds : Rows.PackCutsSaid :=
  OpenClaim.holds_of_wide 5 Try.f5 rfl rfl rfl rfl rfl rfl rfl ⟨rfl, rfl, rfl, rfl, rfl⟩ rfl rfl rfl rfl rfl (by kernel_rfl) Try.func5 (by kernel_rfl)
    (of_decide_eq_true (by kernel_rfl)) (by unfold Func.isWrapper; first | (rw [if_pos (by decide +kernel)]; kernel_rfl) | (rw [if_neg (by decide +kernel)]; exact ⟨rfl, rfl⟩))
    (fun os started H enc _ => rowPackCuts.lifted os started H enc)
#print axioms packCuts_holds
end Go.Proofs.Ytbbppcogjdmmiaa
