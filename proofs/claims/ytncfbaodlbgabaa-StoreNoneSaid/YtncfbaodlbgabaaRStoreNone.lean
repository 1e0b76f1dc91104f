/- StoreNone: the row. The law returns true at every input that can be read; its arguments read afterwards as before. No condition. -/
import Derived.Test.YtncfbaodlbgabaaRows
import Derived.Test.YtncfbaodlbgabaaRow
import Derived.Test.YtncfbaodlbgabaaW
import Derived.Test.YtncfbaodlbgabaaJ11
import Derived.ShutString
import Derived.ChangeOld
import Derived.Below
import Derived.OpenShut
set_option linter.unusedVariables false
namespace Go.Proofs.Ytncfbaodlbgabaa
open Go.ChangeShapes Go.WideShapes Go.ChangeAt Go.RowKit
open Go.ChangeMaps (open_string shut_string)
namespace rowStoreNone
theorem own : ownKnob Try.prog.godebug = none := by kernel_rfl
theorem laidOut : laidOutB Try.prog = true := by kernel_rfl
theorem rd3 : RdOk Try.prog 3 (rInt .i64) (wfI .i64) := rdInt Try.underlying3
theorem rd4 : RdOk Try.prog 4 rBool (fun _ => True) := rdBool Try.underlying4
theorem rd5 : RdOk Try.prog 5 (rInt .u8) (wfI .u8) := rdInt Try.underlying5
theorem rd41 : RdOk Try.prog 41 (rSl (rInt .u8)) (fun (l : List Int) => (∀ x ∈ l, (wfI .u8) x) ∧ l.length ≤ maxLen) := rdSl rd5 Try.underlying41 (by kernel_rfl) (by decide)
theorem rd24 : RdOk Try.prog 24 rStorePtr (fun (y : StorePtr) => (wfI .i64) y.Obj ∧ ((wfI .i64) y.Lo ∧ ((wfI .i64) y.Hi ∧ ((wfI .i64) y.Off)))) := rdStruct (tot := 4) (fun p => ⟨p.1, p.2.1, p.2.2.1, p.2.2.2⟩) (fun _ => rfl) Try.underlying24 (by kernel_rfl) (rdTail2 (s := 1) rd3 rfl (by kernel_rfl) (rdTail2 (s := 1) rd3 rfl (by kernel_rfl) (rdTail2 (s := 1) rd3 rfl (by kernel_rfl) (rdTail1 rd3 rfl (by kernel_rfl)))))
theorem rd22 : RdOk Try.prog 22 (rInt .u32) (wfI .u32) := rdInt Try.underlying22
theorem rd26 : RdOk Try.prog 26 rStoreValue (fun (y : StoreValue) => (wfI .u32) y.Num ∧ ((fun (y : StorePtr) => (wfI .i64) y.Obj ∧ ((wfI .i64) y.Lo ∧ ((wfI .i64) y.Hi ∧ ((wfI .i64) y.Off)))) y.Ptr ∧ ((fun _ => True) y.Is))) := rdStruct (tot := 6) (fun p => ⟨p.1, p.2.1, p.2.2⟩) (fun _ => rfl) Try.underlying26 (by kernel_rfl) (rdTail2 (s := 1) rd22 rfl (by kernel_rfl) (rdTail2 (s := 4) rd24 rfl (by kernel_rfl) (rdTail1 rd4 rfl (by kernel_rfl))))
theorem rd46 : RdOk Try.prog 46 rlaw11Act (fun (y : law11Act) => (wfI .i64) y.Kind ∧ ((wfI .i64) y.Obj ∧ ((wfI .i64) y.N ∧ ((wfI .i64) y.Size ∧ ((fun _ => True) y.Is ∧ ((fun (l : List Int) => (∀ x ∈ l, (wfI .u8) x) ∧ l.length ≤ maxLen) y.Data ∧ ((fun (y : StorePtr) => (wfI .i64) y.Obj ∧ ((wfI .i64) y.Lo ∧ ((wfI .i64) y.Hi ∧ ((wfI .i64) y.Off)))) y.P ∧ ((fun (y : StoreValue) => (wfI .u32) y.Num ∧ ((fun (y : StorePtr) => (wfI .i64) y.Obj ∧ ((wfI .i64) y.Lo ∧ ((wfI .i64) y.Hi ∧ ((wfI .i64) y.Off)))) y.Ptr ∧ ((fun _ => True) y.Is))) y.V)))))))) := rdStruct (tot := 16) (fun p => ⟨p.1, p.2.1, p.2.2.1, p.2.2.2.1, p.2.2.2.2.1, p.2.2.2.2.2.1, p.2.2.2.2.2.2.1, p.2.2.2.2.2.2.2⟩) (fun _ => rfl) Try.underlying46 (by kernel_rfl) (rdTail2 (s := 1) rd3 rfl (by kernel_rfl) (rdTail2 (s := 1) rd3 rfl (by kernel_rfl) (rdTail2 (s := 1) rd3 rfl (by kernel_rfl) (rdTail2 (s := 1) rd3 rfl (by kernel_rfl) (rdTail2 (s := 1) rd4 rfl (by kernel_rfl) (rdTail2 (s := 1) rd41 rfl (by kernel_rfl) (rdTail2 (s := 4) rd24 rfl (by kernel_rfl) (rdTail1 rd26 rfl (by kernel_rfl)))))))))
set_option maxRecDepth 100000 in
theorem lifted (os : Os) (started : os.Started) (H : Type) (enc : TypeId × Value → H) :
    ReturnsInHanded {} Try.checked os 5 .any (Rows.storeNoneSpec.pre6 enc Try.prog Try.f5 Rows.storeNoneRow.domain false) (Rows.storeNoneSpec.post enc Try.prog Try.f5 false true false false) := by
  refine returnsInHanded_of_change (C := Try.checked) own started (by kernel_rfl) Try.func5
    (ChangeSpec.witness6 (enc := enc) (C := Try.checked) false ⟨#[], #[.agg #[.int .i64 0, .int .i64 0, .int .i64 0, .int .i64 0, .bool false, .slice none 0 0, .int .i64 0, .int .i64 0, .int .i64 0, .int .i64 0, .int .u32 0, .int .i64 0, .int .i64 0, .int .i64 0, .int .i64 0, .bool false]], []⟩ 8 (by kernel_rfl) (by kernel_rfl) (by kernel_rfl) (by kernel_rfl)) ?_
  intro W base args ds gs before hval0 hW hcnd _
  have hval : ∀ (j : Nat) t v, Try.f5.params[j]? = some t → args[j]? = some v → Value.okWide Try.prog W .any base t v := hval0
  have hW' := hW
  obtain ⟨p, q, hA0, hV, rfl, hfz, hnd⟩ := hW
  have hA : DataW.TrodAll enc Try.prog W 0 (fun _ => true) true Try.f5.params.toList args.toList ds p := hA0
  rw [Try.params5] at hA hval
  obtain ⟨v0, vs0, d0, ds0, p0, q0, hargs, rfl, rfl, h0, r0⟩ := trodAll_cons hA
  obtain ⟨rfl, rfl, rfl⟩ := trodAll_nil r0
  obtain rfl : args = #[v0] := by cases args; simp_all
  obtain ⟨rfl, rfl⟩ := trodVars_none hV
  have k0 := h0
  have lt0 : ∀ x ∈ p0, x.block < W.heap.size := by obtain ⟨m, hm⟩ := k0; exact DataW.trod_lt m _ _ _ hm
  obtain ⟨cs0, rfl, _⟩ := okWide_struct Try.underlying46 (hval 0 46 v0 rfl rfl)
  obtain ⟨x0, rx0, wf0⟩ := open_arg k0 rd46
  obtain ⟨a0_0, c0_0, e0, s0_0⟩ := rlaw11Act_open rx0
  obtain rfl : cs0 = List.toArray _ := by apply Array.ext'; exact e0
  have hlaw := StoreNone_row x0 wf0
  refine (ret_true (law11_StoreNone_sim (start W) s0_0 hlaw) rfl).mono fun e W' ⟨he, bel⟩ => ?_
  subst he
  exact ⟨_, rfl, _, _, _, [], _, [], hW', trodAll_mk1 (shut_bool Try.underlying4 _), (trodAll_cons_mk (Below.trod laidOut (by kernel_rfl) (of_decide_eq_true (by kernel_rfl)) k0 bel lt0) trodAll_mk0), rfl, bel.frame _, fun h => by cases h⟩
end rowStoreNone
theorem storeNone_holds : Rows.StoreNoneSaid :=
  OpenClaim.holds_of_wide 5 Try.f5 rfl rfl rfl rfl rfl rfl rfl ⟨rfl, rfl, rfl, rfl, rfl⟩ rfl rfl rfl rfl rfl (by kernel_rfl) Try.func5 (by kernel_rfl)
    (of_decide_eq_true (by kernel_rfl)) (by unfold Func.isWrapper; first | (rw [if_pos (by decide +kernel)]; kernel_rfl) | (rw [if_neg (by decide +kernel)]; exact ⟨rfl, rfl⟩))
    (fun os started H enc _ => rowStoreNone.lifted os started H enc)
#print axioms storeNone_holds
end Go.Proofs.Ytncfbaodlbgabaa
