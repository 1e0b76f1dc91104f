/- CompileNone: the row. The law returns true at every input that can be read; its arguments read afterwards as before. No condition. -/
import Derived.Test.YtokpeeflnijogaaGreatDoorFCompileNone
import Derived.Test.YtokpeeflnijogaaGreatDoorRows
import Derived.Test.YtokpeeflnijogaaGreatDoorRow
import Derived.Test.YtokpeeflnijogaaGreatDoorW
import Derived.Test.YtokpeeflnijogaaGreatDoorJ29
import Derived.Test.YtokpeeflnijogaaGreatDoorGi
import Derived.Test.YtokpeeflnijogaaGreatDoorLd
import Derived.Test.YtokpeeflnijogaaGreatDoorTie
import Derived.Test.YtokpeeflnijogaaGreatDoorCards
import Derived.SevenTiedAt
import Derived.ShutString
import Derived.ChangeOld
import Derived.Below
import Derived.OpenShut
set_option linter.unusedVariables false
namespace Go.Proofs.YtokpeeflnijogaaGreatDoor
open Go.ChangeShapes Go.WideShapes Go.ChangeAt Go.RowKit
open Go.ChangeMaps (open_string shut_string)
namespace rowCompileNone
theorem own : ownKnob Tryz.prog.godebug = none := by kernel_rfl
theorem laidOut : laidOutB Tryz.prog = true := by kernel_rfl
theorem rd9 : RdOk Tryz.prog 9 rStr (fun (s : List UInt8) => s.length ≤ maxLen) := rdStr Tryz.underlying9
theorem rd3 : RdOk Tryz.prog 3 (rInt .i64) (wfI .i64) := rdInt Tryz.underlying3
theorem rd4 : RdOk Tryz.prog 4 rBool (fun _ => True) := rdBool Tryz.underlying4
theorem rd23 : RdOk Tryz.prog 23 rGOptions (fun (y : GOptions) => (wfI .i64) y.Data ∧ ((wfI .i64) y.Regs ∧ ((wfI .i64) y.Notes ∧ ((fun _ => True) y.Plain)))) := rdStruct (tot := 4) (fun p => ⟨p.1, p.2.1, p.2.2.1, p.2.2.2⟩) (fun _ => rfl) Tryz.underlying23 (by kernel_rfl) (rdTail2 (s := 1) rd3 rfl (by kernel_rfl) (rdTail2 (s := 1) rd3 rfl (by kernel_rfl) (rdTail2 (s := 1) rd3 rfl (by kernel_rfl) (rdTail1 rd4 rfl (by kernel_rfl)))))
set_option maxRecDepth 100000 in
theorem lifted (os : Os) (started : os.Started) (H : Type) (enc : TypeId × Value → H) :
    ReturnsInHanded {} Tryz.checked os 3 .any (fun w args => (Rows.compileNoneSpec.pre enc Tryz.prog Tryz.f3 [] false w args ∧ laidMetH Tryz.prog laidL w) ∧ sizedMet enc Tryz.prog Tryz.f3 (OpenSpec.ofChange Rows.compileNoneSpec) false w args) (Rows.compileNoneSpec.post enc Tryz.prog Tryz.f3 false true false false) := by
  refine handed_laid (C := Tryz.checked) (X := fun w _ => laidMetH Tryz.prog laidL w) (fun _ _ _ hh h => h.of_heap hh) own started (by kernel_rfl) Tryz.func3
    (ChangeSpec.witness_shaped (enc := enc) (C := Tryz.checked) (os := os) (X := fun w _ => laidMetH Tryz.prog laidL w) false (wit os) #[.string ByteArray.empty, .int .i64 0, .agg #[.int .i64 0, .int .i64 0, .int .i64 0, .bool false]] 8 rfl (wit_shaped os _) (by kernel_rfl) (by kernel_rfl) (by kernel_rfl) (wit_laid os _)) ?_
  intro W base args ds gs before hval0 hW hcnd _ hL hsh _
  have lf := laid_facts hL
  have hval : ∀ (j : Nat) t v, Tryz.f3.params[j]? = some t → args[j]? = some v → Value.okWide Tryz.prog W .any base t v := hval0
  have hW' := hW
  obtain ⟨p, q, hA0, hV, rfl, hfz, hnd⟩ := hW
  have hA : DataW.TrodAll enc Tryz.prog W 0 (fun _ => true) true Tryz.f3.params.toList args.toList ds p := hA0
  rw [Tryz.params3] at hA hval
  obtain ⟨v0, vs0, d0, ds0, p0, q0, hargs, rfl, rfl, h0, r0⟩ := trodAll_cons hA
  obtain ⟨v1, vs1, d1, ds1, p1, q1, rfl, rfl, rfl, h1, r1⟩ := trodAll_cons r0
  obtain ⟨v2, vs2, d2, ds2, p2, q2, rfl, rfl, rfl, h2, r2⟩ := trodAll_cons r1
  obtain ⟨rfl, rfl, rfl⟩ := trodAll_nil r2
  obtain rfl : args = #[v0, v1, v2] := by cases args; simp_all
  obtain ⟨rfl, rfl⟩ := trodVars_none hV
  have k0 := h0
  have lt0 : ∀ x ∈ p0, x.block < W.heap.size := by obtain ⟨m, hm⟩ := k0; exact DataW.trod_lt m _ _ _ hm
  obtain ⟨m0, rfl⟩ := okWide_string Tryz.underlying9 (hval 0 9 v0 rfl rfl)
  obtain ⟨x0, rx0, wf0⟩ := open_arg k0 rd9
  cases rx0
  have k1 := h1
  have lt1 : ∀ x ∈ p1, x.block < W.heap.size := by obtain ⟨m, hm⟩ := k1; exact DataW.trod_lt m _ _ _ hm
  obtain ⟨m1, rfl⟩ := okWide_int Tryz.underlying3 (hval 1 3 v1 rfl rfl)
  obtain ⟨x1, rx1, wf1⟩ := open_arg k1 rd3
  cases rx1
  have k2 := h2
  have lt2 : ∀ x ∈ p2, x.block < W.heap.size := by obtain ⟨m, hm⟩ := k2; exact DataW.trod_lt m _ _ _ hm
  obtain ⟨cs2, rfl, _⟩ := okWide_struct Tryz.underlying23 (hval 2 23 v2 rfl rfl)
  obtain ⟨x2, rx2, wf2⟩ := open_arg k2 rd23
  have e2 := rGOptions_open rx2
  obtain rfl : cs2 = List.toArray _ := by apply Array.ext'; exact e2
  have hlaw := CompileNone_row x0 m1 x2 wf0 wf1 wf2
  refine (ret_true (law29_CompileNone_sim (start W) (gi_start (g := 0) (t := 3) (zero := #[.int .i64 0]) hsh (of_decide_eq_true (by kernel_rfl)) (by kernel_rfl) rfl (by kernel_rfl) (by kernel_rfl) Tryz.underlying3) lf hlaw) rfl).mono fun e W' ⟨he, bel⟩ => ?_
  subst he
  exact ⟨_, rfl, _, _, _, [], _, [], hW', trodAll_mk1 (shut_bool Tryz.underlying4 _), (trodAll_cons_mk (Below.trod laidOut (by kernel_rfl) (of_decide_eq_true (by kernel_rfl)) k0 bel lt0) (trodAll_cons_mk (Below.trod laidOut (by kernel_rfl) (of_decide_eq_true (by kernel_rfl)) k1 bel lt1) (trodAll_cons_mk (Below.trod laidOut (by kernel_rfl) (of_decide_eq_true (by kernel_rfl)) k2 bel lt2) trodAll_mk0))), rfl, bel.frame _, fun h => by cases h⟩
end rowCompileNone
theorem compileNone_bare_holds : Rows.CompileNoneSaid :=
  OpenClaim.holds_of_wide 3 Tryz.f3 rfl rfl rfl rfl rfl rfl rfl ⟨rfl, rfl, rfl, rfl, rfl⟩ rfl rfl rfl rfl rfl (by kernel_rfl) Tryz.func3 rowCompileNone.closed
    (of_decide_eq_true (by kernel_rfl)) (by unfold Func.isWrapper; first | (rw [if_pos (by decide +kernel)]; kernel_rfl) | (rw [if_neg (by decide +kernel)]; exact ⟨rfl, rfl⟩))
    (fun os started H enc _ => rowCompileNone.lifted os started H enc)
theorem compileNone_holds : Rows.CompileNoneCardSaid :=
  Claim7.holds_tied_plain_at .later [] [.data, .data, .data] true (true, "8217d2a7ab547841774cd6d154c088dfda18adf96ee9cf05a644619e3b25e9d7") true
    compileNone_bare_holds (fun _ h => by cases h) (by kernel_rfl) (fun _ h => by cases h) compileNone_row_tie rfl ⟨rfl, rfl⟩ (by kernel_rfl) rfl
    (fun f fn hf hfn => by
      obtain rfl : f = 3 := Option.some.inj ((show Tryz.prog.funcNamed "rushlight/rushlightlaw29.CompileNone" = some 3 by kernel_rfl).symm.trans hf) |>.symm
      obtain rfl : fn = Tryz.f3 := (Option.some.inj (Tryz.func3.symm.trans hfn)).symm
      exact ⟨by kernel_rfl, fun j t ht => by
        rw [Tryz.params3] at ht
        have hm : t ∈ [9, 3, 23] := by simpa using Array.mem_of_getElem? ht
        have hall : ([9, 3, 23].all fun u => !Tryz.prog.wantsStandIn u) = true := by kernel_rfl
        exact (show Tryz.prog.wantsStandIn t = false by simpa using List.all_eq_true.1 hall t hm)⟩)
    (goes_none rfl rowCompileNone.noGo)
#print axioms compileNone_holds
end Go.Proofs.YtokpeeflnijogaaGreatDoor
