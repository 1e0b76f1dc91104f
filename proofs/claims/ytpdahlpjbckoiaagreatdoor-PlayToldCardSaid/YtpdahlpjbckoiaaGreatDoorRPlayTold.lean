/- PlayTold: the row. The law returns true at every input that can be read; its arguments read afterwards as before. No condition. -/
import Derived.Test.YtpdahlpjbckoiaaGreatDoorFPlayTold
import Derived.Test.YtpdahlpjbckoiaaGreatDoorRows
import Derived.Test.YtpdahlpjbckoiaaGreatDoorRow
import Derived.Test.YtpdahlpjbckoiaaGreatDoorW
import Derived.Test.YtpdahlpjbckoiaaGreatDoorJ31t
import Derived.Test.YtpdahlpjbckoiaaGreatDoorGi
import Derived.Test.YtpdahlpjbckoiaaGreatDoorLd
import Derived.Test.YtpdahlpjbckoiaaGreatDoorTie
import Derived.Test.YtpdahlpjbckoiaaGreatDoorCards
import Derived.SevenTiedAt
import Derived.ShutString
import Derived.ChangeOld
import Derived.Below
import Derived.OpenShut
set_option linter.unusedVariables false
namespace Go.Proofs.YtpdahlpjbckoiaaGreatDoor
open Go.ChangeShapes Go.WideShapes Go.ChangeAt Go.RowKit
open Go.ChangeMaps (open_string shut_string)
namespace rowPlayTold
theorem own : ownKnob Tryz.prog.godebug = none := by kernel_rfl
theorem laidOut : laidOutB Tryz.prog = true := by kernel_rfl
theorem rd3 : RdOk Tryz.prog 3 (rInt .i64) (wfI .i64) := rdInt Tryz.underlying3
theorem rd22 : RdOk Tryz.prog 22 (rInt .u32) (wfI .u32) := rdInt Tryz.underlying22
theorem rd49 : RdOk Tryz.prog 49 rGRecord (fun (y : GRecord) => (wfI .u32) y.Seq ∧ ((wfI .u32) y.Val)) := rdStruct (tot := 2) (fun p => ⟨p.1, p.2⟩) (fun _ => rfl) Tryz.underlying49 (by kernel_rfl) (rdTail2 (s := 1) rd22 rfl (by kernel_rfl) (rdTail1 rd22 rfl (by kernel_rfl)))
theorem rd23 : RdOk Tryz.prog 23 (rSl rGRecord) (fun (l : List GRecord) => (∀ x ∈ l, (fun (y : GRecord) => (wfI .u32) y.Seq ∧ ((wfI .u32) y.Val)) x) ∧ l.length ≤ maxLen) := rdSl rd49 Tryz.underlying23 (by kernel_rfl) (by decide)
theorem rd25 : RdOk Tryz.prog 25 rGPlay (fun (y : GPlay) => (wfI .i64) y.State ∧ ((wfI .u32) y.Exit ∧ ((wfI .i64) y.Steps ∧ ((fun (l : List GRecord) => (∀ x ∈ l, (fun (y : GRecord) => (wfI .u32) y.Seq ∧ ((wfI .u32) y.Val)) x) ∧ l.length ≤ maxLen) y.Log ∧ ((wfI .i64) y.Fails))))) := rdStruct (tot := 5) (fun p => ⟨p.1, p.2.1, p.2.2.1, p.2.2.2.1, p.2.2.2.2⟩) (fun _ => rfl) Tryz.underlying25 (by kernel_rfl) (rdTail2 (s := 1) rd3 rfl (by kernel_rfl) (rdTail2 (s := 1) rd22 rfl (by kernel_rfl) (rdTail2 (s := 1) rd3 rfl (by kernel_rfl) (rdTail2 (s := 1) rd23 rfl (by kernel_rfl) (rdTail1 rd3 rfl (by kernel_rfl))))))
theorem rd26 : RdOk Tryz.prog 26 (rSl (rInt .u32)) (fun (l : List Int) => (∀ x ∈ l, (wfI .u32) x) ∧ l.length ≤ maxLen) := rdSl rd22 Tryz.underlying26 (by kernel_rfl) (by decide)
theorem rd27 : RdOk Tryz.prog 27 (rInt .i64) (wfI .i64) := rdInt Tryz.underlying27
theorem rd29 : RdOk Tryz.prog 29 rOutcome (fun (y : Outcome) => (fun (l : List Int) => (∀ x ∈ l, (wfI .u32) x) ∧ l.length ≤ maxLen) y.Out ∧ ((wfI .i64) y.Ins ∧ ((wfI .u32) y.Exit ∧ ((wfI .i64) y.E)))) := rdStruct (tot := 4) (fun p => ⟨p.1, p.2.1, p.2.2.1, p.2.2.2⟩) (fun _ => rfl) Tryz.underlying29 (by kernel_rfl) (rdTail2 (s := 1) rd26 rfl (by kernel_rfl) (rdTail2 (s := 1) rd3 rfl (by kernel_rfl) (rdTail2 (s := 1) rd22 rfl (by kernel_rfl) (rdTail1 rd27 rfl (by kernel_rfl)))))
set_option maxRecDepth 100000 in
theorem lifted (os : Os) (started : os.Started) (H : Type) (enc : TypeId × Value → H) :
    ReturnsInHanded {} Tryz.checked os 3 .any (fun w args => (Rows.playToldSpec.pre enc Tryz.prog Tryz.f3 [] false w args ∧ laidMetH Tryz.prog laidL w) ∧ sizedMet enc Tryz.prog Tryz.f3 (OpenSpec.ofChange Rows.playToldSpec) false w args) (Rows.playToldSpec.post enc Tryz.prog Tryz.f3 false true false false) := by
  refine handed_laid (C := Tryz.checked) (X := fun w _ => laidMetH Tryz.prog laidL w) (fun _ _ _ hh h => h.of_heap hh) own started (by kernel_rfl) Tryz.func3
    (ChangeSpec.witness_shaped (enc := enc) (C := Tryz.checked) (os := os) (X := fun w _ => laidMetH Tryz.prog laidL w) false (wit os) #[.agg #[.int .i64 0, .int .u32 0, .int .i64 0, .slice none 0 0, .int .i64 0], .agg #[.slice none 0 0, .int .i64 0, .int .u32 0, .int .i64 0]] 8 rfl (wit_shaped os _) (by kernel_rfl) (by kernel_rfl) (by kernel_rfl) (wit_laid os _)) ?_
  intro W base args ds gs before hval0 hW hcnd _ hL hsh _
  have lf := laid_facts hL
  have hval : ∀ (j : Nat) t v, Tryz.f3.params[j]? = some t → args[j]? = some v → Value.okWide Tryz.prog W .any base t v := hval0
  have hW' := hW
  obtain ⟨p, q, hA0, hV, rfl, hfz, hnd⟩ := hW
  have hA : DataW.TrodAll enc Tryz.prog W 0 (fun _ => true) true Tryz.f3.params.toList args.toList ds p := hA0
  rw [Tryz.params3] at hA hval
  obtain ⟨v0, vs0, d0, ds0, p0, q0, hargs, rfl, rfl, h0, r0⟩ := trodAll_cons hA
  obtain ⟨v1, vs1, d1, ds1, p1, q1, rfl, rfl, rfl, h1, r1⟩ := trodAll_cons r0
  obtain ⟨rfl, rfl, rfl⟩ := trodAll_nil r1
  obtain rfl : args = #[v0, v1] := by cases args; simp_all
  obtain ⟨rfl, rfl⟩ := trodVars_none hV
  have k0 := h0
  have lt0 : ∀ x ∈ p0, x.block < W.heap.size := by obtain ⟨m, hm⟩ := k0; exact DataW.trod_lt m _ _ _ hm
  obtain ⟨cs0, rfl, _⟩ := okWide_struct Tryz.underlying25 (hval 0 25 v0 rfl rfl)
  obtain ⟨x0, rx0, wf0⟩ := open_arg k0 rd25
  obtain ⟨a0_0, c0_0, e0, s0_0⟩ := rGPlay_open rx0
  obtain rfl : cs0 = List.toArray _ := by apply Array.ext'; exact e0
  have k1 := h1
  have lt1 : ∀ x ∈ p1, x.block < W.heap.size := by obtain ⟨m, hm⟩ := k1; exact DataW.trod_lt m _ _ _ hm
  obtain ⟨cs1, rfl, _⟩ := okWide_struct Tryz.underlying29 (hval 1 29 v1 rfl rfl)
  obtain ⟨x1, rx1, wf1⟩ := open_arg k1 rd29
  obtain ⟨a1_0, c1_0, e1, s1_0⟩ := rOutcome_open rx1
  obtain rfl : cs1 = List.toArray _ := by apply Array.ext'; exact e1
  have hlaw := PlayTold_row x0 x1 wf0 wf1
  refine (ret_true (law31_PlayTold_sim (start W) s0_0 s1_0 lf hlaw) rfl).mono fun e W' ⟨he, bel⟩ => ?_
  subst he
  exact ⟨_, rfl, _, _, _, [], _, [], hW', trodAll_mk1 (shut_bool Tryz.underlying4 _), (trodAll_cons_mk (Below.trod laidOut (by kernel_rfl) (of_decide_eq_true (by kernel_rfl)) k0 bel lt0) (trodAll_cons_mk (Below.trod laidOut (by kernel_rfl) (of_decide_eq_true (by kernel_rfl)) k1 bel lt1) trodAll_mk0)), rfl, bel.frame _, fun h => by cases h⟩
end rowPlayTold
theorem playTold_bare_holds : Rows.PlayToldSaid :=
  OpenClaim.holds_of_wide 3 Tryz.f3 rfl rfl rfl rfl rfl rfl rfl ⟨rfl, rfl, rfl, rfl, rfl⟩ rfl rfl rfl rfl rfl (by kernel_rfl) Tryz.func3 rowPlayTold.closed
    (of_decide_eq_true (by kernel_rfl)) (by unfold Func.isWrapper; first | (rw [if_pos (by decide +kernel)]; kernel_rfl) | (rw [if_neg (by decide +kernel)]; exact ⟨rfl, rfl⟩))
    (fun os started H enc _ => rowPlayTold.lifted os started H enc)
theorem playTold_holds : Rows.PlayToldCardSaid :=
  Claim7.holds_tied_plain_at .later [] [.data, .data, .data] true (true, "8b7a13ef6e0b5418f9b855ede1b9f86172897aaf0a270d66b4fb6c9658f4605b") true
    playTold_bare_holds (fun _ h => by cases h) (by kernel_rfl) (fun _ h => by cases h) playTold_row_tie rfl ⟨rfl, rfl⟩ (by kernel_rfl) rfl
    (fun f fn hf hfn => by
      obtain rfl : f = 3 := Option.some.inj ((show Tryz.prog.funcNamed "rushlight/rushlightlaw31.PlayTold" = some 3 by kernel_rfl).symm.trans hf) |>.symm
      obtain rfl : fn = Tryz.f3 := (Option.some.inj (Tryz.func3.symm.trans hfn)).symm
      exact ⟨by kernel_rfl, fun j t ht => by
        rw [Tryz.params3] at ht
        have hm : t ∈ [25, 29] := by simpa using Array.mem_of_getElem? ht
        have hall : ([25, 29].all fun u => !Tryz.prog.wantsStandIn u) = true := by kernel_rfl
        exact (show Tryz.prog.wantsStandIn t = false by simpa using List.all_eq_true.1 hall t hm)⟩)
    (goes_none rfl rowPlayTold.noGo)
#print axioms playTold_holds
end Go.Proofs.YtpdahlpjbckoiaaGreatDoor
