/- A function without arguments that the evaluator runs to true: what a call of it does, whatever the tape draws. It holds for every program. -/
import Derived.Test.YtpfgdpffgdengaaGreatAmc
import Derived.Test.YtpfgdpffgdengaaGreatAct
set_option linter.unusedVariables false
namespace Go.Proofs.YtpfgdpffgdengaaGreat
theorem awake_run {P : Program} {k : Nat} {f : FuncId} (hm : P.follows .mixedOrders = true) (h : AMX.isTrue ((AMX.callA P k).run f [] ⟨0, .nil⟩) = true) {g w0 : World} {T0 : Nat → Prop} {R : Assn} (hS : Sep g T0 w0 [R]) :
    Calls P f #[] w0 (RetS T0 w0 fun T w v => v = .bool true ∧ Sep g T w [R] ∧ True) := by
  have he : ∃ h', (AMX.callA P k).run f [] ⟨0, .nil⟩ = .ok (.bool true) h' := by
    revert h
    generalize (AMX.callA P k).run f [] ⟨0, .nil⟩ = r
    intro h
    unfold AMX.isTrue at h
    split at h
    · exact ⟨_, rfl⟩
    · cases h
  obtain ⟨h', he⟩ := he
  have H : AMX.HR (fun k => k < w0.heap.size) (fun _ => none) ⟨0, .nil⟩ w0 :=
    ⟨fun i q hq => (by cases hq), fun i ob hi => (by cases hi), fun i ob q _ hq => (by cases hq), fun i j oi oj qi qj _ _ hq => (by cases hq), fun k hk => hk⟩
  obtain ⟨_, hc⟩ := AMX.evalOk hm k (fun k => k < w0.heap.size) f [] ⟨0, .nil⟩ _ h' he (fun _ => none) w0 [] rfl H
  refine Calls.mono hc ?_
  rintro e w ⟨φ', x, rfl, hv, _, hE⟩
  simp only [AMX.VR] at hv
  subst hv
  have hW := hE.wv
  have hinn : Inn w0.heap.size noB T0 w0 T0 w := ⟨⟨hW.os, hW.tape, hW.output, hW.size, fun b hb' _ => hW.same b hb'⟩, fun b hb' => ⟨hb', hW.same b (hS.lt b hb')⟩, fun _ _ h => h, fun b hb' => Nat.lt_of_lt_of_le (hS.lt b hb') hW.size, hW.size⟩
  exact ⟨_, rfl, _, hinn.imm, rfl, hS.keep hinn (fun _ h => h), trivial⟩
end Go.Proofs.YtpfgdpffgdengaaGreat
