/- Contracts of the library's functions that package listing calls: strconv.ParseUint to the base 16, strings.Builder. -/
import Derived.Test.YtcmncppbonaaeaaGreatDoorHb
import Derived.Shelf.Strings.Builder1
set_option linter.unusedVariables false
namespace Go.Proofs.YtcmncppbonaaeaaGreatDoor
open Go.Shelf Go.RowKit
section
variable {g : World} {T0 : Nat → Prop} {w0 : World} {R : Assn}
set_option maxHeartbeats 4000000 in
set_option maxRecDepth 100000 in
theorem strconv_ParseUint_sim {p0 : List UInt8} {p1 p2 : Int} {r : Int × Bool} (hS : Sep g T0 w0 [R]) (hG1 : Ge T0 w0 2) (hG2 : Ge T0 w0 3) (hm : strconv_ParseUint p0 p1 p2 = some r) :
    Calls Tryz.prog 62 #[.string ⟨p0.toArray⟩, .int .i64 p1, .int .i64 p2] w0 (RetS T0 w0 fun T w v => ∃ (ev : Value), v = .tuple #[.int .u64 r.1, ev] ∧ Sep g T w [R] ∧ ErrV ev r.2 ∧ True) := by
  unfold strconv_ParseUint at hm
  split at hm
  · rename_i hl
    obtain ⟨hl, rfl, rfl⟩ := hl
    have hm := Option.some.inj hm
    have hs0 : (⟨p0.toArray⟩ : ByteArray).size = p0.length := by simp [ByteArray.size]
    obtain ⟨_, e1, hv1, he1⟩ := hG1
    obtain ⟨_, e2, hv2, he2⟩ := hG2
    have hG := Lib.lt_of_cell hv1
    have hG' := Lib.lt_of_cell hv2
    have hI : ∃ W1, RowKit.Below w0.heap.size w0 W1 ∧ Calls Tryz.prog 81 #[.string ⟨p0.toArray⟩, .int .i64 16, .int .i64 32] w0 fun e w' => e = .returned (Lib.uintTupleM (ren.t 167) 4294967295 (if p0 = [] then Lib.parseMag [] else parse16 0 p0)) ∧ w' = W1 := by
      by_cases h0 : p0 = []
      · subst h0
        refine ⟨w0, RowKit.Below.refl _ _, ?_⟩
        clear hm hl hv1 hv2 hG hG'
        go_enter Tryz.func81, Tryz.ntmps81
        go_wp2
        go_ret2
        exact ⟨rfl, rfl⟩
      · refine ⟨Lib.bytesWorld w0 (ren.t 5) ⟨p0.toArray⟩, Lib.bytesWorld_below _ _ _, ?_⟩
        have h := pu16 lays287 ⟨p0.toArray⟩ (by rw [hs0]; exact fun h => h0 (List.length_eq_zero_iff.1 h)) (by omega) w0
        rw [if_neg h0]
        exact h
    obtain ⟨W1, hB1, hI⟩ := hI
    have hv1' : W1.cell? ⟨2, 0, none⟩ = some e1 := (hB1.cell (show (⟨2, 0, none⟩ : Addr).block < w0.heap.size from hG)).trans hv1
    have hv2' : W1.cell? ⟨3, 0, none⟩ = some e2 := (hB1.cell (show (⟨3, 0, none⟩ : Addr).block < w0.heap.size from hG')).trans hv2
    have hE1 := Any.strconv_toError_syntax laysC245 ⟨#[80, 97, 114, 115, 101, 85, 105, 110, 116]⟩ ⟨p0.toArray⟩ 16 32 e1 W1 (by omega) hv1' he1
    have hE2 := Any.strconv_toError_range laysC245 ⟨#[80, 97, 114, 115, 101, 85, 105, 110, 116]⟩ ⟨p0.toArray⟩ 16 32 e2 W1 (by omega) hv2' he2
    have hE1 : Calls Tryz.prog 76 #[.string ⟨#[80, 97, 114, 115, 101, 85, 105, 110, 116]⟩, .string ⟨p0.toArray⟩, .int .i64 16, .int .i64 32, .iface 117 (.int .i64 2)] W1 fun e w' => ∃ u, e = .returned (.iface (ren.t 168) u) ∧ Below W1.heap.size W1 w' := hE1.mono fun e w' ⟨N, h1, _, _, h2⟩ => ⟨_, h1, h2⟩
    have hE2 : Calls Tryz.prog 76 #[.string ⟨#[80, 97, 114, 115, 101, 85, 105, 110, 116]⟩, .string ⟨p0.toArray⟩, .int .i64 16, .int .i64 32, .iface 117 (.int .i64 1)] W1 fun e w' => ∃ u, e = .returned (.iface (ren.t 168) u) ∧ Below W1.heap.size W1 w' := hE2.mono fun e w' ⟨N, h1, _, _, h2⟩ => ⟨_, h1, h2⟩
    generalize (if p0 = [] then Lib.parseMag [] else parse16 0 p0) = pr at hI hm
    have key : Calls Tryz.prog 62 #[.string ⟨p0.toArray⟩, .int .i64 16, .int .i64 32] w0 fun e w' => (∃ ev, e = .returned (.tuple #[.int .u64 r.1, ev]) ∧ ErrV ev r.2) ∧ Below w0.heap.size w0 w' := by
      clear hv1 hv2 hv1' hv2' hG hG' hl hS he1 he2
      rcases pr with n | _ | _
      · subst hm
        have hI : Calls Tryz.prog 81 #[.string ⟨p0.toArray⟩, .int .i64 16, .int .i64 32] w0 fun e w' => e = .returned (.tuple #[.int .u64 n, .nilIface]) ∧ w' = W1 := hI
        go_enter Tryz.func62, Tryz.ntmps62
        go_wp2_with (go_at_call 81; refine hI.mono ?_; rintro e w' ⟨rfl, rfl⟩)
        go_wp2
        go_ret2
        exact ⟨⟨_, rfl, .inl ⟨rfl, rfl⟩⟩, hB1⟩
      · subst hm
        have hI : Calls Tryz.prog 81 #[.string ⟨p0.toArray⟩, .int .i64 16, .int .i64 32] w0 fun e w' => e = .returned (.tuple #[.int .u64 0, .iface 117 (.int .i64 2)]) ∧ w' = W1 := hI
        go_enter Tryz.func62, Tryz.ntmps62
        go_wp2_with (go_at_call 81; refine hI.mono ?_; rintro e w' ⟨rfl, rfl⟩)
        go_wp2_with (go_at_call 76; refine hE1.mono ?_)
        rintro e w' ⟨u, rfl, hB2⟩
        go_wp2
        go_ret2
        exact ⟨⟨_, rfl, .inr ⟨rfl, _, _, rfl⟩⟩, hB1.trans (hB2.mono hB1.size)⟩
      · subst hm
        have hI : Calls Tryz.prog 81 #[.string ⟨p0.toArray⟩, .int .i64 16, .int .i64 32] w0 fun e w' => e = .returned (.tuple #[.int .u64 4294967295, .iface 117 (.int .i64 1)]) ∧ w' = W1 := hI
        go_enter Tryz.func62, Tryz.ntmps62
        go_wp2_with (go_at_call 81; refine hI.mono ?_; rintro e w' ⟨rfl, rfl⟩)
        go_wp2_with (go_at_call 76; refine hE2.mono ?_)
        rintro e w' ⟨u, rfl, hB2⟩
        go_wp2
        go_ret2
        exact ⟨⟨_, rfl, .inr ⟨rfl, _, _, rfl⟩⟩, hB1.trans (hB2.mono hB1.size)⟩
    refine key.mono ?_
    rintro e w ⟨⟨ev, rfl, he⟩, hB⟩
    have hK := hS.below hB
    exact ⟨_, rfl, _, hK.1, _, rfl, hK.2, he, trivial⟩
  · cases hm
end
end Go.Proofs.YtcmncppbonaaeaaGreatDoor
