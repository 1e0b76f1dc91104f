/- Contracts of the library's functions that package listing calls: numbers to the base 16. -/
import Derived.Test.YtcmncppbonaaeaaGreatDoorH
import Derived.Shelf.Strconv.ParseUint10b32
import Derived.Shelf.Strconv.ToError
import Derived.Shelf.Strconv.ToErrorRange
set_option linter.unusedVariables false
namespace Go.Proofs.YtcmncppbonaaeaaGreatDoor
open Go.Shelf Go.RowKit
section
variable {g : World} {T0 : Nat → Prop} {w0 : World} {R : Assn}
set_option maxHeartbeats 1000000 in
set_option maxRecDepth 100000 in
theorem bits_TrailingZeros_sim {p0 r : Int} (hS : Sep g T0 w0 [R]) (hG : Gc T0 w0 7 (Lib.deBruijn64tab.map fun (z : Nat) => Value.int .u8 (z : Int))) (hm : bits_TrailingZeros p0 = some r) :
    Calls Tryz.prog 114 #[.int .u64 p0] w0 (RetS T0 w0 fun T w v => v = .int .i64 r ∧ Sep g T w [R] ∧ True) := by
  unfold bits_TrailingZeros at hm
  split at hm
  · rename_i hp
    subst hp
    cases hm
    have hc : w0.cell? ⟨7, 15, none⟩ = some (.int .u8 4) := hG.cell rfl
    have hend : Calls Tryz.prog 114 #[.int .u64 16] w0 fun e w' => e = .returned (.int .i64 4) ∧ w' = w0 := by
      clear hG hS
      have key : IntKind.u64.wrap (bits BinOp.and IntKind.u64 16 (IntKind.u64.wrap (-16)) * 285870213051353865) / 288230376151711744 = 15 := by decide
      go_enter Tryz.func114, Tryz.ntmps114
      go_wp2
      go_ret
      exact ⟨rfl, rfl⟩
    refine hend.mono ?_
    rintro e w ⟨rfl, rfl⟩
    exact ⟨_, rfl, _, Im.refl, rfl, hS, trivial⟩
  · cases hm
end
def lowerOf (n : Nat) : Int := bits BinOp.or IntKind.u8 (n : Int) 32
theorem lower_at : ∀ n : Fin 256, (97 ≤ n.val ∧ n.val ≤ 122 → lowerOf n.val = n.val) ∧ (65 ≤ n.val ∧ n.val ≤ 90 → lowerOf n.val = n.val + 32) ∧ ((97 ≤ n.val ∧ n.val ≤ 122) ∨ (65 ≤ n.val ∧ n.val ≤ 90) ∨ lowerOf n.val < 97 ∨ 122 < lowerOf n.val) := by
  decide +kernel
set_option maxHeartbeats 32000000 in
set_option maxRecDepth 100000 in
theorem pu16 {P : Program} {ρ : Ren} (L : Lays.n287 P ρ) (t : ByteArray) (hne : t.size ≠ 0) (hmax : t.size ≤ 9223372036854775806) (w : World) :
    Calls P (ρ.f 287) #[.string t, .int .i64 16, .int .i64 32] w fun e w' => e = .returned (Lib.uintTupleM (ρ.t 167) 4294967295 (parse16 0 t.data.toList)) ∧ w' = Lib.bytesWorld w (ρ.t 5) t := by
  have mixed := L.mixed
  have t9 := L.t9; have a9 := L.a9; have z9 := L.z9; have v9 := L.v9
  have t3 := L.t3; have a3 := L.a3; have z3 := L.z3; have v3 := L.v3
  have t53 := L.t53; have a53 := L.a53; have z53 := L.z53; have v53 := L.v53
  have t75 := L.t75; have a75 := L.a75; have z75 := L.z75; have v75 := L.v75
  have t4 := L.t4; have a4 := L.a4; have z4 := L.z4; have v4 := L.v4
  have t167 := L.t167; have a167 := L.a167; have z167 := L.z167; have v167 := L.v167
  have t5 := L.t5; have a5 := L.a5; have z5 := L.z5; have v5 := L.v5
  have t46 := L.t46; have a46 := L.a46; have z46 := L.z46; have v46 := L.v46
  have t37 := L.t37; have a37 := L.a37; have z37 := L.z37; have v37 := L.v37
  have t0 := L.t0; have a0 := L.a0; have z0 := L.z0; have v0 := L.v0
  have e321 : ∀ args w, (callFunc (ρ.f 321) args).run P w = .ok (.enter (ρ.f 321) args) w := enters_of L.f321 (by kernel_rfl) rfl
  have hemp : t.toList.isEmpty = false := by
    rw [← decide_eq_emptyBytes]
    exact decide_eq_false (fun h => hne (by rw [h]; rfl))
  have hcv := Lib.run_convert_string_bytes (P := P) w (ρ.t 9) (ρ.t 37) (ρ.t 5) t (u := .string) L.t9 L.t37 L.t5
  have hB : ∀ j, j < t.size → (Lib.bytesWorld w (ρ.t 5) t).cell? ⟨w.heap.size, j, none⟩ = some (.int .u8 (t.data.toList.getD j 0).toNat) := fun j hj => Lib.bytesWorld_cell w (ρ.t 5) t j hj
  obtain ⟨W1, hW1⟩ : ∃ W1, W1 = Lib.bytesWorld w (ρ.t 5) t := ⟨_, rfl⟩
  rw [← hW1] at hcv hB ⊢
  clear hW1
  obtain ⟨bs, hL⟩ : ∃ bs, bs = t.data.toList := ⟨_, rfl⟩
  have hLn : bs.length = t.size := by rw [hL, Lib.size_eq]
  rw [← hL] at hB ⊢
  clear hL
  -- 'maxVal := uint64(1)<<uint(bitSize) - 1': its value, for the walk to take
  have hmv : IntKind.u64.wrap (IntKind.u64.wrap 4294967296 - 1) = 4294967295 := by
    rw [IntKind.wrap_u64, IntKind.wrap_u64]
    decide
  go_enter L.f287, Body.n287_ntmps ρ
  go_wp2
  go_loop [12, 13, 101] (fun vu vn vi => ∃ (k acc : Nat) (a : Int), vu = .bool false ∧ vn = .int .u64 a ∧ vi = .int .i64 k ∧ k ≤ t.size ∧ Hid (a = (acc : Int) ∧ acc ≤ 4294967295 ∧ parse16 0 bs = parse16 acc (bs.drop k)))
    (fun _ _ vi => t.size - (intOf vi).toNat)
  case atStart => exact ⟨0, 0, 0, rfl, rfl, rfl, by omega, rfl, by omega, rfl⟩
  case round =>
    obtain ⟨k, acc, a, rfl, rfl, rfl, hk, hh⟩ := hrel
    obtain ⟨ha, hacc, hdec⟩ := hh.out
    clear hh
    have a0 : 0 ≤ a := by omega
    have a1 : a ≤ 4294967295 := by omega
    by_cases hkn : k < t.size
    · have hc := hB k hkn
      have hdrop : bs.drop k = bs[k]'(by omega) :: bs.drop (k + 1) := List.drop_eq_getElem_cons (by omega)
      have hget : bs.getD k 0 = bs[k]'(by omega) := by simp [List.getD, List.getElem?_eq_getElem (show k < bs.length by omega)]
      rw [hdrop] at hdec
      rw [hget] at hc
      generalize bs[k]'(by omega) = c at hc hdec
      have hc256 : c.toNat < 256 := c.toNat_lt
      clear hB hdrop hget
      have hlo := lower_at ⟨c.toNat, hc256⟩
      simp only at hlo
      obtain ⟨hl1, hl2, hl3⟩ := hlo
      have hlow : Calls P (ρ.f 321) #[.int .u8 (c.toNat : Int)] W1 fun e w' => e = .returned (.int .u8 (lowerOf c.toNat)) ∧ w' = W1 := Any.internal_strconv_lower { L with } _ _
      generalize lowerOf c.toNat = lv at hlow hl1 hl2 hl3
      have step : ∀ d : Nat, d < 16 → hexVal c = some d → (4294967295 < acc * 16 + d ∧ parse16 0 bs = .range) ∨ (acc * 16 + d ≤ 4294967295 ∧ parse16 0 bs = parse16 (acc * 16 + d) (bs.drop (k + 1))) := by
        intro d hd hv
        rw [hdec]
        simp only [parse16, hv]
        by_cases h : 4294967295 < acc * 16 + d
        · exact .inl ⟨h, by rw [if_pos h]⟩
        · exact .inr ⟨by omega, by rw [if_neg h]⟩
      by_cases hdig : 48 ≤ c.toNat ∧ c.toNat ≤ 57
      · obtain ⟨hd0, hd1⟩ := hdig
        rcases step (c.toNat - 48) (by omega) (by unfold hexVal; rw [if_pos ⟨hd0, hd1⟩]) with ⟨hov, hdec'⟩ | ⟨hov, hdec'⟩
        · have iov : 4294967295 < a * 16 + ((c.toNat : Int) - 48) := by omega
          clear hacc hov ha hdec step hlow hl1 hl2 hl3
          go_wp2
          go_ret2
          first | exact ⟨rfl, rfl⟩ | exact ⟨by rw [hdec']; rfl, rfl⟩
        · have HN : Hid (a * 16 + ((c.toNat : Int) - 48) = ((acc * 16 + (c.toNat - 48) : Nat) : Int) ∧ acc * 16 + (c.toNat - 48) ≤ 4294967295 ∧ parse16 0 bs = parse16 (acc * 16 + (c.toNat - 48)) (bs.drop (k + 1))) := Lib.hid ⟨by omega, by omega, hdec'⟩
          have iov : a * 16 + ((c.toNat : Int) - 48) ≤ 4294967295 := by omega
          clear hacc hov hdec ha hdec' step hlow hl1 hl2 hl3
          go_wp2
          refine ⟨⟨k + 1, acc * 16 + (c.toNat - 48), a * 16 + ((c.toNat : Int) - 48), rfl, (by first | rfl | (congr 1; omega)), (by first | rfl | (congr 1; omega)), by omega, HN⟩, by simp [intOf]; omega⟩
      · by_cases hlet : (97 ≤ c.toNat ∧ c.toNat ≤ 102) ∨ (65 ≤ c.toNat ∧ c.toNat ≤ 70)
        · obtain ⟨d, hd16, hd10, hv, hlv⟩ : ∃ d : Nat, d < 16 ∧ 10 ≤ d ∧ hexVal c = some d ∧ lv = (d : Int) + 87 := by
            rcases hlet with h | h
            · refine ⟨c.toNat - 87, by omega, by omega, ?_, ?_⟩
              · unfold hexVal
                rw [if_neg hdig, if_pos h]
              · rw [hl1 ⟨h.1, by omega⟩]
                omega
            · refine ⟨c.toNat - 55, by omega, by omega, ?_, ?_⟩
              · unfold hexVal
                rw [if_neg hdig, if_neg (by omega), if_pos h]
              · rw [hl2 ⟨h.1, by omega⟩]
                omega
          have hcx : (c.toNat : Int) < 48 ∨ 57 < (c.toNat : Int) := by omega
          have h95 : (c.toNat : Int) ≠ 95 := by omega
          rcases step d hd16 hv with ⟨hov, hdec'⟩ | ⟨hov, hdec'⟩
          · subst hlv
            have iov : 4294967295 < a * 16 + (d : Int) := by omega
            clear hacc hov ha hdec step hl1 hl2 hl3 hv hlet hdig
            go_wp2_with (go_at_fn (ρ.f 321); refine hlow.mono ?_; rintro e w' ⟨rfl, rfl⟩)
            all_goals go_ret2
            all_goals first | exact ⟨rfl, rfl⟩ | exact ⟨by rw [hdec']; rfl, rfl⟩
          · subst hlv
            have HN : Hid (a * 16 + (d : Int) = ((acc * 16 + d : Nat) : Int) ∧ acc * 16 + d ≤ 4294967295 ∧ parse16 0 bs = parse16 (acc * 16 + d) (bs.drop (k + 1))) := Lib.hid ⟨by omega, by omega, hdec'⟩
            have iov : a * 16 + (d : Int) ≤ 4294967295 := by omega
            clear hacc hov ha hdec hdec' step hl1 hl2 hl3 hv hlet hdig
            go_wp2_with (go_at_fn (ρ.f 321); refine hlow.mono ?_; rintro e w' ⟨rfl, rfl⟩)
            all_goals refine ⟨⟨k + 1, acc * 16 + d, a * 16 + (d : Int), rfl, (by first | rfl | (congr 1; omega)), (by first | rfl | (congr 1; omega)), by omega, HN⟩, by simp [intOf]; omega⟩
        · -- NO DIGIT: whatever way the text goes: (0, ErrSyntax)
          have hF : parse16 acc (c :: bs.drop (k + 1)) = Lib.parseMag [] := by
            simp only [parse16]
            unfold hexVal
            rw [if_neg hdig, if_neg (by omega), if_neg (by omega)]
          rw [hF] at hdec
          have hlx : lv < 97 ∨ 122 < lv ∨ (103 ≤ lv ∧ lv ≤ 122) := by
            rcases hl3 with h | h | h | h
            · rw [hl1 h]; omega
            · rw [hl2 h]; omega
            · exact .inl h
            · exact .inr (.inl h)
          by_cases h95 : c.toNat = 95
          · have hb : bits BinOp.or IntKind.u8 95 32 = 127 := by decide
            clear hacc hF ha step hl1 hl2 hl3 hlow hlx
            go_wp2_with (go_at_fn (ρ.f 321); refine (Any.internal_strconv_lower { L with } _ _).mono ?_; rintro e w' ⟨rfl, rfl⟩)
            all_goals go_ret2
            all_goals first | exact ⟨rfl, rfl⟩ | exact ⟨by rw [hdec]; rfl, rfl⟩
          have h95' : (c.toNat : Int) ≠ 95 := by omega
          clear hacc hF ha step hl1 hl2 hl3
          go_wp2_with (go_at_fn (ρ.f 321); refine hlow.mono ?_; rintro e w' ⟨rfl, rfl⟩)
          all_goals first | (exfalso; omega) | skip
          all_goals go_ret2
          all_goals first | exact ⟨rfl, rfl⟩ | exact ⟨by rw [hdec]; rfl, rfl⟩
    · -- THE BYTES ARE AT AN END
      have hkk : k = t.size := by omega
      subst hkk
      have hF : parse16 acc (bs.drop t.size) = .ok acc := by rw [List.drop_eq_nil_of_le (by omega)]; rfl
      rw [hF] at hdec
      subst ha
      clear hacc hF a0 a1
      go_wp2
      go_ret2
      exact ⟨rfl, rfl⟩


end Go.Proofs.YtcmncppbonaaeaaGreatDoor
