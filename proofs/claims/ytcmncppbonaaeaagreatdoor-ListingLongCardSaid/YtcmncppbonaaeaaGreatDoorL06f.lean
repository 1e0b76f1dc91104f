/- Plain laws on words as instructions: the program decodes as the reference does, and encodes what it decoded. No program is in sight here. -/
import Derived.Test.YtcmncppbonaaeaaGreatDoorL06e
set_option linter.unusedVariables false
namespace Go.Proofs.YtcmncppbonaaeaaGreatDoor

/-! Shapes. -/
def shp (o : Int) : InstShape := tbl1.getD o.toNat ⟨[], 0, 0, 0, 0⟩
theorem shp_idx {o : Int} (h : 0 ≤ o ∧ o ≤ 45) : idx tbl1 o = some (shp o) := fin46 (P := fun o => idx tbl1 o = some (shp o)) (by decide +kernel) h.1 h.2
theorem shp_form {o : Int} (h : 0 ≤ o ∧ o ≤ 45) : (shp o).form = formOf o := fin46 (P := fun o => (shp o).form = formOf o) (by decide +kernel) h.1 h.2
theorem of_shp {o : Int} (h : 0 ≤ o ∧ o ≤ 45) : inst_of o = some (shp o) := fin46 (P := fun o => inst_of o = some (shp o)) (by decide +kernel) h.1 h.2
def cN (o : Int) : Nat := (shp o).code.toNat
def tN (o : Int) : Nat := (shp o).third.toNat
def sN (o : Int) : Nat := (shp o).seventh.toNat
theorem op_parts {o : Int} (h : 1 ≤ o ∧ o ≤ 45) : ((shp o).code = (cN o : Int) ∧ (shp o).third = (tN o : Int) ∧ (shp o).seventh = (sN o : Int)) ∧ (cN o < 128 ∧ tN o < 8 ∧ sN o < 128) ∧
    (ref02_Code o = some (cN o : Int) ∧ ref02_Third o = some (tN o : Int) ∧ ref02_Seventh o = some (sN o : Int)) ∧ formOf o ≠ 0 ∧ (formOf o = 85 ∨ formOf o = 74 → tN o = 0) ∧ (formOf o ≠ 82 → formOf o ≠ 72 → sN o = 0) :=
  fin46 (P := fun o => 1 ≤ o → ((shp o).code = (cN o : Int) ∧ (shp o).third = (tN o : Int) ∧ (shp o).seventh = (sN o : Int)) ∧ (cN o < 128 ∧ tN o < 8 ∧ sN o < 128) ∧
    (ref02_Code o = some (cN o : Int) ∧ ref02_Third o = some (tN o : Int) ∧ ref02_Seventh o = some (sN o : Int)) ∧ formOf o ≠ 0 ∧ (formOf o = 85 ∨ formOf o = 74 → tN o = 0) ∧ (formOf o ≠ 82 → formOf o ≠ 72 → sN o = 0)) (by decide +kernel) (by omega) h.2 h.1

/-! Whether a word has an instruction's codes; the instruction. -/
def Fits (o : Int) (w : Nat) : Prop := w % 128 = cN o ∧ (formOf o = 85 ∨ formOf o = 74 ∨ (w / 4096 % 8 = tN o ∧ ((formOf o ≠ 82 ∧ formOf o ≠ 72) ∨ w / 33554432 = sN o)))
instance (o : Int) (w : Nat) : Decidable (Fits o w) := by unfold Fits; infer_instance
def decI (o : Int) (w : Nat) : GInst :=
  ⟨o, bif hasD (formOf o) then (w / 128 % 32 : Nat) else 0, bif has1 (formOf o) then (w / 32768 % 32 : Nat) else 0, bif has2 (formOf o) then (w / 1048576 % 32 : Nat) else 0, immF (formOf o) w⟩
theorem beqn (a b : Nat) : (((a : Nat) : Int) == ((b : Nat) : Int)) = decide (a = b) := by
  by_cases h : a = b
  · subst h; simp
  · rw [df h, beq_eq_false_iff_ne]; omega
theorem fits_eq {w : Nat} (hw : w < 4294967296) {o : Int} (ho : 1 ≤ o ∧ o ≤ 45) : inst_fits (shp o) (w : Int) = some (decide (Fits o w)) := by
  obtain ⟨⟨h1, h2, h3⟩, _, _, hf, _, _⟩ := op_parts ho
  unfold inst_fits
  rw [shp_form ⟨by omega, ho.2⟩, h1, h2, h3, show (127 : Int) = ((2 ^ 7 - 1 : Nat) : Int) from rfl, and32 w 7 hw (by omega), ibits hw (by omega) (by omega), Option.bind_some,
    show (2 : Int) ^ (min (Int.toNat 25) (IntKind.bits .u32)) = 33554432 from rfl, Int.fdiv_eq_ediv_of_nonneg _ (by omega), show ((w : Int) / 33554432) = ((w / 33554432 : Nat) : Int) by omega, bne, bne, beqn, beqn, beqn]
  simp only [Int.reduceToNat, Nat.reducePow]
  by_cases hF : Fits o w
  · rw [dt hF]
    unfold Fits at hF
    generalize formOf o = f at *
    have e1 := hF.1
    rw [dt e1]
    rcases hF.2 with h | h | ⟨h, h'⟩
    · rw [h]; rfl
    · rw [h]; rfl
    · rw [dt h]
      cases f == 85 <;> cases f == 74 <;> try rfl
      rcases h' with h' | h'
      · rw [show (f != 82) = true by simpa using h'.1, show (f != 72) = true by simpa using h'.2]; rfl
      · rw [dt h']
        cases f != 82 <;> cases f != 72 <;> rfl
  · rw [df hF]
    unfold Fits at hF
    generalize formOf o = f at *
    by_cases e1 : w % 128 = cN o
    · rw [dt e1]
      by_cases a1 : f = 85
      · exact absurd ⟨e1, .inl a1⟩ hF
      by_cases a2 : f = 74
      · exact absurd ⟨e1, .inr (.inl a2)⟩ hF
      rw [show (f == 85) = false by simpa using a1, show (f == 74) = false by simpa using a2]
      by_cases e2 : w / 4096 % 8 = tN o
      · rw [dt e2]
        by_cases e3 : w / 33554432 = sN o
        · exact absurd ⟨e1, .inr (.inr ⟨e2, .inr e3⟩)⟩ hF
        · rw [df e3]
          by_cases a3 : f = 82
          · subst a3; rfl
          by_cases a4 : f = 72
          · subst a4; rfl
          exact absurd ⟨e1, .inr (.inr ⟨e2, .inl ⟨a3, a4⟩⟩)⟩ hF
      · rw [df e2]; rfl
    · rw [df e1]; rfl
theorem dec_right {w : Nat} {o : Int} (hf : formOf o ≠ 0) : rightB (decI o w) = true := by
  have hr : ∀ (b : Bool) (n : Nat), n < 32 → regB (bif b then (n : Int) else 0) b = true := by
    intro b n hn
    cases b with
    | false => rfl
    | true =>
      simp only [regB, cond_true, Bool.and_eq_true, decide_eq_true_eq]
      omega
  have hi : immB (formOf o) (immF (formOf o) w) = true := by
    unfold immB ref02_room immF
    obtain ⟨x0, e0, h0⟩ := fN w 4096 1048576 (by decide)
    obtain ⟨x1, e1, h1⟩ := fN w 2147483648 2 (by decide)
    obtain ⟨x2, e2, h2⟩ := fN w 2097152 1024 (by decide)
    obtain ⟨x3, e3, h3⟩ := fN w 1048576 2 (by decide)
    obtain ⟨x4, e4, h4⟩ := fN w 4096 256 (by decide)
    obtain ⟨x5, e5, h5⟩ := fN w 1048576 4096 (by decide)
    obtain ⟨x6, e6, h6⟩ := fN w 1048576 32 (by decide)
    obtain ⟨x7, e7, h7⟩ := fN w 33554432 128 (by decide)
    obtain ⟨x8, e8, h8⟩ := fN w 128 32 (by decide)
    obtain ⟨y1, f1, g1⟩ := fN w 33554432 64 (by decide)
    obtain ⟨y2, f2, g2⟩ := fN w 256 16 (by decide)
    obtain ⟨y3, f3, g3⟩ := fN w 128 2 (by decide)
    rw [e0, e1, e2, e3, e4, e5, e6, e7, e8, f1, f2, f3]
    clear e0 e1 e2 e3 e4 e5 e6 e7 e8 f1 f2 f3
    rcases forms o with e | e | e | e | e | e | e | e
    · exact absurd e hf
    all_goals
      rw [e]
      simp (config := { decide := true }) only [Int.reduceBEq, cond_true, cond_false, tm0, bb, bb2, Option.getD_some, if_true, if_false, Int.reduceEq]
    all_goals first | rfl | skip
    all_goals
      rw [decide_eq_true_eq]
      first | (split <;> omega) | omega
  have hfb : (formOf o != 0) = true := by simpa using hf
  unfold rightB
  simp only [Bool.and_eq_true]
  exact ⟨⟨⟨⟨hfb, hr (hasD (formOf o)) (w / 128 % 32) (Nat.mod_lt _ (by decide))⟩, hr (has1 (formOf o)) (w / 32768 % 32) (Nat.mod_lt _ (by decide))⟩, hr (has2 (formOf o)) (w / 1048576 % 32) (Nat.mod_lt _ (by decide))⟩, hi⟩

/-! The number, spread. -/
def sprN (f : Int) (w : Nat) : Nat :=
  if f = 85 then w / 4096 % 1048576 * 4096
  else if f = 74 then w / 2147483648 % 2 * 2147483648 + w / 2097152 % 1024 * 2097152 + w / 1048576 % 2 * 1048576 + w / 4096 % 256 * 4096
  else if f = 73 then w / 1048576 % 4096 * 1048576
  else if f = 72 then w / 1048576 % 32 * 1048576
  else if f = 83 then w / 128 % 32 * 128 + w / 33554432 % 128 * 33554432
  else if f = 66 then w / 2147483648 % 2 * 2147483648 + w / 33554432 % 64 * 33554432 + w / 256 % 16 * 256 + w / 128 % 2 * 128
  else 0
/-- The number's bits. -/
def immN (f : Int) (w : Nat) : Nat :=
  if f = 85 then w / 4096 % 1048576 * 4096
  else if f = 74 then w / 2097152 % 1024 * 2 + w / 1048576 % 2 * 2048 + w / 4096 % 256 * 4096 + w / 2147483648 % 2 * 4293918720
  else if f = 73 then (if 2048 ≤ w / 1048576 % 4096 then w / 1048576 % 4096 + 4294963200 else w / 1048576 % 4096)
  else if f = 72 then w / 1048576 % 32
  else if f = 83 then (if 64 ≤ w / 33554432 % 128 then w / 33554432 % 128 * 32 + w / 128 % 32 + 4294963200 else w / 33554432 % 128 * 32 + w / 128 % 32)
  else if f = 66 then w / 33554432 % 64 * 32 + w / 256 % 16 * 2 + w / 128 % 2 * 2048 + w / 2147483648 % 2 * 4294963200
  else 0
theorem immN_at (f : Int) (w : Nat) : immN f w < 4294967296 ∧ ((immF f w < 0 ∧ immF f w + 4294967296 = (immN f w : Int)) ∨ (0 ≤ immF f w ∧ immF f w = (immN f w : Int))) := by
  unfold immN immF
  obtain ⟨x0, e0, h0⟩ := fN w 4096 1048576 (by decide)
  obtain ⟨x1, e1, h1⟩ := fN w 2147483648 2 (by decide)
  obtain ⟨x2, e2, h2⟩ := fN w 2097152 1024 (by decide)
  obtain ⟨x3, e3, h3⟩ := fN w 1048576 2 (by decide)
  obtain ⟨x4, e4, h4⟩ := fN w 4096 256 (by decide)
  obtain ⟨x5, e5, h5⟩ := fN w 1048576 4096 (by decide)
  obtain ⟨x6, e6, h6⟩ := fN w 1048576 32 (by decide)
  obtain ⟨x7, e7, h7⟩ := fN w 33554432 128 (by decide)
  obtain ⟨x8, e8, h8⟩ := fN w 128 32 (by decide)
  obtain ⟨y1, f1, g1⟩ := fN w 33554432 64 (by decide)
  obtain ⟨y2, f2, g2⟩ := fN w 256 16 (by decide)
  obtain ⟨y3, f3, g3⟩ := fN w 128 2 (by decide)
  rw [e0, e1, e2, e3, e4, e5, e6, e7, e8, f1, f2, f3]
  clear e0 e1 e2 e3 e4 e5 e6 e7 e8 f1 f2 f3
  by_cases h : f = 85
  · rw [if_pos h, if_pos h]; clear h1 h2 h3 h4 h5 h6 h7 h8 g1 g2 g3; split <;> omega
  rw [if_neg h, if_neg h]
  by_cases h : f = 74
  · rw [if_pos h, if_pos h]; clear h0 h5 h6 h7 h8 g1 g2 g3; omega
  rw [if_neg h, if_neg h]
  by_cases h : f = 73
  · rw [if_pos h, if_pos h]; clear h0 h1 h2 h3 h4 h6 h7 h8 g1 g2 g3; split <;> omega
  rw [if_neg h, if_neg h]
  by_cases h : f = 72
  · rw [if_pos h, if_pos h]; clear h0 h1 h2 h3 h4 h5 h7 h8 g1 g2 g3; omega
  rw [if_neg h, if_neg h]
  by_cases h : f = 83
  · rw [if_pos h, if_pos h]; clear h0 h1 h2 h3 h4 h5 h6 g1 g2 g3; split <;> omega
  rw [if_neg h, if_neg h]
  by_cases h : f = 66
  · rw [if_pos h, if_pos h]; clear h0 h2 h3 h4 h5 h6 h7 h8; omega
  rw [if_neg h, if_neg h]
  omega
theorem immN_u32 (f : Int) (w : Nat) : IntKind.wrap .u32 (immF f w) = (immN f w : Int) := by
  obtain ⟨h, h1 | h1⟩ := immN_at f w
  · rw [wu32n (by omega)]; exact h1.2
  · rw [h1.2]; exact w32u' h
theorem mvP {n : Int} {w : Nat} (hw : w < 4294967296) (h : (n < 0 ∧ n + 4294967296 = (w : Int)) ∨ (0 ≤ n ∧ n = (w : Int))) {a b c : Int} {p q r : Nat} (ha : 0 ≤ a ∧ a ≤ b ∧ b < 32) (hc : 0 ≤ c ∧ c + (b - a + 1) ≤ 32)
    (hp : 2 ^ a.toNat = p) (hq : 2 ^ (b - a + 1).toNat = q) (hr : 2 ^ c.toNat = r) : ref02_move n a b c = some ((w / p % q * r : Nat) : Int) := by
  subst hp hq hr
  exact move_eq hw h ha hc
end Go.Proofs.YtcmncppbonaaeaaGreatDoor
