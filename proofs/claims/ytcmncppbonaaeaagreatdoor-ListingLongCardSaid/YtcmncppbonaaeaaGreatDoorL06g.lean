/- Plain laws on words as instructions: the program decodes as the reference does, and encodes what it decoded. No program is in sight here. -/
import Derived.Test.YtcmncppbonaaeaaGreatDoorL06f
set_option linter.unusedVariables false
namespace Go.Proofs.YtcmncppbonaaeaaGreatDoor

theorem w64_2 {a b : Int} (ha : 0 ≤ a ∧ a ≤ 4294967296) (hb : 0 ≤ b ∧ b ≤ 4294967296) : IntKind.wrap .i64 (a + b) = a + b := w64 (by omega)
theorem w64_4 {a b c d : Int} (ha : 0 ≤ a ∧ a ≤ 4294967296) (hb : 0 ≤ b ∧ b ≤ 4294967296) (hc : 0 ≤ c ∧ c ≤ 4294967296) (hd : 0 ≤ d ∧ d ≤ 4294967296) :
    IntKind.wrap .i64 (IntKind.wrap .i64 (IntKind.wrap .i64 (a + b) + c) + d) = a + b + c + d := by
  rw [w64 (x := a + b) (by omega), w64 (x := a + b + c) (by omega), w64 (by omega)]
theorem Spread_eq {w : Nat} {o : Int} (hf : formOf o ≠ 0) : ref02_Spread (formOf o) (immF (formOf o) w) = some ((sprN (formOf o) w : Nat) : Int) := by
  obtain ⟨hN, hA⟩ := immN_at (formOf o) w
  have mv := fun {a b c : Int} {p q r : Nat} ha hc hp hq hr => mvP hN hA (a := a) (b := b) (c := c) (p := p) (q := q) (r := r) ha hc hp hq hr
  clear hN hA
  unfold ref02_Spread sprN
  unfold immN at mv
  generalize immF (formOf o) w = n at mv ⊢
  obtain ⟨x0, e0, h0⟩ := fN w 4096 1048576 (by decide)
  obtain ⟨x1, e1, h1⟩ := fN w 2147483648 2 (by decide)
  obtain ⟨x2, e2, h2⟩ := fN w 2097152 1024 (by decide)
  obtain ⟨x3, e3, h3⟩ := fN w 1048576 2 (by decide)
  obtain ⟨x4, e4, h4⟩ := fN w 4096 256 (by decide)
  obtain ⟨x5, e5, h5⟩ := fN w 1048576 4096 (by decide)
  obtain ⟨x6, e6, h6⟩ := fN w 1048576 32 (by decide)
  obtain ⟨x7, e7, h7⟩ := fN w 33554432 128 (by decide)
  obtain ⟨x8, e8, h8⟩ := fN w 128 32 (by decide)
  obtain ⟨y1, f1, g1⟩ := fN w 33554432 64 (by decide)
  obtain ⟨y2, f2, g2⟩ := fN w 256 16 (by decide)
  obtain ⟨y3, f3, g3⟩ := fN w 128 2 (by decide)
  rw [e0, e1, e2, e3, e4, e5, e6, e7, e8, f1, f2, f3]
  simp only [e0, e1, e2, e3, e4, e5, e6, e7, e8, f1, f2, f3] at mv
  clear e0 e1 e2 e3 e4 e5 e6 e7 e8 f1 f2 f3
  have cf : ∀ {a b : Int} {A : Type} {x y : A}, a ≠ b → (bif a == b then x else y) = y := fun h => c0 (by simpa using h)
  have ct : ∀ {a : Int} {A : Type} {x y : A}, (bif a == a then x else y) = x := c1 (by simp)
  generalize formOf o = f at *
  by_cases h : f = 85
  · subst h
    simp only [if_true] at mv ⊢
    rw [ct, mv (a := 12) (b := 31) (c := 12) (p := 4096) (q := 1048576) (r := 4096) (by decide) (by decide) (by decide) (by decide) (by decide), Option.bind_some]
    clear mv cf ct
    refine congrArg (fun z : Nat => some (z : Int)) ?_
    omega
  rw [if_neg h, cf h]; simp only [if_neg h] at mv
  by_cases h : f = 74
  · subst h
    simp only [if_true] at mv ⊢
    rw [ct, mv (a := 20) (b := 20) (c := 31) (p := 1048576) (q := 2) (r := 2147483648) (by decide) (by decide) (by decide) (by decide) (by decide), Option.bind_some,
      mv (a := 1) (b := 10) (c := 21) (p := 2) (q := 1024) (r := 2097152) (by decide) (by decide) (by decide) (by decide) (by decide), Option.bind_some,
      mv (a := 11) (b := 11) (c := 20) (p := 2048) (q := 2) (r := 1048576) (by decide) (by decide) (by decide) (by decide) (by decide), Option.bind_some,
      mv (a := 12) (b := 19) (c := 12) (p := 4096) (q := 256) (r := 4096) (by decide) (by decide) (by decide) (by decide) (by decide), Option.bind_some]
    clear mv cf ct
    have q0 : (x2 * 2 + x3 * 2048 + x4 * 4096 + x1 * 4293918720) / 1048576 % 2 = x1 := by omega
    have q1 : (x2 * 2 + x3 * 2048 + x4 * 4096 + x1 * 4293918720) / 2 % 1024 = x2 := by omega
    have q2 : (x2 * 2 + x3 * 2048 + x4 * 4096 + x1 * 4293918720) / 2048 % 2 = x3 := by omega
    have q3 : (x2 * 2 + x3 * 2048 + x4 * 4096 + x1 * 4293918720) / 4096 % 256 = x4 := by omega
    simp only [q0, q1, q2, q3]
    exact congrArg some ((w64_4 (by omega) (by omega) (by omega) (by omega)).trans (by omega))
  rw [if_neg h, cf h]; simp only [if_neg h] at mv
  by_cases h : f = 73
  · subst h
    simp only [if_true] at mv ⊢
    rw [ct, mv (a := 0) (b := 11) (c := 20) (p := 1) (q := 4096) (r := 1048576) (by decide) (by decide) (by decide) (by decide) (by decide), Option.bind_some]
    clear mv cf ct
    refine congrArg (fun z : Nat => some (z : Int)) ?_
    split <;> omega
  rw [if_neg h, cf h]; simp only [if_neg h] at mv
  by_cases h : f = 72
  · subst h
    simp only [if_true] at mv ⊢
    rw [ct, mv (a := 0) (b := 4) (c := 20) (p := 1) (q := 32) (r := 1048576) (by decide) (by decide) (by decide) (by decide) (by decide), Option.bind_some]
    clear mv cf ct
    refine congrArg (fun z : Nat => some (z : Int)) ?_
    omega
  rw [if_neg h, cf h]; simp only [if_neg h] at mv
  by_cases h : f = 83
  · subst h
    simp only [if_true] at mv ⊢
    rw [ct, mv (a := 0) (b := 4) (c := 7) (p := 1) (q := 32) (r := 128) (by decide) (by decide) (by decide) (by decide) (by decide), Option.bind_some,
      mv (a := 5) (b := 11) (c := 25) (p := 32) (q := 128) (r := 33554432) (by decide) (by decide) (by decide) (by decide) (by decide), Option.bind_some]
    clear mv cf ct
    have z1 : (if 64 ≤ x7 then x7 * 32 + x8 + 4294963200 else x7 * 32 + x8) / 1 % 32 = x8 := by split <;> omega
    have z2 : (if 64 ≤ x7 then x7 * 32 + x8 + 4294963200 else x7 * 32 + x8) / 32 % 128 = x7 := by split <;> omega
    simp only [z1, z2]
    exact congrArg some ((w64_2 (by omega) (by omega)).trans (by omega))
  rw [if_neg h, cf h]; simp only [if_neg h] at mv
  by_cases h : f = 66
  · subst h
    simp only [if_true] at mv ⊢
    rw [ct, mv (a := 12) (b := 12) (c := 31) (p := 4096) (q := 2) (r := 2147483648) (by decide) (by decide) (by decide) (by decide) (by decide), Option.bind_some,
      mv (a := 5) (b := 10) (c := 25) (p := 32) (q := 64) (r := 33554432) (by decide) (by decide) (by decide) (by decide) (by decide), Option.bind_some,
      mv (a := 1) (b := 4) (c := 8) (p := 2) (q := 16) (r := 256) (by decide) (by decide) (by decide) (by decide) (by decide), Option.bind_some,
      mv (a := 11) (b := 11) (c := 7) (p := 2048) (q := 2) (r := 128) (by decide) (by decide) (by decide) (by decide) (by decide), Option.bind_some]
    clear mv cf ct
    have q0 : (y1 * 32 + y2 * 2 + y3 * 2048 + x1 * 4294963200) / 4096 % 2 = x1 := by omega
    have q1 : (y1 * 32 + y2 * 2 + y3 * 2048 + x1 * 4294963200) / 32 % 64 = y1 := by omega
    have q2 : (y1 * 32 + y2 * 2 + y3 * 2048 + x1 * 4294963200) / 2 % 16 = y2 := by omega
    have q3 : (y1 * 32 + y2 * 2 + y3 * 2048 + x1 * 4294963200) / 2048 % 2 = y3 := by omega
    simp only [q0, q1, q2, q3]
    exact congrArg some ((w64_4 (by omega) (by omega) (by omega) (by omega)).trans (by omega))
  rw [if_neg h, cf h]
  rfl
theorem dcmp82 {w : Nat} (hw : w < 4294967296) : w = w % 128 + w / 128 % 32 * 128 + w / 4096 % 8 * 4096 + w / 32768 % 32 * 32768 + w / 1048576 % 32 * 1048576 + w / 33554432 % 128 * 33554432 := by
  have h1 : w / 128 = w / 128 % 32 + w / 4096 * 32 := by omega
  have h2 : w / 4096 = w / 4096 % 8 + w / 32768 * 8 := by omega
  have h3 : w / 32768 = w / 32768 % 32 + w / 1048576 * 32 := by omega
  have h4 : w / 1048576 = w / 1048576 % 32 + w / 33554432 * 32 := by omega
  have hl : w / 33554432 % 128 = w / 33554432 := by omega
  have h0 : w = w % 128 + w / 128 * 128 := by omega
  rw [hl]
  generalize w % 128 = x0 at *
  generalize w / 128 % 32 = x1 at *
  generalize w / 4096 % 8 = x2 at *
  generalize w / 32768 % 32 = x3 at *
  generalize w / 1048576 % 32 = x4 at *
  generalize w / 33554432 = y5 at *
  generalize w / 128 = y1 at *
  generalize w / 4096 = y2 at *
  generalize w / 32768 = y3 at *
  generalize w / 1048576 = y4 at *
  omega
theorem dcmp72 {w : Nat} (hw : w < 4294967296) : w = w % 128 + w / 128 % 32 * 128 + w / 4096 % 8 * 4096 + w / 32768 % 32 * 32768 + w / 1048576 % 32 * 1048576 + w / 33554432 % 128 * 33554432 := by
  have h1 : w / 128 = w / 128 % 32 + w / 4096 * 32 := by omega
  have h2 : w / 4096 = w / 4096 % 8 + w / 32768 * 8 := by omega
  have h3 : w / 32768 = w / 32768 % 32 + w / 1048576 * 32 := by omega
  have h4 : w / 1048576 = w / 1048576 % 32 + w / 33554432 * 32 := by omega
  have hl : w / 33554432 % 128 = w / 33554432 := by omega
  have h0 : w = w % 128 + w / 128 * 128 := by omega
  rw [hl]
  generalize w % 128 = x0 at *
  generalize w / 128 % 32 = x1 at *
  generalize w / 4096 % 8 = x2 at *
  generalize w / 32768 % 32 = x3 at *
  generalize w / 1048576 % 32 = x4 at *
  generalize w / 33554432 = y5 at *
  generalize w / 128 = y1 at *
  generalize w / 4096 = y2 at *
  generalize w / 32768 = y3 at *
  generalize w / 1048576 = y4 at *
  omega
theorem dcmp85 {w : Nat} (hw : w < 4294967296) : w = w % 128 + w / 128 % 32 * 128 + w / 4096 % 1048576 * 4096 := by
  have h1 : w / 128 = w / 128 % 32 + w / 4096 * 32 := by omega
  have hl : w / 4096 % 1048576 = w / 4096 := by omega
  have h0 : w = w % 128 + w / 128 * 128 := by omega
  rw [hl]
  generalize w % 128 = x0 at *
  generalize w / 128 % 32 = x1 at *
  generalize w / 4096 = y2 at *
  generalize w / 128 = y1 at *
  omega
theorem dcmp74 {w : Nat} (hw : w < 4294967296) : w = w % 128 + w / 128 % 32 * 128 + w / 4096 % 256 * 4096 + w / 1048576 % 2 * 1048576 + w / 2097152 % 1024 * 2097152 + w / 2147483648 % 2 * 2147483648 := by
  have h1 : w / 128 = w / 128 % 32 + w / 4096 * 32 := by omega
  have h2 : w / 4096 = w / 4096 % 256 + w / 1048576 * 256 := by omega
  have h3 : w / 1048576 = w / 1048576 % 2 + w / 2097152 * 2 := by omega
  have h4 : w / 2097152 = w / 2097152 % 1024 + w / 2147483648 * 1024 := by omega
  have hl : w / 2147483648 % 2 = w / 2147483648 := by omega
  have h0 : w = w % 128 + w / 128 * 128 := by omega
  rw [hl]
  generalize w % 128 = x0 at *
  generalize w / 128 % 32 = x1 at *
  generalize w / 4096 % 256 = x2 at *
  generalize w / 1048576 % 2 = x3 at *
  generalize w / 2097152 % 1024 = x4 at *
  generalize w / 2147483648 = y5 at *
  generalize w / 128 = y1 at *
  generalize w / 4096 = y2 at *
  generalize w / 1048576 = y3 at *
  generalize w / 2097152 = y4 at *
  omega
theorem dcmp66 {w : Nat} (hw : w < 4294967296) : w = w % 128 + w / 128 % 2 * 128 + w / 256 % 16 * 256 + w / 4096 % 8 * 4096 + w / 32768 % 32 * 32768 + w / 1048576 % 32 * 1048576 + w / 33554432 % 64 * 33554432 + w / 2147483648 % 2 * 2147483648 := by
  have h1 : w / 128 = w / 128 % 2 + w / 256 * 2 := by omega
  have h2 : w / 256 = w / 256 % 16 + w / 4096 * 16 := by omega
  have h3 : w / 4096 = w / 4096 % 8 + w / 32768 * 8 := by omega
  have h4 : w / 32768 = w / 32768 % 32 + w / 1048576 * 32 := by omega
  have h5 : w / 1048576 = w / 1048576 % 32 + w / 33554432 * 32 := by omega
  have h6 : w / 33554432 = w / 33554432 % 64 + w / 2147483648 * 64 := by omega
  have hl : w / 2147483648 % 2 = w / 2147483648 := by omega
  have h0 : w = w % 128 + w / 128 * 128 := by omega
  rw [hl]
  generalize w % 128 = x0 at *
  generalize w / 128 % 2 = x1 at *
  generalize w / 256 % 16 = x2 at *
  generalize w / 4096 % 8 = x3 at *
  generalize w / 32768 % 32 = x4 at *
  generalize w / 1048576 % 32 = x5 at *
  generalize w / 33554432 % 64 = x6 at *
  generalize w / 2147483648 = y7 at *
  generalize w / 128 = y1 at *
  generalize w / 256 = y2 at *
  generalize w / 4096 = y3 at *
  generalize w / 32768 = y4 at *
  generalize w / 1048576 = y5 at *
  generalize w / 33554432 = y6 at *
  omega
theorem dcmp83 {w : Nat} (hw : w < 4294967296) : w = w % 128 + w / 128 % 32 * 128 + w / 4096 % 8 * 4096 + w / 32768 % 32 * 32768 + w / 1048576 % 32 * 1048576 + w / 33554432 % 128 * 33554432 := by
  have h1 : w / 128 = w / 128 % 32 + w / 4096 * 32 := by omega
  have h2 : w / 4096 = w / 4096 % 8 + w / 32768 * 8 := by omega
  have h3 : w / 32768 = w / 32768 % 32 + w / 1048576 * 32 := by omega
  have h4 : w / 1048576 = w / 1048576 % 32 + w / 33554432 * 32 := by omega
  have hl : w / 33554432 % 128 = w / 33554432 := by omega
  have h0 : w = w % 128 + w / 128 * 128 := by omega
  rw [hl]
  generalize w % 128 = x0 at *
  generalize w / 128 % 32 = x1 at *
  generalize w / 4096 % 8 = x2 at *
  generalize w / 32768 % 32 = x3 at *
  generalize w / 1048576 % 32 = x4 at *
  generalize w / 33554432 = y5 at *
  generalize w / 128 = y1 at *
  generalize w / 4096 = y2 at *
  generalize w / 32768 = y3 at *
  generalize w / 1048576 = y4 at *
  omega
theorem dcmp73 {w : Nat} (hw : w < 4294967296) : w = w % 128 + w / 128 % 32 * 128 + w / 4096 % 8 * 4096 + w / 32768 % 32 * 32768 + w / 1048576 % 4096 * 1048576 := by
  have h1 : w / 128 = w / 128 % 32 + w / 4096 * 32 := by omega
  have h2 : w / 4096 = w / 4096 % 8 + w / 32768 * 8 := by omega
  have h3 : w / 32768 = w / 32768 % 32 + w / 1048576 * 32 := by omega
  have hl : w / 1048576 % 4096 = w / 1048576 := by omega
  have h0 : w = w % 128 + w / 128 * 128 := by omega
  rw [hl]
  generalize w % 128 = x0 at *
  generalize w / 128 % 32 = x1 at *
  generalize w / 4096 % 8 = x2 at *
  generalize w / 32768 % 32 = x3 at *
  generalize w / 1048576 = y4 at *
  generalize w / 128 = y1 at *
  generalize w / 4096 = y2 at *
  generalize w / 32768 = y3 at *
  omega
theorem sum82 {w c t s : Nat} (hw : w < 4294967296) (hc : c < 128) (ht : t < 8) (hs : s < 128) : c + w / 128 % 32 * 128 + t * 4096 + w / 32768 % 32 * 32768 + w / 1048576 % 32 * 1048576 + s * 33554432 + (0) < 4294967296 ∧ (c + w / 128 % 32 * 128 + t * 4096 + w / 32768 % 32 * 32768 + w / 1048576 % 32 * 1048576 + s * 33554432 + (0) = w ↔ w % 128 = c ∧ w / 4096 % 8 = t ∧ w / 33554432 % 128 = s) := by
  have hp := dcmp82 hw
  obtain ⟨x0, e0, g0⟩ := fN w 1 128 (by decide)
  rw [Nat.div_one] at e0
  obtain ⟨x1, e1, g1⟩ := fN w 128 32 (by decide)
  obtain ⟨x2, e2, g2⟩ := fN w 4096 8 (by decide)
  obtain ⟨x3, e3, g3⟩ := fN w 32768 32 (by decide)
  obtain ⟨x4, e4, g4⟩ := fN w 1048576 32 (by decide)
  obtain ⟨x5, e5, g5⟩ := fN w 33554432 128 (by decide)
  rw [e0, e1, e2, e3, e4, e5] at hp ⊢
  clear e0 e1 e2 e3 e4 e5
  omega
theorem sum72 {w c t s : Nat} (hw : w < 4294967296) (hc : c < 128) (ht : t < 8) (hs : s < 128) : c + w / 128 % 32 * 128 + t * 4096 + w / 32768 % 32 * 32768 + 0 * 1048576 + s * 33554432 + (w / 1048576 % 32 * 1048576) < 4294967296 ∧ (c + w / 128 % 32 * 128 + t * 4096 + w / 32768 % 32 * 32768 + 0 * 1048576 + s * 33554432 + (w / 1048576 % 32 * 1048576) = w ↔ w % 128 = c ∧ w / 4096 % 8 = t ∧ w / 33554432 % 128 = s) := by
  have hp := dcmp72 hw
  obtain ⟨x0, e0, g0⟩ := fN w 1 128 (by decide)
  rw [Nat.div_one] at e0
  obtain ⟨x1, e1, g1⟩ := fN w 128 32 (by decide)
  obtain ⟨x2, e2, g2⟩ := fN w 4096 8 (by decide)
  obtain ⟨x3, e3, g3⟩ := fN w 32768 32 (by decide)
  obtain ⟨x4, e4, g4⟩ := fN w 1048576 32 (by decide)
  obtain ⟨x5, e5, g5⟩ := fN w 33554432 128 (by decide)
  rw [e0, e1, e2, e3, e4, e5] at hp ⊢
  clear e0 e1 e2 e3 e4 e5
  omega
theorem sum85 {w c t s : Nat} (hw : w < 4294967296) (hc : c < 128) (ht : t < 8) (hs : s < 128) : c + w / 128 % 32 * 128 + 0 * 4096 + 0 * 32768 + 0 * 1048576 + 0 * 33554432 + (w / 4096 % 1048576 * 4096) < 4294967296 ∧ (c + w / 128 % 32 * 128 + 0 * 4096 + 0 * 32768 + 0 * 1048576 + 0 * 33554432 + (w / 4096 % 1048576 * 4096) = w ↔ w % 128 = c) := by
  have hp := dcmp85 hw
  obtain ⟨x0, e0, g0⟩ := fN w 1 128 (by decide)
  rw [Nat.div_one] at e0
  obtain ⟨x1, e1, g1⟩ := fN w 128 32 (by decide)
  obtain ⟨x2, e2, g2⟩ := fN w 4096 1048576 (by decide)
  rw [e0, e1, e2] at hp ⊢
  clear e0 e1 e2
  omega
theorem sum74 {w c t s : Nat} (hw : w < 4294967296) (hc : c < 128) (ht : t < 8) (hs : s < 128) : c + w / 128 % 32 * 128 + 0 * 4096 + 0 * 32768 + 0 * 1048576 + 0 * 33554432 + (w / 2147483648 % 2 * 2147483648 + w / 2097152 % 1024 * 2097152 + w / 1048576 % 2 * 1048576 + w / 4096 % 256 * 4096) < 4294967296 ∧ (c + w / 128 % 32 * 128 + 0 * 4096 + 0 * 32768 + 0 * 1048576 + 0 * 33554432 + (w / 2147483648 % 2 * 2147483648 + w / 2097152 % 1024 * 2097152 + w / 1048576 % 2 * 1048576 + w / 4096 % 256 * 4096) = w ↔ w % 128 = c) := by
  have hp := dcmp74 hw
  obtain ⟨x0, e0, g0⟩ := fN w 1 128 (by decide)
  rw [Nat.div_one] at e0
  obtain ⟨x1, e1, g1⟩ := fN w 128 32 (by decide)
  obtain ⟨x2, e2, g2⟩ := fN w 4096 256 (by decide)
  obtain ⟨x3, e3, g3⟩ := fN w 1048576 2 (by decide)
  obtain ⟨x4, e4, g4⟩ := fN w 2097152 1024 (by decide)
  obtain ⟨x5, e5, g5⟩ := fN w 2147483648 2 (by decide)
  rw [e0, e1, e2, e3, e4, e5] at hp ⊢
  clear e0 e1 e2 e3 e4 e5
  omega
theorem sum66 {w c t s : Nat} (hw : w < 4294967296) (hc : c < 128) (ht : t < 8) (hs : s < 128) : c + 0 * 128 + t * 4096 + w / 32768 % 32 * 32768 + w / 1048576 % 32 * 1048576 + 0 * 33554432 + (w / 2147483648 % 2 * 2147483648 + w / 33554432 % 64 * 33554432 + w / 256 % 16 * 256 + w / 128 % 2 * 128) < 4294967296 ∧ (c + 0 * 128 + t * 4096 + w / 32768 % 32 * 32768 + w / 1048576 % 32 * 1048576 + 0 * 33554432 + (w / 2147483648 % 2 * 2147483648 + w / 33554432 % 64 * 33554432 + w / 256 % 16 * 256 + w / 128 % 2 * 128) = w ↔ w % 128 = c ∧ w / 4096 % 8 = t) := by
  have hp := dcmp66 hw
  obtain ⟨x0, e0, g0⟩ := fN w 1 128 (by decide)
  rw [Nat.div_one] at e0
  obtain ⟨x1, e1, g1⟩ := fN w 128 2 (by decide)
  obtain ⟨x2, e2, g2⟩ := fN w 256 16 (by decide)
  obtain ⟨x3, e3, g3⟩ := fN w 4096 8 (by decide)
  obtain ⟨x4, e4, g4⟩ := fN w 32768 32 (by decide)
  obtain ⟨x5, e5, g5⟩ := fN w 1048576 32 (by decide)
  obtain ⟨x6, e6, g6⟩ := fN w 33554432 64 (by decide)
  obtain ⟨x7, e7, g7⟩ := fN w 2147483648 2 (by decide)
  rw [e0, e1, e2, e3, e4, e5, e6, e7] at hp ⊢
  clear e0 e1 e2 e3 e4 e5 e6 e7
  omega
theorem sum83 {w c t s : Nat} (hw : w < 4294967296) (hc : c < 128) (ht : t < 8) (hs : s < 128) : c + 0 * 128 + t * 4096 + w / 32768 % 32 * 32768 + w / 1048576 % 32 * 1048576 + 0 * 33554432 + (w / 128 % 32 * 128 + w / 33554432 % 128 * 33554432) < 4294967296 ∧ (c + 0 * 128 + t * 4096 + w / 32768 % 32 * 32768 + w / 1048576 % 32 * 1048576 + 0 * 33554432 + (w / 128 % 32 * 128 + w / 33554432 % 128 * 33554432) = w ↔ w % 128 = c ∧ w / 4096 % 8 = t) := by
  have hp := dcmp83 hw
  obtain ⟨x0, e0, g0⟩ := fN w 1 128 (by decide)
  rw [Nat.div_one] at e0
  obtain ⟨x1, e1, g1⟩ := fN w 128 32 (by decide)
  obtain ⟨x2, e2, g2⟩ := fN w 4096 8 (by decide)
  obtain ⟨x3, e3, g3⟩ := fN w 32768 32 (by decide)
  obtain ⟨x4, e4, g4⟩ := fN w 1048576 32 (by decide)
  obtain ⟨x5, e5, g5⟩ := fN w 33554432 128 (by decide)
  rw [e0, e1, e2, e3, e4, e5] at hp ⊢
  clear e0 e1 e2 e3 e4 e5
  omega
theorem sum73 {w c t s : Nat} (hw : w < 4294967296) (hc : c < 128) (ht : t < 8) (hs : s < 128) : c + w / 128 % 32 * 128 + t * 4096 + w / 32768 % 32 * 32768 + 0 * 1048576 + 0 * 33554432 + (w / 1048576 % 4096 * 1048576) < 4294967296 ∧ (c + w / 128 % 32 * 128 + t * 4096 + w / 32768 % 32 * 32768 + 0 * 1048576 + 0 * 33554432 + (w / 1048576 % 4096 * 1048576) = w ↔ w % 128 = c ∧ w / 4096 % 8 = t) := by
  have hp := dcmp73 hw
  obtain ⟨x0, e0, g0⟩ := fN w 1 128 (by decide)
  rw [Nat.div_one] at e0
  obtain ⟨x1, e1, g1⟩ := fN w 128 32 (by decide)
  obtain ⟨x2, e2, g2⟩ := fN w 4096 8 (by decide)
  obtain ⟨x3, e3, g3⟩ := fN w 32768 32 (by decide)
  obtain ⟨x4, e4, g4⟩ := fN w 1048576 4096 (by decide)
  rw [e0, e1, e2, e3, e4] at hp ⊢
  clear e0 e1 e2 e3 e4
  omega
theorem or82 {w : Nat} (hw : w < 4294967296) : (((w % 128 ||| w / 4096 % 8 * 4096) ||| w / 33554432 % 128 * 33554432) ||| ((w / 128 % 32 * 128 ||| w / 32768 % 32 * 32768) ||| w / 1048576 % 32 * 1048576)) ||| (0) = w := by
  have hp := dcmp82 hw
  obtain ⟨x0, e0, g0⟩ := fN w 1 128 (by decide)
  rw [Nat.div_one] at e0
  obtain ⟨x1, e1, g1⟩ := fN w 128 32 (by decide)
  obtain ⟨x2, e2, g2⟩ := fN w 4096 8 (by decide)
  obtain ⟨x3, e3, g3⟩ := fN w 32768 32 (by decide)
  obtain ⟨x4, e4, g4⟩ := fN w 1048576 32 (by decide)
  obtain ⟨x5, e5, g5⟩ := fN w 33554432 128 (by decide)
  rw [e0, e1, e2, e3, e4, e5] at hp
  rw [e0, e1, e2, e3, e4, e5]
  clear e0 e1 e2 e3 e4 e5
  simp only [Nat.zero_mul, Nat.or_zero, Nat.zero_or]
  have ha : (((x0 ||| x2 * 4096) ||| x5 * 33554432) ||| ((x1 * 128 ||| x3 * 32768) ||| x4 * 1048576)) = (((((x0 ||| x1 * 128) ||| x2 * 4096) ||| x3 * 32768) ||| x4 * 1048576) ||| x5 * 33554432) := by ac_rfl
  rw [ha]
  clear ha
  rw [orP' 7 rfl (by omega), orP' 12 rfl (by omega), orP' 15 rfl (by omega), orP' 20 rfl (by omega), orP' 25 rfl (by omega)]
  omega
theorem or72 {w : Nat} (hw : w < 4294967296) : (((w % 128 ||| w / 4096 % 8 * 4096) ||| w / 33554432 % 128 * 33554432) ||| ((w / 128 % 32 * 128 ||| w / 32768 % 32 * 32768) ||| 0 * 1048576)) ||| (w / 1048576 % 32 * 1048576) = w := by
  have hp := dcmp72 hw
  obtain ⟨x0, e0, g0⟩ := fN w 1 128 (by decide)
  rw [Nat.div_one] at e0
  obtain ⟨x1, e1, g1⟩ := fN w 128 32 (by decide)
  obtain ⟨x2, e2, g2⟩ := fN w 4096 8 (by decide)
  obtain ⟨x3, e3, g3⟩ := fN w 32768 32 (by decide)
  obtain ⟨x4, e4, g4⟩ := fN w 1048576 32 (by decide)
  obtain ⟨x5, e5, g5⟩ := fN w 33554432 128 (by decide)
  rw [e0, e1, e2, e3, e4, e5] at hp
  rw [e0, e1, e2, e3, e4, e5]
  clear e0 e1 e2 e3 e4 e5
  simp only [Nat.zero_mul, Nat.or_zero, Nat.zero_or]
  have ha : ((((x0 ||| x2 * 4096) ||| x5 * 33554432) ||| (x1 * 128 ||| x3 * 32768)) ||| (x4 * 1048576)) = (((((x0 ||| x1 * 128) ||| x2 * 4096) ||| x3 * 32768) ||| x4 * 1048576) ||| x5 * 33554432) := by ac_rfl
  rw [ha]
  clear ha
  rw [orP' 7 rfl (by omega), orP' 12 rfl (by omega), orP' 15 rfl (by omega), orP' 20 rfl (by omega), orP' 25 rfl (by omega)]
  omega
theorem or85 {w : Nat} (hw : w < 4294967296) : (((w % 128 ||| 0 * 4096) ||| 0 * 33554432) ||| ((w / 128 % 32 * 128 ||| 0 * 32768) ||| 0 * 1048576)) ||| (w / 4096 % 1048576 * 4096) = w := by
  have hp := dcmp85 hw
  obtain ⟨x0, e0, g0⟩ := fN w 1 128 (by decide)
  rw [Nat.div_one] at e0
  obtain ⟨x1, e1, g1⟩ := fN w 128 32 (by decide)
  obtain ⟨x2, e2, g2⟩ := fN w 4096 1048576 (by decide)
  rw [e0, e1, e2] at hp
  rw [e0, e1, e2]
  clear e0 e1 e2
  simp only [Nat.zero_mul, Nat.or_zero, Nat.zero_or]
  have ha : ((x0 ||| x1 * 128) ||| (x2 * 4096)) = ((x0 ||| x1 * 128) ||| x2 * 4096) := by ac_rfl
  rw [ha]
  clear ha
  rw [orP' 7 rfl (by omega), orP' 12 rfl (by omega)]
  omega
theorem or74 {w : Nat} (hw : w < 4294967296) : (((w % 128 ||| 0 * 4096) ||| 0 * 33554432) ||| ((w / 128 % 32 * 128 ||| 0 * 32768) ||| 0 * 1048576)) ||| (w / 2147483648 % 2 * 2147483648 ||| w / 2097152 % 1024 * 2097152 ||| w / 1048576 % 2 * 1048576 ||| w / 4096 % 256 * 4096) = w := by
  have hp := dcmp74 hw
  obtain ⟨x0, e0, g0⟩ := fN w 1 128 (by decide)
  rw [Nat.div_one] at e0
  obtain ⟨x1, e1, g1⟩ := fN w 128 32 (by decide)
  obtain ⟨x2, e2, g2⟩ := fN w 4096 256 (by decide)
  obtain ⟨x3, e3, g3⟩ := fN w 1048576 2 (by decide)
  obtain ⟨x4, e4, g4⟩ := fN w 2097152 1024 (by decide)
  obtain ⟨x5, e5, g5⟩ := fN w 2147483648 2 (by decide)
  rw [e0, e1, e2, e3, e4, e5] at hp
  rw [e0, e1, e2, e3, e4, e5]
  clear e0 e1 e2 e3 e4 e5
  simp only [Nat.zero_mul, Nat.or_zero, Nat.zero_or]
  have ha : ((x0 ||| x1 * 128) ||| (x5 * 2147483648 ||| x4 * 2097152 ||| x3 * 1048576 ||| x2 * 4096)) = (((((x0 ||| x1 * 128) ||| x2 * 4096) ||| x3 * 1048576) ||| x4 * 2097152) ||| x5 * 2147483648) := by ac_rfl
  rw [ha]
  clear ha
  rw [orP' 7 rfl (by omega), orP' 12 rfl (by omega), orP' 20 rfl (by omega), orP' 21 rfl (by omega), orP' 31 rfl (by omega)]
  omega
theorem or66 {w : Nat} (hw : w < 4294967296) : (((w % 128 ||| w / 4096 % 8 * 4096) ||| 0 * 33554432) ||| ((0 * 128 ||| w / 32768 % 32 * 32768) ||| w / 1048576 % 32 * 1048576)) ||| (w / 2147483648 % 2 * 2147483648 ||| w / 33554432 % 64 * 33554432 ||| w / 256 % 16 * 256 ||| w / 128 % 2 * 128) = w := by
  have hp := dcmp66 hw
  obtain ⟨x0, e0, g0⟩ := fN w 1 128 (by decide)
  rw [Nat.div_one] at e0
  obtain ⟨x1, e1, g1⟩ := fN w 128 2 (by decide)
  obtain ⟨x2, e2, g2⟩ := fN w 256 16 (by decide)
  obtain ⟨x3, e3, g3⟩ := fN w 4096 8 (by decide)
  obtain ⟨x4, e4, g4⟩ := fN w 32768 32 (by decide)
  obtain ⟨x5, e5, g5⟩ := fN w 1048576 32 (by decide)
  obtain ⟨x6, e6, g6⟩ := fN w 33554432 64 (by decide)
  obtain ⟨x7, e7, g7⟩ := fN w 2147483648 2 (by decide)
  rw [e0, e1, e2, e3, e4, e5, e6, e7] at hp
  rw [e0, e1, e2, e3, e4, e5, e6, e7]
  clear e0 e1 e2 e3 e4 e5 e6 e7
  simp only [Nat.zero_mul, Nat.or_zero, Nat.zero_or]
  have ha : (((x0 ||| x3 * 4096) ||| (x4 * 32768 ||| x5 * 1048576)) ||| (x7 * 2147483648 ||| x6 * 33554432 ||| x2 * 256 ||| x1 * 128)) = (((((((x0 ||| x1 * 128) ||| x2 * 256) ||| x3 * 4096) ||| x4 * 32768) ||| x5 * 1048576) ||| x6 * 33554432) ||| x7 * 2147483648) := by ac_rfl
  rw [ha]
  clear ha
  rw [orP' 7 rfl (by omega), orP' 8 rfl (by omega), orP' 12 rfl (by omega), orP' 15 rfl (by omega), orP' 20 rfl (by omega), orP' 25 rfl (by omega), orP' 31 rfl (by omega)]
  omega
theorem or83 {w : Nat} (hw : w < 4294967296) : (((w % 128 ||| w / 4096 % 8 * 4096) ||| 0 * 33554432) ||| ((0 * 128 ||| w / 32768 % 32 * 32768) ||| w / 1048576 % 32 * 1048576)) ||| (w / 33554432 % 128 * 33554432 ||| w / 128 % 32 * 128) = w := by
  have hp := dcmp83 hw
  obtain ⟨x0, e0, g0⟩ := fN w 1 128 (by decide)
  rw [Nat.div_one] at e0
  obtain ⟨x1, e1, g1⟩ := fN w 128 32 (by decide)
  obtain ⟨x2, e2, g2⟩ := fN w 4096 8 (by decide)
  obtain ⟨x3, e3, g3⟩ := fN w 32768 32 (by decide)
  obtain ⟨x4, e4, g4⟩ := fN w 1048576 32 (by decide)
  obtain ⟨x5, e5, g5⟩ := fN w 33554432 128 (by decide)
  rw [e0, e1, e2, e3, e4, e5] at hp
  rw [e0, e1, e2, e3, e4, e5]
  clear e0 e1 e2 e3 e4 e5
  simp only [Nat.zero_mul, Nat.or_zero, Nat.zero_or]
  have ha : (((x0 ||| x2 * 4096) ||| (x3 * 32768 ||| x4 * 1048576)) ||| (x5 * 33554432 ||| x1 * 128)) = (((((x0 ||| x1 * 128) ||| x2 * 4096) ||| x3 * 32768) ||| x4 * 1048576) ||| x5 * 33554432) := by ac_rfl
  rw [ha]
  clear ha
  rw [orP' 7 rfl (by omega), orP' 12 rfl (by omega), orP' 15 rfl (by omega), orP' 20 rfl (by omega), orP' 25 rfl (by omega)]
  omega
theorem or73 {w : Nat} (hw : w < 4294967296) : (((w % 128 ||| w / 4096 % 8 * 4096) ||| 0 * 33554432) ||| ((w / 128 % 32 * 128 ||| w / 32768 % 32 * 32768) ||| 0 * 1048576)) ||| (w / 1048576 % 4096 * 1048576) = w := by
  have hp := dcmp73 hw
  obtain ⟨x0, e0, g0⟩ := fN w 1 128 (by decide)
  rw [Nat.div_one] at e0
  obtain ⟨x1, e1, g1⟩ := fN w 128 32 (by decide)
  obtain ⟨x2, e2, g2⟩ := fN w 4096 8 (by decide)
  obtain ⟨x3, e3, g3⟩ := fN w 32768 32 (by decide)
  obtain ⟨x4, e4, g4⟩ := fN w 1048576 4096 (by decide)
  rw [e0, e1, e2, e3, e4] at hp
  rw [e0, e1, e2, e3, e4]
  clear e0 e1 e2 e3 e4
  simp only [Nat.zero_mul, Nat.or_zero, Nat.zero_or]
  have ha : (((x0 ||| x2 * 4096) ||| (x1 * 128 ||| x3 * 32768)) ||| (x4 * 1048576)) = ((((x0 ||| x1 * 128) ||| x2 * 4096) ||| x3 * 32768) ||| x4 * 1048576) := by ac_rfl
  rw [ha]
  clear ha
  rw [orP' 7 rfl (by omega), orP' 12 rfl (by omega), orP' 15 rfl (by omega), orP' 20 rfl (by omega)]
  omega
end Go.Proofs.YtcmncppbonaaeaaGreatDoor
