/- Plain laws of layer 7 (lex): what the models of its functions compute. No program is in sight here. -/
import Derived.Test.YtbahdeehffokcaaM
import Derived.Test.YtbahdeehffokcaaLoop
set_option linter.unusedVariables false
namespace Go.Proofs.Ytbahdeehffokcaa

theorem awake_eq : law07_awake = some true := by kernel_rfl
theorem bnd {α β : Type} {m : Option α} {x : α} {f : α → Option β} {X : Option β} (h : m = some x) (k : f x = X) : m.bind f = X := by subst h; exact k
theorem exb {α β : Type} {m : Option α} {x : α} {f : α → Option β} {p : β → Prop} (h : m = some x) (k : ∃ y, f x = some y ∧ p y) : ∃ y, m.bind f = some y ∧ p y := by subst h; exact k
def letB (n : Int) : Bool := (decide (97 ≤ n) && decide (n ≤ 122)) || (decide (65 ≤ n) && decide (n ≤ 90)) || n == 95
def digB (n : Int) : Bool := decide (48 ≤ n) && decide (n ≤ 57)
def moreB (c : UInt8) : Bool := letB (c.toNat : Int) || digB (c.toNat : Int)
theorem letter_eq (n : Int) : lex_letter n = some (letB n) := by
  unfold lex_letter letB
  cases decide (97 ≤ n) <;> cases decide (n ≤ 122) <;> cases decide (65 ≤ n) <;> cases decide (n ≤ 90) <;> rfl
theorem rLetter_eq (n : Int) : ref07_Letter n = some (letB n) := letter_eq n
theorem digit_eq (n : Int) : lex_digit n = some (digB n) := by
  unfold lex_digit digB
  cases decide (48 ≤ n) <;> rfl
theorem rDigit_eq (n : Int) : ref07_Digit n = some (digB n) := digit_eq n
theorem more_eq (c : UInt8) : lex_more (c.toNat : Int) = some (moreB c) := by
  unfold lex_more moreB
  rw [letter_eq, Option.bind_some]
  cases letB (c.toNat : Int) with
  | true => rfl
  | false => rw [cond_false, digit_eq]; rfl
/-- How many first elements are so. -/
def sp (p : UInt8 → Bool) : List UInt8 → Nat
  | [] => 0
  | x :: l => if p x then sp p l + 1 else 0
theorem sp_le (p : UInt8 → Bool) : ∀ l, sp p l ≤ l.length
  | [] => Nat.le_refl _
  | x :: l => by
    have := sp_le p l
    unfold sp
    split
    · simp; omega
    · omega
theorem sp_get (p : UInt8 → Bool) : ∀ (l : List UInt8) (k : Nat) (h : k < sp p l), p (l[k]'(Nat.lt_of_lt_of_le h (sp_le p l))) = true
  | [], k, h => by simp [sp] at h
  | x :: l, 0, h => by
    unfold sp at h
    split at h
    · assumption
    · omega
  | x :: l, k + 1, h => by
    have h' := h
    unfold sp at h'
    split at h'
    · simpa using sp_get p l k (by omega)
    · omega
theorem sp_stop (p : UInt8 → Bool) : ∀ (l : List UInt8) (h : sp p l < l.length), p l[sp p l] = false
  | [], h => by simp at h
  | x :: l, h => by
    by_cases hx : p x = true
    · have e : sp p (x :: l) = sp p l + 1 := by show (if p x then sp p l + 1 else 0) = _; rw [if_pos hx]
      have h2 : sp p l < l.length := by rw [e] at h; simp at h; omega
      have := sp_stop p l h2
      simp only [e, List.getElem_cons_succ]
      exact this
    · have e : sp p (x :: l) = 0 := by show (if p x then sp p l + 1 else 0) = _; rw [if_neg hx]
      simp only [e, List.getElem_cons_zero]
      simpa using hx
theorem sp_loop (p : UInt8 → Bool) (l : List UInt8) (hl : l.length < 4611686018427387904) {body : Int → Option (Lp Int Unit)} {A : Type} {K : Lp Int Unit → Option A} {X : Option A}
    (h1 : ∀ k (h : k < l.length), body (k : Int) = some (bif p l[k] then .go (IntKind.wrap .i64 ((k : Int) + 1)) else .brk (k : Int))) (h2 : body (l.length : Int) = some (.brk (l.length : Int)))
    (hX : K (.brk ((sp p l : Nat) : Int)) = X) : (loopM body NN 0).bind K = X := by
  have hle := sp_le p l
  refine run_bind (fun k => (k : Int)) (sp p l) (.brk ((sp p l : Nat) : Int)) rfl (by omega) (fun k hk => ?_) ?_ trivial hX
  · rw [h1 k (by omega), sp_get p l k hk, cond_true, w64 (by omega)]
    congr 2
  · by_cases h : sp p l < l.length
    · rw [h1 _ h, sp_stop p l h, cond_false]
    · rw [show sp p l = l.length by omega]
      exact h2
theorem span2_eq (l : List UInt8) (hl : l.length < 4611686018427387904) : lex_span_2 l = some ((sp moreB l : Nat) : Int) := by
  unfold lex_span_2
  refine sp_loop moreB l hl (fun k hk => ?_) (by rw [c0 (dge _)]) rfl
  rw [c1 (dlt hk), idx_get hk, Option.bind_some, more_eq, Option.bind_some]
  cases moreB l[k] <;> rfl
theorem rrun_eq (l : List UInt8) (hl : l.length < 4611686018427387904) : ref07_run l 0 = some ((sp moreB l : Nat) : Int) := by
  unfold ref07_run
  refine sp_loop moreB l hl (fun k hk => ?_) (by rw [w64 (by omega), c0 (by simp)]) rfl
  rw [w64 (x := 0 + (k : Int)) (by omega), Int.zero_add, c1 (dlt hk), idx_get hk, Option.bind_some, rLetter_eq, Option.bind_some]
  unfold moreB
  cases letB (l[k].toNat : Int) with
  | true => rfl
  | false =>
    rw [cond_false, Option.bind_some, rDigit_eq, Option.bind_some]
    cases digB (l[k].toNat : Int) <;> rfl
def words : List (List UInt8) := [([98, 114, 101, 97, 107] : List UInt8), ([99, 97, 115, 101] : List UInt8), ([99, 104, 97, 114] : List UInt8), ([99, 111, 110, 116, 105, 110, 117, 101] : List UInt8), ([100, 101, 102, 97, 117, 108, 116] : List UInt8), ([100, 111] : List UInt8), ([101, 108, 115, 101] : List UInt8), ([102, 111, 114] : List UInt8), ([105, 102] : List UInt8), ([105, 110] : List UInt8), ([105, 110, 116] : List UInt8), ([111, 117, 116] : List UInt8), ([114, 101, 116, 117, 114, 110] : List UInt8), ([115, 105, 122, 101, 111, 102] : List UInt8), ([115, 116, 114, 117, 99, 116] : List UInt8), ([115, 119, 105, 116, 99, 104] : List UInt8), ([118, 111, 105, 100] : List UInt8), ([119, 104, 105, 108, 101] : List UInt8)]
def wordB (p : List UInt8) : Bool := words.any fun w => decide (p = w)
theorem wd1 (b : Bool) (X : Option Bool) : (bif b then (bif b then some true else some false) else X) = bif b then some true else X := by cases b <;> rfl
theorem wd2 (b x : Bool) : (bif b then some true else some x) = some (b || x) := by cases b <;> rfl
theorem wd3 (b : Bool) : (bif b then some true else some false) = some b := by cases b <;> rfl
theorem wd4 (b x : Bool) : (bif b then some b else some x) = some (b || x) := by cases b <;> rfl
theorem Word_eq (p : List UInt8) : lex_Word p = some (wordB p) := by
  unfold lex_Word wordB words
  simp only [jn, wd1, wd3, wd4, List.any_cons, List.any_nil, Bool.or_false]
theorem rWord_eq (p : List UInt8) : ref07_Word p = some (wordB p) := by
  unfold ref07_Word
  refine find_bind words (fun w => decide (w = p)) (fun _ => true) (by decide) (fun k hk => ?_) (by rfl) ?_
  · show (bif decide ((k : Int) < (words.length : Int)) then _ else _) = _
    rw [c1 (dlt hk)]
    refine bnd (x := words[k]) (idx_get hk) ?_
    cases decide (words[k] = p) <;> rfl
  · unfold wordB
    have : (words.any fun w => decide (p = w)) = (words.findIdx? fun w => decide (w = p)).isSome := by
      rw [List.findIdx?_isSome]
      congr 1
      funext w
      exact decide_eq_decide.2 eq_comm
    rw [this]
    cases words.findIdx? _ <;> rfl
theorem LexNames_law (s : List UInt8) : law07_LexNames s = some true := by
  unfold law07_LexNames
  by_cases h : 300 < s.length
  · rw [c1 (dt (by omega)), awake_eq]; rfl
  rw [c0 (df (by omega)), awake_eq, Option.bind_some, cond_true, Word_eq, Option.bind_some, rWord_eq, Option.bind_some, c1 (by simp)]
  unfold lex_Name lex_lettered ref07_Name
  cases s with
  | nil => rfl
  | cons c l =>
    have h0 : (c :: l).length = l.length + 1 := rfl
    have hi : idx (c :: l) 0 = some c := rfl
    rw [c1 (b := !decide (c :: l = [])) (by simp), hi, Option.bind_some, letter_eq, Option.bind_some, c1 (b := decide ((1 : Int) ≤ _)) (dt (by omega)), Option.bind_some, rLetter_eq, Option.bind_some]
    cases hl : letB (c.toNat : Int) with
    | false =>
      simp only [cond_false, Option.bind_some]
      by_cases h31 : ((c :: l).length : Int) ≤ 31
      · rw [c1 (dt h31)]; rfl
      · rw [c0 (df h31)]; rfl
    | true =>
      simp only [cond_true]
      rw [span2_eq _ (by omega), Option.bind_some, rrun_eq _ (by omega), Option.bind_some, Option.bind_some, Word_eq, Option.bind_some, rWord_eq, Option.bind_some]
      cases (((sp moreB (c :: l) : Nat) : Int) == ((c :: l).length : Int)) with
      | false =>
        simp only [cond_false, Option.bind_some]
        by_cases h31 : ((c :: l).length : Int) ≤ 31
        · rw [c1 (dt h31)]; rfl
        · rw [c0 (df h31)]; rfl
      | true =>
        simp only [cond_true]
        by_cases h31 : ((c :: l).length : Int) ≤ 31
        · rw [c1 (dt h31), dt h31]
          cases wordB (c :: l) <;> rfl
        · rw [c0 (df h31), df h31]
          cases wordB (c :: l) <;> rfl
theorem LexLong_law (by_ : Int) (hb : -9223372036854775808 ≤ by_ ∧ by_ < 9223372036854775808) : law07_LexLong by_ = some true := by
  unfold law07_LexLong
  have h1 : -1000 < Int.tmod by_ 1000 ∧ Int.tmod by_ 1000 < 1000 := by
    refine ⟨?_, Int.tmod_lt_of_pos _ (by omega)⟩
    have := Int.tmod_lt_of_pos (-by_) (show (0 : Int) < 1000 by omega)
    rw [Int.neg_tmod] at this
    omega
  rw [w64 (x := Int.tmod by_ 1000 + 1000) (by omega)]
  have h2 := Int.tmod_lt_of_pos (Int.tmod by_ 1000 + 1000) (show (0 : Int) < 1000 by omega)
  have h3 : 0 ≤ Int.tmod (Int.tmod by_ 1000 + 1000) 1000 := Int.tmod_nonneg _ (by omega)
  generalize Int.tmod (Int.tmod by_ 1000 + 1000) 1000 = n at h2 h3 ⊢
  rw [w64 (x := 1 + n) (by omega), w64 (x := 65536 + (1 + n)) (by omega)]
  refine bnd (x := List.replicate (65536 + (1 + n)).toNat 0) (by unfold repl; rw [if_pos (by omega)]) ?_
  refine bnd (x := ([], ⟨1, 1⟩, 2)) ?_ ?_
  · unfold lex_Lex
    rw [c1 (dt (by simp [bytesStr]; omega))]
  · rw [awake_eq]; rfl
end Go.Proofs.Ytbahdeehffokcaa
