/- Plain laws of layer 29 (CompileNone): what an '@' behind a text changes. No program is in sight here. -/
import Derived.Test.YtokpeeflnijogaaGreatDoorL29a
import Derived.Lib.IndexMore
set_option linter.unusedVariables false
namespace Go.Proofs.YtokpeeflnijogaaGreatDoor

theorem pre64 {m s z : List UInt8} (hm : ∀ x ∈ m, x ≠ 64) (h : m <+: s ++ 64 :: z) : m <+: s := by
  by_cases hl : m.length ≤ s.length
  · exact List.prefix_of_prefix_length_le h (List.prefix_append s _) hl
  · exfalso
    obtain ⟨q, hq⟩ := h
    have hlt : s.length < m.length := by omega
    have h1 : (m ++ q)[s.length]? = m[s.length]? := List.getElem?_append_left hlt
    rw [hq, List.getElem?_append_right (Nat.le_refl _), Nat.sub_self, List.getElem?_eq_getElem hlt] at h1
    exact hm _ (List.getElem_mem hlt) (Option.some.inj h1).symm
theorem pre_iff {m s : List UInt8} (z : List UInt8) (hm : ∀ x ∈ m, x ≠ 64) : m <+: s ++ 64 :: z ↔ m <+: s := ⟨pre64 hm, fun h => h.trans (List.prefix_append s _)⟩
theorem sp_ext {p : UInt8 → Bool} (hp : p 64 = false) (z : List UInt8) : ∀ s, sp p (s ++ 64 :: z) = sp p s
  | [] => by show (if p 64 then _ else 0) = 0; rw [hp]; rfl
  | x :: s => by
    show (if p x then sp p (s ++ 64 :: z) + 1 else 0) = if p x then sp p s + 1 else 0
    rw [sp_ext hp z s]
theorem fi_congr {α : Type} {p q : α → Bool} : ∀ l : List α, (∀ m ∈ l, p m = q m) → l.findIdx? p = l.findIdx? q
  | [], _ => rfl
  | x :: l, h => by
    rw [List.findIdx?_cons, List.findIdx?_cons, h x (by simp), fi_congr l fun m hm => h m (by simp [hm])]
theorem marks64 : ∀ m ∈ marks, ∀ x ∈ m, x ≠ 64 := by decide +kernel
theorem mark_ext (s z : List UInt8) : markS (s ++ 64 :: z) = markS s := by
  unfold markS
  rw [fi_congr marks fun m hm => decide_eq_decide.2 (pre_iff z (marks64 m hm))]
theorem more64 : moreB 64 = false := by decide
theorem bl64 : blB 64 = false := by decide
theorem token_key (c : UInt8) (l' : List UInt8) : lex_token (c :: l') = (bif letB (c.toNat : Int) then ((lex_span_2 (c :: l')).bind fun y2 => (sub (c :: l') 0 y2).bind fun u2 => bif decide (31 < y2) then (some ((⟨1, u2, 0, (⟨0, 0⟩ : Pos)⟩ : GToken), (2 : Int))) else (jn (fun kk1 => (lex_Word u2).bind fun y3 => bif y3 then (kk1 (⟨2, u2, 0, (⟨0, 0⟩ : Pos)⟩ : GToken)) else (kk1 (⟨1, u2, 0, (⟨0, 0⟩ : Pos)⟩ : GToken))) (fun (x1 : GToken) => some (x1, (0 : Int))))) else (bif digB (c.toNat : Int) then ((lex_number (c :: l')).bind fun y5 => some (y5.1, y5.2)) else (bif (UInt8.toNat c : Int) == 39 then ((lex_char (c :: l')).bind fun y6 => some (y6.1, y6.2)) else ((lex_mark (c :: l')).bind fun y7 => bif decide (y7 = ([] : List UInt8)) then (some ((⟨0, ([] : List UInt8), 0, (⟨0, 0⟩ : Pos)⟩ : GToken), (3 : Int))) else (some ((⟨4, y7, 0, (⟨0, 0⟩ : Pos)⟩ : GToken), (0 : Int))))))) := by
  unfold lex_token
  rw [show idx (c :: l') 0 = some c from rfl]
  simp only [Option.bind_some, letter_eq, digit_eq]
/-- A token stays what it is. -/
theorem tok_ext {s : List UInt8} (hs : s ≠ []) (z : List UInt8) (hl : (s ++ 64 :: z).length ≤ 100000) {t : GToken} (h : lex_token s = some (t, 0)) : lex_token (s ++ 64 :: z) = some (t, 0) := by
  have hls : s.length ≤ 100000 := by simp at hl; omega
  obtain ⟨c, l, rfl⟩ : ∃ c l, s = c :: l := by
    cases s with
    | nil => exact absurd rfl hs
    | cons c l => exact ⟨c, l, rfl⟩
  have htk : ((c :: l) ++ 64 :: z).take (sp moreB (c :: l)) = (c :: l).take (sp moreB (c :: l)) := List.take_append_of_le_length (sp_le _ _)
  have hle := sp_le moreB (c :: l)
  rw [List.cons_append, token_key]
  rw [token_key] at h
  cases hlet : letB (c.toNat : Int) with
  | true =>
    rw [hlet, cond_true, span2_eq _ (by omega), Option.bind_some, sub_take hle, Option.bind_some] at h
    rw [cond_true, ← List.cons_append, span2_eq _ (by omega), Option.bind_some, sp_ext more64, sub_take (by rw [List.length_append]; omega), Option.bind_some, htk]
    exact h
  | false =>
    rw [hlet, cond_false] at h
    rw [cond_false]
    cases hdig : digB (c.toNat : Int) with
    | true =>
      rw [hdig, cond_true, number_eq _ hls] at h
      rw [cond_true, ← List.cons_append, number_eq _ hl, sp_ext more64, htk]
      exact h
    | false =>
      rw [hdig, cond_false] at h
      rw [cond_false]
      cases hq : ((c.toNat : Int) == 39) with
      | true =>
        rw [hq, cond_true] at h
        rw [cond_true]
        obtain ⟨⟨y, e⟩, hy, hp⟩ := char_spec (c :: l)
        rw [hy, Option.bind_some] at h
        cases h
        obtain ⟨⟨q, hq2⟩, _, _, _, p5⟩ := hp rfl
        have := p5 (q ++ 64 :: z)
        rw [← List.append_assoc, hq2, List.cons_append] at this
        rw [this]
        rfl
      | false =>
        rw [hq, cond_false, mark_eq, Option.bind_some] at h
        rw [cond_false, mark_eq, Option.bind_some, ← List.cons_append, mark_ext]
        exact h
theorem index_ext {u : List UInt8} (hu : u ≠ []) (z : List UInt8) : ∀ s, 0 ≤ Go.Lib.index s u → Go.Lib.index (s ++ z) u = Go.Lib.index s u
  | [], h => by
    unfold Go.Lib.index at h
    rw [if_neg (by simpa using hu)] at h
    omega
  | b :: l, h => by
    have hf := idx_fits (b :: l) u hu h
    have h0 := h
    rw [List.cons_append]
    unfold Go.Lib.index at h ⊢
    have e : u.isPrefixOf (b :: (l ++ z)) = u.isPrefixOf (b :: l) := by
      rw [Bool.eq_iff_iff, List.isPrefixOf_iff_prefix, List.isPrefixOf_iff_prefix, ← List.cons_append]
      exact ⟨fun hh => List.prefix_of_prefix_length_le hh (List.prefix_append _ _) (by omega), fun hh => hh.trans (List.prefix_append _ _)⟩
    rw [e]
    by_cases h1 : u.isPrefixOf (b :: l) = true
    · rw [if_pos h1, if_pos h1]
    · rw [if_neg h1] at h ⊢
      rw [if_neg h1]
      by_cases h2 : (Go.Lib.index l u == -1) = true
      · rw [if_pos h2] at h; omega
      · rw [index_ext hu z l (by have := Go.Lib.index_ge l u; have : Go.Lib.index l u ≠ -1 := by simpa using h2
                                 omega)]
theorem index_nl : ∀ s, Go.Lib.index s [10] < 0 → Go.Lib.index (s ++ [64]) [10] < 0
  | [], _ => by decide
  | b :: l, h => by
    rw [List.cons_append]
    unfold Go.Lib.index at h ⊢
    have e : ([10] : List UInt8).isPrefixOf (b :: (l ++ [64])) = ([10] : List UInt8).isPrefixOf (b :: l) := by simp [List.isPrefixOf]
    rw [e]
    by_cases h1 : ([10] : List UInt8).isPrefixOf (b :: l) = true
    · rw [if_pos h1] at h; omega
    · rw [if_neg h1] at h ⊢
      have hn : Go.Lib.index l [10] < 0 := by
        split at h
        · rename_i h2
          have : Go.Lib.index l [10] = -1 := by simpa using h2
          omega
        · omega
      have := index_nl l hn
      have hg := Go.Lib.index_ge (l ++ [64]) [10]
      rw [if_pos (by simp; omega)]
      omega
/-- Blanks stay, but for a remark that has no end. -/
theorem bl_ext {s : List UInt8} (hs : s ≠ []) (h : 0 ≤ blS s) : (∀ z, blS (s ++ 64 :: z) = blS s) ∨ (blS s = s.length ∧ blS (s ++ [64]) = s.length + 1) := by
  have p1 : ∀ z, ([47, 47] : List UInt8) <+: s ++ 64 :: z ↔ ([47, 47] : List UInt8) <+: s := fun z => pre_iff z (by decide)
  have p2 : ∀ z, ([47, 42] : List UInt8) <+: s ++ 64 :: z ↔ ([47, 42] : List UInt8) <+: s := fun z => pre_iff z (by decide)
  by_cases h1 : ([47, 47] : List UInt8) <+: s
  · by_cases h2 : 0 ≤ Go.Lib.index s [10]
    · left
      intro z
      unfold blS
      rw [if_pos ((p1 z).2 h1), if_pos h1, index_ext (by decide) _ _ h2]
      simp [h2]
    · right
      have h3 := index_nl s (by omega)
      unfold blS
      rw [if_pos ((p1 []).2 h1), if_pos h1, if_neg h2, if_neg (by omega)]
      simp
  · left
    intro z
    unfold blS at h ⊢
    rw [if_neg h1] at h
    rw [if_neg fun hh => h1 ((p1 z).1 hh), if_neg h1]
    by_cases h2 : ([47, 42] : List UInt8) <+: s
    · rw [if_pos h2] at h
      rw [if_pos ((p2 z).2 h2), if_pos h2]
      have hl := h2.length_le
      simp at hl
      have hd : (s ++ 64 :: z).drop 2 = s.drop 2 ++ 64 :: z := List.drop_append_of_le_length hl
      by_cases h3 : Go.Lib.index (s.drop 2) [42, 47] < 0
      · rw [if_pos h3] at h; omega
      · rw [hd, index_ext (by decide) _ _ (by omega)]
    · rw [if_neg fun hh => h2 ((p2 z).1 hh), if_neg h2, sp_ext bl64]
/-- A text with an '@' behind lexes only if the '@' stands in a remark. -/
theorem lx_at {s : List UInt8} {ts : List GToken} (h : Lx s ts) : ∀ (z : List UInt8) (ts' : List GToken), (s ++ 64 :: z).length ≤ 100000 → Lx (s ++ 64 :: z) ts' → Lx (s ++ [64]) ts := by
  induction h with
  | nil =>
    intro z ts' hl hx
    exfalso
    have h0 : blS (64 :: z) = 0 := by
      unfold blS
      rw [if_neg (by simp [List.prefix_cons_iff]), if_neg (by simp [List.prefix_cons_iff])]
      rw [show sp blB (64 :: z) = if blB 64 then sp blB z + 1 else 0 from rfl, bl64]
      rfl
    cases hx with
    | blank _ n hn h0' _ => rw [List.nil_append, h0] at hn; omega
    | tok _ _ ht _ =>
      rw [List.nil_append, token_key] at ht
      rw [show letB ((64 : UInt8).toNat : Int) = false by decide, cond_false, show digB ((64 : UInt8).toNat : Int) = false by decide, cond_false, show ((((64 : UInt8).toNat : Nat) : Int) == 39) = false by decide, cond_false, mark_eq, Option.bind_some, ← List.nil_append (64 :: z), mark_ext] at ht
      revert ht
      rw [show markS [] = [] by decide +kernel]
      intro ht
      cases ht
  | @blank s ts hs n hn h0 k ih =>
    intro z ts' hl hx
    have hle := (blank_eq s (by simp at hl; omega)).2
    rw [hn] at hle
    rcases bl_ext hs (by omega) with he | ⟨h1, h2⟩
    · have hd : ∀ z', (s ++ 64 :: z').drop n = s.drop n ++ 64 :: z' := fun z' => List.drop_append_of_le_length (by omega)
      refine .blank (by simp) n (by rw [he [], hn]) h0 ?_
      rw [hd]
      have hez := he z
      have hdz := hd z
      have hne : s ++ 64 :: z ≠ [] := by simp
      have hlz : (s.drop n ++ 64 :: z).length ≤ 100000 := by simp at hl ⊢; omega
      generalize s ++ 64 :: z = u at hx hez hdz hne
      cases hx with
      | nil => exact absurd rfl hne
      | blank _ n' hn' _ k' =>
        rw [hez, hn] at hn'
        have : n = n' := by omega
        subst this
        rw [hdz] at k'
        exact ih z ts' hlz k'
      | tok _ hb _ _ => rw [hez, hn] at hb; omega
    · have hns : n = s.length := by omega
      subst hns
      rw [List.drop_length] at k
      have : ts = [] := by
        generalize hq : ([] : List UInt8) = q at k
        cases k with
        | nil => rfl
        | blank h _ _ _ _ => exact absurd hq.symm h
        | tok h _ _ _ => exact absurd hq.symm h
      subst this
      refine .blank (by simp) (s.length + 1) (by rw [h2]; omega) (by omega) ?_
      rw [List.drop_of_length_le (by simp)]
      exact .nil
  | @tok s t ts hs hb ht k ih =>
    intro z ts' hl hx
    have hls : s.length ≤ 100000 := by simp at hl; omega
    obtain ⟨y, hy, hp⟩ := token_spec s hs hls
    rw [ht] at hy
    cases hy
    have hT : Tok t s := hp rfl
    have hpl := hT.pre.length_le
    obtain ⟨n1, n2, n3⟩ := bl_zero hs hb
    have he : ∀ z, blS (s ++ 64 :: z) = 0 := fun z => by
      rcases bl_ext hs (by omega) with he | ⟨h1, _⟩
      · rw [he, hb]
      · rw [hb] at h1
        have : s = [] := List.eq_nil_of_length_eq_zero (by omega)
        exact absurd this hs
    have hd : ∀ z', (s ++ 64 :: z').drop t.Text.length = s.drop t.Text.length ++ 64 :: z' := fun z' => List.drop_append_of_le_length (by omega)
    refine .tok (by simp) (he []) (tok_ext hs [] (by simp at hl ⊢; omega) ht) ?_
    rw [hd]
    have hez := he z
    have hdz := hd z
    have htz := tok_ext hs z hl ht
    have hne : s ++ 64 :: z ≠ [] := by simp
    have hlz : (s.drop t.Text.length ++ 64 :: z).length ≤ 100000 := by simp at hl ⊢; omega
    generalize s ++ 64 :: z = u at hx hez hdz htz hne
    cases hx with
    | nil => exact absurd rfl hne
    | blank _ n' hn' h0' _ => rw [hez] at hn'; omega
    | tok _ _ ht' k' =>
      rw [htz] at ht'
      cases ht'
      rw [hdz] at k'
      exact ih z _ hlz k'
end Go.Proofs.YtokpeeflnijogaaGreatDoor
