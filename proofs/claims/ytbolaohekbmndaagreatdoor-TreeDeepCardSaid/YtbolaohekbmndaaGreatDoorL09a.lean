/- Plain laws of layer 7 (lex), as the laws of layer 9 need them: what the models of its functions compute. No program is in sight here. -/
import Derived.Test.YtbolaohekbmndaaGreatDoorM
import Derived.Test.YtbolaohekbmndaaGreatDoorLoop
import Derived.Lib.IndexBytes
set_option linter.unusedVariables false
namespace Go.Proofs.YtbolaohekbmndaaGreatDoor

theorem bnd {α β : Type} {m : Option α} {x : α} {f : α → Option β} {X : Option β} (h : m = some x) (k : f x = X) : m.bind f = X := by subst h; exact k
theorem exb {α β : Type} {m : Option α} {x : α} {f : α → Option β} {p : β → Prop} (h : m = some x) (k : ∃ y, f x = some y ∧ p y) : ∃ y, m.bind f = some y ∧ p y := by subst h; exact k
def letB (n : Int) : Bool := (decide (97 ≤ n) && decide (n ≤ 122)) || (decide (65 ≤ n) && decide (n ≤ 90)) || n == 95
def digB (n : Int) : Bool := decide (48 ≤ n) && decide (n ≤ 57)
def moreB (c : UInt8) : Bool := letB (c.toNat : Int) || digB (c.toNat : Int)
theorem letter_eq (n : Int) : lex_letter n = some (letB n) := by
  unfold lex_letter letB
  cases decide (97 ≤ n) <;> cases decide (n ≤ 122) <;> cases decide (65 ≤ n) <;> cases decide (n ≤ 90) <;> rfl
theorem digit_eq (n : Int) : lex_digit n = some (digB n) := by
  unfold lex_digit digB
  cases decide (48 ≤ n) <;> rfl
theorem more_eq (c : UInt8) : lex_more (c.toNat : Int) = some (moreB c) := by
  unfold lex_more moreB
  rw [letter_eq, Option.bind_some]
  cases letB (c.toNat : Int) with
  | true => rfl
  | false => rw [cond_false, digit_eq]; rfl
/-- How many first elements are so. -/
def sp (p : UInt8 → Bool) : List UInt8 → Nat
  | [] => 0
  | x :: l => if p x then sp p l + 1 else 0
theorem sp_le (p : UInt8 → Bool) : ∀ l, sp p l ≤ l.length
  | [] => Nat.le_refl _
  | x :: l => by
    have := sp_le p l
    unfold sp
    split
    · simp; omega
    · omega
theorem sp_get (p : UInt8 → Bool) : ∀ (l : List UInt8) (k : Nat) (h : k < sp p l), p (l[k]'(Nat.lt_of_lt_of_le h (sp_le p l))) = true
  | [], k, h => by simp [sp] at h
  | x :: l, 0, h => by
    unfold sp at h
    split at h
    · assumption
    · omega
  | x :: l, k + 1, h => by
    have h' := h
    unfold sp at h'
    split at h'
    · simpa using sp_get p l k (by omega)
    · omega
theorem sp_stop (p : UInt8 → Bool) : ∀ (l : List UInt8) (h : sp p l < l.length), p l[sp p l] = false
  | [], h => by simp at h
  | x :: l, h => by
    by_cases hx : p x = true
    · have e : sp p (x :: l) = sp p l + 1 := by show (if p x then sp p l + 1 else 0) = _; rw [if_pos hx]
      have h2 : sp p l < l.length := by rw [e] at h; simp at h; omega
      have := sp_stop p l h2
      simp only [e, List.getElem_cons_succ]
      exact this
    · have e : sp p (x :: l) = 0 := by show (if p x then sp p l + 1 else 0) = _; rw [if_neg hx]
      simp only [e, List.getElem_cons_zero]
      simpa using hx
theorem sp_loop (p : UInt8 → Bool) (l : List UInt8) (hl : l.length < 4611686018427387904) {body : Int → Option (Lp Int Unit)} {A : Type} {K : Lp Int Unit → Option A} {X : Option A}
    (h1 : ∀ k (h : k < l.length), body (k : Int) = some (bif p l[k] then .go (IntKind.wrap .i64 ((k : Int) + 1)) else .brk (k : Int))) (h2 : body (l.length : Int) = some (.brk (l.length : Int)))
    (hX : K (.brk ((sp p l : Nat) : Int)) = X) : (loopM body NN 0).bind K = X := by
  have hle := sp_le p l
  refine run_bind (fun k => (k : Int)) (sp p l) (.brk ((sp p l : Nat) : Int)) rfl (by omega) (fun k hk => ?_) ?_ trivial hX
  · rw [h1 k (by omega), sp_get p l k hk, cond_true, w64 (by omega)]
    congr 2
  · by_cases h : sp p l < l.length
    · rw [h1 _ h, sp_stop p l h, cond_false]
    · rw [show sp p l = l.length by omega]
      exact h2
theorem span2_eq (l : List UInt8) (hl : l.length < 4611686018427387904) : lex_span_2 l = some ((sp moreB l : Nat) : Int) := by
  unfold lex_span_2
  refine sp_loop moreB l hl (fun k hk => ?_) (by rw [c0 (dge _)]) rfl
  rw [c1 (dlt hk), idx_get hk, Option.bind_some, more_eq, Option.bind_some]
  cases moreB l[k] <;> rfl
def words : List (List UInt8) := [([98, 114, 101, 97, 107] : List UInt8), ([99, 97, 115, 101] : List UInt8), ([99, 104, 97, 114] : List UInt8), ([99, 111, 110, 116, 105, 110, 117, 101] : List UInt8), ([100, 101, 102, 97, 117, 108, 116] : List UInt8), ([100, 111] : List UInt8), ([101, 108, 115, 101] : List UInt8), ([102, 111, 114] : List UInt8), ([105, 102] : List UInt8), ([105, 110] : List UInt8), ([105, 110, 116] : List UInt8), ([111, 117, 116] : List UInt8), ([114, 101, 116, 117, 114, 110] : List UInt8), ([115, 105, 122, 101, 111, 102] : List UInt8), ([115, 116, 114, 117, 99, 116] : List UInt8), ([115, 119, 105, 116, 99, 104] : List UInt8), ([118, 111, 105, 100] : List UInt8), ([119, 104, 105, 108, 101] : List UInt8)]
def wordB (p : List UInt8) : Bool := words.any fun w => decide (p = w)
theorem wd1 (b : Bool) (X : Option Bool) : (bif b then (bif b then some true else some false) else X) = bif b then some true else X := by cases b <;> rfl
theorem wd2 (b x : Bool) : (bif b then some true else some x) = some (b || x) := by cases b <;> rfl
theorem wd3 (b : Bool) : (bif b then some true else some false) = some b := by cases b <;> rfl
theorem wd4 (b x : Bool) : (bif b then some b else some x) = some (b || x) := by cases b <;> rfl
theorem Word_eq (p : List UInt8) : lex_Word p = some (wordB p) := by
  unfold lex_Word wordB words
  simp only [jn, wd1, wd3, wd4, List.any_cons, List.any_nil, Bool.or_false]
theorem sub_drop {b : List UInt8} {n : Nat} (h : n ≤ b.length) : sub b (n : Int) (b.length : Int) = some (b.drop n) := by
  unfold sub
  rw [if_pos (by omega)]
  simp
theorem sub_take {b : List UInt8} {n : Nat} (h : n ≤ b.length) : sub b 0 (n : Int) = some (b.take n) := by
  unfold sub
  rw [if_pos (by omega)]
  simp
theorem hp_eq (s p : List UInt8) : strings_HasPrefix s p = some (decide (p <+: s)) := by
  unfold strings_HasPrefix stringslite_HasPrefix
  by_cases h : p.length ≤ s.length
  · rw [c1 (dt (by omega)), sub_take h, Option.bind_some, Option.bind_some]
    congr 1
    refine decide_eq_decide.2 ⟨fun e => List.prefix_iff_eq_take.2 e.symm, fun e => (List.prefix_iff_eq_take.1 e).symm⟩
  · rw [c0 (df (by omega)), df (fun e => h e.length_le)]
    rfl
def blB (c : UInt8) : Bool := (c.toNat : Int) == 32 || (c.toNat : Int) == 9 || (c.toNat : Int) == 10 || (c.toNat : Int) == 13
theorem blank1_eq (c : UInt8) : lex_blank_1 (c.toNat : Int) = some (blB c) := by
  unfold lex_blank_1 blB
  cases ((c.toNat : Int) == 32) <;> cases ((c.toNat : Int) == 9) <;> cases ((c.toNat : Int) == 10) <;> rfl
theorem span_eq (l : List UInt8) (hl : l.length < 4611686018427387904) : lex_span l = some ((sp blB l : Nat) : Int) := by
  unfold lex_span
  refine sp_loop blB l hl (fun k hk => ?_) (by rw [c0 (dge _)]) rfl
  rw [c1 (dlt hk), idx_get hk, Option.bind_some, blank1_eq, Option.bind_some]
  cases blB l[k] <;> rfl
/-- How many bytes are blank, or a remark; below 0: a remark has no end. -/
def blS (s : List UInt8) : Int :=
  if [47, 47] <+: s then (if 0 ≤ Go.Lib.index s [10] then Go.Lib.index s [10] else s.length)
  else if [47, 42] <+: s then (if Go.Lib.index (s.drop 2) [42, 47] < 0 then -1 else Go.Lib.index (s.drop 2) [42, 47] + 4) else ((sp blB s : Nat) : Int)
theorem idx_fits : ∀ (s sub : List UInt8), sub ≠ [] → 0 ≤ Go.Lib.index s sub → Go.Lib.index s sub + sub.length ≤ s.length
  | [], sub, hn, h => by
    unfold Go.Lib.index at h
    rw [if_neg (by simpa using hn)] at h
    omega
  | b :: l, sub, hn, h => by
    unfold Go.Lib.index at h ⊢
    by_cases h1 : sub.isPrefixOf (b :: l) = true
    · rw [if_pos h1]
      have := (List.isPrefixOf_iff_prefix.1 h1).length_le
      omega
    · rw [if_neg h1] at h ⊢
      by_cases h2 : (Go.Lib.index l sub == -1) = true
      · rw [if_pos h2] at h; omega
      · rw [if_neg h2] at h ⊢
        have hge := Go.Lib.index_ge l sub
        have hne : Go.Lib.index l sub ≠ -1 := by simpa using h2
        have := idx_fits l sub hn (by omega)
        simp
        omega
theorem blank_eq (s : List UInt8) (hl : s.length ≤ 100000) : lex_blank s = some (blS s) ∧ blS s ≤ s.length := by
  have hi := Go.Lib.index_le s [10]
  have hsp := sp_le blB s
  unfold lex_blank blS
  rw [hp_eq, Option.bind_some]
  by_cases h1 : ([47, 47] : List UInt8) <+: s
  · rw [dt h1, cond_true, if_pos h1]
    unfold strings_Index
    rw [if_pos (by omega), Option.bind_some]
    by_cases h2 : 0 ≤ Go.Lib.index s [10]
    · rw [c1 (dt h2), if_pos h2]; exact ⟨rfl, hi⟩
    · rw [c0 (df h2), if_neg h2]; exact ⟨rfl, by omega⟩
  · rw [df h1, cond_false, if_neg h1, hp_eq, Option.bind_some]
    by_cases h2 : ([47, 42] : List UInt8) <+: s
    · have hl2 := h2.length_le
      have hi2 := Go.Lib.index_le (s.drop 2) [42, 47]
      have hd : (s.drop 2).length = s.length - 2 := by simp
      simp at hl2
      rw [dt h2, cond_true, if_pos h2, show sub s 2 (s.length : Int) = some (s.drop 2) from sub_drop hl2, Option.bind_some]
      unfold strings_Index
      rw [if_pos (by simp; omega), Option.bind_some]
      by_cases h3 : Go.Lib.index (s.drop 2) [42, 47] < 0
      · rw [c1 (dt h3), if_pos h3]; exact ⟨rfl, by omega⟩
      · rw [c0 (df h3), if_neg h3, w64 (by omega)]
        refine ⟨rfl, ?_⟩
        -- the instance lies within
        have := idx_fits (s.drop 2) [42, 47] (by decide) (by omega)
        simp at this
        omega
    · rw [df h2, cond_false, if_neg h2, span_eq s (by omega), Option.bind_some]
      exact ⟨rfl, by omega⟩

/-! Tokens. -/
def pos0 : Pos := ⟨0, 0⟩
def tokZ : GToken := ⟨0, [], 0, pos0⟩
/-- Nothing follows, or a blank. -/
def Sepr (r : List UInt8) : Prop := ∀ c, r.head? = some c → blB c = true
theorem sp_all (p : UInt8 → Bool) : ∀ (l r : List UInt8), (∀ x ∈ l, p x = true) → (∀ c, r.head? = some c → p c = false) → sp p (l ++ r) = l.length
  | [], [], _, _ => rfl
  | [], c :: r, _, h => by
    show sp p (c :: r) = 0
    unfold sp
    rw [if_neg (by simp [h c rfl])]
  | x :: l, r, h1, h2 => by
    show sp p (x :: (l ++ r)) = l.length + 1
    unfold sp
    rw [if_pos (h1 x (by simp)), sp_all p l r (fun y hy => h1 y (by simp [hy])) h2]
theorem sp_take_all (p : UInt8 → Bool) (l : List UInt8) : ∀ x ∈ l.take (sp p l), p x = true := by
  intro x hx
  obtain ⟨k, hk, rfl⟩ := List.getElem_of_mem hx
  have hle := sp_le p l
  have hk2 : k < sp p l := by simp at hk; omega
  rw [List.getElem_take]
  exact sp_get p l k hk2
theorem blank_not_more {c : UInt8} (h : blB c = true) : moreB c = false := by
  have : ∀ n : _root_.Fin 256, blB (UInt8.ofNat n.val) = true → moreB (UInt8.ofNat n.val) = false := by decide +kernel
  have h2 := this ⟨c.toNat, c.toNat_lt⟩
  simp only [UInt8.ofNat_toNat] at h2
  exact h2 h
theorem more_not_nl {c : UInt8} (h : moreB c = true) : c ≠ 10 := by
  rintro rfl
  revert h
  decide
theorem sp_more_app {l r : List UInt8} (h : ∀ x ∈ l, moreB x = true) (hr : Sepr r) : sp moreB (l ++ r) = l.length := sp_all _ l r h fun c hc => blank_not_more (hr c hc)

/-- What is asked of a token at the beginning of a text. -/
structure Tok (t : GToken) (s : List UInt8) : Prop where
  pre : t.Text <+: s
  ne : t.Text ≠ []
  pos : t.Pos = pos0
  nl : ∀ x ∈ t.Text, x ≠ 10
  again : ∀ r, Sepr r → (t.Text ++ r).length ≤ 100000 → lex_token (t.Text ++ r) = some (t, 0)

theorem worth_total (n : Int) : ∃ w, lex_worth n = some w := by
  unfold lex_worth
  rw [digit_eq, Option.bind_some]
  cases digB n <;> cases decide (97 ≤ n) <;> cases decide (n ≤ 102) <;> cases decide (65 ≤ n) <;> cases decide (n ≤ 70) <;> exact ⟨_, rfl⟩
def numK (u1 : List UInt8) (x1 : List UInt8) (x2 : Int) : Option (GToken × Int) := bif decide (x1 = ([] : List UInt8)) then (some ((⟨0, ([] : List UInt8), 0, (⟨0, 0⟩ : Pos)⟩ : GToken), (3 : Int))) else ((room (List.length x1)).bind fun _ => (loopM (fun (x3, x4, x5) => (bif decide (x5 < (List.length (strBytes x1) : Int)) then (jn (fun kk2 => (idx (strBytes x1) x5).bind fun u4 => (lex_worth u4).bind fun y4 => bif decide (x2 ≤ y4) then (some (Lp.ret ((⟨0, ([] : List UInt8), 0, (⟨0, 0⟩ : Pos)⟩ : GToken), (3 : Int)))) else ((lex_worth u4).bind fun y5 => bif decide (4294967295 < (IntKind.wrap .u64 ((IntKind.wrap .u64 (x3 * x2)) + y5))) then (kk2 (4294967295 : Int) true) else (kk2 (IntKind.wrap .u64 ((IntKind.wrap .u64 (x3 * x2)) + y5)) x4))) (fun (x6 : Int) (x7 : Bool) => some (Lp.go (x6, x7, IntKind.wrap .i64 (x5 + 1))))) else (some (Lp.brk (x3, x4, x5))) : Option (Lp (Int × Bool × Int) (GToken × Int)))) NN (0, false, 0)).bind fun o => o.thn (fun (x3, x4, x5) => bif x4 then (some ((⟨0, ([] : List UInt8), 0, (⟨0, 0⟩ : Pos)⟩ : GToken), (7 : Int))) else (some ((⟨3, u1, IntKind.wrap .u32 x3, (⟨0, 0⟩ : Pos)⟩ : GToken), (0 : Int)))) (fun r => some r))
def numT (u1 : List UInt8) : Option (GToken × Int) := jn (fun kk1 => (strings_HasPrefix u1 ([48, 120] : List UInt8)).bind fun y2 => bif y2 then ((sub u1 2 (List.length u1 : Int)).bind fun u3 => kk1 u3 (16 : Int)) else ((strings_HasPrefix u1 ([48, 88] : List UInt8)).bind fun y3 => bif y3 then ((sub u1 2 (List.length u1 : Int)).bind fun u2 => kk1 u2 (16 : Int)) else (kk1 u1 (10 : Int)))) (numK u1)
theorem number_eq (s : List UInt8) (hl : s.length ≤ 100000) : lex_number s = numT (s.take (sp moreB s)) := by
  unfold lex_number
  refine bnd (span2_eq s (by omega)) ?_
  refine bnd (sub_take (sp_le _ _)) rfl
theorem numK_total (u x : List UInt8) (b : Int) (hl : x.length ≤ 100000) : ∃ y, numK u x b = some y ∧ (y.2 = 0 → y.1.Text = u ∧ y.1.Pos = pos0) := by
  unfold numK
  by_cases hx : x = []
  · rw [c1 (dt hx)]; exact ⟨_, rfl, fun h => by cases h⟩
  rw [c0 (df hx), room_ok (by omega), Option.bind_some]
  have hsl : (strBytes x).length = x.length := by simp [strBytes]
  obtain ⟨o, ho, hp⟩ := loop_some (R := GToken × Int) (body := fun (x3, x4, x5) => (bif decide (x5 < (List.length (strBytes x) : Int)) then (jn (fun kk2 => (idx (strBytes x) x5).bind fun u4 => (lex_worth u4).bind fun y4 => bif decide (b ≤ y4) then (some (Lp.ret ((⟨0, ([] : List UInt8), 0, (⟨0, 0⟩ : Pos)⟩ : GToken), (3 : Int)))) else ((lex_worth u4).bind fun y5 => bif decide (4294967295 < (IntKind.wrap .u64 ((IntKind.wrap .u64 (x3 * b)) + y5))) then (kk2 (4294967295 : Int) true) else (kk2 (IntKind.wrap .u64 ((IntKind.wrap .u64 (x3 * b)) + y5)) x4))) (fun (x6 : Int) (x7 : Bool) => some (Lp.go (x6, x7, IntKind.wrap .i64 (x5 + 1))))) else (some (Lp.brk (x3, x4, x5))) : Option (Lp (Int × Bool × Int) (GToken × Int))))
    (n := NN) (s := (0, false, 0)) (fun s => ∃ k : Nat, s.2.2 = (k : Int) ∧ k ≤ x.length) (fun s => x.length - s.2.2.toNat) (fun o => (∃ s, o = .brk s) ∨ o = .ret (tokZ, 3)) ⟨0, rfl, by omega⟩ (NN_big (by dsimp only; omega)) (by
      rintro ⟨a, f, i⟩ ⟨k, hk, hk2⟩
      dsimp only at hk ⊢
      subst hk
      rw [hsl]
      by_cases h : k < x.length
      · rw [c1 (dt (by omega))]
        simp only [jn]
        rw [idx_get (by rw [hsl]; exact h), Option.bind_some]
        obtain ⟨wv, hw⟩ := worth_total (strBytes x)[k]
        rw [hw, Option.bind_some, Option.bind_some]
        by_cases h1 : b ≤ wv
        · rw [c1 (dt h1)]; exact ⟨_, rfl, .inr rfl⟩
        · rw [c0 (df h1)]
          cases decide (4294967295 < (IntKind.wrap .u64 ((IntKind.wrap .u64 (a * b)) + wv))) <;> exact ⟨_, rfl, ⟨k + 1, by dsimp only; rw [w64 (by omega)]; omega, by omega⟩, by dsimp only; rw [w64 (by omega)]; omega⟩
      · rw [c0 (df (by omega))]; exact ⟨_, rfl, .inl ⟨_, rfl⟩⟩)
  refine exb ho ?_
  rcases hp with ⟨⟨a, f, i⟩, rfl⟩ | rfl
  · dsimp only [Lp.thn]
    cases f with
    | true => exact ⟨_, rfl, fun h => by cases h⟩
    | false => exact ⟨_, rfl, fun _ => ⟨rfl, rfl⟩⟩
  · exact ⟨_, rfl, fun h => by cases h⟩
theorem numT_total (u : List UInt8) (hl : u.length ≤ 100000) : ∃ y, numT u = some y ∧ (y.2 = 0 → y.1.Text = u ∧ y.1.Pos = pos0) := by
  unfold numT
  simp only [jn]
  refine exb (hp_eq _ _) ?_
  by_cases h1 : ([48, 120] : List UInt8) <+: u
  · have := h1.length_le
    simp at this
    rw [dt h1, cond_true]
    exact exb (sub_drop (b := u) (n := 2) this) (numK_total _ _ _ (by simp; omega))
  · rw [df h1, cond_false]
    refine exb (hp_eq _ _) ?_
    by_cases h2 : ([48, 88] : List UInt8) <+: u
    · have := h2.length_le
      simp at this
      rw [dt h2, cond_true]
      exact exb (sub_drop (b := u) (n := 2) this) (numK_total _ _ _ (by simp; omega))
    · rw [df h2, cond_false]
      exact numK_total _ _ _ hl

/-! Bytes between quotes. -/
def cB (a b c : UInt8) : Bool := (c.toNat : Int) == 39 && (decide (32 ≤ (b.toNat : Int)) && (decide ((b.toNat : Int) ≤ 126) && ((b.toNat : Int) != 39 && (b.toNat : Int) != 92)))
def c3 (a b c : UInt8) : GToken × Int := bif cB a b c then (⟨3, [a, b, c], IntKind.wrap .u32 (b.toNat : Int), pos0⟩, 0) else (tokZ, 3)
theorem esc_total (n : Int) : ∃ y, lex_escape n = some y := by
  unfold lex_escape jn
  cases n == 110 <;> cases n == 116 <;> cases n == 114 <;> cases n == 48 <;> cases n == 92 <;> cases n == 39 <;> exact ⟨_, rfl⟩
theorem char_three (a b c : UInt8) : lex_char [a, b, c] = some (c3 a b c) := by
  unfold lex_char c3 cB
  rw [c0 (by rfl), c1 (by rfl), show idx [a, b, c] 2 = some c from rfl, show idx [a, b, c] 1 = some b from rfl, show sub [a, b, c] 0 3 = some [a, b, c] from rfl]
  simp only [Option.bind_some]
  cases ((c.toNat : Int) == 39) <;> cases decide (32 ≤ (b.toNat : Int)) <;> cases decide ((b.toNat : Int) ≤ 126) <;> cases ((b.toNat : Int) != 39) <;> cases ((b.toNat : Int) != 92) <;> rfl
theorem char_four (a b c d : UInt8) (l : List UInt8) : lex_char (a :: b :: c :: d :: l) = bif ((b.toNat : Int) == 92 && (d.toNat : Int) == 39) then (lex_escape (c.toNat : Int)).bind (fun y => bif y.2 then some ((⟨3, [a, b, c, d], IntKind.wrap .u32 y.1, pos0⟩ : GToken), (0 : Int)) else some (tokZ, 3)) else some (c3 a b c) := by
  have hl : (((a :: b :: c :: d :: l).length : Nat) : Int) = l.length + 4 := by simp; omega
  have hs4 : sub (a :: b :: c :: d :: l) 0 4 = some [a, b, c, d] := by unfold sub; rw [if_pos (by omega)]; rfl
  have hs3 : sub (a :: b :: c :: d :: l) 0 3 = some [a, b, c] := by unfold sub; rw [if_pos (by omega)]; rfl
  unfold lex_char c3 cB
  rw [hl, c1 (dt (show (4 : Int) ≤ l.length + 4 by omega)), show idx (a :: b :: c :: d :: l) 1 = some b from rfl, show idx (a :: b :: c :: d :: l) 2 = some c from rfl, show idx (a :: b :: c :: d :: l) 3 = some d from rfl, hs4, hs3, dt (show (3 : Int) ≤ l.length + 4 by omega)]
  simp only [Option.bind_some, cond_true]
  cases ((b.toNat : Int) == 92) <;> cases ((d.toNat : Int) == 39) <;> cases ((c.toNat : Int) == 39) <;> cases decide (32 ≤ (b.toNat : Int)) <;> cases decide ((b.toNat : Int) ≤ 126) <;> cases ((b.toNat : Int) != 39) <;> cases ((b.toNat : Int) != 92) <;> rfl
theorem char_spec (s : List UInt8) : ∃ y, lex_char s = some y ∧ (y.2 = 0 → y.1.Text <+: s ∧ y.1.Text ≠ [] ∧ y.1.Pos = pos0 ∧ (∀ x ∈ y.1.Text, x = s.headD 0 ∨ x ≠ 10) ∧ ∀ r, lex_char (y.1.Text ++ r) = some (y.1, 0)) := by
  have short : ∀ l : List UInt8, l.length < 3 → lex_char l = some (tokZ, 3) := fun l h => by
    unfold lex_char
    rw [c0 (df (by omega)), c0 (df (by omega))]
    rfl
  have three : ∀ (a b c : UInt8) (l : List UInt8), (c3 a b c).2 = 0 → (c3 a b c).1.Text = [a, b, c] ∧ (c3 a b c).1.Pos = pos0 ∧ b ≠ 10 ∧ c ≠ 10 ∧ ∀ r, lex_char ([a, b, c] ++ r) = some ((c3 a b c).1, 0) := by
    intro a b c l h
    have hb : cB a b c = true := by
      cases hh : cB a b c with
      | true => rfl
      | false => unfold c3 at h; rw [hh] at h; cases h
    have hc3 : c3 a b c = (⟨3, [a, b, c], IntKind.wrap .u32 (b.toNat : Int), pos0⟩, 0) := by unfold c3; rw [hb]; rfl
    have hb2 := hb
    unfold cB at hb2
    simp only [Bool.and_eq_true, beq_iff_eq, decide_eq_true_eq, bne_iff_ne] at hb2
    rw [hc3]
    refine ⟨rfl, rfl, ?_, ?_, fun r => ?_⟩
    · rintro rfl; have := hb2.2.1; simp at this
    · rintro rfl; have := hb2.1; simp at this
    · cases r with
      | nil => rw [List.append_nil, char_three, hc3]
      | cons d r =>
        show lex_char (a :: b :: c :: d :: r) = _
        rw [char_four, c0 (by simp [hb2.2.2.2.2]), hc3]
  match s with
  | [] => exact ⟨_, short _ (by simp), fun h => by cases h⟩
  | [a] => exact ⟨_, short _ (by simp), fun h => by cases h⟩
  | [a, b] => exact ⟨_, short _ (by simp), fun h => by cases h⟩
  | [a, b, c] =>
    refine ⟨_, char_three a b c, fun h => ?_⟩
    obtain ⟨e1, e2, e3, e4, e5⟩ := three a b c [] h
    rw [e1]
    refine ⟨⟨[], rfl⟩, by simp, e2, fun x hx => ?_, e5⟩
    simp only [List.mem_cons, List.not_mem_nil, or_false] at hx
    rcases hx with rfl | rfl | rfl
    · exact .inl rfl
    · exact .inr e3
    · exact .inr e4
  | a :: b :: c :: d :: l =>
    rw [char_four]
    cases hbd : ((b.toNat : Int) == 92 && (d.toNat : Int) == 39) with
    | false =>
      refine ⟨_, rfl, fun h => ?_⟩
      obtain ⟨e1, e2, e3, e4, e5⟩ := three a b c [] h
      rw [e1]
      refine ⟨⟨d :: l, rfl⟩, by simp, e2, fun x hx => ?_, e5⟩
      simp only [List.mem_cons, List.not_mem_nil, or_false] at hx
      rcases hx with rfl | rfl | rfl
      · exact .inl rfl
      · exact .inr e3
      · exact .inr e4
    | true =>
      rw [cond_true]
      obtain ⟨⟨v, ok⟩, he⟩ := esc_total (c.toNat : Int)
      refine exb he ?_
      cases ok with
      | false => exact ⟨_, rfl, fun h => by cases h⟩
      | true =>
        refine ⟨_, rfl, fun _ => ⟨⟨l, rfl⟩, by simp, rfl, fun x hx => ?_, fun r => ?_⟩⟩
        · dsimp only at hx
          simp only [Bool.and_eq_true, beq_iff_eq] at hbd
          simp only [List.mem_cons, List.not_mem_nil, or_false] at hx
          rcases hx with rfl | rfl | rfl | rfl
          · exact .inl rfl
          · right; rintro rfl; have := hbd.1; simp at this
          · right
            rintro rfl
            have : lex_escape (((10 : UInt8).toNat : Nat) : Int) = some (0, false) := rfl
            rw [this] at he
            cases he
          · right; rintro rfl; have := hbd.2; simp at this
        · show lex_char (a :: b :: c :: d :: r) = _
          rw [char_four, hbd, cond_true, he]
          rfl

/-! Marks. -/
def marks : List (List UInt8) := [([60, 60, 61] : List UInt8), ([62, 62, 61] : List UInt8), ([45, 62] : List UInt8), ([43, 43] : List UInt8), ([45, 45] : List UInt8), ([60, 60] : List UInt8), ([62, 62] : List UInt8), ([60, 61] : List UInt8), ([62, 61] : List UInt8), ([61, 61] : List UInt8), ([33, 61] : List UInt8), ([38, 38] : List UInt8), ([124, 124] : List UInt8), ([43, 61] : List UInt8), ([45, 61] : List UInt8), ([42, 61] : List UInt8), ([47, 61] : List UInt8), ([37, 61] : List UInt8), ([38, 61] : List UInt8), ([124, 61] : List UInt8), ([94, 61] : List UInt8), ([43] : List UInt8), ([45] : List UInt8), ([42] : List UInt8), ([47] : List UInt8), ([37] : List UInt8), ([38] : List UInt8), ([124] : List UInt8), ([94] : List UInt8), ([126] : List UInt8), ([33] : List UInt8), ([60] : List UInt8), ([62] : List UInt8), ([61] : List UInt8), ([63] : List UInt8), ([58] : List UInt8), ([59] : List UInt8), ([44] : List UInt8), ([46] : List UInt8), ([40] : List UInt8), ([41] : List UInt8), ([91] : List UInt8), ([93] : List UInt8), ([123] : List UInt8), ([125] : List UInt8)]
def markS (s : List UInt8) : List UInt8 := match marks.findIdx? (fun m => decide (m <+: s)) with
  | some k => marks.getD k []
  | none => []
theorem mark_eq (s : List UInt8) : lex_mark s = some (markS s) := by
  unfold lex_mark markS
  refine find_bind marks (fun m => decide (m <+: s)) (fun k => marks.getD k []) (by decide) (fun k hk => ?_) (by rfl) ?_
  · show (bif decide ((k : Int) < (marks.length : Int)) then _ else _) = _
    rw [c1 (dlt hk)]
    refine bnd (x := marks[k]) (idx_get hk) ?_
    refine bnd (hp_eq _ _) ?_
    rw [show marks.getD k [] = marks[k] by simp [hk]]
    cases decide (marks[k] <+: s) <;> rfl
  · cases marks.findIdx? _ <;> rfl
theorem marks_ok : ∀ m ∈ marks, m ≠ [] ∧ ∀ x ∈ m, blB x = false ∧ x ≠ 10 := by decide +kernel
theorem pre_app {m t r : List UInt8} (hm : ∀ x ∈ m, blB x = false) (hr : Sepr r) (h : m <+: t ++ r) : m <+: t := by
  by_cases hl : m.length ≤ t.length
  · exact List.prefix_of_prefix_length_le h (List.prefix_append t r) hl
  · exfalso
    obtain ⟨q, hq⟩ := h
    have hlt : t.length < m.length := by omega
    have h1 : (m ++ q)[t.length]? = m[t.length]? := List.getElem?_append_left hlt
    rw [hq, List.getElem?_append_right (Nat.le_refl _), Nat.sub_self] at h1
    rw [List.getElem?_eq_getElem hlt] at h1
    have h2 := hr m[t.length] (by rw [List.head?_eq_getElem?]; exact h1)
    rw [hm _ (List.getElem_mem hlt)] at h2
    cases h2
theorem mark_spec (s : List UInt8) (h : markS s ≠ []) : markS s <+: s ∧ (∀ x ∈ markS s, blB x = false ∧ x ≠ 10) ∧ ∀ r, Sepr r → markS (markS s ++ r) = markS s := by
  cases hf : marks.findIdx? (fun m => decide (m <+: s)) with
  | none => exact absurd (by unfold markS; rw [hf]) h
  | some k =>
    obtain ⟨hk, hp, hlt⟩ := List.findIdx?_eq_some_iff_getElem.1 hf
    have hmk : markS s = marks[k] := by unfold markS; rw [hf]; simp [hk]
    rw [hmk]
    have hp' : marks[k] <+: s := by simpa using hp
    refine ⟨hp', (marks_ok _ (List.getElem_mem hk)).2, fun r hr => ?_⟩
    have : marks.findIdx? (fun m => decide (m <+: marks[k] ++ r)) = some k := by
      refine List.findIdx?_eq_some_iff_getElem.2 ⟨hk, by simp, fun j hj => ?_⟩
      have hn := hlt j hj
      intro hc
      have hc' : marks[j] <+: marks[k] ++ r := by simpa using hc
      have := pre_app (fun x hx => ((marks_ok _ (List.getElem_mem (Nat.lt_trans hj hk))).2 x hx).1) hr hc'
      exact absurd (this.trans hp') (by simpa using hn)
    unfold markS
    rw [this]
    simp [hk]

/-! The token at the beginning. -/
theorem token_spec (s : List UInt8) (hs : s ≠ []) (hl : s.length ≤ 100000) : ∃ y, lex_token s = some y ∧ (y.2 = 0 → Tok y.1 s) := by
  obtain ⟨c, l, rfl⟩ : ∃ c l, s = c :: l := by
    cases s with
    | nil => exact absurd rfl hs
    | cons c l => exact ⟨c, l, rfl⟩
  have key : ∀ l', lex_token (c :: l') = (bif letB (c.toNat : Int) then ((lex_span_2 (c :: l')).bind fun y2 => (sub (c :: l') 0 y2).bind fun u2 => bif decide (31 < y2) then (some ((⟨1, u2, 0, (⟨0, 0⟩ : Pos)⟩ : GToken), (2 : Int))) else (jn (fun kk1 => (lex_Word u2).bind fun y3 => bif y3 then (kk1 (⟨2, u2, 0, (⟨0, 0⟩ : Pos)⟩ : GToken)) else (kk1 (⟨1, u2, 0, (⟨0, 0⟩ : Pos)⟩ : GToken))) (fun (x1 : GToken) => some (x1, (0 : Int))))) else (bif digB (c.toNat : Int) then ((lex_number (c :: l')).bind fun y5 => some (y5.1, y5.2)) else (bif (UInt8.toNat c : Int) == 39 then ((lex_char (c :: l')).bind fun y6 => some (y6.1, y6.2)) else ((lex_mark (c :: l')).bind fun y7 => bif decide (y7 = ([] : List UInt8)) then (some ((⟨0, ([] : List UInt8), 0, (⟨0, 0⟩ : Pos)⟩ : GToken), (3 : Int))) else (some ((⟨4, y7, 0, (⟨0, 0⟩ : Pos)⟩ : GToken), (0 : Int))))))) := fun l' => by
    unfold lex_token
    rw [show idx (c :: l') 0 = some c from rfl]
    simp only [Option.bind_some, letter_eq, digit_eq]
  have hmore : letB (c.toNat : Int) = true ∨ digB (c.toNat : Int) = true → moreB c = true := fun h => by
    unfold moreB
    rcases h with h | h <;> rw [h] <;> simp
  have hsp1 : moreB c = true → 1 ≤ sp moreB (c :: l) := fun h => by
    show 1 ≤ (if moreB c then sp moreB l + 1 else 0)
    rw [if_pos h]; omega
  rw [key]
  cases hlet : letB (c.toNat : Int) with
  | true =>
    rw [cond_true]
    refine exb (span2_eq _ (by omega)) ?_
    refine exb (sub_take (sp_le _ _)) ?_
    have h1 := hsp1 (hmore (.inl hlet))
    have hle := sp_le moreB (c :: l)
    have hall := sp_take_all moreB (c :: l)
    by_cases h31 : (31 : Int) < ((sp moreB (c :: l) : Nat) : Int)
    · rw [c1 (dt h31)]; exact ⟨_, rfl, fun h => by cases h⟩
    · rw [c0 (df h31)]
      simp only [jn]
      have hlen : ((c :: l).take (sp moreB (c :: l))).length = sp moreB (c :: l) := by rw [List.length_take]; omega
      have htc : ∃ q, (c :: l).take (sp moreB (c :: l)) = c :: q := by
        cases hn : sp moreB (c :: l) with
        | zero => omega
        | succ m => exact ⟨_, rfl⟩
      have hpre := List.take_prefix (sp moreB (c :: l)) (c :: l)
      generalize (c :: l).take (sp moreB (c :: l)) = u at hall hlen htc hpre ⊢
      obtain ⟨q, rfl⟩ := htc
      have hag : ∀ r, Sepr r → ((c :: q) ++ r).length ≤ 100000 → lex_token ((c :: q) ++ r) = (lex_Word (c :: q)).bind fun y3 => bif y3 then (some ((⟨2, c :: q, 0, (⟨0, 0⟩ : Pos)⟩ : GToken), (0 : Int))) else (some ((⟨1, c :: q, 0, (⟨0, 0⟩ : Pos)⟩ : GToken), (0 : Int))) := fun r hr hlr => by
        have hsp := sp_more_app hall hr
        rw [List.cons_append, key, hlet, cond_true]
        refine bnd (span2_eq _ (by rw [List.cons_append] at hlr; omega)) ?_
        rw [← List.cons_append, hsp]
        refine bnd (x := c :: q) ?_ ?_
        · rw [sub_take (by simp)]; simp
        · rw [c0 (df (by rw [hlen]; exact h31))]
          rfl
      rw [Word_eq, Option.bind_some]
      rw [Word_eq] at hag
      cases hw : wordB (c :: q) with
      | true => exact ⟨_, rfl, fun _ => ⟨hpre, by simp, rfl, fun x hx => more_not_nl (hall x hx), fun r hr hlr => by rw [show (⟨2, c :: q, 0, pos0⟩ : GToken).Text = c :: q from rfl, hag r hr hlr, hw]; rfl⟩⟩
      | false => exact ⟨_, rfl, fun _ => ⟨hpre, by simp, rfl, fun x hx => more_not_nl (hall x hx), fun r hr hlr => by rw [show (⟨1, c :: q, 0, pos0⟩ : GToken).Text = c :: q from rfl, hag r hr hlr, hw]; rfl⟩⟩
  | false =>
    rw [cond_false]
    cases hdig : digB (c.toNat : Int) with
    | true =>
      rw [cond_true, number_eq _ hl]
      have h1 := hsp1 (hmore (.inr hdig))
      have hall := sp_take_all moreB (c :: l)
      have hlen : ((c :: l).take (sp moreB (c :: l))).length = sp moreB (c :: l) := by have := sp_le moreB (c :: l); rw [List.length_take]; omega
      have htc : ∃ q, (c :: l).take (sp moreB (c :: l)) = c :: q := by
        cases hn : sp moreB (c :: l) with
        | zero => omega
        | succ m => exact ⟨_, rfl⟩
      have hpre := List.take_prefix (sp moreB (c :: l)) (c :: l)
      generalize (c :: l).take (sp moreB (c :: l)) = u at hall hlen htc hpre ⊢
      obtain ⟨q, rfl⟩ := htc
      obtain ⟨⟨t, e⟩, hy, hp⟩ := numT_total (c :: q) (Nat.le_trans hpre.length_le hl)
      refine exb hy ?_
      refine ⟨_, rfl, fun he => ?_⟩
      dsimp only at he hp
      obtain ⟨e1, e2⟩ := hp he
      subst he
      refine ⟨by dsimp only; rw [e1]; exact hpre, by dsimp only; rw [e1]; simp, e2, fun x hx => more_not_nl (hall x (by dsimp only at hx; rwa [e1] at hx)), fun r hr hlr => ?_⟩
      dsimp only at hlr ⊢
      rw [e1] at hlr ⊢
      rw [List.cons_append, key, hlet, cond_false, hdig, cond_true, ← List.cons_append, number_eq _ hlr, sp_more_app hall hr]
      rw [List.take_append_of_le_length (Nat.le_refl _), List.take_length, hy]
      rfl
    | false =>
      rw [cond_false]
      cases hq : ((c.toNat : Int) == 39) with
      | true =>
        rw [cond_true]
        obtain ⟨⟨t, e⟩, hy, hp⟩ := char_spec (c :: l)
        refine exb hy ?_
        refine ⟨_, rfl, fun he => ?_⟩
        dsimp only at he hp
        obtain ⟨p1, p2, p3, p4, p5⟩ := hp he
        subst he
        refine ⟨p1, p2, p3, fun x hx => ?_, fun r hr hlr => ?_⟩
        · rcases p4 x hx with h | h
          · rw [h]
            rintro h10
            rw [show (c :: l).headD 0 = c from rfl] at h10
            subst h10
            simp at hq
          · exact h
        · have hc : ∃ q, t.Text = c :: q := by
            obtain ⟨z, hz⟩ := p1
            cases htt : t.Text with
            | nil => exact absurd htt p2
            | cons x q => rw [htt] at hz; cases hz; exact ⟨q, rfl⟩
          obtain ⟨q, hq2⟩ := hc
          have := p5 r
          dsimp only at this ⊢
          rw [hq2, List.cons_append] at this ⊢
          rw [key, hlet, cond_false, hdig, cond_false, hq, cond_true, this]
          rfl
      | false =>
        rw [cond_false]
        refine exb (mark_eq _) ?_
        by_cases hm : markS (c :: l) = []
        · rw [c1 (dt hm)]; exact ⟨_, rfl, fun h => by cases h⟩
        · rw [c0 (df hm)]
          obtain ⟨p1, p2, p3⟩ := mark_spec _ hm
          refine ⟨_, rfl, fun _ => ⟨p1, hm, rfl, fun x hx => (p2 x hx).2, fun r hr hlr => ?_⟩⟩
          dsimp only at hlr ⊢
          have p3' := p3 r hr
          have hc : ∃ q, markS (c :: l) = c :: q := by
            obtain ⟨z, hz⟩ := p1
            cases htt : markS (c :: l) with
            | nil => exact absurd htt hm
            | cons x q => rw [htt] at hz; cases hz; exact ⟨q, rfl⟩
          generalize markS (c :: l) = mm at hc p3' hm hlr ⊢
          obtain ⟨q, rfl⟩ := hc
          rw [List.cons_append] at p3' ⊢
          rw [key, hlet, cond_false, hdig, cond_false, hq, cond_false, mark_eq, Option.bind_some, p3', c0 (df hm)]

/-- Ahead of a token there is no blank, and there is none where it stands again. -/
theorem bl_zero {s : List UInt8} (hs : s ≠ []) (h : blS s = 0) : ¬ ([47, 47] : List UInt8) <+: s ∧ ¬ ([47, 42] : List UInt8) <+: s ∧ sp blB s = 0 := by
  unfold blS at h
  by_cases h1 : ([47, 47] : List UInt8) <+: s
  · exfalso
    rw [if_pos h1] at h
    obtain ⟨q, rfl⟩ := h1
    by_cases h2 : 0 ≤ Go.Lib.index ([47, 47] ++ q) [10]
    · rw [if_pos h2] at h
      have e : Go.Lib.index ([47, 47] ++ q) [10] = if Go.Lib.index (47 :: q) [10] == -1 then -1 else Go.Lib.index (47 :: q) [10] + 1 := by
        show Go.Lib.index (47 :: (47 :: q)) [10] = _
        rw [Go.Lib.index, if_neg (by simp [List.isPrefixOf])]
      rw [e] at h
      have := Go.Lib.index_ge (47 :: q) [10]
      split at h
      · omega
      · rename_i hne
        have : Go.Lib.index (47 :: q) [10] ≠ -1 := by simpa using hne
        omega
    · rw [if_neg h2] at h
      simp at h
      omega
  · rw [if_neg h1] at h
    by_cases h2 : ([47, 42] : List UInt8) <+: s
    · exfalso
      rw [if_pos h2] at h
      split at h <;> omega
    · rw [if_neg h2] at h
      exact ⟨h1, h2, by omega⟩
theorem bl_again {s : List UInt8} (hs : s ≠ []) (h : blS s = 0) {t : GToken} (ht : Tok t s) {r : List UInt8} (hr : Sepr r) : blS (t.Text ++ r) = 0 := by
  obtain ⟨h1, h2, h3⟩ := bl_zero hs h
  have n1 : ¬ ([47, 47] : List UInt8) <+: t.Text ++ r := fun hh => h1 ((pre_app (by decide) hr hh).trans ht.pre)
  have n2 : ¬ ([47, 42] : List UInt8) <+: t.Text ++ r := fun hh => h2 ((pre_app (by decide) hr hh).trans ht.pre)
  unfold blS
  rw [if_neg n1, if_neg n2]
  have hne := ht.ne
  have hpre := ht.pre
  cases htt : t.Text with
  | nil => exact absurd htt hne
  | cons c q =>
    rw [htt] at hpre
    obtain ⟨z, rfl⟩ := hpre
    have hc : blB c = false := by
      cases hb : blB c with
      | false => rfl
      | true =>
        rw [show sp blB ((c :: q) ++ z) = (if blB c then sp blB (q ++ z) + 1 else 0) from rfl, if_pos hb] at h3
        omega
    rw [show sp blB ((c :: q) ++ r) = (if blB c then sp blB (q ++ r) + 1 else 0) from rfl, if_neg (by simp [hc])]
    rfl

/-! A whole text. -/
def strip (t : GToken) : GToken := { t with Pos := pos0 }
/-- These are the tokens of a text. -/
inductive Lx : List UInt8 → List GToken → Prop
  | nil : Lx [] []
  | blank {s : List UInt8} {ts : List GToken} (h : s ≠ []) (n : Nat) (hn : blS s = (n : Int)) (h0 : 0 < n) (k : Lx (s.drop n) ts) : Lx s ts
  | tok {s : List UInt8} {t : GToken} {ts : List GToken} (h : s ≠ []) (hb : blS s = 0) (ht : lex_token s = some (t, 0)) (k : Lx (s.drop t.Text.length) ts) : Lx s (t :: ts)
/-- A place behind some bytes. -/
def adv (p : Pos) : List UInt8 → Pos
  | [] => p
  | c :: l => adv (if c = 10 then ⟨p.Line + 1, 1⟩ else ⟨p.Line, p.Col + 1⟩) l
theorem adv_app (p : Pos) : ∀ (a b : List UInt8), adv p (a ++ b) = adv (adv p a) b := by
  intro a
  induction a generalizing p with
  | nil => intro b; rfl
  | cons c a ih => intro b; exact ih _ b
structure PosOk (p : Pos) (m : Nat) : Prop where
  l : 0 ≤ p.Line ∧ p.Line ≤ m
  c : 0 ≤ p.Col ∧ p.Col ≤ m
theorem adv_ok {p : Pos} {m : Nat} (h : PosOk p m) (h1 : 1 ≤ m) : ∀ a : List UInt8, PosOk (adv p a) (m + a.length) := by
  intro a
  induction a generalizing p m with
  | nil => exact h
  | cons c a ih =>
    have hl := h.l; have hc := h.c
    have : PosOk (if c = 10 then ⟨p.Line + 1, 1⟩ else ⟨p.Line, p.Col + 1⟩) (m + 1) := by
      split
      · exact ⟨by dsimp only; omega, by dsimp only; omega⟩
      · exact ⟨by dsimp only; omega, by dsimp only; omega⟩
    have := ih this (by omega)
    rw [show m + (c :: a).length = m + 1 + a.length by simp; omega]
    exact this
theorem skip_eq {s : List UInt8} {p : Pos} {m : Nat} (h : PosOk p m) (h1 : 1 ≤ m) (hm : m + s.length ≤ 1000000) {n : Nat} (hn : n ≤ s.length) : lex_scanner_skip ⟨s, p⟩ (n : Int) = some ⟨s.drop n, adv p (s.take n)⟩ := by
  unfold lex_scanner_skip
  dsimp only
  rw [sub_take hn, Option.bind_some]
  have hlen : (s.take n).length = n := by rw [List.length_take]; omega
  generalize hu : s.take n = u at hlen ⊢
  rw [room_ok (by omega), Option.bind_some]
  have hsl : (strBytes u).length = u.length := by simp [strBytes]
  refine run_bind (fun k => ((k : Int), (⟨s, adv p (u.take k)⟩ : LexScanner))) u.length (.brk ((u.length : Int), ⟨s, adv p u⟩)) rfl (by omega) (fun k hk => ?_) ?_ trivial ?_
  · dsimp only
    have hp := adv_ok h h1 (u.take k)
    have hl := hp.l; have hc := hp.c
    have hkl : (u.take k).length = k := by rw [List.length_take]; omega
    rw [hkl] at hl hc
    rw [c1 (dt (by rw [hsl]; omega))]
    simp only [jn]
    rw [idx_get (by rw [hsl]; exact hk), Option.bind_some, List.take_succ_eq_append_getElem hk, adv_app]
    have e : (strBytes u)[k]'(by rw [hsl]; exact hk) = (u[k].toNat : Int) := by simp [strBytes]
    rw [e, w64 (x := (k : Int) + 1) (by omega)]
    by_cases h10 : u[k] = 10
    · rw [c1 (by rw [h10]; rfl), w64 (by omega)]
      show _ = some (Lp.go (((k + 1 : Nat) : Int), (⟨s, (if u[k] = 10 then ⟨(adv p (u.take k)).Line + 1, 1⟩ else ⟨(adv p (u.take k)).Line, (adv p (u.take k)).Col + 1⟩)⟩ : LexScanner)))
      rw [if_pos h10]
      rfl
    · rw [c0 (by simp; intro hh; exact h10 (UInt8.toNat_inj.1 (by rw [show (10 : UInt8).toNat = 10 from rfl]; omega))), w64 (by omega)]
      show _ = some (Lp.go (((k + 1 : Nat) : Int), (⟨s, (if u[k] = 10 then ⟨(adv p (u.take k)).Line + 1, 1⟩ else ⟨(adv p (u.take k)).Line, (adv p (u.take k)).Col + 1⟩)⟩ : LexScanner)))
      rw [if_neg h10]
      rfl
  · dsimp only
    rw [hsl, c0 (dge _), List.take_length]
  · dsimp only [Lp.thn]
    rw [sub_drop hn, Option.bind_some]
def lexBody : List GToken × LexScanner → Option (Lp (List GToken × LexScanner) (List GToken × Pos × Int)) := fun (x1, x2) => (bif !(decide (x2.s = ([] : List UInt8))) then ((lex_blank x2.s).bind fun y1 => bif decide (y1 < 0) then (some (Lp.ret ([], x2.pos, (3 : Int)))) else (bif decide (0 < y1) then ((lex_scanner_skip x2 y1).bind fun y2 => some (Lp.go (x1, y2))) else ((lex_token x2.s).bind fun y3 => bif y3.2 != 0 then (some (Lp.ret ([], x2.pos, y3.2))) else ((room (List.length x1 + List.length ([{ y3.1 with Pos := x2.pos }] : List GToken))).bind fun _ => (lex_scanner_skip x2 (List.length y3.1.Text : Int)).bind fun y4 => some (Lp.go (x1 ++ ([{ y3.1 with Pos := x2.pos }] : List GToken), y4)))))) else (some (Lp.brk (x1, x2))))
theorem body_blank {x1 : List GToken} {s : List UInt8} {p : Pos} {m : Nat} (h : PosOk p m) (h1 : 1 ≤ m) (hm : m + s.length ≤ 1000000) (hl : s.length ≤ 100000) (hs : s ≠ []) {n : Nat} (hn : blS s = (n : Int)) (h0 : 0 < n) :
    lexBody (x1, ⟨s, p⟩) = some (.go (x1, ⟨s.drop n, adv p (s.take n)⟩)) := by
  have hb := blank_eq s hl
  unfold lexBody
  dsimp only
  rw [c1 (by simpa using hs)]
  refine bnd hb.1 ?_
  rw [hn, c0 (df (by omega)), c1 (dt (by omega))]
  refine bnd (skip_eq h h1 hm (by omega)) rfl
theorem body_tok {x1 : List GToken} {s : List UInt8} {p : Pos} {m : Nat} (h : PosOk p m) (h1 : 1 ≤ m) (hm : m + s.length ≤ 1000000) (hl : s.length ≤ 100000) (hx : x1.length ≤ 1000000) (hs : s ≠ []) (hb : blS s = 0) {t : GToken} (ht : lex_token s = some (t, 0)) (hpre : t.Text <+: s) :
    lexBody (x1, ⟨s, p⟩) = some (.go (x1 ++ [{ t with Pos := p }], ⟨s.drop t.Text.length, adv p t.Text⟩)) := by
  have hbe := blank_eq s hl
  have htake : s.take t.Text.length = t.Text := (List.prefix_iff_eq_take.1 hpre).symm
  unfold lexBody
  dsimp only
  rw [c1 (by simpa using hs)]
  refine bnd hbe.1 ?_
  rw [hb, c0 (df (by omega)), c0 (df (by omega))]
  refine bnd ht ?_
  rw [c0 (by rfl), room_ok (by simp; omega), Option.bind_some]
  refine bnd (skip_eq h h1 hm hpre.length_le) ?_
  rw [htake]
theorem body_end {x1 : List GToken} {p : Pos} : lexBody (x1, ⟨[], p⟩) = some (.brk (x1, ⟨[], p⟩)) := rfl
/-- What the lexer says of a text whose tokens are known. -/
theorem lx_run {s : List UInt8} {ts : List GToken} (h : Lx s ts) : ∀ (x1 : List GToken) (p : Pos) (m f : Nat), PosOk p m → 1 ≤ m → m + s.length ≤ 1000000 → s.length ≤ 100000 → x1.length + s.length ≤ 1000000 → s.length < f →
    ∃ q pe, loopM lexBody f (x1, ⟨s, p⟩) = some (.brk (x1 ++ q, ⟨[], pe⟩)) ∧ q.map strip = ts := by
  induction h with
  | nil =>
    intro x1 p m f _ _ _ _ _ hf
    cases f with
    | zero => omega
    | succ f => exact ⟨[], p, by unfold loopM; rw [body_end, List.append_nil], rfl⟩
  | @blank s ts hs n hn h0 k ih =>
    intro x1 p m f h1 h2 h3 h4 h5 hf
    have hle := (blank_eq s h4).2
    rw [hn] at hle
    have htk : (s.take n).length = n := by rw [List.length_take]; omega
    cases f with
    | zero => omega
    | succ f =>
      unfold loopM
      rw [body_blank h1 h2 h3 h4 hs hn h0]
      have hp := adv_ok h1 h2 (s.take n)
      rw [htk] at hp
      exact ih x1 _ (m + n) f hp (by omega) (by rw [List.length_drop]; omega) (by rw [List.length_drop]; omega) (by rw [List.length_drop]; omega) (by rw [List.length_drop]; omega)
  | @tok s t ts hs hb ht k ih =>
    intro x1 p m f h1 h2 h3 h4 h5 hf
    obtain ⟨y, hy, hp⟩ := token_spec s hs h4
    rw [ht] at hy
    cases hy
    have hT : Tok t s := hp rfl
    have hpl := hT.pre.length_le
    have hne : 1 ≤ t.Text.length := List.length_pos_iff.2 hT.ne
    cases f with
    | zero => omega
    | succ f =>
      unfold loopM
      rw [body_tok h1 h2 h3 h4 (by omega) hs hb ht hT.pre]
      have hpp := adv_ok h1 h2 t.Text
      obtain ⟨q, pe, e1, e2⟩ := ih (x1 ++ [{ t with Pos := p }]) _ (m + t.Text.length) f hpp (by omega) (by rw [List.length_drop]; omega) (by rw [List.length_drop]; omega) (by rw [List.length_drop]; simp; omega) (by rw [List.length_drop]; omega)
      refine ⟨{ t with Pos := p } :: q, pe, ?_, ?_⟩
      · refine e1.trans ?_
        rw [List.append_assoc]; rfl
      · rw [List.map_cons, e2]
        have := hT.pos
        congr 1
        obtain ⟨a, b, c, d⟩ := t
        dsimp only at this
        subst this
        rfl
theorem posOk1 : PosOk ⟨1, 1⟩ 1 := ⟨by decide, by decide⟩
theorem lx_lex {s : List UInt8} {ts : List GToken} (h : Lx s ts) (hl : s.length ≤ 65536) : ∃ q pe, lex_Lex s = some (q, pe, 0) ∧ q.map strip = ts := by
  obtain ⟨q, pe, e1, e2⟩ := lx_run h [] ⟨1, 1⟩ 1 NN posOk1 (by omega) (by omega) (by omega) (by simp; omega) (NN_big (by omega))
  refine ⟨q, pe, ?_, e2⟩
  unfold lex_Lex
  rw [c0 (df (by omega))]
  exact bnd e1 rfl
/-- Whatever the text: its tokens, or an error. -/
theorem lex_total (s : List UInt8) (hl : s.length ≤ 65536) : ∃ y, lex_Lex s = some y ∧ ((y.2.2 = 0 ∧ Lx s (y.1.map strip)) ∨ (y.2.2 ≠ 0 ∧ y.1 = [])) := by
  unfold lex_Lex
  rw [c0 (df (by omega))]
  obtain ⟨o, ho, hp⟩ := loop_some (R := List GToken × Pos × Int) (body := lexBody) (n := NN) (s := ([], (⟨s, (⟨1, 1⟩ : Pos)⟩ : LexScanner)))
    (fun x => x.2.s.length ≤ s.length ∧ PosOk x.2.pos (1 + (s.length - x.2.s.length)) ∧ x.1.length + x.2.s.length ≤ s.length ∧ ∀ ts, Lx x.2.s ts → Lx s (x.1.map strip ++ ts)) (fun x => x.2.s.length)
    (fun o => (∃ q p, o = .brk (q, ⟨[], p⟩) ∧ Lx s (q.map strip)) ∨ ∃ p e, o = .ret ([], p, e) ∧ e ≠ 0)
    ⟨Nat.le_refl _, by dsimp only; rw [Nat.sub_self]; exact posOk1, by simp, fun ts h => h⟩ (NN_big (by dsimp only; omega)) (by
      rintro ⟨x1, ⟨u, p⟩⟩ ⟨h1, h2, h3, h4⟩
      dsimp only at h1 h2 h3 h4 ⊢
      by_cases hu : u = []
      · subst hu
        exact ⟨_, body_end, .inl ⟨x1, p, rfl, by have := h4 [] .nil; rwa [List.append_nil] at this⟩⟩
      · have hb := blank_eq u (by omega)
        by_cases hneg : blS u < 0
        · refine ⟨.ret ([], p, 3), ?_, .inr ⟨p, 3, rfl, by decide⟩⟩
          unfold lexBody
          dsimp only
          rw [c1 (by simpa using hu)]
          refine bnd hb.1 ?_
          rw [c1 (dt hneg)]
        · by_cases hpos : 0 < blS u
          · obtain ⟨n, hn⟩ := Int.eq_ofNat_of_zero_le (show 0 ≤ blS u by omega)
            have htk : (u.take n).length = n := by rw [List.length_take]; omega
            refine ⟨_, body_blank h2 (by omega) (by omega) (by omega) hu hn (by omega), ⟨by dsimp only; rw [List.length_drop]; omega, ?_, by dsimp only; rw [List.length_drop]; omega, fun ts hts => h4 ts (.blank hu n hn (by omega) hts)⟩, by dsimp only; rw [List.length_drop]; omega⟩
            have := adv_ok h2 (by omega) (u.take n)
            dsimp only
            rw [List.length_drop, show 1 + (s.length - (u.length - n)) = 1 + (s.length - u.length) + (u.take n).length by omega]
            exact this
          · have hz : blS u = 0 := by omega
            obtain ⟨⟨t, e⟩, hy, hT⟩ := token_spec u hu (by omega)
            by_cases he : e = 0
            · subst he
              have hT : Tok t u := hT rfl
              have hpl := hT.pre.length_le
              have hne : 1 ≤ t.Text.length := List.length_pos_iff.2 hT.ne
              refine ⟨_, body_tok h2 (by omega) (by omega) (by omega) (by omega) hu hz hy hT.pre, ⟨by dsimp only; rw [List.length_drop]; omega, ?_, by dsimp only; rw [List.length_drop]; simp; omega, fun ts hts => ?_⟩, by dsimp only; rw [List.length_drop]; omega⟩
              · have := adv_ok h2 (by omega) t.Text
                dsimp only
                rw [List.length_drop, show 1 + (s.length - (u.length - t.Text.length)) = 1 + (s.length - u.length) + t.Text.length by omega]
                exact this
              · have := h4 (t :: ts) (.tok hu hz hy hts)
                dsimp only
                rw [List.map_append, List.append_assoc]
                have hst : strip { t with Pos := p } = t := by
                  have := hT.pos
                  obtain ⟨a, b, c, d⟩ := t
                  dsimp only at this
                  subst this
                  rfl
                rw [show List.map strip [{ t with Pos := p }] = [t] by rw [List.map_cons, hst]; rfl]
                exact this
            · refine ⟨.ret ([], p, e), ?_, .inr ⟨p, e, rfl, he⟩⟩
              unfold lexBody
              dsimp only
              rw [c1 (by simpa using hu)]
              refine bnd hb.1 ?_
              rw [c0 (df hneg), c0 (df hpos)]
              refine bnd hy ?_
              rw [c1 (by simpa using he)])
  refine exb ho ?_
  rcases hp with ⟨q, p, rfl, hL⟩ | ⟨p, e, rfl, he⟩
  · exact ⟨_, rfl, .inl ⟨rfl, hL⟩⟩
  · exact ⟨_, rfl, .inr ⟨he, rfl⟩⟩

/-! Tokens that stand again elsewhere. -/

end Go.Proofs.YtbolaohekbmndaaGreatDoor
