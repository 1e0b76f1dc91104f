/- Plain laws of layer 29 (CompileNone): what lexes, lexes for the reference too; and the law. No program is in sight here. -/
import Derived.Test.YtokpeeflnijogaaGreatDoorL29c
set_option linter.unusedVariables false
namespace Go.Proofs.YtokpeeflnijogaaGreatDoor

/-! Bytes between quotes. -/
theorem c3_ok {a b c : UInt8} {t : GToken} (h : c3 a b c = (t, 0)) : t.Text = [a, b, c] ∧ (c.toNat : Int) = 39 ∧ 32 ≤ (b.toNat : Int) ∧ (b.toNat : Int) ≤ 126 ∧ (b.toNat : Int) ≠ 39 ∧ (b.toNat : Int) ≠ 92 := by
  unfold c3 at h
  cases hb : cB a b c with
  | false => rw [hb] at h; cases h
  | true =>
    rw [hb] at h
    cases h
    unfold cB at hb
    simp only [Bool.and_eq_true, beq_iff_eq, decide_eq_true_eq, bne_iff_ne] at hb
    exact ⟨rfl, hb.1, hb.2.1, hb.2.2.1, hb.2.2.2.1, hb.2.2.2.2⟩
theorem byteEq {c : UInt8} {n : UInt8} (h : (c.toNat : Int) = (n.toNat : Int)) : c = n := UInt8.toNat_inj.1 (by omega)
def froms : List UInt8 := [110, 116, 114, 48, 92, 39]
theorem esc_ok {c : UInt8} {y : Int × Bool} (h : lex_escape (c.toNat : Int) = some y) (h2 : y.2 = true) : c ∈ froms := by
  have key : ∀ n : _root_.Fin 256, (match lex_escape (n.val : Int) with | some (_, true) => decide (UInt8.ofNat n.val ∈ froms) | _ => true) = true := by decide +kernel
  have := key ⟨c.toNat, c.toNat_lt⟩
  dsimp only at this
  rw [h] at this
  obtain ⟨a, b⟩ := y
  dsimp only at h2
  subst h2
  simpa using this
theorem quoted_sim {s : List UInt8} {k : Nat} (hk : k < s.length) (hl : s.length ≤ 100000) {t : GToken} (h : lex_char (s.drop k) = some (t, 0)) : ∃ v n : Int, ref07_quoted s (k : Int) = some (v, n) ∧ n = (t.Text.length : Int) ∧ 0 < n := by
  have short : ∀ l : List UInt8, l.length < 3 → lex_char l = some (tokZ, 3) := fun l h => by
    unfold lex_char
    rw [c0 (df (by omega)), c0 (df (by omega))]
    rfl
  have hdl : (s.drop k).length = s.length - k := by simp
  have h3 : 3 ≤ (s.drop k).length := by
    rcases Nat.lt_or_ge (s.drop k).length 3 with hh | hh
    · rw [short _ hh] at h; cases h
    · exact hh
  obtain ⟨a, b, c, l, hu⟩ : ∃ a b c l, s.drop k = a :: b :: c :: l := by
    match hq : s.drop k, h3 with
    | a :: b :: c :: l, _ => exact ⟨a, b, c, l, rfl⟩
  have g1 : s.drop (k + 1) = b :: c :: l := by rw [← List.drop_drop, hu]; rfl
  have g2 : s.drop (k + 2) = c :: l := by rw [← List.drop_drop, hu]; rfl
  have i1 : idx s (IntKind.wrap .i64 ((k : Int) + 1)) = some b := by
    have hlt : k + 1 < s.length := by omega
    rw [w64 (by omega), show (k : Int) + 1 = ((k + 1 : Nat) : Int) by omega, idx_get hlt]
    rw [List.drop_eq_getElem_cons hlt] at g1
    rw [(List.cons.inj g1).1]
  have i2 : idx s (IntKind.wrap .i64 ((k : Int) + 2)) = some c := by
    have hlt : k + 2 < s.length := by omega
    rw [w64 (by omega), show (k : Int) + 2 = ((k + 2 : Nat) : Int) by omega, idx_get hlt]
    rw [List.drop_eq_getElem_cons hlt] at g2
    rw [(List.cons.inj g2).1]
  have is1 : ref07_is s (IntKind.wrap .i64 ((k : Int) + 1)) [92] = some (decide (b = 92)) := by
    rw [w64 (by omega), show (k : Int) + 1 = ((k + 1 : Nat) : Int) by omega, is_eq (by omega) hl (by decide), g1]
    congr 1
    refine decide_eq_decide.2 ?_
    exact ⟨fun ⟨q, hq⟩ => (List.cons.inj hq).1.symm, fun hh => ⟨c :: l, by rw [hh]; rfl⟩⟩
  have is2 : ∀ m : List UInt8, m.length ≤ 10 → ref07_is s (IntKind.wrap .i64 ((k : Int) + 2)) m = some (decide (m <+: c :: l)) := fun m hm => by
    rw [w64 (by omega), show (k : Int) + 2 = ((k + 2 : Nat) : Int) by omega, is_eq (by omega) hl hm, g2]
  rw [hu] at h
  have hc3 : c3 a b c = (t, 0) → ∃ v n : Int, ref07_quoted s (k : Int) = some (v, n) ∧ n = (t.Text.length : Int) ∧ 0 < n := fun hq => by
    obtain ⟨q1, q2, q3, q4, q5, q6⟩ := c3_ok hq
    unfold ref07_quoted
    rw [is1, Option.bind_some, df (fun hb => q6 (by rw [hb]; rfl)), cond_false, c1 (dt (by rw [w64 (by omega)]; omega)), i1, Option.bind_some, c1 (dt q3), Option.bind_some, c1 (dt q4), Option.bind_some, c1 (by simpa using q5), i2, Option.bind_some, c1 (by simpa using q2), Option.bind_some]
    exact ⟨_, _, rfl, by rw [q1]; rfl, by decide⟩
  cases l with
  | nil =>
    rw [char_three] at h
    exact hc3 (Option.some.inj h)
  | cons d l =>
    rw [char_four] at h
    cases hb : ((b.toNat : Int) == 92 && (d.toNat : Int) == 39) with
    | false => rw [hb, cond_false] at h; exact hc3 (Option.some.inj h)
    | true =>
      rw [hb, cond_true] at h
      obtain ⟨y, hy, h⟩ := bindS h
      cases hy2 : y.2 with
      | false => rw [hy2] at h; cases h
      | true =>
        rw [hy2] at h
        cases h
        simp only [Bool.and_eq_true, beq_iff_eq] at hb
        have hb1 : b = 92 := byteEq (n := 92) hb.1
        have hd1 : d = 39 := byteEq (n := 39) hb.2
        subst hb1; subst hd1
        have hcf := esc_ok hy hy2
        have hin : ∀ m : UInt8, (decide ([m] ++ ([39] : List UInt8) <+: c :: 39 :: l)) = decide (m = c) := fun m => by
          refine decide_eq_decide.2 ?_
          exact ⟨fun ⟨q, hq⟩ => (List.cons.inj hq).1, fun hh => ⟨l, by rw [hh]; rfl⟩⟩
        unfold ref07_quoted
        rw [is1, Option.bind_some, dt rfl, cond_true]
        suffices hh : ∃ v : Int, (loopM (fun (x1 : Int) => (bif decide (x1 < (List.length ([([110] : List UInt8), ([116] : List UInt8), ([114] : List UInt8), ([48] : List UInt8), ([92] : List UInt8), ([39] : List UInt8)] : List (List UInt8)) : Int)) then ((idx ([([110] : List UInt8), ([116] : List UInt8), ([114] : List UInt8), ([48] : List UInt8), ([92] : List UInt8), ([39] : List UInt8)] : List (List UInt8)) x1).bind fun u1 => (room (List.length u1 + List.length ([39] : List UInt8))).bind fun _ => (ref07_is s (IntKind.wrap .i64 ((k : Int) + 2)) (u1 ++ ([39] : List UInt8))).bind fun y2 => bif y2 then ((idx ([10, 9, 13, 0, 92, 39] : List Int) x1).bind fun u2 => some (Lp.ret (u2, (4 : Int)))) else (some (Lp.go (IntKind.wrap .i64 (x1 + 1))))) else (some (Lp.brk x1)) : Option (Lp (Int) (Int × Int)))) NN (0 : Int)).bind (fun o => o.thn (fun (x1 : Int) => some ((0 : Int), (0 : Int))) (fun r => some r)) = some (v, 4) by
          obtain ⟨v, hv⟩ := hh
          exact ⟨v, 4, hv, rfl, by decide⟩
        have fL : ([([110] : List UInt8), ([116] : List UInt8), ([114] : List UInt8), ([48] : List UInt8), ([92] : List UInt8), ([39] : List UInt8)] : List (List UInt8)) = froms.map fun m => [m] := rfl
        rw [fL]
        obtain ⟨i, hi, hci⟩ := List.getElem_of_mem hcf
        have hfl : froms.length = 6 := rfl
        refine ⟨?_, find_bind froms (fun m => decide (m = c)) (fun i => (([10, 9, 13, 0, 92, 39] : List Int).getD i 0, 4)) (by decide) (fun j hj => ?_) (by rfl) ?_⟩
        · exact ([10, 9, 13, 0, 92, 39] : List Int).getD ((froms.findIdx? fun m => decide (m = c)).getD 0) 0
        · rw [c1 (dt (by rw [List.length_map]; omega)), idx_get (by rw [List.length_map]; exact hj), Option.bind_some, List.getElem_map, room_ok (by simp), Option.bind_some, is2 _ (by simp), Option.bind_some, hin]
          rw [idx_get (l := ([10, 9, 13, 0, 92, 39] : List Int)) (by rw [hfl] at hj; exact hj), Option.bind_some]
          rw [show ([10, 9, 13, 0, 92, 39] : List Int).getD j 0 = ([10, 9, 13, 0, 92, 39] : List Int)[j]'(by rw [hfl] at hj; exact hj) by rw [List.getD_eq_getElem?_getD, List.getElem?_eq_getElem (by rw [hfl] at hj; exact hj)]; rfl]
          cases decide (froms[j] = c) <;> rfl
        · cases hf : froms.findIdx? fun m => decide (m = c) with
          | some i => rfl
          | none =>
            exfalso
            have := List.findIdx?_eq_none_iff.1 hf c hcf
            simp at this
/-! Marks. -/
def bestS (u : List UInt8) : List (List UInt8) → List UInt8 → List UInt8
  | [], b => b
  | m :: r, b => bestS u r (if m <+: u ∧ b.length < m.length then m else b)
theorem best_in (u : List UInt8) : ∀ (l : List (List UInt8)) (b : List UInt8), (bestS u l b = b ∨ (bestS u l b ∈ l ∧ bestS u l b <+: u)) ∧ b.length ≤ (bestS u l b).length ∧ ∀ m ∈ l, m <+: u → m.length ≤ (bestS u l b).length
  | [], b => ⟨.inl rfl, Nat.le_refl _, fun m hm => by cases hm⟩
  | x :: r, b => by
    obtain ⟨h1, h2, h3⟩ := best_in u r (if x <+: u ∧ b.length < x.length then x else b)
    have e : bestS u (x :: r) b = bestS u r (if x <+: u ∧ b.length < x.length then x else b) := rfl
    rw [e]
    generalize bestS u r (if x <+: u ∧ b.length < x.length then x else b) = z at *
    by_cases hx : x <+: u ∧ b.length < x.length
    · rw [if_pos hx] at h1 h2
      refine ⟨.inr ?_, by omega, fun m hm hp => ?_⟩
      · rcases h1 with rfl | ⟨a, c⟩
        · exact ⟨by simp, hx.1⟩
        · exact ⟨by simp [a], c⟩
      · rcases List.mem_cons.1 hm with rfl | hm
        · exact h2
        · exact h3 m hm hp
    · rw [if_neg hx] at h1 h2
      refine ⟨?_, h2, fun m hm hp => ?_⟩
      · rcases h1 with h1 | ⟨a, c⟩
        · exact .inl h1
        · exact .inr ⟨by simp [a], c⟩
      · rcases List.mem_cons.1 hm with rfl | hm
        · have : ¬ b.length < m.length := fun hh => hx ⟨hp, hh⟩
          omega
        · exact h3 m hm hp
theorem tbl_small : ∀ m ∈ tbl2, m.length ≤ 10 := by decide +kernel
theorem best_take (u : List UInt8) : ∀ (l : List (List UInt8)) (b : List UInt8) (n : Nat) (h : n < l.length), bestS u (l.take (n + 1)) b = if l[n] <+: u ∧ (bestS u (l.take n) b).length < l[n].length then l[n] else bestS u (l.take n) b
  | x :: r, b, 0, h => rfl
  | x :: r, b, n + 1, h => best_take u r _ n (by simpa using h)
theorem rmark_eq {s : List UInt8} {k : Nat} (hk : k ≤ s.length) (hl : s.length ≤ 100000) : ref07_mark s (k : Int) = some (bestS (s.drop k) tbl2 []) := by
  unfold ref07_mark
  have h46 : tbl2.length < 100 := by decide
  refine run_bind (fun j => (bestS (s.drop k) (tbl2.take j) [], (j : Int))) tbl2.length (.brk (bestS (s.drop k) tbl2 [], (tbl2.length : Int))) rfl (by omega) (fun j hj => ?_) ?_ trivial rfl
  · dsimp only
    simp only [jn]
    rw [c1 (dt (by omega)), idx_get hj, Option.bind_some, is_eq hk hl (tbl_small _ (List.getElem_mem hj)), Option.bind_some, Option.bind_some, Option.bind_some, w64 (by omega), best_take _ _ _ _ hj]
    by_cases h1 : tbl2[j] <+: s.drop k
    · rw [dt h1, cond_true]
      by_cases h2 : (bestS (s.drop k) (tbl2.take j) []).length < tbl2[j].length
      · rw [c1 (dt (by omega)), if_pos ⟨h1, h2⟩]; rfl
      · rw [c0 (df (by omega)), if_neg fun hh => h2 hh.2]; rfl
    · rw [df h1, cond_false, if_neg fun hh => h1 hh.1]; rfl
  · dsimp only
    rw [c0 (dge _), List.take_length]
theorem marks_in : ∀ m ∈ tbl2, m ∈ marks := by decide +kernel
theorem tbl_in : ∀ m ∈ marks, m ∈ tbl2 := by decide +kernel
theorem marks_desc : ∀ j : _root_.Fin marks.length, ∀ i : _root_.Fin marks.length, i.val ≤ j.val → (marks[j]).length ≤ (marks[i]).length := by decide +kernel
theorem best_mark {u : List UInt8} (h : markS u ≠ []) : bestS u tbl2 [] = markS u := by
  cases hf : marks.findIdx? (fun m => decide (m <+: u)) with
  | none => exact absurd (by unfold markS; rw [hf]) h
  | some k =>
    obtain ⟨hk, hp, hlt⟩ := List.findIdx?_eq_some_iff_getElem.1 hf
    have hmk : markS u = marks[k] := by unfold markS; rw [hf]; simp [hk]
    have hp' : marks[k] <+: u := by simpa using hp
    obtain ⟨h1, h2, h3⟩ := best_in u tbl2 []
    have hge := h3 marks[k] (tbl_in _ (List.getElem_mem hk)) hp'
    have hpos : 0 < marks[k].length := List.length_pos_iff.2 (marks_ok _ (List.getElem_mem hk)).1
    rw [hmk]
    rcases h1 with h1 | ⟨a, c⟩
    · rw [h1, List.length_nil] at hge; omega
    · obtain ⟨j, hj, hjm⟩ := List.getElem_of_mem (marks_in _ a)
      have hkj : k ≤ j := by
        rcases Nat.lt_or_ge j k with hh | hh
        · have := hlt j hh
          rw [hjm] at this
          simp at this
          exact absurd c this
        · exact hh
      have hle := marks_desc ⟨j, hj⟩ ⟨k, hk⟩ hkj
      have hle : (bestS u tbl2 []).length ≤ marks[k].length := by rw [← hjm]; exact hle
      obtain ⟨q1, e1⟩ := c
      obtain ⟨q2, e2⟩ := hp'
      exact (List.append_inj (e1.trans e2.symm) (by omega)).1
/-! Tokens. -/
theorem One_sim {s : List UInt8} {k : Nat} (hk : k < s.length) (hl : s.length ≤ 100000) {t : GToken} (h : lex_token (s.drop k) = some (t, 0)) : ∃ y, ref07_One s (k : Int) = some (y, 0) ∧ y.Text.length = t.Text.length := by
  have hdl : (s.drop k).length = s.length - k := by simp
  have hu : s.drop k = s[k] :: s.drop (k + 1) := List.drop_eq_getElem_cons hk
  have hle := sp_le moreB (s.drop k)
  have htl : ((s.drop k).take (sp moreB (s.drop k))).length = sp moreB (s.drop k) := by rw [List.length_take]; omega
  rw [hu, token_key, ← hu] at h
  unfold ref07_One
  rw [idx_get hk, Option.bind_some, rLetter_eq, Option.bind_some]
  cases hlet : letB (s[k].toNat : Int) with
  | true =>
    rw [hlet, cond_true, span2_eq _ (by omega), Option.bind_some, sub_take hle, Option.bind_some] at h
    rw [cond_true, run_eq (by omega) hl, Option.bind_some]
    by_cases h31 : (31 : Int) < ((sp moreB (s.drop k) : Nat) : Int)
    · rw [c1 (dt h31)] at h; cases h
    · rw [c0 (df h31)] at h ⊢
      simp only [jn] at h ⊢
      rw [w64 (by omega), sub_mid (by omega), Option.bind_some, rWord_eq, Option.bind_some]
      rw [Word_eq, Option.bind_some] at h
      cases hw : wordB ((s.drop k).take (sp moreB (s.drop k))) with
      | true => rw [hw] at h; cases h; exact ⟨_, rfl, rfl⟩
      | false => rw [hw] at h; cases h; exact ⟨_, rfl, rfl⟩
  | false =>
    rw [hlet, cond_false] at h
    rw [cond_false, rDigit_eq, Option.bind_some]
    cases hdig : digB (s[k].toNat : Int) with
    | true =>
      rw [hdig, cond_true, number_eq _ (by omega)] at h
      obtain ⟨y, hy, h⟩ := bindS h
      have h0 : y.2 = 0 := congrArg Prod.snd (Option.some.inj h)
      have h1 : y.1 = t := congrArg Prod.fst (Option.some.inj h)
      obtain ⟨n, hn⟩ := number_sim _ (by rw [htl]; omega) hy h0
      obtain ⟨y', hy', ht⟩ := numT_total ((s.drop k).take (sp moreB (s.drop k))) (by rw [htl]; omega)
      rw [hy] at hy'
      cases hy'
      have ht := (ht h0).1
      rw [cond_true, run_eq (by omega) hl, Option.bind_some, w64 (by omega), sub_mid (by omega), Option.bind_some, hn, Option.bind_some]
      exact ⟨_, rfl, by rw [← h1, ht]⟩
    | false =>
      rw [hdig, cond_false] at h
      rw [cond_false]
      cases hq : ((s[k].toNat : Int) == 39) with
      | true =>
        rw [hq, cond_true] at h
        obtain ⟨y, hy, h⟩ := bindS h
        have h0 : y.2 = 0 := congrArg Prod.snd (Option.some.inj h)
        have h1 : y.1 = t := congrArg Prod.fst (Option.some.inj h)
        obtain ⟨y1, y2⟩ := y
        dsimp only at h0 h1
        subst h0; subst h1
        obtain ⟨v, n, q1, q2, q3⟩ := quoted_sim hk hl hy
        obtain ⟨y', hy', hc⟩ := char_spec (s.drop k)
        rw [hy] at hy'
        cases hy'
        have hpl := (hc rfl).1.length_le
        dsimp only at hpl
        rw [cond_true, q1, Option.bind_some, c0 (by simp; omega)]
        dsimp only
        rw [q2, w64 (by omega), sub_mid (by omega), Option.bind_some]
        refine ⟨_, rfl, ?_⟩
        rw [List.length_take]
        omega
      | false =>
        rw [hq, cond_false, mark_eq, Option.bind_some] at h
        rw [cond_false, rmark_eq (by omega) hl, Option.bind_some]
        by_cases hm : markS (s.drop k) = []
        · rw [c1 (dt hm)] at h; cases h
        · rw [c0 (df hm)] at h
          cases h
          rw [best_mark hm, c0 (df hm)]
          exact ⟨_, rfl, rfl⟩
/-! Whole texts. -/
def rB (p0 : List UInt8) : ref07Lexed → Option (Lp ref07Lexed ref07Lexed) := fun (x2 : ref07Lexed) => (bif decide (x2.At < (List.length p0 : Int)) then ((ref07_Blank p0 x2.At).bind fun y1 => bif decide (y1 < 0) then (some (Lp.ret (⟨[], x2.At, 3⟩ : ref07Lexed))) else (bif decide (0 < y1) then (some (Lp.go ({ x2 with At := IntKind.wrap .i64 (x2.At + y1) }))) else ((ref07_One p0 x2.At).bind fun y2 => bif y2.2 != 0 then (some (Lp.ret (⟨[], x2.At, y2.2⟩ : ref07Lexed))) else ((room (List.length x2.L + List.length ([y2.1] : List ref07Token))).bind fun _ => some (Lp.go (⟨x2.L ++ ([y2.1] : List ref07Token), IntKind.wrap .i64 (x2.At + (List.length y2.1.Text : Int)), x2.E⟩ : ref07Lexed)))))) else (some (Lp.brk x2)))
theorem rB_blank {s : List UInt8} {k : Nat} (hk : k < s.length) (hl : s.length ≤ 100000) {L : List ref07Token} {n : Nat} (hn : (bif blB s[k] then 1 else blS (s.drop k)) = (n : Int)) (h0 : 0 < n) (h : 0 ≤ blS (s.drop k)) (hle : k + n ≤ s.length) : rB s ⟨L, (k : Int), 0⟩ = some (.go ⟨L, ((k + n : Nat) : Int), 0⟩) := by
  unfold rB
  dsimp only
  rw [c1 (dt (by omega)), Blank_eq hk hl h, Option.bind_some, hn, c0 (df (by omega)), c1 (dt (by omega)), w64 (by omega)]
  rfl
/-- Blanks are taken one by one. -/
theorem rB_blanks {s : List UInt8} (hl : s.length ≤ 100000) (L : List ref07Token) : ∀ (n k f : Nat), k ≤ s.length → n ≤ sp blB (s.drop k) → loopM (rB s) (f + n) ⟨L, (k : Int), 0⟩ = loopM (rB s) f ⟨L, ((k + n : Nat) : Int), 0⟩
  | 0, k, f, _, _ => rfl
  | n + 1, k, f, hk, hn => by
    have hsl := sp_le blB (s.drop k)
    have hdl : (s.drop k).length = s.length - k := by simp
    have hlt : k < s.length := by omega
    have hu : s.drop k = s[k] :: s.drop (k + 1) := List.drop_eq_getElem_cons hlt
    have hsp : sp blB (s.drop k) = if blB s[k] then sp blB (s.drop (k + 1)) + 1 else 0 := by rw [hu]; rfl
    have hb : blB s[k] = true := by
      cases hh : blB s[k] with
      | true => rfl
      | false => rw [hsp, hh] at hn; simp at hn
    rw [hsp, if_pos hb] at hn
    have h47 : s[k] ≠ 47 := fun hh => by rw [hh] at hb; revert hb; decide
    have n1 : ¬ ([47, 47] : List UInt8) <+: s.drop k := fun ⟨q, hq⟩ => by rw [hu] at hq; exact h47 (List.cons.inj hq).1.symm
    have n2 : ¬ ([47, 42] : List UInt8) <+: s.drop k := fun ⟨q, hq⟩ => by rw [hu] at hq; exact h47 (List.cons.inj hq).1.symm
    have hbl : 0 ≤ blS (s.drop k) := by unfold blS; rw [if_neg n1, if_neg n2]; omega
    show loopM (rB s) ((f + n) + 1) _ = _
    unfold loopM
    rw [rB_blank hlt hl (n := 1) (by rw [hb]; rfl) (by decide) hbl (by omega)]
    show loopM (rB s) (f + n) _ = _
    rw [rB_blanks hl L n (k + 1) f (by omega) (by omega)]
    rw [show k + 1 + n = k + (n + 1) by omega]
    cases f <;> rfl
theorem ref_run {s : List UInt8} (hl : s.length ≤ 100000) {u : List UInt8} {ts : List GToken} (h : Lx u ts) : ∀ (k : Nat) (L : List ref07Token) (f : Nat), u = s.drop k → k ≤ s.length → L.length + u.length ≤ 1000000 → u.length < f → ∃ L', loopM (rB s) f ⟨L, (k : Int), 0⟩ = some (.brk ⟨L', (s.length : Int), 0⟩) := by
  induction h with
  | nil =>
    intro k L f hu hk hL hf
    have hks : k = s.length := by
      have := congrArg List.length hu
      simp at this
      omega
    subst hks
    obtain ⟨f, rfl⟩ : ∃ g, f = g + 1 := ⟨f - 1, by omega⟩
    refine ⟨L, ?_⟩
    unfold loopM
    rw [show rB s ⟨L, (s.length : Int), 0⟩ = some (.brk ⟨L, (s.length : Int), 0⟩) by unfold rB; dsimp only; rw [c0 (dge _)]]
  | @blank u ts hs n hn h0 kk ih =>
    intro k L f hu hk hL hf
    subst hu
    have hdl : (s.drop k).length = s.length - k := by simp
    have hle := (blank_eq (s.drop k) (by omega)).2
    rw [hn] at hle
    have hlt : k < s.length := by omega
    cases hb : blB s[k] with
    | true =>
      have hu : s.drop k = s[k] :: s.drop (k + 1) := List.drop_eq_getElem_cons hlt
      have h47 : s[k] ≠ 47 := fun hh => by rw [hh] at hb; revert hb; decide
      have n1 : ¬ ([47, 47] : List UInt8) <+: s.drop k := fun ⟨q, hq⟩ => by rw [hu] at hq; exact h47 (List.cons.inj hq).1.symm
      have n2 : ¬ ([47, 42] : List UInt8) <+: s.drop k := fun ⟨q, hq⟩ => by rw [hu] at hq; exact h47 (List.cons.inj hq).1.symm
      have hsp : n = sp blB (s.drop k) := by unfold blS at hn; rw [if_neg n1, if_neg n2] at hn; omega
      obtain ⟨f, rfl⟩ : ∃ g, f = g + n := ⟨f - n, by omega⟩
      rw [rB_blanks hl L n k f hk (by omega)]
      exact ih (k + n) L f (by rw [List.drop_drop]) (by omega) (by rw [List.length_drop]; omega) (by rw [List.length_drop]; omega)
    | false =>
      obtain ⟨f, rfl⟩ : ∃ g, f = g + 1 := ⟨f - 1, by omega⟩
      unfold loopM
      rw [rB_blank hlt hl (n := n) (by rw [hb]; exact hn) h0 (by omega) (by omega)]
      exact ih (k + n) L f (by rw [List.drop_drop]) (by omega) (by rw [List.length_drop]; omega) (by rw [List.length_drop]; omega)
  | @tok u t ts hs hb ht kk ih =>
    intro k L f hu hk hL hf
    subst hu
    have hdl : (s.drop k).length = s.length - k := by simp
    have hlt : k < s.length := by
      have := List.length_pos_iff.2 hs
      omega
    obtain ⟨y, hy, hp⟩ := token_spec (s.drop k) hs (by omega)
    rw [ht] at hy
    cases hy
    have hT : Tok t (s.drop k) := hp rfl
    have hpl := hT.pre.length_le
    have hne : 1 ≤ t.Text.length := List.length_pos_iff.2 hT.ne
    obtain ⟨n1, n2, n3⟩ := bl_zero hs hb
    have hu : s.drop k = s[k] :: s.drop (k + 1) := List.drop_eq_getElem_cons hlt
    have hbf : blB s[k] = false := by
      cases hh : blB s[k] with
      | false => rfl
      | true =>
        rw [hu, show sp blB (s[k] :: s.drop (k + 1)) = if blB s[k] then sp blB (s.drop (k + 1)) + 1 else 0 from rfl, if_pos hh] at n3
        omega
    obtain ⟨y, hy, hyl⟩ := One_sim hlt hl ht
    obtain ⟨f, rfl⟩ : ∃ g, f = g + 1 := ⟨f - 1, by omega⟩
    unfold loopM
    have e : rB s ⟨L, (k : Int), 0⟩ = some (.go ⟨L ++ [y], ((k + t.Text.length : Nat) : Int), 0⟩) := by
      unfold rB
      dsimp only
      rw [c1 (dt (by omega)), Blank_eq hlt hl (by omega), Option.bind_some, hbf, cond_false, hb, c0 (by decide), c0 (by decide), hy, Option.bind_some, c0 (by rfl), room_ok (by simp; omega), Option.bind_some, hyl, w64 (by omega)]
      rfl
    rw [e]
    exact ih (k + t.Text.length) (L ++ [y]) f (by rw [List.drop_drop]) (by omega) (by rw [List.length_drop]; simp; omega) (by rw [List.length_drop]; omega)
theorem ref_ok {s : List UInt8} {ts : List GToken} (h : Lx s ts) (hl : s.length ≤ 65536) : ∃ r, ref07_Lex s = some r ∧ r.E = 0 := by
  obtain ⟨L', hr⟩ := ref_run (s := s) (by omega) h 0 [] NN (by simp) (by omega) (by simp; omega) (NN_big (by omega))
  refine ⟨⟨L', (s.length : Int), 0⟩, ?_, rfl⟩
  unfold ref07_Lex
  rw [c0 (df (by omega))]
  exact bnd hr rfl
end Go.Proofs.YtokpeeflnijogaaGreatDoor
