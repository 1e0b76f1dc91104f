/- The plain laws of the listing of words. No program is in sight here. -/
import Derived.Test.YtcmncppbonaaeaaGreatDoorL06j
set_option linter.unusedVariables false
namespace Go.Proofs.YtcmncppbonaaeaaGreatDoor

theorem join_no {c : UInt8} (h1 : c ≠ 44) (h2 : c ≠ 32) : ∀ (r : List (List UInt8)) (x : List UInt8), (∀ y ∈ x :: r, c ∉ y) → c ∉ Lib.join (x :: r) [44, 32]
  | [], x, h => by
    rw [Lib.join_one]
    exact h x (List.mem_cons_self ..)
  | y :: r, x, h => by
    rw [join_cons2]
    simp only [List.mem_append, List.mem_cons, List.mem_nil_iff, not_or, or_false]
    exact ⟨h x (List.mem_cons_self ..), h1, h2, join_no h1 h2 r y fun z hz => h z (List.mem_cons_of_mem _ hz)⟩
theorem ops_no10 (i : GInst) : ∀ y ∈ ops i, (10 : UInt8) ∉ y := by
  have hr : ∀ n, (10 : UInt8) ∉ rgs n := fun n => rgs_no (by decide) (by decide) (by decide)
  have hi : ∀ n, (10 : UInt8) ∉ Lib.itoa n := fun n => itoa_no (by decide) (by decide)
  have hb : ∀ n r, (10 : UInt8) ∉ bh n r := by
    intro n r
    unfold bh
    simp only [List.mem_append, List.mem_cons, List.mem_nil_iff, not_or, or_false]
    exact ⟨hi n, by decide, hr r, by decide⟩
  unfold ops
  repeat' split
  all_goals
    intro y hy
    simp only [List.mem_cons, List.mem_nil_iff, or_false] at hy
    rcases hy with rfl | rfl | rfl
    all_goals first | exact hr _ | exact hi _ | exact hb _ _
theorem pre_no (k w : Nat) : (10 : UInt8) ∉ preS k w := by
  have hh : ∀ k n, (10 : UInt8) ∉ hexK k n := fun k n h => by have := hexK_mem k n _ h; revert this; decide
  have hb : (10 : UInt8) ∉ bodyS w := by
    unfold bodyS
    cases hd : decO w with
    | none =>
      simp only [List.mem_append, not_or]
      exact ⟨by decide, hh _ _⟩
    | some o =>
      obtain ⟨x, r, hx⟩ := ops_ne (decI o w)
      simp only [lineS, List.mem_append, List.mem_cons, not_or]
      refine ⟨fun hm => by have := name_low _ _ hm; revert this; decide, by decide, ?_⟩
      rw [hx]
      exact join_no (by decide) (by decide) r x fun y hy => ops_no10 (decI o w) y (by rw [hx]; exact hy)
  unfold preS
  simp only [List.mem_append, List.mem_cons, not_or]
  exact ⟨hh _ _, by decide, by decide, hb⟩
/-- The lines of words. -/
def lnw : Nat → List Int → List (List UInt8)
  | _, [] => []
  | k, w :: l => (preS k w.toNat ++ [10]) :: lnw (k + 1) l
theorem lnw_len : ∀ (l : List Int) (k : Nat), (lnw k l).length = l.length
  | [], _ => rfl
  | _ :: l, k => by simp [lnw, lnw_len l (k + 1)]
theorem lnw_at : ∀ (l : List Int) (k j : Nat) (h : j < l.length), (lnw k l)[j]? = some (preS (k + j) l[j].toNat ++ [10])
  | [], _, _, h => by cases h
  | w :: l, k, 0, h => rfl
  | w :: l, k, j + 1, h => by
    simp only [lnw, List.getElem?_cons_succ]
    rw [lnw_at l (k + 1) j (by simpa using h), show k + 1 + j = k + (j + 1) by omega]
    rfl
theorem split_txt : ∀ (l : List Int) (k : Nat), Lib.splitK [10] 1 (Lib.count (txt k l) [10]) (txt k l) = lnw k l ++ [[]]
  | [], _ => rfl
  | w :: l, k => by
    have e : txt k (w :: l) = preS k w.toNat ++ 10 :: ([] ++ txt (k + 1) l) := by simp [txt]
    rw [e, count_sep (pre_no k w.toNat), Nat.add_comm, splitK_sep 1 _ (pre_no k w.toNat), split_txt l (k + 1)]
    rfl
theorem Words_txt {l : List Int} (hu : U32 l) (hl : l.length ≤ 60) : listing_Words (txt 0 l) = some (l, 0) := by
  have hlen := txt_len l 0
  unfold listing_Words strings_SplitAfter strings_genSplit
  rw [c0 (df (by omega)), if_pos ⟨by omega, by simp, by simp, by simp, rfl⟩, Option.bind_some, Option.bind_some, show (([10] : List UInt8).length : Int).toNat = 1 from rfl, split_txt]
  have hPl : (lnw 0 l ++ [[]]).length = l.length + 1 := by rw [List.length_append, lnw_len]; rfl
  refine run_bind (fun j => (l.take j, (j : Int))) (l.length + 1) (.brk (l, ((l.length + 1 : Nat) : Int))) rfl (by omega) (fun j hj => ?_) ?_ trivial ?_
  · simp only []
    unfold jn
    rw [c1 (dt (by rw [hPl]; omega))]
    show (Option.bind (idx _ _) _) = _
    by_cases hjl : j < l.length
    · obtain ⟨w, hw, hw2⟩ := nat_of (hu l[j] (List.getElem_mem hjl))
      have hat : idx (lnw 0 l ++ [[]]) (j : Int) = some (preS j w ++ [10]) := by
        rw [idx_nat (by omega), Int.toNat_natCast, List.getElem?_append_left (by rw [lnw_len]; exact hjl), lnw_at l 0 j hjl, hw, Nat.zero_add, Int.toNat_natCast]
      have hb := body_len w
      have hp := pre_len j w
      have hdrop : (preS j w ++ [10]).drop 10 = bodyS w ++ [10] := by
        unfold preS
        rw [List.append_assoc, List.drop_append, hexK_len, List.drop_of_length_le (by simp [hexK_len])]
        simp
      have hsub : sub (preS j w ++ [10]) 10 ((preS j w ++ [10]).length : Int) = some (bodyS w ++ [10]) := by
        unfold sub
        rw [if_pos ⟨by omega, by simp only [List.length_append, hp]; omega, by omega⟩, Int.toNat_natCast, List.take_length, show Int.toNat 10 = 10 from rfl, hdrop]
      rw [hat, Option.bind_some, c0 (df (by simp)), c0 (df (by simp only [List.length_append, hp, List.length_cons, List.length_nil]; omega)), c0 (by rw [List.length_take]; simp; omega), hsub, Option.bind_some]
      unfold strings_TrimSuffix
      rw [if_pos (by simp only [List.length_append, List.length_cons, List.length_nil]; omega), Option.bind_some, trimSuffix_app, word_body hw2, Option.bind_some, room_ok (by simp only [List.length_take, List.length_cons, List.length_nil]; omega), Option.bind_some, List.take_succ_eq_append_getElem hjl, hw, w64 (by omega)]
      rfl
    · have hj2 : j = l.length := by omega
      subst hj2
      have hat : idx (lnw 0 l ++ [[]]) ((l.length : Nat) : Int) = some [] := by
        rw [idx_nat (by omega), Int.toNat_natCast, List.getElem?_append_right (by rw [lnw_len]; omega), lnw_len, Nat.sub_self]
        rfl
      rw [hat, Option.bind_some, c1 (dt rfl), List.take_length, List.take_of_length_le (by omega), w64 (by omega)]
      rfl
  · simp only []
    rw [c0 (df (by rw [hPl]; omega)), List.take_of_length_le (by omega)]
  · show ((listing_Text l).bind _) = _
    rw [Text_eq hu (by omega), Option.bind_some]
    simp
/-- What is read is a text's words. -/
theorem Words_tot {s : List UInt8} (h : s.length ≤ 2097152) : ∃ r, listing_Words s = some r ∧ (r = ([], 3) ∨ ∃ x, r = (x, 0) ∧ U32 x ∧ x.length ≤ 40000 ∧ txt 0 x = s) := by
  unfold listing_Words strings_SplitAfter strings_genSplit
  rw [c0 (df (by omega)), if_pos ⟨by omega, by simp, by simp, by simp, rfl⟩, Option.bind_some, Option.bind_some, show (([10] : List UInt8).length : Int).toNat = 1 from rfl]
  have hP := splitK_len [10] 1 (Lib.count s [10]) s
  have hPl : (Lib.splitK [10] 1 (Lib.count s [10]) s).length ≤ s.length + 2 := by
    have hk : ∀ (k : Nat) (s : List UInt8), (Lib.splitK [10] 1 k s).length ≤ k + 1 := by
      intro k
      induction k with
      | zero => intro s; simp [Lib.splitK]
      | succ k ih =>
        intro s
        unfold Lib.splitK
        split
        · simp
        · have := ih (s.drop ((Lib.index s [10]).toNat + ([10] : List UInt8).length))
          simp only [List.length_cons] at this ⊢
          omega
    have := hk (Lib.count s [10]) s
    have := Lib.count_le s [10]
    omega
  generalize Lib.splitK [10] 1 (Lib.count s [10]) s = P at hP hPl ⊢
  obtain ⟨o, ho, hpost⟩ := loop_some (n := NN) (s := (([] : List Int), (0 : Int))) (body := fun (x1, x2) => (bif decide (x2 < (List.length P : Int)) then (jn (fun kk1 => (idx P x2).bind fun u1 => bif decide (u1 = ([] : List UInt8)) then (kk1 x1) else (bif decide ((List.length u1 : Int) < 10) then (some (Lp.ret ([], (3 : Int)))) else (bif (List.length x1 : Int) == 40000 then (some (Lp.ret ([], (3 : Int)))) else ((sub u1 10 (List.length u1 : Int)).bind fun u2 => (strings_TrimSuffix u2 ([10] : List UInt8)).bind fun y2 => (listing_word y2).bind fun y3 => (room (List.length x1 + List.length ([y3] : List Int))).bind fun _ => kk1 (x1 ++ ([y3] : List Int)))))) (fun (x3 : List Int) => some (Lp.go (x3, IntKind.wrap .i64 (x2 + 1))))) else (some (Lp.brk (x1, x2))) : Option (Lp ((List Int) × Int) ((List Int) × Int))))
    (fun st => U32 st.1 ∧ st.1.length ≤ 40000 ∧ ∃ k : Nat, st.2 = (k : Int) ∧ k ≤ P.length) (fun st => P.length - st.2.toNat) (fun o => (∃ x i, o = .brk (x, i) ∧ U32 x ∧ x.length ≤ 40000) ∨ o = .ret ([], 3)) ⟨fun x hx => (by cases hx), by simp, 0, rfl, by omega⟩ (NN_big (by show P.length - (0 : Int).toNat < _; omega)) (by
      rintro ⟨x1, x2⟩ ⟨hu, hl, k, hk, hk2⟩
      simp only at hu hl hk
      subst hk
      simp only []
      unfold jn
      by_cases hkl : k < P.length
      · have hgo : ∀ x : List Int, U32 x → x.length ≤ 40000 → (U32 x ∧ x.length ≤ 40000 ∧ ∃ k' : Nat, IntKind.wrap .i64 ((k : Int) + 1) = (k' : Int) ∧ k' ≤ P.length) ∧ P.length - (IntKind.wrap .i64 ((k : Int) + 1)).toNat < P.length - (k : Int).toNat := by
          intro x hx hxl
          rw [w64 (by omega)]
          exact ⟨⟨hx, hxl, k + 1, by omega, by omega⟩, by omega⟩
        rw [c1 (dlt hkl)]
        show ∃ z, (Option.bind (idx _ _) _) = some z ∧ _
        rw [idx_get hkl, Option.bind_some]
        by_cases h0 : P[k] = []
        · rw [c1 (dt h0)]
          exact ⟨_, rfl, hgo x1 hu hl⟩
        rw [c0 (df h0)]
        by_cases h1 : ((P[k]).length : Int) < 10
        · rw [c1 (dt h1)]
          exact ⟨_, rfl, .inr rfl⟩
        rw [c0 (df h1)]
        by_cases h2 : (x1.length : Int) = 40000
        · rw [c1 (by simpa using h2)]
          exact ⟨_, rfl, .inr rfl⟩
        have hpk := hP P[k] (List.getElem_mem hkl)
        rw [c0 (by simpa using h2)]
        unfold sub
        rw [if_pos ⟨by omega, by omega, by omega⟩, Option.bind_some]
        unfold strings_TrimSuffix
        have hts := Lib.trimSuffix_le (((P[k]).take ((P[k]).length : Int).toNat).drop (Int.toNat 10)) [10]
        have hts2 : (((P[k]).take ((P[k]).length : Int).toNat).drop (Int.toNat 10)).length ≤ 2097152 := by simp only [List.length_drop, List.length_take]; omega
        obtain ⟨n, hn, hn2⟩ := word_tot (s := Lib.trimSuffix (((P[k]).take ((P[k]).length : Int).toNat).drop (Int.toNat 10)) [10]) (by omega)
        rw [if_pos (by omega), Option.bind_some, hn, Option.bind_some, room_ok (by simp only [List.length_cons, List.length_nil]; omega), Option.bind_some]
        refine ⟨_, rfl, hgo _ ?_ ?_⟩; rotate_left
        · (simp only [List.length_append, List.length_cons, List.length_nil]; omega)
        intro x hx
        rcases List.mem_append.1 hx with hx | hx
        · exact hu x hx
        · rw [List.mem_singleton.1 hx]; omega
      · rw [c0 (df (by omega))]
        exact ⟨_, rfl, .inl ⟨x1, _, rfl, hu, hl⟩⟩)
  rw [ho, Option.bind_some]
  rcases hpost with ⟨x, i, rfl, hu, hl⟩ | rfl
  · show ∃ r, ((listing_Text x).bind _) = some r ∧ _
    rw [Text_eq hu hl, Option.bind_some]
    by_cases he : txt 0 x = s
    · exact ⟨(x, 0), by simp [he], .inr ⟨x, rfl, hu, hl, he⟩⟩
    · exact ⟨([], 3), by simp [he], .inl rfl⟩
  · exact ⟨_, rfl, .inl rfl⟩

/-- The law of texts. -/
theorem Texts_law (l : List Int) (hu : U32 l) : law06_ListingTexts l = some true := by
  unfold law06_ListingTexts
  by_cases h60 : 60 < (l.length : Int)
  · rw [c1 (dt h60), awake_eq]; rfl
  rw [c0 (df h60), Text_eq hu (by omega), Option.bind_some, Words_txt hu (by omega), Option.bind_some]
  simp only [show ((0 : Int) != 0) = false from rfl, cond_false]
  rw [rText_eq hu (by omega), Option.bind_some, c0 (by simp), c0 (by simp)]
  refine run_bind (fun k => (k : Int)) l.length (.brk (l.length : Int)) rfl (by omega) (fun k hk => ?_) (by rw [c0 (dge _)]) trivial (by show (law06_awake.bind _) = _; rw [awake_eq]; rfl)
  rw [c1 (dlt hk), idx_get hk, Option.bind_some, Option.bind_some, c0 (by simp), w64 (by omega)]
  rfl
/-- The law of words. -/
theorem Words_law (s : List UInt8) : law06_ListingWords s = some true := by
  unfold law06_ListingWords
  by_cases h : 2000 < (s.length : Int)
  · rw [c1 (dt h), awake_eq]; rfl
  obtain ⟨r, hr, hc⟩ := Words_tot (s := s) (by omega)
  rw [c0 (df h), hr, Option.bind_some]
  rcases hc with rfl | ⟨x, rfl, hu, hl, he⟩
  · rw [awake_eq]; rfl
  · simp only [show ((0 : Int) != 0) = false from rfl, cond_false]
    rw [awake_eq, Option.bind_some, cond_true, rText_eq hu hl, Option.bind_some, dt he]
/-- The law of long texts. -/
theorem Long_law (n : Int) : law06_ListingLong n = some true := by
  unfold law06_ListingLong
  have h1 : -100 < Int.tmod n 100 ∧ Int.tmod n 100 < 100 := ⟨Int.lt_tmod_of_pos n (by decide), Int.tmod_lt_of_pos n (by decide)⟩
  rw [w64 (x := Int.tmod n 100 + 100) (by omega)]
  have h2 : 0 ≤ Int.tmod (Int.tmod n 100 + 100) 100 ∧ Int.tmod (Int.tmod n 100 + 100) 100 < 100 := ⟨Int.tmod_nonneg _ (by omega), Int.tmod_lt_of_pos _ (by decide)⟩
  generalize Int.tmod (Int.tmod n 100 + 100) 100 = m at h2
  obtain ⟨k, rfl⟩ : ∃ k : Nat, m = (k : Int) := ⟨m.toNat, by omega⟩
  rw [w64 (x := 1 + (k : Int)) (by omega), w64 (by omega), w64 (by omega)]
  unfold repl
  rw [if_pos (by omega), Option.bind_some, if_pos (by omega)]
  have t1 : listing_Text (List.replicate (40000 + (1 + (k : Int))).toNat 0) = some ([], 2) := by
    unfold listing_Text
    rw [List.length_replicate, c1 (dt (by omega))]
  have t2 : listing_Words (bytesStr (List.replicate (2097152 + (1 + (k : Int))).toNat 0)) = some ([], 2) := by
    unfold listing_Words bytesStr
    rw [List.length_map, List.length_replicate, c1 (dt (by omega))]
  rw [t1, Option.bind_some, Option.bind_some, t2, Option.bind_some, awake_eq]
  rfl
end Go.Proofs.YtcmncppbonaaeaaGreatDoor
