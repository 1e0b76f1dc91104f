/- Plain laws of layer 29 (CompileNone): the law. No program is in sight here. -/
import Derived.Test.YtokpeeflnijogaaGreatDoorL29d
set_option linter.unusedVariables false
namespace Go.Proofs.YtokpeeflnijogaaGreatDoor

/-! The reference is total. -/
theorem Blank_neg {s : List UInt8} {k : Nat} (hk : k < s.length) (hl : s.length ≤ 100000) (h : blS (s.drop k) < 0) : ref07_Blank s (k : Int) = some (bif blB s[k] then 1 else -1) := by
  have hdl : (s.drop k).length = s.length - k := by simp
  unfold ref07_Blank
  rw [idx_get hk, Option.bind_some, bl_cases]
  cases h9 : ((s[k].toNat : Int) == 9) with
  | true => rfl
  | false =>
  cases h10 : ((s[k].toNat : Int) == 10) with
  | true => rfl
  | false =>
  cases h13 : ((s[k].toNat : Int) == 13) with
  | true => rfl
  | false =>
  cases h32 : ((s[k].toNat : Int) == 32) with
  | true => rfl
  | false =>
  simp only [cond_false, Bool.or_self]
  rw [is_eq (by omega) hl (by decide), Option.bind_some]
  by_cases h1 : ([47, 47] : List UInt8) <+: s.drop k
  · exfalso
    unfold blS at h
    rw [if_pos h1] at h
    split at h <;> omega
  · rw [df h1, cond_false, is_eq (by omega) hl (by decide), Option.bind_some]
    by_cases h2 : ([47, 42] : List UInt8) <+: s.drop k
    · rw [dt h2, cond_true]
      have h2l := h2.length_le
      simp at h2l
      unfold blS at h
      rw [if_neg h1, if_pos h2] at h
      have hd2 : (s.drop k).drop 2 = s.drop (k + 2) := by rw [List.drop_drop]
      rw [hd2] at h
      have hdl2 : (s.drop (k + 2)).length = s.length - (k + 2) := by simp
      rcases Go.Lib.index_spec (s.drop (k + 2)) [42, 47] with ⟨hn, hno⟩ | ⟨i, hi, _⟩
      · rw [w64 (by omega)]
        have hoc : ∀ j, Go.Lib.occAt (s.drop (k + 2)) [42, 47] j = decide (([42, 47] : List UInt8) <+: s.drop (k + 2 + j)) := fun j => by
          unfold Go.Lib.occAt
          rw [List.drop_drop, Bool.eq_iff_iff, List.isPrefixOf_iff_prefix]
          simp
        refine run_bind (fun j => ((k + 2 + j : Nat) : Int)) (s.length - (k + 2)) (.brk (s.length : Int)) (by show ((k + 2 : Nat) : Int) = _; omega) (by omega) (fun j hj => ?_) ?_ trivial rfl
        · rw [c1 (dt (by omega)), is_eq (by omega) hl (by decide), Option.bind_some, ← hoc j, hno j (by omega), cond_false, w64 (by omega)]
          rfl
        · rw [show k + 2 + (s.length - (k + 2)) = s.length by omega, c0 (dge _)]
      · rw [hi, if_neg (by omega)] at h; omega
    · exfalso
      unfold blS at h
      rw [if_neg h1, if_neg h2] at h
      omega
theorem bR_tot {p : List UInt8} (hl : p.length ≤ 100000) (b : Int) : ∀ (f k : Nat) (n e : Int), p.length - k < f → k ≤ p.length → ∃ o, loopM (bR p b) f (n, e, (k : Int)) = some o ∧ ((∃ s, o = .brk s) ∨ ∃ r, o = .ret r)
  | 0, k, n, e, h, _ => by omega
  | f + 1, k, n, e, h, hk => by
    unfold loopM
    by_cases hlt : k < p.length
    · obtain ⟨w, v, h1, h2, h3⟩ := wv_get p[k]
      have ho64 : IntKind.wrap .i64 ((k : Int) + 1) = ((k + 1 : Nat) : Int) := by rw [w64 (by omega)]; omega
      have eR : bR p b (n, e, (k : Int)) = bif decide (b ≤ v) then (some (Lp.ret (0, 3))) else (bif decide (4294967295 < (IntKind.wrap .i64 ((IntKind.wrap .i64 (n * b)) + v))) then some (.go (4294967296, 7, ((k + 1 : Nat) : Int))) else some (.go (IntKind.wrap .i64 ((IntKind.wrap .i64 (n * b)) + v), e, ((k + 1 : Nat) : Int)))) := by
        unfold bR
        dsimp only
        simp only [jn]
        rw [c1 (dt (by omega)), idx_get hlt, Option.bind_some, h2, Option.bind_some, Option.bind_some, h2, Option.bind_some, ho64]
      rw [eR]
      cases decide (b ≤ v) with
      | true => exact ⟨_, rfl, .inr ⟨_, rfl⟩⟩
      | false =>
        rw [cond_false]
        cases decide (4294967295 < (IntKind.wrap .i64 ((IntKind.wrap .i64 (n * b)) + v))) with
        | true => exact bR_tot hl b f (k + 1) _ _ (by omega) (by omega)
        | false => exact bR_tot hl b f (k + 1) _ _ (by omega) (by omega)
    · rw [show bR p b (n, e, (k : Int)) = some (.brk (n, e, (k : Int))) by unfold bR; dsimp only; rw [c0 (df (by omega))]]
      exact ⟨_, rfl, .inl ⟨_, rfl⟩⟩
theorem rnumber_tot (u : List UInt8) (hl : u.length ≤ 100000) : ∃ y, ref07_number u = some y := by
  unfold ref07_number
  simp only [jn]
  have is0 : ∀ m : List UInt8, m.length ≤ 10 → ref07_is u 0 m = some (decide (m <+: u)) := fun m hm => by
    have := is_eq (s := u) (m := m) (k := 0) (by omega) hl hm
    rwa [List.drop_zero] at this
  rw [is0 _ (by decide), Option.bind_some]
  have fin : ∀ (o : Nat) (b : Int), o ≤ u.length → ∃ y, (bif (o : Int) == (List.length u : Int) then (some ((0 : Int), (3 : Int))) else ((loopM (bR u b) NN ((0 : Int), (0 : Int), (o : Int))).bind fun o => o.thn (fun (x3, x4, x5) => bif x4 != 0 then (some ((0 : Int), x4)) else (some (IntKind.wrap .u32 x3, (0 : Int)))) (fun r => some r))) = some y := by
    intro o b ho
    cases ((o : Int) == (List.length u : Int)) with
    | true => exact ⟨_, rfl⟩
    | false =>
      obtain ⟨z, hz, hz2⟩ := bR_tot hl b NN o 0 0 (NN_big (by omega)) ho
      rw [cond_false, hz, Option.bind_some]
      rcases hz2 with ⟨⟨a, c, d⟩, rfl⟩ | ⟨r, rfl⟩
      · show ∃ y, (bif c != 0 then (some ((0 : Int), c)) else (some (IntKind.wrap .u32 a, (0 : Int)))) = some y
        cases (c != 0) <;> exact ⟨_, rfl⟩
      · exact ⟨_, rfl⟩
  by_cases h1 : ([48, 120] : List UInt8) <+: u
  · have hle := h1.length_le
    simp at hle
    rw [dt h1, cond_true]
    exact fin 2 16 hle
  · rw [df h1, cond_false, is0 _ (by decide), Option.bind_some]
    by_cases h2 : ([48, 88] : List UInt8) <+: u
    · have hle := h2.length_le
      simp at hle
      rw [dt h2, cond_true]
      exact fin 2 16 hle
    · rw [df h2, cond_false]
      exact fin 0 10 (by omega)
def fromL : List (List UInt8) := [([110] : List UInt8), ([116] : List UInt8), ([114] : List UInt8), ([48] : List UInt8), ([92] : List UInt8), ([39] : List UInt8)]
def qB (p0 : List UInt8) (p1 : Int) : Int → Option (Lp Int (Int × Int)) := fun (x1 : Int) => (bif decide (x1 < (List.length fromL : Int)) then ((idx fromL x1).bind fun u1 => (room (List.length u1 + List.length ([39] : List UInt8))).bind fun _ => (ref07_is p0 (IntKind.wrap .i64 (p1 + 2)) (u1 ++ ([39] : List UInt8))).bind fun y2 => bif y2 then ((idx ([10, 9, 13, 0, 92, 39] : List Int) x1).bind fun u2 => some (Lp.ret (u2, (4 : Int)))) else (some (Lp.go (IntKind.wrap .i64 (x1 + 1))))) else (some (Lp.brk x1)))
theorem qB_tot {s : List UInt8} {k : Nat} (hk : k + 2 ≤ s.length) (hl : s.length ≤ 100000) : ∀ (f j : Nat), 6 - j < f → j ≤ 6 → ∃ o, loopM (qB s (k : Int)) f (j : Int) = some o ∧ ((∃ x, o = .brk x) ∨ ∃ v, o = .ret (v, 4) ∧ k + 4 ≤ s.length)
  | 0, j, h, _ => by omega
  | f + 1, j, h, hj => by
    unfold loopM
    have hfl : fromL.length = 6 := rfl
    by_cases hlt : j < 6
    · have hj' : j < fromL.length := by rw [hfl]; exact hlt
      have h1 : ∀ m ∈ fromL, m.length = 1 := by decide
      have hm := h1 _ (List.getElem_mem hj')
      have e : qB s (k : Int) (j : Int) = bif decide (fromL[j]'hj' ++ ([39] : List UInt8) <+: s.drop (k + 2)) then some (Lp.ret (([10, 9, 13, 0, 92, 39] : List Int)[j], (4 : Int))) else some (Lp.go ((j + 1 : Nat) : Int)) := by
        unfold qB
        rw [c1 (dt (by omega)), idx_get hj', Option.bind_some, room_ok (by simp; omega), Option.bind_some, w64 (x := (k : Int) + 2) (by omega), show (k : Int) + 2 = ((k + 2 : Nat) : Int) by omega, is_eq (by omega) hl (by simp; omega), Option.bind_some, idx_get (l := ([10, 9, 13, 0, 92, 39] : List Int)) hlt, Option.bind_some, w64 (x := (j : Int) + 1) (by omega)]
        rfl
      rw [e]
      by_cases hp : fromL[j]'hj' ++ ([39] : List UInt8) <+: s.drop (k + 2)
      · rw [dt hp, cond_true]
        have hle := hp.length_le
        simp [hm] at hle
        exact ⟨_, rfl, .inr ⟨_, rfl, by omega⟩⟩
      · rw [df hp, cond_false]
        exact qB_tot hk hl f (j + 1) (by omega) (by omega)
    · have : j = 6 := by omega
      subst this
      rw [show qB s (k : Int) ((6 : Nat) : Int) = some (.brk ((6 : Nat) : Int)) from rfl]
      exact ⟨_, rfl, .inl ⟨_, rfl⟩⟩
theorem quoted_tot {s : List UInt8} {k : Nat} (hk : k < s.length) (hl : s.length ≤ 100000) : ∃ v n : Int, ref07_quoted s (k : Int) = some (v, n) ∧ (n = 0 ∨ (n = 3 ∧ k + 3 ≤ s.length) ∨ (n = 4 ∧ k + 4 ≤ s.length)) := by
  have is1 : ref07_is s (IntKind.wrap .i64 ((k : Int) + 1)) [92] = some (decide ([92] <+: s.drop (k + 1))) := by
    rw [w64 (by omega), show (k : Int) + 1 = ((k + 1 : Nat) : Int) by omega, is_eq (by omega) hl (by decide)]
  unfold ref07_quoted
  rw [is1, Option.bind_some]
  by_cases h1 : [92] <+: s.drop (k + 1)
  · have hle := h1.length_le
    simp at hle
    rw [dt h1, cond_true]
    obtain ⟨o, ho, hc⟩ := qB_tot (k := k) (by omega) hl NN 0 (NN_big (by omega)) (by omega)
    have ho : loopM (qB s (k : Int)) NN (0 : Int) = some o := ho
    have e : ∀ K : Lp Int (Int × Int) → Option (Int × Int), (loopM (qB s (k : Int)) NN (0 : Int)).bind K = K o := fun K => by rw [ho]; rfl
    rcases hc with ⟨x, rfl⟩ | ⟨v, rfl, h4⟩
    · exact ⟨0, 0, e _, .inl rfl⟩
    · exact ⟨v, 4, e _, .inr (.inr ⟨rfl, h4⟩)⟩
  · rw [df h1, cond_false]
    by_cases h2 : k + 2 < s.length
    · have i1 : idx s (IntKind.wrap .i64 ((k : Int) + 1)) = some (s[k + 1]'(by omega)) := by
        rw [w64 (by omega), show (k : Int) + 1 = ((k + 1 : Nat) : Int) by omega, idx_get (by omega)]
      have i2 : idx s (IntKind.wrap .i64 ((k : Int) + 2)) = some s[k + 2] := by
        rw [w64 (by omega), show (k : Int) + 2 = ((k + 2 : Nat) : Int) by omega, idx_get h2]
      rw [c1 (dt (by rw [w64 (by omega)]; omega)), i1, i2]
      simp only [Option.bind_some]
      cases decide (32 ≤ ((s[k + 1]'(by omega)).toNat : Int)) with
      | false => exact ⟨0, 0, rfl, .inl rfl⟩
      | true =>
      cases decide (((s[k + 1]'(by omega)).toNat : Int) ≤ 126) with
      | false => exact ⟨0, 0, rfl, .inl rfl⟩
      | true =>
      cases (((s[k + 1]'(by omega)).toNat : Int) != 39) with
      | false => exact ⟨0, 0, rfl, .inl rfl⟩
      | true =>
      cases ((s[k + 2].toNat : Int) == 39) with
      | false => exact ⟨0, 0, rfl, .inl rfl⟩
      | true => exact ⟨_, 3, rfl, .inr (.inl ⟨rfl, by omega⟩)⟩
    · rw [c0 (df (by rw [w64 (by omega)]; omega))]
      exact ⟨0, 0, rfl, .inl rfl⟩
theorem One_tot {s : List UInt8} {k : Nat} (hk : k < s.length) (hl : s.length ≤ 100000) : ∃ y, ref07_One s (k : Int) = some y ∧ (y.2 = 0 → 0 < y.1.Text.length ∧ k + y.1.Text.length ≤ s.length) := by
  have hdl : (s.drop k).length = s.length - k := by simp
  have hu : s.drop k = s[k] :: s.drop (k + 1) := List.drop_eq_getElem_cons hk
  have hle := sp_le moreB (s.drop k)
  have htl : ((s.drop k).take (sp moreB (s.drop k))).length = sp moreB (s.drop k) := by rw [List.length_take]; omega
  have hsp : moreB s[k] = true → 0 < sp moreB (s.drop k) := fun h => by
    rw [hu, show sp moreB (s[k] :: s.drop (k + 1)) = if moreB s[k] then sp moreB (s.drop (k + 1)) + 1 else 0 from rfl, if_pos h]
    omega
  have hmore : letB (s[k].toNat : Int) = true ∨ digB (s[k].toNat : Int) = true → moreB s[k] = true := fun h => by
    unfold moreB
    rcases h with h | h <;> rw [h] <;> simp
  unfold ref07_One
  rw [idx_get hk, Option.bind_some, rLetter_eq, Option.bind_some]
  cases hlet : letB (s[k].toNat : Int) with
  | true =>
    have hpos := hsp (hmore (.inl hlet))
    rw [cond_true, run_eq (by omega) hl, Option.bind_some]
    by_cases h31 : (31 : Int) < ((sp moreB (s.drop k) : Nat) : Int)
    · rw [c1 (dt h31)]
      exact ⟨_, rfl, fun h => by cases h⟩
    · rw [c0 (df h31)]
      simp only [jn]
      rw [w64 (by omega), sub_mid (by omega), Option.bind_some, rWord_eq, Option.bind_some]
      cases wordB ((s.drop k).take (sp moreB (s.drop k))) with
      | true => exact ⟨_, rfl, fun _ => ⟨by dsimp only; omega, by dsimp only; omega⟩⟩
      | false => exact ⟨_, rfl, fun _ => ⟨by dsimp only; omega, by dsimp only; omega⟩⟩
  | false =>
    rw [cond_false, rDigit_eq, Option.bind_some]
    cases hdig : digB (s[k].toNat : Int) with
    | true =>
      have hpos := hsp (hmore (.inr hdig))
      obtain ⟨y, hy⟩ := rnumber_tot ((s.drop k).take (sp moreB (s.drop k))) (by omega)
      rw [cond_true, run_eq (by omega) hl, Option.bind_some, w64 (by omega), sub_mid (by omega), Option.bind_some, hy, Option.bind_some]
      cases hb : (y.2 != 0) with
      | true =>
        rw [cond_true]
        exact ⟨_, rfl, fun h => by dsimp only at h; rw [h] at hb; cases hb⟩
      | false =>
        rw [cond_false]
        exact ⟨_, rfl, fun _ => ⟨by dsimp only; omega, by dsimp only; omega⟩⟩
    | false =>
      rw [cond_false]
      cases hq : ((s[k].toNat : Int) == 39) with
      | true =>
        obtain ⟨v, n, q1, q2⟩ := quoted_tot hk hl
        rw [cond_true, q1, Option.bind_some]
        dsimp only
        rcases q2 with rfl | ⟨rfl, h3⟩ | ⟨rfl, h4⟩
        · exact ⟨_, rfl, fun h => by cases h⟩
        · rw [c0 (by rfl), w64 (by omega), show (k : Int) + 3 = (k : Int) + ((3 : Nat) : Int) from rfl, sub_mid h3, Option.bind_some]
          exact ⟨_, rfl, fun _ => ⟨by dsimp only; rw [List.length_take]; omega, by dsimp only; rw [List.length_take]; omega⟩⟩
        · rw [c0 (by rfl), w64 (by omega), show (k : Int) + 4 = (k : Int) + ((4 : Nat) : Int) from rfl, sub_mid h4, Option.bind_some]
          exact ⟨_, rfl, fun _ => ⟨by dsimp only; rw [List.length_take]; omega, by dsimp only; rw [List.length_take]; omega⟩⟩
      | false =>
        rw [cond_false, rmark_eq (by omega) hl, Option.bind_some]
        by_cases hm : bestS (s.drop k) tbl2 [] = []
        · rw [c1 (dt hm)]
          exact ⟨_, rfl, fun h => by cases h⟩
        · rw [c0 (df hm)]
          have hp : bestS (s.drop k) tbl2 [] <+: s.drop k := by
            rcases (best_in (s.drop k) tbl2 []).1 with h | h
            · exact absurd h hm
            · exact h.2
          have := hp.length_le
          have := List.length_pos_iff.2 hm
          exact ⟨_, rfl, fun _ => ⟨by dsimp only; omega, by dsimp only; omega⟩⟩
theorem ar1 {S k m f : Nat} (h : S - k < f + 1) (p1 : 0 < m) (p2 : k + m ≤ S) : S - (k + m) < f := by omega
theorem ar2 {S k m L : Nat} (hL : L + (S - k) ≤ 1000000) (p1 : 0 < m) (p2 : k + m ≤ S) : L + 1 + (S - (k + m)) ≤ 1000000 := by omega
theorem rB_tot {s : List UInt8} (hl : s.length ≤ 100000) : ∀ (f k : Nat) (L : List ref07Token) (e : Int), s.length - k < f → k ≤ s.length → L.length + (s.length - k) ≤ 1000000 → ∃ o, loopM (rB s) f ⟨L, (k : Int), e⟩ = some o ∧ ((∃ x, o = .brk x) ∨ ∃ r, o = .ret r)
  | 0, k, L, e, h, _, _ => by omega
  | f + 1, k, L, e, h, hk, hL => by
    unfold loopM
    by_cases hlt : k < s.length
    · have hdl : (s.drop k).length = s.length - k := by simp
      have hB : ∃ b : Int, ref07_Blank s (k : Int) = some b ∧ (0 < b → ∃ n : Nat, b = (n : Int) ∧ 0 < n ∧ k + n ≤ s.length) := by
        by_cases hneg : blS (s.drop k) < 0
        · refine ⟨_, Blank_neg hlt hl hneg, fun hb => ?_⟩
          cases hh : blB s[k] with
          | true => exact ⟨1, rfl, by decide, by omega⟩
          | false => rw [hh, cond_false] at hb; exact absurd hb (by decide)
        · have hle := (blank_eq (s.drop k) (by omega)).2
          refine ⟨_, Blank_eq hlt hl (by omega), fun hb => ?_⟩
          cases hh : blB s[k] with
          | true => exact ⟨1, rfl, by decide, by omega⟩
          | false =>
            rw [hh, cond_false] at hb
            obtain ⟨n, hn⟩ := Int.eq_ofNat_of_zero_le (show 0 ≤ blS (s.drop k) by omega)
            exact ⟨n, hn, by omega, by omega⟩
      obtain ⟨b, hb, hbp⟩ := hB
      by_cases hb0 : b < 0
      · rw [show rB s ⟨L, (k : Int), e⟩ = some (.ret ⟨[], (k : Int), 3⟩) by unfold rB; dsimp only; rw [c1 (dt (by omega)), hb, Option.bind_some, c1 (dt hb0)]]
        exact ⟨_, rfl, .inr ⟨_, rfl⟩⟩
      · by_cases hb1 : 0 < b
        · obtain ⟨n, rfl, hn, hkn⟩ := hbp hb1
          rw [show rB s ⟨L, (k : Int), e⟩ = some (.go ⟨L, ((k + n : Nat) : Int), e⟩) by
            unfold rB
            dsimp only
            rw [c1 (dt (by omega)), hb, Option.bind_some, c0 (df hb0), c1 (dt hb1), w64 (by omega)]
            rfl]
          exact rB_tot hl f (k + n) L e (by omega) hkn (by omega)
        · obtain ⟨y, hy, hyp⟩ := One_tot hlt hl
          cases h0 : (y.2 != 0) with
          | true =>
            rw [show rB s ⟨L, (k : Int), e⟩ = some (.ret ⟨[], (k : Int), y.2⟩) by unfold rB; dsimp only; rw [c1 (dt (by omega)), hb, Option.bind_some, c0 (df hb0), c0 (df hb1), hy, Option.bind_some, c1 h0]]
            exact ⟨_, rfl, .inr ⟨_, rfl⟩⟩
          | false =>
            obtain ⟨p1, p2⟩ := hyp (by simpa using h0)
            rw [show rB s ⟨L, (k : Int), e⟩ = some (.go ⟨L ++ [y.1], ((k + y.1.Text.length : Nat) : Int), e⟩) by
              unfold rB
              dsimp only
              rw [c1 (dt (by omega)), hb, Option.bind_some, c0 (df hb0), c0 (df hb1), hy, Option.bind_some, c0 h0, room_ok (by simp; omega), Option.bind_some, w64 (by omega)]
              rfl]
            exact rB_tot hl f (k + y.1.Text.length) (L ++ [y.1]) e (ar1 h p1 p2) p2 (by rw [List.length_append]; exact ar2 hL p1 p2)
    · rw [show rB s ⟨L, (k : Int), e⟩ = some (.brk ⟨L, (k : Int), e⟩) by unfold rB; dsimp only; rw [c0 (df (by omega))]]
      exact ⟨_, rfl, .inl ⟨_, rfl⟩⟩
theorem ref_total (s : List UInt8) (hl : s.length ≤ 65536) : ∃ r, ref07_Lex s = some r := by
  obtain ⟨o, ho, hc⟩ := rB_tot (s := s) (by omega) NN 0 [] 0 (NN_big (by omega)) (by omega) (by simp; omega)
  unfold ref07_Lex
  rw [c0 (df (by omega))]
  rcases hc with ⟨x, rfl⟩ | ⟨r, rfl⟩
  · exact ⟨x, bnd ho rfl⟩
  · exact ⟨r, bnd ho rfl⟩
theorem right_total (o : GOptions) : ∃ b, image_Right o = some b := by
  unfold image_Right
  cases decide (4096 ≤ o.Data) <;> cases decide (o.Data ≤ 65536) <;> cases (Int.tmod o.Data 4 == 0) <;> cases decide (0 ≤ o.Regs) <;> cases decide (o.Regs ≤ 12) <;> cases decide (2 ≤ o.Notes) <;> exact ⟨_, rfl⟩
theorem not_at : ¬ Lx [64] [] := by
  intro h
  generalize hq : ([64] : List UInt8) = q at h
  generalize ht : ([] : List GToken) = ts at h
  cases h with
  | nil => cases hq
  | blank _ n hn h0 _ =>
    subst hq
    rw [show blS [64] = 0 by decide +kernel] at hn
    omega
  | tok => cases ht
/-- A text with an '@' that does not stand in a remark is refused. -/
theorem comp_none {s z : List UInt8} {o : GOptions} {ts : List GToken} (hr : image_Right o = some true) (hl : (s ++ 64 :: z).length ≤ 65536) (hs : Lx s ts) (hn : ¬ Lx (s ++ [64]) ts) : ∃ y, compile_Compile (s ++ 64 :: z) o = some y ∧ y.2.2 ≠ 0 ∧ y.1.Code = [] := by
  obtain ⟨y, hy, hp⟩ := lex_total (s ++ 64 :: z) hl
  rcases hp with ⟨_, hx⟩ | ⟨he, _⟩
  · exact absurd (lx_at hs z _ (by omega) hx) hn
  · have hb : (y.2.2 != 0) = true := by simpa using he
    have h1 : tree_Read (s ++ 64 :: z) = some ((⟨[], [], []⟩ : GProgram), y.2.1, y.2.2) := by
      unfold tree_Read
      rw [hy, Option.bind_some, c1 hb]
    have h2 : compile_Module (s ++ 64 :: z) o = some ((⟨[], [], [], 0⟩ : GModule), y.2.1, y.2.2) := by
      unfold compile_Module
      rw [h1, Option.bind_some, c1 hb]
    refine ⟨((⟨[], [], 0, 0⟩ : GImage), y.2.1, y.2.2), ?_, he, rfl⟩
    unfold compile_Compile
    rw [hr, Option.bind_some, c0 (by rfl), h2, Option.bind_some, c1 hb]
theorem CompileNone_law (p0 : List UInt8) (p1 : Int) (p2 : GOptions) : law29_CompileNone p0 p1 p2 = some true := by
  unfold law29_CompileNone
  by_cases h1 : 3999 < (p0.length : Int)
  · rw [c1 (dt h1)]; rfl
  rw [c0 (df h1)]
  by_cases h2 : p1 < 0
  · rw [c1 (dt h2)]; rfl
  rw [c0 (df h2)]
  by_cases h3 : (p0.length : Int) < p1
  · rw [c1 (dt h3)]; rfl
  rw [c0 (df h3)]
  obtain ⟨b, hb⟩ := right_total p2
  refine bnd hb ?_
  cases b with
  | false => rfl
  | true =>
  rw [c0 (by rfl)]
  obtain ⟨k, rfl⟩ := Int.eq_ofNat_of_zero_le (show 0 ≤ p1 by omega)
  have hk : k ≤ p0.length := by omega
  have htl : (p0.take k).length = k := by rw [List.length_take]; omega
  have hdl : (p0.drop k).length = p0.length - k := by simp
  refine bnd (sub_take hk) ?_
  obtain ⟨y3, hy3, hp⟩ := lex_total (p0.take k) (by omega)
  refine bnd hy3 ?_
  by_cases he : y3.2.2 = 0
  case neg => rw [c1 (by simpa using he)]; rfl
  rw [c0 (by simpa using he)]
  by_cases hline : y3.2.1.Line < 1
  · rw [c1 (dt hline)]; rfl
  rw [c0 (df hline)]
  have hx : Lx (p0.take k) (y3.1.map strip) := by
    rcases hp with ⟨_, hx⟩ | ⟨hne, _⟩
    · exact hx
    · exact absurd he hne
  have e : (p0.take k ++ [64]) ++ p0.drop k = p0.take k ++ 64 :: p0.drop k := by simp
  have hlen : (p0.take k ++ 64 :: p0.drop k).length ≤ 65536 := by simp; omega
  have fin : ¬ Lx (p0.take k ++ [64]) (y3.1.map strip) → ((sub p0 0 (k : Int)).bind fun u4 => (room (List.length u4 + List.length ([64] : List UInt8))).bind fun _ => (sub p0 (k : Int) (List.length p0 : Int)).bind fun u5 => (room (List.length (u4 ++ ([64] : List UInt8)) + List.length u5)).bind fun _ => (compile_Compile ((u4 ++ ([64] : List UInt8)) ++ u5) p2).bind fun y7 => (law29_awake).bind fun y8 => bif y8 then (bif y7.2.2 != 0 then (some ((List.length y7.1.Code : Int) == 0)) else (some false)) else (some false)) = some true := fun hn => by
    obtain ⟨y, hy, q1, q2⟩ := comp_none hb hlen hx hn
    refine bnd (sub_take hk) ?_
    refine bnd (room_ok (by simp; omega)) ?_
    refine bnd (sub_drop hk) ?_
    refine bnd (room_ok (by simp; omega)) ?_
    rw [e]
    refine bnd hy ?_
    refine bnd (show law29_awake = some true from rfl) ?_
    rw [cond_true, c1 (by simpa using q1), q2]
    rfl
  refine bnd (sub_take hk) ?_
  by_cases h0 : (0 : Int) < ((p0.take k).length : Int)
  · rw [c1 (dt h0)]
    refine bnd (sub_take hk) ?_
    refine bnd (room_ok (by simp; omega)) ?_
    have href : ∃ r, ref07_Lex (p0.take k ++ [64]) = some r ∧ (r.E ≠ 0 → ¬ Lx (p0.take k ++ [64]) (y3.1.map strip)) := by
      obtain ⟨r, hr⟩ := ref_total (p0.take k ++ [64]) (by simp; omega)
      refine ⟨r, hr, fun hne hxx => ?_⟩
      obtain ⟨r', hr', h'⟩ := ref_ok hxx (by simp; omega)
      rw [hr] at hr'
      cases hr'
      exact hne h'
    obtain ⟨r, hr, hrn⟩ := href
    refine bnd hr ?_
    by_cases hE : r.E = 0
    · rw [c1 (by simpa using hE)]; rfl
    rw [c0 (by simpa using hE)]
    exact fin (hrn hE)
  · rw [c0 (df h0)]
    have hk0 : p0.take k = [] := List.eq_nil_of_length_eq_zero (by omega)
    refine fin fun hxx => ?_
    rw [hk0] at hx hxx
    have hts : y3.1.map strip = [] := by
      generalize hq : ([] : List UInt8) = q at hx
      generalize y3.1.map strip = ts at hx
      cases hx with
      | nil => rfl
      | blank h _ _ _ _ => exact absurd hq.symm h
      | tok h _ _ _ => exact absurd hq.symm h
    rw [hts] at hxx
    exact not_at hxx
end Go.Proofs.YtokpeeflnijogaaGreatDoor
