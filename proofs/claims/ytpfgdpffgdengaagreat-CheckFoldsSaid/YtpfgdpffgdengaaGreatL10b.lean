/- Plain laws on terms of numbers alone. No program is in sight here. -/
import Derived.Test.YtpfgdpffgdengaaGreatL10
set_option linter.unusedVariables false
namespace Go.Proofs.YtpfgdpffgdengaaGreat

/-- A term as it can be handed in. -/
inductive WfT : GTerm → Prop where
  | mk {t : GTerm} (h1 : Wd t.Num) (h2 : t.Kids.length ≤ 9223372036854775807) (h3 : ∀ k ∈ t.Kids, WfT k) : WfT t
theorem WfT.num {t : GTerm} (h : WfT t) : Wd t.Num := by cases h; assumption
theorem WfT.len {t : GTerm} (h : WfT t) : t.Kids.length ≤ 9223372036854775807 := by cases h; assumption
theorem WfT.kid {t : GTerm} (h : WfT t) : ∀ k ∈ t.Kids, WfT k := by cases h; assumption
/-- The document's term for a term, down to a depth. -/
def Cp : Nat → GTerm → ref10Term → Prop
  | 0, _, _ => False
  | d + 1, t, x => x.Kind = t.Kind ∧ x.Fn = t.Fn ∧ x.Num = t.Num ∧ Wd t.Num ∧ x.Kids.length = t.Kids.length ∧ t.Kids.length ≤ 300 ∧ ∀ (i : Nat) u y, t.Kids[i]? = some u → x.Kids[i]? = some y → Cp d u y
theorem Cp.up : ∀ {d : Nat} {t : GTerm} {x : ref10Term}, Cp d t x → Cp (d + 1) t x
  | 0, _, _, h => h.elim
  | d + 1, t, x, ⟨h1, h2, h3, h4, h5, h6, h7⟩ => ⟨h1, h2, h3, h4, h5, h6, fun i u y hu hy => (h7 i u y hu hy).up⟩
theorem Cp.le {d d' : Nat} {t : GTerm} {x : ref10Term} (h : Cp d t x) (hd : d ≤ d') : Cp d' t x := by
  induction hd with
  | refl => exact h
  | step _ ih => exact ih.up

theorem ref_ok : ∀ (n : Nat) (t : GTerm) (few : Nat), WfT t → 1 ≤ few → few < n → few ≤ 300 → ∃ x, ∃ left : Nat, (rec1 n).law10_ref t few = some (x, (left : Int)) ∧ left < few ∧ (0 < left → Cp few t x)
  | 0, _, few, _, _, h, _ => by omega
  | n + 1, t, few, hw, h1, h2, h3 => by
    show ∃ x, ∃ left : Nat, law10_ref_b (rec1 n) t few = some (x, (left : Int)) ∧ left < few ∧ (0 < left → Cp few t x)
    unfold law10_ref_b
    have hinit : IntKind.wrap .i64 ((few : Int) - 1) = ((few - 1 : Nat) : Int) := by rw [w64 (by omega)]; omega
    rw [hinit]
    have hlen := hw.len
    obtain ⟨o, ho, hpost⟩ := loop_some (body := fun (x2, x3, x4) => (bif decide (x3 < (List.length t.Kids : Int)) then (bif decide (0 < x2) then ((idx t.Kids x3).bind fun u1 => ((rec1 n).law10_ref u1 x2).bind fun y1 => (room (List.length x4.Kids + List.length ([y1.1] : List ref10Term))).bind fun _ => some (Lp.go (y1.2, IntKind.wrap .i64 (x3 + 1), { x4 with Kids := x4.Kids ++ ([y1.1] : List ref10Term) }))) else (some (Lp.brk (x2, x3, x4)))) else (some (Lp.brk (x2, x3, x4))) : Option (Lp (Int × Int × ref10Term) (Unit))))
      (n := NN) (s := (((few - 1 : Nat) : Int), (0 : Int), ({ t with Kids := [] } : ref10Term)))
      (I := fun s => ∃ (f i : Nat) (y : ref10Term), s = ((f : Int), (i : Int), y) ∧ f + i ≤ few - 1 ∧ i ≤ t.Kids.length ∧ y.Kind = t.Kind ∧ y.Fn = t.Fn ∧ y.Num = t.Num ∧ y.Kids.length = i ∧ (0 < f → ∀ (j : Nat) u z, t.Kids[j]? = some u → y.Kids[j]? = some z → Cp (few - 1) u z))
      (μ := fun s => s.1.toNat)
      (post := fun o => ∃ (f i : Nat) (y : ref10Term), o = .brk ((f : Int), (i : Int), y) ∧ f + i ≤ few - 1 ∧ (0 < f → i = t.Kids.length) ∧ y.Kind = t.Kind ∧ y.Fn = t.Fn ∧ y.Num = t.Num ∧ y.Kids.length = i ∧ (0 < f → ∀ (j : Nat) u z, t.Kids[j]? = some u → y.Kids[j]? = some z → Cp (few - 1) u z))
      ⟨few - 1, 0, _, rfl, by omega, by omega, rfl, rfl, rfl, rfl, fun _ j u z _ hz => by simp at hz⟩ (NN_big (by simp; omega)) (by
        rintro s ⟨f, i, y, rfl, a1, a2, a3, a4, a5, a6, a7⟩
        simp only
        by_cases hi : i < t.Kids.length
        · rw [dlt hi, cond_true]
          by_cases hf : 0 < f
          · rw [dt (by omega), cond_true, idx_get hi]
            simp only [Option.bind_some]
            obtain ⟨x, left, e1, e2, e3⟩ := ref_ok n t.Kids[i] f (hw.kid _ (List.getElem_mem hi)) hf (by omega) (by omega)
            rw [e1]
            simp only [Option.bind_some]
            rw [room_ok (by simp; omega)]
            simp only [Option.bind_some]
            refine ⟨_, rfl, ?_⟩
            simp only
            refine ⟨⟨left, i + 1, { y with Kids := y.Kids ++ [x] }, ?_, by omega, by omega, a3, a4, a5, by simp [a6], fun hl j u z hu hz => ?_⟩, ?_⟩
            · rw [w64 (by omega)]; rfl
            · simp only at hz
              rcases Nat.lt_or_ge j i with hj | hj
              · rw [List.getElem?_append_left (by omega)] at hz
                exact a7 hf j u z hu hz
              · rw [List.getElem?_append_right (by omega)] at hz
                have hj0 : j - y.Kids.length = 0 := by
                  rcases Nat.eq_zero_or_pos (j - y.Kids.length) with h0 | h0
                  · exact h0
                  · rw [List.getElem?_eq_none (by simp; omega)] at hz; cases hz
                rw [hj0] at hz
                simp at hz
                subst hz
                have hji : j = i := by omega
                subst hji
                rw [List.getElem?_eq_getElem hi] at hu
                cases hu
                exact (e3 hl).le (by omega)
            · simp; omega
          · rw [df (by omega), cond_false]
            exact ⟨_, rfl, f, i, y, rfl, a1, fun h => absurd h hf, a3, a4, a5, a6, a7⟩
        · rw [df (by omega), cond_false]
          exact ⟨_, rfl, f, i, y, rfl, a1, fun _ => by omega, a3, a4, a5, a6, a7⟩)
    obtain ⟨f, i, y, rfl, b1, b2, b3, b4, b5, b6, b7⟩ := hpost
    refine ⟨y, f, ?_, by omega, fun hf => ?_⟩
    · rw [ho]
      rfl
    · obtain ⟨d, rfl⟩ : ∃ d, few = d + 1 := ⟨few - 1, by omega⟩
      have := b2 hf
      exact ⟨b3, b4, b5, hw.num, by omega, by omega, b7 hf⟩

theorem count_eq (k : Int) : check_operands k = ref10_count k := by
  unfold check_operands ref10_count jn
  by_cases h1 : k = 1
  · subst h1; rfl
  by_cases h5 : k = 5
  · subst h5; rfl
  by_cases h6 : k = 6
  · subst h6; rfl
  by_cases h7 : k = 7
  · subst h7; rfl
  by_cases h8 : k = 8
  · subst h8; rfl
  by_cases h9 : k = 9
  · subst h9; rfl
  by_cases h17 : k = 17
  · subst h17; rfl
  have n : ∀ c : Int, k ≠ c → (k == c) = false := fun c h => by simpa using h
  simp only [n 1 h1, n 5 h5, n 6 h6, n 7 h7, n 8 h8, n 9 h9, n 17 h17, cond_false]
theorem count_some (k : Int) : ∃ c, ref10_count k = some c := by
  unfold ref10_count
  cases (k == 1) <;> cases (k == 5) <;> cases (k == 17) <;> cases (k == 6) <;> cases (k == 7) <;> cases (k == 8) <;> cases (k == 9) <;> exact ⟨_, rfl⟩
/-- Of numbers alone, all the way down. -/
def Gd : Nat → GTerm → Prop
  | 0, _ => False
  | d + 1, t => ref10_count t.Kind = some (t.Kids.length : Int) ∧ ∀ u ∈ t.Kids, Gd d u
theorem num_ok : ∀ (d : Nat) (t : GTerm) (x : ref10Term), Cp d t x → ∃ b, (∀ n, d ≤ n → (rec2 n).check_numbers t = some b) ∧ (∀ n, d ≤ n → (rec4 n).ref10_Numbers x = some b) ∧ (b = true → Gd d t)
  | 0, _, _, h => h.elim
  | d + 1, t, x, ⟨h1, h2, h3, h4, h5, h6, h7⟩ => by
    obtain ⟨c, hc⟩ := count_some t.Kind
    by_cases hcl : (t.Kids.length : Int) = c
    · -- the right number of parts
      have hx : ∀ k, k < t.Kids.length → ∃ (u : GTerm) (y : ref10Term), t.Kids[k]? = some u ∧ x.Kids[k]? = some y ∧ Cp d u y := fun k hk => by
        have hk' : k < x.Kids.length := by omega
        exact ⟨_, _, List.getElem?_eq_getElem hk, List.getElem?_eq_getElem hk', h7 k _ _ (List.getElem?_eq_getElem hk) (List.getElem?_eq_getElem hk')⟩
      have hp : ∃ p : Nat → Bool, ∀ k, k < t.Kids.length → ∃ (u : GTerm) (y : ref10Term), t.Kids[k]? = some u ∧ x.Kids[k]? = some y ∧ (∀ n, d ≤ n → (rec2 n).check_numbers u = some (p k)) ∧ (∀ n, d ≤ n → (rec4 n).ref10_Numbers y = some (p k)) ∧ (p k = true → Gd d u) := by
        refine ⟨fun k => match t.Kids[k]? with
          | some u => ((rec2 d).check_numbers u).getD false
          | none => false, fun k hk => ?_⟩
        obtain ⟨u, y, e1, e2, e3⟩ := hx k hk
        obtain ⟨b, g1, g2, g3⟩ := num_ok d u y e3
        have hb : (match t.Kids[k]? with
          | some u => ((rec2 d).check_numbers u).getD false
          | none => false) = b := by rw [e1]; simp only [g1 d (Nat.le_refl _)]; rfl
        exact ⟨u, y, e1, e2, fun n hn => (g1 n hn).trans (congrArg some hb.symm), fun n hn => (g2 n hn).trans (congrArg some hb.symm), fun h => g3 (hb.symm.trans h)⟩
      obtain ⟨p, hp⟩ := hp
      have key : ∀ b, ((∀ k, k < t.Kids.length → p k = true) → b = true) → ((∃ k, k < t.Kids.length ∧ p k = false) → b = false) → (∀ n, d + 1 ≤ n → (rec2 n).check_numbers t = some b) ∧ (∀ n, d + 1 ≤ n → (rec4 n).ref10_Numbers x = some b) := by
        intro b hb1 hb2
        refine ⟨fun n hn => ?_, fun n hn => ?_⟩
        · obtain ⟨m, rfl⟩ : ∃ m, n = m + 1 := ⟨n - 1, by omega⟩
          show check_numbers_b (rec2 m) t = some b
          unfold check_numbers_b
          rw [count_eq, hc]
          simp only [Option.bind_some]
          rw [show ((t.Kids.length : Int) != c) = false by simpa using hcl, cond_false]
          refine loop_all (n := t.Kids.length) (by omega) p false (fun k hk _ => ?_) ?_ (fun hall => ?_) (fun hno => ?_)
          · obtain ⟨u, y, e1, e2, g1, g2, _⟩ := hp k hk
            rw [dlt hk, cond_true, idx_nat (by omega), Int.toNat_natCast, e1]
            simp only [Option.bind_some]
            rw [g1 m (by omega)]
            simp only [Option.bind_some]
            cases p k <;> rfl
          · rw [dge, cond_false]
          · rw [hb1 hall]; rfl
          · rw [hb2 hno]; rfl
        · obtain ⟨m, rfl⟩ : ∃ m, n = m + 1 := ⟨n - 1, by omega⟩
          show ref10_Numbers_b (rec4 m) x = some b
          unfold ref10_Numbers_b
          rw [h1, hc, h5]
          simp only [Option.bind_some]
          rw [show ((t.Kids.length : Int) != c) = false by simpa using hcl, cond_false]
          refine loop_all (n := t.Kids.length) (by omega) p false (fun k hk _ => ?_) ?_ (fun hall => ?_) (fun hno => ?_)
          · obtain ⟨u, y, e1, e2, g1, g2, _⟩ := hp k hk
            rw [dlt hk, cond_true, idx_nat (by omega), Int.toNat_natCast, e2]
            simp only [Option.bind_some]
            rw [g2 m (by omega)]
            simp only [Option.bind_some]
            cases p k <;> rfl
          · rw [dge, cond_false]
          · rw [hb1 hall]; rfl
          · rw [hb2 hno]; rfl
      by_cases hall : ∀ k, k < t.Kids.length → p k = true
      · obtain ⟨k1, k2⟩ := key true (fun _ => rfl) (fun ⟨k, hk, hk2⟩ => by rw [hall k hk] at hk2; cases hk2)
        refine ⟨true, k1, k2, fun _ => ⟨by rw [hc, hcl], fun u hu => ?_⟩⟩
        obtain ⟨k, hk, rfl⟩ := List.getElem_of_mem hu
        obtain ⟨u, y, e1, _, _, _, g3⟩ := hp k hk
        rw [List.getElem?_eq_getElem hk] at e1
        cases e1
        exact g3 (hall k hk)
      · obtain ⟨k1, k2⟩ := key false (fun h => absurd h hall) (fun _ => rfl)
        exact ⟨false, k1, k2, fun h => by cases h⟩
    · refine ⟨false, fun n hn => ?_, fun n hn => ?_, fun h => by cases h⟩
      · obtain ⟨m, rfl⟩ : ∃ m, n = m + 1 := ⟨n - 1, by omega⟩
        show check_numbers_b (rec2 m) t = some false
        unfold check_numbers_b
        rw [count_eq, hc]
        simp only [Option.bind_some]
        rw [show ((t.Kids.length : Int) != c) = true by simpa using hcl, cond_true]
      · obtain ⟨m, rfl⟩ : ∃ m, n = m + 1 := ⟨n - 1, by omega⟩
        show ref10_Numbers_b (rec4 m) x = some false
        unfold ref10_Numbers_b
        rw [h1, hc, h5]
        simp only [Option.bind_some]
        rw [show ((t.Kids.length : Int) != c) = true by simpa using hcl, cond_true]
theorem num_of_gd : ∀ (d : Nat) (t : GTerm) (x : ref10Term), Cp d t x → Gd d t → ∀ n, d ≤ n → (rec4 n).ref10_Numbers x = some true
  | 0, _, _, h, _, _, _ => h.elim
  | d + 1, t, x, ⟨h1, h2, h3, h4, h5, h6, h7⟩, ⟨g1, g2⟩, n, hn => by
    obtain ⟨m, rfl⟩ : ∃ m, n = m + 1 := ⟨n - 1, by omega⟩
    show ref10_Numbers_b (rec4 m) x = some true
    unfold ref10_Numbers_b
    rw [h1, g1, h5]
    simp only [Option.bind_some]
    rw [show ((t.Kids.length : Int) != (t.Kids.length : Int)) = false by simp, cond_false]
    refine loop_all (n := t.Kids.length) (by omega) (fun _ => true) false (fun k hk _ => ?_) ?_ (fun hall => ?_) (fun ⟨k, _, hk⟩ => by cases hk)
    · have hk' : k < x.Kids.length := by omega
      rw [dlt hk, cond_true, idx_get hk']
      simp only [Option.bind_some]
      rw [num_of_gd d t.Kids[k] x.Kids[k] (h7 k _ _ (List.getElem?_eq_getElem hk) (List.getElem?_eq_getElem hk')) (g2 _ (List.getElem_mem hk)) m (by omega)]
      rfl
    · rw [dge, cond_false]
    · rfl
theorem and255 {a : Int} (ha : Wd a) : bits .and .u32 a 255 = Int.tmod a 256 := by
  obtain ⟨m, rfl⟩ : ∃ m : Nat, a = m := ⟨a.toNat, by omega⟩
  show IntKind.u32.wrap ((BitVec.ofInt 32 (m : Int) &&& BitVec.ofInt 32 ((255 : Nat) : Int)).toNat : Int) = _
  rw [BitVec.toNat_and, bv32 (by omega), bv32 (by omega), show (255 : Nat) = 2 ^ 8 - 1 from rfl, Nat.and_two_pow_sub_one_eq_mod, w32u (by omega), Int.tmod_eq_emod_of_nonneg (by omega)]
  simp
theorem fold_ok : ∀ (d : Nat) (t : GTerm) (x : ref10Term), Cp d t x → d ≤ 1000 → Gd d t → ∃ y, (∀ n, d ≤ n → (rec3 n).check_fold t = some y) ∧ (∀ n, d ≤ n → (rec5 n).ref10_Fold x = some y) ∧ Wd y.1
  | 0, _, _, h, _, _ => h.elim
  | d + 1, t, x, hcp, hd, hgd => by
    have hnum : ref10_Numbers x = some true := num_of_gd (d + 1) t x hcp hgd NN (by unfold NN; omega)
    obtain ⟨h1, h2, h3, h4, h5, h6, h7⟩ := hcp
    obtain ⟨g1, g2⟩ := hgd
    have h0 : Wd 0 := by decide
    have wb : ∀ c : Bool, Wd (b2 c) := by decide
    -- the parts
    have kid : ∀ k, k < t.Kids.length → ∃ (u : GTerm) (z : ref10Term) (y : Int × Int), idx t.Kids (k : Int) = some u ∧ idx x.Kids (k : Int) = some z ∧ (∀ n, d ≤ n → (rec3 n).check_fold u = some y) ∧ (∀ n, d ≤ n → (rec5 n).ref10_Fold z = some y) ∧ Wd y.1 := by
      intro k hk
      have hk' : k < x.Kids.length := by omega
      obtain ⟨y, e1, e2, e3⟩ := fold_ok d t.Kids[k] x.Kids[k] (h7 k _ _ (List.getElem?_eq_getElem hk) (List.getElem?_eq_getElem hk')) (by omega) (g2 _ (List.getElem_mem hk))
      exact ⟨_, _, y, idx_get hk, idx_get hk', e1, e2, e3⟩
    have mk : ∀ (y : Int × Int), (∀ m, d ≤ m → check_fold_b (rec3 m) t = some y) → (∀ m, d ≤ m → ref10_Fold_b (rec5 m) x = some y) → Wd y.1 → ∃ y, (∀ n, d + 1 ≤ n → (rec3 n).check_fold t = some y) ∧ (∀ n, d + 1 ≤ n → (rec5 n).ref10_Fold x = some y) ∧ Wd y.1 := by
      intro y a b c
      refine ⟨y, fun n hn => ?_, fun n hn => ?_, c⟩
      · obtain ⟨m, rfl⟩ : ∃ m, n = m + 1 := ⟨n - 1, by omega⟩
        exact a m (by omega)
      · obtain ⟨m, rfl⟩ : ∃ m, n = m + 1 := ⟨n - 1, by omega⟩
        exact b m (by omega)
    by_cases k1 : t.Kind = 1
    · refine mk (t.Num, 0) (fun m hm => ?_) (fun m hm => ?_) h4
      · simp [check_fold_b, k1]
      · simp [ref10_Fold_b, hnum, h1, k1, h3]
    have hkind : t.Kind = 5 ∨ t.Kind = 17 ∨ t.Kind = 6 ∨ t.Kind = 7 ∨ t.Kind = 8 ∨ t.Kind = 9 := by
      have hg := g1
      unfold ref10_count at hg
      by_cases a5 : t.Kind = 5
      · exact .inl a5
      by_cases a17 : t.Kind = 17
      · exact .inr (.inl a17)
      by_cases a6 : t.Kind = 6
      · exact .inr (.inr (.inl a6))
      by_cases a7 : t.Kind = 7
      · exact .inr (.inr (.inr (.inl a7)))
      by_cases a8 : t.Kind = 8
      · exact .inr (.inr (.inr (.inr (.inl a8))))
      by_cases a9 : t.Kind = 9
      · exact .inr (.inr (.inr (.inr (.inr a9))))
      have n : ∀ c : Int, t.Kind ≠ c → (t.Kind == c) = false := fun c h => by simpa using h
      simp only [n 1 k1, n 5 a5, n 6 a6, n 7 a7, n 8 a8, n 9 a9, n 17 a17, cond_false] at hg
      injection hg with hg
      omega
    have hlen : ∀ c : Nat, ref10_count t.Kind = some (c : Int) → t.Kids.length = c := fun c h => by
      rw [g1] at h; injection h with h; omega
    have hpos : 0 < t.Kids.length := by
      rcases hkind with h | h | h | h | h | h <;> rw [h] at g1 <;> (injection (show some _ = some _ from g1) with g1; omega)
    obtain ⟨u0, z0, y0, i0, j0, f0, r0, w0⟩ := kid 0 hpos
    have i0' : idx t.Kids 0 = some u0 := i0
    have j0' : idx x.Kids 0 = some z0 := j0
    by_cases he : y0.2 = 0
    case neg =>
      have he' : (y0.2 != 0) = true := by simpa using he
      refine mk (0, y0.2) (fun m hm => ?_) (fun m hm => ?_) h0
      · unfold check_fold_b
        rw [show (t.Kind == 1) = false by simpa using k1, cond_false, i0']
        simp only [Option.bind_some, f0 m hm]
        rw [he', cond_true]
      · unfold ref10_Fold_b
        rw [hnum, h1]
        simp only [Option.bind_some, Bool.not_true, cond_false]
        rw [show (t.Kind == 1) = false by simpa using k1, cond_false, j0']
        simp only [Option.bind_some, r0 m hm]
        rw [he', cond_true]
    have he' : (y0.2 != 0) = false := by simpa using he
    -- the same beginning of both
    have beg : ∀ m, d ≤ m → ∀ y, (jn (fun kk1 => bif t.Kind == 17 then (some (bits .and .u32 y0.1 255, (0 : Int))) else (bif t.Kind == 5 then ((check_Apply t.Fn y0.1 0).bind fun y2 => some (y2.1, y2.2)) else (bif t.Kind == 9 then (bif y0.1 != 0 then ((idx t.Kids 1).bind fun u2 => ((rec3 m).check_fold u2).bind fun y3 => some (y3.1, y3.2)) else ((idx t.Kids 2).bind fun u3 => ((rec3 m).check_fold u3).bind fun y4 => some (y4.1, y4.2))) else (jn (fun kk2 => bif t.Kind == 7 then (kk2 (t.Kind == 7)) else (kk2 (t.Kind == 8))) (fun (x1 : Bool) => bif x1 then (bif (y0.1 != 0) == (t.Kind == 8) then ((check_bit (y0.1 != 0)).bind fun y5 => some (y5, (0 : Int))) else (kk1 ())) else (kk1 ())))))) (fun (_ : Unit) => (idx t.Kids 1).bind fun u4 => ((rec3 m).check_fold u4).bind fun y6 => bif y6.2 != 0 then (some ((0 : Int), y6.2)) else (bif t.Kind != 6 then ((check_bit (y6.1 != 0)).bind fun y7 => some (y7, (0 : Int))) else ((check_Apply t.Fn y0.1 y6.1).bind fun y8 => some (y8.1, y8.2))))) = some y → check_fold_b (rec3 m) t = some y := by
      intro m hm y hy
      unfold check_fold_b
      rw [show (t.Kind == 1) = false by simpa using k1, cond_false, i0']
      simp only [Option.bind_some, f0 m hm]
      rw [he', cond_false]
      exact hy
    rcases hkind with hk | hk | hk | hk | hk | hk
    · -- a function of one
      obtain ⟨y, e1, e2, e3⟩ := apply_law (fn := t.Fn) w0 h0
      refine mk y (fun m hm => beg m hm y ?_) (fun m hm => ?_) e3
      · rw [hk]; simp [jn, e1]
      · unfold ref10_Fold_b
        rw [hnum, h1, hk, j0', h2]
        simp only [Option.bind_some, r0 m hm]
        simp [he, e2]
    · -- cut
      refine mk (Int.tmod y0.1 256, 0) (fun m hm => beg m hm _ ?_) (fun m hm => ?_) ?_
      · rw [hk]; simp [jn, and255 w0]
      · unfold ref10_Fold_b
        rw [hnum, h1, hk, j0']
        simp only [Option.bind_some, r0 m hm]
        simp [he]
      · rw [Int.tmod_eq_emod_of_nonneg w0.1]
        exact ⟨by omega, by omega⟩
    · -- a function of two
      have h2l : t.Kids.length = 2 := hlen 2 (by rw [hk]; rfl)
      obtain ⟨u1, z1, y1, i1, j1, f1, r1, w1⟩ := kid 1 (by omega)
      have i1' : idx t.Kids 1 = some u1 := i1
      have j1' : idx x.Kids 1 = some z1 := j1
      by_cases hf : y1.2 = 0
      · obtain ⟨y, e1, e2, e3⟩ := apply_law (fn := t.Fn) w0 w1
        refine mk y (fun m hm => beg m hm y ?_) (fun m hm => ?_) e3
        · rw [hk, i1']; simp [jn, f1 m hm, hf, e1]
        · unfold ref10_Fold_b
          rw [hnum, h1, hk, j0', j1', h2]
          simp only [Option.bind_some, r0 m hm, r1 m hm]
          simp [he, hf, e2]
      · have hf' : (y1.2 != 0) = true := by simpa using hf
        refine mk (0, y1.2) (fun m hm => beg m hm _ ?_) (fun m hm => ?_) h0
        · rw [hk, i1']; simp [jn, f1 m hm, hf']
        · unfold ref10_Fold_b
          rw [hnum, h1, hk, j0', j1']
          simp only [Option.bind_some, r0 m hm, r1 m hm]
          simp [he, hf']
    · -- and
      have h2l : t.Kids.length = 2 := hlen 2 (by rw [hk]; rfl)
      obtain ⟨u1, z1, y1, i1, j1, f1, r1, w1⟩ := kid 1 (by omega)
      have i1' : idx t.Kids 1 = some u1 := i1
      have j1' : idx x.Kids 1 = some z1 := j1
      by_cases ha : y0.1 = 0
      · have ha' : (y0.1 != 0) = false := by simpa using ha
        refine mk (0, 0) (fun m hm => beg m hm _ ?_) (fun m hm => ?_) h0
        · rw [hk, ha', cbit]; simp [jn, b2]
        · unfold ref10_Fold_b
          rw [hnum, h1, hk, j0']
          simp only [Option.bind_some, r0 m hm]
          simp [he, ha]
      · have ha' : (y0.1 != 0) = true := by simpa using ha
        have ha2 : (y0.1 == 0) = false := by simpa using ha
        by_cases hf : y1.2 = 0
        · refine mk (b2 (y1.1 != 0), 0) (fun m hm => beg m hm _ ?_) (fun m hm => ?_) (wb _)
          · rw [hk, i1', ha']; simp [jn, f1 m hm, hf, cbit]
          · unfold ref10_Fold_b
            rw [hnum, h1, hk, j0', j1']
            simp only [Option.bind_some, r0 m hm, r1 m hm]
            simp [he, hf, ha2, truth]
        · have hf' : (y1.2 != 0) = true := by simpa using hf
          refine mk (0, y1.2) (fun m hm => beg m hm _ ?_) (fun m hm => ?_) h0
          · rw [hk, i1', ha']; simp [jn, f1 m hm, hf']
          · unfold ref10_Fold_b
            rw [hnum, h1, hk, j0', j1']
            simp only [Option.bind_some, r0 m hm, r1 m hm]
            simp [he, hf', ha2]
    · -- or
      have h2l : t.Kids.length = 2 := hlen 2 (by rw [hk]; rfl)
      obtain ⟨u1, z1, y1, i1, j1, f1, r1, w1⟩ := kid 1 (by omega)
      have i1' : idx t.Kids 1 = some u1 := i1
      have j1' : idx x.Kids 1 = some z1 := j1
      by_cases ha : y0.1 = 0
      · have ha' : (y0.1 != 0) = false := by simpa using ha
        by_cases hf : y1.2 = 0
        · refine mk (b2 (y1.1 != 0), 0) (fun m hm => beg m hm _ ?_) (fun m hm => ?_) (wb _)
          · rw [hk, i1', ha']; simp [jn, f1 m hm, hf, cbit]
          · unfold ref10_Fold_b
            rw [hnum, h1, hk, j0', j1']
            simp only [Option.bind_some, r0 m hm, r1 m hm]
            simp [he, hf, ha', truth]
        · have hf' : (y1.2 != 0) = true := by simpa using hf
          refine mk (0, y1.2) (fun m hm => beg m hm _ ?_) (fun m hm => ?_) h0
          · rw [hk, i1', ha']; simp [jn, f1 m hm, hf']
          · unfold ref10_Fold_b
            rw [hnum, h1, hk, j0', j1']
            simp only [Option.bind_some, r0 m hm, r1 m hm]
            simp [he, hf', ha']
      · have ha' : (y0.1 != 0) = true := by simpa using ha
        refine mk (1, 0) (fun m hm => beg m hm _ ?_) (fun m hm => ?_) (by decide)
        · rw [hk, ha', cbit]; simp [jn, b2]
        · unfold ref10_Fold_b
          rw [hnum, h1, hk, j0']
          simp only [Option.bind_some, r0 m hm]
          simp [he, ha']
    · -- a choice
      have h3l : t.Kids.length = 3 := hlen 3 (by rw [hk]; rfl)
      obtain ⟨u1, z1, y1, i1, j1, f1, r1, w1⟩ := kid 1 (by omega)
      obtain ⟨u2, z2, y2, i2, j2, f2, r2, w2⟩ := kid 2 (by omega)
      have i1' : idx t.Kids 1 = some u1 := i1
      have j1' : idx x.Kids 1 = some z1 := j1
      have i2' : idx t.Kids 2 = some u2 := i2
      have j2' : idx x.Kids 2 = some z2 := j2
      by_cases ha : y0.1 = 0
      · have ha' : (y0.1 != 0) = false := by simpa using ha
        refine mk y2 (fun m hm => beg m hm _ ?_) (fun m hm => ?_) w2
        · rw [hk, i2', ha']; simp [jn, f2 m hm]
        · unfold ref10_Fold_b
          rw [hnum, h1, hk, j0', j2']
          simp only [Option.bind_some, r0 m hm, r2 m hm]
          simp [he, ha']
      · have ha' : (y0.1 != 0) = true := by simpa using ha
        refine mk y1 (fun m hm => beg m hm _ ?_) (fun m hm => ?_) w1
        · rw [hk, i1', ha']; simp [jn, f1 m hm]
        · unfold ref10_Fold_b
          rw [hnum, h1, hk, j0', j1']
          simp only [Option.bind_some, r0 m hm, r1 m hm]
          simp [he, ha']
theorem CheckFolds_law {t : GTerm} (hw : WfT t) : law10_CheckFolds t = some true := by
  obtain ⟨x, left, e1, e2, e3⟩ := ref_ok NN t 300 hw (by omega) (by unfold NN; omega) (by omega)
  have e1' : law10_ref t 300 = some (x, (left : Int)) := e1
  unfold law10_CheckFolds law10_awake
  rw [e1']
  simp only [Option.bind_some]
  by_cases hl : 0 < left
  · rw [df (by omega), cond_false]
    have hcp := e3 hl
    obtain ⟨b, n1, n2, n3⟩ := num_ok 300 t x hcp
    have n1' : check_numbers t = some b := n1 NN (by unfold NN; omega)
    have n2' : ref10_Numbers x = some b := n2 NN (by unfold NN; omega)
    cases b with
    | false =>
      have h1 : check_Fold t = some (0, 9) := by unfold check_Fold; rw [n1']; rfl
      have h2 : ref10_Fold x = some (0, 9) := by
        show (rec5 NN).ref10_Fold x = _
        rw [show NN = (NN - 1) + 1 from rfl]
        show ref10_Fold_b _ x = _
        unfold ref10_Fold_b
        rw [n2']
        rfl
      rw [h1, h2]
      rfl
    | true =>
      obtain ⟨y, f1, f2, _⟩ := fold_ok 300 t x hcp (by omega) (n3 rfl)
      have f1' : check_fold t = some y := f1 NN (by unfold NN; omega)
      have f2' : ref10_Fold x = some y := f2 NN (by unfold NN; omega)
      have h1 : check_Fold t = some y := by unfold check_Fold; rw [n1']; simp [f1']
      rw [h1, f2']
      simp
  · rw [dt (by omega), cond_true]
end Go.Proofs.YtpfgdpffgdengaaGreat
