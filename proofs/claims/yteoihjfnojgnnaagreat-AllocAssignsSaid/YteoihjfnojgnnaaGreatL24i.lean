/- Plain laws on the models of what is given: the machine's registers, in order. No program is in sight here. -/
import Derived.Test.YteoihjfnojgnnaaGreatL24x
set_option linter.unusedVariables false
namespace Go.Proofs.YteoihjfnojgnnaaGreat

def nm : List Int := [8, 9, 18, 19, 20, 21, 22, 23, 24, 25, 26, 27]
theorem nm_name {k : Nat} (h : k < 12) : ref24_Name (k : Int) = some (nm.getD k 0) := by
  have : ∀ k : _root_.Fin 12, ref24_Name (k.val : Int) = some (nm.getD k.val 0) := by decide
  exact this ⟨k, h⟩

/-! Sorting. -/
theorem getD_set (l : List Int) (i j : Nat) (v : Int) (h : i < l.length) : (l.set i v).getD j 0 = if j = i then v else l.getD j 0 := by
  simp only [List.getD_eq_getElem?_getD, List.getElem?_set]
  by_cases e : i = j
  · subst e; simp [h]
  · simp [e, Ne.symm e]
theorem less_eq (a b : Int) : cmp_Less a b = some (decide (a < b)) := by
  unfold cmp_Less cmp_isNaN
  simp
theorem idx_getD {l : List Int} {k : Nat} (h : k < l.length) : idx l (k : Int) = some (l.getD k 0) := by
  rw [idx_get h]; simp [h]
theorem ins_inner (l x : List Int) (i : Nat) (hi : i < x.length) (hl : x.length < 1000) (hp : x.Perm l) (ho : ∀ a b, a < b → b < i → x.getD a 0 ≤ x.getD b 0) :
    ∃ o, loopM (fun (x3, x4) => (bif decide ((0 : Int) < x4) then ((idx x3 x4).bind fun u1 => (idx x3 (IntKind.wrap .i64 (x4 - 1))).bind fun u2 => (cmp_Less u1 u2).bind fun y1 => bif y1 then ((idx x3 (IntKind.wrap .i64 (x4 - 1))).bind fun u3 => (idx x3 x4).bind fun u4 => (idx x3 x4).bind fun u5 => (idx x3 x4).bind fun u6 => (idx (List.set x3 (Int.toNat x4) u3) (IntKind.wrap .i64 (x4 - 1))).bind fun u7 => (idx (List.set x3 (Int.toNat x4) u3) (IntKind.wrap .i64 (x4 - 1))).bind fun u8 => some (Lp.go (List.set (List.set x3 (Int.toNat x4) u3) (Int.toNat (IntKind.wrap .i64 (x4 - 1))) u4, IntKind.wrap .i64 (x4 - 1)))) else (some (Lp.brk (x3, x4)))) else (some (Lp.brk (x3, x4))) : Option (Lp ((List Int) × Int) (Unit)))) NN (x, (i : Int)) = some o ∧
      ∃ y j, o = .brk (y, j) ∧ y.Perm l ∧ ∀ a b, a < b → b < i + 1 → y.getD a 0 ≤ y.getD b 0 := by
  refine loop_some (fun (s : List Int × Int) => s.1.Perm l ∧ s.1.length = x.length ∧ ∃ j : Nat, s.2 = (j : Int) ∧ j ≤ i ∧ ∀ a b, a < b → b < i + 1 → b ≠ j → s.1.getD a 0 ≤ s.1.getD b 0) (fun (s : List Int × Int) => s.2.toNat)
    (fun o => ∃ y j, o = .brk (y, j) ∧ y.Perm l ∧ ∀ a b, a < b → b < i + 1 → y.getD a 0 ≤ y.getD b 0) ⟨hp, rfl, i, rfl, Nat.le_refl _, fun a b h1 h2 h3 => ho a b h1 (by omega)⟩ (NN_big (by dsimp only; omega)) ?_
  rintro ⟨y, j'⟩ ⟨h1, h2, j, h3, h4, h5⟩
  dsimp only at h1 h2 h3 h5 ⊢
  subst h3
  rcases Nat.eq_zero_or_pos j with rfl | hj
  · rw [c0 (by rfl)]
    exact ⟨_, rfl, y, _, rfl, h1, fun a b ha hb => h5 a b ha hb (by omega)⟩
  · rw [c1 (dt (by omega)), w64 (by omega)]
    have e1 : (j : Int) - 1 = ((j - 1 : Nat) : Int) := by omega
    rw [e1, idx_getD (l := y) (by omega), idx_getD (l := y) (k := j - 1) (by omega)]
    simp only [Option.bind_some, less_eq, Int.toNat_natCast]
    by_cases hc : y.getD j 0 < y.getD (j - 1) 0
    · rw [dt hc, cond_true, idx_getD (l := y.set j (y.getD (j - 1) 0)) (by simp; omega)]
      simp only [Option.bind_some]
      refine ⟨_, rfl, ⟨?_, by simp [h2], j - 1, rfl, by omega, fun a b ha hb hne => ?_⟩, by omega⟩
      · refine List.Perm.trans ?_ h1
        have := List.set_set_perm (as := y) (i := j) (j := j - 1) (by omega) (by omega)
        rw [show y.getD (j - 1) 0 = y[j - 1] by rw [List.getD_eq_getElem?_getD, List.getElem?_eq_getElem (by omega)]; rfl, show y.getD j 0 = y[j] by rw [List.getD_eq_getElem?_getD, List.getElem?_eq_getElem (by omega)]; rfl]
        exact this
      · have g : ∀ (u v : Int) (c : Nat), ((y.set j u).set (j - 1) v).getD c 0 = if c = j - 1 then v else if c = j then u else y.getD c 0 := fun u v c => by
          rw [getD_set _ _ _ _ (by simp; omega), getD_set _ _ _ _ (by omega)]
        rw [g, g]
        by_cases q1 : b = j
        · subst q1
          rw [if_neg (show ¬ b = b - 1 by omega), if_pos (rfl : b = b)]
          by_cases q2 : a = b - 1
          · rw [if_pos q2]; omega
          · rw [if_neg q2, if_neg (by omega)]
            exact h5 a (b - 1) (by omega) (by omega) (by omega)
        · rw [if_neg hne, if_neg q1]
          by_cases q2 : a = j - 1
          · rw [if_pos q2]; exact h5 j b (by omega) hb q1
          · rw [if_neg q2]
            by_cases q3 : a = j
            · rw [if_pos q3]; exact h5 (j - 1) b (by omega) hb q1
            · rw [if_neg q3]; exact h5 a b ha hb q1
    · rw [df hc, cond_false]
      refine ⟨_, rfl, y, _, rfl, h1, fun a b ha hb => ?_⟩
      by_cases q1 : b = j
      · subst q1
        by_cases q2 : a = b - 1
        · subst q2; omega
        · have := h5 a (b - 1) (by omega) (by omega) (by omega); omega
      · exact h5 a b ha hb q1
theorem ins_sort (l : List Int) (hl : l.length ≤ 12) : ∃ y, slices_insertionSortOrdered l 0 (l.length : Int) = some y ∧ y.Perm l ∧ ∀ a b, a < b → b < l.length → y.getD a 0 ≤ y.getD b 0 := by
  unfold slices_insertionSortOrdered
  have key := loop_some (R := Unit) (body := fun (x1, x2) => (bif decide (x2 < (l.length : Int)) then ((loopM (fun (x3, x4) => (bif decide ((0 : Int) < x4) then ((idx x3 x4).bind fun u1 => (idx x3 (IntKind.wrap .i64 (x4 - 1))).bind fun u2 => (cmp_Less u1 u2).bind fun y1 => bif y1 then ((idx x3 (IntKind.wrap .i64 (x4 - 1))).bind fun u3 => (idx x3 x4).bind fun u4 => (idx x3 x4).bind fun u5 => (idx x3 x4).bind fun u6 => (idx (List.set x3 (Int.toNat x4) u3) (IntKind.wrap .i64 (x4 - 1))).bind fun u7 => (idx (List.set x3 (Int.toNat x4) u3) (IntKind.wrap .i64 (x4 - 1))).bind fun u8 => some (Lp.go (List.set (List.set x3 (Int.toNat x4) u3) (Int.toNat (IntKind.wrap .i64 (x4 - 1))) u4, IntKind.wrap .i64 (x4 - 1)))) else (some (Lp.brk (x3, x4)))) else (some (Lp.brk (x3, x4))) : Option (Lp ((List Int) × Int) (Unit)))) NN (x1, x2)).bind fun o => o.thn (fun (x3, x4) => some (Lp.go (x3, IntKind.wrap .i64 (x2 + 1)))) (fun _ => none)) else (some (Lp.brk (x1, x2))) : Option (Lp ((List Int) × Int) (Unit))))
    (n := NN) (s := (l, 1)) (fun (s : List Int × Int) => s.1.Perm l ∧ s.1.length = l.length ∧ ∃ k : Nat, s.2 = (k : Int) ∧ k < 20 ∧ (k ≤ l.length ∨ k = 1) ∧ ∀ a b, a < b → b < k → s.1.getD a 0 ≤ s.1.getD b 0) (fun (s : List Int × Int) => 20 - s.2.toNat)
    (fun o => ∃ y j, o = .brk (y, j) ∧ y.Perm l ∧ ∀ a b, a < b → b < l.length → y.getD a 0 ≤ y.getD b 0) ⟨.refl _, rfl, 1, rfl, by omega, .inr rfl, fun a b h1 h2 => by omega⟩ (NN_big (by dsimp only; omega)) (by
      rintro ⟨y, k'⟩ ⟨h1, h2, k, h3, h4, h5, h6⟩
      dsimp only at h1 h2 h3 h6 ⊢
      subst h3
      by_cases hk : k < l.length
      · rw [c1 (dt (by omega))]
        obtain ⟨o, ho, y2, j, rfl, hp, hs⟩ := ins_inner l y k (by omega) (by omega) h1 h6
        rw [ho, Option.bind_some]
        refine ⟨_, rfl, ⟨hp, hp.length_eq, k + 1, ?_, by omega, .inl (by omega), hs⟩, ?_⟩
        · dsimp only; rw [w64 (by omega)]; omega
        · dsimp only; rw [w64 (by omega)]; omega
      · rw [c0 (df (by omega))]
        exact ⟨_, rfl, y, _, rfl, h1, fun a b ha hb => h6 a b ha (by omega)⟩)
  rw [show IntKind.wrap .i64 ((0 : Int) + 1) = 1 from rfl]
  obtain ⟨o, ho, y, j, rfl, h1, h2⟩ := key
  rw [ho]
  exact ⟨y, rfl, h1, h2⟩
theorem sort_eq (l : List Int) (hl : l.length ≤ 12) : ∃ y, slices_Sort l = some y ∧ y.Perm l ∧ ∀ a b, a < b → b < l.length → y.getD a 0 ≤ y.getD b 0 := by
  obtain ⟨y, h1, h2⟩ := ins_sort l hl
  refine ⟨y, ?_, h2⟩
  unfold slices_Sort
  have hb : ∀ n : _root_.Fin 13, (bits_Len (IntKind.wrap .u64 (n.val : Int))).isSome = true := by decide +kernel
  obtain ⟨c, hc⟩ := Option.isSome_iff_exists.1 (hb ⟨l.length, by omega⟩)
  dsimp only at hc
  rw [hc, Option.bind_some]
  unfold slices_pdqsortOrdered
  rw [run_bind (fun _ => ((0 : Int), (l.length : Int))) 0 (.ret y) rfl (by omega) (fun k hk => by omega) ?_ trivial rfl]
  · rfl
  · dsimp only
    rw [w64 (by omega), c1 (dt (by omega)), h1]
    rfl

/-! The registers that are given. -/
theorem pigeon : ∀ (l m : List Int), l.Nodup → (∀ x ∈ l, x ∈ m) → l.length ≤ m.length
  | [], m, _, _ => by simp
  | a :: l, m, hn, hs => by
    have ha := hs a (by simp)
    have hn' := List.nodup_cons.1 hn
    have := pigeon l (m.erase a) hn'.2 fun x hx => (List.mem_erase_of_ne (by rintro rfl; exact hn'.1 hx)).2 (hs x (by simp [hx]))
    rw [List.length_erase_of_mem ha] at this
    have hpos : 0 < m.length := List.length_pos_of_mem ha
    simp; omega
theorem strict_eq : ∀ (a b : List Int), a.Pairwise (· < ·) → b.Pairwise (· < ·) → (∀ x, x ∈ a ↔ x ∈ b) → a = b
  | [], b, _, _, h => by
    cases b with
    | nil => rfl
    | cons y b => have := (h y).2 (by simp); simp at this
  | x :: a, [], _, _, h => by have := (h x).1 (by simp); simp at this
  | x :: a, y :: b, ha, hb, h => by
    obtain ⟨ha1, ha2⟩ := List.pairwise_cons.1 ha
    obtain ⟨hb1, hb2⟩ := List.pairwise_cons.1 hb
    have hxy : x = y := by
      have h1 := (h x).1 (by simp)
      have h2 := (h y).2 (by simp)
      rcases List.mem_cons.1 h1 with e | h1
      · exact e
      · rcases List.mem_cons.1 h2 with e | h2
        · exact e.symm
        · have := hb1 x h1; have := ha1 y h2; omega
    subst hxy
    congr 1
    refine strict_eq a b ha2 hb2 fun z => ⟨fun hz => ?_, fun hz => ?_⟩
    · rcases List.mem_cons.1 ((h z).1 (by simp [hz])) with e | h'
      · have := ha1 z hz; omega
      · exact h'
    · rcases List.mem_cons.1 ((h z).2 (by simp [hz])) with e | h'
      · have := hb1 z hz; omega
      · exact h'
def saved (l : List Seat) : List Int := nm.filter fun n => l.any fun s => s.Reg == n
def addR (acc : List Int) (s : Seat) : List Int := if 0 < s.Reg ∧ s.Reg ∉ acc then acc ++ [s.Reg] else acc
theorem addR_mem {acc : List Int} {s : Seat} {x : Int} : x ∈ addR acc s ↔ x ∈ acc ∨ 0 < x ∧ s.Reg = x := by
  unfold addR
  split
  · rename_i h
    simp only [List.mem_append, List.mem_singleton]
    constructor
    · rintro (h' | h')
      · exact .inl h'
      · exact .inr ⟨by omega, h'.symm⟩
    · rintro (h' | h')
      · exact .inl h'
      · exact .inr h'.2.symm
  · rename_i h
    constructor
    · exact .inl
    · rintro (h' | ⟨h1, h2⟩)
      · exact h'
      · by_cases hm : s.Reg ∈ acc
        · rwa [h2] at hm
        · exact absurd ⟨by omega, hm⟩ h
theorem addR_nodup {acc : List Int} {s : Seat} (h : acc.Nodup) : (addR acc s).Nodup := by
  unfold addR
  split
  · rename_i hc
    refine List.nodup_append.2 ⟨h, by simp, fun a ha b hb => ?_⟩
    simp at hb
    subst hb
    exact fun e => hc.2 (e ▸ ha)
  · exact h
def dd (l : List Seat) (k : Nat) : List Int := (l.take k).foldl addR []
theorem dd_succ {l : List Seat} {k : Nat} (h : k < l.length) : dd l (k + 1) = addR (dd l k) l[k] := by
  unfold dd
  rw [List.take_succ_eq_append_getElem h, List.foldl_append]
  rfl
theorem dd_mem (l : List Seat) : ∀ k x, k ≤ l.length → (x ∈ dd l k ↔ 0 < x ∧ ∃ s ∈ l.take k, s.Reg = x)
  | 0, x, _ => by simp [dd]
  | k + 1, x, h => by
    rw [dd_succ (by omega), addR_mem, dd_mem l k x (by omega), List.take_succ_eq_append_getElem (by omega)]
    simp only [List.mem_append, List.mem_singleton]
    constructor
    · rintro (⟨h1, s, h2, h3⟩ | ⟨h1, h2⟩)
      · exact ⟨h1, s, .inl h2, h3⟩
      · exact ⟨h1, _, .inr rfl, h2⟩
    · rintro ⟨h1, s, h2 | h2, h3⟩
      · exact .inl ⟨h1, s, h2, h3⟩
      · subst h2; exact .inr ⟨h1, h3⟩
theorem dd_nodup (l : List Seat) : ∀ k, k ≤ l.length → (dd l k).Nodup
  | 0, _ => by simp [dd]
  | k + 1, h => by rw [dd_succ (by omega)]; exact addR_nodup (dd_nodup l k (by omega))
theorem index_eq (l : List Int) (x : Int) (hl : l.length < 4611686018427387904) : slices_Contains l x = some (l.contains x) := by
  unfold slices_Contains slices_Index
  have : ((loopM (fun (x1 : Int) => (bif decide (x1 < (List.length l : Int)) then ((idx l x1).bind fun u1 => bif x == u1 then (some (Lp.ret x1)) else (some (Lp.go (IntKind.wrap .i64 (x1 + 1))))) else (some (Lp.brk x1)) : Option (Lp (Int) (Int)))) NN 0).bind fun o => o.thn (fun (x1 : Int) => some (-1)) (fun r => some r)) = some (match l.findIdx? (fun n => x == n) with | some k => (k : Int) | none => -1) := by
    refine find_bind l _ (fun k => (k : Int)) hl (fun k hk => ?_) (by rw [c0 (dge _)]) (by cases l.findIdx? _ <;> rfl)
    rw [c1 (dlt hk), idx_get hk, Option.bind_some]
    cases x == l[k] <;> rfl
  rw [this, Option.bind_some]
  rw [List.contains_eq_any_beq, ← List.findIdx?_isSome]
  cases l.findIdx? _ with
  | none => rfl
  | some k => simp
theorem sub_nm {l : List Seat} (hs : ∀ s ∈ l, s.Reg = 0 ∨ s.Reg ∈ nm) {k : Nat} (hk : k ≤ l.length) : ∀ x ∈ dd l k, x ∈ nm := fun x hx => by
  obtain ⟨h1, s, h2, h3⟩ := (dd_mem l k x hk).1 hx
  rcases hs s (List.mem_of_mem_take h2) with h | h
  · omega
  · exact h3 ▸ h
theorem dd_len {l : List Seat} (hs : ∀ s ∈ l, s.Reg = 0 ∨ s.Reg ∈ nm) {k : Nat} (hk : k ≤ l.length) : (dd l k).length ≤ 12 := pigeon _ nm (dd_nodup l k hk) (sub_nm hs hk)
theorem nm_sorted : nm.Pairwise (· < ·) := by decide
theorem nm_pos : ∀ x ∈ nm, 0 < x := by decide
theorem saved_len (l : List Seat) : (saved l).length ≤ 12 := List.length_filter_le _ nm
theorem Given_eq (l : List Seat) (hl : l.length ≤ 60) (hs : ∀ s ∈ l, s.Reg = 0 ∨ s.Reg ∈ nm) : alloc_Given l = some (saved l) := by
  unfold alloc_Given
  refine run_bind (fun k => (dd l k, (k : Int))) l.length (.brk (dd l l.length, (l.length : Int))) rfl (by omega) (fun k hk => ?_) (by dsimp only; rw [c0 (dge _)]) trivial ?_
  · dsimp only
    have hlen := dd_len hs (k := k) (by omega)
    rw [c1 (dlt hk), idx_get hk]
    simp only [jn, Option.bind_some]
    rw [dd_succ hk, w64 (by omega), index_eq _ _ (by omega)]
    unfold addR
    by_cases h1 : 0 < l[k].Reg
    · rw [c1 (dt h1), Option.bind_some]
      by_cases h2 : l[k].Reg ∈ dd l k
      · rw [if_neg (fun h => h.2 h2), show (dd l k).contains l[k].Reg = true by simpa using h2]; rfl
      · rw [if_pos ⟨h1, h2⟩, show (dd l k).contains l[k].Reg = false by simpa using h2, room_ok (by simp; omega)]; rfl
    · rw [c0 (df h1), if_neg (fun h => h1 h.1)]; rfl
  · dsimp only [Lp.thn]
    obtain ⟨y, h1, h2, h3⟩ := sort_eq (dd l l.length) (dd_len hs (Nat.le_refl _))
    rw [h1, Option.bind_some]
    congr 1
    have hnd : y.Nodup := h2.nodup_iff.2 (dd_nodup l _ (Nat.le_refl _))
    refine strict_eq y (saved l) ?_ (nm_sorted.filter _) fun x => ?_
    · refine List.pairwise_iff_getElem.2 fun i j hi hj hij => ?_
      have h4 := h3 i j hij (by rw [← h2.length_eq]; exact hj)
      have h5 : y[i] ≠ y[j] := List.pairwise_iff_getElem.1 hnd i j hi hj hij
      simp only [List.getD_eq_getElem?_getD, List.getElem?_eq_getElem hi, List.getElem?_eq_getElem hj, Option.getD_some] at h4
      omega
    · rw [h2.mem_iff, dd_mem l _ x (Nat.le_refl _), List.take_length]
      unfold saved
      rw [List.mem_filter, List.any_eq_true]
      constructor
      · rintro ⟨h4, s, h5, h6⟩
        refine ⟨?_, s, h5, by simpa using h6⟩
        rcases hs s h5 with h | h
        · omega
        · exact h6 ▸ h
      · rintro ⟨h4, s, h5, h6⟩
        exact ⟨nm_pos x h4, s, h5, by simpa using h6⟩
end Go.Proofs.YteoihjfnojgnnaaGreat
