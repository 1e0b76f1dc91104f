/- Plain laws of layer 25 (frame): what the models of its functions compute. No program is in sight here. -/
import Derived.Test.YtejhglcbjpdjlaaM
import Derived.Test.YtejhglcbjpdjlaaLoop
set_option linter.unusedVariables false
namespace Go.Proofs.Ytejhglcbjpdjlaa

theorem awake_eq : law25_awake = some true := by kernel_rfl
def nm : List Int := [8, 9, 18, 19, 20, 21, 22, 23, 24, 25, 26, 27]
theorem nm_name {k : Nat} (h : k < 12) : ref24_Name (k : Int) = some (nm.getD k 0) := by
  have : ∀ k : _root_.Fin 12, ref24_Name (k.val : Int) = some (nm.getD k.val 0) := by decide
  exact this ⟨k, h⟩

/-! Sorting. -/
theorem getD_set (l : List Int) (i j : Nat) (v : Int) (h : i < l.length) : (l.set i v).getD j 0 = if j = i then v else l.getD j 0 := by
  simp only [List.getD_eq_getElem?_getD, List.getElem?_set]
  by_cases e : i = j
  · subst e; simp [h]
  · simp [e, Ne.symm e]
theorem less_eq (a b : Int) : cmp_Less a b = some (decide (a < b)) := by
  unfold cmp_Less cmp_isNaN
  simp
theorem idx_getD {l : List Int} {k : Nat} (h : k < l.length) : idx l (k : Int) = some (l.getD k 0) := by
  rw [idx_get h]; simp [h]
theorem ins_inner (l x : List Int) (i : Nat) (hi : i < x.length) (hl : x.length < 1000) (hp : x.Perm l) (ho : ∀ a b, a < b → b < i → x.getD a 0 ≤ x.getD b 0) :
    ∃ o, loopM (fun (x3, x4) => (bif decide ((0 : Int) < x4) then ((idx x3 x4).bind fun u1 => (idx x3 (IntKind.wrap .i64 (x4 - 1))).bind fun u2 => (cmp_Less u1 u2).bind fun y1 => bif y1 then ((idx x3 (IntKind.wrap .i64 (x4 - 1))).bind fun u3 => (idx x3 x4).bind fun u4 => (idx x3 x4).bind fun u5 => (idx x3 x4).bind fun u6 => (idx (List.set x3 (Int.toNat x4) u3) (IntKind.wrap .i64 (x4 - 1))).bind fun u7 => (idx (List.set x3 (Int.toNat x4) u3) (IntKind.wrap .i64 (x4 - 1))).bind fun u8 => some (Lp.go (List.set (List.set x3 (Int.toNat x4) u3) (Int.toNat (IntKind.wrap .i64 (x4 - 1))) u4, IntKind.wrap .i64 (x4 - 1)))) else (some (Lp.brk (x3, x4)))) else (some (Lp.brk (x3, x4))) : Option (Lp ((List Int) × Int) (Unit)))) NN (x, (i : Int)) = some o ∧
      ∃ y j, o = .brk (y, j) ∧ y.Perm l ∧ ∀ a b, a < b → b < i + 1 → y.getD a 0 ≤ y.getD b 0 := by
  refine loop_some (fun (s : List Int × Int) => s.1.Perm l ∧ s.1.length = x.length ∧ ∃ j : Nat, s.2 = (j : Int) ∧ j ≤ i ∧ ∀ a b, a < b → b < i + 1 → b ≠ j → s.1.getD a 0 ≤ s.1.getD b 0) (fun (s : List Int × Int) => s.2.toNat)
    (fun o => ∃ y j, o = .brk (y, j) ∧ y.Perm l ∧ ∀ a b, a < b → b < i + 1 → y.getD a 0 ≤ y.getD b 0) ⟨hp, rfl, i, rfl, Nat.le_refl _, fun a b h1 h2 h3 => ho a b h1 (by omega)⟩ (NN_big (by dsimp only; omega)) ?_
  rintro ⟨y, j'⟩ ⟨h1, h2, j, h3, h4, h5⟩
  dsimp only at h1 h2 h3 h5 ⊢
  subst h3
  rcases Nat.eq_zero_or_pos j with rfl | hj
  · rw [c0 (by rfl)]
    exact ⟨_, rfl, y, _, rfl, h1, fun a b ha hb => h5 a b ha hb (by omega)⟩
  · rw [c1 (dt (by omega)), w64 (by omega)]
    have e1 : (j : Int) - 1 = ((j - 1 : Nat) : Int) := by omega
    rw [e1, idx_getD (l := y) (by omega), idx_getD (l := y) (k := j - 1) (by omega)]
    simp only [Option.bind_some, less_eq, Int.toNat_natCast]
    by_cases hc : y.getD j 0 < y.getD (j - 1) 0
    · rw [dt hc, cond_true, idx_getD (l := y.set j (y.getD (j - 1) 0)) (by simp; omega)]
      simp only [Option.bind_some]
      refine ⟨_, rfl, ⟨?_, by simp [h2], j - 1, rfl, by omega, fun a b ha hb hne => ?_⟩, by omega⟩
      · refine List.Perm.trans ?_ h1
        have := List.set_set_perm (as := y) (i := j) (j := j - 1) (by omega) (by omega)
        rw [show y.getD (j - 1) 0 = y[j - 1] by rw [List.getD_eq_getElem?_getD, List.getElem?_eq_getElem (by omega)]; rfl, show y.getD j 0 = y[j] by rw [List.getD_eq_getElem?_getD, List.getElem?_eq_getElem (by omega)]; rfl]
        exact this
      · have g : ∀ (u v : Int) (c : Nat), ((y.set j u).set (j - 1) v).getD c 0 = if c = j - 1 then v else if c = j then u else y.getD c 0 := fun u v c => by
          rw [getD_set _ _ _ _ (by simp; omega), getD_set _ _ _ _ (by omega)]
        rw [g, g]
        by_cases q1 : b = j
        · subst q1
          rw [if_neg (show ¬ b = b - 1 by omega), if_pos (rfl : b = b)]
          by_cases q2 : a = b - 1
          · rw [if_pos q2]; omega
          · rw [if_neg q2, if_neg (by omega)]
            exact h5 a (b - 1) (by omega) (by omega) (by omega)
        · rw [if_neg hne, if_neg q1]
          by_cases q2 : a = j - 1
          · rw [if_pos q2]; exact h5 j b (by omega) hb q1
          · rw [if_neg q2]
            by_cases q3 : a = j
            · rw [if_pos q3]; exact h5 (j - 1) b (by omega) hb q1
            · rw [if_neg q3]; exact h5 a b ha hb q1
    · rw [df hc, cond_false]
      refine ⟨_, rfl, y, _, rfl, h1, fun a b ha hb => ?_⟩
      by_cases q1 : b = j
      · subst q1
        by_cases q2 : a = b - 1
        · subst q2; omega
        · have := h5 a (b - 1) (by omega) (by omega) (by omega); omega
      · exact h5 a b ha hb q1
theorem ins_sort (l : List Int) (hl : l.length ≤ 12) : ∃ y, slices_insertionSortOrdered l 0 (l.length : Int) = some y ∧ y.Perm l ∧ ∀ a b, a < b → b < l.length → y.getD a 0 ≤ y.getD b 0 := by
  unfold slices_insertionSortOrdered
  have key := loop_some (R := Unit) (body := fun (x1, x2) => (bif decide (x2 < (l.length : Int)) then ((loopM (fun (x3, x4) => (bif decide ((0 : Int) < x4) then ((idx x3 x4).bind fun u1 => (idx x3 (IntKind.wrap .i64 (x4 - 1))).bind fun u2 => (cmp_Less u1 u2).bind fun y1 => bif y1 then ((idx x3 (IntKind.wrap .i64 (x4 - 1))).bind fun u3 => (idx x3 x4).bind fun u4 => (idx x3 x4).bind fun u5 => (idx x3 x4).bind fun u6 => (idx (List.set x3 (Int.toNat x4) u3) (IntKind.wrap .i64 (x4 - 1))).bind fun u7 => (idx (List.set x3 (Int.toNat x4) u3) (IntKind.wrap .i64 (x4 - 1))).bind fun u8 => some (Lp.go (List.set (List.set x3 (Int.toNat x4) u3) (Int.toNat (IntKind.wrap .i64 (x4 - 1))) u4, IntKind.wrap .i64 (x4 - 1)))) else (some (Lp.brk (x3, x4)))) else (some (Lp.brk (x3, x4))) : Option (Lp ((List Int) × Int) (Unit)))) NN (x1, x2)).bind fun o => o.thn (fun (x3, x4) => some (Lp.go (x3, IntKind.wrap .i64 (x2 + 1)))) (fun _ => none)) else (some (Lp.brk (x1, x2))) : Option (Lp ((List Int) × Int) (Unit))))
    (n := NN) (s := (l, 1)) (fun (s : List Int × Int) => s.1.Perm l ∧ s.1.length = l.length ∧ ∃ k : Nat, s.2 = (k : Int) ∧ k < 20 ∧ (k ≤ l.length ∨ k = 1) ∧ ∀ a b, a < b → b < k → s.1.getD a 0 ≤ s.1.getD b 0) (fun (s : List Int × Int) => 20 - s.2.toNat)
    (fun o => ∃ y j, o = .brk (y, j) ∧ y.Perm l ∧ ∀ a b, a < b → b < l.length → y.getD a 0 ≤ y.getD b 0) ⟨.refl _, rfl, 1, rfl, by omega, .inr rfl, fun a b h1 h2 => by omega⟩ (NN_big (by dsimp only; omega)) (by
      rintro ⟨y, k'⟩ ⟨h1, h2, k, h3, h4, h5, h6⟩
      dsimp only at h1 h2 h3 h6 ⊢
      subst h3
      by_cases hk : k < l.length
      · rw [c1 (dt (by omega))]
        obtain ⟨o, ho, y2, j, rfl, hp, hs⟩ := ins_inner l y k (by omega) (by omega) h1 h6
        rw [ho, Option.bind_some]
        refine ⟨_, rfl, ⟨hp, hp.length_eq, k + 1, ?_, by omega, .inl (by omega), hs⟩, ?_⟩
        · dsimp only; rw [w64 (by omega)]; omega
        · dsimp only; rw [w64 (by omega)]; omega
      · rw [c0 (df (by omega))]
        exact ⟨_, rfl, y, _, rfl, h1, fun a b ha hb => h6 a b ha (by omega)⟩)
  rw [show IntKind.wrap .i64 ((0 : Int) + 1) = 1 from rfl]
  obtain ⟨o, ho, y, j, rfl, h1, h2⟩ := key
  rw [ho]
  exact ⟨y, rfl, h1, h2⟩
theorem sort_eq (l : List Int) (hl : l.length ≤ 12) : ∃ y, slices_Sort l = some y ∧ y.Perm l ∧ ∀ a b, a < b → b < l.length → y.getD a 0 ≤ y.getD b 0 := by
  obtain ⟨y, h1, h2⟩ := ins_sort l hl
  refine ⟨y, ?_, h2⟩
  unfold slices_Sort
  have hb : ∀ n : _root_.Fin 13, (bits_Len (IntKind.wrap .u64 (n.val : Int))).isSome = true := by decide +kernel
  obtain ⟨c, hc⟩ := Option.isSome_iff_exists.1 (hb ⟨l.length, by omega⟩)
  dsimp only at hc
  rw [hc, Option.bind_some]
  unfold slices_pdqsortOrdered
  rw [run_bind (fun _ => ((0 : Int), (l.length : Int))) 0 (.ret y) rfl (by omega) (fun k hk => by omega) ?_ trivial rfl]
  · rfl
  · dsimp only
    rw [w64 (by omega), c1 (dt (by omega)), h1]
    rfl

/-! The registers that are given. -/
theorem pigeon : ∀ (l m : List Int), l.Nodup → (∀ x ∈ l, x ∈ m) → l.length ≤ m.length
  | [], m, _, _ => by simp
  | a :: l, m, hn, hs => by
    have ha := hs a (by simp)
    have hn' := List.nodup_cons.1 hn
    have := pigeon l (m.erase a) hn'.2 fun x hx => (List.mem_erase_of_ne (by rintro rfl; exact hn'.1 hx)).2 (hs x (by simp [hx]))
    rw [List.length_erase_of_mem ha] at this
    have hpos : 0 < m.length := List.length_pos_of_mem ha
    simp; omega
theorem strict_eq : ∀ (a b : List Int), a.Pairwise (· < ·) → b.Pairwise (· < ·) → (∀ x, x ∈ a ↔ x ∈ b) → a = b
  | [], b, _, _, h => by
    cases b with
    | nil => rfl
    | cons y b => have := (h y).2 (by simp); simp at this
  | x :: a, [], _, _, h => by have := (h x).1 (by simp); simp at this
  | x :: a, y :: b, ha, hb, h => by
    obtain ⟨ha1, ha2⟩ := List.pairwise_cons.1 ha
    obtain ⟨hb1, hb2⟩ := List.pairwise_cons.1 hb
    have hxy : x = y := by
      have h1 := (h x).1 (by simp)
      have h2 := (h y).2 (by simp)
      rcases List.mem_cons.1 h1 with e | h1
      · exact e
      · rcases List.mem_cons.1 h2 with e | h2
        · exact e.symm
        · have := hb1 x h1; have := ha1 y h2; omega
    subst hxy
    congr 1
    refine strict_eq a b ha2 hb2 fun z => ⟨fun hz => ?_, fun hz => ?_⟩
    · rcases List.mem_cons.1 ((h z).1 (by simp [hz])) with e | h'
      · have := ha1 z hz; omega
      · exact h'
    · rcases List.mem_cons.1 ((h z).2 (by simp [hz])) with e | h'
      · have := hb1 z hz; omega
      · exact h'
def saved (l : List Seat) : List Int := nm.filter fun n => l.any fun s => s.Reg == n
def addR (acc : List Int) (s : Seat) : List Int := if 0 < s.Reg ∧ s.Reg ∉ acc then acc ++ [s.Reg] else acc
theorem addR_mem {acc : List Int} {s : Seat} {x : Int} : x ∈ addR acc s ↔ x ∈ acc ∨ 0 < x ∧ s.Reg = x := by
  unfold addR
  split
  · rename_i h
    simp only [List.mem_append, List.mem_singleton]
    constructor
    · rintro (h' | h')
      · exact .inl h'
      · exact .inr ⟨by omega, h'.symm⟩
    · rintro (h' | h')
      · exact .inl h'
      · exact .inr h'.2.symm
  · rename_i h
    constructor
    · exact .inl
    · rintro (h' | ⟨h1, h2⟩)
      · exact h'
      · by_cases hm : s.Reg ∈ acc
        · rwa [h2] at hm
        · exact absurd ⟨by omega, hm⟩ h
theorem addR_nodup {acc : List Int} {s : Seat} (h : acc.Nodup) : (addR acc s).Nodup := by
  unfold addR
  split
  · rename_i hc
    refine List.nodup_append.2 ⟨h, by simp, fun a ha b hb => ?_⟩
    simp at hb
    subst hb
    exact fun e => hc.2 (e ▸ ha)
  · exact h
def dd (l : List Seat) (k : Nat) : List Int := (l.take k).foldl addR []
theorem dd_succ {l : List Seat} {k : Nat} (h : k < l.length) : dd l (k + 1) = addR (dd l k) l[k] := by
  unfold dd
  rw [List.take_succ_eq_append_getElem h, List.foldl_append]
  rfl
theorem dd_mem (l : List Seat) : ∀ k x, k ≤ l.length → (x ∈ dd l k ↔ 0 < x ∧ ∃ s ∈ l.take k, s.Reg = x)
  | 0, x, _ => by simp [dd]
  | k + 1, x, h => by
    rw [dd_succ (by omega), addR_mem, dd_mem l k x (by omega), List.take_succ_eq_append_getElem (by omega)]
    simp only [List.mem_append, List.mem_singleton]
    constructor
    · rintro (⟨h1, s, h2, h3⟩ | ⟨h1, h2⟩)
      · exact ⟨h1, s, .inl h2, h3⟩
      · exact ⟨h1, _, .inr rfl, h2⟩
    · rintro ⟨h1, s, h2 | h2, h3⟩
      · exact .inl ⟨h1, s, h2, h3⟩
      · subst h2; exact .inr ⟨h1, h3⟩
theorem dd_nodup (l : List Seat) : ∀ k, k ≤ l.length → (dd l k).Nodup
  | 0, _ => by simp [dd]
  | k + 1, h => by rw [dd_succ (by omega)]; exact addR_nodup (dd_nodup l k (by omega))
theorem index_eq (l : List Int) (x : Int) (hl : l.length < 4611686018427387904) : slices_Contains l x = some (l.contains x) := by
  unfold slices_Contains slices_Index
  have : ((loopM (fun (x1 : Int) => (bif decide (x1 < (List.length l : Int)) then ((idx l x1).bind fun u1 => bif x == u1 then (some (Lp.ret x1)) else (some (Lp.go (IntKind.wrap .i64 (x1 + 1))))) else (some (Lp.brk x1)) : Option (Lp (Int) (Int)))) NN 0).bind fun o => o.thn (fun (x1 : Int) => some (-1)) (fun r => some r)) = some (match l.findIdx? (fun n => x == n) with | some k => (k : Int) | none => -1) := by
    refine find_bind l _ (fun k => (k : Int)) hl (fun k hk => ?_) (by rw [c0 (dge _)]) (by cases l.findIdx? _ <;> rfl)
    rw [c1 (dlt hk), idx_get hk, Option.bind_some]
    cases x == l[k] <;> rfl
  rw [this, Option.bind_some]
  rw [List.contains_eq_any_beq, ← List.findIdx?_isSome]
  cases l.findIdx? _ with
  | none => rfl
  | some k => simp
theorem sub_nm {l : List Seat} (hs : ∀ s ∈ l, s.Reg = 0 ∨ s.Reg ∈ nm) {k : Nat} (hk : k ≤ l.length) : ∀ x ∈ dd l k, x ∈ nm := fun x hx => by
  obtain ⟨h1, s, h2, h3⟩ := (dd_mem l k x hk).1 hx
  rcases hs s (List.mem_of_mem_take h2) with h | h
  · omega
  · exact h3 ▸ h
theorem dd_len {l : List Seat} (hs : ∀ s ∈ l, s.Reg = 0 ∨ s.Reg ∈ nm) {k : Nat} (hk : k ≤ l.length) : (dd l k).length ≤ 12 := pigeon _ nm (dd_nodup l k hk) (sub_nm hs hk)
theorem nm_sorted : nm.Pairwise (· < ·) := by decide
theorem nm_pos : ∀ x ∈ nm, 0 < x := by decide
theorem saved_len (l : List Seat) : (saved l).length ≤ 12 := List.length_filter_le _ nm
theorem Given_eq (l : List Seat) (hl : l.length ≤ 60) (hs : ∀ s ∈ l, s.Reg = 0 ∨ s.Reg ∈ nm) : alloc_Given l = some (saved l) := by
  unfold alloc_Given
  refine run_bind (fun k => (dd l k, (k : Int))) l.length (.brk (dd l l.length, (l.length : Int))) rfl (by omega) (fun k hk => ?_) (by dsimp only; rw [c0 (dge _)]) trivial ?_
  · dsimp only
    have hlen := dd_len hs (k := k) (by omega)
    rw [c1 (dlt hk), idx_get hk]
    simp only [jn, Option.bind_some]
    rw [dd_succ hk, w64 (by omega), index_eq _ _ (by omega)]
    unfold addR
    by_cases h1 : 0 < l[k].Reg
    · rw [c1 (dt h1), Option.bind_some]
      by_cases h2 : l[k].Reg ∈ dd l k
      · rw [if_neg (fun h => h.2 h2), show (dd l k).contains l[k].Reg = true by simpa using h2]; rfl
      · rw [if_pos ⟨h1, h2⟩, show (dd l k).contains l[k].Reg = false by simpa using h2, room_ok (by simp; omega)]; rfl
    · rw [c0 (df h1), if_neg (fun h => h1 h.1)]; rfl
  · dsimp only [Lp.thn]
    obtain ⟨y, h1, h2, h3⟩ := sort_eq (dd l l.length) (dd_len hs (Nat.le_refl _))
    rw [h1, Option.bind_some]
    congr 1
    have hnd : y.Nodup := h2.nodup_iff.2 (dd_nodup l _ (Nat.le_refl _))
    refine strict_eq y (saved l) ?_ (nm_sorted.filter _) fun x => ?_
    · refine List.pairwise_iff_getElem.2 fun i j hi hj hij => ?_
      have h4 := h3 i j hij (by rw [← h2.length_eq]; exact hj)
      have h5 : y[i] ≠ y[j] := List.pairwise_iff_getElem.1 hnd i j hi hj hij
      simp only [List.getD_eq_getElem?_getD, List.getElem?_eq_getElem hi, List.getElem?_eq_getElem hj, Option.getD_some] at h4
      omega
    · rw [h2.mem_iff, dd_mem l _ x (Nat.le_refl _), List.take_length]
      unfold saved
      rw [List.mem_filter, List.any_eq_true]
      constructor
      · rintro ⟨h4, s, h5, h6⟩
        refine ⟨?_, s, h5, by simpa using h6⟩
        rcases hs s h5 with h | h
        · omega
        · exact h6 ▸ h
      · rintro ⟨h4, s, h5, h6⟩
        exact ⟨nm_pos x h4, s, h5, by simpa using h6⟩
theorem Saved_eq (l : List Seat) (hl : l.length ≤ 60) : ref25_Saved l = some (saved l) := by
  unfold ref25_Saved
  refine run_bind (fun k => ((nm.take k).filter (fun n => l.any fun s => s.Reg == n), (k : Int))) 12 (.brk (saved l, 12)) rfl (by omega) (fun k hk => ?_) rfl trivial rfl
  dsimp only
  rw [c1 (dt (by omega))]
  simp only [jn]
  have hk' : k < nm.length := hk
  have hlen : ((nm.take k).filter (fun n => l.any fun s => s.Reg == n)).length ≤ k := Nat.le_trans (List.length_filter_le _ _) (by simp; omega)
  refine run_bind (fun j => ((l.take j).any (fun s => s.Reg == nm.getD k 0), (j : Int))) l.length (.brk (l.any (fun s => s.Reg == nm.getD k 0), (l.length : Int))) rfl (by omega) (fun j hj => ?_) ?_ trivial ?_
  · dsimp only
    rw [c1 (dlt hj), List.take_succ_eq_append_getElem hj, List.any_append, w64 (by omega)]
    cases (l.take j).any (fun s => s.Reg == nm.getD k 0) with
    | true => rfl
    | false => rw [cond_false, idx_get hj, nm_name hk]; simp
  · dsimp only; rw [c0 (dge _), List.take_length]
  · dsimp only [Lp.thn]
    rw [List.take_succ_eq_append_getElem hk', List.filter_append, w64 (by omega), nm_name hk]
    rw [show nm.getD k 0 = nm[k] by simp [hk']]
    cases h : l.any (fun s => s.Reg == nm[k]) with
    | true =>
      rw [cond_true, Option.bind_some, room_ok (by simp at hlen ⊢; omega), Option.bind_some, List.filter_cons_of_pos (by simpa using h)]; rfl
    | false => rw [cond_false, List.filter_cons_of_neg (by simp [h])]; simp

/-! Objects. -/
def up (n : Int) : Int := (n + 3) / 4 * 4
def tot (l : List GSlot) : Int := l.foldl (fun a s => up (a + s.Size)) 0
theorem tot_succ {l : List GSlot} {k : Nat} (h : k < l.length) : tot (l.take (k + 1)) = up (tot (l.take k) + l[k].Size) := by
  unfold tot
  rw [List.take_succ_eq_append_getElem h, List.foldl_append]
  rfl
theorem tot_bd {l : List GSlot} (hs : ∀ s ∈ l, 1 ≤ s.Size ∧ s.Size ≤ 40000) : ∀ k : Nat, k ≤ l.length → 0 ≤ tot (l.take k) ∧ tot (l.take k) ≤ 40004 * k ∧ tot (l.take k) % 4 = 0
  | 0, _ => by simp [tot]
  | k + 1, h => by
    have ih := tot_bd hs k (by omega)
    have := hs l[k] (List.getElem_mem (by omega))
    rw [tot_succ (by omega)]
    unfold up
    omega
theorem next_eq (n : Int) (h0 : 0 ≤ n) (h1 : n ≤ 100000000) : ref14_next n = some (up n) := by
  unfold ref14_next
  have hm : ∀ k : Int, 0 ≤ k → Int.tmod k 4 = k % 4 := fun k hk => Int.tmod_eq_emod_of_nonneg hk
  refine run_bind (fun k => n + (k : Int)) (up n - n).toNat (.brk (up n)) (by omega) (by unfold up; omega) (fun k hk => ?_) ?_ trivial rfl
  · unfold up at hk
    rw [hm _ (by omega), c1 (by simp; omega), w64 (by omega)]
    congr 2; omega
  · have : n + ((up n - n).toNat : Int) = up n := by unfold up; omega
    rw [this, hm _ (by unfold up; omega), c0 (by unfold up; simp)]
theorem irup_eq (n : Int) (h0 : 0 ≤ n) (h1 : n ≤ 100000000) : irrun_up n = some (up n) := by
  unfold irrun_up up
  rw [w64 (x := n + 4) (by omega), w64 (x := n + 4 - 1) (by omega), Int.tdiv_eq_ediv_of_nonneg (by omega), w64 (x := (n + 4 - 1) / 4) (by omega), w64 (x := (n + 4 - 1) / 4 * 4) (by omega)]
  congr 1; omega
def starts (l : List GSlot) (k : Nat) : List Int := (List.range k).map fun j => tot (l.take j)
theorem starts_succ (l : List GSlot) (k : Nat) : starts l (k + 1) = starts l k ++ [tot (l.take k)] := by unfold starts; rw [List.range_succ, List.map_append]; rfl
theorem starts_len (l : List GSlot) (k : Nat) : (starts l k).length = k := by simp [starts]
theorem irPlace_eq (l : List GSlot) (hl : l.length ≤ 60) (hs : ∀ s ∈ l, 1 ≤ s.Size ∧ s.Size ≤ 40000) : irrun_Place l = some (starts l l.length, tot l) := by
  unfold irrun_Place
  refine run_bind (fun k => (starts l k, tot (l.take k), (k : Int))) l.length (.brk (starts l l.length, tot l, (l.length : Int))) rfl (by omega) (fun k hk => ?_) ?_ trivial rfl
  · dsimp only
    have h1 := tot_bd hs k (by omega)
    have h2 := hs l[k] (List.getElem_mem hk)
    rw [c1 (dlt hk), idx_get hk, Option.bind_some, room_ok (by simp [starts_len]; omega), Option.bind_some, w64 (x := tot _ + _) (by omega), irup_eq _ (by omega) (by omega), Option.bind_some, starts_succ, tot_succ hk, w64 (by omega)]
    rfl
  · dsimp only; rw [c0 (dge _), List.take_length]
theorem rPlace_eq (l : List GSlot) (hl : l.length ≤ 60) (hs : ∀ s ∈ l, 1 ≤ s.Size ∧ s.Size ≤ 40000) : ref14_Place l = some (starts l l.length, tot l) := by
  unfold ref14_Place
  refine run_bind (fun k => (starts l k, tot (l.take k), (k : Int))) l.length (.brk (starts l l.length, tot l, (l.length : Int))) rfl (by omega) (fun k hk => ?_) ?_ trivial rfl
  · dsimp only
    have h1 := tot_bd hs k (by omega)
    have h2 := hs l[k] (List.getElem_mem hk)
    rw [c1 (dlt hk), idx_get hk, room_ok (by simp [starts_len]; omega), Option.bind_some, Option.bind_some, w64 (x := tot _ + _) (by omega), next_eq _ (by omega) (by omega), Option.bind_some, starts_succ, tot_succ hk, w64 (by omega)]
    rfl
  · dsimp only; rw [c0 (dge _), List.take_length]

/-! The frame. -/
structure Few (p : Proc) (l : List Seat) : Prop where
  n : p.Objects.length ≤ 60
  s : ∀ s ∈ p.Objects, 1 ≤ s.Size ∧ s.Size ≤ 40000
  m : l.length ≤ 60
  r : ∀ s ∈ l, s.Reg = 0 ∨ s.Reg ∈ nm
def fr0 : GFrame := ⟨0, [], 0, []⟩
/-- Where the objects begin. -/
def from_ (l : List Seat) (n : Int) : Int := 4 + 4 * ((saved l).length : Int) + 4 * n
def objs (p : Proc) (l : List Seat) (n : Int) (k : Nat) : List Int := (List.range k).map fun j => from_ l n + tot (p.Objects.take j)
def lay (p : Proc) (l : List Seat) (n : Int) : GFrame × Int :=
  if n < 0 ∨ (l.length : Int) ≠ p.Regs then (fr0, 1) else if 2000 < n then (fr0, 2)
  else if 2000 < from_ l n + tot p.Objects then (fr0, 2) else (⟨from_ l n + tot p.Objects, saved l, 4 + 4 * ((saved l).length : Int), objs p l n p.Objects.length⟩, 0)
theorem objs_loop {p : Proc} {l : List Seat} {n : Int} (h : Few p l) (h0 : 0 ≤ n) (h1 : n ≤ 2000) (S : List Int) (z : Int) {A : Type} {K : Lp (Int × GFrame) Unit → Option A} {X : Option A}
    (hX : K (.brk ((p.Objects.length : Int), ⟨0, S, z, objs p l n p.Objects.length⟩)) = X) :
    (loopM (fun (x3, x4) => (bif decide (x3 < (List.length (starts p.Objects p.Objects.length) : Int)) then ((idx (starts p.Objects p.Objects.length) x3).bind fun u1 => (room (List.length x4.Objects + List.length ([IntKind.wrap .i64 (from_ l n + u1)] : List Int))).bind fun _ => some (Lp.go (IntKind.wrap .i64 (x3 + 1), { x4 with Objects := x4.Objects ++ ([IntKind.wrap .i64 (from_ l n + u1)] : List Int) }))) else (some (Lp.brk (x3, x4))) : Option (Lp (Int × GFrame) (Unit)))) NN (0, (⟨0, S, z, []⟩ : GFrame))).bind K = X := by
  have hsl := saved_len l
  have hn := h.n
  refine run_bind (fun k => ((k : Int), ⟨0, S, z, objs p l n k⟩)) p.Objects.length (.brk ((p.Objects.length : Int), ⟨0, S, z, objs p l n p.Objects.length⟩)) rfl (by omega) (fun k hk => ?_) ?_ trivial hX
  · dsimp only
    have hb := tot_bd h.s k (by omega)
    rw [starts_len, c1 (dlt hk), idx_get (by rw [starts_len]; exact hk), Option.bind_some, room_ok (by simp [objs]; omega), Option.bind_some, w64 (x := (k : Int) + 1) (by omega)]
    have e : (starts p.Objects p.Objects.length)[k]'(by rw [starts_len]; exact hk) = tot (p.Objects.take k) := by simp [starts]
    rw [e, w64 (by unfold from_; omega)]
    congr 3
    unfold objs
    rw [List.range_succ, List.map_append]; rfl
  · dsimp only; rw [starts_len, c0 (dge _)]
theorem bnd {α β : Type} {m : Option α} {x : α} {f : α → Option β} {X : Option β} (h : m = some x) (k : f x = X) : m.bind f = X := by subst h; exact k
theorem Lay_eq {p : Proc} {l : List Seat} (h : Few p l) (n : Int) : frame_Lay p l n = some (lay p l n) := by
  have hsl := saved_len l
  have hn := h.n
  have hb := tot_bd h.s p.Objects.length (Nat.le_refl _)
  rw [List.take_length] at hb
  unfold frame_Lay lay
  by_cases h1 : n < 0
  · rw [c1 (dt h1), if_pos (.inl h1)]; rfl
  by_cases h2 : (l.length : Int) ≠ p.Regs
  · rw [c0 (df h1), c1 (by simpa using h2), if_pos (.inr h2)]; rfl
  rw [c0 (df h1), c0 (by simpa using h2), if_neg (fun hh => hh.elim h1 h2)]
  by_cases h3 : 2000 < n
  · rw [c1 (dt h3), if_pos h3]; rfl
  rw [c0 (df h3), if_neg h3]
  have hf : ∀ a b : Int, 0 ≤ a → 0 ≤ b → a ≤ 100000000 → b ≤ 100000000 → frame_Lay_1 a b = some (b, b + a) := fun a b x1 x2 x3 x4 => by
    unfold frame_Lay_1
    rw [w64 (x := b + a) (by omega), w64 (by omega)]
    congr 2; omega
  refine bnd (hf 4 0 (by omega) (by omega) (by omega) (by omega)) ?_
  refine bnd (Given_eq l h.m h.r) ?_
  dsimp only
  rw [w64 (x := 4 * ((saved l).length : Int)) (by omega)]
  refine bnd (hf _ (0 + 4) (by omega) (by omega) (by omega) (by omega)) ?_
  dsimp only
  rw [w64 (x := 4 * n) (by omega)]
  refine bnd (hf _ _ (by omega) (by omega) (by omega) (by omega)) ?_
  refine bnd (irPlace_eq _ hn h.s) ?_
  dsimp only
  refine bnd (hf _ _ (by omega) (by omega) (by omega) (by omega)) ?_
  dsimp only
  have e : (0 : Int) + 4 + 4 * ((saved l).length : Int) + 4 * n = from_ l n := by unfold from_; omega
  rw [e]
  refine objs_loop h (by omega) (by omega) _ _ ?_
  dsimp only [Lp.thn]
  by_cases h4 : 2000 < from_ l n + tot p.Objects
  · rw [c1 (dt h4), if_pos h4]; rfl
  · rw [c0 (df h4), if_neg h4, show (0 : Int) + 4 + 4 * ((saved l).length : Int) = 4 + 4 * ((saved l).length : Int) by omega]
theorem rLay_eq {p : Proc} {l : List Seat} (h : Few p l) (n : Int) : ref25_Lay p l n = some (lay p l n) := by
  have hsl := saved_len l
  have hn := h.n
  have hb := tot_bd h.s p.Objects.length (Nat.le_refl _)
  rw [List.take_length] at hb
  unfold ref25_Lay lay
  by_cases h1 : n < 0
  · rw [c1 (dt h1), if_pos (.inl h1)]; rfl
  by_cases h2 : (l.length : Int) ≠ p.Regs
  · rw [c0 (df h1), c1 (by simpa using h2), if_pos (.inr h2)]; rfl
  rw [c0 (df h1), c0 (by simpa using h2), if_neg (fun hh => hh.elim h1 h2)]
  by_cases h3 : 2000 < n
  · rw [c1 (dt h3), if_pos h3]; rfl
  rw [c0 (df h3), if_neg h3, Saved_eq l h.m]
  simp only [Option.bind_some]
  rw [rPlace_eq _ hn h.s]
  simp only [Option.bind_some]
  rw [w64 (x := 4 * ((saved l).length : Int)) (by omega), w64 (x := 4 + _) (by omega), w64 (x := 4 * n) (by omega), w64 (x := 4 + _ + _) (by omega)]
  have e : 4 + 4 * ((saved l).length : Int) + 4 * n = from_ l n := rfl
  rw [e]
  refine objs_loop h (by omega) (by omega) _ _ ?_
  dsimp only [Lp.thn]
  rw [w64 (x := from_ l n + _) (by unfold from_; omega)]
  by_cases h4 : 2000 < from_ l n + tot p.Objects
  · rw [c1 (dt h4), if_pos h4]; rfl
  · rw [c0 (df h4), if_neg h4]
def okO (s : GSlot) : Bool := decide (1 ≤ s.Size) && decide (s.Size ≤ 40000)
def okR (s : Seat) : Bool := s.Reg == 0 || nm.contains s.Reg
def fewB (p : Proc) (l : List Seat) : Bool := decide (p.Objects.length ≤ 60) && decide (l.length ≤ 60) && p.Objects.all okO && l.all okR
theorem all_getD {α : Type} (l : List α) (f : α → Bool) : l.all f = true ↔ ∀ k, k < l.length → (l.map f).getD k true = true := by
  rw [List.all_eq_true]
  constructor
  · intro h k hk
    simpa [hk] using h l[k] (List.getElem_mem hk)
  · intro h x hx
    obtain ⟨k, hk, rfl⟩ := List.getElem_of_mem hx
    simpa [hk] using h k hk
theorem map_getD {α : Type} {l : List α} {f : α → Bool} {k : Nat} (hk : k < l.length) : (l.map f).getD k true = f l[k] := by simp [hk]
theorem few_eq (p : Proc) (l : List Seat) : law25_few p l = some (fewB p l) := by
  unfold law25_few fewB
  by_cases h1 : 60 < p.Objects.length
  · rw [c1 (dt (by omega)), df (by omega)]; rfl
  rw [c0 (df (by omega)), dt (show p.Objects.length ≤ 60 by omega)]
  by_cases h2 : 60 < l.length
  · rw [c1 (dt (by omega)), df (by omega)]; simp
  rw [c0 (df (by omega)), dt (show l.length ≤ 60 by omega)]
  refine loop_all (n := p.Objects.length) (by omega) (fun k => (p.Objects.map okO).getD k true) false (fun k hk _ => ?_) (by rw [c0 (dge _)]) (fun h => ?_) (fun ⟨k, hk, h⟩ => ?_)
  · rw [map_getD hk, c1 (dlt hk), idx_get hk, Option.bind_some]
    unfold okO
    by_cases q1 : p.Objects[k].Size < 1
    · rw [c1 (dt q1), df (show ¬ 1 ≤ p.Objects[k].Size by omega)]; rfl
    · rw [c0 (df q1), Option.bind_some, dt (show 1 ≤ p.Objects[k].Size by omega)]
      by_cases q2 : 40000 < p.Objects[k].Size
      · rw [c1 (dt q2), df (show ¬ p.Objects[k].Size ≤ 40000 by omega)]; rfl
      · rw [c0 (df q2), dt (show p.Objects[k].Size ≤ 40000 by omega)]; rfl
  · rw [(all_getD p.Objects okO).2 h]
    dsimp only [Lp.thn]
    refine loop_all (n := l.length) (by omega) (fun k => (l.map okR).getD k true) false (fun k hk _ => ?_) (by rw [c0 (dge _)]) (fun h => ?_) (fun ⟨k, hk, h⟩ => ?_)
    · rw [map_getD hk, c1 (dlt hk), idx_get hk, Option.bind_some]
      refine run_bind (fun j => (l[k].Reg == 0 || (nm.take j).contains l[k].Reg, (j : Int))) 12 (.brk (okR l[k], 12)) (by simp) (by omega) (fun j hj => ?_) rfl trivial ?_
      · dsimp only
        rw [c1 (dt (by omega)), w64 (by omega)]
        have hj' : j < nm.length := hj
        rw [List.take_succ_eq_append_getElem hj']
        cases hc : (l[k].Reg == 0 || (nm.take j).contains l[k].Reg) with
        | true =>
          rw [cond_true]
          congr 3
          rcases Bool.or_eq_true_iff.1 hc with h | h
          · rw [h]; rfl
          · rw [List.contains_iff_mem] at h
            rw [show (nm.take j ++ [nm[j]]).contains l[k].Reg = true from List.contains_iff_mem.2 (List.mem_append.2 (.inl h)), Bool.or_true]
        | false =>
          rw [cond_false, nm_name hj, show nm.getD j 0 = nm[j] by simp [hj'], Option.bind_some]
          obtain ⟨h3, h4⟩ := Bool.or_eq_false_iff.1 hc
          rw [h3, Bool.false_or, List.contains_eq_any_beq, List.any_append]
          rw [List.contains_eq_any_beq] at h4
          rw [h4]
          simp
      · dsimp only [Lp.thn]
        cases okR l[k] <;> rfl
    · rw [(all_getD l okR).2 h]; rfl
    · have : l.all okR = false := by
        cases ha : l.all okR with
        | false => rfl
        | true => rw [(all_getD l okR).1 ha k hk] at h; cases h
      rw [this]; rfl
  · have : p.Objects.all okO = false := by
      cases ha : p.Objects.all okO with
      | false => rfl
      | true => rw [(all_getD p.Objects okO).1 ha k hk] at h; cases h
    rw [this]; rfl
theorem few_of {p : Proc} {l : List Seat} (h : fewB p l = true) : Few p l := by
  unfold fewB at h
  simp only [Bool.and_eq_true, decide_eq_true_eq, List.all_eq_true] at h
  obtain ⟨⟨⟨h1, h2⟩, h3⟩, h4⟩ := h
  refine ⟨h1, fun s hs => ?_, h2, fun s hs => ?_⟩
  · have := h3 s hs
    unfold okO at this
    simpa using this
  · have := h4 s hs
    unfold okR at this
    simpa using this
theorem same_eq (a : List Int) (h : a.length < 4611686018427387904) : law25_same a a = some true := by
  unfold law25_same
  rw [c0 (by simp)]
  refine run_bind (fun k => (k : Int)) a.length (.brk (a.length : Int)) rfl (by omega) (fun k hk => ?_) (by rw [c0 (dge _)]) trivial rfl
  rw [c1 (dlt hk), idx_get hk, Option.bind_some, Option.bind_some, c0 (by simp), w64 (by omega)]
  congr 2
theorem lay_len {p : Proc} {l : List Seat} (h : Few p l) (n : Int) : (lay p l n).1.Saved.length ≤ 12 ∧ (lay p l n).1.Objects.length ≤ 60 := by
  have h1 := saved_len l
  have h2 := h.n
  unfold lay
  split
  · simp [fr0]
  · split
    · simp [fr0]
    · split
      · simp [fr0]
      · simp [objs]; omega
theorem FrameLays_law (p : Proc) (l : List Seat) (n : Int) : law25_FrameLays p l n = some true := by
  unfold law25_FrameLays
  refine bnd (few_eq p l) ?_
  cases hf : fewB p l with
  | false => rw [Bool.not_false, cond_true, awake_eq]; rfl
  | true =>
    have h := few_of hf
    have hl := lay_len h n
    rw [Bool.not_true, cond_false]
    refine bnd (Lay_eq h n) ?_
    refine bnd (rLay_eq h n) ?_
    refine bnd awake_eq ?_
    rw [cond_true, c1 (by simp), c1 (by simp), c1 (by simp), same_eq _ (by omega), Option.bind_some, cond_true, same_eq _ (by omega)]
    rfl

/-! All parts lie apart. -/
/-- How many parts there are ahead of the objects. -/
def mid (l : List Seat) (n : Int) : Nat := 1 + (saved l).length + n.toNat
def pos (p : Proc) (l : List Seat) (n : Int) (i : Nat) : Int := if i < mid l n then 4 * (i : Int) else 4 * (mid l n : Int) + tot (p.Objects.take (i - mid l n))
def size (p : Proc) (l : List Seat) (n : Int) (i : Nat) : Int := if i < mid l n then 4 else (p.Objects.map (·.Size)).getD (i - mid l n) 0
def ats (p : Proc) (l : List Seat) (n : Int) (k : Nat) : List Int := (List.range k).map (pos p l n)
def szs (p : Proc) (l : List Seat) (n : Int) (k : Nat) : List Int := (List.range k).map (size p l n)
theorem ats_succ (p : Proc) (l : List Seat) (n : Int) (k : Nat) : ats p l n (k + 1) = ats p l n k ++ [pos p l n k] := by unfold ats; rw [List.range_succ, List.map_append]; rfl
theorem szs_succ (p : Proc) (l : List Seat) (n : Int) (k : Nat) : szs p l n (k + 1) = szs p l n k ++ [size p l n k] := by unfold szs; rw [List.range_succ, List.map_append]; rfl
theorem ats_len (p : Proc) (l : List Seat) (n : Int) (k : Nat) : (ats p l n k).length = k := by simp [ats]
theorem szs_len (p : Proc) (l : List Seat) (n : Int) (k : Nat) : (szs p l n k).length = k := by simp [szs]
theorem ats_idx (p : Proc) (l : List Seat) (n : Int) {k i : Nat} (h : i < k) : idx (ats p l n k) (i : Int) = some (pos p l n i) := by
  rw [idx_get (by rw [ats_len]; exact h)]; simp [ats]
theorem szs_idx (p : Proc) (l : List Seat) (n : Int) {k i : Nat} (h : i < k) : idx (szs p l n k) (i : Int) = some (size p l n i) := by
  rw [idx_get (by rw [szs_len]; exact h)]; simp [szs]
theorem pos_step {p : Proc} {l : List Seat} (h : Few p l) (n : Int) {i : Nat} (hi : i < mid l n + p.Objects.length) :
    0 ≤ pos p l n i ∧ pos p l n i % 4 = 0 ∧ 0 ≤ size p l n i ∧ size p l n i ≤ 40000 ∧ pos p l n i + size p l n i ≤ pos p l n (i + 1) := by
  unfold pos size
  by_cases h1 : i < mid l n
  · rw [if_pos h1, if_pos h1]
    by_cases h2 : i + 1 < mid l n
    · rw [if_pos h2]; omega
    · rw [if_neg h2, show i + 1 - mid l n = 0 by omega]
      simp [tot]; omega
  · rw [if_neg h1, if_neg h1, if_neg (by omega)]
    have hk : i - mid l n < p.Objects.length := by omega
    have hb := tot_bd h.s (i - mid l n) (by omega)
    have hs := h.s _ (List.getElem_mem hk)
    rw [show i + 1 - mid l n = (i - mid l n) + 1 by omega, tot_succ hk]
    have e : (p.Objects.map (·.Size)).getD (i - mid l n) 0 = p.Objects[i - mid l n].Size := by simp [hk]
    rw [e]
    unfold up
    omega
theorem pos_mono {p : Proc} {l : List Seat} (h : Few p l) (n : Int) : ∀ {j i : Nat}, i ≤ j → j ≤ mid l n + p.Objects.length → pos p l n i ≤ pos p l n j
  | 0, i, h1, _ => by rw [show i = 0 by omega]; exact Int.le_refl _
  | j + 1, i, h1, h2 => by
    by_cases e : i = j + 1
    · rw [e]; exact Int.le_refl _
    · have := pos_mono h n (j := j) (i := i) (by omega) (by omega)
      have := pos_step h n (i := j) (by omega)
      omega
theorem FrameApart_law (p : Proc) (l : List Seat) (n : Int) : law25_FrameApart p l n = some true := by
  unfold law25_FrameApart
  refine bnd (few_eq p l) ?_
  cases hf : fewB p l with
  | false => rw [Bool.not_false, cond_true, awake_eq]; rfl
  | true =>
  have h := few_of hf
  have hsl := saved_len l
  have hno := h.n
  rw [Bool.not_true, cond_false]
  by_cases h0 : n < 0
  · rw [c1 (dt h0), awake_eq]; rfl
  rw [c0 (df h0)]
  by_cases h1 : 600 < n
  · rw [c1 (dt h1), awake_eq]; rfl
  rw [c0 (df h1)]
  refine bnd (Lay_eq h n) ?_
  unfold lay
  by_cases h2 : (l.length : Int) ≠ p.Regs
  · rw [if_pos (.inr h2), c1 (by rfl), awake_eq]; rfl
  rw [if_neg (fun hh => hh.elim h0 h2), if_neg (show ¬ 2000 < n by omega)]
  by_cases h4 : 2000 < from_ l n + tot p.Objects
  · rw [if_pos h4, c1 (by rfl), awake_eq]; rfl
  rw [if_neg h4, c0 (by rfl)]
  dsimp only
  have hb := tot_bd h.s p.Objects.length (Nat.le_refl _)
  rw [List.take_length] at hb
  have hfrom : from_ l n = 4 * (mid l n : Int) := by unfold from_ mid; omega
  have hend : from_ l n + tot p.Objects = pos p l n (mid l n + p.Objects.length) := by
    unfold pos
    rw [if_neg (by omega), show mid l n + p.Objects.length - mid l n = p.Objects.length by omega, List.take_length, hfrom]
  have hmid : mid l n ≤ 613 := by unfold mid; omega
  generalize hS : from_ l n + tot p.Objects = S at h4 hend ⊢
  have hS0 : 0 ≤ S := by omega
  rw [c0 (df (by omega)), c0 (df h4), c0 (by simp [objs])]
  refine bnd (x := List.replicate S.toNat false) (by unfold repl; rw [if_pos (by omega)]) ?_
  have ol : (objs p l n p.Objects.length).length = p.Objects.length := by simp [objs]
  -- the registers that are kept
  refine run_bind (fun k => (szs p l n (k + 1), ats p l n (k + 1), (k : Int))) (saved l).length (.brk (szs p l n ((saved l).length + 1), ats p l n ((saved l).length + 1), ((saved l).length : Int))) ?_ (by omega) (fun k hk => ?_) (by dsimp only; rw [c0 (dge _)]) trivial ?_
  · have e1 : size p l n 0 = 4 := by unfold size mid; rw [if_pos (by omega)]
    have e2 : pos p l n 0 = 0 := by unfold pos mid; rw [if_pos (by omega)]; rfl
    simp [szs, ats, e1, e2]
  · dsimp only
    rw [c1 (dlt hk)]
    unfold frame_Kept
    rw [Option.bind_some, room_ok (by simp [ats_len]; omega), Option.bind_some, room_ok (by simp [szs_len]; omega), Option.bind_some, w64 (x := (k : Int) + 1) (by omega), w64 (by omega), szs_succ p l n (k + 1), ats_succ p l n (k + 1)]
    have e1 : size p l n (k + 1) = 4 := by unfold size mid; rw [if_pos (by omega)]
    have e2 : pos p l n (k + 1) = 4 * ((k : Int) + 1) := by unfold pos mid; rw [if_pos (by omega)]; omega
    rw [e1, e2]
    rfl
  dsimp only [Lp.thn]
  -- the slots
  have hnn : n = (n.toNat : Int) := by omega
  refine run_bind (fun k => (szs p l n ((saved l).length + 1 + k), ats p l n ((saved l).length + 1 + k), (k : Int))) n.toNat (.brk (szs p l n (mid l n), ats p l n (mid l n), n)) rfl (by omega) (fun k hk => ?_) ?_ trivial ?_
  · dsimp only
    rw [c1 (dt (by omega))]
    unfold frame_Slot
    dsimp only
    rw [Option.bind_some, room_ok (by simp [ats_len]; omega), Option.bind_some, room_ok (by simp [szs_len]; omega), Option.bind_some, w64 (x := 4 * (k : Int)) (by omega), w64 (x := (k : Int) + 1) (by omega), w64 (by omega), ← Nat.add_assoc, szs_succ, ats_succ]
    have e1 : size p l n ((saved l).length + 1 + k) = 4 := by unfold size mid; rw [if_pos (by omega)]
    have e2 : pos p l n ((saved l).length + 1 + k) = 4 + 4 * ((saved l).length : Int) + 4 * (k : Int) := by unfold pos mid; rw [if_pos (by omega)]; omega
    rw [e1, e2]
    rfl
  · dsimp only
    rw [c0 (df (by omega)), show (saved l).length + 1 + n.toNat = mid l n by unfold mid; omega, ← hnn]
  dsimp only [Lp.thn]
  -- the objects
  refine run_bind (fun k => (szs p l n (mid l n + k), ats p l n (mid l n + k), (k : Int))) p.Objects.length (.brk (szs p l n (mid l n + p.Objects.length), ats p l n (mid l n + p.Objects.length), (p.Objects.length : Int))) rfl (by omega) (fun k hk => ?_) (by dsimp only; rw [ol, c0 (dge _)]) trivial ?_
  · dsimp only
    rw [ol, c1 (dlt hk), idx_get (by rw [ol]; exact hk), Option.bind_some, room_ok (by simp [ats_len]; omega), Option.bind_some, idx_get hk, Option.bind_some, room_ok (by simp [szs_len]; omega), Option.bind_some, w64 (by omega), ← Nat.add_assoc, szs_succ, ats_succ]
    have e1 : size p l n (mid l n + k) = p.Objects[k].Size := by unfold size; rw [if_neg (by omega), show mid l n + k - mid l n = k by omega]; simp [hk]
    have e2 : pos p l n (mid l n + k) = (objs p l n p.Objects.length)[k]'(by rw [ol]; exact hk) := by unfold pos objs; rw [if_neg (by omega), show mid l n + k - mid l n = k by omega]; simp [hfrom]
    rw [e1, e2]
    rfl
  dsimp only [Lp.thn]
  have hN : mid l n + p.Objects.length ≤ 673 := by omega
  -- the walk over all parts
  refine loop_bind (fun s => s.1.length = S.toNat ∧ ∃ i : Nat, s.2 = (i : Int) ∧ i ≤ mid l n + p.Objects.length ∧ ∀ x : Nat, s.1.getD x false = true → (x : Int) < pos p l n i) (fun s => 1000 - s.2.toNat) (fun o => ∃ s, o = .brk s) ⟨by simp, 0, rfl, by omega, fun x hx => ?_⟩ (NN_big (by dsimp only; omega)) ?_ ?_
  · simp [List.getD_eq_getElem?_getD, List.getElem?_replicate] at hx
    split at hx <;> simp at hx
  · rintro ⟨had, i'⟩ ⟨hl1, i, hi1, hi2, hi3⟩
    dsimp only at hl1 hi1 hi3 ⊢
    subst hi1
    rw [ats_len]
    by_cases hi : i < mid l n + p.Objects.length
    · have hp := pos_step h n hi
      have hm := pos_mono h n (j := mid l n + p.Objects.length) (i := i + 1) (by omega) (by omega)
      rw [← hend] at hm
      rw [c1 (dt (by omega)), ats_idx p l n hi, szs_idx p l n hi]
      simp only [Option.bind_some]
      rw [c0 (df (by omega)), c0 (by rw [Int.tmod_eq_emod_of_nonneg (by omega), hp.2.1]; rfl), c0 (df (by omega)), w64 (by omega), c0 (df (by omega))]
      obtain ⟨o, ho, hpost⟩ := loop_some (R := Bool) (body := fun (x12, x13) => (bif decide (x13 < size p l n i) then (idx x12 (IntKind.wrap .i64 (pos p l n i + x13))).bind fun u11 => bif u11 then (some (Lp.ret false)) else ((idx x12 (IntKind.wrap .i64 (pos p l n i + x13))).bind fun u13 => (idx x12 (IntKind.wrap .i64 (pos p l n i + x13))).bind fun u14 => some (Lp.go (List.set x12 (Int.toNat (IntKind.wrap .i64 (pos p l n i + x13))) true, IntKind.wrap .i64 (x13 + 1)))) else (some (Lp.brk (x12, x13))) : Option (Lp ((List Bool) × Int) (Bool))))
        (n := NN) (s := (had, 0)) (fun s => s.1.length = S.toNat ∧ ∃ k : Nat, s.2 = (k : Int) ∧ (k : Int) ≤ size p l n i ∧ ∀ x : Nat, s.1.getD x false = true → (x : Int) < pos p l n i + k) (fun s => 50000 - s.2.toNat)
        (fun o => ∃ s, o = .brk s ∧ s.1.length = S.toNat ∧ ∀ x : Nat, s.1.getD x false = true → (x : Int) < pos p l n i + size p l n i) ⟨hl1, 0, rfl, by omega, fun x hx => by have := hi3 x hx; omega⟩ (NN_big (by dsimp only; omega)) (by
          rintro ⟨hd, k'⟩ ⟨hl2, k, hk1, hk2, hk3⟩
          dsimp only at hl2 hk1 hk3 ⊢
          subst hk1
          by_cases hk : (k : Int) < size p l n i
          · have hx : pos p l n i + (k : Int) = ((pos p l n i + (k : Int)).toNat : Int) := by omega
            have hlt : (pos p l n i + (k : Int)).toNat < hd.length := by omega
            have hno2 : hd[(pos p l n i + (k : Int)).toNat] = false := by
              cases hc : hd[(pos p l n i + (k : Int)).toNat] with
              | false => rfl
              | true => have := hk3 (pos p l n i + (k : Int)).toNat (by simp [hlt, hc]); omega
            have hix : idx hd (pos p l n i + (k : Int)) = some false := by rw [hx, idx_get hlt, hno2]
            rw [c1 (dt hk), w64 (x := pos p l n i + (k : Int)) (by omega), hix]
            simp only [Option.bind_some, cond_false]
            refine ⟨_, rfl, ⟨by simp [hl2], k + 1, by dsimp only; rw [w64 (by omega)]; omega, by omega, fun x hx2 => ?_⟩, by dsimp only; rw [w64 (by omega)]; omega⟩
            dsimp only at hx2
            rw [List.getD_eq_getElem?_getD, List.getElem?_set] at hx2
            by_cases e : (pos p l n i + (k : Int)).toNat = x
            · omega
            · rw [if_neg e, ← List.getD_eq_getElem?_getD] at hx2
              have := hk3 x hx2
              omega
          · rw [c0 (df hk)]
            exact ⟨_, rfl, _, rfl, hl2, fun x hx => by have := hk3 x hx; omega⟩)
      obtain ⟨⟨hd, k'⟩, rfl, q1, q2⟩ := hpost
      rw [ho, Option.bind_some]
      refine ⟨_, rfl, ⟨q1, i + 1, by dsimp only; rw [w64 (by omega)]; omega, by omega, fun x hx => ?_⟩, by dsimp only; rw [w64 (by omega)]; omega⟩
      have := q2 x hx
      omega
    · rw [c0 (df (by omega))]
      exact ⟨_, rfl, _, rfl⟩
  · rintro o ⟨⟨hd, i'⟩, rfl⟩
    dsimp only [Lp.thn]
    rw [awake_eq, Option.bind_some, cond_true, Int.tmod_eq_emod_of_nonneg hS0]
    have : S % 4 = 0 := by rw [← hS, hfrom]; omega
    rw [this]
    rfl
end Go.Proofs.Ytejhglcbjpdjlaa
