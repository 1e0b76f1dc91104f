/- Plain laws of layer 29 (CompileNone): what lexes, lexes for the reference too. No program is in sight here. -/
import Derived.Test.YtokpeeflnijogaaGreatDoorL29b
set_option linter.unusedVariables false
namespace Go.Proofs.YtokpeeflnijogaaGreatDoor

theorem sub_mid {s : List UInt8} {k n : Nat} (h : k + n ≤ s.length) : sub s (k : Int) ((k : Int) + (n : Int)) = some ((s.drop k).take n) := by
  unfold sub
  rw [if_pos (by omega)]
  rw [show ((k : Int) + (n : Int)).toNat = k + n by omega, show ((k : Int)).toNat = k by omega, List.drop_take, show k + n - k = n by omega]
theorem is_eq {s m : List UInt8} {k : Nat} (hk : k ≤ s.length) (hl : s.length ≤ 100000) (hm : m.length ≤ 10) : ref07_is s (k : Int) m = some (decide (m <+: s.drop k)) := by
  unfold ref07_is
  rw [w64 (by omega)]
  by_cases h : k + m.length ≤ s.length
  · rw [c1 (dt (by omega)), sub_mid h, Option.bind_some]
    congr 1
    refine decide_eq_decide.2 ?_
    rw [List.prefix_iff_eq_take]
    exact eq_comm
  · rw [c0 (df (by omega))]
    congr 1
    refine (df fun hh => ?_).symm
    have := hh.length_le
    simp at this
    omega
theorem run_eq {s : List UInt8} {k : Nat} (hk : k ≤ s.length) (hl : s.length ≤ 100000) : ref07_run s (k : Int) = some ((sp moreB (s.drop k) : Nat) : Int) := by
  unfold ref07_run
  have hdl : (s.drop k).length = s.length - k := by simp
  refine sp_loop moreB (s.drop k) (by omega) (fun j hj => ?_) (by rw [w64 (by omega), c0 (df (by omega))]) rfl
  have e : (k : Int) + (j : Int) = ((k + j : Nat) : Int) := by omega
  have hs : k + j < s.length := by omega
  rw [w64 (by omega), c1 (dt (by omega)), e, idx_get hs, Option.bind_some, rLetter_eq, Option.bind_some]
  have hg : (s.drop k)[j] = s[k + j] := List.getElem_drop
  rw [hg]
  unfold moreB
  cases letB (s[k + j].toNat : Int) with
  | true => rfl
  | false =>
    rw [cond_false, Option.bind_some, rDigit_eq, Option.bind_some]
    cases digB (s[k + j].toNat : Int) <;> rfl
def nnl (c : UInt8) : Bool := (c.toNat : Int) != 10
theorem sp_nl : ∀ u : List UInt8, ((sp nnl u : Nat) : Int) = if 0 ≤ Go.Lib.index u [10] then Go.Lib.index u [10] else (u.length : Int)
  | [] => by decide
  | b :: l => by
    have ih := sp_nl l
    have hg := Go.Lib.index_ge l [10]
    have e : sp nnl (b :: l) = if nnl b then sp nnl l + 1 else 0 := rfl
    by_cases hb : b = 10
    · subst hb
      rw [e, show nnl 10 = false by decide]
      rw [show Go.Lib.index (10 :: l) [10] = 0 by unfold Go.Lib.index; rw [if_pos (by simp [List.isPrefixOf])]]
      rfl
    · have hn : nnl b = true := by
        unfold nnl
        have : b.toNat ≠ 10 := fun h => hb (UInt8.toNat_inj.1 (by rw [h]; rfl))
        simp
        omega
      have hp : ¬ ([10] : List UInt8).isPrefixOf (b :: l) = true := by
        simp [List.isPrefixOf]
        exact fun h => hb h.symm
      have hI : Go.Lib.index (b :: l) [10] = if Go.Lib.index l [10] = -1 then -1 else Go.Lib.index l [10] + 1 := by
        rw [Go.Lib.index, if_neg hp]
        simp
      rw [e, if_pos hn, hI]
      by_cases h2 : Go.Lib.index l [10] = -1
      · rw [if_neg (by omega)] at ih
        rw [if_pos h2, if_neg (by omega), List.length_cons]
        omega
      · rw [if_pos (by omega)] at ih
        rw [if_neg h2, if_pos (by omega)]
        omega
theorem bl_cases (c : UInt8) : blB c = ((((c.toNat : Int) == 9) || ((c.toNat : Int) == 10)) || (((c.toNat : Int) == 13) || ((c.toNat : Int) == 32))) := by
  unfold blB
  cases ((c.toNat : Int) == 32) <;> cases ((c.toNat : Int) == 9) <;> cases ((c.toNat : Int) == 10) <;> cases ((c.toNat : Int) == 13) <;> rfl
theorem Blank_eq {s : List UInt8} {k : Nat} (hk : k < s.length) (hl : s.length ≤ 100000) (h : 0 ≤ blS (s.drop k)) : ref07_Blank s (k : Int) = some (bif blB s[k] then 1 else blS (s.drop k)) := by
  have hdl : (s.drop k).length = s.length - k := by simp
  unfold ref07_Blank
  rw [idx_get hk, Option.bind_some, bl_cases]
  cases h9 : ((s[k].toNat : Int) == 9) with
  | true => rfl
  | false =>
  cases h10 : ((s[k].toNat : Int) == 10) with
  | true => rfl
  | false =>
  cases h13 : ((s[k].toNat : Int) == 13) with
  | true => rfl
  | false =>
  cases h32 : ((s[k].toNat : Int) == 32) with
  | true => rfl
  | false =>
  have hb : blB s[k] = false := by rw [bl_cases, h9, h10, h13, h32]; rfl
  simp only [cond_false, Bool.or_self]
  have hu : s.drop k = s[k] :: s.drop (k + 1) := List.drop_eq_getElem_cons hk
  rw [is_eq (by omega) hl (by decide), Option.bind_some]
  by_cases h1 : ([47, 47] : List UInt8) <+: s.drop k
  · rw [dt h1, cond_true]
    have h2l := h1.length_le
    simp at h2l
    have hbl : blS (s.drop k) = ((sp nnl (s.drop (k + 2)) + 2 : Nat) : Int) := by
      have := sp_nl (s.drop k)
      unfold blS
      rw [if_pos h1, ← this]
      obtain ⟨q, hq⟩ := h1
      have hq2 : s.drop (k + 2) = q := by rw [← List.drop_drop, ← hq]; rfl
      rw [hq2, ← hq]
      show ((sp nnl (47 :: 47 :: q) : Nat) : Int) = _
      rw [show sp nnl (47 :: 47 :: q) = if nnl 47 then (if nnl 47 then sp nnl q + 1 else 0) + 1 else 0 from rfl, show nnl 47 = true by decide]
      rfl
    rw [hbl]
    have hle := sp_le nnl (s.drop (k + 2))
    have hd2 : (s.drop (k + 2)).length = s.length - (k + 2) := by simp
    refine run_bind (fun j => ((2 + j : Nat) : Int)) (sp nnl (s.drop (k + 2))) (.brk ((2 + sp nnl (s.drop (k + 2)) : Nat) : Int)) rfl (by omega) (fun j hj => ?_) ?_ trivial ?_
    · have e : (k : Int) + ((2 + j : Nat) : Int) = ((k + 2 + j : Nat) : Int) := by omega
      have hs : k + 2 + j < s.length := by omega
      rw [w64 (by omega), c1 (dt (by omega)), e, idx_get hs, Option.bind_some]
      have hg := sp_get nnl (s.drop (k + 2)) j hj
      rw [List.getElem_drop] at hg
      unfold nnl at hg
      rw [hg, cond_true, w64 (by omega)]
      congr 2
    · by_cases hlt : sp nnl (s.drop (k + 2)) < (s.drop (k + 2)).length
      · have e : (k : Int) + ((2 + sp nnl (s.drop (k + 2)) : Nat) : Int) = ((k + 2 + sp nnl (s.drop (k + 2)) : Nat) : Int) := by omega
        have hs : k + 2 + sp nnl (s.drop (k + 2)) < s.length := by omega
        rw [w64 (by omega), c1 (dt (by omega)), e, idx_get hs, Option.bind_some]
        have hg := sp_stop nnl (s.drop (k + 2)) hlt
        rw [List.getElem_drop] at hg
        have hg : ((s[k + 2 + sp nnl (s.drop (k + 2))].toNat : Int) != 10) = false := hg
        rw [hg, cond_false]
      · rw [w64 (by omega), c0 (df (by omega))]
    · show some ((2 + sp nnl (s.drop (k + 2)) : Nat) : Int) = _
      rw [Nat.add_comm]
  · rw [df h1, cond_false, is_eq (by omega) hl (by decide), Option.bind_some]
    by_cases h2 : ([47, 42] : List UInt8) <+: s.drop k
    · rw [dt h2, cond_true]
      have h2l := h2.length_le
      simp at h2l
      unfold blS at h ⊢
      rw [if_neg h1, if_pos h2] at h ⊢
      have hd2 : (s.drop k).drop 2 = s.drop (k + 2) := by rw [List.drop_drop]
      rw [hd2] at h ⊢
      have hdl2 : (s.drop (k + 2)).length = s.length - (k + 2) := by simp
      rcases Go.Lib.index_spec (s.drop (k + 2)) [42, 47] with ⟨hn, _⟩ | ⟨i, hi, hile, hocc, hno⟩
      · rw [hn, if_pos (by omega)] at h; omega
      · rw [hi, if_neg (by omega)]
        have hfit := Go.Lib.index_room (s.drop (k + 2)) [42, 47] (by omega)
        rw [hi, hdl2] at hfit
        simp at hfit
        rw [w64 (by omega)]
        have hoc : ∀ j, Go.Lib.occAt (s.drop (k + 2)) [42, 47] j = decide (([42, 47] : List UInt8) <+: s.drop (k + 2 + j)) := fun j => by
          unfold Go.Lib.occAt
          rw [List.drop_drop, Bool.eq_iff_iff, List.isPrefixOf_iff_prefix]
          simp
        refine run_bind (fun j => ((k + 2 + j : Nat) : Int)) i (.ret ((i : Int) + 4)) (by show ((k + 2 : Nat) : Int) = _; omega) (by omega) (fun j hj => ?_) ?_ trivial rfl
        · rw [c1 (dt (by omega)), is_eq (by omega) hl (by decide), Option.bind_some, ← hoc j, hno j hj, cond_false, w64 (by omega)]
          rfl
        · rw [c1 (dt (by omega)), is_eq (by omega) hl (by decide), Option.bind_some, ← hoc i, hocc, cond_true, w64 (x := ((k + 2 + i : Nat) : Int) + 2) (by omega), w64 (by omega)]
          congr 2
          omega
    · rw [df h2, cond_false]
      unfold blS
      rw [if_neg h1, if_neg h2, hu]
      show _ = some (((if blB s[k] then sp blB (s.drop (k + 1)) + 1 else 0 : Nat)) : Int)
      rw [hb]
      rfl
/-! Numbers. -/
def wvOk (n : Int) : Bool := match lex_worth n, ref07_value n with
  | some w, some v => (decide (w = v) && (decide (0 ≤ w) && decide (w < 16))) || (decide (16 ≤ w) && decide (16 ≤ v))
  | _, _ => false
theorem wv_all : ∀ n : _root_.Fin 256, wvOk (n.val : Int) = true := by decide +kernel
theorem wv_get (c : UInt8) : ∃ w v, lex_worth (c.toNat : Int) = some w ∧ ref07_value (c.toNat : Int) = some v ∧ ((w = v ∧ 0 ≤ w ∧ w < 16) ∨ (16 ≤ w ∧ 16 ≤ v)) := by
  have h := wv_all ⟨c.toNat, c.toNat_lt⟩
  unfold wvOk at h
  dsimp only at h
  split at h
  · rename_i w v h1 h2
    simp only [Bool.or_eq_true, Bool.and_eq_true, decide_eq_true_eq] at h
    exact ⟨w, v, h1, h2, h⟩
  · cases h
def bL (x : List UInt8) (b : Int) : Int × Bool × Int → Option (Lp (Int × Bool × Int) (GToken × Int)) := fun (x3, x4, x5) => (bif decide (x5 < (List.length (strBytes x) : Int)) then (jn (fun kk2 => (idx (strBytes x) x5).bind fun u4 => (lex_worth u4).bind fun y4 => bif decide (b ≤ y4) then (some (Lp.ret ((⟨0, ([] : List UInt8), 0, (⟨0, 0⟩ : Pos)⟩ : GToken), (3 : Int)))) else ((lex_worth u4).bind fun y5 => bif decide (4294967295 < (IntKind.wrap .u64 ((IntKind.wrap .u64 (x3 * b)) + y5))) then (kk2 (4294967295 : Int) true) else (kk2 (IntKind.wrap .u64 ((IntKind.wrap .u64 (x3 * b)) + y5)) x4))) (fun (x6 : Int) (x7 : Bool) => some (Lp.go (x6, x7, IntKind.wrap .i64 (x5 + 1))))) else (some (Lp.brk (x3, x4, x5))))
def bR (p0 : List UInt8) (x1 : Int) : Int × Int × Int → Option (Lp (Int × Int × Int) (Int × Int)) := fun (x3, x4, x5) => (bif decide (x5 < (List.length p0 : Int)) then (jn (fun kk2 => (idx p0 x5).bind fun u1 => (ref07_value (UInt8.toNat u1 : Int)).bind fun y3 => bif decide (x1 ≤ y3) then (some (Lp.ret ((0 : Int), (3 : Int)))) else ((idx p0 x5).bind fun u2 => (ref07_value (UInt8.toNat u2 : Int)).bind fun y4 => bif decide (4294967295 < (IntKind.wrap .i64 ((IntKind.wrap .i64 (x3 * x1)) + y4))) then (kk2 (4294967296 : Int) (7 : Int)) else (kk2 (IntKind.wrap .i64 ((IntKind.wrap .i64 (x3 * x1)) + y4)) x4))) (fun (x6 : Int) (x7 : Int) => some (Lp.go (x6, x7, IntKind.wrap .i64 (x5 + 1))))) else (some (Lp.brk (x3, x4, x5))))
theorem w64u {x : Int} (h : 0 ≤ x ∧ x < 18446744073709551616) : IntKind.wrap .u64 x = x := by
  simp only [IntKind.wrap, IntKind.signed, IntKind.bits]
  simp
  omega
theorem sb_len (x : List UInt8) : (strBytes x).length = x.length := by simp [strBytes]
theorem sb_get {x : List UInt8} {k : Nat} (h : k < x.length) : idx (strBytes x) (k : Int) = some (x[k].toNat : Int) := by
  rw [idx_get (by rw [sb_len]; exact h)]
  simp [strBytes]
theorem far_stays (x : List UInt8) (b : Int) : ∀ (f : Nat) (n i : Int) (s : Int × Bool × Int), loopM (bL x b) f (n, true, i) = some (.brk s) → s.2.1 = true
  | 0, n, i, s, h => by cases h
  | f + 1, n, i, s, h => by
    unfold loopM at h
    split at h <;> first | (cases h; done) | skip
    · rename_i s' hb
      have : s'.2.1 = true := by
        unfold bL at hb
        dsimp only at hb
        simp only [jn] at hb
        cases hd : decide (i < (List.length (strBytes x) : Int)) with
        | false => rw [hd] at hb; cases hb
        | true =>
          rw [hd, cond_true] at hb
          obtain ⟨u, _, hb⟩ := bindS hb
          obtain ⟨y, _, hb⟩ := bindS hb
          cases hy : decide (b ≤ y) with
          | true => rw [hy] at hb; cases hb
          | false =>
            rw [hy, cond_false] at hb
            obtain ⟨y', _, hb⟩ := bindS hb
            revert hb
            cases decide (4294967295 < (IntKind.wrap .u64 ((IntKind.wrap .u64 (n * b)) + y'))) <;> intro hb <;> cases hb <;> rfl
      obtain ⟨a, c, d⟩ := s'
      dsimp only at this
      subst this
      exact far_stays x b f a d s h
    · rename_i s' hb
      cases h
      unfold bL at hb
      dsimp only at hb
      simp only [jn] at hb
      cases hd : decide (i < (List.length (strBytes x) : Int)) with
      | false => rw [hd] at hb; cases hb; rfl
      | true =>
        exfalso
        rw [hd, cond_true] at hb
        obtain ⟨u, _, hb⟩ := bindS hb
        obtain ⟨y, _, hb⟩ := bindS hb
        cases hy : decide (b ≤ y) with
        | true => rw [hy] at hb; cases hb
        | false =>
          rw [hy, cond_false] at hb
          obtain ⟨y', _, hb⟩ := bindS hb
          revert hb
          cases decide (4294967295 < (IntKind.wrap .u64 ((IntKind.wrap .u64 (n * b)) + y'))) <;> intro hb <;> cases hb
theorem dig_sim (p x : List UInt8) (o : Nat) (hx : x = p.drop o) (ho : o ≤ p.length) (hl : p.length ≤ 100000) (b : Int) (hb : b = 10 ∨ b = 16) : ∀ (f : Nat) (n : Int) (k : Nat) (s : Int × Bool × Int), 0 ≤ n ∧ n ≤ 4294967295 → k ≤ x.length → loopM (bL x b) f (n, false, (k : Int)) = some (.brk s) → s.2.1 = false →
    ∀ g, x.length - k < g → ∃ m i, loopM (bR p b) g (n, 0, ((o + k : Nat) : Int)) = some (.brk (m, 0, i))
  | 0, n, k, s, _, _, h, _ => by cases h
  | f + 1, n, k, s, hn, hk, h, hf => by
    intro g hg
    obtain ⟨g, rfl⟩ : ∃ g', g = g' + 1 := ⟨g - 1, by omega⟩
    have hxl : x.length = p.length - o := by rw [hx]; simp
    unfold loopM at h ⊢
    by_cases hlt : k < x.length
    · have hok : o + k < p.length := by omega
      have hpc : p[o + k] = x[k] := by subst hx; rw [List.getElem_drop]
      obtain ⟨w, v, h1, h2, h3⟩ := wv_get x[k]
      have hw64 : IntKind.wrap .i64 ((k : Int) + 1) = ((k + 1 : Nat) : Int) := by rw [w64 (by omega)]; omega
      have ho64 : IntKind.wrap .i64 (((o + k : Nat) : Int) + 1) = ((o + (k + 1) : Nat) : Int) := by rw [w64 (by omega)]; omega
      have eL : bL x b (n, false, (k : Int)) = bif decide (b ≤ w) then (some (Lp.ret (tokZ, 3))) else (bif decide (4294967295 < (IntKind.wrap .u64 ((IntKind.wrap .u64 (n * b)) + w))) then some (.go (4294967295, true, ((k + 1 : Nat) : Int))) else some (.go (IntKind.wrap .u64 ((IntKind.wrap .u64 (n * b)) + w), false, ((k + 1 : Nat) : Int)))) := by
        unfold bL
        dsimp only
        simp only [jn]
        rw [c1 (dt (by rw [sb_len]; omega)), sb_get hlt, Option.bind_some, h1, Option.bind_some, Option.bind_some, hw64]
        rfl
      have eR : bR p b (n, 0, ((o + k : Nat) : Int)) = bif decide (b ≤ v) then (some (Lp.ret (0, 3))) else (bif decide (4294967295 < (IntKind.wrap .i64 ((IntKind.wrap .i64 (n * b)) + v))) then some (.go (4294967296, 7, ((o + (k + 1) : Nat) : Int))) else some (.go (IntKind.wrap .i64 ((IntKind.wrap .i64 (n * b)) + v), 0, ((o + (k + 1) : Nat) : Int)))) := by
        unfold bR
        dsimp only
        simp only [jn]
        rw [c1 (dt (by omega)), idx_get hok, Option.bind_some, hpc, h2, Option.bind_some, Option.bind_some, h2, Option.bind_some, ho64]
      rw [eL] at h
      rw [eR]
      by_cases hbw : b ≤ w
      · rw [c1 (dt hbw)] at h; cases h
      · rw [c0 (df hbw)] at h
        have hwv : w = v ∧ 0 ≤ w ∧ w < 16 := by
          rcases h3 with h3 | h3
          · exact h3
          · exfalso; rcases hb with rfl | rfl <;> omega
        obtain ⟨rfl, hw0, hw16⟩ := hwv
        have hnb : 0 ≤ n * b ∧ n * b ≤ 68719476720 := by rcases hb with rfl | rfl <;> omega
        rw [w64u (x := n * b) (by omega), w64u (by omega)] at h
        rw [w64 (x := n * b) (by omega), w64 (by omega), c0 (df hbw)]
        by_cases hbig : 4294967295 < n * b + w
        · rw [c1 (dt hbig)] at h
          have := far_stays x b f _ _ s h
          rw [hf] at this
          cases this
        · rw [c0 (df hbig)] at h ⊢
          exact dig_sim p x o hx ho hl b hb f (n * b + w) (k + 1) s (by omega) (by omega) h hf g (by omega)
    · have hke : k = x.length := by omega
      refine ⟨n, ((o + k : Nat) : Int), ?_⟩
      rw [show bR p b (n, 0, ((o + k : Nat) : Int)) = some (.brk (n, 0, ((o + k : Nat) : Int))) by unfold bR; dsimp only; rw [c0 (df (by omega))]]
theorem numK_sim (u x : List UInt8) (b : Int) (hl : x.length ≤ 100000) {y : GToken × Int} (h : numK u x b = some y) (h0 : y.2 = 0) : x ≠ [] ∧ ∃ s, loopM (bL x b) NN (0, false, 0) = some (.brk s) ∧ s.2.1 = false := by
  unfold numK at h
  by_cases hx : x = []
  · rw [c1 (dt hx)] at h; cases h; cases h0
  refine ⟨hx, ?_⟩
  rw [c0 (df hx), room_ok (by omega), Option.bind_some] at h
  obtain ⟨o, ho, h⟩ := bindS h
  have ho : loopM (bL x b) NN (0, false, 0) = some o := ho
  cases o with
  | go s => cases h
  | ret r =>
    exfalso
    cases h
    -- every such exit is an error
    have key : ∀ (f : Nat) (s : Int × Bool × Int), loopM (bL x b) f s = some (.ret y) → y.2 = 3 := by
      intro f
      induction f with
      | zero => intro s hh; cases hh
      | succ f ih =>
        rintro ⟨a, c, d⟩ hh
        unfold loopM at hh
        split at hh <;> first | (cases hh; done) | skip
        · exact ih _ hh
        · rename_i r hb
          cases hh
          unfold bL at hb
          dsimp only at hb
          simp only [jn] at hb
          cases hd : decide (d < (List.length (strBytes x) : Int)) with
          | false => rw [hd] at hb; cases hb
          | true =>
            rw [hd, cond_true] at hb
            obtain ⟨u, _, hb⟩ := bindS hb
            obtain ⟨y', _, hb⟩ := bindS hb
            cases hy : decide (b ≤ y') with
            | true => rw [hy] at hb; cases hb; rfl
            | false =>
              rw [hy, cond_false] at hb
              obtain ⟨y2, _, hb⟩ := bindS hb
              revert hb
              cases decide (4294967295 < (IntKind.wrap .u64 ((IntKind.wrap .u64 (a * b)) + y2))) <;> intro hb <;> cases hb
    rw [key _ _ ho] at h0
    cases h0
  | brk s =>
    refine ⟨s, ho, ?_⟩
    obtain ⟨a, c, d⟩ := s
    cases c with
    | false => rfl
    | true => exfalso; cases h; cases h0
theorem number_sim (u : List UInt8) (hl : u.length ≤ 100000) {y : GToken × Int} (h : numT u = some y) (h0 : y.2 = 0) : ∃ n, ref07_number u = some (n, 0) := by
  unfold numT at h
  simp only [jn] at h
  unfold ref07_number
  simp only [jn]
  have is0 : ∀ m : List UInt8, m.length ≤ 10 → ref07_is u 0 m = some (decide (m <+: u)) := fun m hm => by
    have := is_eq (s := u) (m := m) (k := 0) (by omega) hl hm
    rwa [List.drop_zero] at this
  rw [hp_eq, Option.bind_some] at h
  rw [is0 _ (by decide), Option.bind_some]
  have fin : ∀ (o : Nat) (b : Int), o ≤ u.length → (b = 10 ∨ b = 16) → numK u (u.drop o) b = some y → ∃ n, (bif (o : Int) == (List.length u : Int) then (some ((0 : Int), (3 : Int))) else ((loopM (bR u b) NN ((0 : Int), (0 : Int), (o : Int))).bind fun o => o.thn (fun (x3, x4, x5) => bif x4 != 0 then (some ((0 : Int), x4)) else (some (IntKind.wrap .u32 x3, (0 : Int)))) (fun r => some r))) = some (n, 0) := by
    intro o b ho hb hK
    obtain ⟨hne, s, hs, hf⟩ := numK_sim u (u.drop o) b (by simp; omega) hK h0
    have hlt : o < u.length := by
      rcases Nat.lt_or_ge o u.length with h | h
      · exact h
      · exact absurd (List.drop_eq_nil_of_le h) hne
    obtain ⟨m, i, hr⟩ := dig_sim u (u.drop o) o rfl ho hl b hb NN 0 0 s (by omega) (by omega) hs hf NN (NN_big (by simp; omega))
    have hr : loopM (bR u b) NN (0, 0, (o : Int)) = some (.brk (m, 0, i)) := hr
    rw [c0 (by simp; omega), hr]
    exact ⟨_, rfl⟩
  by_cases h1 : ([48, 120] : List UInt8) <+: u
  · have hle := h1.length_le
    simp at hle
    rw [dt h1, cond_true] at h ⊢
    rw [show sub u 2 (u.length : Int) = some (u.drop 2) from sub_drop (n := 2) hle, Option.bind_some] at h
    exact fin 2 16 hle (.inr rfl) h
  · rw [df h1, cond_false] at h ⊢
    rw [hp_eq, Option.bind_some] at h
    rw [is0 _ (by decide), Option.bind_some]
    by_cases h2 : ([48, 88] : List UInt8) <+: u
    · have hle := h2.length_le
      simp at hle
      rw [dt h2, cond_true] at h ⊢
      rw [show sub u 2 (u.length : Int) = some (u.drop 2) from sub_drop (n := 2) hle, Option.bind_some] at h
      exact fin 2 16 hle (.inr rfl) h
    · rw [df h2, cond_false] at h ⊢
      exact fin 0 10 (by omega) (.inl rfl) (by rw [List.drop_zero]; exact h)
end Go.Proofs.YtokpeeflnijogaaGreatDoor
