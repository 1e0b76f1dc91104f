/- Plain laws on the listing of words: texts are written as the reference writes them, and read back. No program is in sight here. -/
import Derived.Test.YtcmncppbonaaeaaGreatDoorL06i
set_option linter.unusedVariables false
namespace Go.Proofs.YtcmncppbonaaeaaGreatDoor

/-- Whole numbers of 32 bits. -/
def U32 (l : List Int) : Prop := ∀ x ∈ l, 0 ≤ x ∧ x < 4294967296
/-- The line of a word, without its address. -/
def bodyS (w : Nat) : List UInt8 := match decO w with
  | some o => lineS (decI o w)
  | none => [46, 119, 111, 114, 100, 32, 48, 120] ++ hexK 8 w
def preS (k w : Nat) : List UInt8 := hexK 8 (4 * k) ++ 58 :: 32 :: bodyS w
def txt : Nat → List Int → List UInt8
  | _, [] => []
  | k, w :: l => (preS k w.toNat ++ [10]) ++ txt (k + 1) l
theorem txt_snoc : ∀ (l : List Int) (k : Nat) (w : Int), txt k (l ++ [w]) = txt k l ++ (preS (k + l.length) w.toNat ++ [10])
  | [], k, w => by simp [txt]
  | x :: l, k, w => by
    rw [List.cons_append, txt, txt, txt_snoc l (k + 1) w, List.length_cons, show k + 1 + l.length = k + (l.length + 1) by omega]
    simp
theorem decR_wf (w : Nat) : WfI (decR w).1 ∧ (bif rightB (decR w).1 then (lineS (decR w).1, (0 : Int)) else ([], 1)) = (bif (decR w).2 == 0 then (bodyS w, 0) else ([], 1)) := by
  unfold decR bodyS
  cases h : decO w with
  | none => exact ⟨⟨by show I64 0; unfold I64; omega, by show I64 0; unfold I64; omega, by show I64 0; unfold I64; omega, by show I64 0; unfold I64; omega⟩, rfl⟩
  | some o =>
    have hr : rightB (decI o w) = true := dec_right (op_parts (decO_some h).1).2.2.2.1
    exact ⟨right_wf hr, by simp only [hr]; rfl⟩
theorem body_len (w : Nat) : (bodyS w).length ≤ 107 := by
  unfold bodyS
  cases h : decO w with
  | none => simp only [List.length_append, hexK_len, List.length_cons, List.length_nil]; omega
  | some o => exact lineS_len (right_wf (dec_right (op_parts (decO_some h).1).2.2.2.1))
theorem pre_len (k w : Nat) : (preS k w).length = 10 + (bodyS w).length := by
  simp only [preS, List.length_append, hexK_len, List.length_cons]
  omega
theorem txt_len : ∀ (l : List Int) (k : Nat), (txt k l).length ≤ 118 * l.length
  | [], _ => by simp [txt]
  | w :: l, k => by
    have := txt_len l (k + 1)
    have := body_len w.toNat
    simp only [txt, List.length_append, pre_len, List.length_cons, List.length_nil]
    omega
theorem nat_of {w : Int} (h : 0 ≤ w ∧ w < 4294967296) : ∃ n : Nat, w = (n : Int) ∧ n < 4294967296 := ⟨w.toNat, by omega, by omega⟩
theorem u4 {k : Nat} (h : k < 40000) : IntKind.wrap .u32 (IntKind.wrap .i64 (4 * (k : Int))) = ((4 * k : Nat) : Int) := by
  rw [w64 (by omega), show 4 * (k : Int) = ((4 * k : Nat) : Int) by omega, w32u' (by omega)]
theorem Text_eq {l : List Int} (hu : U32 l) (hl : l.length ≤ 40000) : listing_Text l = some (txt 0 l, 0) := by
  unfold listing_Text
  rw [c0 (df (by omega))]
  refine run_bind (fun k => (txt 0 (l.take k), (k : Int))) l.length (.brk (txt 0 l, (l.length : Int))) rfl (by omega) (fun k hk => ?_) ?_ trivial rfl
  · obtain ⟨w, hw, hw2⟩ := nat_of (hu l[k] (List.getElem_mem hk))
    have hlen := txt_len (l.take k) 0
    rw [List.length_take] at hlen
    have hb := body_len w
    obtain ⟨d1, d2⟩ := decR_wf w
    simp only []
    rw [c1 (dlt hk), idx_get hk, Option.bind_some, u4 (by omega), hex_eq (4 * k) (by omega), Option.bind_some, room_ok (by simp only [hexK_len, List.length_cons, List.length_nil]; omega), Option.bind_some]
    unfold bld_WriteString
    rw [if_pos (by simp only [List.length_append, hexK_len, List.length_cons, List.length_nil]; omega), Option.bind_some, hw, Decode_eq hw2, Option.bind_some, Line_eq d1, Option.bind_some, d2]
    have fin : ((room (List.length (bodyS w) + List.length ([10] : List UInt8))).bind fun _ => (if List.length (txt 0 (l.take k) ++ (hexK 8 (4 * k) ++ ([58, 32] : List UInt8))) + List.length (bodyS w ++ ([10] : List UInt8)) ≤ 140737488355328 then some (((bodyS w ++ ([10] : List UInt8)).length : Int), (txt 0 (l.take k) ++ (hexK 8 (4 * k) ++ ([58, 32] : List UInt8))) ++ (bodyS w ++ ([10] : List UInt8))) else none).bind fun y6 => some (Lp.go (y6.2, IntKind.wrap .i64 ((k : Int) + 1))) : Option (Lp (List UInt8 × Int) Unit)) = some (.go (txt 0 (l.take (k + 1)), ((k + 1 : Nat) : Int))) := by
      rw [room_ok (by simp only [List.length_cons, List.length_nil]; omega), Option.bind_some, if_pos (by simp only [List.length_append, hexK_len, List.length_cons, List.length_nil]; omega), Option.bind_some, List.take_succ_eq_append_getElem hk, txt_snoc, hw]
      rw [w64 (by omega), show (k : Int) + 1 = ((k + 1 : Nat) : Int) by omega, List.length_take, Nat.min_eq_left (by omega), Nat.zero_add, Int.toNat_natCast]
      simp [preS]
    unfold jn
    unfold decR bodyS at *
    cases hd : decO w with
    | some o =>
      rw [hd] at fin
      exact fin
    | none =>
      rw [hd] at fin
      simp only [] at fin ⊢
      rw [show ((3 : Int) != 0) = true from rfl, cond_true, hex_eq w hw2, Option.bind_some, room_ok (by simp only [hexK_len, List.length_cons, List.length_nil]; omega), Option.bind_some]
      exact fin
  · simp only []
    rw [c0 (dge _), List.take_length]
theorem rText_eq {l : List Int} (hu : U32 l) (hl : l.length ≤ 40000) : ref06_Text l = some (txt 0 l) := by
  unfold ref06_Text
  refine run_bind (fun k => (txt 0 (l.take k), (k : Int))) l.length (.brk (txt 0 l, (l.length : Int))) rfl (by omega) (fun k hk => ?_) ?_ trivial rfl
  · obtain ⟨w, hw, hw2⟩ := nat_of (hu l[k] (List.getElem_mem hk))
    have hlen := txt_len (l.take k) 0
    rw [List.length_take] at hlen
    have hb := body_len w
    simp only []
    rw [c1 (dlt hk), idx_get hk, Option.bind_some, hw, rDecode_eq hw2, Option.bind_some, Option.bind_some, rHex_eq w hw2, Option.bind_some, room_ok (by simp only [hexK_len, List.length_cons, List.length_nil]; omega), Option.bind_some]
    have fin : ((ref06_Hex (IntKind.wrap .u32 (IntKind.wrap .i64 (4 * (k : Int))))).bind fun y4 => (room (List.length (txt 0 (l.take k)) + List.length y4)).bind fun _ => (room (List.length (txt 0 (l.take k) ++ y4) + List.length ([58, 32] : List UInt8))).bind fun _ => (room (List.length ((txt 0 (l.take k) ++ y4) ++ ([58, 32] : List UInt8)) + List.length (bodyS w))).bind fun _ => (room (List.length (((txt 0 (l.take k) ++ y4) ++ ([58, 32] : List UInt8)) ++ bodyS w) + List.length ([10] : List UInt8))).bind fun _ => some (Lp.go ((((txt 0 (l.take k) ++ y4) ++ ([58, 32] : List UInt8)) ++ bodyS w) ++ ([10] : List UInt8), IntKind.wrap .i64 ((k : Int) + 1))) : Option (Lp (List UInt8 × Int) Unit)) = some (.go (txt 0 (l.take (k + 1)), ((k + 1 : Nat) : Int))) := by
      rw [u4 (by omega), rHex_eq (4 * k) (by omega), Option.bind_some]
      simp (disch := (simp only [List.length_append, hexK_len, List.length_cons, List.length_nil]; omega)) only [room_ok, Option.bind_some]
      rw [List.take_succ_eq_append_getElem hk, txt_snoc, hw, w64 (by omega), show (k : Int) + 1 = ((k + 1 : Nat) : Int) by omega, List.length_take, Nat.min_eq_left (by omega), Nat.zero_add, Int.toNat_natCast]
      simp [preS]
    unfold jn
    unfold decR bodyS at *
    cases hd : decO w with
    | some o =>
      rw [hd] at fin
      simp only [] at fin ⊢
      rw [show ((0 : Int) == 0) = true from rfl, cond_true, Line2_eq, rLine_eq (dec_right (op_parts (decO_some hd).1).2.2.2.1), Option.bind_some]
      exact fin
    | none =>
      rw [hd] at fin
      exact fin
  · simp only []
    rw [c0 (dge _), List.take_length]

/-! Reading. -/
theorem wrapu (z : Int) : ∃ n : Nat, IntKind.wrap .u32 z = (n : Int) ∧ n < 4294967296 := by
  refine ⟨(z % 4294967296).toNat, ?_, by omega⟩
  simp only [IntKind.wrap, IntKind.signed, IntKind.bits]
  simp
  omega
theorem num_tot {v : Nat} (hv : v < 4294967296) (f : Int) : ∃ n : Nat, inst_number f (v : Int) = some (n : Int) ∧ n < 4294967296 := by
  have ib : ∀ (a m : Int), 0 ≤ a ∧ a < 32 → 0 ≤ m ∧ m < 32 → ∃ x : Int, inst_bits (v : Int) a m = some x := fun a m ha hm => ⟨_, ibits hv ha hm⟩
  have sh2 : ∀ (a b : Int), ∃ n : Nat, bits .or .u32 (IntKind.wrap .u32 a) (IntKind.wrap .u32 b) = (n : Int) ∧ n < 4294967296 := by
    intro a b
    obtain ⟨x, hx, hx2⟩ := wrapu a
    obtain ⟨y, hy, hy2⟩ := wrapu b
    exact ⟨x ||| y, by rw [hx, hy, or32n hx2 hy2], orlt hx2 hy2⟩
  have sh4 : ∀ (a b c d : Int), ∃ n : Nat, bits .or .u32 (bits .or .u32 (bits .or .u32 (IntKind.wrap .u32 a) (IntKind.wrap .u32 b)) (IntKind.wrap .u32 c)) (IntKind.wrap .u32 d) = (n : Int) ∧ n < 4294967296 := by
    intro a b c d
    obtain ⟨x, hx, hx2⟩ := sh2 a b
    obtain ⟨y, hy, hy2⟩ := wrapu c
    obtain ⟨z, hz, hz2⟩ := wrapu d
    exact ⟨(x ||| y) ||| z, by rw [hx, hy, hz, or32n hx2 hy2, or32n (orlt hx2 hy2) hz2], orlt (orlt hx2 hy2) hz2⟩
  obtain ⟨a1, e1⟩ := ib 20 1 (by decide) (by decide)
  obtain ⟨a2, e2⟩ := ib 1 10 (by decide) (by decide)
  obtain ⟨a3, e3⟩ := ib 11 1 (by decide) (by decide)
  obtain ⟨a4, e4⟩ := ib 12 8 (by decide) (by decide)
  obtain ⟨a5, e5⟩ := ib 5 7 (by decide) (by decide)
  obtain ⟨a6, e6⟩ := ib 0 5 (by decide) (by decide)
  obtain ⟨a7, e7⟩ := ib 12 1 (by decide) (by decide)
  obtain ⟨a8, e8⟩ := ib 5 6 (by decide) (by decide)
  obtain ⟨a9, e9⟩ := ib 1 4 (by decide) (by decide)
  unfold inst_number
  rw [jn_bif, e1, e2, e3, e4, e5, e6, e7, e8, e9]
  simp only [Option.bind_some]
  have bc : ∀ (c : Bool) (x y : Option Int), (∃ n : Nat, x = some (n : Int) ∧ n < 4294967296) → (∃ n : Nat, y = some (n : Int) ∧ n < 4294967296) → ∃ n : Nat, (bif c then x else y) = some (n : Int) ∧ n < 4294967296 := by
    rintro (_ | _) x y h1 h2
    · exact h2
    · exact h1
  have so : ∀ {z : Int}, (∃ n : Nat, z = (n : Int) ∧ n < 4294967296) → ∃ n : Nat, some z = some (n : Int) ∧ n < 4294967296 := fun ⟨n, h1, h2⟩ => ⟨n, by rw [h1], h2⟩
  refine bc _ _ _ ⟨v, rfl, hv⟩ (bc _ _ _ (so (sh4 _ _ _ _)) (bc _ _ _ (so (wrapu _)) (bc _ _ _ (so (sh2 _ _)) (bc _ _ _ (so (sh4 _ _ _ _)) ⟨0, rfl, by omega⟩))))
theorem Enc_tot (i : GInst) : ∃ (n : Nat) (e : Int), inst_Encode i = some ((n : Int), e) ∧ n < 4294967296 := by
  cases hr : rightB i with
  | false =>
    unfold inst_Encode
    rw [Right_eq, Option.bind_some, hr]
    exact ⟨0, 1, rfl, by omega⟩
  | true =>
    obtain ⟨hf, ho, h1, h2, h3, h4, _⟩ := right_b hr
    obtain ⟨⟨c1, c2, c3⟩, ⟨l1, l2, l3⟩, _⟩ := op_parts ho
    obtain ⟨u, hu, hu2⟩ := wrapu i.Imm
    obtain ⟨n, hn, hn2⟩ := num_tot hu2 (shp i.Op).form
    have kn : inst_number (shp i.Op).form (IntKind.wrap .u32 i.Imm) = some (n : Int) := by rw [hu]; exact hn
    refine ⟨_, _, Enc_or hr (of_shp ⟨by omega, ho.2⟩) c1 c2 c3 (d := i.Rd.toNat) (by omega) (a := i.Rs1.toNat) (by omega) (b := i.Rs2.toNat) (by omega) kn l1 l2 l3 (by omega) (by omega) (by omega) hn2, ?_⟩
    exact orlt (orlt (orlt (orlt (by omega) (mlt l2 (by decide) (by decide))) (mlt l3 (by decide) (by decide))) (orlt (orlt (mlt (k := 32) (by omega) (by decide) (by decide)) (mlt (k := 32) (by omega) (by decide) (by decide))) (mlt (k := 32) (by omega) (by decide) (by decide)))) hn2
theorem word_tot {s : List UInt8} (h : s.length ≤ 2097152) : ∃ n : Nat, listing_word s = some (n : Int) ∧ n < 4294967296 := by
  unfold listing_word strings_CutPrefix
  rw [Option.bind_some]
  cases Lib.hasPrefix s [46, 119, 111, 114, 100, 32, 48, 120] with
  | true =>
    obtain ⟨n, e, hn, he⟩ := ParseUint_tot (s := Lib.trimPrefix s [46, 119, 111, 114, 100, 32, 48, 120]) (by have := Lib.trimPrefix_le s [46, 119, 111, 114, 100, 32, 48, 120]; omega)
    simp only [cond_true]
    rw [he, Option.bind_some]
    cases e with
    | true => exact ⟨0, rfl, by omega⟩
    | false => exact ⟨n, by show some (IntKind.wrap .u32 (n : Int)) = _; rw [w32u' hn], hn⟩
  | false =>
    obtain ⟨x, _, hx⟩ := Read_tot h
    simp only [cond_false]
    rw [hx, Option.bind_some]
    obtain ⟨n, e, hn, hn2⟩ := Enc_tot (rdS x s).1
    rw [hn]
    exact ⟨n, rfl, hn2⟩
theorem name_ne {o : Int} (h : 1 ≤ o ∧ o ≤ 45) : ∃ c r, nameOf o = c :: r ∧ c ≠ 46 := by
  have h1 := fin46 (P := fun o => 1 ≤ o → nameOf o ≠ []) (by decide +kernel) (by omega) h.2 h.1
  have h2 := name_low o
  cases hn : nameOf o with
  | nil => exact absurd hn h1
  | cons c r =>
    rw [hn] at h2
    refine ⟨c, r, rfl, fun e => ?_⟩
    have := h2 c (List.mem_cons_self ..)
    rw [e] at this
    revert this
    decide
theorem word_body {w : Nat} (hw : w < 4294967296) : listing_word (bodyS w) = some (w : Int) := by
  unfold listing_word strings_CutPrefix bodyS
  rw [Option.bind_some]
  cases hd : decO w with
  | some o =>
    obtain ⟨ho, hF⟩ := decO_some hd
    obtain ⟨c, r, hn, hc⟩ := name_ne ho
    have hp : Lib.hasPrefix (lineS (decI o w)) [46, 119, 111, 114, 100, 32, 48, 120] = false := by
      unfold lineS Lib.hasPrefix
      rw [show (decI o w).Op = o from rfl, hn]
      simp [List.isPrefixOf]
      exact fun e => absurd e.symm hc
    simp only [hp, cond_false]
    rw [Read_line (dec_right (op_parts ho).2.2.2.1), Option.bind_some, Enc_dec hw ho hF]
    rfl
  | none =>
    have hp : Lib.hasPrefix ([46, 119, 111, 114, 100, 32, 48, 120] ++ hexK 8 w) [46, 119, 111, 114, 100, 32, 48, 120] = true := List.isPrefixOf_iff_prefix.2 ⟨_, rfl⟩
    have ht : Lib.trimPrefix ([46, 119, 111, 114, 100, 32, 48, 120] ++ hexK 8 w) [46, 119, 111, 114, 100, 32, 48, 120] = hexK 8 w := by
      unfold Lib.trimPrefix
      rw [if_pos hp]
      rfl
    simp only [hp, ht, cond_true]
    rw [ParseUint_hex w hw, Option.bind_some]
    show some (IntKind.wrap .u32 (w : Int)) = _
    rw [w32u' hw]
end Go.Proofs.YtcmncppbonaaeaaGreatDoor
