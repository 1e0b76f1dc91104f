/- TreeDeep: a text of brackets, its tokens, and what becomes of it. No program is in sight here. -/
import Derived.Test.YtbolaohekbmndaaGreatDoorL09b
set_option linter.unusedVariables false
namespace Go.Proofs.YtbolaohekbmndaaGreatDoor

theorem adv_line : ∀ (a : List UInt8) (c : Nat), (∀ x ∈ a, x ≠ 10) → adv ⟨1, (c : Int)⟩ a = ⟨1, ((c + a.length : Nat) : Int)⟩
  | [], _, _ => rfl
  | x :: a, c, h => by
    have := adv_line a (c + 1) (fun y hy => h y (by simp [hy]))
    rw [adv, if_neg (h x (by simp))]
    rw [show (c + (x :: a).length) = c + 1 + a.length by simp; omega]
    exact this
theorem posN {c : Nat} (h : 1 ≤ c) : PosOk ⟨1, (c : Int)⟩ c := ⟨by dsimp only; omega, by dsimp only; omega⟩
theorem step1 {x1 : List GToken} {c f : Nat} (t : GToken) (u : List UInt8) {s : List UInt8} (hs : s = t.Text ++ u) (hne : t.Text ≠ []) (hb : blS s = 0) (ht : lex_token s = some (t, 0)) (h10 : ∀ x ∈ t.Text, x ≠ 10) (hc : 1 ≤ c) (hm : c + s.length ≤ 50000) (hx : x1.length ≤ 50000) :
    loopM lexBody (f + 1) (x1, ⟨s, ⟨1, (c : Int)⟩⟩) = loopM lexBody f (x1 ++ [{ t with Pos := ⟨1, (c : Int)⟩ }], ⟨u, ⟨1, ((c + t.Text.length : Nat) : Int)⟩⟩) := by
  subst hs
  conv => lhs; unfold loopM
  rw [body_tok (posN hc) hc (by omega) (by omega) (by omega) (by simp [hne]) hb ht (List.prefix_append _ _), List.drop_left, adv_line _ _ h10]
theorem step0 {x1 : List GToken} {c f : Nat} {u : List UInt8} (hb : blS (32 :: u) = ((1 : Nat) : Int)) (hc : 1 ≤ c) (hm : c + (32 :: u).length ≤ 50000) :
    loopM lexBody (f + 1) (x1, ⟨32 :: u, ⟨1, (c : Int)⟩⟩) = loopM lexBody f (x1, ⟨u, ⟨1, ((c + 1 : Nat) : Int)⟩⟩) := by
  conv => lhs; unfold loopM
  rw [body_blank (posN hc) hc (by omega) (by omega) (by simp) hb (by omega)]
  show loopM lexBody f (x1, ⟨u, adv ⟨1, (c : Int)⟩ [32]⟩) = _
  rw [adv_line _ _ (by decide)]
  rfl
theorem tok_mark {b : UInt8} {u : List UInt8} (h1 : letB (b.toNat : Int) = false) (h2 : digB (b.toNat : Int) = false) (h3 : ((b.toNat : Int) == 39) = false) {m : List UInt8} (hm : markS (b :: u) = m) (hn : m ≠ []) : lex_token (b :: u) = some (⟨4, m, 0, ⟨0, 0⟩⟩, 0) := by
  unfold lex_token
  refine bnd (x := b) rfl ?_
  refine bnd (letter_eq _) ?_
  refine (c0 h1).trans ?_
  refine bnd (x := b) rfl ?_
  refine bnd (digit_eq _) ?_
  refine (c0 h2).trans ?_
  refine bnd (x := b) rfl ?_
  refine (c0 h3).trans ?_
  refine bnd ((mark_eq _).trans (congrArg some hm)) ?_
  exact c0 (df hn)
theorem bl_not {b : UInt8} {u : List UInt8} (h1 : b ≠ 47) (h2 : blB b = false) : blS (b :: u) = 0 := by
  unfold blS
  rw [if_neg (by simp [List.cons_prefix_cons]; intro h; exact absurd h.symm h1), if_neg (by simp [List.cons_prefix_cons]; intro h; exact absurd h.symm h1)]
  unfold sp
  rw [h2]
  rfl
theorem tok_par {b : UInt8} (hb : b = 40 ∨ b = 41 ∨ b = 59) (u : List UInt8) : lex_token (b :: u) = some (⟨4, [b], 0, ⟨0, 0⟩⟩, 0) ∧ blS (b :: u) = 0 := by
  rcases hb with rfl | rfl | rfl
  · exact ⟨tok_mark (by decide) (by decide) (by decide) rfl (by decide), bl_not (by decide) (by decide)⟩
  · exact ⟨tok_mark (by decide) (by decide) (by decide) rfl (by decide), bl_not (by decide) (by decide)⟩
  · exact ⟨tok_mark (by decide) (by decide) (by decide) rfl (by decide), bl_not (by decide) (by decide)⟩
theorem run_ps {b : UInt8} (hb : b = 40 ∨ b = 41) : ∀ (a : Nat) (x1 : List GToken) (c f : Nat) (Y : List UInt8), 1 ≤ c → c + a + Y.length ≤ 50000 → x1.length + a ≤ 50000 →
    loopM lexBody (f + a) (x1, ⟨List.replicate a b ++ Y, ⟨1, (c : Int)⟩⟩) = loopM lexBody f (x1 ++ ps b c a, ⟨Y, ⟨1, ((c + a : Nat) : Int)⟩⟩)
  | 0, x1, c, f, Y, _, _, _ => by simp [ps]
  | a + 1, x1, c, f, Y, hc, hm, hx => by
    have hb' : b = 40 ∨ b = 41 ∨ b = 59 := by rcases hb with h | h <;> simp [h]
    have hl : (List.replicate a b ++ Y).length = a + Y.length := by simp
    have hs := step1 (x1 := x1) (c := c) (f := f + a) ⟨4, [b], 0, ⟨0, 0⟩⟩ (List.replicate a b ++ Y) (s := b :: (List.replicate a b ++ Y)) rfl (by simp) (tok_par hb' _).2 (tok_par hb' _).1 (by rcases hb with h | h <;> simp [h]) hc (by rw [List.length_cons, hl]; omega) (by omega)
    rw [show List.replicate (a + 1) b ++ Y = b :: (List.replicate a b ++ Y) from rfl, show f + (a + 1) = f + a + 1 by omega]
    refine hs.trans ?_
    have ih := run_ps hb a (x1 ++ [⟨4, [b], 0, ⟨1, (c : Int)⟩⟩]) (c + 1) f Y (by omega) (by omega) (by simp; omega)
    refine ih.trans ?_
    rw [List.append_assoc, show c + 1 + a = c + (a + 1) by omega]
    rfl
def x7 (n : Nat) : List UInt8 := List.replicate n 41 ++ [59]
def x6 (n : Nat) : List UInt8 := 49 :: x7 n
def x5 (n : Nat) : List UInt8 := List.replicate n 40 ++ x6 n
def x4 (n : Nat) : List UInt8 := 61 :: x5 n
def x3 (n : Nat) : List UInt8 := 97 :: x4 n
def x2 (n : Nat) : List UInt8 := 32 :: x3 n
def txt (n : Nat) : List UInt8 := 105 :: 110 :: 116 :: x2 n
theorem x7_len (n : Nat) : (x7 n).length = n + 1 := by unfold x7; rw [List.length_append, List.length_replicate]; rfl
theorem x6_len (n : Nat) : (x6 n).length = n + 2 := by unfold x6; rw [List.length_cons, x7_len]
theorem x5_len (n : Nat) : (x5 n).length = n + (n + 2) := by unfold x5; rw [List.length_append, List.length_replicate, x6_len]
theorem x4_len (n : Nat) : (x4 n).length = n + (n + 3) := by unfold x4; rw [List.length_cons, x5_len]; omega
theorem x3_len (n : Nat) : (x3 n).length = n + (n + 4) := by unfold x3; rw [List.length_cons, x4_len]; omega
theorem x2_len (n : Nat) : (x2 n).length = n + (n + 5) := by unfold x2; rw [List.length_cons, x3_len]; omega
theorem txt_len (n : Nat) : (txt n).length = n + (n + 8) := by unfold txt; rw [List.length_cons, List.length_cons, List.length_cons, x2_len]; omega
def semi (c : Nat) : GToken := ⟨4, [59], 0, ⟨1, (c : Int)⟩⟩
def toks (n : Nat) : List GToken := ⟨2, [105, 110, 116], 0, ⟨1, 1⟩⟩ :: ⟨1, [97], 0, ⟨1, 5⟩⟩ :: ⟨4, [61], 0, ⟨1, 6⟩⟩ :: (ps 40 7 n ++ one (7 + n) :: (ps 41 (8 + n) n ++ [semi (8 + n + n)]))
theorem tok_int (Y : List UInt8) (hY : Y.length ≤ 50000) : lex_token ([105, 110, 116] ++ 32 :: Y) = some (⟨2, [105, 110, 116], 0, ⟨0, 0⟩⟩, 0) := by
  have hs : sp moreB ([105, 110, 116] ++ 32 :: Y) = 3 := rfl
  have hl : ([105, 110, 116] ++ 32 :: Y : List UInt8).length = Y.length + 4 := by simp
  unfold lex_token
  refine bnd (x := 105) rfl ?_
  refine bnd (x := true) rfl ?_
  refine (c1 (by rfl)).trans ?_
  refine bnd (span2_eq _ (by omega)) ?_
  rw [hs]
  refine bnd (sub_take (by omega)) ?_
  refine (c0 (by rfl)).trans ?_
  dsimp only [jn]
  exact bnd (x := true) (show lex_Word _ = some true from rfl) rfl
theorem tok_a (Y : List UInt8) (hY : Y.length ≤ 50000) : lex_token ([97] ++ 61 :: Y) = some (⟨1, [97], 0, ⟨0, 0⟩⟩, 0) := by
  have hs : sp moreB ([97] ++ 61 :: Y) = 1 := rfl
  have hl : ([97] ++ 61 :: Y : List UInt8).length = Y.length + 2 := by simp
  unfold lex_token
  refine bnd (x := 97) rfl ?_
  refine bnd (x := true) rfl ?_
  refine (c1 (by rfl)).trans ?_
  refine bnd (span2_eq _ (by omega)) ?_
  rw [hs]
  refine bnd (sub_take (by omega)) ?_
  refine (c0 (by rfl)).trans ?_
  dsimp only [jn]
  exact bnd (x := false) (show lex_Word _ = some false from rfl) rfl
theorem tok_one {b : UInt8} (hb : moreB b = false) (Y : List UInt8) (hY : Y.length ≤ 50000) : lex_token ([49] ++ b :: Y) = some (⟨3, [49], 1, ⟨0, 0⟩⟩, 0) := by
  have hs : sp moreB ([49] ++ b :: Y) = 1 := by
    show sp moreB (49 :: b :: Y) = 1
    unfold sp
    rw [show moreB 49 = true from rfl]
    unfold sp
    rw [hb]
    rfl
  have hl : ([49] ++ b :: Y : List UInt8).length = Y.length + 2 := by simp
  unfold lex_token
  refine bnd (x := 49) rfl ?_
  refine bnd (x := false) rfl ?_
  refine (c0 (by rfl)).trans ?_
  refine bnd (x := 49) rfl ?_
  refine bnd (x := true) rfl ?_
  refine (c1 (by rfl)).trans ?_
  refine bnd (x := (⟨3, [49], 1, ⟨0, 0⟩⟩, 0)) ?_ rfl
  rw [number_eq _ (by omega), hs]
  show numT [49] = _
  kernel_rfl
theorem lex_txt (n : Nat) (hn : n ≤ 400) : lex_Lex (txt n) = some (toks n, ⟨1, ((9 + n + n : Nat) : Int)⟩, 0) := by
  have l7 := x7_len n; have l6 := x6_len n; have l5 := x5_len n; have l4 := x4_len n; have l3 := x3_len n; have l2 := x2_len n; have l1 := txt_len n
  have hps : (ps 40 7 n).length = n := ps_len 40 n 7
  have hps2 : (ps 41 (7 + n + 1) n).length = n := ps_len 41 n _
  have hbl : blS (x2 n) = ((1 : Nat) : Int) := by
    unfold blS
    rw [if_neg (by simp [x2, List.cons_prefix_cons]), if_neg (by simp [x2, List.cons_prefix_cons])]
    rfl
  have hone : lex_token (x6 n) = some (⟨3, [49], 1, ⟨0, 0⟩⟩, 0) := by
    cases n with
    | zero => exact tok_one (by decide) [] (by simp)
    | succ n => exact tok_one (by decide) (x7 n) (by rw [x7_len]; omega)
  have heq : lex_token (x4 n) = some (⟨4, [61], 0, ⟨0, 0⟩⟩, 0) := by
    refine tok_mark (by decide) (by decide) (by decide) ?_ (by decide)
    cases n <;> rfl
  have hrun : ∀ F, 2 * n + 10 ≤ F → loopM lexBody F ([], ⟨txt n, ⟨1, 1⟩⟩) = some (.brk (toks n, ⟨[], ⟨1, ((9 + n + n : Nat) : Int)⟩⟩)) := by
    intro F hF
    obtain ⟨g, rfl⟩ : ∃ g, F = g + 1 + 1 + n + 1 + n + 1 + 1 + 1 + 1 := ⟨F - (2 * n + 7), by omega⟩
    refine (step1 (s := txt n) (x1 := []) (c := 1) ⟨2, [105, 110, 116], 0, ⟨0, 0⟩⟩ (x2 n) rfl (by simp) (bl_not (by decide) (by decide)) (tok_int _ (by omega)) (by decide) (by omega) (by omega) (by simp)).trans ?_
    refine (step0 (c := 4) hbl (by omega) (by show 4 + (x2 n).length ≤ _; omega)).trans ?_
    refine (step1 (c := 5) ⟨1, [97], 0, ⟨0, 0⟩⟩ (x4 n) rfl (by simp) (bl_not (by decide) (by decide)) (tok_a _ (by omega)) (by decide) (by omega) (by show 5 + (x3 n).length ≤ _; omega) (by simp)).trans ?_
    refine (step1 (s := x4 n) (c := 6) ⟨4, [61], 0, ⟨0, 0⟩⟩ (x5 n) rfl (by simp) (bl_not (by decide) (by decide)) heq (by decide) (by omega) (by omega) (by simp)).trans ?_
    refine (run_ps (.inl rfl) n _ 7 (g + 1 + 1 + n + 1) (x6 n) (by omega) (by omega) (by simp; omega)).trans ?_
    refine (step1 (s := x6 n) (c := 7 + n) ⟨3, [49], 1, ⟨0, 0⟩⟩ (x7 n) rfl (by simp) (bl_not (by decide) (by decide)) hone (by decide) (by omega) (by omega) (by simp [hps]; omega)).trans ?_
    refine (run_ps (.inr rfl) n _ (7 + n + 1) (g + 1 + 1) [59] (by omega) (by show 7 + n + 1 + n + 1 ≤ _; omega) (by simp [hps]; omega)).trans ?_
    refine (step1 (c := 7 + n + 1 + n) ⟨4, [59], 0, ⟨0, 0⟩⟩ [] rfl (by simp) (tok_par (.inr (.inr rfl)) _).2 (tok_par (.inr (.inr rfl)) _).1 (by decide) (by omega) (by show 7 + n + 1 + n + 1 ≤ _; omega) (by simp [hps, hps2]; omega)).trans ?_
    conv => lhs; unfold loopM
    rw [body_end]
    unfold toks semi one
    rw [show 8 + n = 7 + n + 1 by omega, show 9 + n + n = 7 + n + 1 + n + 1 by omega]
    simp only [List.append_assoc, List.cons_append, List.nil_append]
    rfl
  unfold lex_Lex
  rw [c0 (df (by omega))]
  exact bnd (hrun NN (Nat.le_of_lt (NN_big (by omega)))) rfl
end Go.Proofs.YtbolaohekbmndaaGreatDoor
