/- Plain laws of layer 9 (tree): the reader's small steps; TreeDeep. No program is in sight here. -/
import Derived.Test.YtbolaohekbmndaaGreatDoorL09a
set_option linter.unusedVariables false
namespace Go.Proofs.YtbolaohekbmndaaGreatDoor

/-! The reader's small steps. -/
theorem lz {t : GToken} {l : List GToken} : ((List.length (t :: l) : Int) == 0) = false := beq_eq_false_iff_ne.2 (by simp only [List.length_cons]; omega)
theorem pos_hit (t : GToken) (l : List GToken) (e : Pos) (d : Int) : tree_reader_pos ⟨t :: l, e, d⟩ = some t.Pos := by
  unfold tree_reader_pos
  rw [c0 lz]
  rfl
theorem mark_hit {t : GToken} {l : List GToken} {e : Pos} {d : Int} (h : t.Kind = 4) : tree_reader_mark ⟨t :: l, e, d⟩ = some t.Text := by
  unfold tree_reader_mark
  rw [c0 lz]
  refine bnd (x := t) rfl ?_
  rw [c0 (by rw [h]; rfl)]
  rfl
theorem mark_miss {t : GToken} {l : List GToken} {e : Pos} {d : Int} (h : t.Kind ≠ 4) : tree_reader_mark ⟨t :: l, e, d⟩ = some [] := by
  unfold tree_reader_mark
  rw [c0 lz]
  refine bnd (x := t) rfl ?_
  rw [c1 (by simpa using h)]
theorem is_hit {t : GToken} {l : List GToken} {e : Pos} {d : Int} {m : List UInt8} (h : t.Text = m) (hk : t.Kind = 2 ∨ t.Kind = 4) : tree_reader_is ⟨t :: l, e, d⟩ m = some true := by
  unfold tree_reader_is tree_reader_peek
  rw [c1 (dt (by simp only [List.length_cons]; omega))]
  refine bnd (x := true) (bnd (x := t) rfl ?_) rfl
  rw [c1 (dt h)]
  refine bnd (x := t) rfl ?_
  rcases hk with hk | hk
  · rw [c1 (by rw [hk]; rfl)]
  · rw [c0 (by rw [hk]; rfl)]
    refine bnd (x := t) rfl ?_
    rw [hk]; rfl
theorem is_miss {t : GToken} {l : List GToken} {e : Pos} {d : Int} {m : List UInt8} (h : t.Text ≠ m) : tree_reader_is ⟨t :: l, e, d⟩ m = some false := by
  unfold tree_reader_is tree_reader_peek
  rw [c1 (dt (by simp only [List.length_cons]; omega))]
  refine bnd (x := false) (bnd (x := t) rfl ?_) rfl
  rw [c0 (df h)]
theorem sub_tail {α : Type} (t : α) (l : List α) : sub (t :: l) 1 (List.length (t :: l) : Int) = some l := by
  unfold sub
  rw [if_pos (by simp only [List.length_cons]; omega)]
  simp
theorem take_hit {t : GToken} {l : List GToken} {e : Pos} {d : Int} {m : List UInt8} (h : t.Text = m) (hk : t.Kind = 2 ∨ t.Kind = 4) : tree_reader_take ⟨t :: l, e, d⟩ m = some (true, ⟨l, e, d⟩) := by
  unfold tree_reader_take
  refine bnd (is_hit h hk) ?_
  refine (c0 (by rfl)).trans ?_
  exact bnd (sub_tail t l) rfl
theorem take_miss {t : GToken} {l : List GToken} {e : Pos} {d : Int} {m : List UInt8} (h : t.Text ≠ m) : tree_reader_take ⟨t :: l, e, d⟩ m = some (false, ⟨t :: l, e, d⟩) := by
  unfold tree_reader_take
  exact bnd (is_miss h) rfl
theorem must_hit {t : GToken} {l : List GToken} {e : Pos} {d : Int} {m : List UInt8} (h : t.Text = m) (hk : t.Kind = 2 ∨ t.Kind = 4) : tree_reader_must ⟨t :: l, e, d⟩ m = some (.ok ⟨l, e, d⟩) := by
  unfold tree_reader_must
  exact bnd (take_hit h hk) rfl
theorem kind_hit {t : GToken} {l : List GToken} {e : Pos} {d k : Int} (h : t.Kind = k) : tree_reader_kind ⟨t :: l, e, d⟩ k = some (.ok (t, ⟨l, e, d⟩)) := by
  unfold tree_reader_kind jn
  dsimp only
  rw [c0 lz]
  refine bnd (x := t) rfl ?_
  rw [c0 (by rw [h]; exact bne_self_eq_false k)]
  refine bnd (x := t) rfl ?_
  exact bnd (sub_tail t l) rfl
theorem name_hit {t : GToken} {l : List GToken} {e : Pos} {d : Int} (h : t.Kind = 1) : tree_reader_name ⟨t :: l, e, d⟩ = some (.ok (t.Text, ⟨l, e, d⟩)) := by
  unfold tree_reader_name
  exact bnd (kind_hit h) rfl
theorem deeper_ok {l : List GToken} {e : Pos} {d : Int} (h0 : 0 ≤ d) (h : d < 200) : tree_reader_deeper ⟨l, e, d⟩ = some (.ok ⟨l, e, d + 1⟩) := by
  unfold tree_reader_deeper jn
  dsimp only
  rw [c0 (beq_eq_false_iff_ne.2 (by omega)), w64 (by omega)]
theorem deeper_no (t : GToken) (l : List GToken) (e : Pos) : tree_reader_deeper ⟨t :: l, e, 200⟩ = some (.error (⟨t.Pos, 2⟩, ⟨t :: l, e, 200⟩)) := by
  unfold tree_reader_deeper jn
  dsimp only
  refine (c1 (by rfl)).trans ?_
  unfold tree_reader_fail
  refine bnd (bnd (pos_hit t l e 200) rfl) rfl

/-! Brackets in one another. -/
def ps (b : UInt8) (c : Nat) : Nat → List GToken
  | 0 => []
  | a + 1 => ⟨4, [b], 0, ⟨1, (c : Int)⟩⟩ :: ps b (c + 1) a
theorem ps_snoc (b : UInt8) : ∀ (a c : Nat), ps b c (a + 1) = ps b c a ++ [⟨4, [b], 0, ⟨1, ((c + a : Nat) : Int)⟩⟩]
  | 0, c => rfl
  | a + 1, c => by
    have := ps_snoc b a (c + 1)
    show _ :: ps b (c + 1) (a + 1) = _
    rw [this, show c + 1 + a = c + (a + 1) by omega]
    rfl
theorem ps_len (b : UInt8) : ∀ (a c : Nat), (ps b c a).length = a
  | 0, c => rfl
  | a + 1, c => by show (ps b (c + 1) a).length + 1 = a + 1; rw [ps_len b a (c + 1)]
/-- What ends an expression here. -/
def Stop (q : GToken) : Prop := q.Kind = 4 ∧ (q.Text = [41] ∨ q.Text = [59])
theorem stop_text {q : GToken} (h : Stop q) {m : List UInt8} (h1 : ([41] : List UInt8) ≠ m) (h2 : ([59] : List UInt8) ≠ m) : q.Text ≠ m := by
  rcases h.2 with e | e <;> rw [e] <;> assumption
theorem rank_stop {q : GToken} (h : Stop q) : tree_rank q.Text = some 0 := by
  rcases h.2 with e | e <;> rw [e] <;> rfl
theorem assigns_stop {q : GToken} (h : Stop q) : tree_assigns q.Text = some false := by
  rcases h.2 with e | e <;> rw [e] <;> rfl
/-- What may begin an expression here. -/
def Start (t : GToken) : Prop := (t.Kind = 4 ∧ t.Text = [40]) ∨ (t.Kind = 3 ∧ t.Text = [49])
theorem start_text {q : GToken} (h : Start q) {m : List UInt8} (h1 : ([40] : List UInt8) ≠ m) (h2 : ([49] : List UInt8) ≠ m) : q.Text ≠ m := by
  rcases h with e | e <;> rw [e.2] <;> assumption
theorem unary_start (G : Rec1) {t : GToken} (ht : Start t) (l : List GToken) (e : Pos) {d : Int} (h0 : 0 ≤ d) (h : d < 200) {y : Except (TreeRefused × TreeReader) (GExpr × TreeReader)} (hp : G.tree_reader_post ⟨t :: l, e, d + 1⟩ = some y) :
    tree_reader_unary_b G ⟨t :: l, e, d⟩ = exC y (fun y12 => some (Except.ok (y12.1, { y12.2 with depth := IntKind.wrap .i64 (y12.2.depth - 1) }))) (fun e6 => some (Except.error (e6.1, { e6.2 with depth := IntKind.wrap .i64 (e6.2.depth - 1) }))) := by
  have key : ∀ y2, tree_reader_mark ⟨t :: l, e, d + 1⟩ = some y2 → y2 = [40] ∨ y2 = [] → tree_reader_unary_b G ⟨t :: l, e, d⟩ = exC y (fun y12 => some (Except.ok (y12.1, { y12.2 with depth := IntKind.wrap .i64 (y12.2.depth - 1) }))) (fun e6 => some (Except.error (e6.1, { e6.2 with depth := IntKind.wrap .i64 (e6.2.depth - 1) }))) := by
    intro y2 hm hy
    unfold tree_reader_unary_b
    refine bnd (deeper_ok h0 h) ?_
    dsimp only [exC]
    refine bnd hm ?_
    have hgo : ((tree_reader_pos ⟨t :: l, e, d + 1⟩).bind fun y7 => (tree_reader_take ⟨t :: l, e, d + 1⟩ ([115, 105, 122, 101, 111, 102] : List UInt8)).bind fun y8 => bif y8.1 then ((tree_reader_must y8.2 ([40] : List UInt8)).bind fun y9 => exC y9 (fun y9 => (tree_reader_typeName y9).bind fun y10 => exC y10 (fun y10 => (tree_reader_must y10.2 ([41] : List UInt8)).bind fun y11 => exC y11 (fun y11 => some (Except.ok ((⟨12, y7, ([] : List UInt8), ([] : List UInt8), 0, y10.1, []⟩ : GExpr), { y11 with depth := IntKind.wrap .i64 (y11.depth - 1) }))) (fun e4 => some (Except.error (e4.1, { e4.2 with depth := IntKind.wrap .i64 (e4.2.depth - 1) })))) (fun e3 => some (Except.error (e3.1, { e3.2 with depth := IntKind.wrap .i64 (e3.2.depth - 1) })))) (fun e5 => some (Except.error (e5.1, { e5.2 with depth := IntKind.wrap .i64 (e5.2.depth - 1) })))) else ((G.tree_reader_post y8.2).bind fun y12 => exC y12 (fun y12 => some (Except.ok (y12.1, { y12.2 with depth := IntKind.wrap .i64 (y12.2.depth - 1) }))) (fun e6 => some (Except.error (e6.1, { e6.2 with depth := IntKind.wrap .i64 (e6.2.depth - 1) }))))) = exC y (fun y12 => some (Except.ok (y12.1, { y12.2 with depth := IntKind.wrap .i64 (y12.2.depth - 1) }))) (fun e6 => some (Except.error (e6.1, { e6.2 with depth := IntKind.wrap .i64 (e6.2.depth - 1) }))) := by
      refine bnd (pos_hit _ _ _ _) ?_
      refine bnd (take_miss (start_text ht (by decide) (by decide))) ?_
      exact bnd hp rfl
    rcases hy with rfl | rfl
    · exact hgo
    · exact hgo
  rcases ht with ⟨k, x⟩ | ⟨k, x⟩
  · exact key _ (mark_hit k) (.inl x)
  · exact key _ (mark_miss (by rw [k]; decide)) (.inr rfl)
theorem rc_assign (n : Nat) (p : TreeReader) : (rec1 (n + 1)).tree_reader_assign p = tree_reader_assign_b (rec1 n) p := rfl
theorem rc_prime (n : Nat) (p : TreeReader) : (rec1 (n + 1)).tree_reader_prime p = tree_reader_prime_b (rec1 n) p := rfl
/-- A failure comes up. -/
theorem up_no (n : Nat) {t : GToken} (ht : Start t) (l : List GToken) (e : Pos) {d : Int} (h0 : 0 ≤ d) (h : d + 1 < 200) {x : TreeRefused} {s : TreeReader} (hp : (rec1 n).tree_reader_prime ⟨t :: l, e, d + 2⟩ = some (.error (x, s))) :
    ∃ s, (rec1 (n + 5)).tree_reader_assign ⟨t :: l, e, d⟩ = some (.error (x, s)) := by
  have h1 : (rec1 (n + 1)).tree_reader_post ⟨t :: l, e, d + 1 + 1⟩ = some (.error (x, s)) := by
    show tree_reader_post_b (rec1 n) _ = _
    unfold tree_reader_post_b
    rw [show d + 1 + 1 = d + 2 by omega]
    exact bnd hp rfl
  obtain ⟨s2, h2⟩ : ∃ s, (rec1 (n + 2)).tree_reader_unary ⟨t :: l, e, d + 1⟩ = some (.error (x, s)) := ⟨_, unary_start (rec1 (n + 1)) ht l e (by omega) h h1⟩
  have h3 : (rec1 (n + 3)).tree_reader_binary ⟨t :: l, e, d + 1⟩ 1 = some (.error (x, s2)) := by
    show tree_reader_binary_b (rec1 (n + 2)) _ _ = _
    unfold tree_reader_binary_b
    exact bnd h2 rfl
  have h4 : (rec1 (n + 4)).tree_reader_cond ⟨t :: l, e, d + 1⟩ = some (.error (x, s2)) := by
    show tree_reader_cond_b (rec1 (n + 3)) _ = _
    unfold tree_reader_cond_b
    exact bnd h3 rfl
  apply Exists.intro
  show tree_reader_assign_b (rec1 (n + 4)) _ = _
  unfold tree_reader_assign_b
  refine bnd (deeper_ok h0 (by omega)) ?_
  dsimp only [exC]
  exact bnd h4 rfl
theorem up_ok (n : Nat) {t : GToken} (ht : Start t) (l : List GToken) (e : Pos) {d : Int} (h0 : 0 ≤ d) (h : d + 1 < 200) {x : GExpr} {q : GToken} (hq : Stop q) {r : List GToken} (hp : (rec1 n).tree_reader_prime ⟨t :: l, e, d + 2⟩ = some (.ok (x, ⟨q :: r, e, d + 2⟩))) :
    (rec1 (n + 5)).tree_reader_assign ⟨t :: l, e, d⟩ = some (.ok (x, ⟨q :: r, e, d⟩)) := by
  have h1 : (rec1 (n + 1)).tree_reader_post ⟨t :: l, e, d + 1 + 1⟩ = some (.ok (x, ⟨q :: r, e, d + 1 + 1⟩)) := by
    show tree_reader_post_b (rec1 n) _ = _
    unfold tree_reader_post_b
    rw [show d + 1 + 1 = d + 2 by omega]
    refine bnd hp ?_
    dsimp only [exC]
    refine run_bind (fun _ => (x, (⟨q :: r, e, d + 2⟩ : TreeReader))) 0 (.ret (Except.ok (x, ⟨q :: r, e, d + 2⟩))) rfl (by omega) (fun k hk => by omega) ?_ trivial rfl
    dsimp only [jn]
    refine bnd (mark_hit hq.1) ?_
    rcases hq.2 with e1 | e1 <;> rw [e1] <;> rfl
  have h2 : (rec1 (n + 2)).tree_reader_unary ⟨t :: l, e, d + 1⟩ = some (.ok (x, ⟨q :: r, e, d + 1⟩)) := by
    refine (unary_start (rec1 (n + 1)) ht l e (by omega) h h1).trans ?_
    dsimp only [exC]
    rw [w64 (by omega), show d + 1 + 1 - 1 = d + 1 by omega]
  have h3 : (rec1 (n + 3)).tree_reader_binary ⟨t :: l, e, d + 1⟩ 1 = some (.ok (x, ⟨q :: r, e, d + 1⟩)) := by
    show tree_reader_binary_b (rec1 (n + 2)) _ _ = _
    unfold tree_reader_binary_b
    refine bnd h2 ?_
    dsimp only [exC]
    refine run_bind (fun _ => (x, (⟨q :: r, e, d + 1⟩ : TreeReader))) 0 (.ret (Except.ok (x, ⟨q :: r, e, d + 1⟩))) rfl (by omega) (fun k hk => by omega) ?_ trivial rfl
    dsimp only
    refine bnd (mark_hit hq.1) ?_
    exact bnd (rank_stop hq) rfl
  have h4 : (rec1 (n + 4)).tree_reader_cond ⟨t :: l, e, d + 1⟩ = some (.ok (x, ⟨q :: r, e, d + 1⟩)) := by
    show tree_reader_cond_b (rec1 (n + 3)) _ = _
    unfold tree_reader_cond_b
    refine bnd h3 ?_
    dsimp only [exC]
    refine bnd (mark_hit hq.1) ?_
    rw [c1 (by rw [df (stop_text hq (by decide) (by decide))]; rfl)]
  show tree_reader_assign_b (rec1 (n + 4)) _ = _
  unfold tree_reader_assign_b
  refine bnd (deeper_ok h0 (by omega)) ?_
  dsimp only [exC]
  refine bnd h4 ?_
  dsimp only [exC]
  refine bnd (mark_hit hq.1) ?_
  refine bnd (assigns_stop hq) ?_
  refine (c1 (by rfl)).trans ?_
  rw [w64 (by omega), show d + 1 - 1 = d by omega]
def one (c : Nat) : GToken := ⟨3, [49], 1, ⟨1, (c : Int)⟩⟩
theorem ps_start (c a : Nat) (o : Nat) (r : List GToken) : ∃ t l, ps 40 c a ++ one o :: r = t :: l ∧ Start t := by
  cases a with
  | zero => exact ⟨_, _, rfl, .inr ⟨rfl, rfl⟩⟩
  | succ a => exact ⟨_, _, rfl, .inl ⟨rfl, rfl⟩⟩
/-- Too deep. -/
theorem deep_no : ∀ (j n c : Nat) (t : GToken) (l : List GToken) (e : Pos), j ≤ 100 → ∃ s, (rec1 (6 * j + 1 + n)).tree_reader_assign ⟨ps 40 c j ++ t :: l, e, 200 - 2 * (j : Int)⟩ = some (.error (⟨t.Pos, 2⟩, s))
  | 0, n, c, t, l, e, _ => by
    refine ⟨⟨t :: l, e, 200⟩, ?_⟩
    rw [show 6 * 0 + 1 + n = n + 1 by omega]
    refine (rc_assign _ _).trans ?_
    unfold tree_reader_assign_b
    exact bnd (deeper_no t l e) rfl
  | j + 1, n, c, t, l, e, hj => by
    obtain ⟨s, ih⟩ := deep_no j n (c + 1) t l e (by omega)
    rw [show 6 * (j + 1) + 1 + n = (6 * j + 1 + n + 1) + 5 by omega]
    refine up_no (6 * j + 1 + n + 1) (t := ⟨4, [40], 0, ⟨1, (c : Int)⟩⟩) (.inl ⟨rfl, rfl⟩) (ps 40 (c + 1) j ++ t :: l) e (by omega) (by omega) (s := s) ?_
    rw [show 200 - 2 * ((j + 1 : Nat) : Int) + 2 = 200 - 2 * (j : Int) by omega]
    refine (rc_prime _ _).trans ?_
    unfold tree_reader_prime_b
    refine bnd (pos_hit _ _ _ _) ?_
    dsimp only [jn]
    refine bnd (take_hit rfl (.inr rfl)) ?_
    refine (c1 (by rfl)).trans ?_
    exact bnd ih rfl
/-- Deep, not too deep. -/
theorem deep_ok : ∀ (j n c o c2 : Nat) (q : GToken) (l : List GToken) (e : Pos) (d : Int), Stop q → 0 ≤ d → d + 2 + 2 * (j : Int) ≤ 200 → ∃ x, (rec1 (6 * j + 6 + n)).tree_reader_assign ⟨ps 40 c j ++ one o :: (ps 41 c2 j ++ q :: l), e, d⟩ = some (.ok (x, ⟨q :: l, e, d⟩))
  | 0, n, c, o, c2, q, l, e, d, hq, h0, h => by
    refine ⟨⟨1, ⟨1, (o : Int)⟩, [], [], 1, ⟨[], [], 0⟩, []⟩, ?_⟩
    rw [show 6 * 0 + 6 + n = (n + 1) + 5 by omega]
    refine up_ok (n + 1) (t := one o) (.inr ⟨rfl, rfl⟩) (q :: l) e h0 (by omega) hq ?_
    refine (rc_prime _ _).trans ?_
    unfold tree_reader_prime_b
    refine bnd (pos_hit _ _ _ _) ?_
    dsimp only [jn]
    refine bnd (take_miss (show ([49] : List UInt8) ≠ _ by decide)) ?_
    refine (c0 (by rfl)).trans ?_
    refine bnd (take_miss (show ([49] : List UInt8) ≠ _ by decide)) ?_
    refine (c0 (by rfl)).trans ?_
    refine bnd (take_miss (show ([49] : List UInt8) ≠ _ by decide)) ?_
    refine (c0 (by rfl)).trans ?_
    rw [c1 (dt (by simp only [List.length_cons]; omega))]
    refine bnd (x := one o) rfl ?_
    refine (c1 (by rfl)).trans ?_
    exact bnd (kind_hit rfl) rfl
  | j + 1, n, c, o, c2, q, l, e, d, hq, h0, h => by
    obtain ⟨x, ih⟩ := deep_ok j n (c + 1) o c2 ⟨4, [41], 0, ⟨1, ((c2 + j : Nat) : Int)⟩⟩ (q :: l) e (d + 2) ⟨rfl, .inl rfl⟩ (by omega) (by omega)
    refine ⟨x, ?_⟩
    rw [show 6 * (j + 1) + 6 + n = (6 * j + 6 + n + 1) + 5 by omega, ps_snoc 41, List.append_assoc]
    refine up_ok (6 * j + 6 + n + 1) (t := ⟨4, [40], 0, ⟨1, (c : Int)⟩⟩) (.inl ⟨rfl, rfl⟩) _ e h0 (by omega) hq ?_
    refine (rc_prime _ _).trans ?_
    unfold tree_reader_prime_b
    refine bnd (pos_hit _ _ _ _) ?_
    dsimp only [jn]
    refine bnd (take_hit rfl (.inr rfl)) ?_
    refine (c1 (by rfl)).trans ?_
    refine bnd ih ?_
    dsimp only [exC]
    exact bnd (must_hit rfl (.inr rfl)) rfl
end Go.Proofs.YtbolaohekbmndaaGreatDoor
