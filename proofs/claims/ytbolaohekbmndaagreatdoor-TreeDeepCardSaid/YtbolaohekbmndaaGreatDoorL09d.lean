/- TreeDeep: what becomes of a text of brackets. No program is in sight here. -/
import Derived.Test.YtbolaohekbmndaaGreatDoorL09c
set_option linter.unusedVariables false
namespace Go.Proofs.YtbolaohekbmndaaGreatDoor

theorem awake_eq : law09_awake = some true := by kernel_rfl
theorem ps_add (b : UInt8) : ∀ (a k c : Nat), ps b c (a + k) = ps b c a ++ ps b (c + a) k
  | 0, k, c => by rw [Nat.zero_add]; rfl
  | a + 1, k, c => by
    rw [show a + 1 + k = (a + k) + 1 by omega]
    show _ :: ps b (c + 1) (a + k) = _
    rw [ps_add b a k (c + 1), show c + 1 + a = c + (a + 1) by omega]
    rfl
/-- The declaration's head. -/
def tInt : GToken := ⟨2, [105, 110, 116], 0, ⟨1, 1⟩⟩
def tA : GToken := ⟨1, [97], 0, ⟨1, 5⟩⟩
def tEq : GToken := ⟨4, [61], 0, ⟨1, 6⟩⟩
theorem type_eq (l : List GToken) (e : Pos) (d : Int) : tree_reader_typeName ⟨tInt :: tA :: l, e, d⟩ = some (.ok (⟨[105, 110, 116], [], 0⟩, ⟨tA :: l, e, d⟩)) := by
  unfold tree_reader_typeName
  dsimp only [jn]
  refine bnd (x := true) ?_ ?_
  · unfold tree_reader_types
    refine bnd (is_hit rfl (.inl rfl)) rfl
  refine (c0 (by rfl)).trans ?_
  refine bnd (x := tInt) rfl ?_
  refine bnd (sub_tail _ _) ?_
  refine (c0 (by rfl)).trans ?_
  refine run_bind (fun _ => ((⟨[105, 110, 116], [], 0⟩ : TypeName), (⟨tA :: l, e, d⟩ : TreeReader))) 0 (.brk (⟨[105, 110, 116], [], 0⟩, ⟨tA :: l, e, d⟩)) rfl (by omega) (fun k hk => by omega) ?_ trivial rfl
  exact bnd (take_miss (show ([97] : List UInt8) ≠ _ by decide)) rfl
theorem dims_eq (t : GToken) (h : t.Text ≠ [91]) (l : List GToken) (e : Pos) (d : Int) : tree_reader_dims ⟨t :: l, e, d⟩ = some (.ok ([], ⟨t :: l, e, d⟩)) := by
  unfold tree_reader_dims
  refine run_bind (fun _ => (([] : List Int), (⟨t :: l, e, d⟩ : TreeReader))) 0 (.brk ([], ⟨t :: l, e, d⟩)) rfl (by omega) (fun k hk => by omega) ?_ trivial rfl
  exact bnd (take_miss h) rfl
theorem outer_eq (l : List GToken) (e : Pos) (d : Int) (p : GProgram) : tree_reader_outer ⟨tInt :: tA :: tEq :: l, e, d⟩ p =
    ((tree_reader_behind ⟨tEq :: l, e, d⟩ (⟨⟨1, 1⟩, ⟨[105, 110, 116], [], 0⟩, [97], [], [], false⟩ : GVar)).bind fun y16 => exC y16 (fun y16 => (room (List.length p.Globals + List.length ([y16.1] : List GVar))).bind fun _ => some (Except.ok (y16.2, { p with Globals := p.Globals ++ ([y16.1] : List GVar) }))) (fun e9 => some (Except.error (e9.1, e9.2, p)))) := by
  unfold tree_reader_outer
  refine bnd (pos_hit _ _ _ _) ?_
  refine bnd (is_miss (show ([105, 110, 116] : List UInt8) ≠ _ by decide)) ?_
  refine (c0 (by rfl)).trans ?_
  refine bnd (type_eq _ _ _) ?_
  dsimp only [exC]
  refine bnd (name_hit rfl) ?_
  dsimp only [exC]
  refine bnd (is_miss (show ([61] : List UInt8) ≠ _ by decide)) ?_
  exact c1 (by rfl)
theorem behind_err (t : GToken) (ht : Start t) (l : List GToken) (e : Pos) (v : GVar) {x : TreeRefused} {s : TreeReader} (h : tree_reader_assign ⟨t :: l, e, 0⟩ = some (.error (x, s))) : tree_reader_behind ⟨tEq :: t :: l, e, 0⟩ v = some (.error (x, s)) := by
  unfold tree_reader_behind
  refine bnd (dims_eq _ (show ([61] : List UInt8) ≠ _ by decide) _ _ _) ?_
  dsimp only [exC, jn]
  refine bnd (take_hit rfl (.inr rfl)) ?_
  refine (c1 (by rfl)).trans ?_
  refine bnd (take_miss (start_text ht (by decide) (by decide))) ?_
  exact bnd h rfl
theorem behind_ok (t : GToken) (ht : Start t) (l : List GToken) (e : Pos) (v : GVar) {x : GExpr} {q : GToken} (hq : q.Text = [59] ∧ q.Kind = 4) (h : tree_reader_assign ⟨t :: l, e, 0⟩ = some (.ok (x, ⟨[q], e, 0⟩))) : ∃ v', tree_reader_behind ⟨tEq :: t :: l, e, 0⟩ v = some (.ok (v', ⟨[], e, 0⟩)) := by
  refine ⟨{ v with Dims := [], Init := [] ++ [x], Brace := false }, ?_⟩
  unfold tree_reader_behind
  refine bnd (dims_eq _ (show ([61] : List UInt8) ≠ _ by decide) _ _ _) ?_
  dsimp only [exC, jn]
  refine bnd (take_hit rfl (.inr rfl)) ?_
  refine (c1 (by rfl)).trans ?_
  refine bnd (take_miss (start_text ht (by decide) (by decide))) ?_
  refine bnd h ?_
  dsimp only [exC]
  refine bnd (room_ok (by simp)) ?_
  refine run_bind (fun _ => (({ v with Dims := [], Init := [] ++ [x], Brace := false } : GVar), (⟨[q], e, 0⟩ : TreeReader))) 0 (.brk (({ v with Dims := [], Init := [] ++ [x], Brace := false } : GVar), ⟨[q], e, 0⟩)) rfl (by omega) (fun k hk => by omega) rfl trivial ?_
  dsimp only [Lp.thn]
  refine (c0 (by rfl)).trans ?_
  exact bnd (must_hit hq.1 (.inr hq.2)) rfl
theorem read_no (n : Nat) (hn : 100 ≤ n) (hm : n ≤ 400) : ∃ p, tree_Read (txt n) = some (p, ⟨1, 107⟩, 2) := by
  obtain ⟨t, l, ht, hp⟩ : ∃ t l, ps 40 7 n ++ one (7 + n) :: (ps 41 (8 + n) n ++ [semi (8 + n + n)]) = ps 40 7 100 ++ t :: l ∧ t.Pos = ⟨1, 107⟩ := by
    obtain ⟨k, rfl⟩ : ∃ k, n = 100 + k := ⟨n - 100, by omega⟩
    rw [ps_add, List.append_assoc]
    cases k with
    | zero => exact ⟨_, _, rfl, rfl⟩
    | succ k => exact ⟨_, _, rfl, rfl⟩
  obtain ⟨t0, l0, hs, hst⟩ := ps_start 7 n (7 + n) (ps 41 (8 + n) n ++ [semi (8 + n + n)])
  obtain ⟨k, hk⟩ : ∃ k, NN = 6 * 100 + 1 + k := ⟨NN - 601, by unfold NN; omega⟩
  obtain ⟨s, hno⟩ := deep_no 100 k 7 t l ⟨1, ((9 + n + n : Nat) : Int)⟩ (by omega)
  rw [← hk, ← ht, hs, hp] at hno
  have hA : tree_reader_assign ⟨t0 :: l0, ⟨1, ((9 + n + n : Nat) : Int)⟩, 0⟩ = some (.error (⟨⟨1, 107⟩, 2⟩, s)) := hno
  refine ⟨⟨[], [], []⟩, ?_⟩
  unfold tree_Read
  refine bnd (lex_txt n hm) ?_
  refine (c0 (by rfl)).trans ?_
  refine bnd (x := .error (⟨[], [], []⟩, ⟨⟨1, 107⟩, 2⟩, s)) ?_ rfl
  unfold tree_reader_try
  refine run_bind (fun _ => ((⟨[], [], []⟩ : GProgram), (⟨toks n, ⟨1, ((9 + n + n : Nat) : Int)⟩, 0⟩ : TreeReader))) 0 (.ret (.error (⟨[], [], []⟩, ⟨⟨1, 107⟩, 2⟩, s))) rfl (by omega) (fun k hk => by omega) ?_ trivial rfl
  unfold toks
  rw [hs]
  dsimp only
  refine (c1 (dt (by simp only [List.length_cons]; omega))).trans ?_
  refine bnd ((outer_eq _ _ _ _).trans (bnd (behind_err t0 hst l0 _ _ hA) rfl)) rfl
theorem read_ok (n : Nat) (hn : n ≤ 99) : ∃ p q, tree_Read (txt n) = some (p, q, 0) := by
  obtain ⟨t0, l0, hs, hst⟩ := ps_start 7 n (7 + n) (ps 41 (8 + n) n ++ [semi (8 + n + n)])
  obtain ⟨k, hk⟩ : ∃ k, NN = 6 * n + 6 + k := ⟨NN - (6 * n + 6), by unfold NN; omega⟩
  obtain ⟨x, hno⟩ := deep_ok n k 7 (7 + n) (8 + n) (semi (8 + n + n)) [] ⟨1, ((9 + n + n : Nat) : Int)⟩ 0 ⟨rfl, .inr rfl⟩ (by omega) (by omega)
  rw [← hk, hs] at hno
  have hA : tree_reader_assign ⟨t0 :: l0, ⟨1, ((9 + n + n : Nat) : Int)⟩, 0⟩ = some (.ok (x, ⟨[semi (8 + n + n)], ⟨1, ((9 + n + n : Nat) : Int)⟩, 0⟩)) := hno
  obtain ⟨v, hv⟩ := behind_ok t0 hst l0 _ (⟨⟨1, 1⟩, ⟨[105, 110, 116], [], 0⟩, [97], [], [], false⟩ : GVar) ⟨rfl, rfl⟩ hA
  refine ⟨⟨[], [v], []⟩, ⟨1, ((9 + n + n : Nat) : Int)⟩, ?_⟩
  unfold tree_Read
  refine bnd (lex_txt n (by omega)) ?_
  refine (c0 (by rfl)).trans ?_
  refine bnd (x := .ok (⟨[], [v], []⟩, ⟨[], ⟨1, ((9 + n + n : Nat) : Int)⟩, 0⟩)) ?_ rfl
  unfold tree_reader_try
  refine run_bind (fun k => match k with
    | 0 => ((⟨[], [], []⟩ : GProgram), (⟨toks n, ⟨1, ((9 + n + n : Nat) : Int)⟩, 0⟩ : TreeReader))
    | _ => (⟨[], [v], []⟩, ⟨[], ⟨1, ((9 + n + n : Nat) : Int)⟩, 0⟩)) 1 (.brk (⟨[], [v], []⟩, ⟨[], ⟨1, ((9 + n + n : Nat) : Int)⟩, 0⟩)) rfl (by omega) (fun k hk => ?_) rfl trivial rfl
  obtain rfl : k = 0 := by omega
  unfold toks
  rw [hs]
  dsimp only
  refine (c1 (dt (by simp only [List.length_cons]; omega))).trans ?_
  refine bnd (x := .ok (⟨[], ⟨1, ((9 + n + n : Nat) : Int)⟩, 0⟩, ⟨[], [v], []⟩)) ((outer_eq _ _ _ _).trans (bnd hv ?_)) rfl
  dsimp only [exC]
  exact bnd (room_ok (by simp)) rfl
theorem TreeDeep_law (p : Int) : law09_TreeDeep p = some true := by
  unfold law09_TreeDeep
  by_cases h0 : p < 0
  · rw [c1 (dt h0)]; exact bnd awake_eq rfl
  rw [c0 (df h0)]
  by_cases h4 : 400 < p
  · rw [c1 (dt h4)]; exact bnd awake_eq rfl
  rw [c0 (df h4)]
  obtain ⟨n, rfl⟩ : ∃ n : Nat, p = n := ⟨p.toNat, by omega⟩
  have hn : n ≤ 400 := by omega
  refine run_bind (fun k => (([105, 110, 116, 32, 97, 61] : List UInt8) ++ List.replicate k 40, (k : Int))) n (.brk ([105, 110, 116, 32, 97, 61] ++ List.replicate n 40, (n : Int))) rfl (by omega) (fun k hk => ?_) ?_ trivial ?_
  · dsimp only
    rw [c1 (dlt hk), room_ok (by simp; omega), Option.bind_some, w64 (by omega), List.append_assoc, ← List.replicate_succ']
    rfl
  · dsimp only
    rw [c0 (dge n)]
  dsimp only [Lp.thn]
  rw [room_ok (by simp; omega), Option.bind_some]
  refine run_bind (fun k => (([105, 110, 116, 32, 97, 61] : List UInt8) ++ List.replicate n 40 ++ [49] ++ List.replicate k 41, (k : Int))) n (.brk ([105, 110, 116, 32, 97, 61] ++ List.replicate n 40 ++ [49] ++ List.replicate n 41, (n : Int))) (by simp) (by omega) (fun k hk => ?_) ?_ trivial ?_
  · dsimp only
    rw [c1 (dlt hk), room_ok (by simp; omega), Option.bind_some, w64 (by omega), List.append_assoc _ (List.replicate k 41), ← List.replicate_succ']
    rfl
  · dsimp only
    rw [c0 (dge n)]
  dsimp only [Lp.thn]
  rw [room_ok (by simp; omega), Option.bind_some]
  have e : ([105, 110, 116, 32, 97, 61] : List UInt8) ++ List.replicate n 40 ++ [49] ++ List.replicate n 41 ++ [59] = txt n := by
    unfold txt x2 x3 x4 x5 x6 x7
    simp
  rw [e]
  by_cases h : n ≤ 99
  · obtain ⟨p, q, hr⟩ := read_ok n h
    refine bnd hr ?_
    rw [c1 (dt (by omega))]
    exact bnd awake_eq rfl
  · obtain ⟨p, hr⟩ := read_no n (by omega) hn
    refine bnd hr ?_
    rw [c0 (df (by omega))]
    exact bnd awake_eq rfl
end Go.Proofs.YtbolaohekbmndaaGreatDoor
