/- Plain laws on the models of liveness: the sets that are found are those of the paths. No program is in sight here. -/
import Derived.Test.YteoihjfnojgnnaaGreatL24c
set_option linter.unusedVariables false
namespace Go.Proofs.YteoihjfnojgnnaaGreat

def bit (l : List Bool) (q : Nat) : Bool := l.getD q false
theorem bit_at {l : List Bool} {q : Nat} (h : q < l.length) : idx l (q : Int) = some (bit l q) := by
  rw [idx_get h]
  unfold bit
  rw [List.getD_eq_getElem?_getD, List.getElem?_eq_getElem h]
  rfl
theorem bit_ext {a b : List Bool} (hl : a.length = b.length) (h : ∀ q, q < a.length → bit a q = bit b q) : a = b := by
  apply List.ext_getElem hl
  intro q h1 h2
  have := h q h1
  unfold bit at this
  rw [List.getD_eq_getElem?_getD, List.getD_eq_getElem?_getD, List.getElem?_eq_getElem h1, List.getElem?_eq_getElem h2] at this
  exact this
theorem bit_set {l : List Bool} {k q : Nat} {b : Bool} (hk : k < l.length) : bit (l.set k b) q = if q = k then b else bit l q := by
  unfold bit
  rw [List.getD_eq_getElem?_getD, List.getD_eq_getElem?_getD]
  by_cases h : q = k
  · subst h
    rw [List.getElem?_set_self hk, if_pos rfl]
    rfl
  · rw [List.getElem?_set_ne (fun e => h e.symm), if_neg h]

def markL (l : List Bool) (r : Int) (b : Bool) : List Bool := bif decide (0 ≤ r) then (bif decide (r < (l.length : Int)) then l.set r.toNat b else l) else l
theorem mark_eq (l : List Bool) (r : Int) (b : Bool) : flow_mark l r b = some (markL l r b) := by
  unfold flow_mark markL
  by_cases h0 : 0 ≤ r
  · rw [c1 (dt h0), c1 (dt h0)]
    by_cases h1 : r < (l.length : Int)
    · rw [c1 (dt h1), c1 (dt h1)]
      have hlt : r.toNat < l.length := by omega
      rw [idx_nat h0, List.getElem?_eq_getElem hlt]
      rfl
    · rw [c0 (df h1), c0 (df h1)]
  · rw [c0 (df h0), c0 (df h0)]
theorem mark_len (l : List Bool) (r : Int) (b : Bool) : (markL l r b).length = l.length := by
  unfold markL
  cases decide (0 ≤ r)
  · rfl
  · cases decide (r < (l.length : Int))
    · rfl
    · simp
theorem bit_mark {l : List Bool} {r : Int} {b : Bool} {q : Nat} (hq : q < l.length) : bit (markL l r b) q = bif r == (q : Int) then b else bit l q := by
  unfold markL
  by_cases h0 : 0 ≤ r
  · rw [c1 (dt h0)]
    by_cases h1 : r < (l.length : Int)
    · rw [c1 (dt h1), bit_set (by omega)]
      by_cases h : q = r.toNat
      · rw [if_pos h, c1 (by simp; omega)]
      · rw [if_neg h, c0 (by simp; omega)]
    · rw [c0 (df h1), c0 (by simp; omega)]
  · rw [c0 (df h0), c0 (by simp; omega)]

def marks (us : List Int) (l : List Bool) : List Bool := us.foldl (fun l u => markL l u true) l
theorem marks_len (us : List Int) : ∀ l, (marks us l).length = l.length := by
  induction us with
  | nil => intro l; rfl
  | cons u us ih => intro l; exact (ih _).trans (mark_len _ _ _)
theorem bit_marks (us : List Int) {q : Nat} : ∀ {l : List Bool}, q < l.length → bit (marks us l) q = (us.contains (q : Int) || bit l q) := by
  induction us with
  | nil => intro l _; rfl
  | cons u us ih =>
    intro l hq
    show bit (marks us (markL l u true)) q = _
    rw [ih (by rw [mark_len]; exact hq), bit_mark hq, List.contains_cons, Bool.beq_comm (a := u)]
    cases ((q : Int) == u) <;> simp
def befL (l : List Bool) (i : Ins) : List Bool := marks (usesL i) (markL l (defL i) false)
theorem bef_len (l : List Bool) (i : Ins) : (befL l i).length = l.length := (marks_len _ _).trans (mark_len _ _ _)
theorem bit_bef {l : List Bool} {i : Ins} {q : Nat} (hq : q < l.length) : bit (befL l i) q = ((usesL i).contains (q : Int) || (bit l q && !(defL i == (q : Int)))) := by
  unfold befL
  rw [bit_marks _ (by rw [mark_len]; exact hq), bit_mark hq]
  cases (defL i == (q : Int)) <;> simp
theorem before_eq (l : List Bool) (i : Ins) (hA : i.Args.length ≤ 12) : flow_before l i = some (befL l i) := by
  unfold flow_before
  rw [Def_eq, Option.bind_some, mark_eq, Option.bind_some, Uses_eq i hA, Option.bind_some]
  have hu := usesL_len i hA
  refine run_bind (fun k => (marks ((usesL i).take k) (markL l (defL i) false), (k : Int))) (usesL i).length (.brk (befL l i, ((usesL i).length : Int))) rfl (by omega) (fun k hk => ?_) ?_ trivial rfl
  · refine (c1 (dlt hk)).trans ?_
    rw [idx_get hk, Option.bind_some, mark_eq, Option.bind_some, List.take_succ_eq_append_getElem hk, w64 (by omega)]
    unfold marks
    rw [List.foldl_append]
    rfl
  · rw [List.take_length]
    exact c0 (dge _)
def endL (l : List Bool) (b : GBlock) : List Bool := bif b.End == 2 || b.End == 3 then markL l b.A true else l
theorem ended_eq (l : List Bool) (b : GBlock) : flow_ended l b = some (endL l b) := by
  unfold flow_ended endL
  rw [mark_eq]
  cases b.End == 2
  · cases b.End == 3 <;> rfl
  · rfl
theorem end_len (l : List Bool) (b : GBlock) : (endL l b).length = l.length := by
  unfold endL
  cases (b.End == 2 || b.End == 3)
  · rfl
  · exact mark_len _ _ _
def wE (b : GBlock) (q : Int) : Bool := (b.End == 2 || b.End == 3) && b.A == q
theorem bit_end {l : List Bool} {b : GBlock} {q : Nat} (hq : q < l.length) : bit (endL l b) q = (wE b q || bit l q) := by
  unfold endL wE
  cases (b.End == 2 || b.End == 3)
  · rfl
  · rw [cond_true, bit_mark hq]
    cases (b.A == (q : Int)) <;> rfl

/-- What instructions do first with a register: 1 it is read, 2 it is set, 0 neither. -/
def wthI : List Ins → Int → Int
  | [], _ => 0
  | i :: l, q => bif (usesL i).contains q then 1 else (bif defL i == q then 2 else wthI l q)
theorem wthI_cons (i : Ins) (l : List Ins) (q : Int) : wthI (i :: l) q = (bif (usesL i).contains q then 1 else (bif defL i == q then 2 else wthI l q)) := rfl
def trL (l : List Ins) (o : List Bool) : List Bool := l.foldr (fun i l => befL l i) o
theorem tr_len (l : List Ins) (o : List Bool) : (trL l o).length = o.length := by
  induction l with
  | nil => rfl
  | cons i l ih => exact (bef_len _ _).trans ih
theorem bit_tr {o : List Bool} {q : Nat} (hq : q < o.length) (l : List Ins) : bit (trL l o) q = (wthI l q == 1 || (wthI l q == 0 && bit o q)) := by
  induction l with
  | nil => simp [trL, wthI]
  | cons i l ih =>
    show bit (befL (trL l o) i) q = _
    rw [bit_bef (by rw [tr_len]; exact hq), ih, wthI_cons]
    cases (usesL i).contains (q : Int)
    · cases (defL i == (q : Int)) <;> simp
    · simp

theorem join_t (a b : List Bool) (hl : a.length = b.length) (hm : b.length ≤ 9223372036854775807) : Tt (flow_join a b) (fun z => z.2.length = a.length ∧ (∀ q, q < a.length → bit z.2 q = (bit a q || bit b q)) ∧ (z.1 = true → ∃ q, q < a.length ∧ bit b q = true ∧ bit a q = false) ∧ (z.1 = false → z.2 = a)) := by
  unfold flow_join
  refine Tt.cnt b.length (by omega) (fun k t => t.2.2 = (k : Int) ∧ t.1.length = a.length ∧ (∀ q, q < a.length → bit t.1 q = (bit a q || (decide (q < k) && bit b q))) ∧ (t.2.1 = true → ∃ q, q < a.length ∧ bit b q = true ∧ bit a q = false) ∧ (t.2.1 = false → t.1 = a)) ?_ ?_ ?_
  · exact ⟨rfl, rfl, fun q _ => by simp, by nofun, fun _ => rfl⟩
  · rintro k hk ⟨x1, x2, x3⟩ ⟨h1, h2, h3, h4, h5⟩
    dsimp only at h1 h2 h3 h4 h5
    subst h1
    dsimp only
    refine Tt.bif (fun _ => ?_) (fun h => by simp at h; omega)
    have hw : IntKind.wrap .i64 ((k : Int) + 1) = ((k + 1 : Nat) : Int) := by rw [w64 (by omega)]; omega
    have hsame : bit b k = false ∨ bit x1 k = true → ∀ q, q < a.length → bit x1 q = (bit a q || (decide (q < k + 1) && bit b q)) := by
      intro hor q hq
      rw [h3 q hq]
      by_cases hqk : q = k
      · subst hqk
        rcases hor with h | h
        · rw [h]; simp
        · rw [h3 q hq] at h
          simp at h
          rw [h]; simp
      · have : decide (q < k + 1) = decide (q < k) := by congr 1; apply propext; omega
        rw [this]
    refine Tt.bnd (bit_at hk) ?_
    refine Tt.bif (fun hb => ?_) (fun hb => ?_)
    · refine Tt.bnd (bit_at (by omega)) ?_
      refine Tt.bif (fun hx => ?_) (fun hx => ?_)
      · have hx : bit x1 k = false := by simpa using hx
        refine Tt.bnd (bit_at (by omega)) (Tt.bnd (bit_at (by omega)) (Tt.som ⟨_, rfl, hw, by simp [h2], fun q hq => ?_, fun _ => ⟨k, by omega, hb, ?_⟩, by nofun⟩))
        · dsimp only
          rw [show (k : Int).toNat = k by omega, bit_set (by omega)]
          by_cases hqk : q = k
          · subst hqk
            rw [if_pos rfl, hb]
            simp
          · rw [if_neg hqk, h3 q hq]
            have : decide (q < k + 1) = decide (q < k) := by congr 1; apply propext; omega
            rw [this]
        · have := h3 k (by omega)
          rw [hx] at this
          simp at this
          exact this
      · exact Tt.som ⟨_, rfl, hw, h2, hsame (.inr (by simpa using hx)), h4, h5⟩
    · exact Tt.som ⟨_, rfl, hw, h2, hsame (.inl hb), h4, h5⟩
  · rintro ⟨x1, x2, x3⟩ ⟨h1, h2, h3, h4, h5⟩
    dsimp only at h1 h2 h3 h4 h5
    subst h1
    refine ⟨c0 (dge _), Tt.som ⟨h2, fun q hq => ?_, h4, h5⟩⟩
    dsimp only
    rw [h3 q hq]
    simp [show q < b.length by omega]

theorem outs_find (l : List Int) (p : Proc) (hl : l.length ≤ 2) (h : ∀ s ∈ l, InR p.Blocks.length s) : slices_IndexFunc l p = some (-1) := by
  unfold slices_IndexFunc
  refine run_bind (fun k => (k : Int)) l.length (.brk (l.length : Int)) rfl (by omega) (fun k hk => ?_) (c0 (dge _)) trivial rfl
  refine (c1 (dlt hk)).trans ?_
  have := h _ (List.getElem_mem hk)
  unfold InR at this
  rw [idx_get hk, Option.bind_some]
  unfold flow_outs_1
  rw [c0 (df (by omega)), Option.bind_some, c0 (df (by omega)), w64 (by omega)]
  rfl
theorem outs_eq (p : Proc) (n : Nat) (b : GBlock) (hb : p.Blocks[n]? = some b) (h : ∀ s ∈ outsL b, InR p.Blocks.length s) : flow_outs p n = some (outsL b) := by
  unfold flow_outs
  rw [idx_nat (by omega), show (n : Int).toNat = n by omega, hb, Option.bind_some, Outs_eq, Option.bind_some]
  unfold slices_DeleteFunc
  rw [outs_find _ p (outsL_len b) h]
  rfl
end Go.Proofs.YteoihjfnojgnnaaGreat
