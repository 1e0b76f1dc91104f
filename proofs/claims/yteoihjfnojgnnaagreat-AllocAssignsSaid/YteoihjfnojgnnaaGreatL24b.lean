/- Plain laws on the models of modules that are right: what their instructions read and set. No program is in sight here. -/
import Derived.Test.YteoihjfnojgnnaaGreatL24a
set_option linter.unusedVariables false
namespace Go.Proofs.YteoihjfnojgnnaaGreat

def rdA (op : Int) : Bool := op == 3 || op == 6 || op == 2 || op == 4 || op == 5 || op == 10
def rdB (op : Int) : Bool := op == 3 || op == 6
def stD (op : Int) : Bool := op == 1 || op == 2 || op == 3 || op == 4 || op == 5 || op == 7 || op == 8 || op == 9 || op == 11
theorem Tt.jnB {A B : Type} {f : (B → Option A) → Option A} {k : B → Option A} {b : B} {Q : A → Prop} (hf : ∀ kk, f kk = kk b) (h : Tt (k b) Q) : Tt (jn f k) Q := by
  unfold jn
  rw [hf]
  exact h
/-- The registers that an instruction reads. -/
def usesL (i : Ins) : List Int := (bif rdA i.Op then (bif i.A != (-1) then [i.A] else []) else []) ++ (bif rdB i.Op then (bif i.B != (-1) then [i.B] else []) else []) ++ (bif i.Op == 9 then i.Args.filter (fun r => r != (-1)) else [])
/-- The register that it sets. -/
def defL (i : Ins) : Int := bif stD i.Op then i.D else (-1)
def outsL (b : GBlock) : List Int := bif b.End == 1 then [b.To] else (bif b.End == 2 then (bif b.To == b.Else then [b.To] else [b.To, b.Else]) else [])

theorem reads_eq (op : Int) : ir_reads op = some (rdA op, rdB op) := by
  unfold ir_reads jn rdA rdB
  dsimp only
  cases h3 : (op == 3)
  · cases h6 : (op == 6)
    · cases h2 : (op == 2)
      · cases h4 : (op == 4)
        · cases h5 : (op == 5)
          · cases h10 : (op == 10) <;> rfl
          · rfl
        · rfl
      · rfl
    · rfl
  · rfl
theorem Def_eq (i : Ins) : ir_Def i = some (defL i) := by
  unfold ir_Def jn defL stD
  dsimp only
  generalize i.Op = op
  cases h1 : (op == 1)
  · cases h2 : (op == 2)
    · cases h3 : (op == 3)
      · cases h4 : (op == 4)
        · cases h5 : (op == 5)
          · cases h7 : (op == 7)
            · cases h8 : (op == 8)
              · cases h9 : (op == 9)
                · cases h11 : (op == 11) <;> rfl
                · rfl
              · rfl
            · rfl
          · rfl
        · rfl
      · rfl
    · rfl
  · rfl
theorem Outs_eq (b : GBlock) : ir_Outs b = some (outsL b) := by
  unfold ir_Outs outsL
  cases h1 : (b.End == 1)
  · cases h2 : (b.End == 2)
    · rfl
    · cases h3 : (b.To == b.Else) <;> rfl
  · rfl
theorem reg_eq (l : IrLooker) (r : Int) (s : Bool) : ir_looker_reg l r s = some (bif s then (decide (0 ≤ r) && decide (r < l.p.Regs)) else (r == -1)) := by
  unfold ir_looker_reg
  cases s
  · rfl
  · cases h : decide (0 ≤ r) <;> rfl
theorem block_eq (l : IrLooker) (r : Int) : ir_looker_block l r = some (decide (0 ≤ r) && decide (r < (l.p.Blocks.length : Int))) := by
  unfold ir_looker_block
  cases h : decide (0 ≤ r) <;> rfl
theorem off_t (n : Int) : Tt (ir_off n) (fun _ => True) := by
  unfold ir_off
  exact Tt.bif (fun _ => Tt.som trivial) fun _ => Tt.som trivial
theorem plain_t (i : Ins) : Tt (ir_plain i) (fun _ => True) := by
  unfold ir_plain
  simp only [jn, Def_eq]
  repeat' first
    | exact Tt.som trivial
    | refine Tt.bif (fun _ => ?_) (fun _ => ?_)
    | refine Tt.bnd rfl ?_
theorem bare_t (i : Ins) : Tt (ir_bare i) (fun _ => True) := by
  unfold ir_bare
  refine Tt.bind (plain_t i) fun y _ => ?_
  repeat' first
    | exact Tt.som trivial
    | refine Tt.bif (fun _ => ?_) (fun _ => ?_)

def InR (R x : Int) : Prop := 0 ≤ x ∧ x < R
def InsP (R : Int) (i : Ins) : Prop := (∀ u ∈ usesL i, InR R u) ∧ (defL i = -1 ∨ InR R (defL i))
theorem regT {R r : Int} (h : (decide (0 ≤ r) && decide (r < R)) = true) : InR R r := by
  simp only [Bool.and_eq_true, decide_eq_true_eq] at h
  exact h
theorem call_t (l : IrLooker) (i : Ins) (hA : i.Args.length ≤ 12) : Tt (ir_looker_call l i) (fun b => b = true → (∀ u ∈ i.Args, InR l.p.Regs u) ∧ (i.D = -1 ∨ InR l.p.Regs i.D)) := by
  unfold ir_looker_call
  refine Tt.bif (fun _ => Tt.som (by nofun)) fun h1 => ?_
  refine Tt.bif (fun _ => Tt.som (by nofun)) fun h2 => ?_
  have h1 := of_decide_eq_false h1
  have h2 := of_decide_eq_false h2
  refine Tt.bind (Tt.idx (by omega) (by omega)) fun p _ => ?_
  refine Tt.bif (fun _ => Tt.som (by nofun)) fun h3 => ?_
  rw [reg_eq]
  refine Tt.bnd rfl ?_
  refine Tt.bif (fun _ => Tt.som (by nofun)) fun h4 => ?_
  have hD : i.D = -1 ∨ InR l.p.Regs i.D := by
    have h4 : (bif (!p.Void) then (decide (0 ≤ i.D) && decide (i.D < l.p.Regs)) else (i.D == -1)) = true := by simpa using h4
    cases hv : p.Void with
    | true => rw [hv] at h4; exact .inl (by simpa using h4)
    | false => rw [hv] at h4; exact .inr (regT h4)
  refine Tt.loop (n := i.Args.length) (by omega) (fun k => ∀ u, i.Args[k]? = some u → InR l.p.Regs u) (fun k hk => ?_) (c0 (by simp)) (fun hP => ?_)
  · refine Tt.bif (fun _ => ?_) (fun h => by simp at h; omega)
    refine Tt.bnd (idx_get hk) ?_
    rw [reg_eq]
    refine Tt.bnd rfl ?_
    refine Tt.bif (fun _ => Tt.som (.inr ⟨_, rfl, Tt.som (by nofun)⟩)) fun h => Tt.som (.inl ⟨rfl, fun u hu => ?_⟩)
    rw [List.getElem?_eq_getElem hk] at hu
    cases hu
    exact regT (by simpa using h)
  · refine Tt.som fun _ => ⟨fun u hu => ?_, hD⟩
    obtain ⟨k, hk, he⟩ := mem_at hu
    exact hP k hk u he
theorem ins_t (l : IrLooker) (i : Ins) (hA : i.Args.length ≤ 12) : Tt (ir_looker_ins l i) (fun b => b = true → InsP l.p.Regs i) := by
  unfold ir_looker_ins
  rw [reads_eq]
  refine Tt.bnd rfl ?_
  have hj : ∀ (kk : Bool → Option Bool), (bif i.Op != 6 then (bif i.Op != 10 then (kk (i.Op != 12)) else (kk false)) else (kk false)) = kk (i.Op != 6 && i.Op != 10 && i.Op != 12) := by
    intro kk
    cases h6 : (i.Op != 6)
    · rfl
    · cases h10 : (i.Op != 10) <;> rfl
  refine Tt.jnB hj ?_
  refine Tt.bif (fun _ => Tt.som (by nofun)) fun h1 => ?_
  refine Tt.bif (fun _ => Tt.som (by nofun)) fun h2 => ?_
  have h1 := of_decide_eq_false h1
  have h2 := of_decide_eq_false h2
  refine Tt.bind (bare_t i) fun _ _ => ?_
  refine Tt.bif (fun _ => Tt.som (by nofun)) fun _ => ?_
  refine Tt.bif (fun h9 => ?_) (fun h9 => ?_)
  · have h9 : i.Op = 9 := by simpa using h9
    refine Tt.bind (call_t l i hA) fun y hy => ?_
    refine Tt.bif (fun h => ?_) fun _ => Tt.som (by nofun)
    obtain ⟨hu, hd⟩ := hy h
    rw [reg_eq]
    refine Tt.bnd rfl ?_
    refine Tt.bif (fun _ => ?_) fun _ => Tt.som (by nofun)
    rw [reg_eq]
    refine Tt.bnd rfl (Tt.som fun _ => ⟨fun u h => ?_, ?_⟩)
    · unfold usesL at h
      rw [h9] at h
      simp only [show rdA 9 = false from rfl, show rdB 9 = false from rfl, cond_false, List.nil_append, beq_self_eq_true, cond_true, List.mem_filter] at h
      exact hu u h.1
    · unfold defL
      rw [h9]
      exact hd
  · rw [reg_eq]
    refine Tt.bnd rfl ?_
    refine Tt.bif (fun _ => Tt.som (by nofun)) fun hd => ?_
    rw [reg_eq]
    refine Tt.bnd rfl ?_
    refine Tt.bif (fun _ => Tt.som (by nofun)) fun ha => ?_
    rw [reg_eq]
    refine Tt.bnd rfl ?_
    refine Tt.bif (fun _ => Tt.som (by nofun)) fun hb => ?_
    have hP : InsP l.p.Regs i := by
      refine ⟨fun u h => ?_, ?_⟩
      · unfold usesL at h
        rw [h9] at h
        simp only [cond_false, List.append_nil, List.mem_append] at h
        rcases h with h | h
        · cases hr : rdA i.Op with
          | false => rw [hr] at h; cases h
          | true =>
            rw [hr] at h ha
            simp only [cond_true] at h
            cases hn : (i.A != -1) with
            | false => rw [hn] at h; cases h
            | true => rw [hn] at h; simp only [cond_true, List.mem_singleton] at h; subst h; exact regT (by simpa using ha)
        · cases hr : rdB i.Op with
          | false => rw [hr] at h; cases h
          | true =>
            rw [hr] at h hb
            simp only [cond_true] at h
            cases hn : (i.B != -1) with
            | false => rw [hn] at h; cases h
            | true => rw [hn] at h; simp only [cond_true, List.mem_singleton] at h; subst h; exact regT (by simpa using hb)
      · unfold defL
        cases hs : stD i.Op with
        | false => exact .inl rfl
        | true =>
          have : (i.Op != 6 && i.Op != 10 && i.Op != 12) = true := by
            unfold stD at hs
            simp only [Bool.or_eq_true, beq_iff_eq] at hs
            simp only [Bool.and_eq_true, bne_iff_ne, ne_eq]
            omega
          rw [this] at hd
          exact .inr (regT (by simpa using hd))
    have hj2 : ∀ (kk : Bool → Option Bool), (bif i.Op == 5 then (kk (i.Op == 5)) else (kk (i.Op == 6))) = kk (i.Op == 5 || i.Op == 6) := by
      intro kk
      cases h6 : (i.Op == 5) <;> rfl
    repeat' first
      | exact Tt.som fun _ => hP
      | refine Tt.bind (off_t _) fun _ _ => ?_
      | refine Tt.bif (fun _ => ?_) (fun _ => ?_)
      | refine Tt.jnB hj2 ?_
theorem end_t (l : IrLooker) (b : GBlock) : Tt (ir_looker_end l b) (fun t => t = true → ∀ s ∈ outsL b, InR l.p.Blocks.length s) := by
  unfold ir_looker_end
  refine Tt.bif (fun h => ?_) (fun h1 => ?_)
  · rw [block_eq]
    refine Tt.bnd rfl (Tt.bif (fun hb => ?_) fun _ => Tt.som (by nofun))
    refine Tt.bif (fun _ => Tt.som fun _ s hs => ?_) fun _ => Tt.som (by nofun)
    unfold outsL at hs
    rw [h, cond_true, List.mem_singleton] at hs
    subst hs
    exact regT hb
  · refine Tt.bif (fun h => ?_) (fun h2 => ?_)
    · rw [block_eq, block_eq]
      refine Tt.bnd rfl (Tt.bif (fun ht => ?_) fun _ => Tt.som (by nofun))
      refine Tt.bnd rfl (Tt.bif (fun he => ?_) fun _ => Tt.som (by nofun))
      rw [reg_eq]
      refine Tt.bnd rfl (Tt.som fun _ s hs => ?_)
      unfold outsL at hs
      rw [h1, cond_false, h, cond_true] at hs
      have : s = b.To ∨ s = b.Else := by
        cases hq : (b.To == b.Else) <;> rw [hq] at hs <;> simp at hs
        · exact hs
        · exact .inl hs
      rcases this with rfl | rfl
      · exact regT ht
      · exact regT he
    · have ho : outsL b = [] := by unfold outsL; rw [h1, h2]; rfl
      refine Tt.mono (Q := fun _ => True) ?_ fun _ _ _ s hs => by rw [ho] at hs; cases hs
      rw [reg_eq]
      repeat' first
        | exact Tt.som trivial
        | refine Tt.bif (fun _ => ?_) (fun _ => ?_)
        | refine Tt.bnd rfl ?_
theorem slots_t (l : List GSlot) (h : l.length ≤ 20) : Tt (ir_slots l) (fun _ => True) := by
  unfold ir_slots
  refine Tt.loop (n := l.length) (by omega) (fun _ => True) (fun k hk => ?_) (c0 (by simp)) (fun hP => Tt.som trivial)
  refine Tt.bif (fun _ => ?_) (fun h => by simp at h; omega)
  refine Tt.bnd (idx_get hk) ?_
  repeat' first
    | exact Tt.som (.inl ⟨rfl, trivial⟩)
    | exact Tt.som (.inr ⟨_, rfl, Tt.som trivial⟩)
    | refine Tt.bif (fun _ => ?_) (fun _ => ?_)
theorem Size_t (p : Proc) (h : p.Blocks.length ≤ 40) : Tt (ir_Size p) (fun _ => True) := by
  unfold ir_Size
  refine ⟨_, itr_bind (S := Int) p.Blocks.length (fun k s => IntKind.wrap .i64 (s + ((p.Blocks.getD k ⟨[], 0, 0, 0, 0⟩).Ins.length : Int))) (fun s k => (s, k)) (p.Blocks.length : Int) (fun _ _ => True) rfl trivial (by omega) (fun k hk s _ => ⟨?_, trivial⟩) (fun s _ => c0 (by simp)) fun _ => rfl, trivial⟩
  refine (c1 (dlt hk)).trans ?_
  rw [idx_get hk]
  simp [List.getD, List.getElem?_eq_getElem hk]

def PrcP (p : Proc) : Prop := 0 ≤ p.Params ∧ p.Params ≤ p.Regs ∧ ∀ b ∈ p.Blocks, (∀ i ∈ b.Ins, InsP p.Regs i) ∧ ∀ s ∈ outsL b, InR p.Blocks.length s
def PrcQ (p : Proc) : Prop := PrcP p ∧ 1 ≤ p.Blocks.length
theorem proc_t (l : IrLooker) (hf : FewQ l.p) : Tt (ir_looker_proc l) (fun b => b = true → PrcQ l.p) := by
  obtain ⟨f1, f2, f3⟩ := hf
  unfold ir_looker_proc
  refine Tt.bif (fun _ => Tt.som (by nofun)) fun h1 => ?_
  refine Tt.bif (fun _ => Tt.som (by nofun)) fun _ => ?_
  refine Tt.bif (fun _ => Tt.som (by nofun)) fun h2 => ?_
  refine Tt.bif (fun _ => Tt.som (by nofun)) fun _ => ?_
  refine Tt.bif (fun _ => Tt.som (by nofun)) fun _ => ?_
  refine Tt.bif (fun _ => Tt.som (by nofun)) fun h3 => ?_
  have h3 := of_decide_eq_false h3
  refine Tt.bif (fun _ => Tt.som (by nofun)) fun _ => ?_
  have h1 := of_decide_eq_false h1
  have h2 := of_decide_eq_false h2
  refine Tt.bind (slots_t _ f2) fun _ _ => ?_
  refine Tt.bif (fun _ => Tt.som (by nofun)) fun _ => ?_
  refine Tt.bind (Size_t _ f1) fun _ _ => ?_
  refine Tt.bif (fun _ => Tt.som (by nofun)) fun _ => ?_
  refine Tt.loop (n := l.p.Blocks.length) (by omega) (fun k => ∀ b, l.p.Blocks[k]? = some b → (∀ i ∈ b.Ins, InsP l.p.Regs i) ∧ ∀ s ∈ outsL b, InR l.p.Blocks.length s) (fun k hk => ?_) (c0 (by simp)) (fun hP => ?_)
  · refine Tt.bif (fun _ => ?_) (fun h => by simp at h; omega)
    have hbm : l.p.Blocks[k] ∈ l.p.Blocks := List.getElem_mem hk
    have he : l.p.Blocks[k]? = some l.p.Blocks[k] := List.getElem?_eq_getElem hk
    refine Tt.bnd (idx_get hk) ?_
    generalize l.p.Blocks[k] = b at hbm he
    obtain ⟨g1, g2⟩ := f3 b hbm
    refine Tt.loop (n := b.Ins.length) (by omega) (fun k => ∀ i, b.Ins[k]? = some i → InsP l.p.Regs i) (fun j hj => ?_) (c0 (by simp)) (fun hI => ?_)
    · refine Tt.bif (fun _ => ?_) (fun h => by simp at h; omega)
      refine Tt.bnd (idx_get hj) ?_
      refine Tt.bind (ins_t l _ (g2 _ (List.getElem_mem hj))) fun y hy => ?_
      refine Tt.bif (fun _ => Tt.som (.inr ⟨_, rfl, Tt.som (.inr ⟨_, rfl, Tt.som (by nofun)⟩)⟩)) fun h => Tt.som (.inl ⟨rfl, fun i hi => ?_⟩)
      rw [List.getElem?_eq_getElem hj] at hi
      cases hi
      exact hy (by simpa using h)
    · refine Tt.bind (end_t l b) fun y hy => ?_
      refine Tt.bif (fun _ => Tt.som (.inr ⟨_, rfl, Tt.som (by nofun)⟩)) fun h => Tt.som (.inl ⟨rfl, fun b' hb' => ?_⟩)
      rw [he] at hb'
      cases hb'
      refine ⟨fun i hi => ?_, hy (by simpa using h)⟩
      obtain ⟨j, hj, hij⟩ := mem_at hi
      exact hI j hj i hij
  · refine Tt.som fun _ => ⟨⟨by omega, by omega, fun b hb => ?_⟩, by omega⟩
    obtain ⟨k, hk, he⟩ := mem_at hb
    exact hP k hk b he
theorem Check_t (m : GModule) (hf : FewP m) : Tt (ir_Check m) (fun e => e = 0 → ∀ p ∈ m.Procs, PrcQ p) := by
  obtain ⟨f1, f2, f3, f4⟩ := hf
  unfold ir_Check
  refine Tt.bif (fun _ => Tt.som (by nofun)) fun h1 => ?_
  have h1 : m.Data.length = m.Globals.length := by
    simp only [bne_eq_false_iff_eq] at h1
    omega
  refine Tt.bif (fun _ => Tt.som (by nofun)) fun _ => ?_
  refine Tt.bind (slots_t _ f2) fun _ _ => ?_
  refine Tt.bif (fun _ => Tt.som (by nofun)) fun _ => ?_
  refine Tt.bif (fun _ => Tt.som (by nofun)) fun _ => ?_
  refine Tt.bif (fun _ => Tt.som (by nofun)) fun _ => ?_
  refine Tt.bif (fun _ => Tt.som (by nofun)) fun h2 => ?_
  refine Tt.bif (fun _ => Tt.som (by nofun)) fun h3 => ?_
  have h2 := of_decide_eq_false h2
  have h3 := of_decide_eq_false h3
  refine Tt.loop (n := m.Data.length) (by omega) (fun k => True) (fun k hk => ?_) (c0 (by simp)) (fun hP => ?_)
  · refine Tt.bif (fun _ => ?_) (fun h => by simp at h; omega)
    refine Tt.bnd (idx_get hk) ?_
    refine Tt.bnd (idx_get (by omega)) ?_
    exact Tt.bif (fun _ => Tt.som (.inr ⟨_, rfl, Tt.som (by nofun)⟩)) fun h => Tt.som (.inl ⟨rfl, trivial⟩)
  · refine Tt.bind (Tt.idx (by omega) (by omega)) fun p _ => ?_
    refine Tt.bif (fun _ => Tt.som (by nofun)) fun _ => ?_
    refine Tt.bif (fun _ => Tt.som (by nofun)) fun _ => ?_
    refine Tt.loop (n := m.Procs.length) (by omega) (fun k => ∀ p, m.Procs[k]? = some p → PrcQ p) (fun k hk => ?_) (c0 (by simp)) (fun hP => ?_)
    · refine Tt.bif (fun _ => ?_) (fun h => by simp at h; omega)
      have hp : Tt (ir_Proc m (k : Int)) (fun e => e = 0 → PrcQ m.Procs[k]) := by
        unfold ir_Proc
        refine Tt.bif (fun _ => Tt.som (by nofun)) fun _ => ?_
        refine Tt.bif (fun _ => Tt.som (by nofun)) fun _ => ?_
        refine Tt.bnd (idx_get hk) ?_
        refine Tt.bind (proc_t ⟨m, m.Procs[k]⟩ (f4 _ (List.getElem_mem hk))) fun y hy => ?_
        exact Tt.bif (fun _ => Tt.som (by nofun)) fun h => Tt.som fun _ => hy (by simpa using h)
      refine Tt.bind hp fun y hy => ?_
      refine Tt.bif (fun _ => Tt.som (.inr ⟨_, rfl, Tt.som (by nofun)⟩)) fun h => Tt.som (.inl ⟨rfl, fun p hp => ?_⟩)
      rw [List.getElem?_eq_getElem hk] at hp
      cases hp
      exact hy (by simpa using h)
    · refine Tt.som fun _ p hp => ?_
      obtain ⟨k, hk, he⟩ := mem_at hp
      exact hP k hk p he
/-- A procedure that is right, and of few blocks. -/
structure Rgt (p : Proc) : Prop where
  few : FewQ p
  prc : PrcP p
  regs : p.Regs ≤ 40
  blk : p.Blocks.length ≤ 12
  one : 1 ≤ p.Blocks.length
theorem few_right (m : GModule) (n : Int) (hw : WfM m) : Tt (law24_few m n) (fun b => b = true → ∃ p, idx m.Procs n = some p ∧ Rgt p) := by
  unfold law24_few
  have hr : Tt (law17_Right m n) (fun b => b = true → ∃ p, idx m.Procs n = some p ∧ FewQ p ∧ PrcQ p ∧ p.Regs ≤ 40) := by
    unfold law17_Right
    refine Tt.bind (few_t m hw) fun b hb => ?_
    refine Tt.bif (fun h => ?_) fun _ => Tt.som (by nofun)
    have hf := hb h
    refine Tt.bif (fun h0 => ?_) fun _ => Tt.som (by nofun)
    refine Tt.bif (fun h1 => ?_) fun _ => Tt.som (by nofun)
    have h0 := of_decide_eq_true h0
    have h1 := of_decide_eq_true h1
    have hlt : n.toNat < m.Procs.length := by omega
    have hi : idx m.Procs n = some m.Procs[n.toNat] := by rw [idx_nat h0]; exact List.getElem?_eq_getElem hlt
    refine Tt.bnd hi ?_
    refine Tt.bif (fun h2 => ?_) fun _ => Tt.som (by nofun)
    refine Tt.bind (Check_t m hf) fun e he => Tt.som fun hz => ?_
    have hz : e = 0 := by simpa using hz
    exact ⟨_, hi, hf.p _ (List.getElem_mem hlt), he hz _ (List.getElem_mem hlt), of_decide_eq_true h2⟩
  refine Tt.bind hr fun b hb => ?_
  refine Tt.bif (fun h => ?_) fun _ => Tt.som (by nofun)
  obtain ⟨p, hp, hf, hq, hg⟩ := hb h
  refine Tt.bnd hp (Tt.som fun h => ⟨p, hp, hf, hq.1, hg, ?_, hq.2⟩)
  have := of_decide_eq_true h
  omega
end Go.Proofs.YteoihjfnojgnnaaGreat
