/- Plain laws on the document's models: what instructions read and set, where blocks lead. No program is in sight here. -/
import Derived.Test.YteoihjfnojgnnaaGreatL24d
set_option linter.unusedVariables false
namespace Go.Proofs.YteoihjfnojgnnaaGreat

/-- The table of fields. -/
def FieldsP (op : Int) (y : List Bool) : Prop := (y = [] ∧ rdA op = false ∧ rdB op = false ∧ stD op = false ∧ (op == 9) = false) ∨ (y.length = 10 ∧ idx y 0 = some (stD op) ∧ idx y 1 = some (rdA op) ∧ idx y 2 = some (rdB op) ∧ idx y 8 = some (op == 9))
theorem fields_sp (op : Int) : ∃ y, ref13_fields op = some y ∧ FieldsP op y := by
  unfold ref13_fields
  by_cases h1 : op < 1
  · refine ⟨[], c1 (dt h1), .inl ⟨rfl, ?_, ?_, ?_, ?_⟩⟩ <;> simp [rdA, rdB, stD] <;> omega
  rw [c0 (df h1)]
  by_cases h2 : 12 < op
  · refine ⟨[], c1 (dt h2), .inl ⟨rfl, ?_, ?_, ?_, ?_⟩⟩ <;> simp [rdA, rdB, stD] <;> omega
  rw [c0 (df h2)]
  have h : op = 1 ∨ op = 2 ∨ op = 3 ∨ op = 4 ∨ op = 5 ∨ op = 6 ∨ op = 7 ∨ op = 8 ∨ op = 9 ∨ op = 10 ∨ op = 11 ∨ op = 12 := by omega
  rcases h with rfl | rfl | rfl | rfl | rfl | rfl | rfl | rfl | rfl | rfl | rfl | rfl <;> exact ⟨_, rfl, .inr ⟨rfl, rfl, rfl, rfl, rfl⟩⟩
theorem rDef_eq (i : Ins) : ref13_Def i = some (defL i) := by
  unfold ref13_Def defL
  obtain ⟨y, hy, h⟩ := fields_sp i.Op
  rw [hy, Option.bind_some]
  rcases h with ⟨rfl, h1, h2, h3, h4⟩ | ⟨hl, h0, h1, h2, h8⟩
  · rw [h3]; rfl
  · rw [c0 (by rw [hl]; rfl), h0, Option.bind_some]
    cases stD i.Op <;> rfl
theorem rUses_eq (i : Ins) (hA : i.Args.length ≤ 12) : ref13_Uses i = some (usesL i) := by
  unfold ref13_Uses
  obtain ⟨y, hy, h⟩ := fields_sp i.Op
  rw [hy, usesL_eq, Option.bind_some]
  rcases h with ⟨rfl, h1, h2, h3, h4⟩ | ⟨hl, h0, h1, h2, h8⟩
  · rw [h1, h2, h4]
    refine (jn_to (b := []) rfl).trans ((jn_to (b := []) rfl).trans ?_)
    refine run_bind (fun _ => (([] : List Int), (0 : Int))) 0 (.brk ([], 0)) rfl (by omega) (fun k hk => by omega) rfl trivial rfl
  · have hc : decide ((0 : Int) < (y.length : Int)) = true := by rw [hl]; rfl
    refine (jn_to (b := uA (rdA i.Op) i.A) ?_).trans ?_
    · refine (c1 hc).trans ?_
      rw [h1, Option.bind_some]
      unfold uA
      cases rdA i.Op
      · rfl
      · cases h : (i.A != (-1)) <;> rfl
    refine (jn_to (b := uA (rdA i.Op) i.A ++ uA (rdB i.Op) i.B) ?_).trans ?_
    · refine (c1 hc).trans ?_
      rw [h2, Option.bind_some]
      have h1 := uA_len (rdA i.Op) i.A
      generalize uA (rdA i.Op) i.A = x1 at h1
      unfold uA
      cases rdB i.Op
      · simp
      · cases h : (i.B != (-1))
        · simp
        · simp only [cond_true]
          rw [room_ok (by simp; omega)]
          rfl
    have h3 : (uA (rdA i.Op) i.A ++ uA (rdB i.Op) i.B).length ≤ 2 := by
      have h1 := uA_len (rdA i.Op) i.A
      have h2 := uA_len (rdB i.Op) i.B
      rw [List.length_append]
      omega
    generalize uA (rdA i.Op) i.A ++ uA (rdB i.Op) i.B = x2 at h3
    cases h : (i.Op == 9)
    · refine run_bind (fun _ => (x2, (0 : Int))) 0 (.brk (x2, 0)) rfl (by omega) (fun k hk => by omega) ?_ trivial (by simp [Lp.thn])
      refine (c1 hc).trans ?_
      rw [h8, h]
      rfl
    · refine args_loop hA h3 rfl (fun k hk y => ?_) (fun y => ?_)
      · refine (c1 hc).trans ?_
        rw [h8, h, Option.bind_some, cond_true]
        refine (c1 (dlt hk)).trans ?_
        rw [idx_get hk]
        rfl
      · refine (c1 hc).trans ?_
        rw [h8, h, Option.bind_some, cond_true]
        exact c0 (dge _)
theorem rOuts_eq (b : GBlock) : ref13_Outs b = some (outsL b) := by
  unfold ref13_Outs outsL
  cases h1 : (b.End == 1)
  · cases h2 : (b.End == 2)
    · rfl
    · have he : (b.Else != b.To) = !(b.To == b.Else) := by
        rw [bne, Bool.beq_comm]
      rw [he]
      cases h3 : (b.To == b.Else) <;> rfl
  · have h2 : (b.End == 2) = false := by
      have : b.End = 1 := by simpa using h1
      rw [this]; rfl
    rw [h2]
    rfl
theorem rOuts2_eq (p : Proc) (n : Nat) (b : GBlock) (hb : p.Blocks[n]? = some b) (h : ∀ s ∈ outsL b, InR p.Blocks.length s) : ref16_Outs p n = some (outsL b) := by
  unfold ref16_Outs
  rw [idx_nat (by omega), show (n : Int).toNat = n by omega, hb, Option.bind_some, rOuts_eq, Option.bind_some]
  have hl := outsL_len b
  generalize outsL b = l at hl h
  refine run_bind (fun k => (l.take k, (k : Int))) l.length (.brk (l, (l.length : Int))) rfl (by omega) (fun k hk => ?_) (by rw [List.take_length]; exact c0 (dge _)) trivial rfl
  refine (c1 (dlt hk)).trans ?_
  have := h _ (List.getElem_mem hk)
  unfold InR at this
  refine (jn_to (b := l.take (k + 1)) ?_).trans ?_
  · rw [idx_get hk, Option.bind_some, c1 (dt this.1), Option.bind_some, c1 (dt this.2), Option.bind_some, room_ok (by simp; omega), Option.bind_some, List.take_succ_eq_append_getElem hk]
  · rw [w64 (by omega)]; rfl
theorem has_eq (l : List Int) (q : Int) (hl : l.length ≤ 14) : ref16_has l q = some (l.contains q) := by
  unfold ref16_has
  refine find_bind l (fun x => x == q) (fun _ => true) (by omega) (fun k hk => ?_) (c0 (dge _)) ?_
  · refine (c1 (dlt hk)).trans ?_
    rw [idx_get hk, Option.bind_some]
    cases (l[k] == q) <;> rfl
  · cases h : l.findIdx? (fun x => x == q) with
    | none =>
      have hn := List.findIdx?_eq_none_iff.1 h
      have : l.contains q = false := by
        rw [Bool.eq_false_iff]
        intro hc
        have hm : q ∈ l := by simpa using hc
        have := hn q hm
        simp at this
      rw [this]; rfl
    | some k =>
      obtain ⟨hi, hp, _⟩ := List.findIdx?_eq_some_iff_getElem.1 h
      have : l.contains q = true := by
        have : l[k] = q := by simpa using hp
        have hm : q ∈ l := this ▸ List.getElem_mem hi
        simpa using hm
      rw [this]; rfl
def wthE (b : GBlock) (l : List Ins) (q : Int) : Int := bif wthI l q == 0 then (bif wE b q then 1 else 0) else wthI l q
theorem within_eq (b : GBlock) (hb : FewB b) (fr : Nat) (hfr : fr ≤ b.Ins.length) (q : Int) : ref16_within b fr q = some (wthE b (b.Ins.drop fr) q) := by
  obtain ⟨hb1, hb2⟩ := hb
  unfold ref16_within
  refine Tt.eq (Tt.whil (fun x => ∃ j : Nat, x = (j : Int) ∧ j ≤ b.Ins.length ∧ wthI (b.Ins.drop fr) q = wthI (b.Ins.drop j) q) (fun x => b.Ins.length - x.toNat) ⟨fr, rfl, hfr, rfl⟩ (NN_big (by omega)) ?_)
  rintro x ⟨j, rfl, hj, he⟩
  refine Tt.bif (fun h => ?_) (fun h => ?_)
  · have hlt : j < b.Ins.length := by simpa using h
    have hd : b.Ins.drop j = b.Ins[j] :: b.Ins.drop (j + 1) := List.drop_eq_getElem_cons hlt
    have hA := hb2 _ (List.getElem_mem hlt)
    rw [hd, wthI_cons] at he
    refine Tt.bnd (idx_get hlt) (Tt.bnd (rUses_eq _ hA) (Tt.bnd (has_eq _ _ (usesL_len _ hA)) ?_))
    refine Tt.bif (fun hu => ?_) (fun hu => ?_)
    · refine Tt.som (.inr (.inr ⟨_, rfl, Tt.som ?_⟩))
      unfold wthE
      rw [he, hu]
      rfl
    · refine Tt.bnd (idx_get hlt) (Tt.bnd (rDef_eq _) ?_)
      refine Tt.bif (fun hd => ?_) (fun hd => ?_)
      · refine Tt.som (.inr (.inr ⟨_, rfl, Tt.som ?_⟩))
        unfold wthE
        rw [he, hu, hd]
        rfl
      · rw [hu, hd] at he
        refine Tt.som (.inl ⟨_, rfl, ⟨j + 1, by rw [w64 (by omega)]; omega, by omega, he⟩, by rw [w64 (by omega)]; omega⟩)
  · have hjn : j = b.Ins.length := by simp at h; omega
    refine Tt.som (.inr (.inl ⟨_, rfl, ?_⟩))
    have h0 : wthI (b.Ins.drop fr) q = 0 := by rw [he, hjn, List.drop_length]; rfl
    unfold wthE wE
    rw [h0]
    show Tt (bif b.End == 2 then _ else _) _
    cases h2 : (b.End == 2)
    · cases h3 : (b.End == 3)
      · exact Tt.som rfl
      · cases ha : (b.A == q)
        · exact Tt.som rfl
        · exact Tt.som rfl
    · cases ha : (b.A == q)
      · exact Tt.som rfl
      · exact Tt.som rfl
end Go.Proofs.YteoihjfnojgnnaaGreat
