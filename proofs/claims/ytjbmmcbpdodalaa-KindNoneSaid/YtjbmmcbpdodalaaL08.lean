/- Plain laws of layer 8 (kind): what the models of its functions compute. No program is in sight here. -/
import Derived.Test.YtjbmmcbpdodalaaM
import Derived.Test.YtjbmmcbpdodalaaLoop
set_option linter.unusedVariables false
namespace Go.Proofs.Ytjbmmcbpdodalaa

theorem idx_map {α β : Type} (f : α → β) (l : List α) (i : Int) : idx (l.map f) i = (idx l i).map f := by
  unfold idx; split <;> simp
theorem idx_isSome {α : Type} (l : List α) (i : Int) : (idx l i).isSome = (decide (0 ≤ i) && decide (i < (l.length : Int))) := by
  unfold idx
  split
  · rename_i h
    rw [Bool.eq_iff_iff]; simp [h]
  · rename_i h; simp [h]

def conv (x : KindKnown) : ref08Type := ⟨x.Type_.Kind, x.Type_.Elem, x.Type_.Len, x.Type_.Name, x.Type_.Fields, x.open_⟩
def upI (n a : Int) : Int := (n + a - 1) / a * a
def SZ (l : List KindKnown) (i : Int) : Int := match idx l i with | some x => x.size | none => 0
def AL (l : List KindKnown) (i : Int) : Int := match idx l i with | some x => x.align | none => 0
def endF (l : List KindKnown) (e : Int) (fs : List GField) : Int := fs.foldl (fun e f => upI e (AL l f.Type_) + SZ l f.Type_) e
def alF (l : List KindKnown) (fs : List GField) : Int := fs.foldl (fun a f => max a (AL l f.Type_)) 1
def ats (l : List KindKnown) : Int → List GField → List GField
  | _, [] => []
  | e, f :: fs => { f with At := upI e (AL l f.Type_) } :: ats l (upI e (AL l f.Type_) + SZ l f.Type_) fs

/-- Size and alignment go together. -/
def Ok (M : Int) (x : KindKnown) : Prop := (x.size = 0 ∧ x.align = 0) ∨ (0 < x.size ∧ x.size ≤ M ∧ (x.align = 1 ∨ x.align = 4) ∧ x.align ∣ x.size)
/-- There is such a type, whole, made before. -/
def Full (l : List KindKnown) (rk : Nat → Nat) (r : Nat) (i : Int) : Prop := ∃ y, idx l i = some y ∧ 0 < y.size ∧ y.size ≤ 32768 ∧ rk i.toNat < r

inductive Ent (M : Int) (l : List KindKnown) (rk : Nat → Nat) (i : Nat) (x : KindKnown) : Prop
  | void (hk : x.Type_.Kind = 0) (hs : x.size = 0) (ha : x.align = 0) (ho : x.open_ = false) (hf : x.Type_.Fields = [])
  | word (hk : x.Type_.Kind = 1 ∨ x.Type_.Kind = 3) (hs : x.size = 4) (ha : x.align = 4) (ho : x.open_ = false) (hf : x.Type_.Fields = [])
  | char (hk : x.Type_.Kind = 2) (hs : x.size = 1) (ha : x.align = 1) (ho : x.open_ = false) (hf : x.Type_.Fields = [])
  | arr (hk : x.Type_.Kind = 4) (hE : Full l rk (rk i) x.Type_.Elem) (hs : x.size = x.Type_.Len * SZ l x.Type_.Elem) (ha : x.align = AL l x.Type_.Elem) (hL : 1 ≤ x.Type_.Len) (hm : x.size ≤ 32768) (ho : x.open_ = false) (hf : x.Type_.Fields = [])
  | opn (hk : x.Type_.Kind = 5) (hs : x.size = 0) (ha : x.align = 0) (ho : x.open_ = true) (hf : x.Type_.Fields = []) (hz : x.Type_.Elem = 0 ∧ x.Type_.Len = 0)
  | str (hk : x.Type_.Kind = 5) (hF : ∀ f ∈ x.Type_.Fields, Full l rk (rk i) f.Type_) (hn : (x.Type_.Fields.map (·.Name)).Nodup) (hne : x.Type_.Fields ≠ []) (hl : x.Type_.Fields.length ≤ 12) (hat : ats l 0 x.Type_.Fields = x.Type_.Fields)
      (hs : x.size = upI (endF l 0 x.Type_.Fields) (alF l x.Type_.Fields)) (ha : x.align = alF l x.Type_.Fields) (hm : x.size ≤ M) (ho : x.open_ = false)

structure Inv (M : Int) (l : List KindKnown) (rk : Nat → Nat) (m : Nat) : Prop where
  lo : 3 ≤ l.length
  hi : l.length ≤ 400
  rkm : ∀ i, rk i < m
  ent : ∀ i x, l[i]? = some x → Ent M l rk i x ∧ Ok M x

theorem Inv.at {M : Int} {l : List KindKnown} {rk : Nat → Nat} {m : Nat} (h : Inv M l rk m) {i : Int} {x : KindKnown} (hx : idx l i = some x) : Ent M l rk i.toNat x ∧ Ok M x := h.ent _ _ (idx_some hx).2.2
theorem Inv.full {M : Int} {l : List KindKnown} {rk : Nat → Nat} {m : Nat} (h : Inv M l rk m) {r : Nat} {i : Int} (hf : Full l rk r i) : 0 < SZ l i ∧ SZ l i ≤ 32768 ∧ (AL l i = 1 ∨ AL l i = 4) ∧ AL l i ∣ SZ l i := by
  obtain ⟨y, hy, h0, h2, _⟩ := hf
  unfold SZ AL
  rw [hy]
  rcases (h.at hy).2 with h1 | h1
  · omega
  · exact ⟨h0, h2, h1.2.2⟩

/-! ## Rounding up -/
theorem up1 (n : Int) : upI n 1 = n := by unfold upI; omega
theorem up4 (n : Int) : n ≤ upI n 4 ∧ upI n 4 < n + 4 ∧ upI n 4 % 4 = 0 := by unfold upI; omega
theorem up_le {n a : Int} (ha : a = 1 ∨ a = 4) : n ≤ upI n a ∧ upI n a < n + 4 ∧ a ∣ upI n a := by
  rcases ha with rfl | rfl
  · rw [up1]; exact ⟨by omega, by omega, Int.one_dvd _⟩
  · have := up4 n; exact ⟨this.1, this.2.1, Int.dvd_of_emod_eq_zero this.2.2⟩
theorem kind_up_eq {n a : Int} (ha : a = 1 ∨ a = 4) (hn : 0 ≤ n ∧ n < 4611686018427387904) : kind_up n a = some (upI n a) := by
  have h1 : a ≠ 0 := by omega
  unfold kind_up
  rw [show nz a = some () by unfold nz; rw [if_neg h1], Option.bind_some, w64 (x := n + a) (by omega), w64 (x := n + a - 1) (by omega), Int.tdiv_eq_ediv_of_nonneg (by omega)]
  have := up_le (n := n) ha
  have h3 : 0 ≤ (n + a - 1) / a ∧ (n + a - 1) / a < 9223372036854775808 := by
    rcases ha with rfl | rfl <;> omega
  unfold upI at *
  rw [w64 (x := (n + a - 1) / a) (by omega), w64 (by omega)]
theorem next_eq {n a : Int} (ha : a = 1 ∨ a = 4) (hn : 0 ≤ n ∧ n < 4611686018427387904) : ref08_next n a = some (upI n a) := by
  have h1 : a ≠ 0 := by omega
  have hz : nz a = some () := by unfold nz; rw [if_neg h1]
  have hu := up_le (n := n) ha
  unfold ref08_next
  refine run_bind (fun k => n + (k : Int)) (upI n a - n).toNat (.brk (upI n a)) (by simp) (by omega) (fun k hk => ?_) ?_ trivial rfl
  · rw [hz, Option.bind_some, w64 (by omega)]
    have hm : Int.tmod (n + (k : Int)) a ≠ 0 := by
      rw [Int.tmod_eq_emod_of_nonneg (by omega)]
      rcases ha with rfl | rfl
      · rw [up1] at hk; omega
      · have := up4 n; omega
    rw [c1 (by simpa using hm)]
    congr 2
    omega
  · have hm : Int.tmod (upI n a) a = 0 := by
      rw [Int.tmod_eq_emod_of_nonneg (by omega)]
      exact Int.emod_eq_zero_of_dvd hu.2.2
    rw [show n + ((upI n a - n).toNat : Int) = upI n a by omega, hz, Option.bind_some, c0 (by simp [hm])]

/-! ## The references' sizes and alignments -/
theorem Is_eq (r : List ref08Type) (i : Int) : ref08_Is r i = some (idx r i).isSome := by
  rw [idx_isSome]; unfold ref08_Is
  cases decide (0 ≤ i) <;> rfl
theorem has_eq (l : List KindKnown) (i : Int) : kind_Table_has ⟨l⟩ i = some (idx l i).isSome := by
  rw [idx_isSome]; unfold kind_Table_has
  cases decide (0 ≤ i) <;> rfl
theorem alF_snoc (l : List KindKnown) (fs : List GField) (k : Nat) (h : k < fs.length) : alF l (fs.take (k + 1)) = max (alF l (fs.take k)) (AL l fs[k].Type_) := by
  unfold alF
  rw [List.take_succ_eq_append_getElem h, List.foldl_append]; rfl
theorem endF_snoc (l : List KindKnown) (e : Int) (fs : List GField) (k : Nat) (h : k < fs.length) : endF l e (fs.take (k + 1)) = upI (endF l e (fs.take k)) (AL l fs[k].Type_) + SZ l fs[k].Type_ := by
  unfold endF
  rw [List.take_succ_eq_append_getElem h, List.foldl_append]; rfl
theorem alF_ok (l : List KindKnown) (fs : List GField) (h : ∀ f ∈ fs, AL l f.Type_ = 1 ∨ AL l f.Type_ = 4) : ∀ k, k ≤ fs.length → alF l (fs.take k) = 1 ∨ alF l (fs.take k) = 4 := by
  intro k
  induction k with
  | zero => intro _; left; rfl
  | succ k ih =>
    intro hk
    rw [alF_snoc l fs k (by omega)]
    have h1 := ih (by omega)
    have h2 := h _ (List.getElem_mem (show k < fs.length by omega))
    omega
theorem endF_ok (l : List KindKnown) (fs : List GField) (h : ∀ f ∈ fs, (AL l f.Type_ = 1 ∨ AL l f.Type_ = 4) ∧ 0 ≤ SZ l f.Type_ ∧ SZ l f.Type_ ≤ 32768) : ∀ k, k ≤ fs.length → 0 ≤ endF l 0 (fs.take k) ∧ endF l 0 (fs.take k) ≤ k * 32772 := by
  intro k
  induction k with
  | zero => intro _; simp [endF]
  | succ k ih =>
    intro hk
    rw [endF_snoc l 0 fs k (by omega)]
    have h1 := ih (by omega)
    have h2 := h _ (List.getElem_mem (show k < fs.length by omega))
    have h3 := up_le (n := endF l 0 (fs.take k)) h2.1
    omega

theorem Align_eq {M : Int} {l : List KindKnown} {rk : Nat → Nat} {m : Nat} (h : Inv M l rk m) : ∀ F i, (∀ x, idx l i = some x → rk i.toNat < F) → 0 < F → (rec1 F).ref08_Align (l.map conv) i = some (AL l i) := by
  intro F
  induction F with
  | zero => intro i _ h; omega
  | succ F ih =>
    intro i hi _
    show ref08_Align_b (rec1 F) (l.map conv) i = _
    unfold ref08_Align_b AL
    rw [Is_eq]
    cases hx : idx l i with
    | none => simp [idx_map, hx]
    | some x =>
      have hr := hi x hx
      have hxx : idx (l.map conv) i = some (conv x) := by rw [idx_map, hx]; rfl
      have hsub : ∀ {j}, Full l rk (rk i.toNat) j → (rec1 F).ref08_Align (l.map conv) j = some (AL l j) := fun {j} hj => by
        obtain ⟨y, hy, _, _, hlt⟩ := hj
        exact ih j (fun _ _ => by omega) (by omega)
      simp only [hxx, Option.bind_some, Option.isSome_some, Bool.not_true, cond_false]
      rcases (h.at hx).1 with ⟨hk, hs, ha, ho, hf⟩ | ⟨hk, hs, ha, ho, hf⟩ | ⟨hk, hs, ha, ho, hf⟩ | ⟨hk, hE, hs, ha, hL, hm, ho, hf⟩ | ⟨hk, hs, ha, ho, hf, hz⟩ | ⟨hk, hF, hn, hne, hl, hat, hs, ha, hm, ho⟩
      · simp [conv, hk, ha]
      · rcases hk with hk | hk <;> simp [conv, hk, ho, ha]
      · simp [conv, hk, ho, ha]
      · simp [conv, hk, ho, ha, hsub hE]
      · simp [conv, hk, ho, ha]
      · simp only [conv, hk, ho, cond_false, show ((5 : Int) == 0) = false from rfl, show ((5 : Int) == 2) = false from rfl, show ((5 : Int) == 4) = false from rfl, show ((5 : Int) == 5) = true from rfl, cond_true]
        refine run_bind (fun k => (alF l (x.Type_.Fields.take k), (k : Int))) x.Type_.Fields.length (.brk (alF l x.Type_.Fields, (x.Type_.Fields.length : Int))) rfl (by omega) (fun k hk => ?_) ?_ trivial (by rw [ha]; rfl)
        · dsimp only
          rw [c1 (dlt hk), idx_get hk, Option.bind_some, hsub (hF _ (List.getElem_mem hk)), Option.bind_some, alF_snoc l _ k hk, w64 (by omega)]
          rfl
        · dsimp only
          rw [c0 (dge _), List.take_length]
theorem rAlign {M : Int} {l : List KindKnown} {rk : Nat → Nat} {m : Nat} (h : Inv M l rk m) (hm : m ≤ 1000) (i : Int) : ref08_Align (l.map conv) i = some (AL l i) :=
  Align_eq h NN i (fun x _ => NN_big (by have := h.rkm i.toNat; omega)) (NN_big (by omega))
theorem Inv.fok {M : Int} {l : List KindKnown} {rk : Nat → Nat} {m : Nat} (h : Inv M l rk m) {fs : List GField} {r : Nat} (hF : ∀ f ∈ fs, Full l rk r f.Type_) : ∀ f ∈ fs, (AL l f.Type_ = 1 ∨ AL l f.Type_ = 4) ∧ 0 ≤ SZ l f.Type_ ∧ SZ l f.Type_ ≤ 32768 := fun f hf => by
  have := h.full (hF f hf)
  exact ⟨this.2.2.1, by omega, this.2.1⟩

theorem Size_eq {M : Int} {l : List KindKnown} {rk : Nat → Nat} {m : Nat} (h : Inv M l rk m) (hm1 : m ≤ 1000) : ∀ F i, (∀ x, idx l i = some x → rk i.toNat < F) → 0 < F → (rec2 F).ref08_Size (l.map conv) i = some (SZ l i) := by
  intro F
  induction F with
  | zero => intro i _ h; omega
  | succ F ih =>
    intro i hi _
    show ref08_Size_b (rec2 F) (l.map conv) i = _
    unfold ref08_Size_b SZ
    rw [Is_eq]
    cases hx : idx l i with
    | none => simp [idx_map, hx]
    | some x =>
      have hr := hi x hx
      have hxx : idx (l.map conv) i = some (conv x) := by rw [idx_map, hx]; rfl
      have hAx : AL l i = x.align := by unfold AL; rw [hx]
      have hsub : ∀ {j}, Full l rk (rk i.toNat) j → (rec2 F).ref08_Size (l.map conv) j = some (SZ l j) := fun {j} hj => by
        obtain ⟨y, hy, _, _, hlt⟩ := hj
        exact ih j (fun _ _ => by omega) (by omega)
      simp only [hxx, Option.bind_some, Option.isSome_some, Bool.not_true, cond_false]
      rcases (h.at hx).1 with ⟨hk, hs, ha, ho, hf⟩ | ⟨hk, hs, ha, ho, hf⟩ | ⟨hk, hs, ha, ho, hf⟩ | ⟨hk, hE, hs, ha, hL, hm, ho, hf⟩ | ⟨hk, hs, ha, ho, hf, hz⟩ | ⟨hk, hF, hn, hne, hl, hat, hs, ha, hm, ho⟩
      · simp [conv, hk, hs]
      · rcases hk with hk | hk <;> simp [conv, hk, ho, hs]
      · simp [conv, hk, ho, hs]
      · have h1 := h.full hE
        have h2 : 0 ≤ x.Type_.Len * SZ l x.Type_.Elem := Int.mul_nonneg (by omega) (by omega)
        simp [conv, hk, ho, hsub hE]
        rw [hs] at hm ⊢
        exact w64 (by omega)
      · simp [conv, hk, ho, hs]
      · have hfok := h.fok hF
        simp only [conv, hk, ho, cond_false, show ((5 : Int) == 0) = false from rfl, show ((5 : Int) == 2) = false from rfl, show ((5 : Int) == 4) = false from rfl, show ((5 : Int) == 5) = true from rfl, cond_true]
        refine run_bind (fun k => (endF l 0 (x.Type_.Fields.take k), (k : Int))) x.Type_.Fields.length (.brk (endF l 0 x.Type_.Fields, (x.Type_.Fields.length : Int))) rfl (by omega) (fun k hk => ?_) ?_ trivial ?_
        · have hmem := List.getElem_mem hk
          have hb := endF_ok l _ hfok k (by omega)
          have hc := hfok _ hmem
          have hu := up_le (n := endF l 0 (x.Type_.Fields.take k)) hc.1
          dsimp only
          rw [c1 (dlt hk), idx_get hk, Option.bind_some, rAlign h hm1, Option.bind_some, next_eq hc.1 (by omega), Option.bind_some, hsub (hF _ hmem), Option.bind_some, endF_snoc l _ _ k hk, w64 (by omega), w64 (by omega)]
          rfl
        · dsimp only
          rw [c0 (dge _), List.take_length]
        · have hb := endF_ok l _ hfok _ (Nat.le_refl _)
          have hal := alF_ok l _ (fun f hf => (hfok f hf).1) _ (Nat.le_refl _)
          rw [List.take_length] at hb hal
          dsimp only [Lp.thn]
          rw [rAlign h hm1, Option.bind_some, hAx, ha, next_eq hal (by omega), Option.bind_some, hs]
theorem rSize {M : Int} {l : List KindKnown} {rk : Nat → Nat} {m : Nat} (h : Inv M l rk m) (hm : m ≤ 1000) (i : Int) : ref08_Size (l.map conv) i = some (SZ l i) :=
  Size_eq h hm NN i (fun x _ => NN_big (by have := h.rkm i.toNat; omega)) (NN_big (by omega))

/-! ## Tables that grow -/
theorem len_ext {l l' : List KindKnown} {rk rk' : Nat → Nat} {r r' : Nat} (hE : ∀ j y, l[j]? = some y → 0 < y.size → l'[j]? = some y ∧ rk' j = rk j) (hr : r ≤ r') {i : Int} (h : Full l rk r i) : Full l' rk' r' i ∧ SZ l' i = SZ l i ∧ AL l' i = AL l i := by
  obtain ⟨y, hy, h0, h1, h2⟩ := h
  obtain ⟨a, _, c⟩ := idx_some hy
  obtain ⟨d, e⟩ := hE _ _ c h0
  have hy' : idx l' i = some y := by rw [idx_nat a]; exact d
  refine ⟨⟨y, hy', h0, h1, by omega⟩, ?_, ?_⟩
  · unfold SZ; rw [hy, hy']
  · unfold AL; rw [hy, hy']
theorem fs_congr {l l' : List KindKnown} : ∀ (fs : List GField), (∀ f ∈ fs, SZ l' f.Type_ = SZ l f.Type_ ∧ AL l' f.Type_ = AL l f.Type_) → ∀ e a, endF l' e fs = endF l e fs ∧ fs.foldl (fun a f => max a (AL l' f.Type_)) a = fs.foldl (fun a f => max a (AL l f.Type_)) a ∧ ats l' e fs = ats l e fs
  | [], _, e, a => ⟨rfl, rfl, rfl⟩
  | f :: fs, h, e, a => by
    obtain ⟨h1, h2⟩ := h f (by simp)
    obtain ⟨a1, a2, a3⟩ := fs_congr fs (fun g hg => h g (by simp [hg])) (upI e (AL l f.Type_) + SZ l f.Type_) (max a (AL l f.Type_))
    refine ⟨?_, ?_, ?_⟩
    · unfold endF at *; rw [List.foldl_cons, List.foldl_cons, h1, h2]; exact a1
    · rw [List.foldl_cons, List.foldl_cons, h2]; exact a2
    · unfold ats; rw [h1, h2, a3]
theorem Ent.mono {M M' : Int} {l l' : List KindKnown} {rk rk' : Nat → Nat} {i : Nat} {x : KindKnown} (h : Ent M l rk i x) (hM : M ≤ M') (hE : ∀ j y, l[j]? = some y → 0 < y.size → l'[j]? = some y ∧ rk' j = rk j) (hr : rk i ≤ rk' i) : Ent M' l' rk' i x := by
  rcases h with ⟨hk, hs, ha, ho, hf⟩ | ⟨hk, hs, ha, ho, hf⟩ | ⟨hk, hs, ha, ho, hf⟩ | ⟨hk, hE', hs, ha, hL, hm, ho, hf⟩ | ⟨hk, hs, ha, ho, hf, hz⟩ | ⟨hk, hF, hn, hne, hl, hat, hs, ha, hm, ho⟩
  · exact .void hk hs ha ho hf
  · exact .word hk hs ha ho hf
  · exact .char hk hs ha ho hf
  · obtain ⟨a, b, c⟩ := len_ext hE hr hE'
    exact .arr hk a (by rw [hs, b]) (by rw [ha, c]) hL hm ho hf
  · exact .opn hk hs ha ho hf hz
  · have hc := fs_congr (l := l) (l' := l') x.Type_.Fields (fun f hf => (len_ext hE hr (hF f hf)).2) 0 1
    refine .str hk (fun f hf => (len_ext hE hr (hF f hf)).1) hn hne hl (by rw [hc.2.2, hat]) ?_ ?_ (by omega) ho
    · rw [hc.1, hs]; unfold alF; rw [hc.2.1]
    · rw [ha]; unfold alF; rw [hc.2.1]
theorem Ok.mono {M M' : Int} {x : KindKnown} (h : Ok M x) (hM : M ≤ M') : Ok M' x := by
  rcases h with h | h
  · exact .inl h
  · exact .inr ⟨h.1, by omega, h.2.2⟩
/-- A new entry. -/
theorem Inv.snoc {M : Int} {l : List KindKnown} {rk : Nat → Nat} {m : Nat} {x : KindKnown} (h : Inv M l rk m) (hl : l.length < 400) (hx : ∀ l' rk', (∀ j y, l[j]? = some y → 0 < y.size → l'[j]? = some y ∧ rk' j = rk j) → rk' l.length = m → Ent M l' rk' l.length x) (hok : Ok M x) : ∃ rk', Inv M (l ++ [x]) rk' (m + 1) := by
  have hE : ∀ j y, l[j]? = some y → 0 < y.size → (l ++ [x])[j]? = some y ∧ (fun i => if i = l.length then m else rk i) j = rk j := by
    intro j y hj _
    have hjl : j < l.length := (List.getElem?_eq_some_iff.1 hj).1
    exact ⟨by rw [List.getElem?_append_left hjl]; exact hj, by simp; omega⟩
  refine ⟨fun i => if i = l.length then m else rk i, by have := h.lo; simp; omega, by simp; omega, fun i => ?_, fun i y hy => ?_⟩
  · have := h.rkm i
    show (if _ then _ else _) < _
    split <;> omega
  · rcases Nat.lt_or_ge i l.length with hi | hi
    · rw [List.getElem?_append_left hi] at hy
      obtain ⟨a, b⟩ := h.ent i y hy
      exact ⟨a.mono (Int.le_refl _) hE (by have := h.rkm i; show rk i ≤ (if i = l.length then m else rk i); split <;> omega), b⟩
    · rw [List.getElem?_append_right hi] at hy
      have h0 : i - l.length = 0 := by
        have := (List.getElem?_eq_some_iff.1 hy).1
        simp at this; omega
      rw [h0] at hy
      simp at hy
      subst hy
      rw [show i = l.length by omega]
      exact ⟨hx _ _ hE (by simp), hok⟩
theorem ats_types (l : List KindKnown) : ∀ (fs : List GField) e, (ats l e fs).map (·.Type_) = fs.map (·.Type_) ∧ (ats l e fs).map (·.Name) = fs.map (·.Name) ∧ (ats l e fs).length = fs.length
  | [], _ => ⟨rfl, rfl, rfl⟩
  | f :: fs, e => by
    obtain ⟨a, b, c⟩ := ats_types l fs (upI e (AL l f.Type_) + SZ l f.Type_)
    unfold ats
    simp [a, b, c]
theorem end_types (l : List KindKnown) : ∀ (fs gs : List GField), gs.map (·.Type_) = fs.map (·.Type_) → ∀ e a, endF l e gs = endF l e fs ∧ gs.foldl (fun a f => max a (AL l f.Type_)) a = fs.foldl (fun a f => max a (AL l f.Type_)) a
  | [], [], _, _, _ => ⟨rfl, rfl⟩
  | f :: fs, [], h, _, _ => by simp at h
  | [], f :: fs, h, _, _ => by simp at h
  | f :: fs, g :: gs, h, e, a => by
    simp only [List.map_cons, List.cons.injEq] at h
    obtain ⟨a1, a2⟩ := end_types l fs gs h.2 (upI e (AL l f.Type_) + SZ l f.Type_) (max a (AL l f.Type_))
    unfold endF at *
    simp only [List.foldl_cons, h.1]
    exact ⟨a1, a2⟩
theorem ats_ats (l : List KindKnown) : ∀ (fs : List GField) e, ats l e (ats l e fs) = ats l e fs
  | [], _ => rfl
  | f :: fs, e => by simp only [ats]; rw [ats_ats l fs]
def closed (l : List KindKnown) (x : KindKnown) (fs : List GField) : KindKnown := ⟨{ x.Type_ with Fields := ats l 0 fs }, upI (endF l 0 fs) (alF l fs), alF l fs, false⟩
theorem ats_mem {l : List KindKnown} {fs : List GField} {e : Int} {f : GField} (h : f ∈ ats l e fs) : ∃ g ∈ fs, g.Type_ = f.Type_ := by
  have : f.Type_ ∈ (ats l e fs).map (·.Type_) := List.mem_map_of_mem h
  rw [(ats_types l fs e).1] at this
  obtain ⟨g, hg, he⟩ := List.mem_map.1 this
  exact ⟨g, hg, he⟩
/-- An open struct that gets its fields. -/
theorem Inv.close {M M' : Int} {l : List KindKnown} {rk : Nat → Nat} {m : Nat} {x : KindKnown} {i : Nat} {fs : List GField} (h : Inv M l rk m) (hM : M ≤ M') (hi : l[i]? = some x) (hk : x.Type_.Kind = 5) (hz : x.size = 0)
    (hF : ∀ f ∈ fs, Full l rk m f.Type_) (hn : (fs.map (·.Name)).Nodup) (hne : fs ≠ []) (hfl : fs.length ≤ 12) (hs : upI (endF l 0 fs) (alF l fs) ≤ M') : ∃ rk', Inv M' (l.set i (closed l x fs)) rk' (m + 1) := by
  have hil : i < l.length := (List.getElem?_eq_some_iff.1 hi).1
  have hE : ∀ j y, l[j]? = some y → 0 < y.size → (l.set i (closed l x fs))[j]? = some y ∧ (fun j => if j = i then m else rk j) j = rk j := by
    intro j y hj h0
    have hji : j ≠ i := by rintro rfl; rw [hi] at hj; cases hj; omega
    exact ⟨by rw [List.getElem?_set_ne (by omega)]; exact hj, by simp [hji]⟩
  refine ⟨fun j => if j = i then m else rk j, by have := h.lo; simp; omega, by have := h.hi; simp; omega, fun j => ?_, fun j y hy => ?_⟩
  · have := h.rkm j
    show (if _ then _ else _) < _
    split <;> omega
  · by_cases hji : j = i
    · subst hji
      rw [List.getElem?_set_self hil] at hy
      obtain rfl := Option.some.inj hy
      have hfok := h.fok hF
      have hb := endF_ok l _ hfok _ (Nat.le_refl _)
      have hal := alF_ok l _ (fun f hf => (hfok f hf).1) _ (Nat.le_refl _)
      rw [List.take_length] at hb hal
      have hu := up_le (n := endF l 0 fs) hal
      have hty := ats_types l fs 0
      have hc := fs_congr (l := l) (l' := l.set j (closed l x fs)) (ats l 0 fs) (fun f hf => by
        obtain ⟨g, hg, he⟩ := ats_mem hf
        rw [← he]
        exact (len_ext hE (Nat.le_refl _) (hF g hg)).2) 0 1
      have hc2 := end_types l fs (ats l 0 fs) hty.1 0 1
      have hpos : 0 < upI (endF l 0 fs) (alF l fs) := by
        cases fs with
        | nil => exact absurd rfl hne
        | cons f fs =>
          have h1 := endF_snoc l 0 (f :: fs) fs.length (by simp)
          have h2 := endF_ok l _ hfok fs.length (by simp)
          rw [List.take_of_length_le (l := f :: fs) (i := fs.length + 1) (by simp)] at h1
          have h3 := (h.full (hF _ (List.getElem_mem (show fs.length < (f :: fs).length by simp))))
          have h4 := up_le (n := endF l 0 ((f :: fs).take fs.length)) h3.2.2.1
          omega
      refine ⟨.str hk (fun f hf => ?_) (by show ((ats l 0 fs).map _).Nodup; rw [hty.2.1]; exact hn) ?_ (by show (ats l 0 fs).length ≤ 12; omega) (by show ats _ 0 (ats l 0 fs) = ats l 0 fs; rw [hc.2.2, ats_ats]) ?_ ?_ hs rfl, .inr ⟨hpos, hs, hal, hu.2.2⟩⟩
      · obtain ⟨g, hg, he⟩ := ats_mem hf
        rw [← he]
        exact (len_ext hE (by simp) (hF g hg)).1
      · show ats l 0 fs ≠ []
        intro h0
        have := hty.2.2
        rw [h0] at this
        exact hne (List.eq_nil_of_length_eq_zero this.symm)
      · show upI (endF l 0 fs) (alF l fs) = upI (endF _ 0 (ats l 0 fs)) (alF _ (ats l 0 fs))
        rw [hc.1, hc2.1]; unfold alF; rw [hc.2.1, hc2.2]
      · show alF l fs = alF _ (ats l 0 fs)
        unfold alF; rw [hc.2.1, hc2.2]
    · rw [List.getElem?_set_ne (by omega)] at hy
      obtain ⟨a, b⟩ := h.ent j y hy
      exact ⟨a.mono hM hE (by simp [hji]), b.mono hM⟩

/-! ## What the acts do -/
def wfI64 (n : Int) : Prop := -9223372036854775808 ≤ n ∧ n < 9223372036854775808
def posOf (o : Option Nat) : Int := match o with | some k => (k : Int) | none => -1
theorem posOf_some {α : Type} (p : α → Bool) (l : List α) : decide (0 ≤ posOf (l.findIdx? p)) = l.any p := by
  rw [← List.findIdx?_isSome]
  cases l.findIdx? p with
  | none => rfl
  | some k => simp [posOf]
def eqK (x y : KindKnown) : Bool := y.Type_.Kind == x.Type_.Kind && y.Type_.Elem == x.Type_.Elem && y.Type_.Len == x.Type_.Len && x.Type_.Kind != 5
def isN (s : List UInt8) (x : KindKnown) : Bool := x.Type_.Kind == 5 && decide (x.Type_.Name = s)
abbrev Tab := List KindKnown
def putS (l : Tab) (x : KindKnown) : Int × Int × Tab := match l.findIdx? (eqK x) with | some i => ((i : Int), 0, l) | none => if 400 ≤ l.length then (0, 8, l) else ((l.length : Int), 0, l ++ [x])
def ptrK (n : Int) : KindKnown := ⟨⟨3, n, 0, [], []⟩, 4, 4, false⟩
def arrK (n long : Int) (y : KindKnown) : KindKnown := ⟨⟨4, n, long, [], []⟩, long * y.size, y.align, false⟩
def opnK (s : List UInt8) : KindKnown := ⟨⟨5, 0, 0, s, []⟩, 0, 0, true⟩
def ptrS (l : Tab) (n : Int) : Int × Int × Tab := match idx l n with | none => (0, 4, l) | some _ => putS l (ptrK n)
def arrS (l : Tab) (n long : Int) : Int × Int × Tab := match idx l n with
  | none => (0, 4, l)
  | some y => if y.size = 0 then (0, 5, l) else if long < 1 then (0, 1, l) else if 32768 < long * y.size then (0, 2, l) else putS l (arrK n long y)
def opnS (l : Tab) (s : List UInt8) : Int × Int × Tab := if s = [] then (0, 1, l) else if l.any (isN s) then (0, 6, l) else putS l (opnK s)
def mayS (l : Tab) (fs : List GField) : Int := if fs.length = 0 then 1 else if fs.any (fun f => decide (f.Name = [])) then 1 else if fs.any (fun f => !(idx l f.Type_).isSome) then 4 else if fs.any (fun f => SZ l f.Type_ == 0) then 5
  else if (fs.map (·.Name)).Nodup then 0 else 6
def strS (l : Tab) (s : List UInt8) (fs : List GField) : Int × Int × Tab := match l.findIdx? (isN s) with
  | none => (0, 4, l)
  | some i => match l[i]? with
    | none => (0, 4, l)
    | some x => if x.open_ = false then (0, 4, l) else if mayS l fs ≠ 0 then (0, mayS l fs, l) else if 32768 < upI (endF l 0 fs) (alF l fs) then (0, 2, l) else ((i : Int), 0, l.set i (closed l x fs))
def made (r : Int × Int × Tab) : ref08Made := ⟨r.1, r.2.2.map conv, r.2.1⟩
def told (r : Int × Int × Tab) : Option (Int × Int × KindTable) := some (r.1, r.2.1, ⟨r.2.2⟩)

theorem find1_eq (l : Tab) (s : List UInt8) (hl : l.length ≤ 400) : slices_IndexFunc l s = some (posOf (l.findIdx? (isN s))) := by
  unfold slices_IndexFunc
  refine find_bind l (isN s) (fun k => (k : Int)) (by omega) (fun k hk => ?_) (by rw [c0 (dge _)]) ?_
  · rw [c1 (dlt hk), idx_get hk, Option.bind_some, show kind_Table_named_1 l[k] s = some (isN s l[k]) by unfold kind_Table_named_1 isN; cases l[k].Type_.Kind == 5 <;> rfl]
    rw [Option.bind_some]; cases isN s l[k] <;> rfl
  · cases l.findIdx? (isN s) <;> rfl
theorem named_eq (l : Tab) (s : List UInt8) (hl : l.length ≤ 400) : kind_Table_named ⟨l⟩ s = some (posOf (l.findIdx? (isN s))) := by
  unfold kind_Table_named; rw [find1_eq l s hl]; rfl
theorem find2_eq (l : Tab) (x : KindKnown) (hl : l.length ≤ 400) : slices_IndexFunc_2 l x = some (posOf (l.findIdx? (eqK x))) := by
  unfold slices_IndexFunc_2
  refine find_bind l (eqK x) (fun k => (k : Int)) (by omega) (fun k hk => ?_) (by rw [c0 (dge _)]) ?_
  · rw [c1 (dlt hk), idx_get hk, Option.bind_some, show kind_Table_put_1 l[k] x = some (eqK x l[k]) by unfold kind_Table_put_1 eqK; cases l[k].Type_.Kind == x.Type_.Kind <;> cases l[k].Type_.Elem == x.Type_.Elem <;> cases l[k].Type_.Len == x.Type_.Len <;> rfl]
    rw [Option.bind_some]; cases eqK x l[k] <;> rfl
  · cases l.findIdx? (eqK x) <;> rfl
theorem rfind_eq (l : Tab) (s : List UInt8) (hl : l.length ≤ 400) : ref08_Find (l.map conv) s = some (posOf (l.findIdx? (isN s))) := by
  have hm : (l.map conv).findIdx? (fun x => x.Kind == 5 && decide (x.Name = s)) = l.findIdx? (isN s) := by rw [List.findIdx?_map]; rfl
  rw [← hm]
  unfold ref08_Find
  refine find_bind (l.map conv) (fun x => x.Kind == 5 && decide (x.Name = s)) (fun k => (k : Int)) (by simp; omega) (fun k hk => ?_) (by rw [c0 (dge _)]) ?_
  · rw [c1 (dlt hk), idx_get hk]
    simp only [Option.bind_some]
    cases (l.map conv)[k].Kind == 5 <;> cases decide ((l.map conv)[k].Name = s) <;> rfl
  · cases (l.map conv).findIdx? _ <;> rfl
theorem put_eq (l : Tab) (x : KindKnown) (hl : l.length ≤ 400) : kind_Table_put ⟨l⟩ x = told (putS l x) := by
  unfold kind_Table_put putS told
  rw [find2_eq l x hl, Option.bind_some]
  cases l.findIdx? (eqK x) with
  | some k => rw [c1 (by simp [posOf])]; rfl
  | none =>
    rw [c0 (by rfl)]
    dsimp only
    by_cases h : 400 ≤ l.length
    · rw [c1 (by simpa using by omega), if_pos h]
    · rw [c0 (by simpa using by omega), if_neg h, room_ok (by simp; omega), Option.bind_some, w64 (by simp; omega)]
      simp
theorem rput_eq (l : Tab) (x : KindKnown) (hl : l.length ≤ 400) : ref08_put (l.map conv) (conv x) = some (made (putS l x)) := by
  have hm : (l.map conv).findIdx? (fun y => y.Kind == (conv x).Kind && y.Elem == (conv x).Elem && y.Len == (conv x).Len && (conv x).Kind != 5) = l.findIdx? (eqK x) := by rw [List.findIdx?_map]; rfl
  unfold ref08_put
  refine find_bind (l.map conv) (fun y => y.Kind == (conv x).Kind && y.Elem == (conv x).Elem && y.Len == (conv x).Len && (conv x).Kind != 5) (fun k => ⟨(k : Int), l.map conv, 0⟩) (by simp; omega) (fun k hk => ?_) (by rw [c0 (dge _)]) ?_
  · rw [c1 (dlt hk), idx_get hk]
    simp only [Option.bind_some]
    cases (l.map conv)[k].Kind == (conv x).Kind <;> cases (l.map conv)[k].Elem == (conv x).Elem <;> cases (l.map conv)[k].Len == (conv x).Len <;> cases (conv x).Kind != 5 <;> rfl
  · rw [hm]
    unfold putS
    cases l.findIdx? (eqK x) with
    | some k => rfl
    | none =>
      dsimp only [Lp.thn]
      by_cases h : 400 ≤ l.length
      · rw [c1 (by simpa using by omega), if_pos h]; rfl
      · rw [c0 (by simpa using by omega), if_neg h]
        refine map_bind (l.map conv) id (by simp; omega) (fun k hk => ?_) ?_ ?_
        · dsimp only
          rw [c1 (dlt hk), idx_get hk, Option.bind_some, room_ok (by simp at hk ⊢; omega), Option.bind_some]; rfl
        · dsimp only
          rw [c0 (dge _)]
        · dsimp only [Lp.thn]
          rw [room_ok (by simp; omega), Option.bind_some]
          simp [made]
theorem put_inv {M : Int} {l : Tab} {rk : Nat → Nat} {m : Nat} {x : KindKnown} (h : Inv M l rk m) (hx : ∀ l' rk', (∀ j y, l[j]? = some y → 0 < y.size → l'[j]? = some y ∧ rk' j = rk j) → rk' l.length = m → Ent M l' rk' l.length x) (hok : Ok M x) : ∃ rk', Inv M (putS l x).2.2 rk' (m + 1) := by
  unfold putS
  have h0 : ∃ rk', Inv M l rk' (m + 1) := ⟨rk, h.lo, h.hi, fun i => Nat.lt_succ_of_lt (h.rkm i), h.ent⟩
  cases l.findIdx? (eqK x) with
  | some k => exact h0
  | none =>
    dsimp only
    by_cases h4 : 400 ≤ l.length
    · rw [if_pos h4]; exact h0
    · rw [if_neg h4]; exact h.snoc (by omega) hx hok
theorem Inv.up {M : Int} {l : Tab} {rk : Nat → Nat} {m : Nat} (h : Inv M l rk m) : ∃ rk', Inv M l rk' (m + 1) := ⟨rk, h.lo, h.hi, fun i => Nat.lt_succ_of_lt (h.rkm i), h.ent⟩

theorem Ptr_eq (l : Tab) (n : Int) (hl : l.length ≤ 400) : kind_Table_Ptr ⟨l⟩ n = told (ptrS l n) := by
  unfold kind_Table_Ptr ptrS
  rw [has_eq]
  cases idx l n with
  | none => rfl
  | some y => simp only [Option.bind_some, Option.isSome_some, Bool.not_true, cond_false]; rw [show (⟨(⟨3, n, 0, ([] : List UInt8), []⟩ : GType), 4, 4, false⟩ : KindKnown) = ptrK n from rfl, put_eq l _ hl]; rfl
theorem rPtr_eq (l : Tab) (n : Int) (hl : l.length ≤ 400) : ref08_Ptr (l.map conv) n = some (made (ptrS l n)) := by
  unfold ref08_Ptr ptrS
  rw [Is_eq, idx_map]
  cases idx l n with
  | none => rfl
  | some y => simp only [Option.bind_some, Option.map_some, Option.isSome_some, Bool.not_true, cond_false]; rw [show (⟨3, n, 0, ([] : List UInt8), [], false⟩ : ref08Type) = conv (ptrK n) from rfl, rput_eq l _ hl]; rfl
theorem Ptr_inv {M : Int} {l : Tab} {rk : Nat → Nat} {m : Nat} (h : Inv M l rk m) (hM : 4 ≤ M) (n : Int) : ∃ rk', Inv M (ptrS l n).2.2 rk' (m + 1) := by
  unfold ptrS
  cases idx l n with
  | none => exact h.up
  | some y => exact put_inv h (fun _ _ _ _ => .word (.inr rfl) rfl rfl rfl rfl) (.inr ⟨(by decide : (0 : Int) < 4), hM, .inr rfl, ⟨1, rfl⟩⟩)

theorem Array_eq {M : Int} {l : Tab} {rk : Nat → Nat} {m : Nat} (h : Inv M l rk m) (n long : Int) (hn : wfI64 long) : kind_Table_Array ⟨l⟩ n long = told (arrS l n long) := by
  unfold kind_Table_Array arrS
  rw [has_eq]
  cases hx : idx l n with
  | none => rfl
  | some y =>
    simp only [Option.bind_some, Option.isSome_some, Bool.not_true, cond_false, hx]
    rcases (h.at hx).2 with h0 | h0
    · rw [c1 (by simp [h0.1]), if_pos h0.1]; rfl
    · rw [c0 (by simp; omega), if_neg (by omega)]
      by_cases h1 : long < 1
      · rw [c1 (dt h1), if_pos h1]; rfl
      · rw [c0 (df h1), if_neg h1, show nz y.size = some () by unfold nz; rw [if_neg (by omega)], Option.bind_some, Int.tdiv_eq_ediv_of_nonneg (by omega)]
        have hd : (32768 : Int) / y.size < long ↔ 32768 < long * y.size := Int.ediv_lt_iff_lt_mul h0.1
        have hb : 0 ≤ (32768 : Int) / y.size ∧ (32768 : Int) / y.size ≤ 32768 := ⟨Int.ediv_nonneg (by omega) (by omega), Int.ediv_le_self _ (by omega)⟩
        rw [w64 (x := 32768 / y.size) (by omega)]
        by_cases h2 : 32768 < long * y.size
        · rw [c1 (dt (hd.2 h2)), if_pos h2]; rfl
        · have h3 : 0 ≤ long * y.size := Int.mul_nonneg (by omega) (by omega)
          rw [c0 (df (fun h => h2 (hd.1 h))), if_neg h2, w64 (x := long * y.size) (by omega), show (⟨(⟨4, n, long, ([] : List UInt8), []⟩ : GType), long * y.size, y.align, false⟩ : KindKnown) = arrK n long y from rfl, put_eq l _ h.hi]; rfl
theorem rArray_eq {M : Int} {l : Tab} {rk : Nat → Nat} {m : Nat} (h : Inv M l rk m) (hM : M ≤ 1000000) (hm : m ≤ 1000) (n long : Int) (hn : wfI64 long) : ref08_Array (l.map conv) n long = some (made (arrS l n long)) := by
  unfold ref08_Array arrS
  rw [Is_eq, idx_map, rSize h hm]
  unfold SZ
  cases hx : idx l n with
  | none => rfl
  | some y =>
    simp only [Option.bind_some, Option.map_some, Option.isSome_some, Bool.not_true, cond_false]
    rcases (h.at hx).2 with h0 | h0
    · rw [c1 (by simp [h0.1]), if_pos h0.1]; rfl
    · rw [c0 (by simp; omega), if_neg (by omega)]
      by_cases h1 : long < 1
      · rw [c1 (dt h1), if_pos h1]; rfl
      · rw [c0 (df h1), if_neg h1]
        have h4 : long * 1 ≤ long * y.size := Int.mul_le_mul_of_nonneg_left (by omega) (by omega)
        by_cases h2 : 32768 < long
        · rw [c1 (dt h2), if_pos (by omega)]; rfl
        · have h5 : long * y.size ≤ 32768 * 1000000 := Int.mul_le_mul (by omega) (by omega) (by omega) (by omega)
          rw [c0 (df h2), w64 (x := long * y.size) (by omega)]
          by_cases h3 : 32768 < long * y.size
          · rw [c1 (dt h3), if_pos h3]; rfl
          · rw [c0 (df h3), if_neg h3, show (⟨4, n, long, ([] : List UInt8), [], false⟩ : ref08Type) = conv (arrK n long y) from rfl, rput_eq l _ h.hi]; rfl
theorem Array_inv {M : Int} {l : Tab} {rk : Nat → Nat} {m : Nat} (h : Inv M l rk m) (hM : M = 32768) (n long : Int) : ∃ rk', Inv M (arrS l n long).2.2 rk' (m + 1) := by
  unfold arrS
  cases hx : idx l n with
  | none => exact h.up
  | some y =>
    dsimp only
    by_cases h1 : y.size = 0
    · rw [if_pos h1]; exact h.up
    rw [if_neg h1]
    by_cases h2 : long < 1
    · rw [if_pos h2]; exact h.up
    rw [if_neg h2]
    by_cases h3 : 32768 < long * y.size
    · rw [if_pos h3]; exact h.up
    rw [if_neg h3]
    have ho := (h.at hx).2
    unfold Ok at ho
    have h0 : 0 < y.size ∧ y.size ≤ M ∧ (y.align = 1 ∨ y.align = 4) ∧ y.align ∣ y.size := by rcases ho with h0 | h0; exact absurd h0.1 h1; exact h0
    have hf : Full l rk m n := ⟨y, hx, h0.1, by omega, h.rkm _⟩
    have h4 : 1 * y.size ≤ long * y.size := Int.mul_le_mul_of_nonneg_right (by omega) (by omega)
    refine put_inv h (fun l' rk' hE hr => ?_) (.inr ⟨by show 0 < long * y.size; omega, by show long * y.size ≤ M; omega, h0.2.2.1, Int.dvd_trans h0.2.2.2 (Int.dvd_mul_left _ _)⟩)
    obtain ⟨a, b, c⟩ := len_ext (r' := rk' l.length) hE (by omega) hf
    refine .arr rfl a ?_ ?_ (by show 1 ≤ long; omega) (by show long * y.size ≤ 32768; omega) rfl rfl
    · show long * y.size = long * SZ l' n
      rw [b]; unfold SZ; rw [hx]
    · show y.align = AL l' n
      rw [c]; unfold AL; rw [hx]

theorem Open_eq (l : Tab) (s : List UInt8) (hl : l.length ≤ 400) : kind_Table_Open ⟨l⟩ s = told (opnS l s) := by
  unfold kind_Table_Open opnS
  by_cases h1 : s = []
  · rw [c1 (dt h1), if_pos h1]; rfl
  · rw [c0 (df h1), if_neg h1, named_eq l s hl, Option.bind_some, posOf_some]
    cases l.any (isN s) with
    | true => rfl
    | false => rw [cond_false, show (⟨(⟨5, 0, 0, s, ([] : List GField)⟩ : GType), 0, 0, true⟩ : KindKnown) = opnK s from rfl, put_eq l _ hl]; rfl
theorem rOpen_eq (l : Tab) (s : List UInt8) (hl : l.length ≤ 400) : ref08_Open (l.map conv) s = some (made (opnS l s)) := by
  unfold ref08_Open opnS
  by_cases h1 : s = []
  · rw [c1 (dt h1), if_pos h1]; rfl
  · rw [c0 (df h1), if_neg h1, rfind_eq l s hl, Option.bind_some, posOf_some]
    cases l.any (isN s) with
    | true => rfl
    | false => rw [cond_false, show (⟨5, 0, 0, s, ([] : List GField), true⟩ : ref08Type) = conv (opnK s) from rfl, rput_eq l _ hl]; rfl
theorem Open_inv {M : Int} {l : Tab} {rk : Nat → Nat} {m : Nat} (h : Inv M l rk m) (s : List UInt8) : ∃ rk', Inv M (opnS l s).2.2 rk' (m + 1) := by
  unfold opnS
  split
  · exact h.up
  · split
    · exact h.up
    · exact put_inv h (fun _ _ _ _ => .opn rfl rfl rfl rfl rfl ⟨rfl, rfl⟩) (.inl ⟨rfl, rfl⟩)

/-! ## Structs -/
theorem nodup_take (fs : List GField) : (fs.map (·.Name)).Nodup ↔ ∀ k (h : k < fs.length), (fs.take k).any (fun g => decide (g.Name = fs[k].Name)) = false := by
  unfold List.Nodup
  rw [List.pairwise_iff_getElem]
  constructor
  · intro h k hk
    rw [List.any_eq_false]
    intro g hg
    obtain ⟨j, hj, rfl⟩ := List.mem_take_iff_getElem.1 hg
    have := h j k (by simp; omega) (by simpa using hk) (by omega)
    simpa using this
  · intro h i j hi hj hij
    have := h j (by simpa using hj)
    rw [List.any_eq_false] at this
    have := this (fs[i]'(by simp at hi; exact hi)) (List.mem_take_iff_getElem.2 ⟨i, by simp at hi hj; omega, rfl⟩)
    simpa using this
theorem cf_bind {A : Type} {g : Option Int} {X : Option A} {K : Bool → Option A} (fs : List GField) (p : GField → Bool) (hg : g = some (posOf (fs.findIdx? p))) (hX : K (fs.any p) = X) : (g.bind fun y1 => some (decide (0 ≤ y1))).bind K = X := by
  subst hg
  rw [Option.bind_some, posOf_some]
  exact hX
theorem may3_eq (fs : List GField) (hl : fs.length ≤ 12) : slices_IndexFunc_3 fs = some (posOf (fs.findIdx? fun f => decide (f.Name = []))) := by
  unfold slices_IndexFunc_3
  refine find_bind fs _ (fun k => (k : Int)) (by omega) (fun k hk => ?_) (by rw [c0 (dge _)]) (by cases fs.findIdx? _ <;> rfl)
  rw [c1 (dlt hk), idx_get hk, Option.bind_some, show kind_Table_may_1 fs[k] = some (decide (fs[k].Name = [])) from rfl, Option.bind_some]
  cases decide (fs[k].Name = []) <;> rfl
theorem may4_eq (l : Tab) (fs : List GField) (hl : fs.length ≤ 12) : slices_IndexFunc_4 fs ⟨l⟩ = some (posOf (fs.findIdx? fun f => !(idx l f.Type_).isSome)) := by
  unfold slices_IndexFunc_4
  refine find_bind fs _ (fun k => (k : Int)) (by omega) (fun k hk => ?_) (by rw [c0 (dge _)]) (by cases fs.findIdx? _ <;> rfl)
  rw [c1 (dlt hk), idx_get hk, Option.bind_some, show kind_Table_may_2 fs[k] ⟨l⟩ = some (!(idx l fs[k].Type_).isSome) by unfold kind_Table_may_2; rw [has_eq]; rfl, Option.bind_some]
  cases (idx l fs[k].Type_).isSome <;> rfl
theorem TSize_eq (l : Tab) (i : Int) : kind_Table_Size ⟨l⟩ i = some (SZ l i) := by
  unfold kind_Table_Size SZ
  rw [has_eq]
  cases h : idx l i <;> simp [h]
theorem TAlign_eq (l : Tab) (i : Int) : kind_Table_Align ⟨l⟩ i = some (AL l i) := by
  unfold kind_Table_Align AL
  rw [has_eq]
  cases h : idx l i <;> simp [h]
theorem may5_eq (l : Tab) (fs : List GField) (hl : fs.length ≤ 12) : slices_IndexFunc_5 fs ⟨l⟩ = some (posOf (fs.findIdx? fun f => SZ l f.Type_ == 0)) := by
  unfold slices_IndexFunc_5
  refine find_bind fs _ (fun k => (k : Int)) (by omega) (fun k hk => ?_) (by rw [c0 (dge _)]) (by cases fs.findIdx? _ <;> rfl)
  rw [c1 (dlt hk), idx_get hk, Option.bind_some, show kind_Table_may_3 fs[k] ⟨l⟩ = some (SZ l fs[k].Type_ == 0) by unfold kind_Table_may_3; rw [TSize_eq]; rfl, Option.bind_some]
  cases SZ l fs[k].Type_ == 0 <;> rfl
theorem may6_eq (fs : List GField) (g : GField) (hl : fs.length ≤ 12) : slices_IndexFunc_6 fs g = some (posOf (fs.findIdx? fun f => decide (f.Name = g.Name))) := by
  unfold slices_IndexFunc_6
  refine find_bind fs _ (fun k => (k : Int)) (by omega) (fun k hk => ?_) (by rw [c0 (dge _)]) (by cases fs.findIdx? _ <;> rfl)
  rw [c1 (dlt hk), idx_get hk, Option.bind_some, show kind_Table_may_4 fs[k] g = some (decide (fs[k].Name = g.Name)) from rfl, Option.bind_some]
  cases decide (fs[k].Name = g.Name) <;> rfl
theorem sub_take {α : Type} {l : List α} {k : Nat} (h : k ≤ l.length) : sub l 0 (k : Int) = some (l.take k) := by
  unfold sub
  rw [if_pos (by omega)]
  simp

theorem may_eq (l : Tab) (fs : List GField) (hl : fs.length ≤ 12) : kind_Table_may ⟨l⟩ fs = some (mayS l fs) := by
  unfold kind_Table_may mayS
  by_cases h0 : fs.length = 0
  · rw [c1 (by simp [h0]), if_pos h0]
  rw [c0 (by simpa using h0), if_neg h0]
  refine cf_bind fs _ (may3_eq fs hl) ?_
  cases h1 : fs.any fun f => decide (f.Name = []) with
  | true => rfl
  | false =>
  simp only [cond_false, Bool.false_eq_true, if_false]
  refine cf_bind fs _ (may4_eq l fs hl) ?_
  cases h2 : fs.any fun f => !(idx l f.Type_).isSome with
  | true => rfl
  | false =>
  simp only [cond_false, Bool.false_eq_true, if_false]
  refine cf_bind fs _ (may5_eq l fs hl) ?_
  cases h3 : fs.any fun f => SZ l f.Type_ == 0 with
  | true => rfl
  | false =>
  simp only [cond_false, Bool.false_eq_true, if_false]
  refine loop_all (n := fs.length) (by omega) (fun k => if h : k < fs.length then !((fs.take k).any fun g => decide (g.Name = fs[k].Name)) else true) (6 : Int) (fun k hk _ => ?_) (by rw [c0 (dge _)]) (fun h => ?_) (fun h => ?_)
  · rw [c1 (dlt hk), idx_get hk, Option.bind_some, sub_take (by omega), Option.bind_some]
    refine cf_bind (fs.take k) _ (may6_eq (fs.take k) fs[k] (by simp; omega)) ?_
    rw [dif_pos hk]
    cases (fs.take k).any fun f => decide (f.Name = fs[k].Name) <;> rfl
  · rw [if_pos ((nodup_take fs).2 fun k hk => by have := h k hk; rw [dif_pos hk] at this; simpa using this)]; rfl
  · rw [if_neg]; rfl
    intro hn
    obtain ⟨k, hk, hp⟩ := h
    have := (nodup_take fs).1 hn k hk
    rw [dif_pos hk, this] at hp
    cases hp
theorem all_bind {R A : Type} {body : Int → Option (Lp Int R)} {K : Lp Int R → Option A} {X : Option A} (fs : List GField) (p : GField → Bool) (no : R) (hl : fs.length ≤ 12)
    (hs : ∀ k (h : k < fs.length), body (k : Int) = some (bif p fs[k] then .ret no else .go (IntKind.wrap .i64 ((k : Int) + 1)))) (he : body (fs.length : Int) = some (.brk (fs.length : Int)))
    (hX : (bif fs.any p then K (.ret no) else K (.brk (fs.length : Int))) = X) : (loopM body NN 0).bind K = X := by
  refine find_bind fs p (fun _ => no) (by omega) hs he ?_
  rw [← hX, ← List.findIdx?_isSome]
  cases fs.findIdx? p <;> rfl
theorem all_first {α R A : Type} {body : Int → Option (Lp Int R)} {K : Lp Int R → Option A} {X : Option A} (fs : List α) (p : α → Bool) (no : R) (hl : fs.length < 4611686018427387904)
    (hs : ∀ k (h : k < fs.length), body (k : Int) = some (bif p fs[k] then .ret no else .go (IntKind.wrap .i64 ((k : Int) + 1)))) (he : body (fs.length : Int) = some (.brk (fs.length : Int)))
    (hX : (bif fs.any p then K (.ret no) else K (.brk (fs.length : Int))) = X) : (loopM body NN 0).bind K = X := by
  refine find_bind fs p (fun _ => no) hl hs he ?_
  rw [← hX, ← List.findIdx?_isSome]
  cases fs.findIdx? p <;> rfl
theorem rmay_eq {M : Int} {l : Tab} {rk : Nat → Nat} {m : Nat} (h : Inv M l rk m) (hm : m ≤ 1000) (fs : List GField) (hl : fs.length ≤ 12) : ref08_may (l.map conv) fs = some (mayS l fs) := by
  unfold ref08_may mayS
  by_cases h0 : fs.length = 0
  · rw [c1 (by simp [h0]), if_pos h0]
  rw [c0 (by simpa using h0), if_neg h0]
  refine all_bind fs (fun f => decide (f.Name = [])) (1 : Int) hl (fun k hk => ?_) (by rw [c0 (dge _)]) ?_
  · rw [c1 (dlt hk), idx_get hk, Option.bind_some]
    cases decide (fs[k].Name = []) <;> rfl
  cases h1 : fs.any fun f => decide (f.Name = []) with
  | true => rfl
  | false =>
  simp only [cond_false, Bool.false_eq_true, if_false, Lp.thn]
  refine all_bind fs (fun f => !(idx l f.Type_).isSome) (4 : Int) hl (fun k hk => ?_) (by rw [c0 (dge _)]) ?_
  · rw [c1 (dlt hk), idx_get hk, Option.bind_some, Is_eq, idx_map, Option.bind_some, Option.isSome_map]
    cases (idx l fs[k].Type_).isSome <;> rfl
  cases h2 : fs.any fun f => !(idx l f.Type_).isSome with
  | true => rfl
  | false =>
  simp only [cond_false, Bool.false_eq_true, if_false, Lp.thn]
  refine all_bind fs (fun f => SZ l f.Type_ == 0) (5 : Int) hl (fun k hk => ?_) (by rw [c0 (dge _)]) ?_
  · rw [c1 (dlt hk), idx_get hk, Option.bind_some, rSize h hm, Option.bind_some]
    cases SZ l fs[k].Type_ == 0 <;> rfl
  cases h3 : fs.any fun f => SZ l f.Type_ == 0 with
  | true => rfl
  | false =>
  simp only [cond_false, Bool.false_eq_true, if_false, Lp.thn]
  refine loop_all (n := fs.length) (by omega) (fun k => if h : k < fs.length then !((fs.take k).any fun g => decide (g.Name = fs[k].Name)) else true) (6 : Int) (fun k hk _ => ?_) (by rw [c0 (dge _)]) (fun h => ?_) (fun h => ?_)
  · rw [c1 (dlt hk), dif_pos hk]
    have hkl : (fs.take k).length = k := by simp; omega
    refine all_bind (fs.take k) (fun g => decide (g.Name = fs[k].Name)) (6 : Int) (by omega) (fun j hj => ?_) (by rw [hkl, c0 (dge _)]) ?_
    · rw [hkl] at hj
      rw [c1 (dlt hj), idx_get (show j < fs.length by omega), Option.bind_some, idx_get hk, Option.bind_some]
      simp only [List.getElem_take]
      cases decide (fs[j].Name = fs[k].Name) <;> rfl
    · cases (fs.take k).any fun f => decide (f.Name = fs[k].Name) <;> rfl
  · rw [if_pos ((nodup_take fs).2 fun k hk => by have := h k hk; rw [dif_pos hk] at this; simpa using this)]
  · rw [if_neg]
    intro hn
    obtain ⟨k, hk, hp⟩ := h
    have := (nodup_take fs).1 hn k hk
    rw [dif_pos hk, this] at hp
    cases hp
/-- What fields that may be have. -/
theorem may_full {M : Int} {l : Tab} {rk : Nat → Nat} {m : Nat} (h : Inv M l rk m) (hM : M ≤ 32768) {fs : List GField} (h0 : mayS l fs = 0) : (∀ f ∈ fs, Full l rk m f.Type_) ∧ (fs.map (·.Name)).Nodup ∧ fs ≠ [] := by
  unfold mayS at h0
  split at h0
  · cases h0
  split at h0
  · cases h0
  split at h0
  · cases h0
  split at h0
  · cases h0
  split at h0
  · rename_i a b c d e
    refine ⟨fun f hf => ?_, e, fun h => a (by rw [h]; rfl)⟩
    have c' := (by simpa using c : ∀ x ∈ fs, ¬ idx l x.Type_ = none) f hf
    have d' := (by simpa using d : ∀ x ∈ fs, ¬ SZ l x.Type_ = 0) f hf
    cases hx : idx l f.Type_ with
    | none => exact absurd hx c'
    | some y =>
      unfold SZ at d'
      rw [hx] at d'
      simp at d'
      rcases (h.at hx).2 with h1 | h1
      · exact absurd h1.1 d'
      · exact ⟨y, hx, h1.1, by omega, h.rkm _⟩
  · cases h0
theorem ats_snoc (l : Tab) : ∀ (fs : List GField) (e : Int) (k : Nat) (h : k < fs.length), ats l e (fs.take (k + 1)) = ats l e (fs.take k) ++ [{ fs[k] with At := upI (endF l e (fs.take k)) (AL l fs[k].Type_) }]
  | [], _, _, h => by simp at h
  | f :: fs, e, 0, h => by simp [ats, endF]
  | f :: fs, e, k + 1, h => by
    have := ats_snoc l fs (upI e (AL l f.Type_) + SZ l f.Type_) k (by simpa using h)
    rw [List.take_succ_cons, List.take_succ_cons]
    unfold ats
    rw [this]
    rfl
theorem endF_mono (l : Tab) (fs : List GField) (h : ∀ f ∈ fs, (AL l f.Type_ = 1 ∨ AL l f.Type_ = 4) ∧ 0 ≤ SZ l f.Type_ ∧ SZ l f.Type_ ≤ 32768) (k : Nat) : ∀ j, k + j ≤ fs.length → endF l 0 (fs.take k) ≤ endF l 0 (fs.take (k + j)) := by
  intro j
  induction j with
  | zero => intro _; exact Int.le_refl _
  | succ j ih =>
    intro hj
    have h1 := ih (by omega)
    rw [show k + (j + 1) = (k + j) + 1 by omega, endF_snoc l 0 fs (k + j) (by omega)]
    have h2 := h _ (List.getElem_mem (show k + j < fs.length by omega))
    have h3 := up_le (n := endF l 0 (fs.take (k + j))) h2.1
    omega

theorem idx_set {α : Type} {l : List α} {i : Nat} {a : α} (h : i < l.length) : idx (l.set i a) (i : Int) = some a := by
  rw [idx_nat (by omega), Int.toNat_natCast, List.getElem?_set_self h]
theorem Clone_eq (fs : List GField) (hl : fs.length ≤ 12) : slices_Clone fs = some fs := by
  unfold slices_Clone
  rw [room_ok (by simp; omega), Option.bind_some, List.nil_append]
theorem lay1_eq (l : Tab) (f : GField) (e a : Int) (hf : (AL l f.Type_ = 1 ∨ AL l f.Type_ = 4) ∧ 0 ≤ SZ l f.Type_ ∧ SZ l f.Type_ ≤ 32768) (he : 0 ≤ e ∧ e ≤ 1000000) :
    kind_Table_Struct_1 f e ⟨l⟩ a = some (decide (upI e (AL l f.Type_) + SZ l f.Type_ ≤ 32768), { f with At := upI e (AL l f.Type_) }, upI e (AL l f.Type_) + SZ l f.Type_, max a (AL l f.Type_)) := by
  have hu := up_le (n := e) hf.1
  unfold kind_Table_Struct_1
  rw [TAlign_eq, Option.bind_some, kind_up_eq hf.1 (by omega), Option.bind_some, TSize_eq, Option.bind_some, Option.bind_some, w64 (by omega)]
theorem Struct_eq {M : Int} {l : Tab} {rk : Nat → Nat} {m : Nat} (h : Inv M l rk m) (hM : M ≤ 32768) (s : List UInt8) (fs : List GField) (hl : fs.length ≤ 12) : kind_Table_Struct ⟨l⟩ s fs = told (strS l s fs) := by
  unfold kind_Table_Struct strS
  rw [named_eq l s h.hi, Option.bind_some]
  cases hf : l.findIdx? (isN s) with
  | none => rfl
  | some i =>
    obtain ⟨hi, hp, _⟩ := List.findIdx?_eq_some_iff_getElem.1 hf
    rw [show posOf (some i) = (i : Int) from rfl, c0 (df (by omega)), idx_get hi, Option.bind_some]
    dsimp only
    rw [List.getElem?_eq_getElem hi]
    dsimp only
    cases ho : l[i].open_ with
    | false => rfl
    | true =>
    rw [Bool.not_true, cond_false, if_neg (by simp), may_eq l fs hl, Option.bind_some]
    by_cases hm : mayS l fs ≠ 0
    · rw [c1 (by simpa using hm), if_pos hm]; rfl
    rw [c0 (by simpa using hm), if_neg hm, Clone_eq fs hl, Option.bind_some]
    obtain ⟨hF, hn, hne⟩ := may_full h hM (by omega : mayS l fs = 0)
    have hfok := h.fok hF
    have hb := endF_ok l _ hfok
    have hal := alF_ok l _ (fun f hf => (hfok f hf).1) _ (Nat.le_refl _)
    rw [List.take_length] at hal
    have hu := up_le (n := endF l 0 fs) hal
    refine loop_bind (fun st => ∃ k, k ≤ fs.length ∧ st = (ats l 0 (fs.take k) ++ fs.drop k, (k : Int), alF l (fs.take k), endF l 0 (fs.take k)) ∧ endF l 0 (fs.take k) ≤ 32768) (fun st => fs.length - st.2.1.toNat)
      (fun z => (z = .brk (ats l 0 fs, (fs.length : Int), alF l fs, endF l 0 fs) ∧ endF l 0 fs ≤ 32768) ∨ (z = .ret (0, 2, ⟨l⟩) ∧ 32768 < endF l 0 fs)) ⟨0, by omega, rfl, by simp [endF]⟩ (NN_big (by simp; omega)) ?_ ?_
    · rintro st ⟨k, hk, rfl, he⟩
      dsimp only
      by_cases hkl : k < fs.length
      · have hla : (ats l 0 (fs.take k)).length = k := by rw [(ats_types l _ 0).2.2]; simp; omega
        have hd : fs.drop k = fs[k] :: fs.drop (k + 1) := List.drop_eq_getElem_cons hkl
        have hix : idx (ats l 0 (fs.take k) ++ fs.drop k) (k : Int) = some fs[k] := by
          rw [idx_nat (by omega), Int.toNat_natCast, List.getElem?_append_right (by omega), hla, Nat.sub_self, hd]; rfl
        have hbk := hb k hk
        rw [c1 (dlt hkl), hix]
        simp only [Option.bind_some]
        rw [lay1_eq l _ _ _ (hfok _ (List.getElem_mem hkl)) (by omega), Option.bind_some]
        have hes := endF_snoc l 0 fs k hkl
        rw [← hes]
        by_cases h2 : endF l 0 (fs.take (k + 1)) ≤ 32768
        · rw [c0 (by simpa using h2)]
          refine ⟨_, rfl, ⟨k + 1, by omega, ?_, h2⟩, ?_⟩
          · rw [w64 (by omega), ats_snoc l fs 0 k hkl, alF_snoc l fs k hkl, hes]
            refine Prod.ext ?_ (Prod.ext (by dsimp only; omega) rfl)
            dsimp only
            rw [Int.toNat_natCast, List.set_append_right _ _ (by omega), hla, Nat.sub_self, hd, List.append_assoc]; rfl
          · dsimp only; rw [w64 (by omega)]; omega
        · rw [c1 (by simpa using h2)]
          have := endF_mono l fs hfok (k + 1) (fs.length - (k + 1)) (by omega)
          rw [show k + 1 + (fs.length - (k + 1)) = fs.length by omega, List.take_length] at this
          exact ⟨_, rfl, .inr ⟨rfl, by omega⟩⟩
      · obtain rfl : k = fs.length := by omega
        rw [c0 (dge _)]
        rw [List.take_length] at he
        refine ⟨_, rfl, .inl ⟨?_, he⟩⟩
        rw [List.take_length, List.drop_length, List.append_nil]
    · rintro z (⟨rfl, h1⟩ | ⟨rfl, h1⟩)
      · have hbn := hb _ (Nat.le_refl _)
        rw [List.take_length] at hbn
        dsimp only [Lp.thn]
        rw [kind_up_eq hal (by omega), Option.bind_some]
        by_cases h3 : 32768 < upI (endF l 0 fs) (alF l fs)
        · rw [c1 (dt h3), if_pos h3]; rfl
        · rw [c0 (df h3), if_neg h3]
          simp only [Option.bind_some, idx_get hi, idx_set hi, Int.toNat_natCast, List.set_set]
          rfl
      · dsimp only [Lp.thn]
        rw [if_pos (by omega)]; rfl

theorem Ent.open {M : Int} {l : Tab} {rk : Nat → Nat} {i : Nat} {x : KindKnown} (h : Ent M l rk i x) (ho : x.open_ = true) : x.Type_.Kind = 5 ∧ x.size = 0 ∧ x.Type_.Elem = 0 ∧ x.Type_.Len = 0 := by
  rcases h with ⟨_, _, _, h, _⟩ | ⟨_, _, _, h, _⟩ | ⟨_, _, _, h, _⟩ | ⟨_, _, _, _, _, _, h, _⟩ | ⟨hk, hs, ha, h, hf, hz⟩ | ⟨_, _, _, _, _, _, _, _, _, h⟩
  all_goals first | exact ⟨hk, hs, hz⟩ | (rw [h] at ho; cases ho)
theorem rStruct_eq {M : Int} {l : Tab} {rk : Nat → Nat} {m : Nat} (h : Inv M l rk m) (hM : M ≤ 32768) (hm : m ≤ 900) (s : List UInt8) (fs : List GField) (hl : fs.length ≤ 12) : ref08_Struct (l.map conv) s fs = some (made (strS l s fs)) := by
  unfold ref08_Struct strS
  rw [rfind_eq l s h.hi, Option.bind_some]
  cases hf : l.findIdx? (isN s) with
  | none => rfl
  | some i =>
    obtain ⟨hi, hp, _⟩ := List.findIdx?_eq_some_iff_getElem.1 hf
    rw [show posOf (some i) = (i : Int) from rfl, c0 (df (by omega)), idx_map, idx_get hi, Option.map_some, Option.bind_some]
    dsimp only
    rw [List.getElem?_eq_getElem hi]
    dsimp only
    rw [show (conv l[i]).Open = l[i].open_ from rfl]
    cases ho : l[i].open_ with
    | false => rfl
    | true =>
    rw [Bool.not_true, cond_false, if_neg (by simp), rmay_eq h (by omega) fs hl, Option.bind_some]
    by_cases hm0 : mayS l fs ≠ 0
    · rw [c1 (by simpa using hm0), if_pos hm0]; rfl
    rw [c0 (by simpa using hm0), if_neg hm0]
    obtain ⟨hF, hn, hne⟩ := may_full h hM (by omega : mayS l fs = 0)
    have hfok := h.fok hF
    have hb := endF_ok l _ hfok
    have hal := alF_ok l _ (fun f hf => (hfok f hf).1) _ (Nat.le_refl _)
    rw [List.take_length] at hal
    have hu := up_le (n := endF l 0 fs) hal
    have hbn := hb _ (Nat.le_refl _)
    rw [List.take_length] at hbn
    obtain ⟨hk5, hz, hE0, hL0⟩ := (h.ent i l[i] (List.getElem?_eq_getElem hi)).1.open ho
    have hnm : l[i].Type_.Name = s := by simpa [isN, hk5] using hp
    have hcc : (⟨5, 0, 0, s, ats l 0 fs, false⟩ : ref08Type) = conv (closed l l[i] fs) := by simp [conv, closed, hk5, hE0, hL0, hnm]
    refine run_bind (fun k => (ats l 0 (fs.take k), endF l 0 (fs.take k), (k : Int))) fs.length (.brk (ats l 0 fs, endF l 0 fs, (fs.length : Int))) rfl (by omega) (fun k hk => ?_) ?_ trivial ?_
    · have hbk := hb k (by omega)
      have hc := hfok _ (List.getElem_mem hk)
      have hu := up_le (n := endF l 0 (fs.take k)) hc.1
      dsimp only
      rw [c1 (dlt hk)]
      simp only [idx_get hk, Option.bind_some]
      rw [rAlign h (by omega), Option.bind_some, next_eq hc.1 (by omega), Option.bind_some, room_ok (by rw [(ats_types l _ 0).2.2]; simp; omega), Option.bind_some, rSize h (by omega), Option.bind_some, w64 (by omega), w64 (by omega), ats_snoc l fs 0 k hk, endF_snoc l 0 fs k hk]
      rfl
    · dsimp only
      rw [c0 (dge _), List.take_length]
    · dsimp only [Lp.thn]
      have hlen : ((l.map conv).set i (conv (closed l l[i] fs))).length = l.length := by simp
      have hsm : (l.map conv).set i (conv (closed l l[i] fs)) = (l.set i (closed l l[i] fs)).map conv := by rw [List.map_set]
      refine run_bind (fun k => (((l.map conv).set i (conv (closed l l[i] fs))).take k, (k : Int))) l.length (.brk ((l.map conv).set i (conv (closed l l[i] fs)), (l.length : Int))) rfl (by have := h.hi; omega) (fun k hk => ?_) ?_ trivial ?_
      · have hhi := h.hi
        dsimp only
        have hkm : k < (l.map conv).length := by simpa using hk
        rw [List.length_map, c1 (dlt hk), idx_get hkm, Option.bind_some]
        dsimp only [jn]
        rw [List.take_succ_eq_append_getElem (by omega)]
        by_cases hki : k = i
        · subst hki
          rw [c1 (by simp), room_ok (by simp; omega), Option.bind_some, w64 (by omega), hcc, List.getElem_set_self]; rfl
        · rw [c0 (by simp; omega), room_ok (by simp; omega), Option.bind_some, w64 (by omega), List.getElem_set_ne (by omega)]; rfl
      · dsimp only
        rw [List.length_map, c0 (dge _), List.take_of_length_le (by omega)]
      · dsimp only [Lp.thn]
        obtain ⟨rk', hI⟩ := h.close (M' := 1000000) (by omega) (List.getElem?_eq_getElem hi) hk5 hz hF hn hne hl (by omega)
        rw [hsm, rSize hI (by omega), Option.bind_some]
        have hS : SZ (l.set i (closed l l[i] fs)) i = upI (endF l 0 fs) (alF l fs) := by unfold SZ; rw [idx_set hi]; rfl
        rw [hS]
        by_cases h3 : 32768 < upI (endF l 0 fs) (alF l fs)
        · rw [c1 (dt h3), if_pos h3]; rfl
        · rw [c0 (df h3), if_neg h3]; rfl
theorem Struct_inv {M : Int} {l : Tab} {rk : Nat → Nat} {m : Nat} (h : Inv M l rk m) (hM : M = 32768) (s : List UInt8) (fs : List GField) (hl : fs.length ≤ 12) : ∃ rk', Inv M (strS l s fs).2.2 rk' (m + 1) := by
  unfold strS
  split
  · exact h.up
  split
  · exact h.up
  rename_i i hf _ x hx
  by_cases ho : x.open_ = false
  · rw [if_pos ho]; exact h.up
  rw [if_neg ho]
  by_cases hm : mayS l fs ≠ 0
  · rw [if_pos hm]; exact h.up
  rw [if_neg hm]
  by_cases h3 : 32768 < upI (endF l 0 fs) (alF l fs)
  · rw [if_pos h3]; exact h.up
  rw [if_neg h3]
  obtain ⟨hF, hn, hne⟩ := may_full h (by omega) (by omega : mayS l fs = 0)
  obtain ⟨hk5, hz, _⟩ := (h.ent i x hx).1.open (by simpa using ho)
  exact h.close (Int.le_refl _) hx hk5 hz hF hn hne hl (by omega)

/-! ## An act -/
def actS (l : Tab) (a : law08Act) : Int × Int × Tab := if a.Kind = 0 then ptrS l a.N else if a.Kind = 1 then arrS l a.N a.Long else if a.Kind = 2 then opnS l a.Name else strS l a.Name a.Fields
def fewA (a : law08Act) : Prop := a.Name.length ≤ 100 ∧ a.Fields.length ≤ 12
instance (a : law08Act) : Decidable (fewA a) := by unfold fewA; infer_instance
def wfA (a : law08Act) : Prop := wfI64 a.Long
theorem Done_eq {l k : Tab} {rk rk' : Nat → Nat} {m m' : Nat} (h : Inv 32768 l rk m) (h' : Inv 32768 k rk' m') (hm : m' ≤ 900) (a : law08Act) (hf : fewA a) (hw : wfA a) :
    law08_Act_Done a ⟨l⟩ (k.map conv) = some ((actS l a).1, (actS l a).2.1, made (actS k a), ⟨(actS l a).2.2⟩) := by
  unfold law08_Act_Done actS
  by_cases h0 : a.Kind = 0
  · rw [c1 (by simpa using h0), if_pos h0, if_pos h0, Ptr_eq l _ h.hi, rPtr_eq k _ h'.hi]; rfl
  rw [c0 (by simpa using h0), if_neg h0, if_neg h0]
  by_cases h1 : a.Kind = 1
  · rw [c1 (by simpa using h1), if_pos h1, if_pos h1, Array_eq h _ _ hw, rArray_eq h' (by omega) (by omega) _ _ hw]; rfl
  rw [c0 (by simpa using h1), if_neg h1, if_neg h1]
  by_cases h2 : a.Kind = 2
  · rw [c1 (by simpa using h2), if_pos h2, if_pos h2, Open_eq l _ h.hi, rOpen_eq k _ h'.hi]; rfl
  rw [c0 (by simpa using h2), if_neg h2, if_neg h2]
  have hl := hf.2
  refine map_bind a.Fields id (by omega) (fun j hj => ?_) ?_ ?_
  · dsimp only
    rw [c1 (dlt hj), idx_get hj, Option.bind_some, room_ok (by simp; omega), Option.bind_some]; rfl
  · dsimp only
    rw [c0 (dge _)]
  · dsimp only [Lp.thn]
    rw [List.map_id, Struct_eq h (by omega) _ _ hl, rStruct_eq h' (by omega) hm _ _ hl]; rfl
theorem act_inv {l : Tab} {rk : Nat → Nat} {m : Nat} (h : Inv 32768 l rk m) (a : law08Act) (hf : fewA a) : ∃ rk', Inv 32768 (actS l a).2.2 rk' (m + 1) := by
  unfold actS
  split
  · exact Ptr_inv h (by omega) _
  split
  · exact Array_inv h rfl _ _
  split
  · exact Open_inv h _
  · exact Struct_inv h rfl _ _ hf.2
def newT : Tab := [⟨⟨0, 0, 0, [], []⟩, 0, 0, false⟩, ⟨⟨1, 0, 0, [], []⟩, 4, 4, false⟩, ⟨⟨2, 0, 0, [], []⟩, 1, 1, false⟩]
theorem new_eq : kind_New = some ⟨newT⟩ := rfl
theorem begin_eq : ref08_Begin = some (newT.map conv) := rfl
theorem new_inv : Inv 32768 newT (fun _ => 0) 1 := by
  refine ⟨by decide, by decide, fun _ => by omega, fun i x hx => ?_⟩
  match i, hx with
  | 0, hx => cases hx; exact ⟨.void rfl rfl rfl rfl rfl, .inl ⟨rfl, rfl⟩⟩
  | 1, hx => cases hx; exact ⟨.word (.inl rfl) rfl rfl rfl rfl, .inr ⟨by decide, by decide, .inr rfl, ⟨1, rfl⟩⟩⟩
  | 2, hx => cases hx; exact ⟨.char rfl rfl rfl rfl rfl, .inr ⟨by decide, by decide, .inl rfl, ⟨1, rfl⟩⟩⟩
  | n + 3, hx => simp [newT] at hx
def tab (as : List law08Act) : Tab := as.foldl (fun l a => (actS l a).2.2) newT
theorem tab_snoc (as : List law08Act) (k : Nat) (h : k < as.length) : tab (as.take (k + 1)) = (actS (tab (as.take k)) as[k]).2.2 := by
  unfold tab
  rw [List.take_succ_eq_append_getElem h, List.foldl_append]; rfl
theorem tab_inv (as : List law08Act) (hf : ∀ a ∈ as, fewA a) : ∀ k, k ≤ as.length → ∃ rk, Inv 32768 (tab (as.take k)) rk (k + 1) := by
  intro k
  induction k with
  | zero => intro _; exact ⟨_, new_inv⟩
  | succ k ih =>
    intro hk
    obtain ⟨rk, h⟩ := ih (by omega)
    rw [tab_snoc as k (by omega)]
    exact act_inv h _ (hf _ (List.getElem_mem _))
theorem awake_eq : law08_awake = some true := by kernel_rfl
theorem Few_eq (as : List law08Act) (hl : as.length ≤ 9223372036854775807) (hfl : ∀ a ∈ as, a.Fields.length ≤ 9223372036854775807) : ∃ b, law08_Few as = some b ∧ (b = true → as.length ≤ 30 ∧ ∀ a ∈ as, fewA a) := by
  unfold law08_Few
  by_cases h0 : 30 < as.length
  · rw [c1 (dt (by omega))]; exact ⟨false, rfl, by simp⟩
  rw [c0 (df (by omega))]
  have key : ∀ (x : Option Bool), (∃ b, x = some b ∧ (b = true → as.length ≤ 30 ∧ ∀ a ∈ as, fewA a)) ↔ (x = some false ∨ (x = some true ∧ as.length ≤ 30 ∧ ∀ a ∈ as, fewA a)) := by
    intro x
    constructor
    · rintro ⟨b, rfl, hb⟩
      cases b
      · exact .inl rfl
      · exact .inr ⟨rfl, hb rfl⟩
    · rintro (rfl | ⟨rfl, hb⟩)
      · exact ⟨false, rfl, by simp⟩
      · exact ⟨true, rfl, fun _ => hb⟩
  rw [key]
  by_cases hall : ∀ a ∈ as, fewA a ∧ ∀ f ∈ a.Fields, f.Name.length ≤ 100
  · right
    refine ⟨?_, by omega, fun a ha => (hall a ha).1⟩
    refine run_bind (fun k => (k : Int)) as.length (.brk (as.length : Int)) rfl (by omega) (fun k hk => ?_) (by rw [c0 (dge _)]) trivial rfl
    obtain ⟨ha, hb⟩ := hall _ (List.getElem_mem hk)
    rw [c1 (dlt hk)]
    simp only [idx_get hk, Option.bind_some]
    rw [c0 (df (by have := ha.1; omega)), c0 (df (by have := ha.2; omega))]
    refine run_bind (fun j => (j : Int)) as[k].Fields.length (.brk (as[k].Fields.length : Int)) rfl (by have := ha.2; omega) (fun j hj => ?_) (by rw [c0 (dge _)]) trivial (by dsimp only [Lp.thn]; rw [w64 (by omega)]; rfl)
    have := hb _ (List.getElem_mem hj)
    rw [c1 (dlt hj), idx_get hj, Option.bind_some, c0 (df (by omega)), w64 (by have := ha.2; omega)]; rfl
  · left
    refine all_first as (fun a => !(decide (fewA a) && a.Fields.all fun f => decide (f.Name.length ≤ 100))) false (by omega) (fun k hk => ?_) (by rw [c0 (dge _)]) ?_
    · have hfk := hfl _ (List.getElem_mem hk)
      rw [c1 (dlt hk)]
      simp only [idx_get hk, Option.bind_some]
      by_cases h1 : 100 < as[k].Name.length
      · rw [c1 (dt (by omega)), show decide (fewA as[k]) = false from df (fun h => by have := h.1; omega)]; rfl
      rw [c0 (df (by omega))]
      by_cases h2 : 12 < as[k].Fields.length
      · rw [c1 (dt (by omega)), show decide (fewA as[k]) = false from df (fun h => by have := h.2; omega)]; rfl
      rw [c0 (df (by omega)), show decide (fewA as[k]) = true from dt ⟨by omega, by omega⟩]
      refine all_first as[k].Fields (fun f => decide (100 < f.Name.length)) false (by omega) (fun j hj => ?_) (by rw [c0 (dge _)]) ?_
      · rw [c1 (dlt hj), idx_get hj, Option.bind_some]
        by_cases h3 : 100 < as[k].Fields[j].Name.length
        · rw [c1 (dt (by omega)), dt h3]; rfl
        · rw [c0 (df (by omega)), df h3]; rfl
      · have : (as[k].Fields.all fun f => decide (f.Name.length ≤ 100)) = !(as[k].Fields.any fun f => decide (100 < f.Name.length)) := by
          rw [List.not_any_eq_all_not]; congr 1; funext f; by_cases h : f.Name.length ≤ 100 <;> simp [h] <;> omega
        rw [this]
        cases as[k].Fields.any fun f => decide (100 < f.Name.length) <;> rfl
    · rw [show (as.any fun a => !(decide (fewA a) && a.Fields.all fun f => decide (f.Name.length ≤ 100))) = true by
        rw [List.any_eq_true]
        exact Classical.byContradiction fun hc => hall fun a ha => by
          have : ¬ ((!(decide (fewA a) && a.Fields.all fun f => decide (f.Name.length ≤ 100))) = true) := fun h => hc ⟨a, ha, h⟩
          simpa using this]
      rfl

/-! ## The laws -/
theorem idx_lt {α : Type} {l : List α} {i : Int} (h : 0 ≤ i ∧ i < l.length) : ∃ x, idx l i = some x ∧ l[i.toNat]? = some x := by
  rw [idx_nat h.1]
  exact ⟨l[i.toNat]'(by omega), List.getElem?_eq_getElem (by omega), List.getElem?_eq_getElem (by omega)⟩
/-- The acts are done one after another, the references to tables of their own. -/
theorem acts_bind {A R : Type} {body : Int × KindTable → Option (Lp (Int × KindTable) R)} {K : Lp (Int × KindTable) R → Option A} {X : Option A} (as : List law08Act) (hn : as.length ≤ 30)
    (hs : ∀ k (h : k < as.length), body ((k : Int), ⟨tab (as.take k)⟩) = some (.go (IntKind.wrap .i64 ((k : Int) + 1), ⟨(actS (tab (as.take k)) as[k]).2.2⟩))) (he : body ((as.length : Int), ⟨tab as⟩) = some (.brk ((as.length : Int), ⟨tab as⟩)))
    (hX : K (.brk ((as.length : Int), ⟨tab as⟩)) = X) : (loopM body NN (0, ⟨newT⟩)).bind K = X := by
  refine run_bind (fun k => ((k : Int), ⟨tab (as.take k)⟩)) as.length (.brk ((as.length : Int), ⟨tab as⟩)) rfl (by omega) (fun k hk => ?_) (by rw [List.take_length]; exact he) trivial hX
  rw [hs k hk, w64 (by omega), tab_snoc as k hk]; rfl
structure Ins (as : List law08Act) : Prop where
  n : as.length ≤ 30
  few : ∀ a ∈ as, fewA a
  wf : ∀ a ∈ as, wfA a
theorem law_ins {as : List law08Act} (hw : ∀ a ∈ as, wfA a) (hl : as.length ≤ 9223372036854775807) (hfl : ∀ a ∈ as, a.Fields.length ≤ 9223372036854775807) : law08_Few as = some false ∨ (law08_Few as = some true ∧ Ins as) := by
  obtain ⟨b, hb, h⟩ := Few_eq as hl hfl
  cases b
  · exact .inl hb
  · exact .inr ⟨hb, (h rfl).1, (h rfl).2, hw⟩
theorem Ins.step {as : List law08Act} (h : Ins as) {k : Nat} (hk : k < as.length) : law08_Act_Done as[k] ⟨tab (as.take k)⟩ (newT.map conv) = some ((actS (tab (as.take k)) as[k]).1, (actS (tab (as.take k)) as[k]).2.1, made (actS newT as[k]), ⟨(actS (tab (as.take k)) as[k]).2.2⟩) := by
  obtain ⟨rk, hI⟩ := tab_inv as h.few k (by omega)
  exact Done_eq hI new_inv (by omega) _ (h.few _ (List.getElem_mem hk)) (h.wf _ (List.getElem_mem hk))
theorem Ins.step2 {as : List law08Act} (h : Ins as) {k : Nat} (hk : k < as.length) : law08_Act_Done as[k] ⟨tab (as.take k)⟩ ((tab (as.take k)).map conv) = some ((actS (tab (as.take k)) as[k]).1, (actS (tab (as.take k)) as[k]).2.1, made (actS (tab (as.take k)) as[k]), ⟨(actS (tab (as.take k)) as[k]).2.2⟩) := by
  obtain ⟨rk, hI⟩ := tab_inv as h.few k (by omega)
  have := h.n
  exact Done_eq hI hI (by omega) _ (h.few _ (List.getElem_mem hk)) (h.wf _ (List.getElem_mem hk))
theorem Ins.inv {as : List law08Act} (h : Ins as) : ∃ rk, Inv 32768 (tab as) rk (as.length + 1) := by
  have := tab_inv as h.few as.length (Nat.le_refl _)
  rwa [List.take_length] at this

theorem putS_again (l : Tab) (x : KindKnown) (hk : x.Type_.Kind ≠ 5) (l' : Tab) (hE : ∃ t, l' = (putS l x).2.2 ++ t) (hf : (putS l x).2.1 = 8 → l' = (putS l x).2.2) : putS l' x = ((putS l x).1, (putS l x).2.1, l') := by
  have hself : eqK x x = true := by simp [eqK, hk]
  obtain ⟨t, ht⟩ := hE
  unfold putS at hf ht ⊢
  cases hfi : l.findIdx? (eqK x) with
  | some k =>
    rw [hfi] at ht
    dsimp only at ht ⊢
    rw [ht, List.findIdx?_append, hfi]; rfl
  | none =>
    rw [hfi] at ht hf
    dsimp only at ht hf ⊢
    by_cases h4 : 400 ≤ l.length
    · rw [if_pos h4] at hf ht ⊢
      rw [hf rfl, hfi]
      dsimp only
      rw [if_pos h4]
    · rw [if_neg h4] at ht ⊢
      rw [ht, List.findIdx?_append, List.findIdx?_append, hfi]
      simp [List.findIdx?_cons, hself]
theorem putS_grow (l : Tab) (x : KindKnown) : ∃ t, (putS l x).2.2 = l ++ t := by
  unfold putS
  split
  · exact ⟨[], by simp⟩
  · split
    · exact ⟨[], by simp⟩
    · exact ⟨[x], rfl⟩

theorem putS_full (l : Tab) (x : KindKnown) (h : 400 ≤ l.length) : (putS l x).2.2 = l := by
  unfold putS
  split
  · rfl
  · rw [if_pos h]
theorem putS_8 (l : Tab) (x : KindKnown) (h : (putS l x).2.1 = 8) : 400 ≤ l.length := by
  unfold putS at h
  split at h
  · cases h
  · split at h
    · assumption
    · cases h
theorem arrS_grow (l : Tab) (n long : Int) : (∃ t, (arrS l n long).2.2 = l ++ t) ∧ (400 ≤ l.length → (arrS l n long).2.2 = l) := by
  unfold arrS
  have h0 : (∃ t, l = l ++ t) ∧ (400 ≤ l.length → l = l) := ⟨⟨[], by simp⟩, fun _ => rfl⟩
  split
  · exact h0
  · split
    · exact h0
    · split
      · exact h0
      · split
        · exact h0
        · exact ⟨putS_grow _ _, putS_full _ _⟩
theorem idx_grow {α : Type} {l t : List α} {i : Int} {x : α} (h : idx l i = some x) : idx (l ++ t) i = some x := by
  obtain ⟨a, b, c⟩ := idx_some h
  rw [idx_nat a, List.getElem?_append_left (by omega)]
  exact c
theorem once_ptr (l : Tab) (n long : Int) : ptrS (arrS (ptrS l n).2.2 n long).2.2 n = ((ptrS l n).1, (ptrS l n).2.1, (arrS (ptrS l n).2.2 n long).2.2) := by
  obtain ⟨⟨t, ht⟩, hfull⟩ := arrS_grow (ptrS l n).2.2 n long
  cases hx : idx l n with
  | none =>
    have h1 : ptrS l n = (0, 4, l) := by unfold ptrS; rw [hx]
    rw [h1]
    have h2 : arrS l n long = (0, 4, l) := by unfold arrS; rw [hx]
    rw [h2, h1]
  | some y =>
    have h1 : ptrS l n = putS l (ptrK n) := by unfold ptrS; rw [hx]
    obtain ⟨t1, ht1⟩ := putS_grow l (ptrK n)
    rw [h1] at ht hfull ⊢
    have hx2 : idx (arrS (putS l (ptrK n)).2.2 n long).2.2 n = some y := by
      rw [ht, ht1]; exact idx_grow (idx_grow hx)
    unfold ptrS
    rw [hx2]
    refine putS_again l (ptrK n) (show (3 : Int) ≠ 5 by decide) _ ⟨t, ht⟩ fun h8 => ?_
    have h4 := putS_8 _ _ h8
    exact hfull (by rw [putS_full _ _ h4]; exact h4)
theorem once_arr (l : Tab) (n long : Int) : arrS (arrS l n long).2.2 n long = ((arrS l n long).1, (arrS l n long).2.1, (arrS l n long).2.2) := by
  obtain ⟨⟨t, ht⟩, hfull⟩ := arrS_grow l n long
  cases hx : idx l n with
  | none =>
    have h1 : arrS l n long = (0, 4, l) := by unfold arrS; rw [hx]
    rw [h1, h1]
  | some y =>
    have hx2 : idx (arrS l n long).2.2 n = some y := by rw [ht]; exact idx_grow hx
    generalize hT : arrS l n long = T at hx2 ⊢
    unfold arrS at hT ⊢
    rw [hx] at hT
    rw [hx2]
    dsimp only at hT ⊢
    split at hT
    · rename_i h; rw [if_pos h, ← hT]
    rename_i h; rw [if_neg h]
    split at hT
    · rename_i h; rw [if_pos h, ← hT]
    rename_i h; rw [if_neg h]
    split at hT
    · rename_i h; rw [if_pos h, ← hT]
    rename_i h; rw [if_neg h]
    rw [← hT]
    exact putS_again l _ (by simp [arrK]) _ ⟨[], by simp⟩ fun _ => rfl

theorem KindOnce_law (as : List law08Act) (n long : Int) (hw : ∀ a ∈ as, wfA a) (hl : as.length ≤ 9223372036854775807) (hfl : ∀ a ∈ as, a.Fields.length ≤ 9223372036854775807) (hlong : wfI64 long) : law08_KindOnce as n long = some true := by
  unfold law08_KindOnce
  rcases law_ins hw hl hfl with h | ⟨h, hI⟩
  · rw [h, Option.bind_some, Bool.not_false, cond_true, awake_eq]; rfl
  rw [h, Option.bind_some, Bool.not_true, cond_false, new_eq, Option.bind_some]
  refine acts_bind as hI.n (fun k hk => ?_) ?_ ?_
  · dsimp only
    rw [c1 (dlt hk), idx_get hk, Option.bind_some, begin_eq, Option.bind_some, hI.step hk]; rfl
  · dsimp only
    rw [c0 (dge _)]
  obtain ⟨rk, hT⟩ := hI.inv
  obtain ⟨rk1, hT1⟩ := Ptr_inv hT (by omega) n
  obtain ⟨rk2, hT2⟩ := Array_inv hT1 rfl n long
  dsimp only [Lp.thn]
  rw [Ptr_eq _ _ hT.hi]
  unfold told
  rw [Option.bind_some]
  dsimp only
  rw [Array_eq hT1 _ _ hlong]
  unfold told
  rw [Option.bind_some]
  dsimp only [kind_Table_Count]
  rw [Option.bind_some, Ptr_eq _ _ hT2.hi, once_ptr]
  unfold told
  rw [Option.bind_some]
  dsimp only
  rw [Array_eq hT2 _ _ hlong, once_arr]
  unfold told
  rw [Option.bind_some, awake_eq, Option.bind_some, cond_true]
  dsimp only
  simp

theorem Done2_eq (a : law08Act) (hf : fewA a) (hw : wfA a) : law08_Act_Done_2 a (newT.map conv) = some (0, 1, made (actS newT a)) := by
  unfold law08_Act_Done_2 actS
  by_cases h0 : a.Kind = 0
  · rw [c1 (by simpa using h0), if_pos h0, rPtr_eq newT _ new_inv.hi]; rfl
  rw [c0 (by simpa using h0), if_neg h0]
  by_cases h1 : a.Kind = 1
  · rw [c1 (by simpa using h1), if_pos h1, rArray_eq new_inv (by omega) (by omega) _ _ hw]; rfl
  rw [c0 (by simpa using h1), if_neg h1]
  by_cases h2 : a.Kind = 2
  · rw [c1 (by simpa using h2), if_pos h2, rOpen_eq newT _ new_inv.hi]; rfl
  rw [c0 (by simpa using h2), if_neg h2]
  have hl := hf.2
  refine map_bind a.Fields id (by omega) (fun j hj => ?_) ?_ ?_
  · dsimp only
    rw [c1 (dlt hj), idx_get hj, Option.bind_some, room_ok (by simp; omega), Option.bind_some]; rfl
  · dsimp only
    rw [c0 (dge _)]
  · dsimp only [Lp.thn]
    rw [List.map_id, rStruct_eq new_inv (by omega) (by omega) _ _ hl]; rfl
theorem KindNone_law (a : law08Act) (n : Int) (hw : wfA a) (hfl : a.Fields.length ≤ 9223372036854775807) : law08_KindNone a n = some true := by
  unfold law08_KindNone
  rcases law_ins (as := [a]) (by simpa using hw) (by simp) (by simpa using hfl) with h | ⟨h, hI⟩
  · rw [h, Option.bind_some, Bool.not_false, cond_true, awake_eq]; rfl
  rw [h, Option.bind_some, Bool.not_true, cond_false, begin_eq, Option.bind_some, Done2_eq a (hI.few a (by simp)) hw]
  simp only [Option.bind_some, awake_eq, kind_Table_Type_2, kind_Table_Find_2, kind_Table_Field_2, kind_Table_Count_2, kind_Table_Size_2, kind_Table_Align_2, kind_Table_Scalar_2, kind_Table_has_2, Bool.not_false, cond_true]
  rfl

theorem Ent.few {M : Int} {l : Tab} {rk : Nat → Nat} {i : Nat} {x : KindKnown} (h : Ent M l rk i x) : x.Type_.Fields.length ≤ 12 := by
  rcases h with ⟨_, _, _, _, h⟩ | ⟨_, _, _, _, h⟩ | ⟨_, _, _, _, h⟩ | ⟨_, _, _, _, _, _, _, h⟩ | ⟨_, _, _, _, h, _⟩ | ⟨_, _, _, _, h, _⟩
  all_goals first | exact h | (rw [h]; simp)
theorem Type_none {l : Tab} {i : Int} (h : idx l i = none) : kind_Table_Type ⟨l⟩ i = some (⟨0, 0, 0, [], []⟩, 4) := by
  unfold kind_Table_Type
  rw [has_eq, h]; rfl
theorem Type_some {l : Tab} {i : Int} {x : KindKnown} (h : idx l i = some x) (hf : x.Type_.Fields.length ≤ 12) : kind_Table_Type ⟨l⟩ i = some (x.Type_, 0) := by
  unfold kind_Table_Type
  rw [has_eq, h]
  simp only [Option.bind_some, Option.isSome_some, Bool.not_true, cond_false, h, Clone_eq _ hf]
theorem ats_get (l : Tab) : ∀ (fs : List GField) (e : Int) (k : Nat) (h : k < fs.length), (ats l e fs)[k]? = some { fs[k] with At := upI (endF l e (fs.take k)) (AL l fs[k].Type_) }
  | [], _, _, h => by simp at h
  | f :: fs, e, 0, h => by simp [ats, endF]
  | f :: fs, e, k + 1, h => by
    have := ats_get l fs (upI e (AL l f.Type_) + SZ l f.Type_) k (by simpa using h)
    unfold ats
    rw [List.getElem?_cons_succ, this]
    rfl
theorem alF_ge (l : Tab) (fs : List GField) : ∀ k j, (hj : j < k) → (h : k ≤ fs.length) → AL l (fs[j]'(by omega)).Type_ ≤ alF l (fs.take k) := by
  intro k
  induction k with
  | zero => intro j h; omega
  | succ k ih =>
    intro j hj hk
    rw [alF_snoc l fs k (by omega)]
    by_cases hjk : j = k
    · subst hjk; omega
    · have := ih j (by omega) (by omega); omega
theorem tmod0 {a b : Int} (hb : 0 ≤ b) (h : a ∣ b) : ((Int.tmod b a) != 0) = false := by
  rw [Int.tmod_eq_emod_of_nonneg hb, Int.emod_eq_zero_of_dvd h]; rfl
theorem KindLies_law (as : List law08Act) (hw : ∀ a ∈ as, wfA a) (hl : as.length ≤ 9223372036854775807) (hfl : ∀ a ∈ as, a.Fields.length ≤ 9223372036854775807) : law08_KindLies as = some true := by
  unfold law08_KindLies
  rcases law_ins hw hl hfl with h | ⟨h, hI⟩
  · rw [h, Option.bind_some, Bool.not_false, cond_true, awake_eq]; rfl
  rw [h, Option.bind_some, Bool.not_true, cond_false, new_eq, Option.bind_some]
  refine acts_bind as hI.n (fun k hk => ?_) ?_ ?_
  · dsimp only
    rw [c1 (dlt hk), idx_get hk, Option.bind_some, begin_eq, Option.bind_some, hI.step hk]; rfl
  · dsimp only
    rw [c0 (dge _)]
  obtain ⟨rk, hT⟩ := hI.inv
  generalize tab as = T at hT ⊢
  have hhi := hT.hi
  dsimp only [Lp.thn]
  refine run_bind (fun k => (k : Int)) T.length (.brk (T.length : Int)) rfl (by omega) (fun k hk => ?_) ?_ trivial (by dsimp only [Lp.thn]; rw [awake_eq]; rfl)
  · have hx := idx_get hk
    obtain ⟨hE, hO⟩ := hT.ent k T[k] (List.getElem?_eq_getElem hk)
    have hw1 : IntKind.wrap .i64 ((k : Int) + 1) = ((k + 1 : Nat) : Int) := by rw [w64 (by omega)]; omega
    have hS : SZ T k = T[k].size := by unfold SZ; rw [hx]
    have hA : AL T k = T[k].align := by unfold AL; rw [hx]
    generalize T[k] = x at hx hE hO hS hA
    dsimp only [kind_Table_Count]
    rw [Option.bind_some, c1 (dlt hk), c1 (dt (by omega)), Type_some hx hE.few]
    simp only [Option.bind_some, TSize_eq, TAlign_eq, hS, hA]
    rw [c0 (by rfl)]
    by_cases h0 : x.size = 0
    · have ha : x.align = 0 := by rcases hO with h | h; exact h.2; omega
      have hf : x.Type_.Fields = [] := by
        rcases hE with ⟨_, _, _, _, h⟩ | ⟨_, _, _, _, h⟩ | ⟨_, _, _, _, h⟩ | ⟨_, _, _, _, _, _, _, h⟩ | ⟨_, _, _, _, h, _⟩ | ⟨_, hF, _, hne, _, _, hs, _⟩
        all_goals first | exact h | skip
        have hfok := hT.fok hF
        have hal := alF_ok T _ (fun f hf => (hfok f hf).1) _ (Nat.le_refl _)
        rw [List.take_length] at hal
        exfalso
        have hu := up_le (n := endF T 0 x.Type_.Fields) hal
        cases hfs : x.Type_.Fields with
        | nil => exact hne hfs
        | cons f fs =>
          rw [hfs] at hs hu hF hfok
          have h1 := endF_snoc T 0 (f :: fs) fs.length (by simp)
          have h2 := endF_ok T _ hfok fs.length (by simp)
          rw [List.take_of_length_le (l := f :: fs) (i := fs.length + 1) (by simp)] at h1
          have h3 := (hT.full (hF _ (List.getElem_mem (show fs.length < (f :: fs).length by simp))))
          have h4 := up_le (n := endF T 0 ((f :: fs).take fs.length)) h3.2.2.1
          omega
      rw [h0, ha, hf, c0 (df (by omega)), c0 (df (by omega)), c0 (df (by omega)), c0 (df (by omega))]
      refine run_bind (fun _ => ((0 : Int), (0 : Int))) 0 (.brk (0, 0)) rfl (by omega) (fun _ h => by omega) rfl trivial ?_
      dsimp only [Lp.thn]
      rw [hw1]; rfl
    · have hP : 0 < x.size ∧ x.size ≤ 32768 ∧ (x.align = 1 ∨ x.align = 4) ∧ x.align ∣ x.size := by rcases hO with h | h; exact absurd h.1 h0; exact h
      rw [c0 (df (by omega)), c0 (df (by omega)), c0 (df (by omega)), c1 (dt hP.1), c0 (df (by omega)), show nz x.align = some () by unfold nz; rw [if_neg (by omega)]]
      rw [Option.bind_some, c0 (tmod0 (by omega) hP.2.2.2)]
      have hfin : ∀ f ∈ x.Type_.Fields, Full T rk (rk k) f.Type_ := by
        rcases hE with ⟨_, _, _, _, h⟩ | ⟨_, _, _, _, h⟩ | ⟨_, _, _, _, h⟩ | ⟨_, _, _, _, _, _, _, h⟩ | ⟨_, _, _, _, h, _⟩ | ⟨_, hF, _, hne, _, _, hs, _⟩
        all_goals first | exact hF | (rw [h]; simp)
      have hat : ats T 0 x.Type_.Fields = x.Type_.Fields := by
        rcases hE with ⟨_, _, _, _, h⟩ | ⟨_, _, _, _, h⟩ | ⟨_, _, _, _, h⟩ | ⟨_, _, _, _, _, _, _, h⟩ | ⟨_, _, _, _, h, _⟩ | ⟨_, hF, _, hne, _, hat, hs, _⟩
        all_goals first | exact hat | (rw [h]; rfl)
      have hend : endF T 0 x.Type_.Fields ≤ x.size ∧ (x.Type_.Fields ≠ [] → x.align = alF T x.Type_.Fields) := by
        rcases hE with ⟨_, _, _, _, h⟩ | ⟨_, _, _, _, h⟩ | ⟨_, _, _, _, h⟩ | ⟨_, _, _, _, _, _, _, h⟩ | ⟨_, _, _, _, h, _⟩ | ⟨_, hF, _, hne, _, hat, hs, ha, _⟩
        all_goals first | (rw [h]; exact ⟨by simp [endF]; omega, fun h => absurd rfl h⟩) | skip
        have hfok := hT.fok hF
        have hal := alF_ok T _ (fun f hf => (hfok f hf).1) _ (Nat.le_refl _)
        rw [List.take_length] at hal
        have hu := up_le (n := endF T 0 x.Type_.Fields) hal
        exact ⟨by omega, fun _ => ha⟩
      have hfok := hT.fok hfin
      have hlen := hE.few
      have hb := endF_ok T _ hfok
      have hal := alF_ok T _ (fun f hf => (hfok f hf).1) _ (Nat.le_refl _)
      rw [List.take_length] at hal
      refine run_bind (fun j => (endF T 0 (x.Type_.Fields.take j), (j : Int))) x.Type_.Fields.length (.brk (endF T 0 x.Type_.Fields, (x.Type_.Fields.length : Int))) rfl (by omega) (fun j hj => ?_) ?_ trivial ?_
      · have hAt : x.Type_.Fields[j].At = upI (endF T 0 (x.Type_.Fields.take j)) (AL T x.Type_.Fields[j].Type_) := by
          have h1 := ats_get T x.Type_.Fields 0 j hj
          rw [hat, List.getElem?_eq_getElem hj] at h1
          have h2 := congrArg GField.At (Option.some.inj h1)
          exact h2
        have hc := hfok _ (List.getElem_mem hj)
        have hbj := hb j (by omega)
        have hu := up_le (n := endF T 0 (x.Type_.Fields.take j)) hc.1
        have hge := alF_ge T x.Type_.Fields _ j hj (Nat.le_refl _)
        rw [List.take_length] at hge
        have haa := hend.2 (by intro h; rw [h] at hj; simp at hj)
        have hdv : AL T x.Type_.Fields[j].Type_ ∣ x.align := by
          rw [haa]
          rcases hc.1 with h1 | h1
          · rw [h1]; exact Int.one_dvd _
          · rw [h1] at hge ⊢
            rw [show alF T x.Type_.Fields = 4 by omega]; exact ⟨1, rfl⟩
        dsimp only
        rw [c1 (dlt hj), idx_get hj, Option.bind_some, hAt, c0 (df (by omega)), c0 (df (by omega)), show nz (AL T x.Type_.Fields[j].Type_) = some () by unfold nz; rw [if_neg (by omega)]]
        rw [Option.bind_some, c0 (tmod0 (by omega) hu.2.2), Option.bind_some, c0 (tmod0 (by omega) hdv), endF_snoc T 0 _ j hj, w64 (by omega), w64 (by omega)]
        rfl
      · dsimp only
        rw [c0 (dge _), List.take_length]
      · dsimp only [Lp.thn]
        rw [c0 (df (by omega)), hw1]
  · dsimp only [kind_Table_Count]
    rw [Option.bind_some, c0 (dge _)]

theorem Scalar_eq (l : Tab) (i : Int) : kind_Table_Scalar ⟨l⟩ i = some (match idx l i with | none => false | some x => x.Type_.Kind == 1 || x.Type_.Kind == 2 || x.Type_.Kind == 3) := by
  unfold kind_Table_Scalar
  rw [has_eq]
  cases h : idx l i with
  | none => rfl
  | some x =>
    simp only [Option.bind_some, Option.isSome_some, Bool.not_true, cond_false, h]
    cases x.Type_.Kind == 1 <;> cases x.Type_.Kind == 2 <;> rfl
theorem same_eq (x : KindKnown) (hf : x.Type_.Fields.length ≤ 12) : law08_same x.Type_ (conv x) = some true := by
  unfold law08_same
  simp only [conv, bne_self_eq_false, cond_false, decide_true, Bool.not_true]
  refine run_bind (fun k => (k : Int)) x.Type_.Fields.length (.brk (x.Type_.Fields.length : Int)) rfl (by omega) (fun k hk => ?_) (by rw [c0 (dge _)]) trivial rfl
  rw [c1 (dlt hk)]
  simp only [idx_get hk, Option.bind_some]
  rw [c0 (by simp), w64 (by omega)]; rfl
theorem KindMakes_law (as : List law08Act) (hw : ∀ a ∈ as, wfA a) (hl : as.length ≤ 9223372036854775807) (hfl : ∀ a ∈ as, a.Fields.length ≤ 9223372036854775807) : law08_KindMakes as = some true := by
  unfold law08_KindMakes
  rcases law_ins hw hl hfl with h | ⟨h, hI⟩
  · rw [h, Option.bind_some, Bool.not_false, cond_true, awake_eq]; rfl
  rw [h, Option.bind_some, Bool.not_true, cond_false, new_eq, Option.bind_some, begin_eq, Option.bind_some]
  have hn := hI.n
  refine run_bind (fun k => ((tab (as.take k)).map conv, (k : Int), ⟨tab (as.take k)⟩)) as.length (.brk ((tab as).map conv, (as.length : Int), ⟨tab as⟩)) rfl (by omega) (fun k hk => ?_) ?_ trivial ?_
  · dsimp only
    rw [c1 (dlt hk), idx_get hk, Option.bind_some, hI.step2 hk, Option.bind_some]
    dsimp only [made]
    rw [c0 (by simp), c0 (by simp), w64 (by omega), tab_snoc as k hk]; rfl
  · dsimp only
    rw [c0 (dge _), List.take_length]
  obtain ⟨rk, hT⟩ := hI.inv
  generalize tab as = T at hT ⊢
  have hhi := hT.hi
  dsimp only [Lp.thn]
  refine run_bind (fun k => (k : Int) - 1) (T.length + 2) (.brk ((T.length : Int) + 1)) rfl (by omega) (fun k hk => ?_) ?_ trivial ?_
  · have hw1 : IntKind.wrap .i64 ((k : Int) - 1 + 1) = ((k + 1 : Nat) : Int) - 1 := by rw [w64 (by omega)]; omega
    have hSc := Scalar_eq T ((k : Int) - 1)
    rw [List.length_map, c1 (dt (by omega))]
    by_cases h0 : (k : Int) - 1 < 0
    · have hx : idx T ((k : Int) - 1) = none := by unfold idx; rw [if_neg (by omega)]
      rw [hx] at hSc
      rw [Type_none hx, Option.bind_some, c0 (df (by omega)), c0 (by rfl), TSize_eq, Option.bind_some, rSize hT (by omega), Option.bind_some, c0 (by simp), TAlign_eq, Option.bind_some, rAlign hT (by omega), Option.bind_some, c0 (by simp), c0 (by rfl), hSc, Option.bind_some, hw1]
      rfl
    by_cases h1 : (k : Int) - 1 < T.length
    · obtain ⟨x, hx, hx2⟩ := idx_lt (l := T) (i := (k : Int) - 1) (by omega)
      have hE := (hT.at hx).1
      rw [hx] at hSc
      rw [Type_some hx hE.few, Option.bind_some, c1 (dt (by omega)), c0 (by rw [dt h1]; rfl), TSize_eq, Option.bind_some, rSize hT (by omega), Option.bind_some, c0 (by simp), TAlign_eq, Option.bind_some, rAlign hT (by omega), Option.bind_some, c0 (by simp), c1 (by rfl), idx_map, hx, Option.map_some, Option.bind_some]
      dsimp only
      rw [same_eq x hE.few, Option.bind_some, Bool.not_true, cond_false, hSc, Option.bind_some, c1 (by rfl)]
      dsimp only
      cases x.Type_.Kind == 1 with
      | true => simp only [hw1]; simp
      | false =>
        cases x.Type_.Kind == 2 with
        | true => simp only [hw1]; simp
        | false => simp only [hw1]; simp
    · have hx : idx T ((k : Int) - 1) = none := by rw [idx_nat (by omega), List.getElem?_eq_none (by omega)]
      rw [hx] at hSc
      rw [Type_none hx, Option.bind_some, c1 (dt (by omega)), c0 (by rw [df h1]; rfl), TSize_eq, Option.bind_some, rSize hT (by omega), Option.bind_some, c0 (by simp), TAlign_eq, Option.bind_some, rAlign hT (by omega), Option.bind_some, c0 (by simp), c0 (by rfl), hSc, Option.bind_some, hw1]
      rfl
  · rw [List.length_map, c0 (df (by omega))]
    congr 2
    omega
  · dsimp only [Lp.thn]
    rw [awake_eq, Option.bind_some, cond_true]
    dsimp only [kind_Table_Count]
    rw [Option.bind_some, List.length_map]
    simp
theorem nodup_find {fs : List GField} (hn : (fs.map (·.Name)).Nodup) {s : List UInt8} {k : Nat} (hk : k < fs.length) (hs : fs[k].Name = s) : ∀ j (hj : j < fs.length), fs[j].Name = s → j = k := by
  intro j hj h
  unfold List.Nodup at hn
  rw [List.pairwise_iff_getElem] at hn
  rcases Nat.lt_trichotomy j k with hlt | heq | hgt
  · have := hn j k (by simpa) (by simpa) hlt
    simp [h, hs] at this
  · exact heq
  · have := hn k j (by simpa) (by simpa) hgt
    simp [h, hs] at this
/-- The last of the fields of a name: what the reference looks for. -/
def lastF (s : List UInt8) (w : Int × GField) (fs : List GField) : Int × GField := fs.foldl (fun w f => if f.Name = s then (0, f) else w) w
theorem lastF_snoc (s : List UInt8) (w : Int × GField) (fs : List GField) (k : Nat) (h : k < fs.length) : lastF s w (fs.take (k + 1)) = if fs[k].Name = s then (0, fs[k]) else lastF s w (fs.take k) := by
  unfold lastF
  rw [List.take_succ_eq_append_getElem h, List.foldl_append]; rfl
theorem lastF_eq (s : List UInt8) (fs : List GField) (hn : (fs.map (·.Name)).Nodup) (w : Int × GField) : lastF s w fs = match fs.findIdx? (fun f => decide (f.Name = s)) with | some k => (0, fs.getD k w.2) | none => w := by
  have : ∀ k, k ≤ fs.length → lastF s w (fs.take k) = match fs.findIdx? (fun f => decide (f.Name = s)) with | some i => if i < k then (0, fs.getD i w.2) else w | none => w := by
    intro k
    induction k with
    | zero => intro _; cases fs.findIdx? _ <;> simp [lastF]
    | succ k ih =>
      intro hk
      rw [lastF_snoc s w fs k (by omega), ih (by omega)]
      cases hf : fs.findIdx? (fun f => decide (f.Name = s)) with
      | none =>
        have := List.findIdx?_eq_none_iff.1 hf fs[k] (List.getElem_mem _)
        simp at this
        simp [this]
      | some i =>
        obtain ⟨hi, hp, hlt⟩ := List.findIdx?_eq_some_iff_getElem.1 hf
        dsimp only
        by_cases hks : fs[k].Name = s
        · have := nodup_find hn (show k < fs.length by omega) hks i hi (by simpa using hp)
          subst this
          rw [if_pos hks, if_pos (by omega)]
          simp [List.getElem?_eq_getElem hi]
        · rw [if_neg hks]
          have : i ≠ k := by rintro rfl; exact hks (by simpa using hp)
          by_cases h2 : i < k
          · rw [if_pos h2, if_pos (by omega)]
          · rw [if_neg h2, if_neg (by omega)]
  have h := this fs.length (Nat.le_refl _)
  rw [List.take_length] at h
  rw [h]
  cases hf : fs.findIdx? (fun f => decide (f.Name = s)) with
  | none => rfl
  | some i =>
    obtain ⟨hi, _⟩ := List.findIdx?_eq_some_iff_getElem.1 hf
    simp [hi]

def zF : GField := ⟨[], 0, 0⟩
def fieldS (l : Tab) (n : Int) (s : List UInt8) : GField × Int := match idx l n with
  | none => (zF, 4)
  | some x => if x.Type_.Kind = 5 then (match x.Type_.Fields.findIdx? (fun f => decide (f.Name = s)) with | some k => (x.Type_.Fields.getD k zF, 0) | none => (zF, 4)) else (zF, 5)
theorem Ent.nodup {M : Int} {l : Tab} {rk : Nat → Nat} {i : Nat} {x : KindKnown} (h : Ent M l rk i x) : (x.Type_.Fields.map (·.Name)).Nodup := by
  rcases h with ⟨_, _, _, _, h⟩ | ⟨_, _, _, _, h⟩ | ⟨_, _, _, _, h⟩ | ⟨_, _, _, _, _, _, _, h⟩ | ⟨_, _, _, _, h, _⟩ | ⟨_, _, h, _⟩
  all_goals first | exact h | (rw [h]; simp)
theorem Field_eq {M : Int} {l : Tab} {rk : Nat → Nat} {m : Nat} (h : Inv M l rk m) (n : Int) (s : List UInt8) : kind_Table_Field ⟨l⟩ n s = some (fieldS l n s) := by
  unfold kind_Table_Field fieldS
  rw [has_eq]
  cases hx : idx l n with
  | none => rfl
  | some x =>
    have hlen := (h.at hx).1.few
    simp only [Option.bind_some, Option.isSome_some, Bool.not_true, cond_false, hx]
    by_cases hk : x.Type_.Kind = 5
    · rw [c0 (by simp [hk]), if_pos hk]
      refine find_bind x.Type_.Fields (fun f => decide (f.Name = s)) (fun k => (x.Type_.Fields.getD k zF, 0)) (by omega) (fun k hk => ?_) (by rw [c0 (dge _)]) ?_
      · rw [c1 (dlt hk), idx_get hk, Option.bind_some]
        cases decide (x.Type_.Fields[k].Name = s) with
        | true => simp [hk]
        | false => rfl
      · cases x.Type_.Fields.findIdx? _ <;> rfl
    · rw [c1 (by simpa using hk), if_neg hk]; rfl
theorem Find_eq (l : Tab) (s : List UInt8) (hl : l.length ≤ 400) : kind_Table_Find ⟨l⟩ s = some (match l.findIdx? (isN s) with | some k => ((k : Int), 0) | none => (0, 4)) := by
  unfold kind_Table_Find
  rw [named_eq l s hl, Option.bind_some]
  cases l.findIdx? (isN s) with
  | none => rfl
  | some k => rw [show posOf (some k) = (k : Int) from rfl, c0 (df (by omega))]
theorem KindFinds_law (as : List law08Act) (n : Int) (name : List UInt8) (hw : ∀ a ∈ as, wfA a) (hl : as.length ≤ 9223372036854775807) (hfl : ∀ a ∈ as, a.Fields.length ≤ 9223372036854775807) : law08_KindFinds as n name = some true := by
  unfold law08_KindFinds
  rcases law_ins hw hl hfl with h | ⟨h, hI⟩
  · rw [h, Option.bind_some, Bool.not_false, cond_true, awake_eq]; rfl
  rw [h, Option.bind_some, Bool.not_true, cond_false]
  by_cases hnl : (100 : Int) < (name.length : Int)
  · rw [c1 (dt hnl), awake_eq]; rfl
  rw [c0 (df hnl), new_eq, Option.bind_some, begin_eq, Option.bind_some]
  have hn := hI.n
  refine run_bind (fun k => ((tab (as.take k)).map conv, (k : Int), ⟨tab (as.take k)⟩)) as.length (.brk ((tab as).map conv, (as.length : Int), ⟨tab as⟩)) rfl (by omega) (fun k hk => ?_) ?_ trivial ?_
  · dsimp only
    rw [c1 (dlt hk), idx_get hk, Option.bind_some, hI.step2 hk, Option.bind_some]
    dsimp only [made]
    rw [w64 (by omega), tab_snoc as k hk]; rfl
  · dsimp only
    rw [c0 (dge _), List.take_length]
  obtain ⟨rk, hT⟩ := hI.inv
  generalize tab as = T at hT ⊢
  have hhi := hT.hi
  dsimp only [Lp.thn]
  rw [Find_eq _ _ hhi, Option.bind_some, rfind_eq _ _ hhi, Option.bind_some]
  cases hfi : T.findIdx? (isN name) with
  | none =>
    rw [c0 (by rfl), c1 (by rfl), c0 (by rfl), c0 (by rfl), c0 (by rfl)]
    · rw [Field_eq hT]
      unfold fieldS
      dsimp only [jn]
      rw [Is_eq, idx_map]
      cases hx : idx T n with
      | none =>
        simp only [Option.bind_some, Option.map_none, Option.isSome_none, cond_false, awake_eq, cond_true]
        rfl
      | some x =>
        have hE := (hT.at hx).1
        simp only [Option.bind_some, Option.map_some, Option.isSome_some, cond_true]
        rw [show (conv x).Kind = x.Type_.Kind from rfl, show (conv x).Fields = x.Type_.Fields from rfl]
        by_cases hk : x.Type_.Kind = 5
        · rw [c0 (by simp [hk]), c1 (by simp [hk]), if_pos hk]
          have hlen := hE.few
          refine run_bind (fun k => ((lastF name (4, zF) (x.Type_.Fields.take k)).1, (k : Int), (lastF name (4, zF) (x.Type_.Fields.take k)).2)) x.Type_.Fields.length (.brk ((lastF name (4, zF) x.Type_.Fields).1, (x.Type_.Fields.length : Int), (lastF name (4, zF) x.Type_.Fields).2)) rfl (by omega) (fun k hk => ?_) ?_ trivial ?_
          · dsimp only
            rw [c1 (dlt hk), idx_get hk, Option.bind_some, w64 (by omega), lastF_snoc name _ _ k hk]
            by_cases hn : x.Type_.Fields[k].Name = name
            · rw [c1 (dt hn), if_pos hn]; rfl
            · rw [c0 (df hn), if_neg hn]; rfl
          · dsimp only
            rw [c0 (dge _), List.take_length]
          · dsimp only [Lp.thn]
            rw [awake_eq, Option.bind_some, cond_true, lastF_eq name _ (hE.nodup)]
            cases hff : x.Type_.Fields.findIdx? (fun f => decide (f.Name = name)) with
            | none => rfl
            | some j => simp
        · rw [c1 (by simpa using hk), c0 (by simpa using hk), if_neg hk, awake_eq, Option.bind_some, cond_true]
          rfl
  | some j =>
    dsimp only [posOf]
    rw [c0 (by simp), c0 (by rfl), c1 (by rfl), c0 (by simp)]
    · rw [Field_eq hT]
      unfold fieldS
      dsimp only [jn]
      rw [Is_eq, idx_map]
      cases hx : idx T n with
      | none =>
        simp only [Option.bind_some, Option.map_none, Option.isSome_none, cond_false, awake_eq, cond_true]
        rfl
      | some x =>
        have hE := (hT.at hx).1
        simp only [Option.bind_some, Option.map_some, Option.isSome_some, cond_true]
        rw [show (conv x).Kind = x.Type_.Kind from rfl, show (conv x).Fields = x.Type_.Fields from rfl]
        by_cases hk : x.Type_.Kind = 5
        · rw [c0 (by simp [hk]), c1 (by simp [hk]), if_pos hk]
          have hlen := hE.few
          refine run_bind (fun k => ((lastF name (4, zF) (x.Type_.Fields.take k)).1, (k : Int), (lastF name (4, zF) (x.Type_.Fields.take k)).2)) x.Type_.Fields.length (.brk ((lastF name (4, zF) x.Type_.Fields).1, (x.Type_.Fields.length : Int), (lastF name (4, zF) x.Type_.Fields).2)) rfl (by omega) (fun k hk => ?_) ?_ trivial ?_
          · dsimp only
            rw [c1 (dlt hk), idx_get hk, Option.bind_some, w64 (by omega), lastF_snoc name _ _ k hk]
            by_cases hn : x.Type_.Fields[k].Name = name
            · rw [c1 (dt hn), if_pos hn]; rfl
            · rw [c0 (df hn), if_neg hn]; rfl
          · dsimp only
            rw [c0 (dge _), List.take_length]
          · dsimp only [Lp.thn]
            rw [awake_eq, Option.bind_some, cond_true, lastF_eq name _ (hE.nodup)]
            cases hff : x.Type_.Fields.findIdx? (fun f => decide (f.Name = name)) with
            | none => rfl
            | some j => simp
        · rw [c1 (by simpa using hk), c0 (by simpa using hk), if_neg hk, awake_eq, Option.bind_some, cond_true]
          rfl
end Go.Proofs.Ytjbmmcbpdodalaa
