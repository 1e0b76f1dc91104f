/- Plain laws: no program is in sight here. -/
import Derived.Test.YtlnamhpmhcgcpaaGreatDoorKL30A
set_option linter.unusedVariables false
namespace Go.Proofs.YtlnamhpmhcgcpaaGreatDoor
structure Iv (g : BoundGraph) (n : Int) (s0 l0 st lg : List Int) (fs : List (Int × List Int)) (q : List Int) : Prop where
  nr : InR g n
  ok : OkK g st lg
  wf : WF g st fs none
  gr : ∀ v, InR g v → (at_ st v = 1 ↔ v ∈ fs.map Prod.fst)
  el : ∀ e ∈ flatW fs q, InR g e ∧ Rch g n e
  dn : n ∈ flatW fs q ∨ at_ st n = 2
  mo : ∀ v, InR g v → at_ s0 v = 2 → at_ st v = 2 ∧ at_ lg v = at_ l0 v
  bd : (flatW fs q).length + potG g st ≤ 50000
theorem Iv.top {g : BoundGraph} {n t : Int} {s0 l0 st lg S q : List Int} {fs : List (Int × List Int)} (h : Iv g n s0 l0 st lg fs q) (e : flatW fs q = t :: S) (ht : at_ st t ≠ 1) :
    ∃ fs' q', flatW fs' q' = S ∧ fs'.map Prod.fst = fs.map Prod.fst ∧ t ∉ fs.map Prod.fst ∧ ∀ st', (∀ s, InR g s → at_ st s = 2 → at_ st' s = 2) → WF g st' fs' (some t) ∧ (at_ st t = 2 → WF g st' fs' none) := by
  have htr := (h.el t (by rw [e]; simp)).1
  have hnt : t ∉ fs.map Prod.fst := fun hm => ht ((h.gr t htr).2 hm)
  cases fs with
  | nil => exact ⟨[], S, rfl, rfl, hnt, fun st' _ => ⟨trivial, fun _ => trivial⟩⟩
  | cons f fs =>
    obtain ⟨k, p⟩ := f
    cases p with
    | nil =>
      exfalso
      simp only [flatW, List.nil_append, List.cons.injEq] at e
      exact hnt (by simp [e.1])
    | cons x p =>
      simp only [flatW, List.cons_append, List.cons.injEq] at e
      obtain ⟨rfl, rfl⟩ := e
      obtain ⟨h1, h2, h3, h4, h5, h6⟩ := h.wf
      refine ⟨(k, p) :: fs, q, rfl, rfl, hnt, fun st' hm => ⟨⟨h1, h2, fun y hy => h3 y (by simp [hy]), fun s hs => ?_, fun u hu => ?_, h6.mono hm⟩, fun h2t => ⟨h1, h2, fun y hy => h3 y (by simp [hy]), fun s hs => ?_, fun u hu => (by cases hu), h6.mono hm⟩⟩⟩
      · rcases h4 s hs with e | e | e
        · exact .inl (hm s (sc_in hs) e)
        · rcases List.mem_cons.1 e with rfl | e
          · exact .inr (.inr rfl)
          · exact .inr (.inl e)
        · cases e
      · cases hu
        exact (h3 _ (by simp)).2.2
      · rcases h4 s hs with e | e | e
        · exact .inl (hm s (sc_in hs) e)
        · rcases List.mem_cons.1 e with rfl | e
          · exact .inl (hm _ htr h2t)
          · exact .inr (.inl e)
        · cases e
theorem Iv.pop {g : BoundGraph} {n t : Int} {s0 l0 st lg S q : List Int} {fs : List (Int × List Int)} (h : Iv g n s0 l0 st lg fs q) (e : flatW fs q = t :: S) (ht : at_ st t = 2) :
    ∃ fs' q', flatW fs' q' = S ∧ Iv g n s0 l0 st lg fs' q' := by
  obtain ⟨fs', q', e1, e2, e3, h4⟩ := h.top e (by omega)
  refine ⟨fs', q', e1, h.nr, h.ok, (h4 st fun _ _ x => x).2 ht, fun v hv => by rw [e2]; exact h.gr v hv, fun x hx => h.el x (by rw [e]; rw [e1] at hx; simp [hx]), ?_, h.mo, ?_⟩
  · rcases h.dn with d | d
    · rw [e] at d
      rcases List.mem_cons.1 d with rfl | d
      · exact .inr ht
      · exact .inl (by rw [e1]; exact d)
    · exact .inr d
  · have := h.bd
    rw [e] at this
    rw [e1]
    simp at this
    omega
theorem toNat_in {g : BoundGraph} {t : Int} (h : InR g t) : t.toNat < g.code.length ∧ ((t.toNat : Nat) : Int) = t := by omega
theorem upd_at {g : BoundGraph} {st : List Int} {t v : Int} (x : Int) (hl : st.length = g.code.length) (ht : InR g t) (hv : InR g v) : at_ (List.set st t.toNat x) v = if v = t then x else at_ st v :=
  at_set (by omega) hv.1
theorem in_nat {g : BoundGraph} {k : Nat} (h : k < g.code.length) : InR g (k : Int) := by omega
theorem pot_one {g : BoundGraph} {st : List Int} {t : Int} (hl : st.length = g.code.length) (ht : InR g t) (h0 : at_ st t = 0) : potG g (List.set st t.toNat 1) + ((scG g t).length + 2) = potG g st := by
  obtain ⟨h1, h2⟩ := toNat_in ht
  have := sumTo_upd (f := fun k => if at_ (List.set st t.toNat 1) (k : Int) = 0 then (scG g (k : Int)).length + 2 else 0) (h := fun k => if at_ st (k : Int) = 0 then (scG g (k : Int)).length + 2 else 0) h1 fun k hk hne => by
    rw [upd_at 1 hl ht (in_nat hk), if_neg (show ¬ ((k : Int) = t) by omega)]
  rw [h2, upd_at 1 hl ht ht, if_pos rfl, if_pos h0, if_neg (by omega)] at this
  unfold potG
  omega
theorem pot_two {g : BoundGraph} {st : List Int} {t : Int} {x : Int} (hx : x ≠ 0) (hl : st.length = g.code.length) (ht : InR g t) (h0 : at_ st t ≠ 0) : potG g (List.set st t.toNat x) = potG g st := by
  unfold potG
  refine sumTo_eq fun k hk => ?_
  rw [upd_at x hl ht (in_nat hk)]
  by_cases e : (k : Int) = t
  · rw [if_pos e, if_neg hx, e, if_neg h0]
  · rw [if_neg e]
theorem cnt_same {g : BoundGraph} {st : List Int} {t x : Int} (hl : st.length = g.code.length) (ht : InR g t) (h0 : at_ st t ≠ 2) (hx : x ≠ 2) : cntG g (List.set st t.toNat x) = cntG g st := by
  unfold cntG
  refine sumTo_eq fun k hk => ?_
  rw [upd_at x hl ht (in_nat hk)]
  by_cases e : (k : Int) = t
  · rw [if_pos e, e, if_neg hx, if_neg h0]
  · rw [if_neg e]
theorem cnt_one {g : BoundGraph} {st : List Int} {t : Int} (hl : st.length = g.code.length) (ht : InR g t) (h0 : at_ st t ≠ 2) : cntG g (List.set st t.toNat 2) = cntG g st + 1 := by
  obtain ⟨h1, h2⟩ := toNat_in ht
  have := sumTo_upd (f := fun k => if at_ (List.set st t.toNat 2) (k : Int) = 2 then 1 else 0) (h := fun k => if at_ st (k : Int) = 2 then 1 else 0) h1 fun k hk hne => by
    rw [upd_at 2 hl ht (in_nat hk), if_neg (show ¬ ((k : Int) = t) by omega)]
  rw [h2, upd_at 2 hl ht ht, if_pos rfl, if_neg h0, if_pos rfl] at this
  unfold cntG
  omega
theorem st_mono {g : BoundGraph} {st : List Int} {t x : Int} (hl : st.length = g.code.length) (ht : InR g t) (h : at_ st t ≠ 2 ∨ x = 2) : ∀ s, InR g s → at_ st s = 2 → at_ (List.set st t.toNat x) s = 2 := by
  intro s hs h2
  rw [upd_at x hl ht hs]
  split
  · rename_i e
    rcases h with h | h
    · exact absurd (e ▸ h2) h
    · exact h
  · exact h2
theorem Iv.one {g : BoundGraph} {n t : Int} {s0 l0 st lg S q : List Int} {fs : List (Int × List Int)} (h : Iv g n s0 l0 st lg fs q) (e : flatW fs q = t :: S) (ht : at_ st t = 0) :
    ((∃ s ∈ scG g t, at_ (List.set st t.toNat 1) s = 1) → Rnd g n) ∧
    ((∀ s ∈ scG g t, at_ (List.set st t.toNat 1) s ≠ 1) → ∃ fs' q', flatW fs' q' = ((scG g t).filter fun s => at_ (List.set st t.toNat 1) s == 0).reverse ++ t :: S ∧ Iv g n s0 l0 (List.set st t.toNat 1) lg fs' q' ∧
      (flatW fs' q').length + potG g (List.set st t.toNat 1) < (flatW fs q).length + potG g st) := by
  obtain ⟨fs1, q1, e1, e2, e3, h4⟩ := h.top e (by omega)
  obtain ⟨htr, hrt⟩ := h.el t (by rw [e]; simp)
  have hl := h.ok.sl
  have hm := st_mono (x := 1) hl htr (.inl (by omega))
  have W1 := (h4 _ hm).1
  have ua : ∀ v, InR g v → at_ (List.set st t.toNat 1) v = if v = t then 1 else at_ st v := fun v hv => upd_at 1 hl htr hv
  refine ⟨fun ⟨s, hs, h1⟩ => ⟨t, s, hrt, hs, ?_⟩, fun hno => ?_⟩
  · rw [ua s (sc_in hs)] at h1
    by_cases est : s = t
    · rw [est]; exact .refl _
    · rw [if_neg est] at h1
      exact W1.rch s (by rw [e2]; exact (h.gr s (sc_in hs)).1 h1)
  · generalize hP : ((scG g t).filter fun s => at_ (List.set st t.toNat 1) s == 0) = P
    have hPm : ∀ x, x ∈ P ↔ x ∈ scG g t ∧ at_ (List.set st t.toNat 1) x = 0 := fun x => by rw [← hP, List.mem_filter]; simp
    have hPl : P.length ≤ (scG g t).length := by rw [← hP]; exact List.length_filter_le _ _
    have hlen : (flatW ((t, P.reverse) :: fs1) q1).length = P.length + 1 + S.length := by simp [flatW, e1]; omega
    have hlen0 : (flatW fs q).length = S.length + 1 := by rw [e]; simp
    have hpot := pot_one hl htr ht
    refine ⟨(t, P.reverse) :: fs1, q1, by simp [flatW, e1], ⟨h.nr, ?_, ⟨htr, by rw [e2]; exact e3, fun x hx => ?_, fun s hs => ?_, fun u hu => (by cases hu), W1⟩, fun v hv => ?_, fun x hx => ?_, ?_, fun v hv h2 => ?_, ?_⟩, ?_⟩
    · obtain ⟨a1, a2, a3, a4, a5, a6⟩ := h.ok
      have hne : ∀ v, InR g v → at_ (List.set st t.toNat 1) v = 2 → at_ st v = 2 := fun v hv h2 => by
        rw [ua v hv] at h2
        split at h2
        · omega
        · exact h2
      refine ⟨by simp [a1], a2, fun v hv => ?_, fun v hv h2 s hs => hm s (sc_in hs) (a4 v hv (hne v hv h2) s hs), fun v hv h2 => a5 v hv (hne v hv h2), fun v hv h2 => ?_⟩
      · rw [ua v hv]
        split
        · omega
        · exact a3 v hv
      · rw [cnt_same hl htr (by omega) (by omega)]
        exact a6 v hv (hne v hv h2)
    · obtain ⟨x1, x2⟩ := (hPm x).1 (List.mem_reverse.1 hx)
      have hxt : x ≠ t := fun ex => by
        rw [ua x (sc_in x1), if_pos ex] at x2; omega
      refine ⟨hxt, fun hx => ?_, x1⟩
      rw [e2] at hx
      have := (h.gr x (sc_in x1)).2 hx
      rw [ua x (sc_in x1), if_neg hxt] at x2
      omega
    · rcases (show at_ (List.set st t.toNat 1) s = 0 ∨ at_ (List.set st t.toNat 1) s = 1 ∨ at_ (List.set st t.toNat 1) s = 2 by
        rw [ua s (sc_in hs)]
        split
        · omega
        · exact h.ok.vs s (sc_in hs)) with z | z | z
      · exact .inr (.inl (List.mem_reverse.2 ((hPm s).2 ⟨hs, z⟩)))
      · exact absurd z (hno s hs)
      · exact .inl z
    · rw [ua v hv]
      simp only [List.map_cons, List.mem_cons]
      split
      · rename_i ev; simp [ev]
      · rename_i ev
        rw [e2, h.gr v hv]
        simp [ev]
    · simp only [flatW, e1, List.mem_append, List.mem_reverse, List.mem_cons] at hx
      rcases hx with hx | rfl | hx
      · have := (hPm x).1 hx
        exact ⟨sc_in this.1, hrt.tail this.1⟩
      · exact ⟨htr, hrt⟩
      · exact h.el x (by rw [e]; simp [hx])
    · rcases h.dn with d | d
      · rw [e] at d
        refine .inl ?_
        simp only [flatW, e1, List.mem_append, List.mem_cons] at d ⊢
        exact .inr d
      · by_cases ent : n = t
        · rw [ent, ht] at d; omega
        · refine .inr ?_
          rw [ua n h.nr, if_neg ent]; exact d
    · have := h.mo v hv h2
      rw [ua v hv]
      split
      · rename_i ev
        rw [ev, ht] at this
        omega
      · exact this
    · have := h.bd
      omega
    · omega
theorem Iv.two {g : BoundGraph} {n t : Int} {s0 l0 st lg S q : List Int} {fs : List (Int × List Int)} (h : Iv g n s0 l0 st lg fs q) (hc : g.code.length ≤ 200) (e : flatW fs q = t :: S) (ht : at_ st t = 1) :
    (∀ s ∈ scG g t, at_ st s = 2) ∧ (0 ≤ mxA lg (scG g t) 0 ∧ mxA lg (scG g t) 0 ≤ 200) ∧
    ∃ fs', flatW fs' q = S ∧ Iv g n s0 l0 (List.set st t.toNat 2) (List.set lg t.toNat (mxA lg (scG g t) 0 + 1)) fs' q ∧
      S.length + potG g (List.set st t.toNat 2) < (flatW fs q).length + potG g st := by
  obtain ⟨htr, hrt⟩ := h.el t (by rw [e]; simp)
  have hm := (h.gr t htr).1 ht
  have hl := h.ok.sl
  have hlen0 : (flatW fs q).length = S.length + 1 := by rw [e]; simp
  obtain ⟨fs', rfl, hS⟩ : ∃ fs', fs = (t, []) :: fs' ∧ flatW fs' q = S := by
    cases fs with
    | nil => simp at hm
    | cons f fs' =>
      obtain ⟨k, p⟩ := f
      obtain ⟨h1, h2, h3, h4, h5, h6⟩ := h.wf
      cases p with
      | nil =>
        simp only [flatW, List.nil_append, List.cons.injEq] at e
        exact ⟨fs', by rw [e.1], e.2⟩
      | cons x p =>
        simp only [flatW, List.cons_append, List.cons.injEq] at e
        obtain ⟨rfl, _⟩ := e
        obtain ⟨x1, x2, _⟩ := h3 x (by simp)
        simp only [List.map_cons, List.mem_cons] at hm
        rcases hm with hm | hm
        · exact absurd hm x1
        · exact absurd hm x2
  obtain ⟨h1, h2, h3, h4, h5, h6⟩ := h.wf
  have hk : ∀ s ∈ scG g t, at_ st s = 2 := fun s hs => by
    rcases h4 s hs with z | z | z
    · exact z
    · simp at z
    · cases z
  obtain ⟨a1, a2, a3, a4, a5, a6⟩ := h.ok
  have hcl := cnt_le g st
  have m0 := mxA_ge lg (scG g t) 0
  have m1 : mxA lg (scG g t) 0 ≤ (cntG g st : Int) := mxA_le lg _ _ (by omega) fun s hs => (a6 s (sc_in hs) (hk s hs)).2
  have ua : ∀ v, InR g v → at_ (List.set st t.toNat 2) v = if v = t then 2 else at_ st v := fun v hv => upd_at 2 hl htr hv
  have la : ∀ v, InR g v → at_ (List.set lg t.toNat (mxA lg (scG g t) 0 + 1)) v = if v = t then mxA lg (scG g t) 0 + 1 else at_ lg v := fun v hv => upd_at _ a2 htr hv
  have hmm := st_mono (x := 2) hl htr (.inr rfl)
  have hc1 := cnt_one hl htr (by omega)
  have hcg : ∀ v, InR g v → (∀ s ∈ scG g v, at_ st s = 2) → mxA (List.set lg t.toNat (mxA lg (scG g t) 0 + 1)) (scG g v) 0 = mxA lg (scG g v) 0 := fun v hv hs => mxA_congr _ _ fun s hh => by
    rw [la s (sc_in hh), if_neg fun es => by have := hs s hh; rw [es, ht] at this; omega]
  refine ⟨hk, ⟨m0, by omega⟩, fs', hS, ⟨h.nr, ⟨by simp [a1], by simp [a2], fun v hv => ?_, fun v hv z s hs => ?_, fun v hv z => ?_, fun v hv z => ?_⟩, h6.drop hmm (by rw [ua t htr, if_pos rfl]), fun v hv => ?_, fun x hx => h.el x (by rw [e]; rw [hS] at hx; simp [hx]), ?_, fun v hv z => ?_, ?_⟩, ?_⟩
  · rw [ua v hv]
    split
    · omega
    · exact a3 v hv
  · by_cases ev : v = t
    · rw [ev] at hs
      exact hmm s (sc_in hs) (hk s hs)
    · rw [ua v hv, if_neg ev] at z
      exact hmm s (sc_in hs) (a4 v hv z s hs)
  · by_cases ev : v = t
    · rw [ev, la t htr, if_pos rfl, hcg t htr hk]
    · rw [ua v hv, if_neg ev] at z
      rw [la v hv, if_neg ev, hcg v hv (a4 v hv z)]
      exact a5 v hv z
  · rw [hc1, la v hv]
    split
    · omega
    · rename_i ev
      rw [ua v hv, if_neg ev] at z
      have := a6 v hv z
      omega
  · rw [ua v hv]
    have hg := h.gr v hv
    simp only [List.map_cons, List.mem_cons] at hg
    split
    · rename_i ev
      rw [ev]
      constructor
      · intro z; omega
      · intro z; exact absurd z h2
    · rename_i ev
      rw [hg]
      simp [ev]
  · rcases h.dn with d | d
    · rw [e] at d
      rcases List.mem_cons.1 d with rfl | d
      · exact .inr (by rw [ua n htr, if_pos rfl])
      · exact .inl (by rw [hS]; exact d)
    · by_cases ent : n = t
      · exact .inr (by rw [ent, ua t htr, if_pos rfl])
      · refine .inr ?_
        rw [ua n h.nr, if_neg ent]
        exact d
  · have := h.mo v hv z
    have ev : v ≠ t := fun ev => by rw [ev, ht] at this; omega
    rw [ua v hv, la v hv, if_neg ev, if_neg ev]
    exact this
  · have := h.bd
    rw [pot_two (by omega) hl htr (by omega), hS]
    omega
  · rw [pot_two (by omega) hl htr (by omega)]
    omega
theorem loop_ex {S R A : Type} {body : S → Option (Lp S R)} {f : Lp S R → Option A} {n : Nat} {s : S} (I : S → Prop) (μ : S → Nat) (post : Lp S R → Prop) {Φ : A → Prop} (hI : I s) (hn : μ s < n)
    (hstep : ∀ s, I s → ∃ z, body s = some z ∧ (match z with | .go s' => I s' ∧ μ s' < μ s | .brk s' => post (.brk s') | .ret r => post (.ret r)))
    (hrest : ∀ o, post o → ∃ r, f o = some r ∧ Φ r) : ∃ r, (loopM body n s).bind f = some r ∧ Φ r := by
  obtain ⟨o, ho, hp⟩ := loop_some I μ post hI hn hstep
  rw [ho]
  exact hrest o hp
theorem bex {α β : Type} {m : Option α} {f : α → Option β} {z : α} {Q : β → Prop} (h : m = some z) (k : ∃ y, f z = some y ∧ Q y) : ∃ y, m.bind f = some y ∧ Q y := by rw [h]; exact k
theorem top_idx {S : List Int} {t : Int} (h : S.length ≤ 1000000) : idx (t :: S).reverse (IntKind.wrap .i64 ((((t :: S).reverse).length : Int) - 1)) = some t := by
  rw [w64 (by simp; omega), List.length_reverse, List.length_cons, show ((S.length + 1 : Nat) : Int) - 1 = ((S.length : Nat) : Int) by omega, idx_get (by simp)]
  simp
theorem top_sub {S : List Int} {t : Int} (h : S.length ≤ 1000000) : sub (t :: S).reverse 0 (IntKind.wrap .i64 ((((t :: S).reverse).length : Int) - 1)) = some S.reverse := by
  rw [w64 (by simp; omega), List.length_reverse, List.length_cons, show ((S.length + 1 : Nat) : Int) - 1 = ((S.length : Nat) : Int) by omega]
  unfold sub
  rw [if_pos (by simp; omega)]
  simp
theorem flat_nil {fs : List (Int × List Int)} {q : List Int} (h : flatW fs q = []) : fs = [] ∧ q = [] := by
  cases fs with
  | nil => exact ⟨rfl, h⟩
  | cons f fs => obtain ⟨k, p⟩ := f; simp [flatW] at h
theorem from_law {g : BoundGraph} (hb : g.backs.length ≤ 200) (hc : g.code.length ≤ 200) {n : Int} {s0 l0 : List Int} (hn : InR g n) (hK : OkK g s0 l0) (hG : ∀ v, InR g v → at_ s0 v ≠ 1) :
    ∃ r, bound_walk_from ⟨g, s0, l0⟩ n = some r ∧ ((r.1 = false ∧ Rnd g n) ∨ (r.1 = true ∧ ∃ st lg, r.2 = ⟨g, st, lg⟩ ∧ OkK g st lg ∧ (∀ v, InR g v → at_ st v ≠ 1) ∧ at_ st n = 2 ∧
      ∀ v, InR g v → at_ s0 v = 2 → at_ st v = 2 ∧ at_ lg v = at_ l0 v)) := by
  unfold bound_walk_from
  have hp := pot_le g s0 hb hc
  refine loop_ex (fun s => ∃ fs q, s.2.2.2 = (flatW fs q).reverse ∧ Iv g n s0 l0 s.1 s.2.1 fs q) (fun s => s.2.2.2.length + potG g s.1)
    (fun o => (∃ w, o = .ret (false, w) ∧ Rnd g n) ∨ ∃ st lg b, o = .brk (st, lg, b, []) ∧ Iv g n s0 l0 st lg [] [])
    ⟨[], [n], rfl, hn, hK, trivial, fun v hv => ?_, fun e he => ?_, .inl (by simp [flatW]), fun v hv h => ⟨h, rfl⟩, by simp [flatW]; omega⟩ (NN_big (by simp; omega)) ?_ ?_
  · simp only [List.map_nil, List.not_mem_nil, iff_false]
    exact hG v hv
  · simp [flatW] at he
    rw [he]
    exact ⟨hn, .refl _⟩
  · rintro ⟨st, lg, x4, _⟩ ⟨fs, q, rfl, hI⟩
    dsimp only at hI ⊢
    cases hF : flatW fs q with
    | nil =>
      obtain ⟨rfl, rfl⟩ := flat_nil hF
      exact ⟨_, rfl, .inr ⟨_, _, _, rfl, hI⟩⟩
    | cons t S =>
      obtain ⟨htr, hrt⟩ := hI.el t (by rw [hF]; simp)
      have hbd := hI.bd
      rw [hF] at hbd
      have hS : S.length ≤ 50000 := by simp at hbd; omega
      have hl := hI.ok.sl
      have hll := hI.ok.ll
      have e1 : idx st t = some (at_ st t) := at_idx (by omega)
      have e2 : idx lg t = some (at_ lg t) := at_idx (by omega)
      rw [c1 (show decide (0 < ((t :: S).reverse.length : Int)) = true by simp), top_idx (by omega), Option.bind_some, e1, Option.bind_some]
      by_cases h2 : at_ st t = 2
      · rw [c1 (b := at_ st t == 2) (by simp [h2]), top_sub (by omega), Option.bind_some]
        obtain ⟨fs', q', hf', hI'⟩ := hI.pop hF h2
        exact ⟨_, rfl, ⟨fs', q', by rw [hf'], hI'⟩, by simp⟩
      · rw [c0 (b := at_ st t == 2) (by simp [h2]), Option.bind_some, Option.bind_some, Option.bind_some, show bound_graph_on g t = some t from rfl, Option.bind_some]
        have hsl : (List.set st t.toNat 1).length = g.code.length := by simp [hl]
        obtain ⟨z, hz, hcs⟩ := cbk_fold (g := g) (st := List.set st t.toNat 1) (lg := lg) (at_ st t) hsl hll x4 (scG g t) (t :: S).reverse 0 (fun s hs => sc_in hs) (by have := sc_len (g := g) t hb; simp; omega)
        refine bex (on_p htr hb hz) ?_
        by_cases h0 : at_ st t = 0
        · obtain ⟨k1, k2⟩ := hI.one hF h0
          rcases hcs with ⟨s, hs, h1, a, b, rfl⟩ | ⟨hno, rfl⟩
          · exact ⟨_, rfl, .inl ⟨_, rfl, k1 ⟨s, hs, h1⟩⟩⟩
          · obtain ⟨fs', q', hf', hI', hm⟩ := k2 hno
            refine ⟨.go (List.set st t.toNat 1, lg, x4, (flatW fs' q').reverse), ?_, ⟨fs', q', rfl, hI'⟩, by rw [hF] at hm; simpa using hm⟩
            show (bif !(at_ st t == 0) then _ else _) = _
            rw [c0 (b := !(at_ st t == 0)) (by simp [h0]), hf']
            unfold psh
            rw [c1 (b := at_ st t == 0) (by simp [h0])]
            simp
        · have h1 : at_ st t = 1 := by have := hI.ok.vs t htr; omega
          obtain ⟨hk, ⟨m0, m1⟩, fs', hf', hI', hm⟩ := hI.two hc hF h1
          have hst : ∀ v, InR g v → at_ (List.set st t.toNat 1) v = at_ st v := fun v hv => by
            rw [upd_at 1 hl htr hv]
            split
            · rename_i e; rw [e, h1]
            · rfl
          rcases hcs with ⟨s, hs, h1', a, b, rfl⟩ | ⟨hno, rfl⟩
          · exfalso
            rw [hst s (sc_in hs), hk s hs] at h1'
            omega
          · refine ⟨.go (List.set st t.toNat 2, List.set lg t.toNat (mxA lg (scG g t) 0 + 1), x4, S.reverse), ?_, ⟨fs', q, by rw [hf'], hI'⟩, by rw [hF] at hm; simpa using hm⟩
            show (bif !(at_ st t == 0) then _ else _) = _
            rw [c1 (b := !(at_ st t == 0)) (by simp [h0])]
            have hfil : (scG g t).filter (fun s => at_ (List.set st t.toNat 1) s == 2) = scG g t := List.filter_eq_self.2 fun s hs => by rw [hst s (sc_in hs), hk s hs]; rfl
            unfold psh
            rw [c0 (b := at_ st t == 0) (by simp [h0]), List.append_nil, hfil, show idx (List.set st t.toNat 1) t = some (at_ (List.set st t.toNat 1) t) from at_idx (by omega), e2, top_sub (by omega)]
            simp only [Option.bind_some]
            rw [w64 (x := mxA lg (scG g t) 0 + 1) (by omega), List.set_set]
  · rintro o (⟨w, rfl, hr⟩ | ⟨st, lg, b, rfl, hI⟩)
    · exact ⟨_, rfl, .inl ⟨rfl, hr⟩⟩
    · refine ⟨_, rfl, .inr ⟨rfl, st, lg, rfl, hI.ok, fun v hv h1 => ?_, ?_, hI.mo⟩⟩
      · have := (hI.gr v hv).1 h1
        simp at this
      · rcases hI.dn with d | d
        · simp [flatW] at d
        · exact d
theorem mxA_app (lg : List Int) : ∀ (l k : List Int) (m : Int), mxA lg (l ++ k) m = mxA lg k (mxA lg l m)
  | [], k, m => rfl
  | s :: l, k, m => mxA_app lg l k _
def stK (g : BoundGraph) (k : Nat) : List Int := ((g.marks.take k).map fun m => IntKind.wrap .i64 (m + 1)).filter (inb g.code.length)
theorem stK_succ {g : BoundGraph} {k : Nat} (h : k < g.marks.length) : stK g (k + 1) = stK g k ++ [IntKind.wrap .i64 (g.marks[k] + 1)].filter (inb g.code.length) := by
  unfold stK
  rw [List.take_succ_eq_append_getElem h, List.map_append, List.filter_append]
  rfl
theorem stK_all (g : BoundGraph) : stK g g.marks.length = stG g := by unfold stK stG; rw [List.take_length]
def Found (g : BoundGraph) (r : Option Int) : Prop := match r with
  | none => ∃ s ∈ stG g, Rnd g s
  | some x => ∃ st lg, OkK g st lg ∧ (∀ s ∈ stG g, at_ st s = 2) ∧ x = mxA lg (stG g) 0
theorem ok_zero {g : BoundGraph} : OkK g (List.replicate g.code.length 0) (List.replicate g.code.length 0) := by
  have hz : ∀ v, InR g v → at_ (List.replicate g.code.length (0 : Int)) v = 0 := fun v hv => by
    unfold at_
    rw [List.getD_eq_getElem?_getD, List.getElem?_replicate, if_pos (by omega)]
    rfl
  exact ⟨by simp, by simp, fun v hv => .inl (hz v hv), fun v hv h => (by rw [hz v hv] at h; omega), fun v hv h => (by rw [hz v hv] at h; omega), fun v hv h => (by rw [hz v hv] at h; omega)⟩
theorem Region_p {g : GImage} {x : BoundGraph} {mk : Int} (hr : bound_read g = some (.error (x, 0))) (hm : 0 < x.marks.length) (hml : x.marks.length ≤ 200) (hb : x.backs.length ≤ 200) (hc : x.code.length ≤ 200) (hmk : bound_graph_mark x = some mk) (h0 : 0 ≤ mk) :
    ∃ r, bound_Region g = some r ∧ ∃ f, Found x f ∧ r = (match f with | none => (0, 9) | some y => (IntKind.wrap .i64 (y + mk), 0)) := by
  unfold bound_Region
  rw [hr, Option.bind_some]
  unfold exC
  dsimp only
  rw [c0 (b := (0 : Int) != 0) (by simp), c0 (b := (x.marks.length : Int) == 0) (beq_eq_false_iff_ne.2 (by omega)), hmk, Option.bind_some, c0 (b := decide (mk < 0)) (df (by omega))]
  unfold repl
  rw [if_pos (by omega), Option.bind_some, show ((x.code.length : Int)).toNat = x.code.length by omega]
  refine loop_ex (fun s => ∃ (k : Nat) (st lg : List Int), k ≤ x.marks.length ∧ s = (mxA lg (stK x k) 0, (k : Int), x, ⟨x, st, lg⟩) ∧ OkK x st lg ∧ (∀ v, InR x v → at_ st v ≠ 1) ∧ ∀ s ∈ stK x k, at_ st s = 2) (fun s => x.marks.length - s.2.1.toNat)
    (fun o => (o = .ret (0, 9) ∧ ∃ s ∈ stG x, Rnd x s) ∨ ∃ st lg j w, o = .brk (mxA lg (stG x) 0, j, x, w) ∧ OkK x st lg ∧ ∀ s ∈ stG x, at_ st s = 2)
    ⟨0, _, _, by omega, rfl, ok_zero, fun v hv h => ?_, by simp [stK]⟩ (NN_big (by simp; omega)) ?_ ?_
  · unfold at_ at h
    rw [List.getD_eq_getElem?_getD, List.getElem?_replicate, if_pos (by omega)] at h
    simp at h
  · rintro _ ⟨k, st, lg, hk, rfl, hK, hG, hs⟩
    dsimp only
    by_cases h : k < x.marks.length
    · rw [c1 (dlt h)]
      unfold jn
      dsimp only
      have hw : IntKind.wrap .i64 ((k : Int) + 1) = ((k + 1 : Nat) : Int) := w64n (by omega)
      rw [idx_get h, Option.bind_some, show bound_graph_has x (IntKind.wrap .i64 (x.marks[k] + 1)) = some (inb x.code.length (IntKind.wrap .i64 (x.marks[k] + 1))) from rfl, Option.bind_some, hw]
      have hsk := stK_succ h
      revert hsk
      generalize hn : IntKind.wrap .i64 (x.marks[k] + 1) = n
      intro hsk
      cases hi : inb x.code.length n
      · have e : stK x (k + 1) = stK x k := by rw [hsk]; simp [hi]
        exact ⟨_, rfl, ⟨k + 1, st, lg, by omega, by rw [e], hK, hG, by rw [e]; exact hs⟩, by simp; omega⟩
      · have hin := inb_iff.1 hi
        have e : stK x (k + 1) = stK x k ++ [n] := by rw [hsk]; simp [hi]
        rw [Bool.not_true, cond_false]
        obtain ⟨r, hr, hc⟩ := from_law hb hc hin hK hG
        rw [hr, Option.bind_some]
        rcases hc with ⟨h1, hrd⟩ | ⟨h1, st', lg', h2, hK', hG', hn', hmo⟩
        · rw [h1]
          refine ⟨_, rfl, .inl ⟨rfl, n, ?_, hrd⟩⟩
          unfold stG
          rw [List.mem_filter]
          exact ⟨List.mem_map.2 ⟨x.marks[k], List.getElem_mem h, hn⟩, hi⟩
        · rw [h1, h2, Bool.not_true, cond_false, show idx lg' n = some (at_ lg' n) from at_idx (by have := hK'.ll; omega), Option.bind_some]
          have hin' : ∀ s ∈ stK x k, InR x s := fun s hs => inb_iff.1 (List.mem_filter.1 hs).2
          have e2 : mxA lg' (stK x (k + 1)) 0 = max (mxA lg (stK x k) 0) (at_ lg' n) := by
            rw [e, mxA_app, mxA_congr (lg := lg') (lg' := lg) (stK x k) 0 fun s h => (hmo s (hin' s h) (hs s h)).2]
            rfl
          refine ⟨_, rfl, ⟨k + 1, st', lg', by omega, by rw [e2], hK', hG', fun s h => ?_⟩, by simp; omega⟩
          rw [e] at h
          rcases List.mem_append.1 h with h | h
          · exact (hmo s (hin' s h) (hs s h)).1
          · simp at h; rw [h]; exact hn'
    · have hkn : k = x.marks.length := by omega
      subst hkn
      rw [c0 (dge _)]
      rw [stK_all] at hs ⊢
      exact ⟨_, rfl, .inr ⟨_, _, _, _, rfl, hK, hs⟩⟩
  · rintro o (⟨rfl, h⟩ | ⟨st, lg, j, w, rfl, hK, hs⟩)
    · exact ⟨_, rfl, none, h, rfl⟩
    · refine ⟨(IntKind.wrap .i64 (mxA lg (stG x) 0 + mk), 0), ?_, some _, ⟨st, lg, hK, hs, rfl⟩, rfl⟩
      show ((bound_graph_mark x).bind _) = _
      rw [hmk]
      rfl
def bat (l : List Bool) (v : Int) : Bool := l.getD v.toNat false
theorem bat_idx {l : List Bool} {n : Int} (h : 0 ≤ n ∧ n < (l.length : Int)) : idx l n = some (bat l n) := idx_at false h
theorem bat_set {l : List Bool} {u v : Int} {x : Bool} (hu : 0 ≤ u ∧ u < (l.length : Int)) (hv : 0 ≤ v) : bat (List.set l u.toNat x) v = if v = u then x else bat l v := by
  unfold bat
  rw [List.getD_eq_getElem?_getD, List.getD_eq_getElem?_getD, List.getElem?_set]
  by_cases h : v = u
  · subst h; rw [if_pos rfl, if_pos rfl, if_pos (by omega)]; rfl
  · rw [if_neg (by omega), if_neg h]
def potB (g : BoundGraph) (out : List Bool) : Nat := sumTo (fun k => if bat out (k : Int) = false then (scG g (k : Int)).length + 1 else 0) g.code.length
theorem potB_le (g : BoundGraph) (out : List Bool) (hb : g.backs.length ≤ 200) (hl : g.code.length ≤ 200) : potB g out ≤ 40200 := by
  have := sumTo_le (f := fun k => if bat out (k : Int) = false then (scG g (k : Int)).length + 1 else 0) (h := fun _ => 201) (n := g.code.length) fun k _ => by
    have := sc_len (g := g) (k : Int) hb
    split <;> omega
  rw [sumTo_const] at this
  unfold potB
  have h2 : g.code.length * 201 ≤ 200 * 201 := Nat.mul_le_mul_right _ hl
  omega
theorem potB_one {g : BoundGraph} {out : List Bool} {t : Int} (hl : out.length = g.code.length) (ht : InR g t) (h0 : bat out t = false) : potB g (List.set out t.toNat true) + ((scG g t).length + 1) = potB g out := by
  obtain ⟨h1, h2⟩ := toNat_in ht
  have := sumTo_upd (f := fun k => if bat (List.set out t.toNat true) (k : Int) = false then (scG g (k : Int)).length + 1 else 0) (h := fun k => if bat out (k : Int) = false then (scG g (k : Int)).length + 1 else 0) h1 fun k hk hne => by
    rw [bat_set (by omega) (by omega), if_neg (show ¬ ((k : Int) = t) by omega)]
  rw [h2, bat_set (by omega) ht.1, if_pos rfl, if_pos h0, if_neg (by simp)] at this
  unfold potB
  omega
structure Jr (g : BoundGraph) (out : List Bool) (todo : List Int) (k : Nat) : Prop where
  ol : out.length = g.code.length
  kl : k ≤ todo.length
  al : ∀ e ∈ todo, InR g e ∧ ∃ s ∈ stG g, Rch g s e
  st : ∀ s ∈ stG g, s ∈ todo
  ot : ∀ v, InR g v → bat out v = true → v ∈ todo
  dn : ∀ e ∈ todo.take k, bat out e = true
  cl : ∀ v, InR g v → bat out v = true → ∀ s ∈ scG g v, s ∈ todo
  bd : todo.length + potB g out ≤ 60000
theorem app_loop {A : Type} {y : List Int} {x : List Int} {K : Lp (List Int × Int) Unit → Option A} {X : Option A} (hx : x.length + y.length ≤ 1000000) (hX : K (.brk (x ++ y, (y.length : Int))) = X) :
    (loopM (fun (x8, x9) => (bif decide (x9 < (List.length y : Int)) then ((idx y x9).bind fun u9 => (room (List.length x8 + List.length ([u9] : List Int))).bind fun _ => some (Lp.go (x8 ++ ([u9] : List Int), IntKind.wrap .i64 (x9 + 1)))) else (some (Lp.brk (x8, x9))) : Option (Lp ((List Int) × Int) (Unit)))) NN (x, (0 : Int))).bind K = X := by
  refine run_bind (fun k => (x ++ y.take k, (k : Int))) y.length (.brk (x ++ y, (y.length : Int))) (by simp) (by omega) (fun k hk => ?_) ?_ trivial hX
  · dsimp only
    rw [c1 (dlt hk), idx_get hk, Option.bind_some, room_ok (by simp; omega), Option.bind_some, w64n (by omega), List.take_succ_eq_append_getElem hk, List.append_assoc]
  · dsimp only
    rw [c0 (dge _), List.take_length]
theorem st_loop {A : Type} {g : BoundGraph} (hm : g.marks.length ≤ 200) {K : Lp (List Int × Int) Unit → Option A} {X : Option A} (hX : K (.brk (g.marks.map fun m => IntKind.wrap .i64 (m + 1), (g.marks.length : Int))) = X) :
    (loopM (fun (x1, x2) => (bif decide (x2 < (List.length (toRef g).Marks : Int)) then ((idx (toRef g).Marks x2).bind fun u2 => (room (List.length x1 + List.length ([IntKind.wrap .i64 (u2 + 1)] : List Int))).bind fun _ => some (Lp.go (x1 ++ ([IntKind.wrap .i64 (u2 + 1)] : List Int), IntKind.wrap .i64 (x2 + 1)))) else (some (Lp.brk (x1, x2))) : Option (Lp ((List Int) × Int) (Unit)))) NN ([], (0 : Int))).bind K = X := by
  refine map_bind g.marks (fun m => IntKind.wrap .i64 (m + 1)) (by omega) (fun k hk => ?_) ?_ hX
  · show (bif decide ((k : Int) < (g.marks.length : Int)) then ((idx g.marks k).bind _) else _) = _
    rw [c1 (dlt hk), idx_get hk, Option.bind_some, room_ok (by simp; omega), Option.bind_some]
  · show (bif decide ((g.marks.length : Int) < (g.marks.length : Int)) then _ else _) = _
    rw [c0 (dge _)]
theorem reach_r {g : BoundGraph} (hb : g.backs.length ≤ 200) (hc : g.code.length ≤ 200) (hm : g.marks.length ≤ 200) :
    ∃ out, ref30_reach (toRef g) = some out ∧ (out.length = g.code.length ∧ ∀ v, InR g v → (bat out v = true ↔ ∃ s ∈ stG g, Rch g s v)) := by
  unfold ref30_reach
  unfold repl
  rw [show (toRef g).L = g.code from rfl, if_pos (by omega), Option.bind_some, show ((g.code.length : Int)).toNat = g.code.length by omega]
  obtain ⟨r, h1, h2⟩ : ∃ r, ((ref30_in (toRef g) (g.marks.map fun m => IntKind.wrap .i64 (m + 1))).bind fun y1 => (loopM (fun (x3, x4, x5) => (bif decide (x5 < (List.length x4 : Int)) then (jn (fun kk1 => (idx x4 x5).bind fun u3 => (idx x3 u3).bind fun u4 => bif u4 then (kk1 x3 x4) else ((idx x4 x5).bind fun u5 => (idx x3 u5).bind fun u6 => (idx x3 u5).bind fun u7 => (idx x4 x5).bind fun u8 => (ref30_Leads (toRef g) u8).bind fun y2 => (loopM (fun (x8, x9) => (bif decide (x9 < (List.length y2 : Int)) then ((idx y2 x9).bind fun u9 => (room (List.length x8 + List.length ([u9] : List Int))).bind fun _ => some (Lp.go (x8 ++ ([u9] : List Int), IntKind.wrap .i64 (x9 + 1)))) else (some (Lp.brk (x8, x9))) : Option (Lp ((List Int) × Int) (Unit)))) NN (x4, (0 : Int))).bind fun o => o.thn (fun (x8, x9) => kk1 (List.set x3 (Int.toNat u5) true) x8) (fun _ => none))) (fun (x6 : List Bool) (x7 : List Int) => some (Lp.go (x6, x7, IntKind.wrap .i64 (x5 + 1))))) else (some (Lp.brk (x3, x4, x5))) : Option (Lp ((List Bool) × (List Int) × Int) (Unit)))) NN (List.replicate g.code.length false, y1, (0 : Int))).bind fun o => o.thn (fun (x3, x4, x5) => some x3) (fun _ => none)) = some r ∧ (r.length = g.code.length ∧ ∀ v, InR g v → (bat r v = true ↔ ∃ s ∈ stG g, Rch g s v)) := by
    have hsl : (stG g).length ≤ 200 := Nat.le_trans (List.length_filter_le _ _) (by simp; omega)
    rw [in_r _ _ (by simp; omega), Option.bind_some]
    change ∃ r, (loopM _ NN (List.replicate g.code.length false, stG g, (0 : Int))).bind _ = some r ∧ _
    have hp := potB_le g (List.replicate g.code.length false) hb hc
    have hz : ∀ v, InR g v → bat (List.replicate g.code.length false) v = false := fun v hv => by
      unfold bat
      rw [List.getD_eq_getElem?_getD, List.getElem?_replicate, if_pos (by omega)]
      rfl
    refine loop_ex (fun s => ∃ k : Nat, s.2.2 = (k : Int) ∧ Jr g s.1 s.2.1 k) (fun s => s.2.1.length - s.2.2.toNat + potB g s.1)
      (fun o => ∃ out todo j, o = .brk (out, todo, j) ∧ Jr g out todo todo.length) ⟨0, rfl, by simp, by omega, fun e he => ⟨inb_iff.1 (List.mem_filter.1 he).2, e, he, .refl _⟩, fun s h => h, fun v hv h => (by rw [hz v hv] at h; cases h), by simp, fun v hv h => (by rw [hz v hv] at h; cases h), by dsimp only; omega⟩ (NN_big (by simp; omega)) ?_ ?_
    · rintro ⟨out, todo, _⟩ ⟨k, rfl, hJ⟩
      dsimp only at hJ ⊢
      obtain ⟨j1, j2, j3, j4, j5, j6, j7, j8⟩ := hJ
      by_cases h : k < todo.length
      · rw [c1 (dlt h)]
        unfold jn
        dsimp only
        have hw : IntKind.wrap .i64 ((k : Int) + 1) = ((k + 1 : Nat) : Int) := w64n (by omega)
        obtain ⟨hin, s0, hs0, hr0⟩ := j3 _ (List.getElem_mem h)
        rw [idx_get h, Option.bind_some, bat_idx (l := out) (n := todo[k]) (by omega), Option.bind_some, hw]
        have htk := List.take_succ_eq_append_getElem h
        have hmem := List.getElem_mem h
        revert hin hr0 htk hmem
        generalize todo[k] = t
        intro hin hr0 htk hmem
        cases hbt : bat out t
        · have ei : idx out t = some false := by rw [bat_idx (l := out) (n := t) (by omega), hbt]
          rw [cond_false, Option.bind_some, ei, Option.bind_some, Option.bind_some, Option.bind_some, leads_r hin hb, Option.bind_some]
          have hsc := sc_len (g := g) t hb
          rw [app_loop (X := some (.go (List.set out t.toNat true, todo ++ scG g t, ((k + 1 : Nat) : Int)))) (by omega) rfl]
          have hpo := potB_one j1 hin hbt
          have ub : ∀ v, InR g v → bat (List.set out t.toNat true) v = if v = t then true else bat out v := fun v hv => bat_set (by omega) hv.1
          refine ⟨_, rfl, ⟨k + 1, rfl, by simp [j1], by simp; omega, fun e he => ?_, fun s hs => by simp [j4 s hs], fun v hv hv1 => ?_, fun e he => ?_, fun v hv hv1 s hs => ?_, by simp; omega⟩, by simp; omega⟩
          · rcases List.mem_append.1 he with he | he
            · exact j3 e he
            · exact ⟨sc_in he, s0, hs0, hr0.tail he⟩
          · rw [ub v hv] at hv1
            by_cases e : v = t
            · rw [e]; simp [hmem]
            · rw [if_neg e] at hv1
              simp [j5 v hv hv1]
          · rw [List.take_append_of_le_length (by omega), htk] at he
            rcases List.mem_append.1 he with he | he
            · rw [ub e (j3 e (List.mem_of_mem_take he)).1]
              split
              · rfl
              · exact j6 e he
            · simp at he
              rw [he, ub t hin, if_pos rfl]
          · rw [ub v hv] at hv1
            by_cases e : v = t
            · rw [e] at hs; simp [hs]
            · rw [if_neg e] at hv1
              simp [j7 v hv hv1 s hs]
        · rw [cond_true]
          refine ⟨_, rfl, ⟨k + 1, rfl, j1, by dsimp only; omega, j3, j4, j5, fun e he => ?_, j7, j8⟩, by simp; omega⟩
          rw [htk] at he
          rcases List.mem_append.1 he with he | he
          · exact j6 e he
          · simp at he
            rw [he]; exact hbt
      · have hkn : k = todo.length := by omega
        subst hkn
        rw [c0 (dge _)]
        exact ⟨_, rfl, _, _, _, rfl, j1, j2, j3, j4, j5, j6, j7, j8⟩
    · rintro o ⟨out, todo, j, rfl, hJ⟩
      obtain ⟨j1, j2, j3, j4, j5, j6, j7, j8⟩ := hJ
      rw [List.take_length] at j6
      refine ⟨out, rfl, j1, fun v hv => ⟨fun h => (j3 v (j5 v hv h)).2, fun ⟨s, hs, hr⟩ => ?_⟩⟩
      have : InR g v ∧ bat out v = true := by
        clear hv
        induction hr with
        | refl => exact ⟨(j3 _ (j4 _ hs)).1, j6 _ (j4 _ hs)⟩
        | tail _ hc ih => exact ⟨sc_in hc, j6 _ (j7 _ (ih ⟨s, hs, by assumption⟩).1 (ih ⟨s, hs, by assumption⟩).2 _ hc)⟩
      exact this.2
  refine ⟨r, ?_, h2⟩
  refine st_loop hm ?_
  exact h1
theorem mxA_mono {L L' : List Int} : ∀ (l : List Int) (m m' : Int), m ≤ m' → (∀ s ∈ l, at_ L s ≤ at_ L' s) → mxA L l m ≤ mxA L' l m'
  | [], m, m', h, _ => h
  | s :: l, m, m', h, hl => mxA_mono l _ _ (by have := hl s (by simp); omega) fun x hx => hl x (by simp [hx])
theorem mxA_get (L : List Int) : ∀ (l : List Int) (m : Int), mxA L l m = m ∨ ∃ s ∈ l, mxA L l m = at_ L s
  | [], m => .inl rfl
  | s :: l, m => by
    rcases mxA_get L l (max m (at_ L s)) with h | ⟨x, hx, h⟩
    · rcases Int.le_total m (at_ L s) with q | q
      · exact .inr ⟨s, by simp, by unfold mxA; rw [h]; omega⟩
      · exact .inl (by unfold mxA; rw [h]; omega)
    · exact .inr ⟨x, by simp [hx], h⟩
def nxG (g : BoundGraph) (L : List Int) (v : Int) : Int := mxA L (scG g v) 0 + 1
theorem most_loop {A : Type} {y L : List Int} {K : Lp (Int × Int) Unit → Option A} {X : Option A} (hL : ∀ s ∈ y, 0 ≤ s ∧ s < (L.length : Int)) (hb : ∀ s ∈ y, 0 ≤ at_ L s ∧ at_ L s ≤ 1000000) (hy : y.length ≤ 1000)
    (hX : K (.brk (mxA L y 0 + 1, (y.length : Int))) = X) :
    (loopM (fun (x9, x10) => (bif decide (x10 < (List.length y : Int)) then ((idx y x10).bind fun u3 => (idx L u3).bind fun u4 => some (Lp.go (max x9 (IntKind.wrap .i64 (u4 + 1)), IntKind.wrap .i64 (x10 + 1)))) else (some (Lp.brk (x9, x10))) : Option (Lp (Int × Int) (Unit)))) NN ((1 : Int), (0 : Int))).bind K = X := by
  refine run_bind (fun k => (mxA L (y.take k) 0 + 1, (k : Int))) y.length (.brk (mxA L y 0 + 1, (y.length : Int))) rfl (by omega) (fun k hk => ?_) ?_ trivial hX
  · dsimp only
    have h1 := hL _ (List.getElem_mem hk)
    have h2 := hb _ (List.getElem_mem hk)
    rw [c1 (dlt hk), idx_get hk, Option.bind_some, at_idx h1, Option.bind_some, w64n (by omega), w64 (x := at_ L y[k] + 1) (by omega), List.take_succ_eq_append_getElem hk, mxA_app]
    show some (Lp.go (max (mxA L (List.take k y) 0 + 1) (at_ L y[k] + 1), ((k + 1 : Nat) : Int))) = some (Lp.go (max (mxA L (List.take k y) 0) (at_ L y[k]) + 1, ((k + 1 : Nat) : Int)))
    rw [show max (mxA L (List.take k y) 0 + 1) (at_ L y[k] + 1) = max (mxA L (List.take k y) 0) (at_ L y[k]) + 1 by omega]
  · dsimp only
    rw [c0 (dge _), List.take_length]
def Lim (g : BoundGraph) (out : List Bool) (lg : List Int) : Prop := ∀ u, InR g u → bat out u = true → at_ lg u = nxG g lg u ∧ ∀ s ∈ scG g u, bat out s = true
structure Pw (g : BoundGraph) (out : List Bool) (L0 : List Int) (C : Int) (L : List Int) (gr : Bool) (v : Int) : Prop where
  ll : L.length = g.code.length
  mo : ∀ u, InR g u → at_ L0 u ≤ at_ L u
  bd : ∀ u, InR g u → 0 ≤ at_ L u ∧ at_ L u ≤ C + ((g.code.length : Int) - 1 - v)
  nf : gr = false → L = L0 ∧ ∀ u, InR g u → v < u → bat out u = true → nxG g L u ≤ at_ L u
  gt : gr = true → ∃ u, InR g u ∧ bat out u = true ∧ at_ L0 u < at_ L u
  up : ∀ lg, Lim g out lg → (∀ u, InR g u → bat out u = true → at_ L0 u ≤ at_ lg u) → (∀ u, InR g u → bat out u = true → at_ L u ≤ at_ lg u) ∧
    ∀ j : Int, 0 ≤ j → (∀ u, InR g u → bat out u = true → min j (at_ lg u) ≤ at_ L0 u) → ∀ u, InR g u → v < u → bat out u = true → min (j + 1) (at_ lg u) ≤ at_ L u
theorem Pw.skip {g : BoundGraph} {out : List Bool} {L0 L : List Int} {C v : Int} {gr : Bool} (h : Pw g out L0 C L gr v) (hb : bat out v = false) : Pw g out L0 C L gr (v - 1) := by
  have hne : ∀ u, v - 1 < u → bat out u = true → v < u := fun u h1 h2 => by
    have : u ≠ v := fun e => by rw [e, hb] at h2; cases h2
    omega
  exact ⟨h.ll, h.mo, fun u hu => by have := h.bd u hu; omega, fun e => ⟨(h.nf e).1, fun u hu h1 h2 => (h.nf e).2 u hu (hne u h1 h2) h2⟩, h.gt, fun lg h1 h2 => ⟨(h.up lg h1 h2).1, fun j h3 h4 u hu h5 h6 => (h.up lg h1 h2).2 j h3 h4 u hu (hne u h5 h6) h6⟩⟩
theorem low_nx {g : BoundGraph} {out : List Bool} {L0 L lg : List Int} {v j : Int} (hv : InR g v) (hb : bat out v = true) (hl : Lim g out lg) (hm : ∀ u, InR g u → at_ L0 u ≤ at_ L u) (hj : 0 ≤ j) (h : ∀ u, InR g u → bat out u = true → min j (at_ lg u) ≤ at_ L0 u) : min (j + 1) (at_ lg v) ≤ nxG g L v := by
  obtain ⟨e, hs⟩ := hl v hv hb
  have m0 := mxA_ge L (scG g v) 0
  unfold nxG at e ⊢
  rcases mxA_get lg (scG g v) 0 with q | ⟨s, hm1, q⟩
  · rw [e, q]; omega
  · have h1 := h s (sc_in hm1) (hs s hm1)
    have h2 := hm s (sc_in hm1)
    have h3 := mxA_mem L (scG g v) 0 s hm1
    rw [e, q]; omega
theorem Pw.keep {g : BoundGraph} {out : List Bool} {L0 L : List Int} {C v : Int} {gr : Bool} (h : Pw g out L0 C L gr v) (hv : InR g v) (hb : bat out v = true) (hx : nxG g L v ≤ at_ L v) : Pw g out L0 C L gr (v - 1) := by
  refine ⟨h.ll, h.mo, fun u hu => by have := h.bd u hu; omega, fun e => ⟨(h.nf e).1, fun u hu h1 h2 => ?_⟩, h.gt, fun lg h1 h2 => ⟨(h.up lg h1 h2).1, fun j h3 h4 u hu h5 h6 => ?_⟩⟩
  · by_cases e' : u = v
    · rw [e']; exact hx
    · exact (h.nf e).2 u hu (by omega) h2
  · by_cases e' : u = v
    · rw [e']; exact Int.le_trans (low_nx hv hb h1 h.mo h3 h4) hx
    · exact (h.up lg h1 h2).2 j h3 h4 u hu (by omega) h6
theorem Pw.grow {g : BoundGraph} {out : List Bool} {L0 L : List Int} {C v : Int} {gr : Bool} (h : Pw g out L0 C L gr v) (hv : InR g v) (hb : bat out v = true) (hx : at_ L v < nxG g L v) : Pw g out L0 C (List.set L v.toNat (nxG g L v)) true (v - 1) := by
  have ua : ∀ u, InR g u → at_ (List.set L v.toNat (nxG g L v)) u = if u = v then nxG g L v else at_ L u := fun u hu => upd_at _ h.ll hv hu
  have hnb : 0 ≤ nxG g L v ∧ nxG g L v ≤ C + ((g.code.length : Int) - 1 - v) + 1 := by
    have h0 := h.bd v hv
    have m0 := mxA_ge L (scG g v) 0
    have m1 := mxA_le L (c := C + ((g.code.length : Int) - 1 - v)) (scG g v) 0 (by omega) fun s hs => (h.bd s (sc_in hs)).2
    unfold nxG
    omega
  refine ⟨by simp [h.ll], fun u hu => ?_, fun u hu => ?_, fun e => (by cases e), fun _ => ⟨v, hv, hb, ?_⟩, fun lg h1 h2 => ⟨fun u hu h3 => ?_, fun j h3 h4 u hu h5 h6 => ?_⟩⟩
  · have := h.mo u hu
    rw [ua u hu]
    split
    · rename_i e; rw [e] at this ⊢; omega
    · exact this
  · rw [ua u hu]
    split
    · omega
    · have := h.bd u hu; omega
  · rw [ua v hv, if_pos rfl]
    have := h.mo v hv
    omega
  · rw [ua u hu]
    split
    · rename_i e
      obtain ⟨q1, q2⟩ := h1 v hv hb
      have := mxA_mono (L := L) (L' := lg) (scG g v) 0 0 (Int.le_refl _) fun s hs => (h.up lg h1 h2).1 s (sc_in hs) (q2 s hs)
      rw [e, q1]
      unfold nxG
      omega
    · exact (h.up lg h1 h2).1 u hu h3
  · rw [ua u hu]
    split
    · rename_i e; rw [e]; exact low_nx hv hb h1 h.mo h3 h4
    · exact (h.up lg h1 h2).2 j h3 h4 u hu (by omega) h6
structure Ot (g : BoundGraph) (out : List Bool) (L : List Int) (gr : Bool) (j : Int) : Prop where
  ll : L.length = g.code.length
  j0 : 0 ≤ j ∧ j ≤ (g.code.length : Int) + 2
  bd : ∀ u, InR g u → 0 ≤ at_ L u ∧ at_ L u ≤ j * (g.code.length : Int)
  fp : gr = false → ∀ u, InR g u → bat out u = true → nxG g L u ≤ at_ L u
  up : ∀ lg, Lim g out lg → (∀ u, InR g u → bat out u = true → 1 ≤ at_ lg u ∧ at_ lg u ≤ (g.code.length : Int)) → (∀ u, InR g u → bat out u = true → at_ L u ≤ at_ lg u) ∧ (∀ u, InR g u → bat out u = true → min j (at_ lg u) ≤ at_ L u) ∧ (gr = true → j ≤ (g.code.length : Int))
theorem Ot.start {g : BoundGraph} {out : List Bool} {L : List Int} {j : Int} (h : Ot g out L true j) : Pw g out L (j * (g.code.length : Int)) L false ((g.code.length : Int) - 1) :=
  ⟨h.ll, fun u _ => Int.le_refl _, fun u hu => by have := h.bd u hu; omega, fun _ => ⟨rfl, fun u hu h1 => by omega⟩, fun e => (by cases e), fun lg _ h2 => ⟨h2, fun j _ _ u hu h5 => by omega⟩⟩
theorem Ot.next {g : BoundGraph} {out : List Bool} {L L' : List Int} {gr : Bool} {j : Int} (h : Ot g out L true j) (hj : j ≤ (g.code.length : Int) + 1) (p : Pw g out L (j * (g.code.length : Int)) L' gr (-1)) : Ot g out L' gr (j + 1) := by
  obtain ⟨h1, h2, h3, h4, h5⟩ := h
  refine ⟨p.ll, by omega, fun u hu => ?_, fun e u hu hb => (p.nf e).2 u hu (by omega) hb, fun lg k1 k2 => ?_⟩
  · have := p.bd u hu
    rw [Int.add_mul]
    omega
  · obtain ⟨q1, q2, q3⟩ := h5 lg k1 k2
    obtain ⟨r1, r2⟩ := p.up lg k1 q1
    refine ⟨r1, fun u hu hb => r2 j h2.1 q2 u hu (by omega) hb, fun e => ?_⟩
    obtain ⟨u, hu, hb, hlt⟩ := p.gt e
    have a1 := r1 u hu hb
    have a2 := q2 u hu hb
    have a3 := k2 u hu hb
    have a4 := q3 rfl
    omega
def FoundR (g : BoundGraph) (r : Option Int) : Prop := ∃ out : List Bool, (∀ v, InR g v → (bat out v = true ↔ ∃ s ∈ stG g, Rch g s v)) ∧ match r with
  | none => ∀ lg, Lim g out lg → ¬ ∀ u, InR g u → bat out u = true → 1 ≤ at_ lg u ∧ at_ lg u ≤ (g.code.length : Int)
  | some x => ∃ L, (∀ u, InR g u → bat out u = true → nxG g L u ≤ at_ L u) ∧ x = mxA L (stG g) 0 ∧ ∀ lg, Lim g out lg → (∀ u, InR g u → bat out u = true → 1 ≤ at_ lg u ∧ at_ lg u ≤ (g.code.length : Int)) → ∀ u, InR g u → bat out u = true → at_ L u ≤ at_ lg u
theorem Region_r {l : List Int} {g : BoundGraph} {mk : Int} (hr : ref30_Read l = some (toRef g, 0)) (hG : GOk g.code.length g) (hc : g.code.length ≤ 200) (hm : 0 < g.marks.length) (hmk : ref30_mark (toRef g) = some mk) (h0 : mk ≠ 0) :
    ∃ r, ref30_Region l = some r ∧ ∃ f, FoundR g f ∧ r = (match f with | none => (0, 9) | some y => (IntKind.wrap .i64 (y + mk), 0)) := by
  have hb : g.backs.length ≤ 200 := by have := hG.bl; omega
  have hml : g.marks.length ≤ 200 := by have := hG.ml; omega
  obtain ⟨out, ho, hol, hor⟩ := reach_r hb hc hml
  unfold ref30_Region
  rw [hr, Option.bind_some, c0 (b := (toRef g, (0 : Int)).2 != 0) (by simp), c0 (b := (List.length (toRef g, (0 : Int)).1.Marks : Int) == 0) (beq_eq_false_iff_ne.2 (by show (g.marks.length : Int) ≠ 0; omega)), hmk, Option.bind_some, c0 (b := mk == 0) (by simpa using h0), ho, Option.bind_some]
  unfold repl
  rw [show (toRef g, (0 : Int)).1.L = g.code from rfl, if_pos (by omega), Option.bind_some, show ((g.code.length : Int)).toNat = g.code.length by omega]
  have hz : ∀ v, InR g v → at_ (List.replicate g.code.length (0 : Int)) v = 0 := fun v hv => by
    unfold at_
    rw [List.getD_eq_getElem?_getD, List.getElem?_replicate, if_pos (by omega)]
    rfl
  refine loop_ex (fun s => Ot g out s.1 s.2.1 s.2.2) (fun s => ((g.code.length : Int) + 3 - s.2.2).toNat)
    (fun o => (o = .ret (0, 9) ∧ FoundR g none) ∨ ∃ L j, o = .brk (L, false, j) ∧ Ot g out L false j)
    ⟨by simp, by dsimp only; omega, fun u hu => by rw [hz u hu]; dsimp only; omega, fun e => (by cases e), fun lg h1 h2 => ⟨fun u hu hb => by rw [hz u hu]; have := h2 u hu hb; omega, fun u hu hb => by rw [hz u hu]; dsimp only; omega, fun _ => by dsimp only; omega⟩⟩ (NN_big (by dsimp only; omega)) ?_ ?_
  · rintro ⟨L, gr, j⟩ hO
    dsimp only at hO ⊢
    cases gr
    · exact ⟨_, rfl, .inr ⟨L, j, rfl, hO⟩⟩
    · rw [cond_true, w64 (x := (g.code.length : Int) + 1) (by omega)]
      have hj := hO.j0
      by_cases hjn : (g.code.length : Int) + 1 < j
      · rw [c1 (dt hjn)]
        refine ⟨_, rfl, .inl ⟨rfl, out, hor, fun lg h1 h2 => ?_⟩⟩
        have := (hO.up lg h1 h2).2.2 rfl
        omega
      · rw [c0 (df hjn), w64 (x := (g.code.length : Int) - 1) (by omega)]
        have hjN : j * (g.code.length : Int) ≤ 202 * 200 := Int.mul_le_mul (by omega) (by omega) (by omega) (by omega)
        refine loop_ex (fun s => Pw g out L (j * (g.code.length : Int)) s.1 s.2.1 s.2.2 ∧ -1 ≤ s.2.2 ∧ s.2.2 < (g.code.length : Int)) (fun s => (s.2.2 + 1).toNat)
          (fun o => ∃ L' gr', o = .brk (L', gr', -1) ∧ Pw g out L (j * (g.code.length : Int)) L' gr' (-1)) ⟨hO.start, by dsimp only; omega, by dsimp only; omega⟩ (NN_big (by dsimp only; omega)) ?_ ?_
        · rintro ⟨L', gr', v⟩ ⟨hP, v1, v2⟩
          dsimp only at hP v1 v2 ⊢
          by_cases hv0 : 0 ≤ v
          · have hv : InR g v := ⟨hv0, v2⟩
            have hw : IntKind.wrap .i64 (v - 1) = v - 1 := w64 (by omega)
            rw [c1 (dt hv0)]
            unfold jn
            dsimp only
            rw [bat_idx (l := out) (n := v) (by omega), Option.bind_some, hw]
            cases hbv : bat out v
            · exact ⟨_, rfl, ⟨hP.skip hbv, by dsimp only; omega, by dsimp only; omega⟩, by dsimp only; omega⟩
            · rw [Bool.not_true, cond_false, leads_r hv hb, Option.bind_some]
              have hsc := sc_len (g := g) v hb
              have hnx : nxG g L' v = mxA L' (scG g v) 0 + 1 := rfl
              have e1 : idx L' v = some (at_ L' v) := at_idx (by have := hP.ll; omega)
              by_cases hx : at_ L' v < nxG g L' v
              · refine ⟨.go (List.set L' v.toNat (nxG g L' v), true, v - 1), ?_, ⟨hP.grow hv hbv hx, by dsimp only; omega, by dsimp only; omega⟩, by dsimp only; omega⟩
                refine most_loop (fun s hs => by have := sc_in hs; have := hP.ll; omega) (fun s hs => by have := hP.bd s (sc_in hs); omega) (by omega) ?_
                show (idx L' v).bind _ = _
                rw [e1, Option.bind_some, ← hnx, c1 (dt hx)]
                rfl
              · refine ⟨.go (L', gr', v - 1), ?_, ⟨hP.keep hv hbv (by omega), by dsimp only; omega, by dsimp only; omega⟩, by dsimp only; omega⟩
                refine most_loop (fun s hs => by have := sc_in hs; have := hP.ll; omega) (fun s hs => by have := hP.bd s (sc_in hs); omega) (by omega) ?_
                show (idx L' v).bind _ = _
                rw [e1, Option.bind_some, ← hnx, c0 (df hx)]
          · have : v = -1 := by omega
            subst this
            exact ⟨_, rfl, _, _, rfl, hP⟩
        · rintro o ⟨L', gr', rfl, hP⟩
          refine ⟨_, rfl, ?_⟩
          dsimp only
          rw [w64 (x := j + 1) (by omega)]
          exact ⟨hO.next (by omega) hP, by omega⟩
  · rintro o (⟨rfl, hF⟩ | ⟨L, j, rfl, hO⟩)
    · exact ⟨_, rfl, none, hF, rfl⟩
    · refine ⟨(IntKind.wrap .i64 (mxA L (stG g) 0 + mk), 0), ?_, some _, ⟨out, hor, L, hO.fp rfl, rfl, fun lg h1 h2 => (hO.up lg h1 h2).1⟩, rfl⟩
      show ((loopM _ NN ((0 : Int), (0 : Int))).bind _) = _
      refine run_bind (fun k => (mxA L (stK g k) 0, (k : Int))) g.marks.length (.brk (mxA L (stG g) 0, (g.marks.length : Int))) (by simp [stK, mxA]) (by omega) (fun k hk => ?_) ?_ trivial ?_
      · show (bif decide ((k : Int) < (g.marks.length : Int)) then _ else _) = _
        rw [c1 (dlt hk)]
        unfold jn
        dsimp only
        have hmr := hG.mm _ (List.getElem_mem hk)
        rw [show (toRef g).Marks = g.marks from rfl, idx_get hk, Option.bind_some, Option.bind_some, stK_succ hk, w64 (x := g.marks[k] + 1) (by omega), mxA_app, hO.ll, w64n (k := k) (by omega)]
        generalize hq : g.marks[k] + 1 = q
        have hq0 : 0 ≤ q := by omega
        by_cases hqn : q < (g.code.length : Int)
        · rw [c1 (dt hqn), show idx L q = some (at_ L q) from at_idx (by have := hO.ll; omega), Option.bind_some, List.filter_cons, if_pos (inb_iff.2 ⟨hq0, hqn⟩)]
          rfl
        · rw [c0 (df hqn), List.filter_cons, if_neg (fun h => hqn (inb_iff.1 h).2)]
          rfl
      · show (bif decide ((g.marks.length : Int) < (g.marks.length : Int)) then _ else _) = _
        rw [c0 (dge _), stK_all]
      · rfl
theorem loop_congr {S R : Type} {b1 b2 : S → Option (Lp S R)} (I : S → Prop) (he : ∀ s, I s → b1 s = b2 s) (hs : ∀ s s', I s → b1 s = some (.go s') → I s') : ∀ (n : Nat) (s : S), I s → loopM b1 n s = loopM b2 n s
  | 0, s, _ => rfl
  | n + 1, s, h => by
    unfold loopM
    have e := he s h
    have k := hs s
    rw [← e]
    cases hb : b1 s with
    | none => rfl
    | some z =>
      cases z with
      | go s' => exact loop_congr I he hs n s' (k s' h hb)
      | brk s' => rfl
      | ret r => rfl
theorem wr64 (x : Int) : -9223372036854775808 ≤ IntKind.wrap .i64 x ∧ IntKind.wrap .i64 x < 9223372036854775808 := by
  simp only [IntKind.wrap, IntKind.signed, IntKind.bits]
  simp
  omega
theorem mark_law {g : BoundGraph} (hG : GOk g.code.length g) (hc : g.code.length ≤ 200) (hm : 0 < g.marks.length) :
    (bound_graph_mark g = some (-1) ∧ ref30_mark (toRef g) = some 0) ∨ ∃ v, 1 ≤ v ∧ bound_graph_mark g = some v ∧ ref30_mark (toRef g) = some v := by
  unfold bound_graph_mark ref30_mark bound_target
  have hmr := hG.mm _ (List.getElem_mem hm)
  have em : idx g.marks 0 = some g.marks[0] := idx_get hm
  rw [show (toRef g).Marks = g.marks from rfl, show (toRef g).L = g.code from rfl, em, Option.bind_some, Option.bind_some, Option.bind_some, Option.bind_some, code_at hmr, Option.bind_some, Option.bind_some, Option.bind_some]
  have ht := wr64 (g.marks[0] + (IntKind.wrap .i64 (Int.tdiv (g.code.getD (g.marks[0]).toNat ⟨0, 0, 0, 0, 0⟩).Imm 4)))
  revert ht
  generalize IntKind.wrap .i64 (g.marks[0] + (IntKind.wrap .i64 (Int.tdiv (g.code.getD (g.marks[0]).toNat ⟨0, 0, 0, 0, 0⟩).Imm 4))) = t
  intro ht
  by_cases h0 : 0 ≤ t ∧ t ≤ (g.code.length : Int)
  · have hw : ∀ x : Int, 0 ≤ x ∧ t + x ≤ (g.code.length : Int) → IntKind.wrap .i64 (t + x) = t + x := fun x hx => w64 (by omega)
    rw [loop_congr (fun x : Int => 0 ≤ x ∧ t + x ≤ (g.code.length : Int)) (b2 := fun (x1 : Int) => (bif ((decide (0 ≤ t)) && (decide ((IntKind.wrap .i64 (t + x1)) < (List.length g.code : Int)))) then ((idx g.code (IntKind.wrap .i64 (t + x1))).bind fun u4 => bif u4.Op == 4 then (some (Lp.ret (IntKind.wrap .i64 (x1 + 1)))) else (some (Lp.go (IntKind.wrap .i64 (x1 + 1))))) else (some (Lp.brk x1)) : Option (Lp (Int) (Int)))) (fun x hx => ?_) (fun x x' hx hgo => ?_) NN 0 (by omega)]
    · obtain ⟨o, ho, hp⟩ := loop_some (body := fun (x1 : Int) => (bif ((decide (0 ≤ t)) && (decide ((IntKind.wrap .i64 (t + x1)) < (List.length g.code : Int)))) then ((idx g.code (IntKind.wrap .i64 (t + x1))).bind fun u4 => bif u4.Op == 4 then (some (Lp.ret (IntKind.wrap .i64 (x1 + 1)))) else (some (Lp.go (IntKind.wrap .i64 (x1 + 1))))) else (some (Lp.brk x1)) : Option (Lp (Int) (Int)))) (n := NN) (s := 0) (fun x : Int => 0 ≤ x ∧ t + x ≤ (g.code.length : Int)) (fun x => ((g.code.length : Int) - x).toNat) (fun o => (∃ x, o = .brk x) ∨ ∃ v, 1 ≤ v ∧ o = .ret v) (by omega) (NN_big (by omega)) (by
          rintro x hx
          rw [hw x hx, dt h0.1, Bool.true_and]
          by_cases h : t + x < (g.code.length : Int)
          · rw [c1 (dt h), code_at (by omega), Option.bind_some, w64 (x := x + 1) (by omega)]
            cases (g.code.getD (t + x).toNat ⟨0, 0, 0, 0, 0⟩).Op == 4
            · exact ⟨_, rfl, by omega, by omega⟩
            · exact ⟨_, rfl, .inr ⟨_, by omega, rfl⟩⟩
          · rw [c0 (df h)]
            exact ⟨_, rfl, .inl ⟨_, rfl⟩⟩)
      rw [ho]
      rcases hp with ⟨x, rfl⟩ | ⟨v, hv, rfl⟩
      · exact .inl ⟨rfl, rfl⟩
      · exact .inr ⟨v, hv, rfl, rfl⟩
    · rw [show bound_graph_has g (IntKind.wrap .i64 (t + x)) = some ((decide (0 ≤ (IntKind.wrap .i64 (t + x)))) && (decide ((IntKind.wrap .i64 (t + x)) < (List.length g.code : Int)))) from rfl, Option.bind_some, hw x hx, dt h0.1, dt (show 0 ≤ t + x by omega)]
    · rw [show bound_graph_has g (IntKind.wrap .i64 (t + x)) = some ((decide (0 ≤ (IntKind.wrap .i64 (t + x)))) && (decide ((IntKind.wrap .i64 (t + x)) < (List.length g.code : Int)))) from rfl, Option.bind_some, hw x hx, dt (show 0 ≤ t + x by omega), Bool.true_and] at hgo
      by_cases h : t + x < (g.code.length : Int)
      · rw [c1 (dt h), code_at (by omega), Option.bind_some, w64 (x := x + 1) (by omega)] at hgo
        revert hgo
        cases (g.code.getD (t + x).toNat ⟨0, 0, 0, 0, 0⟩).Op == 4
        · intro hgo; cases hgo; omega
        · intro hgo; cases hgo
      · rw [c0 (df h)] at hgo
        cases hgo
  · refine .inl ⟨?_, ?_⟩
    · refine run_bind (fun _ => 0) 0 (.brk 0) rfl (by omega) (fun k hk => by omega) ?_ trivial rfl
      rw [Int.add_zero, w64 (x := t) (by omega)]
      show (bif (decide (0 ≤ t) && decide (t < (g.code.length : Int))) then _ else _) = _
      rw [c0 (by simp; omega)]
    · refine run_bind (fun _ => 0) 0 (.brk 0) rfl (by omega) (fun k hk => by omega) ?_ trivial rfl
      rw [Int.add_zero, w64 (x := t) (by omega), c0 (b := decide (0 ≤ t) && decide (t < (g.code.length : Int))) (by simp; omega)]
theorem found_eq {g : BoundGraph} {f f' : Option Int} (h : Found g f) (h' : FoundR g f') : f = f' := by
  obtain ⟨out, hor, h'⟩ := h'
  have hst : ∀ s ∈ stG g, InR g s := fun s hs => inb_iff.1 (List.mem_filter.1 hs).2
  cases f with
  | none =>
    cases f' with
    | none => rfl
    | some y =>
      exfalso
      obtain ⟨s, hs, u, v, h1, h2, h3⟩ := h
      obtain ⟨L, hf, _, _⟩ := h'
      have inr : ∀ {a b : Int}, InR g a → Rch g a b → InR g b := fun ha hr => by
        cases hr with
        | refl => exact ha
        | tail _ hc => exact sc_in hc
      have hu : InR g u := inr (hst s hs) h1
      have hout : ∀ w, Rch g u w → bat out w = true := fun w hw => (hor w (inr hu hw)).2 ⟨s, hs, h1.trans hw⟩
      have step : ∀ a b, Rch g u a → b ∈ scG g a → at_ L b + 1 ≤ at_ L a := fun a b ha hb => by
        have q := hf a (inr hu ha) (hout a ha)
        have := mxA_mem L (scG g a) 0 b hb
        unfold nxG at q
        omega
      have down : ∀ b, Rch g v b → at_ L b ≤ at_ L v := fun b hb => by
        have hv : Rch g u v := (Rch.refl _).tail h2
        induction hb with
        | refl => exact Int.le_refl _
        | tail hr hc ih =>
          have := step _ _ (hv.trans hr) hc
          omega
      have a1 := step u v (.refl _) h2
      have a2 := down u h3
      omega
  | some x =>
    obtain ⟨st, lg, hK, hks, rfl⟩ := h
    have hkn : ∀ u, InR g u → bat out u = true → at_ st u = 2 := fun u hu hb => by
      obtain ⟨s, hs, hr⟩ := (hor u hu).1 hb
      have : InR g u ∧ at_ st u = 2 := by
        clear hu hb
        induction hr with
        | refl => exact ⟨hst s hs, hks s hs⟩
        | tail _ hc ih => exact ⟨sc_in hc, hK.k1 _ ih.1 ih.2 _ hc⟩
      exact this.2
    have hlim : Lim g out lg := fun u hu hb => ⟨hK.k2 u hu (hkn u hu hb), fun s hs => by
      obtain ⟨s0, hs0, hr⟩ := (hor u hu).1 hb
      exact (hor s (sc_in hs)).2 ⟨s0, hs0, hr.tail hs⟩⟩
    have hbd : ∀ u, InR g u → bat out u = true → 1 ≤ at_ lg u ∧ at_ lg u ≤ (g.code.length : Int) := fun u hu hb => by
      have := hK.k3 u hu (hkn u hu hb)
      have := cnt_le g st
      omega
    cases f' with
    | none => exact absurd hbd (h' lg hlim)
    | some y =>
      obtain ⟨L, hf, rfl, hle⟩ := h'
      have hle := hle lg hlim hbd
      have hge : ∀ (m : Nat) u, InR g u → bat out u = true → at_ lg u ≤ (m : Int) → at_ lg u ≤ at_ L u := by
        intro m
        induction m with
        | zero => intro u hu hb h0; have := hbd u hu hb; omega
        | succ m ih =>
          intro u hu hb hm
          obtain ⟨e, hs⟩ := hlim u hu hb
          have q := hf u hu hb
          have : mxA lg (scG g u) 0 ≤ mxA L (scG g u) 0 := mxA_mono _ 0 0 (Int.le_refl _) fun s hss => by
            refine ih s (sc_in hss) (hs s hss) ?_
            have := mxA_mem lg (scG g u) 0 s hss
            unfold nxG at e
            omega
          unfold nxG at e q
          omega
      have heq : ∀ s ∈ stG g, at_ lg s = at_ L s := fun s hs => by
        have hb : bat out s = true := (hor s (hst s hs)).2 ⟨s, hs, .refl _⟩
        have a1 := hle s (hst s hs) hb
        have a2 := hge (at_ lg s).toNat s (hst s hs) hb (by omega)
        omega
      rw [mxA_congr _ 0 heq]
theorem Region_eq (p : GImage) (hw : ∀ w ∈ p.Code, Wu w) (hl : p.Code.length ≤ 200) : ∃ r, bound_Region p = some r ∧ ref30_Region p.Code = some r := by
  have h1 := read_p p hw hl
  have h2 := read_r p.Code hw hl
  have hk := rdG_ok p.Code 0 ⟨[], [], []⟩
  cases hx : rdG p.Code 0 ⟨[], [], []⟩ with
  | none =>
    rw [hx] at h1 h2
    refine ⟨(0, 3), ?_, ?_⟩
    · unfold bound_Region
      rw [h1]
      rfl
    · unfold ref30_Region
      rw [h2]
      rfl
  | some x =>
    rw [hx] at h1 h2
    have hG := hk x GOk.nil hx
    have hlen : x.code.length = p.Code.length := by have := hG.len; omega
    rw [Nat.zero_add, ← hlen] at hG
    have hc : x.code.length ≤ 200 := by omega
    by_cases hm : x.marks.length = 0
    · refine ⟨(0, 4), ?_, ?_⟩
      · unfold bound_Region
        rw [h1, Option.bind_some]
        unfold exC
        dsimp only
        rw [c0 (b := (0 : Int) != 0) (by simp), hm]
        rfl
      · unfold ref30_Region
        rw [h2, Option.bind_some, c0 (b := (toRef x, (0 : Int)).2 != 0) (by simp), show (List.length (toRef x, (0 : Int)).1.Marks : Int) = (x.marks.length : Int) from rfl, hm]
        rfl
    · rcases mark_law hG hc (by omega) with ⟨m1, m2⟩ | ⟨v, hv, m1, m2⟩
      · refine ⟨(0, 4), ?_, ?_⟩
        · unfold bound_Region
          rw [h1, Option.bind_some]
          unfold exC
          dsimp only
          rw [c0 (b := (0 : Int) != 0) (by simp), c0 (b := (x.marks.length : Int) == 0) (beq_eq_false_iff_ne.2 (by omega)), m1]
          rfl
        · unfold ref30_Region
          rw [h2, Option.bind_some, c0 (b := (toRef x, (0 : Int)).2 != 0) (by simp), show (List.length (toRef x, (0 : Int)).1.Marks : Int) = (x.marks.length : Int) from rfl, c0 (b := (x.marks.length : Int) == 0) (beq_eq_false_iff_ne.2 (by omega)), m2]
          rfl
      · obtain ⟨r, hr, f, hf, e⟩ := Region_p h1 (by omega) (by have := hG.ml; omega) (by have := hG.bl; omega) hc m1 (by omega)
        obtain ⟨r', hr', f', hf', e'⟩ := Region_r h2 hG hc (by omega) m2 (by omega)
        have := found_eq hf hf'
        subst this
        refine ⟨r, hr, hr'.trans ?_⟩
        subst e'
        subst e
        cases f <;> rfl
theorem Boot_eq (p : GImage) : ∃ b, bound_Boot p = some b ∧ ref30_Boot p.Notes = some b := by
  unfold bound_Boot ref30_Boot
  refine ⟨_, rfl, ?_⟩
  by_cases h1 : p.Notes < 0
  · rw [c1 (dt h1), show max p.Notes 0 = 0 by omega]
    rfl
  · rw [c0 (df h1)]
    by_cases h2 : 64 < p.Notes
    · rw [c1 (dt h2), show min (max p.Notes 0) 64 = 64 by omega]
      rfl
    · rw [c0 (df h2), show min (max p.Notes 0) 64 = p.Notes by omega]
theorem BoundCodes_law (l : List Int) (notes : Int) (hw : ∀ w ∈ l, Wu w) (ha : law30_awake = some true) : law30_BoundCodes l notes = some true := by
  unfold law30_BoundCodes
  rw [ha, Option.bind_some, Option.bind_some]
  by_cases hl : 200 < (l.length : Int)
  · rw [c1 (dt hl)]
  · rw [c0 (df hl), cond_true]
    obtain ⟨r, h1, h2⟩ := Region_eq ⟨l, [], 0, notes⟩ hw (by dsimp only; omega)
    obtain ⟨b, h3, h4⟩ := Boot_eq ⟨l, [], 0, notes⟩
    unfold law30_same bound_Bound
    dsimp only at h2 h4 ⊢
    rw [h1, h2, h3, h4]
    simp only [Option.bind_some]
    obtain ⟨a, e⟩ := r
    unfold jn
    by_cases he : e = 0
    · subst he
      simp
    · rw [c1 (b := e != 0) (by simpa using he), Option.bind_some]
      dsimp only
      rw [c0 (b := e == 0) (by simpa using he)]
      simp
end Go.Proofs.YtlnamhpmhcgcpaaGreatDoor
