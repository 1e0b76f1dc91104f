/- Maps over what a function owns. It holds for every program. -/
import Derived.Test.YtpdahlpjbckoiaaGreatDoorMore
import Derived.WalkSpells
import Derived.Laws.Cover3
set_option linter.unusedVariables false
namespace Go.Proofs.YtpdahlpjbckoiaaGreatDoor

section
variable {P : Program} {ops : Array Oper} {Q : Exit → Act → World → Prop} {rest : List Oper} {n : NF} {J : Nat → Value} {L : List (Nat × Value)} {w w' w0 g : World}
  {d : Nat} {ty : TypeId} {pos : String} {aft : Array Edge} {op : Op} {v : Value} {x y c : Operand} {t t2 : TypeId} {T : Nat → Prop} {KK : Act → World → Prop} {Qa : Act → Prop} {C : World → Prop} {G : List Assn} {q p i : Nat}
  {K V : Type} [DecidableEq K] {kd : TypeDesc} {enk : K → Value} {en : V → Value}

theorem Sep.nilM {K V : Type} (hS : Sep g T w G) (enk : K → Value) (en : V → Value) : Sep g T w (mapA enk en (.map none) none :: G) :=
  hS.cons (Inn.refl hS.lt (Nat.le_refl _) : Inn w.heap.size noB T w T w) (fun _ h => h) (F := fun _ => False) (.inl ⟨rfl, rfl, fun _ h => h⟩) (fun k hk => hk.elim)
theorem mkM {K V : Type} (enk : K → Value) (en : V → Value) (hS : Sep g T w G) (k : ∀ w' r, Im T w T w' → Sep g T w' (mapA enk en (.map r) (some []) :: G) → KK (env n J ((d, .map r) :: L)) w') :
    Oper.wp P ⟨some d, .makeMap t none, ty, pos, aft, none⟩ (env n J L) w KK Q :=
  mk hS.lt fun w' b i hm ge nt => k w' _ i.imm (hS.cons i (fun _ h => h) (F := (· = b)) (.inr ⟨b, [], rfl, rfl, hm _ _ _ _, fun k => Iff.rfl⟩) fun k hk => by subst hk; exact ⟨ge, nt⟩)
theorem muM {kt et : TypeId} {k : K} {u : V} {m : Option (List (K × V))} {l : List (K × V)} (hS : Sep g T w G) (hi : AtR G q (mapA enk en v m)) (hm : m = some l) (hx : ev n J L x = v) (hy : ev n J L y = enk k) (hc : ev n J L c = en u)
    (hk : KeyOk kd enk) (ht : P.underlying t = some (.map kt et)) (hu : P.underlying kt = some kd)
    (k' : ∀ w', Im T w T w' → Sep g T w' (setA G q (mapA enk en v (some (mSet l k u)))) → KK (env n J L) w') :
    Oper.wp P ⟨none, .mapUpdate t x y c, ty, pos, aft, none⟩ (env n J L) w KK Q := by
  obtain ⟨F, hF, hn⟩ := hS.getA hi
  rcases hF with ⟨_, h2, _⟩ | ⟨b, l', h1, h2, h3, h4⟩
  · rw [hm] at h2; cases h2
  · rw [hm] at h2
    cases h2
    refine mu (hx.trans h1) hy hc h3 hk ht hu (hn b ((h4 b).2 rfl)) hS.lt fun w' inn hm' => k' w' inn.imm (hS.put q hi.lt inn fun F' hF' hn' => ?_)
    rw [hi.at_] at hF'
    rcases hF' with ⟨h6, _, _⟩ | ⟨b', l2, h6, h7, h8, h9⟩
    · rw [h6] at h1; cases h1
    · rw [h6] at h1
      cases h1
      exact ⟨fun k hk => hk ▸ (h9 _).2 rfl, F', .inr ⟨_, _, h6, rfl, hm', h9⟩, fun k hk => ⟨.inl hk, hn' k hk⟩⟩

theorem mGet_mem_none {m : List (K × V)} {k : K} : mGet m k = none → mDel m k = m := by
  induction m with
  | nil => intro _; rfl
  | cons p m ih =>
    intro h
    simp only [mGet] at h
    split at h
    · cases h
    · rename_i hne
      simp only [mDel, if_neg hne, ih h]
theorem run_delete {kt et : TypeId} {b : Nat} {m : List (K × V)} {tt : TypeId} (hm : MapR enk en w b m) (hk : KeyOk kd enk) (ht : P.underlying t = some (.map kt et)) (hu : P.underlying kt = some kd) (k : K) :
    ∃ o, (Builtin.delete_ #[t, tt] ty #[.map (some b), enk k]).run P w = .ok (.tuple #[]) (setObjW w b o) ∧ MapR enk en (setObjW w b o) b (mDel m k) := by
  obtain ⟨es, clock, hg, he⟩ := hm
  unfold Builtin.delete_
  rcases findNow_map hk k es.toList m 0 he with ⟨a1, a2, a3⟩ | ⟨j, v, e', a1, a2, a3, a4, a5, a6, a7⟩
  · refine ⟨.map es clock, ?_, es, clock, heap_setObj hg, ?_⟩
    · simp [run_underlying ht, run_getObj_map hg, hk.chk P w kt es.isEmpty k hu, run_findKey hu a2, run_setObj hg]
    · rw [mGet_mem_none a1]; exact he
  · refine ⟨.map (es.eraseIdxIfInBounds j) clock, ?_, _, _, heap_setObj hg, ?_⟩
    · simp [run_underlying ht, run_getObj_map hg, hk.chk P w kt es.isEmpty k hu, run_findKey hu a2, run_setObj hg]
    · rw [a7]
      have hj : j < es.size := by
        have := (List.getElem?_eq_some_iff.1 a3).1
        simpa using this
      simp only [Array.eraseIdxIfInBounds, hj, dif_pos, Array.toList_eraseIdx]
      have em : ∀ {α β : Type} (f : α → β) (l : List α) (j : Nat), (l.eraseIdx j).map f = (l.map f).eraseIdx j := by
        intro α β f l
        induction l with
        | nil => intro j; rfl
        | cons a l ih => intro j; cases j with
          | zero => rfl
          | succ j => simp [List.eraseIdx_cons_succ, ih]
      rw [em, he, ← em]
theorem run_delete_nil {kt et tt : TypeId} (hk : KeyOk kd enk) (ht : P.underlying t = some (.map kt et)) (hu : P.underlying kt = some kd) (k : K) :
    (Builtin.delete_ #[t, tt] ty #[.map none, enk k]).run P w = .ok (.tuple #[]) w := by
  unfold Builtin.delete_
  simp [run_underlying ht, hk.chk P w kt true k hu]
theorem mdM {kt et tt : TypeId} {k : K} {m : Option (List (K × V))} (hS : Sep g T w G) (hi : AtR G q (mapA enk en v m)) (hx : ev n J L x = v) (hy : ev n J L y = enk k)
    (hk : KeyOk kd enk) (ht : P.underlying t = some (.map kt et)) (hu : P.underlying kt = some kd)
    (k' : ∀ w', Im T w T w' → Sep g T w' (setA G q (mapA enk en v (m.map fun z => mDel z k))) → KK (env n J ((d, .tuple #[]) :: L)) w') :
    Oper.wp P ⟨some d, .call ⟨.builtin .delete, #[x, y], #[t, tt]⟩, ty, pos, aft, none⟩ (env n J L) w KK Q := by
  have hS' := hS
  obtain ⟨F, hF, hn⟩ := hS.getA hi
  rcases hF with ⟨h1, h2, h3⟩ | ⟨b, l', h1, h2, h3, h4⟩
  · subst h2
    refine w_val (w' := w) (v := .tuple #[]) ?_ (k' w Im.refl ?_)
    · simp only [execOp, resolve, invoke, builtin, Sem.run_bind, Sem.run_pure, Result.andThen_ok, List.map_toArray, List.map_cons, List.map_nil, hx, hy, h1, run_delete_nil hk ht hu k]
    · show Sep g T w (setA G q (mapA enk en v none))
      rw [hS.same hi]; exact hS
  · subst h2
    obtain ⟨o, hr, hm'⟩ := run_delete (w := w) (ty := ty) (tt := tt) h3 hk ht hu k
    have hnb := hn b ((h4 b).2 rfl)
    have inn : Inn w.heap.size (· = b) T w T (setObjW w b o) := (Inn.refl hS.lt (Nat.le_refl _)).ch1 (ch_setObj w b o) fun k hk => ⟨hk ▸ hnb, .inr hk⟩
    refine w_val (w' := setObjW w b o) (v := .tuple #[]) ?_ (k' _ inn.imm (hS.put q hi.lt inn fun F' hF' hn' => ?_))
    · simp only [execOp, resolve, invoke, builtin, Sem.run_bind, Sem.run_pure, Result.andThen_ok, List.map_toArray, List.map_cons, List.map_nil, hx, hy, h1, hr]
    · rw [hi.at_] at hF'
      rcases hF' with ⟨h6, _, _⟩ | ⟨b', l2, h6, h7, h8, h9⟩
      · rw [h6] at h1; cases h1
      · rw [h6] at h1
        cases h1
        exact ⟨fun k hk => hk ▸ (h9 _).2 rfl, F', .inr ⟨_, _, h6, rfl, hm', h9⟩, fun k hk => ⟨.inl hk, hn' k hk⟩⟩
theorem w_valN {op : Op} {w' : World} (h : (execOp (ev n J L) ⟨none, op, ty, pos, aft, none⟩).run P w = .ok (.value v) w') (k : KK (env n J L) w') : Oper.wp P ⟨none, op, ty, pos, aft, none⟩ (env n J L) w KK Q := by
  unfold Oper.wp
  rw [eval_env, h]
  exact k
theorem mdN {kt et tt : TypeId} {k : K} {m : Option (List (K × V))} (hS : Sep g T w G) (hi : AtR G q (mapA enk en v m)) (hx : ev n J L x = v) (hy : ev n J L y = enk k)
    (hk : KeyOk kd enk) (ht : P.underlying t = some (.map kt et)) (hu : P.underlying kt = some kd)
    (k' : ∀ w', Im T w T w' → Sep g T w' (setA G q (mapA enk en v (m.map fun z => mDel z k))) → KK (env n J L) w') :
    Oper.wp P ⟨none, .call ⟨.builtin .delete, #[x, y], #[t, tt]⟩, ty, pos, aft, none⟩ (env n J L) w KK Q := by
  have hS' := hS
  obtain ⟨F, hF, hn⟩ := hS.getA hi
  rcases hF with ⟨h1, h2, h3⟩ | ⟨b, l', h1, h2, h3, h4⟩
  · subst h2
    refine w_valN (w' := w) (v := .tuple #[]) ?_ (k' w Im.refl ?_)
    · simp only [execOp, resolve, invoke, builtin, Sem.run_bind, Sem.run_pure, Result.andThen_ok, List.map_toArray, List.map_cons, List.map_nil, hx, hy, h1, run_delete_nil hk ht hu k]
    · show Sep g T w (setA G q (mapA enk en v none))
      rw [hS.same hi]; exact hS
  · subst h2
    obtain ⟨o, hr, hm'⟩ := run_delete (w := w) (ty := ty) (tt := tt) h3 hk ht hu k
    have hnb := hn b ((h4 b).2 rfl)
    have inn : Inn w.heap.size (· = b) T w T (setObjW w b o) := (Inn.refl hS.lt (Nat.le_refl _)).ch1 (ch_setObj w b o) fun k hk => ⟨hk ▸ hnb, .inr hk⟩
    refine w_valN (w' := setObjW w b o) (v := .tuple #[]) ?_ (k' _ inn.imm (hS.put q hi.lt inn fun F' hF' hn' => ?_))
    · simp only [execOp, resolve, invoke, builtin, Sem.run_bind, Sem.run_pure, Result.andThen_ok, List.map_toArray, List.map_cons, List.map_nil, hx, hy, h1, hr]
    · rw [hi.at_] at hF'
      rcases hF' with ⟨h6, _, _⟩ | ⟨b', l2, h6, h7, h8, h9⟩
      · rw [h6] at h1; cases h1
      · rw [h6] at h1
        cases h1
        exact ⟨fun k hk => hk ▸ (h9 _).2 rfl, F', .inr ⟨_, _, h6, rfl, hm', h9⟩, fun k hk => ⟨.inl hk, hn' k hk⟩⟩

theorem r_lkM0 {kt et : TypeId} {z : Value} {kk : K} {m : Option (List (K × V))} {ok : Bool} (hx : ev n J L x = v) (hy : ev n J L y = enk kk) (hA : ∃ F, (mapA enk en v m).P T w F ∧ ∀ k, F k → ¬ T k) (hk : KeyOk kd enk) (ht : P.underlying t = some (.map kt et)) (hu : P.underlying kt = some kd)
    (hz : ∀ w, (zeroValue et).run P w = .ok z w) : (execOp (ev n J L) ⟨some d, .lookup t x y ok, ty, pos, aft, none⟩).run P w = .ok (.value (if ok then .tuple #[((mGetO m kk).map en).getD z, .bool (mGetO m kk).isSome] else ((mGetO m kk).map en).getD z)) w := by
  obtain ⟨F, hF, hn⟩ := hA
  rcases hF with ⟨h1, h2, h3⟩ | ⟨b, l', h1, h2, h3, h4⟩
  · subst h2
    have : (Instr.lookup t (.map none) (enk kk) ok).run P w = .ok (if ok then .tuple #[z, .bool false] else z) w := by
      unfold Instr.lookup
      have hf : (Instr.findKey kt (enk kk) []).run P w = .ok none w := run_findKey hu (by rfl)
      cases ok <;> simp [run_underlying ht, hk.chk P w kt true kk hu, hz, hf]
    simp only [execOp, hx, hy, h1, Sem.run_bind, this, Result.andThen_ok, Sem.run_pure, mGetO]
    cases ok <;> rfl
  · subst h2
    have := run_lookup (P := P) (w := w) (ok := ok) h3 hk ht hu hz kk
    simp only [execOp, hx, hy, h1, Sem.run_bind, this, Result.andThen_ok, Sem.run_pure, mGetO]
    cases ok <;> rfl
theorem r_lkM {kt et : TypeId} {z : Value} {kk : K} {u : V} {m : Option (List (K × V))} (hx : ev n J L x = v) (hy : ev n J L y = enk kk) (hA : ∃ F, (mapA enk en v m).P T w F ∧ ∀ k, F k → ¬ T k) (hk : KeyOk kd enk) (ht : P.underlying t = some (.map kt et)) (hu : P.underlying kt = some kd)
    (hz : ∀ w, (zeroValue et).run P w = .ok z w) (hz' : z = en u) : (execOp (ev n J L) ⟨some d, .lookup t x y false, ty, pos, aft, none⟩).run P w = .ok (.value (en ((mGetO m kk).getD u))) w := by
  have h := r_lkM0 (d := d) (ty := ty) (pos := pos) (aft := aft) (ok := false) hx hy hA hk ht hu hz
  rw [h]
  subst hz'
  cases mGetO m kk <;> rfl
theorem r_lkM2 {kt et : TypeId} {z : Value} {kk : K} {u : V} {m : Option (List (K × V))} (hx : ev n J L x = v) (hy : ev n J L y = enk kk) (hA : ∃ F, (mapA enk en v m).P T w F ∧ ∀ k, F k → ¬ T k) (hk : KeyOk kd enk) (ht : P.underlying t = some (.map kt et)) (hu : P.underlying kt = some kd)
    (hz : ∀ w, (zeroValue et).run P w = .ok z w) (hz' : z = en u) : (execOp (ev n J L) ⟨some d, .lookup t x y true, ty, pos, aft, none⟩).run P w = .ok (.value (.tuple #[en ((mGetO m kk).getD u), .bool (mGetO m kk).isSome])) w := by
  have h := r_lkM0 (d := d) (ty := ty) (pos := pos) (aft := aft) (ok := true) hx hy hA hk ht hu hz
  rw [h]
  subst hz'
  cases mGetO m kk <;> rfl
end
section
variable {P : Program} {ops : Array Oper} {Q : Exit → Act → World → Prop} {rest : List Oper} {n : NF} {J : Nat → Value} {L : List (Nat × Value)} {w w' w0 g : World}
  {d : Nat} {ty : TypeId} {pos : String} {aft : Array Edge} {op : Op} {v : Value} {x y c : Operand} {t t2 : TypeId} {T : Nat → Prop} {KK : Act → World → Prop} {Qa : Act → Prop} {C : World → Prop} {G : List Assn} {q p i : Nat}
  {K V : Type} {enk : K → Value} {en : V → Value}
theorem r_lnM {kt et : TypeId} {m : Option (List (K × V))} (hx : ev n J L x = v) (hA : ∃ F, (mapA enk en v m).P T w F ∧ ∀ k, F k → ¬ T k) (ht : P.underlying t = some (.map kt et)) :
    (execOp (ev n J L) ⟨some d, .call ⟨.builtin .len, #[x], #[t]⟩, ty, pos, aft, none⟩).run P w = .ok (.value (.int .i64 (mLenO m : Int))) w := by
  obtain ⟨F, hF, hn⟩ := hA
  have hr : (Builtin.len_ #[t] ty #[v]).run P w = .ok (.int .i64 (mLenO m : Int)) w := by
    rcases hF with ⟨h1, h2, h3⟩ | ⟨b, l', h1, h2, h3, h4⟩
    · subst h2
      rw [h1]
      simp [Builtin.len_, run_underlying ht, goInt, mLenO]
    · subst h2
      rw [h1]
      obtain ⟨es, clock, hg, he⟩ := h3
      have : es.size = l'.length := by
        have := congrArg List.length he
        simpa using this
      simp [Builtin.len_, run_underlying ht, goInt, mLenO, run_getObj_map hg, this]
  simp only [execOp, resolve, invoke, builtin, Sem.run_bind, Sem.run_pure, Result.andThen_ok, List.map_toArray, List.map_cons, List.map_nil, hx, hr]
theorem r_mne {kt et : TypeId} {m : Option (List (K × V))} (hx : ev n J L x = v) (hy : ev n J L y = .map none) (hA : ∃ F, (mapA enk en v m).P T w F ∧ ∀ k, F k → ¬ T k) (ht : P.underlying t = some (.map kt et)) :
    (execOp (ev n J L) ⟨some d, .binOp .eql t x y t2, ty, pos, aft, none⟩).run P w = .ok (.value (.bool m.isNone)) w := by
  obtain ⟨F, hF, hn⟩ := hA
  rcases hF with ⟨h1, h2, h3⟩ | ⟨b, l', h1, h2, h3, h4⟩
  · subst h2
    simp [execOp, hx, hy, h1, eqg_map, run_eql_map_nil w t kt et none ht]
  · subst h2
    simp [execOp, hx, hy, h1, eqg_map, run_eql_map_nil w t kt et (some b) ht]
theorem r_mnn {kt et : TypeId} {m : Option (List (K × V))} (hx : ev n J L x = v) (hy : ev n J L y = .map none) (hA : ∃ F, (mapA enk en v m).P T w F ∧ ∀ k, F k → ¬ T k) (ht : P.underlying t = some (.map kt et)) :
    (execOp (ev n J L) ⟨some d, .binOp .neq t x y t2, ty, pos, aft, none⟩).run P w = .ok (.value (.bool (!m.isNone))) w := by
  obtain ⟨F, hF, hn⟩ := hA
  rcases hF with ⟨h1, h2, h3⟩ | ⟨b, l', h1, h2, h3, h4⟩
  · subst h2
    simp [execOp, hx, hy, h1, eqg_map, run_neq_map_nil w t kt et none ht]
  · subst h2
    simp [execOp, hx, hy, h1, eqg_map, run_neq_map_nil w t kt et (some b) ht]
end
end Go.Proofs.YtpdahlpjbckoiaaGreatDoor
