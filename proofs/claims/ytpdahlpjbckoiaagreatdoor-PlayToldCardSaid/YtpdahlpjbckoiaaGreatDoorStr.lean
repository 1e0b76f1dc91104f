/- Operations on strings and parts of slices. It holds for every program. -/
import Derived.Test.YtpdahlpjbckoiaaGreatDoorOps
set_option linter.unusedVariables false
namespace Go.Proofs.YtpdahlpjbckoiaaGreatDoor

theorem ba_get (l : List UInt8) (i : Nat) : (⟨l.toArray⟩ : ByteArray)[i]? = l[i]? := by
  by_cases h : i < l.length
  · rw [List.getElem?_eq_getElem h, getElem?_pos (⟨l.toArray⟩ : ByteArray) i (by simpa [ByteArray.size] using h)]
    rfl
  · rw [List.getElem?_eq_none (by omega), getElem?_neg (⟨l.toArray⟩ : ByteArray) i (by simpa [ByteArray.size] using h)]
theorem ba_extract (l : List UInt8) (a b : Nat) : (⟨l.toArray⟩ : ByteArray).extract a b = ⟨((l.take b).drop a).toArray⟩ := by
  apply ByteArray.ext
  simp [List.extract_eq_take_drop, List.drop_take]
theorem ba_toList (l : List UInt8) : (⟨l.toArray⟩ : ByteArray).toList = l := by
  rw [ByteArray.toList_eq]

section
variable {P : Program} {ops : Array Oper} {Q : Exit → Act → World → Prop} {rest : List Oper} {n : NF} {J : Nat → Value} {L : List (Nat × Value)} {w w' w0 : World}
  {d : Nat} {ty : TypeId} {pos : String} {aft : Array Edge} {op : Op} {v : Value} {x y c : Operand} {t t2 : TypeId} {T : Nat → Prop} {Qa : Act → Prop} {C : World → Prop}

/-- Two strings compared. -/
theorem r_sqL {a b : List UInt8} (hx : ev n J L x = .string ⟨a.toArray⟩) (hy : ev n J L y = .string ⟨b.toArray⟩) : (execOp (ev n J L) ⟨some d, .binOp .eql t x y t2, ty, pos, aft, none⟩).run P w = .ok (.value (.bool (decide (a = b)))) w := by
  rw [r_sq hx hy, ba_toList, ba_toList, Bool.beq_eq_decide_eq]
theorem sqL {a b : List UInt8} (hx : ev n J L x = .string ⟨a.toArray⟩) (hy : ev n J L y = .string ⟨b.toArray⟩) (k' : wpList P ops Q rest (env n J ((d, .bool (decide (a = b))) :: L)) w) : wpList P ops Q (⟨some d, .binOp .eql t x y t2, ty, pos, aft, none⟩ :: rest) (env n J L) w := o_val (r_sqL hx hy) k'
theorem qsqL {a b : List UInt8} (hx : ev n J L x = .string ⟨a.toArray⟩) (hy : ev n J L y = .string ⟨b.toArray⟩) (k' : wpQuiet P ops C Qa rest (env n J ((d, .bool (decide (a = b))) :: L))) : wpQuiet P ops C Qa (⟨some d, .binOp .eql t x y t2, ty, pos, aft, none⟩ :: rest) (env n J L) := q_val (fun w _ => r_sqL hx hy) k'
theorem r_snL {a b : List UInt8} (hx : ev n J L x = .string ⟨a.toArray⟩) (hy : ev n J L y = .string ⟨b.toArray⟩) : (execOp (ev n J L) ⟨some d, .binOp .neq t x y t2, ty, pos, aft, none⟩).run P w = .ok (.value (.bool (!(decide (a = b))))) w := by
  rw [r_sn hx hy, ba_toList, ba_toList, Bool.beq_eq_decide_eq]
theorem snL {a b : List UInt8} (hx : ev n J L x = .string ⟨a.toArray⟩) (hy : ev n J L y = .string ⟨b.toArray⟩) (k' : wpList P ops Q rest (env n J ((d, .bool (!(decide (a = b)))) :: L)) w) : wpList P ops Q (⟨some d, .binOp .neq t x y t2, ty, pos, aft, none⟩ :: rest) (env n J L) w := o_val (r_snL hx hy) k'
theorem qsnL {a b : List UInt8} (hx : ev n J L x = .string ⟨a.toArray⟩) (hy : ev n J L y = .string ⟨b.toArray⟩) (k' : wpQuiet P ops C Qa rest (env n J ((d, .bool (!(decide (a = b)))) :: L))) : wpQuiet P ops C Qa (⟨some d, .binOp .neq t x y t2, ty, pos, aft, none⟩ :: rest) (env n J L) := q_val (fun w _ => r_snL hx hy) k'

/-- The length of a string. -/
theorem lnt {a : List UInt8} (hx : ev n J L x = .string ⟨a.toArray⟩) (ht : P.underlying t = some .string) (k' : wpList P ops Q rest (env n J ((d, .int .i64 (a.length : Int)) :: L)) w) : wpList P ops Q (⟨some d, .call ⟨.builtin .len, #[x], #[t]⟩, ty, pos, aft, none⟩ :: rest) (env n J L) w := lns hx ht (by
  have e : ((⟨a.toArray⟩ : ByteArray).size : Int) = a.length := by simp [ByteArray.size]
  rw [e]; exact k')
theorem qlnt {a : List UInt8} (hx : ev n J L x = .string ⟨a.toArray⟩) (ht : P.underlying t = some .string) (k' : wpQuiet P ops C Qa rest (env n J ((d, .int .i64 (a.length : Int)) :: L))) : wpQuiet P ops C Qa (⟨some d, .call ⟨.builtin .len, #[x], #[t]⟩, ty, pos, aft, none⟩ :: rest) (env n J L) := qlns hx ht (by
  have e : ((⟨a.toArray⟩ : ByteArray).size : Int) = a.length := by simp [ByteArray.size]
  rw [e]; exact k')

/-- A byte of a string. -/
theorem r_sx {a : List UInt8} {k : IntKind} {i : Int} {u : UInt8} (hx : ev n J L x = .string ⟨a.toArray⟩) (hy : ev n J L y = .int k i) (hi : idx a i = some u) (ht : P.underlying t = some .string) :
    (execOp (ev n J L) ⟨some d, .index t x y, ty, pos, aft, none⟩).run P w = .ok (.value (.int .u8 (u.toNat : Int))) w := by
  obtain ⟨h0, h1, h2⟩ := idx_some hi
  simp [execOp, Instr.index, hx, hy, asIntOf, run_underlying ht, h0, ba_get, h2]
theorem sx {a : List UInt8} {k : IntKind} {i : Int} {u : UInt8} (hx : ev n J L x = .string ⟨a.toArray⟩) (hy : ev n J L y = .int k i) (hi : idx a i = some u) (ht : P.underlying t = some .string) (k' : wpList P ops Q rest (env n J ((d, .int .u8 (u.toNat : Int)) :: L)) w) : wpList P ops Q (⟨some d, .index t x y, ty, pos, aft, none⟩ :: rest) (env n J L) w := o_val (r_sx hx hy hi ht) k'
theorem qsx {a : List UInt8} {k : IntKind} {i : Int} {u : UInt8} (hx : ev n J L x = .string ⟨a.toArray⟩) (hy : ev n J L y = .int k i) (hi : idx a i = some u) (ht : P.underlying t = some .string) (k' : wpQuiet P ops C Qa rest (env n J ((d, .int .u8 (u.toNat : Int)) :: L))) : wpQuiet P ops C Qa (⟨some d, .index t x y, ty, pos, aft, none⟩ :: rest) (env n J L) := q_val (fun w _ => r_sx hx hy hi ht) k'

/-- An operand that may be left out. -/
def oev (n : NF) (J : Nat → Value) (L : List (Nat × Value)) (o : Option Operand) (z : Int) (a : Int) : Prop := match o with
  | some x => ∃ k, ev n J L x = .int k a
  | none => a = z

/-- A part of a string. -/
theorem r_ss {s r : List UInt8} {lo hi : Option Operand} {a b : Int} (hx : ev n J L x = .string ⟨s.toArray⟩) (hlo : oev n J L lo 0 a) (hhi : oev n J L hi s.length b) (hs : sub s a b = some r) (ht : P.underlying t = some .string) :
    (execOp (ev n J L) ⟨some d, .slice t x lo hi none, ty, pos, aft, none⟩).run P w = .ok (.value (.string ⟨r.toArray⟩)) w := by
  obtain ⟨h0, h1, h2, rfl⟩ := sub_some hs
  have hz : (⟨s.toArray⟩ : ByteArray).size = s.length := by simp [ByteArray.size]
  cases lo with
  | none =>
    cases hhi' : hi with
    | none =>
      subst hhi'
      cases hlo
      cases hhi
      simp [execOp, Instr.sliceAt, Instr.slice, Instr.sliceBounds, hx, run_underlying ht, hz, ba_extract]
    | some y =>
      subst hhi'
      cases hlo
      obtain ⟨k, hk⟩ := hhi
      have hb : 0 ≤ b := by omega
      simp [execOp, Instr.sliceAt, Instr.slice, Instr.sliceBounds, Instr.sliceBound, asIntOf, hx, hk, run_underlying ht, hz, ba_extract, hb, h2]
  | some z =>
    obtain ⟨k1, hk1⟩ := hlo
    cases hhi' : hi with
    | none =>
      subst hhi'
      cases hhi
      simp [execOp, Instr.sliceAt, Instr.slice, Instr.sliceBounds, Instr.sliceBound, asIntOf, hx, hk1, run_underlying ht, hz, ba_extract, h0, h1]
    | some y =>
      subst hhi'
      obtain ⟨k, hk⟩ := hhi
      have hb : 0 ≤ b := by omega
      have hab : a ≤ (b.toNat : Int) := by omega
      simp [execOp, Instr.sliceAt, Instr.slice, Instr.sliceBounds, Instr.sliceBound, asIntOf, hx, hk, hk1, run_underlying ht, hz, ba_extract, hb, h2, h0, h1]
      intro hm
      exact absurd hm (by omega)
theorem ss {s r : List UInt8} {lo hi : Option Operand} {a b : Int} (hx : ev n J L x = .string ⟨s.toArray⟩) (hlo : oev n J L lo 0 a) (hhi : oev n J L hi s.length b) (hs : sub s a b = some r) (ht : P.underlying t = some .string) (k' : wpList P ops Q rest (env n J ((d, .string ⟨r.toArray⟩) :: L)) w) :
    wpList P ops Q (⟨some d, .slice t x lo hi none, ty, pos, aft, none⟩ :: rest) (env n J L) w := o_val (r_ss hx hlo hhi hs ht) k'
theorem qss {s r : List UInt8} {lo hi : Option Operand} {a b : Int} (hx : ev n J L x = .string ⟨s.toArray⟩) (hlo : oev n J L lo 0 a) (hhi : oev n J L hi s.length b) (hs : sub s a b = some r) (ht : P.underlying t = some .string) (k' : wpQuiet P ops C Qa rest (env n J ((d, .string ⟨r.toArray⟩) :: L))) :
    wpQuiet P ops C Qa (⟨some d, .slice t x lo hi none, ty, pos, aft, none⟩ :: rest) (env n J L) := q_val (fun w _ => r_ss hx hlo hhi hs ht) k'

/-- A part of a slice. -/
theorem r_sl {ad : Option Addr} {len cap sz : Nat} {e : TypeId} {lo hi : Option Operand} {a b : Int} (hx : ev n J L x = .slice ad len cap) (hlo : oev n J L lo 0 a) (hhi : oev n J L hi len b) (h0 : 0 ≤ a) (h1 : a ≤ b) (h2 : b ≤ len) (hc : len ≤ cap)
    (ht : P.underlying t = some (.slice e)) (hs : ∀ w, (sizeOf e).run P w = .ok sz w) :
    (execOp (ev n J L) ⟨some d, .slice t x lo hi none, ty, pos, aft, none⟩).run P w = .ok (.value (.slice (if cap = a.toNat then ad else ad.map (·.add (a.toNat * sz))) (b.toNat - a.toNat) (cap - a.toNat))) w := by
  cases lo with
  | none =>
    cases hhi' : hi with
    | none =>
      subst hhi'
      cases hlo
      cases hhi
      simp [execOp, Instr.sliceAt, Instr.slice, Instr.sliceBounds, hx, run_underlying ht, hs]
    | some y =>
      subst hhi'
      cases hlo
      obtain ⟨k, hk⟩ := hhi
      have hb : 0 ≤ b := by omega
      have hb2 : b ≤ cap := by omega
      simp [execOp, Instr.sliceAt, Instr.slice, Instr.sliceBounds, Instr.sliceBound, asIntOf, hx, hk, run_underlying ht, hs, hb, hb2]
  | some z =>
    obtain ⟨k1, hk1⟩ := hlo
    cases hhi' : hi with
    | none =>
      subst hhi'
      cases hhi
      simp [execOp, Instr.sliceAt, Instr.slice, Instr.sliceBounds, Instr.sliceBound, asIntOf, hx, hk1, run_underlying ht, hs, h0, h1]
    | some y =>
      subst hhi'
      obtain ⟨k, hk⟩ := hhi
      have hb : 0 ≤ b := by omega
      have hb2 : b ≤ cap := by omega
      simp [execOp, Instr.sliceAt, Instr.slice, Instr.sliceBounds, Instr.sliceBound, asIntOf, hx, hk, hk1, run_underlying ht, hs, hb, hb2, h0, h1]
      intro hm
      exact absurd hm (by omega)
theorem SlR.part {α : Type} {r : Rp α} {w : World} {ad : Option Addr} {l : List α} {cap : Nat} {a b : Int} {u : List α} (h : SlR r T w (.slice ad l.length cap) l) (hs : sub l a b = some u) :
    ∃ a' c', Value.slice (if cap = a.toNat then ad else ad.map (·.add (a.toNat * r.sz))) (b.toNat - a.toNat) (cap - a.toNat) = .slice a' u.length c' ∧ SlR r T w (.slice a' u.length c') u := by
  obtain ⟨h0, h1, h2, rfl⟩ := sub_some hs
  obtain ⟨a0, c0, hv, h5, h6, h7⟩ := h
  cases hv
  have hl : ((l.take b.toNat).drop a.toNat).length = b.toNat - a.toNat := by simp; omega
  refine ⟨_, cap - a.toNat, by rw [hl], _, _, rfl, by rw [hl]; omega, by omega, ?_⟩
  rcases h7 with h7 | ⟨bk, off, rfl, hT, hx⟩
  · exact .inl (by rw [h7]; simp)
  · by_cases hca : cap = a.toNat
    · exact .inl (List.eq_nil_of_length_eq_zero (by rw [hl]; omega))
    · refine .inr ⟨bk, off + a.toNat * r.sz, by rw [if_neg hca]; simp [Addr.add_lit], hT, fun i x hi => ?_⟩
      rw [List.getElem?_drop] at hi
      have hi2 : l[a.toNat + i]? = some x := by
        rw [List.getElem?_take] at hi
        split at hi
        · exact hi
        · cases hi
      obtain ⟨cs, hr, hcs⟩ := hx _ x hi2
      exact ⟨cs, hr, by rw [show off + a.toNat * r.sz + i * r.sz = off + (a.toNat + i) * r.sz by rw [Nat.add_mul]; omega]; exact hcs⟩
theorem sl {α : Type} {r : Rp α} {ad : Option Addr} {l u : List α} {cap sz : Nat} {e : TypeId} {lo hi : Option Operand} {a b : Int} (hx : ev n J L x = .slice ad l.length cap) (h : SlR r T w (.slice ad l.length cap) l) (hlo : oev n J L lo 0 a) (hhi : oev n J L hi l.length b) (hs : sub l a b = some u)
    (ht : P.underlying t = some (.slice e)) (hz : ∀ w, (sizeOf e).run P w = .ok sz w) (hr : r.sz = sz)
    (k' : ∀ a' c', SlR r T w (.slice a' u.length c') u → wpList P ops Q rest (env n J ((d, .slice a' u.length c') :: L)) w) :
    wpList P ops Q (⟨some d, .slice t x lo hi none, ty, pos, aft, none⟩ :: rest) (env n J L) w := by
  subst hr
  obtain ⟨h0, h1, h2, _⟩ := sub_some hs
  obtain ⟨a', c', e1, h'⟩ := h.part hs
  have hc : l.length ≤ cap := by
    obtain ⟨_, _, hv, h5, _⟩ := h
    cases hv
    exact h5
  have hr := r_sl (w := w) (P := P) (d := d) (ty := ty) (pos := pos) (aft := aft) hx hlo hhi h0 h1 h2 hc ht hz
  rw [e1] at hr
  exact o_val hr (k' a' c' h')
theorem qsl {α : Type} {r : Rp α} {ad : Option Addr} {l u : List α} {cap sz : Nat} {e : TypeId} {lo hi : Option Operand} {a b : Int} (hx : ev n J L x = .slice ad l.length cap) (h : SlR r T w0 (.slice ad l.length cap) l) (hlo : oev n J L lo 0 a) (hhi : oev n J L hi l.length b) (hs : sub l a b = some u)
    (ht : P.underlying t = some (.slice e)) (hz : ∀ w, (sizeOf e).run P w = .ok sz w) (hr : r.sz = sz)
    (k' : ∀ a' c', SlR r T w0 (.slice a' u.length c') u → wpQuiet P ops C Qa rest (env n J ((d, .slice a' u.length c') :: L))) :
    wpQuiet P ops C Qa (⟨some d, .slice t x lo hi none, ty, pos, aft, none⟩ :: rest) (env n J L) := by
  subst hr
  obtain ⟨h0, h1, h2, _⟩ := sub_some hs
  obtain ⟨a', c', e1, h'⟩ := h.part hs
  have hc : l.length ≤ cap := by
    obtain ⟨_, _, hv, h5, _⟩ := h
    cases hv
    exact h5
  refine q_val (v := .slice a' u.length c') (fun w1 _ => ?_) (k' a' c' h')
  have hr := r_sl (w := w1) (P := P) (d := d) (ty := ty) (pos := pos) (aft := aft) hx hlo hhi h0 h1 h2 hc ht hz
  rw [e1] at hr
  exact hr
/-- A pointer that is there. -/
theorem r_nc {a : Addr} (hx : ev n J L x = .pointer (some a)) : (execOp (ev n J L) ⟨some d, .nilCheck x, ty, pos, aft, none⟩).run P w = .ok (.value (.pointer (some a))) w := by
  simp [execOp, hx]
theorem nc {a : Addr} (hx : ev n J L x = .pointer (some a)) (k' : wpList P ops Q rest (env n J ((d, .pointer (some a)) :: L)) w) : wpList P ops Q (⟨some d, .nilCheck x, ty, pos, aft, none⟩ :: rest) (env n J L) w := o_val (r_nc hx) k'
theorem qnc {a : Addr} (hx : ev n J L x = .pointer (some a)) (k' : wpQuiet P ops C Qa rest (env n J ((d, .pointer (some a)) :: L))) : wpQuiet P ops C Qa (⟨some d, .nilCheck x, ty, pos, aft, none⟩ :: rest) (env n J L) := q_val (fun w _ => r_nc hx) k'
/-- The lesser of two. -/
theorem r_imn {k : IntKind} {a b : Int} (hx : ev n J L x = .int k a) (hy : ev n J L y = .int k b) : (execOp (ev n J L) ⟨some d, .call ⟨.builtin .min, #[x, y], #[t, t2]⟩, ty, pos, aft, none⟩).run P w = .ok (.value (.int k (min a b))) w := by
  simp [execOp, resolve, invoke, builtin, Builtin.min_, Builtin.min2, hx, hy]
  split <;> omega
theorem imn {k : IntKind} {a b : Int} (hx : ev n J L x = .int k a) (hy : ev n J L y = .int k b) (k' : wpList P ops Q rest (env n J ((d, .int k (min a b)) :: L)) w) : wpList P ops Q (⟨some d, .call ⟨.builtin .min, #[x, y], #[t, t2]⟩, ty, pos, aft, none⟩ :: rest) (env n J L) w := o_val (r_imn hx hy) k'
theorem qimn {k : IntKind} {a b : Int} (hx : ev n J L x = .int k a) (hy : ev n J L y = .int k b) (k' : wpQuiet P ops C Qa rest (env n J ((d, .int k (min a b)) :: L))) : wpQuiet P ops C Qa (⟨some d, .call ⟨.builtin .min, #[x, y], #[t, t2]⟩, ty, pos, aft, none⟩ :: rest) (env n J L) := q_val (fun w _ => r_imn hx hy) k'
/-- The greater of two. -/
theorem r_imx {k : IntKind} {a b : Int} (hx : ev n J L x = .int k a) (hy : ev n J L y = .int k b) : (execOp (ev n J L) ⟨some d, .call ⟨.builtin .max, #[x, y], #[t, t2]⟩, ty, pos, aft, none⟩).run P w = .ok (.value (.int k (max a b))) w := by
  simp [execOp, resolve, invoke, builtin, Builtin.max_, Builtin.max2, hx, hy]
  split <;> omega
theorem imx {k : IntKind} {a b : Int} (hx : ev n J L x = .int k a) (hy : ev n J L y = .int k b) (k' : wpList P ops Q rest (env n J ((d, .int k (max a b)) :: L)) w) : wpList P ops Q (⟨some d, .call ⟨.builtin .max, #[x, y], #[t, t2]⟩, ty, pos, aft, none⟩ :: rest) (env n J L) w := o_val (r_imx hx hy) k'
theorem qimx {k : IntKind} {a b : Int} (hx : ev n J L x = .int k a) (hy : ev n J L y = .int k b) (k' : wpQuiet P ops C Qa rest (env n J ((d, .int k (max a b)) :: L))) : wpQuiet P ops C Qa (⟨some d, .call ⟨.builtin .max, #[x, y], #[t, t2]⟩, ty, pos, aft, none⟩ :: rest) (env n J L) := q_val (fun w _ => r_imx hx hy) k'
/-- A part of what a call handed back. -/
theorem r_ex {vs : Array Value} {i : Nat} {v : Value} (hx : ev n J L x = .tuple vs) (hi : vs[i]? = some v) : (execOp (ev n J L) ⟨some d, .extract x i, ty, pos, aft, none⟩).run P w = .ok (.value (v)) w := by
  simp [execOp, Instr.extract, hx, hi]
theorem ex {vs : Array Value} {i : Nat} {v : Value} (hx : ev n J L x = .tuple vs) (hi : vs[i]? = some v) (k' : wpList P ops Q rest (env n J ((d, v) :: L)) w) : wpList P ops Q (⟨some d, .extract x i, ty, pos, aft, none⟩ :: rest) (env n J L) w := o_val (r_ex hx hi) k'
theorem qex {vs : Array Value} {i : Nat} {v : Value} (hx : ev n J L x = .tuple vs) (hi : vs[i]? = some v) (k' : wpQuiet P ops C Qa rest (env n J ((d, v) :: L))) : wpQuiet P ops C Qa (⟨some d, .extract x i, ty, pos, aft, none⟩ :: rest) (env n J L) := q_val (fun w _ => r_ex hx hi) k'
end
end Go.Proofs.YtpdahlpjbckoiaaGreatDoor
