/- A slice of this function's own is cut, or its tail cleared. It holds for every program. -/
import Derived.Test.YteoihjfnojgnnaaGreatFoc
set_option linter.unusedVariables false
namespace Go.Proofs.YteoihjfnojgnnaaGreat

theorem SlV.nilOr {α : Type} {r : Rp α} {T : Nat → Prop} {w : World} {l : List α} {a : Option Addr} {c : Nat} (h : SlV r T w (.slice a l.length c) l) : (a = none ∧ l = []) ∨ a.isNone = false := by
  obtain ⟨a', cap, hv, h5, h6, h7⟩ := h
  cases hv
  rcases h7 with rfl | ⟨b, off, rfl, _⟩
  · cases a with
    | none => exact .inl ⟨rfl, rfl⟩
    | some a => exact .inr rfl
  · exact .inr rfl
theorem flat_len {sz : Nat} : ∀ css : List (List Value), (∀ c ∈ css, c.length = sz) → css.flatten.length = css.length * sz
  | [], _ => by simp
  | c :: css, h => by
    rw [List.flatten_cons, List.length_append, flat_len css (fun x hx => h x (by simp [hx])), h c (by simp), List.length_cons, Nat.succ_mul]
    omega
theorem flat_take {sz : Nat} {css : List (List Value)} (h : ∀ c ∈ css, c.length = sz) {i : Nat} (hi : i ≤ css.length) : css.flatten.take (i * sz) = (css.take i).flatten := by
  have e : css.flatten = (css.take i).flatten ++ (css.drop i).flatten := by rw [← List.flatten_append, List.take_append_drop]
  have hl : (css.take i).flatten.length = i * sz := by
    rw [flat_len _ (fun c hc => h c (List.mem_of_mem_take hc)), List.length_take, Nat.min_eq_left hi]
  rw [e, ← hl]
  exact List.take_left
section
variable {P : Program} {n : NF} {J : Nat → Value} {L : List (Nat × Value)} {w : World} {KK : Act → World → Prop} {Q : Exit → Act → World → Prop} {g : World} {T : Nat → Prop} {G : List Assn} {q d : Nat} {x : Operand} {t ty : TypeId} {pos : String} {aft : Array Edge} {v : Value}
theorem r_slV {α : Type} {r : Rp α} {ad : Option Addr} {l u : List α} {k cap sz : Nat} {e : TypeId} {lo hi : Option Operand} {a b : Int} {T1 : Nat → Prop} {w1 : World}
    (hx : ev n J L x = .slice ad k cap) (h : SlV r T1 w1 (.slice ad k cap) l) (hlo : oev n J L lo 0 a) (hhi : oev n J L hi l.length b) (hs : sub l a b = some u)
    (ht : P.underlying t = some (.slice e)) (hz : ∀ w, (sizeOf e).run P w = .ok sz w) (hr : r.sz = sz)
    (he : Value.slice (if cap = a.toNat then ad else ad.map (·.add (a.toNat * r.sz))) (b.toNat - a.toNat) (cap - a.toNat) = v) :
    (execOp (ev n J L) ⟨some d, .slice t x lo hi none, ty, pos, aft, none⟩).run P w = .ok (.value v) w := by
  subst hr
  obtain ⟨h0, h1, h2, _⟩ := sub_some hs
  obtain ⟨hc, rfl⟩ : l.length ≤ cap ∧ k = l.length := by
    obtain ⟨_, _, hv, h5, _⟩ := h
    cases hv
    exact ⟨h5, rfl⟩
  have hr := r_sl (w := w) (P := P) (d := d) (ty := ty) (pos := pos) (aft := aft) hx hlo hhi h0 h1 h2 hc ht hz
  rw [he] at hr
  exact hr
theorem Sep.cutA {α : Type} {r : Rp α} {e : TypeId} {ad : Option Addr} {k cap : Nat} {l u : List α} {b : Int} (hS : Sep g T w G) (hi : AtR G q (ownA r e (.slice ad k cap) l)) (hs : sub l 0 b = some u) :
    ∃ a' n' c', Value.slice (if cap = (0 : Int).toNat then ad else ad.map (·.add ((0 : Int).toNat * r.sz))) (b.toNat - (0 : Int).toNat) (cap - (0 : Int).toNat) = .slice a' n' c' ∧ Sep g T w (setA G q (ownA r e (.slice a' n' c') u)) := by
  obtain ⟨h0, h1, h2, rfl⟩ := sub_some hs
  have hlen : ((l.take b.toNat).drop (0 : Int).toNat).length = b.toNat := by simp; omega
  have hu : (l.take b.toNat).drop (0 : Int).toNat = l.take b.toNat := rfl
  have hea : (if cap = (0 : Int).toNat then ad else ad.map (·.add ((0 : Int).toNat * r.sz))) = ad := by
    split
    · rfl
    · cases ad with
      | none => rfl
      | some a => simp [Addr.add]
  refine ⟨ad, ((l.take b.toNat).drop (0 : Int).toNat).length, cap, by rw [hea, hlen]; rfl, hS.imp q hi.lt fun F hF => ?_⟩
  rw [hi.at_] at hF
  obtain ⟨⟨css, c1, c2, c3⟩, hF⟩ := hF
  have hsz := OwS.sizes c1 c3
  rw [hlen, hu]
  refine ⟨⟨css.take b.toNat, by rw [List.length_take, List.length_take, c1], ⟨?_, ?_⟩, fun i cs x hc hx => ?_⟩, fun k => (hF k).trans (by cases ad <;> rfl)⟩
  · rw [flat_len _ (fun c hc => hsz c (List.mem_of_mem_take hc)), List.length_take, List.length_take, c1]
  · rcases c2.2 with ⟨hv, hn⟩ | ⟨g', cap', cur, hv, hb, hgg, hnc, hmx, hcur, htake⟩
    · cases hv
      have : b.toNat = 0 := by omega
      rw [this]
      exact .inl ⟨rfl, by simp⟩
    · cases hv
      have hbl : b.toNat ≤ l.length := by omega
      refine .inr ⟨g', cap, cur, ?_, hb, hgg, by rw [List.length_take]; omega, hmx, hcur, ?_⟩
      · rw [List.length_take, Nat.min_eq_left hbl]
      · rw [List.length_take, Nat.min_eq_left hbl, ← flat_take hsz (by omega), ← htake, List.take_take, Nat.min_eq_left (Nat.mul_le_mul_right _ hbl)]
  · rw [List.getElem?_take] at hc hx
    split at hc
    · rename_i h
      rw [if_pos h] at hx
      exact c3 i cs x hc hx
    · cases hc
theorem zeroCells_flat (z : Array Value) (m : Nat) : (Builtin.zeroCells z m).toList = (List.replicate m z.toList).flatten := by
  have hs : ∀ c ∈ List.replicate m z.toList, c.length = z.size := fun c hc => by rw [(List.mem_replicate.1 hc).2]; simp
  have hl : (List.replicate m z.toList).flatten.length = m * z.size := by rw [flat_len _ hs, List.length_replicate]
  apply List.ext_getElem?
  intro i
  by_cases hi : i < m * z.size
  · have hz : 0 < z.size := by
      rcases Nat.eq_zero_or_pos z.size with h | h
      · rw [h] at hi; simp at hi
      · exact h
    have hd : i / z.size < m := (Nat.div_lt_iff_lt_mul hz).2 hi
    have hm : i % z.size < z.size := Nat.mod_lt _ hz
    have hr := flatten_get hs (i := i / z.size) (cs := z.toList) (j := i % z.size) (u := z[i % z.size]) (by rw [List.getElem?_eq_getElem (by simpa using hd)]; simp) (by simp)
    rw [Nat.mul_comm, Nat.div_add_mod] at hr
    rw [hr]
    unfold Builtin.zeroCells
    simp [hi, hm]
  · have hL : (Builtin.zeroCells z m).toList.length = m * z.size := by unfold Builtin.zeroCells; simp
    rw [List.getElem?_eq_none (by omega), List.getElem?_eq_none (by omega)]
theorem sub_lo {α : Type} {l u : List α} {a b : Int} (h : sub l a b = some u) : a.toNat ≤ l.length := by
  obtain ⟨h0, h1, h2, _⟩ := sub_some h
  omega
theorem clO {α : Type} {r : Rp α} {e : TypeId} {ad : Option Addr} {k cap : Nat} {l : List α} {z0 : α} {z : Value} {i : Nat} (hS : Sep g T w G) (hi : AtR G q (ownA r e (.slice ad k cap) l))
    (hx : ev n J L x = Value.slice (if cap = i then ad else ad.map (·.add (i * r.sz))) (l.length - i) (cap - i)) (hz : ∀ w, (zeroValue e).run P w = .ok z w) (hzr : ∀ T w, r.rp T w z.cells.toList z0) (ht : P.underlying t = some (.slice e)) (h0 : i ≤ l.length)
    (k' : ∀ w', Im T w T w' → Sep g T w' (setA G q (ownA r e (.slice ad k cap) (l.take i ++ List.replicate (l.length - i) z0))) → KK (env n J L) w') :
    Oper.wp P ⟨none, .call ⟨.builtin .clear, #[x], #[t]⟩, ty, pos, aft, none⟩ (env n J L) w KK Q := by
  obtain ⟨F, ⟨⟨css, c1, c2, c3⟩, hF⟩, hn⟩ := hS.getA hi
  have hsz := OwS.sizes c1 c3
  have hzl : z.cells.toList.length = r.sz := r.len (hzr T w)
  have hzs : z.cells.size = r.sz := by simpa using hzl
  have same : l.take i ++ List.replicate (l.length - i) z0 = l → (Builtin.clear_ #[t] ty #[Value.slice (if cap = i then ad else ad.map (·.add (i * r.sz))) (l.length - i) (cap - i)]).run P w = .ok (.tuple #[]) w → Oper.wp P ⟨none, .call ⟨.builtin .clear, #[x], #[t]⟩, ty, pos, aft, none⟩ (env n J L) w KK Q := fun he hr => by
    refine w_valN (w' := w) (v := .tuple #[]) ?_ (k' w Im.refl ?_)
    · simp only [execOp, resolve, invoke, builtin, Sem.run_bind, Sem.run_pure, Result.andThen_ok, List.map_toArray, List.map_cons, List.map_nil, hx, hr]
    · rw [he, hS.same hi]; exact hS
  by_cases hil : i = l.length
  · subst hil
    refine same (by simp) ?_
    rw [Nat.sub_self]
    simp only [Builtin.clear_, Sem.run_bind, run_underlying ht, Result.andThen_ok]
    generalize (if cap = l.length then ad else ad.map (·.add (l.length * r.sz))) = ad'
    cases ad' <;> simp [run_underlying ht]
  rcases c2.2 with ⟨hv, hl0⟩ | ⟨b, cap', cur, hv, hb, hgg, hnc, hmx, hcur, htake⟩
  · exfalso; omega
  cases hv
  have hci : cap ≠ i := by omega
  have hFb : F b := (hF b).2 rfl
  have hnT : ¬ T b := hn b hFb
  have hmul : i * r.sz + (l.length - i) * r.sz = l.length * r.sz := by rw [← Nat.add_mul]; congr 1; omega
  have hcapr : l.length * r.sz ≤ cap * r.sz := Nat.mul_le_mul_right _ hnc
  -- the cells that are written
  generalize hzz : (Builtin.zeroCells z.cells (l.length - i)).toList = zs
  have hzf : zs = (List.replicate (l.length - i) z.cells.toList).flatten := by rw [← hzz, zeroCells_flat]
  have hzsl : zs.length = (l.length - i) * r.sz := by
    rw [hzf, flat_len (sz := r.sz) _ (fun c hc => by rw [(List.mem_replicate.1 hc).2]; exact hzl), List.length_replicate]
  have hone : ∀ u ∈ zs, u.oneCell' = true := fun u hu => by
    rw [hzf] at hu
    obtain ⟨c, hc, huc⟩ := List.mem_flatten.1 hu
    rw [(List.mem_replicate.1 hc).2] at huc
    exact r.one (hzr T w) u huc
  have hst := run_storeCells_at P b (i * r.sz) e zs 0 cur w hgg (by omega) hone
  simp only [Nat.add_zero] at hst
  have hinn := inn_setRow hS.lt b (storeL cur.toList (i * r.sz) zs).toArray hnT
  refine w_valN (w' := w.setRow b (storeL cur.toList (i * r.sz) zs).toArray) (v := .tuple #[]) ?_ (k' _ hinn.imm ?_)
  · have hadd : (if cap = i then (some (⟨b, 0, none⟩ : Addr)) else (some (⟨b, 0, none⟩ : Addr)).map (·.add (i * r.sz))) = some ⟨b, i * r.sz, none⟩ := by
      rw [if_neg hci]; simp [Addr.add_lit]
    have hr : (Builtin.clear_ #[t] ty #[Value.slice (some ⟨b, i * r.sz, none⟩) (l.length - i) (cap - i)]).run P w = .ok (.tuple #[]) (w.setRow b (storeL cur.toList (i * r.sz) zs).toArray) := by
      obtain ⟨m, hm⟩ : ∃ m, l.length - i = m + 1 := ⟨l.length - i - 1, by omega⟩
      rw [hm] at hzz ⊢
      simp only [Builtin.clear_, Sem.run_bind, run_underlying ht, Result.andThen_ok, hz, hzz]
      simp [run_underlying ht, hz, hzz, hst]
      unfold storeL
      rw [List.append_assoc]
    simp only [execOp, resolve, invoke, builtin, Sem.run_bind, Sem.run_pure, Result.andThen_ok, List.map_toArray, List.map_cons, List.map_nil, hx, hadd, hr]
  · refine hS.put q hi.lt hinn fun F' hF' hn' => ?_
    rw [hi.at_] at hF'
    have hF2 := hF'.2
    have hlen : (l.take i ++ List.replicate (l.length - i) z0).length = l.length := by simp; omega
    have hcl : (css.take i ++ List.replicate (l.length - i) z.cells.toList).length = l.length := by simp; omega
    have hfl : (css.take i ++ List.replicate (l.length - i) z.cells.toList).flatten = css.flatten.take (i * r.sz) ++ zs := by
      rw [List.flatten_append, ← hzf, flat_take hsz (by omega)]
    have hA : (css.flatten.take (i * r.sz)).length = i * r.sz := by rw [List.length_take, c2.1]; omega
    refine ⟨fun k hk => hk ▸ (hF2 b).2 rfl, F', ⟨⟨css.take i ++ List.replicate (l.length - i) z.cells.toList, by rw [hcl, hlen], ⟨?_, .inr ⟨b, cap, (storeL cur.toList (i * r.sz) zs).toArray, by rw [hlen], by omega, ?_, by rw [hlen]; exact hnc, hmx, ?_, ?_⟩⟩, ?_⟩, hF2⟩, fun k hk => ⟨.inl hk, hn' k hk⟩⟩
    · rw [hfl, List.length_append, hA, hzsl, hlen, hmul]
    · rw [setRow_heap w b _ _ e (0, 0) hgg]
    · simp only [List.size_toArray]
      rw [storeL_len (by simp; omega)]
      simpa using hcur
    · rw [hlen, hfl, ← htake, List.take_take, Nat.min_eq_left (by omega)]
      show List.take (l.length * r.sz) (cur.toList.take (i * r.sz) ++ zs ++ _) = _
      have hl2 : (cur.toList.take (i * r.sz) ++ zs).length = l.length * r.sz := by rw [List.length_append, List.length_take, hzsl]; simp; omega
      rw [← hl2]
      exact List.take_left
    · intro m c y hc hy
      by_cases hm : m < i
      · rw [List.getElem?_append_left (by rw [List.length_take]; omega), List.getElem?_take, if_pos hm] at hc hy
        exact r.mono hinn.imm (c3 m c y hc hy)
      · rw [List.getElem?_append_right (by rw [List.length_take]; omega)] at hc hy
        rw [List.getElem?_replicate] at hc hy
        split at hc
        · split at hy
          · cases hc; cases hy; exact hzr _ _
          · cases hy
        · cases hc
end
end Go.Proofs.YteoihjfnojgnnaaGreat
