/- Appending zeros: what append(s, make([]T, n)...) comes to. It holds for every program. -/
import Derived.Test.YtbbppcogjdmmiaaAct
set_option linter.unusedVariables false
namespace Go.Proofs.Ytbbppcogjdmmiaa

theorem zeroCells_one (z : Value) (m : Nat) : Builtin.zeroCells #[z] m = (List.replicate m z).toArray := by
  apply Array.ext
  · simp [Builtin.zeroCells]
  · intro i h1 h2
    simp [Builtin.zeroCells, Nat.mod_one]

theorem flat_rep (z : Value) : ∀ m, (List.replicate m [z]).flatten = List.replicate m z
  | 0 => rfl
  | m + 1 => by rw [List.replicate_succ, List.replicate_succ, List.flatten_cons, flat_rep z m]; rfl
section
variable {P : Program} (w : World)
theorem append_zeros (base : Nat) (t ti ty e : TypeId) (i : TypeInfo) (z : Value) (bytes : Nat) (k ki : IntKind) (ht : P.underlying t = some (.slice e)) (hti : P.underlying ti = some (.int ki)) (hi : P.info? e = some i) (hz : i.zero = some z)
    (hsize : i.size = 1) (hby : i.bytes = bytes) (hzc : z.cells = #[z]) (h1 : z.oneCell' = true)
    (v : Value) (n : Nat) (xs : List Value) (hown : w.ownsRow base e 1 v n xs) (m : Nat)
    (h63 : n + m ≤ 8589934592) (hbytes : (n + m) * bytes ≤ 140737488355328) (hbase : base ≤ w.heap.size) :
    ∃ v' w', (Builtin.append_ #[t, ti] ty #[v, .int k (m : Int)]).run P w = .ok v' w' ∧ w'.ownsRow base e 1 v' (n + m) (xs ++ List.replicate m z) ∧ w.grownBy w' v.ownBlock ∧
      (v'.ownBlock = v.ownBlock ∨ v'.ownBlock = some w.heap.size) := by
  subst hby
  have hml : n + m ≤ maxLen := by simp only [maxLen]; omega
  have hw : IntKind.i64.wrap (m : Int) = m := by rw [IntKind.wrap_i64]; omega
  have h48i : ¬ (281474976710656 < (m : Int) * (i.bytes : Int)) := by
    rw [← Int.natCast_mul]
    have : m * i.bytes ≤ (n + m) * i.bytes := Nat.mul_le_mul_right _ (by omega)
    omega
  have hneg : ¬ ((m : Int) < 0) := by omega
  have hlen : (xs ++ List.replicate m z).length = (n + m) * 1 := by rw [List.length_append, hown.1, List.length_replicate]; omega
  have hxl : xs.length = n := by rw [hown.1]; omega
  have grown : ∀ (old : Nat), old < n + m → ∀ (row : Option Nat),
      (w.drew.alloc (.cells (xs.toArray ++ (List.replicate m z).toArray ++ Builtin.zeroCells z.cells (grownCap w (n + m) old e - (n + m))) e)).ownsRow base e 1
        (.slice (some ⟨w.heap.size, 0, none⟩) (n + m) (grownCap w (n + m) old e)) (n + m) (xs ++ List.replicate m z) ∧
      w.grownBy (w.drew.alloc (.cells (xs.toArray ++ (List.replicate m z).toArray ++ Builtin.zeroCells z.cells (grownCap w (n + m) old e - (n + m))) e)) row := by
    intro old ho row
    have hge := grownCap_ge w (n + m) old e
    have hcm : grownCap w (n + m) old e ≤ maxLen := grownCap_le_maxLen w (n + m) old e hml
    refine ⟨⟨hlen, .inr ⟨w.heap.size, _, _, rfl, hbase, heap_alloc_new w.drew _, hge, hcm, ?_, ?_⟩⟩, ⟨rfl, rfl, rfl, by simp, fun k hk _ => Go.heap_alloc_old w.drew _ hk⟩⟩
    · simp only [Array.size_append, List.size_toArray, size_zeroCells, hzc, hxl, List.length_replicate]
      simp
      omega
    · simp only [Array.toList_append, List.append_assoc]
      rw [← List.append_assoc, ← hlen]
      exact List.take_left
  rcases hown.2 with ⟨rfl, rfl⟩ | ⟨g, cap, cur, rfl, hbg, hg, hnc, hcm, hcs, htake⟩
  · have hx : xs = [] := List.eq_nil_of_length_eq_zero hxl
    subst hx
    by_cases hm : m = 0
    · subst hm
      refine ⟨.slice none 0 0, w, ?_, World.ownsRow_nil w base e 1, ⟨rfl, rfl, rfl, Nat.le_refl _, fun _ _ _ => rfl⟩, .inl rfl⟩
      have hw0 : IntKind.i64.wrap (0 : Int) = 0 := rfl
      simp [Builtin.append_, run_underlying ht, run_underlying hti, sizeOf, typeInfo, hi, asInt, asIntOf, hw0]
    · have hn : m ≠ 0 := hm
      have h63' : ¬ (9223372036854775807 < (m : Int)) := by omega
      have h48' : ¬ (281474976710656 < Builtin.nextslicecap m 0 * i.bytes) := by rw [nextslicecap_zero (by omega)]; rw [Nat.zero_add] at hbytes; omega
      have hr : (Builtin.append_ #[t, ti] ty #[.slice none 0 0, .int k (m : Int)]).run P w = .ok (.slice (some ⟨w.heap.size, 0, none⟩) m (grownCap w m 0 e)) (w.drew.alloc (.cells ((List.replicate m z).toArray ++ Builtin.zeroCells z.cells (grownCap w m 0 e - m)) e)) := by
        have hf : (Builtin.firstCells 1 0 (.slice none 0 0)).run P w.drew = .ok #[] w.drew := run_firstCells_none w.drew 1 0 0 0
        have hzz := zeroCells_one z m
        rw [← hzc] at hzz
        simp [Builtin.append_, run_underlying ht, run_underlying hti, sizeOf, typeInfo, zeroValue, hi, hz, asInt, asIntOf, hw, hneg, h48i, hsize, hn, h63', h48', Question.forced, hf, hzz, newRow, grownCap]
      have hgr := grown 0 (by omega) (Value.ownBlock (.slice none 0 0))
      simp only [Nat.zero_add, List.nil_append, Array.empty_append] at hgr ⊢
      exact ⟨_, _, hr, hgr.1, hgr.2, .inr rfl⟩
  · have hzz := zeroCells_one z m
    rw [← hzc] at hzz
    by_cases hroom : n + m ≤ cap
    · have hfit : n * 1 + (List.replicate m z).length ≤ cur.size := by rw [hcs, List.length_replicate]; omega
      have hst := run_storeCells_at P g (n * 1) e (List.replicate m z) 0 cur w hg (by simpa using hfit) (fun u hu => by rw [(List.mem_replicate.1 hu).2]; exact h1)
      simp only [Nat.add_zero] at hst
      have hr : (Builtin.append_ #[t, ti] ty #[.slice (some ⟨g, 0, none⟩) n cap, .int k (m : Int)]).run P w = .ok (.slice (some ⟨g, 0, none⟩) (n + m) cap) (w.setRow g (cur.toList.take (n * 1) ++ List.replicate m z ++ cur.toList.drop (n * 1 + (List.replicate m z).length)).toArray) := by
        by_cases hm : m = 0
        · subst hm
          have hst0 := hst
          simp only [List.replicate_zero, List.length_nil, Nat.add_zero, List.append_nil, Nat.mul_one] at hst0 ⊢
          have hst1 : (.ok () w : Result Unit) = _ := hst0
          have hsame := (Result.ok.inj hst1).2
          rw [← hsame]
          have hw0 : IntKind.i64.wrap (0 : Int) = 0 := rfl
          simp [Builtin.append_, run_underlying ht, run_underlying hti, sizeOf, typeInfo, hi, asInt, asIntOf, hw0, hsize, hnc, Addr.add_lit, storeCells]
        · have hst1 := hst
          simp only [Nat.mul_one] at hst1
          simp [Builtin.append_, run_underlying ht, run_underlying hti, sizeOf, typeInfo, zeroValue, hi, hz, asInt, asIntOf, hw, hneg, h48i, hsize, hroom, hm, hzz, Addr.add_lit, hst1]
      refine ⟨_, _, hr, ⟨hlen, .inr ⟨g, cap, _, rfl, hbg, setRow_heap w g cur _ e _ hg, hroom, hcm, ?_, ?_⟩⟩, ⟨rfl, rfl, rfl, by simp, fun k _ hk => setRow_other w g k _ (fun e => hk (by simp [Value.ownBlock, e]))⟩, .inl rfl⟩
      · simp only [List.size_toArray, List.length_append, List.length_take, List.length_drop, Array.length_toList]
        omega
      · rw [htake, ← hlen]
        exact List.take_left
    · have holds : ∀ j u, xs[j]? = some u → w.cell? ((⟨g, 0, none⟩ : Addr).add j) = some u := hown.cells (g := g) rfl
      have hn : ¬ (n + m ≤ cap) := hroom
      have h63' : ¬ (9223372036854775807 < ((n : Int) + (m : Int))) := by omega
      have h48' : ¬ (281474976710656 < Builtin.nextslicecap (n + m) cap * i.bytes) := by have := growslice_fits (old := cap) (by omega) hbytes; omega
      have hfo := run_firstCells_some (P := P) w.drew 1 n ⟨g, 0, none⟩ n cap xs (by rw [hxl]; omega) (by simpa using holds)
      have hm : m ≠ 0 := by omega
      have hr : (Builtin.append_ #[t, ti] ty #[.slice (some ⟨g, 0, none⟩) n cap, .int k (m : Int)]).run P w = .ok (.slice (some ⟨w.heap.size, 0, none⟩) (n + m) (grownCap w (n + m) cap e)) (w.drew.alloc (.cells (xs.toArray ++ (List.replicate m z).toArray ++ Builtin.zeroCells z.cells (grownCap w (n + m) cap e - (n + m))) e)) := by
        simp [Builtin.append_, run_underlying ht, run_underlying hti, sizeOf, typeInfo, zeroValue, hi, hz, asInt, asIntOf, hw, hneg, h48i, hsize, hn, h63', h48', Question.forced, hfo, hm, hzz, newRow, grownCap]
      have hgr := grown cap (by omega) (Value.ownBlock (.slice (some ⟨g, 0, none⟩) n cap))
      exact ⟨_, _, hr, hgr.1, hgr.2, .inr rfl⟩
end

section
variable {P : Program} {Q : Exit → Act → World → Prop} {n : NF} {J : Nat → Value} {L : List (Nat × Value)} {w g : World}
  {d : Nat} {ty : TypeId} {pos : String} {aft : Array Edge} {v : Value} {x y : Operand} {t t2 : TypeId} {T : Nat → Prop} {KK : Act → World → Prop} {G : List Assn} {q : Nat}
/-- Zeros are appended. -/
theorem apZ {α : Type} {r : Rp α} {e : TypeId} {l : List α} {z : Value} {z0 : α} {m : Int} {k1 k2 : IntKind} (hS : Sep g T w G) (hi : AtR G q (ownA r e v l)) (hx : ev n J L x = v) (hy : ev n J L y = .int k1 m) (hm : 0 ≤ m)
    (ht : P.underlying t = some (.slice e)) (ht2 : P.underlying t2 = some (.int k2)) (he : ElemOk P e r.sz) (hsz1 : r.sz = 1) (hz : ∀ w, (zeroValue e).run P w = .ok z w) (hzc : z.cells = #[z]) (h1 : z.oneCell' = true) (hr : ∀ T w, r.rp T w [z] z0)
    (hroom : l.length + m.toNat ≤ 8589934592)
    (k : ∀ w' a m' c, Im T w T w' → Sep g T w' (setA G q (ownA r e (.slice a m' c) (l ++ List.replicate m.toNat z0))) → KK (env n J ((d, .slice a m' c) :: L)) w') :
    Oper.wp P ⟨some d, .call ⟨.builtin .append, #[x, y], #[t, t2]⟩, ty, pos, aft, none⟩ (env n J L) w KK Q := by
  have ho := hS.own hi
  have k' : ∀ v' w', Im T w T w' → OwS r e 0 T w' v' (l ++ List.replicate m.toNat z0) → Sep g T w' (setA G q (ownA r e v' (l ++ List.replicate m.toNat z0))) → KK (env n J ((d, v') :: L)) w' := fun v' w' him ho' hs' => by
    obtain ⟨a, c, hv'⟩ := ho'.shape
    subst hv'
    exact k w' _ _ _ him hs'
  obtain ⟨i, z', hi', hz', hsz, hzs, hpos, hby⟩ := he.ex
  have hzz : z' = z := by
    have := hz w
    simp [zeroValue, typeInfo, hi', hz'] at this
    exact this
  subst hzz
  have ho0 := ho
  obtain ⟨cs0, c1, c2, c3, c4⟩ := ho
  rw [hsz1] at c2 hsz
  obtain ⟨m, rfl⟩ : ∃ m' : Nat, m = (m' : Int) := ⟨m.toNat, by omega⟩
  simp only [Int.toNat_natCast] at hroom k k'
  obtain ⟨v', w', hrun, hown, hgr, hblk⟩ := append_zeros (P := P) w 0 t t2 ty e i z' i.bytes k1 k2 ht ht2 hi' hz' hsz rfl hzc h1 v l.length cs0.flatten c2 m hroom (Nat.le_trans (Nat.mul_le_mul hroom hby) (by decide)) (Nat.zero_le _)
  have hb := hS.lt
  have hinn : Inn w.heap.size (ownS v) T w T w' :=
    ⟨⟨hgr.os, hgr.tape, hgr.output, hgr.size, fun b hb' hn => hgr.block b hb' (fun hh => hn (.inr hh.symm))⟩, fun b hb' => ⟨hb', hgr.block b (hb b hb') (fun hh => c4 b hh.symm hb')⟩, fun _ _ h => h, fun b hb' => Nat.lt_of_lt_of_le (hb b hb') hgr.size, hgr.size⟩
  have hT' : ∀ g, v'.ownBlock = some g → ¬ T g := by
    intro g hg
    rcases hblk with hblk | hblk
    · exact c4 g (hblk ▸ hg)
    · rw [hblk] at hg
      cases hg
      exact nT_new hb
  have ho' : OwS r e 0 T w' v' (l ++ List.replicate m z0) := by
    refine ⟨cs0 ++ List.replicate m [z'], by simp [c1], ?_, ?_, hT'⟩
    · rw [hsz1, List.flatten_append, List.length_append, List.length_replicate]
      rw [flat_rep]
      exact hown
    · intro j cs u hcs hu
      rcases Nat.lt_or_ge j l.length with hj | hj
      · rw [List.getElem?_append_left (by omega)] at hcs hu
        exact r.mono hinn.imm (c3 j cs u hcs hu)
      · rw [List.getElem?_append_right (by omega)] at hcs hu
        have e1 := List.mem_of_getElem? hcs
        have e2 := List.mem_of_getElem? hu
        rw [(List.mem_replicate.1 e1).2, (List.mem_replicate.1 e2).2]
        exact hr _ _
  have hd : ∀ b, b < w.heap.size → Dj v b → Dj v' b := by
    intro b hb' hd g hg
    rcases hblk with hblk | hblk
    · exact hd g (hblk ▸ hg)
    · rw [hblk] at hg
      cases hg
      omega
  refine w_val (w' := w') (v := v') ?_ (k' v' w' hinn.imm ho' (hS.grow hi hinn ho' hd))
  simp only [execOp, resolve, invoke, builtin, Sem.run_bind, Sem.run_pure, Result.andThen_ok, List.map_toArray, List.map_cons, List.map_nil, hx, hy, hrun]
end
end Go.Proofs.Ytbbppcogjdmmiaa
