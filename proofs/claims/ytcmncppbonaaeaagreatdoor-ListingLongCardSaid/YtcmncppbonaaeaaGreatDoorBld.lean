/- A strings.Builder of a function's own, as a thing that it owns: what WriteString and String do to it. -/
import Derived.Test.YtcmncppbonaaeaaGreatDoorH
import Derived.Shelf.Strings.Builder1
set_option linter.unusedVariables false
namespace Go.Proofs.YtcmncppbonaaeaaGreatDoor
open Go.Shelf Go.RowKit
theorem Sep.upd {g : World} {T : Nat → Prop} {w : World} {R A : Assn} (h : Sep g T w [R, A]) : ∃ F, A.P T w F ∧ (∀ k, F k → ¬ T k) ∧ ∀ (B : Assn) (w' : World) (F' : Nat → Prop), w'.os = w.os → w'.tape = w.tape → w'.output = w.output → w.heap.size ≤ w'.heap.size →
    (∀ k, k < w.heap.size → ¬ F k → w'.heap[k]? = w.heap[k]?) → B.P T w' F' → (∀ k, F' k → F k ∨ w.heap.size ≤ k) → Im T w T w' ∧ Sep g T w' [R, B] := by
  obtain ⟨h1, h2, h3, h4, fs, h5, h6⟩ := h
  have l0 : 0 < lenA [R, A] := by simp [lenA]
  have l1 : 1 < lenA [R, A] := by simp [lenA]
  refine ⟨fs 1, h5.1 1 l1, fun k hk => h6 1 k l1 hk, fun B w' F' e1 e2 e3 e4 same hB hF => ?_⟩
  have hR : R.P T w (fs 0) := h5.1 0 l0
  have hRb : ∀ k, fs 0 k → k < w.heap.size := R.bnd hR
  have hd : ∀ k, fs 0 k → ¬ fs 1 k := fun k a b => absurd (h5.2 0 1 k l0 l1 a b) (by decide)
  have him : Im T w T w' := fun k hk => ⟨hk, same k (h4 k hk) (fun hF => h6 1 k l1 hF hk)⟩
  refine ⟨him, e1.trans h1, e2.trans h2, e3.trans h3, fun k hk => Nat.lt_of_lt_of_le (h4 k hk) e4, fun i k => match i with | 0 => fs 0 k | _ => F' k, ⟨fun i hi => ?_, fun a b k ha hb x1 x2 => ?_⟩, fun i k hi hk => ?_⟩
  · match i, hi with
    | 0, _ => exact R.loc hR (fun _ h => h) (fun k hk => hk.elim (fun hT => (him k hT).2) (fun hf => same k (hRb k hf) (hd k hf)))
    | 1, _ => exact hB
    | i + 2, hi => exact absurd (show i + 2 < 2 from hi) (by omega)
  · match a, b, ha, hb with
    | 0, 0, _, _ => rfl
    | 1, 1, _, _ => rfl
    | 0, 1, _, _ => exact (hF k x2).elim (fun h => absurd h (hd k x1)) (fun h => absurd (hRb k x1) (by omega))
    | 1, 0, _, _ => exact (hF k x1).elim (fun h => absurd h (hd k x2)) (fun h => absurd (hRb k x2) (by omega))
    | a + 2, _, ha, _ => exact absurd (show a + 2 < 2 from ha) (by omega)
    | _, b + 2, _, hb => exact absurd (show b + 2 < 2 from hb) (by omega)
  · match i, hi with
    | 0, _ => exact h6 0 k l0 hk
    | 1, _ => exact (hF k hk).elim (fun h => h6 1 k l1 h) (fun h hT => absurd (h4 k hT) (by omega))
    | i + 2, hi => exact absurd (show i + 2 < 2 from hi) (by omega)
/-- A builder of this function's own. -/
def bldA (b : Nat) (l : List UInt8) : Assn where
  P := fun T w F => ∃ p v, w.heap[b]? = some (.cells #[p, v] 60 (0, 0)) ∧ (p = .pointer none ∨ p = .pointer (some ⟨b, 0, none⟩)) ∧ w.ownsRow 0 5 1 v l.length (Lib.byteCells l) ∧ v.ownBlock ≠ some b ∧ (l = [] → v = .slice none 0 0) ∧ ∀ k, F k ↔ k = b ∨ v.ownBlock = some k
  loc := fun {T T' w w' F} ⟨p, v, h1, h2, h3, h4, h5, h6⟩ hT hs => by
    refine ⟨p, v, (hs b (.inr ((h6 b).2 (.inl rfl)))).trans h1, h2, ⟨h3.1, ?_⟩, h4, h5, h6⟩
    rcases h3.2 with hn | ⟨g, cap, cur, hv, hb, hgg, rest⟩
    · exact .inl hn
    · exact .inr ⟨g, cap, cur, hv, hb, (hs g (.inr ((h6 g).2 (.inr (by rw [hv]; rfl))))).trans hgg, rest⟩
  bnd := fun {T w F} ⟨p, v, h1, h2, h3, h4, h5, h6⟩ k hk => by
    rcases (h6 k).1 hk with rfl | hk
    · exact hlt h1
    · rcases h3.2 with ⟨hn, _⟩ | ⟨g, cap, cur, hv, hb, hgg, rest⟩
      · rw [hn] at hk; cases hk
      · rw [hv] at hk; cases hk; exact hlt hgg
section
variable {P : Program} {n : NF} {J : Nat → Value} {L : List (Nat × Value)} {w : World} {KK : Act → World → Prop} {Q : Exit → Act → World → Prop} {g : World} {T : Nat → Prop} {G : List Assn} {d : Nat} {ty : TypeId} {pos : String} {aft : Array Edge}
theorem alBld (hz : ∀ w, (zeroValue 60).run P w = .ok (.agg #[.pointer none, .slice none 0 0]) w) (hS : Sep g T w G)
    (k : ∀ w' b, Im T w T w' → Sep g T w' (bldA b [] :: G) → KK (env n J ((d, .pointer (some ⟨b, 0, none⟩)) :: L)) w') :
    Oper.wp P ⟨some d, .alloc 60, ty, pos, aft, none⟩ (env n J L) w KK Q := by
  have i := inn_alloc hS.lt (.cells #[.pointer none, .slice none 0 0] 60) (w := w)
  refine w_val (w' := w.alloc (.cells #[.pointer none, .slice none 0 0] 60)) (v := .pointer (some ⟨w.heap.size, 0, none⟩)) ?_
    (k _ _ i.imm (hS.cons i (fun _ h => h) (F := (· = w.heap.size)) ⟨_, _, heap_alloc_new w _, .inl rfl, World.ownsRow_nil _ _ _ _, by simp [Value.ownBlock], fun _ => rfl, fun k => by simp [Value.ownBlock]⟩ fun k hk => by subst hk; exact ⟨Nat.le_refl _, nT_new hS.lt⟩))
  simp only [execOp, Instr.alloc, newVar, Sem.run_bind, hz, Result.andThen_ok]; rfl
end
theorem aps_own {P : Program} {w w' : World} {t u ty e : TypeId} {i : TypeInfo} (ht : P.underlying t = some (.slice e)) (hu : P.underlying u = some .string) (hi : P.info? e = some i) (hz : i.zero = some (.int .u8 0))
    (hsize : i.size = 1) (hby : i.bytes = 1) {v v' : Value} {n : Nat} {xs : List Value} (hown : w.ownsRow 0 e 1 v n xs) (s : ByteArray) (h63 : n + s.size ≤ maxLen) (hbytes : n + s.size ≤ 140737488355328)
    (hr : (Builtin.append_ #[t, u] ty #[v, .string s]).run P w = .ok v' w') : ∀ k, v'.ownBlock = some k → v.ownBlock = some k ∨ w.heap.size ≤ k := by
  intro k hk
  have hsmall : n + s.size ≤ 9223372036854775807 := by simp only [maxLen] at h63; omega
  have hxl : xs.length = n := by simpa using hown.1
  rcases hown.2 with ⟨rfl, rfl⟩ | ⟨g, cap, cur, rfl, hbg, hg, hnc, hcm, hcs, htake⟩
  · have hx : xs = [] := List.eq_nil_of_length_eq_zero hxl
    subst hx
    obtain ⟨v2, w2, hr2, ho, _, _⟩ := Lib.run_append_own_string w w.heap.size t u ty e i ht hu hi hz hsize hby (.slice none 0 0) 0 [] (World.ownsRow_nil _ _ _ _) s h63 hbytes (Nat.le_refl _)
    rw [hr] at hr2
    cases hr2
    exact .inr (ho.lt k hk).1
  · by_cases hroom : n + s.size ≤ cap
    · have hcs' : cur.size = cap := by simpa using hcs
      have hr2 := Lib.run_append_room_string (P := P) w t u ty e i ht hu hi hsize g n cap cur hg s hroom (by omega)
      rw [hr] at hr2
      injection hr2 with a b
      subst a
      exact .inl hk
    · have holds : ∀ j u, xs[j]? = some u → w.cell? ((⟨g, 0, none⟩ : Addr).add j) = some u := hown.cells (g := g) rfl
      have hr2 := Lib.run_append_grow_string (P := P) w t u ty e i (.int .u8 0) ht hu hi hz ⟨g, 0, none⟩ n cap xs (by rw [hsize]; simpa using hxl) holds s (by omega) (by omega) (by rw [hby]; exact growslice_fits (by omega) (by omega))
      rw [hr] at hr2
      injection hr2 with a b
      subst a
      cases hk
      exact .inr (Nat.le_refl _)
theorem wpList_aps {P : Program} {w : World} {ops : Array Oper} {rest : List Oper} {o : Oper} {a : Act} {Q : Exit → Act → World → Prop} (hgd : o.guard = none) (sl x : Operand) (t u : TypeId)
    (ho : o.op = .call { callee := .builtin .append, args := #[sl, x], argTypes := #[t, u] }) (e : TypeId) (i : TypeInfo) (ht : P.underlying t = some (.slice e)) (hu : P.underlying u = some .string) (hi : P.info? e = some i) (hz : i.zero = some (.int .u8 0))
    (hsize : i.size = 1) (hby : i.bytes = 1) (v : Value) (n : Nat) (xs : List Value) (hs : a.eval sl = v) (hown : w.ownsRow 0 e 1 v n xs) (s : ByteArray) (hx : a.eval x = .string s)
    (h63 : n + s.size ≤ maxLen) (hbytes : n + s.size ≤ 140737488355328)
    (h : ∀ v' w', w'.ownsRow 0 e 1 v' (n + s.size) (xs ++ Lib.strCells s) → w.grownBy w' v.ownBlock → (∀ k, v'.ownBlock = some k → v.ownBlock = some k ∨ w.heap.size ≤ k) → (v' = .slice none 0 0 ↔ v = .slice none 0 0 ∧ s.size = 0) → wpList P ops Q rest (a.put o.dst v') w') : wpList P ops Q (o :: rest) a w := by
  refine wpList_plain hgd fun K hK => ?_
  obtain ⟨v', w', hr, h2, h3, h4⟩ := Lib.run_append_own_string (P := P) w 0 t u o.type e i ht hu hi hz hsize hby v n xs hown s h63 hbytes (Nat.zero_le _)
  have h5 := aps_own ht hu hi hz hsize hby hown s h63 hbytes hr
  unfold Oper.wp execOp
  simp only [ho, resolve, invoke, builtin, Sem.run_bind, Sem.run_pure, Result.andThen_ok, List.map_toArray, List.map_cons, List.map_nil, hs, hx, hr]
  exact hK _ _ (h v' w' h2 h3 h5 h4)
set_option maxHeartbeats 2000000 in
set_option maxRecDepth 100000 in
theorem bldWS (b : Nat) (l : List UInt8) (s : ByteArray) (w : World) (p v : Value) (hbk : w.heap[b]? = some (.cells #[p, v] 60 (0, 0))) (hp : p = .pointer none ∨ p = .pointer (some ⟨b, 0, none⟩)) (hown : w.ownsRow 0 5 1 v l.length (Lib.byteCells l))
    (hne : v.ownBlock ≠ some b) (hlen : l.length + s.size ≤ 140737488355328) :
    Calls Tryz.prog 36 #[.pointer (some ⟨b, 0, none⟩), .string s] w fun e w' => e = .returned (.tuple #[.int .i64 s.size, .nilIface]) ∧
      ∃ v', w'.heap[b]? = some (.cells #[.pointer (some ⟨b, 0, none⟩), v'] 60 (0, 0)) ∧ w'.ownsRow 0 5 1 v' (l.length + s.size) (Lib.byteCells l ++ Lib.strCells s) ∧ v'.ownBlock ≠ some b ∧ (v' = .slice none 0 0 ↔ v = .slice none 0 0 ∧ s.size = 0) ∧
        (∀ k, v'.ownBlock = some k → v.ownBlock = some k ∨ w.heap.size ≤ k) ∧ w'.os = w.os ∧ w'.tape = w.tape ∧ w'.output = w.output ∧ w.heap.size ≤ w'.heap.size ∧ ∀ k, k < w.heap.size → k ≠ b → v.ownBlock ≠ some k → w'.heap[k]? = w.heap[k]? := by
  have hcc : Calls Tryz.prog 55 #[.pointer (some ⟨b, 0, none⟩)] w fun e w' => e = .returned (.tuple #[]) ∧ w'.heap[b]? = some (.cells #[.pointer (some ⟨b, 0, none⟩), v] 60 (0, 0)) ∧ w'.os = w.os ∧ w'.tape = w.tape ∧ w'.output = w.output ∧ w'.heap.size = w.heap.size ∧ ∀ k, k ≠ b → w'.heap[k]? = w.heap[k]? := by
    rcases hp with rfl | rfl
    · refine Calls.mono (Any.Builder_copyCheck_fresh lays240 extraB.toX72 b w (by rw [Lib.cell_of_heap hbk]; rfl) (by simp [World.shape?, hbk]; rfl) (by simp [World.frozen?, hbk])) ?_
      rintro e w' ⟨rfl, rfl⟩
      exact ⟨rfl, by simp [World.setCell, Array.getElem?_modify, hbk], rfl, rfl, rfl, by simp [World.setCell], fun k hk => Below.heap_setCell _ _ _ _ hk⟩
    · refine Calls.mono (Any.Builder_copyCheck_used lays240 extraB.toX72 b w (by rw [Lib.cell_of_heap hbk]; rfl)) ?_
      rintro e w' ⟨rfl, rfl⟩
      exact ⟨rfl, hbk, rfl, rfl, rfl, rfl, fun _ _ => rfl⟩
  obtain ⟨i0, hi, hz0, hz1, hz2⟩ := info_parts extraB.infoByte
  go_enter Tryz.func36, Tryz.ntmps36
  go_wp2_with (go_at_call 55; refine hcc.mono ?_)
  rintro e w1 ⟨rfl, hbk1, q1, q2, q3, q4, q5⟩
  have hown1 : w1.ownsRow 0 5 1 v l.length (Lib.byteCells l) := by
    refine ⟨hown.1, ?_⟩
    rcases hown.2 with hn | ⟨g, cap, cur, hv, hb, hgg, rest⟩
    · exact .inl hn
    · exact .inr ⟨g, cap, cur, hv, hb, (q5 g (fun e => hne (by rw [hv, e]; rfl))).trans hgg, rest⟩
  have c0 : w1.cell? ⟨b, 0, none⟩ = some (.pointer (some ⟨b, 0, none⟩)) := by rw [Lib.cell_of_heap hbk1]; rfl
  have c1 : w1.cell? ⟨b, 1, none⟩ = some v := by rw [Lib.cell_of_heap hbk1]; rfl
  go_wp2_with (at_builtin; refine wpList_aps rfl _ _ 42 9 rfl 5 i0 Tryz.underlying42 Tryz.underlying9 hi hz0 hz1 hz2 _ _ _ rfl hown1 s rfl ?c3 ?c4 ?_)
  case c3 => unfold maxLen; omega
  case c4 => exact hlen
  intro v' w2 hown' hgrow hblk hnil
  have hlt' : b < w1.heap.size := hlt hbk1
  have hb2 : w2.heap[b]? = some (.cells #[.pointer (some ⟨b, 0, none⟩), v] 60 (0, 0)) := by
    rw [hgrow.block b hlt' (fun e => hne e.symm)]
    exact hbk1
  have d0 : w2.cell? ⟨b, 0, none⟩ = some (.pointer (some ⟨b, 0, none⟩)) := by rw [Lib.cell_of_heap hb2]; rfl
  have d1 : w2.cell? ⟨b, 1, none⟩ = some v := by rw [Lib.cell_of_heap hb2]; rfl
  have f1 : w2.frozen? ⟨b, 1, none⟩ = false := Lib.frozen_of_heap hb2 1
  have hne' : v'.ownBlock ≠ some b := fun e => (hblk b e).elim hne (fun h => by omega)
  obtain ⟨ao, n', cap, rfl⟩ : ∃ ao n' cap, v' = .slice ao n' cap := by
    rcases hown'.2 with ⟨hv, _⟩ | ⟨g, cap, cur, hv, _⟩
    · exact ⟨_, _, _, hv⟩
    · exact ⟨_, _, _, hv⟩
  have HN := Lib.hid hnil
  clear hnil
  go_wp2
  go_ret2
  refine ⟨rfl, .slice ao n' cap, ?_, ?_, hne', (by have := HN.out; simpa using this), fun k hk => (hblk k hk).imp id (fun h => by omega), ?_, ?_, ?_, ?_, ?_⟩
  · simp [World.setCell, Array.getElem?_modify, hb2]
  · refine hown'.kept (row := some b) ⟨rfl, rfl, rfl, by simp [World.setCell], fun k _ hk => Below.heap_setCell _ _ _ _ (fun e => hk (by simp [e]))⟩ (Or.inr hne')
  · exact hgrow.os.trans q1
  · exact hgrow.tape.trans q2
  · exact hgrow.output.trans q3
  · simp only [World.setCell, Array.size_modify]
    have := hgrow.size
    omega
  · intro k hk hkb hkv
    rw [Below.heap_setCell _ _ _ _ hkb, hgrow.block k (by omega) (fun e => hkv e.symm), q5 k hkb]
theorem bld_WriteString_sim {g : World} {T0 : Nat → Prop} {w0 : World} {R : Assn} {b : Nat} {p0 p1 : List UInt8} {r : Int × List UInt8} (hS : Sep g T0 w0 [R, bldA b p0]) (hm : bld_WriteString p0 p1 = some r) :
    Calls Tryz.prog 36 #[.pointer (some ⟨b, 0, none⟩), .string ⟨p1.toArray⟩] w0 (RetS T0 w0 fun T w v => v = .tuple #[.int .i64 r.1, .nilIface] ∧ Sep g T w [R, bldA b r.2] ∧ True) := by
  unfold bld_WriteString at hm
  split at hm
  · rename_i hl
    cases hm
    have hs1 : (⟨p1.toArray⟩ : ByteArray).size = p1.length := by simp [ByteArray.size]
    obtain ⟨F, ⟨p, v, h1, h2, h3, h4, h5, h6⟩, hFT, up⟩ := hS.upd
    refine (bldWS b p0 ⟨p1.toArray⟩ w0 p v h1 h2 h3 h4 (by omega)).mono ?_
    rintro e w ⟨rfl, v', k1, k2, k3, k4, k5, k6, k7, k8, k9, k10⟩
    have hc : Lib.byteCells p0 ++ Lib.strCells ⟨p1.toArray⟩ = Lib.byteCells (p0 ++ p1) := by simp [Lib.byteCells, Lib.strCells]
    rw [hs1, hc] at k2
    have hK := up (bldA b (p0 ++ p1)) w (fun k => k = b ∨ v'.ownBlock = some k) k6 k7 k8 k9 (fun k hk hF => k10 k hk (fun e => hF ((h6 k).2 (.inl e))) (fun e => hF ((h6 k).2 (.inr e)))) ⟨_, v', k1, .inr rfl, by rw [List.length_append]; exact k2, k3, fun hnil => by
        obtain ⟨a1, a2⟩ := List.append_eq_nil_iff.1 hnil
        exact k4.2 ⟨h5 a1, by rw [hs1, a2]; rfl⟩, fun k => Iff.rfl⟩ (fun k hk => hk.elim (fun e => .inl ((h6 k).2 (.inl e))) (fun e => (k5 k e).imp (fun e => (h6 k).2 (.inr e)) id))
    exact ⟨_, rfl, _, hK.1, by rw [hs1], hK.2, trivial⟩
  · cases hm
theorem freeze_os (w : World) (a : Addr) (m : Nat) : (w.freeze a m).os = w.os := by unfold World.freeze; split <;> rfl
theorem freeze_tape (w : World) (a : Addr) (m : Nat) : (w.freeze a m).tape = w.tape := by unfold World.freeze; split <;> rfl
theorem freeze_out (w : World) (a : Addr) (m : Nat) : (w.freeze a m).output = w.output := by unfold World.freeze; split <;> rfl
theorem freeze_size (w : World) (a : Addr) (m : Nat) : w.heap.size ≤ (w.freeze a m).heap.size := by unfold World.freeze; split <;> simp
theorem freeze_other (w : World) (a : Addr) (m k : Nat) (h : k ≠ a.block) : (w.freeze a m).heap[k]? = w.heap[k]? := by
  unfold World.freeze
  split
  · rfl
  · simp only [Array.getElem?_modify]
    rw [if_neg (fun e => h e.symm)]
set_option maxHeartbeats 1000000 in
set_option maxRecDepth 100000 in
theorem bldStr (b : Nat) (l : List UInt8) (w : World) (p v : Value) (hbk : w.heap[b]? = some (.cells #[p, v] 60 (0, 0))) (hown : w.ownsRow 0 5 1 v l.length (Lib.byteCells l)) (hnil : l = [] → v = .slice none 0 0) :
    Calls Tryz.prog 39 #[.pointer (some ⟨b, 0, none⟩)] w fun e w' => e = .returned (.string ⟨l.toArray⟩) ∧ w'.os = w.os ∧ w'.tape = w.tape ∧ w'.output = w.output ∧ w.heap.size ≤ w'.heap.size ∧ ∀ k, k < w.heap.size → v.ownBlock ≠ some k → w'.heap[k]? = w.heap[k]? := by
  have mixed : Tryz.prog.follows .mixedOrders = true := by kernel_rfl
  by_cases h0 : l = []
  · have hv := hnil h0
    subst h0
    subst hv
    refine (Any.Builder_String_nil lays169 extraB w.heap.size b p w hbk).mono ?_
    rintro e w' ⟨rfl, hB⟩
    exact ⟨rfl, hB.os, hB.tape, hB.output, hB.size, fun k hk _ => hB.block k hk⟩
  · have hl0 : l.length ≠ 0 := by simpa using h0
    obtain ⟨g, cap, cur, rfl, hbg, hg, hnc, hcm, hcs, htake⟩ : ∃ g cap cur, v = .slice (some ⟨g, 0, none⟩) l.length cap ∧ 0 ≤ g ∧ w.heap[g]? = some (.cells cur 5 (0, 0)) ∧ l.length ≤ cap ∧ cap ≤ maxLen ∧ cur.size = cap * 1 ∧ cur.toList.take (l.length * 1) = Lib.byteCells l := by
      rcases hown.2 with ⟨_, hz⟩ | ⟨g, cap, cur, hv, r⟩
      · exact absurd hz hl0
      · exact ⟨g, cap, cur, hv, r⟩
    have c1 : w.drew.cell? ⟨b, 1, none⟩ = some (.slice (some ⟨g, 0, none⟩) l.length cap) := by
      have : w.drew.heap[b]? = some (.cells #[p, .slice (some ⟨g, 0, none⟩) l.length cap] 60 (0, 0)) := hbk
      rw [Lib.cell_of_heap this]; rfl
    have hSD : (Builtin.unsafeSliceData_ #[42] 86 #[.slice (some ⟨g, 0, none⟩) l.length cap]).run Tryz.prog w.drew = .ok (.pointer (some ⟨g, 0, none⟩)) w.drew :=
      Lib.run_unsafeSliceData_row _ _ _ _ _ _ (by omega)
    have hUS : (Builtin.unsafeString_ #[86, 3] 9 #[.pointer (some ⟨g, 0, none⟩), .int .i64 l.length]).run Tryz.prog w.drew = .ok (.string ⟨l.toArray⟩) (w.drew.freeze ⟨g, 0, none⟩ l.length) := by
      refine Lib.run_unsafeString_row w.drew 86 3 9 5 lays169.t127 extraB.cellsByte g cur.size (by have hg' : w.drew.heap[g]? = some (.cells cur 5 (0, 0)) := hg; simp [World.shape?, hg']) l h0 (by omega) (by unfold maxLen at hcm; omega) ?_
      intro j x hx
      have := hown.cells (g := g) rfl j (.int .u8 x.toNat) (by simp [Lib.byteCells, hx])
      exact this
    go_enter Tryz.func39, Tryz.ntmps39
    go_wp2
    go_region_o
    all_goals (go_wp2; go_ret; exact ⟨rfl, freeze_os w.drew _ _, freeze_tape w.drew _ _, freeze_out w.drew _ _, freeze_size w.drew _ _, fun k _ hk => freeze_other w.drew _ _ _ (fun e => hk (by rw [e]; rfl))⟩)
theorem bld_String_sim {g : World} {T0 : Nat → Prop} {w0 : World} {R : Assn} {b : Nat} {p0 r : List UInt8} (hS : Sep g T0 w0 [R, bldA b p0]) (hm : bld_String p0 = some r) :
    Calls Tryz.prog 39 #[.pointer (some ⟨b, 0, none⟩)] w0 (RetS T0 w0 fun T w v => v = .string ⟨r.toArray⟩ ∧ Sep g T w [R] ∧ True) := by
  cases hm
  obtain ⟨F, ⟨p, v, h1, h2, h3, h4, h5, h6⟩, hFT, up⟩ := hS.upd
  refine (bldStr b p0 w0 p v h1 h3 h5).mono ?_
  rintro e w ⟨rfl, k6, k7, k8, k9, k10⟩
  have hK := up empA w (fun _ => False) k6 k7 k8 k9 (fun k hk hF => k10 k hk (fun e => hF ((h6 k).2 (.inr e)))) (fun _ h => h) (fun _ h => h.elim)
  exact ⟨_, rfl, _, hK.1, rfl, hK.2.sel [0] rfl, trivial⟩
end Go.Proofs.YtcmncppbonaaeaaGreatDoor
