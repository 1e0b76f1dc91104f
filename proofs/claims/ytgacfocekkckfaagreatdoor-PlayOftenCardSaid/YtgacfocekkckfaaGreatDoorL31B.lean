/- Plain laws: no program is in sight here. -/
import Derived.Test.YtgacfocekkckfaaGreatDoorL31A
set_option linter.unusedVariables false
namespace Go.Proofs.YtgacfocekkckfaaGreatDoor
theorem lowN (x : Nat) (h : x < 4294967296) : x &&& 4294967294 = x / 2 * 2 := by
  rw [show (4294967294 : Nat) = (2 ^ 31 - 1) <<< 1 from rfl, show x / 2 * 2 = (x >>> 1) <<< 1 by rw [Nat.shiftLeft_eq, Nat.shiftRight_eq_div_pow]]
  apply Nat.eq_of_testBit_eq
  intro i
  rw [Nat.testBit_and, Nat.testBit_shiftLeft, Nat.testBit_shiftLeft, Nat.testBit_shiftRight, Nat.testBit_two_pow_sub_one]
  by_cases h1 : 1 ≤ i
  · simp only [ge_iff_le, h1, decide_true, Bool.true_and]
    rw [show 1 + (i - 1) = i by omega]
    by_cases h2 : i - 1 < 31
    · simp [h2]
    · rw [Nat.testBit_lt_two_pow (Nat.lt_of_lt_of_le h (show 4294967296 ≤ 2 ^ i from Nat.pow_le_pow_right (n := 2) (by omega) (show 32 ≤ i by omega)))]
      rfl
  · simp [h1]
theorem andN1 {x : Int} (h : Wd x) : bits .andNot .u32 x 1 = x - x % 2 := by
  obtain ⟨n, rfl⟩ : ∃ n : Nat, x = n := ⟨x.toNat, by omega⟩
  have hn : n < 4294967296 := by omega
  show IntKind.u32.wrap ((BitVec.ofInt 32 (n : Int) &&& ~~~ BitVec.ofInt 32 1).toNat : Int) = _
  rw [BitVec.toNat_and, bvW hn, show (~~~ BitVec.ofInt 32 1).toNat = 4294967294 by decide +kernel, lowN n hn, wu32]
  omega
section
variable {r : ref03Machine} {t : List DeviceMet}
def setR (r : ref03Machine) (d v : Int) : ref03Machine := if 0 < d then { r with Regs := r.Regs.set d.toNat v } else r
theorem idxN {l : List Int} {z : Int} {n : Nat} (hl : l.length = n) (h : 0 ≤ z ∧ z < n) : ∃ x, idx l z = some x ∧ x ∈ l ∧ l[z.toNat]? = some x := by
  obtain ⟨k, rfl⟩ : ∃ k : Nat, z = k := ⟨z.toNat, by omega⟩
  have hk : k < l.length := by omega
  exact ⟨l[k], idx_get hk, List.getElem_mem hk, by simp [hk]⟩
theorem set_eq (h : RW r) {d v : Int} (hd : 0 ≤ d ∧ d < 32) : ref03_Machine_set r d v = some (setR r d v) := by
  unfold ref03_Machine_set setR
  by_cases h0 : 0 < d
  · obtain ⟨x, hx, _⟩ := idxN h.rl hd
    rw [c1 (dt h0), hx, if_pos h0]; rfl
  · rw [c0 (df h0), if_neg h0]
theorem setR_clr (h : RW r) {d v : Int} (hd : 0 ≤ d ∧ d < 32) : (r.Regs.set d.toNat v).set 0 0 = (setR r d v).Regs := by
  have hz : r.Regs.set 0 0 = r.Regs := by
    apply List.ext_getElem? 
    intro i
    rw [List.getElem?_set]
    by_cases hi : 0 = i
    · subst hi; rw [if_pos rfl, if_pos (by rw [h.rl]; decide), h.r0]
    · rw [if_neg hi]
  unfold setR
  by_cases h0 : 0 < d
  · rw [if_pos h0, List.set_comm _ _ (by omega), hz]
  · have : d.toNat = 0 := by omega
    rw [if_neg h0, this, List.set_set, hz]
theorem setR_rw (h : RW r) {d v : Int} (hd : 0 ≤ d ∧ d < 32) (hv : Wd v) : RW (setR r d v) := by
  unfold setR
  by_cases h0 : 0 < d
  · rw [if_pos h0]
    refine ⟨by show (r.Regs.set _ _).length = 32; rw [List.length_set]; exact h.rl, fun x hx => ?_, ?_, h.pc, h.sq, h.ix, h.cw, h.cl, h.dw, h.dl, h.iw, h.il, h.ll, h.st⟩
    · rcases List.mem_or_eq_of_mem_set hx with hx | rfl
      · exact h.rw x hx
      · exact hv
    · show (r.Regs.set d.toNat v)[0]? = some 0
      rw [List.getElem?_set, if_neg (by omega)]
      exact h.r0
  · rw [if_neg h0]; exact h
theorem wrap_eq {z : Int} (h : -9223372036854775808 ≤ z ∧ z < 9223372036854775808) : ref03_wrap z = some (z % 4294967296) := by
  unfold ref03_wrap
  have := wm z
  rw [Cut_eq h, Option.bind_some, w64 (by omega)]
def Ends (r : ref03Machine) (t : List DeviceMet) (x : Option (Bool × ref03Machine)) (y : Option (Bool × DeviceMachine)) : Prop :=
  ∃ b r' g, x = some (b, r') ∧ y = some (b, { dm r' t with volatile := { (dm r' t).volatile with regs := g } }) ∧ g.length = 32 ∧ r'.Steps = r.Steps ∧ r'.Code = r.Code ∧ (b = true → RWs r' ∧ g.set 0 0 = r'.Regs) ∧ (b = false → r' = r ∧ g = r.Regs)
theorem RW.at (h : RW r) {p : Int} (hp : Wd p) : RWs { r with Pc := p } := ⟨h.s.rl, h.s.rw, h.s.r0, hp, h.s.sq, h.s.ix, h.s.cw, h.s.cl, h.s.dw, h.s.dl, h.s.iw, h.s.il, h.s.ll, h.s.st⟩
theorem RWs.at (h : RWs r) {p : Int} (hp : Wd p) : RWs { r with Pc := p } := ⟨h.rl, h.rw, h.r0, hp, h.sq, h.ix, h.cw, h.cl, h.dw, h.dl, h.iw, h.il, h.ll, h.st⟩
theorem ends_set (h : RW r) {d v p : Int} (hd : 0 ≤ d ∧ d < 32) (hv : Wd v) (hp : Wd p) : Ends r t (some (true, { setR r d v with Pc := p })) (some (true, { dm r t with volatile := { (dm r t).volatile with regs := r.Regs.set d.toNat v, pc := p } })) := by
  have hs := setR_rw h hd hv
  refine ⟨true, { setR r d v with Pc := p }, r.Regs.set d.toNat v, rfl, ?_, by rw [List.length_set]; exact h.rl, ?_, ?_, fun _ => ⟨hs.at hp, setR_clr h hd⟩, fun h => by cases h⟩
  · unfold setR; split <;> rfl
  · unfold setR; split <;> rfl
  · unfold setR; split <;> rfl
theorem regs_clr (h : RW r) : r.Regs.set 0 0 = r.Regs := by
  apply List.ext_getElem?
  intro i
  rw [List.getElem?_set]
  by_cases hi : 0 = i
  · subst hi; rw [if_pos rfl, if_pos (by rw [h.rl]; decide), h.r0]
  · rw [if_neg hi]
theorem ends_go (h : RW r) {p : Int} (hp : Wd p) : Ends r t (some (true, { r with Pc := p })) (some (true, { dm r t with volatile := { (dm r t).volatile with pc := p } })) :=
  ⟨true, { r with Pc := p }, r.Regs, rfl, rfl, h.rl, rfl, rfl, fun _ => ⟨h.at hp, regs_clr h⟩, fun h => by cases h⟩
theorem ends_no (h : RW r) : Ends r t (some (false, r)) (some (false, dm r t)) :=
  ⟨false, r, r.Regs, rfl, rfl, h.rl, rfl, rfl, fun h => (by cases h), fun _ => ⟨rfl, rfl⟩⟩
theorem do_sim (h : RW r) (hst : r.Steps ≤ 1000000) {i : GInst} (hi : IOk i) : Ends r t (ref03_Machine_do r i) (device_Machine_do (dm r t) i) := by
  obtain ⟨a, ea, ma, _⟩ := idxN h.rl hi.r1
  obtain ⟨b, eb, mb, _⟩ := idxN h.rl hi.r2
  obtain ⟨d, ed, _, _⟩ := idxN h.rl hi.rd
  have ha := h.rw a ma
  have hb := h.rw b mb
  have hp := h.pc
  have hm := hi.im
  have hop := hi.op
  have hL : lenOk (dm r t).volatile.regs 32 = some () := lenOk_ok (show (dm r t).volatile.regs.length = 32 from h.rl)
  have hI : IntKind.wrap .u32 i.Imm = i.Imm % 4294967296 := wu32 _
  have hA : IntKind.wrap .u32 (a + i.Imm % 4294967296) = (a + i.Imm) % 4294967296 := by rw [wu32]; omega
  have hN : IntKind.wrap .u32 ((dm r t).volatile.pc + 4) = (r.Pc + 4) % 4294967296 := wu32 _
  have hJ : IntKind.wrap .u32 ((dm r t).volatile.pc + i.Imm % 4294967296) = (r.Pc + i.Imm) % 4294967296 := by rw [wu32]; show (r.Pc + i.Imm % 4294967296) % 4294967296 = _; omega
  have wA := wm (a + i.Imm)
  have wN := wm (r.Pc + 4)
  have wJ := wm (r.Pc + i.Imm)
  have wI := wm i.Imm
  have uN : IntKind.wrap .u32 ((r.Pc + 4) % 4294967296) = (r.Pc + 4) % 4294967296 := by rw [wu32]; omega
  unfold ref03_Machine_do device_Machine_do
  rw [hL]
  simp only [Option.bind_some]
  rw [show (dm r t).volatile.regs = r.Regs from rfl, ea, eb, ed]
  simp only [Option.bind_some]
  rw [w64 (x := a) (by omega), w64 (x := a + i.Imm) (by omega), wrap_eq (z := a + i.Imm) (by omega), w64 (x := r.Pc + 4) (by omega), wrap_eq (z := r.Pc + 4) (by omega), hI, hA, hN, hJ]
  simp only [Option.bind_some, jn]
  have lset : ∀ (g : List Int) (v : Int), lenOk (({ dm r t with volatile := { (dm r t).volatile with regs := g.set i.Rd.toNat v } } : DeviceMachine).volatile.regs) 32 = lenOk (g.set i.Rd.toNat v) 32 := fun _ _ => rfl
  have lset2 : ∀ v : Int, lenOk (r.Regs.set i.Rd.toNat v) 32 = some () := fun v => lenOk_ok (by rw [List.length_set]; exact h.rl)
  by_cases o1 : i.Op = 1
  · have n1 : (i.Op == 1) = true := by simpa using o1
    rw [c1 n1, c1 n1, Cut_eq (by omega), Option.bind_some, set_eq h hi.rd, Option.bind_some]
    show Ends r t _ ((lenOk (r.Regs.set i.Rd.toNat (i.Imm % 4294967296)) 32).bind _)
    rw [lset2]
    exact ends_set h hi.rd wI wN
  have n1 : (i.Op == 1) = false := by simpa using o1
  rw [c0 n1, c0 n1]
  by_cases o2 : i.Op = 2
  · have n2 : (i.Op == 2) = true := by simpa using o2
    rw [c1 n2, c1 n2, w64 (x := r.Pc + i.Imm) (by omega), Cut_eq (by omega), Option.bind_some, set_eq h hi.rd, Option.bind_some]
    show Ends r t _ ((lenOk (r.Regs.set i.Rd.toNat ((r.Pc + i.Imm) % 4294967296)) 32).bind _)
    rw [lset2]
    exact ends_set h hi.rd wJ wN
  have n2 : (i.Op == 2) = false := by simpa using o2
  rw [c0 n2, c0 n2]
  by_cases o3 : i.Op = 3
  · have n3 : (i.Op == 3) = true := by simpa using o3
    rw [c1 n3, c1 n3, uN, set_eq h hi.rd, Option.bind_some]
    have e : (setR r i.Rd ((r.Pc + 4) % 4294967296)).Pc = r.Pc := by unfold setR; split <;> rfl
    rw [e, w64 (x := r.Pc + i.Imm) (by omega), wrap_eq (by omega), Option.bind_some]
    show Ends r t _ ((lenOk (r.Regs.set i.Rd.toNat ((r.Pc + 4) % 4294967296)) 32).bind _)
    rw [lset2]
    exact ends_set h hi.rd wN wJ
  have n3 : (i.Op == 3) = false := by simpa using o3
  rw [c0 n3, c0 n3]
  by_cases o4 : i.Op = 4
  · have n4 : (i.Op == 4) = true := by simpa using o4
    rw [c1 n4, c1 n4, uN, set_eq h hi.rd, Option.bind_some, andN1 wA, Int.tmod_eq_emod_of_nonneg wA.1, w64 (x := (a + i.Imm) % 4294967296 - (a + i.Imm) % 4294967296 % 2) (by omega)]
    show Ends r t _ ((lenOk (r.Regs.set i.Rd.toNat ((r.Pc + 4) % 4294967296)) 32).bind _)
    rw [lset2]
    exact ends_set h hi.rd wN (by omega)
  have n4 : (i.Op == 4) = false := by simpa using o4
  rw [c0 n4, c0 n4]
  by_cases o10 : i.Op ≤ 10
  · obtain ⟨tk, e1, e2⟩ := taken (o := i.Op) (by omega) ha hb
    rw [c1 (dt o10), c1 (dt o10), e1, e2, Option.bind_some, Option.bind_some]
    cases tk with
    | true =>
      rw [c1 rfl, c1 rfl, w64 (x := r.Pc + i.Imm) (by omega), wrap_eq (by omega), Option.bind_some, hL]
      exact ends_go h wJ
    | false =>
      rw [c0 rfl, c0 rfl, hL]
      exact ends_go h wN
  rw [c0 (df o10), c0 (df o10)]
  by_cases o15 : i.Op ≤ 15
  · obtain ⟨v, q, e1, e2, hv⟩ := load_sim (t := t) h (o := i.Op) (by omega) wA
    rw [c1 (dt o15), c1 (dt o15), e1, e2, Option.bind_some, Option.bind_some]
    cases q with
    | true =>
      dsimp only
      rw [c0 (b := !true) rfl, c0 (b := !true) rfl, set_eq h hi.rd, Option.bind_some]
      show Ends r t _ ((lenOk (r.Regs.set i.Rd.toNat v) 32).bind _)
      rw [lset2]
      exact ends_set h hi.rd hv wN
    | false => exact ends_no h
  rw [c0 (df o15), c0 (df o15)]
  by_cases o18 : i.Op ≤ 18
  · rw [c1 (dt o18), c1 (dt o18), store_ref h hst (by omega) wA hb, store_dev h hst (by omega) wA hb, Option.bind_some, Option.bind_some]
    obtain ⟨h1, h2, h3, h4, h5, h6⟩ := stR_ok (o := i.Op) (a := (a + i.Imm) % 4294967296) h hb
    generalize stR r i.Op ((a + i.Imm) % 4294967296) b = z at h1 h2 h3 h4 h5 h6
    obtain ⟨q, r'⟩ := z
    dsimp only at h1 h2 h3 h4 h5 h6 ⊢
    cases q with
    | true =>
      have hl : r'.Regs.length = 32 := by rw [h3]; exact h.rl
      rw [c0 (b := !true) rfl, c0 (b := !true) rfl, lenOk_ok (show (dm r' t).volatile.regs.length = 32 from hl)]
      exact ⟨true, { r' with Pc := (r.Pc + 4) % 4294967296 }, r'.Regs, rfl, rfl, hl, h4, h5, fun _ => ⟨(h1 rfl).at wN, by show r'.Regs.set 0 0 = r'.Regs; rw [h3]; exact regs_clr h⟩, fun h => by cases h⟩
    | false =>
      obtain rfl := h2 rfl
      exact ends_no h
  rw [c0 (df o18), c0 (df o18)]
  by_cases o27 : i.Op ≤ 27
  · obtain ⟨v, e1, e2, hv⟩ := reck (o := i.Op) (by omega) ha wI
    rw [c1 (dt o27), c1 (dt o27), Cut_eq (by omega), Option.bind_some, e1, e2, Option.bind_some, Option.bind_some, set_eq h hi.rd, Option.bind_some]
    show Ends r t _ ((lenOk (r.Regs.set i.Rd.toNat v) 32).bind _)
    rw [lset2]
    exact ends_set h hi.rd hv wN
  · obtain ⟨v, e1, e2, hv⟩ := reck (o := i.Op) (by omega) ha hb
    rw [c0 (df o27), c0 (df o27), e1, e2, Option.bind_some, Option.bind_some, set_eq h hi.rd, Option.bind_some]
    show Ends r t _ ((lenOk (r.Regs.set i.Rd.toNat v) 32).bind _)
    rw [lset2]
    exact ends_set h hi.rd hv wN
end
section
variable {r : ref03Machine} {t : List DeviceMet}
def MetOk (c : List Int) (t : List DeviceMet) : Prop := t.length = c.length ∧ ∀ (k : Nat) (x : DeviceMet) (w : Int), t[k]? = some x → c[k]? = some w → x.seen = true → x.is = ((decR w.toNat).2 == 0) ∧ x.inst = (decR w.toNat).1
theorem fetch_out (h : RW r) (hp : ¬ r.Pc % 4 = 0 ∨ (r.Code.length : Int) ≤ r.Pc / 4) : device_Machine_fetch (dm r t) = some (⟨0, 0, 0, 0, 0⟩, false, dm r t) := by
  have hpc := h.pc
  have hcl := h.cl
  unfold device_Machine_fetch
  rw [lenOk_ok (show (dm r t).volatile.regs.length = 32 from h.rl), Option.bind_some, show (dm r t).volatile.pc = r.Pc from rfl, show (dm r t).code = r.Code from rfl, Int.tmod_eq_emod_of_nonneg hpc.1, Int.tdiv_eq_ediv_of_nonneg hpc.1]
  by_cases h4 : r.Pc % 4 = 0
  · rw [c0 (by simpa using h4), wu32, wu32, Int.emod_eq_of_lt (a := (r.Code.length : Int)) (by omega) (by omega), Int.emod_eq_of_lt (a := r.Pc / 4) (by omega) (by omega), c1 (dt (by rcases hp with hp | hp; exact absurd h4 hp; exact hp))]
  · rw [c1 (by simpa using h4)]
theorem fetch_in (h : RW r) (ht : MetOk r.Code t) {k : Nat} {w : Int} (hk : r.Pc = 4 * (k : Int)) (hw : r.Code[k]? = some w) : ∃ t', device_Machine_fetch (dm r t) = some ((decR w.toNat).1, (decR w.toNat).2 == 0, dm r t') ∧ MetOk r.Code t' := by
  have hcl := h.cl
  obtain ⟨hkl, hwe⟩ := List.getElem?_eq_some_iff.1 hw
  have hww : Wd w := h.cw w (hwe ▸ List.getElem_mem hkl)
  have hkt : k < t.length := by rw [ht.1]; exact hkl
  have hq : IntKind.wrap .u32 (Int.tdiv r.Pc 4) = (k : Int) := by
    rw [Int.tdiv_eq_ediv_of_nonneg (by omega), wu32, hk, Int.mul_ediv_cancel_left _ (by decide)]
    omega
  have hm : Int.tmod r.Pc 4 = 0 := by rw [Int.tmod_eq_emod_of_nonneg (by omega), hk]; omega
  unfold device_Machine_fetch dm
  dsimp only [jn]
  rw [lenOk_ok h.rl, Option.bind_some, hm, hq, c0 (b := ((0 : Int) != 0)) (by rfl), wu32 (r.Code.length : Int), Int.emod_eq_of_lt (by omega) (by omega), c0 (df (by omega)), idx_get hkt, Option.bind_some]
  cases hs : t[k].seen with
  | true =>
    obtain ⟨h1, h2⟩ := ht.2 k t[k] w (by simp [hkt]) hw hs
    refine ⟨t, ?_, ht⟩
    rw [c0 (by rfl), Option.bind_some, Option.bind_some, h1, h2]
  | false =>
    have hN : (w.toNat : Int) = w := by omega
    have hd : inst_Decode w = some (decR w.toNat) := by have := Decode_eq (w := w.toNat) (by omega); rwa [hN] at this
    rw [c1 (by rfl), idx_get hkl, Option.bind_some, hwe, hd, Option.bind_some, Option.bind_some, Int.toNat_natCast, idx_get (by rw [List.length_set]; exact hkt), Option.bind_some, Option.bind_some, List.getElem_set_self]
    refine ⟨t.set k ⟨true, (decR w.toNat).2 == 0, (decR w.toNat).1⟩, rfl, by rw [List.length_set]; exact ht.1, ?_⟩
    intro j x w' hx hw' hse
    rw [List.getElem?_set] at hx
    by_cases hj : k = j
    · subst hj
      rw [if_pos rfl, if_pos hkt] at hx
      cases hx
      rw [hw] at hw'
      cases hw'
      exact ⟨rfl, rfl⟩
    · rw [if_neg hj] at hx
      exact ht.2 j x w' hx hw' hse
theorem step_sim (h : RW r) (ht : MetOk r.Code t) (hst : r.Steps ≤ 1000000) : ∃ r' t' z, ref03_Machine_Step r = some r' ∧ device_Machine_Step (dm r t) = some (z, dm r' t') ∧ RW r' ∧ MetOk r'.Code t' ∧ (r.State = 0 → r'.Steps = r.Steps + 1 ∨ (r'.Steps = r.Steps ∧ r'.State = 2)) := by
  have hpc := h.pc
  have hL := lenOk_ok (show (dm r t).volatile.regs.length = 32 from h.rl)
  have fault : RW { r with State := 2 } := ⟨h.rl, h.rw, h.r0, h.pc, h.sq, h.ix, h.cw, h.cl, h.dw, h.dl, h.iw, h.il, h.ll, h.st⟩
  unfold ref03_Machine_Step device_Machine_Step
  rw [hL, Option.bind_some, show (dm r t).state = r.State from rfl]
  by_cases h0 : r.State = 0
  · rw [c0 (by simpa using h0), c0 (b := r.State != 0) (by simpa using h0), Int.tmod_eq_emod_of_nonneg hpc.1, Int.tdiv_eq_ediv_of_nonneg hpc.1, w64 (x := r.Pc / 4) (by omega)]
    by_cases ho : ¬ r.Pc % 4 = 0 ∨ (r.Code.length : Int) ≤ r.Pc / 4
    · rw [fetch_out h ho, Option.bind_some]
      dsimp only
      rw [c1 (b := !false) rfl, hL, Option.bind_some]
      refine ⟨{ r with State := 2 }, t, 2, ?_, rfl, fault, ht, fun _ => .inr ⟨rfl, rfl⟩⟩
      by_cases h4 : r.Pc % 4 = 0
      · rw [c0 (by simpa using h4), c1 (dt (by rcases ho with ho | ho; exact absurd h4 ho; exact ho))]
      · rw [c1 (by simpa using h4)]
    · have ho1 : r.Pc % 4 = 0 := by omega
      obtain ⟨k, hk⟩ : ∃ k : Nat, r.Pc = 4 * (k : Int) := ⟨(r.Pc / 4).toNat, by omega⟩
      have hk4 : r.Pc / 4 = (k : Int) := by omega
      have hkl : k < r.Code.length := by omega
      have hw : r.Code[k]? = some r.Code[k] := by simp [hkl]
      have hww : Wd r.Code[k] := h.cw _ (List.getElem_mem hkl)
      obtain ⟨t', e1, ht'⟩ := fetch_in h ht hk hw
      have hN : ((r.Code[k]).toNat : Int) = r.Code[k] := by omega
      have hd : ref02_Decode r.Code[k] = some (decR (r.Code[k]).toNat) := by have := rDecode_eq (w := (r.Code[k]).toNat) (by omega); rwa [hN] at this
      rw [c0 (by simpa using ho1), hk4, c0 (df (by omega)), idx_get hkl, Option.bind_some, hd, Option.bind_some, e1, Option.bind_some]
      dsimp only
      rcases decR_err (r.Code[k]).toNat with hz | hz
      · rw [hz, c0 (b := ((0 : Int) != 0)) rfl, c0 (b := !((0 : Int) == 0)) rfl]
        obtain ⟨b, r', g, x1, x2, hg, hs, hc, x3, x4⟩ := do_sim (t := t') h hst (decR_ok hz)
        rw [x1, x2, Option.bind_some, Option.bind_some]
        dsimp only
        rw [lenOk_ok hg]
        cases b with
        | true =>
          obtain ⟨y1, y2⟩ := x3 rfl
          obtain ⟨g0, eg, _⟩ := idxN (z := 0) hg (by omega)
          have hss : IntKind.wrap .i64 (r'.Steps + 1) = r'.Steps + 1 := by have := h.st; rw [w64 (by omega)]
          rw [c0 (b := !true) rfl, c0 (b := !true) rfl, Option.bind_some, eg, Option.bind_some, Option.bind_some, hss, show (dm r' t').steps = r'.Steps from rfl, hss]
          refine ⟨{ r' with Steps := r'.Steps + 1 }, t', r'.State, rfl, ?_, y1, by show MetOk r'.Code t'; rw [hc]; exact ht', fun _ => .inl (by show r'.Steps + 1 = _; rw [hs])⟩
          congr 2
          rw [show Int.toNat 0 = 0 from rfl, y2]
          rfl
        | false =>
          obtain ⟨rfl, rfl⟩ := x4 rfl
          rw [c1 (b := !false) rfl, c1 (b := !false) rfl, Option.bind_some]
          exact ⟨{ r' with State := 2 }, t', 2, rfl, rfl, fault, ht', fun _ => .inr ⟨rfl, rfl⟩⟩
      · rw [hz, c1 (b := ((3 : Int) != 0)) rfl, c1 (b := !((3 : Int) == 0)) rfl, lenOk_ok (show (dm r t').volatile.regs.length = 32 from h.rl), Option.bind_some]
        exact ⟨{ r with State := 2 }, t', 2, rfl, rfl, fault, ht', fun _ => .inr ⟨rfl, rfl⟩⟩
  · rw [c1 (by simpa using h0), c1 (b := r.State != 0) (by simpa using h0)]
    unfold device_Machine_State
    rw [hL]
    exact ⟨r, t, r.State, rfl, rfl, h, ht, fun e => absurd e h0⟩
def fl (r : ref03Machine) : ref03Machine := if r.State = 0 then { r with Regs := List.replicate 32 0, Pc := 0, Seq := 0, Index := 0 } else r
theorem fl_ref (r : ref03Machine) : ref03_Machine_Fail r = some (fl r) := by
  unfold ref03_Machine_Fail fl
  by_cases h : r.State = 0
  · rw [c1 (by simpa using h), if_pos h]; rfl
  · rw [c0 (by simpa using h), if_neg h]
theorem fl_dev (h : RW r) : device_Machine_Fail (dm r t) = some (dm (fl r) t) := by
  unfold device_Machine_Fail fl
  rw [lenOk_ok (show (dm r t).volatile.regs.length = 32 from h.rl), Option.bind_some]
  by_cases h0 : r.State = 0
  · rw [c1 (show ((dm r t).state == 0) = true by simpa [dm] using h0), if_pos h0]; rfl
  · rw [c0 (show ((dm r t).state == 0) = false by simpa [dm] using h0), if_neg h0]
theorem fl_rw (h : RW r) : RW (fl r) := by
  unfold fl
  split
  · exact ⟨by simp, fun x hx => by rw [List.eq_of_mem_replicate hx]; decide, by simp, by show Wd 0; decide, by show Wd 0; decide, by show Wd 0; decide, h.cw, h.cl, h.dw, h.dl, h.iw, h.il, h.ll, h.st⟩
  · exact h
theorem fl_same (r : ref03Machine) : (fl r).Steps = r.Steps ∧ (fl r).State = r.State ∧ (fl r).Code = r.Code := by unfold fl; split <;> exact ⟨rfl, rfl, rfl⟩
end
noncomputable def sp (r : ref03Machine) : ref03Machine := (ref03_Machine_Step r).getD r
inductive Rr (n : Int) : Int → List Int → ref03Machine → Int × ref03Machine → Prop
  | done {had : Int} {l : List Int} {r : ref03Machine} (h : ¬ (r.State = 0 ∧ r.Steps < n)) : Rr n had l r (had, r)
  | drop {had x : Int} {l : List Int} {r : ref03Machine} {o : Int × ref03Machine} (h : x < 0 ∨ x < r.Steps) (k : Rr n had l r o) : Rr n had (x :: l) r o
  | fail {had x : Int} {l : List Int} {r : ref03Machine} {o : Int × ref03Machine} (h : r.State = 0 ∧ r.Steps < n) (hx : x = r.Steps) (h0 : 0 ≤ r.Steps) (k : Rr n (had + 1) l (sp (fl r)) o) : Rr n had (x :: l) r o
  | step {had : Int} {l : List Int} {r : ref03Machine} {o : Int × ref03Machine} (h : r.State = 0 ∧ r.Steps < n) (h0 : 0 ≤ r.Steps) (hl : ∀ x ∈ l.head?, r.Steps < x) (k : Rr n had l (sp r) o) : Rr n had l r o
theorem Rr.stop {n had : Int} {l : List Int} {r : ref03Machine} {o : Int × ref03Machine} (hn : ¬ (r.State = 0 ∧ r.Steps < n)) (h : Rr n had l r o) : o = (had, r) := by
  induction h with
  | done _ => rfl
  | drop _ _ ih => exact ih hn
  | fail h _ _ _ _ => exact absurd h hn
  | step h _ _ _ _ => exact absurd h hn
theorem Rr.uniq {n had : Int} {l : List Int} {r : ref03Machine} {o o' : Int × ref03Machine} (h : Rr n had l r o) (g : Rr n had l r o') : o = o' := by
  induction h with
  | done hn => exact (g.stop hn).symm
  | @drop had x l r o hx k ih =>
    by_cases hr : r.State = 0 ∧ r.Steps < n
    · cases g with
      | done hn => exact absurd hr hn
      | drop _ g => exact ih g
      | fail _ hx' h0 _ => omega
      | step _ h0 hl _ => have := hl x rfl; omega
    · rw [g.stop hr, k.stop hr]
  | @fail had x l r o hr hx h0 k ih =>
    cases g with
    | done hn => exact absurd hr hn
    | drop hx' _ => omega
    | fail _ _ _ g => exact ih g
    | step _ _ hl _ => have := hl x rfl; omega
  | @step had l r o hr h0 hl k ih =>
    cases g with
    | done hn => exact absurd hr hn
    | drop hx _ => have := hl _ rfl; omega
    | fail _ hx _ _ => have := hl _ rfl; omega
    | step _ _ _ g => exact ih g
def Gd (r : ref03Machine) (t : List DeviceMet) : Prop := RW r ∧ MetOk r.Code t
theorem sp_step {r : ref03Machine} {t : List DeviceMet} (h : Gd r t) (hst : r.Steps ≤ 1000000) : ref03_Machine_Step r = some (sp r) ∧ (∃ t' z, device_Machine_Step (dm r t) = some (z, dm (sp r) t') ∧ Gd (sp r) t') ∧ (r.State = 0 → (sp r).Steps = r.Steps + 1 ∨ ((sp r).Steps = r.Steps ∧ (sp r).State = 2)) := by
  obtain ⟨r', t', z, e1, e2, h1, h2, h3⟩ := step_sim h.1 h.2 hst
  have : sp r = r' := by unfold sp; rw [e1]; rfl
  rw [this]
  exact ⟨e1, ⟨t', z, e2, h1, h2⟩, h3⟩
def muR (n : Int) (r : ref03Machine) : Nat := (n - r.Steps).toNat + (if r.State = 0 then 1 else 0)
theorem muR_sp {n : Int} {r : ref03Machine} (h : r.State = 0 ∧ r.Steps < n) (hs : (sp r).Steps = r.Steps + 1 ∨ ((sp r).Steps = r.Steps ∧ (sp r).State = 2)) : muR n (sp r) < muR n r := by
  unfold muR
  rw [if_pos h.1]
  rcases hs with hs | ⟨hs, h2⟩
  · rw [hs]; split <;> omega
  · rw [hs, if_neg (by omega)]; omega
theorem run_dev {r : ref03Machine} {t : List DeviceMet} (h : Gd r t) {N : Int} (hN : N ≤ 1000000) (hst : r.Steps ≤ 1000000) : ∃ r' t', device_Machine_Run (dm r t) N [] = some (r'.State, dm r' t') ∧ Gd r' t' ∧ ¬ (r'.State = 0 ∧ r'.Steps < N) ∧ r.Steps ≤ r'.Steps ∧ (r'.Steps ≤ N ∨ r' = r) ∧
    (∀ n had l o, N ≤ n → (∀ x ∈ l.head?, N ≤ x) → Rr n had l r' o → Rr n had l r o) := by
  unfold device_Machine_Run
  obtain ⟨o, ho, hp⟩ := loop_some (body := (fun (x4, x5) => ((lenOk x5.volatile.regs 32).bind fun _ => bif ((x5.state == 0) && (decide (x5.steps < N))) then (jn (fun kk1 => (loopM (fun (x7 : List Int) => (bif decide (0 < (List.length x7 : Int)) then ((idx x7 0).bind fun u1 => bif decide (u1 < x5.steps) then ((sub x7 1 (List.length x7 : Int)).bind fun u2 => some (Lp.go u2)) else (some (Lp.brk x7))) else (some (Lp.brk x7)) : Option (Lp ((List Int)) (Unit)))) NN x4).bind fun o => o.thn (fun (x7 : List Int) => kk1 x7) (fun _ => none)) (fun (x6 : List Int) => jn (fun kk2 => bif decide (0 < (List.length x6 : Int)) then ((idx x6 0).bind fun u3 => bif u3 == x5.steps then ((device_Machine_Fail x5).bind fun y1 => (sub x6 1 (List.length x6 : Int)).bind fun u4 => kk2 u4 y1) else (kk2 x6 x5)) else (kk2 x6 x5)) (fun (x11 : List Int) (x12 : DeviceMachine) => (device_Machine_Step x12).bind fun y2 => some (Lp.go (x11, y2.2))))) else (some (Lp.brk (x4, x5))) : Option (Lp ((List Int) × DeviceMachine) (Unit))))) (n := NN) (s := (([] : List Int), dm r t))
    (fun s => ∃ r' t', s = ([], dm r' t') ∧ Gd r' t' ∧ r'.Steps ≤ 1000000 ∧ r.Steps ≤ r'.Steps ∧ (r'.Steps ≤ N ∨ r' = r) ∧ (∀ n had l o, N ≤ n → (∀ x ∈ l.head?, N ≤ x) → Rr n had l r' o → Rr n had l r o))
    (fun s => (N - s.2.steps).toNat + (if s.2.state = 0 then 1 else 0))
    (fun o => ∃ r' t', o = .brk ([], dm r' t') ∧ Gd r' t' ∧ ¬ (r'.State = 0 ∧ r'.Steps < N) ∧ r.Steps ≤ r'.Steps ∧ (r'.Steps ≤ N ∨ r' = r) ∧ (∀ n had l o, N ≤ n → (∀ x ∈ l.head?, N ≤ x) → Rr n had l r' o → Rr n had l r o))
    ⟨r, t, rfl, h, hst, Int.le_refl _, .inr rfl, fun _ _ _ _ _ _ k => k⟩ (NN_big (by have := h.1.st; show (N - r.Steps).toNat + (if r.State = 0 then 1 else 0) < _; split <;> omega)) (by
      rintro s ⟨r', t', rfl, hg, hs, hle, hNr, hR⟩
      dsimp only [jn]
      have hcond : (((dm r' t').state == 0) && (decide ((dm r' t').steps < N))) = decide (r'.State = 0 ∧ r'.Steps < N) := by
        show ((r'.State == 0) && decide (r'.Steps < N)) = _
        rw [Bool.decide_and]
        rfl
      rw [lenOk_ok (show (dm r' t').volatile.regs.length = 32 from hg.1.rl), Option.bind_some, hcond]
      by_cases hc : r'.State = 0 ∧ r'.Steps < N
      · obtain ⟨e1, ⟨t2, z, e2, hg2⟩, h3⟩ := sp_step hg hs
        have h3 := h3 hc.1
        have h0 := hg.1.st
        rw [c1 (dt hc)]
        refine ⟨.go ([], dm (sp r') t2), ?_, ⟨sp r', t2, rfl, hg2, by omega, by omega, .inl (by omega), fun n had l o hn hl k => hR n had l o hn hl (.step ⟨hc.1, by omega⟩ h0 (fun x hx => by have := hl x hx; omega) k)⟩, muR_sp hc h3⟩
        refine run_bind (fun _ => ([] : List Int)) 0 (.brk []) rfl (by omega) (fun k hk => by omega) (c0 rfl) trivial ?_
        refine Eq.trans (b := (device_Machine_Step (dm r' t')).bind fun y2 => some (Lp.go (([] : List Int), y2.2))) rfl ?_
        rw [e2]
        rfl
      · rw [c0 (df hc)]
        exact ⟨_, rfl, r', t', rfl, hg, hc, hle, hNr, hR⟩)
  obtain ⟨r', t', rfl, h1, h2, h3, h4, h5⟩ := hp
  exact ⟨r', t', by rw [ho]; rfl, h1, h2, h3, h4, h5⟩
theorem run_dev1 {r : ref03Machine} {t : List DeviceMet} (h : Gd r t) {N : Int} (hN : N ≤ 1000000) (hc : r.State = 0) (hs : r.Steps + 1 = N) : ∃ t' z, device_Machine_Run (dm r t) N [] = some (z, dm (sp r) t') ∧ Gd (sp r) t' := by
  obtain ⟨e1, ⟨t1, z1, e2, hg2⟩, h3⟩ := sp_step h (by omega)
  have h3 := h3 hc
  unfold device_Machine_Run
  have hL : lenOk (dm r t).volatile.regs 32 = some () := lenOk_ok (show (dm r t).volatile.regs.length = 32 from h.1.rl)
  have hL2 : lenOk (dm (sp r) t1).volatile.regs 32 = some () := lenOk_ok (show (dm (sp r) t1).volatile.regs.length = 32 from hg2.1.rl)
  have hn : ((((dm (sp r) t1).state == 0) && (decide ((dm (sp r) t1).steps < N)))) = false := by
    show (((sp r).State == 0) && decide ((sp r).Steps < N)) = false
    rcases h3 with h3 | ⟨h3, h4⟩
    · rw [df (by omega), Bool.and_false]
    · rw [h4]; rfl
  have hy : ((((dm r t).state == 0) && (decide ((dm r t).steps < N)))) = true := by
    show ((r.State == 0) && decide (r.Steps < N)) = true
    rw [dt (by omega), hc]; rfl
  refine ⟨t1, (sp r).State, ?_, hg2⟩
  refine run_bind (fun k => (([] : List Int), if k = 0 then dm r t else dm (sp r) t1)) 1 (.brk ([], dm (sp r) t1)) rfl (by omega) (fun k hk => ?_) ?_ trivial rfl
  · obtain rfl : k = 0 := by omega
    dsimp only [jn]
    rw [if_pos rfl, if_neg (by decide), hL, Option.bind_some, hy, cond_true]
    refine run_bind (fun _ => ([] : List Int)) 0 (.brk []) rfl (by omega) (fun k hk => by omega) (c0 rfl) trivial ?_
    refine Eq.trans (b := (device_Machine_Step (dm r t)).bind fun y2 => some (Lp.go (([] : List Int), y2.2))) rfl ?_
    rw [e2]
    rfl
  · dsimp only [jn]
    rw [if_neg (by decide), hL2, Option.bind_some, hn, cond_false]
theorem drop_cons {L : List Int} {k : Nat} (h : k < L.length) : L.drop k = L[k] :: L.drop (k + 1) := List.drop_eq_getElem_cons h
theorem steps_dev {r : ref03Machine} {t : List DeviceMet} (h : Gd r t) : device_Machine_Steps (dm r t) = some r.Steps := by
  unfold device_Machine_Steps
  rw [lenOk_ok (show (dm r t).volatile.regs.length = 32 from h.1.rl)]
  rfl
theorem gd_fl {r : ref03Machine} {t : List DeviceMet} (h : Gd r t) : Gd (fl r) t := ⟨fl_rw h.1, by rw [(fl_same r).2.2]; exact h.2⟩
theorem yb_end {r0 r : ref03Machine} {t : List DeviceMet} {L rest : List Int} {n had u : Int} (hn : 0 ≤ n ∧ n ≤ 1000000) (h : Gd r t) (hst : r.Steps ≤ 1000000) (hhad : 0 ≤ had ∧ had ≤ 1000000000) (hu : 0 ≤ u) (hR : ∀ o, Rr n had (u :: rest) r o → Rr n 0 L r0 o) :
    ∃ z, ((device_Machine_Steps (dm r t)).bind fun y1 => bif decide (u < y1) then (some (Lp.go (had, (0 : Int), dm r t))) else ((device_Machine_Run (dm r t) (min u n) []).bind fun y2 => bif y2.1 != 0 then (some (Lp.brk (had, had, y2.2))) else ((device_Machine_Steps y2.2).bind fun y3 => bif decide (n ≤ y3) then (some (Lp.brk (had, had, y2.2))) else ((device_Machine_Fail y2.2).bind fun y4 => (device_Machine_Run y4 (min (IntKind.wrap .i64 (u + 1)) n) []).bind fun y5 => some (Lp.go (IntKind.wrap .i64 (had + 1), (0 : Int), y5.2))))) : Option (Lp (Int × Int × DeviceMachine) Unit)) = some z ∧
      ((∃ r' t' had', z = .go (had', 0, dm r' t') ∧ Gd r' t' ∧ r'.Steps ≤ 1000000 ∧ had ≤ had' ∧ had' ≤ had + 1 ∧ ∀ o, Rr n had' rest r' o → Rr n 0 L r0 o) ∨ (∃ r' t', z = .brk (had, had, dm r' t') ∧ Gd r' t' ∧ Rr n 0 L r0 (had, r'))) := by
  rw [steps_dev h, Option.bind_some]
  by_cases h1 : u < r.Steps
  · rw [c1 (dt h1)]
    exact ⟨_, rfl, .inl ⟨r, t, had, rfl, h, hst, by omega, by omega, fun o k => hR o (.drop (.inr h1) k)⟩⟩
  rw [c0 (df h1)]
  obtain ⟨r1, t1, e1, g1, hs1, hle, hmax, hq⟩ := run_dev h (N := min u n) (by omega) hst
  have hq' : ∀ o, Rr n had (u :: rest) r1 o → Rr n 0 L r0 o := fun o k => hR o (hq n had (u :: rest) o (by omega) (fun x hx => by cases hx; omega) k)
  rw [e1, Option.bind_some]
  by_cases h2 : r1.State = 0
  · rw [c0 (by simpa using h2)]
    dsimp only
    rw [steps_dev g1, Option.bind_some]
    by_cases h3 : n ≤ r1.Steps
    · rw [c1 (dt h3)]
      exact ⟨_, rfl, .inr ⟨r1, t1, rfl, g1, hq' _ (.done (by omega))⟩⟩
    · have he : u = r1.Steps := by
        rcases hmax with hmax | rfl
        · omega
        · omega
      have hst1 := g1.1.st
      rw [c0 (df h3), fl_dev g1.1, Option.bind_some, w64 (x := u + 1) (by omega)]
      obtain ⟨f1, f2, f3⟩ := fl_same r1
      obtain ⟨t2, z, e2, g2⟩ := run_dev1 (gd_fl g1) (N := min (u + 1) n) (by omega) (by rw [f2]; exact h2) (by rw [f1]; omega)
      have hs2 := (sp_step (gd_fl g1) (by rw [f1]; omega)).2.2 (by rw [f2]; exact h2)
      rw [e2, Option.bind_some, w64 (by omega)]
      refine ⟨_, rfl, .inl ⟨sp (fl r1), t2, had + 1, rfl, g2, by rw [f1] at hs2; omega, by omega, by omega, fun o k => hq' o (.fail ⟨h2, by omega⟩ he hst1 k)⟩⟩
  · rw [c1 (by simpa using h2)]
    exact ⟨_, rfl, .inr ⟨r1, t1, rfl, g1, hq' _ (.done (fun h => h2 h.1))⟩⟩
theorem run_ref {r : ref03Machine} {t : List DeviceMet} {L : List Int} {n N : Int} (hn : 0 ≤ n ∧ n ≤ 1000000) (hN : ∀ s : Int, 0 ≤ s → (s < N ↔ s < n)) (h : Gd r t) (hst : r.Steps ≤ 1000000) (hL : L.length ≤ 100000) : ∃ o, law31_run r N L = some o ∧ Rr n 0 L r o := by
  unfold law31_run
  obtain ⟨z, hz, hp⟩ := loop_some (n := NN) (s := ((0 : Int), (0 : Int), r)) (body := (fun (x4, x5, x6) => (bif ((x6.State == 0) && (decide (x6.Steps < N))) then (jn (fun kk1 => (loopM (fun (x8 : Int) => (bif decide (x8 < (List.length L : Int)) then ((idx L x8).bind fun u1 => bif decide (u1 < 0) then (some (Lp.go (IntKind.wrap .i64 (x8 + 1)))) else ((idx L x8).bind fun u2 => bif decide (u2 < x6.Steps) then (some (Lp.go (IntKind.wrap .i64 (x8 + 1)))) else (some (Lp.brk x8)))) else (some (Lp.brk x8)) : Option (Lp (Int) (Unit)))) NN x5).bind fun o => o.thn (fun (x8 : Int) => kk1 x8) (fun _ => none)) (fun (x7 : Int) => jn (fun kk2 => bif decide (x7 < (List.length L : Int)) then ((idx L x7).bind fun u3 => bif u3 == x6.Steps then ((ref03_Machine_Fail x6).bind fun y1 => kk2 (IntKind.wrap .i64 (x4 + 1)) (IntKind.wrap .i64 (x7 + 1)) y1) else (kk2 x4 x7 x6)) else (kk2 x4 x7 x6)) (fun (x12 : Int) (x13 : Int) (x14 : ref03Machine) => (ref03_Machine_Step x14).bind fun y2 => some (Lp.go (x12, x13, y2))))) else (some (Lp.brk (x4, x5, x6))) : Option (Lp (Int × Int × ref03Machine) (Unit)))))
    (fun s => ∃ (k : Nat) (r' : ref03Machine) (t' : List DeviceMet) (had : Int), s = (had, (k : Int), r') ∧ k ≤ L.length ∧ Gd r' t' ∧ r'.Steps ≤ 1000000 ∧ 0 ≤ had ∧ had ≤ k ∧ ∀ o, Rr n had (L.drop k) r' o → Rr n 0 L r o)
    (fun s => muR n s.2.2)
    (fun z => ∃ had k r', z = .brk (had, k, r') ∧ Rr n 0 L r (had, r'))
    ⟨0, r, t, 0, rfl, by omega, h, hst, by omega, by omega, fun o k => k⟩ (NN_big (by have := h.1.st; show muR n r < _; unfold muR; split <;> omega)) (by
      rintro s ⟨k, r', t', had, rfl, hk, hg, hs, h0, hh, hR⟩
      have hS := hg.1.st
      have hcond : ((r'.State == 0) && (decide (r'.Steps < N))) = decide (r'.State = 0 ∧ r'.Steps < n) := by
        rw [Bool.decide_and, decide_eq_decide.2 (hN r'.Steps hS)]
        rfl
      dsimp only [jn]
      rw [hcond]
      by_cases hc : r'.State = 0 ∧ r'.Steps < n
      · rw [c1 (dt hc)]
        obtain ⟨z2, ez2, hz2⟩ := loop_some (n := NN) (s := (k : Int)) (body := (fun (x8 : Int) => (bif decide (x8 < (List.length L : Int)) then ((idx L x8).bind fun u1 => bif decide (u1 < 0) then (some (Lp.go (IntKind.wrap .i64 (x8 + 1)))) else ((idx L x8).bind fun u2 => bif decide (u2 < r'.Steps) then (some (Lp.go (IntKind.wrap .i64 (x8 + 1)))) else (some (Lp.brk x8)))) else (some (Lp.brk x8)) : Option (Lp (Int) (Unit)))))
          (fun x => ∃ j : Nat, x = (j : Int) ∧ k ≤ j ∧ j ≤ L.length ∧ ∀ o, Rr n had (L.drop j) r' o → Rr n 0 L r o) (fun x => L.length - x.toNat)
          (fun z => ∃ j : Nat, z = .brk (j : Int) ∧ k ≤ j ∧ j ≤ L.length ∧ (∀ x ∈ (L.drop j).head?, 0 ≤ x ∧ r'.Steps ≤ x) ∧ ∀ o, Rr n had (L.drop j) r' o → Rr n 0 L r o)
          ⟨k, rfl, Nat.le_refl _, hk, hR⟩ (NN_big (by show L.length - ((k : Int)).toNat < _; omega)) (by
            rintro x ⟨j, rfl, hkj, hj, hRj⟩
            by_cases hlt : j < L.length
            · have hw : IntKind.wrap .i64 ((j : Int) + 1) = ((j + 1 : Nat) : Int) := by rw [w64 (by omega)]; omega
              rw [c1 (dlt hlt), idx_get hlt, Option.bind_some, hw]
              rw [drop_cons hlt] at hRj
              by_cases hu : L[j] < 0
              · rw [c1 (dt hu)]
                exact ⟨_, rfl, ⟨j + 1, rfl, by omega, by omega, fun o q => hRj o (.drop (.inl hu) q)⟩, by omega⟩
              · rw [c0 (df hu), Option.bind_some]
                by_cases hu2 : L[j] < r'.Steps
                · rw [c1 (dt hu2)]
                  exact ⟨_, rfl, ⟨j + 1, rfl, by omega, by omega, fun o q => hRj o (.drop (.inr hu2) q)⟩, by omega⟩
                · rw [c0 (df hu2)]
                  refine ⟨_, rfl, j, rfl, hkj, hj, ?_, ?_⟩
                  · rw [drop_cons hlt]
                    intro x hx
                    cases hx
                    omega
                  · rw [drop_cons hlt]; exact hRj
            · rw [c0 (df (by omega))]
              refine ⟨_, rfl, j, rfl, hkj, hj, ?_, hRj⟩
              rw [List.drop_eq_nil_of_le (by omega)]
              intro x hx
              cases hx)
        obtain ⟨j, rfl, hkj, hj, hhd, hRj⟩ := hz2
        rw [ez2, Option.bind_some]
        dsimp only [Lp.thn]
        have plain : (∀ x ∈ (L.drop j).head?, r'.Steps < x) → ref03_Machine_Step r' = some (sp r') ∧ ∃ t2, Gd (sp r') t2 ∧ (sp r').Steps ≤ 1000000 ∧ muR n (sp r') < muR n r' ∧ ∀ o, Rr n had (L.drop j) (sp r') o → Rr n 0 L r o := by
          intro hgt
          obtain ⟨e1, ⟨t2, z3, e2, g2⟩, h3⟩ := sp_step hg hs
          have h3 := h3 hc.1
          exact ⟨e1, t2, g2, by omega, muR_sp hc h3, fun o q => hRj o (.step hc hS hgt q)⟩
        by_cases hlt : j < L.length
        · rw [c1 (dlt hlt), idx_get hlt, Option.bind_some]
          rw [drop_cons hlt] at hhd hRj
          have hx := hhd L[j] rfl
          by_cases he : L[j] = r'.Steps
          · rw [c1 (by simpa using he), fl_ref, Option.bind_some]
            obtain ⟨f1, f2, f3⟩ := fl_same r'
            obtain ⟨e1, ⟨t2, z3, e2, g2⟩, h3⟩ := sp_step (gd_fl hg) (by rw [f1]; exact hs)
            have h3 := h3 (by rw [f2]; exact hc.1)
            rw [e1, Option.bind_some, w64 (x := had + 1) (by omega), w64 (x := (j : Int) + 1) (by omega)]
            refine ⟨_, rfl, ⟨j + 1, sp (fl r'), t2, had + 1, by simp, by omega, g2, by rw [f1] at h3; omega, by omega, by omega, fun o q => hRj o (.fail hc he hS q)⟩, ?_⟩
            have := muR_sp (n := n) (r := fl r') ⟨by rw [f2]; exact hc.1, by rw [f1]; exact hc.2⟩ h3
            have e : muR n (fl r') = muR n r' := by unfold muR; rw [f1, f2]
            rw [e] at this
            exact this
          · rw [c0 (by simpa using he)]
            obtain ⟨e1, t2, g2, s2, m2, R2⟩ := plain (fun x hx' => by rw [drop_cons hlt] at hx'; cases hx'; omega)
            rw [e1, Option.bind_some]
            exact ⟨_, rfl, ⟨j, sp r', t2, had, rfl, hj, g2, s2, h0, by omega, R2⟩, m2⟩
        · rw [c0 (df (by omega))]
          obtain ⟨e1, t2, g2, s2, m2, R2⟩ := plain (fun x hx' => by rw [List.drop_eq_nil_of_le (by omega)] at hx'; cases hx')
          rw [e1, Option.bind_some]
          exact ⟨_, rfl, ⟨j, sp r', t2, had, rfl, hj, g2, s2, h0, by omega, R2⟩, m2⟩
      · rw [c0 (df hc)]
        exact ⟨_, rfl, had, (k : Int), r', rfl, hR _ (.done hc)⟩)
  obtain ⟨had, k, r', rfl, hR⟩ := hp
  exact ⟨(had, r'), by rw [hz]; rfl, hR⟩
def beg (c d i : List Int) : ref03Machine := ⟨c, d, i, List.replicate 32 0, 0, 0, 0, [], 0, 0, 0⟩
def met0 (c : List Int) : List DeviceMet := List.replicate c.length ⟨false, false, ⟨0, 0, 0, 0, 0⟩⟩
def badL (c d : Int) : Bool := ((((decide (c < 1)) || (decide (32768 < c))) || (decide (d < 4))) || (decide (65536 < d))) || ((Int.tmod d 4) != 0)
theorem Begin_eq {c d i : List Int} (hd : d.length ≤ 2000) : ref03_Begin c d i = some (beg c d i) := by
  unfold ref03_Begin
  refine map_bind d id (by omega) (fun k hk => ?_) ?_ ?_
  · dsimp only
    rw [c1 (dlt hk), idx_get hk, Option.bind_some, room_ok (by simp; omega)]
    rfl
  · dsimp only
    rw [c0 (df (by omega))]
  · rw [List.map_id]
    rfl
theorem clone_eq {l : List Int} (h : l.length ≤ 100000) : slices_Clone l = some l ∧ slices_Clone_2 l = some l := by
  unfold slices_Clone slices_Clone_2
  rw [room_ok (by simp; omega)]
  exact ⟨rfl, rfl⟩
theorem May_eq (c d : List Int) : ref03_May (c.length : Int) (d.length : Int) = some (bif badL c.length d.length then 1 else 0) := by
  unfold ref03_May
  show (bif badL c.length d.length then some (1 : Int) else some (0 : Int)) = _
  cases badL c.length d.length <;> rfl
theorem New_bad {c d i : List Int} (h : badL c.length d.length = true) : device_New c d i = some (.ok 1) := by
  unfold device_New
  exact c1 h
theorem New_ok {c d i : List Int} (h : badL c.length d.length = false) (hc : c.length ≤ 200) (hd : d.length ≤ 2000) (hi : i.length ≤ 40) : device_New c d i = some (.error (dm (beg c d i) (met0 c), 0)) := by
  unfold device_New
  refine Eq.trans (c0 h) ?_
  rw [(clone_eq (l := c) (by omega)).1, (clone_eq (l := d) (by omega)).2, (clone_eq (l := i) (by omega)).1]
  unfold repl
  rw [if_pos (by omega)]
  rfl
theorem gd_beg {c d i : List Int} (h : badL c.length d.length = false) (hc : ∀ x ∈ c, Wd x) (hd : ∀ x ∈ d, 0 ≤ x ∧ x < 256) (hi : ∀ x ∈ i, Wd x) (hl : i.length ≤ 40) : Gd (beg c d i) (met0 c) := by
  unfold badL at h
  simp only [Bool.or_eq_false_iff, decide_eq_false_iff_not] at h
  have z : Wd 0 := ⟨by omega, by omega⟩
  refine ⟨⟨by simp [beg], fun x hx => ?_, by simp [beg], z, z, z, hc, ?_, hd, ?_, hi, ?_, ?_, ?_⟩, ?_, ?_⟩
  · obtain rfl := (List.mem_replicate.1 hx).2; exact z
  · show c.length ≤ 32768; omega
  · show 4 ≤ d.length ∧ d.length ≤ 65536; omega
  · show i.length < 4294967296; omega
  · show (([] : List GRecord).length : Int) ≤ 0; simp
  · exact Int.le_refl _
  · show (met0 c).length = c.length; simp [met0]
  · intro k x w hx hw hs
    obtain rfl := (List.mem_replicate.1 (List.mem_of_getElem? hx)).2
    cases hs
theorem rr_steps {n had : Int} {l : List Int} {r : ref03Machine} {o : Int × ref03Machine} (h : Rr n had l r o) (hn : n ≤ 1000000) : ∀ t, Gd r t → r.Steps ≤ 1000000 → o.2.Steps ≤ 1000000 := by
  induction h with
  | done _ => exact fun t g hs => hs
  | drop _ _ ih => exact ih
  | @fail had x l r o hr hx h0 k ih =>
    intro t g hs
    obtain ⟨f1, f2, f3⟩ := fl_same r
    obtain ⟨_, ⟨t2, z, _, g2⟩, h3⟩ := sp_step (gd_fl g) (by rw [f1]; exact hs)
    have h3 := h3 (by rw [f2]; exact hr.1)
    exact ih t2 g2 (by rw [f1] at h3; omega)
  | @step had l r o hr h0 hl k ih =>
    intro t g hs
    obtain ⟨_, ⟨t2, z, _, g2⟩, h3⟩ := sp_step g hs
    have h3 := h3 hr.1
    exact ih t2 g2 (by omega)
theorem same_eq {r : ref03Machine} {f : Int} (h : r.Log.length ≤ 1000000) : law31_same ⟨r.State, r.Exit, r.Steps, r.Log, f⟩ r f = some true := by
  unfold law31_same
  dsimp only
  rw [c0 (by simp), c0 (by simp), c0 (by simp), c0 (by simp), c0 (by simp)]
  refine loop_all (n := r.Log.length) (by omega) (fun _ => true) false (fun k hk _ => ?_) (c0 (df (by omega))) (fun _ => rfl) (fun ⟨k, _, hk⟩ => by cases hk)
  rw [c1 (dlt hk), idx_get hk, Option.bind_some, Option.bind_some]
  exact c0 (by simp)
theorem dev_all {r : ref03Machine} {t : List DeviceMet} (h : Gd r t) (hs : r.Steps ≤ 1000000) (f : Int) : ((device_Machine_State (dm r t)).bind fun y3 => (device_Machine_Exit (dm r t)).bind fun y4 => (device_Machine_Steps (dm r t)).bind fun y5 => (device_Machine_Log (dm r t)).bind fun y6 => some ((⟨y3, y4, y5, y6, f⟩ : GPlay), (0 : Int))) = some (⟨r.State, r.Exit, r.Steps, r.Log, f⟩, 0) := by
  have hl : (dm r t).volatile.regs.length = 32 := h.1.rl
  have hg := h.1.ll
  have e : slices_Clone_3 (dm r t).log = some r.Log := by
    unfold slices_Clone_3
    rw [room_ok (by show ([] : List GRecord).length + r.Log.length ≤ _; simp; omega)]
    rfl
  unfold device_Machine_State device_Machine_Exit device_Machine_Steps device_Machine_Log
  rw [lenOk_ok hl, Option.bind_some, Option.bind_some, Option.bind_some, Option.bind_some, e]
  rfl
inductive Fr (g : Int) : Int → List Int → Prop
  | nil {a : Int} (h : 600 < a) : Fr g a []
  | one {a : Int} (h : a ≤ 600) (hg : 600 < g) : Fr g a [a]
  | cons {a : Int} {l : List Int} (h : a ≤ 600) (hg : g ≤ 600) (k : Fr g (a + g) l) : Fr g a (a :: l)
theorem Fr.stop {g a : Int} {l : List Int} (ha : 600 < a) (h : Fr g a l) : l = [] := by
  cases h with
  | nil _ => rfl
  | one h _ => omega
  | cons h _ _ => omega
theorem rr_late {n had u : Int} {r : ref03Machine} {o : Int × ref03Machine} (hn : 0 ≤ n) (hu : n ≤ u) (h : Rr n had [u] r o) : Rr n had [] r o := by
  generalize hL : [u] = L at h
  induction h with
  | done hs => exact .done hs
  | drop hx k ih => cases hL; exact k
  | fail hr hx h0 k ih => cases hL; omega
  | step hr h0 hl k ih => exact .step hr h0 (fun x hx => by cases hx) (ih hL)
theorem fr_at {g a n had : Int} {rest : List Int} {r r0 : ref03Machine} {L : List Int} (hn : 0 ≤ n ∧ n ≤ 600) (ha : 0 ≤ a) (hF : Fr g a rest) (hR : ∀ o, Rr n had rest r o → Rr n 0 L r0 o) : ∃ rest', (∀ o, Rr n had (a :: rest') r o → Rr n 0 L r0 o) ∧ (0 < g → Fr g (a + g) rest') ∧ (600 < g → rest' = []) := by
  cases hF with
  | nil h => exact ⟨[], fun o k => hR o (rr_late hn.1 (by omega) k), fun hg => .nil (by omega), fun _ => rfl⟩
  | one h hg => exact ⟨[], hR, fun _ => .nil (by omega), fun _ => rfl⟩
  | cons h hg k => exact ⟨_, hR, fun _ => k, fun h => by omega⟩
theorem often_eq {r : ref03Machine} {t : List DeviceMet} {L : List Int} {n f g : Int} (hn : 0 ≤ n ∧ n ≤ 600) (h : Gd r t) (hst : r.Steps ≤ 1000000) (hf : 0 ≤ f ∧ f ≤ 9223372036854775807) (hg : 1 ≤ g ∧ g ≤ 9223372036854775807) (hF : Fr g f L) : ∃ o t', play_runs (dm r t) f g n = some (o.1, dm o.2 t') ∧ Gd o.2 t' ∧ Rr n 0 L r o := by
  unfold play_runs play_each_1
  obtain ⟨z, hz, hp⟩ := loop_some (n := NN) (s := (((0 : Int), (0 : Int), dm r t), f)) (body := (fun (x1, x2) => (bif decide (x2 < 20000000) then (((fun (sx : Int × Int × DeviceMachine) (x7 : Int) => (match sx with | (x4, x5, x6) => (device_Machine_Steps x6).bind fun y1 => bif decide (x7 < y1) then (some (Lp.go (x4, x5, x6))) else ((device_Machine_Run x6 (min x7 n) []).bind fun y2 => bif y2.1 != 0 then (some (Lp.brk (x4, x4, y2.2))) else ((device_Machine_Steps y2.2).bind fun y3 => bif decide (n ≤ y3) then (some (Lp.brk (x4, x4, y2.2))) else ((device_Machine_Fail y2.2).bind fun y4 => (device_Machine_Run y4 (min (IntKind.wrap .i64 (x7 + 1)) n) []).bind fun y5 => some (Lp.go (IntKind.wrap .i64 (x4 + 1), x5, y5.2))))) : Option (Lp (Int × Int × DeviceMachine) Unit))) x1 x2).bind fun z1 => Lp.gone z1 (fun sg1 => bif decide (20000000 < g) then (some (Lp.ret (Lp.go sg1))) else (some (Lp.go (sg1, IntKind.wrap .i64 (x2 + g))))) (some (Lp.ret z1))) else (some (Lp.brk (x1, x2))) : Option (Lp ((Int × Int × DeviceMachine) × Int) ((Lp (Int × Int × DeviceMachine) Unit))))))
    (fun s => ∃ (a : Int) (r' : ref03Machine) (t' : List DeviceMet) (had : Int) (rest : List Int), s = ((had, 0, dm r' t'), a) ∧ 0 ≤ a ∧ Fr g a rest ∧ Gd r' t' ∧ r'.Steps ≤ 1000000 ∧ 0 ≤ had ∧ had ≤ a ∧ ∀ o, Rr n had rest r' o → Rr n 0 L r o)
    (fun s => (20000000 - s.2).toNat)
    (fun z => (∃ r' t' had, (z = .ret (.go (had, 0, dm r' t')) ∨ ∃ x2, z = .brk ((had, 0, dm r' t'), x2)) ∧ Gd r' t' ∧ r'.Steps ≤ 1000000 ∧ ∀ o, Rr n had [] r' o → Rr n 0 L r o) ∨ (∃ r' t' had, z = .ret (.brk (had, had, dm r' t')) ∧ Gd r' t' ∧ Rr n 0 L r (had, r')))
    ⟨f, r, t, 0, L, rfl, hf.1, hF, h, hst, by omega, by omega, fun o k => k⟩ (NN_big (by show (20000000 - f).toNat < _; omega)) (by
      rintro s ⟨a, r', t', had, rest, rfl, ha, hF', hg', hs, h0, hh, hR⟩
      dsimp only
      by_cases hlt : a < 20000000
      · rw [c1 (dt hlt)]
        obtain ⟨rest', hR', hF2, hE⟩ := fr_at hn ha hF' hR
        obtain ⟨z, ez, hz⟩ := yb_end (n := n) ⟨hn.1, by omega⟩ hg' hs ⟨h0, by omega⟩ ha hR'
        rw [ez, Option.bind_some]
        rcases hz with ⟨r2, t2, had', rfl, g2, hs2, a1, a2, hR2⟩ | ⟨r2, t2, rfl, g2, hR2⟩
        · dsimp only [Lp.gone]
          by_cases hb : 20000000 < g
          · obtain rfl := hE (by omega)
            rw [c1 (dt hb)]
            exact ⟨_, rfl, .inl ⟨r2, t2, had', .inl rfl, g2, hs2, hR2⟩⟩
          · rw [c0 (df hb), w64 (by omega)]
            exact ⟨_, rfl, ⟨a + g, r2, t2, had', rest', rfl, by omega, hF2 (by omega), g2, hs2, by omega, by omega, hR2⟩, by dsimp only; omega⟩
        · exact ⟨_, rfl, .inr ⟨r2, t2, had, rfl, g2, hR2⟩⟩
      · rw [c0 (df hlt)]
        obtain rfl := hF'.stop (by omega)
        exact ⟨_, rfl, .inl ⟨r', t', had, .inr ⟨_, rfl⟩, hg', hs, hR⟩⟩)
  rw [hz, Option.bind_some]
  rcases hp with ⟨r', t', had, hz2, hg, hs, hR⟩ | ⟨r', t', had, rfl, hg, hR⟩
  · obtain ⟨r2, t2, e2, g2, hs2, _, _, hq⟩ := run_dev hg (N := n) (by omega) hs
    refine ⟨(had, r2), t2, ?_, g2, hR _ (hq n had [] _ (Int.le_refl _) (fun x hx => by cases hx) (.done hs2))⟩
    rcases hz2 with rfl | ⟨x2, rfl⟩
    · dsimp only [Lp.thn, Option.bind_some, Lp.gob]
      rw [e2]
      rfl
    · dsimp only [Lp.thn, Option.bind_some, Lp.gob]
      rw [e2]
      rfl
  · exact ⟨(had, r'), t', rfl, hg, hR⟩
theorem played2_bad {g : GImage} {i : List Int} {f p N : Int} (h : badL g.Code.length g.Data.length = true) : play_played g i f p N = some (⟨0, 0, 0, [], 0⟩, 1) := by
  unfold play_played image_Load
  rw [New_bad h]
  rfl
theorem played2_ok {g : GImage} {i l : List Int} {f p N : Int} (h : badL g.Code.length g.Data.length = false) (hc : g.Code.length ≤ 200) (hd : g.Data.length ≤ 2000) (hi : i.length ≤ 40) (hN : N ≤ 600)
    (wc : ∀ x ∈ g.Code, Wd x) (wd : ∀ x ∈ g.Data, 0 ≤ x ∧ x < 256) (wi : ∀ x ∈ i, Wd x) (hf : 0 ≤ f ∧ f ≤ 9223372036854775807) (hp : 1 ≤ p ∧ p ≤ 9223372036854775807) (hF : Fr p f l) :
    ∃ o, Rr (max N 0) 0 l (beg g.Code g.Data i) o ∧ o.2.Log.length ≤ 1000000 ∧ play_played g i f p N = some (⟨o.2.State, o.2.Exit, o.2.Steps, o.2.Log, o.1⟩, 0) := by
  have gd := gd_beg h wc wd wi hi
  obtain ⟨o, t', e, g', R⟩ := often_eq (n := max N 0) (L := l) (by omega) gd (by show (0 : Int) ≤ _; omega) hf hp hF
  have hs := rr_steps R (by omega) _ gd (by show (0 : Int) ≤ _; omega)
  have hg := g'.1.ll
  refine ⟨o, R, by omega, ?_⟩
  unfold play_played image_Load
  rw [New_ok h hc hd hi, Option.bind_some]
  dsimp only [exC, Option.bind_some]
  rw [c0 (by rfl), show min (max N 0) 20000000 = max N 0 by omega, e, Option.bind_some]
  exact dev_all g' hs o.1
theorem list_eq {f g : Int} (hf : 0 ≤ f) (hg : 1 ≤ g) : ∃ l x3, loopM (S := (List Int) × Int) (fun (x2, x3) => (bif decide (x3 ≤ 600) then ((room (List.length x2 + List.length ([x3] : List Int))).bind fun _ => bif decide (600 < g) then (some (Lp.brk (x2 ++ ([x3] : List Int), x3))) else (some (Lp.go (x2 ++ ([x3] : List Int), IntKind.wrap .i64 (x3 + g))))) else (some (Lp.brk (x2, x3))) : Option (Lp ((List Int) × Int) (Unit)))) NN ([], f) = some (.brk (l, x3)) ∧ Fr g f l ∧ l.length ≤ 1000 := by
  obtain ⟨z, hz, l, x3, rfl, hF, hl⟩ := loop_some (n := NN) (s := (([] : List Int), f)) (body := (fun (x2, x3) => (bif decide (x3 ≤ 600) then ((room (List.length x2 + List.length ([x3] : List Int))).bind fun _ => bif decide (600 < g) then (some (Lp.brk (x2 ++ ([x3] : List Int), x3))) else (some (Lp.go (x2 ++ ([x3] : List Int), IntKind.wrap .i64 (x3 + g))))) else (some (Lp.brk (x2, x3))) : Option (Lp ((List Int) × Int) (Unit)))))
    (fun s => ∃ (l : List Int) (x3 : Int), s = (l, x3) ∧ 0 ≤ x3 ∧ l.length ≤ x3 ∧ l.length ≤ 601 ∧ ∀ k, Fr g x3 k → Fr g f (l ++ k))
    (fun s => (1201 - s.2).toNat)
    (fun z => ∃ l x3, z = .brk (l, x3) ∧ Fr g f l ∧ l.length ≤ 1000)
    ⟨[], f, rfl, hf, by simp; omega, by simp, fun k h => h⟩ (NN_big (by show (1201 - f).toNat < _; omega)) (by
      rintro s ⟨l, x3, rfl, h0, hl, hl2, hR⟩
      dsimp only
      by_cases hlt : x3 ≤ 600
      · rw [c1 (dt hlt), room_ok (by simp; omega), Option.bind_some]
        by_cases hb : 600 < g
        · rw [c1 (dt hb)]
          exact ⟨_, rfl, _, _, rfl, hR _ (.one hlt hb), by simp; omega⟩
        · rw [c0 (df hb), w64 (by omega)]
          exact ⟨_, rfl, ⟨_, _, rfl, by omega, by simp; omega, by simp; omega, fun k h => by rw [List.append_assoc]; exact hR _ (.cons hlt (by omega) h)⟩, by dsimp only; omega⟩
      · rw [c0 (df hlt)]
        exact ⟨_, rfl, _, _, rfl, by have := hR [] (.nil (by omega)); rwa [List.append_nil] at this, by omega⟩)
  exact ⟨l, x3, hz, hF, hl⟩
theorem PlayOften_law (g : GImage) (i : List Int) (x : law31Fail) (wc : ∀ x ∈ g.Code, Wd x) (wd : ∀ x ∈ g.Data, 0 ≤ x ∧ x < 256) (wi : ∀ x ∈ i, Wd x) (wx : x.First ≤ 9223372036854775807 ∧ x.Gap ≤ 9223372036854775807) (ha : law31_awake = some true) : law31_PlayOften g i x = some true := by
  unfold law31_PlayOften
  by_cases hb : 200 < g.Code.length ∨ 2000 < g.Data.length ∨ 40 < i.length ∨ 600 < x.N
  · rw [c1 (by simp only [Bool.or_eq_true, decide_eq_true_iff]; omega), ha]
    rfl
  rw [c0 (by simp only [Bool.or_eq_false_iff, decide_eq_false_iff_not]; omega), May_eq]
  unfold play_Often play_each
  by_cases ho : x.First < 0 ∨ x.Gap < 1
  · have hc : ((decide (x.First < 0)) || (decide (x.Gap < 1))) = true := by simpa using ho
    rw [hc]
    dsimp only [Option.bind_some, jn, cond_true]
    rw [ha]
    rfl
  have hc : ((decide (x.First < 0)) || (decide (x.Gap < 1))) = false := by simp only [Bool.or_eq_false_iff, decide_eq_false_iff_not]; omega
  rw [hc]
  dsimp only [Option.bind_some, jn, cond_false]
  cases hB : badL g.Code.length g.Data.length with
  | true =>
    rw [played2_bad hB]
    dsimp only [Option.bind_some, cond_true]
    rw [c0 (by rfl), c1 (by rfl), ha]
    rfl
  | false =>
    obtain ⟨l, x3, el, hF, hl⟩ := list_eq (f := x.First) (g := x.Gap) (by omega) (by omega)
    obtain ⟨o, R, hL, e⟩ := played2_ok (l := l) (f := x.First) (p := x.Gap) (N := x.N) hB (by omega) (by omega) (by omega) (by omega) wc wd wi ⟨by omega, wx.1⟩ ⟨by omega, wx.2⟩ hF
    have gd := gd_beg hB wc wd wi (by omega)
    obtain ⟨o', e', R'⟩ := run_ref (n := max x.N 0) (N := x.N) (L := l) (by omega) (fun s hs => by omega) gd (by show (0 : Int) ≤ _; omega) (by omega)
    obtain rfl := R.uniq R'
    rw [e]
    dsimp only [Option.bind_some, cond_false]
    rw [c0 (by rfl), c0 (by rfl), el, Option.bind_some]
    dsimp only [Lp.thn]
    rw [Begin_eq (by omega), Option.bind_some, e', Option.bind_some, ha]
    dsimp only [Option.bind_some, cond_true]
    rw [same_eq hL]
    rfl
end Go.Proofs.YtgacfocekkckfaaGreatDoor
