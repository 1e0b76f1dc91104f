/- PlayTold: what any play tells. No program is in sight here. -/
import Derived.Test.YtpdahlpjbckoiaaGreatDoorL31r
set_option linter.unusedVariables false
namespace Go.Proofs.YtpdahlpjbckoiaaGreatDoor

noncomputable def eT (p : GPlay) : Int := if conB p.Log = true then (if p.State = 0 then 16 else if p.State = 1 ∧ p.Exit < 256 then 0 else if p.State = 1 ∧ p.Exit = 256 then 8 else 10) else 10
theorem eT_cases (p : GPlay) : eT p = 0 ∨ eT p = 8 ∨ eT p = 10 ∨ eT p = 16 := by
  unfold eT
  split
  · split
    · exact .inr (.inr (.inr rfl))
    · split
      · exact .inl rfl
      · split
        · exact .inr (.inl rfl)
        · exact .inr (.inr (.inl rfl))
  · exact .inr (.inr (.inl rfl))
theorem Told_eq (p : GPlay) (hw : WfL p.Log) (hl : p.Log.length < 4294967296) : play_Told p = some ⟨(F p.Log).map (·.Val), 0, if eT p = 0 then p.Exit else 0, eT p⟩ := by
  unfold play_Told
  rw [Values_eq _ (by omega), Option.bind_some]
  dsimp only [jn]
  rw [Orderly_eq _ hw hl, Option.bind_some]
  unfold eT
  cases hc : conB p.Log with
  | false => rfl
  | true =>
    by_cases h0 : p.State = 0
    · simp [h0]
    · have b0 : (p.State == 0) = false := by simpa using h0
      by_cases h1 : p.State = 1
      · by_cases h2 : p.Exit < 256
        · simp [h1, h2]
        · by_cases h3 : p.Exit = 256
          · simp [h1, h3]
          · have b3 : (p.Exit == 256) = false := by simpa using h3
            simp [h1, h2, h3, b3]
      · have b1 : (p.State == 1) = false := by simpa using h1
        simp [h0, h1, b0, b1]
theorem begins_some (a b : List Int) (ha : a.length ≤ 4294967296) : ∃ r, play_begins a b = some r := by
  unfold play_begins
  by_cases h : b.length < a.length
  · exact ⟨false, c1 (dlt h)⟩
  · rw [c0 (df (by omega))]
    obtain ⟨o, ho, hp⟩ := loop_some (n := NN) (s := (0 : Int)) (body := (fun (x1 : Int) => (bif decide (x1 < (List.length a : Int)) then ((idx a x1).bind fun u1 => (idx b x1).bind fun u2 => bif u1 != u2 then (some (Lp.ret false)) else (some (Lp.go (IntKind.wrap .i64 (x1 + 1))))) else (some (Lp.brk x1)) : Option (Lp (Int) (Bool)))))
      (fun x => ∃ k : Nat, k ≤ a.length ∧ x = k) (fun x => a.length - x.toNat) (fun o => ∃ r, (o.thn (fun (x1 : Int) => some true) (fun r => some r)) = some r) ⟨0, by omega, rfl⟩ (NN_big (by show a.length - (0 : Int).toNat < _; omega)) (by
        rintro x ⟨k, hk, rfl⟩
        by_cases hk' : k < a.length
        · rw [c1 (dlt hk'), idx_get hk', Option.bind_some, idx_get (show k < b.length by omega), Option.bind_some]
          cases (a[k] != b[k]) with
          | true => exact ⟨_, rfl, _, rfl⟩
          | false => exact ⟨_, rfl, ⟨k + 1, by omega, by rw [w64 (by omega)]; omega⟩, by rw [w64 (by omega)]; omega⟩
        · rw [c0 (df (by omega))]
          exact ⟨_, rfl, _, rfl⟩)
    obtain ⟨r, hr⟩ := hp
    exact ⟨r, by rw [ho]; exact hr⟩
theorem begins_eq (a b : List Int) : law31_begins a b = play_begins a b := by
  show (play_begins a b).bind (fun y => some y) = _
  cases play_begins a b <;> rfl
theorem vals_loop (l : List GRecord) (hl : l.length ≤ 4294967296) : (loopM (fun (x5 : Int) => (bif decide (x5 < (List.length l : Int)) then ((idx (l.map (·.Val)) x5).bind fun u1 => (idx l x5).bind fun u2 => bif u1 != u2.Val then (some (Lp.ret false)) else (some (Lp.go (IntKind.wrap .i64 (x5 + 1))))) else (some (Lp.brk x5)) : Option (Lp (Int) (Bool)))) NN (0 : Int)) = some (.brk (l.length : Int)) := by
  have := loop_bind (R := Bool) (A := Lp Int Bool) (f := some) (X := some (.brk (l.length : Int))) (s := (0 : Int)) (n := NN) (body := (fun (x5 : Int) => (bif decide (x5 < (List.length l : Int)) then ((idx (l.map (·.Val)) x5).bind fun u1 => (idx l x5).bind fun u2 => bif u1 != u2.Val then (some (Lp.ret false)) else (some (Lp.go (IntKind.wrap .i64 (x5 + 1))))) else (some (Lp.brk x5)) : Option (Lp (Int) (Bool)))))
    (fun x => ∃ k : Nat, k ≤ l.length ∧ x = k) (fun x => l.length - x.toNat) (fun o => o = .brk (l.length : Int)) ⟨0, by omega, rfl⟩ (NN_big (by show l.length - (0 : Int).toNat < _; omega)) (by
      rintro x ⟨k, hk, rfl⟩
      by_cases hk' : k < l.length
      · rw [c1 (dlt hk'), idx_get (show k < (l.map (·.Val)).length by simpa using hk'), Option.bind_some, idx_get hk', Option.bind_some, c0 (by simp)]
        exact ⟨_, rfl, ⟨k + 1, by omega, by rw [w64 (by omega)]; omega⟩, by rw [w64 (by omega)]; omega⟩
      · rw [c0 (df (by omega))]
        exact ⟨_, rfl, by rw [show k = l.length by omega]⟩) (by rintro o rfl; rfl)
  generalize loopM _ NN (0 : Int) = z at this ⊢
  cases z with
  | none => exact this
  | some o => exact this
theorem PlayTold_law (p : GPlay) (q : Outcome) (hw : WfL p.Log) : law31_PlayTold p q = some true := by
  unfold law31_PlayTold
  by_cases hlen : 300 < p.Log.length ∨ 300 < q.Out.length
  · rw [c1 (by simp; omega)]; rfl
  rw [c0 (by simp; omega)]
  have hl : p.Log.length < 4294967296 := by omega
  have hF := F_len p.Log
  rw [Told_eq p hw hl, Option.bind_some, Ref_eq _ (by omega), Option.bind_some, rFirst_eq _ (by omega), Option.bind_some]
  dsimp only [jn]
  have key : ∀ x4 : Int, x4 = eT p → (bif (((((eT p != x4) || ((List.length ((F p.Log).map (·.Val)) : Int) != (List.length (F p.Log) : Int))) || ((0 : Int) != 0)) || ((eT p == 0) && ((if eT p = 0 then p.Exit else 0) != p.Exit))) || ((eT p != 0) && ((if eT p = 0 then p.Exit else 0) != 0))) then (some false) else ((loopM (fun (x5 : Int) => (bif decide (x5 < (List.length (F p.Log) : Int)) then ((idx ((F p.Log).map (·.Val)) x5).bind fun u1 => (idx (F p.Log) x5).bind fun u2 => bif u1 != u2.Val then (some (Lp.ret false)) else (some (Lp.go (IntKind.wrap .i64 (x5 + 1))))) else (some (Lp.brk x5)) : Option (Lp (Int) (Bool)))) NN (0 : Int)).bind fun o => o.thn (fun (x5 : Int) => (bif q.E == 0 then ((law31_begins ((F p.Log).map (·.Val)) q.Out).bind fun y6 => (fun x7 => bif q.E == 16 then (bif x4 != 10 then ((law31_begins q.Out ((F p.Log).map (·.Val))).bind fun y7 => bif y7 then ((law31_awake).bind fun y9 => bif y9 then ((play_Agrees p q).bind fun y10 => some (y10 == true)) else (some false)) else (bif ((x4 == 8) || (x4 == 16)) then ((law31_begins ((F p.Log).map (·.Val)) q.Out).bind fun y8 => (law31_awake).bind fun y9 => bif y9 then ((play_Agrees p q).bind fun y10 => some (y10 == y8)) else (some false)) else ((law31_awake).bind fun y9 => bif y9 then ((play_Agrees p q).bind fun y10 => some (y10 == false)) else (some false)))) else ((law31_awake).bind fun y9 => bif y9 then ((play_Agrees p q).bind fun y10 => some (y10 == false)) else (some false))) else ((law31_awake).bind fun y9 => bif y9 then ((play_Agrees p q).bind fun y10 => some (y10 == x7)) else (some false))) (y6 && (((x4 == 8) || (x4 == 16)) || (((x4 == 0) && ((List.length ((F p.Log).map (·.Val)) : Int) == (List.length q.Out : Int))) && ((if eT p = 0 then p.Exit else 0) == q.Exit))))) else ((fun x7 => bif q.E == 16 then (bif x4 != 10 then ((law31_begins q.Out ((F p.Log).map (·.Val))).bind fun y7 => bif y7 then ((law31_awake).bind fun y9 => bif y9 then ((play_Agrees p q).bind fun y10 => some (y10 == true)) else (some false)) else (bif ((x4 == 8) || (x4 == 16)) then ((law31_begins ((F p.Log).map (·.Val)) q.Out).bind fun y8 => (law31_awake).bind fun y9 => bif y9 then ((play_Agrees p q).bind fun y10 => some (y10 == y8)) else (some false)) else ((law31_awake).bind fun y9 => bif y9 then ((play_Agrees p q).bind fun y10 => some (y10 == false)) else (some false)))) else ((law31_awake).bind fun y9 => bif y9 then ((play_Agrees p q).bind fun y10 => some (y10 == false)) else (some false))) else ((law31_awake).bind fun y9 => bif y9 then ((play_Agrees p q).bind fun y10 => some (y10 == x7)) else (some false))) true))) (fun r => some r))) = some true := by
    rintro x4 rfl
    rw [vals_loop _ (by omega), Option.bind_some]
    dsimp only [Lp.thn]
    obtain ⟨b1, e1⟩ := begins_some ((F p.Log).map (·.Val)) q.Out (by simp; omega)
    obtain ⟨b2, e2⟩ := begins_some q.Out ((F p.Log).map (·.Val)) (by omega)
    have ha : law31_awake = some true := rfl
    have hA : play_Agrees p q = some (if q.E ≠ 0 ∧ q.E ≠ 16 then true else if eT p = 10 then false else if q.E = 16 then (b2 || ((eT p == 8 || eT p == 16) && b1)) else if eT p = 8 ∨ eT p = 16 then b1 else (b1 && ((List.length ((F p.Log).map (·.Val)) : Int) == (List.length q.Out : Int)) && ((if eT p = 0 then p.Exit else 0) == q.Exit))) := by
      unfold play_Agrees
      rw [Told_eq p hw hl, Option.bind_some]
      dsimp only [jn]
      rw [e1, e2]
      simp only [Option.bind_some]
      by_cases q0 : q.E = 0
      · rcases eT_cases p with h | h | h | h <;> simp [h, q0]
      · by_cases q1 : q.E = 16
        · rcases eT_cases p with h | h | h | h <;> cases b1 <;> cases b2 <;> simp [h, q1]
        · have c0' : (q.E == 0) = false := by simpa using q0
          have c1' : (q.E == 16) = false := by simpa using q1
          simp [q0, q1, c0', c1', bne]
    rw [hA, begins_eq, begins_eq, e1, e2, ha]
    simp only [Option.bind_some]
    by_cases q0 : q.E = 0
    · rcases eT_cases p with h | h | h | h <;> cases b1 <;> simp [h, q0]
    · by_cases q1 : q.E = 16
      · rcases eT_cases p with h | h | h | h <;> cases b1 <;> cases b2 <;> simp [h, q1]
      · have c0' : (q.E == 0) = false := by simpa using q0
        have c1' : (q.E == 16) = false := by simpa using q1
        rcases eT_cases p with h | h | h | h <;> simp [h, q0, q1, c0', c1']
  rw [rOrderly_eq _ hw hl]
  simp only [Option.bind_some]
  have no : conB p.Log = false → (10 : Int) = eT p := fun hc => by simp [eT, hc]
  by_cases h0 : p.State = 0
  · have h1 : ¬ p.State = 1 := by omega
    rw [c1 (by simpa using h0), c0 (by simp [h1]), c0 (by simp [h1])]
    cases hc : conB p.Log with
    | false => exact key 10 (no hc)
    | true => exact key 16 (by simp [eT, hc, h0])
  · rw [c0 (by simpa using h0)]
    by_cases h1 : p.State = 1
    · by_cases h2 : p.Exit < 256
      · rw [c0 (by simp; omega), c1 (by simp [h1, h2])]
        cases hc : conB p.Log with
        | false => exact key 10 (no hc)
        | true => exact key 0 (by simp [eT, hc, h1, h2])
      · by_cases h3 : p.Exit = 256
        · rw [c1 (by simp [h1, h3]), c0 (by simp; omega)]
          cases hc : conB p.Log with
          | false => exact key 10 (no hc)
          | true => exact key 8 (by simp [eT, hc, h1, h3])
        · rw [c0 (by simp [h3]), c0 (by simp; omega)]
          cases hc : conB p.Log with
          | false => exact key 10 (no hc)
          | true => exact key 10 (by simp [eT, hc, h1, h2, h3])
    · rw [c0 (by simp [h1]), c0 (by simp [h1])]
      cases hc : conB p.Log with
      | false => exact key 10 (no hc)
      | true => exact key 10 (by simp [eT, hc, h0, h1])
end Go.Proofs.YtpdahlpjbckoiaaGreatDoor
