/- Plain laws on the words of the models. No program is in sight here. -/
import Derived.Test.YtecakklofhfphaaGreatDoorKModel
import Derived.Laws.Entries
import Derived.IntWalk
set_option linter.unusedVariables false
namespace Go.Proofs.YtecakklofhfphaaGreatDoor

theorem Z4v {S R A:Type} {body:S→Option (Lp S R)} {f:Lp S R→Option A} {X:Option A} {n:Nat} {s:S} (I:S→Prop) (μ : S→Nat) (post:Lp S R→Prop) (hI:I s) (hn : μ s < n)
    (hstep : ∀ s,I s → ∃ z,body s=some z∧(match z with | .go s' => I s' ∧ μ s' < μ s | .brk s' => post (.brk s') | .ret r=>post (.ret r)))
    (hrest : ∀ o,post o→f o=X):(Y9 body n s).bind f=X:=by
  induction n generalizing s with
  | zero=>omega
  | succ n ih =>
    obtain⟨z,hz,h⟩:=hstep s hI
    unfold Y9
    rw [hz]
    cases z with
    | go s' => exact ih h.1 (by omega)
    | brk s' => exact hrest _ h
    | ret r=>exact hrest _ h

theorem Y2j {S R:Type} {body:S→Option (Lp S R)} {n:Nat} {s:S} (I:S→Prop) (μ : S→Nat) (post:Lp S R→Prop) (hI:I s) (hn : μ s < n)
    (hstep : ∀ s,I s → ∃ z,body s=some z∧(match z with | .go s' => I s' ∧ μ s' < μ s | .brk s' => post (.brk s') | .ret r=>post (.ret r))) : ∃ o,Y9 body n s=some o∧post o:=by
  induction n generalizing s with
  | zero=>omega
  | succ n ih =>
    obtain⟨z,hz,h⟩:=hstep s hI
    unfold Y9
    rw [hz]
    cases z with
    | go s' => exact ih h.1 (by omega)
    | brk s' => exact⟨_,rfl,h⟩
    | ret r=>exact⟨_,rfl,h⟩

theorem w64 {x:Int} (h : -9223372036854775808≤x∧x < 9223372036854775808):IntKind.wrap .i64 x=x:=by
  simp only [IntKind.wrap,IntKind.signed,IntKind.bits]
  simp
  omega
theorem w32u {x:Int} (h:0≤x∧x < 4294967296):IntKind.wrap .u32 x=x:=by
  simp only [IntKind.wrap,IntKind.signed,IntKind.bits]
  simp
  omega
theorem Z5x {n:Nat} (h:n≤8589934592):room n=some ():=by unfold room; rw [if_pos h]
theorem F2 {α : Type} {l:List α} {k:Nat} (h:k < l.length):idx l (k:Int)=some l[k]:=by
  unfold idx
  rw [if_pos (by omega)]
  simp [h]
theorem idx_nat {α : Type} {l:List α} {i:Int} (h0:0≤i):idx l i=l[i.toNat]? := by unfold idx; rw [if_pos h0]
theorem Q8j {n:Nat} (h:n < 18446744073709551616):n < NN:=by unfold NN; omega

/-- A loop over 0 .. n - 1 that goes on as long as a test says yes. -/
theorem Z8e {R A:Type} {body:Int→Option (Lp Int R)} {f:Lp Int R→Option A} {n:Nat} {X:Option A} (hn:n < 4611686018427387904) (p:Nat→Bool) (no:R)
    (h1 : ∀ k:Nat,k < n→(∀ j,j < k→p j=true)→body k=some (bif p k then .go (IntKind.wrap .i64 ((k:Int)+1)) else .ret no)) (h2:body n=some (.brk n))
    (hall:(∀ k,k < n→p k=true)→f (.brk n)=X) (hno:(∃ k,k < n∧p k=false)→f (.ret no)=X):(Y9 body NN 0).bind f=X:=by
  refine Z4v (fun x => ∃ k:Nat,k≤n∧x=(k:Int) ∧ ∀ j,j < k→p j=true) (fun x=>n - x.toNat) (fun o=>(o = .brk n ∧ ∀ k,k < n→p k=true) ∨ (o = .ret no ∧ ∃ k,k < n∧p k=false)) ⟨0,by omega,rfl,fun _ h=>by omega⟩ (Q8j (by omega)) ?_ ?_
  · rintro x ⟨k,hk,rfl,hp⟩
    by_cases h:k < n
    · rw [h1 k h hp]
      cases hpk:p k with
      | true =>
        refine⟨_,rfl,⟨k+1,by omega,?_,fun j hj => ?_⟩,?_⟩
        · rw [w64 (by omega)]; omega
        · rcases Nat.lt_or_ge j k with h' | h'
          · exact hp j h'
          · rw [show j=k by omega]; exact hpk
        · rw [w64 (by omega)]; omega
      | false=>exact⟨_,rfl,.inr ⟨rfl,k,h,hpk⟩⟩
    · have hkn:k=n:=by omega
      subst hkn
      rw [h2]
      exact⟨_,rfl,.inl ⟨rfl,hp⟩⟩
  · rintro o (⟨rfl,h⟩ | ⟨rfl,h⟩)
    · exact hall h
    · exact hno h
theorem dt {p:Prop} [Decidable p] (h:p):decide p=true:=decide_eq_true h
theorem df {p:Prop} [Decidable p] (h : ¬ p):decide p=false:=decide_eq_false h
end Go.Proofs.YtecakklofhfphaaGreatDoor
