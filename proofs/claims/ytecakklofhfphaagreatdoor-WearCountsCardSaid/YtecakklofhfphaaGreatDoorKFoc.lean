/- Places within owned slices and within variables. It holds for every program. -/
import Derived.Test.YtecakklofhfphaaGreatDoorKMapS
set_option linter.unusedVariables false
namespace Go.Proofs.YtecakklofhfphaaGreatDoor

def HoC {α : Type} (r:Rp α) (e:TypeId) (T:Nat→Prop) (w:World) (v:Value) (l:List α) (i:Nat) (cs:List Value):Prop :=
  ∃ css:List (List Value),css.length=l.length∧w.ownsRow 0 e r.sz v l.length css.flatten∧css[i]? = some cs∧cs.length=r.sz∧(∀(j:Nat) (c:List Value) (x : α),j ≠ i→css[j]? = some c→l[j]? = some x→r.rp T w c x)

theorem HoC.sizes {α : Type} {r:Rp α} {e:TypeId} {T:Nat→Prop} {w:World} {v:Value} {l:List α} {i:Nat} {cs:List Value} {css:List (List Value)} (h1:css.length=l.length) (h3:css[i]? = some cs) (h4:cs.length=r.sz)
    (h5 : ∀(j:Nat) (c:List Value) (x : α),j ≠ i→css[j]? = some c→l[j]? = some x→r.rp T w c x) : ∀ c ∈ css,c.length=r.sz:=by
  intro c hc
  obtain⟨j,hj,he⟩:=List.getElem_of_mem hc
  by_cases hji:j=i
  · subst hji
    rw [List.getElem?_eq_getElem hj,he] at h3
    cases h3
    exact h4
  · exact r.len (h5 j c l[j] hji (by rw [List.getElem?_eq_getElem hj,he]) (List.getElem?_eq_getElem (by omega)))

section
variable {g:World} {T T' : Nat→Prop} {w w' : World} {G:List Z4} {q:Nat}
end

theorem lnSub {b o:Nat} {H:List Value→Z4} (hL:Ln b o H) (pre post:List Value):Ln b (o+pre.length) (fun cs=>H (pre++cs++post)) where
  rd:=fun {T w F cs} h j v hj=>by
    have hjl:j < cs.length:=by
      rcases Nat.lt_or_ge j cs.length with h | h
      · exact h
      · rw [List.getElem?_eq_none h] at hj; cases hj
    have:=hL.rd h (pre.length+j) v (by rw [List.append_assoc,List.getElem?_append_right (by omega),Nat.add_sub_cancel_left,List.getElem?_append_left hjl]; exact hj)
    rw [← Nat.add_assoc] at this
    exact this
  wr:=fun {T w F cs} h hn=>by
    obtain⟨blk,e,hg,hF,hsz,hwr⟩:=hL.wr h hn
    simp only [List.length_append] at hsz hwr
    refine⟨blk,e,hg,hF,by omega,fun j new hj hone => ?_⟩
    have:=hwr (pre.length+j) new (by omega) hone
    rw [← Nat.add_assoc] at this
    have he:X9 (pre++cs++post) (pre.length+j) new=pre++X9 cs j new++post:=by
      apply List.ext_getElem?
      intro i
      rw [N5 (by simp; omega)]
      simp only [List.append_assoc]
      rcases Nat.lt_or_ge i pre.length with hi | hi
      · rw [List.getElem?_append_left hi,if_pos (by omega),List.getElem?_append_left hi]
      · rw [List.getElem?_append_right hi,List.getElem?_append_right hi]
        rcases Nat.lt_or_ge (i - pre.length) cs.length with hi2 | hi2
        · rw [List.getElem?_append_left hi2,List.getElem?_append_left (by rw [N4 hj]; exact hi2),N5 hj]
          have e1:(i < pre.length+j) ↔ (i - pre.length < j):=by omega
          have e2:(i < pre.length+j+new.length) ↔ (i - pre.length < j+new.length):=by omega
          have e3:i - (pre.length+j)=i - pre.length - j:=by omega
          simp only [e1,e2,e3]
        · rw [List.getElem?_append_right hi2,if_neg (by omega),if_neg (by omega),List.getElem?_append_right (by rw [N4 hj]; exact hi2),N4 hj]
    rw [he] at this
    exact this
end Go.Proofs.YtecakklofhfphaaGreatDoor
