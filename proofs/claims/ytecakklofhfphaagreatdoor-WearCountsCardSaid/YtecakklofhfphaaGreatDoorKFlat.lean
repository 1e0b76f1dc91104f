/- An array at the head of a variable, its cells one by one, indexed by a number that is not known. It holds for every program. -/
import Derived.Test.YtecakklofhfphaaGreatDoorKSeg
import Derived.Test.YtecakklofhfphaaGreatDoorKSd
set_option linter.unusedVariables false
namespace Go.Proofs.YtecakklofhfphaaGreatDoor

theorem Y2s {α : Type} (en : α → List Value) (d : α) : ∀(l:List α) (n:Nat),l.length=n→(l.map en).flatten=((List.range n).map fun j=>en (l.getD j d)).flatten:=by
  intro l n h
  congr 1
  apply List.ext_getElem
  · simp [h]
  · intro j h1 h2
    simp at h1
    simp [List.getD,List.getElem?_eq_getElem h1]
section
variable {P:Program} {n:NF} {J:Nat→Value} {L:List (Nat×Value)} {w:World} {KK:Act→World→Prop} {Q:Exit→Act→World→Prop} {g:World} {T:Nat→Prop} {G:List Z4} {q d:Nat} {x y:Operand} {t ty:TypeId} {pos:String} {aft:Array Edge}
/-- A cell of an element is written. -/
theorem stFl {α : Type} {H:List Value→Z4} {en : α → List Value} {l l' : List α} {cs ns ds:List Value} {b o of j sz k m:Nat} {i:Int} {u u' dd : α} {v:Value} (hS:Sep g T w G) (hi:AtR G q (U9 H en l cs)) (hL:Ln b o H) (hen : ∀ x,(en x).length=sz) (hu:idx l i=some u) (he:of=o+i.toNat * sz)
    (hx:ev n J L x = .pointer (some ⟨b,of+j,none⟩)) (hy:ev n J L y=v) (hv:v.cells.toList=ns)
    (hs : ∀ w,(sizeOf t).run P w = .ok k w) (hl:ns.length=k) (h1:ns.all Value.oneCell' = true) (hfit:Nat.ble (j+ns.length) sz=true) (hst:X9 (en u) j ns=en u') (hset:setD l i u' = some l') (hm:l.length=m)
    (hd:((List.range m).map fun j=>en (l'.getD j dd)).flatten++cs=ds)
    (kk : ∀ w',Im T w T w' → Sep g T w' (C6 G q (H ds))→KK (env n J L) w') :
    Oper.wp P ⟨none,.store t x y,ty,pos,aft,none⟩ (env n J L) w KK Q:=by
  refine Q6r hS hi hL hen hu he hx hy hv hs hl h1 hfit hst fun w' im hS' => kk w' im ?_
  have e:l.set i.toNat u' = l' := Option.some.inj hset
  rw [e] at hS'
  have e2:U9 H en l' cs=H ds:=by
    unfold U9
    rw [Y2s en dd l' m (by rw [← e,List.length_set]; exact hm),hd]
  rw [e2] at hS'
  exact hS'
end
end Go.Proofs.YtecakklofhfphaaGreatDoor
