/- A variable that begins with an array: the array as a list, the other cells one by one. It holds for every program. -/
import Derived.Test.YtecakklofhfphaaGreatDoorKFoc
set_option linter.unusedVariables false
namespace Go.Proofs.YtecakklofhfphaaGreatDoor

def U9 {α : Type} (H:List Value→Z4) (en : α → List Value) (l:List α) (cs:List Value):Z4:=H ((l.map en).flatten++cs)
theorem Z6h {α : Type} {l:List α} {n i:Nat} {u : α} (h:l.length=n):(l.set i u).length=n:=by simp [h]
theorem Q6t {α : Type} {en : α → List Value} {sz:Nat} (hen : ∀ x,(en x).length=sz) (l:List α):((l.map en).flatten).length=l.length * sz:=by
  induction l with
  | nil=>simp
  | cons x l ih=>simp only [List.map_cons,List.flatten_cons,List.length_append,hen,ih,List.length_cons,Nat.succ_mul]; omega
theorem K9 {α : Type} {H:List Value→Z4} {en : α → List Value} {l:List α} {b o n sz k:Nat} (hL:Ln b o H) (hn:l.length=n) (hen : ∀ x,(en x).length=sz) (hk:n * sz=k):Ln b (o+k) (U9 H en l):=by
  have h:=lnSub hL (l.map en).flatten []
  have e:(fun cs=>H ((l.map en).flatten++cs ++ []))=U9 H en l:=by
    funext cs
    rw [List.append_nil]
    rfl
  rw [e,Q6t hen,hn,hk] at h
  exact h
theorem Z4p {α : Type} {en : α → List Value} {sz:Nat} (hen : ∀ x,(en x).length=sz) (l:List α) : ∀ c ∈ l.map en,c.length=sz:=by
  intro c hc
  obtain⟨x,_,rfl⟩:=List.mem_map.1 hc
  exact hen x
section
variable {P:Program} {n:NF} {J:Nat→Value} {L:List (Nat×Value)} {w:World} {KK:Act→World→Prop} {Q:Exit→Act→World→Prop} {g:World} {T:Nat→Prop} {G:List Z4} {q d:Nat} {x y:Operand} {t ty:TypeId} {pos:String} {aft:Array Edge}
theorem segAt {α : Type} {T:Nat→Prop} {w:World} {F:Nat→Prop} {H:List Value→Z4} {en : α → List Value} {l:List α} {cs:List Value} {b o sz i:Nat} {u : α} (hF:(U9 H en l cs).P T w F) (hL:Ln b o H) (hen : ∀ x,(en x).length=sz) (hu:l[i]? = some u):cellsAt w b (o+i * sz) (en u):=by
  intro j v hj
  have hm:(l.map en)[i]? = some (en u):=by rw [List.getElem?_map,hu]; rfl
  have hf:=Q1u (Z4p hen l) hm hj
  have hlt:i * sz+j < (l.map en).flatten.length:=by
    rcases Nat.lt_or_ge (i * sz+j) (l.map en).flatten.length with h | h
    · exact h
    · rw [List.getElem?_eq_none h] at hf; cases hf
  have:=hL.rd hF (i * sz+j) v (by rw [List.getElem?_append_left hlt]; exact hf)
  rwa [← Nat.add_assoc] at this
theorem Sep.segEl {α : Type} {H:List Value→Z4} {en : α → List Value} {l:List α} {cs:List Value} {b o of sz:Nat} {i:Int} {u : α} (hS:Sep g T w G) (hi:AtR G q (U9 H en l cs)) (hL:Ln b o H) (hen : ∀ x,(en x).length=sz) (hu:idx l i=some u) (he:of=o+i.toNat * sz):cellsAt w b of (en u):=by
  obtain⟨F,hF,_⟩:=hS.getA hi
  rw [he]
  exact segAt hF hL hen (L4 hu).2.2
theorem Q1g {α : Type} {l:List α} {u : α} {b o of m sz:Nat} {ik:IntKind} {i:Int} {e:TypeId} (hx:ev n J L x = .pointer (some ⟨b,o,none⟩)) (hy:ev n J L y = .int ik i) (hn:l.length=m) (hu:idx l i=some u)
    (ht:P.underlying t=some (.array m e)) (hs : ∀ w,(sizeOf e).run P w = .ok sz w) (ho:of=o+i.toNat * sz) :
    (execOp (ev n J L) ⟨some d,.indexAddr t x y,ty,pos,aft,none⟩).run P w = .ok (.value (.pointer (some ⟨b,of,none⟩))) w:=by
  subst ho
  obtain⟨h0,h1,h2⟩:=L4 hu
  have h1' : i < (m:Int):=by omega
  simp [execOp,Instr.indexAt,Instr.sureAddr,asIntOf,hx,hy,run_underlying ht,hs,h0,h1',Addr.add_lit]
theorem Q6r {α : Type} {H:List Value→Z4} {en : α → List Value} {l:List α} {cs ns:List Value} {b o of j sz k:Nat} {i:Int} {u u' : α} {v:Value} (hS:Sep g T w G) (hi:AtR G q (U9 H en l cs)) (hL:Ln b o H) (hen : ∀ x,(en x).length=sz) (hu:idx l i=some u) (he:of=o+i.toNat * sz)
    (hx:ev n J L x = .pointer (some ⟨b,of+j,none⟩)) (hy:ev n J L y=v) (hv:v.cells.toList=ns)
    (hs : ∀ w,(sizeOf t).run P w = .ok k w) (hl:ns.length=k) (h1:ns.all Value.oneCell' = true) (hfit:Nat.ble (j+ns.length) sz=true) (hst:X9 (en u) j ns=en u')
    (kk : ∀ w',Im T w T w' → Sep g T w' (C6 G q (U9 H en (l.set i.toNat u') cs))→KK (env n J L) w') :
    Oper.wp P ⟨none,.store t x y,ty,pos,aft,none⟩ (env n J L) w KK Q:=by
  obtain⟨h0,hlt,hu2⟩:=L4 hu
  have hfit:=Nat.le_of_ble_eq_true hfit
  have hm:(l.map en)[i.toNat]? = some (en u):=by rw [List.getElem?_map,hu2]; rfl
  have hfl:=Q6t hen l
  have hrow:i.toNat * sz+sz≤l.length * sz:=by rw [← Nat.succ_mul]; exact Nat.mul_le_mul_right _ (by omega)
  have hbnd:i.toNat * sz+j+ns.length≤((l.map en).flatten).length:=by rw [hfl]; omega
  refine stB (j:=i.toNat * sz+j) (H:=H) hS hi hL (by rw [hx,he,← Nat.add_assoc]) hy hv hs hl h1 ?_ fun w' him hS' => kk w' him ?_
  · apply Nat.ble_eq_true_of_le
    rw [List.length_append]
    omega
  · have e:X9 ((l.map en).flatten++cs) (i.toNat * sz+j) ns=((l.set i.toNat u').map en).flatten++cs:=by
      have e1:X9 ((l.map en).flatten++cs) (i.toNat * sz+j) ns=X9 (l.map en).flatten (i.toNat * sz+j) ns++cs:=by
        unfold X9
        rw [List.take_append_of_le_length (by omega),List.drop_append_of_le_length (by omega)]
        simp [List.append_assoc]
      rw [e1,List.map_set,← hst,Q4w (Z4p hen l) hm (by omega)]
    rw [e] at hS'
    exact hS'
theorem stSegW {α : Type} {H:List Value→Z4} {en : α → List Value} {l:List α} (l' : List α) {cs ns:List Value} (n2:List Value) {b o sz m k:Nat} {v:Value} (hS:Sep g T w G) (hi:AtR G q (U9 H en l cs)) (hL:Ln b o H) (hn:l.length=m) (hen : ∀ x,(en x).length=sz) (hn' : l'.length=m)
    (hx:ev n J L x = .pointer (some ⟨b,o,none⟩)) (hy:ev n J L y=v) (hs : ∀ w,(sizeOf t).run P w = .ok k w) (hv:v.cells.toList=ns) (hl:ns.length=k) (hns:ns=(l'.map en).flatten++n2) (hfit:Nat.ble n2.length cs.length=true)
    (h1:ns.all Value.oneCell' = true) (kk : ∀ w',Im T w T w' → Sep g T w' (C6 G q (U9 H en l' (n2++cs.drop n2.length)))→KK (env n J L) w') :
    Oper.wp P ⟨none,.store t x y,ty,pos,aft,none⟩ (env n J L) w KK Q:=by
  have hfit:=Nat.le_of_ble_eq_true hfit
  have hfl:=Q6t hen l
  have hfl' := Q6t hen l'
  refine stB (j:=0) (H:=H) hS hi hL hx hy hv hs hl h1 ?_ fun w' him hS' => kk w' him ?_
  · apply Nat.ble_eq_true_of_le
    rw [hns,List.length_append,List.length_append,hfl,hfl',hn,hn']
    omega
  · have e:X9 ((l.map en).flatten++cs) 0 ns=(l'.map en).flatten++(n2++cs.drop n2.length):=by
      unfold X9
      rw [hns,List.length_append,hfl',hn',List.take_zero,List.nil_append,Nat.zero_add,List.drop_append,hfl,hn,List.drop_eq_nil_of_le (by rw [hfl,hn]; omega),List.nil_append,Nat.add_sub_cancel_left,List.append_assoc]
    rw [e] at hS'
    exact hS'
end
end Go.Proofs.YtecakklofhfphaaGreatDoor
