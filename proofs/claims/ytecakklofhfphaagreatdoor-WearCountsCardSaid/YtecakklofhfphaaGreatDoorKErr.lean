/- Errors that are only held against nil; arrays of structs as values. It holds for every program. -/
import Derived.Test.YtecakklofhfphaaGreatDoorKArr
import Derived.Test.YtecakklofhfphaaGreatDoorKSeg
import Derived.WideLaws
import Derived.Below
set_option linter.unusedVariables false
namespace Go.Proofs.YtecakklofhfphaaGreatDoor
def Q3v {α : Type} (en : α → List Value) (l:List α):List Value:=(l.map en).flatten
theorem segF_len {α : Type} {en : α → List Value} {sz:Nat} (hen : ∀ x,(en x).length=sz) (l:List α):(Q3v en l).length=l.length * sz:=by
  unfold Q3v
  induction l with
  | nil=>simp
  | cons x l ih=>simp only [List.map_cons,List.flatten_cons,List.length_append,hen,ih,List.length_cons,Nat.succ_mul]; omega
theorem Y0r {α : Type} {en : α → List Value} {sz:Nat} (hen : ∀ x,(en x).length=sz) : ∀ {l:List α} {i:Nat} {u : α},l[i]? = some u→((Q3v en l).drop (i * sz)).take sz=en u
  | [],i,u,h=>by cases h
  | x::l,0,u,h=>by
    cases h
    unfold Q3v
    rw [List.map_cons,List.flatten_cons,Nat.zero_mul,List.drop_zero,← hen x,List.take_left]
  | x::l,i+1,u,h=>by
    have h' : l[i]? = some u:=h
    have:=Y0r hen h'
    unfold Q3v at *
    rw [List.map_cons,List.flatten_cons,Nat.succ_mul,Nat.add_comm,← List.drop_drop]
    conv=>lhs; rw [show List.drop sz (en x++(List.map en l).flatten)=(List.map en l).flatten by rw [← hen x,List.drop_left]]
    exact this
theorem Z9k {α : Type} {en : α → List Value} {sz m k:Nat} {l:List α} (hen : ∀ x,(en x).length=sz) (hm:l.length=m) (hk:m * sz=k):(Q3v en l).length=k:=by rw [segF_len hen,hm,hk]
theorem Sep.segBx {g:World} {T:Nat→Prop} {w:World} {G:List Z4} {i b:Nat} {α : Type} {en : α → List Value} {l:List α} (h:Sep g T w G) (hi:AtR G i (U9 (Y2 b) en l [])):Box w b (Q3v en l):=by
  have:=Sep.bx h (b:=b) (cs:=(l.map en).flatten ++ []) hi
  rwa [List.append_nil] at this
theorem stArr {P:Program} {n:NF} {J:Nat→Value} {L:List (Nat×Value)} {w:World} {KK:Act→World→Prop} {Q:Exit→Act→World→Prop} {g:World} {T:Nat→Prop} {G:List Z4} {q:Nat} {x y:Operand} {t ty:TypeId} {pos:String} {aft:Array Edge}
    {α : Type} {H:List Value→Z4} {en : α → List Value} {l l' : List α} {b o m sz k:Nat} (hS:Sep g T w G) (hi:AtR G q (U9 H en l [])) (hL:Ln b o H) (hx:ev n J L x = .pointer (some ⟨b,o,none⟩)) (hy:ev n J L y = .agg (Q3v en l').toArray)
    (hen : ∀ x,(en x).length=sz) (hone : ∀ x,(en x).all Value.oneCell' = true) (hl:l.length=m) (hl' : l'.length=m) (hk:m * sz=k) (hs : ∀ w,(sizeOf t).run P w = .ok k w)
    (kk : ∀ w',Im T w T w' → Sep g T w' (C6 G q (U9 H en l' []))→KK (env n J L) w') :
    Oper.wp P ⟨none,.store t x y,ty,pos,aft,none⟩ (env n J L) w KK Q:=by
  have e1:=Z9k hen hl' hk
  have e2:=Z9k hen hl hk
  refine stB (j:=0) (H:=H) (cs:=Q3v en l') hS hi hL (by rw [hx]; rfl) hy (by simp [Value.cells]) hs e1 ?_ ?_ fun w' him hS' => kk w' him ?_
  · unfold Q3v
    rw [List.all_flatten,List.all_map]
    exact List.all_eq_true.2 fun x _=>hone x
  · apply Nat.ble_eq_true_of_le
    rw [List.append_nil,e1]
    show _≤(Q3v en l).length
    omega
  · have e:X9 ((l.map en).flatten ++ []) 0 (Q3v en l')=(l'.map en).flatten ++ []:=by
      unfold X9
      rw [List.take_zero,List.nil_append,Nat.zero_add,List.append_nil,List.drop_of_length_le]
      · rfl
      · show(Q3v en l).length≤_
        omega
    rw [e] at hS'
    exact hS'
section
variable {P:Program} {n:NF} {J:Nat→Value} {L:List (Nat×Value)} {w:World} {d:Nat} {ty:TypeId} {pos:String} {aft:Array Edge} {x y:Operand} {t t2:TypeId}
theorem r_axs {α : Type} {en : α → List Value} {l:List α} {u:List Value} {z : α} {k:IntKind} {i:Int} {e:TypeId} {m sz:Nat} (hx:ev n J L x = .agg (Q3v en l).toArray) (hy:ev n J L y = .int k i) (hi:idx l i=some z) (hen : ∀ x,(en x).length=sz) (hu:en z=u) (hm:l.length=m)
    (ht:P.underlying t=some (.array m e)) (hs : ∀ w,(sizeOf e).run P w = .ok sz w) (hg : ∀ w,(isAgg e).run P w = .ok true w) :
    (execOp (ev n J L) ⟨some d,.index t x y,ty,pos,aft,none⟩).run P w = .ok (.value (.agg u.toArray)) w:=by
  subst hm
  subst hu
  obtain⟨h0,h1,h2⟩:=L4 hi
  have h3:i.toNat < l.length:=by omega
  have h4:=Y0r hen h2
  have h5:(Q3v en l).toArray.extract (i.toNat * sz) (i.toNat * sz+sz)=(en z).toArray:=by
    apply Array.ext'
    rw [Array.toList_extract,List.extract_eq_take_drop,List.toList_toArray,Nat.add_sub_cancel_left]
    exact h4
  simpa [execOp,Instr.index,hx,hy,asIntOf,run_underlying ht,h0,h1,hs,part,hg,asAgg,h5] using h4
end
def Gc (T:Nat→Prop) (w:World) (g:Nat) (cs:List Value):Prop:=T g ∧ ∃ t fr,w.heap[g]? = some (.cells cs.toArray t fr)
theorem Gc.mono {T T' : Nat→Prop} {w w' : World} {g:Nat} {cs:List Value} (h:Gc T w g cs) (i:Im T w T' w'):Gc T' w' g cs :=
  ⟨(i g h.1).1,let ⟨t,fr,h2⟩:=h.2; ⟨t,fr,(i g h.1).2.trans h2⟩⟩
theorem Gc.var {P:Program} {T:Nat→Prop} {w:World} {g:Nat} {cs:List Value} {name:String} (h:Gc T w g cs) (hg:P.globalNamed name=some g):w.var? P name=some cs.toArray:=by
  obtain⟨_,t,fr,h2⟩:=h
  simp [World.var?,hg,h2]
theorem Gc.cell {T:Nat→Prop} {w:World} {g:Nat} {cs:List Value} (h:Gc T w g cs) {i:Nat} {v:Value} (hi:cs[i]? = some v):w.cell? ⟨g,i,none⟩=some v:=by
  obtain⟨_,t,fr,h2⟩:=h
  simp [World.cell?,h2,hi]
theorem Gc.of {P:Program} {w:World} {g:Nat} {cs:List Value} {name:String} {T:Nat→Prop} (hg:P.globalNamed name=some g) (h:w.var? P name=some cs.toArray) (hT:g < w.heap.size→T g):Gc T w g cs:=by
  unfold World.var? at h
  rw [hg,Option.bind_some] at h
  split at h
  · rename_i c t fr hh
    cases h
    exact⟨hT (hlt hh),_,_,hh⟩
  · cases h
def Ge (T:Nat→Prop) (w:World) (g:Nat):Prop:=T g ∧ ∃ ev,w.cell? ⟨g,0,none⟩=some ev∧(ev = .nilIface ∨ ∃ te pe,ev = .iface te pe)
theorem Ge.mono {T T' : Nat→Prop} {w w' : World} {g:Nat} (h:Ge T w g) (i:Im T w T' w'):Ge T' w' g:=by
  obtain⟨h1,ev,h2,h3⟩:=h
  refine⟨(i g h1).1,ev,?_,h3⟩
  rw [← h2]
  simp only [World.cell?,(i g h1).2]
theorem inB {T:Nat→Prop} {w w' : World} (hl:Bd T w) (hB:RowKit.Below w.heap.size w w'):Inn w.heap.size noB T w T w' :=
  ⟨⟨hB.os,hB.tape,hB.output,hB.size,fun b hb' _=>hB.block b hb'⟩,fun b hb' => ⟨hb',hB.block b (hl b hb')⟩,fun _ _ h=>h,fun b hb' => Nat.lt_of_lt_of_le (hl b hb') hB.size,hB.size⟩
theorem Sep.below {g:World} {T:Nat→Prop} {w w' : World} {L:List Z4} (h:Sep g T w L) (hB:RowKit.Below w.heap.size w w'):Im T w T w' ∧ Sep g T w' L :=
  ⟨(inB h.lt hB).imm,h.keep (inB h.lt hB) (fun _ h=>h)⟩
theorem Sep.fresh {g:World} {T:Nat→Prop} {w:World} {L:List Z4} (h:Sep g T w L) (o:Obj):Im T w (fun k=>T k ∨ k=w.heap.size) (w.alloc o)∧Sep g (fun k=>T k ∨ k=w.heap.size) (w.alloc o) L:=by
  have hB:RowKit.Below w.heap.size w (w.alloc o):=(RowKit.Below.refl _ _).alloc (Nat.le_refl _) o
  have i:Inn w.heap.size noB T w (fun k=>T k ∨ k=w.heap.size) (w.alloc o) :=
    ⟨⟨hB.os,hB.tape,hB.output,hB.size,fun b hb' _=>hB.block b hb'⟩,fun b hb' => ⟨.inl hb',hB.block b (h.lt b hb')⟩,fun k hk h=>h.elim id fun e=>by omega,fun b hb' => by
      rcases hb' with hb' | rfl
      · exact Nat.lt_of_lt_of_le (h.lt b hb') hB.size
      · simp,hB.size⟩
  exact⟨i.imm,h.keep i (fun _ h=>h)⟩
end Go.Proofs.YtecakklofhfphaaGreatDoor
