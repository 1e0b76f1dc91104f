/- The frame of a walk as a short list of slots over an unknown rest, and one lemma for each kind of operation. It holds for every program. -/
import Derived.WalkKit
set_option linter.unusedVariables false
namespace Go.Proofs.YtecakklofhfphaaGreatDoor

def lk (J:Nat→Value):List (Nat×Value)→Nat→Value
  | [],t=>J t
  | p::r,t=>match Nat.beq t p.1 with
    | true=>p.2
    | false=>lk J r t

structure NF where
  n:Nat
  ds:List Deferred
abbrev nf (n:Nat):NF:=⟨n,[]⟩

def env (n:NF) (J:Nat→Value) (L:List (Nat×Value)):Act:=⟨((List.range n.n).map (lk J L)).toArray,n.ds⟩

def ev (n:NF) (J:Nat→Value) (L:List (Nat×Value)):Operand→Value
  | .tmp t=>match Nat.blt t n.n with
    | true=>lk J L t
    | false=>undef
  | .const v=>v
  | .global g => .pointer (some ⟨g,0,none⟩)
  | .func f => .func (.func f) #[] #[]

theorem K7 (n:NF) (J:Nat→Value) (L:List (Nat×Value)):(env n J L).eval=ev n J L:=by
  funext x
  cases x with
  | tmp t =>
    simp only [Act.eval,ev,env]
    by_cases h:t < n.n
    · have h' : Nat.blt t n.n=true:=by simpa [Nat.blt_eq] using h
      rw [h']
      simp [Array.getD,h]
    · have h' : Nat.blt t n.n=false:=by
        cases hb:Nat.blt t n.n with
        | false=>rfl
        | true=>exact absurd (by simpa [Nat.blt_eq] using hb) h
      rw [h']
      simp [Array.getD,h]
  | const v=>rfl
  | global g=>rfl
  | func f=>rfl

theorem E5 (n:NF) (J:Nat→Value) (L:List (Nat×Value)) (d:Nat) (v:Value):(env n J L).put (some d) v=env n J ((d,v)::L):=by
  unfold Act.put env
  simp only
  congr 1
  apply Array.ext
  · simp
  · intro i h1 h2
    have hi:i < n.n:=by simpa using h2
    by_cases h:d=i
    · subst h
      simp [lk]
    · have hb:Nat.beq i d=false:=by
        cases hb:Nat.beq i d with
        | false=>rfl
        | true=>exact absurd (Nat.eq_of_beq_eq_true hb).symm h
      rw [Array.getElem_setIfInBounds_ne (by simpa using hi) h]
      simp [lk,hb]

theorem Q6x (n:NF) (J:Nat→Value) (L:List (Nat×Value)) (v:Value):(env n J L).put none v=env n J L:=rfl

def Has (n:NF) (J:Nat→Value) (L:List (Nat×Value)):List (Nat×Value)→Prop
  | []=>True
  | p::r=>lk J L p.1=p.2∧Has n J L r

theorem Z6f (n:NF) (J:Nat→Value) (L:List (Nat×Value)) : ∀(M:List (Nat×Value)),Has n J L M→lk (lk J L) M=lk J L
  | [],_=>rfl
  | p::r,h=>by
    funext t
    simp only [lk]
    have ih:=Z6f n J L r h.2
    cases hb:Nat.beq t p.1 with
    | true =>
      have e:t=p.1:=Nat.eq_of_beq_eq_true hb
      simp only
      rw [e]
      exact h.1.symm
    | false=>simp only; rw [ih]

section
variable {P:Program} {ops:Array Oper} {Q:Exit→Act→World→Prop} {rest:List Oper} {n:NF} {J:Nat→Value} {L:List (Nat×Value)} {w w' : World}
  {d:Nat} {ty:TypeId} {pos:String} {aft:Array Edge} {op:Op} {v:Value}

theorem Q0e (h:(execOp (ev n J L) ⟨some d,op,ty,pos,aft,none⟩).run P w = .ok (.value v) w') (k:wpList P ops Q rest (env n J ((d,v)::L)) w') :
    wpList P ops Q (⟨some d,op,ty,pos,aft,none⟩::rest) (env n J L) w :=
  wpList_plain rfl fun K hK=>by
    unfold Oper.wp
    rw [K7,h]
    show K (Act.put _ (some d) v) w'
    rw [E5]
    exact hK _ _ k

theorem wl {o:Oper} {a:Act} (hg:o.guard=none) (h:o.wp P a w (fun a' w' => wpList P ops Q rest a' w') Q):wpList P ops Q (o::rest) a w :=
  wpList_plain hg fun K hK=>Oper.wp_mono (fun a w h=>hK a w h) h
section
variable {KK:Act→World→Prop}
theorem Q8l (h:(execOp (ev n J L) ⟨some d,op,ty,pos,aft,none⟩).run P w = .ok (.value v) w') (k:KK (env n J ((d,v)::L)) w'):Oper.wp P ⟨some d,op,ty,pos,aft,none⟩ (env n J L) w KK Q:=by
  unfold Oper.wp
  rw [K7,h]
  show KK (Act.put _ (some d) v) w'
  rw [E5]
  exact k
theorem Z5q (h:(execOp (ev n J L) ⟨none,op,ty,pos,aft,none⟩).run P w = .ok .skip w') (k:KK (env n J L) w'):Oper.wp P ⟨none,op,ty,pos,aft,none⟩ (env n J L) w KK Q:=by
  unfold Oper.wp
  rw [K7,h]
  show KK (Act.put _ none _) w'
  rw [Q6x]
  exact k
theorem w_call {f:FuncId} {args:Array Value} {R:Value→World→Prop} (h:(execOp (ev n J L) ⟨some d,op,ty,pos,aft,none⟩).run P w = .ok (.enter f args) w')
    (hc:Calls P f args w' fun e w1 => ∃ v,e = .returned v∧R v w1) (k : ∀ v w1,R v w1→KK (env n J ((d,v)::L)) w1):Oper.wp P ⟨some d,op,ty,pos,aft,none⟩ (env n J L) w KK Q:=by
  unfold Oper.wp
  rw [K7,h,Oper.upon_enter]
  refine hc.mono ?_
  rintro e w1 ⟨v,rfl,hr⟩
  show KK (Act.put _ (some d) v) w1
  rw [E5]
  exact k v w1 hr
end

end
end Go.Proofs.YtecakklofhfphaaGreatDoor
