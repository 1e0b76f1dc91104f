/- The words in which the models of Go functions are written. -/
set_option linter.unusedVariables false
namespace Go.Proofs.YtecakklofhfphaaGreatDoor

/-- How a round of a loop ends: go on, leave the loop, or leave the function. -/
inductive Lp (S R:Type) where
  | go (s:S)
  | brk (s:S)
  | ret (r:R)

def Y9 {S R:Type} (body:S→Option (Lp S R)):Nat→S→Option (Lp S R)
  | 0,_=>none
  | n+1,s=>match body s with
    | some (.go s')=>Y9 body n s'
    | some (.brk s')=>some (.brk s')
    | some (.ret r)=>some (.ret r)
    | none=>none

/-- What stands behind a loop. -/
def Lp.thn {S R A:Type} (x:Lp S R) (f:S→Option A) (g:R→Option A):Option A:=match x with
  | .brk s=>f s
  | .ret r=>g r
  | .go _=>none

/-- How a round of a range over a function ends. -/
def Lp.isGo {S R:Type} : Lp S R→Bool
  | .go _=>true
  | _=>false
def Lp.gone {S R A:Type} (z:Lp S R) (f:S→A) (g:A):A:=match z with
  | .go s=>f s
  | _=>g
/-- Two ways on: with a yes, with a no. -/
def Lp.gob {S R A:Type} (z:Lp S R) (f g:S→A) (h:A):A:=match z with
  | .go s=>f s
  | .brk s=>g s
  | .ret _=>h
theorem gob_go {S R A:Type} {s:S} {f g:S→A} {h z:A} (e:(Lp.go s:Lp S R).gob f g h=z):f s=z:=e
theorem gob_brk {S R A:Type} {s:S} {f g:S→A} {h z:A} (e:(Lp.brk s:Lp S R).gob f g h=z):g s=z:=e

theorem thn_brk {S R A:Type} {s:S} {f:S→Option A} {g:R→Option A} {z:Option A} (h:(Lp.brk s:Lp S R).thn f g=z):f s=z:=h
theorem thn_ret {S R A:Type} {r:R} {f:S→Option A} {g:R→Option A} {z:Option A} (h:(Lp.ret r:Lp S R).thn f g=z):g r=z:=h

/-- More rounds than any loop here has. -/
def NN:Nat:=2 ^ 64

/-- A part of a model with what follows it as an argument. -/
def jn {κ O:Type} (f : κ → Option O) (k : κ):Option O:=f k

theorem Q4 {α β : Type} {m:Option α} {f : α → Option β} {r : β} (h:m.bind f=some r) : ∃ x,m=some x∧f x=some r:=by
  cases m with
  | none=>cases h
  | some x=>exact⟨x,rfl,h⟩
theorem oI {α : Type} {a b : α} (h:some a=some b):a=b:=Option.some.inj h
theorem ctrue {α : Type} {b:Bool} {x y z : α} (hb:b=true) (h:(bif b then x else y)=z):x=z:=by subst hb; exact h
theorem cfalse {α : Type} {b:Bool} {x y z : α} (hb:b=false) (h:(bif b then x else y)=z):y=z:=by subst hb; exact h

theorem Z9u {S R:Type} {body:S→Option (Lp S R)} {n:Nat} {s:S} {o:Lp S R} (h:Y9 body n s=some o) :
    ∃ m,n=m+1∧((∃ s',body s=some (.go s')∧Y9 body m s' = some o) ∨ (∃ s',body s=some (.brk s')∧o = .brk s') ∨ (∃ r,body s=some (.ret r)∧o = .ret r)):=by
  cases n with
  | zero=>cases h
  | succ m =>
    refine⟨m,rfl,?_⟩
    unfold Y9 at h
    split at h
    · rename_i s' hs; exact .inl ⟨s',hs,h⟩
    · rename_i s' hs; cases h; exact .inr (.inl ⟨s',hs,rfl⟩)
    · rename_i r hs; cases h; exact .inr (.inr ⟨r,hs,rfl⟩)
    · cases h
/-- The element at an index, if there is one. -/
def idx {α : Type} (l:List α) (i:Int):Option α := if 0≤i then l[i.toNat]? else none

theorem L4 {α : Type} {l:List α} {i:Int} {x : α} (h:idx l i=some x):0≤i∧i < l.length∧l[i.toNat]? = some x:=by
  unfold idx at h
  split at h
  · rename_i h0
    have hl:i.toNat < l.length:=by
      rcases Nat.lt_or_ge i.toNat l.length with h' | h'
      · exact h'
      · rw [List.getElem?_eq_none h'] at h; cases h
    exact⟨h0,by omega,h⟩
  · cases h

/-- How many elements a slice may come to have. -/
def room (n:Nat):Option Unit:=if n≤8589934592 then some () else none
theorem Q2m {n:Nat} {u:Unit} (h:room n=some u):n≤8589934592:=by
  unfold room at h
  split at h
  · assumption
  · cases h

def nz (x:Int):Option Unit:=if x=0 then none else some ()
theorem D3 {x:Int} {u:Unit} (h:nz x=some u):x ≠ 0:=by
  unfold nz at h
  split at h
  · cases h
  · assumption
def nn (x:Int):Option Unit:=if 0≤x then some () else none
theorem W5 {x:Int} {u:Unit} (h:nn x=some u):0≤x:=by
  unfold nn at h
  split at h
  · assumption
  · cases h

section plain
variable {K V:Type} [DecidableEq K]
/-- What a map holds at a key. -/
def Q3i:List (K×V)→K→Option V
  | [],_=>none
  | p::m,k=>if k=p.1 then some p.2 else Q3i m k
/-- A map with another value at a key; a new key stands behind all. -/
def Z2g:List (K×V)→K→V→List (K×V)
  | [],k,v => [(k,v)]
  | p::m,k,v=>if k=p.1 then (k,v)::m else p::Z2g m k v
/-- A map without a key. -/
def mDel:List (K×V)→K→List (K×V)
  | [],_ => []
  | p::m,k=>if k=p.1 then m else p::mDel m k

theorem mGet_set (m:List (K×V)) (k k' : K) (v:V):Q3i (Z2g m k v) k' = if k' = k then some v else Q3i m k' := by
  induction m with
  | nil=>simp [Z2g,Q3i]
  | cons p m ih =>
    simp only [Z2g]
    by_cases h:k=p.1
    · rw [if_pos h]
      simp only [Q3i]
      by_cases h2:k' = k
      · simp [h2]
      · have h3 : ¬ k' = p.1:=by rw [← h]; exact h2
        simp [h2,h3]
    · rw [if_neg h]
      simp only [Q3i,ih]
      by_cases h2:k' = p.1
      · rw [if_pos h2,if_neg (by rw [h2]; exact fun e=>h e.symm),if_pos h2]
      · rw [if_neg h2,if_neg h2]

theorem mGet_del (m:List (K×V)) (hn:(m.map (·.1)).Nodup) (k k' : K):Q3i (mDel m k) k' = if k' = k then none else Q3i m k' := by
  induction m with
  | nil=>simp [mDel,Q3i]
  | cons p m ih =>
    simp only [List.map_cons,List.nodup_cons] at hn
    simp only [mDel]
    by_cases h:k=p.1
    · rw [if_pos h]
      simp only [Q3i]
      by_cases h2:k' = k
      · rw [if_pos h2]
        have : ∀(l:List (K×V)),k' ∉ l.map (·.1)→Q3i l k' = none:=by
          intro l
          induction l with
          | nil=>intro _; rfl
          | cons q l ih2 =>
            intro hh
            simp only [List.map_cons,List.mem_cons,not_or] at hh
            simp only [Q3i,if_neg hh.1]
            exact ih2 hh.2
        exact this m (by rw [h2,h]; exact hn.1)
      · rw [if_neg h2,if_neg (by rw [← h]; exact h2)]
    · rw [if_neg h]
      simp only [Q3i,ih hn.2]
      by_cases h2:k' = p.1
      · rw [if_pos h2,if_neg (by rw [h2]; exact fun e=>h e.symm),if_pos h2]
      · rw [if_neg h2,if_neg h2]
end plain

/-- A part of a list, if there is one. -/
def sub {α : Type} (l:List α) (a b:Int):Option (List α):=if 0≤a∧a≤b∧b≤l.length then some ((l.take b.toNat).drop a.toNat) else none

theorem Q6q {α : Type} {l r:List α} {a b:Int} (h:sub l a b=some r):0≤a∧a≤b∧b≤l.length∧r=(l.take b.toNat).drop a.toNat:=by
  unfold sub at h
  split at h
  · rename_i h0
    exact⟨h0.1,h0.2.1,h0.2.2,(Option.some.inj h).symm⟩
  · cases h

/-- A new slice of zeros. -/
def Q3w {α : Type} (n:Int) (z : α):Option (List α):=if 0≤n∧n≤8589934592 then some (List.replicate n.toNat z) else none

/-- Maps that may be nil. -/
def mGetO {K V:Type} [DecidableEq K] (m:Option (List (K×V))) (k:K):Option V:=m.bind fun l=>Q3i l k
def mLenO {K V:Type} (m:Option (List (K×V))):Nat:=(m.getD []).length

/-- Bytes and strings. -/
def bytesStr (l:List Int):List UInt8:=l.map fun n=>UInt8.ofNat n.toNat
def strBytes (l:List UInt8):List Int:=l.map fun c=>(c.toNat:Int)

/-- What follows a call that may panic. -/
def exC {E O A:Type} (y:Except E O) (f:O→A) (g:E→A):A:=match y with
  | .ok x=>f x
  | .error e=>g e
theorem Z6q {E O A:Type} {x:O} {f:O→A} {g:E→A} {z:A} (h:exC (.ok x) f g=z):f x=z:=h
theorem Q5g {E O A:Type} {e:E} {f:O→A} {g:E→A} {z:A} (h:exC (.error e) f g=z):g e=z:=h

def ltOk (a:Int) (m:Nat):Option Unit:=if a < m then some () else none
theorem ltOk_some {a:Int} {m:Nat} {z:Unit} (h:ltOk a m=some z):a < m:=by
  unfold ltOk at h
  split at h
  · assumption
  · cases h
def J0 {α : Type} (l:List α) (n:Nat):Option Unit:=if l.length=n then some () else none
theorem Q8 {α : Type} {l:List α} {n:Nat} {z:Unit} (h:J0 l n=some z):l.length=n:=by
  unfold J0 at h
  split at h
  · assumption
  · cases h
/-- Nothing, something, or what is no longer asked for. -/
inductive O3 (α : Type) where
  | nil
  | dead
  | some (x : α)
def O3.get {α : Type} : O3 α → Option α
  | .some x=>Option.some x
  | _=>none
def O3.isNil {α : Type} : O3 α → Option Bool
  | .some _=>Option.some false
  | .nil=>Option.some true
  | .dead=>none
theorem O3.get_some {α : Type} {o:O3 α} {x : α} (h:o.get=Option.some x):o = .some x:=by
  cases o <;> simp [O3.get] at h
  rw [h]
end Go.Proofs.YtecakklofhfphaaGreatDoor
