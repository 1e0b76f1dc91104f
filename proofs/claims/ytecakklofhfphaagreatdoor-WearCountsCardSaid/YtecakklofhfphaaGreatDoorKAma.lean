/- An evaluator of programs, proved right for whatever the tape draws: values, memory, and the operations that look at it. It holds for every program. -/
import Derived.WalkKit
import Derived.RangeFuncRecord
import Derived.Laws.StructEq
set_option linter.unusedVariables false
namespace Go.Proofs.YtecakklofhfphaaGreatDoor.AMX
noncomputable section

inductive AV where
  | bool (b:Bool) | int (k:IntKind) (n:Int) | str (s:List UInt8)
  | ptr (id off:Nat) | nilp | sl (id off len cap sz:Nat) | nils
  | mp (id:Nat) | nilm | fn (f:FuncId) (cap:List AV) | bfn (f:FuncId) (first:List AV) | yld (l:Nat) | nilf
  | ifc (t:TypeId) (v:AV) | nili | agg (l:List AV) | tup (l:List AV)

/-! ## Trees of numbered things -/
inductive Tr (α : Type) where
  | nil
  | node (l:Tr α) (v:Option α) (r:Tr α)
variable {α : Type}
def Tr.get0:Tr α → Nat→Option α
  | .nil,_=>none
  | .node l v r,k=>match k with
    | 0=>v
    | k+1=>bif Nat.beq (k % 2) 0 then l.get0 (k / 2) else r.get0 (k / 2)
def Tr.setF0:Nat→Tr α → Nat→Option α → Tr α
  | 0,t,_,_=>t
  | f+1,t,k,x=>match t with
    | .nil=>match k with
      | 0 => .node .nil x .nil
      | k+1=>bif Nat.beq (k % 2) 0 then .node (Tr.setF0 f .nil (k / 2) x) none .nil else .node .nil none (Tr.setF0 f .nil (k / 2) x)
    | .node l v r=>match k with
      | 0 => .node l x r
      | k+1=>bif Nat.beq (k % 2) 0 then .node (Tr.setF0 f l (k / 2) x) v r else .node l v (Tr.setF0 f r (k / 2) x)

theorem Tr.get0_setF0 : ∀(f:Nat) (t:Tr α) (k:Nat) (x:Option α) (j:Nat),k < f→(Tr.setF0 f t k x).get0 j=if j=k then x else t.get0 j
  | 0,_,k,_,_,h=>by omega
  | f+1,t,k,x,j,h=>by
    have ih:=Tr.get0_setF0 f
    have hb : ∀ n,Nat.beq (n % 2) 0=decide (n % 2=0):=fun n=>by
      by_cases h:n % 2=0
      · simp [h]
      · rw [decide_eq_false h]; cases hq:Nat.beq (n % 2) 0 with
        | false=>rfl
        | true=>exact absurd (Nat.eq_of_beq_eq_true hq) h
    have hnil : ∀ n,(Tr.nil:Tr α).get0 n=none:=fun _=>rfl
    cases t with
    | nil=>cases k with
      | zero=>cases j with
        | zero=>rfl
        | succ j =>
          simp only [Tr.setF0,Tr.get0]
          cases Nat.beq (j % 2) 0 <;> simp
      | succ k =>
        simp only [Tr.setF0,hb]
        by_cases hk:k % 2=0
        · simp only [hk,decide_true,cond_true]
          cases j with
          | zero=>simp [Tr.get0]
          | succ j =>
            simp only [Tr.get0,hb]
            by_cases hj:j % 2=0
            · simp only [hj,decide_true,cond_true]
              rw [ih _ _ _ _ (by omega)]
              have:(j / 2=k / 2) ↔ (j+1=k+1):=by omega
              simp only [this,hnil]
            · simp only [hj,decide_false,cond_false]
              rw [if_neg (by omega)]
        · simp only [hk,decide_false,cond_false]
          cases j with
          | zero=>simp [Tr.get0]
          | succ j =>
            simp only [Tr.get0,hb]
            by_cases hj:j % 2=0
            · simp only [hj,decide_true,cond_true]
              rw [if_neg (by omega)]
            · simp only [hj,decide_false,cond_false]
              rw [ih _ _ _ _ (by omega)]
              have:(j / 2=k / 2) ↔ (j+1=k+1):=by omega
              simp only [this,hnil]
    | node l v r=>cases k with
      | zero=>cases j with
        | zero=>rfl
        | succ j=>simp [Tr.setF0,Tr.get0]
      | succ k =>
        simp only [Tr.setF0,hb]
        by_cases hk:k % 2=0
        · simp only [hk,decide_true,cond_true]
          cases j with
          | zero=>simp [Tr.get0]
          | succ j =>
            simp only [Tr.get0,hb]
            by_cases hj:j % 2=0
            · simp only [hj,decide_true,cond_true]
              rw [ih _ _ _ _ (by omega)]
              have:(j / 2=k / 2) ↔ (j+1=k+1):=by omega
              simp only [this]
            · simp only [hj,decide_false,cond_false]
              rw [if_neg (by omega)]
        · simp only [hk,decide_false,cond_false]
          cases j with
          | zero=>simp [Tr.get0]
          | succ j =>
            simp only [Tr.get0,hb]
            by_cases hj:j % 2=0
            · simp only [hj,decide_true,cond_true]
              rw [if_neg (by omega)]
            · simp only [hj,decide_false,cond_false]
              rw [ih _ _ _ _ (by omega)]
              have:(j / 2=k / 2) ↔ (j+1=k+1):=by omega
              simp only [this]
/-! The same by recursors: the kernel has less to unfold. -/
noncomputable def Tr.get (t:Tr α) (k:Nat):Option α := Tr.rec (motive:=fun _=>Nat→Option α) (fun _=>none)
  (fun _ v _ il ir k=>Nat.rec (motive:=fun _=>Option α) v (fun j _=>Bool.rec (motive:=fun _=>Option α) (ir (Nat.div j 2)) (il (Nat.div j 2)) (Nat.beq (Nat.mod j 2) 0)) k) t k
noncomputable def Tr.setR (x:Option α) (t:Tr α) (k:Nat):Tr α := Tr.rec (motive:=fun _=>Nat→Tr α) (fun k=>Tr.setF0 (k+1) .nil k x)
  (fun l v r il ir k=>Nat.rec (motive:=fun _=>Tr α) (.node l x r) (fun j _=>Bool.rec (motive:=fun _=>Tr α) (.node l v (ir (Nat.div j 2))) (.node (il (Nat.div j 2)) v r) (Nat.beq (Nat.mod j 2) 0)) k) t k
noncomputable def Tr.set (t:Tr α) (k:Nat) (x : α):Tr α := Tr.setR (some x) t k
noncomputable def Tr.del (t:Tr α) (k:Nat):Tr α := Tr.setR none t k
theorem Tr.get_eq (t:Tr α) : ∀ k,t.get k=t.get0 k:=by
  induction t with
  | nil=>intro k; rfl
  | node l v r il ir =>
    intro k
    cases k with
    | zero=>rfl
    | succ j =>
      show Bool.rec (motive:=fun _=>Option α) (r.get (Nat.div j 2)) (l.get (Nat.div j 2)) (Nat.beq (Nat.mod j 2) 0)=bif Nat.beq (j % 2) 0 then l.get0 (j / 2) else r.get0 (j / 2)
      rw [il,ir]
      show Bool.rec (motive:=fun _=>Option α) (r.get0 (j / 2)) (l.get0 (j / 2)) (Nat.beq (j % 2) 0)=_
      cases Nat.beq (j % 2) 0 <;> rfl
theorem Tr.get_setR (t:Tr α) (x:Option α) : ∀ k j,(t.setR x k).get j=if j=k then x else t.get j:=by
  have hb : ∀ n,Nat.beq (n % 2) 0=decide (n % 2=0):=fun n=>by
    by_cases h:n % 2=0
    · simp [h]
    · rw [decide_eq_false h]; cases hq:Nat.beq (n % 2) 0 with
      | false=>rfl
      | true=>exact absurd (Nat.eq_of_beq_eq_true hq) h
  have hg : ∀(l:Tr α) (v:Option α) (r:Tr α) (j:Nat),(Tr.node l v r).get (j+1)=if j % 2=0 then l.get (j / 2) else r.get (j / 2):=fun l v r j=>by
    show Bool.rec (motive:=fun _=>Option α) (r.get (j / 2)) (l.get (j / 2)) (Nat.beq (j % 2) 0)=_
    rw [hb]
    by_cases h:j % 2=0 <;> simp [h]
  induction t with
  | nil =>
    intro k j
    show(Tr.setF0 (k+1) .nil k x).get j=_
    rw [Tr.get_eq,Tr.get0_setF0 _ _ _ _ _ (by omega)]
    rfl
  | node l v r il ir =>
    intro k j
    cases k with
    | zero =>
      show(Tr.node l x r).get j=_
      cases j with
      | zero=>rfl
      | succ j=>rw [hg,hg,if_neg (show ¬ j+1=0 by omega)]
    | succ k =>
      have hs:(Tr.node l v r).setR x (k+1)=if k % 2=0 then .node (l.setR x (k / 2)) v r else .node l v (r.setR x (k / 2)):=by
        show Bool.rec (motive:=fun _=>Tr α) (.node l v (r.setR x (k / 2))) (.node (l.setR x (k / 2)) v r) (Nat.beq (k % 2) 0)=_
        rw [hb]
        by_cases h:k % 2=0 <;> simp [h]
      rw [hs]
      cases j with
      | zero=>by_cases h:k % 2=0 <;> simp only [h,if_true,if_false] <;> rfl
      | succ j =>
        by_cases h:k % 2=0 <;> simp only [h,if_true,if_false] <;> rw [hg,hg]
        · by_cases h2:j % 2=0
          · rw [if_pos h2,if_pos h2,il]
            have:(j / 2=k / 2) ↔ (j+1=k+1):=by omega
            simp only [this]
          · rw [if_neg h2,if_neg h2,if_neg (by omega)]
        · by_cases h2:j % 2=0
          · rw [if_pos h2,if_pos h2,if_neg (by omega)]
          · rw [if_neg h2,if_neg h2,ir]
            have:(j / 2=k / 2) ↔ (j+1=k+1):=by omega
            simp only [this]
theorem Tr.get_set (t:Tr α) (k:Nat) (x : α) (j:Nat):(t.set k x).get j=if j=k then some x else t.get j:=Tr.get_setR _ _ _ _
theorem Tr.get_del (t:Tr α) (k:Nat) (j:Nat):(t.del k).get j=if j=k then none else t.get j:=Tr.get_setR _ _ _ _

/-! ## Lists of cells -/
noncomputable def nth (l:List AV) (k:Nat):Option AV:=List.rec (motive:=fun _=>Nat→Option AV) (fun _=>none) (fun v _ ih k=>Nat.rec (motive:=fun _=>Option AV) (some v) (fun j _=>ih j) k) l k
noncomputable def Z2v (n:Nat) (l:List AV):List AV:=Nat.rec (motive:=fun _=>List AV→List AV) (fun l=>l) (fun _ ih l=>List.rec (motive:=fun _=>List AV) [] (fun _ r _=>ih r) l) n l
noncomputable def Q8m (n:Nat) (l:List AV):List AV:=Nat.rec (motive:=fun _=>List AV→List AV) (fun _ => []) (fun _ ih l=>List.rec (motive:=fun _=>List AV) [] (fun v r _=>v::ih r) l) n l
noncomputable def Q5l (l:List AV):Nat:=List.rec (motive:=fun _=>Nat) 0 (fun _ _ ih=>Nat.succ ih) l
noncomputable def over (c l:List AV):List AV:=List.rec (motive:=fun _=>List AV→List AV) (fun l=>l) (fun v _ ih l=>List.rec (motive:=fun _=>List AV) [] (fun _ l _=>v::ih l) l) c l
noncomputable def Q8v (n:Nat) (c l:List AV):List AV:=Nat.rec (motive:=fun _=>List AV→List AV) (fun l=>over c l) (fun _ ih l=>List.rec (motive:=fun _=>List AV) [] (fun v l _=>v::ih l) l) n l
theorem nth_cons (v:AV) (r:List AV) (k:Nat):nth (v::r) (k+1)=nth r k:=rfl
theorem Y0c (n:Nat) (v:AV) (r:List AV):Z2v (n+1) (v::r)=Z2v n r:=rfl
theorem Z9e (n:Nat) (v:AV) (r:List AV):Q8m (n+1) (v::r)=v::Q8m n r:=rfl
theorem Z9d (l:List AV):Q8m 0 l = []:=rfl
theorem Y2k (v:AV) (r:List AV):Q5l (v::r)=Q5l r+1:=rfl
theorem over_nil (l:List AV):over [] l=l:=rfl
theorem Q8a (v:AV) (r:List AV) (u:AV) (l:List AV):over (v::r) (u::l)=v::over r l:=rfl
theorem Z9p (c l:List AV):Q8v 0 c l=over c l:=rfl
theorem Q6b (n:Nat) (c:List AV) (u:AV) (l:List AV):Q8v (n+1) c (u::l)=u::Q8v n c l:=rfl
theorem Z2a (l:List AV) (k:Nat):nth l k=l[k]? := by
  induction l generalizing k with
  | nil=>rfl
  | cons v r ih=>cases k with
    | zero=>rfl
    | succ k=>simpa [nth_cons] using ih k
theorem Q4x (n:Nat) (l:List AV):Z2v n l=l.drop n:=by
  induction n generalizing l with
  | zero=>rfl
  | succ n ih=>cases l with
    | nil=>rfl
    | cons v r=>simpa [Y0c] using ih r
theorem Q4f (n:Nat) (l:List AV):Q8m n l=l.take n:=by
  induction n generalizing l with
  | zero=>simp [Z9d]
  | succ n ih=>cases l with
    | nil=>rfl
    | cons v r=>simpa [Z9e] using ih r
theorem N1 (l:List AV):Q5l l=l.length:=by
  induction l with
  | nil=>rfl
  | cons v r ih=>simp [Y2k,ih]
theorem over_len (c l:List AV):(over c l).length=l.length:=by
  induction c generalizing l with
  | nil=>rfl
  | cons v r ih=>cases l with
    | nil=>rfl
    | cons u l=>simp [Q8a,ih]
theorem over_get (c l:List AV) (h:c.length≤l.length) (j:Nat):(over c l)[j]? = if j < c.length then c[j]? else l[j]? := by
  induction c generalizing l j with
  | nil=>simp [over_nil]
  | cons v r ih=>cases l with
    | nil=>simp at h
    | cons u l=>cases j with
      | zero=>simp [Q8a]
      | succ j =>
        simp only [Q8a,List.getElem?_cons_succ,List.length_cons,Nat.add_lt_add_iff_right]
        exact ih l (by simpa using h) j
theorem Q7z (n:Nat) (c l:List AV):(Q8v n c l).length=l.length:=by
  induction n generalizing l with
  | zero=>exact over_len c l
  | succ n ih=>cases l with
    | nil=>rfl
    | cons u l=>simp [Q6b,ih]
theorem Q5c (n:Nat) (c l:List AV) (h:n+c.length≤l.length) (j:Nat):(Q8v n c l)[j]? = if n≤j∧j < n+c.length then c[j - n]? else l[j]? := by
  induction n generalizing l j with
  | zero=>rw [Z9p,over_get c l (by omega)]; simp
  | succ n ih=>cases l with
    | nil=>simp at h
    | cons u l=>cases j with
      | zero=>simp [Q6b]
      | succ j =>
        simp only [Q6b,List.getElem?_cons_succ]
        rw [ih l (by simp at h; omega)]
        by_cases hc:n≤j∧j < n+c.length
        · rw [if_pos hc,if_pos (by omega)]; congr 1; omega
        · rw [if_neg hc,if_neg (by omega)]

/-! ## Slots -/
inductive Sl where
  | nil
  | cons (d:Nat) (v:AV) (r:Sl)
def Sl.get (s:Sl) (t:Nat):Option AV:=Sl.rec (motive:=fun _=>Option AV) none (fun d v _ ih=>Bool.rec (motive:=fun _=>Option AV) ih (some v) (Nat.beq d t)) s
def V8:Nat:=1000000


/-! ## Objects -/
inductive X6 where
  | box (l:List AV)
  | arr (n sz:Nat) (t:Tr (List AV)) (z:List AV)
  | map (es:List (AV×AV×Nat)) (clock:Nat)
  | lp (n m:Nat) (ps:List Nat) (x y:Code) (s:Sl) (st:Nat) (p:Option Code)
  | df (c:Bool)
inductive Ro where
  | rw | ro | own (e:TypeId) | whole (e:TypeId)
def Ro.no:Ro→Bool
  | .ro=>true
  | _=>false
structure Ob where
  ver:Nat
  ro:Ro
  o:X6
structure Hp where
  next:Nat
  tr:Tr Ob

def el (t:Tr (List AV)) (z:List AV) (i:Nat):List AV:=match t.get i with
  | some l=>l
  | none=>z
def X6.n:X6→Nat
  | .box l=>l.length
  | .arr m sz _ _=>m * sz
  | _=>0
def X6.at (o:X6) (j:Nat):Option AV:=match o with
  | .box l=>l[j]?
  | .arr m sz t z=>if j < m * sz then (el t z (j / sz))[j % sz]? else none
  | _=>none
def X6.read (o:X6) (off n:Nat):Option (List AV):=match o with
  | .box l=>bif Nat.ble (off+n) (Q5l l) then some (Q8m n (Z2v off l)) else none
  | .arr m sz t z=>bif Nat.ble (off+n) (m * sz)&&Nat.ble (off % sz+n) sz then (match Q8m n (Z2v (off % sz) (el t z (off / sz))) with
    | l=>bif Nat.beq (Q5l l) n then some l else none) else none
  | _=>none
def X6.read1 (o:X6) (off:Nat):Option AV:=match o with
  | .box l=>nth l off
  | .arr m sz t z=>bif Nat.blt off (m * sz) then (bif Nat.beq sz 1 then nth (el t z off) 0 else nth (el t z (off / sz)) (off % sz)) else none
  | _=>none
def X6.write (o:X6) (off:Nat) (c:List AV):Option X6:=match o with
  | .box l=>bif Nat.ble (off+Q5l c) (Q5l l) then some (.box (Q8v off c l)) else none
  | .arr m sz t z=>bif Nat.blt off (m * sz)&&Nat.ble (off % sz+Q5l c) sz&&Nat.beq (Q5l (el t z (off / sz))) sz then some (.arr m sz (t.set (off / sz) (Q8v (off % sz) c (el t z (off / sz)))) z) else none
  | _=>none

theorem X0 {a b:Bool} (h:(a&&b)=true):a=true∧b=true:=by cases a <;> cases b <;> first | exact⟨rfl,rfl⟩ | cases h
theorem cN {α : Type} {b:Bool} {x:Option α} {y : α} (h:(bif b then x else none)=some y):b=true∧x=some y:=by cases b <;> first | exact⟨rfl,h⟩ | cases h

theorem el_set (t:Tr (List AV)) (z:List AV) (i:Nat) (l:List AV) (j:Nat):el (t.set i l) z j=if j=i then l else el t z j:=by
  unfold el
  rw [Tr.get_set]
  by_cases h:j=i
  · simp [h]
  · simp [h]

theorem X6.read1_at {o:X6} {off:Nat} {v:AV} (h:o.read1 off=some v):o.at off=some v∧off < o.n:=by
  cases o with
  | box l =>
    simp only [X6.read1,Z2a] at h
    exact⟨h,(List.getElem?_eq_some_iff.1 h).1⟩
  | arr m sz t z =>
    obtain⟨h1,h2⟩:=cN h
    have h1:off < m * sz:=Nat.le_of_ble_eq_true h1
    refine⟨?_,h1⟩
    simp only [X6.at,h1,if_true]
    cases hs:Nat.beq sz 1 with
    | true =>
      rw [hs] at h2
      have:=Nat.eq_of_beq_eq_true hs
      subst this
      simpa [Z2a,Nat.mod_one] using h2
    | false =>
      rw [hs] at h2
      simpa [Z2a] using h2
  | map es c=>cases h
  | lp _ _ _ _ _ _ _ _=>cases h
  | df _=>cases h
theorem X6.read_at {o:X6} {off n:Nat} {l:List AV} (h:o.read off n=some l):l.length=n∧off+n≤o.n ∧ ∀ i,i < n→o.at (off+i)=l[i]? := by
  cases o with
  | box m =>
    obtain⟨h1,h2⟩:=cN h
    have h1:=Nat.le_of_ble_eq_true h1
    rw [N1] at h1
    cases h2
    rw [Q4f,Q4x]
    refine⟨by simp; omega,h1,fun i hi => ?_⟩
    simp [X6.at,hi]
  | arr m sz t z =>
    obtain⟨h1,h2⟩:=cN h
    obtain⟨h1,h3⟩:=X0 h1
    have h1:=Nat.le_of_ble_eq_true h1
    have h3:=Nat.le_of_ble_eq_true h3
    obtain⟨h4,h5⟩:=cN h2
    have h4:=Nat.eq_of_beq_eq_true h4
    cases h5
    rw [N1] at h4
    refine⟨h4,h1,fun i hi => ?_⟩
    have hs:0 < sz:=by
      rcases Nat.eq_zero_or_pos sz with h | h
      · subst h; simp at h1; omega
      · exact h
    have e1:(off+i) / sz=off / sz:=by
      have:=Nat.div_add_mod off sz
      rw [show off+i=sz * (off / sz)+(off % sz+i) from by omega,Nat.mul_add_div hs,Nat.div_eq_of_lt (a:=off % sz+i) (by omega)]
      rfl
    have e2:(off+i) % sz=off % sz+i:=by
      have:=Nat.div_add_mod off sz
      rw [show off+i=sz * (off / sz)+(off % sz+i) from by omega,Nat.mul_add_mod,Nat.mod_eq_of_lt (by omega)]
    simp only [X6.at,show off+i < m * sz from by omega,if_true,e1,e2,Q4f,Q4x]
    simp [hi]
  | map es c=>cases h
  | lp _ _ _ _ _ _ _ _=>cases h
  | df _=>cases h
theorem X6.write_at {o o' : X6} {off:Nat} {c:List AV} (h:o.write off c=some o'):o'.n=o.n∧off+c.length≤o.n ∧ ∀ j,j < o.n→o'.at j=if off≤j∧j < off+c.length then c[j - off]? else o.at j:=by
  cases o with
  | box m =>
    obtain⟨h1,h2⟩:=cN h
    have h1:=Nat.le_of_ble_eq_true h1
    rw [N1,N1] at h1
    cases h2
    exact⟨by simp [X6.n,Q7z],h1,fun j hj=>by simp only [X6.at]; exact Q5c _ _ _ h1 j⟩
  | arr m sz t z =>
    obtain⟨h1,h2⟩:=cN h
    obtain⟨h1,h4⟩:=X0 h1
    obtain⟨h1,h3⟩:=X0 h1
    have h1:off < m * sz:=Nat.le_of_ble_eq_true h1
    have h3:=Nat.le_of_ble_eq_true h3
    have h4:=Nat.eq_of_beq_eq_true h4
    rw [N1] at h3 h4
    cases h2
    have hs:0 < sz:=by
      rcases Nat.eq_zero_or_pos sz with h | h
      · subst h; simp at h1
      · exact h
    have hdm:=Nat.div_add_mod off sz
    have hlt:off / sz < m:=Nat.div_lt_of_lt_mul (by rw [Nat.mul_comm]; exact h1)
    have hle:sz * (off / sz)+sz≤m * sz:=by
      have:=Nat.mul_le_mul_left sz (show off / sz+1≤m from hlt)
      rw [Nat.mul_add,Nat.mul_one,Nat.mul_comm sz m] at this
      exact this
    refine⟨rfl,by simp only [X6.n]; omega,fun j hj => ?_⟩
    simp only [X6.n] at hj
    simp only [X6.at,hj,if_true,el_set]
    have hjd:=Nat.div_add_mod j sz
    have hjm:=Nat.mod_lt j hs
    by_cases he:j / sz=off / sz
    · rw [if_pos he,Q5c _ _ _ (by omega)]
      rw [he] at hjd
      by_cases hc:off≤j∧j < off+c.length
      · rw [if_pos hc,if_pos (by omega)]
        congr 1
        omega
      · rw [if_neg hc,if_neg (by omega),he]
    · rw [if_neg he]
      by_cases hc:off≤j∧j < off+c.length
      · exfalso
        apply he
        have:j=sz * (off / sz)+(off % sz+(j - off)):=by omega
        rw [this,Nat.mul_add_div hs,Nat.div_eq_of_lt (a:=off % sz+(j - off)) (by omega)]
        rfl
      · rw [if_neg hc]
  | map es c=>cases h
  | lp _ _ _ _ _ _ _ _=>cases h
  | df _=>cases h
end
end Go.Proofs.YtecakklofhfphaaGreatDoor.AMX
namespace Go.Proofs.YtecakklofhfphaaGreatDoor.AMX
noncomputable section

structure Q where
  b:Nat
  base:Nat
  size:Nat
abbrev Mp:=Nat→Option Q
def Le (φ φ' : Mp):Prop := ∀ i q,φ i=some q → φ' i=some q
theorem Le.refl {φ : Mp} : Le φ φ := fun _ _ h=>h
theorem Le.trans {a b c:Mp} (h:Le a b) (k:Le b c):Le a c:=fun i q hq=>k i q (h i q hq)
def Mp.set (φ : Mp) (i:Nat) (q:Q):Mp:=fun j=>if j=i then some q else φ j

def AV.one:AV→Bool
  | .agg _=>false
  | .tup _=>false
  | _=>true
def U4:List AV→Bool
  | []=>true
  | v::r=>bif v.one then U4 r else false
mutual
def VR (φ : Mp):AV→Value→Prop
  | .bool b,v=>v = .bool b
  | .int k n,v=>v = .int k n
  | .str s,v=>v = .string ⟨s.toArray⟩
  | .ptr id off,v => ∃ q,φ id=some q∧v = .pointer (some ⟨q.b,q.base+off,none⟩)
  | .nilp,v=>v = .pointer none
  | .sl id off len cap sz,v => ∃ q c o,φ id=some q∧v = .slice (some ⟨q.b,o,none⟩) len c∧(len ≠ 0 ∨ cap ≠ 0→o=q.base+off)∧len≤c∧(cap ≠ 0→c=cap)∧o+c * sz≤q.size
  | .nils,v=>v = .slice none 0 0
  | .mp id,v => ∃ q,φ id=some q∧v = .map (some q.b)
  | .nilm,v=>v = .map none
  | .fn f cap,v => ∃ cs,v = .func (.func f) #[] cs∧VRs φ cap cs.toList
  | .bfn f fi,v => ∃ cs,v = .func (.func f) cs #[]∧VRs φ fi cs.toList
  | .yld l,v => ∃ q,φ l=some q∧v = .func (.yield q.b) #[] #[]
  | .nilf,v=>v = .nilFunc
  | .ifc t x,v => ∃ u,v = .iface t u∧VR φ x u
  | .nili,v=>v = .nilIface
  | .agg l,v => ∃ cs,v = .agg cs∧VRs φ l cs.toList∧U4 l=true
  | .tup l,v => ∃ cs,v = .tuple cs∧VRs φ l cs.toList
def VRs (φ : Mp):List AV→List Value→Prop
  | [],vs=>vs = []
  | a::l,vs => ∃ v r,vs=v::r∧VR φ a v∧VRs φ l r
end

mutual
theorem VR.mono {φ φ' : Mp} (h:Le φ φ') : ∀(a:AV) (v:Value),VR φ a v→VR φ' a v
  | .bool b,v=>by simp only [VR]; exact id
  | .int k n,v=>by simp only [VR]; exact id
  | .str s,v=>by simp only [VR]; exact id
  | .ptr i o,v=>by simp only [VR]; exact fun⟨q,h1,h2⟩=>⟨q,h _ _ h1,h2⟩
  | .nilp,v=>by simp only [VR]; exact id
  | .sl i o n c z,v=>by simp only [VR]; exact fun⟨q,c,o,h1,h2⟩=>⟨q,c,o,h _ _ h1,h2⟩
  | .nils,v=>by simp only [VR]; exact id
  | .mp i,v=>by simp only [VR]; exact fun⟨q,h1,h2⟩=>⟨q,h _ _ h1,h2⟩
  | .nilm,v=>by simp only [VR]; exact id
  | .fn f cap,v=>by simp only [VR]; exact fun⟨cs,h1,h2⟩=>⟨cs,h1,VRs.mono h cap _ h2⟩
  | .bfn f fi,v=>by simp only [VR]; exact fun⟨cs,h1,h2⟩=>⟨cs,h1,VRs.mono h fi _ h2⟩
  | .yld l,v=>by simp only [VR]; exact fun⟨q,h1,h2⟩=>⟨q,h _ _ h1,h2⟩
  | .nilf,v=>by simp only [VR]; exact id
  | .ifc t x,v=>by simp only [VR]; exact fun⟨u,h1,h2⟩=>⟨u,h1,VR.mono h x _ h2⟩
  | .nili,v=>by simp only [VR]; exact id
  | .agg l,v=>by simp only [VR]; exact fun⟨cs,h1,h2,h3⟩=>⟨cs,h1,VRs.mono h l _ h2,h3⟩
  | .tup l,v=>by simp only [VR]; exact fun⟨cs,h1,h2⟩=>⟨cs,h1,VRs.mono h l _ h2⟩
theorem VRs.mono {φ φ' : Mp} (h:Le φ φ') : ∀(l:List AV) (vs:List Value),VRs φ l vs→VRs φ' l vs
  | [],vs=>by simp only [VRs]; exact id
  | a::l,vs=>by simp only [VRs]; exact fun⟨v,r,h1,h2,h3⟩=>⟨v,r,h1,VR.mono h a v h2,VRs.mono h l r h3⟩
end

variable {φ φ' φ'' : Mp}
theorem VRs.len : ∀ {l:List AV} {vs:List Value},VRs φ l vs→vs.length=l.length
  | [],vs,h=>by simp only [VRs] at h; simp [h]
  | a::l,vs,h=>by
    simp only [VRs] at h
    obtain⟨v,r,rfl,_,h⟩:=h
    simp [VRs.len h]
theorem VRs.get : ∀ {l:List AV} {vs:List Value},VRs φ l vs → ∀ {i:Nat} {a:AV},l[i]? = some a → ∃ v,vs[i]? = some v∧VR φ a v
  | [],vs,h,i,a,ha=>by simp at ha
  | b::l,vs,h,i,a,ha=>by
    simp only [VRs] at h
    obtain⟨v,r,rfl,h1,h⟩:=h
    cases i with
    | zero=>simp at ha; subst ha; exact⟨v,rfl,h1⟩
    | succ i=>simpa using VRs.get h (i:=i) (a:=a) (by simpa using ha)
theorem VRs.of : ∀ {l:List AV} {vs:List Value},vs.length=l.length→(∀(i:Nat) (a:AV) (v:Value),l[i]? = some a→vs[i]? = some v→VR φ a v)→VRs φ l vs
  | [],vs,h,_=>by simp only [VRs]; simpa using h
  | a::l,[],h,_=>by simp at h
  | a::l,v::vs,h,hx=>by
    simp only [VRs]
    exact⟨v,vs,rfl,hx 0 a v rfl rfl,VRs.of (by simpa using h) fun i a v h1 h2=>hx (i+1) a v (by simpa using h1) (by simpa using h2)⟩
theorem VRs.append {l m:List AV} {vs us:List Value} (h:VRs φ l vs) (k:VRs φ m us):VRs φ (l++m) (vs++us):=by
  refine VRs.of (by simp [h.len,k.len]) fun i a v h1 h2 => ?_
  rcases Nat.lt_or_ge i l.length with hi | hi
  · rw [List.getElem?_append_left hi] at h1
    rw [List.getElem?_append_left (by rw [h.len]; exact hi)] at h2
    obtain⟨v',h3,h4⟩:=h.get h1
    rw [h3] at h2; cases h2; exact h4
  · rw [List.getElem?_append_right hi] at h1
    rw [List.getElem?_append_right (by rw [h.len]; exact hi),h.len] at h2
    obtain⟨v',h3,h4⟩:=k.get h1
    rw [h3] at h2; cases h2; exact h4
theorem VRs.sub {l:List AV} {vs:List Value} (h:VRs φ l vs) (o n:Nat):VRs φ ((l.drop o).take n) ((vs.drop o).take n):=by
  refine VRs.of (by simp [h.len]) fun i a v h1 h2 => ?_
  rw [List.getElem?_take] at h1 h2
  split at h1
  · rename_i hi
    rw [if_pos hi,List.getElem?_drop] at h2
    rw [List.getElem?_drop] at h1
    obtain⟨v',h3,h4⟩:=h.get h1
    rw [h3] at h2; cases h2; exact h4
  · cases h1

theorem U8 : ∀ {l:List AV},U4 l=true → ∀ {i:Nat} {a:AV},l[i]? = some a→a.one=true
  | [],_,i,a,h=>by simp at h
  | b::l,h1,i,a,h=>by
    cases hb:b.one with
    | false=>simp only [U4,hb,cond_false] at h1; cases h1
    | true =>
      simp only [U4,hb,cond_true] at h1
      cases i with
      | zero=>simp at h; subst h; exact hb
      | succ i=>exact U8 h1 (i:=i) (by simpa using h)
theorem P9 : ∀ {l:List AV},(∀(i:Nat) (a:AV),l[i]? = some a→a.one=true)→U4 l=true
  | [],_=>rfl
  | b::l,h=>by
    have:=h 0 b rfl
    simp only [U4,this,cond_true]
    exact P9 fun i a hi=>h (i+1) a (by simpa using hi)
theorem Y0u {a:AV} {v:Value} (h:VR φ a v) (h1:a.one=true):v.oneCell' = true:=by
  cases a <;> simp only [VR] at h <;> first | (cases h1; done) | skip
  all_goals first
    | (subst h; rfl)
    | (obtain⟨q,_,rfl⟩:=h; rfl)
    | (obtain⟨q,c,o,_,rfl,_⟩:=h; rfl)
    | (obtain⟨u,rfl,_⟩:=h; rfl)
theorem Z6d {l:List AV} {vs:List Value} (h:VRs φ l vs) (h1:U4 l=true) : ∀ v ∈ vs,v.oneCell' = true:=by
  intro v hv
  obtain⟨i,hi,rfl⟩:=List.getElem_of_mem hv
  have hl:i < l.length:=by rw [← h.len]; exact hi
  obtain⟨v',h2,h3⟩:=h.get (i:=i) (List.getElem?_eq_getElem hl)
  rw [List.getElem?_eq_getElem hi] at h2
  cases h2
  exact Y0u h3 (U8 h1 (List.getElem?_eq_getElem hl))
def AV.cells:AV→List AV
  | .agg l=>l
  | v => [v]
def AV.lone:AV→Bool
  | .tup _=>false
  | _=>true
theorem C8 {a:AV} {v:Value} (h:VR φ a v) (h1:a.lone=true):VRs φ a.cells v.cells.toList∧U4 a.cells=true:=by
  have key:a.one=true→VRs φ [a] v.cells.toList∧U4 [a]=true:=by
    intro ho
    have hv:v.cells = #[v]:=by
      have:=Y0u h ho
      cases v <;> first | rfl | cases this
    exact⟨by simp only [VRs,hv]; exact⟨v,[],rfl,h,rfl⟩,by simp [U4,ho]⟩
  cases a <;> first | (cases h1; done) | exact key rfl | skip
  simp only [VR] at h
  obtain⟨cs,rfl,h2,h3⟩:=h
  exact⟨h2,h3⟩

/-! ## Memory -/
structure Wv (B:Nat→Prop) (w w' : World):Prop where
  os:w'.os=w.os
  tape:w'.tape=w.tape
  output:w'.output=w.output
  size:w.heap.size≤w'.heap.size
  same : ∀ k,B k→w'.heap[k]? = w.heap[k]?
variable {B:Nat→Prop} {w w' w'' : World} {h h' h'' : Hp}
theorem Wv.refl:Wv B w w:=⟨rfl,rfl,rfl,Nat.le_refl _,fun _ _=>rfl⟩
theorem Wv.trans (a:Wv B w w') (b:Wv B w' w''):Wv B w w'' := ⟨b.os.trans a.os,b.tape.trans a.tape,b.output.trans a.output,Nat.le_trans a.size b.size,fun k hk=>(b.same k hk).trans (a.same k hk)⟩
theorem Wv.drew:Wv B w w.drew:=⟨rfl,rfl,rfl,Nat.le_refl _,fun _ _=>rfl⟩
theorem Wv.alloc (hB : ∀ k,B k→k < w.heap.size) (o:Obj):Wv B w (w.alloc o):=⟨rfl,rfl,rfl,by simp,fun k hk=>heap_alloc_old w o (hB k hk)⟩
theorem Wv.row (g:Nat) (cs:Array Value) (hg : ¬ B g):Wv B w (w.setRow g cs):=⟨rfl,rfl,rfl,by simp,fun k hk=>setRow_other w g k cs (fun he=>hg (he ▸ hk))⟩
theorem Wv.obj (g:Nat) (o:Obj) (hg : ¬ B g):Wv B w (w.putObj g o):=⟨rfl,rfl,rfl,by simp,fun k hk=>World.putObj_heap_other (fun he=>hg (he ▸ hk))⟩

structure Br where
  k:Nat→Prop
  I:World→Prop
  keep : ∀ w w' : World,Wv k w w' → I w→I w'
instance : CoeFun Br (fun _=>Nat→Prop):=⟨Br.k⟩
instance : Coe Br (Nat→Prop):=⟨Br.k⟩
variable {B:Br}
def MRs (φ : Mp):List (AV×AV×Nat)→List MapEntry→Prop
  | [],es=>es = []
  | a::l,es => ∃ e r,es=e::r∧VR φ a.1 e.key∧VR φ a.2.1 e.val∧e.born=a.2.2∧MRs φ l r
theorem MRs.mono (h:Le φ φ') : ∀ {l:List (AV×AV×Nat)} {es:List MapEntry},MRs φ l es→MRs φ' l es
  | [],es,hh=>hh
  | a::l,es,⟨e,r,h1,h2,h3,h4,h5⟩=>⟨e,r,h1,VR.mono h _ _ h2,VR.mono h _ _ h3,h4,MRs.mono h h5⟩
def Q7n (rx:Ro) (q:Q) (n:Nat) (e:TypeId) (fr:Nat×Nat):Prop:=match rx with
  | .rw=>fr=(0,0)
  | .ro=>True
  | .own t=>fr=(0,0)∧e=t∧q.base=0
  | .whole t=>fr=(0,0)∧e=t∧q.base=0∧q.size=n
theorem Q7n.fr {rx:Ro} {q:Q} {n:Nat} {e:TypeId} {fr:Nat×Nat} (h:Q7n rx q n e fr) (hn:rx.no=false):fr=(0,0):=by
  cases rx with
  | rw=>exact h
  | ro=>cases hn
  | own t=>exact h.1
  | whole t=>exact h.1
def OR (φ : Mp) (q:Q) (rx:Ro) (o:X6) (ob:Option Obj):Prop:=match o with
  | .map es c => ∃ es',ob=some (.map es' c)∧MRs φ es es'.toList
  | .box l => ∃ c e fr,ob=some (.cells c e fr)∧Q7n rx q l.length e fr∧c.size=q.size∧q.base+l.length≤q.size ∧
      ∀ j,j < l.length → ∃ a x,l[j]? = some a∧c[q.base+j]? = some x∧VR φ a x∧a.one=true
  | .arr m sz t z => ∃ c e fr,ob=some (.cells c e fr)∧Q7n rx q (m * sz) e fr∧c.size=q.size∧q.base+m * sz≤q.size ∧
      ∀ j,j < m * sz → ∃ a x,(X6.arr m sz t z).at j=some a∧c[q.base+j]? = some x∧VR φ a x∧a.one=true
  | .lp n m ps x y s st p => ∃ r:Loop,ob=some (.loop r)∧r.params.toList=ps∧r.assign=x∧r.body=y∧n≤r.tmps.size∧(∀ t v,t ≠ V8→s.get t=some v→VR φ v (r.tmps.getD t undef))∧r.pending=p ∧
      (st=0→r.state = .ready)∧(st=1→r.state = .busy)∧(st=2→r.state = .done)
  | .df c=>ob=some (.deferred (if c then some [] else none))
def X6.cel:X6→Bool
  | .box _=>true
  | .arr _ _ _ _=>true
  | _=>false
theorem OR.cells {q:Q} {rx:Ro} {o:X6} {ob:Option Obj} (hc:o.cel=true):OR φ q rx o ob ↔ ∃ c e fr,ob=some (.cells c e fr)∧Q7n rx q o.n e fr∧c.size=q.size∧q.base+o.n≤q.size ∧
      ∀ j,j < o.n → ∃ a x,o.at j=some a∧c[q.base+j]? = some x∧VR φ a x∧a.one=true:=by
  cases o with
  | map _ _=>cases hc
  | lp _ _ _ _ _ _ _ _=>cases hc
  | df _=>cases hc
  | box l=>exact Iff.rfl
  | arr m sz t z=>exact Iff.rfl
theorem OR.mono (h:Le φ φ') {q:Q} {rx:Ro} {o:X6} {ob:Option Obj} (hh:OR φ q rx o ob):OR φ' q rx o ob:=by
  cases o with
  | map es c=>obtain⟨es',h1,h2⟩:=hh; exact⟨es',h1,h2.mono h⟩
  | lp n m ps x y s st p =>
    obtain⟨r,h1,h2,h3,h4,h5,h6,h7⟩:=hh
    exact⟨r,h1,h2,h3,h4,h5,fun t v ht hv=>VR.mono h _ _ (h6 t v ht hv),h7⟩
  | df c=>exact hh
  | box l=>obtain⟨c,e,fr,h1,h2,h3,h4,h6⟩:=hh; exact⟨c,e,fr,h1,h2,h3,h4,fun j hj=>let ⟨a,x,k1,k2,k3,k4⟩:=h6 j hj; ⟨a,x,k1,k2,VR.mono h _ _ k3,k4⟩⟩
  | arr m sz t z=>obtain⟨c,e,fr,h1,h2,h3,h4,h6⟩:=hh; exact⟨c,e,fr,h1,h2,h3,h4,fun j hj=>let ⟨a,x,k1,k2,k3,k4⟩:=h6 j hj; ⟨a,x,k1,k2,VR.mono h _ _ k3,k4⟩⟩

structure HR (B:Br) (φ : Mp) (h:Hp) (w:World):Prop where
  next : ∀ i q,φ i=some q→i < h.next
  bd : ∀ i ob,h.tr.get i=some ob→i < h.next
  obj : ∀ i ob q,h.tr.get i=some ob → φ i=some q → ¬ B q.b∧OR φ q ob.ro ob.o w.heap[q.b]?
  inj : ∀ i j oi oj qi qj,h.tr.get i=some oi→h.tr.get j=some oj → φ i=some qi → φ j=some qj→qi.b=qj.b→i=j
  le : ∀ k,B k→k < w.heap.size
  inv:B.I w
structure Ev (B:Br) (φ : Mp) (h:Hp) (w:World) (φ' : Mp) (h' : Hp) (w' : World):Prop where
  wv:Wv B w w'
  le:Le φ φ'
  nx:h.next≤h'.next
  old : ∀ i,i < h.next → φ' i = φ i
  back : ∀ i ob',i < h.next→h'.tr.get i=some ob' → ∃ ob,h.tr.get i=some ob∧ob.ver≤ob'.ver∧(ob.ver=ob'.ver→ob' = ob ∧ ∀ q,φ i=some q→w'.heap[q.b]? = w.heap[q.b]?)
theorem Ev.refl:Ev B φ h w φ h w:=⟨.refl,.refl,Nat.le_refl _,fun _ _=>rfl,fun i ob' _ hi=>⟨ob',hi,Nat.le_refl _,fun _=>⟨rfl,fun _ _=>rfl⟩⟩⟩
theorem Ev.trans (a:Ev B φ h w φ' h' w') (b:Ev B φ' h' w' φ'' h'' w''):Ev B φ h w φ'' h'' w'' := by
  refine⟨a.wv.trans b.wv,a.le.trans b.le,Nat.le_trans a.nx b.nx,fun i hi=>(b.old i (Nat.lt_of_lt_of_le hi a.nx)).trans (a.old i hi),fun i o2 hi h2 => ?_⟩
  obtain⟨o1,h1,l1,e1⟩:=b.back i o2 (Nat.lt_of_lt_of_le hi a.nx) h2
  obtain⟨o0,h0,l0,e0⟩:=a.back i o1 hi h1
  refine⟨o0,h0,Nat.le_trans l0 l1,fun he=>⟨((e1 (by omega)).1).trans ((e0 (by omega)).1),fun q hq => ?_⟩⟩
  exact((e1 (by omega)).2 q (a.le i q hq)).trans ((e0 (by omega)).2 q hq)
theorem Ev.drew:Ev B φ h w φ h w.drew:=⟨.drew,.refl,Nat.le_refl _,fun _ _=>rfl,fun i ob' _ hi=>⟨ob',hi,Nat.le_refl _,fun _=>⟨rfl,fun _ _=>rfl⟩⟩⟩
theorem HR.drew (H:HR B φ h w):HR B φ h w.drew:=⟨H.next,H.bd,H.obj,H.inj,H.le,B.keep _ _ .drew H.inv⟩
theorem HR.ob (H:HR B φ h w) (i:Nat) (ob:Ob) (hi:h.tr.get i=some ob) {q:Q} (hq : φ i=some q) : ∃ q,φ i=some q ∧ ¬ B q.b∧OR φ q ob.ro ob.o w.heap[q.b]? := ⟨q,hq,H.obj i ob q hi hq⟩
theorem OR.lt {q:Q} {rx:Ro} {o:X6} (hh:OR φ q rx o w.heap[q.b]?):q.b < w.heap.size:=by
  have : ∃ ob,w.heap[q.b]? = some ob:=by
    cases o with
    | map es c=>obtain⟨es',h1,_⟩:=hh; exact⟨_,h1⟩
    | lp n m ps x y s st p=>obtain⟨r,h1,_⟩:=hh; exact⟨_,h1⟩
    | df c=>exact⟨_,hh⟩
    | box l=>obtain⟨c,e,fr,h1,_⟩:=hh; exact⟨_,h1⟩
    | arr m sz t z=>obtain⟨c,e,fr,h1,_⟩:=hh; exact⟨_,h1⟩
  obtain⟨ob,h1⟩:=this
  exact(Array.getElem?_eq_some_iff.1 h1).1

def P3 (h:Hp) (rx:Ro) (o:X6):Hp:=⟨h.next+1,h.tr.set h.next ⟨0,rx,o⟩⟩
theorem HR.new (H:HR B φ h w) {o:X6} {rx:Ro} {ob:Obj} {sz:Nat} (ho : ∀ φ',Le φ φ' → OR φ' ⟨w.heap.size,0,sz⟩ rx o (some ob)) :
    HR B (φ.set h.next ⟨w.heap.size,0,sz⟩) (P3 h rx o) (w.alloc ob)∧Ev B φ h w (φ.set h.next ⟨w.heap.size,0,sz⟩) (P3 h rx o) (w.alloc ob):=by
  have hle:Le φ (φ.set h.next ⟨w.heap.size,0,sz⟩):=by
    intro i q hq
    have:=H.next i q hq
    simp only [Mp.set]
    rw [if_neg (by omega)]
    exact hq
  have hget : ∀ i ob',(P3 h rx o).tr.get i=some ob' → (i=h.next∧ob' = ⟨0,rx,o⟩) ∨ (i ≠ h.next∧h.tr.get i=some ob'):=by
    intro i ob' hi
    simp only [P3,Tr.get_set] at hi
    split at hi
    · rename_i he; cases hi; exact .inl ⟨he,rfl⟩
    · rename_i he; exact .inr ⟨he,hi⟩
  refine⟨⟨?_,?_,?_,?_,?_,B.keep _ _ (Wv.alloc H.le _) H.inv⟩,⟨Wv.alloc H.le _,hle,Nat.le_succ _,fun i hi=>by simp only [Mp.set]; rw [if_neg (by omega)],?_⟩⟩
  · intro i q hq
    simp only [Mp.set] at hq
    split at hq
    · rename_i he; subst he; exact Nat.lt_succ_self _
    · exact Nat.lt_succ_of_lt (H.next i q hq)
  · intro i ob' hi
    rcases hget i ob' hi with ⟨rfl,rfl⟩ | ⟨hne,hi⟩
    · exact Nat.lt_succ_self _
    · exact Nat.lt_succ_of_lt (H.bd i ob' hi)
  · intro i ob' q hi hq
    rcases hget i ob' hi with ⟨rfl,rfl⟩ | ⟨hne,hi⟩
    · simp only [Mp.set,if_true] at hq; cases hq
      refine⟨fun hb=>Nat.lt_irrefl _ (H.le _ hb),?_⟩
      have:=heap_alloc_new w ob
      simp only at this ⊢
      rw [this]
      exact ho _ hle
    · simp only [Mp.set] at hq
      rw [if_neg hne] at hq
      obtain⟨h2,h3⟩:=H.obj i ob' q hi hq
      refine⟨h2,?_⟩
      rw [heap_alloc_old w ob h3.lt]
      exact h3.mono hle
  · intro i j oi oj qi qj hi hj pi pj he
    have hb : ∀ k ok qk,h.tr.get k=some ok → φ k=some qk→qk.b < w.heap.size:=fun k ok qk hk hq=>by
      exact(H.obj k ok qk hk hq).2.lt
    simp only [Mp.set] at pi pj
    rcases hget i oi hi with ⟨rfl,_⟩ | ⟨hni,hi⟩ <;> rcases hget j oj hj with ⟨rfl,_⟩ | ⟨hnj,hj⟩
    · rfl
    · rw [if_pos rfl] at pi; cases pi
      rw [if_neg hnj] at pj
      have:=hb j oj qj hj pj
      simp only at he; omega
    · rw [if_pos rfl] at pj; cases pj
      rw [if_neg hni] at pi
      have:=hb i oi qi hi pi
      simp only at he; omega
    · rw [if_neg hni] at pi; rw [if_neg hnj] at pj
      exact H.inj i j oi oj qi qj hi hj pi pj he
  · intro k hk; have:=H.le k hk; simp; omega
  · intro i ob' hi hg
    rcases hget i ob' hg with ⟨rfl,_⟩ | ⟨hne,hg⟩
    · omega
    · exact⟨ob',hg,Nat.le_refl _,fun _=>⟨rfl,fun q hq=>heap_alloc_old w ob (H.obj i ob' q hg hq).2.lt⟩⟩

theorem HR.turnR (H:HR B φ h w) {id:Nat} {ob:Ob} {q:Q} (rx:Ro) {o' : X6} (hi:h.tr.get id=some ob) (hq : φ id=some q) (hw:Wv B w w') (hs : ∀ k,k ≠ q.b→w'.heap[k]? = w.heap[k]?) (ho:OR φ q rx o' w'.heap[q.b]?) :
    HR B φ ⟨h.next,h.tr.set id ⟨ob.ver+1,rx,o'⟩⟩ w' ∧ Ev B φ h w φ ⟨h.next,h.tr.set id ⟨ob.ver+1,rx,o'⟩⟩ w' := by
  have hget : ∀ i ob',(h.tr.set id ⟨ob.ver+1,rx,o'⟩).get i=some ob' → (i=id∧ob' = ⟨ob.ver+1,rx,o'⟩) ∨ (i ≠ id∧h.tr.get i=some ob'):=by
    intro i ob' hi
    simp only [Tr.get_set] at hi
    split at hi
    · rename_i he; cases hi; exact .inl ⟨he,rfl⟩
    · rename_i he; exact .inr ⟨he,hi⟩
  have hlive : ∀ i ob',(h.tr.set id ⟨ob.ver+1,rx,o'⟩).get i=some ob' → ∃ ob0,h.tr.get i=some ob0:=by
    intro i ob' hg
    rcases hget i ob' hg with ⟨rfl,_⟩ | ⟨_,hg⟩
    · exact⟨_,hi⟩
    · exact⟨_,hg⟩
  refine⟨⟨H.next,fun i ob' hg => ?_,?_,?_,fun k hk=>Nat.lt_of_lt_of_le (H.le k hk) hw.size,B.keep _ _ hw H.inv⟩,⟨hw,.refl,Nat.le_refl _,fun _ _=>rfl,?_⟩⟩
  · obtain⟨ob0,hg⟩:=hlive i ob' hg
    exact H.bd i ob0 hg
  · intro i ob' q' hg h1
    rcases hget i ob' hg with ⟨rfl,rfl⟩ | ⟨hne,hg⟩
    · rw [hq] at h1; cases h1
      exact⟨(H.obj i ob q hi hq).1,ho⟩
    · obtain⟨h2,h3⟩:=H.obj i ob' q' hg h1
      refine⟨h2,?_⟩
      rw [hs _ fun he=>hne (H.inj i id ob' ob q' q hg hi h1 hq he)]
      exact h3
  · intro i j oi oj qi qj h1 h2
    obtain⟨a,h1⟩:=hlive i oi h1
    obtain⟨b,h2⟩:=hlive j oj h2
    exact H.inj i j a b qi qj h1 h2
  · intro i ob' _ hg
    rcases hget i ob' hg with ⟨rfl,rfl⟩ | ⟨hne,hg⟩
    · exact⟨ob,hi,Nat.le_succ _,fun he=>by simp at he⟩
    · refine⟨ob',hg,Nat.le_refl _,fun _=>⟨rfl,fun q' hq' => ?_⟩⟩
      exact hs _ fun he=>hne (H.inj i id ob' ob q' q hg hi hq' hq he)
theorem HR.turn (H:HR B φ h w) {id:Nat} {ob:Ob} {q:Q} {o' : X6} (hi:h.tr.get id=some ob) (hq : φ id=some q) (hw:Wv B w w') (hs : ∀ k,k ≠ q.b→w'.heap[k]? = w.heap[k]?) (ho:OR φ q ob.ro o' w'.heap[q.b]?) :
    HR B φ ⟨h.next,h.tr.set id ⟨ob.ver+1,ob.ro,o'⟩⟩ w' ∧ Ev B φ h w φ ⟨h.next,h.tr.set id ⟨ob.ver+1,ob.ro,o'⟩⟩ w' := H.turnR ob.ro hi hq hw hs ho

theorem HR.read1 (H:HR B φ h w) {id off:Nat} {ob:Ob} {v:AV} {q0:Q} (hq0 : φ id=some q0) (hi:h.tr.get id=some ob) (hv:ob.o.read1 off=some v) :
    ∃ q x,φ id=some q∧VR φ v x∧v.one=true ∧ ∀ w' : World,w'.heap[q.b]? = w.heap[q.b]? → w'.cell? ⟨q.b,q.base+off,none⟩=some x:=by
  obtain⟨q,h1,h2,h3⟩:=H.ob id ob hi hq0
  obtain⟨h4,h5⟩:=X6.read1_at hv
  have hc:ob.o.cel=true:=by cases ho:ob.o <;> rw [ho] at hv <;> first | rfl | cases hv
  obtain⟨c,e,fr,k1,k2,k3,k4,k6⟩:=(OR.cells hc).1 h3
  obtain⟨a,x,l1,l2,l3,l4⟩:=k6 off h5
  rw [h4] at l1; cases l1
  refine⟨q,x,h1,l3,l4,fun w' hw => ?_⟩
  simp [World.cell?,hw,k1,l2]
theorem HR.read (H:HR B φ h w) {id off n:Nat} {ob:Ob} {l:List AV} {q0:Q} (hq0 : φ id=some q0) (hi:h.tr.get id=some ob) (hv:ob.o.read off n=some l) :
    ∃ q xs,φ id=some q∧VRs φ l xs∧U4 l=true∧xs.length=n ∧ ∀ w' : World,w'.heap[q.b]? = w.heap[q.b]? → ∀ j x,xs[j]? = some x→w'.cell? ⟨q.b,q.base+off+j,none⟩=some x:=by
  obtain⟨q,h1,h2,h3⟩:=H.ob id ob hi hq0
  obtain⟨h4,h5,h6⟩:=X6.read_at hv
  have hc:ob.o.cel=true:=by cases ho:ob.o <;> rw [ho] at hv <;> first | rfl | cases hv
  obtain⟨c,e,fr,k1,k2,k3,k4,k6⟩:=(OR.cells hc).1 h3
  have hx : ∀ j,j < n → ∃ a x,l[j]? = some a∧c[q.base+off+j]? = some x∧VR φ a x∧a.one=true:=by
    intro j hj
    obtain⟨a,x,l1,l2,l3,l4⟩:=k6 (off+j) (by omega)
    rw [h6 j hj] at l1
    exact⟨a,x,l1,by rw [Nat.add_assoc]; exact l2,l3,l4⟩
  have hlen:((c.toList.drop (q.base+off)).take n).length=n:=by simp; omega
  refine⟨q,(c.toList.drop (q.base+off)).take n,h1,VRs.of (by rw [hlen,h4]) fun i a v g1 g2 => ?_,P9 fun i a g1 => ?_,hlen,fun w' hw j x hj => ?_⟩
  · have hi' : i < n:=by
      rcases Nat.lt_or_ge i n with hh | hh
      · exact hh
      · rw [List.getElem?_eq_none (by omega)] at g1; cases g1
    obtain⟨a',x,l1,l2,l3,l4⟩:=hx i hi'
    rw [g1] at l1; cases l1
    rw [List.getElem?_take,if_pos hi',List.getElem?_drop] at g2
    have:c.toList[q.base+off+i]? = some x:=by simpa using l2
    rw [this] at g2; cases g2
    exact l3
  · have hi' : i < n:=by
      rcases Nat.lt_or_ge i n with hh | hh
      · exact hh
      · rw [List.getElem?_eq_none (by omega)] at g1; cases g1
    obtain⟨a',x,l1,l2,l3,l4⟩:=hx i hi'
    rw [g1] at l1; cases l1
    exact l4
  · have hj' : j < n:=by
      rcases Nat.lt_or_ge j n with hh | hh
      · exact hh
      · rw [List.getElem?_eq_none (by omega)] at hj; cases hj
    rw [List.getElem?_take,if_pos hj',List.getElem?_drop] at hj
    simp only [World.cell?,hw,k1]
    simpa using hj
end
end Go.Proofs.YtecakklofhfphaaGreatDoor.AMX
namespace Go.Proofs.YtecakklofhfphaaGreatDoor.AMX
noncomputable section

/-! ## Types and functions of a program, looked up in strides -/
def nthR {α : Type} (l:List α) (k:Nat):Option α := List.rec (motive:=fun _=>Nat→Option α) (fun _=>none) (fun v _ ih k=>Nat.rec (motive:=fun _=>Option α) (some v) (fun j _=>ih j) k) l k
def dropR {α : Type} (n:Nat) (l:List α):List α := Nat.rec (motive:=fun _=>List α → List α) (fun l=>l) (fun _ ih l=>List.rec (motive:=fun _=>List α) [] (fun _ r _=>ih r) l) n l
def getC {α : Type} : Nat→List α → Nat→Option α
  | 0,l,k=>l[k]?
  | n+1,l,k=>bif Nat.blt k 32 then nthR l k else getC n (dropR 32 l) (Nat.sub k 32)
theorem Y0w {α : Type} : ∀(l:List α) (k:Nat),nthR l k=l[k]?
  | [],_=>rfl
  | v::r,0=>rfl
  | v::r,k+1=>Y0w r k
theorem Z8n {α : Type} : ∀(n:Nat) (l:List α),dropR n l=l.drop n
  | 0,_=>rfl
  | n+1,[]=>rfl
  | n+1,v::r=>Z8n n r
theorem Z6l {α : Type} : ∀(n:Nat) (l:List α) (k:Nat),getC n l k=l[k]?
  | 0,_,_=>rfl
  | n+1,l,k=>by
    unfold getC
    cases hb:Nat.blt k 32 with
    | true=>exact Y0w l k
    | false =>
      have hk:32≤k:=by
        rcases Nat.lt_or_ge k 32 with h | h
        · rw [show Nat.blt k 32=true from Nat.ble_eq_true_of_le h] at hb; cases hb
        · exact h
      simp only [cond_false]
      rw [Z6l n,Z8n,List.getElem?_drop,show 32+Nat.sub k 32=k from by show 32+(k - 32)=k; omega]
def Q9a (P:Program) (t:TypeId):Option TypeInfo:=match getC 100 P.types.toList t with
  | some i=>some i
  | none=>P.info? t
def A2 (P:Program) (t:TypeId):Option TypeDesc:=match Q9a P t with
  | some i=>match i.desc with
    | .named _ u=>match Q9a P u with
      | some j=>some j.desc
      | none=>none
    | d=>some d
  | none=>none
def funQ (P:Program) (f:FuncId):Option Func:=getC 100 P.funcs.toList f
theorem K2 (P:Program) (t:TypeId):Q9a P t=P.info? t:=by
  unfold Q9a
  rw [Z6l]
  cases h:P.types.toList[t]? with
  | none=>rfl
  | some i =>
    have h' : P.types[t]? = some i:=by simpa using h
    have hlt:t < P.types.size:=(Array.getElem?_eq_some_iff.1 h').1
    show some i=P.toTables.info? t
    unfold Tables.info?
    rw [if_pos hlt,h']
theorem Z6m (P:Program) (f:FuncId):funQ P f=P.funcs[f]? := by
  unfold funQ
  rw [Z6l]
  simp
theorem V3 (P:Program) (t:TypeId):A2 P t=P.underlying t:=by
  unfold A2 Program.underlying
  rw [K2]
  cases P.info? t with
  | none=>rfl
  | some i =>
    obtain⟨d,_⟩:=i
    cases d <;> first | rfl | skip
    simp only [K2]
    rename_i u
    cases P.info? u <;> rfl
/-! ## Slots -/
def Sl.set (s:Sl) (t:Nat) (v:AV):Sl:=Sl.rec (motive:=fun _=>Sl) (.cons t v .nil) (fun d u r ih=>Bool.rec (motive:=fun _=>Sl) (.cons d u ih) (.cons d v r) (Nat.beq d t)) s
def kept (m d:Nat):Bool:=Nat.beq (Nat.land (Nat.shiftRight m d) 1) 1
def Q3o (l:List Nat) (s v:Sl):Sl:=List.rec (motive:=fun _=>Sl→Sl) (fun v=>v) (fun t _ ih v=>ih (Option.rec (motive:=fun _=>Sl) v (fun x=>v.set t x) (s.get t))) l v
/-! ## Constants and types -/
def one1:Value→Option AV
  | .bool b=>some (.bool b)
  | .int k n=>some (.int k n)
  | .string s=>some (.str s.data.toList)
  | .pointer none=>some .nilp
  | .slice none 0 0=>some .nils
  | .map none=>some .nilm
  | .nilFunc=>some .nilf
  | .nilIface=>some .nili
  | _=>none
def one1s:List Value→Option (List AV)
  | []=>some []
  | v::r=>match one1 v with
    | some a=>match one1s r with
      | some l=>some (a::l)
      | none=>none
    | none=>none
def ofV (v:Value):Option AV:=match v with
  | .agg cs=>match one1s cs.toList with
    | some l=>some (.agg l)
    | none=>none
  | v=>one1 v
section
variable (P:Program)
structure On where n:Option Nat
structure Oa where v:Option AV
def szO (t:TypeId):On:=match Q9a P t with
  | some i=>⟨some i.size⟩
  | none=>⟨none⟩
def L9 (t:TypeId):Oa:=match Q9a P t with
  | some i=>match i.zero with
    | some v=>⟨ofV v⟩
    | none=>⟨none⟩
  | none=>⟨none⟩
inductive Ag where | agg | one | bad
def agO (t:TypeId):Ag:=match A2 P t with
  | some (.struct _) => .agg
  | some (.array _ _) => .agg
  | some _ => .one
  | none => .bad
end

/-! ## Numbers and texts -/
def beqL:List UInt8→List UInt8→Bool
  | [],[]=>true
  | a::x,b::y=>bif Nat.beq a.toNat b.toNat then beqL x y else false
  | _,_=>false
def lim:IntKind→Nat
  | .i8=>128 | .i16=>32768 | .i32=>2147483648 | .i64=>9223372036854775808
  | .u8=>256 | .u16=>65536 | .u32=>4294967296 | .u64=>18446744073709551616
def Z4g (k:IntKind) (n:Nat):Int:=bif Nat.blt n (lim k) then .ofNat n else k.wrap (.ofNat n)
def Z9y (op:BinOp) (k:IntKind) (a b:Int):Option AV:=match op with
  | .add=>match a,b with
    | .ofNat x,.ofNat y=>some (.int k (Z4g k (x+y)))
    | a,b=>some (.int k (k.wrap (a+b)))
  | .sub=>match a,b with
    | .ofNat x,.ofNat y=>bif Nat.ble y x then some (.int k (Z4g k (x - y))) else some (.int k (k.wrap (a - b)))
    | a,b=>some (.int k (k.wrap (a - b)))
  | .mul=>match a,b with
    | .ofNat x,.ofNat y=>some (.int k (Z4g k (x * y)))
    | a,b=>some (.int k (k.wrap (a * b)))
  | .quo=>if b=0 then none else some (.int k (k.wrap (a.tdiv b)))
  | .rem=>if b=0 then none else some (.int k (a.tmod b))
  | .and=>some (.int k (k.wrap (BitVec.ofInt k.bits a &&& BitVec.ofInt k.bits b).toNat))
  | .or=>some (.int k (k.wrap (BitVec.ofInt k.bits a ||| BitVec.ofInt k.bits b).toNat))
  | .xor=>some (.int k (k.wrap (BitVec.ofInt k.bits a ^^^ BitVec.ofInt k.bits b).toNat))
  | .andNot=>some (.int k (k.wrap (BitVec.ofInt k.bits a &&& ~~~ BitVec.ofInt k.bits b).toNat))
  | .eql=>match a,b with
    | .ofNat x,.ofNat y=>some (.bool (Nat.beq x y))
    | a,b=>some (.bool (a == b))
  | .neq=>match a,b with
    | .ofNat x,.ofNat y=>some (.bool (!(Nat.beq x y)))
    | a,b=>some (.bool (a != b))
  | .lss=>match a,b with
    | .ofNat x,.ofNat y=>some (.bool (Nat.blt x y))
    | a,b=>some (.bool (decide (a < b)))
  | .leq=>match a,b with
    | .ofNat x,.ofNat y=>some (.bool (Nat.ble x y))
    | a,b=>some (.bool (decide (a≤b)))
  | .gtr=>match a,b with
    | .ofNat x,.ofNat y=>some (.bool (Nat.blt y x))
    | a,b=>some (.bool (decide (a > b)))
  | .geq=>match a,b with
    | .ofNat x,.ofNat y=>some (.bool (Nat.ble y x))
    | a,b=>some (.bool (decide (a ≥ b)))
  | _=>none
def Z5v (op:BinOp) (k:IntKind) (x y:Int):Option AV:=if y < 0 then none else match op with
  | .shl=>some (.int k (k.wrap (x * 2 ^ (min y.toNat k.bits))))
  | .shr=>some (.int k (x.fdiv (2 ^ (min y.toNat k.bits))))
  | _=>none
def Z9g (op:BinOp) (a b:List UInt8):Option AV:=match op with
  | .add=>bif Nat.ble (a.length+b.length) 1000000000 then some (.str (a++b)) else none
  | .eql=>some (.bool (beqL a b))
  | .neq=>some (.bool (!beqL a b))
  | .lss=>some (.bool (Op.bytesLess a b))
  | _=>none
def eqA (c:Bool) (d:TypeDesc) (x y:AV):Option Bool:=match x,y with
  | .nili,.nili=>match d with
    | .interface _=>bif c then some true else none
    | _=>none
  | .nili,.ifc _ _=>match d with
    | .interface _=>some false
    | _=>none
  | .ifc _ _,.nili=>match d with
    | .interface _=>some false
    | _=>none
  | .bool a,.bool b=>match d with
    | .bool=>some (a == b)
    | _=>none
  | .nilp,.nilp=>match d with
    | .pointer _=>some true
    | _=>none
  | .nilp,.ptr _ _=>match d with
    | .pointer _=>some false
    | _=>none
  | .ptr _ _,.nilp=>match d with
    | .pointer _=>some false
    | _=>none
  | .nils,.nils=>match d with
    | .slice _=>some true
    | _=>none
  | .nils,.sl _ _ _ _ _=>match d with
    | .slice _=>some false
    | _=>none
  | .sl _ _ _ _ _,.nils=>match d with
    | .slice _=>some false
    | _=>none
  | .nilf,.nilf=>match d with
    | .func _ _ _=>some true
    | _=>none
  | .nilf,.fn _ _=>match d with
    | .func _ _ _=>some false
    | _=>none
  | .fn _ _,.nilf=>match d with
    | .func _ _ _=>some false
    | _=>none
  | .nilm,.nilm=>match d with
    | .map _ _=>some true
    | _=>none
  | .mp _,.nilm=>match d with
    | .map _ _=>some false
    | _=>none
  | .nilm,.mp _=>match d with
    | .map _ _=>some false
    | _=>none
  | _,_=>none
def isC (x:Operand):Bool:=match x with
  | .const _=>true
  | _=>false
def Y0h:TypeDesc→Bool
  | .int _=>true
  | .string=>true
  | .bool=>true
  | _=>false
def Q7k (P:Program):List Field→Nat→Option (List TypeDesc)
  | [],_=>some []
  | f::r,i=>match A2 P f.type with
    | some d => bif Y0h d && (Nat.beq f.offset i && !decide (f.name = "_")) then (match Q7k P r (i + 1) with
      | some l=>some (d::l)
      | none=>none) else none
    | none=>none
def eq1 (d:TypeDesc) (a b:AV):Option Bool:=match d with
  | .int _=>match a,b with
    | .int k x,.int k' y=>if k=k' then some (x == y) else none
    | _,_=>none
  | .string=>match a,b with
    | .str x,.str y=>some (beqL x y)
    | _,_=>none
  | .bool=>match a,b with
    | .bool x,.bool y=>some (x == y)
    | _,_=>none
  | _=>none
def Z2t:List TypeDesc→List AV→List AV→Option Bool
  | [],[],[]=>some true
  | d::r,a::xs,b::ys=>match eq1 d a b with
    | some true=>Z2t r xs ys
    | some false=>some false
    | none=>none
  | _,_,_=>none
def flO (P:Program) (k:TypeId) (d:TypeDesc):Option (List TypeDesc):=match d with
  | .struct fs=>bif P.stoodInHeld k then none else Q7k P fs.toList 0
  | _=>none
def eqS (P:Program) (t:TypeId) (d:TypeDesc) (xs ys:List AV):Option Bool:=match flO P t d with
  | some fl=>Z2t fl xs ys
  | none=>none
def binA (P:Program) (c:Bool) (op:BinOp) (t:TypeId) (x y:AV):Option AV:=match x,y with
  | .int k a,.int k' b=>match op with
    | .shl=>Z5v op k a b
    | .shr=>Z5v op k a b
    | _=>if k=k' then Z9y op k a b else none
  | .str a,.str b=>Z9g op a b
  | .agg xs,.agg ys=>match A2 P t with
    | some d=>match op with
      | .eql=>match eqS P t d xs ys with
        | some b=>some (.bool b)
        | none=>none
      | .neq=>match eqS P t d xs ys with
        | some b=>some (.bool (!b))
        | none=>none
      | _=>none
    | none=>none
  | x,y=>match A2 P t with
    | some d=>match op with
      | .eql=>match eqA c d x y with
        | some b=>some (.bool b)
        | none=>none
      | .neq=>match eqA c d x y with
        | some b=>some (.bool (!b))
        | none=>none
      | _=>none
    | none=>none
def unA (op:UnOp) (x:AV):Option AV:=match x with
  | .int k a=>match op with
    | .neg=>some (.int k (k.wrap (0 - a)))
    | .xor=>some (.int k (k.wrap (BitVec.ofInt k.bits (if k.signed then -1 else k.max) ^^^ BitVec.ofInt k.bits a).toNat))
    | _=>none
  | .bool b=>match op with
    | .not=>some (.bool (!b))
    | _=>none
  | _=>none

def capA (P:Program) (t:TypeId) (x:Option AV):Option AV:=match A2 P t with
  | some (.slice _)=>match x with
    | some .nils=>some (.int .i64 0)
    | some (.sl _ _ _ (c+1) _)=>some (.int .i64 (.ofNat (c+1)))
    | _=>none
  | _=>none
def mxA (b:Bool) (x y:Option AV):Option AV:=match x with
  | some (.int k a)=>match y with
    | some (.int _ c)=>match b with
      | true=>some (.int k (if c > a then c else a))
      | false=>some (.int k (if c < a then c else a))
    | _=>none
  | _=>none
/-! ## Operands -/
structure Fo where run:Sl→Option AV
def opd (x:Operand):Fo:=match x with
  | .tmp t=>bif Nat.beq t V8 then ⟨fun _=>none⟩ else ⟨fun s=>s.get t⟩
  | .const v=>⟨fun _=>ofV v⟩
  | .global g=>⟨fun _=>none⟩
  | .func f=>⟨fun _=>some (.fn f [])⟩
def evs (s:Sl) (xs:List Operand):Option (List AV):=List.rec (motive:=fun _=>Option (List AV)) (some [])
  (fun x _ ih=>Option.rec (motive:=fun _=>Option (List AV)) none (fun v=>Option.rec (motive:=fun _=>Option (List AV)) none (fun l=>some (v::l)) ih) ((opd x).run s)) xs
theorem Z2r (s:Sl) (x:Operand) (r:List Operand):evs s (x::r)=match (opd x).run s with
    | some v=>match evs s r with
      | some l=>some (v::l)
      | none=>none
    | none=>none:=by
  show Option.rec (motive:=fun _=>Option (List AV)) none (fun v=>Option.rec (motive:=fun _=>Option (List AV)) none (fun l=>some (v::l)) (evs s r)) ((opd x).run s)=_
  cases(opd x).run s with
  | none=>rfl
  | some v=>cases evs s r <;> rfl
def Q7g (i:Int) (n:Nat):Option Nat:=match i with
  | .ofNat i=>bif Nat.blt i n then some i else none
  | .negSucc _=>none
def Q8y (v:Option AV):Option Nat:=match v with
  | some (.int _ (.ofNat n))=>some n
  | _=>none

/-! ## What operations yield that look at no memory -/
def Z6o (P:Program) (t:TypeId) (f:Nat):Option Field:=match A2 P t with
  | some (.struct fs)=>fs[f]?
  | _=>none
def partA (P:Program) (t:TypeId) (l:List AV) (off:Nat):Option AV:=match agO P t with
  | .agg=>match (szO P t).n with
    | some n=>match Q8m n (Z2v off l) with
      | m=>some (.agg m)
    | none=>none
  | .one=>nth l off
  | .bad=>none
structure Of where f:Option Nat
def offO (P:Program) (t:TypeId) (f:Nat):Of:=match Z6o P t f with
  | some fd=>match (szO P fd.type).n with
    | some 0=>⟨none⟩
    | some (_+1)=>⟨some fd.offset⟩
    | none=>⟨none⟩
  | none=>⟨none⟩
def M5 (o:Option Operand) (s:Sl) (dflt:Nat):Option Nat:=match o with
  | none=>some dflt
  | some x=>Q8y ((opd x).run s)
structure El where
  e:TypeId
  n : Option Nat   -- an array's length
  sz:Nat
def elO (P:Program) (t:TypeId):Option El:=match A2 P t with
  | some (.slice e)=>match (szO P e).n with
    | some z=>some ⟨e,none,z⟩
    | none=>none
  | some (.array n e)=>match (szO P e).n with
    | some z=>some ⟨e,some n,z⟩
    | none=>none
  | _=>none
structure Oe where e:Option El
def elE (P:Program) (t:TypeId):Oe:=⟨elO P t⟩

inductive Ra where
  | ok (v:AV) (h:Hp)
  | bad
inductive Kd where
  | pure (f:Sl→Option AV)
  | read (i:Sl→Option Nat) (f:Sl→Hp→Option AV)
  | act (f:Sl→Hp→Ra)
  | call (f:Operand) (xs:List Operand)
  | dfr (f:Operand) (xs:List Operand)
  | bad
def Z7r (v:Option AV):Option Nat:=match v with
  | some (.ptr id _)=>some id
  | _=>none
def mapOf (v:Option AV):Option Nat:=match v with
  | some (.mp id)=>some id
  | _=>none
def idxA (e:El) (v:Option AV) (i:Option AV):Option AV:=match v with
  | some (.sl id off n _ z)=>match e.n with
    | none=>bif Nat.beq z e.sz then (match i with
      | some (.int _ i)=>match Q7g i n with
        | some i=>some (.ptr id (off+i * e.sz))
        | none=>none
      | _=>none) else none
    | some _=>none
  | some (.ptr id off)=>match e.n with
    | some n=>match i with
      | some (.int _ i)=>match Q7g i n with
        | some i=>some (.ptr id (off+i * e.sz))
        | none=>none
      | _=>none
    | none=>none
  | _=>none
def isArr (P:Program) (t:TypeId):Bool:=match A2 P t with
  | some (.array _ _)=>true
  | _=>false
def Z5u (P:Program) (t:TypeId) (v:Option AV) (lo hi mx:Option Operand) (s:Sl):Option AV:=match v with
  | some (.str b)=>match A2 P t with
    | some .string=>match mx with
      | none=>match M5 hi s b.length with
        | some h=>match M5 lo s 0 with
          | some l=>bif Nat.ble l h&&Nat.ble h b.length then some (.str ((b.drop l).take (h - l))) else none
          | none=>none
        | none=>none
      | some _=>none
    | _=>none
  | some (.sl id off len cap z)=>match A2 P t with
    | some (.slice _)=>match (elE P t).e with
      | some e=>match mx with
        | none=>match M5 hi s len with
          | some h=>match M5 lo s 0 with
            | some l=>bif Nat.ble l h&&Nat.ble h len&&Nat.beq z e.sz then (match cap with
              | 0=>some (.sl id (off+l * e.sz) (h - l) 0 z)
              | c+1=>bif Nat.blt l (c+1) then some (.sl id (off+l * e.sz) (h - l) (c+1 - l) z) else some (.sl id off 0 0 0)) else none
            | none=>none
          | none=>none
        | some _=>none
      | none=>none
    | _=>none
  | some .nils=>match A2 P t with
    | some (.slice _)=>match (elE P t).e with
      | some e=>match mx with
        | none=>match M5 hi s 0 with
          | some 0=>match M5 lo s 0 with
            | some 0=>some .nils
            | _=>none
          | _=>none
        | some _=>none
      | none=>none
    | _=>none
  | _=>none
def X1 (P:Program) (t:TypeId) (v:Option AV):Option AV:=match v with
  | some (.str b)=>match A2 P t with
    | some .string=>some (.int .i64 (.ofNat b.length))
    | _=>none
  | some (.sl _ _ n _ _)=>match A2 P t with
    | some (.slice _)=>some (.int .i64 (.ofNat n))
    | _=>none
  | some .nils=>match A2 P t with
    | some (.slice _)=>some (.int .i64 (.ofNat 0))
    | _=>none
  | _=>none
def Z5a (P:Program) (t:TypeId):Bool:=match A2 P t with
  | some (.map _ _)=>true
  | _=>false
def isRow (P:Program) (t:TypeId):Bool:=match A2 P t with
  | some (.slice _)=>true
  | _=>false
def conv (P:Program) (b:TypeId) (v:Option AV):Option AV:=match A2 P b with
  | some (.int k)=>match v with
    | some (.int _ n)=>match n with
      | .ofNat m=>some (.int k (Z4g k m))
      | n=>some (.int k (k.wrap n))
    | _=>none
  | some .string=>match v with
    | some (.str l)=>some (.str l)
    | _=>none
  | _=>none
def Z9z (P:Program) (t:TypeId) (v:Option AV) (i:Option AV):Option AV:=match v with
  | some (.str l)=>match A2 P t with
    | some .string=>match i with
      | some (.int _ (.ofNat i))=>match l[i]? with
        | some c=>some (.int .u8 (.ofNat c.toNat))
        | none=>none
      | _=>none
    | _=>none
  | some (.agg l)=>match A2 P t with
    | some (.array n e)=>match (szO P e).n with
      | some z=>match i with
        | some (.int _ i)=>match Q7g i n with
          | some i=>partA P e l (i * z)
          | none=>none
        | _=>none
      | none=>none
    | _=>none
  | _=>none
def evP (s:Sl):List (Nat×Operand)→Option (List (Nat×AV))
  | []=>some []
  | p::r=>match (opd p.2).run s with
    | some v=>match evP s r with
      | some l=>some ((p.1,v)::l)
      | none=>none
    | none=>none
def Q9e (place:Nat→Option (Nat×Nat)) (cells:List AV):List (Nat×AV)→Option (List AV)
  | []=>some cells
  | p::r=>match place p.1 with
    | some q=>bif p.2.lone&&Nat.beq (Q5l p.2.cells) q.2&&Nat.ble (q.1+q.2) (Q5l cells) then Q9e place (Q8v q.1 p.2.cells cells) r else none
    | none=>none
structure Pl where f:Option (Nat→Option (Nat×Nat))
def Z0g (P:Program):List Field→Option (List (Nat×Nat))
  | []=>some []
  | f::r=>match Q9a P f.type with
    | some i=>match Z0g P r with
      | some l=>some ((f.offset,i.size)::l)
      | none=>none
    | none=>none
def Z9q (P:Program) (t:TypeId):Pl:=match A2 P t with
  | some (.struct fs)=>match Z0g P fs.toList with
    | some l=>⟨some fun i=>l[i]?⟩
    | none=>⟨none⟩
  | some (.array _ e)=>match (szO P e).n with
    | some z=>⟨some fun i=>some (i * z,z)⟩
    | none=>⟨none⟩
  | _=>⟨none⟩
def Q7e (P:Program) (t:TypeId):Bool:=match A2 P t with
  | some (.interface _)=>true
  | some _=>false
  | none=>true
def Q5q (P:Program) (op:Op):Option (Sl→Option AV):=match op with
  | .move x=>some fun s=>(opd x).run s
  | .assign x=>some fun s=>(opd x).run s
  | .pick c a b=>some fun s=>match (opd c).run s with
    | some (.bool b')=>bif b' then (opd a).run s else (opd b).run s
    | _=>none
  | .nilCheck x=>some fun s=>match (opd x).run s with
    | some (.ptr a b)=>some (.ptr a b)
    | some (.fn a b)=>some (.fn a b)
    | _=>none
  | .binOp op t x y _=>some fun s=>match (opd x).run s with
    | some a=>match (opd y).run s with
      | some b=>binA P (isC x || isC y) op t a b
      | none=>none
    | none=>none
  | .unOp op t x=>some fun s=>match (opd x).run s with
    | some a=>unA op a
    | none=>none
  | .convert a b x=>match A2 P a with
    | some _=>bif isRow P b then none else some fun s=>conv P b ((opd x).run s)
    | none=>none
  | .makeFunc fn first cap=>match fn with
    | .func f=>match first.toList with
      | []=>some fun s=>match evs s cap.toList with
        | some vs=>some (.fn f vs)
        | none=>none
      | _::_=>match cap.toList with
        | []=>some fun s=>match evs s first.toList with
          | some vs=>some (.bfn f vs)
          | none=>none
        | _::_=>none
    | _=>none
  | .slice t x lo hi mx=>bif isArr P t then none else some fun s=>Z5u P t ((opd x).run s) lo hi mx s
  | .fieldAddr t x f=>match (offO P t f).f with
    | some o=>some fun s=>match (opd x).run s with
      | some (.ptr id off)=>some (.ptr id (off+o))
      | _=>none
    | none=>none
  | .field t x f=>match Z6o P t f with
    | some fd=>some fun s=>match (opd x).run s with
      | some (.agg l)=>partA P fd.type l fd.offset
      | _=>none
    | none=>none
  | .indexAddr t x i=>match (elE P t).e with
    | some e=>some fun s=>idxA e ((opd x).run s) ((opd i).run s)
    | none=>none
  | .index t x i=>some fun s=>Z9z P t ((opd x).run s) ((opd i).run s)
  | .build t ps=>match (L9 P t).v with
    | some z=>match (Z9q P t).f with
      | some pl=>some fun s=>match evP s ps.toList with
        | some l=>match Q9e pl z.cells l with
          | some m=>some (.agg m)
          | none=>none
        | none=>none
      | none=>none
    | none=>none
  | .makeInterface t x=>bif Q7e P t then none else some fun s=>match (opd x).run s with
    | some v=>some (.ifc t v)
    | none=>none
  | .extract x i=>some fun s=>match (opd x).run s with
    | some (.tup l)=>nth l i
    | _=>none
  | .call c=>match c.callee with
    | .builtin .len=>match c.args.toList with
      | [x]=>match c.argTypes.toList with
        | [t]=>bif Z5a P t then none else some fun s=>X1 P t ((opd x).run s)
        | _=>none
      | _=>none
    | .builtin .cap=>match c.args.toList with
      | [x]=>match c.argTypes.toList with
        | [t]=>some fun s=>capA P t ((opd x).run s)
        | _=>none
      | _=>none
    | .builtin .max=>match c.args.toList with
      | [x,y]=>some fun s=>mxA true ((opd x).run s) ((opd y).run s)
      | _=>none
    | .builtin .min=>match c.args.toList with
      | [x,y]=>some fun s=>mxA false ((opd x).run s) ((opd y).run s)
      | _=>none
    | _=>none
  | _=>none
end
end Go.Proofs.YtecakklofhfphaaGreatDoor.AMX
namespace Go.Proofs.YtecakklofhfphaaGreatDoor.AMX
noncomputable section
variable {φ : Mp}

theorem beqB {a b:Nat} : Nat.beq a b=decide (a=b):=by
  by_cases h:a=b
  · subst h; simp
  · rw [decide_eq_false h]
    cases hb:Nat.beq a b with
    | false=>rfl
    | true=>exact absurd (Nat.eq_of_beq_eq_true hb) h
theorem Sl.get_cons (d:Nat) (v:AV) (r:Sl) (t:Nat):(Sl.cons d v r).get t=if d=t then some v else r.get t:=by
  show(Bool.casesOn (motive:=fun _=>Option AV) (Nat.beq d t) (r.get t) (some v))=_
  rw [beqB]
  by_cases h:d=t <;> simp [h]
theorem Sl.get_set : ∀(s:Sl) (k:Nat) (v:AV) (t:Nat),(s.set k v).get t=if k=t then some v else s.get t
  | .nil,k,v,t=>by
    show(Sl.cons k v .nil).get t=_
    rw [Sl.get_cons]
  | .cons d u r,k,v,t=>by
    have ih:=Sl.get_set r k v t
    show(Bool.casesOn (motive:=fun _=>Sl) (Nat.beq d k) (Sl.cons d u (r.set k v)) (Sl.cons d v r)).get t=_
    rw [beqB]
    by_cases h:d=k
    · subst h
      simp only [decide_true]
      rw [Sl.get_cons,Sl.get_cons]
      by_cases h2:d=t <;> simp [h2]
    · simp only [h,decide_false]
      rw [Sl.get_cons,Sl.get_cons,ih]
      by_cases h2:d=t
      · subst h2
        simp [Ne.symm h]
      · simp [h2]

def SR (φ : Mp) (s:Sl) (a:Act):Prop := ∀ t v,t ≠ V8→s.get t=some v→VR φ v (a.tmps.getD t undef)
theorem SR.mono {φ' : Mp} {s:Sl} {a:Act} (h:SR φ s a) (k:Le φ φ'):SR φ' s a:=fun t v ht hv=>VR.mono k _ _ (h t v ht hv)
theorem SR.put {s:Sl} {a:Act} {d:Nat} {v:AV} {x:Value} (h:SR φ s a) (hv:VR φ v x) (hd:d < a.tmps.size):SR φ (.cons d v s) (a.put (some d) x):=by
  intro t u ht hu
  rw [Sl.get_cons] at hu
  unfold Act.put
  simp only
  by_cases he:d=t
  · subst he
    rw [if_pos rfl] at hu
    cases hu
    simpa [Array.getD_eq_getD_getElem?,hd] using hv
  · rw [if_neg he] at hu
    have:=h t u ht hu
    simp only [Array.getD_eq_getD_getElem?] at this ⊢
    rw [Array.getElem?_setIfInBounds_ne he]
    exact this
theorem SR.dfr {s:Sl} {a:Act} {v:AV} (h:SR φ s a) (ds:List Deferred):SR φ (.cons V8 v s) {a with defers:=ds} := by
  intro t u ht hu
  rw [Sl.get_cons,if_neg (fun e=>ht e.symm)] at hu
  exact h t u ht hu
theorem SR.drop {s:Sl} {a:Act} (h:SR φ s a) (d:Option Tmp) (x:Value) (hs : ∀ t,d=some t→s.get t=none):SR φ s (a.put d x):=by
  intro t u ht hu
  cases d with
  | none=>exact h t u ht hu
  | some d =>
    have hne:d ≠ t:=by
      intro e
      subst e
      rw [hs d rfl] at hu
      cases hu
    have:=h t u ht hu
    unfold Act.put
    simp only [Array.getD_eq_getD_getElem?] at this ⊢
    rw [Array.getElem?_setIfInBounds_ne hne]
    exact this

theorem Y0v {v:Value} {a:AV} (h:one1 v=some a):VR φ a v:=by
  unfold one1 at h
  split at h <;> first | (cases h; simp only [VR]; done) | (cases h)
  all_goals simp [VR]
theorem Z7x {v:Value} {a:AV} (h:one1 v=some a):a.one=true:=by
  unfold one1 at h
  split at h <;> first | (cases h; rfl) | cases h
theorem Z4s : ∀ {vs:List Value} {l:List AV},one1s vs=some l→VRs φ l vs∧U4 l=true
  | [],l,h=>by cases h; exact⟨by simp [VRs],rfl⟩
  | v::r,l,h=>by
    unfold one1s at h
    split at h
    · rename_i a ha
      split at h
      · rename_i m hm
        cases h
        obtain⟨h1,h2⟩:=Z4s hm
        refine⟨by simp only [VRs]; exact⟨v,r,rfl,Y0v ha,h1⟩,?_⟩
        simp [U4,Z7x ha,h2]
      · cases h
    · cases h
theorem ofV_VR {v:Value} {a:AV} (h:ofV v=some a):VR φ a v:=by
  unfold ofV at h
  split at h
  · rename_i cs
    split at h
    · rename_i l hl
      cases h
      obtain⟨h1,h2⟩:=Z4s hl
      simp only [VR]
      exact⟨cs,rfl,h1,h2⟩
    · cases h
  · exact Y0v h

theorem Y3 {s:Sl} {a:Act} (h:SR φ s a) {x:Operand} {v:AV} (hv:(opd x).run s=some v):VR φ v (a.eval x):=by
  cases x with
  | tmp t =>
    simp only [opd,beqB] at hv
    by_cases ht:t=V8
    · simp [ht] at hv
    · simp only [ht,decide_false,cond_false] at hv
      exact h t v ht hv
  | const c=>exact ofV_VR hv
  | global g=>cases hv
  | func f=>cases hv; simp only [VR,VRs,Act.eval]; exact⟨#[],rfl,rfl⟩
theorem Q3p {s:Sl} {a:Act} (h:SR φ s a) : ∀ {xs:List Operand} {l:List AV},evs s xs=some l→VRs φ l (xs.map a.eval)
  | [],l,hl=>by cases hl; simp [VRs]
  | x::r,l,hl=>by
    rw [Z2r] at hl
    split at hl
    · rename_i v hv
      split at hl
      · rename_i m hm
        cases hl
        simp only [VRs,List.map_cons]
        exact⟨_,_,rfl,Y3 h hv,Q3p h hm⟩
      · cases hl
    · cases hl

/-! ## Numbers -/
theorem Q6k (k:IntKind) (n:Nat):Z4g k n=k.wrap (n:Int):=by
  unfold Z4g
  cases hb:Nat.blt n (lim k) with
  | false=>rfl
  | true =>
    have hn:n < lim k:=Nat.le_of_ble_eq_true hb
    simp only [cond_true]
    symm
    show k.wrap (n:Int)=(n:Int)
    cases k <;> simp only [lim] at hn <;> simp [IntKind.wrap,IntKind.signed,IntKind.bits] <;> omega
theorem Q5i : ∀(a b:List UInt8),beqL a b=(a == b)
  | [],[]=>rfl
  | [],_::_=>rfl
  | _::_,[]=>rfl
  | a::x,b::y=>by
    have ih:=Q5i x y
    simp only [beqL,beqB]
    by_cases h:a=b
    · subst h
      simp [ih]
    · have:a.toNat ≠ b.toNat:=fun e=>h (UInt8.toNat_inj.1 e)
      simp [this,h]

variable {P:Program} {w:World}
theorem eqg {op:BinOp} {t:TypeId} {x y:Operand} {a b:Value} (h1:a ≠ .nilIface) (h2 : ∀ cs,a ≠ .agg cs):(eqGuard op t x y a b).run P w = .ok () w:=by
  unfold eqGuard
  cases op <;> first | rfl | skip
  all_goals
    cases a <;> first | (exact absurd rfl h1) | (exact absurd rfl (h2 _)) | rfl
theorem bleB (x y:Nat):Nat.ble x y=decide (x≤y):=by
  by_cases h:x≤y
  · simp [h,Nat.ble_eq_true_of_le]
  · rw [decide_eq_false h]
    cases hb:Nat.ble x y with
    | false=>rfl
    | true=>exact absurd (Nat.le_of_ble_eq_true hb) h
theorem bltB (x y:Nat):Nat.blt x y=decide (x < y):=bleB (x+1) y
theorem Y2m {op:BinOp} {k:IntKind} {a b:Int} {t:TypeId} {v:AV} (h:Z9y op k a b=some v) (ho:op ≠ .shl∧op ≠ .shr) : ∃ x,VR φ v x ∧ ∀ w,(binOp op t (.int k a) (.int k b)).run P w = .ok x w:=by
  cases op <;> simp only [Z9y] at h <;> first | (cases h; done) | (exact absurd rfl ho.1) | (exact absurd rfl ho.2) | skip
  case add =>
    split at h <;> cases h
    · exact⟨_,rfl,fun w=>by simp [binOp,Op.intArith,Q6k]⟩
    · exact⟨_,rfl,fun w=>by simp [binOp,Op.intArith]⟩
  case sub =>
    split at h
    · rename_i x y
      cases hb:Nat.ble y x with
      | true =>
        rw [hb] at h; cases h
        refine⟨_,rfl,fun w => ?_⟩
        have hle:=Nat.le_of_ble_eq_true hb
        have:((x - y:Nat):Int)=(x:Int) - (y:Int):=by omega
        simp [binOp,Op.intArith,Q6k,this]
      | false =>
        rw [hb] at h; cases h
        exact⟨_,rfl,fun w=>by simp [binOp,Op.intArith]⟩
    · cases h
      exact⟨_,rfl,fun w=>by simp [binOp,Op.intArith]⟩
  case mul =>
    split at h <;> cases h
    · exact⟨_,rfl,fun w=>by simp [binOp,Op.intArith,Q6k]⟩
    · exact⟨_,rfl,fun w=>by simp [binOp,Op.intArith]⟩
  case quo =>
    split at h
    · cases h
    · rename_i hb
      cases h
      exact⟨_,rfl,fun w=>by simp [binOp,Op.intDiv,hb]⟩
  case rem =>
    split at h
    · cases h
    · rename_i hb
      cases h
      exact⟨_,rfl,fun w=>by simp [binOp,Op.intDiv,hb]⟩
  case and=>cases h; exact⟨_,rfl,fun w=>by simp [binOp,Op.intBits]⟩
  case or=>cases h; exact⟨_,rfl,fun w=>by simp [binOp,Op.intBits]⟩
  case xor=>cases h; exact⟨_,rfl,fun w=>by simp [binOp,Op.intBits]⟩
  case andNot=>cases h; exact⟨_,rfl,fun w=>by simp [binOp,Op.intBits]⟩
  case eql =>
    split at h <;> cases h
    · rename_i x y
      refine⟨_,rfl,fun w => ?_⟩
      have:((x:Int) == (y:Int))=Nat.beq x y:=by rw [beqB]; by_cases hh:x=y <;> simp [hh]; omega
      simp [binOp,Op.intCmp,this]
    · exact⟨_,rfl,fun w=>by simp [binOp,Op.intCmp]⟩
  case neq =>
    split at h <;> cases h
    · rename_i x y
      refine⟨_,rfl,fun w => ?_⟩
      have:((x:Int) == (y:Int))=Nat.beq x y:=by rw [beqB]; by_cases hh:x=y <;> simp [hh]; omega
      simp [binOp,Op.intCmp,bne,this]
    · exact⟨_,rfl,fun w=>by simp [binOp,Op.intCmp]⟩
  case lss =>
    split at h <;> cases h
    · rename_i x y
      refine⟨_,rfl,fun w => ?_⟩
      simp [binOp,Op.intCmp,bltB]
    · exact⟨_,rfl,fun w=>by simp [binOp,Op.intCmp]⟩
  case leq =>
    split at h <;> cases h
    · rename_i x y
      refine⟨_,rfl,fun w => ?_⟩
      simp [binOp,Op.intCmp,bleB]
    · exact⟨_,rfl,fun w=>by simp [binOp,Op.intCmp]⟩
  case gtr =>
    split at h <;> cases h
    · rename_i x y
      refine⟨_,rfl,fun w => ?_⟩
      simp [binOp,Op.intCmp,bltB]
    · exact⟨_,rfl,fun w=>by simp [binOp,Op.intCmp]⟩
  case geq =>
    split at h <;> cases h
    · rename_i x y
      refine⟨_,rfl,fun w => ?_⟩
      simp [binOp,Op.intCmp,bleB]
    · exact⟨_,rfl,fun w=>by simp [binOp,Op.intCmp]⟩

theorem Z4m {op:BinOp} {k k' : IntKind} {a b:Int} {t:TypeId} {v:AV} (h:Z5v op k a b=some v) : ∃ x,VR φ v x ∧ ∀ w,(binOp op t (.int k a) (.int k' b)).run P w = .ok x w:=by
  unfold Z5v at h
  split at h
  · cases h
  · rename_i hb
    cases op <;> cases h
    · exact⟨_,rfl,fun w=>by simp [binOp,Op.shift,hb]⟩
    · exact⟨_,rfl,fun w=>by simp [binOp,Op.shift,hb]⟩
theorem Y1x {op:BinOp} {a b:List UInt8} {t:TypeId} {v:AV} (h:Z9g op a b=some v) : ∃ x,VR φ v x ∧ ∀ w,(binOp op t (.string ⟨a.toArray⟩) (.string ⟨b.toArray⟩)).run P w = .ok x w:=by
  have htl : ∀ l:List UInt8,(ByteArray.mk l.toArray).toList=l:=fun l=>by simp [ByteArray.toList_mk]
  cases op <;> simp only [Z9g] at h <;> first | (cases h; done) | skip
  case add =>
    obtain⟨h1,h2⟩:=cN h
    cases h2
    have h1:=Nat.le_of_ble_eq_true h1
    have h63 : ¬ ((((ByteArray.mk a.toArray).size+(ByteArray.mk b.toArray).size:Nat):Int) > IntKind.i64.max):=by
      simp [ByteArray.size,IntKind.max,IntKind.signed,IntKind.bits]; omega
    have happ:ByteArray.mk a.toArray++ByteArray.mk b.toArray=⟨(a++b).toArray⟩:=by
      apply ByteArray.ext; simp
    exact⟨_,rfl,fun w=>by simp only [binOp,Op.stringOp,h63,if_false,happ]; rfl⟩
  case eql=>cases h; exact⟨_,rfl,fun w=>by simp only [binOp,Op.stringOp,htl,Q5i]; rfl⟩
  case neq=>cases h; exact⟨_,rfl,fun w=>by simp only [binOp,Op.stringOp,htl,Q5i]; rfl⟩
  case lss=>cases h; exact⟨_,rfl,fun w=>by simp only [binOp,Op.stringOp,htl]; rfl⟩
end
end Go.Proofs.YtecakklofhfphaaGreatDoor.AMX
namespace Go.Proofs.YtecakklofhfphaaGreatDoor.AMX
noncomputable section
variable {φ : Mp} {P:Program} {w:World}

theorem G9 {t:TypeId} {a b:Value} {r:Bool} (h : ∀(d:Nat) (w:World),(Op.equalIn (d+1) t a b).run P w = .ok r w) (w:World):(Op.equal t a b).run P w = .ok r w:=h 9999 w
theorem Z8l {op:BinOp} {t:TypeId} {x y:Operand} (h:(isC x || isC y)=true):eqGuard op t x y .nilIface .nilIface=pure ():=by
  have hx:(match x with | .const _=>true | _=>false)=isC x:=by cases x <;> rfl
  unfold eqGuard
  cases x <;> cases y <;> simp [isC] at h <;> cases op <;> rfl
theorem eqA_ok {c:Bool} {ox oy:Operand} (hcc:c=(isC ox || isC oy)) {d:TypeDesc} {t:TypeId} {x y:AV} {a b:Value} {r:Bool} (ht:P.underlying t=some d) (h:eqA c d x y=some r) (hx:VR φ x a) (hy:VR φ y b):(∀ w,(Op.equal t a b).run P w = .ok r w) ∧
    (∀ op:BinOp,op = .eql ∨ op = .neq→binOp op t a b=match op with | .eql=>(do pure (.bool (← Op.equal t a b))) | _=>(do pure (.bool (!(← Op.equal t a b))))) ∧ ∀(op:BinOp) (w:World),(eqGuard op t ox oy a b).run P w = .ok () w:=by
  unfold eqA at h
  split at h <;> first | (cases h; done) | skip
  all_goals
    split at h <;> first | (cases h; done) | skip
  all_goals
    simp only [VR] at hx hy
  case _ =>
    subst hx; subst hy
    cases c with
    | false=>cases h
    | true =>
      cases h
      refine⟨G9 fun d w=>by simp [Op.equalIn,run_underlying ht],by rintro op (rfl | rfl) <;> rfl,fun op w => ?_⟩
      rw [Z8l hcc.symm]; rfl
  case _ =>
    cases h
    obtain⟨q,rfl,_⟩:=hy; subst hx
    exact⟨G9 fun d w=>by simp [Op.equalIn,run_underlying ht],by rintro op (rfl | rfl) <;> rfl,fun op w=>by cases op <;> rfl⟩
  case _ =>
    cases h
    obtain⟨q,rfl,_⟩:=hx; subst hy
    exact⟨G9 fun d w=>by simp [Op.equalIn,run_underlying ht],by rintro op (rfl | rfl) <;> rfl,fun op w=>eqg (by simp) (by simp)⟩
  all_goals cases h
  case _ p q =>
    subst hx; subst hy
    exact⟨G9 fun d w=>by simp [Op.equalIn,run_underlying ht],by rintro op (rfl | rfl) <;> rfl,fun op w=>eqg (by simp) (by simp)⟩
  case _ =>
    subst hx; subst hy
    exact⟨G9 fun d w=>by simp [Op.equalIn,run_underlying ht],by rintro op (rfl | rfl) <;> rfl,fun op w=>eqg (by simp) (by simp)⟩
  case _ =>
    subst hx; obtain⟨q,_,rfl⟩:=hy
    exact⟨G9 fun d w=>by simp [Op.equalIn,run_underlying ht],by rintro op (rfl | rfl) <;> rfl,fun op w=>eqg (by simp) (by simp)⟩
  case _ =>
    subst hy; obtain⟨q,_,rfl⟩:=hx
    exact⟨G9 fun d w=>by simp [Op.equalIn,run_underlying ht],by rintro op (rfl | rfl) <;> rfl,fun op w=>eqg (by simp) (by simp)⟩
  case _ =>
    subst hx; subst hy
    exact⟨G9 fun d w=>by simp [Op.equalIn,run_underlying ht],by rintro op (rfl | rfl) <;> rfl,fun op w=>eqg (by simp) (by simp)⟩
  case _ =>
    subst hx; obtain⟨q,c,o,_,rfl,_⟩:=hy
    exact⟨G9 fun d w=>by simp [Op.equalIn,run_underlying ht],by rintro op (rfl | rfl) <;> rfl,fun op w=>eqg (by simp) (by simp)⟩
  case _ =>
    subst hy; obtain⟨q,c,o,_,rfl,_⟩:=hx
    exact⟨G9 fun d w=>by simp [Op.equalIn,run_underlying ht],by rintro op (rfl | rfl) <;> rfl,fun op w=>eqg (by simp) (by simp)⟩
  case _ =>
    subst hx; subst hy
    exact⟨G9 fun d w=>by simp [Op.equalIn,run_underlying ht],by rintro op (rfl | rfl) <;> rfl,fun op w=>eqg (by simp) (by simp)⟩
  case _ =>
    subst hx; obtain⟨cs,rfl,_⟩:=hy
    exact⟨G9 fun d w=>by simp [Op.equalIn,run_underlying ht],by rintro op (rfl | rfl) <;> rfl,fun op w=>eqg (by simp) (by simp)⟩
  case _ =>
    subst hy; obtain⟨cs,rfl,_⟩:=hx
    exact⟨G9 fun d w=>by simp [Op.equalIn,run_underlying ht],by rintro op (rfl | rfl) <;> rfl,fun op w=>eqg (by simp) (by simp)⟩
  case _ =>
    subst hx; subst hy
    exact⟨G9 fun d w=>by simp [Op.equalIn,run_underlying ht],by rintro op (rfl | rfl) <;> rfl,fun op w=>eqg (by simp) (by simp)⟩
  case _ =>
    subst hy; obtain⟨q,_,rfl⟩:=hx
    exact⟨G9 fun d w=>by simp [Op.equalIn,run_underlying ht],by rintro op (rfl | rfl) <;> rfl,fun op w=>eqg (by simp) (by simp)⟩
  case _ =>
    subst hx; obtain⟨q,_,rfl⟩:=hy
    exact⟨G9 fun d w=>by simp [Op.equalIn,run_underlying ht],by rintro op (rfl | rfl) <;> rfl,fun op w=>eqg (by simp) (by simp)⟩
theorem Z2z (a b:List UInt8):((ByteArray.mk a.toArray == ByteArray.mk b.toArray):Bool)=(a == b):=by
  show(a.toArray == b.toArray)=(a == b)
  simp
/-! Keys that are structs. -/
theorem eq1_ok {d:TypeDesc} {t:TypeId} {a b:AV} {x y:Value} {r:Bool} (ht:P.underlying t=some d) (h:eq1 d a b=some r) (ha:VR φ a x) (hb:VR φ b y):(∀ n w,(Op.equalIn (n+1) t x y).run P w = .ok r w)∧(r=true → ∀ n,Instr.sameBits (n+1) y x=true):=by
  unfold eq1 at h
  split at h
  · split at h <;> first | (cases h; done) | skip
    split at h <;> cases h
    rename_i hk
    simp only [VR] at ha hb
    subst ha; subst hb; subst hk
    refine⟨fun n w=>by simp [Op.equalIn,run_underlying ht],fun hr n => ?_⟩
    have hr:=eq_of_beq hr
    subst hr
    simp [Instr.sameBits]
  · split at h <;> cases h
    simp only [VR] at ha hb
    subst ha; subst hb
    rw [Q5i]
    refine⟨fun n w=>by simp [Op.equalIn,run_underlying ht,Z2z],fun hr n => ?_⟩
    have hr:=eq_of_beq hr
    subst hr
    simp only [Instr.sameBits,Z2z,beq_self_eq_true]
  · split at h <;> cases h
    simp only [VR] at ha hb
    subst ha; subst hb
    refine⟨fun n w=>by simp [Op.equalIn,run_underlying ht],fun hr n => ?_⟩
    have hr:=eq_of_beq hr
    subst hr
    simp [Instr.sameBits]
  · cases h
theorem Q6c {t:TypeId} {d:TypeDesc} (ht:P.underlying t=some d) (hb:Y0h d=true) {cs:Array Value} {i:Nat} {x:Value} (hx:cs[i]? = some x) (w:World):(part t cs i).run P w = .ok x w:=by
  have ha:(isAgg t).run P w = .ok false w:=by
    cases d <;> first | (cases hb; done) | skip
    all_goals simp [isAgg,run_underlying ht]
  simp [part,ha,hx]
theorem Q8e {f : Field} {r : List Field} {i : Nat} {l : List TypeDesc} (h : Q7k P (f :: r) i = some l) : ∃ d l', l = d :: l' ∧ P.underlying f.type = some d ∧ Y0h d = true ∧ f.offset = i ∧ f.name ≠ "_" ∧ Q7k P r (i + 1) = some l' := by
  unfold Q7k at h
  simp only [V3] at h
  split at h <;> first | (cases h; done) | skip
  rename_i d hd
  obtain⟨hb,h⟩:=cN h
  split at h <;> cases h
  rename_i l' hl
  obtain⟨h1,h2⟩:=X0 hb
  obtain⟨h2,h3⟩:=X0 h2
  exact⟨d,l',rfl,hd,h1,Nat.eq_of_beq_eq_true h2,by simpa using h3,hl⟩
theorem Y1m {cx cy:Array Value} : ∀ {fs:List Field} {l:List TypeDesc} {i:Nat} {xs ys:List AV} {r:Bool},Q7k P fs i=some l→Z2t l xs ys=some r →
    (∀ j a,xs[j]? = some a → ∃ x,cx[i+j]? = some x∧VR φ a x)→(∀ j a,ys[j]? = some a → ∃ x,cy[i+j]? = some x∧VR φ a x) →
    (∀ d w,(Op.eqFields (d+1) cx cy fs).run P w = .ok r w)∧(r=true→xs.length=l.length∧ys.length=l.length ∧ ∀ n j,j < l.length → ∃ x y,cx[i+j]? = some x∧cy[i+j]? = some y∧Instr.sameBits (n+1) y x=true)
  | [],l,i,xs,ys,r,hfl,he,hx,hy=>by
    cases hfl
    cases xs <;> cases ys <;> simp only [Z2t] at he <;> first | (cases he; done) | skip
    cases he
    exact⟨fun d w=>rfl,fun _=>⟨rfl,rfl,fun n j hj=>by simp at hj⟩⟩
  | f::fs,l,i,xs,ys,r,hfl,he,hx,hy=>by
    obtain⟨d,l',rfl,h1,h2,h3,h4,h5⟩:=Q8e hfl
    cases xs with
    | nil=>unfold Z2t at he; cases he
    | cons a xs=>cases ys with
      | nil=>unfold Z2t at he; cases he
      | cons b ys =>
        obtain⟨x,k1,k2⟩:=hx 0 a rfl
        obtain⟨y,m1,m2⟩:=hy 0 b rfl
        simp only [Nat.add_zero] at k1 m1
        simp only [Z2t] at he
        have p1 : ∀ w,(part f.type cx f.offset).run P w = .ok x w:=fun w=>by rw [h3]; exact Q6c h1 h2 k1 w
        have p2 : ∀ w,(part f.type cy f.offset).run P w = .ok y w:=fun w=>by rw [h3]; exact Q6c h1 h2 m1 w
        split at he <;> first | (cases he; done) | skip
        · rename_i hq
          obtain⟨q1,q2⟩:=eq1_ok h1 hq k2 m2
          obtain⟨s1,s2⟩:=Y1m h5 he (fun j a hj=>by
            obtain⟨x,t1,t2⟩:=hx (j+1) a (by simpa using hj)
            exact⟨x,by rw [← t1]; congr 1; omega,t2⟩) (fun j a hj=>by
            obtain⟨x,t1,t2⟩:=hy (j+1) a (by simpa using hj)
            exact⟨x,by rw [← t1]; congr 1; omega,t2⟩)
          refine⟨fun d w => ?_,fun hr => ?_⟩
          · simp [Op.eqFields,h4,p1,p2,q1,s1]
          · obtain⟨u1,u2,u3⟩:=s2 hr
            refine⟨by simp [u1],by simp [u2],fun n j hj => ?_⟩
            cases j with
            | zero=>exact⟨x,y,by simpa using k1,by simpa using m1,q2 rfl n⟩
            | succ j =>
              obtain⟨x,y,v1,v2,v3⟩:=u3 n j (by simpa using hj)
              exact⟨x,y,by rw [← v1]; congr 1; omega,by rw [← v2]; congr 1; omega,v3⟩
        · rename_i hq
          cases he
          obtain⟨q1,q2⟩:=eq1_ok h1 hq k2 m2
          exact⟨fun d w=>by simp [Op.eqFields,h4,p1,p2,q1],fun hr=>by cases hr⟩
theorem VRs.at {xs:List AV} {cx:Array Value} (h:VRs φ xs cx.toList) : ∀ j a,xs[j]? = some a → ∃ x,cx[0+j]? = some x∧VR φ a x:=fun j a hj=>by
  obtain⟨x,h1,h2⟩:=h.get hj
  exact⟨x,by rw [Nat.zero_add]; simpa using h1,h2⟩
theorem Z6n {k:TypeId} {d:TypeDesc} {fl:List TypeDesc} (h:flO P k d=some fl) : ∃ fs,d = .struct fs∧P.stoodInHeld k=false∧Q7k P fs.toList 0=some fl:=by
  unfold flO at h
  split at h <;> first | (cases h; done) | skip
  rename_i fs
  cases hs:P.stoodInHeld k with
  | true=>rw [hs] at h; cases h
  | false=>rw [hs] at h; exact⟨fs,rfl,rfl,h⟩
theorem Q6f {k:TypeId} {d:TypeDesc} {fl:List TypeDesc} (hd:P.underlying k=some d) (h:flO P k d=some fl) {xs ys:List AV} {cx cy:Array Value} {r:Bool} (he:Z2t fl xs ys=some r) (hx:VRs φ xs cx.toList) (hy:VRs φ ys cy.toList) :
    (∀ w,(Op.equal k (.agg cx) (.agg cy)).run P w = .ok r w)∧(r=true→Instr.sameBits 10000 (.agg cy) (.agg cx)=true):=by
  obtain⟨fs,rfl,h1,h2⟩:=Z6n h
  have hfs:P.fieldsOf k=fs:=by simp [Program.fieldsOf,hd]
  obtain⟨q1,q2⟩:=Y1m h2 he hx.at hy.at
  refine⟨fun w => ?_,fun hr => ?_⟩
  · show(Op.equalIn (9999+1) k (.agg cx) (.agg cy)).run P w=_
    rw [run_equalIn_struct w 9999 k cx cy (by rw [hfs]; exact hd) h1,hfs]
    exact q1 9998 w
  · obtain⟨u1,u2,u3⟩:=q2 hr
    have lx:cx.size=fl.length:=by have:=hx.len; simp at this; omega
    have ly:cy.size=fl.length:=by have:=hy.len; simp at this; omega
    show((cy.size == cx.size)&&(cy.toList.zip cx.toList).all fun(x,y)=>Instr.sameBits 9999 x y)=true
    rw [lx,ly]
    simp only [beq_self_eq_true,Bool.true_and,List.all_eq_true]
    rintro⟨x,y⟩ hm
    obtain⟨j,hj,hz⟩:=List.getElem_of_mem hm
    simp at hj
    obtain⟨x',y',v1,v2,v3⟩:=u3 9998 j (by omega)
    rw [Nat.zero_add] at v1 v2
    have e1:cx[j]? = some y:=by
      have:=congrArg Prod.snd hz
      simp at this
      rw [← this]
      simp
    have e2:cy[j]? = some x:=by
      have:=congrArg Prod.fst hz
      simp at this
      rw [← this]
      simp
    rw [e1] at v1
    rw [e2] at v2
    cases v1; cases v2
    exact v3
theorem Y0a {f : List Field} : ∀ {i : Nat} {l : List TypeDesc}, Q7k P f i = some l → ∀ n, (f.any fun f => f.name != "_" && P.eqGuardType (n + 1) f.type) = false := by
  induction f with
  | nil=>exact fun _ n=>rfl
  | cons x r ih =>
    intro i l h n
    obtain⟨d,l',_,h1,h2,h3,h4,h5⟩:=Q8e h
    rw [List.any_cons,ih h5 n,Bool.or_false]
    have:P.eqGuardType (n+1) x.type=false:=by
      cases d <;> first | (cases h2; done) | skip
      all_goals simp [Program.eqGuardType,h1]
    rw [this,Bool.and_false]
theorem eqS_ok {t:TypeId} {d:TypeDesc} {ox oy:Operand} {xs ys:List AV} {a b:Value} {r:Bool} (ht:P.underlying t=some d) (h:eqS P t d xs ys=some r) (hx:VR φ (.agg xs) a) (hy:VR φ (.agg ys) b):(∀ w,(Op.equal t a b).run P w = .ok r w) ∧
    (∀ op:BinOp,op = .eql ∨ op = .neq→binOp op t a b=match op with | .eql=>(do pure (.bool (← Op.equal t a b))) | _=>(do pure (.bool (!(← Op.equal t a b))))) ∧ ∀(op:BinOp) (w:World),(eqGuard op t ox oy a b).run P w = .ok () w:=by
  unfold eqS at h
  split at h <;> first | (cases h; done) | skip
  rename_i fl hfl
  simp only [VR] at hx hy
  obtain⟨cx,rfl,hx⟩:=hx
  obtain⟨cy,rfl,hy⟩:=hy
  obtain⟨q1,q2⟩:=Q6f ht hfl h hx.1 hy.1
  refine⟨q1,by rintro op (rfl | rfl) <;> rfl,fun op w=>run_eqGuard_agg w op t ox oy cx cy ?_⟩
  obtain⟨fs,rfl,_,h2⟩:=Z6n hfl
  have hd:P.depth=(2 * (P.types.size+Made.depth)+1)+1:=rfl
  have hd' : 2 * (P.types.size+Made.depth)+1=(2 * (P.types.size+Made.depth))+1:=rfl
  rw [hd]
  show(match P.underlying t with
    | some (.interface ms) => !ms.isEmpty
    | some (.struct fs) => fs.any fun f => f.name != "_" && P.eqGuardType (2 * (P.types.size + Made.depth) + 1) f.type
    | some (.array _ e)=>P.eqGuardType (2 * (P.types.size+Made.depth)+1) e
    | _=>false)=false
  rw [ht]
  show (fs.any fun f => f.name != "_" && P.eqGuardType (2 * (P.types.size + Made.depth) + 1) f.type) = false
  rw [← Array.any_toList]
  exact Y0a h2 _
theorem binA_ok {op:BinOp} {t:TypeId} {ox oy:Operand} {x y v:AV} {a b:Value} (h:binA P (isC ox || isC oy) op t x y=some v) (hx:VR φ x a) (hy:VR φ y b) :
    ∃ r,VR φ v r ∧ ∀ w,(do eqGuard op t ox oy a b; binOp op t a b:Sem Value).run P w = .ok r w:=by
  unfold binA at h; simp only [V3] at h
  split at h
  · rename_i k n k' m
    simp only [VR] at hx hy
    subst hx; subst hy
    have hg : ∀ w,(eqGuard op t ox oy (.int k n) (.int k' m)).run P w = .ok () w:=fun w=>eqg (by simp) (by simp)
    split at h
    · obtain⟨r,h1,h2⟩:=Z4m (P:=P) (φ := φ) (t:=t) (k' := k') h
      exact⟨r,h1,fun w=>by simp only [Sem.run_bind,hg,Result.andThen_ok,h2]⟩
    · obtain⟨r,h1,h2⟩:=Z4m (P:=P) (φ := φ) (t:=t) (k' := k') h
      exact⟨r,h1,fun w=>by simp only [Sem.run_bind,hg,Result.andThen_ok,h2]⟩
    · rename_i hs1 hs2
      split at h
      · rename_i hk
        subst hk
        obtain⟨r,h1,h2⟩:=Y2m (P:=P) (φ := φ) (t:=t) h ⟨hs1,hs2⟩
        exact⟨r,h1,fun w=>by simp only [Sem.run_bind,hg,Result.andThen_ok,h2]⟩
      · cases h
  · rename_i n m
    simp only [VR] at hx hy
    subst hx; subst hy
    obtain⟨r,h1,h2⟩:=Y1x (P:=P) (φ := φ) (t:=t) h
    exact⟨r,h1,fun w=>by simp only [Sem.run_bind,eqg (P:=P) (w:=w) (op:=op) (t:=t) (x:=ox) (y:=oy) (a := .string ⟨n.toArray⟩) (b := .string ⟨m.toArray⟩) (by simp) (by simp),Result.andThen_ok,h2]⟩
  · split at h
    · rename_i d ht
      split at h
      · split at h
        · rename_i r hr
          cases h
          obtain⟨h1,h2,h3⟩:=eqS_ok (ox:=ox) (oy:=oy) ht hr hx hy
          exact⟨.bool r,rfl,fun w=>by simp only [Sem.run_bind,h3,Result.andThen_ok,h2 .eql (.inl rfl),h1]; rfl⟩
        · cases h
      · split at h
        · rename_i r hr
          cases h
          obtain⟨h1,h2,h3⟩:=eqS_ok (ox:=ox) (oy:=oy) ht hr hx hy
          exact⟨.bool (!r),rfl,fun w=>by simp only [Sem.run_bind,h3,Result.andThen_ok,h2 .neq (.inr rfl),h1]; rfl⟩
        · cases h
      · cases h
    · cases h
  · split at h
    · rename_i d ht
      split at h
      · split at h
        · rename_i r hr
          cases h
          obtain⟨h1,h2,h3⟩:=eqA_ok rfl ht hr hx hy
          exact⟨.bool r,rfl,fun w=>by simp only [Sem.run_bind,h3,Result.andThen_ok,h2 .eql (.inl rfl),h1]; rfl⟩
        · cases h
      · split at h
        · rename_i r hr
          cases h
          obtain⟨h1,h2,h3⟩:=eqA_ok rfl ht hr hx hy
          exact⟨.bool (!r),rfl,fun w=>by simp only [Sem.run_bind,h3,Result.andThen_ok,h2 .neq (.inr rfl),h1]; rfl⟩
        · cases h
      · cases h
    · cases h
theorem unA_ok {op:UnOp} {x v:AV} {a:Value} (h:unA op x=some v) (hx:VR φ x a) : ∃ r,VR φ v r ∧ ∀ w,(Op.unary op a).run P w = .ok r w:=by
  unfold unA at h
  split at h
  · simp only [VR] at hx
    subst hx
    split at h <;> cases h
    · exact⟨_,rfl,fun w=>by simp [Op.unary,Op.intArith]⟩
    · exact⟨_,rfl,fun w=>by simp [Op.unary,Op.intBits]⟩
  · simp only [VR] at hx
    subst hx
    split at h <;> cases h
    exact⟨_,rfl,fun w=>by simp [Op.unary]⟩
  · cases h
theorem conv_ok {s t:TypeId} {u:Option AV} {v:AV} {a:Value} {sd:TypeDesc} (hs:P.underlying s=some sd) (h:conv P t u=some v) (hx : ∀ x,u=some x→VR φ x a) : ∃ r,VR φ v r ∧ ∀ w,(convert s t a).run P w = .ok r w:=by
  unfold conv at h; simp only [V3] at h
  split at h
  · rename_i k ht
    split at h
    · rename_i k' n
      have hx:=hx _ rfl
      simp only [VR] at hx
      subst hx
      split at h <;> cases h
      · exact⟨_,rfl,fun w=>by simp [convert,run_underlying hs,run_underlying ht,Conv.intToInt,Q6k]⟩
      · exact⟨_,rfl,fun w=>by simp [convert,run_underlying hs,run_underlying ht,Conv.intToInt]⟩
    · cases h
  · rename_i ht
    split at h
    · have hx:=hx _ rfl
      simp only [VR] at hx
      subst hx
      cases h
      exact⟨_,rfl,fun w=>by simp [convert,run_underlying hs,run_underlying ht]⟩
    · cases h
  · cases h
end
end Go.Proofs.YtecakklofhfphaaGreatDoor.AMX
namespace Go.Proofs.YtecakklofhfphaaGreatDoor.AMX
noncomputable section
variable {φ : Mp} {P:Program} {w:World}

theorem G7 {t:TypeId} {n:Nat} (h:(szO P t).n=some n) (w:World):(sizeOf t).run P w = .ok n w:=by
  unfold szO at h; simp only [K2] at h
  split at h
  · rename_i i hi
    cases h
    simp [sizeOf,typeInfo,program,hi,Sem.run,bind,Sem.bind,pure]
  · cases h
theorem Q8d {t:TypeId} (h:agO P t = .agg) (w:World):(isAgg t).run P w = .ok true w:=by
  unfold agO at h; simp only [V3] at h
  split at h <;> first | (cases h; done) | skip
  · rename_i fs ht
    simp [isAgg,run_underlying ht]
  · rename_i n e ht
    simp [isAgg,run_underlying ht]
theorem Q8c {t:TypeId} (h:agO P t = .one) (w:World):(isAgg t).run P w = .ok false w:=by
  unfold agO at h; simp only [V3] at h
  split at h <;> first | (cases h; done) | skip
  rename_i d h1 h2 ht
  cases d <;> first | (exact absurd rfl (h1 _)) | (exact absurd rfl (h2 _ _)) | simp [isAgg,run_underlying ht]
theorem Z7u {t:TypeId} {l:List AV} {off:Nat} {v:AV} {cs:Array Value} (h:partA P t l off=some v) (hl:VRs φ l cs.toList) (h1:U4 l=true) : ∃ x,VR φ v x ∧ ∀ w,(part t cs off).run P w = .ok x w:=by
  unfold partA at h
  split at h
  · rename_i ha
    split at h
    · rename_i n hn
      cases h
      rw [Q4f,Q4x]
      refine⟨.agg (cs.extract off (off+n)),?_,fun w => ?_⟩
      · simp only [VR]
        refine⟨_,rfl,?_,?_⟩
        · have:(cs.extract off (off+n)).toList=(cs.toList.drop off).take n:=by simp [Array.toList_extract,List.extract_eq_take_drop]
          rw [this]
          exact hl.sub off n
        · refine P9 fun i a hi => ?_
          rw [List.getElem?_take] at hi
          split at hi
          · rw [List.getElem?_drop] at hi
            exact U8 h1 hi
          · cases hi
      · simp [part,Q8d ha,G7 hn]
    · cases h
  · rename_i ha
    rw [Z2a] at h
    obtain⟨x,h2,h3⟩:=hl.get h
    have h2' : cs[off]? = some x:=by simpa using h2
    exact⟨x,h3,fun w=>by simp [part,Q8c ha,h2']⟩
  · cases h
theorem Z8t {o:Option Operand} {s:Sl} {d n:Nat} {a:Act} (h:M5 o s d=some n) (hs:SR φ s a):(o=none∧n=d) ∨ ∃ x k,o=some x∧a.eval x = .int k (n:Int):=by
  unfold M5 at h
  split at h
  · cases h; exact .inl ⟨rfl,rfl⟩
  · rename_i x
    refine .inr ⟨x,?_⟩
    unfold Q8y at h
    split at h
    · rename_i k m hv
      cases h
      have:=Y3 hs hv
      simp only [VR] at this
      exact⟨k,rfl,this⟩
    · cases h
theorem I4 {k:IntKind} {n y:Nat} {c:BoundsCode} (h:n≤y) (w:World):(Instr.sliceBound (.int k (n:Int)) y c).run P w = .ok n w:=by
  have h2:(n:Int)≤(y:Int):=by omega
  simp [Instr.sliceBound,asIntOf,h2]
theorem Q5h {lo hi:Option Operand} {s:Sl} {a:Act} {len cap l h:Nat} {b:Bool} (hs:SR φ s a) (hh:M5 hi s len=some h) (hl:M5 lo s 0=some l) (h1:l≤h) (h2:h≤cap) (hlen:len≤cap) (w:World) :
    (Instr.sliceBounds b len cap (lo.map a.eval) (hi.map a.eval) none).run P w = .ok (l,h,cap) w:=by
  rcases Z8t hh hs with ⟨rfl,rfl⟩ | ⟨x,k,rfl,hx⟩ <;> rcases Z8t hl hs with ⟨rfl,rfl⟩ | ⟨y,k',rfl,hy⟩
  · simp [Instr.sliceBounds]
  · simp [Instr.sliceBounds,hy,I4 h1]
  · simp [Instr.sliceBounds,hx,I4 h2]
  · simp [Instr.sliceBounds,hx,hy,I4 h1,I4 h2]
theorem ba_ext (s:List UInt8) (l h:Nat):(ByteArray.mk s.toArray).extract l h=⟨((s.drop l).take (h - l)).toArray⟩:=by
  apply ByteArray.ext
  rw [ByteArray.data_extract]
  apply Array.ext'
  simp [List.extract_eq_take_drop]
theorem Y2b {t:TypeId} {x:Operand} {lo hi mx:Option Operand} {s:Sl} {a:Act} {v:AV} (hs:SR φ s a) (h:Z5u P t ((opd x).run s) lo hi mx s=some v) :
    ∃ r,VR φ v r ∧ ∀ w,(Instr.sliceAt t (a.eval x) (lo.map a.eval) (hi.map a.eval) (mx.map a.eval)).run P w = .ok r w:=by
  unfold Z5u at h; simp only [V3] at h
  split at h
  · rename_i b hx
    have hx:=Y3 hs hx
    simp only [VR] at hx
    split at h <;> first | (cases h; done) | skip
    rename_i ht
    split at h <;> first | (cases h; done) | skip
    split at h <;> first | (cases h; done) | skip
    rename_i n hn
    split at h <;> first | (cases h; done) | skip
    rename_i l hl
    obtain⟨hb,h⟩:=cN h
    cases h
    obtain⟨hb1,hb2⟩:=X0 hb
    have hb1:=Nat.le_of_ble_eq_true hb1
    have hb2:=Nat.le_of_ble_eq_true hb2
    have hz:(⟨b.toArray⟩:ByteArray).size=b.length:=by simp [ByteArray.size]
    refine⟨_,rfl,fun w => ?_⟩
    simp only [Instr.sliceAt,Sem.run_bind,run_underlying ht,Result.andThen_ok,hx,Instr.slice,Option.map_none,Option.isSome_none,Bool.false_eq_true,if_false,hz,Q5h hs hn hl hb1 hb2 (Nat.le_refl _),ba_ext]
    rfl
  · rename_i id off len cap z hx
    have hx:=Y3 hs hx
    simp only [VR] at hx
    obtain⟨q,c,o,hq,hx,ho,hlc,hc1,hc0⟩:=hx
    split at h <;> first | (cases h; done) | skip
    rename_i e ht
    split at h <;> first | (cases h; done) | skip
    rename_i E hE
    have hE' : E.e=e∧(szO P e).n=some E.sz:=by
      simp only [elE,elO,V3,ht] at hE
      split at hE
      · rename_i z hz; cases hE; exact⟨rfl,hz⟩
      · cases hE
    split at h <;> first | (cases h; done) | skip
    split at h <;> first | (cases h; done) | skip
    rename_i n hn
    split at h <;> first | (cases h; done) | skip
    rename_i l hl
    obtain⟨hb,h⟩:=cN h
    obtain⟨hb,hb3⟩:=X0 hb
    obtain⟨hb1,hb2⟩:=X0 hb
    have hb1:=Nat.le_of_ble_eq_true hb1
    have hb2:=Nat.le_of_ble_eq_true hb2
    have hb3:=Nat.eq_of_beq_eq_true hb3
    have hrun : ∀ w,(Instr.sliceAt t (a.eval x) (lo.map a.eval) (hi.map a.eval) (Option.map a.eval none)).run P w = .ok (.slice (if c=l then some ⟨q.b,o,none⟩ else some ⟨q.b,o+l * E.sz,none⟩) (n - l) (c - l)) w:=by
      intro w
      have hadd : ∀ k,(⟨q.b,o,none⟩:Addr).add k=⟨q.b,o+k,none⟩:=fun k=>by unfold Addr.add; split <;> simp_all
      simp only [Instr.sliceAt,Sem.run_bind,run_underlying ht,Result.andThen_ok,hx,Instr.slice,Option.map_none,Q5h hs hn hl hb1 (Nat.le_trans hb2 hlc) hlc,G7 hE'.2,Option.map_some,hadd]
      rfl
    refine⟨_,?_,hrun⟩
    have hmul:l * z+(c - l) * z=c * z:=by rw [← Nat.add_mul]; congr 1; omega
    split at h
    · cases h
      simp only [VR]
      by_cases hcl:c=l
      · rw [if_pos hcl]
        refine⟨q,c - l,o,hq,rfl,?_,by omega,by simp,?_⟩
        · rintro(hne | hne)
          · exact absurd (show n - l=0 by omega) hne
          · exact absurd rfl hne
        · omega
      · rw [if_neg hcl]
        refine⟨q,c - l,o+l * E.sz,hq,rfl,?_,by omega,by simp,?_⟩
        · rintro(hne | hne)
          · rw [ho (.inl (by omega))]; omega
          · exact absurd rfl hne
        · rw [← hb3]; omega
    · rename_i c' _
      have hcc:=hc1 (by simp)
      have ho' := ho (.inr (by simp))
      cases hlt:Nat.blt l (c' + 1) with
      | true =>
        rw [hlt] at h
        cases h
        have hlt:l < c' + 1:=Nat.le_of_ble_eq_true hlt
        simp only [VR]
        rw [if_neg (by omega)]
        exact⟨q,c - l,o+l * E.sz,hq,rfl,fun _=>by rw [ho']; omega,by omega,fun _=>by omega,by rw [← hb3]; omega⟩
      | false =>
        rw [hlt] at h
        cases h
        have hge : ¬ l < c' + 1:=fun hh=>by rw [bltB,decide_eq_true hh] at hlt; cases hlt
        simp only [VR]
        rw [if_pos (by omega),show n - l=0 by omega]
        refine⟨q,c - l,o,hq,rfl,?_,by omega,by simp,?_⟩
        · rintro(hne | hne)
          · exact absurd rfl hne
          · exact absurd rfl hne
        · omega
  · rename_i hx
    have hx:=Y3 hs hx
    simp only [VR] at hx
    split at h <;> first | (cases h; done) | skip
    rename_i e ht
    split at h <;> first | (cases h; done) | skip
    rename_i E hE
    have hE' : E.e=e∧(szO P e).n=some E.sz:=by
      simp only [elE,elO,V3,ht] at hE
      split at hE
      · rename_i z hz; cases hE; exact⟨rfl,hz⟩
      · cases hE
    split at h <;> first | (cases h; done) | skip
    split at h <;> first | (cases h; done) | skip
    rename_i hn
    split at h <;> first | (cases h; done) | skip
    rename_i hl
    cases h
    refine⟨.slice none 0 0,by simp only [VR],fun w => ?_⟩
    simp only [Instr.sliceAt,Sem.run_bind,run_underlying ht,Result.andThen_ok,hx,Instr.slice,Option.map_none,Q5h hs hn hl (Nat.le_refl _) (Nat.le_refl _) (Nat.le_refl _),G7 hE'.2]
    rfl
  · cases h

theorem Q3l {i:Int} {n k:Nat} (h:Q7g i n=some k):i=(k:Int)∧k < n:=by
  unfold Q7g at h
  split at h
  · rename_i m
    obtain⟨h1,h2⟩:=cN h
    cases h2
    exact⟨rfl,Nat.le_of_ble_eq_true h1⟩
  · cases h
theorem Q1j {t:TypeId} {E:El} (h:(elE P t).e=some E):(szO P E.e).n=some E.sz∧((E.n=none∧P.underlying t=some (.slice E.e)) ∨ ∃ n,E.n=some n∧P.underlying t=some (.array n E.e)):=by
  simp only [elE,elO,V3] at h
  split at h <;> first | (cases h; done) | skip
  · rename_i e ht
    split at h
    · rename_i z hz; cases h; exact⟨hz,.inl ⟨rfl,ht⟩⟩
    · cases h
  · rename_i n e ht
    split at h
    · rename_i z hz; cases h; exact⟨hz,.inr ⟨n,rfl,ht⟩⟩
    · cases h
theorem add_lit (b o k:Nat):(⟨b,o,none⟩:Addr).add k=⟨b,o+k,none⟩:=by unfold Addr.add; split <;> simp_all
theorem idxA_ok {t:TypeId} {E:El} {x i:Operand} {s:Sl} {a:Act} {v:AV} (hE:(elE P t).e=some E) (hs:SR φ s a) (h:idxA E ((opd x).run s) ((opd i).run s)=some v) :
    ∃ r,VR φ v r ∧ ∀ w,(Instr.indexAt t (a.eval x) (a.eval i)).run P w = .ok r w:=by
  obtain⟨hz,hE⟩:=Q1j hE
  unfold idxA at h
  split at h
  · rename_i id off n cap z hx
    have hx:=Y3 hs hx
    simp only [VR] at hx
    obtain⟨q,c,o,hq,hx,ho,hlc,_,_⟩:=hx
    split at h
    · rename_i hn
      obtain⟨hzz,h⟩:=cN h
      have hzz:=Nat.eq_of_beq_eq_true hzz
      split at h <;> first | (cases h; done) | skip
      rename_i k m hi
      have hi:=Y3 hs hi
      simp only [VR] at hi
      split at h <;> first | (cases h; done) | skip
      rename_i j hj
      cases h
      obtain⟨rfl,hlt⟩:=Q3l hj
      rcases hE with ⟨_,ht⟩ | ⟨m,hm,_⟩
      · refine⟨.pointer (some ⟨q.b,q.base+(off+j * E.sz),none⟩),by simp only [VR]; exact⟨q,hq,rfl⟩,fun w => ?_⟩
        have ho' := ho (.inl (by omega))
        have h1:(0:Int)≤(j:Int)∧(j:Int) < (n:Int):=by omega
        simp only [Instr.indexAt,Sem.run_bind,hi,hx,asIntOf,Sem.run_pure,Result.andThen_ok,run_underlying ht,h1,and_self,if_true,G7 hz,Int.toNat_natCast,add_lit]
        subst ho'
        rw [Nat.add_assoc]
      · rw [hn] at hm; cases hm
    · cases h
  · rename_i id off hx
    have hx:=Y3 hs hx
    simp only [VR] at hx
    obtain⟨q,hq,hx⟩:=hx
    split at h <;> first | (cases h; done) | skip
    rename_i n hn
    split at h <;> first | (cases h; done) | skip
    rename_i k m hi
    have hi:=Y3 hs hi
    simp only [VR] at hi
    split at h <;> first | (cases h; done) | skip
    rename_i j hj
    cases h
    obtain⟨rfl,hlt⟩:=Q3l hj
    rcases hE with ⟨hm,_⟩ | ⟨m,hm,ht⟩
    · rw [hn] at hm; cases hm
    · rw [hn] at hm; cases hm
      refine⟨.pointer (some ⟨q.b,q.base+(off+j * E.sz),none⟩),by simp only [VR]; exact⟨q,hq,rfl⟩,fun w => ?_⟩
      have h1:(0:Int)≤(j:Int)∧(j:Int) < (n:Int):=by omega
      simp only [Instr.indexAt,Instr.sureAddr,Sem.run_bind,hi,hx,asIntOf,Sem.run_pure,Result.andThen_ok,run_underlying ht,h1,and_self,if_true,G7 hz,Int.toNat_natCast,add_lit]
      rw [Nat.add_assoc]
  · cases h
theorem Y2n {t:TypeId} {x i:Operand} {s:Sl} {a:Act} {v:AV} (hs:SR φ s a) (h:Z9z P t ((opd x).run s) ((opd i).run s)=some v) :
    ∃ r,VR φ v r ∧ ∀ w,(Instr.index t (a.eval x) (a.eval i)).run P w = .ok r w:=by
  unfold Z9z at h; simp only [V3] at h
  split at h
  · rename_i l hx
    have hx:=Y3 hs hx
    simp only [VR] at hx
    split at h <;> first | (cases h; done) | skip
    rename_i ht
    split at h <;> first | (cases h; done) | skip
    rename_i k j hi
    have hi:=Y3 hs hi
    simp only [VR] at hi
    split at h <;> first | (cases h; done) | skip
    rename_i c hc
    cases h
    refine⟨.int .u8 (c.toNat:Int),by simp only [VR]; rfl,fun w => ?_⟩
    have hb:(ByteArray.mk l.toArray)[j]? = some c:=by
      simp only [getElem?_def] at hc ⊢
      split at hc
      · rename_i hj
        rw [dif_pos (by simpa [ByteArray.size] using hj)]
        cases hc
        rfl
      · cases hc
    simp [Instr.index,hi,hx,asIntOf,run_underlying ht,hb]
  · rename_i l hx
    have hx:=Y3 hs hx
    simp only [VR] at hx
    obtain⟨cs,hx,hl,h1⟩:=hx
    split at h <;> first | (cases h; done) | skip
    rename_i n e ht
    split at h <;> first | (cases h; done) | skip
    rename_i z hz
    split at h <;> first | (cases h; done) | skip
    rename_i k m hi
    have hi:=Y3 hs hi
    simp only [VR] at hi
    split at h <;> first | (cases h; done) | skip
    rename_i j hj
    obtain⟨rfl,hlt⟩:=Q3l hj
    obtain⟨r,hr1,hr2⟩:=Z7u h hl h1
    refine⟨r,hr1,fun w => ?_⟩
    have h1:(0:Int)≤(j:Int)∧(j:Int) < (n:Int):=by omega
    simp only [Instr.index,Sem.run_bind,hi,hx,asIntOf,Sem.run_pure,Result.andThen_ok,run_underlying ht,h1,and_self,if_true,G7 hz,Int.toNat_natCast,hr2]
  · cases h
theorem offO_ok {t:TypeId} {f o:Nat} (h:(offO P t f).f=some o) {a:Addr} {x:Value} (hx:x = .pointer (some a)) (w:World):(Instr.fieldAt t x f).run P w = .ok (.pointer (some (a.add o))) w:=by
  unfold offO at h
  split at h <;> first | (cases h; done) | skip
  rename_i fd hfd
  split at h <;> first | (cases h; done) | skip
  rename_i z hz
  cases h
  unfold Z6o at hfd; simp only [V3] at hfd
  split at hfd <;> first | (cases hfd; done) | skip
  rename_i fs ht
  subst hx
  simp [Instr.fieldAt,run_underlying ht,hfd,Instr.sureAddr,fieldPlace,G7 hz]
theorem lenA_ok {t ty:TypeId} {x:Operand} {s:Sl} {a:Act} {v:AV} (hs:SR φ s a) (h:X1 P t ((opd x).run s)=some v) :
    ∃ r,VR φ v r ∧ ∀ w,(Builtin.len_ #[t] ty #[a.eval x]).run P w = .ok r w:=by
  unfold X1 at h; simp only [V3] at h
  split at h
  · rename_i b hx
    have hx:=Y3 hs hx
    simp only [VR] at hx
    split at h <;> first | (cases h; done) | skip
    rename_i ht
    cases h
    exact⟨_,by simp only [VR]; rfl,fun w=>by
      have hz:(⟨b.toArray⟩:ByteArray).size=b.length:=by simp [ByteArray.size]
      simp [Builtin.len_,hx,run_underlying ht,goInt,hz]⟩
  · have hx:=Y3 hs (by assumption)
    simp only [VR] at hx
    obtain⟨q,c,o,hq,hx,_⟩:=hx
    split at h <;> first | (cases h; done) | skip
    rename_i ht
    cases h
    exact⟨_,by simp only [VR]; rfl,fun w=>by simp [Builtin.len_,hx,run_underlying ht,goInt]⟩
  · have hx:=Y3 hs (by assumption)
    simp only [VR] at hx
    split at h <;> first | (cases h; done) | skip
    rename_i ht
    cases h
    exact⟨_,by simp only [VR]; rfl,fun w=>by simp [Builtin.len_,hx,run_underlying ht,goInt]⟩
  · cases h
end
end Go.Proofs.YtecakklofhfphaaGreatDoor.AMX
namespace Go.Proofs.YtecakklofhfphaaGreatDoor.AMX
noncomputable section
variable {φ : Mp} {P:Program} {w:World}

theorem nC {α : Type} {b:Bool} {x:Option α} {y : α} (h:(bif b then none else x)=some y):b=false∧x=some y:=by cases b <;> first | exact⟨rfl,h⟩ | cases h
theorem Y1g (off:Nat) : ∀(us:List Value) (k:Nat) (cs:Array Value),off+k+us.length≤cs.size →
    ((us.zipIdx k).foldl (fun(cs:Array Value) (p:Value×Nat)=>cs.setIfInBounds (off+p.2) p.1) cs).size=cs.size ∧
    ∀ j:Nat,((us.zipIdx k).foldl (fun(cs:Array Value) (p:Value×Nat)=>cs.setIfInBounds (off+p.2) p.1) cs)[j]? = if off+k≤j∧j < off+k+us.length then us[j - (off+k)]? else cs[j]?
  | [],k,cs,h=>by
    refine⟨rfl,fun j => ?_⟩
    rw [if_neg (by simp only [List.length_nil]; omega)]
    rfl
  | u::us,k,cs,h=>by
    have ih:=Y1g off us (k+1) (cs.setIfInBounds (off+k) u) (by simp at h ⊢; omega)
    simp only [List.zipIdx_cons,List.foldl_cons]
    refine⟨by rw [ih.1]; simp,fun j => ?_⟩
    rw [ih.2]
    by_cases h1:off+(k+1)≤j∧j < off+(k+1)+us.length
    · rw [if_pos h1,if_pos (by simp; omega)]
      rw [show j - (off+k)=j - (off+(k+1))+1 by omega,List.getElem?_cons_succ]
    · rw [if_neg h1]
      by_cases h2:j=off+k
      · subst h2
        rw [if_pos (by simp)]
        have h3:off+k < cs.size:=by simp only [List.length_cons] at h; omega
        simp [h3]
      · rw [if_neg (by simp; omega),Array.getElem?_setIfInBounds_ne (fun e=>h2 e.symm)]
theorem Z2q {place:Nat→Option (Nat×Nat)} : ∀ {l:List (Nat×AV)} {ps:List (Nat×Value)} {m m' : List AV} {cs:Array Value},
    Q9e place m l=some m' → VRs φ m cs.toList→U4 m=true→ps.map (·.1)=l.map (·.1)→VRs φ (l.map (·.2)) (ps.map (·.2)) →
    ∃ cs',Instr.fill place cs ps=some cs' ∧ VRs φ m' cs'.toList∧U4 m' = true
  | [],ps,m,m',cs,h,hm,h1,hp,_=>by
    cases h
    have:ps = []:=by simpa using hp
    subst this
    exact⟨cs,rfl,hm,h1⟩
  | p::l,[],m,m',cs,h,hm,h1,hp,_=>by simp at hp
  | p::l,(i,v)::ps,m,m',cs,h,hm,h1,hp,hv=>by
    simp only [List.map_cons,List.cons.injEq] at hp
    obtain⟨hi,hp⟩:=hp
    simp only [List.map_cons,VRs] at hv
    obtain⟨v',r,he,hv1,hv2⟩:=hv
    cases he
    unfold Q9e at h
    split at h <;> first | (cases h; done) | skip
    rename_i q hq
    obtain⟨hb,h⟩:=cN h
    obtain⟨hb,hb3⟩:=X0 hb
    obtain⟨hb1,hb2⟩:=X0 hb
    have hb2:=Nat.eq_of_beq_eq_true hb2
    have hb3:=Nat.le_of_ble_eq_true hb3
    rw [N1] at hb2 hb3
    obtain⟨hc1,hc2⟩:=C8 hv1 hb1
    have hcl:v.cells.size=q.2:=by have:=hc1.len; simp at this; omega
    have hcs:cs.size=m.length:=by have:=hm.len; simpa using this
    have hf:=Y1g q.1 v.cells.toList 0 cs (by simp; omega)
    have hfold:v.cells.zipIdx.foldl (fun(cs:Array Value) (p:Value×Nat)=>cs.setIfInBounds (q.1+p.2) p.1) cs=(v.cells.toList.zipIdx 0).foldl (fun(cs:Array Value) (p:Value×Nat)=>cs.setIfInBounds (q.1+p.2) p.1) cs:=by
      rw [← Array.foldl_toList,Array.toList_zipIdx]
    obtain⟨cs',e1,e2,e3⟩:=Z2q (ps:=ps) (cs:=(v.cells.toList.zipIdx 0).foldl (fun(cs:Array Value) (p:Value×Nat)=>cs.setIfInBounds (q.1+p.2) p.1) cs) h (by
      refine VRs.of (by simp [hf.1,Q7z,hcs]) fun j a x ha hx => ?_
      rw [Q5c _ _ _ (by omega)] at ha
      have hx' : ((v.cells.toList.zipIdx 0).foldl (fun(cs:Array Value) (p:Value×Nat)=>cs.setIfInBounds (q.1+p.2) p.1) cs)[j]? = some x:=by simpa using hx
      rw [hf.2] at hx'
      have hlen:v.cells.toList.length=p.2.cells.length:=hc1.len
      by_cases hj:q.1≤j∧j < q.1+p.2.cells.length
      · rw [if_pos hj] at ha
        rw [if_pos (by rw [hlen]; omega)] at hx'
        obtain⟨x',k1,k2⟩:=hc1.get ha
        rw [Nat.add_zero,k1] at hx'
        cases hx'
        exact k2
      · rw [if_neg hj] at ha
        rw [if_neg (by rw [hlen]; omega)] at hx'
        obtain⟨x',k1,k2⟩:=hm.get ha
        have:cs[j]? = some x' := by simpa using k1
        rw [this] at hx'
        cases hx'
        exact k2) (by
      refine P9 fun j a ha => ?_
      rw [Q5c _ _ _ (by omega)] at ha
      split at ha
      · exact U8 hc2 ha
      · exact U8 h1 ha) hp hv2
    refine⟨cs',?_,e2,e3⟩
    have hle : ¬ (v.cells.size ≠ q.2 || cs.size < q.1+v.cells.size):=by simp; omega
    unfold Instr.fill
    rw [← hi] at hq
    simp only [hq]
    rw [if_neg (by simp; omega)]
    rw [hfold]
    exact e1
theorem Y0b {s:Sl} {a:Act} (hs:SR φ s a) : ∀ {ps:List (Nat×Operand)} {l:List (Nat×AV)},evP s ps=some l→(ps.map fun p=>(p.1,a.eval p.2)).map (·.1)=l.map (·.1)∧VRs φ (l.map (·.2)) ((ps.map fun p=>(p.1,a.eval p.2)).map (·.2))
  | [],l,h=>by cases h; exact⟨rfl,by simp [VRs]⟩
  | p::r,l,h=>by
    unfold evP at h
    split at h <;> first | (cases h; done) | skip
    rename_i v hv
    split at h <;> first | (cases h; done) | skip
    rename_i m hm
    cases h
    obtain⟨h1,h2⟩:=Y0b hs hm
    refine⟨by simp only [List.map_cons,h1],?_⟩
    simp only [List.map_cons,VRs]
    exact⟨_,_,rfl,Y3 hs hv,h2⟩
theorem Z1q : ∀ {fs:List Field} {l:List (Nat×Nat)},Z0g P fs=some l→fs.mapM (fun f=>(P.info? f.type).map fun i=>(f.offset,i.size))=some l
  | [],l,h=>by cases h; rfl
  | f::r,l,h=>by
    unfold Z0g at h; simp only [K2] at h
    split at h <;> first | (cases h; done) | skip
    rename_i i hi
    split at h <;> first | (cases h; done) | skip
    rename_i m hm
    cases h
    simp [List.mapM_cons,hi,Z1q hm]
theorem B6 {t:TypeId} {z:AV} (h:(L9 P t).v=some z) : ∃ i u,P.info? t=some i∧i.zero=some u∧VR φ z u:=by
  unfold L9 at h; simp only [K2] at h
  split at h <;> first | (cases h; done) | skip
  rename_i i hi
  split at h <;> first | (cases h; done) | skip
  rename_i u hu
  exact⟨i,u,hi,hu,ofV_VR h⟩
theorem ofV_lone {v:Value} {a:AV} (h:ofV v=some a):a.lone=true:=by
  unfold ofV at h
  split at h
  · split at h
    · cases h; rfl
    · cases h
  · have:=Z7x h
    cases a <;> first | rfl | cases this
theorem N3 {t:TypeId} {z:AV} (h:(L9 P t).v=some z):z.lone=true:=by
  unfold L9 at h; simp only [K2] at h
  split at h <;> first | (cases h; done) | skip
  split at h <;> first | (cases h; done) | skip
  exact ofV_lone h
theorem build_ok {t:TypeId} {ps:Array (Nat×Operand)} {s:Sl} {a:Act} {z:AV} {pl:Nat→Option (Nat×Nat)} {l:List (Nat×AV)} {m:List AV} (hs:SR φ s a) (hz:(L9 P t).v=some z) (hp:(Z9q P t).f=some pl) (hl:evP s ps.toList=some l) (hm:Q9e pl z.cells l=some m) :
    ∃ r,VR φ (.agg m) r ∧ ∀ w,(Instr.build t (ps.map fun(i,x)=>(i,a.eval x))).run P w = .ok r w:=by
  obtain⟨it,u,hi,hu,hzv⟩:=B6 (φ := φ) hz
  obtain⟨h1,h2⟩:=C8 hzv (N3 hz)
  obtain⟨e1,e2⟩:=Y0b hs hl
  obtain⟨cs,f1,f2,f3⟩:=Z2q (cs:=u.cells) hm h1 h2 e1 e2
  have hps:(ps.map fun(i,x)=>(i,a.eval x)).toList=ps.toList.map fun p=>(p.1,a.eval p.2):=by simp
  refine⟨.agg cs,by simp only [VR]; exact⟨cs,rfl,f2,f3⟩,fun w=>run_build w t _ cs ?_⟩
  rw [hps]
  unfold Program.built
  unfold Z9q at hp; simp only [V3] at hp
  split at hp <;> first | (cases hp; done) | skip
  · rename_i fs ht
    split at hp <;> first | (cases hp; done) | skip
    rename_i pls hpl
    cases hp
    simp only [hi,ht,hu,Z1q hpl]
    simpa using f1
  · rename_i n e ht
    split at hp <;> first | (cases hp; done) | skip
    rename_i y hy
    cases hp
    have : ∃ ie,P.info? e=some ie∧ie.size=y:=by
      unfold szO at hy; simp only [K2] at hy
      split at hy
      · rename_i ie he; cases hy; exact⟨ie,he,rfl⟩
      · cases hy
    obtain⟨ie,he,rfl⟩:=this
    simp only [hi,ht,hu,he]
    exact f1
theorem iface_ok {t:TypeId} {x:Value} (h:Q7e P t=false) (w:World):(Instr.makeInterface t x).run P w = .ok (.iface t x) w:=by
  unfold Q7e at h; simp only [V3] at h
  split at h <;> first | (cases h; done) | skip
  rename_i d h1 ht
  cases d <;> first | (exact absurd rfl (h1 _)) | simp [Instr.makeInterface,run_underlying ht]

theorem pureOk {o:Oper} {f:Sl→Option AV} {s:Sl} {v:AV} {a:Act} (hk:Q5q P o.op=some f) (hs:SR φ s a) (hf:f s=some v) : ∃ x,VR φ v x ∧ ∀ w,(execOp a.eval o).run P w = .ok (.value x) w:=by
  obtain⟨dst,op,ty,pos,aft,gd⟩:=o
  simp only at hk
  cases op <;> simp only [Q5q,V3] at hk <;> first | (cases hk; done) | skip
  case move x=>cases hk; exact⟨_,Y3 hs hf,fun w=>rfl⟩
  case assign x=>cases hk; exact⟨_,Y3 hs hf,fun w=>rfl⟩
  case pick c x y =>
    cases hk
    simp only at hf
    split at hf <;> first | (cases hf; done) | skip
    rename_i b hb
    have hb:=Y3 hs hb
    simp only [VR] at hb
    cases b with
    | true=>exact⟨_,Y3 hs hf,fun w=>by simp [execOp,hb,asBool]⟩
    | false=>exact⟨_,Y3 hs hf,fun w=>by simp [execOp,hb,asBool]⟩
  case nilCheck x =>
    cases hk
    simp only at hf
    split at hf <;> first | (cases hf; done) | skip
    · rename_i p q hx
      cases hf
      have hx:=Y3 hs hx
      refine⟨_,hx,fun w => ?_⟩
      simp only [VR] at hx
      obtain⟨q,_,hx⟩:=hx
      simp [execOp,hx]
    · rename_i p q hx
      cases hf
      have hx:=Y3 hs hx
      refine⟨_,hx,fun w => ?_⟩
      simp only [VR] at hx
      obtain⟨q,hx,_⟩:=hx
      simp [execOp,hx]
  case binOp op t x y t2 =>
    cases hk
    simp only at hf
    split at hf <;> first | (cases hf; done) | skip
    rename_i p hp
    split at hf <;> first | (cases hf; done) | skip
    rename_i q hq
    obtain⟨r,h1,h2⟩:=binA_ok (ox:=x) (oy:=y) hf (Y3 hs hp) (Y3 hs hq)
    exact⟨r,h1,fun w=>by simp only [execOp,Sem.run_bind] at h2 ⊢; rw [h2]; rfl⟩
  case unOp op t x =>
    cases hk
    simp only at hf
    split at hf <;> first | (cases hf; done) | skip
    rename_i p hp
    obtain⟨r,h1,h2⟩:=unA_ok (P:=P) hf (Y3 hs hp)
    exact⟨r,h1,fun w=>by simp only [execOp,Sem.run_bind,h2,Result.andThen_ok]; rfl⟩
  case convert t1 t2 x =>
    split at hk <;> first | (cases hk; done) | skip
    rename_i d hd
    obtain⟨_,hk⟩:=nC hk
    cases hk
    obtain⟨r,h1,h2⟩:=conv_ok hd hf (fun u hu=>Y3 hs hu)
    exact⟨r,h1,fun w=>by simp only [execOp,Sem.run_bind,h2,Result.andThen_ok]; rfl⟩
  case makeInterface t x =>
    cases hb:Q7e P t with
    | true=>rw [hb] at hk; cases hk
    | false =>
      rw [hb] at hk
      cases hk
      simp only at hf
      split at hf <;> first | (cases hf; done) | skip
      rename_i u hu
      cases hf
      exact⟨_,by simp only [VR]; exact⟨_,rfl,Y3 hs hu⟩,fun w=>by simp only [execOp,Sem.run_bind,iface_ok hb,Result.andThen_ok]; rfl⟩
  case makeFunc fn first cap =>
    split at hk <;> first | (cases hk; done) | skip
    rename_i g
    split at hk
    rotate_left
    · split at hk <;> first | (cases hk; done) | skip
      rename_i hca
      cases hk
      simp only at hf
      split at hf <;> first | (cases hf; done) | skip
      rename_i l hl
      cases hf
      have h1:=Q3p hs hl
      have h2:cap = #[]:=by simpa using hca
      subst h2
      refine⟨.func (.func g) (first.map a.eval) #[],by simp only [VR]; exact⟨_,rfl,by simpa using h1⟩,fun w => ?_⟩
      simp [execOp,Instr.makeFunc]
    rename_i hfi
    cases hk
    simp only at hf
    split at hf <;> first | (cases hf; done) | skip
    rename_i l hl
    cases hf
    have h1:=Q3p hs hl
    have h2:first = #[]:=by simpa using hfi
    subst h2
    refine⟨.func (.func g) #[] (cap.map a.eval),by simp only [VR]; exact⟨_,rfl,by simpa using h1⟩,fun w => ?_⟩
    simp [execOp,Instr.makeFunc]
  case slice t x lo hi mx =>
    obtain⟨_,hk⟩:=nC hk
    cases hk
    obtain⟨r,h1,h2⟩:=Y2b hs hf
    exact⟨r,h1,fun w=>by simp only [execOp,Sem.run_bind,h2,Result.andThen_ok]; rfl⟩
  case fieldAddr t x f =>
    split at hk <;> cases hk
    rename_i o ho
    simp only at hf
    split at hf <;> first | (cases hf; done) | skip
    rename_i id off hx
    cases hf
    have hx:=Y3 hs hx
    simp only [VR] at hx
    obtain⟨q,hq,hx⟩:=hx
    refine⟨.pointer (some ⟨q.b,q.base+(off+o),none⟩),by simp only [VR]; exact⟨q,hq,rfl⟩,fun w => ?_⟩
    simp only [execOp,Sem.run_bind,offO_ok ho hx,Result.andThen_ok,add_lit,Nat.add_assoc]
    rfl
  case field t x f =>
    split at hk <;> cases hk
    rename_i fd hfd
    simp only at hf
    split at hf <;> first | (cases hf; done) | skip
    rename_i l hx
    have hx:=Y3 hs hx
    simp only [VR] at hx
    obtain⟨cs,hx,hl,h1⟩:=hx
    obtain⟨r,h2,h3⟩:=Z7u hf hl h1
    refine⟨r,h2,fun w => ?_⟩
    unfold Z6o at hfd; simp only [V3] at hfd
    split at hfd <;> first | (cases hfd; done) | skip
    rename_i fs ht
    simp only [execOp,Sem.run_bind,Instr.field,run_underlying ht,Result.andThen_ok,hfd,hx,asAgg,Sem.run_pure,h3]
  case indexAddr t x i =>
    split at hk <;> cases hk
    rename_i E hE
    obtain⟨r,h1,h2⟩:=idxA_ok hE hs hf
    exact⟨r,h1,fun w=>by simp only [execOp,Sem.run_bind,h2,Result.andThen_ok]; rfl⟩
  case index t x i =>
    cases hk
    obtain⟨r,h1,h2⟩:=Y2n hs hf
    exact⟨r,h1,fun w=>by simp only [execOp,Sem.run_bind,h2,Result.andThen_ok]; rfl⟩
  case build t ps =>
    split at hk <;> first | (cases hk; done) | skip
    rename_i z hz
    split at hk <;> cases hk
    rename_i pl hpl
    simp only at hf
    split at hf <;> first | (cases hf; done) | skip
    rename_i l hl
    split at hf <;> cases hf
    rename_i m hm
    obtain⟨r,h1,h2⟩:=build_ok hs hz hpl hl hm
    exact⟨r,h1,fun w=>by simp only [execOp,Sem.run_bind,h2,Result.andThen_ok]; rfl⟩
  case extract x i =>
    cases hk
    simp only at hf
    split at hf <;> first | (cases hf; done) | skip
    rename_i l hx
    have hx:=Y3 hs hx
    simp only [VR] at hx
    obtain⟨cs,hx,hl⟩:=hx
    rw [Z2a] at hf
    obtain⟨r,h1,h2⟩:=hl.get hf
    have h1' : cs[i]? = some r:=by simpa using h1
    exact⟨r,h2,fun w=>by simp [execOp,Instr.extract,hx,h1']⟩
  case call c =>
    obtain⟨ce,xs,ts⟩:=c
    try simp only at hk
    split at hk <;> first | (cases hk; done) | skip
    · split at hk <;> first | (cases hk; done) | skip
      rename_i x hx
      split at hk <;> first | (cases hk; done) | skip
      rename_i t ht
      obtain⟨_,hk⟩:=nC hk
      cases hk
      have h1:xs = #[x]:=by apply Array.ext'; simpa using hx
      have h2:ts = #[t]:=by apply Array.ext'; simpa using ht
      subst h1; subst h2
      obtain⟨r,h1,h2⟩:=lenA_ok (ty:=ty) hs hf
      refine⟨r,h1,fun w => ?_⟩
      simp only [execOp,resolve,invoke,builtin,Sem.run_bind,Sem.run_pure,Result.andThen_ok,List.map_toArray,List.map_cons,List.map_nil,h2]
    · split at hk <;> first | (cases hk; done) | skip
      rename_i x hx
      split at hk <;> cases hk
      rename_i t ht
      have h1:xs = #[x]:=by apply Array.ext'; simpa using hx
      have h2:ts = #[t]:=by apply Array.ext'; simpa using ht
      subst h1; subst h2
      simp only [capA,V3] at hf
      split at hf <;> first | (cases hf; done) | skip
      rename_i e hte
      split at hf <;> first | (cases hf; done) | skip
      · rename_i hu
        cases hf
        have e1:=Y3 hs hu
        simp only [VR] at e1
        refine⟨.int .i64 0,by simp only [VR],fun w => ?_⟩
        simp [execOp,resolve,invoke,builtin,Builtin.cap_,run_underlying hte,e1,goInt]
      · rename_i id off n c z hu
        cases hf
        have e1:=Y3 hs hu
        simp only [VR] at e1
        obtain⟨q,cc,o,hq,e1,_,_,hcc,_⟩:=e1
        have hcc:=hcc (by simp)
        subst hcc
        refine⟨.int .i64 ((c+1:Nat):Int),by simp only [VR]; rfl,fun w => ?_⟩
        simp [execOp,resolve,invoke,builtin,Builtin.cap_,run_underlying hte,e1,goInt]
    · split at hk <;> cases hk
      rename_i x y hx
      have h1:xs = #[x,y]:=by apply Array.ext'; simpa using hx
      subst h1
      simp only [mxA] at hf
      split at hf <;> first | (cases hf; done) | skip
      rename_i k u hu
      split at hf <;> cases hf
      rename_i k' u' hu'
      have e1:=Y3 hs hu
      have e2:=Y3 hs hu'
      simp only [VR] at e1 e2
      refine⟨.int k (if u' > u then u' else u),by simp only [VR],fun w => ?_⟩
      simp only [execOp,resolve,invoke,builtin,Sem.run_bind,Sem.run_pure,Result.andThen_ok,List.map_toArray,List.map_cons,List.map_nil,e1,e2]
      rfl
    · split at hk <;> cases hk
      rename_i x y hx
      have h1:xs = #[x,y]:=by apply Array.ext'; simpa using hx
      subst h1
      simp only [mxA] at hf
      split at hf <;> first | (cases hf; done) | skip
      rename_i k u hu
      split at hf <;> cases hf
      rename_i k' u' hu'
      have e1:=Y3 hs hu
      have e2:=Y3 hs hu'
      simp only [VR] at e1 e2
      refine⟨.int k (if u' < u then u' else u),by simp only [VR],fun w => ?_⟩
      simp only [execOp,resolve,invoke,builtin,Sem.run_bind,Sem.run_pure,Result.andThen_ok,List.map_toArray,List.map_cons,List.map_nil,e1,e2]
      rfl
end
end Go.Proofs.YtecakklofhfphaaGreatDoor.AMX
namespace Go.Proofs.YtecakklofhfphaaGreatDoor.AMX
noncomputable section

/-! ## Maps -/
def keyEq (a b:AV):Option Bool:=match a,b with
  | .str a,.str b=>some (beqL a b)
  | .int k a,.int k' b=>if k=k' then some (a == b) else none
  | _,_=>none
structure Km where
  k:TypeId
  d:TypeDesc
  e:TypeId
  fl:Option (List TypeDesc)
def Z9x (m:Km) (a b:AV):Option Bool:=match m.fl with
  | none=>keyEq a b
  | some fl=>match a,b with
    | .agg l,.agg l' => Z2t fl l l'
    | _,_=>none
def Q4q (m:Km) (k:AV):List (AV×AV×Nat)→Nat→Option (Option (Nat×AV))
  | [],_=>some none
  | e::r,i=>match Z9x m k e.1 with
    | some true=>some (some (i,e.2.1))
    | some false=>Q4q m k r (i+1)
    | none=>none
def Z6j (d:TypeDesc) (a:AV):Bool:=match d,a with
  | .string,.str _=>true
  | .int _,.int _ _=>true
  | _,_=>false
def Q1t (m:Km) (a:AV):Bool:=match m.fl with
  | none=>Z6j m.d a
  | some fl=>match a with
    | .agg l=>Nat.beq l.length fl.length
    | _=>false
structure Okm where m:Option Km
def mapO (P:Program) (t:TypeId):Okm:=match A2 P t with
  | some (.map k e)=>match A2 P k with
    | some d=>⟨some ⟨k,d,e,flO P k d⟩⟩
    | none=>⟨none⟩
  | _=>⟨none⟩
def Q5r (m:Option AV) (h:Hp):Option (List (AV×AV×Nat)):=match m with
  | some .nilm=>some []
  | some (.mp id)=>match h.tr.get id with
    | some ob=>match ob.o with
      | .map es _=>some es
      | _=>none
    | none=>none
  | _=>none
def Z9s (m:Option AV) (h:Hp):Option AV:=match Q5r m h with
  | some es=>some (.int .i64 (.ofNat es.length))
  | none=>none
def lookA (m0:Km) (z:AV) (ok:Bool) (m k:Option AV) (h:Hp):Option AV:=match Q5r m h with
  | some es=>match k with
    | some k=>bif Q1t m0 k then (match Q4q m0 k es 0 with
      | some (some p)=>some (bif ok then .tup [p.2,.bool true] else p.2)
      | some none=>some (bif ok then .tup [z,.bool false] else z)
      | none=>none) else none
    | none=>none
  | none=>none
def slcA (E:El) (N:Nat) (v:Option AV) (hi lo:Option Nat) (h:Hp):Option AV:=match v with
  | some (.ptr id off)=>match h.tr.get id with
    | some ob=>match hi with
      | some n=>match lo with
        | some l=>bif Nat.ble l n&&(Nat.ble n N&&(Nat.ble (off+N * E.sz) ob.o.n&&ob.o.cel)) then some (bif Nat.blt l N then .sl id (off+l * E.sz) (n - l) (N - l) E.sz else .sl id off 0 0 E.sz) else none
        | none=>none
      | none=>none
    | none=>none
  | _=>none
structure Rd where
  i:Sl→Option Nat
  f:Sl→Hp→Option AV
def Q4k (P:Program) (op:Op):Option Rd:=match op with
  | .load t x=>match agO P t with
    | .agg=>match (szO P t).n with
      | some n=>some ⟨fun s=>Z7r ((opd x).run s),fun s h=>match (opd x).run s with
        | some (.ptr id off)=>match h.tr.get id with
          | some ob=>match ob.o.read off n with
            | some l=>some (.agg l)
            | none=>none
          | none=>none
        | _=>none⟩
      | none=>none
    | .one=>some ⟨fun s=>Z7r ((opd x).run s),fun s h=>match (opd x).run s with
        | some (.ptr id off)=>match h.tr.get id with
          | some ob=>ob.o.read1 off
          | none=>none
        | _=>none⟩
    | .bad=>none
  | .lookup t x i ok=>match (mapO P t).m with
    | some m=>match (L9 P m.e).v with
      | some z=>some ⟨fun s=>mapOf ((opd x).run s),fun s h=>lookA m z ok ((opd x).run s) ((opd i).run s) h⟩
      | none=>none
    | none=>none
  | .slice t x lo hi mx=>match (elE P t).e with
    | some E=>match E.n with
      | some N=>match mx with
        | none=>some ⟨fun s=>Z7r ((opd x).run s),fun s h=>slcA E N ((opd x).run s) (M5 hi s N) (M5 lo s 0) h⟩
        | some _=>none
      | none=>none
    | none=>none
  | .call c=>match c.callee with
    | .builtin .len=>match c.args.toList with
      | [x]=>match c.argTypes.toList with
        | [t]=>bif Z5a P t then some ⟨fun s=>mapOf ((opd x).run s),fun s h=>Z9s ((opd x).run s) h⟩ else none
        | _=>none
      | _=>none
    | _=>none
  | _=>none

variable {φ : Mp} {P:Program} {w:World} {B:Br} {h:Hp}

theorem MRs.len : ∀ {l:List (AV×AV×Nat)} {es:List MapEntry},MRs φ l es→es.length=l.length
  | [],es,hh=>by simp only [MRs] at hh; simp [hh]
  | a::l,es,⟨e,r,h1,_,_,_,h5⟩=>by subst h1; simp [MRs.len h5]
theorem Z0x {d:TypeDesc} {a b:AV} {x y:Value} {r:Bool} (hf:Z6j d a=true) (h:keyEq a b=some r) (ha:VR φ a x) (hb:VR φ b y):Instr.sameNow d x y=some r:=by
  unfold keyEq at h
  split at h
  · cases h
    simp only [VR] at ha hb
    subst ha; subst hb
    cases d <;> first | (cases hf; done) | skip
    simp only [Instr.sameNow,Q5i,Z2z]
  · split at h <;> cases h
    rename_i hk
    simp only [VR] at ha hb
    subst ha; subst hb
    cases d <;> first | (cases hf; done) | skip
    simp [Instr.sameNow,hk]
  · cases h
def SameP (φ : Mp) (r:Option (Nat×AV)) (r' : Option (Nat×Value)):Prop:=match r,r' with
  | some p,some p' => p.1=p'.1∧VR φ p.2 p'.2
  | none,none=>True
  | _,_=>False
theorem Z2e {m:Km} (hm:m.fl=none) {k:AV} {x:Value} (hf:Z6j m.d k=true) (hk:VR φ k x) : ∀ {l:List (AV×AV×Nat)} {es:List MapEntry} {i:Nat} {r:Option (Nat×AV)},MRs φ l es→Q4q m k l i=some r →
    ∃ r',Instr.findNow m.d x es i=some r' ∧ SameP φ r r'
  | [],es,i,r,hm,h=>by
    simp only [MRs] at hm
    subst hm
    cases h
    exact⟨none,rfl,trivial⟩
  | a::l,es,i,r,⟨e,rest,h1,h2,h3,h4,h5⟩,h=>by
    subst h1
    unfold Q4q Z9x at h
    rw [hm] at h
    simp only at h
    split at h <;> first | (cases h; done) | skip
    · rename_i hq
      cases h
      refine⟨some (i,e.val),by simp [Instr.findNow,Z0x hf hq hk h2],rfl,h3⟩
    · rename_i hq
      obtain⟨r',e1,e2⟩:=Z2e hm hf hk h5 h
      exact⟨r',by simp [Instr.findNow,Z0x hf hq hk h2,e1],e2⟩
theorem Z6v {kt:TypeId} {d:TypeDesc} {k:AV} {x:Value} (hf:Z6j d k=true) (hk:VR φ k x) (hd:P.underlying kt=some d) (em:Bool) (n:Nat) (w:World):(Instr.checkKey em (n+1) kt x).run P w = .ok () w:=by
  cases d <;> cases k <;> first | (cases hf; done) | skip
  all_goals
    simp only [VR] at hk
    subst hk
    simp [Instr.checkKey,run_underlying hd]
theorem Q9d {d:TypeDesc} {x:Value} : ∀ {es:List MapEntry} {i j:Nat} {v:Value},Instr.findNow d x es i=some (some (j,v)) → ∃ k e,j=i+k∧es[k]? = some e∧Instr.sameNow d x e.key=some true
  | [],i,j,v,h=>by simp [Instr.findNow] at h
  | e::es,i,j,v,h=>by
    unfold Instr.findNow at h
    split at h
    · rename_i hs
      cases h
      exact⟨0,e,rfl,rfl,hs⟩
    · obtain⟨k,e',h1,h2,h3⟩:=Q9d h
      exact⟨k+1,e',by omega,by simpa using h2,h3⟩
    · cases h
theorem Z7k {d:TypeDesc} {x y:Value} (h:Instr.sameNow d x y=some true) (n:Nat):Instr.sameBits (n+1) y x=true:=by
  unfold Instr.sameNow at h
  split at h
  · split at h
    · rename_i hk
      simp at h
      subst hk; subst h
      simp [Instr.sameBits]
    · cases h
  · rename_i a b
    obtain⟨a⟩:=a
    obtain⟨b⟩:=b
    have h:(some (a == b):Option Bool)=some true:=h
    have h:=eq_of_beq (Option.some.inj h)
    subst h
    show((⟨a⟩:ByteArray) == ⟨a⟩)=true
    exact beq_self_eq_true (α := Array UInt8) a
  · simp at h
    subst h
    simp [Instr.sameBits]
  · cases h
theorem Q9z {k:TypeId} {d:TypeDesc} {fl:List TypeDesc} (hd:P.underlying k=some d) (h:flO P k d=some fl) {xs:List AV} {cx:Array Value} (hx:VRs φ xs cx.toList) (hl:xs.length=fl.length) (em:Bool) (n:Nat) (w:World):(Instr.checkKey em (n+1+1) k (.agg cx)).run P w = .ok () w:=by
  obtain⟨fs,rfl,h1,h2⟩:=Z6n h
  have lx:cx.size=fl.length:=by have:=hx.len; simp at this; omega
  have key : ∀ (fs : List Field) (l : List TypeDesc) (i : Nat), Q7k P fs i = some l → i + l.length ≤ cx.size → ((forIn fs PUnit.unit fun f r => if f.name ≠ "_" then do Instr.checkKey em (n + 1) f.type (← part f.type cx f.offset); pure (ForInStep.yield PUnit.unit) else pure (ForInStep.yield PUnit.unit) : Sem PUnit)).run P w = .ok PUnit.unit w := by
    intro fs
    induction fs with
    | nil=>intro l i _ _; rfl
    | cons f fs ih =>
      intro l i hfl hle
      obtain⟨d,l',rfl,g1,g2,g3,g4,g5⟩:=Q8e hfl
      simp only [List.length_cons] at hle
      have hc:cx[i]? = some cx[i]:=Array.getElem?_eq_getElem (by omega)
      have p1 : ∀ w,(part f.type cx f.offset).run P w = .ok cx[i] w:=fun w=>by rw [g3]; exact Q6c g1 g2 hc w
      have c1 : ∀ v,(Instr.checkKey em (n+1) f.type v).run P w = .ok () w:=by
        intro v
        cases d <;> first | (cases g2; done) | skip
        all_goals cases v <;> simp [Instr.checkKey,run_underlying g1]
      simp only [List.forIn_cons,g4,ne_eq,not_false_eq_true,if_true,Sem.run_bind,p1,Result.andThen_ok,c1,Sem.run_pure]
      exact ih l' (i+1) g5 (by omega)
  have:=key fs.toList fl 0 h2 (by omega)
  unfold Instr.checkKey
  simp only [Sem.run_bind,run_underlying hd,Result.andThen_ok]
  rw [← Array.forIn_toList,this]
  rfl
theorem Q5s {m:Km} (hd:P.underlying m.k=some m.d) {fl:List TypeDesc} (hfl:flO P m.k m.d=some fl) (hm:m.fl=some fl) {xs:List AV} {cx:Array Value} (hx:VRs φ xs cx.toList) : ∀ {l:List (AV×AV×Nat)} {es:List MapEntry} {i:Nat} {r:Option (Nat×AV)},MRs φ l es→Q4q m (.agg xs) l i=some r →
    ∃ r',(∀ w,(Instr.findAsking m.k (.agg cx) es i).run P w = .ok r' w)∧SameP φ r r' ∧ ∀ j v,r' = some (j,v) → ∃ k e,j=i+k∧es[k]? = some e∧Instr.sameBits 10000 e.key (.agg cx)=true
  | [],es,i,r,hm,h=>by
    simp only [MRs] at hm
    subst hm
    cases h
    exact⟨none,fun w=>rfl,trivial,fun j v hj=>by cases hj⟩
  | a::l,es,i,r,⟨e,rest,h1,h2,h3,h4,h5⟩,h=>by
    subst h1
    unfold Q4q Z9x at h
    rw [hm] at h
    simp only at h
    have hag : ∀ b,(match AV.agg xs,a.1 with | .agg l,.agg l' => Z2t fl l l' | _,_=>none)=some b → ∃ ys cy,e.key = .agg cy∧VRs φ ys cy.toList∧Z2t fl xs ys=some b:=by
      intro b hb
      split at hb <;> first | (cases hb; done) | skip
      rename_i ll ys e1 e2
      cases e1
      rw [e2] at h2
      simp only [VR] at h2
      obtain⟨cy,g1,g2,_⟩:=h2
      exact⟨ys,cy,g1,g2,hb⟩
    split at h <;> first | (cases h; done) | skip
    · rename_i hq
      cases h
      obtain⟨ys,cy,g1,g2,g3⟩:=hag _ hq
      obtain⟨q1,q2⟩:=Q6f hd hfl g3 hx g2
      refine⟨some (i,e.val),fun w=>by simp [Instr.findAsking,g1,q1],⟨rfl,h3⟩,fun j v hj => ?_⟩
      cases hj
      exact⟨0,e,rfl,rfl,by rw [g1]; exact q2 rfl⟩
    · rename_i hq
      obtain⟨ys,cy,g1,g2,g3⟩:=hag _ hq
      obtain⟨q1,q2⟩:=Q6f hd hfl g3 hx g2
      obtain⟨r',e1,e2,e3⟩:=Q5s hd hfl hm hx h5 h
      refine⟨r',fun w=>by simp [Instr.findAsking,g1,q1,e1],e2,fun j v hj => ?_⟩
      obtain⟨k,e',f1,f2,f3⟩:=e3 j v hj
      exact⟨k+1,e',by omega,by simpa using f2,f3⟩
structure KmOk (P:Program) (m:Km):Prop where
  d:P.underlying m.k=some m.d
  fl:m.fl=flO P m.k m.d
theorem Q5d {m:Km} (hm:KmOk P m) {k:AV} {x:Value} (hf:Q1t m k=true) (hk:VR φ k x) {l:List (AV×AV×Nat)} {es:List MapEntry} {r:Option (Nat×AV)} (hes:MRs φ l es) (h:Q4q m k l 0=some r) :
    ∃ r',(∀ w,(Instr.findKey m.k x es).run P w = .ok r' w)∧SameP φ r r' ∧ ∀ j v,r' = some (j,v) → ∃ e,es[j]? = some e∧Instr.sameBits 10000 e.key x=true:=by
  cases hfl:m.fl with
  | none =>
    unfold Q1t at hf
    rw [hfl] at hf
    simp only at hf
    obtain⟨r',e1,e2⟩:=Z2e hfl hf hk hes h
    refine⟨r',fun w=>by simp [Instr.findKey,run_underlying hm.d,e1],e2,fun j v hj => ?_⟩
    subst hj
    obtain⟨k',e,n1,n2,n3⟩:=Q9d e1
    have:j=k' := by omega
    subst this
    exact⟨e,n2,Z7k n3 9999⟩
  | some fl =>
    unfold Q1t at hf
    rw [hfl] at hf
    simp only at hf
    split at hf <;> first | (cases hf; done) | skip
    rename_i xs
    simp only [VR] at hk
    obtain⟨cx,rfl,hx,_⟩:=hk
    have hfl' : flO P m.k m.d=some fl:=by rw [← hm.fl]; exact hfl
    obtain⟨r',e1,e2,e3⟩:=Q5s hm.d hfl' hfl hx hes h
    obtain⟨fs,hds,_⟩:=Z6n hfl'
    refine⟨r',fun w => ?_,e2,fun j v hj => ?_⟩
    · cases es with
      | nil =>
        have:(Instr.findAsking m.k (.agg cx) [] 0).run P w = .ok none w:=rfl
        have e1:=e1 w
        rw [this] at e1
        cases e1
        simp [Instr.findKey,run_underlying hm.d,Instr.findNow]
      | cons e es =>
        have:Instr.findNow m.d (.agg cx) (e::es) 0=none:=by rw [hds]; simp [Instr.findNow,Instr.sameNow]
        simp [Instr.findKey,run_underlying hm.d,this,e1]
    · obtain⟨k',e,n1,n2,n3⟩:=e3 j v hj
      have:j=k' := by omega
      subst this
      exact⟨e,n2,n3⟩
theorem Q1v {m:Km} (hm:KmOk P m) {k:AV} {x:Value} (hf:Q1t m k=true) (hk:VR φ k x) (em:Bool) (w:World):(Instr.checkKey em 10000 m.k x).run P w = .ok () w:=by
  cases hfl:m.fl with
  | none =>
    unfold Q1t at hf
    rw [hfl] at hf
    exact Z6v hf hk hm.d em 9999 w
  | some fl =>
    unfold Q1t at hf
    rw [hfl] at hf
    simp only at hf
    split at hf <;> first | (cases hf; done) | skip
    rename_i xs
    simp only [VR] at hk
    obtain⟨cx,rfl,hx,_⟩:=hk
    have hfl' : flO P m.k m.d=some fl:=by rw [← hm.fl]; exact hfl
    exact Q9z hm.d hfl' hx (Nat.eq_of_beq_eq_true hf) em 9998 w
theorem Q3m {b:Nat} {es:Array MapEntry} {c:Nat} (hb:w.heap[b]? = some (.map es c)):(getObj b).run P w = .ok (.map es c) w:=by
  simp [getObj,Sem.run,hb]

theorem Z4x {b o:Nat} {x:Value} (hc:w.cell? ⟨b,o,none⟩=some x):(load ⟨b,o,none⟩).run P w = .ok x w:=by
  simp [load,Sem.run,hc]
theorem Z8d {m:Option AV} {x:Value} {es:List (AV×AV×Nat)} (H:HR B φ h w) (hm:Q5r m h=some es) (hx : ∀ a,m=some a→VR φ a x) :
    (x = .map none∧es = []) ∨ ∃ id q es' c,m=some (.mp id) ∧ φ id=some q∧x = .map (some q.b)∧MRs φ es es'.toList∧w.heap[q.b]? = some (.map es' c):=by
  unfold Q5r at hm
  split at hm <;> first | (cases hm; done) | skip
  · cases hm
    have:=hx _ rfl
    simp only [VR] at this
    exact .inl ⟨this,rfl⟩
  · rename_i id
    split at hm <;> first | (cases hm; done) | skip
    rename_i ob hob
    split at hm <;> cases hm
    rename_i c hc
    have:=hx _ rfl
    simp only [VR] at this
    obtain⟨q,hq,rfl⟩:=this
    obtain⟨q',h1,h2,h3⟩:=H.ob id ob hob hq
    rw [hq] at h1; cases h1
    rw [hc] at h3
    obtain⟨es',e1,e2⟩:=h3
    exact .inr ⟨id,q,es',c,rfl,hq,rfl,e2,e1⟩

theorem readOk {o:Oper} {r:Rd} {s:Sl} {v:AV} {a:Act} (hk:Q4k P o.op=some r) (hs:SR φ s a) (H:HR B φ h w) (hf:r.f s h=some v) :
    ∃ x,VR φ v x ∧ ∀ w' : World,(∀ id q,r.i s=some id → φ id=some q→w'.heap[q.b]? = w.heap[q.b]?)→(execOp a.eval o).run P w' = .ok (.value x) w' := by
  obtain⟨dst,op,ty,pos,aft,gd⟩:=o
  simp only at hk
  cases op <;> simp only [Q4k] at hk <;> first | (cases hk; done) | skip
  case load t x =>
    split at hk <;> first | (cases hk; done) | skip
    · rename_i ha
      split at hk <;> cases hk
      rename_i n hn
      simp only at hf
      split at hf <;> first | (cases hf; done) | skip
      rename_i id off hx
      split at hf <;> first | (cases hf; done) | skip
      rename_i ob hob
      split at hf <;> cases hf
      rename_i l hl
      have hx' := Y3 hs hx
      simp only [VR] at hx'
      obtain⟨q,hq,hx'⟩:=hx'
      obtain⟨q',xs,h1,h2,h3,h4,h5⟩:=H.read hq hob hl
      rw [hq] at h1; cases h1
      refine⟨.agg xs.toArray,by simp only [VR]; exact⟨_,rfl,by simpa using h2,h3⟩,fun w' hw => ?_⟩
      have hw:=hw id q (by simp [hx,Z7r]) hq
      have:=run_loadCells_list (P:=P) (w:=w') ⟨q.b,q.base+off,none⟩ xs (fun j v hj=>by rw [add_lit]; exact h5 w' hw j v hj)
      rw [h4] at this
      simp only [execOp,Sem.run_bind,Instr.loadAt,hx',Instr.sureAddr,Sem.run_pure,Result.andThen_ok,loadVar,Q8d ha,if_true,G7 hn,this]
    · rename_i ha
      cases hk
      simp only at hf
      split at hf <;> first | (cases hf; done) | skip
      rename_i id off hx
      split at hf <;> first | (cases hf; done) | skip
      rename_i ob hob
      have hx' := Y3 hs hx
      simp only [VR] at hx'
      obtain⟨q,hq,hx'⟩:=hx'
      obtain⟨q',x,h1,h2,h3,h4⟩:=H.read1 hq hob hf
      rw [hq] at h1; cases h1
      refine⟨x,h2,fun w' hw => ?_⟩
      have hw:=hw id q (by simp [hx,Z7r]) hq
      simp only [execOp,Sem.run_bind,Instr.loadAt,hx',Instr.sureAddr,Sem.run_pure,Result.andThen_ok,loadVar,Q8c ha,Bool.false_eq_true,if_false,Z4x (h4 w' hw)]
  case slice t x lo hi mx =>
    split at hk <;> first | (cases hk; done) | skip
    rename_i E hE
    split at hk <;> first | (cases hk; done) | skip
    rename_i N hN
    split at hk <;> cases hk
    simp only [slcA] at hf
    split at hf <;> first | (cases hf; done) | skip
    rename_i id off hx
    split at hf <;> first | (cases hf; done) | skip
    rename_i ob hob
    split at hf <;> first | (cases hf; done) | skip
    rename_i n hn
    split at hf <;> first | (cases hf; done) | skip
    rename_i l hl
    obtain⟨hb,hf⟩:=cN hf
    cases hf
    obtain⟨hb1,hb2⟩:=X0 hb
    obtain⟨hb2,hb3⟩:=X0 hb2
    obtain⟨hb3,hb4⟩:=X0 hb3
    have hb1:=Nat.le_of_ble_eq_true hb1
    have hb2:=Nat.le_of_ble_eq_true hb2
    have hb3:=Nat.le_of_ble_eq_true hb3
    obtain⟨hsz,hE⟩:=Q1j hE
    have ht:P.underlying t=some (.array N E.e):=by
      rcases hE with ⟨hm,_⟩ | ⟨m,hm,ht⟩
      · rw [hN] at hm; cases hm
      · rw [hN] at hm; cases hm; exact ht
    have hx:=Y3 hs hx
    simp only [VR] at hx
    obtain⟨q,hq,hx⟩:=hx
    obtain⟨q',hq',hB,hor⟩:=H.ob id ob hob hq
    rw [hq] at hq'; cases hq'
    have hfit:q.base+off+N * E.sz≤q.size:=by
      obtain⟨c,e,fr,k1,k2,k3,k4,k5⟩:=(OR.cells hb4).1 hor
      omega
    have hmul:l * E.sz+(N - l) * E.sz=N * E.sz:=by rw [← Nat.add_mul]; congr 1; omega
    have hrun : ∀ w,(Instr.sliceAt t (a.eval x) (lo.map a.eval) (hi.map a.eval) (Option.map a.eval none)).run P w = .ok (.slice (some (if N=l then ⟨q.b,q.base+off,none⟩ else ⟨q.b,q.base+off+l * E.sz,none⟩)) (n - l) (N - l)) w:=by
      intro w
      have hadd : ∀ k,(⟨q.b,q.base+off,none⟩:Addr).add k=⟨q.b,q.base+off+k,none⟩:=fun k=>by unfold Addr.add; split <;> simp_all
      simp only [Instr.sliceAt,Sem.run_bind,run_underlying ht,Result.andThen_ok,hx,Instr.sureAddr,Sem.run_pure,Option.map_none,Q5h hs hn hl hb1 hb2 (Nat.le_refl _),G7 hsz,hadd]
    refine⟨_,?_,fun w' _=>by simp only [execOp,Sem.run_bind,hrun,Result.andThen_ok]; rfl⟩
    cases hln:Nat.blt l N with
    | true =>
      have hln:l < N:=Nat.le_of_ble_eq_true hln
      simp only [cond_true,VR]
      rw [if_neg (by omega)]
      exact⟨q,N - l,_,hq,rfl,fun _=>by omega,by omega,fun _=>rfl,by omega⟩
    | false =>
      have hln : ¬ l < N:=by
        intro hlt
        have:Nat.blt l N=true:=Nat.ble_eq_true_of_le hlt
        rw [this] at hln; cases hln
      have e1:N=l:=by omega
      have e2:n - l=0:=by omega
      have e3:N - l=0:=by omega
      simp only [cond_false,VR]
      rw [if_pos e1,e2,e3]
      exact⟨q,0,_,hq,rfl,fun h=>by omega,Nat.le_refl _,fun h=>absurd rfl h,by omega⟩
  case lookup t x i ok =>
    split at hk <;> first | (cases hk; done) | skip
    rename_i m hm
    split at hk <;> cases hk
    rename_i z hz
    have hmt:P.underlying t=some (.map m.k m.e)∧KmOk P m:=by
      simp only [mapO,V3] at hm
      split at hm <;> first | (cases hm; done) | skip
      rename_i k e ht
      split at hm <;> cases hm
      rename_i d hd
      exact⟨ht,hd,rfl⟩
    simp only [lookA] at hf
    split at hf <;> first | (cases hf; done) | skip
    rename_i es hes
    split at hf <;> first | (cases hf; done) | skip
    rename_i k hk
    obtain⟨hkf,hf⟩:=cN hf
    have hkv:=Y3 hs hk
    obtain⟨zi,zu,z1,z2,z3⟩:=B6 (φ := φ) hz
    have hzr : ∀ w,(zeroValue m.e).run P w = .ok zu w:=fun w=>by simp [zeroValue,typeInfo,program,z1,z2,Sem.run,bind,Sem.bind,pure]
    have key : ∀(es' : Array MapEntry),MRs φ es es'.toList → ∃ r,VR φ v r ∧ ∀ w' : World,(Instr.checkKey es'.isEmpty 10000 m.k (a.eval i)).run P w' = .ok () w' ∧
        ((do let (v,ok') ← match ← Instr.findKey m.k (a.eval i) es'.toList with
            | some (_,v)=>pure (v,true)
            | none=>pure (← zeroValue m.e,false)
             pure (if ok then .tuple #[v,.bool ok'] else v):Sem Value)).run P w' = .ok r w' := by
      intro es' hes'
      split at hf <;> first | (cases hf; done) | skip
      · rename_i p hp
        cases hf
        obtain⟨r',e1,e2,_⟩:=Q5d hmt.2 hkf hkv hes' hp
        cases r' with
        | none=>exact e2.elim
        | some p' =>
          obtain⟨j',u'⟩:=p'
          obtain⟨_,e2⟩:=e2
          refine⟨if ok then .tuple #[u',.bool true] else u',?_,fun w' => ⟨Q1v hmt.2 hkf hkv _ w',?_⟩⟩
          · cases ok with
            | true=>simp only [cond_true,if_true,VR,VRs]; exact⟨_,rfl,_,_,rfl,e2,_,_,rfl,rfl,rfl⟩
            | false=>simpa using e2
          · simp only [Sem.run_bind,Result.andThen_ok,e1,Sem.run_pure]
      · rename_i hp
        cases hf
        obtain⟨r',e1,e2,_⟩:=Q5d hmt.2 hkf hkv hes' hp
        cases r' with
        | some p' => exact e2.elim
        | none =>
          refine⟨if ok then .tuple #[zu,.bool false] else zu,?_,fun w' => ⟨Q1v hmt.2 hkf hkv _ w',?_⟩⟩
          · cases ok with
            | true=>simp only [cond_true,if_true,VR,VRs]; exact⟨_,rfl,_,_,rfl,z3,_,_,rfl,rfl,rfl⟩
            | false=>simpa using z3
          · simp only [Sem.run_bind,Result.andThen_ok,e1,Sem.run_pure,hzr]
    rcases Z8d H hes (fun u hu=>Y3 hs hu) with ⟨hx,rfl⟩ | ⟨id,q,es',c,hxm,hq,hx,hes',hb⟩
    · obtain⟨r,h1,h2⟩:=key #[] (by simp [MRs])
      refine⟨r,h1,fun w' _ => ?_⟩
      have h2:=h2 w'
      simp only [execOp,Instr.lookup,Sem.run_bind,run_underlying hmt.1,Result.andThen_ok,hx,Sem.run_pure]
      simp only [Sem.run_bind] at h2
      rw [h2.1]
      simp only [Result.andThen_ok]
      exact congrArg (fun R=>Result.andThen R fun a w' => Result.ok (Next.value a) w') h2.2
    · obtain⟨r,h1,h2⟩:=key es' hes'
      refine⟨r,h1,fun w' hw => ?_⟩
      have h2:=h2 w'
      have hb' : w'.heap[q.b]? = some (.map es' c):=(hw id q (by simp [hxm,mapOf]) hq).trans hb
      simp only [execOp,Instr.lookup,Sem.run_bind,run_underlying hmt.1,Result.andThen_ok,hx,Q3m hb',Sem.run_pure]
      simp only [Sem.run_bind] at h2
      rw [h2.1]
      simp only [Result.andThen_ok]
      exact congrArg (fun R=>Result.andThen R fun a w' => Result.ok (Next.value a) w') h2.2
  case call c =>
    obtain⟨ce,xs,ts⟩:=c
    try simp only at hk
    split at hk <;> first | (cases hk; done) | skip
    split at hk <;> first | (cases hk; done) | skip
    rename_i x hx
    split at hk <;> first | (cases hk; done) | skip
    rename_i t ht
    obtain⟨hmp,hk⟩:=cN hk
    cases hk
    have h1:xs = #[x]:=by apply Array.ext'; simpa using hx
    have h2:ts = #[t]:=by apply Array.ext'; simpa using ht
    subst h1; subst h2
    have hmt : ∃ k e,P.underlying t=some (.map k e):=by
      unfold Z5a at hmp; simp only [V3] at hmp
      split at hmp <;> first | (cases hmp; done) | skip
      exact⟨_,_,by assumption⟩
    obtain⟨k,e,hmt⟩:=hmt
    simp only [Z9s] at hf
    split at hf <;> cases hf
    rename_i es hes
    refine⟨.int .i64 (es.length:Int),by simp only [VR]; rfl,fun w' hw => ?_⟩
    rcases Z8d H hes (fun u hu=>Y3 hs hu) with ⟨hx,rfl⟩ | ⟨id,q,es',c,hxm,hq,hx,hes',hb⟩
    · simp [execOp,resolve,invoke,builtin,Builtin.len_,run_underlying hmt,hx,goInt]
    · have hb' : w'.heap[q.b]? = some (.map es' c):=(hw id q (by simp [hxm,mapOf]) hq).trans hb
      have hl:es'.size=es.length:=by have:=hes'.len; simpa using this
      simp [execOp,resolve,invoke,builtin,Builtin.len_,run_underlying hmt,hx,goInt,Q3m hb',hl]
end
end Go.Proofs.YtecakklofhfphaaGreatDoor.AMX
namespace Go.Proofs.YtecakklofhfphaaGreatDoor.AMX
noncomputable section
variable {φ : Mp} {P:Program} {w:World} {B:Br} {h:Hp}

def Hp.put (h:Hp) (id:Nat) (ob:Ob) (o:X6):Hp:=⟨h.next,h.tr.set id ⟨ob.ver+1,ob.ro,o⟩⟩
def Z9h (n:Nat) (a v:Option AV) (h:Hp):Ra:=match a with
  | some (.ptr id off)=>match v with
    | some v=>bif v.lone&&Nat.beq (Q5l v.cells) n then (match h.tr.get id with
      | some ob=>bif ob.ro.no then .bad else (match ob.o.write off v.cells with
        | some o => .ok (.tup []) (h.put id ob o)
        | none => .bad)
      | none => .bad) else .bad
    | none => .bad
  | _ => .bad
def newF (rx:Ro) (h:Hp) (o:X6):Ra := .ok (.ptr h.next 0) (P3 h rx o)
def Q6h (sz:Nat):Nat→List AV→List (List AV)
  | 0,_ => []
  | n+1,l=>Q8m sz l::Q6h sz n (Z2v sz l)
def S3 (t:Tr (List AV)) (i:Nat):List (List AV)→Tr (List AV)
  | []=>t
  | c::l=>S3 (t.set i c) (i+1) l
def O4 (z:List AV):Nat→List AV
  | 0 => []
  | n+1=>z++O4 z n

def Q9g (B:Br) (P:Program) (φ : Mp) (h:Hp) (w:World) (o:Oper) (a:Act) (v:AV) (h' : Hp):Prop :=
  ∃ φ' w' x,((execOp a.eval o).run P w = .ok (.value x) w' ∨ ((execOp a.eval o).run P w = .ok .skip w' ∧ x=undef))∧VR φ' v x∧HR B φ' h' w' ∧ Ev B φ h w φ' h' w'

def Born (P:Program) (φ : Mp) (w:World) (o:Oper) (a:Act) (g:Nat) (v:AV) (rx:Ro) (ob:X6):Prop :=
  ∃ c sz x w1,(w1=w ∨ w1=w.drew)∧(execOp a.eval o).run P w = .ok (.value x) (w1.alloc c)∧(∀ φ',Le φ φ' → OR φ' ⟨w.heap.size,0,sz⟩ rx ob (some c)) ∧ ∀ φ' : Mp,φ' g=some ⟨w.heap.size,0,sz⟩→VR φ' v x
theorem raN {b:Bool} {x:Ra} {v:AV} {h' : Hp} (h:(bif b then x else .bad) = .ok v h'):b=true∧x = .ok v h' := by cases b <;> first | exact⟨rfl,h⟩ | cases h
theorem raB {b:Bool} {x:Ra} {v:AV} {h' : Hp} (h:(bif b then .bad else x) = .ok v h'):b=false∧x = .ok v h' := by cases b <;> first | exact⟨rfl,h⟩ | cases h

theorem HR.write (H:HR B φ h w) {id off:Nat} {ob:Ob} {o' : X6} {c:List AV} {vs:List Value} {q:Q} (hi:h.tr.get id=some ob) (hq : φ id=some q) (hro:ob.ro.no=false) (ho:ob.o.write off c=some o') (hv:VRs φ c vs) (h1:U4 c=true) :
    ∃ w',(storeCells ⟨q.b,q.base+off,none⟩ vs).run P w = .ok () w' ∧ HR B φ (h.put id ob o') w' ∧ Ev B φ h w φ (h.put id ob o') w' := by
  obtain⟨q',hq',hB,hor⟩:=H.ob id ob hi hq
  rw [hq] at hq'; cases hq'
  obtain⟨e1,e2,e3⟩:=X6.write_at ho
  have hc:ob.o.cel=true:=by cases hh:ob.o <;> rw [hh] at ho <;> first | rfl | cases ho
  have hc' : o'.cel=true:=by
    cases hh:ob.o <;> rw [hh] at ho <;> simp only [X6.write] at ho
    · obtain⟨_,ho⟩:=cN ho; cases ho; rfl
    · obtain⟨_,ho⟩:=cN ho; cases ho; rfl
    all_goals cases ho
  obtain⟨cur,e,fr,k1,k2,k3,k4,k5⟩:=(OR.cells hc).1 hor
  have k0:=k2.fr hro
  subst k0
  have hl:vs.length=c.length:=hv.len
  have hfit:q.base+off+vs.length≤cur.size:=by omega
  have hrun:=run_storeCells_at (P:=P) q.b (q.base+off) e vs 0 cur w k1 (by omega) (Z6d hv h1)
  refine⟨_,hrun,?_⟩
  refine H.turn hi hq (Wv.row _ _ hB) (fun k hk=>setRow_other w q.b k _ hk) ?_
  rw [setRow_heap w q.b cur _ e (0,0) k1]
  refine(OR.cells hc').2 ⟨_,e,(0,0),rfl,by rw [e1]; exact k2,?_,by omega,fun j hj => ?_⟩
  · simp
    omega
  · rw [e3 j (by omega)]
    obtain⟨a,x,l1,l2,l3,l4⟩:=k5 j (by omega)
    have hx:cur.toList[q.base+j]? = some x:=by simpa using l2
    by_cases hj2:off≤j∧j < off+c.length
    · rw [if_pos hj2]
      have hlt:j - off < c.length:=by omega
      obtain⟨u,m1,m2⟩:=hv.get (List.getElem?_eq_getElem hlt)
      refine⟨_,u,List.getElem?_eq_getElem hlt,?_,m2,U8 h1 (List.getElem?_eq_getElem hlt)⟩
      rw [List.getElem?_toArray,List.append_assoc,List.getElem?_append_right (by simp; omega),List.getElem?_append_left (by simp; omega)]
      simp only [List.length_take,Array.length_toList,Nat.add_zero]
      rw [← m1]
      congr 1
      omega
    · rw [if_neg hj2]
      refine⟨a,x,l1,?_,l3,l4⟩
      rw [List.getElem?_toArray,List.append_assoc]
      by_cases hj3:j < off
      · rw [List.getElem?_append_left (by simp; omega),List.getElem?_take,if_pos (by omega)]
        exact hx
      · rw [List.getElem?_append_right (by simp; omega),List.getElem?_append_right (by simp; omega),List.getElem?_drop,← hx]
        congr 1
        simp
        omega
theorem store_ok {t:TypeId} {x y:Operand} {s:Sl} {a:Act} {o:Oper} {n:Nat} {v:AV} {h' : Hp} (ho:o.op = .store t x y) (hn:(szO P t).n=some n) (hs:SR φ s a) (H:HR B φ h w) (hf:Z9h n ((opd x).run s) ((opd y).run s) h = .ok v h'):Q9g B P φ h w o a v h' := by
  unfold Z9h at hf
  split at hf <;> first | (cases hf; done) | skip
  rename_i id off hx
  split at hf <;> first | (cases hf; done) | skip
  rename_i u hu
  obtain⟨hb,hf⟩:=raN hf
  obtain⟨hb1,hb2⟩:=X0 hb
  have hb2:=Nat.eq_of_beq_eq_true hb2
  rw [N1] at hb2
  split at hf <;> first | (cases hf; done) | skip
  rename_i ob hob
  obtain⟨hro,hf⟩:=raB hf
  split at hf <;> first | (cases hf; done) | skip
  rename_i o' ho'
  cases hf
  have hx:=Y3 hs hx
  simp only [VR] at hx
  obtain⟨q,hq,hx⟩:=hx
  obtain⟨c1,c2⟩:=C8 (Y3 hs hu) hb1
  obtain⟨w',r1,r2,r3⟩:=H.write (P:=P) hob hq hro ho' c1 c2
  have hsz:(a.eval y).cells.size=n:=by have:=c1.len; simp at this; omega
  refine⟨φ,w',undef,.inr ⟨?_,rfl⟩,by simp only [VR,VRs]; exact⟨#[],rfl,rfl⟩,r2,r3⟩
  obtain⟨dst,op,ty,pos,aft,gd⟩:=o
  simp only at ho
  subst ho
  simp only [execOp,Sem.run_bind,Instr.storeAt,hx,Instr.sureAddr,Sem.run_pure,Result.andThen_ok,storeVar,G7 hn,hsz,ne_eq,not_true,if_false,r1]

theorem Mp.set_same {φ : Mp} {i:Nat} {q:Q} : φ.set i q i=some q:=by simp [Mp.set]
theorem Q3e (e:TypeId) (c:Array Value) (w:World):(newRow e c).run P w = .ok ⟨w.heap.size,0,none⟩ (w.alloc (.cells c e)):=by
  rfl
theorem Born.acted {o:Oper} {a:Act} {v:AV} {rx:Ro} {ob:X6} (H:HR B φ h w) (b:Born P φ w o a h.next v rx ob):Q9g B P φ h w o a v (P3 h rx ob):=by
  obtain⟨c,sz,x,w1,hw,e1,e2,e3⟩:=b
  rcases hw with rfl | rfl
  · obtain⟨r1,r2⟩:=H.new (rx:=rx) e2
    exact⟨_,_,x,.inl e1,e3 _ Mp.set_same,r1,r2⟩
  · obtain⟨r1,r2⟩:=H.drew.new (rx:=rx) e2
    exact⟨_,_,x,.inl e1,e3 _ Mp.set_same,r1,Ev.drew.trans r2⟩
theorem Z5w {w:World} {o:X6} {rx:Ro} {c:Array Value} {e:TypeId} (hr:Q7n rx ⟨w.heap.size,0,c.size⟩ o.n e (0,0)) (hc:o.cel=true) (hn:o.n≤c.size) (hx : ∀ j,j < o.n → ∃ a x,o.at j=some a∧c[j]? = some x∧VR φ a x∧a.one=true) :
    ∀ φ',Le φ φ' → OR φ' ⟨w.heap.size,0,c.size⟩ rx o (some (.cells c e)):=fun φ' hle=>(OR.cells hc).2 ⟨c,e,(0,0),rfl,hr,rfl,by simpa using hn,fun j hj=>by
    obtain⟨a,x,h1,h2,h3,h4⟩:=hx j hj
    exact⟨a,x,h1,by simpa using h2,VR.mono hle _ _ h3,h4⟩⟩
theorem HR.row (H:HR B φ h w) {o:X6} {rx:Ro} {c:Array Value} {e:TypeId} (hr:Q7n rx ⟨w.heap.size,0,c.size⟩ o.n e (0,0)) (hc:o.cel=true) (hn:o.n≤c.size) (hx : ∀ j,j < o.n → ∃ a x,o.at j=some a∧c[j]? = some x∧VR φ a x∧a.one=true) :
    HR B (φ.set h.next ⟨w.heap.size,0,c.size⟩) (P3 h rx o) (w.alloc (.cells c e))∧Ev B φ h w (φ.set h.next ⟨w.heap.size,0,c.size⟩) (P3 h rx o) (w.alloc (.cells c e)) :=
  H.new fun φ' hle=>(OR.cells hc).2 ⟨c,e,(0,0),rfl,hr,rfl,by simpa using hn,fun j hj=>by
    obtain⟨a,x,h1,h2,h3,h4⟩:=hx j hj
    exact⟨a,x,h1,by simpa using h2,VR.mono hle _ _ h3,h4⟩⟩
theorem Z8s {v:AV} {u:Value} {o:Oper} {a:Act} (hv:VR φ v u) (hl:v.lone=true) (e:TypeId) (hr : ∀ w,(execOp a.eval o).run P w = .ok (.value (.pointer (some ⟨w.heap.size,0,none⟩))) (w.alloc (.cells u.cells e))) (w:World) (g:Nat) :
    Born P φ w o a g (.ptr g 0) (.whole e) (.box v.cells):=by
  obtain⟨h1,h2⟩:=C8 hv hl
  have hlen:u.cells.size=v.cells.length:=by have:=h1.len; simpa using this
  refine⟨_,u.cells.size,_,w,.inl rfl,hr w,Z5w ⟨rfl,rfl,rfl,by simp [X6.n,hlen]⟩ rfl (by simp [X6.n,hlen]) fun j hj => ?_,fun φ' hq=>by simp only [VR]; exact⟨_,hq,rfl⟩⟩
  simp only [X6.n] at hj
  obtain⟨x,k1,k2⟩:=h1.get (List.getElem?_eq_getElem hj)
  exact⟨_,x,List.getElem?_eq_getElem hj,by simpa using k1,k2,U8 h2 (List.getElem?_eq_getElem hj)⟩
theorem Z3g {t:TypeId} {o:Oper} {a:Act} {z:AV} (ho:o.op = .alloc t) (hz:(L9 P t).v=some z) (w:World) (g:Nat):Born P φ w o a g (.ptr g 0) (.whole t) (.box z.cells):=by
  obtain⟨i,u,h1,h2,h3⟩:=B6 (φ := φ) hz
  refine Z8s h3 (N3 hz) t (fun w => ?_) w g
  obtain⟨dst,op,ty,pos,aft,gd⟩:=o
  simp only at ho
  subst ho
  have hzr:(zeroValue t).run P w = .ok u w:=by simp [zeroValue,typeInfo,program,h1,h2,Sem.run,bind,Sem.bind,pure]
  simp only [execOp,Instr.alloc,Sem.run_bind,hzr,Result.andThen_ok,newVar,Q3e,Sem.run_pure]
theorem Z2c {t:TypeId} {x:Operand} {s:Sl} {o:Oper} {a:Act} {v:AV} (ho:o.op = .box t x) (hs:SR φ s a) (hv:(opd x).run s=some v) (hl:v.lone=true) (w:World) (g:Nat):Born P φ w o a g (.ptr g 0) (.whole t) (.box v.cells):=by
  refine Z8s (Y3 hs hv) hl t (fun w => ?_) w g
  obtain⟨dst,op,ty,pos,aft,gd⟩:=o
  simp only at ho
  subst ho
  simp only [execOp,Instr.box,Sem.run_bind,newVar,Q3e,Result.andThen_ok,Sem.run_pure]
theorem mkmap_ok {t:TypeId} {o:Oper} {a:Act} (ho:o.op = .makeMap t none) (H:HR B φ h w):Q9g B P φ h w o a (.mp h.next) (P3 h .rw (.map [] 0)):=by
  obtain⟨r1,r2⟩:=H.new (o := .map [] 0) (rx := .rw) (ob := .map #[] 0) (sz:=0) fun φ' hle=>⟨#[],rfl,by simp [MRs]⟩
  refine⟨_,_,_,.inl ?_,by simp only [VR]; exact⟨_,Mp.set_same,rfl⟩,r1,r2⟩
  obtain⟨dst,op,ty,pos,aft,gd⟩:=o
  simp only at ho
  subst ho
  rfl
end
end Go.Proofs.YtecakklofhfphaaGreatDoor.AMX
