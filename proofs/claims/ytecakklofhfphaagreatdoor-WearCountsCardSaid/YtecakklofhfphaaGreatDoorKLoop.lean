/- Plain laws on loops of the models: a loop runs along given states. No program is in sight here. -/
import Derived.Test.YtecakklofhfphaaGreatDoorKPure
set_option linter.unusedVariables false
namespace Go.Proofs.YtecakklofhfphaaGreatDoor

def Fin {S R:Type} : Lp S R→Prop
  | .go _=>False
  | _=>True

theorem loop_run {S R:Type} {body:S→Option (Lp S R)} (st:Nat→S) {z:Lp S R} (hz:Fin z) : ∀(m n:Nat),m < n→(∀ k,k < m→body (st k)=some (.go (st (k+1))))→body (st m)=some z→Y9 body n (st 0)=some z:=by
  intro m
  induction m generalizing st with
  | zero =>
    intro n hn _ he
    cases n with
    | zero=>omega
    | succ n =>
      unfold Y9
      rw [he]
      cases z with
      | go s=>exact hz.elim
      | brk s=>rfl
      | ret r=>rfl
  | succ m ih =>
    intro n hn hs he
    cases n with
    | zero=>omega
    | succ n =>
      unfold Y9
      rw [hs 0 (by omega)]
      exact ih (fun k=>st (k+1)) n (by omega) (fun k hk=>hs (k+1) (by omega)) he

/-- A loop that goes m rounds along st, and then ends. -/
theorem run_bind {S R A:Type} {body:S→Option (Lp S R)} {K:Lp S R→Option A} {X:Option A} {init:S} (st:Nat→S) (m:Nat) (z:Lp S R) (h0:st 0=init) (hm:m < 18446744073709551616)
    (hs : ∀ k,k < m→body (st k)=some (.go (st (k+1)))) (he:body (st m)=some z) (hz:Fin z) (hX:K z=X):(Y9 body NN init).bind K=X:=by
  subst h0
  rw [loop_run st hz m NN (Q8j hm) hs he]
  exact hX
/-- A loop over indices that looks for the first element of a kind. -/
theorem find_bind {α A R:Type} {body:Int→Option (Lp Int R)} {K:Lp Int R→Option A} {X:Option A} (l:List α) (p : α → Bool) (ret:Nat→R) (hl:l.length < 4611686018427387904)
    (hs : ∀ k (h:k < l.length),body (k:Int)=some (bif p l[k] then .ret (ret k) else .go (IntKind.wrap .i64 ((k:Int)+1)))) (he:body (l.length:Int)=some (.brk (l.length:Int)))
    (hX:(match l.findIdx? p with | some k=>K (.ret (ret k)) | none=>K (.brk (l.length:Int)))=X):(Y9 body NN 0).bind K=X:=by
  have hw : ∀ k:Nat,k < l.length→IntKind.wrap .i64 ((k:Int)+1)=((k+1:Nat):Int):=fun k hk=>by rw [w64 (by omega)]; omega
  cases hf:l.findIdx? p with
  | none =>
    rw [hf] at hX
    have hn:=List.findIdx?_eq_none_iff.1 hf
    refine run_bind (fun k=>(k:Int)) l.length (.brk (l.length:Int)) rfl (by omega) (fun k hk => ?_) he trivial hX
    rw [hs k hk,hn l[k] (List.getElem_mem hk),cond_false,hw k hk]
  | some i =>
    rw [hf] at hX
    obtain⟨hi,hp,hlt⟩:=List.findIdx?_eq_some_iff_getElem.1 hf
    refine run_bind (fun k=>(k:Int)) i (.ret (ret i)) rfl (by omega) (fun k hk => ?_) (by rw [hs i hi,hp,cond_true]) trivial hX
    have:=hlt k hk
    rw [hs k (by omega),show p l[k]=false by simpa using this,cond_false,hw k (by omega)]
/-- A loop that copies. -/
theorem map_bind {α β A R:Type} {body:List β × Int→Option (Lp (List β × Int) R)} {K:Lp (List β × Int) R→Option A} {X:Option A} (l:List α) (f : α → β) (hl:l.length < 4611686018427387904)
    (hs : ∀ k (h:k < l.length),body ((l.take k).map f,(k:Int))=some (.go ((l.take k).map f ++ [f l[k]],IntKind.wrap .i64 ((k:Int)+1)))) (he:body (l.map f,(l.length:Int))=some (.brk (l.map f,(l.length:Int))))
    (hX:K (.brk (l.map f,(l.length:Int)))=X):(Y9 body NN ([],0)).bind K=X:=by
  refine run_bind (fun k=>((l.take k).map f,(k:Int))) l.length (.brk (l.map f,(l.length:Int))) (by simp) (by omega) (fun k hk => ?_) (by rw [List.take_length]; exact he) trivial hX
  rw [hs k hk]
  congr 3
  · rw [List.take_succ_eq_append_getElem hk,List.map_append]; rfl
  · rw [w64 (by omega)]; omega
theorem c1 {α : Type} {b:Bool} {x y : α} (h:b=true):(bif b then x else y)=x:=by subst h; rfl
theorem c0 {α : Type} {b:Bool} {x y : α} (h:b=false):(bif b then x else y)=y:=by subst h; rfl
theorem dlt {k n:Nat} (h:k < n):decide ((k:Int) < (n:Int))=true:=by simpa using h
theorem dge (n:Nat):decide ((n:Int) < (n:Int))=false:=by simp
end Go.Proofs.YtecakklofhfphaaGreatDoor
