/- What a function leads to, found with a set of bits: for closed facts on large programs. No program is in sight here. -/
import GoSem.ClaimSeven
import Derived.KernelRfl
namespace Go.Proofs.YtecakklofhfphaaGreatDoor
open Go
noncomputable def cloF (P:Program):Nat→List FuncId→Nat→List FuncId→List FuncId
  | 0,_,_,seen=>seen.reverse
  | _,[],_,seen=>seen.reverse
  | n+1,f::todo,m,seen=>bif m.testBit f then cloF P n todo m seen else cloF P n ((P.funcs[f]?).elim [] P.leadsTo++todo) (m ||| 1 <<< f) (f::seen)
theorem Z6u {P:Program} : ∀ {n:Nat} {todo:List FuncId} {m:Nat} {seen:List FuncId},(∀ x:Nat,m.testBit x=seen.contains x)→P.closureVia n todo seen=cloF P n todo m seen
  | 0,_,_,_,_=>by unfold Program.closureVia cloF; rfl
  | n+1,[],_,_,_=>by unfold Program.closureVia cloF; rfl
  | n+1,f::todo,m,seen,h=>by
    unfold Program.closureVia cloF
    cases hb:m.testBit f with
    | true =>
      rw [if_pos (by rw [← h f]; exact hb)]
      exact Z6u h
    | false =>
      rw [if_neg (by rw [← h f,hb]; decide)]
      refine Z6u fun x => ?_
      rw [Nat.testBit_or,Nat.one_shiftLeft,Nat.testBit_two_pow,List.contains_cons,h x,Bool.or_comm]
      congr 1
      by_cases e:f=x
      · subst e; simp
      · rw [decide_eq_false e]
        exact(beq_eq_false_iff_ne.2 (fun q=>e q.symm)).symm
theorem Y0f (P:Program) (f:FuncId):P.closure f=cloF P (1+(P.funcs.toList.map fun g=>(P.leadsTo g).length+1).sum) [f] 0 []:=by
  unfold Program.closure
  exact Z6u fun x=>by simp
end Go.Proofs.YtecakklofhfphaaGreatDoor
