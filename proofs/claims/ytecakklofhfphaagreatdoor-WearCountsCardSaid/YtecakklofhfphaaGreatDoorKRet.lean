/- The end of a function whose results lie in slots or in memory. It holds for every program. -/
import Derived.Test.YtecakklofhfphaaGreatDoorKWalk
import Derived.Test.YtecakklofhfphaaGreatDoorKStr
set_option linter.unusedVariables false
namespace Go.Proofs.YtecakklofhfphaaGreatDoor

section
variable {P:Program} {n:NF} {J:Nat→Value} {L:List (Nat×Value)} {w:World}

def RVs (P:Program) (n:NF) (J:Nat→Value) (L:List (Nat×Value)) (w:World):List ResultVar→List Value→Prop
  | [],[]=>True
  | .tmp t::rs,v::vs=>ev n J L (.tmp t)=v∧RVs P n J L w rs vs
  | .cell a ty::rs,v::vs=>(∃ ad,ev n J L (.tmp a) = .pointer (some ad)∧(loadVar ty ad).run P w = .ok v w)∧RVs P n J L w rs vs
  | _,_=>False

theorem Y0o (t:Nat):(env n J L).tmps.getD t undef=ev n J L (.tmp t):=by rw [← K7]; rfl

def rvGet (tmps:Array Value):ResultVar→Sem Value
  | .tmp t=>pure (tmps.getD t undef)
  | .cell a t=>do loadVar t (← asAddr (tmps.getD a undef))

theorem Z7l : ∀(rs:List ResultVar) (vs:List Value),RVs P n J L w rs vs→(rs.mapM (rvGet (env n J L).tmps)).run P w = .ok vs w:=by
  intro rs
  induction rs with
  | nil =>
    intro vs h
    cases vs with
    | nil=>simp only [List.mapM_nil,Sem.run_pure]
    | cons v vs=>cases h
  | cons r rs ih =>
    intro vs h
    cases vs with
    | nil=>cases r <;> cases h
    | cons v vs =>
      cases r with
      | tmp t =>
        obtain⟨h1,h2⟩:=h
        simp only [List.mapM_cons,Sem.run_bind,rvGet,Sem.run_pure,Result.andThen_ok,ih vs h2,Y0o,h1]
      | cell a ty =>
        obtain⟨⟨ad,h1,h2⟩,h3⟩:=h
        simp only [List.mapM_cons,Sem.run_bind,rvGet,Sem.run_pure,Result.andThen_ok,ih vs h3,Y0o,h1,asAddr,h2]

def tupV:List Value→Value
  | [v]=>v
  | vs => .tuple vs.toArray

theorem resN {fn:Func} {rs:List ResultVar} {vs:List Value} {u:Value} (hr:fn.results=rs.toArray) (hv:RVs P n J L w rs vs) (hu:tupV vs=u):(results fn (env n J L).tmps).run P w = .ok u w:=by
  have h:=Z7l rs vs hv
  have hm:results fn (env n J L).tmps=(do
      let vs ← fn.results.mapM (rvGet (env n J L).tmps)
      pure (if h:vs.size=1 then vs[0] else .tuple vs)):=by
    unfold results
    rfl
  rw [hm,hr,List.mapM_toArray]
  simp only [Sem.run_bind,Sem.run_map,h,Result.andThen_ok,Sem.run_pure]
  subst hu
  cases vs with
  | nil=>simp [tupV]
  | cons v vs=>cases vs <;> simp [tupV]

theorem retN {m:Nat} {fn:Func} {R:Ending→World→Prop} {rs:List ResultVar} {vs:List Value} {u:Value} (hr:fn.results=rs.toArray) (hv:RVs P (nf m) J L w rs vs) (hu:tupV vs=u) (hR:R (.returned u) w):bodyPost P fn R .ret (env (nf m) J L) w :=
  bodyPost_ret (resN hr hv hu) rfl hR

theorem rvS {a:Tmp} {ty:TypeId} {b sz:Nat} {cs:List Value} (hx:ev n J L (.tmp a) = .pointer (some ⟨b,0,none⟩)) (ht : ∀ w,(isAgg ty).run P w = .ok true w) (hs : ∀ w,(sizeOf ty).run P w = .ok sz w) (hl:cs.length=sz) (hb:Box w b cs) :
    ∃ ad,ev n J L (.tmp a) = .pointer (some ad)∧(loadVar ty ad).run P w = .ok (.agg cs.toArray) w:=by
  subst hl
  refine⟨_,hx,?_⟩
  have:=run_loadCells_list (P:=P) (w:=w) ⟨b,0,none⟩ cs (fun j v hj=>by
    rw [Addr.add_lit,Nat.zero_add,hb.cell]
    exact hj)
  simp [loadVar,ht,hs,this]
theorem rv1 {a:Tmp} {ty:TypeId} {b:Nat} {v:Value} (hx:ev n J L (.tmp a) = .pointer (some ⟨b,0,none⟩)) (ht : ∀ w,(isAgg ty).run P w = .ok false w) (hb:Box w b [v]) :
    ∃ ad,ev n J L (.tmp a) = .pointer (some ad)∧(loadVar ty ad).run P w = .ok v w:=by
  refine⟨_,hx,?_⟩
  have:w.cell? ⟨b,0,none⟩=some v:=by rw [hb.cell]; rfl
  simp [loadVar,ht,go_sem,this]
end
end Go.Proofs.YtecakklofhfphaaGreatDoor
