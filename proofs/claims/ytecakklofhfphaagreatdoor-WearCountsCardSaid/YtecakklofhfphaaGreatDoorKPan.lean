/- Panics: calls that panic, the operation itself, and a function that ends so. It holds for every program. -/
import Derived.Test.YtecakklofhfphaaGreatDoorKAct
import Derived.Test.YtecakklofhfphaaGreatDoorKTree
import Derived.Recover
import Derived.WideLaws
set_option linter.unusedVariables false
namespace Go.Proofs.YtecakklofhfphaaGreatDoor

abbrev exR {E R:Type} (y:Except E R) (A:R→Ending→World→Prop) (B:E→Ending→World→Prop):Ending→World→Prop:=match y with
  | .ok x=>A x
  | .error e=>B e
def PanS (T:Nat→Prop) (w:World) (R:(Nat→Prop)→World→Value→Prop) (e:Ending) (w' : World):Prop :=
  ∃ v,e = .panicked [{v,recovered:=false}] ∧ ∃ T',Im T w T' w' ∧ R T' w' v

section
variable {P:Program} {ops:Array Oper} {Q:Exit→Act→World→Prop} {rest:List Oper} {n:NF} {J:Nat→Value} {L:List (Nat×Value)} {w w' : World}
  {d:Nat} {dst:Option Tmp} {ty:TypeId} {pos:String} {aft:Array Edge} {v:Value} {x:Operand} {T:Nat→Prop} {KK:Act→World→Prop}

theorem calP {f:FuncId} {fo:Operand} {ca:Array Value} {args:List Value} {xs:Array Operand} {tys:Array TypeId} {R:(Nat→Prop)→World→Value→Prop} (hok:Q7 P f) (hf:ev n J L fo = .func (.func f) #[] ca) (hc:Calls P f args.toArray w (PanS T w R)) (ha:xs.toList.map (ev n J L)++ca.toList=args)
    (k : ∀ v T' w',Im T w T' w' → R T' w' v→Q (.panic [{v,recovered:=false}]) (env n J L) w') :
    Oper.wp P ⟨dst,.call ⟨.value fo,xs,tys⟩,ty,pos,aft,none⟩ (env n J L) w KK Q:=by
  obtain⟨fn,h1,h2,h3⟩:=hok.ex
  subst ha
  have hm:(xs.map (ev n J L))++ca=(xs.toList.map (ev n J L)++ca.toList).toArray:=by apply Array.ext'; simp
  have hr:=Q0z (w:=w) h1 h2 h3 (xs.map (ev n J L)++ca)
  have he:(execOp (ev n J L) ⟨dst,.call ⟨.value fo,xs,tys⟩,ty,pos,aft,none⟩).run P w = .ok (.enter f (xs.toList.map (ev n J L)++ca.toList).toArray) w:=by
    simp only [execOp,resolve,hf,Deferred.ofValue,invoke,Array.empty_append,pure_bind]
    rw [hr,hm]
  unfold Oper.wp
  rw [K7,he,Oper.upon_enter]
  refine hc.mono ?_
  rintro e w1 ⟨v,rfl,T',i,r⟩
  exact k v T' w1 i r
theorem panE {m:Nat} {fn:Func} {R:Ending→World→Prop} {c:List PanicEntry} (hR:R (.panicked c) w):bodyPost P fn R (.panic c) (env (nf m) J L) w:=⟨rfl,hR⟩
end

section
variable {P:Program} {Q:Exit→Act→World→Prop} {K:Act→World→Prop} {a:Act} {w:World} {c:List PanicEntry} {i:Nat} {l:List Oper}
theorem p_then (h:Q (.panic c) a w):Exit.then K Q (.panic c) a w:=h
theorem p_blk (h:Q (.panic c) a w):Exit.inBlock i Q (.panic c) a w:=h

end

section
variable {P:Program} {Q:Exit→Act→World→Prop} {n:NF} {J:Nat→Value} {L:List (Nat×Value)} {w:World} {l:List Oper} {T:Nat→Prop} {pd:List (Nat×Value)} {fl:List Nat}
end

/-! ## Functions that defer a call -/
section
variable {P:Program} {Q:Exit→Act→World→Prop} {n:NF} {J:Nat→Value} {L:List (Nat×Value)} {w:World} {ops:Array Oper} {KK:Act→World→Prop} {ty:TypeId} {pos:String} {aft:Array Edge} {x:Operand}
end

def EndO (R:World→Prop):Exit→Act→World→Prop
  | .normal,a,w=>a.defers = []∧R w
  | .ret,a,w=>a.defers = []∧R w
  | _,_,_=>False
section
variable {P:Program} {w:World} {J:Nat→Value} {L:List (Nat×Value)}
theorem lk_here {t:Nat} {v:Value} {m:Nat} (ht:Nat.blt t m=true):ev (nf m) J ((t,v)::L) (.tmp t)=v:=by
  simp only [ev,lk]
  rw [ht]
  simp
section
variable {f:FuncId} {fn:Func} {args:List Value} {m:Nat} {i:Nat} {t u:Tmp} {q q2 y1 y2:TypeId} {s1 s2:String} {f1 f2:Array Edge} {tys:Array TypeId} {X Y:Code} {R' : World→Prop}
theorem recO (cs cs' : List Frame) (v:Value) (b:Bool) (hv:(match recoverD cs with | some (v,cs')=>(v,cs') | none=>(.nilIface,cs))=(v,cs')) (hn : ∀ w,(binOp .neq q v .nilIface).run P w = .ok (.bool b) w) (he:eqGuard .neq q (.tmp t) (.const .nilIface) v .nilIface=pure ()) (ht:Nat.blt t m=true) (hu:Nat.blt u m=true)
    {Q:Exit→Act→List Frame→World→Prop} (h:Q .normal (env (nf m) J ((u,.bool b)::(t,v)::L)) cs' w) :
    (Code.region i #[⟨some t,.call ⟨.builtin .recover,#[],tys⟩,y1,s1,f1,none⟩,⟨some u,.binOp .neq q (.tmp t) (.const .nilIface) q2,y2,s2,f2,none⟩] false).wpS P Q (env (nf m) J L) cs w:=by
  refine wpS_region ?_
  show wpOpsS P _ Q [0,1] _ _ _
  have e1:(execOp (ev (nf m) J L) ⟨some t,.call ⟨.builtin .recover,#[],tys⟩,y1,s1,f1,none⟩).run P w = .ok .recover w:=by
    simp [go_sem]
  have e2:(execOp (ev (nf m) J ((t,v)::L)) ⟨some u,.binOp .neq q (.tmp t) (.const .nilIface) q2,y2,s2,f2,none⟩).run P w = .ok (.value (.bool b)) w:=by
    have hl:ev (nf m) J ((t,v)::L) (.tmp t)=v:=lk_here ht
    have hc:ev (nf m) J ((t,v)::L) (.const .nilIface) = .nilIface:=rfl
    simp [execOp,hl,hc,hn,he,go_sem]
  have hw1:Region.wanted (⟨some t,.call ⟨.builtin .recover,#[],tys⟩,y1,s1,f1,none⟩:Oper) (yielded #[⟨some t,.call ⟨.builtin .recover,#[],tys⟩,y1,s1,f1,none⟩,⟨some u,.binOp .neq q (.tmp t) (.const .nilIface) q2,y2,s2,f2,none⟩] (env (nf m) J L).tmps)=true:=rfl
  have key : ∀(v:Value) (cs:List Frame) w,(execOp (ev (nf m) J ((t,v)::L)) ⟨some u,.binOp .neq q (.tmp t) (.const .nilIface) q2,y2,s2,f2,none⟩).run P w = .ok (.value (.bool b)) w→Q .normal (env (nf m) J ((u,.bool b)::(t,v)::L)) cs w →
      wpOpsS P #[⟨some t,.call ⟨.builtin .recover,#[],tys⟩,y1,s1,f1,none⟩,⟨some u,.binOp .neq q (.tmp t) (.const .nilIface) q2,y2,s2,f2,none⟩] Q [1] (env (nf m) J ((t,v)::L)) cs w:=by
    intro v cs w he hq
    unfold wpOpsS
    simp only [List.getElem?_toArray,List.getElem?_cons_succ,List.getElem?_cons_zero]
    have hw2:Region.wanted (⟨some u,.binOp .neq q (.tmp t) (.const .nilIface) q2,y2,s2,f2,none⟩:Oper) (yielded #[⟨some t,.call ⟨.builtin .recover,#[],tys⟩,y1,s1,f1,none⟩,⟨some u,.binOp .neq q (.tmp t) (.const .nilIface) q2,y2,s2,f2,none⟩] (env (nf m) J ((t,v)::L)).tmps)=true:=rfl
    rw [if_pos hw2,K7,he]
    simp only [Oper.upon,wpOpsS]
    rw [E5]
    exact hq
  unfold wpOpsS
  simp only [List.getElem?_toArray,List.getElem?_cons_zero]
  rw [if_pos hw1,K7,e1]
  simp only
  cases hc:recoverD cs with
  | none =>
    rw [hc] at hv
    cases hv
    simp only
    rw [E5]
    exact key _ _ _ e2 h
  | some p =>
    obtain⟨v',cs''⟩:=p
    rw [hc] at hv
    cases hv
    simp only
    rw [E5]
    exact key _ _ _ e2 h
end

theorem panED {m:Nat} {fn:Func} {R:Ending→World→Prop} {c:List PanicEntry} (hR:R (.panicked c) w):bodyPostD P fn R (.panic c) (env (nf m) J L) w:=hR
theorem endO {n:NF} {R' : World→Prop} (hn:n.ds = []) (h:R' w):EndO R' .normal (env n J L) w:=⟨hn,h⟩
end
section
variable {P:Program} {w:World} {J:Nat→Value} {L:List (Nat×Value)} {f:FuncId} {fn:Func} {args:List Value} {m:Nat} {i:Nat} {t u:Tmp} {y1 y2:TypeId} {s1 s2:String} {f1 f2:Array Edge} {tys:Array TypeId} {Z:Code} {R' : World→Prop}
theorem endR {n:NF} {R' : World→Prop} (hn:n.ds = []) (h:R' w):EndO R' .ret (env n J L) w:=⟨hn,h⟩
end
end Go.Proofs.YtecakklofhfphaaGreatDoor
