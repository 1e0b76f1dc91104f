/- Steps that find by themselves what they need, where panics may leave a function. It holds for every program. -/
import Derived.Test.YtecakklofhfphaaGreatDoorKAuto
import Derived.Test.YtecakklofhfphaaGreatDoorKPan
set_option linter.unusedVariables false
namespace Go.Proofs.YtecakklofhfphaaGreatDoor

theorem psm {g:World} {T T' : Nat→Prop} {w w' : World} {R:(Nat→Prop)→World→Value→Prop} {v:Value} {G:List Z4} (S:Sep g T' w' G) (i:Im T w T' w') (h:R T' w' v):PanS T w R (.panicked [{v,recovered:=false}]) w' := ⟨v,rfl,T',i,h⟩
theorem eoR {P:Program} {fn:Func} {t:Array Value} {w:World} {u:Value} {R:Ending→World→Prop} (h:(results fn t).run P w = .ok u w) (hR:R (.returned u) w) : ∃ v,(results fn t).run P w = .ok v w∧R (.returned v) w:=⟨u,h,hR⟩
section
variable {P:Program} {ops:Array Oper} {Q:Exit→Act→World→Prop} {rest:List Oper} {n:NF} {J:Nat→Value} {L:List (Nat×Value)} {w:World}
  {d:Nat} {ty:TypeId} {pos:String} {aft:Array Edge} {T:Nat→Prop} {f:FuncId} {fo:Operand} {ca:Array Value} {args:List Value} {xs:Array Operand} {tys:Array TypeId}
  {E O A:Type} {m:Option (Except E O)} {ko:O→Option A} {ke:E→Option A} {r:A} {Ro:O→(Nat→Prop)→World→Value→Prop} {Re:E→(Nat→Prop)→World→Value→Prop}
theorem wcP (hok:Q7 P f) (hm:(m.bind fun y=>exC y ko ke)=some r) (hc : ∀ y,m=some y→Calls P f args.toArray w (exR y (fun x=>Y4 T w (Ro x)) (fun e=>PanS T w (Re e))))
    (k1 : ∀ e v T' w',Im T w T' w' → Re e T' w' v→ke e=some r→Q (.panic [{v,recovered:=false}]) (env n J L) w')
    (k2 : ∀ x v T' w',Im T w T' w' → Ro x T' w' v→ko x=some r→wpList P ops Q rest (env n J ((d,v)::L)) w')
    (hf:ev n J L fo = .func (.func f) #[] ca:=by exact rfl) (ha:xs.toList.map (ev n J L)++ca.toList=args:=by exact rfl) :
    wpList P ops Q (⟨some d,.call ⟨.value fo,xs,tys⟩,ty,pos,aft,none⟩::rest) (env n J L) w:=by
  obtain⟨y,hy,hm⟩:=Q4 hm
  rcases y with e | x
  · exact wl rfl (calP hok hf (hc _ hy) ha fun v T' w' i q=>k1 e v T' w' i q (Q5g hm))
  · exact wl rfl (calS hok hf (hc _ hy) ha fun v T' w' i q=>k2 x v T' w' i q (Z6q hm))
theorem wcPN (hok:Q7 P f) (hm:(m.bind fun y=>exC y ko ke)=some r) (hc : ∀ y,m=some y→Calls P f args.toArray w (exR y (fun x=>Y4 T w (Ro x)) (fun e=>PanS T w (Re e))))
    (k1 : ∀ e v T' w',Im T w T' w' → Re e T' w' v→ke e=some r→Q (.panic [{v,recovered:=false}]) (env n J L) w')
    (k2 : ∀ x v T' w',Im T w T' w' → Ro x T' w' v→ko x=some r→wpList P ops Q rest (env n J L) w')
    (hf:ev n J L fo = .func (.func f) #[] ca:=by exact rfl) (ha:xs.toList.map (ev n J L)++ca.toList=args:=by exact rfl) :
    wpList P ops Q (⟨none,.call ⟨.value fo,xs,tys⟩,ty,pos,aft,none⟩::rest) (env n J L) w:=by
  obtain⟨y,hy,hm⟩:=Q4 hm
  rcases y with e | x
  · exact wl rfl (calP hok hf (hc _ hy) ha fun v T' w' i q=>k1 e v T' w' i q (Q5g hm))
  · exact wl rfl (calN hok hf (hc _ hy) ha fun v T' w' i q=>k2 x v T' w' i q (Z6q hm))
end
end Go.Proofs.YtecakklofhfphaaGreatDoor
