/- Maps that the function owns, with integers or strings as keys. It holds for every program. -/
import Derived.Test.YtecakklofhfphaaGreatDoorKApp
set_option linter.unusedVariables false
namespace Go.Proofs.YtecakklofhfphaaGreatDoor

structure KeyOk {K:Type} [DecidableEq K] (kd:TypeDesc) (enk:K→Value):Prop where
  same : ∀ a b,Instr.sameNow kd (enk a) (enk b)=some (decide (a=b))
  bits : ∀ a,Instr.sameBits 10000 (enk a) (enk a)=true
  chk : ∀(P:Program) (w:World) (kt:TypeId) (em:Bool) (a:K),P.underlying kt=some kd→(Instr.checkKey em 10000 kt (enk a)).run P w = .ok () w

section
variable {K V:Type} [DecidableEq K] {kd:TypeDesc} {enk:K→Value} {en:V→Value}

theorem Q9c (hk:KeyOk kd enk) (k:K) : ∀(es:List MapEntry) (m:List (K×V)) (i:Nat),es.map (fun e=>(e.key,e.val))=m.map (fun p=>(enk p.1,en p.2)) →
    (Q3i m k=none∧Instr.findNow kd (enk k) es i=some none∧Z2g m k=fun v=>m ++ [(k,v)]) ∨
    (∃(j:Nat) (v:V) (e:MapEntry),Q3i m k=some v∧Instr.findNow kd (enk k) es i=some (some (i+j,en v))∧es[j]? = some e∧e.key=enk k∧j < m.length∧(Z2g m k=fun v=>m.set j (k,v))∧mDel m k=m.eraseIdx j)
  | [],m,i,h=>by
    have:m = []:=by simpa using h.symm
    subst this
    exact .inl ⟨rfl,rfl,rfl⟩
  | e::es,[],i,h=>by simp at h
  | e::es,p::m,i,h=>by
    simp only [List.map_cons,List.cons.injEq,Prod.mk.injEq] at h
    obtain⟨⟨h1,h2⟩,h3⟩:=h
    simp only [Instr.findNow,h1,hk.same]
    by_cases hkp:k=p.1
    · refine .inr ⟨0,p.2,e,?_,?_,rfl,by rw [h1,hkp],by simp,?_,?_⟩
      · simp [Q3i,hkp]
      · simp [hkp,h2]
      · funext v; simp [Z2g,hkp]
      · simp [mDel,hkp]
    · have hd:decide (k=p.1)=false:=by simpa using hkp
      rw [hd]
      rcases Q9c hk k es m (i+1) h3 with ⟨a1,a2,a3⟩ | ⟨j,v,e',a1,a2,a3,a4,a5,a6,a7⟩
      · exact .inl ⟨by simp [Q3i,hkp,a1],a2,by funext v; simp [Z2g,hkp,a3]⟩
      · refine .inr ⟨j+1,v,e',by simp [Q3i,hkp,a1],?_,by simpa using a3,a4,by simp; omega,?_,?_⟩
        · simp only [a2]; rw [show i+1+j=i+(j+1) by omega]
        · funext v'; simp [Z2g,hkp,a6]
        · simp [mDel,hkp,a7]
end

section
variable {P:Program} {ops:Array Oper} {Q:Exit→Act→World→Prop} {rest:List Oper} {n:NF} {J:Nat→Value} {L:List (Nat×Value)} {w w' w0:World}
  {d:Nat} {ty:TypeId} {pos:String} {aft:Array Edge} {op:Op} {v:Value} {x y c:Operand} {t t2:TypeId} {T:Nat→Prop} {KK:Act→World→Prop} {Qa:Act→Prop} {C:World→Prop}
  {K V:Type} [DecidableEq K] {kd:TypeDesc} {enk:K→Value} {en:V→Value} {b:Nat} {m:List (K×V)}

theorem mk (hb:Bd T w) (k : ∀ w' b,Inn w.heap.size noB T w T w' → (∀(K V:Type) (enk:K→Value) (en:V→Value),MapR enk en w' b [])→w.heap.size≤b → ¬ T b→KK (env n J ((d,.map (some b))::L)) w') :
    Oper.wp P ⟨some d,.makeMap t none,ty,pos,aft,none⟩ (env n J L) w KK Q:=by
  refine Q8l (w' := w.alloc (.map #[] 0)) (v := .map (some w.heap.size)) ?_ (k _ _ (Q0u hb _) (fun _ _ _ _=>⟨#[],0,?_,by simp⟩) (Nat.le_refl _) (Q6d hb))
  · simp only [execOp,Instr.makeMap,Option.map_none,Sem.run_bind,Sem.run_pure]; rfl
  · rw [show (w.alloc (.map #[] 0)).heap[w.heap.size]? = some (.map #[] 0) from heap_alloc_new w _]

theorem Z0z {es:Array MapEntry} {clock:Nat} (h:w.heap[b]? = some (.map es clock)):(getObj b).run P w = .ok (.map es clock) w:=by simp [getObj,Sem.run,h]

theorem Q8p {kt:TypeId} {es:List MapEntry} {r:Option (Nat×Value)} {k:Value} (hu:P.underlying kt=some kd) (h:Instr.findNow kd k es 0=some r):(Instr.findKey kt k es).run P w = .ok r w:=by
  simp [Instr.findKey,run_underlying hu,h]

def Q0m (w:World) (b:Nat) (o:Obj):World := {w with heap:=w.heap.setIfInBounds b o}
theorem Y2y (w:World) (b:Nat) (o:Obj):Ch (· = b) w (Q0m w b o) :=
  ⟨rfl,rfl,rfl,by simp [Q0m],fun k hk hn=>by simp [Q0m,Ne.symm hn]⟩
theorem Q9b {w:World} {b:Nat} {o o' : Obj} (h:w.heap[b]? = some o):(Q0m w b o').heap[b]? = some o' := by
  have:=hlt h
  simp [Q0m,this]
theorem Z0y {o:Obj} {es:Array MapEntry} {clock:Nat} (h:w.heap[b]? = some (.map es clock)):(setObj b o).run P w = .ok () (Q0m w b o):=by simp [setObj,Sem.run,h,Q0m]

theorem Z3u {kt et:TypeId} (hm:MapR enk en w b m) (hk:KeyOk kd enk) (ht:P.underlying t=some (.map kt et)) (hu:P.underlying kt=some kd) (k:K) (u:V) :
    ∃ o,(Instr.mapUpdate t (.map (some b)) (enk k) (en u)).run P w = .ok () (Q0m w b o)∧MapR enk en (Q0m w b o) b (Z2g m k u):=by
  obtain⟨es,clock,hg,he⟩:=hm
  unfold Instr.mapUpdate
  simp only [Sem.run_bind,run_underlying ht,Result.andThen_ok,Z0z hg,hk.chk P w kt false k hu]
  rcases Q9c hk k es.toList m 0 he with ⟨a1,a2,a3⟩ | ⟨j,v,e',a1,a2,a3,a4,a5,a6,_⟩
  · refine⟨.map (es.push {key:=enk k,val:=en u,born:=clock}) (clock+1),?_,_,_,Q9b hg,?_⟩
    · simp [Q8p hu a2,Z0y hg]
    · rw [a3]; simp [he]
  · have hkk:((es[j]?).map (·.key)).getD (enk k)=enk k:=by
      have:es[j]? = some e' := by simpa using a3
      rw [this]; simpa using a4
    refine⟨.map (es.modify (0+j) fun e => {e with key:=enk k,val:=en u}) clock,?_,_,_,Q9b hg,?_⟩
    · simp only [Q8p hu a2,Result.andThen_ok]
      have hs:(Instr.keyThatStays (((es[0+j]?).map (·.key)).getD (enk k)) (enk k)).run P w = .ok (enk k) w:=by
        rw [Nat.zero_add,hkk]
        simp [Instr.keyThatStays,hk.bits]
      simp only [Sem.run_bind,hs,Result.andThen_ok,Z0y hg]
    · rw [a6]
      apply List.ext_getElem?
      intro q
      have heq : ∀ q:Nat,(es.toList.map (fun e=>(e.key,e.val)))[q]? = (m.map (fun p=>(enk p.1,en p.2)))[q]? := fun q=>by rw [he]
      have hq:=heq q
      simp only [List.getElem?_map,Array.getElem?_toList,Array.getElem?_modify,List.getElem?_set,Nat.zero_add] at hq ⊢
      by_cases hjq:j=q
      · subst hjq
        have:es[j]? = some e' := by simpa using a3
        simp [this,a5]
      · simp [hjq,hq]

theorem mu {kt et:TypeId} {k:K} {u:V} (hx:ev n J L x = .map (some b)) (hy:ev n J L y=enk k) (hc:ev n J L c=en u) (hm:MapR enk en w b m) (hk:KeyOk kd enk) (ht:P.underlying t=some (.map kt et)) (hu:P.underlying kt=some kd) (hT : ¬ T b) (hb:Bd T w)
    (k' : ∀ w',Inn w.heap.size (· = b) T w T w' → MapR enk en w' b (Z2g m k u)→KK (env n J L) w') :
    Oper.wp P ⟨none,.mapUpdate t x y c,ty,pos,aft,none⟩ (env n J L) w KK Q:=by
  obtain⟨o,hr,hm'⟩:=Z3u hm hk ht hu k u
  exact Z5q (by simp [execOp,hx,hy,hc,hr]) (k' _ ((Inn.refl hb (Nat.le_refl _)).ch1 (Y2y w b o) fun k hk=>⟨hk ▸ hT,.inr hk⟩) hm')
end
end Go.Proofs.YtecakklofhfphaaGreatDoor
