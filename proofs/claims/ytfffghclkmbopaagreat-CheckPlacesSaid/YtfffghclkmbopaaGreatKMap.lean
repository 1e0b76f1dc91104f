/- Maps that the function owns, with integers or strings as keys. It holds for every program. -/
import Derived.Test.YtfffghclkmbopaaGreatKApp
set_option linter.unusedVariables false
namespace Go.Proofs.YtfffghclkmbopaaGreat

structure Y0p {K:Type} [DecidableEq K] (kd:TypeDesc) (enk:K→Value):Prop where
  same : ∀ a b,Instr.sameNow kd (enk a) (enk b)=some (decide (a=b))
  bits : ∀ a,Instr.sameBits 10000 (enk a) (enk a)=true
  chk : ∀(P:Program) (w:World) (kt:TypeId) (em:Bool) (a:K),P.underlying kt=some kd→(Instr.checkKey em 10000 kt (enk a)).run P w = .ok () w

theorem Y7t (k:IntKind):Y0p (.int k) (Value.int k) where
  same:=fun a b=>by simp [Instr.sameNow]; exact Bool.eq_iff_iff.2 (by simp)
  bits:=fun a=>by
    have : ∀ n,Instr.sameBits n (.int k a) (.int k a)=true:=by intro n; cases n <;> simp [Instr.sameBits]
    exact this _
  chk:=fun P w kt em a h=>by
    have : ∀ n,(Instr.checkKey em (n+1) kt (.int k a)).run P w = .ok () w:=by intro n; simp [Instr.checkKey,run_underlying h]
    exact this 9999

section
variable {K V:Type} [DecidableEq K] {kd:TypeDesc} {enk:K→Value} {en:V→Value}

theorem Z9g (hk:Y0p kd enk) (k:K) : ∀(es:List MapEntry) (m:List (K×V)) (i:Nat),es.map (fun e=>(e.key,e.val))=m.map (fun p=>(enk p.1,en p.2)) →
    (Q5z m k=none∧Instr.findNow kd (enk k) es i=some none∧Q7t m k=fun v=>m ++ [(k,v)]) ∨
    (∃(j:Nat) (v:V) (e:MapEntry),Q5z m k=some v∧Instr.findNow kd (enk k) es i=some (some (i+j,en v))∧es[j]? = some e∧e.key=enk k∧j < m.length∧(Q7t m k=fun v=>m.set j (k,v))∧mDel m k=m.eraseIdx j)
  | [],m,i,h=>by
    have:m = []:=by simpa using h.symm
    subst this
    exact .inl ⟨rfl,rfl,rfl⟩
  | e::es,[],i,h=>by simp at h
  | e::es,p::m,i,h=>by
    simp only [List.map_cons,List.cons.injEq,Prod.mk.injEq] at h
    obtain⟨⟨h1,h2⟩,h3⟩:=h
    simp only [Instr.findNow,h1,hk.same]
    by_cases hkp:k=p.1
    · refine .inr ⟨0,p.2,e,?_,?_,rfl,by rw [h1,hkp],by simp,?_,?_⟩
      · simp [Q5z,hkp]
      · simp [hkp,h2]
      · funext v; simp [Q7t,hkp]
      · simp [mDel,hkp]
    · have hd:decide (k=p.1)=false:=by simpa using hkp
      rw [hd]
      rcases Z9g hk k es m (i+1) h3 with ⟨a1,a2,a3⟩ | ⟨j,v,e',a1,a2,a3,a4,a5,a6,a7⟩
      · exact .inl ⟨by simp [Q5z,hkp,a1],a2,by funext v; simp [Q7t,hkp,a3]⟩
      · refine .inr ⟨j+1,v,e',by simp [Q5z,hkp,a1],?_,by simpa using a3,a4,by simp; omega,?_,?_⟩
        · simp only [a2]; rw [show i+1+j=i+(j+1) by omega]
        · funext v'; simp [Q7t,hkp,a6]
        · simp [mDel,hkp,a7]
end

section
variable {P:Program} {ops:Array Oper} {Q:Exit→Act→World→Prop} {rest:List Oper} {n:NF} {J:Nat→Value} {L:List (Nat×Value)} {w w' w0:World}
  {d:Nat} {ty:TypeId} {pos:String} {aft:Array Edge} {op:Op} {v:Value} {x y c:Operand} {t t2:TypeId} {T:Nat→Prop} {KK:Act→World→Prop} {Qa:Act→Prop} {C:World→Prop}
  {K V:Type} [DecidableEq K] {kd:TypeDesc} {enk:K→Value} {en:V→Value} {b:Nat} {m:List (K×V)}

theorem mk (hb:Bd T w) (k : ∀ w' b,Inn w.heap.size noB T w T w' → (∀(K V:Type) (enk:K→Value) (en:V→Value),Y3r enk en w' b [])→w.heap.size≤b → ¬ T b→KK (env n J ((d,.map (some b))::L)) w') :
    Oper.wp P ⟨some d,.makeMap t none,ty,pos,aft,none⟩ (env n J L) w KK Q:=by
  refine Y0i (w' := w.alloc (.map #[] 0)) (v := .map (some w.heap.size)) ?_ (k _ _ (Z1n hb _) (fun _ _ _ _=>⟨#[],0,?_,by simp⟩) (Nat.le_refl _) (Z8u hb))
  · simp only [execOp,Instr.makeMap,Option.map_none,Sem.run_bind,Sem.run_pure]; rfl
  · rw [show (w.alloc (.map #[] 0)).heap[w.heap.size]? = some (.map #[] 0) from heap_alloc_new w _]

theorem Z3u {es:Array MapEntry} {clock:Nat} (h:w.heap[b]? = some (.map es clock)):(getObj b).run P w = .ok (.map es clock) w:=by simp [getObj,Sem.run,h]

theorem Z1y {kt:TypeId} {es:List MapEntry} {r:Option (Nat×Value)} {k:Value} (hu:P.underlying kt=some kd) (h:Instr.findNow kd k es 0=some r):(Instr.findKey kt k es).run P w = .ok r w:=by
  simp [Instr.findKey,run_underlying hu,h]

theorem X0j {kt et:TypeId} {z:Value} {ok:Bool} (hm:Y3r enk en w b m) (hk:Y0p kd enk) (ht:P.underlying t=some (.map kt et)) (hu:P.underlying kt=some kd) (hz : ∀ w,(zeroValue et).run P w = .ok z w) (k:K) :
    (Instr.lookup t (.map (some b)) (enk k) ok).run P w = .ok (if ok then .tuple #[((Q5z m k).map en).getD z,.bool (Q5z m k).isSome] else ((Q5z m k).map en).getD z) w:=by
  obtain⟨es,clock,hg,he⟩:=hm;unfold Instr.lookup
  simp only [Sem.run_bind,run_underlying ht,Result.andThen_ok,Z3u hg,Sem.run_pure,hk.chk P w kt es.isEmpty k hu]
  rcases Z9g hk k es.toList m 0 he with ⟨a1,a2,_⟩ | ⟨j,v,e',a1,a2,_⟩
  · simp [Z1y hu a2,hz,a1]
  · simp [Z1y hu a2,a1]

def Z2x (w:World) (b:Nat) (o:Obj):World := {w with heap:=w.heap.setIfInBounds b o}
theorem X2q (w:World) (b:Nat) (o:Obj):Ch (· = b) w (Z2x w b o) :=
  ⟨rfl,rfl,rfl,by simp [Z2x],fun k hk hn=>by simp [Z2x,Ne.symm hn]⟩
theorem Y3i {w:World} {b:Nat} {o o' : Obj} (h:w.heap[b]? = some o):(Z2x w b o').heap[b]? = some o' := by
  have:=hlt h
  simp [Z2x,this]
theorem Y4l {o:Obj} {es:Array MapEntry} {clock:Nat} (h:w.heap[b]? = some (.map es clock)):(setObj b o).run P w = .ok () (Z2x w b o):=by simp [setObj,Sem.run,h,Z2x]

theorem Y5s {kt et:TypeId} (hm:Y3r enk en w b m) (hk:Y0p kd enk) (ht:P.underlying t=some (.map kt et)) (hu:P.underlying kt=some kd) (k:K) (u:V) :
    ∃ o,(Instr.mapUpdate t (.map (some b)) (enk k) (en u)).run P w = .ok () (Z2x w b o)∧Y3r enk en (Z2x w b o) b (Q7t m k u):=by
  obtain⟨es,clock,hg,he⟩:=hm;unfold Instr.mapUpdate
  simp only [Sem.run_bind,run_underlying ht,Result.andThen_ok,Z3u hg,hk.chk P w kt false k hu]
  rcases Z9g hk k es.toList m 0 he with ⟨a1,a2,a3⟩ | ⟨j,v,e',a1,a2,a3,a4,a5,a6,_⟩
  · refine⟨.map (es.push {key:=enk k,val:=en u,born:=clock}) (clock+1),?_,_,_,Y3i hg,?_⟩
    · simp [Z1y hu a2,Y4l hg]
    · rw [a3]; simp [he]
  · have hkk:((es[j]?).map (·.key)).getD (enk k)=enk k:=by
      have:es[j]? = some e' := by simpa using a3
      rw [this]; simpa using a4
    refine⟨.map (es.modify (0+j) fun e => {e with key:=enk k,val:=en u}) clock,?_,_,_,Y3i hg,?_⟩
    · simp only [Z1y hu a2,Result.andThen_ok]
      have hs:(Instr.keyThatStays (((es[0+j]?).map (·.key)).getD (enk k)) (enk k)).run P w = .ok (enk k) w:=by
        rw [Nat.zero_add,hkk]
        simp [Instr.keyThatStays,hk.bits]
      simp only [Sem.run_bind,hs,Result.andThen_ok,Y4l hg]
    · rw [a6];apply List.ext_getElem?;intro q;have heq : ∀ q:Nat,(es.toList.map (fun e=>(e.key,e.val)))[q]? = (m.map (fun p=>(enk p.1,en p.2)))[q]? := fun q=>by rw [he]
      have hq:=heq q
      simp only [List.getElem?_map,Array.getElem?_toList,Array.getElem?_modify,List.getElem?_set,Nat.zero_add] at hq ⊢
      by_cases hjq:j=q
      · subst hjq;have:es[j]? = some e' := by simpa using a3
        simp [this,a5]
      · simp [hjq,hq]

theorem mu {kt et:TypeId} {k:K} {u:V} (hx:ev n J L x = .map (some b)) (hy:ev n J L y=enk k) (hc:ev n J L c=en u) (hm:Y3r enk en w b m) (hk:Y0p kd enk) (ht:P.underlying t=some (.map kt et)) (hu:P.underlying kt=some kd) (hT : ¬ T b) (hb:Bd T w)
    (k' : ∀ w',Inn w.heap.size (· = b) T w T w' → Y3r enk en w' b (Q7t m k u)→KK (env n J L) w') :
    Oper.wp P ⟨none,.mapUpdate t x y c,ty,pos,aft,none⟩ (env n J L) w KK Q:=by
  obtain⟨o,hr,hm'⟩:=Y5s hm hk ht hu k u;exact Y7b (by simp [execOp,hx,hy,hc,hr]) (k' _ ((Inn.refl hb (Nat.le_refl _)).ch1 (X2q w b o) fun k hk=>⟨hk ▸ hT,.inr hk⟩) hm')
end
end Go.Proofs.YtfffghclkmbopaaGreat
