/- Operations that make or write memory; calls. It holds for every program. -/
import Derived.Test.YtecakklofhfphaaGreatDoorKOps
set_option linter.unusedVariables false
namespace Go.Proofs.YtecakklofhfphaaGreatDoor

structure Q7 (P:Program) (f:FuncId):Prop where
  ex : ∃ fn, P.funcs[f]? = some fn ∧ (fn.name == "runtime.NumGoroutine") = false ∧ fn.body.isNone = false

def Dj (v:Value) (b:Nat):Prop := ∀ k,v.ownBlock=some k→k ≠ b
def ownS (v:Value):Nat→Prop:=fun k=>v.ownBlock=some k

def MapR {K V:Type} (enk:K→Value) (env:V→Value) (w:World) (b:Nat) (m:List (K×V)):Prop :=
  ∃ es clock,w.heap[b]? = some (.map es clock)∧es.toList.map (fun e=>(e.key,e.val))=m.map (fun p=>(enk p.1,env p.2))

theorem MapR.lt {K V:Type} {enk:K→Value} {en:V→Value} {w:World} {b:Nat} {m:List (K×V)} (h:MapR enk en w b m):b < w.heap.size:=let ⟨_,_,h,_⟩:=h; hlt h
theorem MapR.keep {K V:Type} {enk:K→Value} {en:V→Value} {w w' : World} {b:Nat} {m:List (K×V)} {B:Nat} {M T T' : Nat→Prop} (h:MapR enk en w b m) (i:Inn B M T w T' w') (hB : ¬ (B≤b ∨ M b)):MapR enk en w' b m :=
  let ⟨es,c,h,e⟩:=h
  ⟨es,c,i.ch.keep h hB,e⟩
theorem OwS.lt {α : Type} {r:Rp α} {e:TypeId} {B:Nat} {T:Nat→Prop} {w:World} {v:Value} {l:List α} (h:OwS r e B T w v l) : ∀ k,v.ownBlock=some k→B≤k∧k < w.heap.size:=let ⟨_,_,h,_⟩:=h; h.lt
theorem OwS.shape {α : Type} {r:Rp α} {e:TypeId} {B:Nat} {T:Nat→Prop} {w:World} {v:Value} {l:List α} (h:OwS r e B T w v l) : ∃ a c,v = .slice a l.length c:=by
  obtain⟨css,_,h,_⟩:=h
  rcases h.2 with ⟨hv,h0⟩ | ⟨g,cap,cur,hv,_⟩
  · exact⟨_,0,by rw [hv,h0]⟩
  · exact⟨_,_,hv⟩
theorem SlR.shape {α : Type} {r:Rp α} {T:Nat→Prop} {w:World} {v:Value} {l:List α} (h:SlR r T w v l) : ∃ a c,v = .slice a l.length c:=let ⟨a,c,h,_⟩:=h; ⟨a,c,h⟩
theorem OwS.nil {α : Type} {r:Rp α} {e:TypeId} {B:Nat} {T:Nat→Prop} {w:World} : OwS r e B T w (.slice none 0 0) [] :=
  ⟨[],rfl,World.ownsRow_nil _ _ _ _,fun i cs x h=>by simp at h,fun g hg=>by simp [Value.ownBlock] at hg⟩

theorem Q1u {css:List (List Value)} {sz:Nat} (hs : ∀ cs ∈ css,cs.length=sz) : ∀ {i:Nat} {cs:List Value} {j:Nat} {u:Value},css[i]? = some cs→cs[j]? = some u→css.flatten[i * sz+j]? = some u:=by
  induction css with
  | nil=>intro i cs j u h; simp at h
  | cons c css ih =>
    intro i cs j u h hj
    have hc:c.length=sz:=hs c (by simp)
    cases i with
    | zero =>
      simp at h
      subst h
      have:j < c.length:=by
        rcases Nat.lt_or_ge j c.length with h' | h'
        · exact h'
        · rw [List.getElem?_eq_none h'] at hj; cases hj
      simp [List.getElem?_append_left this,hj]
    | succ i =>
      simp at h
      have:=ih (fun cs hcs=>hs cs (by simp [hcs])) h hj
      rw [List.flatten_cons,List.getElem?_append_right (by rw [hc,Nat.succ_mul]; omega),← this]
      congr 1
      rw [hc,Nat.succ_mul]
      omega

theorem OwS.sizes {α : Type} {r:Rp α} {T:Nat→Prop} {w:World} {l:List α} {css:List (List Value)} (h1:css.length=l.length)
    (h3 : ∀(i:Nat) (cs:List Value) (x : α),css[i]? = some cs→l[i]? = some x→r.rp T w cs x) : ∀ cs ∈ css,cs.length=r.sz:=by
  intro cs hcs
  obtain⟨i,hi,he⟩:=List.getElem_of_mem hcs
  have hl:i < l.length:=by omega
  exact r.len (h3 i cs l[i] (by rw [List.getElem?_eq_getElem hi,he]) (List.getElem?_eq_getElem hl))

theorem OwS.atI {α : Type} {r:Rp α} {e:TypeId} {B:Nat} {T:Nat→Prop} {w:World} {v:Value} {l:List α} (h:OwS r e B T w v l) {i:Nat} {x : α} (hi:l[i]? = some x) :
    ∃ b cap cs,v = .slice (some ⟨b,0,none⟩) l.length cap∧i < l.length∧r.rp T w cs x∧cellsAt w b (0+i * r.sz) cs:=by
  obtain⟨css,h1,h2,h3,h4⟩:=h
  have hl:i < l.length:=by
    rcases Nat.lt_or_ge i l.length with h | h
    · exact h
    · rw [List.getElem?_eq_none h] at hi; cases hi
  have hs:=OwS.sizes h1 h3
  have hcs:css[i]? = some css[i]:=List.getElem?_eq_getElem (by omega)
  have h2' := h2
  rcases h2.2 with ⟨hv,h0⟩ | ⟨g,cap,cur,hv,_⟩
  · omega
  · refine⟨g,cap,css[i],hv,hl,h3 i _ x hcs hi,fun j u hj => ?_⟩
    have hf:=Q1u hs hcs hj
    have:=h2'.cells (g:=g) (by rw [hv]; rfl) _ _ hf
    simpa [Addr.add_lit] using this

def sealT (T:Nat→Prop) (v:Value):Nat→Prop:=fun k=>T k ∨ v.ownBlock=some k

theorem OwS.sealR {α : Type} {r:Rp α} {e:TypeId} {B:Nat} {T:Nat→Prop} {w:World} {v:Value} {l:List α} (h:OwS r e B T w v l):SlR r (sealT T v) w v l:=by
  have hat:=fun(i:Nat) (x : α) (hi:l[i]? = some x)=>h.atI hi
  obtain⟨css,h1,h2,h3,h4⟩:=h
  rcases h2.2 with ⟨hv,h0⟩ | ⟨g,cap,cur,hv,hb,hg,hn,hm,_⟩
  · exact⟨none,0,by rw [hv,h0],by omega,by simp [maxLen],.inl (List.eq_nil_of_length_eq_zero h0)⟩
  · refine⟨some ⟨g,0,none⟩,cap,hv,hn,hm,.inr ⟨g,0,rfl,.inr (by rw [hv]; rfl),fun i x hi => ?_⟩⟩
    obtain⟨b,cap',cs,hv',_,hr,hc⟩:=hat i x hi
    rw [hv] at hv'
    cases hv'
    exact⟨cs,r.mono (fun k hk=>⟨.inl hk,rfl⟩) hr,hc⟩

section
variable {P:Program} {ops:Array Oper} {Q:Exit→Act→World→Prop} {rest:List Oper} {n:NF} {J:Nat→Value} {L:List (Nat×Value)} {w w' w0:World}
  {d:Nat} {ty:TypeId} {pos:String} {aft:Array Edge} {op:Op} {v:Value} {x y c:Operand} {t t2:TypeId} {T:Nat→Prop} {KK:Act→World→Prop} {Qa:Act→Prop} {C:World→Prop}

theorem Q0u (hb:Bd T w) (o:Obj):Inn w.heap.size noB T w T (w.alloc o):=(Inn.refl hb (Nat.le_refl _)).ch0 (Ch.alloc noB w o)
theorem Q6d (hb:Bd T w) : ¬ T w.heap.size:=fun h=>absurd (hb _ h) (Nat.lt_irrefl _)

theorem al {z:Value} {zs:List Value} (hz : ∀ w,(zeroValue t).run P w = .ok z w) (hc:z.cells.toList=zs) (hb:Bd T w)
    (k : ∀ w' b,Inn w.heap.size noB T w T w' → Box w' b zs→w.heap.size≤b → ¬ T b→KK (env n J ((d,.pointer (some ⟨b,0,none⟩))::L)) w') :
    Oper.wp P ⟨some d,.alloc t,ty,pos,aft,none⟩ (env n J L) w KK Q:=by
  subst hc
  refine Q8l (w' := w.alloc (.cells z.cells t)) (v := .pointer (some ⟨w.heap.size,0,none⟩)) ?_ (k _ _ (Q0u hb _) ⟨t,?_⟩ (Nat.le_refl _) (Q6d hb))
  · simp only [execOp,Instr.alloc,newVar,Sem.run_bind,hz,Result.andThen_ok]; rfl
  · rw [show (w.alloc (.cells z.cells t)).heap[w.heap.size]? = some (.cells z.cells t) from heap_alloc_new w _]

def X9 (cur:List Value) (o:Nat) (cs:List Value):List Value:=cur.take o++cs++cur.drop (o+cs.length)

theorem st {b o sz:Nat} {cs cur:List Value} {v:Value} (hx:ev n J L x = .pointer (some ⟨b,o,none⟩)) (hy:ev n J L y=v) (hv:v.cells.toList=cs) (hs : ∀ w,(sizeOf t).run P w = .ok sz w) (hl:cs.length=sz)
    (h1:cs.all Value.oneCell' = true) (hbx:Box w b cur) (hfit:Nat.ble (o+cs.length) cur.length=true) (hT : ¬ T b) (hb:Bd T w)
    (k : ∀ w',Inn w.heap.size (· = b) T w T w' → Box w' b (X9 cur o cs)→KK (env n J L) w') :
    Oper.wp P ⟨none,.store t x y,ty,pos,aft,none⟩ (env n J L) w KK Q:=by
  subst hl
  subst hv
  obtain⟨e,hg⟩:=hbx
  have hst:=run_storeCells_at P b o e v.cells.toList 0 cur.toArray w hg (by simpa using Nat.le_of_ble_eq_true hfit) (fun u hu=>List.all_eq_true.1 h1 u hu)
  refine Z5q (w' := w.setRow b (X9 cur o v.cells.toList).toArray) ?_ (k _ ((Inn.refl hb (Nat.le_refl _)).ch1 (Ch.setRow (S:=(· = b)) w b _ rfl) fun k hk=>⟨hk ▸ hT,.inr hk⟩) ⟨e,setRow_heap w b _ _ e _ hg⟩)
  simp only [Nat.add_zero] at hst
  simp only [execOp,Instr.storeAt,storeVar,hx,hy,Instr.sureAddr,Sem.run_bind,Sem.run_pure,Result.andThen_ok,hs]
  rw [if_neg (by simp)]
  simp only [Result.andThen_ok,hst]
  rfl

theorem Q0z {f : FuncId} {fn : Func} (h1 : P.funcs[f]? = some fn) (h2 : (fn.name == "runtime.NumGoroutine") = false) (h3 : fn.body.isNone = false) (args : Array Value) : (callFunc f args).run P w = .ok (.enter f args) w := by
  simp only [callFunc,program,Sem.run_bind,Sem.run,Result.andThen,h1,h2,h3,Bool.false_eq_true,if_false]
  rfl

theorem cal {f:FuncId} {args:List Value} {xs:Array Operand} {tys:Array TypeId} {M:Nat→Prop} {R:(Nat→Prop)→World→Value→Prop} (hok:Q7 P f) (hc:Calls P f args.toArray w (Ret M T w R)) (ha:xs.toList.map (ev n J L)=args)
    (k : ∀ v T' w',Inn w.heap.size M T w T' w' → R T' w' v→KK (env n J ((d,v)::L)) w') :
    Oper.wp P ⟨some d,.call ⟨.value (.func f),xs,tys⟩,ty,pos,aft,none⟩ (env n J L) w KK Q:=by
  obtain⟨fn,h1,h2,h3⟩:=hok.ex
  refine w_call (f:=f) (args:=args.toArray) (w' := w) (R:=fun v w' => ∃ T',Inn w.heap.size M T w T' w' ∧ R T' w' v) ?_ hc (fun v w1 ⟨T',i,r⟩=>k v T' w1 i r)
  subst ha
  have hm:(xs.map (ev n J L))=(xs.toList.map (ev n J L)).toArray:=by apply Array.ext'; simp
  have hr:=Q0z (w:=w) h1 h2 h3 (xs.map (ev n J L))
  simp only [execOp,resolve,Deferred.ofValue,ev,invoke,Array.empty_append,Array.append_empty,pure_bind]
  rw [hr,hm]

end
end Go.Proofs.YtecakklofhfphaaGreatDoor
