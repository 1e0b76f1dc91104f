/- What the printed walks lean on: joins, loops, ends. It holds for every program. -/
import Derived.Test.YtbolaohekbmndaaGreatDoorMap
import Derived.Test.YtbolaohekbmndaaGreatDoorModel
import Derived.Deep.LoopGhost
set_option linter.unusedVariables false
namespace Go.Proofs.YtbolaohekbmndaaGreatDoor

def Nx {S R:Type} (bd:S→Option (Lp S R)) (m:Nat) (z o:Lp S R):Prop:=match z with
  | .go s=>V7 bd m s=some o
  | .brk s=>o = .brk s
  | .ret r=>o = .ret r
theorem U4 {S R:Type} {bd:S→Option (Lp S R)} {n:Nat} {s:S} {o:Lp S R} (h:V7 bd n s=some o) : ∃ m z,n=m+1∧bd s=some z∧Nx bd m z o:=by
  obtain⟨m,hm,h⟩:=Z5u h
  rcases h with ⟨s',h1,h2⟩ | ⟨s',h1,h2⟩ | ⟨r,h1,h2⟩
  · exact⟨m,_,hm,h1,h2⟩
  · exact⟨m,_,hm,h1,h2⟩
  · exact⟨m,_,hm,h1,h2⟩
theorem K3 {S R:Type} {bd:S→Option (Lp S R)} {n:Nat} {s:S} {o:Lp S R} (h:V7 bd n s=some o) : ∃ b,b=bd∧V7 b n s=some o:=⟨_,rfl,h⟩
theorem F6 {κ O:Type} {f : κ → Option O} {k : κ} {r:O} (h:jn f k=some r) : ∃ kk,kk=k∧f kk=some r:=⟨_,rfl,h⟩

section
variable {P:Program} {ops:Array Oper} {Q:Exit→Act→World→Prop} {rest:List Oper} {n:NF} {J:Nat→Value} {L:List (Nat×Value)} {w w' w0:World}
  {d:Nat} {ty:TypeId} {pos:String} {aft:Array Edge} {op:Op} {v:Value} {x y c:Operand} {t t2:TypeId} {T:Nat→Prop} {KK:Act→World→Prop} {Qa:Act→Prop} {C:World→Prop} {K:Act→World→Prop}

theorem Y9 (M:List (Nat×Value)) (h:Has n J L M) (k : ∀ J',K (env n J' M) w):Exit.then K Q .normal (env n J L) w:=by
  show K (env n J L) w
  rw [Q7 h]
  exact k _
theorem gF {j d0:Nat} {b b' : Bool} (hd:(ops[j]?).bind (·.dst)=some d0) (hv:ev n J L (.tmp d0) = .bool b') (hb:b' = !b) (k:wpList P ops Q rest (env n J ((d,undef)::L)) w) :
    wpList P ops Q (⟨some d,op,ty,pos,aft,some (j,b)⟩::rest) (env n J L) w :=
  gf (z:=some b') (by unfold yv; rw [hd]; simp only [hv]) (by subst hb; cases b <;> rfl) k
theorem gU {j d0:Nat} {b:Bool} (hd:(ops[j]?).bind (·.dst)=some d0) (hv:ev n J L (.tmp d0)=undef) (k:wpList P ops Q rest (env n J ((d,undef)::L)) w) :
    wpList P ops Q (⟨some d,op,ty,pos,aft,some (j,b)⟩::rest) (env n J L) w :=
  gf (z:=none) (by unfold yv; rw [hd]; simp only [hv,undef]) rfl k
theorem gT {j d0:Nat} {b b' : Bool} {dst:Option Nat} (hd:(ops[j]?).bind (·.dst)=some d0) (hv:ev n J L (.tmp d0) = .bool b') (hb:b' = b) (k:wpList P ops Q (⟨dst,op,ty,pos,aft,none⟩::rest) (env n J L) w) :
    wpList P ops Q (⟨dst,op,ty,pos,aft,some (j,b)⟩::rest) (env n J L) w :=
  gt (by unfold yv; rw [hd]; simp only [hv,hb]) k
theorem r_fd1 {cs:Array Value} {fs:Array Field} {fd:Field} {f:Nat} {u:Value} (hx:ev n J L x = .agg cs) (ht:P.underlying t=some (.struct fs)) (hf:fs[f]? = some fd) (hg : ∀ w,(isAgg fd.type).run P w = .ok false w) (hc:cs[fd.offset]? = some u) :
    (execOp (ev n J L) ⟨some d,.field t x f,ty,pos,aft,none⟩).run P w = .ok (.value u) w:=by
  simp [execOp,Instr.field,run_underlying ht,hf,part,hg,hx,asAgg,hc]
theorem A8 {parts:Array (Nat×Operand)} {cells:Array Value} {u:Value} (h:P.built t (parts.toList.map fun p=>(p.1,ev n J L p.2))=some cells) (hu:Value.agg cells=u) :
    (execOp (ev n J L) ⟨some d,.build t parts,ty,pos,aft,none⟩).run P w = .ok (.value u) w:=by
  subst hu
  have hp:(Array.map (fun p:Nat×Operand=>(p.1,ev n J L p.2)) parts).toList=parts.toList.map fun p=>(p.1,ev n J L p.2):=by simp
  have:=run_build (P:=P) w t (parts.map fun p=>(p.1,ev n J L p.2)) cells (by rw [hp]; exact h)
  simp only [execOp,Sem.run_bind,this,Result.andThen_ok,Sem.run_pure]
theorem bd {parts:Array (Nat×Operand)} {cells:Array Value} {u:Value} (h:P.built t (parts.toList.map fun p=>(p.1,ev n J L p.2))=some cells) (hu:Value.agg cells=u)
    (k' : wpList P ops Q rest (env n J ((d,u)::L)) w):wpList P ops Q (⟨some d,.build t parts,ty,pos,aft,none⟩::rest) (env n J L) w:=by
  subst hu
  refine Z0o ?_ k'
  have hp:(Array.map (fun p:Nat×Operand=>(p.1,ev n J L p.2)) parts).toList=parts.toList.map fun p=>(p.1,ev n J L p.2):=by simp
  have:=run_build (P:=P) w t (parts.map fun p=>(p.1,ev n J L p.2)) cells (by rw [hp]; exact h)
  simp only [execOp,Sem.run_bind,this,Result.andThen_ok,Sem.run_pure]
end

def Dj2 (v1 v2:Value):Prop := ∀ k,v2.ownBlock=some k→Dj v1 k
theorem Dj2.symm {v1 v2:Value} (h:Dj2 v1 v2):Dj2 v2 v1:=fun k hk j hj=>fun e=>h j hj k hk e.symm
theorem V2 {α : Type} {r:Rp α} {T:Nat→Prop} {w:World} : SlR r T w (.slice none 0 0) []:=⟨none,0,rfl,Nat.le_refl _,by simp [maxLen],.inl rfl⟩
theorem cellsAt.sub {w:World} {b off:Nat} {cs ds:List Value} (h:cellsAt w b off cs) (o:Nat) (hs:(cs.drop o).take ds.length=ds):cellsAt w b (off+o) ds:=by
  intro j v hj
  rw [Nat.add_assoc]
  refine h (o+j) v ?_
  rw [← List.getElem?_drop]
  rw [← hs,List.getElem?_take] at hj
  split at hj
  · exact hj
  · cases hj
def AllR {α : Type} (r:Rp α) (T:Nat→Prop) (w:World):List (List Value)→List α → Prop
  | [],[]=>True
  | c::cs,x::xs=>r.rp T w c x∧AllR r T w cs xs
  | _,_=>False
theorem AllR.len {α : Type} {r:Rp α} {T:Nat→Prop} {w:World} : ∀ {css:List (List Value)} {l:List α},AllR r T w css l→css.length=l.length
  | [],[],_=>rfl
  | _::_,_::_,h=>by simp [AllR.len h.2]
theorem AllR.get {α : Type} {r:Rp α} {T:Nat→Prop} {w:World} : ∀ {css:List (List Value)} {l:List α},AllR r T w css l → ∀(i:Nat) (cs:List Value) (x : α),css[i]? = some cs→l[i]? = some x→r.rp T w cs x
  | [],[],_,i,cs,x,h,_=>by simp at h
  | _::_,_::_,h,0,cs,x,hc,hx=>by simp at hc hx; subst hc; subst hx; exact h.1
  | _::_,_::_,h,i+1,cs,x,hc,hx=>by simp at hc hx; exact AllR.get h.2 i cs x hc hx
section
variable {P:Program} {ops:Array Oper} {Q:Exit→Act→World→Prop} {rest:List Oper} {n:NF} {J:Nat→Value} {L:List (Nat×Value)} {w w' w0:World}
  {d:Nat} {ty:TypeId} {pos:String} {aft:Array Edge} {op:Op} {v:Value} {x y c:Operand} {t t2:TypeId} {T:Nat→Prop} {KK:Act→World→Prop} {Qa:Act→Prop} {C:World→Prop}
  {K V:Type} [DecidableEq K] {kd:TypeDesc} {enk:K→Value} {en:V→Value} {b:Nat} {m:List (K×V)}
theorem bxv {v:Value} {cs:List Value} (hx:ev n J L x=v) (hc:v.cells.toList=cs) (hb:Bd T w)
    (k : ∀ w' b,Inn w.heap.size noB T w T w' → Box w' b cs→w.heap.size≤b → ¬ T b→KK (env n J ((d,.pointer (some ⟨b,0,none⟩))::L)) w') :
    Oper.wp P ⟨some d,.box t x,ty,pos,aft,none⟩ (env n J L) w KK Q:=by
  subst hc
  refine Q8s (w' := w.alloc (.cells v.cells t)) (v := .pointer (some ⟨w.heap.size,0,none⟩)) ?_ (k _ _ (Q3z hb _) ⟨t,?_⟩ (Nat.le_refl _) (Q8p hb))
  · simp only [execOp,Instr.box,newVar,hx,Sem.run_bind]; rfl
  · rw [show (w.alloc (.cells v.cells t)).heap[w.heap.size]? = some (.cells v.cells t) from heap_alloc_new w _]
theorem ret0 {m:Nat} {fn:Func} {R:Ending→World→Prop} (hr:fn.results = #[]) (hR:R (.returned (.tuple #[])) w):bodyPost P fn R .ret (env (nf m) J L) w :=
  bodyPost_ret (results_none hr _ _ _) rfl hR
end
end Go.Proofs.YtbolaohekbmndaaGreatDoor
