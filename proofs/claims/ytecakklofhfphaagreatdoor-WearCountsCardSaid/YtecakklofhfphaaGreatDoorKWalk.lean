/- What the printed walks lean on: joins, loops, ends. It holds for every program. -/
import Derived.Test.YtecakklofhfphaaGreatDoorKMap
import Derived.Test.YtecakklofhfphaaGreatDoorKModel
import Derived.Deep.LoopGhost
set_option linter.unusedVariables false
namespace Go.Proofs.YtecakklofhfphaaGreatDoor

def Nx {S R:Type} (bd:S→Option (Lp S R)) (m:Nat) (z o:Lp S R):Prop:=match z with
  | .go s=>Y9 bd m s=some o
  | .brk s=>o = .brk s
  | .ret r=>o = .ret r
theorem Z9t {S R:Type} {bd:S→Option (Lp S R)} {n:Nat} {s:S} {o:Lp S R} (h:Y9 bd n s=some o) : ∃ m z,n=m+1∧bd s=some z∧Nx bd m z o:=by
  obtain⟨m,hm,h⟩:=Z9u h
  rcases h with ⟨s',h1,h2⟩ | ⟨s',h1,h2⟩ | ⟨r,h1,h2⟩
  · exact⟨m,_,hm,h1,h2⟩
  · exact⟨m,_,hm,h1,h2⟩
  · exact⟨m,_,hm,h1,h2⟩
section
variable {P:Program} {ops:Array Oper} {Q:Exit→Act→World→Prop} {rest:List Oper} {n:NF} {J:Nat→Value} {L:List (Nat×Value)} {w w' w0:World}
  {d:Nat} {ty:TypeId} {pos:String} {aft:Array Edge} {op:Op} {v:Value} {x y c:Operand} {t t2:TypeId} {T:Nat→Prop} {KK:Act→World→Prop} {Qa:Act→Prop} {C:World→Prop} {K:Act→World→Prop}

theorem Z3 (M:List (Nat×Value)) (h:Has n J L M) (k : ∀ J',K (env n J' M) w):Exit.then K Q .normal (env n J L) w:=by
  show K (env n J L) w
  rw [Z0h h]
  exact k _
theorem wpR {cd:Code} (M:List (Nat×Value)) (h:Has n J L M) (k : ∀ J',cd.wp P Q (env n J' M) w):cd.wp P Q (env n J L) w:=by
  rw [Z0h h]
  exact k _

theorem qcut (K:Act→Prop) : ∀(i:Nat) {l:List Oper} {a:Act},wpQuiet P ops C K (l.take i) a→(∀ a,K a→wpQuiet P ops C Qa (l.drop i) a)→wpQuiet P ops C Qa l a
  | 0,_,_,h,k=>k _ h
  | _+1,[],_,h,k=>k _ h
  | i+1,o::l,a,h,k=>by
    simp only [List.take_succ_cons,List.drop_succ_cons] at h k
    unfold wpQuiet at h ⊢
    split
    · rename_i hw
      rw [if_pos hw] at h
      exact Oper.quiet_mono (fun a ha=>qcut K i ha k) h
    · rename_i hw
      rw [if_neg hw] at h
      exact qcut K i h k

theorem gF {j d0:Nat} {b b' : Bool} (hd:(ops[j]?).bind (·.dst)=some d0) (hv:ev n J L (.tmp d0) = .bool b') (hb:b' = !b) (k:wpList P ops Q rest (env n J ((d,undef)::L)) w) :
    wpList P ops Q (⟨some d,op,ty,pos,aft,some (j,b)⟩::rest) (env n J L) w :=
  gf (z:=some b') (by unfold yv; rw [hd]; simp only [hv]) (by subst hb; cases b <;> rfl) k
theorem qgF {j d0:Nat} {b b' : Bool} (hd:(ops[j]?).bind (·.dst)=some d0) (hv:ev n J L (.tmp d0) = .bool b') (hb:b' = !b) (k:wpQuiet P ops C Qa rest (env n J ((d,undef)::L))) :
    wpQuiet P ops C Qa (⟨some d,op,ty,pos,aft,some (j,b)⟩::rest) (env n J L) :=
  qgf (z:=some b') (by unfold yv; rw [hd]; simp only [hv]) (by subst hb; cases b <;> rfl) k
theorem L8 {e d0:Nat} {b:Bool} (hv:ev n J ((e,undef)::L) (.tmp d0) = .bool b):ev n J L (.tmp d0) = .bool b:=by
  simp only [ev] at hv ⊢
  cases h:Nat.blt d0 n.n with
  | false=>rw [h] at hv; cases hv
  | true =>
    rw [h] at hv
    simp only [lk] at hv ⊢
    split at hv
    · cases hv
    · exact hv
theorem gF2 {j d0:Nat} {b b' : Bool} {e0:Nat} {o0:Op} {t0:TypeId} {s0:String} {a0:Array Edge} {e1:Nat} {o1:Op} {t1:TypeId} {s1:String} {a1:Array Edge} (hd:(ops[j]?).bind (·.dst)=some d0) (hv:ev n J ((e0,undef)::L) (.tmp d0) = .bool b') (hb:b' = !b) (k:wpList P ops Q rest (env n J ((e1,undef)::(e0,undef)::L)) w):wpList P ops Q (⟨some e0,o0,t0,s0,a0,some (j,b)⟩::⟨some e1,o1,t1,s1,a1,some (j,b)⟩::rest) (env n J L) w :=
  gF hd (L8 hv) hb (gF hd hv hb k)
theorem gF3 {j d0:Nat} {b b' : Bool} {e0:Nat} {o0:Op} {t0:TypeId} {s0:String} {a0:Array Edge} {e1:Nat} {o1:Op} {t1:TypeId} {s1:String} {a1:Array Edge} {e2:Nat} {o2:Op} {t2:TypeId} {s2:String} {a2:Array Edge} (hd:(ops[j]?).bind (·.dst)=some d0) (hv:ev n J ((e1,undef)::(e0,undef)::L) (.tmp d0) = .bool b') (hb:b' = !b) (k:wpList P ops Q rest (env n J ((e2,undef)::(e1,undef)::(e0,undef)::L)) w):wpList P ops Q (⟨some e0,o0,t0,s0,a0,some (j,b)⟩::⟨some e1,o1,t1,s1,a1,some (j,b)⟩::⟨some e2,o2,t2,s2,a2,some (j,b)⟩::rest) (env n J L) w :=
  gF hd (L8 (L8 hv)) hb (gF2 hd hv hb k)
theorem gF4 {j d0:Nat} {b b' : Bool} {e0:Nat} {o0:Op} {t0:TypeId} {s0:String} {a0:Array Edge} {e1:Nat} {o1:Op} {t1:TypeId} {s1:String} {a1:Array Edge} {e2:Nat} {o2:Op} {t2:TypeId} {s2:String} {a2:Array Edge} {e3:Nat} {o3:Op} {t3:TypeId} {s3:String} {a3:Array Edge} (hd:(ops[j]?).bind (·.dst)=some d0) (hv:ev n J ((e2,undef)::(e1,undef)::(e0,undef)::L) (.tmp d0) = .bool b') (hb:b' = !b) (k:wpList P ops Q rest (env n J ((e3,undef)::(e2,undef)::(e1,undef)::(e0,undef)::L)) w):wpList P ops Q (⟨some e0,o0,t0,s0,a0,some (j,b)⟩::⟨some e1,o1,t1,s1,a1,some (j,b)⟩::⟨some e2,o2,t2,s2,a2,some (j,b)⟩::⟨some e3,o3,t3,s3,a3,some (j,b)⟩::rest) (env n J L) w :=
  gF hd (L8 (L8 (L8 hv))) hb (gF3 hd hv hb k)
theorem gF5 {j d0:Nat} {b b' : Bool} {e0:Nat} {o0:Op} {t0:TypeId} {s0:String} {a0:Array Edge} {e1:Nat} {o1:Op} {t1:TypeId} {s1:String} {a1:Array Edge} {e2:Nat} {o2:Op} {t2:TypeId} {s2:String} {a2:Array Edge} {e3:Nat} {o3:Op} {t3:TypeId} {s3:String} {a3:Array Edge} {e4:Nat} {o4:Op} {t4:TypeId} {s4:String} {a4:Array Edge} (hd:(ops[j]?).bind (·.dst)=some d0) (hv:ev n J ((e3,undef)::(e2,undef)::(e1,undef)::(e0,undef)::L) (.tmp d0) = .bool b') (hb:b' = !b) (k:wpList P ops Q rest (env n J ((e4,undef)::(e3,undef)::(e2,undef)::(e1,undef)::(e0,undef)::L)) w):wpList P ops Q (⟨some e0,o0,t0,s0,a0,some (j,b)⟩::⟨some e1,o1,t1,s1,a1,some (j,b)⟩::⟨some e2,o2,t2,s2,a2,some (j,b)⟩::⟨some e3,o3,t3,s3,a3,some (j,b)⟩::⟨some e4,o4,t4,s4,a4,some (j,b)⟩::rest) (env n J L) w :=
  gF hd (L8 (L8 (L8 (L8 hv)))) hb (gF4 hd hv hb k)
theorem gF6 {j d0:Nat} {b b' : Bool} {e0:Nat} {o0:Op} {t0:TypeId} {s0:String} {a0:Array Edge} {e1:Nat} {o1:Op} {t1:TypeId} {s1:String} {a1:Array Edge} {e2:Nat} {o2:Op} {t2:TypeId} {s2:String} {a2:Array Edge} {e3:Nat} {o3:Op} {t3:TypeId} {s3:String} {a3:Array Edge} {e4:Nat} {o4:Op} {t4:TypeId} {s4:String} {a4:Array Edge} {e5:Nat} {o5:Op} {t5:TypeId} {s5:String} {a5:Array Edge} (hd:(ops[j]?).bind (·.dst)=some d0) (hv:ev n J ((e4,undef)::(e3,undef)::(e2,undef)::(e1,undef)::(e0,undef)::L) (.tmp d0) = .bool b') (hb:b' = !b) (k:wpList P ops Q rest (env n J ((e5,undef)::(e4,undef)::(e3,undef)::(e2,undef)::(e1,undef)::(e0,undef)::L)) w):wpList P ops Q (⟨some e0,o0,t0,s0,a0,some (j,b)⟩::⟨some e1,o1,t1,s1,a1,some (j,b)⟩::⟨some e2,o2,t2,s2,a2,some (j,b)⟩::⟨some e3,o3,t3,s3,a3,some (j,b)⟩::⟨some e4,o4,t4,s4,a4,some (j,b)⟩::⟨some e5,o5,t5,s5,a5,some (j,b)⟩::rest) (env n J L) w :=
  gF hd (L8 (L8 (L8 (L8 (L8 hv))))) hb (gF5 hd hv hb k)
theorem gF7 {j d0:Nat} {b b' : Bool} {e0:Nat} {o0:Op} {t0:TypeId} {s0:String} {a0:Array Edge} {e1:Nat} {o1:Op} {t1:TypeId} {s1:String} {a1:Array Edge} {e2:Nat} {o2:Op} {t2:TypeId} {s2:String} {a2:Array Edge} {e3:Nat} {o3:Op} {t3:TypeId} {s3:String} {a3:Array Edge} {e4:Nat} {o4:Op} {t4:TypeId} {s4:String} {a4:Array Edge} {e5:Nat} {o5:Op} {t5:TypeId} {s5:String} {a5:Array Edge} {e6:Nat} {o6:Op} {t6:TypeId} {s6:String} {a6:Array Edge} (hd:(ops[j]?).bind (·.dst)=some d0) (hv:ev n J ((e5,undef)::(e4,undef)::(e3,undef)::(e2,undef)::(e1,undef)::(e0,undef)::L) (.tmp d0) = .bool b') (hb:b' = !b) (k:wpList P ops Q rest (env n J ((e6,undef)::(e5,undef)::(e4,undef)::(e3,undef)::(e2,undef)::(e1,undef)::(e0,undef)::L)) w):wpList P ops Q (⟨some e0,o0,t0,s0,a0,some (j,b)⟩::⟨some e1,o1,t1,s1,a1,some (j,b)⟩::⟨some e2,o2,t2,s2,a2,some (j,b)⟩::⟨some e3,o3,t3,s3,a3,some (j,b)⟩::⟨some e4,o4,t4,s4,a4,some (j,b)⟩::⟨some e5,o5,t5,s5,a5,some (j,b)⟩::⟨some e6,o6,t6,s6,a6,some (j,b)⟩::rest) (env n J L) w :=
  gF hd (L8 (L8 (L8 (L8 (L8 (L8 hv)))))) hb (gF6 hd hv hb k)
theorem gF8 {j d0:Nat} {b b' : Bool} {e0:Nat} {o0:Op} {t0:TypeId} {s0:String} {a0:Array Edge} {e1:Nat} {o1:Op} {t1:TypeId} {s1:String} {a1:Array Edge} {e2:Nat} {o2:Op} {t2:TypeId} {s2:String} {a2:Array Edge} {e3:Nat} {o3:Op} {t3:TypeId} {s3:String} {a3:Array Edge} {e4:Nat} {o4:Op} {t4:TypeId} {s4:String} {a4:Array Edge} {e5:Nat} {o5:Op} {t5:TypeId} {s5:String} {a5:Array Edge} {e6:Nat} {o6:Op} {t6:TypeId} {s6:String} {a6:Array Edge} {e7:Nat} {o7:Op} {t7:TypeId} {s7:String} {a7:Array Edge} (hd:(ops[j]?).bind (·.dst)=some d0) (hv:ev n J ((e6,undef)::(e5,undef)::(e4,undef)::(e3,undef)::(e2,undef)::(e1,undef)::(e0,undef)::L) (.tmp d0) = .bool b') (hb:b' = !b) (k:wpList P ops Q rest (env n J ((e7,undef)::(e6,undef)::(e5,undef)::(e4,undef)::(e3,undef)::(e2,undef)::(e1,undef)::(e0,undef)::L)) w):wpList P ops Q (⟨some e0,o0,t0,s0,a0,some (j,b)⟩::⟨some e1,o1,t1,s1,a1,some (j,b)⟩::⟨some e2,o2,t2,s2,a2,some (j,b)⟩::⟨some e3,o3,t3,s3,a3,some (j,b)⟩::⟨some e4,o4,t4,s4,a4,some (j,b)⟩::⟨some e5,o5,t5,s5,a5,some (j,b)⟩::⟨some e6,o6,t6,s6,a6,some (j,b)⟩::⟨some e7,o7,t7,s7,a7,some (j,b)⟩::rest) (env n J L) w :=
  gF hd (L8 (L8 (L8 (L8 (L8 (L8 (L8 hv))))))) hb (gF7 hd hv hb k)
theorem gU {j d0:Nat} {b:Bool} (hd:(ops[j]?).bind (·.dst)=some d0) (hv:ev n J L (.tmp d0)=undef) (k:wpList P ops Q rest (env n J ((d,undef)::L)) w) :
    wpList P ops Q (⟨some d,op,ty,pos,aft,some (j,b)⟩::rest) (env n J L) w :=
  gf (z:=none) (by unfold yv; rw [hd]; simp only [hv,undef]) rfl k
theorem qgU {j d0:Nat} {b:Bool} (hd:(ops[j]?).bind (·.dst)=some d0) (hv:ev n J L (.tmp d0)=undef) (k:wpQuiet P ops C Qa rest (env n J ((d,undef)::L))) :
    wpQuiet P ops C Qa (⟨some d,op,ty,pos,aft,some (j,b)⟩::rest) (env n J L) :=
  qgf (z:=none) (by unfold yv; rw [hd]; simp only [hv,undef]) rfl k
theorem wlR {b:Bool} {M:List (Nat×Value)} (h : ∀ J' : Nat→Value,wpList P ops Q rest (env n J' ((d,.bool b)::M)) w) (hs:Has n J L ((d,.bool b)::M)):wpList P ops Q rest (env n J L) w:=by
  rw [Z0h hs]
  exact h _
theorem gT {j d0:Nat} {b b' : Bool} {dst:Option Nat} (hd:(ops[j]?).bind (·.dst)=some d0) (hv:ev n J L (.tmp d0) = .bool b') (hb:b' = b) (k:wpList P ops Q (⟨dst,op,ty,pos,aft,none⟩::rest) (env n J L) w) :
    wpList P ops Q (⟨dst,op,ty,pos,aft,some (j,b)⟩::rest) (env n J L) w :=
  gt (by unfold yv; rw [hd]; simp only [hv,hb]) k
theorem qgT {j d0:Nat} {b b' : Bool} {dst:Option Nat} (hd:(ops[j]?).bind (·.dst)=some d0) (hv:ev n J L (.tmp d0) = .bool b') (hb:b' = b) (k:wpQuiet P ops C Qa (⟨dst,op,ty,pos,aft,none⟩::rest) (env n J L)) :
    wpQuiet P ops C Qa (⟨dst,op,ty,pos,aft,some (j,b)⟩::rest) (env n J L) :=
  qgt (by unfold yv; rw [hd]; simp only [hv,hb]) k

theorem r_fd1 {cs:Array Value} {fs:Array Field} {fd:Field} {f:Nat} {u:Value} (hx:ev n J L x = .agg cs) (ht:P.underlying t=some (.struct fs)) (hf:fs[f]? = some fd) (hg : ∀ w,(isAgg fd.type).run P w = .ok false w) (hc:cs[fd.offset]? = some u) :
    (execOp (ev n J L) ⟨some d,.field t x f,ty,pos,aft,none⟩).run P w = .ok (.value u) w:=by
  simp [execOp,Instr.field,run_underlying ht,hf,part,hg,hx,asAgg,hc]
theorem U3 {parts:Array (Nat×Operand)} {cells:Array Value} {u:Value} (h:P.built t (parts.toList.map fun p=>(p.1,ev n J L p.2))=some cells) (hu:Value.agg cells=u) :
    (execOp (ev n J L) ⟨some d,.build t parts,ty,pos,aft,none⟩).run P w = .ok (.value u) w:=by
  subst hu
  have hp:(Array.map (fun p:Nat×Operand=>(p.1,ev n J L p.2)) parts).toList=parts.toList.map fun p=>(p.1,ev n J L p.2):=by simp
  have:=run_build (P:=P) w t (parts.map fun p=>(p.1,ev n J L p.2)) cells (by rw [hp]; exact h)
  simp only [execOp,Sem.run_bind,this,Result.andThen_ok,Sem.run_pure]
theorem bd {parts:Array (Nat×Operand)} {cells:Array Value} {u:Value} (h:P.built t (parts.toList.map fun p=>(p.1,ev n J L p.2))=some cells) (hu:Value.agg cells=u)
    (k' : wpList P ops Q rest (env n J ((d,u)::L)) w):wpList P ops Q (⟨some d,.build t parts,ty,pos,aft,none⟩::rest) (env n J L) w:=by
  subst hu
  refine Q0e ?_ k'
  have hp:(Array.map (fun p:Nat×Operand=>(p.1,ev n J L p.2)) parts).toList=parts.toList.map fun p=>(p.1,ev n J L p.2):=by simp
  have:=run_build (P:=P) w t (parts.map fun p=>(p.1,ev n J L p.2)) cells (by rw [hp]; exact h)
  simp only [execOp,Sem.run_bind,this,Result.andThen_ok,Sem.run_pure]
end

def Dj2 (v1 v2:Value):Prop := ∀ k,v2.ownBlock=some k→Dj v1 k
theorem Dj2.symm {v1 v2:Value} (h:Dj2 v1 v2):Dj2 v2 v1:=fun k hk j hj=>fun e=>h j hj k hk e.symm
theorem Q1x {α : Type} {r:Rp α} {T:Nat→Prop} {w:World} : SlR r T w (.slice none 0 0) []:=⟨none,0,rfl,Nat.le_refl _,by simp [maxLen],.inl rfl⟩
theorem cellsAt.sub {w:World} {b off:Nat} {cs ds:List Value} (h:cellsAt w b off cs) (o:Nat) (hs:(cs.drop o).take ds.length=ds):cellsAt w b (off+o) ds:=by
  intro j v hj
  rw [Nat.add_assoc]
  refine h (o+j) v ?_
  rw [← List.getElem?_drop]
  rw [← hs,List.getElem?_take] at hj
  split at hj
  · exact hj
  · cases hj
def Q7p {α : Type} (r:Rp α) (T:Nat→Prop) (w:World):List (List Value)→List α → Prop
  | [],[]=>True
  | c::cs,x::xs=>r.rp T w c x∧Q7p r T w cs xs
  | _,_=>False
theorem Q7p.len {α : Type} {r:Rp α} {T:Nat→Prop} {w:World} : ∀ {css:List (List Value)} {l:List α},Q7p r T w css l→css.length=l.length
  | [],[],_=>rfl
  | _::_,_::_,h=>by simp [Q7p.len h.2]
theorem Q7p.get {α : Type} {r:Rp α} {T:Nat→Prop} {w:World} : ∀ {css:List (List Value)} {l:List α},Q7p r T w css l → ∀(i:Nat) (cs:List Value) (x : α),css[i]? = some cs→l[i]? = some x→r.rp T w cs x
  | [],[],_,i,cs,x,h,_=>by simp at h
  | _::_,_::_,h,0,cs,x,hc,hx=>by simp at hc hx; subst hc; subst hx; exact h.1
  | _::_,_::_,h,i+1,cs,x,hc,hx=>by simp at hc hx; exact Q7p.get h.2 i cs x hc hx
section
variable {P:Program} {ops:Array Oper} {Q:Exit→Act→World→Prop} {rest:List Oper} {n:NF} {J:Nat→Value} {L:List (Nat×Value)} {w w' w0:World}
  {d:Nat} {ty:TypeId} {pos:String} {aft:Array Edge} {op:Op} {v:Value} {x y c:Operand} {t t2:TypeId} {T:Nat→Prop} {KK:Act→World→Prop} {Qa:Act→Prop} {C:World→Prop}
  {K V:Type} [DecidableEq K] {kd:TypeDesc} {enk:K→Value} {en:V→Value} {b:Nat} {m:List (K×V)}
theorem bxv {v:Value} {cs:List Value} (hx:ev n J L x=v) (hc:v.cells.toList=cs) (hb:Bd T w)
    (k : ∀ w' b,Inn w.heap.size noB T w T w' → Box w' b cs→w.heap.size≤b → ¬ T b→KK (env n J ((d,.pointer (some ⟨b,0,none⟩))::L)) w') :
    Oper.wp P ⟨some d,.box t x,ty,pos,aft,none⟩ (env n J L) w KK Q:=by
  subst hc
  refine Q8l (w' := w.alloc (.cells v.cells t)) (v := .pointer (some ⟨w.heap.size,0,none⟩)) ?_ (k _ _ (Q0u hb _) ⟨t,?_⟩ (Nat.le_refl _) (Q6d hb))
  · simp only [execOp,Instr.box,newVar,hx,Sem.run_bind]; rfl
  · rw [show (w.alloc (.cells v.cells t)).heap[w.heap.size]? = some (.cells v.cells t) from heap_alloc_new w _]
theorem ret0 {m:Nat} {fn:Func} {R:Ending→World→Prop} (hr:fn.results = #[]) (hR:R (.returned (.tuple #[])) w):bodyPost P fn R .ret (env (nf m) J L) w :=
  bodyPost_ret (results_none hr _ _ _) rfl hR
end
end Go.Proofs.YtecakklofhfphaaGreatDoor
