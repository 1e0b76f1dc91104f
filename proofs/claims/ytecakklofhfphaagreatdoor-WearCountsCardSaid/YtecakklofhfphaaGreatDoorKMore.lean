/- More operations over what a function owns. It holds for every program. -/
import Derived.Test.YtecakklofhfphaaGreatDoorKAct
import Derived.Laws.Pointers
import Derived.Laws.BytesArg
import Derived.Lib.ConvBytes
import Derived.Lib.LazyBuf
set_option linter.unusedVariables false
namespace Go.Proofs.YtecakklofhfphaaGreatDoor

section
variable {P:Program} {ops:Array Oper} {Q:Exit→Act→World→Prop} {rest:List Oper} {n:NF} {J:Nat→Value} {L:List (Nat×Value)} {w w' w0 g:World}
  {d:Nat} {ty:TypeId} {pos:String} {aft:Array Edge} {op:Op} {v:Value} {x y c:Operand} {t t2:TypeId} {T:Nat→Prop} {KK:Act→World→Prop} {Qa:Act→Prop} {C:World→Prop} {G:List Z4} {q p i:Nat}

theorem Sep.bx {b:Nat} {cs:List Value} (h:Sep g T w G) (hi:AtR G i (Y2 b cs)):Box w b cs:=let ⟨_,⟨_,h⟩,_⟩:=h.getA hi; h
theorem end0 {m:Nat} {fn:Func} {R:Ending→World→Prop} (hr:fn.results = #[]) (hR:R (.returned (.tuple #[])) w):bodyPost P fn R .normal (env (nf m) J L) w :=
  ⟨rfl,_,results_none hr _ _ _,hR⟩
theorem B8 {α : Type} {r:Rp α} {T:Nat→Prop} {w:World} {c0 new:List Value} {u : α} (h:r.rp T w c0 u) (hl:new.length=r.sz):X9 c0 0 new=new:=by
  have:=r.len h
  simp [X9,hl,← this]
theorem SlV.ixq {α : Type} {r:Rp α} {l:List α} {v:Value} {i:Int} {u : α} {sz:Nat} (h:SlV r T w v l) (hi:idx l i=some u) (hz:r.sz=sz) :
    ∃ b off cs k cap,v = .slice (some ⟨b,k,none⟩) l.length cap∧0≤i∧i < l.length∧off=k+i.toNat * sz∧r.rp T w cs u∧cellsAt w b off cs:=by
  subst hz
  obtain⟨h0,h1,h2⟩:=L4 hi
  obtain⟨a,cap,hv,h5,h6,h7⟩:=h
  rcases h7 with rfl | ⟨b,k,rfl,hx⟩
  · simp at h2
  · obtain⟨cs,hr,hc⟩:=hx _ _ h2
    exact⟨b,_,cs,k,cap,hv,h0,by omega,rfl,hr,hc⟩
theorem SlR.len {α : Type} {r:Rp α} {l:List α} {a:Option Addr} {m c:Nat} (h:SlR r T w (.slice a m c) l):m=l.length:=by
  obtain⟨_,_,hv,_⟩:=h
  cases hv
  rfl
theorem r_mkf {fn:Fn} {fs cs:Array Operand} {u:Value} (hu:Value.func fn (fs.toList.map (ev n J L)).toArray (cs.toList.map (ev n J L)).toArray=u) :
    (execOp (ev n J L) ⟨some d,.makeFunc fn fs cs,ty,pos,aft,none⟩).run P w = .ok (.value u) w:=by
  subst hu
  have h1:(fs.toList.map (ev n J L)).toArray=fs.map (ev n J L):=by apply Array.ext'; simp
  have h2:(cs.toList.map (ev n J L)).toArray=cs.map (ev n J L):=by apply Array.ext'; simp
  rw [h1,h2]
  simp [execOp,Instr.makeFunc]
theorem r_lnV {α : Type} {r:Rp α} {l:List α} {v:Value} {e:TypeId} {T' : Nat→Prop} {w1:World} (hx:ev n J L x=v) (h:SlV r T' w1 v l) (ht:P.underlying t=some (.slice e)) :
    (execOp (ev n J L) ⟨some d,.call ⟨.builtin .len,#[x],#[t]⟩,ty,pos,aft,none⟩).run P w = .ok (.value (.int .i64 (l.length:Int))) w:=by
  obtain⟨a,c,rfl⟩:=h.shape
  exact Q7x hx ht
theorem r_slR {α : Type} {r:Rp α} {ad:Option Addr} {l u:List α} {cap sz:Nat} {e:TypeId} {lo hi:Option Operand} {a b:Int} {a' : Option Addr} {c' : Nat} {T1:Nat→Prop} {w1:World}
    (hx:ev n J L x = .slice ad l.length cap) (h:SlR r T1 w1 (.slice ad l.length cap) l) (hlo:oev n J L lo 0 a) (hhi:oev n J L hi l.length b) (hs:sub l a b=some u)
    (ht:P.underlying t=some (.slice e)) (hz : ∀ w,(sizeOf e).run P w = .ok sz w) (hr:r.sz=sz)
    (he:Value.slice (if cap=a.toNat then ad else ad.map (·.add (a.toNat * r.sz))) (b.toNat - a.toNat) (cap - a.toNat) = .slice a' u.length c') :
    (execOp (ev n J L) ⟨some d,.slice t x lo hi none,ty,pos,aft,none⟩).run P w = .ok (.value (.slice a' u.length c')) w:=by
  subst hr
  obtain⟨h0,h1,h2,_⟩:=Q6q hs
  have hc:l.length≤cap:=by
    obtain⟨_,_,hv,h5,_⟩:=h
    cases hv
    exact h5
  have hr:=r_sl (w:=w) (P:=P) (d:=d) (ty:=ty) (pos:=pos) (aft:=aft) hx hlo hhi h0 h1 h2 hc ht hz
  rw [he] at hr
  exact hr
theorem Y1j {o:BinOp} {a:Option Addr} {u:Value} : eqGuard o t x y (.pointer a) u=pure ():=by cases o <;> rfl
theorem eqg_sl {o:BinOp} {a:Option Addr} {l c:Nat} {u:Value} : eqGuard o t x y (.slice a l c) u=pure ():=by cases o <;> rfl
theorem Z1p {e:TypeId} (ht:P.underlying t=some (.pointer e)):P.underlying t=some (.pointer (P.pointee t)):=by
  unfold Program.pointee
  rw [ht]
theorem Z7o {a:Option Addr} {e:TypeId} {r:Bool} (hx:ev n J L x = .pointer a) (hy:ev n J L y = .pointer none) (hr:a.isNone=r) (ht:P.underlying t=some (.pointer e)) :
    (execOp (ev n J L) ⟨some d,.binOp .eql t x y t2,ty,pos,aft,none⟩).run P w = .ok (.value (.bool r)) w:=by
  subst hr
  simp [execOp,hx,hy,Y1j,run_eql_pointer_nil w t a (Z1p ht)]
theorem r_pnn {a:Option Addr} {e:TypeId} {r:Bool} (hx:ev n J L x = .pointer a) (hy:ev n J L y = .pointer none) (hr:(!a.isNone)=r) (ht:P.underlying t=some (.pointer e)) :
    (execOp (ev n J L) ⟨some d,.binOp .neq t x y t2,ty,pos,aft,none⟩).run P w = .ok (.value (.bool r)) w:=by
  subst hr
  simp [execOp,hx,hy,Y1j,run_neq_pointer_nil w t a (Z1p ht)]

theorem bs0S {α : Type} (r:Rp α) {e:TypeId} {sz:Nat} (hS:Sep g T w G) (ht:P.underlying t=some (.slice e)) (hs : ∀ w,(sizeOf e).run P w = .ok sz w)
    (k : ∀ w' a m c,Im T w T w' → Sep g T w' (Z0 r e (.slice a m c) []::G)→KK (env n J ((d,.slice a m c)::L)) w') :
    Oper.wp P ⟨some d,.buildSlice t 0 #[],ty,pos,aft,none⟩ (env n J L) w KK Q:=by
  have inn:=Q0u hS.lt (.cells #[] e) (w:=w)
  have hnew:(w.alloc (.cells #[] e)).heap[w.heap.size]? = some (.cells #[] e (0,0)):=heap_alloc_new w _
  refine Q8l (w' := w.alloc (.cells #[] e)) (v := .slice (some ⟨w.heap.size,0,none⟩) 0 0) ?_ (k _ _ _ _ inn.imm (hS.cons inn (fun _ h=>h) (F:=(· = w.heap.size)) ⟨⟨[],rfl,⟨by simp,.inr ⟨w.heap.size,0,#[],rfl,Nat.zero_le _,hnew,Nat.le_refl _,by simp [maxLen],by simp,by simp⟩⟩,fun i cs x hc hx=>by simp at hc⟩,fun k => ?_⟩ (fun k hk => ?_)))
  · have h0 : ∀(f:Nat→Value),Array.map f (Array.range 0) = #[]:=fun f=>Array.ext (by simp) (fun i h1 h2=>by simp at h2)
    simp [execOp,Instr.buildSlice,run_underlying ht,hs,Instr.fill,h0]
    rfl
  · simp [Value.ownBlock,eq_comm]
  · subst hk; exact⟨Nat.le_refl _,Q6d hS.lt⟩
theorem SlR.nilOr {α : Type} {r:Rp α} {l:List α} {a:Option Addr} {c:Nat} (h:SlR r T w (.slice a l.length c) l):(a=none∧l = []) ∨ a.isNone=false:=by
  obtain⟨a',cap,hv,h5,h6,h7⟩:=h
  cases hv
  rcases h7 with rfl | ⟨b,off,rfl,_⟩
  · cases a with
    | none=>exact .inl ⟨rfl,rfl⟩
    | some a=>exact .inr rfl
  · exact .inr rfl
theorem r_sne {a:Option Addr} {m c:Nat} {e:TypeId} {r:Bool} (hx:ev n J L x = .slice a m c) (hy:ev n J L y = .slice none 0 0) (hr:a.isNone=r) (ht:P.underlying t=some (.slice e)) :
    (execOp (ev n J L) ⟨some d,.binOp .eql t x y t2,ty,pos,aft,none⟩).run P w = .ok (.value (.bool r)) w:=by
  subst hr
  simp [execOp,hx,hy,eqg_sl,run_eql_slice_nil w t e a m c ht]
end
end Go.Proofs.YtecakklofhfphaaGreatDoor
