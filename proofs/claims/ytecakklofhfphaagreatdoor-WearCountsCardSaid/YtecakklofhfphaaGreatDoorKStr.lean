/- Operations on strings and parts of slices. It holds for every program. -/
import Derived.Test.YtecakklofhfphaaGreatDoorKOps
set_option linter.unusedVariables false
namespace Go.Proofs.YtecakklofhfphaaGreatDoor

theorem ba_get (l:List UInt8) (i:Nat):(⟨l.toArray⟩:ByteArray)[i]? = l[i]? := by
  by_cases h:i < l.length
  · rw [List.getElem?_eq_getElem h,getElem?_pos (⟨l.toArray⟩:ByteArray) i (by simpa [ByteArray.size] using h)]
    rfl
  · rw [List.getElem?_eq_none (by omega),getElem?_neg (⟨l.toArray⟩:ByteArray) i (by simpa [ByteArray.size] using h)]
theorem Q5j (l:List UInt8):(⟨l.toArray⟩:ByteArray).toList=l:=by
  rw [ByteArray.toList_eq]

section
variable {P:Program} {ops:Array Oper} {Q:Exit→Act→World→Prop} {rest:List Oper} {n:NF} {J:Nat→Value} {L:List (Nat×Value)} {w w' w0:World}
  {d:Nat} {ty:TypeId} {pos:String} {aft:Array Edge} {op:Op} {v:Value} {x y c:Operand} {t t2:TypeId} {T:Nat→Prop} {Qa:Act→Prop} {C:World→Prop}

theorem r_sqL {a b:List UInt8} (hx:ev n J L x = .string ⟨a.toArray⟩) (hy:ev n J L y = .string ⟨b.toArray⟩):(execOp (ev n J L) ⟨some d,.binOp .eql t x y t2,ty,pos,aft,none⟩).run P w = .ok (.value (.bool (decide (a=b)))) w:=by
  rw [r_sq hx hy,Q5j,Q5j,Bool.beq_eq_decide_eq]
theorem r_snL {a b:List UInt8} (hx:ev n J L x = .string ⟨a.toArray⟩) (hy:ev n J L y = .string ⟨b.toArray⟩):(execOp (ev n J L) ⟨some d,.binOp .neq t x y t2,ty,pos,aft,none⟩).run P w = .ok (.value (.bool (!(decide (a=b))))) w:=by
  rw [r_sn hx hy,Q5j,Q5j,Bool.beq_eq_decide_eq]
theorem r_sx {a:List UInt8} {k:IntKind} {i:Int} {u:UInt8} (hx:ev n J L x = .string ⟨a.toArray⟩) (hy:ev n J L y = .int k i) (hi:idx a i=some u) (ht:P.underlying t=some .string) :
    (execOp (ev n J L) ⟨some d,.index t x y,ty,pos,aft,none⟩).run P w = .ok (.value (.int .u8 (u.toNat:Int))) w:=by
  obtain⟨h0,h1,h2⟩:=L4 hi
  simp [execOp,Instr.index,hx,hy,asIntOf,run_underlying ht,h0,ba_get,h2]
theorem sx {a:List UInt8} {k:IntKind} {i:Int} {u:UInt8} (hx:ev n J L x = .string ⟨a.toArray⟩) (hy:ev n J L y = .int k i) (hi:idx a i=some u) (ht:P.underlying t=some .string) (k' : wpList P ops Q rest (env n J ((d,.int .u8 (u.toNat:Int))::L)) w):wpList P ops Q (⟨some d,.index t x y,ty,pos,aft,none⟩::rest) (env n J L) w:=Q0e (r_sx hx hy hi ht) k'
def oev (n:NF) (J:Nat→Value) (L:List (Nat×Value)) (o:Option Operand) (z:Int) (a:Int):Prop:=match o with
  | some x => ∃ k,ev n J L x = .int k a
  | none=>a=z

theorem r_sl {ad:Option Addr} {len cap sz:Nat} {e:TypeId} {lo hi:Option Operand} {a b:Int} (hx:ev n J L x = .slice ad len cap) (hlo:oev n J L lo 0 a) (hhi:oev n J L hi len b) (h0:0≤a) (h1:a≤b) (h2:b≤len) (hc:len≤cap)
    (ht:P.underlying t=some (.slice e)) (hs : ∀ w,(sizeOf e).run P w = .ok sz w) :
    (execOp (ev n J L) ⟨some d,.slice t x lo hi none,ty,pos,aft,none⟩).run P w = .ok (.value (.slice (if cap=a.toNat then ad else ad.map (·.add (a.toNat * sz))) (b.toNat - a.toNat) (cap - a.toNat))) w:=by
  cases lo with
  | none =>
    cases hhi' : hi with
    | none =>
      subst hhi'
      cases hlo
      cases hhi
      simp [execOp,Instr.sliceAt,Instr.slice,Instr.sliceBounds,hx,run_underlying ht,hs]
    | some y =>
      subst hhi'
      cases hlo
      obtain⟨k,hk⟩:=hhi
      have hb:0≤b:=by omega
      have hb2:b≤cap:=by omega
      simp [execOp,Instr.sliceAt,Instr.slice,Instr.sliceBounds,Instr.sliceBound,asIntOf,hx,hk,run_underlying ht,hs,hb,hb2]
  | some z =>
    obtain⟨k1,hk1⟩:=hlo
    cases hhi' : hi with
    | none =>
      subst hhi'
      cases hhi
      simp [execOp,Instr.sliceAt,Instr.slice,Instr.sliceBounds,Instr.sliceBound,asIntOf,hx,hk1,run_underlying ht,hs,h0,h1]
    | some y =>
      subst hhi'
      obtain⟨k,hk⟩:=hhi
      have hb:0≤b:=by omega
      have hb2:b≤cap:=by omega
      simp [execOp,Instr.sliceAt,Instr.slice,Instr.sliceBounds,Instr.sliceBound,asIntOf,hx,hk,hk1,run_underlying ht,hs,hb,hb2,h0]
      intro hm
      exact absurd hm (by omega)
theorem SlR.part {α : Type} {r:Rp α} {w:World} {ad:Option Addr} {l:List α} {cap:Nat} {a b:Int} {u:List α} (h:SlR r T w (.slice ad l.length cap) l) (hs:sub l a b=some u) :
    ∃ a' c',Value.slice (if cap=a.toNat then ad else ad.map (·.add (a.toNat * r.sz))) (b.toNat - a.toNat) (cap - a.toNat) = .slice a' u.length c' ∧ SlR r T w (.slice a' u.length c') u:=by
  obtain⟨h0,h1,h2,rfl⟩:=Q6q hs
  obtain⟨a0,c0,hv,h5,h6,h7⟩:=h
  cases hv
  have hl:((l.take b.toNat).drop a.toNat).length=b.toNat - a.toNat:=by simp; omega
  refine⟨_,cap - a.toNat,by rw [hl],_,_,rfl,by rw [hl]; omega,by omega,?_⟩
  rcases h7 with h7 | ⟨bk,off,rfl,hT,hx⟩
  · exact .inl (by rw [h7]; simp)
  · by_cases hca:cap=a.toNat
    · exact .inl (List.eq_nil_of_length_eq_zero (by rw [hl]; omega))
    · refine .inr ⟨bk,off+a.toNat * r.sz,by rw [if_neg hca]; simp [Addr.add_lit],hT,fun i x hi => ?_⟩
      rw [List.getElem?_drop] at hi
      have hi2:l[a.toNat+i]? = some x:=by
        rw [List.getElem?_take] at hi
        split at hi
        · exact hi
        · cases hi
      obtain⟨cs,hr,hcs⟩:=hx _ x hi2
      exact⟨cs,hr,by rw [show off+a.toNat * r.sz+i * r.sz=off+(a.toNat+i) * r.sz by rw [Nat.add_mul]; omega]; exact hcs⟩
theorem sl {α : Type} {r:Rp α} {ad:Option Addr} {l u:List α} {cap sz:Nat} {e:TypeId} {lo hi:Option Operand} {a b:Int} (hx:ev n J L x = .slice ad l.length cap) (h:SlR r T w (.slice ad l.length cap) l) (hlo:oev n J L lo 0 a) (hhi:oev n J L hi l.length b) (hs:sub l a b=some u)
    (ht:P.underlying t=some (.slice e)) (hz : ∀ w,(sizeOf e).run P w = .ok sz w) (hr:r.sz=sz)
    (k' : ∀ a' c',SlR r T w (.slice a' u.length c') u→wpList P ops Q rest (env n J ((d,.slice a' u.length c')::L)) w) :
    wpList P ops Q (⟨some d,.slice t x lo hi none,ty,pos,aft,none⟩::rest) (env n J L) w:=by
  subst hr
  obtain⟨h0,h1,h2,_⟩:=Q6q hs
  obtain⟨a',c',e1,h'⟩:=h.part hs
  have hc:l.length≤cap:=by
    obtain⟨_,_,hv,h5,_⟩:=h
    cases hv
    exact h5
  have hr:=r_sl (w:=w) (P:=P) (d:=d) (ty:=ty) (pos:=pos) (aft:=aft) hx hlo hhi h0 h1 h2 hc ht hz
  rw [e1] at hr
  exact Q0e hr (k' a' c' h')
theorem r_nc {a:Addr} (hx:ev n J L x = .pointer (some a)):(execOp (ev n J L) ⟨some d,.nilCheck x,ty,pos,aft,none⟩).run P w = .ok (.value (.pointer (some a))) w:=by
  simp [execOp,hx]
theorem nc {a:Addr} (hx:ev n J L x = .pointer (some a)) (k' : wpList P ops Q rest (env n J ((d,.pointer (some a))::L)) w):wpList P ops Q (⟨some d,.nilCheck x,ty,pos,aft,none⟩::rest) (env n J L) w:=Q0e (r_nc hx) k'
theorem r_imx {k:IntKind} {a b:Int} (hx:ev n J L x = .int k a) (hy:ev n J L y = .int k b):(execOp (ev n J L) ⟨some d,.call ⟨.builtin .max,#[x,y],#[t,t2]⟩,ty,pos,aft,none⟩).run P w = .ok (.value (.int k (max a b))) w:=by
  simp [execOp,resolve,invoke,builtin,Builtin.max_,Builtin.max2,hx,hy]
  split <;> omega
theorem r_ex {vs:Array Value} {i:Nat} {v:Value} (hx:ev n J L x = .tuple vs) (hi:vs[i]? = some v):(execOp (ev n J L) ⟨some d,.extract x i,ty,pos,aft,none⟩).run P w = .ok (.value (v)) w:=by
  simp [execOp,Instr.extract,hx,hi]
theorem ex {vs:Array Value} {i:Nat} {v:Value} (hx:ev n J L x = .tuple vs) (hi:vs[i]? = some v) (k' : wpList P ops Q rest (env n J ((d,v)::L)) w):wpList P ops Q (⟨some d,.extract x i,ty,pos,aft,none⟩::rest) (env n J L) w:=Q0e (r_ex hx hi) k'
end
end Go.Proofs.YtecakklofhfphaaGreatDoor
