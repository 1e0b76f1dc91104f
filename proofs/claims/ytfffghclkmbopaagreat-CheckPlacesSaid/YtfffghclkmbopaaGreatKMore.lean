/- More operations over what a function owns. It holds for every program. -/
import Derived.Test.YtfffghclkmbopaaGreatKAct
import Derived.Laws.Pointers
import Derived.Laws.BytesArg
import Derived.Lib.ConvBytes
import Derived.Lib.LazyBuf
set_option linter.unusedVariables false
namespace Go.Proofs.YtfffghclkmbopaaGreat

section
variable {P:Program} {ops:Array Oper} {Q:Exit→Act→World→Prop} {rest:List Oper} {n:NF} {J:Nat→Value} {L:List (Nat×Value)} {w w' w0 g:World}
  {d:Nat} {ty:TypeId} {pos:String} {aft:Array Edge} {op:Op} {v:Value} {x y c:Operand} {t t2:TypeId} {T:Nat→Prop} {KK:Act→World→Prop} {Qa:Act→Prop} {C:World→Prop} {G:List Y8} {q p i:Nat}

theorem Sep.bx {b:Nat} {cs:List Value} (h:Sep g T w G) (hi:AtR G i (U5 b cs)):Box w b cs:=let ⟨_,⟨_,h⟩,_⟩:=h.getA hi; h
theorem Y0x {m:Nat} {fn:Func} {R:Ending→World→Prop} (hr:fn.results = #[]) (hR:R (.returned (.tuple #[])) w):bodyPost P fn R .normal (env (nf m) J L) w :=
  ⟨rfl,_,results_none hr _ _ _,hR⟩
theorem Q0w {α : Type} {r:Rp α} {T:Nat→Prop} {w:World} {c0 new:List Value} {u : α} (h:r.rp T w c0 u) (hl:new.length=r.sz):O4 c0 0 new=new:=by
  have:=r.len h
  simp [O4,hl,← this]
theorem SlV.ixq {α : Type} {r:Rp α} {l:List α} {v:Value} {i:Int} {u : α} {sz:Nat} (h:SlV r T w v l) (hi:idx l i=some u) (hz:r.sz=sz) :
    ∃ b off cs k cap,v = .slice (some ⟨b,k,none⟩) l.length cap∧0≤i∧i < l.length∧off=k+i.toNat * sz∧r.rp T w cs u∧cellsAt w b off cs:=by
  subst hz;obtain⟨h0,h1,h2⟩:=Q0u hi;obtain⟨a,cap,hv,h5,h6,h7⟩:=h
  rcases h7 with rfl | ⟨b,k,rfl,hx⟩
  · simp at h2
  · obtain⟨cs,hr,hc⟩:=hx _ _ h2;exact⟨b,_,cs,k,cap,hv,h0,by omega,rfl,hr,hc⟩
theorem SlR.len {α : Type} {r:Rp α} {l:List α} {a:Option Addr} {m c:Nat} (h:SlR r T w (.slice a m c) l):m=l.length:=by
  obtain⟨_,_,hv,_⟩:=h;cases hv
  rfl
theorem SlR.ixT {α : Type} {r:Rp α} {l:List α} {v:Value} {i:Int} {u : α} {sz:Nat} (h:SlR r T w v l) (hi:idx l i=some u) (hz:r.sz=sz) :
    ∃ b off cs k cap,v = .slice (some ⟨b,k,none⟩) l.length cap∧0≤i∧i < l.length∧off=k+i.toNat * sz∧r.rp T w cs u∧cellsAt w b off cs∧T b:=by
  subst hz;obtain⟨h0,h1,h2⟩:=Q0u hi;obtain⟨a,cap,hv,h5,h6,h7⟩:=h
  rcases h7 with rfl | ⟨b,k,rfl,hT,hx⟩
  · simp at h2
  · obtain⟨cs,hr,hc⟩:=hx _ _ h2;exact⟨b,_,cs,k,cap,hv,h0,by omega,rfl,hr,hc,hT⟩
theorem Y1s {fn:Fn} {fs cs:Array Operand} {u:Value} (hu:Value.func fn (fs.toList.map (ev n J L)).toArray (cs.toList.map (ev n J L)).toArray=u) :
    (execOp (ev n J L) ⟨some d,.makeFunc fn fs cs,ty,pos,aft,none⟩).run P w = .ok (.value u) w:=by
  subst hu;have h1:(fs.toList.map (ev n J L)).toArray=fs.map (ev n J L):=by apply Array.ext'; simp
  have h2:(cs.toList.map (ev n J L)).toArray=cs.map (ev n J L):=by apply Array.ext'; simp
  rw [h1,h2]
  simp [execOp,Instr.makeFunc]
theorem Y8x {α : Type} {r:Rp α} {l:List α} {v:Value} {e:TypeId} {T' : Nat→Prop} {w1:World} (hx:ev n J L x=v) (h:SlV r T' w1 v l) (ht:P.underlying t=some (.slice e)) :
    (execOp (ev n J L) ⟨some d,.call ⟨.builtin .len,#[x],#[t]⟩,ty,pos,aft,none⟩).run P w = .ok (.value (.int .i64 (l.length:Int))) w:=by
  obtain⟨a,c,rfl⟩:=h.shape;exact Y4n hx ht
theorem r_slR {α : Type} {r:Rp α} {ad:Option Addr} {l u:List α} {cap sz:Nat} {e:TypeId} {lo hi:Option Operand} {a b:Int} {a' : Option Addr} {c' : Nat} {T1:Nat→Prop} {w1:World}
    (hx:ev n J L x = .slice ad l.length cap) (h:SlR r T1 w1 (.slice ad l.length cap) l) (hlo:oev n J L lo 0 a) (hhi:oev n J L hi l.length b) (hs:sub l a b=some u)
    (ht:P.underlying t=some (.slice e)) (hz : ∀ w,(sizeOf e).run P w = .ok sz w) (hr:r.sz=sz)
    (he:Value.slice (if cap=a.toNat then ad else ad.map (·.add (a.toNat * r.sz))) (b.toNat - a.toNat) (cap - a.toNat) = .slice a' u.length c') :
    (execOp (ev n J L) ⟨some d,.slice t x lo hi none,ty,pos,aft,none⟩).run P w = .ok (.value (.slice a' u.length c')) w:=by
  subst hr;obtain⟨h0,h1,h2,_⟩:=Z0h hs
  have hc:l.length≤cap:=by
    obtain⟨_,_,hv,h5,_⟩:=h;cases hv;exact h5
  have hr:=r_sl (w:=w) (P:=P) (d:=d) (ty:=ty) (pos:=pos) (aft:=aft) hx hlo hhi h0 h1 h2 hc ht hz;rw [he] at hr;exact hr
theorem X1p {o:BinOp} {a:Option Addr} {u:Value} : eqGuard o t x y (.pointer a) u=pure ():=by cases o <;> rfl
theorem eqg_sl {o:BinOp} {a:Option Addr} {l c:Nat} {u:Value} : eqGuard o t x y (.slice a l c) u=pure ():=by cases o <;> rfl
theorem Y4t {e:TypeId} (ht:P.underlying t=some (.pointer e)):P.underlying t=some (.pointer (P.pointee t)):=by
  unfold Program.pointee;rw [ht]
theorem r_pne {a:Option Addr} {e:TypeId} {r:Bool} (hx:ev n J L x = .pointer a) (hy:ev n J L y = .pointer none) (hr:a.isNone=r) (ht:P.underlying t=some (.pointer e)) :
    (execOp (ev n J L) ⟨some d,.binOp .eql t x y t2,ty,pos,aft,none⟩).run P w = .ok (.value (.bool r)) w:=by
  subst hr
  simp [execOp,hx,hy,X1p,run_eql_pointer_nil w t a (Y4t ht)]
theorem Y4m {a:Option Addr} {e:TypeId} {r:Bool} (hx:ev n J L x = .pointer a) (hy:ev n J L y = .pointer none) (hr:(!a.isNone)=r) (ht:P.underlying t=some (.pointer e)) :
    (execOp (ev n J L) ⟨some d,.binOp .neq t x y t2,ty,pos,aft,none⟩).run P w = .ok (.value (.bool r)) w:=by
  subst hr
  simp [execOp,hx,hy,X1p,run_neq_pointer_nil w t a (Y4t ht)]

theorem r_cvs {l:List Int} {v:Value} {t1 t3 e:TypeId} (hx:ev n J L x=v) (h : ∃ T',SlV (E6 .u8) T' w v l) (hs:P.underlying t1=some (.slice e)) (he:P.underlying e=some (.int .u8)) (hd:P.underlying t3=some .string) :
    (execOp (ev n J L) ⟨some d,.convert t1 t3 x,ty,pos,aft,none⟩).run P w = .ok (.value (.string ⟨(Z9k l).toArray⟩)) w:=by
  obtain⟨T',a,cap,hv,h5,h6,h7⟩:=h
  have hr:(convert t1 t3 v).run P w = .ok (.string ⟨(Z9k l).toArray⟩) w:=by
    rcases h7 with rfl | ⟨b,off,rfl,hc⟩
    · rw [hv];rw [run_convert_bytes_string w t1 t3 e _ _ _ hs he hd];cases a <;> simp [Conv.bytesToString,loadCells,Z9k]
      all_goals rfl
    · rw [hv,run_convert_bytes_arg w t1 e hs he b off l.length cap l rfl (fun i hi => ?_) t3 hd]
      · rfl
      · obtain⟨cs,hr,hcs⟩:=hc i l[i] (List.getElem?_eq_getElem hi);have hcs1:=hcs 0 (.int .u8 l[i]) (by have:cs = [.int .u8 l[i]]:=hr; rw [this]; rfl);have hsz:(E6 .u8).sz=1:=rfl;rw [hsz,Nat.mul_one,Nat.add_zero] at hcs1;rw [hcs1]
        simp [List.getD,hi]
  simp only [execOp,hx,Sem.run_bind,hr,Result.andThen_ok,Sem.run_pure]
theorem QC.slv {α : Type} {r:Rp α} {v:Value} {l:List α} (hq:QC T w0 w) (h:SlV r T w0 v l) : ∃ T',SlV r T' w v l:=by
  have hq' := hq;obtain⟨T',hi⟩:=hq;obtain⟨a,cap,hv,h5,h6,h7⟩:=h;refine⟨T',a,cap,hv,h5,h6,?_⟩
  rcases h7 with rfl | ⟨b,off,rfl,hc⟩
  · exact .inl rfl
  · refine .inr ⟨b,off,rfl,fun i x hx => ?_⟩;obtain⟨cs,hr,hcs⟩:=hc i x hx;exact⟨cs,r.mono hi.imm hr,hq'.cellsAt hcs⟩
theorem cvB {s:List UInt8} {t1 t3 e:TypeId} (hS:Sep g T w G) (hx:ev n J L x = .string ⟨s.toArray⟩) (hs:P.underlying t1=some .string) (hd:P.underlying t3=some (.slice e)) (he:P.underlying e=some (.int .u8)) (hl:s.length≤8589934592)
    (k : ∀ T' w' a c,Im T w T' w' → Sep g T' w' G→SlR (E6 .u8) T' w' (.slice a (A0 s).length c) (A0 s)→KK (env n J ((d,.slice a (A0 s).length c)::L)) w') :
    Oper.wp P ⟨some d,.convert t1 t3 x,ty,pos,aft,none⟩ (env n J L) w KK Q:=by
  have hrun:=Lib.run_convert_string_bytes (P:=P) w t1 t3 e (ByteArray.mk s.toArray) hs hd he;have hsz:(ByteArray.mk s.toArray).size=(A0 s).length:=by simp [ByteArray.size,A0]
  have hss:(ByteArray.mk s.toArray).size=s.length:=by simp [ByteArray.size]
  have hml:s.length≤maxLen:=by simp only [maxLen]; omega
  have inn:Inn w.heap.size noB T w (fun k=>T k ∨ k=w.heap.size) (Lib.bytesWorld w e ⟨s.toArray⟩):=by
    refine⟨⟨rfl,rfl,rfl,by rw [Lib.bytesWorld_size]; omega,fun k hk _=>Lib.bytesWorld_at_old w e _ k hk⟩,fun k hk=>⟨.inl hk,Lib.bytesWorld_at_old w e _ k (hS.lt k hk)⟩,fun k hk ht=>ht.elim id (fun h=>absurd hk (by omega)),fun k ht => ?_,by rw [Lib.bytesWorld_size]; omega⟩;rw [Lib.bytesWorld_size]
    rcases ht with ht | ht
    · have:=hS.lt k ht; omega
    · omega
  refine Y0i (w' := Lib.bytesWorld w e ⟨s.toArray⟩) (v := .slice (some ⟨w.heap.size,0,none⟩) (A0 s).length (grownCap w (ByteArray.mk s.toArray).size 0 e)) ?_ (k _ _ _ _ inn.imm (hS.keep inn (fun _ h=>h)) ?_)
  · rw [← hsz]
    simp only [execOp,hx,Sem.run_bind,hrun,Result.andThen_ok,Sem.run_pure]
  · refine⟨_,_,rfl,?_,?_,?_⟩
    · rw [← hsz]; exact grownCap_ge w _ 0 e
    · exact grownCap_le_maxLen w _ 0 e (by rw [hss]; exact hml)
    · refine .inr ⟨w.heap.size,0,rfl,.inr rfl,fun i x hi=>⟨[.int .u8 x],rfl,fun j u hj => ?_⟩⟩;cases j with
      | succ j=>simp at hj
      | zero =>
        simp at hj
        subst hj
        have hil:i < s.length:=by
          rcases Nat.lt_or_ge i s.length with h | h
          · exact h
          · rw [List.getElem?_eq_none (by simp [A0]; omega)] at hi; cases hi
        have:=Lib.bytesWorld_cell w e ⟨s.toArray⟩ i (by rw [hss]; exact hil);have hsz1:(E6 .u8).sz=1:=rfl;rw [hsz1,Nat.mul_one,Nat.zero_add,Nat.add_zero,this]
        simp [A0,hil] at hi
        simp [List.getD,hil,← hi]

theorem bs0S {α : Type} (r:Rp α) {e:TypeId} {sz:Nat} (hS:Sep g T w G) (ht:P.underlying t=some (.slice e)) (hs : ∀ w,(sizeOf e).run P w = .ok sz w)
    (k : ∀ w' a m c,Im T w T w' → Sep g T w' (K3 r e (.slice a m c) []::G)→KK (env n J ((d,.slice a m c)::L)) w') :
    Oper.wp P ⟨some d,.buildSlice t 0 #[],ty,pos,aft,none⟩ (env n J L) w KK Q:=by
  have inn:=Z1n hS.lt (.cells #[] e) (w:=w);have hnew:(w.alloc (.cells #[] e)).heap[w.heap.size]? = some (.cells #[] e (0,0)):=heap_alloc_new w _;refine Y0i (w' := w.alloc (.cells #[] e)) (v := .slice (some ⟨w.heap.size,0,none⟩) 0 0) ?_ (k _ _ _ _ inn.imm (hS.cons inn (fun _ h=>h) (F:=(· = w.heap.size)) ⟨⟨[],rfl,⟨by simp,.inr ⟨w.heap.size,0,#[],rfl,Nat.zero_le _,hnew,Nat.le_refl _,by simp [maxLen],by simp,by simp⟩⟩,fun i cs x hc hx=>by simp at hc⟩,fun k => ?_⟩ (fun k hk => ?_)))
  · have h0 : ∀(f:Nat→Value),Array.map f (Array.range 0) = #[]:=fun f=>Array.ext (by simp) (fun i h1 h2=>by simp at h2)
    simp [execOp,Instr.buildSlice,run_underlying ht,hs,Instr.fill,h0]
    rfl
  · simp [Value.ownBlock,eq_comm]
  · subst hk; exact⟨Nat.le_refl _,Z8u hS.lt⟩
theorem SlR.nilOr {α : Type} {r:Rp α} {l:List α} {a:Option Addr} {c:Nat} (h:SlR r T w (.slice a l.length c) l):(a=none∧l = []) ∨ a.isNone=false:=by
  obtain⟨a',cap,hv,h5,h6,h7⟩:=h;cases hv
  rcases h7 with rfl | ⟨b,off,rfl,_⟩
  · cases a with
    | none=>exact .inl ⟨rfl,rfl⟩
    | some a=>exact .inr rfl
  · exact .inr rfl
theorem Y1r {a:Option Addr} {m c:Nat} {e:TypeId} {r:Bool} (hx:ev n J L x = .slice a m c) (hy:ev n J L y = .slice none 0 0) (hr:a.isNone=r) (ht:P.underlying t=some (.slice e)) :
    (execOp (ev n J L) ⟨some d,.binOp .eql t x y t2,ty,pos,aft,none⟩).run P w = .ok (.value (.bool r)) w:=by
  subst hr
  simp [execOp,hx,hy,eqg_sl,run_eql_slice_nil w t e a m c ht]
end
end Go.Proofs.YtfffghclkmbopaaGreat
