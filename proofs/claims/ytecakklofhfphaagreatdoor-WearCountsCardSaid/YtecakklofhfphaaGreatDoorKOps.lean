/- One lemma for each kind of operation, over the short frame of Core and the memory of Mem. It holds for every program. Printed by mkops.py. -/
import Derived.Test.YtecakklofhfphaaGreatDoorKMem
import Derived.Test.YtecakklofhfphaaGreatDoorKModel
import Derived.Deep.Quiet
set_option linter.unusedVariables false
namespace Go.Proofs.YtecakklofhfphaaGreatDoor

def ibin:BinOp→IntKind→Int→Int→Option Value
  | .add,k,a,b=>some (.int k (k.wrap (a+b)))
  | .sub,k,a,b=>some (.int k (k.wrap (a - b)))
  | .mul,k,a,b=>some (.int k (k.wrap (a * b)))
  | .and,k,a,b=>some (.int k (bits .and k a b))
  | .or,k,a,b=>some (.int k (bits .or k a b))
  | .xor,k,a,b=>some (.int k (bits .xor k a b))
  | .andNot,k,a,b=>some (.int k (bits .andNot k a b))
  | .eql,_,a,b=>some (.bool (a == b))
  | .neq,_,a,b=>some (.bool (a != b))
  | .lss,_,a,b=>some (.bool (decide (a < b)))
  | .leq,_,a,b=>some (.bool (decide (a≤b)))
  | .gtr,_,a,b=>some (.bool (decide (b < a)))
  | .geq,_,a,b=>some (.bool (decide (b≤a)))
  | _,_,_,_=>none

def QC (T:Nat→Prop) (w0:World):World→Prop:=fun w => ∃ T',Inn w0.heap.size noB T w0 T' w

theorem QC.cell {T:Nat→Prop} {w0 w:World} (h:QC T w0 w) {a:Addr} {v:Value} (hc:w0.cell? a=some v):w.cell? a=some v:=by
  obtain⟨T',hi⟩:=h
  have hl:=World.block_lt_of_cell? w0 a hc
  exact(World.cell?_of_block (hi.ch.same a.block hl (fun hh=>hh.elim (fun h=>by omega) id))).trans hc

theorem QC.cellsAt {T:Nat→Prop} {w0 w:World} (h:QC T w0 w) {b off:Nat} {cs:List Value} (hc:cellsAt w0 b off cs):cellsAt w b off cs:=fun j v hj=>h.cell (hc j v hj)

theorem SlR.atI {α : Type} {r:Rp α} {T:Nat→Prop} {w:World} {v:Value} {l:List α} (h:SlR r T w v l) {i:Nat} {x : α} (hi:l[i]? = some x) :
    ∃ b off cap cs,v = .slice (some ⟨b,off,none⟩) l.length cap∧i < l.length∧r.rp T w cs x∧cellsAt w b (off+i * r.sz) cs:=by
  obtain⟨a,cap,hv,h1,h2,h3⟩:=h
  have hl:i < l.length:=by
    rcases Nat.lt_or_ge i l.length with h | h
    · exact h
    · rw [List.getElem?_eq_none h] at hi; cases hi
  rcases h3 with rfl | ⟨b,off,rfl,hT,hx⟩
  · simp at hl
  · obtain⟨cs,hr,hc⟩:=hx i x hi
    exact⟨b,off,cap,cs,hv,hl,hr,hc⟩

section
variable {P:Program} {ops:Array Oper} {Q:Exit→Act→World→Prop} {rest:List Oper} {n:NF} {J:Nat→Value} {L:List (Nat×Value)} {w w' w0:World}
  {d:Nat} {ty:TypeId} {pos:String} {aft:Array Edge} {op:Op} {v:Value} {x y c:Operand} {t t2:TypeId} {T:Nat→Prop} {Qa:Act→Prop} {C:World→Prop}

theorem run_ibin {o:BinOp} {k:IntKind} {a b:Int} (h:ibin o k a b=some v):(binOp o t (.int k a) (.int k b)).run P w = .ok v w:=by
  cases o <;> simp [ibin] at h <;> subst h <;> simp [go_sem,Op.intArith]
theorem Q7l {o:BinOp} {k:IntKind} {a:Int} {u:Value} : eqGuard o t x y (.int k a) u=pure ():=by cases o <;> rfl
theorem Y1i {o:BinOp} {a:ByteArray} {u:Value} : eqGuard o t x y (.string a) u=pure ():=by cases o <;> rfl

theorem q_val (h : ∀ w,C w→(execOp (ev n J L) ⟨some d,op,ty,pos,aft,none⟩).run P w = .ok (.value v) w) (k:wpQuiet P ops C Qa rest (env n J ((d,v)::L))) :
    wpQuiet P ops C Qa (⟨some d,op,ty,pos,aft,none⟩::rest) (env n J L) :=
  wpQuiet_step fun K hK=>by
    refine(if_pos (by simp [Region.wanted])).mpr ?_
    refine⟨v,fun w hw => ?_,?_⟩
    · unfold Oper.quietAt
      rw [K7,h w hw]
      exact⟨rfl,rfl⟩
    · rw [E5]
      exact hK _ k

theorem qn (h:Qa (env n J L)):wpQuiet P ops C Qa [] (env n J L):=wpQuiet_nil h

theorem N2 {k:IntKind} {a:Int} (hx:ev n J L x = .int k a):(execOp (ev n J L) ⟨some d,.move x,ty,pos,aft,none⟩).run P w = .ok (.value (.int k a)) w:=by
  simp [execOp,hx]
theorem r_mb {b:Bool} (hx:ev n J L x = .bool b):(execOp (ev n J L) ⟨some d,.move x,ty,pos,aft,none⟩).run P w = .ok (.value (.bool b)) w:=by
  simp [execOp,hx]
theorem mb {b:Bool} (hx:ev n J L x = .bool b) (k' : wpList P ops Q rest (env n J ((d,.bool b)::L)) w):wpList P ops Q (⟨some d,.move x,ty,pos,aft,none⟩::rest) (env n J L) w:=Q0e (r_mb hx) k'
theorem r_ms {a:Option Addr} {l cap:Nat} (hx:ev n J L x = .slice a l cap):(execOp (ev n J L) ⟨some d,.move x,ty,pos,aft,none⟩).run P w = .ok (.value (.slice a l cap)) w:=by
  simp [execOp,hx]
theorem ms {a:Option Addr} {l cap:Nat} (hx:ev n J L x = .slice a l cap) (k' : wpList P ops Q rest (env n J ((d,.slice a l cap)::L)) w):wpList P ops Q (⟨some d,.move x,ty,pos,aft,none⟩::rest) (env n J L) w:=Q0e (r_ms hx) k'
theorem r_mp {a:Option Addr} (hx:ev n J L x = .pointer a):(execOp (ev n J L) ⟨some d,.move x,ty,pos,aft,none⟩).run P w = .ok (.value (.pointer a)) w:=by
  simp [execOp,hx]
theorem mp {a:Option Addr} (hx:ev n J L x = .pointer a) (k' : wpList P ops Q rest (env n J ((d,.pointer a)::L)) w):wpList P ops Q (⟨some d,.move x,ty,pos,aft,none⟩::rest) (env n J L) w:=Q0e (r_mp hx) k'
theorem r_mt {s:ByteArray} (hx:ev n J L x = .string s):(execOp (ev n J L) ⟨some d,.move x,ty,pos,aft,none⟩).run P w = .ok (.value (.string s)) w:=by
  simp [execOp,hx]
theorem mt {s:ByteArray} (hx:ev n J L x = .string s) (k' : wpList P ops Q rest (env n J ((d,.string s)::L)) w):wpList P ops Q (⟨some d,.move x,ty,pos,aft,none⟩::rest) (env n J L) w:=Q0e (r_mt hx) k'
theorem r_mv {vs:Array Value} (hx:ev n J L x = .tuple vs):(execOp (ev n J L) ⟨some d,.move x,ty,pos,aft,none⟩).run P w = .ok (.value (.tuple vs)) w:=by
  simp [execOp,hx]
theorem mv {vs:Array Value} (hx:ev n J L x = .tuple vs) (k' : wpList P ops Q rest (env n J ((d,.tuple vs)::L)) w):wpList P ops Q (⟨some d,.move x,ty,pos,aft,none⟩::rest) (env n J L) w:=Q0e (r_mv hx) k'
theorem r_mx {v:Value} (hx:ev n J L x=v):(execOp (ev n J L) ⟨some d,.move x,ty,pos,aft,none⟩).run P w = .ok (.value (v)) w:=by
  simp [execOp,hx]
theorem mx {v:Value} (hx:ev n J L x=v) (k' : wpList P ops Q rest (env n J ((d,v)::L)) w):wpList P ops Q (⟨some d,.move x,ty,pos,aft,none⟩::rest) (env n J L) w:=Q0e (r_mx hx) k'
theorem r_zi {k:IntKind} {a:Int} (hx:ev n J L x = .int k a):(execOp (ev n J L) ⟨some d,.assign x,ty,pos,aft,none⟩).run P w = .ok (.value (.int k a)) w:=by
  simp [execOp,hx]
theorem zi {k:IntKind} {a:Int} (hx:ev n J L x = .int k a) (k' : wpList P ops Q rest (env n J ((d,.int k a)::L)) w):wpList P ops Q (⟨some d,.assign x,ty,pos,aft,none⟩::rest) (env n J L) w:=Q0e (r_zi hx) k'
theorem r_zs {a:Option Addr} {l cap:Nat} (hx:ev n J L x = .slice a l cap):(execOp (ev n J L) ⟨some d,.assign x,ty,pos,aft,none⟩).run P w = .ok (.value (.slice a l cap)) w:=by
  simp [execOp,hx]
theorem zs {a:Option Addr} {l cap:Nat} (hx:ev n J L x = .slice a l cap) (k' : wpList P ops Q rest (env n J ((d,.slice a l cap)::L)) w):wpList P ops Q (⟨some d,.assign x,ty,pos,aft,none⟩::rest) (env n J L) w:=Q0e (r_zs hx) k'
theorem r_zx {v:Value} (hx:ev n J L x=v):(execOp (ev n J L) ⟨some d,.assign x,ty,pos,aft,none⟩).run P w = .ok (.value (v)) w:=by
  simp [execOp,hx]
theorem r_zf {f:Fn} {fi ca:Array Value} (hx:ev n J L x = .func f fi ca):(execOp (ev n J L) ⟨some d,.assign x,ty,pos,aft,none⟩).run P w = .ok (.value (.func f fi ca)) w:=by
  simp [execOp,hx]
theorem J8 {o:BinOp} {k:IntKind} {a b:Int} {v:Value} (hx:ev n J L x = .int k a) (hy:ev n J L y = .int k b) (hr:ibin o k a b=some v):(execOp (ev n J L) ⟨some d,.binOp o t x y t2,ty,pos,aft,none⟩).run P w = .ok (.value (v)) w:=by
  simp [execOp,hx,hy,Q7l,run_ibin hr]
theorem r_iq {k:IntKind} {a b:Int} (hx:ev n J L x = .int k a) (hy:ev n J L y = .int k b) (hb:b ≠ 0):(execOp (ev n J L) ⟨some d,.binOp .quo t x y t2,ty,pos,aft,none⟩).run P w = .ok (.value (.int k (k.wrap (a.tdiv b)))) w:=by
  simp [execOp,hx,hy,Q7l,go_sem,Op.intDiv,hb]
theorem Q3u {k:IntKind} {a b:Int} (hx:ev n J L x = .int k a) (hy:ev n J L y = .int k b) (hb:b ≠ 0):(execOp (ev n J L) ⟨some d,.binOp .rem t x y t2,ty,pos,aft,none⟩).run P w = .ok (.value (.int k (a.tmod b))) w:=by
  simp [execOp,hx,hy,Q7l,go_sem,Op.intDiv,hb]
theorem Q7y {k k2:IntKind} {a b:Int} (hx:ev n J L x = .int k a) (hy:ev n J L y = .int k2 b) (hb:0≤b):(execOp (ev n J L) ⟨some d,.binOp .shl t x y t2,ty,pos,aft,none⟩).run P w = .ok (.value (.int k (k.wrap (a * 2 ^ (min b.toNat k.bits))))) w:=by
  simp [execOp,hx,hy,Q7l,go_sem,Op.shift,show ¬ b < 0 by omega]
theorem Q4l {k k2:IntKind} {a b:Int} (hx:ev n J L x = .int k a) (hy:ev n J L y = .int k2 b) (hb:0≤b):(execOp (ev n J L) ⟨some d,.binOp .shr t x y t2,ty,pos,aft,none⟩).run P w = .ok (.value (.int k (a.fdiv (2 ^ (min b.toNat k.bits))))) w:=by
  simp [execOp,hx,hy,Q7l,go_sem,Op.shift,show ¬ b < 0 by omega]
theorem r_nt {b:Bool} (hx:ev n J L x = .bool b):(execOp (ev n J L) ⟨some d,.unOp .not t x,ty,pos,aft,none⟩).run P w = .ok (.value (.bool (!b))) w:=by
  simp [execOp,hx,Op.unary]
theorem nt {b:Bool} (hx:ev n J L x = .bool b) (k' : wpList P ops Q rest (env n J ((d,.bool (!b))::L)) w):wpList P ops Q (⟨some d,.unOp .not t x,ty,pos,aft,none⟩::rest) (env n J L) w:=Q0e (r_nt hx) k'
theorem r_ng {k:IntKind} {a:Int} (hx:ev n J L x = .int k a):(execOp (ev n J L) ⟨some d,.unOp .neg t x,ty,pos,aft,none⟩).run P w = .ok (.value (.int k (k.wrap (0 - a)))) w:=by
  simp [execOp,hx,Op.unary,Op.intArith]
theorem r_cm {k:IntKind} {a:Int} (hx:ev n J L x = .int k a):(execOp (ev n J L) ⟨some d,.unOp .xor t x,ty,pos,aft,none⟩).run P w = .ok (.value (.int k (bits .xor k (if k.signed then -1 else k.max) a))) w:=by
  simp [execOp,hx,Op.unary,go_sem]
theorem r_cv {k k2:IntKind} {a:Int} {t1:TypeId} {dd:TypeDesc} (hx:ev n J L x = .int k a) (h1:P.underlying t1=some dd) (h2:P.underlying t=some (.int k2)):(execOp (ev n J L) ⟨some d,.convert t1 t x,ty,pos,aft,none⟩).run P w = .ok (.value (.int k2 (k2.wrap a))) w:=by
  simp [execOp,hx,convert,run_underlying h1,run_underlying h2,Conv.intToInt]
theorem Q7x {a:Option Addr} {l cap:Nat} {e:TypeId} (hx:ev n J L x = .slice a l cap) (ht:P.underlying t=some (.slice e)):(execOp (ev n J L) ⟨some d,.call ⟨.builtin .len,#[x],#[t]⟩,ty,pos,aft,none⟩).run P w = .ok (.value (.int .i64 l)) w:=by
  simp [execOp,resolve,invoke,builtin,Builtin.len_,hx,run_underlying ht,goInt]
theorem r_lns {s:ByteArray} (hx:ev n J L x = .string s) (ht:P.underlying t=some .string):(execOp (ev n J L) ⟨some d,.call ⟨.builtin .len,#[x],#[t]⟩,ty,pos,aft,none⟩).run P w = .ok (.value (.int .i64 s.size)) w:=by
  simp [execOp,resolve,invoke,builtin,Builtin.len_,hx,run_underlying ht,goInt]
theorem r_ix {b off l cap sz:Nat} {k:IntKind} {i:Int} {e:TypeId} (hx:ev n J L x = .slice (some ⟨b,off,none⟩) l cap) (hy:ev n J L y = .int k i) (ht:P.underlying t=some (.slice e)) (hs : ∀ w,(sizeOf e).run P w = .ok sz w) (h0:0≤i) (h1:i < l):(execOp (ev n J L) ⟨some d,.indexAddr t x y,ty,pos,aft,none⟩).run P w = .ok (.value (.pointer (some ⟨b,off+i.toNat * sz,none⟩))) w:=by
  simp [execOp,Instr.indexAt,hx,hy,asIntOf,run_underlying ht,h0,h1,hs,Addr.add_lit]
theorem ix {b off l cap sz:Nat} {k:IntKind} {i:Int} {e:TypeId} (hx:ev n J L x = .slice (some ⟨b,off,none⟩) l cap) (hy:ev n J L y = .int k i) (ht:P.underlying t=some (.slice e)) (hs : ∀ w,(sizeOf e).run P w = .ok sz w) (h0:0≤i) (h1:i < l) (k' : wpList P ops Q rest (env n J ((d,.pointer (some ⟨b,off+i.toNat * sz,none⟩))::L)) w):wpList P ops Q (⟨some d,.indexAddr t x y,ty,pos,aft,none⟩::rest) (env n J L) w:=Q0e (r_ix hx hy ht hs h0 h1) k'
theorem I8 {b off sz:Nat} {f:Nat} {fs:Array Field} {fd:Field} (hx:ev n J L x = .pointer (some ⟨b,off,none⟩)) (ht:P.underlying t=some (.struct fs)) (hf:fs[f]? = some fd) (hs : ∀ w,(sizeOf fd.type).run P w = .ok sz w) (hz:(sz == 0)=false):(execOp (ev n J L) ⟨some d,.fieldAddr t x f,ty,pos,aft,none⟩).run P w = .ok (.value (.pointer (some ⟨b,off+fd.offset,none⟩))) w:=by
  have hz' : ¬ sz=0:=by simpa using hz
  simp [execOp,Instr.fieldAt,hx,run_underlying ht,hf,Instr.sureAddr,fieldPlace,hs,hz',Addr.add_lit]
theorem K3 {a:Addr} {v:Value} (hx:ev n J L x = .pointer (some a)) (ht : ∀ w,(isAgg t).run P w = .ok false w) (hc:(w).cell? a=some v):(execOp (ev n J L) ⟨some d,.load t x,ty,pos,aft,none⟩).run P w = .ok (.value (v)) w:=by
  simp [execOp,Instr.loadAt,loadVar,hx,ht,go_sem,hc,Instr.sureAddr]
theorem r_ldS {b off sz:Nat} {cs:List Value} (hx:ev n J L x = .pointer (some ⟨b,off,none⟩)) (ht : ∀ w,(isAgg t).run P w = .ok true w) (hs : ∀ w,(sizeOf t).run P w = .ok sz w) (hl:cs.length=sz) (hc:cellsAt (w) b off cs):(execOp (ev n J L) ⟨some d,.load t x,ty,pos,aft,none⟩).run P w = .ok (.value (.agg cs.toArray)) w:=by
  subst hl; have:=run_loadCells_list (P:=P) (w:=w) ⟨b,off,none⟩ cs (fun j v hj=>by rw [Addr.add_lit]; exact hc j v hj); simp [execOp,Instr.loadAt,loadVar,hx,ht,hs,Instr.sureAddr,this]
theorem r_sq {a b:ByteArray} (hx:ev n J L x = .string a) (hy:ev n J L y = .string b):(execOp (ev n J L) ⟨some d,.binOp .eql t x y t2,ty,pos,aft,none⟩).run P w = .ok (.value (.bool (a.toList == b.toList))) w:=by
  simp [execOp,hx,hy,Y1i,binOp,Op.stringOp]
theorem sq {a b:ByteArray} (hx:ev n J L x = .string a) (hy:ev n J L y = .string b) (k' : wpList P ops Q rest (env n J ((d,.bool (a.toList == b.toList))::L)) w):wpList P ops Q (⟨some d,.binOp .eql t x y t2,ty,pos,aft,none⟩::rest) (env n J L) w:=Q0e (r_sq hx hy) k'
theorem r_sn {a b:ByteArray} (hx:ev n J L x = .string a) (hy:ev n J L y = .string b):(execOp (ev n J L) ⟨some d,.binOp .neq t x y t2,ty,pos,aft,none⟩).run P w = .ok (.value (.bool (!(a.toList == b.toList)))) w:=by
  simp [execOp,hx,hy,Y1i,binOp,Op.stringOp]
theorem cellsAt.get {b off j:Nat} {cs:List Value} {u:Value} (h:cellsAt w b off cs) (hj:cs[j]? = some u):w.cell? ⟨b,off+j,none⟩=some u:=h j u hj

def yv (ops:Array Oper) (n:NF) (J:Nat→Value) (L:List (Nat×Value)) (j:Nat):Option Bool :=
  match (ops[j]?).bind (·.dst) with
  | some t=>match ev n J L (.tmp t) with
    | .bool b=>some b
    | _=>none
  | none=>none

theorem W7 (j:Nat):yielded ops (env n J L).tmps j=yv ops n J L j:=by
  unfold yielded yv
  cases hd:(ops[j]?).bind (·.dst) with
  | none=>rfl
  | some t =>
    simp only [Option.bind_some]
    by_cases h:t < n.n
    · have h1:(env n J L).tmps[t]? = some (lk J L t):=by simp [env,h]
      have h2:Nat.blt t n.n=true:=by simpa [Nat.blt_eq] using h
      rw [h1]
      simp only [ev,h2]
      cases lk J L t <;> rfl
    · have h1:(env n J L).tmps[t]? = none:=by simp [env]; exact Nat.le_of_not_lt h
      have h2:Nat.blt t n.n=false:=by
        cases hb:Nat.blt t n.n with
        | false=>rfl
        | true=>exact absurd (by simpa [Nat.blt_eq] using hb) h
      rw [h1]
      simp only [ev,h2,undef]

theorem gt {j:Nat} {b:Bool} {dst:Option Nat} (hy:yv ops n J L j=some b) (k:wpList P ops Q (⟨dst,op,ty,pos,aft,none⟩::rest) (env n J L) w) :
    wpList P ops Q (⟨dst,op,ty,pos,aft,some (j,b)⟩::rest) (env n J L) w:=by
  unfold wpList at k ⊢
  rw [if_pos (by simp [Region.wanted])] at k
  rw [if_pos (by simp [Region.wanted,W7,hy])]
  exact k
theorem qgt {j:Nat} {b:Bool} {dst:Option Nat} (hy:yv ops n J L j=some b) (k:wpQuiet P ops C Qa (⟨dst,op,ty,pos,aft,none⟩::rest) (env n J L)) :
    wpQuiet P ops C Qa (⟨dst,op,ty,pos,aft,some (j,b)⟩::rest) (env n J L):=by
  unfold wpQuiet at k ⊢
  rw [if_pos (by simp [Region.wanted])] at k
  rw [if_pos (by simp [Region.wanted,W7,hy])]
  exact k
theorem gf {j:Nat} {b:Bool} {z:Option Bool} (hy:yv ops n J L j=z) (hz:(z == some b)=false) (k:wpList P ops Q rest (env n J ((d,undef)::L)) w) :
    wpList P ops Q (⟨some d,op,ty,pos,aft,some (j,b)⟩::rest) (env n J L) w:=by
  unfold wpList
  rw [if_neg (by simp [Region.wanted,W7,hy]; simpa using hz),E5]
  exact k
theorem qgf {j:Nat} {b:Bool} {z:Option Bool} (hy:yv ops n J L j=z) (hz:(z == some b)=false) (k:wpQuiet P ops C Qa rest (env n J ((d,undef)::L))) :
    wpQuiet P ops C Qa (⟨some d,op,ty,pos,aft,some (j,b)⟩::rest) (env n J L):=by
  unfold wpQuiet
  rw [if_neg (by simp [Region.wanted,W7,hy]; simpa using hz),E5]
  exact k

theorem rg {id:Nat} {l:List Oper} {a:Act} (h:wpList P l.toArray Q l a w):(Code.region id l.toArray false).wp P Q a w:=wp_region_lit h
theorem rq {id:Nat} {l:List Oper} {a:Act} (hm:P.follows .mixedOrders=true) (hB:Region.lexB .any l.toArray=true) (hb:Bd T w)
    (h:wpQuiet P l.toArray (QC T w) (fun a' => ∀ w' T',Inn w.heap.size noB T w T' w' → Q .normal a' w') l a):(Code.region id l.toArray true).wp P Q a w :=
  wp_region_quiet (C:=QC T w) hm hB ⟨T,(Inn.refl hb (Nat.le_refl _)).ch0 (Ch.drew noB w)⟩ (by
    have hQ:(fun a' => ∀ w' T',Inn w.heap.size noB T w T' w' → Q .normal a' w')=(fun a' => ∀ w',QC T w w' → Q .normal a' w'):=by
      funext a'
      exact propext ⟨fun h w' ⟨T',hi⟩=>h w' T' hi,fun h w' T' hi=>h w' ⟨T',hi⟩⟩
    rw [hQ] at h
    simpa using h)
theorem nil {a:Act} (h:Q .normal a w):wpList P ops Q [] a w:=h

section control
variable {x y:Code} {a:Act} {K:Act→World→Prop} {i j:Nat}
theorem sq2 (h:x.wp P (Exit.then (y.wp P Q) Q) a w):(Code.seq x y).wp P Q a w:=wp_seq h
theorem cut (K:Act→World→Prop) (h:x.wp P (Exit.then K Q) a w) (k : ∀ a w,K a w→y.wp P Q a w):(Code.seq x y).wp P Q a w :=
  wp_seq (wp_mono h fun e a w hq=>by cases e <;> first | exact k _ _ hq | exact hq)
theorem Z5s (h:K a w):Exit.then K Q .normal a w:=h
theorem t_blk (h:Q .normal a w):Exit.inBlock i Q .normal a w:=h
theorem x_then (h:Q (.exit i) a w):Exit.then K Q (.exit i) a w:=h
theorem x_eq (h:Q .normal a w):Exit.inBlock i Q (.exit i) a w:=(if_pos rfl).mpr h
theorem x_ne (hn:i ≠ j) (h:Q (.exit i) a w):Exit.inBlock j Q (.exit i) a w:=(if_neg hn).mpr h
theorem r_then (h:Q .ret a w):Exit.then K Q .ret a w:=h
theorem r_blk (h:Q .ret a w):Exit.inBlock i Q .ret a w:=h
theorem cnd {b:Bool} {cc:Operand} (hc:ev n J L cc = .bool b) (h1:b=true→x.wp P Q (env n J L) w) (h2:b=false→y.wp P Q (env n J L) w):(Code.cond cc x y).wp P Q (env n J L) w :=
  wp_cond_split (by rw [K7]; exact hc) h1 h2
theorem cndH {b:Bool} {cc:Operand} {α : Type} {X Y Z : α} (hc:ev n J L cc = .bool b) (hm:(bif b then X else Y)=Z) (h1:b=true→X=Z→x.wp P Q (env n J L) w) (h2:b=false→Y=Z→y.wp P Q (env n J L) w):(Code.cond cc x y).wp P Q (env n J L) w :=
  cnd hc (fun h=>h1 h (by subst h; exact hm)) (fun h=>h2 h (by subst h; exact hm))
theorem skp (h:Q .normal a w):Code.skip.wp P Q a w:=wp_skip h
theorem blk (h:x.wp P (Exit.inBlock i Q) a w):(Code.block i x).wp P Q a w:=wp_block h
theorem xt (h:Q (.exit i) a w):(Code.exit i).wp P Q a w:=wp_exit h
theorem rtn (h:Q .ret a w):Code.ret.wp P Q a w:=wp_ret h
end control

def zipL:Nat→List Value→List (Nat×Value)
  | _,[] => []
  | i,v::r=>(i,v)::zipL (i+1) r
theorem Z0k {n:NF} (J:Nat→Value) : ∀(args:List Value) (k:Nat),(∀ i v,args[i]? = some v→J (k+i)=v)→Has n J [] (zipL k args)
  | [],_,_=>trivial
  | v::r,k,h=>⟨h 0 v rfl,Z0k J r (k+1) fun i u hu=>by rw [show k+1+i=k+(i+1) by omega]; exact h (i+1) u hu⟩
theorem enter {f:FuncId} {fn:Func} {cd:Code} {args:List Value} {R:Ending→World→Prop} {m:Nat} (hf:P.funcs[f]? = some fn) (hb:fn.body=some cd) (hm:fn.ntmps=m) (hl:Nat.ble args.length m=true)
    (h : ∀ J,cd.wp P (bodyPost P fn R) (env (nf m) J (zipL 0 args)) w):Calls P f args.toArray w R:=by
  refine calls_of_wp hf hb ?_
  have hl' : args.length≤m:=Nat.le_of_ble_eq_true hl
  have e:(⟨args.toArray++Array.replicate (fn.ntmps - args.toArray.size) undef,[]⟩:Act)=env (nf m) (fun i=>args.getD i undef) []:=by
    unfold env
    congr 1
    apply Array.ext
    · simp; omega
    · intro i h1 h2
      have him:i < m:=by simpa using h2
      by_cases hi:i < args.length
      · simp [lk,hi,List.getD]
      · simp [lk,hi,Array.getElem_append,List.getD]
  rw [e]
  have hz:Has (nf m) (fun i=>args.getD i undef) [] (zipL 0 args):=Z0k _ args 0 fun i v hv=>by simp [List.getD,hv]
  have:env (nf m) (fun i=>args.getD i undef) []=env (nf m) (lk (fun i=>args.getD i undef) []) (zipL 0 args):=by unfold env; rw [Z6f (nf m) _ [] _ hz]
  rw [this]
  exact h _

theorem Z0h {M:List (Nat×Value)} (h:Has n J L M):env n J L=env n (lk J L) M:=by unfold env; rw [Z6f n J L M h]

theorem ret1 {m:Nat} {fn:Func} {tt:Tmp} {R:Ending→World→Prop} {v:Value} (hr:fn.results = #[.tmp tt]) (hv:ev (nf m) J L (.tmp tt)=v) (hR:R (.returned v) w):bodyPost P fn R .ret (env (nf m) J L) w :=
  bodyPost_ret (results_tmp hr _ _ _) rfl (by
    have:(env (nf m) J L).tmps.getD tt undef=v:=by rw [← hv,← K7]; rfl
    rw [this]; exact hR)
theorem ret2 {m:Nat} {fn:Func} {t1 t2:Tmp} {R:Ending→World→Prop} {v1 v2:Value} (hr:fn.results = #[.tmp t1,.tmp t2]) (h1:ev (nf m) J L (.tmp t1)=v1) (h2:ev (nf m) J L (.tmp t2)=v2) (hR:R (.returned (.tuple #[v1,v2])) w):bodyPost P fn R .ret (env (nf m) J L) w :=
  bodyPost_ret (results_tmp2 hr _ _ _) rfl (by
    have e1:(env (nf m) J L).tmps.getD t1 undef=v1:=by rw [← h1,← K7]; rfl
    have e2:(env (nf m) J L).tmps.getD t2 undef=v2:=by rw [← h2,← K7]; rfl
    rw [e1,e2]; exact hR)
end
end Go.Proofs.YtecakklofhfphaaGreatDoor

