/- What the steps that find by themselves what they need lean on. It holds for every program. -/
import Derived.Test.YtecakklofhfphaaGreatDoorKAct
import Derived.Test.YtecakklofhfphaaGreatDoorKMore
import Derived.Test.YtecakklofhfphaaGreatDoorKFoc
import Derived.Test.YtecakklofhfphaaGreatDoorKTree
import Derived.Test.YtecakklofhfphaaGreatDoorKRet
set_option linter.unusedVariables false
namespace Go.Proofs.YtecakklofhfphaaGreatDoor

def mkP {α : Type} : List Nat→List α → List α
  | 0::b,_::l=>mkP b l
  | (_+1)::b,x::l=>x::mkP b l
  | _::_,[] => []
  | [],l=>l
abbrev Q9 (a n:Nat):List Nat:=List.range' a n
structure Kp (B:Prop):Prop where
  out:B
theorem atH {A:Z4} {L:List Z4} : AtR (A::L) 0 A:=⟨by simp [X1],rfl⟩
theorem atT {A B:Z4} {L:List Z4} {i:Nat} (h:AtR L i A):AtR (B::L) (i+1) A :=
  ⟨by have:=Nat.le_of_ble_eq_true h.lt; simp only [X1]; exact Nat.ble_eq_true_of_le (by omega),h.at_⟩
theorem atS {L:List Z4} {i:Nat} {A:Z4} (h:AtR L i A:=by(repeat (first | exact atH | apply atT)); done):AtR L i A:=h
theorem cellsAt.get0 {w:World} {b off:Nat} {cs:List Value} {u:Value} (h:cellsAt w b off cs) (hj:cs[0]? = some u):w.cell? ⟨b,off,none⟩=some u:=by simpa using h 0 u hj
theorem cellsAt.sameT {T T' : Nat→Prop} {w w' : World} {b off:Nat} {cs:List Value} (hc:cellsAt w b off cs) (hT:T b) (i:Im T w T' w'):cellsAt w' b off cs:=hc.same (i b hT).2
theorem Sep.cellL {g:World} {T:Nat→Prop} {w:World} {G:List Z4} {i b o j:Nat} {H:List Value→Z4} {cs:List Value} {v:Value} (hL:Ln b o H) (h:Sep g T w G) (hi:AtR G i (H cs)) (hj:cs[j]? = some v):w.cell? ⟨b,o+j,none⟩=some v:=h.cellB hi hL hj
theorem Sep.cellL0 {g:World} {T:Nat→Prop} {w:World} {G:List Z4} {i b o:Nat} {H:List Value→Z4} {cs:List Value} {v:Value} (hL:Ln b o H) (h:Sep g T w G) (hi:AtR G i (H cs)) (hj:cs[0]? = some v):w.cell? ⟨b,o,none⟩=some v:=h.cellB hi hL hj
theorem Sep.cellsA {g:World} {T:Nat→Prop} {w:World} {G:List Z4} {i b:Nat} {cs:List Value} (h:Sep g T w G) (hi:AtR G i (Y2 b cs)):cellsAt w b 0 cs:=h.cells0 hi (by rw [List.drop_zero,List.take_length])
theorem Sep.cellsP {g:World} {T:Nat→Prop} {w:World} {G:List Z4} {i b o:Nat} {H:List Value→Z4} {cs:List Value} (hL:Ln b o H) (h:Sep g T w G) (hi:AtR G i (H cs)):cellsAt w b o cs:=h.cellsB hi hL
section
variable {P:Program} {n:NF} {J:Nat→Value} {L:List (Nat×Value)} {w:World} {d:Nat} {ty:TypeId} {pos:String} {aft:Array Edge} {x:Operand} {a b c e:Value} {l:List Value}
theorem r_ex0 (hx:ev n J L x = .tuple ⟨a::l⟩):(execOp (ev n J L) ⟨some d,.extract x 0,ty,pos,aft,none⟩).run P w = .ok (.value a) w:=r_ex hx rfl
theorem r_ex1 (hx:ev n J L x = .tuple ⟨a::b::l⟩):(execOp (ev n J L) ⟨some d,.extract x 1,ty,pos,aft,none⟩).run P w = .ok (.value b) w:=r_ex hx rfl
theorem r_ex2 (hx:ev n J L x = .tuple ⟨a::b::c::l⟩):(execOp (ev n J L) ⟨some d,.extract x 2,ty,pos,aft,none⟩).run P w = .ok (.value c) w:=r_ex hx rfl
theorem r_ex3 (hx:ev n J L x = .tuple ⟨a::b::c::e::l⟩):(execOp (ev n J L) ⟨some d,.extract x 3,ty,pos,aft,none⟩).run P w = .ok (.value e) w:=r_ex hx rfl
theorem rv0:RVs P n J L w [] []:=trivial
theorem rvT {t:Tmp} {v:Value} {rs:List ResultVar} {vs:List Value} (h1:ev n J L (.tmp t)=v) (h2:RVs P n J L w rs vs):RVs P n J L w (.tmp t::rs) (v::vs):=⟨h1,h2⟩
theorem rvC {t:Tmp} {ty:TypeId} {b:Nat} {v:Value} {rs:List ResultVar} {vs:List Value} (hx:ev n J L (.tmp t) = .pointer (some ⟨b,0,none⟩)) (ht : ∀ w,(isAgg ty).run P w = .ok false w) (hb:Box w b [v]) (h2:RVs P n J L w rs vs):RVs P n J L w (.cell t ty::rs) (v::vs):=⟨rv1 hx ht hb,h2⟩
theorem rvG {t:Tmp} {ty:TypeId} {b sz:Nat} {cs:List Value} {rs:List ResultVar} {vs:List Value} (hx:ev n J L (.tmp t) = .pointer (some ⟨b,0,none⟩)) (ht : ∀ w,(isAgg ty).run P w = .ok true w) (hs : ∀ w,(sizeOf ty).run P w = .ok sz w) (hb:Box w b cs) (hl:cs.length=sz) (h2:RVs P n J L w rs vs):RVs P n J L w (.cell t ty::rs) (.agg cs.toArray::vs):=⟨rvS hx ht hs hl hb,h2⟩
theorem envS {M:List (Nat×Value)} (h:Has n J L M:=by repeat (first | exact trivial | (apply And.intro rfl))):env n J L=env n (lk J L) M:=Z0h h
end
abbrev JR (m:NF) (g:World) (T:Nat→Prop) (w:World) (a:Act) (w1:World) (T1:Nat→Prop) (P:Prop) (es:List (Nat×Value)) (G:List Z4):Prop := ∃ J,P∧a=env m J es∧Sep g T1 w1 G∧Im T w T1 w1
theorem Z4u {α : Type} {r:Rp α} {T T' : Nat→Prop} {w w' : World} {v:Value} {l:List α} (h:SlR r T w v l) (i:Im T w T' w'):SlR r T' w' v l:=h.mono i
theorem Sep.sl {g:World} {T:Nat→Prop} {w:World} {G:List Z4} {α : Type} {r:Rp α} {e:TypeId} {a:Option Addr} {m c:Nat} {l:List α} (hS:Sep g T w G) (q:Nat) (hi:AtR G q (Z0 r e (.slice a m c) l):=by exact⟨rfl,rfl⟩) :
    ∃ T',Im T w T' w∧Sep g T' w (C6 G q empA)∧SlR r T' w (.slice a m c) l∧m=l.length:=by
  obtain⟨T',i,S,h⟩:=hS.seal q hi
  exact⟨T',i,S,h,h.len⟩
section
variable {P:Program} {l:List Oper} {fl:List Nat} {Q:Exit→Act→World→Prop} {pd:List (Nat×Value)} {i:Nat} {is:List Nat} {n:NF} {J:Nat→Value} {L:List (Nat×Value)} {w:World}
  {d:Nat} {ty:TypeId} {pos:String} {aft:Array Edge} {op:Op} {v:Value} {gd:Option (Nat×Bool)}
theorem s0a (hf:fl.getD i 2=0) (ho:l[i]? = some ⟨some d,op,ty,pos,aft,gd⟩) (hw:Wt l n J L gd) (h : ∀ w,(execOp (ev n J L) ⟨some d,op,ty,pos,aft,none⟩).run P w = .ok (.value v) w)
    (k:K6 P l fl Q pd is (env n J ((d,v)::L)) w):K6 P l fl Q pd (i::is) (env n J L) w:=s0 ho hw h hf k
structure Kl (l:List (Nat×Value)):Prop where
  out:True
theorem s2k {dst:Option Tmp} {pd2:List (Nat×Value)} (_:Kl pd2) (ho:l[i]? = some ⟨dst,op,ty,pos,aft,gd⟩) (hw:Wt l n J L gd) (hf:fl.getD i 2=2) (hp:(pd.filter fun p => !((C1 l).getD i 0).testBit p.1)=pd2)
    (h:Oper.wp P ⟨dst,op,ty,pos,aft,none⟩ (env n J L) w (fun a' w' => O1 P l pd2 a' w' ∧ K6 P l fl Q pd2 is a' w') Q):K6 P l fl Q pd (i::is) (env n J L) w:=s2 pd2 ho hw hf hp h
structure KN (l:List Nat):Prop where
  out:True
theorem s2K {dst:Option Tmp} {ks:List Nat} (_:KN ks) (ho:l[i]? = some ⟨dst,op,ty,pos,aft,gd⟩) (hw:Wt l n J L gd) (hf:fl.getD i 2=2) (hp:(pd.filter fun p => !((C1 l).getD i 0).testBit p.1)=mkP ks pd)
    (h:Oper.wp P ⟨dst,op,ty,pos,aft,none⟩ (env n J L) w (fun a' w' => O1 P l (mkP ks pd) a' w' ∧ K6 P l fl Q (mkP ks pd) is a' w') Q):K6 P l fl Q pd (i::is) (env n J L) w:=s2 _ ho hw hf hp h
theorem twK {m:Nat} {js:List Nat} (_:KN js) (ho:(l[i]?).isSome=true) (hwt : ∀ o,l[i]? = some o→B4 l o (env n J L)=true) (hf:fl.getD i 2=2) (hjs:js.all (fun j=>nzB fl j)=true) (hB:twB l fl (C1 l) (i::is) js=true)
    (h:Brs P l fl Q m pd (i::is) (env n J L) w js):B3 P l fl Q (m+1) pd (i::is) (env n J L) w:=tw js ho hwt hf hjs hB h
theorem brK {m:Nat} {R R' ks:List Nat} {j:Nat} {dst:Option Tmp} (_:KN R') (_:KN ks) (ho:l[j]? = some ⟨dst,op,ty,pos,aft,gd⟩) (hb:brB R R' j=true) (hq:Q4n l fl (C1 l) R' = true) (hw:Wt l n J L gd)
    (hp:(pd.filter fun p => !((C1 l).getD j 0).testBit p.1)=mkP ks pd)
    (h:Oper.wp P ⟨dst,op,ty,pos,aft,none⟩ (env n J L) w (fun a' w' => O1 P l (mkP ks pd) a' w' ∧ B3 P l fl Q m (mkP ks pd) R' a' w') Q):Br P l fl Q m pd R (env n J L) w j:=br R' _ ho hb hq hw hp h
theorem s1a (hf:fl.getD i 2=1) (ho:l[i]? = some ⟨some d,op,ty,pos,aft,gd⟩) (hw:Wt l n J L gd) (h:(execOp (ev n J L) ⟨some d,op,ty,pos,aft,none⟩).run P w = .ok (.value v) w)
    (k:K6 P l fl Q ((i,v)::pd) is (env n J ((d,v)::L)) w):K6 P l fl Q pd (i::is) (env n J L) w:=s1 ho hw h hf k
theorem t0a {m kk:Nat} (hk:kk=m+1) (hf:fl.getD i 2=0) (ho:l[i]? = some ⟨some d,op,ty,pos,aft,gd⟩) (hw:Wt l n J L gd) (h : ∀ w,(execOp (ev n J L) ⟨some d,op,ty,pos,aft,none⟩).run P w = .ok (.value v) w)
    (k:B3 P l fl Q m pd is (env n J ((d,v)::L)) w):B3 P l fl Q kk pd (i::is) (env n J L) w:=by subst hk; exact t0 ho hw h hf k
theorem t1a {m kk:Nat} (hk:kk=m+1) (hf:fl.getD i 2=1) (ho:l[i]? = some ⟨some d,op,ty,pos,aft,gd⟩) (hw:Wt l n J L gd) (h:(execOp (ev n J L) ⟨some d,op,ty,pos,aft,none⟩).run P w = .ok (.value v) w)
    (k:B3 P l fl Q m ((i,v)::pd) is (env n J ((d,v)::L)) w):B3 P l fl Q kk pd (i::is) (env n J L) w:=by subst hk; exact t1 ho hw h hf k
theorem tUa {m kk:Nat} (hk:kk=m+1) (ho:l[i]? = some ⟨some d,op,ty,pos,aft,gd⟩) (hw:Wf l n J L gd) (hq:Q4n l fl (C1 l) is=true) (k:B3 P l fl Q m pd is (env n J ((d,undef)::L)) w):B3 P l fl Q kk pd (i::is) (env n J L) w:=by subst hk; exact tU ho hw hq k
theorem sUa (ho:l[i]? = some ⟨some d,op,ty,pos,aft,gd⟩) (hw:Wf l n J L gd) (k:K6 P l fl Q pd is (env n J ((d,undef)::L)) w):K6 P l fl Q pd (i::is) (env n J L) w:=sU ho hw k
end
def eBk (v:Value):Nat:=match v with
  | .slice (some a) _ _=>a.block
  | _=>0
def eOf (v:Value) (i:Int) (sz:Nat):Nat:=match v with
  | .slice (some a) _ _=>a.off+i.toNat * sz
  | _=>0
section
variable {α : Type} {r:Rp α} {T:Nat→Prop} {w:World} {v:Value} {l:List α} {i:Int} {u : α} {sz j:Nat} {cs:List Value} {c:Value}
theorem SlV.ixc (h:SlV r T w v l) (hi:idx l i=some u) (hz:r.sz=sz) :
    ∃ cs k cap,v = .slice (some ⟨eBk v,k,none⟩) l.length cap∧0≤i∧i < l.length∧eOf v i sz=k+i.toNat * sz∧r.rp T w cs u∧cellsAt w (eBk v) (eOf v i sz) cs:=by
  obtain⟨b,off,cs,k,cap,rfl,h0,h1,rfl,hr,hc⟩:=h.ixq hi hz
  exact⟨cs,k,cap,rfl,h0,h1,rfl,hr,hc⟩
theorem elS (h:SlV r T w v l) (hi:idx l i=some u) (hz:r.sz=sz) (ho : ∀ c0,r.rp T w c0 u→c0=cs):cellsAt w (eBk v) (eOf v i sz) cs:=by
  obtain⟨c0,k,cap,_,_,_,_,hr,hc⟩:=h.ixc hi hz
  rw [ho c0 hr] at hc
  exact hc
theorem elG (h:SlV r T w v l) (hi:idx l i=some u) (hz:r.sz=sz) (ho : ∀ c0,r.rp T w c0 u→c0=cs) (hj:cs[j]? = some c):w.cell? ⟨eBk v,eOf v i sz+j,none⟩=some c:=(elS h hi hz ho).get hj
theorem elG0 (h:SlV r T w v l) (hi:idx l i=some u) (hz:r.sz=sz) (ho : ∀ c0,r.rp T w c0 u→c0=cs) (hj:cs[0]? = some c):w.cell? ⟨eBk v,eOf v i sz,none⟩=some c:=(elS h hi hz ho).get0 hj
theorem Q7t {l:List α} (h:SlV r T w v l:=by first | exact(Sep.own (by assumption) atS).v | exact SlR.v (by assumption) | exact SlR.v (Z4u (by assumption) ch)):SlV r T w v l:=h
end
section
variable {P:Program} {n:NF} {J:Nat→Value} {L:List (Nat×Value)} {w:World} {d:Nat} {ty t:TypeId} {pos:String} {aft:Array Edge} {x y:Operand}
theorem r_ixc {α : Type} {r:Rp α} {T:Nat→Prop} {w1:World} {a:Option Addr} {m c sz:Nat} {l:List α} {i:Int} {ik:IntKind} {u : α} {e:TypeId} (hx:ev n J L x = .slice a m c) (hy:ev n J L y = .int ik i) (ht:P.underlying t=some (.slice e)) (hs : ∀ w,(sizeOf e).run P w = .ok sz w)
    (h:SlV r T w1 (.slice a m c) l) (hz:r.sz=sz) (hi:idx l i=some u) :
    (execOp (ev n J L) ⟨some d,.indexAddr t x y,ty,pos,aft,none⟩).run P w = .ok (.value (.pointer (some ⟨eBk (.slice a m c),eOf (.slice a m c) i sz,none⟩))) w:=by
  obtain⟨_,k,cap,hv,h0,h1,ho,_⟩:=h.ixc hi hz
  exact r_ixe (hx.trans hv) hy ht hs h0 h1 ho
theorem r_lnW {α : Type} {r:Rp α} {l:List α} {e:TypeId} {T:Nat→Prop} {w1:World} {a:Option Addr} {m c:Nat} (hx:ev n J L x = .slice a m c) (ht:P.underlying t=some (.slice e)) (h:SlV r T w1 (.slice a m c) l) :
    (execOp (ev n J L) ⟨some d,.call ⟨.builtin .len,#[x],#[t]⟩,ty,pos,aft,none⟩).run P w = .ok (.value (.int .i64 (l.length:Int))) w:=r_lnV hx h ht
theorem r_faP {b o k sz:Nat} {f:Nat} {fs:Array Field} {fd:Field} (hx:ev n J L x = .pointer (some ⟨b,o+k,none⟩)) (ht:P.underlying t=some (.struct fs)) (hf:fs[f]? = some fd) (hs : ∀ w,(sizeOf fd.type).run P w = .ok sz w) (hz:(sz == 0)=false) :
    (execOp (ev n J L) ⟨some d,.fieldAddr t x f,ty,pos,aft,none⟩).run P w = .ok (.value (.pointer (some ⟨b,o+(k+fd.offset),none⟩))) w:=by
  rw [← Nat.add_assoc]
  exact I8 hx ht hf hs hz
theorem r_ixf {b off k len cap sz:Nat} {ik:IntKind} {i:Int} {e:TypeId} (ho:off=k+i.toNat * sz) (hy:ev n J L y = .int ik i) (ht:P.underlying t=some (.slice e)) (hs : ∀ w,(sizeOf e).run P w = .ok sz w) (hx:ev n J L x = .slice (some ⟨b,k,none⟩) len cap) (h0:0≤i) (h1:i < len) :
    (execOp (ev n J L) ⟨some d,.indexAddr t x y,ty,pos,aft,none⟩).run P w = .ok (.value (.pointer (some ⟨b,off,none⟩))) w:=r_ixe hx hy ht hs h0 h1 ho
theorem r_ldE {b off sz:Nat} {cs:List Value} (hx:ev n J L x = .pointer (some ⟨b,off,none⟩)) (ht : ∀ w,(isAgg t).run P w = .ok true w) (hs : ∀ w,(sizeOf t).run P w = .ok sz w) (hc:cellsAt w b off cs) (hl:cs.length=sz) :
    (execOp (ev n J L) ⟨some d,.load t x,ty,pos,aft,none⟩).run P w = .ok (.value (.agg cs.toArray)) w:=r_ldS hx ht hs hl hc
theorem r_ldP {g:World} {T:Nat→Prop} {G:List Z4} {q b off sz:Nat} {cells cs:List Value} (hx:ev n J L x = .pointer (some ⟨b,off,none⟩)) (ht : ∀ w,(isAgg t).run P w = .ok true w) (hs : ∀ w,(sizeOf t).run P w = .ok sz w) {w1:World} (hS:Sep g T w1 G) (hi:AtR G q (Y2 b cells)) (he:(cells.drop off).take sz=cs) (hl:cs.length=sz) :
    (execOp (ev n J L) ⟨some d,.load t x,ty,pos,aft,none⟩).run P w1 = .ok (.value (.agg cs.toArray)) w1:=by
  refine r_ldS hx ht hs hl (hS.cells0 (o:=off) hi (by rw [hl]; exact he))
theorem stOc {KK:Act→World→Prop} {Q:Exit→Act→World→Prop} {g:World} {T:Nat→Prop} {G:List Z4} {q:Nat} {α : Type} {r:Rp α} {e:TypeId} {l:List α} {u u' : α} {i:Int} {a:Option Addr} {m c j sz:Nat} {v:Value} {cs:List Value} (hS:Sep g T w G) (hi:AtR G q (Z0 r e (.slice a m c) l)) (hu:idx l i=some u)
    (hx:ev n J L x = .pointer (some ⟨eBk (.slice a m c),eOf (.slice a m c) i r.sz+j,none⟩)) (hy:ev n J L y=v) (hv:v.cells.toList=cs) (hs : ∀ w,(sizeOf t).run P w = .ok sz w) (hl:cs.length=sz) (h1:cs.all Value.oneCell' = true)
    (hfit:Nat.ble (j+cs.length) r.sz=true) (hup : ∀ c0,r.rp T w c0 u→r.rp T w (X9 c0 j cs) u')
    (k : ∀ w',Im T w T w' → Sep g T w' (C6 G q (Z0 r e (.slice a m c) (l.set i.toNat u')))→KK (env n J L) w') :
    Oper.wp P ⟨none,.store t x y,ty,pos,aft,none⟩ (env n J L) w KK Q:=by
  obtain⟨_,k0,cap,hsv,_,_,ho,_⟩:=(hS.own hi).v.ixc hu rfl
  exact stO hS hi hsv (L4 hu).2.2 ho hx hy hv hs hl h1 hfit hup k
end
section
variable {P:Program} {ops:Array Oper} {Q:Exit→Act→World→Prop} {rest:List Oper} {n:NF} {J:Nat→Value} {L:List (Nat×Value)} {w:World}
  {d:Nat} {ty:TypeId} {pos:String} {aft:Array Edge} {T:Nat→Prop} {f:FuncId} {fo:Operand} {ca:Array Value} {args:List Value} {xs:Array Operand} {tys:Array TypeId} {R:(Nat→Prop)→World→Value→Prop}
theorem wcS (hok:Q7 P f) (hc:Calls P f args.toArray w (Y4 T w R)) (k : ∀ v T' w',Im T w T' w' → R T' w' v→wpList P ops Q rest (env n J ((d,v)::L)) w')
    (hf:ev n J L fo = .func (.func f) #[] ca:=by exact rfl) (ha:xs.toList.map (ev n J L)++ca.toList=args:=by exact rfl) :
    wpList P ops Q (⟨some d,.call ⟨.value fo,xs,tys⟩,ty,pos,aft,none⟩::rest) (env n J L) w:=wl rfl (calS hok hf hc ha k)
theorem wcN (hok:Q7 P f) (hc:Calls P f args.toArray w (Y4 T w R)) (k : ∀ v T' w',Im T w T' w' → R T' w' v→wpList P ops Q rest (env n J L) w')
    (hf:ev n J L fo = .func (.func f) #[] ca:=by exact rfl) (ha:xs.toList.map (ev n J L)++ca.toList=args:=by exact rfl) :
    wpList P ops Q (⟨none,.call ⟨.value fo,xs,tys⟩,ty,pos,aft,none⟩::rest) (env n J L) w:=wl rfl (calN hok hf hc ha k)
structure Kq (q:Nat):Prop where
  out:True
structure Kv (l:List Value):Prop where
  out:True
section
variable {G:List Z4} {g:World} {q b j sz o:Nat} {cur cs zs:List Value} {x y:Operand} {t:TypeId} {v z:Value} {H:List Value→Z4}
theorem wst (_:Kq q) (hS:Sep g T w G) (hs : ∀ w,(sizeOf t).run P w = .ok sz w) (k : ∀ w',Im T w T w' → Sep g T w' (C6 G q (Y2 b (X9 cur j cs)))→wpList P ops Q rest (env n J L) w')
    (hi:AtR G q (Y2 b cur):=by exact⟨rfl,rfl⟩) (hx:ev n J L x = .pointer (some ⟨b,j,none⟩):=by exact rfl) (hy:ev n J L y=v:=by exact rfl) (hv:v.cells.toList=cs:=by exact rfl) (hl:cs.length=sz:=by exact rfl) (h1:cs.all Value.oneCell' = true:=by exact rfl) (hfit:Nat.ble (j+cs.length) cur.length=true:=by exact rfl) :
    wpList P ops Q (⟨none,.store t x y,ty,pos,aft,none⟩::rest) (env n J L) w:=wl rfl (st0B hS hi hx hy hv hs hl h1 hfit k)
theorem wsb (_:Kq q) (_:Kq j) (hL:Ln b o H) (hS:Sep g T w G) (hs : ∀ w,(sizeOf t).run P w = .ok sz w) (k : ∀ w',Im T w T w' → Sep g T w' (C6 G q (H (X9 cur j cs)))→wpList P ops Q rest (env n J L) w')
    (hi:AtR G q (H cur):=by exact⟨rfl,rfl⟩) (hx:ev n J L x = .pointer (some ⟨b,o+j,none⟩):=by exact rfl) (hy:ev n J L y=v:=by exact rfl) (hv:v.cells.toList=cs:=by exact rfl) (hl:cs.length=sz:=by exact rfl) (h1:cs.all Value.oneCell' = true:=by exact rfl) (hfit:Nat.ble (j+cs.length) cur.length=true:=by exact rfl) :
    wpList P ops Q (⟨none,.store t x y,ty,pos,aft,none⟩::rest) (env n J L) w:=wl rfl (stB hS hi hL hx hy hv hs hl h1 hfit k)
theorem wal (_:Kv zs) (hS:Sep g T w G) (hz : ∀ w,(zeroValue t).run P w = .ok z w) (k : ∀ w' b,Im T w T w' → Sep g T w' (Y2 b zs::G)→wpList P ops Q rest (env n J ((d,.pointer (some ⟨b,0,none⟩))::L)) w')
    (hc:z.cells.toList=zs:=by exact rfl):wpList P ops Q (⟨some d,.alloc t,ty,pos,aft,none⟩::rest) (env n J L) w:=wl rfl (alS hz hc hS k)
theorem wbs {α : Type} {r:Rp α} {l:List α} {css:List (List Value)} {e:TypeId} {len:Nat} {parts:Array (Nat×Operand)} {cells:Array Value} (hS:Sep g T w G) (ha:Q7p r T w css l) (ht:P.underlying t=some (.slice e)) (hs : ∀ w,(sizeOf e).run P w = .ok sz w) (hz : ∀ w,(zeroValue e).run P w = .ok z w)
    (k : ∀ w' a m c,Im T w T w' → Sep g T w' (Z0 r e (.slice a m c) l::G)→wpList P ops Q rest (env n J ((d,.slice a m c)::L)) w')
    (hc:css.flatten.toArray=cells:=by exact rfl) (hl:l.length=len:=by exact rfl) (hle:Nat.ble (len * sz) 16777216=true:=by exact rfl) (h0:Nat.ble 1 (len * sz)=true:=by exact rfl)
    (hf:Instr.fill (fun i=>some (i * sz,sz)) ((Array.range (len * sz)).map (z.cells[· % z.cells.size]!)) (parts.toList.map fun p=>(p.1,ev n J L p.2))=some cells:=by kernel_rfl) (hr:r.sz=sz:=by exact rfl) :
    wpList P ops Q (⟨some d,.buildSlice t len parts,ty,pos,aft,none⟩::rest) (env n J L) w:=wl rfl (bsS hS ht hs hz hle h0 hf (by subst hc; rfl) ha hl hr k)
theorem wao {α : Type} {r:Rp α} {e:TypeId} {l us:List α} {m' : Nat} {a0 a1:Option Addr} {m0 c0 m1 c1:Nat} (_:Kq q) (hS:Sep g T w G) (h2:SlV r T w (.slice a1 m1 c1) us) (ht:P.underlying t=some (.slice e)) (he:A7 P e r.sz) (hroom:m' ≤ 8589934592)
    (k : ∀ w' a m c,Im T w T w' → Sep g T w' (C6 G q (Z0 r e (.slice a m c) (l++us)))→wpList P ops Q rest (env n J ((d,.slice a m c)::L)) w')
    (hx:ev n J L x = .slice a0 m0 c0:=by exact rfl) (hy:ev n J L y = .slice a1 m1 c1:=by exact rfl) (hi:AtR G q (Z0 r e (.slice a0 m0 c0) l):=by exact⟨rfl,rfl⟩) (hm:l.length+us.length=m' := by exact rfl) :
    wpList P ops Q (⟨some d,.call ⟨.builtin .append,#[x,y],#[t,t]⟩,ty,pos,aft,none⟩::rest) (env n J L) w:=wl rfl (apO hS hi hx hy h2 ht he (by omega) k)
theorem wbx (_:Kv cs) (hS:Sep g T w G) (k : ∀ w' b,Im T w T w' → Sep g T w' (Y2 b cs::G)→wpList P ops Q rest (env n J ((d,.pointer (some ⟨b,0,none⟩))::L)) w')
    (hx:ev n J L x=v:=by exact rfl) (hc:v.cells.toList=cs:=by exact rfl):wpList P ops Q (⟨some d,.box t x,ty,pos,aft,none⟩::rest) (env n J L) w:=wl rfl (bxS hx hc hS k)
end
section
variable {KK:Act→World→Prop} {G:List Z4} {g:World} {q b j sz o:Nat} {cur cs zs:List Value} {x y:Operand} {t:TypeId} {v z:Value} {H:List Value→Z4}
theorem ost (_:Kq q) (hS:Sep g T w G) (hs : ∀ w,(sizeOf t).run P w = .ok sz w) (k : ∀ w',Im T w T w' → Sep g T w' (C6 G q (Y2 b (X9 cur j cs)))→KK (env n J L) w')
    (hi:AtR G q (Y2 b cur):=by exact⟨rfl,rfl⟩) (hx:ev n J L x = .pointer (some ⟨b,j,none⟩):=by exact rfl) (hy:ev n J L y=v:=by exact rfl) (hv:v.cells.toList=cs:=by exact rfl) (hl:cs.length=sz:=by exact rfl) (h1:cs.all Value.oneCell' = true:=by exact rfl) (hfit:Nat.ble (j+cs.length) cur.length=true:=by exact rfl) :
    Oper.wp P ⟨none,.store t x y,ty,pos,aft,none⟩ (env n J L) w KK Q:=st0B hS hi hx hy hv hs hl h1 hfit k
theorem osb (_:Kq q) (_:Kq j) (hL:Ln b o H) (hS:Sep g T w G) (hs : ∀ w,(sizeOf t).run P w = .ok sz w) (k : ∀ w',Im T w T w' → Sep g T w' (C6 G q (H (X9 cur j cs)))→KK (env n J L) w')
    (hi:AtR G q (H cur):=by exact⟨rfl,rfl⟩) (hx:ev n J L x = .pointer (some ⟨b,o+j,none⟩):=by exact rfl) (hy:ev n J L y=v:=by exact rfl) (hv:v.cells.toList=cs:=by exact rfl) (hl:cs.length=sz:=by exact rfl) (h1:cs.all Value.oneCell' = true:=by exact rfl) (hfit:Nat.ble (j+cs.length) cur.length=true:=by exact rfl) :
    Oper.wp P ⟨none,.store t x y,ty,pos,aft,none⟩ (env n J L) w KK Q:=stB hS hi hL hx hy hv hs hl h1 hfit k
theorem oal (_:Kv zs) (hS:Sep g T w G) (hz : ∀ w,(zeroValue t).run P w = .ok z w) (k : ∀ w' b,Im T w T w' → Sep g T w' (Y2 b zs::G)→KK (env n J ((d,.pointer (some ⟨b,0,none⟩))::L)) w')
    (hc:z.cells.toList=zs:=by exact rfl):Oper.wp P ⟨some d,.alloc t,ty,pos,aft,none⟩ (env n J L) w KK Q:=alS hz hc hS k
theorem obs {α : Type} {r:Rp α} {l:List α} {css:List (List Value)} {e:TypeId} {len:Nat} {parts:Array (Nat×Operand)} {cells:Array Value} (hS:Sep g T w G) (ha:Q7p r T w css l) (ht:P.underlying t=some (.slice e)) (hs : ∀ w,(sizeOf e).run P w = .ok sz w) (hz : ∀ w,(zeroValue e).run P w = .ok z w)
    (k : ∀ w' a m c,Im T w T w' → Sep g T w' (Z0 r e (.slice a m c) l::G)→KK (env n J ((d,.slice a m c)::L)) w')
    (hc:css.flatten.toArray=cells:=by exact rfl) (hl:l.length=len:=by exact rfl) (hle:Nat.ble (len * sz) 16777216=true:=by exact rfl) (h0:Nat.ble 1 (len * sz)=true:=by exact rfl)
    (hf:Instr.fill (fun i=>some (i * sz,sz)) ((Array.range (len * sz)).map (z.cells[· % z.cells.size]!)) (parts.toList.map fun p=>(p.1,ev n J L p.2))=some cells:=by kernel_rfl) (hr:r.sz=sz:=by exact rfl) :
    Oper.wp P ⟨some d,.buildSlice t len parts,ty,pos,aft,none⟩ (env n J L) w KK Q:=bsS hS ht hs hz hle h0 hf (by subst hc; rfl) ha hl hr k
theorem oao {α : Type} {r:Rp α} {e:TypeId} {l us:List α} {m' : Nat} {a0 a1:Option Addr} {m0 c0 m1 c1:Nat} (_:Kq q) (hS:Sep g T w G) (h2:SlV r T w (.slice a1 m1 c1) us) (ht:P.underlying t=some (.slice e)) (he:A7 P e r.sz) (hroom:m' ≤ 8589934592)
    (k : ∀ w' a m c,Im T w T w' → Sep g T w' (C6 G q (Z0 r e (.slice a m c) (l++us)))→KK (env n J ((d,.slice a m c)::L)) w')
    (hx:ev n J L x = .slice a0 m0 c0:=by exact rfl) (hy:ev n J L y = .slice a1 m1 c1:=by exact rfl) (hi:AtR G q (Z0 r e (.slice a0 m0 c0) l):=by exact⟨rfl,rfl⟩) (hm:l.length+us.length=m' := by exact rfl) :
    Oper.wp P ⟨some d,.call ⟨.builtin .append,#[x,y],#[t,t]⟩,ty,pos,aft,none⟩ (env n J L) w KK Q:=apO hS hi hx hy h2 ht he (by omega) k
theorem obx (_:Kv cs) (hS:Sep g T w G) (k : ∀ w' b,Im T w T w' → Sep g T w' (Y2 b cs::G)→KK (env n J ((d,.pointer (some ⟨b,0,none⟩))::L)) w')
    (hx:ev n J L x=v:=by exact rfl) (hc:v.cells.toList=cs:=by exact rfl):Oper.wp P ⟨some d,.box t x,ty,pos,aft,none⟩ (env n J L) w KK Q:=bxS hx hc hS k
end
theorem fkC {c:Bool} {full rest:List Oper} {o:Oper} (k:Nat) (M:List (Nat×Value)) (hr:full.drop k=o::rest) (h:(∀(J' : Nat→Value) (b:Bool),b=c→wpList P ops Q (o::rest) (env n J' ((d,.bool b)::M)) w)→wpList P ops Q full (env n J L) w) (hk : ∀ J' : Nat→Value,wpList P ops Q (o::rest) (env n J' ((d,.bool c)::M)) w):wpList P ops Q full (env n J L) w:=h fun J' b e=>by subst e; exact hk J'
theorem fkN {c:Bool} {full:List Oper} (k:Nat) (M:List (Nat×Value)) (hr:full.drop k = []) (h:(∀(J' : Nat→Value) (b:Bool),b=c→wpList P ops Q [] (env n J' ((d,.bool b)::M)) w)→wpList P ops Q full (env n J L) w) (hk : ∀ J' : Nat→Value,wpList P ops Q [] (env n J' ((d,.bool c)::M)) w):wpList P ops Q full (env n J L) w:=h fun J' b e=>by subst e; exact hk J'
theorem quiet_mono {C:World→Prop} {Qa Qb:Act→Prop} (hq : ∀ a,Qa a→Qb a) {l:List Oper} {a:Act} (h:wpQuiet P ops C Qa l a):wpQuiet P ops C Qb l a :=
  qcut Qa l.length (by rw [List.take_length]; exact h) fun a ha=>by rw [List.drop_length]; exact wpQuiet_nil (hq a ha)
theorem wcB {α A:Type} {m:Option α} {kk : α → Option A} {r:A} {Ro : α → (Nat→Prop)→World→Value→Prop} (hok:Q7 P f) (hm:m.bind kk=some r) (hc : ∀ y,m=some y→Calls P f args.toArray w (Y4 T w (Ro y)))
    (k : ∀ y v T' w',Im T w T' w' → Ro y T' w' v→kk y=some r→wpList P ops Q rest (env n J ((d,v)::L)) w')
    (hf:ev n J L fo = .func (.func f) #[] ca:=by exact rfl) (ha:xs.toList.map (ev n J L)++ca.toList=args:=by exact rfl) :
    wpList P ops Q (⟨some d,.call ⟨.value fo,xs,tys⟩,ty,pos,aft,none⟩::rest) (env n J L) w:=by
  obtain⟨y,hy,hm⟩:=Q4 hm
  exact wl rfl (calS hok hf (hc y hy) ha fun v T' w' i q=>k y v T' w' i q hm)
theorem wcBN {α A:Type} {m:Option α} {kk : α → Option A} {r:A} {Ro : α → (Nat→Prop)→World→Value→Prop} (hok:Q7 P f) (hm:m.bind kk=some r) (hc : ∀ y,m=some y→Calls P f args.toArray w (Y4 T w (Ro y)))
    (k : ∀ y v T' w',Im T w T' w' → Ro y T' w' v→kk y=some r→wpList P ops Q rest (env n J L) w')
    (hf:ev n J L fo = .func (.func f) #[] ca:=by exact rfl) (ha:xs.toList.map (ev n J L)++ca.toList=args:=by exact rfl) :
    wpList P ops Q (⟨none,.call ⟨.value fo,xs,tys⟩,ty,pos,aft,none⟩::rest) (env n J L) w:=by
  obtain⟨y,hy,hm⟩:=Q4 hm
  exact wl rfl (calN hok hf (hc y hy) ha fun v T' w' i q=>k y v T' w' i q hm)
theorem F0 {x y:Code} {a:Act} {κ O:Type} {f : κ → Option O} {k : κ} {r:O} (hm:jn f k=some r) (K : κ → Act→World→Prop) (h : ∀ kk,f kk=some r→x.wp P (Exit.then (K kk) Q) a w) (k2 : ∀ a w,K k a w→y.wp P Q a w) :
    (Code.seq x y).wp P Q a w:=cut (K k) (h k hm) k2
end
theorem rsm {g:World} {T T' : Nat→Prop} {w w' : World} {R:(Nat→Prop)→World→Value→Prop} {v:Value} {G:List Z4} (S:Sep g T' w' G) (i:Im T w T' w') (h:R T' w' v):Y4 T w R (.returned v) w' := ⟨v,rfl,T',i,h⟩
theorem bc {α : Type} {b:Bool} {X Y Z : α} (hm:(bif b then X else Y)=Z):(b=true∧X=Z) ∨ (b=false∧Y=Z):=by
  cases b
  · exact .inr ⟨rfl,hm⟩
  · exact .inl ⟨rfl,hm⟩
theorem lrE {S R:Type} {b bd:S→Option (Lp S R)} {n:Nat} {s:S} {o:Lp S R} (h:Y9 b n s=some o) (e:b=bd) : ∃ m z,n=m+1∧bd s=some z∧Nx b m z o:=by
  subst e
  exact Z9t h
theorem lpJ {P:Program} {Q:Exit→Act→World→Prop} {S R O:Type} {bd:S→Option (Lp S R)} {f:Lp S R→Option O} {x0:S} {r:O} {cd:Code} {i:Nat} {a:Act} {w:World} (hm:(Y9 bd NN x0).bind f=some r)
    (I:(S→Option (Lp S R))→Lp S R→Nat→Act→World→Prop) (h0 : ∀ b o,Y9 b NN x0=some o→I b o NN a w)
    (h1 : ∀ b,b=bd → ∀ o,f o=some r → ∀ m a w,I b o m a w→cd.wp P (Exit.then (fun a' w' => ∃ n',n' < m∧I b o n' a' w') (Exit.inBlock i Q)) a w):(Code.block i (Code.loop cd)).wp P Q a w:=by
  obtain⟨o,ho,hq⟩:=Q4 hm
  exact blk (wp_loop_ghost (I bd o) NN (h0 bd o ho) (h1 bd rfl o hq))
theorem Q3s {S R A:Type} {bd:S→Option (Lp S R)} {m:Nat} {x:S} {z o:Lp S R} {f:S→Option A} {k:R→Option A} {q:Option A} (hm:some (Lp.brk x)=some z) (hn:Nx bd m z o) (hq:o.thn f k=q):f x=q:=by
  cases oI hm
  have hn:o = .brk x:=hn
  subst hn
  exact hq
theorem retE {S R A:Type} {bd:S→Option (Lp S R)} {m:Nat} {x:R} {z o:Lp S R} {f:S→Option A} {k:R→Option A} {q:Option A} (hm:some (Lp.ret x)=some z) (hn:Nx bd m z o) (hq:o.thn f k=q):k x=q:=by
  cases oI hm
  have hn:o = .ret x:=hn
  subst hn
  exact hq
end Go.Proofs.YtecakklofhfphaaGreatDoor
