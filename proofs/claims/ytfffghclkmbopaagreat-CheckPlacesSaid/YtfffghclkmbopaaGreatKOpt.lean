/- A pointer that is nil or points to something of its own. It holds for every program. -/
import Derived.Test.YtfffghclkmbopaaGreatKNest
import Derived.Test.YtfffghclkmbopaaGreatKCut
set_option linter.unusedVariables false
namespace Go.Proofs.YtfffghclkmbopaaGreat

def Y1y {α : Type} (E:En α) (v:Value):O3 α → Y8
  | .nil=>pA (v = .pointer none) empA
  | .dead=>empA
  | .some x=>exA fun b:Nat=>exA fun cs:List Value=>pA (v = .pointer (some ⟨b,0,none⟩)) (Y5 [U5 b cs,E.A x cs])

section
variable {g:World} {T T' : Nat→Prop} {w w' : World} {G:List Y8} {q:Nat} {A B:Y8}
theorem Sep.exQ {ι : Type} {f : ι → Y8} (hS:Sep g T w G) (hi:AtR G q (exA f)) : ∃ a,Sep g T w (N9 G q (f a)):=by
  obtain⟨h1,h2,h3,h4,fs,h5,h6⟩:=hS;have hq:q < K6 G:=Nat.le_of_ble_eq_true hi.lt;have hP:=h5.1 q hq;rw [hi.at_] at hP;obtain⟨a,hP⟩:=hP;refine⟨a,h1,h2,h3,h4,fs,⟨fun i hil => ?_,fun i j k a b=>h5.2 i j k (by rwa [M3] at a) (by rwa [M3] at b)⟩,fun i k a=>h6 i k (by rwa [M3] at a)⟩;rw [M3] at hil;rw [Z0x G q i _ hq]
  by_cases hiq:i=q
  · rw [if_pos hiq,hiq]; exact hP
  · rw [if_neg hiq]; exact h5.1 i hil
theorem Sep.pQ {p:Prop} (hS:Sep g T w G) (hi:AtR G q (pA p A)):p∧Sep g T w (N9 G q A):=by
  obtain⟨F,hF,_⟩:=hS.getA hi;exact⟨hF.1,hS.imp q hi.lt fun F hF=>by rw [hi.at_] at hF; exact hF.2⟩
end

section
variable {g:World} {T T' : Nat→Prop} {w w' : World} {G:List Y8} {q:Nat} {α : Type} {E:En α} {v:Value} {o:O3 α} {x : α} {b:Nat} {cs:List Value}
theorem Sep.optE (hS:Sep g T w G) (hi:AtR G q (Y1y E v o)) (ho:o.get=some x) : ∃ b cs,v = .pointer (some ⟨b,0,none⟩)∧Sep g T w (E.A x cs::N9 G q (U5 b cs)):=by
  have ho:=O3.get_some ho;subst ho;obtain⟨b,h⟩:=hS.exQ (f:=fun b:Nat=>exA fun cs:List Value=>pA (v = .pointer (some ⟨b,0,none⟩)) (Y5 [U5 b cs,E.A x cs])) hi;obtain⟨cs,h⟩:=h.exQ hi.set;rw [Q5w] at h;obtain⟨hv,h⟩:=h.pQ hi.set;rw [Q5w] at h;have h:=h.spl hi.set;rw [Q5w] at h;exact⟨b,cs,hv,h⟩
theorem Sep.optE2 (hS:Sep g T w G) (hi:AtR G q (Y1y E (.pointer (some ⟨b,0,none⟩)) o)) (ho:o.get=some x) : ∃ cs,Sep g T w (E.A x cs::N9 G q (U5 b cs)):=by
  obtain⟨b',cs,hv,h⟩:=hS.optE hi ho;cases hv;exact⟨cs,h⟩
theorem Sep.optI (hS:Sep g T w (E.A x cs::G)) (hi:AtR G q (U5 b cs)):Sep g T w (N9 G q (Y1y E (.pointer (some ⟨b,0,none⟩)) (.some x))):=by
  have h:=hS.mrg hi
  have:=h.imp q (hi.set).lt (B:=Y1y E (.pointer (some ⟨b,0,none⟩)) (.some x)) fun F hF=>by
    rw [hi.set.at_] at hF;exact⟨b,cs,rfl,hF⟩
  rwa [Q5w] at this
theorem Sep.optI0 (hS:Sep g T w (E.A x cs::G)) (hi:AtR G q (U5 b cs)) (ho:o.get=some x):Sep g T w (N9 G q (Y1y E (.pointer (some ⟨b,0,none⟩)) o)):=by
  have ho:=O3.get_some ho;subst ho;exact hS.optI hi
theorem Sep.optN (E:En α) (h:Sep g T w G):Sep g T w (Y1y E (.pointer none) .nil::G) :=
  h.cons (M:=noB) (Inn.refl h.lt (Nat.le_refl _)) (fun k hk=>hk) (F:=fun _=>False) ⟨rfl,fun _ h=>h⟩ fun k hk=>hk.elim
theorem Sep.optD (E:En α) (v:Value) (h:Sep g T w G):Sep g T w (Y1y E v .dead::G) :=
  h.cons (M:=noB) (Inn.refl h.lt (Nat.le_refl _)) (fun k hk=>hk) (F:=fun _=>False) (fun _ h=>h) fun k hk=>hk.elim
theorem Sep.optV {t:Bool} (hS:Sep g T w G) (hi:AtR G q (Y1y E v o)) (ht:o.isNil=some t) : ∃ a:Option Addr,v = .pointer a∧a.isNone=t:=by
  cases o with
  | nil =>
    obtain⟨F,hF,_⟩:=hS.getA hi;cases ht;exact⟨none,hF.1,rfl⟩
  | dead=>cases ht
  | some x =>
    obtain⟨b,cs,hv,_⟩:=hS.optE hi rfl;cases ht;exact⟨_,hv,rfl⟩
/-- A slice of one element, with what it owns. -/
theorem Sep.nlit {e:TypeId} (hS:Sep g T w (E.A x cs::G)) (hi:AtR G q (K3 (Z0d E.sz) e v [cs])):Sep g T w (N9 G q (Z0p E e v [x])):=by
  have h:=Sep.imp (B:=Q8o E [x] [cs] none) hS 0 (by simp [K6]) fun F hF=>by
    refine⟨rfl,fun i k=>i=0∧F k,fun i y c _ hy hc => ?_,fun i j k a b=>a.1.trans b.1.symm,fun i k a=>⟨by simp,by rw [a.1]; exact Nat.zero_lt_one⟩,fun k=>⟨fun h=>⟨0,rfl,h⟩,fun⟨_,_,h⟩=>h⟩⟩;cases i with
    | zero =>
      cases hy; cases hc;have e:(fun k=>0=0∧F k)=F:=by funext k; simp
      show(E.A x cs).P T w (fun k=>0=0∧F k);rw [e]; exact hF
    | succ i=>simp at hy
  have h:Sep g T w (Q8o E [x] [cs] none::G):=h;exact h.nclose (q:=q) hi
end
section
variable {P:Program} {n:NF} {J:Nat→Value} {L:List (Nat×Value)} {w:World} {g:World} {T:Nat→Prop} {G:List Y8} {q d:Nat} {x y:Operand} {t ty t2:TypeId} {pos:String} {aft:Array Edge} {v:Value} {α : Type} {E:En α} {o:O3 α}
theorem r_opn {e:TypeId} {r:Bool} (hx:ev n J L x=v) (hy:ev n J L y = .pointer none) (hA : ∃ a:Option Addr,v = .pointer a∧a.isNone=r) (ht:P.underlying t=some (.pointer e)) :
    (execOp (ev n J L) ⟨some d,.binOp .neq t x y t2,ty,pos,aft,none⟩).run P w = .ok (.value (.bool (!r))) w:=by
  obtain⟨a,rfl,ha⟩:=hA;exact Y4m hx hy (by rw [ha]) ht
theorem r_ope {e:TypeId} {r:Bool} (hx:ev n J L x=v) (hy:ev n J L y = .pointer none) (hA : ∃ a:Option Addr,v = .pointer a∧a.isNone=r) (ht:P.underlying t=some (.pointer e)) :
    (execOp (ev n J L) ⟨some d,.binOp .eql t x y t2,ty,pos,aft,none⟩).run P w = .ok (.value (.bool r)) w:=by
  obtain⟨a,rfl,ha⟩:=hA;exact r_pne hx hy ha ht
variable {l u:List α} {e:TypeId}
/-- The first elements of a slice of owners. -/
theorem r_slN {ad:Option Addr} {k cap sz:Nat} {lo hi:Option Operand} {b:Int}
    (hx:ev n J L x = .slice ad k cap) (hS:Sep g T w G) (hi' : AtR G q (Z0p E e (.slice ad k cap) l)) (hlo:oev n J L lo 0 0) (hhi:oev n J L hi l.length b) (hs:sub l 0 b=some u)
    (ht:P.underlying t=some (.slice e)) (hz : ∀ w,(sizeOf e).run P w = .ok sz w) (hr:E.sz=sz)
    (he:Value.slice (if cap=(0:Int).toNat then ad else ad.map (·.add ((0:Int).toNat * E.sz))) (b.toNat - (0:Int).toNat) (cap - (0:Int).toNat)=v) {w1:World} :
    (execOp (ev n J L) ⟨some d,.slice t x lo hi none,ty,pos,aft,none⟩).run P w1 = .ok (.value v) w1:=by
  obtain⟨css,hlen,h⟩:=hS.nslv hi';obtain⟨h0,h1,h2,_⟩:=Z0h hs
  have hs2:sub css 0 b=some (css.take b.toNat):=by
    unfold sub;rw [if_pos ⟨h0,h1,by rw [hlen]; exact h2⟩]; rfl
  exact r_slV hx h hlo (by rw [hlen]; exact hhi) hs2 ht hz hr he
end
end Go.Proofs.YtfffghclkmbopaaGreat
