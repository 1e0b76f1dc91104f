/- A slice of this function's own is cut, or its tail cleared. It holds for every program. -/
import Derived.Test.YtfffghclkmbopaaGreatKFoc
set_option linter.unusedVariables false
namespace Go.Proofs.YtfffghclkmbopaaGreat

theorem SlV.nilOr {α : Type} {r:Rp α} {T:Nat→Prop} {w:World} {l:List α} {a:Option Addr} {c:Nat} (h:SlV r T w (.slice a l.length c) l):(a=none∧l = []) ∨ a.isNone=false:=by
  obtain⟨a',cap,hv,h5,h6,h7⟩:=h;cases hv
  rcases h7 with rfl | ⟨b,off,rfl,_⟩
  · cases a with
    | none=>exact .inl ⟨rfl,rfl⟩
    | some a=>exact .inr rfl
  · exact .inr rfl
theorem Y5c {sz:Nat} : ∀ css:List (List Value),(∀ c ∈ css,c.length=sz)→css.flatten.length=css.length * sz
  | [],_=>by simp
  | c::css,h=>by
    rw [List.flatten_cons,List.length_append,Y5c css (fun x hx=>h x (by simp [hx])),h c (by simp),List.length_cons,Nat.succ_mul]
    omega
theorem X2j {sz:Nat} {css:List (List Value)} (h : ∀ c ∈ css,c.length=sz) {i:Nat} (hi:i≤css.length):css.flatten.take (i * sz)=(css.take i).flatten:=by
  have e:css.flatten=(css.take i).flatten++(css.drop i).flatten:=by rw [← List.flatten_append,List.take_append_drop]
  have hl:(css.take i).flatten.length=i * sz:=by
    rw [Y5c _ (fun c hc=>h c (List.mem_of_mem_take hc)),List.length_take,Nat.min_eq_left hi]
  rw [e,← hl];exact List.take_left
section
variable {P:Program} {n:NF} {J:Nat→Value} {L:List (Nat×Value)} {w:World} {KK:Act→World→Prop} {Q:Exit→Act→World→Prop} {g:World} {T:Nat→Prop} {G:List Y8} {q d:Nat} {x:Operand} {t ty:TypeId} {pos:String} {aft:Array Edge} {v:Value}
theorem r_slV {α : Type} {r:Rp α} {ad:Option Addr} {l u:List α} {k cap sz:Nat} {e:TypeId} {lo hi:Option Operand} {a b:Int} {T1:Nat→Prop} {w1:World}
    (hx:ev n J L x = .slice ad k cap) (h:SlV r T1 w1 (.slice ad k cap) l) (hlo:oev n J L lo 0 a) (hhi:oev n J L hi l.length b) (hs:sub l a b=some u)
    (ht:P.underlying t=some (.slice e)) (hz : ∀ w,(sizeOf e).run P w = .ok sz w) (hr:r.sz=sz)
    (he:Value.slice (if cap=a.toNat then ad else ad.map (·.add (a.toNat * r.sz))) (b.toNat - a.toNat) (cap - a.toNat)=v) :
    (execOp (ev n J L) ⟨some d,.slice t x lo hi none,ty,pos,aft,none⟩).run P w = .ok (.value v) w:=by
  subst hr;obtain⟨h0,h1,h2,_⟩:=Z0h hs
  obtain⟨hc,rfl⟩:l.length≤cap∧k=l.length:=by
    obtain⟨_,_,hv,h5,_⟩:=h;cases hv;exact⟨h5,rfl⟩
  have hr:=r_sl (w:=w) (P:=P) (d:=d) (ty:=ty) (pos:=pos) (aft:=aft) hx hlo hhi h0 h1 h2 hc ht hz;rw [he] at hr;exact hr
theorem Sep.cutA {α : Type} {r:Rp α} {e:TypeId} {ad:Option Addr} {k cap:Nat} {l u:List α} {b:Int} (hS:Sep g T w G) (hi:AtR G q (K3 r e (.slice ad k cap) l)) (hs:sub l 0 b=some u) :
    ∃ a' n' c',Value.slice (if cap=(0:Int).toNat then ad else ad.map (·.add ((0:Int).toNat * r.sz))) (b.toNat - (0:Int).toNat) (cap - (0:Int).toNat) = .slice a' n' c' ∧ Sep g T w (N9 G q (K3 r e (.slice a' n' c') u)):=by
  obtain⟨h0,h1,h2,rfl⟩:=Z0h hs;have hlen:((l.take b.toNat).drop (0:Int).toNat).length=b.toNat:=by simp; omega
  have hu:(l.take b.toNat).drop (0:Int).toNat=l.take b.toNat:=rfl
  have hea:(if cap=(0:Int).toNat then ad else ad.map (·.add ((0:Int).toNat * r.sz)))=ad:=by
    split
    · rfl
    · cases ad with
      | none=>rfl
      | some a=>simp [Addr.add]
  refine⟨ad,((l.take b.toNat).drop (0:Int).toNat).length,cap,by rw [hea,hlen]; rfl,hS.imp q hi.lt fun F hF => ?_⟩;rw [hi.at_] at hF;obtain⟨⟨css,c1,c2,c3⟩,hF⟩:=hF;have hsz:=OwS.sizes c1 c3;rw [hlen,hu];refine⟨⟨css.take b.toNat,by rw [List.length_take,List.length_take,c1],⟨?_,?_⟩,fun i cs x hc hx => ?_⟩,fun k=>(hF k).trans (by cases ad <;> rfl)⟩
  · rw [Y5c _ (fun c hc=>hsz c (List.mem_of_mem_take hc)),List.length_take,List.length_take,c1]
  · rcases c2.2 with ⟨hv,hn⟩ | ⟨g',cap',cur,hv,hb,hgg,hnc,hmx,hcur,htake⟩
    · cases hv;have:b.toNat=0:=by omega
      rw [this];exact .inl ⟨rfl,by simp⟩
    · cases hv;have hbl:b.toNat≤l.length:=by omega
      refine .inr ⟨g',cap,cur,?_,hb,hgg,by rw [List.length_take]; omega,hmx,hcur,?_⟩
      · rw [List.length_take,Nat.min_eq_left hbl]
      · rw [List.length_take,Nat.min_eq_left hbl,← X2j hsz (by omega),← htake,List.take_take,Nat.min_eq_left (Nat.mul_le_mul_right _ hbl)]
  · rw [List.getElem?_take] at hc hx
    split at hc
    · rename_i h
      rw [if_pos h] at hx;exact c3 i cs x hc hx
    · cases hc
end
end Go.Proofs.YtfffghclkmbopaaGreat
