/- Data that hold data of their own kind: what cells hold of them, as a union over depths. It holds for every program. -/
import Derived.Test.YtfffghclkmbopaaGreatKRow
set_option linter.unusedVariables false
namespace Go.Proofs.YtfffghclkmbopaaGreat

structure Z7x {α β : Type} (F:Rp α → Rp β):Prop where
  sz : ∀ r r',r.sz=r'.sz→(F r).sz=(F r').sz
  mono : ∀ {r r' : Rp α} {T w},r.sz=r'.sz→(∀ cs x,r.rp T w cs x→r'.rp T w cs x) → ∀ {cs x},(F r).rp T w cs x→(F r').rp T w cs x
  cont : ∀ {D:Nat→Rp α} {U:Rp α} {T w},(∀ d,(D d).sz=U.sz)→(∀ d cs x,(D d).rp T w cs x→(D (d+1)).rp T w cs x)→(∀ cs x,U.rp T w cs x → ∃ d,(D d).rp T w cs x) → ∀ {cs x},(F U).rp T w cs x → ∃ d,(F (D d)).rp T w cs x
theorem step_le {α : Type} {D:Nat→Rp α} {T:Nat→Prop} {w:World} (h : ∀ d cs x,(D d).rp T w cs x→(D (d+1)).rp T w cs x) {d d' : Nat} (hd:d≤d') {cs:List Value} {x : α} (hx:(D d).rp T w cs x):(D d').rp T w cs x:=by
  induction hd with
  | refl=>exact hx
  | step _ ih=>exact h _ _ _ ih
theorem gId {α : Type} : Z7x (fun r:Rp α => r):=⟨fun _ _ h=>h,fun _ h _ _ hx=>h _ _ hx,fun _ _ h _ _ hx=>h _ _ hx⟩
theorem gK {α β : Type} (c:Rp β):Z7x (fun _:Rp α => c):=⟨fun _ _ _=>rfl,fun _ _ _ _ hx=>hx,fun _ _ _ _ _ hx=>⟨0,hx⟩⟩
theorem Q1x {α β γ : Type} {F:Rp α → Rp β} {G:Rp α → Rp γ} (hF:Z7x F) (hG:Z7x G):Z7x (fun r=>F1 (F r) (G r)):=by
  refine⟨fun r r' h => ?_,fun h1 h2 cs x hx => ?_,fun h1 h2 h3 cs x hx => ?_⟩
  · show(F r).sz+(G r).sz=(F r').sz+(G r').sz;rw [hF.sz r r' h,hG.sz r r' h]
  · obtain⟨c,d,e,a,b⟩:=hx;exact⟨c,d,e,hF.mono h1 h2 a,hG.mono h1 h2 b⟩
  · rename_i D U T w
    obtain⟨c,d,e,a,b⟩:=hx;obtain⟨m,hm⟩:=hF.cont h1 h2 h3 a;obtain⟨k,hk⟩:=hG.cont h1 h2 h3 b;have up : ∀ {p q:Nat},p≤q → ∀ cs x,(D p).rp T w cs x→(D q).rp T w cs x:=fun hpq cs x=>step_le h2 hpq;exact⟨max m k,c,d,e,hF.mono ((h1 _).trans (h1 _).symm) (up (Nat.le_max_left m k)) hm,hG.mono ((h1 _).trans (h1 _).symm) (up (Nat.le_max_right m k)) hk⟩
theorem gIso {α β γ : Type} {F:Rp α → Rp β} (f : γ → β) (hF:Z7x F):Z7x (fun r=>(F r).iso f) :=
  ⟨fun r r' h=>hF.sz r r' h,fun h1 h2 _ _ hx=>hF.mono h1 h2 hx,fun h1 h2 h3 _ _ hx=>hF.cont h1 h2 h3 hx⟩
theorem SlR.imp {α : Type} {r r' : Rp α} {T:Nat→Prop} {w:World} {v:Value} {l:List α} (hs:r.sz=r'.sz) (h : ∀(i:Nat) (x : α) (cs:List Value),l[i]? = some x→r.rp T w cs x→r'.rp T w cs x) (hl:SlR r T w v l):SlR r' T w v l:=by
  obtain⟨a,cap,e,h1,h2,h3⟩:=hl;refine⟨a,cap,e,h1,h2,?_⟩
  rcases h3 with h3 | ⟨b,off,ha,hT,hx⟩
  · exact .inl h3
  · exact .inr ⟨b,off,ha,hT,fun i x hi=>let ⟨cs,k1,k2⟩:=hx i x hi; ⟨cs,h i x cs hi k1,hs ▸ k2⟩⟩
theorem Y2k {p:Nat→Nat→Prop} (hp : ∀ i d,p i d→p i (d+1)) : ∀ n,(∀ i,i < n → ∃ d,p i d) → ∃ d,∀ i,i < n→p i d
  | 0,_=>⟨0,fun i h=>by omega⟩
  | n+1,h=>by
    obtain⟨d,hd⟩:=Y2k hp n fun i hi=>h i (by omega)
    obtain⟨e,he⟩:=h n (by omega)
    have up : ∀ i a b,a≤b→p i a→p i b:=fun i a b hab ha=>by
      induction hab with
      | refl=>exact ha
      | step _ ih=>exact hp _ _ ih
    refine⟨max d e,fun i hi => ?_⟩
    by_cases hin:i=n
    · subst hin; exact up _ _ _ (Nat.le_max_right d e) he
    · exact up _ _ _ (Nat.le_max_left d e) (hd i (by omega))
theorem gSl {α β : Type} {F:Rp α → Rp β} (hF:Z7x F):Z7x (fun r=>rSl (F r)):=by
  refine⟨fun r r' h=>rfl,fun h1 h2 cs x hx => ?_,fun h1 h2 h3 cs l hx => ?_⟩
  · obtain⟨v,e,hs⟩:=hx;exact⟨v,e,SlR.imp (hF.sz _ _ h1) (fun _ _ _ _ hh=>hF.mono h1 h2 hh) hs⟩
  · rename_i D U T w
    obtain⟨v,e,a,cap,e2,k1,k2,k3⟩:=hx
    rcases k3 with rfl | ⟨b,off,ha,hT,hx⟩
    · exact⟨0,v,e,a,cap,e2,k1,k2,.inl rfl⟩
    · have hstep : ∀ d cs x,(F (D d)).rp T w cs x→(F (D (d+1))).rp T w cs x:=fun d cs x hh=>hF.mono ((h1 _).trans (h1 _).symm) (h2 d) hh
      have hb:=Y2k (p:=fun i d => ∀ x,l[i]? = some x → ∃ cs,(F (D d)).rp T w cs x∧cellsAt w b (off+i * (F U).sz) cs)
        (fun i d hd x hx=>let ⟨cs,q1,q2⟩:=hd x hx; ⟨cs,hstep _ _ _ q1,q2⟩) l.length (fun i hi=>by
          obtain⟨cs,q1,q2⟩:=hx i l[i] (List.getElem?_eq_getElem hi);obtain⟨d,hd⟩:=hF.cont h1 h2 h3 q1;refine⟨d,fun x hx => ?_⟩;rw [List.getElem?_eq_getElem hi] at hx;cases hx;exact⟨cs,hd,q2⟩)
      obtain⟨d,hd⟩:=hb;refine⟨d,v,e,a,cap,e2,k1,k2,.inr ⟨b,off,ha,hT,fun i x hi => ?_⟩⟩;rw [hF.sz (D d) U (h1 d)];exact hd i (List.getElem?_eq_some_iff.1 hi).1 x hi

def rNo {α : Type} (k:Nat) (ag:Bool):Rp α := ⟨k,ag,fun _ _ _ _=>False,fun h=>h.elim,fun h=>h.elim,fun _ h=>h.elim⟩
def rD {α : Type} (F:Rp α → Rp α) (k:Nat) (ag:Bool):Nat→Rp α
  | 0=>rNo k ag
  | n+1=>F (rD F k ag n)
def rFix {α : Type} (F:Rp α → Rp α) (k:Nat) (ag:Bool) (hk : ∀ r,(F r).sz=k):Rp α where
  sz:=k
  agg:=ag
  rp:=fun T w cs x => ∃ d,(rD F k ag d).rp T w cs x
  len:=fun⟨d,h⟩=>by
    cases d with
    | zero=>exact h.elim
    | succ d=>exact((F (rD F k ag d)).len h).trans (hk _)
  one:=fun⟨d,h⟩=>(rD F k ag d).one h
  mono:=fun hi ⟨d,h⟩=>⟨d,(rD F k ag d).mono hi h⟩
theorem rD_sz {α : Type} {F:Rp α → Rp α} {k:Nat} {ag:Bool} (hk : ∀ r,(F r).sz=k) (d:Nat):(rD F k ag d).sz=k:=by
  cases d with
  | zero=>rfl
  | succ d=>exact hk _
theorem rD_up {α : Type} {F:Rp α → Rp α} {k:Nat} {ag:Bool} (hF:Z7x F) (hk : ∀ r,(F r).sz=k) {T:Nat→Prop} {w:World} : ∀(d:Nat) (cs:List Value) (x : α),(rD F k ag d).rp T w cs x→(rD F k ag (d+1)).rp T w cs x
  | 0,_,_,h=>h.elim
  | d+1,cs,x,h=>hF.mono ((rD_sz hk d).trans (rD_sz hk (d+1)).symm) (rD_up hF hk d) h
theorem Y2j {α : Type} {F:Rp α → Rp α} {k:Nat} {ag:Bool} {hk : ∀ r,(F r).sz=k} (hF:Z7x F) {T:Nat→Prop} {w:World} {cs:List Value} {x : α} (h:(rFix F k ag hk).rp T w cs x):(F (rFix F k ag hk)).rp T w cs x:=by
  obtain⟨d,h⟩:=h;cases d with
  | zero=>exact h.elim
  | succ d=>exact hF.mono (r' := rFix F k ag hk) (rD_sz hk d) (fun cs x hx=>⟨d,hx⟩) h
theorem Y7u {α : Type} {F:Rp α → Rp α} {k:Nat} {ag:Bool} {hk : ∀ r,(F r).sz=k} (hF:Z7x F) {T:Nat→Prop} {w:World} {cs:List Value} {x : α} (h:(F (rFix F k ag hk)).rp T w cs x):(rFix F k ag hk).rp T w cs x:=by
  obtain⟨d,hd⟩:=hF.cont (D:=rD F k ag) (fun d=>rD_sz hk d) (rD_up hF hk) (fun cs x hx=>hx) h;exact⟨d+1,hd⟩

/-! ## Reading -/
def RdAt (P:Program) (m:Nat) (t:TypeId) {α : Type} (r:Rp α) (wf : α → Prop):Prop :=
  ∀(H:Type) (enc:TypeId×Value→H) (w:World) (base:Nat) (sp:Nat→Bool) (held:Bool) (fuel:Nat),fuel≤m → ∀(cs:List Value) (x:DataW H×List MemPlace),DataW.trod enc P w base sp held fuel t cs=some x → ∃ a,r.rp (allB w) w cs a∧wf a
section
variable {P:Program} {m:Nat} {t e:TypeId} {α β : Type} {r:Rp α} {wf wf' : α → Prop}
theorem Y3q.at (h:Y3q P t r wf) (m:Nat):RdAt P m t r wf:=fun H enc w base sp held fuel _ cs x hx=>h H enc w base sp held fuel cs x hx
theorem RdAt.imp (h:RdAt P m t r wf) (hi : ∀ a,wf a→wf' a):RdAt P m t r wf' := fun H enc w base sp held fuel hf cs x hx=>let ⟨a,h1,h2⟩:=h H enc w base sp held fuel hf cs x hx; ⟨a,h1,hi a h2⟩
end
end Go.Proofs.YtfffghclkmbopaaGreat
