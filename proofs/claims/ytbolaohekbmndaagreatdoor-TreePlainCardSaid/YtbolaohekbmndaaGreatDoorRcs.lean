/- Data that hold data of their own kind: what cells hold of them, as a union over depths. It holds for every program. -/
import Derived.Test.YtbolaohekbmndaaGreatDoorRow
set_option linter.unusedVariables false
namespace Go.Proofs.YtbolaohekbmndaaGreatDoor

/-- A way to make readings out of readings: it grows, and looks no deeper than some depth. -/
structure Q7z {α β : Type} (F:Rp α → Rp β):Prop where
  sz : ∀ r r',r.sz=r'.sz→(F r).sz=(F r').sz
  mono : ∀ {r r' : Rp α} {T w},r.sz=r'.sz→(∀ cs x,r.rp T w cs x→r'.rp T w cs x) → ∀ {cs x},(F r).rp T w cs x→(F r').rp T w cs x
  cont : ∀ {D:Nat→Rp α} {U:Rp α} {T w},(∀ d,(D d).sz=U.sz)→(∀ d cs x,(D d).rp T w cs x→(D (d+1)).rp T w cs x)→(∀ cs x,U.rp T w cs x → ∃ d,(D d).rp T w cs x) → ∀ {cs x},(F U).rp T w cs x → ∃ d,(F (D d)).rp T w cs x
theorem step_le {α : Type} {D:Nat→Rp α} {T:Nat→Prop} {w:World} (h : ∀ d cs x,(D d).rp T w cs x→(D (d+1)).rp T w cs x) {d d' : Nat} (hd:d≤d') {cs:List Value} {x : α} (hx:(D d).rp T w cs x):(D d').rp T w cs x:=by
  induction hd with
  | refl=>exact hx
  | step _ ih=>exact h _ _ _ ih
theorem gId {α : Type} : Q7z (fun r:Rp α => r):=⟨fun _ _ h=>h,fun _ h _ _ hx=>h _ _ hx,fun _ _ h _ _ hx=>h _ _ hx⟩
theorem gK {α β : Type} (c:Rp β):Q7z (fun _:Rp α => c):=⟨fun _ _ _=>rfl,fun _ _ _ _ hx=>hx,fun _ _ _ _ _ hx=>⟨0,hx⟩⟩
theorem Q3m {α β γ : Type} {F:Rp α → Rp β} {G:Rp α → Rp γ} (hF:Q7z F) (hG:Q7z G):Q7z (fun r=>A7 (F r) (G r)):=by
  refine⟨fun r r' h => ?_,fun h1 h2 cs x hx => ?_,fun h1 h2 h3 cs x hx => ?_⟩
  · show(F r).sz+(G r).sz=(F r').sz+(G r').sz
    rw [hF.sz r r' h,hG.sz r r' h]
  · obtain⟨c,d,e,a,b⟩:=hx
    exact⟨c,d,e,hF.mono h1 h2 a,hG.mono h1 h2 b⟩
  · rename_i D U T w
    obtain⟨c,d,e,a,b⟩:=hx
    obtain⟨m,hm⟩:=hF.cont h1 h2 h3 a
    obtain⟨k,hk⟩:=hG.cont h1 h2 h3 b
    have up : ∀ {p q:Nat},p≤q → ∀ cs x,(D p).rp T w cs x→(D q).rp T w cs x:=fun hpq cs x=>step_le h2 hpq
    exact⟨max m k,c,d,e,hF.mono ((h1 _).trans (h1 _).symm) (up (Nat.le_max_left m k)) hm,hG.mono ((h1 _).trans (h1 _).symm) (up (Nat.le_max_right m k)) hk⟩
theorem gIso {α β γ : Type} {F:Rp α → Rp β} (f : γ → β) (hF:Q7z F):Q7z (fun r=>(F r).iso f) :=
  ⟨fun r r' h=>hF.sz r r' h,fun h1 h2 _ _ hx=>hF.mono h1 h2 hx,fun h1 h2 h3 _ _ hx=>hF.cont h1 h2 h3 hx⟩
theorem SlR.imp {α : Type} {r r' : Rp α} {T:Nat→Prop} {w:World} {v:Value} {l:List α} (hs:r.sz=r'.sz) (h : ∀(i:Nat) (x : α) (cs:List Value),l[i]? = some x→r.rp T w cs x→r'.rp T w cs x) (hl:SlR r T w v l):SlR r' T w v l:=by
  obtain⟨a,cap,e,h1,h2,h3⟩:=hl
  refine⟨a,cap,e,h1,h2,?_⟩
  rcases h3 with h3 | ⟨b,off,ha,hT,hx⟩
  · exact .inl h3
  · exact .inr ⟨b,off,ha,hT,fun i x hi=>let ⟨cs,k1,k2⟩:=hx i x hi; ⟨cs,h i x cs hi k1,hs ▸ k2⟩⟩
theorem Q9i {p:Nat→Nat→Prop} (hp : ∀ i d,p i d→p i (d+1)) : ∀ n,(∀ i,i < n → ∃ d,p i d) → ∃ d,∀ i,i < n→p i d
  | 0,_=>⟨0,fun i h=>by omega⟩
  | n+1,h=>by
    obtain⟨d,hd⟩:=Q9i hp n fun i hi=>h i (by omega)
    obtain⟨e,he⟩:=h n (by omega)
    have up : ∀ i a b,a≤b→p i a→p i b:=fun i a b hab ha=>by
      induction hab with
      | refl=>exact ha
      | step _ ih=>exact hp _ _ ih
    refine⟨max d e,fun i hi => ?_⟩
    by_cases hin:i=n
    · subst hin; exact up _ _ _ (Nat.le_max_right d e) he
    · exact up _ _ _ (Nat.le_max_left d e) (hd i (by omega))
theorem gSl {α β : Type} {F:Rp α → Rp β} (hF:Q7z F):Q7z (fun r=>rSl (F r)):=by
  refine⟨fun r r' h=>rfl,fun h1 h2 cs x hx => ?_,fun h1 h2 h3 cs l hx => ?_⟩
  · obtain⟨v,e,hs⟩:=hx
    exact⟨v,e,SlR.imp (hF.sz _ _ h1) (fun _ _ _ _ hh=>hF.mono h1 h2 hh) hs⟩
  · rename_i D U T w
    obtain⟨v,e,a,cap,e2,k1,k2,k3⟩:=hx
    rcases k3 with rfl | ⟨b,off,ha,hT,hx⟩
    · exact⟨0,v,e,a,cap,e2,k1,k2,.inl rfl⟩
    · have hstep : ∀ d cs x,(F (D d)).rp T w cs x→(F (D (d+1))).rp T w cs x:=fun d cs x hh=>hF.mono ((h1 _).trans (h1 _).symm) (h2 d) hh
      have hb:=Q9i (p:=fun i d => ∀ x,l[i]? = some x → ∃ cs,(F (D d)).rp T w cs x∧cellsAt w b (off+i * (F U).sz) cs)
        (fun i d hd x hx=>let ⟨cs,q1,q2⟩:=hd x hx; ⟨cs,hstep _ _ _ q1,q2⟩) l.length (fun i hi=>by
          obtain⟨cs,q1,q2⟩:=hx i l[i] (List.getElem?_eq_getElem hi)
          obtain⟨d,hd⟩:=hF.cont h1 h2 h3 q1
          refine⟨d,fun x hx => ?_⟩
          rw [List.getElem?_eq_getElem hi] at hx
          cases hx
          exact⟨cs,hd,q2⟩)
      obtain⟨d,hd⟩:=hb
      refine⟨d,v,e,a,cap,e2,k1,k2,.inr ⟨b,off,ha,hT,fun i x hi => ?_⟩⟩
      rw [hF.sz (D d) U (h1 d)]
      exact hd i (List.getElem?_eq_some_iff.1 hi).1 x hi

/-- Nothing. -/
def rNo {α : Type} (k:Nat) (ag:Bool):Rp α := ⟨k,ag,fun _ _ _ _=>False,fun h=>h.elim,fun h=>h.elim,fun _ h=>h.elim⟩
/-- What cells hold, down to a depth. -/
def rD {α : Type} (F:Rp α → Rp α) (k:Nat) (ag:Bool):Nat→Rp α
  | 0=>rNo k ag
  | n+1=>F (rD F k ag n)
def Z1q {α : Type} (F:Rp α → Rp α) (k:Nat) (ag:Bool) (hk : ∀ r,(F r).sz=k):Rp α where
  sz:=k
  agg:=ag
  rp:=fun T w cs x => ∃ d,(rD F k ag d).rp T w cs x
  len:=fun⟨d,h⟩=>by
    cases d with
    | zero=>exact h.elim
    | succ d=>exact((F (rD F k ag d)).len h).trans (hk _)
  one:=fun⟨d,h⟩=>(rD F k ag d).one h
  mono:=fun hi ⟨d,h⟩=>⟨d,(rD F k ag d).mono hi h⟩
theorem rD_sz {α : Type} {F:Rp α → Rp α} {k:Nat} {ag:Bool} (hk : ∀ r,(F r).sz=k) (d:Nat):(rD F k ag d).sz=k:=by
  cases d with
  | zero=>rfl
  | succ d=>exact hk _
theorem rD_up {α : Type} {F:Rp α → Rp α} {k:Nat} {ag:Bool} (hF:Q7z F) (hk : ∀ r,(F r).sz=k) {T:Nat→Prop} {w:World} : ∀(d:Nat) (cs:List Value) (x : α),(rD F k ag d).rp T w cs x→(rD F k ag (d+1)).rp T w cs x
  | 0,_,_,h=>h.elim
  | d+1,cs,x,h=>hF.mono ((rD_sz hk d).trans (rD_sz hk (d+1)).symm) (rD_up hF hk d) h
theorem Z4z {α : Type} {F:Rp α → Rp α} {k:Nat} {ag:Bool} {hk : ∀ r,(F r).sz=k} (hF:Q7z F) {T:Nat→Prop} {w:World} {cs:List Value} {x : α} (h:(Z1q F k ag hk).rp T w cs x):(F (Z1q F k ag hk)).rp T w cs x:=by
  obtain⟨d,h⟩:=h
  cases d with
  | zero=>exact h.elim
  | succ d=>exact hF.mono (r' := Z1q F k ag hk) (rD_sz hk d) (fun cs x hx=>⟨d,hx⟩) h
theorem Z5w {α : Type} {F:Rp α → Rp α} {k:Nat} {ag:Bool} {hk : ∀ r,(F r).sz=k} (hF:Q7z F) {T:Nat→Prop} {w:World} {cs:List Value} {x : α} (h:(F (Z1q F k ag hk)).rp T w cs x):(Z1q F k ag hk).rp T w cs x:=by
  obtain⟨d,hd⟩:=hF.cont (D:=rD F k ag) (fun d=>rD_sz hk d) (rD_up hF hk) (fun cs x hx=>hx) h
  exact⟨d+1,hd⟩

/-! ## Reading -/
def Z0y (P:Program) (m:Nat) (t:TypeId) {α : Type} (r:Rp α) (wf : α → Prop):Prop :=
  ∀(H:Type) (enc:TypeId×Value→H) (w:World) (base:Nat) (sp:Nat→Bool) (held:Bool) (fuel:Nat),fuel≤m → ∀(cs:List Value) (x:DataW H×List MemPlace),DataW.trod enc P w base sp held fuel t cs=some x → ∃ a,r.rp (Q9z w) w cs a∧wf a
section
variable {P:Program} {m:Nat} {t e:TypeId} {α β : Type} {r:Rp α} {wf wf' : α → Prop}
theorem Z0a.at (h:Z0a P t r wf) (m:Nat):Z0y P m t r wf:=fun H enc w base sp held fuel _ cs x hx=>h H enc w base sp held fuel cs x hx
theorem Z0y.imp (h:Z0y P m t r wf) (hi : ∀ a,wf a→wf' a):Z0y P m t r wf' := fun H enc w base sp held fuel hf cs x hx=>let ⟨a,h1,h2⟩:=h H enc w base sp held fuel hf cs x hx; ⟨a,h1,hi a h2⟩
theorem rdSlA (h:Z0y P m e r wf) (ht:P.underlying t=some (.slice e)) (hc:P.cellsOf e=r.sz) (hp:0 < r.sz):Z0y P m t (rSl r) (fun l=>(∀ x ∈ l,wf x)∧l.length≤maxLen):=by
  intro H enc w base sp held fuel hfu cs x hx
  rcases DataW.trod_slice ht hx with ⟨rfl,_⟩ | ⟨a,len,cap,elems,rest,n,hfn,rfl,_,hb,hl,hm,hlen,hel,_,_⟩
  · exact⟨[],⟨_,rfl,V2⟩,by simp,by simp⟩
  · have hch : ∀ i,i < len → ∃ u,∃ cs',r.rp (Q9z w) w cs' u∧wf u∧w.cells? base (a.add (i * P.cellsOf e)) (P.cellsOf e)=some cs' := by
      intro i hi
      have h1:=hel i hi
      rw [List.getElem?_eq_getElem (by omega)] at h1
      obtain⟨cs',k1,k2⟩:=Option.bind_eq_some_iff.1 h1
      obtain⟨u,hu,hw⟩:=h H enc w base sp held n (by omega) cs' _ k2
      exact⟨u,cs',hu,hw,k1⟩
    obtain⟨l,hll,hlp⟩:=Q7g len hch
    subst hll
    refine⟨l,⟨_,rfl,some a,cap,rfl,hl,hm,?_⟩,?_,Nat.le_trans hl hm⟩
    · rcases Nat.eq_zero_or_pos l.length with h0 | h0
      · exact .inl (List.eq_nil_of_length_eq_zero h0)
      · right
        obtain⟨u0,hu0⟩ : ∃ u,l[0]? = some u:=⟨l[0],List.getElem?_eq_getElem h0⟩
        obtain⟨cs0,hr0,_,hc0⟩:=hlp 0 u0 hu0
        obtain⟨_,hl0,hcell0⟩:=World.cells?_some hc0
        have hcz:w.cell? ((a.add (0 * P.cellsOf e)).add 0)=cs0[0]? := hcell0 0 (by rw [hc]; exact hp)
        have hcs0:0 < cs0.length:=by rw [hl0,hc]; exact hp
        rw [List.getElem?_eq_getElem hcs0] at hcz
        simp only [Nat.zero_mul,Addr.add_zero'] at hcz
        have hspot:=World.cell?_spot hcz
        obtain⟨b,off,spot⟩:=a
        simp only at hspot
        subst hspot
        refine⟨b,off,rfl,World.block_lt_of_cell? w ⟨b,off,none⟩ hcz,fun i u hu => ?_⟩
        obtain⟨cs',hr',_,hc'⟩:=hlp i u hu
        obtain⟨_,hl',hcell'⟩:=World.cells?_some hc'
        refine⟨cs',hr',fun j v hj => ?_⟩
        have hjl:j < cs'.length:=by
          rcases Nat.lt_or_ge j cs'.length with h | h
          · exact h
          · rw [List.getElem?_eq_none h] at hj; cases hj
        have:=hcell' j (by omega)
        rw [hj,Addr.add_lit,Addr.add_lit,hc] at this
        exact this
    · intro u hu
      obtain⟨i,hi,rfl⟩:=List.getElem_of_mem hu
      exact(hlp i _ (List.getElem?_eq_getElem hi)).choose_spec.2.1
def Z1f (P:Program) (m:Nat) (fs:List Field) (off tot:Nat) {α : Type} (r:Rp α) (wf : α → Prop):Prop :=
  ∀(H:Type) (enc:TypeId×Value→H) (w:World) (base:Nat) (sp:Nat→Bool) (held:Bool) (n:Nat),n≤m → ∀(cs:List Value),cs.length=tot →
    (∀ f ∈ fs,∃ y,DataW.trod enc P w base sp held n f.type ((cs.drop f.offset).take (P.cellsOf f.type))=some y) → ∃ a,r.rp (Q9z w) w (cs.drop off) a∧wf a
theorem rdTail1A {f:Field} {off tot:Nat} (h:Z0y P m f.type r wf) (ho:f.offset=off) (hs:off+P.cellsOf f.type=tot):Z1f P m [f] off tot r wf:=by
  intro H enc w base sp held n hn cs hl hf
  obtain⟨y,hy⟩:=hf f (by simp)
  rw [ho,List.take_of_length_le (by simp; omega)] at hy
  exact h H enc w base sp held n hn _ y hy
theorem rdTail2A {f:Field} {fs:List Field} {off s tot:Nat} {r1:Rp α} {r2:Rp β} {wf1 : α → Prop} {wf2 : β → Prop} (h:Z0y P m f.type r1 wf1) (ho:f.offset=off) (hs:P.cellsOf f.type=s) (h2:Z1f P m fs (off+s) tot r2 wf2) :
    Z1f P m (f::fs) off tot (A7 r1 r2) (fun p=>wf1 p.1∧wf2 p.2):=by
  intro H enc w base sp held n hn cs hl hf
  obtain⟨y,hy⟩:=hf f (by simp)
  rw [ho,hs] at hy
  obtain⟨a,ha,hwa⟩:=h H enc w base sp held n hn _ y hy
  obtain⟨b,hb,hwb⟩:=h2 H enc w base sp held n hn cs hl (fun g hg=>hf g (by simp [hg]))
  refine⟨(a,b),⟨_,_,?_,ha,hb⟩,hwa,hwb⟩
  rw [← List.drop_drop,List.take_append_drop]
theorem rdStructA {fs:Array Field} {tot:Nat} {f : β → α} (g : α → β) (hfg : ∀ a,f (g a)=a) (ht:P.underlying t=some (.struct fs)) (hc:P.cellsOf t=tot) (h:Z1f P m fs.toList 0 tot r wf) :
    Z0y P (m+1) t (r.iso f) (fun y=>wf (f y)):=by
  intro H enc w base sp held fuel hfu cs x hx
  obtain⟨xs,n,hfn,_,hlen,hxl,hf⟩:=DataW.trod_struct ht hx
  obtain⟨a,ha,hwa⟩:=h H enc w base sp held n (by omega) cs (hlen.trans hc) (by
    intro fd hfd
    obtain⟨i,hi,rfl⟩:=List.getElem_of_mem hfd
    have hi' : i < fs.size:=by simpa using hi
    have:=hf i fs[i] (Array.getElem?_eq_getElem hi')
    have hxi:i < xs.length:=by omega
    rw [List.getElem?_eq_getElem hxi] at this
    exact⟨_,by simpa using this⟩)
  refine⟨g a,?_,by show wf (f (g a)); rw [hfg]; exact hwa⟩
  show r.rp _ _ cs (f (g a))
  rw [hfg]
  simpa using ha
theorem rdFix {F:Rp α → Rp α} {k:Nat} {ag:Bool} {hk : ∀ r,(F r).sz=k} (hF:Q7z F) (h : ∀ m,Z0y P m t (Z1q F k ag hk) wf→Z0y P (m+1) t (F (Z1q F k ag hk)) wf):Z0a P t (Z1q F k ag hk) wf:=by
  have key : ∀ m,Z0y P m t (Z1q F k ag hk) wf:=by
    intro m
    induction m with
    | zero =>
      intro H enc w base sp held fuel hfu cs x hx
      obtain rfl:fuel=0:=by omega
      simp [DataW.trod] at hx
    | succ m ih =>
      intro H enc w base sp held fuel hfu cs x hx
      obtain⟨a,h1,h2⟩:=h m ih H enc w base sp held fuel hfu cs x hx
      exact⟨a,Z5w hF h1,h2⟩
  intro H enc w base sp held fuel cs x hx
  exact key fuel H enc w base sp held fuel (Nat.le_refl _) cs x hx
end
end Go.Proofs.YtbolaohekbmndaaGreatDoor
