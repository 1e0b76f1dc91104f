/- Plain laws: no program is in sight here. -/
import Derived.Test.YtbolaohekbmndaaGreatDoorL09A
set_option linter.unusedVariables false
namespace Go.Proofs.YtbolaohekbmndaaGreatDoor
/-- r' is r after so many tokens at least. -/
structure Af (r r' : Q1) (k:Nat):Prop where
  len:r'.l.length+k≤r.l.length
  tk : ∀ t ∈ r'.l,t ∈ r.l
  d:r'.depth=r.depth
theorem Af.refl (r:Q1):Af r r 0:=⟨Nat.le_refl _,fun _ h=>h,rfl⟩
theorem Af.trans {a b c:Q1} {j k:Nat} (h:Af a b j) (g:Af b c k):Af a c (j+k):=⟨by have:=h.len; have:=g.len; omega,fun t ht=>h.tk t (g.tk t ht),g.d.trans h.d⟩
theorem Af.mono {a b:Q1} {j k:Nat} (h:Af a b j) (hk:k≤j):Af a b k:=⟨by have:=h.len; omega,h.tk,h.d⟩
/-- A reader in order. -/
structure Rd (r:Q1):Prop where
  tx : ∀ t ∈ r.l,t.Text.length≤70000
  len:r.l.length≤5000
  d:0≤r.depth∧r.depth≤200
theorem Rd.after {r r' : Q1} {k:Nat} (h:Rd r) (g:Af r r' k):Rd r' := ⟨fun t ht=>h.tx t (g.tk t ht),by have:=g.len; have:=h.len; omega,by rw [g.d]; exact h.d⟩
/-- It ends: with an error, or with what is asked for. -/
def Ok {E A:Type} (y:Option (Except E A)) (p:A→Prop):Prop := ∃ z,y=some z∧match z with
  | .error _=>True
  | .ok x=>p x
theorem Ok.ok {E A:Type} {x:A} {p:A→Prop} (h:p x):Ok (some (Except.ok (ε := E) x)) p:=⟨_,rfl,h⟩
theorem Ok.err {E A:Type} {e:E} {p:A→Prop} : Ok (some (Except.error (α := A) e)) p:=⟨_,rfl,trivial⟩
theorem Ok.mono {E A:Type} {y:Option (Except E A)} {p q:A→Prop} (h:Ok y p) (hpq : ∀ x,p x→q x):Ok y q:=by
  obtain⟨z,e,hz⟩:=h
  refine⟨z,e,?_⟩
  cases z with
  | error _=>trivial
  | ok x=>exact hpq x hz
theorem Ok.bind {E E' A B:Type} {y:Option (Except E A)} {p:A→Prop} {f:A→Option (Except E' B)} {g:E→E'} {q:B→Prop} (h:Ok y p) (hf : ∀ x,p x→Ok (f x) q):Ok (y.bind fun z=>exC z (fun z=>f z) (fun e=>some (Except.error (g e)))) q:=by
  obtain⟨z,e,hz⟩:=h
  rw [e,Option.bind_some]
  cases z with
  | error e=>exact⟨_,rfl,trivial⟩
  | ok x=>exact hf x hz
/-- A plain step ahead. -/
theorem Ok.step {E A B:Type} {m:Option B} {x:B} {f:B→Option (Except E A)} {q:A→Prop} (h:m=some x) (k:Ok (f x) q):Ok (m.bind f) q:=by subst h; exact k
theorem Q2w (r:Q1) (m:List UInt8) : ∃ b,U0 r m=some b∧(b=true → ∃ t l,r.l=t::l∧t.Text=m∧(t.Kind=2 ∨ t.Kind=4)):=by
  obtain⟨l,e,d⟩:=r
  cases l with
  | nil=>exact⟨false,rfl,fun h=>by cases h⟩
  | cons t l =>
    by_cases h:t.Text=m
    · by_cases hk:t.Kind=2 ∨ t.Kind=4
      · exact⟨true,is_hit h hk,fun _=>⟨t,l,rfl,h,hk⟩⟩
      · refine⟨false,?_,fun h=>by cases h⟩
        unfold U0 M1
        rw [c1 (dt (by simp only [List.length_cons]; omega))]
        refine bnd (x:=false) (bnd (x:=t) rfl ?_) rfl
        rw [c1 (dt h)]
        refine bnd (x:=t) rfl ?_
        rw [c0 (by simp; exact fun h=>hk (.inl h))]
        refine bnd (x:=t) rfl ?_
        congr 1
        simp
        exact fun h=>hk (.inr h)
    · exact⟨false,Z6q h,fun h=>by cases h⟩
theorem B1 (r:Q1) (m:List UInt8) : ∃ b r',Y4 r m=some (b,r')∧Af r r' (cond b 1 0):=by
  obtain⟨b,e,hb⟩:=Q2w r m
  cases b with
  | true =>
    obtain⟨t,l,hl,ht,hk⟩:=hb rfl
    obtain⟨rl,re,rd⟩:=r
    dsimp only at hl
    subst hl
    exact⟨true,_,Q8w ht hk,by simp,fun x hx=>List.mem_cons_of_mem _ hx,rfl⟩
  | false =>
    refine⟨false,r,?_,Af.refl r⟩
    unfold Y4
    exact bnd e rfl
theorem Q3t (r:Q1) : ∃ p,G6 r=some p:=by
  obtain⟨l,e,d⟩:=r
  cases l with
  | nil=>exact⟨e,rfl⟩
  | cons t l=>exact⟨_,Q5t t l e d⟩
theorem Q7f (r:Q1) (k:Int) : ∃ e,C8 r k=some (.error e):=by
  obtain⟨p,hp⟩:=Q3t r
  exact⟨_,bnd hp rfl⟩
theorem D4 (r:Q1) (m:List UInt8):Ok (Y0 r m) (fun r' => Af r r' 1):=by
  obtain⟨b,r',e,h⟩:=B1 r m
  unfold Y0
  refine Ok.step e ?_
  cases b with
  | true=>exact Ok.ok h
  | false =>
    obtain⟨x,hx⟩:=Q7f r' 3
    exact Ok.step hx Ok.err
theorem Q9g (r:Q1) (k:Int):Ok (P9 r k) (fun x=>x.1 ∈ r.l∧Af r x.2 1):=by
  obtain⟨l,e,d⟩:=r
  cases l with
  | nil =>
    unfold P9 jn
    dsimp only
    obtain⟨x,hx⟩:=Q7f ⟨[],e,d⟩ 3
    rw [c1 (show ((List.length ([]:List Y6):Int) == 0)=true from rfl)]
    exact Ok.step hx Ok.err
  | cons t l =>
    by_cases h:t.Kind=k
    · rw [Z1y h]
      exact Ok.ok ⟨by simp,by simp,fun x hx=>List.mem_cons_of_mem _ hx,rfl⟩
    · unfold P9 jn
      dsimp only
      rw [c0 lz]
      refine Ok.step (x:=t) rfl ?_
      rw [c1 (by simpa using h)]
      obtain⟨x,hx⟩:=Q7f ⟨t::l,e,d⟩ 3
      exact Ok.step hx Ok.err
theorem Q3j {r:Q1} (hr:Rd r):Ok (K8 r) (fun x=>x.1.length≤70000∧Af r x.2 1):=by
  unfold K8
  exact(Q9g r 1).bind fun x hx=>Ok.ok ⟨hr.tx _ hx.1,hx.2⟩
theorem Q5x {r:Q1} (hr:Rd r):Ok (E3 r) (fun r' => r'.l=r.l∧r'.depth=r.depth+1∧r.depth < 200):=by
  obtain⟨l,e,d⟩:=r
  have hd:=hr.d
  dsimp only at hd
  by_cases h:d=200
  · subst h
    unfold E3 jn
    dsimp only
    rw [c1 (show ((200:Int) == 200)=true from rfl)]
    obtain⟨x,hx⟩:=Q7f ⟨l,e,200⟩ 2
    exact Ok.step hx Ok.err
  · rw [Q7n hd.1 (by omega)]
    exact Ok.ok ⟨rfl,rfl,by dsimp only; omega⟩
theorem Q5j {r:Q1} (hr:Rd r) : ∃ m,E2 r=some m∧m.length≤70000∧(m ≠ []→r.l ≠ []):=by
  obtain⟨l,e,d⟩:=r
  cases l with
  | nil=>exact⟨[],rfl,by simp,fun h=>absurd rfl h⟩
  | cons t l =>
    by_cases h:t.Kind=4
    · exact⟨_,Q5i h,hr.tx t (by simp),fun _=>by simp⟩
    · exact⟨_,Z2z h,by simp,fun _=>by simp⟩
theorem Q0n {r:Q1} (hr:Rd r) (k:Int) (hl:r.l ≠ []) : ∃ p o r',K9 r k=some (⟨k,p,o,[],0,⟨[],[],0⟩,[]⟩,r')∧o.length≤70000∧Af r r' 1:=by
  obtain⟨l,e,d⟩:=r
  cases l with
  | nil=>exact absurd rfl hl
  | cons t l =>
    obtain⟨m,hm,hml,_⟩:=Q5j hr
    refine⟨t.Pos,m,⟨l,e,d⟩,?_,hml,by simp,fun x hx=>List.mem_cons_of_mem _ hx,rfl⟩
    unfold K9
    exact bnd (Q5t t l e d) (bnd hm (bnd (Q8x t l) rfl))
/-- A round ends so. -/
def Rn {Z:Type} (y:Option Z) (P:Z→Prop):Prop := ∃ z,y=some z∧P z
theorem Rn.ok {Z:Type} {z:Z} {P:Z→Prop} (h:P z):Rn (some z) P:=⟨z,rfl,h⟩
theorem Rn.step {Z B:Type} {m:Option B} {x:B} {f:B→Option Z} {P:Z→Prop} (h:m=some x) (k:Rn (f x) P):Rn (m.bind f) P:=by subst h; exact k
theorem Rn.bind {E A S R:Type} {y:Option (Except E A)} {p:A→Prop} {f:A→Option (Lp S R)} {g:E→R} {P:Lp S R→Prop} (h:Ok y p) (hf : ∀ x,p x→Rn (f x) P) (hg : ∀ e,P (.ret (g e))):Rn (y.bind fun z=>exC z (fun z=>f z) (fun e=>some (Lp.ret (g e)))) P:=by
  obtain⟨z,ez,hz⟩:=h
  rw [ez,Option.bind_some]
  cases z with
  | error x=>exact⟨_,rfl,hg x⟩
  | ok x=>exact hf x hz
/-- What a round of a loop of the reader must bring. -/
def NxR {S R E A:Type} (I:S→Prop) (μ : S→Nat) (s:S) (f:Lp S R→Option (Except E A)) (q:A→Prop):Lp S R→Prop
  | .go s' => I s' ∧ μ s' < μ s
  | .brk s' => Ok (f (.brk s')) q
  | .ret r=>Ok (f (.ret r)) q
theorem Ok.loop {S R E A:Type} {body:S→Option (Lp S R)} {f:Lp S R→Option (Except E A)} {q:A→Prop} {s:S} (I:S→Prop) (μ : S→Nat) (hI:I s) (hn : μ s < 1000000) (hs : ∀ s,I s→Rn (body s) (NxR I μ s f q)):Ok ((V7 body NN s).bind f) q:=by
  obtain⟨o,ho,hp⟩:=Q5k I μ (fun o=>Ok (f o) q) hI (Q6c (by omega)) (fun s h=>by
    obtain⟨z,e,hz⟩:=hs s h
    exact⟨z,e,by cases z <;> exact hz⟩)
  exact Ok.step ho hp
theorem Z2r (r:Q1) : ∃ b,I7 r=some b∧(b=true→r.l ≠ []):=by
  have ne : ∀ {m:List UInt8} {b:Bool},(b=true → ∃ t l,r.l=t::l∧t.Text=m∧(t.Kind=2 ∨ t.Kind=4))→b=true→r.l ≠ []:=by
    intro m b h hb
    obtain⟨t,l,e,_⟩:=h hb
    rw [e]; simp
  unfold I7
  obtain⟨b1,e1,h1⟩:=Q2w r [105,110,116]
  rw [e1,Option.bind_some]
  cases b1 with
  | true=>exact⟨true,rfl,ne h1⟩
  | false =>
    obtain⟨b2,e2,h2⟩:=Q2w r [99,104,97,114]
    refine(c0 (by rfl)).symm ▸ ?_
    rw [e2,Option.bind_some]
    cases b2 with
    | true=>exact⟨true,rfl,ne h2⟩
    | false =>
      obtain⟨b3,e3,h3⟩:=Q2w r [118,111,105,100]
      refine(c0 (by rfl)).symm ▸ ?_
      rw [e3,Option.bind_some]
      cases b3 with
      | true=>exact⟨true,rfl,ne h3⟩
      | false =>
        obtain⟨b4,e4,h4⟩:=Q2w r [115,116,114,117,99,116]
        exact⟨b4,bnd e4 rfl,ne h4⟩
theorem Q1v {r:Q1} (hr:Rd r):Ok (J5 r) (fun x=>OkT x.1∧Af r x.2 (1+x.1.Stars.toNat)):=by
  obtain⟨l,e,d⟩:=r
  unfold J5
  dsimp only [jn]
  obtain⟨b,eb,hb⟩:=Z2r ⟨l,e,d⟩
  rw [eb,Option.bind_some]
  cases b with
  | false =>
    obtain⟨x,hx⟩:=Q7f ⟨l,e,d⟩ 3
    exact Ok.step hx Ok.err
  | true =>
    cases l with
    | nil=>exact absurd rfl (hb rfl)
    | cons t l =>
      have hl:=hr.len
      simp only [List.length_cons] at hl
      have ht:=hr.tx t (by simp)
      have h1:Af ⟨t::l,e,d⟩ ⟨l,e,d⟩ 1:=⟨by simp,fun x hx=>List.mem_cons_of_mem _ hx,rfl⟩
      have key : ∀(x1:G5) (x2:Q1),x1.Word.length≤70000→x1.Name.length≤70000→x1.Stars=0→Af ⟨t::l,e,d⟩ x2 1 →
          Ok ((V7 (fun(x3,x4)=>((Y4 x4 ([42]:List UInt8)).bind fun y4=>bif y4.1 then (some (Lp.go ({x3 with Stars:=IntKind.wrap .i64 (x3.Stars+1)},y4.2))) else (some (Lp.brk (x3,y4.2))):Option (Lp (G5×Q1) (Unit)))) NN (x1,x2)).bind fun o=>o.thn (fun(x3,x4)=>some (Except.ok (ε := Q8×Q1) (x3,x4))) (fun _=>none)) (fun x=>OkT x.1∧Af ⟨t::l,e,d⟩ x.2 (1+x.1.Stars.toNat)):=by
        intro x1 x2 hw hn hs ha
        refine Ok.loop (fun s=>s.1.Word.length≤70000∧s.1.Name.length≤70000∧0≤s.1.Stars∧Af ⟨t::l,e,d⟩ s.2 (1+s.1.Stars.toNat)) (fun s=>s.2.l.length) ⟨hw,hn,by dsimp only; omega,by dsimp only; rw [hs]; exact ha⟩ (by have:=ha.len; simp only [List.length_cons] at this; dsimp only; omega) ?_
        rintro⟨x3,x4⟩ ⟨i1,i2,i3,i4⟩
        dsimp only at i1 i2 i3 i4 ⊢
        have i4l:=i4.len
        simp only [List.length_cons] at i4l
        obtain⟨b,r',eb,hb⟩:=B1 x4 [42]
        refine Rn.step eb ?_
        cases b with
        | true =>
          have hbl:=hb.len
          dsimp only [cond_true] at hbl
          refine Rn.ok ⟨⟨i1,i2,?_,?_⟩,by dsimp only; omega⟩
          · dsimp only
            rw [w64 (by omega)]; omega
          · dsimp only
            rw [w64 (by omega)]
            refine(i4.trans hb).mono ?_
            dsimp only [cond_true]
            omega
        | false =>
          refine Rn.ok (Ok.ok ⟨⟨i1,i2,by dsimp only; omega⟩,(i4.trans hb).mono (by dsimp only; omega)⟩)
      refine(c0 (by rfl)).symm ▸ ?_
      refine Ok.step (x:=t) rfl ?_
      refine Ok.step (Q8x t l) ?_
      by_cases hst:t.Text = [115,116,114,117,99,116]
      · rw [c1 (dt hst)]
        refine(Q3j (hr.after h1)).bind fun x hx=>key _ _ ht hx.1 rfl ((h1.trans hx.2).mono (by omega))
      · rw [c0 (df hst)]
        exact key _ _ ht (by simp) rfl h1
theorem Z5a {r:Q1} (hr:Rd r):Ok (L6 r) (fun x=>Af r x.2 x.1.length):=by
  unfold L6
  refine Ok.loop (fun s=>Af r s.2 s.1.length) (fun s=>s.2.l.length) ((Af.refl r).mono (by simp)) (by have:=hr.len; dsimp only; omega) ?_
  rintro⟨x1,x2⟩ h
  dsimp only at h ⊢
  have hl:=hr.len
  have h2:=h.len
  obtain⟨b,r1,eb,hb⟩:=B1 x2 [91]
  refine Rn.step eb ?_
  cases b with
  | false=>exact Rn.ok (Ok.ok ((h.trans hb).mono (by dsimp only; omega)))
  | true =>
    dsimp only [cond_true] at hb ⊢
    refine Rn.bind (Q9g r1 3) (fun x hx => ?_) (fun e=>Ok.err)
    refine Rn.step (R1 (by simp; omega)) ?_
    refine Rn.bind (D4 x.2 [93]) (fun y hy => ?_) (fun e=>Ok.err)
    have ha:=((h.trans hb).trans hx.2).trans hy
    have:=hb.len; have:=hx.2.len; have:=hy.len
    refine Rn.ok ⟨ha.mono (by simp),by dsimp only; omega⟩
/-- An expression that was read: whole, no heavier than the tokens that it took. -/
def PE (r:Q1) (x:Z6×Q1):Prop:=OkE x.1∧Af r x.2 (wE x.1)
def PL (r:Q1) (k:Nat) (x:List Z6×Q1):Prop:=(∀ y ∈ x.1,OkE y)∧Af r x.2 (sm wE x.1+k)
structure S1 (n:Nat):Prop where
  bracketed : ∀ r,Rd r→10 * r.l.length+1≤n→Ok ((C1 n).K1 r) (PL r 2)
  handed : ∀ r,Rd r→10 * r.l.length+1≤n→Ok ((C1 n).G1 r) (PL r 2)
  prime : ∀ r,Rd r→10 * r.l.length+1≤n→Ok ((C1 n).F8 r) (PE r)
  post : ∀ r,Rd r→10 * r.l.length+2≤n→Ok ((C1 n).F2 r) (PE r)
  unary : ∀ r,Rd r→10 * r.l.length+3≤n→Ok ((C1 n).K5 r) (PE r)
  binary : ∀ r k,Rd r→10 * r.l.length+4≤n→Ok ((C1 n).J4 r k) (PE r)
  cond : ∀ r,Rd r→10 * r.l.length+5≤n→Ok ((C1 n).F3 r) (PE r)
  assign : ∀ r,Rd r→10 * r.l.length+6≤n→Ok ((C1 n).Y2 r) (PE r)
theorem Rd.down {r r' : Q1} (hr:Rd r) (h:r'.l=r.l∧r'.depth=r.depth+1∧r.depth < 200):Rd r' := ⟨by rw [h.1]; exact hr.tx,by rw [h.1]; exact hr.len,by have:=hr.d; omega⟩
theorem Af.up {r r' s:Q1} {k:Nat} (hr:Rd r) (h:r'.l=r.l∧r'.depth=r.depth+1∧r.depth < 200) (g:Af r' s k):Af r {s with depth:=IntKind.wrap .i64 (s.depth - 1)} k:=by
  have hd:=hr.d
  have gd:=g.d
  refine⟨by have:=g.len; rw [h.1] at this; exact this,fun t ht=>by have:=g.tk t ht; rw [h.1] at this; exact this,?_⟩
  dsimp only
  rw [w64 (by omega)]
  omega
theorem okE0 {x:Z6} (hk:x.Kids = []) (h1:x.Name.length≤70000) (h2:x.Op.length≤70000) (h3:OkT x.Type_) (h4:Q2h x.Kind=0):OkE x := .mk (by rw [hk]; simp) h1 h2 h3 (by rw [h4]; omega)
theorem okT0:OkT ⟨[],[],0⟩:=⟨by simp,by simp,by decide⟩
theorem arity_le (k:Int):Q2h k≤3:=by unfold Q2h; split <;> (try split) <;> (try split) <;> omega
/-- A node over parts that were read. -/
theorem Z0w {k:Int} {p:Pos} {o n:List UInt8} {m:Int} {ks:List Z6} (hk : ∀ y ∈ ks,OkE y) (ho:o.length≤70000) (hn:n.length≤70000) (ha:Q2h k≤ks.length):OkE ⟨k,p,o,n,m,⟨[],[],0⟩,ks⟩ := .mk hk hn ho okT0 ha
theorem wEk {k:Int} {p:Pos} {o n:List UInt8} {m:Int} {ks:List Z6} : wE ⟨k,p,o,n,m,⟨[],[],0⟩,ks⟩=1+sm wE ks:=by rw [Z0d]; rfl
theorem sm1 (x:Z6):sm wE [x]=wE x:=by simp [sm]
theorem sm2 (x y:Z6):sm wE [x,y]=wE x+wE y:=by simp [sm]
theorem sm3 (x y z:Z6):sm wE [x,y,z]=wE x+wE y+wE z:=by simp [sm]; omega
theorem Z5b {n:Nat} (h:S1 n) : ∀ r,Rd r→10 * r.l.length+1≤n+1→Ok ((C1 (n+1)).K1 r) (PL r 2):=by
  intro r hr hn
  show Ok (H3 (C1 n) r) _
  unfold H3
  refine(D4 r _).bind fun y1 a1 => ?_
  have:=a1.len
  refine(h.assign y1 (hr.after a1) (by omega)).bind fun y2 a2 => ?_
  refine(D4 y2.2 _).bind fun y3 a3 => ?_
  exact Ok.ok ⟨by simpa using a2.1,((a1.trans a2.2).trans a3).mono (by dsimp only; rw [sm1]; omega)⟩
theorem handed_s {n:Nat} (h:S1 n) : ∀ r,Rd r→10 * r.l.length+1≤n+1→Ok ((C1 (n+1)).G1 r) (PL r 2):=by
  intro r hr hn
  show Ok (I5 (C1 n) r) _
  unfold I5
  refine(D4 r _).bind fun y1 a1 => ?_
  have l1:=a1.len
  have lr:=hr.len
  obtain⟨b,y2,e2,a2⟩:=B1 y1 [41]
  refine Ok.step e2 ?_
  cases b with
  | true=>exact Ok.ok ⟨by simp,(a1.trans a2).mono (by simp [sm])⟩
  | false =>
    have a12:=(a1.trans a2).mono (k:=1) (by simp)
    have l2:=a12.len
    refine(h.assign y2 (hr.after a12) (by omega)).bind fun y3 a3 => ?_
    have a13:=a12.trans a3.2
    refine Ok.loop (fun s=>(∀ y ∈ s.1,OkE y)∧Af r s.2 (1+sm wE s.1)) (fun s=>s.2.l.length) ⟨by simpa using a3.1,by dsimp only; rw [sm1]; exact a13⟩ (by have:=a13.len; dsimp only; omega) ?_
    rintro⟨x1,x2⟩ ⟨i1,i2⟩
    dsimp only at i1 i2 ⊢
    have li:=i2.len
    have hx:=M0 Q0a x1
    obtain⟨b,y4,e4,a4⟩:=B1 x2 [44]
    refine Rn.step e4 ?_
    cases b with
    | false =>
      refine Rn.ok ?_
      refine(D4 y4 _).bind fun y6 a6=>Ok.ok ⟨i1,((i2.trans a4).trans a6).mono (by simp; omega)⟩
    | true =>
      have a24:=i2.trans a4
      have l4:=a4.len
      dsimp only [cond_true] at l4 a24
      refine Rn.bind (h.assign y4 (hr.after a24) (by omega)) (fun y5 a5 => ?_) (fun e=>Ok.err)
      refine Rn.step (R1 (by simp; omega)) ?_
      have l5:=a5.2.len
      refine Rn.ok ⟨⟨?_,(a24.trans a5.2).mono (by dsimp only; rw [Q0t,sm1]; omega)⟩,by dsimp only; omega⟩
      intro y hy
      rcases List.mem_append.1 hy with hy | hy
      · exact i1 y hy
      · have:y=y5.1:=by simpa using hy
        rw [this]; exact a5.1
theorem assign_s {n:Nat} (h:S1 n) : ∀ r,Rd r→10 * r.l.length+6≤n+1→Ok ((C1 (n+1)).Y2 r) (PE r):=by
  intro r hr hn
  show Ok (E0 (C1 n) r) _
  unfold E0
  refine(Q5x hr).bind fun y1 d1 => ?_
  have hr1:=hr.down d1
  refine Ok.bind (g:=fun e:Q8×Q1=>(e.1,{e.2 with depth:=IntKind.wrap .i64 (e.2.depth - 1)})) (h.cond y1 hr1 (by rw [d1.1]; omega)) fun y2 a2 => ?_
  have hr2:=hr1.after a2.2
  obtain⟨m,em,hm,hne⟩:=Q5j hr2
  refine Ok.step em ?_
  obtain⟨b,eb,hb⟩ : ∃ b,Q0k m=some b∧(b=true→m ≠ []):=by
    by_cases h0:m = []
    · subst h0; exact⟨false,rfl,fun h=>by cases h⟩
    · have : ∃ b,Q0k m=some b:=by
        unfold Q0k
        dsimp only [jn]
        have key : ∀ b:Bool,∃ c,(bif b then some true else some false)=some c:=fun b=>by cases b <;> exact⟨_,rfl⟩
        iterate 10 (first | exact key _ | (refine(Bool.rec (motive:=fun c => ∃ d,(bif c then _ else _)=some d) ?_ ?_ _) <;> dsimp only [cond_true,cond_false]))
        all_goals exact key _
      obtain⟨b,hb⟩:=this
      exact⟨b,hb,fun _=>h0⟩
  refine Ok.step eb ?_
  cases b with
  | false=>exact Ok.ok ⟨a2.1,Af.up hr d1 a2.2⟩
  | true =>
    obtain⟨p,o,y5,e5,ho,a5⟩:=Q0n hr2 5 (hne (hb rfl))
    refine Ok.step e5 ?_
    have l2:=a2.2.len
    have l5:=a5.len
    rw [d1.1] at l2
    refine Ok.bind (g:=fun e:Q8×Q1=>(e.1,{e.2 with depth:=IntKind.wrap .i64 (e.2.depth - 1)})) (h.assign y5 (hr2.after a5) (by omega)) fun y6 a6 => ?_
    refine Ok.ok ⟨Z0w (by simp [a2.1,a6.1]) ho (by simp) (show Q2h 5≤2 by decide),?_⟩
    have:=Af.up hr d1 ((a2.2.trans a5).trans a6.2)
    refine this.mono ?_
    dsimp only
    rw [wEk,sm2]
    omega
theorem rank_any (m:List UInt8) : ∃ k,Q2l m=some k∧(k ≠ 0→m ≠ []):=by
  by_cases h:m = []
  · subst h; exact⟨0,rfl,fun h=>absurd rfl h⟩
  · have : ∃ k,Q2l m=some k:=by
      unfold Q2l
      dsimp only [jn]
      cases decide (m=([124,124]:List UInt8))
      case true=>exact⟨_,rfl⟩
      cases decide (m=([38,38]:List UInt8))
      case true=>exact⟨_,rfl⟩
      cases decide (m=([124]:List UInt8))
      case true=>exact⟨_,rfl⟩
      cases decide (m=([94]:List UInt8))
      case true=>exact⟨_,rfl⟩
      cases decide (m=([38]:List UInt8))
      case true=>exact⟨_,rfl⟩
      cases decide (m=([61,61]:List UInt8))
      case true=>exact⟨_,rfl⟩
      cases decide (m=([33,61]:List UInt8))
      case true=>exact⟨_,rfl⟩
      cases decide (m=([60]:List UInt8))
      case true=>exact⟨_,rfl⟩
      cases decide (m=([62]:List UInt8))
      case true=>exact⟨_,rfl⟩
      cases decide (m=([60,61]:List UInt8))
      case true=>exact⟨_,rfl⟩
      cases decide (m=([62,61]:List UInt8))
      case true=>exact⟨_,rfl⟩
      cases decide (m=([60,60]:List UInt8))
      case true=>exact⟨_,rfl⟩
      cases decide (m=([62,62]:List UInt8))
      case true=>exact⟨_,rfl⟩
      cases decide (m=([43]:List UInt8))
      case true=>exact⟨_,rfl⟩
      cases decide (m=([45]:List UInt8))
      case true=>exact⟨_,rfl⟩
      cases decide (m=([42]:List UInt8))
      case true=>exact⟨_,rfl⟩
      cases decide (m=([47]:List UInt8))
      case true=>exact⟨_,rfl⟩
      cases decide (m=([37]:List UInt8)) <;> exact⟨_,rfl⟩
    obtain⟨k,hk⟩:=this
    exact⟨k,hk,fun _=>h⟩
theorem cond_s {n:Nat} (h:S1 n) : ∀ r,Rd r→10 * r.l.length+5≤n+1→Ok ((C1 (n+1)).F3 r) (PE r):=by
  intro r hr hn
  show Ok (N7 (C1 n) r) _
  unfold N7
  refine(h.binary r 1 hr (by omega)).bind fun y1 a1 => ?_
  have hr1:=hr.after a1.2
  obtain⟨m,em,hm,hne⟩:=Q5j hr1
  refine Ok.step em ?_
  by_cases h63:m = [63]
  · rw [c0 (by rw [dt h63]; rfl)]
    obtain⟨p,o,y3,e3,ho,a3⟩:=Q0n hr1 6 (hne (by rw [h63]; simp))
    refine Ok.step e3 ?_
    have l1:=a1.2.len
    have l3:=a3.len
    have a13:=a1.2.trans a3
    refine(h.assign y3 (hr1.after a3) (by omega)).bind fun y4 a4 => ?_
    have a14:=a13.trans a4.2
    refine(D4 y4.2 _).bind fun y5 a5 => ?_
    have a15:=a14.trans a5
    have hr5:=hr.after a15
    have l5:=a15.len
    refine(Q5x hr5).bind fun y6 d6 => ?_
    have hr6:=hr5.down d6
    refine(h.cond y6 hr6 (by rw [d6.1]; omega)).bind fun y7 a7 => ?_
    have a57:=Af.up hr5 d6 a7.2
    refine Ok.step (x := {y7.2 with depth:=IntKind.wrap .i64 (y7.2.depth - 1)}) rfl ?_
    refine Ok.ok ⟨Z0w (by simp [a1.1,a4.1,a7.1]) (by simp) (by simp) (show Q2h 6≤3 by decide),(a15.trans a57).mono ?_⟩
    dsimp only
    rw [wEk,sm3]
    omega
  · rw [c1 (by rw [df h63]; rfl)]
    exact Ok.ok a1
theorem binary_s {n:Nat} (h:S1 n) : ∀ r k,Rd r→10 * r.l.length+4≤n+1→Ok ((C1 (n+1)).J4 r k) (PE r):=by
  intro r k hr hn
  show Ok (B9 (C1 n) r k) _
  unfold B9
  have lr:=hr.len
  refine(h.unary r hr (by omega)).bind fun y1 a1 => ?_
  refine Ok.loop (fun s=>PE r s) (fun s=>s.2.l.length) a1 (by have:=a1.2.len; dsimp only; omega) ?_
  rintro⟨x1,x2⟩ hp
  have li:=hp.2.len
  dsimp only at li
  have hr2:=hr.after hp.2
  obtain⟨m,em,hm,hne⟩:=Q5j hr2
  obtain⟨q,eq,hq⟩:=rank_any m
  dsimp only at em ⊢
  refine Rn.step em ?_
  refine Rn.step eq ?_
  by_cases h1:q < k
  · rw [c1 (dt h1)]
    exact Rn.ok (Ok.ok hp)
  rw [c0 (df h1)]
  by_cases h2:q=0
  · rw [c1 (by rw [h2]; rfl)]
    exact Rn.ok (Ok.ok hp)
  rw [c0 (by simpa using h2)]
  obtain⟨p,o,y4,e4,ho,a4⟩:=Q0n hr2 4 (hne (hq h2))
  refine Rn.step e4 ?_
  have a24:=hp.2.trans a4
  have l4:=a4.len
  dsimp only at l4
  refine Rn.bind (h.binary y4 _ (hr.after a24) (by omega)) (fun y5 a5 => ?_) (fun e=>Ok.err)
  have l5:=a5.2.len
  refine Rn.ok ⟨⟨Z0w (by simp [hp.1,a5.1]) ho (by simp) (show Q2h 4≤2 by decide),(a24.trans a5.2).mono ?_⟩,by dsimp only; omega⟩
  dsimp only
  rw [wEk,sm2]
  omega
theorem post_s {n:Nat} (h:S1 n) : ∀ r,Rd r→10 * r.l.length+2≤n+1→Ok ((C1 (n+1)).F2 r) (PE r):=by
  intro r hr hn
  show Ok (N6 (C1 n) r) _
  unfold N6
  have lr:=hr.len
  refine(h.prime r hr (by omega)).bind fun y1 a1 => ?_
  refine Ok.loop (fun s=>PE r s) (fun s=>s.2.l.length) a1 (by have:=a1.2.len; dsimp only; omega) ?_
  rintro⟨x1,x2⟩ hp
  have li:=hp.2.len
  dsimp only at li
  have hr2:=hr.after hp.2
  have hx1:=Q0a x1
  obtain⟨m,em,hm,hne⟩:=Q5j hr2
  dsimp only [jn] at em ⊢
  refine Rn.step em ?_
  by_cases h1:m = [91]
  · rw [c1 (dt h1)]
    obtain⟨p,o,y3,e3,ho,a3⟩:=Q0n hr2 8 (hne (by rw [h1]; simp))
    refine Rn.step e3 ?_
    have a23:=hp.2.trans a3
    have l3:=a3.len
    dsimp only at l3
    refine Rn.bind (h.assign y3 (hr.after a23) (by omega)) (fun y4 a4 => ?_) (fun e=>Ok.err)
    refine Rn.bind (D4 y4.2 _) (fun y5 a5 => ?_) (fun e=>Ok.err)
    have l4:=a4.2.len
    have l5:=a5.len
    refine Rn.ok ⟨⟨Z0w (by simp [hp.1,a4.1]) (by simp) (by simp) (show Q2h 8≤2 by decide),((a23.trans a4.2).trans a5).mono ?_⟩,by dsimp only; omega⟩
    dsimp only
    rw [wEk,sm2]
    omega
  rw [c0 (df h1)]
  have dot:m ≠ []→Rn ((K9 x2 9).bind fun y6=>(K8 y6.2).bind fun y7=>exC y7 (fun y7=>some (Lp.go (({y6.1 with Name:=y7.1,Kids:=([x1]:List Z6)} : Z6),y7.2))) (fun e3=>some (Lp.ret (Except.error (e3.1,e3.2))))) (NxR (fun s=>PE r s) (fun s=>s.2.l.length) (x1,x2) (fun o=>o.thn (fun(x1,x2)=>none) (fun r=>some r)) (PE r)):=by
    intro hm
    obtain⟨p,o,y6,e6,ho,a6⟩:=Q0n hr2 9 (hne hm)
    refine Rn.step e6 ?_
    have a26:=hp.2.trans a6
    refine Rn.bind (Q3j (hr.after a26)) (fun y7 a7 => ?_) (fun e=>Ok.err)
    have l6:=a6.len
    have l7:=a7.2.len
    dsimp only at l6 l7
    refine Rn.ok ⟨⟨Z0w (by simp [hp.1]) ho a7.1 (show Q2h 9≤1 by decide),(a26.trans a7.2).mono ?_⟩,by dsimp only; omega⟩
    dsimp only
    rw [wEk,sm1]
    omega
  have inc:m ≠ []→Rn ((K9 x2 11).bind fun y8=>some (Lp.go (({y8.1 with Kids:=([x1]:List Z6)} : Z6),y8.2))) (NxR (R:=Except (Q8×Q1) (Z6×Q1)) (fun s=>PE r s) (fun s=>s.2.l.length) (x1,x2) (fun o=>o.thn (fun(x1,x2)=>none) (fun r=>some r)) (PE r)):=by
    intro hm
    obtain⟨p,o,y8,e8,ho,a8⟩:=Q0n hr2 11 (hne hm)
    refine Rn.step e8 ?_
    have l8:=a8.len
    dsimp only at l8
    refine Rn.ok ⟨⟨Z0w (by simp [hp.1]) ho (by simp) (show Q2h 11≤1 by decide),(hp.2.trans a8).mono ?_⟩,by dsimp only; omega⟩
    dsimp only
    rw [wEk,sm1]
    omega
  by_cases h2:m = [46]
  · rw [c1 (dt h2),c1 (dt h2)]
    exact dot (by rw [h2]; simp)
  rw [c0 (df h2)]
  by_cases h3:m = [45,62]
  · rw [c1 (dt h3)]
    exact dot (by rw [h3]; simp)
  rw [c0 (df h3)]
  by_cases h4:m = [43,43]
  · rw [c1 (dt h4),c1 (dt h4)]
    exact inc (by rw [h4]; simp)
  rw [c0 (df h4)]
  by_cases h5:m = [45,45]
  · rw [c1 (dt h5)]
    exact inc (by rw [h5]; simp)
  rw [c0 (df h5)]
  exact Rn.ok (Ok.ok hp)
theorem unary_s {n:Nat} (h:S1 n) : ∀ r,Rd r→10 * r.l.length+3≤n+1→Ok ((C1 (n+1)).K5 r) (PE r):=by
  intro r hr hn
  show Ok (M5 (C1 n) r) _
  unfold M5
  refine(Q5x hr).bind fun y1 d1 => ?_
  have hr1:=hr.down d1
  obtain⟨m,em,hm,hne⟩:=Q5j hr1
  refine Ok.step em ?_
  dsimp only [jn]
  have l1:y1.l.length=r.l.length:=by rw [d1.1]
  have op : ∀ k:Int,Q2h k≤1→m ≠ []→Ok ((K9 y1 k).bind fun y3=>((C1 n).K5 y3.2).bind fun y4=>exC y4 (fun y4=>some (Except.ok (ε := Q8×Q1) (({y3.1 with Kids:=([y4.1]:List Z6)} : Z6),{y4.2 with depth:=IntKind.wrap .i64 (y4.2.depth - 1)}))) (fun e1=>some (Except.error (e1.1,{e1.2 with depth:=IntKind.wrap .i64 (e1.2.depth - 1)})))) (PE r):=by
    intro k hk hm
    obtain⟨p,o,y3,e3,ho,a3⟩:=Q0n hr1 k (hne hm)
    refine Ok.step e3 ?_
    have l3:=a3.len
    refine Ok.bind (g:=fun e:Q8×Q1=>(e.1,{e.2 with depth:=IntKind.wrap .i64 (e.2.depth - 1)})) (h.unary y3 (hr1.after a3) (by omega)) fun y4 a4 => ?_
    refine Ok.ok ⟨Z0w (by simp [a4.1]) ho (by simp) hk,(Af.up hr d1 (a3.trans a4.2)).mono ?_⟩
    dsimp only
    rw [wEk,sm1]
    omega
  have rest:Ok ((G6 y1).bind fun y7=>(Y4 y1 ([115,105,122,101,111,102]:List UInt8)).bind fun y8=>bif y8.1 then ((Y0 y8.2 ([40]:List UInt8)).bind fun y9=>exC y9 (fun y9=>(J5 y9).bind fun y10=>exC y10 (fun y10=>(Y0 y10.2 ([41]:List UInt8)).bind fun y11=>exC y11 (fun y11=>some (Except.ok (ε := Q8×Q1) ((⟨12,y7,([]:List UInt8),([]:List UInt8),0,y10.1,[]⟩:Z6),{y11 with depth:=IntKind.wrap .i64 (y11.depth - 1)}))) (fun e4=>some (Except.error (e4.1,{e4.2 with depth:=IntKind.wrap .i64 (e4.2.depth - 1)})))) (fun e3=>some (Except.error (e3.1,{e3.2 with depth:=IntKind.wrap .i64 (e3.2.depth - 1)})))) (fun e5=>some (Except.error (e5.1,{e5.2 with depth:=IntKind.wrap .i64 (e5.2.depth - 1)})))) else (((C1 n).F2 y8.2).bind fun y12=>exC y12 (fun y12=>some (Except.ok (y12.1,{y12.2 with depth:=IntKind.wrap .i64 (y12.2.depth - 1)}))) (fun e6=>some (Except.error (e6.1,{e6.2 with depth:=IntKind.wrap .i64 (e6.2.depth - 1)}))))) (PE r):=by
    obtain⟨p,ep⟩:=Q3t y1
    refine Ok.step ep ?_
    obtain⟨b,y8,e8,a8⟩:=B1 y1 [115,105,122,101,111,102]
    refine Ok.step e8 ?_
    have hr8:=hr1.after a8
    have l8:=a8.len
    let g:Q8×Q1→Q8×Q1:=fun e=>(e.1,{e.2 with depth:=IntKind.wrap .i64 (e.2.depth - 1)})
    cases b with
    | true =>
      refine Ok.bind (g:=g) (D4 y8 _) fun y9 a9 => ?_
      refine Ok.bind (g:=g) (Q1v (hr8.after a9)) fun y10 a10 => ?_
      refine Ok.bind (g:=g) (D4 y10.2 _) fun y11 a11 => ?_
      refine Ok.ok ⟨.mk (by simp) (by simp) (by simp) a10.1 (show Q2h 12≤0 by decide),(Af.up hr d1 (((a8.trans a9).trans a10.2).trans a11)).mono ?_⟩
      rw [Z0d]
      simp [sm]
      omega
    | false =>
      refine Ok.bind (g:=g) (h.post y8 hr8 (by omega)) fun y12 a12 => ?_
      exact Ok.ok ⟨a12.1,(Af.up hr d1 (a8.trans a12.2)).mono (by dsimp only; omega)⟩
  by_cases h1:m = [45]
  · rw [c1 (dt h1),c1 (dt h1)]; exact op 3 (by decide) (by rw [h1]; simp)
  rw [c0 (df h1)]
  by_cases h2:m = [126]
  · rw [c1 (dt h2),c1 (dt h2)]; exact op 3 (by decide) (by rw [h2]; simp)
  rw [c0 (df h2)]
  by_cases h3:m = [33]
  · rw [c1 (dt h3),c1 (dt h3)]; exact op 3 (by decide) (by rw [h3]; simp)
  rw [c0 (df h3)]
  by_cases h4:m = [42]
  · rw [c1 (dt h4),c1 (dt h4)]; exact op 3 (by decide) (by rw [h4]; simp)
  rw [c0 (df h4)]
  by_cases h5:m = [38]
  · rw [c1 (dt h5)]; exact op 3 (by decide) (by rw [h5]; simp)
  rw [c0 (df h5)]
  by_cases h6:m = [43,43]
  · rw [c1 (dt h6),c1 (dt h6)]; exact op 10 (by decide) (by rw [h6]; simp)
  rw [c0 (df h6)]
  by_cases h7:m = [45,45]
  · rw [c1 (dt h7)]; exact op 10 (by decide) (by rw [h7]; simp)
  rw [c0 (df h7)]
  exact rest
theorem prime_s {n:Nat} (h:S1 n) : ∀ r,Rd r→10 * r.l.length+1≤n+1→Ok ((C1 (n+1)).F8 r) (PE r):=by
  intro r hr hn
  show Ok (P7 (C1 n) r) _
  unfold P7
  obtain⟨p,ep⟩:=Q3t r
  refine Ok.step ep ?_
  dsimp only [jn]
  have lr:=hr.len
  obtain⟨b,y2,e2,a2⟩:=B1 r [40]
  refine Ok.step e2 ?_
  have l2:=a2.len
  cases b with
  | true =>
    dsimp only [cond_true] at a2 l2
    refine(h.assign y2 (hr.after a2) (by omega)).bind fun y3 a3 => ?_
    refine(D4 y3.2 _).bind fun y4 a4 => ?_
    exact Ok.ok ⟨a3.1,((a2.trans a3.2).trans a4).mono (by dsimp only; omega)⟩
  | false =>
  obtain⟨b,y5,e5,a5⟩:=B1 y2 [105,110]
  refine Ok.step e5 ?_
  have a25:=a2.trans a5
  have l5:=a5.len
  cases b with
  | true =>
    refine(D4 y5 _).bind fun y6 a6 => ?_
    refine(D4 y6 _).bind fun y7 a7 => ?_
    exact Ok.ok ⟨Z0w (by simp) (by simp) (by simp) (show Q2h 7≤0 by decide),((a25.trans a6).trans a7).mono (by dsimp only; rw [wEk]; simp [sm])⟩
  | false =>
  obtain⟨b,y8,e8,a8⟩:=B1 y5 [111,117,116]
  refine Ok.step e8 ?_
  have a28:=a25.trans a8
  have l8:=a8.len
  have hr8:=hr.after a28
  cases b with
  | true =>
    dsimp only [cond_true] at l8
    refine(h.bracketed y8 hr8 (by dsimp only [cond_false] at l2 l5; omega)).bind fun y9 a9 => ?_
    exact Ok.ok ⟨Z0w a9.1 (by simp) (by simp) (show Q2h 7≤_ from Nat.zero_le _),(a28.trans a9.2).mono (by dsimp only; rw [wEk]; dsimp only [cond_false]; omega)⟩
  | false =>
  have nm:Ok ((K8 y8).bind fun y11=>exC y11 (fun y11=>(U0 y11.2 ([40]:List UInt8)).bind fun y12=>bif y12 then (((C1 n).G1 y11.2).bind fun y13=>exC y13 (fun y13=>some (Except.ok (ε := Q8×Q1) ((⟨7,p,([]:List UInt8),y11.1,0,(⟨([]:List UInt8),([]:List UInt8),0⟩:G5),y13.1⟩:Z6),y13.2))) (fun e7=>some (Except.error (e7.1,e7.2)))) else (some (Except.ok ((⟨2,p,([]:List UInt8),y11.1,0,(⟨([]:List UInt8),([]:List UInt8),0⟩:G5),[]⟩:Z6),y11.2)))) (fun e8=>some (Except.error (e8.1,e8.2)))) (PE r):=by
    refine(Q3j hr8).bind fun y11 a11 => ?_
    obtain⟨b,e12,_⟩:=Q2w y11.2 [40]
    refine Ok.step e12 ?_
    have l11:=a11.2.len
    cases b with
    | true =>
      refine(h.handed y11.2 (hr8.after a11.2) (by dsimp only [cond_false] at l2 l5 l8; omega)).bind fun y13 a13 => ?_
      exact Ok.ok ⟨Z0w a13.1 (by simp) a11.1 (show Q2h 7≤_ from Nat.zero_le _),((a28.trans a11.2).trans a13.2).mono (by dsimp only; rw [wEk]; dsimp only [cond_false]; omega)⟩
    | false=>exact Ok.ok ⟨Z0w (by simp) (by simp) a11.1 (show Q2h 2≤0 by decide),(a28.trans a11.2).mono (by dsimp only; rw [wEk]; simp [sm])⟩
  cases hl:y8.l with
  | nil =>
    rw [c0 (df (by simp))]
    exact nm
  | cons t l =>
    rw [c1 (dt (by simp only [List.length_cons]; omega))]
    dsimp only [cond_false]
    refine Ok.step (x:=t) rfl ?_
    by_cases hk:t.Kind=3
    · rw [c1 (by rw [hk]; rfl)]
      refine(Q9g y8 3).bind fun y10 a10 => ?_
      exact Ok.ok ⟨Z0w (by simp) (by simp) (by simp) (show Q2h 1≤0 by decide),(a28.trans a10.2).mono (by dsimp only; rw [wEk]; simp [sm])⟩
    · rw [c0 (by simpa using hk)]
      exact nm
theorem rdS1 : ∀ n,S1 n
  | 0=>⟨fun r _ h=>by omega,fun r _ h=>by omega,fun r _ h=>by omega,fun r _ h=>by omega,fun r _ h=>by omega,fun r k _ h=>by omega,fun r _ h=>by omega,fun r _ h=>by omega⟩
  | n+1=>⟨Z5b (rdS1 n),handed_s (rdS1 n),prime_s (rdS1 n),post_s (rdS1 n),unary_s (rdS1 n),binary_s (rdS1 n),cond_s (rdS1 n),assign_s (rdS1 n)⟩
theorem Q5z {r:Q1} (hr:Rd r):Ok (Y2 r) (PE r):=(rdS1 NN).assign r hr (by have:=hr.len; unfold NN; omega)
theorem Q3f {r:Q1} (hr:Rd r):Ok (K1 r) (PL r 2):=(rdS1 NN).bracketed r hr (by have:=hr.len; unfold NN; omega)
theorem Z2g {r:Q1} (hr:Rd r) {v:J8} (ht:OkT v.Type_) (hn:v.Name.length≤70000):Ok (C5 r v) (fun x=>OkV x.1∧x.1.Type_=v.Type_∧Af r x.2 (x.1.Dims.length+sm wE x.1.Init+1)):=by
  unfold C5
  have lr:=hr.len
  refine(Z5a hr).bind fun y1 a1 => ?_
  dsimp only [jn]
  have fin : ∀(x3:J8) (x4:Q1),OkV x3→x3.Type_=v.Type_→Af r x4 (x3.Dims.length+sm wE x3.Init)→Ok ((Y0 x4 ([59]:List UInt8)).bind fun y10=>exC y10 (fun y10=>some (Except.ok (ε := Q8×Q1) (x3,y10))) (fun e6=>some (Except.error (e6.1,e6.2)))) (fun x=>OkV x.1∧x.1.Type_=v.Type_∧Af r x.2 (x.1.Dims.length+sm wE x.1.Init+1)):=by
    intro x3 x4 h1 h2 h3
    exact(D4 x4 _).bind fun y a=>Ok.ok ⟨h1,h2,h3.trans a⟩
  obtain⟨b,y2,e2,a2⟩:=B1 y1.2 [61]
  refine Ok.step e2 ?_
  have a12:=a1.trans a2
  cases b with
  | false=>exact fin _ _ ⟨hn,ht,by simp⟩ rfl (a12.mono (by simp [sm]))
  | true =>
    obtain⟨c,y3,e3,a3⟩:=B1 y2 [123]
    dsimp only [cond_true]
    refine Ok.step e3 ?_
    have a13:=a12.trans a3
    refine(Q5z (hr.after a13)).bind fun y4 a4 => ?_
    refine Ok.step (R1 (by simp)) ?_
    have a14:=a13.trans a4.2
    refine Ok.loop (fun s=>OkV s.1∧s.1.Type_=v.Type_∧Af r s.2 (s.1.Dims.length+sm wE s.1.Init)) (fun s=>s.2.l.length) ⟨⟨hn,ht,by simpa using a4.1⟩,rfl,a14.mono (by dsimp only; rw [List.nil_append,sm1]; omega)⟩ (by have:=a14.len; dsimp only; omega) ?_
    rintro⟨x7,x8⟩ ⟨i1,i2,i3⟩
    dsimp only at i1 i2 i3 ⊢
    have li:=i3.len
    have hx:=M0 Q0a x7.Init
    have stop : ∀ y5,Af r y5 (x7.Dims.length+sm wE x7.Init)→Ok (bif x7.Brace then ((Y0 y5 ([125]:List UInt8)).bind fun y7=>exC y7 (fun y7=>(Y0 y7 ([59]:List UInt8)).bind fun y10=>exC y10 (fun y10=>some (Except.ok (ε := Q8×Q1) (x7,y10))) (fun e6=>some (Except.error (e6.1,e6.2)))) (fun e2=>some (Except.error (e2.1,e2.2)))) else ((Y0 y5 ([59]:List UInt8)).bind fun y10=>exC y10 (fun y10=>some (Except.ok (ε := Q8×Q1) (x7,y10))) (fun e6=>some (Except.error (e6.1,e6.2))))) (fun x=>OkV x.1∧x.1.Type_=v.Type_∧Af r x.2 (x.1.Dims.length+sm wE x.1.Init+1)):=by
      intro y5 h5
      cases x7.Brace with
      | true=>exact(D4 y5 _).bind fun y7 a7=>fin _ _ i1 i2 ((h5.trans a7).mono (by omega))
      | false=>exact fin _ _ i1 i2 h5
    cases hb:x7.Brace with
    | false =>
      refine Rn.ok ?_
      have:=stop x8 i3
      rw [hb] at this
      dsimp only [NxR,Lp.thn]
      rw [hb]
      exact this
    | true =>
      obtain⟨b,y5,e5,a5⟩:=B1 x8 [44]
      dsimp only [cond_true]
      refine Rn.step e5 ?_
      have a35:=i3.trans a5
      have l5:=a5.len
      cases b with
      | false =>
        refine Rn.ok ?_
        have:=stop y5 (a35.mono (by omega))
        rw [hb] at this
        dsimp only [NxR,Lp.thn]
        rw [hb]
        exact this
      | true =>
        dsimp only [cond_true] at l5
        refine Rn.bind (Q5z (hr.after a35)) (fun y6 a6 => ?_) (fun e=>Ok.err)
        refine Rn.step (R1 (by simp; omega)) ?_
        have l6:=a6.2.len
        dsimp only at l6
        refine Rn.ok ⟨⟨⟨i1.name,i1.ty,?_⟩,i2,(a35.trans a6.2).mono (by dsimp only [cond_true]; rw [Q0t,sm1]; omega)⟩,by dsimp only; omega⟩
        intro y hy
        rcases List.mem_append.1 hy with hy | hy
        · exact i1.init y hy
        · have:y=y6.1:=by simpa using hy
          rw [this]; exact a6.1
theorem Z3f {r:Q1} (hr:Rd r):Ok (I4 r) (fun x=>OkV x.1∧Af r x.2 (wV x.1+2)):=by
  unfold I4
  obtain⟨p,ep⟩:=Q3t r
  refine Ok.step ep ?_
  refine(Q1v hr).bind fun y2 a2 => ?_
  refine(Q3j (hr.after a2.2)).bind fun y3 a3 => ?_
  have a23:=a2.2.trans a3.2
  refine(Z2g (hr.after a23) (v:=⟨p,y2.1,y3.1,[],[],false⟩) a2.1 a3.1).bind fun y4 a4 => ?_
  refine Ok.ok ⟨a4.1,(a23.trans a4.2.2).mono ?_⟩
  have h:wV y4.1=1+y4.1.Type_.Stars.toNat+y4.1.Dims.length+sm wE y4.1.Init:=rfl
  dsimp only
  rw [h,a4.2.1]
  dsimp only
  omega
theorem Z4p (r:Q1) (k:Nat) (m:List UInt8) : ∃ b,M1 r (k:Int) m=some b:=by
  unfold M1
  by_cases h:k < r.l.length
  · rw [c1 (dlt h),N8 h,Option.bind_some]
    by_cases ht:r.l[k].Text=m
    · rw [c1 (dt ht),Option.bind_some]
      cases(r.l[k].Kind == 2) <;> exact⟨_,rfl⟩
    · rw [c0 (df ht)]
      exact⟨_,rfl⟩
  · rw [c0 (df (by omega))]
    exact⟨_,rfl⟩
theorem wV0 {p:Pos} {t:G5} {s:List UInt8} {b:Bool} {d:List Int} : wV ⟨p,t,s,d,[],b⟩=1+t.Stars.toNat+d.length:=rfl
theorem Z5r {r:Q1} (hr:Rd r):Ok (A9 r) (fun x=>(∀ v ∈ x.1,OkV v)∧Af r x.2 (sm wV x.1+2)):=by
  unfold A9
  have lr:=hr.len
  refine(D4 r _).bind fun y1 a1 => ?_
  dsimp only [jn]
  have key : ∀ x1,Af r x1 1→Ok ((Y4 x1 ([41]:List UInt8)).bind fun y5=>bif y5.1 then (some (Except.ok ([],y5.2))) else ((V7 (fun(x2,x3)=>((G6 x3).bind fun y6=>(J5 x3).bind fun y7=>exC y7 (fun y7=>(K8 y7.2).bind fun y8=>exC y8 (fun y8=>(Q0q (List.length x2+List.length ([(⟨y6,y7.1,y8.1,[],[],false⟩:J8)]:List J8))).bind fun _=>(Y4 y8.2 ([44]:List UInt8)).bind fun y9=>bif !y9.1 then ((Y0 y9.2 ([41]:List UInt8)).bind fun y10=>exC y10 (fun y10=>some (Lp.ret (Except.ok (x2++([(⟨y6,y7.1,y8.1,[],[],false⟩:J8)]:List J8),y10)))) (fun e2=>some (Lp.ret (Except.error (e2.1,e2.2))))) else (some (Lp.go (x2++([(⟨y6,y7.1,y8.1,[],[],false⟩:J8)]:List J8),y9.2)))) (fun e3=>some (Lp.ret (Except.error (e3.1,e3.2))))) (fun e4=>some (Lp.ret (Except.error (e4.1,e4.2)))):Option (Lp ((List J8)×Q1) (Except (Q8×Q1) ((List J8)×Q1))))) NN ([],y5.2)).bind fun o=>o.thn (fun(x2,x3)=>none) (fun r=>some r))) (fun x=>(∀ v ∈ x.1,OkV v)∧Af r x.2 (sm wV x.1+2)):=by
    intro x1 h1
    obtain⟨b,y5,e5,a5⟩:=B1 x1 [41]
    refine Ok.step e5 ?_
    have a15:=h1.trans a5
    cases b with
    | true=>exact Ok.ok ⟨by simp,a15.mono (by simp [sm])⟩
    | false =>
      refine Ok.loop (fun s=>(∀ v ∈ s.1,OkV v)∧Af r s.2 (sm wV s.1+1)) (fun s=>s.2.l.length) ⟨by simp,a15.mono (by simp [sm])⟩ (by have:=a15.len; dsimp only; omega) ?_
      rintro⟨x2,x3⟩ ⟨i1,i2⟩
      dsimp only at i1 i2 ⊢
      have li:=i2.len
      have hx:=M0 Q2j x2
      obtain⟨p,ep⟩:=Q3t x3
      refine Rn.step ep ?_
      refine Rn.bind (Q1v (hr.after i2)) (fun y7 a7 => ?_) (fun e=>Ok.err)
      have a37:=i2.trans a7.2
      refine Rn.bind (Q3j (hr.after a37)) (fun y8 a8 => ?_) (fun e=>Ok.err)
      have a38:=a37.trans a8.2
      refine Rn.step (R1 (by simp; omega)) ?_
      obtain⟨b,y9,e9,a9⟩:=B1 y8.2 [44]
      refine Rn.step e9 ?_
      have a39:=a38.trans a9
      have hv : ∀ v ∈ x2 ++ [(⟨p,y7.1,y8.1,[],[],false⟩:J8)],OkV v:=by
        intro v hv
        rcases List.mem_append.1 hv with hv | hv
        · exact i1 v hv
        · have:v=⟨p,y7.1,y8.1,[],[],false⟩:=by simpa using hv
          rw [this]
          exact⟨a8.1,a7.1,by simp⟩
      have hw:sm wV (x2 ++ [(⟨p,y7.1,y8.1,[],[],false⟩:J8)])=sm wV x2+(1+y7.1.Stars.toNat):=by
        rw [Q0t,B3,wV0]
        simp [sm]
      have l7:=a7.2.len
      have l8:=a8.2.len
      have l9:=a9.len
      cases b with
      | false =>
        refine Rn.bind (D4 y9 _) (fun y10 a10 => ?_) (fun e=>Ok.err)
        exact Rn.ok (Ok.ok ⟨hv,(a39.trans a10).mono (by dsimp only; rw [hw]; dsimp only [cond_false]; omega)⟩)
      | true =>
        exact Rn.ok ⟨⟨hv,a39.mono (by dsimp only; rw [hw]; dsimp only [cond_true]; omega)⟩,by dsimp only [cond_true] at l9 ⊢; omega⟩
  obtain⟨b,e2,_⟩:=Q2w y1 [118,111,105,100]
  refine Ok.step e2 ?_
  cases b with
  | false=>exact key y1 a1
  | true =>
    obtain⟨c,e3⟩:=Z4p y1 1 [41]
    refine Ok.step e3 ?_
    cases c with
    | false=>exact key y1 a1
    | true=>exact(D4 y1 _).bind fun y4 a4=>key y4 ((a1.trans a4).mono (by omega))
theorem Z5x {r:Q1} (hr:Rd r):Ok (L9 r) (fun x=>(∀ v ∈ x.1,OkV v)∧Af r x.2 (sm wV x.1+3)):=by
  unfold L9
  have lr:=hr.len
  refine(D4 r _).bind fun y1 a1 => ?_
  refine Ok.loop (fun s=>(∀ v ∈ s.1,OkV v)∧Af r s.2 (sm wV s.1+1)) (fun s=>s.2.l.length) ⟨by simp,a1.mono (by simp [sm])⟩ (by have:=a1.len; dsimp only; omega) ?_
  rintro⟨x1,x2⟩ ⟨i1,i2⟩
  dsimp only at i1 i2 ⊢
  have li:=i2.len
  have hx:=M0 Q2j x1
  obtain⟨b,y2,e2,a2⟩:=B1 x2 [125]
  refine Rn.step e2 ?_
  have a12:=i2.trans a2
  have l2:=a12.len
  cases b with
  | true =>
    dsimp only [cond_true,cond_false,Bool.not_true] at a12 ⊢
    refine Rn.ok ?_
    refine(D4 y2 _).bind fun y8 a8=>Ok.ok ⟨i1,(a12.trans a8).mono (by dsimp only; omega)⟩
  | false =>
    dsimp only [cond_true,cond_false,Bool.not_false] at a12 l2 ⊢
    obtain⟨p,ep⟩:=Q3t y2
    refine Rn.step ep ?_
    refine Rn.bind (Q1v (hr.after a12)) (fun y4 a4 => ?_) (fun e=>Ok.err)
    have a24:=a12.trans a4.2
    refine Rn.bind (Q3j (hr.after a24)) (fun y5 a5 => ?_) (fun e=>Ok.err)
    have a25:=a24.trans a5.2
    refine Rn.bind (Z5a (hr.after a25)) (fun y6 a6 => ?_) (fun e=>Ok.err)
    have a26:=a25.trans a6
    refine Rn.bind (D4 y6.2 _) (fun y7 a7 => ?_) (fun e=>Ok.err)
    have a27:=a26.trans a7
    have l7:=a27.len
    have l3:=a2.len
    have l4:=a4.2.len
    have l5:=a5.2.len
    have l6:=a6.len
    have l8:=a7.len
    refine Rn.step (R1 (by simp; omega)) ?_
    refine Rn.ok ⟨⟨?_,a27.mono ?_⟩,by dsimp only at *; omega⟩
    · intro v hv
      rcases List.mem_append.1 hv with hv | hv
      · exact i1 v hv
      · have:v=⟨p,y4.1,y5.1,y6.1,[],false⟩:=by simpa using hv
        rw [this]
        exact⟨a5.1,a4.1,by simp⟩
    · dsimp only
      rw [Q0t,B3,wV0]
      simp only [sm,List.map_nil,List.sum_nil]
      omega
theorem Q4w {r:Q1} (hr:Rd r) (m:List UInt8):Ok (M6 r m) (PL r 1):=by
  unfold M6
  obtain⟨b,y1,e1,a1⟩:=B1 r m
  refine Ok.step e1 ?_
  cases b with
  | true=>exact Ok.ok ⟨by simp,a1.mono (by simp [sm])⟩
  | false =>
    refine(Q5z (hr.after a1)).bind fun y2 a2 => ?_
    refine(D4 y2.2 _).bind fun y3 a3 => ?_
    exact Ok.ok ⟨by simpa using a2.1,((a1.trans a2.2).trans a3).mono (by dsimp only; rw [sm1]; omega)⟩
theorem okS {k:Int} {p:Pos} {A B C:List Z6} {V:List J8} {S E:List U5} {D:List K7} (a : ∀ y ∈ A,OkE y) (b : ∀ y ∈ B,OkE y) (c : ∀ y ∈ C,OkE y) (v : ∀ y ∈ V,OkV y) (s : ∀ y ∈ S,OkS y) (e : ∀ y ∈ E,OkS y) (d : ∀ c ∈ D,∀ y ∈ c.Body,OkS y):OkS ⟨k,p,A,B,C,V,S,E,D⟩ := .mk a b c v s e d
theorem wSk {k:Int} {p:Pos} {A B C:List Z6} {V:List J8} {S E:List U5} {D:List K7} : wS ⟨k,p,A,B,C,V,S,E,D⟩=1+sm wE A+sm wE B+sm wE C+sm wV V+sm wS S+sm wS E+sm wC D:=Z0c _
theorem sm0 {α : Type} (w : α → Nat):sm w []=0:=rfl
theorem no {α : Type} {p : α → Prop} : ∀ y ∈ ([]:List α),p y:=fun y hy=>by cases hy
theorem Z6z {r:Q1} (hr:Rd r) (p:Pos):Ok (R4 r ⟨0,p,[],[],[],[],[],[],[]⟩) (fun x=>OkS x.2∧Af r x.1 (wS x.2)):=by
  unfold R4
  obtain⟨b,y1,e1,a1⟩:=B1 r [114,101,116,117,114,110]
  refine Ok.step e1 ?_
  cases b with
  | true =>
    refine(Q4w (hr.after a1) _).bind fun y2 a2 => ?_
    exact Ok.ok ⟨okS a2.1 no no no no no no,(a1.trans a2.2).mono (by dsimp only [cond_true]; rw [wSk]; simp only [sm0]; omega)⟩
  | false =>
  obtain⟨b,y3,e3,a3⟩:=B1 y1 [98,114,101,97,107]
  refine Ok.step e3 ?_
  have a13:=a1.trans a3
  cases b with
  | true =>
    refine(D4 y3 _).bind fun y4 a4 => ?_
    exact Ok.ok ⟨okS no no no no no no no,(a13.trans a4).mono (by dsimp only [cond_true,cond_false]; rw [wSk]; simp only [sm0]; omega)⟩
  | false =>
  obtain⟨b,y5,e5,a5⟩:=B1 y3 [99,111,110,116,105,110,117,101]
  refine Ok.step e5 ?_
  have a15:=a13.trans a5
  cases b with
  | true =>
    refine(D4 y5 _).bind fun y6 a6 => ?_
    exact Ok.ok ⟨okS no no no no no no no,(a15.trans a6).mono (by dsimp only [cond_true,cond_false]; rw [wSk]; simp only [sm0]; omega)⟩
  | false =>
    refine(Q5z (hr.after a15)).bind fun y7 a7 => ?_
    refine(D4 y7.2 _).bind fun y8 a8 => ?_
    exact Ok.ok ⟨okS (by simpa using a7.1) no no no no no no,((a15.trans a7.2).trans a8).mono (by dsimp only [cond_false]; rw [wSk,sm1]; simp only [sm0]; omega)⟩
def PB (r:Q1) (k:Nat) (x:List U5×Q1):Prop:=(∀ y ∈ x.1,OkS y)∧Af r x.2 (sm wS x.1+k)
def PC (r:Q1) (k:Nat) (x:List K7×Q1):Prop:=(∀ c ∈ x.1,∀ y ∈ c.Body,OkS y)∧Af r x.2 (sm wC x.1+k)
def PS (r:Q1) (x:U5×Q1):Prop:=OkS x.1∧Af r x.2 (wS x.1)
structure S2 (n:Nat):Prop where
  block : ∀ r,Rd r→10 * r.l.length+1≤n→Ok ((Q4k n).F0 r) (PB r 2)
  cases_ : ∀ r,Rd r→10 * r.l.length+1≤n→Ok ((Q4k n).B8 r) (PC r 2)
  stmt : ∀ r,Rd r→10 * r.l.length+2≤n→Ok ((Q4k n).J3 r) (PS r)
  body : ∀ r,Rd r→10 * r.l.length+3≤n→Ok ((Q4k n).U9 r) (PB r 0)
theorem body_s {n:Nat} (h:S2 n) : ∀ r,Rd r→10 * r.l.length+3≤n+1→Ok ((Q4k (n+1)).U9 r) (PB r 0):=by
  intro r hr hn
  show Ok (O0 (Q4k n) r) _
  unfold O0
  refine(h.stmt r hr (by omega)).bind fun y1 a1 => ?_
  have hw:=Z0c y1.1
  cases hk:(y1.1.Kind == 11) with
  | true=>exact Ok.ok ⟨match a1.1 with | .mk a b c v s e d=>s,a1.2.mono (by dsimp only; omega)⟩
  | false=>exact Ok.ok ⟨by simpa using a1.1,a1.2.mono (by dsimp only; rw [B3,sm0]; omega)⟩
theorem block_s {n:Nat} (h:S2 n) : ∀ r,Rd r→10 * r.l.length+1≤n+1→Ok ((Q4k (n+1)).F0 r) (PB r 2):=by
  intro r hr hn
  show Ok (L2 (Q4k n) r) _
  unfold L2
  have lr:=hr.len
  refine(D4 r _).bind fun y1 a1 => ?_
  refine Ok.loop (fun s=>(∀ y ∈ s.1,OkS y)∧Af r s.2 (sm wS s.1+1)) (fun s=>s.2.l.length) ⟨no,a1.mono (by simp [sm])⟩ (by have:=a1.len; dsimp only; omega) ?_
  rintro⟨x1,x2⟩ ⟨i1,i2⟩
  dsimp only at i1 i2 ⊢
  have li:=i2.len
  have hx:=M0 Q2k x1
  obtain⟨b,y2,e2,a2⟩:=B1 x2 [125]
  refine Rn.step e2 ?_
  have a12:=i2.trans a2
  have l2:=a12.len
  have l3:=a2.len
  cases b with
  | true =>
    dsimp only [cond_true,cond_false,Bool.not_true] at a12 ⊢
    exact Rn.ok (Ok.ok ⟨i1,a12.mono (by dsimp only; omega)⟩)
  | false =>
    dsimp only [cond_true,cond_false,Bool.not_false] at a12 l2 l3 ⊢
    refine Rn.bind (h.stmt y2 (hr.after a12) (by omega)) (fun y3 a3 => ?_) (fun e=>Ok.err)
    have a13:=a12.trans a3.2
    have l4:=a3.2.len
    have hp:=Q2k y3.1
    refine Rn.step (R1 (by simp; omega)) ?_
    refine Rn.ok ⟨⟨?_,a13.mono (by dsimp only; rw [Q0t,B3,sm0]; omega)⟩,by dsimp only; omega⟩
    intro y hy
    rcases List.mem_append.1 hy with hy | hy
    · exact i1 y hy
    · have:y=y3.1:=by simpa using hy
      rw [this]; exact a3.1
theorem cases_s {n:Nat} (h:S2 n) : ∀ r,Rd r→10 * r.l.length+1≤n+1→Ok ((Q4k (n+1)).B8 r) (PC r 2):=by
  intro r hr hn
  show Ok (L1 (Q4k n) r) _
  unfold L1
  have lr:=hr.len
  refine(D4 r _).bind fun y1 a1 => ?_
  have l1:=a1.len
  refine Ok.loop (fun s=>(∀ c ∈ s.1,∀ y ∈ c.Body,OkS y)∧Af r s.2 (sm wC s.1+1)) (fun s=>s.2.l.length) ⟨no,a1.mono (by simp [sm])⟩ (by dsimp only; omega) ?_
  rintro⟨x1,x2⟩ ⟨i1,i2⟩
  dsimp only at i1 i2 ⊢
  have li:=i2.len
  have hx:=M0 Z3e x1
  obtain⟨b,y2,e2,a2⟩:=B1 x2 [125]
  refine Rn.step e2 ?_
  have a12:=i2.trans a2
  have l2:=a12.len
  have l3:=a2.len
  cases b with
  | true =>
    dsimp only [cond_true,cond_false,Bool.not_true] at a12 ⊢
    exact Rn.ok (Ok.ok ⟨i1,a12.mono (by dsimp only; omega)⟩)
  | false =>
    dsimp only [cond_true,cond_false,Bool.not_false] at a12 l2 l3 ⊢
    obtain⟨p,ep⟩:=Q3t y2
    refine Rn.step ep ?_
    dsimp only [jn]
    have key : ∀(x4:K7) (x5:Q1),x4.Body = []→Af x2 x5 1→Rn ((Y0 x5 ([58]:List UInt8)).bind fun y8=>exC y8 (fun y8=>(V7 (fun(x7,x8)=>((U0 x8 ([99,97,115,101]:List UInt8)).bind fun y9=>bif !y9 then ((U0 x8 ([100,101,102,97,117,108,116]:List UInt8)).bind fun y10=>bif !y10 then ((U0 x8 ([125]:List UInt8)).bind fun y11=>bif !y11 then (((Q4k n).J3 x8).bind fun y12=>exC y12 (fun y12=>(Q0q (List.length x7.Body+List.length ([y12.1]:List U5))).bind fun _=>some (Lp.go ({x7 with Body:=x7.Body++([y12.1]:List U5)},y12.2))) (fun e3=>some (Lp.ret (Except.error (e3.1,e3.2))))) else (some (Lp.brk (x7,x8)))) else (some (Lp.brk (x7,x8)))) else (some (Lp.brk (x7,x8))):Option (Lp (K7×Q1) (Except (Q8×Q1) ((List K7)×Q1))))) NN (x4,y8)).bind fun o=>o.thn (fun(x7,x8)=>(Q0q (List.length x1+List.length ([x7]:List K7))).bind fun _=>some (Lp.go (x1++([x7]:List K7),x8))) (fun r=>some (Lp.ret r))) (fun e4=>some (Lp.ret (Except.error (e4.1,e4.2))))) (NxR (fun s=>(∀ c ∈ s.1,∀ y ∈ c.Body,OkS y)∧Af r s.2 (sm wC s.1+1)) (fun s=>s.2.l.length) (x1,x2) (fun o=>o.thn (fun(x1,x2)=>some (Except.ok (ε := Q8×Q1) (x1,x2))) (fun r=>some r)) (PC r 2)):=by
      intro x4 x5 hb a5
      refine Rn.bind (D4 x5 _) (fun y8 a8 => ?_) (fun e=>Ok.err)
      have a28:=a5.trans a8
      have l8:=a28.len
      refine Exists.elim (Q5k (body:=(fun(x7,x8)=>((U0 x8 ([99,97,115,101]:List UInt8)).bind fun y9=>bif !y9 then ((U0 x8 ([100,101,102,97,117,108,116]:List UInt8)).bind fun y10=>bif !y10 then ((U0 x8 ([125]:List UInt8)).bind fun y11=>bif !y11 then (((Q4k n).J3 x8).bind fun y12=>exC y12 (fun y12=>(Q0q (List.length x7.Body+List.length ([y12.1]:List U5))).bind fun _=>some (Lp.go ({x7 with Body:=x7.Body++([y12.1]:List U5)},y12.2))) (fun e3=>some (Lp.ret (Except.error (e3.1,e3.2))))) else (some (Lp.brk (x7,x8)))) else (some (Lp.brk (x7,x8)))) else (some (Lp.brk (x7,x8))):Option (Lp (K7×Q1) (Except (Q8×Q1) ((List K7)×Q1)))))) (n:=NN) (s:=(x4,y8))
        (fun s=>(∀ y ∈ s.1.Body,OkS y)∧Af x2 s.2 (sm wS s.1.Body+2)) (fun s=>s.2.l.length)
        (fun o=>match o with
          | .go _=>False
          | .brk s=>(∀ y ∈ s.1.Body,OkS y)∧Af x2 s.2 (sm wS s.1.Body+2)
          | .ret z => ∃ e,z=Except.error e) ⟨by rw [hb]; exact no,by dsimp only; rw [hb]; exact a28.mono (by simp [sm])⟩ (Q6c (by dsimp only; omega)) ?_) ?_
      · rintro⟨x7,x8⟩ ⟨j1,j2⟩
        dsimp only at j1 j2 ⊢
        have lj:=j2.len
        have hx7:=M0 Q2k x7.Body
        obtain⟨b1,e1,_⟩:=Q2w x8 [99,97,115,101]
        rw [e1,Option.bind_some]
        cases b1 with
        | true=>exact⟨_,rfl,j1,j2⟩
        | false =>
        rw [c1 (b := !false) rfl]
        obtain⟨b1,e1,_⟩:=Q2w x8 [100,101,102,97,117,108,116]
        rw [e1,Option.bind_some]
        cases b1 with
        | true=>exact⟨_,rfl,j1,j2⟩
        | false =>
        rw [c1 (b := !false) rfl]
        obtain⟨b1,e1,_⟩:=Q2w x8 [125]
        rw [e1,Option.bind_some]
        cases b1 with
        | true=>exact⟨_,rfl,j1,j2⟩
        | false =>
        rw [c1 (b := !false) rfl]
        obtain⟨z,ez,hz⟩:=h.stmt x8 (hr.after (i2.trans j2)) (by omega)
        rw [ez,Option.bind_some]
        cases z with
        | error e=>exact⟨_,rfl,_,rfl⟩
        | ok y12 =>
          have lz:=hz.2.len
          have hp:=Q2k y12.1
          dsimp only [exC]
          rw [R1 (by simp; omega),Option.bind_some]
          refine⟨_,rfl,⟨?_,(j2.trans hz.2).mono (by dsimp only; rw [Q0t,B3,sm0]; omega)⟩,by dsimp only; omega⟩
          intro y hy
          rcases List.mem_append.1 hy with hy | hy
          · exact j1 y hy
          · have:y=y12.1:=by simpa using hy
            rw [this]; exact hz.1
      · rintro o ⟨ho,hp⟩
        rw [ho,Option.bind_some]
        cases o with
        | go _=>exact hp.elim
        | ret z =>
          obtain⟨e,rfl⟩:=hp
          exact Rn.ok Ok.err
        | brk s =>
          obtain⟨x7,x8⟩:=s
          obtain⟨j1,j2⟩:=hp
          dsimp only at j1 j2
          have lj:=j2.len
          have hwc:wC x7=1+sm wS x7.Body:=rfl
          refine Rn.step (R1 (by simp; omega)) ?_
          refine Rn.ok ⟨⟨?_,(i2.trans j2).mono (by dsimp only; rw [Q0t,B3,sm0]; omega)⟩,by dsimp only; omega⟩
          intro c hc
          rcases List.mem_append.1 hc with hc | hc
          · exact i1 c hc
          · have:c=x7:=by simpa using hc
            rw [this]; exact j1
    obtain⟨b,y4,e4,a4⟩:=B1 y2 [100,101,102,97,117,108,116]
    refine Rn.step e4 ?_
    have a24:=a2.trans a4
    cases b with
    | true=>exact key _ _ rfl (a24.mono (by simp))
    | false =>
      refine Rn.bind (D4 y4 _) (fun y5 a5 => ?_) (fun e=>Ok.err)
      obtain⟨b,y6,e6,a6⟩:=B1 y5 [45]
      refine Rn.step e6 ?_
      refine Rn.bind (Q9g y6 3) (fun y7 a7 => ?_) (fun e=>Ok.err)
      have a27:=((a24.trans a5).trans a6).trans a7.2
      cases b with
      | true=>exact key _ _ rfl (a27.mono (by simp))
      | false=>exact key _ _ rfl (a27.mono (by simp))
def gS (e:Q8×Q1):Q8×Q1:=(e.1,{e.2 with depth:=IntKind.wrap .i64 (e.2.depth - 1)})
theorem stmt_s {n:Nat} (h:S2 n) : ∀ r,Rd r→10 * r.l.length+2≤n+1→Ok ((Q4k (n+1)).J3 r) (PS r):=by
  intro r hr hn
  show Ok (L8 (Q4k n) r) _
  unfold L8
  refine(Q5x hr).bind fun y1 d1 => ?_
  have hr1:=hr.down d1
  have ld:y1.l.length=r.l.length:=by rw [d1.1]
  obtain⟨p,ep⟩:=Q3t y1
  refine Ok.step ep ?_
  dsimp only [jn]
  have fin : ∀(x1:U5) (x2:Q1),OkS x1→Af y1 x2 (wS x1)→Ok (some (Except.ok (ε := Q8×Q1) (x1,{x2 with depth:=IntKind.wrap .i64 (x2.depth - 1)}))) (PS r):=fun x1 x2 h1 h2=>Ok.ok ⟨h1,Af.up hr d1 h2⟩
  obtain⟨b,e3,_⟩:=Z2r y1
  refine Ok.step e3 ?_
  cases b with
  | true =>
    refine Ok.bind (g:=gS) (Z3f hr1) fun y4 a4 => ?_
    exact fin _ _ (okS no no no (by simpa using a4.1) no no no) (a4.2.mono (by rw [wSk,B3]; simp only [sm0]; omega))
  | false =>
  obtain⟨b,e5,_⟩:=Q2w y1 [123]
  refine Ok.step e5 ?_
  cases b with
  | true =>
    refine Ok.bind (g:=gS) (h.block y1 hr1 (by(try dsimp only at *); omega)) fun y6 a6 => ?_
    exact fin _ _ (okS no no no no a6.1 no no) (a6.2.mono (by rw [wSk]; simp only [sm0]; omega))
  | false =>
  obtain⟨b,y7,e7,a7⟩:=B1 y1 [59]
  refine Ok.step e7 ?_
  cases b with
  | true=>exact fin _ _ (okS no no no no no no no) (a7.mono (by dsimp only [cond_true]; rw [wSk]; simp only [sm0]; omega))
  | false =>
  obtain⟨b,y8,e8,a8⟩:=B1 y7 [105,102]
  refine Ok.step e8 ?_
  have a8:=a7.trans a8
  have l8:=a8.len
  cases b with
  | true =>
    dsimp only [cond_true,cond_false] at a8 l8
    have hr8:=hr1.after a8
    refine Ok.bind (g:=gS) (Q3f hr8) fun y9 a9 => ?_
    have l9:=a9.2.len
    refine Ok.bind (g:=gS) (h.body y9.2 (hr8.after a9.2) (by(try dsimp only at *); omega)) fun y10 a10 => ?_
    have l10:=a10.2.len
    obtain⟨b,y11,e11,a11⟩:=B1 y10.2 [101,108,115,101]
    refine Ok.step e11 ?_
    have a11' := ((a8.trans a9.2).trans a10.2).trans a11
    have l11:=a11.len
    cases b with
    | true =>
      refine Ok.bind (g:=gS) (h.body y11 (hr1.after a11') (by(try dsimp only at *); omega)) fun y12 a12 => ?_
      exact fin _ _ (okS a9.1 no no no a10.1 a12.1 no) ((a11'.trans a12.2).mono (by rw [wSk]; simp only [sm0]; dsimp only [cond_true]; omega))
    | false=>exact fin _ _ (okS a9.1 no no no a10.1 no no) (a11'.mono (by rw [wSk]; simp only [sm0]; omega))
  | false =>
  obtain⟨b,y13,e13,a13⟩:=B1 y8 [119,104,105,108,101]
  refine Ok.step e13 ?_
  have a13:=a8.trans a13
  have l13:=a13.len
  cases b with
  | true =>
    dsimp only [cond_true,cond_false] at a13 l13
    have hr13:=hr1.after a13
    refine Ok.bind (g:=gS) (Q3f hr13) fun y14 a14 => ?_
    have l14:=a14.2.len
    refine Ok.bind (g:=gS) (h.body y14.2 (hr13.after a14.2) (by(try dsimp only at *); omega)) fun y15 a15 => ?_
    exact fin _ _ (okS a14.1 no no no a15.1 no no) (((a13.trans a14.2).trans a15.2).mono (by rw [wSk]; simp only [sm0]; omega))
  | false =>
  obtain⟨b,y16,e16,a16⟩:=B1 y13 [100,111]
  refine Ok.step e16 ?_
  have a16:=a13.trans a16
  have l16:=a16.len
  cases b with
  | true =>
    dsimp only [cond_true,cond_false] at a16 l16
    have hr16:=hr1.after a16
    refine Ok.bind (g:=gS) (h.body y16 hr16 (by(try dsimp only at *); omega)) fun y17 a17 => ?_
    refine Ok.bind (g:=gS) (D4 y17.2 _) fun y18 a18 => ?_
    have a18' := (a16.trans a17.2).trans a18
    refine Ok.bind (g:=gS) (Q3f (hr1.after a18')) fun y19 a19 => ?_
    refine Ok.bind (g:=gS) (D4 y19.2 _) fun y20 a20 => ?_
    exact fin _ _ (okS a19.1 no no no a17.1 no no) (((a18'.trans a19.2).trans a20).mono (by rw [wSk]; simp only [sm0]; omega))
  | false =>
  obtain⟨b,y21,e21,a21⟩:=B1 y16 [102,111,114]
  refine Ok.step e21 ?_
  have a21:=a16.trans a21
  have l21:=a21.len
  cases b with
  | true =>
    dsimp only [cond_true,cond_false] at a21 l21
    refine Ok.bind (g:=gS) (D4 y21 _) fun y22 a22 => ?_
    have a22' := a21.trans a22
    refine Ok.bind (g:=gS) (Q4w (hr1.after a22') _) fun y23 a23 => ?_
    have a23' := a22'.trans a23.2
    refine Ok.bind (g:=gS) (Q4w (hr1.after a23') _) fun y24 a24 => ?_
    have a24' := a23'.trans a24.2
    refine Ok.bind (g:=gS) (Q4w (hr1.after a24') _) fun y25 a25 => ?_
    have a25' := a24'.trans a25.2
    have l25:=a25'.len
    refine Ok.bind (g:=gS) (h.body y25.2 (hr1.after a25') (by(try dsimp only at *); omega)) fun y26 a26 => ?_
    exact fin _ _ (okS a23.1 a24.1 a25.1 no a26.1 no no) ((a25'.trans a26.2).mono (by rw [wSk]; simp only [sm0]; omega))
  | false =>
  obtain⟨b,y27,e27,a27⟩:=B1 y21 [115,119,105,116,99,104]
  refine Ok.step e27 ?_
  have a27:=a21.trans a27
  have l27:=a27.len
  cases b with
  | true =>
    dsimp only [cond_true,cond_false] at a27 l27
    have hr27:=hr1.after a27
    refine Ok.bind (g:=gS) (Q3f hr27) fun y28 a28 => ?_
    have l28:=a28.2.len
    refine Ok.bind (g:=gS) (h.cases_ y28.2 (hr27.after a28.2) (by(try dsimp only at *); omega)) fun y29 a29 => ?_
    exact fin _ _ (okS a28.1 no no no no no a29.1) (((a27.trans a28.2).trans a29.2).mono (by rw [wSk]; simp only [sm0]; omega))
  | false =>
    refine Ok.bind (g:=fun e:Q8×Q1×U5=>(e.1,{e.2.1 with depth:=IntKind.wrap .i64 (e.2.1.depth - 1)})) (Z6z (hr1.after a27) p) fun y30 a30 => ?_
    exact fin _ _ a30.1 ((a27.trans a30.2).mono (by omega))
theorem rdS2 : ∀ n,S2 n
  | 0=>⟨fun r _ h=>by omega,fun r _ h=>by omega,fun r _ h=>by omega,fun r _ h=>by omega⟩
  | n+1=>⟨block_s (rdS2 n),cases_s (rdS2 n),stmt_s (rdS2 n),body_s (rdS2 n)⟩
theorem Z7r {r:Q1} (hr:Rd r):Ok (F0 r) (PB r 2):=(rdS2 NN).block r hr (by have:=hr.len; unfold NN; omega)
theorem Z7f {r:Q1} (hr:Rd r) {p:K4} (hp:OkP p) (hw:wP p≤5000):Ok (I8 r p) (fun x=>OkP x.2 ∧ ∃ k,wP x.2=wP p+k∧1≤k∧Af r x.1 k):=by
  unfold I8
  have hwp:wP p=sm wT p.Structs+sm wV p.Globals+sm wF p.Funcs:=rfl
  have l1:=M0 Z1g p.Structs
  have l2:=M0 Q2j p.Globals
  have l3:=M0 Z1h p.Funcs
  obtain⟨q,eq⟩:=Q3t r
  refine Ok.step eq ?_
  dsimp only [jn]
  have rest:Ok ((J5 r).bind fun y13=>exC y13 (fun y13=>(K8 y13.2).bind fun y14=>exC y14 (fun y14=>(U0 y14.2 ([40]:List UInt8)).bind fun y15=>bif !y15 then ((C5 y14.2 (⟨q,y13.1,y14.1,[],[],false⟩:J8)).bind fun y16=>exC y16 (fun y16=>(Q0q (List.length p.Globals+List.length ([y16.1]:List J8))).bind fun _=>some (Except.ok (y16.2,{p with Globals:=p.Globals++([y16.1]:List J8)}))) (fun e9=>some (Except.error (e9.1,e9.2,p)))) else ((A9 y14.2).bind fun y17=>exC y17 (fun y17=>(F0 y17.2).bind fun y18=>exC y18 (fun y18=>(Q0q (List.length p.Funcs+List.length ([{(⟨q,y13.1,y14.1,y17.1,[]⟩:P4) with Body:=y18.1}]:List P4))).bind fun _=>some (Except.ok (y18.2,{p with Funcs:=p.Funcs++([{(⟨q,y13.1,y14.1,y17.1,[]⟩:P4) with Body:=y18.1}]:List P4)}))) (fun e11=>some (Except.error (e11.1,e11.2,p)))) (fun e10=>some (Except.error (e10.1,e10.2,p))))) (fun e12=>some (Except.error (e12.1,e12.2,p)))) (fun e13=>some (Except.error (e13.1,e13.2,p)))) (fun x=>OkP x.2 ∧ ∃ k,wP x.2=wP p+k∧1≤k∧Af r x.1 k):=by
    refine Ok.bind (g:=fun e:Q8×Q1=>(e.1,e.2,p)) (Q1v hr) fun y13 a13 => ?_
    refine Ok.bind (g:=fun e:Q8×Q1=>(e.1,e.2,p)) (Q3j (hr.after a13.2)) fun y14 a14 => ?_
    have a134:=a13.2.trans a14.2
    have hr14:=hr.after a134
    obtain⟨b,e15,_⟩:=Q2w y14.2 [40]
    refine Ok.step e15 ?_
    cases b with
    | false =>
      refine Ok.bind (g:=fun e:Q8×Q1=>(e.1,e.2,p)) (Z2g hr14 (v:=⟨q,y13.1,y14.1,[],[],false⟩) a13.1 a14.1) fun y16 a16 => ?_
      have hv:wV y16.1=1+y16.1.Type_.Stars.toNat+y16.1.Dims.length+sm wE y16.1.Init:=rfl
      rw [a16.2.1] at hv
      refine Ok.step (R1 (by simp; omega)) ?_
      refine Ok.ok ⟨⟨hp.s,?_,hp.f⟩,wV y16.1,?_,Q2j _,(a134.trans a16.2.2).mono (by dsimp only at hv ⊢; omega)⟩
      · intro v hv
        rcases List.mem_append.1 hv with hv | hv
        · exact hp.g v hv
        · have:v=y16.1:=by simpa using hv
          rw [this]; exact a16.1
      · show sm wT p.Structs+sm wV (p.Globals ++ [y16.1])+sm wF p.Funcs=_
        rw [Q0t,B3,sm0]; omega
    | true =>
      refine Ok.bind (g:=fun e:Q8×Q1=>(e.1,e.2,p)) (Z5r hr14) fun y17 a17 => ?_
      have a17' := a134.trans a17.2
      refine Ok.bind (g:=fun e:Q8×Q1=>(e.1,e.2,p)) (Z7r (hr.after a17')) fun y18 a18 => ?_
      refine Ok.step (R1 (by simp; omega)) ?_
      have hf:wF (⟨q,y13.1,y14.1,y17.1,y18.1⟩:P4)=1+y13.1.Stars.toNat+sm wV y17.1+sm wS y18.1:=rfl
      refine Ok.ok ⟨⟨hp.s,hp.g,?_⟩,wF (⟨q,y13.1,y14.1,y17.1,y18.1⟩:P4),?_,Z1h _,(a17'.trans a18.2).mono (by omega)⟩
      · intro f hf
        rcases List.mem_append.1 hf with hf | hf
        · exact hp.f f hf
        · have:f=⟨q,y13.1,y14.1,y17.1,y18.1⟩:=by simpa using hf
          rw [this]; exact⟨a14.1,a13.1,a17.1,a18.1⟩
      · show sm wT p.Structs+sm wV p.Globals+sm wF (p.Funcs ++ [(⟨q,y13.1,y14.1,y17.1,y18.1⟩:P4)])=_
        rw [Q0t,B3,sm0]; omega
  obtain⟨b,e2,_⟩:=Q2w r [115,116,114,117,99,116]
  refine Ok.step e2 ?_
  cases b with
  | false=>exact rest
  | true =>
    obtain⟨b,e3⟩:=Z4p r 2 [123]
    refine Ok.step e3 ?_
    cases b with
    | false=>exact rest
    | true =>
      refine Ok.bind (g:=fun e:Q8×Q1=>(e.1,e.2,p)) (D4 r _) fun y4 a4 => ?_
      refine Ok.bind (g:=fun e:Q8×Q1=>(e.1,e.2,p)) (Q3j (hr.after a4)) fun y5 a5 => ?_
      have a45:=a4.trans a5.2
      refine Ok.bind (g:=fun e:Q8×Q1=>(e.1,e.2,p)) (Z5x (hr.after a45)) fun y6 a6 => ?_
      refine Ok.step (R1 (by simp; omega)) ?_
      have hf:wT (⟨q,y5.1,y6.1⟩:F7)=1+sm wV y6.1:=rfl
      refine Ok.ok ⟨⟨?_,hp.g,hp.f⟩,wT (⟨q,y5.1,y6.1⟩:F7),?_,Z1g _,(a45.trans a6.2).mono (by omega)⟩
      · intro s hs
        rcases List.mem_append.1 hs with hs | hs
        · exact hp.s s hs
        · have:s=⟨q,y5.1,y6.1⟩:=by simpa using hs
          rw [this]; exact⟨a5.1,a6.1⟩
      · show sm wT (p.Structs ++ [(⟨q,y5.1,y6.1⟩:F7)])+sm wV p.Globals+sm wF p.Funcs=_
        rw [Q0t,B3,sm0]; omega
theorem try_any {r:Q1} (hr:Rd r) : ∃ z,Q0p r=some z ∧ ∀ x,z = .ok x→OkP x.1∧wP x.1≤5000:=by
  unfold Q0p
  have lr:=hr.len
  refine Exists.elim (Q5k (body:=(fun(x4,x5)=>(bif decide (0 < (List.length x5.l:Int)) then ((I8 x5 x4).bind fun y1=>exC y1 (fun y1=>some (Lp.go (y1.2,y1.1))) (fun e1=>some (Lp.ret (Except.error ((⟨[],[],[]⟩:K4),e1.1,e1.2.1))))) else (some (Lp.brk (x4,x5))):Option (Lp (K4×Q1) (Except (K4×Q8×Q1) (K4×Q1)))))) (n:=NN) (s:=((⟨[],[],[]⟩:K4),r))
    (fun s=>OkP s.1∧Af r s.2 (wP s.1)) (fun s=>s.2.l.length)
    (fun o=>match o with
      | .go _=>False
      | .brk s=>OkP s.1∧wP s.1≤5000
      | .ret z => ∃ e,z=Except.error e) ⟨⟨no,no,no⟩,(Af.refl r).mono (Nat.le_refl 0)⟩ (Q6c (by dsimp only; omega)) ?_) ?_
  · rintro⟨x4,x5⟩ ⟨i1,i2⟩
    dsimp only at i1 i2 ⊢
    have li:=i2.len
    by_cases hl:0 < x5.l.length
    · rw [c1 (dt (by omega))]
      obtain⟨z,ez,hz⟩:=Z7f (hr.after i2) i1 (by omega)
      rw [ez,Option.bind_some]
      cases z with
      | error e=>exact⟨_,rfl,_,rfl⟩
      | ok x =>
        obtain⟨h1,k,h2,h3,h4⟩:=hz
        have:=h4.len
        exact⟨_,rfl,⟨h1,(i2.trans h4).mono (by dsimp only; omega)⟩,by dsimp only; omega⟩
    · rw [c0 (df (by omega))]
      exact⟨_,rfl,i1,by dsimp only; omega⟩
  · rintro o ⟨ho,hp⟩
    rw [ho,Option.bind_some]
    cases o with
    | go _=>exact hp.elim
    | ret z =>
      obtain⟨e,rfl⟩:=hp
      exact⟨_,rfl,fun x hx=>by cases hx⟩
    | brk s =>
      obtain⟨x4,x5⟩:=s
      exact⟨_,rfl,fun x hx=>by cases hx; exact hp⟩
theorem lx_cnt {s:List UInt8} {ts:List Y6} (h:Lx s ts) (hl:s.length≤100000):ts.length≤s.length ∧ ∀ t ∈ ts,t.Text.length≤s.length:=by
  induction h with
  | nil=>simp
  | @blank s ts h n hn h0 k ih =>
    obtain⟨i1,i2⟩:=ih (by simp; omega)
    rw [List.length_drop] at i1 i2
    exact⟨by omega,fun t ht=>by have:=i2 t ht; omega⟩
  | @tok s t ts h hb ht k ih =>
    obtain⟨i1,i2⟩:=ih (by simp; omega)
    rw [List.length_drop] at i1 i2
    obtain⟨y,ey,hT⟩:=Q8g s h hl
    rw [ey] at ht
    cases ht
    have hT:=hT rfl
    have h1:=List.length_pos_iff.2 hT.ne
    have h2:=hT.pre.length_le
    dsimp only at h1 h2 i1 i2
    refine⟨by rw [List.length_cons]; omega,fun x hx => ?_⟩
    rcases List.mem_cons.1 hx with rfl | hx
    · exact h2
    · have:=i2 x hx; omega
theorem Read_any (s:List UInt8) (hs:s.length≤3000) : ∃ p q e,Q3v s=some (p,q,e)∧(e=0→OkP p∧wP p≤5000):=by
  obtain⟨⟨l,q,e⟩,ey,hy⟩:=Z7j s (by omega)
  unfold Q3v
  rw [ey,Option.bind_some]
  dsimp only at hy ⊢
  by_cases he:e=0
  · have hx:Lx s (l.map Q9a):=by
      rcases hy with hy | hy
      · exact hy.2
      · exact absurd he hy.1
    obtain⟨c1',c2⟩:=lx_cnt hx (by omega)
    rw [List.length_map] at c1'
    have hr:Rd ⟨l,q,0⟩:=⟨fun t ht=>by have:=c2 (Q9a t) (List.mem_map_of_mem ht); exact Nat.le_trans this (by omega),by dsimp only; omega,⟨Int.le_refl 0,(by decide:(0:Int)≤200)⟩⟩
    obtain⟨z,ez,hz⟩:=try_any hr
    rw [c0 (by rw [he]; rfl),ez,Option.bind_some]
    cases z with
    | ok x=>exact⟨_,_,_,rfl,fun _=>hz x rfl⟩
    | error x=>exact⟨_,_,_,rfl,fun _=>⟨⟨no,no,no⟩,by decide⟩⟩
  · rw [c1 (by simpa using he)]
    exact⟨_,_,_,rfl,fun _=>⟨⟨no,no,no⟩,by decide⟩⟩
theorem Q1d {α : Type} {w : α → Nat} {f : α → α} : ∀ {l:List α},(∀ x ∈ l,w (f x)=w x)→sm w (l.map f)=sm w l
  | [],_=>rfl
  | x::l,h=>by rw [List.map_cons,B3,B3,h x (by simp),Q1d fun y hy=>h y (by simp [hy])]
theorem wE_pl (x:Z6):wE (plE x)=wE x:=by
  induction x using Z6.ind with
  | h x ih =>
    rw [Q2a x,Z0d,Z0d x]
    dsimp only
    rw [Q1d ih]
theorem wV_pl (v:J8):wV (plV v)=wV v:=by
  unfold plV wV
  dsimp only
  rw [Q1d fun x _=>wE_pl x]
theorem wS_pl (x:U5):wS (plS x)=wS x:=by
  induction x using U5.ind with
  | h x h1 h2 h3 =>
    rw [Q1z x,Z0c,Z0c x]
    dsimp only
    rw [Q1d fun x _=>wE_pl x,Q1d fun x _=>wE_pl x,Q1d fun x _=>wE_pl x,Q1d fun x _=>wV_pl x,Q1d h1,Q1d h2,Q1d fun c hc => ?_]
    unfold plC wC
    dsimp only
    rw [Q1d (h3 c hc)]
theorem wP_plP (p:K4):wP (plP p)=wP p:=by
  unfold plP wP
  dsimp only
  rw [Q1d fun v _=>wV_pl v,Q1d fun v _ => ?_,Q1d fun v _ => ?_]
  · unfold plF wF
    dsimp only
    rw [Q1d fun v _=>wV_pl v,Q1d fun v _=>wS_pl v]
  · unfold plT wT
    dsimp only
    rw [Q1d fun v _=>wV_pl v]
theorem Z5z:Q1t=some true:=by kernel_rfl
theorem Z2p (s:List UInt8):Q0r s=some true:=by
  unfold Q0r
  by_cases hs:3000 < s.length
  · rw [c1 (dt (by omega)),Z5z]; rfl
  rw [c0 (df (by omega))]
  obtain⟨p,q,e,he,h⟩:=Read_any s (by omega)
  rw [he,Option.bind_some]
  dsimp only
  by_cases h0:e=0
  · obtain⟨hp,hw⟩:=h h0
    have hw2:wP (plP p)≤1000000:=by rw [wP_plP]; omega
    obtain⟨t,ht⟩:=Print_ok hw hp
    rw [c0 (by rw [h0]; rfl),Z5f p (by omega),Option.bind_some,Z5z,Option.bind_some,c1 rfl,Z6w hw2 (Z6m p) (.inl rfl),Option.bind_some,c1 rfl,Z5f _ hw2,Option.bind_some,Z6m,Z6w hw2 rfl (.inr rfl),Option.bind_some,c1 rfl,prP,ht,Option.bind_some,Option.bind_some]
    simp
  · rw [c1 (by simpa using h0),Z5z]; rfl
end Go.Proofs.YtbolaohekbmndaaGreatDoor
