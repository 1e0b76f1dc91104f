/- What a function owns: variables, slices, maps; the operations on them. It holds for every program. -/
import Derived.Test.YtecakklofhfphaaGreatDoorKSep
import Derived.Test.YtecakklofhfphaaGreatDoorKDrawn
import Derived.Test.YtecakklofhfphaaGreatDoorKRet
import Derived.Laws.MakeOwn
set_option linter.unusedVariables false
namespace Go.Proofs.YtecakklofhfphaaGreatDoor

structure AtR (L:List Z4) (i:Nat) (A:Z4):Prop where
  lt:Nat.blt i (X1 L)=true
  at_:atA L i=A

def Y2 (b:Nat) (cs:List Value):Z4 where
  P:=fun _ w F=>(∀ k,F k ↔ k=b)∧Box w b cs
  loc:=fun⟨h1,e,h2⟩ _ hs=>⟨h1,e,(hs _ (.inr ((h1 _).2 rfl))).trans h2⟩
  bnd:=fun⟨h1,h2⟩ k hk=>by rw [(h1 k).1 hk]; exact h2.lt

structure Ln (b o:Nat) (H:List Value→Z4):Prop where
  rd : ∀ {T:Nat→Prop} {w:World} {F:Nat→Prop} {cs:List Value},(H cs).P T w F→cellsAt w b o cs
  wr : ∀ {T:Nat→Prop} {w:World} {F:Nat→Prop} {cs:List Value},(H cs).P T w F→(∀ k,F k → ¬ T k) → ∃ blk e,w.heap[b]? = some (.cells blk e (0,0))∧F b∧o+cs.length≤blk.size ∧
    ∀ j new,j+new.length≤cs.length→(∀ u ∈ new,u.oneCell' = true)→(H (X9 cs j new)).P T (w.setRow b (X9 blk.toList (o+j) new).toArray) F

theorem C3 (b:Nat):Ln b 0 (Y2 b) where
  rd:=fun⟨_,h⟩ j v hj=>by rw [Nat.zero_add,h.cell]; exact hj
  wr:=fun {T w F cs} ⟨h1,e,h2⟩ _=>⟨cs.toArray,e,h2,(h1 b).2 rfl,by simp,fun j new _ _=>⟨h1,e,by
    rw [setRow_heap w b _ _ e (0,0) h2]; simp [X9]⟩⟩

theorem Z2l {T:Nat→Prop} {w:World} (hb:Bd T w) (b:Nat) (cs:Array Value) (hT : ¬ T b):Inn w.heap.size (· = b) T w T (w.setRow b cs) :=
  (Inn.refl hb (Nat.le_refl _)).ch1 (Ch.setRow (S:=(· = b)) w b _ rfl) fun k hk=>⟨hk ▸ hT,.inr hk⟩

section
variable {g:World} {T T' : Nat→Prop} {w w' : World} {G:List Z4} {i q:Nat} {A B:Z4}
theorem Sep.getA (h:Sep g T w G) (hi:AtR G i A) : ∃ F,A.P T w F ∧ ∀ k,F k → ¬ T k:=by
  have:=h.get i hi.lt
  rw [hi.at_] at this
  exact this
theorem Sep.cellB {b o j:Nat} {H:List Value→Z4} {cs:List Value} {v:Value} (h:Sep g T w G) (hi:AtR G i (H cs)) (hL:Ln b o H) (hj:cs[j]? = some v):w.cell? ⟨b,o+j,none⟩=some v :=
  let ⟨_,hF,_⟩:=h.getA hi
  hL.rd hF j v hj
theorem Sep.cellsB {b o:Nat} {H:List Value→Z4} {cs:List Value} (h:Sep g T w G) (hi:AtR G i (H cs)) (hL:Ln b o H):cellsAt w b o cs :=
  let ⟨_,hF,_⟩:=h.getA hi
  hL.rd hF
theorem Sep.cell0 {b j:Nat} {cs:List Value} {v:Value} (h:Sep g T w G) (hi:AtR G i (Y2 b cs)) (hj:cs[j]? = some v):w.cell? ⟨b,j,none⟩=some v:=by
  have:=h.cellB hi (C3 b) hj
  rwa [Nat.zero_add] at this
theorem Sep.cells0 {b o:Nat} {cs ds:List Value} (h:Sep g T w G) (hi:AtR G i (Y2 b cs)) (hs:(cs.drop o).take ds.length=ds):cellsAt w b o ds:=by
  have:=(h.cellsB hi (C3 b)).sub o hs
  rwa [Nat.zero_add] at this
theorem Sep.setRow {H:List Value→Z4} {b o j:Nat} {cs cur:List Value} (hS:Sep g T w G) (hi:AtR G i (H cur)) (hL:Ln b o H) (h1 : ∀ u ∈ cs,u.oneCell' = true) (hfit:j+cs.length≤cur.length) :
    ∃ blk e,w.heap[b]? = some (.cells blk e (0,0))∧o+cur.length≤blk.size∧Im T w T (w.setRow b (X9 blk.toList (o+j) cs).toArray)∧Sep g T (w.setRow b (X9 blk.toList (o+j) cs).toArray) (C6 G i (H (X9 cur j cs))):=by
  obtain⟨F,hF,hn⟩:=hS.getA hi
  obtain⟨blk,e,hg,hFb,hsz,hwr⟩:=hL.wr hF hn
  have hinn:=Z2l hS.lt b (X9 blk.toList (o+j) cs).toArray (hn b hFb)
  refine⟨blk,e,hg,hsz,hinn.imm,hS.put i hi.lt hinn fun F' hF' hn' => ?_⟩
  rw [hi.at_] at hF'
  obtain⟨blk',e',hg',hFb',hsz',hwr'⟩:=hL.wr hF' hn'
  rw [hg] at hg'
  cases hg'
  exact⟨fun k hk=>hk ▸ hFb',F',hwr' j cs hfit h1,fun k hk=>⟨.inl hk,hn' k hk⟩⟩
end

def OwC {α : Type} (r:Rp α) (e:TypeId) (T:Nat→Prop) (w:World) (v:Value) (l:List α):Prop :=
  ∃ css:List (List Value),css.length=l.length∧w.ownsRow 0 e r.sz v l.length css.flatten∧(∀(i:Nat) (cs:List Value) (x : α),css[i]? = some cs→l[i]? = some x→r.rp T w cs x)
theorem OwC.s {α : Type} {r:Rp α} {e:TypeId} {T:Nat→Prop} {w:World} {v:Value} {l:List α} (h:OwC r e T w v l) (hn : ∀ k,v.ownBlock=some k → ¬ T k):OwS r e 0 T w v l :=
  let ⟨css,h1,h2,h3⟩:=h
  ⟨css,h1,h2,h3,hn⟩
theorem OwS.c {α : Type} {r:Rp α} {e:TypeId} {T:Nat→Prop} {w:World} {v:Value} {l:List α} (h:OwS r e 0 T w v l):OwC r e T w v l :=
  let ⟨css,h1,h2,h3,_⟩:=h
  ⟨css,h1,h2,h3⟩

def Z0 {α : Type} (r:Rp α) (e:TypeId) (v:Value) (l:List α):Z4 where
  P:=fun T w F=>OwC r e T w v l ∧ ∀ k,F k ↔ v.ownBlock=some k
  loc:=fun {T T' w w' F} ⟨h,hF⟩ hT hs=>by
    obtain⟨css,h1,h2,h3⟩:=h
    refine⟨⟨css,h1,⟨h2.1,?_⟩,fun j cs x hc hx=>r.mono (fun k hk=>⟨hT k hk,hs k (.inl hk)⟩) (h3 j cs x hc hx)⟩,hF⟩
    rcases h2.2 with hn | ⟨g,cap,cur,hv,hb,hgg,rest⟩
    · exact .inl hn
    · exact .inr ⟨g,cap,cur,hv,hb,(hs g (.inr ((hF g).2 (by rw [hv]; rfl)))).trans hgg,rest⟩
  bnd:=fun {T w F} ⟨h,hF⟩ k hk=>by
    obtain⟨css,h1,h2,h3⟩:=h
    have hk:=(hF k).1 hk
    rcases h2.2 with ⟨hn,_⟩ | ⟨g,cap,cur,hv,hb,hgg,rest⟩
    · rw [hn] at hk; cases hk
    · rw [hv] at hk; cases hk; exact hlt hgg

def SlV {α : Type} (r:Rp α) (T:Nat→Prop) (w:World) (v:Value) (l:List α):Prop :=
  ∃ a cap,v = .slice a l.length cap∧l.length≤cap∧cap≤maxLen ∧
    (l = [] ∨ ∃ b off,a=some ⟨b,off,none⟩ ∧ ∀ i x,l[i]? = some x → ∃ cs,r.rp T w cs x∧cellsAt w b (off+i * r.sz) cs)

theorem SlR.v {α : Type} {r:Rp α} {T:Nat→Prop} {w:World} {v:Value} {l:List α} (h:SlR r T w v l):SlV r T w v l:=by
  obtain⟨a,cap,e,h1,h2,h3⟩:=h
  refine⟨a,cap,e,h1,h2,?_⟩
  rcases h3 with h3 | ⟨b,off,ha,hT,hx⟩
  · exact .inl h3
  · exact .inr ⟨b,off,ha,hx⟩
theorem OwC.v {α : Type} {r:Rp α} {e:TypeId} {T:Nat→Prop} {w:World} {v:Value} {l:List α} (h:OwC r e T w v l):SlV r T w v l:=by
  obtain⟨css,h1,h2,h3⟩:=h
  have hs:=OwS.sizes h1 h3
  have h2' := h2
  rcases h2.2 with ⟨hv,h0⟩ | ⟨g,cap,cur,hv,hb,hg,hn,hm,_⟩
  · exact⟨none,0,by rw [hv,h0],by omega,by simp [maxLen],.inl (List.eq_nil_of_length_eq_zero h0)⟩
  · refine⟨some ⟨g,0,none⟩,cap,hv,hn,hm,.inr ⟨g,0,rfl,fun i x hi => ?_⟩⟩
    have hl:i < l.length:=by
      rcases Nat.lt_or_ge i l.length with h | h
      · exact h
      · rw [List.getElem?_eq_none h] at hi; cases hi
    have hcs:css[i]? = some css[i]:=List.getElem?_eq_getElem (by omega)
    refine⟨css[i],h3 i _ x hcs hi,fun j u hj => ?_⟩
    have hf:=Q1u hs hcs hj
    have:=h2'.cells (g:=g) (by rw [hv]; rfl) _ _ hf
    simpa [Addr.add_lit] using this
theorem OwS.v {α : Type} {r:Rp α} {e:TypeId} {T:Nat→Prop} {w:World} {v:Value} {l:List α} (h:OwS r e 0 T w v l):SlV r T w v l:=h.c.v
theorem SlV.shape {α : Type} {r:Rp α} {T:Nat→Prop} {w:World} {v:Value} {l:List α} (h:SlV r T w v l) : ∃ a c,v = .slice a l.length c:=let ⟨a,c,h,_⟩:=h; ⟨a,c,h⟩
theorem SlV.part {α : Type} {r:Rp α} {T:Nat→Prop} {w:World} {ad:Option Addr} {l:List α} {len cap:Nat} {a b:Int} {u:List α} (h:SlV r T w (.slice ad len cap) l) (hs:sub l a b=some u) :
    ∃ a' c',Value.slice (if cap=a.toNat then ad else ad.map (·.add (a.toNat * r.sz))) (b.toNat - a.toNat) (cap - a.toNat) = .slice a' u.length c' ∧ SlV r T w (.slice a' u.length c') u:=by
  obtain⟨h0,h1,h2,rfl⟩:=Q6q hs
  obtain⟨a0,c0,hv,h5,h6,h7⟩:=h
  cases hv
  have hl:((l.take b.toNat).drop a.toNat).length=b.toNat - a.toNat:=by simp; omega
  refine⟨_,cap - a.toNat,by rw [hl],_,_,rfl,by rw [hl]; omega,by omega,?_⟩
  rcases h7 with h7 | ⟨bk,off,rfl,hx⟩
  · exact .inl (by rw [h7]; simp)
  · by_cases hca:cap=a.toNat
    · exact .inl (List.eq_nil_of_length_eq_zero (by rw [hl]; omega))
    · refine .inr ⟨bk,off+a.toNat * r.sz,by rw [if_neg hca]; simp [Addr.add_lit],fun i x hi => ?_⟩
      rw [List.getElem?_drop] at hi
      have hi2:l[a.toNat+i]? = some x:=by
        rw [List.getElem?_take] at hi
        split at hi
        · exact hi
        · cases hi
      obtain⟨cs,hr,hcs⟩:=hx _ x hi2
      exact⟨cs,hr,by rw [show off+a.toNat * r.sz+i * r.sz=off+(a.toNat+i) * r.sz by rw [Nat.add_mul]; omega]; exact hcs⟩
section
variable {g:World} {T T' : Nat→Prop} {w w' : World} {G:List Z4} {i q:Nat} {A B:Z4}
theorem Sep.own {α : Type} {r:Rp α} {e:TypeId} {v:Value} {l:List α} (h:Sep g T w G) (hi:AtR G i (Z0 r e v l)):OwS r e 0 T w v l :=
  let ⟨_,⟨h1,h2⟩,hn⟩:=h.getA hi
  h1.s fun k hk=>hn k ((h2 k).2 hk)
end
end Go.Proofs.YtecakklofhfphaaGreatDoor
