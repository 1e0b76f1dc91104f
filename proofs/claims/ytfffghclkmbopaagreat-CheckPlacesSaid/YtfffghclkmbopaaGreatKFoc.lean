/- Places within owned slices and within variables. It holds for every program. -/
import Derived.Test.YtfffghclkmbopaaGreatKMapS
set_option linter.unusedVariables false
namespace Go.Proofs.YtfffghclkmbopaaGreat

def HoC {α : Type} (r:Rp α) (e:TypeId) (T:Nat→Prop) (w:World) (v:Value) (l:List α) (i:Nat) (cs:List Value):Prop :=
  ∃ css:List (List Value),css.length=l.length∧w.ownsRow 0 e r.sz v l.length css.flatten∧css[i]? = some cs∧cs.length=r.sz∧(∀(j:Nat) (c:List Value) (x : α),j ≠ i→css[j]? = some c→l[j]? = some x→r.rp T w c x)

theorem HoC.sizes {α : Type} {r:Rp α} {e:TypeId} {T:Nat→Prop} {w:World} {v:Value} {l:List α} {i:Nat} {cs:List Value} {css:List (List Value)} (h1:css.length=l.length) (h3:css[i]? = some cs) (h4:cs.length=r.sz)
    (h5 : ∀(j:Nat) (c:List Value) (x : α),j ≠ i→css[j]? = some c→l[j]? = some x→r.rp T w c x) : ∀ c ∈ css,c.length=r.sz:=by
  intro c hc;obtain⟨j,hj,he⟩:=List.getElem_of_mem hc
  by_cases hji:j=i
  · subst hji;rw [List.getElem?_eq_getElem hj,he] at h3;cases h3;exact h4
  · exact r.len (h5 j c l[j] hji (by rw [List.getElem?_eq_getElem hj,he]) (List.getElem?_eq_getElem (by omega)))

def Y2h {α : Type} (r:Rp α) (e:TypeId) (v:Value) (l:List α) (i:Nat) (cs:List Value):Y8 where
  P:=fun T w F=>HoC r e T w v l i cs ∧ ∀ k,F k ↔ v.ownBlock=some k
  loc:=fun {T T' w w' F} ⟨h,hF⟩ hT hs=>by
    obtain⟨css,h1,h2,h3,h4,h5⟩:=h
    refine⟨⟨css,h1,⟨h2.1,?_⟩,h3,h4,fun j c x hj hc hx=>r.mono (fun k hk=>⟨hT k hk,hs k (.inl hk)⟩) (h5 j c x hj hc hx)⟩,hF⟩
    rcases h2.2 with hn | ⟨g,cap,cur,hv,hb,hgg,rest⟩
    · exact .inl hn
    · exact .inr ⟨g,cap,cur,hv,hb,(hs g (.inr ((hF g).2 (by rw [hv]; rfl)))).trans hgg,rest⟩
  bnd:=fun {T w F} ⟨h,hF⟩ k hk=>by
    obtain⟨css,h1,h2,h3⟩:=h
    have hk:=(hF k).1 hk
    rcases h2.2 with ⟨hn,_⟩ | ⟨g,cap,cur,hv,hb,hgg,rest⟩
    · rw [hn] at hk; cases hk
    · rw [hv] at hk; cases hk; exact hlt hgg

theorem X0s {α : Type} {r:Rp α} {e:TypeId} {v:Value} {l:List α} {i:Int} {b k off n cap:Nat} (hv:v = .slice (some ⟨b,k,none⟩) n cap) (he:off=k+i.toNat * r.sz):Ln b off (Y2h r e v l i.toNat) where
  rd:=fun {T w F cs} ⟨⟨css,h1,h2,h3,h4,h5⟩,hF⟩ j u hj=>by
    have h2' := h2
    rcases h2.2 with ⟨hz,_⟩ | ⟨g,cap',cur,hv',_⟩
    · rw [hv] at hz; cases hz
    · rw [hv] at hv'
      cases hv'
      have hs:=HoC.sizes (e:=e) (v:=v) h1 h3 h4 h5
      have hf:=Z4o hs h3 hj
      have:=h2'.cells (g:=b) (by rw [hv]; rfl) _ _ hf
      rw [he,Nat.zero_add]
      simpa [Addr.add_lit] using this
  wr:=fun {T w F cs} ⟨⟨css,h1,h2,h3,h4,h5⟩,hF⟩ hn=>by
    have hs:=HoC.sizes (e:=e) (v:=v) h1 h3 h4 h5
    have hil:i.toNat < css.length:=by
      rcases Nat.lt_or_ge i.toNat css.length with h | h
      · exact h
      · rw [List.getElem?_eq_none h] at h3; cases h3
    rcases h2.2 with ⟨hz,_⟩ | ⟨g,cap',cur,hv',hb,hgg,hnc,hmx,hcur,htake⟩
    · rw [hv] at hz; cases hz
    · have hv2:=hv;rw [hv'] at hv2;cases hv2;have hrow:i.toNat * r.sz+r.sz≤l.length * r.sz:=by rw [← Nat.succ_mul]; exact Nat.mul_le_mul_right _ (by omega)
      have hcapr:l.length * r.sz≤cap * r.sz:=Nat.mul_le_mul_right _ hnc;rw [he,Nat.zero_add];refine⟨cur,e,hgg,(hF b).2 (by rw [hv]; rfl),by omega,fun j new hj hone => ?_⟩;have hj' : j+new.length≤r.sz:=by omega
      refine⟨⟨css.set i.toNat (O4 cs j new),by simp [h1],⟨?_,.inr ⟨b,cap,_,hv',hb,setRow_heap w b _ _ e (0,0) hgg,hnc,hmx,?_,?_⟩⟩,by simp [hil],by rw [Q7q hj,h4],fun m c x hm hc hx => ?_⟩,hF⟩
      · rw [Z4n hs h3 hj',Q7q (by rw [h2.1]; omega),h2.1]
      · simp only [List.size_toArray]
        rw [Q7q (by simp; omega)]
        simpa using hcur
      · rw [Z4n hs h3 hj',← htake];apply List.ext_getElem?;intro m;have htl:(List.take (l.length * r.sz) cur.toList).length=l.length * r.sz:=by simp; omega
        rw [Q7r (by rw [htl]; omega),List.getElem?_take,Q7r (by simp; omega),List.getElem?_take]
        by_cases hm:m < l.length * r.sz
        · simp only [hm,if_true]
        · simp only [hm,if_false]
          rw [if_neg (by omega),if_neg (by omega)]
      · rw [List.getElem?_set_ne (fun h=>hm h.symm)] at hc;exact r.mono (fun k hk=>⟨hk,setRow_other w b k _ (fun e=>hn b ((hF b).2 (by rw [hv]; rfl)) (e ▸ hk))⟩) (h5 m c x hm hc hx)

section
variable {g:World} {T T' : Nat→Prop} {w w' : World} {G:List Y8} {q:Nat}
theorem Sep.focus {α : Type} {r:Rp α} {e:TypeId} {v:Value} {l:List α} {i:Int} {u : α} (hS:Sep g T w G) (hi:AtR G q (K3 r e v l)) (hu:idx l i=some u) : ∃ cs,r.rp T w cs u∧Sep g T w (N9 G q (Y2h r e v l i.toNat cs)):=by
  obtain⟨h0,h1,h2⟩:=Q0u hu;obtain⟨F,⟨⟨css,c1,c2,c3⟩,hF⟩,hn⟩:=hS.getA hi;have hcs:css[i.toNat]? = some css[i.toNat]:=List.getElem?_eq_getElem (by omega);refine⟨css[i.toNat],c3 _ _ _ hcs h2,hS.put q hi.lt (Inn.refl hS.lt (Nat.le_refl _):Inn w.heap.size noB T w T w) fun F' hF' hn' => ⟨fun k hk=>hk.elim,F',?_,fun k hk=>⟨.inl hk,hn' k hk⟩⟩⟩;rw [hi.at_] at hF';exact⟨⟨css,c1,c2,hcs,r.len (c3 _ _ _ hcs h2),fun j c x _ hc hx=>c3 j c x hc hx⟩,hF'.2⟩
theorem Sep.unfocus {α : Type} {r:Rp α} {e:TypeId} {v:Value} {l:List α} {i:Nat} {u : α} {cs:List Value} (hS:Sep g T w G) (hi:AtR G q (Y2h r e v l i cs)) (hr:r.rp T w cs u):Sep g T w (N9 G q (K3 r e v (l.set i u))):=by
  refine hS.imp q hi.lt fun F hF => ?_;rw [hi.at_] at hF;obtain⟨⟨css,c1,c2,c3,c4,c5⟩,hF⟩:=hF;refine⟨⟨css,by simp [c1],by simpa using c2,fun j c x hc hx => ?_⟩,hF⟩
  by_cases hj:j=i
  · subst hj;rw [c3] at hc;cases hc;rw [List.getElem?_set_self'] at hx;cases hl:l[j]? with
    | none=>rw [hl] at hx; cases hx
    | some y=>rw [hl] at hx; cases hx; exact hr
  · rw [List.getElem?_set_ne (fun h=>hj h.symm)] at hx;exact c5 j c x hj hc hx
end

end Go.Proofs.YtfffghclkmbopaaGreat
