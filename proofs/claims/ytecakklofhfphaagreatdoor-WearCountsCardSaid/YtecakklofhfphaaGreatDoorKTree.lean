/- Regions that draw their order and whose writing operations do not wait for each other: a walk for each order of these. It holds for every program. -/
import Derived.Test.YtecakklofhfphaaGreatDoorKDrawn
set_option linter.unusedVariables false
namespace Go.Proofs.YtecakklofhfphaaGreatDoor

section
variable {P:Program} {l:List Oper} {Q:Exit→Act→World→Prop} {fl:List Nat}

structure Z5h (l:List Oper) (x y:Nat):Prop where
  ne:x ≠ y
  no : ∀ o,l[x]? = some o → ∀ e ∈ o.after,Region.binds .any e=true→e.on ≠ y
  ap:Pre l x y ∨ ∀ ox oy,l[x]? = some ox→l[y]? = some oy→ox.apart l.toArray oy=true

def C9 (l:List Oper) (fl:List Nat):List Nat→Prop
  | []=>True
  | x::r=>(∀ y ∈ r,Z5h l x y)∧(fl.getD x 2=1→(∀ y ∈ x::r,clobB l x y=false) ∨ (∀ z ∈ r,nzB fl z=true→Pre l x z))∧(∀ o,l[x]? = some o → ∀ e ∈ o.after,Region.binds .any e=true→e.on ≠ x)∧C9 l fl r

theorem C9.sub {s:List Nat} {ord:List Nat} (hs:s.Sublist ord) (h:C9 l fl ord):C9 l fl s:=by
  induction hs with
  | slnil=>trivial
  | cons a _ ih=>exact ih h.2.2.2
  | cons_cons a hs ih =>
    refine⟨fun y hy=>h.1 y (hs.subset hy),fun h1 => ?_,h.2.2.1,ih h.2.2.2⟩
    rcases h.2.1 h1 with h2 | h2
    · exact .inl fun y hy=>h2 y (by
        rcases List.mem_cons.1 hy with rfl | hy
        · simp
        · exact List.mem_cons_of_mem _ (hs.subset hy))
    · exact .inr fun y hy=>h2 y (hs.subset hy)
theorem C9.pair {A B:List Nat} {x:Nat} (h:C9 l fl (A++x::B)):(∀ y ∈ A,Z5h l y x)∧(∀ y ∈ B,Z5h l x y):=by
  induction A with
  | nil=>exact⟨fun y hy=>by simp at hy,h.1⟩
  | cons a A ih =>
    have:=ih h.2.2.2
    exact⟨fun y hy=>by
      rcases List.mem_cons.1 hy with rfl | hy
      · exact h.1 x (by simp)
      · exact this.1 y hy,this.2⟩
theorem C9.tail {A R R' : List Nat} (h:C9 l fl (A++R)) (hs : ∀ y ∈ R',y ∈ R) (h' : C9 l fl R'):C9 l fl (A++R'):=by
  induction A with
  | nil=>exact h'
  | cons a A ih =>
    have hm : ∀ y ∈ A++R',y ∈ A++R:=fun y hy=>by
      rcases List.mem_append.1 hy with hy | hy
      · exact List.mem_append_left _ hy
      · exact List.mem_append_right _ (hs y hy)
    refine⟨fun y hy=>h.1 y (hm y hy),fun h1 => ?_,h.2.2.1,ih h.2.2.2⟩
    rcases h.2.1 h1 with h2 | h2
    · refine .inl fun y hy=>h2 y ?_
      rcases List.mem_cons.1 hy with rfl | hy
      · simp
      · exact List.mem_cons_of_mem _ (hm y hy)
    · exact .inr fun y hy=>h2 y (hm y hy)
def B3 (P:Program) (l:List Oper) (fl:List Nat) (Q:Exit→Act→World→Prop):Nat→List (Nat×Value)→List Nat→Act→World→Prop
  | 0,_,R,a,w=>R = []∧Q .normal a w
  | _+1,_,[],a,w=>Q .normal a w
  | n+1,pd,i::is,a,w => ∃ o,l[i]? = some o∧match B4 l o a with
    | false => ∃ R',(∀ y,y ∈ R' ↔ y ∈ is)∧R'.length=is.length∧C9 l fl R' ∧ B3 P l fl Q n pd R' (a.put o.dst undef) w
    | true=>match fl.getD i 2 with
      | 0 => ∃ v,(∀ w,(execOp a.eval o).run P w = .ok (.value v) w)∧B3 P l fl Q n pd is (a.put o.dst v) w
      | 1 => ∃ v,(execOp a.eval o).run P w = .ok (.value v) w∧B3 P l fl Q n ((i,v)::pd) is (a.put o.dst v) w
      | _=>(∀ y ∈ is,nzB fl y=false → ∃ z ∈ i::is,nzB fl z=true∧Pre l z y) ∧
        ∀ j ∈ i::is,nzB fl j=true→(∃ k ∈ i::is,Pre l k j) ∨ ∃ oj R',l[j]? = some oj∧(∀ y,y ∈ R' ↔ y ∈ i::is∧y ≠ j)∧R'.length=is.length∧C9 l fl R' ∧
          match B4 l oj a with
          | true=>oj.wpIn Fence.wide 0 P a w (fun a' w' => O1 P l (pd.filter fun p => !((C1 l).getD j 0).testBit p.1) a' w' ∧ B3 P l fl Q n (pd.filter fun p => !((C1 l).getD j 0).testBit p.1) R' a' w') Q
          | false=>B3 P l fl Q n pd R' (a.put oj.dst undef) w

theorem absorbT : ∀(n:Nat) (R:List Nat) (D pd:List (Nat×Value)) (a:Act) (w:World),R.length≤n→C9 l fl (D.map (·.1)++R)→L7 P l fl pd D a w→B3 P l fl Q n pd R (puts l D a) w →
    ∃ n' D' pd' R',R'.length≤n' ∧ (∀ y,y ∈ D'.map (·.1)++R' ↔ y ∈ D.map (·.1)++R)∧D'.length+R'.length=D.length+R.length∧C9 l fl (D'.map (·.1)++R')∧L7 P l fl pd' D' a w∧B3 P l fl Q n' pd' R' (puts l D' a) w ∧
      (R' = [] ∨ ∃ r R'' o,R' = r::R'' ∧ l[r]? = some o∧B4 l o (puts l D' a)=true∧nzB fl r=true):=by
  intro n
  induction n with
  | zero =>
    intro R D pd a w hl hg h1 h2
    have:R = []:=List.eq_nil_of_length_eq_zero (by omega)
    subst this
    exact⟨0,D,pd,[],Nat.le_refl _,fun _=>Iff.rfl,rfl,hg,h1,h2,.inl rfl⟩
  | succ n ih =>
    intro R D pd a w hl hg h1 h2
    cases R with
    | nil=>exact⟨n+1,D,pd,[],Nat.zero_le _,fun _=>Iff.rfl,rfl,hg,h1,h2,.inl rfl⟩
    | cons i R =>
      have h2' := h2
      unfold B3 at h2
      obtain⟨o,ho,h⟩:=h2
      have hd : ∀ v,A5 l (puts l D a) (i,v)=(puts l D a).put o.dst v:=fun v=>by simp [A5,F9,ho]
      have hl' : R.length≤n:=by simpa using hl
      have hgi : ∀ v:Value,C9 l fl ((D ++ [(i,v)]).map (·.1)++R):=fun v=>by simpa using hg
      cases hw:B4 l o (puts l D a) with
      | false =>
        rw [hw] at h
        obtain⟨R',hR1,hR2,hR3,h⟩:=h
        have h1' := h1.snoc (p:=(i,undef)) ⟨o,ho,.inl ⟨hw,rfl⟩⟩
        obtain⟨n',D',pd',R2,a1,a2,a3,a4,a5,a6,a7⟩:=ih R' (D ++ [(i,undef)]) pd a w (by omega) ((hgi undef).tail (fun y hy=>(hR1 y).1 hy) hR3) h1' (by rw [Q0t,hd]; exact h)
        refine⟨n',D',pd',R2,a1,fun y=>(a2 y).trans ?_,?_,a4,a5,a6,a7⟩
        · simp [hR1 y]
        · simp at a3 ⊢; omega
      | true =>
        rw [hw] at h
        by_cases h0:fl.getD i 2=0
        · rw [h0] at h
          obtain⟨v,hv,hk⟩:=h
          have h1' := h1.snoc (p:=(i,v)) ⟨o,ho,.inr ⟨hw,hv w,.inl ⟨h0,hv⟩⟩⟩
          obtain⟨n',D',pd',R2,a1,a2,a3,a4,a5,a6,a7⟩:=ih R (D ++ [(i,v)]) pd a w hl' (hgi v) h1' (by rw [Q0t,hd]; exact hk)
          refine⟨n',D',pd',R2,a1,fun y=>(a2 y).trans ?_,?_,a4,a5,a6,a7⟩
          · simp
          · simp at a3 ⊢; omega
        · by_cases h10:fl.getD i 2=1
          · rw [h10] at h
            obtain⟨v,hv,hk⟩:=h
            have h1' := (h1.more (pd' := (i,v)::pd) (fun q hq=>by simp [hq])).snoc (p:=(i,v)) ⟨o,ho,.inr ⟨hw,hv,.inr ⟨h10,by simp⟩⟩⟩
            obtain⟨n',D',pd',R2,a1,a2,a3,a4,a5,a6,a7⟩:=ih R (D ++ [(i,v)]) ((i,v)::pd) a w hl' (hgi v) h1' (by rw [Q0t,hd]; exact hk)
            refine⟨n',D',pd',R2,a1,fun y=>(a2 y).trans ?_,?_,a4,a5,a6,a7⟩
            · simp
            · simp at a3 ⊢; omega
          · refine⟨n+1,D,pd,i::R,hl,fun _=>Iff.rfl,rfl,hg,h1,h2',.inr ⟨i,R,o,rfl,ho,hw,?_⟩⟩
            unfold nzB
            split
            · rename_i h; exact absurd h h0
            · rename_i h; exact absurd h h10
            · rfl

theorem tr_any (hs : ∀(j:Nat) (o:Oper) cs b,l[j]? = some o→o.op ≠ .select cs b) (hcl : ∀(j:Nat) (o:Oper),l[j]? = some o → ∀ e ∈ o.after,Region.binds .any e=true→e.on < l.length)
    (hQ : ∀ c a i v w,Q (.panic c) (Act.put a (F9 l i) v) w→Q (.panic c) a w) :
    ∀(fuel n:Nat) (listed:Array Bool) (a:Act) (w:World) (D pd:List (Nat×Value)) (R:List Nat),R.length≤n→listed.size=l.length →
      (∀ j,j < l.length→(listed.getD j false=false ↔ j ∈ D.map (·.1)++R))→(∀ j ∈ D.map (·.1)++R,j < l.length) →
      (∀(j:Nat) (o:Oper),listed.getD j false=true→l[j]? = some o → ∀ e ∈ o.after,Region.binds .any e=true→listed.getD e.on false=true) →
      C9 l fl (D.map (·.1)++R)→L7 P l fl pd D a w→B3 P l fl Q n pd R (puts l D a) w→D.length+R.length≤fuel→wpAnyIn Fence.wide 0 P .any l.toArray Q fuel listed a w:=by
  intro fuel
  induction fuel with
  | zero =>
    intro n listed a w D pd R hnn hn hin hlt hdn hg hp hw hf
    have hD:D = []:=List.eq_nil_of_length_eq_zero (by omega)
    have hR:R = []:=List.eq_nil_of_length_eq_zero (by omega)
    subst hD
    subst hR
    refine⟨?_,by cases n with | zero=>exact hw.2 | succ n=>exact hw⟩
    cases hr:Region.ready .any l.toArray listed with
    | nil=>rfl
    | cons j js =>
      exfalso
      have hj:j ∈ Region.ready .any l.toArray listed:=by rw [hr]; simp
      rw [mem_ready] at hj
      obtain⟨h0,o,ho,_⟩:=hj
      rw [List.getElem?_toArray] at ho
      have hjl:j < l.length:=(List.getElem?_eq_some_iff.1 ho).1
      rw [Q5f hn hjl] at h0
      have:=(hin j hjl).1 h0
      simp at this
  | succ fuel ih =>
    intro n0 listed a w D0 pd0 R0 hnn0 hn hin0 hlt0 hdn hg0 hp0 hw0 hf
    obtain⟨n,D,pd,R,hnn,hmem,hlen0,hg,hp,hw,hR⟩:=absorbT n0 R0 D0 pd0 a w hnn0 hg0 hp0 hw0
    have hlen:D.length+R.length≤fuel+1:=by omega
    have hin : ∀ j,j < l.length→(listed.getD j false=false ↔ j ∈ D.map (·.1)++R):=fun j hj=>(hin0 j hj).trans (hmem j).symm
    have hlt : ∀ j ∈ D.map (·.1)++R,j < l.length:=fun j hj=>hlt0 j ((hmem j).1 hj)
    clear hin0 hlt0 hmem hlen0 hg0 hp0 hw0 hf hnn0
    refine⟨fun hnil => ?_,fun j hj => ?_⟩
    · -- nothing may come up: all has been done
      cases hx:D.map (·.1)++R with
      | nil =>
        obtain⟨h1,h2⟩:=List.append_eq_nil_iff.1 hx
        have hD:D = []:=by simpa using h1
        subst hD
        subst h2
        cases n with
        | zero=>exact hw.2
        | succ n=>exact hw
      | cons x xs =>
        exfalso
        rw [hx] at hin hlt hg
        have hxl:x < l.length:=hlt x (by simp)
        have hx0:listed.getD x false=false:=(hin x hxl).2 (by simp)
        have hmem:x ∈ Region.ready .any l.toArray listed:=by
          rw [mem_ready]
          refine⟨by rw [Q5f hn hxl]; exact hx0,l[x],by rw [List.getElem?_toArray,List.getElem?_eq_getElem hxl],fun e he hb => ?_⟩
          have hel:=hcl x _ (List.getElem?_eq_getElem hxl) e he hb
          cases hh:listed.getD e.on false with
          | true=>rfl
          | false =>
            exfalso
            rcases List.mem_cons.1 ((hin e.on hel).1 hh) with h | h
            · exact hg.2.2.1 _ (List.getElem?_eq_getElem hxl) e he hb h
            · exact(hg.1 _ h).no _ (List.getElem?_eq_getElem hxl) e he hb rfl
        rw [hnil] at hmem
        cases hmem
    · rw [mem_ready] at hj
      obtain⟨h0,o,ho,hrd⟩:=hj
      rw [List.getElem?_toArray] at ho
      have hjl:j < l.length:=(List.getElem?_eq_some_iff.1 ho).1
      rw [Q5f hn hjl] at h0
      have hpre : ∀ r k,Pre l r k→(k=j ∨ listed.getD k false=true)→listed.getD r false=true:=by
        intro r k hpr
        induction hpr with
        | base hk he hb =>
          rintro(rfl | hk2)
          · rw [ho] at hk
            cases hk
            exact hrd _ he hb
          · exact hdn _ _ hk2 hk _ he hb
        | step hk he hb _ ih2 =>
          rintro(rfl | hk2)
          · rw [ho] at hk
            cases hk
            exact ih2 (.inr (hrd _ he hb))
          · exact ih2 (.inr (hdn _ _ hk2 hk _ he hb))
      have hun : ∀ i,i ∈ D.map (·.1)++R → ¬ Pre l i j:=fun i hi hpi=>by
        have h1:=(hin i (hlt i hi)).2 hi
        rw [hpre i j hpi (.inl rfl)] at h1
        cases h1
      have hn' : (listed.setIfInBounds j true).size=l.length:=by simp [hn]
      have hset : ∀ i,(listed.setIfInBounds j true).getD i false=if i=j then true else listed.getD i false:=by
        intro i
        by_cases hij:i=j
        · subst hij
          rw [if_pos rfl,Array.getD_eq_getD_getElem?,Array.getElem?_setIfInBounds_self_of_lt (by omega)]
          rfl
        · rw [if_neg hij,getD_set_ne false (Ne.symm hij)]
      have hdn' : ∀(i:Nat) (o:Oper),(listed.setIfInBounds j true).getD i false=true→l[i]? = some o → ∀ e ∈ o.after,Region.binds .any e=true→(listed.setIfInBounds j true).getD e.on false=true:=by
        intro i o2 hi ho2 e he hb
        refine getD_set_true ?_
        rw [hset] at hi
        split at hi
        · rename_i hij
          subst hij
          rw [ho] at ho2
          cases ho2
          exact hrd e he hb
        · exact hdn i o2 hi ho2 e he hb
      have hjm:=(hin j hjl).1 h0
      have hap : ∀ i,i ∈ D.map (·.1)→Z5h l i j → ∀ oi,l[i]? = some oi→oi.apart l.toArray o=true:=fun i hi hpp oi hoi=>by
        rcases hpp.ap with h | h
        · exact absurd h (hun i (List.mem_append_left _ hi))
        · exact h oi o hoi ho
      have hgood : ∀(D1:List (Nat×Value)),(∀ p ∈ D1,Z5h l p.1 j∧p.1 ∈ D.map (·.1)) →
          (∀ p ∈ D1,∀ d,F9 l p.1=some d→d ∉ o.looksAt l.toArray)∧(∀ p ∈ D1,∀ e,F9 l p.1=some e→o.dst ≠ some e)∧(∀ p ∈ D1,∀ o2,l[p.1]? = some o2 → ∀ e,o.dst=some e→e ∉ o2.looksAt l.toArray):=by
        intro D1 hD1
        refine⟨fun p hp d hd => ?_,fun p hp d hd => ?_,fun p hp o2 ho2 d hd => ?_⟩
        · unfold F9 at hd
          cases hop:l[p.1]? with
          | none=>rw [hop] at hd; cases hd
          | some o2 =>
            rw [hop] at hd
            exact(Oper.apart_spec (hap p.1 (hD1 p hp).2 (hD1 p hp).1 o2 hop)).1 d hd
        · unfold F9 at hd
          cases hop:l[p.1]? with
          | none=>rw [hop] at hd; cases hd
          | some o2 =>
            rw [hop] at hd
            exact(Oper.apart_spec (hap p.1 (hD1 p hp).2 (hD1 p hp).1 o2 hop)).2.1 d hd
        · exact(Oper.apart_spec (hap p.1 (hD1 p hp).2 (hD1 p hp).1 o2 ho2)).2.2 d hd
      unfold wpOpIn
      rw [List.getElem?_toArray,ho]
      simp only
      rcases List.mem_append.1 hjm with hjD | hjR
      · -- one of those that wait
        obtain⟨⟨j',v⟩,hm,hj'⟩:=List.mem_map.1 hjD
        simp only at hj'
        subst hj'
        obtain⟨D1,D2,rfl⟩:=List.append_of_mem hm
        have hgp:=hg
        rw [List.map_append,List.map_cons,List.append_assoc,List.cons_append] at hgp
        have hpr:=hgp.pair
        have hA:=hgood D1 (fun p hp=>⟨hpr.1 p.1 (List.mem_map_of_mem hp),List.mem_map_of_mem (by simp [hp])⟩)
        obtain⟨hp1,hy,hp2⟩:=hp.split
        obtain⟨o',ho',hy⟩:=hy
        rw [ho] at ho'
        cases ho'
        have hev:=Q0v (D:=D1) (fun cs b=>hs _ o cs b ho) hA.1 a
        rw [hev.2,hev.1] at hy
        have hdst:F9 l j' = o.dst:=by simp [F9,ho]
        have hfin:wpAnyIn Fence.wide 0 P .any l.toArray Q fuel (listed.setIfInBounds j' true) (a.put o.dst v) w:=by
          have hpp:puts l D1 (a.put o.dst v)=(puts l D1 a).put o.dst v:=Q4m (fun p hp e he=>hA.2.1 p hp e he) a v
          have hpi:A5 l (puts l D1 a) (j',v)=(puts l D1 a).put o.dst v:=by simp [A5,hdst]
          refine ih n _ _ _ (D1++D2) pd R hnn hn' ?_ ?_ hdn' ?_ ?_ ?_ ?_
          · intro i hi
            rw [hset]
            by_cases hij:i=j'
            · subst hij
              rw [if_pos rfl]
              refine⟨fun h=>(Bool.noConfusion h),fun h => ?_⟩
              exfalso
              simp only [List.map_append,List.append_assoc,List.mem_append] at h
              rcases h with h | h | h
              · exact(hpr.1 i h).ne rfl
              · exact(hpr.2 i (List.mem_append_left _ h)).ne rfl
              · exact(hpr.2 i (List.mem_append_right _ h)).ne rfl
            · rw [if_neg hij,hin i hi]
              simp only [List.map_append,List.map_cons,List.append_assoc,List.mem_append,List.mem_cons]
              constructor
              · rintro(h | (h | h) | h)
                · exact .inl h
                · exact absurd h hij
                · exact .inr (.inl h)
                · exact .inr (.inr h)
              · rintro(h | h | h)
                · exact .inl h
                · exact .inr (.inl (.inr h))
                · exact .inr (.inr h)
          · intro i hi
            refine hlt i ?_
            simp only [List.map_append,List.map_cons,List.append_assoc,List.mem_append,List.mem_cons] at hi ⊢
            rcases hi with h | h | h
            · exact .inl h
            · exact .inr (.inl (.inr h))
            · exact .inr (.inr h)
          · refine hg.sub ?_
            rw [List.map_append,List.map_append,List.map_cons]
            exact List.Sublist.append (List.Sublist.append (List.Sublist.refl _) (List.Sublist.cons _ (List.Sublist.refl _))) (List.Sublist.refl _)
          · refine L7.append (hp1.put hs hA.2.2 hA.2.1) ?_
            rw [hpp]
            rw [hpi] at hp2
            exact hp2
          · have:puts l (D1++(j',v)::D2) a=puts l (D1++D2) (a.put o.dst v):=by
              simp only [puts,List.foldl_append,List.foldl_cons]
              show puts l D2 (A5 l (puts l D1 a) (j',v))=puts l D2 (puts l D1 (a.put o.dst v))
              rw [hpp,hpi]
            rw [← this]
            exact hw
          · simp at hlen ⊢
            omega
        rcases hy with ⟨hy1,hy2⟩ | ⟨hy1,hy2,_⟩
        · have hb:Region.wanted o (yielded l.toArray a.tmps)=false:=hy1
          simp only at hy2
          subst hy2
          rw [hb]
          exact⟨fun _ _=>trivial,hfin⟩
        · have hb:Region.wanted o (yielded l.toArray a.tmps)=true:=hy1
          rw [hb]
          refine⟨fun _ _=>trivial,?_⟩
          show o.uponIn _ _ _ _ _ _ ((o.semAt none a.eval).run P w)
          rw [Oper.semAt_none,hy2]
          exact hfin
      · -- one of those that write
        rcases hR with rfl | ⟨r,R',o',rfl,ho',hwr,hnz⟩
        · cases hjR
        · cases n with
          | zero=>simp at hnn
          | succ n =>
          unfold B3 at hw
          obtain⟨o2,ho2,hw⟩:=hw
          rw [ho'] at ho2
          cases ho2
          rw [hwr] at hw
          have hw2:(∀ y ∈ R',nzB fl y=false → ∃ z ∈ r::R',nzB fl z=true∧Pre l z y) ∧
              ∀ j ∈ r::R',nzB fl j=true→(∃ k ∈ r::R',Pre l k j) ∨ ∃ oj R2,l[j]? = some oj∧(∀ y,y ∈ R2 ↔ y ∈ r::R' ∧ y ≠ j)∧R2.length=R'.length∧C9 l fl R2 ∧
                match B4 l oj (puts l D a) with
                | true=>oj.wpIn Fence.wide 0 P (puts l D a) w (fun a' w' => O1 P l (pd.filter fun p => !((C1 l).getD j 0).testBit p.1) a' w' ∧ B3 P l fl Q n (pd.filter fun p => !((C1 l).getD j 0).testBit p.1) R2 a' w') Q
                | false=>B3 P l fl Q n pd R2 ((puts l D a).put oj.dst undef) w:=by
            simp only at hw
            unfold nzB at hnz
            split at hw
            · rename_i h; rw [h] at hnz; cases hnz
            · rename_i h; rw [h] at hnz; cases hnz
            · exact hw
          have hjnz:nzB fl j=true:=by
            cases hc:nzB fl j with
            | true=>rfl
            | false =>
              exfalso
              rcases List.mem_cons.1 hjR with h | h
              · rw [h,hnz] at hc; cases hc
              · obtain⟨z,hz,_,hpz⟩:=hw2.1 j h hc
                exact hun z (List.mem_append_right _ hz) hpz
          rcases hw2.2 j hjR hjnz with ⟨k,hk,hpk⟩ | ⟨oj,R2,hoj,hR2,hR2l,hg2,hw3⟩
          · exact absurd hpk (hun k (List.mem_append_right _ hk))
          rw [ho] at hoj
          cases hoj
          have hPj : ∀ p ∈ D,Z5h l p.1 j:=fun p hp=>by
            obtain⟨D1,D2,hD⟩:=List.append_of_mem hp
            have hgp:=hg
            rw [hD,List.map_append,List.map_cons,List.append_assoc,List.cons_append] at hgp
            exact hgp.pair.2 j (List.mem_append_right _ hjR)
          have hA:=hgood D (fun p hp=>⟨hPj p hp,List.mem_map_of_mem hp⟩)
          have hev:=Q0v (D:=D) (fun cs b=>hs _ o cs b ho) hA.1 a
          have hsub : ∀ y ∈ R2,y ∈ r::R' := fun y hy=>((hR2 y).1 hy).1
          have hgD:C9 l fl (D.map (·.1)++R2):=hg.tail hsub hg2
          have hl2:R2.length≤n:=by simp at hnn; omega
          have hin' : ∀ i,i < l.length→((listed.setIfInBounds j true).getD i false=false ↔ i ∈ D.map (·.1)++R2):=by
            intro i hi
            rw [hset]
            by_cases hij:i=j
            · subst hij
              rw [if_pos rfl]
              refine⟨fun h=>(Bool.noConfusion h),fun h => ?_⟩
              exfalso
              rcases List.mem_append.1 h with h | h
              · obtain⟨p,hp,he⟩:=List.mem_map.1 h
                exact(hPj p hp).ne he
              · exact((hR2 i).1 h).2 rfl
            · rw [if_neg hij,hin i hi]
              simp only [List.mem_append,hR2 i]
              constructor
              · rintro(h | h)
                · exact .inl h
                · exact .inr ⟨h,hij⟩
              · rintro(h | h)
                · exact .inl h
                · exact .inr h.1
          have hlt' : ∀ i ∈ D.map (·.1)++R2,i < l.length:=fun i hi=>hlt i (by
            rcases List.mem_append.1 hi with h | h
            · exact List.mem_append_left _ h
            · exact List.mem_append_right _ (hsub i h))
          cases hwj:B4 l o (puts l D a) with
          | false =>
            rw [hwj] at hw3
            have hb:Region.wanted o (yielded l.toArray a.tmps)=false:=hev.2.symm.trans hwj
            rw [hb]
            have hpp:puts l D (a.put o.dst undef)=(puts l D a).put o.dst undef:=Q4m (fun p hp e he=>hA.2.1 p hp e he) a undef
            refine⟨fun _ _=>trivial,ih n _ _ _ D pd R2 hl2 hn' hin' hlt' hdn' hgD (hp.put hs hA.2.2 hA.2.1) (by rw [hpp]; exact hw3) ?_⟩
            simp at hlen ⊢; omega
          | true =>
            rw [hwj] at hw3
            have hb:Region.wanted o (yielded l.toArray a.tmps)=true:=hev.2.symm.trans hwj
            rw [hb]
            refine Oper.wpIn_mono ?_ (Z7e (fun cs b=>hs _ o cs b ho) hA.1 hA.2.1 hQ hw3)
            rintro a' w' ⟨⟨u,ds,rfl⟩,hst,hw4⟩
            refine ih n _ _ _ D (pd.filter fun p => !((C1 l).getD j 0).testBit p.1) R2 hl2 hn' hin' hlt' hdn' hgD ?_ hw4 (by simp at hlen ⊢; omega)
            refine hp.after hs hA.2.2 hA.2.1 (fun p hp hpd => ?_) hst (fun D1 p D2 hD hl => ?_)
            · refine List.mem_filter.2 ⟨hpd,?_⟩
              cases hb2:((C1 l).getD j 0).testBit p.1 with
              | false=>rfl
              | true=>exact absurd (Q0o l _ _ hb2) (hun p.1 (List.mem_append_left _ (List.mem_map_of_mem hp)))
            · have hg2:=hg
              rw [hD,List.map_append,List.map_cons,List.append_assoc,List.cons_append] at hg2
              have hg3:C9 l fl (p.1::(D2.map (·.1)++r::R')):=hg2.sub (List.sublist_append_right _ _)
              rcases hg3.2.1 hl with h | h
              · intro q hq
                refine h q.1 ?_
                rcases List.mem_cons.1 hq with rfl | hq
                · simp
                · exact List.mem_cons_of_mem _ (List.mem_append_left _ (List.mem_map_of_mem hq))
              · exact absurd (h j (List.mem_append_right _ hjR) hjnz) (hun p.1 (List.mem_append_left _ (List.mem_map_of_mem (by rw [hD]; simp))))

def Q4n (l:List Oper) (fl an:List Nat):List Nat→Bool
  | []=>true
  | x::r=>r.all (fun y=>pairB l an x y) &&
      ((!clobB l x x&&r.all (fun y => !clobB l x y)) || !Nat.beq (fl.getD x 2) 1 || r.all (fun z => !nzB fl z || (an.getD z 0).testBit x))&&selfB l x&&Q4n l fl an r
theorem Z2n : ∀(ord:List Nat),Q4n l fl (C1 l) ord=true→C9 l fl ord:=by
  intro ord
  induction ord with
  | nil=>exact fun _=>trivial
  | cons x r ih =>
    intro h
    simp only [Q4n,Bool.and_eq_true,Bool.or_eq_true,List.all_eq_true,Bool.not_eq_true'] at h
    obtain⟨⟨⟨h1,h2⟩,h4⟩,h3⟩:=h
    refine⟨fun y hy => ?_,fun h1l => ?_,?_,ih h3⟩
    · have ha:=h1 y hy
      unfold pairB at ha
      simp only [Bool.and_eq_true,Bool.not_eq_true'] at ha
      obtain⟨hne,hm⟩:=ha
      split at hm
      · rename_i ox oy hx hy'
        simp only [Bool.and_eq_true,Bool.or_eq_true] at hm
        obtain⟨hm1,hm2⟩:=hm
        refine⟨fun e=>by subst e; simp at hne,fun o ho e he hb' => ?_,?_⟩
        · rw [hx] at ho
          cases ho
          rw [Array.all_eq_true_iff_forall_mem] at hm1
          have:=hm1 e he
          rw [hb'] at this
          intro hh
          rw [hh] at this
          simp at this
        · rcases hm2 with hm2 | hm2
          · exact .inl (Q0o l _ _ hm2)
          · refine .inr fun ox' oy' hx' hy2 => ?_
            rw [hx] at hx'
            rw [hy'] at hy2
            cases hx'
            cases hy2
            exact hm2
      · cases hm
    · rcases h2 with (h2 | h2) | h2
      · refine .inl fun y hy => ?_
        rcases List.mem_cons.1 hy with rfl | hy
        · exact h2.1
        · exact h2.2 y hy
      · rw [h1l] at h2; cases h2
      · refine .inr fun z hz hn => ?_
        rcases h2 z hz with h | h
        · rw [h] at hn; cases hn
        · exact Q0o l _ _ h
    · intro o ho e he hb hh
      unfold selfB at h4
      rw [ho] at h4
      simp only at h4
      rw [Array.all_eq_true_iff_forall_mem] at h4
      have:=h4 e he
      rw [hb,hh] at this
      simp at this
def trB (l:List Oper) (fl:List Nat) (ord:List Nat):Bool :=
  Nat.beq ord.length l.length&&ord.all (fun i=>Nat.blt i l.length)&&(List.range l.length).all (fun i=>ord.contains i)&&Region.noSelect l.toArray&&Z0i l&&Q4n l fl (C1 l) ord
theorem tr_start {ord:List Nat} (hB:trB l fl ord=true) (hQ : ∀ c a i v w,Q (.panic c) (Act.put a (F9 l i) v) w→Q (.panic c) a w) {a:Act} {w:World} (h:B3 P l fl Q ord.length [] ord a w) :
    wpAnyIn Fence.wide 0 P .any l.toArray Q l.length (Array.replicate l.length false) a w:=by
  simp only [trB,Bool.and_eq_true,List.all_eq_true] at hB
  obtain⟨⟨⟨⟨⟨h1,h2⟩,h3⟩,h4⟩,h5⟩,h6⟩:=hB
  have hsel : ∀(j:Nat) (o:Oper) cs b,l[j]? = some o→o.op ≠ .select cs b:=by
    intro j o cs b ho hop
    unfold Region.noSelect at h4
    rw [Array.all_eq_true_iff_forall_mem] at h4
    have:=h4 o (by simpa using List.mem_of_getElem? ho)
    rw [hop] at this
    cases this
  have hcl : ∀(j:Nat) (o:Oper),l[j]? = some o → ∀ e ∈ o.after,Region.binds .any e=true→e.on < l.length:=by
    intro j o ho e he hb
    simp only [Z0i,List.all_eq_true] at h5
    have:=h5 o (List.mem_of_getElem? ho)
    rw [Array.all_eq_true_iff_forall_mem] at this
    have:=this e he
    rw [hb] at this
    simpa [Nat.blt_eq] using this
  have hrep : ∀ i,i < l.length→(Array.replicate l.length false).getD i false=false:=fun i hi=>by simp [Array.getD_eq_getD_getElem?,hi]
  refine tr_any hsel hcl hQ l.length ord.length _ a w [] [] ord (Nat.le_refl _) (by simp) ?_ ?_ ?_ (Z2n ord h6) trivial h ?_
  · intro j hj
    refine⟨fun _ => ?_,fun _=>hrep j hj⟩
    simpa using h3 j (List.mem_range.2 hj)
  · intro j hj
    simpa [Nat.blt_eq] using h2 j (by simpa using hj)
  · intro j o hj ho
    rw [hrep j (List.getElem?_eq_some_iff.1 ho).1] at hj
    cases hj
  · have:=Nat.eq_of_beq_eq_true h1
    simp
    omega
end

section
variable {P:Program} {l:List Oper} {fl:List Nat} {Q:Exit→Act→World→Prop} {pd:List (Nat×Value)} {i m:Nat} {is:List Nat} {n:NF} {J:Nat→Value} {L:List (Nat×Value)} {w w' w0:World}
  {d:Nat} {ty:TypeId} {pos:String} {aft:Array Edge} {op:Op} {v:Value} {x y c:Operand} {t t2:TypeId} {T:Nat→Prop} {gd:Option (Nat×Bool)}

theorem rt {id:Nat} (fl:List Nat) (ord:List Nat) (hm:P.follows .mixedOrders=true) (hB:trB l fl ord=true) (hb:Bd T w)
    (k : ∀ w',Inn w.heap.size noB T w T w' → B3 P l fl (NoPanic Q) ord.length [] ord (env n J L) w'):(Code.region id l.toArray true).wp P Q (env n J L) w:=by
  refine(wpIn_wide (n:=0)).1 (wpIn_mono (Q:=NoPanic Q) (wpIn_region_any hm ?_) fun e a w h=>by cases e <;> first | exact h | exact h.elim)
  have:=tr_start hB (Q:=NoPanic Q) (fun _ _ _ _ _ h=>h.elim) (k w.drew ((Inn.refl hb (Nat.le_refl _)).ch0 (Ch.drew noB w)))
  simpa using this
theorem te (h:Q .normal (env n J L) w):B3 P l fl (NoPanic Q) m pd [] (env n J L) w:=by
  cases m with
  | zero=>exact⟨rfl,h⟩
  | succ m=>exact h
theorem t0 (ho:l[i]? = some ⟨some d,op,ty,pos,aft,gd⟩) (hw:Wt l n J L gd) (h : ∀ w,(execOp (ev n J L) ⟨some d,op,ty,pos,aft,none⟩).run P w = .ok (.value v) w) (hf:fl.getD i 2=0)
    (k:B3 P l fl Q m pd is (env n J ((d,v)::L)) w):B3 P l fl Q (m+1) pd (i::is) (env n J L) w:=by
  refine⟨_,ho,?_⟩
  rw [Q4e rfl hw,hf]
  refine⟨v,fun w => ?_,?_⟩
  · rw [K7]
    exact h w
  · show B3 P l fl Q m pd is (Act.put _ (some d) v) w
    rw [E5]
    exact k
theorem t1 (ho:l[i]? = some ⟨some d,op,ty,pos,aft,gd⟩) (hw:Wt l n J L gd) (h:(execOp (ev n J L) ⟨some d,op,ty,pos,aft,none⟩).run P w = .ok (.value v) w) (hf:fl.getD i 2=1)
    (k:B3 P l fl Q m ((i,v)::pd) is (env n J ((d,v)::L)) w):B3 P l fl Q (m+1) pd (i::is) (env n J L) w:=by
  refine⟨_,ho,?_⟩
  rw [Q4e rfl hw,hf]
  refine⟨v,?_,?_⟩
  · rw [K7]
    exact h
  · show B3 P l fl Q m ((i,v)::pd) is (Act.put _ (some d) v) w
    rw [E5]
    exact k
theorem tU (ho:l[i]? = some ⟨some d,op,ty,pos,aft,gd⟩) (hw:Wf l n J L gd) (hq:Q4n l fl (C1 l) is=true) (k:B3 P l fl Q m pd is (env n J ((d,undef)::L)) w):B3 P l fl Q (m+1) pd (i::is) (env n J L) w:=by
  refine⟨_,ho,?_⟩
  rw [want_f rfl hw]
  refine⟨is,fun _=>Iff.rfl,rfl,Z2n is hq,?_⟩
  show B3 P l fl Q m pd is (Act.put _ (some d) undef) w
  rw [E5]
  exact k

def Br (P:Program) (l:List Oper) (fl:List Nat) (Q:Exit→Act→World→Prop) (m:Nat) (pd:List (Nat×Value)) (R:List Nat) (a:Act) (w:World) (j:Nat):Prop :=
  ∃ oj R',l[j]? = some oj∧(∀ y,y ∈ R' ↔ y ∈ R∧y ≠ j)∧R'.length+1=R.length∧C9 l fl R' ∧
    match B4 l oj a with
    | true=>oj.wpIn Fence.wide 0 P a w (fun a' w' => O1 P l (pd.filter fun p => !((C1 l).getD j 0).testBit p.1) a' w' ∧ B3 P l fl Q m (pd.filter fun p => !((C1 l).getD j 0).testBit p.1) R' a' w') Q
    | false=>B3 P l fl Q m pd R' (a.put oj.dst undef) w
def Brs (P:Program) (l:List Oper) (fl:List Nat) (Q:Exit→Act→World→Prop) (m:Nat) (pd:List (Nat×Value)) (R:List Nat) (a:Act) (w:World):List Nat→Prop
  | []=>True
  | j::js=>Br P l fl Q m pd R a w j∧Brs P l fl Q m pd R a w js
theorem Brs.get {R:List Nat} {a:Act} : ∀ {js:List Nat},Brs P l fl Q m pd R a w js → ∀ j ∈ js,Br P l fl Q m pd R a w j
  | [],_,j,hj=>by cases hj
  | k::js,h,j,hj=>by
    rcases List.mem_cons.1 hj with rfl | hj
    · exact h.1
    · exact Brs.get h.2 j hj
def twB (l:List Oper) (fl an:List Nat) (R js:List Nat):Bool:=R.all fun y=>js.contains y || R.any fun z=>nzB fl z&&(an.getD y 0).testBit z
theorem tw (js:List Nat) (ho:(l[i]?).isSome=true) (hwt : ∀ o,l[i]? = some o→B4 l o (env n J L)=true) (hf:fl.getD i 2=2) (hjs:js.all (fun j=>nzB fl j)=true) (hB:twB l fl (C1 l) (i::is) js=true)
    (h:Brs P l fl Q m pd (i::is) (env n J L) w js):B3 P l fl Q (m+1) pd (i::is) (env n J L) w:=by
  obtain⟨o,ho'⟩:=Option.isSome_iff_exists.1 ho
  refine⟨o,ho',?_⟩
  rw [hwt o ho',hf]
  simp only
  have key : ∀ y ∈ i::is,y ∈ js ∨ ∃ z ∈ i::is,nzB fl z=true∧Pre l z y:=fun y hy=>by
    simp only [twB,List.all_eq_true,Bool.or_eq_true,List.any_eq_true,Bool.and_eq_true] at hB
    rcases hB y hy with h | ⟨z,hz,h1,h2⟩
    · exact .inl (by simpa using h)
    · exact .inr ⟨z,hz,h1,Q0o l _ _ h2⟩
  refine⟨fun y hy hn => ?_,fun j hj hn => ?_⟩
  · rcases key y (List.mem_cons_of_mem _ hy) with h | h
    · have:=List.all_eq_true.1 hjs y h
      rw [hn] at this
      cases this
    · exact h
  · rcases key j hj with h' | ⟨z,hz,_,h2⟩
    · obtain⟨oj,R',a1,a2,a3,a4,a5⟩:=h.get j h'
      exact .inr ⟨oj,R',a1,a2,by simpa using a3,a4,a5⟩
    · exact .inl ⟨z,hz,h2⟩
def brB (R R' : List Nat) (j:Nat):Bool:=Nat.beq (R'.length+1) R.length&&R'.all (fun y=>R.contains y && !Nat.beq y j)&&R.all (fun y=>Nat.beq y j || R'.contains y)
theorem br {R:List Nat} {j:Nat} {dst:Option Tmp} (R' : List Nat) (pd2:List (Nat×Value)) (ho:l[j]? = some ⟨dst,op,ty,pos,aft,gd⟩) (hb:brB R R' j=true) (hq:Q4n l fl (C1 l) R' = true) (hw:Wt l n J L gd)
    (hp:(pd.filter fun p => !((C1 l).getD j 0).testBit p.1)=pd2)
    (h:Oper.wp P ⟨dst,op,ty,pos,aft,none⟩ (env n J L) w (fun a' w' => O1 P l pd2 a' w' ∧ B3 P l fl Q m pd2 R' a' w') Q):Br P l fl Q m pd R (env n J L) w j:=by
  simp only [brB,Bool.and_eq_true,List.all_eq_true,Bool.or_eq_true] at hb
  obtain⟨⟨h1,h2⟩,h3⟩:=hb
  refine⟨_,R',ho,fun y=>⟨fun hy => ?_,fun hy => ?_⟩,Nat.eq_of_beq_eq_true h1,Z2n R' hq,?_⟩
  · have:=h2 y hy
    exact⟨by simpa using this.1,fun e=>by simp [e] at this⟩
  · rcases h3 y hy.1 with h | h
    · exact absurd (Nat.eq_of_beq_eq_true h) hy.2
    · simpa using h
  · rw [Q4e rfl hw]
    subst hp
    exact wp_in h
theorem wt_of {o:Oper} (ho:l[i]? = some o) (hg:o.guard=gd) (hw:Wt l n J L gd) : ∀ o',l[i]? = some o' → B4 l o' (env n J L)=true:=fun o' h=>by
  rw [ho] at h
  cases h
  exact Q4e hg hw
end
end Go.Proofs.YtecakklofhfphaaGreatDoor
