/- What a function owns in memory, as a list of assertions that lie apart. It holds for every program. -/
import Derived.Test.YtecakklofhfphaaGreatDoorKWalk
set_option linter.unusedVariables false
namespace Go.Proofs.YtecakklofhfphaaGreatDoor

abbrev Im (T:Nat→Prop) (w:World) (T' : Nat→Prop) (w' : World):Prop := ∀ k,T k→T' k∧w'.heap[k]? = w.heap[k]?
theorem Im.refl {T:Nat→Prop} {w:World} : Im T w T w:=fun _ h=>⟨h,rfl⟩
theorem Im.trans {T T1 T2:Nat→Prop} {w w1 w2:World} (h:Im T w T1 w1) (k:Im T1 w1 T2 w2):Im T w T2 w2:=fun b hb=>⟨(k b (h b hb).1).1,(k b (h b hb).1).2.trans (h b hb).2⟩

theorem iT {T T1 T2:Nat→Prop} {w w1 w2:World} (h:Im T w T1 w1) (k:Im T1 w1 T2 w2):Im T w T2 w2:=h.trans k
theorem ch {T T' : Nat→Prop} {w w' : World} (h:Im T w T' w' := by repeat (first | assumption | exact Im.refl | (apply Im.trans; assumption))):Im T w T' w' := h
structure Z4 where
  P:(Nat→Prop)→World→(Nat→Prop)→Prop
  loc : ∀ {T T' : Nat→Prop} {w w' : World} {F:Nat→Prop},P T w F→(∀ k,T k→T' k)→(∀ k,T k ∨ F k→w'.heap[k]? = w.heap[k]?)→P T' w' F
  bnd : ∀ {T:Nat→Prop} {w:World} {F:Nat→Prop},P T w F → ∀ k,F k→k < w.heap.size

def empA:Z4 where
  P:=fun _ _ F => ∀ k,¬ F k
  loc:=fun h _ _=>h
  bnd:=fun h k hk=>absurd hk (h k)

def atA:List Z4→Nat→Z4
  | [],_=>empA
  | A::_,0=>A
  | _::L,i+1=>atA L i
def C6:List Z4→Nat→Z4→List Z4
  | [],_,_ => []
  | _::L,0,B=>B::L
  | A::L,i+1,B=>A::C6 L i B
def selL (L:List Z4):List Nat→List Z4
  | [] => []
  | i::r=>atA L i::selL L r
def X1:List Z4→Nat
  | []=>0
  | _::L=>X1 L+1

def Fam (T:Nat→Prop) (w:World) (L:List Z4) (fs:Nat→Nat→Prop):Prop :=
  (∀ i,i < X1 L→(atA L i).P T w (fs i)) ∧ ∀ i j k,i < X1 L→j < X1 L→fs i k→fs j k→i=j

structure Sep (g:World) (T:Nat→Prop) (w:World) (L:List Z4):Prop where
  os:w.os=g.os
  tape:w.tape=g.tape
  output:w.output=g.output
  lt : ∀ k,T k→k < w.heap.size
  sep : ∃ fs,Fam T w L fs ∧ ∀ i k,i < X1 L→fs i k → ¬ T k

theorem D8 (L:List Z4) (i:Nat) (B:Z4):X1 (C6 L i B)=X1 L:=by
  induction L generalizing i with
  | nil=>rfl
  | cons A L ih=>cases i with
    | zero=>rfl
    | succ i=>simp [C6,X1,ih]
theorem Z0j (L:List Z4) (i j:Nat) (B:Z4) (hi:i < X1 L):atA (C6 L i B) j=if j=i then B else atA L j:=by
  induction L generalizing i j with
  | nil=>simp [X1] at hi
  | cons A L ih=>cases i with
    | zero=>cases j with
      | zero=>rfl
      | succ j=>rfl
    | succ i=>cases j with
      | zero=>rfl
      | succ j =>
        simp only [C6,atA]
        rw [ih i j (by simpa [X1] using hi)]
        by_cases h:j=i
        · simp [h]
        · simp [h]
theorem I9 (L:List Z4) (ix:List Nat):X1 (selL L ix)=ix.length:=by
  induction ix with
  | nil=>rfl
  | cons i ix ih=>simp [selL,X1,ih]
theorem atA_sel (L:List Z4) (ix:List Nat) (j:Nat) (hj:j < ix.length):atA (selL L ix) j=atA L ix[j]:=by
  induction ix generalizing j with
  | nil=>simp at hj
  | cons i ix ih=>cases j with
    | zero=>rfl
    | succ j=>simp only [selL,atA]; rw [ih j (by simpa using hj)]; simp
theorem Q4r (L M:List Z4):X1 (L++M)=X1 L+X1 M:=by
  induction L with
  | nil=>simp [X1]
  | cons A L ih=>simp [X1,ih]; omega
theorem Y0j (L M:List Z4) (j:Nat):atA (L++M) j=if j < X1 L then atA L j else atA M (j - X1 L):=by
  induction L generalizing j with
  | nil=>simp [X1]
  | cons A L ih=>cases j with
    | zero=>simp [X1,atA]
    | succ j =>
      simp only [List.cons_append,atA,ih,X1]
      by_cases h:j < X1 L
      · simp [h]
      · simp [h]

theorem Fam.move {T T' : Nat→Prop} {w w' : World} {L:List Z4} {fs:Nat→Nat→Prop} (h:Fam T w L fs) (hT : ∀ k,T k→T' k) (hs : ∀ k,(T k ∨ ∃ i,i < X1 L∧fs i k)→w'.heap[k]? = w.heap[k]?):Fam T' w' L fs :=
  ⟨fun i hi=>(atA L i).loc (h.1 i hi) hT (fun k hk=>hs k (hk.imp id fun hk=>⟨i,hi,hk⟩)),h.2⟩

def Q3 (L:List Z4):Z4 where
  P:=fun T w F => ∃ fs,Fam T w L fs ∧ ∀ k,F k ↔ ∃ i,i < X1 L∧fs i k
  loc:=fun⟨fs,h,hf⟩ hT hs=>⟨fs,h.move hT (fun k hk=>hs k (hk.imp id fun hk=>(hf k).2 hk)),hf⟩
  bnd:=fun⟨fs,h,hf⟩ k hk=>let ⟨i,hi,hk⟩:=(hf k).1 hk; (atA _ i).bnd (h.1 i hi) k hk

section
variable {g:World} {T T' : Nat→Prop} {w w' : World} {L:List Z4} {i:Nat} {A B:Z4}

theorem Y2i {ix:List Nat} (h:ix.Nodup) {i j:Nat} (hi:i < ix.length) (hj:j < ix.length) (e:ix[i]=ix[j]):i=j:=by
  rcases Nat.lt_trichotomy i j with hl | hl | hl
  · have:=List.pairwise_iff_getElem.1 h i j hi hj hl
    exact absurd e this
  · exact hl
  · have:=List.pairwise_iff_getElem.1 h j i hj hi hl
    exact absurd e.symm this

def ixOk (n:Nat):List Nat→Bool
  | []=>true
  | i::r=>Nat.blt i n&&r.all (fun j => !Nat.beq i j)&&ixOk n r
theorem Q5e {n:Nat} : ∀ {ix:List Nat},ixOk n ix=true → ∀ i ∈ ix,i < n
  | [],_,i,hi=>by cases hi
  | a::r,h,i,hi=>by
    simp only [ixOk,Bool.and_eq_true] at h
    rcases List.mem_cons.1 hi with rfl | hi
    · exact Nat.le_of_ble_eq_true h.1.1
    · exact Q5e h.2 i hi
theorem Q3j {n:Nat} : ∀ {ix:List Nat},ixOk n ix=true→ix.Nodup
  | [],_=>List.nodup_nil
  | a::r,h=>by
    simp only [ixOk,Bool.and_eq_true,List.all_eq_true] at h
    refine List.nodup_cons.2 ⟨fun hm => ?_,Q3j h.2⟩
    have:=h.1.2 a hm
    simp at this

theorem Fam.sel {fs:Nat→Nat→Prop} {ix:List Nat} (h:Fam T w L fs) (hi : ∀ i ∈ ix,i < X1 L) (hn:ix.Nodup):Fam T w (selL L ix) (fun j=>fs (ix.getD j 0)):=by
  refine⟨fun j hj => ?_,fun a b k ha hb h1 h2 => ?_⟩
  · rw [I9] at hj
    rw [atA_sel L ix j hj]
    have:=h.1 ix[j] (hi _ (List.getElem_mem hj))
    simpa [List.getD_eq_getElem?_getD,hj] using this
  · rw [I9] at ha hb
    simp only [List.getD_eq_getElem?_getD,ha,hb,List.getElem?_eq_getElem,Option.getD_some] at h1 h2
    exact Y2i hn ha hb (h.2 _ _ k (hi _ (List.getElem_mem ha)) (hi _ (List.getElem_mem hb)) h1 h2)

theorem Sep.sel (h:Sep g T w L) (ix:List Nat) (hx:ixOk (X1 L) ix=true):Sep g T w (selL L ix):=by
  obtain⟨h1,h2,h3,h4,fs,h5,h6⟩:=h
  refine⟨h1,h2,h3,h4,_,h5.sel (Q5e hx) (Q3j hx),fun j k hj hk => ?_⟩
  rw [I9] at hj
  simp only [List.getD_eq_getElem?_getD,hj,List.getElem?_eq_getElem,Option.getD_some] at hk
  exact h6 _ k (Q5e hx _ (List.getElem_mem hj)) hk

theorem Sep.bun (h:Sep g T w L) (rest ix:List Nat) (hx:ixOk (X1 L) (ix++rest)=true):Sep g T w (Q3 (selL L rest)::selL L ix):=by
  obtain⟨h1,h2,h3,h4,fs,h5,h6⟩:=h
  have hlt:=Q5e hx
  have hnd:=Q3j hx
  have n1:=(List.nodup_append.1 hnd).1
  have n2:=(List.nodup_append.1 hnd).2.1
  have n3:=(List.nodup_append.1 hnd).2.2
  have f1:=h5.sel (ix:=rest) (fun i hi=>hlt i (by simp [hi])) n2
  have f2:=h5.sel (ix:=ix) (fun i hi=>hlt i (by simp [hi])) n1
  have g1 : ∀ {jx:List Nat} {j:Nat},j < jx.length→jx.getD j 0 ∈ jx:=fun {jx j} hj=>by simp [List.getD_eq_getElem?_getD,hj]
  have hr : ∀ {j:Nat},j < rest.length→rest.getD j 0 < X1 L:=fun hj=>hlt _ (List.mem_append.2 (.inr (g1 hj)))
  have hx' : ∀ {j:Nat},j < ix.length→ix.getD j 0 < X1 L:=fun hj=>hlt _ (List.mem_append.2 (.inl (g1 hj)))
  refine⟨h1,h2,h3,h4,fun j k=>match j with | 0 => ∃ i,i < X1 (selL L rest)∧fs (rest.getD i 0) k | j+1=>fs (ix.getD j 0) k,⟨fun j hj => ?_,fun a b k ha hb x1 x2 => ?_⟩,fun j k hj hk => ?_⟩
  · cases j with
    | zero=>exact⟨_,f1,fun k=>Iff.rfl⟩
    | succ j=>exact f2.1 j (by simpa [X1] using hj)
  · cases a with
    | zero=>cases b with
      | zero=>rfl
      | succ b =>
        exfalso
        obtain⟨i,hi,x1⟩:=x1
        have hi' : i < rest.length:=by simpa [I9] using hi
        have hb' : b < ix.length:=by simpa [X1,I9] using hb
        have e:=h5.2 _ _ k (hr hi') (hx' hb') x1 x2
        exact n3 _ (g1 hb') _ (g1 hi') e.symm
    | succ a=>cases b with
      | zero =>
        exfalso
        obtain⟨i,hi,x2⟩:=x2
        have hi' : i < rest.length:=by simpa [I9] using hi
        have ha' : a < ix.length:=by simpa [X1,I9] using ha
        have e:=h5.2 _ _ k (hx' ha') (hr hi') x1 x2
        exact n3 _ (g1 ha') _ (g1 hi') e
      | succ b=>rw [f2.2 a b k (by simpa [X1] using ha) (by simpa [X1] using hb) x1 x2]
  · cases j with
    | zero =>
      obtain⟨i,hi,hk⟩:=hk
      have hi' : i < rest.length:=by simpa [I9] using hi
      exact h6 _ k (hr hi') hk
    | succ j =>
      have hj' : j < ix.length:=by simpa [X1,I9] using hj
      exact h6 _ k (hx' hj') hk
theorem Sep.unb {C M:List Z4} (h:Sep g T w (Q3 C::M)):Sep g T w (C++M):=by
  obtain⟨h1,h2,h3,h4,fs,h5,h6⟩:=h
  obtain⟨gs,f1,f2⟩:=h5.1 0 (by simp [X1])
  have hM : ∀ j,j < X1 M→j+1 < X1 (Q3 C::M):=fun j hj=>by simp [X1]; omega
  have h0:0 < X1 (Q3 C::M):=by simp [X1]
  refine⟨h1,h2,h3,h4,fun j k=>if j < X1 C then gs j k else fs (j - X1 C+1) k,⟨fun j hj => ?_,fun a b k ha hb x1 x2 => ?_⟩,fun j k hj hk => ?_⟩
  · rw [Q4r] at hj
    rw [Y0j]
    by_cases h:j < X1 C
    · simp only [h,if_true]; exact f1.1 j h
    · simp only [h,if_false]; exact h5.1 (j - X1 C+1) (hM _ (by omega))
  · rw [Q4r] at ha hb
    by_cases h:a < X1 C <;> by_cases h' : b < X1 C <;> simp only [h,h',if_true,if_false] at x1 x2
    · exact f1.2 a b k h h' x1 x2
    · have e:=h5.2 0 (b - X1 C+1) k h0 (hM _ (by omega)) ((f2 k).2 ⟨a,h,x1⟩) x2
      omega
    · have e:=h5.2 (a - X1 C+1) 0 k (hM _ (by omega)) h0 x1 ((f2 k).2 ⟨b,h',x2⟩)
      omega
    · have e:=h5.2 (a - X1 C+1) (b - X1 C+1) k (hM _ (by omega)) (hM _ (by omega)) x1 x2
      omega
  · rw [Q4r] at hj
    by_cases h:j < X1 C <;> simp only [h,if_true,if_false] at hk
    · exact h6 0 k h0 ((f2 k).2 ⟨j,h,hk⟩)
    · exact h6 _ k (hM _ (by omega)) hk

theorem Sep.get (h:Sep g T w L) (i:Nat) (hi:Nat.blt i (X1 L)=true) : ∃ F,(atA L i).P T w F ∧ ∀ k,F k → ¬ T k:=by
  obtain⟨h1,h2,h3,h4,fs,h5,h6⟩:=h
  have hi' : i < X1 L:=Nat.le_of_ble_eq_true hi
  exact⟨fs i,h5.1 i hi',fun k hk=>h6 i k hi' hk⟩

theorem Sep.keep {M:Nat→Prop} (h:Sep g T w L) (i:Inn w.heap.size M T w T' w') (hM : ∀ k,¬ M k):Sep g T' w' L:=by
  obtain⟨h1,h2,h3,h4,fs,h5,h6⟩:=h
  have hb : ∀ i k,i < X1 L→fs i k→k < w.heap.size:=fun i k hi hk=>(atA L i).bnd (h5.1 i hi) k hk
  refine⟨i.ch.os.trans h1,i.ch.tape.trans h2,i.ch.output.trans h3,i.lt,fs,h5.move (fun k hk=>(i.imm k hk).1) (fun k hk => ?_),fun j k hj hk ht=>h6 j k hj hk (i.bd k (hb j k hj hk) ht)⟩
  rcases hk with hk | ⟨j,hj,hk⟩
  · exact(i.imm k hk).2
  · exact i.ch.same k (hb j k hj hk) (fun hh=>hh.elim (fun hh=>absurd (hb j k hj hk) (by omega)) (hM k))

theorem Sep.put {M:Nat→Prop} (h:Sep g T w L) (i:Nat) (hi:Nat.blt i (X1 L)=true) (inn:Inn w.heap.size M T w T' w')
    (hx : ∀ F,(atA L i).P T w F→(∀ k,F k → ¬ T k)→(∀ k,M k→F k) ∧ ∃ F',B.P T' w' F' ∧ ∀ k,F' k→(F k ∨ w.heap.size≤k) ∧ ¬ T' k):Sep g T' w' (C6 L i B):=by
  obtain⟨h1,h2,h3,h4,fs,h5,h6⟩:=h
  have hi' : i < X1 L:=Nat.le_of_ble_eq_true hi
  have hb : ∀ i k,i < X1 L→fs i k→k < w.heap.size:=fun i k hi hk=>(atA L i).bnd (h5.1 i hi) k hk
  obtain⟨hM,F',p1,p2⟩:=hx (fs i) (h5.1 i hi') (fun k hk=>h6 i k hi' hk)
  have hsame : ∀ j k,j < X1 L→j ≠ i→fs j k→w'.heap[k]? = w.heap[k]? := fun j k hj hne hk =>
    inn.ch.same k (hb j k hj hk) (fun hh=>hh.elim (fun hh=>absurd (hb j k hj hk) (by omega)) (fun hm=>hne (h5.2 j i k hj hi' hk (hM k hm))))
  refine⟨inn.ch.os.trans h1,inn.ch.tape.trans h2,inn.ch.output.trans h3,inn.lt,fun j k=>if j=i then F' k else fs j k,⟨fun j hj => ?_,fun a b k ha hb' x1 x2 => ?_⟩,fun j k hj hk => ?_⟩
  · rw [D8] at hj
    rw [Z0j L i j B hi']
    by_cases e:j=i
    · simp only [e,if_true]; exact p1
    · simp only [e,if_false]
      exact(atA L j).loc (h5.1 j hj) (fun k hk=>(inn.imm k hk).1) (fun k hk=>hk.elim (fun hk=>(inn.imm k hk).2) (hsame j k hj e))
  · rw [D8] at ha hb'
    by_cases ea:a=i <;> by_cases eb:b=i <;> simp only [ea,eb,if_true,if_false] at x1 x2
    · omega
    · rcases (p2 k x1).1 with hf | hf
      · exact absurd (h5.2 b i k hb' hi' x2 hf) eb
      · have:=hb b k hb' x2; omega
    · rcases (p2 k x2).1 with hf | hf
      · exact absurd (h5.2 a i k ha hi' x1 hf) ea
      · have:=hb a k ha x1; omega
    · exact h5.2 a b k ha hb' x1 x2
  · rw [D8] at hj
    by_cases e:j=i <;> simp only [e,if_true,if_false] at hk
    · exact(p2 k hk).2
    · exact fun ht=>h6 j k hj hk (inn.bd k (hb j k hj hk) ht)

theorem Sep.cons {M:Nat→Prop} (h:Sep g T w L) (inn:Inn w.heap.size M T w T' w') (hM : ∀ k,¬ M k) {F:Nat→Prop} (hB:B.P T' w' F) (hF : ∀ k,F k→w.heap.size≤k ∧ ¬ T' k):Sep g T' w' (B::L):=by
  have h' := h.keep inn hM
  obtain⟨a1,a2,a3,a4,gs,a5,a6⟩:=h
  obtain⟨h1,h2,h3,h4,fs,h5,h6⟩:=h'
  have hb : ∀ i k,i < X1 L→gs i k→k < w.heap.size:=fun i k hi hk=>(atA L i).bnd (a5.1 i hi) k hk
  have a5' : Fam T' w' L gs:=a5.move (fun k hk=>(inn.imm k hk).1) (fun k hk=>by
    rcases hk with hk | ⟨j,hj,hk⟩
    · exact(inn.imm k hk).2
    · exact inn.ch.same k (hb j k hj hk) (fun hh=>hh.elim (fun hh=>absurd (hb j k hj hk) (by omega)) (hM k)))
  refine⟨h1,h2,h3,h4,fun j k=>match j with | 0=>F k | j+1=>gs j k,⟨fun j hj => ?_,fun a b k ha hb' x1 x2 => ?_⟩,fun j k hj hk => ?_⟩
  · cases j with
    | zero=>exact hB
    | succ j=>exact a5'.1 j (by simpa [X1] using hj)
  · cases a with
    | zero=>cases b with
      | zero=>rfl
      | succ b=>have h1:=hb b k (by simpa [X1] using hb') x2; have h2:=(hF k x1).1; omega
    | succ a=>cases b with
      | zero=>have h1:=hb a k (by simpa [X1] using ha) x1; have h2:=(hF k x2).1; omega
      | succ b=>rw [a5'.2 a b k (by simpa [X1] using ha) (by simpa [X1] using hb') x1 x2]
  · cases j with
    | zero=>exact(hF k hk).2
    | succ j =>
      have hj' : j < X1 L:=by simpa [X1] using hj
      exact fun ht=>a6 j k hj' hk (inn.bd k (hb j k hj' hk) ht)

theorem Sep.imp (h:Sep g T w L) (i:Nat) (hi:Nat.blt i (X1 L)=true) (hx : ∀ F,(atA L i).P T w F→B.P T w F):Sep g T w (C6 L i B) :=
  h.put i hi (Inn.refl h.lt (Nat.le_refl _):Inn w.heap.size noB T w T w) fun F hF hn=>⟨fun k hk=>hk.elim,F,hx F hF,fun k hk=>⟨.inl hk,hn k hk⟩⟩
theorem Sep.freeze (h:Sep g T w L) (i:Nat) (hi:Nat.blt i (X1 L)=true) (S:Nat→Prop) (hx : ∀ F,(atA L i).P T w F → ∀ k,S k→F k):Sep g (fun k=>T k ∨ S k) w (C6 L i empA):=by
  obtain⟨h1,h2,h3,h4,fs,h5,h6⟩:=h
  have hi' : i < X1 L:=Nat.le_of_ble_eq_true hi
  have hS:=hx (fs i) (h5.1 i hi')
  refine⟨h1,h2,h3,fun k hk=>hk.elim (h4 k) (fun hk=>(atA L i).bnd (h5.1 i hi') k (hS k hk)),fun j k=>if j=i then False else fs j k,⟨fun j hj => ?_,fun a b k ha hb' x1 x2 => ?_⟩,fun j k hj hk => ?_⟩
  · rw [D8] at hj
    rw [Z0j L i j _ hi']
    by_cases e:j=i
    · simp only [e,if_true]; exact fun k hk=>hk
    · simp only [e,if_false]
      exact(atA L j).loc (h5.1 j hj) (fun k hk => .inl hk) (fun k _=>rfl)
  · rw [D8] at ha hb'
    by_cases ea:a=i <;> by_cases eb:b=i <;> simp only [ea,eb,if_true,if_false] at x1 x2
    exact h5.2 a b k ha hb' x1 x2
  · rw [D8] at hj
    by_cases e:j=i <;> simp only [e,if_true,if_false] at hk
    exact fun ht=>ht.elim (h6 j k hj hk) (fun hs=>e (h5.2 j i k hj hi' hk (hS k hs)))
theorem Sep.two (h:Sep g T w L) (i j:Nat) (hi:ixOk (X1 L) [i,j]=true):Sep g T w (C6 (C6 L j empA) i (Q3 [atA L i,atA L j])):=by
  obtain⟨h1,h2,h3,h4,fs,h5,h6⟩:=h
  have hi' : i < X1 L:=Q5e hi i (by simp)
  have hj' : j < X1 L:=Q5e hi j (by simp)
  have hne:i ≠ j:=by
    have:=Q3j hi
    simp at this
    exact this
  refine⟨h1,h2,h3,h4,fun a k=>if a=i then fs i k ∨ fs j k else if a=j then False else fs a k,⟨fun a ha => ?_,fun a b k ha hb' x1 x2 => ?_⟩,fun a k ha hk => ?_⟩
  · rw [D8,D8] at ha
    rw [Z0j _ i a _ (by rw [D8]; exact hi')]
    by_cases e:a=i
    · simp only [e,if_true]
      refine⟨fun b k=>if b=0 then fs i k else fs j k,⟨fun b hb => ?_,fun a b k ha hb x1 x2 => ?_⟩,fun k=>⟨fun hk => ?_,fun⟨b,hb,hk⟩ => ?_⟩⟩
      · match b,hb with
        | 0,_=>exact h5.1 i hi'
        | 1,_=>exact h5.1 j hj'
        | b+2,hb=>exact absurd (show b+2 < 2 from hb) (by omega)
      · match a,b,ha,hb with
        | 0,0,_,_=>rfl
        | 1,1,_,_=>rfl
        | 0,1,_,_=>exact absurd (h5.2 i j k hi' hj' (by simpa using x1) (by simpa using x2)) hne
        | 1,0,_,_=>exact absurd (h5.2 i j k hi' hj' (by simpa using x2) (by simpa using x1)) hne
        | a+2,_,ha,_=>exact absurd (show a+2 < 2 from ha) (by omega)
        | 0,b+2,_,hb=>exact absurd (show b+2 < 2 from hb) (by omega)
        | 1,b+2,_,hb=>exact absurd (show b+2 < 2 from hb) (by omega)
      · rcases hk with hk | hk
        · exact⟨0,by simp [X1],by simpa using hk⟩
        · exact⟨1,by simp [X1],by simpa using hk⟩
      · by_cases e0:b=0
        · simp only [e0,if_true] at hk; exact .inl hk
        · simp only [e0,if_false] at hk; exact .inr hk
    · simp only [e,if_false]
      rw [Z0j _ j a _ hj']
      by_cases e2:a=j
      · simp only [e2,if_true]; exact fun k hk=>hk
      · simp only [e2,if_false]; exact h5.1 a ha
  · rw [D8,D8] at ha hb'
    by_cases ea:a=i <;> by_cases eb:b=i <;> simp only [ea,eb,if_true,if_false] at x1 x2
    · omega
    · by_cases ej:b=j <;> simp only [ej,if_true,if_false] at x2
      rcases x1 with x1 | x1
      · exact absurd (h5.2 _ _ k hi' hb' x1 x2) (fun h=>eb h.symm)
      · exact absurd (h5.2 _ _ k hj' hb' x1 x2) (fun h=>ej h.symm)
    · by_cases ej:a=j <;> simp only [ej,if_true,if_false] at x1
      rcases x2 with x2 | x2
      · exact absurd (h5.2 _ _ k hi' ha x2 x1) (fun h=>ea h.symm)
      · exact absurd (h5.2 _ _ k hj' ha x2 x1) (fun h=>ej h.symm)
    · by_cases ej:a=j <;> by_cases ej' : b=j <;> simp only [ej,ej',if_true,if_false] at x1 x2
      exact h5.2 a b k ha hb' x1 x2
  · rw [D8,D8] at ha
    by_cases ea:a=i <;> simp only [ea,if_true,if_false] at hk
    · exact hk.elim (h6 i k hi') (h6 j k hj')
    · by_cases ej:a=j <;> simp only [ej,if_true,if_false] at hk
      exact h6 a k ha hk
end
end Go.Proofs.YtecakklofhfphaaGreatDoor
